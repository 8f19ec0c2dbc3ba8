/-
  Walks of functions: what each computes, as a plain function.
-/
import Derived.Test.YtjflombnfhlkaaaGreatDoorQGenXa
import Derived.Test.YtjflombnfhlkaaaGreatDoorAvAwk10
noncomputable section
namespace Go.Av
open Go.Proofs Go.RowKit
set_option linter.unusedSectionVars false
set_option linter.unusedVariables false
set_option linter.unusedSimpArgs false
set_option maxRecDepth 100000
def zq (a0_:List qb) (a1_:Int) (n1:Int):Nat→Option Unit
 |0=>none
 |K+1=>
  (if n1>a1_ then
  (idx a0_ n1).bind fun x6=>
  (idx a0_ (w64 (n1-1))).bind fun x7=>
  (xP x6 x7).bind fun r8=>
  some (decide (r8<0))
  else
  some false:Option Bool).bind fun b9=>
  if b9=true then
  none
  else
  some ()
def qM (N:Nat) (a0_:List qb) (a1_:Int) (a2_:Int):Nat→Int→Option Unit
 |0,_=>none
 |K+1,n1=>
  if n1<a2_ then
  (zq a0_ a1_ n1 N).bind fun _=>
  qM N a0_ a1_ a2_ K (w64 (n1+1))
  else
  some ()
def kw (N:Nat) (a0_:List qb) (a1_:Int) (a2_:Int):Option Unit:=
 (qM N a0_ a1_ a2_ N (w64 (a1_+1))).bind fun _=>
 some ()
theorem vG (N:Nat) (a0_:List qb) (a1_:Int) (a2_:Int) (h:kw N a0_ a1_ a2_=some ()):qf Tryz.prog (.fn 200) (kAv a0_ [.i a1_,.i a2_,.func (.func 125) [] []]) [] (.tuple []) []:=by
 unfold kw at h
 refine Goes.fnH Tryz.func200 rfl rfl (m:=53) rfl (rs:=[]) rfl (l:=(kD a0_ (kBL a1_ a2_ [(3,.func (.func 125) [] [])]))) rfl ?_
 intro B hB
 refine Goes.subQ ?_
 refine sh fol (kD a0_ (kBL a1_ a2_ ((3,.func (.func 125) [] [])::(kBR (w64 (a1_+1)))))) ?_
 refine Goes.block ?_
 obtain⟨r2,g2,h⟩:=bnd h
 refine Goes.imp (Q:=fun x s'=>(x= .exit 0∧()=r2∧Sub s' (ofG 53 [],[]))) ?_ ?_
 ·refine Goes.loopS (fun M s=> ∃(n1:Int),s=(ofG 53 (kD a0_ (kBL a1_ a2_ ((3,.func (.func 125) [] [])::(kBR n1)))),[])∧qM N a0_ a1_ a2_ M n1=some r2) ?_ (m:=N) ⟨_,rfl,g2⟩
  rintro M s ⟨n1,rfl,g2⟩
  cases M with
  |zero=>simp only[qM]at g2;cases g2
  |succ M=>
   rw[qM]at g2
   refine sq ?_
   refine sh fol (kD a0_ (kBL a1_ a2_ [(3,.func (.func 125) [] []),(8,.i n1),(14,.bool (decide (n1<a2_)))])) ?_
   refine ihD g2 (fun c3 g2=>?_) (fun c3 g2=>?_)
   ·refine Goes.skip ?_
    refine sq (Goes.block ?_)
    refine sh fol (kD a0_ (kBL a1_ a2_ [(3,.func (.func 125) [] []),(8,.i n1),(9,.i n1)])) ?_
    refine Goes.block ?_
    obtain⟨r4,g4,g2⟩:=bnd g2
    refine Goes.imp (Q:=fun x s'=>(x= .exit 2∧()=r4∧Sub s' (ofG 53 (kD a0_ (kBL a1_ a2_ ((3,.func (.func 125) [] [])::(kBR n1)))),[]))) ?_ ?_
    ·refine Goes.loopS (fun M s=>s=(ofG 53 (kD a0_ (kBL a1_ a2_ [(3,.func (.func 125) [] []),(8,.i n1),(9,.i n1)])),[])∧zq a0_ a1_ n1 M=some r4) ?_ (m:=N) ⟨rfl,g4⟩
     rintro M s ⟨rfl,g4⟩
     cases M with
     |zero=>simp only[zq]at g4;cases g4
     |succ M=>
      rw[zq]at g4
      refine sq ?_
      refine sq ?_
      obtain⟨b9,g_v10,g4⟩:=bnd g4
      refine Goes.cut (s':=(ofG 53 (kD a0_ (kBL a1_ a2_ [(3,.func (.func 125) [] []),(8,.i n1),(9,.i n1),(34,.bool b9)])),[])) ?_ ?_
      ·rcases wyD g_v10 with⟨c5,g_v10⟩|⟨c5,g_v10⟩
       ·obtain⟨x6,e_x6,g_v10⟩:=bnd g_v10
        obtain⟨x7,e_x7,g_v10⟩:=bnd g_v10
        obtain⟨r8,e_r8,g_v10⟩:=bnd g_v10
        obtain rfl:=si g_v10
        exact tr fol [3,7,8,12,13,14] (kD a0_ (kBL a1_ a2_ [(3,.func (.func 125) [] []),(8,.i n1),(9,.i n1),(34,.bool (decide (r8<0)))])) (ac (gw c5) (ac (iv xn qa e_x6) (ac (la qak qa e_x6) (ac (iv xn qa e_x7) (ac (la qak qa e_x7) (ac (cv (qb1 x6 x7 e_r8)) az))))))
       ·obtain rfl:=si g_v10
        exact tr fol [3] (kD a0_ (kBL a1_ a2_ [(3,.func (.func 125) [] []),(8,.i n1),(9,.i n1),(34,.bool false)])) (ac (gw c5) az)
      refine ihB g4 (fun c11 g4=>?_) (fun c11 g4=>?_)
      ·cases g4
      ·refine Goes.exit ?_
       obtain rfl:=si g4
       exact⟨rfl,rfl,(Sub.keep [0,1,2,3,8] rfl rfl)⟩
    rintro x s' ⟨rfl,rfl,hsub⟩
    refine Goes.sub hsub ?_
    refine gh fol (kD a0_ (kBL a1_ a2_ ((3,.func (.func 125) [] [])::(kBR (w64 (n1+1)))))) ?_
    exact⟨M,(ofG 53 (kD a0_ (kBL a1_ a2_ ((3,.func (.func 125) [] [])::(kBR (w64 (n1+1)))))),[]),Nat.lt_succ_self _,(Sub.refl _),_,rfl,g2⟩
   ·refine Goes.exit ?_
    obtain rfl:=si g2
    exact⟨rfl,rfl,(Sub.keep [] rfl rfl)⟩
 rintro x s' ⟨rfl,rfl,hsub⟩
 exact⟨_,hsub,(gh2 [] (qc0.refl _ _))⟩
def qY (N:Nat) (a0_:List qb) (a1_:Int):Nat→Int→Int→Option Int
 |0,_,_=>none
 |K+1,n1,n2=>
  if n2≤a1_ then
  (kw N a0_ n1 n2).bind fun _=>
  qY N a0_ a1_ K n2 (w64 (n2+20))
  else
  some n1
def z8 (a1_:Int) (n8:Int):Nat→Option Unit
 |0=>none
 |K+1=>
  if(w64 (2*n8))≤a1_ then
  none
  else
  some ()
def qZ (N:Nat) (a1_:Int):Nat→Int→Option Unit
 |0,_=>none
 |K+1,n8=>
  if n8<a1_ then
  (z8 a1_ n8 N).bind fun _=>
  ((if(w64 (0+n8))<a1_ then
  none
  else
  some ():Option Unit)).bind fun _=>
  qZ N a1_ K (w64 (n8*2))
  else
  some ()
def jG (N:Nat) (a0_:List qb) (a1_:Int):Option Unit:=
 (qY N a0_ a1_ N 0 20).bind fun n3=>
 (kw N a0_ n3 a1_).bind fun _=>
 (qZ N a1_ N 20).bind fun _=>
 some ()
theorem qaS (N:Nat) (a0_:List qb) (a1_:Int) (h:jG N a0_ a1_=some ()):qf Tryz.prog (.fn 170) (kAv a0_ [.i a1_,.func (.func 125) [] []]) [] (.tuple []) []:=by
 unfold jG at h
 refine Goes.fnH Tryz.func170 rfl rfl (m:=63) rfl (rs:=[]) rfl (l:=(kD a0_ [(1,.i a1_),(2,.func (.func 125) [] [])])) rfl ?_
 intro B hB
 refine Goes.subQ ?_
 refine sh fol (kD a0_ ((1,.i a1_)::(2,.func (.func 125) [] [])::(kBm []))) ?_
 refine sh fol (kD a0_ ((1,.i a1_)::(2,.func (.func 125) [] [])::(kBm [(7,.i 0),(8,.i 20)]))) ?_
 refine sq (Goes.block ?_)
 obtain⟨r4,g4,h⟩:=bnd h
 refine Goes.imp (Q:=fun x s'=>(x= .exit 0∧ ∃n3,n3=r4∧Sub s' (ofG 63 (kD a0_ ((1,.i a1_)::(2,.func (.func 125) [] [])::(kBm [(7,.i n3)]))),[]))) ?_ ?_
 ·refine Goes.loopS (fun M s=> ∃(n1:Int) (n2:Int),s=(ofG 63 (kD a0_ ((1,.i a1_)::(2,.func (.func 125) [] [])::(kBm (kAH n1 n2 [])))),[])∧qY N a0_ a1_ M n1 n2=some r4) ?_ (m:=N) ⟨_,_,rfl,g4⟩
  rintro M s ⟨n1,n2,rfl,g4⟩
  cases M with
  |zero=>simp only[qY]at g4;cases g4
  |succ M=>
   rw[qY]at g4
   refine sq ?_
   refine sh fol (kD a0_ ((1,.i a1_)::(2,.func (.func 125) [] [])::(kBm (kAH n1 n2 [(13,.bool (decide (n2≤a1_)))])))) ?_
   refine ihD g4 (fun c5 g4=>?_) (fun c5 g4=>?_)
   ·refine Goes.skip ?_
    refine Goes.block ?_
    obtain⟨_,e_r6,g4⟩:=bnd g4
    refine sq (gr fol [4] (kD a0_ ((1,.i a1_)::(2,.func (.func 125) [] [])::(kBm (kBR n2)))) (ac (hs (.callH 200 (kAv a0_ [.i n1,.i n2,.func (.func 125) [] []]) [] [] (.tuple []) []) (ji [] [] (vG N a0_ n1 n2 e_r6) .nil rfl rfl .nil (rc (.same (qd qa _)) (rc (.same nI) (rc (.same nI) (rc (.same (qx.func sn sn)) rn)))) (.same (qx.tuple sn)) rfl)) az) ?_)
    refine sh fol (kD a0_ ((1,.i a1_)::(2,.func (.func 125) [] [])::(kBm ((7,.i n2)::(kBR n2))))) ?_
    refine gh fol (kD a0_ ((1,.i a1_)::(2,.func (.func 125) [] [])::(kBm (kAH n2 (w64 (n2+20)) [])))) ?_
    exact⟨M,(ofG 63 (kD a0_ ((1,.i a1_)::(2,.func (.func 125) [] [])::(kBm (kAH n2 (w64 (n2+20)) [])))),[]),Nat.lt_succ_self _,(Sub.refl _),_,_,rfl,g4⟩
   ·refine Goes.exit ?_
    obtain rfl:=si g4
    exact⟨rfl,_,rfl,(Sub.keep [0,1,2,6,7] rfl rfl)⟩
 rintro x s' ⟨rfl,n3,rfl,hsub⟩
 refine Goes.sub hsub ?_
 obtain⟨_,e_r7,h⟩:=bnd h
 refine sq (gr fol [4] (kD a0_ ((1,.i a1_)::(2,.func (.func 125) [] [])::(kBm []))) (ac (hs (.callH 200 (kAv a0_ [.i n3,.i a1_,.func (.func 125) [] []]) [] [] (.tuple []) []) (ji [] [] (vG N a0_ n3 a1_ e_r7) .nil rfl rfl .nil (rc (.same (qd qa _)) (rc (.same nI) (rc (.same nI) (rc (.same (qx.func sn sn)) rn)))) (.same (qx.tuple sn)) rfl)) az) ?_)
 refine Goes.block ?_
 obtain⟨r9,g9,h⟩:=bnd h
 refine Goes.imp (Q:=fun x s'=>(x= .exit 2∧()=r9∧Sub s' (ofG 63 [],[]))) ?_ ?_
 ·refine Goes.loopS (fun M s=> ∃(n8:Int),s=(ofG 63 (kD a0_ ((1,.i a1_)::(2,.func (.func 125) [] [])::(kBj n8))),[])∧qZ N a1_ M n8=some r9) ?_ (m:=N) ⟨_,rfl,g9⟩
  rintro M s ⟨n8,rfl,g9⟩
  cases M with
  |zero=>simp only[qZ]at g9;cases g9
  |succ M=>
   rw[qZ]at g9
   refine sq ?_
   refine sh fol (kD a0_ [(1,.i a1_),(2,.func (.func 125) [] []),(6,.i n8),(30,.bool (decide (n8<a1_)))]) ?_
   refine ihD g9 (fun c10 g9=>?_) (fun c10 g9=>?_)
   ·refine Goes.skip ?_
    refine Goes.block ?_
    refine sh fol (kD a0_ ((1,.i a1_)::(2,.func (.func 125) [] [])::(kBD n8 (kBR (w64 (2*n8)))))) ?_
    refine sq (Goes.block ?_)
    obtain⟨r11,g11,g9⟩:=bnd g9
    refine Goes.imp (Q:=fun x s'=>(x= .exit 4∧()=r11∧Sub s' (ofG 63 (kD a0_ ((1,.i a1_)::(2,.func (.func 125) [] [])::(kBD n8 []))),[]))) ?_ ?_
    ·refine Goes.loopS (fun M s=>s=(ofG 63 (kD a0_ ((1,.i a1_)::(2,.func (.func 125) [] [])::(kBD n8 (kBR (w64 (2*n8)))))),[])∧z8 a1_ n8 M=some r11) ?_ (m:=N) ⟨rfl,g11⟩
     rintro M s ⟨rfl,g11⟩
     cases M with
     |zero=>simp only[z8]at g11;cases g11
     |succ M=>
      rw[z8]at g11
      refine sq ?_
      refine sh fol (kD a0_ ((1,.i a1_)::(2,.func (.func 125) [] [])::(kBD n8 [(8,.i (w64 (2*n8))),(35,.bool (decide ((w64 (2*n8))≤a1_)))]))) ?_
      refine ihD g11 (fun c12 g11=>?_) (fun c12 g11=>?_)
      ·cases g11
      ·refine Goes.exit ?_
       obtain rfl:=si g11
       exact⟨rfl,rfl,(Sub.keep [0,1,2,6,7] rfl rfl)⟩
    rintro x s' ⟨rfl,rfl,hsub⟩
    refine Goes.sub hsub ?_
    refine sq ?_
    refine sh fol (kD a0_ ((1,.i a1_)::(2,.func (.func 125) [] [])::(kBD n8 [(9,.i (w64 (0+n8)))]))) ?_
    refine sh fol (kD a0_ ((1,.i a1_)::(2,.func (.func 125) [] [])::(kBD n8 [(9,.i (w64 (0+n8))),(54,.bool (decide ((w64 (0+n8))<a1_)))]))) ?_
    obtain⟨r13,g13,g9⟩:=bnd g9
    refine Goes.imp (Q:=fun x s'=>(x= .normal∧()=r13∧Sub s' (ofG 63 (kD a0_ ((1,.i a1_)::(2,.func (.func 125) [] [])::(kBj n8))),[]))) ?_ ?_
    ·refine ihD g13 (fun c14 g13=>?_) (fun c14 g13=>?_)
     ·cases g13
     ·refine Goes.skip ?_
      obtain rfl:=si g13
      exact⟨rfl,rfl,(Sub.keep [0,1,2,6] rfl rfl)⟩
    rintro x s' ⟨rfl,rfl,hsub⟩
    refine Goes.sub hsub ?_
    refine gh fol (kD a0_ ((1,.i a1_)::(2,.func (.func 125) [] [])::(kBj (w64 (n8*2))))) ?_
    exact⟨M,(ofG 63 (kD a0_ ((1,.i a1_)::(2,.func (.func 125) [] [])::(kBj (w64 (n8*2))))),[]),Nat.lt_succ_self _,(Sub.refl _),_,rfl,g9⟩
   ·refine Goes.exit ?_
    obtain rfl:=si g9
    exact⟨rfl,rfl,(Sub.keep [] rfl rfl)⟩
 rintro x s' ⟨rfl,rfl,hsub⟩
 exact⟨_,hsub,(gh2 [] (qc0.refl _ _))⟩
def zH (N:Nat) (a0_:List qb):Option Unit:=
 (jG N a0_ (a0_.length:Int)).bind fun _=>
 some ()
theorem qaP (N:Nat) (a0_:List qb) (h:zH N a0_=some ()):qf Tryz.prog (.fn 124) (kAv a0_ [.func (.func 125) [] []]) [] (.tuple []) []:=by
 unfold zH at h
 refine Goes.fnH Tryz.func124 rfl rfl (m:=9) rfl (rs:=[]) rfl (l:=(kD a0_ [(1,.func (.func 125) [] [])])) rfl ?_
 intro B hB
 refine Goes.subQ ?_
 obtain⟨_,e_r1,h⟩:=bnd h
 refine gr fol [4] [] (ac (hs (.callH 170 (kAv a0_ [.i (a0_.length:Int),.func (.func 125) [] []]) [] [] (.tuple []) []) (ji [] [] (qaS N a0_ (a0_.length:Int) e_r1) .nil rfl rfl .nil (rc (.same (qd qa _)) (rc (.same nI) (rc (.same (qx.func sn sn)) rn))) (.same (qx.tuple sn)) rfl)) az) ?_
 exact⟨_,Sub.refl _,(gh2 [] (qc0.refl _ _))⟩
def zu (a0_:List qg) (a1_:Option (List StateT)):Option ((Option (List StateT))×Int×(List qc)):=
 ((match a1_ with
 |none=>
 some ((none:Option (List StateT)),decide (0=0))
 |some l4=>
 some ((some l4),decide ((l4.length:Int)=0))):Option ((Option (List StateT))×Bool)).bind fun(o5,b6)=>
 if b6=true then
 some (o5,0,[])
 else
 ((match o5 with
 |none=>
 (idx ([]:List StateT) (w64 (0-1))).bind fun x10=>
 some ((none:Option (List StateT)),x10.register.Day,x10.register.Slings)
 |some l9=>
 (idx l9 (w64 ((l9.length:Int)-1))).bind fun x11=>
 some ((some l9),x11.register.Day,x11.register.Slings)):Option ((Option (List StateT))×Int×(List qc))).bind fun(o12,n13,l14)=>
 some (o12,n13,l14)
theorem qbw (a0_:List qg) (a1_:Option (List StateT)) {o1:Option (List StateT)} {n2:Int} {l3:List qc} (h:zu a0_ a1_=some (o1,n2,l3)):qf Tryz.prog (.fn 81) [.ptr 0 0] (kA a0_ a1_ []) (.agg (kBN n2 l3)) (kA a0_ o1 []):=by
 unfold zu at h
 refine Goes.fnH Tryz.func81 rfl rfl (m:=23) rfl (rs:=[.cell 2 31]) rfl (l:=[(0,.ptr 0 0)]) rfl ?_
 intro B hB
 refine sg fol [(0,.ptr 0 0),(2,.ptr 3 0)] (kA a0_ a1_ [bZ]) ?_
 refine sq ?_
 refine sq ?_
 obtain⟨⟨o5,b6⟩,g_v7,h⟩:=bnd h
 refine Goes.cutS (s':=(ofG 23 [(0,.ptr 0 0),(2,.ptr 3 0),(8,.bool b6)],(kA a0_ o5 [bZ]))) ?_ ?_
 ·rcases a1_ with _|l4
  ·try dsimp only at g_v7
   simp only[Option.some.injEq,Prod.mk.injEq]at g_v7
   obtain⟨rfl,rfl⟩:=g_v7
   exact qm.sub (qm.rg fol [(0,.ptr 0 0),(2,.ptr 3 0),(8,.bool (decide (0=0)))] (kBh a0_ (kAP a0_ [.cells ((hof (none:Option (List StateT))).flatMap jl.c),bZ]))) (Sub.norm [] [some 0,some 1,some 2,some 3] (by rw[hB];rfl) rfl (.kp (.kp (.keep (.same nB) .nil))) (.kb rfl (.cells (rc (.gslice rfl) (rc .hs0 rn))) (.ks (.ks (.kb rfl (.same sn) .nil)))))
  ·try dsimp only at g_v7
   simp only[Option.some.injEq,Prod.mk.injEq]at g_v7
   obtain⟨rfl,rfl⟩:=g_v7
   exact qm.sub (qm.rg fol [(0,.ptr 0 0),(2,.ptr 3 0),(8,.bool (decide ((l4.length:Int)=0)))] (kT a0_ l4 (kAT l4 [bZ]))) (Sub.norm [] [some 0,some 1,some 2,some 3] (by rw[hB];rfl) rfl (.kp (.kp (.keep (.same nB) .nil))) (.kb rfl (.cells (rc (.gslice rfl) (rc ((zG.hs1 rfl)) rn))) (.ks (.ks (.kb rfl (.same sn) .nil)))))
 intro _ hsub
 try dsimp only at h
 refine Goes.sub hsub ?_
 refine ihB h (fun c8 h=>?_) (fun c8 h=>?_)
 ·refine sh fol [(2,.ptr 3 0)] ?_
  refine Goes.ret ?_
  simp only[Option.some.injEq,Prod.mk.injEq]at h
  obtain⟨rfl,rfl,rfl⟩:=h
  exact(gh2 [.agg [.i 0,.nilslice]] (Sub.norm [] [some 0,some 1,some 2] (by rw[hB];rfl) rfl (.keep (.aggL (rc (.same nI) (rc (.nilv) rn))) .nil) (.kb rfl (.cells (rc (.gslice rfl) (rc (.hs rfl) rn))) (.ks (.ks .nil)))))
 ·refine Goes.skip ?_
  refine sq ?_
  obtain⟨⟨o12,n13,l14⟩,g_v15,h⟩:=bnd h
  refine Goes.cutS (s':=(ofG 23 [(2,.ptr 3 0)],(kA a0_ o12 (kAD n13 l14 [])))) ?_ ?_
  ·rcases o5 with _|l9
   ·try dsimp only at g_v15
    obtain⟨x10,e_x10,g_v15⟩:=bnd g_v15
    simp only[Option.some.injEq,Prod.mk.injEq]at g_v15
    obtain⟨rfl,rfl,rfl⟩:=g_v15
    exact qm.sub (qm.rq fol [10,12] [(2,.ptr 3 0)] (kBh a0_ (kAP a0_ (.cells ((hof (none:Option (List StateT))).flatMap jl.c)::(kAD x10.register.Day x10.register.Slings [])))) (ac (hs (.done (.opt (qo Tryz.prog 163 (.nilslice) (.i (w64 (0-1))))) (.fptr (([]:List StateT).flatMap jl.c) ((w64 (0-1):Int).toNat*3+0))) (qpp e_x10)) (ac (hs (.done (vz Tryz.prog 31 (.fptr (([]:List StateT).flatMap jl.c) ((w64 (0-1):Int).toNat*3+1))) (.agg (kBN x10.register.Day x10.register.Slings))) (ld_vp ag31 (E:=jl) rfl e_x10 rfl rfl)) az))) (Sub.norm [] [some 0,some 1,some 2,some 3] (by rw[hB];rfl) rfl (.kp .nil) (.kb rfl (.cells (rc (.gslice rfl) (rc .hs0 rn))) (.ks (.ks (.kb rfl (.same sn) .nil)))))
   ·try dsimp only at g_v15
    obtain⟨x11,e_x11,g_v15⟩:=bnd g_v15
    simp only[Option.some.injEq,Prod.mk.injEq]at g_v15
    obtain⟨rfl,rfl,rfl⟩:=g_v15
    exact qm.sub (qm.rq fol [10,12] [(2,.ptr 3 0)] (kT a0_ l9 (kAT l9 (kAD x11.register.Day x11.register.Slings []))) (ac (hs (.done (.opt (qo Tryz.prog 163 (.oslice 2 l9.length 3) (.i (w64 ((l9.length:Int)-1))))) (.ptr 2 ((w64 ((l9.length:Int)-1):Int).toNat*3+0))) (qfL qk8 e_x11)) (ac (hs (.run [2] (vz Tryz.prog 31 (.ptr 2 ((w64 ((l9.length:Int)-1):Int).toNat*3+1))) (kT a0_ l9 (kAT l9 [bZ])) (.agg (kBN x11.register.Day x11.register.Slings)) (kT a0_ l9 (kAT l9 [bZ])) false) (ld_pp ag31 (E:=jl) (l:=l9) rfl rfl e_x11 rfl rfl)) az))) (Sub.norm [] [some 0,some 1,some 2,some 3] (by rw[hB];rfl) rfl (.kp .nil) (.kb rfl (.cells (rc (.gslice rfl) (rc ((zG.hs1 rfl)) rn))) (.ks (.ks (.kb rfl (.same sn) .nil)))))
  intro _ hsub
  try dsimp only at h
  refine Goes.sub hsub ?_
  refine Goes.ret ?_
  simp only[Option.some.injEq,Prod.mk.injEq]at h
  obtain⟨rfl,rfl,rfl⟩:=h
  exact(gh2 [.agg (kBN n13 l14)] (Sub.norm [] [some 0,some 1,some 2] (by rw[hB];rfl) rfl (.keep (.aggL (rc (.same nI) (rc (.same (qd qh _)) rn))) .nil) (.kb rfl (.cells (rc (.gslice rfl) (rc (.hs rfl) rn))) (.ks (.ks .nil)))))
def qy (a0_:Int) (a1_:List qc):Option (List qc):=
 (mk 88 (a1_.length:Int) (⟨[],[],0,0,0,0,0,0,false⟩:qc)).bind fun l2=>
 (some (cpy l2 a1_)).bind fun l3=>
 some l3
theorem zO (a0_:Int) (a1_:List qc) {l1:List qc} (h:qy a0_ a1_=some l1):qf Tryz.prog (.fn 82) [.agg (kBN a0_ a1_)] [] (.agg [.i a0_,.slice 0 0 l1.length l1.length 9]) [bS l1]:=by
 unfold qy at h
 refine Goes.fnH Tryz.func82 rfl rfl (m:=16) rfl (rs:=[.cell 2 31]) rfl (l:=[(0,.agg [.i a0_,vl qh a1_])]) rfl ?_
 intro B hB
 refine sg fol (kAV kBW) (kAD a0_ a1_ [bZ]) ?_
 obtain⟨l2,e_l2,h⟩:=bnd h
 refine sq (gq fol [3] (kAV (kA9 l2)) (kAD a0_ a1_ [bZ,bS l2]) (ac (hs (.run [] (xV Tryz.prog 29 (.i (a1_.length:Int)) (.i (a1_.length:Int))) (kAD a0_ a1_ [bZ]) (.slice 2 0 l2.length l2.length 9) (kAD a0_ a1_ [bZ,bS l2]) false) (qjQ qcd (E:=qh) (z:=(⟨[],[],0,0,0,0,0,0,false⟩:qc)) rfl (by kernel_rfl) e_l2 rfl)) az) ?_)
 obtain⟨l3,e_l3,h⟩:=bnd h
 refine sq (gq fol [3] (kAV (kA9 l2)) (kAD a0_ a1_ [bZ,bS l3]) (ac (hs (.run [2] (qb2 Tryz.prog [29,29] (.slice 2 0 l2.length l2.length 9) (vl qh a1_)) (kAD a0_ a1_ [bZ,bS l2]) (.i ((Nat.min a1_.length l2.length:Nat):Int)) (kAD a0_ a1_ [bZ,bS l3]) true) (qj5 qcd (E:=qh) (l:=l2) rfl (qfY (E:=qh) rfl _) (.inl rfl) rfl rfl e_l3 rfl)) az) ?_)
 refine Goes.sub (show Sub (ofG 16 (kAV (kA9 l2)),(kAD a0_ a1_ [bZ,bS l3])) (ofG 16 (kAV (kA9 l3)),(kAD a0_ a1_ [bZ,bS l3]))from(Sub.norm [] [some 0,some 1,some 2] (by rw[hB];rfl) rfl (.kp (.kp (.keep (.sliceE rfl (qgl e_l3)) .nil))) (.kb rfl (.same sn) (.kb rfl (.same sn) (.ks .nil))))) ?_
 refine sg fol kBW (kAD a0_ a1_ [.cells [.i a0_,.slice 2 0 l3.length l3.length 9],bS l3]) ?_
 refine Goes.ret ?_
 obtain rfl:=si h
 exact(gh2 [.agg [.i a0_,.slice 2 0 l3.length l3.length 9]] (Sub.norm [] [some 2] (by rw[hB];rfl) rfl (.keep (.aggL (rc (.same nI) (rc (.slice rfl) rn))) .nil) (.ks .nil)))
def jW (a0_:List qc) (a1_:Int) (a2_:Str) (a3_:Str) (a4_:Int) (a5_:Int) (a6_:Int) (a7_:Int) (a8_:Int) (a9_:Int) (a10_:Bool):Option (List qc):=
 (at' a0_ a1_).bind fun j2=>
 if 1=0 then
 some a0_
 else
 if a1_=(a0_.length:Int)then
 ((match a0_ with
 |[]=>
 some ([(⟨a2_,a3_,a4_,a5_,a6_,a7_,a8_,a9_,a10_⟩:qc)]:List qc)
 |x5::xs6=>
 (app 88 (x5::xs6) [(⟨a2_,a3_,a4_,a5_,a6_,a7_,a8_,a9_,a10_⟩:qc)]).bind fun l7=>
 some l7):Option (List qc)).bind fun l8=>
 some l8
 else
 if(w64 ((a0_.length:Int)+1))>(a0_.length:Int)then
 (ql6 88 a0_ j2 (w64 ((w64 ((a0_.length:Int)+1))-a1_)) (⟨[],[],0,0,0,0,0,0,false⟩:qc)).bind fun l11=>
 (if a1_=0 then
 (some (cpy l11 ([(⟨a2_,a3_,a4_,a5_,a6_,a7_,a8_,a9_,a10_⟩:qc)]:List qc))).bind fun l13=>
 some l13
 else
 (at' l11 a1_).bind fun j14=>
 ((if j14<l11.length then some ()else none:Option Unit)).bind fun u15=>
 (some (qe4 l11 j14 ([(⟨a2_,a3_,a4_,a5_,a6_,a7_,a8_,a9_,a10_⟩:qc)]:List qc))).bind fun l16=>
 some l16:Option (List qc)).bind fun l17=>
 (if(w64 (a1_+1))=0 then
 (some (cpy l17 (a0_.drop j2))).bind fun l20=>
 some l20
 else
 (at' l17 (w64 (a1_+1))).bind fun j21=>
 ((if j21<l17.length then some ()else none:Option Unit)).bind fun u22=>
 (some (qe4 l17 j21 (a0_.drop j2))).bind fun l23=>
 some l23:Option (List qc)).bind fun l24=>
 some l24
 else
 none
theorem qbR (a0_:List qc) (a1_:Int) (a2_:Str) (a3_:Str) (a4_:Int) (a5_:Int) (a6_:Int) (a7_:Int) (a8_:Int) (a9_:Int) (a10_:Bool) {l1:List qc} (h:jW a0_ a1_ a2_ a3_ a4_ a5_ a6_ a7_ a8_ a9_ a10_=some l1):qf Tryz.prog (.fn 181) [.slice 0 0 a0_.length a0_.length 9,.i a1_,.slice 1 0 1 1 9] [bS a0_,.cells (cT a2_ a3_ a4_ a5_ a6_ a7_ a8_ a9_ a10_)] (vl qh l1) [.dead,.cells (cT a2_ a3_ a4_ a5_ a6_ a7_ a8_ a9_ a10_)]:=by
 unfold jW at h
 refine Goes.fnH Tryz.func181 rfl rfl (m:=95) rfl (rs:=[.tmp 6]) rfl (l:=(kZ a0_ a1_ [(2,.slice 1 0 1 1 9)])) rfl ?_
 intro B hB
 refine sh fol (kZ a0_ a1_ [(2,.slice 1 0 1 1 9)]) ?_
 obtain⟨j2,e_j2,h⟩:=bnd h
 refine sq (gr fol [2] (kZ a0_ a1_ [(2,.slice 1 0 1 1 9)]) (ac (hs (.done (.opt (zW Tryz.prog 29 (.slice 0 0 a0_.length a0_.length 9) (some (.i a1_)) none none)) (qe1 0 9 a0_.length j2)) (qg4 qcd e_j2)) az) ?_)
 refine sh fol (kZ a0_ a1_ (kBA [])) ?_
 refine sq ?_
 refine sh fol (kZ a0_ a1_ (kBA [(16,.bool (decide (1=0)))])) ?_
 refine ihD h (fun c3 h=>?_) (fun c3 h=>?_)
 ·refine sh fol [(6,.slice 0 0 a0_.length a0_.length 9)] ?_
  refine Goes.ret ?_
  obtain rfl:=si h
  exact(gh2 [.slice 0 0 a0_.length a0_.length 9] (Sub.norm [0] [some 0,some 1] (by rw[hB];rfl) rfl (.keep (.frz (Fz.sl (E:=qh) rfl rfl (nl rfl)) (qd qh _)) .nil) (.lost (.kb rfl (.same sn) .nil))))
 ·refine Goes.skip ?_
  refine sh fol (kZ a0_ a1_ (kBA (kBR (a0_.length:Int)))) ?_
  refine sq ?_
  refine sh fol (kZ a0_ a1_ (kBA [(8,.i (a0_.length:Int)),(22,.bool (decide (a1_=(a0_.length:Int))))])) ?_
  refine ihD h (fun c4 h=>?_) (fun c4 h=>?_)
  ·refine sq ?_
   obtain⟨l8,g_v9,h⟩:=bnd h
   refine Goes.cutS (s':=(ofG 95 [(6,.oslice 2 l8.length 9)],[.dead,.cells (cT a2_ a3_ a4_ a5_ a6_ a7_ a8_ a9_ a10_),bS l8])) ?_ ?_
   ·rcases a0_ with _|⟨x5,xs6⟩
    ·try dsimp only at g_v9
     obtain rfl:=si g_v9
     exact qm.sub (qm.rg fol [(6,.oslice 2 1 9)] [.dead,.cells (cT a2_ a3_ a4_ a5_ a6_ a7_ a8_ a9_ a10_),.cells (cT a2_ a3_ a4_ a5_ a6_ a7_ a8_ a9_ a10_)]) (Sub.norm [] [some 0,some 1,some 2] (by rw[hB];rfl) rfl (.keep (zG.osliceE rfl rfl) .nil) (.lost (.kb rfl (.same sn) (.ks .nil))))
    ·try dsimp only at g_v9
     obtain⟨l7,e_l7,g_v9⟩:=bnd g_v9
     obtain rfl:=si g_v9
     exact qm.sub (qm.rq fol [2] [(6,.oslice 2 l7.length 9)] [.cells ((x5::xs6).flatMap qh.c),.cells (cT a2_ a3_ a4_ a5_ a6_ a7_ a8_ a9_ a10_),bS l7] (ac (hs (.run [0,1] (zh Tryz.prog [29,29] (.slice 0 0 (x5::xs6).length (x5::xs6).length 9) (.slice 1 0 1 1 9)) [.cells ((x5::xs6).flatMap qh.c),.cells (cT a2_ a3_ a4_ a5_ a6_ a7_ a8_ a9_ a10_)] (.oslice 2 l7.length 9) [.cells ((x5::xs6).flatMap qh.c),.cells (cT a2_ a3_ a4_ a5_ a6_ a7_ a8_ a9_ a10_),bS l7] false) (qpu qcd (E:=qh) (l:=(x5::xs6)) (ys:=[(⟨a2_,a3_,a4_,a5_,a6_,a7_,a8_,a9_,a10_⟩:qc)]) rfl rfl rfl rfl rfl rfl rfl rfl e_l7 rfl)) az)) (Sub.norm [] [some 0,some 1,some 2] (by rw[hB];rfl) rfl (.keep (.oslice rfl) .nil) (.lost (.kb rfl (.same sn) (.ks .nil))))
   intro _ hsub
   refine Goes.sub hsub ?_
   refine Goes.ret ?_
   obtain rfl:=si h
   exact(gh2 [.oslice 2 l8.length 9] (Sub.norm [2] [some 0,some 1] (by rw[hB];rfl) rfl (.keep (.frz (Fz.os (E:=qh) rfl rfl (nl rfl)) (qd qh _)) .nil) (.lost (.kb rfl (.same sn) .nil))))
  ·refine Goes.skip ?_
   refine sq ?_
   refine sh fol (kZ a0_ a1_ (kBA [(8,.i (a0_.length:Int)),(31,.bool (decide ((w64 ((a0_.length:Int)+1))>(a0_.length:Int))))])) ?_
   refine ihD h (fun c10 h=>?_) (fun c10 h=>?_)
   ·obtain⟨l11,e_l11,h⟩:=bnd h
    refine sq (gq fol [2,8] (kZ a0_ a1_ (kBA (kAU l11))) (kAl a0_ a2_ a3_ a4_ a5_ a6_ a7_ a8_ a9_ a10_ l11) (ac (hs (.done (.opt (zW Tryz.prog 29 (.slice 0 0 a0_.length a0_.length 9) none (some (.i a1_)) none)) (.slice 0 0 j2 a0_.length 9)) (qpG qcd e_j2)) (ac (hs (.run [0] (zh Tryz.prog [29,3] (.slice 0 0 j2 a0_.length 9) (.i (w64 ((w64 ((a0_.length:Int)+1))-a1_)))) [bS a0_,.cells (cT a2_ a3_ a4_ a5_ a6_ a7_ a8_ a9_ a10_)] (.oslice 2 l11.length 9) (kAl a0_ a2_ a3_ a4_ a5_ a6_ a7_ a8_ a9_ a10_ l11) false) (qou qcd it3 (E:=qh) rfl (z:=(⟨[],[],0,0,0,0,0,0,false⟩:qc)) (by kernel_rfl) rfl rfl e_l11 rfl)) az)) ?_)
    refine sq ?_
    obtain⟨l17,g_v18,h⟩:=bnd h
    refine Goes.cutS (s':=(ofG 95 (kZ a0_ a1_ ((7,.i 1)::(kAU l17))),(kAl a0_ a2_ a3_ a4_ a5_ a6_ a7_ a8_ a9_ a10_ l17))) ?_ ?_
    ·rcases wyD g_v18 with⟨c12,g_v18⟩|⟨c12,g_v18⟩
     ·obtain⟨l13,e_l13,g_v18⟩:=bnd g_v18
      obtain rfl:=si g_v18
      exact qm.sub (qm.rq fol [2,4] (kZ a0_ a1_ ((7,.i 1)::(kAU l11))) (kAl a0_ a2_ a3_ a4_ a5_ a6_ a7_ a8_ a9_ a10_ l13) (ac (hs (.done (.opt (zW Tryz.prog 29 (.oslice 2 l11.length 9) (some (.i a1_)) none none)) (.oslice 2 l11.length 9)) (qkK qcd (ot c12))) (ac (hs (.run [2,1] (qb2 Tryz.prog [29,29] (.oslice 2 l11.length 9) (.slice 1 0 1 1 9)) (kAl a0_ a2_ a3_ a4_ a5_ a6_ a7_ a8_ a9_ a10_ l11) (.i ((Nat.min ([(⟨a2_,a3_,a4_,a5_,a6_,a7_,a8_,a9_,a10_⟩:qc)]:List qc).length l11.length:Nat):Int)) (kAl a0_ a2_ a3_ a4_ a5_ a6_ a7_ a8_ a9_ a10_ l13) true) (qj5 qcd (E:=qh) (l:=l11) rfl (qaB (E:=qh) (ys:=([(⟨a2_,a3_,a4_,a5_,a6_,a7_,a8_,a9_,a10_⟩:qc)]:List qc)) rfl rfl rfl rfl) (.inr rfl) rfl rfl e_l13 rfl)) az))) ((show Sub (ofG 95 (kZ a0_ a1_ ((7,.i 1)::(kAU l11))),(kAl a0_ a2_ a3_ a4_ a5_ a6_ a7_ a8_ a9_ a10_ l13)) (ofG 95 (kZ a0_ a1_ ((7,.i 1)::(kAU l13))),(kAl a0_ a2_ a3_ a4_ a5_ a6_ a7_ a8_ a9_ a10_ l13))from(Sub.norm [] [some 0,some 1,some 2] (by rw[hB];rfl) rfl (.keep (.slice rfl) (.keep (.same nI) (.keep (.same nI) (.keep (.osliceE rfl (qgl e_l13)) .nil)))) (.ks (.kb rfl (.same sn) (.ks .nil))))).trans (Sub.refl _))
     ·obtain⟨j14,e_j14,g_v18⟩:=bnd g_v18
      obtain⟨u15,e_u15,g_v18⟩:=bnd g_v18
      obtain⟨l16,e_l16,g_v18⟩:=bnd g_v18
      obtain rfl:=si g_v18
      exact qm.sub (qm.rq fol [2,4] (kZ a0_ a1_ ((7,.i 1)::(kAU l11))) (kAl a0_ a2_ a3_ a4_ a5_ a6_ a7_ a8_ a9_ a10_ l16) (ac (hs (.done (.opt (zW Tryz.prog 29 (.oslice 2 l11.length 9) (some (.i a1_)) none none)) (.wslice 2 (j14*9) (l11.length-j14) 9)) (qi0 qcd (of_decide_eq_false c12) e_j14 (qld e_u15))) (ac (hs (.run [2,1] (qb2 Tryz.prog [29,29] (.wslice 2 (j14*9) (l11.length-j14) 9) (.slice 1 0 1 1 9)) (kAl a0_ a2_ a3_ a4_ a5_ a6_ a7_ a8_ a9_ a10_ l11) (.i ((Nat.min ([(⟨a2_,a3_,a4_,a5_,a6_,a7_,a8_,a9_,a10_⟩:qc)]:List qc).length (l11.length-j14):Nat):Int)) (kAl a0_ a2_ a3_ a4_ a5_ a6_ a7_ a8_ a9_ a10_ l16) true) (qkW qcd (E:=qh) rfl (l:=l11) (qaB (E:=qh) (ys:=([(⟨a2_,a3_,a4_,a5_,a6_,a7_,a8_,a9_,a10_⟩:qc)]:List qc)) rfl rfl rfl rfl) (qhX e_j14) rfl rfl e_l16 rfl)) az))) ((show Sub (ofG 95 (kZ a0_ a1_ ((7,.i 1)::(kAU l11))),(kAl a0_ a2_ a3_ a4_ a5_ a6_ a7_ a8_ a9_ a10_ l16)) (ofG 95 (kZ a0_ a1_ ((7,.i 1)::(kAU l16))),(kAl a0_ a2_ a3_ a4_ a5_ a6_ a7_ a8_ a9_ a10_ l16))from(Sub.norm [] [some 0,some 1,some 2] (by rw[hB];rfl) rfl (.keep (.slice rfl) (.keep (.same nI) (.keep (.same nI) (.keep (.osliceE rfl (qhR (qhX e_j14) e_l16)) .nil)))) (.ks (.kb rfl (.same sn) (.ks .nil))))).trans (Sub.refl _))
    intro _ hsub
    refine Goes.sub hsub ?_
    refine sq ?_
    obtain⟨l24,g_v25,h⟩:=bnd h
    refine Goes.cutS (s':=(ofG 95 (kAU l24),(kAl a0_ a2_ a3_ a4_ a5_ a6_ a7_ a8_ a9_ a10_ l24))) ?_ ?_
    ·rcases wyD g_v25 with⟨c19,g_v25⟩|⟨c19,g_v25⟩
     ·obtain⟨l20,e_l20,g_v25⟩:=bnd g_v25
      obtain rfl:=si g_v25
      exact qm.sub (qm.rq fol [4,7,8] (kAU l17) (kAl a0_ a2_ a3_ a4_ a5_ a6_ a7_ a8_ a9_ a10_ l20) (ac (hs (.done (.opt (zW Tryz.prog 29 (.oslice 2 l17.length 9) (some (.i (w64 (a1_+1)))) none none)) (.oslice 2 l17.length 9)) (qkK qcd (ot c19))) (ac (hs (.done (.opt (zW Tryz.prog 29 (.slice 0 0 a0_.length a0_.length 9) (some (.i a1_)) none none)) (qe1 0 9 a0_.length j2)) (qg4 qcd e_j2)) (ac (hs (.run [2,0] (qb2 Tryz.prog [29,29] (.oslice 2 l17.length 9) (qe1 0 9 a0_.length j2)) (kAl a0_ a2_ a3_ a4_ a5_ a6_ a7_ a8_ a9_ a10_ l17) (.i ((Nat.min (a0_.drop j2).length l17.length:Nat):Int)) (kAl a0_ a2_ a3_ a4_ a5_ a6_ a7_ a8_ a9_ a10_ l20) true) (qj5 qcd (E:=qh) (l:=l17) rfl (qhJ (E:=qh) rfl rfl rfl (qhX e_j2)) (.inr rfl) rfl rfl e_l20 rfl)) az)))) ((show Sub (ofG 95 (kAU l17),(kAl a0_ a2_ a3_ a4_ a5_ a6_ a7_ a8_ a9_ a10_ l20)) (ofG 95 (kAU l20),(kAl a0_ a2_ a3_ a4_ a5_ a6_ a7_ a8_ a9_ a10_ l20))from(Sub.norm [] [some 0,some 1,some 2] (by rw[hB];rfl) rfl (.keep (.osliceE rfl (qgl e_l20)) .nil) (.ks (.kb rfl (.same sn) (.ks .nil))))).trans (Sub.refl _))
     ·obtain⟨j21,e_j21,g_v25⟩:=bnd g_v25
      obtain⟨u22,e_u22,g_v25⟩:=bnd g_v25
      obtain⟨l23,e_l23,g_v25⟩:=bnd g_v25
      obtain rfl:=si g_v25
      exact qm.sub (qm.rq fol [4,7,8] (kAU l17) (kAl a0_ a2_ a3_ a4_ a5_ a6_ a7_ a8_ a9_ a10_ l23) (ac (hs (.done (.opt (zW Tryz.prog 29 (.oslice 2 l17.length 9) (some (.i (w64 (a1_+1)))) none none)) (.wslice 2 (j21*9) (l17.length-j21) 9)) (qi0 qcd (of_decide_eq_false c19) e_j21 (qld e_u22))) (ac (hs (.done (.opt (zW Tryz.prog 29 (.slice 0 0 a0_.length a0_.length 9) (some (.i a1_)) none none)) (qe1 0 9 a0_.length j2)) (qg4 qcd e_j2)) (ac (hs (.run [2,0] (qb2 Tryz.prog [29,29] (.wslice 2 (j21*9) (l17.length-j21) 9) (qe1 0 9 a0_.length j2)) (kAl a0_ a2_ a3_ a4_ a5_ a6_ a7_ a8_ a9_ a10_ l17) (.i ((Nat.min (a0_.drop j2).length (l17.length-j21):Nat):Int)) (kAl a0_ a2_ a3_ a4_ a5_ a6_ a7_ a8_ a9_ a10_ l23) true) (qkW qcd (E:=qh) rfl (l:=l17) (qhJ (E:=qh) rfl rfl rfl (qhX e_j2)) (qhX e_j21) rfl rfl e_l23 rfl)) az)))) ((show Sub (ofG 95 (kAU l17),(kAl a0_ a2_ a3_ a4_ a5_ a6_ a7_ a8_ a9_ a10_ l23)) (ofG 95 (kAU l23),(kAl a0_ a2_ a3_ a4_ a5_ a6_ a7_ a8_ a9_ a10_ l23))from(Sub.norm [] [some 0,some 1,some 2] (by rw[hB];rfl) rfl (.keep (.osliceE rfl (qhR (qhX e_j21) e_l23)) .nil) (.ks (.kb rfl (.same sn) (.ks .nil))))).trans (Sub.refl _))
    intro _ hsub
    refine Goes.sub hsub ?_
    refine sh fol [(6,.oslice 2 l24.length 9)] ?_
    refine Goes.ret ?_
    obtain rfl:=si h
    exact(gh2 [.oslice 2 l24.length 9] (Sub.norm [2] [some 0,some 1] (by rw[hB];rfl) rfl (.keep (.frz (Fz.os (E:=qh) rfl rfl (nl rfl)) (qd qh _)) .nil) (.lost (.kb rfl (.same sn) .nil))))
   ·cases h
def xL (N:Nat) (a0_:Int) (a1_:List qc) (a2_:Int) (a3_:Str) (a4_:List Str) (a5_:List Int) (a6_:Str):Option ((List qc)×Int):=
 (idx a5_ 0).bind fun x3=>
 (idx a5_ 1).bind fun x4=>
 (idx a5_ 2).bind fun x5=>
 (idx a4_ 0).bind fun x6=>
 (jN N (⟨a0_,a1_⟩:yS) x6).bind fun r7=>
 (qE r7.2 9).bind fun r8=>
 (zF x4 1 9999).bind fun r9=>
 (zF x5 1 9999).bind fun r10=>
 (yA (w64 (x3+x4))).bind fun r11=>
 (qE (decide ((a1_.length:Int)≥256)) 5).bind fun r12=>
 (qC N ([r8,r9,r10,r11,r12]:List Int)).bind fun r13=>
 if(!decide (r13=0))=true then
 some (a1_,r13)
 else
 (idx a4_ 1).bind fun x15=>
 (jW a1_ r7.1 x6 x15 x3 (w64 (x3+x4)) x5 0 0 0 false).bind fun l17=>
 some (l17,0)
theorem qe6 (N:Nat) (a0_:Int) (a1_:List qc) (a2_:Int) (a3_:Str) (a4_:List Str) (a5_:List Int) (a6_:Str) {l1:List qc} {n2:Int} (h:xL N a0_ a1_ a2_ a3_ a4_ a5_ a6_=some (l1,n2)):qf Tryz.prog (.fn 141) (kO a0_ a1_ [.agg (cF a2_ a3_ a4_ a5_ a6_)]) [bS a1_] (.tuple (kA5 a0_ l1 [.i n2])) [.dead]:=by
 unfold xL at h
 refine Goes.fnH Tryz.func141 rfl rfl (m:=77) rfl (rs:=[.cell 4 31,.tmp 5]) rfl (l:=(kAr a0_ a1_ [(1,.agg (cF a2_ a3_ a4_ a5_ a6_))])) rfl ?_
 intro B hB
 refine sg fol (kJ []) (bS a1_::(kC a0_ a1_ (kAG a2_ a3_ a4_ a5_ a6_ []))) ?_
 obtain⟨x3,e_x3,h⟩:=bnd h
 obtain⟨x4,e_x4,h⟩:=bnd h
 obtain⟨x5,e_x5,h⟩:=bnd h
 refine sq (gr fol [2,3,6,7,10,11] (kJ ((6,.i x3)::(kAH x4 x5 []))) (ac (iv qd0 encI e_x3) (ac (lv 0 ce3 encI e_x3 rfl) (ac (iv qd0 encI e_x4) (ac (lv 0 ce3 encI e_x4 rfl) (ac (iv qd0 encI e_x5) (ac (lv 0 ce3 encI e_x5 rfl) az)))))) ?_)
 obtain⟨x6,e_x6,h⟩:=bnd h
 obtain⟨r7,e_r7,h⟩:=bnd h
 refine sq (gr fol [3,4,5] (kJ ((6,.i x3)::(kAH x4 x5 [(9,.i r7.1),(10,.bool r7.2)]))) (ac (iv xU encS e_x6) (ac (lv 0 ce9 encS e_x6 rfl) (ac (hs (.call 93 (kO a0_ a1_ [.str x6]) (bS a1_::(kC a0_ a1_ (kAG a2_ a3_ a4_ a5_ a6_ []))) [0] (kA5 a0_ a1_ [.str x6]) (.tuple [.i r7.1,.bool r7.2])) (vI (FzL.cons (Fz.agg (FzL.cons (Fz.still tI) (FzL.cons (Fz.sl (E:=qh) rfl rfl (nl rfl)) FzL.nil))) (FzL.cons (Fz.still tS) FzL.nil)) (qax N (⟨a0_,a1_⟩:yS) x6 e_r7) (Still.tuple (AllST.cons tI (AllST.cons tB AllST.nil))) rfl)) az))) ?_)
 refine sq ?_
 obtain⟨r8,e_r8,h⟩:=bnd h
 obtain⟨r9,e_r9,h⟩:=bnd h
 obtain⟨r10,e_r10,h⟩:=bnd h
 obtain⟨r11,e_r11,h⟩:=bnd h
 obtain⟨r12,e_r12,h⟩:=bnd h
 obtain⟨r13,e_r13,h⟩:=bnd h
 refine sq (gq fol [1,3,5,9,14,16] (kJ ((6,.i x3)::(kAH x4 x5 [(9,.i r7.1),(11,.i r13)]))) (bS a1_::(kC a0_ a1_ (kAG a2_ a3_ a4_ a5_ a6_ [.cells [.i r8,.i r9,.i r10,.i r11,.i r12]]))) (ac (cv (qz r7.2 9 e_r8)) (ac (cv (za x4 1 9999 e_r9)) (ac (cv (za x5 1 9999 e_r10)) (ac (cv (qbM (w64 (x3+x4)) e_r11)) (ac (cv (qz (decide ((a1_.length:Int)≥256)) 5 e_r12)) (ac (hs (.call 86 [.slice 4 0 5 5 1] (bS a1_::(kC a0_ a1_ (kAG a2_ a3_ a4_ a5_ a6_ [.cells [.i r8,.i r9,.i r10,.i r11,.i r12]]))) [4] [vl encI ([r8,r9,r10,r11,r12]:List Int)] (.i r13)) (vI (FzL.cons (Fz.lit rfl rfl (FzL.still (AllST.cons tI (AllST.cons tI (AllST.cons tI (AllST.cons tI (AllST.cons tI AllST.nil))))))) FzL.nil) (qN N ([r8,r9,r10,r11,r12]:List Int) e_r13) tI rfl)) az)))))) ?_)
 refine sh fol (kJ ((6,.i x3)::(kAH x4 x5 [(9,.i r7.1),(11,.i r13),(52,.bool (!decide (r13=0)))]))) ?_
 refine ihB h (fun c14 h=>?_) (fun c14 h=>?_)
 ·refine sg fol ((4,.ptr 3 0)::(kA4 r13)) (bS a1_::(kC a0_ a1_ (.cells (cF a2_ a3_ a4_ a5_ a6_)::(kC a0_ a1_ [.cells [.i r8,.i r9,.i r10,.i r11,.i r12]])))) ?_
  refine Goes.ret ?_
  simp only[Option.some.injEq,Prod.mk.injEq]at h
  obtain⟨rfl,rfl⟩:=h
  exact(gh2 (kO a0_ a1_ [.i r13]) (Sub.norm [0] [some 0] (by rw[hB];rfl) rfl (.keep (.tupleL (rc (.aggL (rc (.same nI) (rc (.frz (Fz.sl (E:=qh) rfl rfl (nl rfl)) (qd qh _)) rn))) (rc (.same nI) rn))) .nil) (.lost .nil)))
 ·refine Goes.skip ?_
  obtain⟨x15,e_x15,h⟩:=bnd h
  refine sq (gq fol [2,3,6,7] (kAK [(9,.i r7.1),(12,.ptr 5 0)]) (bS a1_::(kC a0_ a1_ (kAG a2_ a3_ a4_ a5_ a6_ [.cells [.i r8,.i r9,.i r10,.i r11,.i r12],.cells [.str x6,.str x15,.i x3,.i (w64 (x3+x4)),.i x5,.i 0,.i 0,.i 0,.bool false]]))) (ac (iv xU encS e_x6) (ac (lv 0 ce9 encS e_x6 rfl) (ac (iv xU encS e_x15) (ac (lv 0 ce9 encS e_x15 rfl) az)))) ?_)
  obtain⟨l17,e_r16,h⟩:=bnd h
  refine sq (gq fol [5] (kAK []) (.dead::(kAD a0_ l17 (kAG a2_ a3_ a4_ a5_ a6_ (kAF r8 r9 r10 r11 r12 x6 x15 x3 (w64 (x3+x4)) x5)))) (ac (hs (.callH 181 [.slice 0 0 a1_.length a1_.length 9,.i r7.1,.slice 6 0 1 1 9] (bS a1_::(kC a0_ a1_ (kAG a2_ a3_ a4_ a5_ a6_ (kAF r8 r9 r10 r11 r12 x6 x15 x3 (w64 (x3+x4)) x5)))) [0,6] (vl qh l17) (.dead::(kC a0_ a1_ (kAG a2_ a3_ a4_ a5_ a6_ (kAF r8 r9 r10 r11 r12 x6 x15 x3 (w64 (x3+x4)) x5))))) (ji [some 0,some 6] [none,none,none,none,none,none,some 1] (qbR a1_ r7.1 x6 x15 x3 (w64 (x3+x4)) x5 0 0 0 false e_r16) (.ks (.kb rfl (.cells (rc (.same nS) (rc (.same nS) (rc (.same nI) (rc (.same nI) (rc (.same nI) (rc (.same nI) (rc (.same nI) (rc (.same nI) (rc (.same nB) rn)))))))))) .nil)) rfl rfl (.dead (.old rfl rfl (.old rfl rfl (.old rfl rfl (.old rfl rfl (.old rfl rfl (.back rfl rfl (.cells (rc (.same nS) (rc (.same nS) (rc (.same nI) (rc (.same nI) (rc (.same nI) (rc (.same nI) (rc (.same nI) (rc (.same nI) (rc (.same nB) rn)))))))))) rfl .nil))))))) (rc (.slice rfl) (rc (.same nI) (rc (.slice rfl) rn))) (.same (qd qh _)) rfl)) az) ?_)
  refine sg fol ((4,.ptr 3 0)::kBi) (.dead::(kAD a0_ l17 (.cells (cF a2_ a3_ a4_ a5_ a6_)::(kAD a0_ l17 (kAF r8 r9 r10 r11 r12 x6 x15 x3 (w64 (x3+x4)) x5))))) ?_
  refine Goes.ret ?_
  simp only[Option.some.injEq,Prod.mk.injEq]at h
  obtain⟨rfl,rfl⟩:=h
  exact(gh2 (kA5 a0_ l17 [.i 0]) (Sub.norm [] [some 0] (by rw[hB];rfl) rfl (.keep (.tupleL (rc (.aggL (rc (.same nI) (rc (.same (qd qh _)) rn))) (rc (.same nI) rn))) .nil) (.lost .nil)))
def zC (N:Nat) (a0_:Int) (a1_:List qc) (a2_:Str) (a3_:Int):Option (Int×Bool×Int):=
 (jN N (⟨a0_,a1_⟩:yS) a2_).bind fun r4=>
 if(!r4.2)=true then
 some (0,false,10)
 else
 (idx a1_ r4.1).bind fun x6=>
 (jL x6 a3_).bind fun r7=>
 (qE r7 20).bind fun r8=>
 some (r4.1,true,r8)
theorem yu (N:Nat) (a0_:Int) (a1_:List qc) (a2_:Str) (a3_:Int) {i1:Int} {ok2:Bool} {n3:Int} (h:zC N a0_ a1_ a2_ a3_=some (i1,ok2,n3)):qf Tryz.prog (.fn 182) (kO a0_ a1_ [.str a2_,.i a3_]) [bS a1_] (.tuple [pz ok2 0 ((i1:Int).toNat*9+0),.i n3]) [bS a1_]:=by
 unfold zC at h
 refine Goes.fnH Tryz.func182 rfl rfl (m:=30) rfl (rs:=[.tmp 6,.tmp 7]) rfl (l:=(kAr a0_ a1_ [(1,.str a2_),(2,.i a3_)])) rfl ?_
 intro B hB
 refine sg fol ((1,.str a2_)::(2,.i a3_)::(kA8 [])) (bS a1_::(kC a0_ a1_ [])) ?_
 obtain⟨r4,e_r4,h⟩:=bnd h
 refine sq (gr fol [2] ((2,.i a3_)::(kA8 [(8,.i r4.1),(9,.bool r4.2)])) (ac (hs (.call 93 (kO a0_ a1_ [.str a2_]) (bS a1_::(kC a0_ a1_ [])) [0] (kA5 a0_ a1_ [.str a2_]) (.tuple [.i r4.1,.bool r4.2])) (vI (FzL.cons (Fz.agg (FzL.cons (Fz.still tI) (FzL.cons (Fz.sl (E:=qh) rfl rfl (nl rfl)) FzL.nil))) (FzL.cons (Fz.still tS) FzL.nil)) (qax N (⟨a0_,a1_⟩:yS) a2_ e_r4) (Still.tuple (AllST.cons tI (AllST.cons tB AllST.nil))) rfl)) az) ?_)
 refine sq ?_
 refine sh fol ((2,.i a3_)::(kA8 [(8,.i r4.1),(18,.bool (!r4.2))])) ?_
 refine ihB h (fun c5 h=>?_) (fun c5 h=>?_)
 ·refine sh fol [(6,.nilptr),(7,.i 10)] ?_
  refine Goes.ret ?_
  simp only[Option.some.injEq,Prod.mk.injEq]at h
  obtain⟨rfl,rfl,rfl⟩:=h
  exact(gh2 [.nilptr,.i 10] (Sub.norm [] [some 0] (by rw[hB];rfl) rfl (.keep (.tupleL (rc (zG.pz0) (rc (.same nI) rn))) .nil) (.ks .nil)))
 ·refine Goes.skip ?_
  obtain⟨x6,e_x6,h⟩:=bnd h
  refine sq (gr fol [3] [(2,.i a3_),(10,.ptr 0 ((r4.1:Int).toNat*9+0))] (ac (hs (.done (.opt (qo Tryz.prog 29 (.slice 0 0 a1_.length a1_.length 9) (.i r4.1))) (.ptr 0 ((r4.1:Int).toNat*9+0))) (qjM qcd e_x6)) az) ?_)
  obtain⟨r7,e_r7,h⟩:=bnd h
  obtain⟨r8,e_r8,h⟩:=bnd h
  refine sq (gr fol [3,5,6] [(6,.ptr 0 ((r4.1:Int).toNat*9+0)),(7,.i r8)] (ac (hs (.run [0] (vz Tryz.prog 68 (.ptr 0 ((r4.1:Int).toNat*9+0))) (bS a1_::(kC a0_ a1_ [])) (.agg (cS x6)) (bS a1_::(kC a0_ a1_ [])) false) (qfQ ag68 (E:=qh) (l:=a1_) rfl rfl e_x6)) (ac (cv (qaz x6 a3_ e_r7)) (ac (cv (qz r7 20 e_r8)) az))) ?_)
  refine Goes.ret ?_
  simp only[Option.some.injEq,Prod.mk.injEq]at h
  obtain⟨rfl,rfl,rfl⟩:=h
  exact(gh2 [.ptr 0 ((r4.1:Int).toNat*9+0),.i r8] (Sub.norm [] [some 0] (by rw[hB];rfl) rfl (.keep (.tupleL (rc ((zG.pz1 rfl)) (rc (.same nI) rn))) .nil) (.ks .nil)))
def yM (N:Nat) (a0_:Int) (a1_:List qc) (a2_:Int) (a3_:Str) (a4_:List Str) (a5_:List Int) (a6_:Str):Option ((List qc)×Int):=
 (idx a5_ 0).bind fun x3=>
 (idx a5_ 1).bind fun x4=>
 (idx a4_ 0).bind fun x5=>
 (zC N a0_ a1_ x5 x3).bind fun(i7,ok8,n9)=>
 (zF x4 2 999999999).bind fun r10=>
 (qC N ([n9,r10]:List Int)).bind fun r11=>
 if(!decide (r11=0))=true then
 some (a1_,r11)
 else
 ((match ok8 with
 |false=>
 none
 |true=>
 (idx a1_ i7).bind fun x13=>
 (put a1_ i7 (⟨x13.Name,x13.Batch,x13.Born,x13.Last,x13.Uses,x13.Used,w64 (x4.tdiv 2),x13.Until,x13.Gone⟩:qc)).bind fun l14=>
 (idx l14 i7).bind fun x15=>
 (put l14 i7 (⟨x15.Name,x15.Batch,x15.Born,x15.Last,x15.Uses,x15.Used,x15.Limit,(if x13.Last<(w64 (x3+365))then x13.Last else(w64 (x3+365))),x15.Gone⟩:qc)).bind fun l16=>
 some l16):Option (List qc)).bind fun l17=>
 some (l17,0)
theorem qd4 (N:Nat) (a0_:Int) (a1_:List qc) (a2_:Int) (a3_:Str) (a4_:List Str) (a5_:List Int) (a6_:Str) {l1:List qc} {n2:Int} (h:yM N a0_ a1_ a2_ a3_ a4_ a5_ a6_=some (l1,n2)):qf Tryz.prog (.fn 142) (kO a0_ a1_ [.agg (cF a2_ a3_ a4_ a5_ a6_)]) [bS a1_] (.tuple (kO a0_ l1 [.i n2])) [bS l1]:=by
 unfold yM at h
 refine Goes.fnH Tryz.func142 rfl rfl (m:=53) rfl (rs:=[.cell 4 31,.tmp 5]) rfl (l:=(kAr a0_ a1_ [(1,.agg (cF a2_ a3_ a4_ a5_ a6_))])) rfl ?_
 intro B hB
 refine sg fol (kJ []) (bS a1_::(kC a0_ a1_ (kAG a2_ a3_ a4_ a5_ a6_ []))) ?_
 obtain⟨x3,e_x3,h⟩:=bnd h
 obtain⟨x4,e_x4,h⟩:=bnd h
 refine sq (gr fol [2,3,6,7] (kJ (kBK x3 x4 [])) (ac (iv qd0 encI e_x3) (ac (lv 0 ce3 encI e_x3 rfl) (ac (iv qd0 encI e_x4) (ac (lv 0 ce3 encI e_x4 rfl) az)))) ?_)
 obtain⟨x5,e_x5,h⟩:=bnd h
 obtain⟨⟨i7,ok8,n9⟩,e_r6,h⟩:=bnd h
 try dsimp only at h
 refine sq (gr fol [3,4,6] (kAK (kBK x3 x4 [(8,pz ok8 0 ((i7:Int).toNat*9+0)),(9,.i n9)])) (ac (iv xU encS e_x5) (ac (lv 0 ce9 encS e_x5 rfl) (ac (hs (.callH 182 (kO a0_ a1_ [.str x5,.i x3]) (bS a1_::(kC a0_ a1_ (kAG a2_ a3_ a4_ a5_ a6_ []))) [0] (.tuple [pz ok8 0 ((i7:Int).toNat*9+0),.i n9]) (bS a1_::(kC a0_ a1_ (kAG a2_ a3_ a4_ a5_ a6_ [])))) (ji [some 0] [some 0,none,none,none] (yu N a0_ a1_ x5 x3 e_r6) (.ks .nil) rfl rfl (.back rfl rfl (.same fa) rfl (.old rfl rfl (.old rfl rfl (.old rfl rfl .nil)))) (rc (.aggL (rc (.same nI) (rc (.slice rfl) rn))) (rc (.same nS) (rc (.same nI) rn))) (.tupleL (rc ((zG.pz rfl)) (rc (.same nI) rn))) rfl)) az))) ?_)
 refine sq ?_
 obtain⟨r10,e_r10,h⟩:=bnd h
 obtain⟨r11,e_r11,h⟩:=bnd h
 refine sq (gq fol [2,4] (kAK (kBK x3 x4 [(8,pz ok8 0 ((i7:Int).toNat*9+0)),(9,.i r11)])) (bS a1_::(kC a0_ a1_ (kAG a2_ a3_ a4_ a5_ a6_ (kAC n9 r10)))) (ac (cv (za x4 2 999999999 e_r10)) (ac (hs (.call 86 [.slice 4 0 2 2 1] (bS a1_::(kC a0_ a1_ (kAG a2_ a3_ a4_ a5_ a6_ (kAC n9 r10)))) [4] [vl encI ([n9,r10]:List Int)] (.i r11)) (vI (FzL.cons (Fz.lit rfl rfl (FzL.still (AllST.cons tI (AllST.cons tI AllST.nil)))) FzL.nil) (qN N ([n9,r10]:List Int) e_r11) tI rfl)) az)) ?_)
 refine sh fol (kAK (kBK x3 x4 [(8,pz ok8 0 ((i7:Int).toNat*9+0)),(9,.i r11),(34,.bool (!decide (r11=0)))])) ?_
 refine ihB h (fun c12 h=>?_) (fun c12 h=>?_)
 ·refine sg fol ((4,.ptr 3 0)::(kA4 r11)) (bS a1_::(kC a0_ a1_ (.cells (cF a2_ a3_ a4_ a5_ a6_)::(kC a0_ a1_ (kAC n9 r10))))) ?_
  refine Goes.ret ?_
  simp only[Option.some.injEq,Prod.mk.injEq]at h
  obtain⟨rfl,rfl⟩:=h
  exact(gh2 (kO a0_ a1_ [.i r11]) (Sub.norm [] [some 0] (by rw[hB];rfl) rfl (.keep (.tupleL (rc (.aggL (rc (.same nI) (rc (.slice rfl) rn))) (rc (.same nI) rn))) .nil) (.ks .nil)))
 ·refine Goes.skip ?_
  refine sq ?_
  obtain⟨l17,g_v18,h⟩:=bnd h
  refine Goes.cutS (s':=(ofG 53 (kBI []),(bS l17::(kC a0_ l17 [bZ])))) ?_ ?_
  ·rcases ok8 with _|_
   ·try dsimp only at g_v18
    cases g_v18
   ·try dsimp only at g_v18
    obtain⟨x13,e_x13,g_v18⟩:=bnd g_v18
    obtain⟨l14,e_l14,g_v18⟩:=bnd g_v18
    obtain⟨x15,e_x15,g_v18⟩:=bnd g_v18
    obtain⟨l16,e_l16,g_v18⟩:=bnd g_v18
    obtain rfl:=si g_v18
    exact qm.sub (qm.rq fol [9,13,16] (kAK []) (bS l16::(kC a0_ a1_ (kAG a2_ a3_ a4_ a5_ a6_ (kAC n9 r10)))) (ac (hs (.run [0] (vz Tryz.prog 3 (.ptr 0 ((i7:Int).toNat*9+3))) (bS a1_::(kC a0_ a1_ (kAG a2_ a3_ a4_ a5_ a6_ (kAC n9 r10)))) (.i x13.Last) (bS a1_::(kC a0_ a1_ (kAG a2_ a3_ a4_ a5_ a6_ (kAC n9 r10)))) false) (ld_p ce3 (E:=qh) (l:=a1_) rfl rfl e_x13 (nl rfl) rfl)) (ac (hs (.run [0] (qav Tryz.prog 3 (.ptr 0 ((i7:Int).toNat*9+6)) (.i (w64 (x4.tdiv 2)))) (bS a1_::(kC a0_ a1_ (kAG a2_ a3_ a4_ a5_ a6_ (kAC n9 r10)))) .undef (bS l14::(kC a0_ a1_ (kAG a2_ a3_ a4_ a5_ a6_ (kAC n9 r10)))) true) (qd9 (E:=qh) (l:=a1_) (y:=(⟨x13.Name,x13.Batch,x13.Born,x13.Last,x13.Uses,x13.Used,w64 (x4.tdiv 2),x13.Until,x13.Gone⟩:qc)) rfl (show _=some 1 by kernel_rfl) rfl e_x13 rfl rfl rfl rfl rfl e_l14 rfl)) (ac (hs (.run [0] (qav Tryz.prog 3 (.ptr 0 ((i7:Int).toNat*9+7)) (.i (if x13.Last<(w64 (x3+365))then x13.Last else(w64 (x3+365))))) (bS l14::(kC a0_ a1_ (kAG a2_ a3_ a4_ a5_ a6_ (kAC n9 r10)))) .undef (bS l16::(kC a0_ a1_ (kAG a2_ a3_ a4_ a5_ a6_ (kAC n9 r10)))) true) (qd9 (E:=qh) (l:=l14) (y:=(⟨x15.Name,x15.Batch,x15.Born,x15.Last,x15.Uses,x15.Used,x15.Limit,(if x13.Last<(w64 (x3+365))then x13.Last else(w64 (x3+365))),x15.Gone⟩:qc)) rfl (show _=some 1 by kernel_rfl) rfl e_x15 rfl rfl rfl rfl rfl e_l16 rfl)) az)))) ((show Sub (ofG 53 (kAK []),(bS l16::(kC a0_ a1_ (kAG a2_ a3_ a4_ a5_ a6_ (kAC n9 r10))))) (ofG 53 (kBI []),(bS l16::(kC a0_ l16 [bZ])))from(Sub.norm [] [some 0,some 1,some 3] (by rw[hB];rfl) rfl (.kp (.kp .nil)) (.ks (.kb rfl (.cells (rc (.same nI) (rc (.sliceE rfl ((qa7 e_l14).trans (qa7 e_l16))) rn))) (.kb rfl (.same sn) .nil))))).trans (Sub.refl _))
  intro _ hsub
  refine Goes.sub hsub ?_
  refine sg fol ((4,.ptr 2 0)::kBi) (bS l17::(kC a0_ l17 (kC a0_ l17 []))) ?_
  refine Goes.ret ?_
  simp only[Option.some.injEq,Prod.mk.injEq]at h
  obtain⟨rfl,rfl⟩:=h
  exact(gh2 (kO a0_ l17 [.i 0]) (Sub.norm [] [some 0] (by rw[hB];rfl) rfl (.keep (.tupleL (rc (.aggL (rc (.same nI) (rc (.slice rfl) rn))) (rc (.same nI) rn))) .nil) (.ks .nil)))
def xQ (N:Nat) (a0_:Int) (a1_:List qc) (a2_:Int) (a3_:Str) (a4_:List Str) (a5_:List Int) (a6_:Str):Option ((List qc)×Int):=
 (idx a5_ 0).bind fun x3=>
 (idx a5_ 1).bind fun x4=>
 (idx a4_ 0).bind fun x5=>
 (zC N a0_ a1_ x5 x3).bind fun(i7,ok8,n9)=>
 if(!decide (n9=0))=true then
 some (a1_,n9)
 else
 ((match ok8 with
 |false=>
 none
 |true=>
 (idx a1_ i7).bind fun x11=>
 (ym x11 x3).bind fun r12=>
 (qE (!r12) 24).bind fun r13=>
 (qE (decide (x4>x11.Limit)) 31).bind fun r14=>
 (qC N ([r13,r14]:List Int)).bind fun r15=>
 some (r13,r14,r15)):Option (Int×Int×Int)).bind fun(n16,n17,n18)=>
 if(!decide (n18=0))=true then
 some (a1_,n18)
 else
 (idx a1_ i7).bind fun x21=>
 (put a1_ i7 (⟨x21.Name,x21.Batch,x21.Born,x21.Last,x21.Uses,w64 (x21.Used+1),x21.Limit,x21.Until,x21.Gone⟩:qc)).bind fun l22=>
 some (l22,0)
theorem qeI (N:Nat) (a0_:Int) (a1_:List qc) (a2_:Int) (a3_:Str) (a4_:List Str) (a5_:List Int) (a6_:Str) {l1:List qc} {n2:Int} (h:xQ N a0_ a1_ a2_ a3_ a4_ a5_ a6_=some (l1,n2)):qf Tryz.prog (.fn 143) (kO a0_ a1_ [.agg (cF a2_ a3_ a4_ a5_ a6_)]) [bS a1_] (.tuple (kO a0_ l1 [.i n2])) [bS l1]:=by
 unfold xQ at h
 refine Goes.fnH Tryz.func143 rfl rfl (m:=60) rfl (rs:=[.cell 4 31,.tmp 5]) rfl (l:=(kAr a0_ a1_ [(1,.agg (cF a2_ a3_ a4_ a5_ a6_))])) rfl ?_
 intro B hB
 refine sg fol (kJ []) (bS a1_::(kC a0_ a1_ (kAG a2_ a3_ a4_ a5_ a6_ []))) ?_
 obtain⟨x3,e_x3,h⟩:=bnd h
 obtain⟨x4,e_x4,h⟩:=bnd h
 refine sq (gr fol [2,3,6,7] (kJ (kBK x3 x4 [])) (ac (iv qd0 encI e_x3) (ac (lv 0 ce3 encI e_x3 rfl) (ac (iv qd0 encI e_x4) (ac (lv 0 ce3 encI e_x4 rfl) az)))) ?_)
 obtain⟨x5,e_x5,h⟩:=bnd h
 obtain⟨⟨i7,ok8,n9⟩,e_r6,h⟩:=bnd h
 try dsimp only at h
 refine sq (gr fol [3,4,6] (kAK (kBK x3 x4 [(8,pz ok8 0 ((i7:Int).toNat*9+0)),(9,.i n9)])) (ac (iv xU encS e_x5) (ac (lv 0 ce9 encS e_x5 rfl) (ac (hs (.callH 182 (kO a0_ a1_ [.str x5,.i x3]) (bS a1_::(kC a0_ a1_ (kAG a2_ a3_ a4_ a5_ a6_ []))) [0] (.tuple [pz ok8 0 ((i7:Int).toNat*9+0),.i n9]) (bS a1_::(kC a0_ a1_ (kAG a2_ a3_ a4_ a5_ a6_ [])))) (ji [some 0] [some 0,none,none,none] (yu N a0_ a1_ x5 x3 e_r6) (.ks .nil) rfl rfl (.back rfl rfl (.same fa) rfl (.old rfl rfl (.old rfl rfl (.old rfl rfl .nil)))) (rc (.aggL (rc (.same nI) (rc (.slice rfl) rn))) (rc (.same nS) (rc (.same nI) rn))) (.tupleL (rc ((zG.pz rfl)) (rc (.same nI) rn))) rfl)) az))) ?_)
 refine sq ?_
 refine sh fol (kAK (kBK x3 x4 [(8,pz ok8 0 ((i7:Int).toNat*9+0)),(9,.i n9),(29,.bool (!decide (n9=0)))])) ?_
 refine ihB h (fun c10 h=>?_) (fun c10 h=>?_)
 ·refine sg fol ((4,.ptr 3 0)::(kA4 n9)) (bS a1_::(kC a0_ a1_ (.cells (cF a2_ a3_ a4_ a5_ a6_)::(kC a0_ a1_ [])))) ?_
  refine Goes.ret ?_
  simp only[Option.some.injEq,Prod.mk.injEq]at h
  obtain⟨rfl,rfl⟩:=h
  exact(gh2 (kO a0_ a1_ [.i n9]) (Sub.norm [] [some 0] (by rw[hB];rfl) rfl (.keep (.tupleL (rc (.aggL (rc (.same nI) (rc (.slice rfl) rn))) (rc (.same nI) rn))) .nil) (.ks .nil)))
 ·refine Goes.skip ?_
  refine sq ?_
  refine sq ?_
  obtain⟨⟨n16,n17,n18⟩,g_v19,h⟩:=bnd h
  refine Goes.cut (s':=(ofG 60 (kAK [(8,.ptr 0 ((i7:Int).toNat*9+0)),(9,.i n18)]),(bS a1_::(kC a0_ a1_ (kAG a2_ a3_ a4_ a5_ a6_ (kAC n16 n17)))))) ?_ ?_
  ·rcases ok8 with _|_
   ·try dsimp only at g_v19
    cases g_v19
   ·try dsimp only at g_v19
    obtain⟨x11,e_x11,g_v19⟩:=bnd g_v19
    obtain⟨r12,e_r12,g_v19⟩:=bnd g_v19
    obtain⟨r13,e_r13,g_v19⟩:=bnd g_v19
    obtain⟨r14,e_r14,g_v19⟩:=bnd g_v19
    obtain⟨r15,e_r15,g_v19⟩:=bnd g_v19
    simp only[Option.some.injEq,Prod.mk.injEq]at g_v19
    obtain⟨rfl,rfl,rfl⟩:=g_v19
    exact qm.rq fol [2,4,6,11,13,15] (kAK [(8,.ptr 0 ((i7:Int).toNat*9+0)),(9,.i r15)]) (bS a1_::(kC a0_ a1_ (kAG a2_ a3_ a4_ a5_ a6_ (kAC r13 r14)))) (ac (hs (.run [0] (vz Tryz.prog 68 (.ptr 0 ((i7:Int).toNat*9+0))) (bS a1_::(kC a0_ a1_ (kAG a2_ a3_ a4_ a5_ a6_ []))) (.agg (cS x11)) (bS a1_::(kC a0_ a1_ (kAG a2_ a3_ a4_ a5_ a6_ []))) false) (qfQ ag68 (E:=qh) (l:=a1_) rfl rfl e_x11)) (ac (cv (qda x11 x3 e_r12)) (ac (cv (qz (!r12) 24 e_r13)) (ac (hs (.run [0] (vz Tryz.prog 3 (.ptr 0 ((i7:Int).toNat*9+6))) (bS a1_::(kC a0_ a1_ (kAG a2_ a3_ a4_ a5_ a6_ []))) (.i x11.Limit) (bS a1_::(kC a0_ a1_ (kAG a2_ a3_ a4_ a5_ a6_ []))) false) (ld_p ce3 (E:=qh) (l:=a1_) rfl rfl e_x11 (nl rfl) rfl)) (ac (cv (qz (decide (x4>x11.Limit)) 31 e_r14)) (ac (hs (.call 86 [.slice 4 0 2 2 1] (bS a1_::(kC a0_ a1_ (kAG a2_ a3_ a4_ a5_ a6_ (kAC r13 r14)))) [4] [vl encI ([r13,r14]:List Int)] (.i r15)) (vI (FzL.cons (Fz.lit rfl rfl (FzL.still (AllST.cons tI (AllST.cons tI AllST.nil)))) FzL.nil) (qN N ([r13,r14]:List Int) e_r15) tI rfl)) az))))))
  try dsimp only at h
  refine sh fol (kAK [(8,.ptr 0 ((i7:Int).toNat*9+0)),(9,.i n18),(49,.bool (!decide (n18=0)))]) ?_
  refine ihB h (fun c20 h=>?_) (fun c20 h=>?_)
  ·refine sg fol ((4,.ptr 3 0)::(kA4 n18)) (bS a1_::(kC a0_ a1_ (.cells (cF a2_ a3_ a4_ a5_ a6_)::(kC a0_ a1_ (kAC n16 n17))))) ?_
   refine Goes.ret ?_
   simp only[Option.some.injEq,Prod.mk.injEq]at h
   obtain⟨rfl,rfl⟩:=h
   exact(gh2 (kO a0_ a1_ [.i n18]) (Sub.norm [] [some 0] (by rw[hB];rfl) rfl (.keep (.tupleL (rc (.aggL (rc (.same nI) (rc (.slice rfl) rn))) (rc (.same nI) rn))) .nil) (.ks .nil)))
  ·refine Goes.skip ?_
   obtain⟨x21,e_x21,h⟩:=bnd h
   obtain⟨l22,e_l22,h⟩:=bnd h
   refine sq (gq fol [3,7] (kAK []) (bS l22::(kC a0_ a1_ (kAG a2_ a3_ a4_ a5_ a6_ (kAC n16 n17)))) (ac (hs (.run [0] (vz Tryz.prog 3 (.ptr 0 ((i7:Int).toNat*9+5))) (bS a1_::(kC a0_ a1_ (kAG a2_ a3_ a4_ a5_ a6_ (kAC n16 n17)))) (.i x21.Used) (bS a1_::(kC a0_ a1_ (kAG a2_ a3_ a4_ a5_ a6_ (kAC n16 n17)))) false) (ld_p ce3 (E:=qh) (l:=a1_) rfl rfl e_x21 (nl rfl) rfl)) (ac (hs (.run [0] (qav Tryz.prog 3 (.ptr 0 ((i7:Int).toNat*9+5)) (.i (w64 (x21.Used+1)))) (bS a1_::(kC a0_ a1_ (kAG a2_ a3_ a4_ a5_ a6_ (kAC n16 n17)))) .undef (bS l22::(kC a0_ a1_ (kAG a2_ a3_ a4_ a5_ a6_ (kAC n16 n17)))) true) (qd9 (E:=qh) (l:=a1_) (y:=(⟨x21.Name,x21.Batch,x21.Born,x21.Last,x21.Uses,w64 (x21.Used+1),x21.Limit,x21.Until,x21.Gone⟩:qc)) rfl (show _=some 1 by kernel_rfl) rfl e_x21 rfl rfl rfl rfl rfl e_l22 rfl)) az)) ?_)
   refine Goes.sub (show Sub (ofG 60 (kAK []),(bS l22::(kC a0_ a1_ (kAG a2_ a3_ a4_ a5_ a6_ (kAC n16 n17))))) (ofG 60 (kBI []),(bS l22::(kC a0_ l22 [bZ])))from(Sub.norm [] [some 0,some 1,some 3] (by rw[hB];rfl) rfl (.kp (.kp .nil)) (.ks (.kb rfl (.cells (rc (.same nI) (rc (.sliceE rfl (qa7 e_l22)) rn))) (.kb rfl (.same sn) .nil))))) ?_
   refine sg fol ((4,.ptr 2 0)::kBi) (bS l22::(kC a0_ l22 (kC a0_ l22 []))) ?_
   refine Goes.ret ?_
   simp only[Option.some.injEq,Prod.mk.injEq]at h
   obtain⟨rfl,rfl⟩:=h
   exact(gh2 (kO a0_ l22 [.i 0]) (Sub.norm [] [some 0] (by rw[hB];rfl) rfl (.keep (.tupleL (rc (.aggL (rc (.same nI) (rc (.slice rfl) rn))) (rc (.same nI) rn))) .nil) (.ks .nil)))
def yK (N:Nat) (a0_:Int) (a1_:List qc) (a2_:Int) (a3_:Str) (a4_:List Str) (a5_:List Int) (a6_:Str):Option ((List qc)×Int):=
 (idx a4_ 0).bind fun x3=>
 (idx a5_ 0).bind fun x4=>
 (zC N a0_ a1_ x3 x4).bind fun(i6,ok7,n8)=>
 if(!decide (n8=0))=true then
 some (a1_,n8)
 else
 ((match ok7 with
 |false=>
 none
 |true=>
 (idx a1_ i6).bind fun x10=>
 (put a1_ i6 (⟨x10.Name,x10.Batch,x10.Born,x10.Last,x10.Uses,x10.Used,x10.Limit,x10.Until,true⟩:qc)).bind fun l11=>
 some l11):Option (List qc)).bind fun l12=>
 some (l12,0)
theorem qd5 (N:Nat) (a0_:Int) (a1_:List qc) (a2_:Int) (a3_:Str) (a4_:List Str) (a5_:List Int) (a6_:Str) {l1:List qc} {n2:Int} (h:yK N a0_ a1_ a2_ a3_ a4_ a5_ a6_=some (l1,n2)):qf Tryz.prog (.fn 144) (kO a0_ a1_ [.agg (cF a2_ a3_ a4_ a5_ a6_)]) [bS a1_] (.tuple (kO a0_ l1 [.i n2])) [bS l1]:=by
 unfold yK at h
 refine Goes.fnH Tryz.func144 rfl rfl (m:=29) rfl (rs:=[.cell 4 31,.tmp 5]) rfl (l:=(kAr a0_ a1_ [(1,.agg (cF a2_ a3_ a4_ a5_ a6_))])) rfl ?_
 intro B hB
 refine sg fol (kJ []) (bS a1_::(kC a0_ a1_ (kAG a2_ a3_ a4_ a5_ a6_ []))) ?_
 obtain⟨x3,e_x3,h⟩:=bnd h
 obtain⟨x4,e_x4,h⟩:=bnd h
 obtain⟨⟨i6,ok7,n8⟩,e_r5,h⟩:=bnd h
 try dsimp only at h
 refine sq (gr fol [3,4,7,8,9] (kAK [(6,pz ok7 0 ((i6:Int).toNat*9+0)),(7,.i n8)]) (ac (iv xU encS e_x3) (ac (lv 0 ce9 encS e_x3 rfl) (ac (iv qd0 encI e_x4) (ac (lv 0 ce3 encI e_x4 rfl) (ac (hs (.callH 182 (kO a0_ a1_ [.str x3,.i x4]) (bS a1_::(kC a0_ a1_ (kAG a2_ a3_ a4_ a5_ a6_ []))) [0] (.tuple [pz ok7 0 ((i6:Int).toNat*9+0),.i n8]) (bS a1_::(kC a0_ a1_ (kAG a2_ a3_ a4_ a5_ a6_ [])))) (ji [some 0] [some 0,none,none,none] (yu N a0_ a1_ x3 x4 e_r5) (.ks .nil) rfl rfl (.back rfl rfl (.same fa) rfl (.old rfl rfl (.old rfl rfl (.old rfl rfl .nil)))) (rc (.aggL (rc (.same nI) (rc (.slice rfl) rn))) (rc (.same nS) (rc (.same nI) rn))) (.tupleL (rc ((zG.pz rfl)) (rc (.same nI) rn))) rfl)) az))))) ?_)
 refine sq ?_
 refine sh fol (kAK [(6,pz ok7 0 ((i6:Int).toNat*9+0)),(7,.i n8),(22,.bool (!decide (n8=0)))]) ?_
 refine ihB h (fun c9 h=>?_) (fun c9 h=>?_)
 ·refine sg fol ((4,.ptr 3 0)::(kA4 n8)) (bS a1_::(kC a0_ a1_ (.cells (cF a2_ a3_ a4_ a5_ a6_)::(kC a0_ a1_ [])))) ?_
  refine Goes.ret ?_
  simp only[Option.some.injEq,Prod.mk.injEq]at h
  obtain⟨rfl,rfl⟩:=h
  exact(gh2 (kO a0_ a1_ [.i n8]) (Sub.norm [] [some 0] (by rw[hB];rfl) rfl (.keep (.tupleL (rc (.aggL (rc (.same nI) (rc (.slice rfl) rn))) (rc (.same nI) rn))) .nil) (.ks .nil)))
 ·refine Goes.skip ?_
  refine sq ?_
  obtain⟨l12,g_v13,h⟩:=bnd h
  refine Goes.cutS (s':=(ofG 29 (kBI []),(bS l12::(kC a0_ l12 [bZ])))) ?_ ?_
  ·rcases ok7 with _|_
   ·try dsimp only at g_v13
    cases g_v13
   ·try dsimp only at g_v13
    obtain⟨x10,e_x10,g_v13⟩:=bnd g_v13
    obtain⟨l11,e_l11,g_v13⟩:=bnd g_v13
    obtain rfl:=si g_v13
    exact qm.sub (qm.rq fol [3] (kAK []) (bS l11::(kC a0_ a1_ (kAG a2_ a3_ a4_ a5_ a6_ []))) (ac (hs (.run [0] (qav Tryz.prog 4 (.ptr 0 ((i6:Int).toNat*9+8)) (.bool true)) (bS a1_::(kC a0_ a1_ (kAG a2_ a3_ a4_ a5_ a6_ []))) .undef (bS l11::(kC a0_ a1_ (kAG a2_ a3_ a4_ a5_ a6_ []))) true) (qd9 (E:=qh) (l:=a1_) (y:=(⟨x10.Name,x10.Batch,x10.Born,x10.Last,x10.Uses,x10.Used,x10.Limit,x10.Until,true⟩:qc)) rfl (show _=some 1 by kernel_rfl) rfl e_x10 rfl rfl rfl rfl rfl e_l11 rfl)) az)) ((show Sub (ofG 29 (kAK []),(bS l11::(kC a0_ a1_ (kAG a2_ a3_ a4_ a5_ a6_ [])))) (ofG 29 (kBI []),(bS l11::(kC a0_ l11 [bZ])))from(Sub.norm [] [some 0,some 1,some 3] (by rw[hB];rfl) rfl (.kp (.kp .nil)) (.ks (.kb rfl (.cells (rc (.same nI) (rc (.sliceE rfl (qa7 e_l11)) rn))) (.kb rfl (.same sn) .nil))))).trans (Sub.refl _))
  intro _ hsub
  refine Goes.sub hsub ?_
  refine sg fol ((4,.ptr 2 0)::kBi) (bS l12::(kC a0_ l12 (kC a0_ l12 []))) ?_
  refine Goes.ret ?_
  simp only[Option.some.injEq,Prod.mk.injEq]at h
  obtain⟨rfl,rfl⟩:=h
  exact(gh2 (kO a0_ l12 [.i 0]) (Sub.norm [] [some 0] (by rw[hB];rfl) rfl (.keep (.tupleL (rc (.aggL (rc (.same nI) (rc (.slice rfl) rn))) (rc (.same nI) rn))) .nil) (.ks .nil)))
def zb (a1_:List qc) (a4_:List Str) (a5_:List Int):Nat→(List qc)→Int→Int→Option ((List qc)×Int)
 |0,_,_,_=>none
 |K+1,l3,n4,n5=>
  if n4<(a1_.length:Int)then
  (((idx l3 n4).bind fun x13=>
  (idx a4_ 0).bind fun x14=>
  if(!(x13.Batch==x14))=true then
  some (l3,n5)
  else
  ((if n5=10 then
  some 20
  else
  some n5:Option Int)).bind fun n16=>
  (idx a5_ 0).bind fun x19=>
  (jL x13 x19).bind fun r20=>
  ((if(!r20)=true then
  some 0
  else
  some n16:Option Int)).bind fun n21=>
  (put l3 n4 (⟨x13.Name,x13.Batch,x13.Born,x13.Last,x13.Uses,x13.Used,x13.Limit,x13.Until,true⟩:qc)).bind fun l24=>
  some (l24,n21):Option ((List qc)×Int))).bind fun(l10,n11)=>
  zb a1_ a4_ a5_ K l10 (w64 (n4+1)) n11
  else
  some (l3,n5)
def yh (N:Nat) (a0_:Int) (a1_:List qc) (a2_:Int) (a3_:Str) (a4_:List Str) (a5_:List Int) (a6_:Str):Option ((List qc)×Int):=
 (zb a1_ a4_ a5_ N a1_ 0 10).bind fun(l6,n7)=>
 some (l6,n7)
theorem qc7 (N:Nat) (a0_:Int) (a1_:List qc) (a2_:Int) (a3_:Str) (a4_:List Str) (a5_:List Int) (a6_:Str) {l1:List qc} {n2:Int} (h:yh N a0_ a1_ a2_ a3_ a4_ a5_ a6_=some (l1,n2)):qf Tryz.prog (.fn 145) (kO a0_ a1_ [.agg (cF a2_ a3_ a4_ a5_ a6_)]) [bS a1_] (.tuple (kO a0_ l1 [.i n2])) [bS l1]:=by
 unfold yh at h
 refine Goes.fnH Tryz.func145 rfl rfl (m:=45) rfl (rs:=[.cell 4 31,.tmp 5]) rfl (l:=(kAr a0_ a1_ [(1,.agg (cF a2_ a3_ a4_ a5_ a6_))])) rfl ?_
 intro B hB
 refine sg fol (kJ []) (bS a1_::(kC a0_ a1_ (kAG a2_ a3_ a4_ a5_ a6_ []))) ?_
 refine sh fol (kJ [(6,.i 10)]) ?_
 refine sq ?_
 refine sh fol (kJ [(6,.i 10),(11,.i (a1_.length:Int)),(12,.i 0)]) ?_
 refine Goes.block ?_
 obtain⟨r8,g8,h⟩:=bnd h
 refine Goes.imp (Q:=fun x s'=>(x= .exit 0∧ ∃l6 n7,(l6,n7)=r8∧Sub s' (ofG 45 (kBI (kBj n7)),(bS l6::(kC a0_ l6 [bZ]))))) ?_ ?_
 ·refine Goes.loopS (fun M s=> ∃(l3:List qc) (n4:Int) (n5:Int),s=(ofG 45 (kJ ((6,.i n5)::(11,.i (a1_.length:Int))::(kBM n4))),(bS l3::(kC a0_ l3 (kAG a2_ a3_ a4_ a5_ a6_ []))))∧zb a1_ a4_ a5_ M l3 n4 n5=some r8) ?_ (m:=N) ⟨_,_,_,rfl,g8⟩
  rintro M s ⟨l3,n4,n5,rfl,g8⟩
  cases M with
  |zero=>simp only[zb]at g8;cases g8
  |succ M=>
   rw[zb]at g8
   refine sh fol (kJ [(6,.i n5),(11,.i (a1_.length:Int)),(12,.i n4),(13,.bool (decide (n4<(a1_.length:Int))))]) ?_
   refine sq ?_
   refine ihD g8 (fun c9 g8=>?_) (fun c9 g8=>?_)
   ·refine Goes.skip ?_
    refine sq ?_
    obtain⟨r12,g12,g8⟩:=bnd g8
    refine Goes.imp (Q:=fun x s'=>(x= .normal∧ ∃l10 n11,(l10,n11)=r12∧Sub s' (ofG 45 (kJ ((6,.i n11)::(11,.i (a1_.length:Int))::(kBM n4))),(bS l10::(kC a0_ l10 (kAG a2_ a3_ a4_ a5_ a6_ [])))))) ?_ ?_
    ·refine Goes.block ?_
     refine sh fol (kJ (kBK n5 n4 ((11,.i (a1_.length:Int))::(kBM n4)))) ?_
     obtain⟨x13,e_x13,g12⟩:=bnd g12
     refine sq (gr fol [3] (kJ ((6,.i n5)::(kAN n4 (a1_.length:Int) []))) (ac (hs (.done (.opt (qo Tryz.prog 29 (.slice 0 0 l3.length l3.length 9) (.i n4))) (.ptr 0 ((n4:Int).toNat*9+0))) (qjM qcd e_x13)) az) ?_)
     refine sq ?_
     obtain⟨x14,e_x14,g12⟩:=bnd g12
     refine sq (gr fol [3,6,7] (kJ ((6,.i n5)::(kAN n4 (a1_.length:Int) [(27,.bool (!(x13.Batch==x14)))]))) (ac (hs (.run [0] (vz Tryz.prog 9 (.ptr 0 ((n4:Int).toNat*9+1))) (bS l3::(kC a0_ l3 (kAG a2_ a3_ a4_ a5_ a6_ []))) (.str x13.Batch) (bS l3::(kC a0_ l3 (kAG a2_ a3_ a4_ a5_ a6_ []))) false) (ld_p ce9 (E:=qh) (l:=l3) rfl rfl e_x13 (nl rfl) rfl)) (ac (iv xU encS e_x14) (ac (lv 0 ce9 encS e_x14 rfl) az))) ?_)
     refine ihB g12 (fun c15 g12=>?_) (fun c15 g12=>?_)
     ·refine Goes.exit ?_
      obtain rfl:=si g12
      exact⟨rfl,_,_,rfl,(Sub.keep [2,3,4,6,11,12] rfl rfl)⟩
     ·refine Goes.skip ?_
      refine sq ?_
      refine sh fol (kJ ((6,.i n5)::(kAN n4 (a1_.length:Int) [(29,.bool (decide (n5=10)))]))) ?_
      obtain⟨r17,g17,g12⟩:=bnd g12
      refine Goes.imp (Q:=fun x s'=>(x= .normal∧ ∃n16,n16=r17∧Sub s' (ofG 45 (kJ ((6,.i n16)::(kAN n4 (a1_.length:Int) []))),(bS l3::(kC a0_ l3 (kAG a2_ a3_ a4_ a5_ a6_ [])))))) ?_ ?_
      ·refine ihD g17 (fun c18 g17=>?_) (fun c18 g17=>?_)
       ·refine gh fol (kJ (kBm (kAN n4 (a1_.length:Int) []))) ?_
        obtain rfl:=si g17
        exact⟨rfl,_,rfl,(Sub.refl _)⟩
       ·refine Goes.skip ?_
        obtain rfl:=si g17
        exact⟨rfl,_,rfl,(Sub.keep [2,3,4,6,8,11,12] rfl rfl)⟩
      rintro x s' ⟨rfl,n16,rfl,hsub⟩
      refine Goes.sub hsub ?_
      refine sq ?_
      obtain⟨x19,e_x19,g12⟩:=bnd g12
      obtain⟨r20,e_r20,g12⟩:=bnd g12
      refine sq (gr fol [2,5,6,7] (kJ ((6,.i n16)::(kAN n4 (a1_.length:Int) [(38,.bool (!r20))]))) (ac (hs (.run [0] (vz Tryz.prog 68 (.ptr 0 ((n4:Int).toNat*9+0))) (bS l3::(kC a0_ l3 (kAG a2_ a3_ a4_ a5_ a6_ []))) (.agg (cS x13)) (bS l3::(kC a0_ l3 (kAG a2_ a3_ a4_ a5_ a6_ []))) false) (qfQ ag68 (E:=qh) (l:=l3) rfl rfl e_x13)) (ac (iv qd0 encI e_x19) (ac (lv 0 ce3 encI e_x19 rfl) (ac (cv (qaz x13 x19 e_r20)) az)))) ?_)
      obtain⟨r22,g22,g12⟩:=bnd g12
      refine Goes.imp (Q:=fun x s'=>(x= .normal∧ ∃n21,n21=r22∧Sub s' (ofG 45 (kJ ((6,.i n21)::(kAN n4 (a1_.length:Int) []))),(bS l3::(kC a0_ l3 (kAG a2_ a3_ a4_ a5_ a6_ [])))))) ?_ ?_
      ·refine ihB g22 (fun c23 g22=>?_) (fun c23 g22=>?_)
       ·refine gh fol (kJ ((6,.i 0)::(kAN n4 (a1_.length:Int) []))) ?_
        obtain rfl:=si g22
        exact⟨rfl,_,rfl,(Sub.refl _)⟩
       ·refine Goes.skip ?_
        obtain rfl:=si g22
        exact⟨rfl,_,rfl,(Sub.keep [2,3,4,6,8,11,12] rfl rfl)⟩
      rintro x s' ⟨rfl,n21,rfl,hsub⟩
      refine Goes.sub hsub ?_
      obtain⟨l24,e_l24,g12⟩:=bnd g12
      refine gq fol [3] (kJ ((6,.i n21)::(11,.i (a1_.length:Int))::(kBM n4))) (bS l24::(kC a0_ l3 (kAG a2_ a3_ a4_ a5_ a6_ []))) (ac (hs (.run [0] (qav Tryz.prog 4 (.ptr 0 ((n4:Int).toNat*9+8)) (.bool true)) (bS l3::(kC a0_ l3 (kAG a2_ a3_ a4_ a5_ a6_ []))) .undef (bS l24::(kC a0_ l3 (kAG a2_ a3_ a4_ a5_ a6_ []))) true) (qd9 (E:=qh) (l:=l3) (y:=(⟨x13.Name,x13.Batch,x13.Born,x13.Last,x13.Uses,x13.Used,x13.Limit,x13.Until,true⟩:qc)) rfl (show _=some 1 by kernel_rfl) rfl e_x13 rfl rfl rfl rfl rfl e_l24 rfl)) az) ?_
      obtain rfl:=si g12
      exact⟨rfl,_,_,rfl,((show Sub (ofG 45 (kJ ((6,.i n21)::(11,.i (a1_.length:Int))::(kBM n4))),(bS l24::(kC a0_ l3 (kAG a2_ a3_ a4_ a5_ a6_ [])))) (ofG 45 (kJ ((6,.i n21)::(11,.i (a1_.length:Int))::(kBM n4))),(bS l24::(kC a0_ l24 (kAG a2_ a3_ a4_ a5_ a6_ []))))from(Sub.norm [] [some 0,some 1,some 2,some 3] (by rw[hB];rfl) rfl (.kp (.kp (.kp (.keep (.same nI) (.keep (.same nI) (.keep (.same nI) .nil)))))) (.ks (.kb rfl (.cells (rc (.same nI) (rc (.sliceE rfl (qa7 e_l24)) rn))) (.kb rfl (.same sn) (.kb rfl (.same sn) .nil)))))).trans (Sub.refl _))⟩
    rintro x s' ⟨rfl,l10,n11,rfl,hsub⟩
    try dsimp only at g8
    refine Goes.sub hsub ?_
    refine gh fol (kJ ((6,.i n11)::(11,.i (a1_.length:Int))::(kBM (w64 (n4+1))))) ?_
    exact⟨M,(ofG 45 (kJ ((6,.i n11)::(11,.i (a1_.length:Int))::(kBM (w64 (n4+1))))),(bS l10::(kC a0_ l10 (kAG a2_ a3_ a4_ a5_ a6_ [])))),Nat.lt_succ_self _,(Sub.refl _),_,_,_,rfl,g8⟩
   ·refine Goes.exit ?_
    obtain rfl:=si g8
    exact⟨rfl,_,_,rfl,(Sub.norm [] [some 0,some 1,some 3] (by rw[hB];rfl) rfl (.kp (.drop (.kp (.keep (.same nI) .nil)))) (.ks (.kb rfl (.cells (rc (.same nI) (rc (.slice rfl) rn))) (.kb rfl (.same sn) .nil))))⟩
 rintro x s' ⟨rfl,l6,n7,rfl,hsub⟩
 try dsimp only at h
 refine Goes.sub hsub ?_
 refine sg fol ((4,.ptr 2 0)::(kA4 n7)) (bS l6::(kC a0_ l6 (kC a0_ l6 []))) ?_
 refine Goes.ret ?_
 simp only[Option.some.injEq,Prod.mk.injEq]at h
 obtain⟨rfl,rfl⟩:=h
 exact(gh2 (kO a0_ l6 [.i n7]) (Sub.norm [] [some 0] (by rw[hB];rfl) rfl (.keep (.tupleL (rc (.aggL (rc (.same nI) (rc (.slice rfl) rn))) (rc (.same nI) rn))) .nil) (.ks .nil)))
def qG (N:Nat) (a0_:Int) (a1_:List qc) (a2_:Int) (a3_:Str) (a4_:List Str) (a5_:List Int) (a6_:Str):Option (Int×(List qc)×Int):=
 (idx a5_ 0).bind fun x4=>
 (yA x4).bind fun r5=>
 (qE (decide (x4<a0_)) 19).bind fun r6=>
 (qC N ([r5,r6]:List Int)).bind fun r7=>
 if(!decide (r7=0))=true then
 some (0,[],r7)
 else
 ((zY).bind fun r9=>
 if(a3_==[109,97,107,101])=true then
 (qy a0_ a1_).bind fun l12=>
 (xL N a0_ l12 a2_ a3_ a4_ a5_ a6_).bind fun(l14,n15)=>
 some (l14,n15)
 else
 if(a3_==[116,101,115,116])=true then
 (qy a0_ a1_).bind fun l18=>
 (yM N a0_ l18 a2_ a3_ a4_ a5_ a6_).bind fun(l20,n21)=>
 some (l20,n21)
 else
 if(a3_==[117,115,101])=true then
 (qy a0_ a1_).bind fun l24=>
 (xQ N a0_ l24 a2_ a3_ a4_ a5_ a6_).bind fun(l26,n27)=>
 some (l26,n27)
 else
 if(a3_==[102,97,105,108])=true then
 (qy a0_ a1_).bind fun l30=>
 (yK N a0_ l30 a2_ a3_ a4_ a5_ a6_).bind fun(l32,n33)=>
 some (l32,n33)
 else
 if(a3_==[114,101,99,97,108,108])=true then
 (qy a0_ a1_).bind fun l36=>
 (yh N a0_ l36 a2_ a3_ a4_ a5_ a6_).bind fun(l38,n39)=>
 some (l38,n39)
 else
 if(a3_==[117,110,100,111])=true then
 none
 else
 none:Option ((List qc)×Int)).bind fun(l45,n46)=>
 some (x4,l45,n46)
theorem qbx (N:Nat) (a0_:Int) (a1_:List qc) (a2_:Int) (a3_:Str) (a4_:List Str) (a5_:List Int) (a6_:Str) {n1:Int} {l2:List qc} {n3:Int} (h:qG N a0_ a1_ a2_ a3_ a4_ a5_ a6_=some (n1,l2,n3)):qf Tryz.prog (.fn 147) (kA5 a0_ a1_ [.agg (cF a2_ a3_ a4_ a5_ a6_)]) [] (.tuple (kA5 n1 l2 [.i n3])) []:=by
 unfold qG at h
 refine Goes.fnH Tryz.func147 rfl rfl (m:=43) rfl (rs:=[.cell 4 31,.tmp 5]) rfl (l:=[(0,.agg [.i a0_,vl qh a1_]),(1,.agg (cF a2_ a3_ a4_ a5_ a6_))]) rfl ?_
 intro B hB
 refine sg fol (kAj (kA8 [(4,.ptr 2 0)])) (kAD a0_ a1_ (kAG a2_ a3_ a4_ a5_ a6_ [])) ?_
 obtain⟨x4,e_x4,h⟩:=bnd h
 refine sq (gr fol [2,3] (kAj (kA8 ((4,.ptr 2 0)::(kBj x4)))) (ac (iv qd0 encI e_x4) (ac (lv 0 ce3 encI e_x4 rfl) az)) ?_)
 refine sq ?_
 obtain⟨r5,e_r5,h⟩:=bnd h
 obtain⟨r6,e_r6,h⟩:=bnd h
 obtain⟨r7,e_r7,h⟩:=bnd h
 refine sq (gq fol [1,6,8] (kAj (kA8 ((4,.ptr 2 0)::(kBK x4 r7 [])))) (kI a0_ a1_ a2_ a3_ a4_ a5_ a6_ r5 r6 []) (ac (cv (qbM x4 e_r5)) (ac (cv (qz (decide (x4<a0_)) 19 e_r6)) (ac (hs (.call 86 [.slice 3 0 2 2 1] (kI a0_ a1_ a2_ a3_ a4_ a5_ a6_ r5 r6 []) [3] [vl encI ([r5,r6]:List Int)] (.i r7)) (vI (FzL.cons (Fz.lit rfl rfl (FzL.still (AllST.cons tI (AllST.cons tI AllST.nil)))) FzL.nil) (qN N ([r5,r6]:List Int) e_r7) tI rfl)) az))) ?_)
 refine sh fol (kAj (kA8 ((4,.ptr 2 0)::(kBK x4 r7 [(24,.bool (!decide (r7=0)))])))) ?_
 refine ihB h (fun c8 h=>?_) (fun c8 h=>?_)
 ·refine sh fol ((4,.ptr 2 0)::(kA4 r7)) ?_
  refine Goes.ret ?_
  simp only[Option.some.injEq,Prod.mk.injEq]at h
  obtain⟨rfl,rfl,rfl⟩:=h
  exact(gh2 [.agg [.i 0,.nilslice],.i r7] (Sub.norm [] [] (by rw[hB];rfl) rfl (.keep (.tupleL (rc (.aggL (rc (.same nI) (rc (.nilv) rn))) (rc (.same nI) rn))) .nil) .nil))
 ·refine Goes.skip ?_
  refine sq ?_
  obtain⟨⟨l45,n46⟩,g_v47,h⟩:=bnd h
  refine Goes.cutS (s':=(ofG 43 (kBX [(6,.i x4),(8,.ptr 1 0),(9,.i n46)]),(bZ::(kAD a0_ l45 [])))) ?_ ?_
  ·obtain⟨r9,e_r9,g_v47⟩:=bnd g_v47
   rcases wyB g_v47 with⟨c10,g_v47⟩|⟨c10,g_v47⟩
   ·obtain⟨l12,e_r11,g_v47⟩:=bnd g_v47
    obtain⟨⟨l14,n15⟩,e_r13,g_v47⟩:=bnd g_v47
    try dsimp only at g_v47
    simp only[Option.some.injEq,Prod.mk.injEq]at g_v47
    obtain⟨rfl,rfl⟩:=g_v47
    exact qm.sub (qm.rq fol [0,3,6,8] (kAw x4 n15) (kI a0_ a1_ a2_ a3_ a4_ a5_ a6_ r5 r6 (.dead::(kAD a0_ l14 []))) (ac (cv (qH e_r9)) (ac (hs (.done (zx Tryz.prog 154 (fm1) (.str a3_) false) (.agg [.i 2,.i 3,.func (.func 141) [] []])) (qeZ qaR [[109,97,107,101],[116,101,115,116],[117,115,101],[102,97,105,108],[114,101,99,97,108,108],[117,110,100,111]] (jJ c10) rfl)) (ac (hs (.callH 82 [.agg (kBN a0_ a1_)] (kI a0_ a1_ a2_ a3_ a4_ a5_ a6_ r5 r6 []) [] (.agg (kBS a0_ l12)) (kI a0_ a1_ a2_ a3_ a4_ a5_ a6_ r5 r6 [bS l12])) (ji [] [none,none,none,none,some 0] (zO a0_ a1_ e_r11) .nil rfl rfl (.old rfl rfl (.old rfl rfl (.old rfl rfl (.old rfl rfl (.new rfl rfl (.same fa) rfl .nil))))) (rc (.same (qx.agg sn)) rn) (.aggL (rc (.same nI) (rc (.slice rfl) rn))) rfl)) (ac (hs (.callH 141 (kAa a0_ l12 [.agg (cF a2_ a3_ a4_ a5_ a6_)]) (kI a0_ a1_ a2_ a3_ a4_ a5_ a6_ r5 r6 [bS l12]) [4] (.tuple (kA5 a0_ l14 [.i n15])) (kI a0_ a1_ a2_ a3_ a4_ a5_ a6_ r5 r6 [.dead])) (ji [some 4] [none,none,none,none,none] (qe6 N a0_ l12 a2_ a3_ a4_ a5_ a6_ e_r13) (.ks .nil) rfl rfl (.old rfl rfl (.old rfl rfl (.old rfl rfl (.old rfl rfl (.dead .nil))))) (rc (.aggL (rc (.same nI) (rc (.slice rfl) rn))) (rc (.same (qx.agg sn)) rn)) (.same (qx.tuple sn)) rfl)) az))))) (Sub.norm [] [some 2,some 5] (by rw[hB];rfl) rfl (.kp (.keep (.same nI) (.kp (.keep (.same nI) .nil)))) (.kb rfl (.same sn) (.kb rfl (.same sn) .nil)))
   ·rcases wyB g_v47 with⟨c16,g_v47⟩|⟨c16,g_v47⟩
    ·obtain⟨l18,e_r17,g_v47⟩:=bnd g_v47
     obtain⟨⟨l20,n21⟩,e_r19,g_v47⟩:=bnd g_v47
     try dsimp only at g_v47
     simp only[Option.some.injEq,Prod.mk.injEq]at g_v47
     obtain⟨rfl,rfl⟩:=g_v47
     exact qm.sub (qm.rq fol [0,3,6,8] (kAw x4 n21) (kI a0_ a1_ a2_ a3_ a4_ a5_ a6_ r5 r6 (kBE l20 a0_)) (ac (cv (qH e_r9)) (ac (hs (.done (zx Tryz.prog 154 (fm1) (.str a3_) false) (.agg [.i 1,.i 2,.func (.func 142) [] []])) (qeZ qaR [[109,97,107,101],[116,101,115,116],[117,115,101],[102,97,105,108],[114,101,99,97,108,108],[117,110,100,111]] (ql c10 (jJ c16)) rfl)) (ac (hs (.callH 82 [.agg (kBN a0_ a1_)] (kI a0_ a1_ a2_ a3_ a4_ a5_ a6_ r5 r6 []) [] (.agg (kBS a0_ l18)) (kI a0_ a1_ a2_ a3_ a4_ a5_ a6_ r5 r6 [bS l18])) (ji [] [none,none,none,none,some 0] (zO a0_ a1_ e_r17) .nil rfl rfl (.old rfl rfl (.old rfl rfl (.old rfl rfl (.old rfl rfl (.new rfl rfl (.same fa) rfl .nil))))) (rc (.same (qx.agg sn)) rn) (.aggL (rc (.same nI) (rc (.slice rfl) rn))) rfl)) (ac (hs (.callH 142 (kAa a0_ l18 [.agg (cF a2_ a3_ a4_ a5_ a6_)]) (kI a0_ a1_ a2_ a3_ a4_ a5_ a6_ r5 r6 [bS l18]) [4] (.tuple (kAa a0_ l20 [.i n21])) (kI a0_ a1_ a2_ a3_ a4_ a5_ a6_ r5 r6 [bS l20])) (ji [some 4] [none,none,none,none,some 0] (qd4 N a0_ l18 a2_ a3_ a4_ a5_ a6_ e_r19) (.ks .nil) rfl rfl (.old rfl rfl (.old rfl rfl (.old rfl rfl (.old rfl rfl (.back rfl rfl (.same fa) rfl .nil))))) (rc (.aggL (rc (.same nI) (rc (.slice rfl) rn))) (rc (.same (qx.agg sn)) rn)) (.tupleL (rc (.aggL (rc (.same nI) (rc (.slice rfl) rn))) (rc (.same nI) rn))) rfl)) az))))) (Sub.norm [4] [some 2,some 5] (by rw[hB];rfl) rfl (.kp (.keep (.same nI) (.kp (.keep (.same nI) .nil)))) (.kb rfl (.same sn) (.kb rfl (.cells (rc (.same nI) (rc (.frz (Fz.sl (E:=qh) rfl rfl (nl rfl)) (qd qh _)) rn))) .nil)))
    ·rcases wyB g_v47 with⟨c22,g_v47⟩|⟨c22,g_v47⟩
     ·obtain⟨l24,e_r23,g_v47⟩:=bnd g_v47
      obtain⟨⟨l26,n27⟩,e_r25,g_v47⟩:=bnd g_v47
      try dsimp only at g_v47
      simp only[Option.some.injEq,Prod.mk.injEq]at g_v47
      obtain⟨rfl,rfl⟩:=g_v47
      exact qm.sub (qm.rq fol [0,3,6,8] (kAw x4 n27) (kI a0_ a1_ a2_ a3_ a4_ a5_ a6_ r5 r6 (kBE l26 a0_)) (ac (cv (qH e_r9)) (ac (hs (.done (zx Tryz.prog 154 (fm1) (.str a3_) false) (.agg [.i 1,.i 2,.func (.func 143) [] []])) (qeZ qaR [[109,97,107,101],[116,101,115,116],[117,115,101],[102,97,105,108],[114,101,99,97,108,108],[117,110,100,111]] (ql c10 (ql c16 (jJ c22))) rfl)) (ac (hs (.callH 82 [.agg (kBN a0_ a1_)] (kI a0_ a1_ a2_ a3_ a4_ a5_ a6_ r5 r6 []) [] (.agg (kBS a0_ l24)) (kI a0_ a1_ a2_ a3_ a4_ a5_ a6_ r5 r6 [bS l24])) (ji [] [none,none,none,none,some 0] (zO a0_ a1_ e_r23) .nil rfl rfl (.old rfl rfl (.old rfl rfl (.old rfl rfl (.old rfl rfl (.new rfl rfl (.same fa) rfl .nil))))) (rc (.same (qx.agg sn)) rn) (.aggL (rc (.same nI) (rc (.slice rfl) rn))) rfl)) (ac (hs (.callH 143 (kAa a0_ l24 [.agg (cF a2_ a3_ a4_ a5_ a6_)]) (kI a0_ a1_ a2_ a3_ a4_ a5_ a6_ r5 r6 [bS l24]) [4] (.tuple (kAa a0_ l26 [.i n27])) (kI a0_ a1_ a2_ a3_ a4_ a5_ a6_ r5 r6 [bS l26])) (ji [some 4] [none,none,none,none,some 0] (qeI N a0_ l24 a2_ a3_ a4_ a5_ a6_ e_r25) (.ks .nil) rfl rfl (.old rfl rfl (.old rfl rfl (.old rfl rfl (.old rfl rfl (.back rfl rfl (.same fa) rfl .nil))))) (rc (.aggL (rc (.same nI) (rc (.slice rfl) rn))) (rc (.same (qx.agg sn)) rn)) (.tupleL (rc (.aggL (rc (.same nI) (rc (.slice rfl) rn))) (rc (.same nI) rn))) rfl)) az))))) (Sub.norm [4] [some 2,some 5] (by rw[hB];rfl) rfl (.kp (.keep (.same nI) (.kp (.keep (.same nI) .nil)))) (.kb rfl (.same sn) (.kb rfl (.cells (rc (.same nI) (rc (.frz (Fz.sl (E:=qh) rfl rfl (nl rfl)) (qd qh _)) rn))) .nil)))
     ·rcases wyB g_v47 with⟨c28,g_v47⟩|⟨c28,g_v47⟩
      ·obtain⟨l30,e_r29,g_v47⟩:=bnd g_v47
       obtain⟨⟨l32,n33⟩,e_r31,g_v47⟩:=bnd g_v47
       try dsimp only at g_v47
       simp only[Option.some.injEq,Prod.mk.injEq]at g_v47
       obtain⟨rfl,rfl⟩:=g_v47
       exact qm.sub (qm.rq fol [0,3,6,8] (kAw x4 n33) (kI a0_ a1_ a2_ a3_ a4_ a5_ a6_ r5 r6 (kBE l32 a0_)) (ac (cv (qH e_r9)) (ac (hs (.done (zx Tryz.prog 154 (fm1) (.str a3_) false) (.agg [.i 1,.i 1,.func (.func 144) [] []])) (qeZ qaR [[109,97,107,101],[116,101,115,116],[117,115,101],[102,97,105,108],[114,101,99,97,108,108],[117,110,100,111]] (ql c10 (ql c16 (ql c22 (jJ c28)))) rfl)) (ac (hs (.callH 82 [.agg (kBN a0_ a1_)] (kI a0_ a1_ a2_ a3_ a4_ a5_ a6_ r5 r6 []) [] (.agg (kBS a0_ l30)) (kI a0_ a1_ a2_ a3_ a4_ a5_ a6_ r5 r6 [bS l30])) (ji [] [none,none,none,none,some 0] (zO a0_ a1_ e_r29) .nil rfl rfl (.old rfl rfl (.old rfl rfl (.old rfl rfl (.old rfl rfl (.new rfl rfl (.same fa) rfl .nil))))) (rc (.same (qx.agg sn)) rn) (.aggL (rc (.same nI) (rc (.slice rfl) rn))) rfl)) (ac (hs (.callH 144 (kAa a0_ l30 [.agg (cF a2_ a3_ a4_ a5_ a6_)]) (kI a0_ a1_ a2_ a3_ a4_ a5_ a6_ r5 r6 [bS l30]) [4] (.tuple (kAa a0_ l32 [.i n33])) (kI a0_ a1_ a2_ a3_ a4_ a5_ a6_ r5 r6 [bS l32])) (ji [some 4] [none,none,none,none,some 0] (qd5 N a0_ l30 a2_ a3_ a4_ a5_ a6_ e_r31) (.ks .nil) rfl rfl (.old rfl rfl (.old rfl rfl (.old rfl rfl (.old rfl rfl (.back rfl rfl (.same fa) rfl .nil))))) (rc (.aggL (rc (.same nI) (rc (.slice rfl) rn))) (rc (.same (qx.agg sn)) rn)) (.tupleL (rc (.aggL (rc (.same nI) (rc (.slice rfl) rn))) (rc (.same nI) rn))) rfl)) az))))) (Sub.norm [4] [some 2,some 5] (by rw[hB];rfl) rfl (.kp (.keep (.same nI) (.kp (.keep (.same nI) .nil)))) (.kb rfl (.same sn) (.kb rfl (.cells (rc (.same nI) (rc (.frz (Fz.sl (E:=qh) rfl rfl (nl rfl)) (qd qh _)) rn))) .nil)))
      ·rcases wyB g_v47 with⟨c34,g_v47⟩|⟨c34,g_v47⟩
       ·obtain⟨l36,e_r35,g_v47⟩:=bnd g_v47
        obtain⟨⟨l38,n39⟩,e_r37,g_v47⟩:=bnd g_v47
        try dsimp only at g_v47
        simp only[Option.some.injEq,Prod.mk.injEq]at g_v47
        obtain⟨rfl,rfl⟩:=g_v47
        exact qm.sub (qm.rq fol [0,3,6,8] (kAw x4 n39) (kI a0_ a1_ a2_ a3_ a4_ a5_ a6_ r5 r6 (kBE l38 a0_)) (ac (cv (qH e_r9)) (ac (hs (.done (zx Tryz.prog 154 (fm1) (.str a3_) false) (.agg [.i 1,.i 1,.func (.func 145) [] []])) (qeZ qaR [[109,97,107,101],[116,101,115,116],[117,115,101],[102,97,105,108],[114,101,99,97,108,108],[117,110,100,111]] (ql c10 (ql c16 (ql c22 (ql c28 (jJ c34))))) rfl)) (ac (hs (.callH 82 [.agg (kBN a0_ a1_)] (kI a0_ a1_ a2_ a3_ a4_ a5_ a6_ r5 r6 []) [] (.agg (kBS a0_ l36)) (kI a0_ a1_ a2_ a3_ a4_ a5_ a6_ r5 r6 [bS l36])) (ji [] [none,none,none,none,some 0] (zO a0_ a1_ e_r35) .nil rfl rfl (.old rfl rfl (.old rfl rfl (.old rfl rfl (.old rfl rfl (.new rfl rfl (.same fa) rfl .nil))))) (rc (.same (qx.agg sn)) rn) (.aggL (rc (.same nI) (rc (.slice rfl) rn))) rfl)) (ac (hs (.callH 145 (kAa a0_ l36 [.agg (cF a2_ a3_ a4_ a5_ a6_)]) (kI a0_ a1_ a2_ a3_ a4_ a5_ a6_ r5 r6 [bS l36]) [4] (.tuple (kAa a0_ l38 [.i n39])) (kI a0_ a1_ a2_ a3_ a4_ a5_ a6_ r5 r6 [bS l38])) (ji [some 4] [none,none,none,none,some 0] (qc7 N a0_ l36 a2_ a3_ a4_ a5_ a6_ e_r37) (.ks .nil) rfl rfl (.old rfl rfl (.old rfl rfl (.old rfl rfl (.old rfl rfl (.back rfl rfl (.same fa) rfl .nil))))) (rc (.aggL (rc (.same nI) (rc (.slice rfl) rn))) (rc (.same (qx.agg sn)) rn)) (.tupleL (rc (.aggL (rc (.same nI) (rc (.slice rfl) rn))) (rc (.same nI) rn))) rfl)) az))))) (Sub.norm [4] [some 2,some 5] (by rw[hB];rfl) rfl (.kp (.keep (.same nI) (.kp (.keep (.same nI) .nil)))) (.kb rfl (.same sn) (.kb rfl (.cells (rc (.same nI) (rc (.frz (Fz.sl (E:=qh) rfl rfl (nl rfl)) (qd qh _)) rn))) .nil)))
       ·rcases wyB g_v47 with⟨c40,g_v47⟩|⟨c40,g_v47⟩
        ·cases g_v47
        ·cases g_v47
  intro _ hsub
  try dsimp only at h
  refine Goes.sub hsub ?_
  refine sg fol (kBX [(8,.ptr 1 0),(9,.i n46)]) (bZ::(kAD x4 l45 [])) ?_
  refine sg fol (kBX (kA4 n46)) (kAD x4 l45 (kAD x4 l45 [])) ?_
  refine Goes.ret ?_
  simp only[Option.some.injEq,Prod.mk.injEq]at h
  obtain⟨rfl,rfl,rfl⟩:=h
  exact(gh2 (kA5 x4 l45 [.i n46]) (Sub.norm [] [] (by rw[hB];rfl) rfl (.keep (.tupleL (rc (.aggL (rc (.same nI) (rc (.same (qd qh _)) rn))) (rc (.same nI) rn))) .nil) .nil))
def jU (N:Nat) (a0_:List qg) (a1_:Option (List StateT)) (a2_:Int) (a3_:Str) (a4_:List Str) (a5_:List Int) (a6_:Str):Option ((List qg)×(Option (List StateT))×Int):=
 if(!decide (a2_=(w64 ((a0_.length:Int)+1))))=true then
 some (a0_,a1_,11)
 else
 if(a3_==[117,110,100,111])=true then
 ((match a1_ with
 |none=>
 some ((none:Option (List StateT)),decide (0=0))
 |some l6=>
 some ((some l6),decide ((l6.length:Int)=0))):Option ((Option (List StateT))×Bool)).bind fun(o7,b8)=>
 if b8=true then
 some (a0_,o7,12)
 else
 ((match o7 with
 |none=>
 (cut ([]:List StateT) 0 (w64 (0-1))).bind fun s12=>
 some (none:Option (List StateT))
 |some l11=>
 (cut l11 0 (w64 ((l11.length:Int)-1))).bind fun l13=>
 some (some l13)):Option (Option (List StateT))).bind fun o14=>
 (jH (⟨a2_,a3_,a4_,a5_,a6_⟩:qg)).bind fun r16=>
 (app 88 a0_ [r16]).bind fun l17=>
 some (l17,o14,0)
 else
 (zu a0_ a1_).bind fun(o19,n20,l21)=>
 (qG N n20 l21 a2_ a3_ a4_ a5_ a6_).bind fun(n23,l24,n25)=>
 if(!decide (n25=0))=true then
 some (a0_,o19,n25)
 else
 ((match o19 with
 |none=>
 some ([(⟨a2_,(⟨n23,l24⟩:yS)⟩:StateT)]:List StateT)
 |some l27=>
 (app 40 l27 [(⟨a2_,(⟨n23,l24⟩:yS)⟩:StateT)]).bind fun l28=>
 some l28):Option (List StateT)).bind fun l29=>
 (jH (⟨a2_,a3_,a4_,a5_,a6_⟩:qg)).bind fun r31=>
 (app 88 a0_ [r31]).bind fun l32=>
 some (l32,(some l29),0)
theorem qbS (N:Nat) (a0_:List qg) (a1_:Option (List StateT)) (a2_:Int) (a3_:Str) (a4_:List Str) (a5_:List Int) (a6_:Str) {l1:List qg} {o2:Option (List StateT)} {n3:Int} (h:jU N a0_ a1_ a2_ a3_ a4_ a5_ a6_=some (l1,o2,n3)):qf Tryz.prog (.fn 91) [.ptr 0 0,.agg (cF a2_ a3_ a4_ a5_ a6_)] (kA a0_ a1_ []) (.i n3) (.cells [.gslice 3 l1.length 5,hsl 4 3 o2]:: .dead:: .dead::(kAP l1 (kBC o2 []))):=by
 unfold jU at h
 refine Goes.fnH Tryz.func91 rfl rfl (m:=73) rfl (rs:=[.tmp 4]) rfl (l:=[(0,.ptr 0 0),(1,.agg (cF a2_ a3_ a4_ a5_ a6_))]) rfl ?_
 intro B hB
 refine sg fol (kAL []) (kA a0_ a1_ [.cells (cF a2_ a3_ a4_ a5_ a6_)]) ?_
 refine sq ?_
 refine sh fol (kAL [(15,.bool (!decide (a2_=(w64 ((a0_.length:Int)+1)))))]) ?_
 refine ihB h (fun c4 h=>?_) (fun c4 h=>?_)
 ·refine sh fol [(4,.i 11)] ?_
  refine Goes.ret ?_
  simp only[Option.some.injEq,Prod.mk.injEq]at h
  obtain⟨rfl,rfl,rfl⟩:=h
  exact(gh2 [.i 11] (Sub.norm [] [some 0,some 1,some 2,some 1,some 2] (by rw[hB];rfl) rfl (.keep (.same nI) .nil) (.kb rfl (.cells (rc (.gslice rfl) (rc (.hs rfl) rn))) (.lost (.lost (.ks (.ks .nil)))))))
 ·refine Goes.skip ?_
  refine sq ?_
  refine sh fol (kAL [(18,.bool (a3_==[117,110,100,111]))]) ?_
  refine ihB h (fun c5 h=>?_) (fun c5 h=>?_)
  ·refine sq ?_
   refine sq ?_
   obtain⟨⟨o7,b8⟩,g_v9,h⟩:=bnd h
   refine Goes.cutS (s':=(ofG 73 (kAL [(24,.bool b8)]),(kA a0_ o7 [.cells (cF a2_ a3_ a4_ a5_ a6_)]))) ?_ ?_
   ·rcases a1_ with _|l6
    ·try dsimp only at g_v9
     simp only[Option.some.injEq,Prod.mk.injEq]at g_v9
     obtain⟨rfl,rfl⟩:=g_v9
     exact qm.sub (qm.rg fol (kAL [(24,.bool (decide (0=0)))]) (kBh a0_ (kAP a0_ [.cells ((hof (none:Option (List StateT))).flatMap jl.c),.cells (cF a2_ a3_ a4_ a5_ a6_)]))) (Sub.norm [] [some 0,some 1,some 2,some 3] (by rw[hB];rfl) rfl (.kp (.kp (.keep (.same nB) .nil))) (.kb rfl (.cells (rc (.gslice rfl) (rc .hs0 rn))) (.ks (.ks (.kb rfl (.same sn) .nil)))))
    ·try dsimp only at g_v9
     simp only[Option.some.injEq,Prod.mk.injEq]at g_v9
     obtain⟨rfl,rfl⟩:=g_v9
     exact qm.sub (qm.rg fol (kAL [(24,.bool (decide ((l6.length:Int)=0)))]) (kT a0_ l6 (kAT l6 [.cells (cF a2_ a3_ a4_ a5_ a6_)]))) (Sub.norm [] [some 0,some 1,some 2,some 3] (by rw[hB];rfl) rfl (.kp (.kp (.keep (.same nB) .nil))) (.kb rfl (.cells (rc (.gslice rfl) (rc ((zG.hs1 rfl)) rn))) (.ks (.ks (.kb rfl (.same sn) .nil)))))
   intro _ hsub
   try dsimp only at h
   refine Goes.sub hsub ?_
   refine ihB h (fun c10 h=>?_) (fun c10 h=>?_)
   ·refine sh fol [(4,.i 12)] ?_
    refine Goes.ret ?_
    simp only[Option.some.injEq,Prod.mk.injEq]at h
    obtain⟨rfl,rfl,rfl⟩:=h
    exact(gh2 [.i 12] (Sub.norm [] [some 0,some 1,some 2,some 1,some 2] (by rw[hB];rfl) rfl (.keep (.same nI) .nil) (.kb rfl (.cells (rc (.gslice rfl) (rc (.hs rfl) rn))) (.lost (.lost (.ks (.ks .nil)))))))
   ·refine Goes.skip ?_
    obtain⟨o14,g_v15,h⟩:=bnd h
    refine Goes.cutS (s':=(ofG 73 (kAL []),(kA a0_ o14 [.cells (cF a2_ a3_ a4_ a5_ a6_)]))) ?_ ?_
    ·rcases o7 with _|l11
     ·try dsimp only at g_v15
      obtain⟨s12,e_s12,g_v15⟩:=bnd g_v15
      obtain rfl:=si g_v15
      exact qm.sub (qm.rq fol [11] (kAL []) (kBh a0_ (kAP a0_ [.cells ((hof (none:Option (List StateT))).flatMap jl.c),.cells (cF a2_ a3_ a4_ a5_ a6_)])) (ac (hs (.done (.opt (zW Tryz.prog 163 .nilslice none (some (.i (w64 (0-1)))) none)) .nilslice) (qpF (α:=StateT) qk8 none (some (w64 (0-1))) e_s12)) az)) (Sub.norm [] [some 0,some 1,some 2,some 3] (by rw[hB];rfl) rfl (.kp (.kp .nil)) (.kb rfl (.cells (rc (.gslice rfl) (rc .hs0 rn))) (.ks (.ks (.kb rfl (.same sn) .nil)))))
     ·try dsimp only at g_v15
      obtain⟨l13,e_l13,g_v15⟩:=bnd g_v15
      obtain rfl:=si g_v15
      exact qm.sub (qm.rq fol [11] (kAL []) (kT a0_ l13 (kAT l11 [.cells (cF a2_ a3_ a4_ a5_ a6_)])) (ac (hs (.done (.opt (zW Tryz.prog 163 (.oslice 2 l11.length 3) none (some (.i (w64 ((l11.length:Int)-1)))) none)) (.oslice 2 l13.length 3)) (sh_os qk8 e_l13)) az)) ((show Sub (ofG 73 (kAL []),(kT a0_ l13 (kAT l11 [.cells (cF a2_ a3_ a4_ a5_ a6_)]))) (ofG 73 (kAL []),(kT a0_ l13 (kAT l13 [.cells (cF a2_ a3_ a4_ a5_ a6_)])))from(Sub.norm [] [some 0,some 1,some 2,some 3] (by rw[hB];rfl) rfl (.kp (.kp .nil)) (.kb rfl (.cells (rc (.gslice rfl) (rc (.oslice rfl) rn))) (.ks (.kb rfl (qbA.cut e_l13) (.kb rfl (.same sn) .nil)))))).trans (Sub.norm [] [some 0,some 1,some 2,some 3] (by rw[hB];rfl) rfl (.kp (.kp .nil)) (.kb rfl (.cells (rc (.gslice rfl) (rc ((zG.hs1 rfl)) rn))) (.ks (.ks (.kb rfl (.same sn) .nil))))))
    intro _ hsub
    refine Goes.sub hsub ?_
    obtain⟨r16,e_r16,h⟩:=bnd h
    obtain⟨l17,e_l17,h⟩:=bnd h
    refine sq (gq fol [6,8] [] (.cells [.gslice 5 l17.length 5,hsl 2 3 o14]:: .dead::(kBC o14 (.cells (cF a2_ a3_ a4_ a5_ a6_)::(kA2 r16 (kAP l17 []))))) (ac (cv (qaW (⟨a2_,a3_,a4_,a5_,a6_⟩:qg) e_r16)) (ac (hs (.run [1,4] (zh Tryz.prog [22,22] (.gslice 1 a0_.length 5) (.slice 4 0 1 1 5)) (kA a0_ o14 (.cells (cF a2_ a3_ a4_ a5_ a6_)::(kA2 r16 []))) (.gslice 5 l17.length 5) (.cells [.gslice 1 a0_.length 5,hsl 2 3 o14]:: .dead::(kBC o14 (.cells (cF a2_ a3_ a4_ a5_ a6_)::(kA2 r16 (kAP l17 []))))) true) (jE sl22 (E:=zT) rfl (qaB (E:=zT) (ys:=[r16]) rfl rfl rfl rfl) (qcg (E:=zT) (l:=a0_) rfl rfl rfl e_l17 rfl))) az)) ?_)
    refine sh fol [(4,.i 0)] ?_
    refine Goes.ret ?_
    simp only[Option.some.injEq,Prod.mk.injEq]at h
    obtain⟨rfl,rfl,rfl⟩:=h
    exact(gh2 [.i 0] (Sub.norm [] [some 0,some 1,some 2,some 5,some 2] (by rw[hB];rfl) rfl (.keep (.same nI) .nil) (.kb rfl (.cells (rc (.gslice rfl) (rc (.hs rfl) rn))) (.lost (.lost (.ks (.ks .nil)))))))
  ·obtain⟨⟨o19,n20,l21⟩,e_r18,h⟩:=bnd h
   try dsimp only at h
   obtain⟨⟨n23,l24,n25⟩,e_r22,h⟩:=bnd h
   try dsimp only at h
   refine sq (gq fol [1,3] (kAL ((5,.ptr 4 0)::(kBj n25))) (kA a0_ o19 (.cells (cF a2_ a3_ a4_ a5_ a6_)::(kAD n23 l24 []))) (ac (hs (.callH 81 [.ptr 0 0] (kA a0_ a1_ [.cells (cF a2_ a3_ a4_ a5_ a6_)]) [0,1,2] (.agg (kBN n20 l21)) (kA a0_ o19 [.cells (cF a2_ a3_ a4_ a5_ a6_)])) (ji [some 0,some 1,some 2] [some 0,some 1,some 2,none] (qbw a0_ a1_ e_r18) (.kb rfl (.cells (rc (.gslice rfl) (rc (.hs rfl) rn))) (.ks (.ks .nil))) rfl rfl (.back rfl rfl (.cells (rc (.gslice rfl) (rc (.hs rfl) rn))) rfl (.back rfl rfl (.same fa) rfl (.back rfl rfl (.same fa) rfl (.old rfl rfl .nil)))) (rc (.ptr rfl) rn) (.same (qx.agg sn)) rfl)) (ac (hs (.callH 147 (kA5 n20 l21 [.agg (cF a2_ a3_ a4_ a5_ a6_)]) (kA a0_ o19 [.cells (cF a2_ a3_ a4_ a5_ a6_)]) [] (.tuple (kA5 n23 l24 [.i n25])) (kA a0_ o19 [.cells (cF a2_ a3_ a4_ a5_ a6_)])) (ji [] [none,none,none,none] (qbx N n20 l21 a2_ a3_ a4_ a5_ a6_ e_r22) .nil rfl rfl (.old rfl rfl (.old rfl rfl (.old rfl rfl (.old rfl rfl .nil)))) (rc (.same (qx.agg sn)) (rc (.same (qx.agg sn)) rn)) (.same (qx.tuple sn)) rfl)) az)) ?_)
   refine sq ?_
   refine sh fol (kAL [(5,.ptr 4 0),(6,.i n25),(47,.bool (!decide (n25=0)))]) ?_
   refine ihB h (fun c26 h=>?_) (fun c26 h=>?_)
   ·refine sh fol [(4,.i n25)] ?_
    refine Goes.ret ?_
    simp only[Option.some.injEq,Prod.mk.injEq]at h
    obtain⟨rfl,rfl,rfl⟩:=h
    exact(gh2 [.i n25] (Sub.norm [] [some 0,some 1,some 2,some 1,some 2] (by rw[hB];rfl) rfl (.keep (.same nI) .nil) (.kb rfl (.cells (rc (.gslice rfl) (rc (.hs rfl) rn))) (.lost (.lost (.ks (.ks .nil)))))))
   ·refine Goes.skip ?_
    obtain⟨l29,g_v30,h⟩:=bnd h
    refine Goes.cutS (s':=(ofG 73 [(0,.ptr 0 0),(3,.ptr 4 0)],(.cells [.gslice 1 a0_.length 5,.oslice 3 l29.length 3]::(kAP a0_ (.dead::(kAT l29 [.cells (cF a2_ a3_ a4_ a5_ a6_)])))))) ?_ ?_
    ·rcases o19 with _|l27
     ·try dsimp only at g_v30
      obtain rfl:=si g_v30
      exact qm.sub (qm.rg fol (kAL []) (.cells [.gslice 1 a0_.length 5,.oslice 6 1 3]::(kAP a0_ (.cells ((hof (none:Option (List StateT))).flatMap jl.c):: .cells (cF a2_ a3_ a4_ a5_ a6_)::(kAD n23 l24 [.cells [.i a2_,.i n23,vl qh l24],.cells [.i a2_,.i n23,vl qh l24]]))))) (Sub.norm [] [some 0,some 1,some 2,some 6,some 3] (by rw[hB];rfl) rfl (.kp (.kp .nil)) (.kb rfl (.cells (rc (.gslice rfl) (rc ((zG.osliceE rfl rfl)) rn))) (.ks (.lost (.ks (.kb rfl (.same sn) .nil))))))
     ·try dsimp only at g_v30
      obtain⟨l28,e_l28,g_v30⟩:=bnd g_v30
      obtain rfl:=si g_v30
      exact qm.sub (qm.rq fol [10] (kAL []) (.cells [.gslice 1 a0_.length 5,.oslice 6 l28.length 3]::(kAP a0_ (.dead:: .cells (cF a2_ a3_ a4_ a5_ a6_)::(kAD n23 l24 (.cells [.i a2_,.i n23,vl qh l24]::(kAT l28 [])))))) (ac (hs (.run [2,5] (zh Tryz.prog [163,163] (.oslice 2 l27.length 3) (.slice 5 0 1 1 3)) (kT a0_ l27 (kAT l27 (.cells (cF a2_ a3_ a4_ a5_ a6_)::(kAD n23 l24 [.cells [.i a2_,.i n23,vl qh l24]])))) (.oslice 6 l28.length 3) (kT a0_ l27 (.dead:: .cells (cF a2_ a3_ a4_ a5_ a6_)::(kAD n23 l24 (.cells [.i a2_,.i n23,vl qh l24]::(kAT l28 []))))) true) (jE qk8 (E:=jl) rfl (qaB (E:=jl) (ys:=[(⟨a2_,(⟨n23,l24⟩:yS)⟩:StateT)]) rfl rfl rfl rfl) (qjs (E:=jl) (l:=l27) rfl rfl rfl e_l28 rfl))) az)) (Sub.norm [] [some 0,some 1,some 2,some 6,some 3] (by rw[hB];rfl) rfl (.kp (.kp .nil)) (.kb rfl (.cells (rc (.gslice rfl) (rc (.oslice rfl) rn))) (.ks (.lost (.ks (.kb rfl (.same sn) .nil))))))
    intro _ hsub
    refine Goes.sub hsub ?_
    obtain⟨r31,e_r31,h⟩:=bnd h
    obtain⟨l32,e_l32,h⟩:=bnd h
    refine sq (gq fol [6,8] [] (.cells [.gslice 6 l32.length 5,.oslice 3 l29.length 3]:: .dead:: .dead::(kAT l29 (.cells (cF a2_ a3_ a4_ a5_ a6_)::(kA2 r31 (kAP l32 []))))) (ac (cv (qaW (⟨a2_,a3_,a4_,a5_,a6_⟩:qg) e_r31)) (ac (hs (.run [1,5] (zh Tryz.prog [22,22] (.gslice 1 a0_.length 5) (.slice 5 0 1 1 5)) (.cells [.gslice 1 a0_.length 5,.oslice 3 l29.length 3]::(kAP a0_ (.dead::(kAT l29 (.cells (cF a2_ a3_ a4_ a5_ a6_)::(kA2 r31 [])))))) (.gslice 6 l32.length 5) (.cells [.gslice 1 a0_.length 5,.oslice 3 l29.length 3]:: .dead:: .dead::(kAT l29 (.cells (cF a2_ a3_ a4_ a5_ a6_)::(kA2 r31 (kAP l32 []))))) true) (jE sl22 (E:=zT) rfl (qaB (E:=zT) (ys:=[r31]) rfl rfl rfl rfl) (qcg (E:=zT) (l:=a0_) rfl rfl rfl e_l32 rfl))) az)) ?_)
    refine sh fol [(4,.i 0)] ?_
    refine Goes.ret ?_
    simp only[Option.some.injEq,Prod.mk.injEq]at h
    obtain⟨rfl,rfl,rfl⟩:=h
    exact(gh2 [.i 0] (Sub.norm [] [some 0,some 1,some 2,some 6,some 3] (by rw[hB];rfl) rfl (.keep (.same nI) .nil) (.kb rfl (.cells (rc (.gslice rfl) (rc ((zG.hs1 rfl)) rn))) (.lost (.lost (.ks (.ks .nil)))))))
def jr (N:Nat) (a0_:List qg) (a1_:Option (List StateT)) (a2_:Int) (a3_:Str) (a4_:List Str) (a5_:List Int) (a6_:Str):Option ((List qg)×(Option (List StateT))×Int):=
 (yF N (⟨a2_,a3_,a4_,a5_,a6_⟩:qg)).bind fun r4=>
 if(!decide (r4=0))=true then
 some (a0_,a1_,r4)
 else
 (jU N a0_ a1_ a2_ a3_ a4_ a5_ a6_).bind fun(l7,o8,n9)=>
 some (l7,o8,n9)
theorem qaK (N:Nat) (a0_:List qg) (a1_:Option (List StateT)) (a2_:Int) (a3_:Str) (a4_:List Str) (a5_:List Int) (a6_:Str) {l1:List qg} {o2:Option (List StateT)} {n3:Int} (h:jr N a0_ a1_ a2_ a3_ a4_ a5_ a6_=some (l1,o2,n3)):qf Tryz.prog (.fn 128) [.ptr 0 0,.agg (cF a2_ a3_ a4_ a5_ a6_)] (kA a0_ a1_ []) (.i n3) (.cells [.gslice 3 l1.length 5,hsl 4 3 o2]:: .dead:: .dead::(kAP l1 (kBC o2 []))):=by
 unfold jr at h
 refine Goes.fnH Tryz.func128 rfl rfl (m:=14) rfl (rs:=[.tmp 4]) rfl (l:=[(0,.ptr 0 0),(1,.agg (cF a2_ a3_ a4_ a5_ a6_))]) rfl ?_
 intro B hB
 refine sg fol (kAL []) (kA a0_ a1_ [.cells (cF a2_ a3_ a4_ a5_ a6_)]) ?_
 refine sq ?_
 obtain⟨r4,e_r4,h⟩:=bnd h
 refine sq (gr fol [1] (kAL (kA4 r4)) (ac (cv (qdj N (⟨a2_,a3_,a4_,a5_,a6_⟩:qg) e_r4)) az) ?_)
 refine sh fol (kAL [(5,.i r4),(9,.bool (!decide (r4=0)))]) ?_
 refine ihB h (fun c5 h=>?_) (fun c5 h=>?_)
 ·refine sh fol [(4,.i r4)] ?_
  refine Goes.ret ?_
  simp only[Option.some.injEq,Prod.mk.injEq]at h
  obtain⟨rfl,rfl,rfl⟩:=h
  exact(gh2 [.i r4] (Sub.norm [] [some 0,some 1,some 2,some 1,some 2] (by rw[hB];rfl) rfl (.keep (.same nI) .nil) (.kb rfl (.cells (rc (.gslice rfl) (rc (.hs rfl) rn))) (.lost (.lost (.ks (.ks .nil)))))))
 ·refine Goes.skip ?_
  obtain⟨⟨l7,o8,n9⟩,e_r6,h⟩:=bnd h
  try dsimp only at h
  refine sq (gq fol [2] [(4,.i n9)] (.cells [.gslice 4 l7.length 5,hsl 5 3 o8]:: .dead:: .dead:: .cells (cF a2_ a3_ a4_ a5_ a6_)::(kAP l7 (kBC o8 []))) (ac (hs (.callH 91 [.ptr 0 0,.agg (cF a2_ a3_ a4_ a5_ a6_)] (kA a0_ a1_ [.cells (cF a2_ a3_ a4_ a5_ a6_)]) [0,1,2] (.i n9) (.cells [.gslice 4 l7.length 5,hsl 5 3 o8]:: .dead:: .dead:: .cells (cF a2_ a3_ a4_ a5_ a6_)::(kAP l7 (kBC o8 [])))) (ji [some 0,some 1,some 2] [some 0,none,none,none,some 3,some 4] (qbS N a0_ a1_ a2_ a3_ a4_ a5_ a6_ e_r6) (.kb rfl (.cells (rc (.gslice rfl) (rc (.hs rfl) rn))) (.ks (.ks .nil))) rfl rfl (.back rfl rfl (.cells (rc (.gslice rfl) (rc (.hs rfl) rn))) rfl (.dead (.dead (.old rfl rfl (.new rfl rfl (.same fa) rfl (.new rfl rfl (.same fa) rfl .nil)))))) (rc (.ptr rfl) (rc (.same (qx.agg sn)) rn)) (.same nI) rfl)) az) ?_)
  refine Goes.ret ?_
  simp only[Option.some.injEq,Prod.mk.injEq]at h
  obtain⟨rfl,rfl,rfl⟩:=h
  exact(gh2 [.i n9] (Sub.norm [] [some 0,some 1,some 2,some 4,some 5] (by rw[hB];rfl) rfl (.keep (.same nI) .nil) (.kb rfl (.cells (rc (.gslice rfl) (rc (.hs rfl) rn))) (.lost (.lost (.ks (.ks .nil)))))))
def jf (a0_:qb) (a1_:List qb):Option (List qb):=
 (app 48 ([]:List qb) (a0_::a1_)).bind fun l2=>
 some l2
theorem qaA (a0_:qb) (a1_:List qb) {l1:List qb} (h:jf a0_ a1_=some l1):qf Tryz.prog (.fn 123) [vl qa (a0_::a1_)] [] (.oslice 0 l1.length 4) (kB l1 []):=by
 unfold jf at h
 refine Goes.fnH Tryz.func123 rfl rfl (m:=8) rfl (rs:=[.tmp 2]) rfl (l:=(kD (a0_::a1_) [])) rfl ?_
 intro B hB
 refine sh fol (kD (a0_::a1_) []) ?_
 refine sq ?_
 refine sh fol (kD (a0_::a1_) kAf) ?_
 refine Goes.ifB (b:=false) (by kernel_rfl) (fun c=>(by cases c)) (fun _=>?_)
 refine Goes.skip ?_
 obtain⟨l2,e_l2,h⟩:=bnd h
 refine sq (gq fol [2] [(2,.oslice 1 l2.length 4)] (.dead::(kB l2 [])) (ac (hs (.run [0] (zh Tryz.prog [96,96] (.slice 0 0 0 0 4) (vl qa (a0_::a1_))) [.cells []] (.oslice 1 l2.length 4) (.dead::(kB l2 [])) true) (jE xn (E:=qa) rfl (qfY (E:=qa) rfl _) (qgD (E:=qa) rfl rfl rfl e_l2 rfl))) az) ?_)
 refine Goes.ret ?_
 obtain rfl:=si h
 exact(gh2 [.oslice 1 l2.length 4] (Sub.norm [] [some 1] (by rw[hB];rfl) rfl (.keep (.oslice rfl) .nil) (.ks .nil)))
def qA (a1_:Int):Nat→(List qb)→Int→Option (List qb)
 |0,_,_=>none
 |K+1,l7,n8=>
  (if n8>a1_ then
  (idx l7 n8).bind fun x12=>
  (idx l7 (w64 (n8-1))).bind fun x13=>
  (xP x12 x13).bind fun r14=>
  some (decide (r14<0))
  else
  some false:Option Bool).bind fun b15=>
  if b15=true then
  (idx l7 (w64 (n8-1))).bind fun x18=>
  (idx l7 n8).bind fun x19=>
  (put l7 n8 x18).bind fun l20=>
  (idx l20 (w64 (n8-1))).bind fun x21=>
  (put l20 (w64 (n8-1)) x19).bind fun l22=>
  qA a1_ K l22 (w64 (n8-1))
  else
  some l7
def qp (N:Nat) (a1_:Int) (a2_:Int):Nat→(List qb)→Int→Option (List qb)
 |0,_,_=>none
 |K+1,l2,n3=>
  if n3<a2_ then
  (qA a1_ N l2 n3).bind fun l9=>
  qp N a1_ a2_ K l9 (w64 (n3+1))
  else
  some l2
def qR (N:Nat) (a0_:List qb) (a1_:Int) (a2_:Int):Option (List qb):=
 (qp N a1_ a2_ N a0_ (w64 (a1_+1))).bind fun l4=>
 some l4
theorem vD (N:Nat) (a0_:List qb) (a1_:Int) (a2_:Int) {l1:List qb} (h:qR N a0_ a1_ a2_=some l1):qf Tryz.prog (.fn 200) (kBa a0_ [.i a1_,.i a2_,.func (.func 125) [] []]) (kB a0_ []) (.tuple []) (kB l1 []):=by
 unfold qR at h
 refine Goes.fnH Tryz.func200 rfl rfl (m:=53) rfl (rs:=[]) rfl (l:=(kK a0_ a1_ [(2,.i a2_),(3,.func (.func 125) [] [])])) rfl ?_
 intro B hB
 refine Goes.subQ ?_
 refine sh fol (kK a0_ a1_ ((2,.i a2_)::(3,.func (.func 125) [] [])::(kBR (w64 (a1_+1))))) ?_
 refine Goes.block ?_
 obtain⟨r5,g5,h⟩:=bnd h
 refine Goes.imp (Q:=fun x s'=>(x= .exit 0∧ ∃l4,l4=r5∧Sub s' (ofG 53 [],(kB l4 [])))) ?_ ?_
 ·refine Goes.loopS (fun M s=> ∃(l2:List qb) (n3:Int),s=(ofG 53 (kK l2 a1_ ((2,.i a2_)::(3,.func (.func 125) [] [])::(kBR n3))),(kB l2 []))∧qp N a1_ a2_ M l2 n3=some r5) ?_ (m:=N) ⟨_,_,rfl,g5⟩
  rintro M s ⟨l2,n3,rfl,g5⟩
  cases M with
  |zero=>simp only[qp]at g5;cases g5
  |succ M=>
   rw[qp]at g5
   refine sq ?_
   refine sh fol (kK l2 a1_ [(2,.i a2_),(3,.func (.func 125) [] []),(8,.i n3),(14,.bool (decide (n3<a2_)))]) ?_
   refine ihD g5 (fun c6 g5=>?_) (fun c6 g5=>?_)
   ·refine Goes.skip ?_
    refine sq (Goes.block ?_)
    refine sh fol (kK l2 a1_ [(2,.i a2_),(3,.func (.func 125) [] []),(8,.i n3),(9,.i n3)]) ?_
    refine Goes.block ?_
    obtain⟨r10,g10,g5⟩:=bnd g5
    refine Goes.imp (Q:=fun x s'=>(x= .exit 2∧ ∃l9,l9=r10∧Sub s' (ofG 53 (kK l9 a1_ ((2,.i a2_)::(3,.func (.func 125) [] [])::(kBR n3))),(kB l9 [])))) ?_ ?_
    ·refine Goes.loopS (fun M s=> ∃(l7:List qb) (n8:Int),s=(ofG 53 (kK l7 a1_ [(2,.i a2_),(3,.func (.func 125) [] []),(8,.i n3),(9,.i n8)]),(kB l7 []))∧qA a1_ M l7 n8=some r10) ?_ (m:=N) ⟨_,_,rfl,g10⟩
     rintro M s ⟨l7,n8,rfl,g10⟩
     cases M with
     |zero=>simp only[qA]at g10;cases g10
     |succ M=>
      rw[qA]at g10
      refine sq ?_
      refine sq ?_
      obtain⟨b15,g_v16,g10⟩:=bnd g10
      refine Goes.cut (s':=(ofG 53 (kK l7 a1_ [(2,.i a2_),(3,.func (.func 125) [] []),(8,.i n3),(9,.i n8),(34,.bool b15)]),(kB l7 []))) ?_ ?_
      ·rcases wyD g_v16 with⟨c11,g_v16⟩|⟨c11,g_v16⟩
       ·obtain⟨x12,e_x12,g_v16⟩:=bnd g_v16
        obtain⟨x13,e_x13,g_v16⟩:=bnd g_v16
        obtain⟨r14,e_r14,g_v16⟩:=bnd g_v16
        obtain rfl:=si g_v16
        exact tr fol [3,7,8,12,13,14] (kK l7 a1_ [(2,.i a2_),(3,.func (.func 125) [] []),(8,.i n3),(9,.i n8),(34,.bool (decide (r14<0)))]) (ac (gw c11) (ac (hs (.done (.opt (qo Tryz.prog 96 (.oslice 0 l7.length 4) (.i n8))) (.ptr 0 ((n8:Int).toNat*4+0))) (qfL xn e_x12)) (ac (hs (.run [0] (vz Tryz.prog 132 (.ptr 0 ((n8:Int).toNat*4+0))) (kB l7 []) (.agg (kAk x12.Desk x12.Number x12.Clock x12.Line)) (kB l7 []) false) (qfQ qak (E:=qa) (l:=l7) rfl rfl e_x12)) (ac (hs (.done (.opt (qo Tryz.prog 96 (.oslice 0 l7.length 4) (.i (w64 (n8-1))))) (.ptr 0 ((w64 (n8-1):Int).toNat*4+0))) (qfL xn e_x13)) (ac (hs (.run [0] (vz Tryz.prog 132 (.ptr 0 ((w64 (n8-1):Int).toNat*4+0))) (kB l7 []) (.agg (kAk x13.Desk x13.Number x13.Clock x13.Line)) (kB l7 []) false) (qfQ qak (E:=qa) (l:=l7) rfl rfl e_x13)) (ac (cv (qb1 x12 x13 e_r14)) az))))))
       ·obtain rfl:=si g_v16
        exact tr fol [3] (kK l7 a1_ [(2,.i a2_),(3,.func (.func 125) [] []),(8,.i n3),(9,.i n8),(34,.bool false)]) (ac (gw c11) az)
      refine ihB g10 (fun c17 g10=>?_) (fun c17 g10=>?_)
      ·refine Goes.skip ?_
       refine sq (Goes.block ?_)
       obtain⟨x18,e_x18,g10⟩:=bnd g10
       obtain⟨x19,e_x19,g10⟩:=bnd g10
       obtain⟨l20,e_l20,g10⟩:=bnd g10
       obtain⟨x21,e_x21,g10⟩:=bnd g10
       obtain⟨l22,e_l22,g10⟩:=bnd g10
       refine gq fol [8,9,12,13,14,15,16,17] (kK l7 a1_ [(2,.i a2_),(3,.func (.func 125) [] []),(8,.i n3),(9,.i n8)]) (kB l22 []) (ac (hs (.done (.opt (qo Tryz.prog 96 (.oslice 0 l7.length 4) (.i (w64 (n8-1))))) (.ptr 0 ((w64 (n8-1):Int).toNat*4+0))) (qfL xn e_x18)) (ac (hs (.run [0] (vz Tryz.prog 132 (.ptr 0 ((w64 (n8-1):Int).toNat*4+0))) (kB l7 []) (.agg (kAk x18.Desk x18.Number x18.Clock x18.Line)) (kB l7 []) false) (qfQ qak (E:=qa) (l:=l7) rfl rfl e_x18)) (ac (hs (.done (.opt (qo Tryz.prog 96 (.oslice 0 l7.length 4) (.i n8))) (.ptr 0 ((n8:Int).toNat*4+0))) (qfL xn e_x19)) (ac (hs (.run [0] (vz Tryz.prog 132 (.ptr 0 ((n8:Int).toNat*4+0))) (kB l7 []) (.agg (kAk x19.Desk x19.Number x19.Clock x19.Line)) (kB l7 []) false) (qfQ qak (E:=qa) (l:=l7) rfl rfl e_x19)) (ac (hs (.done (.opt (qo Tryz.prog 96 (.oslice 0 l7.length 4) (.i n8))) (.ptr 0 ((n8:Int).toNat*4+0))) (qfL xn e_x19)) (ac (hs (.run [0] (qav Tryz.prog 132 (.ptr 0 ((n8:Int).toNat*4+0)) (.agg (kAk x18.Desk x18.Number x18.Clock x18.Line))) (kB l7 []) .undef (kB l20 []) true) (qd9 (E:=qa) (l:=l7) (y:=x18) rfl (show _=some 4 by kernel_rfl) rfl e_x19 rfl rfl rfl rfl rfl e_l20 rfl)) (ac (hs (.done (.opt (qo Tryz.prog 96 (.oslice 0 l7.length 4) (.i (w64 (n8-1))))) (.ptr 0 ((w64 (n8-1):Int).toNat*4+0))) (qfL xn e_x18)) (ac (hs (.run [0] (qav Tryz.prog 132 (.ptr 0 ((w64 (n8-1):Int).toNat*4+0)) (.agg (kAk x19.Desk x19.Number x19.Clock x19.Line))) (kB l20 []) .undef (kB l22 []) true) (qd9 (E:=qa) (l:=l20) (y:=x19) rfl (show _=some 4 by kernel_rfl) rfl e_x21 rfl rfl rfl rfl rfl e_l22 rfl)) az)))))))) ?_
       refine Goes.sub (show Sub (ofG 53 (kK l7 a1_ [(2,.i a2_),(3,.func (.func 125) [] []),(8,.i n3),(9,.i n8)]),(kB l22 [])) (ofG 53 (kK l22 a1_ [(2,.i a2_),(3,.func (.func 125) [] []),(8,.i n3),(9,.i n8)]),(kB l22 []))from(Sub.norm [] [some 0] (by rw[hB];rfl) rfl (.keep (.osliceE rfl ((qa7 e_l20).trans (qa7 e_l22))) (.keep (.same nI) (.keep (.same nI) (.keep (.same (qx.func sn sn)) (.keep (.same nI) (.keep (.same nI) .nil)))))) (.ks .nil))) ?_
       refine gh fol (kK l22 a1_ [(2,.i a2_),(3,.func (.func 125) [] []),(8,.i n3),(9,.i (w64 (n8-1)))]) ?_
       exact⟨M,(ofG 53 (kK l22 a1_ [(2,.i a2_),(3,.func (.func 125) [] []),(8,.i n3),(9,.i (w64 (n8-1)))]),(kB l22 [])),Nat.lt_succ_self _,(Sub.refl _),_,_,rfl,g10⟩
      ·refine Goes.exit ?_
       obtain rfl:=si g10
       exact⟨rfl,_,rfl,(Sub.keep [0,1,2,3,8] rfl rfl)⟩
    rintro x s' ⟨rfl,l9,rfl,hsub⟩
    refine Goes.sub hsub ?_
    refine gh fol (kK l9 a1_ ((2,.i a2_)::(3,.func (.func 125) [] [])::(kBR (w64 (n3+1))))) ?_
    exact⟨M,(ofG 53 (kK l9 a1_ ((2,.i a2_)::(3,.func (.func 125) [] [])::(kBR (w64 (n3+1))))),(kB l9 [])),Nat.lt_succ_self _,(Sub.refl _),_,_,rfl,g5⟩
   ·refine Goes.exit ?_
    obtain rfl:=si g5
    exact⟨rfl,_,rfl,(Sub.keep [] rfl rfl)⟩
 rintro x s' ⟨rfl,l4,rfl,hsub⟩
 obtain rfl:=si h
 exact⟨_,hsub,(gh2 [] (qc0.refl _ _))⟩
def qP (N:Nat) (a1_:Int):Nat→(List qb)→Int→Int→Option ((List qb)×Int)
 |0,_,_,_=>none
 |K+1,l2,n3,n4=>
  if n4≤a1_ then
  (qR N l2 n3 n4).bind fun l10=>
  ((if l2.length=l10.length then some ()else none:Option Unit)).bind fun u11=>
  qP N a1_ K l10 n4 (w64 (n4+20))
  else
  some (l2,n3)
def zZ (a1_:Int) (n15:Int):Nat→Option Unit
 |0=>none
 |K+1=>
  if(w64 (2*n15))≤a1_ then
  none
  else
  some ()
def qQ (N:Nat) (a1_:Int):Nat→Int→Option Unit
 |0,_=>none
 |K+1,n15=>
  if n15<a1_ then
  (zZ a1_ n15 N).bind fun _=>
  ((if(w64 (0+n15))<a1_ then
  none
  else
  some ():Option Unit)).bind fun _=>
  qQ N a1_ K (w64 (n15*2))
  else
  some ()
def jD (N:Nat) (a0_:List qb) (a1_:Int):Option (List qb):=
 (qP N a1_ N a0_ 0 20).bind fun(l5,n6)=>
 (qR N l5 n6 a1_).bind fun l13=>
 ((if l5.length=l13.length then some ()else none:Option Unit)).bind fun u14=>
 (qQ N a1_ N 20).bind fun _=>
 some l13
theorem qaT (N:Nat) (a0_:List qb) (a1_:Int) {l1:List qb} (h:jD N a0_ a1_=some l1):qf Tryz.prog (.fn 170) (kBa a0_ [.i a1_,.func (.func 125) [] []]) (kB a0_ []) (.tuple []) (kB l1 []):=by
 unfold jD at h
 refine Goes.fnH Tryz.func170 rfl rfl (m:=63) rfl (rs:=[]) rfl (l:=(kK a0_ a1_ [(2,.func (.func 125) [] [])])) rfl ?_
 intro B hB
 refine Goes.subQ ?_
 refine sh fol (kK a0_ a1_ ((2,.func (.func 125) [] [])::(kBm []))) ?_
 refine sh fol (kK a0_ a1_ ((2,.func (.func 125) [] [])::(kBm [(7,.i 0),(8,.i 20)]))) ?_
 refine sq (Goes.block ?_)
 obtain⟨r7,g7,h⟩:=bnd h
 refine Goes.imp (Q:=fun x s'=>(x= .exit 0∧ ∃l5 n6,(l5,n6)=r7∧Sub s' (ofG 63 (kK l5 a1_ ((2,.func (.func 125) [] [])::(kBm [(7,.i n6)]))),(kB l5 [])))) ?_ ?_
 ·refine Goes.loopS (fun M s=> ∃(l2:List qb) (n3:Int) (n4:Int),s=(ofG 63 (kK l2 a1_ ((2,.func (.func 125) [] [])::(kBm (kAH n3 n4 [])))),(kB l2 []))∧qP N a1_ M l2 n3 n4=some r7) ?_ (m:=N) ⟨_,_,_,rfl,g7⟩
  rintro M s ⟨l2,n3,n4,rfl,g7⟩
  cases M with
  |zero=>simp only[qP]at g7;cases g7
  |succ M=>
   rw[qP]at g7
   refine sq ?_
   refine sh fol (kK l2 a1_ ((2,.func (.func 125) [] [])::(kBm (kAH n3 n4 [(13,.bool (decide (n4≤a1_)))])))) ?_
   refine ihD g7 (fun c8 g7=>?_) (fun c8 g7=>?_)
   ·refine Goes.skip ?_
    refine Goes.block ?_
    obtain⟨l10,e_r9,g7⟩:=bnd g7
    obtain⟨u11,e_u11,g7⟩:=bnd g7
    refine sq (gq fol [4] (kK l2 a1_ ((2,.func (.func 125) [] [])::(kBm (kBR n4)))) (kB l10 []) (ac (hs (.callH 200 (kBa l2 [.i n3,.i n4,.func (.func 125) [] []]) (kB l2 []) [0] (.tuple []) (kB l10 [])) (ji [some 0] [some 0] (vD N l2 n3 n4 e_r9) (.ks .nil) rfl rfl (.back rfl rfl (.same fa) rfl .nil) (rc (.oslice rfl) (rc (.same nI) (rc (.same nI) (rc (.same (qx.func sn sn)) rn)))) (.same (qx.tuple sn)) rfl)) az) ?_)
    refine Goes.sub (show Sub (ofG 63 (kK l2 a1_ ((2,.func (.func 125) [] [])::(kBm (kBR n4)))),(kB l10 [])) (ofG 63 (kK l10 a1_ ((2,.func (.func 125) [] [])::(kBm (kBR n4)))),(kB l10 []))from(Sub.norm [] [some 0] (by rw[hB];rfl) rfl (.keep (.osliceE rfl (qeK e_u11)) (.keep (.same nI) (.keep (.same (qx.func sn sn)) (.keep (.same nI) (.keep (.same nI) .nil))))) (.ks .nil))) ?_
    refine sh fol (kK l10 a1_ ((2,.func (.func 125) [] [])::(kBm ((7,.i n4)::(kBR n4))))) ?_
    refine gh fol (kK l10 a1_ ((2,.func (.func 125) [] [])::(kBm (kAH n4 (w64 (n4+20)) [])))) ?_
    exact⟨M,(ofG 63 (kK l10 a1_ ((2,.func (.func 125) [] [])::(kBm (kAH n4 (w64 (n4+20)) [])))),(kB l10 [])),Nat.lt_succ_self _,(Sub.refl _),_,_,_,rfl,g7⟩
   ·refine Goes.exit ?_
    obtain rfl:=si g7
    exact⟨rfl,_,_,rfl,(Sub.keep [0,1,2,6,7] rfl rfl)⟩
 rintro x s' ⟨rfl,l5,n6,rfl,hsub⟩
 try dsimp only at h
 refine Goes.sub hsub ?_
 obtain⟨l13,e_r12,h⟩:=bnd h
 obtain⟨u14,e_u14,h⟩:=bnd h
 refine sq (gq fol [4] (kK l5 a1_ ((2,.func (.func 125) [] [])::(kBm []))) (kB l13 []) (ac (hs (.callH 200 (kBa l5 [.i n6,.i a1_,.func (.func 125) [] []]) (kB l5 []) [0] (.tuple []) (kB l13 [])) (ji [some 0] [some 0] (vD N l5 n6 a1_ e_r12) (.ks .nil) rfl rfl (.back rfl rfl (.same fa) rfl .nil) (rc (.oslice rfl) (rc (.same nI) (rc (.same nI) (rc (.same (qx.func sn sn)) rn)))) (.same (qx.tuple sn)) rfl)) az) ?_)
 refine Goes.sub (show Sub (ofG 63 (kK l5 a1_ ((2,.func (.func 125) [] [])::(kBm []))),(kB l13 [])) (ofG 63 (kK l13 a1_ ((2,.func (.func 125) [] [])::(kBm []))),(kB l13 []))from(Sub.norm [] [some 0] (by rw[hB];rfl) rfl (.keep (.osliceE rfl (qeK e_u14)) (.keep (.same nI) (.keep (.same (qx.func sn sn)) (.keep (.same nI) .nil)))) (.ks .nil))) ?_
 refine Goes.block ?_
 obtain⟨r16,g16,h⟩:=bnd h
 refine Goes.imp (Q:=fun x s'=>(x= .exit 2∧()=r16∧Sub s' (ofG 63 [],(kB l13 [])))) ?_ ?_
 ·refine Goes.loopS (fun M s=> ∃(n15:Int),s=(ofG 63 (kK l13 a1_ ((2,.func (.func 125) [] [])::(kBj n15))),(kB l13 []))∧qQ N a1_ M n15=some r16) ?_ (m:=N) ⟨_,rfl,g16⟩
  rintro M s ⟨n15,rfl,g16⟩
  cases M with
  |zero=>simp only[qQ]at g16;cases g16
  |succ M=>
   rw[qQ]at g16
   refine sq ?_
   refine sh fol (kK l13 a1_ [(2,.func (.func 125) [] []),(6,.i n15),(30,.bool (decide (n15<a1_)))]) ?_
   refine ihD g16 (fun c17 g16=>?_) (fun c17 g16=>?_)
   ·refine Goes.skip ?_
    refine Goes.block ?_
    refine sh fol (kK l13 a1_ ((2,.func (.func 125) [] [])::(kBD n15 (kBR (w64 (2*n15)))))) ?_
    refine sq (Goes.block ?_)
    obtain⟨r18,g18,g16⟩:=bnd g16
    refine Goes.imp (Q:=fun x s'=>(x= .exit 4∧()=r18∧Sub s' (ofG 63 (kK l13 a1_ ((2,.func (.func 125) [] [])::(kBD n15 []))),(kB l13 [])))) ?_ ?_
    ·refine Goes.loopS (fun M s=>s=(ofG 63 (kK l13 a1_ ((2,.func (.func 125) [] [])::(kBD n15 (kBR (w64 (2*n15)))))),(kB l13 []))∧zZ a1_ n15 M=some r18) ?_ (m:=N) ⟨rfl,g18⟩
     rintro M s ⟨rfl,g18⟩
     cases M with
     |zero=>simp only[zZ]at g18;cases g18
     |succ M=>
      rw[zZ]at g18
      refine sq ?_
      refine sh fol (kK l13 a1_ ((2,.func (.func 125) [] [])::(kBD n15 [(8,.i (w64 (2*n15))),(35,.bool (decide ((w64 (2*n15))≤a1_)))]))) ?_
      refine ihD g18 (fun c19 g18=>?_) (fun c19 g18=>?_)
      ·cases g18
      ·refine Goes.exit ?_
       obtain rfl:=si g18
       exact⟨rfl,rfl,(Sub.keep [0,1,2,6,7] rfl rfl)⟩
    rintro x s' ⟨rfl,rfl,hsub⟩
    refine Goes.sub hsub ?_
    refine sq ?_
    refine sh fol (kK l13 a1_ ((2,.func (.func 125) [] [])::(kBD n15 [(9,.i (w64 (0+n15)))]))) ?_
    refine sh fol (kK l13 a1_ ((2,.func (.func 125) [] [])::(kBD n15 [(9,.i (w64 (0+n15))),(54,.bool (decide ((w64 (0+n15))<a1_)))]))) ?_
    obtain⟨r20,g20,g16⟩:=bnd g16
    refine Goes.imp (Q:=fun x s'=>(x= .normal∧()=r20∧Sub s' (ofG 63 (kK l13 a1_ ((2,.func (.func 125) [] [])::(kBj n15))),(kB l13 [])))) ?_ ?_
    ·refine ihD g20 (fun c21 g20=>?_) (fun c21 g20=>?_)
     ·cases g20
     ·refine Goes.skip ?_
      obtain rfl:=si g20
      exact⟨rfl,rfl,(Sub.keep [0,1,2,6] rfl rfl)⟩
    rintro x s' ⟨rfl,rfl,hsub⟩
    refine Goes.sub hsub ?_
    refine gh fol (kK l13 a1_ ((2,.func (.func 125) [] [])::(kBj (w64 (n15*2))))) ?_
    exact⟨M,(ofG 63 (kK l13 a1_ ((2,.func (.func 125) [] [])::(kBj (w64 (n15*2))))),(kB l13 [])),Nat.lt_succ_self _,(Sub.refl _),_,rfl,g16⟩
   ·refine Goes.exit ?_
    obtain rfl:=si g16
    exact⟨rfl,rfl,(Sub.keep [] rfl rfl)⟩
 rintro x s' ⟨rfl,rfl,hsub⟩
 obtain rfl:=si h
 exact⟨_,hsub,(gh2 [] (qc0.refl _ _))⟩
def zI (N:Nat) (a0_:List qb):Option (List qb):=
 (jD N a0_ (a0_.length:Int)).bind fun l3=>
 ((if a0_.length=l3.length then some ()else none:Option Unit)).bind fun u4=>
 some l3
theorem qaO (N:Nat) (a0_:List qb) {l1:List qb} (h:zI N a0_=some l1):qf Tryz.prog (.fn 124) (kBa a0_ [.func (.func 125) [] []]) (kB a0_ []) (.tuple []) (kB l1 []):=by
 unfold zI at h
 refine Goes.fnH Tryz.func124 rfl rfl (m:=9) rfl (rs:=[]) rfl (l:=[(0,.oslice 0 a0_.length 4),(1,.func (.func 125) [] [])]) rfl ?_
 intro B hB
 refine Goes.subQ ?_
 obtain⟨l3,e_r2,h⟩:=bnd h
 obtain⟨u4,e_u4,h⟩:=bnd h
 refine gq fol [4] [] (kB l3 []) (ac (hs (.callH 170 (kBa a0_ [.i (a0_.length:Int),.func (.func 125) [] []]) (kB a0_ []) [0] (.tuple []) (kB l3 [])) (ji [some 0] [some 0] (qaT N a0_ (a0_.length:Int) e_r2) (.ks .nil) rfl rfl (.back rfl rfl (.same fa) rfl .nil) (rc (.oslice rfl) (rc (.same nI) (rc (.same (qx.func sn sn)) rn))) (.same (qx.tuple sn)) rfl)) az) ?_
 obtain rfl:=si h
 exact⟨_,(show Sub (ofG 9 [],(kB l3 [])) (ofG 9 [],(kB l3 []))from(Sub.norm [] [some 0] (by rw[hB];rfl) rfl .nil (.ks .nil))),(gh2 [] (qc0.refl _ _))⟩
def vg (N:Nat) (r3:List qb):Nat→(List qg)→(List qB)→(Option (List StateT))→Int→Option ((List qg)×(Option (List StateT))×(List qB))
 |0,_,_,_,_=>none
 |K+1,l5,l6,o7,n8=>
  if n8<(r3.length:Int)then
  (((idx r3 n8).bind fun x18=>
  (vP N x18.Line).bind fun r19=>
  (jr N l5 o7 (w64 ((l5.length:Int)+1)) r19.1.Kind r19.1.Names r19.1.Values r19.1.Text).bind fun(l21,o22,n23)=>
  if(!decide (n23=0))=true then
  (qW x18).bind fun r25=>
  (app 24 l6 [r25]).bind fun l26=>
  some (l21,o22,l26)
  else
  some (l21,o22,l6):Option ((List qg)×(Option (List StateT))×(List qB)))).bind fun(l14,o15,l16)=>
  vg N r3 K l14 l16 o15 (w64 (n8+1))
  else
  some (l5,o7,l6)
def qai (N:Nat):Option ((List qg)×(List qB)×Int):=
 (qO N ([]:List qb)).bind fun r1=>
 if(!decide (r1=0))=true then
 some ([],[],r1)
 else
 (xA ([]:List qb)).bind fun r3=>
 (zH N r3).bind fun _=>
 (vg N r3 N ([]:List qg) ([]:List qB) (none:Option (List StateT)) 0).bind fun(l9,o10,l11)=>
 some (l9,l11,0)
theorem qfr (N:Nat) {res:(List qg)×(List qB)×Int} (h:qai N=some res):qf Tryz.prog (.fn 59) [vl qa ([]:List qb)] [] (.tuple [vl zT res.1,vl qj res.2.1,.i res.2.2]) []:=by
 unfold qai at h
 refine Goes.fnW Tryz.func59 rfl rfl (m:=58) rfl (rs:=[.tmp 2,.tmp 3,.tmp 4]) rfl (l:=(kW [])) rfl ?_
 refine sh fol (kW []) ?_
 refine sq ?_
 obtain⟨r1,e_r1,h⟩:=bnd h
 refine sq (gr fol [1] (kW (kA4 r1)) (ac (cv (ku N ([]:List qb) e_r1)) az) ?_)
 refine sh fol (kW [(5,.i r1),(16,.bool (!decide (r1=0)))]) ?_
 refine ihB h (fun c2 h=>?_) (fun c2 h=>?_)
 ·refine sh fol [(2,.nilslice),(3,.nilslice),(4,.i r1)] ?_
  refine Goes.ret ?_
  obtain rfl:=si h
  exact(gw2 [.nilslice,.nilslice,.i r1] (FzW.tuple (qw.cons (FzW.nilv (E:=zT)) (qw.cons (FzW.nilv (E:=qj)) (qw.cons (FzW.still tI) qw.nil)))))
 ·refine Goes.skip ?_
  obtain⟨r3,e_r3,h⟩:=bnd h
  refine sq (gr fol [1] (kBb r3 []) (ac (cv (qdr ([]:List qb) e_r3)) az) ?_)
  obtain⟨_,e_r4,h⟩:=bnd h
  refine sq (gr fol [1] (kBb r3 []) (ac (hs (.callH 124 (kAv r3 [.func (.func 125) [] []]) [] [] (.tuple []) []) (ji [] [] (qaP N r3 e_r4) .nil rfl rfl .nil (rc (.same (qd qa _)) (rc (.same (qx.func sn sn)) rn)) (.same (qx.tuple sn)) rfl)) az) ?_)
  refine sg fol (kBb r3 [(7,.ptr 0 0)]) [.cells [.nilslice,.nilslice]] ?_
  refine sh fol (kBb r3 [(7,.ptr 0 0),(8,.nilslice)]) ?_
  refine sq ?_
  refine sh fol [(7,.ptr 0 0),(8,.nilslice),(24,vl qa r3),(25,.i (r3.length:Int)),(26,.i 0)] ?_
  refine Goes.block ?_
  obtain⟨r12,g12,h⟩:=bnd h
  refine Goes.imp (Q:=fun x s'=>(x= .exit 0∧ ∃l9 o10 l11,(l9,o10,l11)=r12∧Sub s' (ofG 58 (kY l11 []),(kA l9 o10 (kL l11 []))))) ?_ ?_
  ·refine Goes.sub (s':=(ofG 58 [(7,.ptr 0 0),(8,.gslice 3 ([]:List qB).length 2),(24,vl qa r3),(25,.i (r3.length:Int)),(26,.i 0)],(.cells [.gslice 1 ([]:List qg).length 5,hsl 2 3 (none:Option (List StateT))]:: .cells (([]:List qg).flatMap zT.c):: .cells ((hof (none:Option (List StateT))).flatMap jl.c)::(kBF [])))) (Sub.norm [] [some 0,none,none,none] rfl rfl (.kp (.keep .nil (.keep (.same (qd qa _)) (.keep (.same nI) (.keep (.same nI) .nil))))) (.kb rfl (.cells (rc (.nil) (rc .hs0 rn))) (.fresh (.fresh (.fresh .nil))))) ?_
   refine Goes.loopS (fun M s=> ∃(l5:List qg) (l6:List qB) (o7:Option (List StateT)) (n8:Int),s=(ofG 58 (kY l6 (kAg r3 (r3.length:Int) n8 [])),(kA l5 o7 (kL l6 [])))∧vg N r3 M l5 l6 o7 n8=some r12) ?_ (m:=N) ⟨_,_,_,_,rfl,g12⟩
   rintro M s ⟨l5,l6,o7,n8,rfl,g12⟩
   cases M with
   |zero=>simp only[vg]at g12;cases g12
   |succ M=>
    rw[vg]at g12
    refine sh fol (kY l6 (kAg r3 (r3.length:Int) n8 [(27,.bool (decide (n8<(r3.length:Int))))])) ?_
    refine sq ?_
    refine ihD g12 (fun c13 g12=>?_) (fun c13 g12=>?_)
    ·refine Goes.skip ?_
     refine sq ?_
     obtain⟨r17,g17,g12⟩:=bnd g12
     refine Goes.imp (Q:=fun x s'=>(x= .normal∧ ∃l14 o15 l16,(l14,o15,l16)=r17∧Sub s' (ofG 58 (kY l16 (kAg r3 (r3.length:Int) n8 [])),(kA l14 o15 (kL l16 []))))) ?_ ?_
     ·refine Goes.block ?_
      obtain⟨x18,e_x18,g17⟩:=bnd g17
      refine sq (gq fol [0,1] (kY l6 ((10,.ptr 4 0)::(kAg r3 (r3.length:Int) n8 []))) (kA l5 o7 (kL l6 (kE x18.Desk x18.Number x18.Clock x18.Line []))) (ac (iv xn qa e_x18) (ac (la qak qa e_x18) az)) ?_)
      obtain⟨r19,e_r19,g17⟩:=bnd g17
      refine sq (gq fol [2] (kY l6 ((10,.ptr 4 0)::(11,.ptr 5 0)::(kAg r3 (r3.length:Int) n8 []))) (kA l5 o7 (kL l6 (kE x18.Desk x18.Number x18.Clock x18.Line (kA2 r19.1 [])))) (ac (cv (qap N x18.Line e_r19)) az) ?_)
      refine sg fol (kY l6 ((10,.ptr 4 0)::(11,.ptr 5 0)::(kAg r3 (r3.length:Int) n8 []))) (kA l5 o7 (kL l6 (kE x18.Desk x18.Number x18.Clock x18.Line (kBB (w64 ((l5.length:Int)+1)) r19.1.Kind r19.1.Names r19.1.Values r19.1.Text [])))) ?_
      obtain⟨⟨l21,o22,n23⟩,e_r20,g17⟩:=bnd g17
      try dsimp only at g17
      refine sq (gq fol [2] (kY l6 ((10,.ptr 4 0)::(kAg r3 (r3.length:Int) n8 [(46,.bool (!decide (n23=0)))]))) (kAy l21 o22 (kL l6 (kE x18.Desk x18.Number x18.Clock x18.Line (kN (w64 ((l5.length:Int)+1)) r19.1.Kind r19.1.Names r19.1.Values r19.1.Text l21 o22 [])))) (ac (hs (.callH 128 [.ptr 0 0,.agg [.i (w64 ((l5.length:Int)+1)),.str r19.1.Kind,vl encS r19.1.Names,vl encI r19.1.Values,.str r19.1.Text]] (kA l5 o7 (kL l6 (kE x18.Desk x18.Number x18.Clock x18.Line (kBB (w64 ((l5.length:Int)+1)) r19.1.Kind r19.1.Names r19.1.Values r19.1.Text [])))) [0,1,2] (.i n23) (kAy l21 o22 (kL l6 (kE x18.Desk x18.Number x18.Clock x18.Line (kN (w64 ((l5.length:Int)+1)) r19.1.Kind r19.1.Names r19.1.Values r19.1.Text l21 o22 []))))) (ji [some 0,some 1,some 2] [some 0,none,none,none,none,none,some 3,some 4] (qaK N l5 o7 (w64 ((l5.length:Int)+1)) r19.1.Kind r19.1.Names r19.1.Values r19.1.Text e_r20) (.kb rfl (.cells (rc (.gslice rfl) (rc (.hs rfl) rn))) (.ks (.ks .nil))) rfl rfl (.back rfl rfl (.cells (rc (.gslice rfl) (rc (.hs rfl) rn))) rfl (.dead (.dead (.old rfl rfl (.old rfl rfl (.old rfl rfl (.new rfl rfl (.same fa) rfl (.new rfl rfl (.same fa) rfl .nil)))))))) (rc (.ptr rfl) (rc (.same (qx.agg sn)) rn)) (.same nI) rfl)) az) ?_)
      refine ihB g17 (fun c24 g17=>?_) (fun c24 g17=>?_)
      ·obtain⟨r25,e_r25,g17⟩:=bnd g17
       obtain⟨l26,e_l26,g17⟩:=bnd g17
       refine gq fol [2,4] ((7,.ptr 0 0)::(8,.gslice 9 l26.length 2)::(kAg r3 (r3.length:Int) n8 [])) (kAy l21 o22 (.dead::(kE x18.Desk x18.Number x18.Clock x18.Line (kN (w64 ((l5.length:Int)+1)) r19.1.Kind r19.1.Names r19.1.Values r19.1.Text l21 o22 (kAI r25.Desk r25.Number (kL l26 [])))))) (ac (cv (zf x18 e_r25)) (ac (hs (.run [3,8] (zh Tryz.prog [97,97] (.gslice 3 l6.length 2) (.slice 8 0 1 1 2)) (kAy l21 o22 (kL l6 (kE x18.Desk x18.Number x18.Clock x18.Line (kN (w64 ((l5.length:Int)+1)) r19.1.Kind r19.1.Names r19.1.Values r19.1.Text l21 o22 (kAI r25.Desk r25.Number []))))) (.gslice 9 l26.length 2) (kAy l21 o22 (.dead::(kE x18.Desk x18.Number x18.Clock x18.Line (kN (w64 ((l5.length:Int)+1)) r19.1.Kind r19.1.Names r19.1.Values r19.1.Text l21 o22 (kAI r25.Desk r25.Number (kL l26 [])))))) true) (jE qj8 (E:=qj) rfl (qaB (E:=qj) (ys:=[r25]) rfl rfl rfl rfl) (qcg (E:=qj) (l:=l6) rfl rfl rfl e_l26 rfl))) az)) ?_
       obtain rfl:=si g17
       exact⟨rfl,_,_,_,rfl,(Sub.norm [] [some 0,some 6,some 7,some 9] rfl rfl (.kp (.keep (.gslice rfl) (.keep (.same (qd qa _)) (.keep (.same nI) (.keep (.same nI) .nil))))) (.kb rfl (.cells (rc (.gslice rfl) (rc (.hs rfl) rn))) (.ks (.ks (.ks .nil)))))⟩
      ·refine Goes.skip ?_
       obtain rfl:=si g17
       exact⟨rfl,_,_,_,rfl,(Sub.norm [] [some 0,some 6,some 7,some 3] rfl rfl (.kp (.keep (.gslice rfl) (.drop (.keep (.same (qd qa _)) (.keep (.same nI) (.keep (.same nI) .nil)))))) (.kb rfl (.cells (rc (.gslice rfl) (rc (.hs rfl) rn))) (.ks (.ks (.ks .nil)))))⟩
     rintro x s' ⟨rfl,l14,o15,l16,rfl,hsub⟩
     try dsimp only at g12
     refine Goes.sub hsub ?_
     refine gh fol (kY l16 (kAg r3 (r3.length:Int) (w64 (n8+1)) [])) ?_
     exact⟨M,(ofG 58 (kY l16 (kAg r3 (r3.length:Int) (w64 (n8+1)) [])),(kA l14 o15 (kL l16 []))),Nat.lt_succ_self _,(Sub.refl _),_,_,_,_,rfl,g12⟩
    ·refine Goes.exit ?_
     obtain rfl:=si g12
     exact⟨rfl,_,_,_,rfl,(Sub.keep [7,8] rfl rfl)⟩
  rintro x s' ⟨rfl,l9,o10,l11,rfl,hsub⟩
  try dsimp only at h
  refine Goes.sub hsub ?_
  refine sh fol [(2,.gslice 1 l9.length 5),(3,.gslice 3 l11.length 2),(4,.i 0)] ?_
  refine Goes.ret ?_
  obtain rfl:=si h
  exact(gw2 [.gslice 1 l9.length 5,.gslice 3 l11.length 2,.i 0] (FzW.tuple (qw.cons (FzW.fz (Fz.gs (E:=zT) rfl rfl (nl rfl))) (qw.cons (FzW.fz (Fz.gs (E:=qj) rfl rfl (nl rfl))) (qw.cons (FzW.still tI) qw.nil)))))
def jK (N:Nat) (l6:List qb):Nat→(List qg)→(List qB)→(Option (List StateT))→Int→Option ((List qg)×(Option (List StateT))×(List qB))
 |0,_,_,_,_=>none
 |K+1,l8,l9,o10,n11=>
  if n11<(l6.length:Int)then
  (((idx l6 n11).bind fun x21=>
  (vP N x21.Line).bind fun r22=>
  (jr N l8 o10 (w64 ((l8.length:Int)+1)) r22.1.Kind r22.1.Names r22.1.Values r22.1.Text).bind fun(l24,o25,n26)=>
  if(!decide (n26=0))=true then
  (qW x21).bind fun r28=>
  (app 24 l9 [r28]).bind fun l29=>
  some (l24,o25,l29)
  else
  some (l24,o25,l9):Option ((List qg)×(Option (List StateT))×(List qB)))).bind fun(l17,o18,l19)=>
  jK N l6 K l17 l19 o18 (w64 (n11+1))
  else
  some (l8,o10,l9)
def qaf (N:Nat) (hd:qb) (tl:List qb):Option ((List qg)×(List qB)×Int):=
 (qO N (hd::tl)).bind fun r1=>
 if(!decide (r1=0))=true then
 some ([],[],r1)
 else
 (jf hd tl).bind fun l4=>
 (zI N l4).bind fun l6=>
 ((if l4.length=l6.length then some ()else none:Option Unit)).bind fun u7=>
 (jK N l6 N ([]:List qg) ([]:List qB) (none:Option (List StateT)) 0).bind fun(l12,o13,l14)=>
 some (l12,l14,0)
theorem qfe (N:Nat) (hd:qb) (tl:List qb) {res:(List qg)×(List qB)×Int} (h:qaf N hd tl=some res):qf Tryz.prog (.fn 59) [vl qa (hd::tl)] [] (.tuple [vl zT res.1,vl qj res.2.1,.i res.2.2]) []:=by
 unfold qaf at h
 refine Goes.fnW Tryz.func59 rfl rfl (m:=58) rfl (rs:=[.tmp 2,.tmp 3,.tmp 4]) rfl (l:=(kD (hd::tl) [])) rfl ?_
 refine sh fol (kD (hd::tl) []) ?_
 refine sq ?_
 obtain⟨r1,e_r1,h⟩:=bnd h
 refine sq (gr fol [1] (kD (hd::tl) (kA4 r1)) (ac (cv (ku N (hd::tl) e_r1)) az) ?_)
 refine sh fol (kD (hd::tl) [(5,.i r1),(16,.bool (!decide (r1=0)))]) ?_
 refine ihB h (fun c2 h=>?_) (fun c2 h=>?_)
 ·refine sh fol [(2,.nilslice),(3,.nilslice),(4,.i r1)] ?_
  refine Goes.ret ?_
  obtain rfl:=si h
  exact(gw2 [.nilslice,.nilslice,.i r1] (FzW.tuple (qw.cons (FzW.nilv (E:=zT)) (qw.cons (FzW.nilv (E:=qj)) (qw.cons (FzW.still tI) qw.nil)))))
 ·refine Goes.skip ?_
  obtain⟨l4,e_r3,h⟩:=bnd h
  refine sq (gq fol [1] [(6,.oslice 0 l4.length 4)] (kB l4 []) (ac (hs (.callH 123 [vl qa (hd::tl)] [] [] (.oslice 0 l4.length 4) (kB l4 [])) (ji [] [some 0] (qaA hd tl e_r3) .nil rfl rfl (.new rfl rfl (.same fa) rfl .nil) (rc (.same (qd qa _)) rn) (.oslice rfl) rfl)) az) ?_)
  obtain⟨l6,e_r5,h⟩:=bnd h
  obtain⟨u7,e_u7,h⟩:=bnd h
  refine sq (gq fol [1] [(6,.oslice 0 l4.length 4)] (kB l6 []) (ac (hs (.callH 124 (kBa l4 [.func (.func 125) [] []]) (kB l4 []) [0] (.tuple []) (kB l6 [])) (ji [some 0] [some 0] (qaO N l4 e_r5) (.ks .nil) rfl rfl (.back rfl rfl (.same fa) rfl .nil) (rc (.oslice rfl) (rc (.same (qx.func sn sn)) rn)) (.same (qx.tuple sn)) rfl)) az) ?_)
  refine Goes.sub (show Sub (ofG 58 [(6,.oslice 0 l4.length 4)],(kB l6 [])) (ofG 58 [(6,.oslice 0 l6.length 4)],(kB l6 []))from(Sub.norm [] [some 0] rfl rfl (.keep (.osliceE rfl (qeK e_u7)) .nil) (.ks .nil))) ?_
  refine sg fol ((6,.oslice 0 l6.length 4)::(kBY [])) (kB l6 [.cells [.nilslice,.nilslice]]) ?_
  refine sh fol ((6,.oslice 0 l6.length 4)::(kBY [(8,.nilslice)])) ?_
  refine sq ?_
  refine sh fol (kBY [(8,.nilslice),(24,.oslice 0 l6.length 4),(25,.i (l6.length:Int)),(26,.i 0)]) ?_
  refine Goes.block ?_
  obtain⟨r15,g15,h⟩:=bnd h
  refine Goes.imp (Q:=fun x s'=>(x= .exit 0∧ ∃l12 o13 l14,(l12,o13,l14)=r15∧Sub s' (ofG 58 (kY l14 []),(kA l12 o13 (kL l14 []))))) ?_ ?_
  ·refine Goes.sub (s':=(ofG 58 [(7,.ptr 0 0),(8,.gslice 3 ([]:List qB).length 2),(24,.oslice 4 l6.length 4),(25,.i (l6.length:Int)),(26,.i 0)],(.cells [.gslice 1 ([]:List qg).length 5,hsl 2 3 (none:Option (List StateT))]:: .cells (([]:List qg).flatMap zT.c):: .cells ((hof (none:Option (List StateT))).flatMap jl.c)::(kBF (kB l6 []))))) (Sub.norm [] [some 1,none,none,none,some 0] rfl rfl (.kp (.keep .nil (.keep (.oslice rfl) (.keep (.same nI) (.keep (.same nI) .nil))))) (.kb rfl (.cells (rc (.nil) (rc .hs0 rn))) (.fresh (.fresh (.fresh (.ks .nil)))))) ?_
   refine Goes.loopS (fun M s=> ∃(l8:List qg) (l9:List qB) (o10:Option (List StateT)) (n11:Int),s=(ofG 58 (kY l9 (kAR l6 (l6.length:Int) n11 [])),(kA l8 o10 (kL l9 (kB l6 []))))∧jK N l6 M l8 l9 o10 n11=some r15) ?_ (m:=N) ⟨_,_,_,_,rfl,g15⟩
   rintro M s ⟨l8,l9,o10,n11,rfl,g15⟩
   cases M with
   |zero=>simp only[jK]at g15;cases g15
   |succ M=>
    rw[jK]at g15
    refine sh fol (kY l9 (kAR l6 (l6.length:Int) n11 [(27,.bool (decide (n11<(l6.length:Int))))])) ?_
    refine sq ?_
    refine ihD g15 (fun c16 g15=>?_) (fun c16 g15=>?_)
    ·refine Goes.skip ?_
     refine sq ?_
     obtain⟨r20,g20,g15⟩:=bnd g15
     refine Goes.imp (Q:=fun x s'=>(x= .normal∧ ∃l17 o18 l19,(l17,o18,l19)=r20∧Sub s' (ofG 58 (kY l19 (kAR l6 (l6.length:Int) n11 [])),(kA l17 o18 (kL l19 (kB l6 [])))))) ?_ ?_
     ·refine Goes.block ?_
      obtain⟨x21,e_x21,g20⟩:=bnd g20
      refine sq (gq fol [0,1] (kY l9 ((10,.ptr 5 0)::(kAR l6 (l6.length:Int) n11 []))) (kA l8 o10 (kL l9 (kB l6 (kE x21.Desk x21.Number x21.Clock x21.Line [])))) (ac (hs (.done (.opt (qo Tryz.prog 96 (.oslice 4 l6.length 4) (.i n11))) (.ptr 4 ((n11:Int).toNat*4+0))) (qfL xn e_x21)) (ac (hs (.run [4] (vz Tryz.prog 132 (.ptr 4 ((n11:Int).toNat*4+0))) (kA l8 o10 (kL l9 (kB l6 []))) (.agg (kAk x21.Desk x21.Number x21.Clock x21.Line)) (kA l8 o10 (kL l9 (kB l6 []))) false) (qfQ qak (E:=qa) (l:=l6) rfl rfl e_x21)) az)) ?_)
      obtain⟨r22,e_r22,g20⟩:=bnd g20
      refine sq (gq fol [2] (kY l9 ((10,.ptr 5 0)::(11,.ptr 6 0)::(kAR l6 (l6.length:Int) n11 []))) (kA l8 o10 (kL l9 (kB l6 (kE x21.Desk x21.Number x21.Clock x21.Line (kA2 r22.1 []))))) (ac (cv (qap N x21.Line e_r22)) az) ?_)
      refine sg fol (kY l9 ((10,.ptr 5 0)::(11,.ptr 6 0)::(kAR l6 (l6.length:Int) n11 []))) (kA l8 o10 (kL l9 (kB l6 (kE x21.Desk x21.Number x21.Clock x21.Line (kBB (w64 ((l8.length:Int)+1)) r22.1.Kind r22.1.Names r22.1.Values r22.1.Text []))))) ?_
      obtain⟨⟨l24,o25,n26⟩,e_r23,g20⟩:=bnd g20
      try dsimp only at g20
      refine sq (gq fol [2] (kY l9 ((10,.ptr 5 0)::(kAR l6 (l6.length:Int) n11 [(46,.bool (!decide (n26=0)))]))) (kAz l24 o25 (kL l9 (kB l6 (kE x21.Desk x21.Number x21.Clock x21.Line (kN (w64 ((l8.length:Int)+1)) r22.1.Kind r22.1.Names r22.1.Values r22.1.Text l24 o25 []))))) (ac (hs (.callH 128 [.ptr 0 0,.agg [.i (w64 ((l8.length:Int)+1)),.str r22.1.Kind,vl encS r22.1.Names,vl encI r22.1.Values,.str r22.1.Text]] (kA l8 o10 (kL l9 (kB l6 (kE x21.Desk x21.Number x21.Clock x21.Line (kBB (w64 ((l8.length:Int)+1)) r22.1.Kind r22.1.Names r22.1.Values r22.1.Text []))))) [0,1,2] (.i n26) (kAz l24 o25 (kL l9 (kB l6 (kE x21.Desk x21.Number x21.Clock x21.Line (kN (w64 ((l8.length:Int)+1)) r22.1.Kind r22.1.Names r22.1.Values r22.1.Text l24 o25 [])))))) (ji [some 0,some 1,some 2] [some 0,none,none,none,none,none,none,some 3,some 4] (qaK N l8 o10 (w64 ((l8.length:Int)+1)) r22.1.Kind r22.1.Names r22.1.Values r22.1.Text e_r23) (.kb rfl (.cells (rc (.gslice rfl) (rc (.hs rfl) rn))) (.ks (.ks .nil))) rfl rfl (.back rfl rfl (.cells (rc (.gslice rfl) (rc (.hs rfl) rn))) rfl (.dead (.dead (.old rfl rfl (.old rfl rfl (.old rfl rfl (.old rfl rfl (.new rfl rfl (.same fa) rfl (.new rfl rfl (.same fa) rfl .nil))))))))) (rc (.ptr rfl) (rc (.same (qx.agg sn)) rn)) (.same nI) rfl)) az) ?_)
      refine ihB g20 (fun c27 g20=>?_) (fun c27 g20=>?_)
      ·obtain⟨r28,e_r28,g20⟩:=bnd g20
       obtain⟨l29,e_l29,g20⟩:=bnd g20
       refine gq fol [2,4] ((7,.ptr 0 0)::(8,.gslice 10 l29.length 2)::(kAR l6 (l6.length:Int) n11 [])) (kAz l24 o25 (.dead::(kB l6 (kE x21.Desk x21.Number x21.Clock x21.Line (kN (w64 ((l8.length:Int)+1)) r22.1.Kind r22.1.Names r22.1.Values r22.1.Text l24 o25 (kAI r28.Desk r28.Number (kL l29 []))))))) (ac (cv (zf x21 e_r28)) (ac (hs (.run [3,9] (zh Tryz.prog [97,97] (.gslice 3 l9.length 2) (.slice 9 0 1 1 2)) (kAz l24 o25 (kL l9 (kB l6 (kE x21.Desk x21.Number x21.Clock x21.Line (kN (w64 ((l8.length:Int)+1)) r22.1.Kind r22.1.Names r22.1.Values r22.1.Text l24 o25 (kAI r28.Desk r28.Number [])))))) (.gslice 10 l29.length 2) (kAz l24 o25 (.dead::(kB l6 (kE x21.Desk x21.Number x21.Clock x21.Line (kN (w64 ((l8.length:Int)+1)) r22.1.Kind r22.1.Names r22.1.Values r22.1.Text l24 o25 (kAI r28.Desk r28.Number (kL l29 []))))))) true) (jE qj8 (E:=qj) rfl (qaB (E:=qj) (ys:=[r28]) rfl rfl rfl rfl) (qcg (E:=qj) (l:=l9) rfl rfl rfl e_l29 rfl))) az)) ?_
       obtain rfl:=si g20
       exact⟨rfl,_,_,_,rfl,(Sub.norm [] [some 0,some 7,some 8,some 10,some 4] rfl rfl (.kp (.keep (.gslice rfl) (.keep (.oslice rfl) (.keep (.same nI) (.keep (.same nI) .nil))))) (.kb rfl (.cells (rc (.gslice rfl) (rc (.hs rfl) rn))) (.ks (.ks (.ks (.ks .nil))))))⟩
      ·refine Goes.skip ?_
       obtain rfl:=si g20
       exact⟨rfl,_,_,_,rfl,(Sub.norm [] [some 0,some 7,some 8,some 3,some 4] rfl rfl (.kp (.keep (.gslice rfl) (.drop (.keep (.oslice rfl) (.keep (.same nI) (.keep (.same nI) .nil)))))) (.kb rfl (.cells (rc (.gslice rfl) (rc (.hs rfl) rn))) (.ks (.ks (.ks (.ks .nil))))))⟩
     rintro x s' ⟨rfl,l17,o18,l19,rfl,hsub⟩
     try dsimp only at g15
     refine Goes.sub hsub ?_
     refine gh fol (kY l19 (kAR l6 (l6.length:Int) (w64 (n11+1)) [])) ?_
     exact⟨M,(ofG 58 (kY l19 (kAR l6 (l6.length:Int) (w64 (n11+1)) [])),(kA l17 o18 (kL l19 (kB l6 [])))),Nat.lt_succ_self _,(Sub.refl _),_,_,_,_,rfl,g15⟩
    ·refine Goes.exit ?_
     obtain rfl:=si g15
     exact⟨rfl,_,_,_,rfl,(Sub.norm [] [some 0,some 1,some 2,some 3] rfl rfl (.kp (.keep (.gslice rfl) .nil)) (.kb rfl (.cells (rc (.gslice rfl) (rc (.hs rfl) rn))) (.ks (.ks (.ks .nil)))))⟩
  rintro x s' ⟨rfl,l12,o13,l14,rfl,hsub⟩
  try dsimp only at h
  refine Goes.sub hsub ?_
  refine sh fol [(2,.gslice 1 l12.length 5),(3,.gslice 3 l14.length 2),(4,.i 0)] ?_
  refine Goes.ret ?_
  obtain rfl:=si h
  exact(gw2 [.gslice 1 l12.length 5,.gslice 3 l14.length 2,.i 0] (FzW.tuple (qw.cons (FzW.fz (Fz.gs (E:=zT) rfl rfl (nl rfl))) (qw.cons (FzW.fz (Fz.gs (E:=qj) rfl rfl (nl rfl))) (qw.cons (FzW.still tI) qw.nil)))))
def qdy (N:Nat):(List qb)→Option ((List qg)×(List qB)×Int)
 |[]=>qai N
 |hd::tl=>qaf N hd tl
theorem qgE (N:Nat) (l:List qb) {res:(List qg)×(List qB)×Int} (h:qdy N l=some res):qf Tryz.prog (.fn 59) [vl qa l] [] (.tuple [vl zT res.1,vl qj res.2.1,.i res.2.2]) []:=by
 cases l with
 |nil=>exact qfr N h
 |cons hd tl=>exact qfe N hd tl h
def zS (n:Int) (low:Int) (high:Int):Option Bool:=
 (if n<low then
 some true
 else
 some (decide (n>high)):Option Bool).bind fun b2=>
 some b2
theorem xX (n:Int) (low:Int) (high:Int) {res:Bool} (h:zS n low high=some res):qf Tryz.prog (.fn 36) [.i n,.i low,.i high] [] (.bool res) []:=by
 unfold zS at h
 refine Goes.fnW Tryz.func36 rfl rfl (m:=15) rfl (rs:=[.tmp 6]) rfl (l:=((0,.i n)::(kBL low high []))) rfl ?_
 refine sh fol ((0,.i n)::(kBL low high [])) ?_
 refine sq ?_
 obtain⟨b2,g_v3,h⟩:=bnd h
 refine Goes.cut (s':=(ofG 15 [(6,.bool b2)],[])) ?_ ?_
 ·rcases wyD g_v3 with⟨c1,g_v3⟩|⟨c1,g_v3⟩
  ·obtain rfl:=si g_v3
   exact tr fol [3] [(6,.bool true)] (ac (gw c1) az)
  ·obtain rfl:=si g_v3
   exact tr fol [3] [(6,.bool (decide (n>high)))] (ac (gw c1) az)
 refine Goes.ret ?_
 obtain rfl:=si h
 exact(gw2 [.bool b2] (FzW.still tB))
end Go.Av
end
noncomputable section
namespace Go.Av
open Go.Proofs Go.RowKit
set_option linter.unusedSectionVars false
set_option linter.unusedVariables false
set_option linter.unusedSimpArgs false
set_option maxRecDepth 100000
def vR (s_:Str):Nat→Int→Option (Unit⊕Bool)
 |0,_=>none
 |K+1,n5=>
  if n5<(s_.length:Int)then
  (idx s_ n5).bind fun c9=>
  (if(c9.toNat:Int)≥97 then
  if(c9.toNat:Int)≤122 then
  some true
  else
  if(c9.toNat:Int)≥65 then
  some (decide ((c9.toNat:Int)≤90))
  else
  some false
  else
  if(c9.toNat:Int)≥65 then
  some (decide ((c9.toNat:Int)≤90))
  else
  some false:Option Bool).bind fun b14=>
  (if(!b14)=true then
  if n5=0 then
  some true
  else
  if(c9.toNat:Int)≥48 then
  if(c9.toNat:Int)≤57 then
  some false
  else
  some (!(decide ((c9.toNat:Int)=95)))
  else
  some (!(decide ((c9.toNat:Int)=95)))
  else
  some false:Option Bool).bind fun b20=>
  if b20=true then
  some (.inr false)
  else
  vR s_ K (w64 (n5+1))
  else
  some (.inl ())
def yY (N:Nat) (s_:Str):Option Bool:=
 (if(s_.length:Int)<1 then
 some true
 else
 some (decide ((s_.length:Int)>24)):Option Bool).bind fun b2=>
 if b2=true then
 some false
 else
 (vR s_ N 0).bind (fun
 |(.inl ())=>
 some true
 |(.inr q23)=>
 some q23)
theorem qcZ (N:Nat) (s_:Str) {res:Bool} (h:yY N s_=some res):qf Tryz.prog (.fn 47) [.str s_] [] (.bool res) []:=by
 unfold yY at h
 refine Goes.fnW Tryz.func47 rfl rfl (m:=56) rfl (rs:=[.tmp 2]) rfl (l:=(kAm s_ [])) rfl ?_
 refine sh fol (kAm s_ []) ?_
 refine sq ?_
 refine sq ?_
 obtain⟨b2,g_v3,h⟩:=bnd h
 refine Goes.cut (s':=(ofG 56 (kAm s_ [(13,.bool b2)]),[])) ?_ ?_
 ·rcases wyD g_v3 with⟨c1,g_v3⟩|⟨c1,g_v3⟩
  ·obtain rfl:=si g_v3
   exact tr fol [3] (kAm s_ [(13,.bool true)]) (ac (gw c1) az)
  ·obtain rfl:=si g_v3
   exact tr fol [3] (kAm s_ [(13,.bool (decide ((s_.length:Int)>24)))]) (ac (gw c1) az)
 refine ihB h (fun c4 h=>?_) (fun c4 h=>?_)
 ·refine sh fol kBc ?_
  refine Goes.ret ?_
  obtain rfl:=si h
  exact(gw2 [.bool false] (FzW.still tB))
 ·refine Goes.skip ?_
  refine sq ?_
  refine sh fol (kAm s_ [(3,.i 0)]) ?_
  refine Goes.block ?_
  obtain⟨r6,g6,h⟩:=bnd h
  refine Goes.imp (Q:=fun x s'=>(x= .exit 0∧(.inl ())=r6∧Sub s' (ofG 56 [],[]))∨(x= .ret∧ ∃q7,(.inr q7)=r6∧zy Tryz.prog [.tmp 2] (.bool q7) .ret s')) ?_ ?_
  ·refine Goes.loopS (fun M s=> ∃(n5:Int),s=(ofG 56 (kAm s_ [(3,.i n5)]),[])∧vR s_ M n5=some r6) ?_ (m:=N) ⟨_,rfl,g6⟩
   rintro M s ⟨n5,rfl,g6⟩
   cases M with
   |zero=>simp only[vR]at g6;cases g6
   |succ M=>
    rw[vR]at g6
    refine sq ?_
    refine sh fol (kAm s_ [(3,.i n5),(17,.bool (decide (n5<(s_.length:Int))))]) ?_
    refine ihD g6 (fun c8 g6=>?_) (fun c8 g6=>?_)
    ·refine Goes.skip ?_
     refine sq (Goes.block ?_)
     obtain⟨c9,e_c9,g6⟩:=bnd g6
     refine sq (gr fol [2] (kAm s_ [(3,.i n5),(4,.int .u8 (c9.toNat:Int))]) (ac (hs (.done (.opt (xN Tryz.prog 9 (.str s_) (.i n5))) (.int .u8 (c9.toNat:Int))) (qbO st9 e_c9)) az) ?_)
     refine sq ?_
     obtain⟨b14,g_v15,g6⟩:=bnd g6
     refine Goes.cut (s':=(ofG 56 (kAm s_ [(3,.i n5),(4,.int .u8 (c9.toNat:Int)),(5,.bool b14)]),[])) ?_ ?_
     ·rcases wyD g_v15 with⟨c10,g_v15⟩|⟨c10,g_v15⟩
      ·rcases wyD g_v15 with⟨c11,g_v15⟩|⟨c11,g_v15⟩
       ·obtain rfl:=si g_v15
        exact tr fol [2,6] (kAm s_ [(3,.i n5),(4,.int .u8 (c9.toNat:Int)),(5,.bool true)]) (ac (gw c10) (ac (gw c11) az))
       ·rcases wyD g_v15 with⟨c12,g_v15⟩|⟨c12,g_v15⟩
        ·obtain rfl:=si g_v15
         exact tr fol [2,6,9] (kAm s_ [(3,.i n5),(4,.int .u8 (c9.toNat:Int)),(5,.bool (decide ((c9.toNat:Int)≤90)))]) (ac (gw c10) (ac (gw c11) (ac (gw c12) az)))
        ·obtain rfl:=si g_v15
         exact tr fol [2,6,9] (kAm s_ [(3,.i n5),(4,.int .u8 (c9.toNat:Int)),(5,.bool false)]) (ac (gw c10) (ac (gw c11) (ac (gw c12) az)))
      ·rcases wyD g_v15 with⟨c13,g_v15⟩|⟨c13,g_v15⟩
       ·obtain rfl:=si g_v15
        exact tr fol [2,9] (kAm s_ [(3,.i n5),(4,.int .u8 (c9.toNat:Int)),(5,.bool (decide ((c9.toNat:Int)≤90)))]) (ac (gw c10) (ac (gw c13) az))
       ·obtain rfl:=si g_v15
        exact tr fol [2,9] (kAm s_ [(3,.i n5),(4,.int .u8 (c9.toNat:Int)),(5,.bool false)]) (ac (gw c10) (ac (gw c13) az))
     refine sq ?_
     obtain⟨b20,g_v21,g6⟩:=bnd g6
     refine Goes.cut (s':=(ofG 56 (kAm s_ [(3,.i n5),(55,.bool b20)]),[])) ?_ ?_
     ·rcases wyB g_v21 with⟨c16,g_v21⟩|⟨c16,g_v21⟩
      ·rcases wyD g_v21 with⟨c17,g_v21⟩|⟨c17,g_v21⟩
       ·obtain rfl:=si g_v21
        exact tr fol [2,5] (kAm s_ [(3,.i n5),(55,.bool true)]) (ac (gw c16) (ac (gw c17) az))
       ·rcases wyD g_v21 with⟨c18,g_v21⟩|⟨c18,g_v21⟩
        ·rcases wyD g_v21 with⟨c19,g_v21⟩|⟨c19,g_v21⟩
         ·obtain rfl:=si g_v21
          exact tr fol [2,5,8,12] (kAm s_ [(3,.i n5),(55,.bool false)]) (ac (gw c16) (ac (gw c17) (ac (gw c18) (ac (gw c19) az))))
         ·obtain rfl:=si g_v21
          exact tr fol [2,5,8,12] (kAm s_ [(3,.i n5),(55,.bool (!(decide ((c9.toNat:Int)=95))))]) (ac (gw c16) (ac (gw c17) (ac (gw c18) (ac (gw c19) az))))
        ·obtain rfl:=si g_v21
         exact tr fol [2,5,8] (kAm s_ [(3,.i n5),(55,.bool (!(decide ((c9.toNat:Int)=95))))]) (ac (gw c16) (ac (gw c17) (ac (gw c18) az)))
      ·obtain rfl:=si g_v21
       exact tr fol [2] (kAm s_ [(3,.i n5),(55,.bool false)]) (ac (gw c16) az)
     refine ihB g6 (fun c22 g6=>?_) (fun c22 g6=>?_)
     ·refine sh fol kBc ?_
      refine Goes.ret ?_
      obtain rfl:=si g6
      exact Or.inr (⟨rfl,_,rfl,(gw2 [.bool false] (FzW.still tB))⟩)
     ·refine Goes.skip ?_
      refine gh fol (kAm s_ [(3,.i (w64 (n5+1)))]) ?_
      exact⟨M,(ofG 56 (kAm s_ [(3,.i (w64 (n5+1)))]),[]),Nat.lt_succ_self _,(Sub.refl _),_,rfl,g6⟩
    ·refine Goes.exit ?_
     obtain rfl:=si g6
     exact Or.inl (⟨rfl,rfl,(Sub.keep [] rfl rfl)⟩)
  rintro x s' (⟨rfl,rfl,hsub⟩|⟨rfl,q23,rfl,hret⟩)
  ·try dsimp only at h
   refine Goes.sub hsub ?_
   refine sh fol [(2,.bool true)] ?_
   refine Goes.ret ?_
   obtain rfl:=si h
   exact(gw2 [.bool true] (FzW.still tB))
  ·try dsimp only at h
   obtain rfl:=si h
   exact hret
def qa1 (kind:Str):Option (Int×Int×Bool):=
 if(kind==[109,97,107,101])=true then
 some (2,3,true)
 else
 ((if(kind==[116,101,115,116])=true then
 some (kind==[116,101,115,116])
 else
 some (kind==[117,115,101]):Option Bool)).bind fun b2=>
 if b2=true then
 some (1,2,true)
 else
 ((if(kind==[102,97,105,108])=true then
 some (kind==[102,97,105,108])
 else
 some (kind==[114,101,99,97,108,108]):Option Bool)).bind fun b6=>
 if b6=true then
 some (1,1,true)
 else
 if(kind==[117,110,100,111])=true then
 some (0,0,true)
 else
 some (0,0,false)
theorem qhz (kind:Str) {res:Int×Int×Bool} (h:qa1 kind=some res):qf Tryz.prog (.fn 90) [.str kind] [] (.tuple [.i res.1,.i res.2.1,.bool res.2.2]) []:=by
 unfold qa1 at h
 refine Goes.fnW Tryz.func90 rfl rfl (m:=16) rfl (rs:=[.tmp 2,.tmp 3,.tmp 4]) rfl (l:=(kAm kind [])) rfl ?_
 refine sh fol (kAm kind []) ?_
 refine sq ?_
 refine sh fol [(5,.str kind)] ?_
 refine Goes.block ?_
 refine sh fol [(5,.str kind),(6,.bool (kind==[109,97,107,101]))] ?_
 refine ihB h (fun c1 h=>?_) (fun c1 h=>?_)
 ·refine sh fol ((2,.i 2)::(3,.i 3)::kAt) ?_
  refine Goes.ret ?_
  obtain rfl:=si h
  exact(gw2 (.i 2:: .i 3::kA1) (FzW.tuple (qw.cons (FzW.still tI) (qw.cons (FzW.still tI) (qw.cons (FzW.still tB) qw.nil)))))
 ·refine sq ?_
  refine sh fol [(5,.str kind),(8,.bool (kind==[116,101,115,116]))] ?_
  obtain⟨r3,g3,h⟩:=bnd h
  refine Goes.imp (Q:=fun x s'=>(x= .normal∧ ∃b2,b2=r3∧Sub s' (ofG 16 [(5,.str kind),(8,.bool b2)],[]))) ?_ ?_
  ·refine ihB g3 (fun c4 g3=>?_) (fun c4 g3=>?_)
   ·refine Goes.skip ?_
    obtain rfl:=si g3
    exact⟨rfl,_,rfl,(Sub.refl _)⟩
   ·refine gh fol [(5,.str kind),(8,.bool (kind==[117,115,101]))] ?_
    obtain rfl:=si g3
    exact⟨rfl,_,rfl,(Sub.refl _)⟩
  rintro x s' ⟨rfl,b2,rfl,hsub⟩
  refine Goes.sub hsub ?_
  refine ihB h (fun c5 h=>?_) (fun c5 h=>?_)
  ·refine sh fol ((2,.i 1)::(3,.i 2)::kAt) ?_
   refine Goes.ret ?_
   obtain rfl:=si h
   exact(gw2 (.i 1:: .i 2::kA1) (FzW.tuple (qw.cons (FzW.still tI) (qw.cons (FzW.still tI) (qw.cons (FzW.still tB) qw.nil)))))
  ·refine sq ?_
   refine sh fol [(5,.str kind),(11,.bool (kind==[102,97,105,108]))] ?_
   obtain⟨r7,g7,h⟩:=bnd h
   refine Goes.imp (Q:=fun x s'=>(x= .normal∧ ∃b6,b6=r7∧Sub s' (ofG 16 [(5,.str kind),(11,.bool b6)],[]))) ?_ ?_
   ·refine ihB g7 (fun c8 g7=>?_) (fun c8 g7=>?_)
    ·refine Goes.skip ?_
     obtain rfl:=si g7
     exact⟨rfl,_,rfl,(Sub.refl _)⟩
    ·refine gh fol [(5,.str kind),(11,.bool (kind==[114,101,99,97,108,108]))] ?_
     obtain rfl:=si g7
     exact⟨rfl,_,rfl,(Sub.refl _)⟩
   rintro x s' ⟨rfl,b6,rfl,hsub⟩
   refine Goes.sub hsub ?_
   refine ihB h (fun c9 h=>?_) (fun c9 h=>?_)
   ·refine sh fol ((2,.i 1)::(3,.i 1)::kAt) ?_
    refine Goes.ret ?_
    obtain rfl:=si h
    exact(gw2 (.i 1:: .i 1::kA1) (FzW.tuple (qw.cons (FzW.still tI) (qw.cons (FzW.still tI) (qw.cons (FzW.still tB) qw.nil)))))
   ·refine sh fol [(14,.bool (kind==[117,110,100,111]))] ?_
    refine ihB h (fun c10 h=>?_) (fun c10 h=>?_)
    ·refine sh fol ((2,.i 0)::(3,.i 0)::kAt) ?_
     refine Goes.ret ?_
     obtain rfl:=si h
     exact(gw2 (.i 0:: .i 0::kA1) (FzW.tuple (qw.cons (FzW.still tI) (qw.cons (FzW.still tI) (qw.cons (FzW.still tB) qw.nil)))))
    ·refine Goes.skip ?_
     refine sh fol ((2,.i 0)::(3,.i 0)::kAf) ?_
     refine Goes.ret ?_
     obtain rfl:=si h
     exact(gw2 [.i 0,.i 0,.bool false] (FzW.tuple (qw.cons (FzW.still tI) (qw.cons (FzW.still tI) (qw.cons (FzW.still tB) qw.nil)))))
def jC (s_:Str):Nat→(List Str)→Int→Int→Option (List Str)
 |0,_,_,_=>none
 |K+1,l1,n2,n3=>
  if n3≤(s_.length:Int)then
  (((if n3=(s_.length:Int)then
  some true
  else
  (idx s_ n3).bind fun c11=>
  some (decide ((c11.toNat:Int)=32)):Option Bool).bind fun b12=>
  if b12=true then
  (cut s_ n2 n3).bind fun s15=>
  (app 16 l1 [s15]).bind fun l16=>
  some (l16,w64 (n3+1))
  else
  some (l1,n2):Option ((List Str)×Int))).bind fun(l7,n8)=>
  jC s_ K l7 n8 (w64 (n3+1))
  else
  some l1
def qbc (N:Nat) (s_:Str):Option (List Str):=
 (jC s_ N ([]:List Str) 0 0).bind fun l4=>
 some l4
theorem qg6 (N:Nat) (s_:Str) {res:List Str} (h:qbc N s_=some res):qf Tryz.prog (.fn 137) [.str s_] [] (vl encS res) []:=by
 unfold qbc at h
 refine Goes.fnW Tryz.func137 rfl rfl (m:=32) rfl (rs:=[.tmp 2]) rfl (l:=(kAm s_ [])) rfl ?_
 refine sh fol (kAm s_ []) ?_
 refine sh fol (kAm s_ [(3,.nilslice)]) ?_
 refine sh fol (kAm s_ [(3,.nilslice),(4,.i 0)]) ?_
 refine sq ?_
 refine sh fol (kAm s_ ((3,.nilslice)::(4,.i 0)::kBi)) ?_
 refine Goes.block ?_
 obtain⟨r5,g5,h⟩:=bnd h
 refine Goes.imp (Q:=fun x s'=>(x= .exit 0∧ ∃l4,l4=r5∧Sub s' (ofG 32 [(3,.gslice 0 l4.length 1)],(kQ l4 [])))) ?_ ?_
 ·refine Goes.sub (s':=(ofG 32 (kAm s_ ((3,.gslice 0 ([]:List Str).length 1)::(4,.i 0)::kBi)),[.cells (([]:List Str).flatMap encS.c)])) (Sub.norm [] [none] rfl rfl (.keep (.same nS) (.keep .nil (.keep (.same nI) (.keep (.same nI) .nil)))) (.fresh .nil)) ?_
  refine Goes.loopS (fun M s=> ∃(l1:List Str) (n2:Int) (n3:Int),s=(ofG 32 (kAY s_ l1 n2 n3 []),(kQ l1 []))∧jC s_ M l1 n2 n3=some r5) ?_ (m:=N) ⟨_,_,_,rfl,g5⟩
  rintro M s ⟨l1,n2,n3,rfl,g5⟩
  cases M with
  |zero=>simp only[jC]at g5;cases g5
  |succ M=>
   rw[jC]at g5
   refine sq ?_
   refine sh fol (kAY s_ l1 n2 n3 [(9,.bool (decide (n3≤(s_.length:Int))))]) ?_
   refine ihD g5 (fun c6 g5=>?_) (fun c6 g5=>?_)
   ·refine Goes.skip ?_
    refine sq ?_
    obtain⟨r9,g9,g5⟩:=bnd g5
    refine Goes.imp (Q:=fun x s'=>(x= .normal∧ ∃l7 n8,(l7,n8)=r9∧Sub s' (ofG 32 (kAY s_ l7 n8 n3 []),(kQ l7 [])))) ?_ ?_
    ·refine Goes.block ?_
     refine sq ?_
     obtain⟨b12,g_v13,g9⟩:=bnd g9
     refine Goes.cut (s':=(ofG 32 (kAY s_ l1 n2 n3 [(21,.bool b12)]),(kQ l1 []))) ?_ ?_
     ·rcases wyD g_v13 with⟨c10,g_v13⟩|⟨c10,g_v13⟩
      ·obtain rfl:=si g_v13
       exact tr fol [4] (kAY s_ l1 n2 n3 [(21,.bool true)]) (ac (gw c10) az)
      ·obtain⟨c11,e_c11,g_v13⟩:=bnd g_v13
       obtain rfl:=si g_v13
       exact tr fol [4,7] (kAY s_ l1 n2 n3 [(21,.bool (decide ((c11.toNat:Int)=32)))]) (ac (gw c10) (ac (hs (.done (.opt (xN Tryz.prog 9 (.str s_) (.i n3))) (.int .u8 (c11.toNat:Int))) (qbO st9 e_c11)) az))
     refine ihB g9 (fun c14 g9=>?_) (fun c14 g9=>?_)
     ·obtain⟨s15,e_s15,g9⟩:=bnd g9
      obtain⟨l16,e_l16,g9⟩:=bnd g9
      refine sq (gq fol [4,6] (kAm s_ ((3,.gslice 2 l16.length 1)::(kA4 n3))) (.dead:: .cells [.str s15]::(kQ l16 [])) (ac (hs (.done (.opt (zW Tryz.prog 9 (.str s_) (some (.i n2)) (some (.i n3)) none)) (.str s15)) (qiv st9 (some n2) (some n3) e_s15)) (ac (hs (.run [0,1] (zh Tryz.prog [23,23] (.gslice 0 l1.length 1) (.slice 1 0 1 1 1)) (kQ l1 [.cells [.str s15]]) (.gslice 2 l16.length 1) (.dead:: .cells [.str s15]::(kQ l16 [])) true) (jE xU (E:=encS) rfl (qaB (E:=encS) (ys:=[s15]) rfl rfl rfl rfl) (qcg (E:=encS) (l:=l1) rfl rfl rfl e_l16 rfl))) az)) ?_)
      refine gh fol (kAm s_ ((3,.gslice 2 l16.length 1)::(4,.i (w64 (n3+1)))::(kA4 n3))) ?_
      obtain rfl:=si g9
      exact⟨rfl,_,_,rfl,(Sub.norm [] [some 2] rfl rfl (.keep (.same nS) (.keep (.gslice rfl) (.keep (.same nI) (.keep (.same nI) .nil)))) (.ks .nil))⟩
     ·refine Goes.skip ?_
      obtain rfl:=si g9
      exact⟨rfl,_,_,rfl,(Sub.keep [0,3,4,5] rfl rfl)⟩
    rintro x s' ⟨rfl,l7,n8,rfl,hsub⟩
    try dsimp only at g5
    refine Goes.sub hsub ?_
    refine gh fol (kAY s_ l7 n8 (w64 (n3+1)) []) ?_
    exact⟨M,(ofG 32 (kAY s_ l7 n8 (w64 (n3+1)) []),(kQ l7 [])),Nat.lt_succ_self _,(Sub.refl _),_,_,_,rfl,g5⟩
   ·refine Goes.exit ?_
    obtain rfl:=si g5
    exact⟨rfl,_,rfl,(Sub.keep [3] rfl rfl)⟩
 rintro x s' ⟨rfl,l4,rfl,hsub⟩
 refine Goes.sub hsub ?_
 refine sh fol [(2,.gslice 0 l4.length 1)] ?_
 refine Goes.ret ?_
 obtain rfl:=si h
 exact(gw2 [.gslice 0 l4.length 1] (FzW.fz (Fz.gs (E:=encS) rfl rfl (nl rfl))))
def jO (s_:Str):Nat→Int→Int→Option (Int⊕(Int×Bool))
 |0,_,_=>none
 |K+1,n8,n9=>
  if n9<(s_.length:Int)then
  ((idx s_ n9).bind fun c14=>
  if(c14.toNat:Int)<48 then
  some true
  else
  some (decide ((c14.toNat:Int)>57)):Option Bool).bind fun b16=>
  if b16=true then
  some (.inr (0,false))
  else
  (idx s_ n9).bind fun c19=>
  jO s_ K (w64 ((w64 (10*n8))+(w64 (IntKind.wrap .u8 ((c19.toNat:Int)-48))))) (w64 (n9+1))
  else
  some (.inl n8)
def qal (N:Nat) (s_:Str):Option (Int×Bool):=
 (if(s_.length:Int)=0 then
 some true
 else
 if(s_.length:Int)>9 then
 some true
 else
 if(s_.length:Int)>1 then
 (idx s_ 0).bind fun c4=>
 some (decide ((c4.toNat:Int)=48))
 else
 some false:Option Bool).bind fun b5=>
 if b5=true then
 some (0,false)
 else
 (jO s_ N 0 0).bind (fun
 |(.inl n10)=>
 some (n10,true)
 |(.inr q20)=>
 some q20)
theorem qfD (N:Nat) (s_:Str) {res:Int×Bool} (h:qal N s_=some res):qf Tryz.prog (.fn 138) [.str s_] [] (.tuple [.i res.1,.bool res.2]) []:=by
 unfold qal at h
 refine Goes.fnW Tryz.func138 rfl rfl (m:=49) rfl (rs:=[.tmp 2,.tmp 3]) rfl (l:=(kAm s_ [])) rfl ?_
 refine sh fol (kAm s_ []) ?_
 refine sq ?_
 refine sq ?_
 obtain⟨b5,g_v6,h⟩:=bnd h
 refine Goes.cut (s':=(ofG 49 (kAm s_ [(23,.bool b5)]),[])) ?_ ?_
 ·rcases wyD g_v6 with⟨c1,g_v6⟩|⟨c1,g_v6⟩
  ·obtain rfl:=si g_v6
   exact tr fol [3] (kAm s_ [(23,.bool true)]) (ac (gw c1) az)
  ·rcases wyD g_v6 with⟨c2,g_v6⟩|⟨c2,g_v6⟩
   ·obtain rfl:=si g_v6
    exact tr fol [3,8] (kAm s_ [(23,.bool true)]) (ac (gw c1) (ac (gw c2) az))
   ·rcases wyD g_v6 with⟨c3,g_v6⟩|⟨c3,g_v6⟩
    ·obtain⟨c4,e_c4,g_v6⟩:=bnd g_v6
     obtain rfl:=si g_v6
     exact tr fol [3,8,12,14] (kAm s_ [(23,.bool (decide ((c4.toNat:Int)=48)))]) (ac (gw c1) (ac (gw c2) (ac (gw c3) (ac (hs (.done (.opt (xN Tryz.prog 9 (.str s_) (.i 0))) (.int .u8 (c4.toNat:Int))) (qbO st9 e_c4)) az))))
    ·obtain rfl:=si g_v6
     exact tr fol [3,8,12] (kAm s_ [(23,.bool false)]) (ac (gw c1) (ac (gw c2) (ac (gw c3) az)))
 refine ihB h (fun c7 h=>?_) (fun c7 h=>?_)
 ·refine sh fol ((2,.i 0)::kBT) ?_
  refine Goes.ret ?_
  obtain rfl:=si h
  exact(gw2 [.i 0,.bool false] (FzW.tuple (qw.cons (FzW.still tI) (qw.cons (FzW.still tB) qw.nil))))
 ·refine Goes.skip ?_
  refine sh fol (kAm s_ [(4,.i 0)]) ?_
  refine sq ?_
  refine sh fol (kAm s_ ((4,.i 0)::kBi)) ?_
  refine Goes.block ?_
  obtain⟨r11,g11,h⟩:=bnd h
  refine Goes.imp (Q:=fun x s'=>(x= .exit 0∧ ∃n10,(.inl n10)=r11∧Sub s' (ofG 49 [(4,.i n10)],[]))∨(x= .ret∧ ∃q12,(.inr q12)=r11∧zy Tryz.prog [.tmp 2,.tmp 3] (.tuple [.i q12.1,.bool q12.2]) .ret s')) ?_ ?_
  ·refine Goes.loopS (fun M s=> ∃(n8:Int) (n9:Int),s=(ofG 49 (kAm s_ ((4,.i n8)::(kA4 n9))),[])∧jO s_ M n8 n9=some r11) ?_ (m:=N) ⟨_,_,rfl,g11⟩
   rintro M s ⟨n8,n9,rfl,g11⟩
   cases M with
   |zero=>simp only[jO]at g11;cases g11
   |succ M=>
    rw[jO]at g11
    refine sq ?_
    refine sh fol (kAm s_ [(4,.i n8),(5,.i n9),(27,.bool (decide (n9<(s_.length:Int))))]) ?_
    refine ihD g11 (fun c13 g11=>?_) (fun c13 g11=>?_)
    ·refine Goes.skip ?_
     refine sq (Goes.block ?_)
     refine sq ?_
     refine sq ?_
     obtain⟨b16,g_v17,g11⟩:=bnd g11
     refine Goes.cut (s':=(ofG 49 (kAm s_ [(4,.i n8),(5,.i n9),(39,.bool b16)]),[])) ?_ ?_
     ·obtain⟨c14,e_c14,g_v17⟩:=bnd g_v17
      rcases wyD g_v17 with⟨c15,g_v17⟩|⟨c15,g_v17⟩
      ·obtain rfl:=si g_v17
       exact tr fol [2,4] (kAm s_ [(4,.i n8),(5,.i n9),(39,.bool true)]) (ac (hs (.done (.opt (xN Tryz.prog 9 (.str s_) (.i n9))) (.int .u8 (c14.toNat:Int))) (qbO st9 e_c14)) (ac (gw c15) az))
      ·obtain rfl:=si g_v17
       exact tr fol [2,4,7] (kAm s_ [(4,.i n8),(5,.i n9),(39,.bool (decide ((c14.toNat:Int)>57)))]) (ac (hs (.done (.opt (xN Tryz.prog 9 (.str s_) (.i n9))) (.int .u8 (c14.toNat:Int))) (qbO st9 e_c14)) (ac (gw c15) (ac (hs (.done (.opt (xN Tryz.prog 9 (.str s_) (.i n9))) (.int .u8 (c14.toNat:Int))) (qbO st9 e_c14)) az)))
     refine ihB g11 (fun c18 g11=>?_) (fun c18 g11=>?_)
     ·refine sh fol ((2,.i 0)::kBT) ?_
      refine Goes.ret ?_
      obtain rfl:=si g11
      exact Or.inr (⟨rfl,_,rfl,(gw2 [.i 0,.bool false] (FzW.tuple (qw.cons (FzW.still tI) (qw.cons (FzW.still tB) qw.nil))))⟩)
     ·refine Goes.skip ?_
      obtain⟨c19,e_c19,g11⟩:=bnd g11
      refine gr fol [4] (kAm s_ ((4,.i (w64 ((w64 (10*n8))+(w64 (IntKind.wrap .u8 ((c19.toNat:Int)-48))))))::(kA4 n9))) (ac (hs (.done (.opt (xN Tryz.prog 9 (.str s_) (.i n9))) (.int .u8 (c19.toNat:Int))) (qbO st9 e_c19)) az) ?_
      refine gh fol (kAm s_ ((4,.i (w64 ((w64 (10*n8))+(w64 (IntKind.wrap .u8 ((c19.toNat:Int)-48))))))::(kA4 (w64 (n9+1))))) ?_
      exact⟨M,(ofG 49 (kAm s_ ((4,.i (w64 ((w64 (10*n8))+(w64 (IntKind.wrap .u8 ((c19.toNat:Int)-48))))))::(kA4 (w64 (n9+1))))),[]),Nat.lt_succ_self _,(Sub.refl _),_,_,rfl,g11⟩
    ·refine Goes.exit ?_
     obtain rfl:=si g11
     exact Or.inl (⟨rfl,_,rfl,(Sub.keep [4] rfl rfl)⟩)
  rintro x s' (⟨rfl,n10,rfl,hsub⟩|⟨rfl,q20,rfl,hret⟩)
  ·try dsimp only at h
   refine Goes.sub hsub ?_
   refine sh fol [(2,.i n10),(3,.bool true)] ?_
   refine Goes.ret ?_
   obtain rfl:=si h
   exact(gw2 (.i n10::kA1) (FzW.tuple (qw.cons (FzW.still tI) (qw.cons (FzW.still tB) qw.nil))))
  ·try dsimp only at h
   obtain rfl:=si h
   exact hret
def jY (N:Nat) (r1:List Str) (r3:Int×Int×Bool):Nat→(List Str)→(List Int)→Int→Option (((List Str)×(List Int))⊕(qg×Bool))
 |0,_,_,_=>none
 |K+1,l8,l9,n10=>
  if n10<(r1.length:Int)then
  (((idx r1 n10).bind fun x20=>
  if(x20==[])=true then
  some (.inr ((⟨0,[],[],[],[]⟩:qg),false))
  else
  if n10≤r3.1 then
  (app 16 l8 [x20]).bind fun l23=>
  some (.inl (l23,l9))
  else
  (qal N x20).bind fun r24=>
  if(!r24.2)=true then
  some (.inr ((⟨0,[],[],[],[]⟩:qg),false))
  else
  (app 8 l9 [r24.1]).bind fun l26=>
  some (.inl (l8,l26)):Option (((List Str)×(List Int))⊕(qg×Bool)))).bind (fun
  |(.inl (l16,l17))=>
  jY N r1 r3 K l16 l17 (w64 (n10+1))
  |(.inr q27)=>
  some (.inr q27))
  else
  some (.inl (l8,l9))
def qaH (N:Nat) (s_:Str):Option (qg×Bool):=
 (qbc N s_).bind fun r1=>
 (idx r1 0).bind fun x2=>
 (qa1 x2).bind fun r3=>
 (if(!r3.2.2)=true then
 some true
 else
 some (!decide ((r1.length:Int)=(w64 ((w64 (1+r3.1))+r3.2.1)))):Option Bool).bind fun b5=>
 if b5=true then
 some ((⟨0,[],[],[],[]⟩:qg),false)
 else
 (jY N r1 r3 N ([]:List Str) ([]:List Int) 1).bind (fun
 |(.inl (l11,l12))=>
 some ((⟨0,x2,l11,l12,[]⟩:qg),true)
 |(.inr q28)=>
 some q28)
theorem qf4 (N:Nat) (s_:Str) {res:qg×Bool} (h:qaH N s_=some res):qf Tryz.prog (.fn 76) [.str s_] [] (.tuple [.agg (cE res.1),.bool res.2]) []:=by
 unfold qaH at h
 refine Goes.fnW Tryz.func76 rfl rfl (m:=80) rfl (rs:=[.cell 2 26,.tmp 3]) rfl (l:=(kAm s_ [])) rfl ?_
 refine sg fol (kAm s_ (kAj [])) (kG []) ?_
 obtain⟨r1,e_r1,h⟩:=bnd h
 refine sq (gr fol [1] (kV r1 []) (ac (cv (qg6 N s_ e_r1)) az) ?_)
 obtain⟨x2,e_x2,h⟩:=bnd h
 obtain⟨r3,e_r3,h⟩:=bnd h
 refine sq (gr fol [1,2,3] (kV r1 [(5,.i r3.1),(6,.i r3.2.1),(7,.bool r3.2.2)]) (ac (iv xU encS e_x2) (ac (lv 0 ce9 encS e_x2 rfl) (ac (cv (qhz x2 e_r3)) az))) ?_)
 refine sq ?_
 refine sq ?_
 obtain⟨b5,g_v6,h⟩:=bnd h
 refine Goes.cut (s':=(ofG 80 (kV r1 [(5,.i r3.1),(32,.bool b5)]),(kG []))) ?_ ?_
 ·rcases wyB g_v6 with⟨c4,g_v6⟩|⟨c4,g_v6⟩
  ·obtain rfl:=si g_v6
   exact tr fol [2] (kV r1 [(5,.i r3.1),(32,.bool true)]) (ac (gw c4) az)
  ·obtain rfl:=si g_v6
   exact tr fol [2] (kV r1 [(5,.i r3.1),(32,.bool (!decide ((r1.length:Int)=(w64 ((w64 (1+r3.1))+r3.2.1)))))]) (ac (gw c4) az)
 refine ihB h (fun c7 h=>?_) (fun c7 h=>?_)
 ·refine sh fol (kAj kBT) ?_
  refine Goes.ret ?_
  obtain rfl:=si h
  exact(gw2 kAZ (FzW.tuple (qw.cons (FzW.agg (qw.cons (FzW.still tI) (qw.cons (FzW.still tS) (qw.cons (FzW.nilv (E:=encS)) (qw.cons (FzW.nilv (E:=encI)) (qw.cons (FzW.still tS) qw.nil)))))) (qw.cons (FzW.still tB) qw.nil))))
 ·refine Goes.skip ?_
  refine sq (gq fol [1,2] (kV r1 [(5,.i r3.1),(8,.ptr 1 0)]) (kG [.cells [.i 0,.str x2,.nilslice,.nilslice,.str []]]) (ac (iv xU encS e_x2) (ac (lv 0 ce9 encS e_x2 rfl) az)) ?_)
  refine sq ?_
  refine sh fol (kV r1 [(5,.i r3.1),(8,.ptr 1 0),(9,.i 1)]) ?_
  refine Goes.block ?_
  obtain⟨r13,g13,h⟩:=bnd h
  refine Goes.imp (Q:=fun x s'=>(x= .exit 0∧ ∃l11 l12,(.inl (l11,l12))=r13∧Sub s' (ofG 80 (kAj [(8,.ptr 1 0)]),(kG (kAB x2 l11 l12 (kQ l11 (kAO l12 []))))))∨(x= .ret∧ ∃q14,(.inr q14)=r13∧zy Tryz.prog [.cell 2 26,.tmp 3] (.tuple [.agg (cE q14.1),.bool q14.2]) .ret s')) ?_ ?_
  ·refine Goes.sub (s':=(ofG 80 (kV r1 [(5,.i r3.1),(8,.ptr 1 0),(9,.i 1)]),(kG [.cells [.i 0,.str x2,.gslice 2 ([]:List Str).length 1,.gslice 3 ([]:List Int).length 1,.str []],.cells (([]:List Str).flatMap encS.c),.cells (([]:List Int).flatMap encI.c)]))) (Sub.norm [] [some 0,some 1,none,none] rfl rfl (.kp (.keep (.same (qd encS _)) (.keep (.same nI) (.kp (.keep (.same nI) .nil))))) (.kb rfl (.same sn) (.kb rfl (.cells (rc (.same nI) (rc (.same nS) (rc (.nil) (rc (.nil) (rc (.same nS) rn)))))) (.fresh (.fresh .nil))))) ?_
   refine Goes.loopS (fun M s=> ∃(l8:List Str) (l9:List Int) (n10:Int),s=(ofG 80 (kV r1 (kAi r3.1 n10 [])),(kG (kAB x2 l8 l9 (kQ l8 (kAO l9 [])))))∧jY N r1 r3 M l8 l9 n10=some r13) ?_ (m:=N) ⟨_,_,_,rfl,g13⟩
   rintro M s ⟨l8,l9,n10,rfl,g13⟩
   cases M with
   |zero=>simp only[jY]at g13;cases g13
   |succ M=>
    rw[jY]at g13
    refine sq ?_
    refine sh fol (kV r1 (kAi r3.1 n10 [(41,.bool (decide (n10<(r1.length:Int))))])) ?_
    refine ihD g13 (fun c15 g13=>?_) (fun c15 g13=>?_)
    ·refine Goes.skip ?_
     refine sq ?_
     obtain⟨r18,g18,g13⟩:=bnd g13
     refine Goes.imp (Q:=fun x s'=>(x= .normal∧ ∃l16 l17,(.inl (l16,l17))=r18∧Sub s' (ofG 80 (kV r1 (kAi r3.1 n10 [])),(kG (kAB x2 l16 l17 (kQ l16 (kAO l17 []))))))∨(x= .ret∧ ∃q19,(.inr q19)=r18∧zy Tryz.prog [.cell 2 26,.tmp 3] (.tuple [.agg (cE q19.1),.bool q19.2]) .ret s')) ?_ ?_
     ·refine Goes.block ?_
      refine sq ?_
      obtain⟨x20,e_x20,g18⟩:=bnd g18
      refine sq (gr fol [2,3] (kV r1 (kAi r3.1 n10 [(48,.bool (x20==[]))])) (ac (iv xU encS e_x20) (ac (lv 0 ce9 encS e_x20 rfl) az)) ?_)
      refine ihB g18 (fun c21 g18=>?_) (fun c21 g18=>?_)
      ·refine sh fol (kAj kBT) ?_
       refine Goes.ret ?_
       obtain rfl:=si g18
       exact Or.inr (⟨rfl,_,rfl,(gw2 kAZ (FzW.tuple (qw.cons (FzW.agg (qw.cons (FzW.still tI) (qw.cons (FzW.still tS) (qw.cons (FzW.nilv (E:=encS)) (qw.cons (FzW.nilv (E:=encI)) (qw.cons (FzW.still tS) qw.nil)))))) (qw.cons (FzW.still tB) qw.nil))))⟩)
      ·refine Goes.skip ?_
       refine sq ?_
       refine sh fol (kV r1 (kAi r3.1 n10 [(52,.bool (decide (n10≤r3.1)))])) ?_
       refine ihD g18 (fun c22 g18=>?_) (fun c22 g18=>?_)
       ·obtain⟨l23,e_l23,g18⟩:=bnd g18
        refine sq (gq fol [4,5,7] (kV r1 (kAi r3.1 n10 [])) (kG (.cells [.i 0,.str x2,.gslice 5 l23.length 1,.gslice 3 l9.length 1,.str []]:: .dead::(kAO l9 (.cells [.str x20]::(kQ l23 []))))) (ac (iv xU encS e_x20) (ac (lv 0 ce9 encS e_x20 rfl) (ac (hs (.run [2,4] (zh Tryz.prog [23,23] (.gslice 2 l8.length 1) (.slice 4 0 1 1 1)) (kG (kAB x2 l8 l9 (kQ l8 (kAO l9 [.cells [.str x20]])))) (.gslice 5 l23.length 1) (kG (kAB x2 l8 l9 (.dead::(kAO l9 (.cells [.str x20]::(kQ l23 [])))))) true) (jE xU (E:=encS) rfl (qaB (E:=encS) (ys:=[x20]) rfl rfl rfl rfl) (qcg (E:=encS) (l:=l8) rfl rfl rfl e_l23 rfl))) az))) ?_)
        refine Goes.exit ?_
        obtain rfl:=si g18
        exact Or.inl (⟨rfl,_,_,rfl,(Sub.norm [] [some 0,some 1,some 5,some 3] rfl rfl (.kp (.keep (.same (qd encS _)) (.keep (.same nI) (.kp (.keep (.same nI) .nil))))) (.kb rfl (.same sn) (.kb rfl (.cells (rc (.same nI) (rc (.same nS) (rc (.gslice rfl) (rc (.gslice rfl) (rc (.same nS) rn)))))) (.ks (.ks .nil)))))⟩)
       ·refine Goes.skip ?_
        obtain⟨r24,e_r24,g18⟩:=bnd g18
        refine sq (gr fol [2,3,4] (kV r1 (kAi r3.1 n10 [(10,.i r24.1),(11,.bool r24.2)])) (ac (iv xU encS e_x20) (ac (lv 0 ce9 encS e_x20 rfl) (ac (cv (qfD N x20 e_r24)) az))) ?_)
        refine sq ?_
        refine sh fol (kV r1 (kAi r3.1 n10 [(10,.i r24.1),(71,.bool (!r24.2))])) ?_
        refine ihB g18 (fun c25 g18=>?_) (fun c25 g18=>?_)
        ·refine sh fol (kAj kBT) ?_
         refine Goes.ret ?_
         obtain rfl:=si g18
         exact Or.inr (⟨rfl,_,rfl,(gw2 kAZ (FzW.tuple (qw.cons (FzW.agg (qw.cons (FzW.still tI) (qw.cons (FzW.still tS) (qw.cons (FzW.nilv (E:=encS)) (qw.cons (FzW.nilv (E:=encI)) (qw.cons (FzW.still tS) qw.nil)))))) (qw.cons (FzW.still tB) qw.nil))))⟩)
        ·refine Goes.skip ?_
         obtain⟨l26,e_l26,g18⟩:=bnd g18
         refine gq fol [4] (kV r1 (kAi r3.1 n10 [])) (kG (.cells [.i 0,.str x2,.gslice 2 l8.length 1,.gslice 5 l26.length 1,.str []]::(kQ l8 (.dead:: .cells [.i r24.1]::(kAO l26 []))))) (ac (hs (.run [3,4] (zh Tryz.prog [24,24] (.gslice 3 l9.length 1) (.slice 4 0 1 1 1)) (kG (kAB x2 l8 l9 (kQ l8 (kAO l9 [.cells [.i r24.1]])))) (.gslice 5 l26.length 1) (kG (kAB x2 l8 l9 (kQ l8 (.dead:: .cells [.i r24.1]::(kAO l26 []))))) true) (jE qd0 (E:=encI) rfl (qaB (E:=encI) (ys:=[r24.1]) rfl rfl rfl rfl) (qcg (E:=encI) (l:=l9) rfl rfl rfl e_l26 rfl))) az) ?_
         obtain rfl:=si g18
         exact Or.inl (⟨rfl,_,_,rfl,(Sub.norm [] [some 0,some 1,some 2,some 5] rfl rfl (.kp (.keep (.same (qd encS _)) (.keep (.same nI) (.kp (.keep (.same nI) .nil))))) (.kb rfl (.same sn) (.kb rfl (.cells (rc (.same nI) (rc (.same nS) (rc (.gslice rfl) (rc (.gslice rfl) (rc (.same nS) rn)))))) (.ks (.ks .nil)))))⟩)
     rintro x s' (⟨rfl,l16,l17,rfl,hsub⟩|⟨rfl,q27,rfl,hret⟩)
     ·try dsimp only at g13
      refine Goes.sub hsub ?_
      refine gh fol (kV r1 (kAi r3.1 (w64 (n10+1)) [])) ?_
      exact⟨M,(ofG 80 (kV r1 (kAi r3.1 (w64 (n10+1)) [])),(kG (kAB x2 l16 l17 (kQ l16 (kAO l17 []))))),Nat.lt_succ_self _,(Sub.refl _),_,_,_,rfl,g13⟩
     ·try dsimp only at g13
      obtain rfl:=si g13
      exact Or.inr (⟨rfl,_,rfl,hret⟩)
    ·refine Goes.exit ?_
     obtain rfl:=si g13
     exact Or.inl (⟨rfl,_,_,rfl,(Sub.keep [2,8] rfl rfl)⟩)
  rintro x s' (⟨rfl,l11,l12,rfl,hsub⟩|⟨rfl,q28,rfl,hret⟩)
  ·try dsimp only at h
   refine Goes.sub hsub ?_
   refine sg fol (kAj [(3,.bool true)]) (kAB x2 l11 l12 (kAB x2 l11 l12 (kQ l11 (kAO l12 [])))) ?_
   refine Goes.ret ?_
   obtain rfl:=si h
   exact(gw2 (.agg [.i 0,.str x2,.gslice 2 l11.length 1,.gslice 3 l12.length 1,.str []]::kA1) (FzW.tuple (qw.cons (FzW.agg (qw.cons (FzW.still tI) (qw.cons (FzW.still tS) (qw.cons (FzW.fz (Fz.gs (E:=encS) rfl rfl (nl rfl))) (qw.cons (FzW.fz (Fz.gs (E:=encI) rfl rfl (nl rfl))) (qw.cons (FzW.still tS) qw.nil)))))) (qw.cons (FzW.still tB) qw.nil))))
  ·try dsimp only at h
   obtain rfl:=si h
   exact hret
def zA (N:Nat) (l:List qb):Nat→Int→Option (Unit⊕Int)
 |0,_=>none
 |K+1,n2=>
  if n2<(l.length:Int)then
  (((idx l n2).bind fun x8=>
  (yY N x8.Desk).bind fun r9=>
  if(!r9)=true then
  some (.inr 8)
  else
  ((zS x8.Number 1 1000).bind fun r11=>
  if r11=true then
  some true
  else
  (zS x8.Clock 1 1000000).bind fun r13=>
  some r13:Option Bool).bind fun b14=>
  if b14=true then
  some (.inr 3)
  else
  (qaH N x8.Line).bind fun r17=>
  (if(!r17.2)=true then
  some true
  else
  some (r17.1.Kind==[117,110,100,111]):Option Bool).bind fun b19=>
  if b19=true then
  some (.inr 25)
  else
  if n2>0 then
  (idx l (w64 (n2-1))).bind fun x23=>
  (if(ltL x8.Desk x23.Desk)=true then
  some true
  else
  if(x8.Desk==x23.Desk)=true then
  if x8.Number≤x23.Number then
  some true
  else
  some (decide (x8.Clock≤x23.Clock))
  else
  some false:Option Bool).bind fun b27=>
  if b27=true then
  some (.inr 11)
  else
  some (.inl ())
  else
  some (.inl ()):Option (Unit⊕Int))).bind (fun
  |(.inl ())=>
  zA N l K (w64 (n2+1))
  |(.inr q30)=>
  some (.inr q30))
  else
  some (.inl ())
def vW (N:Nat) (l:List qb):Option Int:=
 if(l.length:Int)>1000 then
 some 5
 else
 (zA N l N 0).bind (fun
 |(.inl ())=>
 some 0
 |(.inr q31)=>
 some q31)
theorem qac (N:Nat) (l:List qb) {res:Int} (h:vW N l=some res):qf Tryz.prog (.fn 60) [vl qa l] [] (.i res) []:=by
 unfold vW at h
 refine Goes.fnW Tryz.func60 rfl rfl (m:=79) rfl (rs:=[.tmp 2]) rfl (l:=(kD l [])) rfl ?_
 refine sh fol (kD l []) ?_
 refine sq ?_
 refine sh fol (kD l [(10,.bool (decide ((l.length:Int)>1000)))]) ?_
 refine ihD h (fun c1 h=>?_) (fun c1 h=>?_)
 ·refine sh fol [(2,.i 5)] ?_
  refine Goes.ret ?_
  obtain rfl:=si h
  exact(gw2 [.i 5] (FzW.still tI))
 ·refine Goes.skip ?_
  refine sq ?_
  refine sh fol (kD l [(3,.i 0)]) ?_
  refine Goes.block ?_
  obtain⟨r3,g3,h⟩:=bnd h
  refine Goes.imp (Q:=fun x s'=>(x= .exit 0∧(.inl ())=r3∧Sub s' (ofG 79 [],[]))∨(x= .ret∧ ∃q4,(.inr q4)=r3∧zy Tryz.prog [.tmp 2] (.i q4) .ret s')) ?_ ?_
  ·refine Goes.loopS (fun M s=> ∃(n2:Int),s=(ofG 79 (kD l [(3,.i n2)]),[])∧zA N l M n2=some r3) ?_ (m:=N) ⟨_,rfl,g3⟩
   rintro M s ⟨n2,rfl,g3⟩
   cases M with
   |zero=>simp only[zA]at g3;cases g3
   |succ M=>
    rw[zA]at g3
    refine sq ?_
    refine sh fol (kD l [(3,.i n2),(14,.bool (decide (n2<(l.length:Int))))]) ?_
    refine ihD g3 (fun c5 g3=>?_) (fun c5 g3=>?_)
    ·refine Goes.skip ?_
     refine sq ?_
     obtain⟨r6,g6,g3⟩:=bnd g3
     refine Goes.imp (Q:=fun x s'=>(x= .normal∧(.inl ())=r6∧Sub s' (ofG 79 (kD l [(3,.i n2)]),[]))∨(x= .ret∧ ∃q7,(.inr q7)=r6∧zy Tryz.prog [.tmp 2] (.i q7) .ret s')) ?_ ?_
     ·refine Goes.block ?_
      obtain⟨x8,e_x8,g6⟩:=bnd g6
      refine sq (gq fol [2,3] (kD l (kAq n2 [])) (kE x8.Desk x8.Number x8.Clock x8.Line []) (ac (iv qi6 qa e_x8) (ac (la qkU qa e_x8) az)) ?_)
      refine sq ?_
      obtain⟨r9,e_r9,g6⟩:=bnd g6
      refine sq (gr fol [2] (kD l (kAq n2 [(24,.bool (!r9))])) (ac (cv (qcZ N x8.Desk e_r9)) az) ?_)
      refine ihB g6 (fun c10 g6=>?_) (fun c10 g6=>?_)
      ·refine sh fol [(2,.i 8)] ?_
       refine Goes.ret ?_
       obtain rfl:=si g6
       exact Or.inr (⟨rfl,_,rfl,(gw2 [.i 8] (FzW.still tI))⟩)
      ·refine Goes.skip ?_
       refine sq ?_
       refine sq ?_
       obtain⟨b14,g_v15,g6⟩:=bnd g6
       refine Goes.cut (s':=(ofG 79 (kD l (kAq n2 [(32,.bool b14)])),(kE x8.Desk x8.Number x8.Clock x8.Line []))) ?_ ?_
       ·obtain⟨r11,e_r11,g_v15⟩:=bnd g_v15
        rcases wyB g_v15 with⟨c12,g_v15⟩|⟨c12,g_v15⟩
        ·obtain rfl:=si g_v15
         exact tr fol [2,3] (kD l (kAq n2 [(32,.bool true)])) (ac (cv (xX x8.Number 1 1000 e_r11)) (ac (gw c12) az))
        ·obtain⟨r13,e_r13,g_v15⟩:=bnd g_v15
         obtain rfl:=si g_v15
         exact tr fol [2,3,6] (kD l (kAq n2 [(32,.bool r13)])) (ac (cv (xX x8.Number 1 1000 e_r11)) (ac (gw c12) (ac (cv (xX x8.Clock 1 1000000 e_r13)) az)))
       refine ihB g6 (fun c16 g6=>?_) (fun c16 g6=>?_)
       ·refine sh fol [(2,.i 3)] ?_
        refine Goes.ret ?_
        obtain rfl:=si g6
        exact Or.inr (⟨rfl,_,rfl,(gw2 [.i 3] (FzW.still tI))⟩)
       ·refine Goes.skip ?_
        obtain⟨r17,e_r17,g6⟩:=bnd g6
        refine sq (gq fol [2] (kD l (kAq n2 [(5,.ptr 1 0),(6,.bool r17.2)])) (kE x8.Desk x8.Number x8.Clock x8.Line (kA2 r17.1 [])) (ac (cv (qf4 N x8.Line e_r17)) az) ?_)
        refine sq ?_
        refine sq ?_
        obtain⟨b19,g_v20,g6⟩:=bnd g6
        refine Goes.cut (s':=(ofG 79 (kD l (kAq n2 [(45,.bool b19)])),(kE x8.Desk x8.Number x8.Clock x8.Line (kA2 r17.1 [])))) ?_ ?_
        ·rcases wyB g_v20 with⟨c18,g_v20⟩|⟨c18,g_v20⟩
         ·obtain rfl:=si g_v20
          exact tr fol [2] (kD l (kAq n2 [(45,.bool true)])) (ac (gw c18) az)
         ·obtain rfl:=si g_v20
          exact tr fol [2] (kD l (kAq n2 [(45,.bool (r17.1.Kind==[117,110,100,111]))])) (ac (gw c18) az)
        refine ihB g6 (fun c21 g6=>?_) (fun c21 g6=>?_)
        ·refine sh fol [(2,.i 25)] ?_
         refine Goes.ret ?_
         obtain rfl:=si g6
         exact Or.inr (⟨rfl,_,rfl,(gw2 [.i 25] (FzW.still tI))⟩)
        ·refine Goes.skip ?_
         refine sh fol (kD l (kAq n2 [(47,.bool (decide (n2>0)))])) ?_
         refine ihD g6 (fun c22 g6=>?_) (fun c22 g6=>?_)
         ·obtain⟨x23,e_x23,g6⟩:=bnd g6
          refine sq (gq fol [3,4] (kD l (kAq n2 [(7,.ptr 2 0)])) (kE x8.Desk x8.Number x8.Clock x8.Line (kA2 r17.1 (kE x23.Desk x23.Number x23.Clock x23.Line []))) (ac (iv qi6 qa e_x23) (ac (la qkU qa e_x23) az)) ?_)
          refine sq ?_
          obtain⟨b27,g_v28,g6⟩:=bnd g6
          refine Goes.cut (s':=(ofG 79 (kD l [(3,.i n2),(78,.bool b27)]),(kE x8.Desk x8.Number x8.Clock x8.Line (kA2 r17.1 (kE x23.Desk x23.Number x23.Clock x23.Line []))))) ?_ ?_
          ·rcases wyB g_v28 with⟨c24,g_v28⟩|⟨c24,g_v28⟩
           ·obtain rfl:=si g_v28
            exact tr fol [5] (kD l [(3,.i n2),(78,.bool true)]) (ac (gw c24) az)
           ·rcases wyB g_v28 with⟨c25,g_v28⟩|⟨c25,g_v28⟩
            ·rcases wyD g_v28 with⟨c26,g_v28⟩|⟨c26,g_v28⟩
             ·obtain rfl:=si g_v28
              exact tr fol [5,11,17] (kD l [(3,.i n2),(78,.bool true)]) (ac (gw c24) (ac (gw c25) (ac (gw c26) az)))
             ·obtain rfl:=si g_v28
              exact tr fol [5,11,17] (kD l [(3,.i n2),(78,.bool (decide (x8.Clock≤x23.Clock)))]) (ac (gw c24) (ac (gw c25) (ac (gw c26) az)))
            ·obtain rfl:=si g_v28
             exact tr fol [5,11] (kD l [(3,.i n2),(78,.bool false)]) (ac (gw c24) (ac (gw c25) az))
          refine ihB g6 (fun c29 g6=>?_) (fun c29 g6=>?_)
          ·refine sh fol [(2,.i 11)] ?_
           refine Goes.ret ?_
           obtain rfl:=si g6
           exact Or.inr (⟨rfl,_,rfl,(gw2 [.i 11] (FzW.still tI))⟩)
          ·refine Goes.skip ?_
           obtain rfl:=si g6
           exact Or.inl (⟨rfl,rfl,(Sub.norm [] [] rfl rfl (.keep (.same (qd qa _)) (.keep (.same nI) .nil)) .nil)⟩)
         ·refine Goes.skip ?_
          obtain rfl:=si g6
          exact Or.inl (⟨rfl,rfl,(Sub.norm [] [] rfl rfl (.keep (.same (qd qa _)) (.keep (.same nI) .nil)) .nil)⟩)
     rintro x s' (⟨rfl,rfl,hsub⟩|⟨rfl,q30,rfl,hret⟩)
     ·try dsimp only at g3
      refine Goes.sub hsub ?_
      refine gh fol (kD l [(3,.i (w64 (n2+1)))]) ?_
      exact⟨M,(ofG 79 (kD l [(3,.i (w64 (n2+1)))]),[]),Nat.lt_succ_self _,(Sub.refl _),_,rfl,g3⟩
     ·try dsimp only at g3
      obtain rfl:=si g3
      exact Or.inr (⟨rfl,_,rfl,hret⟩)
    ·refine Goes.exit ?_
     obtain rfl:=si g3
     exact Or.inl (⟨rfl,rfl,(Sub.keep [] rfl rfl)⟩)
  rintro x s' (⟨rfl,rfl,hsub⟩|⟨rfl,q31,rfl,hret⟩)
  ·try dsimp only at h
   refine Goes.sub hsub ?_
   refine sh fol [(2,.i 0)] ?_
   refine Goes.ret ?_
   obtain rfl:=si h
   exact(gw2 [.i 0] (FzW.still tI))
  ·try dsimp only at h
   obtain rfl:=si h
   exact hret
def zm (N:Nat) (v:List qB):Nat→Int→Option (Unit⊕Int)
 |0,_=>none
 |K+1,n2=>
  if n2<(v.length:Int)then
  (idx v n2).bind fun x6=>
  (yY N x6.Desk).bind fun r7=>
  if(!r7)=true then
  some (.inr 8)
  else
  (zS x6.Number 0 1000).bind fun r9=>
  if r9=true then
  some (.inr 3)
  else
  (if n2>0 then
  (idx v (w64 (n2-1))).bind fun x12=>
  some (ltL x6.Desk x12.Desk||x6.Desk==x12.Desk)
  else
  some false:Option Bool).bind fun b13=>
  if b13=true then
  some (.inr 11)
  else
  zm N v K (w64 (n2+1))
  else
  some (.inl ())
def yD (N:Nat) (v:List qB):Option Int:=
 if(v.length:Int)>1000 then
 some 5
 else
 (zm N v N 0).bind (fun
 |(.inl ())=>
 some 0
 |(.inr q16)=>
 some q16)
theorem qdm (N:Nat) (v:List qB) {res:Int} (h:yD N v=some res):qf Tryz.prog (.fn 61) [vl qj v] [] (.i res) []:=by
 unfold yD at h
 refine Goes.fnW Tryz.func61 rfl rfl (m:=42) rfl (rs:=[.tmp 2]) rfl (l:=(kAc v [])) rfl ?_
 refine sh fol (kAc v []) ?_
 refine sq ?_
 refine sh fol (kAc v [(6,.bool (decide ((v.length:Int)>1000)))]) ?_
 refine ihD h (fun c1 h=>?_) (fun c1 h=>?_)
 ·refine sh fol [(2,.i 5)] ?_
  refine Goes.ret ?_
  obtain rfl:=si h
  exact(gw2 [.i 5] (FzW.still tI))
 ·refine Goes.skip ?_
  refine sq ?_
  refine sh fol (kAc v [(3,.i 0)]) ?_
  refine Goes.block ?_
  obtain⟨r3,g3,h⟩:=bnd h
  refine Goes.imp (Q:=fun x s'=>(x= .exit 0∧(.inl ())=r3∧Sub s' (ofG 42 [],[]))∨(x= .ret∧ ∃q4,(.inr q4)=r3∧zy Tryz.prog [.tmp 2] (.i q4) .ret s')) ?_ ?_
  ·refine Goes.loopS (fun M s=> ∃(n2:Int),s=(ofG 42 (kAc v [(3,.i n2)]),[])∧zm N v M n2=some r3) ?_ (m:=N) ⟨_,rfl,g3⟩
   rintro M s ⟨n2,rfl,g3⟩
   cases M with
   |zero=>simp only[zm]at g3;cases g3
   |succ M=>
    rw[zm]at g3
    refine sq ?_
    refine sh fol (kAc v [(3,.i n2),(10,.bool (decide (n2<(v.length:Int))))]) ?_
    refine ihD g3 (fun c5 g3=>?_) (fun c5 g3=>?_)
    ·refine Goes.skip ?_
     refine sq (Goes.block ?_)
     refine sq ?_
     obtain⟨x6,e_x6,g3⟩:=bnd g3
     obtain⟨r7,e_r7,g3⟩:=bnd g3
     refine sq (gr fol [2,4,5] (kAc v [(3,.i n2),(19,.bool (!r7))]) (ac (iv qjJ qj e_x6) (ac (lv 0 ce9 qj e_x6 rfl) (ac (cv (qcZ N x6.Desk e_r7)) az))) ?_)
     refine ihB g3 (fun c8 g3=>?_) (fun c8 g3=>?_)
     ·refine sh fol [(2,.i 8)] ?_
      refine Goes.ret ?_
      obtain rfl:=si g3
      exact Or.inr (⟨rfl,_,rfl,(gw2 [.i 8] (FzW.still tI))⟩)
     ·refine Goes.skip ?_
      refine sq ?_
      obtain⟨r9,e_r9,g3⟩:=bnd g3
      refine sq (gr fol [2,4,5] (kAc v [(3,.i n2),(25,.bool r9)]) (ac (iv qjJ qj e_x6) (ac (lv 1 ce3 qj e_x6 rfl) (ac (cv (xX x6.Number 0 1000 e_r9)) az))) ?_)
      refine ihB g3 (fun c10 g3=>?_) (fun c10 g3=>?_)
      ·refine sh fol [(2,.i 3)] ?_
       refine Goes.ret ?_
       obtain rfl:=si g3
       exact Or.inr (⟨rfl,_,rfl,(gw2 [.i 3] (FzW.still tI))⟩)
      ·refine Goes.skip ?_
       refine sq ?_
       obtain⟨b13,g_v14,g3⟩:=bnd g3
       refine Goes.cut (s':=(ofG 42 (kAc v [(3,.i n2),(41,.bool b13)]),[])) ?_ ?_
       ·rcases wyD g_v14 with⟨c11,g_v14⟩|⟨c11,g_v14⟩
        ·obtain⟨x12,e_x12,g_v14⟩:=bnd g_v14
         obtain rfl:=si g_v14
         exact tr fol [2,5,7,11,13] (kAc v [(3,.i n2),(41,.bool (ltL x6.Desk x12.Desk||x6.Desk==x12.Desk))]) (ac (gw c11) (ac (iv qjJ qj e_x6) (ac (lv 0 ce9 qj e_x6 rfl) (ac (iv qjJ qj e_x12) (ac (lv 0 ce9 qj e_x12 rfl) az)))))
        ·obtain rfl:=si g_v14
         exact tr fol [2] (kAc v [(3,.i n2),(41,.bool false)]) (ac (gw c11) az)
       refine ihB g3 (fun c15 g3=>?_) (fun c15 g3=>?_)
       ·refine sh fol [(2,.i 11)] ?_
        refine Goes.ret ?_
        obtain rfl:=si g3
        exact Or.inr (⟨rfl,_,rfl,(gw2 [.i 11] (FzW.still tI))⟩)
       ·refine Goes.skip ?_
        refine gh fol (kAc v [(3,.i (w64 (n2+1)))]) ?_
        exact⟨M,(ofG 42 (kAc v [(3,.i (w64 (n2+1)))]),[]),Nat.lt_succ_self _,(Sub.refl _),_,rfl,g3⟩
    ·refine Goes.exit ?_
     obtain rfl:=si g3
     exact Or.inl (⟨rfl,rfl,(Sub.keep [] rfl rfl)⟩)
  rintro x s' (⟨rfl,rfl,hsub⟩|⟨rfl,q16,rfl,hret⟩)
  ·try dsimp only at h
   refine Goes.sub hsub ?_
   refine sh fol [(2,.i 0)] ?_
   refine Goes.ret ?_
   obtain rfl:=si h
   exact(gw2 [.i 0] (FzW.still tI))
  ·try dsimp only at h
   obtain rfl:=si h
   exact hret
def zL (a:List qb) (b:List qb):Nat→Int→Option (Unit⊕Bool)
 |0,_=>none
 |K+1,n2=>
  if n2<(a.length:Int)then
  (idx a n2).bind fun x6=>
  (idx b n2).bind fun x7=>
  if(!((x6.Desk==x7.Desk)&&(decide (x6.Number=x7.Number)&&(decide (x6.Clock=x7.Clock)&&((x6.Line==x7.Line)&&true)))))=true then
  some (.inr false)
  else
  zL a b K (w64 (n2+1))
  else
  some (.inl ())
def jg (N:Nat) (a:List qb) (b:List qb):Option Bool:=
 if(!decide ((a.length:Int)=(b.length:Int)))=true then
 some false
 else
 (zL a b N 0).bind (fun
 |(.inl ())=>
 some true
 |(.inr q9)=>
 some q9)
theorem qI (N:Nat) (a:List qb) (b:List qb) {res:Bool} (h:jg N a b=some res):qf Tryz.prog (.fn 64) (kAv a (kAv b [])) [] (.bool res) []:=by
 unfold jg at h
 refine Goes.fnW Tryz.func64 rfl rfl (m:=26) rfl (rs:=[.tmp 4]) rfl (l:=(kD a (kAu b []))) rfl ?_
 refine sh fol (kD a (kAu b [])) ?_
 refine sq ?_
 refine sh fol (kD a (kAu b [(10,.bool (!decide ((a.length:Int)=(b.length:Int))))])) ?_
 refine ihB h (fun c1 h=>?_) (fun c1 h=>?_)
 ·refine sh fol kAf ?_
  refine Goes.ret ?_
  obtain rfl:=si h
  exact(gw2 [.bool false] (FzW.still tB))
 ·refine Goes.skip ?_
  refine sq ?_
  refine sh fol (kD a (kAu b kBi)) ?_
  refine Goes.block ?_
  obtain⟨r3,g3,h⟩:=bnd h
  refine Goes.imp (Q:=fun x s'=>(x= .exit 0∧(.inl ())=r3∧Sub s' (ofG 26 [],[]))∨(x= .ret∧ ∃q4,(.inr q4)=r3∧zy Tryz.prog [.tmp 4] (.bool q4) .ret s')) ?_ ?_
  ·refine Goes.loopS (fun M s=> ∃(n2:Int),s=(ofG 26 (kD a (kAu b (kA4 n2))),[])∧zL a b M n2=some r3) ?_ (m:=N) ⟨_,rfl,g3⟩
   rintro M s ⟨n2,rfl,g3⟩
   cases M with
   |zero=>simp only[zL]at g3;cases g3
   |succ M=>
    rw[zL]at g3
    refine sq ?_
    refine sh fol (kD a (kAu b [(5,.i n2),(14,.bool (decide (n2<(a.length:Int))))])) ?_
    refine ihD g3 (fun c5 g3=>?_) (fun c5 g3=>?_)
    ·refine Goes.skip ?_
     refine sq (Goes.block ?_)
     obtain⟨x6,e_x6,g3⟩:=bnd g3
     obtain⟨x7,e_x7,g3⟩:=bnd g3
     refine sq (gr fol [2,3,6,7,8] (kD a (kAu b [(5,.i n2),(25,.bool (!((x6.Desk==x7.Desk)&&(decide (x6.Number=x7.Number)&&(decide (x6.Clock=x7.Clock)&&((x6.Line==x7.Line)&&true))))))])) (ac (iv qi6 qa e_x6) (ac (la qkU qa e_x6) (ac (iv qi6 qa e_x7) (ac (la qkU qa e_x7) (ac (hs (.done (.opt (qbz Tryz.prog .neq 201 (.tmp 20) (.tmp 24) (.agg (kAk x6.Desk x6.Number x6.Clock x6.Line)) (.agg (kAk x7.Desk x7.Number x7.Clock x7.Line)))) (.bool (!((x6.Desk==x7.Desk)&&(decide (x6.Number=x7.Number)&&(decide (x6.Clock=x7.Clock)&&((x6.Line==x7.Line)&&true))))))) (qmg qpo (e:=((x6.Desk==x7.Desk)&&(decide (x6.Number=x7.Number)&&(decide (x6.Clock=x7.Clock)&&((x6.Line==x7.Line)&&true))))) (.cons (a:= .str x6.Desk) (b:= .str x7.Desk) rfl (by kernel_rfl) (by kernel_rfl) (by kernel_rfl) (.cons (a:= .i x6.Number) (b:= .i x7.Number) rfl (by kernel_rfl) (by kernel_rfl) (by kernel_rfl) (.cons (a:= .i x6.Clock) (b:= .i x7.Clock) rfl (by kernel_rfl) (by kernel_rfl) (by kernel_rfl) (.cons (a:= .str x6.Line) (b:= .str x7.Line) rfl (by kernel_rfl) (by kernel_rfl) (by kernel_rfl) .nil)))))) az))))) ?_)
     refine ihB g3 (fun c8 g3=>?_) (fun c8 g3=>?_)
     ·refine sh fol kAf ?_
      refine Goes.ret ?_
      obtain rfl:=si g3
      exact Or.inr (⟨rfl,_,rfl,(gw2 [.bool false] (FzW.still tB))⟩)
     ·refine Goes.skip ?_
      refine gh fol (kD a (kAu b (kA4 (w64 (n2+1))))) ?_
      exact⟨M,(ofG 26 (kD a (kAu b (kA4 (w64 (n2+1))))),[]),Nat.lt_succ_self _,(Sub.refl _),_,rfl,g3⟩
    ·refine Goes.exit ?_
     obtain rfl:=si g3
     exact Or.inl (⟨rfl,rfl,(Sub.keep [] rfl rfl)⟩)
  rintro x s' (⟨rfl,rfl,hsub⟩|⟨rfl,q9,rfl,hret⟩)
  ·try dsimp only at h
   refine Goes.sub hsub ?_
   refine sh fol kAt ?_
   refine Goes.ret ?_
   obtain rfl:=si h
   exact(gw2 [.bool true] (FzW.still tB))
  ·try dsimp only at h
   obtain rfl:=si h
   exact hret
def qlA (N:Nat) (n:qb) (o:qb):Option Int:=
 (qW n).bind fun r1=>
 (qW o).bind fun r2=>
 (jo N r1 r2).bind fun r3=>
 some r3
def yJ (a0_:qb) (a1_:Str) (a2_:Int) (a3_:Int) (a4_:Str):Option Bool:=
 (qW a0_).bind fun r1=>
 (qW (⟨a1_,a2_,a3_,a4_⟩:qb)).bind fun r2=>
 some ((r1.Desk==r2.Desk)&&(decide (r1.Number=r2.Number)&&true))
theorem qcS (a0_:qb) (a1_:Str) (a2_:Int) (a3_:Int) (a4_:Str) {res:Bool} (h:yJ a0_ a1_ a2_ a3_ a4_=some res):qf Tryz.prog (.fn 134) (kBf a0_.Desk a0_.Number a0_.Clock a0_.Line [.fptr [.str a1_,.i a2_,.i a3_,.str a4_] 0]) [] (.bool res) []:=by
 unfold yJ at h
 refine Goes.fnW Tryz.func134 rfl rfl (m:=9) rfl (rs:=[.tmp 3]) rfl (l:=(kBk a0_.Desk a0_.Number a0_.Clock a0_.Line [(1,.fptr [.str a1_,.i a2_,.i a3_,.str a4_] 0)])) rfl ?_
 refine sg fol ((1,.fptr [.str a1_,.i a2_,.i a3_,.str a4_] 0)::(kAj [])) (kE a0_.Desk a0_.Number a0_.Clock a0_.Line []) ?_
 obtain⟨r1,e_r1,h⟩:=bnd h
 obtain⟨r2,e_r2,h⟩:=bnd h
 refine sq (gr fol [1,3,4] [(3,.bool ((r1.Desk==r2.Desk)&&(decide (r1.Number=r2.Number)&&true)))] (ac (cv (zf a0_ e_r1)) (ac (cv (zf (⟨a1_,a2_,a3_,a4_⟩:qb) e_r2)) (ac (hs (.done (.opt (qbz Tryz.prog .eql 141 (.tmp 5) (.tmp 7) (.agg [.str r1.Desk,.i r1.Number]) (.agg [.str r2.Desk,.i r2.Number]))) (.bool ((r1.Desk==r2.Desk)&&(decide (r1.Number=r2.Number)&&true)))) (eq_ag qpl (e:=((r1.Desk==r2.Desk)&&(decide (r1.Number=r2.Number)&&true))) (.cons (a:= .str r1.Desk) (b:= .str r2.Desk) rfl (by kernel_rfl) (by kernel_rfl) (by kernel_rfl) (.cons (a:= .i r1.Number) (b:= .i r2.Number) rfl (by kernel_rfl) (by kernel_rfl) (by kernel_rfl) .nil)))) az))) ?_)
 refine Goes.ret ?_
 obtain rfl:=si h
 exact(gw2 [.bool ((r1.Desk==r2.Desk)&&(decide (r1.Number=r2.Number)&&true))] (FzW.still tB))
def qU (a0_:List qb) (a1_:Str) (a2_:Int) (a3_:Int) (a4_:Str):Nat→Int→Option (Unit⊕Int)
 |0,_=>none
 |K+1,n1=>
  if n1<(a0_.length:Int)then
  (idx a0_ n1).bind fun x5=>
  (yJ x5 a1_ a2_ a3_ a4_).bind fun r6=>
  if r6=true then
  some (.inr n1)
  else
  qU a0_ a1_ a2_ a3_ a4_ K (w64 (n1+1))
  else
  some (.inl ())
def ko (N:Nat) (a0_:List qb) (a1_:Str) (a2_:Int) (a3_:Int) (a4_:Str):Option Int:=
 (qU a0_ a1_ a2_ a3_ a4_ N 0).bind (fun
 |(.inl ())=>
 some (-1)
 |(.inr q8)=>
 some q8)
theorem xB (N:Nat) (a0_:List qb) (a1_:Str) (a2_:Int) (a3_:Int) (a4_:Str) {res:Int} (h:ko N a0_ a1_ a2_ a3_ a4_=some res):qf Tryz.prog (.fn 133) (kAv a0_ [.func (.func 134) [] [.fptr [.str a1_,.i a2_,.i a3_,.str a4_] 0]]) [] (.i res) []:=by
 unfold ko at h
 refine Goes.fnW Tryz.func133 rfl rfl (m:=19) rfl (rs:=[.tmp 4]) rfl (l:=(kD a0_ [(1,.func (.func 134) [] [.fptr [.str a1_,.i a2_,.i a3_,.str a4_] 0])])) rfl ?_
 refine sh fol (kD a0_ [(1,.func (.func 134) [] [.fptr [.str a1_,.i a2_,.i a3_,.str a4_] 0])]) ?_
 refine sq ?_
 refine sh fol (kD a0_ ((1,.func (.func 134) [] [.fptr [.str a1_,.i a2_,.i a3_,.str a4_] 0])::(kBV (a0_.length:Int)))) ?_
 refine Goes.block ?_
 obtain⟨r2,g2,h⟩:=bnd h
 refine Goes.imp (Q:=fun x s'=>(x= .exit 0∧(.inl ())=r2∧Sub s' (ofG 19 [],[]))∨(x= .ret∧ ∃q3,(.inr q3)=r2∧zy Tryz.prog [.tmp 4] (.i q3) .ret s')) ?_ ?_
 ·refine Goes.loopS (fun M s=> ∃(n1:Int),s=(ofG 19 (kD a0_ ((1,.func (.func 134) [] [.fptr [.str a1_,.i a2_,.i a3_,.str a4_] 0])::(kAH (a0_.length:Int) n1 []))),[])∧qU a0_ a1_ a2_ a3_ a4_ M n1=some r2) ?_ (m:=N) ⟨_,rfl,g2⟩
  rintro M s ⟨n1,rfl,g2⟩
  cases M with
  |zero=>simp only[qU]at g2;cases g2
  |succ M=>
   rw[qU]at g2
   refine sh fol (kD a0_ ((1,.func (.func 134) [] [.fptr [.str a1_,.i a2_,.i a3_,.str a4_] 0])::(kAH (a0_.length:Int) n1 [(9,.bool (decide (n1<(a0_.length:Int))))]))) ?_
   refine sq ?_
   refine ihD g2 (fun c4 g2=>?_) (fun c4 g2=>?_)
   ·refine Goes.skip ?_
    refine sq (Goes.block ?_)
    refine sh fol (kD a0_ ((1,.func (.func 134) [] [.fptr [.str a1_,.i a2_,.i a3_,.str a4_] 0])::(5,.i n1)::(kAH (a0_.length:Int) n1 []))) ?_
    obtain⟨x5,e_x5,g2⟩:=bnd g2
    obtain⟨r6,e_r6,g2⟩:=bnd g2
    refine sq (gr fol [3,4,5] (kD a0_ ((1,.func (.func 134) [] [.fptr [.str a1_,.i a2_,.i a3_,.str a4_] 0])::(5,.i n1)::(kAH (a0_.length:Int) n1 [(16,.bool r6)]))) (ac (iv xn qa e_x5) (ac (la qak qa e_x5) (ac (hs (.call 134 (kBf x5.Desk x5.Number x5.Clock x5.Line [.fptr [.str a1_,.i a2_,.i a3_,.str a4_] 0]) [] [] (kBf x5.Desk x5.Number x5.Clock x5.Line [.fptr [.str a1_,.i a2_,.i a3_,.str a4_] 0]) (.bool r6)) (qmy (FzL.cons (Fz.still (Still.agg (AllST.cons tS (AllST.cons tI (AllST.cons tI (AllST.cons tS AllST.nil)))))) (FzL.cons (Fz.still (Still.fptr (AllST.cons tS (AllST.cons tI (AllST.cons tI (AllST.cons tS AllST.nil)))))) FzL.nil)) (qcS x5 a1_ a2_ a3_ a4_ e_r6) tB)) az))) ?_)
    refine ihB g2 (fun c7 g2=>?_) (fun c7 g2=>?_)
    ·refine sh fol [(4,.i n1)] ?_
     refine Goes.ret ?_
     obtain rfl:=si g2
     exact Or.inr (⟨rfl,_,rfl,(gw2 [.i n1] (FzW.still tI))⟩)
    ·refine Goes.skip ?_
     refine gh fol (kD a0_ ((1,.func (.func 134) [] [.fptr [.str a1_,.i a2_,.i a3_,.str a4_] 0])::(kAH (a0_.length:Int) (w64 (n1+1)) []))) ?_
     exact⟨M,(ofG 19 (kD a0_ ((1,.func (.func 134) [] [.fptr [.str a1_,.i a2_,.i a3_,.str a4_] 0])::(kAH (a0_.length:Int) (w64 (n1+1)) []))),[]),Nat.lt_succ_self _,(Sub.refl _),_,rfl,g2⟩
   ·refine Goes.exit ?_
    obtain rfl:=si g2
    exact Or.inl (⟨rfl,rfl,(Sub.keep [] rfl rfl)⟩)
 rintro x s' (⟨rfl,rfl,hsub⟩|⟨rfl,q8,rfl,hret⟩)
 ·try dsimp only at h
  refine Goes.sub hsub ?_
  refine sh fol [(4,.i (-1))] ?_
  refine Goes.ret ?_
  obtain rfl:=si h
  exact(gw2 [.i (-1)] (FzW.still tI))
 ·try dsimp only at h
  obtain rfl:=si h
  exact hret
def jd (N:Nat) (b:List qb):Nat→(List qb)→Int→Option ((List qb)⊕((List qb)×Int))
 |0,_,_=>none
 |K+1,l6,n7=>
  if n7<(b.length:Int)then
  (((idx b n7).bind fun x15=>
  (ko N ([]:List qb) x15.Desk x15.Number x15.Clock x15.Line).bind fun r16=>
  if r16<0 then
  (app 48 l6 [x15]).bind fun l18=>
  some (.inl l18)
  else
  (idx ([]:List qb) r16).bind fun x19=>
  if(!((x19.Desk==x15.Desk)&&(decide (x19.Number=x15.Number)&&(decide (x19.Clock=x15.Clock)&&((x19.Line==x15.Line)&&true)))))=true then
  some (.inr ([],29))
  else
  some (.inl l6):Option ((List qb)⊕((List qb)×Int)))).bind (fun
  |(.inl l12)=>
  jd N b K l12 (w64 (n7+1))
  |(.inr q21)=>
  some (.inr q21))
  else
  some (.inl l6)
def xh (N:Nat) (b:List qb):Option ((List qb)×Int):=
 (qO N ([]:List qb)).bind fun r1=>
 (qO N b).bind fun r2=>
 (qC N ([r1,r2]:List Int)).bind fun r3=>
 if(!decide (r3=0))=true then
 some ([],r3)
 else
 (qjX).bind fun _=>
 (jd N b N ([]:List qb) 0).bind (fun
 |(.inl l8)=>
 (qla l8).bind fun l23=>
 ((if l8.length=l23.length then some ()else none:Option Unit)).bind fun u24=>
 ((qE (decide ((l23.length:Int)>1000)) 5).bind fun r25=>
 if(l23.length:Int)≤1000 then
 (qO N l23).bind fun r27=>
 (qE (!decide (r27=0)) 29).bind fun r28=>
 (qC N ([r25,r28]:List Int)).bind fun r29=>
 some (r25,r28,r29)
 else
 (qE false 29).bind fun r30=>
 (qC N ([r25,r30]:List Int)).bind fun r31=>
 some (r25,r30,r31):Option (Int×Int×Int)).bind fun(n32,n33,n34)=>
 if(!decide (n34=0))=true then
 some ([],n34)
 else
 some (l23,0)
 |(.inr q37)=>
 some q37)
theorem qeq (N:Nat) (b:List qb) {res:(List qb)×Int} (h:xh N b=some res):qf Tryz.prog (.fn 69) (vl qa ([]:List qb)::(kAv b [])) [] (.tuple (kAv res.1 [.i res.2])) []:=by
 unfold xh at h
 refine Goes.fnW Tryz.func69 rfl rfl (m:=66) rfl (rs:=[.tmp 4,.tmp 5]) rfl (l:=(kW (kAu b []))) rfl ?_
 refine sh fol (kW (kAu b [])) ?_
 refine sq ?_
 obtain⟨r1,e_r1,h⟩:=bnd h
 obtain⟨r2,e_r2,h⟩:=bnd h
 obtain⟨r3,e_r3,h⟩:=bnd h
 refine sq (gq fol [1,3,5] (kW (kAu b (kBj r3))) (kAC r1 r2) (ac (cv (ku N ([]:List qb) e_r1)) (ac (cv (ku N b e_r2)) (ac (hs (.call 86 [.slice 0 0 2 2 1] (kAC r1 r2) [0] [vl encI ([r1,r2]:List Int)] (.i r3)) (vI (FzL.cons (Fz.lit rfl rfl (FzL.still (AllST.cons tI (AllST.cons tI AllST.nil)))) FzL.nil) (qN N ([r1,r2]:List Int) e_r3) tI rfl)) az))) ?_)
 refine sh fol (kW (kAu b [(6,.i r3),(19,.bool (!decide (r3=0)))])) ?_
 refine ihB h (fun c4 h=>?_) (fun c4 h=>?_)
 ·refine sh fol ((4,.nilslice)::(kA4 r3)) ?_
  refine Goes.ret ?_
  obtain rfl:=si h
  exact(gw2 [.nilslice,.i r3] (FzW.tuple (qw.cons (FzW.nilv (E:=qa)) (qw.cons (FzW.still tI) qw.nil))))
 ·refine Goes.skip ?_
  obtain⟨_,e_r5,h⟩:=bnd h
  refine sq (gq fol [1] (kW (kAu b [(7,.gslice 1 ([]:List qb).length 4)])) (.cells [.i r1,.i r2]::kAh) (ac (hs (.callH 123 [vl qa ([]:List qb)] (kAC r1 r2) [] (.gslice 1 ([]:List qb).length 4) (.cells [.i r1,.i r2]::kAh)) (ji [] [none,some 0] (qlM e_r5) .nil rfl rfl (.old rfl rfl (.new rfl rfl (.same fa) rfl .nil)) (rc (.same (qd qa _)) rn) (.gslice rfl) rfl)) az) ?_)
  refine sq ?_
  refine sh fol (kW ((7,.gslice 1 ([]:List qb).length 4)::(kBg b (b.length:Int)))) ?_
  refine Goes.block ?_
  obtain⟨r9,g9,h⟩:=bnd h
  refine Goes.imp (Q:=fun x s'=>(x= .exit 0∧ ∃l8,(.inl l8)=r9∧Sub s' (ofG 66 (kAb l8 []),(kB l8 [])))∨(x= .ret∧ ∃q10,(.inr q10)=r9∧zy Tryz.prog [.tmp 4,.tmp 5] (.tuple (kAv q10.1 [.i q10.2])) .ret s')) ?_ ?_
  ·refine Goes.sub (s':=(ofG 66 (kW ((7,.gslice 0 ([]:List qb).length 4)::(kBg b (b.length:Int)))),kAh)) (Sub.norm [] [some 1] rfl rfl (.keep (.same (qd qa _)) (.keep (.gslice rfl) (.keep (.same (qd qa _)) (.keep (.same nI) (.keep (.same nI) .nil))))) (.ks .nil)) ?_
   refine Goes.loopS (fun M s=> ∃(l6:List qb) (n7:Int),s=(ofG 66 (kW (kAb l6 (kAA b (b.length:Int) n7 []))),(kB l6 []))∧jd N b M l6 n7=some r9) ?_ (m:=N) ⟨_,_,rfl,g9⟩
   rintro M s ⟨l6,n7,rfl,g9⟩
   cases M with
   |zero=>simp only[jd]at g9;cases g9
   |succ M=>
    rw[jd]at g9
    refine sh fol (kW (kAb l6 (kAA b (b.length:Int) n7 [(26,.bool (decide (n7<(b.length:Int))))]))) ?_
    refine sq ?_
    refine ihD g9 (fun c11 g9=>?_) (fun c11 g9=>?_)
    ·refine Goes.skip ?_
     refine sq ?_
     obtain⟨r13,g13,g9⟩:=bnd g9
     refine Goes.imp (Q:=fun x s'=>(x= .normal∧ ∃l12,(.inl l12)=r13∧Sub s' (ofG 66 (kW (kAb l12 (kAA b (b.length:Int) n7 []))),(kB l12 [])))∨(x= .ret∧ ∃q14,(.inr q14)=r13∧zy Tryz.prog [.tmp 4,.tmp 5] (.tuple (kAv q14.1 [.i q14.2])) .ret s')) ?_ ?_
     ·refine Goes.block ?_
      obtain⟨x15,e_x15,g13⟩:=bnd g13
      refine sq (gq fol [0,1] (kW (kAb l6 ((9,.ptr 1 0)::(kAA b (b.length:Int) n7 [])))) (kB l6 (kE x15.Desk x15.Number x15.Clock x15.Line [])) (ac (iv xn qa e_x15) (ac (la qak qa e_x15) az)) ?_)
      obtain⟨r16,e_r16,g13⟩:=bnd g13
      refine sq (gr fol [2] (kW (kAb l6 ((9,.ptr 1 0)::(10,.i r16)::(kAA b (b.length:Int) n7 [])))) (ac (hs (.call 133 [vl qa ([]:List qb),.func (.func 134) [] [.ptr 1 0]] (kB l6 (kE x15.Desk x15.Number x15.Clock x15.Line [])) [1] [vl qa ([]:List qb),.func (.func 134) [] [.fptr [.str x15.Desk,.i x15.Number,.i x15.Clock,.str x15.Line] 0]] (.i r16)) (vI (FzL.cons (Fz.still (jV qa _ (nl rfl))) (FzL.cons (Fz.func FzL.nil (FzL.cons (Fz.ptr rfl rfl (FzL.cons (Fz.still tS) (FzL.cons (Fz.still tI) (FzL.cons (Fz.still tI) (FzL.cons (Fz.still tS) FzL.nil))))) FzL.nil)) FzL.nil)) (xB N ([]:List qb) x15.Desk x15.Number x15.Clock x15.Line e_r16) tI rfl)) az) ?_)
      refine sh fol (kW (kAb l6 ((9,.ptr 1 0)::(10,.i r16)::(kAA b (b.length:Int) n7 [(33,.bool (decide (r16<0)))])))) ?_
      refine ihD g13 (fun c17 g13=>?_) (fun c17 g13=>?_)
      ·obtain⟨l18,e_l18,g13⟩:=bnd g13
       refine gq fol [3] (kW ((7,.gslice 3 l18.length 4)::(kAA b (b.length:Int) n7 []))) (.dead::(kE x15.Desk x15.Number x15.Clock x15.Line (kE x15.Desk x15.Number x15.Clock x15.Line (kB l18 [])))) (ac (hs (.run [0,2] (zh Tryz.prog [96,96] (.gslice 0 l6.length 4) (.slice 2 0 1 1 4)) (kB l6 (kE x15.Desk x15.Number x15.Clock x15.Line (kE x15.Desk x15.Number x15.Clock x15.Line []))) (.gslice 3 l18.length 4) (.dead::(kE x15.Desk x15.Number x15.Clock x15.Line (kE x15.Desk x15.Number x15.Clock x15.Line (kB l18 [])))) true) (jE xn (E:=qa) rfl (qaB (E:=qa) (ys:=[x15]) rfl rfl rfl rfl) (qcg (E:=qa) (l:=l6) rfl rfl rfl e_l18 rfl))) az) ?_
       obtain rfl:=si g13
       exact Or.inl (⟨rfl,_,rfl,(Sub.norm [] [some 3] rfl rfl (.keep (.same (qd qa _)) (.keep (.gslice rfl) (.keep (.same (qd qa _)) (.keep (.same nI) (.keep (.same nI) .nil))))) (.ks .nil))⟩)
      ·obtain⟨x19,e_x19,g13⟩:=bnd g13
       refine sq (gr fol [2,3,5] (kW (kAb l6 (kAA b (b.length:Int) n7 [(43,.bool (!((x19.Desk==x15.Desk)&&(decide (x19.Number=x15.Number)&&(decide (x19.Clock=x15.Clock)&&((x19.Line==x15.Line)&&true))))))]))) (ac (iv xn qa e_x19) (ac (la qak qa e_x19) (ac (hs (.done (.opt (qbz Tryz.prog .neq 132 (.tmp 41) (.tmp 42) (.agg (kAk x19.Desk x19.Number x19.Clock x19.Line)) (.agg (kAk x15.Desk x15.Number x15.Clock x15.Line)))) (.bool (!((x19.Desk==x15.Desk)&&(decide (x19.Number=x15.Number)&&(decide (x19.Clock=x15.Clock)&&((x19.Line==x15.Line)&&true))))))) (qmg qnh (e:=((x19.Desk==x15.Desk)&&(decide (x19.Number=x15.Number)&&(decide (x19.Clock=x15.Clock)&&((x19.Line==x15.Line)&&true))))) (.cons (a:= .str x19.Desk) (b:= .str x15.Desk) rfl (by kernel_rfl) (by kernel_rfl) (by kernel_rfl) (.cons (a:= .i x19.Number) (b:= .i x15.Number) rfl (by kernel_rfl) (by kernel_rfl) (by kernel_rfl) (.cons (a:= .i x19.Clock) (b:= .i x15.Clock) rfl (by kernel_rfl) (by kernel_rfl) (by kernel_rfl) (.cons (a:= .str x19.Line) (b:= .str x15.Line) rfl (by kernel_rfl) (by kernel_rfl) (by kernel_rfl) .nil)))))) az))) ?_)
       refine ihB g13 (fun c20 g13=>?_) (fun c20 g13=>?_)
       ·refine sh fol [(4,.nilslice),(5,.i 29)] ?_
        refine Goes.ret ?_
        obtain rfl:=si g13
        exact Or.inr (⟨rfl,_,rfl,(gw2 [.nilslice,.i 29] (FzW.tuple (qw.cons (FzW.nilv (E:=qa)) (qw.cons (FzW.still tI) qw.nil))))⟩)
       ·refine Goes.skip ?_
        obtain rfl:=si g13
        exact Or.inl (⟨rfl,_,rfl,(Sub.norm [] [some 0] rfl rfl (.keep (.same (qd qa _)) (.keep (.gslice rfl) (.keep (.same (qd qa _)) (.keep (.same nI) (.keep (.same nI) .nil))))) (.ks .nil))⟩)
     rintro x s' (⟨rfl,l12,rfl,hsub⟩|⟨rfl,q21,rfl,hret⟩)
     ·try dsimp only at g9
      refine Goes.sub hsub ?_
      refine gh fol (kW (kAb l12 (kAA b (b.length:Int) (w64 (n7+1)) []))) ?_
      exact⟨M,(ofG 66 (kW (kAb l12 (kAA b (b.length:Int) (w64 (n7+1)) []))),(kB l12 [])),Nat.lt_succ_self _,(Sub.refl _),_,_,rfl,g9⟩
     ·try dsimp only at g9
      obtain rfl:=si g9
      exact Or.inr (⟨rfl,_,rfl,hret⟩)
    ·refine Goes.exit ?_
     obtain rfl:=si g9
     exact Or.inl (⟨rfl,_,rfl,(Sub.keep [7] rfl rfl)⟩)
  rintro x s' (⟨rfl,l8,rfl,hsub⟩|⟨rfl,q37,rfl,hret⟩)
  ·try dsimp only at h
   refine Goes.sub hsub ?_
   obtain⟨l23,e_r22,h⟩:=bnd h
   obtain⟨u24,e_u24,h⟩:=bnd h
   refine sq (gq fol [1] (kAb l8 []) (kB l23 []) (ac (hs (.callH 135 [.gslice 0 l8.length 4,.func (.func 136) [] []] (kB l8 []) [0] (.tuple []) (kB l23 [])) (ji [some 0] [some 0] (qm3 l8 e_r22) (.ks .nil) rfl rfl (.back rfl rfl (.same fa) rfl .nil) (rc (.gslice rfl) (rc (.same (qx.func sn sn)) rn)) (.same (qx.tuple sn)) rfl)) az) ?_)
   refine Goes.sub (show Sub (ofG 66 (kAb l8 []),(kB l23 [])) (ofG 66 (kAb l23 []),(kB l23 []))from(Sub.norm [] [some 0] rfl rfl (.keep (.gsliceE rfl (qeK e_u24)) .nil) (.ks .nil))) ?_
   refine sq ?_
   refine sq ?_
   obtain⟨⟨n32,n33,n34⟩,g_v35,h⟩:=bnd h
   refine Goes.cut (s':=(ofG 66 (kAb l23 [(11,.i n34)]),(kB l23 (kAC n32 n33)))) ?_ ?_
   ·obtain⟨r25,e_r25,g_v35⟩:=bnd g_v35
    rcases wyD g_v35 with⟨c26,g_v35⟩|⟨c26,g_v35⟩
    ·obtain⟨r27,e_r27,g_v35⟩:=bnd g_v35
     obtain⟨r28,e_r28,g_v35⟩:=bnd g_v35
     obtain⟨r29,e_r29,g_v35⟩:=bnd g_v35
     simp only[Option.some.injEq,Prod.mk.injEq]at g_v35
     obtain⟨rfl,rfl,rfl⟩:=g_v35
     exact qm.rq fol [3,7,9,12,14] (kAb l23 [(11,.i r29)]) (kB l23 (kAC r25 r28)) (ac (cv (qz (decide ((l23.length:Int)>1000)) 5 e_r25)) (ac (gw c26) (ac (hs (.call 68 [.gslice 0 l23.length 4] (kB l23 []) [0] [vl qa l23] (.i r27)) (vI (FzL.cons (Fz.gs (E:=qa) rfl rfl (nl rfl)) FzL.nil) (ku N l23 e_r27) tI rfl)) (ac (cv (qz (!decide (r27=0)) 29 e_r28)) (ac (hs (.call 86 [.slice 1 0 2 2 1] (kB l23 (kAC r25 r28)) [1] [vl encI ([r25,r28]:List Int)] (.i r29)) (vI (FzL.cons (Fz.lit rfl rfl (FzL.still (AllST.cons tI (AllST.cons tI AllST.nil)))) FzL.nil) (qN N ([r25,r28]:List Int) e_r29) tI rfl)) az)))))
    ·obtain⟨r30,e_r30,g_v35⟩:=bnd g_v35
     obtain⟨r31,e_r31,g_v35⟩:=bnd g_v35
     simp only[Option.some.injEq,Prod.mk.injEq]at g_v35
     obtain⟨rfl,rfl,rfl⟩:=g_v35
     exact qm.rq fol [3,7,12,14] (kAb l23 [(11,.i r31)]) (kB l23 (kAC r25 r30)) (ac (cv (qz (decide ((l23.length:Int)>1000)) 5 e_r25)) (ac (gw c26) (ac (cv (qz false 29 e_r30)) (ac (hs (.call 86 [.slice 1 0 2 2 1] (kB l23 (kAC r25 r30)) [1] [vl encI ([r25,r30]:List Int)] (.i r31)) (vI (FzL.cons (Fz.lit rfl rfl (FzL.still (AllST.cons tI (AllST.cons tI AllST.nil)))) FzL.nil) (qN N ([r25,r30]:List Int) e_r31) tI rfl)) az))))
   try dsimp only at h
   refine sh fol (kAb l23 [(11,.i n34),(63,.bool (!decide (n34=0)))]) ?_
   refine ihB h (fun c36 h=>?_) (fun c36 h=>?_)
   ·refine sh fol ((4,.nilslice)::(kA4 n34)) ?_
    refine Goes.ret ?_
    obtain rfl:=si h
    exact(gw2 [.nilslice,.i n34] (FzW.tuple (qw.cons (FzW.nilv (E:=qa)) (qw.cons (FzW.still tI) qw.nil))))
   ·refine Goes.skip ?_
    refine sh fol ((4,.gslice 0 l23.length 4)::kBi) ?_
    refine Goes.ret ?_
    obtain rfl:=si h
    exact(gw2 [.gslice 0 l23.length 4,.i 0] (FzW.tuple (qw.cons (FzW.fz (Fz.gs (E:=qa) rfl rfl (nl rfl))) (qw.cons (FzW.still tI) qw.nil))))
  ·try dsimp only at h
   obtain rfl:=si h
   exact hret
def jc (N:Nat) (hd:qb) (tl:List qb) (b:List qb):Nat→(List qb)→Int→Option ((List qb)⊕((List qb)×Int))
 |0,_,_=>none
 |K+1,l7,n8=>
  if n8<(b.length:Int)then
  (((idx b n8).bind fun x16=>
  (ko N (hd::tl) x16.Desk x16.Number x16.Clock x16.Line).bind fun r17=>
  if r17<0 then
  (app 48 l7 [x16]).bind fun l19=>
  some (.inl l19)
  else
  (idx (hd::tl) r17).bind fun x20=>
  if(!((x20.Desk==x16.Desk)&&(decide (x20.Number=x16.Number)&&(decide (x20.Clock=x16.Clock)&&((x20.Line==x16.Line)&&true)))))=true then
  some (.inr ([],29))
  else
  some (.inl l7):Option ((List qb)⊕((List qb)×Int)))).bind (fun
  |(.inl l13)=>
  jc N hd tl b K l13 (w64 (n8+1))
  |(.inr q22)=>
  some (.inr q22))
  else
  some (.inl l7)
def xk (N:Nat) (hd:qb) (tl:List qb) (b:List qb):Option ((List qb)×Int):=
 (qO N (hd::tl)).bind fun r1=>
 (qO N b).bind fun r2=>
 (qC N ([r1,r2]:List Int)).bind fun r3=>
 if(!decide (r3=0))=true then
 some ([],r3)
 else
 (jf hd tl).bind fun l6=>
 (jc N hd tl b N l6 0).bind (fun
 |(.inl l9)=>
 (qkN l9).bind fun l24=>
 ((if l9.length=l24.length then some ()else none:Option Unit)).bind fun u25=>
 ((qE (decide ((l24.length:Int)>1000)) 5).bind fun r26=>
 if(l24.length:Int)≤1000 then
 (qO N l24).bind fun r28=>
 (qE (!decide (r28=0)) 29).bind fun r29=>
 (qC N ([r26,r29]:List Int)).bind fun r30=>
 some (r26,r29,r30)
 else
 (qE false 29).bind fun r31=>
 (qC N ([r26,r31]:List Int)).bind fun r32=>
 some (r26,r31,r32):Option (Int×Int×Int)).bind fun(n33,n34,n35)=>
 if(!decide (n35=0))=true then
 some ([],n35)
 else
 some (l24,0)
 |(.inr q38)=>
 some q38)
theorem qey (N:Nat) (hd:qb) (tl:List qb) (b:List qb) {res:(List qb)×Int} (h:xk N hd tl b=some res):qf Tryz.prog (.fn 69) (kAv (hd::tl) (kAv b [])) [] (.tuple (kAv res.1 [.i res.2])) []:=by
 unfold xk at h
 refine Goes.fnW Tryz.func69 rfl rfl (m:=66) rfl (rs:=[.tmp 4,.tmp 5]) rfl (l:=(kD (hd::tl) (kAu b []))) rfl ?_
 refine sh fol (kD (hd::tl) (kAu b [])) ?_
 refine sq ?_
 obtain⟨r1,e_r1,h⟩:=bnd h
 obtain⟨r2,e_r2,h⟩:=bnd h
 obtain⟨r3,e_r3,h⟩:=bnd h
 refine sq (gq fol [1,3,5] (kD (hd::tl) (kAu b (kBj r3))) (kAC r1 r2) (ac (cv (ku N (hd::tl) e_r1)) (ac (cv (ku N b e_r2)) (ac (hs (.call 86 [.slice 0 0 2 2 1] (kAC r1 r2) [0] [vl encI ([r1,r2]:List Int)] (.i r3)) (vI (FzL.cons (Fz.lit rfl rfl (FzL.still (AllST.cons tI (AllST.cons tI AllST.nil)))) FzL.nil) (qN N ([r1,r2]:List Int) e_r3) tI rfl)) az))) ?_)
 refine sh fol (kD (hd::tl) (kAu b [(6,.i r3),(19,.bool (!decide (r3=0)))])) ?_
 refine ihB h (fun c4 h=>?_) (fun c4 h=>?_)
 ·refine sh fol ((4,.nilslice)::(kA4 r3)) ?_
  refine Goes.ret ?_
  obtain rfl:=si h
  exact(gw2 [.nilslice,.i r3] (FzW.tuple (qw.cons (FzW.nilv (E:=qa)) (qw.cons (FzW.still tI) qw.nil))))
 ·refine Goes.skip ?_
  obtain⟨l6,e_r5,h⟩:=bnd h
  refine sq (gq fol [1] (kD (hd::tl) (kAu b [(7,.oslice 1 l6.length 4)])) (.cells [.i r1,.i r2]::(kB l6 [])) (ac (hs (.callH 123 [vl qa (hd::tl)] (kAC r1 r2) [] (.oslice 1 l6.length 4) (.cells [.i r1,.i r2]::(kB l6 []))) (ji [] [none,some 0] (qaA hd tl e_r5) .nil rfl rfl (.old rfl rfl (.new rfl rfl (.same fa) rfl .nil)) (rc (.same (qd qa _)) rn) (.oslice rfl) rfl)) az) ?_)
  refine sq ?_
  refine sh fol (kD (hd::tl) ((7,.oslice 1 l6.length 4)::(kBg b (b.length:Int)))) ?_
  refine Goes.block ?_
  obtain⟨r10,g10,h⟩:=bnd h
  refine Goes.imp (Q:=fun x s'=>(x= .exit 0∧ ∃l9,(.inl l9)=r10∧Sub s' (ofG 66 (kAW l9 []),(kB l9 [])))∨(x= .ret∧ ∃q11,(.inr q11)=r10∧zy Tryz.prog [.tmp 4,.tmp 5] (.tuple (kAv q11.1 [.i q11.2])) .ret s')) ?_ ?_
  ·refine Goes.sub (s':=(ofG 66 (kD (hd::tl) (kAW l6 (kBg b (b.length:Int)))),(kB l6 []))) (Sub.norm [] [some 1] rfl rfl (.keep (.same (qd qa _)) (.keep (.oslice rfl) (.keep (.same (qd qa _)) (.keep (.same nI) (.keep (.same nI) .nil))))) (.ks .nil)) ?_
   refine Goes.loopS (fun M s=> ∃(l7:List qb) (n8:Int),s=(ofG 66 (kD (hd::tl) (kAW l7 (kAA b (b.length:Int) n8 []))),(kB l7 []))∧jc N hd tl b M l7 n8=some r10) ?_ (m:=N) ⟨_,_,rfl,g10⟩
   rintro M s ⟨l7,n8,rfl,g10⟩
   cases M with
   |zero=>simp only[jc]at g10;cases g10
   |succ M=>
    rw[jc]at g10
    refine sh fol (kD (hd::tl) (kAW l7 (kAA b (b.length:Int) n8 [(26,.bool (decide (n8<(b.length:Int))))]))) ?_
    refine sq ?_
    refine ihD g10 (fun c12 g10=>?_) (fun c12 g10=>?_)
    ·refine Goes.skip ?_
     refine sq ?_
     obtain⟨r14,g14,g10⟩:=bnd g10
     refine Goes.imp (Q:=fun x s'=>(x= .normal∧ ∃l13,(.inl l13)=r14∧Sub s' (ofG 66 (kD (hd::tl) (kAW l13 (kAA b (b.length:Int) n8 []))),(kB l13 [])))∨(x= .ret∧ ∃q15,(.inr q15)=r14∧zy Tryz.prog [.tmp 4,.tmp 5] (.tuple (kAv q15.1 [.i q15.2])) .ret s')) ?_ ?_
     ·refine Goes.block ?_
      obtain⟨x16,e_x16,g14⟩:=bnd g14
      refine sq (gq fol [0,1] (kD (hd::tl) (kAW l7 ((9,.ptr 1 0)::(kAA b (b.length:Int) n8 [])))) (kB l7 (kE x16.Desk x16.Number x16.Clock x16.Line [])) (ac (iv xn qa e_x16) (ac (la qak qa e_x16) az)) ?_)
      obtain⟨r17,e_r17,g14⟩:=bnd g14
      refine sq (gr fol [2] (kD (hd::tl) (kAW l7 ((9,.ptr 1 0)::(10,.i r17)::(kAA b (b.length:Int) n8 [])))) (ac (hs (.call 133 (kAv (hd::tl) [.func (.func 134) [] [.ptr 1 0]]) (kB l7 (kE x16.Desk x16.Number x16.Clock x16.Line [])) [1] (kAv (hd::tl) [.func (.func 134) [] [.fptr [.str x16.Desk,.i x16.Number,.i x16.Clock,.str x16.Line] 0]]) (.i r17)) (vI (FzL.cons (Fz.still (jV qa _ (nl rfl))) (FzL.cons (Fz.func FzL.nil (FzL.cons (Fz.ptr rfl rfl (FzL.cons (Fz.still tS) (FzL.cons (Fz.still tI) (FzL.cons (Fz.still tI) (FzL.cons (Fz.still tS) FzL.nil))))) FzL.nil)) FzL.nil)) (xB N (hd::tl) x16.Desk x16.Number x16.Clock x16.Line e_r17) tI rfl)) az) ?_)
      refine sh fol (kD (hd::tl) (kAW l7 ((9,.ptr 1 0)::(10,.i r17)::(kAA b (b.length:Int) n8 [(33,.bool (decide (r17<0)))])))) ?_
      refine ihD g14 (fun c18 g14=>?_) (fun c18 g14=>?_)
      ·obtain⟨l19,e_l19,g14⟩:=bnd g14
       refine gq fol [3] (kD (hd::tl) ((7,.oslice 3 l19.length 4)::(kAA b (b.length:Int) n8 []))) (.dead::(kE x16.Desk x16.Number x16.Clock x16.Line (kE x16.Desk x16.Number x16.Clock x16.Line (kB l19 [])))) (ac (hs (.run [0,2] (zh Tryz.prog [96,96] (.oslice 0 l7.length 4) (.slice 2 0 1 1 4)) (kB l7 (kE x16.Desk x16.Number x16.Clock x16.Line (kE x16.Desk x16.Number x16.Clock x16.Line []))) (.oslice 3 l19.length 4) (.dead::(kE x16.Desk x16.Number x16.Clock x16.Line (kE x16.Desk x16.Number x16.Clock x16.Line (kB l19 [])))) true) (jE xn (E:=qa) rfl (qaB (E:=qa) (ys:=[x16]) rfl rfl rfl rfl) (qjs (E:=qa) (l:=l7) rfl rfl rfl e_l19 rfl))) az) ?_
       obtain rfl:=si g14
       exact Or.inl (⟨rfl,_,rfl,(Sub.norm [] [some 3] rfl rfl (.keep (.same (qd qa _)) (.keep (.oslice rfl) (.keep (.same (qd qa _)) (.keep (.same nI) (.keep (.same nI) .nil))))) (.ks .nil))⟩)
      ·obtain⟨x20,e_x20,g14⟩:=bnd g14
       refine sq (gr fol [2,3,5] (kD (hd::tl) (kAW l7 (kAA b (b.length:Int) n8 [(43,.bool (!((x20.Desk==x16.Desk)&&(decide (x20.Number=x16.Number)&&(decide (x20.Clock=x16.Clock)&&((x20.Line==x16.Line)&&true))))))]))) (ac (iv xn qa e_x20) (ac (la qak qa e_x20) (ac (hs (.done (.opt (qbz Tryz.prog .neq 132 (.tmp 41) (.tmp 42) (.agg (kAk x20.Desk x20.Number x20.Clock x20.Line)) (.agg (kAk x16.Desk x16.Number x16.Clock x16.Line)))) (.bool (!((x20.Desk==x16.Desk)&&(decide (x20.Number=x16.Number)&&(decide (x20.Clock=x16.Clock)&&((x20.Line==x16.Line)&&true))))))) (qmg qnh (e:=((x20.Desk==x16.Desk)&&(decide (x20.Number=x16.Number)&&(decide (x20.Clock=x16.Clock)&&((x20.Line==x16.Line)&&true))))) (.cons (a:= .str x20.Desk) (b:= .str x16.Desk) rfl (by kernel_rfl) (by kernel_rfl) (by kernel_rfl) (.cons (a:= .i x20.Number) (b:= .i x16.Number) rfl (by kernel_rfl) (by kernel_rfl) (by kernel_rfl) (.cons (a:= .i x20.Clock) (b:= .i x16.Clock) rfl (by kernel_rfl) (by kernel_rfl) (by kernel_rfl) (.cons (a:= .str x20.Line) (b:= .str x16.Line) rfl (by kernel_rfl) (by kernel_rfl) (by kernel_rfl) .nil)))))) az))) ?_)
       refine ihB g14 (fun c21 g14=>?_) (fun c21 g14=>?_)
       ·refine sh fol [(4,.nilslice),(5,.i 29)] ?_
        refine Goes.ret ?_
        obtain rfl:=si g14
        exact Or.inr (⟨rfl,_,rfl,(gw2 [.nilslice,.i 29] (FzW.tuple (qw.cons (FzW.nilv (E:=qa)) (qw.cons (FzW.still tI) qw.nil))))⟩)
       ·refine Goes.skip ?_
        obtain rfl:=si g14
        exact Or.inl (⟨rfl,_,rfl,(Sub.norm [] [some 0] rfl rfl (.keep (.same (qd qa _)) (.keep (.oslice rfl) (.keep (.same (qd qa _)) (.keep (.same nI) (.keep (.same nI) .nil))))) (.ks .nil))⟩)
     rintro x s' (⟨rfl,l13,rfl,hsub⟩|⟨rfl,q22,rfl,hret⟩)
     ·try dsimp only at g10
      refine Goes.sub hsub ?_
      refine gh fol (kD (hd::tl) (kAW l13 (kAA b (b.length:Int) (w64 (n8+1)) []))) ?_
      exact⟨M,(ofG 66 (kD (hd::tl) (kAW l13 (kAA b (b.length:Int) (w64 (n8+1)) []))),(kB l13 [])),Nat.lt_succ_self _,(Sub.refl _),_,_,rfl,g10⟩
     ·try dsimp only at g10
      obtain rfl:=si g10
      exact Or.inr (⟨rfl,_,rfl,hret⟩)
    ·refine Goes.exit ?_
     obtain rfl:=si g10
     exact Or.inl (⟨rfl,_,rfl,(Sub.keep [7] rfl rfl)⟩)
  rintro x s' (⟨rfl,l9,rfl,hsub⟩|⟨rfl,q38,rfl,hret⟩)
  ·try dsimp only at h
   refine Goes.sub hsub ?_
   obtain⟨l24,e_r23,h⟩:=bnd h
   obtain⟨u25,e_u25,h⟩:=bnd h
   refine sq (gq fol [1] (kAW l9 []) (kB l24 []) (ac (hs (.callH 135 (kBa l9 [.func (.func 136) [] []]) (kB l9 []) [0] (.tuple []) (kB l24 [])) (ji [some 0] [some 0] (qmJ l9 e_r23) (.ks .nil) rfl rfl (.back rfl rfl (.same fa) rfl .nil) (rc (.oslice rfl) (rc (.same (qx.func sn sn)) rn)) (.same (qx.tuple sn)) rfl)) az) ?_)
   refine Goes.sub (show Sub (ofG 66 (kAW l9 []),(kB l24 [])) (ofG 66 (kAW l24 []),(kB l24 []))from(Sub.norm [] [some 0] rfl rfl (.keep (.osliceE rfl (qeK e_u25)) .nil) (.ks .nil))) ?_
   refine sq ?_
   refine sq ?_
   obtain⟨⟨n33,n34,n35⟩,g_v36,h⟩:=bnd h
   refine Goes.cut (s':=(ofG 66 (kAW l24 [(11,.i n35)]),(kB l24 (kAC n33 n34)))) ?_ ?_
   ·obtain⟨r26,e_r26,g_v36⟩:=bnd g_v36
    rcases wyD g_v36 with⟨c27,g_v36⟩|⟨c27,g_v36⟩
    ·obtain⟨r28,e_r28,g_v36⟩:=bnd g_v36
     obtain⟨r29,e_r29,g_v36⟩:=bnd g_v36
     obtain⟨r30,e_r30,g_v36⟩:=bnd g_v36
     simp only[Option.some.injEq,Prod.mk.injEq]at g_v36
     obtain⟨rfl,rfl,rfl⟩:=g_v36
     exact qm.rq fol [3,7,9,12,14] (kAW l24 [(11,.i r30)]) (kB l24 (kAC r26 r29)) (ac (cv (qz (decide ((l24.length:Int)>1000)) 5 e_r26)) (ac (gw c27) (ac (hs (.call 68 [.oslice 0 l24.length 4] (kB l24 []) [0] [vl qa l24] (.i r28)) (vI (FzL.cons (Fz.os (E:=qa) rfl rfl (nl rfl)) FzL.nil) (ku N l24 e_r28) tI rfl)) (ac (cv (qz (!decide (r28=0)) 29 e_r29)) (ac (hs (.call 86 [.slice 1 0 2 2 1] (kB l24 (kAC r26 r29)) [1] [vl encI ([r26,r29]:List Int)] (.i r30)) (vI (FzL.cons (Fz.lit rfl rfl (FzL.still (AllST.cons tI (AllST.cons tI AllST.nil)))) FzL.nil) (qN N ([r26,r29]:List Int) e_r30) tI rfl)) az)))))
    ·obtain⟨r31,e_r31,g_v36⟩:=bnd g_v36
     obtain⟨r32,e_r32,g_v36⟩:=bnd g_v36
     simp only[Option.some.injEq,Prod.mk.injEq]at g_v36
     obtain⟨rfl,rfl,rfl⟩:=g_v36
     exact qm.rq fol [3,7,12,14] (kAW l24 [(11,.i r32)]) (kB l24 (kAC r26 r31)) (ac (cv (qz (decide ((l24.length:Int)>1000)) 5 e_r26)) (ac (gw c27) (ac (cv (qz false 29 e_r31)) (ac (hs (.call 86 [.slice 1 0 2 2 1] (kB l24 (kAC r26 r31)) [1] [vl encI ([r26,r31]:List Int)] (.i r32)) (vI (FzL.cons (Fz.lit rfl rfl (FzL.still (AllST.cons tI (AllST.cons tI AllST.nil)))) FzL.nil) (qN N ([r26,r31]:List Int) e_r32) tI rfl)) az))))
   try dsimp only at h
   refine sh fol (kAW l24 [(11,.i n35),(63,.bool (!decide (n35=0)))]) ?_
   refine ihB h (fun c37 h=>?_) (fun c37 h=>?_)
   ·refine sh fol ((4,.nilslice)::(kA4 n35)) ?_
    refine Goes.ret ?_
    obtain rfl:=si h
    exact(gw2 [.nilslice,.i n35] (FzW.tuple (qw.cons (FzW.nilv (E:=qa)) (qw.cons (FzW.still tI) qw.nil))))
   ·refine Goes.skip ?_
    refine sh fol ((4,.oslice 0 l24.length 4)::kBi) ?_
    refine Goes.ret ?_
    obtain rfl:=si h
    exact(gw2 (kBa l24 [.i 0]) (FzW.tuple (qw.cons (FzW.fz (Fz.os (E:=qa) rfl rfl (nl rfl))) (qw.cons (FzW.still tI) qw.nil))))
  ·try dsimp only at h
   obtain rfl:=si h
   exact hret
def qK (N:Nat):(List qb)→(List qb)→Option ((List qb)×Int)
 |[],b=>xh N b
 |hd::tl,b=>xk N hd tl b
theorem zB (N:Nat) (l:List qb) (b:List qb) {res:(List qb)×Int} (h:qK N l b=some res):qf Tryz.prog (.fn 69) (kAv l (kAv b [])) [] (.tuple (kAv res.1 [.i res.2])) []:=by
 cases l with
 |nil=>exact qeq N b h
 |cons hd tl=>exact qey N hd tl b h
def ve (l:List qb) (x8:qb):Nat→Int→Option Int
 |0,_=>none
 |K+1,n9=>
  (if n9<(l.length:Int)then
  (idx l n9).bind fun x13=>
  some (x13.Desk==x8.Desk)
  else
  some false:Option Bool).bind fun b14=>
  if b14=true then
  ve l x8 K (w64 (n9+1))
  else
  some n9
def jI (s17:List qb):Nat→Int→Int→Option Int
 |0,_,_=>none
 |K+1,n18,n19=>
  if n19<(s17.length:Int)then
  (idx s17 n19).bind fun x23=>
  if(!decide (x23.Number=(w64 (n18+1))))=true then
  some n18
  else
  jI s17 K (w64 (n18+1)) (w64 (n19+1))
  else
  some n18
def jk (N:Nat) (l:List qb):Nat→(List qB)→Int→Option (List qB)
 |0,_,_=>none
 |K+1,l3,n4=>
  if n4<(l.length:Int)then
  (idx l n4).bind fun x8=>
  (ve l x8 N n4).bind fun n10=>
  (cut l n4 n10).bind fun s17=>
  (jI s17 N 0 0).bind fun n20=>
  (app 24 l3 [(⟨x8.Desk,n20⟩:qB)]).bind fun l25=>
  jk N l K l25 n10
  else
  some l3
def qae (N:Nat) (l:List qb):Option ((List qB)×Int):=
 (qO N l).bind fun r1=>
 if(!decide (r1=0))=true then
 some ([],r1)
 else
 (jk N l N ([]:List qB) 0).bind fun l5=>
 some (l5,0)
theorem qfp (N:Nat) (l:List qb) {res:(List qB)×Int} (h:qae N l=some res):qf Tryz.prog (.fn 70) [vl qa l] [] (.tuple [vl qj res.1,.i res.2]) []:=by
 unfold qae at h
 refine Goes.fnW Tryz.func70 rfl rfl (m:=69) rfl (rs:=[.tmp 2,.tmp 3]) rfl (l:=(kD l [])) rfl ?_
 refine sh fol (kD l []) ?_
 refine sq ?_
 obtain⟨r1,e_r1,h⟩:=bnd h
 refine sq (gr fol [1] (kD l [(4,.i r1)]) (ac (cv (ku N l e_r1)) az) ?_)
 refine sh fol (kD l [(4,.i r1),(14,.bool (!decide (r1=0)))]) ?_
 refine ihB h (fun c2 h=>?_) (fun c2 h=>?_)
 ·refine sh fol [(2,.nilslice),(3,.i r1)] ?_
  refine Goes.ret ?_
  obtain rfl:=si h
  exact(gw2 [.nilslice,.i r1] (FzW.tuple (qw.cons (FzW.nilv (E:=qj)) (qw.cons (FzW.still tI) qw.nil))))
 ·refine Goes.skip ?_
  refine sh fol (kD l [(5,.nilslice)]) ?_
  refine sq ?_
  refine sh fol (kD l [(5,.nilslice),(6,.i 0)]) ?_
  refine Goes.block ?_
  obtain⟨r6,g6,h⟩:=bnd h
  refine Goes.imp (Q:=fun x s'=>(x= .exit 0∧ ∃l5,l5=r6∧Sub s' (ofG 69 [(5,.gslice 0 l5.length 2)],(kL l5 [])))) ?_ ?_
  ·refine Goes.sub (s':=(ofG 69 (kD l [(5,.gslice 0 ([]:List qB).length 2),(6,.i 0)]),(kBF []))) (Sub.norm [] [none] rfl rfl (.keep (.same (qd qa _)) (.keep .nil (.keep (.same nI) .nil))) (.fresh .nil)) ?_
   refine Goes.loopS (fun M s=> ∃(l3:List qB) (n4:Int),s=(ofG 69 (kD l ((5,.gslice 0 l3.length 2)::(kBj n4))),(kL l3 []))∧jk N l M l3 n4=some r6) ?_ (m:=N) ⟨_,_,rfl,g6⟩
   rintro M s ⟨l3,n4,rfl,g6⟩
   cases M with
   |zero=>simp only[jk]at g6;cases g6
   |succ M=>
    rw[jk]at g6
    refine sq ?_
    refine sh fol (kD l [(5,.gslice 0 l3.length 2),(6,.i n4),(19,.bool (decide (n4<(l.length:Int))))]) ?_
    refine ihD g6 (fun c7 g6=>?_) (fun c7 g6=>?_)
    ·refine Goes.skip ?_
     refine Goes.block ?_
     refine Goes.scope ?_
     obtain⟨x8,e_x8,g6⟩:=bnd g6
     refine sq (gq fol [2,4] (kD l (kAQ l3 n4 [])) (kL l3 [.cells [.str x8.Desk,.i 0]]) (ac (iv xn qa e_x8) (ac (lv 0 ce9 qa e_x8 rfl) az)) ?_)
     refine sh fol (kD l (kAQ l3 n4 (kBR n4))) ?_
     refine sq (Goes.block ?_)
     obtain⟨r11,g11,g6⟩:=bnd g6
     refine Goes.imp (Q:=fun x s'=>(x= .exit 2∧ ∃n10,n10=r11∧Sub s' (ofG 69 (kD l (kAQ l3 n4 (kBR n10))),(kL l3 [.cells [.str x8.Desk,.i 0]])))) ?_ ?_
     ·refine Goes.loopS (fun M s=> ∃(n9:Int),s=(ofG 69 (kD l (kAQ l3 n4 (kBR n9))),(kL l3 [.cells [.str x8.Desk,.i 0]]))∧ve l x8 M n9=some r11) ?_ (m:=N) ⟨_,rfl,g11⟩
      rintro M s ⟨n9,rfl,g11⟩
      cases M with
      |zero=>simp only[ve]at g11;cases g11
      |succ M=>
       rw[ve]at g11
       refine sq ?_
       refine sq ?_
       obtain⟨b14,g_v15,g11⟩:=bnd g11
       refine Goes.cut (s':=(ofG 69 (kD l (kAQ l3 n4 [(8,.i n9),(40,.bool b14)])),(kL l3 [.cells [.str x8.Desk,.i 0]]))) ?_ ?_
       ·rcases wyD g_v15 with⟨c12,g_v15⟩|⟨c12,g_v15⟩
        ·obtain⟨x13,e_x13,g_v15⟩:=bnd g_v15
         obtain rfl:=si g_v15
         exact tr fol [4,7,9] (kD l (kAQ l3 n4 [(8,.i n9),(40,.bool (x13.Desk==x8.Desk))])) (ac (gw c12) (ac (iv xn qa e_x13) (ac (lv 0 ce9 qa e_x13 rfl) az)))
        ·obtain rfl:=si g_v15
         exact tr fol [4] (kD l (kAQ l3 n4 [(8,.i n9),(40,.bool false)])) (ac (gw c12) az)
       refine ihB g11 (fun c16 g11=>?_) (fun c16 g11=>?_)
       ·refine Goes.skip ?_
        refine Goes.block ?_
        refine gh fol (kD l (kAQ l3 n4 (kBR (w64 (n9+1))))) ?_
        exact⟨M,(ofG 69 (kD l (kAQ l3 n4 (kBR (w64 (n9+1))))),(kL l3 [.cells [.str x8.Desk,.i 0]])),Nat.lt_succ_self _,(Sub.refl _),_,rfl,g11⟩
       ·refine Goes.exit ?_
        obtain rfl:=si g11
        exact⟨rfl,_,rfl,(Sub.keep [0,5,6,7,8] rfl rfl)⟩
     rintro x s' ⟨rfl,n10,rfl,hsub⟩
     refine Goes.sub hsub ?_
     refine sq (Goes.label ?_)
     refine sq ?_
     obtain⟨s17,e_s17,g6⟩:=bnd g6
     refine sq (gr fol [3] (kD l (kAM l3 n10 s17 (s17.length:Int) [(48,.i 0)])) (ac (hs (.done (.opt (zW Tryz.prog 96 (vl qa l) (some (.i n4)) (some (.i n10)) none)) (vl qa s17)) (qk9 xn (E:=qa) rfl (some n4) (some n10) e_s17)) az) ?_)
     refine Goes.block ?_
     obtain⟨r21,g21,g6⟩:=bnd g6
     refine Goes.imp (Q:=fun x s'=>(x= .exit 4∧ ∃n20,n20=r21∧Sub s' (ofG 69 (kD l ((5,.gslice 0 l3.length 2)::(kBY (kBR n10)))),(kL l3 (kAI x8.Desk n20 []))))) ?_ ?_
     ·refine Goes.loopS (fun M s=> ∃(n18:Int) (n19:Int),s=(ofG 69 (kD l (kAM l3 n10 s17 (s17.length:Int) [(48,.i n19)])),(kL l3 (kAI x8.Desk n18 [])))∧jI s17 M n18 n19=some r21) ?_ (m:=N) ⟨_,_,rfl,g21⟩
      rintro M s ⟨n18,n19,rfl,g21⟩
      cases M with
      |zero=>simp only[jI]at g21;cases g21
      |succ M=>
       rw[jI]at g21
       refine sh fol (kD l (kAM l3 n10 s17 (s17.length:Int) [(48,.i n19),(49,.bool (decide (n19<(s17.length:Int))))])) ?_
       refine sq ?_
       refine ihD g21 (fun c22 g21=>?_) (fun c22 g21=>?_)
       ·refine Goes.skip ?_
        refine sq (Goes.block ?_)
        obtain⟨x23,e_x23,g21⟩:=bnd g21
        refine sq (gq fol [0,1] (kD l ((5,.gslice 0 l3.length 2)::(kBY [(8,.i n10),(10,.ptr 2 0),(46,vl qa s17),(47,.i (s17.length:Int)),(48,.i n19)]))) (kL l3 (kAI x8.Desk n18 (kE x23.Desk x23.Number x23.Clock x23.Line []))) (ac (iv xn qa e_x23) (ac (la qak qa e_x23) az)) ?_)
        refine sq ?_
        refine sh fol (kD l (kAM l3 n10 s17 (s17.length:Int) [(48,.i n19),(57,.bool (!decide (x23.Number=(w64 (n18+1)))))])) ?_
        refine ihB g21 (fun c24 g21=>?_) (fun c24 g21=>?_)
        ·refine Goes.exit ?_
         obtain rfl:=si g21
         exact⟨rfl,_,rfl,(Sub.norm [] [some 0,some 1] rfl rfl (.keep (.same (qd qa _)) (.keep (.gslice rfl) (.kp (.keep (.same nI) .nil)))) (.ks (.kb rfl (.same sn) .nil)))⟩
        ·refine Goes.skip ?_
         refine Goes.rg fol (kD l (kAM l3 n10 s17 (s17.length:Int) [(48,.i n19)])) (kL l3 (kAI x8.Desk (w64 (n18+1)) (kE x23.Desk x23.Number x23.Clock x23.Line []))) ?_
         refine gh fol (kD l (kAM l3 n10 s17 (s17.length:Int) [(48,.i (w64 (n19+1)))])) ?_
         exact⟨M,(ofG 69 (kD l (kAM l3 n10 s17 (s17.length:Int) [(48,.i (w64 (n19+1)))])),(kL l3 (kAI x8.Desk (w64 (n18+1)) []))),Nat.lt_succ_self _,(Sub.norm [] [some 0,some 1] rfl rfl (.keep (.same (qd qa _)) (.keep (.gslice rfl) (.kp (.keep (.same nI) (.keep (.same (qd qa _)) (.keep (.same nI) (.keep (.same nI) .nil))))))) (.ks (.kb rfl (.same sn) .nil))),_,_,rfl,g21⟩
       ·refine Goes.exit ?_
        obtain rfl:=si g21
        exact⟨rfl,_,rfl,(Sub.keep [0,5,7,8] rfl rfl)⟩
     rintro x s' ⟨rfl,n20,rfl,hsub⟩
     refine Goes.sub hsub ?_
     obtain⟨l25,e_l25,g6⟩:=bnd g6
     refine sq (gq fol [3] (kD l ((5,.gslice 3 l25.length 2)::(kBR n10))) (.dead::(kAI x8.Desk n20 (kAI x8.Desk n20 (kL l25 [])))) (ac (hs (.run [0,2] (zh Tryz.prog [97,97] (.gslice 0 l3.length 2) (.slice 2 0 1 1 2)) (kL l3 (kAI x8.Desk n20 (kAI x8.Desk n20 []))) (.gslice 3 l25.length 2) (.dead::(kAI x8.Desk n20 (kAI x8.Desk n20 (kL l25 [])))) true) (jE qj8 (E:=qj) rfl (qaB (E:=qj) (ys:=[(⟨x8.Desk,n20⟩:qB)]) rfl rfl rfl rfl) (qcg (E:=qj) (l:=l3) rfl rfl rfl e_l25 rfl))) az) ?_)
     refine gh fol (kD l ((5,.gslice 3 l25.length 2)::(kBj n10))) ?_
     exact⟨M,(ofG 69 (kD l ((5,.gslice 0 l25.length 2)::(kBj n10))),(kL l25 [])),Nat.lt_succ_self _,(Sub.norm [] [some 3] rfl rfl (.keep (.same (qd qa _)) (.keep (.gslice rfl) (.keep (.same nI) .nil))) (.ks .nil)),_,_,rfl,g6⟩
    ·refine Goes.exit ?_
     obtain rfl:=si g6
     exact⟨rfl,_,rfl,(Sub.keep [5] rfl rfl)⟩
  rintro x s' ⟨rfl,l5,rfl,hsub⟩
  refine Goes.sub hsub ?_
  refine sh fol [(2,.gslice 0 l5.length 2),(3,.i 0)] ?_
  refine Goes.ret ?_
  obtain rfl:=si h
  exact(gw2 [.gslice 0 l5.length 2,.i 0] (FzW.tuple (qw.cons (FzW.fz (Fz.gs (E:=qj) rfl rfl (nl rfl))) (qw.cons (FzW.still tI) qw.nil))))
end Go.Av
end
noncomputable section
namespace Go.Av
open Go.Proofs Go.RowKit
set_option linter.unusedSectionVars false
set_option linter.unusedVariables false
set_option linter.unusedSimpArgs false
set_option maxRecDepth 100000
def awk:Option Bool:=some true
theorem qnA {res:Bool} (h:awk=some res):qf Tryz.prog (.fn 15) [] [] (.bool res) []:=by
 obtain rfl:=si h
 exact qot
def qD (n19:Int) (n15:Int) (n13:Int) (n14:Int) (x25:qb):Nat→(Option (List qb))→(Option (List qb))→(Option (List qb))→Int→Option ((Option (List qb))×(Option (List qb))×(Option (List qb)))
 |0,_,_,_,_=>none
 |K+1,o26,o27,o28,n29=>
  if n29<3 then
  (((if n29=0 then
  (qkz .i64 (w64 n13) n19).bind fun q40=>
  if(qf2 .i64 q40 1)=1 then
  some true
  else
  some (decide (n29=(n19.tmod 3)))
  else
  if n29=1 then
  (qkz .i64 (w64 n14) n19).bind fun q43=>
  if(qf2 .i64 q43 1)=1 then
  some true
  else
  some (decide (n29=(n19.tmod 3)))
  else
  if n29=2 then
  (qkz .i64 (w64 n15) n19).bind fun q46=>
  if(qf2 .i64 q46 1)=1 then
  some true
  else
  some (decide (n29=(n19.tmod 3)))
  else
  none:Option Bool).bind fun b48=>
  if b48=true then
  (if n29=0 then
  (match o26 with
  |none=>
  some ((some ([x25]:List qb)),o27,o28)
  |some l52=>
  (app 48 l52 [x25]).bind fun l53=>
  some ((some l53),o27,o28))
  else
  if n29=1 then
  (match o27 with
  |none=>
  some (o26,(some ([x25]:List qb)),o28)
  |some l55=>
  (app 48 l55 [x25]).bind fun l56=>
  some (o26,(some l56),o28))
  else
  if n29=2 then
  (match o28 with
  |none=>
  some (o26,o27,(some ([x25]:List qb)))
  |some l58=>
  (app 48 l58 [x25]).bind fun l59=>
  some (o26,o27,(some l59)))
  else
  none:Option ((Option (List qb))×(Option (List qb))×(Option (List qb)))).bind fun(o60,o61,o62)=>
  some (o60,o61,o62)
  else
  some (o26,o27,o28):Option ((Option (List qb))×(Option (List qb))×(Option (List qb))))).bind fun(o35,o36,o37)=>
  qD n19 n15 n13 n14 x25 K o35 o36 o37 (w64 (n29+1))
  else
  some (o26,o27,o28)
def zo (N:Nat) (l:List qb):Nat→Int→Int→Int→(Option (List qb))→(Option (List qb))→(Option (List qb))→Int→Option ((Option (List qb))×(Option (List qb))×(Option (List qb)))
 |0,_,_,_,_,_,_,_=>none
 |K+1,n13,n14,n15,o16,o17,o18,n19=>
  if n19<(l.length:Int)then
  (idx l n19).bind fun x25=>
  (qD n19 n15 n13 n14 x25 N o16 o17 o18 0).bind fun(o30,o31,o32)=>
  zo N l K n13 n14 n15 o30 o31 o32 (w64 (n19+1))
  else
  some (o16,o17,o18)
def yI (N:Nat) (l:List qb) (cut:(Int×Int×Int)):Option Bool:=
 (jM N l).bind fun r1=>
 ((vV N r1 14).bind fun r2=>
 if(!r2)=true then
 some (cut.1,cut.2.1,cut.2.2,true)
 else
 if(l.length:Int)>14 then
 some (cut.1,cut.2.1,cut.2.2,true)
 else
 (vW N r1).bind fun r5=>
 some (cut.1,cut.2.1,cut.2.2,!decide (r5=0)):Option (Int×Int×Int×Bool)).bind fun(n6,n7,n8,b9)=>
 if b9=true then
 (awk).bind fun r12=>
 some r12
 else
 (zo N l N n6 n7 n8 (none:Option (List qb)) (none:Option (List qb)) (none:Option (List qb)) 0).bind fun(o20,o21,o22)=>
 ((match o20 with
 |none=>
 (match o21 with
 |none=>
 (qK N [] []).bind fun r66=>
 some ([],[],r66.1,r66.2)
 |some l65=>
 (qK N [] l65).bind fun r67=>
 some ([],l65,r67.1,r67.2))
 |some l64=>
 (match o21 with
 |none=>
 (qK N l64 []).bind fun r69=>
 some (l64,[],r69.1,r69.2)
 |some l68=>
 (qK N l64 l68).bind fun r70=>
 some (l64,l68,r70.1,r70.2))):Option ((List qb)×(List qb)×(List qb)×Int)).bind fun(l71,l72,l73,n74)=>
 (qK N l72 l71).bind fun r76=>
 ((match o22 with
 |none=>
 (qK N l72 []).bind fun r78=>
 some ([],r78.1,r78.2)
 |some l77=>
 (qK N l72 l77).bind fun r79=>
 some (l77,r79.1,r79.2)):Option ((List qb)×(List qb)×Int)).bind fun(l80,l81,n82)=>
 (if(!decide (n74=0))=true then
 some true
 else
 if(!decide (r76.2=0))=true then
 some true
 else
 if(!decide (n82=0))=true then
 some true
 else
 (jM N l73).bind fun r87=>
 (jM N r76.1).bind fun r88=>
 (jg N r87 r88).bind fun r89=>
 if(!r89)=true then
 some true
 else
 if(l73.length:Int)>14 then
 some true
 else
 some (decide ((l81.length:Int)>14)):Option Bool).bind fun b92=>
 if b92=true then
 some false
 else
 (qK N l73 l80).bind fun r95=>
 (qK N l71 l81).bind fun r96=>
 (qK N l l).bind fun r97=>
 (qae N l71).bind fun r98=>
 (if(!decide (r95.2=0))=true then
 some true
 else
 if(!decide (r96.2=0))=true then
 some true
 else
 if(!decide (r97.2=0))=true then
 some true
 else
 if(!decide (r98.2=0))=true then
 some true
 else
 (jM N r95.1).bind fun r103=>
 (jg N r103 r1).bind fun r104=>
 if(!r104)=true then
 some true
 else
 (jM N r96.1).bind fun r106=>
 (jg N r106 r1).bind fun r107=>
 if(!r107)=true then
 some true
 else
 (jM N r97.1).bind fun r109=>
 (jg N r109 r1).bind fun r110=>
 if(!r110)=true then
 some true
 else
 (qaD N r98.1).bind fun r112=>
 (yD N r112).bind fun r113=>
 some (!decide (r113=0)):Option Bool).bind fun b114=>
 if b114=true then
 some false
 else
 (xW N l r98.1).bind fun r117=>
 (if(!decide (r117.2=0))=true then
 some true
 else
 (jM N r117.1).bind fun r119=>
 (vW N r119).bind fun r120=>
 if(!decide (r120=0))=true then
 some true
 else
 some (decide ((r117.1.length:Int)>14)):Option Bool).bind fun b122=>
 if b122=true then
 some false
 else
 (qK N l71 r117.1).bind fun r125=>
 (qdy N r95.1).bind fun r126=>
 (if r125.2=0 then
 if r126.2.2=0 then
 (jM N r125.1).bind fun r129=>
 (jg N r129 r1).bind fun r130=>
 if r130=true then
 if(w64 ((r126.1.length:Int)+(r126.2.1.length:Int)))=(l.length:Int)then
 (awk).bind fun r133=>
 some r133
 else
 some false
 else
 some false
 else
 some false
 else
 some false:Option Bool).bind fun b134=>
 some b134
theorem qcx (N:Nat) (l:List qb) (cut:(Int×Int×Int)) {res:Bool} (h:yI N l cut=some res):qf Tryz.prog (.fn 13) (kAv l [.agg [.int .u16 cut.1,.int .u16 cut.2.1,.int .u16 cut.2.2]]) [] (.bool res) []:=by
 unfold yI at h
 refine Goes.fnW Tryz.func13 rfl rfl (m:=257) rfl (rs:=[.tmp 4]) rfl (l:=(kD l [(1,.agg [.int .u16 cut.1,.int .u16 cut.2.1,.int .u16 cut.2.2])])) rfl ?_
 refine sg fol (kD l [(3,.ptr 0 0)]) (kP cut.1 cut.2.1 cut.2.2 []) ?_
 obtain⟨r1,e_r1,h⟩:=bnd h
 refine sq (gr fol [1] (kD l (kBJ r1 [])) (ac (cv (qF N l e_r1)) az) ?_)
 refine sq ?_
 refine sq ?_
 obtain⟨⟨n6,n7,n8,b9⟩,g_v10,h⟩:=bnd h
 refine Goes.cut (s':=(ofG 257 (kD l (kBJ r1 [(45,.bool b9)])),(kP n6 n7 n8 []))) ?_ ?_
 ·obtain⟨r2,e_r2,g_v10⟩:=bnd g_v10
  rcases wyB g_v10 with⟨c3,g_v10⟩|⟨c3,g_v10⟩
  ·simp only[Option.some.injEq,Prod.mk.injEq]at g_v10
   obtain⟨rfl,rfl,rfl,rfl⟩:=g_v10
   exact tr fol [1,3] (kD l (kBJ r1 [(45,.bool true)])) (ac (cv (qab N r1 14 e_r2)) (ac (gw c3) az))
  ·rcases wyD g_v10 with⟨c4,g_v10⟩|⟨c4,g_v10⟩
   ·simp only[Option.some.injEq,Prod.mk.injEq]at g_v10
    obtain⟨rfl,rfl,rfl,rfl⟩:=g_v10
    exact tr fol [1,3,8] (kD l (kBJ r1 [(45,.bool true)])) (ac (cv (qab N r1 14 e_r2)) (ac (gw c3) (ac (gw c4) az)))
   ·obtain⟨r5,e_r5,g_v10⟩:=bnd g_v10
    simp only[Option.some.injEq,Prod.mk.injEq]at g_v10
    obtain⟨rfl,rfl,rfl,rfl⟩:=g_v10
    exact tr fol [1,3,8,10] (kD l (kBJ r1 [(45,.bool (!decide (r5=0)))])) (ac (cv (qab N r1 14 e_r2)) (ac (gw c3) (ac (gw c4) (ac (cv (qac N r1 e_r5)) az))))
 try dsimp only at h
 refine ihB h (fun c11 h=>?_) (fun c11 h=>?_)
 ·obtain⟨r12,e_r12,h⟩:=bnd h
  refine sq (gr fol [0] [(4,.bool r12)] (ac (cv (qnA e_r12)) az) ?_)
  refine Goes.ret ?_
  obtain rfl:=si h
  exact(gw2 [.bool r12] (FzW.still tB))
 ·refine Goes.skip ?_
  refine sg fol (kD l (kBJ r1 [(6,.ptr 1 0)])) (kP n6 n7 n8 [.cells [.nilslice,.nilslice,.nilslice]]) ?_
  refine sq ?_
  refine sh fol (kD l (kAJ r1 l (l.length:Int) [(49,.i 0)])) ?_
  refine Goes.block ?_
  obtain⟨r23,g23,h⟩:=bnd h
  refine Goes.imp (Q:=fun x s'=>(x= .exit 0∧ ∃o20 o21 o22,(o20,o21,o22)=r23∧Sub s' (ofG 257 (kD l (kM r1 [])),(.cells [hsl 1 4 o20,hsl 2 4 o21,hsl 3 4 o22]::(kF o20 o21 (kU o22 [])))))) ?_ ?_
  ·refine Goes.sub (s':=(ofG 257 (kD l (kAJ r1 l (l.length:Int) [(49,.i 0)])),(kP n6 n7 n8 [.cells [hsl 2 4 (none:Option (List qb)),hsl 3 4 (none:Option (List qb)),hsl 4 4 (none:Option (List qb))],.cells ((hof (none:Option (List qb))).flatMap qa.c),.cells ((hof (none:Option (List qb))).flatMap qa.c),.cells ((hof (none:Option (List qb))).flatMap qa.c)]))) (Sub.norm [] [some 0,some 1,none,none,none] rfl rfl (.keep (.same (qd qa _)) (.kp (.keep (.same (qd qa _)) (.kp (.keep (.same (qd qa _)) (.keep (.same nI) (.keep (.same nI) .nil))))))) (.kb rfl (.same sn) (.kb rfl (.cells (rc .hs0 (rc .hs0 (rc .hs0 rn)))) (.fresh (.fresh (.fresh .nil)))))) ?_
   refine Goes.loopS (fun M s=> ∃(n13:Int) (n14:Int) (n15:Int) (o16:Option (List qb)) (o17:Option (List qb)) (o18:Option (List qb)) (n19:Int),s=(ofG 257 (kD l (kAJ r1 l (l.length:Int) [(49,.i n19)])),(kP n13 n14 n15 (kAp o16 o17 o18 (kF o16 o17 (kU o18 [])))))∧zo N l M n13 n14 n15 o16 o17 o18 n19=some r23) ?_ (m:=N) ⟨_,_,_,_,_,_,_,rfl,g23⟩
   rintro M s ⟨n13,n14,n15,o16,o17,o18,n19,rfl,g23⟩
   cases M with
   |zero=>simp only[zo]at g23;cases g23
   |succ M=>
    rw[zo]at g23
    refine sh fol (kD l (kAJ r1 l (l.length:Int) [(49,.i n19),(50,.bool (decide (n19<(l.length:Int))))])) ?_
    refine sq ?_
    refine ihD g23 (fun c24 g23=>?_) (fun c24 g23=>?_)
    ·refine Goes.skip ?_
     refine sq (Goes.block ?_)
     obtain⟨x25,e_x25,g23⟩:=bnd g23
     refine sq (gq fol [1,2] (kD l (kH r1 n19 l (l.length:Int) [])) (kP n13 n14 n15 (kAp o16 o17 o18 (kF o16 o17 (kU o18 (kE x25.Desk x25.Number x25.Clock x25.Line []))))) (ac (iv xn qa e_x25) (ac (la qak qa e_x25) az)) ?_)
     refine sh fol (kD l (kH r1 n19 l (l.length:Int) [(54,.i 0)])) ?_
     refine Goes.block ?_
     obtain⟨r33,g33,g23⟩:=bnd g23
     refine Goes.imp (Q:=fun x s'=>(x= .exit 2∧ ∃o30 o31 o32,(o30,o31,o32)=r33∧Sub s' (ofG 257 (kD l (kAJ r1 l (l.length:Int) [(49,.i n19)])),(kP n13 n14 n15 (kAp o30 o31 o32 (kF o30 o31 (kU o32 []))))))) ?_ ?_
     ·refine Goes.loopS (fun M s=> ∃(o26:Option (List qb)) (o27:Option (List qb)) (o28:Option (List qb)) (n29:Int),s=(ofG 257 (kD l (kH r1 n19 l (l.length:Int) [(54,.i n29)])),(kP n13 n14 n15 (kAp o26 o27 o28 (kF o26 o27 (kU o28 (kE x25.Desk x25.Number x25.Clock x25.Line []))))))∧qD n19 n15 n13 n14 x25 M o26 o27 o28 n29=some r33) ?_ (m:=N) ⟨_,_,_,_,rfl,g33⟩
      rintro M s ⟨o26,o27,o28,n29,rfl,g33⟩
      cases M with
      |zero=>simp only[qD]at g33;cases g33
      |succ M=>
       unfold qD at g33
       refine sh fol (kD l (kH r1 n19 l (l.length:Int) [(54,.i n29),(55,.bool (decide (n29<3)))])) ?_
       refine sq ?_
       refine ihD g33 (fun c34 g33=>?_) (fun c34 g33=>?_)
       ·refine Goes.skip ?_
        refine sq ?_
        obtain⟨r38,g38,g33⟩:=bnd g33
        refine Goes.imp (Q:=fun x s'=>(x= .normal∧ ∃o35 o36 o37,(o35,o36,o37)=r38∧Sub s' (ofG 257 (kD l (kH r1 n19 l (l.length:Int) [(54,.i n29)])),(kP n13 n14 n15 (kAp o35 o36 o37 (kF o35 o36 (kU o37 (kE x25.Desk x25.Number x25.Clock x25.Line [])))))))) ?_ ?_
        ·refine Goes.block ?_
         refine sh fol (kD l (kS r1 n19 n29 l (l.length:Int) [(54,.i n29)])) ?_
         refine sq ?_
         obtain⟨b48,g_v49,g38⟩:=bnd g38
         refine Goes.cut (s':=(ofG 257 (kD l (kS r1 n19 n29 l (l.length:Int) [(54,.i n29),(70,.bool b48)])),(kP n13 n14 n15 (kAp o26 o27 o28 (kF o26 o27 (kU o28 (kE x25.Desk x25.Number x25.Clock x25.Line []))))))) ?_ ?_
         ·rcases wyD g_v49 with⟨c39,g_v49⟩|⟨c39,g_v49⟩
          ·obtain⟨q40,e_q40,g_v49⟩:=bnd g_v49
           rcases wyD g_v49 with⟨c41,g_v49⟩|⟨c41,g_v49⟩
           ·obtain rfl:=si g_v49
            exact tr fol [1,5,8] (kD l (kS r1 n19 n29 l (l.length:Int) [(54,.i n29),(70,.bool true)])) (ac (hs (.done (.opt (qo Tryz.prog 117 (.ptr 0 0) (.i n29))) (.ptr 0 0)) (ixA (ot c39) (by kernel_rfl))) (ac (hs (.done (.opt (qbz Tryz.prog .shr 3 (.tmp 60) (.tmp 61) (.i (w64 n13)) (.i n19))) (.i q40)) (qdN e_q40)) (ac (gw c41) az)))
           ·obtain rfl:=si g_v49
            exact tr fol [1,5,8] (kD l (kS r1 n19 n29 l (l.length:Int) [(54,.i n29),(70,.bool (decide (n29=(n19.tmod 3))))])) (ac (hs (.done (.opt (qo Tryz.prog 117 (.ptr 0 0) (.i n29))) (.ptr 0 0)) (ixA (ot c39) (by kernel_rfl))) (ac (hs (.done (.opt (qbz Tryz.prog .shr 3 (.tmp 60) (.tmp 61) (.i (w64 n13)) (.i n19))) (.i q40)) (qdN e_q40)) (ac (gw c41) az)))
          ·rcases wyD g_v49 with⟨c42,g_v49⟩|⟨c42,g_v49⟩
           ·obtain⟨q43,e_q43,g_v49⟩:=bnd g_v49
            rcases wyD g_v49 with⟨c44,g_v49⟩|⟨c44,g_v49⟩
            ·obtain rfl:=si g_v49
             exact tr fol [1,5,8] (kD l (kS r1 n19 n29 l (l.length:Int) [(54,.i n29),(70,.bool true)])) (ac (hs (.done (.opt (qo Tryz.prog 117 (.ptr 0 0) (.i n29))) (.ptr 0 1)) (ixA (ot c42) (by kernel_rfl))) (ac (hs (.done (.opt (qbz Tryz.prog .shr 3 (.tmp 60) (.tmp 61) (.i (w64 n14)) (.i n19))) (.i q43)) (qdN e_q43)) (ac (gw c44) az)))
            ·obtain rfl:=si g_v49
             exact tr fol [1,5,8] (kD l (kS r1 n19 n29 l (l.length:Int) [(54,.i n29),(70,.bool (decide (n29=(n19.tmod 3))))])) (ac (hs (.done (.opt (qo Tryz.prog 117 (.ptr 0 0) (.i n29))) (.ptr 0 1)) (ixA (ot c42) (by kernel_rfl))) (ac (hs (.done (.opt (qbz Tryz.prog .shr 3 (.tmp 60) (.tmp 61) (.i (w64 n14)) (.i n19))) (.i q43)) (qdN e_q43)) (ac (gw c44) az)))
           ·rcases wyD g_v49 with⟨c45,g_v49⟩|⟨c45,g_v49⟩
            ·obtain⟨q46,e_q46,g_v49⟩:=bnd g_v49
             rcases wyD g_v49 with⟨c47,g_v49⟩|⟨c47,g_v49⟩
             ·obtain rfl:=si g_v49
              exact tr fol [1,5,8] (kD l (kS r1 n19 n29 l (l.length:Int) [(54,.i n29),(70,.bool true)])) (ac (hs (.done (.opt (qo Tryz.prog 117 (.ptr 0 0) (.i n29))) (.ptr 0 2)) (ixA (ot c45) (by kernel_rfl))) (ac (hs (.done (.opt (qbz Tryz.prog .shr 3 (.tmp 60) (.tmp 61) (.i (w64 n15)) (.i n19))) (.i q46)) (qdN e_q46)) (ac (gw c47) az)))
             ·obtain rfl:=si g_v49
              exact tr fol [1,5,8] (kD l (kS r1 n19 n29 l (l.length:Int) [(54,.i n29),(70,.bool (decide (n29=(n19.tmod 3))))])) (ac (hs (.done (.opt (qo Tryz.prog 117 (.ptr 0 0) (.i n29))) (.ptr 0 2)) (ixA (ot c45) (by kernel_rfl))) (ac (hs (.done (.opt (qbz Tryz.prog .shr 3 (.tmp 60) (.tmp 61) (.i (w64 n15)) (.i n19))) (.i q46)) (qdN e_q46)) (ac (gw c47) az)))
            ·cases g_v49
         refine ihB g38 (fun c50 g38=>?_) (fun c50 g38=>?_)
         ·obtain⟨⟨o60,o61,o62⟩,g_v63,g38⟩:=bnd g38
          refine Goes.cutS (s':=(ofG 257 (kD l (kH r1 n19 l (l.length:Int) [(54,.i n29)])),(kP n13 n14 n15 (kAp o60 o61 o62 (kF o60 o61 (kU o62 (kE x25.Desk x25.Number x25.Clock x25.Line []))))))) ?_ ?_
          ·rcases wyD g_v63 with⟨c51,g_v63⟩|⟨c51,g_v63⟩
           ·rcases o26 with _|l52
            ·try dsimp only at g_v63
             simp only[Option.some.injEq,Prod.mk.injEq]at g_v63
             obtain⟨rfl,rfl,rfl⟩:=g_v63
             exact qm.sub (qm.rq fol [2,7] (kD l (kH r1 n19 l (l.length:Int) [(54,.i n29)])) (kP n13 n14 n15 (.cells [.oslice 7 1 4,hsl 3 4 o27,hsl 4 4 o28]:: .cells ((hof (none:Option (List qb))).flatMap qa.c)::(kF o27 o28 (kE x25.Desk x25.Number x25.Clock x25.Line (kE x25.Desk x25.Number x25.Clock x25.Line (kE x25.Desk x25.Number x25.Clock x25.Line [])))))) (ac (hs (.done (.opt (qo Tryz.prog 130 (.ptr 1 0) (.i n29))) (.ptr 1 0)) (ixA (ot c51) (by kernel_rfl))) (ac (hs (.done (.opt (qo Tryz.prog 130 (.ptr 1 0) (.i n29))) (.ptr 1 0)) (ixA (ot c51) (by kernel_rfl))) az))) (Sub.norm [] [some 0,some 1,some 7,some 3,some 4,some 5] rfl rfl (.keep (.same (qd qa _)) (.kp (.keep (.same (qd qa _)) (.kp (.keep (.same nI) (.kp (.keep (.same (qd qa _)) (.keep (.same nI) (.keep (.same nI) (.keep (.same nI) .nil)))))))))) (.kb rfl (.same sn) (.kb rfl (.cells (rc ((zG.hsE rfl rfl)) (rc (.hs rfl) (rc (.hs rfl) rn)))) (.ks (.ks (.ks (.kb rfl (.same sn) .nil)))))))
            ·try dsimp only at g_v63
             obtain⟨l53,e_l53,g_v63⟩:=bnd g_v63
             simp only[Option.some.injEq,Prod.mk.injEq]at g_v63
             obtain⟨rfl,rfl,rfl⟩:=g_v63
             exact qm.sub (qm.rq fol [2,6,7] (kD l (kH r1 n19 l (l.length:Int) [(54,.i n29)])) (kP n13 n14 n15 (.cells [.oslice 7 l53.length 4,hsl 3 4 o27,hsl 4 4 o28]:: .dead::(kF o27 o28 (kE x25.Desk x25.Number x25.Clock x25.Line (kE x25.Desk x25.Number x25.Clock x25.Line (kB l53 [])))))) (ac (hs (.done (.opt (qo Tryz.prog 130 (.ptr 1 0) (.i n29))) (.ptr 1 0)) (ixA (ot c51) (by kernel_rfl))) (ac (hs (.run [2,6] (zh Tryz.prog [96,96] (.oslice 2 l52.length 4) (.slice 6 0 1 1 4)) (kP n13 n14 n15 (.cells [.oslice 2 l52.length 4,hsl 3 4 o27,hsl 4 4 o28]::(kB l52 (kF o27 o28 (kE x25.Desk x25.Number x25.Clock x25.Line (kE x25.Desk x25.Number x25.Clock x25.Line [])))))) (.oslice 7 l53.length 4) (kP n13 n14 n15 (.cells [.oslice 2 l52.length 4,hsl 3 4 o27,hsl 4 4 o28]:: .dead::(kF o27 o28 (kE x25.Desk x25.Number x25.Clock x25.Line (kE x25.Desk x25.Number x25.Clock x25.Line (kB l53 [])))))) true) (jE xn (E:=qa) rfl (qaB (E:=qa) (ys:=[x25]) rfl rfl rfl rfl) (qjs (E:=qa) (l:=l52) rfl rfl rfl e_l53 rfl))) (ac (hs (.done (.opt (qo Tryz.prog 130 (.ptr 1 0) (.i n29))) (.ptr 1 0)) (ixA (ot c51) (by kernel_rfl))) az)))) (Sub.norm [] [some 0,some 1,some 7,some 3,some 4,some 5] rfl rfl (.keep (.same (qd qa _)) (.kp (.keep (.same (qd qa _)) (.kp (.keep (.same nI) (.kp (.keep (.same (qd qa _)) (.keep (.same nI) (.keep (.same nI) (.keep (.same nI) .nil)))))))))) (.kb rfl (.same sn) (.kb rfl (.cells (rc ((zG.hs1 rfl)) (rc (.hs rfl) (rc (.hs rfl) rn)))) (.ks (.ks (.ks (.kb rfl (.same sn) .nil)))))))
           ·rcases wyD g_v63 with⟨c54,g_v63⟩|⟨c54,g_v63⟩
            ·rcases o27 with _|l55
             ·try dsimp only at g_v63
              simp only[Option.some.injEq,Prod.mk.injEq]at g_v63
              obtain⟨rfl,rfl,rfl⟩:=g_v63
              exact qm.sub (qm.rq fol [2,7] (kD l (kH r1 n19 l (l.length:Int) [(54,.i n29)])) (kP n13 n14 n15 (.cells [hsl 2 4 o26,.oslice 7 1 4,hsl 4 4 o28]::(kU o26 (.cells ((hof (none:Option (List qb))).flatMap qa.c)::(kU o28 (kE x25.Desk x25.Number x25.Clock x25.Line (kE x25.Desk x25.Number x25.Clock x25.Line (kE x25.Desk x25.Number x25.Clock x25.Line [])))))))) (ac (hs (.done (.opt (qo Tryz.prog 130 (.ptr 1 0) (.i n29))) (.ptr 1 1)) (ixA (ot c54) (by kernel_rfl))) (ac (hs (.done (.opt (qo Tryz.prog 130 (.ptr 1 0) (.i n29))) (.ptr 1 1)) (ixA (ot c54) (by kernel_rfl))) az))) (Sub.norm [] [some 0,some 1,some 2,some 7,some 4,some 5] rfl rfl (.keep (.same (qd qa _)) (.kp (.keep (.same (qd qa _)) (.kp (.keep (.same nI) (.kp (.keep (.same (qd qa _)) (.keep (.same nI) (.keep (.same nI) (.keep (.same nI) .nil)))))))))) (.kb rfl (.same sn) (.kb rfl (.cells (rc (.hs rfl) (rc ((zG.hsE rfl rfl)) (rc (.hs rfl) rn)))) (.ks (.ks (.ks (.kb rfl (.same sn) .nil)))))))
             ·try dsimp only at g_v63
              obtain⟨l56,e_l56,g_v63⟩:=bnd g_v63
              simp only[Option.some.injEq,Prod.mk.injEq]at g_v63
              obtain⟨rfl,rfl,rfl⟩:=g_v63
              exact qm.sub (qm.rq fol [2,6,7] (kD l (kH r1 n19 l (l.length:Int) [(54,.i n29)])) (kP n13 n14 n15 (.cells [hsl 2 4 o26,.oslice 7 l56.length 4,hsl 4 4 o28]::(kU o26 (.dead::(kU o28 (kE x25.Desk x25.Number x25.Clock x25.Line (kE x25.Desk x25.Number x25.Clock x25.Line (kB l56 [])))))))) (ac (hs (.done (.opt (qo Tryz.prog 130 (.ptr 1 0) (.i n29))) (.ptr 1 1)) (ixA (ot c54) (by kernel_rfl))) (ac (hs (.run [3,6] (zh Tryz.prog [96,96] (.oslice 3 l55.length 4) (.slice 6 0 1 1 4)) (kP n13 n14 n15 (.cells [hsl 2 4 o26,.oslice 3 l55.length 4,hsl 4 4 o28]::(kU o26 (kB l55 (kU o28 (kE x25.Desk x25.Number x25.Clock x25.Line (kE x25.Desk x25.Number x25.Clock x25.Line []))))))) (.oslice 7 l56.length 4) (kP n13 n14 n15 (.cells [hsl 2 4 o26,.oslice 3 l55.length 4,hsl 4 4 o28]::(kU o26 (.dead::(kU o28 (kE x25.Desk x25.Number x25.Clock x25.Line (kE x25.Desk x25.Number x25.Clock x25.Line (kB l56 [])))))))) true) (jE xn (E:=qa) rfl (qaB (E:=qa) (ys:=[x25]) rfl rfl rfl rfl) (qjs (E:=qa) (l:=l55) rfl rfl rfl e_l56 rfl))) (ac (hs (.done (.opt (qo Tryz.prog 130 (.ptr 1 0) (.i n29))) (.ptr 1 1)) (ixA (ot c54) (by kernel_rfl))) az)))) (Sub.norm [] [some 0,some 1,some 2,some 7,some 4,some 5] rfl rfl (.keep (.same (qd qa _)) (.kp (.keep (.same (qd qa _)) (.kp (.keep (.same nI) (.kp (.keep (.same (qd qa _)) (.keep (.same nI) (.keep (.same nI) (.keep (.same nI) .nil)))))))))) (.kb rfl (.same sn) (.kb rfl (.cells (rc (.hs rfl) (rc ((zG.hs1 rfl)) (rc (.hs rfl) rn)))) (.ks (.ks (.ks (.kb rfl (.same sn) .nil)))))))
            ·rcases wyD g_v63 with⟨c57,g_v63⟩|⟨c57,g_v63⟩
             ·rcases o28 with _|l58
              ·try dsimp only at g_v63
               simp only[Option.some.injEq,Prod.mk.injEq]at g_v63
               obtain⟨rfl,rfl,rfl⟩:=g_v63
               exact qm.sub (qm.rq fol [2,7] (kD l (kH r1 n19 l (l.length:Int) [(54,.i n29)])) (kP n13 n14 n15 (.cells [hsl 2 4 o26,hsl 3 4 o27,.oslice 7 1 4]::(kF o26 o27 (.cells ((hof (none:Option (List qb))).flatMap qa.c)::(kE x25.Desk x25.Number x25.Clock x25.Line (kE x25.Desk x25.Number x25.Clock x25.Line (kE x25.Desk x25.Number x25.Clock x25.Line []))))))) (ac (hs (.done (.opt (qo Tryz.prog 130 (.ptr 1 0) (.i n29))) (.ptr 1 2)) (ixA (ot c57) (by kernel_rfl))) (ac (hs (.done (.opt (qo Tryz.prog 130 (.ptr 1 0) (.i n29))) (.ptr 1 2)) (ixA (ot c57) (by kernel_rfl))) az))) (Sub.norm [] [some 0,some 1,some 2,some 3,some 7,some 5] rfl rfl (.keep (.same (qd qa _)) (.kp (.keep (.same (qd qa _)) (.kp (.keep (.same nI) (.kp (.keep (.same (qd qa _)) (.keep (.same nI) (.keep (.same nI) (.keep (.same nI) .nil)))))))))) (.kb rfl (.same sn) (.kb rfl (.cells (rc (.hs rfl) (rc (.hs rfl) (rc ((zG.hsE rfl rfl)) rn)))) (.ks (.ks (.ks (.kb rfl (.same sn) .nil)))))))
              ·try dsimp only at g_v63
               obtain⟨l59,e_l59,g_v63⟩:=bnd g_v63
               simp only[Option.some.injEq,Prod.mk.injEq]at g_v63
               obtain⟨rfl,rfl,rfl⟩:=g_v63
               exact qm.sub (qm.rq fol [2,6,7] (kD l (kH r1 n19 l (l.length:Int) [(54,.i n29)])) (kP n13 n14 n15 (.cells [hsl 2 4 o26,hsl 3 4 o27,.oslice 7 l59.length 4]::(kF o26 o27 (.dead::(kE x25.Desk x25.Number x25.Clock x25.Line (kE x25.Desk x25.Number x25.Clock x25.Line (kB l59 []))))))) (ac (hs (.done (.opt (qo Tryz.prog 130 (.ptr 1 0) (.i n29))) (.ptr 1 2)) (ixA (ot c57) (by kernel_rfl))) (ac (hs (.run [4,6] (zh Tryz.prog [96,96] (.oslice 4 l58.length 4) (.slice 6 0 1 1 4)) (kP n13 n14 n15 (.cells [hsl 2 4 o26,hsl 3 4 o27,.oslice 4 l58.length 4]::(kF o26 o27 (kB l58 (kE x25.Desk x25.Number x25.Clock x25.Line (kE x25.Desk x25.Number x25.Clock x25.Line [])))))) (.oslice 7 l59.length 4) (kP n13 n14 n15 (.cells [hsl 2 4 o26,hsl 3 4 o27,.oslice 4 l58.length 4]::(kF o26 o27 (.dead::(kE x25.Desk x25.Number x25.Clock x25.Line (kE x25.Desk x25.Number x25.Clock x25.Line (kB l59 []))))))) true) (jE xn (E:=qa) rfl (qaB (E:=qa) (ys:=[x25]) rfl rfl rfl rfl) (qjs (E:=qa) (l:=l58) rfl rfl rfl e_l59 rfl))) (ac (hs (.done (.opt (qo Tryz.prog 130 (.ptr 1 0) (.i n29))) (.ptr 1 2)) (ixA (ot c57) (by kernel_rfl))) az)))) (Sub.norm [] [some 0,some 1,some 2,some 3,some 7,some 5] rfl rfl (.keep (.same (qd qa _)) (.kp (.keep (.same (qd qa _)) (.kp (.keep (.same nI) (.kp (.keep (.same (qd qa _)) (.keep (.same nI) (.keep (.same nI) (.keep (.same nI) .nil)))))))))) (.kb rfl (.same sn) (.kb rfl (.cells (rc (.hs rfl) (rc (.hs rfl) (rc ((zG.hs1 rfl)) rn)))) (.ks (.ks (.ks (.kb rfl (.same sn) .nil)))))))
             ·cases g_v63
          intro _ hsub
          try dsimp only at g38
          obtain rfl:=si g38
          exact⟨rfl,_,_,_,rfl,(hsub.trans (Sub.refl _))⟩
         ·refine Goes.skip ?_
          obtain rfl:=si g38
          exact⟨rfl,_,_,_,rfl,(Sub.keep [0,3,5,6,7,8,47,48,49,54] rfl rfl)⟩
        rintro x s' ⟨rfl,o35,o36,o37,rfl,hsub⟩
        try dsimp only at g33
        refine Goes.sub hsub ?_
        refine gh fol (kD l (kH r1 n19 l (l.length:Int) [(54,.i (w64 (n29+1)))])) ?_
        exact⟨M,(ofG 257 (kD l (kH r1 n19 l (l.length:Int) [(54,.i (w64 (n29+1)))])),(kP n13 n14 n15 (kAp o35 o36 o37 (kF o35 o36 (kU o37 (kE x25.Desk x25.Number x25.Clock x25.Line [])))))),Nat.lt_succ_self _,(Sub.refl _),_,_,_,_,rfl,g33⟩
       ·refine Goes.exit ?_
        obtain rfl:=si g33
        exact⟨rfl,_,_,_,rfl,(Sub.norm [] [some 0,some 1,some 2,some 3,some 4] rfl rfl (.keep (.same (qd qa _)) (.kp (.keep (.same (qd qa _)) (.kp (.drop (.drop (.keep (.same (qd qa _)) (.keep (.same nI) (.keep (.same nI) .nil))))))))) (.kb rfl (.same sn) (.kb rfl (.cells (rc (.hs rfl) (rc (.hs rfl) (rc (.hs rfl) rn)))) (.ks (.ks (.ks .nil))))))⟩
     rintro x s' ⟨rfl,o30,o31,o32,rfl,hsub⟩
     try dsimp only at g23
     refine Goes.sub hsub ?_
     refine gh fol (kD l (kAJ r1 l (l.length:Int) [(49,.i (w64 (n19+1)))])) ?_
     exact⟨M,(ofG 257 (kD l (kAJ r1 l (l.length:Int) [(49,.i (w64 (n19+1)))])),(kP n13 n14 n15 (kAp o30 o31 o32 (kF o30 o31 (kU o32 []))))),Nat.lt_succ_self _,(Sub.refl _),_,_,_,_,_,_,_,rfl,g23⟩
    ·refine Goes.exit ?_
     obtain rfl:=si g23
     exact⟨rfl,_,_,_,rfl,(Sub.norm [] [some 1,some 2,some 3,some 4] rfl rfl (.keep (.same (qd qa _)) (.drop (.keep (.same (qd qa _)) (.kp .nil)))) (.kb rfl (.cells (rc (.hs rfl) (rc (.hs rfl) (rc (.hs rfl) rn)))) (.ks (.ks (.ks .nil)))))⟩
  rintro x s' ⟨rfl,o20,o21,o22,rfl,hsub⟩
  try dsimp only at h
  refine Goes.sub hsub ?_
  refine sq ?_
  obtain⟨⟨l71,l72,l73,n74⟩,g_v75,h⟩:=bnd h
  refine Goes.cutS (s':=(ofG 257 (kD l (kM r1 (kX l73 n74 []))),(.cells [vl qa l71,vl qa l72,hsl 1 4 o22]::(kU o22 [])))) ?_ ?_
  ·rcases o20 with _|l64
   ·try dsimp only at g_v75
    rcases o21 with _|l65
    ·try dsimp only at g_v75
     obtain⟨r66,e_r66,g_v75⟩:=bnd g_v75
     simp only[Option.some.injEq,Prod.mk.injEq]at g_v75
     obtain⟨rfl,rfl,rfl,rfl⟩:=g_v75
     exact qm.sub (qm.rq fol [4] (kD l (kM r1 (kX r66.1 r66.2 []))) (.cells [.nilslice,.nilslice,hsl 3 4 o22]:: .cells ((hof (none:Option (List qb))).flatMap qa.c):: .cells ((hof (none:Option (List qb))).flatMap qa.c)::(kU o22 [])) (ac (cv ((qf.wk (zB N [] [] e_r66) (WkL.cons (Wk.nilv (E:=qa)) (WkL.cons (Wk.nilv (E:=qa)) WkL.nil))))) az)) (Sub.norm [] [some 0,some 3] rfl rfl (.keep (.same (qd qa _)) (.keep (.same (qd qa _)) (.kp (.keep (.same (qd qa _)) (.keep (.same nI) .nil))))) (.kb rfl (.cells (rc (.nilv) (rc (.nilv) (rc (.hs rfl) rn)))) (.ks .nil)))
    ·try dsimp only at g_v75
     obtain⟨r67,e_r67,g_v75⟩:=bnd g_v75
     simp only[Option.some.injEq,Prod.mk.injEq]at g_v75
     obtain⟨rfl,rfl,rfl,rfl⟩:=g_v75
     exact qm.sub (qm.rq fol [4] (kD l (kM r1 (kX r67.1 r67.2 []))) (.cells [.nilslice,.oslice 2 l65.length 4,hsl 3 4 o22]:: .cells ((hof (none:Option (List qb))).flatMap qa.c):: .frozen (l65.flatMap qa.c)::(kU o22 [])) (ac (hs (.callF 69 [.nilslice,.oslice 2 l65.length 4] (.cells [.nilslice,.oslice 2 l65.length 4,hsl 3 4 o22]:: .cells ((hof (none:Option (List qb))).flatMap qa.c)::(kB l65 (kU o22 []))) [2] (.nilslice::(kAv l65 [])) (.tuple (kAv r67.1 [.i r67.2]))) (qiy (FzL.cons (Fz.still (Still.nilslice 11)) (FzL.cons (Fz.os (E:=qa) rfl rfl (nl rfl)) FzL.nil)) ((qf.wk (zB N [] l65 e_r67) (WkL.cons (Wk.nilv (E:=qa)) (WkL.cons (Wk.refl _) WkL.nil)))) (Still.tuple (AllST.cons (jV qa _ (nl rfl)) (AllST.cons tI AllST.nil))))) az)) (Sub.norm [2] [some 0,some 3] rfl rfl (.keep (.same (qd qa _)) (.keep (.same (qd qa _)) (.kp (.keep (.same (qd qa _)) (.keep (.same nI) .nil))))) (.kb rfl (.cells (rc (.nilv) (rc (.frz (Fz.osF (E:=qa) rfl rfl (nl rfl)) (qd qa _)) (rc (.hs rfl) rn)))) (.ks .nil)))
   ·try dsimp only at g_v75
    rcases o21 with _|l68
    ·try dsimp only at g_v75
     obtain⟨r69,e_r69,g_v75⟩:=bnd g_v75
     simp only[Option.some.injEq,Prod.mk.injEq]at g_v75
     obtain⟨rfl,rfl,rfl,rfl⟩:=g_v75
     exact qm.sub (qm.rq fol [4] (kD l (kM r1 (kX r69.1 r69.2 []))) (.cells [.oslice 1 l64.length 4,.nilslice,hsl 3 4 o22]:: .frozen (l64.flatMap qa.c):: .cells ((hof (none:Option (List qb))).flatMap qa.c)::(kU o22 [])) (ac (hs (.callF 69 [.oslice 1 l64.length 4,.nilslice] (.cells [.oslice 1 l64.length 4,.nilslice,hsl 3 4 o22]::(kB l64 (.cells ((hof (none:Option (List qb))).flatMap qa.c)::(kU o22 [])))) [1] (kAv l64 [.nilslice]) (.tuple (kAv r69.1 [.i r69.2]))) (qiy (FzL.cons (Fz.os (E:=qa) rfl rfl (nl rfl)) (FzL.cons (Fz.still (Still.nilslice 11)) FzL.nil)) ((qf.wk (zB N l64 [] e_r69) (WkL.cons (Wk.refl _) (WkL.cons (Wk.nilv (E:=qa)) WkL.nil)))) (Still.tuple (AllST.cons (jV qa _ (nl rfl)) (AllST.cons tI AllST.nil))))) az)) (Sub.norm [1] [some 0,some 3] rfl rfl (.keep (.same (qd qa _)) (.keep (.same (qd qa _)) (.kp (.keep (.same (qd qa _)) (.keep (.same nI) .nil))))) (.kb rfl (.cells (rc (.frz (Fz.osF (E:=qa) rfl rfl (nl rfl)) (qd qa _)) (rc (.nilv) (rc (.hs rfl) rn)))) (.ks .nil)))
    ·try dsimp only at g_v75
     obtain⟨r70,e_r70,g_v75⟩:=bnd g_v75
     simp only[Option.some.injEq,Prod.mk.injEq]at g_v75
     obtain⟨rfl,rfl,rfl,rfl⟩:=g_v75
     exact qm.sub (qm.rq fol [4] (kD l (kM r1 (kX r70.1 r70.2 []))) (.cells [.oslice 1 l64.length 4,.oslice 2 l68.length 4,hsl 3 4 o22]:: .frozen (l64.flatMap qa.c):: .frozen (l68.flatMap qa.c)::(kU o22 [])) (ac (hs (.callF 69 [.oslice 1 l64.length 4,.oslice 2 l68.length 4] (.cells [.oslice 1 l64.length 4,.oslice 2 l68.length 4,hsl 3 4 o22]::(kB l64 (kB l68 (kU o22 [])))) [1,2] (kAv l64 (kAv l68 [])) (.tuple (kAv r70.1 [.i r70.2]))) (qiy (FzL.cons (Fz.os (E:=qa) rfl rfl (nl rfl)) (FzL.cons (Fz.os (E:=qa) rfl rfl (nl rfl)) FzL.nil)) (zB N l64 l68 e_r70) (Still.tuple (AllST.cons (jV qa _ (nl rfl)) (AllST.cons tI AllST.nil))))) az)) (Sub.norm [1,2] [some 0,some 3] rfl rfl (.keep (.same (qd qa _)) (.keep (.same (qd qa _)) (.kp (.keep (.same (qd qa _)) (.keep (.same nI) .nil))))) (.kb rfl (.cells (rc (.frz (Fz.osF (E:=qa) rfl rfl (nl rfl)) (qd qa _)) (rc (.frz (Fz.osF (E:=qa) rfl rfl (nl rfl)) (qd qa _)) (rc (.hs rfl) rn)))) (.ks .nil)))
  intro _ hsub
  try dsimp only at h
  refine Goes.sub hsub ?_
  obtain⟨r76,e_r76,h⟩:=bnd h
  refine sq (gr fol [4] (kD l (kM r1 (kX l73 n74 [(12,vl qa r76.1),(13,.i r76.2)]))) (ac (cv (zB N l72 l71 e_r76)) az) ?_)
  refine sq ?_
  obtain⟨⟨l80,l81,n82⟩,g_v83,h⟩:=bnd h
  refine Goes.cutS (s':=(ofG 257 (kD l (kM r1 (kX l73 n74 [(12,vl qa r76.1),(13,.i r76.2),(14,vl qa l81),(15,.i n82)]))),(kA7 l71 l72 l80))) ?_ ?_
  ·rcases o22 with _|l77
   ·try dsimp only at g_v83
    obtain⟨r78,e_r78,g_v83⟩:=bnd g_v83
    simp only[Option.some.injEq,Prod.mk.injEq]at g_v83
    obtain⟨rfl,rfl,rfl⟩:=g_v83
    exact qm.sub (qm.rq fol [4] (kD l (kM r1 (kX l73 n74 [(12,vl qa r76.1),(13,.i r76.2),(14,vl qa r78.1),(15,.i r78.2)]))) [.cells [vl qa l71,vl qa l72,.nilslice],.cells ((hof (none:Option (List qb))).flatMap qa.c)] (ac (cv ((qf.wk (zB N l72 [] e_r78) (WkL.cons (Wk.refl _) (WkL.cons (Wk.nilv (E:=qa)) WkL.nil))))) az)) (Sub.norm [] [some 0] rfl rfl (.keep (.same (qd qa _)) (.keep (.same (qd qa _)) (.kp (.keep (.same (qd qa _)) (.keep (.same nI) (.keep (.same (qd qa _)) (.keep (.same nI) (.keep (.same (qd qa _)) (.keep (.same nI) .nil))))))))) (.kb rfl (.cells (rc (.same (qd qa _)) (rc (.same (qd qa _)) (rc (.nilv) rn)))) .nil))
   ·try dsimp only at g_v83
    obtain⟨r79,e_r79,g_v83⟩:=bnd g_v83
    simp only[Option.some.injEq,Prod.mk.injEq]at g_v83
    obtain⟨rfl,rfl,rfl⟩:=g_v83
    exact qm.sub (qm.rq fol [4] (kD l (kM r1 (kX l73 n74 [(12,vl qa r76.1),(13,.i r76.2),(14,vl qa r79.1),(15,.i r79.2)]))) [.cells [vl qa l71,vl qa l72,.oslice 1 l77.length 4],.frozen (l77.flatMap qa.c)] (ac (hs (.callF 69 (kAv l72 [.oslice 1 l77.length 4]) (.cells [vl qa l71,vl qa l72,.oslice 1 l77.length 4]::(kB l77 [])) [1] (kAv l72 (kAv l77 [])) (.tuple (kAv r79.1 [.i r79.2]))) (qiy (FzL.cons (Fz.still (jV qa _ (nl rfl))) (FzL.cons (Fz.os (E:=qa) rfl rfl (nl rfl)) FzL.nil)) (zB N l72 l77 e_r79) (Still.tuple (AllST.cons (jV qa _ (nl rfl)) (AllST.cons tI AllST.nil))))) az)) (Sub.norm [1] [some 0] rfl rfl (.keep (.same (qd qa _)) (.keep (.same (qd qa _)) (.kp (.keep (.same (qd qa _)) (.keep (.same nI) (.keep (.same (qd qa _)) (.keep (.same nI) (.keep (.same (qd qa _)) (.keep (.same nI) .nil))))))))) (.kb rfl (.cells (rc (.same (qd qa _)) (rc (.same (qd qa _)) (rc (.frz (Fz.osF (E:=qa) rfl rfl (nl rfl)) (qd qa _)) rn)))) .nil))
  intro _ hsub
  try dsimp only at h
  refine Goes.sub hsub ?_
  refine sq ?_
  refine sq ?_
  obtain⟨b92,g_v93,h⟩:=bnd h
  refine Goes.cut (s':=(ofG 257 (kD l (kM r1 [(10,vl qa l73),(14,vl qa l81),(132,.bool b92)])),(kA7 l71 l72 l80))) ?_ ?_
  ·rcases wyB g_v93 with⟨c84,g_v93⟩|⟨c84,g_v93⟩
   ·obtain rfl:=si g_v93
    exact tr fol [2] (kD l (kM r1 (kAo l73 l81))) (ac (gw c84) az)
   ·rcases wyB g_v93 with⟨c85,g_v93⟩|⟨c85,g_v93⟩
    ·obtain rfl:=si g_v93
     exact tr fol [2,6] (kD l (kM r1 (kAo l73 l81))) (ac (gw c84) (ac (gw c85) az))
    ·rcases wyB g_v93 with⟨c86,g_v93⟩|⟨c86,g_v93⟩
     ·obtain rfl:=si g_v93
      exact tr fol [2,6,10] (kD l (kM r1 (kAo l73 l81))) (ac (gw c84) (ac (gw c85) (ac (gw c86) az)))
     ·obtain⟨r87,e_r87,g_v93⟩:=bnd g_v93
      obtain⟨r88,e_r88,g_v93⟩:=bnd g_v93
      obtain⟨r89,e_r89,g_v93⟩:=bnd g_v93
      rcases wyB g_v93 with⟨c90,g_v93⟩|⟨c90,g_v93⟩
      ·obtain rfl:=si g_v93
       exact tr fol [2,6,10,12,14,15,18] (kD l (kM r1 (kAo l73 l81))) (ac (gw c84) (ac (gw c85) (ac (gw c86) (ac (cv (qF N l73 e_r87)) (ac (cv (qF N r76.1 e_r88)) (ac (cv (qI N r87 r88 e_r89)) (ac (gw c90) az)))))))
      ·rcases wyD g_v93 with⟨c91,g_v93⟩|⟨c91,g_v93⟩
       ·obtain rfl:=si g_v93
        exact tr fol [2,6,10,12,14,15,18,23] (kD l (kM r1 (kAo l73 l81))) (ac (gw c84) (ac (gw c85) (ac (gw c86) (ac (cv (qF N l73 e_r87)) (ac (cv (qF N r76.1 e_r88)) (ac (cv (qI N r87 r88 e_r89)) (ac (gw c90) (ac (gw c91) az))))))))
       ·obtain rfl:=si g_v93
        exact tr fol [2,6,10,12,14,15,18,23] (kD l (kM r1 [(10,vl qa l73),(14,vl qa l81),(132,.bool (decide ((l81.length:Int)>14)))])) (ac (gw c84) (ac (gw c85) (ac (gw c86) (ac (cv (qF N l73 e_r87)) (ac (cv (qF N r76.1 e_r88)) (ac (cv (qI N r87 r88 e_r89)) (ac (gw c90) (ac (gw c91) az))))))))
  refine ihB h (fun c94 h=>?_) (fun c94 h=>?_)
  ·refine sh fol kAf ?_
   refine Goes.ret ?_
   obtain rfl:=si h
   exact(gw2 [.bool false] (FzW.still tB))
  ·refine Goes.skip ?_
   obtain⟨r95,e_r95,h⟩:=bnd h
   refine sq (gr fol [3] (kD l (kM r1 ((14,vl qa l81)::(kBU r95.1 [(17,.i r95.2)])))) (ac (cv (zB N l73 l80 e_r95)) az) ?_)
   obtain⟨r96,e_r96,h⟩:=bnd h
   refine sq (gr fol [3] (kD l (kM r1 (kBU r95.1 [(17,.i r95.2),(18,vl qa r96.1),(19,.i r96.2)]))) (ac (cv (zB N l71 l81 e_r96)) az) ?_)
   obtain⟨r97,e_r97,h⟩:=bnd h
   refine sq (gr fol [2] (kD l (kM r1 (kBU r95.1 [(17,.i r95.2),(18,vl qa r96.1),(19,.i r96.2),(20,vl qa r97.1),(21,.i r97.2)]))) (ac (cv (zB N l l e_r97)) az) ?_)
   obtain⟨r98,e_r98,h⟩:=bnd h
   refine sq (gr fol [2] (kD l (kM r1 (kBU r95.1 [(17,.i r95.2),(18,vl qa r96.1),(19,.i r96.2),(20,vl qa r97.1),(21,.i r97.2),(22,vl qj r98.1),(23,.i r98.2)]))) (ac (cv (qfp N l71 e_r98)) az) ?_)
   refine sq ?_
   refine sq ?_
   obtain⟨b114,g_v115,h⟩:=bnd h
   refine Goes.cut (s':=(ofG 257 (kD l (kM r1 (kBU r95.1 [(22,vl qj r98.1),(199,.bool b114)]))),(kA7 l71 l72 l80))) ?_ ?_
   ·rcases wyB g_v115 with⟨c99,g_v115⟩|⟨c99,g_v115⟩
    ·obtain rfl:=si g_v115
     exact tr fol [2] (kD l (kM r1 (kAS r95.1 r98.1))) (ac (gw c99) az)
    ·rcases wyB g_v115 with⟨c100,g_v115⟩|⟨c100,g_v115⟩
     ·obtain rfl:=si g_v115
      exact tr fol [2,6] (kD l (kM r1 (kAS r95.1 r98.1))) (ac (gw c99) (ac (gw c100) az))
     ·rcases wyB g_v115 with⟨c101,g_v115⟩|⟨c101,g_v115⟩
      ·obtain rfl:=si g_v115
       exact tr fol [2,6,10] (kD l (kM r1 (kAS r95.1 r98.1))) (ac (gw c99) (ac (gw c100) (ac (gw c101) az)))
      ·rcases wyB g_v115 with⟨c102,g_v115⟩|⟨c102,g_v115⟩
       ·obtain rfl:=si g_v115
        exact tr fol [2,6,10,14] (kD l (kM r1 (kAS r95.1 r98.1))) (ac (gw c99) (ac (gw c100) (ac (gw c101) (ac (gw c102) az))))
       ·obtain⟨r103,e_r103,g_v115⟩:=bnd g_v115
        obtain⟨r104,e_r104,g_v115⟩:=bnd g_v115
        rcases wyB g_v115 with⟨c105,g_v115⟩|⟨c105,g_v115⟩
        ·obtain rfl:=si g_v115
         exact tr fol [2,6,10,14,16,18,21] (kD l (kM r1 (kAS r95.1 r98.1))) (ac (gw c99) (ac (gw c100) (ac (gw c101) (ac (gw c102) (ac (cv (qF N r95.1 e_r103)) (ac (cv (qI N r103 r1 e_r104)) (ac (gw c105) az)))))))
        ·obtain⟨r106,e_r106,g_v115⟩:=bnd g_v115
         obtain⟨r107,e_r107,g_v115⟩:=bnd g_v115
         rcases wyB g_v115 with⟨c108,g_v115⟩|⟨c108,g_v115⟩
         ·obtain rfl:=si g_v115
          exact tr fol [2,6,10,14,16,18,21,23,25,28] (kD l (kM r1 (kAS r95.1 r98.1))) (ac (gw c99) (ac (gw c100) (ac (gw c101) (ac (gw c102) (ac (cv (qF N r95.1 e_r103)) (ac (cv (qI N r103 r1 e_r104)) (ac (gw c105) (ac (cv (qF N r96.1 e_r106)) (ac (cv (qI N r106 r1 e_r107)) (ac (gw c108) az))))))))))
         ·obtain⟨r109,e_r109,g_v115⟩:=bnd g_v115
          obtain⟨r110,e_r110,g_v115⟩:=bnd g_v115
          rcases wyB g_v115 with⟨c111,g_v115⟩|⟨c111,g_v115⟩
          ·obtain rfl:=si g_v115
           exact tr fol [2,6,10,14,16,18,21,23,25,28,30,32,35] (kD l (kM r1 (kAS r95.1 r98.1))) (ac (gw c99) (ac (gw c100) (ac (gw c101) (ac (gw c102) (ac (cv (qF N r95.1 e_r103)) (ac (cv (qI N r103 r1 e_r104)) (ac (gw c105) (ac (cv (qF N r96.1 e_r106)) (ac (cv (qI N r106 r1 e_r107)) (ac (gw c108) (ac (cv (qF N r97.1 e_r109)) (ac (cv (qI N r109 r1 e_r110)) (ac (gw c111) az)))))))))))))
          ·obtain⟨r112,e_r112,g_v115⟩:=bnd g_v115
           obtain⟨r113,e_r113,g_v115⟩:=bnd g_v115
           obtain rfl:=si g_v115
           exact tr fol [2,6,10,14,16,18,21,23,25,28,30,32,35,37,38] (kD l (kM r1 (kBU r95.1 [(22,vl qj r98.1),(199,.bool (!decide (r113=0)))]))) (ac (gw c99) (ac (gw c100) (ac (gw c101) (ac (gw c102) (ac (cv (qF N r95.1 e_r103)) (ac (cv (qI N r103 r1 e_r104)) (ac (gw c105) (ac (cv (qF N r96.1 e_r106)) (ac (cv (qI N r106 r1 e_r107)) (ac (gw c108) (ac (cv (qF N r97.1 e_r109)) (ac (cv (qI N r109 r1 e_r110)) (ac (gw c111) (ac (cv (qhn N r98.1 e_r112)) (ac (cv (qdm N r112 e_r113)) az)))))))))))))))
   refine ihB h (fun c116 h=>?_) (fun c116 h=>?_)
   ·refine sh fol kAf ?_
    refine Goes.ret ?_
    obtain rfl:=si h
    exact(gw2 [.bool false] (FzW.still tB))
   ·refine Goes.skip ?_
    obtain⟨r117,e_r117,h⟩:=bnd h
    refine sq (gr fol [2] (kD l (kM r1 (kBU r95.1 [(24,vl qa r117.1),(25,.i r117.2)]))) (ac (cv (qeR N l r98.1 e_r117)) az) ?_)
    refine sq ?_
    refine sq ?_
    obtain⟨b122,g_v123,h⟩:=bnd h
    refine Goes.cut (s':=(ofG 257 (kD l (kM r1 (kBU r95.1 [(24,vl qa r117.1),(218,.bool b122)]))),(kA7 l71 l72 l80))) ?_ ?_
    ·rcases wyB g_v123 with⟨c118,g_v123⟩|⟨c118,g_v123⟩
     ·obtain rfl:=si g_v123
      exact tr fol [2] (kD l (kM r1 (kBU r95.1 [(24,vl qa r117.1),(218,.bool true)]))) (ac (gw c118) az)
     ·obtain⟨r119,e_r119,g_v123⟩:=bnd g_v123
      obtain⟨r120,e_r120,g_v123⟩:=bnd g_v123
      rcases wyB g_v123 with⟨c121,g_v123⟩|⟨c121,g_v123⟩
      ·obtain rfl:=si g_v123
       exact tr fol [2,4,5,8] (kD l (kM r1 (kBU r95.1 [(24,vl qa r117.1),(218,.bool true)]))) (ac (gw c118) (ac (cv (qF N r117.1 e_r119)) (ac (cv (qac N r119 e_r120)) (ac (gw c121) az))))
      ·obtain rfl:=si g_v123
       exact tr fol [2,4,5,8] (kD l (kM r1 (kBU r95.1 [(24,vl qa r117.1),(218,.bool (decide ((r117.1.length:Int)>14)))]))) (ac (gw c118) (ac (cv (qF N r117.1 e_r119)) (ac (cv (qac N r119 e_r120)) (ac (gw c121) az))))
    refine ihB h (fun c124 h=>?_) (fun c124 h=>?_)
    ·refine sh fol kAf ?_
     refine Goes.ret ?_
     obtain rfl:=si h
     exact(gw2 [.bool false] (FzW.still tB))
    ·refine Goes.skip ?_
     obtain⟨r125,e_r125,h⟩:=bnd h
     refine sq (gr fol [3] (kD l ((5,vl qa r1)::(kBU r95.1 [(26,vl qa r125.1),(27,.i r125.2)]))) (ac (cv (zB N l71 r117.1 e_r125)) az) ?_)
     obtain⟨r126,e_r126,h⟩:=bnd h
     refine sq (gr fol [1] (kD l [(5,vl qa r1),(26,vl qa r125.1),(27,.i r125.2),(28,vl zT r126.1),(29,vl qj r126.2.1),(30,.i r126.2.2)]) (ac (cv (qgE N r95.1 e_r126)) az) ?_)
     refine sq ?_
     obtain⟨b134,g_v135,h⟩:=bnd h
     refine Goes.cut (s':=(ofG 257 [(4,.bool b134)],(kA7 l71 l72 l80))) ?_ ?_
     ·rcases wyD g_v135 with⟨c127,g_v135⟩|⟨c127,g_v135⟩
      ·rcases wyD g_v135 with⟨c128,g_v135⟩|⟨c128,g_v135⟩
       ·obtain⟨r129,e_r129,g_v135⟩:=bnd g_v135
        obtain⟨r130,e_r130,g_v135⟩:=bnd g_v135
        rcases wyB g_v135 with⟨c131,g_v135⟩|⟨c131,g_v135⟩
        ·rcases wyD g_v135 with⟨c132,g_v135⟩|⟨c132,g_v135⟩
         ·obtain⟨r133,e_r133,g_v135⟩:=bnd g_v135
          obtain rfl:=si g_v135
          exact tr fol [2,6,8,10,12,22,23] [(4,.bool r133)] (ac (gw c127) (ac (gw c128) (ac (cv (qF N r125.1 e_r129)) (ac (cv (qI N r129 r1 e_r130)) (ac (gw c131) (ac (gw c132) (ac (cv (qnA e_r133)) az)))))))
         ·obtain rfl:=si g_v135
          exact tr fol [2,6,8,10,12,22] kAf (ac (gw c127) (ac (gw c128) (ac (cv (qF N r125.1 e_r129)) (ac (cv (qI N r129 r1 e_r130)) (ac (gw c131) (ac (gw c132) az))))))
        ·obtain rfl:=si g_v135
         exact tr fol [2,6,8,10,12] kAf (ac (gw c127) (ac (gw c128) (ac (cv (qF N r125.1 e_r129)) (ac (cv (qI N r129 r1 e_r130)) (ac (gw c131) az)))))
       ·obtain rfl:=si g_v135
        exact tr fol [2,6] kAf (ac (gw c127) (ac (gw c128) az))
      ·obtain rfl:=si g_v135
       exact tr fol [2] kAf (ac (gw c127) az)
     refine Goes.ret ?_
     obtain rfl:=si h
     exact(gw2 [.bool b134] (FzW.still tB))
end Go.Av
end
noncomputable section
namespace Go.Av
set_option linter.unusedVariables false
structure zw where
 Day:Int
 Slings:List qc
def qbr (N:Nat) (e:qg) (r3:Int×Int×Bool):Nat→Int→Option (Unit⊕Int)
 |0,_=>none
 |K+1,n9=>
  if n9<r3.1 then
  (idx e.Names n9).bind fun x13=>
  (yY N x13).bind fun r14=>
  if(!r14)=true then
  some (.inr 8)
  else
  qbr N e r3 K (w64 (n9+1))
  else
  some (.inl ())
def qbp (e:qg) (r3:Int×Int×Bool):Nat→Int→Option (Unit⊕Int)
 |0,_=>none
 |K+1,n16=>
  if n16<r3.2.1 then
  (idx e.Values n16).bind fun x20=>
  (zS x20 0 999999999).bind fun r21=>
  if r21=true then
  some (.inr 3)
  else
  qbp e r3 K (w64 (n16+1))
  else
  some (.inl ())
def qfn (N:Nat) (e:qg):Option Int:=
 (zS e.Number 1 1000).bind fun r1=>
 if r1=true then
 some 3
 else
 (qa1 e.Kind).bind fun r3=>
 if(!r3.2.2)=true then
 some 13
 else
 (if(!decide ((e.Names.length:Int)=r3.1))=true then
 some true
 else
 some (!decide ((e.Values.length:Int)=r3.2.1)):Option Bool).bind fun b6=>
 if b6=true then
 some 2
 else
 (qbr N e r3 N 0).bind (fun
 |(.inl ())=>
 (qbp e r3 N 0).bind (fun
 |(.inl ())=>
 if(!(e.Text==[]))=true then
 some 1
 else
 some 0
 |(.inr q24)=>
 some q24)
 |(.inr q25)=>
 some q25)
def yL (l2:List qc) (x4:Str):Nat→Int→Int→Option (Int×Int)
 |0,_,_=>none
 |K+1,n8,n9=>
  (if n9<(l2.length:Int)then
  (idx l2 n9).bind fun x14=>
  some (ltL x14.Name x4)
  else
  some false:Option Bool).bind fun b15=>
  if b15=true then
  yL l2 x4 K n8 (w64 (n9+1))
  else
  some (n8,n9)
def yj (e:qg) (x1:Int):Nat→(List qc)→Int→Option (List qc)
 |0,_,_=>none
 |K+1,l23,n24=>
  if n24<(l23.length:Int)then
  (((idx l23 n24).bind fun x30=>
  (idx e.Names 0).bind fun x31=>
  (if(e.Kind==[116,101,115,116])=true then
  some (x30.Name==x31)
  else
  some false:Option Bool).bind fun b33=>
  if b33=true then
  (idx e.Values 1).bind fun x36=>
  (put l23 n24 (⟨x30.Name,x30.Batch,x30.Born,x30.Last,x30.Uses,x30.Used,w64 (x36.tdiv 2),x30.Until,x30.Gone⟩:qc)).bind fun l37=>
  (idx l37 n24).bind fun x38=>
  (put l37 n24 (⟨x38.Name,x38.Batch,x38.Born,x38.Last,x38.Uses,x38.Used,x38.Limit,(if x38.Last<(w64 (x1+365))then x38.Last else(w64 (x1+365))),x38.Gone⟩:qc)).bind fun l39=>
  some l39
  else
  (if(e.Kind==[117,115,101])=true then
  some (x30.Name==x31)
  else
  some false:Option Bool).bind fun b41=>
  if b41=true then
  (put l23 n24 (⟨x30.Name,x30.Batch,x30.Born,x30.Last,x30.Uses,w64 (x30.Used+1),x30.Limit,x30.Until,x30.Gone⟩:qc)).bind fun l44=>
  some l44
  else
  (if(e.Kind==[102,97,105,108])=true then
  some (x30.Name==x31)
  else
  some false:Option Bool).bind fun b46=>
  ((if b46=true then
  some b46
  else
  (if(e.Kind==[114,101,99,97,108,108])=true then
  some (x30.Batch==x31)
  else
  some false:Option Bool).bind fun b52=>
  some b52:Option Bool)).bind fun b48=>
  if b48=true then
  (put l23 n24 (⟨x30.Name,x30.Batch,x30.Born,x30.Last,x30.Uses,x30.Used,x30.Limit,x30.Until,true⟩:qc)).bind fun l55=>
  some l55
  else
  some l23:Option (List qc))).bind fun l28=>
  yj e x1 K l28 (w64 (n24+1))
  else
  some l23
def vH (N:Nat) (r:zw) (e:qg):Option zw:=
 (idx e.Values 0).bind fun x1=>
 (app 88 ([]:List qc) r.Slings).bind fun l2=>
 if(e.Kind==[109,97,107,101])=true then
 (idx e.Names 0).bind fun x4=>
 (idx e.Names 1).bind fun x5=>
 (idx e.Values 1).bind fun x6=>
 (idx e.Values 2).bind fun x7=>
 (yL l2 x4 N (w64 (x1+x6)) 0).bind fun(n10,n11)=>
 (cut l2 0 n11).bind fun s18=>
 (app 88 ([]:List qc) s18).bind fun l19=>
 (app 88 l19 [(⟨x4,x5,x1,n10,x7,0,0,0,false⟩:qc)]).bind fun l20=>
 (cut l2 n11 (l2.length:Int)).bind fun s21=>
 (app 88 l20 s21).bind fun l22=>
 some (⟨x1,l22⟩:zw)
 else
 (yj e x1 N l2 0).bind fun l25=>
 some (⟨x1,l25⟩:zw)
def vL (N:Nat) (l:List qg):Nat→Int→(List qc)→Int→Option (Int×(List qc))
 |0,_,_,_=>none
 |K+1,n1,l2,n3=>
  if n3<(l.length:Int)then
  (idx l n3).bind fun x8=>
  (vH N (⟨n1,l2⟩:zw) x8).bind fun r9=>
  vL N l K r9.Day r9.Slings (w64 (n3+1))
  else
  some (n1,l2)
def yP (N:Nat) (l:List qg):Option zw:=
 (vL N l N 0 ([]:List qc) 0).bind fun(n4,l5)=>
 some (⟨n4,l5⟩:zw)
def qbW (r:zw) (name:Str):Nat→Int→Option (Unit⊕Int)
 |0,_=>none
 |K+1,n1=>
  if n1<(r.Slings.length:Int)then
  (idx r.Slings n1).bind fun x5=>
  if(x5.Name==name)=true then
  some (.inr n1)
  else
  qbW r name K (w64 (n1+1))
  else
  some (.inl ())
def qg2 (N:Nat) (r:zw) (name:Str):Option Int:=
 (qbW r name N 0).bind (fun
 |(.inl ())=>
 some (-1)
 |(.inr q7)=>
 some q7)
def qa6 (s_:qc) (day:Int):Option Bool:=
 (if s_.Gone=true then
 some true
 else
 if day>s_.Last then
 some true
 else
 some (decide (s_.Used=s_.Uses)):Option Bool).bind fun b3=>
 some b3
def qbZ (s_:qc) (day:Int):Option Bool:=
 (if s_.Limit>0 then
 some (decide (day≤s_.Until))
 else
 some false:Option Bool).bind fun b2=>
 some b2
def vX (r:zw) (e:qg) (x1:Int):Nat→Bool→Bool→Int→Option (Bool×Bool)
 |0,_,_,_=>none
 |K+1,b19,b20,n21=>
  if n21<(r.Slings.length:Int)then
  (((idx r.Slings n21).bind fun x29=>
  (idx e.Names 0).bind fun x30=>
  if(x29.Batch==x30)=true then
  (if b20=true then
  some true
  else
  (qa6 x29 x1).bind fun r33=>
  some (!r33):Option Bool).bind fun b34=>
  some (true,b34)
  else
  some (b19,b20):Option (Bool×Bool))).bind fun(b26,b27)=>
  vX r e x1 K b26 b27 (w64 (n21+1))
  else
  some (b19,b20)
def yG (N:Nat) (r:zw) (e:qg):Option Int:=
 (idx e.Values 0).bind fun x1=>
 if x1>99999 then
 some 3
 else
 if x1<r.Day then
 some 19
 else
 (idx e.Names 0).bind fun x4=>
 (qg2 N r x4).bind fun r5=>
 if(e.Kind==[109,97,107,101])=true then
 if r5≥0 then
 some 9
 else
 ((idx e.Values 1).bind fun x8=>
 (zS x8 1 9999).bind fun r9=>
 if r9=true then
 some true
 else
 (idx e.Values 2).bind fun x11=>
 (zS x11 1 9999).bind fun r12=>
 if r12=true then
 some true
 else
 some (decide ((w64 (x1+x8))>99999)):Option Bool).bind fun b14=>
 if b14=true then
 some 3
 else
 if(r.Slings.length:Int)≥256 then
 some 5
 else
 some 0
 else
 if(e.Kind==[114,101,99,97,108,108])=true then
 (vX r e x1 N false false 0).bind fun(b22,b23)=>
 if(!b22)=true then
 some 10
 else
 if(!b23)=true then
 some 20
 else
 some 0
 else
 if r5<0 then
 some 10
 else
 (idx r.Slings r5).bind fun x39=>
 (qa6 x39 x1).bind fun r40=>
 if r40=true then
 some 20
 else
 (if(e.Kind==[116,101,115,116])=true then
 (idx e.Values 1).bind fun x43=>
 (zS x43 2 999999999).bind fun r44=>
 some r44
 else
 some false:Option Bool).bind fun b45=>
 if b45=true then
 some 3
 else
 ((if(e.Kind==[117,115,101])=true then
 (qbZ x39 x1).bind fun r51=>
 if(!r51)=true then
 some (.inr 24)
 else
 (idx e.Values 1).bind fun x53=>
 if x53>x39.Limit then
 some (.inr 31)
 else
 some (.inl ())
 else
 some (.inl ()):Option (Unit⊕Int))).bind (fun
 |(.inl ())=>
 some 0
 |(.inr q55)=>
 some q55)
def qcq (N:Nat) (l:List qg):Nat→(List qg)→Int→Option ((List qg)⊕((List qg)×Int×Int))
 |0,_,_=>none
 |K+1,l1,n2=>
  if n2<(l.length:Int)then
  (((idx l n2).bind fun x10=>
  (qfn N x10).bind fun r11=>
  (if r11=0 then
  some (!decide (x10.Number=(w64 (n2+1))))
  else
  some false:Option Bool).bind fun b13=>
  ((if b13=true then
  some 11
  else
  some r11:Option Int)).bind fun n15=>
  (if n15=0 then
  if(x10.Kind==[117,110,100,111])=true then
  some (decide ((l1.length:Int)=0))
  else
  some false
  else
  some false:Option Bool).bind fun b20=>
  ((if b20=true then
  some 12
  else
  some n15:Option Int)).bind fun n22=>
  (if n22=0 then
  some (!(x10.Kind==[117,110,100,111]))
  else
  some false:Option Bool).bind fun b26=>
  ((if b26=true then
  (yP N l1).bind fun r31=>
  (yG N r31 x10).bind fun r32=>
  some r32
  else
  some n22:Option Int)).bind fun n28=>
  if(!decide (n28=0))=true then
  some (.inr ([],w64 (n2+1),n28))
  else
  if(x10.Kind==[117,110,100,111])=true then
  (cut l1 0 (w64 ((l1.length:Int)-1))).bind fun s35=>
  some (.inl s35)
  else
  (app 88 ([]:List qg) l1).bind fun l36=>
  (app 88 l36 [x10]).bind fun l37=>
  some (.inl l37):Option ((List qg)⊕((List qg)×Int×Int)))).bind (fun
  |(.inl l7)=>
  qcq N l K l7 (w64 (n2+1))
  |(.inr q38)=>
  some (.inr q38))
  else
  some (.inl l1)
def qhu (N:Nat) (l:List qg):Option ((List qg)×Int×Int):=
 (qcq N l N ([]:List qg) 0).bind (fun
 |(.inl l3)=>
 some (l3,0,0)
 |(.inr q39)=>
 some q39)
def qn8 (N:Nat) (l:List qg):Option (zw×Int×Int):=
 if(l.length:Int)>1000 then
 some ((⟨0,[]⟩:zw),0,5)
 else
 (qhu N l).bind fun r2=>
 if(!decide (r2.2.2=0))=true then
 some ((⟨0,[]⟩:zw),r2.2.1,r2.2.2)
 else
 (yP N r2.1).bind fun r4=>
 some (r4,0,0)
end Go.Av
end
