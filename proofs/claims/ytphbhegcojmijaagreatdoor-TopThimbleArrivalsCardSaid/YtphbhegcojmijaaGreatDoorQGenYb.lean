/-
  Walks of functions: what each computes, as a plain function.
-/
import Derived.Test.YtphbhegcojmijaaGreatDoorQGenYa
import Derived.Test.YtphbhegcojmijaaGreatDoorAvAwkC
noncomputable section
namespace Go.Av
open Go.Proofs Go.RowKit
set_option linter.unusedSectionVars false
set_option linter.unusedVariables false
set_option linter.unusedSimpArgs false
set_option maxRecDepth 100000
def vC (a0_:List qf) (a1_:Int) (n1:Int):Nat→Option Unit
 |0=>none
 |K+1=>
  (if n1>a1_ then
  (idx a0_ n1).bind fun x6=>
  (idx a0_ (w64 (n1-1))).bind fun x7=>
  (qdF x6 x7).bind fun r8=>
  some (decide (r8<0))
  else
  some false:Option Bool).bind fun b9=>
  if b9=true then
  none
  else
  some ()
def zn (N:Nat) (a0_:List qf) (a1_:Int) (a2_:Int):Nat→Int→Option Unit
 |0,_=>none
 |K+1,n1=>
  if n1<a2_ then
  (vC a0_ a1_ n1 N).bind fun _=>
  zn N a0_ a1_ a2_ K (w64 (n1+1))
  else
  some ()
def jA (N:Nat) (a0_:List qf) (a1_:Int) (a2_:Int):Option Unit:=
 (zn N a0_ a1_ a2_ N (w64 (a1_+1))).bind fun _=>
 some ()
theorem qbu (N:Nat) (a0_:List qf) (a1_:Int) (a2_:Int) (h:jA N a0_ a1_ a2_=some ()):qj Tryz.prog (.fn 148) (kBI a0_ [.i a1_,.i a2_,.func (.func 68) [] []]) [] (.tuple []) []:=by
 unfold jA at h
 refine Goes.fnH Tryz.func148 rfl rfl (m:=53) rfl (rs:=[]) rfl (l:=(kD a0_ [(1,.i a1_),(2,.i a2_),(3,.func (.func 68) [] [])])) rfl ?_
 intro B hB
 refine Goes.subQ ?_
 refine sh fol (kD a0_ ((1,.i a1_)::(2,.i a2_)::(3,.func (.func 68) [] [])::(kBN (w64 (a1_+1))))) ?_
 refine Goes.block ?_
 obtain⟨r2,g2,h⟩:=bnd h
 refine Goes.imp (Q:=fun x s'=>(x= .exit 0∧()=r2∧Sub s' (ofG 53 [],[]))) ?_ ?_
 ·refine Goes.loopS (fun M s=> ∃(n1:Int),s=(ofG 53 (kD a0_ ((1,.i a1_)::(2,.i a2_)::(3,.func (.func 68) [] [])::(kBN n1))),[])∧zn N a0_ a1_ a2_ M n1=some r2) ?_ (m:=N) ⟨_,rfl,g2⟩
  rintro M s ⟨n1,rfl,g2⟩
  cases M with
  |zero=>simp only[zn]at g2;cases g2
  |succ M=>
   rw[zn]at g2
   refine sq ?_
   refine sh fol (kD a0_ [(1,.i a1_),(2,.i a2_),(3,.func (.func 68) [] []),(8,.i n1),(14,.bool (decide (n1<a2_)))]) ?_
   refine ihD g2 (fun c3 g2=>?_) (fun c3 g2=>?_)
   ·refine Goes.skip ?_
    refine sq (Goes.block ?_)
    refine sh fol (kD a0_ [(1,.i a1_),(2,.i a2_),(3,.func (.func 68) [] []),(8,.i n1),(9,.i n1)]) ?_
    refine Goes.block ?_
    obtain⟨r4,g4,g2⟩:=bnd g2
    refine Goes.imp (Q:=fun x s'=>(x= .exit 2∧()=r4∧Sub s' (ofG 53 (kD a0_ ((1,.i a1_)::(2,.i a2_)::(3,.func (.func 68) [] [])::(kBN n1))),[]))) ?_ ?_
    ·refine Goes.loopS (fun M s=>s=(ofG 53 (kD a0_ [(1,.i a1_),(2,.i a2_),(3,.func (.func 68) [] []),(8,.i n1),(9,.i n1)]),[])∧vC a0_ a1_ n1 M=some r4) ?_ (m:=N) ⟨rfl,g4⟩
     rintro M s ⟨rfl,g4⟩
     cases M with
     |zero=>simp only[vC]at g4;cases g4
     |succ M=>
      rw[vC]at g4
      refine sq ?_
      refine sq ?_
      obtain⟨b9,g_v10,g4⟩:=bnd g4
      refine Goes.cut (s':=(ofG 53 (kD a0_ [(1,.i a1_),(2,.i a2_),(3,.func (.func 68) [] []),(8,.i n1),(9,.i n1),(34,.bool b9)]),[])) ?_ ?_
      ·rcases wyD g_v10 with⟨c5,g_v10⟩|⟨c5,g_v10⟩
       ·obtain⟨x6,e_x6,g_v10⟩:=bnd g_v10
        obtain⟨x7,e_x7,g_v10⟩:=bnd g_v10
        obtain⟨r8,e_r8,g_v10⟩:=bnd g_v10
        obtain rfl:=si g_v10
        exact tr fol [3,7,8,12,13,14] (kD a0_ [(1,.i a1_),(2,.i a2_),(3,.func (.func 68) [] []),(8,.i n1),(9,.i n1),(34,.bool (decide (r8<0)))]) (ac (gw c5) (ac (iv qdD qa e_x6) (ac (la qeK qa e_x6) (ac (iv qdD qa e_x7) (ac (la qeK qa e_x7) (ac (cv (qho x6 x7 e_r8)) az))))))
       ·obtain rfl:=si g_v10
        exact tr fol [3] (kD a0_ [(1,.i a1_),(2,.i a2_),(3,.func (.func 68) [] []),(8,.i n1),(9,.i n1),(34,.bool false)]) (ac (gw c5) az)
      refine ihB g4 (fun c11 g4=>?_) (fun c11 g4=>?_)
      ·cases g4
      ·refine Goes.exit ?_
       obtain rfl:=si g4
       exact⟨rfl,rfl,(Sub.keep [0,1,2,3,8] rfl rfl)⟩
    rintro x s' ⟨rfl,rfl,hsub⟩
    refine Goes.sub hsub ?_
    refine gh fol (kD a0_ ((1,.i a1_)::(2,.i a2_)::(3,.func (.func 68) [] [])::(kBN (w64 (n1+1))))) ?_
    exact⟨M,(ofG 53 (kD a0_ ((1,.i a1_)::(2,.i a2_)::(3,.func (.func 68) [] [])::(kBN (w64 (n1+1))))),[]),Nat.lt_succ_self _,(Sub.refl _),_,rfl,g2⟩
   ·refine Goes.exit ?_
    obtain rfl:=si g2
    exact⟨rfl,rfl,(Sub.keep [] rfl rfl)⟩
 rintro x s' ⟨rfl,rfl,hsub⟩
 exact⟨_,hsub,(gh2 [] (qig.refl _ _))⟩
def zX (N:Nat) (a0_:List qf) (a1_:Int):Nat→Int→Int→Option Int
 |0,_,_=>none
 |K+1,n1,n2=>
  if n2≤a1_ then
  (jA N a0_ n1 n2).bind fun _=>
  zX N a0_ a1_ K n2 (w64 (n2+20))
  else
  some n1
def xy (a1_:Int) (n8:Int):Nat→Option Unit
 |0=>none
 |K+1=>
  if(w64 (2*n8))≤a1_ then
  none
  else
  some ()
def zW (N:Nat) (a1_:Int):Nat→Int→Option Unit
 |0,_=>none
 |K+1,n8=>
  if n8<a1_ then
  (xy a1_ n8 N).bind fun _=>
  ((if(w64 (0+n8))<a1_ then
  none
  else
  some ():Option Unit)).bind fun _=>
  zW N a1_ K (w64 (n8*2))
  else
  some ()
def qaG (N:Nat) (a0_:List qf) (a1_:Int):Option Unit:=
 (zX N a0_ a1_ N 0 20).bind fun n3=>
 (jA N a0_ n3 a1_).bind fun _=>
 (zW N a1_ N 20).bind fun _=>
 some ()
theorem qe8 (N:Nat) (a0_:List qf) (a1_:Int) (h:qaG N a0_ a1_=some ()):qj Tryz.prog (.fn 111) (kBI a0_ [.i a1_,.func (.func 68) [] []]) [] (.tuple []) []:=by
 unfold qaG at h
 refine Goes.fnH Tryz.func111 rfl rfl (m:=63) rfl (rs:=[]) rfl (l:=(kD a0_ [(1,.i a1_),(2,.func (.func 68) [] [])])) rfl ?_
 intro B hB
 refine Goes.subQ ?_
 refine sh fol (kD a0_ ((1,.i a1_)::(2,.func (.func 68) [] [])::(kBj []))) ?_
 refine sh fol (kD a0_ ((1,.i a1_)::(2,.func (.func 68) [] [])::(kBj [(7,.i 0),(8,.i 20)]))) ?_
 refine sq (Goes.block ?_)
 obtain⟨r4,g4,h⟩:=bnd h
 refine Goes.imp (Q:=fun x s'=>(x= .exit 0∧ ∃n3,n3=r4∧Sub s' (ofG 63 (kD a0_ ((1,.i a1_)::(2,.func (.func 68) [] [])::(kBj [(7,.i n3)]))),[]))) ?_ ?_
 ·refine Goes.loopS (fun M s=> ∃(n1:Int) (n2:Int),s=(ofG 63 (kD a0_ ((1,.i a1_)::(2,.func (.func 68) [] [])::(kBj (kAJ n1 n2 [])))),[])∧zX N a0_ a1_ M n1 n2=some r4) ?_ (m:=N) ⟨_,_,rfl,g4⟩
  rintro M s ⟨n1,n2,rfl,g4⟩
  cases M with
  |zero=>simp only[zX]at g4;cases g4
  |succ M=>
   rw[zX]at g4
   refine sq ?_
   refine sh fol (kD a0_ ((1,.i a1_)::(2,.func (.func 68) [] [])::(kBj (kAJ n1 n2 [(13,.bool (decide (n2≤a1_)))])))) ?_
   refine ihD g4 (fun c5 g4=>?_) (fun c5 g4=>?_)
   ·refine Goes.skip ?_
    refine Goes.block ?_
    obtain⟨_,e_r6,g4⟩:=bnd g4
    refine sq (gr fol [4] (kD a0_ ((1,.i a1_)::(2,.func (.func 68) [] [])::(kBj (kBN n2)))) (ac (hs (.callH 148 (kBI a0_ [.i n1,.i n2,.func (.func 68) [] []]) [] [] (.tuple []) []) (xY [] [] (qbu N a0_ n1 n2 e_r6) .nil rfl rfl .nil (rc (.same (qp qa _)) (rc (.same nI) (rc (.same nI) (rc (.same (qK.func sn sn)) rn)))) (.same (qK.tuple sn)) rfl)) az) ?_)
    refine sh fol (kD a0_ ((1,.i a1_)::(2,.func (.func 68) [] [])::(kBj ((7,.i n2)::(kBN n2))))) ?_
    refine gh fol (kD a0_ ((1,.i a1_)::(2,.func (.func 68) [] [])::(kBj (kAJ n2 (w64 (n2+20)) [])))) ?_
    exact⟨M,(ofG 63 (kD a0_ ((1,.i a1_)::(2,.func (.func 68) [] [])::(kBj (kAJ n2 (w64 (n2+20)) [])))),[]),Nat.lt_succ_self _,(Sub.refl _),_,_,rfl,g4⟩
   ·refine Goes.exit ?_
    obtain rfl:=si g4
    exact⟨rfl,_,rfl,(Sub.keep [0,1,2,6,7] rfl rfl)⟩
 rintro x s' ⟨rfl,n3,rfl,hsub⟩
 refine Goes.sub hsub ?_
 obtain⟨_,e_r7,h⟩:=bnd h
 refine sq (gr fol [4] (kD a0_ ((1,.i a1_)::(2,.func (.func 68) [] [])::(kBj []))) (ac (hs (.callH 148 (kBI a0_ [.i n3,.i a1_,.func (.func 68) [] []]) [] [] (.tuple []) []) (xY [] [] (qbu N a0_ n3 a1_ e_r7) .nil rfl rfl .nil (rc (.same (qp qa _)) (rc (.same nI) (rc (.same nI) (rc (.same (qK.func sn sn)) rn)))) (.same (qK.tuple sn)) rfl)) az) ?_)
 refine Goes.block ?_
 obtain⟨r9,g9,h⟩:=bnd h
 refine Goes.imp (Q:=fun x s'=>(x= .exit 2∧()=r9∧Sub s' (ofG 63 [],[]))) ?_ ?_
 ·refine Goes.loopS (fun M s=> ∃(n8:Int),s=(ofG 63 (kD a0_ ((1,.i a1_)::(2,.func (.func 68) [] [])::(kBM n8))),[])∧zW N a1_ M n8=some r9) ?_ (m:=N) ⟨_,rfl,g9⟩
  rintro M s ⟨n8,rfl,g9⟩
  cases M with
  |zero=>simp only[zW]at g9;cases g9
  |succ M=>
   rw[zW]at g9
   refine sq ?_
   refine sh fol (kD a0_ [(1,.i a1_),(2,.func (.func 68) [] []),(6,.i n8),(30,.bool (decide (n8<a1_)))]) ?_
   refine ihD g9 (fun c10 g9=>?_) (fun c10 g9=>?_)
   ·refine Goes.skip ?_
    refine Goes.block ?_
    refine sh fol (kD a0_ ((1,.i a1_)::(2,.func (.func 68) [] [])::(kBB n8 (kBN (w64 (2*n8)))))) ?_
    refine sq (Goes.block ?_)
    obtain⟨r11,g11,g9⟩:=bnd g9
    refine Goes.imp (Q:=fun x s'=>(x= .exit 4∧()=r11∧Sub s' (ofG 63 (kD a0_ ((1,.i a1_)::(2,.func (.func 68) [] [])::(kBB n8 []))),[]))) ?_ ?_
    ·refine Goes.loopS (fun M s=>s=(ofG 63 (kD a0_ ((1,.i a1_)::(2,.func (.func 68) [] [])::(kBB n8 (kBN (w64 (2*n8)))))),[])∧xy a1_ n8 M=some r11) ?_ (m:=N) ⟨rfl,g11⟩
     rintro M s ⟨rfl,g11⟩
     cases M with
     |zero=>simp only[xy]at g11;cases g11
     |succ M=>
      rw[xy]at g11
      refine sq ?_
      refine sh fol (kD a0_ ((1,.i a1_)::(2,.func (.func 68) [] [])::(kBB n8 [(8,.i (w64 (2*n8))),(35,.bool (decide ((w64 (2*n8))≤a1_)))]))) ?_
      refine ihD g11 (fun c12 g11=>?_) (fun c12 g11=>?_)
      ·cases g11
      ·refine Goes.exit ?_
       obtain rfl:=si g11
       exact⟨rfl,rfl,(Sub.keep [0,1,2,6,7] rfl rfl)⟩
    rintro x s' ⟨rfl,rfl,hsub⟩
    refine Goes.sub hsub ?_
    refine sq ?_
    refine sh fol (kD a0_ ((1,.i a1_)::(2,.func (.func 68) [] [])::(kBB n8 [(9,.i (w64 (0+n8)))]))) ?_
    refine sh fol (kD a0_ ((1,.i a1_)::(2,.func (.func 68) [] [])::(kBB n8 [(9,.i (w64 (0+n8))),(54,.bool (decide ((w64 (0+n8))<a1_)))]))) ?_
    obtain⟨r13,g13,g9⟩:=bnd g9
    refine Goes.imp (Q:=fun x s'=>(x= .normal∧()=r13∧Sub s' (ofG 63 (kD a0_ ((1,.i a1_)::(2,.func (.func 68) [] [])::(kBM n8))),[]))) ?_ ?_
    ·refine ihD g13 (fun c14 g13=>?_) (fun c14 g13=>?_)
     ·cases g13
     ·refine Goes.skip ?_
      obtain rfl:=si g13
      exact⟨rfl,rfl,(Sub.keep [0,1,2,6] rfl rfl)⟩
    rintro x s' ⟨rfl,rfl,hsub⟩
    refine Goes.sub hsub ?_
    refine gh fol (kD a0_ ((1,.i a1_)::(2,.func (.func 68) [] [])::(kBM (w64 (n8*2))))) ?_
    exact⟨M,(ofG 63 (kD a0_ ((1,.i a1_)::(2,.func (.func 68) [] [])::(kBM (w64 (n8*2))))),[]),Nat.lt_succ_self _,(Sub.refl _),_,rfl,g9⟩
   ·refine Goes.exit ?_
    obtain rfl:=si g9
    exact⟨rfl,rfl,(Sub.keep [] rfl rfl)⟩
 rintro x s' ⟨rfl,rfl,hsub⟩
 exact⟨_,hsub,(gh2 [] (qig.refl _ _))⟩
def yl (N:Nat) (a0_:List qf):Option Unit:=
 (qaG N a0_ (a0_.length:Int)).bind fun _=>
 some ()
theorem qe2 (N:Nat) (a0_:List qf) (h:yl N a0_=some ()):qj Tryz.prog (.fn 67) (kBI a0_ [.func (.func 68) [] []]) [] (.tuple []) []:=by
 unfold yl at h
 refine Goes.fnH Tryz.func67 rfl rfl (m:=9) rfl (rs:=[]) rfl (l:=(kD a0_ [(1,.func (.func 68) [] [])])) rfl ?_
 intro B hB
 refine Goes.subQ ?_
 obtain⟨_,e_r1,h⟩:=bnd h
 refine gr fol [4] [] (ac (hs (.callH 111 (kBI a0_ [.i (a0_.length:Int),.func (.func 68) [] []]) [] [] (.tuple []) []) (xY [] [] (qe8 N a0_ (a0_.length:Int) e_r1) .nil rfl rfl .nil (rc (.same (qp qa _)) (rc (.same nI) (rc (.same (qK.func sn sn)) rn))) (.same (qK.tuple sn)) rfl)) az) ?_
 exact⟨_,Sub.refl _,(gh2 [] (qig.refl _ _))⟩
def vG (a0_:List qh) (a1_:Option (List StateT)):Option ((Option (List StateT))×Int×(List qg)):=
 ((match a1_ with
 |none=>
 some ((none:Option (List StateT)),decide (0=0))
 |some l4=>
 some ((some l4),decide ((l4.length:Int)=0))):Option ((Option (List StateT))×Bool)).bind fun(o5,b6)=>
 if b6=true then
 some (o5,0,[])
 else
 ((match o5 with
 |none=>
 (idx ([]:List StateT) (w64 (0-1))).bind fun x10=>
 some ((none:Option (List StateT)),x10.register.Day,x10.register.Slings)
 |some l9=>
 (idx l9 (w64 ((l9.length:Int)-1))).bind fun x11=>
 some ((some l9),x11.register.Day,x11.register.Slings)):Option ((Option (List StateT))×Int×(List qg))).bind fun(o12,n13,l14)=>
 some (o12,n13,l14)
theorem qgv (a0_:List qh) (a1_:Option (List StateT)) {o1:Option (List StateT)} {n2:Int} {l3:List qg} (h:vG a0_ a1_=some (o1,n2,l3)):qj Tryz.prog (.fn 44) [.ptr 0 0] (kA a0_ a1_ []) (.agg (kBG n2 l3)) (kA a0_ o1 []):=by
 unfold vG at h
 refine Goes.fnH Tryz.func44 rfl rfl (m:=23) rfl (rs:=[.cell 2 47]) rfl (l:=[(0,.ptr 0 0)]) rfl ?_
 intro B hB
 refine sg fol [(0,.ptr 0 0),(2,.ptr 3 0)] (kA a0_ a1_ [bZ]) ?_
 refine sq ?_
 refine sq ?_
 obtain⟨⟨o5,b6⟩,g_v7,h⟩:=bnd h
 refine Goes.cutS (s':=(ofG 23 [(0,.ptr 0 0),(2,.ptr 3 0),(8,.bool b6)],(kA a0_ o5 [bZ]))) ?_ ?_
 ·rcases a1_ with _|l4
  ·try dsimp only at g_v7
   simp only[Option.some.injEq,Prod.mk.injEq]at g_v7
   obtain⟨rfl,rfl⟩:=g_v7
   exact qW.sub (qW.rg fol [(0,.ptr 0 0),(2,.ptr 3 0),(8,.bool (decide (0=0)))] (kBf a0_ (kAM a0_ [.cells ((hof (none:Option (List StateT))).flatMap qac.c),bZ]))) (Sub.norm [] [some 0,some 1,some 2,some 3] (by rw[hB];rfl) rfl (.kp (.kp (.keep (.same nB) .nil))) (.kb rfl (.cells (rc (.gslice rfl) (rc .hs0 rn))) (.ks (.ks (.kb rfl (.same sn) .nil)))))
  ·try dsimp only at g_v7
   simp only[Option.some.injEq,Prod.mk.injEq]at g_v7
   obtain⟨rfl,rfl⟩:=g_v7
   exact qW.sub (qW.rg fol [(0,.ptr 0 0),(2,.ptr 3 0),(8,.bool (decide ((l4.length:Int)=0)))] (kP a0_ l4 (kAP l4 [bZ]))) (Sub.norm [] [some 0,some 1,some 2,some 3] (by rw[hB];rfl) rfl (.kp (.kp (.keep (.same nB) .nil))) (.kb rfl (.cells (rc (.gslice rfl) (rc ((xw.hs1 rfl)) rn))) (.ks (.ks (.kb rfl (.same sn) .nil)))))
 intro _ hsub
 try dsimp only at h
 refine Goes.sub hsub ?_
 refine ihB h (fun c8 h=>?_) (fun c8 h=>?_)
 ·refine sh fol [(2,.ptr 3 0)] ?_
  refine Goes.ret ?_
  simp only[Option.some.injEq,Prod.mk.injEq]at h
  obtain⟨rfl,rfl,rfl⟩:=h
  exact(gh2 [.agg [.i 0,.nilslice]] (Sub.norm [] [some 0,some 1,some 2] (by rw[hB];rfl) rfl (.keep (.aggL (rc (.same nI) (rc (.nilv) rn))) .nil) (.kb rfl (.cells (rc (.gslice rfl) (rc (.hs rfl) rn))) (.ks (.ks .nil)))))
 ·refine Goes.skip ?_
  refine sq ?_
  obtain⟨⟨o12,n13,l14⟩,g_v15,h⟩:=bnd h
  refine Goes.cutS (s':=(ofG 23 [(2,.ptr 3 0)],(kA a0_ o12 (kZ n13 l14 [])))) ?_ ?_
  ·rcases o5 with _|l9
   ·try dsimp only at g_v15
    obtain⟨x10,e_x10,g_v15⟩:=bnd g_v15
    simp only[Option.some.injEq,Prod.mk.injEq]at g_v15
    obtain⟨rfl,rfl,rfl⟩:=g_v15
    exact qW.sub (qW.rq fol [10,12] [(2,.ptr 3 0)] (kBf a0_ (kAM a0_ (.cells ((hof (none:Option (List StateT))).flatMap qac.c)::(kZ x10.register.Day x10.register.Slings [])))) (ac (hs (.done (.opt (zQ Tryz.prog 130 (.nilslice) (.i (w64 (0-1))))) (.fptr (([]:List StateT).flatMap qac.c) ((w64 (0-1):Int).toNat*3+0))) (qxN e_x10)) (ac (hs (.done (qbo Tryz.prog 47 (.fptr (([]:List StateT).flatMap qac.c) ((w64 (0-1):Int).toNat*3+1))) (.agg (kBG x10.register.Day x10.register.Slings))) (ld_vp ag47 (E:=qac) rfl e_x10 rfl rfl)) az))) (Sub.norm [] [some 0,some 1,some 2,some 3] (by rw[hB];rfl) rfl (.kp .nil) (.kb rfl (.cells (rc (.gslice rfl) (rc .hs0 rn))) (.ks (.ks (.kb rfl (.same sn) .nil)))))
   ·try dsimp only at g_v15
    obtain⟨x11,e_x11,g_v15⟩:=bnd g_v15
    simp only[Option.some.injEq,Prod.mk.injEq]at g_v15
    obtain⟨rfl,rfl,rfl⟩:=g_v15
    exact qW.sub (qW.rq fol [10,12] [(2,.ptr 3 0)] (kP a0_ l9 (kAP l9 (kZ x11.register.Day x11.register.Slings []))) (ac (hs (.done (.opt (zQ Tryz.prog 130 (.oslice 2 l9.length 3) (.i (w64 ((l9.length:Int)-1))))) (.ptr 2 ((w64 ((l9.length:Int)-1):Int).toNat*3+0))) (qnr qs6 e_x11)) (ac (hs (.run [2] (qbo Tryz.prog 47 (.ptr 2 ((w64 ((l9.length:Int)-1):Int).toNat*3+1))) (kP a0_ l9 (kAP l9 [bZ])) (.agg (kBG x11.register.Day x11.register.Slings)) (kP a0_ l9 (kAP l9 [bZ])) false) (ld_pp ag47 (E:=qac) (l:=l9) rfl rfl e_x11 rfl rfl)) az))) (Sub.norm [] [some 0,some 1,some 2,some 3] (by rw[hB];rfl) rfl (.kp .nil) (.kb rfl (.cells (rc (.gslice rfl) (rc ((xw.hs1 rfl)) rn))) (.ks (.ks (.kb rfl (.same sn) .nil)))))
  intro _ hsub
  try dsimp only at h
  refine Goes.sub hsub ?_
  refine Goes.ret ?_
  simp only[Option.some.injEq,Prod.mk.injEq]at h
  obtain⟨rfl,rfl,rfl⟩:=h
  exact(gh2 [.agg (kBG n13 l14)] (Sub.norm [] [some 0,some 1,some 2] (by rw[hB];rfl) rfl (.keep (.aggL (rc (.same nI) (rc (.same (qp qo _)) rn))) .nil) (.kb rfl (.cells (rc (.gslice rfl) (rc (.hs rfl) rn))) (.ks (.ks .nil)))))
def qH (a0_:Int) (a1_:List qg):Option (List qg):=
 (mk 88 (a1_.length:Int) (⟨[],[],0,0,0,0,0,0,false⟩:qg)).bind fun l2=>
 (some (cpy l2 a1_)).bind fun l3=>
 some l3
theorem yT (a0_:Int) (a1_:List qg) {l1:List qg} (h:qH a0_ a1_=some l1):qj Tryz.prog (.fn 49) [.agg (kBG a0_ a1_)] [] (.agg [.i a0_,.slice 0 0 l1.length l1.length 9]) [bS l1]:=by
 unfold qH at h
 refine Goes.fnH Tryz.func49 rfl rfl (m:=16) rfl (rs:=[.cell 2 47]) rfl (l:=[(0,.agg [.i a0_,vl qo a1_])]) rfl ?_
 intro B hB
 refine sg fol (kAR kBT) (kZ a0_ a1_ [bZ]) ?_
 obtain⟨l2,e_l2,h⟩:=bnd h
 refine sq (gq fol [3] (kAR (kA3 l2)) (kZ a0_ a1_ [bZ,bS l2]) (ac (hs (.run [] (qdL Tryz.prog 45 (.i (a1_.length:Int)) (.i (a1_.length:Int))) (kZ a0_ a1_ [bZ]) (.slice 2 0 l2.length l2.length 9) (kZ a0_ a1_ [bZ,bS l2]) false) (qr4 qh3 (E:=qo) (z:=(⟨[],[],0,0,0,0,0,0,false⟩:qg)) rfl (by kernel_rfl) e_l2 rfl)) az) ?_)
 obtain⟨l3,e_l3,h⟩:=bnd h
 refine sq (gq fol [3] (kAR (kA3 l2)) (kZ a0_ a1_ [bZ,bS l3]) (ac (hs (.run [2] (qhc Tryz.prog [45,45] (.slice 2 0 l2.length l2.length 9) (vl qo a1_)) (kZ a0_ a1_ [bZ,bS l2]) (.i ((Nat.min a1_.length l2.length:Nat):Int)) (kZ a0_ a1_ [bZ,bS l3]) true) (qsk qh3 (E:=qo) (l:=l2) rfl (qkM (E:=qo) rfl _) (.inl rfl) rfl rfl e_l3 rfl)) az) ?_)
 refine Goes.sub (show Sub (ofG 16 (kAR (kA3 l2)),(kZ a0_ a1_ [bZ,bS l3])) (ofG 16 (kAR (kA3 l3)),(kZ a0_ a1_ [bZ,bS l3]))from(Sub.norm [] [some 0,some 1,some 2] (by rw[hB];rfl) rfl (.kp (.kp (.keep (.sliceE rfl (qod e_l3)) .nil))) (.kb rfl (.same sn) (.kb rfl (.same sn) (.ks .nil))))) ?_
 refine sg fol kBT (kZ a0_ a1_ [.cells [.i a0_,.slice 2 0 l3.length l3.length 9],bS l3]) ?_
 refine Goes.ret ?_
 obtain rfl:=si h
 exact(gh2 [.agg [.i a0_,.slice 2 0 l3.length l3.length 9]] (Sub.norm [] [some 2] (by rw[hB];rfl) rfl (.keep (.aggL (rc (.same nI) (rc (.slice rfl) rn))) .nil) (.ks .nil)))
def qa0 (a0_:List qg) (a1_:Int) (a2_:Str) (a3_:Str) (a4_:Int) (a5_:Int) (a6_:Int) (a7_:Int) (a8_:Int) (a9_:Int) (a10_:Bool):Option (List qg):=
 (at' a0_ a1_).bind fun j2=>
 if 1=0 then
 some a0_
 else
 if a1_=(a0_.length:Int)then
 ((match a0_ with
 |[]=>
 some ([(⟨a2_,a3_,a4_,a5_,a6_,a7_,a8_,a9_,a10_⟩:qg)]:List qg)
 |x5::xs6=>
 (app 88 (x5::xs6) [(⟨a2_,a3_,a4_,a5_,a6_,a7_,a8_,a9_,a10_⟩:qg)]).bind fun l7=>
 some l7):Option (List qg)).bind fun l8=>
 some l8
 else
 if(w64 ((a0_.length:Int)+1))>(a0_.length:Int)then
 (qtG 88 a0_ j2 (w64 ((w64 ((a0_.length:Int)+1))-a1_)) (⟨[],[],0,0,0,0,0,0,false⟩:qg)).bind fun l11=>
 (if a1_=0 then
 (some (cpy l11 ([(⟨a2_,a3_,a4_,a5_,a6_,a7_,a8_,a9_,a10_⟩:qg)]:List qg))).bind fun l13=>
 some l13
 else
 (at' l11 a1_).bind fun j14=>
 ((if j14<l11.length then some ()else none:Option Unit)).bind fun u15=>
 (some (qme l11 j14 ([(⟨a2_,a3_,a4_,a5_,a6_,a7_,a8_,a9_,a10_⟩:qg)]:List qg))).bind fun l16=>
 some l16:Option (List qg)).bind fun l17=>
 (if(w64 (a1_+1))=0 then
 (some (cpy l17 (a0_.drop j2))).bind fun l20=>
 some l20
 else
 (at' l17 (w64 (a1_+1))).bind fun j21=>
 ((if j21<l17.length then some ()else none:Option Unit)).bind fun u22=>
 (some (qme l17 j21 (a0_.drop j2))).bind fun l23=>
 some l23:Option (List qg)).bind fun l24=>
 some l24
 else
 none
theorem qg9 (a0_:List qg) (a1_:Int) (a2_:Str) (a3_:Str) (a4_:Int) (a5_:Int) (a6_:Int) (a7_:Int) (a8_:Int) (a9_:Int) (a10_:Bool) {l1:List qg} (h:qa0 a0_ a1_ a2_ a3_ a4_ a5_ a6_ a7_ a8_ a9_ a10_=some l1):qj Tryz.prog (.fn 165) [.slice 0 0 a0_.length a0_.length 9,.i a1_,.slice 1 0 1 1 9] [bS a0_,.cells (cT a2_ a3_ a4_ a5_ a6_ a7_ a8_ a9_ a10_)] (vl qo l1) [.dead,.cells (cT a2_ a3_ a4_ a5_ a6_ a7_ a8_ a9_ a10_)]:=by
 unfold qa0 at h
 refine Goes.fnH Tryz.func165 rfl rfl (m:=95) rfl (rs:=[.tmp 6]) rfl (l:=(kU a0_ a1_ [(2,.slice 1 0 1 1 9)])) rfl ?_
 intro B hB
 refine sh fol (kU a0_ a1_ [(2,.slice 1 0 1 1 9)]) ?_
 obtain⟨j2,e_j2,h⟩:=bnd h
 refine sq (gr fol [2] (kU a0_ a1_ [(2,.slice 1 0 1 1 9)]) (ac (hs (.done (.opt (yf Tryz.prog 45 (.slice 0 0 a0_.length a0_.length 9) (some (.i a1_)) none none)) (qmp 0 9 a0_.length j2)) (qoZ qh3 e_j2)) az) ?_)
 refine sh fol (kU a0_ a1_ (kA4 [])) ?_
 refine sq ?_
 refine sh fol (kU a0_ a1_ (kA4 [(16,.bool (decide (1=0)))])) ?_
 refine ihD h (fun c3 h=>?_) (fun c3 h=>?_)
 ·refine sh fol [(6,.slice 0 0 a0_.length a0_.length 9)] ?_
  refine Goes.ret ?_
  obtain rfl:=si h
  exact(gh2 [.slice 0 0 a0_.length a0_.length 9] (Sub.norm [0] [some 0,some 1] (by rw[hB];rfl) rfl (.keep (.frz (Fz.sl (E:=qo) rfl rfl (nl rfl)) (qp qo _)) .nil) (.lost (.kb rfl (.same sn) .nil))))
 ·refine Goes.skip ?_
  refine sh fol (kU a0_ a1_ (kA4 (kBN (a0_.length:Int)))) ?_
  refine sq ?_
  refine sh fol (kU a0_ a1_ (kA4 [(8,.i (a0_.length:Int)),(22,.bool (decide (a1_=(a0_.length:Int))))])) ?_
  refine ihD h (fun c4 h=>?_) (fun c4 h=>?_)
  ·refine sq ?_
   obtain⟨l8,g_v9,h⟩:=bnd h
   refine Goes.cutS (s':=(ofG 95 [(6,.oslice 2 l8.length 9)],[.dead,.cells (cT a2_ a3_ a4_ a5_ a6_ a7_ a8_ a9_ a10_),bS l8])) ?_ ?_
   ·rcases a0_ with _|⟨x5,xs6⟩
    ·try dsimp only at g_v9
     obtain rfl:=si g_v9
     exact qW.sub (qW.rg fol [(6,.oslice 2 1 9)] [.dead,.cells (cT a2_ a3_ a4_ a5_ a6_ a7_ a8_ a9_ a10_),.cells (cT a2_ a3_ a4_ a5_ a6_ a7_ a8_ a9_ a10_)]) (Sub.norm [] [some 0,some 1,some 2] (by rw[hB];rfl) rfl (.keep (xw.osliceE rfl rfl) .nil) (.lost (.kb rfl (.same sn) (.ks .nil))))
    ·try dsimp only at g_v9
     obtain⟨l7,e_l7,g_v9⟩:=bnd g_v9
     obtain rfl:=si g_v9
     exact qW.sub (qW.rq fol [2] [(6,.oslice 2 l7.length 9)] [.cells ((x5::xs6).flatMap qo.c),.cells (cT a2_ a3_ a4_ a5_ a6_ a7_ a8_ a9_ a10_),bS l7] (ac (hs (.run [0,1] (jL Tryz.prog [45,45] (.slice 0 0 (x5::xs6).length (x5::xs6).length 9) (.slice 1 0 1 1 9)) [.cells ((x5::xs6).flatMap qo.c),.cells (cT a2_ a3_ a4_ a5_ a6_ a7_ a8_ a9_ a10_)] (.oslice 2 l7.length 9) [.cells ((x5::xs6).flatMap qo.c),.cells (cT a2_ a3_ a4_ a5_ a6_ a7_ a8_ a9_ a10_),bS l7] false) (qxf qh3 (E:=qo) (l:=(x5::xs6)) (ys:=[(⟨a2_,a3_,a4_,a5_,a6_,a7_,a8_,a9_,a10_⟩:qg)]) rfl rfl rfl rfl rfl rfl rfl rfl e_l7 rfl)) az)) (Sub.norm [] [some 0,some 1,some 2] (by rw[hB];rfl) rfl (.keep (.oslice rfl) .nil) (.lost (.kb rfl (.same sn) (.ks .nil))))
   intro _ hsub
   refine Goes.sub hsub ?_
   refine Goes.ret ?_
   obtain rfl:=si h
   exact(gh2 [.oslice 2 l8.length 9] (Sub.norm [2] [some 0,some 1] (by rw[hB];rfl) rfl (.keep (.frz (Fz.os (E:=qo) rfl rfl (nl rfl)) (qp qo _)) .nil) (.lost (.kb rfl (.same sn) .nil))))
  ·refine Goes.skip ?_
   refine sq ?_
   refine sh fol (kU a0_ a1_ (kA4 [(8,.i (a0_.length:Int)),(31,.bool (decide ((w64 ((a0_.length:Int)+1))>(a0_.length:Int))))])) ?_
   refine ihD h (fun c10 h=>?_) (fun c10 h=>?_)
   ·obtain⟨l11,e_l11,h⟩:=bnd h
    refine sq (gq fol [2,8] (kU a0_ a1_ (kA4 (kAQ l11))) (kAg a0_ a2_ a3_ a4_ a5_ a6_ a7_ a8_ a9_ a10_ l11) (ac (hs (.done (.opt (yf Tryz.prog 45 (.slice 0 0 a0_.length a0_.length 9) none (some (.i a1_)) none)) (.slice 0 0 j2 a0_.length 9)) (qxS qh3 e_j2)) (ac (hs (.run [0] (jL Tryz.prog [45,3] (.slice 0 0 j2 a0_.length 9) (.i (w64 ((w64 ((a0_.length:Int)+1))-a1_)))) [bS a0_,.cells (cT a2_ a3_ a4_ a5_ a6_ a7_ a8_ a9_ a10_)] (.oslice 2 l11.length 9) (kAg a0_ a2_ a3_ a4_ a5_ a6_ a7_ a8_ a9_ a10_ l11) false) (qwv qh3 it3 (E:=qo) rfl (z:=(⟨[],[],0,0,0,0,0,0,false⟩:qg)) (by kernel_rfl) rfl rfl e_l11 rfl)) az)) ?_)
    refine sq ?_
    obtain⟨l17,g_v18,h⟩:=bnd h
    refine Goes.cutS (s':=(ofG 95 (kU a0_ a1_ ((7,.i 1)::(kAQ l17))),(kAg a0_ a2_ a3_ a4_ a5_ a6_ a7_ a8_ a9_ a10_ l17))) ?_ ?_
    ·rcases wyD g_v18 with⟨c12,g_v18⟩|⟨c12,g_v18⟩
     ·obtain⟨l13,e_l13,g_v18⟩:=bnd g_v18
      obtain rfl:=si g_v18
      exact qW.sub (qW.rq fol [2,4] (kU a0_ a1_ ((7,.i 1)::(kAQ l11))) (kAg a0_ a2_ a3_ a4_ a5_ a6_ a7_ a8_ a9_ a10_ l13) (ac (hs (.done (.opt (yf Tryz.prog 45 (.oslice 2 l11.length 9) (some (.i a1_)) none none)) (.oslice 2 l11.length 9)) (qti qh3 (ot c12))) (ac (hs (.run [2,1] (qhc Tryz.prog [45,45] (.oslice 2 l11.length 9) (.slice 1 0 1 1 9)) (kAg a0_ a2_ a3_ a4_ a5_ a6_ a7_ a8_ a9_ a10_ l11) (.i ((Nat.min ([(⟨a2_,a3_,a4_,a5_,a6_,a7_,a8_,a9_,a10_⟩:qg)]:List qg).length l11.length:Nat):Int)) (kAg a0_ a2_ a3_ a4_ a5_ a6_ a7_ a8_ a9_ a10_ l13) true) (qsk qh3 (E:=qo) (l:=l11) rfl (qfQ (E:=qo) (ys:=([(⟨a2_,a3_,a4_,a5_,a6_,a7_,a8_,a9_,a10_⟩:qg)]:List qg)) rfl rfl rfl rfl) (.inr rfl) rfl rfl e_l13 rfl)) az))) ((show Sub (ofG 95 (kU a0_ a1_ ((7,.i 1)::(kAQ l11))),(kAg a0_ a2_ a3_ a4_ a5_ a6_ a7_ a8_ a9_ a10_ l13)) (ofG 95 (kU a0_ a1_ ((7,.i 1)::(kAQ l13))),(kAg a0_ a2_ a3_ a4_ a5_ a6_ a7_ a8_ a9_ a10_ l13))from(Sub.norm [] [some 0,some 1,some 2] (by rw[hB];rfl) rfl (.keep (.slice rfl) (.keep (.same nI) (.keep (.same nI) (.keep (.osliceE rfl (qod e_l13)) .nil)))) (.ks (.kb rfl (.same sn) (.ks .nil))))).trans (Sub.refl _))
     ·obtain⟨j14,e_j14,g_v18⟩:=bnd g_v18
      obtain⟨u15,e_u15,g_v18⟩:=bnd g_v18
      obtain⟨l16,e_l16,g_v18⟩:=bnd g_v18
      obtain rfl:=si g_v18
      exact qW.sub (qW.rq fol [2,4] (kU a0_ a1_ ((7,.i 1)::(kAQ l11))) (kAg a0_ a2_ a3_ a4_ a5_ a6_ a7_ a8_ a9_ a10_ l16) (ac (hs (.done (.opt (yf Tryz.prog 45 (.oslice 2 l11.length 9) (some (.i a1_)) none none)) (.wslice 2 (j14*9) (l11.length-j14) 9)) (qq7 qh3 (of_decide_eq_false c12) e_j14 (qs7 e_u15))) (ac (hs (.run [2,1] (qhc Tryz.prog [45,45] (.wslice 2 (j14*9) (l11.length-j14) 9) (.slice 1 0 1 1 9)) (kAg a0_ a2_ a3_ a4_ a5_ a6_ a7_ a8_ a9_ a10_ l11) (.i ((Nat.min ([(⟨a2_,a3_,a4_,a5_,a6_,a7_,a8_,a9_,a10_⟩:qg)]:List qg).length (l11.length-j14):Nat):Int)) (kAg a0_ a2_ a3_ a4_ a5_ a6_ a7_ a8_ a9_ a10_ l16) true) (qtt qh3 (E:=qo) rfl (l:=l11) (qfQ (E:=qo) (ys:=([(⟨a2_,a3_,a4_,a5_,a6_,a7_,a8_,a9_,a10_⟩:qg)]:List qg)) rfl rfl rfl rfl) (qp2 e_j14) rfl rfl e_l16 rfl)) az))) ((show Sub (ofG 95 (kU a0_ a1_ ((7,.i 1)::(kAQ l11))),(kAg a0_ a2_ a3_ a4_ a5_ a6_ a7_ a8_ a9_ a10_ l16)) (ofG 95 (kU a0_ a1_ ((7,.i 1)::(kAQ l16))),(kAg a0_ a2_ a3_ a4_ a5_ a6_ a7_ a8_ a9_ a10_ l16))from(Sub.norm [] [some 0,some 1,some 2] (by rw[hB];rfl) rfl (.keep (.slice rfl) (.keep (.same nI) (.keep (.same nI) (.keep (.osliceE rfl (qqm (qp2 e_j14) e_l16)) .nil)))) (.ks (.kb rfl (.same sn) (.ks .nil))))).trans (Sub.refl _))
    intro _ hsub
    refine Goes.sub hsub ?_
    refine sq ?_
    obtain⟨l24,g_v25,h⟩:=bnd h
    refine Goes.cutS (s':=(ofG 95 (kAQ l24),(kAg a0_ a2_ a3_ a4_ a5_ a6_ a7_ a8_ a9_ a10_ l24))) ?_ ?_
    ·rcases wyD g_v25 with⟨c19,g_v25⟩|⟨c19,g_v25⟩
     ·obtain⟨l20,e_l20,g_v25⟩:=bnd g_v25
      obtain rfl:=si g_v25
      exact qW.sub (qW.rq fol [4,7,8] (kAQ l17) (kAg a0_ a2_ a3_ a4_ a5_ a6_ a7_ a8_ a9_ a10_ l20) (ac (hs (.done (.opt (yf Tryz.prog 45 (.oslice 2 l17.length 9) (some (.i (w64 (a1_+1)))) none none)) (.oslice 2 l17.length 9)) (qti qh3 (ot c19))) (ac (hs (.done (.opt (yf Tryz.prog 45 (.slice 0 0 a0_.length a0_.length 9) (some (.i a1_)) none none)) (qmp 0 9 a0_.length j2)) (qoZ qh3 e_j2)) (ac (hs (.run [2,0] (qhc Tryz.prog [45,45] (.oslice 2 l17.length 9) (qmp 0 9 a0_.length j2)) (kAg a0_ a2_ a3_ a4_ a5_ a6_ a7_ a8_ a9_ a10_ l17) (.i ((Nat.min (a0_.drop j2).length l17.length:Nat):Int)) (kAg a0_ a2_ a3_ a4_ a5_ a6_ a7_ a8_ a9_ a10_ l20) true) (qsk qh3 (E:=qo) (l:=l17) rfl (qp9 (E:=qo) rfl rfl rfl (qp2 e_j2)) (.inr rfl) rfl rfl e_l20 rfl)) az)))) ((show Sub (ofG 95 (kAQ l17),(kAg a0_ a2_ a3_ a4_ a5_ a6_ a7_ a8_ a9_ a10_ l20)) (ofG 95 (kAQ l20),(kAg a0_ a2_ a3_ a4_ a5_ a6_ a7_ a8_ a9_ a10_ l20))from(Sub.norm [] [some 0,some 1,some 2] (by rw[hB];rfl) rfl (.keep (.osliceE rfl (qod e_l20)) .nil) (.ks (.kb rfl (.same sn) (.ks .nil))))).trans (Sub.refl _))
     ·obtain⟨j21,e_j21,g_v25⟩:=bnd g_v25
      obtain⟨u22,e_u22,g_v25⟩:=bnd g_v25
      obtain⟨l23,e_l23,g_v25⟩:=bnd g_v25
      obtain rfl:=si g_v25
      exact qW.sub (qW.rq fol [4,7,8] (kAQ l17) (kAg a0_ a2_ a3_ a4_ a5_ a6_ a7_ a8_ a9_ a10_ l23) (ac (hs (.done (.opt (yf Tryz.prog 45 (.oslice 2 l17.length 9) (some (.i (w64 (a1_+1)))) none none)) (.wslice 2 (j21*9) (l17.length-j21) 9)) (qq7 qh3 (of_decide_eq_false c19) e_j21 (qs7 e_u22))) (ac (hs (.done (.opt (yf Tryz.prog 45 (.slice 0 0 a0_.length a0_.length 9) (some (.i a1_)) none none)) (qmp 0 9 a0_.length j2)) (qoZ qh3 e_j2)) (ac (hs (.run [2,0] (qhc Tryz.prog [45,45] (.wslice 2 (j21*9) (l17.length-j21) 9) (qmp 0 9 a0_.length j2)) (kAg a0_ a2_ a3_ a4_ a5_ a6_ a7_ a8_ a9_ a10_ l17) (.i ((Nat.min (a0_.drop j2).length (l17.length-j21):Nat):Int)) (kAg a0_ a2_ a3_ a4_ a5_ a6_ a7_ a8_ a9_ a10_ l23) true) (qtt qh3 (E:=qo) rfl (l:=l17) (qp9 (E:=qo) rfl rfl rfl (qp2 e_j2)) (qp2 e_j21) rfl rfl e_l23 rfl)) az)))) ((show Sub (ofG 95 (kAQ l17),(kAg a0_ a2_ a3_ a4_ a5_ a6_ a7_ a8_ a9_ a10_ l23)) (ofG 95 (kAQ l23),(kAg a0_ a2_ a3_ a4_ a5_ a6_ a7_ a8_ a9_ a10_ l23))from(Sub.norm [] [some 0,some 1,some 2] (by rw[hB];rfl) rfl (.keep (.osliceE rfl (qqm (qp2 e_j21) e_l23)) .nil) (.ks (.kb rfl (.same sn) (.ks .nil))))).trans (Sub.refl _))
    intro _ hsub
    refine Goes.sub hsub ?_
    refine sh fol [(6,.oslice 2 l24.length 9)] ?_
    refine Goes.ret ?_
    obtain rfl:=si h
    exact(gh2 [.oslice 2 l24.length 9] (Sub.norm [2] [some 0,some 1] (by rw[hB];rfl) rfl (.keep (.frz (Fz.os (E:=qo) rfl rfl (nl rfl)) (qp qo _)) .nil) (.lost (.kb rfl (.same sn) .nil))))
   ·cases h
def qdT (N:Nat) (a0_:Int) (a1_:List qg) (a2_:Int) (a3_:Str) (a4_:List Str) (a5_:List Int) (a6_:Str):Option ((List qg)×Int):=
 (idx a5_ 0).bind fun x3=>
 (idx a5_ 1).bind fun x4=>
 (idx a5_ 2).bind fun x5=>
 (idx a4_ 0).bind fun x6=>
 (qaW N (⟨a0_,a1_⟩:qcE) x6).bind fun r7=>
 (za r7.2 9).bind fun r8=>
 (vY x4 1 9999).bind fun r9=>
 (vY x5 1 9999).bind fun r10=>
 (qcf (w64 (x3+x4))).bind fun r11=>
 (za (decide ((a1_.length:Int)≥256)) 5).bind fun r12=>
 (kz N ([r8,r9,r10,r11,r12]:List Int)).bind fun r13=>
 if(!decide (r13=0))=true then
 some (a1_,r13)
 else
 (idx a4_ 1).bind fun x15=>
 (qa0 a1_ r7.1 x6 x15 x3 (w64 (x3+x4)) x5 0 0 0 false).bind fun l17=>
 some (l17,0)
theorem qlO (N:Nat) (a0_:Int) (a1_:List qg) (a2_:Int) (a3_:Str) (a4_:List Str) (a5_:List Int) (a6_:Str) {l1:List qg} {n2:Int} (h:qdT N a0_ a1_ a2_ a3_ a4_ a5_ a6_=some (l1,n2)):qj Tryz.prog (.fn 117) (kM a0_ a1_ [.agg (cF a2_ a3_ a4_ a5_ a6_)]) [bS a1_] (.tuple (kA0 a0_ l1 [.i n2])) [.dead]:=by
 unfold qdT at h
 refine Goes.fnH Tryz.func117 rfl rfl (m:=77) rfl (rs:=[.cell 4 47,.tmp 5]) rfl (l:=(kAo a0_ a1_ [(1,.agg (cF a2_ a3_ a4_ a5_ a6_))])) rfl ?_
 intro B hB
 refine sg fol (kH []) (bS a1_::(kB a0_ a1_ (kAD a2_ a3_ a4_ a5_ a6_ []))) ?_
 obtain⟨x3,e_x3,h⟩:=bnd h
 obtain⟨x4,e_x4,h⟩:=bnd h
 obtain⟨x5,e_x5,h⟩:=bnd h
 refine sq (gr fol [2,3,6,7,10,11] (kH ((6,.i x3)::(kAJ x4 x5 []))) (ac (iv qfS encI e_x3) (ac (lv 0 ce3 encI e_x3 rfl) (ac (iv qfS encI e_x4) (ac (lv 0 ce3 encI e_x4 rfl) (ac (iv qfS encI e_x5) (ac (lv 0 ce3 encI e_x5 rfl) az)))))) ?_)
 obtain⟨x6,e_x6,h⟩:=bnd h
 obtain⟨r7,e_r7,h⟩:=bnd h
 refine sq (gr fol [3,4,5] (kH ((6,.i x3)::(kAJ x4 x5 [(9,.i r7.1),(10,.bool r7.2)]))) (ac (iv qdk encS e_x6) (ac (lv 0 ce9 encS e_x6 rfl) (ac (hs (.call 128 (kM a0_ a1_ [.str x6]) (bS a1_::(kB a0_ a1_ (kAD a2_ a3_ a4_ a5_ a6_ []))) [0] (kA0 a0_ a1_ [.str x6]) (.tuple [.i r7.1,.bool r7.2])) (qbz (FzL.cons (Fz.agg (FzL.cons (Fz.still tI) (FzL.cons (Fz.sl (E:=qo) rfl rfl (nl rfl)) FzL.nil))) (FzL.cons (Fz.still tS) FzL.nil)) (qeC N (⟨a0_,a1_⟩:qcE) x6 e_r7) (Still.tuple (AllST.cons tI (AllST.cons tB AllST.nil))) rfl)) az))) ?_)
 refine sq ?_
 obtain⟨r8,e_r8,h⟩:=bnd h
 obtain⟨r9,e_r9,h⟩:=bnd h
 obtain⟨r10,e_r10,h⟩:=bnd h
 obtain⟨r11,e_r11,h⟩:=bnd h
 obtain⟨r12,e_r12,h⟩:=bnd h
 obtain⟨r13,e_r13,h⟩:=bnd h
 refine sq (gq fol [1,3,5,9,14,16] (kH ((6,.i x3)::(kAJ x4 x5 [(9,.i r7.1),(11,.i r13)]))) (bS a1_::(kB a0_ a1_ (kAD a2_ a3_ a4_ a5_ a6_ [.cells [.i r8,.i r9,.i r10,.i r11,.i r12]]))) (ac (cv (kr r7.2 9 e_r8)) (ac (cv (jE x4 1 9999 e_r9)) (ac (cv (jE x5 1 9999 e_r10)) (ac (cv (qgX (w64 (x3+x4)) e_r11)) (ac (cv (kr (decide ((a1_.length:Int)≥256)) 5 e_r12)) (ac (hs (.call 37 [.slice 4 0 5 5 1] (bS a1_::(kB a0_ a1_ (kAD a2_ a3_ a4_ a5_ a6_ [.cells [.i r8,.i r9,.i r10,.i r11,.i r12]]))) [4] [vl encI ([r8,r9,r10,r11,r12]:List Int)] (.i r13)) (qbz (FzL.cons (Fz.lit rfl rfl (FzL.still (AllST.cons tI (AllST.cons tI (AllST.cons tI (AllST.cons tI (AllST.cons tI AllST.nil))))))) FzL.nil) (zA N ([r8,r9,r10,r11,r12]:List Int) e_r13) tI rfl)) az)))))) ?_)
 refine sh fol (kH ((6,.i x3)::(kAJ x4 x5 [(9,.i r7.1),(11,.i r13),(52,.bool (!decide (r13=0)))]))) ?_
 refine ihB h (fun c14 h=>?_) (fun c14 h=>?_)
 ·refine sg fol ((4,.ptr 3 0)::(kAm r13)) (bS a1_::(kB a0_ a1_ (.cells (cF a2_ a3_ a4_ a5_ a6_)::(kB a0_ a1_ [.cells [.i r8,.i r9,.i r10,.i r11,.i r12]])))) ?_
  refine Goes.ret ?_
  simp only[Option.some.injEq,Prod.mk.injEq]at h
  obtain⟨rfl,rfl⟩:=h
  exact(gh2 (kM a0_ a1_ [.i r13]) (Sub.norm [0] [some 0] (by rw[hB];rfl) rfl (.keep (.tupleL (rc (.aggL (rc (.same nI) (rc (.frz (Fz.sl (E:=qo) rfl rfl (nl rfl)) (qp qo _)) rn))) (rc (.same nI) rn))) .nil) (.lost .nil)))
 ·refine Goes.skip ?_
  obtain⟨x15,e_x15,h⟩:=bnd h
  refine sq (gq fol [2,3,6,7] (kAF [(9,.i r7.1),(12,.ptr 5 0)]) (bS a1_::(kB a0_ a1_ (kAD a2_ a3_ a4_ a5_ a6_ [.cells [.i r8,.i r9,.i r10,.i r11,.i r12],.cells [.str x6,.str x15,.i x3,.i (w64 (x3+x4)),.i x5,.i 0,.i 0,.i 0,.bool false]]))) (ac (iv qdk encS e_x6) (ac (lv 0 ce9 encS e_x6 rfl) (ac (iv qdk encS e_x15) (ac (lv 0 ce9 encS e_x15 rfl) az)))) ?_)
  obtain⟨l17,e_r16,h⟩:=bnd h
  refine sq (gq fol [5] (kAF []) (.dead::(kZ a0_ l17 (kAD a2_ a3_ a4_ a5_ a6_ (kAC r8 r9 r10 r11 r12 x6 x15 x3 (w64 (x3+x4)) x5)))) (ac (hs (.callH 165 [.slice 0 0 a1_.length a1_.length 9,.i r7.1,.slice 6 0 1 1 9] (bS a1_::(kB a0_ a1_ (kAD a2_ a3_ a4_ a5_ a6_ (kAC r8 r9 r10 r11 r12 x6 x15 x3 (w64 (x3+x4)) x5)))) [0,6] (vl qo l17) (.dead::(kB a0_ a1_ (kAD a2_ a3_ a4_ a5_ a6_ (kAC r8 r9 r10 r11 r12 x6 x15 x3 (w64 (x3+x4)) x5))))) (xY [some 0,some 6] [none,none,none,none,none,none,some 1] (qg9 a1_ r7.1 x6 x15 x3 (w64 (x3+x4)) x5 0 0 0 false e_r16) (.ks (.kb rfl (.cells (rc (.same nS) (rc (.same nS) (rc (.same nI) (rc (.same nI) (rc (.same nI) (rc (.same nI) (rc (.same nI) (rc (.same nI) (rc (.same nB) rn)))))))))) .nil)) rfl rfl (.dead (.old rfl rfl (.old rfl rfl (.old rfl rfl (.old rfl rfl (.old rfl rfl (.back rfl rfl (.cells (rc (.same nS) (rc (.same nS) (rc (.same nI) (rc (.same nI) (rc (.same nI) (rc (.same nI) (rc (.same nI) (rc (.same nI) (rc (.same nB) rn)))))))))) rfl .nil))))))) (rc (.slice rfl) (rc (.same nI) (rc (.slice rfl) rn))) (.same (qp qo _)) rfl)) az) ?_)
  refine sg fol ((4,.ptr 3 0)::kBR) (.dead::(kZ a0_ l17 (.cells (cF a2_ a3_ a4_ a5_ a6_)::(kZ a0_ l17 (kAC r8 r9 r10 r11 r12 x6 x15 x3 (w64 (x3+x4)) x5))))) ?_
  refine Goes.ret ?_
  simp only[Option.some.injEq,Prod.mk.injEq]at h
  obtain⟨rfl,rfl⟩:=h
  exact(gh2 (kA0 a0_ l17 [.i 0]) (Sub.norm [] [some 0] (by rw[hB];rfl) rfl (.keep (.tupleL (rc (.aggL (rc (.same nI) (rc (.same (qp qo _)) rn))) (rc (.same nI) rn))) .nil) (.lost .nil)))
def vP (N:Nat) (a0_:Int) (a1_:List qg) (a2_:Str) (a3_:Int):Option (Int×Bool×Int):=
 (qaW N (⟨a0_,a1_⟩:qcE) a2_).bind fun r4=>
 if(!r4.2)=true then
 some (0,false,10)
 else
 (idx a1_ r4.1).bind fun x6=>
 (qaT x6 a3_).bind fun r7=>
 (za r7 20).bind fun r8=>
 some (r4.1,true,r8)
theorem qb4 (N:Nat) (a0_:Int) (a1_:List qg) (a2_:Str) (a3_:Int) {i1:Int} {ok2:Bool} {n3:Int} (h:vP N a0_ a1_ a2_ a3_=some (i1,ok2,n3)):qj Tryz.prog (.fn 166) (kM a0_ a1_ [.str a2_,.i a3_]) [bS a1_] (.tuple [pz ok2 0 ((i1:Int).toNat*9+0),.i n3]) [bS a1_]:=by
 unfold vP at h
 refine Goes.fnH Tryz.func166 rfl rfl (m:=30) rfl (rs:=[.tmp 6,.tmp 7]) rfl (l:=(kAo a0_ a1_ [(1,.str a2_),(2,.i a3_)])) rfl ?_
 intro B hB
 refine sg fol ((1,.str a2_)::(2,.i a3_)::(kA2 [])) (bS a1_::(kB a0_ a1_ [])) ?_
 obtain⟨r4,e_r4,h⟩:=bnd h
 refine sq (gr fol [2] ((2,.i a3_)::(kA2 [(8,.i r4.1),(9,.bool r4.2)])) (ac (hs (.call 128 (kM a0_ a1_ [.str a2_]) (bS a1_::(kB a0_ a1_ [])) [0] (kA0 a0_ a1_ [.str a2_]) (.tuple [.i r4.1,.bool r4.2])) (qbz (FzL.cons (Fz.agg (FzL.cons (Fz.still tI) (FzL.cons (Fz.sl (E:=qo) rfl rfl (nl rfl)) FzL.nil))) (FzL.cons (Fz.still tS) FzL.nil)) (qeC N (⟨a0_,a1_⟩:qcE) a2_ e_r4) (Still.tuple (AllST.cons tI (AllST.cons tB AllST.nil))) rfl)) az) ?_)
 refine sq ?_
 refine sh fol ((2,.i a3_)::(kA2 [(8,.i r4.1),(18,.bool (!r4.2))])) ?_
 refine ihB h (fun c5 h=>?_) (fun c5 h=>?_)
 ·refine sh fol [(6,.nilptr),(7,.i 10)] ?_
  refine Goes.ret ?_
  simp only[Option.some.injEq,Prod.mk.injEq]at h
  obtain⟨rfl,rfl,rfl⟩:=h
  exact(gh2 [.nilptr,.i 10] (Sub.norm [] [some 0] (by rw[hB];rfl) rfl (.keep (.tupleL (rc (xw.pz0) (rc (.same nI) rn))) .nil) (.ks .nil)))
 ·refine Goes.skip ?_
  obtain⟨x6,e_x6,h⟩:=bnd h
  refine sq (gr fol [3] [(2,.i a3_),(10,.ptr 0 ((r4.1:Int).toNat*9+0))] (ac (hs (.done (.opt (zQ Tryz.prog 45 (.slice 0 0 a1_.length a1_.length 9) (.i r4.1))) (.ptr 0 ((r4.1:Int).toNat*9+0))) (qq8 qh3 e_x6)) az) ?_)
  obtain⟨r7,e_r7,h⟩:=bnd h
  obtain⟨r8,e_r8,h⟩:=bnd h
  refine sq (gr fol [3,5,6] [(6,.ptr 0 ((r4.1:Int).toNat*9+0)),(7,.i r8)] (ac (hs (.run [0] (qbo Tryz.prog 102 (.ptr 0 ((r4.1:Int).toNat*9+0))) (bS a1_::(kB a0_ a1_ [])) (.agg (cS x6)) (bS a1_::(kB a0_ a1_ [])) false) (qnG qtl (E:=qo) (l:=a1_) rfl rfl e_x6)) (ac (cv (qeI x6 a3_ e_r7)) (ac (cv (kr r7 20 e_r8)) az))) ?_)
  refine Goes.ret ?_
  simp only[Option.some.injEq,Prod.mk.injEq]at h
  obtain⟨rfl,rfl,rfl⟩:=h
  exact(gh2 [.ptr 0 ((r4.1:Int).toNat*9+0),.i r8] (Sub.norm [] [some 0] (by rw[hB];rfl) rfl (.keep (.tupleL (rc ((xw.pz1 rfl)) (rc (.same nI) rn))) .nil) (.ks .nil)))
def qcI (N:Nat) (a0_:Int) (a1_:List qg) (a2_:Int) (a3_:Str) (a4_:List Str) (a5_:List Int) (a6_:Str):Option ((List qg)×Int):=
 (idx a5_ 0).bind fun x3=>
 (idx a5_ 1).bind fun x4=>
 (idx a4_ 0).bind fun x5=>
 (vP N a0_ a1_ x5 x3).bind fun(i7,ok8,n9)=>
 (vY x4 2 999999999).bind fun r10=>
 (kz N ([n9,r10]:List Int)).bind fun r11=>
 if(!decide (r11=0))=true then
 some (a1_,r11)
 else
 ((match ok8 with
 |false=>
 none
 |true=>
 (idx a1_ i7).bind fun x13=>
 (put a1_ i7 (⟨x13.Name,x13.Batch,x13.Born,x13.Last,x13.Uses,x13.Used,w64 (x4.tdiv 2),x13.Until,x13.Gone⟩:qg)).bind fun l14=>
 (idx l14 i7).bind fun x15=>
 (put l14 i7 (⟨x15.Name,x15.Batch,x15.Born,x15.Last,x15.Uses,x15.Used,x15.Limit,(if x13.Last<(w64 (x3+365))then x13.Last else(w64 (x3+365))),x15.Gone⟩:qg)).bind fun l16=>
 some l16):Option (List qg)).bind fun l17=>
 some (l17,0)
theorem qkt (N:Nat) (a0_:Int) (a1_:List qg) (a2_:Int) (a3_:Str) (a4_:List Str) (a5_:List Int) (a6_:Str) {l1:List qg} {n2:Int} (h:qcI N a0_ a1_ a2_ a3_ a4_ a5_ a6_=some (l1,n2)):qj Tryz.prog (.fn 118) (kM a0_ a1_ [.agg (cF a2_ a3_ a4_ a5_ a6_)]) [bS a1_] (.tuple (kM a0_ l1 [.i n2])) [bS l1]:=by
 unfold qcI at h
 refine Goes.fnH Tryz.func118 rfl rfl (m:=53) rfl (rs:=[.cell 4 47,.tmp 5]) rfl (l:=(kAo a0_ a1_ [(1,.agg (cF a2_ a3_ a4_ a5_ a6_))])) rfl ?_
 intro B hB
 refine sg fol (kH []) (bS a1_::(kB a0_ a1_ (kAD a2_ a3_ a4_ a5_ a6_ []))) ?_
 obtain⟨x3,e_x3,h⟩:=bnd h
 obtain⟨x4,e_x4,h⟩:=bnd h
 refine sq (gr fol [2,3,6,7] (kH (kA6 x3 x4 [])) (ac (iv qfS encI e_x3) (ac (lv 0 ce3 encI e_x3 rfl) (ac (iv qfS encI e_x4) (ac (lv 0 ce3 encI e_x4 rfl) az)))) ?_)
 obtain⟨x5,e_x5,h⟩:=bnd h
 obtain⟨⟨i7,ok8,n9⟩,e_r6,h⟩:=bnd h
 try dsimp only at h
 refine sq (gr fol [3,4,6] (kAF (kA6 x3 x4 [(8,pz ok8 0 ((i7:Int).toNat*9+0)),(9,.i n9)])) (ac (iv qdk encS e_x5) (ac (lv 0 ce9 encS e_x5 rfl) (ac (hs (.callH 166 (kM a0_ a1_ [.str x5,.i x3]) (bS a1_::(kB a0_ a1_ (kAD a2_ a3_ a4_ a5_ a6_ []))) [0] (.tuple [pz ok8 0 ((i7:Int).toNat*9+0),.i n9]) (bS a1_::(kB a0_ a1_ (kAD a2_ a3_ a4_ a5_ a6_ [])))) (xY [some 0] [some 0,none,none,none] (qb4 N a0_ a1_ x5 x3 e_r6) (.ks .nil) rfl rfl (.back rfl rfl (.same fa) rfl (.old rfl rfl (.old rfl rfl (.old rfl rfl .nil)))) (rc (.aggL (rc (.same nI) (rc (.slice rfl) rn))) (rc (.same nS) (rc (.same nI) rn))) (.tupleL (rc ((xw.pz rfl)) (rc (.same nI) rn))) rfl)) az))) ?_)
 refine sq ?_
 obtain⟨r10,e_r10,h⟩:=bnd h
 obtain⟨r11,e_r11,h⟩:=bnd h
 refine sq (gq fol [2,4] (kAF (kA6 x3 x4 [(8,pz ok8 0 ((i7:Int).toNat*9+0)),(9,.i r11)])) (bS a1_::(kB a0_ a1_ (kAD a2_ a3_ a4_ a5_ a6_ (kY n9 r10)))) (ac (cv (jE x4 2 999999999 e_r10)) (ac (hs (.call 37 [.slice 4 0 2 2 1] (bS a1_::(kB a0_ a1_ (kAD a2_ a3_ a4_ a5_ a6_ (kY n9 r10)))) [4] [vl encI ([n9,r10]:List Int)] (.i r11)) (qbz (FzL.cons (Fz.lit rfl rfl (FzL.still (AllST.cons tI (AllST.cons tI AllST.nil)))) FzL.nil) (zA N ([n9,r10]:List Int) e_r11) tI rfl)) az)) ?_)
 refine sh fol (kAF (kA6 x3 x4 [(8,pz ok8 0 ((i7:Int).toNat*9+0)),(9,.i r11),(34,.bool (!decide (r11=0)))])) ?_
 refine ihB h (fun c12 h=>?_) (fun c12 h=>?_)
 ·refine sg fol ((4,.ptr 3 0)::(kAm r11)) (bS a1_::(kB a0_ a1_ (.cells (cF a2_ a3_ a4_ a5_ a6_)::(kB a0_ a1_ (kY n9 r10))))) ?_
  refine Goes.ret ?_
  simp only[Option.some.injEq,Prod.mk.injEq]at h
  obtain⟨rfl,rfl⟩:=h
  exact(gh2 (kM a0_ a1_ [.i r11]) (Sub.norm [] [some 0] (by rw[hB];rfl) rfl (.keep (.tupleL (rc (.aggL (rc (.same nI) (rc (.slice rfl) rn))) (rc (.same nI) rn))) .nil) (.ks .nil)))
 ·refine Goes.skip ?_
  refine sq ?_
  obtain⟨l17,g_v18,h⟩:=bnd h
  refine Goes.cutS (s':=(ofG 53 (kBF []),(bS l17::(kB a0_ l17 [bZ])))) ?_ ?_
  ·rcases ok8 with _|_
   ·try dsimp only at g_v18
    cases g_v18
   ·try dsimp only at g_v18
    obtain⟨x13,e_x13,g_v18⟩:=bnd g_v18
    obtain⟨l14,e_l14,g_v18⟩:=bnd g_v18
    obtain⟨x15,e_x15,g_v18⟩:=bnd g_v18
    obtain⟨l16,e_l16,g_v18⟩:=bnd g_v18
    obtain rfl:=si g_v18
    exact qW.sub (qW.rq fol [9,13,16] (kAF []) (bS l16::(kB a0_ a1_ (kAD a2_ a3_ a4_ a5_ a6_ (kY n9 r10)))) (ac (hs (.run [0] (qbo Tryz.prog 3 (.ptr 0 ((i7:Int).toNat*9+3))) (bS a1_::(kB a0_ a1_ (kAD a2_ a3_ a4_ a5_ a6_ (kY n9 r10)))) (.i x13.Last) (bS a1_::(kB a0_ a1_ (kAD a2_ a3_ a4_ a5_ a6_ (kY n9 r10)))) false) (ld_p ce3 (E:=qo) (l:=a1_) rfl rfl e_x13 (nl rfl) rfl)) (ac (hs (.run [0] (qex Tryz.prog 3 (.ptr 0 ((i7:Int).toNat*9+6)) (.i (w64 (x4.tdiv 2)))) (bS a1_::(kB a0_ a1_ (kAD a2_ a3_ a4_ a5_ a6_ (kY n9 r10)))) .undef (bS l14::(kB a0_ a1_ (kAD a2_ a3_ a4_ a5_ a6_ (kY n9 r10)))) true) (qkL (E:=qo) (l:=a1_) (y:=(⟨x13.Name,x13.Batch,x13.Born,x13.Last,x13.Uses,x13.Used,w64 (x4.tdiv 2),x13.Until,x13.Gone⟩:qg)) rfl (show _=some 1 by kernel_rfl) rfl e_x13 rfl rfl rfl rfl rfl e_l14 rfl)) (ac (hs (.run [0] (qex Tryz.prog 3 (.ptr 0 ((i7:Int).toNat*9+7)) (.i (if x13.Last<(w64 (x3+365))then x13.Last else(w64 (x3+365))))) (bS l14::(kB a0_ a1_ (kAD a2_ a3_ a4_ a5_ a6_ (kY n9 r10)))) .undef (bS l16::(kB a0_ a1_ (kAD a2_ a3_ a4_ a5_ a6_ (kY n9 r10)))) true) (qkL (E:=qo) (l:=l14) (y:=(⟨x15.Name,x15.Batch,x15.Born,x15.Last,x15.Uses,x15.Used,x15.Limit,(if x13.Last<(w64 (x3+365))then x13.Last else(w64 (x3+365))),x15.Gone⟩:qg)) rfl (show _=some 1 by kernel_rfl) rfl e_x15 rfl rfl rfl rfl rfl e_l16 rfl)) az)))) ((show Sub (ofG 53 (kAF []),(bS l16::(kB a0_ a1_ (kAD a2_ a3_ a4_ a5_ a6_ (kY n9 r10))))) (ofG 53 (kBF []),(bS l16::(kB a0_ l16 [bZ])))from(Sub.norm [] [some 0,some 1,some 3] (by rw[hB];rfl) rfl (.kp (.kp .nil)) (.ks (.kb rfl (.cells (rc (.same nI) (rc (.sliceE rfl ((qfJ e_l14).trans (qfJ e_l16))) rn))) (.kb rfl (.same sn) .nil))))).trans (Sub.refl _))
  intro _ hsub
  refine Goes.sub hsub ?_
  refine sg fol ((4,.ptr 2 0)::kBR) (bS l17::(kB a0_ l17 (kB a0_ l17 []))) ?_
  refine Goes.ret ?_
  simp only[Option.some.injEq,Prod.mk.injEq]at h
  obtain⟨rfl,rfl⟩:=h
  exact(gh2 (kM a0_ l17 [.i 0]) (Sub.norm [] [some 0] (by rw[hB];rfl) rfl (.keep (.tupleL (rc (.aggL (rc (.same nI) (rc (.slice rfl) rn))) (rc (.same nI) rn))) .nil) (.ks .nil)))
def qdG (N:Nat) (a0_:Int) (a1_:List qg) (a2_:Int) (a3_:Str) (a4_:List Str) (a5_:List Int) (a6_:Str):Option ((List qg)×Int):=
 (idx a5_ 0).bind fun x3=>
 (idx a5_ 1).bind fun x4=>
 (idx a4_ 0).bind fun x5=>
 (vP N a0_ a1_ x5 x3).bind fun(i7,ok8,n9)=>
 if(!decide (n9=0))=true then
 some (a1_,n9)
 else
 ((match ok8 with
 |false=>
 none
 |true=>
 (idx a1_ i7).bind fun x11=>
 (qb8 x11 x3).bind fun r12=>
 (za (!r12) 24).bind fun r13=>
 (za (decide (x4>x11.Limit)) 31).bind fun r14=>
 (kz N ([r13,r14]:List Int)).bind fun r15=>
 some (r13,r14,r15)):Option (Int×Int×Int)).bind fun(n16,n17,n18)=>
 if(!decide (n18=0))=true then
 some (a1_,n18)
 else
 (idx a1_ i7).bind fun x21=>
 (put a1_ i7 (⟨x21.Name,x21.Batch,x21.Born,x21.Last,x21.Uses,w64 (x21.Used+1),x21.Limit,x21.Until,x21.Gone⟩:qg)).bind fun l22=>
 some (l22,0)
theorem qlN (N:Nat) (a0_:Int) (a1_:List qg) (a2_:Int) (a3_:Str) (a4_:List Str) (a5_:List Int) (a6_:Str) {l1:List qg} {n2:Int} (h:qdG N a0_ a1_ a2_ a3_ a4_ a5_ a6_=some (l1,n2)):qj Tryz.prog (.fn 119) (kM a0_ a1_ [.agg (cF a2_ a3_ a4_ a5_ a6_)]) [bS a1_] (.tuple (kM a0_ l1 [.i n2])) [bS l1]:=by
 unfold qdG at h
 refine Goes.fnH Tryz.func119 rfl rfl (m:=60) rfl (rs:=[.cell 4 47,.tmp 5]) rfl (l:=(kAo a0_ a1_ [(1,.agg (cF a2_ a3_ a4_ a5_ a6_))])) rfl ?_
 intro B hB
 refine sg fol (kH []) (bS a1_::(kB a0_ a1_ (kAD a2_ a3_ a4_ a5_ a6_ []))) ?_
 obtain⟨x3,e_x3,h⟩:=bnd h
 obtain⟨x4,e_x4,h⟩:=bnd h
 refine sq (gr fol [2,3,6,7] (kH (kA6 x3 x4 [])) (ac (iv qfS encI e_x3) (ac (lv 0 ce3 encI e_x3 rfl) (ac (iv qfS encI e_x4) (ac (lv 0 ce3 encI e_x4 rfl) az)))) ?_)
 obtain⟨x5,e_x5,h⟩:=bnd h
 obtain⟨⟨i7,ok8,n9⟩,e_r6,h⟩:=bnd h
 try dsimp only at h
 refine sq (gr fol [3,4,6] (kAF (kA6 x3 x4 [(8,pz ok8 0 ((i7:Int).toNat*9+0)),(9,.i n9)])) (ac (iv qdk encS e_x5) (ac (lv 0 ce9 encS e_x5 rfl) (ac (hs (.callH 166 (kM a0_ a1_ [.str x5,.i x3]) (bS a1_::(kB a0_ a1_ (kAD a2_ a3_ a4_ a5_ a6_ []))) [0] (.tuple [pz ok8 0 ((i7:Int).toNat*9+0),.i n9]) (bS a1_::(kB a0_ a1_ (kAD a2_ a3_ a4_ a5_ a6_ [])))) (xY [some 0] [some 0,none,none,none] (qb4 N a0_ a1_ x5 x3 e_r6) (.ks .nil) rfl rfl (.back rfl rfl (.same fa) rfl (.old rfl rfl (.old rfl rfl (.old rfl rfl .nil)))) (rc (.aggL (rc (.same nI) (rc (.slice rfl) rn))) (rc (.same nS) (rc (.same nI) rn))) (.tupleL (rc ((xw.pz rfl)) (rc (.same nI) rn))) rfl)) az))) ?_)
 refine sq ?_
 refine sh fol (kAF (kA6 x3 x4 [(8,pz ok8 0 ((i7:Int).toNat*9+0)),(9,.i n9),(29,.bool (!decide (n9=0)))])) ?_
 refine ihB h (fun c10 h=>?_) (fun c10 h=>?_)
 ·refine sg fol ((4,.ptr 3 0)::(kAm n9)) (bS a1_::(kB a0_ a1_ (.cells (cF a2_ a3_ a4_ a5_ a6_)::(kB a0_ a1_ [])))) ?_
  refine Goes.ret ?_
  simp only[Option.some.injEq,Prod.mk.injEq]at h
  obtain⟨rfl,rfl⟩:=h
  exact(gh2 (kM a0_ a1_ [.i n9]) (Sub.norm [] [some 0] (by rw[hB];rfl) rfl (.keep (.tupleL (rc (.aggL (rc (.same nI) (rc (.slice rfl) rn))) (rc (.same nI) rn))) .nil) (.ks .nil)))
 ·refine Goes.skip ?_
  refine sq ?_
  refine sq ?_
  obtain⟨⟨n16,n17,n18⟩,g_v19,h⟩:=bnd h
  refine Goes.cut (s':=(ofG 60 (kAF [(8,.ptr 0 ((i7:Int).toNat*9+0)),(9,.i n18)]),(bS a1_::(kB a0_ a1_ (kAD a2_ a3_ a4_ a5_ a6_ (kY n16 n17)))))) ?_ ?_
  ·rcases ok8 with _|_
   ·try dsimp only at g_v19
    cases g_v19
   ·try dsimp only at g_v19
    obtain⟨x11,e_x11,g_v19⟩:=bnd g_v19
    obtain⟨r12,e_r12,g_v19⟩:=bnd g_v19
    obtain⟨r13,e_r13,g_v19⟩:=bnd g_v19
    obtain⟨r14,e_r14,g_v19⟩:=bnd g_v19
    obtain⟨r15,e_r15,g_v19⟩:=bnd g_v19
    simp only[Option.some.injEq,Prod.mk.injEq]at g_v19
    obtain⟨rfl,rfl,rfl⟩:=g_v19
    exact qW.rq fol [2,4,6,11,13,15] (kAF [(8,.ptr 0 ((i7:Int).toNat*9+0)),(9,.i r15)]) (bS a1_::(kB a0_ a1_ (kAD a2_ a3_ a4_ a5_ a6_ (kY r13 r14)))) (ac (hs (.run [0] (qbo Tryz.prog 102 (.ptr 0 ((i7:Int).toNat*9+0))) (bS a1_::(kB a0_ a1_ (kAD a2_ a3_ a4_ a5_ a6_ []))) (.agg (cS x11)) (bS a1_::(kB a0_ a1_ (kAD a2_ a3_ a4_ a5_ a6_ []))) false) (qnG qtl (E:=qo) (l:=a1_) rfl rfl e_x11)) (ac (cv (qjd x11 x3 e_r12)) (ac (cv (kr (!r12) 24 e_r13)) (ac (hs (.run [0] (qbo Tryz.prog 3 (.ptr 0 ((i7:Int).toNat*9+6))) (bS a1_::(kB a0_ a1_ (kAD a2_ a3_ a4_ a5_ a6_ []))) (.i x11.Limit) (bS a1_::(kB a0_ a1_ (kAD a2_ a3_ a4_ a5_ a6_ []))) false) (ld_p ce3 (E:=qo) (l:=a1_) rfl rfl e_x11 (nl rfl) rfl)) (ac (cv (kr (decide (x4>x11.Limit)) 31 e_r14)) (ac (hs (.call 37 [.slice 4 0 2 2 1] (bS a1_::(kB a0_ a1_ (kAD a2_ a3_ a4_ a5_ a6_ (kY r13 r14)))) [4] [vl encI ([r13,r14]:List Int)] (.i r15)) (qbz (FzL.cons (Fz.lit rfl rfl (FzL.still (AllST.cons tI (AllST.cons tI AllST.nil)))) FzL.nil) (zA N ([r13,r14]:List Int) e_r15) tI rfl)) az))))))
  try dsimp only at h
  refine sh fol (kAF [(8,.ptr 0 ((i7:Int).toNat*9+0)),(9,.i n18),(49,.bool (!decide (n18=0)))]) ?_
  refine ihB h (fun c20 h=>?_) (fun c20 h=>?_)
  ·refine sg fol ((4,.ptr 3 0)::(kAm n18)) (bS a1_::(kB a0_ a1_ (.cells (cF a2_ a3_ a4_ a5_ a6_)::(kB a0_ a1_ (kY n16 n17))))) ?_
   refine Goes.ret ?_
   simp only[Option.some.injEq,Prod.mk.injEq]at h
   obtain⟨rfl,rfl⟩:=h
   exact(gh2 (kM a0_ a1_ [.i n18]) (Sub.norm [] [some 0] (by rw[hB];rfl) rfl (.keep (.tupleL (rc (.aggL (rc (.same nI) (rc (.slice rfl) rn))) (rc (.same nI) rn))) .nil) (.ks .nil)))
  ·refine Goes.skip ?_
   obtain⟨x21,e_x21,h⟩:=bnd h
   obtain⟨l22,e_l22,h⟩:=bnd h
   refine sq (gq fol [3,7] (kAF []) (bS l22::(kB a0_ a1_ (kAD a2_ a3_ a4_ a5_ a6_ (kY n16 n17)))) (ac (hs (.run [0] (qbo Tryz.prog 3 (.ptr 0 ((i7:Int).toNat*9+5))) (bS a1_::(kB a0_ a1_ (kAD a2_ a3_ a4_ a5_ a6_ (kY n16 n17)))) (.i x21.Used) (bS a1_::(kB a0_ a1_ (kAD a2_ a3_ a4_ a5_ a6_ (kY n16 n17)))) false) (ld_p ce3 (E:=qo) (l:=a1_) rfl rfl e_x21 (nl rfl) rfl)) (ac (hs (.run [0] (qex Tryz.prog 3 (.ptr 0 ((i7:Int).toNat*9+5)) (.i (w64 (x21.Used+1)))) (bS a1_::(kB a0_ a1_ (kAD a2_ a3_ a4_ a5_ a6_ (kY n16 n17)))) .undef (bS l22::(kB a0_ a1_ (kAD a2_ a3_ a4_ a5_ a6_ (kY n16 n17)))) true) (qkL (E:=qo) (l:=a1_) (y:=(⟨x21.Name,x21.Batch,x21.Born,x21.Last,x21.Uses,w64 (x21.Used+1),x21.Limit,x21.Until,x21.Gone⟩:qg)) rfl (show _=some 1 by kernel_rfl) rfl e_x21 rfl rfl rfl rfl rfl e_l22 rfl)) az)) ?_)
   refine Goes.sub (show Sub (ofG 60 (kAF []),(bS l22::(kB a0_ a1_ (kAD a2_ a3_ a4_ a5_ a6_ (kY n16 n17))))) (ofG 60 (kBF []),(bS l22::(kB a0_ l22 [bZ])))from(Sub.norm [] [some 0,some 1,some 3] (by rw[hB];rfl) rfl (.kp (.kp .nil)) (.ks (.kb rfl (.cells (rc (.same nI) (rc (.sliceE rfl (qfJ e_l22)) rn))) (.kb rfl (.same sn) .nil))))) ?_
   refine sg fol ((4,.ptr 2 0)::kBR) (bS l22::(kB a0_ l22 (kB a0_ l22 []))) ?_
   refine Goes.ret ?_
   simp only[Option.some.injEq,Prod.mk.injEq]at h
   obtain⟨rfl,rfl⟩:=h
   exact(gh2 (kM a0_ l22 [.i 0]) (Sub.norm [] [some 0] (by rw[hB];rfl) rfl (.keep (.tupleL (rc (.aggL (rc (.same nI) (rc (.slice rfl) rn))) (rc (.same nI) rn))) .nil) (.ks .nil)))
def qcP (N:Nat) (a0_:Int) (a1_:List qg) (a2_:Int) (a3_:Str) (a4_:List Str) (a5_:List Int) (a6_:Str):Option ((List qg)×Int):=
 (idx a4_ 0).bind fun x3=>
 (idx a5_ 0).bind fun x4=>
 (vP N a0_ a1_ x3 x4).bind fun(i6,ok7,n8)=>
 if(!decide (n8=0))=true then
 some (a1_,n8)
 else
 ((match ok7 with
 |false=>
 none
 |true=>
 (idx a1_ i6).bind fun x10=>
 (put a1_ i6 (⟨x10.Name,x10.Batch,x10.Born,x10.Last,x10.Uses,x10.Used,x10.Limit,x10.Until,true⟩:qg)).bind fun l11=>
 some l11):Option (List qg)).bind fun l12=>
 some (l12,0)
theorem qkv (N:Nat) (a0_:Int) (a1_:List qg) (a2_:Int) (a3_:Str) (a4_:List Str) (a5_:List Int) (a6_:Str) {l1:List qg} {n2:Int} (h:qcP N a0_ a1_ a2_ a3_ a4_ a5_ a6_=some (l1,n2)):qj Tryz.prog (.fn 120) (kM a0_ a1_ [.agg (cF a2_ a3_ a4_ a5_ a6_)]) [bS a1_] (.tuple (kM a0_ l1 [.i n2])) [bS l1]:=by
 unfold qcP at h
 refine Goes.fnH Tryz.func120 rfl rfl (m:=29) rfl (rs:=[.cell 4 47,.tmp 5]) rfl (l:=(kAo a0_ a1_ [(1,.agg (cF a2_ a3_ a4_ a5_ a6_))])) rfl ?_
 intro B hB
 refine sg fol (kH []) (bS a1_::(kB a0_ a1_ (kAD a2_ a3_ a4_ a5_ a6_ []))) ?_
 obtain⟨x3,e_x3,h⟩:=bnd h
 obtain⟨x4,e_x4,h⟩:=bnd h
 obtain⟨⟨i6,ok7,n8⟩,e_r5,h⟩:=bnd h
 try dsimp only at h
 refine sq (gr fol [3,4,7,8,9] (kAF [(6,pz ok7 0 ((i6:Int).toNat*9+0)),(7,.i n8)]) (ac (iv qdk encS e_x3) (ac (lv 0 ce9 encS e_x3 rfl) (ac (iv qfS encI e_x4) (ac (lv 0 ce3 encI e_x4 rfl) (ac (hs (.callH 166 (kM a0_ a1_ [.str x3,.i x4]) (bS a1_::(kB a0_ a1_ (kAD a2_ a3_ a4_ a5_ a6_ []))) [0] (.tuple [pz ok7 0 ((i6:Int).toNat*9+0),.i n8]) (bS a1_::(kB a0_ a1_ (kAD a2_ a3_ a4_ a5_ a6_ [])))) (xY [some 0] [some 0,none,none,none] (qb4 N a0_ a1_ x3 x4 e_r5) (.ks .nil) rfl rfl (.back rfl rfl (.same fa) rfl (.old rfl rfl (.old rfl rfl (.old rfl rfl .nil)))) (rc (.aggL (rc (.same nI) (rc (.slice rfl) rn))) (rc (.same nS) (rc (.same nI) rn))) (.tupleL (rc ((xw.pz rfl)) (rc (.same nI) rn))) rfl)) az))))) ?_)
 refine sq ?_
 refine sh fol (kAF [(6,pz ok7 0 ((i6:Int).toNat*9+0)),(7,.i n8),(22,.bool (!decide (n8=0)))]) ?_
 refine ihB h (fun c9 h=>?_) (fun c9 h=>?_)
 ·refine sg fol ((4,.ptr 3 0)::(kAm n8)) (bS a1_::(kB a0_ a1_ (.cells (cF a2_ a3_ a4_ a5_ a6_)::(kB a0_ a1_ [])))) ?_
  refine Goes.ret ?_
  simp only[Option.some.injEq,Prod.mk.injEq]at h
  obtain⟨rfl,rfl⟩:=h
  exact(gh2 (kM a0_ a1_ [.i n8]) (Sub.norm [] [some 0] (by rw[hB];rfl) rfl (.keep (.tupleL (rc (.aggL (rc (.same nI) (rc (.slice rfl) rn))) (rc (.same nI) rn))) .nil) (.ks .nil)))
 ·refine Goes.skip ?_
  refine sq ?_
  obtain⟨l12,g_v13,h⟩:=bnd h
  refine Goes.cutS (s':=(ofG 29 (kBF []),(bS l12::(kB a0_ l12 [bZ])))) ?_ ?_
  ·rcases ok7 with _|_
   ·try dsimp only at g_v13
    cases g_v13
   ·try dsimp only at g_v13
    obtain⟨x10,e_x10,g_v13⟩:=bnd g_v13
    obtain⟨l11,e_l11,g_v13⟩:=bnd g_v13
    obtain rfl:=si g_v13
    exact qW.sub (qW.rq fol [3] (kAF []) (bS l11::(kB a0_ a1_ (kAD a2_ a3_ a4_ a5_ a6_ []))) (ac (hs (.run [0] (qex Tryz.prog 4 (.ptr 0 ((i6:Int).toNat*9+8)) (.bool true)) (bS a1_::(kB a0_ a1_ (kAD a2_ a3_ a4_ a5_ a6_ []))) .undef (bS l11::(kB a0_ a1_ (kAD a2_ a3_ a4_ a5_ a6_ []))) true) (qkL (E:=qo) (l:=a1_) (y:=(⟨x10.Name,x10.Batch,x10.Born,x10.Last,x10.Uses,x10.Used,x10.Limit,x10.Until,true⟩:qg)) rfl (show _=some 1 by kernel_rfl) rfl e_x10 rfl rfl rfl rfl rfl e_l11 rfl)) az)) ((show Sub (ofG 29 (kAF []),(bS l11::(kB a0_ a1_ (kAD a2_ a3_ a4_ a5_ a6_ [])))) (ofG 29 (kBF []),(bS l11::(kB a0_ l11 [bZ])))from(Sub.norm [] [some 0,some 1,some 3] (by rw[hB];rfl) rfl (.kp (.kp .nil)) (.ks (.kb rfl (.cells (rc (.same nI) (rc (.sliceE rfl (qfJ e_l11)) rn))) (.kb rfl (.same sn) .nil))))).trans (Sub.refl _))
  intro _ hsub
  refine Goes.sub hsub ?_
  refine sg fol ((4,.ptr 2 0)::kBR) (bS l12::(kB a0_ l12 (kB a0_ l12 []))) ?_
  refine Goes.ret ?_
  simp only[Option.some.injEq,Prod.mk.injEq]at h
  obtain⟨rfl,rfl⟩:=h
  exact(gh2 (kM a0_ l12 [.i 0]) (Sub.norm [] [some 0] (by rw[hB];rfl) rfl (.keep (.tupleL (rc (.aggL (rc (.same nI) (rc (.slice rfl) rn))) (rc (.same nI) rn))) .nil) (.ks .nil)))
def jX (a1_:List qg) (a4_:List Str) (a5_:List Int):Nat→(List qg)→Int→Int→Option ((List qg)×Int)
 |0,_,_,_=>none
 |K+1,l3,n4,n5=>
  if n4<(a1_.length:Int)then
  (((idx l3 n4).bind fun x13=>
  (idx a4_ 0).bind fun x14=>
  if(!(x13.Batch==x14))=true then
  some (l3,n5)
  else
  ((if n5=10 then
  some 20
  else
  some n5:Option Int)).bind fun n16=>
  (idx a5_ 0).bind fun x19=>
  (qaT x13 x19).bind fun r20=>
  ((if(!r20)=true then
  some 0
  else
  some n16:Option Int)).bind fun n21=>
  (put l3 n4 (⟨x13.Name,x13.Batch,x13.Born,x13.Last,x13.Uses,x13.Used,x13.Limit,x13.Until,true⟩:qg)).bind fun l24=>
  some (l24,n21):Option ((List qg)×Int))).bind fun(l10,n11)=>
  jX a1_ a4_ a5_ K l10 (w64 (n4+1)) n11
  else
  some (l3,n5)
def qb9 (N:Nat) (a0_:Int) (a1_:List qg) (a2_:Int) (a3_:Str) (a4_:List Str) (a5_:List Int) (a6_:Str):Option ((List qg)×Int):=
 (jX a1_ a4_ a5_ N a1_ 0 10).bind fun(l6,n7)=>
 some (l6,n7)
theorem qjf (N:Nat) (a0_:Int) (a1_:List qg) (a2_:Int) (a3_:Str) (a4_:List Str) (a5_:List Int) (a6_:Str) {l1:List qg} {n2:Int} (h:qb9 N a0_ a1_ a2_ a3_ a4_ a5_ a6_=some (l1,n2)):qj Tryz.prog (.fn 121) (kM a0_ a1_ [.agg (cF a2_ a3_ a4_ a5_ a6_)]) [bS a1_] (.tuple (kM a0_ l1 [.i n2])) [bS l1]:=by
 unfold qb9 at h
 refine Goes.fnH Tryz.func121 rfl rfl (m:=45) rfl (rs:=[.cell 4 47,.tmp 5]) rfl (l:=(kAo a0_ a1_ [(1,.agg (cF a2_ a3_ a4_ a5_ a6_))])) rfl ?_
 intro B hB
 refine sg fol (kH []) (bS a1_::(kB a0_ a1_ (kAD a2_ a3_ a4_ a5_ a6_ []))) ?_
 refine sh fol (kH [(6,.i 10)]) ?_
 refine sq ?_
 refine sh fol (kH [(6,.i 10),(11,.i (a1_.length:Int)),(12,.i 0)]) ?_
 refine Goes.block ?_
 obtain⟨r8,g8,h⟩:=bnd h
 refine Goes.imp (Q:=fun x s'=>(x= .exit 0∧ ∃l6 n7,(l6,n7)=r8∧Sub s' (ofG 45 (kBF (kBM n7)),(bS l6::(kB a0_ l6 [bZ]))))) ?_ ?_
 ·refine Goes.loopS (fun M s=> ∃(l3:List qg) (n4:Int) (n5:Int),s=(ofG 45 (kH (kBJ n5 (a1_.length:Int) n4)),(bS l3::(kB a0_ l3 (kAD a2_ a3_ a4_ a5_ a6_ []))))∧jX a1_ a4_ a5_ M l3 n4 n5=some r8) ?_ (m:=N) ⟨_,_,_,rfl,g8⟩
  rintro M s ⟨l3,n4,n5,rfl,g8⟩
  cases M with
  |zero=>simp only[jX]at g8;cases g8
  |succ M=>
   rw[jX]at g8
   refine sh fol (kH [(6,.i n5),(11,.i (a1_.length:Int)),(12,.i n4),(13,.bool (decide (n4<(a1_.length:Int))))]) ?_
   refine sq ?_
   refine ihD g8 (fun c9 g8=>?_) (fun c9 g8=>?_)
   ·refine Goes.skip ?_
    refine sq ?_
    obtain⟨r12,g12,g8⟩:=bnd g8
    refine Goes.imp (Q:=fun x s'=>(x= .normal∧ ∃l10 n11,(l10,n11)=r12∧Sub s' (ofG 45 (kH (kBJ n11 (a1_.length:Int) n4)),(bS l10::(kB a0_ l10 (kAD a2_ a3_ a4_ a5_ a6_ [])))))) ?_ ?_
    ·refine Goes.block ?_
     refine sh fol (kH (kA6 n5 n4 [(11,.i (a1_.length:Int)),(12,.i n4)])) ?_
     obtain⟨x13,e_x13,g12⟩:=bnd g12
     refine sq (gr fol [3] (kH ((6,.i n5)::(kAL n4 (a1_.length:Int) []))) (ac (hs (.done (.opt (zQ Tryz.prog 45 (.slice 0 0 l3.length l3.length 9) (.i n4))) (.ptr 0 ((n4:Int).toNat*9+0))) (qq8 qh3 e_x13)) az) ?_)
     refine sq ?_
     obtain⟨x14,e_x14,g12⟩:=bnd g12
     refine sq (gr fol [3,6,7] (kH ((6,.i n5)::(kAL n4 (a1_.length:Int) [(27,.bool (!(x13.Batch==x14)))]))) (ac (hs (.run [0] (qbo Tryz.prog 9 (.ptr 0 ((n4:Int).toNat*9+1))) (bS l3::(kB a0_ l3 (kAD a2_ a3_ a4_ a5_ a6_ []))) (.str x13.Batch) (bS l3::(kB a0_ l3 (kAD a2_ a3_ a4_ a5_ a6_ []))) false) (ld_p ce9 (E:=qo) (l:=l3) rfl rfl e_x13 (nl rfl) rfl)) (ac (iv qdk encS e_x14) (ac (lv 0 ce9 encS e_x14 rfl) az))) ?_)
     refine ihB g12 (fun c15 g12=>?_) (fun c15 g12=>?_)
     ·refine Goes.exit ?_
      obtain rfl:=si g12
      exact⟨rfl,_,_,rfl,(Sub.keep [2,3,4,6,11,12] rfl rfl)⟩
     ·refine Goes.skip ?_
      refine sq ?_
      refine sh fol (kH ((6,.i n5)::(kAL n4 (a1_.length:Int) [(29,.bool (decide (n5=10)))]))) ?_
      obtain⟨r17,g17,g12⟩:=bnd g12
      refine Goes.imp (Q:=fun x s'=>(x= .normal∧ ∃n16,n16=r17∧Sub s' (ofG 45 (kH ((6,.i n16)::(kAL n4 (a1_.length:Int) []))),(bS l3::(kB a0_ l3 (kAD a2_ a3_ a4_ a5_ a6_ [])))))) ?_ ?_
      ·refine ihD g17 (fun c18 g17=>?_) (fun c18 g17=>?_)
       ·refine gh fol (kH (kBj (kAL n4 (a1_.length:Int) []))) ?_
        obtain rfl:=si g17
        exact⟨rfl,_,rfl,(Sub.refl _)⟩
       ·refine Goes.skip ?_
        obtain rfl:=si g17
        exact⟨rfl,_,rfl,(Sub.keep [2,3,4,6,8,11,12] rfl rfl)⟩
      rintro x s' ⟨rfl,n16,rfl,hsub⟩
      refine Goes.sub hsub ?_
      refine sq ?_
      obtain⟨x19,e_x19,g12⟩:=bnd g12
      obtain⟨r20,e_r20,g12⟩:=bnd g12
      refine sq (gr fol [2,5,6,7] (kH ((6,.i n16)::(kAL n4 (a1_.length:Int) [(38,.bool (!r20))]))) (ac (hs (.run [0] (qbo Tryz.prog 102 (.ptr 0 ((n4:Int).toNat*9+0))) (bS l3::(kB a0_ l3 (kAD a2_ a3_ a4_ a5_ a6_ []))) (.agg (cS x13)) (bS l3::(kB a0_ l3 (kAD a2_ a3_ a4_ a5_ a6_ []))) false) (qnG qtl (E:=qo) (l:=l3) rfl rfl e_x13)) (ac (iv qfS encI e_x19) (ac (lv 0 ce3 encI e_x19 rfl) (ac (cv (qeI x13 x19 e_r20)) az)))) ?_)
      obtain⟨r22,g22,g12⟩:=bnd g12
      refine Goes.imp (Q:=fun x s'=>(x= .normal∧ ∃n21,n21=r22∧Sub s' (ofG 45 (kH ((6,.i n21)::(kAL n4 (a1_.length:Int) []))),(bS l3::(kB a0_ l3 (kAD a2_ a3_ a4_ a5_ a6_ [])))))) ?_ ?_
      ·refine ihB g22 (fun c23 g22=>?_) (fun c23 g22=>?_)
       ·refine gh fol (kH ((6,.i 0)::(kAL n4 (a1_.length:Int) []))) ?_
        obtain rfl:=si g22
        exact⟨rfl,_,rfl,(Sub.refl _)⟩
       ·refine Goes.skip ?_
        obtain rfl:=si g22
        exact⟨rfl,_,rfl,(Sub.keep [2,3,4,6,8,11,12] rfl rfl)⟩
      rintro x s' ⟨rfl,n21,rfl,hsub⟩
      refine Goes.sub hsub ?_
      obtain⟨l24,e_l24,g12⟩:=bnd g12
      refine gq fol [3] (kH (kBJ n21 (a1_.length:Int) n4)) (bS l24::(kB a0_ l3 (kAD a2_ a3_ a4_ a5_ a6_ []))) (ac (hs (.run [0] (qex Tryz.prog 4 (.ptr 0 ((n4:Int).toNat*9+8)) (.bool true)) (bS l3::(kB a0_ l3 (kAD a2_ a3_ a4_ a5_ a6_ []))) .undef (bS l24::(kB a0_ l3 (kAD a2_ a3_ a4_ a5_ a6_ []))) true) (qkL (E:=qo) (l:=l3) (y:=(⟨x13.Name,x13.Batch,x13.Born,x13.Last,x13.Uses,x13.Used,x13.Limit,x13.Until,true⟩:qg)) rfl (show _=some 1 by kernel_rfl) rfl e_x13 rfl rfl rfl rfl rfl e_l24 rfl)) az) ?_
      obtain rfl:=si g12
      exact⟨rfl,_,_,rfl,((show Sub (ofG 45 (kH (kBJ n21 (a1_.length:Int) n4)),(bS l24::(kB a0_ l3 (kAD a2_ a3_ a4_ a5_ a6_ [])))) (ofG 45 (kH (kBJ n21 (a1_.length:Int) n4)),(bS l24::(kB a0_ l24 (kAD a2_ a3_ a4_ a5_ a6_ []))))from(Sub.norm [] [some 0,some 1,some 2,some 3] (by rw[hB];rfl) rfl (.kp (.kp (.kp (.keep (.same nI) (.keep (.same nI) (.keep (.same nI) .nil)))))) (.ks (.kb rfl (.cells (rc (.same nI) (rc (.sliceE rfl (qfJ e_l24)) rn))) (.kb rfl (.same sn) (.kb rfl (.same sn) .nil)))))).trans (Sub.refl _))⟩
    rintro x s' ⟨rfl,l10,n11,rfl,hsub⟩
    try dsimp only at g8
    refine Goes.sub hsub ?_
    refine gh fol (kH (kBJ n11 (a1_.length:Int) (w64 (n4+1)))) ?_
    exact⟨M,(ofG 45 (kH (kBJ n11 (a1_.length:Int) (w64 (n4+1)))),(bS l10::(kB a0_ l10 (kAD a2_ a3_ a4_ a5_ a6_ [])))),Nat.lt_succ_self _,(Sub.refl _),_,_,_,rfl,g8⟩
   ·refine Goes.exit ?_
    obtain rfl:=si g8
    exact⟨rfl,_,_,rfl,(Sub.norm [] [some 0,some 1,some 3] (by rw[hB];rfl) rfl (.kp (.drop (.kp (.keep (.same nI) .nil)))) (.ks (.kb rfl (.cells (rc (.same nI) (rc (.slice rfl) rn))) (.kb rfl (.same sn) .nil))))⟩
 rintro x s' ⟨rfl,l6,n7,rfl,hsub⟩
 try dsimp only at h
 refine Goes.sub hsub ?_
 refine sg fol ((4,.ptr 2 0)::(kAm n7)) (bS l6::(kB a0_ l6 (kB a0_ l6 []))) ?_
 refine Goes.ret ?_
 simp only[Option.some.injEq,Prod.mk.injEq]at h
 obtain⟨rfl,rfl⟩:=h
 exact(gh2 (kM a0_ l6 [.i n7]) (Sub.norm [] [some 0] (by rw[hB];rfl) rfl (.keep (.tupleL (rc (.aggL (rc (.same nI) (rc (.slice rfl) rn))) (rc (.same nI) rn))) .nil) (.ks .nil)))
def zb (N:Nat) (a0_:Int) (a1_:List qg) (a2_:Int) (a3_:Str) (a4_:List Str) (a5_:List Int) (a6_:Str):Option (Int×(List qg)×Int):=
 (idx a5_ 0).bind fun x4=>
 (qcf x4).bind fun r5=>
 (za (decide (x4<a0_)) 19).bind fun r6=>
 (kz N ([r5,r6]:List Int)).bind fun r7=>
 if(!decide (r7=0))=true then
 some (0,[],r7)
 else
 ((xm).bind fun r9=>
 if(a3_==[109,97,107,101])=true then
 (qH a0_ a1_).bind fun l12=>
 (qdT N a0_ l12 a2_ a3_ a4_ a5_ a6_).bind fun(l14,n15)=>
 some (l14,n15)
 else
 if(a3_==[116,101,115,116])=true then
 (qH a0_ a1_).bind fun l18=>
 (qcI N a0_ l18 a2_ a3_ a4_ a5_ a6_).bind fun(l20,n21)=>
 some (l20,n21)
 else
 if(a3_==[117,115,101])=true then
 (qH a0_ a1_).bind fun l24=>
 (qdG N a0_ l24 a2_ a3_ a4_ a5_ a6_).bind fun(l26,n27)=>
 some (l26,n27)
 else
 if(a3_==[102,97,105,108])=true then
 (qH a0_ a1_).bind fun l30=>
 (qcP N a0_ l30 a2_ a3_ a4_ a5_ a6_).bind fun(l32,n33)=>
 some (l32,n33)
 else
 if(a3_==[114,101,99,97,108,108])=true then
 (qH a0_ a1_).bind fun l36=>
 (qb9 N a0_ l36 a2_ a3_ a4_ a5_ a6_).bind fun(l38,n39)=>
 some (l38,n39)
 else
 if(a3_==[117,110,100,111])=true then
 none
 else
 none:Option ((List qg)×Int)).bind fun(l45,n46)=>
 some (x4,l45,n46)
theorem qgu (N:Nat) (a0_:Int) (a1_:List qg) (a2_:Int) (a3_:Str) (a4_:List Str) (a5_:List Int) (a6_:Str) {n1:Int} {l2:List qg} {n3:Int} (h:zb N a0_ a1_ a2_ a3_ a4_ a5_ a6_=some (n1,l2,n3)):qj Tryz.prog (.fn 161) (kA0 a0_ a1_ [.agg (cF a2_ a3_ a4_ a5_ a6_)]) [] (.tuple (kA0 n1 l2 [.i n3])) []:=by
 unfold zb at h
 refine Goes.fnH Tryz.func161 rfl rfl (m:=43) rfl (rs:=[.cell 4 47,.tmp 5]) rfl (l:=[(0,.agg [.i a0_,vl qo a1_]),(1,.agg (cF a2_ a3_ a4_ a5_ a6_))]) rfl ?_
 intro B hB
 refine sg fol (kAd (kA2 [(4,.ptr 2 0)])) (kZ a0_ a1_ (kAD a2_ a3_ a4_ a5_ a6_ [])) ?_
 obtain⟨x4,e_x4,h⟩:=bnd h
 refine sq (gr fol [2,3] (kAd (kA2 ((4,.ptr 2 0)::(kBM x4)))) (ac (iv qfS encI e_x4) (ac (lv 0 ce3 encI e_x4 rfl) az)) ?_)
 refine sq ?_
 obtain⟨r5,e_r5,h⟩:=bnd h
 obtain⟨r6,e_r6,h⟩:=bnd h
 obtain⟨r7,e_r7,h⟩:=bnd h
 refine sq (gq fol [1,6,8] (kAd (kA2 ((4,.ptr 2 0)::(kA6 x4 r7 [])))) (kG a0_ a1_ a2_ a3_ a4_ a5_ a6_ r5 r6 []) (ac (cv (qgX x4 e_r5)) (ac (cv (kr (decide (x4<a0_)) 19 e_r6)) (ac (hs (.call 37 [.slice 3 0 2 2 1] (kG a0_ a1_ a2_ a3_ a4_ a5_ a6_ r5 r6 []) [3] [vl encI ([r5,r6]:List Int)] (.i r7)) (qbz (FzL.cons (Fz.lit rfl rfl (FzL.still (AllST.cons tI (AllST.cons tI AllST.nil)))) FzL.nil) (zA N ([r5,r6]:List Int) e_r7) tI rfl)) az))) ?_)
 refine sh fol (kAd (kA2 ((4,.ptr 2 0)::(kA6 x4 r7 [(24,.bool (!decide (r7=0)))])))) ?_
 refine ihB h (fun c8 h=>?_) (fun c8 h=>?_)
 ·refine sh fol ((4,.ptr 2 0)::(kAm r7)) ?_
  refine Goes.ret ?_
  simp only[Option.some.injEq,Prod.mk.injEq]at h
  obtain⟨rfl,rfl,rfl⟩:=h
  exact(gh2 [.agg [.i 0,.nilslice],.i r7] (Sub.norm [] [] (by rw[hB];rfl) rfl (.keep (.tupleL (rc (.aggL (rc (.same nI) (rc (.nilv) rn))) (rc (.same nI) rn))) .nil) .nil))
 ·refine Goes.skip ?_
  refine sq ?_
  obtain⟨⟨l45,n46⟩,g_v47,h⟩:=bnd h
  refine Goes.cutS (s':=(ofG 43 (kBU [(6,.i x4),(8,.ptr 1 0),(9,.i n46)]),(bZ::(kZ a0_ l45 [])))) ?_ ?_
  ·obtain⟨r9,e_r9,g_v47⟩:=bnd g_v47
   rcases wyB g_v47 with⟨c10,g_v47⟩|⟨c10,g_v47⟩
   ·obtain⟨l12,e_r11,g_v47⟩:=bnd g_v47
    obtain⟨⟨l14,n15⟩,e_r13,g_v47⟩:=bnd g_v47
    try dsimp only at g_v47
    simp only[Option.some.injEq,Prod.mk.injEq]at g_v47
    obtain⟨rfl,rfl⟩:=g_v47
    exact qW.sub (qW.rq fol [0,3,6,8] (kAs x4 n15) (kG a0_ a1_ a2_ a3_ a4_ a5_ a6_ r5 r6 (.dead::(kZ a0_ l14 []))) (ac (cv (zm e_r9)) (ac (hs (.done (vg Tryz.prog 140 (fm1) (.str a3_) false) (.agg [.i 2,.i 3,.func (.func 117) [] []])) (qmi qeW [[109,97,107,101],[116,101,115,116],[117,115,101],[102,97,105,108],[114,101,99,97,108,108],[117,110,100,111]] (qaR c10) rfl)) (ac (hs (.callH 49 [.agg (kBG a0_ a1_)] (kG a0_ a1_ a2_ a3_ a4_ a5_ a6_ r5 r6 []) [] (.agg (kBP a0_ l12)) (kG a0_ a1_ a2_ a3_ a4_ a5_ a6_ r5 r6 [bS l12])) (xY [] [none,none,none,none,some 0] (yT a0_ a1_ e_r11) .nil rfl rfl (.old rfl rfl (.old rfl rfl (.old rfl rfl (.old rfl rfl (.new rfl rfl (.same fa) rfl .nil))))) (rc (.same (qK.agg sn)) rn) (.aggL (rc (.same nI) (rc (.slice rfl) rn))) rfl)) (ac (hs (.callH 117 (kAX a0_ l12 [.agg (cF a2_ a3_ a4_ a5_ a6_)]) (kG a0_ a1_ a2_ a3_ a4_ a5_ a6_ r5 r6 [bS l12]) [4] (.tuple (kA0 a0_ l14 [.i n15])) (kG a0_ a1_ a2_ a3_ a4_ a5_ a6_ r5 r6 [.dead])) (xY [some 4] [none,none,none,none,none] (qlO N a0_ l12 a2_ a3_ a4_ a5_ a6_ e_r13) (.ks .nil) rfl rfl (.old rfl rfl (.old rfl rfl (.old rfl rfl (.old rfl rfl (.dead .nil))))) (rc (.aggL (rc (.same nI) (rc (.slice rfl) rn))) (rc (.same (qK.agg sn)) rn)) (.same (qK.tuple sn)) rfl)) az))))) (Sub.norm [] [some 2,some 5] (by rw[hB];rfl) rfl (.kp (.keep (.same nI) (.kp (.keep (.same nI) .nil)))) (.kb rfl (.same sn) (.kb rfl (.same sn) .nil)))
   ·rcases wyB g_v47 with⟨c16,g_v47⟩|⟨c16,g_v47⟩
    ·obtain⟨l18,e_r17,g_v47⟩:=bnd g_v47
     obtain⟨⟨l20,n21⟩,e_r19,g_v47⟩:=bnd g_v47
     try dsimp only at g_v47
     simp only[Option.some.injEq,Prod.mk.injEq]at g_v47
     obtain⟨rfl,rfl⟩:=g_v47
     exact qW.sub (qW.rq fol [0,3,6,8] (kAs x4 n21) (kG a0_ a1_ a2_ a3_ a4_ a5_ a6_ r5 r6 (kBC l20 a0_)) (ac (cv (zm e_r9)) (ac (hs (.done (vg Tryz.prog 140 (fm1) (.str a3_) false) (.agg [.i 1,.i 2,.func (.func 118) [] []])) (qmi qeW [[109,97,107,101],[116,101,115,116],[117,115,101],[102,97,105,108],[114,101,99,97,108,108],[117,110,100,111]] (qx c10 (qaR c16)) rfl)) (ac (hs (.callH 49 [.agg (kBG a0_ a1_)] (kG a0_ a1_ a2_ a3_ a4_ a5_ a6_ r5 r6 []) [] (.agg (kBP a0_ l18)) (kG a0_ a1_ a2_ a3_ a4_ a5_ a6_ r5 r6 [bS l18])) (xY [] [none,none,none,none,some 0] (yT a0_ a1_ e_r17) .nil rfl rfl (.old rfl rfl (.old rfl rfl (.old rfl rfl (.old rfl rfl (.new rfl rfl (.same fa) rfl .nil))))) (rc (.same (qK.agg sn)) rn) (.aggL (rc (.same nI) (rc (.slice rfl) rn))) rfl)) (ac (hs (.callH 118 (kAX a0_ l18 [.agg (cF a2_ a3_ a4_ a5_ a6_)]) (kG a0_ a1_ a2_ a3_ a4_ a5_ a6_ r5 r6 [bS l18]) [4] (.tuple (kAX a0_ l20 [.i n21])) (kG a0_ a1_ a2_ a3_ a4_ a5_ a6_ r5 r6 [bS l20])) (xY [some 4] [none,none,none,none,some 0] (qkt N a0_ l18 a2_ a3_ a4_ a5_ a6_ e_r19) (.ks .nil) rfl rfl (.old rfl rfl (.old rfl rfl (.old rfl rfl (.old rfl rfl (.back rfl rfl (.same fa) rfl .nil))))) (rc (.aggL (rc (.same nI) (rc (.slice rfl) rn))) (rc (.same (qK.agg sn)) rn)) (.tupleL (rc (.aggL (rc (.same nI) (rc (.slice rfl) rn))) (rc (.same nI) rn))) rfl)) az))))) (Sub.norm [4] [some 2,some 5] (by rw[hB];rfl) rfl (.kp (.keep (.same nI) (.kp (.keep (.same nI) .nil)))) (.kb rfl (.same sn) (.kb rfl (.cells (rc (.same nI) (rc (.frz (Fz.sl (E:=qo) rfl rfl (nl rfl)) (qp qo _)) rn))) .nil)))
    ·rcases wyB g_v47 with⟨c22,g_v47⟩|⟨c22,g_v47⟩
     ·obtain⟨l24,e_r23,g_v47⟩:=bnd g_v47
      obtain⟨⟨l26,n27⟩,e_r25,g_v47⟩:=bnd g_v47
      try dsimp only at g_v47
      simp only[Option.some.injEq,Prod.mk.injEq]at g_v47
      obtain⟨rfl,rfl⟩:=g_v47
      exact qW.sub (qW.rq fol [0,3,6,8] (kAs x4 n27) (kG a0_ a1_ a2_ a3_ a4_ a5_ a6_ r5 r6 (kBC l26 a0_)) (ac (cv (zm e_r9)) (ac (hs (.done (vg Tryz.prog 140 (fm1) (.str a3_) false) (.agg [.i 1,.i 2,.func (.func 119) [] []])) (qmi qeW [[109,97,107,101],[116,101,115,116],[117,115,101],[102,97,105,108],[114,101,99,97,108,108],[117,110,100,111]] (qx c10 (qx c16 (qaR c22))) rfl)) (ac (hs (.callH 49 [.agg (kBG a0_ a1_)] (kG a0_ a1_ a2_ a3_ a4_ a5_ a6_ r5 r6 []) [] (.agg (kBP a0_ l24)) (kG a0_ a1_ a2_ a3_ a4_ a5_ a6_ r5 r6 [bS l24])) (xY [] [none,none,none,none,some 0] (yT a0_ a1_ e_r23) .nil rfl rfl (.old rfl rfl (.old rfl rfl (.old rfl rfl (.old rfl rfl (.new rfl rfl (.same fa) rfl .nil))))) (rc (.same (qK.agg sn)) rn) (.aggL (rc (.same nI) (rc (.slice rfl) rn))) rfl)) (ac (hs (.callH 119 (kAX a0_ l24 [.agg (cF a2_ a3_ a4_ a5_ a6_)]) (kG a0_ a1_ a2_ a3_ a4_ a5_ a6_ r5 r6 [bS l24]) [4] (.tuple (kAX a0_ l26 [.i n27])) (kG a0_ a1_ a2_ a3_ a4_ a5_ a6_ r5 r6 [bS l26])) (xY [some 4] [none,none,none,none,some 0] (qlN N a0_ l24 a2_ a3_ a4_ a5_ a6_ e_r25) (.ks .nil) rfl rfl (.old rfl rfl (.old rfl rfl (.old rfl rfl (.old rfl rfl (.back rfl rfl (.same fa) rfl .nil))))) (rc (.aggL (rc (.same nI) (rc (.slice rfl) rn))) (rc (.same (qK.agg sn)) rn)) (.tupleL (rc (.aggL (rc (.same nI) (rc (.slice rfl) rn))) (rc (.same nI) rn))) rfl)) az))))) (Sub.norm [4] [some 2,some 5] (by rw[hB];rfl) rfl (.kp (.keep (.same nI) (.kp (.keep (.same nI) .nil)))) (.kb rfl (.same sn) (.kb rfl (.cells (rc (.same nI) (rc (.frz (Fz.sl (E:=qo) rfl rfl (nl rfl)) (qp qo _)) rn))) .nil)))
     ·rcases wyB g_v47 with⟨c28,g_v47⟩|⟨c28,g_v47⟩
      ·obtain⟨l30,e_r29,g_v47⟩:=bnd g_v47
       obtain⟨⟨l32,n33⟩,e_r31,g_v47⟩:=bnd g_v47
       try dsimp only at g_v47
       simp only[Option.some.injEq,Prod.mk.injEq]at g_v47
       obtain⟨rfl,rfl⟩:=g_v47
       exact qW.sub (qW.rq fol [0,3,6,8] (kAs x4 n33) (kG a0_ a1_ a2_ a3_ a4_ a5_ a6_ r5 r6 (kBC l32 a0_)) (ac (cv (zm e_r9)) (ac (hs (.done (vg Tryz.prog 140 (fm1) (.str a3_) false) (.agg [.i 1,.i 1,.func (.func 120) [] []])) (qmi qeW [[109,97,107,101],[116,101,115,116],[117,115,101],[102,97,105,108],[114,101,99,97,108,108],[117,110,100,111]] (qx c10 (qx c16 (qx c22 (qaR c28)))) rfl)) (ac (hs (.callH 49 [.agg (kBG a0_ a1_)] (kG a0_ a1_ a2_ a3_ a4_ a5_ a6_ r5 r6 []) [] (.agg (kBP a0_ l30)) (kG a0_ a1_ a2_ a3_ a4_ a5_ a6_ r5 r6 [bS l30])) (xY [] [none,none,none,none,some 0] (yT a0_ a1_ e_r29) .nil rfl rfl (.old rfl rfl (.old rfl rfl (.old rfl rfl (.old rfl rfl (.new rfl rfl (.same fa) rfl .nil))))) (rc (.same (qK.agg sn)) rn) (.aggL (rc (.same nI) (rc (.slice rfl) rn))) rfl)) (ac (hs (.callH 120 (kAX a0_ l30 [.agg (cF a2_ a3_ a4_ a5_ a6_)]) (kG a0_ a1_ a2_ a3_ a4_ a5_ a6_ r5 r6 [bS l30]) [4] (.tuple (kAX a0_ l32 [.i n33])) (kG a0_ a1_ a2_ a3_ a4_ a5_ a6_ r5 r6 [bS l32])) (xY [some 4] [none,none,none,none,some 0] (qkv N a0_ l30 a2_ a3_ a4_ a5_ a6_ e_r31) (.ks .nil) rfl rfl (.old rfl rfl (.old rfl rfl (.old rfl rfl (.old rfl rfl (.back rfl rfl (.same fa) rfl .nil))))) (rc (.aggL (rc (.same nI) (rc (.slice rfl) rn))) (rc (.same (qK.agg sn)) rn)) (.tupleL (rc (.aggL (rc (.same nI) (rc (.slice rfl) rn))) (rc (.same nI) rn))) rfl)) az))))) (Sub.norm [4] [some 2,some 5] (by rw[hB];rfl) rfl (.kp (.keep (.same nI) (.kp (.keep (.same nI) .nil)))) (.kb rfl (.same sn) (.kb rfl (.cells (rc (.same nI) (rc (.frz (Fz.sl (E:=qo) rfl rfl (nl rfl)) (qp qo _)) rn))) .nil)))
      ·rcases wyB g_v47 with⟨c34,g_v47⟩|⟨c34,g_v47⟩
       ·obtain⟨l36,e_r35,g_v47⟩:=bnd g_v47
        obtain⟨⟨l38,n39⟩,e_r37,g_v47⟩:=bnd g_v47
        try dsimp only at g_v47
        simp only[Option.some.injEq,Prod.mk.injEq]at g_v47
        obtain⟨rfl,rfl⟩:=g_v47
        exact qW.sub (qW.rq fol [0,3,6,8] (kAs x4 n39) (kG a0_ a1_ a2_ a3_ a4_ a5_ a6_ r5 r6 (kBC l38 a0_)) (ac (cv (zm e_r9)) (ac (hs (.done (vg Tryz.prog 140 (fm1) (.str a3_) false) (.agg [.i 1,.i 1,.func (.func 121) [] []])) (qmi qeW [[109,97,107,101],[116,101,115,116],[117,115,101],[102,97,105,108],[114,101,99,97,108,108],[117,110,100,111]] (qx c10 (qx c16 (qx c22 (qx c28 (qaR c34))))) rfl)) (ac (hs (.callH 49 [.agg (kBG a0_ a1_)] (kG a0_ a1_ a2_ a3_ a4_ a5_ a6_ r5 r6 []) [] (.agg (kBP a0_ l36)) (kG a0_ a1_ a2_ a3_ a4_ a5_ a6_ r5 r6 [bS l36])) (xY [] [none,none,none,none,some 0] (yT a0_ a1_ e_r35) .nil rfl rfl (.old rfl rfl (.old rfl rfl (.old rfl rfl (.old rfl rfl (.new rfl rfl (.same fa) rfl .nil))))) (rc (.same (qK.agg sn)) rn) (.aggL (rc (.same nI) (rc (.slice rfl) rn))) rfl)) (ac (hs (.callH 121 (kAX a0_ l36 [.agg (cF a2_ a3_ a4_ a5_ a6_)]) (kG a0_ a1_ a2_ a3_ a4_ a5_ a6_ r5 r6 [bS l36]) [4] (.tuple (kAX a0_ l38 [.i n39])) (kG a0_ a1_ a2_ a3_ a4_ a5_ a6_ r5 r6 [bS l38])) (xY [some 4] [none,none,none,none,some 0] (qjf N a0_ l36 a2_ a3_ a4_ a5_ a6_ e_r37) (.ks .nil) rfl rfl (.old rfl rfl (.old rfl rfl (.old rfl rfl (.old rfl rfl (.back rfl rfl (.same fa) rfl .nil))))) (rc (.aggL (rc (.same nI) (rc (.slice rfl) rn))) (rc (.same (qK.agg sn)) rn)) (.tupleL (rc (.aggL (rc (.same nI) (rc (.slice rfl) rn))) (rc (.same nI) rn))) rfl)) az))))) (Sub.norm [4] [some 2,some 5] (by rw[hB];rfl) rfl (.kp (.keep (.same nI) (.kp (.keep (.same nI) .nil)))) (.kb rfl (.same sn) (.kb rfl (.cells (rc (.same nI) (rc (.frz (Fz.sl (E:=qo) rfl rfl (nl rfl)) (qp qo _)) rn))) .nil)))
       ·rcases wyB g_v47 with⟨c40,g_v47⟩|⟨c40,g_v47⟩
        ·cases g_v47
        ·cases g_v47
  intro _ hsub
  try dsimp only at h
  refine Goes.sub hsub ?_
  refine sg fol (kBU [(8,.ptr 1 0),(9,.i n46)]) (bZ::(kZ x4 l45 [])) ?_
  refine sg fol (kBU (kAm n46)) (kZ x4 l45 (kZ x4 l45 [])) ?_
  refine Goes.ret ?_
  simp only[Option.some.injEq,Prod.mk.injEq]at h
  obtain⟨rfl,rfl,rfl⟩:=h
  exact(gh2 (kA0 x4 l45 [.i n46]) (Sub.norm [] [] (by rw[hB];rfl) rfl (.keep (.tupleL (rc (.aggL (rc (.same nI) (rc (.same (qp qo _)) rn))) (rc (.same nI) rn))) .nil) .nil))
def qaY (N:Nat) (a0_:List qh) (a1_:Option (List StateT)) (a2_:Int) (a3_:Str) (a4_:List Str) (a5_:List Int) (a6_:Str):Option ((List qh)×(Option (List StateT))×Int):=
 if(!decide (a2_=(w64 ((a0_.length:Int)+1))))=true then
 some (a0_,a1_,11)
 else
 if(a3_==[117,110,100,111])=true then
 ((match a1_ with
 |none=>
 some ((none:Option (List StateT)),decide (0=0))
 |some l6=>
 some ((some l6),decide ((l6.length:Int)=0))):Option ((Option (List StateT))×Bool)).bind fun(o7,b8)=>
 if b8=true then
 some (a0_,o7,12)
 else
 ((match o7 with
 |none=>
 (cut ([]:List StateT) 0 (w64 (0-1))).bind fun s12=>
 some (none:Option (List StateT))
 |some l11=>
 (cut l11 0 (w64 ((l11.length:Int)-1))).bind fun l13=>
 some (some l13)):Option (Option (List StateT))).bind fun o14=>
 (qaK (⟨a2_,a3_,a4_,a5_,a6_⟩:qh)).bind fun r16=>
 (app 88 a0_ [r16]).bind fun l17=>
 some (l17,o14,0)
 else
 (vG a0_ a1_).bind fun(o19,n20,l21)=>
 (zb N n20 l21 a2_ a3_ a4_ a5_ a6_).bind fun(n23,l24,n25)=>
 if(!decide (n25=0))=true then
 some (a0_,o19,n25)
 else
 ((match o19 with
 |none=>
 some ([(⟨a2_,(⟨n23,l24⟩:qcE)⟩:StateT)]:List StateT)
 |some l27=>
 (app 40 l27 [(⟨a2_,(⟨n23,l24⟩:qcE)⟩:StateT)]).bind fun l28=>
 some l28):Option (List StateT)).bind fun l29=>
 (qaK (⟨a2_,a3_,a4_,a5_,a6_⟩:qh)).bind fun r31=>
 (app 88 a0_ [r31]).bind fun l32=>
 some (l32,(some l29),0)
theorem qg8 (N:Nat) (a0_:List qh) (a1_:Option (List StateT)) (a2_:Int) (a3_:Str) (a4_:List Str) (a5_:List Int) (a6_:Str) {l1:List qh} {o2:Option (List StateT)} {n3:Int} (h:qaY N a0_ a1_ a2_ a3_ a4_ a5_ a6_=some (l1,o2,n3)):qj Tryz.prog (.fn 115) [.ptr 0 0,.agg (cF a2_ a3_ a4_ a5_ a6_)] (kA a0_ a1_ []) (.i n3) (.cells [.gslice 3 l1.length 5,hsl 4 3 o2]:: .dead:: .dead::(kAM l1 (kA9 o2 []))):=by
 unfold qaY at h
 refine Goes.fnH Tryz.func115 rfl rfl (m:=73) rfl (rs:=[.tmp 4]) rfl (l:=[(0,.ptr 0 0),(1,.agg (cF a2_ a3_ a4_ a5_ a6_))]) rfl ?_
 intro B hB
 refine sg fol (kAG []) (kA a0_ a1_ [.cells (cF a2_ a3_ a4_ a5_ a6_)]) ?_
 refine sq ?_
 refine sh fol (kAG [(15,.bool (!decide (a2_=(w64 ((a0_.length:Int)+1)))))]) ?_
 refine ihB h (fun c4 h=>?_) (fun c4 h=>?_)
 ·refine sh fol [(4,.i 11)] ?_
  refine Goes.ret ?_
  simp only[Option.some.injEq,Prod.mk.injEq]at h
  obtain⟨rfl,rfl,rfl⟩:=h
  exact(gh2 [.i 11] (Sub.norm [] [some 0,some 1,some 2,some 1,some 2] (by rw[hB];rfl) rfl (.keep (.same nI) .nil) (.kb rfl (.cells (rc (.gslice rfl) (rc (.hs rfl) rn))) (.lost (.lost (.ks (.ks .nil)))))))
 ·refine Goes.skip ?_
  refine sq ?_
  refine sh fol (kAG [(18,.bool (a3_==[117,110,100,111]))]) ?_
  refine ihB h (fun c5 h=>?_) (fun c5 h=>?_)
  ·refine sq ?_
   refine sq ?_
   obtain⟨⟨o7,b8⟩,g_v9,h⟩:=bnd h
   refine Goes.cutS (s':=(ofG 73 (kAG [(24,.bool b8)]),(kA a0_ o7 [.cells (cF a2_ a3_ a4_ a5_ a6_)]))) ?_ ?_
   ·rcases a1_ with _|l6
    ·try dsimp only at g_v9
     simp only[Option.some.injEq,Prod.mk.injEq]at g_v9
     obtain⟨rfl,rfl⟩:=g_v9
     exact qW.sub (qW.rg fol (kAG [(24,.bool (decide (0=0)))]) (kBf a0_ (kAM a0_ [.cells ((hof (none:Option (List StateT))).flatMap qac.c),.cells (cF a2_ a3_ a4_ a5_ a6_)]))) (Sub.norm [] [some 0,some 1,some 2,some 3] (by rw[hB];rfl) rfl (.kp (.kp (.keep (.same nB) .nil))) (.kb rfl (.cells (rc (.gslice rfl) (rc .hs0 rn))) (.ks (.ks (.kb rfl (.same sn) .nil)))))
    ·try dsimp only at g_v9
     simp only[Option.some.injEq,Prod.mk.injEq]at g_v9
     obtain⟨rfl,rfl⟩:=g_v9
     exact qW.sub (qW.rg fol (kAG [(24,.bool (decide ((l6.length:Int)=0)))]) (kP a0_ l6 (kAP l6 [.cells (cF a2_ a3_ a4_ a5_ a6_)]))) (Sub.norm [] [some 0,some 1,some 2,some 3] (by rw[hB];rfl) rfl (.kp (.kp (.keep (.same nB) .nil))) (.kb rfl (.cells (rc (.gslice rfl) (rc ((xw.hs1 rfl)) rn))) (.ks (.ks (.kb rfl (.same sn) .nil)))))
   intro _ hsub
   try dsimp only at h
   refine Goes.sub hsub ?_
   refine ihB h (fun c10 h=>?_) (fun c10 h=>?_)
   ·refine sh fol [(4,.i 12)] ?_
    refine Goes.ret ?_
    simp only[Option.some.injEq,Prod.mk.injEq]at h
    obtain⟨rfl,rfl,rfl⟩:=h
    exact(gh2 [.i 12] (Sub.norm [] [some 0,some 1,some 2,some 1,some 2] (by rw[hB];rfl) rfl (.keep (.same nI) .nil) (.kb rfl (.cells (rc (.gslice rfl) (rc (.hs rfl) rn))) (.lost (.lost (.ks (.ks .nil)))))))
   ·refine Goes.skip ?_
    obtain⟨o14,g_v15,h⟩:=bnd h
    refine Goes.cutS (s':=(ofG 73 (kAG []),(kA a0_ o14 [.cells (cF a2_ a3_ a4_ a5_ a6_)]))) ?_ ?_
    ·rcases o7 with _|l11
     ·try dsimp only at g_v15
      obtain⟨s12,e_s12,g_v15⟩:=bnd g_v15
      obtain rfl:=si g_v15
      exact qW.sub (qW.rq fol [11] (kAG []) (kBf a0_ (kAM a0_ [.cells ((hof (none:Option (List StateT))).flatMap qac.c),.cells (cF a2_ a3_ a4_ a5_ a6_)])) (ac (hs (.done (.opt (yf Tryz.prog 130 .nilslice none (some (.i (w64 (0-1)))) none)) .nilslice) (qxz (α:=StateT) qs6 none (some (w64 (0-1))) e_s12)) az)) (Sub.norm [] [some 0,some 1,some 2,some 3] (by rw[hB];rfl) rfl (.kp (.kp .nil)) (.kb rfl (.cells (rc (.gslice rfl) (rc .hs0 rn))) (.ks (.ks (.kb rfl (.same sn) .nil)))))
     ·try dsimp only at g_v15
      obtain⟨l13,e_l13,g_v15⟩:=bnd g_v15
      obtain rfl:=si g_v15
      exact qW.sub (qW.rq fol [11] (kAG []) (kP a0_ l13 (kAP l11 [.cells (cF a2_ a3_ a4_ a5_ a6_)])) (ac (hs (.done (.opt (yf Tryz.prog 130 (.oslice 2 l11.length 3) none (some (.i (w64 ((l11.length:Int)-1)))) none)) (.oslice 2 l13.length 3)) (sh_os qs6 e_l13)) az)) ((show Sub (ofG 73 (kAG []),(kP a0_ l13 (kAP l11 [.cells (cF a2_ a3_ a4_ a5_ a6_)]))) (ofG 73 (kAG []),(kP a0_ l13 (kAP l13 [.cells (cF a2_ a3_ a4_ a5_ a6_)])))from(Sub.norm [] [some 0,some 1,some 2,some 3] (by rw[hB];rfl) rfl (.kp (.kp .nil)) (.kb rfl (.cells (rc (.gslice rfl) (rc (.oslice rfl) rn))) (.ks (.kb rfl (qgz.cut e_l13) (.kb rfl (.same sn) .nil)))))).trans (Sub.norm [] [some 0,some 1,some 2,some 3] (by rw[hB];rfl) rfl (.kp (.kp .nil)) (.kb rfl (.cells (rc (.gslice rfl) (rc ((xw.hs1 rfl)) rn))) (.ks (.ks (.kb rfl (.same sn) .nil))))))
    intro _ hsub
    refine Goes.sub hsub ?_
    obtain⟨r16,e_r16,h⟩:=bnd h
    obtain⟨l17,e_l17,h⟩:=bnd h
    refine sq (gq fol [6,8] [] (.cells [.gslice 5 l17.length 5,hsl 2 3 o14]:: .dead::(kA9 o14 (.cells (cF a2_ a3_ a4_ a5_ a6_)::(kAy r16 (kAM l17 []))))) (ac (cv (qff (⟨a2_,a3_,a4_,a5_,a6_⟩:qh) e_r16)) (ac (hs (.run [1,4] (jL Tryz.prog [22,22] (.gslice 1 a0_.length 5) (.slice 4 0 1 1 5)) (kA a0_ o14 (.cells (cF a2_ a3_ a4_ a5_ a6_)::(kAy r16 []))) (.gslice 5 l17.length 5) (.cells [.gslice 1 a0_.length 5,hsl 2 3 o14]:: .dead::(kA9 o14 (.cells (cF a2_ a3_ a4_ a5_ a6_)::(kAy r16 (kAM l17 []))))) true) (qaF qeb (E:=ql) rfl (qfQ (E:=ql) (ys:=[r16]) rfl rfl rfl rfl) (qi1 (E:=ql) (l:=a0_) rfl rfl rfl e_l17 rfl))) az)) ?_)
    refine sh fol [(4,.i 0)] ?_
    refine Goes.ret ?_
    simp only[Option.some.injEq,Prod.mk.injEq]at h
    obtain⟨rfl,rfl,rfl⟩:=h
    exact(gh2 [.i 0] (Sub.norm [] [some 0,some 1,some 2,some 5,some 2] (by rw[hB];rfl) rfl (.keep (.same nI) .nil) (.kb rfl (.cells (rc (.gslice rfl) (rc (.hs rfl) rn))) (.lost (.lost (.ks (.ks .nil)))))))
  ·obtain⟨⟨o19,n20,l21⟩,e_r18,h⟩:=bnd h
   try dsimp only at h
   obtain⟨⟨n23,l24,n25⟩,e_r22,h⟩:=bnd h
   try dsimp only at h
   refine sq (gq fol [1,3] (kAG ((5,.ptr 4 0)::(kBM n25))) (kA a0_ o19 (.cells (cF a2_ a3_ a4_ a5_ a6_)::(kZ n23 l24 []))) (ac (hs (.callH 44 [.ptr 0 0] (kA a0_ a1_ [.cells (cF a2_ a3_ a4_ a5_ a6_)]) [0,1,2] (.agg (kBG n20 l21)) (kA a0_ o19 [.cells (cF a2_ a3_ a4_ a5_ a6_)])) (xY [some 0,some 1,some 2] [some 0,some 1,some 2,none] (qgv a0_ a1_ e_r18) (.kb rfl (.cells (rc (.gslice rfl) (rc (.hs rfl) rn))) (.ks (.ks .nil))) rfl rfl (.back rfl rfl (.cells (rc (.gslice rfl) (rc (.hs rfl) rn))) rfl (.back rfl rfl (.same fa) rfl (.back rfl rfl (.same fa) rfl (.old rfl rfl .nil)))) (rc (.ptr rfl) rn) (.same (qK.agg sn)) rfl)) (ac (hs (.callH 161 (kA0 n20 l21 [.agg (cF a2_ a3_ a4_ a5_ a6_)]) (kA a0_ o19 [.cells (cF a2_ a3_ a4_ a5_ a6_)]) [] (.tuple (kA0 n23 l24 [.i n25])) (kA a0_ o19 [.cells (cF a2_ a3_ a4_ a5_ a6_)])) (xY [] [none,none,none,none] (qgu N n20 l21 a2_ a3_ a4_ a5_ a6_ e_r22) .nil rfl rfl (.old rfl rfl (.old rfl rfl (.old rfl rfl (.old rfl rfl .nil)))) (rc (.same (qK.agg sn)) (rc (.same (qK.agg sn)) rn)) (.same (qK.tuple sn)) rfl)) az)) ?_)
   refine sq ?_
   refine sh fol (kAG [(5,.ptr 4 0),(6,.i n25),(47,.bool (!decide (n25=0)))]) ?_
   refine ihB h (fun c26 h=>?_) (fun c26 h=>?_)
   ·refine sh fol [(4,.i n25)] ?_
    refine Goes.ret ?_
    simp only[Option.some.injEq,Prod.mk.injEq]at h
    obtain⟨rfl,rfl,rfl⟩:=h
    exact(gh2 [.i n25] (Sub.norm [] [some 0,some 1,some 2,some 1,some 2] (by rw[hB];rfl) rfl (.keep (.same nI) .nil) (.kb rfl (.cells (rc (.gslice rfl) (rc (.hs rfl) rn))) (.lost (.lost (.ks (.ks .nil)))))))
   ·refine Goes.skip ?_
    obtain⟨l29,g_v30,h⟩:=bnd h
    refine Goes.cutS (s':=(ofG 73 [(0,.ptr 0 0),(3,.ptr 4 0)],(.cells [.gslice 1 a0_.length 5,.oslice 3 l29.length 3]::(kAM a0_ (.dead::(kAP l29 [.cells (cF a2_ a3_ a4_ a5_ a6_)])))))) ?_ ?_
    ·rcases o19 with _|l27
     ·try dsimp only at g_v30
      obtain rfl:=si g_v30
      exact qW.sub (qW.rg fol (kAG []) (.cells [.gslice 1 a0_.length 5,.oslice 6 1 3]::(kAM a0_ (.cells ((hof (none:Option (List StateT))).flatMap qac.c):: .cells (cF a2_ a3_ a4_ a5_ a6_)::(kZ n23 l24 [.cells [.i a2_,.i n23,vl qo l24],.cells [.i a2_,.i n23,vl qo l24]]))))) (Sub.norm [] [some 0,some 1,some 2,some 6,some 3] (by rw[hB];rfl) rfl (.kp (.kp .nil)) (.kb rfl (.cells (rc (.gslice rfl) (rc ((xw.osliceE rfl rfl)) rn))) (.ks (.lost (.ks (.kb rfl (.same sn) .nil))))))
     ·try dsimp only at g_v30
      obtain⟨l28,e_l28,g_v30⟩:=bnd g_v30
      obtain rfl:=si g_v30
      exact qW.sub (qW.rq fol [10] (kAG []) (.cells [.gslice 1 a0_.length 5,.oslice 6 l28.length 3]::(kAM a0_ (.dead:: .cells (cF a2_ a3_ a4_ a5_ a6_)::(kZ n23 l24 (.cells [.i a2_,.i n23,vl qo l24]::(kAP l28 [])))))) (ac (hs (.run [2,5] (jL Tryz.prog [130,130] (.oslice 2 l27.length 3) (.slice 5 0 1 1 3)) (kP a0_ l27 (kAP l27 (.cells (cF a2_ a3_ a4_ a5_ a6_)::(kZ n23 l24 [.cells [.i a2_,.i n23,vl qo l24]])))) (.oslice 6 l28.length 3) (kP a0_ l27 (.dead:: .cells (cF a2_ a3_ a4_ a5_ a6_)::(kZ n23 l24 (.cells [.i a2_,.i n23,vl qo l24]::(kAP l28 []))))) true) (qaF qs6 (E:=qac) rfl (qfQ (E:=qac) (ys:=[(⟨a2_,(⟨n23,l24⟩:qcE)⟩:StateT)]) rfl rfl rfl rfl) (qry (E:=qac) (l:=l27) rfl rfl rfl e_l28 rfl))) az)) (Sub.norm [] [some 0,some 1,some 2,some 6,some 3] (by rw[hB];rfl) rfl (.kp (.kp .nil)) (.kb rfl (.cells (rc (.gslice rfl) (rc (.oslice rfl) rn))) (.ks (.lost (.ks (.kb rfl (.same sn) .nil))))))
    intro _ hsub
    refine Goes.sub hsub ?_
    obtain⟨r31,e_r31,h⟩:=bnd h
    obtain⟨l32,e_l32,h⟩:=bnd h
    refine sq (gq fol [6,8] [] (.cells [.gslice 6 l32.length 5,.oslice 3 l29.length 3]:: .dead:: .dead::(kAP l29 (.cells (cF a2_ a3_ a4_ a5_ a6_)::(kAy r31 (kAM l32 []))))) (ac (cv (qff (⟨a2_,a3_,a4_,a5_,a6_⟩:qh) e_r31)) (ac (hs (.run [1,5] (jL Tryz.prog [22,22] (.gslice 1 a0_.length 5) (.slice 5 0 1 1 5)) (.cells [.gslice 1 a0_.length 5,.oslice 3 l29.length 3]::(kAM a0_ (.dead::(kAP l29 (.cells (cF a2_ a3_ a4_ a5_ a6_)::(kAy r31 [])))))) (.gslice 6 l32.length 5) (.cells [.gslice 1 a0_.length 5,.oslice 3 l29.length 3]:: .dead:: .dead::(kAP l29 (.cells (cF a2_ a3_ a4_ a5_ a6_)::(kAy r31 (kAM l32 []))))) true) (qaF qeb (E:=ql) rfl (qfQ (E:=ql) (ys:=[r31]) rfl rfl rfl rfl) (qi1 (E:=ql) (l:=a0_) rfl rfl rfl e_l32 rfl))) az)) ?_)
    refine sh fol [(4,.i 0)] ?_
    refine Goes.ret ?_
    simp only[Option.some.injEq,Prod.mk.injEq]at h
    obtain⟨rfl,rfl,rfl⟩:=h
    exact(gh2 [.i 0] (Sub.norm [] [some 0,some 1,some 2,some 6,some 3] (by rw[hB];rfl) rfl (.keep (.same nI) .nil) (.kb rfl (.cells (rc (.gslice rfl) (rc ((xw.hs1 rfl)) rn))) (.lost (.lost (.ks (.ks .nil)))))))
def qao (N:Nat) (a0_:List qh) (a1_:Option (List StateT)) (a2_:Int) (a3_:Str) (a4_:List Str) (a5_:List Int) (a6_:Str):Option ((List qh)×(Option (List StateT))×Int):=
 (qcj N (⟨a2_,a3_,a4_,a5_,a6_⟩:qh)).bind fun r4=>
 if(!decide (r4=0))=true then
 some (a0_,a1_,r4)
 else
 (qaY N a0_ a1_ a2_ a3_ a4_ a5_ a6_).bind fun(l7,o8,n9)=>
 some (l7,o8,n9)
theorem qe4 (N:Nat) (a0_:List qh) (a1_:Option (List StateT)) (a2_:Int) (a3_:Str) (a4_:List Str) (a5_:List Int) (a6_:Str) {l1:List qh} {o2:Option (List StateT)} {n3:Int} (h:qao N a0_ a1_ a2_ a3_ a4_ a5_ a6_=some (l1,o2,n3)):qj Tryz.prog (.fn 71) [.ptr 0 0,.agg (cF a2_ a3_ a4_ a5_ a6_)] (kA a0_ a1_ []) (.i n3) (.cells [.gslice 3 l1.length 5,hsl 4 3 o2]:: .dead:: .dead::(kAM l1 (kA9 o2 []))):=by
 unfold qao at h
 refine Goes.fnH Tryz.func71 rfl rfl (m:=14) rfl (rs:=[.tmp 4]) rfl (l:=[(0,.ptr 0 0),(1,.agg (cF a2_ a3_ a4_ a5_ a6_))]) rfl ?_
 intro B hB
 refine sg fol (kAG []) (kA a0_ a1_ [.cells (cF a2_ a3_ a4_ a5_ a6_)]) ?_
 refine sq ?_
 obtain⟨r4,e_r4,h⟩:=bnd h
 refine sq (gr fol [1] (kAG (kAm r4)) (ac (cv (qjp N (⟨a2_,a3_,a4_,a5_,a6_⟩:qh) e_r4)) az) ?_)
 refine sh fol (kAG [(5,.i r4),(9,.bool (!decide (r4=0)))]) ?_
 refine ihB h (fun c5 h=>?_) (fun c5 h=>?_)
 ·refine sh fol [(4,.i r4)] ?_
  refine Goes.ret ?_
  simp only[Option.some.injEq,Prod.mk.injEq]at h
  obtain⟨rfl,rfl,rfl⟩:=h
  exact(gh2 [.i r4] (Sub.norm [] [some 0,some 1,some 2,some 1,some 2] (by rw[hB];rfl) rfl (.keep (.same nI) .nil) (.kb rfl (.cells (rc (.gslice rfl) (rc (.hs rfl) rn))) (.lost (.lost (.ks (.ks .nil)))))))
 ·refine Goes.skip ?_
  obtain⟨⟨l7,o8,n9⟩,e_r6,h⟩:=bnd h
  try dsimp only at h
  refine sq (gq fol [2] [(4,.i n9)] (.cells [.gslice 4 l7.length 5,hsl 5 3 o8]:: .dead:: .dead:: .cells (cF a2_ a3_ a4_ a5_ a6_)::(kAM l7 (kA9 o8 []))) (ac (hs (.callH 115 [.ptr 0 0,.agg (cF a2_ a3_ a4_ a5_ a6_)] (kA a0_ a1_ [.cells (cF a2_ a3_ a4_ a5_ a6_)]) [0,1,2] (.i n9) (.cells [.gslice 4 l7.length 5,hsl 5 3 o8]:: .dead:: .dead:: .cells (cF a2_ a3_ a4_ a5_ a6_)::(kAM l7 (kA9 o8 [])))) (xY [some 0,some 1,some 2] [some 0,none,none,none,some 3,some 4] (qg8 N a0_ a1_ a2_ a3_ a4_ a5_ a6_ e_r6) (.kb rfl (.cells (rc (.gslice rfl) (rc (.hs rfl) rn))) (.ks (.ks .nil))) rfl rfl (.back rfl rfl (.cells (rc (.gslice rfl) (rc (.hs rfl) rn))) rfl (.dead (.dead (.old rfl rfl (.new rfl rfl (.same fa) rfl (.new rfl rfl (.same fa) rfl .nil)))))) (rc (.ptr rfl) (rc (.same (qK.agg sn)) rn)) (.same nI) rfl)) az) ?_)
  refine Goes.ret ?_
  simp only[Option.some.injEq,Prod.mk.injEq]at h
  obtain⟨rfl,rfl,rfl⟩:=h
  exact(gh2 [.i n9] (Sub.norm [] [some 0,some 1,some 2,some 4,some 5] (by rw[hB];rfl) rfl (.keep (.same nI) .nil) (.kb rfl (.cells (rc (.gslice rfl) (rc (.hs rfl) rn))) (.lost (.lost (.ks (.ks .nil)))))))
def kw (a1_:Int):Nat→(List qf)→Int→Option (List qf)
 |0,_,_=>none
 |K+1,l7,n8=>
  (if n8>a1_ then
  (idx l7 n8).bind fun x12=>
  (idx l7 (w64 (n8-1))).bind fun x13=>
  (qdF x12 x13).bind fun r14=>
  some (decide (r14<0))
  else
  some false:Option Bool).bind fun b15=>
  if b15=true then
  (idx l7 (w64 (n8-1))).bind fun x18=>
  (idx l7 n8).bind fun x19=>
  (put l7 n8 x18).bind fun l20=>
  (idx l20 (w64 (n8-1))).bind fun x21=>
  (put l20 (w64 (n8-1)) x19).bind fun l22=>
  kw a1_ K l22 (w64 (n8-1))
  else
  some l7
def qy (N:Nat) (a1_:Int) (a2_:Int):Nat→(List qf)→Int→Option (List qf)
 |0,_,_=>none
 |K+1,l2,n3=>
  if n3<a2_ then
  (kw a1_ N l2 n3).bind fun l9=>
  qy N a1_ a2_ K l9 (w64 (n3+1))
  else
  some l2
def zK (N:Nat) (a0_:List qf) (a1_:Int) (a2_:Int):Option (List qf):=
 (qy N a1_ a2_ N a0_ (w64 (a1_+1))).bind fun l4=>
 some l4
theorem qbs (N:Nat) (a0_:List qf) (a1_:Int) (a2_:Int) {l1:List qf} (h:zK N a0_ a1_ a2_=some l1):qj Tryz.prog (.fn 148) (kBY a0_ [.i a1_,.i a2_,.func (.func 68) [] []]) (kC a0_ []) (.tuple []) (kC l1 []):=by
 unfold zK at h
 refine Goes.fnH Tryz.func148 rfl rfl (m:=53) rfl (rs:=[]) rfl (l:=(kI a0_ a1_ [(2,.i a2_),(3,.func (.func 68) [] [])])) rfl ?_
 intro B hB
 refine Goes.subQ ?_
 refine sh fol (kI a0_ a1_ ((2,.i a2_)::(3,.func (.func 68) [] [])::(kBN (w64 (a1_+1))))) ?_
 refine Goes.block ?_
 obtain⟨r5,g5,h⟩:=bnd h
 refine Goes.imp (Q:=fun x s'=>(x= .exit 0∧ ∃l4,l4=r5∧Sub s' (ofG 53 [],(kC l4 [])))) ?_ ?_
 ·refine Goes.loopS (fun M s=> ∃(l2:List qf) (n3:Int),s=(ofG 53 (kI l2 a1_ ((2,.i a2_)::(3,.func (.func 68) [] [])::(kBN n3))),(kC l2 []))∧qy N a1_ a2_ M l2 n3=some r5) ?_ (m:=N) ⟨_,_,rfl,g5⟩
  rintro M s ⟨l2,n3,rfl,g5⟩
  cases M with
  |zero=>simp only[qy]at g5;cases g5
  |succ M=>
   rw[qy]at g5
   refine sq ?_
   refine sh fol (kI l2 a1_ [(2,.i a2_),(3,.func (.func 68) [] []),(8,.i n3),(14,.bool (decide (n3<a2_)))]) ?_
   refine ihD g5 (fun c6 g5=>?_) (fun c6 g5=>?_)
   ·refine Goes.skip ?_
    refine sq (Goes.block ?_)
    refine sh fol (kI l2 a1_ [(2,.i a2_),(3,.func (.func 68) [] []),(8,.i n3),(9,.i n3)]) ?_
    refine Goes.block ?_
    obtain⟨r10,g10,g5⟩:=bnd g5
    refine Goes.imp (Q:=fun x s'=>(x= .exit 2∧ ∃l9,l9=r10∧Sub s' (ofG 53 (kI l9 a1_ ((2,.i a2_)::(3,.func (.func 68) [] [])::(kBN n3))),(kC l9 [])))) ?_ ?_
    ·refine Goes.loopS (fun M s=> ∃(l7:List qf) (n8:Int),s=(ofG 53 (kI l7 a1_ [(2,.i a2_),(3,.func (.func 68) [] []),(8,.i n3),(9,.i n8)]),(kC l7 []))∧kw a1_ M l7 n8=some r10) ?_ (m:=N) ⟨_,_,rfl,g10⟩
     rintro M s ⟨l7,n8,rfl,g10⟩
     cases M with
     |zero=>simp only[kw]at g10;cases g10
     |succ M=>
      rw[kw]at g10
      refine sq ?_
      refine sq ?_
      obtain⟨b15,g_v16,g10⟩:=bnd g10
      refine Goes.cut (s':=(ofG 53 (kI l7 a1_ [(2,.i a2_),(3,.func (.func 68) [] []),(8,.i n3),(9,.i n8),(34,.bool b15)]),(kC l7 []))) ?_ ?_
      ·rcases wyD g_v16 with⟨c11,g_v16⟩|⟨c11,g_v16⟩
       ·obtain⟨x12,e_x12,g_v16⟩:=bnd g_v16
        obtain⟨x13,e_x13,g_v16⟩:=bnd g_v16
        obtain⟨r14,e_r14,g_v16⟩:=bnd g_v16
        obtain rfl:=si g_v16
        exact tr fol [3,7,8,12,13,14] (kI l7 a1_ [(2,.i a2_),(3,.func (.func 68) [] []),(8,.i n3),(9,.i n8),(34,.bool (decide (r14<0)))]) (ac (gw c11) (ac (hs (.done (.opt (zQ Tryz.prog 54 (.oslice 0 l7.length 4) (.i n8))) (.ptr 0 ((n8:Int).toNat*4+0))) (qnr qdD e_x12)) (ac (hs (.run [0] (qbo Tryz.prog 112 (.ptr 0 ((n8:Int).toNat*4+0))) (kC l7 []) (.agg (kAf x12.Desk x12.Number x12.Clock x12.Line)) (kC l7 []) false) (qnG qeK (E:=qa) (l:=l7) rfl rfl e_x12)) (ac (hs (.done (.opt (zQ Tryz.prog 54 (.oslice 0 l7.length 4) (.i (w64 (n8-1))))) (.ptr 0 ((w64 (n8-1):Int).toNat*4+0))) (qnr qdD e_x13)) (ac (hs (.run [0] (qbo Tryz.prog 112 (.ptr 0 ((w64 (n8-1):Int).toNat*4+0))) (kC l7 []) (.agg (kAf x13.Desk x13.Number x13.Clock x13.Line)) (kC l7 []) false) (qnG qeK (E:=qa) (l:=l7) rfl rfl e_x13)) (ac (cv (qho x12 x13 e_r14)) az))))))
       ·obtain rfl:=si g_v16
        exact tr fol [3] (kI l7 a1_ [(2,.i a2_),(3,.func (.func 68) [] []),(8,.i n3),(9,.i n8),(34,.bool false)]) (ac (gw c11) az)
      refine ihB g10 (fun c17 g10=>?_) (fun c17 g10=>?_)
      ·refine Goes.skip ?_
       refine sq (Goes.block ?_)
       obtain⟨x18,e_x18,g10⟩:=bnd g10
       obtain⟨x19,e_x19,g10⟩:=bnd g10
       obtain⟨l20,e_l20,g10⟩:=bnd g10
       obtain⟨x21,e_x21,g10⟩:=bnd g10
       obtain⟨l22,e_l22,g10⟩:=bnd g10
       refine gq fol [8,9,12,13,14,15,16,17] (kI l7 a1_ [(2,.i a2_),(3,.func (.func 68) [] []),(8,.i n3),(9,.i n8)]) (kC l22 []) (ac (hs (.done (.opt (zQ Tryz.prog 54 (.oslice 0 l7.length 4) (.i (w64 (n8-1))))) (.ptr 0 ((w64 (n8-1):Int).toNat*4+0))) (qnr qdD e_x18)) (ac (hs (.run [0] (qbo Tryz.prog 112 (.ptr 0 ((w64 (n8-1):Int).toNat*4+0))) (kC l7 []) (.agg (kAf x18.Desk x18.Number x18.Clock x18.Line)) (kC l7 []) false) (qnG qeK (E:=qa) (l:=l7) rfl rfl e_x18)) (ac (hs (.done (.opt (zQ Tryz.prog 54 (.oslice 0 l7.length 4) (.i n8))) (.ptr 0 ((n8:Int).toNat*4+0))) (qnr qdD e_x19)) (ac (hs (.run [0] (qbo Tryz.prog 112 (.ptr 0 ((n8:Int).toNat*4+0))) (kC l7 []) (.agg (kAf x19.Desk x19.Number x19.Clock x19.Line)) (kC l7 []) false) (qnG qeK (E:=qa) (l:=l7) rfl rfl e_x19)) (ac (hs (.done (.opt (zQ Tryz.prog 54 (.oslice 0 l7.length 4) (.i n8))) (.ptr 0 ((n8:Int).toNat*4+0))) (qnr qdD e_x19)) (ac (hs (.run [0] (qex Tryz.prog 112 (.ptr 0 ((n8:Int).toNat*4+0)) (.agg (kAf x18.Desk x18.Number x18.Clock x18.Line))) (kC l7 []) .undef (kC l20 []) true) (qkL (E:=qa) (l:=l7) (y:=x18) rfl (show _=some 4 by kernel_rfl) rfl e_x19 rfl rfl rfl rfl rfl e_l20 rfl)) (ac (hs (.done (.opt (zQ Tryz.prog 54 (.oslice 0 l7.length 4) (.i (w64 (n8-1))))) (.ptr 0 ((w64 (n8-1):Int).toNat*4+0))) (qnr qdD e_x18)) (ac (hs (.run [0] (qex Tryz.prog 112 (.ptr 0 ((w64 (n8-1):Int).toNat*4+0)) (.agg (kAf x19.Desk x19.Number x19.Clock x19.Line))) (kC l20 []) .undef (kC l22 []) true) (qkL (E:=qa) (l:=l20) (y:=x19) rfl (show _=some 4 by kernel_rfl) rfl e_x21 rfl rfl rfl rfl rfl e_l22 rfl)) az)))))))) ?_
       refine Goes.sub (show Sub (ofG 53 (kI l7 a1_ [(2,.i a2_),(3,.func (.func 68) [] []),(8,.i n3),(9,.i n8)]),(kC l22 [])) (ofG 53 (kI l22 a1_ [(2,.i a2_),(3,.func (.func 68) [] []),(8,.i n3),(9,.i n8)]),(kC l22 []))from(Sub.norm [] [some 0] (by rw[hB];rfl) rfl (.keep (.osliceE rfl ((qfJ e_l20).trans (qfJ e_l22))) (.keep (.same nI) (.keep (.same nI) (.keep (.same (qK.func sn sn)) (.keep (.same nI) (.keep (.same nI) .nil)))))) (.ks .nil))) ?_
       refine gh fol (kI l22 a1_ [(2,.i a2_),(3,.func (.func 68) [] []),(8,.i n3),(9,.i (w64 (n8-1)))]) ?_
       exact⟨M,(ofG 53 (kI l22 a1_ [(2,.i a2_),(3,.func (.func 68) [] []),(8,.i n3),(9,.i (w64 (n8-1)))]),(kC l22 [])),Nat.lt_succ_self _,(Sub.refl _),_,_,rfl,g10⟩
      ·refine Goes.exit ?_
       obtain rfl:=si g10
       exact⟨rfl,_,rfl,(Sub.keep [0,1,2,3,8] rfl rfl)⟩
    rintro x s' ⟨rfl,l9,rfl,hsub⟩
    refine Goes.sub hsub ?_
    refine gh fol (kI l9 a1_ ((2,.i a2_)::(3,.func (.func 68) [] [])::(kBN (w64 (n3+1))))) ?_
    exact⟨M,(ofG 53 (kI l9 a1_ ((2,.i a2_)::(3,.func (.func 68) [] [])::(kBN (w64 (n3+1))))),(kC l9 [])),Nat.lt_succ_self _,(Sub.refl _),_,_,rfl,g5⟩
   ·refine Goes.exit ?_
    obtain rfl:=si g5
    exact⟨rfl,_,rfl,(Sub.keep [] rfl rfl)⟩
 rintro x s' ⟨rfl,l4,rfl,hsub⟩
 obtain rfl:=si h
 exact⟨_,hsub,(gh2 [] (qig.refl _ _))⟩
def zG (N:Nat) (a1_:Int):Nat→(List qf)→Int→Int→Option ((List qf)×Int)
 |0,_,_,_=>none
 |K+1,l2,n3,n4=>
  if n4≤a1_ then
  (zK N l2 n3 n4).bind fun l10=>
  ((if l2.length=l10.length then some ()else none:Option Unit)).bind fun u11=>
  zG N a1_ K l10 n4 (w64 (n4+20))
  else
  some (l2,n3)
def xx (a1_:Int) (n15:Int):Nat→Option Unit
 |0=>none
 |K+1=>
  if(w64 (2*n15))≤a1_ then
  none
  else
  some ()
def zJ (N:Nat) (a1_:Int):Nat→Int→Option Unit
 |0,_=>none
 |K+1,n15=>
  if n15<a1_ then
  (xx a1_ n15 N).bind fun _=>
  ((if(w64 (0+n15))<a1_ then
  none
  else
  some ():Option Unit)).bind fun _=>
  zJ N a1_ K (w64 (n15*2))
  else
  some ()
def qaJ (N:Nat) (a0_:List qf) (a1_:Int):Option (List qf):=
 (zG N a1_ N a0_ 0 20).bind fun(l5,n6)=>
 (zK N l5 n6 a1_).bind fun l13=>
 ((if l5.length=l13.length then some ()else none:Option Unit)).bind fun u14=>
 (zJ N a1_ N 20).bind fun _=>
 some l13
theorem qe7 (N:Nat) (a0_:List qf) (a1_:Int) {l1:List qf} (h:qaJ N a0_ a1_=some l1):qj Tryz.prog (.fn 111) (kBY a0_ [.i a1_,.func (.func 68) [] []]) (kC a0_ []) (.tuple []) (kC l1 []):=by
 unfold qaJ at h
 refine Goes.fnH Tryz.func111 rfl rfl (m:=63) rfl (rs:=[]) rfl (l:=(kI a0_ a1_ [(2,.func (.func 68) [] [])])) rfl ?_
 intro B hB
 refine Goes.subQ ?_
 refine sh fol (kI a0_ a1_ ((2,.func (.func 68) [] [])::(kBj []))) ?_
 refine sh fol (kI a0_ a1_ ((2,.func (.func 68) [] [])::(kBj [(7,.i 0),(8,.i 20)]))) ?_
 refine sq (Goes.block ?_)
 obtain⟨r7,g7,h⟩:=bnd h
 refine Goes.imp (Q:=fun x s'=>(x= .exit 0∧ ∃l5 n6,(l5,n6)=r7∧Sub s' (ofG 63 (kI l5 a1_ ((2,.func (.func 68) [] [])::(kBj [(7,.i n6)]))),(kC l5 [])))) ?_ ?_
 ·refine Goes.loopS (fun M s=> ∃(l2:List qf) (n3:Int) (n4:Int),s=(ofG 63 (kI l2 a1_ ((2,.func (.func 68) [] [])::(kBj (kAJ n3 n4 [])))),(kC l2 []))∧zG N a1_ M l2 n3 n4=some r7) ?_ (m:=N) ⟨_,_,_,rfl,g7⟩
  rintro M s ⟨l2,n3,n4,rfl,g7⟩
  cases M with
  |zero=>simp only[zG]at g7;cases g7
  |succ M=>
   rw[zG]at g7
   refine sq ?_
   refine sh fol (kI l2 a1_ ((2,.func (.func 68) [] [])::(kBj (kAJ n3 n4 [(13,.bool (decide (n4≤a1_)))])))) ?_
   refine ihD g7 (fun c8 g7=>?_) (fun c8 g7=>?_)
   ·refine Goes.skip ?_
    refine Goes.block ?_
    obtain⟨l10,e_r9,g7⟩:=bnd g7
    obtain⟨u11,e_u11,g7⟩:=bnd g7
    refine sq (gq fol [4] (kI l2 a1_ ((2,.func (.func 68) [] [])::(kBj (kBN n4)))) (kC l10 []) (ac (hs (.callH 148 (kBY l2 [.i n3,.i n4,.func (.func 68) [] []]) (kC l2 []) [0] (.tuple []) (kC l10 [])) (xY [some 0] [some 0] (qbs N l2 n3 n4 e_r9) (.ks .nil) rfl rfl (.back rfl rfl (.same fa) rfl .nil) (rc (.oslice rfl) (rc (.same nI) (rc (.same nI) (rc (.same (qK.func sn sn)) rn)))) (.same (qK.tuple sn)) rfl)) az) ?_)
    refine Goes.sub (show Sub (ofG 63 (kI l2 a1_ ((2,.func (.func 68) [] [])::(kBj (kBN n4)))),(kC l10 [])) (ofG 63 (kI l10 a1_ ((2,.func (.func 68) [] [])::(kBj (kBN n4)))),(kC l10 []))from(Sub.norm [] [some 0] (by rw[hB];rfl) rfl (.keep (.osliceE rfl (qlZ e_u11)) (.keep (.same nI) (.keep (.same (qK.func sn sn)) (.keep (.same nI) (.keep (.same nI) .nil))))) (.ks .nil))) ?_
    refine sh fol (kI l10 a1_ ((2,.func (.func 68) [] [])::(kBj ((7,.i n4)::(kBN n4))))) ?_
    refine gh fol (kI l10 a1_ ((2,.func (.func 68) [] [])::(kBj (kAJ n4 (w64 (n4+20)) [])))) ?_
    exact⟨M,(ofG 63 (kI l10 a1_ ((2,.func (.func 68) [] [])::(kBj (kAJ n4 (w64 (n4+20)) [])))),(kC l10 [])),Nat.lt_succ_self _,(Sub.refl _),_,_,_,rfl,g7⟩
   ·refine Goes.exit ?_
    obtain rfl:=si g7
    exact⟨rfl,_,_,rfl,(Sub.keep [0,1,2,6,7] rfl rfl)⟩
 rintro x s' ⟨rfl,l5,n6,rfl,hsub⟩
 try dsimp only at h
 refine Goes.sub hsub ?_
 obtain⟨l13,e_r12,h⟩:=bnd h
 obtain⟨u14,e_u14,h⟩:=bnd h
 refine sq (gq fol [4] (kI l5 a1_ ((2,.func (.func 68) [] [])::(kBj []))) (kC l13 []) (ac (hs (.callH 148 (kBY l5 [.i n6,.i a1_,.func (.func 68) [] []]) (kC l5 []) [0] (.tuple []) (kC l13 [])) (xY [some 0] [some 0] (qbs N l5 n6 a1_ e_r12) (.ks .nil) rfl rfl (.back rfl rfl (.same fa) rfl .nil) (rc (.oslice rfl) (rc (.same nI) (rc (.same nI) (rc (.same (qK.func sn sn)) rn)))) (.same (qK.tuple sn)) rfl)) az) ?_)
 refine Goes.sub (show Sub (ofG 63 (kI l5 a1_ ((2,.func (.func 68) [] [])::(kBj []))),(kC l13 [])) (ofG 63 (kI l13 a1_ ((2,.func (.func 68) [] [])::(kBj []))),(kC l13 []))from(Sub.norm [] [some 0] (by rw[hB];rfl) rfl (.keep (.osliceE rfl (qlZ e_u14)) (.keep (.same nI) (.keep (.same (qK.func sn sn)) (.keep (.same nI) .nil)))) (.ks .nil))) ?_
 refine Goes.block ?_
 obtain⟨r16,g16,h⟩:=bnd h
 refine Goes.imp (Q:=fun x s'=>(x= .exit 2∧()=r16∧Sub s' (ofG 63 [],(kC l13 [])))) ?_ ?_
 ·refine Goes.loopS (fun M s=> ∃(n15:Int),s=(ofG 63 (kI l13 a1_ ((2,.func (.func 68) [] [])::(kBM n15))),(kC l13 []))∧zJ N a1_ M n15=some r16) ?_ (m:=N) ⟨_,rfl,g16⟩
  rintro M s ⟨n15,rfl,g16⟩
  cases M with
  |zero=>simp only[zJ]at g16;cases g16
  |succ M=>
   rw[zJ]at g16
   refine sq ?_
   refine sh fol (kI l13 a1_ [(2,.func (.func 68) [] []),(6,.i n15),(30,.bool (decide (n15<a1_)))]) ?_
   refine ihD g16 (fun c17 g16=>?_) (fun c17 g16=>?_)
   ·refine Goes.skip ?_
    refine Goes.block ?_
    refine sh fol (kI l13 a1_ ((2,.func (.func 68) [] [])::(kBB n15 (kBN (w64 (2*n15)))))) ?_
    refine sq (Goes.block ?_)
    obtain⟨r18,g18,g16⟩:=bnd g16
    refine Goes.imp (Q:=fun x s'=>(x= .exit 4∧()=r18∧Sub s' (ofG 63 (kI l13 a1_ ((2,.func (.func 68) [] [])::(kBB n15 []))),(kC l13 [])))) ?_ ?_
    ·refine Goes.loopS (fun M s=>s=(ofG 63 (kI l13 a1_ ((2,.func (.func 68) [] [])::(kBB n15 (kBN (w64 (2*n15)))))),(kC l13 []))∧xx a1_ n15 M=some r18) ?_ (m:=N) ⟨rfl,g18⟩
     rintro M s ⟨rfl,g18⟩
     cases M with
     |zero=>simp only[xx]at g18;cases g18
     |succ M=>
      rw[xx]at g18
      refine sq ?_
      refine sh fol (kI l13 a1_ ((2,.func (.func 68) [] [])::(kBB n15 [(8,.i (w64 (2*n15))),(35,.bool (decide ((w64 (2*n15))≤a1_)))]))) ?_
      refine ihD g18 (fun c19 g18=>?_) (fun c19 g18=>?_)
      ·cases g18
      ·refine Goes.exit ?_
       obtain rfl:=si g18
       exact⟨rfl,rfl,(Sub.keep [0,1,2,6,7] rfl rfl)⟩
    rintro x s' ⟨rfl,rfl,hsub⟩
    refine Goes.sub hsub ?_
    refine sq ?_
    refine sh fol (kI l13 a1_ ((2,.func (.func 68) [] [])::(kBB n15 [(9,.i (w64 (0+n15)))]))) ?_
    refine sh fol (kI l13 a1_ ((2,.func (.func 68) [] [])::(kBB n15 [(9,.i (w64 (0+n15))),(54,.bool (decide ((w64 (0+n15))<a1_)))]))) ?_
    obtain⟨r20,g20,g16⟩:=bnd g16
    refine Goes.imp (Q:=fun x s'=>(x= .normal∧()=r20∧Sub s' (ofG 63 (kI l13 a1_ ((2,.func (.func 68) [] [])::(kBM n15))),(kC l13 [])))) ?_ ?_
    ·refine ihD g20 (fun c21 g20=>?_) (fun c21 g20=>?_)
     ·cases g20
     ·refine Goes.skip ?_
      obtain rfl:=si g20
      exact⟨rfl,rfl,(Sub.keep [0,1,2,6] rfl rfl)⟩
    rintro x s' ⟨rfl,rfl,hsub⟩
    refine Goes.sub hsub ?_
    refine gh fol (kI l13 a1_ ((2,.func (.func 68) [] [])::(kBM (w64 (n15*2))))) ?_
    exact⟨M,(ofG 63 (kI l13 a1_ ((2,.func (.func 68) [] [])::(kBM (w64 (n15*2))))),(kC l13 [])),Nat.lt_succ_self _,(Sub.refl _),_,rfl,g16⟩
   ·refine Goes.exit ?_
    obtain rfl:=si g16
    exact⟨rfl,rfl,(Sub.keep [] rfl rfl)⟩
 rintro x s' ⟨rfl,rfl,hsub⟩
 obtain rfl:=si h
 exact⟨_,hsub,(gh2 [] (qig.refl _ _))⟩
def ym (N:Nat) (a0_:List qf):Option (List qf):=
 (qaJ N a0_ (a0_.length:Int)).bind fun l3=>
 ((if a0_.length=l3.length then some ()else none:Option Unit)).bind fun u4=>
 some l3
theorem qeS (N:Nat) (a0_:List qf) {l1:List qf} (h:ym N a0_=some l1):qj Tryz.prog (.fn 67) (kBY a0_ [.func (.func 68) [] []]) (kC a0_ []) (.tuple []) (kC l1 []):=by
 unfold ym at h
 refine Goes.fnH Tryz.func67 rfl rfl (m:=9) rfl (rs:=[]) rfl (l:=[(0,.oslice 0 a0_.length 4),(1,.func (.func 68) [] [])]) rfl ?_
 intro B hB
 refine Goes.subQ ?_
 obtain⟨l3,e_r2,h⟩:=bnd h
 obtain⟨u4,e_u4,h⟩:=bnd h
 refine gq fol [4] [] (kC l3 []) (ac (hs (.callH 111 (kBY a0_ [.i (a0_.length:Int),.func (.func 68) [] []]) (kC a0_ []) [0] (.tuple []) (kC l3 [])) (xY [some 0] [some 0] (qe7 N a0_ (a0_.length:Int) e_r2) (.ks .nil) rfl rfl (.back rfl rfl (.same fa) rfl .nil) (rc (.oslice rfl) (rc (.same nI) (rc (.same (qK.func sn sn)) rn))) (.same (qK.tuple sn)) rfl)) az) ?_
 obtain rfl:=si h
 exact⟨_,(show Sub (ofG 9 [],(kC l3 [])) (ofG 9 [],(kC l3 []))from(Sub.norm [] [some 0] (by rw[hB];rfl) rfl .nil (.ks .nil))),(gh2 [] (qig.refl _ _))⟩
def qbf (N:Nat) (r3:List qf):Nat→(List qh)→(List zo)→(Option (List StateT))→Int→Option ((List qh)×(Option (List StateT))×(List zo))
 |0,_,_,_,_=>none
 |K+1,l5,l6,o7,n8=>
  if n8<(r3.length:Int)then
  (((idx r3 n8).bind fun x18=>
  (qbH N x18.Line).bind fun r19=>
  (qao N l5 o7 (w64 ((l5.length:Int)+1)) r19.1.Kind r19.1.Names r19.1.Values r19.1.Text).bind fun(l21,o22,n23)=>
  if(!decide (n23=0))=true then
  (zO x18).bind fun r25=>
  (app 24 l6 [r25]).bind fun l26=>
  some (l21,o22,l26)
  else
  some (l21,o22,l6):Option ((List qh)×(Option (List StateT))×(List zo)))).bind fun(l14,o15,l16)=>
  qbf N r3 K l14 l16 o15 (w64 (n8+1))
  else
  some (l5,o7,l6)
def qei (N:Nat):Option ((List qh)×(List zo)×Int):=
 (zC N ([]:List qf)).bind fun r1=>
 if(!decide (r1=0))=true then
 some ([],[],r1)
 else
 (qdm ([]:List qf)).bind fun r3=>
 (yl N r3).bind fun _=>
 (qbf N r3 N ([]:List qh) ([]:List zo) (none:Option (List StateT)) 0).bind fun(l9,o10,l11)=>
 some (l9,l11,0)
theorem qnc (N:Nat) {res:(List qh)×(List zo)×Int} (h:qei N=some res):qj Tryz.prog (.fn 24) [vl qa ([]:List qf)] [] (.tuple [vl ql res.1,vl ky res.2.1,.i res.2.2]) []:=by
 unfold qei at h
 refine Goes.fnW Tryz.func24 rfl rfl (m:=58) rfl (rs:=[.tmp 2,.tmp 3,.tmp 4]) rfl (l:=(kS [])) rfl ?_
 refine sh fol (kS []) ?_
 refine sq ?_
 obtain⟨r1,e_r1,h⟩:=bnd h
 refine sq (gr fol [1] (kS (kAm r1)) (ac (cv (jl N ([]:List qf) e_r1)) az) ?_)
 refine sh fol (kS [(5,.i r1),(16,.bool (!decide (r1=0)))]) ?_
 refine ihB h (fun c2 h=>?_) (fun c2 h=>?_)
 ·refine sh fol [(2,.nilslice),(3,.nilslice),(4,.i r1)] ?_
  refine Goes.ret ?_
  obtain rfl:=si h
  exact(gw2 [.nilslice,.nilslice,.i r1] (FzW.tuple (qA.cons (FzW.nilv (E:=ql)) (qA.cons (FzW.nilv (E:=ky)) (qA.cons (FzW.still tI) qA.nil)))))
 ·refine Goes.skip ?_
  obtain⟨r3,e_r3,h⟩:=bnd h
  refine sq (gr fol [1] (kBZ r3 []) (ac (cv (qj5 ([]:List qf) e_r3)) az) ?_)
  obtain⟨_,e_r4,h⟩:=bnd h
  refine sq (gr fol [1] (kBZ r3 []) (ac (hs (.callH 67 (kBI r3 [.func (.func 68) [] []]) [] [] (.tuple []) []) (xY [] [] (qe2 N r3 e_r4) .nil rfl rfl .nil (rc (.same (qp qa _)) (rc (.same (qK.func sn sn)) rn)) (.same (qK.tuple sn)) rfl)) az) ?_)
  refine sg fol (kBZ r3 (kBX [])) [.cells [.nilslice,.nilslice]] ?_
  refine sh fol (kBZ r3 (kBX [(8,.nilslice)])) ?_
  refine sq ?_
  refine sh fol (kBX [(8,.nilslice),(24,vl qa r3),(25,.i (r3.length:Int)),(26,.i 0)]) ?_
  refine Goes.block ?_
  obtain⟨r12,g12,h⟩:=bnd h
  refine Goes.imp (Q:=fun x s'=>(x= .exit 0∧ ∃l9 o10 l11,(l9,o10,l11)=r12∧Sub s' (ofG 58 (kT l11 []),(kA l9 o10 (kJ l11 []))))) ?_ ?_
  ·refine Goes.sub (s':=(ofG 58 (kBX [(8,.gslice 3 ([]:List zo).length 2),(24,vl qa r3),(25,.i (r3.length:Int)),(26,.i 0)]),(.cells [.gslice 1 ([]:List qh).length 5,hsl 2 3 (none:Option (List StateT))]:: .cells (([]:List qh).flatMap ql.c):: .cells ((hof (none:Option (List StateT))).flatMap qac.c)::(kBg [])))) (Sub.norm [] [some 0,none,none,none] rfl rfl (.kp (.keep .nil (.keep (.same (qp qa _)) (.keep (.same nI) (.keep (.same nI) .nil))))) (.kb rfl (.cells (rc (.nil) (rc .hs0 rn))) (.fresh (.fresh (.fresh .nil))))) ?_
   refine Goes.loopS (fun M s=> ∃(l5:List qh) (l6:List zo) (o7:Option (List StateT)) (n8:Int),s=(ofG 58 (kT l6 (kAa r3 (r3.length:Int) n8 [])),(kA l5 o7 (kJ l6 [])))∧qbf N r3 M l5 l6 o7 n8=some r12) ?_ (m:=N) ⟨_,_,_,_,rfl,g12⟩
   rintro M s ⟨l5,l6,o7,n8,rfl,g12⟩
   cases M with
   |zero=>simp only[qbf]at g12;cases g12
   |succ M=>
    rw[qbf]at g12
    refine sh fol (kT l6 (kAa r3 (r3.length:Int) n8 [(27,.bool (decide (n8<(r3.length:Int))))])) ?_
    refine sq ?_
    refine ihD g12 (fun c13 g12=>?_) (fun c13 g12=>?_)
    ·refine Goes.skip ?_
     refine sq ?_
     obtain⟨r17,g17,g12⟩:=bnd g12
     refine Goes.imp (Q:=fun x s'=>(x= .normal∧ ∃l14 o15 l16,(l14,o15,l16)=r17∧Sub s' (ofG 58 (kT l16 (kAa r3 (r3.length:Int) n8 [])),(kA l14 o15 (kJ l16 []))))) ?_ ?_
     ·refine Goes.block ?_
      obtain⟨x18,e_x18,g17⟩:=bnd g17
      refine sq (gq fol [0,1] (kT l6 ((10,.ptr 4 0)::(kAa r3 (r3.length:Int) n8 []))) (kA l5 o7 (kJ l6 (kE x18.Desk x18.Number x18.Clock x18.Line []))) (ac (iv qdD qa e_x18) (ac (la qeK qa e_x18) az)) ?_)
      obtain⟨r19,e_r19,g17⟩:=bnd g17
      refine sq (gq fol [2] (kT l6 ((10,.ptr 4 0)::(11,.ptr 5 0)::(kAa r3 (r3.length:Int) n8 []))) (kA l5 o7 (kJ l6 (kE x18.Desk x18.Number x18.Clock x18.Line (kAy r19.1 [])))) (ac (cv (qeo N x18.Line e_r19)) az) ?_)
      refine sg fol (kT l6 ((10,.ptr 4 0)::(11,.ptr 5 0)::(kAa r3 (r3.length:Int) n8 []))) (kA l5 o7 (kJ l6 (kE x18.Desk x18.Number x18.Clock x18.Line (kA5 (w64 ((l5.length:Int)+1)) r19.1.Kind r19.1.Names r19.1.Values r19.1.Text [])))) ?_
      obtain⟨⟨l21,o22,n23⟩,e_r20,g17⟩:=bnd g17
      try dsimp only at g17
      refine sq (gq fol [2] (kT l6 ((10,.ptr 4 0)::(kAa r3 (r3.length:Int) n8 [(46,.bool (!decide (n23=0)))]))) (kAu l21 o22 (kJ l6 (kE x18.Desk x18.Number x18.Clock x18.Line (kK (w64 ((l5.length:Int)+1)) r19.1.Kind r19.1.Names r19.1.Values r19.1.Text l21 o22 [])))) (ac (hs (.callH 71 [.ptr 0 0,.agg [.i (w64 ((l5.length:Int)+1)),.str r19.1.Kind,vl encS r19.1.Names,vl encI r19.1.Values,.str r19.1.Text]] (kA l5 o7 (kJ l6 (kE x18.Desk x18.Number x18.Clock x18.Line (kA5 (w64 ((l5.length:Int)+1)) r19.1.Kind r19.1.Names r19.1.Values r19.1.Text [])))) [0,1,2] (.i n23) (kAu l21 o22 (kJ l6 (kE x18.Desk x18.Number x18.Clock x18.Line (kK (w64 ((l5.length:Int)+1)) r19.1.Kind r19.1.Names r19.1.Values r19.1.Text l21 o22 []))))) (xY [some 0,some 1,some 2] [some 0,none,none,none,none,none,some 3,some 4] (qe4 N l5 o7 (w64 ((l5.length:Int)+1)) r19.1.Kind r19.1.Names r19.1.Values r19.1.Text e_r20) (.kb rfl (.cells (rc (.gslice rfl) (rc (.hs rfl) rn))) (.ks (.ks .nil))) rfl rfl (.back rfl rfl (.cells (rc (.gslice rfl) (rc (.hs rfl) rn))) rfl (.dead (.dead (.old rfl rfl (.old rfl rfl (.old rfl rfl (.new rfl rfl (.same fa) rfl (.new rfl rfl (.same fa) rfl .nil)))))))) (rc (.ptr rfl) (rc (.same (qK.agg sn)) rn)) (.same nI) rfl)) az) ?_)
      refine ihB g17 (fun c24 g17=>?_) (fun c24 g17=>?_)
      ·obtain⟨r25,e_r25,g17⟩:=bnd g17
       obtain⟨l26,e_l26,g17⟩:=bnd g17
       refine gq fol [2,4] (kBX ((8,.gslice 9 l26.length 2)::(kAa r3 (r3.length:Int) n8 []))) (kAu l21 o22 (.dead::(kE x18.Desk x18.Number x18.Clock x18.Line (kK (w64 ((l5.length:Int)+1)) r19.1.Kind r19.1.Names r19.1.Values r19.1.Text l21 o22 (kAE r25.Desk r25.Number (kJ l26 [])))))) (ac (cv (j4 x18 e_r25)) (ac (hs (.run [3,8] (jL Tryz.prog [63,63] (.gslice 3 l6.length 2) (.slice 8 0 1 1 2)) (kAu l21 o22 (kJ l6 (kE x18.Desk x18.Number x18.Clock x18.Line (kK (w64 ((l5.length:Int)+1)) r19.1.Kind r19.1.Names r19.1.Values r19.1.Text l21 o22 (kAE r25.Desk r25.Number []))))) (.gslice 9 l26.length 2) (kAu l21 o22 (.dead::(kE x18.Desk x18.Number x18.Clock x18.Line (kK (w64 ((l5.length:Int)+1)) r19.1.Kind r19.1.Names r19.1.Values r19.1.Text l21 o22 (kAE r25.Desk r25.Number (kJ l26 [])))))) true) (qaF qr3 (E:=ky) rfl (qfQ (E:=ky) (ys:=[r25]) rfl rfl rfl rfl) (qi1 (E:=ky) (l:=l6) rfl rfl rfl e_l26 rfl))) az)) ?_
       obtain rfl:=si g17
       exact⟨rfl,_,_,_,rfl,(Sub.norm [] [some 0,some 6,some 7,some 9] rfl rfl (.kp (.keep (.gslice rfl) (.keep (.same (qp qa _)) (.keep (.same nI) (.keep (.same nI) .nil))))) (.kb rfl (.cells (rc (.gslice rfl) (rc (.hs rfl) rn))) (.ks (.ks (.ks .nil)))))⟩
      ·refine Goes.skip ?_
       obtain rfl:=si g17
       exact⟨rfl,_,_,_,rfl,(Sub.norm [] [some 0,some 6,some 7,some 3] rfl rfl (.kp (.keep (.gslice rfl) (.drop (.keep (.same (qp qa _)) (.keep (.same nI) (.keep (.same nI) .nil)))))) (.kb rfl (.cells (rc (.gslice rfl) (rc (.hs rfl) rn))) (.ks (.ks (.ks .nil)))))⟩
     rintro x s' ⟨rfl,l14,o15,l16,rfl,hsub⟩
     try dsimp only at g12
     refine Goes.sub hsub ?_
     refine gh fol (kT l16 (kAa r3 (r3.length:Int) (w64 (n8+1)) [])) ?_
     exact⟨M,(ofG 58 (kT l16 (kAa r3 (r3.length:Int) (w64 (n8+1)) [])),(kA l14 o15 (kJ l16 []))),Nat.lt_succ_self _,(Sub.refl _),_,_,_,_,rfl,g12⟩
    ·refine Goes.exit ?_
     obtain rfl:=si g12
     exact⟨rfl,_,_,_,rfl,(Sub.keep [7,8] rfl rfl)⟩
  rintro x s' ⟨rfl,l9,o10,l11,rfl,hsub⟩
  try dsimp only at h
  refine Goes.sub hsub ?_
  refine sh fol [(2,.gslice 1 l9.length 5),(3,.gslice 3 l11.length 2),(4,.i 0)] ?_
  refine Goes.ret ?_
  obtain rfl:=si h
  exact(gw2 [.gslice 1 l9.length 5,.gslice 3 l11.length 2,.i 0] (FzW.tuple (qA.cons (FzW.fz (Fz.gs (E:=ql) rfl rfl (nl rfl))) (qA.cons (FzW.fz (Fz.gs (E:=ky) rfl rfl (nl rfl))) (qA.cons (FzW.still tI) qA.nil)))))
def qaN (N:Nat) (l6:List qf):Nat→(List qh)→(List zo)→(Option (List StateT))→Int→Option ((List qh)×(Option (List StateT))×(List zo))
 |0,_,_,_,_=>none
 |K+1,l8,l9,o10,n11=>
  if n11<(l6.length:Int)then
  (((idx l6 n11).bind fun x21=>
  (qbH N x21.Line).bind fun r22=>
  (qao N l8 o10 (w64 ((l8.length:Int)+1)) r22.1.Kind r22.1.Names r22.1.Values r22.1.Text).bind fun(l24,o25,n26)=>
  if(!decide (n26=0))=true then
  (zO x21).bind fun r28=>
  (app 24 l9 [r28]).bind fun l29=>
  some (l24,o25,l29)
  else
  some (l24,o25,l9):Option ((List qh)×(Option (List StateT))×(List zo)))).bind fun(l17,o18,l19)=>
  qaN N l6 K l17 l19 o18 (w64 (n11+1))
  else
  some (l8,o10,l9)
def qem (N:Nat) (hd:qf) (tl:List qf):Option ((List qh)×(List zo)×Int):=
 (zC N (hd::tl)).bind fun r1=>
 if(!decide (r1=0))=true then
 some ([],[],r1)
 else
 (xO hd tl).bind fun l4=>
 (ym N l4).bind fun l6=>
 ((if l4.length=l6.length then some ()else none:Option Unit)).bind fun u7=>
 (qaN N l6 N ([]:List qh) ([]:List zo) (none:Option (List StateT)) 0).bind fun(l12,o13,l14)=>
 some (l12,l14,0)
theorem qmR (N:Nat) (hd:qf) (tl:List qf) {res:(List qh)×(List zo)×Int} (h:qem N hd tl=some res):qj Tryz.prog (.fn 24) [vl qa (hd::tl)] [] (.tuple [vl ql res.1,vl ky res.2.1,.i res.2.2]) []:=by
 unfold qem at h
 refine Goes.fnW Tryz.func24 rfl rfl (m:=58) rfl (rs:=[.tmp 2,.tmp 3,.tmp 4]) rfl (l:=(kD (hd::tl) [])) rfl ?_
 refine sh fol (kD (hd::tl) []) ?_
 refine sq ?_
 obtain⟨r1,e_r1,h⟩:=bnd h
 refine sq (gr fol [1] (kD (hd::tl) (kAm r1)) (ac (cv (jl N (hd::tl) e_r1)) az) ?_)
 refine sh fol (kD (hd::tl) [(5,.i r1),(16,.bool (!decide (r1=0)))]) ?_
 refine ihB h (fun c2 h=>?_) (fun c2 h=>?_)
 ·refine sh fol [(2,.nilslice),(3,.nilslice),(4,.i r1)] ?_
  refine Goes.ret ?_
  obtain rfl:=si h
  exact(gw2 [.nilslice,.nilslice,.i r1] (FzW.tuple (qA.cons (FzW.nilv (E:=ql)) (qA.cons (FzW.nilv (E:=ky)) (qA.cons (FzW.still tI) qA.nil)))))
 ·refine Goes.skip ?_
  obtain⟨l4,e_r3,h⟩:=bnd h
  refine sq (gq fol [1] [(6,.oslice 0 l4.length 4)] (kC l4 []) (ac (hs (.callH 56 [vl qa (hd::tl)] [] [] (.oslice 0 l4.length 4) (kC l4 [])) (xY [] [some 0] (qeG hd tl e_r3) .nil rfl rfl (.new rfl rfl (.same fa) rfl .nil) (rc (.same (qp qa _)) rn) (.oslice rfl) rfl)) az) ?_)
  obtain⟨l6,e_r5,h⟩:=bnd h
  obtain⟨u7,e_u7,h⟩:=bnd h
  refine sq (gq fol [1] [(6,.oslice 0 l4.length 4)] (kC l6 []) (ac (hs (.callH 67 (kBY l4 [.func (.func 68) [] []]) (kC l4 []) [0] (.tuple []) (kC l6 [])) (xY [some 0] [some 0] (qeS N l4 e_r5) (.ks .nil) rfl rfl (.back rfl rfl (.same fa) rfl .nil) (rc (.oslice rfl) (rc (.same (qK.func sn sn)) rn)) (.same (qK.tuple sn)) rfl)) az) ?_)
  refine Goes.sub (show Sub (ofG 58 [(6,.oslice 0 l4.length 4)],(kC l6 [])) (ofG 58 [(6,.oslice 0 l6.length 4)],(kC l6 []))from(Sub.norm [] [some 0] rfl rfl (.keep (.osliceE rfl (qlZ e_u7)) .nil) (.ks .nil))) ?_
  refine sg fol ((6,.oslice 0 l6.length 4)::(kBV [])) (kC l6 [.cells [.nilslice,.nilslice]]) ?_
  refine sh fol ((6,.oslice 0 l6.length 4)::(kBV [(8,.nilslice)])) ?_
  refine sq ?_
  refine sh fol (kBV [(8,.nilslice),(24,.oslice 0 l6.length 4),(25,.i (l6.length:Int)),(26,.i 0)]) ?_
  refine Goes.block ?_
  obtain⟨r15,g15,h⟩:=bnd h
  refine Goes.imp (Q:=fun x s'=>(x= .exit 0∧ ∃l12 o13 l14,(l12,o13,l14)=r15∧Sub s' (ofG 58 (kT l14 []),(kA l12 o13 (kJ l14 []))))) ?_ ?_
  ·refine Goes.sub (s':=(ofG 58 (kBX [(8,.gslice 3 ([]:List zo).length 2),(24,.oslice 4 l6.length 4),(25,.i (l6.length:Int)),(26,.i 0)]),(.cells [.gslice 1 ([]:List qh).length 5,hsl 2 3 (none:Option (List StateT))]:: .cells (([]:List qh).flatMap ql.c):: .cells ((hof (none:Option (List StateT))).flatMap qac.c)::(kBg (kC l6 []))))) (Sub.norm [] [some 1,none,none,none,some 0] rfl rfl (.kp (.keep .nil (.keep (.oslice rfl) (.keep (.same nI) (.keep (.same nI) .nil))))) (.kb rfl (.cells (rc (.nil) (rc .hs0 rn))) (.fresh (.fresh (.fresh (.ks .nil)))))) ?_
   refine Goes.loopS (fun M s=> ∃(l8:List qh) (l9:List zo) (o10:Option (List StateT)) (n11:Int),s=(ofG 58 (kT l9 (kAO l6 (l6.length:Int) n11 [])),(kA l8 o10 (kJ l9 (kC l6 []))))∧qaN N l6 M l8 l9 o10 n11=some r15) ?_ (m:=N) ⟨_,_,_,_,rfl,g15⟩
   rintro M s ⟨l8,l9,o10,n11,rfl,g15⟩
   cases M with
   |zero=>simp only[qaN]at g15;cases g15
   |succ M=>
    rw[qaN]at g15
    refine sh fol (kT l9 (kAO l6 (l6.length:Int) n11 [(27,.bool (decide (n11<(l6.length:Int))))])) ?_
    refine sq ?_
    refine ihD g15 (fun c16 g15=>?_) (fun c16 g15=>?_)
    ·refine Goes.skip ?_
     refine sq ?_
     obtain⟨r20,g20,g15⟩:=bnd g15
     refine Goes.imp (Q:=fun x s'=>(x= .normal∧ ∃l17 o18 l19,(l17,o18,l19)=r20∧Sub s' (ofG 58 (kT l19 (kAO l6 (l6.length:Int) n11 [])),(kA l17 o18 (kJ l19 (kC l6 [])))))) ?_ ?_
     ·refine Goes.block ?_
      obtain⟨x21,e_x21,g20⟩:=bnd g20
      refine sq (gq fol [0,1] (kT l9 ((10,.ptr 5 0)::(kAO l6 (l6.length:Int) n11 []))) (kA l8 o10 (kJ l9 (kC l6 (kE x21.Desk x21.Number x21.Clock x21.Line [])))) (ac (hs (.done (.opt (zQ Tryz.prog 54 (.oslice 4 l6.length 4) (.i n11))) (.ptr 4 ((n11:Int).toNat*4+0))) (qnr qdD e_x21)) (ac (hs (.run [4] (qbo Tryz.prog 112 (.ptr 4 ((n11:Int).toNat*4+0))) (kA l8 o10 (kJ l9 (kC l6 []))) (.agg (kAf x21.Desk x21.Number x21.Clock x21.Line)) (kA l8 o10 (kJ l9 (kC l6 []))) false) (qnG qeK (E:=qa) (l:=l6) rfl rfl e_x21)) az)) ?_)
      obtain⟨r22,e_r22,g20⟩:=bnd g20
      refine sq (gq fol [2] (kT l9 ((10,.ptr 5 0)::(11,.ptr 6 0)::(kAO l6 (l6.length:Int) n11 []))) (kA l8 o10 (kJ l9 (kC l6 (kE x21.Desk x21.Number x21.Clock x21.Line (kAy r22.1 []))))) (ac (cv (qeo N x21.Line e_r22)) az) ?_)
      refine sg fol (kT l9 ((10,.ptr 5 0)::(11,.ptr 6 0)::(kAO l6 (l6.length:Int) n11 []))) (kA l8 o10 (kJ l9 (kC l6 (kE x21.Desk x21.Number x21.Clock x21.Line (kA5 (w64 ((l8.length:Int)+1)) r22.1.Kind r22.1.Names r22.1.Values r22.1.Text []))))) ?_
      obtain⟨⟨l24,o25,n26⟩,e_r23,g20⟩:=bnd g20
      try dsimp only at g20
      refine sq (gq fol [2] (kT l9 ((10,.ptr 5 0)::(kAO l6 (l6.length:Int) n11 [(46,.bool (!decide (n26=0)))]))) (kAv l24 o25 (kJ l9 (kC l6 (kE x21.Desk x21.Number x21.Clock x21.Line (kK (w64 ((l8.length:Int)+1)) r22.1.Kind r22.1.Names r22.1.Values r22.1.Text l24 o25 []))))) (ac (hs (.callH 71 [.ptr 0 0,.agg [.i (w64 ((l8.length:Int)+1)),.str r22.1.Kind,vl encS r22.1.Names,vl encI r22.1.Values,.str r22.1.Text]] (kA l8 o10 (kJ l9 (kC l6 (kE x21.Desk x21.Number x21.Clock x21.Line (kA5 (w64 ((l8.length:Int)+1)) r22.1.Kind r22.1.Names r22.1.Values r22.1.Text []))))) [0,1,2] (.i n26) (kAv l24 o25 (kJ l9 (kC l6 (kE x21.Desk x21.Number x21.Clock x21.Line (kK (w64 ((l8.length:Int)+1)) r22.1.Kind r22.1.Names r22.1.Values r22.1.Text l24 o25 [])))))) (xY [some 0,some 1,some 2] [some 0,none,none,none,none,none,none,some 3,some 4] (qe4 N l8 o10 (w64 ((l8.length:Int)+1)) r22.1.Kind r22.1.Names r22.1.Values r22.1.Text e_r23) (.kb rfl (.cells (rc (.gslice rfl) (rc (.hs rfl) rn))) (.ks (.ks .nil))) rfl rfl (.back rfl rfl (.cells (rc (.gslice rfl) (rc (.hs rfl) rn))) rfl (.dead (.dead (.old rfl rfl (.old rfl rfl (.old rfl rfl (.old rfl rfl (.new rfl rfl (.same fa) rfl (.new rfl rfl (.same fa) rfl .nil))))))))) (rc (.ptr rfl) (rc (.same (qK.agg sn)) rn)) (.same nI) rfl)) az) ?_)
      refine ihB g20 (fun c27 g20=>?_) (fun c27 g20=>?_)
      ·obtain⟨r28,e_r28,g20⟩:=bnd g20
       obtain⟨l29,e_l29,g20⟩:=bnd g20
       refine gq fol [2,4] (kBX ((8,.gslice 10 l29.length 2)::(kAO l6 (l6.length:Int) n11 []))) (kAv l24 o25 (.dead::(kC l6 (kE x21.Desk x21.Number x21.Clock x21.Line (kK (w64 ((l8.length:Int)+1)) r22.1.Kind r22.1.Names r22.1.Values r22.1.Text l24 o25 (kAE r28.Desk r28.Number (kJ l29 []))))))) (ac (cv (j4 x21 e_r28)) (ac (hs (.run [3,9] (jL Tryz.prog [63,63] (.gslice 3 l9.length 2) (.slice 9 0 1 1 2)) (kAv l24 o25 (kJ l9 (kC l6 (kE x21.Desk x21.Number x21.Clock x21.Line (kK (w64 ((l8.length:Int)+1)) r22.1.Kind r22.1.Names r22.1.Values r22.1.Text l24 o25 (kAE r28.Desk r28.Number [])))))) (.gslice 10 l29.length 2) (kAv l24 o25 (.dead::(kC l6 (kE x21.Desk x21.Number x21.Clock x21.Line (kK (w64 ((l8.length:Int)+1)) r22.1.Kind r22.1.Names r22.1.Values r22.1.Text l24 o25 (kAE r28.Desk r28.Number (kJ l29 []))))))) true) (qaF qr3 (E:=ky) rfl (qfQ (E:=ky) (ys:=[r28]) rfl rfl rfl rfl) (qi1 (E:=ky) (l:=l9) rfl rfl rfl e_l29 rfl))) az)) ?_
       obtain rfl:=si g20
       exact⟨rfl,_,_,_,rfl,(Sub.norm [] [some 0,some 7,some 8,some 10,some 4] rfl rfl (.kp (.keep (.gslice rfl) (.keep (.oslice rfl) (.keep (.same nI) (.keep (.same nI) .nil))))) (.kb rfl (.cells (rc (.gslice rfl) (rc (.hs rfl) rn))) (.ks (.ks (.ks (.ks .nil))))))⟩
      ·refine Goes.skip ?_
       obtain rfl:=si g20
       exact⟨rfl,_,_,_,rfl,(Sub.norm [] [some 0,some 7,some 8,some 3,some 4] rfl rfl (.kp (.keep (.gslice rfl) (.drop (.keep (.oslice rfl) (.keep (.same nI) (.keep (.same nI) .nil)))))) (.kb rfl (.cells (rc (.gslice rfl) (rc (.hs rfl) rn))) (.ks (.ks (.ks (.ks .nil))))))⟩
     rintro x s' ⟨rfl,l17,o18,l19,rfl,hsub⟩
     try dsimp only at g15
     refine Goes.sub hsub ?_
     refine gh fol (kT l19 (kAO l6 (l6.length:Int) (w64 (n11+1)) [])) ?_
     exact⟨M,(ofG 58 (kT l19 (kAO l6 (l6.length:Int) (w64 (n11+1)) [])),(kA l17 o18 (kJ l19 (kC l6 [])))),Nat.lt_succ_self _,(Sub.refl _),_,_,_,_,rfl,g15⟩
    ·refine Goes.exit ?_
     obtain rfl:=si g15
     exact⟨rfl,_,_,_,rfl,(Sub.norm [] [some 0,some 1,some 2,some 3] rfl rfl (.kp (.keep (.gslice rfl) .nil)) (.kb rfl (.cells (rc (.gslice rfl) (rc (.hs rfl) rn))) (.ks (.ks (.ks .nil)))))⟩
  rintro x s' ⟨rfl,l12,o13,l14,rfl,hsub⟩
  try dsimp only at h
  refine Goes.sub hsub ?_
  refine sh fol [(2,.gslice 1 l12.length 5),(3,.gslice 3 l14.length 2),(4,.i 0)] ?_
  refine Goes.ret ?_
  obtain rfl:=si h
  exact(gw2 [.gslice 1 l12.length 5,.gslice 3 l14.length 2,.i 0] (FzW.tuple (qA.cons (FzW.fz (Fz.gs (E:=ql) rfl rfl (nl rfl))) (qA.cons (FzW.fz (Fz.gs (E:=ky) rfl rfl (nl rfl))) (qA.cons (FzW.still tI) qA.nil)))))
def qhd (N:Nat):(List qf)→Option ((List qh)×(List zo)×Int)
 |[]=>qei N
 |hd::tl=>qem N hd tl
theorem qjq (N:Nat) (l:List qf) {res:(List qh)×(List zo)×Int} (h:qhd N l=some res):qj Tryz.prog (.fn 24) [vl qa l] [] (.tuple [vl ql res.1,vl ky res.2.1,.i res.2.2]) []:=by
 cases l with
 |nil=>exact qnc N h
 |cons hd tl=>exact qmR N hd tl h
def yF (a:List qf) (b:List qf):Nat→Int→Option (Unit⊕Bool)
 |0,_=>none
 |K+1,n2=>
  if n2<(a.length:Int)then
  (idx a n2).bind fun x6=>
  (idx b n2).bind fun x7=>
  if(!((x6.Desk==x7.Desk)&&(decide (x6.Number=x7.Number)&&(decide (x6.Clock=x7.Clock)&&((x6.Line==x7.Line)&&true)))))=true then
  some (.inr false)
  else
  yF a b K (w64 (n2+1))
  else
  some (.inl ())
def qde (N:Nat) (a:List qf) (b:List qf):Option Bool:=
 if(!decide ((a.length:Int)=(b.length:Int)))=true then
 some false
 else
 (yF a b N 0).bind (fun
 |(.inl ())=>
 some true
 |(.inr q9)=>
 some q9)
theorem qbU (N:Nat) (a:List qf) (b:List qf) {res:Bool} (h:qde N a b=some res):qj Tryz.prog (.fn 25) (kBI a (kBI b [])) [] (.bool res) []:=by
 unfold qde at h
 refine Goes.fnW Tryz.func25 rfl rfl (m:=26) rfl (rs:=[.tmp 4]) rfl (l:=(kD a (kAr b []))) rfl ?_
 refine sh fol (kD a (kAr b [])) ?_
 refine sq ?_
 refine sh fol (kD a (kAr b [(10,.bool (!decide ((a.length:Int)=(b.length:Int))))])) ?_
 refine ihB h (fun c1 h=>?_) (fun c1 h=>?_)
 ·refine sh fol kAK ?_
  refine Goes.ret ?_
  obtain rfl:=si h
  exact(gw2 [.bool false] (FzW.still tB))
 ·refine Goes.skip ?_
  refine sq ?_
  refine sh fol (kD a (kAr b kBR)) ?_
  refine Goes.block ?_
  obtain⟨r3,g3,h⟩:=bnd h
  refine Goes.imp (Q:=fun x s'=>(x= .exit 0∧(.inl ())=r3∧Sub s' (ofG 26 [],[]))∨(x= .ret∧ ∃q4,(.inr q4)=r3∧jh Tryz.prog [.tmp 4] (.bool q4) .ret s')) ?_ ?_
  ·refine Goes.loopS (fun M s=> ∃(n2:Int),s=(ofG 26 (kD a (kAr b (kAm n2))),[])∧yF a b M n2=some r3) ?_ (m:=N) ⟨_,rfl,g3⟩
   rintro M s ⟨n2,rfl,g3⟩
   cases M with
   |zero=>simp only[yF]at g3;cases g3
   |succ M=>
    rw[yF]at g3
    refine sq ?_
    refine sh fol (kD a (kAr b [(5,.i n2),(14,.bool (decide (n2<(a.length:Int))))])) ?_
    refine ihD g3 (fun c5 g3=>?_) (fun c5 g3=>?_)
    ·refine Goes.skip ?_
     refine sq (Goes.block ?_)
     obtain⟨x6,e_x6,g3⟩:=bnd g3
     obtain⟨x7,e_x7,g3⟩:=bnd g3
     refine sq (gr fol [2,3,6,7,8] (kD a (kAr b [(5,.i n2),(25,.bool (!((x6.Desk==x7.Desk)&&(decide (x6.Number=x7.Number)&&(decide (x6.Clock=x7.Clock)&&((x6.Line==x7.Line)&&true))))))])) (ac (iv qq5 qa e_x6) (ac (la qto qa e_x6) (ac (iv qq5 qa e_x7) (ac (la qto qa e_x7) (ac (hs (.done (.opt (qiI Tryz.prog .neq 113 (.tmp 20) (.tmp 24) (.agg (kAf x6.Desk x6.Number x6.Clock x6.Line)) (.agg (kAf x7.Desk x7.Number x7.Clock x7.Line)))) (.bool (!((x6.Desk==x7.Desk)&&(decide (x6.Number=x7.Number)&&(decide (x6.Clock=x7.Clock)&&((x6.Line==x7.Line)&&true))))))) (qv5 qxB (e:=((x6.Desk==x7.Desk)&&(decide (x6.Number=x7.Number)&&(decide (x6.Clock=x7.Clock)&&((x6.Line==x7.Line)&&true))))) (.cons (a:= .str x6.Desk) (b:= .str x7.Desk) rfl (by kernel_rfl) (by kernel_rfl) (by kernel_rfl) (.cons (a:= .i x6.Number) (b:= .i x7.Number) rfl (by kernel_rfl) (by kernel_rfl) (by kernel_rfl) (.cons (a:= .i x6.Clock) (b:= .i x7.Clock) rfl (by kernel_rfl) (by kernel_rfl) (by kernel_rfl) (.cons (a:= .str x6.Line) (b:= .str x7.Line) rfl (by kernel_rfl) (by kernel_rfl) (by kernel_rfl) .nil)))))) az))))) ?_)
     refine ihB g3 (fun c8 g3=>?_) (fun c8 g3=>?_)
     ·refine sh fol kAK ?_
      refine Goes.ret ?_
      obtain rfl:=si g3
      exact Or.inr (⟨rfl,_,rfl,(gw2 [.bool false] (FzW.still tB))⟩)
     ·refine Goes.skip ?_
      refine gh fol (kD a (kAr b (kAm (w64 (n2+1))))) ?_
      exact⟨M,(ofG 26 (kD a (kAr b (kAm (w64 (n2+1))))),[]),Nat.lt_succ_self _,(Sub.refl _),_,rfl,g3⟩
    ·refine Goes.exit ?_
     obtain rfl:=si g3
     exact Or.inl (⟨rfl,rfl,(Sub.keep [] rfl rfl)⟩)
  rintro x s' (⟨rfl,rfl,hsub⟩|⟨rfl,q9,rfl,hret⟩)
  ·try dsimp only at h
   refine Goes.sub hsub ?_
   refine sh fol kAe ?_
   refine Goes.ret ?_
   obtain rfl:=si h
   exact(gw2 [.bool true] (FzW.still tB))
  ·try dsimp only at h
   obtain rfl:=si h
   exact hret
end Go.Av
end
noncomputable section
namespace Go.Av
open Go.Proofs Go.RowKit
set_option linter.unusedSectionVars false
set_option linter.unusedVariables false
set_option linter.unusedSimpArgs false
set_option maxRecDepth 100000
def awk:Option Bool:=some true
theorem qu1 {res:Bool} (h:awk=some res):qj Tryz.prog (.fn 6) [] [] (.bool res) []:=by
 obtain rfl:=si h
 exact qxH
def qaU (a1_:Int):Nat→(Option (List Int))→Int→Int→Option (Option (List Int))
 |0,_,_,_=>none
 |K+1,o2,n3,n4=>
  if n4<a1_ then
  (qu3 .i64 ((w64 (39373*n3)).tmod 2147483647) (w64 (n4+1))).bind fun q8=>
  (cut (hof o2) 0 q8).bind fun s15=>
  (app 8 ([]:List Int) s15).bind fun l16=>
  (app 8 l16 [n4]).bind fun l17=>
  (cut (hof o2) q8 ((hof o2).length:Int)).bind fun s18=>
  (app 8 l17 s18).bind fun l19=>
  qaU a1_ K (some l19) ((w64 (39373*n3)).tmod 2147483647) (w64 (n4+1))
  else
  some o2
def qef (N:Nat) (a0_:Int) (a1_:Int):Option (Option (List Int)):=
 (qaU a1_ N (none:Option (List Int)) a0_ 0).bind fun o5=>
 some o5
theorem qng (N:Nat) (a0_:Int) (a1_:Int) {o1:Option (List Int)} (h:qef N a0_ a1_=some o1):qj Tryz.prog (.fn 20) [.i a0_,.i a1_] [] (hsl 0 1 o1) (kBA o1):=by
 unfold qef at h
 refine Goes.fnH Tryz.func20 rfl rfl (m:=33) rfl (rs:=[.tmp 4]) rfl (l:=(kAk a0_ a1_ [])) rfl ?_
 intro B hB
 refine sh fol (kAk a0_ a1_ []) ?_
 refine sh fol (kAk a0_ a1_ [(5,.nilslice)]) ?_
 refine sq ?_
 refine sh fol (kAk a0_ a1_ [(5,.nilslice),(6,.i 0)]) ?_
 refine Goes.block ?_
 obtain⟨r6,g6,h⟩:=bnd h
 refine Goes.imp (Q:=fun x s'=>(x= .exit 0∧ ∃o5,o5=r6∧Sub s' (ofG 33 [(5,hsl 0 1 o5)],(kBA o5)))) ?_ ?_
 ·refine Goes.sub (s':=(ofG 33 (kAk a0_ a1_ [(5,hsl 0 1 (none:Option (List Int))),(6,.i 0)]),[.cells ((hof (none:Option (List Int))).flatMap encI.c)])) (Sub.norm [] [none] (by rw[hB];rfl) rfl (.keep (.same nI) (.keep (.same nI) (.keep xw.hs0 (.keep (.same nI) .nil)))) (.fresh .nil)) ?_
  refine Goes.loopS (fun M s=> ∃(o2:Option (List Int)) (n3:Int) (n4:Int),s=(ofG 33 (kAk n3 a1_ ((5,hsl 0 1 o2)::(kBM n4))),(kBA o2))∧qaU a1_ M o2 n3 n4=some r6) ?_ (m:=N) ⟨_,_,_,rfl,g6⟩
  rintro M s ⟨o2,n3,n4,rfl,g6⟩
  cases M with
  |zero=>simp only[qaU]at g6;cases g6
  |succ M=>
   rw[qaU]at g6
   refine sq ?_
   refine sh fol (kAk n3 a1_ [(5,hsl 0 1 o2),(6,.i n4),(10,.bool (decide (n4<a1_)))]) ?_
   refine ihD g6 (fun c7 g6=>?_) (fun c7 g6=>?_)
   ·refine Goes.skip ?_
    refine sq (Goes.block ?_)
    refine sh fol (kAk ((w64 (39373*n3)).tmod 2147483647) a1_ ((5,hsl 0 1 o2)::(kBM n4))) ?_
    obtain⟨q8,e_q8,g6⟩:=bnd g6
    refine sq (gr fol [3] (kAk ((w64 (39373*n3)).tmod 2147483647) a1_ ((5,hsl 0 1 o2)::(kA6 n4 q8 []))) (ac (hs (.done (.opt (qiI Tryz.prog .rem 3 (.tmp 16) (.tmp 18) (.i ((w64 (39373*n3)).tmod 2147483647)) (.i (w64 (n4+1))))) (.i q8)) (qwL e_q8)) az) ?_)
    refine Goes.sub (s':=(ofG 33 (kAk ((w64 (39373*n3)).tmod 2147483647) a1_ ((5,vl encI (hof o2))::(kA6 n4 q8 []))),[])) (Sub.norm [0] [] (by rw[hB];rfl) rfl (.keep (.same nI) (.keep (.same nI) (.keep (xw.hsL (E:=encI) rfl rfl (nl rfl)) (.keep (.same nI) (.keep (.same nI) .nil))))) .nil) ?_
    obtain⟨s15,e_s15,g6⟩:=bnd g6
    obtain⟨l16,e_l16,g6⟩:=bnd g6
    obtain⟨l17,e_l17,g6⟩:=bnd g6
    obtain⟨s18,e_s18,g6⟩:=bnd g6
    obtain⟨l19,e_l19,g6⟩:=bnd g6
    refine gq fol [3,4,7,10,11] (kAk ((w64 (39373*n3)).tmod 2147483647) a1_ ((5,.oslice 4 l19.length 1)::(kBM n4))) (.dead:: .dead:: .cells [.i n4]:: .dead::(kAA l19)) (ac (hs (.done (.opt (yf Tryz.prog 38 (vl encI (hof o2)) none (some (.i q8)) none)) (vl encI s15)) (qov qfS (E:=encI) rfl none (some q8) e_s15)) (ac (hs (.run [0] (jL Tryz.prog [38,38] (.slice 0 0 0 0 1) (vl encI s15)) [.cells []] (.oslice 1 l16.length 1) (.dead::(kAA l16)) true) (qaF qfS (E:=encI) rfl (qkM (E:=encI) rfl _) (qnD (E:=encI) rfl rfl rfl e_l16 rfl))) (ac (hs (.run [1,2] (jL Tryz.prog [38,38] (.oslice 1 l16.length 1) (.slice 2 0 1 1 1)) [.dead,.cells (l16.flatMap encI.c),.cells [.i n4]] (.oslice 3 l17.length 1) (.dead:: .dead:: .cells [.i n4]::(kAA l17)) true) (qaF qfS (E:=encI) rfl (qfQ (E:=encI) (ys:=[n4]) rfl rfl rfl rfl) (qry (E:=encI) (l:=l16) rfl rfl rfl e_l17 rfl))) (ac (hs (.done (.opt (yf Tryz.prog 38 (vl encI (hof o2)) (some (.i q8)) none none)) (vl encI s18)) (qov qfS (E:=encI) rfl (some q8) none e_s18)) (ac (hs (.run [3] (jL Tryz.prog [38,38] (.oslice 3 l17.length 1) (vl encI s18)) (.dead:: .dead:: .cells [.i n4]::(kAA l17)) (.oslice 4 l19.length 1) (.dead:: .dead:: .cells [.i n4]:: .dead::(kAA l19)) true) (qaF qfS (E:=encI) rfl (qkM (E:=encI) rfl _) (qry (E:=encI) (l:=l17) rfl rfl rfl e_l19 rfl))) az))))) ?_
    refine gh fol (kAk ((w64 (39373*n3)).tmod 2147483647) a1_ ((5,.oslice 4 l19.length 1)::(kBM (w64 (n4+1))))) ?_
    exact⟨M,(ofG 33 (kAk ((w64 (39373*n3)).tmod 2147483647) a1_ ((5,hsl 0 1 (some l19))::(kBM (w64 (n4+1))))),(kBA (some l19))),Nat.lt_succ_self _,(Sub.norm [] [some 4] (by rw[hB];rfl) rfl (.keep (.same nI) (.keep (.same nI) (.keep (xw.hs1 rfl) (.keep (.same nI) .nil)))) (.ks .nil)),_,_,_,rfl,g6⟩
   ·refine Goes.exit ?_
    obtain rfl:=si g6
    exact⟨rfl,_,rfl,(Sub.keep [5] rfl rfl)⟩
 rintro x s' ⟨rfl,o5,rfl,hsub⟩
 refine Goes.sub hsub ?_
 refine sh fol [(4,hsl 0 1 o5)] ?_
 refine Goes.ret ?_
 obtain rfl:=si h
 exact(gh2 [hsl 0 1 o5] (qig.refl _ _))
def zi (r27:(List zo)×Int):Nat→(List (Str×Int))→Int→Option ((List (Str×Int))⊕Bool)
 |0,_,_=>none
 |K+1,l33,n34=>
  if n34<(r27.1.length:Int)then
  (idx r27.1 n34).bind fun x39=>
  (if x39.Number<((qeA l33 x39.Desk).getD 0)then
  some true
  else
  some (decide (x39.Number>1000000)):Option Bool).bind fun b41=>
  if b41=true then
  some (.inr false)
  else
  (some (qjQ l33 x39.Desk x39.Number)).bind fun m44=>
  zi r27 K m44 (w64 (n34+1))
  else
  some (.inl l33)
def zh (N:Nat) (l:List qf) (l15:List Int):Nat→(List (Str×Int))→Int→(List qf)→Option ((List qf)⊕Bool)
 |0,_,_,_=>none
 |K+1,l17,n18,l19=>
  if n18<(l15.length:Int)then
  (idx l15 n18).bind fun x24=>
  (cut l x24 (w64 (x24+1))).bind fun s25=>
  (qhG N l19 s25).bind fun r26=>
  (qed N r26.1).bind fun r27=>
  (if(!decide (r26.2=0))=true then
  some true
  else
  if(!decide (r27.2=0))=true then
  some true
  else
  some (decide ((r26.1.length:Int)>(l.length:Int))):Option Bool).bind fun b30=>
  if b30=true then
  some (.inr false)
  else
  (zi r27 N l17 0).bind (fun
  |(.inl l35)=>
  (qdQ N l r27.1).bind fun r45=>
  (if(!decide (r45.2=0))=true then
  some true
  else
  some (decide ((r45.1.length:Int)<(w64 ((l.length:Int)-(r26.1.length:Int))))):Option Bool).bind fun b47=>
  if b47=true then
  some (.inr false)
  else
  zh N l l15 K l35 (w64 (n18+1)) r26.1
  |(.inr q50)=>
  some (.inr q50))
  else
  some (.inl l19)
def qaC (N:Nat) (l:List qf) (key:Int):Option Bool:=
 (qag N l).bind fun r1=>
 ((qbQ N r1 12).bind fun r2=>
 if(!r2)=true then
 some (key,true)
 else
 if(l.length:Int)>12 then
 some (key,true)
 else
 (qcR N r1).bind fun r5=>
 some (key,!decide (r5=0)):Option (Int×Bool)).bind fun(n6,b7)=>
 if b7=true then
 (awk).bind fun r10=>
 some r10
 else
 (qef N (w64 (1+(w64 n6))) (l.length:Int)).bind fun o12=>
 ((match o12 with
 |none=>
 some []
 |some l13=>
 (app 8 l13 l13).bind fun l14=>
 some l14):Option (List Int)).bind fun l15=>
 (zh N l l15 N ([]:List (Str×Int)) 0 ([]:List qf)).bind (fun
 |(.inl l20)=>
 (qhd N l20).bind fun r51=>
 (qhd N l).bind fun r52=>
 (if r51.2.2=0 then
 if r52.2.2=0 then
 (qag N l20).bind fun r55=>
 (qde N r55 r1).bind fun r56=>
 if r56=true then
 (qcH N r51.1 r52.1).bind fun r58=>
 if r58=true then
 if(r51.2.1.length:Int)=(r52.2.1.length:Int)then
 if(w64 ((r52.1.length:Int)+(r52.2.1.length:Int)))=(l.length:Int)then
 (awk).bind fun r62=>
 some r62
 else
 some false
 else
 some false
 else
 some false
 else
 some false
 else
 some false
 else
 some false:Option Bool).bind fun b63=>
 some b63
 |(.inr q65)=>
 some q65)
theorem qfb (N:Nat) (l:List qf) (key:Int) {res:Bool} (h:qaC N l key=some res):qj Tryz.prog (.fn 4) (kBI l [.int .u16 key]) [] (.bool res) []:=by
 unfold qaC at h
 refine Goes.fnW Tryz.func4 rfl rfl (m:=178) rfl (rs:=[.tmp 4]) rfl (l:=(kD l [(1,.int .u16 key)])) rfl ?_
 refine sh fol (kD l [(1,.int .u16 key)]) ?_
 obtain⟨r1,e_r1,h⟩:=bnd h
 refine sq (gr fol [1] (kD l ((1,.int .u16 key)::(kAl r1 []))) (ac (cv (yD N l e_r1)) az) ?_)
 refine sq ?_
 refine sq ?_
 obtain⟨⟨n6,b7⟩,g_v8,h⟩:=bnd h
 refine Goes.cut (s':=(ofG 178 (kD l ((1,.int .u16 n6)::(kAl r1 [(39,.bool b7)]))),[])) ?_ ?_
 ·obtain⟨r2,e_r2,g_v8⟩:=bnd g_v8
  rcases wyB g_v8 with⟨c3,g_v8⟩|⟨c3,g_v8⟩
  ·simp only[Option.some.injEq,Prod.mk.injEq]at g_v8
   obtain⟨rfl,rfl⟩:=g_v8
   exact tr fol [1,3] (kD l ((1,.int .u16 key)::(kAl r1 [(39,.bool true)]))) (ac (cv (qd7 N r1 12 e_r2)) (ac (gw c3) az))
  ·rcases wyD g_v8 with⟨c4,g_v8⟩|⟨c4,g_v8⟩
   ·simp only[Option.some.injEq,Prod.mk.injEq]at g_v8
    obtain⟨rfl,rfl⟩:=g_v8
    exact tr fol [1,3,8] (kD l ((1,.int .u16 key)::(kAl r1 [(39,.bool true)]))) (ac (cv (qd7 N r1 12 e_r2)) (ac (gw c3) (ac (gw c4) az)))
   ·obtain⟨r5,e_r5,g_v8⟩:=bnd g_v8
    simp only[Option.some.injEq,Prod.mk.injEq]at g_v8
    obtain⟨rfl,rfl⟩:=g_v8
    exact tr fol [1,3,8,10] (kD l ((1,.int .u16 key)::(kAl r1 [(39,.bool (!decide (r5=0)))]))) (ac (cv (qd7 N r1 12 e_r2)) (ac (gw c3) (ac (gw c4) (ac (cv (qkz N r1 e_r5)) az))))
 try dsimp only at h
 refine ihB h (fun c9 h=>?_) (fun c9 h=>?_)
 ·obtain⟨r10,e_r10,h⟩:=bnd h
  refine sq (gr fol [0] [(4,.bool r10)] (ac (cv (qu1 e_r10)) az) ?_)
  refine Goes.ret ?_
  obtain rfl:=si h
  exact(gw2 [.bool r10] (FzW.still tB))
 ·refine Goes.skip ?_
  obtain⟨o12,e_r11,h⟩:=bnd h
  refine sq (gq fol [5] (kD l (kAl r1 [(6,hsl 0 1 o12)])) (kBA o12) (ac (hs (.callH 20 [.i (w64 (1+(w64 n6))),.i (l.length:Int)] [] [] (hsl 0 1 o12) (kBA o12)) (xY [] [some 0] (qng N (w64 (1+(w64 n6))) (l.length:Int) e_r11) .nil rfl rfl (.new rfl rfl (.same fa) rfl .nil) (rc (.same nI) (rc (.same nI) rn)) (.hs rfl) rfl)) az) ?_)
  refine sq ?_
  obtain⟨l15,g_v16,h⟩:=bnd h
  refine Goes.cutS (s':=(ofG 178 (kD l (kAl r1 [(6,vl encI l15)])),[])) ?_ ?_
  ·rcases o12 with _|l13
   ·try dsimp only at g_v16
    obtain rfl:=si g_v16
    exact qW.sub (qW.rq fol [2] (kD l (kAl r1 [(6,.nilslice)])) [.cells ((hof (none:Option (List Int))).flatMap encI.c)] (ac (hs (.run [] (jL Tryz.prog [38,38] .nilslice .nilslice) [.cells ((hof (none:Option (List Int))).flatMap encI.c)] .nilslice [.cells ((hof (none:Option (List Int))).flatMap encI.c)] false) (qxb qfS)) az)) (Sub.norm [] [] rfl rfl (.keep (.same (qp qa _)) (.keep (.same (qp qa _)) (.keep .nilv .nil))) .nil)
   ·try dsimp only at g_v16
    obtain⟨l14,e_l14,g_v16⟩:=bnd g_v16
    obtain rfl:=si g_v16
    exact qW.sub (qW.rq fol [2] (kD l (kAl r1 [(6,.oslice 1 l14.length 1)])) (.dead::(kAA l14)) (ac (hs (.run [0,0] (jL Tryz.prog [38,38] (.oslice 0 l13.length 1) (.oslice 0 l13.length 1)) (kAA l13) (.oslice 1 l14.length 1) (.dead::(kAA l14)) true) (qaF qfS (E:=encI) rfl (src_o (E:=encI) rfl rfl rfl) (qry (E:=encI) (l:=l13) rfl rfl rfl e_l14 rfl))) az)) (Sub.norm [1] [] rfl rfl (.keep (.same (qp qa _)) (.keep (.same (qp qa _)) (.keep (.frz (Fz.os (E:=encI) rfl rfl (nl rfl)) (qp encI _)) .nil))) .nil)
  intro _ hsub
  refine Goes.sub hsub ?_
  refine sh fol (kD l (kAl r1 [(6,vl encI l15),(7,.nilslice)])) ?_
  refine sg fol (kD l (kAl r1 [(6,vl encI l15),(7,.nilslice),(8,.map 0)])) [mI ([]:List (Str×Int))] ?_
  refine sq ?_
  refine sh fol (kD l (kAl r1 [(7,.nilslice),(8,.map 0),(51,vl encI l15),(52,.i (l15.length:Int)),(53,.i 0)])) ?_
  refine Goes.block ?_
  obtain⟨r21,g21,h⟩:=bnd h
  refine Goes.imp (Q:=fun x s'=>(x= .exit 0∧ ∃l20,(.inl l20)=r21∧Sub s' (ofG 178 (kD l (kAl r1 [(7,vl qa l20)])),[]))∨(x= .ret∧ ∃q22,(.inr q22)=r21∧jh Tryz.prog [.tmp 4] (.bool q22) .ret s')) ?_ ?_
  ·refine Goes.sub (s':=(ofG 178 (kD l (kAl r1 [(7,vl qa ([]:List qf)),(8,.map 0),(51,vl encI l15),(52,.i (l15.length:Int)),(53,.i 0)])),[mI ([]:List (Str×Int))])) (Sub.norm [] [some 0] rfl rfl (.keep (.same (qp qa _)) (.keep (.same (qp qa _)) (.keep .nilv (.keep (.map rfl) (.keep (.same (qp encI _)) (.keep (.same nI) (.keep (.same nI) .nil))))))) (.kb rfl (.map (mpN fun _=>nS) (mpN fun _=>nI)) .nil)) ?_
   refine Goes.loopS (fun M s=> ∃(l17:List (Str×Int)) (n18:Int) (l19:List qf),s=(ofG 178 (kD l (kL r1 l19 (kQ l15 (l15.length:Int) n18 []))),[mI l17])∧zh N l l15 M l17 n18 l19=some r21) ?_ (m:=N) ⟨_,_,_,rfl,g21⟩
   rintro M s ⟨l17,n18,l19,rfl,g21⟩
   cases M with
   |zero=>simp only[zh]at g21;cases g21
   |succ M=>
    rw[zh]at g21
    refine sh fol (kD l (kL r1 l19 (kQ l15 (l15.length:Int) n18 [(54,.bool (decide (n18<(l15.length:Int))))]))) ?_
    refine sq ?_
    refine ihD g21 (fun c23 g21=>?_) (fun c23 g21=>?_)
    ·refine Goes.skip ?_
     refine sq (Goes.block ?_)
     obtain⟨x24,e_x24,g21⟩:=bnd g21
     refine sq (gr fol [0,1] (kD l (kL r1 l19 ((10,.i x24)::(kQ l15 (l15.length:Int) n18 [])))) (ac (iv qfS encI e_x24) (ac (lv 0 ce3 encI e_x24 rfl) az)) ?_)
     obtain⟨s25,e_s25,g21⟩:=bnd g21
     obtain⟨r26,e_r26,g21⟩:=bnd g21
     refine sq (gr fol [5,6] (kD l (kAl r1 (kBK r26.1 ((12,.i r26.2)::(kQ l15 (l15.length:Int) n18 []))))) (ac (hs (.done (.opt (yf Tryz.prog 54 (vl qa l) (some (.i x24)) (some (.i (w64 (x24+1)))) none)) (vl qa s25)) (qov qdD (E:=qa) rfl (some x24) (some (w64 (x24+1))) e_s25)) (ac (cv (qmK N l19 s25 e_r26)) az)) ?_)
     obtain⟨r27,e_r27,g21⟩:=bnd g21
     refine sq (gr fol [1] (kD l (kAl r1 (kBK r26.1 ((12,.i r26.2)::(kAt r27.1 ((14,.i r27.2)::(kQ l15 (l15.length:Int) n18 []))))))) (ac (cv (qmZ N r26.1 e_r27)) az) ?_)
     refine sq ?_
     refine sq ?_
     obtain⟨b30,g_v31,g21⟩:=bnd g21
     refine Goes.cut (s':=(ofG 178 (kD l (kAl r1 (kBK r26.1 (kAt r27.1 (kQ l15 (l15.length:Int) n18 [(84,.bool b30)]))))),[mI l17])) ?_ ?_
     ·rcases wyB g_v31 with⟨c28,g_v31⟩|⟨c28,g_v31⟩
      ·obtain rfl:=si g_v31
       exact tr fol [2] (kD l (kAl r1 (kBK r26.1 (kAt r27.1 (kQ l15 (l15.length:Int) n18 [(84,.bool true)]))))) (ac (gw c28) az)
      ·rcases wyB g_v31 with⟨c29,g_v31⟩|⟨c29,g_v31⟩
       ·obtain rfl:=si g_v31
        exact tr fol [2,6] (kD l (kAl r1 (kBK r26.1 (kAt r27.1 (kQ l15 (l15.length:Int) n18 [(84,.bool true)]))))) (ac (gw c28) (ac (gw c29) az))
       ·obtain rfl:=si g_v31
        exact tr fol [2,6] (kD l (kAl r1 (kBK r26.1 (kAt r27.1 (kQ l15 (l15.length:Int) n18 [(84,.bool (decide ((r26.1.length:Int)>(l.length:Int))))]))))) (ac (gw c28) (ac (gw c29) az))
     refine ihB g21 (fun c32 g21=>?_) (fun c32 g21=>?_)
     ·refine sh fol kAK ?_
      refine Goes.ret ?_
      obtain rfl:=si g21
      exact Or.inr (⟨rfl,_,rfl,(gw2 [.bool false] (FzW.still tB))⟩)
     ·refine Goes.skip ?_
      refine sh fol (kD l (kL r1 r26.1 (kAt r27.1 (kQ l15 (l15.length:Int) n18 [])))) ?_
      refine sq ?_
      refine sh fol (kD l (kL r1 r26.1 (kAt r27.1 (kQ l15 (l15.length:Int) n18 [(86,vl ky r27.1),(87,.i (r27.1.length:Int)),(88,.i 0)])))) ?_
      refine Goes.block ?_
      obtain⟨r36,g36,g21⟩:=bnd g21
      refine Goes.imp (Q:=fun x s'=>(x= .exit 2∧ ∃l35,(.inl l35)=r36∧Sub s' (ofG 178 (kD l (kL r1 r26.1 (kAt r27.1 (kQ l15 (l15.length:Int) n18 [])))),[mI l35]))∨(x= .ret∧ ∃q37,(.inr q37)=r36∧jh Tryz.prog [.tmp 4] (.bool q37) .ret s')) ?_ ?_
      ·refine Goes.loopS (fun M s=> ∃(l33:List (Str×Int)) (n34:Int),s=(ofG 178 (kD l (kL r1 r26.1 (kAt r27.1 (kQ l15 (l15.length:Int) n18 (kAh r27.1 (r27.1.length:Int) n34 []))))),[mI l33])∧zi r27 M l33 n34=some r36) ?_ (m:=N) ⟨_,_,rfl,g36⟩
       rintro M s ⟨l33,n34,rfl,g36⟩
       cases M with
       |zero=>simp only[zi]at g36;cases g36
       |succ M=>
        rw[zi]at g36
        refine sh fol (kD l (kL r1 r26.1 (kAt r27.1 (kQ l15 (l15.length:Int) n18 (kAh r27.1 (r27.1.length:Int) n34 [(89,.bool (decide (n34<(r27.1.length:Int))))]))))) ?_
        refine sq ?_
        refine ihD g36 (fun c38 g36=>?_) (fun c38 g36=>?_)
        ·refine Goes.skip ?_
         refine sq (Goes.block ?_)
         obtain⟨x39,e_x39,g36⟩:=bnd g36
         refine sq (gq fol [0,1] (kD l (kL r1 r26.1 (kAt r27.1 ((16,.ptr 1 0)::(kQ l15 (l15.length:Int) n18 (kAh r27.1 (r27.1.length:Int) n34 [])))))) (mI l33::(kAE x39.Desk x39.Number [])) (ac (iv qr3 ky e_x39) (ac (la ag67 ky e_x39) az)) ?_)
         refine sq ?_
         refine sq ?_
         obtain⟨b41,g_v42,g36⟩:=bnd g36
         refine Goes.cut (s':=(ofG 178 (kD l (kL r1 r26.1 (kAt r27.1 ((16,.ptr 1 0)::(kQ l15 (l15.length:Int) n18 (kAh r27.1 (r27.1.length:Int) n34 [(103,.bool b41)])))))),(mI l33::(kAE x39.Desk x39.Number [])))) ?_ ?_
         ·rcases wyD g_v42 with⟨c40,g_v42⟩|⟨c40,g_v42⟩
          ·obtain rfl:=si g_v42
           exact tr fol [5,7] (kD l (kL r1 r26.1 (kAt r27.1 ((16,.ptr 1 0)::(kQ l15 (l15.length:Int) n18 (kAh r27.1 (r27.1.length:Int) n34 [(103,.bool true)])))))) (ac (hs (.run [0] (vg Tryz.prog 60 (.map 0) (.str x39.Desk) false) (mI l33::(kAE x39.Desk x39.Number [])) (.i ((qeA l33 x39.Desk).getD 0)) (mI l33::(kAE x39.Desk x39.Number [])) false) (qo1 (z:=0) (f:=fI) qrH qvq rfl x39.Desk)) (ac (gw c40) az))
          ·obtain rfl:=si g_v42
           exact tr fol [5,7] (kD l (kL r1 r26.1 (kAt r27.1 ((16,.ptr 1 0)::(kQ l15 (l15.length:Int) n18 (kAh r27.1 (r27.1.length:Int) n34 [(103,.bool (decide (x39.Number>1000000)))])))))) (ac (hs (.run [0] (vg Tryz.prog 60 (.map 0) (.str x39.Desk) false) (mI l33::(kAE x39.Desk x39.Number [])) (.i ((qeA l33 x39.Desk).getD 0)) (mI l33::(kAE x39.Desk x39.Number [])) false) (qo1 (z:=0) (f:=fI) qrH qvq rfl x39.Desk)) (ac (gw c40) az))
         refine ihB g36 (fun c43 g36=>?_) (fun c43 g36=>?_)
         ·refine sh fol kAK ?_
          refine Goes.ret ?_
          obtain rfl:=si g36
          exact Or.inr (⟨rfl,_,rfl,(gw2 [.bool false] (FzW.still tB))⟩)
         ·refine Goes.skip ?_
          obtain⟨m44,e_m44,g36⟩:=bnd g36
          refine gq fol [5] (kD l (kL r1 r26.1 (kAt r27.1 (kQ l15 (l15.length:Int) n18 (kAh r27.1 (r27.1.length:Int) n34 []))))) (mI m44::(kAE x39.Desk x39.Number [])) (ac (hs (.run [0] (qdP Tryz.prog 60 (.map 0) (.str x39.Desk) (.i x39.Number)) (mI l33::(kAE x39.Desk x39.Number [])) .undef (mI m44::(kAE x39.Desk x39.Number [])) true) (upm qrH qvq fI rfl x39.Desk x39.Number e_m44 rfl)) az) ?_
          refine gh fol (kD l (kL r1 r26.1 (kAt r27.1 (kQ l15 (l15.length:Int) n18 (kAh r27.1 (r27.1.length:Int) (w64 (n34+1)) []))))) ?_
          exact⟨M,(ofG 178 (kD l (kL r1 r26.1 (kAt r27.1 (kQ l15 (l15.length:Int) n18 (kAh r27.1 (r27.1.length:Int) (w64 (n34+1)) []))))),[mI m44]),Nat.lt_succ_self _,(Sub.norm [] [some 0] rfl rfl (.keep (.same (qp qa _)) (.keep (.same (qp qa _)) (.keep (.same (qp qa _)) (.keep (.map rfl) (.keep (.same (qp ky _)) (.keep (.same (qp encI _)) (.keep (.same nI) (.keep (.same nI) (.keep (.same (qp ky _)) (.keep (.same nI) (.keep (.same nI) .nil))))))))))) (.kb rfl (.map (mpN fun _=>nS) (mpN fun _=>nI)) .nil)),_,_,rfl,g36⟩
        ·refine Goes.exit ?_
         obtain rfl:=si g36
         exact Or.inl (⟨rfl,_,rfl,(Sub.keep [0,5,7,8,13,51,52,53] rfl rfl)⟩)
      rintro x s' (⟨rfl,l35,rfl,hsub⟩|⟨rfl,q50,rfl,hret⟩)
      ·try dsimp only at g21
       refine Goes.sub hsub ?_
       obtain⟨r45,e_r45,g21⟩:=bnd g21
       refine sq (gr fol [2] (kD l (kL r1 r26.1 ((17,vl qa r45.1)::(18,.i r45.2)::(kQ l15 (l15.length:Int) n18 [])))) (ac (cv (qlU N l r27.1 e_r45)) az) ?_)
       refine sq ?_
       obtain⟨b47,g_v48,g21⟩:=bnd g21
       refine Goes.cut (s':=(ofG 178 (kD l (kL r1 r26.1 (kQ l15 (l15.length:Int) n18 [(127,.bool b47)]))),[mI l35])) ?_ ?_
       ·rcases wyB g_v48 with⟨c46,g_v48⟩|⟨c46,g_v48⟩
        ·obtain rfl:=si g_v48
         exact tr fol [2] (kD l (kL r1 r26.1 (kQ l15 (l15.length:Int) n18 [(127,.bool true)]))) (ac (gw c46) az)
        ·obtain rfl:=si g_v48
         exact tr fol [2] (kD l (kL r1 r26.1 (kQ l15 (l15.length:Int) n18 [(127,.bool (decide ((r45.1.length:Int)<(w64 ((l.length:Int)-(r26.1.length:Int))))))]))) (ac (gw c46) az)
       refine ihB g21 (fun c49 g21=>?_) (fun c49 g21=>?_)
       ·refine sh fol kAK ?_
        refine Goes.ret ?_
        obtain rfl:=si g21
        exact Or.inr (⟨rfl,_,rfl,(gw2 [.bool false] (FzW.still tB))⟩)
       ·refine Goes.skip ?_
        refine gh fol (kD l (kL r1 r26.1 (kQ l15 (l15.length:Int) (w64 (n18+1)) []))) ?_
        exact⟨M,(ofG 178 (kD l (kL r1 r26.1 (kQ l15 (l15.length:Int) (w64 (n18+1)) []))),[mI l35]),Nat.lt_succ_self _,(Sub.refl _),_,_,_,rfl,g21⟩
      ·try dsimp only at g21
       obtain rfl:=si g21
       exact Or.inr (⟨rfl,_,rfl,hret⟩)
    ·refine Goes.exit ?_
     obtain rfl:=si g21
     exact Or.inl (⟨rfl,_,rfl,(Sub.norm [] [] rfl rfl (.keep (.same (qp qa _)) (.keep (.same (qp qa _)) (.keep (.same (qp qa _)) .nil))) .nil)⟩)
  rintro x s' (⟨rfl,l20,rfl,hsub⟩|⟨rfl,q65,rfl,hret⟩)
  ·try dsimp only at h
   refine Goes.sub hsub ?_
   obtain⟨r51,e_r51,h⟩:=bnd h
   refine sq (gr fol [1] (kD l (kAl r1 ((7,vl qa l20)::(19,vl ql r51.1)::(kAq r51.2.1 r51.2.2 [])))) (ac (cv (qjq N l20 e_r51)) az) ?_)
   obtain⟨r52,e_r52,h⟩:=bnd h
   refine sq (gr fol [1] (kD l (kAl r1 ((7,vl qa l20)::(19,vl ql r51.1)::(kAq r51.2.1 r51.2.2 [(22,vl ql r52.1),(23,vl ky r52.2.1),(24,.i r52.2.2)])))) (ac (cv (qjq N l e_r52)) az) ?_)
   refine sq ?_
   obtain⟨b63,g_v64,h⟩:=bnd h
   refine Goes.cut (s':=(ofG 178 [(4,.bool b63)],[])) ?_ ?_
   ·rcases wyD g_v64 with⟨c53,g_v64⟩|⟨c53,g_v64⟩
    ·rcases wyD g_v64 with⟨c54,g_v64⟩|⟨c54,g_v64⟩
     ·obtain⟨r55,e_r55,g_v64⟩:=bnd g_v64
      obtain⟨r56,e_r56,g_v64⟩:=bnd g_v64
      rcases wyB g_v64 with⟨c57,g_v64⟩|⟨c57,g_v64⟩
      ·obtain⟨r58,e_r58,g_v64⟩:=bnd g_v64
       rcases wyB g_v64 with⟨c59,g_v64⟩|⟨c59,g_v64⟩
       ·rcases wyD g_v64 with⟨c60,g_v64⟩|⟨c60,g_v64⟩
        ·rcases wyD g_v64 with⟨c61,g_v64⟩|⟨c61,g_v64⟩
         ·obtain⟨r62,e_r62,g_v64⟩:=bnd g_v64
          obtain rfl:=si g_v64
          exact tr fol [2,6,8,10,12,15,17,24,34,35] [(4,.bool r62)] (ac (gw c53) (ac (gw c54) (ac (cv (yD N l20 e_r55)) (ac (cv (qbU N r55 r1 e_r56)) (ac (gw c57) (ac (cv (qcw N r51.1 r52.1 e_r58)) (ac (gw c59) (ac (gw c60) (ac (gw c61) (ac (cv (qu1 e_r62)) az))))))))))
         ·obtain rfl:=si g_v64
          exact tr fol [2,6,8,10,12,15,17,24,34] kAK (ac (gw c53) (ac (gw c54) (ac (cv (yD N l20 e_r55)) (ac (cv (qbU N r55 r1 e_r56)) (ac (gw c57) (ac (cv (qcw N r51.1 r52.1 e_r58)) (ac (gw c59) (ac (gw c60) (ac (gw c61) az)))))))))
        ·obtain rfl:=si g_v64
         exact tr fol [2,6,8,10,12,15,17,24] kAK (ac (gw c53) (ac (gw c54) (ac (cv (yD N l20 e_r55)) (ac (cv (qbU N r55 r1 e_r56)) (ac (gw c57) (ac (cv (qcw N r51.1 r52.1 e_r58)) (ac (gw c59) (ac (gw c60) az))))))))
       ·obtain rfl:=si g_v64
        exact tr fol [2,6,8,10,12,15,17] kAK (ac (gw c53) (ac (gw c54) (ac (cv (yD N l20 e_r55)) (ac (cv (qbU N r55 r1 e_r56)) (ac (gw c57) (ac (cv (qcw N r51.1 r52.1 e_r58)) (ac (gw c59) az)))))))
      ·obtain rfl:=si g_v64
       exact tr fol [2,6,8,10,12] kAK (ac (gw c53) (ac (gw c54) (ac (cv (yD N l20 e_r55)) (ac (cv (qbU N r55 r1 e_r56)) (ac (gw c57) az)))))
     ·obtain rfl:=si g_v64
      exact tr fol [2,6] kAK (ac (gw c53) (ac (gw c54) az))
    ·obtain rfl:=si g_v64
     exact tr fol [2] kAK (ac (gw c53) az)
   refine Goes.ret ?_
   obtain rfl:=si h
   exact(gw2 [.bool b63] (FzW.still tB))
  ·try dsimp only at h
   obtain rfl:=si h
   exact hret
end Go.Av
end
noncomputable section
namespace Go.Av
set_option linter.unusedVariables false
structure vH where
 Day:Int
 Slings:List qg
def qgl (N:Nat) (e:qh) (r3:Int×Int×Bool):Nat→Int→Option (Unit⊕Int)
 |0,_=>none
 |K+1,n9=>
  if n9<r3.1 then
  (idx e.Names n9).bind fun x13=>
  (qdZ N x13).bind fun r14=>
  if(!r14)=true then
  some (.inr 8)
  else
  qgl N e r3 K (w64 (n9+1))
  else
  some (.inl ())
def qgo (e:qh) (r3:Int×Int×Bool):Nat→Int→Option (Unit⊕Int)
 |0,_=>none
 |K+1,n16=>
  if n16<r3.2.1 then
  (idx e.Values n16).bind fun x20=>
  (xZ x20 0 999999999).bind fun r21=>
  if r21=true then
  some (.inr 3)
  else
  qgo e r3 K (w64 (n16+1))
  else
  some (.inl ())
def qmO (N:Nat) (e:qh):Option Int:=
 (xZ e.Number 1 1000).bind fun r1=>
 if r1=true then
 some 3
 else
 (qfo e.Kind).bind fun r3=>
 if(!r3.2.2)=true then
 some 13
 else
 (if(!decide ((e.Names.length:Int)=r3.1))=true then
 some true
 else
 some (!decide ((e.Values.length:Int)=r3.2.1)):Option Bool).bind fun b6=>
 if b6=true then
 some 2
 else
 (qgl N e r3 N 0).bind (fun
 |(.inl ())=>
 (qgo e r3 N 0).bind (fun
 |(.inl ())=>
 if(!(e.Text==[]))=true then
 some 1
 else
 some 0
 |(.inr q24)=>
 some q24)
 |(.inr q25)=>
 some q25)
def qcO (l2:List qg) (x4:Str):Nat→Int→Int→Option (Int×Int)
 |0,_,_=>none
 |K+1,n8,n9=>
  (if n9<(l2.length:Int)then
  (idx l2 n9).bind fun x14=>
  some (ltL x14.Name x4)
  else
  some false:Option Bool).bind fun b15=>
  if b15=true then
  qcO l2 x4 K n8 (w64 (n9+1))
  else
  some (n8,n9)
def qca (e:qh) (x1:Int):Nat→(List qg)→Int→Option (List qg)
 |0,_,_=>none
 |K+1,l23,n24=>
  if n24<(l23.length:Int)then
  (((idx l23 n24).bind fun x30=>
  (idx e.Names 0).bind fun x31=>
  (if(e.Kind==[116,101,115,116])=true then
  some (x30.Name==x31)
  else
  some false:Option Bool).bind fun b33=>
  if b33=true then
  (idx e.Values 1).bind fun x36=>
  (put l23 n24 (⟨x30.Name,x30.Batch,x30.Born,x30.Last,x30.Uses,x30.Used,w64 (x36.tdiv 2),x30.Until,x30.Gone⟩:qg)).bind fun l37=>
  (idx l37 n24).bind fun x38=>
  (put l37 n24 (⟨x38.Name,x38.Batch,x38.Born,x38.Last,x38.Uses,x38.Used,x38.Limit,(if x38.Last<(w64 (x1+365))then x38.Last else(w64 (x1+365))),x38.Gone⟩:qg)).bind fun l39=>
  some l39
  else
  (if(e.Kind==[117,115,101])=true then
  some (x30.Name==x31)
  else
  some false:Option Bool).bind fun b41=>
  if b41=true then
  (put l23 n24 (⟨x30.Name,x30.Batch,x30.Born,x30.Last,x30.Uses,w64 (x30.Used+1),x30.Limit,x30.Until,x30.Gone⟩:qg)).bind fun l44=>
  some l44
  else
  (if(e.Kind==[102,97,105,108])=true then
  some (x30.Name==x31)
  else
  some false:Option Bool).bind fun b46=>
  ((if b46=true then
  some b46
  else
  (if(e.Kind==[114,101,99,97,108,108])=true then
  some (x30.Batch==x31)
  else
  some false:Option Bool).bind fun b52=>
  some b52:Option Bool)).bind fun b48=>
  if b48=true then
  (put l23 n24 (⟨x30.Name,x30.Batch,x30.Born,x30.Last,x30.Uses,x30.Used,x30.Limit,x30.Until,true⟩:qg)).bind fun l55=>
  some l55
  else
  some l23:Option (List qg))).bind fun l28=>
  qca e x1 K l28 (w64 (n24+1))
  else
  some l23
def qbt (N:Nat) (r:vH) (e:qh):Option vH:=
 (idx e.Values 0).bind fun x1=>
 (app 88 ([]:List qg) r.Slings).bind fun l2=>
 if(e.Kind==[109,97,107,101])=true then
 (idx e.Names 0).bind fun x4=>
 (idx e.Names 1).bind fun x5=>
 (idx e.Values 1).bind fun x6=>
 (idx e.Values 2).bind fun x7=>
 (qcO l2 x4 N (w64 (x1+x6)) 0).bind fun(n10,n11)=>
 (cut l2 0 n11).bind fun s18=>
 (app 88 ([]:List qg) s18).bind fun l19=>
 (app 88 l19 [(⟨x4,x5,x1,n10,x7,0,0,0,false⟩:qg)]).bind fun l20=>
 (cut l2 n11 (l2.length:Int)).bind fun s21=>
 (app 88 l20 s21).bind fun l22=>
 some (⟨x1,l22⟩:vH)
 else
 (qca e x1 N l2 0).bind fun l25=>
 some (⟨x1,l25⟩:vH)
def qbD (N:Nat) (l:List qh):Nat→Int→(List qg)→Int→Option (Int×(List qg))
 |0,_,_,_=>none
 |K+1,n1,l2,n3=>
  if n3<(l.length:Int)then
  (idx l n3).bind fun x8=>
  (qbt N (⟨n1,l2⟩:vH) x8).bind fun r9=>
  qbD N l K r9.Day r9.Slings (w64 (n3+1))
  else
  some (n1,l2)
def qcL (N:Nat) (l:List qh):Option vH:=
 (qbD N l N 0 ([]:List qg) 0).bind fun(n4,l5)=>
 some (⟨n4,l5⟩:vH)
def qhm (r:vH) (name:Str):Nat→Int→Option (Unit⊕Int)
 |0,_=>none
 |K+1,n1=>
  if n1<(r.Slings.length:Int)then
  (idx r.Slings n1).bind fun x5=>
  if(x5.Name==name)=true then
  some (.inr n1)
  else
  qhm r name K (w64 (n1+1))
  else
  some (.inl ())
def qoC (N:Nat) (r:vH) (name:Str):Option Int:=
 (qhm r name N 0).bind (fun
 |(.inl ())=>
 some (-1)
 |(.inr q7)=>
 some q7)
def qfK (s_:qg) (day:Int):Option Bool:=
 (if s_.Gone=true then
 some true
 else
 if day>s_.Last then
 some true
 else
 some (decide (s_.Used=s_.Uses)):Option Bool).bind fun b3=>
 some b3
def qhs (s_:qg) (day:Int):Option Bool:=
 (if s_.Limit>0 then
 some (decide (day≤s_.Until))
 else
 some false:Option Bool).bind fun b2=>
 some b2
def qbP (r:vH) (e:qh) (x1:Int):Nat→Bool→Bool→Int→Option (Bool×Bool)
 |0,_,_,_=>none
 |K+1,b19,b20,n21=>
  if n21<(r.Slings.length:Int)then
  (((idx r.Slings n21).bind fun x29=>
  (idx e.Names 0).bind fun x30=>
  if(x29.Batch==x30)=true then
  (if b20=true then
  some true
  else
  (qfK x29 x1).bind fun r33=>
  some (!r33):Option Bool).bind fun b34=>
  some (true,b34)
  else
  some (b19,b20):Option (Bool×Bool))).bind fun(b26,b27)=>
  qbP r e x1 K b26 b27 (w64 (n21+1))
  else
  some (b19,b20)
def qcr (N:Nat) (r:vH) (e:qh):Option Int:=
 (idx e.Values 0).bind fun x1=>
 if x1>99999 then
 some 3
 else
 if x1<r.Day then
 some 19
 else
 (idx e.Names 0).bind fun x4=>
 (qoC N r x4).bind fun r5=>
 if(e.Kind==[109,97,107,101])=true then
 if r5≥0 then
 some 9
 else
 ((idx e.Values 1).bind fun x8=>
 (xZ x8 1 9999).bind fun r9=>
 if r9=true then
 some true
 else
 (idx e.Values 2).bind fun x11=>
 (xZ x11 1 9999).bind fun r12=>
 if r12=true then
 some true
 else
 some (decide ((w64 (x1+x8))>99999)):Option Bool).bind fun b14=>
 if b14=true then
 some 3
 else
 if(r.Slings.length:Int)≥256 then
 some 5
 else
 some 0
 else
 if(e.Kind==[114,101,99,97,108,108])=true then
 (qbP r e x1 N false false 0).bind fun(b22,b23)=>
 if(!b22)=true then
 some 10
 else
 if(!b23)=true then
 some 20
 else
 some 0
 else
 if r5<0 then
 some 10
 else
 (idx r.Slings r5).bind fun x39=>
 (qfK x39 x1).bind fun r40=>
 if r40=true then
 some 20
 else
 (if(e.Kind==[116,101,115,116])=true then
 (idx e.Values 1).bind fun x43=>
 (xZ x43 2 999999999).bind fun r44=>
 some r44
 else
 some false:Option Bool).bind fun b45=>
 if b45=true then
 some 3
 else
 ((if(e.Kind==[117,115,101])=true then
 (qhs x39 x1).bind fun r51=>
 if(!r51)=true then
 some (.inr 24)
 else
 (idx e.Values 1).bind fun x53=>
 if x53>x39.Limit then
 some (.inr 31)
 else
 some (.inl ())
 else
 some (.inl ()):Option (Unit⊕Int))).bind (fun
 |(.inl ())=>
 some 0
 |(.inr q55)=>
 some q55)
def qhM (N:Nat) (l:List qh):Nat→(List qh)→Int→Option ((List qh)⊕((List qh)×Int×Int))
 |0,_,_=>none
 |K+1,l1,n2=>
  if n2<(l.length:Int)then
  (((idx l n2).bind fun x10=>
  (qmO N x10).bind fun r11=>
  (if r11=0 then
  some (!decide (x10.Number=(w64 (n2+1))))
  else
  some false:Option Bool).bind fun b13=>
  ((if b13=true then
  some 11
  else
  some r11:Option Int)).bind fun n15=>
  (if n15=0 then
  if(x10.Kind==[117,110,100,111])=true then
  some (decide ((l1.length:Int)=0))
  else
  some false
  else
  some false:Option Bool).bind fun b20=>
  ((if b20=true then
  some 12
  else
  some n15:Option Int)).bind fun n22=>
  (if n22=0 then
  some (!(x10.Kind==[117,110,100,111]))
  else
  some false:Option Bool).bind fun b26=>
  ((if b26=true then
  (qcL N l1).bind fun r31=>
  (qcr N r31 x10).bind fun r32=>
  some r32
  else
  some n22:Option Int)).bind fun n28=>
  if(!decide (n28=0))=true then
  some (.inr ([],w64 (n2+1),n28))
  else
  if(x10.Kind==[117,110,100,111])=true then
  (cut l1 0 (w64 ((l1.length:Int)-1))).bind fun s35=>
  some (.inl s35)
  else
  (app 88 ([]:List qh) l1).bind fun l36=>
  (app 88 l36 [x10]).bind fun l37=>
  some (.inl l37):Option ((List qh)⊕((List qh)×Int×Int)))).bind (fun
  |(.inl l7)=>
  qhM N l K l7 (w64 (n2+1))
  |(.inr q38)=>
  some (.inr q38))
  else
  some (.inl l1)
def qpG (N:Nat) (l:List qh):Option ((List qh)×Int×Int):=
 (qhM N l N ([]:List qh) 0).bind (fun
 |(.inl l3)=>
 some (l3,0,0)
 |(.inr q39)=>
 some q39)
def qwA (N:Nat) (l:List qh):Option (vH×Int×Int):=
 if(l.length:Int)>1000 then
 some ((⟨0,[]⟩:vH),0,5)
 else
 (qpG N l).bind fun r2=>
 if(!decide (r2.2.2=0))=true then
 some ((⟨0,[]⟩:vH),r2.2.1,r2.2.2)
 else
 (qcL N r2.1).bind fun r4=>
 some (r4,0,0)
end Go.Av
end
