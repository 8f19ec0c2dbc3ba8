/-
  Walks of functions: what each computes, as a plain function.
-/
import Derived.Test.YtjflombnfhlkaaaGreatDoorQGenG1
noncomputable section
namespace Go.Av
open Go.Proofs Go.RowKit
set_option linter.unusedSectionVars false
set_option linter.unusedVariables false
set_option linter.unusedSimpArgs false
set_option maxRecDepth 100000
def yf (a0_:Str):Option Unit:=
 some ()
theorem qbZ (a0_:Str) (h:yf a0_=some ()):qf Tryz.prog (.fn 103) [.str a0_] [] (.func (.func 152) [] [.ptr 0 0]) (kAN a0_ []):=by
 unfold yf at h
 refine Goes.fnH Tryz.func103 rfl rfl (m:=4) rfl (rs:=[.tmp 2]) rfl (l:=(kV a0_ [])) rfl ?_
 intro B hB
 refine sg fol (kN []) (kAN a0_ []) ?_
 refine sh fol [(2,.func (.func 152) [] [.ptr 0 0])] ?_
 refine Goes.ret ?_
 exact(Goes.retH (xs:=[.func (.func 152) [] [.ptr 0 0]]) (by kernel_rfl) (qbJ.refl _ _))
def qhO (N:Nat) (a0_:Int) (a1_:Int) (a2_:Int) (a3_:Int) (a4_:Str):Option ((List qb)⊕Int):=
 (strings_CutSuffix a4_ [10]).bind fun r3=>
 if(!r3.2)=true then
 some (.inr 28)
 else
 (ko N r3.1 (w64 (0+1))).bind fun r5=>
 if(!decide (r5.2=0))=true then
 some (.inr r5.2)
 else
 some (.inl ([r5.1]:List qb))
def kr (N:Nat) (a0_:Int) (a1_:Int) (a2_:Option (List qb)) (a3_:Int) (a4_:Int) (a5_:Str):Option ((List qb)⊕(Int×(Option (List qb)))):=
 (strings_CutSuffix a5_ [10]).bind fun r4=>
 if(!r4.2)=true then
 ((match a2_ with
 |none=>
 some (none:Option (List qb))
 |some l6=>
 some (some l6)):Option (Option (List qb))).bind fun o7=>
 some (.inr (28,o7))
 else
 ((match a2_ with
 |none=>
 (ko N r4.1 (w64 (0+1))).bind fun r10=>
 some ((none:Option (List qb)),r10.1.Number,r10.1.Kind,r10.1.Names,r10.1.Values,r10.1.Text,r10.2)
 |some l9=>
 (ko N r4.1 (w64 ((l9.length:Int)+1))).bind fun r11=>
 some ((some l9),r11.1.Number,r11.1.Kind,r11.1.Names,r11.1.Values,r11.1.Text,r11.2)):Option ((Option (List qb))×Int×Str×(List Str)×(List Int)×Str×Int)).bind fun(o12,n13,s14,l15,l16,s17,bad_18)=>
 if(!decide (bad_18=0))=true then
 ((match o12 with
 |none=>
 some (none:Option (List qb))
 |some l21=>
 some (some l21)):Option (Option (List qb))).bind fun o22=>
 some (.inr (bad_18,o22))
 else
 ((match o12 with
 |none=>
 some ([(⟨n13,s14,l15,l16,s17⟩:qb)]:List qb)
 |some l24=>
 (app 88 l24 [(⟨n13,s14,l15,l16,s17⟩:qb)]).bind fun l25=>
 some l25):Option (List qb)).bind fun l26=>
 some (.inl l26)
theorem yH (N:Nat) (a0_:Int) (a1_:Int) (a2_:Option (List qb)) (a3_:Int) (a4_:Int) (a5_:Str) {l1:List qb} (h:kr N a0_ a1_ a2_ a3_ a4_ a5_=some (.inl l1)):qf Tryz.prog (.rd 0) [.i a4_,.str a5_] (.loop .ready none (ofG 49 [(2,.ptr 1 0),(3,.ptr 2 0),(4,.ptr 3 0),(5,.ptr 4 0),(6,.ptr 6 0)]) qc.xp qc.x1 qc.x2::(kB a0_ a1_ (kP a2_ a3_ []))) (.bool true) (.loop .ready none (ofG 49 [(2,.ptr 1 0),(3,.ptr 2 0),(4,.ptr 3 0),(5,.ptr 4 0),(6,.ptr 6 0)]) qc.xp qc.x1 qc.x2::(kB a0_ a1_ (.cells [.oslice 7 l1.length 5]:: .dead::(kT a4_ (kH l1 []))))):=by
 unfold kr at h
 refine Goes.round (m:=49) (l0:=(kC [(5,.ptr 4 0),(6,.ptr 6 0)])) (l:=(kC [(5,.ptr 4 0),(6,.ptr 6 0),(18,.i a4_),(19,.str a5_)])) rfl rfl rfl ?_
 intro B hB
 refine Goes.subQ ?_
 refine sh fol (kC (kQ a4_ [(19,.str a5_)])) ?_
 refine gh fol (kC (kQ a4_ [(8,.str a5_)])) ?_
 refine⟨_,Sub.refl _,?_⟩
 refine⟨_,_,_,_,_,rfl,?_⟩
 refine Goes.subQ ?_
 refine Goes.block ?_
 refine sq ?_
 obtain⟨r4,e_r4,h⟩:=bnd h
 refine gr fol [1] (kC (kQ a4_ [(9,.str r4.1),(10,.bool r4.2)])) (ac (cv (yX a5_ [10] e_r4)) az) ?_
 refine sq ?_
 refine sh fol (kC (kQ a4_ [(9,.str r4.1),(26,.bool (!r4.2))])) ?_
 refine ihB h (fun c5 h=>?_) (fun c5 h=>?_)
 ·refine sq ?_
  obtain⟨o7,g_v8,h⟩:=bnd h
  refine Goes.cutS (s':=(ofG 49 (kC []),(.loop .busy none (ofG 49 [(2,.ptr 1 0),(3,.ptr 2 0),(4,.ptr 3 0),(5,.ptr 4 0),(6,.ptr 6 0)]) qc.xp qc.x1 qc.x2:: .cells [hsl 5 5 o7]::(kT a3_ (.cells [.i 28]::(kP o7 a3_ [])))))) ?_ ?_
  ·rcases a2_ with _|l6
   ·try dsimp only at g_v8
    obtain rfl:=si g_v8
    exact qm.sub (qm.rg fol (kC []) (.loop .busy none (ofG 49 [(2,.ptr 1 0),(3,.ptr 2 0),(4,.ptr 3 0),(5,.ptr 4 0),(6,.ptr 6 0)]) qc.xp qc.x1 qc.x2::(kAA (kT a3_ (.cells [.i 28]::(kAA (.cells ((hof (none:Option (List qb))).flatMap qa.c)::(kT a3_ [])))))))) (Sub.norm [] [some 0,some 1,some 2,some 3,some 4,some 5,some 6] (by rw[hB];rfl) rfl (.kp (.kp (.kp .nil))) (.kb rfl (.loop rfl (.kp (.kp (.kp (.kp (.kp .nil)))))) (.kb rfl (.cells (rc .hs0 rn)) (.kb rfl (.same (qd.cons nI qd.nil)) (.kb rfl (.same (qd.cons nI qd.nil)) (.kb rfl (.cells (rc .hs0 rn)) (.ks (.kb rfl (.same (qd.cons nI qd.nil)) .nil))))))))
   ·try dsimp only at g_v8
    obtain rfl:=si g_v8
    exact qm.sub (qm.rg fol (kC []) (.loop .busy none (ofG 49 [(2,.ptr 1 0),(3,.ptr 2 0),(4,.ptr 3 0),(5,.ptr 4 0),(6,.ptr 6 0)]) qc.xp qc.x1 qc.x2::(kAD l6 (kT a3_ (.cells [.i 28]::(kAD l6 (kH l6 (kT a3_ [])))))))) (Sub.norm [] [some 0,some 1,some 2,some 3,some 4,some 5,some 6] (by rw[hB];rfl) rfl (.kp (.kp (.kp .nil))) (.kb rfl (.loop rfl (.kp (.kp (.kp (.kp (.kp .nil)))))) (.kb rfl (.cells (rc ((zk.hs1 rfl)) rn)) (.kb rfl (.same (qd.cons nI qd.nil)) (.kb rfl (.same (qd.cons nI qd.nil)) (.kb rfl (.cells (rc ((zk.hs1 rfl)) rn)) (.ks (.kb rfl (.same (qd.cons nI qd.nil)) .nil))))))))
  intro _ hsub
  refine Goes.sub hsub ?_
  refine Goes.ret ?_
  cases h
 ·refine Goes.skip ?_
  refine sq ?_
  obtain⟨⟨o12,n13,s14,l15,l16,s17,bad_18⟩,g_v19,h⟩:=bnd h
  refine Goes.cutS (s':=(ofG 49 (kC (kQ a4_ [(11,.ptr 7 0),(12,.i bad_18)])),(.loop .busy none (ofG 49 [(2,.ptr 1 0),(3,.ptr 2 0),(4,.ptr 3 0),(5,.ptr 4 0),(6,.ptr 6 0)]) qc.xp qc.x1 qc.x2::(kB a0_ a1_ (kP o12 a3_ [.cells (cF n13 s14 l15 l16 s17)]))))) ?_ ?_
  ·rcases a2_ with _|l9
   ·try dsimp only at g_v19
    obtain⟨r10,e_r10,g_v19⟩:=bnd g_v19
    simp only[Option.some.injEq,Prod.mk.injEq]at g_v19
    obtain⟨rfl,rfl,rfl,rfl,rfl,rfl,rfl⟩:=g_v19
    exact qm.sub (qm.rq fol [4] (kC (kQ a4_ [(11,.ptr 7 0),(12,.i r10.2)])) (.loop .busy none (ofG 49 [(2,.ptr 1 0),(3,.ptr 2 0),(4,.ptr 3 0),(5,.ptr 4 0),(6,.ptr 6 0)]) qc.xp qc.x1 qc.x2::(kB a0_ a1_ (kAA (.cells ((hof (none:Option (List qb))).flatMap qa.c)::(kT a3_ (kW r10.1)))))) (ac (cv (jH N r4.1 (w64 (0+1)) e_r10)) az)) (Sub.norm [] [some 0,some 1,some 2,some 3,some 4,some 5,some 6,some 7] (by rw[hB];rfl) rfl (.kp (.kp (.kp (.kp (.kp (.keep (.same nI) (.kp (.keep (.same nI) .nil)))))))) (.kb rfl (.loop rfl (.kp (.kp (.kp (.kp (.kp .nil)))))) (.kb rfl (.same (qd.cons (qj.nilslice) qd.nil)) (.kb rfl (.same (qd.cons nI qd.nil)) (.kb rfl (.same (qd.cons nI qd.nil)) (.kb rfl (.cells (rc .hs0 rn)) (.ks (.kb rfl (.same (qd.cons nI qd.nil)) (.kb rfl (.same (qd.cons nI (qd.cons nS (qd.cons (ql encS _) (qd.cons (ql encI _) (qd.cons nS qd.nil)))))) .nil)))))))))
   ·try dsimp only at g_v19
    obtain⟨r11,e_r11,g_v19⟩:=bnd g_v19
    simp only[Option.some.injEq,Prod.mk.injEq]at g_v19
    obtain⟨rfl,rfl,rfl,rfl,rfl,rfl,rfl⟩:=g_v19
    exact qm.sub (qm.rq fol [4] (kC (kQ a4_ [(11,.ptr 7 0),(12,.i r11.2)])) (.loop .busy none (ofG 49 [(2,.ptr 1 0),(3,.ptr 2 0),(4,.ptr 3 0),(5,.ptr 4 0),(6,.ptr 6 0)]) qc.xp qc.x1 qc.x2::(kB a0_ a1_ (kAD l9 (kH l9 (kT a3_ (kW r11.1)))))) (ac (cv (jH N r4.1 (w64 ((l9.length:Int)+1)) e_r11)) az)) (Sub.norm [] [some 0,some 1,some 2,some 3,some 4,some 5,some 6,some 7] (by rw[hB];rfl) rfl (.kp (.kp (.kp (.kp (.kp (.keep (.same nI) (.kp (.keep (.same nI) .nil)))))))) (.kb rfl (.loop rfl (.kp (.kp (.kp (.kp (.kp .nil)))))) (.kb rfl (.same (qd.cons (qj.nilslice) qd.nil)) (.kb rfl (.same (qd.cons nI qd.nil)) (.kb rfl (.same (qd.cons nI qd.nil)) (.kb rfl (.cells (rc ((zk.hs1 rfl)) rn)) (.ks (.kb rfl (.same (qd.cons nI qd.nil)) (.kb rfl (.same (qd.cons nI (qd.cons nS (qd.cons (ql encS _) (qd.cons (ql encI _) (qd.cons nS qd.nil)))))) .nil)))))))))
  intro _ hsub
  try dsimp only at h
  refine Goes.sub hsub ?_
  refine sq ?_
  refine sh fol (kC (kQ a4_ [(11,.ptr 7 0),(12,.i bad_18),(38,.bool (!decide (bad_18=0)))])) ?_
  refine ihB h (fun c20 h=>?_) (fun c20 h=>?_)
  ·refine sq ?_
   obtain⟨o22,g_v23,h⟩:=bnd h
   refine Goes.cutS (s':=(ofG 49 (kC []),(.loop .busy none (ofG 49 [(2,.ptr 1 0),(3,.ptr 2 0),(4,.ptr 3 0),(5,.ptr 4 0),(6,.ptr 6 0)]) qc.xp qc.x1 qc.x2:: .cells [hsl 5 5 o22]::(kT a3_ (kT bad_18 (kP o22 a3_ [])))))) ?_ ?_
   ·rcases o12 with _|l21
    ·try dsimp only at g_v23
     obtain rfl:=si g_v23
     exact qm.sub (qm.rg fol (kC []) (.loop .busy none (ofG 49 [(2,.ptr 1 0),(3,.ptr 2 0),(4,.ptr 3 0),(5,.ptr 4 0),(6,.ptr 6 0)]) qc.xp qc.x1 qc.x2::(kB a3_ bad_18 (kAA (.cells ((hof (none:Option (List qb))).flatMap qa.c)::(kT a3_ [.cells (cF n13 s14 l15 l16 s17)])))))) (Sub.norm [] [some 0,some 1,some 2,some 3,some 4,some 5,some 6] (by rw[hB];rfl) rfl (.kp (.kp (.kp .nil))) (.kb rfl (.loop rfl (.kp (.kp (.kp (.kp (.kp .nil)))))) (.kb rfl (.cells (rc .hs0 rn)) (.kb rfl (.same (qd.cons nI qd.nil)) (.kb rfl (.same (qd.cons nI qd.nil)) (.kb rfl (.cells (rc .hs0 rn)) (.ks (.kb rfl (.same (qd.cons nI qd.nil)) .nil))))))))
    ·try dsimp only at g_v23
     obtain rfl:=si g_v23
     exact qm.sub (qm.rg fol (kC []) (.loop .busy none (ofG 49 [(2,.ptr 1 0),(3,.ptr 2 0),(4,.ptr 3 0),(5,.ptr 4 0),(6,.ptr 6 0)]) qc.xp qc.x1 qc.x2::(kAD l21 (kT a3_ (kT bad_18 (kAD l21 (kH l21 (kT a3_ [.cells (cF n13 s14 l15 l16 s17)])))))))) (Sub.norm [] [some 0,some 1,some 2,some 3,some 4,some 5,some 6] (by rw[hB];rfl) rfl (.kp (.kp (.kp .nil))) (.kb rfl (.loop rfl (.kp (.kp (.kp (.kp (.kp .nil)))))) (.kb rfl (.cells (rc ((zk.hs1 rfl)) rn)) (.kb rfl (.same (qd.cons nI qd.nil)) (.kb rfl (.same (qd.cons nI qd.nil)) (.kb rfl (.cells (rc ((zk.hs1 rfl)) rn)) (.ks (.kb rfl (.same (qd.cons nI qd.nil)) .nil))))))))
   intro _ hsub
   refine Goes.sub hsub ?_
   refine Goes.ret ?_
   cases h
  ·refine Goes.skip ?_
   obtain⟨l26,g_v27,h⟩:=bnd h
   refine Goes.cutS (s':=(ofG 49 [],(.loop .busy none (ofG 49 [(2,.ptr 1 0),(3,.ptr 2 0),(4,.ptr 3 0),(5,.ptr 4 0),(6,.ptr 6 0)]) qc.xp qc.x1 qc.x2::(kB a0_ a1_ (.cells [.oslice 7 l26.length 5]:: .dead::(kT a4_ (kH l26 []))))))) ?_ ?_
   ·rcases o12 with _|l24
    ·try dsimp only at g_v27
     obtain rfl:=si g_v27
     exact qm.sub (qm.rg fol [] (.loop .busy none (ofG 49 [(2,.ptr 1 0),(3,.ptr 2 0),(4,.ptr 3 0),(5,.ptr 4 0),(6,.ptr 6 0)]) qc.xp qc.x1 qc.x2::(kB a0_ a1_ (.cells [.oslice 9 1 5]:: .cells ((hof (none:Option (List qb))).flatMap qa.c)::(kT a4_ (kAB n13 s14 l15 l16 s17 [.cells (cF n13 s14 l15 l16 s17)])))))) (Sub.norm [] [some 0,some 1,some 2,some 3,some 4,some 5,some 6,some 9] (by rw[hB];rfl) rfl .nil (.kb rfl (.loop rfl (.kp (.kp (.kp (.kp (.kp .nil)))))) (.kb rfl (.same (qd.cons (qj.nilslice) qd.nil)) (.kb rfl (.same (qd.cons nI qd.nil)) (.kb rfl (.same (qd.cons nI qd.nil)) (.kb rfl (.cells (rc ((zk.osliceE rfl rfl)) rn)) (.lost (.kb rfl (.same (qd.cons nI qd.nil)) (.ks .nil)))))))))
    ·try dsimp only at g_v27
     obtain⟨l25,e_l25,g_v27⟩:=bnd g_v27
     obtain rfl:=si g_v27
     exact qm.sub (qm.rq fol [3] [] (.loop .busy none (ofG 49 [(2,.ptr 1 0),(3,.ptr 2 0),(4,.ptr 3 0),(5,.ptr 4 0),(6,.ptr 6 0)]) qc.xp qc.x1 qc.x2::(kB a0_ a1_ (.cells [.oslice 9 l25.length 5]:: .dead::(kT a4_ (kAB n13 s14 l15 l16 s17 (kH l25 [])))))) (ac (hs (.run [5,8] (zy Tryz.prog [22,22] (.oslice 5 l24.length 5) (.slice 8 0 1 1 5)) (.loop .busy none (ofG 49 [(2,.ptr 1 0),(3,.ptr 2 0),(4,.ptr 3 0),(5,.ptr 4 0),(6,.ptr 6 0)]) qc.xp qc.x1 qc.x2::(kB a0_ a1_ (kAD l24 (kH l24 (kT a3_ (kAB n13 s14 l15 l16 s17 [])))))) (.oslice 9 l25.length 5) (.loop .busy none (ofG 49 [(2,.ptr 1 0),(3,.ptr 2 0),(4,.ptr 3 0),(5,.ptr 4 0),(6,.ptr 6 0)]) qc.xp qc.x1 qc.x2::(kB a0_ a1_ (kAD l24 (.dead::(kT a3_ (kAB n13 s14 l15 l16 s17 (kH l25 []))))))) true) (vH jd (E:=qa) rfl (qbT (E:=qa) (ys:=[(⟨n13,s14,l15,l16,s17⟩:qb)]) rfl rfl rfl rfl) (qhN (E:=qa) (l:=l24) rfl rfl rfl e_l25 rfl))) az)) (Sub.norm [] [some 0,some 1,some 2,some 3,some 4,some 5,some 6,some 9] (by rw[hB];rfl) rfl .nil (.kb rfl (.loop rfl (.kp (.kp (.kp (.kp (.kp .nil)))))) (.kb rfl (.same (qd.cons (qj.nilslice) qd.nil)) (.kb rfl (.same (qd.cons nI qd.nil)) (.kb rfl (.same (qd.cons nI qd.nil)) (.kb rfl (.cells (rc (.oslice rfl) rn)) (.lost (.kb rfl (.same (qd.cons nI qd.nil)) (.ks .nil)))))))))
   intro _ hsub
   cases h
   exact⟨_,hsub,⟨_,_,rfl,(Sub.keep [0] rfl rfl)⟩⟩
theorem yF (N:Nat) (a0_:Int) (a1_:Int) (a2_:Option (List qb)) (a3_:Int) (a4_:Int) (a5_:Str) {n2:Int} {o3:Option (List qb)} (h:kr N a0_ a1_ a2_ a3_ a4_ a5_=some (.inr (n2,o3))):qf Tryz.prog (.rd 0) [.i a4_,.str a5_] (.loop .ready none (ofG 49 [(2,.ptr 1 0),(3,.ptr 2 0),(4,.ptr 3 0),(5,.ptr 4 0),(6,.ptr 6 0)]) qc.xp qc.x1 qc.x2::(kB a0_ a1_ (kP a2_ a3_ []))) (.bool false) (.loop .done (some .ret) (ofG 49 [(2,.ptr 1 0),(3,.ptr 2 0),(4,.ptr 3 0),(5,.ptr 4 0),(6,.ptr 6 0)]) qc.xp qc.x1 qc.x2:: .cells [hsl 5 5 o3]::(kT a3_ (kT n2 (kP o3 a3_ [])))):=by
 unfold kr at h
 refine Goes.round (m:=49) (l0:=(kC [(5,.ptr 4 0),(6,.ptr 6 0)])) (l:=(kC [(5,.ptr 4 0),(6,.ptr 6 0),(18,.i a4_),(19,.str a5_)])) rfl rfl rfl ?_
 intro B hB
 refine Goes.subQ ?_
 refine sh fol (kC (kQ a4_ [(19,.str a5_)])) ?_
 refine gh fol (kC (kQ a4_ [(8,.str a5_)])) ?_
 refine⟨_,Sub.refl _,?_⟩
 refine⟨_,_,_,_,_,rfl,?_⟩
 refine Goes.subQ ?_
 refine Goes.block ?_
 refine sq ?_
 obtain⟨r4,e_r4,h⟩:=bnd h
 refine gr fol [1] (kC (kQ a4_ [(9,.str r4.1),(10,.bool r4.2)])) (ac (cv (yX a5_ [10] e_r4)) az) ?_
 refine sq ?_
 refine sh fol (kC (kQ a4_ [(9,.str r4.1),(26,.bool (!r4.2))])) ?_
 refine ihB h (fun c5 h=>?_) (fun c5 h=>?_)
 ·refine sq ?_
  obtain⟨o7,g_v8,h⟩:=bnd h
  refine Goes.cutS (s':=(ofG 49 (kC []),(.loop .busy none (ofG 49 [(2,.ptr 1 0),(3,.ptr 2 0),(4,.ptr 3 0),(5,.ptr 4 0),(6,.ptr 6 0)]) qc.xp qc.x1 qc.x2:: .cells [hsl 5 5 o7]::(kT a3_ (.cells [.i 28]::(kP o7 a3_ [])))))) ?_ ?_
  ·rcases a2_ with _|l6
   ·try dsimp only at g_v8
    obtain rfl:=si g_v8
    exact qm.sub (qm.rg fol (kC []) (.loop .busy none (ofG 49 [(2,.ptr 1 0),(3,.ptr 2 0),(4,.ptr 3 0),(5,.ptr 4 0),(6,.ptr 6 0)]) qc.xp qc.x1 qc.x2::(kAA (kT a3_ (.cells [.i 28]::(kAA (.cells ((hof (none:Option (List qb))).flatMap qa.c)::(kT a3_ [])))))))) (Sub.norm [] [some 0,some 1,some 2,some 3,some 4,some 5,some 6] (by rw[hB];rfl) rfl (.kp (.kp (.kp .nil))) (.kb rfl (.loop rfl (.kp (.kp (.kp (.kp (.kp .nil)))))) (.kb rfl (.cells (rc .hs0 rn)) (.kb rfl (.same (qd.cons nI qd.nil)) (.kb rfl (.same (qd.cons nI qd.nil)) (.kb rfl (.cells (rc .hs0 rn)) (.ks (.kb rfl (.same (qd.cons nI qd.nil)) .nil))))))))
   ·try dsimp only at g_v8
    obtain rfl:=si g_v8
    exact qm.sub (qm.rg fol (kC []) (.loop .busy none (ofG 49 [(2,.ptr 1 0),(3,.ptr 2 0),(4,.ptr 3 0),(5,.ptr 4 0),(6,.ptr 6 0)]) qc.xp qc.x1 qc.x2::(kAD l6 (kT a3_ (.cells [.i 28]::(kAD l6 (kH l6 (kT a3_ [])))))))) (Sub.norm [] [some 0,some 1,some 2,some 3,some 4,some 5,some 6] (by rw[hB];rfl) rfl (.kp (.kp (.kp .nil))) (.kb rfl (.loop rfl (.kp (.kp (.kp (.kp (.kp .nil)))))) (.kb rfl (.cells (rc ((zk.hs1 rfl)) rn)) (.kb rfl (.same (qd.cons nI qd.nil)) (.kb rfl (.same (qd.cons nI qd.nil)) (.kb rfl (.cells (rc ((zk.hs1 rfl)) rn)) (.ks (.kb rfl (.same (qd.cons nI qd.nil)) .nil))))))))
  intro _ hsub
  refine Goes.sub hsub ?_
  refine Goes.ret ?_
  cases h
  exact⟨_,Sub.refl _,⟨_,_,rfl,(qbJ.refl _ _)⟩⟩
 ·refine Goes.skip ?_
  refine sq ?_
  obtain⟨⟨o12,n13,s14,l15,l16,s17,bad_18⟩,g_v19,h⟩:=bnd h
  refine Goes.cutS (s':=(ofG 49 (kC (kQ a4_ [(11,.ptr 7 0),(12,.i bad_18)])),(.loop .busy none (ofG 49 [(2,.ptr 1 0),(3,.ptr 2 0),(4,.ptr 3 0),(5,.ptr 4 0),(6,.ptr 6 0)]) qc.xp qc.x1 qc.x2::(kB a0_ a1_ (kP o12 a3_ [.cells (cF n13 s14 l15 l16 s17)]))))) ?_ ?_
  ·rcases a2_ with _|l9
   ·try dsimp only at g_v19
    obtain⟨r10,e_r10,g_v19⟩:=bnd g_v19
    simp only[Option.some.injEq,Prod.mk.injEq]at g_v19
    obtain⟨rfl,rfl,rfl,rfl,rfl,rfl,rfl⟩:=g_v19
    exact qm.sub (qm.rq fol [4] (kC (kQ a4_ [(11,.ptr 7 0),(12,.i r10.2)])) (.loop .busy none (ofG 49 [(2,.ptr 1 0),(3,.ptr 2 0),(4,.ptr 3 0),(5,.ptr 4 0),(6,.ptr 6 0)]) qc.xp qc.x1 qc.x2::(kB a0_ a1_ (kAA (.cells ((hof (none:Option (List qb))).flatMap qa.c)::(kT a3_ (kW r10.1)))))) (ac (cv (jH N r4.1 (w64 (0+1)) e_r10)) az)) (Sub.norm [] [some 0,some 1,some 2,some 3,some 4,some 5,some 6,some 7] (by rw[hB];rfl) rfl (.kp (.kp (.kp (.kp (.kp (.keep (.same nI) (.kp (.keep (.same nI) .nil)))))))) (.kb rfl (.loop rfl (.kp (.kp (.kp (.kp (.kp .nil)))))) (.kb rfl (.same (qd.cons (qj.nilslice) qd.nil)) (.kb rfl (.same (qd.cons nI qd.nil)) (.kb rfl (.same (qd.cons nI qd.nil)) (.kb rfl (.cells (rc .hs0 rn)) (.ks (.kb rfl (.same (qd.cons nI qd.nil)) (.kb rfl (.same (qd.cons nI (qd.cons nS (qd.cons (ql encS _) (qd.cons (ql encI _) (qd.cons nS qd.nil)))))) .nil)))))))))
   ·try dsimp only at g_v19
    obtain⟨r11,e_r11,g_v19⟩:=bnd g_v19
    simp only[Option.some.injEq,Prod.mk.injEq]at g_v19
    obtain⟨rfl,rfl,rfl,rfl,rfl,rfl,rfl⟩:=g_v19
    exact qm.sub (qm.rq fol [4] (kC (kQ a4_ [(11,.ptr 7 0),(12,.i r11.2)])) (.loop .busy none (ofG 49 [(2,.ptr 1 0),(3,.ptr 2 0),(4,.ptr 3 0),(5,.ptr 4 0),(6,.ptr 6 0)]) qc.xp qc.x1 qc.x2::(kB a0_ a1_ (kAD l9 (kH l9 (kT a3_ (kW r11.1)))))) (ac (cv (jH N r4.1 (w64 ((l9.length:Int)+1)) e_r11)) az)) (Sub.norm [] [some 0,some 1,some 2,some 3,some 4,some 5,some 6,some 7] (by rw[hB];rfl) rfl (.kp (.kp (.kp (.kp (.kp (.keep (.same nI) (.kp (.keep (.same nI) .nil)))))))) (.kb rfl (.loop rfl (.kp (.kp (.kp (.kp (.kp .nil)))))) (.kb rfl (.same (qd.cons (qj.nilslice) qd.nil)) (.kb rfl (.same (qd.cons nI qd.nil)) (.kb rfl (.same (qd.cons nI qd.nil)) (.kb rfl (.cells (rc ((zk.hs1 rfl)) rn)) (.ks (.kb rfl (.same (qd.cons nI qd.nil)) (.kb rfl (.same (qd.cons nI (qd.cons nS (qd.cons (ql encS _) (qd.cons (ql encI _) (qd.cons nS qd.nil)))))) .nil)))))))))
  intro _ hsub
  try dsimp only at h
  refine Goes.sub hsub ?_
  refine sq ?_
  refine sh fol (kC (kQ a4_ [(11,.ptr 7 0),(12,.i bad_18),(38,.bool (!decide (bad_18=0)))])) ?_
  refine ihB h (fun c20 h=>?_) (fun c20 h=>?_)
  ·refine sq ?_
   obtain⟨o22,g_v23,h⟩:=bnd h
   refine Goes.cutS (s':=(ofG 49 (kC []),(.loop .busy none (ofG 49 [(2,.ptr 1 0),(3,.ptr 2 0),(4,.ptr 3 0),(5,.ptr 4 0),(6,.ptr 6 0)]) qc.xp qc.x1 qc.x2:: .cells [hsl 5 5 o22]::(kT a3_ (kT bad_18 (kP o22 a3_ [])))))) ?_ ?_
   ·rcases o12 with _|l21
    ·try dsimp only at g_v23
     obtain rfl:=si g_v23
     exact qm.sub (qm.rg fol (kC []) (.loop .busy none (ofG 49 [(2,.ptr 1 0),(3,.ptr 2 0),(4,.ptr 3 0),(5,.ptr 4 0),(6,.ptr 6 0)]) qc.xp qc.x1 qc.x2::(kB a3_ bad_18 (kAA (.cells ((hof (none:Option (List qb))).flatMap qa.c)::(kT a3_ [.cells (cF n13 s14 l15 l16 s17)])))))) (Sub.norm [] [some 0,some 1,some 2,some 3,some 4,some 5,some 6] (by rw[hB];rfl) rfl (.kp (.kp (.kp .nil))) (.kb rfl (.loop rfl (.kp (.kp (.kp (.kp (.kp .nil)))))) (.kb rfl (.cells (rc .hs0 rn)) (.kb rfl (.same (qd.cons nI qd.nil)) (.kb rfl (.same (qd.cons nI qd.nil)) (.kb rfl (.cells (rc .hs0 rn)) (.ks (.kb rfl (.same (qd.cons nI qd.nil)) .nil))))))))
    ·try dsimp only at g_v23
     obtain rfl:=si g_v23
     exact qm.sub (qm.rg fol (kC []) (.loop .busy none (ofG 49 [(2,.ptr 1 0),(3,.ptr 2 0),(4,.ptr 3 0),(5,.ptr 4 0),(6,.ptr 6 0)]) qc.xp qc.x1 qc.x2::(kAD l21 (kT a3_ (kT bad_18 (kAD l21 (kH l21 (kT a3_ [.cells (cF n13 s14 l15 l16 s17)])))))))) (Sub.norm [] [some 0,some 1,some 2,some 3,some 4,some 5,some 6] (by rw[hB];rfl) rfl (.kp (.kp (.kp .nil))) (.kb rfl (.loop rfl (.kp (.kp (.kp (.kp (.kp .nil)))))) (.kb rfl (.cells (rc ((zk.hs1 rfl)) rn)) (.kb rfl (.same (qd.cons nI qd.nil)) (.kb rfl (.same (qd.cons nI qd.nil)) (.kb rfl (.cells (rc ((zk.hs1 rfl)) rn)) (.ks (.kb rfl (.same (qd.cons nI qd.nil)) .nil))))))))
   intro _ hsub
   refine Goes.sub hsub ?_
   refine Goes.ret ?_
   cases h
   exact⟨_,Sub.refl _,⟨_,_,rfl,(qbJ.refl _ _)⟩⟩
  ·refine Goes.skip ?_
   obtain⟨l26,g_v27,h⟩:=bnd h
   refine Goes.cutS (s':=(ofG 49 [],(.loop .busy none (ofG 49 [(2,.ptr 1 0),(3,.ptr 2 0),(4,.ptr 3 0),(5,.ptr 4 0),(6,.ptr 6 0)]) qc.xp qc.x1 qc.x2::(kB a0_ a1_ (.cells [.oslice 7 l26.length 5]:: .dead::(kT a4_ (kH l26 []))))))) ?_ ?_
   ·rcases o12 with _|l24
    ·try dsimp only at g_v27
     obtain rfl:=si g_v27
     exact qm.sub (qm.rg fol [] (.loop .busy none (ofG 49 [(2,.ptr 1 0),(3,.ptr 2 0),(4,.ptr 3 0),(5,.ptr 4 0),(6,.ptr 6 0)]) qc.xp qc.x1 qc.x2::(kB a0_ a1_ (.cells [.oslice 9 1 5]:: .cells ((hof (none:Option (List qb))).flatMap qa.c)::(kT a4_ (kAB n13 s14 l15 l16 s17 [.cells (cF n13 s14 l15 l16 s17)])))))) (Sub.norm [] [some 0,some 1,some 2,some 3,some 4,some 5,some 6,some 9] (by rw[hB];rfl) rfl .nil (.kb rfl (.loop rfl (.kp (.kp (.kp (.kp (.kp .nil)))))) (.kb rfl (.same (qd.cons (qj.nilslice) qd.nil)) (.kb rfl (.same (qd.cons nI qd.nil)) (.kb rfl (.same (qd.cons nI qd.nil)) (.kb rfl (.cells (rc ((zk.osliceE rfl rfl)) rn)) (.lost (.kb rfl (.same (qd.cons nI qd.nil)) (.ks .nil)))))))))
    ·try dsimp only at g_v27
     obtain⟨l25,e_l25,g_v27⟩:=bnd g_v27
     obtain rfl:=si g_v27
     exact qm.sub (qm.rq fol [3] [] (.loop .busy none (ofG 49 [(2,.ptr 1 0),(3,.ptr 2 0),(4,.ptr 3 0),(5,.ptr 4 0),(6,.ptr 6 0)]) qc.xp qc.x1 qc.x2::(kB a0_ a1_ (.cells [.oslice 9 l25.length 5]:: .dead::(kT a4_ (kAB n13 s14 l15 l16 s17 (kH l25 [])))))) (ac (hs (.run [5,8] (zy Tryz.prog [22,22] (.oslice 5 l24.length 5) (.slice 8 0 1 1 5)) (.loop .busy none (ofG 49 [(2,.ptr 1 0),(3,.ptr 2 0),(4,.ptr 3 0),(5,.ptr 4 0),(6,.ptr 6 0)]) qc.xp qc.x1 qc.x2::(kB a0_ a1_ (kAD l24 (kH l24 (kT a3_ (kAB n13 s14 l15 l16 s17 [])))))) (.oslice 9 l25.length 5) (.loop .busy none (ofG 49 [(2,.ptr 1 0),(3,.ptr 2 0),(4,.ptr 3 0),(5,.ptr 4 0),(6,.ptr 6 0)]) qc.xp qc.x1 qc.x2::(kB a0_ a1_ (kAD l24 (.dead::(kT a3_ (kAB n13 s14 l15 l16 s17 (kH l25 []))))))) true) (vH jd (E:=qa) rfl (qbT (E:=qa) (ys:=[(⟨n13,s14,l15,l16,s17⟩:qb)]) rfl rfl rfl rfl) (qhN (E:=qa) (l:=l24) rfl rfl rfl e_l25 rfl))) az)) (Sub.norm [] [some 0,some 1,some 2,some 3,some 4,some 5,some 6,some 9] (by rw[hB];rfl) rfl .nil (.kb rfl (.loop rfl (.kp (.kp (.kp (.kp (.kp .nil)))))) (.kb rfl (.same (qd.cons (qj.nilslice) qd.nil)) (.kb rfl (.same (qd.cons nI qd.nil)) (.kb rfl (.same (qd.cons nI qd.nil)) (.kb rfl (.cells (rc (.oslice rfl) rn)) (.lost (.kb rfl (.same (qd.cons nI qd.nil)) (.ks .nil)))))))))
   intro _ hsub
   cases h
def qp (N:Nat) (a0_:Int) (a1_:Int) (a3_:Str):Nat→Int→(Option (List qb))→Int→Option ((Int×(Option (List qb)))⊕((Int×(Option (List qb)))⊕(Int×Int×Int×(Option (List qb)))))
 |0,_,_,_=>none
 |K+1,n7,o8,at__9=>
  if at__9<(a3_.length:Int)then
  (cut a3_ at__9 (a3_.length:Int)).bind fun s15=>
  (strings_IndexByte s15 10).bind fun r16=>
  ((if r16≥0 then
  some (w64 ((w64 (at__9+r16))+1))
  else
  some (a3_.length:Int):Option Int)).bind fun end__17=>
  (cut a3_ at__9 end__17).bind fun s20=>
  (kr N a0_ a1_ o8 n7 end__17 s20).bind fun r21=>
  match r21 with
  | .inl l22=>
  qp N a0_ a1_ a3_ K end__17 (some l22) end__17
  | .inr (n23,o24)=>
  some (.inr (.inr (n7,n23,n7,o24)))
  else
  some (.inl (n7,o8))
def zK (N:Nat) (a0_:Int) (a1_:Int) (a2_:Int) (a3_:Str):Option ((Int×(Option (List qb)))⊕(Int×Int×Int×(Option (List qb)))):=
 (qp N a0_ a1_ a3_ N a2_ (none:Option (List qb)) 0).bind (fun
 |(.inl (n10,o11))=>
 some (.inl (n10,o11))
 |(.inr q25)=>
 some q25)
theorem qaz (N:Nat) (a0_:Int) (a1_:Int) (a2_:Int) (a3_:Str) {n1:Int} {o2:Option (List qb)} (h:zK N a0_ a1_ a2_ a3_=some (.inl (n1,o2))):qf Tryz.prog (.fn 152) [.yld 0,.ptr 6 0] (.loop .ready none (ofG 49 [(2,.ptr 1 0),(3,.ptr 2 0),(4,.ptr 3 0),(5,.ptr 4 0),(6,.ptr 5 0)]) qc.xp qc.x1 qc.x2::(kB a0_ a1_ (kAA (kT a2_ (kAN a3_ []))))) (.tuple []) (.loop .ready none (ofG 49 [(2,.ptr 1 0),(3,.ptr 2 0),(4,.ptr 3 0),(5,.ptr 4 0),(6,.ptr 5 0)]) qc.xp qc.x1 qc.x2::(kB a0_ a1_ (kD o2 n1 a3_))):=by
 unfold zK at h
 refine Goes.fnH Tryz.func152 rfl rfl (m:=31) rfl (rs:=[]) rfl (l:=[(0,.yld 0),(1,.ptr 6 0)]) rfl ?_
 intro B hB
 refine Goes.subQ ?_
 refine sh fol [(0,.yld 0),(1,.ptr 6 0),(3,.i 0)] ?_
 refine Goes.block ?_
 obtain⟨r12,g12,h⟩:=bnd h
 refine Goes.imp (Q:=fun x s'=>(x= .exit 0∧ ∃n10 o11,(.inl (n10,o11))=r12∧Sub s' (ofG 31 [],(.loop .ready none (ofG 49 [(2,.ptr 1 0),(3,.ptr 2 0),(4,.ptr 3 0),(5,.ptr 4 0),(6,.ptr 5 0)]) qc.xp qc.x1 qc.x2::(kB a0_ a1_ (kD o11 n10 a3_)))))∨(x= .ret∧ ∃q13,(.inr q13)=r12∧(∀(n1:Int) (o2:Option (List qb)),q13=(.inl (n1,o2))→qcu Tryz.prog [] (.tuple []) (.loop .ready none (ofG 49 [(2,.ptr 1 0),(3,.ptr 2 0),(4,.ptr 3 0),(5,.ptr 4 0),(6,.ptr 5 0)]) qc.xp qc.x1 qc.x2::(kB a0_ a1_ (kD o2 n1 a3_))) .ret s'))) ?_ ?_
 ·refine Goes.sub (s':=(ofG 31 [(0,.yld 0),(1,.ptr 6 0),(3,.i 0)],(.loop .ready none (ofG 49 [(2,.ptr 1 0),(3,.ptr 2 0),(4,.ptr 3 0),(5,.ptr 4 0),(6,.ptr 5 0)]) qc.xp qc.x1 qc.x2::(kB a0_ a1_ (.cells [hsl 7 5 (none:Option (List qb))]::(kT a2_ (kAN a3_ [.cells ((hof (none:Option (List qb))).flatMap qa.c)]))))))) (Sub.norm [] [some 0,some 1,some 2,some 3,some 4,some 5,some 6,none] (by rw[hB];rfl) rfl (.keep (.yld rfl) (.kp (.keep (.same nI) .nil))) (.kb rfl (.loop rfl (.kp (.kp (.kp (.kp (.kp .nil)))))) (.kb rfl (.same (qd.cons (qj.nilslice) qd.nil)) (.kb rfl (.same (qd.cons nI qd.nil)) (.kb rfl (.same (qd.cons nI qd.nil)) (.kb rfl (.cells (rc .hs0 rn)) (.kb rfl (.same (qd.cons nI qd.nil)) (.kb rfl (.same (qd.cons nS qd.nil)) (.fresh .nil))))))))) ?_
  refine Goes.loopS (fun M s=> ∃(n7:Int) (o8:Option (List qb)) (at__9:Int),s=(ofG 31 ((0,.yld 0)::(kAF at__9 [])),(.loop .ready none (ofG 49 [(2,.ptr 1 0),(3,.ptr 2 0),(4,.ptr 3 0),(5,.ptr 4 0),(6,.ptr 5 0)]) qc.xp qc.x1 qc.x2::(kB a0_ a1_ (kD o8 n7 a3_))))∧qp N a0_ a1_ a3_ M n7 o8 at__9=some r12) ?_ (m:=N) ⟨_,_,_,rfl,g12⟩
  rintro M s ⟨n7,o8,at__9,rfl,g12⟩
  cases M with
  |zero=>simp only[qp]at g12;cases g12
  |succ M=>
   rw[qp]at g12
   refine sq ?_
   refine sh fol ((0,.yld 0)::(kAF at__9 [(9,.bool (decide (at__9<(a3_.length:Int))))])) ?_
   refine ihD g12 (fun c14 g12=>?_) (fun c14 g12=>?_)
   ·refine Goes.skip ?_
    refine Goes.block ?_
    refine sh fol ((0,.yld 0)::(kAF at__9 [(4,.i (a3_.length:Int))])) ?_
    refine sq ?_
    refine sq ?_
    obtain⟨s15,e_s15,g12⟩:=bnd g12
    obtain⟨r16,e_r16,g12⟩:=bnd g12
    refine gr fol [2,3] ((0,.yld 0)::(kAF at__9 (kAK (a3_.length:Int) r16 []))) (ac (hs (.done (.opt (qN Tryz.prog 9 (.str a3_) (some (.i at__9)) none none)) (.str s15)) (jA st9 (some at__9) none e_s15)) (ac (cv (yZ s15 10 e_r16)) az)) ?_
    refine sh fol ((0,.yld 0)::(kAF at__9 (kAK (a3_.length:Int) r16 [(17,.bool (decide (r16≥0)))]))) ?_
    obtain⟨r18,g18,g12⟩:=bnd g12
    refine Goes.imp (Q:=fun x s'=>(x= .normal∧ ∃end__17,end__17=r18∧Sub s' (ofG 31 ((0,.yld 0)::(kAF at__9 [(4,.i end__17)])),(.loop .ready none (ofG 49 [(2,.ptr 1 0),(3,.ptr 2 0),(4,.ptr 3 0),(5,.ptr 4 0),(6,.ptr 5 0)]) qc.xp qc.x1 qc.x2::(kB a0_ a1_ (kD o8 n7 a3_)))))) ?_ ?_
    ·refine ihD g18 (fun c19 g18=>?_) (fun c19 g18=>?_)
     ·refine gh fol ((0,.yld 0)::(kAF at__9 [(4,.i (w64 ((w64 (at__9+r16))+1)))])) ?_
      obtain rfl:=si g18
      exact⟨rfl,_,rfl,(Sub.refl _)⟩
     ·refine Goes.skip ?_
      obtain rfl:=si g18
      exact⟨rfl,_,rfl,(Sub.keep [0,1,3,4] rfl rfl)⟩
    rintro x s' ⟨rfl,end__17,rfl,hsub⟩
    refine Goes.sub hsub ?_
    refine sq ?_
    refine sq ?_
    obtain⟨s20,e_s20,g12⟩:=bnd g12
    obtain⟨r21,e_r21,g12⟩:=bnd g12
    rcases r21 with l22|⟨n23,o24⟩
    ·try dsimp only at g12
     refine gq fol [5,6] [(0,.yld 0),(1,.ptr 6 0),(4,.i end__17),(29,.bool false)] (.loop .ready none (ofG 49 [(2,.ptr 1 0),(3,.ptr 2 0),(4,.ptr 3 0),(5,.ptr 4 0),(6,.ptr 5 0)]) qc.xp qc.x1 qc.x2::(kB a0_ a1_ (.cells [.oslice 8 l22.length 5]::(kT end__17 (kAN a3_ (.dead::(kH l22 []))))))) (ac (hs (.done (.opt (qN Tryz.prog 9 (.str a3_) (some (.i at__9)) (some (.i end__17)) none)) (.str s20)) (jA st9 (some at__9) (some end__17) e_s20)) (ac (hs (.callH (.rd 0) [.i end__17,.str s20] (.loop .ready none (ofG 49 [(2,.ptr 1 0),(3,.ptr 2 0),(4,.ptr 3 0),(5,.ptr 4 0),(6,.ptr 5 0)]) qc.xp qc.x1 qc.x2::(kB a0_ a1_ (kD o8 n7 a3_))) [0,1,2,3,4,7,5] (.bool true) (.loop .ready none (ofG 49 [(2,.ptr 1 0),(3,.ptr 2 0),(4,.ptr 3 0),(5,.ptr 4 0),(6,.ptr 5 0)]) qc.xp qc.x1 qc.x2::(kB a0_ a1_ (.cells [.oslice 8 l22.length 5]::(kT end__17 (kAN a3_ (.dead::(kH l22 [])))))))) (qfz [some 0,some 1,some 2,some 3,some 4,some 7,some 5] [some 0,some 1,some 2,some 3,some 4,some 6,none,none,some 7] (yH N a0_ a1_ o8 n7 end__17 s20 e_r21) rfl (.kb rfl (.loop rfl (.kp (.kp (.kp (.kp (.kp .nil)))))) (.kb rfl (.cells (rc (.same (qj.nilslice)) rn)) (.kb rfl (.cells (rc (.same nI) rn)) (.kb rfl (.cells (rc (.same nI) rn)) (.kb rfl (.cells (rc (.hs rfl) rn)) (.ks (.kb rfl (.cells (rc (.same nI) rn)) .nil))))))) rfl rfl (.back rfl rfl (.loop rfl (.kp (.kp (.kp (.kp (.kp .nil)))))) rfl (.back rfl rfl (.cells (rc (.same (qj.nilslice)) rn)) rfl (.back rfl rfl (.cells (rc (.same nI) rn)) rfl (.back rfl rfl (.cells (rc (.same nI) rn)) rfl (.back rfl rfl (.cells (rc (.oslice rfl) rn)) rfl (.back rfl rfl (.cells (rc (.same nI) rn)) rfl (.old rfl rfl (.dead (.new rfl rfl (.same fa) rfl .nil))))))))) (rc (.same nI) (rc (.same nS) rn)) (.same nB) rfl)) az)) ?_
     refine Goes.ifB (b:=false) (by kernel_rfl) (fun c=>(by cases c)) (fun _=>?_)
     refine Goes.skip ?_
     refine gh fol ((0,.yld 0)::(kAF end__17 [])) ?_
     exact⟨M,(ofG 31 ((0,.yld 0)::(kAF end__17 [])),(.loop .ready none (ofG 49 [(2,.ptr 1 0),(3,.ptr 2 0),(4,.ptr 3 0),(5,.ptr 4 0),(6,.ptr 5 0)]) qc.xp qc.x1 qc.x2::(kB a0_ a1_ (kD (some l22) end__17 a3_)))),Nat.lt_succ_self _,(Sub.norm [] [some 0,some 1,some 2,some 3,some 4,some 5,some 6,some 8] (by rw[hB];rfl) rfl (.keep (.yld rfl) (.kp (.keep (.same nI) .nil))) (.kb rfl (.loop rfl (.kp (.kp (.kp (.kp (.kp .nil)))))) (.kb rfl (.same (qd.cons (qj.nilslice) qd.nil)) (.kb rfl (.same (qd.cons nI qd.nil)) (.kb rfl (.same (qd.cons nI qd.nil)) (.kb rfl (.cells (rc ((zk.hs1 rfl)) rn)) (.kb rfl (.same (qd.cons nI qd.nil)) (.kb rfl (.same (qd.cons nS qd.nil)) (.ks .nil))))))))),_,_,_,rfl,g12⟩
    ·try dsimp only at g12
     refine gq fol [5,6] [(0,.yld 0),(1,.ptr 6 0),(4,.i end__17),(29,.bool true)] (.loop .done (some .ret) (ofG 49 [(2,.ptr 1 0),(3,.ptr 2 0),(4,.ptr 3 0),(5,.ptr 4 0),(6,.ptr 5 0)]) qc.xp qc.x1 qc.x2::(kAe o24 (kT n7 (kT n23 (kD o24 n7 a3_))))) (ac (hs (.done (.opt (qN Tryz.prog 9 (.str a3_) (some (.i at__9)) (some (.i end__17)) none)) (.str s20)) (jA st9 (some at__9) (some end__17) e_s20)) (ac (hs (.callH (.rd 0) [.i end__17,.str s20] (.loop .ready none (ofG 49 [(2,.ptr 1 0),(3,.ptr 2 0),(4,.ptr 3 0),(5,.ptr 4 0),(6,.ptr 5 0)]) qc.xp qc.x1 qc.x2::(kB a0_ a1_ (kD o8 n7 a3_))) [0,1,2,3,4,7,5] (.bool false) (.loop .done (some .ret) (ofG 49 [(2,.ptr 1 0),(3,.ptr 2 0),(4,.ptr 3 0),(5,.ptr 4 0),(6,.ptr 5 0)]) qc.xp qc.x1 qc.x2::(kAe o24 (kT n7 (kT n23 (kD o24 n7 a3_)))))) (qfz [some 0,some 1,some 2,some 3,some 4,some 7,some 5] [some 0,some 1,some 2,some 3,some 4,some 6,none,some 5] (yF N a0_ a1_ o8 n7 end__17 s20 e_r21) rfl (.kb rfl (.loop rfl (.kp (.kp (.kp (.kp (.kp .nil)))))) (.kb rfl (.cells (rc (.same (qj.nilslice)) rn)) (.kb rfl (.cells (rc (.same nI) rn)) (.kb rfl (.cells (rc (.same nI) rn)) (.kb rfl (.cells (rc (.hs rfl) rn)) (.ks (.kb rfl (.cells (rc (.same nI) rn)) .nil))))))) rfl rfl (.back rfl rfl (.loop rfl (.kp (.kp (.kp (.kp (.kp .nil)))))) rfl (.back rfl rfl (.cells (rc (.hs rfl) rn)) rfl (.back rfl rfl (.cells (rc (.same nI) rn)) rfl (.back rfl rfl (.cells (rc (.same nI) rn)) rfl (.back rfl rfl (.cells (rc (.hs rfl) rn)) rfl (.back rfl rfl (.cells (rc (.same nI) rn)) rfl (.old rfl rfl (.back rfl rfl (.same fa) rfl .nil)))))))) (rc (.same nI) (rc (.same nS) rn)) (.same nB) rfl)) az)) ?_
     refine Goes.ifB (b:=true) (by kernel_rfl) (fun _=>?_) (fun c=>(by cases c))
     refine Goes.ret ?_
     obtain rfl:=si g12
     exact Or.inr (⟨rfl,_,rfl,(fun n1 o2 e_=>by cases e_)⟩)
   ·refine Goes.exit ?_
    obtain rfl:=si g12
    exact Or.inl (⟨rfl,_,_,rfl,(Sub.keep [] rfl rfl)⟩)
 rintro x s' (⟨rfl,n10,o11,rfl,hsub⟩|⟨rfl,q25,rfl,hret⟩)
 ·try dsimp only at h
  cases h
  exact⟨_,hsub,(Goes.retH (xs:=[]) (by kernel_rfl) (qbJ.refl _ _))⟩
 ·try dsimp only at h
  exact⟨_,Sub.refl _,(hret _ _ (si h))⟩
theorem qaL (N:Nat) (a0_:Int) (a1_:Int) (a2_:Int) (a3_:Str) {n3:Int} {n4:Int} {n5:Int} {o6:Option (List qb)} (h:zK N a0_ a1_ a2_ a3_=some (.inr (n3,n4,n5,o6))):qf Tryz.prog (.fn 152) [.yld 0,.ptr 6 0] (.loop .ready none (ofG 49 [(2,.ptr 1 0),(3,.ptr 2 0),(4,.ptr 3 0),(5,.ptr 4 0),(6,.ptr 5 0)]) qc.xp qc.x1 qc.x2::(kB a0_ a1_ (kAA (kT a2_ (kAN a3_ []))))) (.tuple []) (.loop .done (some .ret) (ofG 49 [(2,.ptr 1 0),(3,.ptr 2 0),(4,.ptr 3 0),(5,.ptr 4 0),(6,.ptr 5 0)]) qc.xp qc.x1 qc.x2::(kAe o6 (kT n3 (kT n4 (kD o6 n5 a3_))))):=by
 unfold zK at h
 refine Goes.fnH Tryz.func152 rfl rfl (m:=31) rfl (rs:=[]) rfl (l:=[(0,.yld 0),(1,.ptr 6 0)]) rfl ?_
 intro B hB
 refine Goes.subQ ?_
 refine sh fol [(0,.yld 0),(1,.ptr 6 0),(3,.i 0)] ?_
 refine Goes.block ?_
 obtain⟨r12,g12,h⟩:=bnd h
 refine Goes.imp (Q:=fun x s'=>(x= .exit 0∧ ∃n10 o11,(.inl (n10,o11))=r12∧Sub s' (ofG 31 [],(.loop .ready none (ofG 49 [(2,.ptr 1 0),(3,.ptr 2 0),(4,.ptr 3 0),(5,.ptr 4 0),(6,.ptr 5 0)]) qc.xp qc.x1 qc.x2::(kB a0_ a1_ (kD o11 n10 a3_)))))∨(x= .ret∧ ∃q13,(.inr q13)=r12∧(∀(n3:Int) (n4:Int) (n5:Int) (o6:Option (List qb)),q13=(.inr (n3,n4,n5,o6))→qcu Tryz.prog [] (.tuple []) (.loop .done (some .ret) (ofG 49 [(2,.ptr 1 0),(3,.ptr 2 0),(4,.ptr 3 0),(5,.ptr 4 0),(6,.ptr 5 0)]) qc.xp qc.x1 qc.x2::(kAe o6 (kT n3 (kT n4 (kD o6 n5 a3_))))) .ret s'))) ?_ ?_
 ·refine Goes.sub (s':=(ofG 31 [(0,.yld 0),(1,.ptr 6 0),(3,.i 0)],(.loop .ready none (ofG 49 [(2,.ptr 1 0),(3,.ptr 2 0),(4,.ptr 3 0),(5,.ptr 4 0),(6,.ptr 5 0)]) qc.xp qc.x1 qc.x2::(kB a0_ a1_ (.cells [hsl 7 5 (none:Option (List qb))]::(kT a2_ (kAN a3_ [.cells ((hof (none:Option (List qb))).flatMap qa.c)]))))))) (Sub.norm [] [some 0,some 1,some 2,some 3,some 4,some 5,some 6,none] (by rw[hB];rfl) rfl (.keep (.yld rfl) (.kp (.keep (.same nI) .nil))) (.kb rfl (.loop rfl (.kp (.kp (.kp (.kp (.kp .nil)))))) (.kb rfl (.same (qd.cons (qj.nilslice) qd.nil)) (.kb rfl (.same (qd.cons nI qd.nil)) (.kb rfl (.same (qd.cons nI qd.nil)) (.kb rfl (.cells (rc .hs0 rn)) (.kb rfl (.same (qd.cons nI qd.nil)) (.kb rfl (.same (qd.cons nS qd.nil)) (.fresh .nil))))))))) ?_
  refine Goes.loopS (fun M s=> ∃(n7:Int) (o8:Option (List qb)) (at__9:Int),s=(ofG 31 ((0,.yld 0)::(kAF at__9 [])),(.loop .ready none (ofG 49 [(2,.ptr 1 0),(3,.ptr 2 0),(4,.ptr 3 0),(5,.ptr 4 0),(6,.ptr 5 0)]) qc.xp qc.x1 qc.x2::(kB a0_ a1_ (kD o8 n7 a3_))))∧qp N a0_ a1_ a3_ M n7 o8 at__9=some r12) ?_ (m:=N) ⟨_,_,_,rfl,g12⟩
  rintro M s ⟨n7,o8,at__9,rfl,g12⟩
  cases M with
  |zero=>simp only[qp]at g12;cases g12
  |succ M=>
   rw[qp]at g12
   refine sq ?_
   refine sh fol ((0,.yld 0)::(kAF at__9 [(9,.bool (decide (at__9<(a3_.length:Int))))])) ?_
   refine ihD g12 (fun c14 g12=>?_) (fun c14 g12=>?_)
   ·refine Goes.skip ?_
    refine Goes.block ?_
    refine sh fol ((0,.yld 0)::(kAF at__9 [(4,.i (a3_.length:Int))])) ?_
    refine sq ?_
    refine sq ?_
    obtain⟨s15,e_s15,g12⟩:=bnd g12
    obtain⟨r16,e_r16,g12⟩:=bnd g12
    refine gr fol [2,3] ((0,.yld 0)::(kAF at__9 (kAK (a3_.length:Int) r16 []))) (ac (hs (.done (.opt (qN Tryz.prog 9 (.str a3_) (some (.i at__9)) none none)) (.str s15)) (jA st9 (some at__9) none e_s15)) (ac (cv (yZ s15 10 e_r16)) az)) ?_
    refine sh fol ((0,.yld 0)::(kAF at__9 (kAK (a3_.length:Int) r16 [(17,.bool (decide (r16≥0)))]))) ?_
    obtain⟨r18,g18,g12⟩:=bnd g12
    refine Goes.imp (Q:=fun x s'=>(x= .normal∧ ∃end__17,end__17=r18∧Sub s' (ofG 31 ((0,.yld 0)::(kAF at__9 [(4,.i end__17)])),(.loop .ready none (ofG 49 [(2,.ptr 1 0),(3,.ptr 2 0),(4,.ptr 3 0),(5,.ptr 4 0),(6,.ptr 5 0)]) qc.xp qc.x1 qc.x2::(kB a0_ a1_ (kD o8 n7 a3_)))))) ?_ ?_
    ·refine ihD g18 (fun c19 g18=>?_) (fun c19 g18=>?_)
     ·refine gh fol ((0,.yld 0)::(kAF at__9 [(4,.i (w64 ((w64 (at__9+r16))+1)))])) ?_
      obtain rfl:=si g18
      exact⟨rfl,_,rfl,(Sub.refl _)⟩
     ·refine Goes.skip ?_
      obtain rfl:=si g18
      exact⟨rfl,_,rfl,(Sub.keep [0,1,3,4] rfl rfl)⟩
    rintro x s' ⟨rfl,end__17,rfl,hsub⟩
    refine Goes.sub hsub ?_
    refine sq ?_
    refine sq ?_
    obtain⟨s20,e_s20,g12⟩:=bnd g12
    obtain⟨r21,e_r21,g12⟩:=bnd g12
    rcases r21 with l22|⟨n23,o24⟩
    ·try dsimp only at g12
     refine gq fol [5,6] [(0,.yld 0),(1,.ptr 6 0),(4,.i end__17),(29,.bool false)] (.loop .ready none (ofG 49 [(2,.ptr 1 0),(3,.ptr 2 0),(4,.ptr 3 0),(5,.ptr 4 0),(6,.ptr 5 0)]) qc.xp qc.x1 qc.x2::(kB a0_ a1_ (.cells [.oslice 8 l22.length 5]::(kT end__17 (kAN a3_ (.dead::(kH l22 []))))))) (ac (hs (.done (.opt (qN Tryz.prog 9 (.str a3_) (some (.i at__9)) (some (.i end__17)) none)) (.str s20)) (jA st9 (some at__9) (some end__17) e_s20)) (ac (hs (.callH (.rd 0) [.i end__17,.str s20] (.loop .ready none (ofG 49 [(2,.ptr 1 0),(3,.ptr 2 0),(4,.ptr 3 0),(5,.ptr 4 0),(6,.ptr 5 0)]) qc.xp qc.x1 qc.x2::(kB a0_ a1_ (kD o8 n7 a3_))) [0,1,2,3,4,7,5] (.bool true) (.loop .ready none (ofG 49 [(2,.ptr 1 0),(3,.ptr 2 0),(4,.ptr 3 0),(5,.ptr 4 0),(6,.ptr 5 0)]) qc.xp qc.x1 qc.x2::(kB a0_ a1_ (.cells [.oslice 8 l22.length 5]::(kT end__17 (kAN a3_ (.dead::(kH l22 [])))))))) (qfz [some 0,some 1,some 2,some 3,some 4,some 7,some 5] [some 0,some 1,some 2,some 3,some 4,some 6,none,none,some 7] (yH N a0_ a1_ o8 n7 end__17 s20 e_r21) rfl (.kb rfl (.loop rfl (.kp (.kp (.kp (.kp (.kp .nil)))))) (.kb rfl (.cells (rc (.same (qj.nilslice)) rn)) (.kb rfl (.cells (rc (.same nI) rn)) (.kb rfl (.cells (rc (.same nI) rn)) (.kb rfl (.cells (rc (.hs rfl) rn)) (.ks (.kb rfl (.cells (rc (.same nI) rn)) .nil))))))) rfl rfl (.back rfl rfl (.loop rfl (.kp (.kp (.kp (.kp (.kp .nil)))))) rfl (.back rfl rfl (.cells (rc (.same (qj.nilslice)) rn)) rfl (.back rfl rfl (.cells (rc (.same nI) rn)) rfl (.back rfl rfl (.cells (rc (.same nI) rn)) rfl (.back rfl rfl (.cells (rc (.oslice rfl) rn)) rfl (.back rfl rfl (.cells (rc (.same nI) rn)) rfl (.old rfl rfl (.dead (.new rfl rfl (.same fa) rfl .nil))))))))) (rc (.same nI) (rc (.same nS) rn)) (.same nB) rfl)) az)) ?_
     refine Goes.ifB (b:=false) (by kernel_rfl) (fun c=>(by cases c)) (fun _=>?_)
     refine Goes.skip ?_
     refine gh fol ((0,.yld 0)::(kAF end__17 [])) ?_
     exact⟨M,(ofG 31 ((0,.yld 0)::(kAF end__17 [])),(.loop .ready none (ofG 49 [(2,.ptr 1 0),(3,.ptr 2 0),(4,.ptr 3 0),(5,.ptr 4 0),(6,.ptr 5 0)]) qc.xp qc.x1 qc.x2::(kB a0_ a1_ (kD (some l22) end__17 a3_)))),Nat.lt_succ_self _,(Sub.norm [] [some 0,some 1,some 2,some 3,some 4,some 5,some 6,some 8] (by rw[hB];rfl) rfl (.keep (.yld rfl) (.kp (.keep (.same nI) .nil))) (.kb rfl (.loop rfl (.kp (.kp (.kp (.kp (.kp .nil)))))) (.kb rfl (.same (qd.cons (qj.nilslice) qd.nil)) (.kb rfl (.same (qd.cons nI qd.nil)) (.kb rfl (.same (qd.cons nI qd.nil)) (.kb rfl (.cells (rc ((zk.hs1 rfl)) rn)) (.kb rfl (.same (qd.cons nI qd.nil)) (.kb rfl (.same (qd.cons nS qd.nil)) (.ks .nil))))))))),_,_,_,rfl,g12⟩
    ·try dsimp only at g12
     refine gq fol [5,6] [(0,.yld 0),(1,.ptr 6 0),(4,.i end__17),(29,.bool true)] (.loop .done (some .ret) (ofG 49 [(2,.ptr 1 0),(3,.ptr 2 0),(4,.ptr 3 0),(5,.ptr 4 0),(6,.ptr 5 0)]) qc.xp qc.x1 qc.x2::(kAe o24 (kT n7 (kT n23 (kD o24 n7 a3_))))) (ac (hs (.done (.opt (qN Tryz.prog 9 (.str a3_) (some (.i at__9)) (some (.i end__17)) none)) (.str s20)) (jA st9 (some at__9) (some end__17) e_s20)) (ac (hs (.callH (.rd 0) [.i end__17,.str s20] (.loop .ready none (ofG 49 [(2,.ptr 1 0),(3,.ptr 2 0),(4,.ptr 3 0),(5,.ptr 4 0),(6,.ptr 5 0)]) qc.xp qc.x1 qc.x2::(kB a0_ a1_ (kD o8 n7 a3_))) [0,1,2,3,4,7,5] (.bool false) (.loop .done (some .ret) (ofG 49 [(2,.ptr 1 0),(3,.ptr 2 0),(4,.ptr 3 0),(5,.ptr 4 0),(6,.ptr 5 0)]) qc.xp qc.x1 qc.x2::(kAe o24 (kT n7 (kT n23 (kD o24 n7 a3_)))))) (qfz [some 0,some 1,some 2,some 3,some 4,some 7,some 5] [some 0,some 1,some 2,some 3,some 4,some 6,none,some 5] (yF N a0_ a1_ o8 n7 end__17 s20 e_r21) rfl (.kb rfl (.loop rfl (.kp (.kp (.kp (.kp (.kp .nil)))))) (.kb rfl (.cells (rc (.same (qj.nilslice)) rn)) (.kb rfl (.cells (rc (.same nI) rn)) (.kb rfl (.cells (rc (.same nI) rn)) (.kb rfl (.cells (rc (.hs rfl) rn)) (.ks (.kb rfl (.cells (rc (.same nI) rn)) .nil))))))) rfl rfl (.back rfl rfl (.loop rfl (.kp (.kp (.kp (.kp (.kp .nil)))))) rfl (.back rfl rfl (.cells (rc (.hs rfl) rn)) rfl (.back rfl rfl (.cells (rc (.same nI) rn)) rfl (.back rfl rfl (.cells (rc (.same nI) rn)) rfl (.back rfl rfl (.cells (rc (.hs rfl) rn)) rfl (.back rfl rfl (.cells (rc (.same nI) rn)) rfl (.old rfl rfl (.back rfl rfl (.same fa) rfl .nil)))))))) (rc (.same nI) (rc (.same nS) rn)) (.same nB) rfl)) az)) ?_
     refine Goes.ifB (b:=true) (by kernel_rfl) (fun _=>?_) (fun c=>(by cases c))
     refine Goes.ret ?_
     obtain rfl:=si g12
     exact Or.inr (⟨rfl,_,rfl,(fun n3 n4 n5 o6 e_=>by cases e_;exact(Goes.retH (xs:=[]) (by kernel_rfl) (qbJ.refl _ _)))⟩)
   ·refine Goes.exit ?_
    obtain rfl:=si g12
    exact Or.inl (⟨rfl,_,_,rfl,(Sub.keep [] rfl rfl)⟩)
 rintro x s' (⟨rfl,n10,o11,rfl,hsub⟩|⟨rfl,q25,rfl,hret⟩)
 ·try dsimp only at h
  cases h
 ·try dsimp only at h
  exact⟨_,Sub.refl _,(hret _ _ _ _ (si h))⟩
def jN (N:Nat) (log:Str):Option ((List qb)×Int×Int):=
 if(log.length:Int)>1000000 then
 some ([],0,26)
 else
 (yf log).bind fun _=>
 (zK N 0 0 0 log).bind fun r3=>
 match r3 with
 | .inl (n4,o5)=>
 ((match o5 with
 |none=>
 some (none:Option (List qb))
 |some l10=>
 some (some l10)):Option (Option (List qb))).bind fun o11=>
 some ((hof o11),n4,0)
 | .inr (n6,n7,n8,o9)=>
 some ((hof o9),n6,n7)
theorem qad (N:Nat) (log:Str) {res:(List qb)×Int×Int} (h:jN N log=some res):qf Tryz.prog (.fn 43) [.str log] [] (.tuple [vl qa res.1,.i res.2.1,.i res.2.2]) []:=by
 unfold jN at h
 refine Goes.fnW Tryz.func43 rfl rfl (m:=49) rfl (rs:=[.cell 2 22,.cell 3 3,.cell 4 32]) rfl (l:=(kV log [])) rfl ?_
 refine sg fol (kV log (kF (kAH []))) (kK [.cells [.i 0]]) ?_
 refine sq ?_
 refine sh fol (kV log (kF (kAH [(15,.bool (decide ((log.length:Int)>1000000)))]))) ?_
 refine ihD h (fun c1 h=>?_) (fun c1 h=>?_)
 ·refine sg fol (kF (kAH [])) (kK [.cells [.i 26]]) ?_
  refine Goes.ret ?_
  obtain rfl:=si h
  exact(Goes.retW (xs:=[.nilslice,.i 0,.i 26]) (by kernel_rfl) (FzW.tuple (qg.cons (FzW.nilv (E:=qa)) (qg.cons (FzW.still tI) (qg.cons (FzW.still tI) qg.nil)))))
 ·refine Goes.skip ?_
  refine sg fol (kV log (kF (kAH [(5,.ptr 3 0)]))) (kK (.cells [.i 0]::(kAA []))) ?_
  refine sg fol (kV log (kF (kAH [(5,.ptr 3 0),(6,.ptr 4 0)]))) (kK (.cells [.i 0]::(kK []))) ?_
  refine sq ?_
  refine sq ?_
  obtain⟨_,e_r2,h⟩:=bnd h
  refine gq fol [1] (kF (kAH [(5,.ptr 3 0),(6,.ptr 4 0),(17,.func (.func 152) [] [.ptr 5 0])])) (kK (.cells [.i 0]::(kK (kAN log [])))) (ac (hs (.callH 103 [.str log] (kK (.cells [.i 0]::(kK []))) [] (.func (.func 152) [] [.ptr 5 0]) (kK (.cells [.i 0]::(kK (kAN log []))))) (qfI [] [none,none,none,none,none,some 0] (qbZ log e_r2) .nil rfl rfl (.old rfl rfl (.old rfl rfl (.old rfl rfl (.old rfl rfl (.old rfl rfl (.new rfl rfl (.cells (rc (.same nS) rn)) rfl .nil)))))) (rc (.same nS) rn) (.funcL (qd.nil) (rc (.ptr rfl) rn)) rfl)) az) ?_
  refine Goes.block ?_
  obtain⟨r3,e_r3,h⟩:=bnd h
  rcases r3 with⟨n4,o5⟩|⟨n6,n7,n8,o9⟩
  ·try dsimp only at h
   refine Goes.range fol rfl (gf:=152) (first:=[]) (captured:=[.ptr 5 0]) (v:= .tuple []) (A2:=(kK (.cells [.i 0]::(kAe o5 (kT n4 (kAN log (.loop .ready none (ofG 49 [(2,.ptr 0 0),(3,.ptr 1 0),(4,.ptr 2 0),(5,.ptr 3 0),(6,.ptr 4 0)]) qc.xp qc.x1 qc.x2::(kAM o5 [])))))))) (s':=(ofG 49 (kF (kAH [(5,.ptr 3 0),(6,.ptr 4 0),(17,.func (.func 152) [] [.ptr 5 0])])),(kK (.cells [.i 0]::(kAe o5 (kT n4 (kAN log (.loop .exhausted none (ofG 49 [(2,.ptr 0 0),(3,.ptr 1 0),(4,.ptr 2 0),(5,.ptr 3 0),(6,.ptr 4 0)]) qc.xp qc.x1 qc.x2::(kAM o5 []))))))))) (x:= .normal) (by kernel_rfl) (by kernel_rfl) (qfN (show(Obl.callH 152 [.yld 6,.ptr 5 0] (kK (.cells [.i 0]::(kK (kAN log [.loop .ready none (ofG 49 [(2,.ptr 0 0),(3,.ptr 1 0),(4,.ptr 2 0),(5,.ptr 3 0),(6,.ptr 4 0),(17,.func (.func 152) [] [.ptr 5 0])]) qc.xp qc.x1 qc.x2])))) [6,0,1,2,3,4,5] (.tuple []) (kK (.cells [.i 0]::(kAe o5 (kT n4 (kAN log (.loop .ready none (ofG 49 [(2,.ptr 0 0),(3,.ptr 1 0),(4,.ptr 2 0),(5,.ptr 3 0),(6,.ptr 4 0)]) qc.xp qc.x1 qc.x2::(kAM o5 [])))))))).Holds Tryz.prog from qfI [some 6,some 0,some 1,some 2,some 3,some 4,some 5] [some 1,some 2,some 3,some 4,some 5,some 6,some 0,some 7] (qaz N 0 0 0 log e_r3) (.kb rfl (.loop rfl (.kp (.kp (.kp (.kp (.kp (.drop .nil))))))) (.kb rfl (.cells (rc (.same (qj.nilslice)) rn)) (.kb rfl (.cells (rc (.same nI) rn)) (.kb rfl (.cells (rc (.same nI) rn)) (.kb rfl (.cells (rc (.same (qj.nilslice)) rn)) (.kb rfl (.cells (rc (.same nI) rn)) (.kb rfl (.cells (rc (.same nS) rn)) .nil))))))) rfl rfl (.back rfl rfl (.cells (rc (.same (qj.nilslice)) rn)) rfl (.back rfl rfl (.cells (rc (.same nI) rn)) rfl (.back rfl rfl (.cells (rc (.same nI) rn)) rfl (.back rfl rfl (.cells (rc (.hs rfl) rn)) rfl (.back rfl rfl (.cells (rc (.same nI) rn)) rfl (.back rfl rfl (.cells (rc (.same nS) rn)) rfl (.back rfl rfl (.loop rfl (.kp (.kp (.kp (.kp (.kp .nil)))))) rfl (.new rfl rfl (.same fa) rfl .nil)))))))) (rc (.yld rfl) (rc (.ptr rfl) rn)) (.same (qj.tuple qd.nil)) rfl)) (by kernel_rfl) ?_
   refine Goes.sub (show Sub (ofG 49 (kF (kAH [(5,.ptr 3 0),(6,.ptr 4 0),(17,.func (.func 152) [] [.ptr 5 0])])),(kK (.cells [.i 0]::(kAe o5 (kT n4 (kAN log (.loop .exhausted none (ofG 49 [(2,.ptr 0 0),(3,.ptr 1 0),(4,.ptr 2 0),(5,.ptr 3 0),(6,.ptr 4 0)]) qc.xp qc.x1 qc.x2::(kAM o5 [])))))))) (ofG 49 (kF (kAH [(5,.ptr 3 0),(6,.ptr 5 0),(17,.func (.func 152) [] [.ptr 6 0])])),(kK (.cells [.i 0]:: .cells [hsl 4 5 o5]::(kAM o5 (kT n4 (kAN log []))))))from(Sub.norm [] [some 0,some 1,some 2,some 3,some 7,some 4,some 5] rfl rfl (.kp (.kp (.kp (.kp (.kp (.keep (.funcL (qd.nil) (rc (.ptr rfl) rn)) .nil)))))) (.kb rfl (.same (qd.cons (qj.nilslice) qd.nil)) (.kb rfl (.same (qd.cons nI qd.nil)) (.kb rfl (.same (qd.cons nI qd.nil)) (.kb rfl (.cells (rc (.hs rfl) rn)) (.ks (.kb rfl (.same (qd.cons nI qd.nil)) (.kb rfl (.same (qd.cons nS qd.nil)) .nil))))))))) ?_
   refine sq ?_
   obtain⟨o11,g_v12,h⟩:=bnd h
   refine Goes.cutS (s':=(ofG 49 (kF [(3,.ptr 2 0),(4,.ptr 3 0)]),(.cells [hsl 1 5 o11]::(kAM o11 (kT n4 [.cells [.i 0]]))))) ?_ ?_
   ·rcases o5 with _|l10
    ·try dsimp only at g_v12
     obtain rfl:=si g_v12
     exact qm.sub (qm.rg fol (kF (kAH [])) (kAA (kT n4 (.cells [.i 0]::(kAA (.cells ((hof (none:Option (List qb))).flatMap qa.c)::(kT n4 (kAN log [])))))))) (Sub.norm [] [some 0,none,some 1,some 2] rfl rfl (.kp (.kp (.kp .nil))) (.kb rfl (.cells (rc .hs0 rn)) (.fresh (.kb rfl (.same (qd.cons nI qd.nil)) (.kb rfl (.same (qd.cons nI qd.nil)) .nil)))))
    ·try dsimp only at g_v12
     obtain rfl:=si g_v12
     exact qm.sub (qm.rg fol (kF (kAH [])) (.cells [.oslice 4 l10.length 5]::(kT n4 (.cells [.i 0]:: .cells [.oslice 4 l10.length 5]::(kH l10 (kT n4 (kAN log []))))))) (Sub.norm [] [some 0,some 4,some 1,some 2] rfl rfl (.kp (.kp (.kp .nil))) (.kb rfl (.cells (rc ((zk.hs1 rfl)) rn)) (.ks (.kb rfl (.same (qd.cons nI qd.nil)) (.kb rfl (.same (qd.cons nI qd.nil)) .nil)))))
   intro _ hsub
   refine Goes.sub hsub ?_
   refine Goes.ret ?_
   obtain rfl:=si h
   exact(Goes.retW (xs:=[hsl 1 5 o11,.i n4,.i 0]) (by kernel_rfl) (FzW.tuple (qg.cons (FzW.hs (E:=qa) rfl rfl (nl rfl)) (qg.cons (FzW.still tI) (qg.cons (FzW.still tI) qg.nil)))))
  ·try dsimp only at h
   refine Goes.range fol rfl (gf:=152) (first:=[]) (captured:=[.ptr 5 0]) (v:= .tuple []) (A2:=(kAe o9 (kT n6 (kT n7 (kAe o9 (kT n8 (kAN log (.loop .done (some .ret) (ofG 49 [(2,.ptr 0 0),(3,.ptr 1 0),(4,.ptr 2 0),(5,.ptr 3 0),(6,.ptr 4 0)]) qc.xp qc.x1 qc.x2::(kAM o9 []))))))))) (s':=(ofG 49 (kF (kAH [(5,.ptr 3 0),(6,.ptr 4 0),(17,.func (.func 152) [] [.ptr 5 0])])),(kAe o9 (kT n6 (kT n7 (kAe o9 (kT n8 (kAN log (.loop .exhausted (some .ret) (ofG 49 [(2,.ptr 0 0),(3,.ptr 1 0),(4,.ptr 2 0),(5,.ptr 3 0),(6,.ptr 4 0)]) qc.xp qc.x1 qc.x2::(kAM o9 [])))))))))) (x:= .ret) (by kernel_rfl) (by kernel_rfl) (qfN (show(Obl.callH 152 [.yld 6,.ptr 5 0] (kK (.cells [.i 0]::(kK (kAN log [.loop .ready none (ofG 49 [(2,.ptr 0 0),(3,.ptr 1 0),(4,.ptr 2 0),(5,.ptr 3 0),(6,.ptr 4 0),(17,.func (.func 152) [] [.ptr 5 0])]) qc.xp qc.x1 qc.x2])))) [6,0,1,2,3,4,5] (.tuple []) (kAe o9 (kT n6 (kT n7 (kAe o9 (kT n8 (kAN log (.loop .done (some .ret) (ofG 49 [(2,.ptr 0 0),(3,.ptr 1 0),(4,.ptr 2 0),(5,.ptr 3 0),(6,.ptr 4 0)]) qc.xp qc.x1 qc.x2::(kAM o9 []))))))))).Holds Tryz.prog from qfI [some 6,some 0,some 1,some 2,some 3,some 4,some 5] [some 1,some 2,some 3,some 4,some 5,some 6,some 0,some 7] (qaL N 0 0 0 log e_r3) (.kb rfl (.loop rfl (.kp (.kp (.kp (.kp (.kp (.drop .nil))))))) (.kb rfl (.cells (rc (.same (qj.nilslice)) rn)) (.kb rfl (.cells (rc (.same nI) rn)) (.kb rfl (.cells (rc (.same nI) rn)) (.kb rfl (.cells (rc (.same (qj.nilslice)) rn)) (.kb rfl (.cells (rc (.same nI) rn)) (.kb rfl (.cells (rc (.same nS) rn)) .nil))))))) rfl rfl (.back rfl rfl (.cells (rc (.hs rfl) rn)) rfl (.back rfl rfl (.cells (rc (.same nI) rn)) rfl (.back rfl rfl (.cells (rc (.same nI) rn)) rfl (.back rfl rfl (.cells (rc (.hs rfl) rn)) rfl (.back rfl rfl (.cells (rc (.same nI) rn)) rfl (.back rfl rfl (.cells (rc (.same nS) rn)) rfl (.back rfl rfl (.loop rfl (.kp (.kp (.kp (.kp (.kp .nil)))))) rfl (.new rfl rfl (.same fa) rfl .nil)))))))) (rc (.yld rfl) (rc (.ptr rfl) rn)) (.same (qj.tuple qd.nil)) rfl)) (by kernel_rfl) ?_
   obtain rfl:=si h
   exact(Goes.retW (xs:=[hsl 7 5 o9,.i n6,.i n7]) (by kernel_rfl) (FzW.tuple (qg.cons (FzW.hs (E:=qa) rfl rfl (nl rfl)) (qg.cons (FzW.still tI) (qg.cons (FzW.still tI) qg.nil)))))
def qaa (words_:List Str):Option Str:=
 (qhX words_ [32]).bind fun r1=>
 some r1
theorem qev (words_:List Str) {res:Str} (h:qaa words_=some res):qf Tryz.prog (.fn 159) [vl encS words_] [] (.str res) []:=by
 unfold qaa at h
 refine Goes.fnW Tryz.func159 rfl rfl (m:=5) rfl (rs:=[.tmp 2]) rfl (l:=[(0,vl encS words_)]) rfl ?_
 refine sh fol [(0,vl encS words_)] ?_
 refine sq ?_
 obtain⟨r1,e_r1,h⟩:=bnd h
 refine gr fol [1] [(2,.str r1)] (ac (cv (qi7 words_ [32] e_r1)) az) ?_
 refine Goes.ret ?_
 obtain rfl:=si h
 exact(Goes.retW (xs:=[.str r1]) (by kernel_rfl) (FzW.still tS))
def zF (a0_:Int):Option (Option (List Str)):=
 ((if a0_<0 then
 none
 else
 some ():Option Unit)).bind fun _=>
 ((if(w64 (a0_-(w64 (0-0))))>0 then
 (cut ([]:List Str) 0 0).bind fun s7=>
 (qfZ 16 (w64 (a0_-(w64 (0-0)))) []).bind fun l8=>
 (cut l8 0 0).bind fun l9=>
 some (some l9)
 else
 some (none:Option (List Str)):Option (Option (List Str)))).bind fun o4=>
 some o4
theorem qat (a0_:Int) {o1:Option (List Str)} (h:zF a0_=some o1):qf Tryz.prog (.fn 217) [.nilslice,.i a0_] [] (hsl 0 1 o1) (kAT o1):=by
 unfold zF at h
 refine Goes.fnH Tryz.func217 rfl rfl (m:=27) rfl (rs:=[.tmp 4]) rfl (l:=[(0,.nilslice),(1,.i a0_)]) rfl ?_
 intro B hB
 refine sh fol [(0,.nilslice),(1,.i a0_)] ?_
 refine sq ?_
 refine sh fol [(0,.nilslice),(1,.i a0_),(6,.bool (decide (a0_<0)))] ?_
 obtain⟨r2,g2,h⟩:=bnd h
 refine Goes.imp (Q:=fun x s'=>(x= .normal∧()=r2∧Sub s' (ofG 27 [(0,.nilslice),(1,.i a0_)],[]))) ?_ ?_
 ·refine ihD g2 (fun c3 g2=>?_) (fun c3 g2=>?_)
  ·cases g2
  ·refine Goes.skip ?_
   obtain rfl:=si g2
   exact⟨rfl,rfl,(Sub.keep [0,1] rfl rfl)⟩
 rintro x s' ⟨rfl,rfl,hsub⟩
 refine Goes.sub hsub ?_
 refine sq ?_
 refine sh fol [(0,.nilslice),(1,.i (w64 (a0_-(w64 (0-0)))))] ?_
 refine sh fol [(0,.nilslice),(1,.i (w64 (a0_-(w64 (0-0))))),(16,.bool (decide ((w64 (a0_-(w64 (0-0))))>0)))] ?_
 obtain⟨r5,g5,h⟩:=bnd h
 refine Goes.imp (Q:=fun x s'=>(x= .normal∧ ∃o4,o4=r5∧Sub s' (ofG 27 [(0,hsl 0 1 o4)],(kAT o4)))) ?_ ?_
 ·refine ihD g5 (fun c6 g5=>?_) (fun c6 g5=>?_)
  ·obtain⟨s7,e_s7,g5⟩:=bnd g5
   obtain⟨l8,e_l8,g5⟩:=bnd g5
   obtain⟨l9,e_l9,g5⟩:=bnd g5
   refine gq fol [3,5,8] [(0,.oslice 0 l9.length 1)] (kE l8) (ac (hs (.done (.opt (qN Tryz.prog 23 .nilslice none (some (.i 0)) none)) .nilslice) (qlh (α:=Str) jQ none (some 0) e_s7)) (ac (hs (.run [] (zy Tryz.prog [23,3] .nilslice (.i (w64 (a0_-(w64 (0-0)))))) [] (.oslice 0 l8.length 1) (kE l8) false) (qje jQ it3 (E:=encS) rfl (z:=[]) (by kernel_rfl) e_l8 rfl)) (ac (hs (.done (.opt (qN Tryz.prog 23 (.oslice 0 l8.length 1) none (some (.i 0)) none)) (.oslice 0 l9.length 1)) (sh_os jQ e_l9)) az))) ?_
   obtain rfl:=si g5
   exact⟨rfl,_,rfl,((show Sub (ofG 27 [(0,.oslice 0 l9.length 1)],(kE l8)) (ofG 27 [(0,.oslice 0 l9.length 1)],(kE l9))from(Sub.norm [] [some 0] (by rw[hB];rfl) rfl (.keep (.oslice rfl) .nil) (.kb rfl (xC.cut e_l9) .nil))).trans (Sub.norm [] [some 0] (by rw[hB];rfl) rfl (.keep (zk.hs1 rfl) .nil) (.ks .nil)))⟩
  ·refine Goes.skip ?_
   obtain rfl:=si g5
   exact⟨rfl,_,rfl,(Sub.norm [] [none] (by rw[hB];rfl) rfl (.keep zk.hs0 .nil) (.fresh .nil))⟩
 rintro x s' ⟨rfl,o4,rfl,hsub⟩
 refine Goes.sub hsub ?_
 refine sh fol [(4,hsl 0 1 o4)] ?_
 refine Goes.ret ?_
 obtain rfl:=si h
 exact(Goes.retH (xs:=[hsl 0 1 o4]) (by kernel_rfl) (qbJ.refl _ _))
def qB (slices:List (List Str)):Nat→Int→Int→Option Int
 |0,_,_=>none
 |K+1,n1,size_2=>
  if n1<(slices.length:Int)then
  (((idx slices n1).bind fun x8=>
  if(w64 (size_2+(x8.length:Int)))<0 then
  none
  else
  some (w64 (size_2+(x8.length:Int))):Option Int)).bind fun size_6=>
  qB slices K (w64 (n1+1)) size_6
  else
  some size_2
def qC (slices:List (List Str)):Nat→(Option (List Str))→Int→Option (Option (List Str))
 |0,_,_=>none
 |K+1,o12,n13=>
  if n13<(slices.length:Int)then
  (idx slices n13).bind fun x17=>
  ((match o12 with
  |none=>
  none
  |some l18=>
  (app 16 l18 x17).bind fun l19=>
  some l19):Option (List Str)).bind fun l20=>
  qC slices K (some l20) (w64 (n13+1))
  else
  some o12
def zU (N:Nat) (slices:List (List Str)):Option (List Str):=
 (qB slices N 0 0).bind fun size_3=>
 (zF size_3).bind fun o11=>
 (qC slices N o11 0).bind fun o14=>
 some (hof o14)
theorem qay (N:Nat) (slices:List (List Str)) {res:List Str} (h:zU N slices=some res):qf Tryz.prog (.fn 184) [vl (jl encS) slices] [] (vl encS res) []:=by
 unfold zU at h
 refine Goes.fnW Tryz.func184 rfl rfl (m:=36) rfl (rs:=[.tmp 2]) rfl (l:=[(0,vl (jl encS) slices)]) rfl ?_
 refine sh fol [(0,vl (jl encS) slices)] ?_
 refine sh fol [(0,vl (jl encS) slices),(3,.i 0)] ?_
 refine sq ?_
 refine sh fol [(0,vl (jl encS) slices),(3,.i 0),(9,vl (jl encS) slices),(10,.i (slices.length:Int)),(11,.i 0)] ?_
 refine Goes.block ?_
 obtain⟨r4,g4,h⟩:=bnd h
 refine Goes.imp (Q:=fun x s'=>(x= .exit 0∧ ∃size_3,size_3=r4∧Sub s' (ofG 36 [(0,vl (jl encS) slices),(3,.i size_3)],[]))) ?_ ?_
 ·refine Goes.loopS (fun M s=> ∃(n1:Int) (size_2:Int),s=(ofG 36 ((0,vl (jl encS) slices)::(3,.i size_2)::(9,vl (jl encS) slices)::(kAk (slices.length:Int) n1)),[])∧qB slices M n1 size_2=some r4) ?_ (m:=N) ⟨_,_,rfl,g4⟩
  rintro M s ⟨n1,size_2,rfl,g4⟩
  cases M with
  |zero=>simp only[qB]at g4;cases g4
  |succ M=>
   rw[qB]at g4
   refine sh fol [(0,vl (jl encS) slices),(3,.i size_2),(9,vl (jl encS) slices),(10,.i (slices.length:Int)),(11,.i n1),(12,.bool (decide (n1<(slices.length:Int))))] ?_
   refine sq ?_
   refine ihD g4 (fun c5 g4=>?_) (fun c5 g4=>?_)
   ·refine Goes.skip ?_
    refine sq ?_
    obtain⟨r7,g7,g4⟩:=bnd g4
    refine Goes.imp (Q:=fun x s'=>(x= .normal∧ ∃size_6,size_6=r7∧Sub s' (ofG 36 ((0,vl (jl encS) slices)::(3,.i size_6)::(9,vl (jl encS) slices)::(kAk (slices.length:Int) n1)),[]))) ?_ ?_
    ·refine Goes.block ?_
     refine sq ?_
     obtain⟨x8,e_x8,g7⟩:=bnd g7
     refine gr fol [0,1] ((0,vl (jl encS) slices)::(3,.i size_2)::(5,vl encS x8)::(9,vl (jl encS) slices)::(kAk (slices.length:Int) n1)) (ac (iv qkI (jl encS) e_x8) (ac (lv 0 qcL (jl encS) e_x8 rfl) az)) ?_
     refine sh fol ((0,vl (jl encS) slices)::(3,.i (w64 (size_2+(x8.length:Int))))::(9,vl (jl encS) slices)::(kAk (slices.length:Int) n1)) ?_
     refine sh fol [(0,vl (jl encS) slices),(3,.i (w64 (size_2+(x8.length:Int)))),(9,vl (jl encS) slices),(10,.i (slices.length:Int)),(11,.i n1),(20,.bool (decide ((w64 (size_2+(x8.length:Int)))<0)))] ?_
     refine ihD g7 (fun c9 g7=>?_) (fun c9 g7=>?_)
     ·cases g7
     ·refine Goes.skip ?_
      obtain rfl:=si g7
      exact⟨rfl,_,rfl,(Sub.keep [0,3,9,10,11] rfl rfl)⟩
    rintro x s' ⟨rfl,size_6,rfl,hsub⟩
    refine Goes.sub hsub ?_
    refine gh fol ((0,vl (jl encS) slices)::(3,.i size_6)::(9,vl (jl encS) slices)::(kAk (slices.length:Int) (w64 (n1+1)))) ?_
    exact⟨M,(ofG 36 ((0,vl (jl encS) slices)::(3,.i size_6)::(9,vl (jl encS) slices)::(kAk (slices.length:Int) (w64 (n1+1)))),[]),Nat.lt_succ_self _,(Sub.refl _),_,_,rfl,g4⟩
   ·refine Goes.exit ?_
    obtain rfl:=si g4
    exact⟨rfl,_,rfl,(Sub.keep [0,3] rfl rfl)⟩
 rintro x s' ⟨rfl,size_3,rfl,hsub⟩
 refine Goes.sub hsub ?_
 refine sq ?_
 obtain⟨o11,e_r10,h⟩:=bnd h
 refine gq fol [1] [(0,vl (jl encS) slices),(6,hsl 0 1 o11)] (kAT o11) (ac (hs (.callH 217 [.nilslice,.i size_3] [] [] (hsl 0 1 o11) (kAT o11)) (qfI [] [some 0] (qat size_3 e_r10) .nil rfl rfl (.new rfl rfl (.same fa) rfl .nil) (rc (.same (qj.nilslice)) (rc (.same nI) rn)) (.hs rfl) rfl)) az) ?_
 refine sq ?_
 refine sh fol [(6,hsl 0 1 o11),(25,vl (jl encS) slices),(26,.i (slices.length:Int)),(27,.i 0)] ?_
 refine Goes.block ?_
 obtain⟨r15,g15,h⟩:=bnd h
 refine Goes.imp (Q:=fun x s'=>(x= .exit 2∧ ∃o14,o14=r15∧Sub s' (ofG 36 [(6,hsl 0 1 o14)],(kAT o14)))) ?_ ?_
 ·refine Goes.loopS (fun M s=> ∃(o12:Option (List Str)) (n13:Int),s=(ofG 36 [(6,hsl 0 1 o12),(25,vl (jl encS) slices),(26,.i (slices.length:Int)),(27,.i n13)],(kAT o12))∧qC slices M o12 n13=some r15) ?_ (m:=N) ⟨_,_,rfl,g15⟩
  rintro M s ⟨o12,n13,rfl,g15⟩
  cases M with
  |zero=>simp only[qC]at g15;cases g15
  |succ M=>
   rw[qC]at g15
   refine sh fol [(6,hsl 0 1 o12),(25,vl (jl encS) slices),(26,.i (slices.length:Int)),(27,.i n13),(28,.bool (decide (n13<(slices.length:Int))))] ?_
   refine sq ?_
   refine ihD g15 (fun c16 g15=>?_) (fun c16 g15=>?_)
   ·refine Goes.skip ?_
    refine sq (Goes.block ?_)
    refine sq ?_
    obtain⟨x17,e_x17,g15⟩:=bnd g15
    refine gr fol [0,1] [(6,hsl 0 1 o12),(8,vl encS x17),(25,vl (jl encS) slices),(26,.i (slices.length:Int)),(27,.i n13)] (ac (iv qkI (jl encS) e_x17) (ac (lv 0 qcL (jl encS) e_x17 rfl) az)) ?_
    obtain⟨l20,g_v21,g15⟩:=bnd g15
    refine Goes.cut (s':=(ofG 36 [(6,.oslice 1 l20.length 1),(25,vl (jl encS) slices),(26,.i (slices.length:Int)),(27,.i n13)],(.dead::(kE l20)))) ?_ ?_
    ·rcases o12 with _|l18
     ·try dsimp only at g_v21
      cases g_v21
     ·try dsimp only at g_v21
      obtain⟨l19,e_l19,g_v21⟩:=bnd g_v21
      obtain rfl:=si g_v21
      exact qm.rq fol [2] [(6,.oslice 1 l19.length 1),(25,vl (jl encS) slices),(26,.i (slices.length:Int)),(27,.i n13)] (.dead::(kE l19)) (ac (hs (.run [0] (zy Tryz.prog [23,23] (.oslice 0 l18.length 1) (vl encS x17)) (kE l18) (.oslice 1 l19.length 1) (.dead::(kE l19)) true) (vH jQ (E:=encS) rfl (qhJ (E:=encS) rfl _) (qhN (E:=encS) (l:=l18) rfl rfl rfl e_l19 rfl))) az)
    refine gh fol [(6,.oslice 1 l20.length 1),(25,vl (jl encS) slices),(26,.i (slices.length:Int)),(27,.i (w64 (n13+1)))] ?_
    exact⟨M,(ofG 36 [(6,hsl 0 1 (some l20)),(25,vl (jl encS) slices),(26,.i (slices.length:Int)),(27,.i (w64 (n13+1)))],(kAT (some l20))),Nat.lt_succ_self _,(Sub.norm [] [some 1] rfl rfl (.keep (zk.hs1 rfl) (.keep (.same (ql (jl encS) _)) (.keep (.same nI) (.keep (.same nI) .nil)))) (.ks .nil)),_,_,rfl,g15⟩
   ·refine Goes.exit ?_
    obtain rfl:=si g15
    exact⟨rfl,_,rfl,(Sub.keep [6] rfl rfl)⟩
 rintro x s' ⟨rfl,o14,rfl,hsub⟩
 refine Goes.sub hsub ?_
 refine sh fol [(2,hsl 0 1 o14)] ?_
 refine Goes.ret ?_
 obtain rfl:=si h
 exact(Goes.retW (xs:=[hsl 0 1 o14]) (by kernel_rfl) (FzW.hs (E:=encS) rfl rfl (nl rfl)))
def yV (p0:Int):Option Bool:=
 some true
theorem qcz (p0:Int) {res:Bool} (h:yV p0=some res):qf Tryz.prog (.fn 186) [.i p0] [] (.bool res) []:=by
 unfold yV at h
 refine Goes.fnW Tryz.func186 rfl rfl (m:=3) rfl (rs:=[.tmp 2]) rfl (l:=[(0,.i p0)]) rfl ?_
 refine sh fol [] ?_
 refine sh fol [(2,.bool true)] ?_
 refine Goes.ret ?_
 obtain rfl:=si h
 exact(Goes.retW (xs:=[.bool true]) (by kernel_rfl) (FzW.still tB))
def qw (a0_:List Int):Nat→(List Str)→Int→Option (List Str)
 |0,_,_=>none
 |K+1,l1,n2=>
  if n2<(a0_.length:Int)then
  (((idx a0_ n2).bind fun x8=>
  (yV x8).bind fun r9=>
  if r9=true then
  (qbQ x8).bind fun r11=>
  (app 16 l1 [r11]).bind fun l12=>
  some l12
  else
  some l1:Option (List Str))).bind fun l6=>
  qw a0_ K l6 (w64 (n2+1))
  else
  some l1
def zw (N:Nat) (a0_:List Int):Option (List Str):=
 (qw a0_ N ([]:List Str) 0).bind fun l3=>
 some l3
theorem xS (N:Nat) (a0_:List Int) {res:List Str} (h:zw N a0_=some res):qf Tryz.prog (.fn 185) [vl encI a0_,.func (.func 186) [] [],.func (.func 160) [] []] [] (vl encS res) []:=by
 unfold zw at h
 refine Goes.fnW Tryz.func185 rfl rfl (m:=27) rfl (rs:=[.tmp 6]) rfl (l:=[(0,vl encI a0_),(1,.func (.func 186) [] []),(2,.func (.func 160) [] [])]) rfl ?_
 refine sh fol [(0,vl encI a0_),(1,.func (.func 186) [] []),(2,.func (.func 160) [] [])] ?_
 refine sh fol [(0,vl encI a0_),(1,.func (.func 186) [] []),(2,.func (.func 160) [] []),(7,.nilslice)] ?_
 refine sq ?_
 refine sh fol [(1,.func (.func 186) [] []),(2,.func (.func 160) [] []),(7,.nilslice),(10,vl encI a0_),(11,.i (a0_.length:Int)),(12,.i 0)] ?_
 refine Goes.block ?_
 obtain⟨r4,g4,h⟩:=bnd h
 refine Goes.imp (Q:=fun x s'=>(x= .exit 0∧ ∃l3,l3=r4∧Sub s' (ofG 27 [(7,.gslice 0 l3.length 1)],(kE l3)))) ?_ ?_
 ·refine Goes.sub (s':=(ofG 27 [(1,.func (.func 186) [] []),(2,.func (.func 160) [] []),(7,.gslice 0 ([]:List Str).length 1),(10,vl encI a0_),(11,.i (a0_.length:Int)),(12,.i 0)],[.cells (([]:List Str).flatMap encS.c)])) (Sub.norm [] [none] rfl rfl (.keep (.same (qj.func qd.nil qd.nil)) (.keep (.same (qj.func qd.nil qd.nil)) (.keep .nil (.keep (.same (ql encI _)) (.keep (.same nI) (.keep (.same nI) .nil)))))) (.fresh .nil)) ?_
  refine Goes.loopS (fun M s=> ∃(l1:List Str) (n2:Int),s=(ofG 27 ((1,.func (.func 186) [] [])::(2,.func (.func 160) [] [])::(kAU l1 a0_ (a0_.length:Int) n2 [])),(kE l1))∧qw a0_ M l1 n2=some r4) ?_ (m:=N) ⟨_,_,rfl,g4⟩
  rintro M s ⟨l1,n2,rfl,g4⟩
  cases M with
  |zero=>simp only[qw]at g4;cases g4
  |succ M=>
   rw[qw]at g4
   refine sh fol ((1,.func (.func 186) [] [])::(2,.func (.func 160) [] [])::(kAU l1 a0_ (a0_.length:Int) n2 [(13,.bool (decide (n2<(a0_.length:Int))))])) ?_
   refine sq ?_
   refine ihD g4 (fun c5 g4=>?_) (fun c5 g4=>?_)
   ·refine Goes.skip ?_
    refine sq ?_
    obtain⟨r7,g7,g4⟩:=bnd g4
    refine Goes.imp (Q:=fun x s'=>(x= .normal∧ ∃l6,l6=r7∧Sub s' (ofG 27 ((1,.func (.func 186) [] [])::(2,.func (.func 160) [] [])::(kAU l6 a0_ (a0_.length:Int) n2 [])),(kE l6)))) ?_ ?_
    ·refine Goes.block ?_
     refine sq ?_
     obtain⟨x8,e_x8,g7⟩:=bnd g7
     refine gr fol [0,1] [(1,.func (.func 186) [] []),(2,.func (.func 160) [] []),(7,.gslice 0 l1.length 1),(9,.i x8),(10,vl encI a0_),(11,.i (a0_.length:Int)),(12,.i n2)] (ac (iv qcx encI e_x8) (ac (lv 0 ce3 encI e_x8 rfl) az)) ?_
     refine sq ?_
     obtain⟨r9,e_r9,g7⟩:=bnd g7
     refine gr fol [2] [(1,.func (.func 186) [] []),(2,.func (.func 160) [] []),(7,.gslice 0 l1.length 1),(9,.i x8),(10,vl encI a0_),(11,.i (a0_.length:Int)),(12,.i n2),(18,.bool r9)] (ac (cv (qcz x8 e_r9)) az) ?_
     refine ihB g7 (fun c10 g7=>?_) (fun c10 g7=>?_)
     ·obtain⟨r11,e_r11,g7⟩:=bnd g7
      obtain⟨l12,e_l12,g7⟩:=bnd g7
      refine gq fol [3,5] [(1,.func (.func 186) [] []),(2,.func (.func 160) [] []),(7,.gslice 2 l12.length 1),(10,vl encI a0_),(11,.i (a0_.length:Int)),(12,.i n2)] (.dead::(kAN r11 (kE l12))) (ac (cv (qdN x8 e_r11)) (ac (hs (.run [0,1] (zy Tryz.prog [23,23] (.gslice 0 l1.length 1) (.slice 1 0 1 1 1)) (.cells (l1.flatMap encS.c)::(kAN r11 [])) (.gslice 2 l12.length 1) (.dead::(kAN r11 (kE l12))) true) (vH jQ (E:=encS) rfl (qbT (E:=encS) (ys:=[r11]) rfl rfl rfl rfl) (qeu (E:=encS) (l:=l1) rfl rfl rfl e_l12 rfl))) az)) ?_
      obtain rfl:=si g7
      exact⟨rfl,_,rfl,(Sub.norm [] [some 2] rfl rfl (.keep (.same (qj.func qd.nil qd.nil)) (.keep (.same (qj.func qd.nil qd.nil)) (.keep (.gslice rfl) (.keep (.same (ql encI _)) (.keep (.same nI) (.keep (.same nI) .nil)))))) (.ks .nil))⟩
     ·refine Goes.skip ?_
      obtain rfl:=si g7
      exact⟨rfl,_,rfl,(Sub.keep [1,2,7,10,11,12] rfl rfl)⟩
    rintro x s' ⟨rfl,l6,rfl,hsub⟩
    refine Goes.sub hsub ?_
    refine gh fol ((1,.func (.func 186) [] [])::(2,.func (.func 160) [] [])::(kAU l6 a0_ (a0_.length:Int) (w64 (n2+1)) [])) ?_
    exact⟨M,(ofG 27 ((1,.func (.func 186) [] [])::(2,.func (.func 160) [] [])::(kAU l6 a0_ (a0_.length:Int) (w64 (n2+1)) [])),(kE l6)),Nat.lt_succ_self _,(Sub.refl _),_,_,rfl,g4⟩
   ·refine Goes.exit ?_
    obtain rfl:=si g4
    exact⟨rfl,_,rfl,(Sub.keep [7] rfl rfl)⟩
 rintro x s' ⟨rfl,l3,rfl,hsub⟩
 refine Goes.sub hsub ?_
 refine sh fol [(6,.gslice 0 l3.length 1)] ?_
 refine Goes.ret ?_
 obtain rfl:=si h
 exact(Goes.retW (xs:=[.gslice 0 l3.length 1]) (by kernel_rfl) (FzW.fz (Fz.gs (E:=encS) rfl rfl (nl rfl))))
def yn (N:Nat) (e:qb):Option Str:=
 (qbQ e.Number).bind fun r1=>
 (zw N e.Values).bind fun r2=>
 (zU N ([([r1,e.Kind]:List Str),e.Names,r2]:List (List Str))).bind fun r3=>
 (qaa r3).bind fun r4=>
 some r4
theorem qbf (N:Nat) (e:qb) {res:Str} (h:yn N e=some res):qf Tryz.prog (.fn 150) [.agg (cE e)] [] (.str res) []:=by
 unfold yn at h
 refine Goes.fnW Tryz.func150 rfl rfl (m:=19) rfl (rs:=[.tmp 2]) rfl (l:=[(0,.agg (cE e))]) rfl ?_
 refine sg fol (kN []) (kW e) ?_
 refine sq ?_
 obtain⟨r1,e_r1,h⟩:=bnd h
 obtain⟨r2,e_r2,h⟩:=bnd h
 obtain⟨r3,e_r3,h⟩:=bnd h
 refine gq fol [2,10,12] [(3,vl encS r3)] [.cells (cE e),.frozen [.str r1,.str e.Kind],.frozen [.slice 1 0 2 2 1,vl encS e.Names,vl encS r2]] (ac (cv (qdN e.Number e_r1)) (ac (hs (.call 185 [vl encI e.Values,.func (.func 186) [] [],.func (.func 160) [] []] [] [] [vl encI e.Values,.func (.func 186) [] [],.func (.func 160) [] []] (vl encS r2)) (qkO (FzL.cons (Fz.still (qV encI _ (nl rfl))) (FzL.cons (Fz.func FzL.nil FzL.nil) (FzL.cons (Fz.func FzL.nil FzL.nil) FzL.nil))) (xS N e.Values e_r2) (qV encS _ (nl rfl)))) (ac (hs (.callF 184 [.slice 2 0 3 3 1] [.cells (cE e),.cells [.str r1,.str e.Kind],.cells [.slice 1 0 2 2 1,vl encS e.Names,vl encS r2]] [2,1] [vl (jl encS) ([([r1,e.Kind]:List Str),e.Names,r2]:List (List Str))] (vl encS r3)) (qjd (FzL.cons (Fz.lit rfl rfl (FzL.cons (Fz.lit rfl rfl (FzL.still (AllST.cons tS (AllST.cons tS AllST.nil)))) (FzL.cons (Fz.still (qV encS _ (nl rfl))) (FzL.cons (Fz.still (qV encS _ (nl rfl))) FzL.nil)))) FzL.nil) (qay N ([([r1,e.Kind]:List Str),e.Names,r2]:List (List Str)) e_r3) (qV encS _ (nl rfl)))) az))) ?_
 refine Goes.sub (show Sub (ofG 19 [(3,vl encS r3)],[.cells (cE e),.frozen [.str r1,.str e.Kind],.frozen [.slice 1 0 2 2 1,vl encS e.Names,vl encS r2]]) (ofG 19 [(3,vl encS r3)],[])from(Sub.norm [] [] rfl rfl (.keep (.same (ql encS _)) .nil) .nil)) ?_
 refine sq ?_
 obtain⟨r4,e_r4,h⟩:=bnd h
 refine gr fol [1] [(2,.str r4)] (ac (cv (qev r3 e_r4)) az) ?_
 refine Goes.ret ?_
 obtain rfl:=si h
 exact(Goes.retW (xs:=[.str r4]) (by kernel_rfl) (FzW.still tS))
def vX (N:Nat) (e:qb):Option Str:=
 (yn N e).bind fun r1=>
 (cat r1 [59]).bind fun s2=>
 (yn N e).bind fun r3=>
 (yO N r3).bind fun r4=>
 (cat s2 r4).bind fun s5=>
 (cat s5 [10]).bind fun s6=>
 some s6
theorem qcT (N:Nat) (e:qb) {res:Str} (h:vX N e=some res):qf Tryz.prog (.fn 102) [.agg (cE e)] [] (.str res) []:=by
 unfold vX at h
 refine Goes.fnW Tryz.func102 rfl rfl (m:=11) rfl (rs:=[.tmp 2]) rfl (l:=[(0,.agg (cE e))]) rfl ?_
 refine sg fol (kN []) (kW e) ?_
 refine sq ?_
 obtain⟨r1,e_r1,h⟩:=bnd h
 obtain⟨s2,e_s2,h⟩:=bnd h
 obtain⟨r3,e_r3,h⟩:=bnd h
 obtain⟨r4,e_r4,h⟩:=bnd h
 obtain⟨s5,e_s5,h⟩:=bnd h
 obtain⟨s6,e_s6,h⟩:=bnd h
 refine gr fol [1,2,4,5,6,7] [(2,.str s6)] (ac (cv (qbf N e e_r1)) (ac (hs (.done (.opt (yG Tryz.prog .add 9 (.tmp 4) (.const (.string ⟨#[59]⟩)) (.str r1) (.str [59]))) (.str s2)) (jc e_s2)) (ac (cv (qbf N e e_r3)) (ac (cv (qbS N r3 e_r4)) (ac (hs (.done (.opt (yG Tryz.prog .add 9 (.tmp 5) (.tmp 8) (.str s2) (.str r4))) (.str s5)) (jc e_s5)) (ac (hs (.done (.opt (yG Tryz.prog .add 9 (.tmp 9) (.const (.string ⟨#[10]⟩)) (.str s5) (.str [10]))) (.str s6)) (jc e_s6)) az)))))) ?_
 refine Goes.ret ?_
 obtain rfl:=si h
 exact(Goes.retW (xs:=[.str s6]) (by kernel_rfl) (FzW.still tS))
def vS (N:Nat) (log:Str) (e:qb):Option (Str×Int):=
 (jN N log).bind fun r1=>
 (zX N e).bind fun r2=>
 (zn (!decide (e.Number=(w64 ((r1.1.length:Int)+1)))) 11).bind fun r3=>
 (jF N ([r1.2.2,r2,r3]:List Int)).bind fun r4=>
 if(!decide (r4=0))=true then
 some ([],r4)
 else
 (vX N e).bind fun r6=>
 (cat log r6).bind fun s7=>
 if(s7.length:Int)>1000000 then
 some ([],26)
 else
 some (s7,0)
theorem qcE (N:Nat) (log:Str) (e:qb) {res:Str×Int} (h:vS N log e=some res):qf Tryz.prog (.fn 42) [.str log,.agg (cE e)] [] (.tuple [.str res.1,.i res.2]) []:=by
 unfold vS at h
 refine Goes.fnW Tryz.func42 rfl rfl (m:=39) rfl (rs:=[.tmp 4,.tmp 5]) rfl (l:=(kV log [(1,.agg (cE e))])) rfl ?_
 refine sg fol (kV log [(3,.ptr 0 0)]) (kW e) ?_
 refine sq ?_
 obtain⟨r1,e_r1,h⟩:=bnd h
 refine gr fol [1] (kV log [(3,.ptr 0 0),(6,vl qa r1.1),(8,.i r1.2.2)]) (ac (cv (qad N log e_r1)) az) ?_
 refine sq ?_
 refine sq ?_
 obtain⟨r2,e_r2,h⟩:=bnd h
 obtain⟨r3,e_r3,h⟩:=bnd h
 obtain⟨r4,e_r4,h⟩:=bnd h
 refine gq fol [2,9,11] (kV log [(3,.ptr 0 0),(8,.i r4)]) (.cells (cE e)::(kAh r1.2.2 r2 r3 [])) (ac (cv (y8 N e e_r2)) (ac (cv (zg (!decide (e.Number=(w64 ((r1.1.length:Int)+1)))) 11 e_r3)) (ac (hs (.call 86 [.slice 1 0 3 3 1] (.cells (cE e)::(kAh r1.2.2 r2 r3 [])) [1] [vl encI ([r1.2.2,r2,r3]:List Int)] (.i r4)) (qbp (FzL.cons (Fz.lit rfl rfl (FzL.still (AllST.cons tI (AllST.cons tI (AllST.cons tI AllST.nil))))) FzL.nil) (vY N ([r1.2.2,r2,r3]:List Int) e_r4) tI rfl)) az))) ?_
 refine sh fol (kV log [(3,.ptr 0 0),(8,.i r4),(29,.bool (!decide (r4=0)))]) ?_
 refine ihB h (fun c5 h=>?_) (fun c5 h=>?_)
 ·refine sh fol [(4,.str []),(5,.i r4)] ?_
  refine Goes.ret ?_
  obtain rfl:=si h
  exact(Goes.retW (xs:=[.str [],.i r4]) (by kernel_rfl) (FzW.tuple (qg.cons (FzW.still tS) (qg.cons (FzW.still tI) qg.nil))))
 ·refine Goes.skip ?_
  refine sq ?_
  obtain⟨r6,e_r6,h⟩:=bnd h
  obtain⟨s7,e_s7,h⟩:=bnd h
  refine gr fol [2,3] [(9,.str s7)] (ac (cv (qcT N e e_r6)) (ac (hs (.done (.opt (yG Tryz.prog .add 9 (.tmp 31) (.tmp 33) (.str log) (.str r6))) (.str s7)) (jc e_s7)) az)) ?_
  refine sq ?_
  refine sh fol [(9,.str s7),(37,.bool (decide ((s7.length:Int)>1000000)))] ?_
  refine ihD h (fun c8 h=>?_) (fun c8 h=>?_)
  ·refine sh fol [(4,.str []),(5,.i 26)] ?_
   refine Goes.ret ?_
   obtain rfl:=si h
   exact(Goes.retW (xs:=[.str [],.i 26]) (by kernel_rfl) (FzW.tuple (qg.cons (FzW.still tS) (qg.cons (FzW.still tI) qg.nil))))
  ·refine Goes.skip ?_
   refine sh fol [(4,.str s7),(5,.i 0)] ?_
   refine Goes.ret ?_
   obtain rfl:=si h
   exact(Goes.retW (xs:=[.str s7,.i 0]) (by kernel_rfl) (FzW.tuple (qg.cons (FzW.still tS) (qg.cons (FzW.still tI) qg.nil))))
def zq (s_:Str):Nat→(List Str)→Int→Int→Option (List Str)
 |0,_,_,_=>none
 |K+1,l1,from__2,i_3=>
  if i_3≤(s_.length:Int)then
  (((if i_3=(s_.length:Int)then
  some true
  else
  (idx s_ i_3).bind fun c11=>
  some (decide ((c11.toNat:Int)=32)):Option Bool).bind fun b12=>
  if b12=true then
  (cut s_ from__2 i_3).bind fun s15=>
  (app 16 l1 [s15]).bind fun l16=>
  some (l16,w64 (i_3+1))
  else
  some (l1,from__2):Option ((List Str)×Int))).bind fun(l7,from__8)=>
  zq s_ K l7 from__8 (w64 (i_3+1))
  else
  some l1
def ym (N:Nat) (s_:Str):Option (List Str):=
 (zq s_ N ([]:List Str) 0 0).bind fun l4=>
 some l4
theorem qby (N:Nat) (s_:Str) {res:List Str} (h:ym N s_=some res):qf Tryz.prog (.fn 137) [.str s_] [] (vl encS res) []:=by
 unfold ym at h
 refine Goes.fnW Tryz.func137 rfl rfl (m:=32) rfl (rs:=[.tmp 2]) rfl (l:=(kV s_ [])) rfl ?_
 refine sh fol (kV s_ []) ?_
 refine sh fol (kV s_ [(3,.nilslice)]) ?_
 refine sh fol (kV s_ [(3,.nilslice),(4,.i 0)]) ?_
 refine sq ?_
 refine sh fol (kV s_ [(3,.nilslice),(4,.i 0),(5,.i 0)]) ?_
 refine Goes.block ?_
 obtain⟨r5,g5,h⟩:=bnd h
 refine Goes.imp (Q:=fun x s'=>(x= .exit 0∧ ∃l4,l4=r5∧Sub s' (ofG 32 (kAf l4 []),(kE l4)))) ?_ ?_
 ·refine Goes.sub (s':=(ofG 32 (kV s_ [(3,.gslice 0 ([]:List Str).length 1),(4,.i 0),(5,.i 0)]),[.cells (([]:List Str).flatMap encS.c)])) (Sub.norm [] [none] rfl rfl (.keep (.same nS) (.keep .nil (.keep (.same nI) (.keep (.same nI) .nil)))) (.fresh .nil)) ?_
  refine Goes.loopS (fun M s=> ∃(l1:List Str) (from__2:Int) (i_3:Int),s=(ofG 32 (kV s_ (kAf l1 (kAK from__2 i_3 []))),(kE l1))∧zq s_ M l1 from__2 i_3=some r5) ?_ (m:=N) ⟨_,_,_,rfl,g5⟩
  rintro M s ⟨l1,from__2,i_3,rfl,g5⟩
  cases M with
  |zero=>simp only[zq]at g5;cases g5
  |succ M=>
   rw[zq]at g5
   refine sq ?_
   refine sh fol (kV s_ (kAf l1 (kAK from__2 i_3 [(9,.bool (decide (i_3≤(s_.length:Int))))]))) ?_
   refine ihD g5 (fun c6 g5=>?_) (fun c6 g5=>?_)
   ·refine Goes.skip ?_
    refine sq ?_
    obtain⟨r9,g9,g5⟩:=bnd g5
    refine Goes.imp (Q:=fun x s'=>(x= .normal∧ ∃l7 from__8,(l7,from__8)=r9∧Sub s' (ofG 32 (kV s_ (kAf l7 (kAK from__8 i_3 []))),(kE l7)))) ?_ ?_
    ·refine Goes.block ?_
     refine sq ?_
     obtain⟨b12,g_v13,g9⟩:=bnd g9
     refine Goes.cut (s':=(ofG 32 (kV s_ (kAf l1 (kAK from__2 i_3 [(21,.bool b12)]))),(kE l1))) ?_ ?_
     ·rcases wyD g_v13 with⟨c10,g_v13⟩|⟨c10,g_v13⟩
      ·obtain rfl:=si g_v13
       exact tr fol [4] (kV s_ (kAf l1 (kAK from__2 i_3 [(21,.bool true)]))) (ac (gw c10) az)
      ·obtain⟨c11,e_c11,g_v13⟩:=bnd g_v13
       obtain rfl:=si g_v13
       exact tr fol [4,7] (kV s_ (kAf l1 (kAK from__2 i_3 [(21,.bool (decide ((c11.toNat:Int)=32)))]))) (ac (gw c10) (ac (hs (.done (.opt (zS Tryz.prog 9 (.str s_) (.i i_3))) (.int .u8 (c11.toNat:Int))) (jP st9 e_c11)) az))
     refine ihB g9 (fun c14 g9=>?_) (fun c14 g9=>?_)
     ·refine sq ?_
      obtain⟨s15,e_s15,g9⟩:=bnd g9
      obtain⟨l16,e_l16,g9⟩:=bnd g9
      refine gq fol [4,6] (kV s_ [(3,.gslice 2 l16.length 1),(5,.i i_3)]) (.dead::(kAN s15 (kE l16))) (ac (hs (.done (.opt (qN Tryz.prog 9 (.str s_) (some (.i from__2)) (some (.i i_3)) none)) (.str s15)) (jA st9 (some from__2) (some i_3) e_s15)) (ac (hs (.run [0,1] (zy Tryz.prog [23,23] (.gslice 0 l1.length 1) (.slice 1 0 1 1 1)) (.cells (l1.flatMap encS.c)::(kAN s15 [])) (.gslice 2 l16.length 1) (.dead::(kAN s15 (kE l16))) true) (vH jQ (E:=encS) rfl (qbT (E:=encS) (ys:=[s15]) rfl rfl rfl rfl) (qeu (E:=encS) (l:=l1) rfl rfl rfl e_l16 rfl))) az)) ?_
      refine gh fol (kV s_ ((3,.gslice 2 l16.length 1)::(kAK (w64 (i_3+1)) i_3 []))) ?_
      obtain rfl:=si g9
      exact⟨rfl,_,_,rfl,(Sub.norm [] [some 2] rfl rfl (.keep (.same nS) (.keep (.gslice rfl) (.keep (.same nI) (.keep (.same nI) .nil)))) (.ks .nil))⟩
     ·refine Goes.skip ?_
      obtain rfl:=si g9
      exact⟨rfl,_,_,rfl,(Sub.keep [0,3,4,5] rfl rfl)⟩
    rintro x s' ⟨rfl,l7,from__8,rfl,hsub⟩
    try dsimp only at g5
    refine Goes.sub hsub ?_
    refine gh fol (kV s_ (kAf l7 (kAK from__8 (w64 (i_3+1)) []))) ?_
    exact⟨M,(ofG 32 (kV s_ (kAf l7 (kAK from__8 (w64 (i_3+1)) []))),(kE l7)),Nat.lt_succ_self _,(Sub.refl _),_,_,_,rfl,g5⟩
   ·refine Goes.exit ?_
    obtain rfl:=si g5
    exact⟨rfl,_,rfl,(Sub.keep [3] rfl rfl)⟩
 rintro x s' ⟨rfl,l4,rfl,hsub⟩
 refine Goes.sub hsub ?_
 refine sh fol [(2,.gslice 0 l4.length 1)] ?_
 refine Goes.ret ?_
 obtain rfl:=si h
 exact(Goes.retW (xs:=[.gslice 0 l4.length 1]) (by kernel_rfl) (FzW.fz (Fz.gs (E:=encS) rfl rfl (nl rfl))))
def zu (s_:Str):Nat→Int→Int→Option (Int⊕(Int×Bool))
 |0,_,_=>none
 |K+1,n_8,i_9=>
  if i_9<(s_.length:Int)then
  ((idx s_ i_9).bind fun c14=>
  if(c14.toNat:Int)<48 then
  some true
  else
  some (decide ((c14.toNat:Int)>57)):Option Bool).bind fun b16=>
  if b16=true then
  some (.inr (0,false))
  else
  (idx s_ i_9).bind fun c19=>
  zu s_ K (w64 ((w64 (10*n_8))+(w64 (IntKind.wrap .u8 ((c19.toNat:Int)-48))))) (w64 (i_9+1))
  else
  some (.inl n_8)
def vD (N:Nat) (s_:Str):Option (Int×Bool):=
 (if(s_.length:Int)=0 then
 some true
 else
 if(s_.length:Int)>9 then
 some true
 else
 if(s_.length:Int)>1 then
 (idx s_ 0).bind fun c4=>
 some (decide ((c4.toNat:Int)=48))
 else
 some false:Option Bool).bind fun b5=>
 if b5=true then
 some (0,false)
 else
 (zu s_ N 0 0).bind (fun
 |(.inl n_10)=>
 some (n_10,true)
 |(.inr q20)=>
 some q20)
theorem qaJ (N:Nat) (s_:Str) {res:Int×Bool} (h:vD N s_=some res):qf Tryz.prog (.fn 138) [.str s_] [] (.tuple [.i res.1,.bool res.2]) []:=by
 unfold vD at h
 refine Goes.fnW Tryz.func138 rfl rfl (m:=49) rfl (rs:=[.tmp 2,.tmp 3]) rfl (l:=(kV s_ [])) rfl ?_
 refine sh fol (kV s_ []) ?_
 refine sq ?_
 refine sq ?_
 obtain⟨b5,g_v6,h⟩:=bnd h
 refine Goes.cut (s':=(ofG 49 (kV s_ [(23,.bool b5)]),[])) ?_ ?_
 ·rcases wyD g_v6 with⟨c1,g_v6⟩|⟨c1,g_v6⟩
  ·obtain rfl:=si g_v6
   exact tr fol [3] (kV s_ [(23,.bool true)]) (ac (gw c1) az)
  ·rcases wyD g_v6 with⟨c2,g_v6⟩|⟨c2,g_v6⟩
   ·obtain rfl:=si g_v6
    exact tr fol [3,8] (kV s_ [(23,.bool true)]) (ac (gw c1) (ac (gw c2) az))
   ·rcases wyD g_v6 with⟨c3,g_v6⟩|⟨c3,g_v6⟩
    ·obtain⟨c4,e_c4,g_v6⟩:=bnd g_v6
     obtain rfl:=si g_v6
     exact tr fol [3,8,12,14] (kV s_ [(23,.bool (decide ((c4.toNat:Int)=48)))]) (ac (gw c1) (ac (gw c2) (ac (gw c3) (ac (hs (.done (.opt (zS Tryz.prog 9 (.str s_) (.i 0))) (.int .u8 (c4.toNat:Int))) (jP st9 e_c4)) az))))
    ·obtain rfl:=si g_v6
     exact tr fol [3,8,12] (kV s_ [(23,.bool false)]) (ac (gw c1) (ac (gw c2) (ac (gw c3) az)))
 refine ihB h (fun c7 h=>?_) (fun c7 h=>?_)
 ·refine sh fol ((2,.i 0)::kAb) ?_
  refine Goes.ret ?_
  obtain rfl:=si h
  exact(Goes.retW (xs:=(.i 0::kAg)) (by kernel_rfl) (FzW.tuple (qg.cons (FzW.still tI) (qg.cons (FzW.still tB) qg.nil))))
 ·refine Goes.skip ?_
  refine sh fol (kV s_ [(4,.i 0)]) ?_
  refine sq ?_
  refine sh fol (kV s_ [(4,.i 0),(5,.i 0)]) ?_
  refine Goes.block ?_
  obtain⟨r11,g11,h⟩:=bnd h
  refine Goes.imp (Q:=fun x s'=>(x= .exit 0∧ ∃n_10,(.inl n_10)=r11∧Sub s' (ofG 49 [(4,.i n_10)],[]))∨(x= .ret∧ ∃q12,(.inr q12)=r11∧ku Tryz.prog [.tmp 2,.tmp 3] (.tuple [.i q12.1,.bool q12.2]) .ret s')) ?_ ?_
  ·refine Goes.loopS (fun M s=> ∃(n_8:Int) (i_9:Int),s=(ofG 49 (kV s_ (kAK n_8 i_9 [])),[])∧zu s_ M n_8 i_9=some r11) ?_ (m:=N) ⟨_,_,rfl,g11⟩
   rintro M s ⟨n_8,i_9,rfl,g11⟩
   cases M with
   |zero=>simp only[zu]at g11;cases g11
   |succ M=>
    rw[zu]at g11
    refine sq ?_
    refine sh fol (kV s_ (kAK n_8 i_9 [(27,.bool (decide (i_9<(s_.length:Int))))])) ?_
    refine ihD g11 (fun c13 g11=>?_) (fun c13 g11=>?_)
    ·refine Goes.skip ?_
     refine sq (Goes.block ?_)
     refine sq ?_
     refine sq ?_
     obtain⟨b16,g_v17,g11⟩:=bnd g11
     refine Goes.cut (s':=(ofG 49 (kV s_ (kAK n_8 i_9 [(39,.bool b16)])),[])) ?_ ?_
     ·obtain⟨c14,e_c14,g_v17⟩:=bnd g_v17
      rcases wyD g_v17 with⟨c15,g_v17⟩|⟨c15,g_v17⟩
      ·obtain rfl:=si g_v17
       exact tr fol [2,4] (kV s_ (kAK n_8 i_9 [(39,.bool true)])) (ac (hs (.done (.opt (zS Tryz.prog 9 (.str s_) (.i i_9))) (.int .u8 (c14.toNat:Int))) (jP st9 e_c14)) (ac (gw c15) az))
      ·obtain rfl:=si g_v17
       exact tr fol [2,4,7] (kV s_ (kAK n_8 i_9 [(39,.bool (decide ((c14.toNat:Int)>57)))])) (ac (hs (.done (.opt (zS Tryz.prog 9 (.str s_) (.i i_9))) (.int .u8 (c14.toNat:Int))) (jP st9 e_c14)) (ac (gw c15) (ac (hs (.done (.opt (zS Tryz.prog 9 (.str s_) (.i i_9))) (.int .u8 (c14.toNat:Int))) (jP st9 e_c14)) az)))
     refine ihB g11 (fun c18 g11=>?_) (fun c18 g11=>?_)
     ·refine sh fol ((2,.i 0)::kAb) ?_
      refine Goes.ret ?_
      obtain rfl:=si g11
      exact Or.inr (⟨rfl,_,rfl,(Goes.retW (xs:=(.i 0::kAg)) (by kernel_rfl) (FzW.tuple (qg.cons (FzW.still tI) (qg.cons (FzW.still tB) qg.nil))))⟩)
     ·refine Goes.skip ?_
      obtain⟨c19,e_c19,g11⟩:=bnd g11
      refine gr fol [4] (kV s_ (kAK (w64 ((w64 (10*n_8))+(w64 (IntKind.wrap .u8 ((c19.toNat:Int)-48))))) i_9 [])) (ac (hs (.done (.opt (zS Tryz.prog 9 (.str s_) (.i i_9))) (.int .u8 (c19.toNat:Int))) (jP st9 e_c19)) az) ?_
      refine gh fol (kV s_ (kAK (w64 ((w64 (10*n_8))+(w64 (IntKind.wrap .u8 ((c19.toNat:Int)-48))))) (w64 (i_9+1)) [])) ?_
      exact⟨M,(ofG 49 (kV s_ (kAK (w64 ((w64 (10*n_8))+(w64 (IntKind.wrap .u8 ((c19.toNat:Int)-48))))) (w64 (i_9+1)) [])),[]),Nat.lt_succ_self _,(Sub.refl _),_,_,rfl,g11⟩
    ·refine Goes.exit ?_
     obtain rfl:=si g11
     exact Or.inl (⟨rfl,_,rfl,(Sub.keep [4] rfl rfl)⟩)
  rintro x s' (⟨rfl,n_10,rfl,hsub⟩|⟨rfl,q20,rfl,hret⟩)
  ·try dsimp only at h
   refine Goes.sub hsub ?_
   refine sh fol [(2,.i n_10),(3,.bool true)] ?_
   refine Goes.ret ?_
   obtain rfl:=si h
   exact(Goes.retW (xs:=(.i n_10::kAS)) (by kernel_rfl) (FzW.tuple (qg.cons (FzW.still tI) (qg.cons (FzW.still tB) qg.nil))))
  ·try dsimp only at h
   obtain rfl:=si h
   exact hret
def zB (N:Nat) (r1:List Str) (r3:Int×Int×Bool):Nat→(List Str)→(List Int)→Int→Option (((List Str)×(List Int))⊕(qb×Bool))
 |0,_,_,_=>none
 |K+1,l8,l9,i_10=>
  if i_10<(r1.length:Int)then
  (((idx r1 i_10).bind fun x20=>
  if(x20==[])=true then
  some (.inr ((⟨0,[],[],[],[]⟩:qb),false))
  else
  if i_10≤r3.1 then
  (app 16 l8 [x20]).bind fun l23=>
  some (.inl (l23,l9))
  else
  (vD N x20).bind fun r24=>
  if(!r24.2)=true then
  some (.inr ((⟨0,[],[],[],[]⟩:qb),false))
  else
  (app 8 l9 [r24.1]).bind fun l26=>
  some (.inl (l8,l26)):Option (((List Str)×(List Int))⊕(qb×Bool)))).bind (fun
  |(.inl (l16,l17))=>
  zB N r1 r3 K l16 l17 (w64 (i_10+1))
  |(.inr q27)=>
  some (.inr q27))
  else
  some (.inl (l8,l9))
def yz (N:Nat) (s_:Str):Option (qb×Bool):=
 (ym N s_).bind fun r1=>
 (idx r1 0).bind fun x2=>
 (yR x2).bind fun r3=>
 (if(!r3.2.2)=true then
 some true
 else
 some (!decide ((r1.length:Int)=(w64 ((w64 (1+r3.1))+r3.2.1)))):Option Bool).bind fun b5=>
 if b5=true then
 some ((⟨0,[],[],[],[]⟩:qb),false)
 else
 (zB N r1 r3 N ([]:List Str) ([]:List Int) 1).bind (fun
 |(.inl (l11,l12))=>
 some ((⟨0,x2,l11,l12,[]⟩:qb),true)
 |(.inr q28)=>
 some q28)
theorem qdn (N:Nat) (s_:Str) {res:qb×Bool} (h:yz N s_=some res):qf Tryz.prog (.fn 76) [.str s_] [] (.tuple [.agg (cE res.1),.bool res.2]) []:=by
 unfold yz at h
 refine Goes.fnW Tryz.func76 rfl rfl (m:=80) rfl (rs:=[.cell 2 26,.tmp 3]) rfl (l:=(kV s_ [])) rfl ?_
 refine sg fol (kV s_ (kF [])) (kA []) ?_
 refine sq ?_
 obtain⟨r1,e_r1,h⟩:=bnd h
 refine gr fol [1] (kF [(4,vl encS r1)]) (ac (cv (qby N s_ e_r1)) az) ?_
 refine sq ?_
 obtain⟨x2,e_x2,h⟩:=bnd h
 obtain⟨r3,e_r3,h⟩:=bnd h
 refine gr fol [1,2,3] (kF [(4,vl encS r1),(5,.i r3.1),(6,.i r3.2.1),(7,.bool r3.2.2)]) (ac (iv jQ encS e_x2) (ac (lv 0 ce9 encS e_x2 rfl) (ac (cv (qbW x2 e_r3)) az))) ?_
 refine sq ?_
 refine sq ?_
 obtain⟨b5,g_v6,h⟩:=bnd h
 refine Goes.cut (s':=(ofG 80 (kF [(4,vl encS r1),(5,.i r3.1),(32,.bool b5)]),(kA []))) ?_ ?_
 ·rcases wyB g_v6 with⟨c4,g_v6⟩|⟨c4,g_v6⟩
  ·obtain rfl:=si g_v6
   exact tr fol [2] (kF [(4,vl encS r1),(5,.i r3.1),(32,.bool true)]) (ac (gw c4) az)
  ·obtain rfl:=si g_v6
   exact tr fol [2] (kF [(4,vl encS r1),(5,.i r3.1),(32,.bool (!decide ((r1.length:Int)=(w64 ((w64 (1+r3.1))+r3.2.1)))))]) (ac (gw c4) az)
 refine ihB h (fun c7 h=>?_) (fun c7 h=>?_)
 ·refine sh fol (kF kAb) ?_
  refine Goes.ret ?_
  obtain rfl:=si h
  exact(Goes.retW (xs:=(kL kAg)) (by kernel_rfl) (FzW.tuple (qg.cons (FzW.agg (qg.cons (FzW.still tI) (qg.cons (FzW.still tS) (qg.cons (FzW.nilv (E:=encS)) (qg.cons (FzW.nilv (E:=encI)) (qg.cons (FzW.still tS) qg.nil)))))) (qg.cons (FzW.still tB) qg.nil))))
 ·refine Goes.skip ?_
  refine sq (gq fol [1,2] (kF (kU r1 r3.1 [])) (kA [.cells [.i 0,.str x2,.nilslice,.nilslice,.str []]]) (ac (iv jQ encS e_x2) (ac (lv 0 ce9 encS e_x2 rfl) az)) ?_)
  refine sq ?_
  refine sh fol (kF (kU r1 r3.1 [(9,.i 1)])) ?_
  refine Goes.block ?_
  obtain⟨r13,g13,h⟩:=bnd h
  refine Goes.imp (Q:=fun x s'=>(x= .exit 0∧ ∃l11 l12,(.inl (l11,l12))=r13∧Sub s' (ofG 80 (kF [(8,.ptr 1 0)]),(kA (kI x2 l11 l12 []))))∨(x= .ret∧ ∃q14,(.inr q14)=r13∧ku Tryz.prog [.cell 2 26,.tmp 3] (.tuple [.agg (cE q14.1),.bool q14.2]) .ret s')) ?_ ?_
  ·refine Goes.sub (s':=(ofG 80 (kF (kU r1 r3.1 [(9,.i 1)])),(kA [.cells [.i 0,.str x2,.gslice 2 ([]:List Str).length 1,.gslice 3 ([]:List Int).length 1,.str []],.cells (([]:List Str).flatMap encS.c),.cells (([]:List Int).flatMap encI.c)]))) (Sub.norm [] [some 0,some 1,none,none] rfl rfl (.kp (.keep (.same (ql encS _)) (.keep (.same nI) (.kp (.keep (.same nI) .nil))))) (.kb rfl (.same (qd.cons nI (qd.cons nS (qd.cons (qj.nilslice) (qd.cons (qj.nilslice) (qd.cons nS qd.nil)))))) (.kb rfl (.cells (rc (.same nI) (rc (.same nS) (rc (.nil) (rc (.nil) (rc (.same nS) rn)))))) (.fresh (.fresh .nil))))) ?_
   refine Goes.loopS (fun M s=> ∃(l8:List Str) (l9:List Int) (i_10:Int),s=(ofG 80 (kF (kU r1 r3.1 [(9,.i i_10)])),(kA (kI x2 l8 l9 [])))∧zB N r1 r3 M l8 l9 i_10=some r13) ?_ (m:=N) ⟨_,_,_,rfl,g13⟩
   rintro M s ⟨l8,l9,i_10,rfl,g13⟩
   cases M with
   |zero=>simp only[zB]at g13;cases g13
   |succ M=>
    rw[zB]at g13
    refine sq ?_
    refine sh fol (kF (kU r1 r3.1 [(9,.i i_10),(41,.bool (decide (i_10<(r1.length:Int))))])) ?_
    refine ihD g13 (fun c15 g13=>?_) (fun c15 g13=>?_)
    ·refine Goes.skip ?_
     refine sq ?_
     obtain⟨r18,g18,g13⟩:=bnd g13
     refine Goes.imp (Q:=fun x s'=>(x= .normal∧ ∃l16 l17,(.inl (l16,l17))=r18∧Sub s' (ofG 80 (kF (kU r1 r3.1 [(9,.i i_10)])),(kA (kI x2 l16 l17 []))))∨(x= .ret∧ ∃q19,(.inr q19)=r18∧ku Tryz.prog [.cell 2 26,.tmp 3] (.tuple [.agg (cE q19.1),.bool q19.2]) .ret s')) ?_ ?_
     ·refine Goes.block ?_
      refine sq ?_
      refine sq ?_
      obtain⟨x20,e_x20,g18⟩:=bnd g18
      refine gr fol [2,3] (kF (kU r1 r3.1 [(9,.i i_10),(48,.bool (x20==[]))])) (ac (iv jQ encS e_x20) (ac (lv 0 ce9 encS e_x20 rfl) az)) ?_
      refine ihB g18 (fun c21 g18=>?_) (fun c21 g18=>?_)
      ·refine sh fol (kF kAb) ?_
       refine Goes.ret ?_
       obtain rfl:=si g18
       exact Or.inr (⟨rfl,_,rfl,(Goes.retW (xs:=(kL kAg)) (by kernel_rfl) (FzW.tuple (qg.cons (FzW.agg (qg.cons (FzW.still tI) (qg.cons (FzW.still tS) (qg.cons (FzW.nilv (E:=encS)) (qg.cons (FzW.nilv (E:=encI)) (qg.cons (FzW.still tS) qg.nil)))))) (qg.cons (FzW.still tB) qg.nil))))⟩)
      ·refine Goes.skip ?_
       refine sq ?_
       refine sh fol (kF (kU r1 r3.1 [(9,.i i_10),(52,.bool (decide (i_10≤r3.1)))])) ?_
       refine ihD g18 (fun c22 g18=>?_) (fun c22 g18=>?_)
       ·refine sq ?_
        obtain⟨l23,e_l23,g18⟩:=bnd g18
        refine gq fol [4,5,7] (kF (kU r1 r3.1 [(9,.i i_10)])) (kA (.cells [.i 0,.str x2,.gslice 5 l23.length 1,.gslice 3 l9.length 1,.str []]:: .dead::(kZ l9 (kAN x20 (kE l23))))) (ac (iv jQ encS e_x20) (ac (lv 0 ce9 encS e_x20 rfl) (ac (hs (.run [2,4] (zy Tryz.prog [23,23] (.gslice 2 l8.length 1) (.slice 4 0 1 1 1)) (kA (kI x2 l8 l9 (kAN x20 []))) (.gslice 5 l23.length 1) (kA (.cells [.i 0,.str x2,.gslice 2 l8.length 1,.gslice 3 l9.length 1,.str []]:: .dead::(kZ l9 (kAN x20 (kE l23))))) true) (vH jQ (E:=encS) rfl (qbT (E:=encS) (ys:=[x20]) rfl rfl rfl rfl) (qeu (E:=encS) (l:=l8) rfl rfl rfl e_l23 rfl))) az))) ?_
        refine Goes.exit ?_
        obtain rfl:=si g18
        exact Or.inl (⟨rfl,_,_,rfl,(Sub.norm [] [some 0,some 1,some 5,some 3] rfl rfl (.kp (.keep (.same (ql encS _)) (.keep (.same nI) (.kp (.keep (.same nI) .nil))))) (.kb rfl (.same (qd.cons nI (qd.cons nS (qd.cons (qj.nilslice) (qd.cons (qj.nilslice) (qd.cons nS qd.nil)))))) (.kb rfl (.cells (rc (.same nI) (rc (.same nS) (rc (.gslice rfl) (rc (.gslice rfl) (rc (.same nS) rn)))))) (.ks (.ks .nil)))))⟩)
       ·refine Goes.skip ?_
        refine sq ?_
        obtain⟨r24,e_r24,g18⟩:=bnd g18
        refine gr fol [2,3,4] (kF (kU r1 r3.1 [(9,.i i_10),(10,.i r24.1),(11,.bool r24.2)])) (ac (iv jQ encS e_x20) (ac (lv 0 ce9 encS e_x20 rfl) (ac (cv (qaJ N x20 e_r24)) az))) ?_
        refine sq ?_
        refine sh fol (kF (kU r1 r3.1 [(9,.i i_10),(10,.i r24.1),(71,.bool (!r24.2))])) ?_
        refine ihB g18 (fun c25 g18=>?_) (fun c25 g18=>?_)
        ·refine sh fol (kF kAb) ?_
         refine Goes.ret ?_
         obtain rfl:=si g18
         exact Or.inr (⟨rfl,_,rfl,(Goes.retW (xs:=(kL kAg)) (by kernel_rfl) (FzW.tuple (qg.cons (FzW.agg (qg.cons (FzW.still tI) (qg.cons (FzW.still tS) (qg.cons (FzW.nilv (E:=encS)) (qg.cons (FzW.nilv (E:=encI)) (qg.cons (FzW.still tS) qg.nil)))))) (qg.cons (FzW.still tB) qg.nil))))⟩)
        ·refine Goes.skip ?_
         obtain⟨l26,e_l26,g18⟩:=bnd g18
         refine gq fol [4] (kF (kU r1 r3.1 [(9,.i i_10)])) (kA (.cells [.i 0,.str x2,.gslice 2 l8.length 1,.gslice 5 l26.length 1,.str []]:: .cells (l8.flatMap encS.c):: .dead::(kT r24.1 (kZ l26 [])))) (ac (hs (.run [3,4] (zy Tryz.prog [24,24] (.gslice 3 l9.length 1) (.slice 4 0 1 1 1)) (kA (kI x2 l8 l9 (kT r24.1 []))) (.gslice 5 l26.length 1) (kA (.cells [.i 0,.str x2,.gslice 2 l8.length 1,.gslice 3 l9.length 1,.str []]:: .cells (l8.flatMap encS.c):: .dead::(kT r24.1 (kZ l26 [])))) true) (vH qcx (E:=encI) rfl (qbT (E:=encI) (ys:=[r24.1]) rfl rfl rfl rfl) (qeu (E:=encI) (l:=l9) rfl rfl rfl e_l26 rfl))) az) ?_
         obtain rfl:=si g18
         exact Or.inl (⟨rfl,_,_,rfl,(Sub.norm [] [some 0,some 1,some 2,some 5] rfl rfl (.kp (.keep (.same (ql encS _)) (.keep (.same nI) (.kp (.keep (.same nI) .nil))))) (.kb rfl (.same (qd.cons nI (qd.cons nS (qd.cons (qj.nilslice) (qd.cons (qj.nilslice) (qd.cons nS qd.nil)))))) (.kb rfl (.cells (rc (.same nI) (rc (.same nS) (rc (.gslice rfl) (rc (.gslice rfl) (rc (.same nS) rn)))))) (.ks (.ks .nil)))))⟩)
     rintro x s' (⟨rfl,l16,l17,rfl,hsub⟩|⟨rfl,q27,rfl,hret⟩)
     ·try dsimp only at g13
      refine Goes.sub hsub ?_
      refine gh fol (kF (kU r1 r3.1 [(9,.i (w64 (i_10+1)))])) ?_
      exact⟨M,(ofG 80 (kF (kU r1 r3.1 [(9,.i (w64 (i_10+1)))])),(kA (kI x2 l16 l17 []))),Nat.lt_succ_self _,(Sub.refl _),_,_,_,rfl,g13⟩
     ·try dsimp only at g13
      obtain rfl:=si g13
      exact Or.inr (⟨rfl,_,rfl,hret⟩)
    ·refine Goes.exit ?_
     obtain rfl:=si g13
     exact Or.inl (⟨rfl,_,_,rfl,(Sub.keep [2,8] rfl rfl)⟩)
  rintro x s' (⟨rfl,l11,l12,rfl,hsub⟩|⟨rfl,q28,rfl,hret⟩)
  ·try dsimp only at h
   refine Goes.sub hsub ?_
   refine sg fol (kF [(3,.bool true)]) (.cells [.i 0,.str x2,.gslice 2 l11.length 1,.gslice 3 l12.length 1,.str []]::(kI x2 l11 l12 [])) ?_
   refine Goes.ret ?_
   obtain rfl:=si h
   exact(Goes.retW (xs:=(.agg [.i 0,.str x2,.gslice 2 l11.length 1,.gslice 3 l12.length 1,.str []]::kAS)) (by kernel_rfl) (FzW.tuple (qg.cons (FzW.agg (qg.cons (FzW.still tI) (qg.cons (FzW.still tS) (qg.cons (FzW.fz (Fz.gs (E:=encS) rfl rfl (nl rfl))) (qg.cons (FzW.fz (Fz.gs (E:=encI) rfl rfl (nl rfl))) (qg.cons (FzW.still tS) qg.nil)))))) (qg.cons (FzW.still tB) qg.nil))))
  ·try dsimp only at h
   obtain rfl:=si h
   exact hret
def qL (least:Int):Nat→Int→Str→Option Str
 |0,_,_=>none
 |K+1,n_1,s_2=>
  (if n_1>0 then
  some true
  else
  some (decide ((s_2.length:Int)<least)):Option Bool).bind fun b6=>
  if b6=true then
  (cut [48,49,50,51,52,53,54,55,56,57] (n_1.tmod 10) (w64 ((n_1.tmod 10)+1))).bind fun s9=>
  (cat s9 s_2).bind fun s10=>
  qL least K (w64 (n_1.tdiv 10)) s10
  else
  some s_2
def vE (N:Nat) (n:Int) (least:Int):Option Str:=
 (qL least N n []).bind fun s_3=>
 some s_3
theorem qau (N:Nat) (n:Int) (least:Int) {res:Str} (h:vE N n least=some res):qf Tryz.prog (.fn 232) [.i n,.i least] [] (.str res) []:=by
 unfold vE at h
 refine Goes.fnW Tryz.func232 rfl rfl (m:=25) rfl (rs:=[.tmp 4]) rfl (l:=[(0,.i n),(1,.i least)]) rfl ?_
 refine sh fol [(0,.i n),(1,.i least)] ?_
 refine sh fol [(0,.i n),(1,.i least),(5,.str [])] ?_
 refine sq (Goes.block ?_)
 obtain⟨r4,g4,h⟩:=bnd h
 refine Goes.imp (Q:=fun x s'=>(x= .exit 0∧ ∃s_3,s_3=r4∧Sub s' (ofG 25 [(5,.str s_3)],[]))) ?_ ?_
 ·refine Goes.loopS (fun M s=> ∃(n_1:Int) (s_2:Str),s=(ofG 25 [(0,.i n_1),(1,.i least),(5,.str s_2)],[])∧qL least M n_1 s_2=some r4) ?_ (m:=N) ⟨_,_,rfl,g4⟩
  rintro M s ⟨n_1,s_2,rfl,g4⟩
  cases M with
  |zero=>simp only[qL]at g4;cases g4
  |succ M=>
   rw[qL]at g4
   refine sq ?_
   refine sq ?_
   obtain⟨b6,g_v7,g4⟩:=bnd g4
   refine Goes.cut (s':=(ofG 25 [(0,.i n_1),(1,.i least),(5,.str s_2),(13,.bool b6)],[])) ?_ ?_
   ·rcases wyD g_v7 with⟨c5,g_v7⟩|⟨c5,g_v7⟩
    ·obtain rfl:=si g_v7
     exact tr fol [2] [(0,.i n_1),(1,.i least),(5,.str s_2),(13,.bool true)] (ac (gw c5) az)
    ·obtain rfl:=si g_v7
     exact tr fol [2] [(0,.i n_1),(1,.i least),(5,.str s_2),(13,.bool (decide ((s_2.length:Int)<least)))] (ac (gw c5) az)
   refine ihB g4 (fun c8 g4=>?_) (fun c8 g4=>?_)
   ·refine Goes.skip ?_
    refine Goes.block ?_
    refine sq ?_
    obtain⟨s9,e_s9,g4⟩:=bnd g4
    obtain⟨s10,e_s10,g4⟩:=bnd g4
    refine gr fol [5,7] [(0,.i n_1),(1,.i least),(5,.str s10)] (ac (hs (.done (.opt (qN Tryz.prog 9 (.str [48,49,50,51,52,53,54,55,56,57]) (some (.i (n_1.tmod 10))) (some (.i (w64 ((n_1.tmod 10)+1)))) none)) (.str s9)) (jA st9 (some (n_1.tmod 10)) (some (w64 ((n_1.tmod 10)+1))) e_s9)) (ac (hs (.done (.opt (yG Tryz.prog .add 9 (.tmp 19) (.tmp 20) (.str s9) (.str s_2))) (.str s10)) (jc e_s10)) az)) ?_
    refine gh fol [(0,.i (w64 (n_1.tdiv 10))),(1,.i least),(5,.str s10)] ?_
    exact⟨M,(ofG 25 [(0,.i (w64 (n_1.tdiv 10))),(1,.i least),(5,.str s10)],[]),Nat.lt_succ_self _,(Sub.refl _),_,_,rfl,g4⟩
   ·refine Goes.exit ?_
    obtain rfl:=si g4
    exact⟨rfl,_,rfl,(Sub.keep [5] rfl rfl)⟩
 rintro x s' ⟨rfl,s_3,rfl,hsub⟩
 refine Goes.sub hsub ?_
 refine sh fol [(4,.str s_3)] ?_
 refine Goes.ret ?_
 obtain rfl:=si h
 exact(Goes.retW (xs:=[.str s_3]) (by kernel_rfl) (FzW.still tS))
def jJ (N:Nat) (a:yx):Nat→Str→Int→Option Str
 |0,_,_=>none
 |K+1,s_4,i_5=>
  if i_5≥0 then
  (idx a.w i_5).bind fun x9=>
  (vE N x9 9).bind fun r10=>
  (cat s_4 r10).bind fun s11=>
  jJ N a K s11 (w64 (i_5-1))
  else
  some s_4
def xK (N:Nat) (a:yx):Option Str:=
 if(a.w.length:Int)=0 then
 some [48]
 else
 (idx a.w (w64 ((a.w.length:Int)-1))).bind fun x2=>
 (vE N x2 1).bind fun r3=>
 (jJ N a N r3 (w64 ((a.w.length:Int)-2))).bind fun s_6=>
 if a.neg=true then
 (cat [45] s_6).bind fun s13=>
 some s13
 else
 some s_6
theorem qez (N:Nat) (a:yx) {res:Str} (h:xK N a=some res):qf Tryz.prog (.fn 193) [.agg [.bool a.neg,vl encI a.w]] [] (.str res) []:=by
 unfold xK at h
 refine Goes.fnW Tryz.func193 rfl rfl (m:=39) rfl (rs:=[.tmp 2]) rfl (l:=[(0,.agg [.bool a.neg,vl encI a.w])]) rfl ?_
 refine sg fol (kN []) [.cells [.bool a.neg,vl encI a.w]] ?_
 refine sq ?_
 refine sh fol (kN [(8,.bool (decide ((a.w.length:Int)=0)))]) ?_
 refine ihD h (fun c1 h=>?_) (fun c1 h=>?_)
 ·refine sh fol [(2,.str [48])] ?_
  refine Goes.ret ?_
  obtain rfl:=si h
  exact(Goes.retW (xs:=[.str [48]]) (by kernel_rfl) (FzW.still tS))
 ·refine Goes.skip ?_
  refine sq ?_
  obtain⟨x2,e_x2,h⟩:=bnd h
  obtain⟨r3,e_r3,h⟩:=bnd h
  refine gr fol [6,7,8] (kN [(3,.str r3)]) (ac (iv qcx encI e_x2) (ac (lv 0 ce3 encI e_x2 rfl) (ac (cv (qau N x2 1 e_r3)) az))) ?_
  refine sq ?_
  refine sh fol (kN (kAR r3 (w64 ((a.w.length:Int)-2)))) ?_
  refine Goes.block ?_
  obtain⟨r7,g7,h⟩:=bnd h
  refine Goes.imp (Q:=fun x s'=>(x= .exit 0∧ ∃s_6,s_6=r7∧Sub s' (ofG 39 (kN [(3,.str s_6)]),[.cells [.bool a.neg,vl encI a.w]]))) ?_ ?_
  ·refine Goes.loopS (fun M s=> ∃(s_4:Str) (i_5:Int),s=(ofG 39 (kN (kAR s_4 i_5)),[.cells [.bool a.neg,vl encI a.w]])∧jJ N a M s_4 i_5=some r7) ?_ (m:=N) ⟨_,_,rfl,g7⟩
   rintro M s ⟨s_4,i_5,rfl,g7⟩
   cases M with
   |zero=>simp only[jJ]at g7;cases g7
   |succ M=>
    rw[jJ]at g7
    refine sq ?_
    refine sh fol (kN [(3,.str s_4),(4,.i i_5),(23,.bool (decide (i_5≥0)))]) ?_
    refine ihD g7 (fun c8 g7=>?_) (fun c8 g7=>?_)
    ·refine Goes.skip ?_
     refine sq (Goes.block ?_)
     obtain⟨x9,e_x9,g7⟩:=bnd g7
     obtain⟨r10,e_r10,g7⟩:=bnd g7
     obtain⟨s11,e_s11,g7⟩:=bnd g7
     refine gr fol [4,5,6,7] (kN (kAR s11 i_5)) (ac (iv qcx encI e_x9) (ac (lv 0 ce3 encI e_x9 rfl) (ac (cv (qau N x9 9 e_r10)) (ac (hs (.done (.opt (yG Tryz.prog .add 9 (.tmp 26) (.tmp 32) (.str s_4) (.str r10))) (.str s11)) (jc e_s11)) az)))) ?_
     refine gh fol (kN (kAR s11 (w64 (i_5-1)))) ?_
     exact⟨M,(ofG 39 (kN (kAR s11 (w64 (i_5-1)))),[.cells [.bool a.neg,vl encI a.w]]),Nat.lt_succ_self _,(Sub.refl _),_,_,rfl,g7⟩
    ·refine Goes.exit ?_
     obtain rfl:=si g7
     exact⟨rfl,_,rfl,(Sub.keep [1,3] rfl rfl)⟩
  rintro x s' ⟨rfl,s_6,rfl,hsub⟩
  refine Goes.sub hsub ?_
  refine sq ?_
  refine sh fol [(3,.str s_6),(35,.bool a.neg)] ?_
  refine ihB h (fun c12 h=>?_) (fun c12 h=>?_)
  ·refine sq ?_
   obtain⟨s13,e_s13,h⟩:=bnd h
   refine gr fol [1] [(2,.str s13)] (ac (hs (.done (.opt (yG Tryz.prog .add 9 (.const (.string ⟨#[45]⟩)) (.tmp 36) (.str [45]) (.str s_6))) (.str s13)) (jc e_s13)) az) ?_
   refine Goes.ret ?_
   obtain rfl:=si h
   exact(Goes.retW (xs:=[.str s13]) (by kernel_rfl) (FzW.still tS))
  ·refine Goes.skip ?_
   refine sh fol [(2,.str s_6)] ?_
   refine Goes.ret ?_
   obtain rfl:=si h
   exact(Goes.retW (xs:=[.str s_6]) (by kernel_rfl) (FzW.still tS))
def zO:Nat→(List Int)→Option (List Int)
 |0,_=>none
 |K+1,w_1=>
  (if(w_1.length:Int)>0 then
  (idx w_1 (w64 ((w_1.length:Int)-1))).bind fun x5=>
  some (decide (x5=0))
  else
  some false:Option Bool).bind fun b6=>
  if b6=true then
  (cut w_1 0 (w64 ((w_1.length:Int)-1))).bind fun s9=>
  zO K s9
  else
  some w_1
def xR (N:Nat) (w:List Int):Option (List Int):=
 (zO N w).bind fun w_2=>
 some w_2
theorem qeE (N:Nat) (w:List Int) {res:List Int} (h:xR N w=some res):qf Tryz.prog (.fn 253) [vl encI w] [] (vl encI res) []:=by
 unfold xR at h
 refine Goes.fnW Tryz.func253 rfl rfl (m:=21) rfl (rs:=[.tmp 2]) rfl (l:=[(0,vl encI w)]) rfl ?_
 refine sh fol [(0,vl encI w)] ?_
 refine sq (Goes.block ?_)
 obtain⟨r3,g3,h⟩:=bnd h
 refine Goes.imp (Q:=fun x s'=>(x= .exit 0∧ ∃w_2,w_2=r3∧Sub s' (ofG 21 [(0,vl encI w_2)],[]))) ?_ ?_
 ·refine Goes.loopS (fun M s=> ∃(w_1:List Int),s=(ofG 21 [(0,vl encI w_1)],[])∧zO M w_1=some r3) ?_ (m:=N) ⟨_,rfl,g3⟩
  rintro M s ⟨w_1,rfl,g3⟩
  cases M with
  |zero=>simp only[zO]at g3;cases g3
  |succ M=>
   rw[zO]at g3
   refine sq ?_
   refine sq ?_
   obtain⟨b6,g_v7,g3⟩:=bnd g3
   refine Goes.cut (s':=(ofG 21 [(0,vl encI w_1),(14,.bool b6)],[])) ?_ ?_
   ·rcases wyD g_v7 with⟨c4,g_v7⟩|⟨c4,g_v7⟩
    ·obtain⟨x5,e_x5,g_v7⟩:=bnd g_v7
     obtain rfl:=si g_v7
     exact tr fol [3,8,9] [(0,vl encI w_1),(14,.bool (decide (x5=0)))] (ac (gw c4) (ac (iv qcx encI e_x5) (ac (lv 0 ce3 encI e_x5 rfl) az)))
    ·obtain rfl:=si g_v7
     exact tr fol [3] [(0,vl encI w_1),(14,.bool false)] (ac (gw c4) az)
   refine ihB g3 (fun c8 g3=>?_) (fun c8 g3=>?_)
   ·refine Goes.skip ?_
    refine Goes.block ?_
    obtain⟨s9,e_s9,g3⟩:=bnd g3
    refine gr fol [4] [(0,vl encI s9)] (ac (hs (.done (.opt (qN Tryz.prog 24 (vl encI w_1) none (some (.i (w64 ((w_1.length:Int)-1)))) none)) (vl encI s9)) (qhu qcx (E:=encI) rfl none (some (w64 ((w_1.length:Int)-1))) e_s9)) az) ?_
    exact⟨M,(ofG 21 [(0,vl encI s9)],[]),Nat.lt_succ_self _,(Sub.refl _),_,rfl,g3⟩
   ·refine Goes.exit ?_
    obtain rfl:=si g3
    exact⟨rfl,_,rfl,(Sub.keep [0] rfl rfl)⟩
 rintro x s' ⟨rfl,w_2,rfl,hsub⟩
 refine Goes.sub hsub ?_
 refine sh fol [(2,vl encI w_2)] ?_
 refine Goes.ret ?_
 obtain rfl:=si h
 exact(Goes.retW (xs:=[vl encI w_2]) (by kernel_rfl) (FzW.still (qV encI _ (nl rfl))))
def yu (N:Nat) (neg:Bool) (w:List Int):Option yx:=
 (xR N w).bind fun r1=>
 (if neg=true then
 some (decide ((r1.length:Int)>0))
 else
 some false:Option Bool).bind fun b3=>
 some (⟨b3,r1⟩:yx)
theorem qdl (N:Nat) (neg:Bool) (w:List Int) {res:yx} (h:yu N neg w=some res):qf Tryz.prog (.fn 233) [.bool neg,vl encI w] [] (.agg [.bool res.neg,vl encI res.w]) []:=by
 unfold yu at h
 refine Goes.fnW Tryz.func233 rfl rfl (m:=15) rfl (rs:=[.cell 4 259]) rfl (l:=[(0,.bool neg),(1,vl encI w)]) rfl ?_
 refine sg fol ((0,.bool neg)::(1,vl encI w)::(kAW [])) (kAE []) ?_
 refine sq ?_
 obtain⟨r1,e_r1,h⟩:=bnd h
 refine gr fol [1] ((0,.bool neg)::(1,vl encI r1)::(kAW [])) (ac (cv (qeE N w e_r1)) az) ?_
 refine sq ?_
 obtain⟨b3,g_v4,h⟩:=bnd h
 refine Goes.cut (s':=(ofG 15 (kAW []),[.cells [.bool b3,vl encI r1]])) ?_ ?_
 ·rcases wyB g_v4 with⟨c2,g_v4⟩|⟨c2,g_v4⟩
  ·obtain rfl:=si g_v4
   exact qm.rq fol [1] (kAW []) [.cells [.bool (decide ((r1.length:Int)>0)),vl encI r1]] (ac (gw c2) az)
  ·obtain rfl:=si g_v4
   exact qm.rq fol [1] (kAW []) [.cells [.bool false,vl encI r1]] (ac (gw c2) az)
 refine Goes.ret ?_
 obtain rfl:=si h
 exact(Goes.retW (xs:=[.agg [.bool b3,vl encI r1]]) (by kernel_rfl) (FzW.agg (qg.cons (FzW.still tB) (qg.cons (FzW.still (qV encI _ (nl rfl))) qg.nil))))
def zh:Nat→(List Int)→Int→Option (List Int)
 |0,_,_=>none
 |K+1,l1,n_2=>
  if(!decide (n_2=0))=true then
  ((if(n_2.tmod 1000000000)<0 then
  some (w64 (0-(n_2.tmod 1000000000)))
  else
  some (n_2.tmod 1000000000):Option Int)).bind fun d_6=>
  (app 8 l1 [d_6]).bind fun l9=>
  zh K l9 (w64 (n_2.tdiv 1000000000))
  else
  some l1
def qag (N:Nat) (n:Int):Option yx:=
 (zh N ([]:List Int) n).bind fun l3=>
 (yu N (decide (n<0)) l3).bind fun r10=>
 some r10
theorem qef (N:Nat) (n:Int) {res:yx} (h:qag N n=some res):qf Tryz.prog (.fn 194) [.i n] [] (.agg [.bool res.neg,vl encI res.w]) []:=by
 unfold qag at h
 refine Goes.fnW Tryz.func194 rfl rfl (m:=25) rfl (rs:=[.cell 2 259]) rfl (l:=[(0,.i n)]) rfl ?_
 refine sg fol ((0,.i n)::(kF [])) (kAE []) ?_
 refine sh fol ((0,.i n)::(kF [(3,.nilslice)])) ?_
 refine sh fol ((0,.i n)::(kF [(3,.nilslice),(4,.bool (decide (n<0)))])) ?_
 refine sq (Goes.block ?_)
 obtain⟨r4,g4,h⟩:=bnd h
 refine Goes.imp (Q:=fun x s'=>(x= .exit 0∧ ∃l3,l3=r4∧Sub s' (ofG 25 (kF (kAP l3 (decide (n<0)) [])),(kAE (kZ l3 []))))) ?_ ?_
 ·refine Goes.sub (s':=(ofG 25 ((0,.i n)::(kF [(3,.gslice 1 ([]:List Int).length 1),(4,.bool (decide (n<0)))])),(kAE [.cells (([]:List Int).flatMap encI.c)]))) (Sub.norm [] [some 0,none] rfl rfl (.keep (.same nI) (.kp (.keep .nil (.keep (.same nB) .nil)))) (.kb rfl (.same (qd.cons nB (qd.cons (qj.nilslice) qd.nil))) (.fresh .nil))) ?_
  refine Goes.loopS (fun M s=> ∃(l1:List Int) (n_2:Int),s=(ofG 25 ((0,.i n_2)::(kF (kAP l1 (decide (n<0)) []))),(kAE (kZ l1 [])))∧zh M l1 n_2=some r4) ?_ (m:=N) ⟨_,_,rfl,g4⟩
  rintro M s ⟨l1,n_2,rfl,g4⟩
  cases M with
  |zero=>simp only[zh]at g4;cases g4
  |succ M=>
   rw[zh]at g4
   refine sq ?_
   refine sh fol ((0,.i n_2)::(kF (kAP l1 (decide (n<0)) [(9,.bool (!decide (n_2=0)))]))) ?_
   refine ihB g4 (fun c5 g4=>?_) (fun c5 g4=>?_)
   ·refine Goes.skip ?_
    refine Goes.block ?_
    refine sh fol ((0,.i n_2)::(kF (kAP l1 (decide (n<0)) [(5,.i (n_2.tmod 1000000000))]))) ?_
    refine sq ?_
    refine sh fol ((0,.i n_2)::(kF (kAP l1 (decide (n<0)) [(5,.i (n_2.tmod 1000000000)),(13,.bool (decide ((n_2.tmod 1000000000)<0)))]))) ?_
    obtain⟨r7,g7,g4⟩:=bnd g4
    refine Goes.imp (Q:=fun x s'=>(x= .normal∧ ∃d_6,d_6=r7∧Sub s' (ofG 25 ((0,.i n_2)::(kF (kAP l1 (decide (n<0)) [(5,.i d_6)]))),(kAE (kZ l1 []))))) ?_ ?_
    ·refine ihD g7 (fun c8 g7=>?_) (fun c8 g7=>?_)
     ·refine gh fol ((0,.i n_2)::(kF (kAP l1 (decide (n<0)) [(5,.i (w64 (0-(n_2.tmod 1000000000))))]))) ?_
      obtain rfl:=si g7
      exact⟨rfl,_,rfl,(Sub.refl _)⟩
     ·refine Goes.skip ?_
      obtain rfl:=si g7
      exact⟨rfl,_,rfl,(Sub.keep [0,2,3,4,5] rfl rfl)⟩
    rintro x s' ⟨rfl,d_6,rfl,hsub⟩
    refine Goes.sub hsub ?_
    refine sq ?_
    obtain⟨l9,e_l9,g4⟩:=bnd g4
    refine gq fol [3] ((0,.i n_2)::(kF [(3,.gslice 3 l9.length 1),(4,.bool (decide (n<0)))])) (kAE (.dead::(kT d_6 (kZ l9 [])))) (ac (hs (.run [1,2] (zy Tryz.prog [24,24] (.gslice 1 l1.length 1) (.slice 2 0 1 1 1)) (kAE (kZ l1 (kT d_6 []))) (.gslice 3 l9.length 1) (kAE (.dead::(kT d_6 (kZ l9 [])))) true) (vH qcx (E:=encI) rfl (qbT (E:=encI) (ys:=[d_6]) rfl rfl rfl rfl) (qeu (E:=encI) (l:=l1) rfl rfl rfl e_l9 rfl))) az) ?_
    refine gh fol ((0,.i (w64 (n_2.tdiv 1000000000)))::(kF [(3,.gslice 3 l9.length 1),(4,.bool (decide (n<0)))])) ?_
    exact⟨M,(ofG 25 ((0,.i (w64 (n_2.tdiv 1000000000)))::(kF (kAP l9 (decide (n<0)) []))),(kAE (kZ l9 []))),Nat.lt_succ_self _,(Sub.norm [] [some 0,some 3] rfl rfl (.keep (.same nI) (.kp (.keep (.gslice rfl) (.keep (.same nB) .nil)))) (.kb rfl (.same (qd.cons nB (qd.cons (qj.nilslice) qd.nil))) (.ks .nil))),_,_,rfl,g4⟩
   ·refine Goes.exit ?_
    obtain rfl:=si g4
    exact⟨rfl,_,rfl,(Sub.keep [2,3,4] rfl rfl)⟩
 rintro x s' ⟨rfl,l3,rfl,hsub⟩
 refine Goes.sub hsub ?_
 refine sq ?_
 obtain⟨r10,e_r10,h⟩:=bnd h
 refine gq fol [2] (kF []) [.cells [.bool r10.neg,vl encI r10.w],.frozen (l3.flatMap encI.c)] (ac (hs (.callF 233 [.bool (decide (n<0)),.gslice 1 l3.length 1] (kAE (kZ l3 [])) [1] [.bool (decide (n<0)),vl encI l3] (.agg [.bool r10.neg,vl encI r10.w])) (qjd (FzL.cons (Fz.still tB) (FzL.cons (Fz.gs (E:=encI) rfl rfl (nl rfl)) FzL.nil)) (qdl N (decide (n<0)) l3 e_r10) (Still.agg (AllST.cons tB (AllST.cons (qV encI _ (nl rfl)) AllST.nil))))) az) ?_
 refine Goes.sub (show Sub (ofG 25 (kF []),[.cells [.bool r10.neg,vl encI r10.w],.frozen (l3.flatMap encI.c)]) (ofG 25 (kF []),[.cells [.bool r10.neg,vl encI r10.w]])from(Sub.norm [] [some 0] rfl rfl (.kp .nil) (.kb rfl (.same (qd.cons nB (qd.cons (ql encI _) qd.nil))) .nil))) ?_
 refine Goes.ret ?_
 obtain rfl:=si h
 exact(Goes.retW (xs:=[.agg [.bool r10.neg,vl encI r10.w]]) (by kernel_rfl) (FzW.agg (qg.cons (FzW.still tB) (qg.cons (FzW.still (qV encI _ (nl rfl))) qg.nil))))
def yU (N:Nat) (n:Int):Option Str:=
 (qag N n).bind fun r1=>
 (xK N r1).bind fun r2=>
 some r2
theorem qcM (N:Nat) (n:Int) {res:Str} (h:yU N n=some res):qf Tryz.prog (.fn 158) [.i n] [] (.str res) []:=by
 unfold yU at h
 refine Goes.fnW Tryz.func158 rfl rfl (m:=6) rfl (rs:=[.tmp 2]) rfl (l:=[(0,.i n)]) rfl ?_
 refine sh fol [(0,.i n)] ?_
 refine sq ?_
 obtain⟨r1,e_r1,h⟩:=bnd h
 obtain⟨r2,e_r2,h⟩:=bnd h
 refine gr fol [1,2] [(2,.str r2)] (ac (cv (qef N n e_r1)) (ac (cv (qez N r1 e_r2)) az)) ?_
 refine Goes.ret ?_
 obtain rfl:=si h
 exact(Goes.retW (xs:=[.str r2]) (by kernel_rfl) (FzW.still tS))
def vI (N:Nat) (n:Int):Option Str:=
 (yU N n).bind fun r1=>
 some r1
theorem qaq (N:Nat) (n:Int) {res:Str} (h:vI N n=some res):qf Tryz.prog (.fn 109) [.i n] [] (.str res) []:=by
 unfold vI at h
 refine Goes.fnW Tryz.func109 rfl rfl (m:=5) rfl (rs:=[.tmp 2]) rfl (l:=[(0,.i n)]) rfl ?_
 refine sh fol [(0,.i n)] ?_
 refine sq ?_
 obtain⟨r1,e_r1,h⟩:=bnd h
 refine gr fol [1] [(2,.str r1)] (ac (cv (qcM N n e_r1)) az) ?_
 refine Goes.ret ?_
 obtain rfl:=si h
 exact(Goes.retW (xs:=[.str r1]) (by kernel_rfl) (FzW.still tS))
def jG (s_:Str):Nat→Int→Int→Option Int
 |0,_,_=>none
 |K+1,x_1,i_2=>
  if i_2<(s_.length:Int)then
  (idx s_ i_2).bind fun c6=>
  jG s_ K ((w64 ((w64 (31*x_1))+(w64 (c6.toNat:Int)))).tmod 9999991) (w64 (i_2+1))
  else
  some x_1
def jY:Nat→Str→Option Str
 |0,_=>none
 |K+1,out_8=>
  if(out_8.length:Int)<7 then
  (cat [48] out_8).bind fun s12=>
  jY K s12
  else
  some out_8
def xE (N:Nat) (s_:Str):Option Str:=
 (jG s_ N 7 0).bind fun x_3=>
 (vI N x_3).bind fun r7=>
 (jY N r7).bind fun out_9=>
 some out_9
theorem qcy (N:Nat) (s_:Str) {res:Str} (h:xE N s_=some res):qf Tryz.prog (.fn 79) [.str s_] [] (.str res) []:=by
 unfold xE at h
 refine Goes.fnW Tryz.func79 rfl rfl (m:=28) rfl (rs:=[.tmp 2]) rfl (l:=(kV s_ [])) rfl ?_
 refine sh fol (kV s_ []) ?_
 refine sh fol (kV s_ [(3,.i 7)]) ?_
 refine sq ?_
 refine sh fol (kV s_ [(3,.i 7),(4,.i 0)]) ?_
 refine Goes.block ?_
 obtain⟨r4,g4,h⟩:=bnd h
 refine Goes.imp (Q:=fun x s'=>(x= .exit 0∧ ∃x_3,x_3=r4∧Sub s' (ofG 28 [(3,.i x_3)],[]))) ?_ ?_
 ·refine Goes.loopS (fun M s=> ∃(x_1:Int) (i_2:Int),s=(ofG 28 (kV s_ (kAa x_1 i_2 [])),[])∧jG s_ M x_1 i_2=some r4) ?_ (m:=N) ⟨_,_,rfl,g4⟩
  rintro M s ⟨x_1,i_2,rfl,g4⟩
  cases M with
  |zero=>simp only[jG]at g4;cases g4
  |succ M=>
   rw[jG]at g4
   refine sq ?_
   refine sh fol (kV s_ (kAa x_1 i_2 [(9,.bool (decide (i_2<(s_.length:Int))))])) ?_
   refine ihD g4 (fun c5 g4=>?_) (fun c5 g4=>?_)
   ·refine Goes.skip ?_
    refine sq (Goes.block ?_)
    obtain⟨c6,e_c6,g4⟩:=bnd g4
    refine gr fol [4] (kV s_ (kAa ((w64 ((w64 (31*x_1))+(w64 (c6.toNat:Int)))).tmod 9999991) i_2 [])) (ac (hs (.done (.opt (zS Tryz.prog 9 (.str s_) (.i i_2))) (.int .u8 (c6.toNat:Int))) (jP st9 e_c6)) az) ?_
    refine gh fol (kV s_ (kAa ((w64 ((w64 (31*x_1))+(w64 (c6.toNat:Int)))).tmod 9999991) (w64 (i_2+1)) [])) ?_
    exact⟨M,(ofG 28 (kV s_ (kAa ((w64 ((w64 (31*x_1))+(w64 (c6.toNat:Int)))).tmod 9999991) (w64 (i_2+1)) [])),[]),Nat.lt_succ_self _,(Sub.refl _),_,_,rfl,g4⟩
   ·refine Goes.exit ?_
    obtain rfl:=si g4
    exact⟨rfl,_,rfl,(Sub.keep [3] rfl rfl)⟩
 rintro x s' ⟨rfl,x_3,rfl,hsub⟩
 refine Goes.sub hsub ?_
 refine sq ?_
 obtain⟨r7,e_r7,h⟩:=bnd h
 refine gr fol [1] [(5,.str r7)] (ac (cv (qaq N x_3 e_r7)) az) ?_
 refine sq (Goes.block ?_)
 obtain⟨r10,g10,h⟩:=bnd h
 refine Goes.imp (Q:=fun x s'=>(x= .exit 2∧ ∃out_9,out_9=r10∧Sub s' (ofG 28 [(5,.str out_9)],[]))) ?_ ?_
 ·refine Goes.loopS (fun M s=> ∃(out_8:Str),s=(ofG 28 [(5,.str out_8)],[])∧jY M out_8=some r10) ?_ (m:=N) ⟨_,rfl,g10⟩
  rintro M s ⟨out_8,rfl,g10⟩
  cases M with
  |zero=>simp only[jY]at g10;cases g10
  |succ M=>
   rw[jY]at g10
   refine sq ?_
   refine sh fol [(5,.str out_8),(24,.bool (decide ((out_8.length:Int)<7)))] ?_
   refine ihD g10 (fun c11 g10=>?_) (fun c11 g10=>?_)
   ·refine Goes.skip ?_
    refine Goes.block ?_
    obtain⟨s12,e_s12,g10⟩:=bnd g10
    refine gr fol [1] [(5,.str s12)] (ac (hs (.done (.opt (yG Tryz.prog .add 9 (.const (.string ⟨#[48]⟩)) (.tmp 25) (.str [48]) (.str out_8))) (.str s12)) (jc e_s12)) az) ?_
    exact⟨M,(ofG 28 [(5,.str s12)],[]),Nat.lt_succ_self _,(Sub.refl _),_,rfl,g10⟩
   ·refine Goes.exit ?_
    obtain rfl:=si g10
    exact⟨rfl,_,rfl,(Sub.keep [5] rfl rfl)⟩
 rintro x s' ⟨rfl,out_9,rfl,hsub⟩
 refine Goes.sub hsub ?_
 refine sh fol [(2,.str out_9)] ?_
 refine Goes.ret ?_
 obtain rfl:=si h
 exact(Goes.retW (xs:=[.str out_9]) (by kernel_rfl) (FzW.still tS))
def z8 (s_:Str):Nat→Int→Option (Unit⊕(qb×Int))
 |0,_=>none
 |K+1,i_7=>
  if i_7<(s_.length:Int)then
  ((idx s_ i_7).bind fun c11=>
  if(c11.toNat:Int)<48 then
  some true
  else
  some (decide ((c11.toNat:Int)>57)):Option Bool).bind fun b13=>
  if b13=true then
  some (.inr ((⟨0,[],[],[],[]⟩:qb),25))
  else
  z8 s_ K (w64 (i_7+1))
  else
  some (.inl ())
def yD (N:Nat) (s_:Str):Option (qb×Int):=
 (if(w64 ((s_.length:Int)-8))<0 then
 some (w64 ((s_.length:Int)-8),true)
 else
 (idx s_ (w64 ((s_.length:Int)-8))).bind fun c2=>
 some (w64 ((s_.length:Int)-8),!decide ((c2.toNat:Int)=59)):Option (Int×Bool)).bind fun(at__3,b4)=>
 if b4=true then
 some ((⟨0,[],[],[],[]⟩:qb),25)
 else
 (z8 s_ N (w64 (at__3+1))).bind (fun
 |(.inl ())=>
 (cut s_ 0 at__3).bind fun s16=>
 (cut s_ (w64 (at__3+1)) (s_.length:Int)).bind fun s17=>
 (xE N s16).bind fun r18=>
 if(!(s17==r18))=true then
 some ((⟨0,[],[],[],[]⟩:qb),27)
 else
 (ym N s16).bind fun r20=>
 (idx r20 0).bind fun x21=>
 (vD N x21).bind fun r22=>
 (if(!r22.2)=true then
 some true
 else
 some (decide ((r20.length:Int)<2)):Option Bool).bind fun b24=>
 if b24=true then
 some ((⟨0,[],[],[],[]⟩:qb),25)
 else
 (cut s16 (w64 ((x21.length:Int)+1)) (s16.length:Int)).bind fun s27=>
 (yz N s27).bind fun r28=>
 (if(!r28.2)=true then
 some true
 else
 (jk N (⟨r22.1,r28.1.Kind,r28.1.Names,r28.1.Values,r28.1.Text⟩:qb)).bind fun r30=>
 some (!decide (r30=0)):Option Bool).bind fun b31=>
 if b31=true then
 some ((⟨0,[],[],[],[]⟩:qb),25)
 else
 some ((⟨r22.1,r28.1.Kind,r28.1.Names,r28.1.Values,r28.1.Text⟩:qb),0)
 |(.inr q34)=>
 some q34)
theorem qdp (N:Nat) (s_:Str) {res:qb×Int} (h:yD N s_=some res):qf Tryz.prog (.fn 106) [.str s_] [] (.tuple [.agg (cE res.1),.i res.2]) []:=by
 unfold yD at h
 refine Goes.fnW Tryz.func106 rfl rfl (m:=93) rfl (rs:=[.cell 2 26,.tmp 3]) rfl (l:=(kV s_ [])) rfl ?_
 refine sg fol (kV s_ (kF [])) (kA []) ?_
 refine sh fol (kV s_ (kF [(4,.i (w64 ((s_.length:Int)-8)))])) ?_
 refine sq ?_
 refine sq ?_
 obtain⟨⟨at__3,b4⟩,g_v5,h⟩:=bnd h
 refine Goes.cut (s':=(ofG 93 (kV s_ (kF [(4,.i at__3),(22,.bool b4)])),(kA []))) ?_ ?_
 ·rcases wyD g_v5 with⟨c1,g_v5⟩|⟨c1,g_v5⟩
  ·simp only[Option.some.injEq,Prod.mk.injEq]at g_v5
   obtain⟨rfl,rfl⟩:=g_v5
   exact tr fol [2] (kV s_ (kF [(4,.i (w64 ((s_.length:Int)-8))),(22,.bool true)])) (ac (gw c1) az)
  ·obtain⟨c2,e_c2,g_v5⟩:=bnd g_v5
   simp only[Option.some.injEq,Prod.mk.injEq]at g_v5
   obtain⟨rfl,rfl⟩:=g_v5
   exact tr fol [2,5] (kV s_ (kF [(4,.i (w64 ((s_.length:Int)-8))),(22,.bool (!decide ((c2.toNat:Int)=59)))])) (ac (gw c1) (ac (hs (.done (.opt (zS Tryz.prog 9 (.str s_) (.i (w64 ((s_.length:Int)-8))))) (.int .u8 (c2.toNat:Int))) (jP st9 e_c2)) az))
 try dsimp only at h
 refine ihB h (fun c6 h=>?_) (fun c6 h=>?_)
 ·refine sh fol (kF [(3,.i 25)]) ?_
  refine Goes.ret ?_
  obtain rfl:=si h
  exact(Goes.retW (xs:=(kL [.i 25])) (by kernel_rfl) (FzW.tuple (qg.cons (FzW.agg (qg.cons (FzW.still tI) (qg.cons (FzW.still tS) (qg.cons (FzW.nilv (E:=encS)) (qg.cons (FzW.nilv (E:=encI)) (qg.cons (FzW.still tS) qg.nil)))))) (qg.cons (FzW.still tI) qg.nil))))
 ·refine Goes.skip ?_
  refine sq ?_
  refine sh fol (kV s_ (kF (kAK at__3 (w64 (at__3+1)) []))) ?_
  refine Goes.block ?_
  obtain⟨r8,g8,h⟩:=bnd h
  refine Goes.imp (Q:=fun x s'=>(x= .exit 0∧(.inl ())=r8∧Sub s' (ofG 93 (kV s_ (kF [(4,.i at__3)])),(kA [])))∨(x= .ret∧ ∃q9,(.inr q9)=r8∧ku Tryz.prog [.cell 2 26,.tmp 3] (.tuple [.agg (cE q9.1),.i q9.2]) .ret s')) ?_ ?_
  ·refine Goes.loopS (fun M s=> ∃(i_7:Int),s=(ofG 93 (kV s_ (kF (kAK at__3 i_7 []))),(kA []))∧z8 s_ M i_7=some r8) ?_ (m:=N) ⟨_,rfl,g8⟩
   rintro M s ⟨i_7,rfl,g8⟩
   cases M with
   |zero=>simp only[z8]at g8;cases g8
   |succ M=>
    rw[z8]at g8
    refine sq ?_
    refine sh fol (kV s_ (kF (kAK at__3 i_7 [(29,.bool (decide (i_7<(s_.length:Int))))]))) ?_
    refine ihD g8 (fun c10 g8=>?_) (fun c10 g8=>?_)
    ·refine Goes.skip ?_
     refine sq (Goes.block ?_)
     refine sq ?_
     obtain⟨b13,g_v14,g8⟩:=bnd g8
     refine Goes.cut (s':=(ofG 93 (kV s_ (kF (kAK at__3 i_7 [(41,.bool b13)]))),(kA []))) ?_ ?_
     ·obtain⟨c11,e_c11,g_v14⟩:=bnd g_v14
      rcases wyD g_v14 with⟨c12,g_v14⟩|⟨c12,g_v14⟩
      ·obtain rfl:=si g_v14
       exact tr fol [2,4] (kV s_ (kF (kAK at__3 i_7 [(41,.bool true)]))) (ac (hs (.done (.opt (zS Tryz.prog 9 (.str s_) (.i i_7))) (.int .u8 (c11.toNat:Int))) (jP st9 e_c11)) (ac (gw c12) az))
      ·obtain rfl:=si g_v14
       exact tr fol [2,4,7] (kV s_ (kF (kAK at__3 i_7 [(41,.bool (decide ((c11.toNat:Int)>57)))]))) (ac (hs (.done (.opt (zS Tryz.prog 9 (.str s_) (.i i_7))) (.int .u8 (c11.toNat:Int))) (jP st9 e_c11)) (ac (gw c12) (ac (hs (.done (.opt (zS Tryz.prog 9 (.str s_) (.i i_7))) (.int .u8 (c11.toNat:Int))) (jP st9 e_c11)) az)))
     refine ihB g8 (fun c15 g8=>?_) (fun c15 g8=>?_)
     ·refine sh fol (kF [(3,.i 25)]) ?_
      refine Goes.ret ?_
      obtain rfl:=si g8
      exact Or.inr (⟨rfl,_,rfl,(Goes.retW (xs:=(kL [.i 25])) (by kernel_rfl) (FzW.tuple (qg.cons (FzW.agg (qg.cons (FzW.still tI) (qg.cons (FzW.still tS) (qg.cons (FzW.nilv (E:=encS)) (qg.cons (FzW.nilv (E:=encI)) (qg.cons (FzW.still tS) qg.nil)))))) (qg.cons (FzW.still tI) qg.nil))))⟩)
     ·refine Goes.skip ?_
      refine gh fol (kV s_ (kF (kAK at__3 (w64 (i_7+1)) []))) ?_
      exact⟨M,(ofG 93 (kV s_ (kF (kAK at__3 (w64 (i_7+1)) []))),(kA [])),Nat.lt_succ_self _,(Sub.refl _),_,rfl,g8⟩
    ·refine Goes.exit ?_
     obtain rfl:=si g8
     exact Or.inl (⟨rfl,rfl,(Sub.keep [0,2,4] rfl rfl)⟩)
  rintro x s' (⟨rfl,rfl,hsub⟩|⟨rfl,q34,rfl,hret⟩)
  ·try dsimp only at h
   refine Goes.sub hsub ?_
   refine sq ?_
   obtain⟨s16,e_s16,h⟩:=bnd h
   refine gr fol [2] (kV s_ (kF [(4,.i at__3),(6,.str s16)])) (ac (hs (.done (.opt (qN Tryz.prog 9 (.str s_) none (some (.i at__3)) none)) (.str s16)) (jA st9 none (some at__3) e_s16)) az) ?_
   refine sq ?_
   refine sq ?_
   obtain⟨s17,e_s17,h⟩:=bnd h
   obtain⟨r18,e_r18,h⟩:=bnd h
   refine gr fol [3,5] (kF [(6,.str s16),(52,.bool (!(s17==r18)))]) (ac (hs (.done (.opt (qN Tryz.prog 9 (.str s_) (some (.i (w64 (at__3+1)))) none none)) (.str s17)) (jA st9 (some (w64 (at__3+1))) none e_s17)) (ac (cv (qcy N s16 e_r18)) az)) ?_
   refine ihB h (fun c19 h=>?_) (fun c19 h=>?_)
   ·refine sh fol (kF [(3,.i 27)]) ?_
    refine Goes.ret ?_
    obtain rfl:=si h
    exact(Goes.retW (xs:=(kL [.i 27])) (by kernel_rfl) (FzW.tuple (qg.cons (FzW.agg (qg.cons (FzW.still tI) (qg.cons (FzW.still tS) (qg.cons (FzW.nilv (E:=encS)) (qg.cons (FzW.nilv (E:=encI)) (qg.cons (FzW.still tS) qg.nil)))))) (qg.cons (FzW.still tI) qg.nil))))
   ·refine Goes.skip ?_
    refine sq ?_
    obtain⟨r20,e_r20,h⟩:=bnd h
    refine gr fol [1] (kF [(6,.str s16),(7,vl encS r20)]) (ac (cv (qby N s16 e_r20)) az) ?_
    refine sq ?_
    obtain⟨x21,e_x21,h⟩:=bnd h
    obtain⟨r22,e_r22,h⟩:=bnd h
    refine gr fol [1,2,3] (kF [(6,.str s16),(7,vl encS r20),(8,.i r22.1),(9,.bool r22.2)]) (ac (iv jQ encS e_x21) (ac (lv 0 ce9 encS e_x21 rfl) (ac (cv (qaJ N x21 e_r22)) az))) ?_
    refine sq ?_
    refine sq ?_
    obtain⟨b24,g_v25,h⟩:=bnd h
    refine Goes.cut (s':=(ofG 93 (kF [(6,.str s16),(7,vl encS r20),(8,.i r22.1),(69,.bool b24)]),(kA []))) ?_ ?_
    ·rcases wyB g_v25 with⟨c23,g_v25⟩|⟨c23,g_v25⟩
     ·obtain rfl:=si g_v25
      exact tr fol [2] (kF [(6,.str s16),(7,vl encS r20),(8,.i r22.1),(69,.bool true)]) (ac (gw c23) az)
     ·obtain rfl:=si g_v25
      exact tr fol [2] (kF [(6,.str s16),(7,vl encS r20),(8,.i r22.1),(69,.bool (decide ((r20.length:Int)<2)))]) (ac (gw c23) az)
    refine ihB h (fun c26 h=>?_) (fun c26 h=>?_)
    ·refine sh fol (kF [(3,.i 25)]) ?_
     refine Goes.ret ?_
     obtain rfl:=si h
     exact(Goes.retW (xs:=(kL [.i 25])) (by kernel_rfl) (FzW.tuple (qg.cons (FzW.agg (qg.cons (FzW.still tI) (qg.cons (FzW.still tS) (qg.cons (FzW.nilv (E:=encS)) (qg.cons (FzW.nilv (E:=encI)) (qg.cons (FzW.still tS) qg.nil)))))) (qg.cons (FzW.still tI) qg.nil))))
    ·refine Goes.skip ?_
     refine sq ?_
     obtain⟨s27,e_s27,h⟩:=bnd h
     obtain⟨r28,e_r28,h⟩:=bnd h
     refine gq fol [2,3,6,7] (kF [(8,.i r22.1),(10,.ptr 1 0),(11,.bool r28.2)]) (kA (kW r28.1)) (ac (iv jQ encS e_x21) (ac (lv 0 ce9 encS e_x21 rfl) (ac (hs (.done (.opt (qN Tryz.prog 9 (.str s16) (some (.i (w64 ((x21.length:Int)+1)))) none none)) (.str s27)) (jA st9 (some (w64 ((x21.length:Int)+1))) none e_s27)) (ac (cv (qdn N s27 e_r28)) az)))) ?_
     refine sg fol (kF [(10,.ptr 1 0),(11,.bool r28.2)]) (kA [.cells [.i r22.1,.str r28.1.Kind,vl encS r28.1.Names,vl encI r28.1.Values,.str r28.1.Text]]) ?_
     refine sq ?_
     refine sq ?_
     obtain⟨b31,g_v32,h⟩:=bnd h
     refine Goes.cut (s':=(ofG 93 (kF [(10,.ptr 1 0),(90,.bool b31)]),(kA [.cells [.i r22.1,.str r28.1.Kind,vl encS r28.1.Names,vl encI r28.1.Values,.str r28.1.Text]]))) ?_ ?_
     ·rcases wyB g_v32 with⟨c29,g_v32⟩|⟨c29,g_v32⟩
      ·obtain rfl:=si g_v32
       exact tr fol [2] (kF [(10,.ptr 1 0),(90,.bool true)]) (ac (gw c29) az)
      ·obtain⟨r30,e_r30,g_v32⟩:=bnd g_v32
       obtain rfl:=si g_v32
       exact tr fol [2,4] (kF [(10,.ptr 1 0),(90,.bool (!decide (r30=0)))]) (ac (gw c29) (ac (cv (xx N (⟨r22.1,r28.1.Kind,r28.1.Names,r28.1.Values,r28.1.Text⟩:qb) e_r30)) az))
     refine ihB h (fun c33 h=>?_) (fun c33 h=>?_)
     ·refine sh fol (kF [(3,.i 25)]) ?_
      refine Goes.ret ?_
      obtain rfl:=si h
      exact(Goes.retW (xs:=(kL [.i 25])) (by kernel_rfl) (FzW.tuple (qg.cons (FzW.agg (qg.cons (FzW.still tI) (qg.cons (FzW.still tS) (qg.cons (FzW.nilv (E:=encS)) (qg.cons (FzW.nilv (E:=encI)) (qg.cons (FzW.still tS) qg.nil)))))) (qg.cons (FzW.still tI) qg.nil))))
     ·refine Goes.skip ?_
      refine sg fol (kF [(3,.i 0)]) (kO r22.1 r28.1.Kind r28.1.Names r28.1.Values r28.1.Text) ?_
      refine Goes.ret ?_
      obtain rfl:=si h
      exact(Goes.retW (xs:=[.agg [.i r22.1,.str r28.1.Kind,vl encS r28.1.Names,vl encI r28.1.Values,.str r28.1.Text],.i 0]) (by kernel_rfl) (FzW.tuple (qg.cons (FzW.agg (qg.cons (FzW.still tI) (qg.cons (FzW.still tS) (qg.cons (FzW.still (qV encS _ (nl rfl))) (qg.cons (FzW.still (qV encI _ (nl rfl))) (qg.cons (FzW.still tS) qg.nil)))))) (qg.cons (FzW.still tI) qg.nil))))
  ·try dsimp only at h
   obtain rfl:=si h
   exact hret
def zx (N:Nat) (log:Str):Nat→(List qb)→Int→Int→Option (((List qb)×Int)⊕((List qb)×Int×Int))
 |0,_,_,_=>none
 |K+1,l2,from__3,i_4=>
  if i_4<(log.length:Int)then
  (((idx log i_4).bind fun c14=>
  if(!decide ((c14.toNat:Int)=10))=true then
  some (.inl (l2,from__3))
  else
  (cut log from__3 i_4).bind fun s16=>
  (yD N s16).bind fun r17=>
  (if r17.2=0 then
  some (!decide (r17.1.Number=(w64 ((l2.length:Int)+1))))
  else
  some false:Option Bool).bind fun b19=>
  ((if b19=true then
  some 11
  else
  some r17.2:Option Int)).bind fun bad_21=>
  if(!decide (bad_21=0))=true then
  some (.inr (l2,from__3,bad_21))
  else
  (app 88 l2 [r17.1]).bind fun l25=>
  some (.inl (l25,w64 (i_4+1))):Option (((List qb)×Int)⊕((List qb)×Int×Int)))).bind (fun
  |(.inl (l10,from__11))=>
  zx N log K l10 from__11 (w64 (i_4+1))
  |(.inr q26)=>
  some (.inr q26))
  else
  some (.inl (l2,from__3))
def vT (N:Nat) (log:Str):Option ((List qb)×Int×Int):=
 if(log.length:Int)>1000000 then
 some ([],0,26)
 else
 (zx N log N ([]:List qb) 0 0).bind (fun
 |(.inl (l5,from__6))=>
 if from__6<(log.length:Int)then
 some (l5,from__6,28)
 else
 some (l5,from__6,0)
 |(.inr q28)=>
 some q28)
theorem qcO (N:Nat) (log:Str) {res:(List qb)×Int×Int} (h:vT N log=some res):qf Tryz.prog (.fn 44) [.str log] [] (.tuple [vl qa res.1,.i res.2.1,.i res.2.2]) []:=by
 unfold vT at h
 refine Goes.fnW Tryz.func44 rfl rfl (m:=60) rfl (rs:=[.tmp 2,.tmp 3,.tmp 4]) rfl (l:=(kV log [])) rfl ?_
 refine sh fol (kV log []) ?_
 refine sq ?_
 refine sh fol (kV log [(12,.bool (decide ((log.length:Int)>1000000)))]) ?_
 refine ihD h (fun c1 h=>?_) (fun c1 h=>?_)
 ·refine sh fol [(2,.nilslice),(3,.i 0),(4,.i 26)] ?_
  refine Goes.ret ?_
  obtain rfl:=si h
  exact(Goes.retW (xs:=[.nilslice,.i 0,.i 26]) (by kernel_rfl) (FzW.tuple (qg.cons (FzW.nilv (E:=qa)) (qg.cons (FzW.still tI) (qg.cons (FzW.still tI) qg.nil)))))
 ·refine Goes.skip ?_
  refine sh fol (kV log [(5,.nilslice)]) ?_
  refine sh fol (kV log [(5,.nilslice),(6,.i 0)]) ?_
  refine sq ?_
  refine sh fol (kV log [(5,.nilslice),(6,.i 0),(7,.i 0)]) ?_
  refine Goes.block ?_
  obtain⟨r7,g7,h⟩:=bnd h
  refine Goes.imp (Q:=fun x s'=>(x= .exit 0∧ ∃l5 from__6,(.inl (l5,from__6))=r7∧Sub s' (ofG 60 (kV log [(5,.gslice 0 l5.length 5),(6,.i from__6)]),(kH l5 [])))∨(x= .ret∧ ∃q8,(.inr q8)=r7∧ku Tryz.prog [.tmp 2,.tmp 3,.tmp 4] (.tuple [vl qa q8.1,.i q8.2.1,.i q8.2.2]) .ret s')) ?_ ?_
  ·refine Goes.sub (s':=(ofG 60 (kV log [(5,.gslice 0 ([]:List qb).length 5),(6,.i 0),(7,.i 0)]),[.cells (([]:List qb).flatMap qa.c)])) (Sub.norm [] [none] rfl rfl (.keep (.same nS) (.keep .nil (.keep (.same nI) (.keep (.same nI) .nil)))) (.fresh .nil)) ?_
   refine Goes.loopS (fun M s=> ∃(l2:List qb) (from__3:Int) (i_4:Int),s=(ofG 60 (kM log l2 from__3 i_4 []),(kH l2 []))∧zx N log M l2 from__3 i_4=some r7) ?_ (m:=N) ⟨_,_,_,rfl,g7⟩
   rintro M s ⟨l2,from__3,i_4,rfl,g7⟩
   cases M with
   |zero=>simp only[zx]at g7;cases g7
   |succ M=>
    rw[zx]at g7
    refine sq ?_
    refine sh fol (kM log l2 from__3 i_4 [(16,.bool (decide (i_4<(log.length:Int))))]) ?_
    refine ihD g7 (fun c9 g7=>?_) (fun c9 g7=>?_)
    ·refine Goes.skip ?_
     refine sq ?_
     obtain⟨r12,g12,g7⟩:=bnd g7
     refine Goes.imp (Q:=fun x s'=>(x= .normal∧ ∃l10 from__11,(.inl (l10,from__11))=r12∧Sub s' (ofG 60 (kM log l10 from__11 i_4 []),(kH l10 [])))∨(x= .ret∧ ∃q13,(.inr q13)=r12∧ku Tryz.prog [.tmp 2,.tmp 3,.tmp 4] (.tuple [vl qa q13.1,.i q13.2.1,.i q13.2.2]) .ret s')) ?_ ?_
     ·refine Goes.block ?_
      refine sq ?_
      refine sq ?_
      obtain⟨c14,e_c14,g12⟩:=bnd g12
      refine gr fol [2] (kM log l2 from__3 i_4 [(22,.bool (!decide ((c14.toNat:Int)=10)))]) (ac (hs (.done (.opt (zS Tryz.prog 9 (.str log) (.i i_4))) (.int .u8 (c14.toNat:Int))) (jP st9 e_c14)) az) ?_
      refine ihB g12 (fun c15 g12=>?_) (fun c15 g12=>?_)
      ·refine Goes.exit ?_
       obtain rfl:=si g12
       exact Or.inl (⟨rfl,_,_,rfl,(Sub.keep [0,5,6,7] rfl rfl)⟩)
      ·refine Goes.skip ?_
       refine sq ?_
       obtain⟨s16,e_s16,g12⟩:=bnd g12
       obtain⟨r17,e_r17,g12⟩:=bnd g12
       refine gq fol [3,4] (kM log l2 from__3 i_4 [(8,.ptr 1 0),(9,.i r17.2)]) (kH l2 (kW r17.1)) (ac (hs (.done (.opt (qN Tryz.prog 9 (.str log) (some (.i from__3)) (some (.i i_4)) none)) (.str s16)) (jA st9 (some from__3) (some i_4) e_s16)) (ac (cv (qdp N s16 e_r17)) az)) ?_
       refine sq ?_
       refine sq ?_
       obtain⟨b19,g_v20,g12⟩:=bnd g12
       refine Goes.cut (s':=(ofG 60 (kM log l2 from__3 i_4 [(8,.ptr 1 0),(9,.i r17.2),(40,.bool b19)]),(kH l2 (kW r17.1)))) ?_ ?_
       ·rcases wyD g_v20 with⟨c18,g_v20⟩|⟨c18,g_v20⟩
        ·obtain rfl:=si g_v20
         exact tr fol [2] (kM log l2 from__3 i_4 [(8,.ptr 1 0),(9,.i r17.2),(40,.bool (!decide (r17.1.Number=(w64 ((l2.length:Int)+1)))))]) (ac (gw c18) az)
        ·obtain rfl:=si g_v20
         exact tr fol [2] (kM log l2 from__3 i_4 [(8,.ptr 1 0),(9,.i r17.2),(40,.bool false)]) (ac (gw c18) az)
       obtain⟨r22,g22,g12⟩:=bnd g12
       refine Goes.imp (Q:=fun x s'=>(x= .normal∧ ∃bad_21,bad_21=r22∧Sub s' (ofG 60 (kM log l2 from__3 i_4 [(8,.ptr 1 0),(9,.i bad_21)]),(kH l2 (kW r17.1))))) ?_ ?_
       ·refine ihB g22 (fun c23 g22=>?_) (fun c23 g22=>?_)
        ·refine gh fol (kM log l2 from__3 i_4 [(8,.ptr 1 0),(9,.i 11)]) ?_
         obtain rfl:=si g22
         exact⟨rfl,_,rfl,(Sub.refl _)⟩
        ·refine Goes.skip ?_
         obtain rfl:=si g22
         exact⟨rfl,_,rfl,(Sub.keep [0,5,6,7,8,9] rfl rfl)⟩
       rintro x s' ⟨rfl,bad_21,rfl,hsub⟩
       refine Goes.sub hsub ?_
       refine sq ?_
       refine sh fol (kM log l2 from__3 i_4 [(8,.ptr 1 0),(9,.i bad_21),(42,.bool (!decide (bad_21=0)))]) ?_
       refine ihB g12 (fun c24 g12=>?_) (fun c24 g12=>?_)
       ·refine sh fol ((2,.gslice 0 l2.length 5)::(kAa from__3 bad_21 [])) ?_
        refine Goes.ret ?_
        obtain rfl:=si g12
        exact Or.inr (⟨rfl,_,rfl,(Goes.retW (xs:=[.gslice 0 l2.length 5,.i from__3,.i bad_21]) (by kernel_rfl) (FzW.tuple (qg.cons (FzW.fz (Fz.gs (E:=qa) rfl rfl (nl rfl))) (qg.cons (FzW.still tI) (qg.cons (FzW.still tI) qg.nil)))))⟩)
       ·refine Goes.skip ?_
        refine sq ?_
        obtain⟨l25,e_l25,g12⟩:=bnd g12
        refine gq fol [3] (kV log [(5,.gslice 3 l25.length 5),(7,.i i_4)]) (.dead::(kS r17.1 (kH l25 []))) (ac (hs (.run [0,2] (zy Tryz.prog [22,22] (.gslice 0 l2.length 5) (.slice 2 0 1 1 5)) (kH l2 (kS r17.1 [])) (.gslice 3 l25.length 5) (.dead::(kS r17.1 (kH l25 []))) true) (vH jd (E:=qa) rfl (qbT (E:=qa) (ys:=[r17.1]) rfl rfl rfl rfl) (qeu (E:=qa) (l:=l2) rfl rfl rfl e_l25 rfl))) az) ?_
        refine gh fol (kV log [(5,.gslice 3 l25.length 5),(6,.i (w64 (i_4+1))),(7,.i i_4)]) ?_
        obtain rfl:=si g12
        exact Or.inl (⟨rfl,_,_,rfl,(Sub.norm [] [some 3] rfl rfl (.keep (.same nS) (.keep (.gslice rfl) (.keep (.same nI) (.keep (.same nI) .nil)))) (.ks .nil))⟩)
     rintro x s' (⟨rfl,l10,from__11,rfl,hsub⟩|⟨rfl,q26,rfl,hret⟩)
     ·try dsimp only at g7
      refine Goes.sub hsub ?_
      refine gh fol (kM log l10 from__11 (w64 (i_4+1)) []) ?_
      exact⟨M,(ofG 60 (kM log l10 from__11 (w64 (i_4+1)) []),(kH l10 [])),Nat.lt_succ_self _,(Sub.refl _),_,_,_,rfl,g7⟩
     ·try dsimp only at g7
      obtain rfl:=si g7
      exact Or.inr (⟨rfl,_,rfl,hret⟩)
    ·refine Goes.exit ?_
     obtain rfl:=si g7
     exact Or.inl (⟨rfl,_,_,rfl,(Sub.keep [0,5,6] rfl rfl)⟩)
  rintro x s' (⟨rfl,l5,from__6,rfl,hsub⟩|⟨rfl,q28,rfl,hret⟩)
  ·try dsimp only at h
   refine Goes.sub hsub ?_
   refine sq ?_
   refine sh fol [(5,.gslice 0 l5.length 5),(6,.i from__6),(55,.bool (decide (from__6<(log.length:Int))))] ?_
   refine ihD h (fun c27 h=>?_) (fun c27 h=>?_)
   ·refine sh fol [(2,.gslice 0 l5.length 5),(3,.i from__6),(4,.i 28)] ?_
    refine Goes.ret ?_
    obtain rfl:=si h
    exact(Goes.retW (xs:=[.gslice 0 l5.length 5,.i from__6,.i 28]) (by kernel_rfl) (FzW.tuple (qg.cons (FzW.fz (Fz.gs (E:=qa) rfl rfl (nl rfl))) (qg.cons (FzW.still tI) (qg.cons (FzW.still tI) qg.nil)))))
   ·refine Goes.skip ?_
    refine sh fol [(2,.gslice 0 l5.length 5),(3,.i from__6),(4,.i 0)] ?_
    refine Goes.ret ?_
    obtain rfl:=si h
    exact(Goes.retW (xs:=[.gslice 0 l5.length 5,.i from__6,.i 0]) (by kernel_rfl) (FzW.tuple (qg.cons (FzW.fz (Fz.gs (E:=qa) rfl rfl (nl rfl))) (qg.cons (FzW.still tI) (qg.cons (FzW.still tI) qg.nil)))))
  ·try dsimp only at h
   obtain rfl:=si h
   exact hret
def jf (e:qb):Nat→Str→Int→Option Str
 |0,_,_=>none
 |K+1,s_4,i_5=>
  if i_5<(e.Names.length:Int)then
  (cat s_4 [32]).bind fun s9=>
  (idx e.Names i_5).bind fun x10=>
  (cat s9 x10).bind fun s11=>
  jf e K s11 (w64 (i_5+1))
  else
  some s_4
def jg (N:Nat) (e:qb):Nat→Str→Int→Option Str
 |0,_,_=>none
 |K+1,s_12,i_13=>
  if i_13<(e.Values.length:Int)then
  (cat s_12 [32]).bind fun s17=>
  (idx e.Values i_13).bind fun x18=>
  (vI N x18).bind fun r19=>
  (cat s17 r19).bind fun s20=>
  jg N e K s20 (w64 (i_13+1))
  else
  some s_12
def yT (N:Nat) (e:qb):Option Str:=
 (vI N e.Number).bind fun r1=>
 (cat r1 [32]).bind fun s2=>
 (cat s2 e.Kind).bind fun s3=>
 (jf e N s3 0).bind fun s_6=>
 (jg N e N s_6 0).bind fun s_14=>
 some s_14
theorem qbU (N:Nat) (e:qb) {res:Str} (h:yT N e=some res):qf Tryz.prog (.fn 66) [.agg (cE e)] [] (.str res) []:=by
 unfold yT at h
 refine Goes.fnW Tryz.func66 rfl rfl (m:=45) rfl (rs:=[.tmp 2]) rfl (l:=[(0,.agg (cE e))]) rfl ?_
 refine sg fol (kN []) (kW e) ?_
 refine sq ?_
 obtain⟨r1,e_r1,h⟩:=bnd h
 obtain⟨s2,e_s2,h⟩:=bnd h
 obtain⟨s3,e_s3,h⟩:=bnd h
 refine gr fol [2,3,6] (kN [(3,.str s3)]) (ac (cv (qaq N e.Number e_r1)) (ac (hs (.done (.opt (yG Tryz.prog .add 9 (.tmp 8) (.const (.string ⟨#[32]⟩)) (.str r1) (.str [32]))) (.str s2)) (jc e_s2)) (ac (hs (.done (.opt (yG Tryz.prog .add 9 (.tmp 9) (.tmp 11) (.str s2) (.str e.Kind))) (.str s3)) (jc e_s3)) az))) ?_
 refine sq ?_
 refine sh fol (kN [(3,.str s3),(4,.i 0)]) ?_
 refine Goes.block ?_
 obtain⟨r7,g7,h⟩:=bnd h
 refine Goes.imp (Q:=fun x s'=>(x= .exit 0∧ ∃s_6,s_6=r7∧Sub s' (ofG 45 (kN [(3,.str s_6)]),(kW e)))) ?_ ?_
 ·refine Goes.loopS (fun M s=> ∃(s_4:Str) (i_5:Int),s=(ofG 45 (kN (kAR s_4 i_5)),(kW e))∧jf e M s_4 i_5=some r7) ?_ (m:=N) ⟨_,_,rfl,g7⟩
  rintro M s ⟨s_4,i_5,rfl,g7⟩
  cases M with
  |zero=>simp only[jf]at g7;cases g7
  |succ M=>
   rw[jf]at g7
   refine sq ?_
   refine sh fol (kN [(3,.str s_4),(4,.i i_5),(17,.bool (decide (i_5<(e.Names.length:Int))))]) ?_
   refine ihD g7 (fun c8 g7=>?_) (fun c8 g7=>?_)
   ·refine Goes.skip ?_
    refine sq (Goes.block ?_)
    obtain⟨s9,e_s9,g7⟩:=bnd g7
    obtain⟨x10,e_x10,g7⟩:=bnd g7
    obtain⟨s11,e_s11,g7⟩:=bnd g7
    refine gr fol [1,5,6,7] (kN (kAR s11 i_5)) (ac (hs (.done (.opt (yG Tryz.prog .add 9 (.tmp 20) (.const (.string ⟨#[32]⟩)) (.str s_4) (.str [32]))) (.str s9)) (jc e_s9)) (ac (iv jQ encS e_x10) (ac (lv 0 ce9 encS e_x10 rfl) (ac (hs (.done (.opt (yG Tryz.prog .add 9 (.tmp 21) (.tmp 26) (.str s9) (.str x10))) (.str s11)) (jc e_s11)) az)))) ?_
    refine gh fol (kN (kAR s11 (w64 (i_5+1)))) ?_
    exact⟨M,(ofG 45 (kN (kAR s11 (w64 (i_5+1)))),(kW e)),Nat.lt_succ_self _,(Sub.refl _),_,_,rfl,g7⟩
   ·refine Goes.exit ?_
    obtain rfl:=si g7
    exact⟨rfl,_,rfl,(Sub.keep [1,3] rfl rfl)⟩
 rintro x s' ⟨rfl,s_6,rfl,hsub⟩
 refine Goes.sub hsub ?_
 refine sq ?_
 refine sh fol (kN [(3,.str s_6),(5,.i 0)]) ?_
 refine Goes.block ?_
 obtain⟨r15,g15,h⟩:=bnd h
 refine Goes.imp (Q:=fun x s'=>(x= .exit 2∧ ∃s_14,s_14=r15∧Sub s' (ofG 45 [(3,.str s_14)],[]))) ?_ ?_
 ·refine Goes.loopS (fun M s=> ∃(s_12:Str) (i_13:Int),s=(ofG 45 (kN [(3,.str s_12),(5,.i i_13)]),(kW e))∧jg N e M s_12 i_13=some r15) ?_ (m:=N) ⟨_,_,rfl,g15⟩
  rintro M s ⟨s_12,i_13,rfl,g15⟩
  cases M with
  |zero=>simp only[jg]at g15;cases g15
  |succ M=>
   rw[jg]at g15
   refine sq ?_
   refine sh fol (kN [(3,.str s_12),(5,.i i_13),(32,.bool (decide (i_13<(e.Values.length:Int))))]) ?_
   refine ihD g15 (fun c16 g15=>?_) (fun c16 g15=>?_)
   ·refine Goes.skip ?_
    refine sq (Goes.block ?_)
    obtain⟨s17,e_s17,g15⟩:=bnd g15
    obtain⟨x18,e_x18,g15⟩:=bnd g15
    obtain⟨r19,e_r19,g15⟩:=bnd g15
    obtain⟨s20,e_s20,g15⟩:=bnd g15
    refine gr fol [1,5,6,7,8] (kN [(3,.str s20),(5,.i i_13)]) (ac (hs (.done (.opt (yG Tryz.prog .add 9 (.tmp 35) (.const (.string ⟨#[32]⟩)) (.str s_12) (.str [32]))) (.str s17)) (jc e_s17)) (ac (iv qcx encI e_x18) (ac (lv 0 ce3 encI e_x18 rfl) (ac (cv (qaq N x18 e_r19)) (ac (hs (.done (.opt (yG Tryz.prog .add 9 (.tmp 36) (.tmp 42) (.str s17) (.str r19))) (.str s20)) (jc e_s20)) az))))) ?_
    refine gh fol (kN [(3,.str s20),(5,.i (w64 (i_13+1)))]) ?_
    exact⟨M,(ofG 45 (kN [(3,.str s20),(5,.i (w64 (i_13+1)))]),(kW e)),Nat.lt_succ_self _,(Sub.refl _),_,_,rfl,g15⟩
   ·refine Goes.exit ?_
    obtain rfl:=si g15
    exact⟨rfl,_,rfl,(Sub.norm [] [] rfl rfl (.drop (.keep (.same nS) .nil)) .nil)⟩
 rintro x s' ⟨rfl,s_14,rfl,hsub⟩
 refine Goes.sub hsub ?_
 refine sh fol [(2,.str s_14)] ?_
 refine Goes.ret ?_
 obtain rfl:=si h
 exact(Goes.retW (xs:=[.str s_14]) (by kernel_rfl) (FzW.still tS))
def jE (N:Nat) (l:List qb):Nat→Str→Int→Option Str
 |0,_,_=>none
 |K+1,s_1,i_2=>
  if i_2<(l.length:Int)then
  (idx l i_2).bind fun x6=>
  (yT N x6).bind fun r7=>
  (cat s_1 r7).bind fun s8=>
  (cat s8 [59]).bind fun s9=>
  (yT N x6).bind fun r10=>
  (xE N r10).bind fun r11=>
  (cat s9 r11).bind fun s12=>
  (cat s12 [10]).bind fun s13=>
  jE N l K s13 (w64 (i_2+1))
  else
  some s_1
def qaB (N:Nat) (l:List qb):Option Str:=
 (jE N l N [] 0).bind fun s_3=>
 some s_3
theorem qfJ (N:Nat) (l:List qb) {res:Str} (h:qaB N l=some res):qf Tryz.prog (.fn 45) [vl qa l] [] (.str res) []:=by
 unfold qaB at h
 refine Goes.fnW Tryz.func45 rfl rfl (m:=28) rfl (rs:=[.tmp 2]) rfl (l:=(kR l [])) rfl ?_
 refine sh fol (kR l []) ?_
 refine sh fol (kR l [(3,.str [])]) ?_
 refine sq ?_
 refine sh fol (kR l [(3,.str []),(4,.i 0)]) ?_
 refine Goes.block ?_
 obtain⟨r4,g4,h⟩:=bnd h
 refine Goes.imp (Q:=fun x s'=>(x= .exit 0∧ ∃s_3,s_3=r4∧Sub s' (ofG 28 [(3,.str s_3)],[]))) ?_ ?_
 ·refine Goes.loopS (fun M s=> ∃(s_1:Str) (i_2:Int),s=(ofG 28 (kR l (kAR s_1 i_2)),[])∧jE N l M s_1 i_2=some r4) ?_ (m:=N) ⟨_,_,rfl,g4⟩
  rintro M s ⟨s_1,i_2,rfl,g4⟩
  cases M with
  |zero=>simp only[jE]at g4;cases g4
  |succ M=>
   rw[jE]at g4
   refine sq ?_
   refine sh fol (kR l [(3,.str s_1),(4,.i i_2),(8,.bool (decide (i_2<(l.length:Int))))]) ?_
   refine ihD g4 (fun c5 g4=>?_) (fun c5 g4=>?_)
   ·refine Goes.skip ?_
    refine sq (Goes.block ?_)
    obtain⟨x6,e_x6,g4⟩:=bnd g4
    obtain⟨r7,e_r7,g4⟩:=bnd g4
    obtain⟨s8,e_s8,g4⟩:=bnd g4
    obtain⟨s9,e_s9,g4⟩:=bnd g4
    obtain⟨r10,e_r10,g4⟩:=bnd g4
    obtain⟨r11,e_r11,g4⟩:=bnd g4
    obtain⟨s12,e_s12,g4⟩:=bnd g4
    obtain⟨s13,e_s13,g4⟩:=bnd g4
    refine gr fol [3,4,5,6,7,10,11,12,13,14,15] (kR l (kAR s13 i_2)) (ac (iv jd qa e_x6) (ac (la ag26 qa e_x6) (ac (cv (qbU N x6 e_r7)) (ac (hs (.done (.opt (yG Tryz.prog .add 9 (.tmp 11) (.tmp 16) (.str s_1) (.str r7))) (.str s8)) (jc e_s8)) (ac (hs (.done (.opt (yG Tryz.prog .add 9 (.tmp 17) (.const (.string ⟨#[59]⟩)) (.str s8) (.str [59]))) (.str s9)) (jc e_s9)) (ac (iv jd qa e_x6) (ac (la ag26 qa e_x6) (ac (cv (qbU N x6 e_r10)) (ac (cv (qcy N r10 e_r11)) (ac (hs (.done (.opt (yG Tryz.prog .add 9 (.tmp 18) (.tmp 24) (.str s9) (.str r11))) (.str s12)) (jc e_s12)) (ac (hs (.done (.opt (yG Tryz.prog .add 9 (.tmp 25) (.const (.string ⟨#[10]⟩)) (.str s12) (.str [10]))) (.str s13)) (jc e_s13)) az))))))))))) ?_
    refine gh fol (kR l (kAR s13 (w64 (i_2+1)))) ?_
    exact⟨M,(ofG 28 (kR l (kAR s13 (w64 (i_2+1)))),[]),Nat.lt_succ_self _,(Sub.refl _),_,_,rfl,g4⟩
   ·refine Goes.exit ?_
    obtain rfl:=si g4
    exact⟨rfl,_,rfl,(Sub.keep [3] rfl rfl)⟩
 rintro x s' ⟨rfl,s_3,rfl,hsub⟩
 refine Goes.sub hsub ?_
 refine sh fol [(2,.str s_3)] ?_
 refine Goes.ret ?_
 obtain rfl:=si h
 exact(Goes.retW (xs:=[.str s_3]) (by kernel_rfl) (FzW.still tS))
def ky (a:List Int) (b:List Int):Nat→Int→Option (Unit⊕Bool)
 |0,_=>none
 |K+1,i_2=>
  if i_2<(a.length:Int)then
  (idx a i_2).bind fun x6=>
  (idx b i_2).bind fun x7=>
  if(!decide (x6=x7))=true then
  some (.inr false)
  else
  ky a b K (w64 (i_2+1))
  else
  some (.inl ())
def vK (N:Nat) (a:List Int) (b:List Int):Option Bool:=
 if(!decide ((a.length:Int)=(b.length:Int)))=true then
 some false
 else
 (ky a b N 0).bind (fun
 |(.inl ())=>
 some true
 |(.inr q9)=>
 some q9)
theorem qaf (N:Nat) (a:List Int) (b:List Int) {res:Bool} (h:vK N a b=some res):qf Tryz.prog (.fn 35) [vl encI a,vl encI b] [] (.bool res) []:=by
 unfold vK at h
 refine Goes.fnW Tryz.func35 rfl rfl (m:=26) rfl (rs:=[.tmp 4]) rfl (l:=(kAc a b [])) rfl ?_
 refine sh fol (kAc a b []) ?_
 refine sq ?_
 refine sh fol (kAc a b [(10,.bool (!decide ((a.length:Int)=(b.length:Int))))]) ?_
 refine ihB h (fun c1 h=>?_) (fun c1 h=>?_)
 ·refine sh fol kAG ?_
  refine Goes.ret ?_
  obtain rfl:=si h
  exact(Goes.retW (xs:=[.bool false]) (by kernel_rfl) (FzW.still tB))
 ·refine Goes.skip ?_
  refine sq ?_
  refine sh fol (kAc a b [(5,.i 0)]) ?_
  refine Goes.block ?_
  obtain⟨r3,g3,h⟩:=bnd h
  refine Goes.imp (Q:=fun x s'=>(x= .exit 0∧(.inl ())=r3∧Sub s' (ofG 26 [],[]))∨(x= .ret∧ ∃q4,(.inr q4)=r3∧ku Tryz.prog [.tmp 4] (.bool q4) .ret s')) ?_ ?_
  ·refine Goes.loopS (fun M s=> ∃(i_2:Int),s=(ofG 26 (kAc a b [(5,.i i_2)]),[])∧ky a b M i_2=some r3) ?_ (m:=N) ⟨_,rfl,g3⟩
   rintro M s ⟨i_2,rfl,g3⟩
   cases M with
   |zero=>simp only[ky]at g3;cases g3
   |succ M=>
    rw[ky]at g3
    refine sq ?_
    refine sh fol (kAc a b [(5,.i i_2),(14,.bool (decide (i_2<(a.length:Int))))]) ?_
    refine ihD g3 (fun c5 g3=>?_) (fun c5 g3=>?_)
    ·refine Goes.skip ?_
     refine sq (Goes.block ?_)
     refine sq ?_
     obtain⟨x6,e_x6,g3⟩:=bnd g3
     obtain⟨x7,e_x7,g3⟩:=bnd g3
     refine gr fol [2,3,6,7] (kAc a b [(5,.i i_2),(25,.bool (!decide (x6=x7)))]) (ac (iv qcx encI e_x6) (ac (lv 0 ce3 encI e_x6 rfl) (ac (iv qcx encI e_x7) (ac (lv 0 ce3 encI e_x7 rfl) az)))) ?_
     refine ihB g3 (fun c8 g3=>?_) (fun c8 g3=>?_)
     ·refine sh fol kAG ?_
      refine Goes.ret ?_
      obtain rfl:=si g3
      exact Or.inr (⟨rfl,_,rfl,(Goes.retW (xs:=[.bool false]) (by kernel_rfl) (FzW.still tB))⟩)
     ·refine Goes.skip ?_
      refine gh fol (kAc a b [(5,.i (w64 (i_2+1)))]) ?_
      exact⟨M,(ofG 26 (kAc a b [(5,.i (w64 (i_2+1)))]),[]),Nat.lt_succ_self _,(Sub.refl _),_,rfl,g3⟩
    ·refine Goes.exit ?_
     obtain rfl:=si g3
     exact Or.inl (⟨rfl,rfl,(Sub.keep [] rfl rfl)⟩)
  rintro x s' (⟨rfl,rfl,hsub⟩|⟨rfl,q9,rfl,hret⟩)
  ·try dsimp only at h
   refine Goes.sub hsub ?_
   refine sh fol kAO ?_
   refine Goes.ret ?_
   obtain rfl:=si h
   exact(Goes.retW (xs:=[.bool true]) (by kernel_rfl) (FzW.still tB))
  ·try dsimp only at h
   obtain rfl:=si h
   exact hret
end Go.Av
