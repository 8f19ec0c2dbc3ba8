/-
  Walks of functions: what each computes, as a plain function.
-/
import Derived.Test.YtjflombnfhlkaaaGreatDoorQGenT1
noncomputable section
namespace Go.Av
open Go.Proofs Go.RowKit
set_option linter.unusedSectionVars false
set_option linter.unusedVariables false
set_option linter.unusedSimpArgs false
set_option maxRecDepth 100000
def jW (N:Nat) (a0_:List qb) (a1_:Option (List StateT)) (a2_:Int) (a3_:Str) (a4_:List Str) (a5_:List Int) (a6_:Str):Option ((List qb)×(Option (List StateT))×Int):=
 if(!decide (a2_=(w64 ((a0_.length:Int)+1))))=true then
 some (a0_,a1_,11)
 else
 if(a3_==[117,110,100,111])=true then
 ((match a1_ with
 |none=>
 some ((none:Option (List StateT)),decide (0=0))
 |some l6=>
 some ((some l6),decide ((l6.length:Int)=0))):Option ((Option (List StateT))×Bool)).bind fun(o7,b8)=>
 if b8=true then
 some (a0_,o7,12)
 else
 ((match o7 with
 |none=>
 (cut ([]:List StateT) 0 (w64 (0-1))).bind fun s12=>
 some (none:Option (List StateT))
 |some l11=>
 (cut l11 0 (w64 ((l11.length:Int)-1))).bind fun l13=>
 some (some l13)):Option (Option (List StateT))).bind fun o14=>
 (ja (⟨a2_,a3_,a4_,a5_,a6_⟩:qb)).bind fun r16=>
 (app 88 a0_ [r16]).bind fun l17=>
 some (l17,o14,0)
 else
 (qy a0_ a1_).bind fun(o19,n20,l21)=>
 (qC N n20 l21 a2_ a3_ a4_ a5_ a6_).bind fun(n23,l24,n25)=>
 if(!decide (n25=0))=true then
 some (a0_,o19,n25)
 else
 ((match o19 with
 |none=>
 some ([(⟨a2_,(⟨n23,l24⟩:jO)⟩:StateT)]:List StateT)
 |some l27=>
 (app 40 l27 [(⟨a2_,(⟨n23,l24⟩:jO)⟩:StateT)]).bind fun l28=>
 some l28):Option (List StateT)).bind fun l29=>
 (ja (⟨a2_,a3_,a4_,a5_,a6_⟩:qb)).bind fun r31=>
 (app 88 a0_ [r31]).bind fun l32=>
 some (l32,(some l29),0)
theorem qck (N:Nat) (a0_:List qb) (a1_:Option (List StateT)) (a2_:Int) (a3_:Str) (a4_:List Str) (a5_:List Int) (a6_:Str) {l1:List qb} {o2:Option (List StateT)} {n3:Int} (h:jW N a0_ a1_ a2_ a3_ a4_ a5_ a6_=some (l1,o2,n3)):qg Tryz.prog (.fn 91) [.ptr 0 0,.agg (cF a2_ a3_ a4_ a5_ a6_)] (kA a0_ a1_ []) (.i n3) (kT l1 o2 (kBN (kB l1 o2 []))):=by
 unfold jW at h
 refine Goes.fnH Tryz.func91 rfl rfl (m:=73) rfl (rs:=[.tmp 4]) rfl (l:=(kAK [(1,.agg (cF a2_ a3_ a4_ a5_ a6_))])) rfl ?_
 intro B hB
 refine sg fol (kAK (kBj [])) (kA a0_ a1_ (kBb a2_ a3_ a4_ a5_ a6_ [])) ?_
 refine sq ?_
 refine sh fol (kAK (kBj [(15,.bool (!decide (a2_=(w64 ((a0_.length:Int)+1)))))])) ?_
 refine ihB h (fun c4 h=>?_) (fun c4 h=>?_)
 ·refine sh fol [(4,.i 11)] ?_
  refine Goes.ret ?_
  simp only[Option.some.injEq,Prod.mk.injEq]at h
  obtain⟨rfl,rfl,rfl⟩:=h
  exact(gh2 [.i 11] (Sub.norm [] [some 0,some 1,some 2,some 1,some 2] (by rw[hB];rfl) rfl (.keep (.same nI) .nil) (.kb rfl (.cells (rc (.gslice rfl) (rc (.hs rfl) rn))) (.lost (.lost (.ks (.ks .nil)))))))
 ·refine Goes.skip ?_
  refine sq ?_
  refine sh fol (kAK (kBj [(18,.bool (a3_==[117,110,100,111]))])) ?_
  refine ihB h (fun c5 h=>?_) (fun c5 h=>?_)
  ·refine sq ?_
   refine sq ?_
   obtain⟨⟨o7,b8⟩,g_v9,h⟩:=bnd h
   refine Goes.cutS (s':=(ofG 73 (kAK (kBj [(24,.bool b8)])),(kA a0_ o7 (kBb a2_ a3_ a4_ a5_ a6_ [])))) ?_ ?_
   ·rcases a1_ with _|l6
    ·try dsimp only at g_v9
     simp only[Option.some.injEq,Prod.mk.injEq]at g_v9
     obtain⟨rfl,rfl⟩:=g_v9
     exact qj.sub (qj.rg fol (kAK (kBj [(24,.bool (decide (0=0)))])) (kB2 a0_ (kJ a0_ (.cells ((hof (none:Option (List StateT))).flatMap jm.c)::(kBb a2_ a3_ a4_ a5_ a6_ []))))) (Sub.norm [] [some 0,some 1,some 2,some 3] (by rw[hB];rfl) rfl (.kp (.kp (.keep (.same nB) .nil))) (.kb rfl (.cells (rc (.gslice rfl) (rc .hs0 rn))) (.ks (.ks (.kb rfl (.same sn) .nil)))))
    ·try dsimp only at g_v9
     simp only[Option.some.injEq,Prod.mk.injEq]at g_v9
     obtain⟨rfl,rfl⟩:=g_v9
     exact qj.sub (qj.rg fol (kAK (kBj [(24,.bool (decide ((l6.length:Int)=0)))])) (kAP a0_ l6 (kJ a0_ (kAW l6 (kBb a2_ a3_ a4_ a5_ a6_ []))))) (Sub.norm [] [some 0,some 1,some 2,some 3] (by rw[hB];rfl) rfl (.kp (.kp (.keep (.same nB) .nil))) (.kb rfl (.cells (rc (.gslice rfl) (rc ((qX.hs1 rfl)) rn))) (.ks (.ks (.kb rfl (.same sn) .nil)))))
   intro _ hsub
   try dsimp only at h
   refine Goes.sub hsub ?_
   refine ihB h (fun c10 h=>?_) (fun c10 h=>?_)
   ·refine sh fol [(4,.i 12)] ?_
    refine Goes.ret ?_
    simp only[Option.some.injEq,Prod.mk.injEq]at h
    obtain⟨rfl,rfl,rfl⟩:=h
    exact(gh2 [.i 12] (Sub.norm [] [some 0,some 1,some 2,some 1,some 2] (by rw[hB];rfl) rfl (.keep (.same nI) .nil) (.kb rfl (.cells (rc (.gslice rfl) (rc (.hs rfl) rn))) (.lost (.lost (.ks (.ks .nil)))))))
   ·refine Goes.skip ?_
    obtain⟨o14,g_v15,h⟩:=bnd h
    refine Goes.cutS (s':=(ofG 73 (kAK (kBj [])),(kA a0_ o14 (kBb a2_ a3_ a4_ a5_ a6_ [])))) ?_ ?_
    ·rcases o7 with _|l11
     ·try dsimp only at g_v15
      obtain⟨s12,e_s12,g_v15⟩:=bnd g_v15
      obtain rfl:=si g_v15
      exact qj.sub (qj.rq fol [11] (kAK (kBj [])) (kB2 a0_ (kJ a0_ (.cells ((hof (none:Option (List StateT))).flatMap jm.c)::(kBb a2_ a3_ a4_ a5_ a6_ [])))) (ac (hs (.done (.opt (qx Tryz.prog 163 .nilslice none (some (.i (w64 (0-1)))) none)) .nilslice) (qnE (α:=StateT) qlM none (some (w64 (0-1))) e_s12)) az)) (Sub.norm [] [some 0,some 1,some 2,some 3] (by rw[hB];rfl) rfl (.kp (.kp .nil)) (.kb rfl (.cells (rc (.gslice rfl) (rc .hs0 rn))) (.ks (.ks (.kb rfl (.same sn) .nil)))))
     ·try dsimp only at g_v15
      obtain⟨l13,e_l13,g_v15⟩:=bnd g_v15
      obtain rfl:=si g_v15
      exact qj.sub (qj.rq fol [11] (kAK (kBj [])) (kAP a0_ l13 (kJ a0_ (kAW l11 (kBb a2_ a3_ a4_ a5_ a6_ [])))) (ac (hs (.done (.opt (qx Tryz.prog 163 (.oslice 2 l11.length 3) none (some (.i (w64 ((l11.length:Int)-1)))) none)) (.oslice 2 l13.length 3)) (qpi qlM e_l13)) az)) ((show Sub (ofG 73 (kAK (kBj [])),(kAP a0_ l13 (kJ a0_ (kAW l11 (kBb a2_ a3_ a4_ a5_ a6_ []))))) (ofG 73 (kAK (kBj [])),(kAP a0_ l13 (kJ a0_ (kAW l13 (kBb a2_ a3_ a4_ a5_ a6_ [])))))from(Sub.norm [] [some 0,some 1,some 2,some 3] (by rw[hB];rfl) rfl (.kp (.kp .nil)) (.kb rfl (.cells (rc (.gslice rfl) (rc (.oslice rfl) rn))) (.ks (.kb rfl (qbD.cut e_l13) (.kb rfl (.same sn) .nil)))))).trans (Sub.norm [] [some 0,some 1,some 2,some 3] (by rw[hB];rfl) rfl (.kp (.kp .nil)) (.kb rfl (.cells (rc (.gslice rfl) (rc ((qX.hs1 rfl)) rn))) (.ks (.ks (.kb rfl (.same sn) .nil))))))
    intro _ hsub
    refine Goes.sub hsub ?_
    obtain⟨r16,e_r16,h⟩:=bnd h
    obtain⟨l17,e_l17,h⟩:=bnd h
    refine sq (gq fol [6,8] [] (.cells [.gslice 5 l17.length 5,hsl 2 3 o14]:: .dead:: .cells ((hof o14).flatMap jm.c)::(kBb a2_ a3_ a4_ a5_ a6_ (kW r16 (kJ l17 [])))) (ac (cv (xU (⟨a2_,a3_,a4_,a5_,a6_⟩:qb) e_r16)) (ac (hs (.run [1,4] (qP Tryz.prog [22,22] (.gslice 1 a0_.length 5) (.slice 4 0 1 1 5)) (kA a0_ o14 (kBb a2_ a3_ a4_ a5_ a6_ (kW r16 []))) (.gslice 5 l17.length 5) (.cells [.gslice 1 a0_.length 5,hsl 2 3 o14]:: .dead:: .cells ((hof o14).flatMap jm.c)::(kBb a2_ a3_ a4_ a5_ a6_ (kW r16 (kJ l17 [])))) true) (jH zV (E:=qa) rfl (qa8 (E:=qa) (ys:=[r16]) rfl rfl rfl rfl) (qeO (E:=qa) (l:=a0_) rfl rfl rfl e_l17 rfl))) az)) ?_)
    refine sh fol kBu ?_
    refine Goes.ret ?_
    simp only[Option.some.injEq,Prod.mk.injEq]at h
    obtain⟨rfl,rfl,rfl⟩:=h
    exact(gh2 [.i 0] (Sub.norm [] [some 0,some 1,some 2,some 5,some 2] (by rw[hB];rfl) rfl (.keep (.same nI) .nil) (.kb rfl (.cells (rc (.gslice rfl) (rc (.hs rfl) rn))) (.lost (.lost (.ks (.ks .nil)))))))
  ·obtain⟨⟨o19,n20,l21⟩,e_r18,h⟩:=bnd h
   try dsimp only at h
   obtain⟨⟨n23,l24,n25⟩,e_r22,h⟩:=bnd h
   try dsimp only at h
   refine sq (gq fol [1,3] (kAK (kBj [(5,.ptr 4 0),(6,.i n25)])) (kA a0_ o19 (kBb a2_ a3_ a4_ a5_ a6_ (kG n23 l24 []))) (ac (hs (.callH 81 [.ptr 0 0] (kA a0_ a1_ (kBb a2_ a3_ a4_ a5_ a6_ [])) [0,1,2] (.agg (kAr n20 l21)) (kA a0_ o19 (kBb a2_ a3_ a4_ a5_ a6_ []))) (kg [some 0,some 1,some 2] [some 0,some 1,some 2,none] (zR a0_ a1_ e_r18) (.kb rfl (.cells (rc (.gslice rfl) (rc (.hs rfl) rn))) (.ks (.ks .nil))) rfl rfl (.back rfl rfl (.cells (rc (.gslice rfl) (rc (.hs rfl) rn))) rfl (.back rfl rfl (.same fa) rfl (.back rfl rfl (.same fa) rfl (.old rfl rfl .nil)))) (rc (.ptr rfl) rn) (.same (ql.agg sn)) rfl)) (ac (hs (.callH 147 (kAh n20 l21 [.agg (cF a2_ a3_ a4_ a5_ a6_)]) (kA a0_ o19 (kBb a2_ a3_ a4_ a5_ a6_ [])) [] (.tuple (kAh n23 l24 [.i n25])) (kA a0_ o19 (kBb a2_ a3_ a4_ a5_ a6_ []))) (kg [] [none,none,none,none] (qbR N n20 l21 a2_ a3_ a4_ a5_ a6_ e_r22) .nil rfl rfl (.old rfl rfl (.old rfl rfl (.old rfl rfl (.old rfl rfl .nil)))) (rc (.same (ql.agg sn)) (rc (.same (ql.agg sn)) rn)) (.same (ql.tuple sn)) rfl)) az)) ?_)
   refine sq ?_
   refine sh fol (kAK (kBj [(5,.ptr 4 0),(6,.i n25),(47,.bool (!decide (n25=0)))])) ?_
   refine ihB h (fun c26 h=>?_) (fun c26 h=>?_)
   ·refine sh fol (kBG n25) ?_
    refine Goes.ret ?_
    simp only[Option.some.injEq,Prod.mk.injEq]at h
    obtain⟨rfl,rfl,rfl⟩:=h
    exact(gh2 [.i n25] (Sub.norm [] [some 0,some 1,some 2,some 1,some 2] (by rw[hB];rfl) rfl (.keep (.same nI) .nil) (.kb rfl (.cells (rc (.gslice rfl) (rc (.hs rfl) rn))) (.lost (.lost (.ks (.ks .nil)))))))
   ·refine Goes.skip ?_
    obtain⟨l29,g_v30,h⟩:=bnd h
    refine Goes.cutS (s':=(ofG 73 (kAK [(3,.ptr 4 0)]),(.cells [.gslice 1 a0_.length 5,.oslice 3 l29.length 3]::(kJ a0_ (.dead::(kAW l29 (kBb a2_ a3_ a4_ a5_ a6_ []))))))) ?_ ?_
    ·rcases o19 with _|l27
     ·try dsimp only at g_v30
      obtain rfl:=si g_v30
      exact qj.sub (qj.rg fol (kAK (kBj [])) (.cells [.gslice 1 a0_.length 5,.oslice 6 1 3]::(kJ a0_ (.cells ((hof (none:Option (List StateT))).flatMap jm.c)::(kBb a2_ a3_ a4_ a5_ a6_ (kG n23 l24 [.cells [.i a2_,.i n23,vl qd l24],.cells [.i a2_,.i n23,vl qd l24]])))))) (Sub.norm [] [some 0,some 1,some 2,some 6,some 3] (by rw[hB];rfl) rfl (.kp (.kp .nil)) (.kb rfl (.cells (rc (.gslice rfl) (rc ((qX.osliceE rfl rfl)) rn))) (.ks (.lost (.ks (.kb rfl (.same sn) .nil))))))
     ·try dsimp only at g_v30
      obtain⟨l28,e_l28,g_v30⟩:=bnd g_v30
      obtain rfl:=si g_v30
      exact qj.sub (qj.rq fol [10] (kAK (kBj [])) (.cells [.gslice 1 a0_.length 5,.oslice 6 l28.length 3]::(kJ a0_ (.dead::(kBb a2_ a3_ a4_ a5_ a6_ (kG n23 l24 (.cells [.i a2_,.i n23,vl qd l24]::(kAW l28 []))))))) (ac (hs (.run [2,5] (qP Tryz.prog [163,163] (.oslice 2 l27.length 3) (.slice 5 0 1 1 3)) (kAP a0_ l27 (kJ a0_ (kAW l27 (kBb a2_ a3_ a4_ a5_ a6_ (kG n23 l24 [.cells [.i a2_,.i n23,vl qd l24]]))))) (.oslice 6 l28.length 3) (kAP a0_ l27 (kJ a0_ (.dead::(kBb a2_ a3_ a4_ a5_ a6_ (kG n23 l24 (.cells [.i a2_,.i n23,vl qd l24]::(kAW l28 []))))))) true) (jH qlM (E:=jm) rfl (qa8 (E:=jm) (ys:=[(⟨a2_,(⟨n23,l24⟩:jO)⟩:StateT)]) rfl rfl rfl rfl) (qgh (E:=jm) (l:=l27) rfl rfl rfl e_l28 rfl))) az)) (Sub.norm [] [some 0,some 1,some 2,some 6,some 3] (by rw[hB];rfl) rfl (.kp (.kp .nil)) (.kb rfl (.cells (rc (.gslice rfl) (rc (.oslice rfl) rn))) (.ks (.lost (.ks (.kb rfl (.same sn) .nil))))))
    intro _ hsub
    refine Goes.sub hsub ?_
    obtain⟨r31,e_r31,h⟩:=bnd h
    obtain⟨l32,e_l32,h⟩:=bnd h
    refine sq (gq fol [6,8] [] (.cells [.gslice 6 l32.length 5,.oslice 3 l29.length 3]::(kBN (kAW l29 (kBb a2_ a3_ a4_ a5_ a6_ (kW r31 (kJ l32 [])))))) (ac (cv (xU (⟨a2_,a3_,a4_,a5_,a6_⟩:qb) e_r31)) (ac (hs (.run [1,5] (qP Tryz.prog [22,22] (.gslice 1 a0_.length 5) (.slice 5 0 1 1 5)) (.cells [.gslice 1 a0_.length 5,.oslice 3 l29.length 3]::(kJ a0_ (.dead::(kAW l29 (kBb a2_ a3_ a4_ a5_ a6_ (kW r31 [])))))) (.gslice 6 l32.length 5) (.cells [.gslice 1 a0_.length 5,.oslice 3 l29.length 3]::(kBN (kAW l29 (kBb a2_ a3_ a4_ a5_ a6_ (kW r31 (kJ l32 [])))))) true) (jH zV (E:=qa) rfl (qa8 (E:=qa) (ys:=[r31]) rfl rfl rfl rfl) (qeO (E:=qa) (l:=a0_) rfl rfl rfl e_l32 rfl))) az)) ?_)
    refine sh fol kBu ?_
    refine Goes.ret ?_
    simp only[Option.some.injEq,Prod.mk.injEq]at h
    obtain⟨rfl,rfl,rfl⟩:=h
    exact(gh2 [.i 0] (Sub.norm [] [some 0,some 1,some 2,some 6,some 3] (by rw[hB];rfl) rfl (.keep (.same nI) .nil) (.kb rfl (.cells (rc (.gslice rfl) (rc ((qX.hs1 rfl)) rn))) (.lost (.lost (.ks (.ks .nil)))))))
def zn (N:Nat) (a0_:List qb) (a1_:Option (List StateT)) (a2_:Int) (a3_:Str) (a4_:List Str) (a5_:List Int) (a6_:Str):Option ((List qb)×(Option (List StateT))×Int):=
 (jS N (⟨a2_,a3_,a4_,a5_,a6_⟩:qb)).bind fun r4=>
 if(!decide (r4=0))=true then
 some (a0_,a1_,r4)
 else
 (jW N a0_ a1_ a2_ a3_ a4_ a5_ a6_).bind fun(l7,o8,n9)=>
 some (l7,o8,n9)
theorem qa3 (N:Nat) (a0_:List qb) (a1_:Option (List StateT)) (a2_:Int) (a3_:Str) (a4_:List Str) (a5_:List Int) (a6_:Str) {l1:List qb} {o2:Option (List StateT)} {n3:Int} (h:zn N a0_ a1_ a2_ a3_ a4_ a5_ a6_=some (l1,o2,n3)):qg Tryz.prog (.fn 128) [.ptr 0 0,.agg (cF a2_ a3_ a4_ a5_ a6_)] (kA a0_ a1_ []) (.i n3) (kT l1 o2 (kBN (kB l1 o2 []))):=by
 unfold zn at h
 refine Goes.fnH Tryz.func128 rfl rfl (m:=14) rfl (rs:=[.tmp 4]) rfl (l:=(kAK [(1,.agg (cF a2_ a3_ a4_ a5_ a6_))])) rfl ?_
 intro B hB
 refine sg fol (kAK (kBj [])) (kA a0_ a1_ (kBb a2_ a3_ a4_ a5_ a6_ [])) ?_
 refine sq ?_
 obtain⟨r4,e_r4,h⟩:=bnd h
 refine sq (gr fol [1] (kAK (kBj (kAs r4))) (ac (cv (qao N (⟨a2_,a3_,a4_,a5_,a6_⟩:qb) e_r4)) az) ?_)
 refine sh fol (kAK (kBj [(5,.i r4),(9,.bool (!decide (r4=0)))])) ?_
 refine ihB h (fun c5 h=>?_) (fun c5 h=>?_)
 ·refine sh fol (kBG r4) ?_
  refine Goes.ret ?_
  simp only[Option.some.injEq,Prod.mk.injEq]at h
  obtain⟨rfl,rfl,rfl⟩:=h
  exact(gh2 [.i r4] (Sub.norm [] [some 0,some 1,some 2,some 1,some 2] (by rw[hB];rfl) rfl (.keep (.same nI) .nil) (.kb rfl (.cells (rc (.gslice rfl) (rc (.hs rfl) rn))) (.lost (.lost (.ks (.ks .nil)))))))
 ·refine Goes.skip ?_
  obtain⟨⟨l7,o8,n9⟩,e_r6,h⟩:=bnd h
  try dsimp only at h
  refine sq (gq fol [2] (kBG n9) (kAn l7 o8 (kBb a2_ a3_ a4_ a5_ a6_ (kB l7 o8 []))) (ac (hs (.callH 91 [.ptr 0 0,.agg (cF a2_ a3_ a4_ a5_ a6_)] (kA a0_ a1_ (kBb a2_ a3_ a4_ a5_ a6_ [])) [0,1,2] (.i n9) (kAn l7 o8 (kBb a2_ a3_ a4_ a5_ a6_ (kB l7 o8 [])))) (kg [some 0,some 1,some 2] [some 0,none,none,none,some 3,some 4] (qck N a0_ a1_ a2_ a3_ a4_ a5_ a6_ e_r6) (.kb rfl (.cells (rc (.gslice rfl) (rc (.hs rfl) rn))) (.ks (.ks .nil))) rfl rfl (.back rfl rfl (.cells (rc (.gslice rfl) (rc (.hs rfl) rn))) rfl (.dead (.dead (.old rfl rfl (.new rfl rfl (.same fa) rfl (.new rfl rfl (.same fa) rfl .nil)))))) (rc (.ptr rfl) (rc (.same (ql.agg sn)) rn)) (.same nI) rfl)) az) ?_)
  refine Goes.ret ?_
  simp only[Option.some.injEq,Prod.mk.injEq]at h
  obtain⟨rfl,rfl,rfl⟩:=h
  exact(gh2 [.i n9] (Sub.norm [] [some 0,some 1,some 2,some 4,some 5] (by rw[hB];rfl) rfl (.keep (.same nI) .nil) (.kb rfl (.cells (rc (.gslice rfl) (rc (.hs rfl) rn))) (.lost (.lost (.ks (.ks .nil)))))))
def kz (N:Nat) (a0_:List qb):Nat→(List qb)→(Option (List StateT))→Int→Option (((List qb)×(Option (List StateT)))⊕((List qb)×(Option (List StateT))×Bool×Int×Int))
 |0,_,_,_=>none
 |K+1,l7,o8,n9=>
  if n9<(a0_.length:Int)then
  (idx a0_ n9).bind fun x15=>
  (zn N l7 o8 x15.Number x15.Kind x15.Names x15.Values x15.Text).bind fun(l17,o18,n19)=>
  if(!decide (n19=0))=true then
  some (.inr (([]:List qb),(none:Option (List StateT)),false,w64 (n9+1),n19))
  else
  kz N a0_ K l17 o18 (w64 (n9+1))
  else
  some (.inl (l7,o8))
def vC (N:Nat) (a0_:List qb):Option ((List qb)×(Option (List StateT))×Bool×Int×Int):=
 if(a0_.length:Int)>1000 then
 some (([]:List qb),(none:Option (List StateT)),false,0,5)
 else
 (kz N a0_ N ([]:List qb) (none:Option (List StateT)) 0).bind (fun
 |(.inl (l10,o11))=>
 some (l10,o11,true,0,0)
 |(.inr q21)=>
 some q21)
theorem qbH (N:Nat) (a0_:List qb) {l1:List qb} {o2:Option (List StateT)} {ok3:Bool} {n4:Int} {n5:Int} (h:vC N a0_=some (l1,o2,ok3,n4,n5)):qg Tryz.prog (.fn 80) [vl qa a0_] [] (.tuple [pz ok3 0 0,.i n4,.i n5]) (kA l1 o2 []):=by
 unfold vC at h
 refine Goes.fnH Tryz.func80 rfl rfl (m:=31) rfl (rs:=[.tmp 2,.tmp 3,.tmp 4]) rfl (l:=(kP a0_ [])) rfl ?_
 intro B hB
 refine sh fol (kP a0_ []) ?_
 refine sq ?_
 refine sh fol (kP a0_ [(11,.bool (decide ((a0_.length:Int)>1000)))]) ?_
 refine ihD h (fun c6 h=>?_) (fun c6 h=>?_)
 ·refine sh fol [(2,.nilptr),(3,.i 0),(4,.i 5)] ?_
  refine Goes.ret ?_
  simp only[Option.some.injEq,Prod.mk.injEq]at h
  obtain⟨rfl,rfl,rfl,rfl,rfl⟩:=h
  exact(gh2 [.nilptr,.i 0,.i 5] (Sub.norm [] [none,none,none] (by rw[hB];rfl) rfl (.keep (.tupleL (rc (qX.pz0) (rc (.same nI) (rc (.same nI) rn)))) .nil) (.fresh (.fresh (.fresh .nil)))))
 ·refine Goes.skip ?_
  refine sg fol (kP a0_ [(5,.ptr 0 0)]) [.cells [.nilslice,.nilslice]] ?_
  refine sq ?_
  refine sh fol (kBA a0_ (a0_.length:Int) [(16,.i 0)]) ?_
  refine Goes.block ?_
  obtain⟨r12,g12,h⟩:=bnd h
  refine Goes.imp (Q:=fun x s'=>(x= .exit 0∧ ∃l10 o11,(.inl (l10,o11))=r12∧Sub s' (ofG 31 [(5,.ptr 0 0)],(kA l10 o11 [])))∨(x= .ret∧ ∃q13,(.inr q13)=r12∧qcQ Tryz.prog [.tmp 2,.tmp 3,.tmp 4] (.tuple [pz q13.2.2.1 0 0,.i q13.2.2.2.1,.i q13.2.2.2.2]) (kA q13.1 q13.2.1 []) .ret s')) ?_ ?_
  ·refine Goes.sub (s':=(ofG 31 (kBA a0_ (a0_.length:Int) [(16,.i 0)]),[.cells [.gslice 1 ([]:List qb).length 5,hsl 2 3 (none:Option (List StateT))],.cells (([]:List qb).flatMap qa.c),.cells ((hof (none:Option (List StateT))).flatMap jm.c)])) (Sub.norm [] [some 0,none,none] (by rw[hB];rfl) rfl (.kp (.keep (.same (qm qa _)) (.keep (.same nI) (.keep (.same nI) .nil)))) (.kb rfl (.cells (rc (.nil) (rc .hs0 rn))) (.fresh (.fresh .nil)))) ?_
   refine Goes.loopS (fun M s=> ∃(l7:List qb) (o8:Option (List StateT)) (n9:Int),s=(ofG 31 (kBA a0_ (a0_.length:Int) [(16,.i n9)]),(kA l7 o8 []))∧kz N a0_ M l7 o8 n9=some r12) ?_ (m:=N) ⟨_,_,_,rfl,g12⟩
   rintro M s ⟨l7,o8,n9,rfl,g12⟩
   cases M with
   |zero=>simp only[kz]at g12;cases g12
   |succ M=>
    rw[kz]at g12
    refine sh fol (kBA a0_ (a0_.length:Int) [(16,.i n9),(17,.bool (decide (n9<(a0_.length:Int))))]) ?_
    refine sq ?_
    refine ihD g12 (fun c14 g12=>?_) (fun c14 g12=>?_)
    ·refine Goes.skip ?_
     refine sq (Goes.block ?_)
     obtain⟨x15,e_x15,g12⟩:=bnd g12
     refine sq (gq fol [1,2] [(5,.ptr 0 0),(6,.i n9),(7,.ptr 3 0),(14,vl qa a0_),(15,.i (a0_.length:Int)),(16,.i n9)] (kA l7 o8 (kW x15 [])) (ac (iv zV qa e_x15) (ac (la qjb qa e_x15) az)) ?_)
     obtain⟨⟨l17,o18,n19⟩,e_r16,g12⟩:=bnd g12
     try dsimp only at g12
     refine sq (gq fol [2] [(5,.ptr 0 0),(6,.i n9),(8,.i n19),(14,vl qa a0_),(15,.i (a0_.length:Int)),(16,.i n9)] (kAn l17 o18 (kW x15 (kB l17 o18 []))) (ac (hs (.callH 128 [.ptr 0 0,.agg (cE x15)] (kA l7 o8 (kW x15 [])) [0,1,2] (.i n19) (kAn l17 o18 (kW x15 (kB l17 o18 [])))) (kg [some 0,some 1,some 2] [some 0,none,none,none,some 3,some 4] (qa3 N l7 o8 x15.Number x15.Kind x15.Names x15.Values x15.Text e_r16) (.kb rfl (.cells (rc (.gslice rfl) (rc (.hs rfl) rn))) (.ks (.ks .nil))) rfl rfl (.back rfl rfl (.cells (rc (.gslice rfl) (rc (.hs rfl) rn))) rfl (.dead (.dead (.old rfl rfl (.new rfl rfl (.same fa) rfl (.new rfl rfl (.same fa) rfl .nil)))))) (rc (.ptr rfl) (rc (.same (ql.agg sn)) rn)) (.same nI) rfl)) az) ?_)
     refine sh fol [(5,.ptr 0 0),(6,.i n9),(8,.i n19),(14,vl qa a0_),(15,.i (a0_.length:Int)),(16,.i n9),(25,.bool (!decide (n19=0)))] ?_
     refine ihB g12 (fun c20 g12=>?_) (fun c20 g12=>?_)
     ·refine sh fol ((2,.nilptr)::(3,.i (w64 (n9+1)))::(kBG n19)) ?_
      refine Goes.ret ?_
      obtain rfl:=si g12
      exact Or.inr (⟨rfl,_,rfl,(gh2 [.nilptr,.i (w64 (n9+1)),.i n19] (Sub.norm [] [none,none,none] (by rw[hB];rfl) rfl (.keep (.tupleL (rc (qX.pz0) (rc (.same nI) (rc (.same nI) rn)))) .nil) (.fresh (.fresh (.fresh .nil)))))⟩)
     ·refine Goes.skip ?_
      refine gh fol (kBA a0_ (a0_.length:Int) [(16,.i (w64 (n9+1)))]) ?_
      exact⟨M,(ofG 31 (kBA a0_ (a0_.length:Int) [(16,.i (w64 (n9+1)))]),(kA l17 o18 [])),Nat.lt_succ_self _,(Sub.norm [] [some 0,some 4,some 5] (by rw[hB];rfl) rfl (.kp (.keep (.same (qm qa _)) (.keep (.same nI) (.keep (.same nI) .nil)))) (.kb rfl (.cells (rc (.gslice rfl) (rc (.hs rfl) rn))) (.ks (.ks .nil)))),_,_,_,rfl,g12⟩
    ·refine Goes.exit ?_
     obtain rfl:=si g12
     exact Or.inl (⟨rfl,_,_,rfl,(Sub.keep [5] rfl rfl)⟩)
  rintro x s' (⟨rfl,l10,o11,rfl,hsub⟩|⟨rfl,q21,rfl,hret⟩)
  ·try dsimp only at h
   refine Goes.sub hsub ?_
   refine sh fol (kU ((3,.i 0)::kBu)) ?_
   refine Goes.ret ?_
   simp only[Option.some.injEq,Prod.mk.injEq]at h
   obtain⟨rfl,rfl,rfl,rfl,rfl⟩:=h
   exact(gh2 [.ptr 0 0,.i 0,.i 0] (Sub.norm [] [some 0,some 1,some 2] (by rw[hB];rfl) rfl (.keep (.tupleL (rc ((qX.pz1 rfl)) (rc (.same nI) (rc (.same nI) rn)))) .nil) (.kb rfl (.cells (rc (.gslice rfl) (rc (.hs rfl) rn))) (.ks (.ks .nil)))))
  ·try dsimp only at h
   obtain rfl:=si h
   exact hret
def xR (N:Nat) (l:List qb):Option (jO×Int×Int):=
 (vC N l).bind fun(l2,o3,ok4,n5,n6)=>
 if(!decide (n6=0))=true then
 some ((⟨0,[]⟩:jO),n5,n6)
 else
 ((match ok4 with
 |false=>
 none
 |true=>
 (qy l2 o3).bind fun(o9,n10,l11)=>
 (qp n10 l11).bind fun l13=>
 some (n10,o9,l13)):Option (Int×(Option (List StateT))×(List qc))).bind fun(n14,o15,l16)=>
 some ((⟨n14,l16⟩:jO),0,0)
theorem qf5 (N:Nat) (l:List qb) {res:jO×Int×Int} (h:xR N l=some res):qg Tryz.prog (.fn 16) [vl qa l] [] (.tuple (kAh res.1.Day res.1.Slings [.i res.2.1,.i res.2.2])) []:=by
 unfold xR at h
 refine Goes.fnW Tryz.func16 rfl rfl (m:=22) rfl (rs:=[.cell 2 31,.tmp 3,.tmp 4]) rfl (l:=(kP l [])) rfl ?_
 refine sg fol (kP l (kU [])) [bZ] ?_
 obtain⟨⟨l2,o3,ok4,n5,n6⟩,e_r1,h⟩:=bnd h
 try dsimp only at h
 refine sq (gq fol [1] (kU ((5,pz ok4 1 0)::(kA6 n5 n6 []))) (bZ::(kAb l2 o3 (kB l2 o3 []))) (ac (hs (.callH 80 [vl qa l] [bZ] [] (.tuple [pz ok4 1 0,.i n5,.i n6]) (bZ::(kAb l2 o3 (kB l2 o3 [])))) (kg [] [none,some 0,some 1,some 2] (qbH N l e_r1) .nil rfl rfl (.old rfl rfl (.new rfl rfl (.cells (rc (.gslice rfl) (rc (.hs rfl) rn))) rfl (.new rfl rfl (.same fa) rfl (.new rfl rfl (.same fa) rfl .nil)))) (rc (.same (qm qa _)) rn) (.tupleL (rc ((qX.pz rfl)) (rc (.same nI) (rc (.same nI) rn)))) rfl)) az) ?_)
 refine sq ?_
 refine sh fol (kU ((5,pz ok4 1 0)::(kA6 n5 n6 [(15,.bool (!decide (n6=0)))]))) ?_
 refine ihB h (fun c7 h=>?_) (fun c7 h=>?_)
 ·refine sh fol (kU ((3,.i n5)::(kBG n6))) ?_
  refine Goes.ret ?_
  obtain rfl:=si h
  exact(gw2 [.agg [.i 0,.nilslice],.i n5,.i n6] (FzW.tuple (qo.cons (FzW.agg (qo.cons (FzW.still tI) (qo.cons (FzW.nilv (E:=qd)) qo.nil))) (qo.cons (FzW.still tI) (qo.cons (FzW.still tI) qo.nil)))))
 ·refine Goes.skip ?_
  refine sq ?_
  obtain⟨⟨n14,o15,l16⟩,g_v17,h⟩:=bnd h
  refine Goes.cut (s':=(ofG 22 (kU ((3,.i 0)::kBu)),(kA9 n14 l16 (kAb l2 o15 (kB l2 o15 [bS l16]))))) ?_ ?_
  ·rcases ok4 with _|_
   ·try dsimp only at g_v17
    cases g_v17
   ·try dsimp only at g_v17
    obtain⟨⟨o9,n10,l11⟩,e_r8,g_v17⟩:=bnd g_v17
    try dsimp only at g_v17
    obtain⟨l13,e_r12,g_v17⟩:=bnd g_v17
    simp only[Option.some.injEq,Prod.mk.injEq]at g_v17
    obtain⟨rfl,rfl,rfl⟩:=g_v17
    exact qj.rq fol [1,2] (kU ((3,.i 0)::kBu)) (kA9 n10 l13 (kAb l2 o9 (kB l2 o9 [bS l13]))) (ac (hs (.callH 81 [.ptr 1 0] (bZ::(kAb l2 o3 (kB l2 o3 []))) [1,2,3] (.agg (kAr n10 l11)) (bZ::(kAb l2 o9 (kB l2 o9 [])))) (kg [some 1,some 2,some 3] [none,some 0,some 1,some 2] (zR l2 o3 e_r8) (.kb rfl (.cells (rc (.gslice rfl) (rc (.hs rfl) rn))) (.ks (.ks .nil))) rfl rfl (.old rfl rfl (.back rfl rfl (.cells (rc (.gslice rfl) (rc (.hs rfl) rn))) rfl (.back rfl rfl (.same fa) rfl (.back rfl rfl (.same fa) rfl .nil)))) (rc (.ptr rfl) rn) (.same (ql.agg sn)) rfl)) (ac (hs (.callH 82 [.agg (kAr n10 l11)] (bZ::(kAb l2 o9 (kB l2 o9 []))) [] (.agg (kBQ n10 l13)) (bZ::(kAb l2 o9 (kB l2 o9 [bS l13])))) (kg [] [none,none,none,none,some 0] (ze n10 l11 e_r12) .nil rfl rfl (.old rfl rfl (.old rfl rfl (.old rfl rfl (.old rfl rfl (.new rfl rfl (.same fa) rfl .nil))))) (rc (.same (ql.agg sn)) rn) (.aggL (rc (.same nI) (rc (.slice rfl) rn))) rfl)) az))
  try dsimp only at h
  refine Goes.ret ?_
  obtain rfl:=si h
  exact(gw2 (kAX n14 l16 [.i 0,.i 0]) (FzW.tuple (qo.cons (FzW.agg (qo.cons (FzW.still tI) (qo.cons (FzW.fz (Fz.sl (E:=qd) rfl rfl (nl rfl))) qo.nil))) (qo.cons (FzW.still tI) (qo.cons (FzW.still tI) qo.nil)))))
def jP (n:Int) (low:Int) (high:Int):Option Bool:=
 (if n<low then
 some true
 else
 some (decide (n>high)):Option Bool).bind fun b2=>
 some b2
theorem jK (n:Int) (low:Int) (high:Int) {res:Bool} (h:jP n low high=some res):qg Tryz.prog (.fn 36) [.i n,.i low,.i high] [] (.bool res) []:=by
 unfold jP at h
 refine Goes.fnW Tryz.func36 rfl rfl (m:=15) rfl (rs:=[.tmp 6]) rfl (l:=(kBv n low [(2,.i high)])) rfl ?_
 refine sh fol (kBv n low [(2,.i high)]) ?_
 refine sq ?_
 obtain⟨b2,g_v3,h⟩:=bnd h
 refine Goes.cut (s':=(ofG 15 [(6,.bool b2)],[])) ?_ ?_
 ·rcases wyD g_v3 with⟨c1,g_v3⟩|⟨c1,g_v3⟩
  ·obtain rfl:=si g_v3
   exact tr fol [3] kBm (ac (gw c1) az)
  ·obtain rfl:=si g_v3
   exact tr fol [3] [(6,.bool (decide (n>high)))] (ac (gw c1) az)
 refine Goes.ret ?_
 obtain rfl:=si h
 exact(gw2 [.bool b2] (FzW.still tB))
def vZ (s_:Str):Nat→Int→Option (Unit⊕Bool)
 |0,_=>none
 |K+1,n5=>
  if n5<(s_.length:Int)then
  (idx s_ n5).bind fun c9=>
  (if(c9.toNat:Int)≥97 then
  if(c9.toNat:Int)≤122 then
  some true
  else
  if(c9.toNat:Int)≥65 then
  some (decide ((c9.toNat:Int)≤90))
  else
  some false
  else
  if(c9.toNat:Int)≥65 then
  some (decide ((c9.toNat:Int)≤90))
  else
  some false:Option Bool).bind fun b14=>
  (if(!b14)=true then
  if n5=0 then
  some true
  else
  if(c9.toNat:Int)≥48 then
  if(c9.toNat:Int)≤57 then
  some false
  else
  some (!(decide ((c9.toNat:Int)=95)))
  else
  some (!(decide ((c9.toNat:Int)=95)))
  else
  some false:Option Bool).bind fun b20=>
  if b20=true then
  some (.inr false)
  else
  vZ s_ K (w64 (n5+1))
  else
  some (.inl ())
def qa1 (N:Nat) (s_:Str):Option Bool:=
 (if(s_.length:Int)<1 then
 some true
 else
 some (decide ((s_.length:Int)>24)):Option Bool).bind fun b2=>
 if b2=true then
 some false
 else
 (vZ s_ N 0).bind (fun
 |(.inl ())=>
 some true
 |(.inr q23)=>
 some q23)
theorem qgq (N:Nat) (s_:Str) {res:Bool} (h:qa1 N s_=some res):qg Tryz.prog (.fn 47) [.str s_] [] (.bool res) []:=by
 unfold qa1 at h
 refine Goes.fnW Tryz.func47 rfl rfl (m:=56) rfl (rs:=[.tmp 2]) rfl (l:=(kBZ s_)) rfl ?_
 refine sh fol (kBZ s_) ?_
 refine sq ?_
 refine sq ?_
 obtain⟨b2,g_v3,h⟩:=bnd h
 refine Goes.cut (s':=(ofG 56 ((0,.str s_)::(kB4 b2)),[])) ?_ ?_
 ·rcases wyD g_v3 with⟨c1,g_v3⟩|⟨c1,g_v3⟩
  ·obtain rfl:=si g_v3
   exact tr fol [3] [(0,.str s_),(13,.bool true)] (ac (gw c1) az)
  ·obtain rfl:=si g_v3
   exact tr fol [3] ((0,.str s_)::(kB4 (decide ((s_.length:Int)>24)))) (ac (gw c1) az)
 refine ihB h (fun c4 h=>?_) (fun c4 h=>?_)
 ·refine sh fol kBz ?_
  refine Goes.ret ?_
  obtain rfl:=si h
  exact(gw2 [.bool false] (FzW.still tB))
 ·refine Goes.skip ?_
  refine sq ?_
  refine sh fol [(0,.str s_),(3,.i 0)] ?_
  refine Goes.block ?_
  obtain⟨r6,g6,h⟩:=bnd h
  refine Goes.imp (Q:=fun x s'=>(x= .exit 0∧(.inl ())=r6∧Sub s' (ofG 56 [],[]))∨(x= .ret∧ ∃q7,(.inr q7)=r6∧zl Tryz.prog [.tmp 2] (.bool q7) .ret s')) ?_ ?_
  ·refine Goes.loopS (fun M s=> ∃(n5:Int),s=(ofG 56 (kAp s_ n5 []),[])∧vZ s_ M n5=some r6) ?_ (m:=N) ⟨_,rfl,g6⟩
   rintro M s ⟨n5,rfl,g6⟩
   cases M with
   |zero=>simp only[vZ]at g6;cases g6
   |succ M=>
    rw[vZ]at g6
    refine sq ?_
    refine sh fol (kAp s_ n5 [(17,.bool (decide (n5<(s_.length:Int))))]) ?_
    refine ihD g6 (fun c8 g6=>?_) (fun c8 g6=>?_)
    ·refine Goes.skip ?_
     refine sq (Goes.block ?_)
     obtain⟨c9,e_c9,g6⟩:=bnd g6
     refine sq (gr fol [2] (kAp s_ n5 [(4,.int .u8 (c9.toNat:Int))]) (ac (hs (.done (.opt (qai Tryz.prog 9 (.str s_) (.i n5))) (.int .u8 (c9.toNat:Int))) (qb6 st9 e_c9)) az) ?_)
     refine sq ?_
     obtain⟨b14,g_v15,g6⟩:=bnd g6
     refine Goes.cut (s':=(ofG 56 (kAp s_ n5 [(4,.int .u8 (c9.toNat:Int)),(5,.bool b14)]),[])) ?_ ?_
     ·rcases wyD g_v15 with⟨c10,g_v15⟩|⟨c10,g_v15⟩
      ·rcases wyD g_v15 with⟨c11,g_v15⟩|⟨c11,g_v15⟩
       ·obtain rfl:=si g_v15
        exact tr fol [2,6] (kAp s_ n5 [(4,.int .u8 (c9.toNat:Int)),(5,.bool true)]) (ac (gw c10) (ac (gw c11) az))
       ·rcases wyD g_v15 with⟨c12,g_v15⟩|⟨c12,g_v15⟩
        ·obtain rfl:=si g_v15
         exact tr fol [2,6,9] (kAp s_ n5 [(4,.int .u8 (c9.toNat:Int)),(5,.bool (decide ((c9.toNat:Int)≤90)))]) (ac (gw c10) (ac (gw c11) (ac (gw c12) az)))
        ·obtain rfl:=si g_v15
         exact tr fol [2,6,9] (kAp s_ n5 [(4,.int .u8 (c9.toNat:Int)),(5,.bool false)]) (ac (gw c10) (ac (gw c11) (ac (gw c12) az)))
      ·rcases wyD g_v15 with⟨c13,g_v15⟩|⟨c13,g_v15⟩
       ·obtain rfl:=si g_v15
        exact tr fol [2,9] (kAp s_ n5 [(4,.int .u8 (c9.toNat:Int)),(5,.bool (decide ((c9.toNat:Int)≤90)))]) (ac (gw c10) (ac (gw c13) az))
       ·obtain rfl:=si g_v15
        exact tr fol [2,9] (kAp s_ n5 [(4,.int .u8 (c9.toNat:Int)),(5,.bool false)]) (ac (gw c10) (ac (gw c13) az))
     refine sq ?_
     obtain⟨b20,g_v21,g6⟩:=bnd g6
     refine Goes.cut (s':=(ofG 56 (kAp s_ n5 [(55,.bool b20)]),[])) ?_ ?_
     ·rcases wyB g_v21 with⟨c16,g_v21⟩|⟨c16,g_v21⟩
      ·rcases wyD g_v21 with⟨c17,g_v21⟩|⟨c17,g_v21⟩
       ·obtain rfl:=si g_v21
        exact tr fol [2,5] (kAp s_ n5 [(55,.bool true)]) (ac (gw c16) (ac (gw c17) az))
       ·rcases wyD g_v21 with⟨c18,g_v21⟩|⟨c18,g_v21⟩
        ·rcases wyD g_v21 with⟨c19,g_v21⟩|⟨c19,g_v21⟩
         ·obtain rfl:=si g_v21
          exact tr fol [2,5,8,12] (kAp s_ n5 [(55,.bool false)]) (ac (gw c16) (ac (gw c17) (ac (gw c18) (ac (gw c19) az))))
         ·obtain rfl:=si g_v21
          exact tr fol [2,5,8,12] (kAp s_ n5 [(55,.bool (!(decide ((c9.toNat:Int)=95))))]) (ac (gw c16) (ac (gw c17) (ac (gw c18) (ac (gw c19) az))))
        ·obtain rfl:=si g_v21
         exact tr fol [2,5,8] (kAp s_ n5 [(55,.bool (!(decide ((c9.toNat:Int)=95))))]) (ac (gw c16) (ac (gw c17) (ac (gw c18) az)))
      ·obtain rfl:=si g_v21
       exact tr fol [2] (kAp s_ n5 [(55,.bool false)]) (ac (gw c16) az)
     refine ihB g6 (fun c22 g6=>?_) (fun c22 g6=>?_)
     ·refine sh fol kBz ?_
      refine Goes.ret ?_
      obtain rfl:=si g6
      exact Or.inr (⟨rfl,_,rfl,(gw2 [.bool false] (FzW.still tB))⟩)
     ·refine Goes.skip ?_
      refine gh fol (kAp s_ (w64 (n5+1)) []) ?_
      exact⟨M,(ofG 56 (kAp s_ (w64 (n5+1)) []),[]),Nat.lt_succ_self _,(Sub.refl _),_,rfl,g6⟩
    ·refine Goes.exit ?_
     obtain rfl:=si g6
     exact Or.inl (⟨rfl,rfl,(Sub.keep [] rfl rfl)⟩)
  rintro x s' (⟨rfl,rfl,hsub⟩|⟨rfl,q23,rfl,hret⟩)
  ·try dsimp only at h
   refine Goes.sub hsub ?_
   refine sh fol [(2,.bool true)] ?_
   refine Goes.ret ?_
   obtain rfl:=si h
   exact(gw2 [.bool true] (FzW.still tB))
  ·try dsimp only at h
   obtain rfl:=si h
   exact hret
def qb8 (kind:Str):Option (Int×Int×Bool):=
 if(kind==[109,97,107,101])=true then
 some (2,3,true)
 else
 ((if(kind==[116,101,115,116])=true then
 some (kind==[116,101,115,116])
 else
 some (kind==[117,115,101]):Option Bool)).bind fun b2=>
 if b2=true then
 some (1,2,true)
 else
 ((if(kind==[102,97,105,108])=true then
 some (kind==[102,97,105,108])
 else
 some (kind==[114,101,99,97,108,108]):Option Bool)).bind fun b6=>
 if b6=true then
 some (1,1,true)
 else
 if(kind==[117,110,100,111])=true then
 some (0,0,true)
 else
 some (0,0,false)
theorem qhY (kind:Str) {res:Int×Int×Bool} (h:qb8 kind=some res):qg Tryz.prog (.fn 90) [.str kind] [] (.tuple [.i res.1,.i res.2.1,.bool res.2.2]) []:=by
 unfold qb8 at h
 refine Goes.fnW Tryz.func90 rfl rfl (m:=16) rfl (rs:=[.tmp 2,.tmp 3,.tmp 4]) rfl (l:=(kBZ kind)) rfl ?_
 refine sh fol (kBZ kind) ?_
 refine sq ?_
 refine sh fol [(5,.str kind)] ?_
 refine Goes.block ?_
 refine sh fol [(5,.str kind),(6,.bool (kind==[109,97,107,101]))] ?_
 refine ihB h (fun c1 h=>?_) (fun c1 h=>?_)
 ·refine sh fol ((2,.i 2)::(3,.i 3)::kAq) ?_
  refine Goes.ret ?_
  obtain rfl:=si h
  exact(gw2 (.i 2:: .i 3::kAt) (FzW.tuple (qo.cons (FzW.still tI) (qo.cons (FzW.still tI) (qo.cons (FzW.still tB) qo.nil)))))
 ·refine sq ?_
  refine sh fol [(5,.str kind),(8,.bool (kind==[116,101,115,116]))] ?_
  obtain⟨r3,g3,h⟩:=bnd h
  refine Goes.imp (Q:=fun x s'=>(x= .normal∧ ∃b2,b2=r3∧Sub s' (ofG 16 [(5,.str kind),(8,.bool b2)],[]))) ?_ ?_
  ·refine ihB g3 (fun c4 g3=>?_) (fun c4 g3=>?_)
   ·refine Goes.skip ?_
    obtain rfl:=si g3
    exact⟨rfl,_,rfl,(Sub.refl _)⟩
   ·refine gh fol [(5,.str kind),(8,.bool (kind==[117,115,101]))] ?_
    obtain rfl:=si g3
    exact⟨rfl,_,rfl,(Sub.refl _)⟩
  rintro x s' ⟨rfl,b2,rfl,hsub⟩
  refine Goes.sub hsub ?_
  refine ihB h (fun c5 h=>?_) (fun c5 h=>?_)
  ·refine sh fol ((2,.i 1)::(3,.i 2)::kAq) ?_
   refine Goes.ret ?_
   obtain rfl:=si h
   exact(gw2 (.i 1:: .i 2::kAt) (FzW.tuple (qo.cons (FzW.still tI) (qo.cons (FzW.still tI) (qo.cons (FzW.still tB) qo.nil)))))
  ·refine sq ?_
   refine sh fol [(5,.str kind),(11,.bool (kind==[102,97,105,108]))] ?_
   obtain⟨r7,g7,h⟩:=bnd h
   refine Goes.imp (Q:=fun x s'=>(x= .normal∧ ∃b6,b6=r7∧Sub s' (ofG 16 [(5,.str kind),(11,.bool b6)],[]))) ?_ ?_
   ·refine ihB g7 (fun c8 g7=>?_) (fun c8 g7=>?_)
    ·refine Goes.skip ?_
     obtain rfl:=si g7
     exact⟨rfl,_,rfl,(Sub.refl _)⟩
    ·refine gh fol [(5,.str kind),(11,.bool (kind==[114,101,99,97,108,108]))] ?_
     obtain rfl:=si g7
     exact⟨rfl,_,rfl,(Sub.refl _)⟩
   rintro x s' ⟨rfl,b6,rfl,hsub⟩
   refine Goes.sub hsub ?_
   refine ihB h (fun c9 h=>?_) (fun c9 h=>?_)
   ·refine sh fol ((2,.i 1)::(3,.i 1)::kAq) ?_
    refine Goes.ret ?_
    obtain rfl:=si h
    exact(gw2 (.i 1:: .i 1::kAt) (FzW.tuple (qo.cons (FzW.still tI) (qo.cons (FzW.still tI) (qo.cons (FzW.still tB) qo.nil)))))
   ·refine sh fol [(14,.bool (kind==[117,110,100,111]))] ?_
    refine ihB h (fun c10 h=>?_) (fun c10 h=>?_)
    ·refine sh fol ((2,.i 0)::(3,.i 0)::kAq) ?_
     refine Goes.ret ?_
     obtain rfl:=si h
     exact(gw2 (.i 0:: .i 0::kAt) (FzW.tuple (qo.cons (FzW.still tI) (qo.cons (FzW.still tI) (qo.cons (FzW.still tB) qo.nil)))))
    ·refine Goes.skip ?_
     refine sh fol ((2,.i 0)::(3,.i 0)::kAI) ?_
     refine Goes.ret ?_
     obtain rfl:=si h
     exact(gw2 (.i 0:: .i 0::kBw) (FzW.tuple (qo.cons (FzW.still tI) (qo.cons (FzW.still tI) (qo.cons (FzW.still tB) qo.nil)))))
def jy (N:Nat) (e:qb) (r3:Int×Int×Bool):Nat→Int→Option (Unit⊕Int)
 |0,_=>none
 |K+1,n9=>
  if n9<r3.1 then
  (idx e.Names n9).bind fun x13=>
  (qa1 N x13).bind fun r14=>
  if(!r14)=true then
  some (.inr 8)
  else
  jy N e r3 K (w64 (n9+1))
  else
  some (.inl ())
def jw (e:qb) (r3:Int×Int×Bool):Nat→Int→Option (Unit⊕Int)
 |0,_=>none
 |K+1,n16=>
  if n16<r3.2.1 then
  (idx e.Values n16).bind fun x20=>
  (jP x20 0 999999999).bind fun r21=>
  if r21=true then
  some (.inr 3)
  else
  jw e r3 K (w64 (n16+1))
  else
  some (.inl ())
def y8 (N:Nat) (e:qb):Option Int:=
 (jP e.Number 1 1000).bind fun r1=>
 if r1=true then
 some 3
 else
 (qb8 e.Kind).bind fun r3=>
 if(!r3.2.2)=true then
 some 13
 else
 (if(!decide ((e.Names.length:Int)=r3.1))=true then
 some true
 else
 some (!decide ((e.Values.length:Int)=r3.2.1)):Option Bool).bind fun b6=>
 if b6=true then
 some 2
 else
 (jy N e r3 N 0).bind (fun
 |(.inl ())=>
 (jw e r3 N 0).bind (fun
 |(.inl ())=>
 if(!(e.Text==[]))=true then
 some 1
 else
 some 0
 |(.inr q24)=>
 some q24)
 |(.inr q25)=>
 some q25)
theorem qeB (N:Nat) (e:qb) {res:Int} (h:y8 N e=some res):qg Tryz.prog (.fn 19) [.agg (cE e)] [] (.i res) []:=by
 unfold y8 at h
 refine Goes.fnW Tryz.func19 rfl rfl (m:=58) rfl (rs:=[.tmp 2]) rfl (l:=[(0,.agg (cE e))]) rfl ?_
 refine sg fol (kAA []) (kW e []) ?_
 refine sq ?_
 obtain⟨r1,e_r1,h⟩:=bnd h
 refine sq (gr fol [2] (kAA (kBl r1)) (ac (cv (jK e.Number 1 1000 e_r1)) az) ?_)
 refine ihB h (fun c2 h=>?_) (fun c2 h=>?_)
 ·refine sh fol [(2,.i 3)] ?_
  refine Goes.ret ?_
  obtain rfl:=si h
  exact(gw2 [.i 3] (FzW.still tI))
 ·refine Goes.skip ?_
  obtain⟨r3,e_r3,h⟩:=bnd h
  refine sq (gr fol [2] (kAA [(3,.i r3.1),(4,.i r3.2.1),(5,.bool r3.2.2)]) (ac (cv (qhY e.Kind e_r3)) az) ?_)
  refine sq ?_
  refine sh fol (kAA [(3,.i r3.1),(4,.i r3.2.1),(19,.bool (!r3.2.2))]) ?_
  refine ihB h (fun c4 h=>?_) (fun c4 h=>?_)
  ·refine sh fol [(2,.i 13)] ?_
   refine Goes.ret ?_
   obtain rfl:=si h
   exact(gw2 [.i 13] (FzW.still tI))
  ·refine Goes.skip ?_
   refine sq ?_
   refine sq ?_
   obtain⟨b6,g_v7,h⟩:=bnd h
   refine Goes.cut (s':=(ofG 58 (kAA [(3,.i r3.1),(4,.i r3.2.1),(31,.bool b6)]),(kW e []))) ?_ ?_
   ·rcases wyB g_v7 with⟨c5,g_v7⟩|⟨c5,g_v7⟩
    ·obtain rfl:=si g_v7
     exact tr fol [5] (kAA [(3,.i r3.1),(4,.i r3.2.1),(31,.bool true)]) (ac (gw c5) az)
    ·obtain rfl:=si g_v7
     exact tr fol [5] (kAA [(3,.i r3.1),(4,.i r3.2.1),(31,.bool (!decide ((e.Values.length:Int)=r3.2.1)))]) (ac (gw c5) az)
   refine ihB h (fun c8 h=>?_) (fun c8 h=>?_)
   ·refine sh fol [(2,.i 2)] ?_
    refine Goes.ret ?_
    obtain rfl:=si h
    exact(gw2 [.i 2] (FzW.still tI))
   ·refine Goes.skip ?_
    refine sq ?_
    refine sh fol (kAA [(3,.i r3.1),(4,.i r3.2.1),(6,.i 0)]) ?_
    refine Goes.block ?_
    obtain⟨r10,g10,h⟩:=bnd h
    refine Goes.imp (Q:=fun x s'=>(x= .exit 0∧(.inl ())=r10∧Sub s' (ofG 58 (kAA (kBG r3.2.1)),(kW e [])))∨(x= .ret∧ ∃q11,(.inr q11)=r10∧zl Tryz.prog [.tmp 2] (.i q11) .ret s')) ?_ ?_
    ·refine Goes.loopS (fun M s=> ∃(n9:Int),s=(ofG 58 (kAA [(3,.i r3.1),(4,.i r3.2.1),(6,.i n9)]),(kW e []))∧jy N e r3 M n9=some r10) ?_ (m:=N) ⟨_,rfl,g10⟩
     rintro M s ⟨n9,rfl,g10⟩
     cases M with
     |zero=>simp only[jy]at g10;cases g10
     |succ M=>
      rw[jy]at g10
      refine sq ?_
      refine sh fol (kAA [(3,.i r3.1),(4,.i r3.2.1),(6,.i n9),(34,.bool (decide (n9<r3.1)))]) ?_
      refine ihD g10 (fun c12 g10=>?_) (fun c12 g10=>?_)
      ·refine Goes.skip ?_
       refine sq (Goes.block ?_)
       obtain⟨x13,e_x13,g10⟩:=bnd g10
       obtain⟨r14,e_r14,g10⟩:=bnd g10
       refine sq (gr fol [3,4,5] (kAA [(3,.i r3.1),(4,.i r3.2.1),(6,.i n9),(43,.bool (!r14))]) (ac (iv jE encS e_x13) (ac (lv 0 ce9 encS e_x13 rfl) (ac (cv (qgq N x13 e_r14)) az))) ?_)
       refine ihB g10 (fun c15 g10=>?_) (fun c15 g10=>?_)
       ·refine sh fol [(2,.i 8)] ?_
        refine Goes.ret ?_
        obtain rfl:=si g10
        exact Or.inr (⟨rfl,_,rfl,(gw2 [.i 8] (FzW.still tI))⟩)
       ·refine Goes.skip ?_
        refine gh fol (kAA [(3,.i r3.1),(4,.i r3.2.1),(6,.i (w64 (n9+1)))]) ?_
        exact⟨M,(ofG 58 (kAA [(3,.i r3.1),(4,.i r3.2.1),(6,.i (w64 (n9+1)))]),(kW e [])),Nat.lt_succ_self _,(Sub.refl _),_,rfl,g10⟩
      ·refine Goes.exit ?_
       obtain rfl:=si g10
       exact Or.inl (⟨rfl,rfl,(Sub.keep [1,4] rfl rfl)⟩)
    rintro x s' (⟨rfl,rfl,hsub⟩|⟨rfl,q25,rfl,hret⟩)
    ·try dsimp only at h
     refine Goes.sub hsub ?_
     refine sq ?_
     refine sh fol (kAA [(4,.i r3.2.1),(7,.i 0)]) ?_
     refine Goes.block ?_
     obtain⟨r17,g17,h⟩:=bnd h
     refine Goes.imp (Q:=fun x s'=>(x= .exit 2∧(.inl ())=r17∧Sub s' (ofG 58 (kAA []),(kW e [])))∨(x= .ret∧ ∃q18,(.inr q18)=r17∧zl Tryz.prog [.tmp 2] (.i q18) .ret s')) ?_ ?_
     ·refine Goes.loopS (fun M s=> ∃(n16:Int),s=(ofG 58 (kAA [(4,.i r3.2.1),(7,.i n16)]),(kW e []))∧jw e r3 M n16=some r17) ?_ (m:=N) ⟨_,rfl,g17⟩
      rintro M s ⟨n16,rfl,g17⟩
      cases M with
      |zero=>simp only[jw]at g17;cases g17
      |succ M=>
       rw[jw]at g17
       refine sq ?_
       refine sh fol (kAA [(4,.i r3.2.1),(7,.i n16),(46,.bool (decide (n16<r3.2.1)))]) ?_
       refine ihD g17 (fun c19 g17=>?_) (fun c19 g17=>?_)
       ·refine Goes.skip ?_
        refine sq (Goes.block ?_)
        obtain⟨x20,e_x20,g17⟩:=bnd g17
        obtain⟨r21,e_r21,g17⟩:=bnd g17
        refine sq (gr fol [3,4,5] (kAA [(4,.i r3.2.1),(7,.i n16),(54,.bool r21)]) (ac (iv y7 encI e_x20) (ac (lv 0 ce3 encI e_x20 rfl) (ac (cv (jK x20 0 999999999 e_r21)) az))) ?_)
        refine ihB g17 (fun c22 g17=>?_) (fun c22 g17=>?_)
        ·refine sh fol [(2,.i 3)] ?_
         refine Goes.ret ?_
         obtain rfl:=si g17
         exact Or.inr (⟨rfl,_,rfl,(gw2 [.i 3] (FzW.still tI))⟩)
        ·refine Goes.skip ?_
         refine gh fol (kAA [(4,.i r3.2.1),(7,.i (w64 (n16+1)))]) ?_
         exact⟨M,(ofG 58 (kAA [(4,.i r3.2.1),(7,.i (w64 (n16+1)))]),(kW e [])),Nat.lt_succ_self _,(Sub.refl _),_,rfl,g17⟩
       ·refine Goes.exit ?_
        obtain rfl:=si g17
        exact Or.inl (⟨rfl,rfl,(Sub.keep [1] rfl rfl)⟩)
     rintro x s' (⟨rfl,rfl,hsub⟩|⟨rfl,q24,rfl,hret⟩)
     ·try dsimp only at h
      refine Goes.sub hsub ?_
      refine sq ?_
      refine sh fol [(57,.bool (!(e.Text==[])))] ?_
      refine ihB h (fun c23 h=>?_) (fun c23 h=>?_)
      ·refine sh fol [(2,.i 1)] ?_
       refine Goes.ret ?_
       obtain rfl:=si h
       exact(gw2 [.i 1] (FzW.still tI))
      ·refine Goes.skip ?_
       refine sh fol [(2,.i 0)] ?_
       refine Goes.ret ?_
       obtain rfl:=si h
       exact(gw2 [.i 0] (FzW.still tI))
     ·try dsimp only at h
      obtain rfl:=si h
      exact hret
    ·try dsimp only at h
     obtain rfl:=si h
     exact hret
def jX (l2:List qc) (x4:Str):Nat→Int→Int→Option (Int×Int)
 |0,_,_=>none
 |K+1,n8,n9=>
  (if n9<(l2.length:Int)then
  (idx l2 n9).bind fun x14=>
  some (ltL x14.Name x4)
  else
  some false:Option Bool).bind fun b15=>
  if b15=true then
  jX l2 x4 K n8 (w64 (n9+1))
  else
  some (n8,n9)
def jD (e:qb) (x1:Int):Nat→(List qc)→Int→Option (List qc)
 |0,_,_=>none
 |K+1,l23,n24=>
  if n24<(l23.length:Int)then
  (((idx l23 n24).bind fun x30=>
  (idx e.Names 0).bind fun x31=>
  (if(e.Kind==[116,101,115,116])=true then
  some (x30.Name==x31)
  else
  some false:Option Bool).bind fun b33=>
  if b33=true then
  (idx e.Values 1).bind fun x36=>
  (put l23 n24 (⟨x30.Name,x30.Batch,x30.Born,x30.Last,x30.Uses,x30.Used,w64 (x36.tdiv 2),x30.Until,x30.Gone⟩:qc)).bind fun l37=>
  (idx l37 n24).bind fun x38=>
  (put l37 n24 (⟨x38.Name,x38.Batch,x38.Born,x38.Last,x38.Uses,x38.Used,x38.Limit,(if x38.Last<(w64 (x1+365))then x38.Last else(w64 (x1+365))),x38.Gone⟩:qc)).bind fun l39=>
  some l39
  else
  (if(e.Kind==[117,115,101])=true then
  some (x30.Name==x31)
  else
  some false:Option Bool).bind fun b41=>
  if b41=true then
  (put l23 n24 (⟨x30.Name,x30.Batch,x30.Born,x30.Last,x30.Uses,w64 (x30.Used+1),x30.Limit,x30.Until,x30.Gone⟩:qc)).bind fun l44=>
  some l44
  else
  (if(e.Kind==[102,97,105,108])=true then
  some (x30.Name==x31)
  else
  some false:Option Bool).bind fun b46=>
  ((if b46=true then
  some b46
  else
  (if(e.Kind==[114,101,99,97,108,108])=true then
  some (x30.Batch==x31)
  else
  some false:Option Bool).bind fun b52=>
  some b52:Option Bool)).bind fun b48=>
  if b48=true then
  (put l23 n24 (⟨x30.Name,x30.Batch,x30.Born,x30.Last,x30.Uses,x30.Used,x30.Limit,x30.Until,true⟩:qc)).bind fun l55=>
  some l55
  else
  some l23:Option (List qc))).bind fun l28=>
  jD e x1 K l28 (w64 (n24+1))
  else
  some l23
def jN (N:Nat) (r:qD) (e:qb):Option qD:=
 (idx e.Values 0).bind fun x1=>
 (app 88 ([]:List qc) r.Slings).bind fun l2=>
 if(e.Kind==[109,97,107,101])=true then
 (idx e.Names 0).bind fun x4=>
 (idx e.Names 1).bind fun x5=>
 (idx e.Values 1).bind fun x6=>
 (idx e.Values 2).bind fun x7=>
 (jX l2 x4 N (w64 (x1+x6)) 0).bind fun(n10,n11)=>
 (cut l2 0 n11).bind fun s18=>
 (app 88 ([]:List qc) s18).bind fun l19=>
 (app 88 l19 [(⟨x4,x5,x1,n10,x7,0,0,0,false⟩:qc)]).bind fun l20=>
 (cut l2 n11 (l2.length:Int)).bind fun s21=>
 (app 88 l20 s21).bind fun l22=>
 some (⟨x1,l22⟩:qD)
 else
 (jD e x1 N l2 0).bind fun l25=>
 some (⟨x1,l25⟩:qD)
theorem qhK (N:Nat) (r:qD) (e:qb) {res:qD} (h:jN N r e=some res):qg Tryz.prog (.fn 140) (kAh r.Day r.Slings [.agg (cE e)]) [] (.agg (kAr res.Day res.Slings)) []:=by
 unfold jN at h
 refine Goes.fnW Tryz.func140 rfl rfl (m:=162) rfl (rs:=[.cell 4 37]) rfl (l:=(kB7 r.Day r.Slings [(1,.agg (cE e))])) rfl ?_
 refine sg fol (kO (kAi [])) (kG r.Day r.Slings (kW e [bZ])) ?_
 obtain⟨x1,e_x1,h⟩:=bnd h
 refine sq (gr fol [2,3] (kO (kAi (kAs x1))) (ac (iv y7 encI e_x1) (ac (lv 0 ce3 encI e_x1 rfl) az)) ?_)
 refine sg fol (kO (kAi (kAs x1))) (kG x1 r.Slings (kW e [bZ])) ?_
 obtain⟨l2,e_l2,h⟩:=bnd h
 refine sq (gq fol [3] (kO (kAi [(5,.i x1),(6,.oslice 4 l2.length 9)])) (kG x1 r.Slings (kW e [bZ,.dead,bS l2])) (ac (hs (.run [3] (qP Tryz.prog [35,35] (.slice 3 0 0 0 9) (vl qd r.Slings)) (kG x1 r.Slings (kW e [bZ,.cells []])) (.oslice 4 l2.length 9) (kG x1 r.Slings (kW e [bZ,.dead,bS l2])) true) (jH qdo (E:=qd) rfl (qeN (E:=qd) rfl _) (qhL (E:=qd) rfl rfl rfl e_l2 rfl))) az) ?_)
 refine sq ?_
 refine sh fol (kO (kAi [(5,.i x1),(6,.oslice 4 l2.length 9),(23,.bool (e.Kind==[109,97,107,101]))])) ?_
 refine ihB h (fun c3 h=>?_) (fun c3 h=>?_)
 ·obtain⟨x4,e_x4,h⟩:=bnd h
  obtain⟨x5,e_x5,h⟩:=bnd h
  obtain⟨x6,e_x6,h⟩:=bnd h
  obtain⟨x7,e_x7,h⟩:=bnd h
  refine sq (gq fol [2,3,6,7,12,13,17,18] (kU (kAi [(6,.oslice 4 l2.length 9),(7,.ptr 5 0)])) (kG x1 r.Slings (kW e (bZ:: .dead::bS l2::(kAE x4 x5 x1 (w64 (x1+x6)) x7 [])))) (ac (iv jE encS e_x4) (ac (lv 0 ce9 encS e_x4 rfl) (ac (iv jE encS e_x5) (ac (lv 0 ce9 encS e_x5 rfl) (ac (iv y7 encI e_x6) (ac (lv 0 ce3 encI e_x6 rfl) (ac (iv y7 encI e_x7) (ac (lv 0 ce3 encI e_x7 rfl) az)))))))) ?_)
  refine sh fol (kU (kAi [(6,.oslice 4 l2.length 9),(7,.ptr 5 0),(8,.i 0)])) ?_
  refine sq (Goes.block ?_)
  obtain⟨r12,g12,h⟩:=bnd h
  refine Goes.imp (Q:=fun x s'=>(x= .exit 0∧ ∃n10 n11,(n10,n11)=r12∧Sub s' (ofG 162 (kU (kAT l2 [(8,.i n11)])),(kG x1 r.Slings (bZ::bS l2::(kAj x4 x5 x1 n10 x7 [])))))) ?_ ?_
  ·refine Goes.sub (s':=(ofG 162 (kU (kAT l2 [(8,.i 0)])),(kG x1 r.Slings (bZ::bS l2::(kAE x4 x5 x1 (w64 (x1+x6)) x7 []))))) (Sub.norm [] [some 0,some 2,some 4,some 5] rfl rfl (.kp (.kp (.keep (.oslice rfl) (.kp (.keep (.same nI) .nil))))) (.kb rfl (.same sn) (.kb rfl (.same sn) (.ks (.kb rfl (.same sn) .nil))))) ?_
   refine Goes.loopS (fun M s=> ∃(n8:Int) (n9:Int),s=(ofG 162 (kU (kAT l2 [(8,.i n9)])),(kG x1 r.Slings (bZ::bS l2::(kAj x4 x5 x1 n8 x7 []))))∧jX l2 x4 M n8 n9=some r12) ?_ (m:=N) ⟨_,_,rfl,g12⟩
   rintro M s ⟨n8,n9,rfl,g12⟩
   cases M with
   |zero=>simp only[jX]at g12;cases g12
   |succ M=>
    rw[jX]at g12
    refine sq ?_
    refine sq ?_
    obtain⟨b15,g_v16,g12⟩:=bnd g12
    refine Goes.cut (s':=(ofG 162 (kU (kAT l2 [(8,.i n9),(57,.bool b15)])),(kG x1 r.Slings (bZ::bS l2::(kAj x4 x5 x1 n8 x7 []))))) ?_ ?_
    ·rcases wyD g_v16 with⟨c13,g_v16⟩|⟨c13,g_v16⟩
     ·obtain⟨x14,e_x14,g_v16⟩:=bnd g_v16
      obtain rfl:=si g_v16
      exact tr fol [4,7,9] (kU (kAT l2 [(8,.i n9),(57,.bool (ltL x14.Name x4))])) (ac (gw c13) (ac (hs (.done (.opt (qz Tryz.prog 35 (.oslice 2 l2.length 9) (.i n9))) (.ptr 2 ((n9:Int).toNat*9+0))) (qeP qdo e_x14)) (ac (hs (.run [2] (jJ Tryz.prog 9 (.ptr 2 ((n9:Int).toNat*9+0))) (kG x1 r.Slings (bZ::bS l2::(kAj x4 x5 x1 n8 x7 []))) (.str x14.Name) (kG x1 r.Slings (bZ::bS l2::(kAj x4 x5 x1 n8 x7 []))) false) (qgo ce9 (E:=qd) (l:=l2) rfl rfl e_x14 (nl rfl) rfl)) az)))
     ·obtain rfl:=si g_v16
      exact tr fol [4] (kU (kAT l2 [(8,.i n9),(57,.bool false)])) (ac (gw c13) az)
    refine ihB g12 (fun c17 g12=>?_) (fun c17 g12=>?_)
    ·refine Goes.skip ?_
     refine Goes.block ?_
     refine gh fol (kU (kAT l2 [(8,.i (w64 (n9+1)))])) ?_
     exact⟨M,(ofG 162 (kU (kAT l2 [(8,.i (w64 (n9+1)))])),(kG x1 r.Slings (bZ::bS l2::(kAj x4 x5 x1 n8 x7 [])))),Nat.lt_succ_self _,(Sub.refl _),_,_,rfl,g12⟩
    ·refine Goes.exit ?_
     obtain rfl:=si g12
     exact⟨rfl,_,_,rfl,(Sub.keep [2,4,6,7,8] rfl rfl)⟩
  rintro x s' ⟨rfl,n10,n11,rfl,hsub⟩
  try dsimp only at h
  refine Goes.sub hsub ?_
  refine sq (Goes.sub (s':=(ofG 162 (kU [(4,.ptr 1 0),(6,vl qd l2),(7,.ptr 2 0),(8,.i n11)]),(kG x1 r.Slings (bZ::(kAj x4 x5 x1 n10 x7 []))))) (Sub.norm [2] [some 0,some 1,some 3] rfl rfl (.kp (.kp (.keep (.frz (Fz.os (E:=qd) rfl rfl (nl rfl)) (qm qd _)) (.kp (.keep (.same nI) .nil))))) (.kb rfl (.same sn) (.kb rfl (.same sn) (.kb rfl (.same sn) .nil)))) ?_)
  obtain⟨s18,e_s18,h⟩:=bnd h
  obtain⟨l19,e_l19,h⟩:=bnd h
  obtain⟨l20,e_l20,h⟩:=bnd h
  obtain⟨s21,e_s21,h⟩:=bnd h
  obtain⟨l22,e_l22,h⟩:=bnd h
  refine gq fol [3,4,7,10,11] (kU [(4,.ptr 1 0)]) (.cells [.i x1,.oslice 7 l22.length 9]::bZ::(kAj x4 x5 x1 n10 x7 (kBN (kAj x4 x5 x1 n10 x7 [.dead,bS l22])))) (ac (hs (.done (.opt (qx Tryz.prog 35 (vl qd l2) none (some (.i n11)) none)) (vl qd s18)) (xZ qdo (E:=qd) rfl none (some n11) e_s18)) (ac (hs (.run [3] (qP Tryz.prog [35,35] (.slice 3 0 0 0 9) (vl qd s18)) (kG x1 r.Slings (bZ::(kAj x4 x5 x1 n10 x7 [.cells []]))) (.oslice 4 l19.length 9) (kG x1 r.Slings (bZ::(kAj x4 x5 x1 n10 x7 [.dead,bS l19]))) true) (jH qdo (E:=qd) rfl (qeN (E:=qd) rfl _) (qhL (E:=qd) rfl rfl rfl e_l19 rfl))) (ac (hs (.run [4,5] (qP Tryz.prog [35,35] (.oslice 4 l19.length 9) (.slice 5 0 1 1 9)) (kG x1 r.Slings (bZ::(kAj x4 x5 x1 n10 x7 (.dead::bS l19::(kAj x4 x5 x1 n10 x7 []))))) (.oslice 6 l20.length 9) (kG x1 r.Slings (bZ::(kAj x4 x5 x1 n10 x7 (kBN (kAj x4 x5 x1 n10 x7 [bS l20]))))) true) (jH qdo (E:=qd) rfl (qa8 (E:=qd) (ys:=[(⟨x4,x5,x1,n10,x7,0,0,0,false⟩:qc)]) rfl rfl rfl rfl) (qgh (E:=qd) (l:=l19) rfl rfl rfl e_l20 rfl))) (ac (hs (.done (.opt (qx Tryz.prog 35 (vl qd l2) (some (.i n11)) none none)) (vl qd s21)) (xZ qdo (E:=qd) rfl (some n11) none e_s21)) (ac (hs (.run [6] (qP Tryz.prog [35,35] (.oslice 6 l20.length 9) (vl qd s21)) (kG x1 r.Slings (bZ::(kAj x4 x5 x1 n10 x7 (kBN (kAj x4 x5 x1 n10 x7 [bS l20]))))) (.oslice 7 l22.length 9) (kG x1 r.Slings (bZ::(kAj x4 x5 x1 n10 x7 (kBN (kAj x4 x5 x1 n10 x7 [.dead,bS l22]))))) true) (jH qdo (E:=qd) rfl (qeN (E:=qd) rfl _) (qgh (E:=qd) (l:=l20) rfl rfl rfl e_l22 rfl))) az))))) ?_
  refine sg fol [(4,.ptr 1 0)] (.cells [.i x1,.oslice 7 l22.length 9]:: .cells [.i x1,.oslice 7 l22.length 9]::(kAj x4 x5 x1 n10 x7 (kBN (kAj x4 x5 x1 n10 x7 [.dead,bS l22])))) ?_
  refine Goes.ret ?_
  obtain rfl:=si h
  exact(gw2 [.agg [.i x1,.oslice 7 l22.length 9]] (FzW.agg (qo.cons (FzW.still tI) (qo.cons (FzW.fz (Fz.os (E:=qd) rfl rfl (nl rfl))) qo.nil))))
 ·refine Goes.skip ?_
  refine sq ?_
  refine sh fol (kO (kAi [(5,.i x1),(6,.oslice 4 l2.length 9),(9,.i 0)])) ?_
  refine Goes.block ?_
  obtain⟨r26,g26,h⟩:=bnd h
  refine Goes.imp (Q:=fun x s'=>(x= .exit 2∧ ∃l25,l25=r26∧Sub s' (ofG 162 (kU [(4,.ptr 1 0),(6,.oslice 2 l25.length 9)]),(kG x1 r.Slings (kBU l25))))) ?_ ?_
  ·refine Goes.sub (s':=(ofG 162 (kO (kAi [(5,.i x1),(6,.oslice 3 l2.length 9),(9,.i 0)])),(kG x1 r.Slings (kW e (kBU l2))))) (Sub.norm [] [some 0,some 1,some 2,some 4] rfl rfl (.kp (.kp (.kp (.keep (.same nI) (.keep (.oslice rfl) (.keep (.same nI) .nil)))))) (.kb rfl (.same sn) (.kb rfl (.same sn) (.kb rfl (.same sn) (.ks .nil))))) ?_
   refine Goes.loopS (fun M s=> ∃(l23:List qc) (n24:Int),s=(ofG 162 (kH x1 l23 n24 []),(kG x1 r.Slings (kW e (kBU l23))))∧jD e x1 M l23 n24=some r26) ?_ (m:=N) ⟨_,_,rfl,g26⟩
   rintro M s ⟨l23,n24,rfl,g26⟩
   cases M with
   |zero=>simp only[jD]at g26;cases g26
   |succ M=>
    rw[jD]at g26
    refine sq ?_
    refine sh fol (kH x1 l23 n24 [(77,.bool (decide (n24<(l23.length:Int))))]) ?_
    refine ihD g26 (fun c27 g26=>?_) (fun c27 g26=>?_)
    ·refine Goes.skip ?_
     refine sq ?_
     obtain⟨r29,g29,g26⟩:=bnd g26
     refine Goes.imp (Q:=fun x s'=>(x= .normal∧ ∃l28,l28=r29∧Sub s' (ofG 162 (kH x1 l28 n24 []),(kG x1 r.Slings (kW e (kBU l28)))))) ?_ ?_
     ·refine Goes.block ?_
      obtain⟨x30,e_x30,g29⟩:=bnd g29
      obtain⟨x31,e_x31,g29⟩:=bnd g29
      refine sq (gr fol [2,4,7,8] (kH x1 l23 n24 (kBl (x30.Name==x31))) (ac (hs (.done (.opt (qz Tryz.prog 35 (.oslice 3 l23.length 9) (.i n24))) (.ptr 3 ((n24:Int).toNat*9+0))) (qeP qdo e_x30)) (ac (hs (.run [3] (jJ Tryz.prog 9 (.ptr 3 ((n24:Int).toNat*9+0))) (kG x1 r.Slings (kW e (kBU l23))) (.str x30.Name) (kG x1 r.Slings (kW e (kBU l23))) false) (qgo ce9 (E:=qd) (l:=l23) rfl rfl e_x30 (nl rfl) rfl)) (ac (iv jE encS e_x31) (ac (lv 0 ce9 encS e_x31 rfl) az)))) ?_)
      refine Goes.block ?_
      refine sq ?_
      obtain⟨b33,g_v34,g29⟩:=bnd g29
      refine Goes.cut (s':=(ofG 162 (kH x1 l23 n24 [(10,.bool (x30.Name==x31)),(90,.bool b33)]),(kG x1 r.Slings (kW e (kBU l23))))) ?_ ?_
      ·rcases wyB g_v34 with⟨c32,g_v34⟩|⟨c32,g_v34⟩
       ·obtain rfl:=si g_v34
        exact tr fol [3] (kH x1 l23 n24 [(10,.bool (x30.Name==x31)),(90,.bool (x30.Name==x31))]) (ac (gw c32) az)
       ·obtain rfl:=si g_v34
        exact tr fol [3] (kH x1 l23 n24 [(10,.bool (x30.Name==x31)),(90,.bool false)]) (ac (gw c32) az)
      refine ihB g29 (fun c35 g29=>?_) (fun c35 g29=>?_)
      ·obtain⟨x36,e_x36,g29⟩:=bnd g29
       obtain⟨l37,e_l37,g29⟩:=bnd g29
       refine sq (gq fol [4,5,7,9] (kH x1 l23 n24 []) (kG x1 r.Slings (kW e (kBU l37))) (ac (iv y7 encI e_x36) (ac (lv 0 ce3 encI e_x36 rfl) (ac (hs (.done (.opt (qz Tryz.prog 35 (.oslice 3 l23.length 9) (.i n24))) (.ptr 3 ((n24:Int).toNat*9+0))) (qeP qdo e_x30)) (ac (hs (.run [3] (qan Tryz.prog 3 (.ptr 3 ((n24:Int).toNat*9+6)) (.i (w64 (x36.tdiv 2)))) (kG x1 r.Slings (kW e (kBU l23))) .undef (kG x1 r.Slings (kW e (kBU l37))) true) (qdF (E:=qd) (l:=l23) (y:=(⟨x30.Name,x30.Batch,x30.Born,x30.Last,x30.Uses,x30.Used,w64 (x36.tdiv 2),x30.Until,x30.Gone⟩:qc)) rfl (show _=some 1 by kernel_rfl) rfl e_x30 rfl rfl rfl rfl rfl e_l37 rfl)) az)))) ?_)
       refine Goes.sub (show Sub (ofG 162 (kH x1 l23 n24 []),(kG x1 r.Slings (kW e (kBU l37)))) (ofG 162 (kH x1 l37 n24 []),(kG x1 r.Slings (kW e (kBU l37))))from(Sub.norm [] [some 0,some 1,some 2,some 3] rfl rfl (.kp (.kp (.kp (.keep (.same nI) (.keep (.osliceE rfl (qaC e_l37)) (.keep (.same nI) .nil)))))) (.kb rfl (.same sn) (.kb rfl (.same sn) (.kb rfl (.same sn) (.ks .nil)))))) ?_
       obtain⟨x38,e_x38,g29⟩:=bnd g29
       obtain⟨l39,e_l39,g29⟩:=bnd g29
       refine gq fol [6,8,10,12] (kH x1 l37 n24 []) (kG x1 r.Slings (kW e (kBU l39))) (ac (hs (.done (.opt (qz Tryz.prog 35 (.oslice 3 l37.length 9) (.i n24))) (.ptr 3 ((n24:Int).toNat*9+0))) (qeP qdo e_x38)) (ac (hs (.run [3] (jJ Tryz.prog 3 (.ptr 3 ((n24:Int).toNat*9+3))) (kG x1 r.Slings (kW e (kBU l37))) (.i x38.Last) (kG x1 r.Slings (kW e (kBU l37))) false) (qgo ce3 (E:=qd) (l:=l37) rfl rfl e_x38 (nl rfl) rfl)) (ac (hs (.done (.opt (qz Tryz.prog 35 (.oslice 3 l37.length 9) (.i n24))) (.ptr 3 ((n24:Int).toNat*9+0))) (qeP qdo e_x38)) (ac (hs (.run [3] (qan Tryz.prog 3 (.ptr 3 ((n24:Int).toNat*9+7)) (.i (if x38.Last<(w64 (x1+365))then x38.Last else(w64 (x1+365))))) (kG x1 r.Slings (kW e (kBU l37))) .undef (kG x1 r.Slings (kW e (kBU l39))) true) (qdF (E:=qd) (l:=l37) (y:=(⟨x38.Name,x38.Batch,x38.Born,x38.Last,x38.Uses,x38.Used,x38.Limit,(if x38.Last<(w64 (x1+365))then x38.Last else(w64 (x1+365))),x38.Gone⟩:qc)) rfl (show _=some 1 by kernel_rfl) rfl e_x38 rfl rfl rfl rfl rfl e_l39 rfl)) az)))) ?_
       obtain rfl:=si g29
       exact⟨rfl,_,rfl,((show Sub (ofG 162 (kH x1 l37 n24 []),(kG x1 r.Slings (kW e (kBU l39)))) (ofG 162 (kH x1 l39 n24 []),(kG x1 r.Slings (kW e (kBU l39))))from(Sub.norm [] [some 0,some 1,some 2,some 3] rfl rfl (.kp (.kp (.kp (.keep (.same nI) (.keep (.osliceE rfl (qaC e_l39)) (.keep (.same nI) .nil)))))) (.kb rfl (.same sn) (.kb rfl (.same sn) (.kb rfl (.same sn) (.ks .nil)))))).trans (Sub.refl _))⟩
      ·refine sq ?_
       obtain⟨b41,g_v42,g29⟩:=bnd g29
       refine Goes.cut (s':=(ofG 162 (kH x1 l23 n24 [(10,.bool (x30.Name==x31)),(118,.bool b41)]),(kG x1 r.Slings (kW e (kBU l23))))) ?_ ?_
       ·rcases wyB g_v42 with⟨c40,g_v42⟩|⟨c40,g_v42⟩
        ·obtain rfl:=si g_v42
         exact tr fol [3] (kH x1 l23 n24 [(10,.bool (x30.Name==x31)),(118,.bool (x30.Name==x31))]) (ac (gw c40) az)
        ·obtain rfl:=si g_v42
         exact tr fol [3] (kH x1 l23 n24 [(10,.bool (x30.Name==x31)),(118,.bool false)]) (ac (gw c40) az)
       refine ihB g29 (fun c43 g29=>?_) (fun c43 g29=>?_)
       ·obtain⟨l44,e_l44,g29⟩:=bnd g29
        refine gq fol [2,4,6,8] (kH x1 l23 n24 []) (kG x1 r.Slings (kW e (kBU l44))) (ac (hs (.done (.opt (qz Tryz.prog 35 (.oslice 3 l23.length 9) (.i n24))) (.ptr 3 ((n24:Int).toNat*9+0))) (qeP qdo e_x30)) (ac (hs (.run [3] (jJ Tryz.prog 3 (.ptr 3 ((n24:Int).toNat*9+5))) (kG x1 r.Slings (kW e (kBU l23))) (.i x30.Used) (kG x1 r.Slings (kW e (kBU l23))) false) (qgo ce3 (E:=qd) (l:=l23) rfl rfl e_x30 (nl rfl) rfl)) (ac (hs (.done (.opt (qz Tryz.prog 35 (.oslice 3 l23.length 9) (.i n24))) (.ptr 3 ((n24:Int).toNat*9+0))) (qeP qdo e_x30)) (ac (hs (.run [3] (qan Tryz.prog 3 (.ptr 3 ((n24:Int).toNat*9+5)) (.i (w64 (x30.Used+1)))) (kG x1 r.Slings (kW e (kBU l23))) .undef (kG x1 r.Slings (kW e (kBU l44))) true) (qdF (E:=qd) (l:=l23) (y:=(⟨x30.Name,x30.Batch,x30.Born,x30.Last,x30.Uses,w64 (x30.Used+1),x30.Limit,x30.Until,x30.Gone⟩:qc)) rfl (show _=some 1 by kernel_rfl) rfl e_x30 rfl rfl rfl rfl rfl e_l44 rfl)) az)))) ?_
        obtain rfl:=si g29
        exact⟨rfl,_,rfl,((show Sub (ofG 162 (kH x1 l23 n24 []),(kG x1 r.Slings (kW e (kBU l44)))) (ofG 162 (kH x1 l44 n24 []),(kG x1 r.Slings (kW e (kBU l44))))from(Sub.norm [] [some 0,some 1,some 2,some 3] rfl rfl (.kp (.kp (.kp (.keep (.same nI) (.keep (.osliceE rfl (qaC e_l44)) (.keep (.same nI) .nil)))))) (.kb rfl (.same sn) (.kb rfl (.same sn) (.kb rfl (.same sn) (.ks .nil)))))).trans (Sub.refl _))⟩
       ·refine sq ?_
        refine sq ?_
        obtain⟨b46,g_v47,g29⟩:=bnd g29
        refine Goes.cut (s':=(ofG 162 (kH x1 l23 n24 [(133,.bool b46)]),(kG x1 r.Slings (kW e (kBU l23))))) ?_ ?_
        ·rcases wyB g_v47 with⟨c45,g_v47⟩|⟨c45,g_v47⟩
         ·obtain rfl:=si g_v47
          exact tr fol [3] (kH x1 l23 n24 [(133,.bool (x30.Name==x31))]) (ac (gw c45) az)
         ·obtain rfl:=si g_v47
          exact tr fol [3] (kH x1 l23 n24 [(133,.bool false)]) (ac (gw c45) az)
        obtain⟨r49,g49,g29⟩:=bnd g29
        refine Goes.imp (Q:=fun x s'=>(x= .normal∧ ∃b48,b48=r49∧Sub s' (ofG 162 (kH x1 l23 n24 [(133,.bool b48)]),(kG x1 r.Slings (kW e (kBU l23)))))) ?_ ?_
        ·refine ihB g49 (fun c50 g49=>?_) (fun c50 g49=>?_)
         ·refine Goes.skip ?_
          obtain rfl:=si g49
          exact⟨rfl,_,rfl,(Sub.refl _)⟩
         ·obtain⟨b52,g_v53,g49⟩:=bnd g49
          refine Goes.cut (s':=(ofG 162 (kH x1 l23 n24 [(133,.bool b52)]),(kG x1 r.Slings (kW e (kBU l23))))) ?_ ?_
          ·rcases wyB g_v53 with⟨c51,g_v53⟩|⟨c51,g_v53⟩
           ·obtain rfl:=si g_v53
            exact tr fol [3,6,8,11,12] (kH x1 l23 n24 [(133,.bool (x30.Batch==x31))]) (ac (gw c51) (ac (hs (.done (.opt (qz Tryz.prog 35 (.oslice 3 l23.length 9) (.i n24))) (.ptr 3 ((n24:Int).toNat*9+0))) (qeP qdo e_x30)) (ac (hs (.run [3] (jJ Tryz.prog 9 (.ptr 3 ((n24:Int).toNat*9+1))) (kG x1 r.Slings (kW e (kBU l23))) (.str x30.Batch) (kG x1 r.Slings (kW e (kBU l23))) false) (qgo ce9 (E:=qd) (l:=l23) rfl rfl e_x30 (nl rfl) rfl)) (ac (iv jE encS e_x31) (ac (lv 0 ce9 encS e_x31 rfl) az)))))
           ·obtain rfl:=si g_v53
            exact tr fol [3] (kH x1 l23 n24 [(133,.bool false)]) (ac (gw c51) az)
          obtain rfl:=si g49
          exact⟨rfl,_,rfl,(Sub.refl _)⟩
        rintro x s' ⟨rfl,b48,rfl,hsub⟩
        refine Goes.sub hsub ?_
        refine ihB g29 (fun c54 g29=>?_) (fun c54 g29=>?_)
        ·obtain⟨l55,e_l55,g29⟩:=bnd g29
         refine gq fol [2,4] (kH x1 l23 n24 []) (kG x1 r.Slings (kW e (kBU l55))) (ac (hs (.done (.opt (qz Tryz.prog 35 (.oslice 3 l23.length 9) (.i n24))) (.ptr 3 ((n24:Int).toNat*9+0))) (qeP qdo e_x30)) (ac (hs (.run [3] (qan Tryz.prog 4 (.ptr 3 ((n24:Int).toNat*9+8)) (.bool true)) (kG x1 r.Slings (kW e (kBU l23))) .undef (kG x1 r.Slings (kW e (kBU l55))) true) (qdF (E:=qd) (l:=l23) (y:=(⟨x30.Name,x30.Batch,x30.Born,x30.Last,x30.Uses,x30.Used,x30.Limit,x30.Until,true⟩:qc)) rfl (show _=some 1 by kernel_rfl) rfl e_x30 rfl rfl rfl rfl rfl e_l55 rfl)) az)) ?_
         obtain rfl:=si g29
         exact⟨rfl,_,rfl,((show Sub (ofG 162 (kH x1 l23 n24 []),(kG x1 r.Slings (kW e (kBU l55)))) (ofG 162 (kH x1 l55 n24 []),(kG x1 r.Slings (kW e (kBU l55))))from(Sub.norm [] [some 0,some 1,some 2,some 3] rfl rfl (.kp (.kp (.kp (.keep (.same nI) (.keep (.osliceE rfl (qaC e_l55)) (.keep (.same nI) .nil)))))) (.kb rfl (.same sn) (.kb rfl (.same sn) (.kb rfl (.same sn) (.ks .nil)))))).trans (Sub.refl _))⟩
        ·refine Goes.skip ?_
         obtain rfl:=si g29
         exact⟨rfl,_,rfl,(Sub.keep [2,3,4,5,6,9] rfl rfl)⟩
     rintro x s' ⟨rfl,l28,rfl,hsub⟩
     refine Goes.sub hsub ?_
     refine gh fol (kH x1 l28 (w64 (n24+1)) []) ?_
     exact⟨M,(ofG 162 (kH x1 l28 (w64 (n24+1)) []),(kG x1 r.Slings (kW e (kBU l28)))),Nat.lt_succ_self _,(Sub.refl _),_,_,rfl,g26⟩
    ·refine Goes.exit ?_
     obtain rfl:=si g26
     exact⟨rfl,_,rfl,(Sub.norm [] [some 0,some 2,some 3] rfl rfl (.kp (.drop (.kp (.drop (.keep (.oslice rfl) .nil))))) (.kb rfl (.same sn) (.kb rfl (.same sn) (.ks .nil))))⟩
  rintro x s' ⟨rfl,l25,rfl,hsub⟩
  refine Goes.sub hsub ?_
  refine sg fol (kU [(4,.ptr 1 0)]) (.cells [.i x1,.oslice 2 l25.length 9]::(kBU l25)) ?_
  refine sg fol [(4,.ptr 1 0)] [.cells [.i x1,.oslice 2 l25.length 9],.cells [.i x1,.oslice 2 l25.length 9],bS l25] ?_
  refine Goes.ret ?_
  obtain rfl:=si h
  exact(gw2 [.agg [.i x1,.oslice 2 l25.length 9]] (FzW.agg (qo.cons (FzW.still tI) (qo.cons (FzW.fz (Fz.os (E:=qd) rfl rfl (nl rfl))) qo.nil))))
def zQ (N:Nat) (l:List qb):Nat→Int→(List qc)→Int→Option (Int×(List qc))
 |0,_,_,_=>none
 |K+1,n1,l2,n3=>
  if n3<(l.length:Int)then
  (idx l n3).bind fun x8=>
  (jN N (⟨n1,l2⟩:qD) x8).bind fun r9=>
  zQ N l K r9.Day r9.Slings (w64 (n3+1))
  else
  some (n1,l2)
def ji (N:Nat) (l:List qb):Option qD:=
 (zQ N l N 0 ([]:List qc) 0).bind fun(n4,l5)=>
 some (⟨n4,l5⟩:qD)
theorem qcz (N:Nat) (l:List qb) {res:qD} (h:ji N l=some res):qg Tryz.prog (.fn 84) [vl qa l] [] (.agg (kAr res.Day res.Slings)) []:=by
 unfold ji at h
 refine Goes.fnW Tryz.func84 rfl rfl (m:=18) rfl (rs:=[.cell 2 37]) rfl (l:=(kP l [])) rfl ?_
 refine sg fol (kP l (kU [])) [bZ] ?_
 refine sg fol (kP l (kO [])) [bZ,bZ] ?_
 refine sq ?_
 refine sh fol (kP l (kO kBu)) ?_
 refine Goes.block ?_
 obtain⟨r6,g6,h⟩:=bnd h
 refine Goes.imp (Q:=fun x s'=>(x= .exit 0∧ ∃n4 l5,(n4,l5)=r6∧Sub s' (ofG 18 (kO []),(bZ::(kG n4 l5 []))))) ?_ ?_
 ·refine Goes.sub (s':=(ofG 18 (kP l (kO kBu)),[bZ,.cells [.i 0,vl qd ([]:List qc)]])) (Sub.norm [] [some 0,some 1] rfl rfl (.keep (.same (qm qa _)) (.kp (.kp (.keep (.same nI) .nil)))) (.kb rfl (.same sn) (.kb rfl (.cells (rc (.same nI) (rc (.nilv) rn))) .nil))) ?_
  refine Goes.loopS (fun M s=> ∃(n1:Int) (l2:List qc) (n3:Int),s=(ofG 18 (kP l (kO (kBG n3))),(bZ::(kG n1 l2 [])))∧zQ N l M n1 l2 n3=some r6) ?_ (m:=N) ⟨_,_,_,rfl,g6⟩
  rintro M s ⟨n1,l2,n3,rfl,g6⟩
  cases M with
  |zero=>simp only[zQ]at g6;cases g6
  |succ M=>
   rw[zQ]at g6
   refine sq ?_
   refine sh fol (kP l (kO [(4,.i n3),(8,.bool (decide (n3<(l.length:Int))))])) ?_
   refine ihD g6 (fun c7 g6=>?_) (fun c7 g6=>?_)
   ·refine Goes.skip ?_
    refine sq (Goes.block ?_)
    obtain⟨x8,e_x8,g6⟩:=bnd g6
    obtain⟨r9,e_r9,g6⟩:=bnd g6
    refine gq fol [3,4,5] (kP l (kO (kBG n3))) (bZ::(kG r9.Day r9.Slings [])) (ac (iv zV qa e_x8) (ac (la qjb qa e_x8) (ac (cv (qhK N (⟨n1,l2⟩:qD) x8 e_r9)) az))) ?_
    refine gh fol (kP l (kO (kBG (w64 (n3+1))))) ?_
    exact⟨M,(ofG 18 (kP l (kO (kBG (w64 (n3+1))))),(bZ::(kG r9.Day r9.Slings []))),Nat.lt_succ_self _,(Sub.refl _),_,_,_,rfl,g6⟩
   ·refine Goes.exit ?_
    obtain rfl:=si g6
    exact⟨rfl,_,_,rfl,(Sub.keep [2,3] rfl rfl)⟩
 rintro x s' ⟨rfl,n4,l5,rfl,hsub⟩
 try dsimp only at h
 refine Goes.sub hsub ?_
 refine sg fol (kU []) (kG n4 l5 (kG n4 l5 [])) ?_
 refine Goes.ret ?_
 obtain rfl:=si h
 exact(gw2 [.agg (kAr n4 l5)] (FzW.agg (qo.cons (FzW.still tI) (qo.cons (FzW.still (ko qd _ (nl rfl))) qo.nil))))
def qab (r:qD) (name:Str):Nat→Int→Option (Unit⊕Int)
 |0,_=>none
 |K+1,n1=>
  if n1<(r.Slings.length:Int)then
  (idx r.Slings n1).bind fun x5=>
  if(x5.Name==name)=true then
  some (.inr n1)
  else
  qab r name K (w64 (n1+1))
  else
  some (.inl ())
def qeg (N:Nat) (r:qD) (name:Str):Option Int:=
 (qab r name N 0).bind (fun
 |(.inl ())=>
 some (-1)
 |(.inr q7)=>
 some q7)
theorem qkd (N:Nat) (r:qD) (name:Str) {res:Int} (h:qeg N r name=some res):qg Tryz.prog (.fn 27) (kAh r.Day r.Slings [.str name]) [] (.i res) []:=by
 unfold qeg at h
 refine Goes.fnW Tryz.func27 rfl rfl (m:=22) rfl (rs:=[.tmp 4]) rfl (l:=(kB7 r.Day r.Slings [(1,.str name)])) rfl ?_
 refine sg fol ((1,.str name)::(kU [])) (kG r.Day r.Slings []) ?_
 refine sq ?_
 refine sh fol ((1,.str name)::(kU [(5,.i 0)])) ?_
 refine Goes.block ?_
 obtain⟨r2,g2,h⟩:=bnd h
 refine Goes.imp (Q:=fun x s'=>(x= .exit 0∧(.inl ())=r2∧Sub s' (ofG 22 [],[]))∨(x= .ret∧ ∃q3,(.inr q3)=r2∧zl Tryz.prog [.tmp 4] (.i q3) .ret s')) ?_ ?_
 ·refine Goes.loopS (fun M s=> ∃(n1:Int),s=(ofG 22 ((1,.str name)::(kU (kAs n1))),(kG r.Day r.Slings []))∧qab r name M n1=some r2) ?_ (m:=N) ⟨_,rfl,g2⟩
  rintro M s ⟨n1,rfl,g2⟩
  cases M with
  |zero=>simp only[qab]at g2;cases g2
  |succ M=>
   rw[qab]at g2
   refine sq ?_
   refine sh fol ((1,.str name)::(kU ((5,.i n1)::(kBl (decide (n1<(r.Slings.length:Int))))))) ?_
   refine ihD g2 (fun c4 g2=>?_) (fun c4 g2=>?_)
   ·refine Goes.skip ?_
    refine sq (Goes.block ?_)
    obtain⟨x5,e_x5,g2⟩:=bnd g2
    refine sq (gr fol [3,5] ((1,.str name)::(kU [(5,.i n1),(20,.bool (x5.Name==name))])) (ac (iv qdo qd e_x5) (ac (lv 0 ce9 qd e_x5 rfl) az)) ?_)
    refine ihB g2 (fun c6 g2=>?_) (fun c6 g2=>?_)
    ·refine sh fol (kBG n1) ?_
     refine Goes.ret ?_
     obtain rfl:=si g2
     exact Or.inr (⟨rfl,_,rfl,(gw2 [.i n1] (FzW.still tI))⟩)
    ·refine Goes.skip ?_
     refine gh fol ((1,.str name)::(kU (kAs (w64 (n1+1))))) ?_
     exact⟨M,(ofG 22 ((1,.str name)::(kU (kAs (w64 (n1+1))))),(kG r.Day r.Slings [])),Nat.lt_succ_self _,(Sub.refl _),_,rfl,g2⟩
   ·refine Goes.exit ?_
    obtain rfl:=si g2
    exact Or.inl (⟨rfl,rfl,(Sub.norm [] [] rfl rfl .nil .nil)⟩)
 rintro x s' (⟨rfl,rfl,hsub⟩|⟨rfl,q7,rfl,hret⟩)
 ·try dsimp only at h
  refine Goes.sub hsub ?_
  refine sh fol [(4,.i (-1))] ?_
  refine Goes.ret ?_
  obtain rfl:=si h
  exact(gw2 [.i (-1)] (FzW.still tI))
 ·try dsimp only at h
  obtain rfl:=si h
  exact hret
def xP (s_:qc) (day:Int):Option Bool:=
 (if s_.Gone=true then
 some true
 else
 if day>s_.Last then
 some true
 else
 some (decide (s_.Used=s_.Uses)):Option Bool).bind fun b3=>
 some b3
theorem qcU (s_:qc) (day:Int) {res:Bool} (h:xP s_ day=some res):qg Tryz.prog (.fn 33) [.agg (cS s_),.i day] [] (.bool res) []:=by
 unfold xP at h
 refine Goes.fnW Tryz.func33 rfl rfl (m:=20) rfl (rs:=[.tmp 4]) rfl (l:=[(0,.agg (cS s_)),(1,.i day)]) rfl ?_
 refine sg fol ((1,.i day)::(kU [])) (kBL s_) ?_
 refine sq ?_
 obtain⟨b3,g_v4,h⟩:=bnd h
 refine Goes.cut (s':=(ofG 20 (kBI b3),(kBL s_))) ?_ ?_
 ·rcases wyB g_v4 with⟨c1,g_v4⟩|⟨c1,g_v4⟩
  ·obtain rfl:=si g_v4
   exact tr fol [2] kAq (ac (gw c1) az)
  ·rcases wyD g_v4 with⟨c2,g_v4⟩|⟨c2,g_v4⟩
   ·obtain rfl:=si g_v4
    exact tr fol [2,8] kAq (ac (gw c1) (ac (gw c2) az))
   ·obtain rfl:=si g_v4
    exact tr fol [2,8] (kBI (decide (s_.Used=s_.Uses))) (ac (gw c1) (ac (gw c2) az))
 refine Goes.ret ?_
 obtain rfl:=si h
 exact(gw2 [.bool b3] (FzW.still tB))
def qaN (s_:qc) (day:Int):Option Bool:=
 (if s_.Limit>0 then
 some (decide (day≤s_.Until))
 else
 some false:Option Bool).bind fun b2=>
 some b2
theorem qhe (s_:qc) (day:Int) {res:Bool} (h:qaN s_ day=some res):qg Tryz.prog (.fn 34) [.agg (cS s_),.i day] [] (.bool res) []:=by
 unfold qaN at h
 refine Goes.fnW Tryz.func34 rfl rfl (m:=14) rfl (rs:=[.tmp 4]) rfl (l:=[(0,.agg (cS s_)),(1,.i day)]) rfl ?_
 refine sg fol ((1,.i day)::(kU [])) (kBL s_) ?_
 refine sq ?_
 obtain⟨b2,g_v3,h⟩:=bnd h
 refine Goes.cut (s':=(ofG 14 (kBI b2),(kBL s_))) ?_ ?_
 ·rcases wyD g_v3 with⟨c1,g_v3⟩|⟨c1,g_v3⟩
  ·obtain rfl:=si g_v3
   exact tr fol [3] (kBI (decide (day≤s_.Until))) (ac (gw c1) az)
  ·obtain rfl:=si g_v3
   exact tr fol [3] kAI (ac (gw c1) az)
 refine Goes.ret ?_
 obtain rfl:=si h
 exact(gw2 [.bool b2] (FzW.still tB))
def jl (r:qD) (e:qb) (x1:Int):Nat→Bool→Bool→Int→Option (Bool×Bool)
 |0,_,_,_=>none
 |K+1,b19,b20,n21=>
  if n21<(r.Slings.length:Int)then
  (((idx r.Slings n21).bind fun x29=>
  (idx e.Names 0).bind fun x30=>
  if(x29.Batch==x30)=true then
  (if b20=true then
  some true
  else
  (xP x29 x1).bind fun r33=>
  some (!r33):Option Bool).bind fun b34=>
  some (true,b34)
  else
  some (b19,b20):Option (Bool×Bool))).bind fun(b26,b27)=>
  jl r e x1 K b26 b27 (w64 (n21+1))
  else
  some (b19,b20)
def jG (N:Nat) (r:qD) (e:qb):Option Int:=
 (idx e.Values 0).bind fun x1=>
 if x1>99999 then
 some 3
 else
 if x1<r.Day then
 some 19
 else
 (idx e.Names 0).bind fun x4=>
 (qeg N r x4).bind fun r5=>
 if(e.Kind==[109,97,107,101])=true then
 if r5≥0 then
 some 9
 else
 ((idx e.Values 1).bind fun x8=>
 (jP x8 1 9999).bind fun r9=>
 if r9=true then
 some true
 else
 (idx e.Values 2).bind fun x11=>
 (jP x11 1 9999).bind fun r12=>
 if r12=true then
 some true
 else
 some (decide ((w64 (x1+x8))>99999)):Option Bool).bind fun b14=>
 if b14=true then
 some 3
 else
 if(r.Slings.length:Int)≥256 then
 some 5
 else
 some 0
 else
 if(e.Kind==[114,101,99,97,108,108])=true then
 (jl r e x1 N false false 0).bind fun(b22,b23)=>
 if(!b22)=true then
 some 10
 else
 if(!b23)=true then
 some 20
 else
 some 0
 else
 if r5<0 then
 some 10
 else
 (idx r.Slings r5).bind fun x39=>
 (xP x39 x1).bind fun r40=>
 if r40=true then
 some 20
 else
 (if(e.Kind==[116,101,115,116])=true then
 (idx e.Values 1).bind fun x43=>
 (jP x43 2 999999999).bind fun r44=>
 some r44
 else
 some false:Option Bool).bind fun b45=>
 if b45=true then
 some 3
 else
 ((if(e.Kind==[117,115,101])=true then
 (qaN x39 x1).bind fun r51=>
 if(!r51)=true then
 some (.inr 24)
 else
 (idx e.Values 1).bind fun x53=>
 if x53>x39.Limit then
 some (.inr 31)
 else
 some (.inl ())
 else
 some (.inl ()):Option (Unit⊕Int))).bind (fun
 |(.inl ())=>
 some 0
 |(.inr q55)=>
 some q55)
theorem qfK (N:Nat) (r:qD) (e:qb) {res:Int} (h:jG N r e=some res):qg Tryz.prog (.fn 139) (kAh r.Day r.Slings [.agg (cE e)]) [] (.i res) []:=by
 unfold jG at h
 refine Goes.fnW Tryz.func139 rfl rfl (m:=127) rfl (rs:=[.tmp 4]) rfl (l:=(kB7 r.Day r.Slings [(1,.agg (cE e))])) rfl ?_
 refine sg fol (kO []) (kG r.Day r.Slings (kW e [])) ?_
 obtain⟨x1,e_x1,h⟩:=bnd h
 refine sq (gr fol [2,3] (kO (kAs x1)) (ac (iv y7 encI e_x1) (ac (lv 0 ce3 encI e_x1 rfl) az)) ?_)
 refine sq ?_
 refine sh fol (kO [(5,.i x1),(16,.bool (decide (x1>99999)))]) ?_
 refine ihD h (fun c2 h=>?_) (fun c2 h=>?_)
 ·refine sh fol [(4,.i 3)] ?_
  refine Goes.ret ?_
  obtain rfl:=si h
  exact(gw2 [.i 3] (FzW.still tI))
 ·refine Goes.skip ?_
  refine sq ?_
  refine sh fol (kO [(5,.i x1),(20,.bool (decide (x1<r.Day)))]) ?_
  refine ihD h (fun c3 h=>?_) (fun c3 h=>?_)
  ·refine sh fol [(4,.i 19)] ?_
   refine Goes.ret ?_
   obtain rfl:=si h
   exact(gw2 [.i 19] (FzW.still tI))
  ·refine Goes.skip ?_
   obtain⟨x4,e_x4,h⟩:=bnd h
   obtain⟨r5,e_r5,h⟩:=bnd h
   refine sq (gr fol [3,4,5] (kO (kB3 x1 r5 [])) (ac (iv jE encS e_x4) (ac (lv 0 ce9 encS e_x4 rfl) (ac (cv (qkd N r x4 e_r5)) az))) ?_)
   refine sq ?_
   refine sh fol (kO (kB3 x1 r5 [(28,.str e.Kind)])) ?_
   refine Goes.block ?_
   refine sh fol (kO (kB3 x1 r5 [(28,.str e.Kind),(29,.bool (e.Kind==[109,97,107,101]))])) ?_
   refine ihB h (fun c6 h=>?_) (fun c6 h=>?_)
   ·refine sq ?_
    refine sh fol (kO [(5,.i x1),(32,.bool (decide (r5≥0)))]) ?_
    refine ihD h (fun c7 h=>?_) (fun c7 h=>?_)
    ·refine sh fol [(4,.i 9)] ?_
     refine Goes.ret ?_
     obtain rfl:=si h
     exact(gw2 [.i 9] (FzW.still tI))
    ·refine Goes.skip ?_
     refine sq ?_
     refine sq ?_
     obtain⟨b14,g_v15,h⟩:=bnd h
     refine Goes.cut (s':=(ofG 127 (kU [(53,.bool b14)]),(kG r.Day r.Slings (kW e [])))) ?_ ?_
     ·obtain⟨x8,e_x8,g_v15⟩:=bnd g_v15
      obtain⟨r9,e_r9,g_v15⟩:=bnd g_v15
      rcases wyB g_v15 with⟨c10,g_v15⟩|⟨c10,g_v15⟩
      ·obtain rfl:=si g_v15
       exact tr fol [2,3,4,5] (kU [(53,.bool true)]) (ac (iv y7 encI e_x8) (ac (lv 0 ce3 encI e_x8 rfl) (ac (cv (jK x8 1 9999 e_r9)) (ac (gw c10) az))))
      ·obtain⟨x11,e_x11,g_v15⟩:=bnd g_v15
       obtain⟨r12,e_r12,g_v15⟩:=bnd g_v15
       rcases wyB g_v15 with⟨c13,g_v15⟩|⟨c13,g_v15⟩
       ·obtain rfl:=si g_v15
        exact tr fol [2,3,4,5,8,9,10,12] (kU [(53,.bool true)]) (ac (iv y7 encI e_x8) (ac (lv 0 ce3 encI e_x8 rfl) (ac (cv (jK x8 1 9999 e_r9)) (ac (gw c10) (ac (iv y7 encI e_x11) (ac (lv 0 ce3 encI e_x11 rfl) (ac (cv (jK x11 1 9999 e_r12)) (ac (gw c13) az))))))))
       ·obtain rfl:=si g_v15
        exact tr fol [2,3,4,5,8,9,10,12,16,17] (kU [(53,.bool (decide ((w64 (x1+x8))>99999)))]) (ac (iv y7 encI e_x8) (ac (lv 0 ce3 encI e_x8 rfl) (ac (cv (jK x8 1 9999 e_r9)) (ac (gw c10) (ac (iv y7 encI e_x11) (ac (lv 0 ce3 encI e_x11 rfl) (ac (cv (jK x11 1 9999 e_r12)) (ac (gw c13) (ac (iv y7 encI e_x8) (ac (lv 0 ce3 encI e_x8 rfl) az))))))))))
     refine ihB h (fun c16 h=>?_) (fun c16 h=>?_)
     ·refine sh fol [(4,.i 3)] ?_
      refine Goes.ret ?_
      obtain rfl:=si h
      exact(gw2 [.i 3] (FzW.still tI))
     ·refine Goes.skip ?_
      refine sq ?_
      refine sh fol [(57,.bool (decide ((r.Slings.length:Int)≥256)))] ?_
      refine ihD h (fun c17 h=>?_) (fun c17 h=>?_)
      ·refine sh fol [(4,.i 5)] ?_
       refine Goes.ret ?_
       obtain rfl:=si h
       exact(gw2 [.i 5] (FzW.still tI))
      ·refine Goes.skip ?_
       refine sh fol kBu ?_
       refine Goes.ret ?_
       obtain rfl:=si h
       exact(gw2 [.i 0] (FzW.still tI))
   ·refine sh fol (kO (kB3 x1 r5 [(58,.bool (e.Kind==[114,101,99,97,108,108]))])) ?_
    refine ihB h (fun c18 h=>?_) (fun c18 h=>?_)
    ·refine sh fol (kO [(5,.i x1),(7,.bool false),(8,.bool false)]) ?_
     refine sq ?_
     refine sh fol (kO [(5,.i x1),(7,.bool false),(8,.bool false),(9,.i 0)]) ?_
     refine Goes.block ?_
     obtain⟨r24,g24,h⟩:=bnd h
     refine Goes.imp (Q:=fun x s'=>(x= .exit 1∧ ∃b22 b23,(b22,b23)=r24∧Sub s' (ofG 127 [(7,.bool b22),(8,.bool b23)],[]))) ?_ ?_
     ·refine Goes.loopS (fun M s=> ∃(b19:Bool) (b20:Bool) (n21:Int),s=(ofG 127 (kO (kBk x1 b19 b20 n21 [])),(kG r.Day r.Slings (kW e [])))∧jl r e x1 M b19 b20 n21=some r24) ?_ (m:=N) ⟨_,_,_,rfl,g24⟩
      rintro M s ⟨b19,b20,n21,rfl,g24⟩
      cases M with
      |zero=>simp only[jl]at g24;cases g24
      |succ M=>
       rw[jl]at g24
       refine sq ?_
       refine sh fol (kO (kBk x1 b19 b20 n21 [(64,.bool (decide (n21<(r.Slings.length:Int))))])) ?_
       refine ihD g24 (fun c25 g24=>?_) (fun c25 g24=>?_)
       ·refine Goes.skip ?_
        refine sq ?_
        obtain⟨r28,g28,g24⟩:=bnd g24
        refine Goes.imp (Q:=fun x s'=>(x= .normal∧ ∃b26 b27,(b26,b27)=r28∧Sub s' (ofG 127 (kO (kBk x1 b26 b27 n21 [])),(kG r.Day r.Slings (kW e []))))) ?_ ?_
        ·refine Goes.block ?_
         obtain⟨x29,e_x29,g28⟩:=bnd g28
         obtain⟨x30,e_x30,g28⟩:=bnd g28
         refine sq (gr fol [3,5,8,9] (kO (kBk x1 b19 b20 n21 [(77,.bool (x29.Batch==x30))])) (ac (iv qdo qd e_x29) (ac (lv 1 ce9 qd e_x29 rfl) (ac (iv jE encS e_x30) (ac (lv 0 ce9 encS e_x30 rfl) az)))) ?_)
         refine ihB g28 (fun c31 g28=>?_) (fun c31 g28=>?_)
         ·refine sh fol (kO [(5,.i x1),(7,.bool true),(8,.bool b20),(9,.i n21)]) ?_
          obtain⟨b34,g_v35,g28⟩:=bnd g28
          refine Goes.cut (s':=(ofG 127 (kO [(5,.i x1),(7,.bool true),(8,.bool b34),(9,.i n21)]),(kG r.Day r.Slings (kW e [])))) ?_ ?_
          ·rcases wyB g_v35 with⟨c32,g_v35⟩|⟨c32,g_v35⟩
           ·obtain rfl:=si g_v35
            exact tr fol [1] (kO [(5,.i x1),(7,.bool true),(8,.bool true),(9,.i n21)]) (ac (gw c32) az)
           ·obtain⟨r33,e_r33,g_v35⟩:=bnd g_v35
            obtain rfl:=si g_v35
            exact tr fol [1,5,6,8] (kO [(5,.i x1),(7,.bool true),(8,.bool (!r33)),(9,.i n21)]) (ac (gw c32) (ac (iv qdo qd e_x29) (ac (la ag60 qd e_x29) (ac (cv (qcU x29 x1 e_r33)) az))))
          obtain rfl:=si g28
          exact⟨rfl,_,_,rfl,(Sub.refl _)⟩
         ·refine Goes.skip ?_
          obtain rfl:=si g28
          exact⟨rfl,_,_,rfl,(Sub.keep [2,3,5,7,8,9] rfl rfl)⟩
        rintro x s' ⟨rfl,b26,b27,rfl,hsub⟩
        try dsimp only at g24
        refine Goes.sub hsub ?_
        refine gh fol (kO (kBk x1 b26 b27 (w64 (n21+1)) [])) ?_
        exact⟨M,(ofG 127 (kO (kBk x1 b26 b27 (w64 (n21+1)) [])),(kG r.Day r.Slings (kW e []))),Nat.lt_succ_self _,(Sub.refl _),_,_,_,rfl,g24⟩
       ·refine Goes.exit ?_
        obtain rfl:=si g24
        exact⟨rfl,_,_,rfl,(Sub.norm [] [] rfl rfl (.drop (.drop (.drop (.keep (.same nB) (.keep (.same nB) .nil))))) .nil)⟩
     rintro x s' ⟨rfl,b22,b23,rfl,hsub⟩
     try dsimp only at h
     refine Goes.sub hsub ?_
     refine sq ?_
     refine sh fol [(8,.bool b23),(90,.bool (!b22))] ?_
     refine ihB h (fun c36 h=>?_) (fun c36 h=>?_)
     ·refine sh fol [(4,.i 10)] ?_
      refine Goes.ret ?_
      obtain rfl:=si h
      exact(gw2 [.i 10] (FzW.still tI))
     ·refine Goes.skip ?_
      refine sq ?_
      refine sh fol [(92,.bool (!b23))] ?_
      refine ihB h (fun c37 h=>?_) (fun c37 h=>?_)
      ·refine sh fol [(4,.i 20)] ?_
       refine Goes.ret ?_
       obtain rfl:=si h
       exact(gw2 [.i 20] (FzW.still tI))
      ·refine Goes.skip ?_
       refine sh fol kBu ?_
       refine Goes.ret ?_
       obtain rfl:=si h
       exact(gw2 [.i 0] (FzW.still tI))
    ·refine Goes.skip ?_
     refine sq ?_
     refine sh fol (kO (kB3 x1 r5 [(94,.bool (decide (r5<0)))])) ?_
     refine ihD h (fun c38 h=>?_) (fun c38 h=>?_)
     ·refine sh fol [(4,.i 10)] ?_
      refine Goes.ret ?_
      obtain rfl:=si h
      exact(gw2 [.i 10] (FzW.still tI))
     ·refine Goes.skip ?_
      obtain⟨x39,e_x39,h⟩:=bnd h
      refine sq (gq fol [3,4] (kBF x1 []) (kG r.Day r.Slings (kW e (kBL x39))) (ac (iv qdo qd e_x39) (ac (la ag60 qd e_x39) az)) ?_)
      refine sq ?_
      obtain⟨r40,e_r40,h⟩:=bnd h
      refine sq (gr fol [2] (kBF x1 [(102,.bool r40)]) (ac (cv (qcU x39 x1 e_r40)) az) ?_)
      refine ihB h (fun c41 h=>?_) (fun c41 h=>?_)
      ·refine sh fol [(4,.i 20)] ?_
       refine Goes.ret ?_
       obtain rfl:=si h
       exact(gw2 [.i 20] (FzW.still tI))
      ·refine Goes.skip ?_
       refine sq ?_
       refine sq ?_
       obtain⟨b45,g_v46,h⟩:=bnd h
       refine Goes.cut (s':=(ofG 127 (kBF x1 [(112,.bool b45)]),(kG r.Day r.Slings (kW e (kBL x39))))) ?_ ?_
       ·rcases wyB g_v46 with⟨c42,g_v46⟩|⟨c42,g_v46⟩
        ·obtain⟨x43,e_x43,g_v46⟩:=bnd g_v46
         obtain⟨r44,e_r44,g_v46⟩:=bnd g_v46
         obtain rfl:=si g_v46
         exact tr fol [3,6,7,8] (kBF x1 [(112,.bool r44)]) (ac (gw c42) (ac (iv y7 encI e_x43) (ac (lv 0 ce3 encI e_x43 rfl) (ac (cv (jK x43 2 999999999 e_r44)) az))))
        ·obtain rfl:=si g_v46
         exact tr fol [3] (kBF x1 [(112,.bool false)]) (ac (gw c42) az)
       refine ihB h (fun c47 h=>?_) (fun c47 h=>?_)
       ·refine sh fol [(4,.i 3)] ?_
        refine Goes.ret ?_
        obtain rfl:=si h
        exact(gw2 [.i 3] (FzW.still tI))
       ·refine Goes.skip ?_
        refine sq ?_
        refine sh fol (kBF x1 [(115,.bool (e.Kind==[117,115,101]))]) ?_
        obtain⟨r48,g48,h⟩:=bnd h
        refine Goes.imp (Q:=fun x s'=>(x= .normal∧(.inl ())=r48∧Sub s' (ofG 127 [],[]))∨(x= .ret∧ ∃q49,(.inr q49)=r48∧zl Tryz.prog [.tmp 4] (.i q49) .ret s')) ?_ ?_
        ·refine ihB g48 (fun c50 g48=>?_) (fun c50 g48=>?_)
         ·refine sq ?_
          obtain⟨r51,e_r51,g48⟩:=bnd g48
          refine sq (gr fol [2] [(3,.ptr 1 0),(10,.ptr 2 0),(119,.bool (!r51))] (ac (cv (qhe x39 x1 e_r51)) az) ?_)
          refine ihB g48 (fun c52 g48=>?_) (fun c52 g48=>?_)
          ·refine sh fol [(4,.i 24)] ?_
           refine Goes.ret ?_
           obtain rfl:=si g48
           exact Or.inr (⟨rfl,_,rfl,(gw2 [.i 24] (FzW.still tI))⟩)
          ·refine Goes.skip ?_
           obtain⟨x53,e_x53,g48⟩:=bnd g48
           refine sq (gr fol [2,3] [(126,.bool (decide (x53>x39.Limit)))] (ac (iv y7 encI e_x53) (ac (lv 0 ce3 encI e_x53 rfl) az)) ?_)
           refine ihD g48 (fun c54 g48=>?_) (fun c54 g48=>?_)
           ·refine sh fol [(4,.i 31)] ?_
            refine Goes.ret ?_
            obtain rfl:=si g48
            exact Or.inr (⟨rfl,_,rfl,(gw2 [.i 31] (FzW.still tI))⟩)
           ·refine Goes.skip ?_
            obtain rfl:=si g48
            exact Or.inl (⟨rfl,rfl,(Sub.norm [] [] rfl rfl .nil .nil)⟩)
         ·refine Goes.skip ?_
          obtain rfl:=si g48
          exact Or.inl (⟨rfl,rfl,(Sub.norm [] [] rfl rfl .nil .nil)⟩)
        rintro x s' (⟨rfl,rfl,hsub⟩|⟨rfl,q55,rfl,hret⟩)
        ·try dsimp only at h
         refine Goes.sub hsub ?_
         refine sh fol kBu ?_
         refine Goes.ret ?_
         obtain rfl:=si h
         exact(gw2 [.i 0] (FzW.still tI))
        ·try dsimp only at h
         obtain rfl:=si h
         exact hret
def jr (N:Nat) (l:List qb):Nat→(List qb)→Int→Option ((List qb)⊕((List qb)×Int×Int))
 |0,_,_=>none
 |K+1,l1,n2=>
  if n2<(l.length:Int)then
  (((idx l n2).bind fun x10=>
  (y8 N x10).bind fun r11=>
  (if r11=0 then
  some (!decide (x10.Number=(w64 (n2+1))))
  else
  some false:Option Bool).bind fun b13=>
  ((if b13=true then
  some 11
  else
  some r11:Option Int)).bind fun n15=>
  (if n15=0 then
  if(x10.Kind==[117,110,100,111])=true then
  some (decide ((l1.length:Int)=0))
  else
  some false
  else
  some false:Option Bool).bind fun b20=>
  ((if b20=true then
  some 12
  else
  some n15:Option Int)).bind fun n22=>
  (if n22=0 then
  some (!(x10.Kind==[117,110,100,111]))
  else
  some false:Option Bool).bind fun b26=>
  ((if b26=true then
  (ji N l1).bind fun r31=>
  (jG N r31 x10).bind fun r32=>
  some r32
  else
  some n22:Option Int)).bind fun n28=>
  if(!decide (n28=0))=true then
  some (.inr ([],w64 (n2+1),n28))
  else
  if(x10.Kind==[117,110,100,111])=true then
  (cut l1 0 (w64 ((l1.length:Int)-1))).bind fun s35=>
  some (.inl s35)
  else
  (app 88 ([]:List qb) l1).bind fun l36=>
  (app 88 l36 [x10]).bind fun l37=>
  some (.inl l37):Option ((List qb)⊕((List qb)×Int×Int)))).bind (fun
  |(.inl l7)=>
  jr N l K l7 (w64 (n2+1))
  |(.inr q38)=>
  some (.inr q38))
  else
  some (.inl l1)
def xN (N:Nat) (l:List qb):Option ((List qb)×Int×Int):=
 (jr N l N ([]:List qb) 0).bind (fun
 |(.inl l3)=>
 some (l3,0,0)
 |(.inr q39)=>
 some q39)
theorem qfG (N:Nat) (l:List qb) {res:(List qb)×Int×Int} (h:xN N l=some res):qg Tryz.prog (.fn 83) [vl qa l] [] (.tuple [vl qa res.1,.i res.2.1,.i res.2.2]) []:=by
 unfold xN at h
 refine Goes.fnW Tryz.func83 rfl rfl (m:=82) rfl (rs:=[.tmp 2,.tmp 3,.tmp 4]) rfl (l:=(kP l [])) rfl ?_
 refine sh fol (kP l []) ?_
 refine sh fol (kP l [(5,.nilslice)]) ?_
 refine sq ?_
 refine sh fol (kP l [(5,.nilslice),(6,.i 0)]) ?_
 refine Goes.block ?_
 obtain⟨r4,g4,h⟩:=bnd h
 refine Goes.imp (Q:=fun x s'=>(x= .exit 0∧ ∃l3,(.inl l3)=r4∧Sub s' (ofG 82 [(5,vl qa l3)],[]))∨(x= .ret∧ ∃q5,(.inr q5)=r4∧zl Tryz.prog [.tmp 2,.tmp 3,.tmp 4] (.tuple [vl qa q5.1,.i q5.2.1,.i q5.2.2]) .ret s')) ?_ ?_
 ·refine Goes.sub (s':=(ofG 82 (kP l [(5,vl qa ([]:List qb)),(6,.i 0)]),[])) (Sub.norm [] [] rfl rfl (.keep (.same (qm qa _)) (.keep .nilv (.keep (.same nI) .nil))) .nil) ?_
  refine Goes.loopS (fun M s=> ∃(l1:List qb) (n2:Int),s=(ofG 82 (kP l (kAD l1 n2 [])),[])∧jr N l M l1 n2=some r4) ?_ (m:=N) ⟨_,_,rfl,g4⟩
  rintro M s ⟨l1,n2,rfl,g4⟩
  cases M with
  |zero=>simp only[jr]at g4;cases g4
  |succ M=>
   rw[jr]at g4
   refine sq ?_
   refine sh fol (kP l (kAD l1 n2 [(12,.bool (decide (n2<(l.length:Int))))])) ?_
   refine ihD g4 (fun c6 g4=>?_) (fun c6 g4=>?_)
   ·refine Goes.skip ?_
    refine sq ?_
    obtain⟨r8,g8,g4⟩:=bnd g4
    refine Goes.imp (Q:=fun x s'=>(x= .normal∧ ∃l7,(.inl l7)=r8∧Sub s' (ofG 82 (kP l (kAD l7 n2 [])),[]))∨(x= .ret∧ ∃q9,(.inr q9)=r8∧zl Tryz.prog [.tmp 2,.tmp 3,.tmp 4] (.tuple [vl qa q9.1,.i q9.2.1,.i q9.2.2]) .ret s')) ?_ ?_
    ·refine Goes.block ?_
     obtain⟨x10,e_x10,g8⟩:=bnd g8
     obtain⟨r11,e_r11,g8⟩:=bnd g8
     refine sq (gr fol [2,3,4] (kP l (kAD l1 n2 [(7,.i r11)])) (ac (iv zV qa e_x10) (ac (la qjb qa e_x10) (ac (cv (qeB N x10 e_r11)) az))) ?_)
     refine sq ?_
     refine sq ?_
     obtain⟨b13,g_v14,g8⟩:=bnd g8
     refine Goes.cut (s':=(ofG 82 (kP l (kAD l1 n2 [(7,.i r11),(31,.bool b13)])),[])) ?_ ?_
     ·rcases wyD g_v14 with⟨c12,g_v14⟩|⟨c12,g_v14⟩
      ·obtain rfl:=si g_v14
       exact tr fol [2,5,7] (kP l (kAD l1 n2 [(7,.i r11),(31,.bool (!decide (x10.Number=(w64 (n2+1)))))])) (ac (gw c12) (ac (iv zV qa e_x10) (ac (lv 0 ce3 qa e_x10 rfl) az)))
      ·obtain rfl:=si g_v14
       exact tr fol [2] (kP l (kAD l1 n2 [(7,.i r11),(31,.bool false)])) (ac (gw c12) az)
     obtain⟨r16,g16,g8⟩:=bnd g8
     refine Goes.imp (Q:=fun x s'=>(x= .normal∧ ∃n15,n15=r16∧Sub s' (ofG 82 (kP l (kAD l1 n2 [(7,.i n15)])),[]))) ?_ ?_
     ·refine ihB g16 (fun c17 g16=>?_) (fun c17 g16=>?_)
      ·refine gh fol (kP l (kAD l1 n2 [(7,.i 11)])) ?_
       obtain rfl:=si g16
       exact⟨rfl,_,rfl,(Sub.refl _)⟩
      ·refine Goes.skip ?_
       obtain rfl:=si g16
       exact⟨rfl,_,rfl,(Sub.keep [0,5,6,7] rfl rfl)⟩
     rintro x s' ⟨rfl,n15,rfl,hsub⟩
     refine Goes.sub hsub ?_
     refine sq (gr fol [2,4] (kP l (kAD l1 n2 (kBH n15 (x10.Kind==[117,110,100,111]) []))) (ac (iv zV qa e_x10) (ac (lv 1 ce9 qa e_x10 rfl) az)) ?_)
     refine sq ?_
     refine sq ?_
     obtain⟨b20,g_v21,g8⟩:=bnd g8
     refine Goes.cut (s':=(ofG 82 (kP l (kAD l1 n2 (kBH n15 (x10.Kind==[117,110,100,111]) [(47,.bool b20)]))),[])) ?_ ?_
     ·rcases wyD g_v21 with⟨c18,g_v21⟩|⟨c18,g_v21⟩
      ·rcases wyB g_v21 with⟨c19,g_v21⟩|⟨c19,g_v21⟩
       ·obtain rfl:=si g_v21
        exact tr fol [2,5] (kP l (kAD l1 n2 (kBH n15 (x10.Kind==[117,110,100,111]) [(47,.bool (decide ((l1.length:Int)=0)))]))) (ac (gw c18) (ac (gw c19) az))
       ·obtain rfl:=si g_v21
        exact tr fol [2,5] (kP l (kAD l1 n2 (kBH n15 (x10.Kind==[117,110,100,111]) [(47,.bool false)]))) (ac (gw c18) (ac (gw c19) az))
      ·obtain rfl:=si g_v21
       exact tr fol [2] (kP l (kAD l1 n2 (kBH n15 (x10.Kind==[117,110,100,111]) [(47,.bool false)]))) (ac (gw c18) az)
     obtain⟨r23,g23,g8⟩:=bnd g8
     refine Goes.imp (Q:=fun x s'=>(x= .normal∧ ∃n22,n22=r23∧Sub s' (ofG 82 (kP l (kAD l1 n2 (kBH n22 (x10.Kind==[117,110,100,111]) []))),[]))) ?_ ?_
     ·refine ihB g23 (fun c24 g23=>?_) (fun c24 g23=>?_)
      ·refine gh fol (kP l (kAD l1 n2 [(7,.i 12),(8,.bool (x10.Kind==[117,110,100,111]))])) ?_
       obtain rfl:=si g23
       exact⟨rfl,_,rfl,(Sub.refl _)⟩
      ·refine Goes.skip ?_
       obtain rfl:=si g23
       exact⟨rfl,_,rfl,(Sub.keep [0,5,6,7,8] rfl rfl)⟩
     rintro x s' ⟨rfl,n22,rfl,hsub⟩
     refine Goes.sub hsub ?_
     refine sq ?_
     refine sq ?_
     obtain⟨b26,g_v27,g8⟩:=bnd g8
     refine Goes.cut (s':=(ofG 82 (kP l (kAD l1 n2 (kBH n22 (x10.Kind==[117,110,100,111]) [(53,.bool b26)]))),[])) ?_ ?_
     ·rcases wyD g_v27 with⟨c25,g_v27⟩|⟨c25,g_v27⟩
      ·obtain rfl:=si g_v27
       exact tr fol [2] (kP l (kAD l1 n2 (kBH n22 (x10.Kind==[117,110,100,111]) [(53,.bool (!(x10.Kind==[117,110,100,111])))]))) (ac (gw c25) az)
      ·obtain rfl:=si g_v27
       exact tr fol [2] (kP l (kAD l1 n2 (kBH n22 (x10.Kind==[117,110,100,111]) [(53,.bool false)]))) (ac (gw c25) az)
     obtain⟨r29,g29,g8⟩:=bnd g8
     refine Goes.imp (Q:=fun x s'=>(x= .normal∧ ∃n28,n28=r29∧Sub s' (ofG 82 (kP l (kAD l1 n2 (kBH n28 (x10.Kind==[117,110,100,111]) []))),[]))) ?_ ?_
     ·refine ihB g29 (fun c30 g29=>?_) (fun c30 g29=>?_)
      ·obtain⟨r31,e_r31,g29⟩:=bnd g29
       obtain⟨r32,e_r32,g29⟩:=bnd g29
       refine gr fol [1,4,5,6] (kP l (kAD l1 n2 (kBH r32 (x10.Kind==[117,110,100,111]) []))) (ac (cv (qcz N l1 e_r31)) (ac (iv zV qa e_x10) (ac (la qjb qa e_x10) (ac (cv (qfK N r31 x10 e_r32)) az)))) ?_
       obtain rfl:=si g29
       exact⟨rfl,_,rfl,(Sub.refl _)⟩
      ·refine Goes.skip ?_
       obtain rfl:=si g29
       exact⟨rfl,_,rfl,(Sub.keep [0,5,6,7,8] rfl rfl)⟩
     rintro x s' ⟨rfl,n28,rfl,hsub⟩
     refine Goes.sub hsub ?_
     refine sq ?_
     refine sh fol (kP l (kAD l1 n2 (kBH n28 (x10.Kind==[117,110,100,111]) [(62,.bool (!decide (n28=0)))]))) ?_
     refine ihB g8 (fun c33 g8=>?_) (fun c33 g8=>?_)
     ·refine sh fol ((2,.nilslice)::(3,.i (w64 (n2+1)))::(kBG n28)) ?_
      refine Goes.ret ?_
      obtain rfl:=si g8
      exact Or.inr (⟨rfl,_,rfl,(gw2 [.nilslice,.i (w64 (n2+1)),.i n28] (FzW.tuple (qo.cons (FzW.nilv (E:=qa)) (qo.cons (FzW.still tI) (qo.cons (FzW.still tI) qo.nil)))))⟩)
     ·refine Goes.skip ?_
      refine sh fol (kP l (kAD l1 n2 [(66,.bool (x10.Kind==[117,110,100,111]))])) ?_
      refine ihB g8 (fun c34 g8=>?_) (fun c34 g8=>?_)
      ·obtain⟨s35,e_s35,g8⟩:=bnd g8
       refine gr fol [4] (kP l (kAD s35 n2 [])) (ac (hs (.done (.opt (qx Tryz.prog 22 (vl qa l1) none (some (.i (w64 ((l1.length:Int)-1)))) none)) (vl qa s35)) (xZ zV (E:=qa) rfl none (some (w64 ((l1.length:Int)-1))) e_s35)) az) ?_
       obtain rfl:=si g8
       exact Or.inl (⟨rfl,_,rfl,(Sub.refl _)⟩)
      ·obtain⟨l36,e_l36,g8⟩:=bnd g8
       obtain⟨l37,e_l37,g8⟩:=bnd g8
       refine gq fol [2,5,6,8] (kP l [(5,.oslice 3 l37.length 5),(6,.i n2)]) (kBN (kW x10 (kJ l37 []))) (ac (hs (.run [0] (qP Tryz.prog [22,22] (.slice 0 0 0 0 5) (vl qa l1)) [.cells []] (.oslice 1 l36.length 5) (.dead::(kJ l36 [])) true) (jH zV (E:=qa) rfl (qeN (E:=qa) rfl _) (qhL (E:=qa) rfl rfl rfl e_l36 rfl))) (ac (iv zV qa e_x10) (ac (la qjb qa e_x10) (ac (hs (.run [1,2] (qP Tryz.prog [22,22] (.oslice 1 l36.length 5) (.slice 2 0 1 1 5)) (.dead::(kJ l36 (kW x10 []))) (.oslice 3 l37.length 5) (kBN (kW x10 (kJ l37 []))) true) (jH zV (E:=qa) rfl (qa8 (E:=qa) (ys:=[x10]) rfl rfl rfl rfl) (qgh (E:=qa) (l:=l36) rfl rfl rfl e_l37 rfl))) az)))) ?_
       obtain rfl:=si g8
       exact Or.inl (⟨rfl,_,rfl,(Sub.norm [3] [] rfl rfl (.keep (.same (qm qa _)) (.keep (.frz (Fz.os (E:=qa) rfl rfl (nl rfl)) (qm qa _)) (.keep (.same nI) .nil))) .nil)⟩)
    rintro x s' (⟨rfl,l7,rfl,hsub⟩|⟨rfl,q38,rfl,hret⟩)
    ·try dsimp only at g4
     refine Goes.sub hsub ?_
     refine gh fol (kP l (kAD l7 (w64 (n2+1)) [])) ?_
     exact⟨M,(ofG 82 (kP l (kAD l7 (w64 (n2+1)) [])),[]),Nat.lt_succ_self _,(Sub.refl _),_,_,rfl,g4⟩
    ·try dsimp only at g4
     obtain rfl:=si g4
     exact Or.inr (⟨rfl,_,rfl,hret⟩)
   ·refine Goes.exit ?_
    obtain rfl:=si g4
    exact Or.inl (⟨rfl,_,rfl,(Sub.keep [5] rfl rfl)⟩)
 rintro x s' (⟨rfl,l3,rfl,hsub⟩|⟨rfl,q39,rfl,hret⟩)
 ·try dsimp only at h
  refine Goes.sub hsub ?_
  refine sh fol ((2,vl qa l3)::(3,.i 0)::kBu) ?_
  refine Goes.ret ?_
  obtain rfl:=si h
  exact(gw2 [vl qa l3,.i 0,.i 0] (FzW.tuple (qo.cons (FzW.still (ko qa _ (nl rfl))) (qo.cons (FzW.still tI) (qo.cons (FzW.still tI) qo.nil)))))
 ·try dsimp only at h
  obtain rfl:=si h
  exact hret
def yN (N:Nat) (l:List qb):Option (qD×Int×Int):=
 if(l.length:Int)>1000 then
 some ((⟨0,[]⟩:qD),0,5)
 else
 (xN N l).bind fun r2=>
 if(!decide (r2.2.2=0))=true then
 some ((⟨0,[]⟩:qD),r2.2.1,r2.2.2)
 else
 (ji N r2.1).bind fun r4=>
 some (r4,0,0)
theorem qgs (N:Nat) (l:List qb) {res:qD×Int×Int} (h:yN N l=some res):qg Tryz.prog (.fn 17) [vl qa l] [] (.tuple (kAh res.1.Day res.1.Slings [.i res.2.1,.i res.2.2])) []:=by
 unfold yN at h
 refine Goes.fnW Tryz.func17 rfl rfl (m:=25) rfl (rs:=[.cell 2 37,.tmp 3,.tmp 4]) rfl (l:=(kP l [])) rfl ?_
 refine sg fol (kP l (kU [])) [bZ] ?_
 refine sq ?_
 refine sh fol (kP l (kU (kBl (decide ((l.length:Int)>1000))))) ?_
 refine ihD h (fun c1 h=>?_) (fun c1 h=>?_)
 ·refine sh fol (kU [(3,.i 0),(4,.i 5)]) ?_
  refine Goes.ret ?_
  obtain rfl:=si h
  exact(gw2 [.agg [.i 0,.nilslice],.i 0,.i 5] (FzW.tuple (qo.cons (FzW.agg (qo.cons (FzW.still tI) (qo.cons (FzW.nilv (E:=qd)) qo.nil))) (qo.cons (FzW.still tI) (qo.cons (FzW.still tI) qo.nil)))))
 ·refine Goes.skip ?_
  obtain⟨r2,e_r2,h⟩:=bnd h
  refine sq (gr fol [1] (kU (kAD r2.1 r2.2.1 [(7,.i r2.2.2)])) (ac (cv (qfG N l e_r2)) az) ?_)
  refine sq ?_
  refine sh fol (kU (kAD r2.1 r2.2.1 [(7,.i r2.2.2),(19,.bool (!decide (r2.2.2=0)))])) ?_
  refine ihB h (fun c3 h=>?_) (fun c3 h=>?_)
  ·refine sh fol (kU ((3,.i r2.2.1)::(kBG r2.2.2))) ?_
   refine Goes.ret ?_
   obtain rfl:=si h
   exact(gw2 [.agg [.i 0,.nilslice],.i r2.2.1,.i r2.2.2] (FzW.tuple (qo.cons (FzW.agg (qo.cons (FzW.still tI) (qo.cons (FzW.nilv (E:=qd)) qo.nil))) (qo.cons (FzW.still tI) (qo.cons (FzW.still tI) qo.nil)))))
  ·refine Goes.skip ?_
   obtain⟨r4,e_r4,h⟩:=bnd h
   refine sq (gq fol [1] (kU ((3,.i 0)::kBu)) (kG r4.Day r4.Slings []) (ac (cv (qcz N r2.1 e_r4)) az) ?_)
   refine Goes.ret ?_
   obtain rfl:=si h
   exact(gw2 (kAh r4.Day r4.Slings [.i 0,.i 0]) (FzW.tuple (qo.cons (FzW.agg (qo.cons (FzW.still tI) (qo.cons (FzW.still (ko qd _ (nl rfl))) qo.nil))) (qo.cons (FzW.still tI) (qo.cons (FzW.still tI) qo.nil)))))
def stringslite_IndexByte (s_:Str) (c:Int):Option Int:=
 (qhG s_ c).bind fun r1=>
 some r1
theorem qaB (s_:Str) (c:Int) {res:Int} (h:stringslite_IndexByte s_ c=some res):qg Tryz.prog (.fn 173) [.str s_,.int .u8 c] [] (.i res) []:=by
 unfold stringslite_IndexByte at h
 refine Goes.fnW Tryz.func173 rfl rfl (m:=8) rfl (rs:=[.tmp 4]) rfl (l:=[(0,.str s_),(1,.int .u8 c)]) rfl ?_
 refine sh fol [(0,.str s_),(1,.int .u8 c)] ?_
 obtain⟨r1,e_r1,h⟩:=bnd h
 refine sq (gr fol [2] (kBG r1) (ac (cv (qmI s_ c e_r1)) az) ?_)
 refine Goes.ret ?_
 obtain rfl:=si h
 exact(gw2 [.i r1] (FzW.still tI))
def strings_IndexByte (s_:Str) (c:Int):Option Int:=
 (stringslite_IndexByte s_ c).bind fun r1=>
 some r1
theorem qbq (s_:Str) (c:Int) {res:Int} (h:strings_IndexByte s_ c=some res):qg Tryz.prog (.fn 153) [.str s_,.int .u8 c] [] (.i res) []:=by
 unfold strings_IndexByte at h
 refine Goes.fnW Tryz.func153 rfl rfl (m:=8) rfl (rs:=[.tmp 4]) rfl (l:=[(0,.str s_),(1,.int .u8 c)]) rfl ?_
 refine sh fol [(0,.str s_),(1,.int .u8 c)] ?_
 obtain⟨r1,e_r1,h⟩:=bnd h
 refine sq (gr fol [2] (kBG r1) (ac (cv (qaB s_ c e_r1)) az) ?_)
 refine Goes.ret ?_
 obtain rfl:=si h
 exact(gw2 [.i r1] (FzW.still tI))
def stringslite_HasSuffix (s_:Str) (suffix:Str):Option Bool:=
 (if(s_.length:Int)≥(suffix.length:Int)then
 (cut s_ (w64 ((s_.length:Int)-(suffix.length:Int))) (s_.length:Int)).bind fun s2=>
 some (s2==suffix)
 else
 some false:Option Bool).bind fun b3=>
 some b3
theorem qcL (s_:Str) (suffix:Str) {res:Bool} (h:stringslite_HasSuffix s_ suffix=some res):qg Tryz.prog (.fn 188) [.str s_,.str suffix] [] (.bool res) []:=by
 unfold stringslite_HasSuffix at h
 refine Goes.fnW Tryz.func188 rfl rfl (m:=21) rfl (rs:=[.tmp 4]) rfl (l:=(kY s_ suffix [])) rfl ?_
 refine sh fol (kY s_ suffix []) ?_
 refine sq ?_
 obtain⟨b3,g_v4,h⟩:=bnd h
 refine Goes.cut (s':=(ofG 21 (kBI b3),[])) ?_ ?_
 ·rcases wyD g_v4 with⟨c1,g_v4⟩|⟨c1,g_v4⟩
  ·obtain⟨s2,e_s2,g_v4⟩:=bnd g_v4
   obtain rfl:=si g_v4
   exact tr fol [5,12] (kBI (s2==suffix)) (ac (gw c1) (ac (hs (.done (.opt (qx Tryz.prog 9 (.str s_) (some (.i (w64 ((s_.length:Int)-(suffix.length:Int))))) none none)) (.str s2)) (yh st9 (some (w64 ((s_.length:Int)-(suffix.length:Int)))) none e_s2)) az))
  ·obtain rfl:=si g_v4
   exact tr fol [5] kAI (ac (gw c1) az)
 refine Goes.ret ?_
 obtain rfl:=si h
 exact(gw2 [.bool b3] (FzW.still tB))
def stringslite_CutSuffix (s_:Str) (suffix:Str):Option (Str×Bool):=
 (stringslite_HasSuffix s_ suffix).bind fun r1=>
 if(!r1)=true then
 some (s_,false)
 else
 (cut s_ 0 (w64 ((s_.length:Int)-(suffix.length:Int)))).bind fun s3=>
 some (s3,true)
theorem qcM (s_:Str) (suffix:Str) {res:Str×Bool} (h:stringslite_CutSuffix s_ suffix=some res):qg Tryz.prog (.fn 154) [.str s_,.str suffix] [] (.tuple [.str res.1,.bool res.2]) []:=by
 unfold stringslite_CutSuffix at h
 refine Goes.fnW Tryz.func154 rfl rfl (m:=18) rfl (rs:=[.tmp 4,.tmp 5]) rfl (l:=(kY s_ suffix [])) rfl ?_
 refine sh fol (kY s_ suffix []) ?_
 refine sq ?_
 obtain⟨r1,e_r1,h⟩:=bnd h
 refine sq (gr fol [2] (kY s_ suffix [(9,.bool (!r1))]) (ac (cv (qcL s_ suffix e_r1)) az) ?_)
 refine ihB h (fun c2 h=>?_) (fun c2 h=>?_)
 ·refine sh fol [(4,.str s_),(5,.bool false)] ?_
  refine Goes.ret ?_
  obtain rfl:=si h
  exact(gw2 (.str s_::kBw) (FzW.tuple (qo.cons (FzW.still tS) (qo.cons (FzW.still tB) qo.nil))))
 ·refine Goes.skip ?_
  obtain⟨s3,e_s3,h⟩:=bnd h
  refine sq (gr fol [6] [(4,.str s3),(5,.bool true)] (ac (hs (.done (.opt (qx Tryz.prog 9 (.str s_) none (some (.i (w64 ((s_.length:Int)-(suffix.length:Int))))) none)) (.str s3)) (yh st9 none (some (w64 ((s_.length:Int)-(suffix.length:Int)))) e_s3)) az) ?_)
  refine Goes.ret ?_
  obtain rfl:=si h
  exact(gw2 (.str s3::kAt) (FzW.tuple (qo.cons (FzW.still tS) (qo.cons (FzW.still tB) qo.nil))))
def strings_CutSuffix (s_:Str) (suffix:Str):Option (Str×Bool):=
 (stringslite_CutSuffix s_ suffix).bind fun r1=>
 some (r1.1,r1.2)
theorem qbs (s_:Str) (suffix:Str) {res:Str×Bool} (h:strings_CutSuffix s_ suffix=some res):qg Tryz.prog (.fn 104) [.str s_,.str suffix] [] (.tuple [.str res.1,.bool res.2]) []:=by
 unfold strings_CutSuffix at h
 refine Goes.fnW Tryz.func104 rfl rfl (m:=11) rfl (rs:=[.tmp 4,.tmp 5]) rfl (l:=(kY s_ suffix [])) rfl ?_
 refine sh fol (kY s_ suffix []) ?_
 obtain⟨r1,e_r1,h⟩:=bnd h
 refine sq (gr fol [2] [(4,.str r1.1),(5,.bool r1.2)] (ac (cv (qcM s_ suffix e_r1)) az) ?_)
 refine Goes.ret ?_
 obtain rfl:=si h
 exact(gw2 [.str r1.1,.bool r1.2] (FzW.tuple (qo.cons (FzW.still tS) (qo.cons (FzW.still tB) qo.nil))))
def yn (s_:Str):Nat→Int→Int→Option Int
 |0,_,_=>none
 |K+1,n1,n2=>
  if n2<(s_.length:Int)then
  (idx s_ n2).bind fun c6=>
  yn s_ K ((w64 ((w64 (31*n1))+(w64 (c6.toNat:Int)))).tmod 9999991) (w64 (n2+1))
  else
  some n1
def qbg (N:Nat) (s_:Str):Option Str:=
 (yn s_ N 7 0).bind fun n3=>
 (qct n3).bind fun r7=>
 (qgN [48] (w64 (7-(r7.length:Int)))).bind fun r8=>
 (cat r8 r7).bind fun s9=>
 some s9
theorem qeL (N:Nat) (s_:Str) {res:Str} (h:qbg N s_=some res):qg Tryz.prog (.fn 151) [.str s_] [] (.str res) []:=by
 unfold qbg at h
 refine Goes.fnW Tryz.func151 rfl rfl (m:=28) rfl (rs:=[.tmp 2]) rfl (l:=(kBZ s_)) rfl ?_
 refine sh fol (kBZ s_) ?_
 refine sh fol [(0,.str s_),(3,.i 7)] ?_
 refine sq ?_
 refine sh fol [(0,.str s_),(3,.i 7),(7,.i (s_.length:Int)),(8,.i 0)] ?_
 refine Goes.block ?_
 obtain⟨r4,g4,h⟩:=bnd h
 refine Goes.imp (Q:=fun x s'=>(x= .exit 0∧ ∃n3,n3=r4∧Sub s' (ofG 28 [(3,.i n3)],[]))) ?_ ?_
 ·refine Goes.loopS (fun M s=> ∃(n1:Int) (n2:Int),s=(ofG 28 (kAp s_ n1 (kBO (s_.length:Int) n2)),[])∧yn s_ M n1 n2=some r4) ?_ (m:=N) ⟨_,_,rfl,g4⟩
  rintro M s ⟨n1,n2,rfl,g4⟩
  cases M with
  |zero=>simp only[yn]at g4;cases g4
  |succ M=>
   rw[yn]at g4
   refine sh fol (kAp s_ n1 [(7,.i (s_.length:Int)),(8,.i n2),(9,.bool (decide (n2<(s_.length:Int))))]) ?_
   refine sq ?_
   refine ihD g4 (fun c5 g4=>?_) (fun c5 g4=>?_)
   ·refine Goes.skip ?_
    refine sq (Goes.block ?_)
    refine sh fol (kAp s_ n1 ((4,.i n2)::(kBO (s_.length:Int) n2))) ?_
    obtain⟨c6,e_c6,g4⟩:=bnd g4
    refine gr fol [4] (kAp s_ ((w64 ((w64 (31*n1))+(w64 (c6.toNat:Int)))).tmod 9999991) (kBO (s_.length:Int) n2)) (ac (hs (.done (.opt (qai Tryz.prog 9 (.str s_) (.i n2))) (.int .u8 (c6.toNat:Int))) (qb6 st9 e_c6)) az) ?_
    refine gh fol (kAp s_ ((w64 ((w64 (31*n1))+(w64 (c6.toNat:Int)))).tmod 9999991) (kBO (s_.length:Int) (w64 (n2+1)))) ?_
    exact⟨M,(ofG 28 (kAp s_ ((w64 ((w64 (31*n1))+(w64 (c6.toNat:Int)))).tmod 9999991) (kBO (s_.length:Int) (w64 (n2+1)))),[]),Nat.lt_succ_self _,(Sub.refl _),_,_,rfl,g4⟩
   ·refine Goes.exit ?_
    obtain rfl:=si g4
    exact⟨rfl,_,rfl,(Sub.keep [3] rfl rfl)⟩
 rintro x s' ⟨rfl,n3,rfl,hsub⟩
 refine Goes.sub hsub ?_
 obtain⟨r7,e_r7,h⟩:=bnd h
 refine sq (gr fol [1] [(5,.str r7)] (ac (cv (qfx n3 e_r7)) az) ?_)
 obtain⟨r8,e_r8,h⟩:=bnd h
 obtain⟨s9,e_s9,h⟩:=bnd h
 refine sq (gr fol [3,5] [(2,.str s9)] (ac (cv (qkN [48] (w64 (7-(r7.length:Int))) e_r8)) (ac (hs (.done (.opt (qay Tryz.prog .add 9 (.tmp 25) (.tmp 26) (.str r8) (.str r7))) (.str s9)) (yL e_s9)) az)) ?_)
 refine Goes.ret ?_
 obtain rfl:=si h
 exact(gw2 [.str s9] (FzW.still tS))
def yH (s_:Str):Option Bool:=
 (if(!(s_==[]))=true then
 (qjS s_ [48,49,50,51,52,53,54,55,56,57]).bind fun r2=>
 some (r2==[])
 else
 some false:Option Bool).bind fun b3=>
 some b3
theorem xz (s_:Str) {res:Bool} (h:yH s_=some res):qg Tryz.prog (.fn 155) [.str s_] [] (.bool res) []:=by
 unfold yH at h
 refine Goes.fnW Tryz.func155 rfl rfl (m:=10) rfl (rs:=[.tmp 2]) rfl (l:=(kBZ s_)) rfl ?_
 refine sh fol (kBZ s_) ?_
 refine sq ?_
 obtain⟨b3,g_v4,h⟩:=bnd h
 refine Goes.cut (s':=(ofG 10 [(2,.bool b3)],[])) ?_ ?_
 ·rcases wyB g_v4 with⟨c1,g_v4⟩|⟨c1,g_v4⟩
  ·obtain⟨r2,e_r2,g_v4⟩:=bnd g_v4
   obtain rfl:=si g_v4
   exact tr fol [2,4] [(2,.bool (r2==[]))] (ac (gw c1) (ac (cv (qnm s_ [48,49,50,51,52,53,54,55,56,57] e_r2)) az))
  ·obtain rfl:=si g_v4
   exact tr fol [2] kBz (ac (gw c1) az)
 refine Goes.ret ?_
 obtain rfl:=si h
 exact(gw2 [.bool b3] (FzW.still tB))
def bytealg_Cutover (n:Int):Option Int:=
 some (w64 ((w64 (n+16)).tdiv 8))
def stringslite_Index (s_:Str) (substr:Str):Option Int:=
 (if(substr.length:Int)=0 then
 some true
 else
 some (substr==s_):Option Bool).bind fun b2=>
 if b2=true then
 some 0
 else
 if(substr.length:Int)=1 then
 (idx substr 0).bind fun c6=>
 (stringslite_IndexByte s_ (c6.toNat:Int)).bind fun r7=>
 some r7
 else
 if(substr.length:Int)≥(s_.length:Int)then
 some (-1)
 else
 none
theorem qbt (s_:Str) (substr:Str) {res:Int} (h:stringslite_Index s_ substr=some res):qg Tryz.prog (.fn 130) [.str s_,.str substr] [] (.i res) []:=by
 unfold stringslite_Index at h
 refine Goes.fnW Tryz.func130 rfl rfl (m:=143) rfl (rs:=[.tmp 4]) rfl (l:=(kY s_ substr [])) rfl ?_
 refine sh fol (kY s_ substr []) ?_
 refine sh fol (kY s_ substr (kAs (substr.length:Int))) ?_
 refine sq (Goes.block ?_)
 refine sq ?_
 obtain⟨b2,g_v3,h⟩:=bnd h
 refine Goes.cut (s':=(ofG 143 (kY s_ substr [(5,.i (substr.length:Int)),(16,.bool b2)]),[])) ?_ ?_
 ·rcases wyD g_v3 with⟨c1,g_v3⟩|⟨c1,g_v3⟩
  ·obtain rfl:=si g_v3
   exact tr fol [2] (kY s_ substr [(5,.i (substr.length:Int)),(16,.bool true)]) (ac (gw c1) az)
  ·obtain rfl:=si g_v3
   exact tr fol [2] (kY s_ substr [(5,.i (substr.length:Int)),(16,.bool (substr==s_))]) (ac (gw c1) az)
 refine ihB h (fun c4 h=>?_) (fun c4 h=>?_)
 ·refine sh fol kBu ?_
  refine Goes.ret ?_
  obtain rfl:=si h
  exact(gw2 [.i 0] (FzW.still tI))
 ·refine sh fol (kY s_ substr [(5,.i (substr.length:Int)),(24,.bool (decide ((substr.length:Int)=1)))]) ?_
  refine ihD h (fun c5 h=>?_) (fun c5 h=>?_)
  ·obtain⟨c6,e_c6,h⟩:=bnd h
   obtain⟨r7,e_r7,h⟩:=bnd h
   refine sq (gr fol [2,3] (kBG r7) (ac (hs (.done (.opt (qai Tryz.prog 9 (.str substr) (.i 0))) (.int .u8 (c6.toNat:Int))) (qb6 st9 e_c6)) (ac (cv (qaB s_ (c6.toNat:Int) e_r7)) az)) ?_)
   refine Goes.ret ?_
   obtain rfl:=si h
   exact(gw2 [.i r7] (FzW.still tI))
  ·refine sh fol (kY s_ substr [(5,.i (substr.length:Int)),(31,.bool (decide ((substr.length:Int)≥(s_.length:Int))))]) ?_
   refine ihD h (fun c8 h=>?_) (fun c8 h=>?_)
   ·refine sh fol [(4,.i (-1))] ?_
    refine Goes.ret ?_
    obtain rfl:=si h
    exact(gw2 [.i (-1)] (FzW.still tI))
   ·cases h
def strings_Index (s_:Str) (substr:Str):Option Int:=
 (stringslite_Index s_ substr).bind fun r1=>
 some r1
theorem qbe (s_:Str) (substr:Str) {res:Int} (h:strings_Index s_ substr=some res):qg Tryz.prog (.fn 67) [.str s_,.str substr] [] (.i res) []:=by
 unfold strings_Index at h
 refine Goes.fnW Tryz.func67 rfl rfl (m:=8) rfl (rs:=[.tmp 4]) rfl (l:=(kY s_ substr [])) rfl ?_
 refine sh fol (kY s_ substr []) ?_
 obtain⟨r1,e_r1,h⟩:=bnd h
 refine sq (gr fol [2] (kBG r1) (ac (cv (qbt s_ substr e_r1)) az) ?_)
 refine Goes.ret ?_
 obtain rfl:=si h
 exact(gw2 [.i r1] (FzW.still tI))
def jv (s_:Str):Nat→Nat→Int→Option Int
 |0,_,_=>none
 |K+1,k1,n2=>
  if k1<s_.length then
  jv s_ K (k1+runeLen s_ k1) (w64 (n2+1))
  else
  some n2
def utf8_RuneCountInString (N:Nat) (s_:Str):Option Int:=
 (jv s_ N 0 0).bind fun n3=>
 some n3
theorem qau (N:Nat) (s_:Str) {res:Int} (h:utf8_RuneCountInString N s_=some res):qg Tryz.prog (.fn 229) [.str s_] [] (.i res) []:=by
 unfold utf8_RuneCountInString at h
 refine Goes.fnW Tryz.func229 rfl rfl (m:=10) rfl (rs:=[.tmp 2]) rfl (l:=(kBZ s_)) rfl ?_
 refine sh fol [(0,.str s_),(2,.i 0)] ?_
 refine sq ?_
 refine sg fol ((2,.i 0)::(kA8 [])) [.iter s_ 0] ?_
 refine Goes.block ?_
 obtain⟨r4,g4,h⟩:=bnd h
 refine Goes.imp (Q:=fun x s'=>(x= .exit 0∧ ∃n3,n3=r4∧Sub s' (ofG 10 [(2,.i n3)],[]))) ?_ ?_
 ·refine Goes.sub (s':=(ofG 10 ((2,.i 0)::(kA8 [])),[.iter s_ 0])) (Sub.keep [2,4] rfl rfl) ?_
  refine Goes.loopS (fun M s=> ∃(k1:Nat) (n2:Int),s=(ofG 10 ((2,.i n2)::(kA8 [])),[.iter s_ k1])∧jv s_ M k1 n2=some r4) ?_ (m:=N) ⟨_,_,rfl,g4⟩
  rintro M s ⟨k1,n2,rfl,g4⟩
  cases M with
  |zero=>simp only[jv]at g4;cases g4
  |succ M=>
   rw[jv]at g4
   refine sq ?_
   rcases Classical.em (k1<s_.length)with c5|c5
   ·rw[if_pos c5]at g4
    refine gq fol [0] ((2,.i n2)::(kA8 kBm)) [.iter s_ (k1+runeLen s_ k1)] (ac (hs (.run [0] (qdV (.ptr 0 0) true) [.iter s_ k1] (.tuple [.bool true,.i (k1:Int),.int .i32 (yx s_ k1)]) [.iter s_ (k1+runeLen s_ k1)] true) (qic rfl c5 rfl)) az) ?_
    refine sq ?_
    refine Goes.ifB (b:=true) (by kernel_rfl) (fun _=>?_) (fun c=>(by cases c))
    refine Goes.skip ?_
    refine Goes.block ?_
    refine gh fol ((2,.i (w64 (n2+1)))::(kA8 [])) ?_
    exact⟨M,(ofG 10 ((2,.i (w64 (n2+1)))::(kA8 [])),[.iter s_ (k1+runeLen s_ k1)]),Nat.lt_succ_self _,(Sub.keep [2,4] rfl rfl),_,_,rfl,g4⟩
   ·rw[if_neg c5]at g4
    refine gr fol [0] ((2,.i n2)::(kA8 [(6,.bool false)])) (ac (hs (.run [0] (qdV (.ptr 0 0) true) [.iter s_ k1] (.tuple [.bool false]) [.iter s_ k1] false) (qik rfl c5)) az) ?_
    refine sq ?_
    refine Goes.ifB (b:=false) (by kernel_rfl) (fun c=>(by cases c)) (fun _=>?_)
    refine Goes.exit ?_
    obtain rfl:=si g4
    exact⟨rfl,_,rfl,(Sub.norm [] [] rfl rfl (.keep (.same nI) .nil) .nil)⟩
 rintro x s' ⟨rfl,n3,rfl,hsub⟩
 refine Goes.sub hsub ?_
 refine sh fol [(2,.i n3)] ?_
 refine Goes.ret ?_
 obtain rfl:=si h
 exact(gw2 [.i n3] (FzW.still tI))
def xA (n5:Int):Nat→Option Unit
 |0=>none
 |K+1=>
  if 0<(w64 (n5-1))then
  none
  else
  some ()
def qbA (N:Nat) (s_:Str) (n:Int):Option (List Str):=
 (utf8_RuneCountInString N s_).bind fun r1=>
 (if n<0 then
 some true
 else
 some (decide (n>r1)):Option Bool).bind fun b3=>
 ((if b3=true then
 some r1
 else
 some n:Option Int)).bind fun n5=>
 (mk 16 n5 []).bind fun l8=>
 (xA n5 N).bind fun _=>
 ((if n5>0 then
 (idx l8 (w64 (n5-1))).bind fun x14=>
 (put l8 (w64 (n5-1)) s_).bind fun l15=>
 some l15
 else
 some l8:Option (List Str))).bind fun l11=>
 some l11
theorem qfa (N:Nat) (s_:Str) (n:Int) {res:List Str} (h:qbA N s_ n=some res):qg Tryz.prog (.fn 191) [.str s_,.i n] [] (vl encS res) []:=by
 unfold qbA at h
 refine Goes.fnW Tryz.func191 rfl rfl (m:=50) rfl (rs:=[.tmp 4]) rfl (l:=(kAv s_ n [])) rfl ?_
 refine sh fol (kAv s_ n []) ?_
 obtain⟨r1,e_r1,h⟩:=bnd h
 refine sq (gr fol [1] (kAv s_ n (kAs r1)) (ac (cv (qau N s_ e_r1)) az) ?_)
 refine sq ?_
 refine sq ?_
 obtain⟨b3,g_v4,h⟩:=bnd h
 refine Goes.cut (s':=(ofG 50 (kAv s_ n [(5,.i r1),(18,.bool b3)]),[])) ?_ ?_
 ·rcases wyD g_v4 with⟨c2,g_v4⟩|⟨c2,g_v4⟩
  ·obtain rfl:=si g_v4
   exact tr fol [2] (kAv s_ n [(5,.i r1),(18,.bool true)]) (ac (gw c2) az)
  ·obtain rfl:=si g_v4
   exact tr fol [2] (kAv s_ n [(5,.i r1),(18,.bool (decide (n>r1)))]) (ac (gw c2) az)
 obtain⟨r6,g6,h⟩:=bnd h
 refine Goes.imp (Q:=fun x s'=>(x= .normal∧ ∃n5,n5=r6∧Sub s' (ofG 50 (kAv s_ n5 []),[]))) ?_ ?_
 ·refine ihB g6 (fun c7 g6=>?_) (fun c7 g6=>?_)
  ·refine gh fol (kAv s_ r1 []) ?_
   obtain rfl:=si g6
   exact⟨rfl,_,rfl,(Sub.refl _)⟩
  ·refine Goes.skip ?_
   obtain rfl:=si g6
   exact⟨rfl,_,rfl,(Sub.keep [0,1] rfl rfl)⟩
 rintro x s' ⟨rfl,n5,rfl,hsub⟩
 refine Goes.sub hsub ?_
 obtain⟨l8,e_l8,h⟩:=bnd h
 refine sq (gq fol [1] (kAv s_ n5 (kAm l8 [])) (kL l8) (ac (hs (.run [] (xY Tryz.prog 23 (.i n5) (.i n5)) [] (.slice 0 0 l8.length l8.length 1) (kL l8) false) (qkP jE (E:=encS) (z:=[]) rfl (by kernel_rfl) e_l8 rfl)) az) ?_)
 refine sq ?_
 refine sh fol (kAv s_ n5 (kAm l8 [(7,.i 0)])) ?_
 refine Goes.block ?_
 obtain⟨r9,g9,h⟩:=bnd h
 refine Goes.imp (Q:=fun x s'=>(x= .exit 0∧()=r9∧Sub s' (ofG 50 (kAv s_ n5 (kAm l8 [])),(kL l8)))) ?_ ?_
 ·refine Goes.loopS (fun M s=>s=(ofG 50 (kAv s_ n5 (kAm l8 [(7,.i 0)])),(kL l8))∧xA n5 M=some r9) ?_ (m:=N) ⟨rfl,g9⟩
  rintro M s ⟨rfl,g9⟩
  cases M with
  |zero=>simp only[xA]at g9;cases g9
  |succ M=>
   rw[xA]at g9
   refine sq ?_
   refine sh fol (kAv s_ n5 (kAm l8 [(7,.i 0),(25,.bool (decide (0<(w64 (n5-1)))))])) ?_
   refine ihD g9 (fun c10 g9=>?_) (fun c10 g9=>?_)
   ·cases g9
   ·refine Goes.exit ?_
    obtain rfl:=si g9
    exact⟨rfl,rfl,(Sub.keep [0,1,6] rfl rfl)⟩
 rintro x s' ⟨rfl,rfl,hsub⟩
 refine Goes.sub hsub ?_
 refine sq ?_
 refine sh fol (kAv s_ n5 (kAm l8 [(43,.bool (decide (n5>0)))])) ?_
 obtain⟨r12,g12,h⟩:=bnd h
 refine Goes.imp (Q:=fun x s'=>(x= .normal∧ ∃l11,l11=r12∧Sub s' (ofG 50 (kAm l11 []),(kL l11)))) ?_ ?_
 ·refine ihD g12 (fun c13 g12=>?_) (fun c13 g12=>?_)
  ·obtain⟨x14,e_x14,g12⟩:=bnd g12
   obtain⟨l15,e_l15,g12⟩:=bnd g12
   refine gq fol [4,5] (kAm l8 []) (kL l15) (ac (hs (.done (.opt (qz Tryz.prog 23 (.slice 0 0 l8.length l8.length 1) (.i (w64 (n5-1))))) (.ptr 0 ((w64 (n5-1):Int).toNat*1+0))) (qj5 jE e_x14)) (ac (hs (.run [0] (qan Tryz.prog 9 (.ptr 0 ((w64 (n5-1):Int).toNat*1+0)) (.str s_)) (kL l8) .undef (kL l15) true) (qdF (E:=encS) (l:=l8) (y:=s_) rfl (show _=some 1 by kernel_rfl) rfl e_x14 rfl rfl rfl rfl rfl e_l15 rfl)) az)) ?_
   obtain rfl:=si g12
   exact⟨rfl,_,rfl,((show Sub (ofG 50 (kAm l8 []),(kL l15)) (ofG 50 (kAm l15 []),(kL l15))from(Sub.norm [] [some 0] rfl rfl (.keep (.sliceE rfl (qaC e_l15)) .nil) (.ks .nil))).trans (Sub.refl _))⟩
  ·refine Goes.skip ?_
   obtain rfl:=si g12
   exact⟨rfl,_,rfl,(Sub.keep [6] rfl rfl)⟩
 rintro x s' ⟨rfl,l11,rfl,hsub⟩
 refine Goes.sub hsub ?_
 refine sh fol [(4,.slice 0 0 l11.length l11.length 1)] ?_
 refine Goes.ret ?_
 obtain rfl:=si h
 exact(gw2 [.slice 0 0 l11.length l11.length 1] (FzW.fz (Fz.sl (E:=encS) rfl rfl (nl rfl))))
def yX (substr:Str):Nat→Str→Int→Option Int
 |0,_,_=>none
 |K+1,s6,n7=>
  (strings_Index s6 substr).bind fun r10=>
  if r10=(-1)then
  some n7
  else
  (cut s6 (w64 (r10+(substr.length:Int))) (s6.length:Int)).bind fun s12=>
  yX substr K s12 (w64 (n7+1))
def strings_Count (N:Nat) (s_:Str) (substr:Str):Option Int:=
 if(substr.length:Int)=0 then
 (utf8_RuneCountInString N s_).bind fun r2=>
 some (w64 (r2+1))
 else
 if(substr.length:Int)=1 then
 (idx substr 0).bind fun c4=>
 (qi4 s_ (c4.toNat:Int)).bind fun r5=>
 some r5
 else
 (yX substr N s_ 0).bind fun q13=>
 some q13
theorem qfN (N:Nat) (s_:Str) (substr:Str) {res:Int} (h:strings_Count N s_ substr=some res):qg Tryz.prog (.fn 192) [.str s_,.str substr] [] (.i res) []:=by
 unfold strings_Count at h
 refine Goes.fnW Tryz.func192 rfl rfl (m:=34) rfl (rs:=[.tmp 4]) rfl (l:=(kY s_ substr [])) rfl ?_
 refine sh fol (kY s_ substr []) ?_
 refine sq ?_
 refine sh fol (kY s_ substr [(9,.bool (decide ((substr.length:Int)=0)))]) ?_
 refine ihD h (fun c1 h=>?_) (fun c1 h=>?_)
 ·obtain⟨r2,e_r2,h⟩:=bnd h
  refine sq (gr fol [1] (kBG (w64 (r2+1))) (ac (cv (qau N s_ e_r2)) az) ?_)
  refine Goes.ret ?_
  obtain rfl:=si h
  exact(gw2 [.i (w64 (r2+1))] (FzW.still tI))
 ·refine Goes.skip ?_
  refine sq ?_
  refine sh fol (kY s_ substr [(15,.bool (decide ((substr.length:Int)=1)))]) ?_
  refine ihD h (fun c3 h=>?_) (fun c3 h=>?_)
  ·obtain⟨c4,e_c4,h⟩:=bnd h
   obtain⟨r5,e_r5,h⟩:=bnd h
   refine sq (gr fol [2,3] (kBG r5) (ac (hs (.done (.opt (qai Tryz.prog 9 (.str substr) (.i 0))) (.int .u8 (c4.toNat:Int))) (qb6 st9 e_c4)) (ac (cv (qmc s_ (c4.toNat:Int) e_r5)) az)) ?_)
   refine Goes.ret ?_
   obtain rfl:=si h
   exact(gw2 [.i r5] (FzW.still tI))
  ·refine Goes.skip ?_
   refine sh fol (kY s_ substr [(5,.i 0)]) ?_
   refine Goes.block ?_
   obtain⟨r8,g8,h⟩:=bnd h
   refine Goes.imp (Q:=fun x s'=>(x= .ret∧ ∃q9,q9=r8∧zl Tryz.prog [.tmp 4] (.i q9) .ret s')) ?_ ?_
   ·refine Goes.loopS (fun M s=> ∃(s6:Str) (n7:Int),s=(ofG 34 (kY s6 substr (kAs n7)),[])∧yX substr M s6 n7=some r8) ?_ (m:=N) ⟨_,_,rfl,g8⟩
    rintro M s ⟨s6,n7,rfl,g8⟩
    cases M with
    |zero=>simp only[yX]at g8;cases g8
    |succ M=>
     rw[yX]at g8
     refine Goes.block ?_
     obtain⟨r10,e_r10,g8⟩:=bnd g8
     refine sq (gr fol [2] (kY s6 substr (kB3 n7 r10 [])) (ac (cv (qbe s6 substr e_r10)) az) ?_)
     refine sq ?_
     refine sh fol (kY s6 substr (kB3 n7 r10 [(24,.bool (decide (r10=(-1))))])) ?_
     refine ihD g8 (fun c11 g8=>?_) (fun c11 g8=>?_)
     ·refine sh fol (kBG n7) ?_
      refine Goes.ret ?_
      obtain rfl:=si g8
      exact⟨rfl,_,rfl,(gw2 [.i n7] (FzW.still tI))⟩
     ·refine Goes.skip ?_
      refine sh fol (kY s6 substr (kB3 (w64 (n7+1)) r10 [])) ?_
      obtain⟨s12,e_s12,g8⟩:=bnd g8
      refine gr fol [5] (kY s12 substr (kAs (w64 (n7+1)))) (ac (hs (.done (.opt (qx Tryz.prog 9 (.str s6) (some (.i (w64 (r10+(substr.length:Int))))) none none)) (.str s12)) (yh st9 (some (w64 (r10+(substr.length:Int)))) none e_s12)) az) ?_
      exact⟨M,(ofG 34 (kY s12 substr (kAs (w64 (n7+1)))),[]),Nat.lt_succ_self _,(Sub.refl _),_,_,rfl,g8⟩
   rintro x s' ⟨rfl,q13,rfl,hret⟩
   obtain rfl:=si h
   exact hret
def zN (s_:Str) (sep:Str) (sepSave:Int) (n4:Int):Nat→(List Str)→Str→Int→Option ((List Str)×Str×Int)
 |0,_,_,_=>none
 |K+1,l9,s10,n11=>
  if n11<(w64 ((if(w64 ((s_.length:Int)+1))<n4 then(w64 ((s_.length:Int)+1))else n4)-1))then
  (strings_Index s10 sep).bind fun r17=>
  if r17<0 then
  some (l9,s10,n11)
  else
  (cut s10 0 (w64 (r17+sepSave))).bind fun s19=>
  (idx l9 n11).bind fun x20=>
  (put l9 n11 s19).bind fun l21=>
  (cut s10 (w64 (r17+(sep.length:Int))) (s10.length:Int)).bind fun s22=>
  zN s_ sep sepSave n4 K l21 s22 (w64 (n11+1))
  else
  some (l9,s10,n11)
def strings_genSplit (N:Nat) (s_:Str) (sep:Str) (sepSave:Int) (n:Int):Option (List Str):=
 if n=0 then
 some []
 else
 if(sep==[])=true then
 (qbA N s_ n).bind fun r3=>
 some r3
 else
 ((if n<0 then
 (strings_Count N s_ sep).bind fun r7=>
 some (w64 (r7+1))
 else
 some n:Option Int)).bind fun n4=>
 (mk 16 (if(w64 ((s_.length:Int)+1))<n4 then(w64 ((s_.length:Int)+1))else n4) []).bind fun l8=>
 (zN s_ sep sepSave n4 N l8 s_ 0).bind fun(l12,s13,n14)=>
 (idx l12 n14).bind fun x23=>
 (put l12 n14 s13).bind fun l24=>
 (cut l24 0 (w64 (n14+1))).bind fun s25=>
 some s25
theorem qex (N:Nat) (s_:Str) (sep:Str) (sepSave:Int) (n:Int) {res:List Str} (h:strings_genSplit N s_ sep sepSave n=some res):qg Tryz.prog (.fn 157) [.str s_,.str sep,.i sepSave,.i n] [] (vl encS res) []:=by
 unfold strings_genSplit at h
 refine Goes.fnW Tryz.func157 rfl rfl (m:=66) rfl (rs:=[.tmp 8]) rfl (l:=(kY s_ sep [(2,.i sepSave),(3,.i n)])) rfl ?_
 refine sh fol (kY s_ sep [(2,.i sepSave),(3,.i n)]) ?_
 refine sq ?_
 refine sh fol (kY s_ sep ((2,.i sepSave)::(3,.i n)::(kB4 (decide (n=0))))) ?_
 refine ihD h (fun c1 h=>?_) (fun c1 h=>?_)
 ·refine sh fol [(8,.nilslice)] ?_
  refine Goes.ret ?_
  obtain rfl:=si h
  exact(gw2 [.nilslice] (FzW.nilv (E:=encS)))
 ·refine Goes.skip ?_
  refine sq ?_
  refine sh fol (kY s_ sep [(2,.i sepSave),(3,.i n),(15,.bool (sep==[]))]) ?_
  refine ihB h (fun c2 h=>?_) (fun c2 h=>?_)
  ·obtain⟨r3,e_r3,h⟩:=bnd h
   refine sq (gr fol [2] [(8,vl encS r3)] (ac (cv (qfa N s_ n e_r3)) az) ?_)
   refine Goes.ret ?_
   obtain rfl:=si h
   exact(gw2 [vl encS r3] (FzW.still (ko encS _ (nl rfl))))
  ·refine Goes.skip ?_
   refine sq ?_
   refine sh fol (kY s_ sep [(2,.i sepSave),(3,.i n),(20,.bool (decide (n<0)))]) ?_
   obtain⟨r5,g5,h⟩:=bnd h
   refine Goes.imp (Q:=fun x s'=>(x= .normal∧ ∃n4,n4=r5∧Sub s' (ofG 66 (kY s_ sep [(2,.i sepSave),(3,.i n4)]),[]))) ?_ ?_
   ·refine ihD g5 (fun c6 g5=>?_) (fun c6 g5=>?_)
    ·obtain⟨r7,e_r7,g5⟩:=bnd g5
     refine gr fol [2] (kY s_ sep [(2,.i sepSave),(3,.i (w64 (r7+1)))]) (ac (cv (qfN N s_ sep e_r7)) az) ?_
     obtain rfl:=si g5
     exact⟨rfl,_,rfl,(Sub.refl _)⟩
    ·refine Goes.skip ?_
     obtain rfl:=si g5
     exact⟨rfl,_,rfl,(Sub.keep [0,1,2,3] rfl rfl)⟩
   rintro x s' ⟨rfl,n4,rfl,hsub⟩
   refine Goes.sub hsub ?_
   refine sh fol (kY s_ sep [(2,.i sepSave),(3,.i (if(w64 ((s_.length:Int)+1))<n4 then(w64 ((s_.length:Int)+1))else n4))]) ?_
   obtain⟨l8,e_l8,h⟩:=bnd h
   refine sq (gq fol [1] (kS s_ sep sepSave (if(w64 ((s_.length:Int)+1))<n4 then(w64 ((s_.length:Int)+1))else n4) l8 []) (kL l8) (ac (hs (.run [] (xY Tryz.prog 23 (.i (if(w64 ((s_.length:Int)+1))<n4 then(w64 ((s_.length:Int)+1))else n4)) (.i (if(w64 ((s_.length:Int)+1))<n4 then(w64 ((s_.length:Int)+1))else n4))) [] (.slice 0 0 l8.length l8.length 1) (kL l8) false) (qkP jE (E:=encS) (z:=[]) rfl (by kernel_rfl) e_l8 rfl)) az) ?_)
   refine sh fol (kS s_ sep sepSave (w64 ((if(w64 ((s_.length:Int)+1))<n4 then(w64 ((s_.length:Int)+1))else n4)-1)) l8 []) ?_
   refine sh fol (kS s_ sep sepSave (w64 ((if(w64 ((s_.length:Int)+1))<n4 then(w64 ((s_.length:Int)+1))else n4)-1)) l8 [(10,.i 0)]) ?_
   refine sq (Goes.block ?_)
   obtain⟨r15,g15,h⟩:=bnd h
   refine Goes.imp (Q:=fun x s'=>(x= .exit 0∧ ∃l12 s13 n14,(l12,s13,n14)=r15∧Sub s' (ofG 66 ((0,.str s13)::(kBn l12 n14)),(kL l12)))) ?_ ?_
   ·refine Goes.loopS (fun M s=> ∃(l9:List Str) (s10:Str) (n11:Int),s=(ofG 66 (kS s10 sep sepSave (w64 ((if(w64 ((s_.length:Int)+1))<n4 then(w64 ((s_.length:Int)+1))else n4)-1)) l9 [(10,.i n11)]),(kL l9))∧zN s_ sep sepSave n4 M l9 s10 n11=some r15) ?_ (m:=N) ⟨_,_,_,rfl,g15⟩
    rintro M s ⟨l9,s10,n11,rfl,g15⟩
    cases M with
    |zero=>simp only[zN]at g15;cases g15
    |succ M=>
     rw[zN]at g15
     refine sq ?_
     refine sh fol (kS s10 sep sepSave (w64 ((if(w64 ((s_.length:Int)+1))<n4 then(w64 ((s_.length:Int)+1))else n4)-1)) l9 [(10,.i n11),(36,.bool (decide (n11<(w64 ((if(w64 ((s_.length:Int)+1))<n4 then(w64 ((s_.length:Int)+1))else n4)-1)))))]) ?_
     refine ihD g15 (fun c16 g15=>?_) (fun c16 g15=>?_)
     ·refine Goes.skip ?_
      refine Goes.block ?_
      obtain⟨r17,e_r17,g15⟩:=bnd g15
      refine sq (gr fol [2] (kS s10 sep sepSave (w64 ((if(w64 ((s_.length:Int)+1))<n4 then(w64 ((s_.length:Int)+1))else n4)-1)) l9 (kBh n11 r17)) (ac (cv (qbe s10 sep e_r17)) az) ?_)
      refine sq ?_
      refine sh fol (kS s10 sep sepSave (w64 ((if(w64 ((s_.length:Int)+1))<n4 then(w64 ((s_.length:Int)+1))else n4)-1)) l9 [(10,.i n11),(11,.i r17),(41,.bool (decide (r17<0)))]) ?_
      refine ihD g15 (fun c18 g15=>?_) (fun c18 g15=>?_)
      ·refine Goes.exit ?_
       obtain rfl:=si g15
       exact⟨rfl,_,_,_,rfl,(Sub.keep [0,9,10] rfl rfl)⟩
      ·refine Goes.skip ?_
       obtain⟨s19,e_s19,g15⟩:=bnd g15
       obtain⟨x20,e_x20,g15⟩:=bnd g15
       obtain⟨l21,e_l21,g15⟩:=bnd g15
       refine sq (gq fol [6,7,8] (kS s10 sep sepSave (w64 ((if(w64 ((s_.length:Int)+1))<n4 then(w64 ((s_.length:Int)+1))else n4)-1)) l9 (kBh n11 r17)) (kL l21) (ac (hs (.done (.opt (qx Tryz.prog 9 (.str s10) none (some (.i (w64 (r17+sepSave)))) none)) (.str s19)) (yh st9 none (some (w64 (r17+sepSave))) e_s19)) (ac (hs (.done (.opt (qz Tryz.prog 23 (.slice 0 0 l9.length l9.length 1) (.i n11))) (.ptr 0 ((n11:Int).toNat*1+0))) (qj5 jE e_x20)) (ac (hs (.run [0] (qan Tryz.prog 9 (.ptr 0 ((n11:Int).toNat*1+0)) (.str s19)) (kL l9) .undef (kL l21) true) (qdF (E:=encS) (l:=l9) (y:=s19) rfl (show _=some 1 by kernel_rfl) rfl e_x20 rfl rfl rfl rfl rfl e_l21 rfl)) az))) ?_)
       refine Goes.sub (show Sub (ofG 66 (kS s10 sep sepSave (w64 ((if(w64 ((s_.length:Int)+1))<n4 then(w64 ((s_.length:Int)+1))else n4)-1)) l9 (kBh n11 r17)),(kL l21)) (ofG 66 (kS s10 sep sepSave (w64 ((if(w64 ((s_.length:Int)+1))<n4 then(w64 ((s_.length:Int)+1))else n4)-1)) l21 (kBh n11 r17)),(kL l21))from(Sub.norm [] [some 0] rfl rfl (.keep (.same nS) (.keep (.same nS) (.keep (.same nI) (.keep (.same nI) (.keep (.sliceE rfl (qaC e_l21)) (.keep (.same nI) (.keep (.same nI) .nil))))))) (.ks .nil))) ?_
       obtain⟨s22,e_s22,g15⟩:=bnd g15
       refine sq (gr fol [5] (kS s22 sep sepSave (w64 ((if(w64 ((s_.length:Int)+1))<n4 then(w64 ((s_.length:Int)+1))else n4)-1)) l21 [(10,.i n11)]) (ac (hs (.done (.opt (qx Tryz.prog 9 (.str s10) (some (.i (w64 (r17+(sep.length:Int))))) none none)) (.str s22)) (yh st9 (some (w64 (r17+(sep.length:Int)))) none e_s22)) az) ?_)
       refine gh fol (kS s22 sep sepSave (w64 ((if(w64 ((s_.length:Int)+1))<n4 then(w64 ((s_.length:Int)+1))else n4)-1)) l21 [(10,.i (w64 (n11+1)))]) ?_
       exact⟨M,(ofG 66 (kS s22 sep sepSave (w64 ((if(w64 ((s_.length:Int)+1))<n4 then(w64 ((s_.length:Int)+1))else n4)-1)) l21 [(10,.i (w64 (n11+1)))]),(kL l21)),Nat.lt_succ_self _,(Sub.refl _),_,_,_,rfl,g15⟩
     ·refine Goes.exit ?_
      obtain rfl:=si g15
      exact⟨rfl,_,_,_,rfl,(Sub.keep [0,9,10] rfl rfl)⟩
   rintro x s' ⟨rfl,l12,s13,n14,rfl,hsub⟩
   try dsimp only at h
   refine Goes.sub hsub ?_
   obtain⟨x23,e_x23,h⟩:=bnd h
   obtain⟨l24,e_l24,h⟩:=bnd h
   refine sq (gq fol [3,4] (kBn l12 n14) (kL l24) (ac (hs (.done (.opt (qz Tryz.prog 23 (.slice 0 0 l12.length l12.length 1) (.i n14))) (.ptr 0 ((n14:Int).toNat*1+0))) (qj5 jE e_x23)) (ac (hs (.run [0] (qan Tryz.prog 9 (.ptr 0 ((n14:Int).toNat*1+0)) (.str s13)) (kL l12) .undef (kL l24) true) (qdF (E:=encS) (l:=l12) (y:=s13) rfl (show _=some 1 by kernel_rfl) rfl e_x23 rfl rfl rfl rfl rfl e_l24 rfl)) az)) ?_)
   refine Goes.sub (show Sub (ofG 66 (kBn l12 n14),(kL l24)) (ofG 66 (kBn l24 n14),(kL l24))from(Sub.norm [] [some 0] rfl rfl (.keep (.sliceE rfl (qaC e_l24)) (.keep (.same nI) .nil)) (.ks .nil))) ?_
   refine sq (Goes.sub (s':=(ofG 66 [(9,vl encS l24),(10,.i n14)],[])) (Sub.norm [0] [] rfl rfl (.keep (.frz (Fz.sl (E:=encS) rfl rfl (nl rfl)) (qm encS _)) (.keep (.same nI) .nil)) .nil) ?_)
   obtain⟨s25,e_s25,h⟩:=bnd h
   refine gr fol [3] [(8,vl encS s25)] (ac (hs (.done (.opt (qx Tryz.prog 23 (vl encS l24) none (some (.i (w64 (n14+1)))) none)) (vl encS s25)) (xZ jE (E:=encS) rfl none (some (w64 (n14+1))) e_s25)) az) ?_
   refine Goes.ret ?_
   obtain rfl:=si h
   exact(gw2 [vl encS s25] (FzW.still (ko encS _ (nl rfl))))
def strings_Split (N:Nat) (s_:Str) (sep:Str):Option (List Str):=
 (strings_genSplit N s_ sep 0 (-1)).bind fun r1=>
 some r1
theorem qde (N:Nat) (s_:Str) (sep:Str) {res:List Str} (h:strings_Split N s_ sep=some res):qg Tryz.prog (.fn 107) [.str s_,.str sep] [] (vl encS res) []:=by
 unfold strings_Split at h
 refine Goes.fnW Tryz.func107 rfl rfl (m:=8) rfl (rs:=[.tmp 4]) rfl (l:=(kY s_ sep [])) rfl ?_
 refine sh fol (kY s_ sep []) ?_
 obtain⟨r1,e_r1,h⟩:=bnd h
 refine sq (gr fol [2] [(4,vl encS r1)] (ac (cv (qex N s_ sep 0 (-1) e_r1)) az) ?_)
 refine Goes.ret ?_
 obtain rfl:=si h
 exact(gw2 [vl encS r1] (FzW.still (ko encS _ (nl rfl))))
def zf (s_:List Str) (v:Str):Nat→Int→Option (Unit⊕Int)
 |0,_=>none
 |K+1,n1=>
  if n1<(s_.length:Int)then
  (idx s_ n1).bind fun x5=>
  if(v==x5)=true then
  some (.inr n1)
  else
  zf s_ v K (w64 (n1+1))
  else
  some (.inl ())
def slices_Index_string (N:Nat) (s_:List Str) (v:Str):Option Int:=
 (zf s_ v N 0).bind (fun
 |(.inl ())=>
 some (-1)
 |(.inr q7)=>
 some q7)
theorem qdt (N:Nat) (s_:List Str) (v:Str) {res:Int} (h:slices_Index_string N s_ v=some res):qg Tryz.prog (.fn 164) [vl encS s_,.str v] [] (.i res) []:=by
 unfold slices_Index_string at h
 refine Goes.fnW Tryz.func164 rfl rfl (m:=19) rfl (rs:=[.tmp 4]) rfl (l:=(kBP s_ v [])) rfl ?_
 refine sh fol (kBP s_ v []) ?_
 refine sq ?_
 refine sh fol (kBP s_ v [(7,.i (s_.length:Int)),(8,.i 0)]) ?_
 refine Goes.block ?_
 obtain⟨r2,g2,h⟩:=bnd h
 refine Goes.imp (Q:=fun x s'=>(x= .exit 0∧(.inl ())=r2∧Sub s' (ofG 19 [],[]))∨(x= .ret∧ ∃q3,(.inr q3)=r2∧zl Tryz.prog [.tmp 4] (.i q3) .ret s')) ?_ ?_
 ·refine Goes.loopS (fun M s=> ∃(n1:Int),s=(ofG 19 (kBP s_ v (kBO (s_.length:Int) n1)),[])∧zf s_ v M n1=some r2) ?_ (m:=N) ⟨_,rfl,g2⟩
  rintro M s ⟨n1,rfl,g2⟩
  cases M with
  |zero=>simp only[zf]at g2;cases g2
  |succ M=>
   rw[zf]at g2
   refine sh fol (kBP s_ v [(7,.i (s_.length:Int)),(8,.i n1),(9,.bool (decide (n1<(s_.length:Int))))]) ?_
   refine sq ?_
   refine ihD g2 (fun c4 g2=>?_) (fun c4 g2=>?_)
   ·refine Goes.skip ?_
    refine sq (Goes.block ?_)
    refine sh fol (kBP s_ v ((5,.i n1)::(kBO (s_.length:Int) n1))) ?_
    obtain⟨x5,e_x5,g2⟩:=bnd g2
    refine sq (gr fol [3,4] (kBP s_ v [(5,.i n1),(7,.i (s_.length:Int)),(8,.i n1),(16,.bool (v==x5))]) (ac (iv jE encS e_x5) (ac (lv 0 ce9 encS e_x5 rfl) az)) ?_)
    refine ihB g2 (fun c6 g2=>?_) (fun c6 g2=>?_)
    ·refine sh fol (kBG n1) ?_
     refine Goes.ret ?_
     obtain rfl:=si g2
     exact Or.inr (⟨rfl,_,rfl,(gw2 [.i n1] (FzW.still tI))⟩)
    ·refine Goes.skip ?_
     refine gh fol (kBP s_ v (kBO (s_.length:Int) (w64 (n1+1)))) ?_
     exact⟨M,(ofG 19 (kBP s_ v (kBO (s_.length:Int) (w64 (n1+1)))),[]),Nat.lt_succ_self _,(Sub.refl _),_,rfl,g2⟩
   ·refine Goes.exit ?_
    obtain rfl:=si g2
    exact Or.inl (⟨rfl,rfl,(Sub.keep [] rfl rfl)⟩)
 rintro x s' (⟨rfl,rfl,hsub⟩|⟨rfl,q7,rfl,hret⟩)
 ·try dsimp only at h
  refine Goes.sub hsub ?_
  refine sh fol [(4,.i (-1))] ?_
  refine Goes.ret ?_
  obtain rfl:=si h
  exact(gw2 [.i (-1)] (FzW.still tI))
 ·try dsimp only at h
  obtain rfl:=si h
  exact hret
def slices_Contains_string (N:Nat) (s_:List Str) (v:Str):Option Bool:=
 (slices_Index_string N s_ v).bind fun r1=>
 some (decide (r1≥0))
theorem j3 (N:Nat) (s_:List Str) (v:Str) {res:Bool} (h:slices_Contains_string N s_ v=some res):qg Tryz.prog (.fn 112) [vl encS s_,.str v] [] (.bool res) []:=by
 unfold slices_Contains_string at h
 refine Goes.fnW Tryz.func112 rfl rfl (m:=9) rfl (rs:=[.tmp 4]) rfl (l:=(kBP s_ v [])) rfl ?_
 refine sh fol (kBP s_ v []) ?_
 obtain⟨r1,e_r1,h⟩:=bnd h
 refine sq (gr fol [2] (kBI (decide (r1≥0))) (ac (cv (qdt N s_ v e_r1)) az) ?_)
 refine Goes.ret ?_
 obtain rfl:=si h
 exact(gw2 [.bool (decide (r1≥0))] (FzW.still tB))
end Go.Av
