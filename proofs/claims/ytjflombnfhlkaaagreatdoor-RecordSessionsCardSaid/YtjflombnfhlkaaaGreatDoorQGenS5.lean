/-
  Walks of functions: what each computes, as a plain function.
-/
import Derived.Test.YtjflombnfhlkaaaGreatDoorQGenS4
noncomputable section
namespace Go.Av
open Go.Proofs Go.RowKit
set_option linter.unusedSectionVars false
set_option linter.unusedVariables false
set_option linter.unusedSimpArgs false
set_option maxRecDepth 100000
def zw (N:Nat) (a0_:List qb) (a1_:Option (List StateT)) (a2_:Str):Option ((List qb)×(Option (List StateT))×Str×Int):=
 (qN (decide ((a2_.length:Int)>4096)) 26).bind fun r5=>
 (qN (a2_==[]) 25).bind fun r6=>
 (zA N ([r5,r6]:List Int)).bind fun r7=>
 if(!decide (r7=0))=true then
 some (a0_,a1_,[],r7)
 else
 (strings_Split N a2_ [32]).bind fun r9=>
 ((zl).bind fun r10=>
 (idx r9 0).bind fun x11=>
 if(x11==[109,97,107,101])=true then
 some true
 else
 if(x11==[116,101,115,116])=true then
 some true
 else
 if(x11==[117,115,101])=true then
 some true
 else
 if(x11==[102,97,105,108])=true then
 some true
 else
 if(x11==[114,101,99,97,108,108])=true then
 some true
 else
 if(x11==[117,110,100,111])=true then
 some true
 else
 some false:Option Bool).bind fun b18=>
 if b18=true then
 (zU N a0_ a1_ a2_).bind fun(l22,o23,s24,n25)=>
 some (l22,o23,s24,n25)
 else
 (qaI).bind fun r26=>
 (idx r9 0).bind fun x27=>
 if(x27==[115,108,105,110,103])=true then
 (if(!decide ((r9.length:Int)=(w64 (1+1))))=true then
 some true
 else
 (slices_Contains_string N r9 []).bind fun r32=>
 some r32:Option Bool).bind fun b33=>
 if b33=true then
 some (a0_,a1_,[],25)
 else
 (cut r9 1 (r9.length:Int)).bind fun s36=>
 (zT N a0_ a1_ s36).bind fun(o38,s39,n40)=>
 if(!decide (n40=0))=true then
 some (a0_,o38,[],n40)
 else
 ((if(s39==[])=true then
 some [110,111,110,101]
 else
 some s39:Option Str)).bind fun s42=>
 some (a0_,o38,s42,0)
 else
 if(x27==[115,108,105,110,103,115])=true then
 (if(!decide ((r9.length:Int)=(w64 (0+1))))=true then
 some true
 else
 (slices_Contains_string N r9 []).bind fun r46=>
 some r46:Option Bool).bind fun b47=>
 if b47=true then
 some (a0_,a1_,[],25)
 else
 (cut r9 1 (r9.length:Int)).bind fun s50=>
 (zH N a0_ a1_ s50).bind fun(o52,s53)=>
 if(!decide (0=0))=true then
 some (a0_,o52,[],0)
 else
 ((if(s53==[])=true then
 some [110,111,110,101]
 else
 some s53:Option Str)).bind fun s55=>
 some (a0_,o52,s55,0)
 else
 if(x27==[100,117,101])=true then
 (if(!decide ((r9.length:Int)=(w64 (1+1))))=true then
 some true
 else
 (slices_Contains_string N r9 []).bind fun r59=>
 some r59:Option Bool).bind fun b60=>
 if b60=true then
 some (a0_,a1_,[],25)
 else
 (cut r9 1 (r9.length:Int)).bind fun s63=>
 (jv N a0_ a1_ s63).bind fun(o65,s66,n67)=>
 if(!decide (n67=0))=true then
 some (a0_,o65,[],n67)
 else
 ((if(s66==[])=true then
 some [110,111,110,101]
 else
 some s66:Option Str)).bind fun s69=>
 some (a0_,o65,s69,0)
 else
 some (a0_,a1_,[],13)
theorem qdD (N:Nat) (a0_:List qb) (a1_:Option (List StateT)) (a2_:Str) {l1:List qb} {o2:Option (List StateT)} {s3:Str} {n4:Int} (h:zw N a0_ a1_ a2_=some (l1,o2,s3,n4)):qg Tryz.prog (.fn 51) [.ptr 0 0,.str a2_] (kA a0_ a1_ []) (.tuple [.str s3,.i n4]) (kAT l1 o2 (kB l1 (kAC o2 []))):=by
 unfold zw at h
 refine Goes.fnH Tryz.func51 rfl rfl (m:=79) rfl (rs:=[.tmp 4,.tmp 5]) rfl (l:=(kAK [(1,.str a2_)])) rfl ?_
 intro B hB
 refine sh fol (kAK [(1,.str a2_)]) ?_
 refine sq ?_
 refine sh fol (kAK [(1,.str a2_),(15,.bool false)]) ?_
 refine Goes.ifB (b:=false) (by kernel_rfl) (fun c=>(by cases c)) (fun _=>?_)
 refine Goes.skip ?_
 refine sq ?_
 obtain⟨r5,e_r5,h⟩:=bnd h
 obtain⟨r6,e_r6,h⟩:=bnd h
 obtain⟨r7,e_r7,h⟩:=bnd h
 refine sq (gq fol [3,6,8] (kAK ((1,.str a2_)::(kBu r7))) (kA a0_ a1_ (kAr r5 r6 [])) (ac (cv (qD (decide ((a2_.length:Int)>4096)) 26 e_r5)) (ac (cv (qD (a2_==[]) 25 e_r6)) (ac (hs (.call 86 [.slice 3 0 2 2 1] (kA a0_ a1_ (kAr r5 r6 [])) [3] [vl encI ([r5,r6]:List Int)] (.i r7)) (yQ (FzL.cons (Fz.lit rfl rfl (FzL.still (AllST.cons tI (AllST.cons tI AllST.nil)))) FzL.nil) (jd N ([r5,r6]:List Int) e_r7) tI rfl)) az))) ?_)
 refine sh fol (kAK [(1,.str a2_),(6,.i r7),(26,.bool (!decide (r7=0)))]) ?_
 refine ihB h (fun c8 h=>?_) (fun c8 h=>?_)
 ·refine sh fol (kBr (kAb r7)) ?_
  refine Goes.ret ?_
  simp only[Option.some.injEq,Prod.mk.injEq]at h
  obtain⟨rfl,rfl,rfl,rfl⟩:=h
  exact(gh2 [.str [],.i r7] (Sub.norm [] [some 0,some 1,some 2,some 1,some 2] (by rw[hB];rfl) rfl (.keep (.tupleL (rc (.same nS) (rc (.same nI) rn))) .nil) (.kb rfl (.cells (rc (.gslice rfl) (rc (.hs rfl) rn))) (.lost (.lost (.ks (.ks .nil)))))))
 ·refine Goes.skip ?_
  obtain⟨r9,e_r9,h⟩:=bnd h
  refine sq (gr fol [1] (kAK [(1,.str a2_),(7,vl encS r9)]) (ac (cv (qaC N a2_ [32] e_r9)) az) ?_)
  refine sq ?_
  refine sq ?_
  obtain⟨b18,g_v19,h⟩:=bnd h
  refine Goes.cutS (s':=(ofG 79 (kAK ((1,.str a2_)::(7,vl encS r9)::(kBt b18))),(kA a0_ a1_ []))) ?_ ?_
  ·obtain⟨r10,e_r10,g_v19⟩:=bnd g_v19
   obtain⟨x11,e_x11,g_v19⟩:=bnd g_v19
   rcases wyB g_v19 with⟨c12,g_v19⟩|⟨c12,g_v19⟩
   ·obtain rfl:=si g_v19
    exact ql.sub (ql.rq fol [0,2,3,4] (kAK (kA2 a2_ r9)) (kA a0_ a1_ (kAr r5 r6 [.cells [.i 2,.i 3,.func (.func 141) [] []]])) (ac (cv (qp e_r10)) (ac (iv zi encS e_x11) (ac (lv 0 ce9 encS e_x11 rfl) (ac (hs (.done (qL Tryz.prog 154 (fm1) (.str x11) true) (.tuple (.agg [.i 2,.i 3,.func (.func 141) [] []]::kAp))) (xh xJ [[109,97,107,101],[116,101,115,116],[117,115,101],[102,97,105,108],[114,101,99,97,108,108],[117,110,100,111]] (kw c12) rfl)) az))))) (Sub.norm [] [some 0,some 1,some 2] (by rw[hB];rfl) rfl (.kp (.keep (.same nS) (.keep (.same (qo encS _)) (.keep (.same nB) .nil)))) (.kb rfl (.cells (rc (.gslice rfl) (rc (.hs rfl) rn))) (.ks (.ks .nil))))
   ·rcases wyB g_v19 with⟨c13,g_v19⟩|⟨c13,g_v19⟩
    ·obtain rfl:=si g_v19
     exact ql.sub (ql.rq fol [0,2,3,4] (kAK (kA2 a2_ r9)) (kA a0_ a1_ (kAr r5 r6 [.cells [.i 1,.i 2,.func (.func 142) [] []]])) (ac (cv (qp e_r10)) (ac (iv zi encS e_x11) (ac (lv 0 ce9 encS e_x11 rfl) (ac (hs (.done (qL Tryz.prog 154 (fm1) (.str x11) true) (.tuple (.agg [.i 1,.i 2,.func (.func 142) [] []]::kAp))) (xh xJ [[109,97,107,101],[116,101,115,116],[117,115,101],[102,97,105,108],[114,101,99,97,108,108],[117,110,100,111]] (qj c12 (kw c13)) rfl)) az))))) (Sub.norm [] [some 0,some 1,some 2] (by rw[hB];rfl) rfl (.kp (.keep (.same nS) (.keep (.same (qo encS _)) (.keep (.same nB) .nil)))) (.kb rfl (.cells (rc (.gslice rfl) (rc (.hs rfl) rn))) (.ks (.ks .nil))))
    ·rcases wyB g_v19 with⟨c14,g_v19⟩|⟨c14,g_v19⟩
     ·obtain rfl:=si g_v19
      exact ql.sub (ql.rq fol [0,2,3,4] (kAK (kA2 a2_ r9)) (kA a0_ a1_ (kAr r5 r6 [.cells [.i 1,.i 2,.func (.func 143) [] []]])) (ac (cv (qp e_r10)) (ac (iv zi encS e_x11) (ac (lv 0 ce9 encS e_x11 rfl) (ac (hs (.done (qL Tryz.prog 154 (fm1) (.str x11) true) (.tuple (.agg [.i 1,.i 2,.func (.func 143) [] []]::kAp))) (xh xJ [[109,97,107,101],[116,101,115,116],[117,115,101],[102,97,105,108],[114,101,99,97,108,108],[117,110,100,111]] (qj c12 (qj c13 (kw c14))) rfl)) az))))) (Sub.norm [] [some 0,some 1,some 2] (by rw[hB];rfl) rfl (.kp (.keep (.same nS) (.keep (.same (qo encS _)) (.keep (.same nB) .nil)))) (.kb rfl (.cells (rc (.gslice rfl) (rc (.hs rfl) rn))) (.ks (.ks .nil))))
     ·rcases wyB g_v19 with⟨c15,g_v19⟩|⟨c15,g_v19⟩
      ·obtain rfl:=si g_v19
       exact ql.sub (ql.rq fol [0,2,3,4] (kAK (kA2 a2_ r9)) (kA a0_ a1_ (kAr r5 r6 [.cells [.i 1,.i 1,.func (.func 144) [] []]])) (ac (cv (qp e_r10)) (ac (iv zi encS e_x11) (ac (lv 0 ce9 encS e_x11 rfl) (ac (hs (.done (qL Tryz.prog 154 (fm1) (.str x11) true) (.tuple (.agg [.i 1,.i 1,.func (.func 144) [] []]::kAp))) (xh xJ [[109,97,107,101],[116,101,115,116],[117,115,101],[102,97,105,108],[114,101,99,97,108,108],[117,110,100,111]] (qj c12 (qj c13 (qj c14 (kw c15)))) rfl)) az))))) (Sub.norm [] [some 0,some 1,some 2] (by rw[hB];rfl) rfl (.kp (.keep (.same nS) (.keep (.same (qo encS _)) (.keep (.same nB) .nil)))) (.kb rfl (.cells (rc (.gslice rfl) (rc (.hs rfl) rn))) (.ks (.ks .nil))))
      ·rcases wyB g_v19 with⟨c16,g_v19⟩|⟨c16,g_v19⟩
       ·obtain rfl:=si g_v19
        exact ql.sub (ql.rq fol [0,2,3,4] (kAK (kA2 a2_ r9)) (kA a0_ a1_ (kAr r5 r6 [.cells [.i 1,.i 1,.func (.func 145) [] []]])) (ac (cv (qp e_r10)) (ac (iv zi encS e_x11) (ac (lv 0 ce9 encS e_x11 rfl) (ac (hs (.done (qL Tryz.prog 154 (fm1) (.str x11) true) (.tuple (.agg [.i 1,.i 1,.func (.func 145) [] []]::kAp))) (xh xJ [[109,97,107,101],[116,101,115,116],[117,115,101],[102,97,105,108],[114,101,99,97,108,108],[117,110,100,111]] (qj c12 (qj c13 (qj c14 (qj c15 (kw c16))))) rfl)) az))))) (Sub.norm [] [some 0,some 1,some 2] (by rw[hB];rfl) rfl (.kp (.keep (.same nS) (.keep (.same (qo encS _)) (.keep (.same nB) .nil)))) (.kb rfl (.cells (rc (.gslice rfl) (rc (.hs rfl) rn))) (.ks (.ks .nil))))
       ·rcases wyB g_v19 with⟨c17,g_v19⟩|⟨c17,g_v19⟩
        ·obtain rfl:=si g_v19
         exact ql.sub (ql.rq fol [0,2,3,4] (kAK (kA2 a2_ r9)) (kA a0_ a1_ (kAr r5 r6 kBE)) (ac (cv (qp e_r10)) (ac (iv zi encS e_x11) (ac (lv 0 ce9 encS e_x11 rfl) (ac (hs (.done (qL Tryz.prog 154 (fm1) (.str x11) true) (.tuple (kBD kAp))) (xh xJ [[109,97,107,101],[116,101,115,116],[117,115,101],[102,97,105,108],[114,101,99,97,108,108],[117,110,100,111]] (qj c12 (qj c13 (qj c14 (qj c15 (qj c16 (kw c17)))))) rfl)) az))))) (Sub.norm [] [some 0,some 1,some 2] (by rw[hB];rfl) rfl (.kp (.keep (.same nS) (.keep (.same (qo encS _)) (.keep (.same nB) .nil)))) (.kb rfl (.cells (rc (.gslice rfl) (rc (.hs rfl) rn))) (.ks (.ks .nil))))
        ·obtain rfl:=si g_v19
         exact ql.sub (ql.rq fol [0,2,3,4] (kAK [(1,.str a2_),(7,vl encS r9),(9,.bool false)]) (kA a0_ a1_ (kAr r5 r6 kBE)) (ac (cv (qp e_r10)) (ac (iv zi encS e_x11) (ac (lv 0 ce9 encS e_x11 rfl) (ac (hs (.done (qL Tryz.prog 154 (fm1) (.str x11) true) (.tuple (kBD kBM))) (qhr xJ [[109,97,107,101],[116,101,115,116],[117,115,101],[102,97,105,108],[114,101,99,97,108,108],[117,110,100,111]] (qj c12 (qj c13 (qj c14 (qj c15 (qj c16 (qj c17 (rfl))))))))) az))))) (Sub.norm [] [some 0,some 1,some 2] (by rw[hB];rfl) rfl (.kp (.keep (.same nS) (.keep (.same (qo encS _)) (.keep (.same nB) .nil)))) (.kb rfl (.cells (rc (.gslice rfl) (rc (.hs rfl) rn))) (.ks (.ks .nil))))
  intro _ hsub
  refine Goes.sub hsub ?_
  refine sh fol (kAK [(1,.str a2_),(7,vl encS r9),(38,.bool b18)]) ?_
  refine ihB h (fun c20 h=>?_) (fun c20 h=>?_)
  ·obtain⟨⟨l22,o23,s24,n25⟩,e_r21,h⟩:=bnd h
   try dsimp only at h
   refine sq (gq fol [2] ((4,.str s24)::(kAb n25)) (kAT l22 o23 (kB l22 (kAC o23 []))) (ac (hs (.callH 110 [.ptr 0 0,.str a2_] (kA a0_ a1_ []) [0,1,2] (.tuple [.str s24,.i n25]) (kAT l22 o23 (kB l22 (kAC o23 [])))) (qZ [some 0,some 1,some 2] [some 0,none,none,some 3,some 4] (qcw N a0_ a1_ a2_ e_r21) (.kb rfl (.cells (rc (.gslice rfl) (rc (.hs rfl) rn))) (.ks (.ks .nil))) rfl rfl (.back rfl rfl (.cells (rc (.gslice rfl) (rc (.hs rfl) rn))) rfl (.dead (.dead (.new rfl rfl (.same fa) rfl (.new rfl rfl (.same fa) rfl .nil))))) (rc (.ptr rfl) (rc (.same nS) rn)) (.same (qm.tuple sn)) rfl)) az) ?_)
   refine Goes.ret ?_
   simp only[Option.some.injEq,Prod.mk.injEq]at h
   obtain⟨rfl,rfl,rfl,rfl⟩:=h
   exact(gh2 [.str s24,.i n25] (Sub.keep [0] rfl rfl))
  ·refine Goes.skip ?_
   refine sq ?_
   obtain⟨r26,e_r26,h⟩:=bnd h
   obtain⟨x27,e_x27,h⟩:=bnd h
   rcases wyB h with⟨c28,h⟩|⟨c28,h⟩
   ·refine gq fol [0,2,3,4] (kS r9 [(11,.bool true)]) (kA a0_ a1_ [.cells [.i 1,.func (.func 161) [] []]]) (ac (cv (xw e_r26)) (ac (iv zi encS e_x27) (ac (lv 0 ce9 encS e_x27 rfl) (ac (hs (.done (qL Tryz.prog 194 (fm2) (.str x27) true) (.tuple (.agg [.i 1,.func (.func 161) [] []]::kAp))) (xh ql9 [[115,108,105,110,103],[115,108,105,110,103,115],[100,117,101]] (kw c28) rfl)) az)))) ?_
    refine sq ?_
    refine sh fol (kS r9 [(53,.bool false)]) ?_
    refine Goes.ifB (b:=false) (by kernel_rfl) (fun c=>(by cases c)) (fun _=>?_)
    refine Goes.skip ?_
    refine sq ?_
    refine sq ?_
    obtain⟨b33,g_v34,h⟩:=bnd h
    refine Goes.cut (s':=(ofG 79 (kS r9 [(63,.bool b33)]),(kA a0_ a1_ [.cells [.i 1,.func (.func 161) [] []]]))) ?_ ?_
    ·rcases wyB g_v34 with⟨c31,g_v34⟩|⟨c31,g_v34⟩
     ·obtain rfl:=si g_v34
      exact tr fol [6] (kS r9 [(63,.bool true)]) (ac (gw c31) az)
     ·obtain⟨r32,e_r32,g_v34⟩:=bnd g_v34
      obtain rfl:=si g_v34
      exact tr fol [6,8] (kS r9 [(63,.bool r32)]) (ac (gw c31) (ac (cv (jX N r9 [] e_r32)) az))
    refine ihB h (fun c35 h=>?_) (fun c35 h=>?_)
    ·refine sh fol (kBr [(5,.i 25)]) ?_
     refine Goes.ret ?_
     simp only[Option.some.injEq,Prod.mk.injEq]at h
     obtain⟨rfl,rfl,rfl,rfl⟩:=h
     exact(gh2 [.str [],.i 25] (Sub.norm [] [some 0,some 1,some 2,some 1,some 2] (by rw[hB];rfl) rfl (.keep (.tupleL (rc (.same nS) (rc (.same nI) rn))) .nil) (.kb rfl (.cells (rc (.gslice rfl) (rc (.hs rfl) rn))) (.lost (.lost (.ks (.ks .nil)))))))
    ·refine Goes.skip ?_
     obtain⟨s36,e_s36,h⟩:=bnd h
     obtain⟨⟨o38,s39,n40⟩,e_r37,h⟩:=bnd h
     try dsimp only at h
     refine sq (gq fol [4,5] [(12,.str s39),(13,.i n40)] (kA a0_ o38 [.cells [.i 1,.func (.func 161) [] []]]) (ac (hs (.done (.opt (qG Tryz.prog 23 (vl encS r9) (some (.i 1)) none none)) (vl encS s36)) (qfb zi (E:=encS) rfl (some 1) none e_s36)) (ac (hs (.callH 161 [.ptr 0 0,vl encS s36] (kA a0_ a1_ [.cells [.i 1,.func (.func 161) [] []]]) [0,1,2] (.tuple [.str s39,.i n40]) (kA a0_ o38 [.cells [.i 1,.func (.func 161) [] []]])) (qZ [some 0,some 1,some 2] [some 0,some 1,some 2,none] (qcm N a0_ a1_ s36 e_r37) (.kb rfl (.cells (rc (.gslice rfl) (rc (.hs rfl) rn))) (.ks (.ks .nil))) rfl rfl (.back rfl rfl (.cells (rc (.gslice rfl) (rc (.hs rfl) rn))) rfl (.back rfl rfl (.same fa) rfl (.back rfl rfl (.same fa) rfl (.old rfl rfl .nil)))) (rc (.ptr rfl) (rc (.same (qo encS _)) rn)) (.same (qm.tuple sn)) rfl)) az)) ?_)
     refine sq ?_
     refine sh fol [(12,.str s39),(13,.i n40),(74,.bool (!decide (n40=0)))] ?_
     refine ihB h (fun c41 h=>?_) (fun c41 h=>?_)
     ·refine sh fol (kBr (kAb n40)) ?_
      refine Goes.ret ?_
      simp only[Option.some.injEq,Prod.mk.injEq]at h
      obtain⟨rfl,rfl,rfl,rfl⟩:=h
      exact(gh2 [.str [],.i n40] (Sub.norm [] [some 0,some 1,some 2,some 1,some 2] (by rw[hB];rfl) rfl (.keep (.tupleL (rc (.same nS) (rc (.same nI) rn))) .nil) (.kb rfl (.cells (rc (.gslice rfl) (rc (.hs rfl) rn))) (.lost (.lost (.ks (.ks .nil)))))))
     ·refine Goes.skip ?_
      refine sq ?_
      refine sh fol [(12,.str s39),(77,.bool (s39==[]))] ?_
      obtain⟨r43,g43,h⟩:=bnd h
      refine Goes.imp (Q:=fun x s'=>(x= .normal∧ ∃s42,s42=r43∧Sub s' (ofG 79 [(12,.str s42)],(kA a0_ o38 [])))) ?_ ?_
      ·refine ihB g43 (fun c44 g43=>?_) (fun c44 g43=>?_)
       ·refine gh fol [(12,.str [110,111,110,101])] ?_
        obtain rfl:=si g43
        exact⟨rfl,_,rfl,(Sub.norm [] [some 0,some 1,some 2] (by rw[hB];rfl) rfl (.keep (.same nS) .nil) (.kb rfl (.cells (rc (.gslice rfl) (rc (.hs rfl) rn))) (.ks (.ks .nil))))⟩
       ·refine Goes.skip ?_
        obtain rfl:=si g43
        exact⟨rfl,_,rfl,(Sub.norm [] [some 0,some 1,some 2] (by rw[hB];rfl) rfl (.keep (.same nS) .nil) (.kb rfl (.cells (rc (.gslice rfl) (rc (.hs rfl) rn))) (.ks (.ks .nil))))⟩
      rintro x s' ⟨rfl,s42,rfl,hsub⟩
      refine Goes.sub hsub ?_
      refine sh fol ((4,.str s42)::kA4) ?_
      refine Goes.ret ?_
      simp only[Option.some.injEq,Prod.mk.injEq]at h
      obtain⟨rfl,rfl,rfl,rfl⟩:=h
      exact(gh2 [.str s42,.i 0] (Sub.norm [] [some 0,some 1,some 2,some 1,some 2] (by rw[hB];rfl) rfl (.keep (.tupleL (rc (.same nS) (rc (.same nI) rn))) .nil) (.kb rfl (.cells (rc (.gslice rfl) (rc (.hs rfl) rn))) (.lost (.lost (.ks (.ks .nil)))))))
   ·rcases wyB h with⟨c29,h⟩|⟨c29,h⟩
    ·refine gq fol [0,2,3,4] (kS r9 [(11,.bool true)]) (kA a0_ a1_ [.cells [.i 0,.func (.func 162) [] []]]) (ac (cv (xw e_r26)) (ac (iv zi encS e_x27) (ac (lv 0 ce9 encS e_x27 rfl) (ac (hs (.done (qL Tryz.prog 194 (fm2) (.str x27) true) (.tuple (.agg [.i 0,.func (.func 162) [] []]::kAp))) (xh ql9 [[115,108,105,110,103],[115,108,105,110,103,115],[100,117,101]] (qj c28 (kw c29)) rfl)) az)))) ?_
     refine sq ?_
     refine sh fol (kS r9 [(53,.bool false)]) ?_
     refine Goes.ifB (b:=false) (by kernel_rfl) (fun c=>(by cases c)) (fun _=>?_)
     refine Goes.skip ?_
     refine sq ?_
     refine sq ?_
     obtain⟨b47,g_v48,h⟩:=bnd h
     refine Goes.cut (s':=(ofG 79 (kS r9 [(63,.bool b47)]),(kA a0_ a1_ [.cells [.i 0,.func (.func 162) [] []]]))) ?_ ?_
     ·rcases wyB g_v48 with⟨c45,g_v48⟩|⟨c45,g_v48⟩
      ·obtain rfl:=si g_v48
       exact tr fol [6] (kS r9 [(63,.bool true)]) (ac (gw c45) az)
      ·obtain⟨r46,e_r46,g_v48⟩:=bnd g_v48
       obtain rfl:=si g_v48
       exact tr fol [6,8] (kS r9 [(63,.bool r46)]) (ac (gw c45) (ac (cv (jX N r9 [] e_r46)) az))
     refine ihB h (fun c49 h=>?_) (fun c49 h=>?_)
     ·refine sh fol (kBr [(5,.i 25)]) ?_
      refine Goes.ret ?_
      simp only[Option.some.injEq,Prod.mk.injEq]at h
      obtain⟨rfl,rfl,rfl,rfl⟩:=h
      exact(gh2 [.str [],.i 25] (Sub.norm [] [some 0,some 1,some 2,some 1,some 2] (by rw[hB];rfl) rfl (.keep (.tupleL (rc (.same nS) (rc (.same nI) rn))) .nil) (.kb rfl (.cells (rc (.gslice rfl) (rc (.hs rfl) rn))) (.lost (.lost (.ks (.ks .nil)))))))
     ·refine Goes.skip ?_
      obtain⟨s50,e_s50,h⟩:=bnd h
      obtain⟨⟨o52,s53⟩,e_r51,h⟩:=bnd h
      try dsimp only at h
      refine sq (gq fol [4,5] [(12,.str s53),(13,.i 0)] (kA a0_ o52 [.cells [.i 0,.func (.func 162) [] []]]) (ac (hs (.done (.opt (qG Tryz.prog 23 (vl encS r9) (some (.i 1)) none none)) (vl encS s50)) (qfb zi (E:=encS) rfl (some 1) none e_s50)) (ac (hs (.callH 162 [.ptr 0 0,vl encS s50] (kA a0_ a1_ [.cells [.i 0,.func (.func 162) [] []]]) [0,1,2] (.tuple [.str s53,.i 0]) (kA a0_ o52 [.cells [.i 0,.func (.func 162) [] []]])) (qZ [some 0,some 1,some 2] [some 0,some 1,some 2,none] (qce N a0_ a1_ s50 e_r51) (.kb rfl (.cells (rc (.gslice rfl) (rc (.hs rfl) rn))) (.ks (.ks .nil))) rfl rfl (.back rfl rfl (.cells (rc (.gslice rfl) (rc (.hs rfl) rn))) rfl (.back rfl rfl (.same fa) rfl (.back rfl rfl (.same fa) rfl (.old rfl rfl .nil)))) (rc (.ptr rfl) (rc (.same (qo encS _)) rn)) (.same (qm.tuple sn)) rfl)) az)) ?_)
      refine sq ?_
      refine sh fol [(12,.str s53),(13,.i 0),(74,.bool (!decide (0=0)))] ?_
      refine ihB h (fun c54 h=>?_) (fun c54 h=>?_)
      ·refine sh fol (kBr kA4) ?_
       refine Goes.ret ?_
       simp only[Option.some.injEq,Prod.mk.injEq]at h
       obtain⟨rfl,rfl,rfl,rfl⟩:=h
       exact(gh2 [.str [],.i 0] (Sub.norm [] [some 0,some 1,some 2,some 1,some 2] (by rw[hB];rfl) rfl (.keep (.tupleL (rc (.same nS) (rc (.same nI) rn))) .nil) (.kb rfl (.cells (rc (.gslice rfl) (rc (.hs rfl) rn))) (.lost (.lost (.ks (.ks .nil)))))))
      ·refine Goes.skip ?_
       refine sq ?_
       refine sh fol [(12,.str s53),(77,.bool (s53==[]))] ?_
       obtain⟨r56,g56,h⟩:=bnd h
       refine Goes.imp (Q:=fun x s'=>(x= .normal∧ ∃s55,s55=r56∧Sub s' (ofG 79 [(12,.str s55)],(kA a0_ o52 [])))) ?_ ?_
       ·refine ihB g56 (fun c57 g56=>?_) (fun c57 g56=>?_)
        ·refine gh fol [(12,.str [110,111,110,101])] ?_
         obtain rfl:=si g56
         exact⟨rfl,_,rfl,(Sub.norm [] [some 0,some 1,some 2] (by rw[hB];rfl) rfl (.keep (.same nS) .nil) (.kb rfl (.cells (rc (.gslice rfl) (rc (.hs rfl) rn))) (.ks (.ks .nil))))⟩
        ·refine Goes.skip ?_
         obtain rfl:=si g56
         exact⟨rfl,_,rfl,(Sub.norm [] [some 0,some 1,some 2] (by rw[hB];rfl) rfl (.keep (.same nS) .nil) (.kb rfl (.cells (rc (.gslice rfl) (rc (.hs rfl) rn))) (.ks (.ks .nil))))⟩
       rintro x s' ⟨rfl,s55,rfl,hsub⟩
       refine Goes.sub hsub ?_
       refine sh fol ((4,.str s55)::kA4) ?_
       refine Goes.ret ?_
       simp only[Option.some.injEq,Prod.mk.injEq]at h
       obtain⟨rfl,rfl,rfl,rfl⟩:=h
       exact(gh2 [.str s55,.i 0] (Sub.norm [] [some 0,some 1,some 2,some 1,some 2] (by rw[hB];rfl) rfl (.keep (.tupleL (rc (.same nS) (rc (.same nI) rn))) .nil) (.kb rfl (.cells (rc (.gslice rfl) (rc (.hs rfl) rn))) (.lost (.lost (.ks (.ks .nil)))))))
    ·rcases wyB h with⟨c30,h⟩|⟨c30,h⟩
     ·refine gq fol [0,2,3,4] (kS r9 [(11,.bool true)]) (kA a0_ a1_ [.cells [.i 1,.func (.func 163) [] []]]) (ac (cv (xw e_r26)) (ac (iv zi encS e_x27) (ac (lv 0 ce9 encS e_x27 rfl) (ac (hs (.done (qL Tryz.prog 194 (fm2) (.str x27) true) (.tuple (.agg [.i 1,.func (.func 163) [] []]::kAp))) (xh ql9 [[115,108,105,110,103],[115,108,105,110,103,115],[100,117,101]] (qj c28 (qj c29 (kw c30))) rfl)) az)))) ?_
      refine sq ?_
      refine sh fol (kS r9 [(53,.bool false)]) ?_
      refine Goes.ifB (b:=false) (by kernel_rfl) (fun c=>(by cases c)) (fun _=>?_)
      refine Goes.skip ?_
      refine sq ?_
      refine sq ?_
      obtain⟨b60,g_v61,h⟩:=bnd h
      refine Goes.cut (s':=(ofG 79 (kS r9 [(63,.bool b60)]),(kA a0_ a1_ [.cells [.i 1,.func (.func 163) [] []]]))) ?_ ?_
      ·rcases wyB g_v61 with⟨c58,g_v61⟩|⟨c58,g_v61⟩
       ·obtain rfl:=si g_v61
        exact tr fol [6] (kS r9 [(63,.bool true)]) (ac (gw c58) az)
       ·obtain⟨r59,e_r59,g_v61⟩:=bnd g_v61
        obtain rfl:=si g_v61
        exact tr fol [6,8] (kS r9 [(63,.bool r59)]) (ac (gw c58) (ac (cv (jX N r9 [] e_r59)) az))
      refine ihB h (fun c62 h=>?_) (fun c62 h=>?_)
      ·refine sh fol (kBr [(5,.i 25)]) ?_
       refine Goes.ret ?_
       simp only[Option.some.injEq,Prod.mk.injEq]at h
       obtain⟨rfl,rfl,rfl,rfl⟩:=h
       exact(gh2 [.str [],.i 25] (Sub.norm [] [some 0,some 1,some 2,some 1,some 2] (by rw[hB];rfl) rfl (.keep (.tupleL (rc (.same nS) (rc (.same nI) rn))) .nil) (.kb rfl (.cells (rc (.gslice rfl) (rc (.hs rfl) rn))) (.lost (.lost (.ks (.ks .nil)))))))
      ·refine Goes.skip ?_
       obtain⟨s63,e_s63,h⟩:=bnd h
       obtain⟨⟨o65,s66,n67⟩,e_r64,h⟩:=bnd h
       try dsimp only at h
       refine sq (gq fol [4,5] [(12,.str s66),(13,.i n67)] (kA a0_ o65 [.cells [.i 1,.func (.func 163) [] []]]) (ac (hs (.done (.opt (qG Tryz.prog 23 (vl encS r9) (some (.i 1)) none none)) (vl encS s63)) (qfb zi (E:=encS) rfl (some 1) none e_s63)) (ac (hs (.callH 163 [.ptr 0 0,vl encS s63] (kA a0_ a1_ [.cells [.i 1,.func (.func 163) [] []]]) [0,1,2] (.tuple [.str s66,.i n67]) (kA a0_ o65 [.cells [.i 1,.func (.func 163) [] []]])) (qZ [some 0,some 1,some 2] [some 0,some 1,some 2,none] (qc8 N a0_ a1_ s63 e_r64) (.kb rfl (.cells (rc (.gslice rfl) (rc (.hs rfl) rn))) (.ks (.ks .nil))) rfl rfl (.back rfl rfl (.cells (rc (.gslice rfl) (rc (.hs rfl) rn))) rfl (.back rfl rfl (.same fa) rfl (.back rfl rfl (.same fa) rfl (.old rfl rfl .nil)))) (rc (.ptr rfl) (rc (.same (qo encS _)) rn)) (.same (qm.tuple sn)) rfl)) az)) ?_)
       refine sq ?_
       refine sh fol [(12,.str s66),(13,.i n67),(74,.bool (!decide (n67=0)))] ?_
       refine ihB h (fun c68 h=>?_) (fun c68 h=>?_)
       ·refine sh fol (kBr (kAb n67)) ?_
        refine Goes.ret ?_
        simp only[Option.some.injEq,Prod.mk.injEq]at h
        obtain⟨rfl,rfl,rfl,rfl⟩:=h
        exact(gh2 [.str [],.i n67] (Sub.norm [] [some 0,some 1,some 2,some 1,some 2] (by rw[hB];rfl) rfl (.keep (.tupleL (rc (.same nS) (rc (.same nI) rn))) .nil) (.kb rfl (.cells (rc (.gslice rfl) (rc (.hs rfl) rn))) (.lost (.lost (.ks (.ks .nil)))))))
       ·refine Goes.skip ?_
        refine sq ?_
        refine sh fol [(12,.str s66),(77,.bool (s66==[]))] ?_
        obtain⟨r70,g70,h⟩:=bnd h
        refine Goes.imp (Q:=fun x s'=>(x= .normal∧ ∃s69,s69=r70∧Sub s' (ofG 79 [(12,.str s69)],(kA a0_ o65 [])))) ?_ ?_
        ·refine ihB g70 (fun c71 g70=>?_) (fun c71 g70=>?_)
         ·refine gh fol [(12,.str [110,111,110,101])] ?_
          obtain rfl:=si g70
          exact⟨rfl,_,rfl,(Sub.norm [] [some 0,some 1,some 2] (by rw[hB];rfl) rfl (.keep (.same nS) .nil) (.kb rfl (.cells (rc (.gslice rfl) (rc (.hs rfl) rn))) (.ks (.ks .nil))))⟩
         ·refine Goes.skip ?_
          obtain rfl:=si g70
          exact⟨rfl,_,rfl,(Sub.norm [] [some 0,some 1,some 2] (by rw[hB];rfl) rfl (.keep (.same nS) .nil) (.kb rfl (.cells (rc (.gslice rfl) (rc (.hs rfl) rn))) (.ks (.ks .nil))))⟩
        rintro x s' ⟨rfl,s69,rfl,hsub⟩
        refine Goes.sub hsub ?_
        refine sh fol ((4,.str s69)::kA4) ?_
        refine Goes.ret ?_
        simp only[Option.some.injEq,Prod.mk.injEq]at h
        obtain⟨rfl,rfl,rfl,rfl⟩:=h
        exact(gh2 [.str s69,.i 0] (Sub.norm [] [some 0,some 1,some 2,some 1,some 2] (by rw[hB];rfl) rfl (.keep (.tupleL (rc (.same nS) (rc (.same nI) rn))) .nil) (.kb rfl (.cells (rc (.gslice rfl) (rc (.hs rfl) rn))) (.lost (.lost (.ks (.ks .nil)))))))
     ·refine gq fol [0,2,3,4] (kS r9 [(11,.bool false)]) (kA a0_ a1_ [.cells [.i 0,.nilfunc]]) (ac (cv (xw e_r26)) (ac (iv zi encS e_x27) (ac (lv 0 ce9 encS e_x27 rfl) (ac (hs (.done (qL Tryz.prog 194 (fm2) (.str x27) true) (.tuple (.agg [.i 0,.nilfunc]::kBM))) (qhr ql9 [[115,108,105,110,103],[115,108,105,110,103,115],[100,117,101]] (qj c28 (qj c29 (qj c30 (rfl)))))) az)))) ?_
      refine sq ?_
      refine sh fol (kS r9 [(53,.bool true)]) ?_
      refine Goes.ifB (b:=true) (by kernel_rfl) (fun _=>?_) (fun c=>(by cases c))
      refine sh fol (kBr [(5,.i 13)]) ?_
      refine Goes.ret ?_
      simp only[Option.some.injEq,Prod.mk.injEq]at h
      obtain⟨rfl,rfl,rfl,rfl⟩:=h
      exact(gh2 [.str [],.i 13] (Sub.norm [] [some 0,some 1,some 2,some 1,some 2] (by rw[hB];rfl) rfl (.keep (.tupleL (rc (.same nS) (rc (.same nI) rn))) .nil) (.kb rfl (.cells (rc (.gslice rfl) (rc (.hs rfl) rn))) (.lost (.lost (.ks (.ks .nil)))))))
def yX (a0_:Str):Option Unit:=
 some ()
theorem qdi (a0_:Str) (h:yX a0_=some ()):qg Tryz.prog (.fn 51) [.nilptr,.str a0_] [] (.tuple [.str [],.i 19]) []:=by
 unfold yX at h
 refine Goes.fnH Tryz.func51 rfl rfl (m:=79) rfl (rs:=[.tmp 4,.tmp 5]) rfl (l:=[(0,.nilptr),(1,.str a0_)]) rfl ?_
 intro B hB
 refine sh fol [(0,.nilptr),(1,.str a0_)] ?_
 refine sq ?_
 refine sh fol [(0,.nilptr),(1,.str a0_),(15,.bool true)] ?_
 refine Goes.ifB (b:=true) (by kernel_rfl) (fun _=>?_) (fun c=>(by cases c))
 refine sh fol (kBr [(5,.i 19)]) ?_
 refine Goes.ret ?_
 exact(gh2 [.str [],.i 19] (qb1.refl _ _))
def qU (a0_:List qb):Nat→(List qb)→Int→Option (List qb)
 |0,_,_=>none
 |K+1,l2,n3=>
  if n3<(a0_.length:Int)then
  (((idx a0_ n3).bind fun x9=>
  (vI x9).bind fun r10=>
  if r10=true then
  (zZ x9).bind fun r12=>
  (app 88 l2 [r12]).bind fun l13=>
  some l13
  else
  some l2:Option (List qb))).bind fun l7=>
  qU a0_ K l7 (w64 (n3+1))
  else
  some l2
def yu (N:Nat) (a0_:List qb):Option (List qb):=
 (qU a0_ N ([]:List qb) 0).bind fun l4=>
 some l4
theorem qcJ (N:Nat) (a0_:List qb) {l1:List qb} (h:yu N a0_=some l1):qg Tryz.prog (.fn 113) [.gslice 0 a0_.length 5,.func (.func 114) [] [],.func (.func 115) [] []] (kB a0_ []) (.gslice 1 l1.length 5) (kB a0_ (kB l1 [])):=by
 unfold yu at h
 refine Goes.fnH Tryz.func113 rfl rfl (m:=27) rfl (rs:=[.tmp 6]) rfl (l:=[(0,.gslice 0 a0_.length 5),(1,.func (.func 114) [] []),(2,.func (.func 115) [] [])]) rfl ?_
 intro B hB
 refine sh fol [(0,.gslice 0 a0_.length 5),(1,.func (.func 114) [] []),(2,.func (.func 115) [] [])] ?_
 refine sh fol [(0,.gslice 0 a0_.length 5),(1,.func (.func 114) [] []),(2,.func (.func 115) [] []),(7,.nilslice)] ?_
 refine sq ?_
 refine sh fol ((1,.func (.func 114) [] [])::(2,.func (.func 115) [] [])::(7,.nilslice)::(kAU a0_ (kA1 (a0_.length:Int)))) ?_
 refine Goes.block ?_
 obtain⟨r5,g5,h⟩:=bnd h
 refine Goes.imp (Q:=fun x s'=>(x= .exit 0∧ ∃l4,l4=r5∧Sub s' (ofG 27 (kBo l4 []),(kB a0_ (kB l4 []))))) ?_ ?_
 ·refine Goes.sub (s':=(ofG 27 ((1,.func (.func 114) [] [])::(2,.func (.func 115) [] [])::(7,.gslice 1 ([]:List qb).length 5)::(kAU a0_ (kA1 (a0_.length:Int)))),(kB a0_ (kB3 [])))) (Sub.norm [] [some 0,none] (by rw[hB];rfl) rfl (.keep (.same (qm.func sn sn)) (.keep (.same (qm.func sn sn)) (.keep .nil (.keep (.gslice rfl) (.keep (.same nI) (.keep (.same nI) .nil)))))) (.ks (.fresh .nil))) ?_
  refine Goes.loopS (fun M s=> ∃(l2:List qb) (n3:Int),s=(ofG 27 ((1,.func (.func 114) [] [])::(2,.func (.func 115) [] [])::(kBo l2 (kAU a0_ (kR (a0_.length:Int) n3)))),(kB a0_ (kB l2 [])))∧qU a0_ M l2 n3=some r5) ?_ (m:=N) ⟨_,_,rfl,g5⟩
  rintro M s ⟨l2,n3,rfl,g5⟩
  cases M with
  |zero=>simp only[qU]at g5;cases g5
  |succ M=>
   rw[qU]at g5
   refine sh fol ((1,.func (.func 114) [] [])::(2,.func (.func 115) [] [])::(kBo l2 (kAU a0_ (kBY (a0_.length:Int) n3 (kB0 (decide (n3<(a0_.length:Int)))))))) ?_
   refine sq ?_
   refine ihD g5 (fun c6 g5=>?_) (fun c6 g5=>?_)
   ·refine Goes.skip ?_
    refine sq ?_
    obtain⟨r8,g8,g5⟩:=bnd g5
    refine Goes.imp (Q:=fun x s'=>(x= .normal∧ ∃l7,l7=r8∧Sub s' (ofG 27 ((1,.func (.func 114) [] [])::(2,.func (.func 115) [] [])::(kBo l7 (kAU a0_ (kR (a0_.length:Int) n3)))),(kB a0_ (kB l7 []))))) ?_ ?_
    ·refine Goes.block ?_
     obtain⟨x9,e_x9,g8⟩:=bnd g8
     refine sq (gq fol [0,1] ((1,.func (.func 114) [] [])::(2,.func (.func 115) [] [])::(kBo l2 ((9,.ptr 2 0)::(kAU a0_ (kR (a0_.length:Int) n3))))) (kB a0_ (kB l2 (kQ x9 []))) (ac (hs (.done (.opt (qE Tryz.prog 22 (.gslice 0 a0_.length 5) (.i n3))) (.ptr 0 ((n3:Int).toNat*5+0))) (qpA jo e_x9)) (ac (hs (.run [0] (jP Tryz.prog 26 (.ptr 0 ((n3:Int).toNat*5+0))) (kB a0_ (kB l2 [])) (.agg (cE x9)) (kB a0_ (kB l2 [])) false) (qkH qjl (E:=qa) (l:=a0_) rfl rfl e_x9)) az)) ?_)
     obtain⟨r10,e_r10,g8⟩:=bnd g8
     refine sq (gr fol [2] ((1,.func (.func 114) [] [])::(2,.func (.func 115) [] [])::(kBo l2 ((9,.ptr 2 0)::(kAU a0_ (kBY (a0_.length:Int) n3 [(18,.bool r10)]))))) (ac (cv (qb8 x9 e_r10)) az) ?_)
     refine ihB g8 (fun c11 g8=>?_) (fun c11 g8=>?_)
     ·obtain⟨r12,e_r12,g8⟩:=bnd g8
      obtain⟨l13,e_l13,g8⟩:=bnd g8
      refine gq fol [3,5] ((1,.func (.func 114) [] [])::(2,.func (.func 115) [] [])::(7,.gslice 4 l13.length 5)::(kAU a0_ (kR (a0_.length:Int) n3))) (kB a0_ (.dead::(kQ x9 (kQ r12 (kB l13 []))))) (ac (cv (qah x9 e_r12)) (ac (hs (.run [1,3] (qz Tryz.prog [22,22] (.gslice 1 l2.length 5) (.slice 3 0 1 1 5)) (kB a0_ (kB l2 (kQ x9 (kQ r12 [])))) (.gslice 4 l13.length 5) (kB a0_ (.dead::(kQ x9 (kQ r12 (kB l13 []))))) true) (ko jo (E:=qa) rfl (xm (E:=qa) (ys:=[r12]) rfl rfl rfl rfl) (qcF (E:=qa) (l:=l2) rfl rfl rfl e_l13 rfl))) az)) ?_
      obtain rfl:=si g8
      exact⟨rfl,_,rfl,(Sub.norm [] [some 0,some 4] (by rw[hB];rfl) rfl (.keep (.same (qm.func sn sn)) (.keep (.same (qm.func sn sn)) (.keep (.gslice rfl) (.keep (.gslice rfl) (.keep (.same nI) (.keep (.same nI) .nil)))))) (.ks (.ks .nil)))⟩
     ·refine Goes.skip ?_
      obtain rfl:=si g8
      exact⟨rfl,_,rfl,(Sub.norm [] [some 0,some 1] (by rw[hB];rfl) rfl (.keep (.same (qm.func sn sn)) (.keep (.same (qm.func sn sn)) (.keep (.gslice rfl) (.drop (.keep (.gslice rfl) (.keep (.same nI) (.keep (.same nI) .nil))))))) (.ks (.ks .nil)))⟩
    rintro x s' ⟨rfl,l7,rfl,hsub⟩
    refine Goes.sub hsub ?_
    refine gh fol ((1,.func (.func 114) [] [])::(2,.func (.func 115) [] [])::(kBo l7 (kAU a0_ (kR (a0_.length:Int) (w64 (n3+1)))))) ?_
    exact⟨M,(ofG 27 ((1,.func (.func 114) [] [])::(2,.func (.func 115) [] [])::(kBo l7 (kAU a0_ (kR (a0_.length:Int) (w64 (n3+1)))))),(kB a0_ (kB l7 []))),Nat.lt_succ_self _,(Sub.refl _),_,_,rfl,g5⟩
   ·refine Goes.exit ?_
    obtain rfl:=si g5
    exact⟨rfl,_,rfl,(Sub.keep [7] rfl rfl)⟩
 rintro x s' ⟨rfl,l4,rfl,hsub⟩
 refine Goes.sub hsub ?_
 refine sh fol [(6,.gslice 1 l4.length 5)] ?_
 refine Goes.ret ?_
 obtain rfl:=si h
 exact(gh2 [.gslice 1 l4.length 5] (qb1.refl _ _))
def jB (N:Nat) (a0_:List qb) (a1_:Option (List StateT)):Option (List qb):=
 (yu N a0_).bind fun l3=>
 some l3
theorem zN (N:Nat) (a0_:List qb) (a1_:Option (List StateT)) {l1:List qb} (h:jB N a0_ a1_=some l1):qg Tryz.prog (.fn 52) [.ptr 0 0] (kA a0_ a1_ []) (.gslice 3 l1.length 5) (kA a0_ a1_ (kB l1 [])):=by
 unfold jB at h
 refine Goes.fnH Tryz.func52 rfl rfl (m:=11) rfl (rs:=[.tmp 2]) rfl (l:=(kAK [])) rfl ?_
 intro B hB
 refine sh fol (kAK []) ?_
 refine sq ?_
 refine sh fol (kAK kAN) ?_
 refine Goes.ifB (b:=false) (by kernel_rfl) (fun c=>(by cases c)) (fun _=>?_)
 refine Goes.skip ?_
 obtain⟨l3,e_r2,h⟩:=bnd h
 refine sq (gq fol [5] [(2,.gslice 3 l3.length 5)] (kA a0_ a1_ (kB l3 [])) (ac (hs (.callH 113 [.gslice 1 a0_.length 5,.func (.func 114) [] [],.func (.func 115) [] []] (kA a0_ a1_ []) [1] (.gslice 3 l3.length 5) (kA a0_ a1_ (kB l3 []))) (qZ [some 1] [none,some 0,none,some 1] (qcJ N a0_ e_r2) (.ks .nil) rfl rfl (.old rfl rfl (.back rfl rfl (.same fa) rfl (.old rfl rfl (.new rfl rfl (.same fa) rfl .nil)))) (rc (.gslice rfl) (rc (.same (qm.func sn sn)) (rc (.same (qm.func sn sn)) rn))) (.gslice rfl) rfl)) az) ?_)
 refine Goes.ret ?_
 obtain rfl:=si h
 exact(gh2 [.gslice 3 l3.length 5] (qb1.refl _ _))
def qO (N:Nat) (a0_:List qb):Nat→(List Str)→Int→Option (List Str)
 |0,_,_=>none
 |K+1,l2,n3=>
  if n3<(a0_.length:Int)then
  (((idx a0_ n3).bind fun x9=>
  (yO x9).bind fun r10=>
  if r10=true then
  (qaQ N x9).bind fun r12=>
  (app 16 l2 [r12]).bind fun l13=>
  some l13
  else
  some l2:Option (List Str))).bind fun l7=>
  qO N a0_ K l7 (w64 (n3+1))
  else
  some l2
def vV (N:Nat) (a0_:List qb):Option (List Str):=
 (qO N a0_ N ([]:List Str) 0).bind fun l4=>
 some l4
theorem qco (N:Nat) (a0_:List qb) {l1:List Str} (h:vV N a0_=some l1):qg Tryz.prog (.fn 117) [.gslice 0 a0_.length 5,.func (.func 118) [] [],.func (.func 102) [] []] (kB a0_ []) (.gslice 1 l1.length 1) (kB a0_ (kH l1 [])):=by
 unfold vV at h
 refine Goes.fnH Tryz.func117 rfl rfl (m:=27) rfl (rs:=[.tmp 6]) rfl (l:=[(0,.gslice 0 a0_.length 5),(1,.func (.func 118) [] []),(2,.func (.func 102) [] [])]) rfl ?_
 intro B hB
 refine sh fol [(0,.gslice 0 a0_.length 5),(1,.func (.func 118) [] []),(2,.func (.func 102) [] [])] ?_
 refine sh fol [(0,.gslice 0 a0_.length 5),(1,.func (.func 118) [] []),(2,.func (.func 102) [] []),(7,.nilslice)] ?_
 refine sq ?_
 refine sh fol ((1,.func (.func 118) [] [])::(2,.func (.func 102) [] [])::(7,.nilslice)::(kAU a0_ (kA1 (a0_.length:Int)))) ?_
 refine Goes.block ?_
 obtain⟨r5,g5,h⟩:=bnd h
 refine Goes.imp (Q:=fun x s'=>(x= .exit 0∧ ∃l4,l4=r5∧Sub s' (ofG 27 (kBp l4 []),(kB a0_ (kH l4 []))))) ?_ ?_
 ·refine Goes.sub (s':=(ofG 27 ((1,.func (.func 118) [] [])::(2,.func (.func 102) [] [])::(7,.gslice 1 ([]:List Str).length 1)::(kAU a0_ (kA1 (a0_.length:Int)))),(kB a0_ (kAm [])))) (Sub.norm [] [some 0,none] (by rw[hB];rfl) rfl (.keep (.same (qm.func sn sn)) (.keep (.same (qm.func sn sn)) (.keep .nil (.keep (.gslice rfl) (.keep (.same nI) (.keep (.same nI) .nil)))))) (.ks (.fresh .nil))) ?_
  refine Goes.loopS (fun M s=> ∃(l2:List Str) (n3:Int),s=(ofG 27 ((1,.func (.func 118) [] [])::(2,.func (.func 102) [] [])::(kBp l2 (kAU a0_ (kR (a0_.length:Int) n3)))),(kB a0_ (kH l2 [])))∧qO N a0_ M l2 n3=some r5) ?_ (m:=N) ⟨_,_,rfl,g5⟩
  rintro M s ⟨l2,n3,rfl,g5⟩
  cases M with
  |zero=>simp only[qO]at g5;cases g5
  |succ M=>
   rw[qO]at g5
   refine sh fol ((1,.func (.func 118) [] [])::(2,.func (.func 102) [] [])::(kBp l2 (kAU a0_ (kBY (a0_.length:Int) n3 (kB0 (decide (n3<(a0_.length:Int)))))))) ?_
   refine sq ?_
   refine ihD g5 (fun c6 g5=>?_) (fun c6 g5=>?_)
   ·refine Goes.skip ?_
    refine sq ?_
    obtain⟨r8,g8,g5⟩:=bnd g5
    refine Goes.imp (Q:=fun x s'=>(x= .normal∧ ∃l7,l7=r8∧Sub s' (ofG 27 ((1,.func (.func 118) [] [])::(2,.func (.func 102) [] [])::(kBp l7 (kAU a0_ (kR (a0_.length:Int) n3)))),(kB a0_ (kH l7 []))))) ?_ ?_
    ·refine Goes.block ?_
     obtain⟨x9,e_x9,g8⟩:=bnd g8
     refine sq (gq fol [0,1] ((1,.func (.func 118) [] [])::(2,.func (.func 102) [] [])::(kBp l2 ((9,.ptr 2 0)::(kAU a0_ (kR (a0_.length:Int) n3))))) (kB a0_ (kH l2 (kQ x9 []))) (ac (hs (.done (.opt (qE Tryz.prog 22 (.gslice 0 a0_.length 5) (.i n3))) (.ptr 0 ((n3:Int).toNat*5+0))) (qpA jo e_x9)) (ac (hs (.run [0] (jP Tryz.prog 26 (.ptr 0 ((n3:Int).toNat*5+0))) (kB a0_ (kH l2 [])) (.agg (cE x9)) (kB a0_ (kH l2 [])) false) (qkH qjl (E:=qa) (l:=a0_) rfl rfl e_x9)) az)) ?_)
     obtain⟨r10,e_r10,g8⟩:=bnd g8
     refine sq (gr fol [2] ((1,.func (.func 118) [] [])::(2,.func (.func 102) [] [])::(kBp l2 ((9,.ptr 2 0)::(kAU a0_ (kBY (a0_.length:Int) n3 [(18,.bool r10)]))))) (ac (cv (qcZ x9 e_r10)) az) ?_)
     refine ihB g8 (fun c11 g8=>?_) (fun c11 g8=>?_)
     ·obtain⟨r12,e_r12,g8⟩:=bnd g8
      obtain⟨l13,e_l13,g8⟩:=bnd g8
      refine gq fol [3,5] ((1,.func (.func 118) [] [])::(2,.func (.func 102) [] [])::(7,.gslice 4 l13.length 1)::(kAU a0_ (kR (a0_.length:Int) n3))) (kB a0_ (.dead::(kQ x9 (kAM r12 (kH l13 []))))) (ac (cv (qgK N x9 e_r12)) (ac (hs (.run [1,3] (qz Tryz.prog [23,23] (.gslice 1 l2.length 1) (.slice 3 0 1 1 1)) (kB a0_ (kH l2 (kQ x9 (kAM r12 [])))) (.gslice 4 l13.length 1) (kB a0_ (.dead::(kQ x9 (kAM r12 (kH l13 []))))) true) (ko zi (E:=encS) rfl (xm (E:=encS) (ys:=[r12]) rfl rfl rfl rfl) (qcF (E:=encS) (l:=l2) rfl rfl rfl e_l13 rfl))) az)) ?_
      obtain rfl:=si g8
      exact⟨rfl,_,rfl,(Sub.norm [] [some 0,some 4] (by rw[hB];rfl) rfl (.keep (.same (qm.func sn sn)) (.keep (.same (qm.func sn sn)) (.keep (.gslice rfl) (.keep (.gslice rfl) (.keep (.same nI) (.keep (.same nI) .nil)))))) (.ks (.ks .nil)))⟩
     ·refine Goes.skip ?_
      obtain rfl:=si g8
      exact⟨rfl,_,rfl,(Sub.norm [] [some 0,some 1] (by rw[hB];rfl) rfl (.keep (.same (qm.func sn sn)) (.keep (.same (qm.func sn sn)) (.keep (.gslice rfl) (.drop (.keep (.gslice rfl) (.keep (.same nI) (.keep (.same nI) .nil))))))) (.ks (.ks .nil)))⟩
    rintro x s' ⟨rfl,l7,rfl,hsub⟩
    refine Goes.sub hsub ?_
    refine gh fol ((1,.func (.func 118) [] [])::(2,.func (.func 102) [] [])::(kBp l7 (kAU a0_ (kR (a0_.length:Int) (w64 (n3+1)))))) ?_
    exact⟨M,(ofG 27 ((1,.func (.func 118) [] [])::(2,.func (.func 102) [] [])::(kBp l7 (kAU a0_ (kR (a0_.length:Int) (w64 (n3+1)))))),(kB a0_ (kH l7 []))),Nat.lt_succ_self _,(Sub.refl _),_,_,rfl,g5⟩
   ·refine Goes.exit ?_
    obtain rfl:=si g5
    exact⟨rfl,_,rfl,(Sub.keep [7] rfl rfl)⟩
 rintro x s' ⟨rfl,l4,rfl,hsub⟩
 refine Goes.sub hsub ?_
 refine sh fol [(6,.gslice 1 l4.length 1)] ?_
 refine Goes.ret ?_
 obtain rfl:=si h
 exact(gh2 [.gslice 1 l4.length 1] (qb1.refl _ _))
def j3 (N:Nat) (a0_:List qb) (a1_:Option (List StateT)):Option Str:=
 (vV N a0_).bind fun l3=>
 (qfe l3 []).bind fun r4=>
 some r4
theorem vG (N:Nat) (a0_:List qb) (a1_:Option (List StateT)) {s1:Str} (h:j3 N a0_ a1_=some s1):qg Tryz.prog (.fn 53) [.ptr 0 0] (kA a0_ a1_ []) (.str s1) (kA a0_ a1_ []):=by
 unfold j3 at h
 refine Goes.fnH Tryz.func53 rfl rfl (m:=12) rfl (rs:=[.tmp 2]) rfl (l:=(kAK [])) rfl ?_
 intro B hB
 refine sh fol (kAK []) ?_
 refine sq ?_
 refine sh fol (kAK kAN) ?_
 refine Goes.ifB (b:=false) (by kernel_rfl) (fun c=>(by cases c)) (fun _=>?_)
 refine Goes.skip ?_
 obtain⟨l3,e_r2,h⟩:=bnd h
 obtain⟨r4,e_r4,h⟩:=bnd h
 refine sq (gq fol [5,6] [(2,.str r4)] (kA a0_ a1_ (kH l3 [])) (ac (hs (.callH 117 [.gslice 1 a0_.length 5,.func (.func 118) [] [],.func (.func 102) [] []] (kA a0_ a1_ []) [1] (.gslice 3 l3.length 1) (kA a0_ a1_ (kH l3 []))) (qZ [some 1] [none,some 0,none,some 1] (qco N a0_ e_r2) (.ks .nil) rfl rfl (.old rfl rfl (.back rfl rfl (.same fa) rfl (.old rfl rfl (.new rfl rfl (.same fa) rfl .nil)))) (rc (.gslice rfl) (rc (.same (qm.func sn sn)) (rc (.same (qm.func sn sn)) rn))) (.gslice rfl) rfl)) (ac (hs (.call 116 [.gslice 3 l3.length 1,.str []] (kA a0_ a1_ (kH l3 [])) [3] [vl encS l3,.str []] (.str r4)) (yQ (FzL.cons (Fz.gs (E:=encS) rfl rfl (nl rfl)) (FzL.cons (Fz.still tS) FzL.nil)) (qhB l3 [] e_r4) tS rfl)) az)) ?_)
 refine Goes.ret ?_
 obtain rfl:=si h
 exact(gh2 [.str r4] (Sub.norm [] [some 0,some 1,some 2] (by rw[hB];rfl) rfl (.keep (.same nS) .nil) (.kb rfl (.cells (rc (.gslice rfl) (rc (.hs rfl) rn))) (.ks (.ks .nil)))))
def vE:Option Unit:=
 some ()
theorem qak (h:vE=some ()):qg Tryz.prog (.fn 52) [.nilptr] [] (.nilslice) []:=by
 unfold vE at h
 refine Goes.fnH Tryz.func52 rfl rfl (m:=11) rfl (rs:=[.tmp 2]) rfl (l:=[(0,.nilptr)]) rfl ?_
 intro B hB
 refine sh fol [(0,.nilptr)] ?_
 refine sq ?_
 refine sh fol ((0,.nilptr)::kAk) ?_
 refine Goes.ifB (b:=true) (by kernel_rfl) (fun _=>?_) (fun c=>(by cases c))
 refine sh fol [(2,.nilslice)] ?_
 refine Goes.ret ?_
 exact(gh2 [.nilslice] (qb1.refl _ _))
def yN:Option Unit:=
 some ()
theorem qc9 (h:yN=some ()):qg Tryz.prog (.fn 53) [.nilptr] [] (.str []) []:=by
 unfold yN at h
 refine Goes.fnH Tryz.func53 rfl rfl (m:=12) rfl (rs:=[.tmp 2]) rfl (l:=[(0,.nilptr)]) rfl ?_
 intro B hB
 refine sh fol [(0,.nilptr)] ?_
 refine sq ?_
 refine sh fol ((0,.nilptr)::kAk) ?_
 refine Goes.ifB (b:=true) (by kernel_rfl) (fun _=>?_) (fun c=>(by cases c))
 refine sh fol [(2,.str [])] ?_
 refine Goes.ret ?_
 exact(gh2 [.str []] (qb1.refl _ _))
end Go.Av
