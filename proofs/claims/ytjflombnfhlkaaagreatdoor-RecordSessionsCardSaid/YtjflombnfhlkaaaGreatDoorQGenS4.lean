/-
  Walks of functions: what each computes, as a plain function.
-/
import Derived.Test.YtjflombnfhlkaaaGreatDoorQGenS3
noncomputable section
namespace Go.Av
open Go.Proofs Go.RowKit
set_option linter.unusedSectionVars false
set_option linter.unusedVariables false
set_option linter.unusedSimpArgs false
set_option maxRecDepth 100000
def jS (a0_:List qc) (a1_:Int) (a2_:Str) (a3_:Str) (a4_:Int) (a5_:Int) (a6_:Int) (a7_:Int) (a8_:Int) (a9_:Int) (a10_:Bool):Option (List qc):=
 (at' a0_ a1_).bind fun j2=>
 if 1=0 then
 some a0_
 else
 if a1_=(a0_.length:Int)then
 ((match a0_ with
 |[]=>
 some ([(⟨a2_,a3_,a4_,a5_,a6_,a7_,a8_,a9_,a10_⟩:qc)]:List qc)
 |x5::xs6=>
 (app 88 (x5::xs6) [(⟨a2_,a3_,a4_,a5_,a6_,a7_,a8_,a9_,a10_⟩:qc)]).bind fun l7=>
 some l7):Option (List qc)).bind fun l8=>
 some l8
 else
 if(w64 ((a0_.length:Int)+1))>(a0_.length:Int)then
 (qmt 88 a0_ j2 (w64 ((w64 ((a0_.length:Int)+1))-a1_)) (⟨[],[],0,0,0,0,0,0,false⟩:qc)).bind fun l11=>
 (if a1_=0 then
 (some (cpy l11 ([(⟨a2_,a3_,a4_,a5_,a6_,a7_,a8_,a9_,a10_⟩:qc)]:List qc))).bind fun l13=>
 some l13
 else
 (at' l11 a1_).bind fun j14=>
 ((if j14<l11.length then some ()else none:Option Unit)).bind fun u15=>
 (some (qf9 l11 j14 ([(⟨a2_,a3_,a4_,a5_,a6_,a7_,a8_,a9_,a10_⟩:qc)]:List qc))).bind fun l16=>
 some l16:Option (List qc)).bind fun l17=>
 (if(w64 (a1_+1))=0 then
 (some (cpy l17 (a0_.drop j2))).bind fun l20=>
 some l20
 else
 (at' l17 (w64 (a1_+1))).bind fun j21=>
 ((if j21<l17.length then some ()else none:Option Unit)).bind fun u22=>
 (some (qf9 l17 j21 (a0_.drop j2))).bind fun l23=>
 some l23:Option (List qc)).bind fun l24=>
 some l24
 else
 none
theorem qcG (a0_:List qc) (a1_:Int) (a2_:Str) (a3_:Str) (a4_:Int) (a5_:Int) (a6_:Int) (a7_:Int) (a8_:Int) (a9_:Int) (a10_:Bool) {l1:List qc} (h:jS a0_ a1_ a2_ a3_ a4_ a5_ a6_ a7_ a8_ a9_ a10_=some l1):qg Tryz.prog (.fn 181) [.slice 0 0 a0_.length a0_.length 9,.i a1_,.slice 1 0 1 1 9] [bS a0_,.cells (cT a2_ a3_ a4_ a5_ a6_ a7_ a8_ a9_ a10_)] (vl qd l1) [.dead,.cells (cT a2_ a3_ a4_ a5_ a6_ a7_ a8_ a9_ a10_)]:=by
 unfold jS at h
 refine Goes.fnH Tryz.func181 rfl rfl (m:=95) rfl (rs:=[.tmp 6]) rfl (l:=(kU a0_ a1_ [(2,.slice 1 0 1 1 9)])) rfl ?_
 intro B hB
 refine sh fol (kU a0_ a1_ [(2,.slice 1 0 1 1 9)]) ?_
 obtain⟨j2,e_j2,h⟩:=bnd h
 refine sq (gr fol [2] (kU a0_ a1_ [(2,.slice 1 0 1 1 9)]) (ac (hs (.done (.opt (qG Tryz.prog 29 (.slice 0 0 a0_.length a0_.length 9) (some (.i a1_)) none none)) (qgd 0 9 a0_.length j2)) (qhK qcx e_j2)) az) ?_)
 refine sh fol (kU a0_ a1_ (kBL [])) ?_
 refine sq ?_
 refine sh fol (kU a0_ a1_ (kBL [(16,.bool (decide (1=0)))])) ?_
 refine ihD h (fun c3 h=>?_) (fun c3 h=>?_)
 ·refine sh fol [(6,.slice 0 0 a0_.length a0_.length 9)] ?_
  refine Goes.ret ?_
  obtain rfl:=si h
  exact(gh2 [.slice 0 0 a0_.length a0_.length 9] (Sub.norm [0] [some 0,some 1] (by rw[hB];rfl) rfl (.keep (.frz (Fz.sl (E:=qd) rfl rfl (nl rfl)) (qo qd _)) .nil) (.lost (.kb rfl (.same sn) .nil))))
 ·refine Goes.skip ?_
  refine sh fol (kU a0_ a1_ (kBL [(8,.i (a0_.length:Int))])) ?_
  refine sq ?_
  refine sh fol (kU a0_ a1_ (kBL [(8,.i (a0_.length:Int)),(22,.bool (decide (a1_=(a0_.length:Int))))])) ?_
  refine ihD h (fun c4 h=>?_) (fun c4 h=>?_)
  ·refine sq ?_
   obtain⟨l8,g_v9,h⟩:=bnd h
   refine Goes.cutS (s':=(ofG 95 [(6,.oslice 2 l8.length 9)],[.dead,.cells (cT a2_ a3_ a4_ a5_ a6_ a7_ a8_ a9_ a10_),bS l8])) ?_ ?_
   ·rcases a0_ with _|⟨x5,xs6⟩
    ·try dsimp only at g_v9
     obtain rfl:=si g_v9
     exact ql.sub (ql.rg fol [(6,.oslice 2 1 9)] [.dead,.cells (cT a2_ a3_ a4_ a5_ a6_ a7_ a8_ a9_ a10_),.cells (cT a2_ a3_ a4_ a5_ a6_ a7_ a8_ a9_ a10_)]) (Sub.norm [] [some 0,some 1,some 2] (by rw[hB];rfl) rfl (.keep (kg.osliceE rfl rfl) .nil) (.lost (.kb rfl (.same sn) (.ks .nil))))
    ·try dsimp only at g_v9
     obtain⟨l7,e_l7,g_v9⟩:=bnd g_v9
     obtain rfl:=si g_v9
     exact ql.sub (ql.rq fol [2] [(6,.oslice 2 l7.length 9)] [.cells ((x5::xs6).flatMap qd.c),.cells (cT a2_ a3_ a4_ a5_ a6_ a7_ a8_ a9_ a10_),bS l7] (ac (hs (.run [0,1] (qz Tryz.prog [29,29] (.slice 0 0 (x5::xs6).length (x5::xs6).length 9) (.slice 1 0 1 1 9)) [.cells ((x5::xs6).flatMap qd.c),.cells (cT a2_ a3_ a4_ a5_ a6_ a7_ a8_ a9_ a10_)] (.oslice 2 l7.length 9) [.cells ((x5::xs6).flatMap qd.c),.cells (cT a2_ a3_ a4_ a5_ a6_ a7_ a8_ a9_ a10_),bS l7] false) (qpW qcx (E:=qd) (l:=(x5::xs6)) (ys:=[(⟨a2_,a3_,a4_,a5_,a6_,a7_,a8_,a9_,a10_⟩:qc)]) rfl rfl rfl rfl rfl rfl rfl rfl e_l7 rfl)) az)) (Sub.norm [] [some 0,some 1,some 2] (by rw[hB];rfl) rfl (.keep (.oslice rfl) .nil) (.lost (.kb rfl (.same sn) (.ks .nil))))
   intro _ hsub
   refine Goes.sub hsub ?_
   refine Goes.ret ?_
   obtain rfl:=si h
   exact(gh2 [.oslice 2 l8.length 9] (Sub.norm [2] [some 0,some 1] (by rw[hB];rfl) rfl (.keep (.frz (Fz.os (E:=qd) rfl rfl (nl rfl)) (qo qd _)) .nil) (.lost (.kb rfl (.same sn) .nil))))
  ·refine Goes.skip ?_
   refine sq ?_
   refine sh fol (kU a0_ a1_ (kBL [(8,.i (a0_.length:Int)),(31,.bool (decide ((w64 ((a0_.length:Int)+1))>(a0_.length:Int))))])) ?_
   refine ihD h (fun c10 h=>?_) (fun c10 h=>?_)
   ·obtain⟨l11,e_l11,h⟩:=bnd h
    refine sq (gq fol [2,8] (kU a0_ a1_ (kBL (kAX l11))) (kAt a0_ a2_ a3_ a4_ a5_ a6_ a7_ a8_ a9_ a10_ l11) (ac (hs (.done (.opt (qG Tryz.prog 29 (.slice 0 0 a0_.length a0_.length 9) none (some (.i a1_)) none)) (.slice 0 0 j2 a0_.length 9)) (qqd qcx e_j2)) (ac (hs (.run [0] (qz Tryz.prog [29,3] (.slice 0 0 j2 a0_.length 9) (.i (w64 ((w64 ((a0_.length:Int)+1))-a1_)))) [bS a0_,.cells (cT a2_ a3_ a4_ a5_ a6_ a7_ a8_ a9_ a10_)] (.oslice 2 l11.length 9) (kAt a0_ a2_ a3_ a4_ a5_ a6_ a7_ a8_ a9_ a10_ l11) false) (qo0 qcx it3 (E:=qd) rfl (z:=(⟨[],[],0,0,0,0,0,0,false⟩:qc)) (by kernel_rfl) rfl rfl e_l11 rfl)) az)) ?_)
    refine sq ?_
    obtain⟨l17,g_v18,h⟩:=bnd h
    refine Goes.cutS (s':=(ofG 95 (kU a0_ a1_ ((7,.i 1)::(kAX l17))),(kAt a0_ a2_ a3_ a4_ a5_ a6_ a7_ a8_ a9_ a10_ l17))) ?_ ?_
    ·rcases wyD g_v18 with⟨c12,g_v18⟩|⟨c12,g_v18⟩
     ·obtain⟨l13,e_l13,g_v18⟩:=bnd g_v18
      obtain rfl:=si g_v18
      exact ql.sub (ql.rq fol [2,4] (kU a0_ a1_ ((7,.i 1)::(kAX l11))) (kAt a0_ a2_ a3_ a4_ a5_ a6_ a7_ a8_ a9_ a10_ l13) (ac (hs (.done (.opt (qG Tryz.prog 29 (.oslice 2 l11.length 9) (some (.i a1_)) none none)) (.oslice 2 l11.length 9)) (qma qcx (ot c12))) (ac (hs (.run [2,1] (qcU Tryz.prog [29,29] (.oslice 2 l11.length 9) (.slice 1 0 1 1 9)) (kAt a0_ a2_ a3_ a4_ a5_ a6_ a7_ a8_ a9_ a10_ l11) (.i ((Nat.min ([(⟨a2_,a3_,a4_,a5_,a6_,a7_,a8_,a9_,a10_⟩:qc)]:List qc).length l11.length:Nat):Int)) (kAt a0_ a2_ a3_ a4_ a5_ a6_ a7_ a8_ a9_ a10_ l13) true) (qk0 qcx (E:=qd) (l:=l11) rfl (xm (E:=qd) (ys:=([(⟨a2_,a3_,a4_,a5_,a6_,a7_,a8_,a9_,a10_⟩:qc)]:List qc)) rfl rfl rfl rfl) (.inr rfl) rfl rfl e_l13 rfl)) az))) ((show Sub (ofG 95 (kU a0_ a1_ ((7,.i 1)::(kAX l11))),(kAt a0_ a2_ a3_ a4_ a5_ a6_ a7_ a8_ a9_ a10_ l13)) (ofG 95 (kU a0_ a1_ ((7,.i 1)::(kAX l13))),(kAt a0_ a2_ a3_ a4_ a5_ a6_ a7_ a8_ a9_ a10_ l13))from(Sub.norm [] [some 0,some 1,some 2] (by rw[hB];rfl) rfl (.keep (.slice rfl) (.keep (.same nI) (.keep (.same nI) (.keep (.osliceE rfl (qho e_l13)) .nil)))) (.ks (.kb rfl (.same sn) (.ks .nil))))).trans (Sub.refl _))
     ·obtain⟨j14,e_j14,g_v18⟩:=bnd g_v18
      obtain⟨u15,e_u15,g_v18⟩:=bnd g_v18
      obtain⟨l16,e_l16,g_v18⟩:=bnd g_v18
      obtain rfl:=si g_v18
      exact ql.sub (ql.rq fol [2,4] (kU a0_ a1_ ((7,.i 1)::(kAX l11))) (kAt a0_ a2_ a3_ a4_ a5_ a6_ a7_ a8_ a9_ a10_ l16) (ac (hs (.done (.opt (qG Tryz.prog 29 (.oslice 2 l11.length 9) (some (.i a1_)) none none)) (.wslice 2 (j14*9) (l11.length-j14) 9)) (qkm qcx (of_decide_eq_false c12) e_j14 (qmf e_u15))) (ac (hs (.run [2,1] (qcU Tryz.prog [29,29] (.wslice 2 (j14*9) (l11.length-j14) 9) (.slice 1 0 1 1 9)) (kAt a0_ a2_ a3_ a4_ a5_ a6_ a7_ a8_ a9_ a10_ l11) (.i ((Nat.min ([(⟨a2_,a3_,a4_,a5_,a6_,a7_,a8_,a9_,a10_⟩:qc)]:List qc).length (l11.length-j14):Nat):Int)) (kAt a0_ a2_ a3_ a4_ a5_ a6_ a7_ a8_ a9_ a10_ l16) true) (qmg qcx (E:=qd) rfl (l:=l11) (xm (E:=qd) (ys:=([(⟨a2_,a3_,a4_,a5_,a6_,a7_,a8_,a9_,a10_⟩:qc)]:List qc)) rfl rfl rfl rfl) (qiR e_j14) rfl rfl e_l16 rfl)) az))) ((show Sub (ofG 95 (kU a0_ a1_ ((7,.i 1)::(kAX l11))),(kAt a0_ a2_ a3_ a4_ a5_ a6_ a7_ a8_ a9_ a10_ l16)) (ofG 95 (kU a0_ a1_ ((7,.i 1)::(kAX l16))),(kAt a0_ a2_ a3_ a4_ a5_ a6_ a7_ a8_ a9_ a10_ l16))from(Sub.norm [] [some 0,some 1,some 2] (by rw[hB];rfl) rfl (.keep (.slice rfl) (.keep (.same nI) (.keep (.same nI) (.keep (.osliceE rfl (qjd (qiR e_j14) e_l16)) .nil)))) (.ks (.kb rfl (.same sn) (.ks .nil))))).trans (Sub.refl _))
    intro _ hsub
    refine Goes.sub hsub ?_
    refine sq ?_
    obtain⟨l24,g_v25,h⟩:=bnd h
    refine Goes.cutS (s':=(ofG 95 (kAX l24),(kAt a0_ a2_ a3_ a4_ a5_ a6_ a7_ a8_ a9_ a10_ l24))) ?_ ?_
    ·rcases wyD g_v25 with⟨c19,g_v25⟩|⟨c19,g_v25⟩
     ·obtain⟨l20,e_l20,g_v25⟩:=bnd g_v25
      obtain rfl:=si g_v25
      exact ql.sub (ql.rq fol [4,7,8] (kAX l17) (kAt a0_ a2_ a3_ a4_ a5_ a6_ a7_ a8_ a9_ a10_ l20) (ac (hs (.done (.opt (qG Tryz.prog 29 (.oslice 2 l17.length 9) (some (.i (w64 (a1_+1)))) none none)) (.oslice 2 l17.length 9)) (qma qcx (ot c19))) (ac (hs (.done (.opt (qG Tryz.prog 29 (.slice 0 0 a0_.length a0_.length 9) (some (.i a1_)) none none)) (qgd 0 9 a0_.length j2)) (qhK qcx e_j2)) (ac (hs (.run [2,0] (qcU Tryz.prog [29,29] (.oslice 2 l17.length 9) (qgd 0 9 a0_.length j2)) (kAt a0_ a2_ a3_ a4_ a5_ a6_ a7_ a8_ a9_ a10_ l17) (.i ((Nat.min (a0_.drop j2).length l17.length:Nat):Int)) (kAt a0_ a2_ a3_ a4_ a5_ a6_ a7_ a8_ a9_ a10_ l20) true) (qk0 qcx (E:=qd) (l:=l17) rfl (qiZ (E:=qd) rfl rfl rfl (qiR e_j2)) (.inr rfl) rfl rfl e_l20 rfl)) az)))) ((show Sub (ofG 95 (kAX l17),(kAt a0_ a2_ a3_ a4_ a5_ a6_ a7_ a8_ a9_ a10_ l20)) (ofG 95 (kAX l20),(kAt a0_ a2_ a3_ a4_ a5_ a6_ a7_ a8_ a9_ a10_ l20))from(Sub.norm [] [some 0,some 1,some 2] (by rw[hB];rfl) rfl (.keep (.osliceE rfl (qho e_l20)) .nil) (.ks (.kb rfl (.same sn) (.ks .nil))))).trans (Sub.refl _))
     ·obtain⟨j21,e_j21,g_v25⟩:=bnd g_v25
      obtain⟨u22,e_u22,g_v25⟩:=bnd g_v25
      obtain⟨l23,e_l23,g_v25⟩:=bnd g_v25
      obtain rfl:=si g_v25
      exact ql.sub (ql.rq fol [4,7,8] (kAX l17) (kAt a0_ a2_ a3_ a4_ a5_ a6_ a7_ a8_ a9_ a10_ l23) (ac (hs (.done (.opt (qG Tryz.prog 29 (.oslice 2 l17.length 9) (some (.i (w64 (a1_+1)))) none none)) (.wslice 2 (j21*9) (l17.length-j21) 9)) (qkm qcx (of_decide_eq_false c19) e_j21 (qmf e_u22))) (ac (hs (.done (.opt (qG Tryz.prog 29 (.slice 0 0 a0_.length a0_.length 9) (some (.i a1_)) none none)) (qgd 0 9 a0_.length j2)) (qhK qcx e_j2)) (ac (hs (.run [2,0] (qcU Tryz.prog [29,29] (.wslice 2 (j21*9) (l17.length-j21) 9) (qgd 0 9 a0_.length j2)) (kAt a0_ a2_ a3_ a4_ a5_ a6_ a7_ a8_ a9_ a10_ l17) (.i ((Nat.min (a0_.drop j2).length (l17.length-j21):Nat):Int)) (kAt a0_ a2_ a3_ a4_ a5_ a6_ a7_ a8_ a9_ a10_ l23) true) (qmg qcx (E:=qd) rfl (l:=l17) (qiZ (E:=qd) rfl rfl rfl (qiR e_j2)) (qiR e_j21) rfl rfl e_l23 rfl)) az)))) ((show Sub (ofG 95 (kAX l17),(kAt a0_ a2_ a3_ a4_ a5_ a6_ a7_ a8_ a9_ a10_ l23)) (ofG 95 (kAX l23),(kAt a0_ a2_ a3_ a4_ a5_ a6_ a7_ a8_ a9_ a10_ l23))from(Sub.norm [] [some 0,some 1,some 2] (by rw[hB];rfl) rfl (.keep (.osliceE rfl (qjd (qiR e_j21) e_l23)) .nil) (.ks (.kb rfl (.same sn) (.ks .nil))))).trans (Sub.refl _))
    intro _ hsub
    refine Goes.sub hsub ?_
    refine sh fol [(6,.oslice 2 l24.length 9)] ?_
    refine Goes.ret ?_
    obtain rfl:=si h
    exact(gh2 [.oslice 2 l24.length 9] (Sub.norm [2] [some 0,some 1] (by rw[hB];rfl) rfl (.keep (.frz (Fz.os (E:=qd) rfl rfl (nl rfl)) (qo qd _)) .nil) (.lost (.kb rfl (.same sn) .nil))))
   ·cases h
def qan (N:Nat) (a0_:Int) (a1_:List qc) (a2_:Int) (a3_:Str) (a4_:List Str) (a5_:List Int) (a6_:Str):Option ((List qc)×Int):=
 (idx a5_ 0).bind fun x3=>
 (idx a5_ 1).bind fun x4=>
 (idx a5_ 2).bind fun x5=>
 (idx a4_ 0).bind fun x6=>
 (zY N (⟨a0_,a1_⟩:yD) x6).bind fun r7=>
 (qN r7.2 9).bind fun r8=>
 (jM x4 1 9999).bind fun r9=>
 (jM x5 1 9999).bind fun r10=>
 (yl (w64 (x3+x4))).bind fun r11=>
 (qN (decide ((a1_.length:Int)≥256)) 5).bind fun r12=>
 (zA N ([r8,r9,r10,r11,r12]:List Int)).bind fun r13=>
 if(!decide (r13=0))=true then
 some (a1_,r13)
 else
 (idx a4_ 1).bind fun x15=>
 (jS a1_ r7.1 x6 x15 x3 (w64 (x3+x4)) x5 0 0 0 false).bind fun l17=>
 some (l17,0)
theorem qfY (N:Nat) (a0_:Int) (a1_:List qc) (a2_:Int) (a3_:Str) (a4_:List Str) (a5_:List Int) (a6_:Str) {l1:List qc} {n2:Int} (h:qan N a0_ a1_ a2_ a3_ a4_ a5_ a6_=some (l1,n2)):qg Tryz.prog (.fn 141) (kO a0_ a1_ [.agg (cF a2_ a3_ a4_ a5_ a6_)]) [bS a1_] (.tuple (kAe a0_ l1 [.i n2])) [.dead]:=by
 unfold qan at h
 refine Goes.fnH Tryz.func141 rfl rfl (m:=77) rfl (rs:=[.cell 4 31,.tmp 5]) rfl (l:=(kAz a0_ a1_ [(1,.agg (cF a2_ a3_ a4_ a5_ a6_))])) rfl ?_
 intro B hB
 refine sg fol (kD []) (bS a1_::(kC a0_ a1_ (kAQ a2_ a3_ a4_ a5_ a6_))) ?_
 obtain⟨x3,e_x3,h⟩:=bnd h
 obtain⟨x4,e_x4,h⟩:=bnd h
 obtain⟨x5,e_x5,h⟩:=bnd h
 refine sq (gr fol [2,3,6,7,10,11] (kD (kZ x3 x4 [(8,.i x5)])) (ac (iv xI encI e_x3) (ac (lv 0 ce3 encI e_x3 rfl) (ac (iv xI encI e_x4) (ac (lv 0 ce3 encI e_x4 rfl) (ac (iv xI encI e_x5) (ac (lv 0 ce3 encI e_x5 rfl) az)))))) ?_)
 obtain⟨x6,e_x6,h⟩:=bnd h
 obtain⟨r7,e_r7,h⟩:=bnd h
 refine sq (gr fol [3,4,5] (kD (kZ x3 x4 ((8,.i x5)::(9,.i r7.1)::(kBg r7.2)))) (ac (iv zi encS e_x6) (ac (lv 0 ce9 encS e_x6 rfl) (ac (hs (.call 93 (kO a0_ a1_ [.str x6]) (bS a1_::(kC a0_ a1_ (kAQ a2_ a3_ a4_ a5_ a6_))) [0] (kAe a0_ a1_ [.str x6]) (.tuple [.i r7.1,.bool r7.2])) (yQ (FzL.cons (Fz.agg (FzL.cons (Fz.still tI) (FzL.cons (Fz.sl (E:=qd) rfl rfl (nl rfl)) FzL.nil))) (FzL.cons (Fz.still tS) FzL.nil)) (xC N (⟨a0_,a1_⟩:yD) x6 e_r7) (Still.tuple (AllST.cons tI (AllST.cons tB AllST.nil))) rfl)) az))) ?_)
 refine sq ?_
 obtain⟨r8,e_r8,h⟩:=bnd h
 obtain⟨r9,e_r9,h⟩:=bnd h
 obtain⟨r10,e_r10,h⟩:=bnd h
 obtain⟨r11,e_r11,h⟩:=bnd h
 obtain⟨r12,e_r12,h⟩:=bnd h
 obtain⟨r13,e_r13,h⟩:=bnd h
 refine sq (gq fol [1,3,5,9,14,16] (kD (kZ x3 x4 [(8,.i x5),(9,.i r7.1),(11,.i r13)])) (bS a1_::(kC a0_ a1_ (kBX a2_ a3_ a4_ a5_ a6_ [bZ,.cells [.i r8,.i r9,.i r10,.i r11,.i r12]]))) (ac (cv (qD r7.2 9 e_r8)) (ac (cv (ve x4 1 9999 e_r9)) (ac (cv (ve x5 1 9999 e_r10)) (ac (cv (qa5 (w64 (x3+x4)) e_r11)) (ac (cv (qD (decide ((a1_.length:Int)≥256)) 5 e_r12)) (ac (hs (.call 86 [.slice 4 0 5 5 1] (bS a1_::(kC a0_ a1_ (kBX a2_ a3_ a4_ a5_ a6_ [bZ,.cells [.i r8,.i r9,.i r10,.i r11,.i r12]]))) [4] [vl encI ([r8,r9,r10,r11,r12]:List Int)] (.i r13)) (yQ (FzL.cons (Fz.lit rfl rfl (FzL.still (AllST.cons tI (AllST.cons tI (AllST.cons tI (AllST.cons tI (AllST.cons tI AllST.nil))))))) FzL.nil) (jd N ([r8,r9,r10,r11,r12]:List Int) e_r13) tI rfl)) az)))))) ?_)
 refine sh fol (kD (kZ x3 x4 [(8,.i x5),(9,.i r7.1),(11,.i r13),(52,.bool (!decide (r13=0)))])) ?_
 refine ihB h (fun c14 h=>?_) (fun c14 h=>?_)
 ·refine sg fol ((4,.ptr 3 0)::(kAb r13)) (bS a1_::(kC a0_ a1_ (kBX a2_ a3_ a4_ a5_ a6_ (kC a0_ a1_ [.cells [.i r8,.i r9,.i r10,.i r11,.i r12]])))) ?_
  refine Goes.ret ?_
  simp only[Option.some.injEq,Prod.mk.injEq]at h
  obtain⟨rfl,rfl⟩:=h
  exact(gh2 (kO a0_ a1_ [.i r13]) (Sub.norm [0] [some 0] (by rw[hB];rfl) rfl (.keep (.tupleL (rc (.aggL (rc (.same nI) (rc (.frz (Fz.sl (E:=qd) rfl rfl (nl rfl)) (qo qd _)) rn))) (rc (.same nI) rn))) .nil) (.lost .nil)))
 ·refine Goes.skip ?_
  obtain⟨x15,e_x15,h⟩:=bnd h
  refine sq (gq fol [2,3,6,7] (kAL [(9,.i r7.1),(12,.ptr 5 0)]) (bS a1_::(kC a0_ a1_ (kBX a2_ a3_ a4_ a5_ a6_ (bZ:: .cells [.i r8,.i r9,.i r10,.i r11,.i r12]::(kAB x6 x15 x3 (w64 (x3+x4)) x5 []))))) (ac (iv zi encS e_x6) (ac (lv 0 ce9 encS e_x6 rfl) (ac (iv zi encS e_x15) (ac (lv 0 ce9 encS e_x15 rfl) az)))) ?_)
  obtain⟨l17,e_r16,h⟩:=bnd h
  refine sq (gq fol [5] (kAL []) (.dead::(kE a0_ l17 (kBX a2_ a3_ a4_ a5_ a6_ (bZ:: .cells [.i r8,.i r9,.i r10,.i r11,.i r12]::(kAB x6 x15 x3 (w64 (x3+x4)) x5 (kAB x6 x15 x3 (w64 (x3+x4)) x5 [])))))) (ac (hs (.callH 181 [.slice 0 0 a1_.length a1_.length 9,.i r7.1,.slice 6 0 1 1 9] (bS a1_::(kC a0_ a1_ (kBX a2_ a3_ a4_ a5_ a6_ (bZ:: .cells [.i r8,.i r9,.i r10,.i r11,.i r12]::(kAB x6 x15 x3 (w64 (x3+x4)) x5 (kAB x6 x15 x3 (w64 (x3+x4)) x5 [])))))) [0,6] (vl qd l17) (.dead::(kC a0_ a1_ (kBX a2_ a3_ a4_ a5_ a6_ (bZ:: .cells [.i r8,.i r9,.i r10,.i r11,.i r12]::(kAB x6 x15 x3 (w64 (x3+x4)) x5 (kAB x6 x15 x3 (w64 (x3+x4)) x5 []))))))) (qZ [some 0,some 6] [none,none,none,none,none,none,some 1] (qcG a1_ r7.1 x6 x15 x3 (w64 (x3+x4)) x5 0 0 0 false e_r16) (.ks (.kb rfl (.cells (rc (.same nS) (rc (.same nS) (rc (.same nI) (rc (.same nI) (rc (.same nI) (rc (.same nI) (rc (.same nI) (rc (.same nI) (rc (.same nB) rn)))))))))) .nil)) rfl rfl (.dead (.old rfl rfl (.old rfl rfl (.old rfl rfl (.old rfl rfl (.old rfl rfl (.back rfl rfl (.cells (rc (.same nS) (rc (.same nS) (rc (.same nI) (rc (.same nI) (rc (.same nI) (rc (.same nI) (rc (.same nI) (rc (.same nI) (rc (.same nB) rn)))))))))) rfl .nil))))))) (rc (.slice rfl) (rc (.same nI) (rc (.slice rfl) rn))) (.same (qo qd _)) rfl)) az) ?_)
  refine sg fol ((4,.ptr 3 0)::kA4) (.dead::(kE a0_ l17 (kBX a2_ a3_ a4_ a5_ a6_ (kE a0_ l17 (.cells [.i r8,.i r9,.i r10,.i r11,.i r12]::(kAB x6 x15 x3 (w64 (x3+x4)) x5 (kAB x6 x15 x3 (w64 (x3+x4)) x5 []))))))) ?_
  refine Goes.ret ?_
  simp only[Option.some.injEq,Prod.mk.injEq]at h
  obtain⟨rfl,rfl⟩:=h
  exact(gh2 (kAe a0_ l17 [.i 0]) (Sub.norm [] [some 0] (by rw[hB];rfl) rfl (.keep (.tupleL (rc (.aggL (rc (.same nI) (rc (.same (qo qd _)) rn))) (rc (.same nI) rn))) .nil) (.lost .nil)))
def zq (N:Nat) (a0_:Int) (a1_:List qc) (a2_:Str) (a3_:Int):Option (Int×Bool×Int):=
 (zY N (⟨a0_,a1_⟩:yD) a2_).bind fun r4=>
 if(!r4.2)=true then
 some (0,false,10)
 else
 (idx a1_ r4.1).bind fun x6=>
 (jc x6 a3_).bind fun r7=>
 (qN r7 20).bind fun r8=>
 some (r4.1,true,r8)
theorem yE (N:Nat) (a0_:Int) (a1_:List qc) (a2_:Str) (a3_:Int) {i1:Int} {ok2:Bool} {n3:Int} (h:zq N a0_ a1_ a2_ a3_=some (i1,ok2,n3)):qg Tryz.prog (.fn 182) (kO a0_ a1_ [.str a2_,.i a3_]) [bS a1_] (.tuple [pz ok2 0 ((i1:Int).toNat*9+0),.i n3]) [bS a1_]:=by
 unfold zq at h
 refine Goes.fnH Tryz.func182 rfl rfl (m:=30) rfl (rs:=[.tmp 6,.tmp 7]) rfl (l:=(kAz a0_ a1_ [(1,.str a2_),(2,.i a3_)])) rfl ?_
 intro B hB
 refine sg fol ((1,.str a2_)::(2,.i a3_)::(kA7 [])) (bS a1_::(kC a0_ a1_ [])) ?_
 obtain⟨r4,e_r4,h⟩:=bnd h
 refine sq (gr fol [2] ((2,.i a3_)::(kA7 ((8,.i r4.1)::(kBt r4.2)))) (ac (hs (.call 93 (kO a0_ a1_ [.str a2_]) (bS a1_::(kC a0_ a1_ [])) [0] (kAe a0_ a1_ [.str a2_]) (.tuple [.i r4.1,.bool r4.2])) (yQ (FzL.cons (Fz.agg (FzL.cons (Fz.still tI) (FzL.cons (Fz.sl (E:=qd) rfl rfl (nl rfl)) FzL.nil))) (FzL.cons (Fz.still tS) FzL.nil)) (xC N (⟨a0_,a1_⟩:yD) a2_ e_r4) (Still.tuple (AllST.cons tI (AllST.cons tB AllST.nil))) rfl)) az) ?_)
 refine sq ?_
 refine sh fol ((2,.i a3_)::(kA7 [(8,.i r4.1),(18,.bool (!r4.2))])) ?_
 refine ihB h (fun c5 h=>?_) (fun c5 h=>?_)
 ·refine sh fol [(6,.nilptr),(7,.i 10)] ?_
  refine Goes.ret ?_
  simp only[Option.some.injEq,Prod.mk.injEq]at h
  obtain⟨rfl,rfl,rfl⟩:=h
  exact(gh2 [.nilptr,.i 10] (Sub.norm [] [some 0] (by rw[hB];rfl) rfl (.keep (.tupleL (rc (kg.pz0) (rc (.same nI) rn))) .nil) (.ks .nil)))
 ·refine Goes.skip ?_
  obtain⟨x6,e_x6,h⟩:=bnd h
  refine sq (gr fol [3] [(2,.i a3_),(10,.ptr 0 ((r4.1:Int).toNat*9+0))] (ac (hs (.done (.opt (qE Tryz.prog 29 (.slice 0 0 a1_.length a1_.length 9) (.i r4.1))) (.ptr 0 ((r4.1:Int).toNat*9+0))) (qiW qcx e_x6)) az) ?_)
  obtain⟨r7,e_r7,h⟩:=bnd h
  obtain⟨r8,e_r8,h⟩:=bnd h
  refine sq (gr fol [3,5,6] [(6,.ptr 0 ((r4.1:Int).toNat*9+0)),(7,.i r8)] (ac (hs (.run [0] (jP Tryz.prog 68 (.ptr 0 ((r4.1:Int).toNat*9+0))) (bS a1_::(kC a0_ a1_ [])) (.agg (cS x6)) (bS a1_::(kC a0_ a1_ [])) false) (qkH qlk (E:=qd) (l:=a1_) rfl rfl e_x6)) (ac (cv (vU x6 a3_ e_r7)) (ac (cv (qD r7 20 e_r8)) az))) ?_)
  refine Goes.ret ?_
  simp only[Option.some.injEq,Prod.mk.injEq]at h
  obtain⟨rfl,rfl,rfl⟩:=h
  exact(gh2 [.ptr 0 ((r4.1:Int).toNat*9+0),.i r8] (Sub.norm [] [some 0] (by rw[hB];rfl) rfl (.keep (.tupleL (rc ((kg.pz1 rfl)) (rc (.same nI) rn))) .nil) (.ks .nil)))
def xy (N:Nat) (a0_:Int) (a1_:List qc) (a2_:Int) (a3_:Str) (a4_:List Str) (a5_:List Int) (a6_:Str):Option ((List qc)×Int):=
 (idx a5_ 0).bind fun x3=>
 (idx a5_ 1).bind fun x4=>
 (idx a4_ 0).bind fun x5=>
 (zq N a0_ a1_ x5 x3).bind fun(i7,ok8,n9)=>
 (jM x4 2 999999999).bind fun r10=>
 (zA N ([n9,r10]:List Int)).bind fun r11=>
 if(!decide (r11=0))=true then
 some (a1_,r11)
 else
 ((match ok8 with
 |false=>
 none
 |true=>
 (idx a1_ i7).bind fun x13=>
 (put a1_ i7 (⟨x13.Name,x13.Batch,x13.Born,x13.Last,x13.Uses,x13.Used,w64 (x4.tdiv 2),x13.Until,x13.Gone⟩:qc)).bind fun l14=>
 (idx l14 i7).bind fun x15=>
 (put l14 i7 (⟨x15.Name,x15.Batch,x15.Born,x15.Last,x15.Uses,x15.Used,x15.Limit,(if x13.Last<(w64 (x3+365))then x13.Last else(w64 (x3+365))),x15.Gone⟩:qc)).bind fun l16=>
 some l16):Option (List qc)).bind fun l17=>
 some (l17,0)
theorem qe3 (N:Nat) (a0_:Int) (a1_:List qc) (a2_:Int) (a3_:Str) (a4_:List Str) (a5_:List Int) (a6_:Str) {l1:List qc} {n2:Int} (h:xy N a0_ a1_ a2_ a3_ a4_ a5_ a6_=some (l1,n2)):qg Tryz.prog (.fn 142) (kO a0_ a1_ [.agg (cF a2_ a3_ a4_ a5_ a6_)]) [bS a1_] (.tuple (kO a0_ l1 [.i n2])) [bS l1]:=by
 unfold xy at h
 refine Goes.fnH Tryz.func142 rfl rfl (m:=53) rfl (rs:=[.cell 4 31,.tmp 5]) rfl (l:=(kAz a0_ a1_ [(1,.agg (cF a2_ a3_ a4_ a5_ a6_))])) rfl ?_
 intro B hB
 refine sg fol (kD []) (bS a1_::(kC a0_ a1_ (kAQ a2_ a3_ a4_ a5_ a6_))) ?_
 obtain⟨x3,e_x3,h⟩:=bnd h
 obtain⟨x4,e_x4,h⟩:=bnd h
 refine sq (gr fol [2,3,6,7] (kD (kZ x3 x4 [])) (ac (iv xI encI e_x3) (ac (lv 0 ce3 encI e_x3 rfl) (ac (iv xI encI e_x4) (ac (lv 0 ce3 encI e_x4 rfl) az)))) ?_)
 obtain⟨x5,e_x5,h⟩:=bnd h
 obtain⟨⟨i7,ok8,n9⟩,e_r6,h⟩:=bnd h
 try dsimp only at h
 refine sq (gr fol [3,4,6] (kAL (kZ x3 x4 ((8,pz ok8 0 ((i7:Int).toNat*9+0))::(kBi n9)))) (ac (iv zi encS e_x5) (ac (lv 0 ce9 encS e_x5 rfl) (ac (hs (.callH 182 (kO a0_ a1_ [.str x5,.i x3]) (bS a1_::(kC a0_ a1_ (kAQ a2_ a3_ a4_ a5_ a6_))) [0] (.tuple [pz ok8 0 ((i7:Int).toNat*9+0),.i n9]) (bS a1_::(kC a0_ a1_ (kAQ a2_ a3_ a4_ a5_ a6_)))) (qZ [some 0] [some 0,none,none,none] (yE N a0_ a1_ x5 x3 e_r6) (.ks .nil) rfl rfl (.back rfl rfl (.same fa) rfl (.old rfl rfl (.old rfl rfl (.old rfl rfl .nil)))) (rc (.aggL (rc (.same nI) (rc (.slice rfl) rn))) (rc (.same nS) (rc (.same nI) rn))) (.tupleL (rc ((kg.pz rfl)) (rc (.same nI) rn))) rfl)) az))) ?_)
 refine sq ?_
 obtain⟨r10,e_r10,h⟩:=bnd h
 obtain⟨r11,e_r11,h⟩:=bnd h
 refine sq (gq fol [2,4] (kAL (kZ x3 x4 ((8,pz ok8 0 ((i7:Int).toNat*9+0))::(kBi r11)))) (bS a1_::(kC a0_ a1_ (kM a2_ a3_ a4_ a5_ a6_ n9 r10 []))) (ac (cv (ve x4 2 999999999 e_r10)) (ac (hs (.call 86 [.slice 4 0 2 2 1] (bS a1_::(kC a0_ a1_ (kM a2_ a3_ a4_ a5_ a6_ n9 r10 []))) [4] [vl encI ([n9,r10]:List Int)] (.i r11)) (yQ (FzL.cons (Fz.lit rfl rfl (FzL.still (AllST.cons tI (AllST.cons tI AllST.nil)))) FzL.nil) (jd N ([n9,r10]:List Int) e_r11) tI rfl)) az)) ?_)
 refine sh fol (kAL (kZ x3 x4 [(8,pz ok8 0 ((i7:Int).toNat*9+0)),(9,.i r11),(34,.bool (!decide (r11=0)))])) ?_
 refine ihB h (fun c12 h=>?_) (fun c12 h=>?_)
 ·refine sg fol ((4,.ptr 3 0)::(kAb r11)) (bS a1_::(kC a0_ a1_ (kBX a2_ a3_ a4_ a5_ a6_ (kC a0_ a1_ (kAr n9 r10 []))))) ?_
  refine Goes.ret ?_
  simp only[Option.some.injEq,Prod.mk.injEq]at h
  obtain⟨rfl,rfl⟩:=h
  exact(gh2 (kO a0_ a1_ [.i r11]) (Sub.norm [] [some 0] (by rw[hB];rfl) rfl (.keep (.tupleL (rc (.aggL (rc (.same nI) (rc (.slice rfl) rn))) (rc (.same nI) rn))) .nil) (.ks .nil)))
 ·refine Goes.skip ?_
  refine sq ?_
  obtain⟨l17,g_v18,h⟩:=bnd h
  refine Goes.cutS (s':=(ofG 53 (kBd []),(bS l17::(kC a0_ l17 [bZ])))) ?_ ?_
  ·rcases ok8 with _|_
   ·try dsimp only at g_v18
    cases g_v18
   ·try dsimp only at g_v18
    obtain⟨x13,e_x13,g_v18⟩:=bnd g_v18
    obtain⟨l14,e_l14,g_v18⟩:=bnd g_v18
    obtain⟨x15,e_x15,g_v18⟩:=bnd g_v18
    obtain⟨l16,e_l16,g_v18⟩:=bnd g_v18
    obtain rfl:=si g_v18
    exact ql.sub (ql.rq fol [9,13,16] (kAL []) (bS l16::(kC a0_ a1_ (kM a2_ a3_ a4_ a5_ a6_ n9 r10 []))) (ac (hs (.run [0] (jP Tryz.prog 3 (.ptr 0 ((i7:Int).toNat*9+3))) (bS a1_::(kC a0_ a1_ (kM a2_ a3_ a4_ a5_ a6_ n9 r10 []))) (.i x13.Last) (bS a1_::(kC a0_ a1_ (kM a2_ a3_ a4_ a5_ a6_ n9 r10 []))) false) (qiw ce3 (E:=qd) (l:=a1_) rfl rfl e_x13 (nl rfl) rfl)) (ac (hs (.run [0] (qau Tryz.prog 3 (.ptr 0 ((i7:Int).toNat*9+6)) (.i (w64 (x4.tdiv 2)))) (bS a1_::(kC a0_ a1_ (kM a2_ a3_ a4_ a5_ a6_ n9 r10 []))) .undef (bS l14::(kC a0_ a1_ (kM a2_ a3_ a4_ a5_ a6_ n9 r10 []))) true) (qd3 (E:=qd) (l:=a1_) (y:=(⟨x13.Name,x13.Batch,x13.Born,x13.Last,x13.Uses,x13.Used,w64 (x4.tdiv 2),x13.Until,x13.Gone⟩:qc)) rfl (show _=some 1 by kernel_rfl) rfl e_x13 rfl rfl rfl rfl rfl e_l14 rfl)) (ac (hs (.run [0] (qau Tryz.prog 3 (.ptr 0 ((i7:Int).toNat*9+7)) (.i (if x13.Last<(w64 (x3+365))then x13.Last else(w64 (x3+365))))) (bS l14::(kC a0_ a1_ (kM a2_ a3_ a4_ a5_ a6_ n9 r10 []))) .undef (bS l16::(kC a0_ a1_ (kM a2_ a3_ a4_ a5_ a6_ n9 r10 []))) true) (qd3 (E:=qd) (l:=l14) (y:=(⟨x15.Name,x15.Batch,x15.Born,x15.Last,x15.Uses,x15.Used,x15.Limit,(if x13.Last<(w64 (x3+365))then x13.Last else(w64 (x3+365))),x15.Gone⟩:qc)) rfl (show _=some 1 by kernel_rfl) rfl e_x15 rfl rfl rfl rfl rfl e_l16 rfl)) az)))) ((show Sub (ofG 53 (kAL []),(bS l16::(kC a0_ a1_ (kM a2_ a3_ a4_ a5_ a6_ n9 r10 [])))) (ofG 53 (kBd []),(bS l16::(kC a0_ l16 [bZ])))from(Sub.norm [] [some 0,some 1,some 3] (by rw[hB];rfl) rfl (.kp (.kp .nil)) (.ks (.kb rfl (.cells (rc (.same nI) (rc (.sliceE rfl ((qaY e_l14).trans (qaY e_l16))) rn))) (.kb rfl (.same sn) .nil))))).trans (Sub.refl _))
  intro _ hsub
  refine Goes.sub hsub ?_
  refine sg fol ((4,.ptr 2 0)::kA4) (bS l17::(kC a0_ l17 (kC a0_ l17 []))) ?_
  refine Goes.ret ?_
  simp only[Option.some.injEq,Prod.mk.injEq]at h
  obtain⟨rfl,rfl⟩:=h
  exact(gh2 (kO a0_ l17 [.i 0]) (Sub.norm [] [some 0] (by rw[hB];rfl) rfl (.keep (.tupleL (rc (.aggL (rc (.same nI) (rc (.slice rfl) rn))) (rc (.same nI) rn))) .nil) (.ks .nil)))
def qav (N:Nat) (a0_:Int) (a1_:List qc) (a2_:Int) (a3_:Str) (a4_:List Str) (a5_:List Int) (a6_:Str):Option ((List qc)×Int):=
 (idx a5_ 0).bind fun x3=>
 (idx a5_ 1).bind fun x4=>
 (idx a4_ 0).bind fun x5=>
 (zq N a0_ a1_ x5 x3).bind fun(i7,ok8,n9)=>
 if(!decide (n9=0))=true then
 some (a1_,n9)
 else
 ((match ok8 with
 |false=>
 none
 |true=>
 (idx a1_ i7).bind fun x11=>
 (j6 x11 x3).bind fun r12=>
 (qN (!r12) 24).bind fun r13=>
 (qN (decide (x4>x11.Limit)) 31).bind fun r14=>
 (zA N ([r13,r14]:List Int)).bind fun r15=>
 some (r13,r14,r15)):Option (Int×Int×Int)).bind fun(n16,n17,n18)=>
 if(!decide (n18=0))=true then
 some (a1_,n18)
 else
 (idx a1_ i7).bind fun x21=>
 (put a1_ i7 (⟨x21.Name,x21.Batch,x21.Born,x21.Last,x21.Uses,w64 (x21.Used+1),x21.Limit,x21.Until,x21.Gone⟩:qc)).bind fun l22=>
 some (l22,0)
theorem qfV (N:Nat) (a0_:Int) (a1_:List qc) (a2_:Int) (a3_:Str) (a4_:List Str) (a5_:List Int) (a6_:Str) {l1:List qc} {n2:Int} (h:qav N a0_ a1_ a2_ a3_ a4_ a5_ a6_=some (l1,n2)):qg Tryz.prog (.fn 143) (kO a0_ a1_ [.agg (cF a2_ a3_ a4_ a5_ a6_)]) [bS a1_] (.tuple (kO a0_ l1 [.i n2])) [bS l1]:=by
 unfold qav at h
 refine Goes.fnH Tryz.func143 rfl rfl (m:=60) rfl (rs:=[.cell 4 31,.tmp 5]) rfl (l:=(kAz a0_ a1_ [(1,.agg (cF a2_ a3_ a4_ a5_ a6_))])) rfl ?_
 intro B hB
 refine sg fol (kD []) (bS a1_::(kC a0_ a1_ (kAQ a2_ a3_ a4_ a5_ a6_))) ?_
 obtain⟨x3,e_x3,h⟩:=bnd h
 obtain⟨x4,e_x4,h⟩:=bnd h
 refine sq (gr fol [2,3,6,7] (kD (kZ x3 x4 [])) (ac (iv xI encI e_x3) (ac (lv 0 ce3 encI e_x3 rfl) (ac (iv xI encI e_x4) (ac (lv 0 ce3 encI e_x4 rfl) az)))) ?_)
 obtain⟨x5,e_x5,h⟩:=bnd h
 obtain⟨⟨i7,ok8,n9⟩,e_r6,h⟩:=bnd h
 try dsimp only at h
 refine sq (gr fol [3,4,6] (kAL (kZ x3 x4 ((8,pz ok8 0 ((i7:Int).toNat*9+0))::(kBi n9)))) (ac (iv zi encS e_x5) (ac (lv 0 ce9 encS e_x5 rfl) (ac (hs (.callH 182 (kO a0_ a1_ [.str x5,.i x3]) (bS a1_::(kC a0_ a1_ (kAQ a2_ a3_ a4_ a5_ a6_))) [0] (.tuple [pz ok8 0 ((i7:Int).toNat*9+0),.i n9]) (bS a1_::(kC a0_ a1_ (kAQ a2_ a3_ a4_ a5_ a6_)))) (qZ [some 0] [some 0,none,none,none] (yE N a0_ a1_ x5 x3 e_r6) (.ks .nil) rfl rfl (.back rfl rfl (.same fa) rfl (.old rfl rfl (.old rfl rfl (.old rfl rfl .nil)))) (rc (.aggL (rc (.same nI) (rc (.slice rfl) rn))) (rc (.same nS) (rc (.same nI) rn))) (.tupleL (rc ((kg.pz rfl)) (rc (.same nI) rn))) rfl)) az))) ?_)
 refine sq ?_
 refine sh fol (kAL (kZ x3 x4 [(8,pz ok8 0 ((i7:Int).toNat*9+0)),(9,.i n9),(29,.bool (!decide (n9=0)))])) ?_
 refine ihB h (fun c10 h=>?_) (fun c10 h=>?_)
 ·refine sg fol ((4,.ptr 3 0)::(kAb n9)) (bS a1_::(kC a0_ a1_ (kBX a2_ a3_ a4_ a5_ a6_ (kC a0_ a1_ [])))) ?_
  refine Goes.ret ?_
  simp only[Option.some.injEq,Prod.mk.injEq]at h
  obtain⟨rfl,rfl⟩:=h
  exact(gh2 (kO a0_ a1_ [.i n9]) (Sub.norm [] [some 0] (by rw[hB];rfl) rfl (.keep (.tupleL (rc (.aggL (rc (.same nI) (rc (.slice rfl) rn))) (rc (.same nI) rn))) .nil) (.ks .nil)))
 ·refine Goes.skip ?_
  refine sq ?_
  refine sq ?_
  obtain⟨⟨n16,n17,n18⟩,g_v19,h⟩:=bnd h
  refine Goes.cut (s':=(ofG 60 (kAL (kAY i7 (kBi n18))),(bS a1_::(kC a0_ a1_ (kM a2_ a3_ a4_ a5_ a6_ n16 n17 []))))) ?_ ?_
  ·rcases ok8 with _|_
   ·try dsimp only at g_v19
    cases g_v19
   ·try dsimp only at g_v19
    obtain⟨x11,e_x11,g_v19⟩:=bnd g_v19
    obtain⟨r12,e_r12,g_v19⟩:=bnd g_v19
    obtain⟨r13,e_r13,g_v19⟩:=bnd g_v19
    obtain⟨r14,e_r14,g_v19⟩:=bnd g_v19
    obtain⟨r15,e_r15,g_v19⟩:=bnd g_v19
    simp only[Option.some.injEq,Prod.mk.injEq]at g_v19
    obtain⟨rfl,rfl,rfl⟩:=g_v19
    exact ql.rq fol [2,4,6,11,13,15] (kAL (kAY i7 (kBi r15))) (bS a1_::(kC a0_ a1_ (kM a2_ a3_ a4_ a5_ a6_ r13 r14 []))) (ac (hs (.run [0] (jP Tryz.prog 68 (.ptr 0 ((i7:Int).toNat*9+0))) (bS a1_::(kC a0_ a1_ (kAQ a2_ a3_ a4_ a5_ a6_))) (.agg (cS x11)) (bS a1_::(kC a0_ a1_ (kAQ a2_ a3_ a4_ a5_ a6_))) false) (qkH qlk (E:=qd) (l:=a1_) rfl rfl e_x11)) (ac (cv (qbv x11 x3 e_r12)) (ac (cv (qD (!r12) 24 e_r13)) (ac (hs (.run [0] (jP Tryz.prog 3 (.ptr 0 ((i7:Int).toNat*9+6))) (bS a1_::(kC a0_ a1_ (kAQ a2_ a3_ a4_ a5_ a6_))) (.i x11.Limit) (bS a1_::(kC a0_ a1_ (kAQ a2_ a3_ a4_ a5_ a6_))) false) (qiw ce3 (E:=qd) (l:=a1_) rfl rfl e_x11 (nl rfl) rfl)) (ac (cv (qD (decide (x4>x11.Limit)) 31 e_r14)) (ac (hs (.call 86 [.slice 4 0 2 2 1] (bS a1_::(kC a0_ a1_ (kM a2_ a3_ a4_ a5_ a6_ r13 r14 []))) [4] [vl encI ([r13,r14]:List Int)] (.i r15)) (yQ (FzL.cons (Fz.lit rfl rfl (FzL.still (AllST.cons tI (AllST.cons tI AllST.nil)))) FzL.nil) (jd N ([r13,r14]:List Int) e_r15) tI rfl)) az))))))
  try dsimp only at h
  refine sh fol (kAL (kAY i7 [(9,.i n18),(49,.bool (!decide (n18=0)))])) ?_
  refine ihB h (fun c20 h=>?_) (fun c20 h=>?_)
  ·refine sg fol ((4,.ptr 3 0)::(kAb n18)) (bS a1_::(kC a0_ a1_ (kBX a2_ a3_ a4_ a5_ a6_ (kC a0_ a1_ (kAr n16 n17 []))))) ?_
   refine Goes.ret ?_
   simp only[Option.some.injEq,Prod.mk.injEq]at h
   obtain⟨rfl,rfl⟩:=h
   exact(gh2 (kO a0_ a1_ [.i n18]) (Sub.norm [] [some 0] (by rw[hB];rfl) rfl (.keep (.tupleL (rc (.aggL (rc (.same nI) (rc (.slice rfl) rn))) (rc (.same nI) rn))) .nil) (.ks .nil)))
  ·refine Goes.skip ?_
   obtain⟨x21,e_x21,h⟩:=bnd h
   obtain⟨l22,e_l22,h⟩:=bnd h
   refine sq (gq fol [3,7] (kAL []) (bS l22::(kC a0_ a1_ (kM a2_ a3_ a4_ a5_ a6_ n16 n17 []))) (ac (hs (.run [0] (jP Tryz.prog 3 (.ptr 0 ((i7:Int).toNat*9+5))) (bS a1_::(kC a0_ a1_ (kM a2_ a3_ a4_ a5_ a6_ n16 n17 []))) (.i x21.Used) (bS a1_::(kC a0_ a1_ (kM a2_ a3_ a4_ a5_ a6_ n16 n17 []))) false) (qiw ce3 (E:=qd) (l:=a1_) rfl rfl e_x21 (nl rfl) rfl)) (ac (hs (.run [0] (qau Tryz.prog 3 (.ptr 0 ((i7:Int).toNat*9+5)) (.i (w64 (x21.Used+1)))) (bS a1_::(kC a0_ a1_ (kM a2_ a3_ a4_ a5_ a6_ n16 n17 []))) .undef (bS l22::(kC a0_ a1_ (kM a2_ a3_ a4_ a5_ a6_ n16 n17 []))) true) (qd3 (E:=qd) (l:=a1_) (y:=(⟨x21.Name,x21.Batch,x21.Born,x21.Last,x21.Uses,w64 (x21.Used+1),x21.Limit,x21.Until,x21.Gone⟩:qc)) rfl (show _=some 1 by kernel_rfl) rfl e_x21 rfl rfl rfl rfl rfl e_l22 rfl)) az)) ?_)
   refine Goes.sub (show Sub (ofG 60 (kAL []),(bS l22::(kC a0_ a1_ (kM a2_ a3_ a4_ a5_ a6_ n16 n17 [])))) (ofG 60 (kBd []),(bS l22::(kC a0_ l22 [bZ])))from(Sub.norm [] [some 0,some 1,some 3] (by rw[hB];rfl) rfl (.kp (.kp .nil)) (.ks (.kb rfl (.cells (rc (.same nI) (rc (.sliceE rfl (qaY e_l22)) rn))) (.kb rfl (.same sn) .nil))))) ?_
   refine sg fol ((4,.ptr 2 0)::kA4) (bS l22::(kC a0_ l22 (kC a0_ l22 []))) ?_
   refine Goes.ret ?_
   simp only[Option.some.injEq,Prod.mk.injEq]at h
   obtain⟨rfl,rfl⟩:=h
   exact(gh2 (kO a0_ l22 [.i 0]) (Sub.norm [] [some 0] (by rw[hB];rfl) rfl (.keep (.tupleL (rc (.aggL (rc (.same nI) (rc (.slice rfl) rn))) (rc (.same nI) rn))) .nil) (.ks .nil)))
def xD (N:Nat) (a0_:Int) (a1_:List qc) (a2_:Int) (a3_:Str) (a4_:List Str) (a5_:List Int) (a6_:Str):Option ((List qc)×Int):=
 (idx a4_ 0).bind fun x3=>
 (idx a5_ 0).bind fun x4=>
 (zq N a0_ a1_ x3 x4).bind fun(i6,ok7,n8)=>
 if(!decide (n8=0))=true then
 some (a1_,n8)
 else
 ((match ok7 with
 |false=>
 none
 |true=>
 (idx a1_ i6).bind fun x10=>
 (put a1_ i6 (⟨x10.Name,x10.Batch,x10.Born,x10.Last,x10.Uses,x10.Used,x10.Limit,x10.Until,true⟩:qc)).bind fun l11=>
 some l11):Option (List qc)).bind fun l12=>
 some (l12,0)
theorem qe5 (N:Nat) (a0_:Int) (a1_:List qc) (a2_:Int) (a3_:Str) (a4_:List Str) (a5_:List Int) (a6_:Str) {l1:List qc} {n2:Int} (h:xD N a0_ a1_ a2_ a3_ a4_ a5_ a6_=some (l1,n2)):qg Tryz.prog (.fn 144) (kO a0_ a1_ [.agg (cF a2_ a3_ a4_ a5_ a6_)]) [bS a1_] (.tuple (kO a0_ l1 [.i n2])) [bS l1]:=by
 unfold xD at h
 refine Goes.fnH Tryz.func144 rfl rfl (m:=29) rfl (rs:=[.cell 4 31,.tmp 5]) rfl (l:=(kAz a0_ a1_ [(1,.agg (cF a2_ a3_ a4_ a5_ a6_))])) rfl ?_
 intro B hB
 refine sg fol (kD []) (bS a1_::(kC a0_ a1_ (kAQ a2_ a3_ a4_ a5_ a6_))) ?_
 obtain⟨x3,e_x3,h⟩:=bnd h
 obtain⟨x4,e_x4,h⟩:=bnd h
 obtain⟨⟨i6,ok7,n8⟩,e_r5,h⟩:=bnd h
 try dsimp only at h
 refine sq (gr fol [3,4,7,8,9] (kAL [(6,pz ok7 0 ((i6:Int).toNat*9+0)),(7,.i n8)]) (ac (iv zi encS e_x3) (ac (lv 0 ce9 encS e_x3 rfl) (ac (iv xI encI e_x4) (ac (lv 0 ce3 encI e_x4 rfl) (ac (hs (.callH 182 (kO a0_ a1_ [.str x3,.i x4]) (bS a1_::(kC a0_ a1_ (kAQ a2_ a3_ a4_ a5_ a6_))) [0] (.tuple [pz ok7 0 ((i6:Int).toNat*9+0),.i n8]) (bS a1_::(kC a0_ a1_ (kAQ a2_ a3_ a4_ a5_ a6_)))) (qZ [some 0] [some 0,none,none,none] (yE N a0_ a1_ x3 x4 e_r5) (.ks .nil) rfl rfl (.back rfl rfl (.same fa) rfl (.old rfl rfl (.old rfl rfl (.old rfl rfl .nil)))) (rc (.aggL (rc (.same nI) (rc (.slice rfl) rn))) (rc (.same nS) (rc (.same nI) rn))) (.tupleL (rc ((kg.pz rfl)) (rc (.same nI) rn))) rfl)) az))))) ?_)
 refine sq ?_
 refine sh fol (kAL [(6,pz ok7 0 ((i6:Int).toNat*9+0)),(7,.i n8),(22,.bool (!decide (n8=0)))]) ?_
 refine ihB h (fun c9 h=>?_) (fun c9 h=>?_)
 ·refine sg fol ((4,.ptr 3 0)::(kAb n8)) (bS a1_::(kC a0_ a1_ (kBX a2_ a3_ a4_ a5_ a6_ (kC a0_ a1_ [])))) ?_
  refine Goes.ret ?_
  simp only[Option.some.injEq,Prod.mk.injEq]at h
  obtain⟨rfl,rfl⟩:=h
  exact(gh2 (kO a0_ a1_ [.i n8]) (Sub.norm [] [some 0] (by rw[hB];rfl) rfl (.keep (.tupleL (rc (.aggL (rc (.same nI) (rc (.slice rfl) rn))) (rc (.same nI) rn))) .nil) (.ks .nil)))
 ·refine Goes.skip ?_
  refine sq ?_
  obtain⟨l12,g_v13,h⟩:=bnd h
  refine Goes.cutS (s':=(ofG 29 (kBd []),(bS l12::(kC a0_ l12 [bZ])))) ?_ ?_
  ·rcases ok7 with _|_
   ·try dsimp only at g_v13
    cases g_v13
   ·try dsimp only at g_v13
    obtain⟨x10,e_x10,g_v13⟩:=bnd g_v13
    obtain⟨l11,e_l11,g_v13⟩:=bnd g_v13
    obtain rfl:=si g_v13
    exact ql.sub (ql.rq fol [3] (kAL []) (bS l11::(kC a0_ a1_ (kAQ a2_ a3_ a4_ a5_ a6_))) (ac (hs (.run [0] (qau Tryz.prog 4 (.ptr 0 ((i6:Int).toNat*9+8)) (.bool true)) (bS a1_::(kC a0_ a1_ (kAQ a2_ a3_ a4_ a5_ a6_))) .undef (bS l11::(kC a0_ a1_ (kAQ a2_ a3_ a4_ a5_ a6_))) true) (qd3 (E:=qd) (l:=a1_) (y:=(⟨x10.Name,x10.Batch,x10.Born,x10.Last,x10.Uses,x10.Used,x10.Limit,x10.Until,true⟩:qc)) rfl (show _=some 1 by kernel_rfl) rfl e_x10 rfl rfl rfl rfl rfl e_l11 rfl)) az)) ((show Sub (ofG 29 (kAL []),(bS l11::(kC a0_ a1_ (kAQ a2_ a3_ a4_ a5_ a6_)))) (ofG 29 (kBd []),(bS l11::(kC a0_ l11 [bZ])))from(Sub.norm [] [some 0,some 1,some 3] (by rw[hB];rfl) rfl (.kp (.kp .nil)) (.ks (.kb rfl (.cells (rc (.same nI) (rc (.sliceE rfl (qaY e_l11)) rn))) (.kb rfl (.same sn) .nil))))).trans (Sub.refl _))
  intro _ hsub
  refine Goes.sub hsub ?_
  refine sg fol ((4,.ptr 2 0)::kA4) (bS l12::(kC a0_ l12 (kC a0_ l12 []))) ?_
  refine Goes.ret ?_
  simp only[Option.some.injEq,Prod.mk.injEq]at h
  obtain⟨rfl,rfl⟩:=h
  exact(gh2 (kO a0_ l12 [.i 0]) (Sub.norm [] [some 0] (by rw[hB];rfl) rfl (.keep (.tupleL (rc (.aggL (rc (.same nI) (rc (.slice rfl) rn))) (rc (.same nI) rn))) .nil) (.ks .nil)))
def kr (a1_:List qc) (a4_:List Str) (a5_:List Int):Nat→(List qc)→Int→Int→Option ((List qc)×Int)
 |0,_,_,_=>none
 |K+1,l3,n4,n5=>
  if n4<(a1_.length:Int)then
  (((idx l3 n4).bind fun x13=>
  (idx a4_ 0).bind fun x14=>
  if(!(x13.Batch==x14))=true then
  some (l3,n5)
  else
  ((if n5=10 then
  some 20
  else
  some n5:Option Int)).bind fun n16=>
  (idx a5_ 0).bind fun x19=>
  (jc x13 x19).bind fun r20=>
  ((if(!r20)=true then
  some 0
  else
  some n16:Option Int)).bind fun n21=>
  (put l3 n4 (⟨x13.Name,x13.Batch,x13.Born,x13.Last,x13.Uses,x13.Used,x13.Limit,x13.Until,true⟩:qc)).bind fun l24=>
  some (l24,n21):Option ((List qc)×Int))).bind fun(l10,n11)=>
  kr a1_ a4_ a5_ K l10 (w64 (n4+1)) n11
  else
  some (l3,n5)
def yF (N:Nat) (a0_:Int) (a1_:List qc) (a2_:Int) (a3_:Str) (a4_:List Str) (a5_:List Int) (a6_:Str):Option ((List qc)×Int):=
 (kr a1_ a4_ a5_ N a1_ 0 10).bind fun(l6,n7)=>
 some (l6,n7)
theorem qd9 (N:Nat) (a0_:Int) (a1_:List qc) (a2_:Int) (a3_:Str) (a4_:List Str) (a5_:List Int) (a6_:Str) {l1:List qc} {n2:Int} (h:yF N a0_ a1_ a2_ a3_ a4_ a5_ a6_=some (l1,n2)):qg Tryz.prog (.fn 145) (kO a0_ a1_ [.agg (cF a2_ a3_ a4_ a5_ a6_)]) [bS a1_] (.tuple (kO a0_ l1 [.i n2])) [bS l1]:=by
 unfold yF at h
 refine Goes.fnH Tryz.func145 rfl rfl (m:=45) rfl (rs:=[.cell 4 31,.tmp 5]) rfl (l:=(kAz a0_ a1_ [(1,.agg (cF a2_ a3_ a4_ a5_ a6_))])) rfl ?_
 intro B hB
 refine sg fol (kD []) (bS a1_::(kC a0_ a1_ (kAQ a2_ a3_ a4_ a5_ a6_))) ?_
 refine sh fol (kD [(6,.i 10)]) ?_
 refine sq ?_
 refine sh fol (kD ((6,.i 10)::(kA1 (a1_.length:Int)))) ?_
 refine Goes.block ?_
 obtain⟨r8,g8,h⟩:=bnd h
 refine Goes.imp (Q:=fun x s'=>(x= .exit 0∧ ∃l6 n7,(l6,n7)=r8∧Sub s' (ofG 45 (kBd (kBu n7)),(bS l6::(kC a0_ l6 [bZ]))))) ?_ ?_
 ·refine Goes.loopS (fun M s=> ∃(l3:List qc) (n4:Int) (n5:Int),s=(ofG 45 (kD ((6,.i n5)::(kR (a1_.length:Int) n4))),(bS l3::(kC a0_ l3 (kAQ a2_ a3_ a4_ a5_ a6_))))∧kr a1_ a4_ a5_ M l3 n4 n5=some r8) ?_ (m:=N) ⟨_,_,_,rfl,g8⟩
  rintro M s ⟨l3,n4,n5,rfl,g8⟩
  cases M with
  |zero=>simp only[kr]at g8;cases g8
  |succ M=>
   rw[kr]at g8
   refine sh fol (kD ((6,.i n5)::(kBY (a1_.length:Int) n4 (kB0 (decide (n4<(a1_.length:Int))))))) ?_
   refine sq ?_
   refine ihD g8 (fun c9 g8=>?_) (fun c9 g8=>?_)
   ·refine Goes.skip ?_
    refine sq ?_
    obtain⟨r12,g12,g8⟩:=bnd g8
    refine Goes.imp (Q:=fun x s'=>(x= .normal∧ ∃l10 n11,(l10,n11)=r12∧Sub s' (ofG 45 (kD ((6,.i n11)::(kR (a1_.length:Int) n4))),(bS l10::(kC a0_ l10 (kAQ a2_ a3_ a4_ a5_ a6_)))))) ?_ ?_
    ·refine Goes.block ?_
     refine sh fol (kD (kZ n5 n4 (kR (a1_.length:Int) n4))) ?_
     obtain⟨x13,e_x13,g12⟩:=bnd g12
     refine sq (gr fol [3] (kD ((6,.i n5)::(kAY n4 (kR (a1_.length:Int) n4)))) (ac (hs (.done (.opt (qE Tryz.prog 29 (.slice 0 0 l3.length l3.length 9) (.i n4))) (.ptr 0 ((n4:Int).toNat*9+0))) (qiW qcx e_x13)) az) ?_)
     refine sq ?_
     obtain⟨x14,e_x14,g12⟩:=bnd g12
     refine sq (gr fol [3,6,7] (kD ((6,.i n5)::(kAY n4 (kBY (a1_.length:Int) n4 [(27,.bool (!(x13.Batch==x14)))])))) (ac (hs (.run [0] (jP Tryz.prog 9 (.ptr 0 ((n4:Int).toNat*9+1))) (bS l3::(kC a0_ l3 (kAQ a2_ a3_ a4_ a5_ a6_))) (.str x13.Batch) (bS l3::(kC a0_ l3 (kAQ a2_ a3_ a4_ a5_ a6_))) false) (qiw ce9 (E:=qd) (l:=l3) rfl rfl e_x13 (nl rfl) rfl)) (ac (iv zi encS e_x14) (ac (lv 0 ce9 encS e_x14 rfl) az))) ?_)
     refine ihB g12 (fun c15 g12=>?_) (fun c15 g12=>?_)
     ·refine Goes.exit ?_
      obtain rfl:=si g12
      exact⟨rfl,_,_,rfl,(Sub.keep [2,3,4,6,11,12] rfl rfl)⟩
     ·refine Goes.skip ?_
      refine sq ?_
      refine sh fol (kD ((6,.i n5)::(kAY n4 (kBY (a1_.length:Int) n4 [(29,.bool (decide (n5=10)))])))) ?_
      obtain⟨r17,g17,g12⟩:=bnd g12
      refine Goes.imp (Q:=fun x s'=>(x= .normal∧ ∃n16,n16=r17∧Sub s' (ofG 45 (kD ((6,.i n16)::(kAY n4 (kR (a1_.length:Int) n4)))),(bS l3::(kC a0_ l3 (kAQ a2_ a3_ a4_ a5_ a6_)))))) ?_ ?_
      ·refine ihD g17 (fun c18 g17=>?_) (fun c18 g17=>?_)
       ·refine gh fol (kD ((6,.i 20)::(kAY n4 (kR (a1_.length:Int) n4)))) ?_
        obtain rfl:=si g17
        exact⟨rfl,_,rfl,(Sub.refl _)⟩
       ·refine Goes.skip ?_
        obtain rfl:=si g17
        exact⟨rfl,_,rfl,(Sub.keep [2,3,4,6,8,11,12] rfl rfl)⟩
      rintro x s' ⟨rfl,n16,rfl,hsub⟩
      refine Goes.sub hsub ?_
      refine sq ?_
      obtain⟨x19,e_x19,g12⟩:=bnd g12
      obtain⟨r20,e_r20,g12⟩:=bnd g12
      refine sq (gr fol [2,5,6,7] (kD ((6,.i n16)::(kAY n4 (kBY (a1_.length:Int) n4 [(38,.bool (!r20))])))) (ac (hs (.run [0] (jP Tryz.prog 68 (.ptr 0 ((n4:Int).toNat*9+0))) (bS l3::(kC a0_ l3 (kAQ a2_ a3_ a4_ a5_ a6_))) (.agg (cS x13)) (bS l3::(kC a0_ l3 (kAQ a2_ a3_ a4_ a5_ a6_))) false) (qkH qlk (E:=qd) (l:=l3) rfl rfl e_x13)) (ac (iv xI encI e_x19) (ac (lv 0 ce3 encI e_x19 rfl) (ac (cv (vU x13 x19 e_r20)) az)))) ?_)
      obtain⟨r22,g22,g12⟩:=bnd g12
      refine Goes.imp (Q:=fun x s'=>(x= .normal∧ ∃n21,n21=r22∧Sub s' (ofG 45 (kD ((6,.i n21)::(kAY n4 (kR (a1_.length:Int) n4)))),(bS l3::(kC a0_ l3 (kAQ a2_ a3_ a4_ a5_ a6_)))))) ?_ ?_
      ·refine ihB g22 (fun c23 g22=>?_) (fun c23 g22=>?_)
       ·refine gh fol (kD ((6,.i 0)::(kAY n4 (kR (a1_.length:Int) n4)))) ?_
        obtain rfl:=si g22
        exact⟨rfl,_,rfl,(Sub.refl _)⟩
       ·refine Goes.skip ?_
        obtain rfl:=si g22
        exact⟨rfl,_,rfl,(Sub.keep [2,3,4,6,8,11,12] rfl rfl)⟩
      rintro x s' ⟨rfl,n21,rfl,hsub⟩
      refine Goes.sub hsub ?_
      obtain⟨l24,e_l24,g12⟩:=bnd g12
      refine gq fol [3] (kD ((6,.i n21)::(kR (a1_.length:Int) n4))) (bS l24::(kC a0_ l3 (kAQ a2_ a3_ a4_ a5_ a6_))) (ac (hs (.run [0] (qau Tryz.prog 4 (.ptr 0 ((n4:Int).toNat*9+8)) (.bool true)) (bS l3::(kC a0_ l3 (kAQ a2_ a3_ a4_ a5_ a6_))) .undef (bS l24::(kC a0_ l3 (kAQ a2_ a3_ a4_ a5_ a6_))) true) (qd3 (E:=qd) (l:=l3) (y:=(⟨x13.Name,x13.Batch,x13.Born,x13.Last,x13.Uses,x13.Used,x13.Limit,x13.Until,true⟩:qc)) rfl (show _=some 1 by kernel_rfl) rfl e_x13 rfl rfl rfl rfl rfl e_l24 rfl)) az) ?_
      obtain rfl:=si g12
      exact⟨rfl,_,_,rfl,((show Sub (ofG 45 (kD ((6,.i n21)::(kR (a1_.length:Int) n4))),(bS l24::(kC a0_ l3 (kAQ a2_ a3_ a4_ a5_ a6_)))) (ofG 45 (kD ((6,.i n21)::(kR (a1_.length:Int) n4))),(bS l24::(kC a0_ l24 (kAQ a2_ a3_ a4_ a5_ a6_))))from(Sub.norm [] [some 0,some 1,some 2,some 3] (by rw[hB];rfl) rfl (.kp (.kp (.kp (.keep (.same nI) (.keep (.same nI) (.keep (.same nI) .nil)))))) (.ks (.kb rfl (.cells (rc (.same nI) (rc (.sliceE rfl (qaY e_l24)) rn))) (.kb rfl (.same sn) (.kb rfl (.same sn) .nil)))))).trans (Sub.refl _))⟩
    rintro x s' ⟨rfl,l10,n11,rfl,hsub⟩
    try dsimp only at g8
    refine Goes.sub hsub ?_
    refine gh fol (kD ((6,.i n11)::(kR (a1_.length:Int) (w64 (n4+1))))) ?_
    exact⟨M,(ofG 45 (kD ((6,.i n11)::(kR (a1_.length:Int) (w64 (n4+1))))),(bS l10::(kC a0_ l10 (kAQ a2_ a3_ a4_ a5_ a6_)))),Nat.lt_succ_self _,(Sub.refl _),_,_,_,rfl,g8⟩
   ·refine Goes.exit ?_
    obtain rfl:=si g8
    exact⟨rfl,_,_,rfl,(Sub.norm [] [some 0,some 1,some 3] (by rw[hB];rfl) rfl (.kp (.drop (.kp (.keep (.same nI) .nil)))) (.ks (.kb rfl (.cells (rc (.same nI) (rc (.slice rfl) rn))) (.kb rfl (.same sn) .nil))))⟩
 rintro x s' ⟨rfl,l6,n7,rfl,hsub⟩
 try dsimp only at h
 refine Goes.sub hsub ?_
 refine sg fol ((4,.ptr 2 0)::(kAb n7)) (bS l6::(kC a0_ l6 (kC a0_ l6 []))) ?_
 refine Goes.ret ?_
 simp only[Option.some.injEq,Prod.mk.injEq]at h
 obtain⟨rfl,rfl⟩:=h
 exact(gh2 (kO a0_ l6 [.i n7]) (Sub.norm [] [some 0] (by rw[hB];rfl) rfl (.keep (.tupleL (rc (.aggL (rc (.same nI) (rc (.slice rfl) rn))) (rc (.same nI) rn))) .nil) (.ks .nil)))
def qC (N:Nat) (a0_:Int) (a1_:List qc) (a2_:Int) (a3_:Str) (a4_:List Str) (a5_:List Int) (a6_:Str):Option (Int×(List qc)×Int):=
 (idx a5_ 0).bind fun x4=>
 (yl x4).bind fun r5=>
 (qN (decide (x4<a0_)) 19).bind fun r6=>
 (zA N ([r5,r6]:List Int)).bind fun r7=>
 if(!decide (r7=0))=true then
 some (0,[],r7)
 else
 ((zl).bind fun r9=>
 if(a3_==[109,97,107,101])=true then
 (qw a0_ a1_).bind fun l12=>
 (qan N a0_ l12 a2_ a3_ a4_ a5_ a6_).bind fun(l14,n15)=>
 some (l14,n15)
 else
 if(a3_==[116,101,115,116])=true then
 (qw a0_ a1_).bind fun l18=>
 (xy N a0_ l18 a2_ a3_ a4_ a5_ a6_).bind fun(l20,n21)=>
 some (l20,n21)
 else
 if(a3_==[117,115,101])=true then
 (qw a0_ a1_).bind fun l24=>
 (qav N a0_ l24 a2_ a3_ a4_ a5_ a6_).bind fun(l26,n27)=>
 some (l26,n27)
 else
 if(a3_==[102,97,105,108])=true then
 (qw a0_ a1_).bind fun l30=>
 (xD N a0_ l30 a2_ a3_ a4_ a5_ a6_).bind fun(l32,n33)=>
 some (l32,n33)
 else
 if(a3_==[114,101,99,97,108,108])=true then
 (qw a0_ a1_).bind fun l36=>
 (yF N a0_ l36 a2_ a3_ a4_ a5_ a6_).bind fun(l38,n39)=>
 some (l38,n39)
 else
 if(a3_==[117,110,100,111])=true then
 none
 else
 none:Option ((List qc)×Int)).bind fun(l45,n46)=>
 some (x4,l45,n46)
theorem qcb (N:Nat) (a0_:Int) (a1_:List qc) (a2_:Int) (a3_:Str) (a4_:List Str) (a5_:List Int) (a6_:Str) {n1:Int} {l2:List qc} {n3:Int} (h:qC N a0_ a1_ a2_ a3_ a4_ a5_ a6_=some (n1,l2,n3)):qg Tryz.prog (.fn 147) (kAe a0_ a1_ [.agg (cF a2_ a3_ a4_ a5_ a6_)]) [] (.tuple (kAe n1 l2 [.i n3])) []:=by
 unfold qC at h
 refine Goes.fnH Tryz.func147 rfl rfl (m:=43) rfl (rs:=[.cell 4 31,.tmp 5]) rfl (l:=(kBs a0_ a1_ [(1,.agg (cF a2_ a3_ a4_ a5_ a6_))])) rfl ?_
 intro B hB
 refine sg fol (kK (kAD [])) (kE a0_ a1_ (kAQ a2_ a3_ a4_ a5_ a6_)) ?_
 obtain⟨x4,e_x4,h⟩:=bnd h
 refine sq (gr fol [2,3] (kK (kAD (kBu x4))) (ac (iv xI encI e_x4) (ac (lv 0 ce3 encI e_x4 rfl) az)) ?_)
 refine sq ?_
 obtain⟨r5,e_r5,h⟩:=bnd h
 obtain⟨r6,e_r6,h⟩:=bnd h
 obtain⟨r7,e_r7,h⟩:=bnd h
 refine sq (gq fol [1,6,8] (kK (kAD (kZ x4 r7 []))) (kE a0_ a1_ (kM a2_ a3_ a4_ a5_ a6_ r5 r6 [])) (ac (cv (qa5 x4 e_r5)) (ac (cv (qD (decide (x4<a0_)) 19 e_r6)) (ac (hs (.call 86 [.slice 3 0 2 2 1] (kE a0_ a1_ (kM a2_ a3_ a4_ a5_ a6_ r5 r6 [])) [3] [vl encI ([r5,r6]:List Int)] (.i r7)) (yQ (FzL.cons (Fz.lit rfl rfl (FzL.still (AllST.cons tI (AllST.cons tI AllST.nil)))) FzL.nil) (jd N ([r5,r6]:List Int) e_r7) tI rfl)) az))) ?_)
 refine sh fol (kK (kAD (kZ x4 r7 [(24,.bool (!decide (r7=0)))]))) ?_
 refine ihB h (fun c8 h=>?_) (fun c8 h=>?_)
 ·refine sh fol ((4,.ptr 2 0)::(kAb r7)) ?_
  refine Goes.ret ?_
  simp only[Option.some.injEq,Prod.mk.injEq]at h
  obtain⟨rfl,rfl,rfl⟩:=h
  exact(gh2 [.agg [.i 0,.nilslice],.i r7] (Sub.norm [] [] (by rw[hB];rfl) rfl (.keep (.tupleL (rc (.aggL (rc (.same nI) (rc (.nilv) rn))) (rc (.same nI) rn))) .nil) .nil))
 ·refine Goes.skip ?_
  refine sq ?_
  obtain⟨⟨l45,n46⟩,g_v47,h⟩:=bnd h
  refine Goes.cutS (s':=(ofG 43 (kA3 ((6,.i x4)::(kBk (kBi n46)))),(bZ::(kE a0_ l45 [])))) ?_ ?_
  ·obtain⟨r9,e_r9,g_v47⟩:=bnd g_v47
   rcases wyB g_v47 with⟨c10,g_v47⟩|⟨c10,g_v47⟩
   ·obtain⟨l12,e_r11,g_v47⟩:=bnd g_v47
    obtain⟨⟨l14,n15⟩,e_r13,g_v47⟩:=bnd g_v47
    try dsimp only at g_v47
    simp only[Option.some.injEq,Prod.mk.injEq]at g_v47
    obtain⟨rfl,rfl⟩:=g_v47
    exact ql.sub (ql.rq fol [0,3,6,8] (kBA x4 n15) (kE a0_ a1_ (kM a2_ a3_ a4_ a5_ a6_ r5 r6 (.dead::(kE a0_ l14 [])))) (ac (cv (qp e_r9)) (ac (hs (.done (qL Tryz.prog 154 (fm1) (.str a3_) false) (.agg [.i 2,.i 3,.func (.func 141) [] []])) (qfN xJ [[109,97,107,101],[116,101,115,116],[117,115,101],[102,97,105,108],[114,101,99,97,108,108],[117,110,100,111]] (kw c10) rfl)) (ac (hs (.callH 82 [.agg (kAx a0_ a1_)] (kE a0_ a1_ (kM a2_ a3_ a4_ a5_ a6_ r5 r6 [])) [] (.agg (kBn a0_ l12)) (kE a0_ a1_ (kM a2_ a3_ a4_ a5_ a6_ r5 r6 [bS l12]))) (qZ [] [none,none,none,none,some 0] (zC a0_ a1_ e_r11) .nil rfl rfl (.old rfl rfl (.old rfl rfl (.old rfl rfl (.old rfl rfl (.new rfl rfl (.same fa) rfl .nil))))) (rc (.same (qm.agg sn)) rn) (.aggL (rc (.same nI) (rc (.slice rfl) rn))) rfl)) (ac (hs (.callH 141 (kAh a0_ l12 [.agg (cF a2_ a3_ a4_ a5_ a6_)]) (kE a0_ a1_ (kM a2_ a3_ a4_ a5_ a6_ r5 r6 [bS l12])) [4] (.tuple (kAe a0_ l14 [.i n15])) (kE a0_ a1_ (kM a2_ a3_ a4_ a5_ a6_ r5 r6 [.dead]))) (qZ [some 4] [none,none,none,none,none] (qfY N a0_ l12 a2_ a3_ a4_ a5_ a6_ e_r13) (.ks .nil) rfl rfl (.old rfl rfl (.old rfl rfl (.old rfl rfl (.old rfl rfl (.dead .nil))))) (rc (.aggL (rc (.same nI) (rc (.slice rfl) rn))) (rc (.same (qm.agg sn)) rn)) (.same (qm.tuple sn)) rfl)) az))))) (Sub.norm [] [some 2,some 5] (by rw[hB];rfl) rfl (.kp (.keep (.same nI) (.kp (.keep (.same nI) .nil)))) (.kb rfl (.same sn) (.kb rfl (.same sn) .nil)))
   ·rcases wyB g_v47 with⟨c16,g_v47⟩|⟨c16,g_v47⟩
    ·obtain⟨l18,e_r17,g_v47⟩:=bnd g_v47
     obtain⟨⟨l20,n21⟩,e_r19,g_v47⟩:=bnd g_v47
     try dsimp only at g_v47
     simp only[Option.some.injEq,Prod.mk.injEq]at g_v47
     obtain⟨rfl,rfl⟩:=g_v47
     exact ql.sub (ql.rq fol [0,3,6,8] (kBA x4 n21) (kE a0_ a1_ (kM a2_ a3_ a4_ a5_ a6_ r5 r6 (kBT l20 a0_))) (ac (cv (qp e_r9)) (ac (hs (.done (qL Tryz.prog 154 (fm1) (.str a3_) false) (.agg [.i 1,.i 2,.func (.func 142) [] []])) (qfN xJ [[109,97,107,101],[116,101,115,116],[117,115,101],[102,97,105,108],[114,101,99,97,108,108],[117,110,100,111]] (qj c10 (kw c16)) rfl)) (ac (hs (.callH 82 [.agg (kAx a0_ a1_)] (kE a0_ a1_ (kM a2_ a3_ a4_ a5_ a6_ r5 r6 [])) [] (.agg (kBn a0_ l18)) (kE a0_ a1_ (kM a2_ a3_ a4_ a5_ a6_ r5 r6 [bS l18]))) (qZ [] [none,none,none,none,some 0] (zC a0_ a1_ e_r17) .nil rfl rfl (.old rfl rfl (.old rfl rfl (.old rfl rfl (.old rfl rfl (.new rfl rfl (.same fa) rfl .nil))))) (rc (.same (qm.agg sn)) rn) (.aggL (rc (.same nI) (rc (.slice rfl) rn))) rfl)) (ac (hs (.callH 142 (kAh a0_ l18 [.agg (cF a2_ a3_ a4_ a5_ a6_)]) (kE a0_ a1_ (kM a2_ a3_ a4_ a5_ a6_ r5 r6 [bS l18])) [4] (.tuple (kAh a0_ l20 [.i n21])) (kE a0_ a1_ (kM a2_ a3_ a4_ a5_ a6_ r5 r6 [bS l20]))) (qZ [some 4] [none,none,none,none,some 0] (qe3 N a0_ l18 a2_ a3_ a4_ a5_ a6_ e_r19) (.ks .nil) rfl rfl (.old rfl rfl (.old rfl rfl (.old rfl rfl (.old rfl rfl (.back rfl rfl (.same fa) rfl .nil))))) (rc (.aggL (rc (.same nI) (rc (.slice rfl) rn))) (rc (.same (qm.agg sn)) rn)) (.tupleL (rc (.aggL (rc (.same nI) (rc (.slice rfl) rn))) (rc (.same nI) rn))) rfl)) az))))) (Sub.norm [4] [some 2,some 5] (by rw[hB];rfl) rfl (.kp (.keep (.same nI) (.kp (.keep (.same nI) .nil)))) (.kb rfl (.same sn) (.kb rfl (.cells (rc (.same nI) (rc (.frz (Fz.sl (E:=qd) rfl rfl (nl rfl)) (qo qd _)) rn))) .nil)))
    ·rcases wyB g_v47 with⟨c22,g_v47⟩|⟨c22,g_v47⟩
     ·obtain⟨l24,e_r23,g_v47⟩:=bnd g_v47
      obtain⟨⟨l26,n27⟩,e_r25,g_v47⟩:=bnd g_v47
      try dsimp only at g_v47
      simp only[Option.some.injEq,Prod.mk.injEq]at g_v47
      obtain⟨rfl,rfl⟩:=g_v47
      exact ql.sub (ql.rq fol [0,3,6,8] (kBA x4 n27) (kE a0_ a1_ (kM a2_ a3_ a4_ a5_ a6_ r5 r6 (kBT l26 a0_))) (ac (cv (qp e_r9)) (ac (hs (.done (qL Tryz.prog 154 (fm1) (.str a3_) false) (.agg [.i 1,.i 2,.func (.func 143) [] []])) (qfN xJ [[109,97,107,101],[116,101,115,116],[117,115,101],[102,97,105,108],[114,101,99,97,108,108],[117,110,100,111]] (qj c10 (qj c16 (kw c22))) rfl)) (ac (hs (.callH 82 [.agg (kAx a0_ a1_)] (kE a0_ a1_ (kM a2_ a3_ a4_ a5_ a6_ r5 r6 [])) [] (.agg (kBn a0_ l24)) (kE a0_ a1_ (kM a2_ a3_ a4_ a5_ a6_ r5 r6 [bS l24]))) (qZ [] [none,none,none,none,some 0] (zC a0_ a1_ e_r23) .nil rfl rfl (.old rfl rfl (.old rfl rfl (.old rfl rfl (.old rfl rfl (.new rfl rfl (.same fa) rfl .nil))))) (rc (.same (qm.agg sn)) rn) (.aggL (rc (.same nI) (rc (.slice rfl) rn))) rfl)) (ac (hs (.callH 143 (kAh a0_ l24 [.agg (cF a2_ a3_ a4_ a5_ a6_)]) (kE a0_ a1_ (kM a2_ a3_ a4_ a5_ a6_ r5 r6 [bS l24])) [4] (.tuple (kAh a0_ l26 [.i n27])) (kE a0_ a1_ (kM a2_ a3_ a4_ a5_ a6_ r5 r6 [bS l26]))) (qZ [some 4] [none,none,none,none,some 0] (qfV N a0_ l24 a2_ a3_ a4_ a5_ a6_ e_r25) (.ks .nil) rfl rfl (.old rfl rfl (.old rfl rfl (.old rfl rfl (.old rfl rfl (.back rfl rfl (.same fa) rfl .nil))))) (rc (.aggL (rc (.same nI) (rc (.slice rfl) rn))) (rc (.same (qm.agg sn)) rn)) (.tupleL (rc (.aggL (rc (.same nI) (rc (.slice rfl) rn))) (rc (.same nI) rn))) rfl)) az))))) (Sub.norm [4] [some 2,some 5] (by rw[hB];rfl) rfl (.kp (.keep (.same nI) (.kp (.keep (.same nI) .nil)))) (.kb rfl (.same sn) (.kb rfl (.cells (rc (.same nI) (rc (.frz (Fz.sl (E:=qd) rfl rfl (nl rfl)) (qo qd _)) rn))) .nil)))
     ·rcases wyB g_v47 with⟨c28,g_v47⟩|⟨c28,g_v47⟩
      ·obtain⟨l30,e_r29,g_v47⟩:=bnd g_v47
       obtain⟨⟨l32,n33⟩,e_r31,g_v47⟩:=bnd g_v47
       try dsimp only at g_v47
       simp only[Option.some.injEq,Prod.mk.injEq]at g_v47
       obtain⟨rfl,rfl⟩:=g_v47
       exact ql.sub (ql.rq fol [0,3,6,8] (kBA x4 n33) (kE a0_ a1_ (kM a2_ a3_ a4_ a5_ a6_ r5 r6 (kBT l32 a0_))) (ac (cv (qp e_r9)) (ac (hs (.done (qL Tryz.prog 154 (fm1) (.str a3_) false) (.agg [.i 1,.i 1,.func (.func 144) [] []])) (qfN xJ [[109,97,107,101],[116,101,115,116],[117,115,101],[102,97,105,108],[114,101,99,97,108,108],[117,110,100,111]] (qj c10 (qj c16 (qj c22 (kw c28)))) rfl)) (ac (hs (.callH 82 [.agg (kAx a0_ a1_)] (kE a0_ a1_ (kM a2_ a3_ a4_ a5_ a6_ r5 r6 [])) [] (.agg (kBn a0_ l30)) (kE a0_ a1_ (kM a2_ a3_ a4_ a5_ a6_ r5 r6 [bS l30]))) (qZ [] [none,none,none,none,some 0] (zC a0_ a1_ e_r29) .nil rfl rfl (.old rfl rfl (.old rfl rfl (.old rfl rfl (.old rfl rfl (.new rfl rfl (.same fa) rfl .nil))))) (rc (.same (qm.agg sn)) rn) (.aggL (rc (.same nI) (rc (.slice rfl) rn))) rfl)) (ac (hs (.callH 144 (kAh a0_ l30 [.agg (cF a2_ a3_ a4_ a5_ a6_)]) (kE a0_ a1_ (kM a2_ a3_ a4_ a5_ a6_ r5 r6 [bS l30])) [4] (.tuple (kAh a0_ l32 [.i n33])) (kE a0_ a1_ (kM a2_ a3_ a4_ a5_ a6_ r5 r6 [bS l32]))) (qZ [some 4] [none,none,none,none,some 0] (qe5 N a0_ l30 a2_ a3_ a4_ a5_ a6_ e_r31) (.ks .nil) rfl rfl (.old rfl rfl (.old rfl rfl (.old rfl rfl (.old rfl rfl (.back rfl rfl (.same fa) rfl .nil))))) (rc (.aggL (rc (.same nI) (rc (.slice rfl) rn))) (rc (.same (qm.agg sn)) rn)) (.tupleL (rc (.aggL (rc (.same nI) (rc (.slice rfl) rn))) (rc (.same nI) rn))) rfl)) az))))) (Sub.norm [4] [some 2,some 5] (by rw[hB];rfl) rfl (.kp (.keep (.same nI) (.kp (.keep (.same nI) .nil)))) (.kb rfl (.same sn) (.kb rfl (.cells (rc (.same nI) (rc (.frz (Fz.sl (E:=qd) rfl rfl (nl rfl)) (qo qd _)) rn))) .nil)))
      ·rcases wyB g_v47 with⟨c34,g_v47⟩|⟨c34,g_v47⟩
       ·obtain⟨l36,e_r35,g_v47⟩:=bnd g_v47
        obtain⟨⟨l38,n39⟩,e_r37,g_v47⟩:=bnd g_v47
        try dsimp only at g_v47
        simp only[Option.some.injEq,Prod.mk.injEq]at g_v47
        obtain⟨rfl,rfl⟩:=g_v47
        exact ql.sub (ql.rq fol [0,3,6,8] (kBA x4 n39) (kE a0_ a1_ (kM a2_ a3_ a4_ a5_ a6_ r5 r6 (kBT l38 a0_))) (ac (cv (qp e_r9)) (ac (hs (.done (qL Tryz.prog 154 (fm1) (.str a3_) false) (.agg [.i 1,.i 1,.func (.func 145) [] []])) (qfN xJ [[109,97,107,101],[116,101,115,116],[117,115,101],[102,97,105,108],[114,101,99,97,108,108],[117,110,100,111]] (qj c10 (qj c16 (qj c22 (qj c28 (kw c34))))) rfl)) (ac (hs (.callH 82 [.agg (kAx a0_ a1_)] (kE a0_ a1_ (kM a2_ a3_ a4_ a5_ a6_ r5 r6 [])) [] (.agg (kBn a0_ l36)) (kE a0_ a1_ (kM a2_ a3_ a4_ a5_ a6_ r5 r6 [bS l36]))) (qZ [] [none,none,none,none,some 0] (zC a0_ a1_ e_r35) .nil rfl rfl (.old rfl rfl (.old rfl rfl (.old rfl rfl (.old rfl rfl (.new rfl rfl (.same fa) rfl .nil))))) (rc (.same (qm.agg sn)) rn) (.aggL (rc (.same nI) (rc (.slice rfl) rn))) rfl)) (ac (hs (.callH 145 (kAh a0_ l36 [.agg (cF a2_ a3_ a4_ a5_ a6_)]) (kE a0_ a1_ (kM a2_ a3_ a4_ a5_ a6_ r5 r6 [bS l36])) [4] (.tuple (kAh a0_ l38 [.i n39])) (kE a0_ a1_ (kM a2_ a3_ a4_ a5_ a6_ r5 r6 [bS l38]))) (qZ [some 4] [none,none,none,none,some 0] (qd9 N a0_ l36 a2_ a3_ a4_ a5_ a6_ e_r37) (.ks .nil) rfl rfl (.old rfl rfl (.old rfl rfl (.old rfl rfl (.old rfl rfl (.back rfl rfl (.same fa) rfl .nil))))) (rc (.aggL (rc (.same nI) (rc (.slice rfl) rn))) (rc (.same (qm.agg sn)) rn)) (.tupleL (rc (.aggL (rc (.same nI) (rc (.slice rfl) rn))) (rc (.same nI) rn))) rfl)) az))))) (Sub.norm [4] [some 2,some 5] (by rw[hB];rfl) rfl (.kp (.keep (.same nI) (.kp (.keep (.same nI) .nil)))) (.kb rfl (.same sn) (.kb rfl (.cells (rc (.same nI) (rc (.frz (Fz.sl (E:=qd) rfl rfl (nl rfl)) (qo qd _)) rn))) .nil)))
       ·rcases wyB g_v47 with⟨c40,g_v47⟩|⟨c40,g_v47⟩
        ·cases g_v47
        ·cases g_v47
  intro _ hsub
  try dsimp only at h
  refine Goes.sub hsub ?_
  refine sg fol (kA3 (kBk (kBi n46))) (bZ::(kE x4 l45 [])) ?_
  refine sg fol (kA3 (kAb n46)) (kE x4 l45 (kE x4 l45 [])) ?_
  refine Goes.ret ?_
  simp only[Option.some.injEq,Prod.mk.injEq]at h
  obtain⟨rfl,rfl,rfl⟩:=h
  exact(gh2 (kAe x4 l45 [.i n46]) (Sub.norm [] [] (by rw[hB];rfl) rfl (.keep (.tupleL (rc (.aggL (rc (.same nI) (rc (.same (qo qd _)) rn))) (rc (.same nI) rn))) .nil) .nil))
def jO (N:Nat) (a0_:List qb) (a1_:Option (List StateT)) (a2_:Int) (a3_:Str) (a4_:List Str) (a5_:List Int) (a6_:Str):Option ((List qb)×(Option (List StateT))×Int):=
 if(!decide (a2_=(w64 ((a0_.length:Int)+1))))=true then
 some (a0_,a1_,11)
 else
 if(a3_==[117,110,100,111])=true then
 ((match a1_ with
 |none=>
 some ((none:Option (List StateT)),decide (0=0))
 |some l6=>
 some ((some l6),decide ((l6.length:Int)=0))):Option ((Option (List StateT))×Bool)).bind fun(o7,b8)=>
 if b8=true then
 some (a0_,o7,12)
 else
 ((match o7 with
 |none=>
 (cut ([]:List StateT) 0 (w64 (0-1))).bind fun s12=>
 some (none:Option (List StateT))
 |some l11=>
 (cut l11 0 (w64 ((l11.length:Int)-1))).bind fun l13=>
 some (some l13)):Option (Option (List StateT))).bind fun o14=>
 (zZ (⟨a2_,a3_,a4_,a5_,a6_⟩:qb)).bind fun r16=>
 (app 88 a0_ [r16]).bind fun l17=>
 some (l17,o14,0)
 else
 (qB a0_ a1_).bind fun(o19,n20,l21)=>
 (qC N n20 l21 a2_ a3_ a4_ a5_ a6_).bind fun(n23,l24,n25)=>
 if(!decide (n25=0))=true then
 some (a0_,o19,n25)
 else
 ((match o19 with
 |none=>
 some ([(⟨a2_,(⟨n23,l24⟩:yD)⟩:StateT)]:List StateT)
 |some l27=>
 (app 40 l27 [(⟨a2_,(⟨n23,l24⟩:yD)⟩:StateT)]).bind fun l28=>
 some l28):Option (List StateT)).bind fun l29=>
 (zZ (⟨a2_,a3_,a4_,a5_,a6_⟩:qb)).bind fun r31=>
 (app 88 a0_ [r31]).bind fun l32=>
 some (l32,(some l29),0)
theorem qcH (N:Nat) (a0_:List qb) (a1_:Option (List StateT)) (a2_:Int) (a3_:Str) (a4_:List Str) (a5_:List Int) (a6_:Str) {l1:List qb} {o2:Option (List StateT)} {n3:Int} (h:jO N a0_ a1_ a2_ a3_ a4_ a5_ a6_=some (l1,o2,n3)):qg Tryz.prog (.fn 91) [.ptr 0 0,.agg (cF a2_ a3_ a4_ a5_ a6_)] (kA a0_ a1_ []) (.i n3) (kAT l1 o2 (kB l1 (kAC o2 []))):=by
 unfold jO at h
 refine Goes.fnH Tryz.func91 rfl rfl (m:=73) rfl (rs:=[.tmp 4]) rfl (l:=(kAK [(1,.agg (cF a2_ a3_ a4_ a5_ a6_))])) rfl ?_
 intro B hB
 refine sg fol (kAK (kBf [])) (kA a0_ a1_ (kBX a2_ a3_ a4_ a5_ a6_ [])) ?_
 refine sq ?_
 refine sh fol (kAK (kBf [(15,.bool (!decide (a2_=(w64 ((a0_.length:Int)+1)))))])) ?_
 refine ihB h (fun c4 h=>?_) (fun c4 h=>?_)
 ·refine sh fol [(4,.i 11)] ?_
  refine Goes.ret ?_
  simp only[Option.some.injEq,Prod.mk.injEq]at h
  obtain⟨rfl,rfl,rfl⟩:=h
  exact(gh2 [.i 11] (Sub.norm [] [some 0,some 1,some 2,some 1,some 2] (by rw[hB];rfl) rfl (.keep (.same nI) .nil) (.kb rfl (.cells (rc (.gslice rfl) (rc (.hs rfl) rn))) (.lost (.lost (.ks (.ks .nil)))))))
 ·refine Goes.skip ?_
  refine sq ?_
  refine sh fol (kAK (kBf [(18,.bool (a3_==[117,110,100,111]))])) ?_
  refine ihB h (fun c5 h=>?_) (fun c5 h=>?_)
  ·refine sq ?_
   refine sq ?_
   obtain⟨⟨o7,b8⟩,g_v9,h⟩:=bnd h
   refine Goes.cutS (s':=(ofG 73 (kAK (kBf [(24,.bool b8)])),(kA a0_ o7 (kBX a2_ a3_ a4_ a5_ a6_ [])))) ?_ ?_
   ·rcases a1_ with _|l6
    ·try dsimp only at g_v9
     simp only[Option.some.injEq,Prod.mk.injEq]at g_v9
     obtain⟨rfl,rfl⟩:=g_v9
     exact ql.sub (ql.rg fol (kAK (kBf [(24,.bool (decide (0=0)))])) (kB5 a0_ (kB a0_ (.cells ((hof (none:Option (List StateT))).flatMap jI.c)::(kBX a2_ a3_ a4_ a5_ a6_ []))))) (Sub.norm [] [some 0,some 1,some 2,some 3] (by rw[hB];rfl) rfl (.kp (.kp (.keep (.same nB) .nil))) (.kb rfl (.cells (rc (.gslice rfl) (rc .hs0 rn))) (.ks (.ks (.kb rfl (.same sn) .nil)))))
    ·try dsimp only at g_v9
     simp only[Option.some.injEq,Prod.mk.injEq]at g_v9
     obtain⟨rfl,rfl⟩:=g_v9
     exact ql.sub (ql.rg fol (kAK (kBf [(24,.bool (decide ((l6.length:Int)=0)))])) (kAR a0_ l6 (kB a0_ (kAW l6 (kBX a2_ a3_ a4_ a5_ a6_ []))))) (Sub.norm [] [some 0,some 1,some 2,some 3] (by rw[hB];rfl) rfl (.kp (.kp (.keep (.same nB) .nil))) (.kb rfl (.cells (rc (.gslice rfl) (rc ((kg.hs1 rfl)) rn))) (.ks (.ks (.kb rfl (.same sn) .nil)))))
   intro _ hsub
   try dsimp only at h
   refine Goes.sub hsub ?_
   refine ihB h (fun c10 h=>?_) (fun c10 h=>?_)
   ·refine sh fol [(4,.i 12)] ?_
    refine Goes.ret ?_
    simp only[Option.some.injEq,Prod.mk.injEq]at h
    obtain⟨rfl,rfl,rfl⟩:=h
    exact(gh2 [.i 12] (Sub.norm [] [some 0,some 1,some 2,some 1,some 2] (by rw[hB];rfl) rfl (.keep (.same nI) .nil) (.kb rfl (.cells (rc (.gslice rfl) (rc (.hs rfl) rn))) (.lost (.lost (.ks (.ks .nil)))))))
   ·refine Goes.skip ?_
    obtain⟨o14,g_v15,h⟩:=bnd h
    refine Goes.cutS (s':=(ofG 73 (kAK (kBf [])),(kA a0_ o14 (kBX a2_ a3_ a4_ a5_ a6_ [])))) ?_ ?_
    ·rcases o7 with _|l11
     ·try dsimp only at g_v15
      obtain⟨s12,e_s12,g_v15⟩:=bnd g_v15
      obtain rfl:=si g_v15
      exact ql.sub (ql.rq fol [11] (kAK (kBf [])) (kB5 a0_ (kB a0_ (.cells ((hof (none:Option (List StateT))).flatMap jI.c)::(kBX a2_ a3_ a4_ a5_ a6_ [])))) (ac (hs (.done (.opt (qG Tryz.prog 163 .nilslice none (some (.i (w64 (0-1)))) none)) .nilslice) (qoM (α:=StateT) qmh none (some (w64 (0-1))) e_s12)) az)) (Sub.norm [] [some 0,some 1,some 2,some 3] (by rw[hB];rfl) rfl (.kp (.kp .nil)) (.kb rfl (.cells (rc (.gslice rfl) (rc .hs0 rn))) (.ks (.ks (.kb rfl (.same sn) .nil)))))
     ·try dsimp only at g_v15
      obtain⟨l13,e_l13,g_v15⟩:=bnd g_v15
      obtain rfl:=si g_v15
      exact ql.sub (ql.rq fol [11] (kAK (kBf [])) (kAR a0_ l13 (kB a0_ (kAW l11 (kBX a2_ a3_ a4_ a5_ a6_ [])))) (ac (hs (.done (.opt (qG Tryz.prog 163 (.oslice 2 l11.length 3) none (some (.i (w64 ((l11.length:Int)-1)))) none)) (.oslice 2 l13.length 3)) (qpw qmh e_l13)) az)) ((show Sub (ofG 73 (kAK (kBf [])),(kAR a0_ l13 (kB a0_ (kAW l11 (kBX a2_ a3_ a4_ a5_ a6_ []))))) (ofG 73 (kAK (kBf [])),(kAR a0_ l13 (kB a0_ (kAW l13 (kBX a2_ a3_ a4_ a5_ a6_ [])))))from(Sub.norm [] [some 0,some 1,some 2,some 3] (by rw[hB];rfl) rfl (.kp (.kp .nil)) (.kb rfl (.cells (rc (.gslice rfl) (rc (.oslice rfl) rn))) (.ks (.kb rfl (qb3.cut e_l13) (.kb rfl (.same sn) .nil)))))).trans (Sub.norm [] [some 0,some 1,some 2,some 3] (by rw[hB];rfl) rfl (.kp (.kp .nil)) (.kb rfl (.cells (rc (.gslice rfl) (rc ((kg.hs1 rfl)) rn))) (.ks (.ks (.kb rfl (.same sn) .nil))))))
    intro _ hsub
    refine Goes.sub hsub ?_
    obtain⟨r16,e_r16,h⟩:=bnd h
    obtain⟨l17,e_l17,h⟩:=bnd h
    refine sq (gq fol [6,8] [] (.cells [.gslice 5 l17.length 5,hsl 2 3 o14]:: .dead::(kAC o14 (kBX a2_ a3_ a4_ a5_ a6_ (kQ r16 (kB l17 []))))) (ac (cv (qah (⟨a2_,a3_,a4_,a5_,a6_⟩:qb) e_r16)) (ac (hs (.run [1,4] (qz Tryz.prog [22,22] (.gslice 1 a0_.length 5) (.slice 4 0 1 1 5)) (kA a0_ o14 (kBX a2_ a3_ a4_ a5_ a6_ (kQ r16 []))) (.gslice 5 l17.length 5) (.cells [.gslice 1 a0_.length 5,hsl 2 3 o14]:: .dead::(kAC o14 (kBX a2_ a3_ a4_ a5_ a6_ (kQ r16 (kB l17 []))))) true) (ko jo (E:=qa) rfl (xm (E:=qa) (ys:=[r16]) rfl rfl rfl rfl) (qcF (E:=qa) (l:=a0_) rfl rfl rfl e_l17 rfl))) az)) ?_)
    refine sh fol kBW ?_
    refine Goes.ret ?_
    simp only[Option.some.injEq,Prod.mk.injEq]at h
    obtain⟨rfl,rfl,rfl⟩:=h
    exact(gh2 [.i 0] (Sub.norm [] [some 0,some 1,some 2,some 5,some 2] (by rw[hB];rfl) rfl (.keep (.same nI) .nil) (.kb rfl (.cells (rc (.gslice rfl) (rc (.hs rfl) rn))) (.lost (.lost (.ks (.ks .nil)))))))
  ·obtain⟨⟨o19,n20,l21⟩,e_r18,h⟩:=bnd h
   try dsimp only at h
   obtain⟨⟨n23,l24,n25⟩,e_r22,h⟩:=bnd h
   try dsimp only at h
   refine sq (gq fol [1,3] (kAK (kBf ((5,.ptr 4 0)::(kBu n25)))) (kA a0_ o19 (kBX a2_ a3_ a4_ a5_ a6_ (kE n23 l24 []))) (ac (hs (.callH 81 [.ptr 0 0] (kA a0_ a1_ (kBX a2_ a3_ a4_ a5_ a6_ [])) [0,1,2] (.agg (kAx n20 l21)) (kA a0_ o19 (kBX a2_ a3_ a4_ a5_ a6_ []))) (qZ [some 0,some 1,some 2] [some 0,some 1,some 2,none] (jL a0_ a1_ e_r18) (.kb rfl (.cells (rc (.gslice rfl) (rc (.hs rfl) rn))) (.ks (.ks .nil))) rfl rfl (.back rfl rfl (.cells (rc (.gslice rfl) (rc (.hs rfl) rn))) rfl (.back rfl rfl (.same fa) rfl (.back rfl rfl (.same fa) rfl (.old rfl rfl .nil)))) (rc (.ptr rfl) rn) (.same (qm.agg sn)) rfl)) (ac (hs (.callH 147 (kAe n20 l21 [.agg (cF a2_ a3_ a4_ a5_ a6_)]) (kA a0_ o19 (kBX a2_ a3_ a4_ a5_ a6_ [])) [] (.tuple (kAe n23 l24 [.i n25])) (kA a0_ o19 (kBX a2_ a3_ a4_ a5_ a6_ []))) (qZ [] [none,none,none,none] (qcb N n20 l21 a2_ a3_ a4_ a5_ a6_ e_r22) .nil rfl rfl (.old rfl rfl (.old rfl rfl (.old rfl rfl (.old rfl rfl .nil)))) (rc (.same (qm.agg sn)) (rc (.same (qm.agg sn)) rn)) (.same (qm.tuple sn)) rfl)) az)) ?_)
   refine sq ?_
   refine sh fol (kAK (kBf [(5,.ptr 4 0),(6,.i n25),(47,.bool (!decide (n25=0)))])) ?_
   refine ihB h (fun c26 h=>?_) (fun c26 h=>?_)
   ·refine sh fol (kAv n25) ?_
    refine Goes.ret ?_
    simp only[Option.some.injEq,Prod.mk.injEq]at h
    obtain⟨rfl,rfl,rfl⟩:=h
    exact(gh2 [.i n25] (Sub.norm [] [some 0,some 1,some 2,some 1,some 2] (by rw[hB];rfl) rfl (.keep (.same nI) .nil) (.kb rfl (.cells (rc (.gslice rfl) (rc (.hs rfl) rn))) (.lost (.lost (.ks (.ks .nil)))))))
   ·refine Goes.skip ?_
    obtain⟨l29,g_v30,h⟩:=bnd h
    refine Goes.cutS (s':=(ofG 73 (kAK [(3,.ptr 4 0)]),(.cells [.gslice 1 a0_.length 5,.oslice 3 l29.length 3]::(kB a0_ (.dead::(kAW l29 (kBX a2_ a3_ a4_ a5_ a6_ []))))))) ?_ ?_
    ·rcases o19 with _|l27
     ·try dsimp only at g_v30
      obtain rfl:=si g_v30
      exact ql.sub (ql.rg fol (kAK (kBf [])) (.cells [.gslice 1 a0_.length 5,.oslice 6 1 3]::(kB a0_ (.cells ((hof (none:Option (List StateT))).flatMap jI.c)::(kBX a2_ a3_ a4_ a5_ a6_ (kE n23 l24 [.cells [.i a2_,.i n23,vl qd l24],.cells [.i a2_,.i n23,vl qd l24]])))))) (Sub.norm [] [some 0,some 1,some 2,some 6,some 3] (by rw[hB];rfl) rfl (.kp (.kp .nil)) (.kb rfl (.cells (rc (.gslice rfl) (rc ((kg.osliceE rfl rfl)) rn))) (.ks (.lost (.ks (.kb rfl (.same sn) .nil))))))
     ·try dsimp only at g_v30
      obtain⟨l28,e_l28,g_v30⟩:=bnd g_v30
      obtain rfl:=si g_v30
      exact ql.sub (ql.rq fol [10] (kAK (kBf [])) (.cells [.gslice 1 a0_.length 5,.oslice 6 l28.length 3]::(kB a0_ (.dead::(kBX a2_ a3_ a4_ a5_ a6_ (kE n23 l24 (.cells [.i a2_,.i n23,vl qd l24]::(kAW l28 []))))))) (ac (hs (.run [2,5] (qz Tryz.prog [163,163] (.oslice 2 l27.length 3) (.slice 5 0 1 1 3)) (kAR a0_ l27 (kB a0_ (kAW l27 (kBX a2_ a3_ a4_ a5_ a6_ (kE n23 l24 [.cells [.i a2_,.i n23,vl qd l24]]))))) (.oslice 6 l28.length 3) (kAR a0_ l27 (kB a0_ (.dead::(kBX a2_ a3_ a4_ a5_ a6_ (kE n23 l24 (.cells [.i a2_,.i n23,vl qd l24]::(kAW l28 []))))))) true) (ko qmh (E:=jI) rfl (xm (E:=jI) (ys:=[(⟨a2_,(⟨n23,l24⟩:yD)⟩:StateT)]) rfl rfl rfl rfl) (qdv (E:=jI) (l:=l27) rfl rfl rfl e_l28 rfl))) az)) (Sub.norm [] [some 0,some 1,some 2,some 6,some 3] (by rw[hB];rfl) rfl (.kp (.kp .nil)) (.kb rfl (.cells (rc (.gslice rfl) (rc (.oslice rfl) rn))) (.ks (.lost (.ks (.kb rfl (.same sn) .nil))))))
    intro _ hsub
    refine Goes.sub hsub ?_
    obtain⟨r31,e_r31,h⟩:=bnd h
    obtain⟨l32,e_l32,h⟩:=bnd h
    refine sq (gq fol [6,8] [] (.cells [.gslice 6 l32.length 5,.oslice 3 l29.length 3]::(kBZ (kAW l29 (kBX a2_ a3_ a4_ a5_ a6_ (kQ r31 (kB l32 [])))))) (ac (cv (qah (⟨a2_,a3_,a4_,a5_,a6_⟩:qb) e_r31)) (ac (hs (.run [1,5] (qz Tryz.prog [22,22] (.gslice 1 a0_.length 5) (.slice 5 0 1 1 5)) (.cells [.gslice 1 a0_.length 5,.oslice 3 l29.length 3]::(kB a0_ (.dead::(kAW l29 (kBX a2_ a3_ a4_ a5_ a6_ (kQ r31 [])))))) (.gslice 6 l32.length 5) (.cells [.gslice 1 a0_.length 5,.oslice 3 l29.length 3]::(kBZ (kAW l29 (kBX a2_ a3_ a4_ a5_ a6_ (kQ r31 (kB l32 [])))))) true) (ko jo (E:=qa) rfl (xm (E:=qa) (ys:=[r31]) rfl rfl rfl rfl) (qcF (E:=qa) (l:=a0_) rfl rfl rfl e_l32 rfl))) az)) ?_)
    refine sh fol kBW ?_
    refine Goes.ret ?_
    simp only[Option.some.injEq,Prod.mk.injEq]at h
    obtain⟨rfl,rfl,rfl⟩:=h
    exact(gh2 [.i 0] (Sub.norm [] [some 0,some 1,some 2,some 6,some 3] (by rw[hB];rfl) rfl (.keep (.same nI) .nil) (.kb rfl (.cells (rc (.gslice rfl) (rc ((kg.hs1 rfl)) rn))) (.lost (.lost (.ks (.ks .nil)))))))
def zJ (N:Nat) (a0_:List qb) (a1_:Option (List StateT)) (a2_:Int) (a3_:Str) (a4_:List Str) (a5_:List Int) (a6_:Str):Option ((List qb)×(Option (List StateT))×Int):=
 (vT N (⟨a2_,a3_,a4_,a5_,a6_⟩:qb)).bind fun r4=>
 if(!decide (r4=0))=true then
 some (a0_,a1_,r4)
 else
 (jO N a0_ a1_ a2_ a3_ a4_ a5_ a6_).bind fun(l7,o8,n9)=>
 some (l7,o8,n9)
theorem qbc (N:Nat) (a0_:List qb) (a1_:Option (List StateT)) (a2_:Int) (a3_:Str) (a4_:List Str) (a5_:List Int) (a6_:Str) {l1:List qb} {o2:Option (List StateT)} {n3:Int} (h:zJ N a0_ a1_ a2_ a3_ a4_ a5_ a6_=some (l1,o2,n3)):qg Tryz.prog (.fn 128) [.ptr 0 0,.agg (cF a2_ a3_ a4_ a5_ a6_)] (kA a0_ a1_ []) (.i n3) (kAT l1 o2 (kB l1 (kAC o2 []))):=by
 unfold zJ at h
 refine Goes.fnH Tryz.func128 rfl rfl (m:=14) rfl (rs:=[.tmp 4]) rfl (l:=(kAK [(1,.agg (cF a2_ a3_ a4_ a5_ a6_))])) rfl ?_
 intro B hB
 refine sg fol (kAK (kBf [])) (kA a0_ a1_ (kBX a2_ a3_ a4_ a5_ a6_ [])) ?_
 refine sq ?_
 obtain⟨r4,e_r4,h⟩:=bnd h
 refine sq (gr fol [1] (kAK (kBf (kAb r4))) (ac (cv (qbV N (⟨a2_,a3_,a4_,a5_,a6_⟩:qb) e_r4)) az) ?_)
 refine sh fol (kAK (kBf ((5,.i r4)::(kBt (!decide (r4=0)))))) ?_
 refine ihB h (fun c5 h=>?_) (fun c5 h=>?_)
 ·refine sh fol (kAv r4) ?_
  refine Goes.ret ?_
  simp only[Option.some.injEq,Prod.mk.injEq]at h
  obtain⟨rfl,rfl,rfl⟩:=h
  exact(gh2 [.i r4] (Sub.norm [] [some 0,some 1,some 2,some 1,some 2] (by rw[hB];rfl) rfl (.keep (.same nI) .nil) (.kb rfl (.cells (rc (.gslice rfl) (rc (.hs rfl) rn))) (.lost (.lost (.ks (.ks .nil)))))))
 ·refine Goes.skip ?_
  obtain⟨⟨l7,o8,n9⟩,e_r6,h⟩:=bnd h
  try dsimp only at h
  refine sq (gq fol [2] (kAv n9) (.cells [.gslice 4 l7.length 5,hsl 5 3 o8]::(kBZ (kBX a2_ a3_ a4_ a5_ a6_ (kB l7 (kAC o8 []))))) (ac (hs (.callH 91 [.ptr 0 0,.agg (cF a2_ a3_ a4_ a5_ a6_)] (kA a0_ a1_ (kBX a2_ a3_ a4_ a5_ a6_ [])) [0,1,2] (.i n9) (.cells [.gslice 4 l7.length 5,hsl 5 3 o8]::(kBZ (kBX a2_ a3_ a4_ a5_ a6_ (kB l7 (kAC o8 [])))))) (qZ [some 0,some 1,some 2] [some 0,none,none,none,some 3,some 4] (qcH N a0_ a1_ a2_ a3_ a4_ a5_ a6_ e_r6) (.kb rfl (.cells (rc (.gslice rfl) (rc (.hs rfl) rn))) (.ks (.ks .nil))) rfl rfl (.back rfl rfl (.cells (rc (.gslice rfl) (rc (.hs rfl) rn))) rfl (.dead (.dead (.old rfl rfl (.new rfl rfl (.same fa) rfl (.new rfl rfl (.same fa) rfl .nil)))))) (rc (.ptr rfl) (rc (.same (qm.agg sn)) rn)) (.same nI) rfl)) az) ?_)
  refine Goes.ret ?_
  simp only[Option.some.injEq,Prod.mk.injEq]at h
  obtain⟨rfl,rfl,rfl⟩:=h
  exact(gh2 [.i n9] (Sub.norm [] [some 0,some 1,some 2,some 4,some 5] (by rw[hB];rfl) rfl (.keep (.same nI) .nil) (.kb rfl (.cells (rc (.gslice rfl) (rc (.hs rfl) rn))) (.lost (.lost (.ks (.ks .nil)))))))
def kz (N:Nat) (a0_:List qb):Nat→(List qb)→(Option (List StateT))→Int→Option (((List qb)×(Option (List StateT)))⊕((List qb)×(Option (List StateT))×Bool×Int×Int))
 |0,_,_,_=>none
 |K+1,l7,o8,n9=>
  if n9<(a0_.length:Int)then
  (idx a0_ n9).bind fun x15=>
  (zJ N l7 o8 x15.Number x15.Kind x15.Names x15.Values x15.Text).bind fun(l17,o18,n19)=>
  if(!decide (n19=0))=true then
  some (.inr (([]:List qb),(none:Option (List StateT)),false,w64 (n9+1),n19))
  else
  kz N a0_ K l17 o18 (w64 (n9+1))
  else
  some (.inl (l7,o8))
def yB (N:Nat) (a0_:List qb):Option ((List qb)×(Option (List StateT))×Bool×Int×Int):=
 if(a0_.length:Int)>1000 then
 some (([]:List qb),(none:Option (List StateT)),false,0,5)
 else
 (kz N a0_ N ([]:List qb) (none:Option (List StateT)) 0).bind (fun
 |(.inl (l10,o11))=>
 some (l10,o11,true,0,0)
 |(.inr q21)=>
 some q21)
theorem qe2 (N:Nat) (a0_:List qb) {l1:List qb} {o2:Option (List StateT)} {ok3:Bool} {n4:Int} {n5:Int} (h:yB N a0_=some (l1,o2,ok3,n4,n5)):qg Tryz.prog (.fn 80) [vl qa a0_] [] (.tuple [pz ok3 0 0,.i n4,.i n5]) (kA l1 o2 []):=by
 unfold yB at h
 refine Goes.fnH Tryz.func80 rfl rfl (m:=31) rfl (rs:=[.tmp 2,.tmp 3,.tmp 4]) rfl (l:=(kL a0_ [])) rfl ?_
 intro B hB
 refine sh fol (kL a0_ []) ?_
 refine sq ?_
 refine sh fol (kL a0_ [(11,.bool (decide ((a0_.length:Int)>1000)))]) ?_
 refine ihD h (fun c6 h=>?_) (fun c6 h=>?_)
 ·refine sh fol [(2,.nilptr),(3,.i 0),(4,.i 5)] ?_
  refine Goes.ret ?_
  simp only[Option.some.injEq,Prod.mk.injEq]at h
  obtain⟨rfl,rfl,rfl,rfl,rfl⟩:=h
  exact(gh2 [.nilptr,.i 0,.i 5] (Sub.norm [] [none,none,none] (by rw[hB];rfl) rfl (.keep (.tupleL (rc (kg.pz0) (rc (.same nI) (rc (.same nI) rn)))) .nil) (.fresh (.fresh (.fresh .nil)))))
 ·refine Goes.skip ?_
  refine sg fol (kL a0_ [(5,.ptr 0 0)]) [.cells [.nilslice,.nilslice]] ?_
  refine sq ?_
  refine sh fol (kA6 a0_ (a0_.length:Int) [(16,.i 0)]) ?_
  refine Goes.block ?_
  obtain⟨r12,g12,h⟩:=bnd h
  refine Goes.imp (Q:=fun x s'=>(x= .exit 0∧ ∃l10 o11,(.inl (l10,o11))=r12∧Sub s' (ofG 31 [(5,.ptr 0 0)],(kA l10 o11 [])))∨(x= .ret∧ ∃q13,(.inr q13)=r12∧qdt Tryz.prog [.tmp 2,.tmp 3,.tmp 4] (.tuple [pz q13.2.2.1 0 0,.i q13.2.2.2.1,.i q13.2.2.2.2]) (kA q13.1 q13.2.1 []) .ret s')) ?_ ?_
  ·refine Goes.sub (s':=(ofG 31 (kA6 a0_ (a0_.length:Int) [(16,.i 0)]),(.cells [.gslice 1 ([]:List qb).length 5,hsl 2 3 (none:Option (List StateT))]::(kB3 [.cells ((hof (none:Option (List StateT))).flatMap jI.c)])))) (Sub.norm [] [some 0,none,none] (by rw[hB];rfl) rfl (.kp (.keep (.same (qo qa _)) (.keep (.same nI) (.keep (.same nI) .nil)))) (.kb rfl (.cells (rc (.nil) (rc .hs0 rn))) (.fresh (.fresh .nil)))) ?_
   refine Goes.loopS (fun M s=> ∃(l7:List qb) (o8:Option (List StateT)) (n9:Int),s=(ofG 31 (kA6 a0_ (a0_.length:Int) [(16,.i n9)]),(kA l7 o8 []))∧kz N a0_ M l7 o8 n9=some r12) ?_ (m:=N) ⟨_,_,_,rfl,g12⟩
   rintro M s ⟨l7,o8,n9,rfl,g12⟩
   cases M with
   |zero=>simp only[kz]at g12;cases g12
   |succ M=>
    rw[kz]at g12
    refine sh fol (kA6 a0_ (a0_.length:Int) [(16,.i n9),(17,.bool (decide (n9<(a0_.length:Int))))]) ?_
    refine sq ?_
    refine ihD g12 (fun c14 g12=>?_) (fun c14 g12=>?_)
    ·refine Goes.skip ?_
     refine sq (Goes.block ?_)
     obtain⟨x15,e_x15,g12⟩:=bnd g12
     refine sq (gq fol [1,2] [(5,.ptr 0 0),(6,.i n9),(7,.ptr 3 0),(14,vl qa a0_),(15,.i (a0_.length:Int)),(16,.i n9)] (kA l7 o8 (kQ x15 [])) (ac (iv jo qa e_x15) (ac (la qjl qa e_x15) az)) ?_)
     obtain⟨⟨l17,o18,n19⟩,e_r16,g12⟩:=bnd g12
     try dsimp only at g12
     refine sq (gq fol [2] [(5,.ptr 0 0),(6,.i n9),(8,.i n19),(14,vl qa a0_),(15,.i (a0_.length:Int)),(16,.i n9)] (.cells [.gslice 4 l17.length 5,hsl 5 3 o18]::(kBZ (kQ x15 (kB l17 (kAC o18 []))))) (ac (hs (.callH 128 [.ptr 0 0,.agg (cE x15)] (kA l7 o8 (kQ x15 [])) [0,1,2] (.i n19) (.cells [.gslice 4 l17.length 5,hsl 5 3 o18]::(kBZ (kQ x15 (kB l17 (kAC o18 [])))))) (qZ [some 0,some 1,some 2] [some 0,none,none,none,some 3,some 4] (qbc N l7 o8 x15.Number x15.Kind x15.Names x15.Values x15.Text e_r16) (.kb rfl (.cells (rc (.gslice rfl) (rc (.hs rfl) rn))) (.ks (.ks .nil))) rfl rfl (.back rfl rfl (.cells (rc (.gslice rfl) (rc (.hs rfl) rn))) rfl (.dead (.dead (.old rfl rfl (.new rfl rfl (.same fa) rfl (.new rfl rfl (.same fa) rfl .nil)))))) (rc (.ptr rfl) (rc (.same (qm.agg sn)) rn)) (.same nI) rfl)) az) ?_)
     refine sh fol [(5,.ptr 0 0),(6,.i n9),(8,.i n19),(14,vl qa a0_),(15,.i (a0_.length:Int)),(16,.i n9),(25,.bool (!decide (n19=0)))] ?_
     refine ihB g12 (fun c20 g12=>?_) (fun c20 g12=>?_)
     ·refine sh fol ((2,.nilptr)::(3,.i (w64 (n9+1)))::(kAv n19)) ?_
      refine Goes.ret ?_
      obtain rfl:=si g12
      exact Or.inr (⟨rfl,_,rfl,(gh2 [.nilptr,.i (w64 (n9+1)),.i n19] (Sub.norm [] [none,none,none] (by rw[hB];rfl) rfl (.keep (.tupleL (rc (kg.pz0) (rc (.same nI) (rc (.same nI) rn)))) .nil) (.fresh (.fresh (.fresh .nil)))))⟩)
     ·refine Goes.skip ?_
      refine gh fol (kA6 a0_ (a0_.length:Int) [(16,.i (w64 (n9+1)))]) ?_
      exact⟨M,(ofG 31 (kA6 a0_ (a0_.length:Int) [(16,.i (w64 (n9+1)))]),(kA l17 o18 [])),Nat.lt_succ_self _,(Sub.norm [] [some 0,some 4,some 5] (by rw[hB];rfl) rfl (.kp (.keep (.same (qo qa _)) (.keep (.same nI) (.keep (.same nI) .nil)))) (.kb rfl (.cells (rc (.gslice rfl) (rc (.hs rfl) rn))) (.ks (.ks .nil)))),_,_,_,rfl,g12⟩
    ·refine Goes.exit ?_
     obtain rfl:=si g12
     exact Or.inl (⟨rfl,_,_,rfl,(Sub.keep [5] rfl rfl)⟩)
  rintro x s' (⟨rfl,l10,o11,rfl,hsub⟩|⟨rfl,q21,rfl,hret⟩)
  ·try dsimp only at h
   refine Goes.sub hsub ?_
   refine sh fol (kK ((3,.i 0)::kBW)) ?_
   refine Goes.ret ?_
   simp only[Option.some.injEq,Prod.mk.injEq]at h
   obtain⟨rfl,rfl,rfl,rfl,rfl⟩:=h
   exact(gh2 [.ptr 0 0,.i 0,.i 0] (Sub.norm [] [some 0,some 1,some 2] (by rw[hB];rfl) rfl (.keep (.tupleL (rc ((kg.pz1 rfl)) (rc (.same nI) (rc (.same nI) rn)))) .nil) (.kb rfl (.cells (rc (.gslice rfl) (rc (.hs rfl) rn))) (.ks (.ks .nil)))))
  ·try dsimp only at h
   obtain rfl:=si h
   exact hret
def qaw (N:Nat) (a0_:Str):Option ((List qb)×(Option (List StateT))×Bool×Int):=
 (qay N a0_).bind fun r5=>
 (if(!decide (r5.2.2=0))=true then
 some (!decide (r5.2.2=28))
 else
 some false:Option Bool).bind fun b7=>
 if b7=true then
 some (([]:List qb),(none:Option (List StateT)),false,r5.2.2)
 else
 (yB N r5.1).bind fun(l11,o12,ok13,n14,n15)=>
 if(!decide (n15=0))=true then
 some (([]:List qb),(none:Option (List StateT)),false,n15)
 else
 ((match ok13 with
 |false=>
 none
 |true=>
 some ()):Option Unit).bind fun _=>
 some (l11,o12,true,0)
theorem qf6 (N:Nat) (a0_:Str) {l1:List qb} {o2:Option (List StateT)} {ok3:Bool} {n4:Int} (h:qaw N a0_=some (l1,o2,ok3,n4)):qg Tryz.prog (.fn 49) [.str a0_] [] (.tuple [pz ok3 0 0,.i n4]) (kA l1 o2 []):=by
 unfold qaw at h
 refine Goes.fnH Tryz.func49 rfl rfl (m:=36) rfl (rs:=[.tmp 2,.tmp 3]) rfl (l:=(kAJ a0_ [])) rfl ?_
 intro B hB
 refine sh fol (kAJ a0_ []) ?_
 obtain⟨r5,e_r5,h⟩:=bnd h
 refine sq (gr fol [1] ((4,vl qa r5.1)::(kBu r5.2.2)) (ac (cv (qf1 N a0_ e_r5)) az) ?_)
 refine sq ?_
 refine sq ?_
 obtain⟨b7,g_v8,h⟩:=bnd h
 refine Goes.cut (s':=(ofG 36 [(4,vl qa r5.1),(6,.i r5.2.2),(20,.bool b7)],[])) ?_ ?_
 ·rcases wyB g_v8 with⟨c6,g_v8⟩|⟨c6,g_v8⟩
  ·obtain rfl:=si g_v8
   exact tr fol [2] [(4,vl qa r5.1),(6,.i r5.2.2),(20,.bool (!decide (r5.2.2=28)))] (ac (gw c6) az)
  ·obtain rfl:=si g_v8
   exact tr fol [2] [(4,vl qa r5.1),(6,.i r5.2.2),(20,.bool false)] (ac (gw c6) az)
 refine ihB h (fun c9 h=>?_) (fun c9 h=>?_)
 ·refine sh fol [(2,.nilptr),(3,.i r5.2.2)] ?_
  refine Goes.ret ?_
  simp only[Option.some.injEq,Prod.mk.injEq]at h
  obtain⟨rfl,rfl,rfl,rfl⟩:=h
  exact(gh2 [.nilptr,.i r5.2.2] (Sub.norm [] [none,none,none] (by rw[hB];rfl) rfl (.keep (.tupleL (rc (kg.pz0) (rc (.same nI) rn))) .nil) (.fresh (.fresh (.fresh .nil)))))
 ·refine Goes.skip ?_
  obtain⟨⟨l11,o12,ok13,n14,n15⟩,e_r10,h⟩:=bnd h
  try dsimp only at h
  refine sq (gq fol [1] [(6,.i n15),(7,pz ok13 0 0)] (kA l11 o12 []) (ac (hs (.callH 80 [vl qa r5.1] [] [] (.tuple [pz ok13 0 0,.i n14,.i n15]) (kA l11 o12 [])) (qZ [] [some 0,some 1,some 2] (qe2 N r5.1 e_r10) .nil rfl rfl (.new rfl rfl (.cells (rc (.gslice rfl) (rc (.hs rfl) rn))) rfl (.new rfl rfl (.same fa) rfl (.new rfl rfl (.same fa) rfl .nil))) (rc (.same (qo qa _)) rn) (.tupleL (rc ((kg.pz rfl)) (rc (.same nI) (rc (.same nI) rn)))) rfl)) az) ?_)
  refine sq ?_
  refine sh fol [(6,.i n15),(7,pz ok13 0 0),(29,.bool (!decide (n15=0)))] ?_
  refine ihB h (fun c16 h=>?_) (fun c16 h=>?_)
  ·refine sh fol [(2,.nilptr),(3,.i n15)] ?_
   refine Goes.ret ?_
   simp only[Option.some.injEq,Prod.mk.injEq]at h
   obtain⟨rfl,rfl,rfl,rfl⟩:=h
   exact(gh2 [.nilptr,.i n15] (Sub.norm [] [none,none,none] (by rw[hB];rfl) rfl (.keep (.tupleL (rc (kg.pz0) (rc (.same nI) rn))) .nil) (.fresh (.fresh (.fresh .nil)))))
  ·refine Goes.skip ?_
   refine sq ?_
   obtain⟨⟨⟩,g_v17,h⟩:=bnd h
   refine Goes.cut (s':=(ofG 36 [(2,.ptr 3 0),(3,.i 0)],(kA l11 o12 [.cells [.gslice 1 l11.length 5,hsl 2 3 o12]]))) ?_ ?_
   ·rcases ok13 with _|_
    ·try dsimp only at g_v17
     cases g_v17
    ·try dsimp only at g_v17
     simp only[Option.some.injEq,Prod.mk.injEq]at g_v17
     obtain⟨⟩:=g_v17
     exact ql.rg fol [(2,.ptr 3 0),(3,.i 0)] (kA l11 o12 [.cells [.gslice 1 l11.length 5,hsl 2 3 o12]])
   refine Goes.ret ?_
   simp only[Option.some.injEq,Prod.mk.injEq]at h
   obtain⟨rfl,rfl,rfl,rfl⟩:=h
   exact(gh2 [.ptr 3 0,.i 0] (Sub.norm [] [some 3,some 1,some 2] (by rw[hB];rfl) rfl (.keep (.tupleL (rc ((kg.pz1 rfl)) (rc (.same nI) rn))) .nil) (.kb rfl (.cells (rc (.gslice rfl) (rc (.hs rfl) rn))) (.ks (.ks .nil)))))
def zU (N:Nat) (a0_:List qb) (a1_:Option (List StateT)) (a2_:Str):Option ((List qb)×(Option (List StateT))×Str×Int):=
 (yS N a2_).bind fun r5=>
 (qN (!r5.2) 25).bind fun r6=>
 (qN (decide ((a0_.length:Int)≥1000)) 5).bind fun r7=>
 (zA N ([r6,r7]:List Int)).bind fun r8=>
 if(!decide (r8=0))=true then
 some (a0_,a1_,[],r8)
 else
 (zJ N a0_ a1_ (w64 ((a0_.length:Int)+1)) r5.1.Kind r5.1.Names r5.1.Values r5.1.Text).bind fun(l11,o12,n13)=>
 if(!decide (n13=0))=true then
 some (l11,o12,[],n13)
 else
 (qde (w64 ((a0_.length:Int)+1))).bind fun r15=>
 (jV ([[100,111,110,101],r15]:List Str)).bind fun r16=>
 some (l11,o12,r16,0)
theorem qcw (N:Nat) (a0_:List qb) (a1_:Option (List StateT)) (a2_:Str) {l1:List qb} {o2:Option (List StateT)} {s3:Str} {n4:Int} (h:zU N a0_ a1_ a2_=some (l1,o2,s3,n4)):qg Tryz.prog (.fn 110) [.ptr 0 0,.str a2_] (kA a0_ a1_ []) (.tuple [.str s3,.i n4]) (kAT l1 o2 (kB l1 (kAC o2 []))):=by
 unfold zU at h
 refine Goes.fnH Tryz.func110 rfl rfl (m:=52) rfl (rs:=[.tmp 4,.tmp 5]) rfl (l:=(kAK [(1,.str a2_)])) rfl ?_
 intro B hB
 refine sh fol (kAK [(1,.str a2_)]) ?_
 obtain⟨r5,e_r5,h⟩:=bnd h
 refine sq (gq fol [1] (kAK [(6,.ptr 3 0),(7,.bool r5.2)]) (kA a0_ a1_ (kQ r5.1 [])) (ac (cv (qcy N a2_ e_r5)) az) ?_)
 refine sq ?_
 obtain⟨r6,e_r6,h⟩:=bnd h
 obtain⟨r7,e_r7,h⟩:=bnd h
 obtain⟨r8,e_r8,h⟩:=bnd h
 refine sq (gq fol [2,10,12] (kAK [(6,.ptr 3 0),(8,.i r8)]) (kA a0_ a1_ (kQ r5.1 (kAr r6 r7 []))) (ac (cv (qD (!r5.2) 25 e_r6)) (ac (cv (qD (decide ((a0_.length:Int)≥1000)) 5 e_r7)) (ac (hs (.call 86 [.slice 4 0 2 2 1] (kA a0_ a1_ (kQ r5.1 (kAr r6 r7 []))) [4] [vl encI ([r6,r7]:List Int)] (.i r8)) (yQ (FzL.cons (Fz.lit rfl rfl (FzL.still (AllST.cons tI (AllST.cons tI AllST.nil)))) FzL.nil) (jd N ([r6,r7]:List Int) e_r8) tI rfl)) az))) ?_)
 refine sh fol (kAK [(6,.ptr 3 0),(8,.i r8),(29,.bool (!decide (r8=0)))]) ?_
 refine ihB h (fun c9 h=>?_) (fun c9 h=>?_)
 ·refine sh fol (kBr (kAb r8)) ?_
  refine Goes.ret ?_
  simp only[Option.some.injEq,Prod.mk.injEq]at h
  obtain⟨rfl,rfl,rfl,rfl⟩:=h
  exact(gh2 [.str [],.i r8] (Sub.norm [] [some 0,some 1,some 2,some 1,some 2] (by rw[hB];rfl) rfl (.keep (.tupleL (rc (.same nS) (rc (.same nI) rn))) .nil) (.kb rfl (.cells (rc (.gslice rfl) (rc (.hs rfl) rn))) (.lost (.lost (.ks (.ks .nil)))))))
 ·refine Goes.skip ?_
  refine sg fol (kAK [(6,.ptr 3 0)]) (kA a0_ a1_ (kN (w64 ((a0_.length:Int)+1)) r5.1.Kind r5.1.Names r5.1.Values r5.1.Text (kAr r6 r7 []))) ?_
  refine sq ?_
  obtain⟨⟨l11,o12,n13⟩,e_r10,h⟩:=bnd h
  try dsimp only at h
  refine sq (gq fol [4] ((6,.ptr 3 0)::(kBi n13)) (.cells [.gslice 5 l11.length 5,hsl 6 3 o12]::(kBZ (kN (w64 ((a0_.length:Int)+1)) r5.1.Kind r5.1.Names r5.1.Values r5.1.Text (kAr r6 r7 (kB l11 (kAC o12 [])))))) (ac (hs (.callH 128 [.ptr 0 0,.agg [.i (w64 ((a0_.length:Int)+1)),.str r5.1.Kind,vl encS r5.1.Names,vl encI r5.1.Values,.str r5.1.Text]] (kA a0_ a1_ (kN (w64 ((a0_.length:Int)+1)) r5.1.Kind r5.1.Names r5.1.Values r5.1.Text (kAr r6 r7 []))) [0,1,2] (.i n13) (.cells [.gslice 5 l11.length 5,hsl 6 3 o12]::(kBZ (kN (w64 ((a0_.length:Int)+1)) r5.1.Kind r5.1.Names r5.1.Values r5.1.Text (kAr r6 r7 (kB l11 (kAC o12 []))))))) (qZ [some 0,some 1,some 2] [some 0,none,none,none,none,some 3,some 4] (qbc N a0_ a1_ (w64 ((a0_.length:Int)+1)) r5.1.Kind r5.1.Names r5.1.Values r5.1.Text e_r10) (.kb rfl (.cells (rc (.gslice rfl) (rc (.hs rfl) rn))) (.ks (.ks .nil))) rfl rfl (.back rfl rfl (.cells (rc (.gslice rfl) (rc (.hs rfl) rn))) rfl (.dead (.dead (.old rfl rfl (.old rfl rfl (.new rfl rfl (.same fa) rfl (.new rfl rfl (.same fa) rfl .nil))))))) (rc (.ptr rfl) (rc (.same (qm.agg sn)) rn)) (.same nI) rfl)) az) ?_)
  refine sh fol [(6,.ptr 3 0),(9,.i n13),(45,.bool (!decide (n13=0)))] ?_
  refine ihB h (fun c14 h=>?_) (fun c14 h=>?_)
  ·refine sh fol (kBr (kAb n13)) ?_
   refine Goes.ret ?_
   simp only[Option.some.injEq,Prod.mk.injEq]at h
   obtain⟨rfl,rfl,rfl,rfl⟩:=h
   exact(gh2 [.str [],.i n13] (Sub.norm [] [some 0,some 1,some 2,some 5,some 6] (by rw[hB];rfl) rfl (.keep (.tupleL (rc (.same nS) (rc (.same nI) rn))) .nil) (.kb rfl (.cells (rc (.gslice rfl) (rc (.hs rfl) rn))) (.lost (.lost (.ks (.ks .nil)))))))
  ·refine Goes.skip ?_
   obtain⟨r15,e_r15,h⟩:=bnd h
   obtain⟨r16,e_r16,h⟩:=bnd h
   refine sq (gq fol [2,4] ((4,.str r16)::kA4) (.cells [.gslice 5 l11.length 5,hsl 6 3 o12]::(kBZ (kN (w64 ((a0_.length:Int)+1)) r5.1.Kind r5.1.Names r5.1.Values r5.1.Text (kAr r6 r7 (kB l11 (kAC o12 [.cells [.str [100,111,110,101],.str r15]])))))) (ac (cv (qfJ (w64 ((a0_.length:Int)+1)) e_r15)) (ac (hs (.call 159 [.slice 7 0 2 2 1] (.cells [.gslice 5 l11.length 5,hsl 6 3 o12]::(kBZ (kN (w64 ((a0_.length:Int)+1)) r5.1.Kind r5.1.Names r5.1.Values r5.1.Text (kAr r6 r7 (kB l11 (kAC o12 [.cells [.str [100,111,110,101],.str r15]])))))) [7] [vl encS ([[100,111,110,101],r15]:List Str)] (.str r16)) (yQ (FzL.cons (Fz.lit rfl rfl (FzL.still (AllST.cons tS (AllST.cons tS AllST.nil)))) FzL.nil) (qao ([[100,111,110,101],r15]:List Str) e_r16) tS rfl)) az)) ?_)
   refine Goes.ret ?_
   simp only[Option.some.injEq,Prod.mk.injEq]at h
   obtain⟨rfl,rfl,rfl,rfl⟩:=h
   exact(gh2 [.str r16,.i 0] (Sub.norm [] [some 0,some 1,some 2,some 5,some 6] (by rw[hB];rfl) rfl (.keep (.tupleL (rc (.same nS) (rc (.same nI) rn))) .nil) (.kb rfl (.cells (rc (.gslice rfl) (rc (.hs rfl) rn))) (.lost (.lost (.ks (.ks .nil)))))))
def zT (N:Nat) (a0_:List qb) (a1_:Option (List StateT)) (a2_:List Str):Option ((Option (List StateT))×Str×Int):=
 (qB a0_ a1_).bind fun(o5,n6,l7)=>
 (idx a2_ 0).bind fun x8=>
 (zY N (⟨n6,l7⟩:yD) x8).bind fun r9=>
 if(!r9.2)=true then
 some (o5,[],10)
 else
 (idx l7 r9.1).bind fun x11=>
 ((zo N ([x11.Born,x11.Last,x11.Uses,x11.Used,x11.Limit,x11.Until]:List Int)).bind fun r12=>
 (match r12 with
 |[]=>
 none
 |x13::xs14=>
 (app 16 ([x11.Batch]:List Str) (x13::xs14)).bind fun l15=>
 some l15):Option (List Str)).bind fun l16=>
 ((if x11.Gone=true then
 some [103,111,110,101]
 else
 some [107,101,112,116]:Option Str)).bind fun s18=>
 (app 16 l16 [s18]).bind fun l21=>
 (jV l21).bind fun r22=>
 some (o5,r22,0)
theorem qcm (N:Nat) (a0_:List qb) (a1_:Option (List StateT)) (a2_:List Str) {o1:Option (List StateT)} {s2:Str} {n3:Int} (h:zT N a0_ a1_ a2_=some (o1,s2,n3)):qg Tryz.prog (.fn 161) [.ptr 0 0,vl encS a2_] (kA a0_ a1_ []) (.tuple [.str s2,.i n3]) (kA a0_ o1 []):=by
 unfold zT at h
 refine Goes.fnH Tryz.func161 rfl rfl (m:=56) rfl (rs:=[.tmp 4,.tmp 5]) rfl (l:=(kAK (kA8 a2_ []))) rfl ?_
 intro B hB
 refine sh fol (kAK (kA8 a2_ [])) ?_
 obtain⟨⟨o5,n6,l7⟩,e_r4,h⟩:=bnd h
 try dsimp only at h
 refine sq (gq fol [3] (kA8 a2_ [(6,.ptr 3 0)]) (kA a0_ o5 (kE n6 l7 [])) (ac (hs (.callH 81 [.ptr 0 0] (kA a0_ a1_ []) [0,1,2] (.agg (kAx n6 l7)) (kA a0_ o5 [])) (qZ [some 0,some 1,some 2] [some 0,some 1,some 2] (jL a0_ a1_ e_r4) (.kb rfl (.cells (rc (.gslice rfl) (rc (.hs rfl) rn))) (.ks (.ks .nil))) rfl rfl (.back rfl rfl (.cells (rc (.gslice rfl) (rc (.hs rfl) rn))) rfl (.back rfl rfl (.same fa) rfl (.back rfl rfl (.same fa) rfl .nil))) (rc (.ptr rfl) rn) (.same (qm.agg sn)) rfl)) az) ?_)
 obtain⟨x8,e_x8,h⟩:=bnd h
 obtain⟨r9,e_r9,h⟩:=bnd h
 refine sq (gr fol [2,3,4] ((6,.ptr 3 0)::(7,.i r9.1)::(kBU r9.2)) (ac (iv zi encS e_x8) (ac (lv 0 ce9 encS e_x8 rfl) (ac (cv (xC N (⟨n6,l7⟩:yD) x8 e_r9)) az))) ?_)
 refine sq ?_
 refine sh fol [(6,.ptr 3 0),(7,.i r9.1),(25,.bool (!r9.2))] ?_
 refine ihB h (fun c10 h=>?_) (fun c10 h=>?_)
 ·refine sh fol (kBr [(5,.i 10)]) ?_
  refine Goes.ret ?_
  simp only[Option.some.injEq,Prod.mk.injEq]at h
  obtain⟨rfl,rfl,rfl⟩:=h
  exact(gh2 [.str [],.i 10] (Sub.norm [] [some 0,some 1,some 2] (by rw[hB];rfl) rfl (.keep (.tupleL (rc (.same nS) (rc (.same nI) rn))) .nil) (.kb rfl (.cells (rc (.gslice rfl) (rc (.hs rfl) rn))) (.ks (.ks .nil)))))
 ·refine Goes.skip ?_
  obtain⟨x11,e_x11,h⟩:=bnd h
  refine sq (gq fol [3,4] [(9,.ptr 4 0)] (kA a0_ o5 (kE n6 l7 (kAw x11 []))) (ac (iv qcx qd e_x11) (ac (la qlk qd e_x11) az)) ?_)
  refine sq ?_
  obtain⟨l16,g_v17,h⟩:=bnd h
  refine Goes.cutS (s':=(ofG 56 [(9,.ptr 3 0),(10,.oslice 4 l16.length 1)],(kA a0_ o5 (kAw x11 (kH l16 []))))) ?_ ?_
  ·obtain⟨r12,e_r12,g_v17⟩:=bnd g_v17
   rcases r12 with _|⟨x13,xs14⟩
   ·try dsimp only at g_v17
    cases g_v17
   ·try dsimp only at g_v17
    obtain⟨l15,e_l15,g_v17⟩:=bnd g_v17
    obtain rfl:=si g_v17
    exact ql.sub (ql.rq fol [16,17] [(9,.ptr 4 0),(10,.oslice 7 l15.length 1)] (kA a0_ o5 (kE n6 l7 (kAw x11 (kAM x11.Batch (.frozen [.i x11.Born,.i x11.Last,.i x11.Uses,.i x11.Used,.i x11.Limit,.i x11.Until]::(kH l15 [])))))) (ac (hs (.callF 185 [.slice 6 0 6 6 1,.func (.func 186) [] [],.func (.func 160) [] []] (kA a0_ o5 (kE n6 l7 (kAw x11 (kAM x11.Batch (kBR x11.Born x11.Last x11.Uses x11.Used x11.Limit x11.Until []))))) [6] [vl encI ([x11.Born,x11.Last,x11.Uses,x11.Used,x11.Limit,x11.Until]:List Int),.func (.func 186) [] [],.func (.func 160) [] []] (vl encS (x13::xs14))) (qhW (FzL.cons (Fz.lit rfl rfl (FzL.still (AllST.cons tI (AllST.cons tI (AllST.cons tI (AllST.cons tI (AllST.cons tI (AllST.cons tI AllST.nil)))))))) (FzL.cons (Fz.func FzL.nil FzL.nil) (FzL.cons (Fz.func FzL.nil FzL.nil) FzL.nil))) (qat N ([x11.Born,x11.Last,x11.Uses,x11.Used,x11.Limit,x11.Until]:List Int) e_r12) (qF encS _ (nl rfl)))) (ac (hs (.run [5] (qz Tryz.prog [23,23] (.slice 5 0 1 1 1) (vl encS (x13::xs14))) (kA a0_ o5 (kE n6 l7 (kAw x11 (kAM x11.Batch [.frozen [.i x11.Born,.i x11.Last,.i x11.Uses,.i x11.Used,.i x11.Limit,.i x11.Until]])))) (.oslice 7 l15.length 1) (kA a0_ o5 (kE n6 l7 (kAw x11 (kAM x11.Batch (.frozen [.i x11.Born,.i x11.Last,.i x11.Uses,.i x11.Used,.i x11.Limit,.i x11.Until]::(kH l15 [])))))) false) (qpb zi (E:=encS) (l:=([x11.Batch]:List Str)) rfl rfl rfl rfl (Nat.succ_pos _) e_l15 rfl)) az))) (Sub.norm [] [some 0,some 1,some 2,some 4,some 7] (by rw[hB];rfl) rfl (.kp (.keep (.oslice rfl) .nil)) (.kb rfl (.cells (rc (.gslice rfl) (rc (.hs rfl) rn))) (.ks (.ks (.kb rfl (.same sn) (.ks .nil))))))
  intro _ hsub
  refine Goes.sub hsub ?_
  refine sh fol [(9,.ptr 3 0),(10,.oslice 4 l16.length 1),(11,.str [107,101,112,116])] ?_
  refine sq ?_
  refine sh fol [(10,.oslice 4 l16.length 1),(11,.str [107,101,112,116]),(50,.bool x11.Gone)] ?_
  obtain⟨r19,g19,h⟩:=bnd h
  refine Goes.imp (Q:=fun x s'=>(x= .normal∧ ∃s18,s18=r19∧Sub s' (ofG 56 [(10,.oslice 3 l16.length 1),(11,.str s18)],(kA a0_ o5 (kH l16 []))))) ?_ ?_
  ·refine ihB g19 (fun c20 g19=>?_) (fun c20 g19=>?_)
   ·refine gh fol [(10,.oslice 4 l16.length 1),(11,.str [103,111,110,101])] ?_
    obtain rfl:=si g19
    exact⟨rfl,_,rfl,(Sub.norm [] [some 0,some 1,some 2,some 4] (by rw[hB];rfl) rfl (.keep (.oslice rfl) (.keep (.same nS) .nil)) (.kb rfl (.cells (rc (.gslice rfl) (rc (.hs rfl) rn))) (.ks (.ks (.ks .nil)))))⟩
   ·refine Goes.skip ?_
    obtain rfl:=si g19
    exact⟨rfl,_,rfl,(Sub.norm [] [some 0,some 1,some 2,some 4] (by rw[hB];rfl) rfl (.keep (.oslice rfl) (.keep (.same nS) .nil)) (.kb rfl (.cells (rc (.gslice rfl) (rc (.hs rfl) rn))) (.ks (.ks (.ks .nil)))))⟩
  rintro x s' ⟨rfl,s18,rfl,hsub⟩
  refine Goes.sub hsub ?_
  obtain⟨l21,e_l21,h⟩:=bnd h
  obtain⟨r22,e_r22,h⟩:=bnd h
  refine sq (gq fol [3,4] ((4,.str r22)::kA4) (kA a0_ o5 (.dead::(kAM s18 (kH l21 [])))) (ac (hs (.run [3,4] (qz Tryz.prog [23,23] (.oslice 3 l16.length 1) (.slice 4 0 1 1 1)) (kA a0_ o5 (kH l16 (kAM s18 []))) (.oslice 5 l21.length 1) (kA a0_ o5 (.dead::(kAM s18 (kH l21 [])))) true) (ko zi (E:=encS) rfl (xm (E:=encS) (ys:=[s18]) rfl rfl rfl rfl) (qdv (E:=encS) (l:=l16) rfl rfl rfl e_l21 rfl))) (ac (hs (.call 159 [.oslice 5 l21.length 1] (kA a0_ o5 (.dead::(kAM s18 (kH l21 [])))) [5] [vl encS l21] (.str r22)) (yQ (FzL.cons (Fz.os (E:=encS) rfl rfl (nl rfl)) FzL.nil) (qao l21 e_r22) tS rfl)) az)) ?_)
  refine Goes.ret ?_
  simp only[Option.some.injEq,Prod.mk.injEq]at h
  obtain⟨rfl,rfl,rfl⟩:=h
  exact(gh2 [.str r22,.i 0] (Sub.norm [] [some 0,some 1,some 2] (by rw[hB];rfl) rfl (.keep (.tupleL (rc (.same nS) (rc (.same nI) rn))) .nil) (.kb rfl (.cells (rc (.gslice rfl) (rc (.hs rfl) rn))) (.ks (.ks .nil)))))
def qI (a0_:List qc):Nat→(List Str)→Int→Option (List Str)
 |0,_,_=>none
 |K+1,l1,n2=>
  if n2<(a0_.length:Int)then
  (((idx a0_ n2).bind fun x8=>
  (vD x8).bind fun r9=>
  if r9=true then
  (vX x8).bind fun r11=>
  (app 16 l1 [r11]).bind fun l12=>
  some l12
  else
  some l1:Option (List Str))).bind fun l6=>
  qI a0_ K l6 (w64 (n2+1))
  else
  some l1
def jJ (N:Nat) (a0_:List qc):Option (List Str):=
 (qI a0_ N ([]:List Str) 0).bind fun l3=>
 some l3
theorem qct (N:Nat) (a0_:List qc) {res:List Str} (h:jJ N a0_=some res):qg Tryz.prog (.fn 97) [vl qd a0_,.func (.func 196) [] [],.func (.func 100) [] []] [] (vl encS res) []:=by
 unfold jJ at h
 refine Goes.fnW Tryz.func97 rfl rfl (m:=27) rfl (rs:=[.tmp 6]) rfl (l:=(kBN a0_ [(1,.func (.func 196) [] []),(2,.func (.func 100) [] [])])) rfl ?_
 refine sh fol (kBN a0_ [(1,.func (.func 196) [] []),(2,.func (.func 100) [] [])]) ?_
 refine sh fol (kBN a0_ [(1,.func (.func 196) [] []),(2,.func (.func 100) [] []),(7,.nilslice)]) ?_
 refine sq ?_
 refine sh fol ((1,.func (.func 196) [] [])::(2,.func (.func 100) [] [])::(7,.nilslice)::(kAu a0_ (kA1 (a0_.length:Int)))) ?_
 refine Goes.block ?_
 obtain⟨r4,g4,h⟩:=bnd h
 refine Goes.imp (Q:=fun x s'=>(x= .exit 0∧ ∃l3,l3=r4∧Sub s' (ofG 27 (kAO l3 []),(kH l3 [])))) ?_ ?_
 ·refine Goes.sub (s':=(ofG 27 ((1,.func (.func 196) [] [])::(2,.func (.func 100) [] [])::(7,.gslice 0 ([]:List Str).length 1)::(kAu a0_ (kA1 (a0_.length:Int)))),(kAm []))) (Sub.norm [] [none] rfl rfl (.keep (.same (qm.func sn sn)) (.keep (.same (qm.func sn sn)) (.keep .nil (.keep (.same (qo qd _)) (.keep (.same nI) (.keep (.same nI) .nil)))))) (.fresh .nil)) ?_
  refine Goes.loopS (fun M s=> ∃(l1:List Str) (n2:Int),s=(ofG 27 ((1,.func (.func 196) [] [])::(2,.func (.func 100) [] [])::(kAO l1 (kAu a0_ (kR (a0_.length:Int) n2)))),(kH l1 []))∧qI a0_ M l1 n2=some r4) ?_ (m:=N) ⟨_,_,rfl,g4⟩
  rintro M s ⟨l1,n2,rfl,g4⟩
  cases M with
  |zero=>simp only[qI]at g4;cases g4
  |succ M=>
   rw[qI]at g4
   refine sh fol ((1,.func (.func 196) [] [])::(2,.func (.func 100) [] [])::(kAO l1 (kAu a0_ (kBY (a0_.length:Int) n2 (kB0 (decide (n2<(a0_.length:Int)))))))) ?_
   refine sq ?_
   refine ihD g4 (fun c5 g4=>?_) (fun c5 g4=>?_)
   ·refine Goes.skip ?_
    refine sq ?_
    obtain⟨r7,g7,g4⟩:=bnd g4
    refine Goes.imp (Q:=fun x s'=>(x= .normal∧ ∃l6,l6=r7∧Sub s' (ofG 27 ((1,.func (.func 196) [] [])::(2,.func (.func 100) [] [])::(kAO l6 (kAu a0_ (kR (a0_.length:Int) n2)))),(kH l6 [])))) ?_ ?_
    ·refine Goes.block ?_
     obtain⟨x8,e_x8,g7⟩:=bnd g7
     refine sq (gq fol [0,1] ((1,.func (.func 196) [] [])::(2,.func (.func 100) [] [])::(kAO l1 ((9,.ptr 1 0)::(kAu a0_ (kR (a0_.length:Int) n2))))) (kH l1 (kAw x8 [])) (ac (iv qcx qd e_x8) (ac (la qlk qd e_x8) az)) ?_)
     obtain⟨r9,e_r9,g7⟩:=bnd g7
     refine sq (gr fol [2] ((1,.func (.func 196) [] [])::(2,.func (.func 100) [] [])::(kAO l1 ((9,.ptr 1 0)::(kAu a0_ (kBY (a0_.length:Int) n2 [(18,.bool r9)]))))) (ac (cv (qcc x8 e_r9)) az) ?_)
     refine ihB g7 (fun c10 g7=>?_) (fun c10 g7=>?_)
     ·obtain⟨r11,e_r11,g7⟩:=bnd g7
      obtain⟨l12,e_l12,g7⟩:=bnd g7
      refine gq fol [3,5] ((1,.func (.func 196) [] [])::(2,.func (.func 100) [] [])::(7,.gslice 3 l12.length 1)::(kAu a0_ (kR (a0_.length:Int) n2))) (.dead::(kAw x8 (kAM r11 (kH l12 [])))) (ac (cv (qbU x8 e_r11)) (ac (hs (.run [0,2] (qz Tryz.prog [23,23] (.gslice 0 l1.length 1) (.slice 2 0 1 1 1)) (kH l1 (kAw x8 (kAM r11 []))) (.gslice 3 l12.length 1) (.dead::(kAw x8 (kAM r11 (kH l12 [])))) true) (ko zi (E:=encS) rfl (xm (E:=encS) (ys:=[r11]) rfl rfl rfl rfl) (qcF (E:=encS) (l:=l1) rfl rfl rfl e_l12 rfl))) az)) ?_
      obtain rfl:=si g7
      exact⟨rfl,_,rfl,(Sub.norm [] [some 3] rfl rfl (.keep (.same (qm.func sn sn)) (.keep (.same (qm.func sn sn)) (.keep (.gslice rfl) (.keep (.same (qo qd _)) (.keep (.same nI) (.keep (.same nI) .nil)))))) (.ks .nil))⟩
     ·refine Goes.skip ?_
      obtain rfl:=si g7
      exact⟨rfl,_,rfl,(Sub.norm [] [some 0] rfl rfl (.keep (.same (qm.func sn sn)) (.keep (.same (qm.func sn sn)) (.keep (.gslice rfl) (.drop (.keep (.same (qo qd _)) (.keep (.same nI) (.keep (.same nI) .nil))))))) (.ks .nil))⟩
    rintro x s' ⟨rfl,l6,rfl,hsub⟩
    refine Goes.sub hsub ?_
    refine gh fol ((1,.func (.func 196) [] [])::(2,.func (.func 100) [] [])::(kAO l6 (kAu a0_ (kR (a0_.length:Int) (w64 (n2+1)))))) ?_
    exact⟨M,(ofG 27 ((1,.func (.func 196) [] [])::(2,.func (.func 100) [] [])::(kAO l6 (kAu a0_ (kR (a0_.length:Int) (w64 (n2+1)))))),(kH l6 [])),Nat.lt_succ_self _,(Sub.refl _),_,_,rfl,g4⟩
   ·refine Goes.exit ?_
    obtain rfl:=si g4
    exact⟨rfl,_,rfl,(Sub.keep [7] rfl rfl)⟩
 rintro x s' ⟨rfl,l3,rfl,hsub⟩
 refine Goes.sub hsub ?_
 refine sh fol [(6,.gslice 0 l3.length 1)] ?_
 refine Goes.ret ?_
 obtain rfl:=si h
 exact(gw2 [.gslice 0 l3.length 1] (FzW.fz (Fz.gs (E:=encS) rfl rfl (nl rfl))))
def zH (N:Nat) (a0_:List qb) (a1_:Option (List StateT)) (a2_:List Str):Option ((Option (List StateT))×Str):=
 (qB a0_ a1_).bind fun(o4,n5,l6)=>
 (jJ N l6).bind fun r7=>
 (jV r7).bind fun r8=>
 some (o4,r8)
theorem qce (N:Nat) (a0_:List qb) (a1_:Option (List StateT)) (a2_:List Str) {o1:Option (List StateT)} {s2:Str} (h:zH N a0_ a1_ a2_=some (o1,s2)):qg Tryz.prog (.fn 162) [.ptr 0 0,vl encS a2_] (kA a0_ a1_ []) (.tuple [.str s2,.i 0]) (kA a0_ o1 []):=by
 unfold zH at h
 refine Goes.fnH Tryz.func162 rfl rfl (m:=13) rfl (rs:=[.tmp 4,.tmp 5]) rfl (l:=(kAK (kA8 a2_ []))) rfl ?_
 intro B hB
 refine sh fol (kAK []) ?_
 obtain⟨⟨o4,n5,l6⟩,e_r3,h⟩:=bnd h
 try dsimp only at h
 obtain⟨r7,e_r7,h⟩:=bnd h
 obtain⟨r8,e_r8,h⟩:=bnd h
 refine sq (gq fol [3,5,6] ((4,.str r8)::kA4) (kA a0_ o4 []) (ac (hs (.callH 81 [.ptr 0 0] (kA a0_ a1_ []) [0,1,2] (.agg (kAx n5 l6)) (kA a0_ o4 [])) (qZ [some 0,some 1,some 2] [some 0,some 1,some 2] (jL a0_ a1_ e_r3) (.kb rfl (.cells (rc (.gslice rfl) (rc (.hs rfl) rn))) (.ks (.ks .nil))) rfl rfl (.back rfl rfl (.cells (rc (.gslice rfl) (rc (.hs rfl) rn))) rfl (.back rfl rfl (.same fa) rfl (.back rfl rfl (.same fa) rfl .nil))) (rc (.ptr rfl) rn) (.same (qm.agg sn)) rfl)) (ac (hs (.call 97 [vl qd l6,.func (.func 196) [] [],.func (.func 100) [] []] [] [] [vl qd l6,.func (.func 196) [] [],.func (.func 100) [] []] (vl encS r7)) (qjO (FzL.cons (Fz.still (qF qd _ (nl rfl))) (FzL.cons (Fz.func FzL.nil FzL.nil) (FzL.cons (Fz.func FzL.nil FzL.nil) FzL.nil))) (qct N l6 e_r7) (qF encS _ (nl rfl)))) (ac (cv (qao r7 e_r8)) az))) ?_)
 refine Goes.ret ?_
 simp only[Option.some.injEq,Prod.mk.injEq]at h
 obtain⟨rfl,rfl⟩:=h
 exact(gh2 [.str r8,.i 0] (qb1.refl _ _))
def vJ (a0_:qc) (a1_:Int):Option Bool:=
 (qaH a0_ a1_).bind fun r1=>
 some r1
theorem qca (a0_:qc) (a1_:Int) {res:Bool} (h:vJ a0_ a1_=some res):qg Tryz.prog (.fn 197) [.agg (cS a0_),.fptr [.i a1_] 0] [] (.bool res) []:=by
 unfold vJ at h
 refine Goes.fnW Tryz.func197 rfl rfl (m:=7) rfl (rs:=[.tmp 3]) rfl (l:=[(0,.agg (cS a0_)),(1,.fptr [.i a1_] 0)]) rfl ?_
 refine sg fol ((1,.fptr [.i a1_] 0)::(kK [])) (kAw a0_ []) ?_
 obtain⟨r1,e_r1,h⟩:=bnd h
 refine sq (gr fol [2] [(3,.bool r1)] (ac (cv (qe4 a0_ a1_ e_r1)) az) ?_)
 refine Goes.ret ?_
 obtain rfl:=si h
 exact(gw2 [.bool r1] (FzW.still tB))
def qJ (a0_:List qc) (a1_:Int):Nat→(List Str)→Int→Option (List Str)
 |0,_,_=>none
 |K+1,l1,n2=>
  if n2<(a0_.length:Int)then
  (((idx a0_ n2).bind fun x8=>
  (vJ x8 a1_).bind fun r9=>
  if r9=true then
  (vX x8).bind fun r11=>
  (app 16 l1 [r11]).bind fun l12=>
  some l12
  else
  some l1:Option (List Str))).bind fun l6=>
  qJ a0_ a1_ K l6 (w64 (n2+1))
  else
  some l1
def jF (N:Nat) (a0_:List qc) (a1_:Int):Option (List Str):=
 (qJ a0_ a1_ N ([]:List Str) 0).bind fun l3=>
 some l3
theorem qcA (N:Nat) (a0_:List qc) (a1_:Int) {res:List Str} (h:jF N a0_ a1_=some res):qg Tryz.prog (.fn 97) [vl qd a0_,.func (.func 197) [] [.fptr [.i a1_] 0],.func (.func 100) [] []] [] (vl encS res) []:=by
 unfold jF at h
 refine Goes.fnW Tryz.func97 rfl rfl (m:=27) rfl (rs:=[.tmp 6]) rfl (l:=(kBN a0_ [(1,.func (.func 197) [] [.fptr [.i a1_] 0]),(2,.func (.func 100) [] [])])) rfl ?_
 refine sh fol (kBN a0_ [(1,.func (.func 197) [] [.fptr [.i a1_] 0]),(2,.func (.func 100) [] [])]) ?_
 refine sh fol (kBN a0_ [(1,.func (.func 197) [] [.fptr [.i a1_] 0]),(2,.func (.func 100) [] []),(7,.nilslice)]) ?_
 refine sq ?_
 refine sh fol ((1,.func (.func 197) [] [.fptr [.i a1_] 0])::(2,.func (.func 100) [] [])::(7,.nilslice)::(kAu a0_ (kA1 (a0_.length:Int)))) ?_
 refine Goes.block ?_
 obtain⟨r4,g4,h⟩:=bnd h
 refine Goes.imp (Q:=fun x s'=>(x= .exit 0∧ ∃l3,l3=r4∧Sub s' (ofG 27 (kAO l3 []),(kH l3 [])))) ?_ ?_
 ·refine Goes.sub (s':=(ofG 27 ((1,.func (.func 197) [] [.fptr [.i a1_] 0])::(2,.func (.func 100) [] [])::(7,.gslice 0 ([]:List Str).length 1)::(kAu a0_ (kA1 (a0_.length:Int)))),(kAm []))) (Sub.norm [] [none] rfl rfl (.keep (.same (qm.func sn sn)) (.keep (.same (qm.func sn sn)) (.keep .nil (.keep (.same (qo qd _)) (.keep (.same nI) (.keep (.same nI) .nil)))))) (.fresh .nil)) ?_
  refine Goes.loopS (fun M s=> ∃(l1:List Str) (n2:Int),s=(ofG 27 ((1,.func (.func 197) [] [.fptr [.i a1_] 0])::(2,.func (.func 100) [] [])::(kAO l1 (kAu a0_ (kR (a0_.length:Int) n2)))),(kH l1 []))∧qJ a0_ a1_ M l1 n2=some r4) ?_ (m:=N) ⟨_,_,rfl,g4⟩
  rintro M s ⟨l1,n2,rfl,g4⟩
  cases M with
  |zero=>simp only[qJ]at g4;cases g4
  |succ M=>
   rw[qJ]at g4
   refine sh fol ((1,.func (.func 197) [] [.fptr [.i a1_] 0])::(2,.func (.func 100) [] [])::(kAO l1 (kAu a0_ (kBY (a0_.length:Int) n2 (kB0 (decide (n2<(a0_.length:Int)))))))) ?_
   refine sq ?_
   refine ihD g4 (fun c5 g4=>?_) (fun c5 g4=>?_)
   ·refine Goes.skip ?_
    refine sq ?_
    obtain⟨r7,g7,g4⟩:=bnd g4
    refine Goes.imp (Q:=fun x s'=>(x= .normal∧ ∃l6,l6=r7∧Sub s' (ofG 27 ((1,.func (.func 197) [] [.fptr [.i a1_] 0])::(2,.func (.func 100) [] [])::(kAO l6 (kAu a0_ (kR (a0_.length:Int) n2)))),(kH l6 [])))) ?_ ?_
    ·refine Goes.block ?_
     obtain⟨x8,e_x8,g7⟩:=bnd g7
     refine sq (gq fol [0,1] ((1,.func (.func 197) [] [.fptr [.i a1_] 0])::(2,.func (.func 100) [] [])::(kAO l1 ((9,.ptr 1 0)::(kAu a0_ (kR (a0_.length:Int) n2))))) (kH l1 (kAw x8 [])) (ac (iv qcx qd e_x8) (ac (la qlk qd e_x8) az)) ?_)
     obtain⟨r9,e_r9,g7⟩:=bnd g7
     refine sq (gr fol [2] ((1,.func (.func 197) [] [.fptr [.i a1_] 0])::(2,.func (.func 100) [] [])::(kAO l1 ((9,.ptr 1 0)::(kAu a0_ (kBY (a0_.length:Int) n2 [(18,.bool r9)]))))) (ac (hs (.call 197 [.agg (cS x8),.fptr [.i a1_] 0] [] [] [.agg (cS x8),.fptr [.i a1_] 0] (.bool r9)) (qjO (FzL.cons (Fz.still (Still.agg (AllST.cons tS (AllST.cons tS (AllST.cons tI (AllST.cons tI (AllST.cons tI (AllST.cons tI (AllST.cons tI (AllST.cons tI (AllST.cons tB AllST.nil))))))))))) (FzL.cons (Fz.still (Still.fptr (AllST.cons tI AllST.nil))) FzL.nil)) (qca x8 a1_ e_r9) tB)) az) ?_)
     refine ihB g7 (fun c10 g7=>?_) (fun c10 g7=>?_)
     ·obtain⟨r11,e_r11,g7⟩:=bnd g7
      obtain⟨l12,e_l12,g7⟩:=bnd g7
      refine gq fol [3,5] ((1,.func (.func 197) [] [.fptr [.i a1_] 0])::(2,.func (.func 100) [] [])::(7,.gslice 3 l12.length 1)::(kAu a0_ (kR (a0_.length:Int) n2))) (.dead::(kAw x8 (kAM r11 (kH l12 [])))) (ac (cv (qbU x8 e_r11)) (ac (hs (.run [0,2] (qz Tryz.prog [23,23] (.gslice 0 l1.length 1) (.slice 2 0 1 1 1)) (kH l1 (kAw x8 (kAM r11 []))) (.gslice 3 l12.length 1) (.dead::(kAw x8 (kAM r11 (kH l12 [])))) true) (ko zi (E:=encS) rfl (xm (E:=encS) (ys:=[r11]) rfl rfl rfl rfl) (qcF (E:=encS) (l:=l1) rfl rfl rfl e_l12 rfl))) az)) ?_
      obtain rfl:=si g7
      exact⟨rfl,_,rfl,(Sub.norm [] [some 3] rfl rfl (.keep (.same (qm.func sn sn)) (.keep (.same (qm.func sn sn)) (.keep (.gslice rfl) (.keep (.same (qo qd _)) (.keep (.same nI) (.keep (.same nI) .nil)))))) (.ks .nil))⟩
     ·refine Goes.skip ?_
      obtain rfl:=si g7
      exact⟨rfl,_,rfl,(Sub.norm [] [some 0] rfl rfl (.keep (.same (qm.func sn sn)) (.keep (.same (qm.func sn sn)) (.keep (.gslice rfl) (.drop (.keep (.same (qo qd _)) (.keep (.same nI) (.keep (.same nI) .nil))))))) (.ks .nil))⟩
    rintro x s' ⟨rfl,l6,rfl,hsub⟩
    refine Goes.sub hsub ?_
    refine gh fol ((1,.func (.func 197) [] [.fptr [.i a1_] 0])::(2,.func (.func 100) [] [])::(kAO l6 (kAu a0_ (kR (a0_.length:Int) (w64 (n2+1)))))) ?_
    exact⟨M,(ofG 27 ((1,.func (.func 197) [] [.fptr [.i a1_] 0])::(2,.func (.func 100) [] [])::(kAO l6 (kAu a0_ (kR (a0_.length:Int) (w64 (n2+1)))))),(kH l6 [])),Nat.lt_succ_self _,(Sub.refl _),_,_,rfl,g4⟩
   ·refine Goes.exit ?_
    obtain rfl:=si g4
    exact⟨rfl,_,rfl,(Sub.keep [7] rfl rfl)⟩
 rintro x s' ⟨rfl,l3,rfl,hsub⟩
 refine Goes.sub hsub ?_
 refine sh fol [(6,.gslice 0 l3.length 1)] ?_
 refine Goes.ret ?_
 obtain rfl:=si h
 exact(gw2 [.gslice 0 l3.length 1] (FzW.fz (Fz.gs (E:=encS) rfl rfl (nl rfl))))
def jv (N:Nat) (a0_:List qb) (a1_:Option (List StateT)) (a2_:List Str):Option ((Option (List StateT))×Str×Int):=
 (idx a2_ 0).bind fun x4=>
 (yK x4).bind fun r5=>
 (qN (!r5.2) 25).bind fun r6=>
 (yl r5.1).bind fun r7=>
 (zA N ([r6,r7]:List Int)).bind fun r8=>
 if(!decide (r8=0))=true then
 some (a1_,[],r8)
 else
 (qB a0_ a1_).bind fun(o11,n12,l13)=>
 (jF N l13 r5.1).bind fun r14=>
 (jV r14).bind fun r15=>
 some (o11,r15,0)
theorem qc8 (N:Nat) (a0_:List qb) (a1_:Option (List StateT)) (a2_:List Str) {o1:Option (List StateT)} {s2:Str} {n3:Int} (h:jv N a0_ a1_ a2_=some (o1,s2,n3)):qg Tryz.prog (.fn 163) [.ptr 0 0,vl encS a2_] (kA a0_ a1_ []) (.tuple [.str s2,.i n3]) (kA a0_ o1 []):=by
 unfold jv at h
 refine Goes.fnH Tryz.func163 rfl rfl (m:=34) rfl (rs:=[.tmp 4,.tmp 5]) rfl (l:=(kAK (kA8 a2_ []))) rfl ?_
 intro B hB
 refine sh fol (kAK (kA8 a2_ [])) ?_
 obtain⟨x4,e_x4,h⟩:=bnd h
 obtain⟨r5,e_r5,h⟩:=bnd h
 refine sq (gq fol [1,2,3] (kAK [(6,.ptr 3 0),(7,.bool r5.2)]) (kA a0_ a1_ (kAH r5.1 [])) (ac (iv zi encS e_x4) (ac (lv 0 ce9 encS e_x4 rfl) (ac (cv (qbi x4 e_r5)) az))) ?_)
 refine sq ?_
 obtain⟨r6,e_r6,h⟩:=bnd h
 obtain⟨r7,e_r7,h⟩:=bnd h
 obtain⟨r8,e_r8,h⟩:=bnd h
 refine sq (gq fol [2,4,6] (kAK [(6,.ptr 3 0),(8,.i r8)]) (kA a0_ a1_ (kAH r5.1 (kAr r6 r7 []))) (ac (cv (qD (!r5.2) 25 e_r6)) (ac (cv (qa5 r5.1 e_r7)) (ac (hs (.call 86 [.slice 4 0 2 2 1] (kA a0_ a1_ (kAH r5.1 (kAr r6 r7 []))) [4] [vl encI ([r6,r7]:List Int)] (.i r8)) (yQ (FzL.cons (Fz.lit rfl rfl (FzL.still (AllST.cons tI (AllST.cons tI AllST.nil)))) FzL.nil) (jd N ([r6,r7]:List Int) e_r8) tI rfl)) az))) ?_)
 refine sh fol (kAK [(6,.ptr 3 0),(8,.i r8),(24,.bool (!decide (r8=0)))]) ?_
 refine ihB h (fun c9 h=>?_) (fun c9 h=>?_)
 ·refine sh fol (kBr (kAb r8)) ?_
  refine Goes.ret ?_
  simp only[Option.some.injEq,Prod.mk.injEq]at h
  obtain⟨rfl,rfl,rfl⟩:=h
  exact(gh2 [.str [],.i r8] (Sub.norm [] [some 0,some 1,some 2] (by rw[hB];rfl) rfl (.keep (.tupleL (rc (.same nS) (rc (.same nI) rn))) .nil) (.kb rfl (.cells (rc (.gslice rfl) (rc (.hs rfl) rn))) (.ks (.ks .nil)))))
 ·refine Goes.skip ?_
  obtain⟨⟨o11,n12,l13⟩,e_r10,h⟩:=bnd h
  try dsimp only at h
  obtain⟨r14,e_r14,h⟩:=bnd h
  obtain⟨r15,e_r15,h⟩:=bnd h
  refine sq (gq fol [3,6,7] ((4,.str r15)::kA4) (kA a0_ o11 (.frozen [.i r5.1]::(kAr r6 r7 []))) (ac (hs (.callH 81 [.ptr 0 0] (kA a0_ a1_ (kAH r5.1 (kAr r6 r7 []))) [0,1,2] (.agg (kAx n12 l13)) (kA a0_ o11 (kAH r5.1 (kAr r6 r7 [])))) (qZ [some 0,some 1,some 2] [some 0,some 1,some 2,none,none] (jL a0_ a1_ e_r10) (.kb rfl (.cells (rc (.gslice rfl) (rc (.hs rfl) rn))) (.ks (.ks .nil))) rfl rfl (.back rfl rfl (.cells (rc (.gslice rfl) (rc (.hs rfl) rn))) rfl (.back rfl rfl (.same fa) rfl (.back rfl rfl (.same fa) rfl (.old rfl rfl (.old rfl rfl .nil))))) (rc (.ptr rfl) rn) (.same (qm.agg sn)) rfl)) (ac (hs (.callF 97 [vl qd l13,.func (.func 197) [] [.ptr 3 0],.func (.func 100) [] []] (kA a0_ o11 (kAH r5.1 (kAr r6 r7 []))) [3] [vl qd l13,.func (.func 197) [] [.fptr [.i r5.1] 0],.func (.func 100) [] []] (vl encS r14)) (qhW (FzL.cons (Fz.still (qF qd _ (nl rfl))) (FzL.cons (Fz.func FzL.nil (FzL.cons (Fz.ptr rfl rfl (FzL.cons (Fz.still tI) FzL.nil)) FzL.nil)) (FzL.cons (Fz.func FzL.nil FzL.nil) FzL.nil))) (qcA N l13 r5.1 e_r14) (qF encS _ (nl rfl)))) (ac (cv (qao r14 e_r15)) az))) ?_)
  refine Goes.sub (show Sub (ofG 34 ((4,.str r15)::kA4),(kA a0_ o11 (.frozen [.i r5.1]::(kAr r6 r7 [])))) (ofG 34 ((4,.str r15)::kA4),(kA a0_ o11 []))from(Sub.norm [] [some 0,some 1,some 2] (by rw[hB];rfl) rfl (.keep (.same nS) (.keep (.same nI) .nil)) (.kb rfl (.cells (rc (.gslice rfl) (rc (.hs rfl) rn))) (.ks (.ks .nil))))) ?_
  refine Goes.ret ?_
  simp only[Option.some.injEq,Prod.mk.injEq]at h
  obtain⟨rfl,rfl,rfl⟩:=h
  exact(gh2 [.str r15,.i 0] (qb1.refl _ _))
end Go.Av
