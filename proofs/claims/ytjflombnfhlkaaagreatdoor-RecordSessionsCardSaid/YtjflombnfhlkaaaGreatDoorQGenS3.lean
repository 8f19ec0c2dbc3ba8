/-
  Walks of functions: what each computes, as a plain function.
-/
import Derived.Test.YtjflombnfhlkaaaGreatDoorQGenS2
noncomputable section
namespace Go.Av
open Go.Proofs Go.RowKit
set_option linter.unusedSectionVars false
set_option linter.unusedVariables false
set_option linter.unusedSimpArgs false
set_option maxRecDepth 100000
def qac (N:Nat) (s_:Str):Option (qb×Bool):=
 (strings_Cut s_ [32]).bind fun r1=>
 (yK r1.1).bind fun r2=>
 (yS N r1.2.1).bind fun r3=>
 (if r2.2=true then
 if r3.2=true then
 (vT N (⟨r2.1,r3.1.Kind,r3.1.Names,r3.1.Values,r3.1.Text⟩:qb)).bind fun r6=>
 some (decide (r6=0))
 else
 some false
 else
 some false:Option Bool).bind fun b7=>
 some ((⟨r2.1,r3.1.Kind,r3.1.Names,r3.1.Values,r3.1.Text⟩:qb),b7)
theorem qfm (N:Nat) (s_:Str) {res:qb×Bool} (h:qac N s_=some res):qg Tryz.prog (.fn 156) [.str s_] [] (.tuple [.agg (cE res.1),.bool res.2]) []:=by
 unfold qac at h
 refine Goes.fnW Tryz.func156 rfl rfl (m:=39) rfl (rs:=[.cell 2 26,.tmp 3]) rfl (l:=(kAJ s_ [])) rfl ?_
 refine sg fol (kAJ s_ (kK [])) (kG []) ?_
 obtain⟨r1,e_r1,h⟩:=bnd h
 refine sq (gr fol [1] (kK [(4,.str r1.1),(5,.str r1.2.1)]) (ac (cv (qhC s_ [32] e_r1)) az) ?_)
 obtain⟨r2,e_r2,h⟩:=bnd h
 refine sq (gr fol [1] (kK ((5,.str r1.2.1)::(7,.i r2.1)::(kBU r2.2))) (ac (cv (qbi r1.1 e_r2)) az) ?_)
 obtain⟨r3,e_r3,h⟩:=bnd h
 refine sq (gq fol [1] (kK ((7,.i r2.1)::(8,.bool r2.2)::(9,.ptr 1 0)::(kBg r3.2))) (kG (kQ r3.1 [])) (ac (cv (qcy N r1.2.1 e_r3)) az) ?_)
 refine sg fol (kK ((8,.bool r2.2)::(9,.ptr 1 0)::(kBg r3.2))) (kG (kN r2.1 r3.1.Kind r3.1.Names r3.1.Values r3.1.Text [])) ?_
 refine sq ?_
 obtain⟨b7,g_v8,h⟩:=bnd h
 refine Goes.cut (s':=(ofG 39 (kK [(3,.bool b7)]),(kN r2.1 r3.1.Kind r3.1.Names r3.1.Values r3.1.Text (kN r2.1 r3.1.Kind r3.1.Names r3.1.Values r3.1.Text [])))) ?_ ?_
 ·rcases wyB g_v8 with⟨c4,g_v8⟩|⟨c4,g_v8⟩
  ·rcases wyB g_v8 with⟨c5,g_v8⟩|⟨c5,g_v8⟩
   ·obtain⟨r6,e_r6,g_v8⟩:=bnd g_v8
    obtain rfl:=si g_v8
    exact ql.rq fol [2,5,7] (kK [(3,.bool (decide (r6=0)))]) (kN r2.1 r3.1.Kind r3.1.Names r3.1.Values r3.1.Text (kN r2.1 r3.1.Kind r3.1.Names r3.1.Values r3.1.Text [])) (ac (gw c4) (ac (gw c5) (ac (cv (qbV N (⟨r2.1,r3.1.Kind,r3.1.Names,r3.1.Values,r3.1.Text⟩:qb) e_r6)) az)))
   ·obtain rfl:=si g_v8
    exact ql.rq fol [2,5] (kK kBP) (kN r2.1 r3.1.Kind r3.1.Names r3.1.Values r3.1.Text (kN r2.1 r3.1.Kind r3.1.Names r3.1.Values r3.1.Text [])) (ac (gw c4) (ac (gw c5) az))
  ·obtain rfl:=si g_v8
   exact ql.rq fol [2] (kK kBP) (kN r2.1 r3.1.Kind r3.1.Names r3.1.Values r3.1.Text (kN r2.1 r3.1.Kind r3.1.Names r3.1.Values r3.1.Text [])) (ac (gw c4) az)
 refine Goes.ret ?_
 obtain rfl:=si h
 exact(gw2 [.agg [.i r2.1,.str r3.1.Kind,vl encS r3.1.Names,vl encI r3.1.Values,.str r3.1.Text],.bool b7] (FzW.tuple (qh.cons (FzW.agg (qh.cons (FzW.still tI) (qh.cons (FzW.still tS) (qh.cons (FzW.still (qF encS _ (nl rfl))) (qh.cons (FzW.still (qF encI _ (nl rfl))) (qh.cons (FzW.still tS) qh.nil)))))) (qh.cons (FzW.still tB) qh.nil))))
def zO (N:Nat) (s_:Str) (number:Int):Option (qb×Int):=
 (if(w64 ((s_.length:Int)-7))<1 then
 some (w64 ((s_.length:Int)-7),true)
 else
 (idx s_ (w64 ((w64 ((s_.length:Int)-7))-1))).bind fun c2=>
 if(!decide ((c2.toNat:Int)=59))=true then
 some (w64 ((s_.length:Int)-7),true)
 else
 (cut s_ (w64 ((s_.length:Int)-7)) (s_.length:Int)).bind fun s4=>
 (yU s4).bind fun r5=>
 some (w64 ((s_.length:Int)-7),!r5):Option (Int×Bool)).bind fun(n6,b7)=>
 if b7=true then
 some ((⟨0,[],[],[],[]⟩:qb),25)
 else
 (cut s_ 0 (w64 (n6-1))).bind fun s10=>
 (cut s_ n6 (s_.length:Int)).bind fun s11=>
 (qbB N s10).bind fun r12=>
 if(!(s11==r12))=true then
 some ((⟨0,[],[],[],[]⟩:qb),27)
 else
 (qac N s10).bind fun r14=>
 (qN (!r14.2) 25).bind fun r15=>
 (qN (!decide (r14.1.Number=number)) 11).bind fun r16=>
 (zA N ([r15,r16]:List Int)).bind fun r17=>
 some (r14.1,r17)
theorem yY (N:Nat) (s_:Str) (number:Int) {res:qb×Int} (h:zO N s_ number=some res):qg Tryz.prog (.fn 105) [.str s_,.i number] [] (.tuple [.agg (cE res.1),.i res.2]) []:=by
 unfold zO at h
 refine Goes.fnW Tryz.func105 rfl rfl (m:=57) rfl (rs:=[.cell 4 26,.tmp 5]) rfl (l:=(kAJ s_ [(1,.i number)])) rfl ?_
 refine sg fol (kAJ s_ ((1,.i number)::(kA3 []))) (kG []) ?_
 refine sh fol (kAJ s_ ((1,.i number)::(kA3 (kBu (w64 ((s_.length:Int)-7)))))) ?_
 refine sq ?_
 refine sq ?_
 obtain⟨⟨n6,b7⟩,g_v8,h⟩:=bnd h
 refine Goes.cut (s':=(ofG 57 (kAJ s_ ((1,.i number)::(kA3 [(6,.i n6),(28,.bool b7)]))),(kG []))) ?_ ?_
 ·rcases wyD g_v8 with⟨c1,g_v8⟩|⟨c1,g_v8⟩
  ·simp only[Option.some.injEq,Prod.mk.injEq]at g_v8
   obtain⟨rfl,rfl⟩:=g_v8
   exact tr fol [2] (kAJ s_ ((1,.i number)::(kA3 [(6,.i (w64 ((s_.length:Int)-7))),(28,.bool true)]))) (ac (gw c1) az)
  ·obtain⟨c2,e_c2,g_v8⟩:=bnd g_v8
   rcases wyB g_v8 with⟨c3,g_v8⟩|⟨c3,g_v8⟩
   ·simp only[Option.some.injEq,Prod.mk.injEq]at g_v8
    obtain⟨rfl,rfl⟩:=g_v8
    exact tr fol [2,6,9] (kAJ s_ ((1,.i number)::(kA3 [(6,.i (w64 ((s_.length:Int)-7))),(28,.bool true)]))) (ac (gw c1) (ac (hs (.done (.opt (vQ Tryz.prog 9 (.str s_) (.i (w64 ((w64 ((s_.length:Int)-7))-1))))) (.int .u8 (c2.toNat:Int))) (xz st9 e_c2)) (ac (gw c3) az)))
   ·obtain⟨s4,e_s4,g_v8⟩:=bnd g_v8
    obtain⟨r5,e_r5,g_v8⟩:=bnd g_v8
    simp only[Option.some.injEq,Prod.mk.injEq]at g_v8
    obtain⟨rfl,rfl⟩:=g_v8
    exact tr fol [2,6,9,12,13] (kAJ s_ ((1,.i number)::(kA3 [(6,.i (w64 ((s_.length:Int)-7))),(28,.bool (!r5))]))) (ac (gw c1) (ac (hs (.done (.opt (vQ Tryz.prog 9 (.str s_) (.i (w64 ((w64 ((s_.length:Int)-7))-1))))) (.int .u8 (c2.toNat:Int))) (xz st9 e_c2)) (ac (gw c3) (ac (hs (.done (.opt (qG Tryz.prog 9 (.str s_) (some (.i (w64 ((s_.length:Int)-7)))) none none)) (.str s4)) (yR st9 (some (w64 ((s_.length:Int)-7))) none e_s4)) (ac (cv (xS s4 e_r5)) az)))))
 try dsimp only at h
 refine ihB h (fun c9 h=>?_) (fun c9 h=>?_)
 ·refine sh fol (kA3 [(5,.i 25)]) ?_
  refine Goes.ret ?_
  obtain rfl:=si h
  exact(gw2 (kAA [.i 25]) (FzW.tuple (qh.cons (FzW.agg (qh.cons (FzW.still tI) (qh.cons (FzW.still tS) (qh.cons (FzW.nilv (E:=encS)) (qh.cons (FzW.nilv (E:=encI)) (qh.cons (FzW.still tS) qh.nil)))))) (qh.cons (FzW.still tI) qh.nil))))
 ·refine Goes.skip ?_
  obtain⟨s10,e_s10,h⟩:=bnd h
  refine sq (gr fol [3] (kAJ s_ ((1,.i number)::(kA3 [(6,.i n6),(7,.str s10)]))) (ac (hs (.done (.opt (qG Tryz.prog 9 (.str s_) none (some (.i (w64 (n6-1)))) none)) (.str s10)) (yR st9 none (some (w64 (n6-1))) e_s10)) az) ?_)
  refine sq ?_
  obtain⟨s11,e_s11,h⟩:=bnd h
  obtain⟨r12,e_r12,h⟩:=bnd h
  refine sq (gr fol [2,4] ((1,.i number)::(kA3 [(7,.str s10),(39,.bool (!(s11==r12)))])) (ac (hs (.done (.opt (qG Tryz.prog 9 (.str s_) (some (.i n6)) none none)) (.str s11)) (yR st9 (some n6) none e_s11)) (ac (cv (qfj N s10 e_r12)) az)) ?_)
  refine ihB h (fun c13 h=>?_) (fun c13 h=>?_)
  ·refine sh fol (kA3 [(5,.i 27)]) ?_
   refine Goes.ret ?_
   obtain rfl:=si h
   exact(gw2 (kAA [.i 27]) (FzW.tuple (qh.cons (FzW.agg (qh.cons (FzW.still tI) (qh.cons (FzW.still tS) (qh.cons (FzW.nilv (E:=encS)) (qh.cons (FzW.nilv (E:=encI)) (qh.cons (FzW.still tS) qh.nil)))))) (qh.cons (FzW.still tI) qh.nil))))
  ·refine Goes.skip ?_
   obtain⟨r14,e_r14,h⟩:=bnd h
   refine sq (gq fol [1] ((1,.i number)::(kA3 (kBk (kBt r14.2)))) (kG (kQ r14.1 [])) (ac (cv (qfm N s10 e_r14)) az) ?_)
   obtain⟨r15,e_r15,h⟩:=bnd h
   obtain⟨r16,e_r16,h⟩:=bnd h
   obtain⟨r17,e_r17,h⟩:=bnd h
   refine sq (gq fol [3,8,10] (kA3 (kAb r17)) (kQ r14.1 (kQ r14.1 (kAr r15 r16 []))) (ac (cv (qD (!r14.2) 25 e_r15)) (ac (cv (qD (!decide (r14.1.Number=number)) 11 e_r16)) (ac (hs (.call 86 [.slice 2 0 2 2 1] (kG (kQ r14.1 (kAr r15 r16 []))) [2] [vl encI ([r15,r16]:List Int)] (.i r17)) (yQ (FzL.cons (Fz.lit rfl rfl (FzL.still (AllST.cons tI (AllST.cons tI AllST.nil)))) FzL.nil) (jd N ([r15,r16]:List Int) e_r17) tI rfl)) az))) ?_)
   refine Goes.ret ?_
   obtain rfl:=si h
   exact(gw2 [.agg (cE r14.1),.i r17] (FzW.tuple (qh.cons (FzW.agg (qh.cons (FzW.still tI) (qh.cons (FzW.still tS) (qh.cons (FzW.still (qF encS _ (nl rfl))) (qh.cons (FzW.still (qF encI _ (nl rfl))) (qh.cons (FzW.still tS) qh.nil)))))) (qh.cons (FzW.still tI) qh.nil))))
def qaX (a0_:Str):Option Unit:=
 some ()
theorem qfz (a0_:Str) (h:qaX a0_=some ()):qg Tryz.prog (.fn 103) [.str a0_] [] (.func (.func 152) [] [.ptr 0 0]) (kAM a0_ []):=by
 unfold qaX at h
 refine Goes.fnH Tryz.func103 rfl rfl (m:=4) rfl (rs:=[.tmp 2]) rfl (l:=(kAJ a0_ [])) rfl ?_
 intro B hB
 refine sg fol (kV []) (kAM a0_ []) ?_
 refine sh fol [(2,.func (.func 152) [] [.ptr 0 0])] ?_
 refine Goes.ret ?_
 exact(gh2 [.func (.func 152) [] [.ptr 0 0]] (qb1.refl _ _))
def qlP (N:Nat) (a0_:Int) (a1_:Int) (a2_:Int) (a3_:Int) (a4_:Str):Option ((List qb)⊕Int):=
 (strings_CutSuffix a4_ [10]).bind fun r3=>
 if(!r3.2)=true then
 some (.inr 28)
 else
 (zO N r3.1 (w64 (0+1))).bind fun r5=>
 if(!decide (r5.2=0))=true then
 some (.inr r5.2)
 else
 some (.inl ([r5.1]:List qb))
def zP (N:Nat) (a0_:Int) (a1_:Int) (a2_:Option (List qb)) (a3_:Int) (a4_:Int) (a5_:Str):Option ((List qb)⊕(Int×(Option (List qb)))):=
 (strings_CutSuffix a5_ [10]).bind fun r4=>
 if(!r4.2)=true then
 ((match a2_ with
 |none=>
 some (none:Option (List qb))
 |some l6=>
 some (some l6)):Option (Option (List qb))).bind fun o7=>
 some (.inr (28,o7))
 else
 ((match a2_ with
 |none=>
 (zO N r4.1 (w64 (0+1))).bind fun r10=>
 some ((none:Option (List qb)),r10.1.Number,r10.1.Kind,r10.1.Names,r10.1.Values,r10.1.Text,r10.2)
 |some l9=>
 (zO N r4.1 (w64 ((l9.length:Int)+1))).bind fun r11=>
 some ((some l9),r11.1.Number,r11.1.Kind,r11.1.Names,r11.1.Values,r11.1.Text,r11.2)):Option ((Option (List qb))×Int×Str×(List Str)×(List Int)×Str×Int)).bind fun(o12,n13,s14,l15,l16,s17,n18)=>
 if(!decide (n18=0))=true then
 ((match o12 with
 |none=>
 some (none:Option (List qb))
 |some l21=>
 some (some l21)):Option (Option (List qb))).bind fun o22=>
 some (.inr (n18,o22))
 else
 ((match o12 with
 |none=>
 some ([(⟨n13,s14,l15,l16,s17⟩:qb)]:List qb)
 |some l24=>
 (app 88 l24 [(⟨n13,s14,l15,l16,s17⟩:qb)]).bind fun l25=>
 some l25):Option (List qb)).bind fun l26=>
 some (.inl l26)
theorem qbu (N:Nat) (a0_:Int) (a1_:Int) (a2_:Option (List qb)) (a3_:Int) (a4_:Int) (a5_:Str) {l1:List qb} (h:zP N a0_ a1_ a2_ a3_ a4_ a5_=some (.inl l1)):qg Tryz.prog (.rd 0) [.i a4_,.str a5_] (.loop .ready none (ofG 49 [(2,.ptr 1 0),(3,.ptr 2 0),(4,.ptr 3 0),(5,.ptr 4 0),(6,.ptr 6 0)]) qf.xp qf.x1 qf.x2::(kI a0_ a1_ (kAE a2_ a3_ []))) (.bool true) (.loop .ready none (ofG 49 [(2,.ptr 1 0),(3,.ptr 2 0),(4,.ptr 3 0),(5,.ptr 4 0),(6,.ptr 6 0)]) qf.xp qf.x1 qf.x2::(kI a0_ a1_ (.cells [.oslice 7 l1.length 5]:: .dead::(kAH a4_ (kB l1 []))))):=by
 unfold zP at h
 refine Goes.round (m:=49) (l0:=(kD [(5,.ptr 4 0),(6,.ptr 6 0)])) (l:=(kD [(5,.ptr 4 0),(6,.ptr 6 0),(18,.i a4_),(19,.str a5_)])) rfl rfl rfl ?_
 intro B hB
 refine Goes.subQ ?_
 refine sh fol (kD (kAG a4_ [(19,.str a5_)])) ?_
 refine gh fol (kD (kAG a4_ [(8,.str a5_)])) ?_
 refine⟨_,Sub.refl _,?_⟩
 refine⟨_,_,_,_,_,rfl,?_⟩
 refine Goes.subQ ?_
 refine Goes.block ?_
 obtain⟨r4,e_r4,h⟩:=bnd h
 refine sq (gr fol [1] (kD (kAG a4_ ((9,.str r4.1)::(kBg r4.2)))) (ac (cv (qbW a5_ [10] e_r4)) az) ?_)
 refine sq ?_
 refine sh fol (kD (kAG a4_ [(9,.str r4.1),(26,.bool (!r4.2))])) ?_
 refine ihB h (fun c5 h=>?_) (fun c5 h=>?_)
 ·refine sq ?_
  obtain⟨o7,g_v8,h⟩:=bnd h
  refine Goes.cutS (s':=(ofG 49 (kD []),(.loop .busy none (ofG 49 [(2,.ptr 1 0),(3,.ptr 2 0),(4,.ptr 3 0),(5,.ptr 4 0),(6,.ptr 6 0)]) qf.xp qf.x1 qf.x2:: .cells [hsl 5 5 o7]::(kAH a3_ (.cells [.i 28]::(kAE o7 a3_ [])))))) ?_ ?_
  ·rcases a2_ with _|l6
   ·try dsimp only at g_v8
    obtain rfl:=si g_v8
    exact ql.sub (ql.rg fol (kD []) (.loop .busy none (ofG 49 [(2,.ptr 1 0),(3,.ptr 2 0),(4,.ptr 3 0),(5,.ptr 4 0),(6,.ptr 6 0)]) qf.xp qf.x1 qf.x2::(kAZ (kAH a3_ (.cells [.i 28]::(kAZ (.cells ((hof (none:Option (List qb))).flatMap qa.c)::(kAH a3_ [])))))))) (Sub.norm [] [some 0,some 1,some 2,some 3,some 4,some 5,some 6] (by rw[hB];rfl) rfl (.kp (.kp (.kp .nil))) (.kb rfl (.loop rfl (.kp (.kp (.kp (.kp (.kp .nil)))))) (.kb rfl (.cells (rc .hs0 rn)) (.kb rfl (.same sn) (.kb rfl (.same sn) (.kb rfl (.cells (rc .hs0 rn)) (.ks (.kb rfl (.same sn) .nil))))))))
   ·try dsimp only at g_v8
    obtain rfl:=si g_v8
    exact ql.sub (ql.rg fol (kD []) (.loop .busy none (ofG 49 [(2,.ptr 1 0),(3,.ptr 2 0),(4,.ptr 3 0),(5,.ptr 4 0),(6,.ptr 6 0)]) qf.xp qf.x1 qf.x2::(kAd l6 (kAH a3_ (.cells [.i 28]::(kAd l6 (kB l6 (kAH a3_ [])))))))) (Sub.norm [] [some 0,some 1,some 2,some 3,some 4,some 5,some 6] (by rw[hB];rfl) rfl (.kp (.kp (.kp .nil))) (.kb rfl (.loop rfl (.kp (.kp (.kp (.kp (.kp .nil)))))) (.kb rfl (.cells (rc ((kg.hs1 rfl)) rn)) (.kb rfl (.same sn) (.kb rfl (.same sn) (.kb rfl (.cells (rc ((kg.hs1 rfl)) rn)) (.ks (.kb rfl (.same sn) .nil))))))))
  intro _ hsub
  refine Goes.sub hsub ?_
  refine Goes.ret ?_
  cases h
 ·refine Goes.skip ?_
  refine sq ?_
  obtain⟨⟨o12,n13,s14,l15,l16,s17,n18⟩,g_v19,h⟩:=bnd h
  refine Goes.cutS (s':=(ofG 49 (kD (kAG a4_ (kBe n18 []))),(.loop .busy none (ofG 49 [(2,.ptr 1 0),(3,.ptr 2 0),(4,.ptr 3 0),(5,.ptr 4 0),(6,.ptr 6 0)]) qf.xp qf.x1 qf.x2::(kI a0_ a1_ (kAE o12 a3_ (kBX n13 s14 l15 l16 s17 [])))))) ?_ ?_
  ·rcases a2_ with _|l9
   ·try dsimp only at g_v19
    obtain⟨r10,e_r10,g_v19⟩:=bnd g_v19
    simp only[Option.some.injEq,Prod.mk.injEq]at g_v19
    obtain⟨rfl,rfl,rfl,rfl,rfl,rfl,rfl⟩:=g_v19
    exact ql.sub (ql.rq fol [4] (kD (kAG a4_ (kBe r10.2 []))) (.loop .busy none (ofG 49 [(2,.ptr 1 0),(3,.ptr 2 0),(4,.ptr 3 0),(5,.ptr 4 0),(6,.ptr 6 0)]) qf.xp qf.x1 qf.x2::(kI a0_ a1_ (kAZ (.cells ((hof (none:Option (List qb))).flatMap qa.c)::(kAH a3_ (kQ r10.1 [])))))) (ac (cv (yY N r4.1 (w64 (0+1)) e_r10)) az)) (Sub.norm [] [some 0,some 1,some 2,some 3,some 4,some 5,some 6,some 7] (by rw[hB];rfl) rfl (.kp (.kp (.kp (.kp (.kp (.keep (.same nI) (.kp (.keep (.same nI) .nil)))))))) (.kb rfl (.loop rfl (.kp (.kp (.kp (.kp (.kp .nil)))))) (.kb rfl (.same sn) (.kb rfl (.same sn) (.kb rfl (.same sn) (.kb rfl (.cells (rc .hs0 rn)) (.ks (.kb rfl (.same sn) (.kb rfl (.same sn) .nil)))))))))
   ·try dsimp only at g_v19
    obtain⟨r11,e_r11,g_v19⟩:=bnd g_v19
    simp only[Option.some.injEq,Prod.mk.injEq]at g_v19
    obtain⟨rfl,rfl,rfl,rfl,rfl,rfl,rfl⟩:=g_v19
    exact ql.sub (ql.rq fol [4] (kD (kAG a4_ (kBe r11.2 []))) (.loop .busy none (ofG 49 [(2,.ptr 1 0),(3,.ptr 2 0),(4,.ptr 3 0),(5,.ptr 4 0),(6,.ptr 6 0)]) qf.xp qf.x1 qf.x2::(kI a0_ a1_ (kAd l9 (kB l9 (kAH a3_ (kQ r11.1 [])))))) (ac (cv (yY N r4.1 (w64 ((l9.length:Int)+1)) e_r11)) az)) (Sub.norm [] [some 0,some 1,some 2,some 3,some 4,some 5,some 6,some 7] (by rw[hB];rfl) rfl (.kp (.kp (.kp (.kp (.kp (.keep (.same nI) (.kp (.keep (.same nI) .nil)))))))) (.kb rfl (.loop rfl (.kp (.kp (.kp (.kp (.kp .nil)))))) (.kb rfl (.same sn) (.kb rfl (.same sn) (.kb rfl (.same sn) (.kb rfl (.cells (rc ((kg.hs1 rfl)) rn)) (.ks (.kb rfl (.same sn) (.kb rfl (.same sn) .nil)))))))))
  intro _ hsub
  try dsimp only at h
  refine Goes.sub hsub ?_
  refine sq ?_
  refine sh fol (kD (kAG a4_ (kBe n18 [(38,.bool (!decide (n18=0)))]))) ?_
  refine ihB h (fun c20 h=>?_) (fun c20 h=>?_)
  ·refine sq ?_
   obtain⟨o22,g_v23,h⟩:=bnd h
   refine Goes.cutS (s':=(ofG 49 (kD []),(.loop .busy none (ofG 49 [(2,.ptr 1 0),(3,.ptr 2 0),(4,.ptr 3 0),(5,.ptr 4 0),(6,.ptr 6 0)]) qf.xp qf.x1 qf.x2:: .cells [hsl 5 5 o22]::(kAH a3_ (kAH n18 (kAE o22 a3_ [])))))) ?_ ?_
   ·rcases o12 with _|l21
    ·try dsimp only at g_v23
     obtain rfl:=si g_v23
     exact ql.sub (ql.rg fol (kD []) (.loop .busy none (ofG 49 [(2,.ptr 1 0),(3,.ptr 2 0),(4,.ptr 3 0),(5,.ptr 4 0),(6,.ptr 6 0)]) qf.xp qf.x1 qf.x2::(kI a3_ n18 (kAZ (.cells ((hof (none:Option (List qb))).flatMap qa.c)::(kAH a3_ (kBX n13 s14 l15 l16 s17 []))))))) (Sub.norm [] [some 0,some 1,some 2,some 3,some 4,some 5,some 6] (by rw[hB];rfl) rfl (.kp (.kp (.kp .nil))) (.kb rfl (.loop rfl (.kp (.kp (.kp (.kp (.kp .nil)))))) (.kb rfl (.cells (rc .hs0 rn)) (.kb rfl (.same sn) (.kb rfl (.same sn) (.kb rfl (.cells (rc .hs0 rn)) (.ks (.kb rfl (.same sn) .nil))))))))
    ·try dsimp only at g_v23
     obtain rfl:=si g_v23
     exact ql.sub (ql.rg fol (kD []) (.loop .busy none (ofG 49 [(2,.ptr 1 0),(3,.ptr 2 0),(4,.ptr 3 0),(5,.ptr 4 0),(6,.ptr 6 0)]) qf.xp qf.x1 qf.x2::(kAd l21 (kAH a3_ (kAH n18 (kAd l21 (kB l21 (kAH a3_ (kBX n13 s14 l15 l16 s17 []))))))))) (Sub.norm [] [some 0,some 1,some 2,some 3,some 4,some 5,some 6] (by rw[hB];rfl) rfl (.kp (.kp (.kp .nil))) (.kb rfl (.loop rfl (.kp (.kp (.kp (.kp (.kp .nil)))))) (.kb rfl (.cells (rc ((kg.hs1 rfl)) rn)) (.kb rfl (.same sn) (.kb rfl (.same sn) (.kb rfl (.cells (rc ((kg.hs1 rfl)) rn)) (.ks (.kb rfl (.same sn) .nil))))))))
   intro _ hsub
   refine Goes.sub hsub ?_
   refine Goes.ret ?_
   cases h
  ·refine Goes.skip ?_
   obtain⟨l26,g_v27,h⟩:=bnd h
   refine Goes.cutS (s':=(ofG 49 [],(.loop .busy none (ofG 49 [(2,.ptr 1 0),(3,.ptr 2 0),(4,.ptr 3 0),(5,.ptr 4 0),(6,.ptr 6 0)]) qf.xp qf.x1 qf.x2::(kI a0_ a1_ (.cells [.oslice 7 l26.length 5]:: .dead::(kAH a4_ (kB l26 []))))))) ?_ ?_
   ·rcases o12 with _|l24
    ·try dsimp only at g_v27
     obtain rfl:=si g_v27
     exact ql.sub (ql.rg fol [] (.loop .busy none (ofG 49 [(2,.ptr 1 0),(3,.ptr 2 0),(4,.ptr 3 0),(5,.ptr 4 0),(6,.ptr 6 0)]) qf.xp qf.x1 qf.x2::(kI a0_ a1_ (.cells [.oslice 9 1 5]:: .cells ((hof (none:Option (List qb))).flatMap qa.c)::(kAH a4_ (kAa n13 s14 l15 l16 s17 (kBX n13 s14 l15 l16 s17 []))))))) (Sub.norm [] [some 0,some 1,some 2,some 3,some 4,some 5,some 6,some 9] (by rw[hB];rfl) rfl .nil (.kb rfl (.loop rfl (.kp (.kp (.kp (.kp (.kp .nil)))))) (.kb rfl (.same sn) (.kb rfl (.same sn) (.kb rfl (.same sn) (.kb rfl (.cells (rc ((kg.osliceE rfl rfl)) rn)) (.lost (.kb rfl (.same sn) (.ks .nil)))))))))
    ·try dsimp only at g_v27
     obtain⟨l25,e_l25,g_v27⟩:=bnd g_v27
     obtain rfl:=si g_v27
     exact ql.sub (ql.rq fol [3] [] (.loop .busy none (ofG 49 [(2,.ptr 1 0),(3,.ptr 2 0),(4,.ptr 3 0),(5,.ptr 4 0),(6,.ptr 6 0)]) qf.xp qf.x1 qf.x2::(kI a0_ a1_ (.cells [.oslice 9 l25.length 5]:: .dead::(kAH a4_ (kAa n13 s14 l15 l16 s17 (kB l25 [])))))) (ac (hs (.run [5,8] (qz Tryz.prog [22,22] (.oslice 5 l24.length 5) (.slice 8 0 1 1 5)) (.loop .busy none (ofG 49 [(2,.ptr 1 0),(3,.ptr 2 0),(4,.ptr 3 0),(5,.ptr 4 0),(6,.ptr 6 0)]) qf.xp qf.x1 qf.x2::(kI a0_ a1_ (kAd l24 (kB l24 (kAH a3_ (kAa n13 s14 l15 l16 s17 [])))))) (.oslice 9 l25.length 5) (.loop .busy none (ofG 49 [(2,.ptr 1 0),(3,.ptr 2 0),(4,.ptr 3 0),(5,.ptr 4 0),(6,.ptr 6 0)]) qf.xp qf.x1 qf.x2::(kI a0_ a1_ (kAd l24 (.dead::(kAH a3_ (kAa n13 s14 l15 l16 s17 (kB l25 []))))))) true) (ko jo (E:=qa) rfl (xm (E:=qa) (ys:=[(⟨n13,s14,l15,l16,s17⟩:qb)]) rfl rfl rfl rfl) (qdv (E:=qa) (l:=l24) rfl rfl rfl e_l25 rfl))) az)) (Sub.norm [] [some 0,some 1,some 2,some 3,some 4,some 5,some 6,some 9] (by rw[hB];rfl) rfl .nil (.kb rfl (.loop rfl (.kp (.kp (.kp (.kp (.kp .nil)))))) (.kb rfl (.same sn) (.kb rfl (.same sn) (.kb rfl (.same sn) (.kb rfl (.cells (rc (.oslice rfl) rn)) (.lost (.kb rfl (.same sn) (.ks .nil)))))))))
   intro _ hsub
   cases h
   exact⟨_,hsub,⟨_,_,rfl,(Sub.keep [0] rfl rfl)⟩⟩
theorem qbo (N:Nat) (a0_:Int) (a1_:Int) (a2_:Option (List qb)) (a3_:Int) (a4_:Int) (a5_:Str) {n2:Int} {o3:Option (List qb)} (h:zP N a0_ a1_ a2_ a3_ a4_ a5_=some (.inr (n2,o3))):qg Tryz.prog (.rd 0) [.i a4_,.str a5_] (.loop .ready none (ofG 49 [(2,.ptr 1 0),(3,.ptr 2 0),(4,.ptr 3 0),(5,.ptr 4 0),(6,.ptr 6 0)]) qf.xp qf.x1 qf.x2::(kI a0_ a1_ (kAE a2_ a3_ []))) (.bool false) (.loop .done (some .ret) (ofG 49 [(2,.ptr 1 0),(3,.ptr 2 0),(4,.ptr 3 0),(5,.ptr 4 0),(6,.ptr 6 0)]) qf.xp qf.x1 qf.x2:: .cells [hsl 5 5 o3]::(kAH a3_ (kAH n2 (kAE o3 a3_ [])))):=by
 unfold zP at h
 refine Goes.round (m:=49) (l0:=(kD [(5,.ptr 4 0),(6,.ptr 6 0)])) (l:=(kD [(5,.ptr 4 0),(6,.ptr 6 0),(18,.i a4_),(19,.str a5_)])) rfl rfl rfl ?_
 intro B hB
 refine Goes.subQ ?_
 refine sh fol (kD (kAG a4_ [(19,.str a5_)])) ?_
 refine gh fol (kD (kAG a4_ [(8,.str a5_)])) ?_
 refine⟨_,Sub.refl _,?_⟩
 refine⟨_,_,_,_,_,rfl,?_⟩
 refine Goes.subQ ?_
 refine Goes.block ?_
 obtain⟨r4,e_r4,h⟩:=bnd h
 refine sq (gr fol [1] (kD (kAG a4_ ((9,.str r4.1)::(kBg r4.2)))) (ac (cv (qbW a5_ [10] e_r4)) az) ?_)
 refine sq ?_
 refine sh fol (kD (kAG a4_ [(9,.str r4.1),(26,.bool (!r4.2))])) ?_
 refine ihB h (fun c5 h=>?_) (fun c5 h=>?_)
 ·refine sq ?_
  obtain⟨o7,g_v8,h⟩:=bnd h
  refine Goes.cutS (s':=(ofG 49 (kD []),(.loop .busy none (ofG 49 [(2,.ptr 1 0),(3,.ptr 2 0),(4,.ptr 3 0),(5,.ptr 4 0),(6,.ptr 6 0)]) qf.xp qf.x1 qf.x2:: .cells [hsl 5 5 o7]::(kAH a3_ (.cells [.i 28]::(kAE o7 a3_ [])))))) ?_ ?_
  ·rcases a2_ with _|l6
   ·try dsimp only at g_v8
    obtain rfl:=si g_v8
    exact ql.sub (ql.rg fol (kD []) (.loop .busy none (ofG 49 [(2,.ptr 1 0),(3,.ptr 2 0),(4,.ptr 3 0),(5,.ptr 4 0),(6,.ptr 6 0)]) qf.xp qf.x1 qf.x2::(kAZ (kAH a3_ (.cells [.i 28]::(kAZ (.cells ((hof (none:Option (List qb))).flatMap qa.c)::(kAH a3_ [])))))))) (Sub.norm [] [some 0,some 1,some 2,some 3,some 4,some 5,some 6] (by rw[hB];rfl) rfl (.kp (.kp (.kp .nil))) (.kb rfl (.loop rfl (.kp (.kp (.kp (.kp (.kp .nil)))))) (.kb rfl (.cells (rc .hs0 rn)) (.kb rfl (.same sn) (.kb rfl (.same sn) (.kb rfl (.cells (rc .hs0 rn)) (.ks (.kb rfl (.same sn) .nil))))))))
   ·try dsimp only at g_v8
    obtain rfl:=si g_v8
    exact ql.sub (ql.rg fol (kD []) (.loop .busy none (ofG 49 [(2,.ptr 1 0),(3,.ptr 2 0),(4,.ptr 3 0),(5,.ptr 4 0),(6,.ptr 6 0)]) qf.xp qf.x1 qf.x2::(kAd l6 (kAH a3_ (.cells [.i 28]::(kAd l6 (kB l6 (kAH a3_ [])))))))) (Sub.norm [] [some 0,some 1,some 2,some 3,some 4,some 5,some 6] (by rw[hB];rfl) rfl (.kp (.kp (.kp .nil))) (.kb rfl (.loop rfl (.kp (.kp (.kp (.kp (.kp .nil)))))) (.kb rfl (.cells (rc ((kg.hs1 rfl)) rn)) (.kb rfl (.same sn) (.kb rfl (.same sn) (.kb rfl (.cells (rc ((kg.hs1 rfl)) rn)) (.ks (.kb rfl (.same sn) .nil))))))))
  intro _ hsub
  refine Goes.sub hsub ?_
  refine Goes.ret ?_
  cases h
  exact⟨_,Sub.refl _,⟨_,_,rfl,(qb1.refl _ _)⟩⟩
 ·refine Goes.skip ?_
  refine sq ?_
  obtain⟨⟨o12,n13,s14,l15,l16,s17,n18⟩,g_v19,h⟩:=bnd h
  refine Goes.cutS (s':=(ofG 49 (kD (kAG a4_ (kBe n18 []))),(.loop .busy none (ofG 49 [(2,.ptr 1 0),(3,.ptr 2 0),(4,.ptr 3 0),(5,.ptr 4 0),(6,.ptr 6 0)]) qf.xp qf.x1 qf.x2::(kI a0_ a1_ (kAE o12 a3_ (kBX n13 s14 l15 l16 s17 [])))))) ?_ ?_
  ·rcases a2_ with _|l9
   ·try dsimp only at g_v19
    obtain⟨r10,e_r10,g_v19⟩:=bnd g_v19
    simp only[Option.some.injEq,Prod.mk.injEq]at g_v19
    obtain⟨rfl,rfl,rfl,rfl,rfl,rfl,rfl⟩:=g_v19
    exact ql.sub (ql.rq fol [4] (kD (kAG a4_ (kBe r10.2 []))) (.loop .busy none (ofG 49 [(2,.ptr 1 0),(3,.ptr 2 0),(4,.ptr 3 0),(5,.ptr 4 0),(6,.ptr 6 0)]) qf.xp qf.x1 qf.x2::(kI a0_ a1_ (kAZ (.cells ((hof (none:Option (List qb))).flatMap qa.c)::(kAH a3_ (kQ r10.1 [])))))) (ac (cv (yY N r4.1 (w64 (0+1)) e_r10)) az)) (Sub.norm [] [some 0,some 1,some 2,some 3,some 4,some 5,some 6,some 7] (by rw[hB];rfl) rfl (.kp (.kp (.kp (.kp (.kp (.keep (.same nI) (.kp (.keep (.same nI) .nil)))))))) (.kb rfl (.loop rfl (.kp (.kp (.kp (.kp (.kp .nil)))))) (.kb rfl (.same sn) (.kb rfl (.same sn) (.kb rfl (.same sn) (.kb rfl (.cells (rc .hs0 rn)) (.ks (.kb rfl (.same sn) (.kb rfl (.same sn) .nil)))))))))
   ·try dsimp only at g_v19
    obtain⟨r11,e_r11,g_v19⟩:=bnd g_v19
    simp only[Option.some.injEq,Prod.mk.injEq]at g_v19
    obtain⟨rfl,rfl,rfl,rfl,rfl,rfl,rfl⟩:=g_v19
    exact ql.sub (ql.rq fol [4] (kD (kAG a4_ (kBe r11.2 []))) (.loop .busy none (ofG 49 [(2,.ptr 1 0),(3,.ptr 2 0),(4,.ptr 3 0),(5,.ptr 4 0),(6,.ptr 6 0)]) qf.xp qf.x1 qf.x2::(kI a0_ a1_ (kAd l9 (kB l9 (kAH a3_ (kQ r11.1 [])))))) (ac (cv (yY N r4.1 (w64 ((l9.length:Int)+1)) e_r11)) az)) (Sub.norm [] [some 0,some 1,some 2,some 3,some 4,some 5,some 6,some 7] (by rw[hB];rfl) rfl (.kp (.kp (.kp (.kp (.kp (.keep (.same nI) (.kp (.keep (.same nI) .nil)))))))) (.kb rfl (.loop rfl (.kp (.kp (.kp (.kp (.kp .nil)))))) (.kb rfl (.same sn) (.kb rfl (.same sn) (.kb rfl (.same sn) (.kb rfl (.cells (rc ((kg.hs1 rfl)) rn)) (.ks (.kb rfl (.same sn) (.kb rfl (.same sn) .nil)))))))))
  intro _ hsub
  try dsimp only at h
  refine Goes.sub hsub ?_
  refine sq ?_
  refine sh fol (kD (kAG a4_ (kBe n18 [(38,.bool (!decide (n18=0)))]))) ?_
  refine ihB h (fun c20 h=>?_) (fun c20 h=>?_)
  ·refine sq ?_
   obtain⟨o22,g_v23,h⟩:=bnd h
   refine Goes.cutS (s':=(ofG 49 (kD []),(.loop .busy none (ofG 49 [(2,.ptr 1 0),(3,.ptr 2 0),(4,.ptr 3 0),(5,.ptr 4 0),(6,.ptr 6 0)]) qf.xp qf.x1 qf.x2:: .cells [hsl 5 5 o22]::(kAH a3_ (kAH n18 (kAE o22 a3_ [])))))) ?_ ?_
   ·rcases o12 with _|l21
    ·try dsimp only at g_v23
     obtain rfl:=si g_v23
     exact ql.sub (ql.rg fol (kD []) (.loop .busy none (ofG 49 [(2,.ptr 1 0),(3,.ptr 2 0),(4,.ptr 3 0),(5,.ptr 4 0),(6,.ptr 6 0)]) qf.xp qf.x1 qf.x2::(kI a3_ n18 (kAZ (.cells ((hof (none:Option (List qb))).flatMap qa.c)::(kAH a3_ (kBX n13 s14 l15 l16 s17 []))))))) (Sub.norm [] [some 0,some 1,some 2,some 3,some 4,some 5,some 6] (by rw[hB];rfl) rfl (.kp (.kp (.kp .nil))) (.kb rfl (.loop rfl (.kp (.kp (.kp (.kp (.kp .nil)))))) (.kb rfl (.cells (rc .hs0 rn)) (.kb rfl (.same sn) (.kb rfl (.same sn) (.kb rfl (.cells (rc .hs0 rn)) (.ks (.kb rfl (.same sn) .nil))))))))
    ·try dsimp only at g_v23
     obtain rfl:=si g_v23
     exact ql.sub (ql.rg fol (kD []) (.loop .busy none (ofG 49 [(2,.ptr 1 0),(3,.ptr 2 0),(4,.ptr 3 0),(5,.ptr 4 0),(6,.ptr 6 0)]) qf.xp qf.x1 qf.x2::(kAd l21 (kAH a3_ (kAH n18 (kAd l21 (kB l21 (kAH a3_ (kBX n13 s14 l15 l16 s17 []))))))))) (Sub.norm [] [some 0,some 1,some 2,some 3,some 4,some 5,some 6] (by rw[hB];rfl) rfl (.kp (.kp (.kp .nil))) (.kb rfl (.loop rfl (.kp (.kp (.kp (.kp (.kp .nil)))))) (.kb rfl (.cells (rc ((kg.hs1 rfl)) rn)) (.kb rfl (.same sn) (.kb rfl (.same sn) (.kb rfl (.cells (rc ((kg.hs1 rfl)) rn)) (.ks (.kb rfl (.same sn) .nil))))))))
   intro _ hsub
   refine Goes.sub hsub ?_
   refine Goes.ret ?_
   cases h
   exact⟨_,Sub.refl _,⟨_,_,rfl,(qb1.refl _ _)⟩⟩
  ·refine Goes.skip ?_
   obtain⟨l26,g_v27,h⟩:=bnd h
   refine Goes.cutS (s':=(ofG 49 [],(.loop .busy none (ofG 49 [(2,.ptr 1 0),(3,.ptr 2 0),(4,.ptr 3 0),(5,.ptr 4 0),(6,.ptr 6 0)]) qf.xp qf.x1 qf.x2::(kI a0_ a1_ (.cells [.oslice 7 l26.length 5]:: .dead::(kAH a4_ (kB l26 []))))))) ?_ ?_
   ·rcases o12 with _|l24
    ·try dsimp only at g_v27
     obtain rfl:=si g_v27
     exact ql.sub (ql.rg fol [] (.loop .busy none (ofG 49 [(2,.ptr 1 0),(3,.ptr 2 0),(4,.ptr 3 0),(5,.ptr 4 0),(6,.ptr 6 0)]) qf.xp qf.x1 qf.x2::(kI a0_ a1_ (.cells [.oslice 9 1 5]:: .cells ((hof (none:Option (List qb))).flatMap qa.c)::(kAH a4_ (kAa n13 s14 l15 l16 s17 (kBX n13 s14 l15 l16 s17 []))))))) (Sub.norm [] [some 0,some 1,some 2,some 3,some 4,some 5,some 6,some 9] (by rw[hB];rfl) rfl .nil (.kb rfl (.loop rfl (.kp (.kp (.kp (.kp (.kp .nil)))))) (.kb rfl (.same sn) (.kb rfl (.same sn) (.kb rfl (.same sn) (.kb rfl (.cells (rc ((kg.osliceE rfl rfl)) rn)) (.lost (.kb rfl (.same sn) (.ks .nil)))))))))
    ·try dsimp only at g_v27
     obtain⟨l25,e_l25,g_v27⟩:=bnd g_v27
     obtain rfl:=si g_v27
     exact ql.sub (ql.rq fol [3] [] (.loop .busy none (ofG 49 [(2,.ptr 1 0),(3,.ptr 2 0),(4,.ptr 3 0),(5,.ptr 4 0),(6,.ptr 6 0)]) qf.xp qf.x1 qf.x2::(kI a0_ a1_ (.cells [.oslice 9 l25.length 5]:: .dead::(kAH a4_ (kAa n13 s14 l15 l16 s17 (kB l25 [])))))) (ac (hs (.run [5,8] (qz Tryz.prog [22,22] (.oslice 5 l24.length 5) (.slice 8 0 1 1 5)) (.loop .busy none (ofG 49 [(2,.ptr 1 0),(3,.ptr 2 0),(4,.ptr 3 0),(5,.ptr 4 0),(6,.ptr 6 0)]) qf.xp qf.x1 qf.x2::(kI a0_ a1_ (kAd l24 (kB l24 (kAH a3_ (kAa n13 s14 l15 l16 s17 [])))))) (.oslice 9 l25.length 5) (.loop .busy none (ofG 49 [(2,.ptr 1 0),(3,.ptr 2 0),(4,.ptr 3 0),(5,.ptr 4 0),(6,.ptr 6 0)]) qf.xp qf.x1 qf.x2::(kI a0_ a1_ (kAd l24 (.dead::(kAH a3_ (kAa n13 s14 l15 l16 s17 (kB l25 []))))))) true) (ko jo (E:=qa) rfl (xm (E:=qa) (ys:=[(⟨n13,s14,l15,l16,s17⟩:qb)]) rfl rfl rfl rfl) (qdv (E:=qa) (l:=l24) rfl rfl rfl e_l25 rfl))) az)) (Sub.norm [] [some 0,some 1,some 2,some 3,some 4,some 5,some 6,some 9] (by rw[hB];rfl) rfl .nil (.kb rfl (.loop rfl (.kp (.kp (.kp (.kp (.kp .nil)))))) (.kb rfl (.same sn) (.kb rfl (.same sn) (.kb rfl (.same sn) (.kb rfl (.cells (rc (.oslice rfl) rn)) (.lost (.kb rfl (.same sn) (.ks .nil)))))))))
   intro _ hsub
   cases h
def qM (N:Nat) (a0_:Int) (a1_:Int) (a3_:Str):Nat→Int→(Option (List qb))→Int→Option ((Int×(Option (List qb)))⊕((Int×(Option (List qb)))⊕(Int×Int×Int×(Option (List qb)))))
 |0,_,_,_=>none
 |K+1,n7,o8,n9=>
  if n9<(a3_.length:Int)then
  (cut a3_ n9 (a3_.length:Int)).bind fun s15=>
  (strings_IndexByte s15 10).bind fun r16=>
  ((if r16≥0 then
  some (w64 ((w64 (n9+r16))+1))
  else
  some (a3_.length:Int):Option Int)).bind fun n17=>
  (cut a3_ n9 n17).bind fun s20=>
  (zP N a0_ a1_ o8 n7 n17 s20).bind fun r21=>
  match r21 with
  | .inl l22=>
  qM N a0_ a1_ a3_ K n17 (some l22) n17
  | .inr (n23,o24)=>
  some (.inr (.inr (n7,n23,n7,o24)))
  else
  some (.inl (n7,o8))
def vB (N:Nat) (a0_:Int) (a1_:Int) (a2_:Int) (a3_:Str):Option ((Int×(Option (List qb)))⊕(Int×Int×Int×(Option (List qb)))):=
 (qM N a0_ a1_ a3_ N a2_ (none:Option (List qb)) 0).bind (fun
 |(.inl (n10,o11))=>
 some (.inl (n10,o11))
 |(.inr q25)=>
 some q25)
theorem qdr (N:Nat) (a0_:Int) (a1_:Int) (a2_:Int) (a3_:Str) {n1:Int} {o2:Option (List qb)} (h:vB N a0_ a1_ a2_ a3_=some (.inl (n1,o2))):qg Tryz.prog (.fn 152) [.yld 0,.ptr 6 0] (.loop .ready none (ofG 49 [(2,.ptr 1 0),(3,.ptr 2 0),(4,.ptr 3 0),(5,.ptr 4 0),(6,.ptr 5 0)]) qf.xp qf.x1 qf.x2::(kI a0_ a1_ (kAZ (kAH a2_ (kAM a3_ []))))) (.tuple []) (.loop .ready none (ofG 49 [(2,.ptr 1 0),(3,.ptr 2 0),(4,.ptr 3 0),(5,.ptr 4 0),(6,.ptr 5 0)]) qf.xp qf.x1 qf.x2::(kI a0_ a1_ (kJ o2 n1 a3_))):=by
 unfold vB at h
 refine Goes.fnH Tryz.func152 rfl rfl (m:=31) rfl (rs:=[]) rfl (l:=[(0,.yld 0),(1,.ptr 6 0)]) rfl ?_
 intro B hB
 refine Goes.subQ ?_
 refine sh fol [(0,.yld 0),(1,.ptr 6 0),(3,.i 0)] ?_
 refine Goes.block ?_
 obtain⟨r12,g12,h⟩:=bnd h
 refine Goes.imp (Q:=fun x s'=>(x= .exit 0∧ ∃n10 o11,(.inl (n10,o11))=r12∧Sub s' (ofG 31 [],(.loop .ready none (ofG 49 [(2,.ptr 1 0),(3,.ptr 2 0),(4,.ptr 3 0),(5,.ptr 4 0),(6,.ptr 5 0)]) qf.xp qf.x1 qf.x2::(kI a0_ a1_ (kJ o11 n10 a3_)))))∨(x= .ret∧ ∃q13,(.inr q13)=r12∧(∀(n1:Int) (o2:Option (List qb)),q13=(.inl (n1,o2))→qdt Tryz.prog [] (.tuple []) (.loop .ready none (ofG 49 [(2,.ptr 1 0),(3,.ptr 2 0),(4,.ptr 3 0),(5,.ptr 4 0),(6,.ptr 5 0)]) qf.xp qf.x1 qf.x2::(kI a0_ a1_ (kJ o2 n1 a3_))) .ret s'))) ?_ ?_
 ·refine Goes.sub (s':=(ofG 31 [(0,.yld 0),(1,.ptr 6 0),(3,.i 0)],(.loop .ready none (ofG 49 [(2,.ptr 1 0),(3,.ptr 2 0),(4,.ptr 3 0),(5,.ptr 4 0),(6,.ptr 5 0)]) qf.xp qf.x1 qf.x2::(kI a0_ a1_ (.cells [hsl 7 5 (none:Option (List qb))]::(kAH a2_ (kAM a3_ [.cells ((hof (none:Option (List qb))).flatMap qa.c)]))))))) (Sub.norm [] [some 0,some 1,some 2,some 3,some 4,some 5,some 6,none] (by rw[hB];rfl) rfl (.keep (.yld rfl) (.kp (.keep (.same nI) .nil))) (.kb rfl (.loop rfl (.kp (.kp (.kp (.kp (.kp .nil)))))) (.kb rfl (.same sn) (.kb rfl (.same sn) (.kb rfl (.same sn) (.kb rfl (.cells (rc .hs0 rn)) (.kb rfl (.same sn) (.kb rfl (.same sn) (.fresh .nil))))))))) ?_
  refine Goes.loopS (fun M s=> ∃(n7:Int) (o8:Option (List qb)) (n9:Int),s=(ofG 31 ((0,.yld 0)::(kAi n9 [])),(.loop .ready none (ofG 49 [(2,.ptr 1 0),(3,.ptr 2 0),(4,.ptr 3 0),(5,.ptr 4 0),(6,.ptr 5 0)]) qf.xp qf.x1 qf.x2::(kI a0_ a1_ (kJ o8 n7 a3_))))∧qM N a0_ a1_ a3_ M n7 o8 n9=some r12) ?_ (m:=N) ⟨_,_,_,rfl,g12⟩
  rintro M s ⟨n7,o8,n9,rfl,g12⟩
  cases M with
  |zero=>simp only[qM]at g12;cases g12
  |succ M=>
   rw[qM]at g12
   refine sq ?_
   refine sh fol ((0,.yld 0)::(kAi n9 (kBt (decide (n9<(a3_.length:Int)))))) ?_
   refine ihD g12 (fun c14 g12=>?_) (fun c14 g12=>?_)
   ·refine Goes.skip ?_
    refine Goes.block ?_
    refine sh fol ((0,.yld 0)::(kAi n9 (kAv (a3_.length:Int)))) ?_
    refine sq ?_
    obtain⟨s15,e_s15,g12⟩:=bnd g12
    obtain⟨r16,e_r16,g12⟩:=bnd g12
    refine sq (gr fol [2,3] ((0,.yld 0)::(kAi n9 ((4,.i (a3_.length:Int))::(kAb r16)))) (ac (hs (.done (.opt (qG Tryz.prog 9 (.str a3_) (some (.i n9)) none none)) (.str s15)) (yR st9 (some n9) none e_s15)) (ac (cv (qbL s15 10 e_r16)) az)) ?_)
    refine sh fol ((0,.yld 0)::(kAi n9 [(4,.i (a3_.length:Int)),(5,.i r16),(17,.bool (decide (r16≥0)))])) ?_
    obtain⟨r18,g18,g12⟩:=bnd g12
    refine Goes.imp (Q:=fun x s'=>(x= .normal∧ ∃n17,n17=r18∧Sub s' (ofG 31 ((0,.yld 0)::(kAi n9 (kAv n17))),(.loop .ready none (ofG 49 [(2,.ptr 1 0),(3,.ptr 2 0),(4,.ptr 3 0),(5,.ptr 4 0),(6,.ptr 5 0)]) qf.xp qf.x1 qf.x2::(kI a0_ a1_ (kJ o8 n7 a3_)))))) ?_ ?_
    ·refine ihD g18 (fun c19 g18=>?_) (fun c19 g18=>?_)
     ·refine gh fol ((0,.yld 0)::(kAi n9 (kAv (w64 ((w64 (n9+r16))+1))))) ?_
      obtain rfl:=si g18
      exact⟨rfl,_,rfl,(Sub.refl _)⟩
     ·refine Goes.skip ?_
      obtain rfl:=si g18
      exact⟨rfl,_,rfl,(Sub.keep [0,1,3,4] rfl rfl)⟩
    rintro x s' ⟨rfl,n17,rfl,hsub⟩
    refine Goes.sub hsub ?_
    refine sq ?_
    refine sq ?_
    obtain⟨s20,e_s20,g12⟩:=bnd g12
    obtain⟨r21,e_r21,g12⟩:=bnd g12
    rcases r21 with l22|⟨n23,o24⟩
    ·try dsimp only at g12
     refine gq fol [5,6] [(0,.yld 0),(1,.ptr 6 0),(4,.i n17),(29,.bool false)] (.loop .ready none (ofG 49 [(2,.ptr 1 0),(3,.ptr 2 0),(4,.ptr 3 0),(5,.ptr 4 0),(6,.ptr 5 0)]) qf.xp qf.x1 qf.x2::(kI a0_ a1_ (.cells [.oslice 8 l22.length 5]::(kAH n17 (kAM a3_ (.dead::(kB l22 []))))))) (ac (hs (.done (.opt (qG Tryz.prog 9 (.str a3_) (some (.i n9)) (some (.i n17)) none)) (.str s20)) (yR st9 (some n9) (some n17) e_s20)) (ac (hs (.callH (.rd 0) [.i n17,.str s20] (.loop .ready none (ofG 49 [(2,.ptr 1 0),(3,.ptr 2 0),(4,.ptr 3 0),(5,.ptr 4 0),(6,.ptr 5 0)]) qf.xp qf.x1 qf.x2::(kI a0_ a1_ (kJ o8 n7 a3_))) [0,1,2,3,4,7,5] (.bool true) (.loop .ready none (ofG 49 [(2,.ptr 1 0),(3,.ptr 2 0),(4,.ptr 3 0),(5,.ptr 4 0),(6,.ptr 5 0)]) qf.xp qf.x1 qf.x2::(kI a0_ a1_ (.cells [.oslice 8 l22.length 5]::(kAH n17 (kAM a3_ (.dead::(kB l22 [])))))))) (qju [some 0,some 1,some 2,some 3,some 4,some 7,some 5] [some 0,some 1,some 2,some 3,some 4,some 6,none,none,some 7] (qbu N a0_ a1_ o8 n7 n17 s20 e_r21) rfl (.kb rfl (.loop rfl (.kp (.kp (.kp (.kp (.kp .nil)))))) (.kb rfl (.cells (rc (.same (qm.nilslice)) rn)) (.kb rfl (.cells (rc (.same nI) rn)) (.kb rfl (.cells (rc (.same nI) rn)) (.kb rfl (.cells (rc (.hs rfl) rn)) (.ks (.kb rfl (.cells (rc (.same nI) rn)) .nil))))))) rfl rfl (.back rfl rfl (.loop rfl (.kp (.kp (.kp (.kp (.kp .nil)))))) rfl (.back rfl rfl (.cells (rc (.same (qm.nilslice)) rn)) rfl (.back rfl rfl (.cells (rc (.same nI) rn)) rfl (.back rfl rfl (.cells (rc (.same nI) rn)) rfl (.back rfl rfl (.cells (rc (.oslice rfl) rn)) rfl (.back rfl rfl (.cells (rc (.same nI) rn)) rfl (.old rfl rfl (.dead (.new rfl rfl (.same fa) rfl .nil))))))))) (rc (.same nI) (rc (.same nS) rn)) (.same nB) rfl)) az)) ?_
     refine Goes.ifB (b:=false) (by kernel_rfl) (fun c=>(by cases c)) (fun _=>?_)
     refine Goes.skip ?_
     refine gh fol ((0,.yld 0)::(kAi n17 [])) ?_
     exact⟨M,(ofG 31 ((0,.yld 0)::(kAi n17 [])),(.loop .ready none (ofG 49 [(2,.ptr 1 0),(3,.ptr 2 0),(4,.ptr 3 0),(5,.ptr 4 0),(6,.ptr 5 0)]) qf.xp qf.x1 qf.x2::(kI a0_ a1_ (kJ (some l22) n17 a3_)))),Nat.lt_succ_self _,(Sub.norm [] [some 0,some 1,some 2,some 3,some 4,some 5,some 6,some 8] (by rw[hB];rfl) rfl (.keep (.yld rfl) (.kp (.keep (.same nI) .nil))) (.kb rfl (.loop rfl (.kp (.kp (.kp (.kp (.kp .nil)))))) (.kb rfl (.same sn) (.kb rfl (.same sn) (.kb rfl (.same sn) (.kb rfl (.cells (rc ((kg.hs1 rfl)) rn)) (.kb rfl (.same sn) (.kb rfl (.same sn) (.ks .nil))))))))),_,_,_,rfl,g12⟩
    ·try dsimp only at g12
     refine gq fol [5,6] [(0,.yld 0),(1,.ptr 6 0),(4,.i n17),(29,.bool true)] (.loop .done (some .ret) (ofG 49 [(2,.ptr 1 0),(3,.ptr 2 0),(4,.ptr 3 0),(5,.ptr 4 0),(6,.ptr 5 0)]) qf.xp qf.x1 qf.x2::(kBS o24 (kAH n7 (kAH n23 (kJ o24 n7 a3_))))) (ac (hs (.done (.opt (qG Tryz.prog 9 (.str a3_) (some (.i n9)) (some (.i n17)) none)) (.str s20)) (yR st9 (some n9) (some n17) e_s20)) (ac (hs (.callH (.rd 0) [.i n17,.str s20] (.loop .ready none (ofG 49 [(2,.ptr 1 0),(3,.ptr 2 0),(4,.ptr 3 0),(5,.ptr 4 0),(6,.ptr 5 0)]) qf.xp qf.x1 qf.x2::(kI a0_ a1_ (kJ o8 n7 a3_))) [0,1,2,3,4,7,5] (.bool false) (.loop .done (some .ret) (ofG 49 [(2,.ptr 1 0),(3,.ptr 2 0),(4,.ptr 3 0),(5,.ptr 4 0),(6,.ptr 5 0)]) qf.xp qf.x1 qf.x2::(kBS o24 (kAH n7 (kAH n23 (kJ o24 n7 a3_)))))) (qju [some 0,some 1,some 2,some 3,some 4,some 7,some 5] [some 0,some 1,some 2,some 3,some 4,some 6,none,some 5] (qbo N a0_ a1_ o8 n7 n17 s20 e_r21) rfl (.kb rfl (.loop rfl (.kp (.kp (.kp (.kp (.kp .nil)))))) (.kb rfl (.cells (rc (.same (qm.nilslice)) rn)) (.kb rfl (.cells (rc (.same nI) rn)) (.kb rfl (.cells (rc (.same nI) rn)) (.kb rfl (.cells (rc (.hs rfl) rn)) (.ks (.kb rfl (.cells (rc (.same nI) rn)) .nil))))))) rfl rfl (.back rfl rfl (.loop rfl (.kp (.kp (.kp (.kp (.kp .nil)))))) rfl (.back rfl rfl (.cells (rc (.hs rfl) rn)) rfl (.back rfl rfl (.cells (rc (.same nI) rn)) rfl (.back rfl rfl (.cells (rc (.same nI) rn)) rfl (.back rfl rfl (.cells (rc (.hs rfl) rn)) rfl (.back rfl rfl (.cells (rc (.same nI) rn)) rfl (.old rfl rfl (.back rfl rfl (.same fa) rfl .nil)))))))) (rc (.same nI) (rc (.same nS) rn)) (.same nB) rfl)) az)) ?_
     refine Goes.ifB (b:=true) (by kernel_rfl) (fun _=>?_) (fun c=>(by cases c))
     refine Goes.ret ?_
     obtain rfl:=si g12
     exact Or.inr (⟨rfl,_,rfl,(fun n1 o2 e_=>by cases e_)⟩)
   ·refine Goes.exit ?_
    obtain rfl:=si g12
    exact Or.inl (⟨rfl,_,_,rfl,(Sub.keep [] rfl rfl)⟩)
 rintro x s' (⟨rfl,n10,o11,rfl,hsub⟩|⟨rfl,q25,rfl,hret⟩)
 ·try dsimp only at h
  cases h
  exact⟨_,hsub,(gh2 [] (qb1.refl _ _))⟩
 ·try dsimp only at h
  exact⟨_,Sub.refl _,(hret _ _ (si h))⟩
theorem qdy (N:Nat) (a0_:Int) (a1_:Int) (a2_:Int) (a3_:Str) {n3:Int} {n4:Int} {n5:Int} {o6:Option (List qb)} (h:vB N a0_ a1_ a2_ a3_=some (.inr (n3,n4,n5,o6))):qg Tryz.prog (.fn 152) [.yld 0,.ptr 6 0] (.loop .ready none (ofG 49 [(2,.ptr 1 0),(3,.ptr 2 0),(4,.ptr 3 0),(5,.ptr 4 0),(6,.ptr 5 0)]) qf.xp qf.x1 qf.x2::(kI a0_ a1_ (kAZ (kAH a2_ (kAM a3_ []))))) (.tuple []) (.loop .done (some .ret) (ofG 49 [(2,.ptr 1 0),(3,.ptr 2 0),(4,.ptr 3 0),(5,.ptr 4 0),(6,.ptr 5 0)]) qf.xp qf.x1 qf.x2::(kBS o6 (kAH n3 (kAH n4 (kJ o6 n5 a3_))))):=by
 unfold vB at h
 refine Goes.fnH Tryz.func152 rfl rfl (m:=31) rfl (rs:=[]) rfl (l:=[(0,.yld 0),(1,.ptr 6 0)]) rfl ?_
 intro B hB
 refine Goes.subQ ?_
 refine sh fol [(0,.yld 0),(1,.ptr 6 0),(3,.i 0)] ?_
 refine Goes.block ?_
 obtain⟨r12,g12,h⟩:=bnd h
 refine Goes.imp (Q:=fun x s'=>(x= .exit 0∧ ∃n10 o11,(.inl (n10,o11))=r12∧Sub s' (ofG 31 [],(.loop .ready none (ofG 49 [(2,.ptr 1 0),(3,.ptr 2 0),(4,.ptr 3 0),(5,.ptr 4 0),(6,.ptr 5 0)]) qf.xp qf.x1 qf.x2::(kI a0_ a1_ (kJ o11 n10 a3_)))))∨(x= .ret∧ ∃q13,(.inr q13)=r12∧(∀(n3:Int) (n4:Int) (n5:Int) (o6:Option (List qb)),q13=(.inr (n3,n4,n5,o6))→qdt Tryz.prog [] (.tuple []) (.loop .done (some .ret) (ofG 49 [(2,.ptr 1 0),(3,.ptr 2 0),(4,.ptr 3 0),(5,.ptr 4 0),(6,.ptr 5 0)]) qf.xp qf.x1 qf.x2::(kBS o6 (kAH n3 (kAH n4 (kJ o6 n5 a3_))))) .ret s'))) ?_ ?_
 ·refine Goes.sub (s':=(ofG 31 [(0,.yld 0),(1,.ptr 6 0),(3,.i 0)],(.loop .ready none (ofG 49 [(2,.ptr 1 0),(3,.ptr 2 0),(4,.ptr 3 0),(5,.ptr 4 0),(6,.ptr 5 0)]) qf.xp qf.x1 qf.x2::(kI a0_ a1_ (.cells [hsl 7 5 (none:Option (List qb))]::(kAH a2_ (kAM a3_ [.cells ((hof (none:Option (List qb))).flatMap qa.c)]))))))) (Sub.norm [] [some 0,some 1,some 2,some 3,some 4,some 5,some 6,none] (by rw[hB];rfl) rfl (.keep (.yld rfl) (.kp (.keep (.same nI) .nil))) (.kb rfl (.loop rfl (.kp (.kp (.kp (.kp (.kp .nil)))))) (.kb rfl (.same sn) (.kb rfl (.same sn) (.kb rfl (.same sn) (.kb rfl (.cells (rc .hs0 rn)) (.kb rfl (.same sn) (.kb rfl (.same sn) (.fresh .nil))))))))) ?_
  refine Goes.loopS (fun M s=> ∃(n7:Int) (o8:Option (List qb)) (n9:Int),s=(ofG 31 ((0,.yld 0)::(kAi n9 [])),(.loop .ready none (ofG 49 [(2,.ptr 1 0),(3,.ptr 2 0),(4,.ptr 3 0),(5,.ptr 4 0),(6,.ptr 5 0)]) qf.xp qf.x1 qf.x2::(kI a0_ a1_ (kJ o8 n7 a3_))))∧qM N a0_ a1_ a3_ M n7 o8 n9=some r12) ?_ (m:=N) ⟨_,_,_,rfl,g12⟩
  rintro M s ⟨n7,o8,n9,rfl,g12⟩
  cases M with
  |zero=>simp only[qM]at g12;cases g12
  |succ M=>
   rw[qM]at g12
   refine sq ?_
   refine sh fol ((0,.yld 0)::(kAi n9 (kBt (decide (n9<(a3_.length:Int)))))) ?_
   refine ihD g12 (fun c14 g12=>?_) (fun c14 g12=>?_)
   ·refine Goes.skip ?_
    refine Goes.block ?_
    refine sh fol ((0,.yld 0)::(kAi n9 (kAv (a3_.length:Int)))) ?_
    refine sq ?_
    obtain⟨s15,e_s15,g12⟩:=bnd g12
    obtain⟨r16,e_r16,g12⟩:=bnd g12
    refine sq (gr fol [2,3] ((0,.yld 0)::(kAi n9 ((4,.i (a3_.length:Int))::(kAb r16)))) (ac (hs (.done (.opt (qG Tryz.prog 9 (.str a3_) (some (.i n9)) none none)) (.str s15)) (yR st9 (some n9) none e_s15)) (ac (cv (qbL s15 10 e_r16)) az)) ?_)
    refine sh fol ((0,.yld 0)::(kAi n9 [(4,.i (a3_.length:Int)),(5,.i r16),(17,.bool (decide (r16≥0)))])) ?_
    obtain⟨r18,g18,g12⟩:=bnd g12
    refine Goes.imp (Q:=fun x s'=>(x= .normal∧ ∃n17,n17=r18∧Sub s' (ofG 31 ((0,.yld 0)::(kAi n9 (kAv n17))),(.loop .ready none (ofG 49 [(2,.ptr 1 0),(3,.ptr 2 0),(4,.ptr 3 0),(5,.ptr 4 0),(6,.ptr 5 0)]) qf.xp qf.x1 qf.x2::(kI a0_ a1_ (kJ o8 n7 a3_)))))) ?_ ?_
    ·refine ihD g18 (fun c19 g18=>?_) (fun c19 g18=>?_)
     ·refine gh fol ((0,.yld 0)::(kAi n9 (kAv (w64 ((w64 (n9+r16))+1))))) ?_
      obtain rfl:=si g18
      exact⟨rfl,_,rfl,(Sub.refl _)⟩
     ·refine Goes.skip ?_
      obtain rfl:=si g18
      exact⟨rfl,_,rfl,(Sub.keep [0,1,3,4] rfl rfl)⟩
    rintro x s' ⟨rfl,n17,rfl,hsub⟩
    refine Goes.sub hsub ?_
    refine sq ?_
    refine sq ?_
    obtain⟨s20,e_s20,g12⟩:=bnd g12
    obtain⟨r21,e_r21,g12⟩:=bnd g12
    rcases r21 with l22|⟨n23,o24⟩
    ·try dsimp only at g12
     refine gq fol [5,6] [(0,.yld 0),(1,.ptr 6 0),(4,.i n17),(29,.bool false)] (.loop .ready none (ofG 49 [(2,.ptr 1 0),(3,.ptr 2 0),(4,.ptr 3 0),(5,.ptr 4 0),(6,.ptr 5 0)]) qf.xp qf.x1 qf.x2::(kI a0_ a1_ (.cells [.oslice 8 l22.length 5]::(kAH n17 (kAM a3_ (.dead::(kB l22 []))))))) (ac (hs (.done (.opt (qG Tryz.prog 9 (.str a3_) (some (.i n9)) (some (.i n17)) none)) (.str s20)) (yR st9 (some n9) (some n17) e_s20)) (ac (hs (.callH (.rd 0) [.i n17,.str s20] (.loop .ready none (ofG 49 [(2,.ptr 1 0),(3,.ptr 2 0),(4,.ptr 3 0),(5,.ptr 4 0),(6,.ptr 5 0)]) qf.xp qf.x1 qf.x2::(kI a0_ a1_ (kJ o8 n7 a3_))) [0,1,2,3,4,7,5] (.bool true) (.loop .ready none (ofG 49 [(2,.ptr 1 0),(3,.ptr 2 0),(4,.ptr 3 0),(5,.ptr 4 0),(6,.ptr 5 0)]) qf.xp qf.x1 qf.x2::(kI a0_ a1_ (.cells [.oslice 8 l22.length 5]::(kAH n17 (kAM a3_ (.dead::(kB l22 [])))))))) (qju [some 0,some 1,some 2,some 3,some 4,some 7,some 5] [some 0,some 1,some 2,some 3,some 4,some 6,none,none,some 7] (qbu N a0_ a1_ o8 n7 n17 s20 e_r21) rfl (.kb rfl (.loop rfl (.kp (.kp (.kp (.kp (.kp .nil)))))) (.kb rfl (.cells (rc (.same (qm.nilslice)) rn)) (.kb rfl (.cells (rc (.same nI) rn)) (.kb rfl (.cells (rc (.same nI) rn)) (.kb rfl (.cells (rc (.hs rfl) rn)) (.ks (.kb rfl (.cells (rc (.same nI) rn)) .nil))))))) rfl rfl (.back rfl rfl (.loop rfl (.kp (.kp (.kp (.kp (.kp .nil)))))) rfl (.back rfl rfl (.cells (rc (.same (qm.nilslice)) rn)) rfl (.back rfl rfl (.cells (rc (.same nI) rn)) rfl (.back rfl rfl (.cells (rc (.same nI) rn)) rfl (.back rfl rfl (.cells (rc (.oslice rfl) rn)) rfl (.back rfl rfl (.cells (rc (.same nI) rn)) rfl (.old rfl rfl (.dead (.new rfl rfl (.same fa) rfl .nil))))))))) (rc (.same nI) (rc (.same nS) rn)) (.same nB) rfl)) az)) ?_
     refine Goes.ifB (b:=false) (by kernel_rfl) (fun c=>(by cases c)) (fun _=>?_)
     refine Goes.skip ?_
     refine gh fol ((0,.yld 0)::(kAi n17 [])) ?_
     exact⟨M,(ofG 31 ((0,.yld 0)::(kAi n17 [])),(.loop .ready none (ofG 49 [(2,.ptr 1 0),(3,.ptr 2 0),(4,.ptr 3 0),(5,.ptr 4 0),(6,.ptr 5 0)]) qf.xp qf.x1 qf.x2::(kI a0_ a1_ (kJ (some l22) n17 a3_)))),Nat.lt_succ_self _,(Sub.norm [] [some 0,some 1,some 2,some 3,some 4,some 5,some 6,some 8] (by rw[hB];rfl) rfl (.keep (.yld rfl) (.kp (.keep (.same nI) .nil))) (.kb rfl (.loop rfl (.kp (.kp (.kp (.kp (.kp .nil)))))) (.kb rfl (.same sn) (.kb rfl (.same sn) (.kb rfl (.same sn) (.kb rfl (.cells (rc ((kg.hs1 rfl)) rn)) (.kb rfl (.same sn) (.kb rfl (.same sn) (.ks .nil))))))))),_,_,_,rfl,g12⟩
    ·try dsimp only at g12
     refine gq fol [5,6] [(0,.yld 0),(1,.ptr 6 0),(4,.i n17),(29,.bool true)] (.loop .done (some .ret) (ofG 49 [(2,.ptr 1 0),(3,.ptr 2 0),(4,.ptr 3 0),(5,.ptr 4 0),(6,.ptr 5 0)]) qf.xp qf.x1 qf.x2::(kBS o24 (kAH n7 (kAH n23 (kJ o24 n7 a3_))))) (ac (hs (.done (.opt (qG Tryz.prog 9 (.str a3_) (some (.i n9)) (some (.i n17)) none)) (.str s20)) (yR st9 (some n9) (some n17) e_s20)) (ac (hs (.callH (.rd 0) [.i n17,.str s20] (.loop .ready none (ofG 49 [(2,.ptr 1 0),(3,.ptr 2 0),(4,.ptr 3 0),(5,.ptr 4 0),(6,.ptr 5 0)]) qf.xp qf.x1 qf.x2::(kI a0_ a1_ (kJ o8 n7 a3_))) [0,1,2,3,4,7,5] (.bool false) (.loop .done (some .ret) (ofG 49 [(2,.ptr 1 0),(3,.ptr 2 0),(4,.ptr 3 0),(5,.ptr 4 0),(6,.ptr 5 0)]) qf.xp qf.x1 qf.x2::(kBS o24 (kAH n7 (kAH n23 (kJ o24 n7 a3_)))))) (qju [some 0,some 1,some 2,some 3,some 4,some 7,some 5] [some 0,some 1,some 2,some 3,some 4,some 6,none,some 5] (qbo N a0_ a1_ o8 n7 n17 s20 e_r21) rfl (.kb rfl (.loop rfl (.kp (.kp (.kp (.kp (.kp .nil)))))) (.kb rfl (.cells (rc (.same (qm.nilslice)) rn)) (.kb rfl (.cells (rc (.same nI) rn)) (.kb rfl (.cells (rc (.same nI) rn)) (.kb rfl (.cells (rc (.hs rfl) rn)) (.ks (.kb rfl (.cells (rc (.same nI) rn)) .nil))))))) rfl rfl (.back rfl rfl (.loop rfl (.kp (.kp (.kp (.kp (.kp .nil)))))) rfl (.back rfl rfl (.cells (rc (.hs rfl) rn)) rfl (.back rfl rfl (.cells (rc (.same nI) rn)) rfl (.back rfl rfl (.cells (rc (.same nI) rn)) rfl (.back rfl rfl (.cells (rc (.hs rfl) rn)) rfl (.back rfl rfl (.cells (rc (.same nI) rn)) rfl (.old rfl rfl (.back rfl rfl (.same fa) rfl .nil)))))))) (rc (.same nI) (rc (.same nS) rn)) (.same nB) rfl)) az)) ?_
     refine Goes.ifB (b:=true) (by kernel_rfl) (fun _=>?_) (fun c=>(by cases c))
     refine Goes.ret ?_
     obtain rfl:=si g12
     exact Or.inr (⟨rfl,_,rfl,(fun n3 n4 n5 o6 e_=>by cases e_;exact(gh2 [] (qb1.refl _ _)))⟩)
   ·refine Goes.exit ?_
    obtain rfl:=si g12
    exact Or.inl (⟨rfl,_,_,rfl,(Sub.keep [] rfl rfl)⟩)
 rintro x s' (⟨rfl,n10,o11,rfl,hsub⟩|⟨rfl,q25,rfl,hret⟩)
 ·try dsimp only at h
  cases h
 ·try dsimp only at h
  exact⟨_,Sub.refl _,(hret _ _ _ _ (si h))⟩
def qay (N:Nat) (log:Str):Option ((List qb)×Int×Int):=
 if(log.length:Int)>1000000 then
 some ([],0,26)
 else
 (qaX log).bind fun _=>
 (vB N 0 0 0 log).bind fun r3=>
 match r3 with
 | .inl (n4,o5)=>
 ((match o5 with
 |none=>
 some (none:Option (List qb))
 |some l10=>
 some (some l10)):Option (Option (List qb))).bind fun o11=>
 some ((hof o11),n4,0)
 | .inr (n6,n7,n8,o9)=>
 some ((hof o9),n6,n7)
theorem qf1 (N:Nat) (log:Str) {res:(List qb)×Int×Int} (h:qay N log=some res):qg Tryz.prog (.fn 43) [.str log] [] (.tuple (kA5 res.1 [.i res.2.1,.i res.2.2])) []:=by
 unfold qay at h
 refine Goes.fnW Tryz.func43 rfl rfl (m:=49) rfl (rs:=[.cell 2 22,.cell 3 3,.cell 4 32]) rfl (l:=(kAJ log [])) rfl ?_
 refine sg fol (kAJ log (kK (kAD []))) (kY (kBw [])) ?_
 refine sq ?_
 refine sh fol (kAJ log (kK (kAD [(15,.bool (decide ((log.length:Int)>1000000)))]))) ?_
 refine ihD h (fun c1 h=>?_) (fun c1 h=>?_)
 ·refine sg fol (kK (kAD [])) (kY [.cells [.i 26]]) ?_
  refine Goes.ret ?_
  obtain rfl:=si h
  exact(gw2 [.nilslice,.i 0,.i 26] (FzW.tuple (qh.cons (FzW.nilv (E:=qa)) (qh.cons (FzW.still tI) (qh.cons (FzW.still tI) qh.nil)))))
 ·refine Goes.skip ?_
  refine sg fol (kAJ log (kK (kAD [(5,.ptr 3 0)]))) (kY (kBw (kAZ []))) ?_
  refine sg fol (kAJ log (kK (kAD (kB1 [])))) (kY (kBw (kY []))) ?_
  refine sq ?_
  obtain⟨_,e_r2,h⟩:=bnd h
  refine sq (gq fol [1] (kK (kAD (kB1 [(17,.func (.func 152) [] [.ptr 5 0])]))) (kY (kBw (kY (kAM log [])))) (ac (hs (.callH 103 [.str log] (kY (kBw (kY []))) [] (.func (.func 152) [] [.ptr 5 0]) (kY (kBw (kY (kAM log []))))) (qZ [] [none,none,none,none,none,some 0] (qfz log e_r2) .nil rfl rfl (.old rfl rfl (.old rfl rfl (.old rfl rfl (.old rfl rfl (.old rfl rfl (.new rfl rfl (.cells (rc (.same nS) rn)) rfl .nil)))))) (rc (.same nS) rn) (.funcL (sn) (rc (.ptr rfl) rn)) rfl)) az) ?_)
  refine Goes.block ?_
  obtain⟨r3,e_r3,h⟩:=bnd h
  rcases r3 with⟨n4,o5⟩|⟨n6,n7,n8,o9⟩
  ·try dsimp only at h
   refine Goes.range fol rfl (gf:=152) (first:=[]) (captured:=[.ptr 5 0]) (v:= .tuple []) (A2:=(kY (kBw (kBS o5 (kAH n4 (kAM log (.loop .ready none (ofG 49 [(2,.ptr 0 0),(3,.ptr 1 0),(4,.ptr 2 0),(5,.ptr 3 0),(6,.ptr 4 0)]) qf.xp qf.x1 qf.x2::(kAs o5 [])))))))) (s':=(ofG 49 (kK (kAD (kB1 [(17,.func (.func 152) [] [.ptr 5 0])]))),(kY (kBw (kBS o5 (kAH n4 (kAM log (.loop .exhausted none (ofG 49 [(2,.ptr 0 0),(3,.ptr 1 0),(4,.ptr 2 0),(5,.ptr 3 0),(6,.ptr 4 0)]) qf.xp qf.x1 qf.x2::(kAs o5 []))))))))) (x:= .normal) (by kernel_rfl) (by kernel_rfl) (qka (show(Obl.callH 152 [.yld 6,.ptr 5 0] (kY (kBw (kY (kAM log [.loop .ready none (ofG 49 [(2,.ptr 0 0),(3,.ptr 1 0),(4,.ptr 2 0),(5,.ptr 3 0),(6,.ptr 4 0),(17,.func (.func 152) [] [.ptr 5 0])]) qf.xp qf.x1 qf.x2])))) [6,0,1,2,3,4,5] (.tuple []) (kY (kBw (kBS o5 (kAH n4 (kAM log (.loop .ready none (ofG 49 [(2,.ptr 0 0),(3,.ptr 1 0),(4,.ptr 2 0),(5,.ptr 3 0),(6,.ptr 4 0)]) qf.xp qf.x1 qf.x2::(kAs o5 [])))))))).Holds Tryz.prog from qZ [some 6,some 0,some 1,some 2,some 3,some 4,some 5] [some 1,some 2,some 3,some 4,some 5,some 6,some 0,some 7] (qdr N 0 0 0 log e_r3) (.kb rfl (.loop rfl (.kp (.kp (.kp (.kp (.kp (.drop .nil))))))) (.kb rfl (.cells (rc (.same (qm.nilslice)) rn)) (.kb rfl (.cells (rc (.same nI) rn)) (.kb rfl (.cells (rc (.same nI) rn)) (.kb rfl (.cells (rc (.same (qm.nilslice)) rn)) (.kb rfl (.cells (rc (.same nI) rn)) (.kb rfl (.cells (rc (.same nS) rn)) .nil))))))) rfl rfl (.back rfl rfl (.cells (rc (.same (qm.nilslice)) rn)) rfl (.back rfl rfl (.cells (rc (.same nI) rn)) rfl (.back rfl rfl (.cells (rc (.same nI) rn)) rfl (.back rfl rfl (.cells (rc (.hs rfl) rn)) rfl (.back rfl rfl (.cells (rc (.same nI) rn)) rfl (.back rfl rfl (.cells (rc (.same nS) rn)) rfl (.back rfl rfl (.loop rfl (.kp (.kp (.kp (.kp (.kp .nil)))))) rfl (.new rfl rfl (.same fa) rfl .nil)))))))) (rc (.yld rfl) (rc (.ptr rfl) rn)) (.same (qm.tuple sn)) rfl)) (by kernel_rfl) ?_
   refine Goes.sub (show Sub (ofG 49 (kK (kAD (kB1 [(17,.func (.func 152) [] [.ptr 5 0])]))),(kY (kBw (kBS o5 (kAH n4 (kAM log (.loop .exhausted none (ofG 49 [(2,.ptr 0 0),(3,.ptr 1 0),(4,.ptr 2 0),(5,.ptr 3 0),(6,.ptr 4 0)]) qf.xp qf.x1 qf.x2::(kAs o5 [])))))))) (ofG 49 (kK (kAD [(5,.ptr 3 0),(6,.ptr 5 0),(17,.func (.func 152) [] [.ptr 6 0])])),(kY (kBw (.cells [hsl 4 5 o5]::(kAs o5 (kAH n4 (kAM log [])))))))from(Sub.norm [] [some 0,some 1,some 2,some 3,some 7,some 4,some 5] rfl rfl (.kp (.kp (.kp (.kp (.kp (.keep (.funcL (sn) (rc (.ptr rfl) rn)) .nil)))))) (.kb rfl (.same sn) (.kb rfl (.same sn) (.kb rfl (.same sn) (.kb rfl (.cells (rc (.hs rfl) rn)) (.ks (.kb rfl (.same sn) (.kb rfl (.same sn) .nil))))))))) ?_
   refine sq ?_
   obtain⟨o11,g_v12,h⟩:=bnd h
   refine Goes.cutS (s':=(ofG 49 (kK [(3,.ptr 2 0),(4,.ptr 3 0)]),(.cells [hsl 1 5 o11]::(kAs o11 (kAH n4 (kBw [])))))) ?_ ?_
   ·rcases o5 with _|l10
    ·try dsimp only at g_v12
     obtain rfl:=si g_v12
     exact ql.sub (ql.rg fol (kK (kAD [])) (kAZ (kAH n4 (kBw (kAZ (.cells ((hof (none:Option (List qb))).flatMap qa.c)::(kAH n4 (kAM log [])))))))) (Sub.norm [] [some 0,none,some 1,some 2] rfl rfl (.kp (.kp (.kp .nil))) (.kb rfl (.cells (rc .hs0 rn)) (.fresh (.kb rfl (.same sn) (.kb rfl (.same sn) .nil)))))
    ·try dsimp only at g_v12
     obtain rfl:=si g_v12
     exact ql.sub (ql.rg fol (kK (kAD [])) (.cells [.oslice 4 l10.length 5]::(kAH n4 (kBw (.cells [.oslice 4 l10.length 5]::(kB l10 (kAH n4 (kAM log [])))))))) (Sub.norm [] [some 0,some 4,some 1,some 2] rfl rfl (.kp (.kp (.kp .nil))) (.kb rfl (.cells (rc ((kg.hs1 rfl)) rn)) (.ks (.kb rfl (.same sn) (.kb rfl (.same sn) .nil)))))
   intro _ hsub
   refine Goes.sub hsub ?_
   refine Goes.ret ?_
   obtain rfl:=si h
   exact(gw2 [hsl 1 5 o11,.i n4,.i 0] (FzW.tuple (qh.cons (FzW.hs (E:=qa) rfl rfl (nl rfl)) (qh.cons (FzW.still tI) (qh.cons (FzW.still tI) qh.nil)))))
  ·try dsimp only at h
   refine Goes.range fol rfl (gf:=152) (first:=[]) (captured:=[.ptr 5 0]) (v:= .tuple []) (A2:=(kBS o9 (kAH n6 (kAH n7 (kBS o9 (kAH n8 (kAM log (.loop .done (some .ret) (ofG 49 [(2,.ptr 0 0),(3,.ptr 1 0),(4,.ptr 2 0),(5,.ptr 3 0),(6,.ptr 4 0)]) qf.xp qf.x1 qf.x2::(kAs o9 []))))))))) (s':=(ofG 49 (kK (kAD (kB1 [(17,.func (.func 152) [] [.ptr 5 0])]))),(kBS o9 (kAH n6 (kAH n7 (kBS o9 (kAH n8 (kAM log (.loop .exhausted (some .ret) (ofG 49 [(2,.ptr 0 0),(3,.ptr 1 0),(4,.ptr 2 0),(5,.ptr 3 0),(6,.ptr 4 0)]) qf.xp qf.x1 qf.x2::(kAs o9 [])))))))))) (x:= .ret) (by kernel_rfl) (by kernel_rfl) (qka (show(Obl.callH 152 [.yld 6,.ptr 5 0] (kY (kBw (kY (kAM log [.loop .ready none (ofG 49 [(2,.ptr 0 0),(3,.ptr 1 0),(4,.ptr 2 0),(5,.ptr 3 0),(6,.ptr 4 0),(17,.func (.func 152) [] [.ptr 5 0])]) qf.xp qf.x1 qf.x2])))) [6,0,1,2,3,4,5] (.tuple []) (kBS o9 (kAH n6 (kAH n7 (kBS o9 (kAH n8 (kAM log (.loop .done (some .ret) (ofG 49 [(2,.ptr 0 0),(3,.ptr 1 0),(4,.ptr 2 0),(5,.ptr 3 0),(6,.ptr 4 0)]) qf.xp qf.x1 qf.x2::(kAs o9 []))))))))).Holds Tryz.prog from qZ [some 6,some 0,some 1,some 2,some 3,some 4,some 5] [some 1,some 2,some 3,some 4,some 5,some 6,some 0,some 7] (qdy N 0 0 0 log e_r3) (.kb rfl (.loop rfl (.kp (.kp (.kp (.kp (.kp (.drop .nil))))))) (.kb rfl (.cells (rc (.same (qm.nilslice)) rn)) (.kb rfl (.cells (rc (.same nI) rn)) (.kb rfl (.cells (rc (.same nI) rn)) (.kb rfl (.cells (rc (.same (qm.nilslice)) rn)) (.kb rfl (.cells (rc (.same nI) rn)) (.kb rfl (.cells (rc (.same nS) rn)) .nil))))))) rfl rfl (.back rfl rfl (.cells (rc (.hs rfl) rn)) rfl (.back rfl rfl (.cells (rc (.same nI) rn)) rfl (.back rfl rfl (.cells (rc (.same nI) rn)) rfl (.back rfl rfl (.cells (rc (.hs rfl) rn)) rfl (.back rfl rfl (.cells (rc (.same nI) rn)) rfl (.back rfl rfl (.cells (rc (.same nS) rn)) rfl (.back rfl rfl (.loop rfl (.kp (.kp (.kp (.kp (.kp .nil)))))) rfl (.new rfl rfl (.same fa) rfl .nil)))))))) (rc (.yld rfl) (rc (.ptr rfl) rn)) (.same (qm.tuple sn)) rfl)) (by kernel_rfl) ?_
   obtain rfl:=si h
   exact(gw2 [hsl 7 5 o9,.i n6,.i n7] (FzW.tuple (qh.cons (FzW.hs (E:=qa) rfl rfl (nl rfl)) (qh.cons (FzW.still tI) (qh.cons (FzW.still tI) qh.nil)))))
def xV:Option (List Int):=
 qhT (some []) ((app 8 ([]:List Int) ([]:List Int)).bind fun l1=>
 some l1)
theorem qeb {res:List Int} (h:xV=some res):qg Tryz.prog (.fn 166) [vl encI ([]:List Int)] [] (vl encI res) []:=by
 unfold xV at h
 refine Goes.fnW Tryz.func166 rfl rfl (m:=8) rfl (rs:=[.tmp 2]) rfl (l:=[(0,vl encI ([]:List Int))]) rfl ?_
 refine sh fol [(0,vl encI ([]:List Int))] ?_
 refine sq ?_
 refine sh fol [(0,vl encI ([]:List Int)),(4,.anyb)] ?_
 refine Goes.condAny (by kernel_rfl) ?_ ?_
 ·replace h:=(qdH h).1
  refine sh fol [(2,.nilslice)] ?_
  refine Goes.ret ?_
  obtain rfl:=si h
  exact(gw2 [.nilslice] (FzW.nilv (E:=encI)))
 ·replace h:=(qdH h).2
  refine Goes.skip ?_
  obtain⟨l1,e_l1,h⟩:=bnd h
  refine sq (gq fol [2] [(2,.oslice 1 l1.length 1)] (.dead::(kAF l1)) (ac (hs (.run [0] (qz Tryz.prog [24,24] (.slice 0 0 0 0 1) (vl encI ([]:List Int))) [.cells []] (.oslice 1 l1.length 1) (.dead::(kAF l1)) true) (ko xI (E:=encI) rfl (qd5 (E:=encI) rfl _) (qf0 (E:=encI) rfl rfl rfl e_l1 rfl))) az) ?_)
  refine Goes.ret ?_
  obtain rfl:=si h
  exact(gw2 [.oslice 1 l1.length 1] (FzW.fz (Fz.os (E:=encI) rfl rfl (nl rfl))))
def xX (x:Int) (xs:List Int):Option (List Int):=
 (app 8 ([]:List Int) (x::xs)).bind fun l1=>
 some l1
theorem qec (x:Int) (xs:List Int) {res:List Int} (h:xX x xs=some res):qg Tryz.prog (.fn 166) [vl encI (x::xs)] [] (vl encI res) []:=by
 unfold xX at h
 refine Goes.fnW Tryz.func166 rfl rfl (m:=8) rfl (rs:=[.tmp 2]) rfl (l:=(kBx (x::xs))) rfl ?_
 refine sh fol (kBx (x::xs)) ?_
 refine sq ?_
 refine sh fol ((0,vl encI (x::xs))::kAN) ?_
 refine Goes.ifB (b:=false) (by kernel_rfl) (fun c=>(by cases c)) (fun _=>?_)
 refine Goes.skip ?_
 obtain⟨l1,e_l1,h⟩:=bnd h
 refine sq (gq fol [2] [(2,.oslice 1 l1.length 1)] (.dead::(kAF l1)) (ac (hs (.run [0] (qz Tryz.prog [24,24] (.slice 0 0 0 0 1) (vl encI (x::xs))) [.cells []] (.oslice 1 l1.length 1) (.dead::(kAF l1)) true) (ko xI (E:=encI) rfl (qd5 (E:=encI) rfl _) (qf0 (E:=encI) rfl rfl rfl e_l1 rfl))) az) ?_)
 refine Goes.ret ?_
 obtain rfl:=si h
 exact(gw2 [.oslice 1 l1.length 1] (FzW.fz (Fz.os (E:=encI) rfl rfl (nl rfl))))
def slices_Clone_int:List Int→Option (List Int)
 |[]=>xV
 |x::xs=>xX x xs
theorem qe1 (l:List Int) {res:List Int} (h:slices_Clone_int l=some res):qg Tryz.prog (.fn 166) [vl encI l] [] (vl encI res) []:=by
 cases l with
 |nil=>exact qeb h
 |cons x xs=>exact qec x xs h
def zZ (e:qb):Option qb:=
 (slices_Clone_string e.Names).bind fun r1=>
 (slices_Clone_int e.Values).bind fun r2=>
 some (⟨e.Number,e.Kind,r1,r2,e.Text⟩:qb)
theorem qah (e:qb) {res:qb} (h:zZ e=some res):qg Tryz.prog (.fn 115) [.agg (cE e)] [] (.agg (cE res)) []:=by
 unfold zZ at h
 refine Goes.fnW Tryz.func115 rfl rfl (m:=12) rfl (rs:=[.cell 2 26]) rfl (l:=[(0,.agg (cE e))]) rfl ?_
 refine sg fol (kV [(2,.ptr 1 0)]) (kQ e (kG [])) ?_
 obtain⟨r1,e_r1,h⟩:=bnd h
 obtain⟨r2,e_r2,h⟩:=bnd h
 refine sq (gq fol [2,5] (kV [(2,.ptr 1 0)]) (kN e.Number e.Kind r1 r2 e.Text (kG [])) (ac (cv (qba e.Names e_r1)) (ac (cv (qe1 e.Values e_r2)) az)) ?_)
 refine sg fol [(2,.ptr 1 0)] (kN e.Number e.Kind r1 r2 e.Text (kN e.Number e.Kind r1 r2 e.Text [])) ?_
 refine Goes.ret ?_
 obtain rfl:=si h
 exact(gw2 [.agg [.i e.Number,.str e.Kind,vl encS r1,vl encI r2,.str e.Text]] (FzW.agg (qh.cons (FzW.still tI) (qh.cons (FzW.still tS) (qh.cons (FzW.still (qF encS _ (nl rfl))) (qh.cons (FzW.still (qF encI _ (nl rfl))) (qh.cons (FzW.still tS) qh.nil)))))))
def qaS (N:Nat) (l:List qb) (e:qb):Option Int:=
 (vH N l).bind fun r1=>
 ((if r1.2.2=0 then
 (vw N e).bind fun r5=>
 some r5
 else
 some r1.2.2:Option Int)).bind fun n2=>
 if(!decide (n2=0))=true then
 some n2
 else
 if(l.length:Int)≥1000 then
 some 5
 else
 (app 88 ([]:List qb) l).bind fun l8=>
 (app 88 l8 [e]).bind fun l9=>
 (vH N l9).bind fun r10=>
 some r10.2.2
theorem qgG (N:Nat) (l:List qb) (e:qb) {res:Int} (h:qaS N l e=some res):qg Tryz.prog (.fn 23) (kA5 l [.agg (cE e)]) [] (.i res) []:=by
 unfold qaS at h
 refine Goes.fnW Tryz.func23 rfl rfl (m:=36) rfl (rs:=[.tmp 4]) rfl (l:=(kL l [(1,.agg (cE e))])) rfl ?_
 refine sg fol (kL l [(3,.ptr 0 0)]) (kQ e []) ?_
 obtain⟨r1,e_r1,h⟩:=bnd h
 refine sq (gq fol [1] (kL l [(3,.ptr 0 0),(7,.i r1.2.2)]) (kQ e (kE r1.1.Day r1.1.Slings [])) (ac (cv (qaV N l e_r1)) az) ?_)
 refine sq ?_
 refine sh fol (kL l [(3,.ptr 0 0),(7,.i r1.2.2),(15,.bool (decide (r1.2.2=0)))]) ?_
 obtain⟨r3,g3,h⟩:=bnd h
 refine Goes.imp (Q:=fun x s'=>(x= .normal∧ ∃n2,n2=r3∧Sub s' (ofG 36 (kL l [(3,.ptr 0 0),(7,.i n2)]),(kQ e [])))) ?_ ?_
 ·refine ihD g3 (fun c4 g3=>?_) (fun c4 g3=>?_)
  ·obtain⟨r5,e_r5,g3⟩:=bnd g3
   refine gr fol [1] (kL l [(3,.ptr 0 0),(7,.i r5)]) (ac (cv (qaM N e e_r5)) az) ?_
   obtain rfl:=si g3
   exact⟨rfl,_,rfl,(Sub.norm [] [some 0] rfl rfl (.keep (.same (qo qa _)) (.kp (.keep (.same nI) .nil))) (.kb rfl (.same sn) .nil))⟩
  ·refine Goes.skip ?_
   obtain rfl:=si g3
   exact⟨rfl,_,rfl,(Sub.norm [] [some 0] rfl rfl (.keep (.same (qo qa _)) (.kp (.keep (.same nI) .nil))) (.kb rfl (.same sn) .nil))⟩
 rintro x s' ⟨rfl,n2,rfl,hsub⟩
 refine Goes.sub hsub ?_
 refine sq ?_
 refine sh fol (kL l [(3,.ptr 0 0),(7,.i n2),(19,.bool (!decide (n2=0)))]) ?_
 refine ihB h (fun c6 h=>?_) (fun c6 h=>?_)
 ·refine sh fol (kAv n2) ?_
  refine Goes.ret ?_
  obtain rfl:=si h
  exact(gw2 [.i n2] (FzW.still tI))
 ·refine Goes.skip ?_
  refine sq ?_
  refine sh fol (kL l [(3,.ptr 0 0),(23,.bool (decide ((l.length:Int)≥1000)))]) ?_
  refine ihD h (fun c7 h=>?_) (fun c7 h=>?_)
  ·refine sh fol [(4,.i 5)] ?_
   refine Goes.ret ?_
   obtain rfl:=si h
   exact(gw2 [.i 5] (FzW.still tI))
  ·refine Goes.skip ?_
   obtain⟨l8,e_l8,h⟩:=bnd h
   obtain⟨l9,e_l9,h⟩:=bnd h
   obtain⟨r10,e_r10,h⟩:=bnd h
   refine sq (gq fol [2,5,6] [(7,.i r10.2.2)] (kQ e (kBZ (kQ e [.frozen (l9.flatMap qa.c)]))) (ac (hs (.run [1] (qz Tryz.prog [22,22] (.slice 1 0 0 0 5) (vl qa l)) (kQ e [.cells []]) (.oslice 2 l8.length 5) (kQ e (.dead::(kB l8 []))) true) (ko jo (E:=qa) rfl (qd5 (E:=qa) rfl _) (qf0 (E:=qa) rfl rfl rfl e_l8 rfl))) (ac (hs (.run [2,3] (qz Tryz.prog [22,22] (.oslice 2 l8.length 5) (.slice 3 0 1 1 5)) (kQ e (.dead::(kB l8 (kQ e [])))) (.oslice 4 l9.length 5) (kQ e (kBZ (kQ e (kB l9 [])))) true) (ko jo (E:=qa) rfl (xm (E:=qa) (ys:=[e]) rfl rfl rfl rfl) (qdv (E:=qa) (l:=l8) rfl rfl rfl e_l9 rfl))) (ac (hs (.callF 17 [.oslice 4 l9.length 5] (kQ e (kBZ (kQ e (kB l9 [])))) [4] [vl qa l9] (.tuple (kAe r10.1.Day r10.1.Slings [.i r10.2.1,.i r10.2.2]))) (qhW (FzL.cons (Fz.os (E:=qa) rfl rfl (nl rfl)) FzL.nil) (qaV N l9 e_r10) (Still.tuple (AllST.cons (Still.agg (AllST.cons tI (AllST.cons (qF qd _ (nl rfl)) AllST.nil))) (AllST.cons tI (AllST.cons tI AllST.nil)))))) az))) ?_)
   refine Goes.sub (show Sub (ofG 36 [(7,.i r10.2.2)],(kQ e (kBZ (kQ e [.frozen (l9.flatMap qa.c)])))) (ofG 36 [(7,.i r10.2.2)],[])from(Sub.norm [] [] rfl rfl (.keep (.same nI) .nil) .nil)) ?_
   refine sh fol (kAv r10.2.2) ?_
   refine Goes.ret ?_
   obtain rfl:=si h
   exact(gw2 [.i r10.2.2] (FzW.still tI))
def yL (l:List Int):Nat→Int→Option (Unit⊕Int)
 |0,_=>none
 |K+1,n1=>
  if n1<(l.length:Int)then
  (idx l n1).bind fun x5=>
  if(!decide (x5=0))=true then
  some (.inr x5)
  else
  yL l K (w64 (n1+1))
  else
  some (.inl ())
def qbQ (N:Nat) (l:List Int):Option Int:=
 (yL l N 0).bind (fun
 |(.inl ())=>
 some 0
 |(.inr q7)=>
 some q7)
theorem qhY (N:Nat) (l:List Int) {res:Int} (h:qbQ N l=some res):qg Tryz.prog (.fn 28) [vl encI l] [] (.i res) []:=by
 unfold qbQ at h
 refine Goes.fnW Tryz.func28 rfl rfl (m:=15) rfl (rs:=[.tmp 2]) rfl (l:=(kBx l)) rfl ?_
 refine sh fol (kBx l) ?_
 refine sq ?_
 refine sh fol [(5,vl encI l),(6,.i (l.length:Int)),(7,.i 0)] ?_
 refine Goes.block ?_
 obtain⟨r2,g2,h⟩:=bnd h
 refine Goes.imp (Q:=fun x s'=>(x= .exit 0∧(.inl ())=r2∧Sub s' (ofG 15 [],[]))∨(x= .ret∧ ∃q3,(.inr q3)=r2∧qW Tryz.prog [.tmp 2] (.i q3) .ret s')) ?_ ?_
 ·refine Goes.loopS (fun M s=> ∃(n1:Int),s=(ofG 15 ((5,vl encI l)::(kZ (l.length:Int) n1 [])),[])∧yL l M n1=some r2) ?_ (m:=N) ⟨_,rfl,g2⟩
  rintro M s ⟨n1,rfl,g2⟩
  cases M with
  |zero=>simp only[yL]at g2;cases g2
  |succ M=>
   rw[yL]at g2
   refine sh fol ((5,vl encI l)::(kZ (l.length:Int) n1 (kBU (decide (n1<(l.length:Int)))))) ?_
   refine sq ?_
   refine ihD g2 (fun c4 g2=>?_) (fun c4 g2=>?_)
   ·refine Goes.skip ?_
    refine sq (Goes.block ?_)
    obtain⟨x5,e_x5,g2⟩:=bnd g2
    refine sq (gr fol [0,1] ((4,.i x5)::(5,vl encI l)::(kZ (l.length:Int) n1 [])) (ac (iv xI encI e_x5) (ac (lv 0 ce3 encI e_x5 rfl) az)) ?_)
    refine sh fol ((4,.i x5)::(5,vl encI l)::(kZ (l.length:Int) n1 [(12,.bool (!decide (x5=0)))])) ?_
    refine ihB g2 (fun c6 g2=>?_) (fun c6 g2=>?_)
    ·refine sh fol [(2,.i x5)] ?_
     refine Goes.ret ?_
     obtain rfl:=si g2
     exact Or.inr (⟨rfl,_,rfl,(gw2 [.i x5] (FzW.still tI))⟩)
    ·refine Goes.skip ?_
     refine gh fol ((5,vl encI l)::(kZ (l.length:Int) (w64 (n1+1)) [])) ?_
     exact⟨M,(ofG 15 ((5,vl encI l)::(kZ (l.length:Int) (w64 (n1+1)) [])),[]),Nat.lt_succ_self _,(Sub.refl _),_,rfl,g2⟩
   ·refine Goes.exit ?_
    obtain rfl:=si g2
    exact Or.inl (⟨rfl,rfl,(Sub.keep [] rfl rfl)⟩)
 rintro x s' (⟨rfl,rfl,hsub⟩|⟨rfl,q7,rfl,hret⟩)
 ·try dsimp only at h
  refine Goes.sub hsub ?_
  refine sh fol [(2,.i 0)] ?_
  refine Goes.ret ?_
  obtain rfl:=si h
  exact(gw2 [.i 0] (FzW.still tI))
 ·try dsimp only at h
  obtain rfl:=si h
  exact hret
def qbE (holds:Bool) (e:Int):Option Int:=
 if holds=true then
 some e
 else
 some 0
theorem qff (holds:Bool) (e:Int) {res:Int} (h:qbE holds e=some res):qg Tryz.prog (.fn 30) [.bool holds,.i e] [] (.i res) []:=by
 unfold qbE at h
 refine Goes.fnW Tryz.func30 rfl rfl (m:=7) rfl (rs:=[.tmp 4]) rfl (l:=[(0,.bool holds),(1,.i e)]) rfl ?_
 refine sh fol [(0,.bool holds),(1,.i e)] ?_
 refine sq ?_
 refine sh fol [(1,.i e),(5,.bool holds)] ?_
 refine ihB h (fun c1 h=>?_) (fun c1 h=>?_)
 ·refine sh fol (kAv e) ?_
  refine Goes.ret ?_
  obtain rfl:=si h
  exact(gw2 [.i e] (FzW.still tI))
 ·refine Goes.skip ?_
  refine sh fol kBW ?_
  refine Goes.ret ?_
  obtain rfl:=si h
  exact(gw2 [.i 0] (FzW.still tI))
def qbT (day:Int):Option Int:=
 (jD day 0 99999).bind fun r1=>
 (qbE r1 3).bind fun r2=>
 some r2
theorem qim (day:Int) {res:Int} (h:qbT day=some res):qg Tryz.prog (.fn 31) [.i day] [] (.i res) []:=by
 unfold qbT at h
 refine Goes.fnW Tryz.func31 rfl rfl (m:=6) rfl (rs:=[.tmp 2]) rfl (l:=[(0,.i day)]) rfl ?_
 refine sh fol [(0,.i day)] ?_
 obtain⟨r1,e_r1,h⟩:=bnd h
 obtain⟨r2,e_r2,h⟩:=bnd h
 refine sq (gr fol [1,2] [(2,.i r2)] (ac (cv (jf day 0 99999 e_r1)) (ac (cv (qff r1 3 e_r2)) az)) ?_)
 refine Goes.ret ?_
 obtain rfl:=si h
 exact(gw2 [.i r2] (FzW.still tI))
def yo (r:qy) (day:Int):Nat→(List Str)→Int→Option (List Str)
 |0,_,_=>none
 |K+1,l1,n2=>
  if n2<(r.Slings.length:Int)then
  ((((idx r.Slings n2).bind fun x8=>
  (xe x8 day).bind fun r9=>
  if(!r9)=true then
  (qaA x8 day).bind fun r11=>
  some (!r11)
  else
  some false:Option Bool).bind fun b12=>
  if b12=true then
  (idx r.Slings n2).bind fun x15=>
  (app 16 l1 [x15.Name]).bind fun l16=>
  some l16
  else
  some l1:Option (List Str))).bind fun l6=>
  yo r day K l6 (w64 (n2+1))
  else
  some l1
def qds (N:Nat) (r:qy) (day:Int):Option (List Str):=
 (yo r day N ([]:List Str) 0).bind fun l3=>
 some l3
theorem qjz (N:Nat) (r:qy) (day:Int) {res:List Str} (h:qds N r day=some res):qg Tryz.prog (.fn 39) (kAe r.Day r.Slings [.i day]) [] (vl encS res) []:=by
 unfold qds at h
 refine Goes.fnW Tryz.func39 rfl rfl (m:=42) rfl (rs:=[.tmp 4]) rfl (l:=(kBs r.Day r.Slings [(1,.i day)])) rfl ?_
 refine sg fol ((1,.i day)::(kK [])) (kE r.Day r.Slings []) ?_
 refine sh fol ((1,.i day)::(kK [(5,.nilslice)])) ?_
 refine sq ?_
 refine sh fol ((1,.i day)::(kK [(5,.nilslice),(6,.i 0)])) ?_
 refine Goes.block ?_
 obtain⟨r4,g4,h⟩:=bnd h
 refine Goes.imp (Q:=fun x s'=>(x= .exit 0∧ ∃l3,l3=r4∧Sub s' (ofG 42 [(5,.gslice 0 l3.length 1)],(kH l3 [])))) ?_ ?_
 ·refine Goes.sub (s':=(ofG 42 ((1,.i day)::(kK [(5,.gslice 1 ([]:List Str).length 1),(6,.i 0)])),(kE r.Day r.Slings (kAm [])))) (Sub.norm [] [some 0,none] rfl rfl (.keep (.same nI) (.kp (.keep .nil (.keep (.same nI) .nil)))) (.kb rfl (.same sn) (.fresh .nil))) ?_
  refine Goes.loopS (fun M s=> ∃(l1:List Str) (n2:Int),s=(ofG 42 ((1,.i day)::(kK (kBC l1 n2 []))),(kE r.Day r.Slings (kH l1 [])))∧yo r day M l1 n2=some r4) ?_ (m:=N) ⟨_,_,rfl,g4⟩
  rintro M s ⟨l1,n2,rfl,g4⟩
  cases M with
  |zero=>simp only[yo]at g4;cases g4
  |succ M=>
   rw[yo]at g4
   refine sq ?_
   refine sh fol ((1,.i day)::(kK (kBC l1 n2 [(11,.bool (decide (n2<(r.Slings.length:Int))))]))) ?_
   refine ihD g4 (fun c5 g4=>?_) (fun c5 g4=>?_)
   ·refine Goes.skip ?_
    refine sq ?_
    obtain⟨r7,g7,g4⟩:=bnd g4
    refine Goes.imp (Q:=fun x s'=>(x= .normal∧ ∃l6,l6=r7∧Sub s' (ofG 42 ((1,.i day)::(kK (kBC l6 n2 []))),(kE r.Day r.Slings (kH l6 []))))) ?_ ?_
    ·refine Goes.block ?_
     refine sq ?_
     obtain⟨b12,g_v13,g7⟩:=bnd g7
     refine Goes.cut (s':=(ofG 42 ((1,.i day)::(kK (kBC l1 n2 [(31,.bool b12)]))),(kE r.Day r.Slings (kH l1 [])))) ?_ ?_
     ·obtain⟨x8,e_x8,g_v13⟩:=bnd g_v13
      obtain⟨r9,e_r9,g_v13⟩:=bnd g_v13
      rcases wyB g_v13 with⟨c10,g_v13⟩|⟨c10,g_v13⟩
      ·obtain⟨r11,e_r11,g_v13⟩:=bnd g_v13
       obtain rfl:=si g_v13
       exact tr fol [3,4,6,8,12,13,15] ((1,.i day)::(kK (kBC l1 n2 [(31,.bool (!r11))]))) (ac (iv qb2 qd e_x8) (ac (la qlj qd e_x8) (ac (cv (qaE x8 day e_r9)) (ac (gw c10) (ac (iv qb2 qd e_x8) (ac (la qlj qd e_x8) (ac (cv (qeD x8 day e_r11)) az)))))))
      ·obtain rfl:=si g_v13
       exact tr fol [3,4,6,8] ((1,.i day)::(kK (kBC l1 n2 [(31,.bool false)]))) (ac (iv qb2 qd e_x8) (ac (la qlj qd e_x8) (ac (cv (qaE x8 day e_r9)) (ac (gw c10) az))))
     refine ihB g7 (fun c14 g7=>?_) (fun c14 g7=>?_)
     ·obtain⟨x15,e_x15,g7⟩:=bnd g7
      obtain⟨l16,e_l16,g7⟩:=bnd g7
      refine gq fol [4,6,8] ((1,.i day)::(kK ((5,.gslice 3 l16.length 1)::(kBu n2)))) (kE r.Day r.Slings (.dead::(kAM x15.Name (kH l16 [])))) (ac (iv qb2 qd e_x15) (ac (lv 0 ce9 qd e_x15 rfl) (ac (hs (.run [1,2] (qz Tryz.prog [23,23] (.gslice 1 l1.length 1) (.slice 2 0 1 1 1)) (kE r.Day r.Slings (kH l1 (kAM x15.Name []))) (.gslice 3 l16.length 1) (kE r.Day r.Slings (.dead::(kAM x15.Name (kH l16 [])))) true) (ko zi (E:=encS) rfl (xm (E:=encS) (ys:=[x15.Name]) rfl rfl rfl rfl) (qcF (E:=encS) (l:=l1) rfl rfl rfl e_l16 rfl))) az))) ?_
      obtain rfl:=si g7
      exact⟨rfl,_,rfl,(Sub.norm [] [some 0,some 3] rfl rfl (.keep (.same nI) (.kp (.keep (.gslice rfl) (.keep (.same nI) .nil)))) (.kb rfl (.same sn) (.ks .nil)))⟩
     ·refine Goes.skip ?_
      obtain rfl:=si g7
      exact⟨rfl,_,rfl,(Sub.keep [1,2,5,6] rfl rfl)⟩
    rintro x s' ⟨rfl,l6,rfl,hsub⟩
    refine Goes.sub hsub ?_
    refine gh fol ((1,.i day)::(kK (kBC l6 (w64 (n2+1)) []))) ?_
    exact⟨M,(ofG 42 ((1,.i day)::(kK (kBC l6 (w64 (n2+1)) []))),(kE r.Day r.Slings (kH l6 []))),Nat.lt_succ_self _,(Sub.refl _),_,_,rfl,g4⟩
   ·refine Goes.exit ?_
    obtain rfl:=si g4
    exact⟨rfl,_,rfl,(Sub.norm [] [some 1] rfl rfl (.drop (.drop (.keep (.gslice rfl) .nil))) (.ks .nil))⟩
 rintro x s' ⟨rfl,l3,rfl,hsub⟩
 refine Goes.sub hsub ?_
 refine sh fol [(4,.gslice 0 l3.length 1)] ?_
 refine Goes.ret ?_
 obtain rfl:=si h
 exact(gw2 [.gslice 0 l3.length 1] (FzW.fz (Fz.gs (E:=encS) rfl rfl (nl rfl))))
def vM (N:Nat) (x20:qc):Nat→(List Str)→Int→Option (List Str)
 |0,_,_=>none
 |K+1,l21,n22=>
  if n22<6 then
  (idx ([x20.Born,x20.Last,x20.Uses,x20.Used,x20.Limit,x20.Until]:List Int) n22).bind fun x26=>
  (xk N x26).bind fun r27=>
  (app 16 l21 [r27]).bind fun l28=>
  vM N x20 K l28 (w64 (n22+1))
  else
  some l21
def vS (r12:qy×Int×Int):Nat→(List Str)→Int→Option (List Str)
 |0,_,_=>none
 |K+1,l33,n34=>
  if n34<(r12.1.Slings.length:Int)then
  (idx r12.1.Slings n34).bind fun x38=>
  (app 16 l33 [x38.Name]).bind fun l39=>
  vS r12 K l39 (w64 (n34+1))
  else
  some l33
def qbN (N:Nat) (l:List qb) (line:Str):Option (Str×Int):=
 (strings_Split N line [32]).bind fun r1=>
 (some (qeg ([]:List (Str×Int)) [115,108,105,110,103] 2)).bind fun m2=>
 (some (qeg m2 [115,108,105,110,103,115] 1)).bind fun m3=>
 (some (qeg m3 [100,117,101] 2)).bind fun m4=>
 (idx r1 0).bind fun x5=>
 if((qen m4 x5).getD 0)=0 then
 some ([],13)
 else
 (if(!decide ((r1.length:Int)=((qen m4 x5).getD 0)))=true then
 some true
 else
 (idx r1 (w64 (((qen m4 x5).getD 0)-1))).bind fun x8=>
 some (x8==[]):Option Bool).bind fun b9=>
 if b9=true then
 some ([],25)
 else
 (vH N l).bind fun r12=>
 ((if(x5==[115,108,105,110,103])=true then
 (idx r1 1).bind fun x17=>
 (qdA N (⟨r12.1.Day,r12.1.Slings⟩:qy) x17).bind fun r18=>
 if r18<0 then
 some (.inr ([],10))
 else
 (idx r12.1.Slings r18).bind fun x20=>
 (vM N x20 N ([x20.Batch]:List Str) 0).bind fun l23=>
 if x20.Gone=true then
 (app 16 l23 [[103,111,110,101]]).bind fun l30=>
 some (.inl l30)
 else
 (app 16 l23 [[107,101,112,116]]).bind fun l31=>
 some (.inl l31)
 else
 if(x5==[115,108,105,110,103,115])=true then
 (vS r12 N ([]:List Str) 0).bind fun l35=>
 some (.inl l35)
 else
 if(x5==[100,117,101])=true then
 (idx r1 1).bind fun x41=>
 (xc N x41).bind fun r42=>
 (qbE (!r42.2) 25).bind fun r43=>
 (qbT r42.1).bind fun r44=>
 (qbQ N ([r43,r44]:List Int)).bind fun r45=>
 if(!decide (r45=0))=true then
 some (.inr ([],r45))
 else
 (qds N (⟨r12.1.Day,r12.1.Slings⟩:qy) r42.1).bind fun r47=>
 some (.inl r47)
 else
 some (.inl []):Option ((List Str)⊕(Str×Int)))).bind (fun
 |(.inl l13)=>
 if(l13.length:Int)=0 then
 some ([110,111,110,101],0)
 else
 (qfe l13 [32]).bind fun r49=>
 some (r49,0)
 |(.inr q50)=>
 some q50)
theorem qig (N:Nat) (l:List qb) (line:Str) {res:Str×Int} (h:qbN N l line=some res):qg Tryz.prog (.fn 108) (kA5 l [.str line]) [] (.tuple [.str res.1,.i res.2]) []:=by
 unfold qbN at h
 refine Goes.fnW Tryz.func108 rfl rfl (m:=143) rfl (rs:=[.tmp 4,.tmp 5]) rfl (l:=(kL l [(1,.str line)])) rfl ?_
 refine sh fol (kL l [(1,.str line)]) ?_
 obtain⟨r1,e_r1,h⟩:=bnd h
 refine sq (gr fol [1] (kL l [(6,vl encS r1)]) (ac (cv (qaC N line [32] e_r1)) az) ?_)
 obtain⟨m2,e_m2,h⟩:=bnd h
 obtain⟨m3,e_m3,h⟩:=bnd h
 obtain⟨m4,e_m4,h⟩:=bnd h
 obtain⟨x5,e_x5,h⟩:=bnd h
 refine sq (gq fol [1,2,3,6,7,8] (kL l [(6,vl encS r1),(7,.i ((qen m4 x5).getD 0))]) [mI m4] (ac (hs (.run [0] (xN Tryz.prog 65 (.map 0) (.str [115,108,105,110,103]) (.i 2)) [mI ([]:List (Str×Int))] .undef [mI m2] true) (upm qmn keyS fI rfl [115,108,105,110,103] 2 e_m2 rfl)) (ac (hs (.run [0] (xN Tryz.prog 65 (.map 0) (.str [115,108,105,110,103,115]) (.i 1)) [mI m2] .undef [mI m3] true) (upm qmn keyS fI rfl [115,108,105,110,103,115] 1 e_m3 rfl)) (ac (hs (.run [0] (xN Tryz.prog 65 (.map 0) (.str [100,117,101]) (.i 2)) [mI m3] .undef [mI m4] true) (upm qmn keyS fI rfl [100,117,101] 2 e_m4 rfl)) (ac (iv zi encS e_x5) (ac (lv 0 ce9 encS e_x5 rfl) (ac (hs (.run [0] (qL Tryz.prog 65 (.map 0) (.str x5) false) [mI m4] (.i ((qen m4 x5).getD 0)) [mI m4] false) (qnc (z:=0) (f:=fI) qmn keyS rfl x5)) az)))))) ?_)
 refine sq ?_
 refine sh fol (kL l [(6,vl encS r1),(7,.i ((qen m4 x5).getD 0)),(30,.bool (decide (((qen m4 x5).getD 0)=0)))]) ?_
 refine ihD h (fun c6 h=>?_) (fun c6 h=>?_)
 ·refine sh fol (kBr [(5,.i 13)]) ?_
  refine Goes.ret ?_
  obtain rfl:=si h
  exact(gw2 [.str [],.i 13] (FzW.tuple (qh.cons (FzW.still tS) (qh.cons (FzW.still tI) qh.nil))))
 ·refine Goes.skip ?_
  refine sq ?_
  refine sq ?_
  obtain⟨b9,g_v10,h⟩:=bnd h
  refine Goes.cut (s':=(ofG 143 (kL l [(6,vl encS r1),(42,.bool b9)]),[mI m4])) ?_ ?_
  ·rcases wyB g_v10 with⟨c7,g_v10⟩|⟨c7,g_v10⟩
   ·obtain rfl:=si g_v10
    exact tr fol [4] (kL l [(6,vl encS r1),(42,.bool true)]) (ac (gw c7) az)
   ·obtain⟨x8,e_x8,g_v10⟩:=bnd g_v10
    obtain rfl:=si g_v10
    exact tr fol [4,8,9] (kL l [(6,vl encS r1),(42,.bool (x8==[]))]) (ac (gw c7) (ac (iv zi encS e_x8) (ac (lv 0 ce9 encS e_x8 rfl) az)))
  refine ihB h (fun c11 h=>?_) (fun c11 h=>?_)
  ·refine sh fol (kBr [(5,.i 25)]) ?_
   refine Goes.ret ?_
   obtain rfl:=si h
   exact(gw2 [.str [],.i 25] (FzW.tuple (qh.cons (FzW.still tS) (qh.cons (FzW.still tI) qh.nil))))
  ·refine Goes.skip ?_
   obtain⟨r12,e_r12,h⟩:=bnd h
   refine sq (gq fol [1] ((6,vl encS r1)::(kBk [])) (mI m4::(kE r12.1.Day r12.1.Slings [])) (ac (cv (qaV N l e_r12)) az) ?_)
   refine sh fol (kBG r1 []) ?_
   refine sq ?_
   refine sq (gr fol [1,2] (kBG r1 [(51,.str x5)]) (ac (iv zi encS e_x5) (ac (lv 0 ce9 encS e_x5 rfl) az)) ?_)
   obtain⟨r14,g14,h⟩:=bnd h
   refine Goes.imp (Q:=fun x s'=>(x= .normal∧ ∃l13,(.inl l13)=r14∧Sub s' (ofG 143 [(11,vl encS l13)],[]))∨(x= .ret∧ ∃q15,(.inr q15)=r14∧qW Tryz.prog [.tmp 4,.tmp 5] (.tuple [.str q15.1,.i q15.2]) .ret s')) ?_ ?_
   ·refine Goes.block ?_
    refine sh fol (kBG r1 [(51,.str x5),(52,.bool (x5==[115,108,105,110,103]))]) ?_
    refine ihB g14 (fun c16 g14=>?_) (fun c16 g14=>?_)
    ·obtain⟨x17,e_x17,g14⟩:=bnd g14
     obtain⟨r18,e_r18,g14⟩:=bnd g14
     refine sq (gr fol [2,3,4] (kBk [(12,.i r18)]) (ac (iv zi encS e_x17) (ac (lv 0 ce9 encS e_x17 rfl) (ac (cv (qgO N (⟨r12.1.Day,r12.1.Slings⟩:qy) x17 e_r18)) az))) ?_)
     refine sq ?_
     refine sh fol (kBk [(12,.i r18),(60,.bool (decide (r18<0)))]) ?_
     refine ihD g14 (fun c19 g14=>?_) (fun c19 g14=>?_)
     ·refine sh fol (kBr [(5,.i 10)]) ?_
      refine Goes.ret ?_
      obtain rfl:=si g14
      exact Or.inr (⟨rfl,_,rfl,(gw2 [.str [],.i 10] (FzW.tuple (qh.cons (FzW.still tS) (qh.cons (FzW.still tI) qh.nil))))⟩)
     ·refine Goes.skip ?_
      obtain⟨x20,e_x20,g14⟩:=bnd g14
      refine sq (gq fol [3,4] [(13,.ptr 2 0)] (mI m4::(kE r12.1.Day r12.1.Slings (kAw x20 []))) (ac (iv qb2 qd e_x20) (ac (la qlj qd e_x20) az)) ?_)
      refine sg fol [(11,.slice 3 0 1 1 1),(13,.ptr 2 0)] (mI m4::(kE r12.1.Day r12.1.Slings (kAw x20 (kAM x20.Batch [])))) ?_
      refine sq ?_
      refine sg fol [(11,.slice 3 0 1 1 1),(13,.ptr 2 0),(81,.slice 4 0 6 6 1),(82,.i 6),(83,.i 0)] (mI m4::(kE r12.1.Day r12.1.Slings (kAw x20 (kAM x20.Batch (kBR x20.Born x20.Last x20.Uses x20.Used x20.Limit x20.Until []))))) ?_
      refine Goes.block ?_
      obtain⟨r24,g24,g14⟩:=bnd g14
      refine Goes.imp (Q:=fun x s'=>(x= .exit 1∧ ∃l23,l23=r24∧Sub s' (ofG 143 (kBy l23 [(13,.ptr 1 0)]),(kH l23 (kAw x20 []))))) ?_ ?_
      ·refine Goes.sub (s':=(ofG 143 (kBy ([x20.Batch]:List Str) (kAo [(83,.i 0)])),(kH ([x20.Batch]:List Str) (kAw x20 (kBR x20.Born x20.Last x20.Uses x20.Used x20.Limit x20.Until []))))) (Sub.norm [9999] [some 3,some 2,some 4] rfl rfl (.keep (kg.own rfl rfl (by kernel_rfl) (by kernel_rfl) rfl rfl) (.kp (.keep (.slice rfl) (.keep (.same nI) (.keep (.same nI) .nil))))) (.ks (.kb rfl (.same sn) (.kb rfl (.same sn) .nil)))) ?_
       refine Goes.loopS (fun M s=> ∃(l21:List Str) (n22:Int),s=(ofG 143 (kBy l21 (kAo [(83,.i n22)])),(kH l21 (kAw x20 (kBR x20.Born x20.Last x20.Uses x20.Used x20.Limit x20.Until []))))∧vM N x20 M l21 n22=some r24) ?_ (m:=N) ⟨_,_,rfl,g24⟩
       rintro M s ⟨l21,n22,rfl,g24⟩
       cases M with
       |zero=>simp only[vM]at g24;cases g24
       |succ M=>
        rw[vM]at g24
        refine sh fol (kBy l21 (kAo [(83,.i n22),(84,.bool (decide (n22<6)))])) ?_
        refine sq ?_
        refine ihD g24 (fun c25 g24=>?_) (fun c25 g24=>?_)
        ·refine Goes.skip ?_
         refine sq (Goes.block ?_)
         obtain⟨x26,e_x26,g24⟩:=bnd g24
         refine sq (gr fol [0,1] (kBy l21 [(13,.ptr 1 0),(15,.i x26),(81,.slice 2 0 6 6 1),(82,.i 6),(83,.i n22)]) (ac (hs (.done (.opt (qE Tryz.prog 24 (.slice 2 0 ([x20.Born,x20.Last,x20.Uses,x20.Used,x20.Limit,x20.Until]:List Int).length ([x20.Born,x20.Last,x20.Uses,x20.Used,x20.Limit,x20.Until]:List Int).length 1) (.i n22))) (.ptr 2 ((n22:Int).toNat*1+0))) (qiW xI e_x26)) (ac (hs (.run [2] (jP Tryz.prog 3 (.ptr 2 ((n22:Int).toNat*1+0))) (kH l21 (kAw x20 (kBR x20.Born x20.Last x20.Uses x20.Used x20.Limit x20.Until []))) (.i x26) (kH l21 (kAw x20 (kBR x20.Born x20.Last x20.Uses x20.Used x20.Limit x20.Until []))) false) (qiw ce3 (E:=encI) (l:=([x20.Born,x20.Last,x20.Uses,x20.Used,x20.Limit,x20.Until]:List Int)) rfl rfl e_x26 (nl rfl) rfl)) az)) ?_)
         obtain⟨r27,e_r27,g24⟩:=bnd g24
         obtain⟨l28,e_l28,g24⟩:=bnd g24
         refine gq fol [2,4] ((11,.oslice 4 l28.length 1)::(kAo [(83,.i n22)])) (.dead::(kAw x20 (kBR x20.Born x20.Last x20.Uses x20.Used x20.Limit x20.Until (kAM r27 (kH l28 []))))) (ac (cv (qaN N x26 e_r27)) (ac (hs (.run [0,3] (qz Tryz.prog [23,23] (.oslice 0 l21.length 1) (.slice 3 0 1 1 1)) (kH l21 (kAw x20 (kBR x20.Born x20.Last x20.Uses x20.Used x20.Limit x20.Until (kAM r27 [])))) (.oslice 4 l28.length 1) (.dead::(kAw x20 (kBR x20.Born x20.Last x20.Uses x20.Used x20.Limit x20.Until (kAM r27 (kH l28 []))))) true) (ko zi (E:=encS) rfl (xm (E:=encS) (ys:=[r27]) rfl rfl rfl rfl) (qdv (E:=encS) (l:=l21) rfl rfl rfl e_l28 rfl))) az)) ?_
         refine gh fol ((11,.oslice 4 l28.length 1)::(kAo [(83,.i (w64 (n22+1)))])) ?_
         exact⟨M,(ofG 143 (kBy l28 (kAo [(83,.i (w64 (n22+1)))])),(kH l28 (kAw x20 (kBR x20.Born x20.Last x20.Uses x20.Used x20.Limit x20.Until [])))),Nat.lt_succ_self _,(Sub.norm [] [some 4,some 1,some 2] rfl rfl (.keep (.oslice rfl) (.kp (.keep (.slice rfl) (.keep (.same nI) (.keep (.same nI) .nil))))) (.ks (.kb rfl (.same sn) (.kb rfl (.same sn) .nil)))),_,_,rfl,g24⟩
        ·refine Goes.exit ?_
         obtain rfl:=si g24
         exact⟨rfl,_,rfl,(Sub.norm [] [some 0,some 1] rfl rfl (.keep (.oslice rfl) (.kp .nil)) (.ks (.kb rfl (.same sn) .nil)))⟩
      rintro x s' ⟨rfl,l23,rfl,hsub⟩
      refine Goes.sub hsub ?_
      refine sh fol (kBy l23 [(94,.bool x20.Gone)]) ?_
      refine ihB g14 (fun c29 g14=>?_) (fun c29 g14=>?_)
      ·obtain⟨l30,e_l30,g14⟩:=bnd g14
       refine gq fol [2] [(11,.oslice 3 l30.length 1)] (.dead::(kAw x20 (.cells [.str [103,111,110,101]]::(kH l30 [])))) (ac (hs (.run [0,2] (qz Tryz.prog [23,23] (.oslice 0 l23.length 1) (.slice 2 0 1 1 1)) (kH l23 (kAw x20 [.cells [.str [103,111,110,101]]])) (.oslice 3 l30.length 1) (.dead::(kAw x20 (.cells [.str [103,111,110,101]]::(kH l30 [])))) true) (ko zi (E:=encS) rfl (xm (E:=encS) (ys:=[[103,111,110,101]]) rfl rfl rfl rfl) (qdv (E:=encS) (l:=l23) rfl rfl rfl e_l30 rfl))) az) ?_
       obtain rfl:=si g14
       exact Or.inl (⟨rfl,_,rfl,(Sub.norm [3] [] rfl rfl (.keep (.frz (Fz.os (E:=encS) rfl rfl (nl rfl)) (qo encS _)) .nil) .nil)⟩)
      ·obtain⟨l31,e_l31,g14⟩:=bnd g14
       refine gq fol [2] [(11,.oslice 3 l31.length 1)] (.dead::(kAw x20 (.cells [.str [107,101,112,116]]::(kH l31 [])))) (ac (hs (.run [0,2] (qz Tryz.prog [23,23] (.oslice 0 l23.length 1) (.slice 2 0 1 1 1)) (kH l23 (kAw x20 [.cells [.str [107,101,112,116]]])) (.oslice 3 l31.length 1) (.dead::(kAw x20 (.cells [.str [107,101,112,116]]::(kH l31 [])))) true) (ko zi (E:=encS) rfl (xm (E:=encS) (ys:=[[107,101,112,116]]) rfl rfl rfl rfl) (qdv (E:=encS) (l:=l23) rfl rfl rfl e_l31 rfl))) az) ?_
       obtain rfl:=si g14
       exact Or.inl (⟨rfl,_,rfl,(Sub.norm [3] [] rfl rfl (.keep (.frz (Fz.os (E:=encS) rfl rfl (nl rfl)) (qo encS _)) .nil) .nil)⟩)
    ·refine sh fol (kBG r1 [(51,.str x5),(101,.bool (x5==[115,108,105,110,103,115]))]) ?_
     refine ihB g14 (fun c32 g14=>?_) (fun c32 g14=>?_)
     ·refine sh fol ((11,.nilslice)::(kBH r12.1.Slings (r12.1.Slings.length:Int) [(106,.i 0)])) ?_
      refine Goes.block ?_
      obtain⟨r36,g36,g14⟩:=bnd g14
      refine Goes.imp (Q:=fun x s'=>(x= .exit 3∧ ∃l35,l35=r36∧Sub s' (ofG 143 [(11,.gslice 0 l35.length 1)],(kH l35 [])))) ?_ ?_
      ·refine Goes.sub (s':=(ofG 143 ((11,.gslice 0 ([]:List Str).length 1)::(kBH r12.1.Slings (r12.1.Slings.length:Int) [(106,.i 0)])),(kAm []))) (Sub.norm [] [none] rfl rfl (.keep .nil (.keep (.same (qo qd _)) (.keep (.same nI) (.keep (.same nI) .nil)))) (.fresh .nil)) ?_
       refine Goes.loopS (fun M s=> ∃(l33:List Str) (n34:Int),s=(ofG 143 ((11,.gslice 0 l33.length 1)::(kBH r12.1.Slings (r12.1.Slings.length:Int) [(106,.i n34)])),(kH l33 []))∧vS r12 M l33 n34=some r36) ?_ (m:=N) ⟨_,_,rfl,g36⟩
       rintro M s ⟨l33,n34,rfl,g36⟩
       cases M with
       |zero=>simp only[vS]at g36;cases g36
       |succ M=>
        rw[vS]at g36
        refine sh fol ((11,.gslice 0 l33.length 1)::(kBH r12.1.Slings (r12.1.Slings.length:Int) [(106,.i n34),(107,.bool (decide (n34<(r12.1.Slings.length:Int))))])) ?_
        refine sq ?_
        refine ihD g36 (fun c37 g36=>?_) (fun c37 g36=>?_)
        ·refine Goes.skip ?_
         refine sq (Goes.block ?_)
         obtain⟨x38,e_x38,g36⟩:=bnd g36
         refine sq (gq fol [0,1] ((11,.gslice 0 l33.length 1)::(17,.ptr 1 0)::(kBH r12.1.Slings (r12.1.Slings.length:Int) [(106,.i n34)])) (kH l33 (kAw x38 [])) (ac (iv qb2 qd e_x38) (ac (la qlj qd e_x38) az)) ?_)
         obtain⟨l39,e_l39,g36⟩:=bnd g36
         refine gq fol [4] ((11,.gslice 3 l39.length 1)::(kBH r12.1.Slings (r12.1.Slings.length:Int) [(106,.i n34)])) (.dead::(kAw x38 (kAM x38.Name (kH l39 [])))) (ac (hs (.run [0,2] (qz Tryz.prog [23,23] (.gslice 0 l33.length 1) (.slice 2 0 1 1 1)) (kH l33 (kAw x38 (kAM x38.Name []))) (.gslice 3 l39.length 1) (.dead::(kAw x38 (kAM x38.Name (kH l39 [])))) true) (ko zi (E:=encS) rfl (xm (E:=encS) (ys:=[x38.Name]) rfl rfl rfl rfl) (qcF (E:=encS) (l:=l33) rfl rfl rfl e_l39 rfl))) az) ?_
         refine gh fol ((11,.gslice 3 l39.length 1)::(kBH r12.1.Slings (r12.1.Slings.length:Int) [(106,.i (w64 (n34+1)))])) ?_
         exact⟨M,(ofG 143 ((11,.gslice 0 l39.length 1)::(kBH r12.1.Slings (r12.1.Slings.length:Int) [(106,.i (w64 (n34+1)))])),(kH l39 [])),Nat.lt_succ_self _,(Sub.norm [] [some 3] rfl rfl (.keep (.gslice rfl) (.keep (.same (qo qd _)) (.keep (.same nI) (.keep (.same nI) .nil)))) (.ks .nil)),_,_,rfl,g36⟩
        ·refine Goes.exit ?_
         obtain rfl:=si g36
         exact⟨rfl,_,rfl,(Sub.keep [11] rfl rfl)⟩
      rintro x s' ⟨rfl,l35,rfl,hsub⟩
      obtain rfl:=si g14
      exact Or.inl (⟨rfl,_,rfl,(hsub.trans (Sub.norm [0] [] rfl rfl (.keep (.frz (Fz.gs (E:=encS) rfl rfl (nl rfl)) (qo encS _)) .nil) .nil))⟩)
     ·refine sh fol (kBG r1 [(116,.bool (x5==[100,117,101]))]) ?_
      refine ihB g14 (fun c40 g14=>?_) (fun c40 g14=>?_)
      ·obtain⟨x41,e_x41,g14⟩:=bnd g14
       obtain⟨r42,e_r42,g14⟩:=bnd g14
       refine sq (gr fol [1,2,3] (kBk [(18,.i r42.1),(19,.bool r42.2)]) (ac (iv zi encS e_x41) (ac (lv 0 ce9 encS e_x41 rfl) (ac (cv (qbA N x41 e_r42)) az))) ?_)
       refine sq ?_
       obtain⟨r43,e_r43,g14⟩:=bnd g14
       obtain⟨r44,e_r44,g14⟩:=bnd g14
       obtain⟨r45,e_r45,g14⟩:=bnd g14
       refine sq (gq fol [2,4,6] (kBk [(18,.i r42.1),(20,.i r45)]) (mI m4::(kE r12.1.Day r12.1.Slings (kAr r43 r44 []))) (ac (cv (qff (!r42.2) 25 e_r43)) (ac (cv (qim r42.1 e_r44)) (ac (hs (.call 28 [.slice 2 0 2 2 1] (mI m4::(kE r12.1.Day r12.1.Slings (kAr r43 r44 []))) [2] [vl encI ([r43,r44]:List Int)] (.i r45)) (yQ (FzL.cons (Fz.lit rfl rfl (FzL.still (AllST.cons tI (AllST.cons tI AllST.nil)))) FzL.nil) (qhY N ([r43,r44]:List Int) e_r45) tI rfl)) az))) ?_)
       refine sh fol (kBk [(18,.i r42.1),(20,.i r45),(133,.bool (!decide (r45=0)))]) ?_
       refine ihB g14 (fun c46 g14=>?_) (fun c46 g14=>?_)
       ·refine sh fol (kBr (kAb r45)) ?_
        refine Goes.ret ?_
        obtain rfl:=si g14
        exact Or.inr (⟨rfl,_,rfl,(gw2 [.str [],.i r45] (FzW.tuple (qh.cons (FzW.still tS) (qh.cons (FzW.still tI) qh.nil))))⟩)
       ·refine Goes.skip ?_
        obtain⟨r47,e_r47,g14⟩:=bnd g14
        refine gr fol [2] [(11,vl encS r47)] (ac (cv (qjz N (⟨r12.1.Day,r12.1.Slings⟩:qy) r42.1 e_r47)) az) ?_
        obtain rfl:=si g14
        exact Or.inl (⟨rfl,_,rfl,(Sub.norm [] [] rfl rfl (.keep (.same (qo encS _)) .nil) .nil)⟩)
      ·refine Goes.skip ?_
       obtain rfl:=si g14
       exact Or.inl (⟨rfl,_,rfl,(Sub.norm [] [] rfl rfl (.drop (.drop (.keep .nilv .nil))) .nil)⟩)
   rintro x s' (⟨rfl,l13,rfl,hsub⟩|⟨rfl,q50,rfl,hret⟩)
   ·try dsimp only at h
    refine Goes.sub hsub ?_
    refine sq ?_
    refine sh fol [(11,vl encS l13),(140,.bool (decide ((l13.length:Int)=0)))] ?_
    refine ihD h (fun c48 h=>?_) (fun c48 h=>?_)
    ·refine sh fol ((4,.str [110,111,110,101])::kA4) ?_
     refine Goes.ret ?_
     obtain rfl:=si h
     exact(gw2 [.str [110,111,110,101],.i 0] (FzW.tuple (qh.cons (FzW.still tS) (qh.cons (FzW.still tI) qh.nil))))
    ·refine Goes.skip ?_
     obtain⟨r49,e_r49,h⟩:=bnd h
     refine sq (gr fol [1] ((4,.str r49)::kA4) (ac (cv (qhB l13 [32] e_r49)) az) ?_)
     refine Goes.ret ?_
     obtain rfl:=si h
     exact(gw2 [.str r49,.i 0] (FzW.tuple (qh.cons (FzW.still tS) (qh.cons (FzW.still tI) qh.nil))))
   ·try dsimp only at h
    obtain rfl:=si h
    exact hret
def qdx (N:Nat) (l:List qb) (line:Str):Option (Str×Int×(List qb)):=
 if(line==[])=true then
 some ([],25,l)
 else
 (strings_Split N line [32]).bind fun r2=>
 (idx r2 0).bind fun x3=>
 (qa3 x3).bind fun r4=>
 if(!r4.2.2)=true then
 (qbN N l line).bind fun r6=>
 some (r6.1,r6.2,l)
 else
 (qaG N line).bind fun r7=>
 if(!r7.2)=true then
 some ([],25,l)
 else
 (qaS N l (⟨w64 ((l.length:Int)+1),r7.1.Kind,r7.1.Names,r7.1.Values,r7.1.Text⟩:qb)).bind fun r9=>
 if(!decide (r9=0))=true then
 some ([],r9,l)
 else
 (xk N (w64 ((l.length:Int)+1))).bind fun r11=>
 (cat [100,111,110,101,32] r11).bind fun s12=>
 (app 88 ([]:List qb) l).bind fun l13=>
 (app 88 l13 [(⟨w64 ((l.length:Int)+1),r7.1.Kind,r7.1.Names,r7.1.Values,r7.1.Text⟩:qb)]).bind fun l14=>
 some (s12,0,l14)
theorem qjG (N:Nat) (l:List qb) (line:Str) {res:Str×Int×(List qb)} (h:qdx N l line=some res):qg Tryz.prog (.fn 50) (kA5 l [.str line]) [] (.tuple (.str res.1:: .i res.2.1::(kA5 res.2.2 []))) []:=by
 unfold qdx at h
 refine Goes.fnW Tryz.func50 rfl rfl (m:=67) rfl (rs:=[.tmp 4,.tmp 5,.tmp 6]) rfl (l:=(kL l [(1,.str line)])) rfl ?_
 refine sh fol (kL l [(1,.str line)]) ?_
 refine sq ?_
 refine sh fol (kL l [(1,.str line),(16,.bool (line==[]))]) ?_
 refine ihB h (fun c1 h=>?_) (fun c1 h=>?_)
 ·refine sh fol (kBr [(5,.i 25),(6,vl qa l)]) ?_
  refine Goes.ret ?_
  obtain rfl:=si h
  exact(gw2 (.str []:: .i 25::(kA5 l [])) (FzW.tuple (qh.cons (FzW.still tS) (qh.cons (FzW.still tI) (qh.cons (FzW.still (qF qa _ (nl rfl))) qh.nil)))))
 ·refine Goes.skip ?_
  refine sq ?_
  obtain⟨r2,e_r2,h⟩:=bnd h
  obtain⟨x3,e_x3,h⟩:=bnd h
  obtain⟨r4,e_r4,h⟩:=bnd h
  refine sq (gr fol [1,2,3,4] (kL l ((1,.str line)::(kBt r4.2.2))) (ac (cv (qaC N line [32] e_r2)) (ac (iv zi encS e_x3) (ac (lv 0 ce9 encS e_x3 rfl) (ac (cv (qcV x3 e_r4)) az)))) ?_)
  refine sh fol (kL l [(1,.str line),(28,.bool (!r4.2.2))]) ?_
  refine ihB h (fun c5 h=>?_) (fun c5 h=>?_)
  ·obtain⟨r6,e_r6,h⟩:=bnd h
   refine sq (gr fol [2] (kL l [(10,.str r6.1),(11,.i r6.2)]) (ac (cv (qig N l line e_r6)) az) ?_)
   refine sh fol [(4,.str r6.1),(5,.i r6.2),(6,vl qa l)] ?_
   refine Goes.ret ?_
   obtain rfl:=si h
   exact(gw2 (.str r6.1:: .i r6.2::(kA5 l [])) (FzW.tuple (qh.cons (FzW.still tS) (qh.cons (FzW.still tI) (qh.cons (FzW.still (qF qa _ (nl rfl))) qh.nil)))))
  ·refine Goes.skip ?_
   obtain⟨r7,e_r7,h⟩:=bnd h
   refine sq (gq fol [1] (kL l ((12,.ptr 0 0)::(kB0 r7.2))) (kQ r7.1 []) (ac (cv (qd7 N line e_r7)) az) ?_)
   refine sq ?_
   refine sh fol (kL l [(12,.ptr 0 0),(44,.bool (!r7.2))]) ?_
   refine ihB h (fun c8 h=>?_) (fun c8 h=>?_)
   ·refine sh fol (kBr [(5,.i 25),(6,vl qa l)]) ?_
    refine Goes.ret ?_
    obtain rfl:=si h
    exact(gw2 (.str []:: .i 25::(kA5 l [])) (FzW.tuple (qh.cons (FzW.still tS) (qh.cons (FzW.still tI) (qh.cons (FzW.still (qF qa _ (nl rfl))) qh.nil)))))
   ·refine Goes.skip ?_
    refine sg fol (kL l [(12,.ptr 0 0)]) (kN (w64 ((l.length:Int)+1)) r7.1.Kind r7.1.Names r7.1.Values r7.1.Text []) ?_
    refine sq ?_
    obtain⟨r9,e_r9,h⟩:=bnd h
    refine sq (gr fol [2] (kL l [(12,.ptr 0 0),(14,.i r9)]) (ac (cv (qgG N l (⟨w64 ((l.length:Int)+1),r7.1.Kind,r7.1.Names,r7.1.Values,r7.1.Text⟩:qb) e_r9)) az) ?_)
    refine sh fol (kL l [(12,.ptr 0 0),(14,.i r9),(54,.bool (!decide (r9=0)))]) ?_
    refine ihB h (fun c10 h=>?_) (fun c10 h=>?_)
    ·refine sh fol (kBr [(5,.i r9),(6,vl qa l)]) ?_
     refine Goes.ret ?_
     obtain rfl:=si h
     exact(gw2 (.str []:: .i r9::(kA5 l [])) (FzW.tuple (qh.cons (FzW.still tS) (qh.cons (FzW.still tI) (qh.cons (FzW.still (qF qa _ (nl rfl))) qh.nil)))))
    ·refine Goes.skip ?_
     obtain⟨r11,e_r11,h⟩:=bnd h
     obtain⟨s12,e_s12,h⟩:=bnd h
     obtain⟨l13,e_l13,h⟩:=bnd h
     obtain⟨l14,e_l14,h⟩:=bnd h
     refine sq (gq fol [2,3,6,9] [(4,.str s12),(5,.i 0),(6,.oslice 4 l14.length 5)] (kN (w64 ((l.length:Int)+1)) r7.1.Kind r7.1.Names r7.1.Values r7.1.Text (kBZ (kN (w64 ((l.length:Int)+1)) r7.1.Kind r7.1.Names r7.1.Values r7.1.Text (kB l14 [])))) (ac (cv (qaN N (w64 ((l.length:Int)+1)) e_r11)) (ac (hs (.done (.opt (qbf Tryz.prog .add 9 (.const (.string ⟨#[100,111,110,101,32]⟩)) (.tmp 59) (.str [100,111,110,101,32]) (.str r11))) (.str s12)) (yw e_s12)) (ac (hs (.run [1] (qz Tryz.prog [22,22] (.slice 1 0 0 0 5) (vl qa l)) (kN (w64 ((l.length:Int)+1)) r7.1.Kind r7.1.Names r7.1.Values r7.1.Text [.cells []]) (.oslice 2 l13.length 5) (kN (w64 ((l.length:Int)+1)) r7.1.Kind r7.1.Names r7.1.Values r7.1.Text (.dead::(kB l13 []))) true) (ko jo (E:=qa) rfl (qd5 (E:=qa) rfl _) (qf0 (E:=qa) rfl rfl rfl e_l13 rfl))) (ac (hs (.run [2,3] (qz Tryz.prog [22,22] (.oslice 2 l13.length 5) (.slice 3 0 1 1 5)) (kN (w64 ((l.length:Int)+1)) r7.1.Kind r7.1.Names r7.1.Values r7.1.Text (.dead::(kB l13 (kN (w64 ((l.length:Int)+1)) r7.1.Kind r7.1.Names r7.1.Values r7.1.Text [])))) (.oslice 4 l14.length 5) (kN (w64 ((l.length:Int)+1)) r7.1.Kind r7.1.Names r7.1.Values r7.1.Text (kBZ (kN (w64 ((l.length:Int)+1)) r7.1.Kind r7.1.Names r7.1.Values r7.1.Text (kB l14 [])))) true) (ko jo (E:=qa) rfl (xm (E:=qa) (ys:=[(⟨w64 ((l.length:Int)+1),r7.1.Kind,r7.1.Names,r7.1.Values,r7.1.Text⟩:qb)]) rfl rfl rfl rfl) (qdv (E:=qa) (l:=l13) rfl rfl rfl e_l14 rfl))) az)))) ?_)
     refine Goes.ret ?_
     obtain rfl:=si h
     exact(gw2 [.str s12,.i 0,.oslice 4 l14.length 5] (FzW.tuple (qh.cons (FzW.still tS) (qh.cons (FzW.still tI) (qh.cons (FzW.fz (Fz.os (E:=qa) rfl rfl (nl rfl))) qh.nil)))))
def jV (words_:List Str):Option Str:=
 (qfe words_ [32]).bind fun r1=>
 some r1
theorem qao (words_:List Str) {res:Str} (h:jV words_=some res):qg Tryz.prog (.fn 159) [vl encS words_] [] (.str res) []:=by
 unfold jV at h
 refine Goes.fnW Tryz.func159 rfl rfl (m:=5) rfl (rs:=[.tmp 2]) rfl (l:=[(0,vl encS words_)]) rfl ?_
 refine sh fol [(0,vl encS words_)] ?_
 obtain⟨r1,e_r1,h⟩:=bnd h
 refine sq (gr fol [1] [(2,.str r1)] (ac (cv (qhB words_ [32] e_r1)) az) ?_)
 refine Goes.ret ?_
 obtain rfl:=si h
 exact(gw2 [.str r1] (FzW.still tS))
def qbI (p0:Int):Option Bool:=
 some true
theorem qgq (p0:Int) {res:Bool} (h:qbI p0=some res):qg Tryz.prog (.fn 186) [.i p0] [] (.bool res) []:=by
 unfold qbI at h
 refine Goes.fnW Tryz.func186 rfl rfl (m:=3) rfl (rs:=[.tmp 2]) rfl (l:=[(0,.i p0)]) rfl ?_
 refine sh fol [] ?_
 refine sh fol [(2,.bool true)] ?_
 refine Goes.ret ?_
 obtain rfl:=si h
 exact(gw2 [.bool true] (FzW.still tB))
def vX (s_:qc):Option Str:=
 some s_.Name
theorem qbU (s_:qc) {res:Str} (h:vX s_=some res):qg Tryz.prog (.fn 100) [.agg (cS s_)] [] (.str res) []:=by
 unfold vX at h
 refine Goes.fnW Tryz.func100 rfl rfl (m:=5) rfl (rs:=[.tmp 2]) rfl (l:=[(0,.agg (cS s_))]) rfl ?_
 refine sg fol (kV []) (kAw s_ []) ?_
 refine sh fol [(2,.str s_.Name)] ?_
 refine Goes.ret ?_
 obtain rfl:=si h
 exact(gw2 [.str s_.Name] (FzW.still tS))
def vD (p0:qc):Option Bool:=
 some true
theorem qcc (p0:qc) {res:Bool} (h:vD p0=some res):qg Tryz.prog (.fn 196) [.agg (cS p0)] [] (.bool res) []:=by
 unfold vD at h
 refine Goes.fnW Tryz.func196 rfl rfl (m:=3) rfl (rs:=[.tmp 2]) rfl (l:=[(0,.agg (cS p0))]) rfl ?_
 refine sg fol [] (kAw p0 []) ?_
 refine sh fol [(2,.bool true)] ?_
 refine Goes.ret ?_
 obtain rfl:=si h
 exact(gw2 [.bool true] (FzW.still tB))
def qaH (s_:qc) (day:Int):Option Bool:=
 ((jc s_ day).bind fun r1=>
 if(!r1)=true then
 (j6 s_ day).bind fun r3=>
 some (!r3)
 else
 some false:Option Bool).bind fun b4=>
 some b4
theorem qe4 (s_:qc) (day:Int) {res:Bool} (h:qaH s_ day=some res):qg Tryz.prog (.fn 99) [.agg (cS s_),.i day] [] (.bool res) []:=by
 unfold qaH at h
 refine Goes.fnW Tryz.func99 rfl rfl (m:=15) rfl (rs:=[.tmp 4]) rfl (l:=[(0,.agg (cS s_)),(1,.i day)]) rfl ?_
 refine sg fol ((1,.i day)::(kK [])) (kAw s_ []) ?_
 refine sq ?_
 obtain⟨b4,g_v5,h⟩:=bnd h
 refine Goes.cut (s':=(ofG 15 (kAy b4),(kAw s_ []))) ?_ ?_
 ·obtain⟨r1,e_r1,g_v5⟩:=bnd g_v5
  rcases wyB g_v5 with⟨c2,g_v5⟩|⟨c2,g_v5⟩
  ·obtain⟨r3,e_r3,g_v5⟩:=bnd g_v5
   obtain rfl:=si g_v5
   exact tr fol [2,4,7] (kAy (!r3)) (ac (cv (vU s_ day e_r1)) (ac (gw c2) (ac (cv (qbv s_ day e_r3)) az)))
  ·obtain rfl:=si g_v5
   exact tr fol [2,4] kAN (ac (cv (vU s_ day e_r1)) (ac (gw c2) az))
 refine Goes.ret ?_
 obtain rfl:=si h
 exact(gw2 [.bool b4] (FzW.still tB))
def qaI:Option Unit:=
 some ()
theorem xw {res:Unit} (h:qaI=some res):qg Tryz.prog (.fn 111) [] [] (fm2) []:=by
 unfold qaI at h
 refine Goes.fnW Tryz.func111 rfl rfl (m:=6) rfl (rs:=[.tmp 0]) rfl (l:=[]) rfl ?_
 refine sh fol [] ?_
 refine sg fol [(0,.map 0)] [.map kBv [.agg [.i 1,.func (.func 161) [] []],.agg [.i 0,.func (.func 162) [] []],.agg [.i 1,.func (.func 163) [] []]]] ?_
 refine Goes.ret ?_
 obtain rfl:=si h
 exact(gw2 [.map 0] (FzW.of (by kernel_rfl)))
def vI (p0:qb):Option Bool:=
 some true
theorem qb8 (p0:qb) {res:Bool} (h:vI p0=some res):qg Tryz.prog (.fn 114) [.agg (cE p0)] [] (.bool res) []:=by
 unfold vI at h
 refine Goes.fnW Tryz.func114 rfl rfl (m:=3) rfl (rs:=[.tmp 2]) rfl (l:=[(0,.agg (cE p0))]) rfl ?_
 refine sg fol [] (kQ p0 []) ?_
 refine sh fol [(2,.bool true)] ?_
 refine Goes.ret ?_
 obtain rfl:=si h
 exact(gw2 [.bool true] (FzW.still tB))
def j5 (a0_:Int):Option (Option (List Str)):=
 ((if a0_<0 then
 none
 else
 some ():Option Unit)).bind fun _=>
 ((if(w64 (a0_-(w64 (0-0))))>0 then
 (cut ([]:List Str) 0 0).bind fun s7=>
 (qkL 16 (w64 (a0_-(w64 (0-0)))) []).bind fun l8=>
 (cut l8 0 0).bind fun l9=>
 some (some l9)
 else
 some (none:Option (List Str)):Option (Option (List Str)))).bind fun o4=>
 some o4
theorem qc7 (a0_:Int) {o1:Option (List Str)} (h:j5 a0_=some o1):qg Tryz.prog (.fn 217) [.nilslice,.i a0_] [] (hsl 0 1 o1) (kA9 o1):=by
 unfold j5 at h
 refine Goes.fnH Tryz.func217 rfl rfl (m:=27) rfl (rs:=[.tmp 4]) rfl (l:=[(0,.nilslice),(1,.i a0_)]) rfl ?_
 intro B hB
 refine sh fol [(0,.nilslice),(1,.i a0_)] ?_
 refine sq ?_
 refine sh fol [(0,.nilslice),(1,.i a0_),(6,.bool (decide (a0_<0)))] ?_
 obtain⟨r2,g2,h⟩:=bnd h
 refine Goes.imp (Q:=fun x s'=>(x= .normal∧()=r2∧Sub s' (ofG 27 [(0,.nilslice),(1,.i a0_)],[]))) ?_ ?_
 ·refine ihD g2 (fun c3 g2=>?_) (fun c3 g2=>?_)
  ·cases g2
  ·refine Goes.skip ?_
   obtain rfl:=si g2
   exact⟨rfl,rfl,(Sub.keep [0,1] rfl rfl)⟩
 rintro x s' ⟨rfl,rfl,hsub⟩
 refine Goes.sub hsub ?_
 refine sq ?_
 refine sh fol [(0,.nilslice),(1,.i (w64 (a0_-(w64 (0-0)))))] ?_
 refine sh fol [(0,.nilslice),(1,.i (w64 (a0_-(w64 (0-0))))),(16,.bool (decide ((w64 (a0_-(w64 (0-0))))>0)))] ?_
 obtain⟨r5,g5,h⟩:=bnd h
 refine Goes.imp (Q:=fun x s'=>(x= .normal∧ ∃o4,o4=r5∧Sub s' (ofG 27 [(0,hsl 0 1 o4)],(kA9 o4)))) ?_ ?_
 ·refine ihD g5 (fun c6 g5=>?_) (fun c6 g5=>?_)
  ·obtain⟨s7,e_s7,g5⟩:=bnd g5
   obtain⟨l8,e_l8,g5⟩:=bnd g5
   obtain⟨l9,e_l9,g5⟩:=bnd g5
   refine gq fol [3,5,8] [(0,.oslice 0 l9.length 1)] (kH l8 []) (ac (hs (.done (.opt (qG Tryz.prog 23 .nilslice none (some (.i 0)) none)) .nilslice) (qoM (α:=Str) zi none (some 0) e_s7)) (ac (hs (.run [] (qz Tryz.prog [23,3] .nilslice (.i (w64 (a0_-(w64 (0-0)))))) [] (.oslice 0 l8.length 1) (kH l8 []) false) (qox zi it3 (E:=encS) rfl (z:=[]) (by kernel_rfl) e_l8 rfl)) (ac (hs (.done (.opt (qG Tryz.prog 23 (.oslice 0 l8.length 1) none (some (.i 0)) none)) (.oslice 0 l9.length 1)) (qpw zi e_l9)) az))) ?_
   obtain rfl:=si g5
   exact⟨rfl,_,rfl,((show Sub (ofG 27 [(0,.oslice 0 l9.length 1)],(kH l8 [])) (ofG 27 [(0,.oslice 0 l9.length 1)],(kH l9 []))from(Sub.norm [] [some 0] (by rw[hB];rfl) rfl (.keep (.oslice rfl) .nil) (.kb rfl (qb3.cut e_l9) .nil))).trans (Sub.norm [] [some 0] (by rw[hB];rfl) rfl (.keep (kg.hs1 rfl) .nil) (.ks .nil)))⟩
  ·refine Goes.skip ?_
   obtain rfl:=si g5
   exact⟨rfl,_,rfl,(Sub.norm [] [none] (by rw[hB];rfl) rfl (.keep kg.hs0 .nil) (.fresh .nil))⟩
 rintro x s' ⟨rfl,o4,rfl,hsub⟩
 refine Goes.sub hsub ?_
 refine sh fol [(4,hsl 0 1 o4)] ?_
 refine Goes.ret ?_
 obtain rfl:=si h
 exact(gh2 [hsl 0 1 o4] (qb1.refl _ _))
def ku (slices:List (List Str)):Nat→Int→Int→Option Int
 |0,_,_=>none
 |K+1,n1,n2=>
  if n1<(slices.length:Int)then
  (((idx slices n1).bind fun x8=>
  if(w64 (n2+(x8.length:Int)))<0 then
  none
  else
  some (w64 (n2+(x8.length:Int))):Option Int)).bind fun n6=>
  ku slices K (w64 (n1+1)) n6
  else
  some n2
def ky (slices:List (List Str)):Nat→(Option (List Str))→Int→Option (Option (List Str))
 |0,_,_=>none
 |K+1,o12,n13=>
  if n13<(slices.length:Int)then
  (idx slices n13).bind fun x17=>
  ((match o12 with
  |none=>
  none
  |some l18=>
  (app 16 l18 x17).bind fun l19=>
  some l19):Option (List Str)).bind fun l20=>
  ky slices K (some l20) (w64 (n13+1))
  else
  some o12
def vN (N:Nat) (slices:List (List Str)):Option (List Str):=
 (ku slices N 0 0).bind fun n3=>
 (j5 n3).bind fun o11=>
 (ky slices N o11 0).bind fun o14=>
 some (hof o14)
theorem qdu (N:Nat) (slices:List (List Str)) {res:List Str} (h:vN N slices=some res):qg Tryz.prog (.fn 184) [vl (yH encS) slices] [] (vl encS res) []:=by
 unfold vN at h
 refine Goes.fnW Tryz.func184 rfl rfl (m:=36) rfl (rs:=[.tmp 2]) rfl (l:=[(0,vl (yH encS) slices)]) rfl ?_
 refine sh fol [(0,vl (yH encS) slices)] ?_
 refine sh fol [(0,vl (yH encS) slices),(3,.i 0)] ?_
 refine sq ?_
 refine sh fol [(0,vl (yH encS) slices),(3,.i 0),(9,vl (yH encS) slices),(10,.i (slices.length:Int)),(11,.i 0)] ?_
 refine Goes.block ?_
 obtain⟨r4,g4,h⟩:=bnd h
 refine Goes.imp (Q:=fun x s'=>(x= .exit 0∧ ∃n3,n3=r4∧Sub s' (ofG 36 [(0,vl (yH encS) slices),(3,.i n3)],[]))) ?_ ?_
 ·refine Goes.loopS (fun M s=> ∃(n1:Int) (n2:Int),s=(ofG 36 ((0,vl (yH encS) slices)::(3,.i n2)::(9,vl (yH encS) slices)::(kBc (slices.length:Int) n1)),[])∧ku slices M n1 n2=some r4) ?_ (m:=N) ⟨_,_,rfl,g4⟩
  rintro M s ⟨n1,n2,rfl,g4⟩
  cases M with
  |zero=>simp only[ku]at g4;cases g4
  |succ M=>
   rw[ku]at g4
   refine sh fol [(0,vl (yH encS) slices),(3,.i n2),(9,vl (yH encS) slices),(10,.i (slices.length:Int)),(11,.i n1),(12,.bool (decide (n1<(slices.length:Int))))] ?_
   refine sq ?_
   refine ihD g4 (fun c5 g4=>?_) (fun c5 g4=>?_)
   ·refine Goes.skip ?_
    refine sq ?_
    obtain⟨r7,g7,g4⟩:=bnd g4
    refine Goes.imp (Q:=fun x s'=>(x= .normal∧ ∃n6,n6=r7∧Sub s' (ofG 36 ((0,vl (yH encS) slices)::(3,.i n6)::(9,vl (yH encS) slices)::(kBc (slices.length:Int) n1)),[]))) ?_ ?_
    ·refine Goes.block ?_
     obtain⟨x8,e_x8,g7⟩:=bnd g7
     refine sq (gr fol [0,1] ((0,vl (yH encS) slices)::(3,.i n2)::(5,vl encS x8)::(9,vl (yH encS) slices)::(kBc (slices.length:Int) n1)) (ac (iv qpD (yH encS) e_x8) (ac (lv 0 qgH (yH encS) e_x8 rfl) az)) ?_)
     refine sh fol ((0,vl (yH encS) slices)::(3,.i (w64 (n2+(x8.length:Int))))::(9,vl (yH encS) slices)::(kBc (slices.length:Int) n1)) ?_
     refine sh fol [(0,vl (yH encS) slices),(3,.i (w64 (n2+(x8.length:Int)))),(9,vl (yH encS) slices),(10,.i (slices.length:Int)),(11,.i n1),(20,.bool (decide ((w64 (n2+(x8.length:Int)))<0)))] ?_
     refine ihD g7 (fun c9 g7=>?_) (fun c9 g7=>?_)
     ·cases g7
     ·refine Goes.skip ?_
      obtain rfl:=si g7
      exact⟨rfl,_,rfl,(Sub.keep [0,3,9,10,11] rfl rfl)⟩
    rintro x s' ⟨rfl,n6,rfl,hsub⟩
    refine Goes.sub hsub ?_
    refine gh fol ((0,vl (yH encS) slices)::(3,.i n6)::(9,vl (yH encS) slices)::(kBc (slices.length:Int) (w64 (n1+1)))) ?_
    exact⟨M,(ofG 36 ((0,vl (yH encS) slices)::(3,.i n6)::(9,vl (yH encS) slices)::(kBc (slices.length:Int) (w64 (n1+1)))),[]),Nat.lt_succ_self _,(Sub.refl _),_,_,rfl,g4⟩
   ·refine Goes.exit ?_
    obtain rfl:=si g4
    exact⟨rfl,_,rfl,(Sub.keep [0,3] rfl rfl)⟩
 rintro x s' ⟨rfl,n3,rfl,hsub⟩
 refine Goes.sub hsub ?_
 obtain⟨o11,e_r10,h⟩:=bnd h
 refine sq (gq fol [1] [(0,vl (yH encS) slices),(6,hsl 0 1 o11)] (kA9 o11) (ac (hs (.callH 217 [.nilslice,.i n3] [] [] (hsl 0 1 o11) (kA9 o11)) (qZ [] [some 0] (qc7 n3 e_r10) .nil rfl rfl (.new rfl rfl (.same fa) rfl .nil) (rc (.same (qm.nilslice)) (rc (.same nI) rn)) (.hs rfl) rfl)) az) ?_)
 refine sq ?_
 refine sh fol [(6,hsl 0 1 o11),(25,vl (yH encS) slices),(26,.i (slices.length:Int)),(27,.i 0)] ?_
 refine Goes.block ?_
 obtain⟨r15,g15,h⟩:=bnd h
 refine Goes.imp (Q:=fun x s'=>(x= .exit 2∧ ∃o14,o14=r15∧Sub s' (ofG 36 [(6,hsl 0 1 o14)],(kA9 o14)))) ?_ ?_
 ·refine Goes.loopS (fun M s=> ∃(o12:Option (List Str)) (n13:Int),s=(ofG 36 [(6,hsl 0 1 o12),(25,vl (yH encS) slices),(26,.i (slices.length:Int)),(27,.i n13)],(kA9 o12))∧ky slices M o12 n13=some r15) ?_ (m:=N) ⟨_,_,rfl,g15⟩
  rintro M s ⟨o12,n13,rfl,g15⟩
  cases M with
  |zero=>simp only[ky]at g15;cases g15
  |succ M=>
   rw[ky]at g15
   refine sh fol [(6,hsl 0 1 o12),(25,vl (yH encS) slices),(26,.i (slices.length:Int)),(27,.i n13),(28,.bool (decide (n13<(slices.length:Int))))] ?_
   refine sq ?_
   refine ihD g15 (fun c16 g15=>?_) (fun c16 g15=>?_)
   ·refine Goes.skip ?_
    refine sq (Goes.block ?_)
    obtain⟨x17,e_x17,g15⟩:=bnd g15
    refine sq (gr fol [0,1] [(6,hsl 0 1 o12),(8,vl encS x17),(25,vl (yH encS) slices),(26,.i (slices.length:Int)),(27,.i n13)] (ac (iv qpD (yH encS) e_x17) (ac (lv 0 qgH (yH encS) e_x17 rfl) az)) ?_)
    obtain⟨l20,g_v21,g15⟩:=bnd g15
    refine Goes.cut (s':=(ofG 36 [(6,.oslice 1 l20.length 1),(25,vl (yH encS) slices),(26,.i (slices.length:Int)),(27,.i n13)],(.dead::(kH l20 [])))) ?_ ?_
    ·rcases o12 with _|l18
     ·try dsimp only at g_v21
      cases g_v21
     ·try dsimp only at g_v21
      obtain⟨l19,e_l19,g_v21⟩:=bnd g_v21
      obtain rfl:=si g_v21
      exact ql.rq fol [2] [(6,.oslice 1 l19.length 1),(25,vl (yH encS) slices),(26,.i (slices.length:Int)),(27,.i n13)] (.dead::(kH l19 [])) (ac (hs (.run [0] (qz Tryz.prog [23,23] (.oslice 0 l18.length 1) (vl encS x17)) (kH l18 []) (.oslice 1 l19.length 1) (.dead::(kH l19 [])) true) (ko zi (E:=encS) rfl (qd5 (E:=encS) rfl _) (qdv (E:=encS) (l:=l18) rfl rfl rfl e_l19 rfl))) az)
    refine gh fol [(6,.oslice 1 l20.length 1),(25,vl (yH encS) slices),(26,.i (slices.length:Int)),(27,.i (w64 (n13+1)))] ?_
    exact⟨M,(ofG 36 [(6,hsl 0 1 (some l20)),(25,vl (yH encS) slices),(26,.i (slices.length:Int)),(27,.i (w64 (n13+1)))],(kA9 (some l20))),Nat.lt_succ_self _,(Sub.norm [] [some 1] rfl rfl (.keep (kg.hs1 rfl) (.keep (.same (qo (yH encS) _)) (.keep (.same nI) (.keep (.same nI) .nil)))) (.ks .nil)),_,_,rfl,g15⟩
   ·refine Goes.exit ?_
    obtain rfl:=si g15
    exact⟨rfl,_,rfl,(Sub.keep [6] rfl rfl)⟩
 rintro x s' ⟨rfl,o14,rfl,hsub⟩
 refine Goes.sub hsub ?_
 refine sh fol [(2,hsl 0 1 o14)] ?_
 refine Goes.ret ?_
 obtain rfl:=si h
 exact(gw2 [hsl 0 1 o14] (FzW.hs (E:=encS) rfl rfl (nl rfl)))
def qP (a0_:List Int):Nat→(List Str)→Int→Option (List Str)
 |0,_,_=>none
 |K+1,l1,n2=>
  if n2<(a0_.length:Int)then
  (((idx a0_ n2).bind fun x8=>
  (qbI x8).bind fun r9=>
  if r9=true then
  (qde x8).bind fun r11=>
  (app 16 l1 [r11]).bind fun l12=>
  some l12
  else
  some l1:Option (List Str))).bind fun l6=>
  qP a0_ K l6 (w64 (n2+1))
  else
  some l1
def zo (N:Nat) (a0_:List Int):Option (List Str):=
 (qP a0_ N ([]:List Str) 0).bind fun l3=>
 some l3
theorem qat (N:Nat) (a0_:List Int) {res:List Str} (h:zo N a0_=some res):qg Tryz.prog (.fn 185) [vl encI a0_,.func (.func 186) [] [],.func (.func 160) [] []] [] (vl encS res) []:=by
 unfold zo at h
 refine Goes.fnW Tryz.func185 rfl rfl (m:=27) rfl (rs:=[.tmp 6]) rfl (l:=[(0,vl encI a0_),(1,.func (.func 186) [] []),(2,.func (.func 160) [] [])]) rfl ?_
 refine sh fol [(0,vl encI a0_),(1,.func (.func 186) [] []),(2,.func (.func 160) [] [])] ?_
 refine sh fol [(0,vl encI a0_),(1,.func (.func 186) [] []),(2,.func (.func 160) [] []),(7,.nilslice)] ?_
 refine sq ?_
 refine sh fol ((1,.func (.func 186) [] [])::(2,.func (.func 160) [] [])::(7,.nilslice)::(10,vl encI a0_)::(kA1 (a0_.length:Int))) ?_
 refine Goes.block ?_
 obtain⟨r4,g4,h⟩:=bnd h
 refine Goes.imp (Q:=fun x s'=>(x= .exit 0∧ ∃l3,l3=r4∧Sub s' (ofG 27 (kAO l3 []),(kH l3 [])))) ?_ ?_
 ·refine Goes.sub (s':=(ofG 27 ((1,.func (.func 186) [] [])::(2,.func (.func 160) [] [])::(7,.gslice 0 ([]:List Str).length 1)::(10,vl encI a0_)::(kA1 (a0_.length:Int))),(kAm []))) (Sub.norm [] [none] rfl rfl (.keep (.same (qm.func sn sn)) (.keep (.same (qm.func sn sn)) (.keep .nil (.keep (.same (qo encI _)) (.keep (.same nI) (.keep (.same nI) .nil)))))) (.fresh .nil)) ?_
  refine Goes.loopS (fun M s=> ∃(l1:List Str) (n2:Int),s=(ofG 27 ((1,.func (.func 186) [] [])::(2,.func (.func 160) [] [])::(kAO l1 ((10,vl encI a0_)::(kR (a0_.length:Int) n2)))),(kH l1 []))∧qP a0_ M l1 n2=some r4) ?_ (m:=N) ⟨_,_,rfl,g4⟩
  rintro M s ⟨l1,n2,rfl,g4⟩
  cases M with
  |zero=>simp only[qP]at g4;cases g4
  |succ M=>
   rw[qP]at g4
   refine sh fol ((1,.func (.func 186) [] [])::(2,.func (.func 160) [] [])::(kAO l1 ((10,vl encI a0_)::(kBY (a0_.length:Int) n2 (kB0 (decide (n2<(a0_.length:Int)))))))) ?_
   refine sq ?_
   refine ihD g4 (fun c5 g4=>?_) (fun c5 g4=>?_)
   ·refine Goes.skip ?_
    refine sq ?_
    obtain⟨r7,g7,g4⟩:=bnd g4
    refine Goes.imp (Q:=fun x s'=>(x= .normal∧ ∃l6,l6=r7∧Sub s' (ofG 27 ((1,.func (.func 186) [] [])::(2,.func (.func 160) [] [])::(kAO l6 ((10,vl encI a0_)::(kR (a0_.length:Int) n2)))),(kH l6 [])))) ?_ ?_
    ·refine Goes.block ?_
     obtain⟨x8,e_x8,g7⟩:=bnd g7
     refine sq (gr fol [0,1] ((1,.func (.func 186) [] [])::(2,.func (.func 160) [] [])::(kAO l1 ((9,.i x8)::(10,vl encI a0_)::(kR (a0_.length:Int) n2)))) (ac (iv xI encI e_x8) (ac (lv 0 ce3 encI e_x8 rfl) az)) ?_)
     obtain⟨r9,e_r9,g7⟩:=bnd g7
     refine sq (gr fol [2] ((1,.func (.func 186) [] [])::(2,.func (.func 160) [] [])::(kAO l1 ((9,.i x8)::(10,vl encI a0_)::(kBY (a0_.length:Int) n2 [(18,.bool r9)])))) (ac (cv (qgq x8 e_r9)) az) ?_)
     refine ihB g7 (fun c10 g7=>?_) (fun c10 g7=>?_)
     ·obtain⟨r11,e_r11,g7⟩:=bnd g7
      obtain⟨l12,e_l12,g7⟩:=bnd g7
      refine gq fol [3,5] ((1,.func (.func 186) [] [])::(2,.func (.func 160) [] [])::(7,.gslice 2 l12.length 1)::(10,vl encI a0_)::(kR (a0_.length:Int) n2)) (.dead::(kAM r11 (kH l12 []))) (ac (cv (qfJ x8 e_r11)) (ac (hs (.run [0,1] (qz Tryz.prog [23,23] (.gslice 0 l1.length 1) (.slice 1 0 1 1 1)) (kH l1 (kAM r11 [])) (.gslice 2 l12.length 1) (.dead::(kAM r11 (kH l12 []))) true) (ko zi (E:=encS) rfl (xm (E:=encS) (ys:=[r11]) rfl rfl rfl rfl) (qcF (E:=encS) (l:=l1) rfl rfl rfl e_l12 rfl))) az)) ?_
      obtain rfl:=si g7
      exact⟨rfl,_,rfl,(Sub.norm [] [some 2] rfl rfl (.keep (.same (qm.func sn sn)) (.keep (.same (qm.func sn sn)) (.keep (.gslice rfl) (.keep (.same (qo encI _)) (.keep (.same nI) (.keep (.same nI) .nil)))))) (.ks .nil))⟩
     ·refine Goes.skip ?_
      obtain rfl:=si g7
      exact⟨rfl,_,rfl,(Sub.keep [1,2,7,10,11,12] rfl rfl)⟩
    rintro x s' ⟨rfl,l6,rfl,hsub⟩
    refine Goes.sub hsub ?_
    refine gh fol ((1,.func (.func 186) [] [])::(2,.func (.func 160) [] [])::(kAO l6 ((10,vl encI a0_)::(kR (a0_.length:Int) (w64 (n2+1)))))) ?_
    exact⟨M,(ofG 27 ((1,.func (.func 186) [] [])::(2,.func (.func 160) [] [])::(kAO l6 ((10,vl encI a0_)::(kR (a0_.length:Int) (w64 (n2+1)))))),(kH l6 [])),Nat.lt_succ_self _,(Sub.refl _),_,_,rfl,g4⟩
   ·refine Goes.exit ?_
    obtain rfl:=si g4
    exact⟨rfl,_,rfl,(Sub.keep [7] rfl rfl)⟩
 rintro x s' ⟨rfl,l3,rfl,hsub⟩
 refine Goes.sub hsub ?_
 refine sh fol [(6,.gslice 0 l3.length 1)] ?_
 refine Goes.ret ?_
 obtain rfl:=si h
 exact(gw2 [.gslice 0 l3.length 1] (FzW.fz (Fz.gs (E:=encS) rfl rfl (nl rfl))))
def qa8 (N:Nat) (e:qb):Option Str:=
 (qde e.Number).bind fun r1=>
 (zo N e.Values).bind fun r2=>
 (vN N ([([r1,e.Kind]:List Str),e.Names,r2]:List (List Str))).bind fun r3=>
 (jV r3).bind fun r4=>
 some r4
theorem qez (N:Nat) (e:qb) {res:Str} (h:qa8 N e=some res):qg Tryz.prog (.fn 150) [.agg (cE e)] [] (.str res) []:=by
 unfold qa8 at h
 refine Goes.fnW Tryz.func150 rfl rfl (m:=19) rfl (rs:=[.tmp 2]) rfl (l:=[(0,.agg (cE e))]) rfl ?_
 refine sg fol (kV []) (kQ e []) ?_
 obtain⟨r1,e_r1,h⟩:=bnd h
 obtain⟨r2,e_r2,h⟩:=bnd h
 obtain⟨r3,e_r3,h⟩:=bnd h
 refine sq (gq fol [2,10,12] [(3,vl encS r3)] (kQ e [.frozen [.str r1,.str e.Kind],.frozen [.slice 1 0 2 2 1,vl encS e.Names,vl encS r2]]) (ac (cv (qfJ e.Number e_r1)) (ac (hs (.call 185 [vl encI e.Values,.func (.func 186) [] [],.func (.func 160) [] []] [] [] [vl encI e.Values,.func (.func 186) [] [],.func (.func 160) [] []] (vl encS r2)) (qjO (FzL.cons (Fz.still (qF encI _ (nl rfl))) (FzL.cons (Fz.func FzL.nil FzL.nil) (FzL.cons (Fz.func FzL.nil FzL.nil) FzL.nil))) (qat N e.Values e_r2) (qF encS _ (nl rfl)))) (ac (hs (.callF 184 [.slice 2 0 3 3 1] (kQ e [.cells [.str r1,.str e.Kind],.cells [.slice 1 0 2 2 1,vl encS e.Names,vl encS r2]]) [2,1] [vl (yH encS) ([([r1,e.Kind]:List Str),e.Names,r2]:List (List Str))] (vl encS r3)) (qhW (FzL.cons (Fz.lit rfl rfl (FzL.cons (Fz.lit rfl rfl (FzL.still (AllST.cons tS (AllST.cons tS AllST.nil)))) (FzL.cons (Fz.still (qF encS _ (nl rfl))) (FzL.cons (Fz.still (qF encS _ (nl rfl))) FzL.nil)))) FzL.nil) (qdu N ([([r1,e.Kind]:List Str),e.Names,r2]:List (List Str)) e_r3) (qF encS _ (nl rfl)))) az))) ?_)
 refine Goes.sub (show Sub (ofG 19 [(3,vl encS r3)],(kQ e [.frozen [.str r1,.str e.Kind],.frozen [.slice 1 0 2 2 1,vl encS e.Names,vl encS r2]])) (ofG 19 [(3,vl encS r3)],[])from(Sub.norm [] [] rfl rfl (.keep (.same (qo encS _)) .nil) .nil)) ?_
 obtain⟨r4,e_r4,h⟩:=bnd h
 refine sq (gr fol [1] [(2,.str r4)] (ac (cv (qao r3 e_r4)) az) ?_)
 refine Goes.ret ?_
 obtain rfl:=si h
 exact(gw2 [.str r4] (FzW.still tS))
def qaQ (N:Nat) (e:qb):Option Str:=
 (qa8 N e).bind fun r1=>
 (cat r1 [59]).bind fun s2=>
 (qa8 N e).bind fun r3=>
 (qbB N r3).bind fun r4=>
 (cat s2 r4).bind fun s5=>
 (cat s5 [10]).bind fun s6=>
 some s6
theorem qgK (N:Nat) (e:qb) {res:Str} (h:qaQ N e=some res):qg Tryz.prog (.fn 102) [.agg (cE e)] [] (.str res) []:=by
 unfold qaQ at h
 refine Goes.fnW Tryz.func102 rfl rfl (m:=11) rfl (rs:=[.tmp 2]) rfl (l:=[(0,.agg (cE e))]) rfl ?_
 refine sg fol (kV []) (kQ e []) ?_
 obtain⟨r1,e_r1,h⟩:=bnd h
 obtain⟨s2,e_s2,h⟩:=bnd h
 obtain⟨r3,e_r3,h⟩:=bnd h
 obtain⟨r4,e_r4,h⟩:=bnd h
 obtain⟨s5,e_s5,h⟩:=bnd h
 obtain⟨s6,e_s6,h⟩:=bnd h
 refine sq (gr fol [1,2,4,5,6,7] [(2,.str s6)] (ac (cv (qez N e e_r1)) (ac (hs (.done (.opt (qbf Tryz.prog .add 9 (.tmp 4) (.const (.string ⟨#[59]⟩)) (.str r1) (.str [59]))) (.str s2)) (yw e_s2)) (ac (cv (qez N e e_r3)) (ac (cv (qfj N r3 e_r4)) (ac (hs (.done (.opt (qbf Tryz.prog .add 9 (.tmp 5) (.tmp 8) (.str s2) (.str r4))) (.str s5)) (yw e_s5)) (ac (hs (.done (.opt (qbf Tryz.prog .add 9 (.tmp 9) (.const (.string ⟨#[10]⟩)) (.str s5) (.str [10]))) (.str s6)) (yw e_s6)) az)))))) ?_)
 refine Goes.ret ?_
 obtain rfl:=si h
 exact(gw2 [.str s6] (FzW.still tS))
def yO (p0:qb):Option Bool:=
 some true
theorem qcZ (p0:qb) {res:Bool} (h:yO p0=some res):qg Tryz.prog (.fn 118) [.agg (cE p0)] [] (.bool res) []:=by
 unfold yO at h
 refine Goes.fnW Tryz.func118 rfl rfl (m:=3) rfl (rs:=[.tmp 2]) rfl (l:=[(0,.agg (cE p0))]) rfl ?_
 refine sg fol [] (kQ p0 []) ?_
 refine sh fol [(2,.bool true)] ?_
 refine Goes.ret ?_
 obtain rfl:=si h
 exact(gw2 [.bool true] (FzW.still tB))
def qB (a0_:List qb) (a1_:Option (List StateT)):Option ((Option (List StateT))×Int×(List qc)):=
 ((match a1_ with
 |none=>
 some ((none:Option (List StateT)),decide (0=0))
 |some l4=>
 some ((some l4),decide ((l4.length:Int)=0))):Option ((Option (List StateT))×Bool)).bind fun(o5,b6)=>
 if b6=true then
 some (o5,0,[])
 else
 ((match o5 with
 |none=>
 (idx ([]:List StateT) (w64 (0-1))).bind fun x10=>
 some ((none:Option (List StateT)),x10.register.Day,x10.register.Slings)
 |some l9=>
 (idx l9 (w64 ((l9.length:Int)-1))).bind fun x11=>
 some ((some l9),x11.register.Day,x11.register.Slings)):Option ((Option (List StateT))×Int×(List qc))).bind fun(o12,n13,l14)=>
 some (o12,n13,l14)
theorem jL (a0_:List qb) (a1_:Option (List StateT)) {o1:Option (List StateT)} {n2:Int} {l3:List qc} (h:qB a0_ a1_=some (o1,n2,l3)):qg Tryz.prog (.fn 81) [.ptr 0 0] (kA a0_ a1_ []) (.agg (kAx n2 l3)) (kA a0_ o1 []):=by
 unfold qB at h
 refine Goes.fnH Tryz.func81 rfl rfl (m:=23) rfl (rs:=[.cell 2 31]) rfl (l:=(kAK [])) rfl ?_
 intro B hB
 refine sg fol (kAK [(2,.ptr 3 0)]) (kA a0_ a1_ [bZ]) ?_
 refine sq ?_
 refine sq ?_
 obtain⟨⟨o5,b6⟩,g_v7,h⟩:=bnd h
 refine Goes.cutS (s':=(ofG 23 (kAK ((2,.ptr 3 0)::(kBU b6))),(kA a0_ o5 [bZ]))) ?_ ?_
 ·rcases a1_ with _|l4
  ·try dsimp only at g_v7
   simp only[Option.some.injEq,Prod.mk.injEq]at g_v7
   obtain⟨rfl,rfl⟩:=g_v7
   exact ql.sub (ql.rg fol (kAK ((2,.ptr 3 0)::(kBU (decide (0=0))))) (kB5 a0_ (kB a0_ [.cells ((hof (none:Option (List StateT))).flatMap jI.c),bZ]))) (Sub.norm [] [some 0,some 1,some 2,some 3] (by rw[hB];rfl) rfl (.kp (.kp (.keep (.same nB) .nil))) (.kb rfl (.cells (rc (.gslice rfl) (rc .hs0 rn))) (.ks (.ks (.kb rfl (.same sn) .nil)))))
  ·try dsimp only at g_v7
   simp only[Option.some.injEq,Prod.mk.injEq]at g_v7
   obtain⟨rfl,rfl⟩:=g_v7
   exact ql.sub (ql.rg fol (kAK ((2,.ptr 3 0)::(kBU (decide ((l4.length:Int)=0))))) (kAR a0_ l4 (kB a0_ (kAW l4 [bZ])))) (Sub.norm [] [some 0,some 1,some 2,some 3] (by rw[hB];rfl) rfl (.kp (.kp (.keep (.same nB) .nil))) (.kb rfl (.cells (rc (.gslice rfl) (rc ((kg.hs1 rfl)) rn))) (.ks (.ks (.kb rfl (.same sn) .nil)))))
 intro _ hsub
 try dsimp only at h
 refine Goes.sub hsub ?_
 refine ihB h (fun c8 h=>?_) (fun c8 h=>?_)
 ·refine sh fol [(2,.ptr 3 0)] ?_
  refine Goes.ret ?_
  simp only[Option.some.injEq,Prod.mk.injEq]at h
  obtain⟨rfl,rfl,rfl⟩:=h
  exact(gh2 [.agg [.i 0,.nilslice]] (Sub.norm [] [some 0,some 1,some 2] (by rw[hB];rfl) rfl (.keep (.aggL (rc (.same nI) (rc (.nilv) rn))) .nil) (.kb rfl (.cells (rc (.gslice rfl) (rc (.hs rfl) rn))) (.ks (.ks .nil)))))
 ·refine Goes.skip ?_
  refine sq ?_
  obtain⟨⟨o12,n13,l14⟩,g_v15,h⟩:=bnd h
  refine Goes.cutS (s':=(ofG 23 [(2,.ptr 3 0)],(kA a0_ o12 (kE n13 l14 [])))) ?_ ?_
  ·rcases o5 with _|l9
   ·try dsimp only at g_v15
    obtain⟨x10,e_x10,g_v15⟩:=bnd g_v15
    simp only[Option.some.injEq,Prod.mk.injEq]at g_v15
    obtain⟨rfl,rfl,rfl⟩:=g_v15
    exact ql.sub (ql.rq fol [10,12] [(2,.ptr 3 0)] (kB5 a0_ (kB a0_ (.cells ((hof (none:Option (List StateT))).flatMap jI.c)::(kE x10.register.Day x10.register.Slings [])))) (ac (hs (.done (.opt (qE Tryz.prog 163 (.nilslice) (.i (w64 (0-1))))) (.fptr (([]:List StateT).flatMap jI.c) ((w64 (0-1):Int).toNat*3+0))) (qqh e_x10)) (ac (hs (.done (jP Tryz.prog 31 (.fptr (([]:List StateT).flatMap jI.c) ((w64 (0-1):Int).toNat*3+1))) (.agg (kAx x10.register.Day x10.register.Slings))) (ld_vp ag31 (E:=jI) rfl e_x10 rfl rfl)) az))) (Sub.norm [] [some 0,some 1,some 2,some 3] (by rw[hB];rfl) rfl (.kp .nil) (.kb rfl (.cells (rc (.gslice rfl) (rc .hs0 rn))) (.ks (.ks (.kb rfl (.same sn) .nil)))))
   ·try dsimp only at g_v15
    obtain⟨x11,e_x11,g_v15⟩:=bnd g_v15
    simp only[Option.some.injEq,Prod.mk.injEq]at g_v15
    obtain⟨rfl,rfl,rfl⟩:=g_v15
    exact ql.sub (ql.rq fol [10,12] [(2,.ptr 3 0)] (kAR a0_ l9 (kB a0_ (kAW l9 (kE x11.register.Day x11.register.Slings [])))) (ac (hs (.done (.opt (qE Tryz.prog 163 (.oslice 2 l9.length 3) (.i (w64 ((l9.length:Int)-1))))) (.ptr 2 ((w64 ((l9.length:Int)-1):Int).toNat*3+0))) (qfd qmh e_x11)) (ac (hs (.run [2] (jP Tryz.prog 31 (.ptr 2 ((w64 ((l9.length:Int)-1):Int).toNat*3+1))) (kAR a0_ l9 (kB a0_ (kAW l9 [bZ]))) (.agg (kAx x11.register.Day x11.register.Slings)) (kAR a0_ l9 (kB a0_ (kAW l9 [bZ]))) false) (ld_pp ag31 (E:=jI) (l:=l9) rfl rfl e_x11 rfl rfl)) az))) (Sub.norm [] [some 0,some 1,some 2,some 3] (by rw[hB];rfl) rfl (.kp .nil) (.kb rfl (.cells (rc (.gslice rfl) (rc ((kg.hs1 rfl)) rn))) (.ks (.ks (.kb rfl (.same sn) .nil)))))
  intro _ hsub
  try dsimp only at h
  refine Goes.sub hsub ?_
  refine Goes.ret ?_
  simp only[Option.some.injEq,Prod.mk.injEq]at h
  obtain⟨rfl,rfl,rfl⟩:=h
  exact(gh2 [.agg (kAx n13 l14)] (Sub.norm [] [some 0,some 1,some 2] (by rw[hB];rfl) rfl (.keep (.aggL (rc (.same nI) (rc (.same (qo qd _)) rn))) .nil) (.kb rfl (.cells (rc (.gslice rfl) (rc (.hs rfl) rn))) (.ks (.ks .nil)))))
def qw (a0_:Int) (a1_:List qc):Option (List qc):=
 (mk 88 (a1_.length:Int) (⟨[],[],0,0,0,0,0,0,false⟩:qc)).bind fun l2=>
 (some (cpy l2 a1_)).bind fun l3=>
 some l3
theorem zC (a0_:Int) (a1_:List qc) {l1:List qc} (h:qw a0_ a1_=some l1):qg Tryz.prog (.fn 82) [.agg (kAx a0_ a1_)] [] (.agg [.i a0_,.slice 0 0 l1.length l1.length 9]) [bS l1]:=by
 unfold qw at h
 refine Goes.fnH Tryz.func82 rfl rfl (m:=16) rfl (rs:=[.cell 2 31]) rfl (l:=(kBs a0_ a1_ [])) rfl ?_
 intro B hB
 refine sg fol (kV [(2,.ptr 1 0)]) (kE a0_ a1_ [bZ]) ?_
 obtain⟨l2,e_l2,h⟩:=bnd h
 refine sq (gq fol [3] (kV (kBK l2)) (kE a0_ a1_ (kBO l2)) (ac (hs (.run [] (qas Tryz.prog 29 (.i (a1_.length:Int)) (.i (a1_.length:Int))) (kE a0_ a1_ [bZ]) (.slice 2 0 l2.length l2.length 9) (kE a0_ a1_ (kBO l2)) false) (qlq qcx (E:=qd) (z:=(⟨[],[],0,0,0,0,0,0,false⟩:qc)) rfl (by kernel_rfl) e_l2 rfl)) az) ?_)
 obtain⟨l3,e_l3,h⟩:=bnd h
 refine sq (gq fol [3] (kV (kBK l2)) (kE a0_ a1_ (kBO l3)) (ac (hs (.run [2] (qcU Tryz.prog [29,29] (.slice 2 0 l2.length l2.length 9) (vl qd a1_)) (kE a0_ a1_ (kBO l2)) (.i ((Nat.min a1_.length l2.length:Nat):Int)) (kE a0_ a1_ (kBO l3)) true) (qk0 qcx (E:=qd) (l:=l2) rfl (qd5 (E:=qd) rfl _) (.inl rfl) rfl rfl e_l3 rfl)) az) ?_)
 refine Goes.sub (show Sub (ofG 16 (kV (kBK l2)),(kE a0_ a1_ (kBO l3))) (ofG 16 (kV (kBK l3)),(kE a0_ a1_ (kBO l3)))from(Sub.norm [] [some 0,some 1,some 2] (by rw[hB];rfl) rfl (.kp (.kp (.keep (.sliceE rfl (qho e_l3)) .nil))) (.kb rfl (.same sn) (.kb rfl (.same sn) (.ks .nil))))) ?_
 refine sg fol [(2,.ptr 1 0)] (kE a0_ a1_ [.cells [.i a0_,.slice 2 0 l3.length l3.length 9],bS l3]) ?_
 refine Goes.ret ?_
 obtain rfl:=si h
 exact(gh2 [.agg [.i a0_,.slice 2 0 l3.length l3.length 9]] (Sub.norm [] [some 2] (by rw[hB];rfl) rfl (.keep (.aggL (rc (.same nI) (rc (.slice rfl) rn))) .nil) (.ks .nil)))
end Go.Av
