/-
  Walks of functions: what each computes, as a plain function.
-/
import Derived.Test.YtjflombnfhlkaaaGreatDoorQGenT2
noncomputable section
namespace Go.Av
open Go.Proofs Go.RowKit
set_option linter.unusedSectionVars false
set_option linter.unusedVariables false
set_option linter.unusedSimpArgs false
set_option maxRecDepth 100000
def yB (s_:Str):Option (Int×Bool):=
 (if(s_.length:Int)>9 then
 some true
 else
 (yH s_).bind fun r2=>
 if(!r2)=true then
 some true
 else
 (idx s_ 0).bind fun c4=>
 if(c4.toNat:Int)=48 then
 some (!(s_==[48]))
 else
 some false:Option Bool).bind fun b6=>
 if b6=true then
 some (0,false)
 else
 (qjM s_).bind fun r9=>
 some (r9.1,true)
theorem qaX (s_:Str) {res:Int×Bool} (h:yB s_=some res):qg Tryz.prog (.fn 172) [.str s_] [] (.tuple [.i res.1,.bool res.2]) []:=by
 unfold yB at h
 refine Goes.fnW Tryz.func172 rfl rfl (m:=31) rfl (rs:=[.tmp 2,.tmp 3]) rfl (l:=(kBZ s_)) rfl ?_
 refine sh fol (kBZ s_) ?_
 refine sq ?_
 refine sq ?_
 obtain⟨b6,g_v7,h⟩:=bnd h
 refine Goes.cut (s':=(ofG 31 [(0,.str s_),(22,.bool b6)],[])) ?_ ?_
 ·rcases wyD g_v7 with⟨c1,g_v7⟩|⟨c1,g_v7⟩
  ·obtain rfl:=si g_v7
   exact tr fol [3] [(0,.str s_),(22,.bool true)] (ac (gw c1) az)
  ·obtain⟨r2,e_r2,g_v7⟩:=bnd g_v7
   rcases wyB g_v7 with⟨c3,g_v7⟩|⟨c3,g_v7⟩
   ·obtain rfl:=si g_v7
    exact tr fol [3,5,8] [(0,.str s_),(22,.bool true)] (ac (gw c1) (ac (cv (xz s_ e_r2)) (ac (gw c3) az)))
   ·obtain⟨c4,e_c4,g_v7⟩:=bnd g_v7
    rcases wyD g_v7 with⟨c5,g_v7⟩|⟨c5,g_v7⟩
    ·obtain rfl:=si g_v7
     exact tr fol [3,5,8,10,12] [(0,.str s_),(22,.bool (!(s_==[48])))] (ac (gw c1) (ac (cv (xz s_ e_r2)) (ac (gw c3) (ac (hs (.done (.opt (qai Tryz.prog 9 (.str s_) (.i 0))) (.int .u8 (c4.toNat:Int))) (qb6 st9 e_c4)) (ac (gw c5) az)))))
    ·obtain rfl:=si g_v7
     exact tr fol [3,5,8,10,12] [(0,.str s_),(22,.bool false)] (ac (gw c1) (ac (cv (xz s_ e_r2)) (ac (gw c3) (ac (hs (.done (.opt (qai Tryz.prog 9 (.str s_) (.i 0))) (.int .u8 (c4.toNat:Int))) (qb6 st9 e_c4)) (ac (gw c5) az)))))
 refine ihB h (fun c8 h=>?_) (fun c8 h=>?_)
 ·refine sh fol [(2,.i 0),(3,.bool false)] ?_
  refine Goes.ret ?_
  obtain rfl:=si h
  exact(gw2 (.i 0::kBw) (FzW.tuple (qo.cons (FzW.still tI) (qo.cons (FzW.still tB) qo.nil))))
 ·refine Goes.skip ?_
  obtain⟨r9,e_r9,h⟩:=bnd h
  refine sq (gr fol [1] [(4,.i r9.1),(5,.niliface)] (ac (cv (qmT s_ e_r9)) az) ?_)
  refine sh fol [(2,.i r9.1),(3,.bool true)] ?_
  refine Goes.ret ?_
  obtain rfl:=si h
  exact(gw2 (.i r9.1::kAt) (FzW.tuple (qo.cons (FzW.still tI) (qo.cons (FzW.still tB) qo.nil))))
def jg (s23:List Str):Nat→(List Int)→Int→Option ((List Int)⊕(qb×Bool))
 |0,_,_=>none
 |K+1,l24,n25=>
  if n25<(s23.length:Int)then
  (idx s23 n25).bind fun x30=>
  (yB x30).bind fun r31=>
  if(!r31.2)=true then
  some (.inr ((⟨0,[],[],[],[]⟩:qb),false))
  else
  (app 8 l24 [r31.1]).bind fun l33=>
  jg s23 K l33 (w64 (n25+1))
  else
  some (.inl l24)
def yI (N:Nat) (s_:Str):Option (qb×Bool):=
 (strings_Split N s_ [32]).bind fun r1=>
 ((zq).bind fun r2=>
 (idx r1 0).bind fun x3=>
 if(x3==[109,97,107,101])=true then
 some (2,3,true)
 else
 if(x3==[116,101,115,116])=true then
 some (1,2,true)
 else
 if(x3==[117,115,101])=true then
 some (1,2,true)
 else
 if(x3==[102,97,105,108])=true then
 some (1,1,true)
 else
 if(x3==[114,101,99,97,108,108])=true then
 some (1,1,true)
 else
 if(x3==[117,110,100,111])=true then
 some (0,0,true)
 else
 some (0,0,false):Option (Int×Int×Bool)).bind fun(n10,n11,b12)=>
 (if(!b12)=true then
 some true
 else
 if(!decide ((r1.length:Int)=(w64 ((w64 (1+n10))+n11))))=true then
 some true
 else
 (slices_Contains_string N r1 []).bind fun r16=>
 some r16:Option Bool).bind fun b17=>
 if b17=true then
 some ((⟨0,[],[],[],[]⟩:qb),false)
 else
 (idx r1 0).bind fun x20=>
 (cut r1 1 (w64 (1+n10))).bind fun s21=>
 (slices_Clone_string s21).bind fun r22=>
 (cut r1 (w64 (1+n10)) (r1.length:Int)).bind fun s23=>
 (jg s23 N ([]:List Int) 0).bind (fun
 |(.inl l26)=>
 some ((⟨0,x20,r22,l26,[]⟩:qb),true)
 |(.inr q34)=>
 some q34)
theorem qch (N:Nat) (s_:Str) {res:qb×Bool} (h:yI N s_=some res):qg Tryz.prog (.fn 127) [.str s_] [] (.tuple [.agg (cE res.1),.bool res.2]) []:=by
 unfold yI at h
 refine Goes.fnW Tryz.func127 rfl rfl (m:=76) rfl (rs:=[.cell 2 26,.tmp 3]) rfl (l:=(kBZ s_)) rfl ?_
 refine sg fol ((0,.str s_)::(kU [])) (kN []) ?_
 obtain⟨r1,e_r1,h⟩:=bnd h
 refine sq (gr fol [1] (kU [(4,vl encS r1)]) (ac (cv (qde N s_ [32] e_r1)) az) ?_)
 refine sq ?_
 obtain⟨⟨n10,n11,b12⟩,g_v13,h⟩:=bnd h
 refine Goes.cutS (s':=(ofG 76 (kU (kAo r1 [(6,.bool b12)])),(kN (kB0 n10 n11 [])))) ?_ ?_
 ·obtain⟨r2,e_r2,g_v13⟩:=bnd g_v13
  obtain⟨x3,e_x3,g_v13⟩:=bnd g_v13
  rcases wyB g_v13 with⟨c4,g_v13⟩|⟨c4,g_v13⟩
  ·simp only[Option.some.injEq,Prod.mk.injEq]at g_v13
   obtain⟨rfl,rfl,rfl⟩:=g_v13
   exact qj.sub (qj.rq fol [0,2,3,4] (kU (kAo r1 kBm)) (kN [.cells [.i 2,.i 3,.func (.func 141) [] []]]) (ac (cv (qw e_r2)) (ac (iv jE encS e_x3) (ac (lv 0 ce9 encS e_x3 rfl) (ac (hs (.done (qW Tryz.prog 154 (fm1) (.str x3) true) (.tuple (.agg [.i 2,.i 3,.func (.func 141) [] []]::kAt))) (yO xk [[109,97,107,101],[116,101,115,116],[117,115,101],[102,97,105,108],[114,101,99,97,108,108],[117,110,100,111]] (ky c4) rfl)) az))))) (Sub.norm [] [some 0,some 1] rfl rfl (.kp (.keep (.same (qm encS _)) (.kp (.keep (.same nB) .nil)))) (.kb rfl (.same sn) (.kb rfl (.cells (rc (.same nI) (rc (.same nI) (rc (.undef) rn)))) .nil)))
  ·rcases wyB g_v13 with⟨c5,g_v13⟩|⟨c5,g_v13⟩
   ·simp only[Option.some.injEq,Prod.mk.injEq]at g_v13
    obtain⟨rfl,rfl,rfl⟩:=g_v13
    exact qj.sub (qj.rq fol [0,2,3,4] (kU (kAo r1 kBm)) (kN [.cells [.i 1,.i 2,.func (.func 142) [] []]]) (ac (cv (qw e_r2)) (ac (iv jE encS e_x3) (ac (lv 0 ce9 encS e_x3 rfl) (ac (hs (.done (qW Tryz.prog 154 (fm1) (.str x3) true) (.tuple (.agg [.i 1,.i 2,.func (.func 142) [] []]::kAt))) (yO xk [[109,97,107,101],[116,101,115,116],[117,115,101],[102,97,105,108],[114,101,99,97,108,108],[117,110,100,111]] (qh c4 (ky c5)) rfl)) az))))) (Sub.norm [] [some 0,some 1] rfl rfl (.kp (.keep (.same (qm encS _)) (.kp (.keep (.same nB) .nil)))) (.kb rfl (.same sn) (.kb rfl (.cells (rc (.same nI) (rc (.same nI) (rc (.undef) rn)))) .nil)))
   ·rcases wyB g_v13 with⟨c6,g_v13⟩|⟨c6,g_v13⟩
    ·simp only[Option.some.injEq,Prod.mk.injEq]at g_v13
     obtain⟨rfl,rfl,rfl⟩:=g_v13
     exact qj.sub (qj.rq fol [0,2,3,4] (kU (kAo r1 kBm)) (kN [.cells [.i 1,.i 2,.func (.func 143) [] []]]) (ac (cv (qw e_r2)) (ac (iv jE encS e_x3) (ac (lv 0 ce9 encS e_x3 rfl) (ac (hs (.done (qW Tryz.prog 154 (fm1) (.str x3) true) (.tuple (.agg [.i 1,.i 2,.func (.func 143) [] []]::kAt))) (yO xk [[109,97,107,101],[116,101,115,116],[117,115,101],[102,97,105,108],[114,101,99,97,108,108],[117,110,100,111]] (qh c4 (qh c5 (ky c6))) rfl)) az))))) (Sub.norm [] [some 0,some 1] rfl rfl (.kp (.keep (.same (qm encS _)) (.kp (.keep (.same nB) .nil)))) (.kb rfl (.same sn) (.kb rfl (.cells (rc (.same nI) (rc (.same nI) (rc (.undef) rn)))) .nil)))
    ·rcases wyB g_v13 with⟨c7,g_v13⟩|⟨c7,g_v13⟩
     ·simp only[Option.some.injEq,Prod.mk.injEq]at g_v13
      obtain⟨rfl,rfl,rfl⟩:=g_v13
      exact qj.sub (qj.rq fol [0,2,3,4] (kU (kAo r1 kBm)) (kN [.cells [.i 1,.i 1,.func (.func 144) [] []]]) (ac (cv (qw e_r2)) (ac (iv jE encS e_x3) (ac (lv 0 ce9 encS e_x3 rfl) (ac (hs (.done (qW Tryz.prog 154 (fm1) (.str x3) true) (.tuple (.agg [.i 1,.i 1,.func (.func 144) [] []]::kAt))) (yO xk [[109,97,107,101],[116,101,115,116],[117,115,101],[102,97,105,108],[114,101,99,97,108,108],[117,110,100,111]] (qh c4 (qh c5 (qh c6 (ky c7)))) rfl)) az))))) (Sub.norm [] [some 0,some 1] rfl rfl (.kp (.keep (.same (qm encS _)) (.kp (.keep (.same nB) .nil)))) (.kb rfl (.same sn) (.kb rfl (.cells (rc (.same nI) (rc (.same nI) (rc (.undef) rn)))) .nil)))
     ·rcases wyB g_v13 with⟨c8,g_v13⟩|⟨c8,g_v13⟩
      ·simp only[Option.some.injEq,Prod.mk.injEq]at g_v13
       obtain⟨rfl,rfl,rfl⟩:=g_v13
       exact qj.sub (qj.rq fol [0,2,3,4] (kU (kAo r1 kBm)) (kN [.cells [.i 1,.i 1,.func (.func 145) [] []]]) (ac (cv (qw e_r2)) (ac (iv jE encS e_x3) (ac (lv 0 ce9 encS e_x3 rfl) (ac (hs (.done (qW Tryz.prog 154 (fm1) (.str x3) true) (.tuple (.agg [.i 1,.i 1,.func (.func 145) [] []]::kAt))) (yO xk [[109,97,107,101],[116,101,115,116],[117,115,101],[102,97,105,108],[114,101,99,97,108,108],[117,110,100,111]] (qh c4 (qh c5 (qh c6 (qh c7 (ky c8))))) rfl)) az))))) (Sub.norm [] [some 0,some 1] rfl rfl (.kp (.keep (.same (qm encS _)) (.kp (.keep (.same nB) .nil)))) (.kb rfl (.same sn) (.kb rfl (.cells (rc (.same nI) (rc (.same nI) (rc (.undef) rn)))) .nil)))
      ·rcases wyB g_v13 with⟨c9,g_v13⟩|⟨c9,g_v13⟩
       ·simp only[Option.some.injEq,Prod.mk.injEq]at g_v13
        obtain⟨rfl,rfl,rfl⟩:=g_v13
        exact qj.sub (qj.rq fol [0,2,3,4] (kU (kAo r1 kBm)) (kN kBJ) (ac (cv (qw e_r2)) (ac (iv jE encS e_x3) (ac (lv 0 ce9 encS e_x3 rfl) (ac (hs (.done (qW Tryz.prog 154 (fm1) (.str x3) true) (.tuple (kBE kAt))) (yO xk [[109,97,107,101],[116,101,115,116],[117,115,101],[102,97,105,108],[114,101,99,97,108,108],[117,110,100,111]] (qh c4 (qh c5 (qh c6 (qh c7 (qh c8 (ky c9)))))) rfl)) az))))) (Sub.norm [] [some 0,some 1] rfl rfl (.kp (.keep (.same (qm encS _)) (.kp (.keep (.same nB) .nil)))) (.kb rfl (.same sn) (.kb rfl (.cells (rc (.same nI) (rc (.same nI) (rc (.undef) rn)))) .nil)))
       ·simp only[Option.some.injEq,Prod.mk.injEq]at g_v13
        obtain⟨rfl,rfl,rfl⟩:=g_v13
        exact qj.sub (qj.rq fol [0,2,3,4] (kU (kAo r1 [(6,.bool false)])) (kN kBJ) (ac (cv (qw e_r2)) (ac (iv jE encS e_x3) (ac (lv 0 ce9 encS e_x3 rfl) (ac (hs (.done (qW Tryz.prog 154 (fm1) (.str x3) true) (.tuple (kBE kBw))) (qgS xk [[109,97,107,101],[116,101,115,116],[117,115,101],[102,97,105,108],[114,101,99,97,108,108],[117,110,100,111]] (qh c4 (qh c5 (qh c6 (qh c7 (qh c8 (qh c9 (rfl))))))))) az))))) (Sub.norm [] [some 0,some 1] rfl rfl (.kp (.keep (.same (qm encS _)) (.kp (.keep (.same nB) .nil)))) (.kb rfl (.same sn) (.kb rfl (.cells (rc (.same nI) (rc (.same nI) (rc (.undef) rn)))) .nil)))
 intro _ hsub
 try dsimp only at h
 refine Goes.sub hsub ?_
 refine sq ?_
 refine sq ?_
 obtain⟨b17,g_v18,h⟩:=bnd h
 refine Goes.cutS (s':=(ofG 76 (kU (kAo r1 [(38,.bool b17)])),(kN (kB0 n10 n11 [])))) ?_ ?_
 ·rcases wyB g_v18 with⟨c14,g_v18⟩|⟨c14,g_v18⟩
  ·obtain rfl:=si g_v18
   exact qj.sub (tr fol [2] (kU (kAo r1 [(38,.bool true)])) (ac (gw c14) az)) (Sub.refl _)
  ·rcases wyB g_v18 with⟨c15,g_v18⟩|⟨c15,g_v18⟩
   ·obtain rfl:=si g_v18
    exact qj.sub (tr fol [2,13] (kU (kAo r1 [(38,.bool true)])) (ac (gw c14) (ac (gw c15) az))) (Sub.refl _)
   ·obtain⟨r16,e_r16,g_v18⟩:=bnd g_v18
    obtain rfl:=si g_v18
    exact qj.sub (tr fol [2,13,15] (kU (kAo r1 [(38,.bool r16)])) (ac (gw c14) (ac (gw c15) (ac (cv (j3 N r1 [] e_r16)) az)))) (Sub.refl _)
 intro _ hsub
 refine Goes.sub hsub ?_
 refine ihB h (fun c19 h=>?_) (fun c19 h=>?_)
 ·refine sh fol (kU [(3,.bool false)]) ?_
  refine Goes.ret ?_
  obtain rfl:=si h
  exact(gw2 (kBM kBw) (FzW.tuple (qo.cons (FzW.agg (qo.cons (FzW.still tI) (qo.cons (FzW.still tS) (qo.cons (FzW.nilv (E:=encS)) (qo.cons (FzW.nilv (E:=encI)) (qo.cons (FzW.still tS) qo.nil)))))) (qo.cons (FzW.still tB) qo.nil))))
 ·refine Goes.skip ?_
  obtain⟨x20,e_x20,h⟩:=bnd h
  obtain⟨s21,e_s21,h⟩:=bnd h
  obtain⟨r22,e_r22,h⟩:=bnd h
  refine sq (gq fol [1,2,7,8] (kU (kAo r1 [(7,.ptr 2 0)])) (kN (kB0 n10 n11 [.cells [.i 0,.str x20,vl encS r22,.nilslice,.str []]])) (ac (iv jE encS e_x20) (ac (lv 0 ce9 encS e_x20 rfl) (ac (hs (.done (.opt (qx Tryz.prog 23 (vl encS r1) (some (.i 1)) (some (.i (w64 (1+n10)))) none)) (vl encS s21)) (xZ jE (E:=encS) rfl (some 1) (some (w64 (1+n10))) e_s21)) (ac (cv (qa4 s21 e_r22)) az)))) ?_)
  refine sq ?_
  obtain⟨s23,e_s23,h⟩:=bnd h
  refine sq (gr fol [4] (kU [(7,.ptr 2 0),(54,vl encS s23),(55,.i (s23.length:Int)),(56,.i 0)]) (ac (hs (.done (.opt (qx Tryz.prog 23 (vl encS r1) (some (.i (w64 (1+n10)))) none none)) (vl encS s23)) (xZ jE (E:=encS) rfl (some (w64 (1+n10))) none e_s23)) az) ?_)
  refine Goes.block ?_
  obtain⟨r27,g27,h⟩:=bnd h
  refine Goes.imp (Q:=fun x s'=>(x= .exit 0∧ ∃l26,(.inl l26)=r27∧Sub s' (ofG 76 (kU [(7,.ptr 1 0)]),(kN (kAf x20 r22 l26 (kAM l26 [])))))∨(x= .ret∧ ∃q28,(.inr q28)=r27∧zl Tryz.prog [.cell 2 26,.tmp 3] (.tuple [.agg (cE q28.1),.bool q28.2]) .ret s')) ?_ ?_
  ·refine Goes.sub (s':=(ofG 76 (kU [(7,.ptr 1 0),(54,vl encS s23),(55,.i (s23.length:Int)),(56,.i 0)]),(kN (.cells [.i 0,.str x20,vl encS r22,.gslice 2 ([]:List Int).length 1,.str []]::kB5)))) (Sub.norm [] [some 0,some 2,none] rfl rfl (.kp (.kp (.keep (.same (qm encS _)) (.keep (.same nI) (.keep (.same nI) .nil))))) (.kb rfl (.same sn) (.kb rfl (.cells (rc (.same nI) (rc (.same nS) (rc (.same (qm encS _)) (rc (.nil) (rc (.same nS) rn)))))) (.fresh .nil)))) ?_
   refine Goes.loopS (fun M s=> ∃(l24:List Int) (n25:Int),s=(ofG 76 (kU ((7,.ptr 1 0)::(kBK s23 (s23.length:Int) n25 []))),(kN (kAf x20 r22 l24 (kAM l24 []))))∧jg s23 M l24 n25=some r27) ?_ (m:=N) ⟨_,_,rfl,g27⟩
   rintro M s ⟨l24,n25,rfl,g27⟩
   cases M with
   |zero=>simp only[jg]at g27;cases g27
   |succ M=>
    rw[jg]at g27
    refine sh fol (kU ((7,.ptr 1 0)::(kBK s23 (s23.length:Int) n25 [(57,.bool (decide (n25<(s23.length:Int))))]))) ?_
    refine sq ?_
    refine ihD g27 (fun c29 g27=>?_) (fun c29 g27=>?_)
    ·refine Goes.skip ?_
     refine sq (Goes.block ?_)
     obtain⟨x30,e_x30,g27⟩:=bnd g27
     refine sq (gr fol [0,1] (kU ((7,.ptr 1 0)::(9,.str x30)::(kBK s23 (s23.length:Int) n25 []))) (ac (iv jE encS e_x30) (ac (lv 0 ce9 encS e_x30 rfl) az)) ?_)
     obtain⟨r31,e_r31,g27⟩:=bnd g27
     refine sq (gr fol [1] (kU ((7,.ptr 1 0)::(10,.i r31.1)::(11,.bool r31.2)::(kBK s23 (s23.length:Int) n25 []))) (ac (cv (qaX x30 e_r31)) az) ?_)
     refine sq ?_
     refine sh fol (kU ((7,.ptr 1 0)::(10,.i r31.1)::(kBK s23 (s23.length:Int) n25 [(66,.bool (!r31.2))]))) ?_
     refine ihB g27 (fun c32 g27=>?_) (fun c32 g27=>?_)
     ·refine sh fol (kU [(3,.bool false)]) ?_
      refine Goes.ret ?_
      obtain rfl:=si g27
      exact Or.inr (⟨rfl,_,rfl,(gw2 (kBM kBw) (FzW.tuple (qo.cons (FzW.agg (qo.cons (FzW.still tI) (qo.cons (FzW.still tS) (qo.cons (FzW.nilv (E:=encS)) (qo.cons (FzW.nilv (E:=encI)) (qo.cons (FzW.still tS) qo.nil)))))) (qo.cons (FzW.still tB) qo.nil))))⟩)
     ·refine Goes.skip ?_
      obtain⟨l33,e_l33,g27⟩:=bnd g27
      refine gq fol [4] (kU ((7,.ptr 1 0)::(kBK s23 (s23.length:Int) n25 []))) (kN (.cells [.i 0,.str x20,vl encS r22,.gslice 4 l33.length 1,.str []]:: .dead::(kAH r31.1 (kAM l33 [])))) (ac (hs (.run [2,3] (qP Tryz.prog [24,24] (.gslice 2 l24.length 1) (.slice 3 0 1 1 1)) (kN (kAf x20 r22 l24 (kAM l24 (kAH r31.1 [])))) (.gslice 4 l33.length 1) (kN (kAf x20 r22 l24 (.dead::(kAH r31.1 (kAM l33 []))))) true) (jH y7 (E:=encI) rfl (qa8 (E:=encI) (ys:=[r31.1]) rfl rfl rfl rfl) (qeO (E:=encI) (l:=l24) rfl rfl rfl e_l33 rfl))) az) ?_
      refine gh fol (kU ((7,.ptr 1 0)::(kBK s23 (s23.length:Int) (w64 (n25+1)) []))) ?_
      exact⟨M,(ofG 76 (kU ((7,.ptr 1 0)::(kBK s23 (s23.length:Int) (w64 (n25+1)) []))),(kN (kAf x20 r22 l33 (kAM l33 [])))),Nat.lt_succ_self _,(Sub.norm [] [some 0,some 1,some 4] rfl rfl (.kp (.kp (.keep (.same (qm encS _)) (.keep (.same nI) (.keep (.same nI) .nil))))) (.kb rfl (.same sn) (.kb rfl (.cells (rc (.same nI) (rc (.same nS) (rc (.same (qm encS _)) (rc (.gslice rfl) (rc (.same nS) rn)))))) (.ks .nil)))),_,_,rfl,g27⟩
    ·refine Goes.exit ?_
     obtain rfl:=si g27
     exact Or.inl (⟨rfl,_,rfl,(Sub.keep [2,7] rfl rfl)⟩)
  rintro x s' (⟨rfl,l26,rfl,hsub⟩|⟨rfl,q34,rfl,hret⟩)
  ·try dsimp only at h
   refine Goes.sub hsub ?_
   refine sg fol (kU [(3,.bool true)]) (kAf x20 r22 l26 (kAf x20 r22 l26 (kAM l26 []))) ?_
   refine Goes.ret ?_
   obtain rfl:=si h
   exact(gw2 (.agg [.i 0,.str x20,vl encS r22,.gslice 2 l26.length 1,.str []]::kAt) (FzW.tuple (qo.cons (FzW.agg (qo.cons (FzW.still tI) (qo.cons (FzW.still tS) (qo.cons (FzW.still (ko encS _ (nl rfl))) (qo.cons (FzW.fz (Fz.gs (E:=encI) rfl rfl (nl rfl))) (qo.cons (FzW.still tS) qo.nil)))))) (qo.cons (FzW.still tB) qo.nil))))
  ·try dsimp only at h
   obtain rfl:=si h
   exact hret
def stringslite_Cut (s_:Str) (sep:Str):Option (Str×Str×Bool):=
 (stringslite_Index s_ sep).bind fun r1=>
 if r1≥0 then
 (cut s_ 0 r1).bind fun s3=>
 (cut s_ (w64 (r1+(sep.length:Int))) (s_.length:Int)).bind fun s4=>
 some (s3,s4,true)
 else
 some (s_,[],false)
theorem qeW (s_:Str) (sep:Str) {res:Str×Str×Bool} (h:stringslite_Cut s_ sep=some res):qg Tryz.prog (.fn 228) [.str s_,.str sep] [] (.tuple [.str res.1,.str res.2.1,.bool res.2.2]) []:=by
 unfold stringslite_Cut at h
 refine Goes.fnW Tryz.func228 rfl rfl (m:=23) rfl (rs:=[.tmp 4,.tmp 5,.tmp 6]) rfl (l:=(kY s_ sep [])) rfl ?_
 refine sh fol (kY s_ sep []) ?_
 refine sq ?_
 obtain⟨r1,e_r1,h⟩:=bnd h
 refine sq (gr fol [2] (kY s_ sep [(7,.i r1)]) (ac (cv (qbt s_ sep e_r1)) az) ?_)
 refine sh fol (kY s_ sep [(7,.i r1),(12,.bool (decide (r1≥0)))]) ?_
 refine ihD h (fun c2 h=>?_) (fun c2 h=>?_)
 ·obtain⟨s3,e_s3,h⟩:=bnd h
  obtain⟨s4,e_s4,h⟩:=bnd h
  refine sq (gr fol [2,8] ((4,.str s3)::(5,.str s4)::kBm) (ac (hs (.done (.opt (qx Tryz.prog 9 (.str s_) none (some (.i r1)) none)) (.str s3)) (yh st9 none (some r1) e_s3)) (ac (hs (.done (.opt (qx Tryz.prog 9 (.str s_) (some (.i (w64 (r1+(sep.length:Int))))) none none)) (.str s4)) (yh st9 (some (w64 (r1+(sep.length:Int)))) none e_s4)) az)) ?_)
  refine Goes.ret ?_
  obtain rfl:=si h
  exact(gw2 (.str s3:: .str s4::kAt) (FzW.tuple (qo.cons (FzW.still tS) (qo.cons (FzW.still tS) (qo.cons (FzW.still tB) qo.nil)))))
 ·refine Goes.skip ?_
  refine sh fol [(4,.str s_),(5,.str []),(6,.bool false)] ?_
  refine Goes.ret ?_
  obtain rfl:=si h
  exact(gw2 (.str s_:: .str []::kBw) (FzW.tuple (qo.cons (FzW.still tS) (qo.cons (FzW.still tS) (qo.cons (FzW.still tB) qo.nil)))))
def strings_Cut (s_:Str) (sep:Str):Option (Str×Str×Bool):=
 (stringslite_Cut s_ sep).bind fun r1=>
 some (r1.1,r1.2.1,r1.2.2)
theorem qhR (s_:Str) (sep:Str) {res:Str×Str×Bool} (h:strings_Cut s_ sep=some res):qg Tryz.prog (.fn 190) [.str s_,.str sep] [] (.tuple [.str res.1,.str res.2.1,.bool res.2.2]) []:=by
 unfold strings_Cut at h
 refine Goes.fnW Tryz.func190 rfl rfl (m:=13) rfl (rs:=[.tmp 4,.tmp 5,.tmp 6]) rfl (l:=(kY s_ sep [])) rfl ?_
 refine sh fol (kY s_ sep []) ?_
 obtain⟨r1,e_r1,h⟩:=bnd h
 refine sq (gr fol [2] [(4,.str r1.1),(5,.str r1.2.1),(6,.bool r1.2.2)] (ac (cv (qeW s_ sep e_r1)) az) ?_)
 refine Goes.ret ?_
 obtain rfl:=si h
 exact(gw2 [.str r1.1,.str r1.2.1,.bool r1.2.2] (FzW.tuple (qo.cons (FzW.still tS) (qo.cons (FzW.still tS) (qo.cons (FzW.still tB) qo.nil)))))
def xI (N:Nat) (s_:Str):Option (qb×Bool):=
 (strings_Cut s_ [32]).bind fun r1=>
 (yB r1.1).bind fun r2=>
 (yI N r1.2.1).bind fun r3=>
 (if r2.2=true then
 if r3.2=true then
 (jS N (⟨r2.1,r3.1.Kind,r3.1.Names,r3.1.Values,r3.1.Text⟩:qb)).bind fun r6=>
 some (decide (r6=0))
 else
 some false
 else
 some false:Option Bool).bind fun b7=>
 some ((⟨r2.1,r3.1.Kind,r3.1.Names,r3.1.Values,r3.1.Text⟩:qb),b7)
theorem qe0 (N:Nat) (s_:Str) {res:qb×Bool} (h:xI N s_=some res):qg Tryz.prog (.fn 156) [.str s_] [] (.tuple [.agg (cE res.1),.bool res.2]) []:=by
 unfold xI at h
 refine Goes.fnW Tryz.func156 rfl rfl (m:=39) rfl (rs:=[.cell 2 26,.tmp 3]) rfl (l:=(kBZ s_)) rfl ?_
 refine sg fol ((0,.str s_)::(kU [])) (kN []) ?_
 obtain⟨r1,e_r1,h⟩:=bnd h
 refine sq (gr fol [1] (kU [(4,.str r1.1),(5,.str r1.2.1)]) (ac (cv (qhR s_ [32] e_r1)) az) ?_)
 obtain⟨r2,e_r2,h⟩:=bnd h
 refine sq (gr fol [1] (kU ((5,.str r1.2.1)::(kBH r2.1 r2.2 []))) (ac (cv (qaX r1.1 e_r2)) az) ?_)
 obtain⟨r3,e_r3,h⟩:=bnd h
 refine sq (gq fol [1] (kU (kBH r2.1 r2.2 ((9,.ptr 1 0)::(kBl r3.2)))) (kN (kW r3.1 [])) (ac (cv (qch N r1.2.1 e_r3)) az) ?_)
 refine sg fol (kU ((8,.bool r2.2)::(9,.ptr 1 0)::(kBl r3.2))) (kN (kAB r2.1 r3.1.Kind r3.1.Names r3.1.Values r3.1.Text [])) ?_
 refine sq ?_
 obtain⟨b7,g_v8,h⟩:=bnd h
 refine Goes.cut (s':=(ofG 39 (kU [(3,.bool b7)]),(kAB r2.1 r3.1.Kind r3.1.Names r3.1.Values r3.1.Text (kAB r2.1 r3.1.Kind r3.1.Names r3.1.Values r3.1.Text [])))) ?_ ?_
 ·rcases wyB g_v8 with⟨c4,g_v8⟩|⟨c4,g_v8⟩
  ·rcases wyB g_v8 with⟨c5,g_v8⟩|⟨c5,g_v8⟩
   ·obtain⟨r6,e_r6,g_v8⟩:=bnd g_v8
    obtain rfl:=si g_v8
    exact qj.rq fol [2,5,7] (kU [(3,.bool (decide (r6=0)))]) (kAB r2.1 r3.1.Kind r3.1.Names r3.1.Values r3.1.Text (kAB r2.1 r3.1.Kind r3.1.Names r3.1.Values r3.1.Text [])) (ac (gw c4) (ac (gw c5) (ac (cv (qao N (⟨r2.1,r3.1.Kind,r3.1.Names,r3.1.Values,r3.1.Text⟩:qb) e_r6)) az)))
   ·obtain rfl:=si g_v8
    exact qj.rq fol [2,5] (kU [(3,.bool false)]) (kAB r2.1 r3.1.Kind r3.1.Names r3.1.Values r3.1.Text (kAB r2.1 r3.1.Kind r3.1.Names r3.1.Values r3.1.Text [])) (ac (gw c4) (ac (gw c5) az))
  ·obtain rfl:=si g_v8
   exact qj.rq fol [2] (kU [(3,.bool false)]) (kAB r2.1 r3.1.Kind r3.1.Names r3.1.Values r3.1.Text (kAB r2.1 r3.1.Kind r3.1.Names r3.1.Values r3.1.Text [])) (ac (gw c4) az)
 refine Goes.ret ?_
 obtain rfl:=si h
 exact(gw2 [.agg [.i r2.1,.str r3.1.Kind,vl encS r3.1.Names,vl encI r3.1.Values,.str r3.1.Text],.bool b7] (FzW.tuple (qo.cons (FzW.agg (qo.cons (FzW.still tI) (qo.cons (FzW.still tS) (qo.cons (FzW.still (ko encS _ (nl rfl))) (qo.cons (FzW.still (ko encI _ (nl rfl))) (qo.cons (FzW.still tS) qo.nil)))))) (qo.cons (FzW.still tB) qo.nil))))
def zS (N:Nat) (s_:Str) (number:Int):Option (qb×Int):=
 (if(w64 ((s_.length:Int)-7))<1 then
 some (w64 ((s_.length:Int)-7),true)
 else
 (idx s_ (w64 ((w64 ((s_.length:Int)-7))-1))).bind fun c2=>
 if(!decide ((c2.toNat:Int)=59))=true then
 some (w64 ((s_.length:Int)-7),true)
 else
 (cut s_ (w64 ((s_.length:Int)-7)) (s_.length:Int)).bind fun s4=>
 (yH s4).bind fun r5=>
 some (w64 ((s_.length:Int)-7),!r5):Option (Int×Bool)).bind fun(n6,b7)=>
 if b7=true then
 some ((⟨0,[],[],[],[]⟩:qb),25)
 else
 (cut s_ 0 (w64 (n6-1))).bind fun s10=>
 (cut s_ n6 (s_.length:Int)).bind fun s11=>
 (qbg N s10).bind fun r12=>
 if(!(s11==r12))=true then
 some ((⟨0,[],[],[],[]⟩:qb),27)
 else
 (xI N s10).bind fun r14=>
 (qI (!r14.2) 25).bind fun r15=>
 (qI (!decide (r14.1.Number=number)) 11).bind fun r16=>
 (zo N ([r15,r16]:List Int)).bind fun r17=>
 some (r14.1,r17)
theorem yM (N:Nat) (s_:Str) (number:Int) {res:qb×Int} (h:zS N s_ number=some res):qg Tryz.prog (.fn 105) [.str s_,.i number] [] (.tuple [.agg (cE res.1),.i res.2]) []:=by
 unfold zS at h
 refine Goes.fnW Tryz.func105 rfl rfl (m:=57) rfl (rs:=[.cell 4 26,.tmp 5]) rfl (l:=(kAv s_ number [])) rfl ?_
 refine sg fol (kAv s_ number (kA8 [])) (kN []) ?_
 refine sh fol (kAv s_ number (kA8 [(6,.i (w64 ((s_.length:Int)-7)))])) ?_
 refine sq ?_
 refine sq ?_
 obtain⟨⟨n6,b7⟩,g_v8,h⟩:=bnd h
 refine Goes.cut (s':=(ofG 57 (kAv s_ number (kA8 [(6,.i n6),(28,.bool b7)])),(kN []))) ?_ ?_
 ·rcases wyD g_v8 with⟨c1,g_v8⟩|⟨c1,g_v8⟩
  ·simp only[Option.some.injEq,Prod.mk.injEq]at g_v8
   obtain⟨rfl,rfl⟩:=g_v8
   exact tr fol [2] (kAv s_ number (kA8 [(6,.i (w64 ((s_.length:Int)-7))),(28,.bool true)])) (ac (gw c1) az)
  ·obtain⟨c2,e_c2,g_v8⟩:=bnd g_v8
   rcases wyB g_v8 with⟨c3,g_v8⟩|⟨c3,g_v8⟩
   ·simp only[Option.some.injEq,Prod.mk.injEq]at g_v8
    obtain⟨rfl,rfl⟩:=g_v8
    exact tr fol [2,6,9] (kAv s_ number (kA8 [(6,.i (w64 ((s_.length:Int)-7))),(28,.bool true)])) (ac (gw c1) (ac (hs (.done (.opt (qai Tryz.prog 9 (.str s_) (.i (w64 ((w64 ((s_.length:Int)-7))-1))))) (.int .u8 (c2.toNat:Int))) (qb6 st9 e_c2)) (ac (gw c3) az)))
   ·obtain⟨s4,e_s4,g_v8⟩:=bnd g_v8
    obtain⟨r5,e_r5,g_v8⟩:=bnd g_v8
    simp only[Option.some.injEq,Prod.mk.injEq]at g_v8
    obtain⟨rfl,rfl⟩:=g_v8
    exact tr fol [2,6,9,12,13] (kAv s_ number (kA8 [(6,.i (w64 ((s_.length:Int)-7))),(28,.bool (!r5))])) (ac (gw c1) (ac (hs (.done (.opt (qai Tryz.prog 9 (.str s_) (.i (w64 ((w64 ((s_.length:Int)-7))-1))))) (.int .u8 (c2.toNat:Int))) (qb6 st9 e_c2)) (ac (gw c3) (ac (hs (.done (.opt (qx Tryz.prog 9 (.str s_) (some (.i (w64 ((s_.length:Int)-7)))) none none)) (.str s4)) (yh st9 (some (w64 ((s_.length:Int)-7))) none e_s4)) (ac (cv (xz s4 e_r5)) az)))))
 try dsimp only at h
 refine ihB h (fun c9 h=>?_) (fun c9 h=>?_)
 ·refine sh fol (kA8 [(5,.i 25)]) ?_
  refine Goes.ret ?_
  obtain rfl:=si h
  exact(gw2 (kBM [.i 25]) (FzW.tuple (qo.cons (FzW.agg (qo.cons (FzW.still tI) (qo.cons (FzW.still tS) (qo.cons (FzW.nilv (E:=encS)) (qo.cons (FzW.nilv (E:=encI)) (qo.cons (FzW.still tS) qo.nil)))))) (qo.cons (FzW.still tI) qo.nil))))
 ·refine Goes.skip ?_
  obtain⟨s10,e_s10,h⟩:=bnd h
  refine sq (gr fol [3] (kAv s_ number (kA8 [(6,.i n6),(7,.str s10)])) (ac (hs (.done (.opt (qx Tryz.prog 9 (.str s_) none (some (.i (w64 (n6-1)))) none)) (.str s10)) (yh st9 none (some (w64 (n6-1))) e_s10)) az) ?_)
  refine sq ?_
  obtain⟨s11,e_s11,h⟩:=bnd h
  obtain⟨r12,e_r12,h⟩:=bnd h
  refine sq (gr fol [2,4] ((1,.i number)::(kA8 [(7,.str s10),(39,.bool (!(s11==r12)))])) (ac (hs (.done (.opt (qx Tryz.prog 9 (.str s_) (some (.i n6)) none none)) (.str s11)) (yh st9 (some n6) none e_s11)) (ac (cv (qeL N s10 e_r12)) az)) ?_)
  refine ihB h (fun c13 h=>?_) (fun c13 h=>?_)
  ·refine sh fol (kA8 [(5,.i 27)]) ?_
   refine Goes.ret ?_
   obtain rfl:=si h
   exact(gw2 (kBM [.i 27]) (FzW.tuple (qo.cons (FzW.agg (qo.cons (FzW.still tI) (qo.cons (FzW.still tS) (qo.cons (FzW.nilv (E:=encS)) (qo.cons (FzW.nilv (E:=encI)) (qo.cons (FzW.still tS) qo.nil)))))) (qo.cons (FzW.still tI) qo.nil))))
  ·refine Goes.skip ?_
   obtain⟨r14,e_r14,h⟩:=bnd h
   refine sq (gq fol [1] ((1,.i number)::(kA8 [(8,.ptr 1 0),(9,.bool r14.2)])) (kN (kW r14.1 [])) (ac (cv (qe0 N s10 e_r14)) az) ?_)
   obtain⟨r15,e_r15,h⟩:=bnd h
   obtain⟨r16,e_r16,h⟩:=bnd h
   obtain⟨r17,e_r17,h⟩:=bnd h
   refine sq (gq fol [3,8,10] (kA8 (kAs r17)) (kW r14.1 (kW r14.1 (kAz r15 r16 []))) (ac (cv (qA (!r14.2) 25 e_r15)) (ac (cv (qA (!decide (r14.1.Number=number)) 11 e_r16)) (ac (hs (.call 86 [.slice 2 0 2 2 1] (kN (kW r14.1 (kAz r15 r16 []))) [2] [vl encI ([r15,r16]:List Int)] (.i r17)) (qak (FzL.cons (Fz.lit rfl rfl (FzL.still (AllST.cons tI (AllST.cons tI AllST.nil)))) FzL.nil) (zD N ([r15,r16]:List Int) e_r17) tI rfl)) az))) ?_)
   refine Goes.ret ?_
   obtain rfl:=si h
   exact(gw2 [.agg (cE r14.1),.i r17] (FzW.tuple (qo.cons (FzW.agg (qo.cons (FzW.still tI) (qo.cons (FzW.still tS) (qo.cons (FzW.still (ko encS _ (nl rfl))) (qo.cons (FzW.still (ko encI _ (nl rfl))) (qo.cons (FzW.still tS) qo.nil)))))) (qo.cons (FzW.still tI) qo.nil))))
def qaF (a0_:Str):Option Unit:=
 some ()
theorem qe2 (a0_:Str) (h:qaF a0_=some ()):qg Tryz.prog (.fn 103) [.str a0_] [] (.func (.func 152) [] [.ptr 0 0]) (kAc a0_ []):=by
 unfold qaF at h
 refine Goes.fnH Tryz.func103 rfl rfl (m:=4) rfl (rs:=[.tmp 2]) rfl (l:=(kBZ a0_)) rfl ?_
 intro B hB
 refine sg fol (kAA []) (kAc a0_ []) ?_
 refine sh fol [(2,.func (.func 152) [] [.ptr 0 0])] ?_
 refine Goes.ret ?_
 exact(gh2 [.func (.func 152) [] [.ptr 0 0]] (qcm.refl _ _))
def qlz (N:Nat) (a0_:Int) (a1_:Int) (a2_:Int) (a3_:Int) (a4_:Str):Option ((List qb)⊕Int):=
 (strings_CutSuffix a4_ [10]).bind fun r3=>
 if(!r3.2)=true then
 some (.inr 28)
 else
 (zS N r3.1 (w64 (0+1))).bind fun r5=>
 if(!decide (r5.2=0))=true then
 some (.inr r5.2)
 else
 some (.inl ([r5.1]:List qb))
def zP (N:Nat) (a0_:Int) (a1_:Int) (a2_:Option (List qb)) (a3_:Int) (a4_:Int) (a5_:Str):Option ((List qb)⊕(Int×(Option (List qb)))):=
 (strings_CutSuffix a5_ [10]).bind fun r4=>
 if(!r4.2)=true then
 ((match a2_ with
 |none=>
 some (none:Option (List qb))
 |some l6=>
 some (some l6)):Option (Option (List qb))).bind fun o7=>
 some (.inr (28,o7))
 else
 ((match a2_ with
 |none=>
 (zS N r4.1 (w64 (0+1))).bind fun r10=>
 some ((none:Option (List qb)),r10.1.Number,r10.1.Kind,r10.1.Names,r10.1.Values,r10.1.Text,r10.2)
 |some l9=>
 (zS N r4.1 (w64 ((l9.length:Int)+1))).bind fun r11=>
 some ((some l9),r11.1.Number,r11.1.Kind,r11.1.Names,r11.1.Values,r11.1.Text,r11.2)):Option ((Option (List qb))×Int×Str×(List Str)×(List Int)×Str×Int)).bind fun(o12,n13,s14,l15,l16,s17,n18)=>
 if(!decide (n18=0))=true then
 ((match o12 with
 |none=>
 some (none:Option (List qb))
 |some l21=>
 some (some l21)):Option (Option (List qb))).bind fun o22=>
 some (.inr (n18,o22))
 else
 ((match o12 with
 |none=>
 some ([(⟨n13,s14,l15,l16,s17⟩:qb)]:List qb)
 |some l24=>
 (app 88 l24 [(⟨n13,s14,l15,l16,s17⟩:qb)]).bind fun l25=>
 some l25):Option (List qb)).bind fun l26=>
 some (.inl l26)
theorem qa2 (N:Nat) (a0_:Int) (a1_:Int) (a2_:Option (List qb)) (a3_:Int) (a4_:Int) (a5_:Str) {l1:List qb} (h:zP N a0_ a1_ a2_ a3_ a4_ a5_=some (.inl l1)):qg Tryz.prog (.rd 0) [.i a4_,.str a5_] (.loop .ready none (ofG 49 [(2,.ptr 1 0),(3,.ptr 2 0),(4,.ptr 3 0),(5,.ptr 4 0),(6,.ptr 6 0)]) qf.xp qf.x1 qf.x2::(kI a0_ a1_ (kAF a2_ a3_ []))) (.bool true) (.loop .ready none (ofG 49 [(2,.ptr 1 0),(3,.ptr 2 0),(4,.ptr 3 0),(5,.ptr 4 0),(6,.ptr 6 0)]) qf.xp qf.x1 qf.x2::(kI a0_ a1_ (.cells [.oslice 7 l1.length 5]:: .dead::(kAH a4_ (kJ l1 []))))):=by
 unfold zP at h
 refine Goes.round (m:=49) (l0:=(kE [(5,.ptr 4 0),(6,.ptr 6 0)])) (l:=(kE [(5,.ptr 4 0),(6,.ptr 6 0),(18,.i a4_),(19,.str a5_)])) rfl rfl rfl ?_
 intro B hB
 refine Goes.subQ ?_
 refine sh fol (kE (kAG a4_ [(19,.str a5_)])) ?_
 refine gh fol (kE (kAG a4_ [(8,.str a5_)])) ?_
 refine⟨_,Sub.refl _,?_⟩
 refine⟨_,_,_,_,_,rfl,?_⟩
 refine Goes.subQ ?_
 refine Goes.block ?_
 obtain⟨r4,e_r4,h⟩:=bnd h
 refine sq (gr fol [1] (kE (kAG a4_ ((9,.str r4.1)::(kBl r4.2)))) (ac (cv (qbs a5_ [10] e_r4)) az) ?_)
 refine sq ?_
 refine sh fol (kE (kAG a4_ [(9,.str r4.1),(26,.bool (!r4.2))])) ?_
 refine ihB h (fun c5 h=>?_) (fun c5 h=>?_)
 ·refine sq ?_
  obtain⟨o7,g_v8,h⟩:=bnd h
  refine Goes.cutS (s':=(ofG 49 (kE []),(.loop .busy none (ofG 49 [(2,.ptr 1 0),(3,.ptr 2 0),(4,.ptr 3 0),(5,.ptr 4 0),(6,.ptr 6 0)]) qf.xp qf.x1 qf.x2:: .cells [hsl 5 5 o7]::(kAH a3_ (.cells [.i 28]::(kAF o7 a3_ [])))))) ?_ ?_
  ·rcases a2_ with _|l6
   ·try dsimp only at g_v8
    obtain rfl:=si g_v8
    exact qj.sub (qj.rg fol (kE []) (.loop .busy none (ofG 49 [(2,.ptr 1 0),(3,.ptr 2 0),(4,.ptr 3 0),(5,.ptr 4 0),(6,.ptr 6 0)]) qf.xp qf.x1 qf.x2::(kAd (kAH a3_ (.cells [.i 28]::(kAd (.cells ((hof (none:Option (List qb))).flatMap qa.c)::(kAH a3_ [])))))))) (Sub.norm [] [some 0,some 1,some 2,some 3,some 4,some 5,some 6] (by rw[hB];rfl) rfl (.kp (.kp (.kp .nil))) (.kb rfl (.loop rfl (.kp (.kp (.kp (.kp (.kp .nil)))))) (.kb rfl (.cells (rc .hs0 rn)) (.kb rfl (.same sn) (.kb rfl (.same sn) (.kb rfl (.cells (rc .hs0 rn)) (.ks (.kb rfl (.same sn) .nil))))))))
   ·try dsimp only at g_v8
    obtain rfl:=si g_v8
    exact qj.sub (qj.rg fol (kE []) (.loop .busy none (ofG 49 [(2,.ptr 1 0),(3,.ptr 2 0),(4,.ptr 3 0),(5,.ptr 4 0),(6,.ptr 6 0)]) qf.xp qf.x1 qf.x2::(kAg l6 (kAH a3_ (.cells [.i 28]::(kAg l6 (kJ l6 (kAH a3_ [])))))))) (Sub.norm [] [some 0,some 1,some 2,some 3,some 4,some 5,some 6] (by rw[hB];rfl) rfl (.kp (.kp (.kp .nil))) (.kb rfl (.loop rfl (.kp (.kp (.kp (.kp (.kp .nil)))))) (.kb rfl (.cells (rc ((qX.hs1 rfl)) rn)) (.kb rfl (.same sn) (.kb rfl (.same sn) (.kb rfl (.cells (rc ((qX.hs1 rfl)) rn)) (.ks (.kb rfl (.same sn) .nil))))))))
  intro _ hsub
  refine Goes.sub hsub ?_
  refine Goes.ret ?_
  cases h
 ·refine Goes.skip ?_
  refine sq ?_
  obtain⟨⟨o12,n13,s14,l15,l16,s17,n18⟩,g_v19,h⟩:=bnd h
  refine Goes.cutS (s':=(ofG 49 (kE (kAG a4_ (kBi n18 []))),(.loop .busy none (ofG 49 [(2,.ptr 1 0),(3,.ptr 2 0),(4,.ptr 3 0),(5,.ptr 4 0),(6,.ptr 6 0)]) qf.xp qf.x1 qf.x2::(kI a0_ a1_ (kAF o12 a3_ (kBb n13 s14 l15 l16 s17 [])))))) ?_ ?_
  ·rcases a2_ with _|l9
   ·try dsimp only at g_v19
    obtain⟨r10,e_r10,g_v19⟩:=bnd g_v19
    simp only[Option.some.injEq,Prod.mk.injEq]at g_v19
    obtain⟨rfl,rfl,rfl,rfl,rfl,rfl,rfl⟩:=g_v19
    exact qj.sub (qj.rq fol [4] (kE (kAG a4_ (kBi r10.2 []))) (.loop .busy none (ofG 49 [(2,.ptr 1 0),(3,.ptr 2 0),(4,.ptr 3 0),(5,.ptr 4 0),(6,.ptr 6 0)]) qf.xp qf.x1 qf.x2::(kI a0_ a1_ (kAd (.cells ((hof (none:Option (List qb))).flatMap qa.c)::(kAH a3_ (kW r10.1 [])))))) (ac (cv (yM N r4.1 (w64 (0+1)) e_r10)) az)) (Sub.norm [] [some 0,some 1,some 2,some 3,some 4,some 5,some 6,some 7] (by rw[hB];rfl) rfl (.kp (.kp (.kp (.kp (.kp (.keep (.same nI) (.kp (.keep (.same nI) .nil)))))))) (.kb rfl (.loop rfl (.kp (.kp (.kp (.kp (.kp .nil)))))) (.kb rfl (.same sn) (.kb rfl (.same sn) (.kb rfl (.same sn) (.kb rfl (.cells (rc .hs0 rn)) (.ks (.kb rfl (.same sn) (.kb rfl (.same sn) .nil)))))))))
   ·try dsimp only at g_v19
    obtain⟨r11,e_r11,g_v19⟩:=bnd g_v19
    simp only[Option.some.injEq,Prod.mk.injEq]at g_v19
    obtain⟨rfl,rfl,rfl,rfl,rfl,rfl,rfl⟩:=g_v19
    exact qj.sub (qj.rq fol [4] (kE (kAG a4_ (kBi r11.2 []))) (.loop .busy none (ofG 49 [(2,.ptr 1 0),(3,.ptr 2 0),(4,.ptr 3 0),(5,.ptr 4 0),(6,.ptr 6 0)]) qf.xp qf.x1 qf.x2::(kI a0_ a1_ (kAg l9 (kJ l9 (kAH a3_ (kW r11.1 [])))))) (ac (cv (yM N r4.1 (w64 ((l9.length:Int)+1)) e_r11)) az)) (Sub.norm [] [some 0,some 1,some 2,some 3,some 4,some 5,some 6,some 7] (by rw[hB];rfl) rfl (.kp (.kp (.kp (.kp (.kp (.keep (.same nI) (.kp (.keep (.same nI) .nil)))))))) (.kb rfl (.loop rfl (.kp (.kp (.kp (.kp (.kp .nil)))))) (.kb rfl (.same sn) (.kb rfl (.same sn) (.kb rfl (.same sn) (.kb rfl (.cells (rc ((qX.hs1 rfl)) rn)) (.ks (.kb rfl (.same sn) (.kb rfl (.same sn) .nil)))))))))
  intro _ hsub
  try dsimp only at h
  refine Goes.sub hsub ?_
  refine sq ?_
  refine sh fol (kE (kAG a4_ (kBi n18 [(38,.bool (!decide (n18=0)))]))) ?_
  refine ihB h (fun c20 h=>?_) (fun c20 h=>?_)
  ·refine sq ?_
   obtain⟨o22,g_v23,h⟩:=bnd h
   refine Goes.cutS (s':=(ofG 49 (kE []),(.loop .busy none (ofG 49 [(2,.ptr 1 0),(3,.ptr 2 0),(4,.ptr 3 0),(5,.ptr 4 0),(6,.ptr 6 0)]) qf.xp qf.x1 qf.x2:: .cells [hsl 5 5 o22]::(kAH a3_ (kAH n18 (kAF o22 a3_ [])))))) ?_ ?_
   ·rcases o12 with _|l21
    ·try dsimp only at g_v23
     obtain rfl:=si g_v23
     exact qj.sub (qj.rg fol (kE []) (.loop .busy none (ofG 49 [(2,.ptr 1 0),(3,.ptr 2 0),(4,.ptr 3 0),(5,.ptr 4 0),(6,.ptr 6 0)]) qf.xp qf.x1 qf.x2::(kI a3_ n18 (kAd (.cells ((hof (none:Option (List qb))).flatMap qa.c)::(kAH a3_ (kBb n13 s14 l15 l16 s17 []))))))) (Sub.norm [] [some 0,some 1,some 2,some 3,some 4,some 5,some 6] (by rw[hB];rfl) rfl (.kp (.kp (.kp .nil))) (.kb rfl (.loop rfl (.kp (.kp (.kp (.kp (.kp .nil)))))) (.kb rfl (.cells (rc .hs0 rn)) (.kb rfl (.same sn) (.kb rfl (.same sn) (.kb rfl (.cells (rc .hs0 rn)) (.ks (.kb rfl (.same sn) .nil))))))))
    ·try dsimp only at g_v23
     obtain rfl:=si g_v23
     exact qj.sub (qj.rg fol (kE []) (.loop .busy none (ofG 49 [(2,.ptr 1 0),(3,.ptr 2 0),(4,.ptr 3 0),(5,.ptr 4 0),(6,.ptr 6 0)]) qf.xp qf.x1 qf.x2::(kAg l21 (kAH a3_ (kAH n18 (kAg l21 (kJ l21 (kAH a3_ (kBb n13 s14 l15 l16 s17 []))))))))) (Sub.norm [] [some 0,some 1,some 2,some 3,some 4,some 5,some 6] (by rw[hB];rfl) rfl (.kp (.kp (.kp .nil))) (.kb rfl (.loop rfl (.kp (.kp (.kp (.kp (.kp .nil)))))) (.kb rfl (.cells (rc ((qX.hs1 rfl)) rn)) (.kb rfl (.same sn) (.kb rfl (.same sn) (.kb rfl (.cells (rc ((qX.hs1 rfl)) rn)) (.ks (.kb rfl (.same sn) .nil))))))))
   intro _ hsub
   refine Goes.sub hsub ?_
   refine Goes.ret ?_
   cases h
  ·refine Goes.skip ?_
   obtain⟨l26,g_v27,h⟩:=bnd h
   refine Goes.cutS (s':=(ofG 49 [],(.loop .busy none (ofG 49 [(2,.ptr 1 0),(3,.ptr 2 0),(4,.ptr 3 0),(5,.ptr 4 0),(6,.ptr 6 0)]) qf.xp qf.x1 qf.x2::(kI a0_ a1_ (.cells [.oslice 7 l26.length 5]:: .dead::(kAH a4_ (kJ l26 []))))))) ?_ ?_
   ·rcases o12 with _|l24
    ·try dsimp only at g_v27
     obtain rfl:=si g_v27
     exact qj.sub (qj.rg fol [] (.loop .busy none (ofG 49 [(2,.ptr 1 0),(3,.ptr 2 0),(4,.ptr 3 0),(5,.ptr 4 0),(6,.ptr 6 0)]) qf.xp qf.x1 qf.x2::(kI a0_ a1_ (.cells [.oslice 9 1 5]:: .cells ((hof (none:Option (List qb))).flatMap qa.c)::(kAH a4_ (kAe n13 s14 l15 l16 s17 (kBb n13 s14 l15 l16 s17 []))))))) (Sub.norm [] [some 0,some 1,some 2,some 3,some 4,some 5,some 6,some 9] (by rw[hB];rfl) rfl .nil (.kb rfl (.loop rfl (.kp (.kp (.kp (.kp (.kp .nil)))))) (.kb rfl (.same sn) (.kb rfl (.same sn) (.kb rfl (.same sn) (.kb rfl (.cells (rc ((qX.osliceE rfl rfl)) rn)) (.lost (.kb rfl (.same sn) (.ks .nil)))))))))
    ·try dsimp only at g_v27
     obtain⟨l25,e_l25,g_v27⟩:=bnd g_v27
     obtain rfl:=si g_v27
     exact qj.sub (qj.rq fol [3] [] (.loop .busy none (ofG 49 [(2,.ptr 1 0),(3,.ptr 2 0),(4,.ptr 3 0),(5,.ptr 4 0),(6,.ptr 6 0)]) qf.xp qf.x1 qf.x2::(kI a0_ a1_ (.cells [.oslice 9 l25.length 5]:: .dead::(kAH a4_ (kAe n13 s14 l15 l16 s17 (kJ l25 [])))))) (ac (hs (.run [5,8] (qP Tryz.prog [22,22] (.oslice 5 l24.length 5) (.slice 8 0 1 1 5)) (.loop .busy none (ofG 49 [(2,.ptr 1 0),(3,.ptr 2 0),(4,.ptr 3 0),(5,.ptr 4 0),(6,.ptr 6 0)]) qf.xp qf.x1 qf.x2::(kI a0_ a1_ (kAg l24 (kJ l24 (kAH a3_ (kAe n13 s14 l15 l16 s17 [])))))) (.oslice 9 l25.length 5) (.loop .busy none (ofG 49 [(2,.ptr 1 0),(3,.ptr 2 0),(4,.ptr 3 0),(5,.ptr 4 0),(6,.ptr 6 0)]) qf.xp qf.x1 qf.x2::(kI a0_ a1_ (kAg l24 (.dead::(kAH a3_ (kAe n13 s14 l15 l16 s17 (kJ l25 []))))))) true) (jH zV (E:=qa) rfl (qa8 (E:=qa) (ys:=[(⟨n13,s14,l15,l16,s17⟩:qb)]) rfl rfl rfl rfl) (qgh (E:=qa) (l:=l24) rfl rfl rfl e_l25 rfl))) az)) (Sub.norm [] [some 0,some 1,some 2,some 3,some 4,some 5,some 6,some 9] (by rw[hB];rfl) rfl .nil (.kb rfl (.loop rfl (.kp (.kp (.kp (.kp (.kp .nil)))))) (.kb rfl (.same sn) (.kb rfl (.same sn) (.kb rfl (.same sn) (.kb rfl (.cells (rc (.oslice rfl) rn)) (.lost (.kb rfl (.same sn) (.ks .nil)))))))))
   intro _ hsub
   cases h
   exact⟨_,hsub,⟨_,_,rfl,(Sub.keep [0] rfl rfl)⟩⟩
theorem qaV (N:Nat) (a0_:Int) (a1_:Int) (a2_:Option (List qb)) (a3_:Int) (a4_:Int) (a5_:Str) {n2:Int} {o3:Option (List qb)} (h:zP N a0_ a1_ a2_ a3_ a4_ a5_=some (.inr (n2,o3))):qg Tryz.prog (.rd 0) [.i a4_,.str a5_] (.loop .ready none (ofG 49 [(2,.ptr 1 0),(3,.ptr 2 0),(4,.ptr 3 0),(5,.ptr 4 0),(6,.ptr 6 0)]) qf.xp qf.x1 qf.x2::(kI a0_ a1_ (kAF a2_ a3_ []))) (.bool false) (.loop .done (some .ret) (ofG 49 [(2,.ptr 1 0),(3,.ptr 2 0),(4,.ptr 3 0),(5,.ptr 4 0),(6,.ptr 6 0)]) qf.xp qf.x1 qf.x2:: .cells [hsl 5 5 o3]::(kAH a3_ (kAH n2 (kAF o3 a3_ [])))):=by
 unfold zP at h
 refine Goes.round (m:=49) (l0:=(kE [(5,.ptr 4 0),(6,.ptr 6 0)])) (l:=(kE [(5,.ptr 4 0),(6,.ptr 6 0),(18,.i a4_),(19,.str a5_)])) rfl rfl rfl ?_
 intro B hB
 refine Goes.subQ ?_
 refine sh fol (kE (kAG a4_ [(19,.str a5_)])) ?_
 refine gh fol (kE (kAG a4_ [(8,.str a5_)])) ?_
 refine⟨_,Sub.refl _,?_⟩
 refine⟨_,_,_,_,_,rfl,?_⟩
 refine Goes.subQ ?_
 refine Goes.block ?_
 obtain⟨r4,e_r4,h⟩:=bnd h
 refine sq (gr fol [1] (kE (kAG a4_ ((9,.str r4.1)::(kBl r4.2)))) (ac (cv (qbs a5_ [10] e_r4)) az) ?_)
 refine sq ?_
 refine sh fol (kE (kAG a4_ [(9,.str r4.1),(26,.bool (!r4.2))])) ?_
 refine ihB h (fun c5 h=>?_) (fun c5 h=>?_)
 ·refine sq ?_
  obtain⟨o7,g_v8,h⟩:=bnd h
  refine Goes.cutS (s':=(ofG 49 (kE []),(.loop .busy none (ofG 49 [(2,.ptr 1 0),(3,.ptr 2 0),(4,.ptr 3 0),(5,.ptr 4 0),(6,.ptr 6 0)]) qf.xp qf.x1 qf.x2:: .cells [hsl 5 5 o7]::(kAH a3_ (.cells [.i 28]::(kAF o7 a3_ [])))))) ?_ ?_
  ·rcases a2_ with _|l6
   ·try dsimp only at g_v8
    obtain rfl:=si g_v8
    exact qj.sub (qj.rg fol (kE []) (.loop .busy none (ofG 49 [(2,.ptr 1 0),(3,.ptr 2 0),(4,.ptr 3 0),(5,.ptr 4 0),(6,.ptr 6 0)]) qf.xp qf.x1 qf.x2::(kAd (kAH a3_ (.cells [.i 28]::(kAd (.cells ((hof (none:Option (List qb))).flatMap qa.c)::(kAH a3_ [])))))))) (Sub.norm [] [some 0,some 1,some 2,some 3,some 4,some 5,some 6] (by rw[hB];rfl) rfl (.kp (.kp (.kp .nil))) (.kb rfl (.loop rfl (.kp (.kp (.kp (.kp (.kp .nil)))))) (.kb rfl (.cells (rc .hs0 rn)) (.kb rfl (.same sn) (.kb rfl (.same sn) (.kb rfl (.cells (rc .hs0 rn)) (.ks (.kb rfl (.same sn) .nil))))))))
   ·try dsimp only at g_v8
    obtain rfl:=si g_v8
    exact qj.sub (qj.rg fol (kE []) (.loop .busy none (ofG 49 [(2,.ptr 1 0),(3,.ptr 2 0),(4,.ptr 3 0),(5,.ptr 4 0),(6,.ptr 6 0)]) qf.xp qf.x1 qf.x2::(kAg l6 (kAH a3_ (.cells [.i 28]::(kAg l6 (kJ l6 (kAH a3_ [])))))))) (Sub.norm [] [some 0,some 1,some 2,some 3,some 4,some 5,some 6] (by rw[hB];rfl) rfl (.kp (.kp (.kp .nil))) (.kb rfl (.loop rfl (.kp (.kp (.kp (.kp (.kp .nil)))))) (.kb rfl (.cells (rc ((qX.hs1 rfl)) rn)) (.kb rfl (.same sn) (.kb rfl (.same sn) (.kb rfl (.cells (rc ((qX.hs1 rfl)) rn)) (.ks (.kb rfl (.same sn) .nil))))))))
  intro _ hsub
  refine Goes.sub hsub ?_
  refine Goes.ret ?_
  cases h
  exact⟨_,Sub.refl _,⟨_,_,rfl,(qcm.refl _ _)⟩⟩
 ·refine Goes.skip ?_
  refine sq ?_
  obtain⟨⟨o12,n13,s14,l15,l16,s17,n18⟩,g_v19,h⟩:=bnd h
  refine Goes.cutS (s':=(ofG 49 (kE (kAG a4_ (kBi n18 []))),(.loop .busy none (ofG 49 [(2,.ptr 1 0),(3,.ptr 2 0),(4,.ptr 3 0),(5,.ptr 4 0),(6,.ptr 6 0)]) qf.xp qf.x1 qf.x2::(kI a0_ a1_ (kAF o12 a3_ (kBb n13 s14 l15 l16 s17 [])))))) ?_ ?_
  ·rcases a2_ with _|l9
   ·try dsimp only at g_v19
    obtain⟨r10,e_r10,g_v19⟩:=bnd g_v19
    simp only[Option.some.injEq,Prod.mk.injEq]at g_v19
    obtain⟨rfl,rfl,rfl,rfl,rfl,rfl,rfl⟩:=g_v19
    exact qj.sub (qj.rq fol [4] (kE (kAG a4_ (kBi r10.2 []))) (.loop .busy none (ofG 49 [(2,.ptr 1 0),(3,.ptr 2 0),(4,.ptr 3 0),(5,.ptr 4 0),(6,.ptr 6 0)]) qf.xp qf.x1 qf.x2::(kI a0_ a1_ (kAd (.cells ((hof (none:Option (List qb))).flatMap qa.c)::(kAH a3_ (kW r10.1 [])))))) (ac (cv (yM N r4.1 (w64 (0+1)) e_r10)) az)) (Sub.norm [] [some 0,some 1,some 2,some 3,some 4,some 5,some 6,some 7] (by rw[hB];rfl) rfl (.kp (.kp (.kp (.kp (.kp (.keep (.same nI) (.kp (.keep (.same nI) .nil)))))))) (.kb rfl (.loop rfl (.kp (.kp (.kp (.kp (.kp .nil)))))) (.kb rfl (.same sn) (.kb rfl (.same sn) (.kb rfl (.same sn) (.kb rfl (.cells (rc .hs0 rn)) (.ks (.kb rfl (.same sn) (.kb rfl (.same sn) .nil)))))))))
   ·try dsimp only at g_v19
    obtain⟨r11,e_r11,g_v19⟩:=bnd g_v19
    simp only[Option.some.injEq,Prod.mk.injEq]at g_v19
    obtain⟨rfl,rfl,rfl,rfl,rfl,rfl,rfl⟩:=g_v19
    exact qj.sub (qj.rq fol [4] (kE (kAG a4_ (kBi r11.2 []))) (.loop .busy none (ofG 49 [(2,.ptr 1 0),(3,.ptr 2 0),(4,.ptr 3 0),(5,.ptr 4 0),(6,.ptr 6 0)]) qf.xp qf.x1 qf.x2::(kI a0_ a1_ (kAg l9 (kJ l9 (kAH a3_ (kW r11.1 [])))))) (ac (cv (yM N r4.1 (w64 ((l9.length:Int)+1)) e_r11)) az)) (Sub.norm [] [some 0,some 1,some 2,some 3,some 4,some 5,some 6,some 7] (by rw[hB];rfl) rfl (.kp (.kp (.kp (.kp (.kp (.keep (.same nI) (.kp (.keep (.same nI) .nil)))))))) (.kb rfl (.loop rfl (.kp (.kp (.kp (.kp (.kp .nil)))))) (.kb rfl (.same sn) (.kb rfl (.same sn) (.kb rfl (.same sn) (.kb rfl (.cells (rc ((qX.hs1 rfl)) rn)) (.ks (.kb rfl (.same sn) (.kb rfl (.same sn) .nil)))))))))
  intro _ hsub
  try dsimp only at h
  refine Goes.sub hsub ?_
  refine sq ?_
  refine sh fol (kE (kAG a4_ (kBi n18 [(38,.bool (!decide (n18=0)))]))) ?_
  refine ihB h (fun c20 h=>?_) (fun c20 h=>?_)
  ·refine sq ?_
   obtain⟨o22,g_v23,h⟩:=bnd h
   refine Goes.cutS (s':=(ofG 49 (kE []),(.loop .busy none (ofG 49 [(2,.ptr 1 0),(3,.ptr 2 0),(4,.ptr 3 0),(5,.ptr 4 0),(6,.ptr 6 0)]) qf.xp qf.x1 qf.x2:: .cells [hsl 5 5 o22]::(kAH a3_ (kAH n18 (kAF o22 a3_ [])))))) ?_ ?_
   ·rcases o12 with _|l21
    ·try dsimp only at g_v23
     obtain rfl:=si g_v23
     exact qj.sub (qj.rg fol (kE []) (.loop .busy none (ofG 49 [(2,.ptr 1 0),(3,.ptr 2 0),(4,.ptr 3 0),(5,.ptr 4 0),(6,.ptr 6 0)]) qf.xp qf.x1 qf.x2::(kI a3_ n18 (kAd (.cells ((hof (none:Option (List qb))).flatMap qa.c)::(kAH a3_ (kBb n13 s14 l15 l16 s17 []))))))) (Sub.norm [] [some 0,some 1,some 2,some 3,some 4,some 5,some 6] (by rw[hB];rfl) rfl (.kp (.kp (.kp .nil))) (.kb rfl (.loop rfl (.kp (.kp (.kp (.kp (.kp .nil)))))) (.kb rfl (.cells (rc .hs0 rn)) (.kb rfl (.same sn) (.kb rfl (.same sn) (.kb rfl (.cells (rc .hs0 rn)) (.ks (.kb rfl (.same sn) .nil))))))))
    ·try dsimp only at g_v23
     obtain rfl:=si g_v23
     exact qj.sub (qj.rg fol (kE []) (.loop .busy none (ofG 49 [(2,.ptr 1 0),(3,.ptr 2 0),(4,.ptr 3 0),(5,.ptr 4 0),(6,.ptr 6 0)]) qf.xp qf.x1 qf.x2::(kAg l21 (kAH a3_ (kAH n18 (kAg l21 (kJ l21 (kAH a3_ (kBb n13 s14 l15 l16 s17 []))))))))) (Sub.norm [] [some 0,some 1,some 2,some 3,some 4,some 5,some 6] (by rw[hB];rfl) rfl (.kp (.kp (.kp .nil))) (.kb rfl (.loop rfl (.kp (.kp (.kp (.kp (.kp .nil)))))) (.kb rfl (.cells (rc ((qX.hs1 rfl)) rn)) (.kb rfl (.same sn) (.kb rfl (.same sn) (.kb rfl (.cells (rc ((qX.hs1 rfl)) rn)) (.ks (.kb rfl (.same sn) .nil))))))))
   intro _ hsub
   refine Goes.sub hsub ?_
   refine Goes.ret ?_
   cases h
   exact⟨_,Sub.refl _,⟨_,_,rfl,(qcm.refl _ _)⟩⟩
  ·refine Goes.skip ?_
   obtain⟨l26,g_v27,h⟩:=bnd h
   refine Goes.cutS (s':=(ofG 49 [],(.loop .busy none (ofG 49 [(2,.ptr 1 0),(3,.ptr 2 0),(4,.ptr 3 0),(5,.ptr 4 0),(6,.ptr 6 0)]) qf.xp qf.x1 qf.x2::(kI a0_ a1_ (.cells [.oslice 7 l26.length 5]:: .dead::(kAH a4_ (kJ l26 []))))))) ?_ ?_
   ·rcases o12 with _|l24
    ·try dsimp only at g_v27
     obtain rfl:=si g_v27
     exact qj.sub (qj.rg fol [] (.loop .busy none (ofG 49 [(2,.ptr 1 0),(3,.ptr 2 0),(4,.ptr 3 0),(5,.ptr 4 0),(6,.ptr 6 0)]) qf.xp qf.x1 qf.x2::(kI a0_ a1_ (.cells [.oslice 9 1 5]:: .cells ((hof (none:Option (List qb))).flatMap qa.c)::(kAH a4_ (kAe n13 s14 l15 l16 s17 (kBb n13 s14 l15 l16 s17 []))))))) (Sub.norm [] [some 0,some 1,some 2,some 3,some 4,some 5,some 6,some 9] (by rw[hB];rfl) rfl .nil (.kb rfl (.loop rfl (.kp (.kp (.kp (.kp (.kp .nil)))))) (.kb rfl (.same sn) (.kb rfl (.same sn) (.kb rfl (.same sn) (.kb rfl (.cells (rc ((qX.osliceE rfl rfl)) rn)) (.lost (.kb rfl (.same sn) (.ks .nil)))))))))
    ·try dsimp only at g_v27
     obtain⟨l25,e_l25,g_v27⟩:=bnd g_v27
     obtain rfl:=si g_v27
     exact qj.sub (qj.rq fol [3] [] (.loop .busy none (ofG 49 [(2,.ptr 1 0),(3,.ptr 2 0),(4,.ptr 3 0),(5,.ptr 4 0),(6,.ptr 6 0)]) qf.xp qf.x1 qf.x2::(kI a0_ a1_ (.cells [.oslice 9 l25.length 5]:: .dead::(kAH a4_ (kAe n13 s14 l15 l16 s17 (kJ l25 [])))))) (ac (hs (.run [5,8] (qP Tryz.prog [22,22] (.oslice 5 l24.length 5) (.slice 8 0 1 1 5)) (.loop .busy none (ofG 49 [(2,.ptr 1 0),(3,.ptr 2 0),(4,.ptr 3 0),(5,.ptr 4 0),(6,.ptr 6 0)]) qf.xp qf.x1 qf.x2::(kI a0_ a1_ (kAg l24 (kJ l24 (kAH a3_ (kAe n13 s14 l15 l16 s17 [])))))) (.oslice 9 l25.length 5) (.loop .busy none (ofG 49 [(2,.ptr 1 0),(3,.ptr 2 0),(4,.ptr 3 0),(5,.ptr 4 0),(6,.ptr 6 0)]) qf.xp qf.x1 qf.x2::(kI a0_ a1_ (kAg l24 (.dead::(kAH a3_ (kAe n13 s14 l15 l16 s17 (kJ l25 []))))))) true) (jH zV (E:=qa) rfl (qa8 (E:=qa) (ys:=[(⟨n13,s14,l15,l16,s17⟩:qb)]) rfl rfl rfl rfl) (qgh (E:=qa) (l:=l24) rfl rfl rfl e_l25 rfl))) az)) (Sub.norm [] [some 0,some 1,some 2,some 3,some 4,some 5,some 6,some 9] (by rw[hB];rfl) rfl .nil (.kb rfl (.loop rfl (.kp (.kp (.kp (.kp (.kp .nil)))))) (.kb rfl (.same sn) (.kb rfl (.same sn) (.kb rfl (.same sn) (.kb rfl (.cells (rc (.oslice rfl) rn)) (.lost (.kb rfl (.same sn) (.ks .nil)))))))))
   intro _ hsub
   cases h
def qK (N:Nat) (a0_:Int) (a1_:Int) (a3_:Str):Nat→Int→(Option (List qb))→Int→Option ((Int×(Option (List qb)))⊕((Int×(Option (List qb)))⊕(Int×Int×Int×(Option (List qb)))))
 |0,_,_,_=>none
 |K+1,n7,o8,n9=>
  if n9<(a3_.length:Int)then
  (cut a3_ n9 (a3_.length:Int)).bind fun s15=>
  (strings_IndexByte s15 10).bind fun r16=>
  ((if r16≥0 then
  some (w64 ((w64 (n9+r16))+1))
  else
  some (a3_.length:Int):Option Int)).bind fun n17=>
  (cut a3_ n9 n17).bind fun s20=>
  (zP N a0_ a1_ o8 n7 n17 s20).bind fun r21=>
  match r21 with
  | .inl l22=>
  qK N a0_ a1_ a3_ K n17 (some l22) n17
  | .inr (n23,o24)=>
  some (.inr (.inr (n7,n23,n7,o24)))
  else
  some (.inl (n7,o8))
def vv (N:Nat) (a0_:Int) (a1_:Int) (a2_:Int) (a3_:Str):Option ((Int×(Option (List qb)))⊕(Int×Int×Int×(Option (List qb)))):=
 (qK N a0_ a1_ a3_ N a2_ (none:Option (List qb)) 0).bind (fun
 |(.inl (n10,o11))=>
 some (.inl (n10,o11))
 |(.inr q25)=>
 some q25)
theorem qcT (N:Nat) (a0_:Int) (a1_:Int) (a2_:Int) (a3_:Str) {n1:Int} {o2:Option (List qb)} (h:vv N a0_ a1_ a2_ a3_=some (.inl (n1,o2))):qg Tryz.prog (.fn 152) [.yld 0,.ptr 6 0] (.loop .ready none (ofG 49 [(2,.ptr 1 0),(3,.ptr 2 0),(4,.ptr 3 0),(5,.ptr 4 0),(6,.ptr 5 0)]) qf.xp qf.x1 qf.x2::(kI a0_ a1_ (kAd (kAH a2_ (kAc a3_ []))))) (.tuple []) (.loop .ready none (ofG 49 [(2,.ptr 1 0),(3,.ptr 2 0),(4,.ptr 3 0),(5,.ptr 4 0),(6,.ptr 5 0)]) qf.xp qf.x1 qf.x2::(kI a0_ a1_ (kK o2 n1 a3_))):=by
 unfold vv at h
 refine Goes.fnH Tryz.func152 rfl rfl (m:=31) rfl (rs:=[]) rfl (l:=[(0,.yld 0),(1,.ptr 6 0)]) rfl ?_
 intro B hB
 refine Goes.subQ ?_
 refine sh fol [(0,.yld 0),(1,.ptr 6 0),(3,.i 0)] ?_
 refine Goes.block ?_
 obtain⟨r12,g12,h⟩:=bnd h
 refine Goes.imp (Q:=fun x s'=>(x= .exit 0∧ ∃n10 o11,(.inl (n10,o11))=r12∧Sub s' (ofG 31 [],(.loop .ready none (ofG 49 [(2,.ptr 1 0),(3,.ptr 2 0),(4,.ptr 3 0),(5,.ptr 4 0),(6,.ptr 5 0)]) qf.xp qf.x1 qf.x2::(kI a0_ a1_ (kK o11 n10 a3_)))))∨(x= .ret∧ ∃q13,(.inr q13)=r12∧(∀(n1:Int) (o2:Option (List qb)),q13=(.inl (n1,o2))→qcQ Tryz.prog [] (.tuple []) (.loop .ready none (ofG 49 [(2,.ptr 1 0),(3,.ptr 2 0),(4,.ptr 3 0),(5,.ptr 4 0),(6,.ptr 5 0)]) qf.xp qf.x1 qf.x2::(kI a0_ a1_ (kK o2 n1 a3_))) .ret s'))) ?_ ?_
 ·refine Goes.sub (s':=(ofG 31 [(0,.yld 0),(1,.ptr 6 0),(3,.i 0)],(.loop .ready none (ofG 49 [(2,.ptr 1 0),(3,.ptr 2 0),(4,.ptr 3 0),(5,.ptr 4 0),(6,.ptr 5 0)]) qf.xp qf.x1 qf.x2::(kI a0_ a1_ (.cells [hsl 7 5 (none:Option (List qb))]::(kAH a2_ (kAc a3_ [.cells ((hof (none:Option (List qb))).flatMap qa.c)]))))))) (Sub.norm [] [some 0,some 1,some 2,some 3,some 4,some 5,some 6,none] (by rw[hB];rfl) rfl (.keep (.yld rfl) (.kp (.keep (.same nI) .nil))) (.kb rfl (.loop rfl (.kp (.kp (.kp (.kp (.kp .nil)))))) (.kb rfl (.same sn) (.kb rfl (.same sn) (.kb rfl (.same sn) (.kb rfl (.cells (rc .hs0 rn)) (.kb rfl (.same sn) (.kb rfl (.same sn) (.fresh .nil))))))))) ?_
  refine Goes.loopS (fun M s=> ∃(n7:Int) (o8:Option (List qb)) (n9:Int),s=(ofG 31 ((0,.yld 0)::(kAl n9 [])),(.loop .ready none (ofG 49 [(2,.ptr 1 0),(3,.ptr 2 0),(4,.ptr 3 0),(5,.ptr 4 0),(6,.ptr 5 0)]) qf.xp qf.x1 qf.x2::(kI a0_ a1_ (kK o8 n7 a3_))))∧qK N a0_ a1_ a3_ M n7 o8 n9=some r12) ?_ (m:=N) ⟨_,_,_,rfl,g12⟩
  rintro M s ⟨n7,o8,n9,rfl,g12⟩
  cases M with
  |zero=>simp only[qK]at g12;cases g12
  |succ M=>
   rw[qK]at g12
   refine sq ?_
   refine sh fol ((0,.yld 0)::(kAl n9 [(9,.bool (decide (n9<(a3_.length:Int))))])) ?_
   refine ihD g12 (fun c14 g12=>?_) (fun c14 g12=>?_)
   ·refine Goes.skip ?_
    refine Goes.block ?_
    refine sh fol ((0,.yld 0)::(kAl n9 (kBG (a3_.length:Int)))) ?_
    refine sq ?_
    obtain⟨s15,e_s15,g12⟩:=bnd g12
    obtain⟨r16,e_r16,g12⟩:=bnd g12
    refine sq (gr fol [2,3] ((0,.yld 0)::(kAl n9 ((4,.i (a3_.length:Int))::(kAs r16)))) (ac (hs (.done (.opt (qx Tryz.prog 9 (.str a3_) (some (.i n9)) none none)) (.str s15)) (yh st9 (some n9) none e_s15)) (ac (cv (qbq s15 10 e_r16)) az)) ?_)
    refine sh fol ((0,.yld 0)::(kAl n9 [(4,.i (a3_.length:Int)),(5,.i r16),(17,.bool (decide (r16≥0)))])) ?_
    obtain⟨r18,g18,g12⟩:=bnd g12
    refine Goes.imp (Q:=fun x s'=>(x= .normal∧ ∃n17,n17=r18∧Sub s' (ofG 31 ((0,.yld 0)::(kAl n9 (kBG n17))),(.loop .ready none (ofG 49 [(2,.ptr 1 0),(3,.ptr 2 0),(4,.ptr 3 0),(5,.ptr 4 0),(6,.ptr 5 0)]) qf.xp qf.x1 qf.x2::(kI a0_ a1_ (kK o8 n7 a3_)))))) ?_ ?_
    ·refine ihD g18 (fun c19 g18=>?_) (fun c19 g18=>?_)
     ·refine gh fol ((0,.yld 0)::(kAl n9 (kBG (w64 ((w64 (n9+r16))+1))))) ?_
      obtain rfl:=si g18
      exact⟨rfl,_,rfl,(Sub.refl _)⟩
     ·refine Goes.skip ?_
      obtain rfl:=si g18
      exact⟨rfl,_,rfl,(Sub.keep [0,1,3,4] rfl rfl)⟩
    rintro x s' ⟨rfl,n17,rfl,hsub⟩
    refine Goes.sub hsub ?_
    refine sq ?_
    refine sq ?_
    obtain⟨s20,e_s20,g12⟩:=bnd g12
    obtain⟨r21,e_r21,g12⟩:=bnd g12
    rcases r21 with l22|⟨n23,o24⟩
    ·try dsimp only at g12
     refine gq fol [5,6] [(0,.yld 0),(1,.ptr 6 0),(4,.i n17),(29,.bool false)] (.loop .ready none (ofG 49 [(2,.ptr 1 0),(3,.ptr 2 0),(4,.ptr 3 0),(5,.ptr 4 0),(6,.ptr 5 0)]) qf.xp qf.x1 qf.x2::(kI a0_ a1_ (.cells [.oslice 8 l22.length 5]::(kAH n17 (kAc a3_ (.dead::(kJ l22 []))))))) (ac (hs (.done (.opt (qx Tryz.prog 9 (.str a3_) (some (.i n9)) (some (.i n17)) none)) (.str s20)) (yh st9 (some n9) (some n17) e_s20)) (ac (hs (.callH (.rd 0) [.i n17,.str s20] (.loop .ready none (ofG 49 [(2,.ptr 1 0),(3,.ptr 2 0),(4,.ptr 3 0),(5,.ptr 4 0),(6,.ptr 5 0)]) qf.xp qf.x1 qf.x2::(kI a0_ a1_ (kK o8 n7 a3_))) [0,1,2,3,4,7,5] (.bool true) (.loop .ready none (ofG 49 [(2,.ptr 1 0),(3,.ptr 2 0),(4,.ptr 3 0),(5,.ptr 4 0),(6,.ptr 5 0)]) qf.xp qf.x1 qf.x2::(kI a0_ a1_ (.cells [.oslice 8 l22.length 5]::(kAH n17 (kAc a3_ (.dead::(kJ l22 [])))))))) (qiW [some 0,some 1,some 2,some 3,some 4,some 7,some 5] [some 0,some 1,some 2,some 3,some 4,some 6,none,none,some 7] (qa2 N a0_ a1_ o8 n7 n17 s20 e_r21) rfl (.kb rfl (.loop rfl (.kp (.kp (.kp (.kp (.kp .nil)))))) (.kb rfl (.cells (rc (.same (ql.nilslice)) rn)) (.kb rfl (.cells (rc (.same nI) rn)) (.kb rfl (.cells (rc (.same nI) rn)) (.kb rfl (.cells (rc (.hs rfl) rn)) (.ks (.kb rfl (.cells (rc (.same nI) rn)) .nil))))))) rfl rfl (.back rfl rfl (.loop rfl (.kp (.kp (.kp (.kp (.kp .nil)))))) rfl (.back rfl rfl (.cells (rc (.same (ql.nilslice)) rn)) rfl (.back rfl rfl (.cells (rc (.same nI) rn)) rfl (.back rfl rfl (.cells (rc (.same nI) rn)) rfl (.back rfl rfl (.cells (rc (.oslice rfl) rn)) rfl (.back rfl rfl (.cells (rc (.same nI) rn)) rfl (.old rfl rfl (.dead (.new rfl rfl (.same fa) rfl .nil))))))))) (rc (.same nI) (rc (.same nS) rn)) (.same nB) rfl)) az)) ?_
     refine Goes.ifB (b:=false) (by kernel_rfl) (fun c=>(by cases c)) (fun _=>?_)
     refine Goes.skip ?_
     refine gh fol ((0,.yld 0)::(kAl n17 [])) ?_
     exact⟨M,(ofG 31 ((0,.yld 0)::(kAl n17 [])),(.loop .ready none (ofG 49 [(2,.ptr 1 0),(3,.ptr 2 0),(4,.ptr 3 0),(5,.ptr 4 0),(6,.ptr 5 0)]) qf.xp qf.x1 qf.x2::(kI a0_ a1_ (kK (some l22) n17 a3_)))),Nat.lt_succ_self _,(Sub.norm [] [some 0,some 1,some 2,some 3,some 4,some 5,some 6,some 8] (by rw[hB];rfl) rfl (.keep (.yld rfl) (.kp (.keep (.same nI) .nil))) (.kb rfl (.loop rfl (.kp (.kp (.kp (.kp (.kp .nil)))))) (.kb rfl (.same sn) (.kb rfl (.same sn) (.kb rfl (.same sn) (.kb rfl (.cells (rc ((qX.hs1 rfl)) rn)) (.kb rfl (.same sn) (.kb rfl (.same sn) (.ks .nil))))))))),_,_,_,rfl,g12⟩
    ·try dsimp only at g12
     refine gq fol [5,6] [(0,.yld 0),(1,.ptr 6 0),(4,.i n17),(29,.bool true)] (.loop .done (some .ret) (ofG 49 [(2,.ptr 1 0),(3,.ptr 2 0),(4,.ptr 3 0),(5,.ptr 4 0),(6,.ptr 5 0)]) qf.xp qf.x1 qf.x2::(kBX o24 (kAH n7 (kAH n23 (kK o24 n7 a3_))))) (ac (hs (.done (.opt (qx Tryz.prog 9 (.str a3_) (some (.i n9)) (some (.i n17)) none)) (.str s20)) (yh st9 (some n9) (some n17) e_s20)) (ac (hs (.callH (.rd 0) [.i n17,.str s20] (.loop .ready none (ofG 49 [(2,.ptr 1 0),(3,.ptr 2 0),(4,.ptr 3 0),(5,.ptr 4 0),(6,.ptr 5 0)]) qf.xp qf.x1 qf.x2::(kI a0_ a1_ (kK o8 n7 a3_))) [0,1,2,3,4,7,5] (.bool false) (.loop .done (some .ret) (ofG 49 [(2,.ptr 1 0),(3,.ptr 2 0),(4,.ptr 3 0),(5,.ptr 4 0),(6,.ptr 5 0)]) qf.xp qf.x1 qf.x2::(kBX o24 (kAH n7 (kAH n23 (kK o24 n7 a3_)))))) (qiW [some 0,some 1,some 2,some 3,some 4,some 7,some 5] [some 0,some 1,some 2,some 3,some 4,some 6,none,some 5] (qaV N a0_ a1_ o8 n7 n17 s20 e_r21) rfl (.kb rfl (.loop rfl (.kp (.kp (.kp (.kp (.kp .nil)))))) (.kb rfl (.cells (rc (.same (ql.nilslice)) rn)) (.kb rfl (.cells (rc (.same nI) rn)) (.kb rfl (.cells (rc (.same nI) rn)) (.kb rfl (.cells (rc (.hs rfl) rn)) (.ks (.kb rfl (.cells (rc (.same nI) rn)) .nil))))))) rfl rfl (.back rfl rfl (.loop rfl (.kp (.kp (.kp (.kp (.kp .nil)))))) rfl (.back rfl rfl (.cells (rc (.hs rfl) rn)) rfl (.back rfl rfl (.cells (rc (.same nI) rn)) rfl (.back rfl rfl (.cells (rc (.same nI) rn)) rfl (.back rfl rfl (.cells (rc (.hs rfl) rn)) rfl (.back rfl rfl (.cells (rc (.same nI) rn)) rfl (.old rfl rfl (.back rfl rfl (.same fa) rfl .nil)))))))) (rc (.same nI) (rc (.same nS) rn)) (.same nB) rfl)) az)) ?_
     refine Goes.ifB (b:=true) (by kernel_rfl) (fun _=>?_) (fun c=>(by cases c))
     refine Goes.ret ?_
     obtain rfl:=si g12
     exact Or.inr (⟨rfl,_,rfl,(fun n1 o2 e_=>by cases e_)⟩)
   ·refine Goes.exit ?_
    obtain rfl:=si g12
    exact Or.inl (⟨rfl,_,_,rfl,(Sub.keep [] rfl rfl)⟩)
 rintro x s' (⟨rfl,n10,o11,rfl,hsub⟩|⟨rfl,q25,rfl,hret⟩)
 ·try dsimp only at h
  cases h
  exact⟨_,hsub,(gh2 [] (qcm.refl _ _))⟩
 ·try dsimp only at h
  exact⟨_,Sub.refl _,(hret _ _ (si h))⟩
theorem qcY (N:Nat) (a0_:Int) (a1_:Int) (a2_:Int) (a3_:Str) {n3:Int} {n4:Int} {n5:Int} {o6:Option (List qb)} (h:vv N a0_ a1_ a2_ a3_=some (.inr (n3,n4,n5,o6))):qg Tryz.prog (.fn 152) [.yld 0,.ptr 6 0] (.loop .ready none (ofG 49 [(2,.ptr 1 0),(3,.ptr 2 0),(4,.ptr 3 0),(5,.ptr 4 0),(6,.ptr 5 0)]) qf.xp qf.x1 qf.x2::(kI a0_ a1_ (kAd (kAH a2_ (kAc a3_ []))))) (.tuple []) (.loop .done (some .ret) (ofG 49 [(2,.ptr 1 0),(3,.ptr 2 0),(4,.ptr 3 0),(5,.ptr 4 0),(6,.ptr 5 0)]) qf.xp qf.x1 qf.x2::(kBX o6 (kAH n3 (kAH n4 (kK o6 n5 a3_))))):=by
 unfold vv at h
 refine Goes.fnH Tryz.func152 rfl rfl (m:=31) rfl (rs:=[]) rfl (l:=[(0,.yld 0),(1,.ptr 6 0)]) rfl ?_
 intro B hB
 refine Goes.subQ ?_
 refine sh fol [(0,.yld 0),(1,.ptr 6 0),(3,.i 0)] ?_
 refine Goes.block ?_
 obtain⟨r12,g12,h⟩:=bnd h
 refine Goes.imp (Q:=fun x s'=>(x= .exit 0∧ ∃n10 o11,(.inl (n10,o11))=r12∧Sub s' (ofG 31 [],(.loop .ready none (ofG 49 [(2,.ptr 1 0),(3,.ptr 2 0),(4,.ptr 3 0),(5,.ptr 4 0),(6,.ptr 5 0)]) qf.xp qf.x1 qf.x2::(kI a0_ a1_ (kK o11 n10 a3_)))))∨(x= .ret∧ ∃q13,(.inr q13)=r12∧(∀(n3:Int) (n4:Int) (n5:Int) (o6:Option (List qb)),q13=(.inr (n3,n4,n5,o6))→qcQ Tryz.prog [] (.tuple []) (.loop .done (some .ret) (ofG 49 [(2,.ptr 1 0),(3,.ptr 2 0),(4,.ptr 3 0),(5,.ptr 4 0),(6,.ptr 5 0)]) qf.xp qf.x1 qf.x2::(kBX o6 (kAH n3 (kAH n4 (kK o6 n5 a3_))))) .ret s'))) ?_ ?_
 ·refine Goes.sub (s':=(ofG 31 [(0,.yld 0),(1,.ptr 6 0),(3,.i 0)],(.loop .ready none (ofG 49 [(2,.ptr 1 0),(3,.ptr 2 0),(4,.ptr 3 0),(5,.ptr 4 0),(6,.ptr 5 0)]) qf.xp qf.x1 qf.x2::(kI a0_ a1_ (.cells [hsl 7 5 (none:Option (List qb))]::(kAH a2_ (kAc a3_ [.cells ((hof (none:Option (List qb))).flatMap qa.c)]))))))) (Sub.norm [] [some 0,some 1,some 2,some 3,some 4,some 5,some 6,none] (by rw[hB];rfl) rfl (.keep (.yld rfl) (.kp (.keep (.same nI) .nil))) (.kb rfl (.loop rfl (.kp (.kp (.kp (.kp (.kp .nil)))))) (.kb rfl (.same sn) (.kb rfl (.same sn) (.kb rfl (.same sn) (.kb rfl (.cells (rc .hs0 rn)) (.kb rfl (.same sn) (.kb rfl (.same sn) (.fresh .nil))))))))) ?_
  refine Goes.loopS (fun M s=> ∃(n7:Int) (o8:Option (List qb)) (n9:Int),s=(ofG 31 ((0,.yld 0)::(kAl n9 [])),(.loop .ready none (ofG 49 [(2,.ptr 1 0),(3,.ptr 2 0),(4,.ptr 3 0),(5,.ptr 4 0),(6,.ptr 5 0)]) qf.xp qf.x1 qf.x2::(kI a0_ a1_ (kK o8 n7 a3_))))∧qK N a0_ a1_ a3_ M n7 o8 n9=some r12) ?_ (m:=N) ⟨_,_,_,rfl,g12⟩
  rintro M s ⟨n7,o8,n9,rfl,g12⟩
  cases M with
  |zero=>simp only[qK]at g12;cases g12
  |succ M=>
   rw[qK]at g12
   refine sq ?_
   refine sh fol ((0,.yld 0)::(kAl n9 [(9,.bool (decide (n9<(a3_.length:Int))))])) ?_
   refine ihD g12 (fun c14 g12=>?_) (fun c14 g12=>?_)
   ·refine Goes.skip ?_
    refine Goes.block ?_
    refine sh fol ((0,.yld 0)::(kAl n9 (kBG (a3_.length:Int)))) ?_
    refine sq ?_
    obtain⟨s15,e_s15,g12⟩:=bnd g12
    obtain⟨r16,e_r16,g12⟩:=bnd g12
    refine sq (gr fol [2,3] ((0,.yld 0)::(kAl n9 ((4,.i (a3_.length:Int))::(kAs r16)))) (ac (hs (.done (.opt (qx Tryz.prog 9 (.str a3_) (some (.i n9)) none none)) (.str s15)) (yh st9 (some n9) none e_s15)) (ac (cv (qbq s15 10 e_r16)) az)) ?_)
    refine sh fol ((0,.yld 0)::(kAl n9 [(4,.i (a3_.length:Int)),(5,.i r16),(17,.bool (decide (r16≥0)))])) ?_
    obtain⟨r18,g18,g12⟩:=bnd g12
    refine Goes.imp (Q:=fun x s'=>(x= .normal∧ ∃n17,n17=r18∧Sub s' (ofG 31 ((0,.yld 0)::(kAl n9 (kBG n17))),(.loop .ready none (ofG 49 [(2,.ptr 1 0),(3,.ptr 2 0),(4,.ptr 3 0),(5,.ptr 4 0),(6,.ptr 5 0)]) qf.xp qf.x1 qf.x2::(kI a0_ a1_ (kK o8 n7 a3_)))))) ?_ ?_
    ·refine ihD g18 (fun c19 g18=>?_) (fun c19 g18=>?_)
     ·refine gh fol ((0,.yld 0)::(kAl n9 (kBG (w64 ((w64 (n9+r16))+1))))) ?_
      obtain rfl:=si g18
      exact⟨rfl,_,rfl,(Sub.refl _)⟩
     ·refine Goes.skip ?_
      obtain rfl:=si g18
      exact⟨rfl,_,rfl,(Sub.keep [0,1,3,4] rfl rfl)⟩
    rintro x s' ⟨rfl,n17,rfl,hsub⟩
    refine Goes.sub hsub ?_
    refine sq ?_
    refine sq ?_
    obtain⟨s20,e_s20,g12⟩:=bnd g12
    obtain⟨r21,e_r21,g12⟩:=bnd g12
    rcases r21 with l22|⟨n23,o24⟩
    ·try dsimp only at g12
     refine gq fol [5,6] [(0,.yld 0),(1,.ptr 6 0),(4,.i n17),(29,.bool false)] (.loop .ready none (ofG 49 [(2,.ptr 1 0),(3,.ptr 2 0),(4,.ptr 3 0),(5,.ptr 4 0),(6,.ptr 5 0)]) qf.xp qf.x1 qf.x2::(kI a0_ a1_ (.cells [.oslice 8 l22.length 5]::(kAH n17 (kAc a3_ (.dead::(kJ l22 []))))))) (ac (hs (.done (.opt (qx Tryz.prog 9 (.str a3_) (some (.i n9)) (some (.i n17)) none)) (.str s20)) (yh st9 (some n9) (some n17) e_s20)) (ac (hs (.callH (.rd 0) [.i n17,.str s20] (.loop .ready none (ofG 49 [(2,.ptr 1 0),(3,.ptr 2 0),(4,.ptr 3 0),(5,.ptr 4 0),(6,.ptr 5 0)]) qf.xp qf.x1 qf.x2::(kI a0_ a1_ (kK o8 n7 a3_))) [0,1,2,3,4,7,5] (.bool true) (.loop .ready none (ofG 49 [(2,.ptr 1 0),(3,.ptr 2 0),(4,.ptr 3 0),(5,.ptr 4 0),(6,.ptr 5 0)]) qf.xp qf.x1 qf.x2::(kI a0_ a1_ (.cells [.oslice 8 l22.length 5]::(kAH n17 (kAc a3_ (.dead::(kJ l22 [])))))))) (qiW [some 0,some 1,some 2,some 3,some 4,some 7,some 5] [some 0,some 1,some 2,some 3,some 4,some 6,none,none,some 7] (qa2 N a0_ a1_ o8 n7 n17 s20 e_r21) rfl (.kb rfl (.loop rfl (.kp (.kp (.kp (.kp (.kp .nil)))))) (.kb rfl (.cells (rc (.same (ql.nilslice)) rn)) (.kb rfl (.cells (rc (.same nI) rn)) (.kb rfl (.cells (rc (.same nI) rn)) (.kb rfl (.cells (rc (.hs rfl) rn)) (.ks (.kb rfl (.cells (rc (.same nI) rn)) .nil))))))) rfl rfl (.back rfl rfl (.loop rfl (.kp (.kp (.kp (.kp (.kp .nil)))))) rfl (.back rfl rfl (.cells (rc (.same (ql.nilslice)) rn)) rfl (.back rfl rfl (.cells (rc (.same nI) rn)) rfl (.back rfl rfl (.cells (rc (.same nI) rn)) rfl (.back rfl rfl (.cells (rc (.oslice rfl) rn)) rfl (.back rfl rfl (.cells (rc (.same nI) rn)) rfl (.old rfl rfl (.dead (.new rfl rfl (.same fa) rfl .nil))))))))) (rc (.same nI) (rc (.same nS) rn)) (.same nB) rfl)) az)) ?_
     refine Goes.ifB (b:=false) (by kernel_rfl) (fun c=>(by cases c)) (fun _=>?_)
     refine Goes.skip ?_
     refine gh fol ((0,.yld 0)::(kAl n17 [])) ?_
     exact⟨M,(ofG 31 ((0,.yld 0)::(kAl n17 [])),(.loop .ready none (ofG 49 [(2,.ptr 1 0),(3,.ptr 2 0),(4,.ptr 3 0),(5,.ptr 4 0),(6,.ptr 5 0)]) qf.xp qf.x1 qf.x2::(kI a0_ a1_ (kK (some l22) n17 a3_)))),Nat.lt_succ_self _,(Sub.norm [] [some 0,some 1,some 2,some 3,some 4,some 5,some 6,some 8] (by rw[hB];rfl) rfl (.keep (.yld rfl) (.kp (.keep (.same nI) .nil))) (.kb rfl (.loop rfl (.kp (.kp (.kp (.kp (.kp .nil)))))) (.kb rfl (.same sn) (.kb rfl (.same sn) (.kb rfl (.same sn) (.kb rfl (.cells (rc ((qX.hs1 rfl)) rn)) (.kb rfl (.same sn) (.kb rfl (.same sn) (.ks .nil))))))))),_,_,_,rfl,g12⟩
    ·try dsimp only at g12
     refine gq fol [5,6] [(0,.yld 0),(1,.ptr 6 0),(4,.i n17),(29,.bool true)] (.loop .done (some .ret) (ofG 49 [(2,.ptr 1 0),(3,.ptr 2 0),(4,.ptr 3 0),(5,.ptr 4 0),(6,.ptr 5 0)]) qf.xp qf.x1 qf.x2::(kBX o24 (kAH n7 (kAH n23 (kK o24 n7 a3_))))) (ac (hs (.done (.opt (qx Tryz.prog 9 (.str a3_) (some (.i n9)) (some (.i n17)) none)) (.str s20)) (yh st9 (some n9) (some n17) e_s20)) (ac (hs (.callH (.rd 0) [.i n17,.str s20] (.loop .ready none (ofG 49 [(2,.ptr 1 0),(3,.ptr 2 0),(4,.ptr 3 0),(5,.ptr 4 0),(6,.ptr 5 0)]) qf.xp qf.x1 qf.x2::(kI a0_ a1_ (kK o8 n7 a3_))) [0,1,2,3,4,7,5] (.bool false) (.loop .done (some .ret) (ofG 49 [(2,.ptr 1 0),(3,.ptr 2 0),(4,.ptr 3 0),(5,.ptr 4 0),(6,.ptr 5 0)]) qf.xp qf.x1 qf.x2::(kBX o24 (kAH n7 (kAH n23 (kK o24 n7 a3_)))))) (qiW [some 0,some 1,some 2,some 3,some 4,some 7,some 5] [some 0,some 1,some 2,some 3,some 4,some 6,none,some 5] (qaV N a0_ a1_ o8 n7 n17 s20 e_r21) rfl (.kb rfl (.loop rfl (.kp (.kp (.kp (.kp (.kp .nil)))))) (.kb rfl (.cells (rc (.same (ql.nilslice)) rn)) (.kb rfl (.cells (rc (.same nI) rn)) (.kb rfl (.cells (rc (.same nI) rn)) (.kb rfl (.cells (rc (.hs rfl) rn)) (.ks (.kb rfl (.cells (rc (.same nI) rn)) .nil))))))) rfl rfl (.back rfl rfl (.loop rfl (.kp (.kp (.kp (.kp (.kp .nil)))))) rfl (.back rfl rfl (.cells (rc (.hs rfl) rn)) rfl (.back rfl rfl (.cells (rc (.same nI) rn)) rfl (.back rfl rfl (.cells (rc (.same nI) rn)) rfl (.back rfl rfl (.cells (rc (.hs rfl) rn)) rfl (.back rfl rfl (.cells (rc (.same nI) rn)) rfl (.old rfl rfl (.back rfl rfl (.same fa) rfl .nil)))))))) (rc (.same nI) (rc (.same nS) rn)) (.same nB) rfl)) az)) ?_
     refine Goes.ifB (b:=true) (by kernel_rfl) (fun _=>?_) (fun c=>(by cases c))
     refine Goes.ret ?_
     obtain rfl:=si g12
     exact Or.inr (⟨rfl,_,rfl,(fun n3 n4 n5 o6 e_=>by cases e_;exact(gh2 [] (qcm.refl _ _)))⟩)
   ·refine Goes.exit ?_
    obtain rfl:=si g12
    exact Or.inl (⟨rfl,_,_,rfl,(Sub.keep [] rfl rfl)⟩)
 rintro x s' (⟨rfl,n10,o11,rfl,hsub⟩|⟨rfl,q25,rfl,hret⟩)
 ·try dsimp only at h
  cases h
 ·try dsimp only at h
  exact⟨_,Sub.refl _,(hret _ _ _ _ (si h))⟩
def jf (N:Nat) (log:Str):Option ((List qb)×Int×Int):=
 if(log.length:Int)>1000000 then
 some ([],0,26)
 else
 (qaF log).bind fun _=>
 (vv N 0 0 0 log).bind fun r3=>
 match r3 with
 | .inl (n4,o5)=>
 ((match o5 with
 |none=>
 some (none:Option (List qb))
 |some l10=>
 some (some l10)):Option (Option (List qb))).bind fun o11=>
 some ((hof o11),n4,0)
 | .inr (n6,n7,n8,o9)=>
 some ((hof o9),n6,n7)
theorem yJ (N:Nat) (log:Str) {res:(List qb)×Int×Int} (h:jf N log=some res):qg Tryz.prog (.fn 43) [.str log] [] (.tuple [vl qa res.1,.i res.2.1,.i res.2.2]) []:=by
 unfold jf at h
 refine Goes.fnW Tryz.func43 rfl rfl (m:=49) rfl (rs:=[.cell 2 22,.cell 3 3,.cell 4 32]) rfl (l:=(kBZ log)) rfl ?_
 refine sg fol ((0,.str log)::(kO (kAi []))) (kAC (kBt [])) ?_
 refine sq ?_
 refine sh fol ((0,.str log)::(kO (kAi [(15,.bool (decide ((log.length:Int)>1000000)))]))) ?_
 refine ihD h (fun c1 h=>?_) (fun c1 h=>?_)
 ·refine sg fol (kO (kAi [])) (kAC [.cells [.i 26]]) ?_
  refine Goes.ret ?_
  obtain rfl:=si h
  exact(gw2 [.nilslice,.i 0,.i 26] (FzW.tuple (qo.cons (FzW.nilv (E:=qa)) (qo.cons (FzW.still tI) (qo.cons (FzW.still tI) qo.nil)))))
 ·refine Goes.skip ?_
  refine sg fol ((0,.str log)::(kO (kAi [(5,.ptr 3 0)]))) (kAC (kBt (kAd []))) ?_
  refine sg fol ((0,.str log)::(kO (kAi (kBy [])))) (kAC (kBt (kAC []))) ?_
  refine sq ?_
  obtain⟨_,e_r2,h⟩:=bnd h
  refine sq (gq fol [1] (kO (kAi (kBy [(17,.func (.func 152) [] [.ptr 5 0])]))) (kAC (kBt (kAC (kAc log [])))) (ac (hs (.callH 103 [.str log] (kAC (kBt (kAC []))) [] (.func (.func 152) [] [.ptr 5 0]) (kAC (kBt (kAC (kAc log []))))) (kg [] [none,none,none,none,none,some 0] (qe2 log e_r2) .nil rfl rfl (.old rfl rfl (.old rfl rfl (.old rfl rfl (.old rfl rfl (.old rfl rfl (.new rfl rfl (.cells (rc (.same nS) rn)) rfl .nil)))))) (rc (.same nS) rn) (.funcL (sn) (rc (.ptr rfl) rn)) rfl)) az) ?_)
  refine Goes.block ?_
  obtain⟨r3,e_r3,h⟩:=bnd h
  rcases r3 with⟨n4,o5⟩|⟨n6,n7,n8,o9⟩
  ·try dsimp only at h
   refine Goes.range fol rfl (gf:=152) (first:=[]) (captured:=[.ptr 5 0]) (v:= .tuple []) (A2:=(kAC (kBt (kBX o5 (kAH n4 (kAc log (.loop .ready none (ofG 49 [(2,.ptr 0 0),(3,.ptr 1 0),(4,.ptr 2 0),(5,.ptr 3 0),(6,.ptr 4 0)]) qf.xp qf.x1 qf.x2::(kAu o5 [])))))))) (s':=(ofG 49 (kO (kAi (kBy [(17,.func (.func 152) [] [.ptr 5 0])]))),(kAC (kBt (kBX o5 (kAH n4 (kAc log (.loop .exhausted none (ofG 49 [(2,.ptr 0 0),(3,.ptr 1 0),(4,.ptr 2 0),(5,.ptr 3 0),(6,.ptr 4 0)]) qf.xp qf.x1 qf.x2::(kAu o5 []))))))))) (x:= .normal) (by kernel_rfl) (by kernel_rfl) (qjY (show(Obl.callH 152 [.yld 6,.ptr 5 0] (kAC (kBt (kAC (kAc log [.loop .ready none (ofG 49 [(2,.ptr 0 0),(3,.ptr 1 0),(4,.ptr 2 0),(5,.ptr 3 0),(6,.ptr 4 0),(17,.func (.func 152) [] [.ptr 5 0])]) qf.xp qf.x1 qf.x2])))) [6,0,1,2,3,4,5] (.tuple []) (kAC (kBt (kBX o5 (kAH n4 (kAc log (.loop .ready none (ofG 49 [(2,.ptr 0 0),(3,.ptr 1 0),(4,.ptr 2 0),(5,.ptr 3 0),(6,.ptr 4 0)]) qf.xp qf.x1 qf.x2::(kAu o5 [])))))))).Holds Tryz.prog from kg [some 6,some 0,some 1,some 2,some 3,some 4,some 5] [some 1,some 2,some 3,some 4,some 5,some 6,some 0,some 7] (qcT N 0 0 0 log e_r3) (.kb rfl (.loop rfl (.kp (.kp (.kp (.kp (.kp (.drop .nil))))))) (.kb rfl (.cells (rc (.same (ql.nilslice)) rn)) (.kb rfl (.cells (rc (.same nI) rn)) (.kb rfl (.cells (rc (.same nI) rn)) (.kb rfl (.cells (rc (.same (ql.nilslice)) rn)) (.kb rfl (.cells (rc (.same nI) rn)) (.kb rfl (.cells (rc (.same nS) rn)) .nil))))))) rfl rfl (.back rfl rfl (.cells (rc (.same (ql.nilslice)) rn)) rfl (.back rfl rfl (.cells (rc (.same nI) rn)) rfl (.back rfl rfl (.cells (rc (.same nI) rn)) rfl (.back rfl rfl (.cells (rc (.hs rfl) rn)) rfl (.back rfl rfl (.cells (rc (.same nI) rn)) rfl (.back rfl rfl (.cells (rc (.same nS) rn)) rfl (.back rfl rfl (.loop rfl (.kp (.kp (.kp (.kp (.kp .nil)))))) rfl (.new rfl rfl (.same fa) rfl .nil)))))))) (rc (.yld rfl) (rc (.ptr rfl) rn)) (.same (ql.tuple sn)) rfl)) (by kernel_rfl) ?_
   refine Goes.sub (show Sub (ofG 49 (kO (kAi (kBy [(17,.func (.func 152) [] [.ptr 5 0])]))),(kAC (kBt (kBX o5 (kAH n4 (kAc log (.loop .exhausted none (ofG 49 [(2,.ptr 0 0),(3,.ptr 1 0),(4,.ptr 2 0),(5,.ptr 3 0),(6,.ptr 4 0)]) qf.xp qf.x1 qf.x2::(kAu o5 [])))))))) (ofG 49 (kO (kAi [(5,.ptr 3 0),(6,.ptr 5 0),(17,.func (.func 152) [] [.ptr 6 0])])),(kAC (kBt (.cells [hsl 4 5 o5]::(kAu o5 (kAH n4 (kAc log [])))))))from(Sub.norm [] [some 0,some 1,some 2,some 3,some 7,some 4,some 5] rfl rfl (.kp (.kp (.kp (.kp (.kp (.keep (.funcL (sn) (rc (.ptr rfl) rn)) .nil)))))) (.kb rfl (.same sn) (.kb rfl (.same sn) (.kb rfl (.same sn) (.kb rfl (.cells (rc (.hs rfl) rn)) (.ks (.kb rfl (.same sn) (.kb rfl (.same sn) .nil))))))))) ?_
   refine sq ?_
   obtain⟨o11,g_v12,h⟩:=bnd h
   refine Goes.cutS (s':=(ofG 49 (kU [(3,.ptr 2 0),(4,.ptr 3 0)]),(.cells [hsl 1 5 o11]::(kAu o11 (kAH n4 (kBt [])))))) ?_ ?_
   ·rcases o5 with _|l10
    ·try dsimp only at g_v12
     obtain rfl:=si g_v12
     exact qj.sub (qj.rg fol (kO (kAi [])) (kAd (kAH n4 (kBt (kAd (.cells ((hof (none:Option (List qb))).flatMap qa.c)::(kAH n4 (kAc log [])))))))) (Sub.norm [] [some 0,none,some 1,some 2] rfl rfl (.kp (.kp (.kp .nil))) (.kb rfl (.cells (rc .hs0 rn)) (.fresh (.kb rfl (.same sn) (.kb rfl (.same sn) .nil)))))
    ·try dsimp only at g_v12
     obtain rfl:=si g_v12
     exact qj.sub (qj.rg fol (kO (kAi [])) (.cells [.oslice 4 l10.length 5]::(kAH n4 (kBt (.cells [.oslice 4 l10.length 5]::(kJ l10 (kAH n4 (kAc log [])))))))) (Sub.norm [] [some 0,some 4,some 1,some 2] rfl rfl (.kp (.kp (.kp .nil))) (.kb rfl (.cells (rc ((qX.hs1 rfl)) rn)) (.ks (.kb rfl (.same sn) (.kb rfl (.same sn) .nil)))))
   intro _ hsub
   refine Goes.sub hsub ?_
   refine Goes.ret ?_
   obtain rfl:=si h
   exact(gw2 [hsl 1 5 o11,.i n4,.i 0] (FzW.tuple (qo.cons (FzW.hs (E:=qa) rfl rfl (nl rfl)) (qo.cons (FzW.still tI) (qo.cons (FzW.still tI) qo.nil)))))
  ·try dsimp only at h
   refine Goes.range fol rfl (gf:=152) (first:=[]) (captured:=[.ptr 5 0]) (v:= .tuple []) (A2:=(kBX o9 (kAH n6 (kAH n7 (kBX o9 (kAH n8 (kAc log (.loop .done (some .ret) (ofG 49 [(2,.ptr 0 0),(3,.ptr 1 0),(4,.ptr 2 0),(5,.ptr 3 0),(6,.ptr 4 0)]) qf.xp qf.x1 qf.x2::(kAu o9 []))))))))) (s':=(ofG 49 (kO (kAi (kBy [(17,.func (.func 152) [] [.ptr 5 0])]))),(kBX o9 (kAH n6 (kAH n7 (kBX o9 (kAH n8 (kAc log (.loop .exhausted (some .ret) (ofG 49 [(2,.ptr 0 0),(3,.ptr 1 0),(4,.ptr 2 0),(5,.ptr 3 0),(6,.ptr 4 0)]) qf.xp qf.x1 qf.x2::(kAu o9 [])))))))))) (x:= .ret) (by kernel_rfl) (by kernel_rfl) (qjY (show(Obl.callH 152 [.yld 6,.ptr 5 0] (kAC (kBt (kAC (kAc log [.loop .ready none (ofG 49 [(2,.ptr 0 0),(3,.ptr 1 0),(4,.ptr 2 0),(5,.ptr 3 0),(6,.ptr 4 0),(17,.func (.func 152) [] [.ptr 5 0])]) qf.xp qf.x1 qf.x2])))) [6,0,1,2,3,4,5] (.tuple []) (kBX o9 (kAH n6 (kAH n7 (kBX o9 (kAH n8 (kAc log (.loop .done (some .ret) (ofG 49 [(2,.ptr 0 0),(3,.ptr 1 0),(4,.ptr 2 0),(5,.ptr 3 0),(6,.ptr 4 0)]) qf.xp qf.x1 qf.x2::(kAu o9 []))))))))).Holds Tryz.prog from kg [some 6,some 0,some 1,some 2,some 3,some 4,some 5] [some 1,some 2,some 3,some 4,some 5,some 6,some 0,some 7] (qcY N 0 0 0 log e_r3) (.kb rfl (.loop rfl (.kp (.kp (.kp (.kp (.kp (.drop .nil))))))) (.kb rfl (.cells (rc (.same (ql.nilslice)) rn)) (.kb rfl (.cells (rc (.same nI) rn)) (.kb rfl (.cells (rc (.same nI) rn)) (.kb rfl (.cells (rc (.same (ql.nilslice)) rn)) (.kb rfl (.cells (rc (.same nI) rn)) (.kb rfl (.cells (rc (.same nS) rn)) .nil))))))) rfl rfl (.back rfl rfl (.cells (rc (.hs rfl) rn)) rfl (.back rfl rfl (.cells (rc (.same nI) rn)) rfl (.back rfl rfl (.cells (rc (.same nI) rn)) rfl (.back rfl rfl (.cells (rc (.hs rfl) rn)) rfl (.back rfl rfl (.cells (rc (.same nI) rn)) rfl (.back rfl rfl (.cells (rc (.same nS) rn)) rfl (.back rfl rfl (.loop rfl (.kp (.kp (.kp (.kp (.kp .nil)))))) rfl (.new rfl rfl (.same fa) rfl .nil)))))))) (rc (.yld rfl) (rc (.ptr rfl) rn)) (.same (ql.tuple sn)) rfl)) (by kernel_rfl) ?_
   obtain rfl:=si h
   exact(gw2 [hsl 7 5 o9,.i n6,.i n7] (FzW.tuple (qo.cons (FzW.hs (E:=qa) rfl rfl (nl rfl)) (qo.cons (FzW.still tI) (qo.cons (FzW.still tI) qo.nil)))))
def vP (words_:List Str):Option Str:=
 (qgf words_ [32]).bind fun r1=>
 some r1
theorem qaa (words_:List Str) {res:Str} (h:vP words_=some res):qg Tryz.prog (.fn 159) [vl encS words_] [] (.str res) []:=by
 unfold vP at h
 refine Goes.fnW Tryz.func159 rfl rfl (m:=5) rfl (rs:=[.tmp 2]) rfl (l:=[(0,vl encS words_)]) rfl ?_
 refine sh fol [(0,vl encS words_)] ?_
 obtain⟨r1,e_r1,h⟩:=bnd h
 refine sq (gr fol [1] [(2,.str r1)] (ac (cv (qkb words_ [32] e_r1)) az) ?_)
 refine Goes.ret ?_
 obtain rfl:=si h
 exact(gw2 [.str r1] (FzW.still tS))
def j5 (a0_:Int):Option (Option (List Str)):=
 ((if a0_<0 then
 none
 else
 some ():Option Unit)).bind fun _=>
 ((if(w64 (a0_-(w64 (0-0))))>0 then
 (cut ([]:List Str) 0 0).bind fun s7=>
 (qjo 16 (w64 (a0_-(w64 (0-0)))) []).bind fun l8=>
 (cut l8 0 0).bind fun l9=>
 some (some l9)
 else
 some (none:Option (List Str)):Option (Option (List Str)))).bind fun o4=>
 some o4
theorem qcK (a0_:Int) {o1:Option (List Str)} (h:j5 a0_=some o1):qg Tryz.prog (.fn 217) [.nilslice,.i a0_] [] (hsl 0 1 o1) (kBB o1):=by
 unfold j5 at h
 refine Goes.fnH Tryz.func217 rfl rfl (m:=27) rfl (rs:=[.tmp 4]) rfl (l:=[(0,.nilslice),(1,.i a0_)]) rfl ?_
 intro B hB
 refine sh fol [(0,.nilslice),(1,.i a0_)] ?_
 refine sq ?_
 refine sh fol [(0,.nilslice),(1,.i a0_),(6,.bool (decide (a0_<0)))] ?_
 obtain⟨r2,g2,h⟩:=bnd h
 refine Goes.imp (Q:=fun x s'=>(x= .normal∧()=r2∧Sub s' (ofG 27 [(0,.nilslice),(1,.i a0_)],[]))) ?_ ?_
 ·refine ihD g2 (fun c3 g2=>?_) (fun c3 g2=>?_)
  ·cases g2
  ·refine Goes.skip ?_
   obtain rfl:=si g2
   exact⟨rfl,rfl,(Sub.keep [0,1] rfl rfl)⟩
 rintro x s' ⟨rfl,rfl,hsub⟩
 refine Goes.sub hsub ?_
 refine sq ?_
 refine sh fol [(0,.nilslice),(1,.i (w64 (a0_-(w64 (0-0)))))] ?_
 refine sh fol [(0,.nilslice),(1,.i (w64 (a0_-(w64 (0-0))))),(16,.bool (decide ((w64 (a0_-(w64 (0-0))))>0)))] ?_
 obtain⟨r5,g5,h⟩:=bnd h
 refine Goes.imp (Q:=fun x s'=>(x= .normal∧ ∃o4,o4=r5∧Sub s' (ofG 27 [(0,hsl 0 1 o4)],(kBB o4)))) ?_ ?_
 ·refine ihD g5 (fun c6 g5=>?_) (fun c6 g5=>?_)
  ·obtain⟨s7,e_s7,g5⟩:=bnd g5
   obtain⟨l8,e_l8,g5⟩:=bnd g5
   obtain⟨l9,e_l9,g5⟩:=bnd g5
   refine gq fol [3,5,8] [(0,.oslice 0 l9.length 1)] (kL l8) (ac (hs (.done (.opt (qx Tryz.prog 23 .nilslice none (some (.i 0)) none)) .nilslice) (qnE (α:=Str) jE none (some 0) e_s7)) (ac (hs (.run [] (qP Tryz.prog [23,3] .nilslice (.i (w64 (a0_-(w64 (0-0)))))) [] (.oslice 0 l8.length 1) (kL l8) false) (qmW jE it3 (E:=encS) rfl (z:=[]) (by kernel_rfl) e_l8 rfl)) (ac (hs (.done (.opt (qx Tryz.prog 23 (.oslice 0 l8.length 1) none (some (.i 0)) none)) (.oslice 0 l9.length 1)) (qpi jE e_l9)) az))) ?_
   obtain rfl:=si g5
   exact⟨rfl,_,rfl,((show Sub (ofG 27 [(0,.oslice 0 l9.length 1)],(kL l8)) (ofG 27 [(0,.oslice 0 l9.length 1)],(kL l9))from(Sub.norm [] [some 0] (by rw[hB];rfl) rfl (.keep (.oslice rfl) .nil) (.kb rfl (qbD.cut e_l9) .nil))).trans (Sub.norm [] [some 0] (by rw[hB];rfl) rfl (.keep (qX.hs1 rfl) .nil) (.ks .nil)))⟩
  ·refine Goes.skip ?_
   obtain rfl:=si g5
   exact⟨rfl,_,rfl,(Sub.norm [] [none] (by rw[hB];rfl) rfl (.keep qX.hs0 .nil) (.fresh .nil))⟩
 rintro x s' ⟨rfl,o4,rfl,hsub⟩
 refine Goes.sub hsub ?_
 refine sh fol [(4,hsl 0 1 o4)] ?_
 refine Goes.ret ?_
 obtain rfl:=si h
 exact(gh2 [hsl 0 1 o4] (qcm.refl _ _))
def kw (slices:List (List Str)):Nat→Int→Int→Option Int
 |0,_,_=>none
 |K+1,n1,n2=>
  if n1<(slices.length:Int)then
  (((idx slices n1).bind fun x8=>
  if(w64 (n2+(x8.length:Int)))<0 then
  none
  else
  some (w64 (n2+(x8.length:Int))):Option Int)).bind fun n6=>
  kw slices K (w64 (n1+1)) n6
  else
  some n2
def ku (slices:List (List Str)):Nat→(Option (List Str))→Int→Option (Option (List Str))
 |0,_,_=>none
 |K+1,o12,n13=>
  if n13<(slices.length:Int)then
  (idx slices n13).bind fun x17=>
  ((match o12 with
  |none=>
  none
  |some l18=>
  (app 16 l18 x17).bind fun l19=>
  some l19):Option (List Str)).bind fun l20=>
  ku slices K (some l20) (w64 (n13+1))
  else
  some o12
def vK (N:Nat) (slices:List (List Str)):Option (List Str):=
 (kw slices N 0 0).bind fun n3=>
 (j5 n3).bind fun o11=>
 (ku slices N o11 0).bind fun o14=>
 some (hof o14)
theorem qcP (N:Nat) (slices:List (List Str)) {res:List Str} (h:vK N slices=some res):qg Tryz.prog (.fn 184) [vl (yj encS) slices] [] (vl encS res) []:=by
 unfold vK at h
 refine Goes.fnW Tryz.func184 rfl rfl (m:=36) rfl (rs:=[.tmp 2]) rfl (l:=[(0,vl (yj encS) slices)]) rfl ?_
 refine sh fol [(0,vl (yj encS) slices)] ?_
 refine sh fol [(0,vl (yj encS) slices),(3,.i 0)] ?_
 refine sq ?_
 refine sh fol [(0,vl (yj encS) slices),(3,.i 0),(9,vl (yj encS) slices),(10,.i (slices.length:Int)),(11,.i 0)] ?_
 refine Goes.block ?_
 obtain⟨r4,g4,h⟩:=bnd h
 refine Goes.imp (Q:=fun x s'=>(x= .exit 0∧ ∃n3,n3=r4∧Sub s' (ofG 36 [(0,vl (yj encS) slices),(3,.i n3)],[]))) ?_ ?_
 ·refine Goes.loopS (fun M s=> ∃(n1:Int) (n2:Int),s=(ofG 36 ((0,vl (yj encS) slices)::(3,.i n2)::(9,vl (yj encS) slices)::(kBh (slices.length:Int) n1)),[])∧kw slices M n1 n2=some r4) ?_ (m:=N) ⟨_,_,rfl,g4⟩
  rintro M s ⟨n1,n2,rfl,g4⟩
  cases M with
  |zero=>simp only[kw]at g4;cases g4
  |succ M=>
   rw[kw]at g4
   refine sh fol [(0,vl (yj encS) slices),(3,.i n2),(9,vl (yj encS) slices),(10,.i (slices.length:Int)),(11,.i n1),(12,.bool (decide (n1<(slices.length:Int))))] ?_
   refine sq ?_
   refine ihD g4 (fun c5 g4=>?_) (fun c5 g4=>?_)
   ·refine Goes.skip ?_
    refine sq ?_
    obtain⟨r7,g7,g4⟩:=bnd g4
    refine Goes.imp (Q:=fun x s'=>(x= .normal∧ ∃n6,n6=r7∧Sub s' (ofG 36 ((0,vl (yj encS) slices)::(3,.i n6)::(9,vl (yj encS) slices)::(kBh (slices.length:Int) n1)),[]))) ?_ ?_
    ·refine Goes.block ?_
     obtain⟨x8,e_x8,g7⟩:=bnd g7
     refine sq (gr fol [0,1] ((0,vl (yj encS) slices)::(3,.i n2)::(5,vl encS x8)::(9,vl (yj encS) slices)::(kBh (slices.length:Int) n1)) (ac (iv qpe (yj encS) e_x8) (ac (lv 0 qfS (yj encS) e_x8 rfl) az)) ?_)
     refine sh fol ((0,vl (yj encS) slices)::(3,.i (w64 (n2+(x8.length:Int))))::(9,vl (yj encS) slices)::(kBh (slices.length:Int) n1)) ?_
     refine sh fol [(0,vl (yj encS) slices),(3,.i (w64 (n2+(x8.length:Int)))),(9,vl (yj encS) slices),(10,.i (slices.length:Int)),(11,.i n1),(20,.bool (decide ((w64 (n2+(x8.length:Int)))<0)))] ?_
     refine ihD g7 (fun c9 g7=>?_) (fun c9 g7=>?_)
     ·cases g7
     ·refine Goes.skip ?_
      obtain rfl:=si g7
      exact⟨rfl,_,rfl,(Sub.keep [0,3,9,10,11] rfl rfl)⟩
    rintro x s' ⟨rfl,n6,rfl,hsub⟩
    refine Goes.sub hsub ?_
    refine gh fol ((0,vl (yj encS) slices)::(3,.i n6)::(9,vl (yj encS) slices)::(kBh (slices.length:Int) (w64 (n1+1)))) ?_
    exact⟨M,(ofG 36 ((0,vl (yj encS) slices)::(3,.i n6)::(9,vl (yj encS) slices)::(kBh (slices.length:Int) (w64 (n1+1)))),[]),Nat.lt_succ_self _,(Sub.refl _),_,_,rfl,g4⟩
   ·refine Goes.exit ?_
    obtain rfl:=si g4
    exact⟨rfl,_,rfl,(Sub.keep [0,3] rfl rfl)⟩
 rintro x s' ⟨rfl,n3,rfl,hsub⟩
 refine Goes.sub hsub ?_
 obtain⟨o11,e_r10,h⟩:=bnd h
 refine sq (gq fol [1] [(0,vl (yj encS) slices),(6,hsl 0 1 o11)] (kBB o11) (ac (hs (.callH 217 [.nilslice,.i n3] [] [] (hsl 0 1 o11) (kBB o11)) (kg [] [some 0] (qcK n3 e_r10) .nil rfl rfl (.new rfl rfl (.same fa) rfl .nil) (rc (.same (ql.nilslice)) (rc (.same nI) rn)) (.hs rfl) rfl)) az) ?_)
 refine sq ?_
 refine sh fol [(6,hsl 0 1 o11),(25,vl (yj encS) slices),(26,.i (slices.length:Int)),(27,.i 0)] ?_
 refine Goes.block ?_
 obtain⟨r15,g15,h⟩:=bnd h
 refine Goes.imp (Q:=fun x s'=>(x= .exit 2∧ ∃o14,o14=r15∧Sub s' (ofG 36 [(6,hsl 0 1 o14)],(kBB o14)))) ?_ ?_
 ·refine Goes.loopS (fun M s=> ∃(o12:Option (List Str)) (n13:Int),s=(ofG 36 [(6,hsl 0 1 o12),(25,vl (yj encS) slices),(26,.i (slices.length:Int)),(27,.i n13)],(kBB o12))∧ku slices M o12 n13=some r15) ?_ (m:=N) ⟨_,_,rfl,g15⟩
  rintro M s ⟨o12,n13,rfl,g15⟩
  cases M with
  |zero=>simp only[ku]at g15;cases g15
  |succ M=>
   rw[ku]at g15
   refine sh fol [(6,hsl 0 1 o12),(25,vl (yj encS) slices),(26,.i (slices.length:Int)),(27,.i n13),(28,.bool (decide (n13<(slices.length:Int))))] ?_
   refine sq ?_
   refine ihD g15 (fun c16 g15=>?_) (fun c16 g15=>?_)
   ·refine Goes.skip ?_
    refine sq (Goes.block ?_)
    obtain⟨x17,e_x17,g15⟩:=bnd g15
    refine sq (gr fol [0,1] [(6,hsl 0 1 o12),(8,vl encS x17),(25,vl (yj encS) slices),(26,.i (slices.length:Int)),(27,.i n13)] (ac (iv qpe (yj encS) e_x17) (ac (lv 0 qfS (yj encS) e_x17 rfl) az)) ?_)
    obtain⟨l20,g_v21,g15⟩:=bnd g15
    refine Goes.cut (s':=(ofG 36 [(6,.oslice 1 l20.length 1),(25,vl (yj encS) slices),(26,.i (slices.length:Int)),(27,.i n13)],(.dead::(kL l20)))) ?_ ?_
    ·rcases o12 with _|l18
     ·try dsimp only at g_v21
      cases g_v21
     ·try dsimp only at g_v21
      obtain⟨l19,e_l19,g_v21⟩:=bnd g_v21
      obtain rfl:=si g_v21
      exact qj.rq fol [2] [(6,.oslice 1 l19.length 1),(25,vl (yj encS) slices),(26,.i (slices.length:Int)),(27,.i n13)] (.dead::(kL l19)) (ac (hs (.run [0] (qP Tryz.prog [23,23] (.oslice 0 l18.length 1) (vl encS x17)) (kL l18) (.oslice 1 l19.length 1) (.dead::(kL l19)) true) (jH jE (E:=encS) rfl (qeN (E:=encS) rfl _) (qgh (E:=encS) (l:=l18) rfl rfl rfl e_l19 rfl))) az)
    refine gh fol [(6,.oslice 1 l20.length 1),(25,vl (yj encS) slices),(26,.i (slices.length:Int)),(27,.i (w64 (n13+1)))] ?_
    exact⟨M,(ofG 36 [(6,hsl 0 1 (some l20)),(25,vl (yj encS) slices),(26,.i (slices.length:Int)),(27,.i (w64 (n13+1)))],(kBB (some l20))),Nat.lt_succ_self _,(Sub.norm [] [some 1] rfl rfl (.keep (qX.hs1 rfl) (.keep (.same (qm (yj encS) _)) (.keep (.same nI) (.keep (.same nI) .nil)))) (.ks .nil)),_,_,rfl,g15⟩
   ·refine Goes.exit ?_
    obtain rfl:=si g15
    exact⟨rfl,_,rfl,(Sub.keep [6] rfl rfl)⟩
 rintro x s' ⟨rfl,o14,rfl,hsub⟩
 refine Goes.sub hsub ?_
 refine sh fol [(2,hsl 0 1 o14)] ?_
 refine Goes.ret ?_
 obtain rfl:=si h
 exact(gw2 [hsl 0 1 o14] (FzW.hs (E:=encS) rfl rfl (nl rfl)))
def qbo (p0:Int):Option Bool:=
 some true
theorem qfI (p0:Int) {res:Bool} (h:qbo p0=some res):qg Tryz.prog (.fn 186) [.i p0] [] (.bool res) []:=by
 unfold qbo at h
 refine Goes.fnW Tryz.func186 rfl rfl (m:=3) rfl (rs:=[.tmp 2]) rfl (l:=[(0,.i p0)]) rfl ?_
 refine sh fol [] ?_
 refine sh fol [(2,.bool true)] ?_
 refine Goes.ret ?_
 obtain rfl:=si h
 exact(gw2 [.bool true] (FzW.still tB))
def qO (a0_:List Int):Nat→(List Str)→Int→Option (List Str)
 |0,_,_=>none
 |K+1,l1,n2=>
  if n2<(a0_.length:Int)then
  (((idx a0_ n2).bind fun x8=>
  (qbo x8).bind fun r9=>
  if r9=true then
  (qct x8).bind fun r11=>
  (app 16 l1 [r11]).bind fun l12=>
  some l12
  else
  some l1:Option (List Str))).bind fun l6=>
  qO a0_ K l6 (w64 (n2+1))
  else
  some l1
def zX (N:Nat) (a0_:List Int):Option (List Str):=
 (qO a0_ N ([]:List Str) 0).bind fun l3=>
 some l3
theorem qac (N:Nat) (a0_:List Int) {res:List Str} (h:zX N a0_=some res):qg Tryz.prog (.fn 185) [vl encI a0_,.func (.func 186) [] [],.func (.func 160) [] []] [] (vl encS res) []:=by
 unfold zX at h
 refine Goes.fnW Tryz.func185 rfl rfl (m:=27) rfl (rs:=[.tmp 6]) rfl (l:=[(0,vl encI a0_),(1,.func (.func 186) [] []),(2,.func (.func 160) [] [])]) rfl ?_
 refine sh fol [(0,vl encI a0_),(1,.func (.func 186) [] []),(2,.func (.func 160) [] [])] ?_
 refine sh fol [(0,vl encI a0_),(1,.func (.func 186) [] []),(2,.func (.func 160) [] []),(7,.nilslice)] ?_
 refine sq ?_
 refine sh fol ((1,.func (.func 186) [] [])::(2,.func (.func 160) [] [])::(7,.nilslice)::(10,vl encI a0_)::(kA5 (a0_.length:Int))) ?_
 refine Goes.block ?_
 obtain⟨r4,g4,h⟩:=bnd h
 refine Goes.imp (Q:=fun x s'=>(x= .exit 0∧ ∃l3,l3=r4∧Sub s' (ofG 27 (kAN l3 []),(kL l3)))) ?_ ?_
 ·refine Goes.sub (s':=(ofG 27 ((1,.func (.func 186) [] [])::(2,.func (.func 160) [] [])::(7,.gslice 0 ([]:List Str).length 1)::(10,vl encI a0_)::(kA5 (a0_.length:Int))),kBc)) (Sub.norm [] [none] rfl rfl (.keep (.same (ql.func sn sn)) (.keep (.same (ql.func sn sn)) (.keep .nil (.keep (.same (qm encI _)) (.keep (.same nI) (.keep (.same nI) .nil)))))) (.fresh .nil)) ?_
  refine Goes.loopS (fun M s=> ∃(l1:List Str) (n2:Int),s=(ofG 27 ((1,.func (.func 186) [] [])::(2,.func (.func 160) [] [])::(kAN l1 ((10,vl encI a0_)::(kV (a0_.length:Int) n2)))),(kL l1))∧qO a0_ M l1 n2=some r4) ?_ (m:=N) ⟨_,_,rfl,g4⟩
  rintro M s ⟨l1,n2,rfl,g4⟩
  cases M with
  |zero=>simp only[qO]at g4;cases g4
  |succ M=>
   rw[qO]at g4
   refine sh fol ((1,.func (.func 186) [] [])::(2,.func (.func 160) [] [])::(kAN l1 ((10,vl encI a0_)::(kBd (a0_.length:Int) n2 (kB4 (decide (n2<(a0_.length:Int)))))))) ?_
   refine sq ?_
   refine ihD g4 (fun c5 g4=>?_) (fun c5 g4=>?_)
   ·refine Goes.skip ?_
    refine sq ?_
    obtain⟨r7,g7,g4⟩:=bnd g4
    refine Goes.imp (Q:=fun x s'=>(x= .normal∧ ∃l6,l6=r7∧Sub s' (ofG 27 ((1,.func (.func 186) [] [])::(2,.func (.func 160) [] [])::(kAN l6 ((10,vl encI a0_)::(kV (a0_.length:Int) n2)))),(kL l6)))) ?_ ?_
    ·refine Goes.block ?_
     obtain⟨x8,e_x8,g7⟩:=bnd g7
     refine sq (gr fol [0,1] ((1,.func (.func 186) [] [])::(2,.func (.func 160) [] [])::(kAN l1 ((9,.i x8)::(10,vl encI a0_)::(kV (a0_.length:Int) n2)))) (ac (iv y7 encI e_x8) (ac (lv 0 ce3 encI e_x8 rfl) az)) ?_)
     obtain⟨r9,e_r9,g7⟩:=bnd g7
     refine sq (gr fol [2] ((1,.func (.func 186) [] [])::(2,.func (.func 160) [] [])::(kAN l1 ((9,.i x8)::(10,vl encI a0_)::(kBd (a0_.length:Int) n2 [(18,.bool r9)])))) (ac (cv (qfI x8 e_r9)) az) ?_)
     refine ihB g7 (fun c10 g7=>?_) (fun c10 g7=>?_)
     ·obtain⟨r11,e_r11,g7⟩:=bnd g7
      obtain⟨l12,e_l12,g7⟩:=bnd g7
      refine gq fol [3,5] ((1,.func (.func 186) [] [])::(2,.func (.func 160) [] [])::(7,.gslice 2 l12.length 1)::(10,vl encI a0_)::(kV (a0_.length:Int) n2)) (.dead::(kAc r11 (kL l12))) (ac (cv (qfx x8 e_r11)) (ac (hs (.run [0,1] (qP Tryz.prog [23,23] (.gslice 0 l1.length 1) (.slice 1 0 1 1 1)) (kBo l1 (kAc r11 [])) (.gslice 2 l12.length 1) (.dead::(kAc r11 (kL l12))) true) (jH jE (E:=encS) rfl (qa8 (E:=encS) (ys:=[r11]) rfl rfl rfl rfl) (qeO (E:=encS) (l:=l1) rfl rfl rfl e_l12 rfl))) az)) ?_
      obtain rfl:=si g7
      exact⟨rfl,_,rfl,(Sub.norm [] [some 2] rfl rfl (.keep (.same (ql.func sn sn)) (.keep (.same (ql.func sn sn)) (.keep (.gslice rfl) (.keep (.same (qm encI _)) (.keep (.same nI) (.keep (.same nI) .nil)))))) (.ks .nil))⟩
     ·refine Goes.skip ?_
      obtain rfl:=si g7
      exact⟨rfl,_,rfl,(Sub.keep [1,2,7,10,11,12] rfl rfl)⟩
    rintro x s' ⟨rfl,l6,rfl,hsub⟩
    refine Goes.sub hsub ?_
    refine gh fol ((1,.func (.func 186) [] [])::(2,.func (.func 160) [] [])::(kAN l6 ((10,vl encI a0_)::(kV (a0_.length:Int) (w64 (n2+1)))))) ?_
    exact⟨M,(ofG 27 ((1,.func (.func 186) [] [])::(2,.func (.func 160) [] [])::(kAN l6 ((10,vl encI a0_)::(kV (a0_.length:Int) (w64 (n2+1)))))),(kL l6)),Nat.lt_succ_self _,(Sub.refl _),_,_,rfl,g4⟩
   ·refine Goes.exit ?_
    obtain rfl:=si g4
    exact⟨rfl,_,rfl,(Sub.keep [7] rfl rfl)⟩
 rintro x s' ⟨rfl,l3,rfl,hsub⟩
 refine Goes.sub hsub ?_
 refine sh fol [(6,.gslice 0 l3.length 1)] ?_
 refine Goes.ret ?_
 obtain rfl:=si h
 exact(gw2 [.gslice 0 l3.length 1] (FzW.fz (Fz.gs (E:=encS) rfl rfl (nl rfl))))
def qaO (N:Nat) (e:qb):Option Str:=
 (qct e.Number).bind fun r1=>
 (zX N e.Values).bind fun r2=>
 (vK N ([([r1,e.Kind]:List Str),e.Names,r2]:List (List Str))).bind fun r3=>
 (vP r3).bind fun r4=>
 some r4
theorem qdS (N:Nat) (e:qb) {res:Str} (h:qaO N e=some res):qg Tryz.prog (.fn 150) [.agg (cE e)] [] (.str res) []:=by
 unfold qaO at h
 refine Goes.fnW Tryz.func150 rfl rfl (m:=19) rfl (rs:=[.tmp 2]) rfl (l:=[(0,.agg (cE e))]) rfl ?_
 refine sg fol (kAA []) (kW e []) ?_
 obtain⟨r1,e_r1,h⟩:=bnd h
 obtain⟨r2,e_r2,h⟩:=bnd h
 obtain⟨r3,e_r3,h⟩:=bnd h
 refine sq (gq fol [2,10,12] [(3,vl encS r3)] (kW e [.frozen [.str r1,.str e.Kind],.frozen [.slice 1 0 2 2 1,vl encS e.Names,vl encS r2]]) (ac (cv (qfx e.Number e_r1)) (ac (hs (.call 185 [vl encI e.Values,.func (.func 186) [] [],.func (.func 160) [] []] [] [] [vl encI e.Values,.func (.func 186) [] [],.func (.func 160) [] []] (vl encS r2)) (qi2 (FzL.cons (Fz.still (ko encI _ (nl rfl))) (FzL.cons (Fz.func FzL.nil FzL.nil) (FzL.cons (Fz.func FzL.nil FzL.nil) FzL.nil))) (qac N e.Values e_r2) (ko encS _ (nl rfl)))) (ac (hs (.callF 184 [.slice 2 0 3 3 1] (kW e [.cells [.str r1,.str e.Kind],.cells [.slice 1 0 2 2 1,vl encS e.Names,vl encS r2]]) [2,1] [vl (yj encS) ([([r1,e.Kind]:List Str),e.Names,r2]:List (List Str))] (vl encS r3)) (qhO (FzL.cons (Fz.lit rfl rfl (FzL.cons (Fz.lit rfl rfl (FzL.still (AllST.cons tS (AllST.cons tS AllST.nil)))) (FzL.cons (Fz.still (ko encS _ (nl rfl))) (FzL.cons (Fz.still (ko encS _ (nl rfl))) FzL.nil)))) FzL.nil) (qcP N ([([r1,e.Kind]:List Str),e.Names,r2]:List (List Str)) e_r3) (ko encS _ (nl rfl)))) az))) ?_)
 refine Goes.sub (show Sub (ofG 19 [(3,vl encS r3)],(kW e [.frozen [.str r1,.str e.Kind],.frozen [.slice 1 0 2 2 1,vl encS e.Names,vl encS r2]])) (ofG 19 [(3,vl encS r3)],[])from(Sub.norm [] [] rfl rfl (.keep (.same (qm encS _)) .nil) .nil)) ?_
 obtain⟨r4,e_r4,h⟩:=bnd h
 refine sq (gr fol [1] [(2,.str r4)] (ac (cv (qaa r3 e_r4)) az) ?_)
 refine Goes.ret ?_
 obtain rfl:=si h
 exact(gw2 [.str r4] (FzW.still tS))
def xO (N:Nat) (e:qb):Option Str:=
 (qaO N e).bind fun r1=>
 (cat r1 [59]).bind fun s2=>
 (qaO N e).bind fun r3=>
 (qbg N r3).bind fun r4=>
 (cat s2 r4).bind fun s5=>
 (cat s5 [10]).bind fun s6=>
 some s6
theorem qcV (N:Nat) (e:qb) {res:Str} (h:xO N e=some res):qg Tryz.prog (.fn 102) [.agg (cE e)] [] (.str res) []:=by
 unfold xO at h
 refine Goes.fnW Tryz.func102 rfl rfl (m:=11) rfl (rs:=[.tmp 2]) rfl (l:=[(0,.agg (cE e))]) rfl ?_
 refine sg fol (kAA []) (kW e []) ?_
 obtain⟨r1,e_r1,h⟩:=bnd h
 obtain⟨s2,e_s2,h⟩:=bnd h
 obtain⟨r3,e_r3,h⟩:=bnd h
 obtain⟨r4,e_r4,h⟩:=bnd h
 obtain⟨s5,e_s5,h⟩:=bnd h
 obtain⟨s6,e_s6,h⟩:=bnd h
 refine sq (gr fol [1,2,4,5,6,7] [(2,.str s6)] (ac (cv (qdS N e e_r1)) (ac (hs (.done (.opt (qay Tryz.prog .add 9 (.tmp 4) (.const (.string ⟨#[59]⟩)) (.str r1) (.str [59]))) (.str s2)) (yL e_s2)) (ac (cv (qdS N e e_r3)) (ac (cv (qeL N r3 e_r4)) (ac (hs (.done (.opt (qay Tryz.prog .add 9 (.tmp 5) (.tmp 8) (.str s2) (.str r4))) (.str s5)) (yL e_s5)) (ac (hs (.done (.opt (qay Tryz.prog .add 9 (.tmp 9) (.const (.string ⟨#[10]⟩)) (.str s5) (.str [10]))) (.str s6)) (yL e_s6)) az)))))) ?_)
 refine Goes.ret ?_
 obtain rfl:=si h
 exact(gw2 [.str s6] (FzW.still tS))
def qax (N:Nat) (log:Str) (e:qb):Option (Str×Int):=
 (jf N log).bind fun r1=>
 (jS N e).bind fun r2=>
 (qI (!decide (e.Number=(w64 ((r1.1.length:Int)+1)))) 11).bind fun r3=>
 (zo N ([r1.2.2,r2,r3]:List Int)).bind fun r4=>
 if(!decide (r4=0))=true then
 some ([],r4)
 else
 (xO N e).bind fun r6=>
 (cat log r6).bind fun s7=>
 if(s7.length:Int)>1000000 then
 some ([],26)
 else
 some (s7,0)
theorem qf3 (N:Nat) (log:Str) (e:qb) {res:Str×Int} (h:qax N log e=some res):qg Tryz.prog (.fn 42) [.str log,.agg (cE e)] [] (.tuple [.str res.1,.i res.2]) []:=by
 unfold qax at h
 refine Goes.fnW Tryz.func42 rfl rfl (m:=39) rfl (rs:=[.tmp 4,.tmp 5]) rfl (l:=[(0,.str log),(1,.agg (cE e))]) rfl ?_
 refine sg fol ((0,.str log)::(kBg [])) (kW e []) ?_
 obtain⟨r1,e_r1,h⟩:=bnd h
 refine sq (gr fol [1] ((0,.str log)::(kBg [(6,vl qa r1.1),(8,.i r1.2.2)])) (ac (cv (yJ N log e_r1)) az) ?_)
 refine sq ?_
 obtain⟨r2,e_r2,h⟩:=bnd h
 obtain⟨r3,e_r3,h⟩:=bnd h
 obtain⟨r4,e_r4,h⟩:=bnd h
 refine sq (gq fol [2,9,11] ((0,.str log)::(kBg [(8,.i r4)])) (kW e [.cells [.i r1.2.2,.i r2,.i r3]]) (ac (cv (qao N e e_r2)) (ac (cv (qA (!decide (e.Number=(w64 ((r1.1.length:Int)+1)))) 11 e_r3)) (ac (hs (.call 86 [.slice 1 0 3 3 1] (kW e [.cells [.i r1.2.2,.i r2,.i r3]]) [1] [vl encI ([r1.2.2,r2,r3]:List Int)] (.i r4)) (qak (FzL.cons (Fz.lit rfl rfl (FzL.still (AllST.cons tI (AllST.cons tI (AllST.cons tI AllST.nil))))) FzL.nil) (zD N ([r1.2.2,r2,r3]:List Int) e_r4) tI rfl)) az))) ?_)
 refine sh fol ((0,.str log)::(kBg [(8,.i r4),(29,.bool (!decide (r4=0)))])) ?_
 refine ihB h (fun c5 h=>?_) (fun c5 h=>?_)
 ·refine sh fol ((4,.str [])::(kAs r4)) ?_
  refine Goes.ret ?_
  obtain rfl:=si h
  exact(gw2 [.str [],.i r4] (FzW.tuple (qo.cons (FzW.still tS) (qo.cons (FzW.still tI) qo.nil))))
 ·refine Goes.skip ?_
  obtain⟨r6,e_r6,h⟩:=bnd h
  obtain⟨s7,e_s7,h⟩:=bnd h
  refine sq (gr fol [2,3] [(9,.str s7)] (ac (cv (qcV N e e_r6)) (ac (hs (.done (.opt (qay Tryz.prog .add 9 (.tmp 31) (.tmp 33) (.str log) (.str r6))) (.str s7)) (yL e_s7)) az)) ?_)
  refine sq ?_
  refine sh fol [(9,.str s7),(37,.bool (decide ((s7.length:Int)>1000000)))] ?_
  refine ihD h (fun c8 h=>?_) (fun c8 h=>?_)
  ·refine sh fol [(4,.str []),(5,.i 26)] ?_
   refine Goes.ret ?_
   obtain rfl:=si h
   exact(gw2 [.str [],.i 26] (FzW.tuple (qo.cons (FzW.still tS) (qo.cons (FzW.still tI) qo.nil))))
  ·refine Goes.skip ?_
   refine sh fol (kBD s7) ?_
   refine Goes.ret ?_
   obtain rfl:=si h
   exact(gw2 [.str s7,.i 0] (FzW.tuple (qo.cons (FzW.still tS) (qo.cons (FzW.still tI) qo.nil))))
def zU (a:List Int) (b:List Int):Nat→Int→Option (Unit⊕Bool)
 |0,_=>none
 |K+1,n2=>
  if n2<(a.length:Int)then
  (idx a n2).bind fun x6=>
  (idx b n2).bind fun x7=>
  if(!decide (x6=x7))=true then
  some (.inr false)
  else
  zU a b K (w64 (n2+1))
  else
  some (.inl ())
def qah (N:Nat) (a:List Int) (b:List Int):Option Bool:=
 if(!decide ((a.length:Int)=(b.length:Int)))=true then
 some false
 else
 (zU a b N 0).bind (fun
 |(.inl ())=>
 some true
 |(.inr q9)=>
 some q9)
theorem qcA (N:Nat) (a:List Int) (b:List Int) {res:Bool} (h:qah N a b=some res):qg Tryz.prog (.fn 35) [vl encI a,vl encI b] [] (.bool res) []:=by
 unfold qah at h
 refine Goes.fnW Tryz.func35 rfl rfl (m:=26) rfl (rs:=[.tmp 4]) rfl (l:=(kBV a b [])) rfl ?_
 refine sh fol (kBV a b []) ?_
 refine sq ?_
 refine sh fol (kBV a b (kBl (!decide ((a.length:Int)=(b.length:Int))))) ?_
 refine ihB h (fun c1 h=>?_) (fun c1 h=>?_)
 ·refine sh fol kAI ?_
  refine Goes.ret ?_
  obtain rfl:=si h
  exact(gw2 [.bool false] (FzW.still tB))
 ·refine Goes.skip ?_
  refine sq ?_
  refine sh fol (kBV a b [(5,.i 0)]) ?_
  refine Goes.block ?_
  obtain⟨r3,g3,h⟩:=bnd h
  refine Goes.imp (Q:=fun x s'=>(x= .exit 0∧(.inl ())=r3∧Sub s' (ofG 26 [],[]))∨(x= .ret∧ ∃q4,(.inr q4)=r3∧zl Tryz.prog [.tmp 4] (.bool q4) .ret s')) ?_ ?_
  ·refine Goes.loopS (fun M s=> ∃(n2:Int),s=(ofG 26 (kBV a b (kAs n2)),[])∧zU a b M n2=some r3) ?_ (m:=N) ⟨_,rfl,g3⟩
   rintro M s ⟨n2,rfl,g3⟩
   cases M with
   |zero=>simp only[zU]at g3;cases g3
   |succ M=>
    rw[zU]at g3
    refine sq ?_
    refine sh fol (kBV a b [(5,.i n2),(14,.bool (decide (n2<(a.length:Int))))]) ?_
    refine ihD g3 (fun c5 g3=>?_) (fun c5 g3=>?_)
    ·refine Goes.skip ?_
     refine sq (Goes.block ?_)
     obtain⟨x6,e_x6,g3⟩:=bnd g3
     obtain⟨x7,e_x7,g3⟩:=bnd g3
     refine sq (gr fol [2,3,6,7] (kBV a b [(5,.i n2),(25,.bool (!decide (x6=x7)))]) (ac (iv y7 encI e_x6) (ac (lv 0 ce3 encI e_x6 rfl) (ac (iv y7 encI e_x7) (ac (lv 0 ce3 encI e_x7 rfl) az)))) ?_)
     refine ihB g3 (fun c8 g3=>?_) (fun c8 g3=>?_)
     ·refine sh fol kAI ?_
      refine Goes.ret ?_
      obtain rfl:=si g3
      exact Or.inr (⟨rfl,_,rfl,(gw2 [.bool false] (FzW.still tB))⟩)
     ·refine Goes.skip ?_
      refine gh fol (kBV a b (kAs (w64 (n2+1)))) ?_
      exact⟨M,(ofG 26 (kBV a b (kAs (w64 (n2+1)))),[]),Nat.lt_succ_self _,(Sub.refl _),_,rfl,g3⟩
    ·refine Goes.exit ?_
     obtain rfl:=si g3
     exact Or.inl (⟨rfl,rfl,(Sub.keep [] rfl rfl)⟩)
  rintro x s' (⟨rfl,rfl,hsub⟩|⟨rfl,q9,rfl,hret⟩)
  ·try dsimp only at h
   refine Goes.sub hsub ?_
   refine sh fol kAq ?_
   refine Goes.ret ?_
   obtain rfl:=si h
   exact(gw2 [.bool true] (FzW.still tB))
  ·try dsimp only at h
   obtain rfl:=si h
   exact hret
def zA (a:List Str) (b:List Str):Nat→Int→Option (Unit⊕Bool)
 |0,_=>none
 |K+1,n2=>
  if n2<(a.length:Int)then
  (idx a n2).bind fun x6=>
  (idx b n2).bind fun x7=>
  if(!(x6==x7))=true then
  some (.inr false)
  else
  zA a b K (w64 (n2+1))
  else
  some (.inl ())
def xE (N:Nat) (a:List Str) (b:List Str):Option Bool:=
 if(!decide ((a.length:Int)=(b.length:Int)))=true then
 some false
 else
 (zA a b N 0).bind (fun
 |(.inl ())=>
 some true
 |(.inr q9)=>
 some q9)
theorem qaK (N:Nat) (a:List Str) (b:List Str) {res:Bool} (h:xE N a b=some res):qg Tryz.prog (.fn 41) [vl encS a,vl encS b] [] (.bool res) []:=by
 unfold xE at h
 refine Goes.fnW Tryz.func41 rfl rfl (m:=26) rfl (rs:=[.tmp 4]) rfl (l:=(kBW a b [])) rfl ?_
 refine sh fol (kBW a b []) ?_
 refine sq ?_
 refine sh fol (kBW a b (kBl (!decide ((a.length:Int)=(b.length:Int))))) ?_
 refine ihB h (fun c1 h=>?_) (fun c1 h=>?_)
 ·refine sh fol kAI ?_
  refine Goes.ret ?_
  obtain rfl:=si h
  exact(gw2 [.bool false] (FzW.still tB))
 ·refine Goes.skip ?_
  refine sq ?_
  refine sh fol (kBW a b [(5,.i 0)]) ?_
  refine Goes.block ?_
  obtain⟨r3,g3,h⟩:=bnd h
  refine Goes.imp (Q:=fun x s'=>(x= .exit 0∧(.inl ())=r3∧Sub s' (ofG 26 [],[]))∨(x= .ret∧ ∃q4,(.inr q4)=r3∧zl Tryz.prog [.tmp 4] (.bool q4) .ret s')) ?_ ?_
  ·refine Goes.loopS (fun M s=> ∃(n2:Int),s=(ofG 26 (kBW a b (kAs n2)),[])∧zA a b M n2=some r3) ?_ (m:=N) ⟨_,rfl,g3⟩
   rintro M s ⟨n2,rfl,g3⟩
   cases M with
   |zero=>simp only[zA]at g3;cases g3
   |succ M=>
    rw[zA]at g3
    refine sq ?_
    refine sh fol (kBW a b [(5,.i n2),(14,.bool (decide (n2<(a.length:Int))))]) ?_
    refine ihD g3 (fun c5 g3=>?_) (fun c5 g3=>?_)
    ·refine Goes.skip ?_
     refine sq (Goes.block ?_)
     obtain⟨x6,e_x6,g3⟩:=bnd g3
     obtain⟨x7,e_x7,g3⟩:=bnd g3
     refine sq (gr fol [2,3,6,7] (kBW a b [(5,.i n2),(25,.bool (!(x6==x7)))]) (ac (iv jE encS e_x6) (ac (lv 0 ce9 encS e_x6 rfl) (ac (iv jE encS e_x7) (ac (lv 0 ce9 encS e_x7 rfl) az)))) ?_)
     refine ihB g3 (fun c8 g3=>?_) (fun c8 g3=>?_)
     ·refine sh fol kAI ?_
      refine Goes.ret ?_
      obtain rfl:=si g3
      exact Or.inr (⟨rfl,_,rfl,(gw2 [.bool false] (FzW.still tB))⟩)
     ·refine Goes.skip ?_
      refine gh fol (kBW a b (kAs (w64 (n2+1)))) ?_
      exact⟨M,(ofG 26 (kBW a b (kAs (w64 (n2+1)))),[]),Nat.lt_succ_self _,(Sub.refl _),_,rfl,g3⟩
    ·refine Goes.exit ?_
     obtain rfl:=si g3
     exact Or.inl (⟨rfl,rfl,(Sub.keep [] rfl rfl)⟩)
  rintro x s' (⟨rfl,rfl,hsub⟩|⟨rfl,q9,rfl,hret⟩)
  ·try dsimp only at h
   refine Goes.sub hsub ?_
   refine sh fol kAq ?_
   refine Goes.ret ?_
   obtain rfl:=si h
   exact(gw2 [.bool true] (FzW.still tB))
  ·try dsimp only at h
   obtain rfl:=si h
   exact hret
def zt (N:Nat) (a:List qb) (b:List qb):Nat→Int→Option (Unit⊕Bool)
 |0,_=>none
 |K+1,n2=>
  if n2<(a.length:Int)then
  ((idx a n2).bind fun x6=>
  (idx b n2).bind fun x7=>
  if(!decide (x6.Number=x7.Number))=true then
  some true
  else
  if(!(x6.Kind==x7.Kind))=true then
  some true
  else
  (xE N x6.Names x7.Names).bind fun r10=>
  if(!r10)=true then
  some true
  else
  (qah N x6.Values x7.Values).bind fun r12=>
  if(!r12)=true then
  some true
  else
  some (!(x6.Text==x7.Text)):Option Bool).bind fun b14=>
  if b14=true then
  some (.inr false)
  else
  zt N a b K (w64 (n2+1))
  else
  some (.inl ())
def jk (N:Nat) (a:List qb) (b:List qb):Option Bool:=
 if(!decide ((a.length:Int)=(b.length:Int)))=true then
 some false
 else
 (zt N a b N 0).bind (fun
 |(.inl ())=>
 some true
 |(.inr q17)=>
 some q17)
theorem qM (N:Nat) (a:List qb) (b:List qb) {res:Bool} (h:jk N a b=some res):qg Tryz.prog (.fn 46) [vl qa a,vl qa b] [] (.bool res) []:=by
 unfold jk at h
 refine Goes.fnW Tryz.func46 rfl rfl (m:=82) rfl (rs:=[.tmp 4]) rfl (l:=(kP a (kBa b []))) rfl ?_
 refine sh fol (kP a (kBa b [])) ?_
 refine sq ?_
 refine sh fol (kP a (kBa b (kBl (!decide ((a.length:Int)=(b.length:Int)))))) ?_
 refine ihB h (fun c1 h=>?_) (fun c1 h=>?_)
 ·refine sh fol kAI ?_
  refine Goes.ret ?_
  obtain rfl:=si h
  exact(gw2 [.bool false] (FzW.still tB))
 ·refine Goes.skip ?_
  refine sq ?_
  refine sh fol (kP a (kBa b [(5,.i 0)])) ?_
  refine Goes.block ?_
  obtain⟨r3,g3,h⟩:=bnd h
  refine Goes.imp (Q:=fun x s'=>(x= .exit 0∧(.inl ())=r3∧Sub s' (ofG 82 [],[]))∨(x= .ret∧ ∃q4,(.inr q4)=r3∧zl Tryz.prog [.tmp 4] (.bool q4) .ret s')) ?_ ?_
  ·refine Goes.loopS (fun M s=> ∃(n2:Int),s=(ofG 82 (kP a (kBa b (kAs n2))),[])∧zt N a b M n2=some r3) ?_ (m:=N) ⟨_,rfl,g3⟩
   rintro M s ⟨n2,rfl,g3⟩
   cases M with
   |zero=>simp only[zt]at g3;cases g3
   |succ M=>
    rw[zt]at g3
    refine sq ?_
    refine sh fol (kP a (kBa b [(5,.i n2),(14,.bool (decide (n2<(a.length:Int))))])) ?_
    refine ihD g3 (fun c5 g3=>?_) (fun c5 g3=>?_)
    ·refine Goes.skip ?_
     refine sq (Goes.block ?_)
     refine sq ?_
     obtain⟨b14,g_v15,g3⟩:=bnd g3
     refine Goes.cut (s':=(ofG 82 (kP a (kBa b [(5,.i n2),(81,.bool b14)])),[])) ?_ ?_
     ·obtain⟨x6,e_x6,g_v15⟩:=bnd g_v15
      obtain⟨x7,e_x7,g_v15⟩:=bnd g_v15
      rcases wyB g_v15 with⟨c8,g_v15⟩|⟨c8,g_v15⟩
      ·obtain rfl:=si g_v15
       exact tr fol [2,4,7,9,11] (kP a (kBa b [(5,.i n2),(81,.bool true)])) (ac (iv zV qa e_x6) (ac (lv 0 ce3 qa e_x6 rfl) (ac (iv zV qa e_x7) (ac (lv 0 ce3 qa e_x7 rfl) (ac (gw c8) az)))))
      ·rcases wyB g_v15 with⟨c9,g_v15⟩|⟨c9,g_v15⟩
       ·obtain rfl:=si g_v15
        exact tr fol [2,4,7,9,11,14,16,19,21,24] (kP a (kBa b [(5,.i n2),(81,.bool true)])) (ac (iv zV qa e_x6) (ac (lv 0 ce3 qa e_x6 rfl) (ac (iv zV qa e_x7) (ac (lv 0 ce3 qa e_x7 rfl) (ac (gw c8) (ac (iv zV qa e_x6) (ac (lv 1 ce9 qa e_x6 rfl) (ac (iv zV qa e_x7) (ac (lv 1 ce9 qa e_x7 rfl) (ac (gw c9) az))))))))))
       ·obtain⟨r10,e_r10,g_v15⟩:=bnd g_v15
        rcases wyB g_v15 with⟨c11,g_v15⟩|⟨c11,g_v15⟩
        ·obtain rfl:=si g_v15
         exact tr fol [2,4,7,9,11,14,16,19,21,24,27,29,32,34,35,38] (kP a (kBa b [(5,.i n2),(81,.bool true)])) (ac (iv zV qa e_x6) (ac (lv 0 ce3 qa e_x6 rfl) (ac (iv zV qa e_x7) (ac (lv 0 ce3 qa e_x7 rfl) (ac (gw c8) (ac (iv zV qa e_x6) (ac (lv 1 ce9 qa e_x6 rfl) (ac (iv zV qa e_x7) (ac (lv 1 ce9 qa e_x7 rfl) (ac (gw c9) (ac (iv zV qa e_x6) (ac (lv 2 qfS qa e_x6 rfl) (ac (iv zV qa e_x7) (ac (lv 2 qfS qa e_x7 rfl) (ac (cv (qaK N x6.Names x7.Names e_r10)) (ac (gw c11) az))))))))))))))))
        ·obtain⟨r12,e_r12,g_v15⟩:=bnd g_v15
         rcases wyB g_v15 with⟨c13,g_v15⟩|⟨c13,g_v15⟩
         ·obtain rfl:=si g_v15
          exact tr fol [2,4,7,9,11,14,16,19,21,24,27,29,32,34,35,38,41,43,46,48,49,52] (kP a (kBa b [(5,.i n2),(81,.bool true)])) (ac (iv zV qa e_x6) (ac (lv 0 ce3 qa e_x6 rfl) (ac (iv zV qa e_x7) (ac (lv 0 ce3 qa e_x7 rfl) (ac (gw c8) (ac (iv zV qa e_x6) (ac (lv 1 ce9 qa e_x6 rfl) (ac (iv zV qa e_x7) (ac (lv 1 ce9 qa e_x7 rfl) (ac (gw c9) (ac (iv zV qa e_x6) (ac (lv 2 qfS qa e_x6 rfl) (ac (iv zV qa e_x7) (ac (lv 2 qfS qa e_x7 rfl) (ac (cv (qaK N x6.Names x7.Names e_r10)) (ac (gw c11) (ac (iv zV qa e_x6) (ac (lv 3 qmP qa e_x6 rfl) (ac (iv zV qa e_x7) (ac (lv 3 qmP qa e_x7 rfl) (ac (cv (qcA N x6.Values x7.Values e_r12)) (ac (gw c13) az))))))))))))))))))))))
         ·obtain rfl:=si g_v15
          exact tr fol [2,4,7,9,11,14,16,19,21,24,27,29,32,34,35,38,41,43,46,48,49,52,55,57,60,62] (kP a (kBa b [(5,.i n2),(81,.bool (!(x6.Text==x7.Text)))])) (ac (iv zV qa e_x6) (ac (lv 0 ce3 qa e_x6 rfl) (ac (iv zV qa e_x7) (ac (lv 0 ce3 qa e_x7 rfl) (ac (gw c8) (ac (iv zV qa e_x6) (ac (lv 1 ce9 qa e_x6 rfl) (ac (iv zV qa e_x7) (ac (lv 1 ce9 qa e_x7 rfl) (ac (gw c9) (ac (iv zV qa e_x6) (ac (lv 2 qfS qa e_x6 rfl) (ac (iv zV qa e_x7) (ac (lv 2 qfS qa e_x7 rfl) (ac (cv (qaK N x6.Names x7.Names e_r10)) (ac (gw c11) (ac (iv zV qa e_x6) (ac (lv 3 qmP qa e_x6 rfl) (ac (iv zV qa e_x7) (ac (lv 3 qmP qa e_x7 rfl) (ac (cv (qcA N x6.Values x7.Values e_r12)) (ac (gw c13) (ac (iv zV qa e_x6) (ac (lv 4 ce9 qa e_x6 rfl) (ac (iv zV qa e_x7) (ac (lv 4 ce9 qa e_x7 rfl) az))))))))))))))))))))))))))
     refine ihB g3 (fun c16 g3=>?_) (fun c16 g3=>?_)
     ·refine sh fol kAI ?_
      refine Goes.ret ?_
      obtain rfl:=si g3
      exact Or.inr (⟨rfl,_,rfl,(gw2 [.bool false] (FzW.still tB))⟩)
     ·refine Goes.skip ?_
      refine gh fol (kP a (kBa b (kAs (w64 (n2+1))))) ?_
      exact⟨M,(ofG 82 (kP a (kBa b (kAs (w64 (n2+1))))),[]),Nat.lt_succ_self _,(Sub.refl _),_,rfl,g3⟩
    ·refine Goes.exit ?_
     obtain rfl:=si g3
     exact Or.inl (⟨rfl,rfl,(Sub.keep [] rfl rfl)⟩)
  rintro x s' (⟨rfl,rfl,hsub⟩|⟨rfl,q17,rfl,hret⟩)
  ·try dsimp only at h
   refine Goes.sub hsub ?_
   refine sh fol kAq ?_
   refine Goes.ret ?_
   obtain rfl:=si h
   exact(gw2 [.bool true] (FzW.still tB))
  ·try dsimp only at h
   obtain rfl:=si h
   exact hret
def yK (s_:qc):Option Str:=
 some s_.Name
theorem qbv (s_:qc) {res:Str} (h:yK s_=some res):qg Tryz.prog (.fn 100) [.agg (cS s_)] [] (.str res) []:=by
 unfold yK at h
 refine Goes.fnW Tryz.func100 rfl rfl (m:=5) rfl (rs:=[.tmp 2]) rfl (l:=[(0,.agg (cS s_))]) rfl ?_
 refine sg fol (kAA []) (kBL s_) ?_
 refine sh fol [(2,.str s_.Name)] ?_
 refine Goes.ret ?_
 obtain rfl:=si h
 exact(gw2 [.str s_.Name] (FzW.still tS))
def vI (p0:qc):Option Bool:=
 some true
theorem qbQ (p0:qc) {res:Bool} (h:vI p0=some res):qg Tryz.prog (.fn 196) [.agg (cS p0)] [] (.bool res) []:=by
 unfold vI at h
 refine Goes.fnW Tryz.func196 rfl rfl (m:=3) rfl (rs:=[.tmp 2]) rfl (l:=[(0,.agg (cS p0))]) rfl ?_
 refine sg fol [] (kBL p0) ?_
 refine sh fol [(2,.bool true)] ?_
 refine Goes.ret ?_
 obtain rfl:=si h
 exact(gw2 [.bool true] (FzW.still tB))
def qbb (s_:qc) (day:Int):Option Bool:=
 ((jd s_ day).bind fun r1=>
 if(!r1)=true then
 (vw s_ day).bind fun r3=>
 some (!r3)
 else
 some false:Option Bool).bind fun b4=>
 some b4
theorem qew (s_:qc) (day:Int) {res:Bool} (h:qbb s_ day=some res):qg Tryz.prog (.fn 99) [.agg (cS s_),.i day] [] (.bool res) []:=by
 unfold qbb at h
 refine Goes.fnW Tryz.func99 rfl rfl (m:=15) rfl (rs:=[.tmp 4]) rfl (l:=[(0,.agg (cS s_)),(1,.i day)]) rfl ?_
 refine sg fol ((1,.i day)::(kU [])) (kBL s_) ?_
 refine sq ?_
 obtain⟨b4,g_v5,h⟩:=bnd h
 refine Goes.cut (s':=(ofG 15 (kBI b4),(kBL s_))) ?_ ?_
 ·obtain⟨r1,e_r1,g_v5⟩:=bnd g_v5
  rcases wyB g_v5 with⟨c2,g_v5⟩|⟨c2,g_v5⟩
  ·obtain⟨r3,e_r3,g_v5⟩:=bnd g_v5
   obtain rfl:=si g_v5
   exact tr fol [2,4,7] (kBI (!r3)) (ac (cv (vR s_ day e_r1)) (ac (gw c2) (ac (cv (qba s_ day e_r3)) az)))
  ·obtain rfl:=si g_v5
   exact tr fol [2,4] kAI (ac (cv (vR s_ day e_r1)) (ac (gw c2) az))
 refine Goes.ret ?_
 obtain rfl:=si h
 exact(gw2 [.bool b4] (FzW.still tB))
def qas:Option Unit:=
 some ()
theorem yS {res:Unit} (h:qas=some res):qg Tryz.prog (.fn 111) [] [] (fm2) []:=by
 unfold qas at h
 refine Goes.fnW Tryz.func111 rfl rfl (m:=6) rfl (rs:=[.tmp 0]) rfl (l:=[]) rfl ?_
 refine sh fol [] ?_
 refine sg fol [(0,.map 0)] [.map kBs [.agg [.i 1,.func (.func 161) [] []],.agg [.i 0,.func (.func 162) [] []],.agg [.i 1,.func (.func 163) [] []]]] ?_
 refine Goes.ret ?_
 obtain rfl:=si h
 exact(gw2 [.map 0] (FzW.of (by kernel_rfl)))
def vF (p0:qb):Option Bool:=
 some true
theorem qbL (p0:qb) {res:Bool} (h:vF p0=some res):qg Tryz.prog (.fn 114) [.agg (cE p0)] [] (.bool res) []:=by
 unfold vF at h
 refine Goes.fnW Tryz.func114 rfl rfl (m:=3) rfl (rs:=[.tmp 2]) rfl (l:=[(0,.agg (cE p0))]) rfl ?_
 refine sg fol [] (kW p0 []) ?_
 refine sh fol [(2,.bool true)] ?_
 refine Goes.ret ?_
 obtain rfl:=si h
 exact(gw2 [.bool true] (FzW.still tB))
def yD (p0:qb):Option Bool:=
 some true
theorem qcI (p0:qb) {res:Bool} (h:yD p0=some res):qg Tryz.prog (.fn 118) [.agg (cE p0)] [] (.bool res) []:=by
 unfold yD at h
 refine Goes.fnW Tryz.func118 rfl rfl (m:=3) rfl (rs:=[.tmp 2]) rfl (l:=[(0,.agg (cE p0))]) rfl ?_
 refine sg fol [] (kW p0 []) ?_
 refine sh fol [(2,.bool true)] ?_
 refine Goes.ret ?_
 obtain rfl:=si h
 exact(gw2 [.bool true] (FzW.still tB))
def zw (least:Int):Nat→Int→Str→Option Str
 |0,_,_=>none
 |K+1,n1,s2=>
  (if n1>0 then
  some true
  else
  some (decide ((s2.length:Int)<least)):Option Bool).bind fun b6=>
  if b6=true then
  (cut [48,49,50,51,52,53,54,55,56,57] (n1.tmod 10) (w64 ((n1.tmod 10)+1))).bind fun s9=>
  (cat s9 s2).bind fun s10=>
  zw least K (w64 (n1.tdiv 10)) s10
  else
  some s2
def xK (N:Nat) (n:Int) (least:Int):Option Str:=
 (zw least N n []).bind fun s3=>
 some s3
theorem qdd (N:Nat) (n:Int) (least:Int) {res:Str} (h:xK N n least=some res):qg Tryz.prog (.fn 232) [.i n,.i least] [] (.str res) []:=by
 unfold xK at h
 refine Goes.fnW Tryz.func232 rfl rfl (m:=25) rfl (rs:=[.tmp 4]) rfl (l:=(kBv n least [])) rfl ?_
 refine sh fol (kBv n least []) ?_
 refine sh fol (kBv n least [(5,.str [])]) ?_
 refine sq (Goes.block ?_)
 obtain⟨r4,g4,h⟩:=bnd h
 refine Goes.imp (Q:=fun x s'=>(x= .exit 0∧ ∃s3,s3=r4∧Sub s' (ofG 25 [(5,.str s3)],[]))) ?_ ?_
 ·refine Goes.loopS (fun M s=> ∃(n1:Int) (s2:Str),s=(ofG 25 (kBv n1 least [(5,.str s2)]),[])∧zw least M n1 s2=some r4) ?_ (m:=N) ⟨_,_,rfl,g4⟩
  rintro M s ⟨n1,s2,rfl,g4⟩
  cases M with
  |zero=>simp only[zw]at g4;cases g4
  |succ M=>
   rw[zw]at g4
   refine sq ?_
   refine sq ?_
   obtain⟨b6,g_v7,g4⟩:=bnd g4
   refine Goes.cut (s':=(ofG 25 (kBv n1 least ((5,.str s2)::(kB4 b6))),[])) ?_ ?_
   ·rcases wyD g_v7 with⟨c5,g_v7⟩|⟨c5,g_v7⟩
    ·obtain rfl:=si g_v7
     exact tr fol [2] (kBv n1 least [(5,.str s2),(13,.bool true)]) (ac (gw c5) az)
    ·obtain rfl:=si g_v7
     exact tr fol [2] (kBv n1 least ((5,.str s2)::(kB4 (decide ((s2.length:Int)<least))))) (ac (gw c5) az)
   refine ihB g4 (fun c8 g4=>?_) (fun c8 g4=>?_)
   ·refine Goes.skip ?_
    refine Goes.block ?_
    obtain⟨s9,e_s9,g4⟩:=bnd g4
    obtain⟨s10,e_s10,g4⟩:=bnd g4
    refine sq (gr fol [5,7] (kBv n1 least [(5,.str s10)]) (ac (hs (.done (.opt (qx Tryz.prog 9 (.str [48,49,50,51,52,53,54,55,56,57]) (some (.i (n1.tmod 10))) (some (.i (w64 ((n1.tmod 10)+1)))) none)) (.str s9)) (yh st9 (some (n1.tmod 10)) (some (w64 ((n1.tmod 10)+1))) e_s9)) (ac (hs (.done (.opt (qay Tryz.prog .add 9 (.tmp 19) (.tmp 20) (.str s9) (.str s2))) (.str s10)) (yL e_s10)) az)) ?_)
    refine gh fol (kBv (w64 (n1.tdiv 10)) least [(5,.str s10)]) ?_
    exact⟨M,(ofG 25 (kBv (w64 (n1.tdiv 10)) least [(5,.str s10)]),[]),Nat.lt_succ_self _,(Sub.refl _),_,_,rfl,g4⟩
   ·refine Goes.exit ?_
    obtain rfl:=si g4
    exact⟨rfl,_,rfl,(Sub.keep [5] rfl rfl)⟩
 rintro x s' ⟨rfl,s3,rfl,hsub⟩
 refine Goes.sub hsub ?_
 refine sh fol [(4,.str s3)] ?_
 refine Goes.ret ?_
 obtain rfl:=si h
 exact(gw2 [.str s3] (FzW.still tS))
def yQ (N:Nat) (a:qaU):Nat→Str→Int→Option Str
 |0,_,_=>none
 |K+1,s4,n5=>
  if n5≥0 then
  (idx a.w n5).bind fun x9=>
  (xK N x9 9).bind fun r10=>
  (cat s4 r10).bind fun s11=>
  yQ N a K s11 (w64 (n5-1))
  else
  some s4
def qbY (N:Nat) (a:qaU):Option Str:=
 if(a.w.length:Int)=0 then
 some [48]
 else
 (idx a.w (w64 ((a.w.length:Int)-1))).bind fun x2=>
 (xK N x2 1).bind fun r3=>
 (yQ N a N r3 (w64 ((a.w.length:Int)-2))).bind fun s6=>
 if a.neg=true then
 (cat [45] s6).bind fun s13=>
 some s13
 else
 some s6
theorem qhZ (N:Nat) (a:qaU) {res:Str} (h:qbY N a=some res):qg Tryz.prog (.fn 193) [.agg [.bool a.neg,vl encI a.w]] [] (.str res) []:=by
 unfold qbY at h
 refine Goes.fnW Tryz.func193 rfl rfl (m:=39) rfl (rs:=[.tmp 2]) rfl (l:=[(0,.agg [.bool a.neg,vl encI a.w])]) rfl ?_
 refine sg fol (kAA []) (kBp a.neg a.w []) ?_
 refine sq ?_
 refine sh fol (kAA [(8,.bool (decide ((a.w.length:Int)=0)))]) ?_
 refine ihD h (fun c1 h=>?_) (fun c1 h=>?_)
 ·refine sh fol [(2,.str [48])] ?_
  refine Goes.ret ?_
  obtain rfl:=si h
  exact(gw2 [.str [48]] (FzW.still tS))
 ·refine Goes.skip ?_
  obtain⟨x2,e_x2,h⟩:=bnd h
  obtain⟨r3,e_r3,h⟩:=bnd h
  refine sq (gr fol [6,7,8] (kAA [(3,.str r3)]) (ac (iv y7 encI e_x2) (ac (lv 0 ce3 encI e_x2 rfl) (ac (cv (qdd N x2 1 e_r3)) az))) ?_)
  refine sq ?_
  refine sh fol (kAA ((3,.str r3)::(kBG (w64 ((a.w.length:Int)-2))))) ?_
  refine Goes.block ?_
  obtain⟨r7,g7,h⟩:=bnd h
  refine Goes.imp (Q:=fun x s'=>(x= .exit 0∧ ∃s6,s6=r7∧Sub s' (ofG 39 (kAA [(3,.str s6)]),(kBp a.neg a.w [])))) ?_ ?_
  ·refine Goes.loopS (fun M s=> ∃(s4:Str) (n5:Int),s=(ofG 39 (kAA ((3,.str s4)::(kBG n5))),(kBp a.neg a.w []))∧yQ N a M s4 n5=some r7) ?_ (m:=N) ⟨_,_,rfl,g7⟩
   rintro M s ⟨s4,n5,rfl,g7⟩
   cases M with
   |zero=>simp only[yQ]at g7;cases g7
   |succ M=>
    rw[yQ]at g7
    refine sq ?_
    refine sh fol (kAA [(3,.str s4),(4,.i n5),(23,.bool (decide (n5≥0)))]) ?_
    refine ihD g7 (fun c8 g7=>?_) (fun c8 g7=>?_)
    ·refine Goes.skip ?_
     refine sq (Goes.block ?_)
     obtain⟨x9,e_x9,g7⟩:=bnd g7
     obtain⟨r10,e_r10,g7⟩:=bnd g7
     obtain⟨s11,e_s11,g7⟩:=bnd g7
     refine gr fol [4,5,6,7] (kAA ((3,.str s11)::(kBG n5))) (ac (iv y7 encI e_x9) (ac (lv 0 ce3 encI e_x9 rfl) (ac (cv (qdd N x9 9 e_r10)) (ac (hs (.done (.opt (qay Tryz.prog .add 9 (.tmp 26) (.tmp 32) (.str s4) (.str r10))) (.str s11)) (yL e_s11)) az)))) ?_
     refine gh fol (kAA ((3,.str s11)::(kBG (w64 (n5-1))))) ?_
     exact⟨M,(ofG 39 (kAA ((3,.str s11)::(kBG (w64 (n5-1))))),(kBp a.neg a.w [])),Nat.lt_succ_self _,(Sub.refl _),_,_,rfl,g7⟩
    ·refine Goes.exit ?_
     obtain rfl:=si g7
     exact⟨rfl,_,rfl,(Sub.keep [1,3] rfl rfl)⟩
  rintro x s' ⟨rfl,s6,rfl,hsub⟩
  refine Goes.sub hsub ?_
  refine sq ?_
  refine sh fol [(3,.str s6),(35,.bool a.neg)] ?_
  refine ihB h (fun c12 h=>?_) (fun c12 h=>?_)
  ·obtain⟨s13,e_s13,h⟩:=bnd h
   refine sq (gr fol [1] [(2,.str s13)] (ac (hs (.done (.opt (qay Tryz.prog .add 9 (.const (.string ⟨#[45]⟩)) (.tmp 36) (.str [45]) (.str s6))) (.str s13)) (yL e_s13)) az) ?_)
   refine Goes.ret ?_
   obtain rfl:=si h
   exact(gw2 [.str s13] (FzW.still tS))
  ·refine Goes.skip ?_
   refine sh fol [(2,.str s6)] ?_
   refine Goes.ret ?_
   obtain rfl:=si h
   exact(gw2 [.str s6] (FzW.still tS))
def vJ:Nat→(List Int)→Option (List Int)
 |0,_=>none
 |K+1,l1=>
  (if(l1.length:Int)>0 then
  (idx l1 (w64 ((l1.length:Int)-1))).bind fun x5=>
  some (decide (x5=0))
  else
  some false:Option Bool).bind fun b6=>
  if b6=true then
  (cut l1 0 (w64 ((l1.length:Int)-1))).bind fun s9=>
  vJ K s9
  else
  some l1
def qca (N:Nat) (w:List Int):Option (List Int):=
 (vJ N w).bind fun l2=>
 some l2
theorem qh2 (N:Nat) (w:List Int) {res:List Int} (h:qca N w=some res):qg Tryz.prog (.fn 253) [vl encI w] [] (vl encI res) []:=by
 unfold qca at h
 refine Goes.fnW Tryz.func253 rfl rfl (m:=21) rfl (rs:=[.tmp 2]) rfl (l:=[(0,vl encI w)]) rfl ?_
 refine sh fol [(0,vl encI w)] ?_
 refine sq (Goes.block ?_)
 obtain⟨r3,g3,h⟩:=bnd h
 refine Goes.imp (Q:=fun x s'=>(x= .exit 0∧ ∃l2,l2=r3∧Sub s' (ofG 21 [(0,vl encI l2)],[]))) ?_ ?_
 ·refine Goes.loopS (fun M s=> ∃(l1:List Int),s=(ofG 21 [(0,vl encI l1)],[])∧vJ M l1=some r3) ?_ (m:=N) ⟨_,rfl,g3⟩
  rintro M s ⟨l1,rfl,g3⟩
  cases M with
  |zero=>simp only[vJ]at g3;cases g3
  |succ M=>
   rw[vJ]at g3
   refine sq ?_
   refine sq ?_
   obtain⟨b6,g_v7,g3⟩:=bnd g3
   refine Goes.cut (s':=(ofG 21 [(0,vl encI l1),(14,.bool b6)],[])) ?_ ?_
   ·rcases wyD g_v7 with⟨c4,g_v7⟩|⟨c4,g_v7⟩
    ·obtain⟨x5,e_x5,g_v7⟩:=bnd g_v7
     obtain rfl:=si g_v7
     exact tr fol [3,8,9] [(0,vl encI l1),(14,.bool (decide (x5=0)))] (ac (gw c4) (ac (iv y7 encI e_x5) (ac (lv 0 ce3 encI e_x5 rfl) az)))
    ·obtain rfl:=si g_v7
     exact tr fol [3] [(0,vl encI l1),(14,.bool false)] (ac (gw c4) az)
   refine ihB g3 (fun c8 g3=>?_) (fun c8 g3=>?_)
   ·refine Goes.skip ?_
    refine Goes.block ?_
    obtain⟨s9,e_s9,g3⟩:=bnd g3
    refine gr fol [4] [(0,vl encI s9)] (ac (hs (.done (.opt (qx Tryz.prog 24 (vl encI l1) none (some (.i (w64 ((l1.length:Int)-1)))) none)) (vl encI s9)) (xZ y7 (E:=encI) rfl none (some (w64 ((l1.length:Int)-1))) e_s9)) az) ?_
    exact⟨M,(ofG 21 [(0,vl encI s9)],[]),Nat.lt_succ_self _,(Sub.refl _),_,rfl,g3⟩
   ·refine Goes.exit ?_
    obtain rfl:=si g3
    exact⟨rfl,_,rfl,(Sub.keep [0] rfl rfl)⟩
 rintro x s' ⟨rfl,l2,rfl,hsub⟩
 refine Goes.sub hsub ?_
 refine sh fol [(2,vl encI l2)] ?_
 refine Goes.ret ?_
 obtain rfl:=si h
 exact(gw2 [vl encI l2] (FzW.still (ko encI _ (nl rfl))))
def qa6 (N:Nat) (neg:Bool) (w:List Int):Option qaU:=
 (qca N w).bind fun r1=>
 (if neg=true then
 some (decide ((r1.length:Int)>0))
 else
 some false:Option Bool).bind fun b3=>
 some (⟨b3,r1⟩:qaU)
theorem qgr (N:Nat) (neg:Bool) (w:List Int) {res:qaU} (h:qa6 N neg w=some res):qg Tryz.prog (.fn 233) [.bool neg,vl encI w] [] (.agg [.bool res.neg,vl encI res.w]) []:=by
 unfold qa6 at h
 refine Goes.fnW Tryz.func233 rfl rfl (m:=15) rfl (rs:=[.cell 4 259]) rfl (l:=[(0,.bool neg),(1,vl encI w)]) rfl ?_
 refine sg fol ((0,.bool neg)::(1,vl encI w)::(kA8 [])) (kAk []) ?_
 obtain⟨r1,e_r1,h⟩:=bnd h
 refine sq (gr fol [1] ((0,.bool neg)::(1,vl encI r1)::(kA8 [])) (ac (cv (qh2 N w e_r1)) az) ?_)
 refine sq ?_
 obtain⟨b3,g_v4,h⟩:=bnd h
 refine Goes.cut (s':=(ofG 15 (kA8 []),(kBp b3 r1 []))) ?_ ?_
 ·rcases wyB g_v4 with⟨c2,g_v4⟩|⟨c2,g_v4⟩
  ·obtain rfl:=si g_v4
   exact qj.rq fol [1] (kA8 []) (kBp (decide ((r1.length:Int)>0)) r1 []) (ac (gw c2) az)
  ·obtain rfl:=si g_v4
   exact qj.rq fol [1] (kA8 []) [.cells [.bool false,vl encI r1]] (ac (gw c2) az)
 refine Goes.ret ?_
 obtain rfl:=si h
 exact(gw2 [.agg [.bool b3,vl encI r1]] (FzW.agg (qo.cons (FzW.still tB) (qo.cons (FzW.still (ko encI _ (nl rfl))) qo.nil))))
end Go.Av
