/-
  Walks of functions: what each computes, as a plain function.
-/
import Derived.Test.YtjflombnfhlkaaaGreatDoorQGenT3
noncomputable section
namespace Go.Av
open Go.Proofs Go.RowKit
set_option linter.unusedSectionVars false
set_option linter.unusedVariables false
set_option linter.unusedSimpArgs false
set_option maxRecDepth 100000
def je:Nat→(List Int)→Int→Option (List Int)
 |0,_,_=>none
 |K+1,l1,n2=>
  if(!decide (n2=0))=true then
  ((if(n2.tmod 1000000000)<0 then
  some (w64 (0-(n2.tmod 1000000000)))
  else
  some (n2.tmod 1000000000):Option Int)).bind fun n6=>
  (app 8 l1 [n6]).bind fun l9=>
  je K l9 (w64 (n2.tdiv 1000000000))
  else
  some l1
def qcr (N:Nat) (n:Int):Option qaU:=
 (je N ([]:List Int) n).bind fun l3=>
 (qa6 N (decide (n<0)) l3).bind fun r10=>
 some r10
theorem qhl (N:Nat) (n:Int) {res:qaU} (h:qcr N n=some res):qg Tryz.prog (.fn 194) [.i n] [] (.agg [.bool res.neg,vl encI res.w]) []:=by
 unfold qcr at h
 refine Goes.fnW Tryz.func194 rfl rfl (m:=25) rfl (rs:=[.cell 2 259]) rfl (l:=[(0,.i n)]) rfl ?_
 refine sg fol ((0,.i n)::(kU [])) (kAk []) ?_
 refine sh fol ((0,.i n)::(kU [(3,.nilslice)])) ?_
 refine sh fol ((0,.i n)::(kU ((3,.nilslice)::(kBI (decide (n<0)))))) ?_
 refine sq (Goes.block ?_)
 obtain⟨r4,g4,h⟩:=bnd h
 refine Goes.imp (Q:=fun x s'=>(x= .exit 0∧ ∃l3,l3=r4∧Sub s' (ofG 25 (kU (kA1 l3 (decide (n<0)) [])),(kAk (kAM l3 []))))) ?_ ?_
 ·refine Goes.sub (s':=(ofG 25 ((0,.i n)::(kU ((3,.gslice 1 ([]:List Int).length 1)::(kBI (decide (n<0)))))),(kAk kB5))) (Sub.norm [] [some 0,none] rfl rfl (.keep (.same nI) (.kp (.keep .nil (.keep (.same nB) .nil)))) (.kb rfl (.same sn) (.fresh .nil))) ?_
  refine Goes.loopS (fun M s=> ∃(l1:List Int) (n2:Int),s=(ofG 25 ((0,.i n2)::(kU (kA1 l1 (decide (n<0)) []))),(kAk (kAM l1 [])))∧je M l1 n2=some r4) ?_ (m:=N) ⟨_,_,rfl,g4⟩
  rintro M s ⟨l1,n2,rfl,g4⟩
  cases M with
  |zero=>simp only[je]at g4;cases g4
  |succ M=>
   rw[je]at g4
   refine sq ?_
   refine sh fol ((0,.i n2)::(kU (kA1 l1 (decide (n<0)) [(9,.bool (!decide (n2=0)))]))) ?_
   refine ihB g4 (fun c5 g4=>?_) (fun c5 g4=>?_)
   ·refine Goes.skip ?_
    refine Goes.block ?_
    refine sh fol ((0,.i n2)::(kU (kA1 l1 (decide (n<0)) (kAs (n2.tmod 1000000000))))) ?_
    refine sq ?_
    refine sh fol ((0,.i n2)::(kU (kA1 l1 (decide (n<0)) ((5,.i (n2.tmod 1000000000))::(kB4 (decide ((n2.tmod 1000000000)<0))))))) ?_
    obtain⟨r7,g7,g4⟩:=bnd g4
    refine Goes.imp (Q:=fun x s'=>(x= .normal∧ ∃n6,n6=r7∧Sub s' (ofG 25 ((0,.i n2)::(kU (kA1 l1 (decide (n<0)) (kAs n6)))),(kAk (kAM l1 []))))) ?_ ?_
    ·refine ihD g7 (fun c8 g7=>?_) (fun c8 g7=>?_)
     ·refine gh fol ((0,.i n2)::(kU (kA1 l1 (decide (n<0)) (kAs (w64 (0-(n2.tmod 1000000000))))))) ?_
      obtain rfl:=si g7
      exact⟨rfl,_,rfl,(Sub.refl _)⟩
     ·refine Goes.skip ?_
      obtain rfl:=si g7
      exact⟨rfl,_,rfl,(Sub.keep [0,2,3,4,5] rfl rfl)⟩
    rintro x s' ⟨rfl,n6,rfl,hsub⟩
    refine Goes.sub hsub ?_
    obtain⟨l9,e_l9,g4⟩:=bnd g4
    refine sq (gq fol [3] ((0,.i n2)::(kU ((3,.gslice 3 l9.length 1)::(kBI (decide (n<0)))))) (kAk (.dead::(kAH n6 (kAM l9 [])))) (ac (hs (.run [1,2] (qP Tryz.prog [24,24] (.gslice 1 l1.length 1) (.slice 2 0 1 1 1)) (kAk (kAM l1 (kAH n6 []))) (.gslice 3 l9.length 1) (kAk (.dead::(kAH n6 (kAM l9 [])))) true) (jH y7 (E:=encI) rfl (qa8 (E:=encI) (ys:=[n6]) rfl rfl rfl rfl) (qeO (E:=encI) (l:=l1) rfl rfl rfl e_l9 rfl))) az) ?_)
    refine gh fol ((0,.i (w64 (n2.tdiv 1000000000)))::(kU ((3,.gslice 3 l9.length 1)::(kBI (decide (n<0)))))) ?_
    exact⟨M,(ofG 25 ((0,.i (w64 (n2.tdiv 1000000000)))::(kU (kA1 l9 (decide (n<0)) []))),(kAk (kAM l9 []))),Nat.lt_succ_self _,(Sub.norm [] [some 0,some 3] rfl rfl (.keep (.same nI) (.kp (.keep (.gslice rfl) (.keep (.same nB) .nil)))) (.kb rfl (.same sn) (.ks .nil))),_,_,rfl,g4⟩
   ·refine Goes.exit ?_
    obtain rfl:=si g4
    exact⟨rfl,_,rfl,(Sub.keep [2,3,4] rfl rfl)⟩
 rintro x s' ⟨rfl,l3,rfl,hsub⟩
 refine Goes.sub hsub ?_
 obtain⟨r10,e_r10,h⟩:=bnd h
 refine sq (gq fol [2] (kU []) (kBp r10.neg r10.w [.frozen (l3.flatMap encI.c)]) (ac (hs (.callF 233 [.bool (decide (n<0)),.gslice 1 l3.length 1] (kAk (kAM l3 [])) [1] [.bool (decide (n<0)),vl encI l3] (.agg [.bool r10.neg,vl encI r10.w])) (qhO (FzL.cons (Fz.still tB) (FzL.cons (Fz.gs (E:=encI) rfl rfl (nl rfl)) FzL.nil)) (qgr N (decide (n<0)) l3 e_r10) (Still.agg (AllST.cons tB (AllST.cons (ko encI _ (nl rfl)) AllST.nil))))) az) ?_)
 refine Goes.sub (show Sub (ofG 25 (kU []),(kBp r10.neg r10.w [.frozen (l3.flatMap encI.c)])) (ofG 25 (kU []),(kBp r10.neg r10.w []))from(Sub.norm [] [some 0] rfl rfl (.kp .nil) (.kb rfl (.same sn) .nil))) ?_
 refine Goes.ret ?_
 obtain rfl:=si h
 exact(gw2 [.agg [.bool r10.neg,vl encI r10.w]] (FzW.agg (qo.cons (FzW.still tB) (qo.cons (FzW.still (ko encI _ (nl rfl))) qo.nil))))
def qbp (N:Nat) (n:Int):Option Str:=
 (qcr N n).bind fun r1=>
 (qbY N r1).bind fun r2=>
 some r2
theorem qfJ (N:Nat) (n:Int) {res:Str} (h:qbp N n=some res):qg Tryz.prog (.fn 158) [.i n] [] (.str res) []:=by
 unfold qbp at h
 refine Goes.fnW Tryz.func158 rfl rfl (m:=6) rfl (rs:=[.tmp 2]) rfl (l:=[(0,.i n)]) rfl ?_
 refine sh fol [(0,.i n)] ?_
 obtain⟨r1,e_r1,h⟩:=bnd h
 obtain⟨r2,e_r2,h⟩:=bnd h
 refine sq (gr fol [1,2] [(2,.str r2)] (ac (cv (qhl N n e_r1)) (ac (cv (qhZ N r1 e_r2)) az)) ?_)
 refine Goes.ret ?_
 obtain rfl:=si h
 exact(gw2 [.str r2] (FzW.still tS))
def qaI (N:Nat) (n:Int):Option Str:=
 (qbp N n).bind fun r1=>
 some r1
theorem qeM (N:Nat) (n:Int) {res:Str} (h:qaI N n=some res):qg Tryz.prog (.fn 109) [.i n] [] (.str res) []:=by
 unfold qaI at h
 refine Goes.fnW Tryz.func109 rfl rfl (m:=5) rfl (rs:=[.tmp 2]) rfl (l:=[(0,.i n)]) rfl ?_
 refine sh fol [(0,.i n)] ?_
 obtain⟨r1,e_r1,h⟩:=bnd h
 refine sq (gr fol [1] [(2,.str r1)] (ac (cv (qfJ N n e_r1)) az) ?_)
 refine Goes.ret ?_
 obtain rfl:=si h
 exact(gw2 [.str r1] (FzW.still tS))
def ym (e:qb):Nat→Str→Int→Option Str
 |0,_,_=>none
 |K+1,s4,n5=>
  if n5<(e.Names.length:Int)then
  (cat s4 [32]).bind fun s9=>
  (idx e.Names n5).bind fun x10=>
  (cat s9 x10).bind fun s11=>
  ym e K s11 (w64 (n5+1))
  else
  some s4
def yl (N:Nat) (e:qb):Nat→Str→Int→Option Str
 |0,_,_=>none
 |K+1,s12,n13=>
  if n13<(e.Values.length:Int)then
  (cat s12 [32]).bind fun s17=>
  (idx e.Values n13).bind fun x18=>
  (qaI N x18).bind fun r19=>
  (cat s17 r19).bind fun s20=>
  yl N e K s20 (w64 (n13+1))
  else
  some s12
def qb2 (N:Nat) (e:qb):Option Str:=
 (qaI N e.Number).bind fun r1=>
 (cat r1 [32]).bind fun s2=>
 (cat s2 e.Kind).bind fun s3=>
 (ym e N s3 0).bind fun s6=>
 (yl N e N s6 0).bind fun s14=>
 some s14
theorem qh7 (N:Nat) (e:qb) {res:Str} (h:qb2 N e=some res):qg Tryz.prog (.fn 66) [.agg (cE e)] [] (.str res) []:=by
 unfold qb2 at h
 refine Goes.fnW Tryz.func66 rfl rfl (m:=45) rfl (rs:=[.tmp 2]) rfl (l:=[(0,.agg (cE e))]) rfl ?_
 refine sg fol (kAA []) (kW e []) ?_
 obtain⟨r1,e_r1,h⟩:=bnd h
 obtain⟨s2,e_s2,h⟩:=bnd h
 obtain⟨s3,e_s3,h⟩:=bnd h
 refine sq (gr fol [2,3,6] (kAA [(3,.str s3)]) (ac (cv (qeM N e.Number e_r1)) (ac (hs (.done (.opt (qay Tryz.prog .add 9 (.tmp 8) (.const (.string ⟨#[32]⟩)) (.str r1) (.str [32]))) (.str s2)) (yL e_s2)) (ac (hs (.done (.opt (qay Tryz.prog .add 9 (.tmp 9) (.tmp 11) (.str s2) (.str e.Kind))) (.str s3)) (yL e_s3)) az))) ?_)
 refine sq ?_
 refine sh fol (kAA ((3,.str s3)::kBu)) ?_
 refine Goes.block ?_
 obtain⟨r7,g7,h⟩:=bnd h
 refine Goes.imp (Q:=fun x s'=>(x= .exit 0∧ ∃s6,s6=r7∧Sub s' (ofG 45 (kAA [(3,.str s6)]),(kW e [])))) ?_ ?_
 ·refine Goes.loopS (fun M s=> ∃(s4:Str) (n5:Int),s=(ofG 45 (kAA ((3,.str s4)::(kBG n5))),(kW e []))∧ym e M s4 n5=some r7) ?_ (m:=N) ⟨_,_,rfl,g7⟩
  rintro M s ⟨s4,n5,rfl,g7⟩
  cases M with
  |zero=>simp only[ym]at g7;cases g7
  |succ M=>
   rw[ym]at g7
   refine sq ?_
   refine sh fol (kAA [(3,.str s4),(4,.i n5),(17,.bool (decide (n5<(e.Names.length:Int))))]) ?_
   refine ihD g7 (fun c8 g7=>?_) (fun c8 g7=>?_)
   ·refine Goes.skip ?_
    refine sq (Goes.block ?_)
    obtain⟨s9,e_s9,g7⟩:=bnd g7
    obtain⟨x10,e_x10,g7⟩:=bnd g7
    obtain⟨s11,e_s11,g7⟩:=bnd g7
    refine gr fol [1,5,6,7] (kAA ((3,.str s11)::(kBG n5))) (ac (hs (.done (.opt (qay Tryz.prog .add 9 (.tmp 20) (.const (.string ⟨#[32]⟩)) (.str s4) (.str [32]))) (.str s9)) (yL e_s9)) (ac (iv jE encS e_x10) (ac (lv 0 ce9 encS e_x10 rfl) (ac (hs (.done (.opt (qay Tryz.prog .add 9 (.tmp 21) (.tmp 26) (.str s9) (.str x10))) (.str s11)) (yL e_s11)) az)))) ?_
    refine gh fol (kAA ((3,.str s11)::(kBG (w64 (n5+1))))) ?_
    exact⟨M,(ofG 45 (kAA ((3,.str s11)::(kBG (w64 (n5+1))))),(kW e [])),Nat.lt_succ_self _,(Sub.refl _),_,_,rfl,g7⟩
   ·refine Goes.exit ?_
    obtain rfl:=si g7
    exact⟨rfl,_,rfl,(Sub.keep [1,3] rfl rfl)⟩
 rintro x s' ⟨rfl,s6,rfl,hsub⟩
 refine Goes.sub hsub ?_
 refine sq ?_
 refine sh fol (kAA [(3,.str s6),(5,.i 0)]) ?_
 refine Goes.block ?_
 obtain⟨r15,g15,h⟩:=bnd h
 refine Goes.imp (Q:=fun x s'=>(x= .exit 2∧ ∃s14,s14=r15∧Sub s' (ofG 45 [(3,.str s14)],[]))) ?_ ?_
 ·refine Goes.loopS (fun M s=> ∃(s12:Str) (n13:Int),s=(ofG 45 (kAA ((3,.str s12)::(kAs n13))),(kW e []))∧yl N e M s12 n13=some r15) ?_ (m:=N) ⟨_,_,rfl,g15⟩
  rintro M s ⟨s12,n13,rfl,g15⟩
  cases M with
  |zero=>simp only[yl]at g15;cases g15
  |succ M=>
   rw[yl]at g15
   refine sq ?_
   refine sh fol (kAA [(3,.str s12),(5,.i n13),(32,.bool (decide (n13<(e.Values.length:Int))))]) ?_
   refine ihD g15 (fun c16 g15=>?_) (fun c16 g15=>?_)
   ·refine Goes.skip ?_
    refine sq (Goes.block ?_)
    obtain⟨s17,e_s17,g15⟩:=bnd g15
    obtain⟨x18,e_x18,g15⟩:=bnd g15
    obtain⟨r19,e_r19,g15⟩:=bnd g15
    obtain⟨s20,e_s20,g15⟩:=bnd g15
    refine gr fol [1,5,6,7,8] (kAA ((3,.str s20)::(kAs n13))) (ac (hs (.done (.opt (qay Tryz.prog .add 9 (.tmp 35) (.const (.string ⟨#[32]⟩)) (.str s12) (.str [32]))) (.str s17)) (yL e_s17)) (ac (iv y7 encI e_x18) (ac (lv 0 ce3 encI e_x18 rfl) (ac (cv (qeM N x18 e_r19)) (ac (hs (.done (.opt (qay Tryz.prog .add 9 (.tmp 36) (.tmp 42) (.str s17) (.str r19))) (.str s20)) (yL e_s20)) az))))) ?_
    refine gh fol (kAA ((3,.str s20)::(kAs (w64 (n13+1))))) ?_
    exact⟨M,(ofG 45 (kAA ((3,.str s20)::(kAs (w64 (n13+1))))),(kW e [])),Nat.lt_succ_self _,(Sub.refl _),_,_,rfl,g15⟩
   ·refine Goes.exit ?_
    obtain rfl:=si g15
    exact⟨rfl,_,rfl,(Sub.norm [] [] rfl rfl (.drop (.keep (.same nS) .nil)) .nil)⟩
 rintro x s' ⟨rfl,s14,rfl,hsub⟩
 refine Goes.sub hsub ?_
 refine sh fol [(2,.str s14)] ?_
 refine Goes.ret ?_
 obtain rfl:=si h
 exact(gw2 [.str s14] (FzW.still tS))
def xc (N:Nat) (a0_:Str):Option ((List qb)×(Option (List StateT))×Bool×Int):=
 (jf N a0_).bind fun r5=>
 (if(!decide (r5.2.2=0))=true then
 some (!decide (r5.2.2=28))
 else
 some false:Option Bool).bind fun b7=>
 if b7=true then
 some (([]:List qb),(none:Option (List StateT)),false,r5.2.2)
 else
 (vC N r5.1).bind fun(l11,o12,ok13,n14,n15)=>
 if(!decide (n15=0))=true then
 some (([]:List qb),(none:Option (List StateT)),false,n15)
 else
 ((match ok13 with
 |false=>
 none
 |true=>
 some ()):Option Unit).bind fun _=>
 some (l11,o12,true,0)
theorem qcx (N:Nat) (a0_:Str) {l1:List qb} {o2:Option (List StateT)} {ok3:Bool} {n4:Int} (h:xc N a0_=some (l1,o2,ok3,n4)):qg Tryz.prog (.fn 49) [.str a0_] [] (.tuple [pz ok3 0 0,.i n4]) (kA l1 o2 []):=by
 unfold xc at h
 refine Goes.fnH Tryz.func49 rfl rfl (m:=36) rfl (rs:=[.tmp 2,.tmp 3]) rfl (l:=(kBZ a0_)) rfl ?_
 intro B hB
 refine sh fol (kBZ a0_) ?_
 obtain⟨r5,e_r5,h⟩:=bnd h
 refine sq (gr fol [1] [(4,vl qa r5.1),(6,.i r5.2.2)] (ac (cv (yJ N a0_ e_r5)) az) ?_)
 refine sq ?_
 refine sq ?_
 obtain⟨b7,g_v8,h⟩:=bnd h
 refine Goes.cut (s':=(ofG 36 [(4,vl qa r5.1),(6,.i r5.2.2),(20,.bool b7)],[])) ?_ ?_
 ·rcases wyB g_v8 with⟨c6,g_v8⟩|⟨c6,g_v8⟩
  ·obtain rfl:=si g_v8
   exact tr fol [2] [(4,vl qa r5.1),(6,.i r5.2.2),(20,.bool (!decide (r5.2.2=28)))] (ac (gw c6) az)
  ·obtain rfl:=si g_v8
   exact tr fol [2] [(4,vl qa r5.1),(6,.i r5.2.2),(20,.bool false)] (ac (gw c6) az)
 refine ihB h (fun c9 h=>?_) (fun c9 h=>?_)
 ·refine sh fol [(2,.nilptr),(3,.i r5.2.2)] ?_
  refine Goes.ret ?_
  simp only[Option.some.injEq,Prod.mk.injEq]at h
  obtain⟨rfl,rfl,rfl,rfl⟩:=h
  exact(gh2 [.nilptr,.i r5.2.2] (Sub.norm [] [none,none,none] (by rw[hB];rfl) rfl (.keep (.tupleL (rc (qX.pz0) (rc (.same nI) rn))) .nil) (.fresh (.fresh (.fresh .nil)))))
 ·refine Goes.skip ?_
  obtain⟨⟨l11,o12,ok13,n14,n15⟩,e_r10,h⟩:=bnd h
  try dsimp only at h
  refine sq (gq fol [1] [(6,.i n15),(7,pz ok13 0 0)] (kA l11 o12 []) (ac (hs (.callH 80 [vl qa r5.1] [] [] (.tuple [pz ok13 0 0,.i n14,.i n15]) (kA l11 o12 [])) (kg [] [some 0,some 1,some 2] (qbH N r5.1 e_r10) .nil rfl rfl (.new rfl rfl (.cells (rc (.gslice rfl) (rc (.hs rfl) rn))) rfl (.new rfl rfl (.same fa) rfl (.new rfl rfl (.same fa) rfl .nil))) (rc (.same (qm qa _)) rn) (.tupleL (rc ((qX.pz rfl)) (rc (.same nI) (rc (.same nI) rn)))) rfl)) az) ?_)
  refine sq ?_
  refine sh fol [(6,.i n15),(7,pz ok13 0 0),(29,.bool (!decide (n15=0)))] ?_
  refine ihB h (fun c16 h=>?_) (fun c16 h=>?_)
  ·refine sh fol [(2,.nilptr),(3,.i n15)] ?_
   refine Goes.ret ?_
   simp only[Option.some.injEq,Prod.mk.injEq]at h
   obtain⟨rfl,rfl,rfl,rfl⟩:=h
   exact(gh2 [.nilptr,.i n15] (Sub.norm [] [none,none,none] (by rw[hB];rfl) rfl (.keep (.tupleL (rc (qX.pz0) (rc (.same nI) rn))) .nil) (.fresh (.fresh (.fresh .nil)))))
  ·refine Goes.skip ?_
   refine sq ?_
   obtain⟨⟨⟩,g_v17,h⟩:=bnd h
   refine Goes.cut (s':=(ofG 36 [(2,.ptr 3 0),(3,.i 0)],(kA l11 o12 [.cells [.gslice 1 l11.length 5,hsl 2 3 o12]]))) ?_ ?_
   ·rcases ok13 with _|_
    ·try dsimp only at g_v17
     cases g_v17
    ·try dsimp only at g_v17
     simp only[Option.some.injEq,Prod.mk.injEq]at g_v17
     obtain⟨⟩:=g_v17
     exact qj.rg fol [(2,.ptr 3 0),(3,.i 0)] (kA l11 o12 [.cells [.gslice 1 l11.length 5,hsl 2 3 o12]])
   refine Goes.ret ?_
   simp only[Option.some.injEq,Prod.mk.injEq]at h
   obtain⟨rfl,rfl,rfl,rfl⟩:=h
   exact(gh2 [.ptr 3 0,.i 0] (Sub.norm [] [some 3,some 1,some 2] (by rw[hB];rfl) rfl (.keep (.tupleL (rc ((qX.pz1 rfl)) (rc (.same nI) rn))) .nil) (.kb rfl (.cells (rc (.gslice rfl) (rc (.hs rfl) rn))) (.ks (.ks .nil)))))
def zY (N:Nat) (a0_:List qb) (a1_:Option (List StateT)) (a2_:Str):Option ((List qb)×(Option (List StateT))×Str×Int):=
 (yI N a2_).bind fun r5=>
 (qI (!r5.2) 25).bind fun r6=>
 (qI (decide ((a0_.length:Int)≥1000)) 5).bind fun r7=>
 (zo N ([r6,r7]:List Int)).bind fun r8=>
 if(!decide (r8=0))=true then
 some (a0_,a1_,[],r8)
 else
 (zn N a0_ a1_ (w64 ((a0_.length:Int)+1)) r5.1.Kind r5.1.Names r5.1.Values r5.1.Text).bind fun(l11,o12,n13)=>
 if(!decide (n13=0))=true then
 some (l11,o12,[],n13)
 else
 (qct (w64 ((a0_.length:Int)+1))).bind fun r15=>
 (vP ([[100,111,110,101],r15]:List Str)).bind fun r16=>
 some (l11,o12,r16,0)
theorem qb9 (N:Nat) (a0_:List qb) (a1_:Option (List StateT)) (a2_:Str) {l1:List qb} {o2:Option (List StateT)} {s3:Str} {n4:Int} (h:zY N a0_ a1_ a2_=some (l1,o2,s3,n4)):qg Tryz.prog (.fn 110) [.ptr 0 0,.str a2_] (kA a0_ a1_ []) (.tuple [.str s3,.i n4]) (kT l1 o2 (kBN (kB l1 o2 []))):=by
 unfold zY at h
 refine Goes.fnH Tryz.func110 rfl rfl (m:=52) rfl (rs:=[.tmp 4,.tmp 5]) rfl (l:=(kAK [(1,.str a2_)])) rfl ?_
 intro B hB
 refine sh fol (kAK [(1,.str a2_)]) ?_
 obtain⟨r5,e_r5,h⟩:=bnd h
 refine sq (gq fol [1] (kAK [(6,.ptr 3 0),(7,.bool r5.2)]) (kA a0_ a1_ (kW r5.1 [])) (ac (cv (qch N a2_ e_r5)) az) ?_)
 refine sq ?_
 obtain⟨r6,e_r6,h⟩:=bnd h
 obtain⟨r7,e_r7,h⟩:=bnd h
 obtain⟨r8,e_r8,h⟩:=bnd h
 refine sq (gq fol [2,10,12] (kAK [(6,.ptr 3 0),(8,.i r8)]) (kA a0_ a1_ (kW r5.1 (kAz r6 r7 []))) (ac (cv (qA (!r5.2) 25 e_r6)) (ac (cv (qA (decide ((a0_.length:Int)≥1000)) 5 e_r7)) (ac (hs (.call 86 [.slice 4 0 2 2 1] (kA a0_ a1_ (kW r5.1 (kAz r6 r7 []))) [4] [vl encI ([r6,r7]:List Int)] (.i r8)) (qak (FzL.cons (Fz.lit rfl rfl (FzL.still (AllST.cons tI (AllST.cons tI AllST.nil)))) FzL.nil) (zD N ([r6,r7]:List Int) e_r8) tI rfl)) az))) ?_)
 refine sh fol (kAK [(6,.ptr 3 0),(8,.i r8),(29,.bool (!decide (r8=0)))]) ?_
 refine ihB h (fun c9 h=>?_) (fun c9 h=>?_)
 ·refine sh fol ((4,.str [])::(kAs r8)) ?_
  refine Goes.ret ?_
  simp only[Option.some.injEq,Prod.mk.injEq]at h
  obtain⟨rfl,rfl,rfl,rfl⟩:=h
  exact(gh2 [.str [],.i r8] (Sub.norm [] [some 0,some 1,some 2,some 1,some 2] (by rw[hB];rfl) rfl (.keep (.tupleL (rc (.same nS) (rc (.same nI) rn))) .nil) (.kb rfl (.cells (rc (.gslice rfl) (rc (.hs rfl) rn))) (.lost (.lost (.ks (.ks .nil)))))))
 ·refine Goes.skip ?_
  refine sg fol (kAK [(6,.ptr 3 0)]) (kA a0_ a1_ (kAB (w64 ((a0_.length:Int)+1)) r5.1.Kind r5.1.Names r5.1.Values r5.1.Text (kAz r6 r7 []))) ?_
  refine sq ?_
  obtain⟨⟨l11,o12,n13⟩,e_r10,h⟩:=bnd h
  try dsimp only at h
  refine sq (gq fol [4] [(6,.ptr 3 0),(9,.i n13)] (.cells [.gslice 5 l11.length 5,hsl 6 3 o12]::(kBN (kAB (w64 ((a0_.length:Int)+1)) r5.1.Kind r5.1.Names r5.1.Values r5.1.Text (kAz r6 r7 (kB l11 o12 []))))) (ac (hs (.callH 128 [.ptr 0 0,.agg [.i (w64 ((a0_.length:Int)+1)),.str r5.1.Kind,vl encS r5.1.Names,vl encI r5.1.Values,.str r5.1.Text]] (kA a0_ a1_ (kAB (w64 ((a0_.length:Int)+1)) r5.1.Kind r5.1.Names r5.1.Values r5.1.Text (kAz r6 r7 []))) [0,1,2] (.i n13) (.cells [.gslice 5 l11.length 5,hsl 6 3 o12]::(kBN (kAB (w64 ((a0_.length:Int)+1)) r5.1.Kind r5.1.Names r5.1.Values r5.1.Text (kAz r6 r7 (kB l11 o12 [])))))) (kg [some 0,some 1,some 2] [some 0,none,none,none,none,some 3,some 4] (qa3 N a0_ a1_ (w64 ((a0_.length:Int)+1)) r5.1.Kind r5.1.Names r5.1.Values r5.1.Text e_r10) (.kb rfl (.cells (rc (.gslice rfl) (rc (.hs rfl) rn))) (.ks (.ks .nil))) rfl rfl (.back rfl rfl (.cells (rc (.gslice rfl) (rc (.hs rfl) rn))) rfl (.dead (.dead (.old rfl rfl (.old rfl rfl (.new rfl rfl (.same fa) rfl (.new rfl rfl (.same fa) rfl .nil))))))) (rc (.ptr rfl) (rc (.same (ql.agg sn)) rn)) (.same nI) rfl)) az) ?_)
  refine sh fol [(6,.ptr 3 0),(9,.i n13),(45,.bool (!decide (n13=0)))] ?_
  refine ihB h (fun c14 h=>?_) (fun c14 h=>?_)
  ·refine sh fol ((4,.str [])::(kAs n13)) ?_
   refine Goes.ret ?_
   simp only[Option.some.injEq,Prod.mk.injEq]at h
   obtain⟨rfl,rfl,rfl,rfl⟩:=h
   exact(gh2 [.str [],.i n13] (Sub.norm [] [some 0,some 1,some 2,some 5,some 6] (by rw[hB];rfl) rfl (.keep (.tupleL (rc (.same nS) (rc (.same nI) rn))) .nil) (.kb rfl (.cells (rc (.gslice rfl) (rc (.hs rfl) rn))) (.lost (.lost (.ks (.ks .nil)))))))
  ·refine Goes.skip ?_
   obtain⟨r15,e_r15,h⟩:=bnd h
   obtain⟨r16,e_r16,h⟩:=bnd h
   refine sq (gq fol [2,4] (kBD r16) (.cells [.gslice 5 l11.length 5,hsl 6 3 o12]::(kBN (kAB (w64 ((a0_.length:Int)+1)) r5.1.Kind r5.1.Names r5.1.Values r5.1.Text (kAz r6 r7 (kB l11 o12 [.cells [.str [100,111,110,101],.str r15]]))))) (ac (cv (qfx (w64 ((a0_.length:Int)+1)) e_r15)) (ac (hs (.call 159 [.slice 7 0 2 2 1] (.cells [.gslice 5 l11.length 5,hsl 6 3 o12]::(kBN (kAB (w64 ((a0_.length:Int)+1)) r5.1.Kind r5.1.Names r5.1.Values r5.1.Text (kAz r6 r7 (kB l11 o12 [.cells [.str [100,111,110,101],.str r15]]))))) [7] [vl encS ([[100,111,110,101],r15]:List Str)] (.str r16)) (qak (FzL.cons (Fz.lit rfl rfl (FzL.still (AllST.cons tS (AllST.cons tS AllST.nil)))) FzL.nil) (qaa ([[100,111,110,101],r15]:List Str) e_r16) tS rfl)) az)) ?_)
   refine Goes.ret ?_
   simp only[Option.some.injEq,Prod.mk.injEq]at h
   obtain⟨rfl,rfl,rfl,rfl⟩:=h
   exact(gh2 [.str r16,.i 0] (Sub.norm [] [some 0,some 1,some 2,some 5,some 6] (by rw[hB];rfl) rfl (.keep (.tupleL (rc (.same nS) (rc (.same nI) rn))) .nil) (.kb rfl (.cells (rc (.gslice rfl) (rc (.hs rfl) rn))) (.lost (.lost (.ks (.ks .nil)))))))
def vS (N:Nat) (a0_:List qb) (a1_:Option (List StateT)) (a2_:List Str):Option ((Option (List StateT))×Str×Int):=
 (qy a0_ a1_).bind fun(o5,n6,l7)=>
 (idx a2_ 0).bind fun x8=>
 (jh N (⟨n6,l7⟩:jO) x8).bind fun r9=>
 if(!r9.2)=true then
 some (o5,[],10)
 else
 (idx l7 r9.1).bind fun x11=>
 ((zX N ([x11.Born,x11.Last,x11.Uses,x11.Used,x11.Limit,x11.Until]:List Int)).bind fun r12=>
 (match r12 with
 |[]=>
 none
 |x13::xs14=>
 (app 16 ([x11.Batch]:List Str) (x13::xs14)).bind fun l15=>
 some l15):Option (List Str)).bind fun l16=>
 ((if x11.Gone=true then
 some [103,111,110,101]
 else
 some [107,101,112,116]:Option Str)).bind fun s18=>
 (app 16 l16 [s18]).bind fun l21=>
 (vP l21).bind fun r22=>
 some (o5,r22,0)
theorem qcc (N:Nat) (a0_:List qb) (a1_:Option (List StateT)) (a2_:List Str) {o1:Option (List StateT)} {s2:Str} {n3:Int} (h:vS N a0_ a1_ a2_=some (o1,s2,n3)):qg Tryz.prog (.fn 161) [.ptr 0 0,vl encS a2_] (kA a0_ a1_ []) (.tuple [.str s2,.i n3]) (kA a0_ o1 []):=by
 unfold vS at h
 refine Goes.fnH Tryz.func161 rfl rfl (m:=56) rfl (rs:=[.tmp 4,.tmp 5]) rfl (l:=(kAK [(1,vl encS a2_)])) rfl ?_
 intro B hB
 refine sh fol (kAK [(1,vl encS a2_)]) ?_
 obtain⟨⟨o5,n6,l7⟩,e_r4,h⟩:=bnd h
 try dsimp only at h
 refine sq (gq fol [3] [(1,vl encS a2_),(6,.ptr 3 0)] (kA a0_ o5 (kG n6 l7 [])) (ac (hs (.callH 81 [.ptr 0 0] (kA a0_ a1_ []) [0,1,2] (.agg (kAr n6 l7)) (kA a0_ o5 [])) (kg [some 0,some 1,some 2] [some 0,some 1,some 2] (zR a0_ a1_ e_r4) (.kb rfl (.cells (rc (.gslice rfl) (rc (.hs rfl) rn))) (.ks (.ks .nil))) rfl rfl (.back rfl rfl (.cells (rc (.gslice rfl) (rc (.hs rfl) rn))) rfl (.back rfl rfl (.same fa) rfl (.back rfl rfl (.same fa) rfl .nil))) (rc (.ptr rfl) rn) (.same (ql.agg sn)) rfl)) az) ?_)
 obtain⟨x8,e_x8,h⟩:=bnd h
 obtain⟨r9,e_r9,h⟩:=bnd h
 refine sq (gr fol [2,3,4] ((6,.ptr 3 0)::(kBH r9.1 r9.2 [])) (ac (iv jE encS e_x8) (ac (lv 0 ce9 encS e_x8 rfl) (ac (cv (y9 N (⟨n6,l7⟩:jO) x8 e_r9)) az))) ?_)
 refine sq ?_
 refine sh fol [(6,.ptr 3 0),(7,.i r9.1),(25,.bool (!r9.2))] ?_
 refine ihB h (fun c10 h=>?_) (fun c10 h=>?_)
 ·refine sh fol [(4,.str []),(5,.i 10)] ?_
  refine Goes.ret ?_
  simp only[Option.some.injEq,Prod.mk.injEq]at h
  obtain⟨rfl,rfl,rfl⟩:=h
  exact(gh2 [.str [],.i 10] (Sub.norm [] [some 0,some 1,some 2] (by rw[hB];rfl) rfl (.keep (.tupleL (rc (.same nS) (rc (.same nI) rn))) .nil) (.kb rfl (.cells (rc (.gslice rfl) (rc (.hs rfl) rn))) (.ks (.ks .nil)))))
 ·refine Goes.skip ?_
  obtain⟨x11,e_x11,h⟩:=bnd h
  refine sq (gq fol [3,4] [(9,.ptr 4 0)] (kA a0_ o5 (kG n6 l7 (kBL x11))) (ac (iv qcj qd e_x11) (ac (la qkU qd e_x11) az)) ?_)
  refine sq ?_
  obtain⟨l16,g_v17,h⟩:=bnd h
  refine Goes.cutS (s':=(ofG 56 [(9,.ptr 3 0),(10,.oslice 4 l16.length 1)],(kA a0_ o5 (.cells (cS x11)::(kL l16))))) ?_ ?_
  ·obtain⟨r12,e_r12,g_v17⟩:=bnd g_v17
   rcases r12 with _|⟨x13,xs14⟩
   ·try dsimp only at g_v17
    cases g_v17
   ·try dsimp only at g_v17
    obtain⟨l15,e_l15,g_v17⟩:=bnd g_v17
    obtain rfl:=si g_v17
    exact qj.sub (qj.rq fol [16,17] [(9,.ptr 4 0),(10,.oslice 7 l15.length 1)] (kA a0_ o5 (kG n6 l7 (.cells (cS x11)::(kAc x11.Batch (.frozen [.i x11.Born,.i x11.Last,.i x11.Uses,.i x11.Used,.i x11.Limit,.i x11.Until]::(kL l15)))))) (ac (hs (.callF 185 [.slice 6 0 6 6 1,.func (.func 186) [] [],.func (.func 160) [] []] (kA a0_ o5 (kG n6 l7 (.cells (cS x11)::(kAc x11.Batch [.cells [.i x11.Born,.i x11.Last,.i x11.Uses,.i x11.Used,.i x11.Limit,.i x11.Until]])))) [6] [vl encI ([x11.Born,x11.Last,x11.Uses,x11.Used,x11.Limit,x11.Until]:List Int),.func (.func 186) [] [],.func (.func 160) [] []] (vl encS (x13::xs14))) (qhO (FzL.cons (Fz.lit rfl rfl (FzL.still (AllST.cons tI (AllST.cons tI (AllST.cons tI (AllST.cons tI (AllST.cons tI (AllST.cons tI AllST.nil)))))))) (FzL.cons (Fz.func FzL.nil FzL.nil) (FzL.cons (Fz.func FzL.nil FzL.nil) FzL.nil))) (qac N ([x11.Born,x11.Last,x11.Uses,x11.Used,x11.Limit,x11.Until]:List Int) e_r12) (ko encS _ (nl rfl)))) (ac (hs (.run [5] (qP Tryz.prog [23,23] (.slice 5 0 1 1 1) (vl encS (x13::xs14))) (kA a0_ o5 (kG n6 l7 (.cells (cS x11)::(kAc x11.Batch [.frozen [.i x11.Born,.i x11.Last,.i x11.Uses,.i x11.Used,.i x11.Limit,.i x11.Until]])))) (.oslice 7 l15.length 1) (kA a0_ o5 (kG n6 l7 (.cells (cS x11)::(kAc x11.Batch (.frozen [.i x11.Born,.i x11.Last,.i x11.Uses,.i x11.Used,.i x11.Limit,.i x11.Until]::(kL l15)))))) false) (qo1 jE (E:=encS) (l:=([x11.Batch]:List Str)) rfl rfl rfl rfl (Nat.succ_pos _) e_l15 rfl)) az))) (Sub.norm [] [some 0,some 1,some 2,some 4,some 7] (by rw[hB];rfl) rfl (.kp (.keep (.oslice rfl) .nil)) (.kb rfl (.cells (rc (.gslice rfl) (rc (.hs rfl) rn))) (.ks (.ks (.kb rfl (.same sn) (.ks .nil))))))
  intro _ hsub
  refine Goes.sub hsub ?_
  refine sh fol [(9,.ptr 3 0),(10,.oslice 4 l16.length 1),(11,.str [107,101,112,116])] ?_
  refine sq ?_
  refine sh fol [(10,.oslice 4 l16.length 1),(11,.str [107,101,112,116]),(50,.bool x11.Gone)] ?_
  obtain⟨r19,g19,h⟩:=bnd h
  refine Goes.imp (Q:=fun x s'=>(x= .normal∧ ∃s18,s18=r19∧Sub s' (ofG 56 [(10,.oslice 3 l16.length 1),(11,.str s18)],(kA a0_ o5 (kL l16))))) ?_ ?_
  ·refine ihB g19 (fun c20 g19=>?_) (fun c20 g19=>?_)
   ·refine gh fol [(10,.oslice 4 l16.length 1),(11,.str [103,111,110,101])] ?_
    obtain rfl:=si g19
    exact⟨rfl,_,rfl,(Sub.norm [] [some 0,some 1,some 2,some 4] (by rw[hB];rfl) rfl (.keep (.oslice rfl) (.keep (.same nS) .nil)) (.kb rfl (.cells (rc (.gslice rfl) (rc (.hs rfl) rn))) (.ks (.ks (.ks .nil)))))⟩
   ·refine Goes.skip ?_
    obtain rfl:=si g19
    exact⟨rfl,_,rfl,(Sub.norm [] [some 0,some 1,some 2,some 4] (by rw[hB];rfl) rfl (.keep (.oslice rfl) (.keep (.same nS) .nil)) (.kb rfl (.cells (rc (.gslice rfl) (rc (.hs rfl) rn))) (.ks (.ks (.ks .nil)))))⟩
  rintro x s' ⟨rfl,s18,rfl,hsub⟩
  refine Goes.sub hsub ?_
  obtain⟨l21,e_l21,h⟩:=bnd h
  obtain⟨r22,e_r22,h⟩:=bnd h
  refine sq (gq fol [3,4] (kBD r22) (kA a0_ o5 (.dead::(kAc s18 (kL l21)))) (ac (hs (.run [3,4] (qP Tryz.prog [23,23] (.oslice 3 l16.length 1) (.slice 4 0 1 1 1)) (kA a0_ o5 (kBo l16 (kAc s18 []))) (.oslice 5 l21.length 1) (kA a0_ o5 (.dead::(kAc s18 (kL l21)))) true) (jH jE (E:=encS) rfl (qa8 (E:=encS) (ys:=[s18]) rfl rfl rfl rfl) (qgh (E:=encS) (l:=l16) rfl rfl rfl e_l21 rfl))) (ac (hs (.call 159 [.oslice 5 l21.length 1] (kA a0_ o5 (.dead::(kAc s18 (kL l21)))) [5] [vl encS l21] (.str r22)) (qak (FzL.cons (Fz.os (E:=encS) rfl rfl (nl rfl)) FzL.nil) (qaa l21 e_r22) tS rfl)) az)) ?_)
  refine Goes.ret ?_
  simp only[Option.some.injEq,Prod.mk.injEq]at h
  obtain⟨rfl,rfl,rfl⟩:=h
  exact(gh2 [.str r22,.i 0] (Sub.norm [] [some 0,some 1,some 2] (by rw[hB];rfl) rfl (.keep (.tupleL (rc (.same nS) (rc (.same nI) rn))) .nil) (.kb rfl (.cells (rc (.gslice rfl) (rc (.hs rfl) rn))) (.ks (.ks .nil)))))
def qG (a0_:List qc):Nat→(List Str)→Int→Option (List Str)
 |0,_,_=>none
 |K+1,l1,n2=>
  if n2<(a0_.length:Int)then
  (((idx a0_ n2).bind fun x8=>
  (vI x8).bind fun r9=>
  if r9=true then
  (yK x8).bind fun r11=>
  (app 16 l1 [r11]).bind fun l12=>
  some l12
  else
  some l1:Option (List Str))).bind fun l6=>
  qG a0_ K l6 (w64 (n2+1))
  else
  some l1
def jL (N:Nat) (a0_:List qc):Option (List Str):=
 (qG a0_ N ([]:List Str) 0).bind fun l3=>
 some l3
theorem qb3 (N:Nat) (a0_:List qc) {res:List Str} (h:jL N a0_=some res):qg Tryz.prog (.fn 97) [vl qd a0_,.func (.func 196) [] [],.func (.func 100) [] []] [] (vl encS res) []:=by
 unfold jL at h
 refine Goes.fnW Tryz.func97 rfl rfl (m:=27) rfl (rs:=[.tmp 6]) rfl (l:=(kBT a0_ [(1,.func (.func 196) [] []),(2,.func (.func 100) [] [])])) rfl ?_
 refine sh fol (kBT a0_ [(1,.func (.func 196) [] []),(2,.func (.func 100) [] [])]) ?_
 refine sh fol (kBT a0_ [(1,.func (.func 196) [] []),(2,.func (.func 100) [] []),(7,.nilslice)]) ?_
 refine sq ?_
 refine sh fol ((1,.func (.func 196) [] [])::(2,.func (.func 100) [] [])::(7,.nilslice)::(kAx a0_ (kA5 (a0_.length:Int)))) ?_
 refine Goes.block ?_
 obtain⟨r4,g4,h⟩:=bnd h
 refine Goes.imp (Q:=fun x s'=>(x= .exit 0∧ ∃l3,l3=r4∧Sub s' (ofG 27 (kAN l3 []),(kL l3)))) ?_ ?_
 ·refine Goes.sub (s':=(ofG 27 ((1,.func (.func 196) [] [])::(2,.func (.func 100) [] [])::(7,.gslice 0 ([]:List Str).length 1)::(kAx a0_ (kA5 (a0_.length:Int)))),kBc)) (Sub.norm [] [none] rfl rfl (.keep (.same (ql.func sn sn)) (.keep (.same (ql.func sn sn)) (.keep .nil (.keep (.same (qm qd _)) (.keep (.same nI) (.keep (.same nI) .nil)))))) (.fresh .nil)) ?_
  refine Goes.loopS (fun M s=> ∃(l1:List Str) (n2:Int),s=(ofG 27 ((1,.func (.func 196) [] [])::(2,.func (.func 100) [] [])::(kAN l1 (kAx a0_ (kV (a0_.length:Int) n2)))),(kL l1))∧qG a0_ M l1 n2=some r4) ?_ (m:=N) ⟨_,_,rfl,g4⟩
  rintro M s ⟨l1,n2,rfl,g4⟩
  cases M with
  |zero=>simp only[qG]at g4;cases g4
  |succ M=>
   rw[qG]at g4
   refine sh fol ((1,.func (.func 196) [] [])::(2,.func (.func 100) [] [])::(kAN l1 (kAx a0_ (kBd (a0_.length:Int) n2 (kB4 (decide (n2<(a0_.length:Int)))))))) ?_
   refine sq ?_
   refine ihD g4 (fun c5 g4=>?_) (fun c5 g4=>?_)
   ·refine Goes.skip ?_
    refine sq ?_
    obtain⟨r7,g7,g4⟩:=bnd g4
    refine Goes.imp (Q:=fun x s'=>(x= .normal∧ ∃l6,l6=r7∧Sub s' (ofG 27 ((1,.func (.func 196) [] [])::(2,.func (.func 100) [] [])::(kAN l6 (kAx a0_ (kV (a0_.length:Int) n2)))),(kL l6)))) ?_ ?_
    ·refine Goes.block ?_
     obtain⟨x8,e_x8,g7⟩:=bnd g7
     refine sq (gq fol [0,1] ((1,.func (.func 196) [] [])::(2,.func (.func 100) [] [])::(kAN l1 ((9,.ptr 1 0)::(kAx a0_ (kV (a0_.length:Int) n2))))) (kBo l1 (kBL x8)) (ac (iv qcj qd e_x8) (ac (la qkU qd e_x8) az)) ?_)
     obtain⟨r9,e_r9,g7⟩:=bnd g7
     refine sq (gr fol [2] ((1,.func (.func 196) [] [])::(2,.func (.func 100) [] [])::(kAN l1 ((9,.ptr 1 0)::(kAx a0_ (kBd (a0_.length:Int) n2 [(18,.bool r9)]))))) (ac (cv (qbQ x8 e_r9)) az) ?_)
     refine ihB g7 (fun c10 g7=>?_) (fun c10 g7=>?_)
     ·obtain⟨r11,e_r11,g7⟩:=bnd g7
      obtain⟨l12,e_l12,g7⟩:=bnd g7
      refine gq fol [3,5] ((1,.func (.func 196) [] [])::(2,.func (.func 100) [] [])::(7,.gslice 3 l12.length 1)::(kAx a0_ (kV (a0_.length:Int) n2))) (.dead:: .cells (cS x8)::(kAc r11 (kL l12))) (ac (cv (qbv x8 e_r11)) (ac (hs (.run [0,2] (qP Tryz.prog [23,23] (.gslice 0 l1.length 1) (.slice 2 0 1 1 1)) (kBo l1 (.cells (cS x8)::(kAc r11 []))) (.gslice 3 l12.length 1) (.dead:: .cells (cS x8)::(kAc r11 (kL l12))) true) (jH jE (E:=encS) rfl (qa8 (E:=encS) (ys:=[r11]) rfl rfl rfl rfl) (qeO (E:=encS) (l:=l1) rfl rfl rfl e_l12 rfl))) az)) ?_
      obtain rfl:=si g7
      exact⟨rfl,_,rfl,(Sub.norm [] [some 3] rfl rfl (.keep (.same (ql.func sn sn)) (.keep (.same (ql.func sn sn)) (.keep (.gslice rfl) (.keep (.same (qm qd _)) (.keep (.same nI) (.keep (.same nI) .nil)))))) (.ks .nil))⟩
     ·refine Goes.skip ?_
      obtain rfl:=si g7
      exact⟨rfl,_,rfl,(Sub.norm [] [some 0] rfl rfl (.keep (.same (ql.func sn sn)) (.keep (.same (ql.func sn sn)) (.keep (.gslice rfl) (.drop (.keep (.same (qm qd _)) (.keep (.same nI) (.keep (.same nI) .nil))))))) (.ks .nil))⟩
    rintro x s' ⟨rfl,l6,rfl,hsub⟩
    refine Goes.sub hsub ?_
    refine gh fol ((1,.func (.func 196) [] [])::(2,.func (.func 100) [] [])::(kAN l6 (kAx a0_ (kV (a0_.length:Int) (w64 (n2+1)))))) ?_
    exact⟨M,(ofG 27 ((1,.func (.func 196) [] [])::(2,.func (.func 100) [] [])::(kAN l6 (kAx a0_ (kV (a0_.length:Int) (w64 (n2+1)))))),(kL l6)),Nat.lt_succ_self _,(Sub.refl _),_,_,rfl,g4⟩
   ·refine Goes.exit ?_
    obtain rfl:=si g4
    exact⟨rfl,_,rfl,(Sub.keep [7] rfl rfl)⟩
 rintro x s' ⟨rfl,l3,rfl,hsub⟩
 refine Goes.sub hsub ?_
 refine sh fol [(6,.gslice 0 l3.length 1)] ?_
 refine Goes.ret ?_
 obtain rfl:=si h
 exact(gw2 [.gslice 0 l3.length 1] (FzW.fz (Fz.gs (E:=encS) rfl rfl (nl rfl))))
def zI (N:Nat) (a0_:List qb) (a1_:Option (List StateT)) (a2_:List Str):Option ((Option (List StateT))×Str):=
 (qy a0_ a1_).bind fun(o4,n5,l6)=>
 (jL N l6).bind fun r7=>
 (vP r7).bind fun r8=>
 some (o4,r8)
theorem qbP (N:Nat) (a0_:List qb) (a1_:Option (List StateT)) (a2_:List Str) {o1:Option (List StateT)} {s2:Str} (h:zI N a0_ a1_ a2_=some (o1,s2)):qg Tryz.prog (.fn 162) [.ptr 0 0,vl encS a2_] (kA a0_ a1_ []) (.tuple [.str s2,.i 0]) (kA a0_ o1 []):=by
 unfold zI at h
 refine Goes.fnH Tryz.func162 rfl rfl (m:=13) rfl (rs:=[.tmp 4,.tmp 5]) rfl (l:=(kAK [(1,vl encS a2_)])) rfl ?_
 intro B hB
 refine sh fol (kAK []) ?_
 obtain⟨⟨o4,n5,l6⟩,e_r3,h⟩:=bnd h
 try dsimp only at h
 obtain⟨r7,e_r7,h⟩:=bnd h
 obtain⟨r8,e_r8,h⟩:=bnd h
 refine sq (gq fol [3,5,6] (kBD r8) (kA a0_ o4 []) (ac (hs (.callH 81 [.ptr 0 0] (kA a0_ a1_ []) [0,1,2] (.agg (kAr n5 l6)) (kA a0_ o4 [])) (kg [some 0,some 1,some 2] [some 0,some 1,some 2] (zR a0_ a1_ e_r3) (.kb rfl (.cells (rc (.gslice rfl) (rc (.hs rfl) rn))) (.ks (.ks .nil))) rfl rfl (.back rfl rfl (.cells (rc (.gslice rfl) (rc (.hs rfl) rn))) rfl (.back rfl rfl (.same fa) rfl (.back rfl rfl (.same fa) rfl .nil))) (rc (.ptr rfl) rn) (.same (ql.agg sn)) rfl)) (ac (hs (.call 97 [vl qd l6,.func (.func 196) [] [],.func (.func 100) [] []] [] [] [vl qd l6,.func (.func 196) [] [],.func (.func 100) [] []] (vl encS r7)) (qi2 (FzL.cons (Fz.still (ko qd _ (nl rfl))) (FzL.cons (Fz.func FzL.nil FzL.nil) (FzL.cons (Fz.func FzL.nil FzL.nil) FzL.nil))) (qb3 N l6 e_r7) (ko encS _ (nl rfl)))) (ac (cv (qaa r7 e_r8)) az))) ?_)
 refine Goes.ret ?_
 simp only[Option.some.injEq,Prod.mk.injEq]at h
 obtain⟨rfl,rfl⟩:=h
 exact(gh2 [.str r8,.i 0] (qcm.refl _ _))
def yP (a0_:qc) (a1_:Int):Option Bool:=
 (qbb a0_ a1_).bind fun r1=>
 some r1
theorem qbO (a0_:qc) (a1_:Int) {res:Bool} (h:yP a0_ a1_=some res):qg Tryz.prog (.fn 197) [.agg (cS a0_),.fptr [.i a1_] 0] [] (.bool res) []:=by
 unfold yP at h
 refine Goes.fnW Tryz.func197 rfl rfl (m:=7) rfl (rs:=[.tmp 3]) rfl (l:=[(0,.agg (cS a0_)),(1,.fptr [.i a1_] 0)]) rfl ?_
 refine sg fol ((1,.fptr [.i a1_] 0)::(kU [])) (kBL a0_) ?_
 obtain⟨r1,e_r1,h⟩:=bnd h
 refine sq (gr fol [2] [(3,.bool r1)] (ac (cv (qew a0_ a1_ e_r1)) az) ?_)
 refine Goes.ret ?_
 obtain rfl:=si h
 exact(gw2 [.bool r1] (FzW.still tB))
def z8 (a0_:List qc) (a1_:Int):Nat→(List Str)→Int→Option (List Str)
 |0,_,_=>none
 |K+1,l1,n2=>
  if n2<(a0_.length:Int)then
  (((idx a0_ n2).bind fun x8=>
  (yP x8 a1_).bind fun r9=>
  if r9=true then
  (yK x8).bind fun r11=>
  (app 16 l1 [r11]).bind fun l12=>
  some l12
  else
  some l1:Option (List Str))).bind fun l6=>
  z8 a0_ a1_ K l6 (w64 (n2+1))
  else
  some l1
def xe (N:Nat) (a0_:List qc) (a1_:Int):Option (List Str):=
 (z8 a0_ a1_ N ([]:List Str) 0).bind fun l3=>
 some l3
theorem qcf (N:Nat) (a0_:List qc) (a1_:Int) {res:List Str} (h:xe N a0_ a1_=some res):qg Tryz.prog (.fn 97) [vl qd a0_,.func (.func 197) [] [.fptr [.i a1_] 0],.func (.func 100) [] []] [] (vl encS res) []:=by
 unfold xe at h
 refine Goes.fnW Tryz.func97 rfl rfl (m:=27) rfl (rs:=[.tmp 6]) rfl (l:=(kBT a0_ [(1,.func (.func 197) [] [.fptr [.i a1_] 0]),(2,.func (.func 100) [] [])])) rfl ?_
 refine sh fol (kBT a0_ [(1,.func (.func 197) [] [.fptr [.i a1_] 0]),(2,.func (.func 100) [] [])]) ?_
 refine sh fol (kBT a0_ [(1,.func (.func 197) [] [.fptr [.i a1_] 0]),(2,.func (.func 100) [] []),(7,.nilslice)]) ?_
 refine sq ?_
 refine sh fol ((1,.func (.func 197) [] [.fptr [.i a1_] 0])::(2,.func (.func 100) [] [])::(7,.nilslice)::(kAx a0_ (kA5 (a0_.length:Int)))) ?_
 refine Goes.block ?_
 obtain⟨r4,g4,h⟩:=bnd h
 refine Goes.imp (Q:=fun x s'=>(x= .exit 0∧ ∃l3,l3=r4∧Sub s' (ofG 27 (kAN l3 []),(kL l3)))) ?_ ?_
 ·refine Goes.sub (s':=(ofG 27 ((1,.func (.func 197) [] [.fptr [.i a1_] 0])::(2,.func (.func 100) [] [])::(7,.gslice 0 ([]:List Str).length 1)::(kAx a0_ (kA5 (a0_.length:Int)))),kBc)) (Sub.norm [] [none] rfl rfl (.keep (.same (ql.func sn sn)) (.keep (.same (ql.func sn sn)) (.keep .nil (.keep (.same (qm qd _)) (.keep (.same nI) (.keep (.same nI) .nil)))))) (.fresh .nil)) ?_
  refine Goes.loopS (fun M s=> ∃(l1:List Str) (n2:Int),s=(ofG 27 ((1,.func (.func 197) [] [.fptr [.i a1_] 0])::(2,.func (.func 100) [] [])::(kAN l1 (kAx a0_ (kV (a0_.length:Int) n2)))),(kL l1))∧z8 a0_ a1_ M l1 n2=some r4) ?_ (m:=N) ⟨_,_,rfl,g4⟩
  rintro M s ⟨l1,n2,rfl,g4⟩
  cases M with
  |zero=>simp only[z8]at g4;cases g4
  |succ M=>
   rw[z8]at g4
   refine sh fol ((1,.func (.func 197) [] [.fptr [.i a1_] 0])::(2,.func (.func 100) [] [])::(kAN l1 (kAx a0_ (kBd (a0_.length:Int) n2 (kB4 (decide (n2<(a0_.length:Int)))))))) ?_
   refine sq ?_
   refine ihD g4 (fun c5 g4=>?_) (fun c5 g4=>?_)
   ·refine Goes.skip ?_
    refine sq ?_
    obtain⟨r7,g7,g4⟩:=bnd g4
    refine Goes.imp (Q:=fun x s'=>(x= .normal∧ ∃l6,l6=r7∧Sub s' (ofG 27 ((1,.func (.func 197) [] [.fptr [.i a1_] 0])::(2,.func (.func 100) [] [])::(kAN l6 (kAx a0_ (kV (a0_.length:Int) n2)))),(kL l6)))) ?_ ?_
    ·refine Goes.block ?_
     obtain⟨x8,e_x8,g7⟩:=bnd g7
     refine sq (gq fol [0,1] ((1,.func (.func 197) [] [.fptr [.i a1_] 0])::(2,.func (.func 100) [] [])::(kAN l1 ((9,.ptr 1 0)::(kAx a0_ (kV (a0_.length:Int) n2))))) (kBo l1 (kBL x8)) (ac (iv qcj qd e_x8) (ac (la qkU qd e_x8) az)) ?_)
     obtain⟨r9,e_r9,g7⟩:=bnd g7
     refine sq (gr fol [2] ((1,.func (.func 197) [] [.fptr [.i a1_] 0])::(2,.func (.func 100) [] [])::(kAN l1 ((9,.ptr 1 0)::(kAx a0_ (kBd (a0_.length:Int) n2 [(18,.bool r9)]))))) (ac (hs (.call 197 [.agg (cS x8),.fptr [.i a1_] 0] [] [] [.agg (cS x8),.fptr [.i a1_] 0] (.bool r9)) (qi2 (FzL.cons (Fz.still (Still.agg (AllST.cons tS (AllST.cons tS (AllST.cons tI (AllST.cons tI (AllST.cons tI (AllST.cons tI (AllST.cons tI (AllST.cons tI (AllST.cons tB AllST.nil))))))))))) (FzL.cons (Fz.still (Still.fptr (AllST.cons tI AllST.nil))) FzL.nil)) (qbO x8 a1_ e_r9) tB)) az) ?_)
     refine ihB g7 (fun c10 g7=>?_) (fun c10 g7=>?_)
     ·obtain⟨r11,e_r11,g7⟩:=bnd g7
      obtain⟨l12,e_l12,g7⟩:=bnd g7
      refine gq fol [3,5] ((1,.func (.func 197) [] [.fptr [.i a1_] 0])::(2,.func (.func 100) [] [])::(7,.gslice 3 l12.length 1)::(kAx a0_ (kV (a0_.length:Int) n2))) (.dead:: .cells (cS x8)::(kAc r11 (kL l12))) (ac (cv (qbv x8 e_r11)) (ac (hs (.run [0,2] (qP Tryz.prog [23,23] (.gslice 0 l1.length 1) (.slice 2 0 1 1 1)) (kBo l1 (.cells (cS x8)::(kAc r11 []))) (.gslice 3 l12.length 1) (.dead:: .cells (cS x8)::(kAc r11 (kL l12))) true) (jH jE (E:=encS) rfl (qa8 (E:=encS) (ys:=[r11]) rfl rfl rfl rfl) (qeO (E:=encS) (l:=l1) rfl rfl rfl e_l12 rfl))) az)) ?_
      obtain rfl:=si g7
      exact⟨rfl,_,rfl,(Sub.norm [] [some 3] rfl rfl (.keep (.same (ql.func sn sn)) (.keep (.same (ql.func sn sn)) (.keep (.gslice rfl) (.keep (.same (qm qd _)) (.keep (.same nI) (.keep (.same nI) .nil)))))) (.ks .nil))⟩
     ·refine Goes.skip ?_
      obtain rfl:=si g7
      exact⟨rfl,_,rfl,(Sub.norm [] [some 0] rfl rfl (.keep (.same (ql.func sn sn)) (.keep (.same (ql.func sn sn)) (.keep (.gslice rfl) (.drop (.keep (.same (qm qd _)) (.keep (.same nI) (.keep (.same nI) .nil))))))) (.ks .nil))⟩
    rintro x s' ⟨rfl,l6,rfl,hsub⟩
    refine Goes.sub hsub ?_
    refine gh fol ((1,.func (.func 197) [] [.fptr [.i a1_] 0])::(2,.func (.func 100) [] [])::(kAN l6 (kAx a0_ (kV (a0_.length:Int) (w64 (n2+1)))))) ?_
    exact⟨M,(ofG 27 ((1,.func (.func 197) [] [.fptr [.i a1_] 0])::(2,.func (.func 100) [] [])::(kAN l6 (kAx a0_ (kV (a0_.length:Int) (w64 (n2+1)))))),(kL l6)),Nat.lt_succ_self _,(Sub.refl _),_,_,rfl,g4⟩
   ·refine Goes.exit ?_
    obtain rfl:=si g4
    exact⟨rfl,_,rfl,(Sub.keep [7] rfl rfl)⟩
 rintro x s' ⟨rfl,l3,rfl,hsub⟩
 refine Goes.sub hsub ?_
 refine sh fol [(6,.gslice 0 l3.length 1)] ?_
 refine Goes.ret ?_
 obtain rfl:=si h
 exact(gw2 [.gslice 0 l3.length 1] (FzW.fz (Fz.gs (E:=encS) rfl rfl (nl rfl))))
def yE (N:Nat) (a0_:List qb) (a1_:Option (List StateT)) (a2_:List Str):Option ((Option (List StateT))×Str×Int):=
 (idx a2_ 0).bind fun x4=>
 (yB x4).bind fun r5=>
 (qI (!r5.2) 25).bind fun r6=>
 (yc r5.1).bind fun r7=>
 (zo N ([r6,r7]:List Int)).bind fun r8=>
 if(!decide (r8=0))=true then
 some (a1_,[],r8)
 else
 (qy a0_ a1_).bind fun(o11,n12,l13)=>
 (xe N l13 r5.1).bind fun r14=>
 (vP r14).bind fun r15=>
 some (o11,r15,0)
theorem qcF (N:Nat) (a0_:List qb) (a1_:Option (List StateT)) (a2_:List Str) {o1:Option (List StateT)} {s2:Str} {n3:Int} (h:yE N a0_ a1_ a2_=some (o1,s2,n3)):qg Tryz.prog (.fn 163) [.ptr 0 0,vl encS a2_] (kA a0_ a1_ []) (.tuple [.str s2,.i n3]) (kA a0_ o1 []):=by
 unfold yE at h
 refine Goes.fnH Tryz.func163 rfl rfl (m:=34) rfl (rs:=[.tmp 4,.tmp 5]) rfl (l:=(kAK [(1,vl encS a2_)])) rfl ?_
 intro B hB
 refine sh fol (kAK [(1,vl encS a2_)]) ?_
 obtain⟨x4,e_x4,h⟩:=bnd h
 obtain⟨r5,e_r5,h⟩:=bnd h
 refine sq (gq fol [1,2,3] (kAK [(6,.ptr 3 0),(7,.bool r5.2)]) (kA a0_ a1_ (kAH r5.1 [])) (ac (iv jE encS e_x4) (ac (lv 0 ce9 encS e_x4 rfl) (ac (cv (qaX x4 e_r5)) az))) ?_)
 refine sq ?_
 obtain⟨r6,e_r6,h⟩:=bnd h
 obtain⟨r7,e_r7,h⟩:=bnd h
 obtain⟨r8,e_r8,h⟩:=bnd h
 refine sq (gq fol [2,4,6] (kAK [(6,.ptr 3 0),(8,.i r8)]) (kA a0_ a1_ (kAH r5.1 (kAz r6 r7 []))) (ac (cv (qA (!r5.2) 25 e_r6)) (ac (cv (qaH r5.1 e_r7)) (ac (hs (.call 86 [.slice 4 0 2 2 1] (kA a0_ a1_ (kAH r5.1 (kAz r6 r7 []))) [4] [vl encI ([r6,r7]:List Int)] (.i r8)) (qak (FzL.cons (Fz.lit rfl rfl (FzL.still (AllST.cons tI (AllST.cons tI AllST.nil)))) FzL.nil) (zD N ([r6,r7]:List Int) e_r8) tI rfl)) az))) ?_)
 refine sh fol (kAK [(6,.ptr 3 0),(8,.i r8),(24,.bool (!decide (r8=0)))]) ?_
 refine ihB h (fun c9 h=>?_) (fun c9 h=>?_)
 ·refine sh fol ((4,.str [])::(kAs r8)) ?_
  refine Goes.ret ?_
  simp only[Option.some.injEq,Prod.mk.injEq]at h
  obtain⟨rfl,rfl,rfl⟩:=h
  exact(gh2 [.str [],.i r8] (Sub.norm [] [some 0,some 1,some 2] (by rw[hB];rfl) rfl (.keep (.tupleL (rc (.same nS) (rc (.same nI) rn))) .nil) (.kb rfl (.cells (rc (.gslice rfl) (rc (.hs rfl) rn))) (.ks (.ks .nil)))))
 ·refine Goes.skip ?_
  obtain⟨⟨o11,n12,l13⟩,e_r10,h⟩:=bnd h
  try dsimp only at h
  obtain⟨r14,e_r14,h⟩:=bnd h
  obtain⟨r15,e_r15,h⟩:=bnd h
  refine sq (gq fol [3,6,7] (kBD r15) (kA a0_ o11 (.frozen [.i r5.1]::(kAz r6 r7 []))) (ac (hs (.callH 81 [.ptr 0 0] (kA a0_ a1_ (kAH r5.1 (kAz r6 r7 []))) [0,1,2] (.agg (kAr n12 l13)) (kA a0_ o11 (kAH r5.1 (kAz r6 r7 [])))) (kg [some 0,some 1,some 2] [some 0,some 1,some 2,none,none] (zR a0_ a1_ e_r10) (.kb rfl (.cells (rc (.gslice rfl) (rc (.hs rfl) rn))) (.ks (.ks .nil))) rfl rfl (.back rfl rfl (.cells (rc (.gslice rfl) (rc (.hs rfl) rn))) rfl (.back rfl rfl (.same fa) rfl (.back rfl rfl (.same fa) rfl (.old rfl rfl (.old rfl rfl .nil))))) (rc (.ptr rfl) rn) (.same (ql.agg sn)) rfl)) (ac (hs (.callF 97 [vl qd l13,.func (.func 197) [] [.ptr 3 0],.func (.func 100) [] []] (kA a0_ o11 (kAH r5.1 (kAz r6 r7 []))) [3] [vl qd l13,.func (.func 197) [] [.fptr [.i r5.1] 0],.func (.func 100) [] []] (vl encS r14)) (qhO (FzL.cons (Fz.still (ko qd _ (nl rfl))) (FzL.cons (Fz.func FzL.nil (FzL.cons (Fz.ptr rfl rfl (FzL.cons (Fz.still tI) FzL.nil)) FzL.nil)) (FzL.cons (Fz.func FzL.nil FzL.nil) FzL.nil))) (qcf N l13 r5.1 e_r14) (ko encS _ (nl rfl)))) (ac (cv (qaa r14 e_r15)) az))) ?_)
  refine Goes.sub (show Sub (ofG 34 (kBD r15),(kA a0_ o11 (.frozen [.i r5.1]::(kAz r6 r7 [])))) (ofG 34 (kBD r15),(kA a0_ o11 []))from(Sub.norm [] [some 0,some 1,some 2] (by rw[hB];rfl) rfl (.keep (.same nS) (.keep (.same nI) .nil)) (.kb rfl (.cells (rc (.gslice rfl) (rc (.hs rfl) rn))) (.ks (.ks .nil))))) ?_
  refine Goes.ret ?_
  simp only[Option.some.injEq,Prod.mk.injEq]at h
  obtain⟨rfl,rfl,rfl⟩:=h
  exact(gh2 [.str r15,.i 0] (qcm.refl _ _))
def qB (N:Nat) (a0_:List qb) (a1_:Option (List StateT)) (a2_:Str):Option ((List qb)×(Option (List StateT))×Str×Int):=
 (qI (decide ((a2_.length:Int)>4096)) 26).bind fun r5=>
 (qI (a2_==[]) 25).bind fun r6=>
 (zo N ([r5,r6]:List Int)).bind fun r7=>
 if(!decide (r7=0))=true then
 some (a0_,a1_,[],r7)
 else
 (strings_Split N a2_ [32]).bind fun r9=>
 ((zq).bind fun r10=>
 (idx r9 0).bind fun x11=>
 if(x11==[109,97,107,101])=true then
 some true
 else
 if(x11==[116,101,115,116])=true then
 some true
 else
 if(x11==[117,115,101])=true then
 some true
 else
 if(x11==[102,97,105,108])=true then
 some true
 else
 if(x11==[114,101,99,97,108,108])=true then
 some true
 else
 if(x11==[117,110,100,111])=true then
 some true
 else
 some false:Option Bool).bind fun b18=>
 if b18=true then
 (zY N a0_ a1_ a2_).bind fun(l22,o23,s24,n25)=>
 some (l22,o23,s24,n25)
 else
 (qas).bind fun r26=>
 (idx r9 0).bind fun x27=>
 if(x27==[115,108,105,110,103])=true then
 (if(!decide ((r9.length:Int)=(w64 (1+1))))=true then
 some true
 else
 (slices_Contains_string N r9 []).bind fun r32=>
 some r32:Option Bool).bind fun b33=>
 if b33=true then
 some (a0_,a1_,[],25)
 else
 (cut r9 1 (r9.length:Int)).bind fun s36=>
 (vS N a0_ a1_ s36).bind fun(o38,s39,n40)=>
 if(!decide (n40=0))=true then
 some (a0_,o38,[],n40)
 else
 ((if(s39==[])=true then
 some [110,111,110,101]
 else
 some s39:Option Str)).bind fun s42=>
 some (a0_,o38,s42,0)
 else
 if(x27==[115,108,105,110,103,115])=true then
 (if(!decide ((r9.length:Int)=(w64 (0+1))))=true then
 some true
 else
 (slices_Contains_string N r9 []).bind fun r46=>
 some r46:Option Bool).bind fun b47=>
 if b47=true then
 some (a0_,a1_,[],25)
 else
 (cut r9 1 (r9.length:Int)).bind fun s50=>
 (zI N a0_ a1_ s50).bind fun(o52,s53)=>
 if(!decide (0=0))=true then
 some (a0_,o52,[],0)
 else
 ((if(s53==[])=true then
 some [110,111,110,101]
 else
 some s53:Option Str)).bind fun s55=>
 some (a0_,o52,s55,0)
 else
 if(x27==[100,117,101])=true then
 (if(!decide ((r9.length:Int)=(w64 (1+1))))=true then
 some true
 else
 (slices_Contains_string N r9 []).bind fun r59=>
 some r59:Option Bool).bind fun b60=>
 if b60=true then
 some (a0_,a1_,[],25)
 else
 (cut r9 1 (r9.length:Int)).bind fun s63=>
 (yE N a0_ a1_ s63).bind fun(o65,s66,n67)=>
 if(!decide (n67=0))=true then
 some (a0_,o65,[],n67)
 else
 ((if(s66==[])=true then
 some [110,111,110,101]
 else
 some s66:Option Str)).bind fun s69=>
 some (a0_,o65,s69,0)
 else
 some (a0_,a1_,[],13)
theorem jM (N:Nat) (a0_:List qb) (a1_:Option (List StateT)) (a2_:Str) {l1:List qb} {o2:Option (List StateT)} {s3:Str} {n4:Int} (h:qB N a0_ a1_ a2_=some (l1,o2,s3,n4)):qg Tryz.prog (.fn 51) [.ptr 0 0,.str a2_] (kA a0_ a1_ []) (.tuple [.str s3,.i n4]) (kT l1 o2 (kBN (kB l1 o2 []))):=by
 unfold qB at h
 refine Goes.fnH Tryz.func51 rfl rfl (m:=79) rfl (rs:=[.tmp 4,.tmp 5]) rfl (l:=(kAK [(1,.str a2_)])) rfl ?_
 intro B hB
 refine sh fol (kAK [(1,.str a2_)]) ?_
 refine sq ?_
 refine sh fol (kAK [(1,.str a2_),(15,.bool false)]) ?_
 refine Goes.ifB (b:=false) (by kernel_rfl) (fun c=>(by cases c)) (fun _=>?_)
 refine Goes.skip ?_
 refine sq ?_
 obtain⟨r5,e_r5,h⟩:=bnd h
 obtain⟨r6,e_r6,h⟩:=bnd h
 obtain⟨r7,e_r7,h⟩:=bnd h
 refine sq (gq fol [3,6,8] (kAK [(1,.str a2_),(6,.i r7)]) (kA a0_ a1_ (kAz r5 r6 [])) (ac (cv (qA (decide ((a2_.length:Int)>4096)) 26 e_r5)) (ac (cv (qA (a2_==[]) 25 e_r6)) (ac (hs (.call 86 [.slice 3 0 2 2 1] (kA a0_ a1_ (kAz r5 r6 [])) [3] [vl encI ([r5,r6]:List Int)] (.i r7)) (qak (FzL.cons (Fz.lit rfl rfl (FzL.still (AllST.cons tI (AllST.cons tI AllST.nil)))) FzL.nil) (zD N ([r5,r6]:List Int) e_r7) tI rfl)) az))) ?_)
 refine sh fol (kAK [(1,.str a2_),(6,.i r7),(26,.bool (!decide (r7=0)))]) ?_
 refine ihB h (fun c8 h=>?_) (fun c8 h=>?_)
 ·refine sh fol ((4,.str [])::(kAs r7)) ?_
  refine Goes.ret ?_
  simp only[Option.some.injEq,Prod.mk.injEq]at h
  obtain⟨rfl,rfl,rfl,rfl⟩:=h
  exact(gh2 [.str [],.i r7] (Sub.norm [] [some 0,some 1,some 2,some 1,some 2] (by rw[hB];rfl) rfl (.keep (.tupleL (rc (.same nS) (rc (.same nI) rn))) .nil) (.kb rfl (.cells (rc (.gslice rfl) (rc (.hs rfl) rn))) (.lost (.lost (.ks (.ks .nil)))))))
 ·refine Goes.skip ?_
  obtain⟨r9,e_r9,h⟩:=bnd h
  refine sq (gr fol [1] (kAK [(1,.str a2_),(7,vl encS r9)]) (ac (cv (qde N a2_ [32] e_r9)) az) ?_)
  refine sq ?_
  refine sq ?_
  obtain⟨b18,g_v19,h⟩:=bnd h
  refine Goes.cutS (s':=(ofG 79 (kAK [(1,.str a2_),(7,vl encS r9),(9,.bool b18)]),(kA a0_ a1_ []))) ?_ ?_
  ·obtain⟨r10,e_r10,g_v19⟩:=bnd g_v19
   obtain⟨x11,e_x11,g_v19⟩:=bnd g_v19
   rcases wyB g_v19 with⟨c12,g_v19⟩|⟨c12,g_v19⟩
   ·obtain rfl:=si g_v19
    exact qj.sub (qj.rq fol [0,2,3,4] (kAK (kA7 a2_ r9)) (kA a0_ a1_ (kAz r5 r6 [.cells [.i 2,.i 3,.func (.func 141) [] []]])) (ac (cv (qw e_r10)) (ac (iv jE encS e_x11) (ac (lv 0 ce9 encS e_x11 rfl) (ac (hs (.done (qW Tryz.prog 154 (fm1) (.str x11) true) (.tuple (.agg [.i 2,.i 3,.func (.func 141) [] []]::kAt))) (yO xk [[109,97,107,101],[116,101,115,116],[117,115,101],[102,97,105,108],[114,101,99,97,108,108],[117,110,100,111]] (ky c12) rfl)) az))))) (Sub.norm [] [some 0,some 1,some 2] (by rw[hB];rfl) rfl (.kp (.keep (.same nS) (.keep (.same (qm encS _)) (.keep (.same nB) .nil)))) (.kb rfl (.cells (rc (.gslice rfl) (rc (.hs rfl) rn))) (.ks (.ks .nil))))
   ·rcases wyB g_v19 with⟨c13,g_v19⟩|⟨c13,g_v19⟩
    ·obtain rfl:=si g_v19
     exact qj.sub (qj.rq fol [0,2,3,4] (kAK (kA7 a2_ r9)) (kA a0_ a1_ (kAz r5 r6 [.cells [.i 1,.i 2,.func (.func 142) [] []]])) (ac (cv (qw e_r10)) (ac (iv jE encS e_x11) (ac (lv 0 ce9 encS e_x11 rfl) (ac (hs (.done (qW Tryz.prog 154 (fm1) (.str x11) true) (.tuple (.agg [.i 1,.i 2,.func (.func 142) [] []]::kAt))) (yO xk [[109,97,107,101],[116,101,115,116],[117,115,101],[102,97,105,108],[114,101,99,97,108,108],[117,110,100,111]] (qh c12 (ky c13)) rfl)) az))))) (Sub.norm [] [some 0,some 1,some 2] (by rw[hB];rfl) rfl (.kp (.keep (.same nS) (.keep (.same (qm encS _)) (.keep (.same nB) .nil)))) (.kb rfl (.cells (rc (.gslice rfl) (rc (.hs rfl) rn))) (.ks (.ks .nil))))
    ·rcases wyB g_v19 with⟨c14,g_v19⟩|⟨c14,g_v19⟩
     ·obtain rfl:=si g_v19
      exact qj.sub (qj.rq fol [0,2,3,4] (kAK (kA7 a2_ r9)) (kA a0_ a1_ (kAz r5 r6 [.cells [.i 1,.i 2,.func (.func 143) [] []]])) (ac (cv (qw e_r10)) (ac (iv jE encS e_x11) (ac (lv 0 ce9 encS e_x11 rfl) (ac (hs (.done (qW Tryz.prog 154 (fm1) (.str x11) true) (.tuple (.agg [.i 1,.i 2,.func (.func 143) [] []]::kAt))) (yO xk [[109,97,107,101],[116,101,115,116],[117,115,101],[102,97,105,108],[114,101,99,97,108,108],[117,110,100,111]] (qh c12 (qh c13 (ky c14))) rfl)) az))))) (Sub.norm [] [some 0,some 1,some 2] (by rw[hB];rfl) rfl (.kp (.keep (.same nS) (.keep (.same (qm encS _)) (.keep (.same nB) .nil)))) (.kb rfl (.cells (rc (.gslice rfl) (rc (.hs rfl) rn))) (.ks (.ks .nil))))
     ·rcases wyB g_v19 with⟨c15,g_v19⟩|⟨c15,g_v19⟩
      ·obtain rfl:=si g_v19
       exact qj.sub (qj.rq fol [0,2,3,4] (kAK (kA7 a2_ r9)) (kA a0_ a1_ (kAz r5 r6 [.cells [.i 1,.i 1,.func (.func 144) [] []]])) (ac (cv (qw e_r10)) (ac (iv jE encS e_x11) (ac (lv 0 ce9 encS e_x11 rfl) (ac (hs (.done (qW Tryz.prog 154 (fm1) (.str x11) true) (.tuple (.agg [.i 1,.i 1,.func (.func 144) [] []]::kAt))) (yO xk [[109,97,107,101],[116,101,115,116],[117,115,101],[102,97,105,108],[114,101,99,97,108,108],[117,110,100,111]] (qh c12 (qh c13 (qh c14 (ky c15)))) rfl)) az))))) (Sub.norm [] [some 0,some 1,some 2] (by rw[hB];rfl) rfl (.kp (.keep (.same nS) (.keep (.same (qm encS _)) (.keep (.same nB) .nil)))) (.kb rfl (.cells (rc (.gslice rfl) (rc (.hs rfl) rn))) (.ks (.ks .nil))))
      ·rcases wyB g_v19 with⟨c16,g_v19⟩|⟨c16,g_v19⟩
       ·obtain rfl:=si g_v19
        exact qj.sub (qj.rq fol [0,2,3,4] (kAK (kA7 a2_ r9)) (kA a0_ a1_ (kAz r5 r6 [.cells [.i 1,.i 1,.func (.func 145) [] []]])) (ac (cv (qw e_r10)) (ac (iv jE encS e_x11) (ac (lv 0 ce9 encS e_x11 rfl) (ac (hs (.done (qW Tryz.prog 154 (fm1) (.str x11) true) (.tuple (.agg [.i 1,.i 1,.func (.func 145) [] []]::kAt))) (yO xk [[109,97,107,101],[116,101,115,116],[117,115,101],[102,97,105,108],[114,101,99,97,108,108],[117,110,100,111]] (qh c12 (qh c13 (qh c14 (qh c15 (ky c16))))) rfl)) az))))) (Sub.norm [] [some 0,some 1,some 2] (by rw[hB];rfl) rfl (.kp (.keep (.same nS) (.keep (.same (qm encS _)) (.keep (.same nB) .nil)))) (.kb rfl (.cells (rc (.gslice rfl) (rc (.hs rfl) rn))) (.ks (.ks .nil))))
       ·rcases wyB g_v19 with⟨c17,g_v19⟩|⟨c17,g_v19⟩
        ·obtain rfl:=si g_v19
         exact qj.sub (qj.rq fol [0,2,3,4] (kAK (kA7 a2_ r9)) (kA a0_ a1_ (kAz r5 r6 kBJ)) (ac (cv (qw e_r10)) (ac (iv jE encS e_x11) (ac (lv 0 ce9 encS e_x11 rfl) (ac (hs (.done (qW Tryz.prog 154 (fm1) (.str x11) true) (.tuple (kBE kAt))) (yO xk [[109,97,107,101],[116,101,115,116],[117,115,101],[102,97,105,108],[114,101,99,97,108,108],[117,110,100,111]] (qh c12 (qh c13 (qh c14 (qh c15 (qh c16 (ky c17)))))) rfl)) az))))) (Sub.norm [] [some 0,some 1,some 2] (by rw[hB];rfl) rfl (.kp (.keep (.same nS) (.keep (.same (qm encS _)) (.keep (.same nB) .nil)))) (.kb rfl (.cells (rc (.gslice rfl) (rc (.hs rfl) rn))) (.ks (.ks .nil))))
        ·obtain rfl:=si g_v19
         exact qj.sub (qj.rq fol [0,2,3,4] (kAK [(1,.str a2_),(7,vl encS r9),(9,.bool false)]) (kA a0_ a1_ (kAz r5 r6 kBJ)) (ac (cv (qw e_r10)) (ac (iv jE encS e_x11) (ac (lv 0 ce9 encS e_x11 rfl) (ac (hs (.done (qW Tryz.prog 154 (fm1) (.str x11) true) (.tuple (kBE kBw))) (qgS xk [[109,97,107,101],[116,101,115,116],[117,115,101],[102,97,105,108],[114,101,99,97,108,108],[117,110,100,111]] (qh c12 (qh c13 (qh c14 (qh c15 (qh c16 (qh c17 (rfl))))))))) az))))) (Sub.norm [] [some 0,some 1,some 2] (by rw[hB];rfl) rfl (.kp (.keep (.same nS) (.keep (.same (qm encS _)) (.keep (.same nB) .nil)))) (.kb rfl (.cells (rc (.gslice rfl) (rc (.hs rfl) rn))) (.ks (.ks .nil))))
  intro _ hsub
  refine Goes.sub hsub ?_
  refine sh fol (kAK [(1,.str a2_),(7,vl encS r9),(38,.bool b18)]) ?_
  refine ihB h (fun c20 h=>?_) (fun c20 h=>?_)
  ·obtain⟨⟨l22,o23,s24,n25⟩,e_r21,h⟩:=bnd h
   try dsimp only at h
   refine sq (gq fol [2] ((4,.str s24)::(kAs n25)) (kT l22 o23 (kBN (kB l22 o23 []))) (ac (hs (.callH 110 [.ptr 0 0,.str a2_] (kA a0_ a1_ []) [0,1,2] (.tuple [.str s24,.i n25]) (kT l22 o23 (kBN (kB l22 o23 [])))) (kg [some 0,some 1,some 2] [some 0,none,none,some 3,some 4] (qb9 N a0_ a1_ a2_ e_r21) (.kb rfl (.cells (rc (.gslice rfl) (rc (.hs rfl) rn))) (.ks (.ks .nil))) rfl rfl (.back rfl rfl (.cells (rc (.gslice rfl) (rc (.hs rfl) rn))) rfl (.dead (.dead (.new rfl rfl (.same fa) rfl (.new rfl rfl (.same fa) rfl .nil))))) (rc (.ptr rfl) (rc (.same nS) rn)) (.same (ql.tuple sn)) rfl)) az) ?_)
   refine Goes.ret ?_
   simp only[Option.some.injEq,Prod.mk.injEq]at h
   obtain⟨rfl,rfl,rfl,rfl⟩:=h
   exact(gh2 [.str s24,.i n25] (Sub.keep [0] rfl rfl))
  ·refine Goes.skip ?_
   refine sq ?_
   obtain⟨r26,e_r26,h⟩:=bnd h
   obtain⟨x27,e_x27,h⟩:=bnd h
   rcases wyB h with⟨c28,h⟩|⟨c28,h⟩
   ·refine gq fol [0,2,3,4] (kX r9 [(11,.bool true)]) (kA a0_ a1_ [.cells [.i 1,.func (.func 161) [] []]]) (ac (cv (yS e_r26)) (ac (iv jE encS e_x27) (ac (lv 0 ce9 encS e_x27 rfl) (ac (hs (.done (qW Tryz.prog 194 (fm2) (.str x27) true) (.tuple (.agg [.i 1,.func (.func 161) [] []]::kAt))) (yO qlU [[115,108,105,110,103],[115,108,105,110,103,115],[100,117,101]] (ky c28) rfl)) az)))) ?_
    refine sq ?_
    refine sh fol (kX r9 [(53,.bool false)]) ?_
    refine Goes.ifB (b:=false) (by kernel_rfl) (fun c=>(by cases c)) (fun _=>?_)
    refine Goes.skip ?_
    refine sq ?_
    refine sq ?_
    obtain⟨b33,g_v34,h⟩:=bnd h
    refine Goes.cut (s':=(ofG 79 (kX r9 [(63,.bool b33)]),(kA a0_ a1_ [.cells [.i 1,.func (.func 161) [] []]]))) ?_ ?_
    ·rcases wyB g_v34 with⟨c31,g_v34⟩|⟨c31,g_v34⟩
     ·obtain rfl:=si g_v34
      exact tr fol [6] (kX r9 [(63,.bool true)]) (ac (gw c31) az)
     ·obtain⟨r32,e_r32,g_v34⟩:=bnd g_v34
      obtain rfl:=si g_v34
      exact tr fol [6,8] (kX r9 [(63,.bool r32)]) (ac (gw c31) (ac (cv (j3 N r9 [] e_r32)) az))
    refine ihB h (fun c35 h=>?_) (fun c35 h=>?_)
    ·refine sh fol [(4,.str []),(5,.i 25)] ?_
     refine Goes.ret ?_
     simp only[Option.some.injEq,Prod.mk.injEq]at h
     obtain⟨rfl,rfl,rfl,rfl⟩:=h
     exact(gh2 [.str [],.i 25] (Sub.norm [] [some 0,some 1,some 2,some 1,some 2] (by rw[hB];rfl) rfl (.keep (.tupleL (rc (.same nS) (rc (.same nI) rn))) .nil) (.kb rfl (.cells (rc (.gslice rfl) (rc (.hs rfl) rn))) (.lost (.lost (.ks (.ks .nil)))))))
    ·refine Goes.skip ?_
     obtain⟨s36,e_s36,h⟩:=bnd h
     obtain⟨⟨o38,s39,n40⟩,e_r37,h⟩:=bnd h
     try dsimp only at h
     refine sq (gq fol [4,5] [(12,.str s39),(13,.i n40)] (kA a0_ o38 [.cells [.i 1,.func (.func 161) [] []]]) (ac (hs (.done (.opt (qx Tryz.prog 23 (vl encS r9) (some (.i 1)) none none)) (vl encS s36)) (xZ jE (E:=encS) rfl (some 1) none e_s36)) (ac (hs (.callH 161 [.ptr 0 0,vl encS s36] (kA a0_ a1_ [.cells [.i 1,.func (.func 161) [] []]]) [0,1,2] (.tuple [.str s39,.i n40]) (kA a0_ o38 [.cells [.i 1,.func (.func 161) [] []]])) (kg [some 0,some 1,some 2] [some 0,some 1,some 2,none] (qcc N a0_ a1_ s36 e_r37) (.kb rfl (.cells (rc (.gslice rfl) (rc (.hs rfl) rn))) (.ks (.ks .nil))) rfl rfl (.back rfl rfl (.cells (rc (.gslice rfl) (rc (.hs rfl) rn))) rfl (.back rfl rfl (.same fa) rfl (.back rfl rfl (.same fa) rfl (.old rfl rfl .nil)))) (rc (.ptr rfl) (rc (.same (qm encS _)) rn)) (.same (ql.tuple sn)) rfl)) az)) ?_)
     refine sq ?_
     refine sh fol [(12,.str s39),(13,.i n40),(74,.bool (!decide (n40=0)))] ?_
     refine ihB h (fun c41 h=>?_) (fun c41 h=>?_)
     ·refine sh fol ((4,.str [])::(kAs n40)) ?_
      refine Goes.ret ?_
      simp only[Option.some.injEq,Prod.mk.injEq]at h
      obtain⟨rfl,rfl,rfl,rfl⟩:=h
      exact(gh2 [.str [],.i n40] (Sub.norm [] [some 0,some 1,some 2,some 1,some 2] (by rw[hB];rfl) rfl (.keep (.tupleL (rc (.same nS) (rc (.same nI) rn))) .nil) (.kb rfl (.cells (rc (.gslice rfl) (rc (.hs rfl) rn))) (.lost (.lost (.ks (.ks .nil)))))))
     ·refine Goes.skip ?_
      refine sq ?_
      refine sh fol [(12,.str s39),(77,.bool (s39==[]))] ?_
      obtain⟨r43,g43,h⟩:=bnd h
      refine Goes.imp (Q:=fun x s'=>(x= .normal∧ ∃s42,s42=r43∧Sub s' (ofG 79 [(12,.str s42)],(kA a0_ o38 [])))) ?_ ?_
      ·refine ihB g43 (fun c44 g43=>?_) (fun c44 g43=>?_)
       ·refine gh fol [(12,.str [110,111,110,101])] ?_
        obtain rfl:=si g43
        exact⟨rfl,_,rfl,(Sub.norm [] [some 0,some 1,some 2] (by rw[hB];rfl) rfl (.keep (.same nS) .nil) (.kb rfl (.cells (rc (.gslice rfl) (rc (.hs rfl) rn))) (.ks (.ks .nil))))⟩
       ·refine Goes.skip ?_
        obtain rfl:=si g43
        exact⟨rfl,_,rfl,(Sub.norm [] [some 0,some 1,some 2] (by rw[hB];rfl) rfl (.keep (.same nS) .nil) (.kb rfl (.cells (rc (.gslice rfl) (rc (.hs rfl) rn))) (.ks (.ks .nil))))⟩
      rintro x s' ⟨rfl,s42,rfl,hsub⟩
      refine Goes.sub hsub ?_
      refine sh fol (kBD s42) ?_
      refine Goes.ret ?_
      simp only[Option.some.injEq,Prod.mk.injEq]at h
      obtain⟨rfl,rfl,rfl,rfl⟩:=h
      exact(gh2 [.str s42,.i 0] (Sub.norm [] [some 0,some 1,some 2,some 1,some 2] (by rw[hB];rfl) rfl (.keep (.tupleL (rc (.same nS) (rc (.same nI) rn))) .nil) (.kb rfl (.cells (rc (.gslice rfl) (rc (.hs rfl) rn))) (.lost (.lost (.ks (.ks .nil)))))))
   ·rcases wyB h with⟨c29,h⟩|⟨c29,h⟩
    ·refine gq fol [0,2,3,4] (kX r9 [(11,.bool true)]) (kA a0_ a1_ [.cells [.i 0,.func (.func 162) [] []]]) (ac (cv (yS e_r26)) (ac (iv jE encS e_x27) (ac (lv 0 ce9 encS e_x27 rfl) (ac (hs (.done (qW Tryz.prog 194 (fm2) (.str x27) true) (.tuple (.agg [.i 0,.func (.func 162) [] []]::kAt))) (yO qlU [[115,108,105,110,103],[115,108,105,110,103,115],[100,117,101]] (qh c28 (ky c29)) rfl)) az)))) ?_
     refine sq ?_
     refine sh fol (kX r9 [(53,.bool false)]) ?_
     refine Goes.ifB (b:=false) (by kernel_rfl) (fun c=>(by cases c)) (fun _=>?_)
     refine Goes.skip ?_
     refine sq ?_
     refine sq ?_
     obtain⟨b47,g_v48,h⟩:=bnd h
     refine Goes.cut (s':=(ofG 79 (kX r9 [(63,.bool b47)]),(kA a0_ a1_ [.cells [.i 0,.func (.func 162) [] []]]))) ?_ ?_
     ·rcases wyB g_v48 with⟨c45,g_v48⟩|⟨c45,g_v48⟩
      ·obtain rfl:=si g_v48
       exact tr fol [6] (kX r9 [(63,.bool true)]) (ac (gw c45) az)
      ·obtain⟨r46,e_r46,g_v48⟩:=bnd g_v48
       obtain rfl:=si g_v48
       exact tr fol [6,8] (kX r9 [(63,.bool r46)]) (ac (gw c45) (ac (cv (j3 N r9 [] e_r46)) az))
     refine ihB h (fun c49 h=>?_) (fun c49 h=>?_)
     ·refine sh fol [(4,.str []),(5,.i 25)] ?_
      refine Goes.ret ?_
      simp only[Option.some.injEq,Prod.mk.injEq]at h
      obtain⟨rfl,rfl,rfl,rfl⟩:=h
      exact(gh2 [.str [],.i 25] (Sub.norm [] [some 0,some 1,some 2,some 1,some 2] (by rw[hB];rfl) rfl (.keep (.tupleL (rc (.same nS) (rc (.same nI) rn))) .nil) (.kb rfl (.cells (rc (.gslice rfl) (rc (.hs rfl) rn))) (.lost (.lost (.ks (.ks .nil)))))))
     ·refine Goes.skip ?_
      obtain⟨s50,e_s50,h⟩:=bnd h
      obtain⟨⟨o52,s53⟩,e_r51,h⟩:=bnd h
      try dsimp only at h
      refine sq (gq fol [4,5] [(12,.str s53),(13,.i 0)] (kA a0_ o52 [.cells [.i 0,.func (.func 162) [] []]]) (ac (hs (.done (.opt (qx Tryz.prog 23 (vl encS r9) (some (.i 1)) none none)) (vl encS s50)) (xZ jE (E:=encS) rfl (some 1) none e_s50)) (ac (hs (.callH 162 [.ptr 0 0,vl encS s50] (kA a0_ a1_ [.cells [.i 0,.func (.func 162) [] []]]) [0,1,2] (.tuple [.str s53,.i 0]) (kA a0_ o52 [.cells [.i 0,.func (.func 162) [] []]])) (kg [some 0,some 1,some 2] [some 0,some 1,some 2,none] (qbP N a0_ a1_ s50 e_r51) (.kb rfl (.cells (rc (.gslice rfl) (rc (.hs rfl) rn))) (.ks (.ks .nil))) rfl rfl (.back rfl rfl (.cells (rc (.gslice rfl) (rc (.hs rfl) rn))) rfl (.back rfl rfl (.same fa) rfl (.back rfl rfl (.same fa) rfl (.old rfl rfl .nil)))) (rc (.ptr rfl) (rc (.same (qm encS _)) rn)) (.same (ql.tuple sn)) rfl)) az)) ?_)
      refine sq ?_
      refine sh fol [(12,.str s53),(13,.i 0),(74,.bool (!decide (0=0)))] ?_
      refine ihB h (fun c54 h=>?_) (fun c54 h=>?_)
      ·refine sh fol [(4,.str []),(5,.i 0)] ?_
       refine Goes.ret ?_
       simp only[Option.some.injEq,Prod.mk.injEq]at h
       obtain⟨rfl,rfl,rfl,rfl⟩:=h
       exact(gh2 [.str [],.i 0] (Sub.norm [] [some 0,some 1,some 2,some 1,some 2] (by rw[hB];rfl) rfl (.keep (.tupleL (rc (.same nS) (rc (.same nI) rn))) .nil) (.kb rfl (.cells (rc (.gslice rfl) (rc (.hs rfl) rn))) (.lost (.lost (.ks (.ks .nil)))))))
      ·refine Goes.skip ?_
       refine sq ?_
       refine sh fol [(12,.str s53),(77,.bool (s53==[]))] ?_
       obtain⟨r56,g56,h⟩:=bnd h
       refine Goes.imp (Q:=fun x s'=>(x= .normal∧ ∃s55,s55=r56∧Sub s' (ofG 79 [(12,.str s55)],(kA a0_ o52 [])))) ?_ ?_
       ·refine ihB g56 (fun c57 g56=>?_) (fun c57 g56=>?_)
        ·refine gh fol [(12,.str [110,111,110,101])] ?_
         obtain rfl:=si g56
         exact⟨rfl,_,rfl,(Sub.norm [] [some 0,some 1,some 2] (by rw[hB];rfl) rfl (.keep (.same nS) .nil) (.kb rfl (.cells (rc (.gslice rfl) (rc (.hs rfl) rn))) (.ks (.ks .nil))))⟩
        ·refine Goes.skip ?_
         obtain rfl:=si g56
         exact⟨rfl,_,rfl,(Sub.norm [] [some 0,some 1,some 2] (by rw[hB];rfl) rfl (.keep (.same nS) .nil) (.kb rfl (.cells (rc (.gslice rfl) (rc (.hs rfl) rn))) (.ks (.ks .nil))))⟩
       rintro x s' ⟨rfl,s55,rfl,hsub⟩
       refine Goes.sub hsub ?_
       refine sh fol (kBD s55) ?_
       refine Goes.ret ?_
       simp only[Option.some.injEq,Prod.mk.injEq]at h
       obtain⟨rfl,rfl,rfl,rfl⟩:=h
       exact(gh2 [.str s55,.i 0] (Sub.norm [] [some 0,some 1,some 2,some 1,some 2] (by rw[hB];rfl) rfl (.keep (.tupleL (rc (.same nS) (rc (.same nI) rn))) .nil) (.kb rfl (.cells (rc (.gslice rfl) (rc (.hs rfl) rn))) (.lost (.lost (.ks (.ks .nil)))))))
    ·rcases wyB h with⟨c30,h⟩|⟨c30,h⟩
     ·refine gq fol [0,2,3,4] (kX r9 [(11,.bool true)]) (kA a0_ a1_ [.cells [.i 1,.func (.func 163) [] []]]) (ac (cv (yS e_r26)) (ac (iv jE encS e_x27) (ac (lv 0 ce9 encS e_x27 rfl) (ac (hs (.done (qW Tryz.prog 194 (fm2) (.str x27) true) (.tuple (.agg [.i 1,.func (.func 163) [] []]::kAt))) (yO qlU [[115,108,105,110,103],[115,108,105,110,103,115],[100,117,101]] (qh c28 (qh c29 (ky c30))) rfl)) az)))) ?_
      refine sq ?_
      refine sh fol (kX r9 [(53,.bool false)]) ?_
      refine Goes.ifB (b:=false) (by kernel_rfl) (fun c=>(by cases c)) (fun _=>?_)
      refine Goes.skip ?_
      refine sq ?_
      refine sq ?_
      obtain⟨b60,g_v61,h⟩:=bnd h
      refine Goes.cut (s':=(ofG 79 (kX r9 [(63,.bool b60)]),(kA a0_ a1_ [.cells [.i 1,.func (.func 163) [] []]]))) ?_ ?_
      ·rcases wyB g_v61 with⟨c58,g_v61⟩|⟨c58,g_v61⟩
       ·obtain rfl:=si g_v61
        exact tr fol [6] (kX r9 [(63,.bool true)]) (ac (gw c58) az)
       ·obtain⟨r59,e_r59,g_v61⟩:=bnd g_v61
        obtain rfl:=si g_v61
        exact tr fol [6,8] (kX r9 [(63,.bool r59)]) (ac (gw c58) (ac (cv (j3 N r9 [] e_r59)) az))
      refine ihB h (fun c62 h=>?_) (fun c62 h=>?_)
      ·refine sh fol [(4,.str []),(5,.i 25)] ?_
       refine Goes.ret ?_
       simp only[Option.some.injEq,Prod.mk.injEq]at h
       obtain⟨rfl,rfl,rfl,rfl⟩:=h
       exact(gh2 [.str [],.i 25] (Sub.norm [] [some 0,some 1,some 2,some 1,some 2] (by rw[hB];rfl) rfl (.keep (.tupleL (rc (.same nS) (rc (.same nI) rn))) .nil) (.kb rfl (.cells (rc (.gslice rfl) (rc (.hs rfl) rn))) (.lost (.lost (.ks (.ks .nil)))))))
      ·refine Goes.skip ?_
       obtain⟨s63,e_s63,h⟩:=bnd h
       obtain⟨⟨o65,s66,n67⟩,e_r64,h⟩:=bnd h
       try dsimp only at h
       refine sq (gq fol [4,5] [(12,.str s66),(13,.i n67)] (kA a0_ o65 [.cells [.i 1,.func (.func 163) [] []]]) (ac (hs (.done (.opt (qx Tryz.prog 23 (vl encS r9) (some (.i 1)) none none)) (vl encS s63)) (xZ jE (E:=encS) rfl (some 1) none e_s63)) (ac (hs (.callH 163 [.ptr 0 0,vl encS s63] (kA a0_ a1_ [.cells [.i 1,.func (.func 163) [] []]]) [0,1,2] (.tuple [.str s66,.i n67]) (kA a0_ o65 [.cells [.i 1,.func (.func 163) [] []]])) (kg [some 0,some 1,some 2] [some 0,some 1,some 2,none] (qcF N a0_ a1_ s63 e_r64) (.kb rfl (.cells (rc (.gslice rfl) (rc (.hs rfl) rn))) (.ks (.ks .nil))) rfl rfl (.back rfl rfl (.cells (rc (.gslice rfl) (rc (.hs rfl) rn))) rfl (.back rfl rfl (.same fa) rfl (.back rfl rfl (.same fa) rfl (.old rfl rfl .nil)))) (rc (.ptr rfl) (rc (.same (qm encS _)) rn)) (.same (ql.tuple sn)) rfl)) az)) ?_)
       refine sq ?_
       refine sh fol [(12,.str s66),(13,.i n67),(74,.bool (!decide (n67=0)))] ?_
       refine ihB h (fun c68 h=>?_) (fun c68 h=>?_)
       ·refine sh fol ((4,.str [])::(kAs n67)) ?_
        refine Goes.ret ?_
        simp only[Option.some.injEq,Prod.mk.injEq]at h
        obtain⟨rfl,rfl,rfl,rfl⟩:=h
        exact(gh2 [.str [],.i n67] (Sub.norm [] [some 0,some 1,some 2,some 1,some 2] (by rw[hB];rfl) rfl (.keep (.tupleL (rc (.same nS) (rc (.same nI) rn))) .nil) (.kb rfl (.cells (rc (.gslice rfl) (rc (.hs rfl) rn))) (.lost (.lost (.ks (.ks .nil)))))))
       ·refine Goes.skip ?_
        refine sq ?_
        refine sh fol [(12,.str s66),(77,.bool (s66==[]))] ?_
        obtain⟨r70,g70,h⟩:=bnd h
        refine Goes.imp (Q:=fun x s'=>(x= .normal∧ ∃s69,s69=r70∧Sub s' (ofG 79 [(12,.str s69)],(kA a0_ o65 [])))) ?_ ?_
        ·refine ihB g70 (fun c71 g70=>?_) (fun c71 g70=>?_)
         ·refine gh fol [(12,.str [110,111,110,101])] ?_
          obtain rfl:=si g70
          exact⟨rfl,_,rfl,(Sub.norm [] [some 0,some 1,some 2] (by rw[hB];rfl) rfl (.keep (.same nS) .nil) (.kb rfl (.cells (rc (.gslice rfl) (rc (.hs rfl) rn))) (.ks (.ks .nil))))⟩
         ·refine Goes.skip ?_
          obtain rfl:=si g70
          exact⟨rfl,_,rfl,(Sub.norm [] [some 0,some 1,some 2] (by rw[hB];rfl) rfl (.keep (.same nS) .nil) (.kb rfl (.cells (rc (.gslice rfl) (rc (.hs rfl) rn))) (.ks (.ks .nil))))⟩
        rintro x s' ⟨rfl,s69,rfl,hsub⟩
        refine Goes.sub hsub ?_
        refine sh fol (kBD s69) ?_
        refine Goes.ret ?_
        simp only[Option.some.injEq,Prod.mk.injEq]at h
        obtain⟨rfl,rfl,rfl,rfl⟩:=h
        exact(gh2 [.str s69,.i 0] (Sub.norm [] [some 0,some 1,some 2,some 1,some 2] (by rw[hB];rfl) rfl (.keep (.tupleL (rc (.same nS) (rc (.same nI) rn))) .nil) (.kb rfl (.cells (rc (.gslice rfl) (rc (.hs rfl) rn))) (.lost (.lost (.ks (.ks .nil)))))))
     ·refine gq fol [0,2,3,4] (kX r9 [(11,.bool false)]) (kA a0_ a1_ [.cells [.i 0,.nilfunc]]) (ac (cv (yS e_r26)) (ac (iv jE encS e_x27) (ac (lv 0 ce9 encS e_x27 rfl) (ac (hs (.done (qW Tryz.prog 194 (fm2) (.str x27) true) (.tuple (.agg [.i 0,.nilfunc]::kBw))) (qgS qlU [[115,108,105,110,103],[115,108,105,110,103,115],[100,117,101]] (qh c28 (qh c29 (qh c30 (rfl)))))) az)))) ?_
      refine sq ?_
      refine sh fol (kX r9 [(53,.bool true)]) ?_
      refine Goes.ifB (b:=true) (by kernel_rfl) (fun _=>?_) (fun c=>(by cases c))
      refine sh fol [(4,.str []),(5,.i 13)] ?_
      refine Goes.ret ?_
      simp only[Option.some.injEq,Prod.mk.injEq]at h
      obtain⟨rfl,rfl,rfl,rfl⟩:=h
      exact(gh2 [.str [],.i 13] (Sub.norm [] [some 0,some 1,some 2,some 1,some 2] (by rw[hB];rfl) rfl (.keep (.tupleL (rc (.same nS) (rc (.same nI) rn))) .nil) (.kb rfl (.cells (rc (.gslice rfl) (rc (.hs rfl) rn))) (.lost (.lost (.ks (.ks .nil)))))))
def qN (N:Nat) (a0_:List qb):Nat→(List Str)→Int→Option (List Str)
 |0,_,_=>none
 |K+1,l2,n3=>
  if n3<(a0_.length:Int)then
  (((idx a0_ n3).bind fun x9=>
  (yD x9).bind fun r10=>
  if r10=true then
  (xO N x9).bind fun r12=>
  (app 16 l2 [r12]).bind fun l13=>
  some l13
  else
  some l2:Option (List Str))).bind fun l7=>
  qN N a0_ K l7 (w64 (n3+1))
  else
  some l2
def vV (N:Nat) (a0_:List qb):Option (List Str):=
 (qN N a0_ N ([]:List Str) 0).bind fun l4=>
 some l4
theorem qcg (N:Nat) (a0_:List qb) {l1:List Str} (h:vV N a0_=some l1):qg Tryz.prog (.fn 117) [.gslice 0 a0_.length 5,.func (.func 118) [] [],.func (.func 102) [] []] (kJ a0_ []) (.gslice 1 l1.length 1) (kJ a0_ (kL l1)):=by
 unfold vV at h
 refine Goes.fnH Tryz.func117 rfl rfl (m:=27) rfl (rs:=[.tmp 6]) rfl (l:=[(0,.gslice 0 a0_.length 5),(1,.func (.func 118) [] []),(2,.func (.func 102) [] [])]) rfl ?_
 intro B hB
 refine sh fol [(0,.gslice 0 a0_.length 5),(1,.func (.func 118) [] []),(2,.func (.func 102) [] [])] ?_
 refine sh fol [(0,.gslice 0 a0_.length 5),(1,.func (.func 118) [] []),(2,.func (.func 102) [] []),(7,.nilslice)] ?_
 refine sq ?_
 refine sh fol ((1,.func (.func 118) [] [])::(2,.func (.func 102) [] [])::(7,.nilslice)::(kAS a0_ (kA5 (a0_.length:Int)))) ?_
 refine Goes.block ?_
 obtain⟨r5,g5,h⟩:=bnd h
 refine Goes.imp (Q:=fun x s'=>(x= .exit 0∧ ∃l4,l4=r5∧Sub s' (ofG 27 (kBq l4 []),(kJ a0_ (kL l4))))) ?_ ?_
 ·refine Goes.sub (s':=(ofG 27 ((1,.func (.func 118) [] [])::(2,.func (.func 102) [] [])::(7,.gslice 1 ([]:List Str).length 1)::(kAS a0_ (kA5 (a0_.length:Int)))),(kJ a0_ kBc))) (Sub.norm [] [some 0,none] (by rw[hB];rfl) rfl (.keep (.same (ql.func sn sn)) (.keep (.same (ql.func sn sn)) (.keep .nil (.keep (.gslice rfl) (.keep (.same nI) (.keep (.same nI) .nil)))))) (.ks (.fresh .nil))) ?_
  refine Goes.loopS (fun M s=> ∃(l2:List Str) (n3:Int),s=(ofG 27 ((1,.func (.func 118) [] [])::(2,.func (.func 102) [] [])::(kBq l2 (kAS a0_ (kV (a0_.length:Int) n3)))),(kJ a0_ (kL l2)))∧qN N a0_ M l2 n3=some r5) ?_ (m:=N) ⟨_,_,rfl,g5⟩
  rintro M s ⟨l2,n3,rfl,g5⟩
  cases M with
  |zero=>simp only[qN]at g5;cases g5
  |succ M=>
   rw[qN]at g5
   refine sh fol ((1,.func (.func 118) [] [])::(2,.func (.func 102) [] [])::(kBq l2 (kAS a0_ (kBd (a0_.length:Int) n3 (kB4 (decide (n3<(a0_.length:Int)))))))) ?_
   refine sq ?_
   refine ihD g5 (fun c6 g5=>?_) (fun c6 g5=>?_)
   ·refine Goes.skip ?_
    refine sq ?_
    obtain⟨r8,g8,g5⟩:=bnd g5
    refine Goes.imp (Q:=fun x s'=>(x= .normal∧ ∃l7,l7=r8∧Sub s' (ofG 27 ((1,.func (.func 118) [] [])::(2,.func (.func 102) [] [])::(kBq l7 (kAS a0_ (kV (a0_.length:Int) n3)))),(kJ a0_ (kL l7))))) ?_ ?_
    ·refine Goes.block ?_
     obtain⟨x9,e_x9,g8⟩:=bnd g8
     refine sq (gq fol [0,1] ((1,.func (.func 118) [] [])::(2,.func (.func 102) [] [])::(kBq l2 ((9,.ptr 2 0)::(kAS a0_ (kV (a0_.length:Int) n3))))) (kJ a0_ (kBo l2 (kW x9 []))) (ac (hs (.done (.opt (qz Tryz.prog 22 (.gslice 0 a0_.length 5) (.i n3))) (.ptr 0 ((n3:Int).toNat*5+0))) (qjn zV e_x9)) (ac (hs (.run [0] (jJ Tryz.prog 26 (.ptr 0 ((n3:Int).toNat*5+0))) (kJ a0_ (kL l2)) (.agg (cE x9)) (kJ a0_ (kL l2)) false) (qjD qjb (E:=qa) (l:=a0_) rfl rfl e_x9)) az)) ?_)
     obtain⟨r10,e_r10,g8⟩:=bnd g8
     refine sq (gr fol [2] ((1,.func (.func 118) [] [])::(2,.func (.func 102) [] [])::(kBq l2 ((9,.ptr 2 0)::(kAS a0_ (kBd (a0_.length:Int) n3 [(18,.bool r10)]))))) (ac (cv (qcI x9 e_r10)) az) ?_)
     refine ihB g8 (fun c11 g8=>?_) (fun c11 g8=>?_)
     ·obtain⟨r12,e_r12,g8⟩:=bnd g8
      obtain⟨l13,e_l13,g8⟩:=bnd g8
      refine gq fol [3,5] ((1,.func (.func 118) [] [])::(2,.func (.func 102) [] [])::(7,.gslice 4 l13.length 1)::(kAS a0_ (kV (a0_.length:Int) n3))) (kJ a0_ (.dead::(kW x9 (kAc r12 (kL l13))))) (ac (cv (qcV N x9 e_r12)) (ac (hs (.run [1,3] (qP Tryz.prog [23,23] (.gslice 1 l2.length 1) (.slice 3 0 1 1 1)) (kJ a0_ (kBo l2 (kW x9 (kAc r12 [])))) (.gslice 4 l13.length 1) (kJ a0_ (.dead::(kW x9 (kAc r12 (kL l13))))) true) (jH jE (E:=encS) rfl (qa8 (E:=encS) (ys:=[r12]) rfl rfl rfl rfl) (qeO (E:=encS) (l:=l2) rfl rfl rfl e_l13 rfl))) az)) ?_
      obtain rfl:=si g8
      exact⟨rfl,_,rfl,(Sub.norm [] [some 0,some 4] (by rw[hB];rfl) rfl (.keep (.same (ql.func sn sn)) (.keep (.same (ql.func sn sn)) (.keep (.gslice rfl) (.keep (.gslice rfl) (.keep (.same nI) (.keep (.same nI) .nil)))))) (.ks (.ks .nil)))⟩
     ·refine Goes.skip ?_
      obtain rfl:=si g8
      exact⟨rfl,_,rfl,(Sub.norm [] [some 0,some 1] (by rw[hB];rfl) rfl (.keep (.same (ql.func sn sn)) (.keep (.same (ql.func sn sn)) (.keep (.gslice rfl) (.drop (.keep (.gslice rfl) (.keep (.same nI) (.keep (.same nI) .nil))))))) (.ks (.ks .nil)))⟩
    rintro x s' ⟨rfl,l7,rfl,hsub⟩
    refine Goes.sub hsub ?_
    refine gh fol ((1,.func (.func 118) [] [])::(2,.func (.func 102) [] [])::(kBq l7 (kAS a0_ (kV (a0_.length:Int) (w64 (n3+1)))))) ?_
    exact⟨M,(ofG 27 ((1,.func (.func 118) [] [])::(2,.func (.func 102) [] [])::(kBq l7 (kAS a0_ (kV (a0_.length:Int) (w64 (n3+1)))))),(kJ a0_ (kL l7))),Nat.lt_succ_self _,(Sub.refl _),_,_,rfl,g5⟩
   ·refine Goes.exit ?_
    obtain rfl:=si g5
    exact⟨rfl,_,rfl,(Sub.keep [7] rfl rfl)⟩
 rintro x s' ⟨rfl,l4,rfl,hsub⟩
 refine Goes.sub hsub ?_
 refine sh fol [(6,.gslice 1 l4.length 1)] ?_
 refine Goes.ret ?_
 obtain rfl:=si h
 exact(gh2 [.gslice 1 l4.length 1] (qcm.refl _ _))
def vg (N:Nat) (a0_:List qb) (a1_:Option (List StateT)):Option Str:=
 (vV N a0_).bind fun l3=>
 (qgf l3 []).bind fun r4=>
 some r4
theorem vG (N:Nat) (a0_:List qb) (a1_:Option (List StateT)) {s1:Str} (h:vg N a0_ a1_=some s1):qg Tryz.prog (.fn 53) [.ptr 0 0] (kA a0_ a1_ []) (.str s1) (kA a0_ a1_ []):=by
 unfold vg at h
 refine Goes.fnH Tryz.func53 rfl rfl (m:=12) rfl (rs:=[.tmp 2]) rfl (l:=(kAK [])) rfl ?_
 intro B hB
 refine sh fol (kAK []) ?_
 refine sq ?_
 refine sh fol (kAK kAI) ?_
 refine Goes.ifB (b:=false) (by kernel_rfl) (fun c=>(by cases c)) (fun _=>?_)
 refine Goes.skip ?_
 obtain⟨l3,e_r2,h⟩:=bnd h
 obtain⟨r4,e_r4,h⟩:=bnd h
 refine sq (gq fol [5,6] [(2,.str r4)] (kA a0_ a1_ (kL l3)) (ac (hs (.callH 117 [.gslice 1 a0_.length 5,.func (.func 118) [] [],.func (.func 102) [] []] (kA a0_ a1_ []) [1] (.gslice 3 l3.length 1) (kA a0_ a1_ (kL l3))) (kg [some 1] [none,some 0,none,some 1] (qcg N a0_ e_r2) (.ks .nil) rfl rfl (.old rfl rfl (.back rfl rfl (.same fa) rfl (.old rfl rfl (.new rfl rfl (.same fa) rfl .nil)))) (rc (.gslice rfl) (rc (.same (ql.func sn sn)) (rc (.same (ql.func sn sn)) rn))) (.gslice rfl) rfl)) (ac (hs (.call 116 [.gslice 3 l3.length 1,.str []] (kA a0_ a1_ (kL l3)) [3] [vl encS l3,.str []] (.str r4)) (qak (FzL.cons (Fz.gs (E:=encS) rfl rfl (nl rfl)) (FzL.cons (Fz.still tS) FzL.nil)) (qkb l3 [] e_r4) tS rfl)) az)) ?_)
 refine Goes.ret ?_
 obtain rfl:=si h
 exact(gh2 [.str r4] (Sub.norm [] [some 0,some 1,some 2] (by rw[hB];rfl) rfl (.keep (.same nS) .nil) (.kb rfl (.cells (rc (.gslice rfl) (rc (.hs rfl) rn))) (.ks (.ks .nil)))))
def qR (a0_:List qb):Nat→(List qb)→Int→Option (List qb)
 |0,_,_=>none
 |K+1,l2,n3=>
  if n3<(a0_.length:Int)then
  (((idx a0_ n3).bind fun x9=>
  (vF x9).bind fun r10=>
  if r10=true then
  (ja x9).bind fun r12=>
  (app 88 l2 [r12]).bind fun l13=>
  some l13
  else
  some l2:Option (List qb))).bind fun l7=>
  qR a0_ K l7 (w64 (n3+1))
  else
  some l2
def yg (N:Nat) (a0_:List qb):Option (List qb):=
 (qR a0_ N ([]:List qb) 0).bind fun l4=>
 some l4
theorem qco (N:Nat) (a0_:List qb) {l1:List qb} (h:yg N a0_=some l1):qg Tryz.prog (.fn 113) [.gslice 0 a0_.length 5,.func (.func 114) [] [],.func (.func 115) [] []] (kJ a0_ []) (.gslice 1 l1.length 5) (kJ a0_ (kJ l1 [])):=by
 unfold yg at h
 refine Goes.fnH Tryz.func113 rfl rfl (m:=27) rfl (rs:=[.tmp 6]) rfl (l:=[(0,.gslice 0 a0_.length 5),(1,.func (.func 114) [] []),(2,.func (.func 115) [] [])]) rfl ?_
 intro B hB
 refine sh fol [(0,.gslice 0 a0_.length 5),(1,.func (.func 114) [] []),(2,.func (.func 115) [] [])] ?_
 refine sh fol [(0,.gslice 0 a0_.length 5),(1,.func (.func 114) [] []),(2,.func (.func 115) [] []),(7,.nilslice)] ?_
 refine sq ?_
 refine sh fol ((1,.func (.func 114) [] [])::(2,.func (.func 115) [] [])::(7,.nilslice)::(kAS a0_ (kA5 (a0_.length:Int)))) ?_
 refine Goes.block ?_
 obtain⟨r5,g5,h⟩:=bnd h
 refine Goes.imp (Q:=fun x s'=>(x= .exit 0∧ ∃l4,l4=r5∧Sub s' (ofG 27 (kBr l4 []),(kJ a0_ (kJ l4 []))))) ?_ ?_
 ·refine Goes.sub (s':=(ofG 27 ((1,.func (.func 114) [] [])::(2,.func (.func 115) [] [])::(7,.gslice 1 ([]:List qb).length 5)::(kAS a0_ (kA5 (a0_.length:Int)))),(kJ a0_ [.cells (([]:List qb).flatMap qa.c)]))) (Sub.norm [] [some 0,none] (by rw[hB];rfl) rfl (.keep (.same (ql.func sn sn)) (.keep (.same (ql.func sn sn)) (.keep .nil (.keep (.gslice rfl) (.keep (.same nI) (.keep (.same nI) .nil)))))) (.ks (.fresh .nil))) ?_
  refine Goes.loopS (fun M s=> ∃(l2:List qb) (n3:Int),s=(ofG 27 ((1,.func (.func 114) [] [])::(2,.func (.func 115) [] [])::(kBr l2 (kAS a0_ (kV (a0_.length:Int) n3)))),(kJ a0_ (kJ l2 [])))∧qR a0_ M l2 n3=some r5) ?_ (m:=N) ⟨_,_,rfl,g5⟩
  rintro M s ⟨l2,n3,rfl,g5⟩
  cases M with
  |zero=>simp only[qR]at g5;cases g5
  |succ M=>
   rw[qR]at g5
   refine sh fol ((1,.func (.func 114) [] [])::(2,.func (.func 115) [] [])::(kBr l2 (kAS a0_ (kBd (a0_.length:Int) n3 (kB4 (decide (n3<(a0_.length:Int)))))))) ?_
   refine sq ?_
   refine ihD g5 (fun c6 g5=>?_) (fun c6 g5=>?_)
   ·refine Goes.skip ?_
    refine sq ?_
    obtain⟨r8,g8,g5⟩:=bnd g5
    refine Goes.imp (Q:=fun x s'=>(x= .normal∧ ∃l7,l7=r8∧Sub s' (ofG 27 ((1,.func (.func 114) [] [])::(2,.func (.func 115) [] [])::(kBr l7 (kAS a0_ (kV (a0_.length:Int) n3)))),(kJ a0_ (kJ l7 []))))) ?_ ?_
    ·refine Goes.block ?_
     obtain⟨x9,e_x9,g8⟩:=bnd g8
     refine sq (gq fol [0,1] ((1,.func (.func 114) [] [])::(2,.func (.func 115) [] [])::(kBr l2 ((9,.ptr 2 0)::(kAS a0_ (kV (a0_.length:Int) n3))))) (kJ a0_ (kJ l2 (kW x9 []))) (ac (hs (.done (.opt (qz Tryz.prog 22 (.gslice 0 a0_.length 5) (.i n3))) (.ptr 0 ((n3:Int).toNat*5+0))) (qjn zV e_x9)) (ac (hs (.run [0] (jJ Tryz.prog 26 (.ptr 0 ((n3:Int).toNat*5+0))) (kJ a0_ (kJ l2 [])) (.agg (cE x9)) (kJ a0_ (kJ l2 [])) false) (qjD qjb (E:=qa) (l:=a0_) rfl rfl e_x9)) az)) ?_)
     obtain⟨r10,e_r10,g8⟩:=bnd g8
     refine sq (gr fol [2] ((1,.func (.func 114) [] [])::(2,.func (.func 115) [] [])::(kBr l2 ((9,.ptr 2 0)::(kAS a0_ (kBd (a0_.length:Int) n3 [(18,.bool r10)]))))) (ac (cv (qbL x9 e_r10)) az) ?_)
     refine ihB g8 (fun c11 g8=>?_) (fun c11 g8=>?_)
     ·obtain⟨r12,e_r12,g8⟩:=bnd g8
      obtain⟨l13,e_l13,g8⟩:=bnd g8
      refine gq fol [3,5] ((1,.func (.func 114) [] [])::(2,.func (.func 115) [] [])::(7,.gslice 4 l13.length 5)::(kAS a0_ (kV (a0_.length:Int) n3))) (kJ a0_ (.dead::(kW x9 (kW r12 (kJ l13 []))))) (ac (cv (xU x9 e_r12)) (ac (hs (.run [1,3] (qP Tryz.prog [22,22] (.gslice 1 l2.length 5) (.slice 3 0 1 1 5)) (kJ a0_ (kJ l2 (kW x9 (kW r12 [])))) (.gslice 4 l13.length 5) (kJ a0_ (.dead::(kW x9 (kW r12 (kJ l13 []))))) true) (jH zV (E:=qa) rfl (qa8 (E:=qa) (ys:=[r12]) rfl rfl rfl rfl) (qeO (E:=qa) (l:=l2) rfl rfl rfl e_l13 rfl))) az)) ?_
      obtain rfl:=si g8
      exact⟨rfl,_,rfl,(Sub.norm [] [some 0,some 4] (by rw[hB];rfl) rfl (.keep (.same (ql.func sn sn)) (.keep (.same (ql.func sn sn)) (.keep (.gslice rfl) (.keep (.gslice rfl) (.keep (.same nI) (.keep (.same nI) .nil)))))) (.ks (.ks .nil)))⟩
     ·refine Goes.skip ?_
      obtain rfl:=si g8
      exact⟨rfl,_,rfl,(Sub.norm [] [some 0,some 1] (by rw[hB];rfl) rfl (.keep (.same (ql.func sn sn)) (.keep (.same (ql.func sn sn)) (.keep (.gslice rfl) (.drop (.keep (.gslice rfl) (.keep (.same nI) (.keep (.same nI) .nil))))))) (.ks (.ks .nil)))⟩
    rintro x s' ⟨rfl,l7,rfl,hsub⟩
    refine Goes.sub hsub ?_
    refine gh fol ((1,.func (.func 114) [] [])::(2,.func (.func 115) [] [])::(kBr l7 (kAS a0_ (kV (a0_.length:Int) (w64 (n3+1)))))) ?_
    exact⟨M,(ofG 27 ((1,.func (.func 114) [] [])::(2,.func (.func 115) [] [])::(kBr l7 (kAS a0_ (kV (a0_.length:Int) (w64 (n3+1)))))),(kJ a0_ (kJ l7 []))),Nat.lt_succ_self _,(Sub.refl _),_,_,rfl,g5⟩
   ·refine Goes.exit ?_
    obtain rfl:=si g5
    exact⟨rfl,_,rfl,(Sub.keep [7] rfl rfl)⟩
 rintro x s' ⟨rfl,l4,rfl,hsub⟩
 refine Goes.sub hsub ?_
 refine sh fol [(6,.gslice 1 l4.length 5)] ?_
 refine Goes.ret ?_
 obtain rfl:=si h
 exact(gh2 [.gslice 1 l4.length 5] (qcm.refl _ _))
def jF (N:Nat) (a0_:List qb) (a1_:Option (List StateT)):Option (List qb):=
 (yg N a0_).bind fun l3=>
 some l3
theorem qbK (N:Nat) (a0_:List qb) (a1_:Option (List StateT)) {l1:List qb} (h:jF N a0_ a1_=some l1):qg Tryz.prog (.fn 52) [.ptr 0 0] (kA a0_ a1_ []) (.gslice 3 l1.length 5) (kA a0_ a1_ (kJ l1 [])):=by
 unfold jF at h
 refine Goes.fnH Tryz.func52 rfl rfl (m:=11) rfl (rs:=[.tmp 2]) rfl (l:=(kAK [])) rfl ?_
 intro B hB
 refine sh fol (kAK []) ?_
 refine sq ?_
 refine sh fol (kAK kAI) ?_
 refine Goes.ifB (b:=false) (by kernel_rfl) (fun c=>(by cases c)) (fun _=>?_)
 refine Goes.skip ?_
 obtain⟨l3,e_r2,h⟩:=bnd h
 refine sq (gq fol [5] [(2,.gslice 3 l3.length 5)] (kA a0_ a1_ (kJ l3 [])) (ac (hs (.callH 113 [.gslice 1 a0_.length 5,.func (.func 114) [] [],.func (.func 115) [] []] (kA a0_ a1_ []) [1] (.gslice 3 l3.length 5) (kA a0_ a1_ (kJ l3 []))) (kg [some 1] [none,some 0,none,some 1] (qco N a0_ e_r2) (.ks .nil) rfl rfl (.old rfl rfl (.back rfl rfl (.same fa) rfl (.old rfl rfl (.new rfl rfl (.same fa) rfl .nil)))) (rc (.gslice rfl) (rc (.same (ql.func sn sn)) (rc (.same (ql.func sn sn)) rn))) (.gslice rfl) rfl)) az) ?_)
 refine Goes.ret ?_
 obtain rfl:=si h
 exact(gh2 [.gslice 3 l3.length 5] (qcm.refl _ _))
end Go.Av
