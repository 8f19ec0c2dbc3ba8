/-
  Walks of functions: what each computes, as a plain function.
-/
import Derived.Test.YtphbhegcojmijaaGreatDoorQGenC2
noncomputable section
namespace Go.Av
open Go.Proofs Go.RowKit
set_option linter.unusedSectionVars false
set_option linter.unusedVariables false
set_option linter.unusedSimpArgs false
set_option maxRecDepth 100000
def qW (slices:List (List Str)):Nat→Int→Int→Option Int
 |0,_,_=>none
 |K+1,n1,n2=>
  if n1<(slices.length:Int)then
  (((idx slices n1).bind fun x8=>
  if(w64 (n2+(x8.length:Int)))<0 then
  none
  else
  some (w64 (n2+(x8.length:Int))):Option Int)).bind fun n6=>
  qW slices K (w64 (n1+1)) n6
  else
  some n2
def qV (slices:List (List Str)):Nat→(Option (List Str))→Int→Option (Option (List Str))
 |0,_,_=>none
 |K+1,o12,n13=>
  if n13<(slices.length:Int)then
  (idx slices n13).bind fun x17=>
  ((match o12 with
  |none=>
  none
  |some l18=>
  (app 16 l18 x17).bind fun l19=>
  some l19):Option (List Str)).bind fun l20=>
  qV slices K (some l20) (w64 (n13+1))
  else
  some o12
def j3 (N:Nat) (slices:List (List Str)):Option (List Str):=
 (qW slices N 0 0).bind fun n3=>
 (jJ n3).bind fun o11=>
 (qV slices N o11 0).bind fun o14=>
 some (hof o14)
theorem qce (N:Nat) (slices:List (List Str)) {res:List Str} (h:j3 N slices=some res):qf Tryz.prog (.fn 145) [vl (vF encS) slices] [] (vl encS res) []:=by
 unfold j3 at h
 refine Goes.fnW Tryz.func145 rfl rfl (m:=36) rfl (rs:=[.tmp 2]) rfl (l:=[(0,vl (vF encS) slices)]) rfl ?_
 refine sh fol [(0,vl (vF encS) slices)] ?_
 refine sh fol [(0,vl (vF encS) slices),(3,.i 0)] ?_
 refine sq ?_
 refine sh fol [(0,vl (vF encS) slices),(3,.i 0),(9,vl (vF encS) slices),(10,.i (slices.length:Int)),(11,.i 0)] ?_
 refine Goes.block ?_
 obtain⟨r4,g4,h⟩:=bnd h
 refine Goes.imp (Q:=fun x s'=>(x= .exit 0∧ ∃n3,n3=r4∧Sub s' (ofG 36 [(0,vl (vF encS) slices),(3,.i n3)],[]))) ?_ ?_
 ·refine Goes.loopS (fun M s=> ∃(n1:Int) (n2:Int),s=(ofG 36 ((0,vl (vF encS) slices)::(3,.i n2)::(9,vl (vF encS) slices)::(kBN (slices.length:Int) n1)),[])∧qW slices M n1 n2=some r4) ?_ (m:=N) ⟨_,_,rfl,g4⟩
  rintro M s ⟨n1,n2,rfl,g4⟩
  cases M with
  |zero=>simp only[qW]at g4;cases g4
  |succ M=>
   rw[qW]at g4
   refine sh fol [(0,vl (vF encS) slices),(3,.i n2),(9,vl (vF encS) slices),(10,.i (slices.length:Int)),(11,.i n1),(12,.bool (decide (n1<(slices.length:Int))))] ?_
   refine sq ?_
   refine ihD g4 (fun c5 g4=>?_) (fun c5 g4=>?_)
   ·refine Goes.skip ?_
    refine sq ?_
    obtain⟨r7,g7,g4⟩:=bnd g4
    refine Goes.imp (Q:=fun x s'=>(x= .normal∧ ∃n6,n6=r7∧Sub s' (ofG 36 ((0,vl (vF encS) slices)::(3,.i n6)::(9,vl (vF encS) slices)::(kBN (slices.length:Int) n1)),[]))) ?_ ?_
    ·refine Goes.block ?_
     obtain⟨x8,e_x8,g7⟩:=bnd g7
     refine sq (gr fol [0,1] ((0,vl (vF encS) slices)::(3,.i n2)::(5,vl encS x8)::(9,vl (vF encS) slices)::(kBN (slices.length:Int) n1)) (ac (iv qov (vF encS) e_x8) (ac (lv 0 qe6 (vF encS) e_x8 rfl) az)) ?_)
     refine sh fol ((0,vl (vF encS) slices)::(3,.i (w64 (n2+(x8.length:Int))))::(9,vl (vF encS) slices)::(kBN (slices.length:Int) n1)) ?_
     refine sh fol [(0,vl (vF encS) slices),(3,.i (w64 (n2+(x8.length:Int)))),(9,vl (vF encS) slices),(10,.i (slices.length:Int)),(11,.i n1),(20,.bool (decide ((w64 (n2+(x8.length:Int)))<0)))] ?_
     refine ihD g7 (fun c9 g7=>?_) (fun c9 g7=>?_)
     ·cases g7
     ·refine Goes.skip ?_
      obtain rfl:=si g7
      exact⟨rfl,_,rfl,(Sub.keep [0,3,9,10,11] rfl rfl)⟩
    rintro x s' ⟨rfl,n6,rfl,hsub⟩
    refine Goes.sub hsub ?_
    refine gh fol ((0,vl (vF encS) slices)::(3,.i n6)::(9,vl (vF encS) slices)::(kBN (slices.length:Int) (w64 (n1+1)))) ?_
    exact⟨M,(ofG 36 ((0,vl (vF encS) slices)::(3,.i n6)::(9,vl (vF encS) slices)::(kBN (slices.length:Int) (w64 (n1+1)))),[]),Nat.lt_succ_self _,(Sub.refl _),_,_,rfl,g4⟩
   ·refine Goes.exit ?_
    obtain rfl:=si g4
    exact⟨rfl,_,rfl,(Sub.keep [0,3] rfl rfl)⟩
 rintro x s' ⟨rfl,n3,rfl,hsub⟩
 refine Goes.sub hsub ?_
 obtain⟨o11,e_r10,h⟩:=bnd h
 refine sq (gq fol [1] [(0,vl (vF encS) slices),(6,hsl 0 1 o11)] (kA1 o11) (ac (hs (.callH 208 [.nilslice,.i n3] [] [] (hsl 0 1 o11) (kA1 o11)) (jL [] [some 0] (qbW n3 e_r10) .nil rfl rfl (.new rfl rfl (.same fa) rfl .nil) (rc (.same (qo.nilslice)) (rc (.same nI) rn)) (.hs rfl) rfl)) az) ?_)
 refine sq ?_
 refine sh fol [(6,hsl 0 1 o11),(25,vl (vF encS) slices),(26,.i (slices.length:Int)),(27,.i 0)] ?_
 refine Goes.block ?_
 obtain⟨r15,g15,h⟩:=bnd h
 refine Goes.imp (Q:=fun x s'=>(x= .exit 2∧ ∃o14,o14=r15∧Sub s' (ofG 36 [(6,hsl 0 1 o14)],(kA1 o14)))) ?_ ?_
 ·refine Goes.loopS (fun M s=> ∃(o12:Option (List Str)) (n13:Int),s=(ofG 36 [(6,hsl 0 1 o12),(25,vl (vF encS) slices),(26,.i (slices.length:Int)),(27,.i n13)],(kA1 o12))∧qV slices M o12 n13=some r15) ?_ (m:=N) ⟨_,_,rfl,g15⟩
  rintro M s ⟨o12,n13,rfl,g15⟩
  cases M with
  |zero=>simp only[qV]at g15;cases g15
  |succ M=>
   rw[qV]at g15
   refine sh fol [(6,hsl 0 1 o12),(25,vl (vF encS) slices),(26,.i (slices.length:Int)),(27,.i n13),(28,.bool (decide (n13<(slices.length:Int))))] ?_
   refine sq ?_
   refine ihD g15 (fun c16 g15=>?_) (fun c16 g15=>?_)
   ·refine Goes.skip ?_
    refine sq (Goes.block ?_)
    obtain⟨x17,e_x17,g15⟩:=bnd g15
    refine sq (gr fol [0,1] [(6,hsl 0 1 o12),(8,vl encS x17),(25,vl (vF encS) slices),(26,.i (slices.length:Int)),(27,.i n13)] (ac (iv qov (vF encS) e_x17) (ac (lv 0 qe6 (vF encS) e_x17 rfl) az)) ?_)
    obtain⟨l20,g_v21,g15⟩:=bnd g15
    refine Goes.cut (s':=(ofG 36 [(6,.oslice 1 l20.length 1),(25,vl (vF encS) slices),(26,.i (slices.length:Int)),(27,.i n13)],(.dead::(kM l20)))) ?_ ?_
    ·rcases o12 with _|l18
     ·try dsimp only at g_v21
      cases g_v21
     ·try dsimp only at g_v21
      obtain⟨l19,e_l19,g_v21⟩:=bnd g_v21
      obtain rfl:=si g_v21
      exact qh.rq fol [2] [(6,.oslice 1 l19.length 1),(25,vl (vF encS) slices),(26,.i (slices.length:Int)),(27,.i n13)] (.dead::(kM l19)) (ac (hs (.run [0] (qR Tryz.prog [37,37] (.oslice 0 l18.length 1) (vl encS x17)) (kM l18) (.oslice 1 l19.length 1) (.dead::(kM l19)) true) (jG vV (E:=encS) rfl (qdv (E:=encS) rfl _) (qgD (E:=encS) (l:=l18) rfl rfl rfl e_l19 rfl))) az)
    refine gh fol [(6,.oslice 1 l20.length 1),(25,vl (vF encS) slices),(26,.i (slices.length:Int)),(27,.i (w64 (n13+1)))] ?_
    exact⟨M,(ofG 36 [(6,hsl 0 1 (some l20)),(25,vl (vF encS) slices),(26,.i (slices.length:Int)),(27,.i (w64 (n13+1)))],(kA1 (some l20))),Nat.lt_succ_self _,(Sub.norm [] [some 1] rfl rfl (.keep (qZ.hs1 rfl) (.keep (.same (qw (vF encS) _)) (.keep (.same nI) (.keep (.same nI) .nil)))) (.ks .nil)),_,_,rfl,g15⟩
   ·refine Goes.exit ?_
    obtain rfl:=si g15
    exact⟨rfl,_,rfl,(Sub.keep [6] rfl rfl)⟩
 rintro x s' ⟨rfl,o14,rfl,hsub⟩
 refine Goes.sub hsub ?_
 refine sh fol [(2,hsl 0 1 o14)] ?_
 refine Goes.ret ?_
 obtain rfl:=si h
 exact(gw2 [hsl 0 1 o14] (FzW.hs (E:=encS) rfl rfl (nl rfl)))
def qaO (p0:Int):Option Bool:=
 some true
theorem qfn (p0:Int) {res:Bool} (h:qaO p0=some res):qf Tryz.prog (.fn 147) [.i p0] [] (.bool res) []:=by
 unfold qaO at h
 refine Goes.fnW Tryz.func147 rfl rfl (m:=3) rfl (rs:=[.tmp 2]) rfl (l:=[(0,.i p0)]) rfl ?_
 refine sh fol [] ?_
 refine sh fol [(2,.bool true)] ?_
 refine Goes.ret ?_
 obtain rfl:=si h
 exact(gw2 [.bool true] (FzW.still tB))
def qI (a0_:List Int):Nat→(List Str)→Int→Option (List Str)
 |0,_,_=>none
 |K+1,l1,n2=>
  if n2<(a0_.length:Int)then
  (((idx a0_ n2).bind fun x8=>
  (qaO x8).bind fun r9=>
  if r9=true then
  (qdW x8).bind fun r11=>
  (app 16 l1 [r11]).bind fun l12=>
  some l12
  else
  some l1:Option (List Str))).bind fun l6=>
  qI a0_ K l6 (w64 (n2+1))
  else
  some l1
def jf (N:Nat) (a0_:List Int):Option (List Str):=
 (qI a0_ N ([]:List Str) 0).bind fun l3=>
 some l3
theorem qbv (N:Nat) (a0_:List Int) {res:List Str} (h:jf N a0_=some res):qf Tryz.prog (.fn 146) [vl encI a0_,.func (.func 147) [] [],.func (.func 123) [] []] [] (vl encS res) []:=by
 unfold jf at h
 refine Goes.fnW Tryz.func146 rfl rfl (m:=27) rfl (rs:=[.tmp 6]) rfl (l:=[(0,vl encI a0_),(1,.func (.func 147) [] []),(2,.func (.func 123) [] [])]) rfl ?_
 refine sh fol [(0,vl encI a0_),(1,.func (.func 147) [] []),(2,.func (.func 123) [] [])] ?_
 refine sh fol [(0,vl encI a0_),(1,.func (.func 147) [] []),(2,.func (.func 123) [] []),(7,.nilslice)] ?_
 refine sq ?_
 refine sh fol [(1,.func (.func 147) [] []),(2,.func (.func 123) [] []),(7,.nilslice),(10,vl encI a0_),(11,.i (a0_.length:Int)),(12,.i 0)] ?_
 refine Goes.block ?_
 obtain⟨r4,g4,h⟩:=bnd h
 refine Goes.imp (Q:=fun x s'=>(x= .exit 0∧ ∃l3,l3=r4∧Sub s' (ofG 27 (kAh l3 []),(kM l3)))) ?_ ?_
 ·refine Goes.sub (s':=(ofG 27 [(1,.func (.func 147) [] []),(2,.func (.func 123) [] []),(7,.gslice 0 ([]:List Str).length 1),(10,vl encI a0_),(11,.i (a0_.length:Int)),(12,.i 0)],[.cells (([]:List Str).flatMap encS.c)])) (Sub.norm [] [none] rfl rfl (.keep (.same (qo.func sn sn)) (.keep (.same (qo.func sn sn)) (.keep .nil (.keep (.same (qw encI _)) (.keep (.same nI) (.keep (.same nI) .nil)))))) (.fresh .nil)) ?_
  refine Goes.loopS (fun M s=> ∃(l1:List Str) (n2:Int),s=(ofG 27 ((1,.func (.func 147) [] [])::(2,.func (.func 123) [] [])::(kAh l1 ((10,vl encI a0_)::(kAI (a0_.length:Int) n2)))),(kM l1))∧qI a0_ M l1 n2=some r4) ?_ (m:=N) ⟨_,_,rfl,g4⟩
  rintro M s ⟨l1,n2,rfl,g4⟩
  cases M with
  |zero=>simp only[qI]at g4;cases g4
  |succ M=>
   rw[qI]at g4
   refine sh fol ((1,.func (.func 147) [] [])::(2,.func (.func 123) [] [])::(kAh l1 [(10,vl encI a0_),(11,.i (a0_.length:Int)),(12,.i n2),(13,.bool (decide (n2<(a0_.length:Int))))])) ?_
   refine sq ?_
   refine ihD g4 (fun c5 g4=>?_) (fun c5 g4=>?_)
   ·refine Goes.skip ?_
    refine sq ?_
    obtain⟨r7,g7,g4⟩:=bnd g4
    refine Goes.imp (Q:=fun x s'=>(x= .normal∧ ∃l6,l6=r7∧Sub s' (ofG 27 ((1,.func (.func 147) [] [])::(2,.func (.func 123) [] [])::(kAh l6 ((10,vl encI a0_)::(kAI (a0_.length:Int) n2)))),(kM l6)))) ?_ ?_
    ·refine Goes.block ?_
     obtain⟨x8,e_x8,g7⟩:=bnd g7
     refine sq (gr fol [0,1] ((1,.func (.func 147) [] [])::(2,.func (.func 123) [] [])::(kAh l1 ((9,.i x8)::(10,vl encI a0_)::(kAI (a0_.length:Int) n2)))) (ac (iv yX encI e_x8) (ac (lv 0 ce3 encI e_x8 rfl) az)) ?_)
     obtain⟨r9,e_r9,g7⟩:=bnd g7
     refine sq (gr fol [2] ((1,.func (.func 147) [] [])::(2,.func (.func 123) [] [])::(kAh l1 [(9,.i x8),(10,vl encI a0_),(11,.i (a0_.length:Int)),(12,.i n2),(18,.bool r9)])) (ac (cv (qfn x8 e_r9)) az) ?_)
     refine ihB g7 (fun c10 g7=>?_) (fun c10 g7=>?_)
     ·obtain⟨r11,e_r11,g7⟩:=bnd g7
      obtain⟨l12,e_l12,g7⟩:=bnd g7
      refine gq fol [3,5] ((1,.func (.func 147) [] [])::(2,.func (.func 123) [] [])::(7,.gslice 2 l12.length 1)::(10,vl encI a0_)::(kAI (a0_.length:Int) n2)) (.dead::(kAp r11 (kM l12))) (ac (cv (qgR x8 e_r11)) (ac (hs (.run [0,1] (qR Tryz.prog [37,37] (.gslice 0 l1.length 1) (.slice 1 0 1 1 1)) (.cells (l1.flatMap encS.c)::(kAp r11 [])) (.gslice 2 l12.length 1) (.dead::(kAp r11 (kM l12))) true) (jG vV (E:=encS) rfl (qbH (E:=encS) (ys:=[r11]) rfl rfl rfl rfl) (qgQ (E:=encS) (l:=l1) rfl rfl rfl e_l12 rfl))) az)) ?_
      obtain rfl:=si g7
      exact⟨rfl,_,rfl,(Sub.norm [] [some 2] rfl rfl (.keep (.same (qo.func sn sn)) (.keep (.same (qo.func sn sn)) (.keep (.gslice rfl) (.keep (.same (qw encI _)) (.keep (.same nI) (.keep (.same nI) .nil)))))) (.ks .nil))⟩
     ·refine Goes.skip ?_
      obtain rfl:=si g7
      exact⟨rfl,_,rfl,(Sub.keep [1,2,7,10,11,12] rfl rfl)⟩
    rintro x s' ⟨rfl,l6,rfl,hsub⟩
    refine Goes.sub hsub ?_
    refine gh fol ((1,.func (.func 147) [] [])::(2,.func (.func 123) [] [])::(kAh l6 ((10,vl encI a0_)::(kAI (a0_.length:Int) (w64 (n2+1)))))) ?_
    exact⟨M,(ofG 27 ((1,.func (.func 147) [] [])::(2,.func (.func 123) [] [])::(kAh l6 ((10,vl encI a0_)::(kAI (a0_.length:Int) (w64 (n2+1)))))),(kM l6)),Nat.lt_succ_self _,(Sub.refl _),_,_,rfl,g4⟩
   ·refine Goes.exit ?_
    obtain rfl:=si g4
    exact⟨rfl,_,rfl,(Sub.keep [7] rfl rfl)⟩
 rintro x s' ⟨rfl,l3,rfl,hsub⟩
 refine Goes.sub hsub ?_
 refine sh fol [(6,.gslice 0 l3.length 1)] ?_
 refine Goes.ret ?_
 obtain rfl:=si h
 exact(gw2 [.gslice 0 l3.length 1] (FzW.fz (Fz.gs (E:=encS) rfl rfl (nl rfl))))
def qad (N:Nat) (e:qb):Option Str:=
 (qdW e.Number).bind fun r1=>
 (jf N e.Values).bind fun r2=>
 (j3 N ([([r1,e.Kind]:List Str),e.Names,r2]:List (List Str))).bind fun r3=>
 (qbF r3).bind fun r4=>
 some r4
theorem qdg (N:Nat) (e:qb) {res:Str} (h:qad N e=some res):qf Tryz.prog (.fn 99) [.agg (cE e)] [] (.str res) []:=by
 unfold qad at h
 refine Goes.fnW Tryz.func99 rfl rfl (m:=19) rfl (rs:=[.tmp 2]) rfl (l:=[(0,.agg (cE e))]) rfl ?_
 refine sg fol (kV []) (kAE e) ?_
 obtain⟨r1,e_r1,h⟩:=bnd h
 obtain⟨r2,e_r2,h⟩:=bnd h
 obtain⟨r3,e_r3,h⟩:=bnd h
 refine sq (gq fol [2,10,12] [(3,vl encS r3)] (kA0 e [.frozen [.str r1,.str e.Kind],.frozen [.slice 1 0 2 2 1,vl encS e.Names,vl encS r2]]) (ac (cv (qgR e.Number e_r1)) (ac (hs (.call 146 [vl encI e.Values,.func (.func 147) [] [],.func (.func 123) [] []] [] [] [vl encI e.Values,.func (.func 147) [] [],.func (.func 123) [] []] (vl encS r2)) (qjQ (FzL.cons (Fz.still (ko encI _ (nl rfl))) (FzL.cons (Fz.func FzL.nil FzL.nil) (FzL.cons (Fz.func FzL.nil FzL.nil) FzL.nil))) (qbv N e.Values e_r2) (ko encS _ (nl rfl)))) (ac (hs (.callF 145 [.slice 2 0 3 3 1] (kA0 e [.cells [.str r1,.str e.Kind],.cells [.slice 1 0 2 2 1,vl encS e.Names,vl encS r2]]) [2,1] [vl (vF encS) ([([r1,e.Kind]:List Str),e.Names,r2]:List (List Str))] (vl encS r3)) (qgK (FzL.cons (Fz.lit rfl rfl (FzL.cons (Fz.lit rfl rfl (FzL.still (AllST.cons tS (AllST.cons tS AllST.nil)))) (FzL.cons (Fz.still (ko encS _ (nl rfl))) (FzL.cons (Fz.still (ko encS _ (nl rfl))) FzL.nil)))) FzL.nil) (qce N ([([r1,e.Kind]:List Str),e.Names,r2]:List (List Str)) e_r3) (ko encS _ (nl rfl)))) az))) ?_)
 refine Goes.sub (show Sub (ofG 19 [(3,vl encS r3)],(kA0 e [.frozen [.str r1,.str e.Kind],.frozen [.slice 1 0 2 2 1,vl encS e.Names,vl encS r2]])) (ofG 19 [(3,vl encS r3)],[])from(Sub.norm [] [] rfl rfl (.keep (.same (qw encS _)) .nil) .nil)) ?_
 obtain⟨r4,e_r4,h⟩:=bnd h
 refine sq (gr fol [1] [(2,.str r4)] (ac (cv (qf7 r3 e_r4)) az) ?_)
 refine Goes.ret ?_
 obtain rfl:=si h
 exact(gw2 [.str r4] (FzW.still tS))
def xO (N:Nat) (e:qb):Option Str:=
 (qad N e).bind fun r1=>
 (cat r1 [59]).bind fun s2=>
 (qad N e).bind fun r3=>
 (qaB N r3).bind fun r4=>
 (cat s2 r4).bind fun s5=>
 (cat s5 [10]).bind fun s6=>
 some s6
theorem qfl (N:Nat) (e:qb) {res:Str} (h:xO N e=some res):qf Tryz.prog (.fn 40) [.agg (cE e)] [] (.str res) []:=by
 unfold xO at h
 refine Goes.fnW Tryz.func40 rfl rfl (m:=11) rfl (rs:=[.tmp 2]) rfl (l:=[(0,.agg (cE e))]) rfl ?_
 refine sg fol (kV []) (kAE e) ?_
 obtain⟨r1,e_r1,h⟩:=bnd h
 obtain⟨s2,e_s2,h⟩:=bnd h
 obtain⟨r3,e_r3,h⟩:=bnd h
 obtain⟨r4,e_r4,h⟩:=bnd h
 obtain⟨s5,e_s5,h⟩:=bnd h
 obtain⟨s6,e_s6,h⟩:=bnd h
 refine sq (gr fol [1,2,4,5,6,7] [(2,.str s6)] (ac (cv (qdg N e e_r1)) (ac (hs (.done (.opt (xe Tryz.prog .add 9 (.tmp 4) (.const (.string ⟨#[59]⟩)) (.str r1) (.str [59]))) (.str s2)) (vG e_s2)) (ac (cv (qdg N e e_r3)) (ac (cv (qd6 N r3 e_r4)) (ac (hs (.done (.opt (xe Tryz.prog .add 9 (.tmp 5) (.tmp 8) (.str s2) (.str r4))) (.str s5)) (vG e_s5)) (ac (hs (.done (.opt (xe Tryz.prog .add 9 (.tmp 9) (.const (.string ⟨#[10]⟩)) (.str s5) (.str [10]))) (.str s6)) (vG e_s6)) az)))))) ?_)
 refine Goes.ret ?_
 obtain rfl:=si h
 exact(gw2 [.str s6] (FzW.still tS))
def xQ (N:Nat) (log:Str) (e:qb):Option (Str×Int):=
 (vO N log).bind fun r1=>
 (jA N e).bind fun r2=>
 (qX (!decide (e.Number=(w64 ((r1.1.length:Int)+1)))) 11).bind fun r3=>
 (zH N ([r1.2.2,r2,r3]:List Int)).bind fun r4=>
 if(!decide (r4=0))=true then
 some ([],r4)
 else
 (xO N e).bind fun r6=>
 (cat log r6).bind fun s7=>
 if(s7.length:Int)>1000000 then
 some ([],26)
 else
 some (s7,0)
theorem qfm (N:Nat) (log:Str) (e:qb) {res:Str×Int} (h:xQ N log e=some res):qf Tryz.prog (.fn 10) [.str log,.agg (cE e)] [] (.tuple [.str res.1,.i res.2]) []:=by
 unfold xQ at h
 refine Goes.fnW Tryz.func10 rfl rfl (m:=39) rfl (rs:=[.tmp 4,.tmp 5]) rfl (l:=[(0,.str log),(1,.agg (cE e))]) rfl ?_
 refine sg fol [(0,.str log),(3,.ptr 0 0)] (kAE e) ?_
 obtain⟨r1,e_r1,h⟩:=bnd h
 refine sq (gr fol [1] [(0,.str log),(3,.ptr 0 0),(6,vl qa r1.1),(8,.i r1.2.2)] (ac (cv (qaq N log e_r1)) az) ?_)
 refine sq ?_
 obtain⟨r2,e_r2,h⟩:=bnd h
 obtain⟨r3,e_r3,h⟩:=bnd h
 obtain⟨r4,e_r4,h⟩:=bnd h
 refine sq (gq fol [2,9,11] [(0,.str log),(3,.ptr 0 0),(8,.i r4)] (kA0 e [.cells [.i r1.2.2,.i r2,.i r3]]) (ac (cv (xq N e e_r2)) (ac (cv (qH (!decide (e.Number=(w64 ((r1.1.length:Int)+1)))) 11 e_r3)) (ac (hs (.call 37 [.slice 1 0 3 3 1] (kA0 e [.cells [.i r1.2.2,.i r2,.i r3]]) [1] [vl encI ([r1.2.2,r2,r3]:List Int)] (.i r4)) (qa4 (FzL.cons (Fz.lit rfl rfl (FzL.still (AllST.cons tI (AllST.cons tI (AllST.cons tI AllST.nil))))) FzL.nil) (jd N ([r1.2.2,r2,r3]:List Int) e_r4) tI rfl)) az))) ?_)
 refine sh fol [(0,.str log),(3,.ptr 0 0),(8,.i r4),(29,.bool (!decide (r4=0)))] ?_
 refine ihB h (fun c5 h=>?_) (fun c5 h=>?_)
 ·refine sh fol ((4,.str [])::(kAn r4)) ?_
  refine Goes.ret ?_
  obtain rfl:=si h
  exact(gw2 [.str [],.i r4] (FzW.tuple (qj.cons (FzW.still tS) (qj.cons (FzW.still tI) qj.nil))))
 ·refine Goes.skip ?_
  obtain⟨r6,e_r6,h⟩:=bnd h
  obtain⟨s7,e_s7,h⟩:=bnd h
  refine sq (gr fol [2,3] [(9,.str s7)] (ac (cv (qfl N e e_r6)) (ac (hs (.done (.opt (xe Tryz.prog .add 9 (.tmp 31) (.tmp 33) (.str log) (.str r6))) (.str s7)) (vG e_s7)) az)) ?_)
  refine sq ?_
  refine sh fol [(9,.str s7),(37,.bool (decide ((s7.length:Int)>1000000)))] ?_
  refine ihD h (fun c8 h=>?_) (fun c8 h=>?_)
  ·refine sh fol [(4,.str []),(5,.i 26)] ?_
   refine Goes.ret ?_
   obtain rfl:=si h
   exact(gw2 [.str [],.i 26] (FzW.tuple (qj.cons (FzW.still tS) (qj.cons (FzW.still tI) qj.nil))))
  ·refine Goes.skip ?_
   refine sh fol ((4,.str s7)::kBe) ?_
   refine Goes.ret ?_
   obtain rfl:=si h
   exact(gw2 [.str s7,.i 0] (FzW.tuple (qj.cons (FzW.still tS) (qj.cons (FzW.still tI) qj.nil))))
def yL:Option (List Int):=
 qgI (some []) ((app 8 ([]:List Int) ([]:List Int)).bind fun l1=>
 some l1)
theorem qcW {res:List Int} (h:yL=some res):qf Tryz.prog (.fn 129) [vl encI ([]:List Int)] [] (vl encI res) []:=by
 unfold yL at h
 refine Goes.fnW Tryz.func129 rfl rfl (m:=8) rfl (rs:=[.tmp 2]) rfl (l:=[(0,vl encI ([]:List Int))]) rfl ?_
 refine sh fol [(0,vl encI ([]:List Int))] ?_
 refine sq ?_
 refine sh fol [(0,vl encI ([]:List Int)),(4,.anyb)] ?_
 refine Goes.condAny (by kernel_rfl) ?_ ?_
 ·replace h:=(qcq h).1
  refine sh fol [(2,.nilslice)] ?_
  refine Goes.ret ?_
  obtain rfl:=si h
  exact(gw2 [.nilslice] (FzW.nilv (E:=encI)))
 ·replace h:=(qcq h).2
  refine Goes.skip ?_
  obtain⟨l1,e_l1,h⟩:=bnd h
  refine sq (gq fol [2] [(2,.oslice 1 l1.length 1)] (.dead::(kAM l1)) (ac (hs (.run [0] (qR Tryz.prog [38,38] (.slice 0 0 0 0 1) (vl encI ([]:List Int))) [.cells []] (.oslice 1 l1.length 1) (.dead::(kAM l1)) true) (jG yX (E:=encI) rfl (qdv (E:=encI) rfl _) (qfz (E:=encI) rfl rfl rfl e_l1 rfl))) az) ?_)
  refine Goes.ret ?_
  obtain rfl:=si h
  exact(gw2 [.oslice 1 l1.length 1] (FzW.fz (Fz.os (E:=encI) rfl rfl (nl rfl))))
def yE (x:Int) (xs:List Int):Option (List Int):=
 (app 8 ([]:List Int) (x::xs)).bind fun l1=>
 some l1
theorem qcV (x:Int) (xs:List Int) {res:List Int} (h:yE x xs=some res):qf Tryz.prog (.fn 129) [vl encI (x::xs)] [] (vl encI res) []:=by
 unfold yE at h
 refine Goes.fnW Tryz.func129 rfl rfl (m:=8) rfl (rs:=[.tmp 2]) rfl (l:=[(0,vl encI (x::xs))]) rfl ?_
 refine sh fol [(0,vl encI (x::xs))] ?_
 refine sq ?_
 refine sh fol ((0,vl encI (x::xs))::kAf) ?_
 refine Goes.ifB (b:=false) (by kernel_rfl) (fun c=>(by cases c)) (fun _=>?_)
 refine Goes.skip ?_
 obtain⟨l1,e_l1,h⟩:=bnd h
 refine sq (gq fol [2] [(2,.oslice 1 l1.length 1)] (.dead::(kAM l1)) (ac (hs (.run [0] (qR Tryz.prog [38,38] (.slice 0 0 0 0 1) (vl encI (x::xs))) [.cells []] (.oslice 1 l1.length 1) (.dead::(kAM l1)) true) (jG yX (E:=encI) rfl (qdv (E:=encI) rfl _) (qfz (E:=encI) rfl rfl rfl e_l1 rfl))) az) ?_)
 refine Goes.ret ?_
 obtain rfl:=si h
 exact(gw2 [.oslice 1 l1.length 1] (FzW.fz (Fz.os (E:=encI) rfl rfl (nl rfl))))
def slices_Clone_int:List Int→Option (List Int)
 |[]=>yL
 |x::xs=>yE x xs
theorem qdS (l:List Int) {res:List Int} (h:slices_Clone_int l=some res):qf Tryz.prog (.fn 129) [vl encI l] [] (vl encI res) []:=by
 cases l with
 |nil=>exact qcW h
 |cons x xs=>exact qcV x xs h
def je (e:qb):Option qb:=
 (slices_Clone_string e.Names).bind fun r1=>
 (slices_Clone_int e.Values).bind fun r2=>
 some (⟨e.Number,e.Kind,r1,r2,e.Text⟩:qb)
theorem qaA (e:qb) {res:qb} (h:je e=some res):qf Tryz.prog (.fn 82) [.agg (cE e)] [] (.agg (cE res)) []:=by
 unfold je at h
 refine Goes.fnW Tryz.func82 rfl rfl (m:=12) rfl (rs:=[.cell 2 40]) rfl (l:=[(0,.agg (cE e))]) rfl ?_
 refine sg fol (kV [(2,.ptr 1 0)]) (kA0 e (kJ [])) ?_
 obtain⟨r1,e_r1,h⟩:=bnd h
 obtain⟨r2,e_r2,h⟩:=bnd h
 refine sq (gq fol [2,5] (kV [(2,.ptr 1 0)]) (.cells [.i e.Number,.str e.Kind,vl encS r1,vl encI r2,.str e.Text]::(kJ [])) (ac (cv (qat e.Names e_r1)) (ac (cv (qdS e.Values e_r2)) az)) ?_)
 refine sg fol [(2,.ptr 1 0)] (kN e.Number e.Kind r1 r2 e.Text []) ?_
 refine Goes.ret ?_
 obtain rfl:=si h
 exact(gw2 [.agg [.i e.Number,.str e.Kind,vl encS r1,vl encI r2,.str e.Text]] (FzW.agg (qj.cons (FzW.still tI) (qj.cons (FzW.still tS) (qj.cons (FzW.still (ko encS _ (nl rfl))) (qj.cons (FzW.still (ko encI _ (nl rfl))) (qj.cons (FzW.still tS) qj.nil)))))))
def xE (s_:qc) (day:Int):Option Bool:=
 ((zR s_ day).bind fun r1=>
 if(!r1)=true then
 (jK s_ day).bind fun r3=>
 some (!r3)
 else
 some false:Option Bool).bind fun b4=>
 some b4
theorem qdR (s_:qc) (day:Int) {res:Bool} (h:xE s_ day=some res):qf Tryz.prog (.fn 46) [.agg (cS s_),.i day] [] (.bool res) []:=by
 unfold xE at h
 refine Goes.fnW Tryz.func46 rfl rfl (m:=15) rfl (rs:=[.tmp 4]) rfl (l:=[(0,.agg (cS s_)),(1,.i day)]) rfl ?_
 refine sg fol ((1,.i day)::(kR [])) (kBJ s_) ?_
 refine sq ?_
 obtain⟨b4,g_v5,h⟩:=bnd h
 refine Goes.cut (s':=(ofG 15 (kBM b4),(kBJ s_))) ?_ ?_
 ·obtain⟨r1,e_r1,g_v5⟩:=bnd g_v5
  rcases wyB g_v5 with⟨c2,g_v5⟩|⟨c2,g_v5⟩
  ·obtain⟨r3,e_r3,g_v5⟩:=bnd g_v5
   obtain rfl:=si g_v5
   exact tr fol [2,4,7] (kBM (!r3)) (ac (cv (vg s_ day e_r1)) (ac (gw c2) (ac (cv (qay s_ day e_r3)) az)))
  ·obtain rfl:=si g_v5
   exact tr fol [2,4] kAf (ac (cv (vg s_ day e_r1)) (ac (gw c2) az))
 refine Goes.ret ?_
 obtain rfl:=si h
 exact(gw2 [.bool b4] (FzW.still tB))
def yY (s_:qc):Option Str:=
 some s_.Name
theorem qdj (s_:qc) {res:Str} (h:yY s_=some res):qf Tryz.prog (.fn 47) [.agg (cS s_)] [] (.str res) []:=by
 unfold yY at h
 refine Goes.fnW Tryz.func47 rfl rfl (m:=5) rfl (rs:=[.tmp 2]) rfl (l:=[(0,.agg (cS s_))]) rfl ?_
 refine sg fol (kV []) (kBJ s_) ?_
 refine sh fol [(2,.str s_.Name)] ?_
 refine Goes.ret ?_
 obtain rfl:=si h
 exact(gw2 [.str s_.Name] (FzW.still tS))
def qF (a0_:List qb) (a1_:Option (List StateT)):Option ((Option (List StateT))×Int×(List qc)):=
 ((match a1_ with
 |none=>
 some ((none:Option (List StateT)),decide (0=0))
 |some l4=>
 some ((some l4),decide ((l4.length:Int)=0))):Option ((Option (List StateT))×Bool)).bind fun(o5,b6)=>
 if b6=true then
 some (o5,0,[])
 else
 ((match o5 with
 |none=>
 (idx ([]:List StateT) (w64 (0-1))).bind fun x10=>
 some ((none:Option (List StateT)),x10.register.Day,x10.register.Slings)
 |some l9=>
 (idx l9 (w64 ((l9.length:Int)-1))).bind fun x11=>
 some ((some l9),x11.register.Day,x11.register.Slings)):Option ((Option (List StateT))×Int×(List qc))).bind fun(o12,n13,l14)=>
 some (o12,n13,l14)
theorem vH (a0_:List qb) (a1_:Option (List StateT)) {o1:Option (List StateT)} {n2:Int} {l3:List qc} (h:qF a0_ a1_=some (o1,n2,l3)):qf Tryz.prog (.fn 44) [.ptr 0 0] (kQ a0_ a1_ (kD a0_ a1_ [])) (.agg (kAm n2 l3)) (kQ a0_ o1 (kD a0_ o1 [])):=by
 unfold qF at h
 refine Goes.fnH Tryz.func44 rfl rfl (m:=23) rfl (rs:=[.cell 2 47]) rfl (l:=[(0,.ptr 0 0)]) rfl ?_
 intro B hB
 refine sg fol [(0,.ptr 0 0),(2,.ptr 3 0)] (kQ a0_ a1_ (kD a0_ a1_ [bZ])) ?_
 refine sq ?_
 refine sq ?_
 obtain⟨⟨o5,b6⟩,g_v7,h⟩:=bnd h
 refine Goes.cutS (s':=(ofG 23 [(0,.ptr 0 0),(2,.ptr 3 0),(8,.bool b6)],(kQ a0_ o5 (kD a0_ o5 [bZ])))) ?_ ?_
 ·rcases a1_ with _|l4
  ·try dsimp only at g_v7
   simp only[Option.some.injEq,Prod.mk.injEq]at g_v7
   obtain⟨rfl,rfl⟩:=g_v7
   exact qh.sub (qh.rg fol [(0,.ptr 0 0),(2,.ptr 3 0),(8,.bool (decide (0=0)))] (kBj a0_ (kK a0_ [.cells ((hof (none:Option (List StateT))).flatMap ja.c),bZ]))) (Sub.norm [] [some 0,some 1,some 2,some 3] (by rw[hB];rfl) rfl (.kp (.kp (.keep (.same nB) .nil))) (.kb rfl (.cells (rc (.gslice rfl) (rc .hs0 rn))) (.ks (.ks (.kb rfl (.same sn) .nil)))))
  ·try dsimp only at g_v7
   simp only[Option.some.injEq,Prod.mk.injEq]at g_v7
   obtain⟨rfl,rfl⟩:=g_v7
   exact qh.sub (qh.rg fol [(0,.ptr 0 0),(2,.ptr 3 0),(8,.bool (decide ((l4.length:Int)=0)))] (kAK a0_ l4 (kK a0_ (kAP l4 [bZ])))) (Sub.norm [] [some 0,some 1,some 2,some 3] (by rw[hB];rfl) rfl (.kp (.kp (.keep (.same nB) .nil))) (.kb rfl (.cells (rc (.gslice rfl) (rc ((qZ.hs1 rfl)) rn))) (.ks (.ks (.kb rfl (.same sn) .nil)))))
 intro _ hsub
 try dsimp only at h
 refine Goes.sub hsub ?_
 refine ihB h (fun c8 h=>?_) (fun c8 h=>?_)
 ·refine sh fol [(2,.ptr 3 0)] ?_
  refine Goes.ret ?_
  simp only[Option.some.injEq,Prod.mk.injEq]at h
  obtain⟨rfl,rfl,rfl⟩:=h
  exact(gh2 [.agg [.i 0,.nilslice]] (Sub.norm [] [some 0,some 1,some 2] (by rw[hB];rfl) rfl (.keep (.aggL (rc (.same nI) (rc (.nilv) rn))) .nil) (.kb rfl (.cells (rc (.gslice rfl) (rc (.hs rfl) rn))) (.ks (.ks .nil)))))
 ·refine Goes.skip ?_
  refine sq ?_
  obtain⟨⟨o12,n13,l14⟩,g_v15,h⟩:=bnd h
  refine Goes.cutS (s':=(ofG 23 [(2,.ptr 3 0)],(kQ a0_ o12 (kD a0_ o12 (kC n13 l14 []))))) ?_ ?_
  ·rcases o5 with _|l9
   ·try dsimp only at g_v15
    obtain⟨x10,e_x10,g_v15⟩:=bnd g_v15
    simp only[Option.some.injEq,Prod.mk.injEq]at g_v15
    obtain⟨rfl,rfl,rfl⟩:=g_v15
    exact qh.sub (qh.rq fol [10,12] [(2,.ptr 3 0)] (kBj a0_ (kK a0_ (.cells ((hof (none:Option (List StateT))).flatMap ja.c)::(kC x10.register.Day x10.register.Slings [])))) (ac (hs (.done (.opt (qE Tryz.prog 130 (.nilslice) (.i (w64 (0-1))))) (.fptr (([]:List StateT).flatMap ja.c) ((w64 (0-1):Int).toNat*3+0))) (qoL e_x10)) (ac (hs (.done (jT Tryz.prog 47 (.fptr (([]:List StateT).flatMap ja.c) ((w64 (0-1):Int).toNat*3+1))) (.agg (kAm x10.register.Day x10.register.Slings))) (ld_vp ag47 (E:=ja) rfl e_x10 rfl rfl)) az))) (Sub.norm [] [some 0,some 1,some 2,some 3] (by rw[hB];rfl) rfl (.kp .nil) (.kb rfl (.cells (rc (.gslice rfl) (rc .hs0 rn))) (.ks (.ks (.kb rfl (.same sn) .nil)))))
   ·try dsimp only at g_v15
    obtain⟨x11,e_x11,g_v15⟩:=bnd g_v15
    simp only[Option.some.injEq,Prod.mk.injEq]at g_v15
    obtain⟨rfl,rfl,rfl⟩:=g_v15
    exact qh.sub (qh.rq fol [10,12] [(2,.ptr 3 0)] (kAK a0_ l9 (kK a0_ (kAP l9 (kC x11.register.Day x11.register.Slings [])))) (ac (hs (.done (.opt (qE Tryz.prog 130 (.oslice 2 l9.length 3) (.i (w64 ((l9.length:Int)-1))))) (.ptr 2 ((w64 ((l9.length:Int)-1):Int).toNat*3+0))) (qdX qk0 e_x11)) (ac (hs (.run [2] (jT Tryz.prog 47 (.ptr 2 ((w64 ((l9.length:Int)-1):Int).toNat*3+1))) (kAK a0_ l9 (kK a0_ (kAP l9 [bZ]))) (.agg (kAm x11.register.Day x11.register.Slings)) (kAK a0_ l9 (kK a0_ (kAP l9 [bZ]))) false) (ld_pp ag47 (E:=ja) (l:=l9) rfl rfl e_x11 rfl rfl)) az))) (Sub.norm [] [some 0,some 1,some 2,some 3] (by rw[hB];rfl) rfl (.kp .nil) (.kb rfl (.cells (rc (.gslice rfl) (rc ((qZ.hs1 rfl)) rn))) (.ks (.ks (.kb rfl (.same sn) .nil)))))
  intro _ hsub
  try dsimp only at h
  refine Goes.sub hsub ?_
  refine Goes.ret ?_
  simp only[Option.some.injEq,Prod.mk.injEq]at h
  obtain⟨rfl,rfl,rfl⟩:=h
  exact(gh2 [.agg (kAm n13 l14)] (Sub.norm [] [some 0,some 1,some 2] (by rw[hB];rfl) rfl (.keep (.aggL (rc (.same nI) (rc (.same (qw qd _)) rn))) .nil) (.kb rfl (.cells (rc (.gslice rfl) (rc (.hs rfl) rn))) (.ks (.ks .nil)))))
def qm (a0_:Int) (a1_:List qc):Option (List qc):=
 (mk 88 (a1_.length:Int) (⟨[],[],0,0,0,0,0,0,false⟩:qc)).bind fun l2=>
 (some (cpy l2 a1_)).bind fun l3=>
 some l3
theorem ku (a0_:Int) (a1_:List qc) {l1:List qc} (h:qm a0_ a1_=some l1):qf Tryz.prog (.fn 49) [.agg (kAm a0_ a1_)] [] (.agg [.i a0_,.slice 0 0 l1.length l1.length 9]) [bS l1]:=by
 unfold qm at h
 refine Goes.fnH Tryz.func49 rfl rfl (m:=16) rfl (rs:=[.cell 2 47]) rfl (l:=(kBX a0_ a1_ [])) rfl ?_
 intro B hB
 refine sg fol (kV [(2,.ptr 1 0)]) (kC a0_ a1_ [bZ]) ?_
 obtain⟨l2,e_l2,h⟩:=bnd h
 refine sq (gq fol [3] (kV (kA9 l2)) (kC a0_ a1_ [bZ,bS l2]) (ac (hs (.run [] (xc Tryz.prog 45 (.i (a1_.length:Int)) (.i (a1_.length:Int))) (kC a0_ a1_ [bZ]) (.slice 2 0 l2.length l2.length 9) (kC a0_ a1_ [bZ,bS l2]) false) (qkq qbu (E:=qd) (z:=(⟨[],[],0,0,0,0,0,0,false⟩:qc)) rfl (by kernel_rfl) e_l2 rfl)) az) ?_)
 obtain⟨l3,e_l3,h⟩:=bnd h
 refine sq (gq fol [3] (kV (kA9 l2)) (kC a0_ a1_ [bZ,bS l3]) (ac (hs (.run [2] (qbK Tryz.prog [45,45] (.slice 2 0 l2.length l2.length 9) (vl qd a1_)) (kC a0_ a1_ [bZ,bS l2]) (.i ((Nat.min a1_.length l2.length:Nat):Int)) (kC a0_ a1_ [bZ,bS l3]) true) (qkw qbu (E:=qd) (l:=l2) rfl (qdv (E:=qd) rfl _) (.inl rfl) rfl rfl e_l3 rfl)) az) ?_)
 refine Goes.sub (show Sub (ofG 16 (kV (kA9 l2)),(kC a0_ a1_ [bZ,bS l3])) (ofG 16 (kV (kA9 l3)),(kC a0_ a1_ [bZ,bS l3]))from(Sub.norm [] [some 0,some 1,some 2] (by rw[hB];rfl) rfl (.kp (.kp (.keep (.sliceE rfl (qfZ e_l3)) .nil))) (.kb rfl (.same sn) (.kb rfl (.same sn) (.ks .nil))))) ?_
 refine sg fol [(2,.ptr 1 0)] (kC a0_ a1_ [.cells [.i a0_,.slice 2 0 l3.length l3.length 9],bS l3]) ?_
 refine Goes.ret ?_
 obtain rfl:=si h
 exact(gh2 [.agg [.i a0_,.slice 2 0 l3.length l3.length 9]] (Sub.norm [] [some 2] (by rw[hB];rfl) rfl (.keep (.aggL (rc (.same nI) (rc (.slice rfl) rn))) .nil) (.ks .nil)))
def jD (a0_:List qc) (a1_:Int) (a2_:Str) (a3_:Str) (a4_:Int) (a5_:Int) (a6_:Int) (a7_:Int) (a8_:Int) (a9_:Int) (a10_:Bool):Option (List qc):=
 (at' a0_ a1_).bind fun j2=>
 if 1=0 then
 some a0_
 else
 if a1_=(a0_.length:Int)then
 ((match a0_ with
 |[]=>
 some ([(⟨a2_,a3_,a4_,a5_,a6_,a7_,a8_,a9_,a10_⟩:qc)]:List qc)
 |x5::xs6=>
 (app 88 (x5::xs6) [(⟨a2_,a3_,a4_,a5_,a6_,a7_,a8_,a9_,a10_⟩:qc)]).bind fun l7=>
 some l7):Option (List qc)).bind fun l8=>
 some l8
 else
 if(w64 ((a0_.length:Int)+1))>(a0_.length:Int)then
 (qll 88 a0_ j2 (w64 ((w64 ((a0_.length:Int)+1))-a1_)) (⟨[],[],0,0,0,0,0,0,false⟩:qc)).bind fun l11=>
 (if a1_=0 then
 (some (cpy l11 ([(⟨a2_,a3_,a4_,a5_,a6_,a7_,a8_,a9_,a10_⟩:qc)]:List qc))).bind fun l13=>
 some l13
 else
 (at' l11 a1_).bind fun j14=>
 ((if j14<l11.length then some ()else none:Option Unit)).bind fun u15=>
 (some (qeX l11 j14 ([(⟨a2_,a3_,a4_,a5_,a6_,a7_,a8_,a9_,a10_⟩:qc)]:List qc))).bind fun l16=>
 some l16:Option (List qc)).bind fun l17=>
 (if(w64 (a1_+1))=0 then
 (some (cpy l17 (a0_.drop j2))).bind fun l20=>
 some l20
 else
 (at' l17 (w64 (a1_+1))).bind fun j21=>
 ((if j21<l17.length then some ()else none:Option Unit)).bind fun u22=>
 (some (qeX l17 j21 (a0_.drop j2))).bind fun l23=>
 some l23:Option (List qc)).bind fun l24=>
 some l24
 else
 none
theorem qbz (a0_:List qc) (a1_:Int) (a2_:Str) (a3_:Str) (a4_:Int) (a5_:Int) (a6_:Int) (a7_:Int) (a8_:Int) (a9_:Int) (a10_:Bool) {l1:List qc} (h:jD a0_ a1_ a2_ a3_ a4_ a5_ a6_ a7_ a8_ a9_ a10_=some l1):qf Tryz.prog (.fn 165) [.slice 0 0 a0_.length a0_.length 9,.i a1_,.slice 1 0 1 1 9] [bS a0_,.cells (cT a2_ a3_ a4_ a5_ a6_ a7_ a8_ a9_ a10_)] (vl qd l1) [.dead,.cells (cT a2_ a3_ a4_ a5_ a6_ a7_ a8_ a9_ a10_)]:=by
 unfold jD at h
 refine Goes.fnH Tryz.func165 rfl rfl (m:=95) rfl (rs:=[.tmp 6]) rfl (l:=(kU a0_ a1_ [(2,.slice 1 0 1 1 9)])) rfl ?_
 intro B hB
 refine sh fol (kU a0_ a1_ [(2,.slice 1 0 1 1 9)]) ?_
 obtain⟨j2,e_j2,h⟩:=bnd h
 refine sq (gr fol [2] (kU a0_ a1_ [(2,.slice 1 0 1 1 9)]) (ac (hs (.done (.opt (qz Tryz.prog 45 (.slice 0 0 a0_.length a0_.length 9) (some (.i a1_)) none none)) (qeG 0 9 a0_.length j2)) (qgH qbu e_j2)) az) ?_)
 refine sh fol (kU a0_ a1_ (kBA [])) ?_
 refine sq ?_
 refine sh fol (kU a0_ a1_ (kBA [(16,.bool (decide (1=0)))])) ?_
 refine ihD h (fun c3 h=>?_) (fun c3 h=>?_)
 ·refine sh fol [(6,.slice 0 0 a0_.length a0_.length 9)] ?_
  refine Goes.ret ?_
  obtain rfl:=si h
  exact(gh2 [.slice 0 0 a0_.length a0_.length 9] (Sub.norm [0] [some 0,some 1] (by rw[hB];rfl) rfl (.keep (.frz (Fz.sl (E:=qd) rfl rfl (nl rfl)) (qw qd _)) .nil) (.lost (.kb rfl (.same sn) .nil))))
 ·refine Goes.skip ?_
  refine sh fol (kU a0_ a1_ (kBA [(8,.i (a0_.length:Int))])) ?_
  refine sq ?_
  refine sh fol (kU a0_ a1_ (kBA [(8,.i (a0_.length:Int)),(22,.bool (decide (a1_=(a0_.length:Int))))])) ?_
  refine ihD h (fun c4 h=>?_) (fun c4 h=>?_)
  ·refine sq ?_
   obtain⟨l8,g_v9,h⟩:=bnd h
   refine Goes.cutS (s':=(ofG 95 [(6,.oslice 2 l8.length 9)],[.dead,.cells (cT a2_ a3_ a4_ a5_ a6_ a7_ a8_ a9_ a10_),bS l8])) ?_ ?_
   ·rcases a0_ with _|⟨x5,xs6⟩
    ·try dsimp only at g_v9
     obtain rfl:=si g_v9
     exact qh.sub (qh.rg fol [(6,.oslice 2 1 9)] [.dead,.cells (cT a2_ a3_ a4_ a5_ a6_ a7_ a8_ a9_ a10_),.cells (cT a2_ a3_ a4_ a5_ a6_ a7_ a8_ a9_ a10_)]) (Sub.norm [] [some 0,some 1,some 2] (by rw[hB];rfl) rfl (.keep (qZ.osliceE rfl rfl) .nil) (.lost (.kb rfl (.same sn) (.ks .nil))))
    ·try dsimp only at g_v9
     obtain⟨l7,e_l7,g_v9⟩:=bnd g_v9
     obtain rfl:=si g_v9
     exact qh.sub (qh.rq fol [2] [(6,.oslice 2 l7.length 9)] [.cells ((x5::xs6).flatMap qd.c),.cells (cT a2_ a3_ a4_ a5_ a6_ a7_ a8_ a9_ a10_),bS l7] (ac (hs (.run [0,1] (qR Tryz.prog [45,45] (.slice 0 0 (x5::xs6).length (x5::xs6).length 9) (.slice 1 0 1 1 9)) [.cells ((x5::xs6).flatMap qd.c),.cells (cT a2_ a3_ a4_ a5_ a6_ a7_ a8_ a9_ a10_)] (.oslice 2 l7.length 9) [.cells ((x5::xs6).flatMap qd.c),.cells (cT a2_ a3_ a4_ a5_ a6_ a7_ a8_ a9_ a10_),bS l7] false) (qoG qbu (E:=qd) (l:=(x5::xs6)) (ys:=[(⟨a2_,a3_,a4_,a5_,a6_,a7_,a8_,a9_,a10_⟩:qc)]) rfl rfl rfl rfl rfl rfl rfl rfl e_l7 rfl)) az)) (Sub.norm [] [some 0,some 1,some 2] (by rw[hB];rfl) rfl (.keep (.oslice rfl) .nil) (.lost (.kb rfl (.same sn) (.ks .nil))))
   intro _ hsub
   refine Goes.sub hsub ?_
   refine Goes.ret ?_
   obtain rfl:=si h
   exact(gh2 [.oslice 2 l8.length 9] (Sub.norm [2] [some 0,some 1] (by rw[hB];rfl) rfl (.keep (.frz (Fz.os (E:=qd) rfl rfl (nl rfl)) (qw qd _)) .nil) (.lost (.kb rfl (.same sn) .nil))))
  ·refine Goes.skip ?_
   refine sq ?_
   refine sh fol (kU a0_ a1_ (kBA [(8,.i (a0_.length:Int)),(31,.bool (decide ((w64 ((a0_.length:Int)+1))>(a0_.length:Int))))])) ?_
   refine ihD h (fun c10 h=>?_) (fun c10 h=>?_)
   ·obtain⟨l11,e_l11,h⟩:=bnd h
    refine sq (gq fol [2,8] (kU a0_ a1_ (kBA (kAS l11))) (kAl a0_ a2_ a3_ a4_ a5_ a6_ a7_ a8_ a9_ a10_ l11) (ac (hs (.done (.opt (qz Tryz.prog 45 (.slice 0 0 a0_.length a0_.length 9) none (some (.i a1_)) none)) (.slice 0 0 j2 a0_.length 9)) (qo3 qbu e_j2)) (ac (hs (.run [0] (qR Tryz.prog [45,3] (.slice 0 0 j2 a0_.length 9) (.i (w64 ((w64 ((a0_.length:Int)+1))-a1_)))) [bS a0_,.cells (cT a2_ a3_ a4_ a5_ a6_ a7_ a8_ a9_ a10_)] (.oslice 2 l11.length 9) (kAl a0_ a2_ a3_ a4_ a5_ a6_ a7_ a8_ a9_ a10_ l11) false) (qnT qbu it3 (E:=qd) rfl (z:=(⟨[],[],0,0,0,0,0,0,false⟩:qc)) (by kernel_rfl) rfl rfl e_l11 rfl)) az)) ?_)
    refine sq ?_
    obtain⟨l17,g_v18,h⟩:=bnd h
    refine Goes.cutS (s':=(ofG 95 (kU a0_ a1_ ((7,.i 1)::(kAS l17))),(kAl a0_ a2_ a3_ a4_ a5_ a6_ a7_ a8_ a9_ a10_ l17))) ?_ ?_
    ·rcases wyD g_v18 with⟨c12,g_v18⟩|⟨c12,g_v18⟩
     ·obtain⟨l13,e_l13,g_v18⟩:=bnd g_v18
      obtain rfl:=si g_v18
      exact qh.sub (qh.rq fol [2,4] (kU a0_ a1_ ((7,.i 1)::(kAS l11))) (kAl a0_ a2_ a3_ a4_ a5_ a6_ a7_ a8_ a9_ a10_ l13) (ac (hs (.done (.opt (qz Tryz.prog 45 (.oslice 2 l11.length 9) (some (.i a1_)) none none)) (.oslice 2 l11.length 9)) (qk5 qbu (ot c12))) (ac (hs (.run [2,1] (qbK Tryz.prog [45,45] (.oslice 2 l11.length 9) (.slice 1 0 1 1 9)) (kAl a0_ a2_ a3_ a4_ a5_ a6_ a7_ a8_ a9_ a10_ l11) (.i ((Nat.min ([(⟨a2_,a3_,a4_,a5_,a6_,a7_,a8_,a9_,a10_⟩:qc)]:List qc).length l11.length:Nat):Int)) (kAl a0_ a2_ a3_ a4_ a5_ a6_ a7_ a8_ a9_ a10_ l13) true) (qkw qbu (E:=qd) (l:=l11) rfl (qbH (E:=qd) (ys:=([(⟨a2_,a3_,a4_,a5_,a6_,a7_,a8_,a9_,a10_⟩:qc)]:List qc)) rfl rfl rfl rfl) (.inr rfl) rfl rfl e_l13 rfl)) az))) ((show Sub (ofG 95 (kU a0_ a1_ ((7,.i 1)::(kAS l11))),(kAl a0_ a2_ a3_ a4_ a5_ a6_ a7_ a8_ a9_ a10_ l13)) (ofG 95 (kU a0_ a1_ ((7,.i 1)::(kAS l13))),(kAl a0_ a2_ a3_ a4_ a5_ a6_ a7_ a8_ a9_ a10_ l13))from(Sub.norm [] [some 0,some 1,some 2] (by rw[hB];rfl) rfl (.keep (.slice rfl) (.keep (.same nI) (.keep (.same nI) (.keep (.osliceE rfl (qfZ e_l13)) .nil)))) (.ks (.kb rfl (.same sn) (.ks .nil))))).trans (Sub.refl _))
     ·obtain⟨j14,e_j14,g_v18⟩:=bnd g_v18
      obtain⟨u15,e_u15,g_v18⟩:=bnd g_v18
      obtain⟨l16,e_l16,g_v18⟩:=bnd g_v18
      obtain rfl:=si g_v18
      exact qh.sub (qh.rq fol [2,4] (kU a0_ a1_ ((7,.i 1)::(kAS l11))) (kAl a0_ a2_ a3_ a4_ a5_ a6_ a7_ a8_ a9_ a10_ l16) (ac (hs (.done (.opt (qz Tryz.prog 45 (.oslice 2 l11.length 9) (some (.i a1_)) none none)) (.wslice 2 (j14*9) (l11.length-j14) 9)) (qiM qbu (of_decide_eq_false c12) e_j14 (qk2 e_u15))) (ac (hs (.run [2,1] (qbK Tryz.prog [45,45] (.wslice 2 (j14*9) (l11.length-j14) 9) (.slice 1 0 1 1 9)) (kAl a0_ a2_ a3_ a4_ a5_ a6_ a7_ a8_ a9_ a10_ l11) (.i ((Nat.min ([(⟨a2_,a3_,a4_,a5_,a6_,a7_,a8_,a9_,a10_⟩:qc)]:List qc).length (l11.length-j14):Nat):Int)) (kAl a0_ a2_ a3_ a4_ a5_ a6_ a7_ a8_ a9_ a10_ l16) true) (qkR qbu (E:=qd) rfl (l:=l11) (qbH (E:=qd) (ys:=([(⟨a2_,a3_,a4_,a5_,a6_,a7_,a8_,a9_,a10_⟩:qc)]:List qc)) rfl rfl rfl rfl) (qhB e_j14) rfl rfl e_l16 rfl)) az))) ((show Sub (ofG 95 (kU a0_ a1_ ((7,.i 1)::(kAS l11))),(kAl a0_ a2_ a3_ a4_ a5_ a6_ a7_ a8_ a9_ a10_ l16)) (ofG 95 (kU a0_ a1_ ((7,.i 1)::(kAS l16))),(kAl a0_ a2_ a3_ a4_ a5_ a6_ a7_ a8_ a9_ a10_ l16))from(Sub.norm [] [some 0,some 1,some 2] (by rw[hB];rfl) rfl (.keep (.slice rfl) (.keep (.same nI) (.keep (.same nI) (.keep (.osliceE rfl (qhI (qhB e_j14) e_l16)) .nil)))) (.ks (.kb rfl (.same sn) (.ks .nil))))).trans (Sub.refl _))
    intro _ hsub
    refine Goes.sub hsub ?_
    refine sq ?_
    obtain⟨l24,g_v25,h⟩:=bnd h
    refine Goes.cutS (s':=(ofG 95 (kAS l24),(kAl a0_ a2_ a3_ a4_ a5_ a6_ a7_ a8_ a9_ a10_ l24))) ?_ ?_
    ·rcases wyD g_v25 with⟨c19,g_v25⟩|⟨c19,g_v25⟩
     ·obtain⟨l20,e_l20,g_v25⟩:=bnd g_v25
      obtain rfl:=si g_v25
      exact qh.sub (qh.rq fol [4,7,8] (kAS l17) (kAl a0_ a2_ a3_ a4_ a5_ a6_ a7_ a8_ a9_ a10_ l20) (ac (hs (.done (.opt (qz Tryz.prog 45 (.oslice 2 l17.length 9) (some (.i (w64 (a1_+1)))) none none)) (.oslice 2 l17.length 9)) (qk5 qbu (ot c19))) (ac (hs (.done (.opt (qz Tryz.prog 45 (.slice 0 0 a0_.length a0_.length 9) (some (.i a1_)) none none)) (qeG 0 9 a0_.length j2)) (qgH qbu e_j2)) (ac (hs (.run [2,0] (qbK Tryz.prog [45,45] (.oslice 2 l17.length 9) (qeG 0 9 a0_.length j2)) (kAl a0_ a2_ a3_ a4_ a5_ a6_ a7_ a8_ a9_ a10_ l17) (.i ((Nat.min (a0_.drop j2).length l17.length:Nat):Int)) (kAl a0_ a2_ a3_ a4_ a5_ a6_ a7_ a8_ a9_ a10_ l20) true) (qkw qbu (E:=qd) (l:=l17) rfl (qhW (E:=qd) rfl rfl rfl (qhB e_j2)) (.inr rfl) rfl rfl e_l20 rfl)) az)))) ((show Sub (ofG 95 (kAS l17),(kAl a0_ a2_ a3_ a4_ a5_ a6_ a7_ a8_ a9_ a10_ l20)) (ofG 95 (kAS l20),(kAl a0_ a2_ a3_ a4_ a5_ a6_ a7_ a8_ a9_ a10_ l20))from(Sub.norm [] [some 0,some 1,some 2] (by rw[hB];rfl) rfl (.keep (.osliceE rfl (qfZ e_l20)) .nil) (.ks (.kb rfl (.same sn) (.ks .nil))))).trans (Sub.refl _))
     ·obtain⟨j21,e_j21,g_v25⟩:=bnd g_v25
      obtain⟨u22,e_u22,g_v25⟩:=bnd g_v25
      obtain⟨l23,e_l23,g_v25⟩:=bnd g_v25
      obtain rfl:=si g_v25
      exact qh.sub (qh.rq fol [4,7,8] (kAS l17) (kAl a0_ a2_ a3_ a4_ a5_ a6_ a7_ a8_ a9_ a10_ l23) (ac (hs (.done (.opt (qz Tryz.prog 45 (.oslice 2 l17.length 9) (some (.i (w64 (a1_+1)))) none none)) (.wslice 2 (j21*9) (l17.length-j21) 9)) (qiM qbu (of_decide_eq_false c19) e_j21 (qk2 e_u22))) (ac (hs (.done (.opt (qz Tryz.prog 45 (.slice 0 0 a0_.length a0_.length 9) (some (.i a1_)) none none)) (qeG 0 9 a0_.length j2)) (qgH qbu e_j2)) (ac (hs (.run [2,0] (qbK Tryz.prog [45,45] (.wslice 2 (j21*9) (l17.length-j21) 9) (qeG 0 9 a0_.length j2)) (kAl a0_ a2_ a3_ a4_ a5_ a6_ a7_ a8_ a9_ a10_ l17) (.i ((Nat.min (a0_.drop j2).length (l17.length-j21):Nat):Int)) (kAl a0_ a2_ a3_ a4_ a5_ a6_ a7_ a8_ a9_ a10_ l23) true) (qkR qbu (E:=qd) rfl (l:=l17) (qhW (E:=qd) rfl rfl rfl (qhB e_j2)) (qhB e_j21) rfl rfl e_l23 rfl)) az)))) ((show Sub (ofG 95 (kAS l17),(kAl a0_ a2_ a3_ a4_ a5_ a6_ a7_ a8_ a9_ a10_ l23)) (ofG 95 (kAS l23),(kAl a0_ a2_ a3_ a4_ a5_ a6_ a7_ a8_ a9_ a10_ l23))from(Sub.norm [] [some 0,some 1,some 2] (by rw[hB];rfl) rfl (.keep (.osliceE rfl (qhI (qhB e_j21) e_l23)) .nil) (.ks (.kb rfl (.same sn) (.ks .nil))))).trans (Sub.refl _))
    intro _ hsub
    refine Goes.sub hsub ?_
    refine sh fol [(6,.oslice 2 l24.length 9)] ?_
    refine Goes.ret ?_
    obtain rfl:=si h
    exact(gh2 [.oslice 2 l24.length 9] (Sub.norm [2] [some 0,some 1] (by rw[hB];rfl) rfl (.keep (.frz (Fz.os (E:=qd) rfl rfl (nl rfl)) (qw qd _)) .nil) (.lost (.kb rfl (.same sn) .nil))))
   ·cases h
def xB (N:Nat) (a0_:Int) (a1_:List qc) (a2_:Int) (a3_:Str) (a4_:List Str) (a5_:List Int) (a6_:Str):Option ((List qc)×Int):=
 (idx a5_ 0).bind fun x3=>
 (idx a5_ 1).bind fun x4=>
 (idx a5_ 2).bind fun x5=>
 (idx a4_ 0).bind fun x6=>
 (jg N (⟨a0_,a1_⟩:qJ) x6).bind fun r7=>
 (qX r7.2 9).bind fun r8=>
 (jm x4 1 9999).bind fun r9=>
 (jm x5 1 9999).bind fun r10=>
 (vw (w64 (x3+x4))).bind fun r11=>
 (qX (decide ((a1_.length:Int)≥256)) 5).bind fun r12=>
 (zH N ([r8,r9,r10,r11,r12]:List Int)).bind fun r13=>
 if(!decide (r13=0))=true then
 some (a1_,r13)
 else
 (idx a4_ 1).bind fun x15=>
 (jD a1_ r7.1 x6 x15 x3 (w64 (x3+x4)) x5 0 0 0 false).bind fun l17=>
 some (l17,0)
theorem qeO (N:Nat) (a0_:Int) (a1_:List qc) (a2_:Int) (a3_:Str) (a4_:List Str) (a5_:List Int) (a6_:Str) {l1:List qc} {n2:Int} (h:xB N a0_ a1_ a2_ a3_ a4_ a5_ a6_=some (l1,n2)):qf Tryz.prog (.fn 117) (kO a0_ a1_ [.agg (cF a2_ a3_ a4_ a5_ a6_)]) [bS a1_] (.tuple (kAO a0_ l1 [.i n2])) [.dead]:=by
 unfold xB at h
 refine Goes.fnH Tryz.func117 rfl rfl (m:=77) rfl (rs:=[.cell 4 47,.tmp 5]) rfl (l:=(kAs a0_ a1_ [(1,.agg (cF a2_ a3_ a4_ a5_ a6_))])) rfl ?_
 intro B hB
 refine sg fol (kB []) (bS a1_::(kA a0_ a1_ (kAJ a2_ a3_ a4_ a5_ a6_))) ?_
 obtain⟨x3,e_x3,h⟩:=bnd h
 obtain⟨x4,e_x4,h⟩:=bnd h
 obtain⟨x5,e_x5,h⟩:=bnd h
 refine sq (gr fol [2,3,6,7,10,11] (kB (kAv x3 x4 [(8,.i x5)])) (ac (iv yX encI e_x3) (ac (lv 0 ce3 encI e_x3 rfl) (ac (iv yX encI e_x4) (ac (lv 0 ce3 encI e_x4 rfl) (ac (iv yX encI e_x5) (ac (lv 0 ce3 encI e_x5 rfl) az)))))) ?_)
 obtain⟨x6,e_x6,h⟩:=bnd h
 obtain⟨r7,e_r7,h⟩:=bnd h
 refine sq (gr fol [3,4,5] (kB (kAv x3 x4 ((8,.i x5)::(9,.i r7.1)::(kBI r7.2)))) (ac (iv vV encS e_x6) (ac (lv 0 ce9 encS e_x6 rfl) (ac (hs (.call 128 (kO a0_ a1_ [.str x6]) (bS a1_::(kA a0_ a1_ (kAJ a2_ a3_ a4_ a5_ a6_))) [0] (kAO a0_ a1_ [.str x6]) (.tuple [.i r7.1,.bool r7.2])) (qa4 (FzL.cons (Fz.agg (FzL.cons (Fz.still tI) (FzL.cons (Fz.sl (E:=qd) rfl rfl (nl rfl)) FzL.nil))) (FzL.cons (Fz.still tS) FzL.nil)) (qaf N (⟨a0_,a1_⟩:qJ) x6 e_r7) (Still.tuple (AllST.cons tI (AllST.cons tB AllST.nil))) rfl)) az))) ?_)
 refine sq ?_
 obtain⟨r8,e_r8,h⟩:=bnd h
 obtain⟨r9,e_r9,h⟩:=bnd h
 obtain⟨r10,e_r10,h⟩:=bnd h
 obtain⟨r11,e_r11,h⟩:=bnd h
 obtain⟨r12,e_r12,h⟩:=bnd h
 obtain⟨r13,e_r13,h⟩:=bnd h
 refine sq (gq fol [1,3,5,9,14,16] (kB (kAv x3 x4 [(8,.i x5),(9,.i r7.1),(11,.i r13)])) (bS a1_::(kA a0_ a1_ (kBH a2_ a3_ a4_ a5_ a6_ [bZ,.cells [.i r8,.i r9,.i r10,.i r11,.i r12]]))) (ac (cv (qH r7.2 9 e_r8)) (ac (cv (jM x4 1 9999 e_r9)) (ac (cv (jM x5 1 9999 e_r10)) (ac (cv (xY (w64 (x3+x4)) e_r11)) (ac (cv (qH (decide ((a1_.length:Int)≥256)) 5 e_r12)) (ac (hs (.call 37 [.slice 4 0 5 5 1] (bS a1_::(kA a0_ a1_ (kBH a2_ a3_ a4_ a5_ a6_ [bZ,.cells [.i r8,.i r9,.i r10,.i r11,.i r12]]))) [4] [vl encI ([r8,r9,r10,r11,r12]:List Int)] (.i r13)) (qa4 (FzL.cons (Fz.lit rfl rfl (FzL.still (AllST.cons tI (AllST.cons tI (AllST.cons tI (AllST.cons tI (AllST.cons tI AllST.nil))))))) FzL.nil) (jd N ([r8,r9,r10,r11,r12]:List Int) e_r13) tI rfl)) az)))))) ?_)
 refine sh fol (kB (kAv x3 x4 [(8,.i x5),(9,.i r7.1),(11,.i r13),(52,.bool (!decide (r13=0)))])) ?_
 refine ihB h (fun c14 h=>?_) (fun c14 h=>?_)
 ·refine sg fol ((4,.ptr 3 0)::(kAn r13)) (bS a1_::(kA a0_ a1_ (kBH a2_ a3_ a4_ a5_ a6_ (kA a0_ a1_ [.cells [.i r8,.i r9,.i r10,.i r11,.i r12]])))) ?_
  refine Goes.ret ?_
  simp only[Option.some.injEq,Prod.mk.injEq]at h
  obtain⟨rfl,rfl⟩:=h
  exact(gh2 (kO a0_ a1_ [.i r13]) (Sub.norm [0] [some 0] (by rw[hB];rfl) rfl (.keep (.tupleL (rc (.aggL (rc (.same nI) (rc (.frz (Fz.sl (E:=qd) rfl rfl (nl rfl)) (qw qd _)) rn))) (rc (.same nI) rn))) .nil) (.lost .nil)))
 ·refine Goes.skip ?_
  obtain⟨x15,e_x15,h⟩:=bnd h
  refine sq (gq fol [2,3,6,7] (kAF [(9,.i r7.1),(12,.ptr 5 0)]) (bS a1_::(kA a0_ a1_ (kBH a2_ a3_ a4_ a5_ a6_ (bZ:: .cells [.i r8,.i r9,.i r10,.i r11,.i r12]::(kY x6 x15 x3 (w64 (x3+x4)) x5 []))))) (ac (iv vV encS e_x6) (ac (lv 0 ce9 encS e_x6 rfl) (ac (iv vV encS e_x15) (ac (lv 0 ce9 encS e_x15 rfl) az)))) ?_)
  obtain⟨l17,e_r16,h⟩:=bnd h
  refine sq (gq fol [5] (kAF []) (.dead::(kC a0_ l17 (kBH a2_ a3_ a4_ a5_ a6_ (bZ:: .cells [.i r8,.i r9,.i r10,.i r11,.i r12]::(kY x6 x15 x3 (w64 (x3+x4)) x5 (kY x6 x15 x3 (w64 (x3+x4)) x5 [])))))) (ac (hs (.callH 165 [.slice 0 0 a1_.length a1_.length 9,.i r7.1,.slice 6 0 1 1 9] (bS a1_::(kA a0_ a1_ (kBH a2_ a3_ a4_ a5_ a6_ (bZ:: .cells [.i r8,.i r9,.i r10,.i r11,.i r12]::(kY x6 x15 x3 (w64 (x3+x4)) x5 (kY x6 x15 x3 (w64 (x3+x4)) x5 [])))))) [0,6] (vl qd l17) (.dead::(kA a0_ a1_ (kBH a2_ a3_ a4_ a5_ a6_ (bZ:: .cells [.i r8,.i r9,.i r10,.i r11,.i r12]::(kY x6 x15 x3 (w64 (x3+x4)) x5 (kY x6 x15 x3 (w64 (x3+x4)) x5 []))))))) (jL [some 0,some 6] [none,none,none,none,none,none,some 1] (qbz a1_ r7.1 x6 x15 x3 (w64 (x3+x4)) x5 0 0 0 false e_r16) (.ks (.kb rfl (.cells (rc (.same nS) (rc (.same nS) (rc (.same nI) (rc (.same nI) (rc (.same nI) (rc (.same nI) (rc (.same nI) (rc (.same nI) (rc (.same nB) rn)))))))))) .nil)) rfl rfl (.dead (.old rfl rfl (.old rfl rfl (.old rfl rfl (.old rfl rfl (.old rfl rfl (.back rfl rfl (.cells (rc (.same nS) (rc (.same nS) (rc (.same nI) (rc (.same nI) (rc (.same nI) (rc (.same nI) (rc (.same nI) (rc (.same nI) (rc (.same nB) rn)))))))))) rfl .nil))))))) (rc (.slice rfl) (rc (.same nI) (rc (.slice rfl) rn))) (.same (qw qd _)) rfl)) az) ?_)
  refine sg fol ((4,.ptr 3 0)::kBe) (.dead::(kC a0_ l17 (kBH a2_ a3_ a4_ a5_ a6_ (kC a0_ l17 (.cells [.i r8,.i r9,.i r10,.i r11,.i r12]::(kY x6 x15 x3 (w64 (x3+x4)) x5 (kY x6 x15 x3 (w64 (x3+x4)) x5 []))))))) ?_
  refine Goes.ret ?_
  simp only[Option.some.injEq,Prod.mk.injEq]at h
  obtain⟨rfl,rfl⟩:=h
  exact(gh2 (kAO a0_ l17 [.i 0]) (Sub.norm [] [some 0] (by rw[hB];rfl) rfl (.keep (.tupleL (rc (.aggL (rc (.same nI) (rc (.same (qw qd _)) rn))) (rc (.same nI) rn))) .nil) (.lost .nil)))
def zn (N:Nat) (a0_:Int) (a1_:List qc) (a2_:Str) (a3_:Int):Option (Int×Bool×Int):=
 (jg N (⟨a0_,a1_⟩:qJ) a2_).bind fun r4=>
 if(!r4.2)=true then
 some (0,false,10)
 else
 (idx a1_ r4.1).bind fun x6=>
 (zR x6 a3_).bind fun r7=>
 (qX r7 20).bind fun r8=>
 some (r4.1,true,r8)
theorem vN (N:Nat) (a0_:Int) (a1_:List qc) (a2_:Str) (a3_:Int) {i1:Int} {ok2:Bool} {n3:Int} (h:zn N a0_ a1_ a2_ a3_=some (i1,ok2,n3)):qf Tryz.prog (.fn 166) (kO a0_ a1_ [.str a2_,.i a3_]) [bS a1_] (.tuple [pz ok2 0 ((i1:Int).toNat*9+0),.i n3]) [bS a1_]:=by
 unfold zn at h
 refine Goes.fnH Tryz.func166 rfl rfl (m:=30) rfl (rs:=[.tmp 6,.tmp 7]) rfl (l:=(kAs a0_ a1_ [(1,.str a2_),(2,.i a3_)])) rfl ?_
 intro B hB
 refine sg fol [(1,.str a2_),(2,.i a3_),(3,.ptr 1 0)] (bS a1_::(kA a0_ a1_ [])) ?_
 obtain⟨r4,e_r4,h⟩:=bnd h
 refine sq (gr fol [2] [(2,.i a3_),(3,.ptr 1 0),(8,.i r4.1),(9,.bool r4.2)] (ac (hs (.call 128 (kO a0_ a1_ [.str a2_]) (bS a1_::(kA a0_ a1_ [])) [0] (kAO a0_ a1_ [.str a2_]) (.tuple [.i r4.1,.bool r4.2])) (qa4 (FzL.cons (Fz.agg (FzL.cons (Fz.still tI) (FzL.cons (Fz.sl (E:=qd) rfl rfl (nl rfl)) FzL.nil))) (FzL.cons (Fz.still tS) FzL.nil)) (qaf N (⟨a0_,a1_⟩:qJ) a2_ e_r4) (Still.tuple (AllST.cons tI (AllST.cons tB AllST.nil))) rfl)) az) ?_)
 refine sq ?_
 refine sh fol [(2,.i a3_),(3,.ptr 1 0),(8,.i r4.1),(18,.bool (!r4.2))] ?_
 refine ihB h (fun c5 h=>?_) (fun c5 h=>?_)
 ·refine sh fol [(6,.nilptr),(7,.i 10)] ?_
  refine Goes.ret ?_
  simp only[Option.some.injEq,Prod.mk.injEq]at h
  obtain⟨rfl,rfl,rfl⟩:=h
  exact(gh2 [.nilptr,.i 10] (Sub.norm [] [some 0] (by rw[hB];rfl) rfl (.keep (.tupleL (rc (qZ.pz0) (rc (.same nI) rn))) .nil) (.ks .nil)))
 ·refine Goes.skip ?_
  obtain⟨x6,e_x6,h⟩:=bnd h
  refine sq (gr fol [3] [(2,.i a3_),(10,.ptr 0 ((r4.1:Int).toNat*9+0))] (ac (hs (.done (.opt (qE Tryz.prog 45 (.slice 0 0 a1_.length a1_.length 9) (.i r4.1))) (.ptr 0 ((r4.1:Int).toNat*9+0))) (qi1 qbu e_x6)) az) ?_)
  obtain⟨r7,e_r7,h⟩:=bnd h
  obtain⟨r8,e_r8,h⟩:=bnd h
  refine sq (gr fol [3,5,6] [(6,.ptr 0 ((r4.1:Int).toNat*9+0)),(7,.i r8)] (ac (hs (.run [0] (jT Tryz.prog 102 (.ptr 0 ((r4.1:Int).toNat*9+0))) (bS a1_::(kA a0_ a1_ [])) (.agg (cS x6)) (bS a1_::(kA a0_ a1_ [])) false) (qm9 qf6 (E:=qd) (l:=a1_) rfl rfl e_x6)) (ac (cv (vg x6 a3_ e_r7)) (ac (cv (qH r7 20 e_r8)) az))) ?_)
  refine Goes.ret ?_
  simp only[Option.some.injEq,Prod.mk.injEq]at h
  obtain⟨rfl,rfl,rfl⟩:=h
  exact(gh2 [.ptr 0 ((r4.1:Int).toNat*9+0),.i r8] (Sub.norm [] [some 0] (by rw[hB];rfl) rfl (.keep (.tupleL (rc ((qZ.pz1 rfl)) (rc (.same nI) rn))) .nil) (.ks .nil)))
def yw (N:Nat) (a0_:Int) (a1_:List qc) (a2_:Int) (a3_:Str) (a4_:List Str) (a5_:List Int) (a6_:Str):Option ((List qc)×Int):=
 (idx a5_ 0).bind fun x3=>
 (idx a5_ 1).bind fun x4=>
 (idx a4_ 0).bind fun x5=>
 (zn N a0_ a1_ x5 x3).bind fun(i7,ok8,n9)=>
 (jm x4 2 999999999).bind fun r10=>
 (zH N ([n9,r10]:List Int)).bind fun r11=>
 if(!decide (r11=0))=true then
 some (a1_,r11)
 else
 ((match ok8 with
 |false=>
 none
 |true=>
 (idx a1_ i7).bind fun x13=>
 (put a1_ i7 (⟨x13.Name,x13.Batch,x13.Born,x13.Last,x13.Uses,x13.Used,w64 (x4.tdiv 2),x13.Until,x13.Gone⟩:qc)).bind fun l14=>
 (idx l14 i7).bind fun x15=>
 (put l14 i7 (⟨x15.Name,x15.Batch,x15.Born,x15.Last,x15.Uses,x15.Used,x15.Limit,(if x13.Last<(w64 (x3+365))then x13.Last else(w64 (x3+365))),x15.Gone⟩:qc)).bind fun l16=>
 some l16):Option (List qc)).bind fun l17=>
 some (l17,0)
theorem qdL (N:Nat) (a0_:Int) (a1_:List qc) (a2_:Int) (a3_:Str) (a4_:List Str) (a5_:List Int) (a6_:Str) {l1:List qc} {n2:Int} (h:yw N a0_ a1_ a2_ a3_ a4_ a5_ a6_=some (l1,n2)):qf Tryz.prog (.fn 118) (kO a0_ a1_ [.agg (cF a2_ a3_ a4_ a5_ a6_)]) [bS a1_] (.tuple (kO a0_ l1 [.i n2])) [bS l1]:=by
 unfold yw at h
 refine Goes.fnH Tryz.func118 rfl rfl (m:=53) rfl (rs:=[.cell 4 47,.tmp 5]) rfl (l:=(kAs a0_ a1_ [(1,.agg (cF a2_ a3_ a4_ a5_ a6_))])) rfl ?_
 intro B hB
 refine sg fol (kB []) (bS a1_::(kA a0_ a1_ (kAJ a2_ a3_ a4_ a5_ a6_))) ?_
 obtain⟨x3,e_x3,h⟩:=bnd h
 obtain⟨x4,e_x4,h⟩:=bnd h
 refine sq (gr fol [2,3,6,7] (kB (kAv x3 x4 [])) (ac (iv yX encI e_x3) (ac (lv 0 ce3 encI e_x3 rfl) (ac (iv yX encI e_x4) (ac (lv 0 ce3 encI e_x4 rfl) az)))) ?_)
 obtain⟨x5,e_x5,h⟩:=bnd h
 obtain⟨⟨i7,ok8,n9⟩,e_r6,h⟩:=bnd h
 try dsimp only at h
 refine sq (gr fol [3,4,6] (kAF (kAv x3 x4 [(8,pz ok8 0 ((i7:Int).toNat*9+0)),(9,.i n9)])) (ac (iv vV encS e_x5) (ac (lv 0 ce9 encS e_x5 rfl) (ac (hs (.callH 166 (kO a0_ a1_ [.str x5,.i x3]) (bS a1_::(kA a0_ a1_ (kAJ a2_ a3_ a4_ a5_ a6_))) [0] (.tuple [pz ok8 0 ((i7:Int).toNat*9+0),.i n9]) (bS a1_::(kA a0_ a1_ (kAJ a2_ a3_ a4_ a5_ a6_)))) (jL [some 0] [some 0,none,none,none] (vN N a0_ a1_ x5 x3 e_r6) (.ks .nil) rfl rfl (.back rfl rfl (.same fa) rfl (.old rfl rfl (.old rfl rfl (.old rfl rfl .nil)))) (rc (.aggL (rc (.same nI) (rc (.slice rfl) rn))) (rc (.same nS) (rc (.same nI) rn))) (.tupleL (rc ((qZ.pz rfl)) (rc (.same nI) rn))) rfl)) az))) ?_)
 refine sq ?_
 obtain⟨r10,e_r10,h⟩:=bnd h
 obtain⟨r11,e_r11,h⟩:=bnd h
 refine sq (gq fol [2,4] (kAF (kAv x3 x4 [(8,pz ok8 0 ((i7:Int).toNat*9+0)),(9,.i r11)])) (bS a1_::(kA a0_ a1_ (kL a2_ a3_ a4_ a5_ a6_ n9 r10 []))) (ac (cv (jM x4 2 999999999 e_r10)) (ac (hs (.call 37 [.slice 4 0 2 2 1] (bS a1_::(kA a0_ a1_ (kL a2_ a3_ a4_ a5_ a6_ n9 r10 []))) [4] [vl encI ([n9,r10]:List Int)] (.i r11)) (qa4 (FzL.cons (Fz.lit rfl rfl (FzL.still (AllST.cons tI (AllST.cons tI AllST.nil)))) FzL.nil) (jd N ([n9,r10]:List Int) e_r11) tI rfl)) az)) ?_)
 refine sh fol (kAF (kAv x3 x4 [(8,pz ok8 0 ((i7:Int).toNat*9+0)),(9,.i r11),(34,.bool (!decide (r11=0)))])) ?_
 refine ihB h (fun c12 h=>?_) (fun c12 h=>?_)
 ·refine sg fol ((4,.ptr 3 0)::(kAn r11)) (bS a1_::(kA a0_ a1_ (kBH a2_ a3_ a4_ a5_ a6_ (kA a0_ a1_ (kBi n9 r10))))) ?_
  refine Goes.ret ?_
  simp only[Option.some.injEq,Prod.mk.injEq]at h
  obtain⟨rfl,rfl⟩:=h
  exact(gh2 (kO a0_ a1_ [.i r11]) (Sub.norm [] [some 0] (by rw[hB];rfl) rfl (.keep (.tupleL (rc (.aggL (rc (.same nI) (rc (.slice rfl) rn))) (rc (.same nI) rn))) .nil) (.ks .nil)))
 ·refine Goes.skip ?_
  refine sq ?_
  obtain⟨l17,g_v18,h⟩:=bnd h
  refine Goes.cutS (s':=(ofG 53 ((2,.ptr 1 0)::(kAZ [])),(bS l17::(kA a0_ l17 [bZ])))) ?_ ?_
  ·rcases ok8 with _|_
   ·try dsimp only at g_v18
    cases g_v18
   ·try dsimp only at g_v18
    obtain⟨x13,e_x13,g_v18⟩:=bnd g_v18
    obtain⟨l14,e_l14,g_v18⟩:=bnd g_v18
    obtain⟨x15,e_x15,g_v18⟩:=bnd g_v18
    obtain⟨l16,e_l16,g_v18⟩:=bnd g_v18
    obtain rfl:=si g_v18
    exact qh.sub (qh.rq fol [9,13,16] (kAF []) (bS l16::(kA a0_ a1_ (kL a2_ a3_ a4_ a5_ a6_ n9 r10 []))) (ac (hs (.run [0] (jT Tryz.prog 3 (.ptr 0 ((i7:Int).toNat*9+3))) (bS a1_::(kA a0_ a1_ (kL a2_ a3_ a4_ a5_ a6_ n9 r10 []))) (.i x13.Last) (bS a1_::(kA a0_ a1_ (kL a2_ a3_ a4_ a5_ a6_ n9 r10 []))) false) (qiw ce3 (E:=qd) (l:=a1_) rfl rfl e_x13 (nl rfl) rfl)) (ac (hs (.run [0] (xn Tryz.prog 3 (.ptr 0 ((i7:Int).toNat*9+6)) (.i (w64 (x4.tdiv 2)))) (bS a1_::(kA a0_ a1_ (kL a2_ a3_ a4_ a5_ a6_ n9 r10 []))) .undef (bS l14::(kA a0_ a1_ (kL a2_ a3_ a4_ a5_ a6_ n9 r10 []))) true) (qcS (E:=qd) (l:=a1_) (y:=(⟨x13.Name,x13.Batch,x13.Born,x13.Last,x13.Uses,x13.Used,w64 (x4.tdiv 2),x13.Until,x13.Gone⟩:qc)) rfl (show _=some 1 by kernel_rfl) rfl e_x13 rfl rfl rfl rfl rfl e_l14 rfl)) (ac (hs (.run [0] (xn Tryz.prog 3 (.ptr 0 ((i7:Int).toNat*9+7)) (.i (if x13.Last<(w64 (x3+365))then x13.Last else(w64 (x3+365))))) (bS l14::(kA a0_ a1_ (kL a2_ a3_ a4_ a5_ a6_ n9 r10 []))) .undef (bS l16::(kA a0_ a1_ (kL a2_ a3_ a4_ a5_ a6_ n9 r10 []))) true) (qcS (E:=qd) (l:=l14) (y:=(⟨x15.Name,x15.Batch,x15.Born,x15.Last,x15.Uses,x15.Used,x15.Limit,(if x13.Last<(w64 (x3+365))then x13.Last else(w64 (x3+365))),x15.Gone⟩:qc)) rfl (show _=some 1 by kernel_rfl) rfl e_x15 rfl rfl rfl rfl rfl e_l16 rfl)) az)))) ((show Sub (ofG 53 (kAF []),(bS l16::(kA a0_ a1_ (kL a2_ a3_ a4_ a5_ a6_ n9 r10 [])))) (ofG 53 ((2,.ptr 1 0)::(kAZ [])),(bS l16::(kA a0_ l16 [bZ])))from(Sub.norm [] [some 0,some 1,some 3] (by rw[hB];rfl) rfl (.kp (.kp .nil)) (.ks (.kb rfl (.cells (rc (.same nI) (rc (.sliceE rfl ((xW e_l14).trans (xW e_l16))) rn))) (.kb rfl (.same sn) .nil))))).trans (Sub.refl _))
  intro _ hsub
  refine Goes.sub hsub ?_
  refine sg fol (kAZ kBe) (bS l17::(kA a0_ l17 (kA a0_ l17 []))) ?_
  refine Goes.ret ?_
  simp only[Option.some.injEq,Prod.mk.injEq]at h
  obtain⟨rfl,rfl⟩:=h
  exact(gh2 (kO a0_ l17 [.i 0]) (Sub.norm [] [some 0] (by rw[hB];rfl) rfl (.keep (.tupleL (rc (.aggL (rc (.same nI) (rc (.slice rfl) rn))) (rc (.same nI) rn))) .nil) (.ks .nil)))
def xA (N:Nat) (a0_:Int) (a1_:List qc) (a2_:Int) (a3_:Str) (a4_:List Str) (a5_:List Int) (a6_:Str):Option ((List qc)×Int):=
 (idx a5_ 0).bind fun x3=>
 (idx a5_ 1).bind fun x4=>
 (idx a4_ 0).bind fun x5=>
 (zn N a0_ a1_ x5 x3).bind fun(i7,ok8,n9)=>
 if(!decide (n9=0))=true then
 some (a1_,n9)
 else
 ((match ok8 with
 |false=>
 none
 |true=>
 (idx a1_ i7).bind fun x11=>
 (jK x11 x3).bind fun r12=>
 (qX (!r12) 24).bind fun r13=>
 (qX (decide (x4>x11.Limit)) 31).bind fun r14=>
 (zH N ([r13,r14]:List Int)).bind fun r15=>
 some (r13,r14,r15)):Option (Int×Int×Int)).bind fun(n16,n17,n18)=>
 if(!decide (n18=0))=true then
 some (a1_,n18)
 else
 (idx a1_ i7).bind fun x21=>
 (put a1_ i7 (⟨x21.Name,x21.Batch,x21.Born,x21.Last,x21.Uses,w64 (x21.Used+1),x21.Limit,x21.Until,x21.Gone⟩:qc)).bind fun l22=>
 some (l22,0)
theorem qeE (N:Nat) (a0_:Int) (a1_:List qc) (a2_:Int) (a3_:Str) (a4_:List Str) (a5_:List Int) (a6_:Str) {l1:List qc} {n2:Int} (h:xA N a0_ a1_ a2_ a3_ a4_ a5_ a6_=some (l1,n2)):qf Tryz.prog (.fn 119) (kO a0_ a1_ [.agg (cF a2_ a3_ a4_ a5_ a6_)]) [bS a1_] (.tuple (kO a0_ l1 [.i n2])) [bS l1]:=by
 unfold xA at h
 refine Goes.fnH Tryz.func119 rfl rfl (m:=60) rfl (rs:=[.cell 4 47,.tmp 5]) rfl (l:=(kAs a0_ a1_ [(1,.agg (cF a2_ a3_ a4_ a5_ a6_))])) rfl ?_
 intro B hB
 refine sg fol (kB []) (bS a1_::(kA a0_ a1_ (kAJ a2_ a3_ a4_ a5_ a6_))) ?_
 obtain⟨x3,e_x3,h⟩:=bnd h
 obtain⟨x4,e_x4,h⟩:=bnd h
 refine sq (gr fol [2,3,6,7] (kB (kAv x3 x4 [])) (ac (iv yX encI e_x3) (ac (lv 0 ce3 encI e_x3 rfl) (ac (iv yX encI e_x4) (ac (lv 0 ce3 encI e_x4 rfl) az)))) ?_)
 obtain⟨x5,e_x5,h⟩:=bnd h
 obtain⟨⟨i7,ok8,n9⟩,e_r6,h⟩:=bnd h
 try dsimp only at h
 refine sq (gr fol [3,4,6] (kAF (kAv x3 x4 [(8,pz ok8 0 ((i7:Int).toNat*9+0)),(9,.i n9)])) (ac (iv vV encS e_x5) (ac (lv 0 ce9 encS e_x5 rfl) (ac (hs (.callH 166 (kO a0_ a1_ [.str x5,.i x3]) (bS a1_::(kA a0_ a1_ (kAJ a2_ a3_ a4_ a5_ a6_))) [0] (.tuple [pz ok8 0 ((i7:Int).toNat*9+0),.i n9]) (bS a1_::(kA a0_ a1_ (kAJ a2_ a3_ a4_ a5_ a6_)))) (jL [some 0] [some 0,none,none,none] (vN N a0_ a1_ x5 x3 e_r6) (.ks .nil) rfl rfl (.back rfl rfl (.same fa) rfl (.old rfl rfl (.old rfl rfl (.old rfl rfl .nil)))) (rc (.aggL (rc (.same nI) (rc (.slice rfl) rn))) (rc (.same nS) (rc (.same nI) rn))) (.tupleL (rc ((qZ.pz rfl)) (rc (.same nI) rn))) rfl)) az))) ?_)
 refine sq ?_
 refine sh fol (kAF (kAv x3 x4 [(8,pz ok8 0 ((i7:Int).toNat*9+0)),(9,.i n9),(29,.bool (!decide (n9=0)))])) ?_
 refine ihB h (fun c10 h=>?_) (fun c10 h=>?_)
 ·refine sg fol ((4,.ptr 3 0)::(kAn n9)) (bS a1_::(kA a0_ a1_ (kBH a2_ a3_ a4_ a5_ a6_ (kA a0_ a1_ [])))) ?_
  refine Goes.ret ?_
  simp only[Option.some.injEq,Prod.mk.injEq]at h
  obtain⟨rfl,rfl⟩:=h
  exact(gh2 (kO a0_ a1_ [.i n9]) (Sub.norm [] [some 0] (by rw[hB];rfl) rfl (.keep (.tupleL (rc (.aggL (rc (.same nI) (rc (.slice rfl) rn))) (rc (.same nI) rn))) .nil) (.ks .nil)))
 ·refine Goes.skip ?_
  refine sq ?_
  refine sq ?_
  obtain⟨⟨n16,n17,n18⟩,g_v19,h⟩:=bnd h
  refine Goes.cut (s':=(ofG 60 (kAF (kAT i7 [(9,.i n18)])),(bS a1_::(kA a0_ a1_ (kL a2_ a3_ a4_ a5_ a6_ n16 n17 []))))) ?_ ?_
  ·rcases ok8 with _|_
   ·try dsimp only at g_v19
    cases g_v19
   ·try dsimp only at g_v19
    obtain⟨x11,e_x11,g_v19⟩:=bnd g_v19
    obtain⟨r12,e_r12,g_v19⟩:=bnd g_v19
    obtain⟨r13,e_r13,g_v19⟩:=bnd g_v19
    obtain⟨r14,e_r14,g_v19⟩:=bnd g_v19
    obtain⟨r15,e_r15,g_v19⟩:=bnd g_v19
    simp only[Option.some.injEq,Prod.mk.injEq]at g_v19
    obtain⟨rfl,rfl,rfl⟩:=g_v19
    exact qh.rq fol [2,4,6,11,13,15] (kAF (kAT i7 [(9,.i r15)])) (bS a1_::(kA a0_ a1_ (kL a2_ a3_ a4_ a5_ a6_ r13 r14 []))) (ac (hs (.run [0] (jT Tryz.prog 102 (.ptr 0 ((i7:Int).toNat*9+0))) (bS a1_::(kA a0_ a1_ (kAJ a2_ a3_ a4_ a5_ a6_))) (.agg (cS x11)) (bS a1_::(kA a0_ a1_ (kAJ a2_ a3_ a4_ a5_ a6_))) false) (qm9 qf6 (E:=qd) (l:=a1_) rfl rfl e_x11)) (ac (cv (qay x11 x3 e_r12)) (ac (cv (qH (!r12) 24 e_r13)) (ac (hs (.run [0] (jT Tryz.prog 3 (.ptr 0 ((i7:Int).toNat*9+6))) (bS a1_::(kA a0_ a1_ (kAJ a2_ a3_ a4_ a5_ a6_))) (.i x11.Limit) (bS a1_::(kA a0_ a1_ (kAJ a2_ a3_ a4_ a5_ a6_))) false) (qiw ce3 (E:=qd) (l:=a1_) rfl rfl e_x11 (nl rfl) rfl)) (ac (cv (qH (decide (x4>x11.Limit)) 31 e_r14)) (ac (hs (.call 37 [.slice 4 0 2 2 1] (bS a1_::(kA a0_ a1_ (kL a2_ a3_ a4_ a5_ a6_ r13 r14 []))) [4] [vl encI ([r13,r14]:List Int)] (.i r15)) (qa4 (FzL.cons (Fz.lit rfl rfl (FzL.still (AllST.cons tI (AllST.cons tI AllST.nil)))) FzL.nil) (jd N ([r13,r14]:List Int) e_r15) tI rfl)) az))))))
  try dsimp only at h
  refine sh fol (kAF (kAT i7 [(9,.i n18),(49,.bool (!decide (n18=0)))])) ?_
  refine ihB h (fun c20 h=>?_) (fun c20 h=>?_)
  ·refine sg fol ((4,.ptr 3 0)::(kAn n18)) (bS a1_::(kA a0_ a1_ (kBH a2_ a3_ a4_ a5_ a6_ (kA a0_ a1_ (kBi n16 n17))))) ?_
   refine Goes.ret ?_
   simp only[Option.some.injEq,Prod.mk.injEq]at h
   obtain⟨rfl,rfl⟩:=h
   exact(gh2 (kO a0_ a1_ [.i n18]) (Sub.norm [] [some 0] (by rw[hB];rfl) rfl (.keep (.tupleL (rc (.aggL (rc (.same nI) (rc (.slice rfl) rn))) (rc (.same nI) rn))) .nil) (.ks .nil)))
  ·refine Goes.skip ?_
   obtain⟨x21,e_x21,h⟩:=bnd h
   obtain⟨l22,e_l22,h⟩:=bnd h
   refine sq (gq fol [3,7] (kAF []) (bS l22::(kA a0_ a1_ (kL a2_ a3_ a4_ a5_ a6_ n16 n17 []))) (ac (hs (.run [0] (jT Tryz.prog 3 (.ptr 0 ((i7:Int).toNat*9+5))) (bS a1_::(kA a0_ a1_ (kL a2_ a3_ a4_ a5_ a6_ n16 n17 []))) (.i x21.Used) (bS a1_::(kA a0_ a1_ (kL a2_ a3_ a4_ a5_ a6_ n16 n17 []))) false) (qiw ce3 (E:=qd) (l:=a1_) rfl rfl e_x21 (nl rfl) rfl)) (ac (hs (.run [0] (xn Tryz.prog 3 (.ptr 0 ((i7:Int).toNat*9+5)) (.i (w64 (x21.Used+1)))) (bS a1_::(kA a0_ a1_ (kL a2_ a3_ a4_ a5_ a6_ n16 n17 []))) .undef (bS l22::(kA a0_ a1_ (kL a2_ a3_ a4_ a5_ a6_ n16 n17 []))) true) (qcS (E:=qd) (l:=a1_) (y:=(⟨x21.Name,x21.Batch,x21.Born,x21.Last,x21.Uses,w64 (x21.Used+1),x21.Limit,x21.Until,x21.Gone⟩:qc)) rfl (show _=some 1 by kernel_rfl) rfl e_x21 rfl rfl rfl rfl rfl e_l22 rfl)) az)) ?_)
   refine Goes.sub (show Sub (ofG 60 (kAF []),(bS l22::(kA a0_ a1_ (kL a2_ a3_ a4_ a5_ a6_ n16 n17 [])))) (ofG 60 ((2,.ptr 1 0)::(kAZ [])),(bS l22::(kA a0_ l22 [bZ])))from(Sub.norm [] [some 0,some 1,some 3] (by rw[hB];rfl) rfl (.kp (.kp .nil)) (.ks (.kb rfl (.cells (rc (.same nI) (rc (.sliceE rfl (xW e_l22)) rn))) (.kb rfl (.same sn) .nil))))) ?_
   refine sg fol (kAZ kBe) (bS l22::(kA a0_ l22 (kA a0_ l22 []))) ?_
   refine Goes.ret ?_
   simp only[Option.some.injEq,Prod.mk.injEq]at h
   obtain⟨rfl,rfl⟩:=h
   exact(gh2 (kO a0_ l22 [.i 0]) (Sub.norm [] [some 0] (by rw[hB];rfl) rfl (.keep (.tupleL (rc (.aggL (rc (.same nI) (rc (.slice rfl) rn))) (rc (.same nI) rn))) .nil) (.ks .nil)))
def ym (N:Nat) (a0_:Int) (a1_:List qc) (a2_:Int) (a3_:Str) (a4_:List Str) (a5_:List Int) (a6_:Str):Option ((List qc)×Int):=
 (idx a4_ 0).bind fun x3=>
 (idx a5_ 0).bind fun x4=>
 (zn N a0_ a1_ x3 x4).bind fun(i6,ok7,n8)=>
 if(!decide (n8=0))=true then
 some (a1_,n8)
 else
 ((match ok7 with
 |false=>
 none
 |true=>
 (idx a1_ i6).bind fun x10=>
 (put a1_ i6 (⟨x10.Name,x10.Batch,x10.Born,x10.Last,x10.Uses,x10.Used,x10.Limit,x10.Until,true⟩:qc)).bind fun l11=>
 some l11):Option (List qc)).bind fun l12=>
 some (l12,0)
theorem qdM (N:Nat) (a0_:Int) (a1_:List qc) (a2_:Int) (a3_:Str) (a4_:List Str) (a5_:List Int) (a6_:Str) {l1:List qc} {n2:Int} (h:ym N a0_ a1_ a2_ a3_ a4_ a5_ a6_=some (l1,n2)):qf Tryz.prog (.fn 120) (kO a0_ a1_ [.agg (cF a2_ a3_ a4_ a5_ a6_)]) [bS a1_] (.tuple (kO a0_ l1 [.i n2])) [bS l1]:=by
 unfold ym at h
 refine Goes.fnH Tryz.func120 rfl rfl (m:=29) rfl (rs:=[.cell 4 47,.tmp 5]) rfl (l:=(kAs a0_ a1_ [(1,.agg (cF a2_ a3_ a4_ a5_ a6_))])) rfl ?_
 intro B hB
 refine sg fol (kB []) (bS a1_::(kA a0_ a1_ (kAJ a2_ a3_ a4_ a5_ a6_))) ?_
 obtain⟨x3,e_x3,h⟩:=bnd h
 obtain⟨x4,e_x4,h⟩:=bnd h
 obtain⟨⟨i6,ok7,n8⟩,e_r5,h⟩:=bnd h
 try dsimp only at h
 refine sq (gr fol [3,4,7,8,9] (kAF [(6,pz ok7 0 ((i6:Int).toNat*9+0)),(7,.i n8)]) (ac (iv vV encS e_x3) (ac (lv 0 ce9 encS e_x3 rfl) (ac (iv yX encI e_x4) (ac (lv 0 ce3 encI e_x4 rfl) (ac (hs (.callH 166 (kO a0_ a1_ [.str x3,.i x4]) (bS a1_::(kA a0_ a1_ (kAJ a2_ a3_ a4_ a5_ a6_))) [0] (.tuple [pz ok7 0 ((i6:Int).toNat*9+0),.i n8]) (bS a1_::(kA a0_ a1_ (kAJ a2_ a3_ a4_ a5_ a6_)))) (jL [some 0] [some 0,none,none,none] (vN N a0_ a1_ x3 x4 e_r5) (.ks .nil) rfl rfl (.back rfl rfl (.same fa) rfl (.old rfl rfl (.old rfl rfl (.old rfl rfl .nil)))) (rc (.aggL (rc (.same nI) (rc (.slice rfl) rn))) (rc (.same nS) (rc (.same nI) rn))) (.tupleL (rc ((qZ.pz rfl)) (rc (.same nI) rn))) rfl)) az))))) ?_)
 refine sq ?_
 refine sh fol (kAF [(6,pz ok7 0 ((i6:Int).toNat*9+0)),(7,.i n8),(22,.bool (!decide (n8=0)))]) ?_
 refine ihB h (fun c9 h=>?_) (fun c9 h=>?_)
 ·refine sg fol ((4,.ptr 3 0)::(kAn n8)) (bS a1_::(kA a0_ a1_ (kBH a2_ a3_ a4_ a5_ a6_ (kA a0_ a1_ [])))) ?_
  refine Goes.ret ?_
  simp only[Option.some.injEq,Prod.mk.injEq]at h
  obtain⟨rfl,rfl⟩:=h
  exact(gh2 (kO a0_ a1_ [.i n8]) (Sub.norm [] [some 0] (by rw[hB];rfl) rfl (.keep (.tupleL (rc (.aggL (rc (.same nI) (rc (.slice rfl) rn))) (rc (.same nI) rn))) .nil) (.ks .nil)))
 ·refine Goes.skip ?_
  refine sq ?_
  obtain⟨l12,g_v13,h⟩:=bnd h
  refine Goes.cutS (s':=(ofG 29 ((2,.ptr 1 0)::(kAZ [])),(bS l12::(kA a0_ l12 [bZ])))) ?_ ?_
  ·rcases ok7 with _|_
   ·try dsimp only at g_v13
    cases g_v13
   ·try dsimp only at g_v13
    obtain⟨x10,e_x10,g_v13⟩:=bnd g_v13
    obtain⟨l11,e_l11,g_v13⟩:=bnd g_v13
    obtain rfl:=si g_v13
    exact qh.sub (qh.rq fol [3] (kAF []) (bS l11::(kA a0_ a1_ (kAJ a2_ a3_ a4_ a5_ a6_))) (ac (hs (.run [0] (xn Tryz.prog 4 (.ptr 0 ((i6:Int).toNat*9+8)) (.bool true)) (bS a1_::(kA a0_ a1_ (kAJ a2_ a3_ a4_ a5_ a6_))) .undef (bS l11::(kA a0_ a1_ (kAJ a2_ a3_ a4_ a5_ a6_))) true) (qcS (E:=qd) (l:=a1_) (y:=(⟨x10.Name,x10.Batch,x10.Born,x10.Last,x10.Uses,x10.Used,x10.Limit,x10.Until,true⟩:qc)) rfl (show _=some 1 by kernel_rfl) rfl e_x10 rfl rfl rfl rfl rfl e_l11 rfl)) az)) ((show Sub (ofG 29 (kAF []),(bS l11::(kA a0_ a1_ (kAJ a2_ a3_ a4_ a5_ a6_)))) (ofG 29 ((2,.ptr 1 0)::(kAZ [])),(bS l11::(kA a0_ l11 [bZ])))from(Sub.norm [] [some 0,some 1,some 3] (by rw[hB];rfl) rfl (.kp (.kp .nil)) (.ks (.kb rfl (.cells (rc (.same nI) (rc (.sliceE rfl (xW e_l11)) rn))) (.kb rfl (.same sn) .nil))))).trans (Sub.refl _))
  intro _ hsub
  refine Goes.sub hsub ?_
  refine sg fol (kAZ kBe) (bS l12::(kA a0_ l12 (kA a0_ l12 []))) ?_
  refine Goes.ret ?_
  simp only[Option.some.injEq,Prod.mk.injEq]at h
  obtain⟨rfl,rfl⟩:=h
  exact(gh2 (kO a0_ l12 [.i 0]) (Sub.norm [] [some 0] (by rw[hB];rfl) rfl (.keep (.tupleL (rc (.aggL (rc (.same nI) (rc (.slice rfl) rn))) (rc (.same nI) rn))) .nil) (.ks .nil)))
def qU (a1_:List qc) (a4_:List Str) (a5_:List Int):Nat→(List qc)→Int→Int→Option ((List qc)×Int)
 |0,_,_,_=>none
 |K+1,l3,n4,n5=>
  if n4<(a1_.length:Int)then
  (((idx l3 n4).bind fun x13=>
  (idx a4_ 0).bind fun x14=>
  if(!(x13.Batch==x14))=true then
  some (l3,n5)
  else
  ((if n5=10 then
  some 20
  else
  some n5:Option Int)).bind fun n16=>
  (idx a5_ 0).bind fun x19=>
  (zR x13 x19).bind fun r20=>
  ((if(!r20)=true then
  some 0
  else
  some n16:Option Int)).bind fun n21=>
  (put l3 n4 (⟨x13.Name,x13.Batch,x13.Born,x13.Last,x13.Uses,x13.Used,x13.Limit,x13.Until,true⟩:qc)).bind fun l24=>
  some (l24,n21):Option ((List qc)×Int))).bind fun(l10,n11)=>
  qU a1_ a4_ a5_ K l10 (w64 (n4+1)) n11
  else
  some (l3,n5)
def vT (N:Nat) (a0_:Int) (a1_:List qc) (a2_:Int) (a3_:Str) (a4_:List Str) (a5_:List Int) (a6_:Str):Option ((List qc)×Int):=
 (qU a1_ a4_ a5_ N a1_ 0 10).bind fun(l6,n7)=>
 some (l6,n7)
theorem qcT (N:Nat) (a0_:Int) (a1_:List qc) (a2_:Int) (a3_:Str) (a4_:List Str) (a5_:List Int) (a6_:Str) {l1:List qc} {n2:Int} (h:vT N a0_ a1_ a2_ a3_ a4_ a5_ a6_=some (l1,n2)):qf Tryz.prog (.fn 121) (kO a0_ a1_ [.agg (cF a2_ a3_ a4_ a5_ a6_)]) [bS a1_] (.tuple (kO a0_ l1 [.i n2])) [bS l1]:=by
 unfold vT at h
 refine Goes.fnH Tryz.func121 rfl rfl (m:=45) rfl (rs:=[.cell 4 47,.tmp 5]) rfl (l:=(kAs a0_ a1_ [(1,.agg (cF a2_ a3_ a4_ a5_ a6_))])) rfl ?_
 intro B hB
 refine sg fol (kB []) (bS a1_::(kA a0_ a1_ (kAJ a2_ a3_ a4_ a5_ a6_))) ?_
 refine sh fol (kB [(6,.i 10)]) ?_
 refine sq ?_
 refine sh fol (kB [(6,.i 10),(11,.i (a1_.length:Int)),(12,.i 0)]) ?_
 refine Goes.block ?_
 obtain⟨r8,g8,h⟩:=bnd h
 refine Goes.imp (Q:=fun x s'=>(x= .exit 0∧ ∃l6 n7,(l6,n7)=r8∧Sub s' (ofG 45 ((2,.ptr 1 0)::(kAZ [(6,.i n7)])),(bS l6::(kA a0_ l6 [bZ]))))) ?_ ?_
 ·refine Goes.loopS (fun M s=> ∃(l3:List qc) (n4:Int) (n5:Int),s=(ofG 45 (kB ((6,.i n5)::(kAI (a1_.length:Int) n4))),(bS l3::(kA a0_ l3 (kAJ a2_ a3_ a4_ a5_ a6_))))∧qU a1_ a4_ a5_ M l3 n4 n5=some r8) ?_ (m:=N) ⟨_,_,_,rfl,g8⟩
  rintro M s ⟨l3,n4,n5,rfl,g8⟩
  cases M with
  |zero=>simp only[qU]at g8;cases g8
  |succ M=>
   rw[qU]at g8
   refine sh fol (kB [(6,.i n5),(11,.i (a1_.length:Int)),(12,.i n4),(13,.bool (decide (n4<(a1_.length:Int))))]) ?_
   refine sq ?_
   refine ihD g8 (fun c9 g8=>?_) (fun c9 g8=>?_)
   ·refine Goes.skip ?_
    refine sq ?_
    obtain⟨r12,g12,g8⟩:=bnd g8
    refine Goes.imp (Q:=fun x s'=>(x= .normal∧ ∃l10 n11,(l10,n11)=r12∧Sub s' (ofG 45 (kB ((6,.i n11)::(kAI (a1_.length:Int) n4))),(bS l10::(kA a0_ l10 (kAJ a2_ a3_ a4_ a5_ a6_)))))) ?_ ?_
    ·refine Goes.block ?_
     refine sh fol (kB (kAv n5 n4 (kAI (a1_.length:Int) n4))) ?_
     obtain⟨x13,e_x13,g12⟩:=bnd g12
     refine sq (gr fol [3] (kB ((6,.i n5)::(kAT n4 (kAI (a1_.length:Int) n4)))) (ac (hs (.done (.opt (qE Tryz.prog 45 (.slice 0 0 l3.length l3.length 9) (.i n4))) (.ptr 0 ((n4:Int).toNat*9+0))) (qi1 qbu e_x13)) az) ?_)
     refine sq ?_
     obtain⟨x14,e_x14,g12⟩:=bnd g12
     refine sq (gr fol [3,6,7] (kB ((6,.i n5)::(kAT n4 [(11,.i (a1_.length:Int)),(12,.i n4),(27,.bool (!(x13.Batch==x14)))]))) (ac (hs (.run [0] (jT Tryz.prog 9 (.ptr 0 ((n4:Int).toNat*9+1))) (bS l3::(kA a0_ l3 (kAJ a2_ a3_ a4_ a5_ a6_))) (.str x13.Batch) (bS l3::(kA a0_ l3 (kAJ a2_ a3_ a4_ a5_ a6_))) false) (qiw ce9 (E:=qd) (l:=l3) rfl rfl e_x13 (nl rfl) rfl)) (ac (iv vV encS e_x14) (ac (lv 0 ce9 encS e_x14 rfl) az))) ?_)
     refine ihB g12 (fun c15 g12=>?_) (fun c15 g12=>?_)
     ·refine Goes.exit ?_
      obtain rfl:=si g12
      exact⟨rfl,_,_,rfl,(Sub.keep [2,3,4,6,11,12] rfl rfl)⟩
     ·refine Goes.skip ?_
      refine sq ?_
      refine sh fol (kB ((6,.i n5)::(kAT n4 [(11,.i (a1_.length:Int)),(12,.i n4),(29,.bool (decide (n5=10)))]))) ?_
      obtain⟨r17,g17,g12⟩:=bnd g12
      refine Goes.imp (Q:=fun x s'=>(x= .normal∧ ∃n16,n16=r17∧Sub s' (ofG 45 (kB ((6,.i n16)::(kAT n4 (kAI (a1_.length:Int) n4)))),(bS l3::(kA a0_ l3 (kAJ a2_ a3_ a4_ a5_ a6_)))))) ?_ ?_
      ·refine ihD g17 (fun c18 g17=>?_) (fun c18 g17=>?_)
       ·refine gh fol (kB ((6,.i 20)::(kAT n4 (kAI (a1_.length:Int) n4)))) ?_
        obtain rfl:=si g17
        exact⟨rfl,_,rfl,(Sub.refl _)⟩
       ·refine Goes.skip ?_
        obtain rfl:=si g17
        exact⟨rfl,_,rfl,(Sub.keep [2,3,4,6,8,11,12] rfl rfl)⟩
      rintro x s' ⟨rfl,n16,rfl,hsub⟩
      refine Goes.sub hsub ?_
      refine sq ?_
      obtain⟨x19,e_x19,g12⟩:=bnd g12
      obtain⟨r20,e_r20,g12⟩:=bnd g12
      refine sq (gr fol [2,5,6,7] (kB ((6,.i n16)::(kAT n4 [(11,.i (a1_.length:Int)),(12,.i n4),(38,.bool (!r20))]))) (ac (hs (.run [0] (jT Tryz.prog 102 (.ptr 0 ((n4:Int).toNat*9+0))) (bS l3::(kA a0_ l3 (kAJ a2_ a3_ a4_ a5_ a6_))) (.agg (cS x13)) (bS l3::(kA a0_ l3 (kAJ a2_ a3_ a4_ a5_ a6_))) false) (qm9 qf6 (E:=qd) (l:=l3) rfl rfl e_x13)) (ac (iv yX encI e_x19) (ac (lv 0 ce3 encI e_x19 rfl) (ac (cv (vg x13 x19 e_r20)) az)))) ?_)
      obtain⟨r22,g22,g12⟩:=bnd g12
      refine Goes.imp (Q:=fun x s'=>(x= .normal∧ ∃n21,n21=r22∧Sub s' (ofG 45 (kB ((6,.i n21)::(kAT n4 (kAI (a1_.length:Int) n4)))),(bS l3::(kA a0_ l3 (kAJ a2_ a3_ a4_ a5_ a6_)))))) ?_ ?_
      ·refine ihB g22 (fun c23 g22=>?_) (fun c23 g22=>?_)
       ·refine gh fol (kB ((6,.i 0)::(kAT n4 (kAI (a1_.length:Int) n4)))) ?_
        obtain rfl:=si g22
        exact⟨rfl,_,rfl,(Sub.refl _)⟩
       ·refine Goes.skip ?_
        obtain rfl:=si g22
        exact⟨rfl,_,rfl,(Sub.keep [2,3,4,6,8,11,12] rfl rfl)⟩
      rintro x s' ⟨rfl,n21,rfl,hsub⟩
      refine Goes.sub hsub ?_
      obtain⟨l24,e_l24,g12⟩:=bnd g12
      refine gq fol [3] (kB ((6,.i n21)::(kAI (a1_.length:Int) n4))) (bS l24::(kA a0_ l3 (kAJ a2_ a3_ a4_ a5_ a6_))) (ac (hs (.run [0] (xn Tryz.prog 4 (.ptr 0 ((n4:Int).toNat*9+8)) (.bool true)) (bS l3::(kA a0_ l3 (kAJ a2_ a3_ a4_ a5_ a6_))) .undef (bS l24::(kA a0_ l3 (kAJ a2_ a3_ a4_ a5_ a6_))) true) (qcS (E:=qd) (l:=l3) (y:=(⟨x13.Name,x13.Batch,x13.Born,x13.Last,x13.Uses,x13.Used,x13.Limit,x13.Until,true⟩:qc)) rfl (show _=some 1 by kernel_rfl) rfl e_x13 rfl rfl rfl rfl rfl e_l24 rfl)) az) ?_
      obtain rfl:=si g12
      exact⟨rfl,_,_,rfl,((show Sub (ofG 45 (kB ((6,.i n21)::(kAI (a1_.length:Int) n4))),(bS l24::(kA a0_ l3 (kAJ a2_ a3_ a4_ a5_ a6_)))) (ofG 45 (kB ((6,.i n21)::(kAI (a1_.length:Int) n4))),(bS l24::(kA a0_ l24 (kAJ a2_ a3_ a4_ a5_ a6_))))from(Sub.norm [] [some 0,some 1,some 2,some 3] (by rw[hB];rfl) rfl (.kp (.kp (.kp (.keep (.same nI) (.keep (.same nI) (.keep (.same nI) .nil)))))) (.ks (.kb rfl (.cells (rc (.same nI) (rc (.sliceE rfl (xW e_l24)) rn))) (.kb rfl (.same sn) (.kb rfl (.same sn) .nil)))))).trans (Sub.refl _))⟩
    rintro x s' ⟨rfl,l10,n11,rfl,hsub⟩
    try dsimp only at g8
    refine Goes.sub hsub ?_
    refine gh fol (kB ((6,.i n11)::(kAI (a1_.length:Int) (w64 (n4+1))))) ?_
    exact⟨M,(ofG 45 (kB ((6,.i n11)::(kAI (a1_.length:Int) (w64 (n4+1))))),(bS l10::(kA a0_ l10 (kAJ a2_ a3_ a4_ a5_ a6_)))),Nat.lt_succ_self _,(Sub.refl _),_,_,_,rfl,g8⟩
   ·refine Goes.exit ?_
    obtain rfl:=si g8
    exact⟨rfl,_,_,rfl,(Sub.norm [] [some 0,some 1,some 3] (by rw[hB];rfl) rfl (.kp (.drop (.kp (.keep (.same nI) .nil)))) (.ks (.kb rfl (.cells (rc (.same nI) (rc (.slice rfl) rn))) (.kb rfl (.same sn) .nil))))⟩
 rintro x s' ⟨rfl,l6,n7,rfl,hsub⟩
 try dsimp only at h
 refine Goes.sub hsub ?_
 refine sg fol (kAZ (kAn n7)) (bS l6::(kA a0_ l6 (kA a0_ l6 []))) ?_
 refine Goes.ret ?_
 simp only[Option.some.injEq,Prod.mk.injEq]at h
 obtain⟨rfl,rfl⟩:=h
 exact(gh2 (kO a0_ l6 [.i n7]) (Sub.norm [] [some 0] (by rw[hB];rfl) rfl (.keep (.tupleL (rc (.aggL (rc (.same nI) (rc (.slice rfl) rn))) (rc (.same nI) rn))) .nil) (.ks .nil)))
def qx (N:Nat) (a0_:Int) (a1_:List qc) (a2_:Int) (a3_:Str) (a4_:List Str) (a5_:List Int) (a6_:Str):Option (Int×(List qc)×Int):=
 (idx a5_ 0).bind fun x4=>
 (vw x4).bind fun r5=>
 (qX (decide (x4<a0_)) 19).bind fun r6=>
 (zH N ([r5,r6]:List Int)).bind fun r7=>
 if(!decide (r7=0))=true then
 some (0,[],r7)
 else
 ((zF).bind fun r9=>
 if(a3_==[109,97,107,101])=true then
 (qm a0_ a1_).bind fun l12=>
 (xB N a0_ l12 a2_ a3_ a4_ a5_ a6_).bind fun(l14,n15)=>
 some (l14,n15)
 else
 if(a3_==[116,101,115,116])=true then
 (qm a0_ a1_).bind fun l18=>
 (yw N a0_ l18 a2_ a3_ a4_ a5_ a6_).bind fun(l20,n21)=>
 some (l20,n21)
 else
 if(a3_==[117,115,101])=true then
 (qm a0_ a1_).bind fun l24=>
 (xA N a0_ l24 a2_ a3_ a4_ a5_ a6_).bind fun(l26,n27)=>
 some (l26,n27)
 else
 if(a3_==[102,97,105,108])=true then
 (qm a0_ a1_).bind fun l30=>
 (ym N a0_ l30 a2_ a3_ a4_ a5_ a6_).bind fun(l32,n33)=>
 some (l32,n33)
 else
 if(a3_==[114,101,99,97,108,108])=true then
 (qm a0_ a1_).bind fun l36=>
 (vT N a0_ l36 a2_ a3_ a4_ a5_ a6_).bind fun(l38,n39)=>
 some (l38,n39)
 else
 if(a3_==[117,110,100,111])=true then
 none
 else
 none:Option ((List qc)×Int)).bind fun(l45,n46)=>
 some (x4,l45,n46)
theorem qbg (N:Nat) (a0_:Int) (a1_:List qc) (a2_:Int) (a3_:Str) (a4_:List Str) (a5_:List Int) (a6_:Str) {n1:Int} {l2:List qc} {n3:Int} (h:qx N a0_ a1_ a2_ a3_ a4_ a5_ a6_=some (n1,l2,n3)):qf Tryz.prog (.fn 161) (kAO a0_ a1_ [.agg (cF a2_ a3_ a4_ a5_ a6_)]) [] (.tuple (kAO n1 l2 [.i n3])) []:=by
 unfold qx at h
 refine Goes.fnH Tryz.func161 rfl rfl (m:=43) rfl (rs:=[.cell 4 47,.tmp 5]) rfl (l:=(kBX a0_ a1_ [(1,.agg (cF a2_ a3_ a4_ a5_ a6_))])) rfl ?_
 intro B hB
 refine sg fol (kI (kAZ [])) (kC a0_ a1_ (kAJ a2_ a3_ a4_ a5_ a6_)) ?_
 obtain⟨x4,e_x4,h⟩:=bnd h
 refine sq (gr fol [2,3] (kI (kAZ [(6,.i x4)])) (ac (iv yX encI e_x4) (ac (lv 0 ce3 encI e_x4 rfl) az)) ?_)
 refine sq ?_
 obtain⟨r5,e_r5,h⟩:=bnd h
 obtain⟨r6,e_r6,h⟩:=bnd h
 obtain⟨r7,e_r7,h⟩:=bnd h
 refine sq (gq fol [1,6,8] (kI (kAZ (kAv x4 r7 []))) (kC a0_ a1_ (kL a2_ a3_ a4_ a5_ a6_ r5 r6 [])) (ac (cv (xY x4 e_r5)) (ac (cv (qH (decide (x4<a0_)) 19 e_r6)) (ac (hs (.call 37 [.slice 3 0 2 2 1] (kC a0_ a1_ (kL a2_ a3_ a4_ a5_ a6_ r5 r6 [])) [3] [vl encI ([r5,r6]:List Int)] (.i r7)) (qa4 (FzL.cons (Fz.lit rfl rfl (FzL.still (AllST.cons tI (AllST.cons tI AllST.nil)))) FzL.nil) (jd N ([r5,r6]:List Int) e_r7) tI rfl)) az))) ?_)
 refine sh fol (kI (kAZ (kAv x4 r7 [(24,.bool (!decide (r7=0)))]))) ?_
 refine ihB h (fun c8 h=>?_) (fun c8 h=>?_)
 ·refine sh fol (kAZ (kAn r7)) ?_
  refine Goes.ret ?_
  simp only[Option.some.injEq,Prod.mk.injEq]at h
  obtain⟨rfl,rfl,rfl⟩:=h
  exact(gh2 [.agg [.i 0,.nilslice],.i r7] (Sub.norm [] [] (by rw[hB];rfl) rfl (.keep (.tupleL (rc (.aggL (rc (.same nI) (rc (.nilv) rn))) (rc (.same nI) rn))) .nil) .nil))
 ·refine Goes.skip ?_
  refine sq ?_
  obtain⟨⟨l45,n46⟩,g_v47,h⟩:=bnd h
  refine Goes.cutS (s':=(ofG 43 (kAw [(6,.i x4),(8,.ptr 1 0),(9,.i n46)]),(bZ::(kC a0_ l45 [])))) ?_ ?_
  ·obtain⟨r9,e_r9,g_v47⟩:=bnd g_v47
   rcases wyB g_v47 with⟨c10,g_v47⟩|⟨c10,g_v47⟩
   ·obtain⟨l12,e_r11,g_v47⟩:=bnd g_v47
    obtain⟨⟨l14,n15⟩,e_r13,g_v47⟩:=bnd g_v47
    try dsimp only at g_v47
    simp only[Option.some.injEq,Prod.mk.injEq]at g_v47
    obtain⟨rfl,rfl⟩:=g_v47
    exact qh.sub (qh.rq fol [0,3,6,8] (kAZ (kBc x4 n15)) (kC a0_ a1_ (kL a2_ a3_ a4_ a5_ a6_ r5 r6 (.dead::(kC a0_ l14 [])))) (ac (cv (qy e_r9)) (ac (hs (.done (zM Tryz.prog 140 (fm1) (.str a3_) false) (.agg [.i 2,.i 3,.func (.func 117) [] []])) (qey qau [[109,97,107,101],[116,101,115,116],[117,115,101],[102,97,105,108],[114,101,99,97,108,108],[117,110,100,111]] (jk c10) rfl)) (ac (hs (.callH 49 [.agg (kAm a0_ a1_)] (kC a0_ a1_ (kL a2_ a3_ a4_ a5_ a6_ r5 r6 [])) [] (.agg (kA8 a0_ l12)) (kC a0_ a1_ (kL a2_ a3_ a4_ a5_ a6_ r5 r6 [bS l12]))) (jL [] [none,none,none,none,some 0] (ku a0_ a1_ e_r11) .nil rfl rfl (.old rfl rfl (.old rfl rfl (.old rfl rfl (.old rfl rfl (.new rfl rfl (.same fa) rfl .nil))))) (rc (.same (qo.agg sn)) rn) (.aggL (rc (.same nI) (rc (.slice rfl) rn))) rfl)) (ac (hs (.callH 117 (kAR a0_ l12 [.agg (cF a2_ a3_ a4_ a5_ a6_)]) (kC a0_ a1_ (kL a2_ a3_ a4_ a5_ a6_ r5 r6 [bS l12])) [4] (.tuple (kAO a0_ l14 [.i n15])) (kC a0_ a1_ (kL a2_ a3_ a4_ a5_ a6_ r5 r6 [.dead]))) (jL [some 4] [none,none,none,none,none] (qeO N a0_ l12 a2_ a3_ a4_ a5_ a6_ e_r13) (.ks .nil) rfl rfl (.old rfl rfl (.old rfl rfl (.old rfl rfl (.old rfl rfl (.dead .nil))))) (rc (.aggL (rc (.same nI) (rc (.slice rfl) rn))) (rc (.same (qo.agg sn)) rn)) (.same (qo.tuple sn)) rfl)) az))))) (Sub.norm [] [some 2,some 5] (by rw[hB];rfl) rfl (.kp (.keep (.same nI) (.kp (.keep (.same nI) .nil)))) (.kb rfl (.same sn) (.kb rfl (.same sn) .nil)))
   ·rcases wyB g_v47 with⟨c16,g_v47⟩|⟨c16,g_v47⟩
    ·obtain⟨l18,e_r17,g_v47⟩:=bnd g_v47
     obtain⟨⟨l20,n21⟩,e_r19,g_v47⟩:=bnd g_v47
     try dsimp only at g_v47
     simp only[Option.some.injEq,Prod.mk.injEq]at g_v47
     obtain⟨rfl,rfl⟩:=g_v47
     exact qh.sub (qh.rq fol [0,3,6,8] (kAZ (kBc x4 n21)) (kC a0_ a1_ (kL a2_ a3_ a4_ a5_ a6_ r5 r6 (bS l20::(kAy a0_ l20 [])))) (ac (cv (qy e_r9)) (ac (hs (.done (zM Tryz.prog 140 (fm1) (.str a3_) false) (.agg [.i 1,.i 2,.func (.func 118) [] []])) (qey qau [[109,97,107,101],[116,101,115,116],[117,115,101],[102,97,105,108],[114,101,99,97,108,108],[117,110,100,111]] (ql c10 (jk c16)) rfl)) (ac (hs (.callH 49 [.agg (kAm a0_ a1_)] (kC a0_ a1_ (kL a2_ a3_ a4_ a5_ a6_ r5 r6 [])) [] (.agg (kA8 a0_ l18)) (kC a0_ a1_ (kL a2_ a3_ a4_ a5_ a6_ r5 r6 [bS l18]))) (jL [] [none,none,none,none,some 0] (ku a0_ a1_ e_r17) .nil rfl rfl (.old rfl rfl (.old rfl rfl (.old rfl rfl (.old rfl rfl (.new rfl rfl (.same fa) rfl .nil))))) (rc (.same (qo.agg sn)) rn) (.aggL (rc (.same nI) (rc (.slice rfl) rn))) rfl)) (ac (hs (.callH 118 (kAR a0_ l18 [.agg (cF a2_ a3_ a4_ a5_ a6_)]) (kC a0_ a1_ (kL a2_ a3_ a4_ a5_ a6_ r5 r6 [bS l18])) [4] (.tuple (kAR a0_ l20 [.i n21])) (kC a0_ a1_ (kL a2_ a3_ a4_ a5_ a6_ r5 r6 [bS l20]))) (jL [some 4] [none,none,none,none,some 0] (qdL N a0_ l18 a2_ a3_ a4_ a5_ a6_ e_r19) (.ks .nil) rfl rfl (.old rfl rfl (.old rfl rfl (.old rfl rfl (.old rfl rfl (.back rfl rfl (.same fa) rfl .nil))))) (rc (.aggL (rc (.same nI) (rc (.slice rfl) rn))) (rc (.same (qo.agg sn)) rn)) (.tupleL (rc (.aggL (rc (.same nI) (rc (.slice rfl) rn))) (rc (.same nI) rn))) rfl)) az))))) (Sub.norm [4] [some 2,some 5] (by rw[hB];rfl) rfl (.kp (.keep (.same nI) (.kp (.keep (.same nI) .nil)))) (.kb rfl (.same sn) (.kb rfl (.cells (rc (.same nI) (rc (.frz (Fz.sl (E:=qd) rfl rfl (nl rfl)) (qw qd _)) rn))) .nil)))
    ·rcases wyB g_v47 with⟨c22,g_v47⟩|⟨c22,g_v47⟩
     ·obtain⟨l24,e_r23,g_v47⟩:=bnd g_v47
      obtain⟨⟨l26,n27⟩,e_r25,g_v47⟩:=bnd g_v47
      try dsimp only at g_v47
      simp only[Option.some.injEq,Prod.mk.injEq]at g_v47
      obtain⟨rfl,rfl⟩:=g_v47
      exact qh.sub (qh.rq fol [0,3,6,8] (kAZ (kBc x4 n27)) (kC a0_ a1_ (kL a2_ a3_ a4_ a5_ a6_ r5 r6 (bS l26::(kAy a0_ l26 [])))) (ac (cv (qy e_r9)) (ac (hs (.done (zM Tryz.prog 140 (fm1) (.str a3_) false) (.agg [.i 1,.i 2,.func (.func 119) [] []])) (qey qau [[109,97,107,101],[116,101,115,116],[117,115,101],[102,97,105,108],[114,101,99,97,108,108],[117,110,100,111]] (ql c10 (ql c16 (jk c22))) rfl)) (ac (hs (.callH 49 [.agg (kAm a0_ a1_)] (kC a0_ a1_ (kL a2_ a3_ a4_ a5_ a6_ r5 r6 [])) [] (.agg (kA8 a0_ l24)) (kC a0_ a1_ (kL a2_ a3_ a4_ a5_ a6_ r5 r6 [bS l24]))) (jL [] [none,none,none,none,some 0] (ku a0_ a1_ e_r23) .nil rfl rfl (.old rfl rfl (.old rfl rfl (.old rfl rfl (.old rfl rfl (.new rfl rfl (.same fa) rfl .nil))))) (rc (.same (qo.agg sn)) rn) (.aggL (rc (.same nI) (rc (.slice rfl) rn))) rfl)) (ac (hs (.callH 119 (kAR a0_ l24 [.agg (cF a2_ a3_ a4_ a5_ a6_)]) (kC a0_ a1_ (kL a2_ a3_ a4_ a5_ a6_ r5 r6 [bS l24])) [4] (.tuple (kAR a0_ l26 [.i n27])) (kC a0_ a1_ (kL a2_ a3_ a4_ a5_ a6_ r5 r6 [bS l26]))) (jL [some 4] [none,none,none,none,some 0] (qeE N a0_ l24 a2_ a3_ a4_ a5_ a6_ e_r25) (.ks .nil) rfl rfl (.old rfl rfl (.old rfl rfl (.old rfl rfl (.old rfl rfl (.back rfl rfl (.same fa) rfl .nil))))) (rc (.aggL (rc (.same nI) (rc (.slice rfl) rn))) (rc (.same (qo.agg sn)) rn)) (.tupleL (rc (.aggL (rc (.same nI) (rc (.slice rfl) rn))) (rc (.same nI) rn))) rfl)) az))))) (Sub.norm [4] [some 2,some 5] (by rw[hB];rfl) rfl (.kp (.keep (.same nI) (.kp (.keep (.same nI) .nil)))) (.kb rfl (.same sn) (.kb rfl (.cells (rc (.same nI) (rc (.frz (Fz.sl (E:=qd) rfl rfl (nl rfl)) (qw qd _)) rn))) .nil)))
     ·rcases wyB g_v47 with⟨c28,g_v47⟩|⟨c28,g_v47⟩
      ·obtain⟨l30,e_r29,g_v47⟩:=bnd g_v47
       obtain⟨⟨l32,n33⟩,e_r31,g_v47⟩:=bnd g_v47
       try dsimp only at g_v47
       simp only[Option.some.injEq,Prod.mk.injEq]at g_v47
       obtain⟨rfl,rfl⟩:=g_v47
       exact qh.sub (qh.rq fol [0,3,6,8] (kAZ (kBc x4 n33)) (kC a0_ a1_ (kL a2_ a3_ a4_ a5_ a6_ r5 r6 (bS l32::(kAy a0_ l32 [])))) (ac (cv (qy e_r9)) (ac (hs (.done (zM Tryz.prog 140 (fm1) (.str a3_) false) (.agg [.i 1,.i 1,.func (.func 120) [] []])) (qey qau [[109,97,107,101],[116,101,115,116],[117,115,101],[102,97,105,108],[114,101,99,97,108,108],[117,110,100,111]] (ql c10 (ql c16 (ql c22 (jk c28)))) rfl)) (ac (hs (.callH 49 [.agg (kAm a0_ a1_)] (kC a0_ a1_ (kL a2_ a3_ a4_ a5_ a6_ r5 r6 [])) [] (.agg (kA8 a0_ l30)) (kC a0_ a1_ (kL a2_ a3_ a4_ a5_ a6_ r5 r6 [bS l30]))) (jL [] [none,none,none,none,some 0] (ku a0_ a1_ e_r29) .nil rfl rfl (.old rfl rfl (.old rfl rfl (.old rfl rfl (.old rfl rfl (.new rfl rfl (.same fa) rfl .nil))))) (rc (.same (qo.agg sn)) rn) (.aggL (rc (.same nI) (rc (.slice rfl) rn))) rfl)) (ac (hs (.callH 120 (kAR a0_ l30 [.agg (cF a2_ a3_ a4_ a5_ a6_)]) (kC a0_ a1_ (kL a2_ a3_ a4_ a5_ a6_ r5 r6 [bS l30])) [4] (.tuple (kAR a0_ l32 [.i n33])) (kC a0_ a1_ (kL a2_ a3_ a4_ a5_ a6_ r5 r6 [bS l32]))) (jL [some 4] [none,none,none,none,some 0] (qdM N a0_ l30 a2_ a3_ a4_ a5_ a6_ e_r31) (.ks .nil) rfl rfl (.old rfl rfl (.old rfl rfl (.old rfl rfl (.old rfl rfl (.back rfl rfl (.same fa) rfl .nil))))) (rc (.aggL (rc (.same nI) (rc (.slice rfl) rn))) (rc (.same (qo.agg sn)) rn)) (.tupleL (rc (.aggL (rc (.same nI) (rc (.slice rfl) rn))) (rc (.same nI) rn))) rfl)) az))))) (Sub.norm [4] [some 2,some 5] (by rw[hB];rfl) rfl (.kp (.keep (.same nI) (.kp (.keep (.same nI) .nil)))) (.kb rfl (.same sn) (.kb rfl (.cells (rc (.same nI) (rc (.frz (Fz.sl (E:=qd) rfl rfl (nl rfl)) (qw qd _)) rn))) .nil)))
      ·rcases wyB g_v47 with⟨c34,g_v47⟩|⟨c34,g_v47⟩
       ·obtain⟨l36,e_r35,g_v47⟩:=bnd g_v47
        obtain⟨⟨l38,n39⟩,e_r37,g_v47⟩:=bnd g_v47
        try dsimp only at g_v47
        simp only[Option.some.injEq,Prod.mk.injEq]at g_v47
        obtain⟨rfl,rfl⟩:=g_v47
        exact qh.sub (qh.rq fol [0,3,6,8] (kAZ (kBc x4 n39)) (kC a0_ a1_ (kL a2_ a3_ a4_ a5_ a6_ r5 r6 (bS l38::(kAy a0_ l38 [])))) (ac (cv (qy e_r9)) (ac (hs (.done (zM Tryz.prog 140 (fm1) (.str a3_) false) (.agg [.i 1,.i 1,.func (.func 121) [] []])) (qey qau [[109,97,107,101],[116,101,115,116],[117,115,101],[102,97,105,108],[114,101,99,97,108,108],[117,110,100,111]] (ql c10 (ql c16 (ql c22 (ql c28 (jk c34))))) rfl)) (ac (hs (.callH 49 [.agg (kAm a0_ a1_)] (kC a0_ a1_ (kL a2_ a3_ a4_ a5_ a6_ r5 r6 [])) [] (.agg (kA8 a0_ l36)) (kC a0_ a1_ (kL a2_ a3_ a4_ a5_ a6_ r5 r6 [bS l36]))) (jL [] [none,none,none,none,some 0] (ku a0_ a1_ e_r35) .nil rfl rfl (.old rfl rfl (.old rfl rfl (.old rfl rfl (.old rfl rfl (.new rfl rfl (.same fa) rfl .nil))))) (rc (.same (qo.agg sn)) rn) (.aggL (rc (.same nI) (rc (.slice rfl) rn))) rfl)) (ac (hs (.callH 121 (kAR a0_ l36 [.agg (cF a2_ a3_ a4_ a5_ a6_)]) (kC a0_ a1_ (kL a2_ a3_ a4_ a5_ a6_ r5 r6 [bS l36])) [4] (.tuple (kAR a0_ l38 [.i n39])) (kC a0_ a1_ (kL a2_ a3_ a4_ a5_ a6_ r5 r6 [bS l38]))) (jL [some 4] [none,none,none,none,some 0] (qcT N a0_ l36 a2_ a3_ a4_ a5_ a6_ e_r37) (.ks .nil) rfl rfl (.old rfl rfl (.old rfl rfl (.old rfl rfl (.old rfl rfl (.back rfl rfl (.same fa) rfl .nil))))) (rc (.aggL (rc (.same nI) (rc (.slice rfl) rn))) (rc (.same (qo.agg sn)) rn)) (.tupleL (rc (.aggL (rc (.same nI) (rc (.slice rfl) rn))) (rc (.same nI) rn))) rfl)) az))))) (Sub.norm [4] [some 2,some 5] (by rw[hB];rfl) rfl (.kp (.keep (.same nI) (.kp (.keep (.same nI) .nil)))) (.kb rfl (.same sn) (.kb rfl (.cells (rc (.same nI) (rc (.frz (Fz.sl (E:=qd) rfl rfl (nl rfl)) (qw qd _)) rn))) .nil)))
       ·rcases wyB g_v47 with⟨c40,g_v47⟩|⟨c40,g_v47⟩
        ·cases g_v47
        ·cases g_v47
  intro _ hsub
  try dsimp only at h
  refine Goes.sub hsub ?_
  refine sg fol (kAw [(8,.ptr 1 0),(9,.i n46)]) (bZ::(kC x4 l45 [])) ?_
  refine sg fol (kAw (kAn n46)) (kC x4 l45 (kC x4 l45 [])) ?_
  refine Goes.ret ?_
  simp only[Option.some.injEq,Prod.mk.injEq]at h
  obtain⟨rfl,rfl,rfl⟩:=h
  exact(gh2 (kAO x4 l45 [.i n46]) (Sub.norm [] [] (by rw[hB];rfl) rfl (.keep (.tupleL (rc (.aggL (rc (.same nI) (rc (.same (qw qd _)) rn))) (rc (.same nI) rn))) .nil) .nil))
def jB (N:Nat) (a0_:List qb) (a1_:Option (List StateT)) (a2_:Int) (a3_:Str) (a4_:List Str) (a5_:List Int) (a6_:Str):Option ((List qb)×(Option (List StateT))×Int):=
 if(!decide (a2_=(w64 ((a0_.length:Int)+1))))=true then
 some (a0_,a1_,11)
 else
 if(a3_==[117,110,100,111])=true then
 ((match a1_ with
 |none=>
 some ((none:Option (List StateT)),decide (0=0))
 |some l6=>
 some ((some l6),decide ((l6.length:Int)=0))):Option ((Option (List StateT))×Bool)).bind fun(o7,b8)=>
 if b8=true then
 some (a0_,o7,12)
 else
 ((match o7 with
 |none=>
 (cut ([]:List StateT) 0 (w64 (0-1))).bind fun s12=>
 some (none:Option (List StateT))
 |some l11=>
 (cut l11 0 (w64 ((l11.length:Int)-1))).bind fun l13=>
 some (some l13)):Option (Option (List StateT))).bind fun o14=>
 (je (⟨a2_,a3_,a4_,a5_,a6_⟩:qb)).bind fun r16=>
 (app 88 a0_ [r16]).bind fun l17=>
 some (l17,o14,0)
 else
 (qF a0_ a1_).bind fun(o19,n20,l21)=>
 (qx N n20 l21 a2_ a3_ a4_ a5_ a6_).bind fun(n23,l24,n25)=>
 if(!decide (n25=0))=true then
 some (a0_,o19,n25)
 else
 ((match o19 with
 |none=>
 some ([(⟨a2_,(⟨n23,l24⟩:qJ)⟩:StateT)]:List StateT)
 |some l27=>
 (app 40 l27 [(⟨a2_,(⟨n23,l24⟩:qJ)⟩:StateT)]).bind fun l28=>
 some l28):Option (List StateT)).bind fun l29=>
 (je (⟨a2_,a3_,a4_,a5_,a6_⟩:qb)).bind fun r31=>
 (app 88 a0_ [r31]).bind fun l32=>
 some (l32,(some l29),0)
theorem qbD (N:Nat) (a0_:List qb) (a1_:Option (List StateT)) (a2_:Int) (a3_:Str) (a4_:List Str) (a5_:List Int) (a6_:Str) {l1:List qb} {o2:Option (List StateT)} {n3:Int} (h:jB N a0_ a1_ a2_ a3_ a4_ a5_ a6_=some (l1,o2,n3)):qf Tryz.prog (.fn 115) [.ptr 0 0,.agg (cF a2_ a3_ a4_ a5_ a6_)] (kQ a0_ a1_ (kD a0_ a1_ [])) (.i n3) (.cells [.gslice 3 l1.length 5,hsl 4 3 o2]:: .dead:: .dead::(kD l1 o2 [])):=by
 unfold jB at h
 refine Goes.fnH Tryz.func115 rfl rfl (m:=73) rfl (rs:=[.tmp 4]) rfl (l:=[(0,.ptr 0 0),(1,.agg (cF a2_ a3_ a4_ a5_ a6_))]) rfl ?_
 intro B hB
 refine sg fol (kAG []) (kQ a0_ a1_ (kD a0_ a1_ (kBH a2_ a3_ a4_ a5_ a6_ []))) ?_
 refine sq ?_
 refine sh fol (kAG [(15,.bool (!decide (a2_=(w64 ((a0_.length:Int)+1)))))]) ?_
 refine ihB h (fun c4 h=>?_) (fun c4 h=>?_)
 ·refine sh fol [(4,.i 11)] ?_
  refine Goes.ret ?_
  simp only[Option.some.injEq,Prod.mk.injEq]at h
  obtain⟨rfl,rfl,rfl⟩:=h
  exact(gh2 [.i 11] (Sub.norm [] [some 0,some 1,some 2,some 1,some 2] (by rw[hB];rfl) rfl (.keep (.same nI) .nil) (.kb rfl (.cells (rc (.gslice rfl) (rc (.hs rfl) rn))) (.lost (.lost (.ks (.ks .nil)))))))
 ·refine Goes.skip ?_
  refine sq ?_
  refine sh fol (kAG [(18,.bool (a3_==[117,110,100,111]))]) ?_
  refine ihB h (fun c5 h=>?_) (fun c5 h=>?_)
  ·refine sq ?_
   refine sq ?_
   obtain⟨⟨o7,b8⟩,g_v9,h⟩:=bnd h
   refine Goes.cutS (s':=(ofG 73 (kAG [(24,.bool b8)]),(kQ a0_ o7 (kD a0_ o7 (kBH a2_ a3_ a4_ a5_ a6_ []))))) ?_ ?_
   ·rcases a1_ with _|l6
    ·try dsimp only at g_v9
     simp only[Option.some.injEq,Prod.mk.injEq]at g_v9
     obtain⟨rfl,rfl⟩:=g_v9
     exact qh.sub (qh.rg fol (kAG [(24,.bool (decide (0=0)))]) (kBj a0_ (kK a0_ (.cells ((hof (none:Option (List StateT))).flatMap ja.c)::(kBH a2_ a3_ a4_ a5_ a6_ []))))) (Sub.norm [] [some 0,some 1,some 2,some 3] (by rw[hB];rfl) rfl (.kp (.kp (.keep (.same nB) .nil))) (.kb rfl (.cells (rc (.gslice rfl) (rc .hs0 rn))) (.ks (.ks (.kb rfl (.same sn) .nil)))))
    ·try dsimp only at g_v9
     simp only[Option.some.injEq,Prod.mk.injEq]at g_v9
     obtain⟨rfl,rfl⟩:=g_v9
     exact qh.sub (qh.rg fol (kAG [(24,.bool (decide ((l6.length:Int)=0)))]) (kAK a0_ l6 (kK a0_ (kAP l6 (kBH a2_ a3_ a4_ a5_ a6_ []))))) (Sub.norm [] [some 0,some 1,some 2,some 3] (by rw[hB];rfl) rfl (.kp (.kp (.keep (.same nB) .nil))) (.kb rfl (.cells (rc (.gslice rfl) (rc ((qZ.hs1 rfl)) rn))) (.ks (.ks (.kb rfl (.same sn) .nil)))))
   intro _ hsub
   try dsimp only at h
   refine Goes.sub hsub ?_
   refine ihB h (fun c10 h=>?_) (fun c10 h=>?_)
   ·refine sh fol [(4,.i 12)] ?_
    refine Goes.ret ?_
    simp only[Option.some.injEq,Prod.mk.injEq]at h
    obtain⟨rfl,rfl,rfl⟩:=h
    exact(gh2 [.i 12] (Sub.norm [] [some 0,some 1,some 2,some 1,some 2] (by rw[hB];rfl) rfl (.keep (.same nI) .nil) (.kb rfl (.cells (rc (.gslice rfl) (rc (.hs rfl) rn))) (.lost (.lost (.ks (.ks .nil)))))))
   ·refine Goes.skip ?_
    obtain⟨o14,g_v15,h⟩:=bnd h
    refine Goes.cutS (s':=(ofG 73 (kAG []),(kQ a0_ o14 (kD a0_ o14 (kBH a2_ a3_ a4_ a5_ a6_ []))))) ?_ ?_
    ·rcases o7 with _|l11
     ·try dsimp only at g_v15
      obtain⟨s12,e_s12,g_v15⟩:=bnd g_v15
      obtain rfl:=si g_v15
      exact qh.sub (qh.rq fol [11] (kAG []) (kBj a0_ (kK a0_ (.cells ((hof (none:Option (List StateT))).flatMap ja.c)::(kBH a2_ a3_ a4_ a5_ a6_ [])))) (ac (hs (.done (.opt (qz Tryz.prog 130 .nilslice none (some (.i (w64 (0-1)))) none)) .nilslice) (qnm (α:=StateT) qk0 none (some (w64 (0-1))) e_s12)) az)) (Sub.norm [] [some 0,some 1,some 2,some 3] (by rw[hB];rfl) rfl (.kp (.kp .nil)) (.kb rfl (.cells (rc (.gslice rfl) (rc .hs0 rn))) (.ks (.ks (.kb rfl (.same sn) .nil)))))
     ·try dsimp only at g_v15
      obtain⟨l13,e_l13,g_v15⟩:=bnd g_v15
      obtain rfl:=si g_v15
      exact qh.sub (qh.rq fol [11] (kAG []) (kAK a0_ l13 (kK a0_ (kAP l11 (kBH a2_ a3_ a4_ a5_ a6_ [])))) (ac (hs (.done (.opt (qz Tryz.prog 130 (.oslice 2 l11.length 3) none (some (.i (w64 ((l11.length:Int)-1)))) none)) (.oslice 2 l13.length 3)) (qoA qk0 e_l13)) az)) ((show Sub (ofG 73 (kAG []),(kAK a0_ l13 (kK a0_ (kAP l11 (kBH a2_ a3_ a4_ a5_ a6_ []))))) (ofG 73 (kAG []),(kAK a0_ l13 (kK a0_ (kAP l13 (kBH a2_ a3_ a4_ a5_ a6_ [])))))from(Sub.norm [] [some 0,some 1,some 2,some 3] (by rw[hB];rfl) rfl (.kp (.kp .nil)) (.kb rfl (.cells (rc (.gslice rfl) (rc (.oslice rfl) rn))) (.ks (.kb rfl (qa5.cut e_l13) (.kb rfl (.same sn) .nil)))))).trans (Sub.norm [] [some 0,some 1,some 2,some 3] (by rw[hB];rfl) rfl (.kp (.kp .nil)) (.kb rfl (.cells (rc (.gslice rfl) (rc ((qZ.hs1 rfl)) rn))) (.ks (.ks (.kb rfl (.same sn) .nil))))))
    intro _ hsub
    refine Goes.sub hsub ?_
    obtain⟨r16,e_r16,h⟩:=bnd h
    obtain⟨l17,e_l17,h⟩:=bnd h
    refine sq (gq fol [6,8] [] (.cells [.gslice 5 l17.length 5,hsl 2 3 o14]:: .dead:: .cells ((hof o14).flatMap ja.c)::(kBH a2_ a3_ a4_ a5_ a6_ (kA0 r16 (kK l17 [])))) (ac (cv (qaA (⟨a2_,a3_,a4_,a5_,a6_⟩:qb) e_r16)) (ac (hs (.run [1,4] (qR Tryz.prog [22,22] (.gslice 1 a0_.length 5) (.slice 4 0 1 1 5)) (kQ a0_ o14 (kD a0_ o14 (kBH a2_ a3_ a4_ a5_ a6_ (kAE r16)))) (.gslice 5 l17.length 5) (kQ a0_ o14 (.dead:: .cells ((hof o14).flatMap ja.c)::(kBH a2_ a3_ a4_ a5_ a6_ (kA0 r16 (kK l17 []))))) true) (jG zV (E:=qa) rfl (qbH (E:=qa) (ys:=[r16]) rfl rfl rfl rfl) (qgQ (E:=qa) (l:=a0_) rfl rfl rfl e_l17 rfl))) az)) ?_)
    refine sh fol kBR ?_
    refine Goes.ret ?_
    simp only[Option.some.injEq,Prod.mk.injEq]at h
    obtain⟨rfl,rfl,rfl⟩:=h
    exact(gh2 [.i 0] (Sub.norm [] [some 0,some 1,some 2,some 5,some 2] (by rw[hB];rfl) rfl (.keep (.same nI) .nil) (.kb rfl (.cells (rc (.gslice rfl) (rc (.hs rfl) rn))) (.lost (.lost (.ks (.ks .nil)))))))
  ·obtain⟨⟨o19,n20,l21⟩,e_r18,h⟩:=bnd h
   try dsimp only at h
   obtain⟨⟨n23,l24,n25⟩,e_r22,h⟩:=bnd h
   try dsimp only at h
   refine sq (gq fol [1,3] (kAG [(5,.ptr 4 0),(6,.i n25)]) (kQ a0_ o19 (kD a0_ o19 (kBH a2_ a3_ a4_ a5_ a6_ (kC n23 l24 [])))) (ac (hs (.callH 44 [.ptr 0 0] (kQ a0_ a1_ (kD a0_ a1_ (kBH a2_ a3_ a4_ a5_ a6_ []))) [0,1,2] (.agg (kAm n20 l21)) (kQ a0_ o19 (kD a0_ o19 (kBH a2_ a3_ a4_ a5_ a6_ [])))) (jL [some 0,some 1,some 2] [some 0,some 1,some 2,none] (vH a0_ a1_ e_r18) (.kb rfl (.cells (rc (.gslice rfl) (rc (.hs rfl) rn))) (.ks (.ks .nil))) rfl rfl (.back rfl rfl (.cells (rc (.gslice rfl) (rc (.hs rfl) rn))) rfl (.back rfl rfl (.same fa) rfl (.back rfl rfl (.same fa) rfl (.old rfl rfl .nil)))) (rc (.ptr rfl) rn) (.same (qo.agg sn)) rfl)) (ac (hs (.callH 161 (kAO n20 l21 [.agg (cF a2_ a3_ a4_ a5_ a6_)]) (kQ a0_ o19 (kD a0_ o19 (kBH a2_ a3_ a4_ a5_ a6_ []))) [] (.tuple (kAO n23 l24 [.i n25])) (kQ a0_ o19 (kD a0_ o19 (kBH a2_ a3_ a4_ a5_ a6_ [])))) (jL [] [none,none,none,none] (qbg N n20 l21 a2_ a3_ a4_ a5_ a6_ e_r22) .nil rfl rfl (.old rfl rfl (.old rfl rfl (.old rfl rfl (.old rfl rfl .nil)))) (rc (.same (qo.agg sn)) (rc (.same (qo.agg sn)) rn)) (.same (qo.tuple sn)) rfl)) az)) ?_)
   refine sq ?_
   refine sh fol (kAG [(5,.ptr 4 0),(6,.i n25),(47,.bool (!decide (n25=0)))]) ?_
   refine ihB h (fun c26 h=>?_) (fun c26 h=>?_)
   ·refine sh fol (kAq n25) ?_
    refine Goes.ret ?_
    simp only[Option.some.injEq,Prod.mk.injEq]at h
    obtain⟨rfl,rfl,rfl⟩:=h
    exact(gh2 [.i n25] (Sub.norm [] [some 0,some 1,some 2,some 1,some 2] (by rw[hB];rfl) rfl (.keep (.same nI) .nil) (.kb rfl (.cells (rc (.gslice rfl) (rc (.hs rfl) rn))) (.lost (.lost (.ks (.ks .nil)))))))
   ·refine Goes.skip ?_
    obtain⟨l29,g_v30,h⟩:=bnd h
    refine Goes.cutS (s':=(ofG 73 [(0,.ptr 0 0),(3,.ptr 4 0)],(.cells [.gslice 1 a0_.length 5,.oslice 3 l29.length 3]::(kK a0_ (.dead::(kAP l29 (kBH a2_ a3_ a4_ a5_ a6_ []))))))) ?_ ?_
    ·rcases o19 with _|l27
     ·try dsimp only at g_v30
      obtain rfl:=si g_v30
      exact qh.sub (qh.rg fol (kAG []) (.cells [.gslice 1 a0_.length 5,.oslice 6 1 3]::(kK a0_ (.cells ((hof (none:Option (List StateT))).flatMap ja.c)::(kBH a2_ a3_ a4_ a5_ a6_ (kC n23 l24 [.cells [.i a2_,.i n23,vl qd l24],.cells [.i a2_,.i n23,vl qd l24]])))))) (Sub.norm [] [some 0,some 1,some 2,some 6,some 3] (by rw[hB];rfl) rfl (.kp (.kp .nil)) (.kb rfl (.cells (rc (.gslice rfl) (rc ((qZ.osliceE rfl rfl)) rn))) (.ks (.lost (.ks (.kb rfl (.same sn) .nil))))))
     ·try dsimp only at g_v30
      obtain⟨l28,e_l28,g_v30⟩:=bnd g_v30
      obtain rfl:=si g_v30
      exact qh.sub (qh.rq fol [10] (kAG []) (.cells [.gslice 1 a0_.length 5,.oslice 6 l28.length 3]::(kK a0_ (.dead::(kBH a2_ a3_ a4_ a5_ a6_ (kC n23 l24 (.cells [.i a2_,.i n23,vl qd l24]::(kAP l28 []))))))) (ac (hs (.run [2,5] (qR Tryz.prog [130,130] (.oslice 2 l27.length 3) (.slice 5 0 1 1 3)) (kAK a0_ l27 (kK a0_ (kAP l27 (kBH a2_ a3_ a4_ a5_ a6_ (kC n23 l24 [.cells [.i a2_,.i n23,vl qd l24]]))))) (.oslice 6 l28.length 3) (kAK a0_ l27 (kK a0_ (.dead::(kBH a2_ a3_ a4_ a5_ a6_ (kC n23 l24 (.cells [.i a2_,.i n23,vl qd l24]::(kAP l28 []))))))) true) (jG qk0 (E:=ja) rfl (qbH (E:=ja) (ys:=[(⟨a2_,(⟨n23,l24⟩:qJ)⟩:StateT)]) rfl rfl rfl rfl) (qgD (E:=ja) (l:=l27) rfl rfl rfl e_l28 rfl))) az)) (Sub.norm [] [some 0,some 1,some 2,some 6,some 3] (by rw[hB];rfl) rfl (.kp (.kp .nil)) (.kb rfl (.cells (rc (.gslice rfl) (rc (.oslice rfl) rn))) (.ks (.lost (.ks (.kb rfl (.same sn) .nil))))))
    intro _ hsub
    refine Goes.sub hsub ?_
    obtain⟨r31,e_r31,h⟩:=bnd h
    obtain⟨l32,e_l32,h⟩:=bnd h
    refine sq (gq fol [6,8] [] (.cells [.gslice 6 l32.length 5,.oslice 3 l29.length 3]:: .dead:: .dead::(kAP l29 (kBH a2_ a3_ a4_ a5_ a6_ (kA0 r31 (kK l32 []))))) (ac (cv (qaA (⟨a2_,a3_,a4_,a5_,a6_⟩:qb) e_r31)) (ac (hs (.run [1,5] (qR Tryz.prog [22,22] (.gslice 1 a0_.length 5) (.slice 5 0 1 1 5)) (.cells [.gslice 1 a0_.length 5,.oslice 3 l29.length 3]::(kK a0_ (.dead::(kAP l29 (kBH a2_ a3_ a4_ a5_ a6_ (kAE r31)))))) (.gslice 6 l32.length 5) (.cells [.gslice 1 a0_.length 5,.oslice 3 l29.length 3]:: .dead:: .dead::(kAP l29 (kBH a2_ a3_ a4_ a5_ a6_ (kA0 r31 (kK l32 []))))) true) (jG zV (E:=qa) rfl (qbH (E:=qa) (ys:=[r31]) rfl rfl rfl rfl) (qgQ (E:=qa) (l:=a0_) rfl rfl rfl e_l32 rfl))) az)) ?_)
    refine sh fol kBR ?_
    refine Goes.ret ?_
    simp only[Option.some.injEq,Prod.mk.injEq]at h
    obtain⟨rfl,rfl,rfl⟩:=h
    exact(gh2 [.i 0] (Sub.norm [] [some 0,some 1,some 2,some 6,some 3] (by rw[hB];rfl) rfl (.keep (.same nI) .nil) (.kb rfl (.cells (rc (.gslice rfl) (rc ((qZ.hs1 rfl)) rn))) (.lost (.lost (.ks (.ks .nil)))))))
def vD (N:Nat) (a0_:List qb) (a1_:Option (List StateT)) (a2_:Int) (a3_:Str) (a4_:List Str) (a5_:List Int) (a6_:Str):Option ((List qb)×(Option (List StateT))×Int):=
 (jA N (⟨a2_,a3_,a4_,a5_,a6_⟩:qb)).bind fun r4=>
 if(!decide (r4=0))=true then
 some (a0_,a1_,r4)
 else
 (jB N a0_ a1_ a2_ a3_ a4_ a5_ a6_).bind fun(l7,o8,n9)=>
 some (l7,o8,n9)
theorem qcr (N:Nat) (a0_:List qb) (a1_:Option (List StateT)) (a2_:Int) (a3_:Str) (a4_:List Str) (a5_:List Int) (a6_:Str) {l1:List qb} {o2:Option (List StateT)} {n3:Int} (h:vD N a0_ a1_ a2_ a3_ a4_ a5_ a6_=some (l1,o2,n3)):qf Tryz.prog (.fn 71) [.ptr 0 0,.agg (cF a2_ a3_ a4_ a5_ a6_)] (kQ a0_ a1_ (kD a0_ a1_ [])) (.i n3) (.cells [.gslice 3 l1.length 5,hsl 4 3 o2]:: .dead:: .dead::(kD l1 o2 [])):=by
 unfold vD at h
 refine Goes.fnH Tryz.func71 rfl rfl (m:=14) rfl (rs:=[.tmp 4]) rfl (l:=[(0,.ptr 0 0),(1,.agg (cF a2_ a3_ a4_ a5_ a6_))]) rfl ?_
 intro B hB
 refine sg fol (kAG []) (kQ a0_ a1_ (kD a0_ a1_ (kBH a2_ a3_ a4_ a5_ a6_ []))) ?_
 refine sq ?_
 obtain⟨r4,e_r4,h⟩:=bnd h
 refine sq (gr fol [1] (kAG (kAn r4)) (ac (cv (xq N (⟨a2_,a3_,a4_,a5_,a6_⟩:qb) e_r4)) az) ?_)
 refine sh fol (kAG [(5,.i r4),(9,.bool (!decide (r4=0)))]) ?_
 refine ihB h (fun c5 h=>?_) (fun c5 h=>?_)
 ·refine sh fol (kAq r4) ?_
  refine Goes.ret ?_
  simp only[Option.some.injEq,Prod.mk.injEq]at h
  obtain⟨rfl,rfl,rfl⟩:=h
  exact(gh2 [.i r4] (Sub.norm [] [some 0,some 1,some 2,some 1,some 2] (by rw[hB];rfl) rfl (.keep (.same nI) .nil) (.kb rfl (.cells (rc (.gslice rfl) (rc (.hs rfl) rn))) (.lost (.lost (.ks (.ks .nil)))))))
 ·refine Goes.skip ?_
  obtain⟨⟨l7,o8,n9⟩,e_r6,h⟩:=bnd h
  try dsimp only at h
  refine sq (gq fol [2] (kAq n9) (kBU l7 o8 (kBH a2_ a3_ a4_ a5_ a6_ (kD l7 o8 []))) (ac (hs (.callH 115 [.ptr 0 0,.agg (cF a2_ a3_ a4_ a5_ a6_)] (kQ a0_ a1_ (kD a0_ a1_ (kBH a2_ a3_ a4_ a5_ a6_ []))) [0,1,2] (.i n9) (kBU l7 o8 (kBH a2_ a3_ a4_ a5_ a6_ (kD l7 o8 [])))) (jL [some 0,some 1,some 2] [some 0,none,none,none,some 3,some 4] (qbD N a0_ a1_ a2_ a3_ a4_ a5_ a6_ e_r6) (.kb rfl (.cells (rc (.gslice rfl) (rc (.hs rfl) rn))) (.ks (.ks .nil))) rfl rfl (.back rfl rfl (.cells (rc (.gslice rfl) (rc (.hs rfl) rn))) rfl (.dead (.dead (.old rfl rfl (.new rfl rfl (.same fa) rfl (.new rfl rfl (.same fa) rfl .nil)))))) (rc (.ptr rfl) (rc (.same (qo.agg sn)) rn)) (.same nI) rfl)) az) ?_)
  refine Goes.ret ?_
  simp only[Option.some.injEq,Prod.mk.injEq]at h
  obtain⟨rfl,rfl,rfl⟩:=h
  exact(gh2 [.i n9] (Sub.norm [] [some 0,some 1,some 2,some 4,some 5] (by rw[hB];rfl) rfl (.keep (.same nI) .nil) (.kb rfl (.cells (rc (.gslice rfl) (rc (.hs rfl) rn))) (.lost (.lost (.ks (.ks .nil)))))))
def qY (N:Nat) (a0_:List qb):Nat→(List qb)→(Option (List StateT))→Int→Option (((List qb)×(Option (List StateT)))⊕((List qb)×(Option (List StateT))×Bool×Int×Int))
 |0,_,_,_=>none
 |K+1,l7,o8,n9=>
  if n9<(a0_.length:Int)then
  (idx a0_ n9).bind fun x15=>
  (vD N l7 o8 x15.Number x15.Kind x15.Names x15.Values x15.Text).bind fun(l17,o18,n19)=>
  if(!decide (n19=0))=true then
  some (.inr (([]:List qb),(none:Option (List StateT)),false,w64 (n9+1),n19))
  else
  qY N a0_ K l17 o18 (w64 (n9+1))
  else
  some (.inl (l7,o8))
def jO (N:Nat) (a0_:List qb):Option ((List qb)×(Option (List StateT))×Bool×Int×Int):=
 if(a0_.length:Int)>1000 then
 some (([]:List qb),(none:Option (List StateT)),false,0,5)
 else
 (qY N a0_ N ([]:List qb) (none:Option (List StateT)) 0).bind (fun
 |(.inl (l10,o11))=>
 some (l10,o11,true,0,0)
 |(.inr q21)=>
 some q21)
theorem qba (N:Nat) (a0_:List qb) {l1:List qb} {o2:Option (List StateT)} {ok3:Bool} {n4:Int} {n5:Int} (h:jO N a0_=some (l1,o2,ok3,n4,n5)):qf Tryz.prog (.fn 41) [vl qa a0_] [] (.tuple [pz ok3 0 0,.i n4,.i n5]) (kQ l1 o2 (kD l1 o2 [])):=by
 unfold jO at h
 refine Goes.fnH Tryz.func41 rfl rfl (m:=31) rfl (rs:=[.tmp 2,.tmp 3,.tmp 4]) rfl (l:=(kH a0_ [])) rfl ?_
 intro B hB
 refine sh fol (kH a0_ []) ?_
 refine sq ?_
 refine sh fol (kH a0_ [(11,.bool (decide ((a0_.length:Int)>1000)))]) ?_
 refine ihD h (fun c6 h=>?_) (fun c6 h=>?_)
 ·refine sh fol [(2,.nilptr),(3,.i 0),(4,.i 5)] ?_
  refine Goes.ret ?_
  simp only[Option.some.injEq,Prod.mk.injEq]at h
  obtain⟨rfl,rfl,rfl,rfl,rfl⟩:=h
  exact(gh2 [.nilptr,.i 0,.i 5] (Sub.norm [] [none,none,none] (by rw[hB];rfl) rfl (.keep (.tupleL (rc (qZ.pz0) (rc (.same nI) (rc (.same nI) rn)))) .nil) (.fresh (.fresh (.fresh .nil)))))
 ·refine Goes.skip ?_
  refine sg fol (kH a0_ [(5,.ptr 0 0)]) [.cells [.nilslice,.nilslice]] ?_
  refine sq ?_
  refine sh fol (kAz a0_ (a0_.length:Int) [(16,.i 0)]) ?_
  refine Goes.block ?_
  obtain⟨r12,g12,h⟩:=bnd h
  refine Goes.imp (Q:=fun x s'=>(x= .exit 0∧ ∃l10 o11,(.inl (l10,o11))=r12∧Sub s' (ofG 31 [(5,.ptr 0 0)],(kQ l10 o11 (kD l10 o11 []))))∨(x= .ret∧ ∃q13,(.inr q13)=r12∧qb8 Tryz.prog [.tmp 2,.tmp 3,.tmp 4] (.tuple [pz q13.2.2.1 0 0,.i q13.2.2.2.1,.i q13.2.2.2.2]) (kQ q13.1 q13.2.1 (kD q13.1 q13.2.1 [])) .ret s')) ?_ ?_
  ·refine Goes.sub (s':=(ofG 31 (kAz a0_ (a0_.length:Int) [(16,.i 0)]),[.cells [.gslice 1 ([]:List qb).length 5,hsl 2 3 (none:Option (List StateT))],.cells (([]:List qb).flatMap qa.c),.cells ((hof (none:Option (List StateT))).flatMap ja.c)])) (Sub.norm [] [some 0,none,none] (by rw[hB];rfl) rfl (.kp (.keep (.same (qw qa _)) (.keep (.same nI) (.keep (.same nI) .nil)))) (.kb rfl (.cells (rc (.nil) (rc .hs0 rn))) (.fresh (.fresh .nil)))) ?_
   refine Goes.loopS (fun M s=> ∃(l7:List qb) (o8:Option (List StateT)) (n9:Int),s=(ofG 31 (kAz a0_ (a0_.length:Int) [(16,.i n9)]),(kQ l7 o8 (kD l7 o8 [])))∧qY N a0_ M l7 o8 n9=some r12) ?_ (m:=N) ⟨_,_,_,rfl,g12⟩
   rintro M s ⟨l7,o8,n9,rfl,g12⟩
   cases M with
   |zero=>simp only[qY]at g12;cases g12
   |succ M=>
    rw[qY]at g12
    refine sh fol (kAz a0_ (a0_.length:Int) [(16,.i n9),(17,.bool (decide (n9<(a0_.length:Int))))]) ?_
    refine sq ?_
    refine ihD g12 (fun c14 g12=>?_) (fun c14 g12=>?_)
    ·refine Goes.skip ?_
     refine sq (Goes.block ?_)
     obtain⟨x15,e_x15,g12⟩:=bnd g12
     refine sq (gq fol [1,2] [(5,.ptr 0 0),(6,.i n9),(7,.ptr 3 0),(14,vl qa a0_),(15,.i (a0_.length:Int)),(16,.i n9)] (kQ l7 o8 (kD l7 o8 (kAE x15))) (ac (iv zV qa e_x15) (ac (la qiv qa e_x15) az)) ?_)
     obtain⟨⟨l17,o18,n19⟩,e_r16,g12⟩:=bnd g12
     try dsimp only at g12
     refine sq (gq fol [2] [(5,.ptr 0 0),(6,.i n9),(8,.i n19),(14,vl qa a0_),(15,.i (a0_.length:Int)),(16,.i n9)] (kBU l17 o18 (kA0 x15 (kD l17 o18 []))) (ac (hs (.callH 71 [.ptr 0 0,.agg (cE x15)] (kQ l7 o8 (kD l7 o8 (kAE x15))) [0,1,2] (.i n19) (kBU l17 o18 (kA0 x15 (kD l17 o18 [])))) (jL [some 0,some 1,some 2] [some 0,none,none,none,some 3,some 4] (qcr N l7 o8 x15.Number x15.Kind x15.Names x15.Values x15.Text e_r16) (.kb rfl (.cells (rc (.gslice rfl) (rc (.hs rfl) rn))) (.ks (.ks .nil))) rfl rfl (.back rfl rfl (.cells (rc (.gslice rfl) (rc (.hs rfl) rn))) rfl (.dead (.dead (.old rfl rfl (.new rfl rfl (.same fa) rfl (.new rfl rfl (.same fa) rfl .nil)))))) (rc (.ptr rfl) (rc (.same (qo.agg sn)) rn)) (.same nI) rfl)) az) ?_)
     refine sh fol [(5,.ptr 0 0),(6,.i n9),(8,.i n19),(14,vl qa a0_),(15,.i (a0_.length:Int)),(16,.i n9),(25,.bool (!decide (n19=0)))] ?_
     refine ihB g12 (fun c20 g12=>?_) (fun c20 g12=>?_)
     ·refine sh fol ((2,.nilptr)::(3,.i (w64 (n9+1)))::(kAq n19)) ?_
      refine Goes.ret ?_
      obtain rfl:=si g12
      exact Or.inr (⟨rfl,_,rfl,(gh2 [.nilptr,.i (w64 (n9+1)),.i n19] (Sub.norm [] [none,none,none] (by rw[hB];rfl) rfl (.keep (.tupleL (rc (qZ.pz0) (rc (.same nI) (rc (.same nI) rn)))) .nil) (.fresh (.fresh (.fresh .nil)))))⟩)
     ·refine Goes.skip ?_
      refine gh fol (kAz a0_ (a0_.length:Int) [(16,.i (w64 (n9+1)))]) ?_
      exact⟨M,(ofG 31 (kAz a0_ (a0_.length:Int) [(16,.i (w64 (n9+1)))]),(kQ l17 o18 (kD l17 o18 []))),Nat.lt_succ_self _,(Sub.norm [] [some 0,some 4,some 5] (by rw[hB];rfl) rfl (.kp (.keep (.same (qw qa _)) (.keep (.same nI) (.keep (.same nI) .nil)))) (.kb rfl (.cells (rc (.gslice rfl) (rc (.hs rfl) rn))) (.ks (.ks .nil)))),_,_,_,rfl,g12⟩
    ·refine Goes.exit ?_
     obtain rfl:=si g12
     exact Or.inl (⟨rfl,_,_,rfl,(Sub.keep [5] rfl rfl)⟩)
  rintro x s' (⟨rfl,l10,o11,rfl,hsub⟩|⟨rfl,q21,rfl,hret⟩)
  ·try dsimp only at h
   refine Goes.sub hsub ?_
   refine sh fol (kR ((3,.i 0)::kBR)) ?_
   refine Goes.ret ?_
   simp only[Option.some.injEq,Prod.mk.injEq]at h
   obtain⟨rfl,rfl,rfl,rfl,rfl⟩:=h
   exact(gh2 [.ptr 0 0,.i 0,.i 0] (Sub.norm [] [some 0,some 1,some 2] (by rw[hB];rfl) rfl (.keep (.tupleL (rc ((qZ.pz1 rfl)) (rc (.same nI) (rc (.same nI) rn)))) .nil) (.kb rfl (.cells (rc (.gslice rfl) (rc (.hs rfl) rn))) (.ks (.ks .nil)))))
  ·try dsimp only at h
   obtain rfl:=si h
   exact hret
def xD (a0_:qc) (a1_:Int):Option Bool:=
 (xE a0_ a1_).bind fun r1=>
 some r1
theorem qdU (a0_:qc) (a1_:Int) {res:Bool} (h:xD a0_ a1_=some res):qf Tryz.prog (.fn 45) [.agg (cS a0_),.fptr [.i a1_] 0] [] (.bool res) []:=by
 unfold xD at h
 refine Goes.fnW Tryz.func45 rfl rfl (m:=7) rfl (rs:=[.tmp 3]) rfl (l:=[(0,.agg (cS a0_)),(1,.fptr [.i a1_] 0)]) rfl ?_
 refine sg fol ((1,.fptr [.i a1_] 0)::(kR [])) (kBJ a0_) ?_
 obtain⟨r1,e_r1,h⟩:=bnd h
 refine sq (gr fol [2] [(3,.bool r1)] (ac (cv (qdR a0_ a1_ e_r1)) az) ?_)
 refine Goes.ret ?_
 obtain rfl:=si h
 exact(gw2 [.bool r1] (FzW.still tB))
def qB (a0_:List qc) (a1_:Int):Nat→(List Str)→Int→Option (List Str)
 |0,_,_=>none
 |K+1,l1,n2=>
  if n2<(a0_.length:Int)then
  (((idx a0_ n2).bind fun x8=>
  (xD x8 a1_).bind fun r9=>
  if r9=true then
  (yY x8).bind fun r11=>
  (app 16 l1 [r11]).bind fun l12=>
  some l12
  else
  some l1:Option (List Str))).bind fun l6=>
  qB a0_ a1_ K l6 (w64 (n2+1))
  else
  some l1
def jh (N:Nat) (a0_:List qc) (a1_:Int):Option (List Str):=
 (qB a0_ a1_ N ([]:List Str) 0).bind fun l3=>
 some l3
theorem qbp (N:Nat) (a0_:List qc) (a1_:Int) {res:List Str} (h:jh N a0_ a1_=some res):qf Tryz.prog (.fn 43) [vl qd a0_,.func (.func 45) [] [.fptr [.i a1_] 0],.func (.func 47) [] []] [] (vl encS res) []:=by
 unfold jh at h
 refine Goes.fnW Tryz.func43 rfl rfl (m:=27) rfl (rs:=[.tmp 6]) rfl (l:=(kBY a0_ [(1,.func (.func 45) [] [.fptr [.i a1_] 0]),(2,.func (.func 47) [] [])])) rfl ?_
 refine sh fol (kBY a0_ [(1,.func (.func 45) [] [.fptr [.i a1_] 0]),(2,.func (.func 47) [] [])]) ?_
 refine sh fol (kBY a0_ [(1,.func (.func 45) [] [.fptr [.i a1_] 0]),(2,.func (.func 47) [] []),(7,.nilslice)]) ?_
 refine sq ?_
 refine sh fol ((1,.func (.func 45) [] [.fptr [.i a1_] 0])::(2,.func (.func 47) [] [])::(7,.nilslice)::(kBd a0_ [(11,.i (a0_.length:Int)),(12,.i 0)])) ?_
 refine Goes.block ?_
 obtain⟨r4,g4,h⟩:=bnd h
 refine Goes.imp (Q:=fun x s'=>(x= .exit 0∧ ∃l3,l3=r4∧Sub s' (ofG 27 (kAh l3 []),(kM l3)))) ?_ ?_
 ·refine Goes.sub (s':=(ofG 27 ((1,.func (.func 45) [] [.fptr [.i a1_] 0])::(2,.func (.func 47) [] [])::(7,.gslice 0 ([]:List Str).length 1)::(kBd a0_ [(11,.i (a0_.length:Int)),(12,.i 0)])),[.cells (([]:List Str).flatMap encS.c)])) (Sub.norm [] [none] rfl rfl (.keep (.same (qo.func sn sn)) (.keep (.same (qo.func sn sn)) (.keep .nil (.keep (.same (qw qd _)) (.keep (.same nI) (.keep (.same nI) .nil)))))) (.fresh .nil)) ?_
  refine Goes.loopS (fun M s=> ∃(l1:List Str) (n2:Int),s=(ofG 27 ((1,.func (.func 45) [] [.fptr [.i a1_] 0])::(2,.func (.func 47) [] [])::(kAh l1 (kBd a0_ (kAI (a0_.length:Int) n2)))),(kM l1))∧qB a0_ a1_ M l1 n2=some r4) ?_ (m:=N) ⟨_,_,rfl,g4⟩
  rintro M s ⟨l1,n2,rfl,g4⟩
  cases M with
  |zero=>simp only[qB]at g4;cases g4
  |succ M=>
   rw[qB]at g4
   refine sh fol ((1,.func (.func 45) [] [.fptr [.i a1_] 0])::(2,.func (.func 47) [] [])::(kAh l1 (kBd a0_ [(11,.i (a0_.length:Int)),(12,.i n2),(13,.bool (decide (n2<(a0_.length:Int))))]))) ?_
   refine sq ?_
   refine ihD g4 (fun c5 g4=>?_) (fun c5 g4=>?_)
   ·refine Goes.skip ?_
    refine sq ?_
    obtain⟨r7,g7,g4⟩:=bnd g4
    refine Goes.imp (Q:=fun x s'=>(x= .normal∧ ∃l6,l6=r7∧Sub s' (ofG 27 ((1,.func (.func 45) [] [.fptr [.i a1_] 0])::(2,.func (.func 47) [] [])::(kAh l6 (kBd a0_ (kAI (a0_.length:Int) n2)))),(kM l6)))) ?_ ?_
    ·refine Goes.block ?_
     obtain⟨x8,e_x8,g7⟩:=bnd g7
     refine sq (gq fol [0,1] ((1,.func (.func 45) [] [.fptr [.i a1_] 0])::(2,.func (.func 47) [] [])::(kAh l1 ((9,.ptr 1 0)::(kBd a0_ (kAI (a0_.length:Int) n2))))) (.cells (l1.flatMap encS.c)::(kBJ x8)) (ac (iv qbu qd e_x8) (ac (la qf6 qd e_x8) az)) ?_)
     obtain⟨r9,e_r9,g7⟩:=bnd g7
     refine sq (gr fol [2] ((1,.func (.func 45) [] [.fptr [.i a1_] 0])::(2,.func (.func 47) [] [])::(kAh l1 ((9,.ptr 1 0)::(kBd a0_ [(11,.i (a0_.length:Int)),(12,.i n2),(18,.bool r9)])))) (ac (hs (.call 45 [.agg (cS x8),.fptr [.i a1_] 0] [] [] [.agg (cS x8),.fptr [.i a1_] 0] (.bool r9)) (qjQ (FzL.cons (Fz.still (Still.agg (AllST.cons tS (AllST.cons tS (AllST.cons tI (AllST.cons tI (AllST.cons tI (AllST.cons tI (AllST.cons tI (AllST.cons tI (AllST.cons tB AllST.nil))))))))))) (FzL.cons (Fz.still (Still.fptr (AllST.cons tI AllST.nil))) FzL.nil)) (qdU x8 a1_ e_r9) tB)) az) ?_)
     refine ihB g7 (fun c10 g7=>?_) (fun c10 g7=>?_)
     ·obtain⟨r11,e_r11,g7⟩:=bnd g7
      obtain⟨l12,e_l12,g7⟩:=bnd g7
      refine gq fol [3,5] ((1,.func (.func 45) [] [.fptr [.i a1_] 0])::(2,.func (.func 47) [] [])::(7,.gslice 3 l12.length 1)::(kBd a0_ (kAI (a0_.length:Int) n2))) (.dead:: .cells (cS x8)::(kAp r11 (kM l12))) (ac (cv (qdj x8 e_r11)) (ac (hs (.run [0,2] (qR Tryz.prog [37,37] (.gslice 0 l1.length 1) (.slice 2 0 1 1 1)) (.cells (l1.flatMap encS.c):: .cells (cS x8)::(kAp r11 [])) (.gslice 3 l12.length 1) (.dead:: .cells (cS x8)::(kAp r11 (kM l12))) true) (jG vV (E:=encS) rfl (qbH (E:=encS) (ys:=[r11]) rfl rfl rfl rfl) (qgQ (E:=encS) (l:=l1) rfl rfl rfl e_l12 rfl))) az)) ?_
      obtain rfl:=si g7
      exact⟨rfl,_,rfl,(Sub.norm [] [some 3] rfl rfl (.keep (.same (qo.func sn sn)) (.keep (.same (qo.func sn sn)) (.keep (.gslice rfl) (.keep (.same (qw qd _)) (.keep (.same nI) (.keep (.same nI) .nil)))))) (.ks .nil))⟩
     ·refine Goes.skip ?_
      obtain rfl:=si g7
      exact⟨rfl,_,rfl,(Sub.norm [] [some 0] rfl rfl (.keep (.same (qo.func sn sn)) (.keep (.same (qo.func sn sn)) (.keep (.gslice rfl) (.drop (.keep (.same (qw qd _)) (.keep (.same nI) (.keep (.same nI) .nil))))))) (.ks .nil))⟩
    rintro x s' ⟨rfl,l6,rfl,hsub⟩
    refine Goes.sub hsub ?_
    refine gh fol ((1,.func (.func 45) [] [.fptr [.i a1_] 0])::(2,.func (.func 47) [] [])::(kAh l6 (kBd a0_ (kAI (a0_.length:Int) (w64 (n2+1)))))) ?_
    exact⟨M,(ofG 27 ((1,.func (.func 45) [] [.fptr [.i a1_] 0])::(2,.func (.func 47) [] [])::(kAh l6 (kBd a0_ (kAI (a0_.length:Int) (w64 (n2+1)))))),(kM l6)),Nat.lt_succ_self _,(Sub.refl _),_,_,rfl,g4⟩
   ·refine Goes.exit ?_
    obtain rfl:=si g4
    exact⟨rfl,_,rfl,(Sub.keep [7] rfl rfl)⟩
 rintro x s' ⟨rfl,l3,rfl,hsub⟩
 refine Goes.sub hsub ?_
 refine sh fol [(6,.gslice 0 l3.length 1)] ?_
 refine Goes.ret ?_
 obtain rfl:=si h
 exact(gw2 [.gslice 0 l3.length 1] (FzW.fz (Fz.gs (E:=encS) rfl rfl (nl rfl))))
def qaE (N:Nat) (l:List qb) (day:Int):Option ((List Str)×Int):=
 (jO N l).bind fun(l2,o3,ok4,n5,n6)=>
 (vw day).bind fun r7=>
 (zH N ([n6,r7]:List Int)).bind fun r8=>
 if(!decide (r8=0))=true then
 some ([],r8)
 else
 ((match ok4 with
 |false=>
 none
 |true=>
 (qF l2 o3).bind fun(o11,n12,l13)=>
 (jh N l13 day).bind fun r14=>
 some r14):Option (List Str)).bind fun l15=>
 some (l15,0)
theorem qea (N:Nat) (l:List qb) (day:Int) {res:(List Str)×Int} (h:qaE N l day=some res):qf Tryz.prog (.fn 11) [vl qa l,.i day] [] (.tuple [vl encS res.1,.i res.2]) []:=by
 unfold qaE at h
 refine Goes.fnW Tryz.func11 rfl rfl (m:=28) rfl (rs:=[.tmp 4,.tmp 5]) rfl (l:=(kH l [(1,.i day)])) rfl ?_
 refine sg fol (kH l [(3,.ptr 0 0)]) (kAC day []) ?_
 obtain⟨⟨l2,o3,ok4,n5,n6⟩,e_r1,h⟩:=bnd h
 try dsimp only at h
 refine sq (gq fol [1] [(3,.ptr 0 0),(6,pz ok4 1 0),(8,.i n6)] (kAC day (kAD l2 o3 (kD l2 o3 []))) (ac (hs (.callH 41 [vl qa l] (kAC day []) [] (.tuple [pz ok4 1 0,.i n5,.i n6]) (kAC day (kAD l2 o3 (kD l2 o3 [])))) (jL [] [none,some 0,some 1,some 2] (qba N l e_r1) .nil rfl rfl (.old rfl rfl (.new rfl rfl (.cells (rc (.gslice rfl) (rc (.hs rfl) rn))) rfl (.new rfl rfl (.same fa) rfl (.new rfl rfl (.same fa) rfl .nil)))) (rc (.same (qw qa _)) rn) (.tupleL (rc ((qZ.pz rfl)) (rc (.same nI) (rc (.same nI) rn)))) rfl)) az) ?_)
 refine sq ?_
 obtain⟨r7,e_r7,h⟩:=bnd h
 obtain⟨r8,e_r8,h⟩:=bnd h
 refine sq (gq fol [2,4] [(3,.ptr 0 0),(6,pz ok4 1 0),(8,.i r8)] (kAC day (kAD l2 o3 (kD l2 o3 (kBi n6 r7)))) (ac (cv (xY day e_r7)) (ac (hs (.call 37 [.slice 4 0 2 2 1] (kAC day (kAD l2 o3 (kD l2 o3 (kBi n6 r7)))) [4] [vl encI ([n6,r7]:List Int)] (.i r8)) (qa4 (FzL.cons (Fz.lit rfl rfl (FzL.still (AllST.cons tI (AllST.cons tI AllST.nil)))) FzL.nil) (jd N ([n6,r7]:List Int) e_r8) tI rfl)) az)) ?_)
 refine sh fol [(3,.ptr 0 0),(6,pz ok4 1 0),(8,.i r8),(21,.bool (!decide (r8=0)))] ?_
 refine ihB h (fun c9 h=>?_) (fun c9 h=>?_)
 ·refine sh fol ((4,.nilslice)::(kAn r8)) ?_
  refine Goes.ret ?_
  obtain rfl:=si h
  exact(gw2 [.nilslice,.i r8] (FzW.tuple (qj.cons (FzW.nilv (E:=encS)) (qj.cons (FzW.still tI) qj.nil))))
 ·refine Goes.skip ?_
  refine sq ?_
  obtain⟨l15,g_v16,h⟩:=bnd h
  refine Goes.cutS (s':=(ofG 28 ((4,vl encS l15)::kBe),[])) ?_ ?_
  ·rcases ok4 with _|_
   ·try dsimp only at g_v16
    cases g_v16
   ·try dsimp only at g_v16
    obtain⟨⟨o11,n12,l13⟩,e_r10,g_v16⟩:=bnd g_v16
    try dsimp only at g_v16
    obtain⟨r14,e_r14,g_v16⟩:=bnd g_v16
    obtain rfl:=si g_v16
    exact qh.sub (qh.rq fol [1,4] ((4,vl encS r14)::kBe) (.frozen [.i day]::(kAD l2 o11 (kD l2 o11 (kBi n6 r7)))) (ac (hs (.callH 44 [.ptr 1 0] (kAC day (kAD l2 o3 (kD l2 o3 (kBi n6 r7)))) [1,2,3] (.agg (kAm n12 l13)) (kAC day (kAD l2 o11 (kD l2 o11 (kBi n6 r7))))) (jL [some 1,some 2,some 3] [none,some 0,some 1,some 2,none] (vH l2 o3 e_r10) (.kb rfl (.cells (rc (.gslice rfl) (rc (.hs rfl) rn))) (.ks (.ks .nil))) rfl rfl (.old rfl rfl (.back rfl rfl (.cells (rc (.gslice rfl) (rc (.hs rfl) rn))) rfl (.back rfl rfl (.same fa) rfl (.back rfl rfl (.same fa) rfl (.old rfl rfl .nil))))) (rc (.ptr rfl) rn) (.same (qo.agg sn)) rfl)) (ac (hs (.callF 43 [vl qd l13,.func (.func 45) [] [.ptr 0 0],.func (.func 47) [] []] (kAC day (kAD l2 o11 (kD l2 o11 (kBi n6 r7)))) [0] [vl qd l13,.func (.func 45) [] [.fptr [.i day] 0],.func (.func 47) [] []] (vl encS r14)) (qgK (FzL.cons (Fz.still (ko qd _ (nl rfl))) (FzL.cons (Fz.func FzL.nil (FzL.cons (Fz.ptr rfl rfl (FzL.cons (Fz.still tI) FzL.nil)) FzL.nil)) (FzL.cons (Fz.func FzL.nil FzL.nil) FzL.nil))) (qbp N l13 day e_r14) (ko encS _ (nl rfl)))) az))) (Sub.norm [] [] rfl rfl (.keep (.same (qw encS _)) (.keep (.same nI) .nil)) .nil)
  intro _ hsub
  refine Goes.sub hsub ?_
  refine Goes.ret ?_
  obtain rfl:=si h
  exact(gw2 [vl encS l15,.i 0] (FzW.tuple (qj.cons (FzW.still (ko encS _ (nl rfl))) (qj.cons (FzW.still tI) qj.nil))))
def zq (a:List Str) (b:List Str):Nat→Int→Option (Unit⊕Bool)
 |0,_=>none
 |K+1,n2=>
  if n2<(a.length:Int)then
  (idx a n2).bind fun x6=>
  (idx b n2).bind fun x7=>
  if(!(x6==x7))=true then
  some (.inr false)
  else
  zq a b K (w64 (n2+1))
  else
  some (.inl ())
def vY (N:Nat) (a:List Str) (b:List Str):Option Bool:=
 if(!decide ((a.length:Int)=(b.length:Int)))=true then
 some false
 else
 (zq a b N 0).bind (fun
 |(.inl ())=>
 some true
 |(.inr q9)=>
 some q9)
theorem yI (N:Nat) (a:List Str) (b:List Str) {res:Bool} (h:vY N a b=some res):qf Tryz.prog (.fn 13) [vl encS a,vl encS b] [] (.bool res) []:=by
 unfold vY at h
 refine Goes.fnW Tryz.func13 rfl rfl (m:=26) rfl (rs:=[.tmp 4]) rfl (l:=(kBC a b [])) rfl ?_
 refine sh fol (kBC a b []) ?_
 refine sq ?_
 refine sh fol (kBC a b (kBI (!decide ((a.length:Int)=(b.length:Int))))) ?_
 refine ihB h (fun c1 h=>?_) (fun c1 h=>?_)
 ·refine sh fol kAf ?_
  refine Goes.ret ?_
  obtain rfl:=si h
  exact(gw2 [.bool false] (FzW.still tB))
 ·refine Goes.skip ?_
  refine sq ?_
  refine sh fol (kBC a b kBe) ?_
  refine Goes.block ?_
  obtain⟨r3,g3,h⟩:=bnd h
  refine Goes.imp (Q:=fun x s'=>(x= .exit 0∧(.inl ())=r3∧Sub s' (ofG 26 [],[]))∨(x= .ret∧ ∃q4,(.inr q4)=r3∧zy Tryz.prog [.tmp 4] (.bool q4) .ret s')) ?_ ?_
  ·refine Goes.loopS (fun M s=> ∃(n2:Int),s=(ofG 26 (kBC a b (kAn n2)),[])∧zq a b M n2=some r3) ?_ (m:=N) ⟨_,rfl,g3⟩
   rintro M s ⟨n2,rfl,g3⟩
   cases M with
   |zero=>simp only[zq]at g3;cases g3
   |succ M=>
    rw[zq]at g3
    refine sq ?_
    refine sh fol (kBC a b [(5,.i n2),(14,.bool (decide (n2<(a.length:Int))))]) ?_
    refine ihD g3 (fun c5 g3=>?_) (fun c5 g3=>?_)
    ·refine Goes.skip ?_
     refine sq (Goes.block ?_)
     obtain⟨x6,e_x6,g3⟩:=bnd g3
     obtain⟨x7,e_x7,g3⟩:=bnd g3
     refine sq (gr fol [2,3,6,7] (kBC a b [(5,.i n2),(25,.bool (!(x6==x7)))]) (ac (iv vV encS e_x6) (ac (lv 0 ce9 encS e_x6 rfl) (ac (iv vV encS e_x7) (ac (lv 0 ce9 encS e_x7 rfl) az)))) ?_)
     refine ihB g3 (fun c8 g3=>?_) (fun c8 g3=>?_)
     ·refine sh fol kAf ?_
      refine Goes.ret ?_
      obtain rfl:=si g3
      exact Or.inr (⟨rfl,_,rfl,(gw2 [.bool false] (FzW.still tB))⟩)
     ·refine Goes.skip ?_
      refine gh fol (kBC a b (kAn (w64 (n2+1)))) ?_
      exact⟨M,(ofG 26 (kBC a b (kAn (w64 (n2+1)))),[]),Nat.lt_succ_self _,(Sub.refl _),_,rfl,g3⟩
    ·refine Goes.exit ?_
     obtain rfl:=si g3
     exact Or.inl (⟨rfl,rfl,(Sub.keep [] rfl rfl)⟩)
  rintro x s' (⟨rfl,rfl,hsub⟩|⟨rfl,q9,rfl,hret⟩)
  ·try dsimp only at h
   refine Goes.sub hsub ?_
   refine sh fol kAi ?_
   refine Goes.ret ?_
   obtain rfl:=si h
   exact(gw2 [.bool true] (FzW.still tB))
  ·try dsimp only at h
   obtain rfl:=si h
   exact hret
def zD (a:List Int) (b:List Int):Nat→Int→Option (Unit⊕Bool)
 |0,_=>none
 |K+1,n2=>
  if n2<(a.length:Int)then
  (idx a n2).bind fun x6=>
  (idx b n2).bind fun x7=>
  if(!decide (x6=x7))=true then
  some (.inr false)
  else
  zD a b K (w64 (n2+1))
  else
  some (.inl ())
def xk (N:Nat) (a:List Int) (b:List Int):Option Bool:=
 if(!decide ((a.length:Int)=(b.length:Int)))=true then
 some false
 else
 (zD a b N 0).bind (fun
 |(.inl ())=>
 some true
 |(.inr q9)=>
 some q9)
theorem qbN (N:Nat) (a:List Int) (b:List Int) {res:Bool} (h:xk N a b=some res):qf Tryz.prog (.fn 48) [vl encI a,vl encI b] [] (.bool res) []:=by
 unfold xk at h
 refine Goes.fnW Tryz.func48 rfl rfl (m:=26) rfl (rs:=[.tmp 4]) rfl (l:=(kBD a b [])) rfl ?_
 refine sh fol (kBD a b []) ?_
 refine sq ?_
 refine sh fol (kBD a b (kBI (!decide ((a.length:Int)=(b.length:Int))))) ?_
 refine ihB h (fun c1 h=>?_) (fun c1 h=>?_)
 ·refine sh fol kAf ?_
  refine Goes.ret ?_
  obtain rfl:=si h
  exact(gw2 [.bool false] (FzW.still tB))
 ·refine Goes.skip ?_
  refine sq ?_
  refine sh fol (kBD a b kBe) ?_
  refine Goes.block ?_
  obtain⟨r3,g3,h⟩:=bnd h
  refine Goes.imp (Q:=fun x s'=>(x= .exit 0∧(.inl ())=r3∧Sub s' (ofG 26 [],[]))∨(x= .ret∧ ∃q4,(.inr q4)=r3∧zy Tryz.prog [.tmp 4] (.bool q4) .ret s')) ?_ ?_
  ·refine Goes.loopS (fun M s=> ∃(n2:Int),s=(ofG 26 (kBD a b (kAn n2)),[])∧zD a b M n2=some r3) ?_ (m:=N) ⟨_,rfl,g3⟩
   rintro M s ⟨n2,rfl,g3⟩
   cases M with
   |zero=>simp only[zD]at g3;cases g3
   |succ M=>
    rw[zD]at g3
    refine sq ?_
    refine sh fol (kBD a b [(5,.i n2),(14,.bool (decide (n2<(a.length:Int))))]) ?_
    refine ihD g3 (fun c5 g3=>?_) (fun c5 g3=>?_)
    ·refine Goes.skip ?_
     refine sq (Goes.block ?_)
     obtain⟨x6,e_x6,g3⟩:=bnd g3
     obtain⟨x7,e_x7,g3⟩:=bnd g3
     refine sq (gr fol [2,3,6,7] (kBD a b [(5,.i n2),(25,.bool (!decide (x6=x7)))]) (ac (iv yX encI e_x6) (ac (lv 0 ce3 encI e_x6 rfl) (ac (iv yX encI e_x7) (ac (lv 0 ce3 encI e_x7 rfl) az)))) ?_)
     refine ihB g3 (fun c8 g3=>?_) (fun c8 g3=>?_)
     ·refine sh fol kAf ?_
      refine Goes.ret ?_
      obtain rfl:=si g3
      exact Or.inr (⟨rfl,_,rfl,(gw2 [.bool false] (FzW.still tB))⟩)
     ·refine Goes.skip ?_
      refine gh fol (kBD a b (kAn (w64 (n2+1)))) ?_
      exact⟨M,(ofG 26 (kBD a b (kAn (w64 (n2+1)))),[]),Nat.lt_succ_self _,(Sub.refl _),_,rfl,g3⟩
    ·refine Goes.exit ?_
     obtain rfl:=si g3
     exact Or.inl (⟨rfl,rfl,(Sub.keep [] rfl rfl)⟩)
  rintro x s' (⟨rfl,rfl,hsub⟩|⟨rfl,q9,rfl,hret⟩)
  ·try dsimp only at h
   refine Goes.sub hsub ?_
   refine sh fol kAi ?_
   refine Goes.ret ?_
   obtain rfl:=si h
   exact(gw2 [.bool true] (FzW.still tB))
  ·try dsimp only at h
   obtain rfl:=si h
   exact hret
end Go.Av
