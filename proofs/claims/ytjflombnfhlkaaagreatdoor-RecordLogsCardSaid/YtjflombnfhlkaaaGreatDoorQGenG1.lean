/-
  Walks of functions: what each computes, as a plain function.
-/
import Derived.Test.YtjflombnfhlkaaaGreatDoorAvJn
import Derived.Test.YtjflombnfhlkaaaGreatDoorAvPq
noncomputable section
namespace Go.Av
open Go.Proofs Go.RowKit
set_option linter.unusedSectionVars false
set_option linter.unusedVariables false
set_option linter.unusedSimpArgs false
set_option maxRecDepth 100000
theorem fol:Tryz.prog.follows .mixedOrders=true:=by kernel_rfl
structure qb where
 Number:Int
 Kind:Str
 Names:List Str
 Values:List Int
 Text:Str
def qa:Enc qb:=(encI.prod (encS.prod ((jl encS).prod ((jl encI).prod encS)))).comap fun x=>(x.Number,x.Kind,x.Names,x.Values,x.Text)
instance:SE qa:=⟨nl rfl⟩
structure qaT where
 Name:Str
 Batch:Str
 Born:Int
 Last:Int
 Uses:Int
 Used:Int
 Limit:Int
 Until:Int
 Gone:Bool
def qcD:Enc qaT:=(encS.prod (encS.prod (encI.prod (encI.prod (encI.prod (encI.prod (encI.prod (encI.prod qjY)))))))).comap fun x=>(x.Name,x.Batch,x.Born,x.Last,x.Uses,x.Used,x.Limit,x.Until,x.Gone)
instance:SE qcD:=⟨nl rfl⟩
abbrev cS (x:qaT):List AV:=[.str x.Name,.str x.Batch,.i x.Born,.i x.Last,.i x.Uses,.i x.Used,.i x.Limit,.i x.Until,.bool x.Gone]
abbrev cE (x:qb):List AV:=[.i x.Number,.str x.Kind,vl encS x.Names,vl encI x.Values,.str x.Text]
abbrev bS (l:List qaT):Blk:= .cells (l.flatMap qcD.c)
abbrev cF (a:Int) (b:Str) (c:List Str) (d:List Int) (e:Str):List AV:=[.i a,.str b,vl encS c,vl encI d,.str e]
abbrev cT (a b:Str) (c d e f g h:Int) (i:Bool):List AV:=[.str a,.str b,.i c,.i d,.i e,.i f,.i g,.i h,.bool i]
structure qeT where
 Day:Int
 Slings:List qaT
def qfG:Enc qeT:=(encI.prod (jl qcD)).comap fun x=>(x.Day,x.Slings)
instance:SE qfG:=⟨nl rfl⟩
structure yx where
 neg:Bool
 w:List Int
def qgh:Enc yx:=(qjY.prod (jl encI)).comap fun x=>(x.neg,x.w)
instance:SE qgh:=⟨nl rfl⟩
abbrev kA (x:List Blk):List Blk:= .cells [.i 0,.str [],.nilslice,.nilslice,.str []]::x
abbrev kB (a:Int) (b:Int) (x:List Blk):List Blk:= .cells [.nilslice]:: .cells [.i a]:: .cells [.i b]::x
abbrev kC (x:List (Nat×AV)):List (Nat×AV):=(2,.ptr 1 0)::(3,.ptr 2 0)::(4,.ptr 3 0)::x
abbrev kD (a:Option (List qb)) (b:Int) (c:Str):List Blk:=[.cells [hsl 7 5 a],.cells [.i b],.cells [.str c],.cells ((hof a).flatMap qa.c)]
abbrev kE (a:List Str):List Blk:=[.cells (a.flatMap encS.c)]
abbrev kF (x:List (Nat×AV)):List (Nat×AV):=(2,.ptr 0 0)::x
abbrev kG {α4:Type} (a:Str) (b:Str) (c:Int) (d:Int) (e:List α4) (x:List (Nat×AV)):List (Nat×AV):=(0,.str a)::(1,.str b)::(2,.i c)::(3,.i d)::(9,.slice 0 0 e.length e.length 1)::x
abbrev kH (a:List qb) (x:List Blk):List Blk:= .cells (a.flatMap qa.c)::x
abbrev kI (a:Str) (b:List Str) (c:List Int) (x:List Blk):List Blk:= .cells [.i 0,.str a,.gslice 2 b.length 1,.gslice 3 c.length 1,.str []]:: .cells (b.flatMap encS.c):: .cells (c.flatMap encI.c)::x
abbrev kJ (a:Str) (b:Str) (x:List (Nat×AV)):List (Nat×AV):=(0,.str a)::(1,.str b)::x
abbrev kK (x:List Blk):List Blk:= .cells [.nilslice]:: .cells [.i 0]::x
abbrev kL (x:List AV):List AV:= .agg [.i 0,.str [],.nilslice,.nilslice,.str []]::x
abbrev kM {α1:Type} (a:Str) (b:List α1) (c:Int) (d:Int) (x:List (Nat×AV)):List (Nat×AV):=(0,.str a)::(5,.gslice 0 b.length 5)::(6,.i c)::(7,.i d)::x
abbrev kN (x:List (Nat×AV)):List (Nat×AV):=(1,.ptr 0 0)::x
abbrev kO (a:Int) (b:Str) (c:List Str) (d:List Int) (e:Str):List Blk:=[.cells [.i a,.str b,vl encS c,vl encI d,.str e],.cells [.i a,.str b,vl encS c,vl encI d,.str e]]
abbrev kP (a:Option (List qb)) (b:Int) (x:List Blk):List Blk:= .cells [hsl 5 5 a]:: .cells ((hof a).flatMap qa.c):: .cells [.i b]::x
abbrev kQ (a:Int) (x:List (Nat×AV)):List (Nat×AV):=(5,.ptr 4 0)::(6,.ptr 6 0)::(7,.i a)::x
abbrev kR (a:List qb) (x:List (Nat×AV)):List (Nat×AV):=(0,vl qa a)::x
abbrev kS (a:qb) (x:List Blk):List Blk:= .cells (cE a):: .cells (cE a)::x
abbrev kT (a:Int) (x:List Blk):List Blk:= .cells [.i a]::x
abbrev kU (a:List Str) (b:Int) (x:List (Nat×AV)):List (Nat×AV):=(4,vl encS a)::(5,.i b)::(8,.ptr 1 0)::x
abbrev kV (a:Str) (x:List (Nat×AV)):List (Nat×AV):=(0,.str a)::x
abbrev kW (a:qb):List Blk:=[.cells (cE a)]
abbrev kX (x:List (Nat×AV)):List (Nat×AV):=(5,.ptr 4 0)::(6,.ptr 5 0)::x
abbrev kY (a:Str) (b:Int) (c:List qb) (d:Int) (e:Int) (f:List qb) (g:Int) (h:Int) (x:List (Nat×AV)):List (Nat×AV):=(5,.str a)::(6,.i b)::(7,vl qa c)::(8,.i d)::(9,.i e)::(10,vl qa f)::(11,.i g)::(12,.i h)::x
abbrev kZ (a:List Int) (x:List Blk):List Blk:= .cells (a.flatMap encI.c)::x
abbrev kAA (x:List Blk):List Blk:= .cells [.nilslice]::x
abbrev kAB (a:Int) (b:Str) (c:List Str) (d:List Int) (e:Str) (x:List Blk):List Blk:= .cells (cF a b c d e):: .cells (cF a b c d e)::x
abbrev kAC {α2:Type} (a:Str) (b:List Str) (c:List α2) (x:List Blk):List Blk:= .cells [.i 0,.str a,vl encS b,.gslice 2 c.length 1,.str []]::x
abbrev kAD {α0:Type} (a:List α0) (x:List Blk):List Blk:= .cells [.oslice 5 a.length 5]::x
abbrev kAE (x:List Blk):List Blk:= .cells [.bool false,.nilslice]::x
abbrev kAF (a:Int) (x:List (Nat×AV)):List (Nat×AV):=(1,.ptr 6 0)::(3,.i a)::x
abbrev kAG:List (Nat×AV):=[(4,.bool false)]
abbrev kAH (x:List (Nat×AV)):List (Nat×AV):=(3,.ptr 1 0)::(4,.ptr 2 0)::x
abbrev kAI {α0:Type} (a:List α0) (x:List (Nat×AV)):List (Nat×AV):=(6,.slice 0 0 a.length a.length 1)::x
abbrev kAJ (a:List Str) (x:List (Nat×AV)):List (Nat×AV):=(4,vl encS a)::(5,.ptr 1 0)::x
abbrev kAK (a:Int) (b:Int) (x:List (Nat×AV)):List (Nat×AV):=(4,.i a)::(5,.i b)::x
abbrev kAL (a:List Int) (b:Int) (c:Int) (x:List (Nat×AV)):List (Nat×AV):=(5,vl encI a)::(6,.i b)::(7,.i c)::x
abbrev kAM (a:Option (List qb)) (x:List Blk):List Blk:= .cells ((hof a).flatMap qa.c)::x
abbrev kAN (a:Str) (x:List Blk):List Blk:= .cells [.str a]::x
abbrev kAO:List (Nat×AV):=[(4,.bool true)]
abbrev kAP {α0:Type} (a:List α0) (b:Bool) (x:List (Nat×AV)):List (Nat×AV):=(3,.gslice 1 a.length 1)::(4,.bool b)::x
abbrev kAQ:List AV:=[.str [109,97,107,101],.str [116,101,115,116],.str [117,115,101],.str [102,97,105,108],.str [114,101,99,97,108,108],.str [117,110,100,111]]
abbrev kAR (a:Str) (b:Int):List (Nat×AV):=[(3,.str a),(4,.i b)]
abbrev kAS:List AV:=[.bool true]
abbrev kAT (a:Option (List Str)):List Blk:=[.cells ((hof a).flatMap encS.c)]
abbrev kAU {α0:Type} (a:List α0) (b:List Int) (c:Int) (d:Int) (x:List (Nat×AV)):List (Nat×AV):=(7,.gslice 0 a.length 1)::(10,vl encI b)::(11,.i c)::(12,.i d)::x
abbrev kAV (a:List qb) (b:Int) (x:List (Nat×AV)):List (Nat×AV):=(1,vl qa a)::(5,.i b)::x
abbrev kAW (x:List (Nat×AV)):List (Nat×AV):=(4,.ptr 0 0)::x
abbrev kAX (a:List Str) (b:Int) (c:Int) (x:List (Nat×AV)):List (Nat×AV):=(54,vl encS a)::(55,.i b)::(56,.i c)::x
abbrev kAY (a:Int) (b:Int):List (Nat×AV):=[(7,.i a),(8,.i b)]
abbrev kAZ (a:List Str) (b:Str) (x:List (Nat×AV)):List (Nat×AV):=(0,vl encS a)::(1,.str b)::x
abbrev kAa (a:Int) (b:Int) (x:List (Nat×AV)):List (Nat×AV):=(3,.i a)::(4,.i b)::x
abbrev kAb:List (Nat×AV):=[(3,.bool false)]
abbrev kAc (a:List Int) (b:List Int) (x:List (Nat×AV)):List (Nat×AV):=(0,vl encI a)::(1,vl encI b)::x
abbrev kAd (a:List Str) (b:List Str) (x:List (Nat×AV)):List (Nat×AV):=(0,vl encS a)::(1,vl encS b)::x
abbrev kAe {α0:Type} (a:Option (List α0)) (x:List Blk):List Blk:= .cells [hsl 7 5 a]::x
abbrev kAf {α0:Type} (a:List α0) (x:List (Nat×AV)):List (Nat×AV):=(3,.gslice 0 a.length 1)::x
abbrev kAg:List AV:=[.bool false]
abbrev kAh (a:Int) (b:Int) (c:Int) (x:List Blk):List Blk:= .cells [.i a,.i b,.i c]::x
abbrev kAi (a:List Str) (b:Int) (c:Int) (x:List (Nat×AV)):List (Nat×AV):=(46,vl encS a)::(47,.i b)::(48,.i c)::x
abbrev kAj (a:List Int) (b:Int) (c:Int) (x:List (Nat×AV)):List (Nat×AV):=(59,vl encI a)::(60,.i b)::(61,.i c)::x
abbrev kAk (a:Int) (b:Int):List (Nat×AV):=[(10,.i a),(11,.i b)]
theorem jd:SlT Tryz.prog 22 26 5 88:=⟨by kernel_rfl,by kernel_rfl,by kernel_rfl,by kernel_rfl⟩
theorem ce9:CeT Tryz.prog 9:=⟨by kernel_rfl,by kernel_rfl⟩
theorem qcL:CeT Tryz.prog 23:=⟨by kernel_rfl,by kernel_rfl⟩
theorem qh6:CeT Tryz.prog 24:=⟨by kernel_rfl,by kernel_rfl⟩
theorem jQ:SlT Tryz.prog 23 9 1 16:=⟨by kernel_rfl,by kernel_rfl,by kernel_rfl,by kernel_rfl⟩
theorem st9:Tryz.prog.underlying 9=some .string:=by kernel_rfl
theorem qcx:SlT Tryz.prog 24 3 1 8:=⟨by kernel_rfl,by kernel_rfl,by kernel_rfl,by kernel_rfl⟩
theorem ce3:CeT Tryz.prog 3:=⟨by kernel_rfl,by kernel_rfl⟩
theorem sl218:SlT Tryz.prog 218 32 1 8:=⟨by kernel_rfl,by kernel_rfl,by kernel_rfl,by kernel_rfl⟩
theorem ce32:CeT Tryz.prog 32:=⟨by kernel_rfl,by kernel_rfl⟩
theorem qaj:MapT Tryz.prog 154 9 152 (.agg [.i 0,.i 0,.nilfunc]):=⟨by kernel_rfl,by kernel_rfl,by kernel_rfl⟩
noncomputable abbrev qc:Code:=(Tryz.f43.body.getD .skip).x2.x2.x2.x2.x1.x2.x1
theorem qkI:SlT Tryz.prog 277 23 1 24:=⟨by kernel_rfl,by kernel_rfl,by kernel_rfl,by kernel_rfl⟩
theorem it3:Tryz.prog.underlying 3=some (.int .i64):=by kernel_rfl
theorem ag26:AgT Tryz.prog 26 5:=⟨by kernel_rfl,by kernel_rfl⟩
abbrev fm1:AV:= .fmap kAQ [.agg [.i 2,.i 3,.func (.func 141) [] []],.agg [.i 1,.i 2,.func (.func 142) [] []],.agg [.i 1,.i 2,.func (.func 143) [] []],.agg [.i 1,.i 1,.func (.func 144) [] []],.agg [.i 1,.i 1,.func (.func 145) [] []],.agg [.i 0,.i 0,.nilfunc]]
instance:SC 12 fm1:=⟨Still.fmap SX.h (AllST.cons SC.h (AllST.cons SC.h (AllST.cons SC.h (AllST.cons SC.h (AllST.cons SC.h (AllST.cons SC.h AllST.nil))))))⟩
def qH (l:List qb) (i_2:Int):Nat→Int→Option (Unit⊕Bool)
 |0,_=>none
 |K+1,k_13=>
  (idx l i_2).bind fun x16=>
  if k_13<(x16.Names.length:Int)then
  (idx x16.Names k_13).bind fun x18=>
  if(x18.length:Int)>60 then
  some (.inr false)
  else
  qH l i_2 K (w64 (k_13+1))
  else
  some (.inl ())
def qE (N:Nat) (l:List qb):Nat→Int→Option (Unit⊕Bool)
 |0,_=>none
 |K+1,i_2=>
  if i_2<(l.length:Int)then
  ((idx l i_2).bind fun x6=>
  if(x6.Kind.length:Int)>60 then
  some true
  else
  if(x6.Names.length:Int)>5 then
  some true
  else
  if(x6.Values.length:Int)>5 then
  some true
  else
  some (decide ((x6.Text.length:Int)>60)):Option Bool).bind fun b10=>
  if b10=true then
  some (.inr false)
  else
  (qH l i_2 N 0).bind (fun
  |(.inl ())=>
  qE N l K (w64 (i_2+1))
  |(.inr q20)=>
  some (.inr q20))
  else
  some (.inl ())
def zW (N:Nat) (l:List qb) (n:Int):Option Bool:=
 if(l.length:Int)>n then
 some false
 else
 (qE N l N 0).bind (fun
 |(.inl ())=>
 some true
 |(.inr q21)=>
 some q21)
theorem xe (N:Nat) (l:List qb) (n:Int) {res:Bool} (h:zW N l n=some res):qf Tryz.prog (.fn 14) [vl qa l,.i n] [] (.bool res) []:=by
 unfold zW at h
 refine Goes.fnW Tryz.func14 rfl rfl (m:=71) rfl (rs:=[.tmp 4]) rfl (l:=(kR l [(1,.i n)])) rfl ?_
 refine sh fol (kR l [(1,.i n)]) ?_
 refine sq ?_
 refine sh fol (kR l [(10,.bool (decide ((l.length:Int)>n)))]) ?_
 refine ihD h (fun c1 h=>?_) (fun c1 h=>?_)
 ·refine sh fol kAG ?_
  refine Goes.ret ?_
  obtain rfl:=si h
  exact(Goes.retW (xs:=[.bool false]) (by kernel_rfl) (FzW.still tB))
 ·refine Goes.skip ?_
  refine sq ?_
  refine sh fol (kR l [(5,.i 0)]) ?_
  refine Goes.block ?_
  obtain⟨r3,g3,h⟩:=bnd h
  refine Goes.imp (Q:=fun x s'=>(x= .exit 0∧(.inl ())=r3∧Sub s' (ofG 71 [],[]))∨(x= .ret∧ ∃q4,(.inr q4)=r3∧ku Tryz.prog [.tmp 4] (.bool q4) .ret s')) ?_ ?_
  ·refine Goes.loopS (fun M s=> ∃(i_2:Int),s=(ofG 71 (kR l [(5,.i i_2)]),[])∧qE N l M i_2=some r3) ?_ (m:=N) ⟨_,rfl,g3⟩
   rintro M s ⟨i_2,rfl,g3⟩
   cases M with
   |zero=>simp only[qE]at g3;cases g3
   |succ M=>
    rw[qE]at g3
    refine sq ?_
    refine sh fol (kR l [(5,.i i_2),(14,.bool (decide (i_2<(l.length:Int))))]) ?_
    refine ihD g3 (fun c5 g3=>?_) (fun c5 g3=>?_)
    ·refine Goes.skip ?_
     refine sq (Goes.block ?_)
     refine sq ?_
     refine sq ?_
     obtain⟨b10,g_v11,g3⟩:=bnd g3
     refine Goes.cut (s':=(ofG 71 (kR l [(5,.i i_2),(50,.bool b10)]),[])) ?_ ?_
     ·obtain⟨x6,e_x6,g_v11⟩:=bnd g_v11
      rcases wyD g_v11 with⟨c7,g_v11⟩|⟨c7,g_v11⟩
      ·obtain rfl:=si g_v11
       exact tr fol [2,4,7] (kR l [(5,.i i_2),(50,.bool true)]) (ac (iv jd qa e_x6) (ac (lv 1 ce9 qa e_x6 rfl) (ac (gw c7) az)))
      ·rcases wyD g_v11 with⟨c8,g_v11⟩|⟨c8,g_v11⟩
       ·obtain rfl:=si g_v11
        exact tr fol [2,4,7,10,12,16] (kR l [(5,.i i_2),(50,.bool true)]) (ac (iv jd qa e_x6) (ac (lv 1 ce9 qa e_x6 rfl) (ac (gw c7) (ac (iv jd qa e_x6) (ac (lv 2 qcL qa e_x6 rfl) (ac (gw c8) az))))))
       ·rcases wyD g_v11 with⟨c9,g_v11⟩|⟨c9,g_v11⟩
        ·obtain rfl:=si g_v11
         exact tr fol [2,4,7,10,12,16,19,21,25] (kR l [(5,.i i_2),(50,.bool true)]) (ac (iv jd qa e_x6) (ac (lv 1 ce9 qa e_x6 rfl) (ac (gw c7) (ac (iv jd qa e_x6) (ac (lv 2 qcL qa e_x6 rfl) (ac (gw c8) (ac (iv jd qa e_x6) (ac (lv 3 qh6 qa e_x6 rfl) (ac (gw c9) az)))))))))
        ·obtain rfl:=si g_v11
         exact tr fol [2,4,7,10,12,16,19,21,25,28,30] (kR l [(5,.i i_2),(50,.bool (decide ((x6.Text.length:Int)>60)))]) (ac (iv jd qa e_x6) (ac (lv 1 ce9 qa e_x6 rfl) (ac (gw c7) (ac (iv jd qa e_x6) (ac (lv 2 qcL qa e_x6 rfl) (ac (gw c8) (ac (iv jd qa e_x6) (ac (lv 3 qh6 qa e_x6 rfl) (ac (gw c9) (ac (iv jd qa e_x6) (ac (lv 4 ce9 qa e_x6 rfl) az)))))))))))
     refine ihB g3 (fun c12 g3=>?_) (fun c12 g3=>?_)
     ·refine sh fol kAG ?_
      refine Goes.ret ?_
      obtain rfl:=si g3
      exact Or.inr (⟨rfl,_,rfl,(Goes.retW (xs:=[.bool false]) (by kernel_rfl) (FzW.still tB))⟩)
     ·refine Goes.skip ?_
      refine sh fol (kR l [(5,.i i_2),(6,.i 0)]) ?_
      refine Goes.block ?_
      obtain⟨r14,g14,g3⟩:=bnd g3
      refine Goes.imp (Q:=fun x s'=>(x= .exit 2∧(.inl ())=r14∧Sub s' (ofG 71 (kR l [(5,.i i_2)]),[]))∨(x= .ret∧ ∃q15,(.inr q15)=r14∧ku Tryz.prog [.tmp 4] (.bool q15) .ret s')) ?_ ?_
      ·refine Goes.loopS (fun M s=> ∃(k_13:Int),s=(ofG 71 (kR l [(5,.i i_2),(6,.i k_13)]),[])∧qH l i_2 M k_13=some r14) ?_ (m:=N) ⟨_,rfl,g14⟩
       rintro M s ⟨k_13,rfl,g14⟩
       cases M with
       |zero=>simp only[qH]at g14;cases g14
       |succ M=>
        rw[qH]at g14
        refine sq ?_
        refine sq ?_
        obtain⟨x16,e_x16,g14⟩:=bnd g14
        refine gr fol [3,5] (kR l [(5,.i i_2),(6,.i k_13),(58,.bool (decide (k_13<(x16.Names.length:Int))))]) (ac (iv jd qa e_x16) (ac (lv 2 qcL qa e_x16 rfl) az)) ?_
        refine ihD g14 (fun c17 g14=>?_) (fun c17 g14=>?_)
        ·refine Goes.skip ?_
         refine sq (Goes.block ?_)
         refine sq ?_
         obtain⟨x18,e_x18,g14⟩:=bnd g14
         refine gr fol [2,4,6,7] (kR l [(5,.i i_2),(6,.i k_13),(70,.bool (decide ((x18.length:Int)>60)))]) (ac (iv jd qa e_x16) (ac (lv 2 qcL qa e_x16 rfl) (ac (iv jQ encS e_x18) (ac (lv 0 ce9 encS e_x18 rfl) az)))) ?_
         refine ihD g14 (fun c19 g14=>?_) (fun c19 g14=>?_)
         ·refine sh fol kAG ?_
          refine Goes.ret ?_
          obtain rfl:=si g14
          exact Or.inr (⟨rfl,_,rfl,(Goes.retW (xs:=[.bool false]) (by kernel_rfl) (FzW.still tB))⟩)
         ·refine Goes.skip ?_
          refine gh fol (kR l [(5,.i i_2),(6,.i (w64 (k_13+1)))]) ?_
          exact⟨M,(ofG 71 (kR l [(5,.i i_2),(6,.i (w64 (k_13+1)))]),[]),Nat.lt_succ_self _,(Sub.refl _),_,rfl,g14⟩
        ·refine Goes.exit ?_
         obtain rfl:=si g14
         exact Or.inl (⟨rfl,rfl,(Sub.keep [0,5] rfl rfl)⟩)
      rintro x s' (⟨rfl,rfl,hsub⟩|⟨rfl,q20,rfl,hret⟩)
      ·try dsimp only at g3
       refine Goes.sub hsub ?_
       refine gh fol (kR l [(5,.i (w64 (i_2+1)))]) ?_
       exact⟨M,(ofG 71 (kR l [(5,.i (w64 (i_2+1)))]),[]),Nat.lt_succ_self _,(Sub.refl _),_,rfl,g3⟩
      ·try dsimp only at g3
       obtain rfl:=si g3
       exact Or.inr (⟨rfl,_,rfl,hret⟩)
    ·refine Goes.exit ?_
     obtain rfl:=si g3
     exact Or.inl (⟨rfl,rfl,(Sub.keep [] rfl rfl)⟩)
  rintro x s' (⟨rfl,rfl,hsub⟩|⟨rfl,q21,rfl,hret⟩)
  ·try dsimp only at h
   refine Goes.sub hsub ?_
   refine sh fol kAO ?_
   refine Goes.ret ?_
   obtain rfl:=si h
   exact(Goes.retW (xs:=[.bool true]) (by kernel_rfl) (FzW.still tB))
  ·try dsimp only at h
   obtain rfl:=si h
   exact hret
def vz (n:Int) (low:Int) (high:Int):Option Bool:=
 (if n<low then
 some true
 else
 some (decide (n>high)):Option Bool).bind fun b2=>
 some b2
theorem qaw (n:Int) (low:Int) (high:Int) {res:Bool} (h:vz n low high=some res):qf Tryz.prog (.fn 36) [.i n,.i low,.i high] [] (.bool res) []:=by
 unfold vz at h
 refine Goes.fnW Tryz.func36 rfl rfl (m:=15) rfl (rs:=[.tmp 6]) rfl (l:=[(0,.i n),(1,.i low),(2,.i high)]) rfl ?_
 refine sh fol [(0,.i n),(1,.i low),(2,.i high)] ?_
 refine sq ?_
 obtain⟨b2,g_v3,h⟩:=bnd h
 refine Goes.cut (s':=(ofG 15 [(6,.bool b2)],[])) ?_ ?_
 ·rcases wyD g_v3 with⟨c1,g_v3⟩|⟨c1,g_v3⟩
  ·obtain rfl:=si g_v3
   exact tr fol [3] [(6,.bool true)] (ac (gw c1) az)
  ·obtain rfl:=si g_v3
   exact tr fol [3] [(6,.bool (decide (n>high)))] (ac (gw c1) az)
 refine Goes.ret ?_
 obtain rfl:=si h
 exact(Goes.retW (xs:=[.bool b2]) (by kernel_rfl) (FzW.still tB))
def ja (s_:Str):Nat→Int→Option (Unit⊕Bool)
 |0,_=>none
 |K+1,i_5=>
  if i_5<(s_.length:Int)then
  (idx s_ i_5).bind fun c9=>
  (if(c9.toNat:Int)≥97 then
  if(c9.toNat:Int)≤122 then
  some true
  else
  if(c9.toNat:Int)≥65 then
  some (decide ((c9.toNat:Int)≤90))
  else
  some false
  else
  if(c9.toNat:Int)≥65 then
  some (decide ((c9.toNat:Int)≤90))
  else
  some false:Option Bool).bind fun letter_14=>
  (if(!letter_14)=true then
  if i_5=0 then
  some true
  else
  if(c9.toNat:Int)≥48 then
  if(c9.toNat:Int)≤57 then
  some false
  else
  some (!(decide ((c9.toNat:Int)=95)))
  else
  some (!(decide ((c9.toNat:Int)=95)))
  else
  some false:Option Bool).bind fun b20=>
  if b20=true then
  some (.inr false)
  else
  ja s_ K (w64 (i_5+1))
  else
  some (.inl ())
def yo (N:Nat) (s_:Str):Option Bool:=
 (if(s_.length:Int)<1 then
 some true
 else
 some (decide ((s_.length:Int)>24)):Option Bool).bind fun b2=>
 if b2=true then
 some false
 else
 (ja s_ N 0).bind (fun
 |(.inl ())=>
 some true
 |(.inr q23)=>
 some q23)
theorem qds (N:Nat) (s_:Str) {res:Bool} (h:yo N s_=some res):qf Tryz.prog (.fn 47) [.str s_] [] (.bool res) []:=by
 unfold yo at h
 refine Goes.fnW Tryz.func47 rfl rfl (m:=56) rfl (rs:=[.tmp 2]) rfl (l:=(kV s_ [])) rfl ?_
 refine sh fol (kV s_ []) ?_
 refine sq ?_
 refine sq ?_
 obtain⟨b2,g_v3,h⟩:=bnd h
 refine Goes.cut (s':=(ofG 56 (kV s_ [(13,.bool b2)]),[])) ?_ ?_
 ·rcases wyD g_v3 with⟨c1,g_v3⟩|⟨c1,g_v3⟩
  ·obtain rfl:=si g_v3
   exact tr fol [3] (kV s_ [(13,.bool true)]) (ac (gw c1) az)
  ·obtain rfl:=si g_v3
   exact tr fol [3] (kV s_ [(13,.bool (decide ((s_.length:Int)>24)))]) (ac (gw c1) az)
 refine ihB h (fun c4 h=>?_) (fun c4 h=>?_)
 ·refine sh fol [(2,.bool false)] ?_
  refine Goes.ret ?_
  obtain rfl:=si h
  exact(Goes.retW (xs:=[.bool false]) (by kernel_rfl) (FzW.still tB))
 ·refine Goes.skip ?_
  refine sq ?_
  refine sh fol (kV s_ [(3,.i 0)]) ?_
  refine Goes.block ?_
  obtain⟨r6,g6,h⟩:=bnd h
  refine Goes.imp (Q:=fun x s'=>(x= .exit 0∧(.inl ())=r6∧Sub s' (ofG 56 [],[]))∨(x= .ret∧ ∃q7,(.inr q7)=r6∧ku Tryz.prog [.tmp 2] (.bool q7) .ret s')) ?_ ?_
  ·refine Goes.loopS (fun M s=> ∃(i_5:Int),s=(ofG 56 (kV s_ [(3,.i i_5)]),[])∧ja s_ M i_5=some r6) ?_ (m:=N) ⟨_,rfl,g6⟩
   rintro M s ⟨i_5,rfl,g6⟩
   cases M with
   |zero=>simp only[ja]at g6;cases g6
   |succ M=>
    rw[ja]at g6
    refine sq ?_
    refine sh fol (kV s_ [(3,.i i_5),(17,.bool (decide (i_5<(s_.length:Int))))]) ?_
    refine ihD g6 (fun c8 g6=>?_) (fun c8 g6=>?_)
    ·refine Goes.skip ?_
     refine sq (Goes.block ?_)
     refine sq ?_
     obtain⟨c9,e_c9,g6⟩:=bnd g6
     refine gr fol [2] (kV s_ [(3,.i i_5),(4,.int .u8 (c9.toNat:Int))]) (ac (hs (.done (.opt (zS Tryz.prog 9 (.str s_) (.i i_5))) (.int .u8 (c9.toNat:Int))) (jP st9 e_c9)) az) ?_
     refine sq ?_
     obtain⟨letter_14,g_v15,g6⟩:=bnd g6
     refine Goes.cut (s':=(ofG 56 (kV s_ [(3,.i i_5),(4,.int .u8 (c9.toNat:Int)),(5,.bool letter_14)]),[])) ?_ ?_
     ·rcases wyD g_v15 with⟨c10,g_v15⟩|⟨c10,g_v15⟩
      ·rcases wyD g_v15 with⟨c11,g_v15⟩|⟨c11,g_v15⟩
       ·obtain rfl:=si g_v15
        exact tr fol [2,6] (kV s_ [(3,.i i_5),(4,.int .u8 (c9.toNat:Int)),(5,.bool true)]) (ac (gw c10) (ac (gw c11) az))
       ·rcases wyD g_v15 with⟨c12,g_v15⟩|⟨c12,g_v15⟩
        ·obtain rfl:=si g_v15
         exact tr fol [2,6,9] (kV s_ [(3,.i i_5),(4,.int .u8 (c9.toNat:Int)),(5,.bool (decide ((c9.toNat:Int)≤90)))]) (ac (gw c10) (ac (gw c11) (ac (gw c12) az)))
        ·obtain rfl:=si g_v15
         exact tr fol [2,6,9] (kV s_ [(3,.i i_5),(4,.int .u8 (c9.toNat:Int)),(5,.bool false)]) (ac (gw c10) (ac (gw c11) (ac (gw c12) az)))
      ·rcases wyD g_v15 with⟨c13,g_v15⟩|⟨c13,g_v15⟩
       ·obtain rfl:=si g_v15
        exact tr fol [2,9] (kV s_ [(3,.i i_5),(4,.int .u8 (c9.toNat:Int)),(5,.bool (decide ((c9.toNat:Int)≤90)))]) (ac (gw c10) (ac (gw c13) az))
       ·obtain rfl:=si g_v15
        exact tr fol [2,9] (kV s_ [(3,.i i_5),(4,.int .u8 (c9.toNat:Int)),(5,.bool false)]) (ac (gw c10) (ac (gw c13) az))
     refine sq ?_
     obtain⟨b20,g_v21,g6⟩:=bnd g6
     refine Goes.cut (s':=(ofG 56 (kV s_ [(3,.i i_5),(55,.bool b20)]),[])) ?_ ?_
     ·rcases wyB g_v21 with⟨c16,g_v21⟩|⟨c16,g_v21⟩
      ·rcases wyD g_v21 with⟨c17,g_v21⟩|⟨c17,g_v21⟩
       ·obtain rfl:=si g_v21
        exact tr fol [2,5] (kV s_ [(3,.i i_5),(55,.bool true)]) (ac (gw c16) (ac (gw c17) az))
       ·rcases wyD g_v21 with⟨c18,g_v21⟩|⟨c18,g_v21⟩
        ·rcases wyD g_v21 with⟨c19,g_v21⟩|⟨c19,g_v21⟩
         ·obtain rfl:=si g_v21
          exact tr fol [2,5,8,12] (kV s_ [(3,.i i_5),(55,.bool false)]) (ac (gw c16) (ac (gw c17) (ac (gw c18) (ac (gw c19) az))))
         ·obtain rfl:=si g_v21
          exact tr fol [2,5,8,12] (kV s_ [(3,.i i_5),(55,.bool (!(decide ((c9.toNat:Int)=95))))]) (ac (gw c16) (ac (gw c17) (ac (gw c18) (ac (gw c19) az))))
        ·obtain rfl:=si g_v21
         exact tr fol [2,5,8] (kV s_ [(3,.i i_5),(55,.bool (!(decide ((c9.toNat:Int)=95))))]) (ac (gw c16) (ac (gw c17) (ac (gw c18) az)))
      ·obtain rfl:=si g_v21
       exact tr fol [2] (kV s_ [(3,.i i_5),(55,.bool false)]) (ac (gw c16) az)
     refine ihB g6 (fun c22 g6=>?_) (fun c22 g6=>?_)
     ·refine sh fol [(2,.bool false)] ?_
      refine Goes.ret ?_
      obtain rfl:=si g6
      exact Or.inr (⟨rfl,_,rfl,(Goes.retW (xs:=[.bool false]) (by kernel_rfl) (FzW.still tB))⟩)
     ·refine Goes.skip ?_
      refine gh fol (kV s_ [(3,.i (w64 (i_5+1)))]) ?_
      exact⟨M,(ofG 56 (kV s_ [(3,.i (w64 (i_5+1)))]),[]),Nat.lt_succ_self _,(Sub.refl _),_,rfl,g6⟩
    ·refine Goes.exit ?_
     obtain rfl:=si g6
     exact Or.inl (⟨rfl,rfl,(Sub.keep [] rfl rfl)⟩)
  rintro x s' (⟨rfl,rfl,hsub⟩|⟨rfl,q23,rfl,hret⟩)
  ·try dsimp only at h
   refine Goes.sub hsub ?_
   refine sh fol [(2,.bool true)] ?_
   refine Goes.ret ?_
   obtain rfl:=si h
   exact(Goes.retW (xs:=[.bool true]) (by kernel_rfl) (FzW.still tB))
  ·try dsimp only at h
   obtain rfl:=si h
   exact hret
def yR (kind:Str):Option (Int×Int×Bool):=
 if(kind==[109,97,107,101])=true then
 some (2,3,true)
 else
 ((if(kind==[116,101,115,116])=true then
 some (kind==[116,101,115,116])
 else
 some (kind==[117,115,101]):Option Bool)).bind fun b2=>
 if b2=true then
 some (1,2,true)
 else
 ((if(kind==[102,97,105,108])=true then
 some (kind==[102,97,105,108])
 else
 some (kind==[114,101,99,97,108,108]):Option Bool)).bind fun b6=>
 if b6=true then
 some (1,1,true)
 else
 if(kind==[117,110,100,111])=true then
 some (0,0,true)
 else
 some (0,0,false)
theorem qbW (kind:Str) {res:Int×Int×Bool} (h:yR kind=some res):qf Tryz.prog (.fn 90) [.str kind] [] (.tuple [.i res.1,.i res.2.1,.bool res.2.2]) []:=by
 unfold yR at h
 refine Goes.fnW Tryz.func90 rfl rfl (m:=16) rfl (rs:=[.tmp 2,.tmp 3,.tmp 4]) rfl (l:=(kV kind [])) rfl ?_
 refine sh fol (kV kind []) ?_
 refine sq ?_
 refine sh fol [(5,.str kind)] ?_
 refine Goes.block ?_
 refine sh fol [(5,.str kind),(6,.bool (kind==[109,97,107,101]))] ?_
 refine ihB h (fun c1 h=>?_) (fun c1 h=>?_)
 ·refine sh fol ((2,.i 2)::(3,.i 3)::kAO) ?_
  refine Goes.ret ?_
  obtain rfl:=si h
  exact(Goes.retW (xs:=(.i 2:: .i 3::kAS)) (by kernel_rfl) (FzW.tuple (qg.cons (FzW.still tI) (qg.cons (FzW.still tI) (qg.cons (FzW.still tB) qg.nil)))))
 ·refine sq ?_
  refine sh fol [(5,.str kind),(8,.bool (kind==[116,101,115,116]))] ?_
  obtain⟨r3,g3,h⟩:=bnd h
  refine Goes.imp (Q:=fun x s'=>(x= .normal∧ ∃b2,b2=r3∧Sub s' (ofG 16 [(5,.str kind),(8,.bool b2)],[]))) ?_ ?_
  ·refine ihB g3 (fun c4 g3=>?_) (fun c4 g3=>?_)
   ·refine Goes.skip ?_
    obtain rfl:=si g3
    exact⟨rfl,_,rfl,(Sub.refl _)⟩
   ·refine gh fol [(5,.str kind),(8,.bool (kind==[117,115,101]))] ?_
    obtain rfl:=si g3
    exact⟨rfl,_,rfl,(Sub.refl _)⟩
  rintro x s' ⟨rfl,b2,rfl,hsub⟩
  refine Goes.sub hsub ?_
  refine ihB h (fun c5 h=>?_) (fun c5 h=>?_)
  ·refine sh fol ((2,.i 1)::(3,.i 2)::kAO) ?_
   refine Goes.ret ?_
   obtain rfl:=si h
   exact(Goes.retW (xs:=(.i 1:: .i 2::kAS)) (by kernel_rfl) (FzW.tuple (qg.cons (FzW.still tI) (qg.cons (FzW.still tI) (qg.cons (FzW.still tB) qg.nil)))))
  ·refine sq ?_
   refine sh fol [(5,.str kind),(11,.bool (kind==[102,97,105,108]))] ?_
   obtain⟨r7,g7,h⟩:=bnd h
   refine Goes.imp (Q:=fun x s'=>(x= .normal∧ ∃b6,b6=r7∧Sub s' (ofG 16 [(5,.str kind),(11,.bool b6)],[]))) ?_ ?_
   ·refine ihB g7 (fun c8 g7=>?_) (fun c8 g7=>?_)
    ·refine Goes.skip ?_
     obtain rfl:=si g7
     exact⟨rfl,_,rfl,(Sub.refl _)⟩
    ·refine gh fol [(5,.str kind),(11,.bool (kind==[114,101,99,97,108,108]))] ?_
     obtain rfl:=si g7
     exact⟨rfl,_,rfl,(Sub.refl _)⟩
   rintro x s' ⟨rfl,b6,rfl,hsub⟩
   refine Goes.sub hsub ?_
   refine ihB h (fun c9 h=>?_) (fun c9 h=>?_)
   ·refine sh fol ((2,.i 1)::(3,.i 1)::kAO) ?_
    refine Goes.ret ?_
    obtain rfl:=si h
    exact(Goes.retW (xs:=(.i 1:: .i 1::kAS)) (by kernel_rfl) (FzW.tuple (qg.cons (FzW.still tI) (qg.cons (FzW.still tI) (qg.cons (FzW.still tB) qg.nil)))))
   ·refine sh fol [(14,.bool (kind==[117,110,100,111]))] ?_
    refine ihB h (fun c10 h=>?_) (fun c10 h=>?_)
    ·refine sh fol ((2,.i 0)::(3,.i 0)::kAO) ?_
     refine Goes.ret ?_
     obtain rfl:=si h
     exact(Goes.retW (xs:=(.i 0:: .i 0::kAS)) (by kernel_rfl) (FzW.tuple (qg.cons (FzW.still tI) (qg.cons (FzW.still tI) (qg.cons (FzW.still tB) qg.nil)))))
    ·refine Goes.skip ?_
     refine sh fol ((2,.i 0)::(3,.i 0)::kAG) ?_
     refine Goes.ret ?_
     obtain rfl:=si h
     exact(Goes.retW (xs:=(.i 0:: .i 0::kAg)) (by kernel_rfl) (FzW.tuple (qg.cons (FzW.still tI) (qg.cons (FzW.still tI) (qg.cons (FzW.still tB) qg.nil)))))
def zl (N:Nat) (e:qb) (r3:Int×Int×Bool):Nat→Int→Option (Unit⊕Int)
 |0,_=>none
 |K+1,i_9=>
  if i_9<r3.1 then
  (idx e.Names i_9).bind fun x13=>
  (yo N x13).bind fun r14=>
  if(!r14)=true then
  some (.inr 8)
  else
  zl N e r3 K (w64 (i_9+1))
  else
  some (.inl ())
def zm (e:qb) (r3:Int×Int×Bool):Nat→Int→Option (Unit⊕Int)
 |0,_=>none
 |K+1,i_16=>
  if i_16<r3.2.1 then
  (idx e.Values i_16).bind fun x20=>
  (vz x20 0 999999999).bind fun r21=>
  if r21=true then
  some (.inr 3)
  else
  zm e r3 K (w64 (i_16+1))
  else
  some (.inl ())
def jk (N:Nat) (e:qb):Option Int:=
 (vz e.Number 1 1000).bind fun r1=>
 if r1=true then
 some 3
 else
 (yR e.Kind).bind fun r3=>
 if(!r3.2.2)=true then
 some 13
 else
 (if(!decide ((e.Names.length:Int)=r3.1))=true then
 some true
 else
 some (!decide ((e.Values.length:Int)=r3.2.1)):Option Bool).bind fun b6=>
 if b6=true then
 some 2
 else
 (zl N e r3 N 0).bind (fun
 |(.inl ())=>
 (zm e r3 N 0).bind (fun
 |(.inl ())=>
 if(!(e.Text==[]))=true then
 some 1
 else
 some 0
 |(.inr q24)=>
 some q24)
 |(.inr q25)=>
 some q25)
theorem xx (N:Nat) (e:qb) {res:Int} (h:jk N e=some res):qf Tryz.prog (.fn 19) [.agg (cE e)] [] (.i res) []:=by
 unfold jk at h
 refine Goes.fnW Tryz.func19 rfl rfl (m:=58) rfl (rs:=[.tmp 2]) rfl (l:=[(0,.agg (cE e))]) rfl ?_
 refine sg fol (kN []) (kW e) ?_
 refine sq ?_
 refine sq ?_
 obtain⟨r1,e_r1,h⟩:=bnd h
 refine gr fol [2] (kN [(10,.bool r1)]) (ac (cv (qaw e.Number 1 1000 e_r1)) az) ?_
 refine ihB h (fun c2 h=>?_) (fun c2 h=>?_)
 ·refine sh fol [(2,.i 3)] ?_
  refine Goes.ret ?_
  obtain rfl:=si h
  exact(Goes.retW (xs:=[.i 3]) (by kernel_rfl) (FzW.still tI))
 ·refine Goes.skip ?_
  refine sq ?_
  obtain⟨r3,e_r3,h⟩:=bnd h
  refine gr fol [2] (kN (kAa r3.1 r3.2.1 [(5,.bool r3.2.2)])) (ac (cv (qbW e.Kind e_r3)) az) ?_
  refine sq ?_
  refine sh fol (kN (kAa r3.1 r3.2.1 [(19,.bool (!r3.2.2))])) ?_
  refine ihB h (fun c4 h=>?_) (fun c4 h=>?_)
  ·refine sh fol [(2,.i 13)] ?_
   refine Goes.ret ?_
   obtain rfl:=si h
   exact(Goes.retW (xs:=[.i 13]) (by kernel_rfl) (FzW.still tI))
  ·refine Goes.skip ?_
   refine sq ?_
   refine sq ?_
   obtain⟨b6,g_v7,h⟩:=bnd h
   refine Goes.cut (s':=(ofG 58 (kN (kAa r3.1 r3.2.1 [(31,.bool b6)])),(kW e))) ?_ ?_
   ·rcases wyB g_v7 with⟨c5,g_v7⟩|⟨c5,g_v7⟩
    ·obtain rfl:=si g_v7
     exact tr fol [5] (kN (kAa r3.1 r3.2.1 [(31,.bool true)])) (ac (gw c5) az)
    ·obtain rfl:=si g_v7
     exact tr fol [5] (kN (kAa r3.1 r3.2.1 [(31,.bool (!decide ((e.Values.length:Int)=r3.2.1)))])) (ac (gw c5) az)
   refine ihB h (fun c8 h=>?_) (fun c8 h=>?_)
   ·refine sh fol [(2,.i 2)] ?_
    refine Goes.ret ?_
    obtain rfl:=si h
    exact(Goes.retW (xs:=[.i 2]) (by kernel_rfl) (FzW.still tI))
   ·refine Goes.skip ?_
    refine sq ?_
    refine sh fol (kN (kAa r3.1 r3.2.1 [(6,.i 0)])) ?_
    refine Goes.block ?_
    obtain⟨r10,g10,h⟩:=bnd h
    refine Goes.imp (Q:=fun x s'=>(x= .exit 0∧(.inl ())=r10∧Sub s' (ofG 58 (kN [(4,.i r3.2.1)]),(kW e)))∨(x= .ret∧ ∃q11,(.inr q11)=r10∧ku Tryz.prog [.tmp 2] (.i q11) .ret s')) ?_ ?_
    ·refine Goes.loopS (fun M s=> ∃(i_9:Int),s=(ofG 58 (kN (kAa r3.1 r3.2.1 [(6,.i i_9)])),(kW e))∧zl N e r3 M i_9=some r10) ?_ (m:=N) ⟨_,rfl,g10⟩
     rintro M s ⟨i_9,rfl,g10⟩
     cases M with
     |zero=>simp only[zl]at g10;cases g10
     |succ M=>
      rw[zl]at g10
      refine sq ?_
      refine sh fol (kN (kAa r3.1 r3.2.1 [(6,.i i_9),(34,.bool (decide (i_9<r3.1)))])) ?_
      refine ihD g10 (fun c12 g10=>?_) (fun c12 g10=>?_)
      ·refine Goes.skip ?_
       refine sq (Goes.block ?_)
       refine sq ?_
       obtain⟨x13,e_x13,g10⟩:=bnd g10
       obtain⟨r14,e_r14,g10⟩:=bnd g10
       refine gr fol [3,4,5] (kN (kAa r3.1 r3.2.1 [(6,.i i_9),(43,.bool (!r14))])) (ac (iv jQ encS e_x13) (ac (lv 0 ce9 encS e_x13 rfl) (ac (cv (qds N x13 e_r14)) az))) ?_
       refine ihB g10 (fun c15 g10=>?_) (fun c15 g10=>?_)
       ·refine sh fol [(2,.i 8)] ?_
        refine Goes.ret ?_
        obtain rfl:=si g10
        exact Or.inr (⟨rfl,_,rfl,(Goes.retW (xs:=[.i 8]) (by kernel_rfl) (FzW.still tI))⟩)
       ·refine Goes.skip ?_
        refine gh fol (kN (kAa r3.1 r3.2.1 [(6,.i (w64 (i_9+1)))])) ?_
        exact⟨M,(ofG 58 (kN (kAa r3.1 r3.2.1 [(6,.i (w64 (i_9+1)))])),(kW e)),Nat.lt_succ_self _,(Sub.refl _),_,rfl,g10⟩
      ·refine Goes.exit ?_
       obtain rfl:=si g10
       exact Or.inl (⟨rfl,rfl,(Sub.keep [1,4] rfl rfl)⟩)
    rintro x s' (⟨rfl,rfl,hsub⟩|⟨rfl,q25,rfl,hret⟩)
    ·try dsimp only at h
     refine Goes.sub hsub ?_
     refine sq ?_
     refine sh fol (kN [(4,.i r3.2.1),(7,.i 0)]) ?_
     refine Goes.block ?_
     obtain⟨r17,g17,h⟩:=bnd h
     refine Goes.imp (Q:=fun x s'=>(x= .exit 2∧(.inl ())=r17∧Sub s' (ofG 58 (kN []),(kW e)))∨(x= .ret∧ ∃q18,(.inr q18)=r17∧ku Tryz.prog [.tmp 2] (.i q18) .ret s')) ?_ ?_
     ·refine Goes.loopS (fun M s=> ∃(i_16:Int),s=(ofG 58 (kN [(4,.i r3.2.1),(7,.i i_16)]),(kW e))∧zm e r3 M i_16=some r17) ?_ (m:=N) ⟨_,rfl,g17⟩
      rintro M s ⟨i_16,rfl,g17⟩
      cases M with
      |zero=>simp only[zm]at g17;cases g17
      |succ M=>
       rw[zm]at g17
       refine sq ?_
       refine sh fol (kN [(4,.i r3.2.1),(7,.i i_16),(46,.bool (decide (i_16<r3.2.1)))]) ?_
       refine ihD g17 (fun c19 g17=>?_) (fun c19 g17=>?_)
       ·refine Goes.skip ?_
        refine sq (Goes.block ?_)
        refine sq ?_
        obtain⟨x20,e_x20,g17⟩:=bnd g17
        obtain⟨r21,e_r21,g17⟩:=bnd g17
        refine gr fol [3,4,5] (kN [(4,.i r3.2.1),(7,.i i_16),(54,.bool r21)]) (ac (iv qcx encI e_x20) (ac (lv 0 ce3 encI e_x20 rfl) (ac (cv (qaw x20 0 999999999 e_r21)) az))) ?_
        refine ihB g17 (fun c22 g17=>?_) (fun c22 g17=>?_)
        ·refine sh fol [(2,.i 3)] ?_
         refine Goes.ret ?_
         obtain rfl:=si g17
         exact Or.inr (⟨rfl,_,rfl,(Goes.retW (xs:=[.i 3]) (by kernel_rfl) (FzW.still tI))⟩)
        ·refine Goes.skip ?_
         refine gh fol (kN [(4,.i r3.2.1),(7,.i (w64 (i_16+1)))]) ?_
         exact⟨M,(ofG 58 (kN [(4,.i r3.2.1),(7,.i (w64 (i_16+1)))]),(kW e)),Nat.lt_succ_self _,(Sub.refl _),_,rfl,g17⟩
       ·refine Goes.exit ?_
        obtain rfl:=si g17
        exact Or.inl (⟨rfl,rfl,(Sub.keep [1] rfl rfl)⟩)
     rintro x s' (⟨rfl,rfl,hsub⟩|⟨rfl,q24,rfl,hret⟩)
     ·try dsimp only at h
      refine Goes.sub hsub ?_
      refine sq ?_
      refine sh fol [(57,.bool (!(e.Text==[])))] ?_
      refine ihB h (fun c23 h=>?_) (fun c23 h=>?_)
      ·refine sh fol [(2,.i 1)] ?_
       refine Goes.ret ?_
       obtain rfl:=si h
       exact(Goes.retW (xs:=[.i 1]) (by kernel_rfl) (FzW.still tI))
      ·refine Goes.skip ?_
       refine sh fol [(2,.i 0)] ?_
       refine Goes.ret ?_
       obtain rfl:=si h
       exact(Goes.retW (xs:=[.i 0]) (by kernel_rfl) (FzW.still tI))
     ·try dsimp only at h
      obtain rfl:=si h
      exact hret
    ·try dsimp only at h
     obtain rfl:=si h
     exact hret
def jv (l:List Int):Nat→Int→Option (Unit⊕Int)
 |0,_=>none
 |K+1,n1=>
  if n1<(l.length:Int)then
  (idx l n1).bind fun x5=>
  if(!decide (x5=0))=true then
  some (.inr x5)
  else
  jv l K (w64 (n1+1))
  else
  some (.inl ())
def xm (N:Nat) (l:List Int):Option Int:=
 (jv l N 0).bind (fun
 |(.inl ())=>
 some 0
 |(.inr q7)=>
 some q7)
theorem qd8 (N:Nat) (l:List Int) {res:Int} (h:xm N l=some res):qf Tryz.prog (.fn 28) [vl encI l] [] (.i res) []:=by
 unfold xm at h
 refine Goes.fnW Tryz.func28 rfl rfl (m:=15) rfl (rs:=[.tmp 2]) rfl (l:=[(0,vl encI l)]) rfl ?_
 refine sh fol [(0,vl encI l)] ?_
 refine sq ?_
 refine sh fol [(5,vl encI l),(6,.i (l.length:Int)),(7,.i 0)] ?_
 refine Goes.block ?_
 obtain⟨r2,g2,h⟩:=bnd h
 refine Goes.imp (Q:=fun x s'=>(x= .exit 0∧(.inl ())=r2∧Sub s' (ofG 15 [],[]))∨(x= .ret∧ ∃q3,(.inr q3)=r2∧ku Tryz.prog [.tmp 2] (.i q3) .ret s')) ?_ ?_
 ·refine Goes.loopS (fun M s=> ∃(n1:Int),s=(ofG 15 (kAL l (l.length:Int) n1 []),[])∧jv l M n1=some r2) ?_ (m:=N) ⟨_,rfl,g2⟩
  rintro M s ⟨n1,rfl,g2⟩
  cases M with
  |zero=>simp only[jv]at g2;cases g2
  |succ M=>
   rw[jv]at g2
   refine sh fol (kAL l (l.length:Int) n1 [(8,.bool (decide (n1<(l.length:Int))))]) ?_
   refine sq ?_
   refine ihD g2 (fun c4 g2=>?_) (fun c4 g2=>?_)
   ·refine Goes.skip ?_
    refine sq (Goes.block ?_)
    refine sq ?_
    obtain⟨x5,e_x5,g2⟩:=bnd g2
    refine gr fol [0,1] ((4,.i x5)::(kAL l (l.length:Int) n1 [])) (ac (iv qcx encI e_x5) (ac (lv 0 ce3 encI e_x5 rfl) az)) ?_
    refine sh fol ((4,.i x5)::(kAL l (l.length:Int) n1 [(12,.bool (!decide (x5=0)))])) ?_
    refine ihB g2 (fun c6 g2=>?_) (fun c6 g2=>?_)
    ·refine sh fol [(2,.i x5)] ?_
     refine Goes.ret ?_
     obtain rfl:=si g2
     exact Or.inr (⟨rfl,_,rfl,(Goes.retW (xs:=[.i x5]) (by kernel_rfl) (FzW.still tI))⟩)
    ·refine Goes.skip ?_
     refine gh fol (kAL l (l.length:Int) (w64 (n1+1)) []) ?_
     exact⟨M,(ofG 15 (kAL l (l.length:Int) (w64 (n1+1)) []),[]),Nat.lt_succ_self _,(Sub.refl _),_,rfl,g2⟩
   ·refine Goes.exit ?_
    obtain rfl:=si g2
    exact Or.inl (⟨rfl,rfl,(Sub.keep [] rfl rfl)⟩)
 rintro x s' (⟨rfl,rfl,hsub⟩|⟨rfl,q7,rfl,hret⟩)
 ·try dsimp only at h
  refine Goes.sub hsub ?_
  refine sh fol [(2,.i 0)] ?_
  refine Goes.ret ?_
  obtain rfl:=si h
  exact(Goes.retW (xs:=[.i 0]) (by kernel_rfl) (FzW.still tI))
 ·try dsimp only at h
  obtain rfl:=si h
  exact hret
def xP (holds:Bool) (e:Int):Option Int:=
 if holds=true then
 some e
 else
 some 0
theorem qeC (holds:Bool) (e:Int) {res:Int} (h:xP holds e=some res):qf Tryz.prog (.fn 30) [.bool holds,.i e] [] (.i res) []:=by
 unfold xP at h
 refine Goes.fnW Tryz.func30 rfl rfl (m:=7) rfl (rs:=[.tmp 4]) rfl (l:=[(0,.bool holds),(1,.i e)]) rfl ?_
 refine sh fol [(0,.bool holds),(1,.i e)] ?_
 refine sq ?_
 refine sh fol [(1,.i e),(5,.bool holds)] ?_
 refine ihB h (fun c1 h=>?_) (fun c1 h=>?_)
 ·refine sh fol [(4,.i e)] ?_
  refine Goes.ret ?_
  obtain rfl:=si h
  exact(Goes.retW (xs:=[.i e]) (by kernel_rfl) (FzW.still tI))
 ·refine Goes.skip ?_
  refine sh fol [(4,.i 0)] ?_
  refine Goes.ret ?_
  obtain rfl:=si h
  exact(Goes.retW (xs:=[.i 0]) (by kernel_rfl) (FzW.still tI))
def zZ (l:List Int):Nat→Int→Option (Unit⊕Int)
 |0,_=>none
 |K+1,n1=>
  if n1<(l.length:Int)then
  (idx l n1).bind fun x5=>
  if(!decide (x5=0))=true then
  some (.inr x5)
  else
  zZ l K (w64 (n1+1))
  else
  some (.inl ())
def jF (N:Nat) (l:List Int):Option Int:=
 (zZ l N 0).bind (fun
 |(.inl ())=>
 some 0
 |(.inr q7)=>
 some q7)
theorem vY (N:Nat) (l:List Int) {res:Int} (h:jF N l=some res):qf Tryz.prog (.fn 86) [vl encI l] [] (.i res) []:=by
 unfold jF at h
 refine Goes.fnW Tryz.func86 rfl rfl (m:=15) rfl (rs:=[.tmp 2]) rfl (l:=[(0,vl encI l)]) rfl ?_
 refine sh fol [(0,vl encI l)] ?_
 refine sq ?_
 refine sh fol [(5,vl encI l),(6,.i (l.length:Int)),(7,.i 0)] ?_
 refine Goes.block ?_
 obtain⟨r2,g2,h⟩:=bnd h
 refine Goes.imp (Q:=fun x s'=>(x= .exit 0∧(.inl ())=r2∧Sub s' (ofG 15 [],[]))∨(x= .ret∧ ∃q3,(.inr q3)=r2∧ku Tryz.prog [.tmp 2] (.i q3) .ret s')) ?_ ?_
 ·refine Goes.loopS (fun M s=> ∃(n1:Int),s=(ofG 15 (kAL l (l.length:Int) n1 []),[])∧zZ l M n1=some r2) ?_ (m:=N) ⟨_,rfl,g2⟩
  rintro M s ⟨n1,rfl,g2⟩
  cases M with
  |zero=>simp only[zZ]at g2;cases g2
  |succ M=>
   rw[zZ]at g2
   refine sh fol (kAL l (l.length:Int) n1 [(8,.bool (decide (n1<(l.length:Int))))]) ?_
   refine sq ?_
   refine ihD g2 (fun c4 g2=>?_) (fun c4 g2=>?_)
   ·refine Goes.skip ?_
    refine sq (Goes.block ?_)
    refine sq ?_
    obtain⟨x5,e_x5,g2⟩:=bnd g2
    refine gr fol [0,1] ((4,.i x5)::(kAL l (l.length:Int) n1 [])) (ac (iv sl218 encI e_x5) (ac (lv 0 ce32 encI e_x5 rfl) az)) ?_
    refine sh fol ((4,.i x5)::(kAL l (l.length:Int) n1 [(12,.bool (!decide (x5=0)))])) ?_
    refine ihB g2 (fun c6 g2=>?_) (fun c6 g2=>?_)
    ·refine sh fol [(2,.i x5)] ?_
     refine Goes.ret ?_
     obtain rfl:=si g2
     exact Or.inr (⟨rfl,_,rfl,(Goes.retW (xs:=[.i x5]) (by kernel_rfl) (FzW.still tI))⟩)
    ·refine Goes.skip ?_
     refine gh fol (kAL l (l.length:Int) (w64 (n1+1)) []) ?_
     exact⟨M,(ofG 15 (kAL l (l.length:Int) (w64 (n1+1)) []),[]),Nat.lt_succ_self _,(Sub.refl _),_,rfl,g2⟩
   ·refine Goes.exit ?_
    obtain rfl:=si g2
    exact Or.inl (⟨rfl,rfl,(Sub.keep [] rfl rfl)⟩)
 rintro x s' (⟨rfl,rfl,hsub⟩|⟨rfl,q7,rfl,hret⟩)
 ·try dsimp only at h
  refine Goes.sub hsub ?_
  refine sh fol [(2,.i 0)] ?_
  refine Goes.ret ?_
  obtain rfl:=si h
  exact(Goes.retW (xs:=[.i 0]) (by kernel_rfl) (FzW.still tI))
 ·try dsimp only at h
  obtain rfl:=si h
  exact hret
def zn (holds:Bool) (e:Int):Option Int:=
 if holds=true then
 some e
 else
 some 0
theorem zg (holds:Bool) (e:Int) {res:Int} (h:zn holds e=some res):qf Tryz.prog (.fn 88) [.bool holds,.i e] [] (.i res) []:=by
 unfold zn at h
 refine Goes.fnW Tryz.func88 rfl rfl (m:=7) rfl (rs:=[.tmp 4]) rfl (l:=[(0,.bool holds),(1,.i e)]) rfl ?_
 refine sh fol [(0,.bool holds),(1,.i e)] ?_
 refine sq ?_
 refine sh fol [(1,.i e),(5,.bool holds)] ?_
 refine ihB h (fun c1 h=>?_) (fun c1 h=>?_)
 ·refine sh fol [(4,.i e)] ?_
  refine Goes.ret ?_
  obtain rfl:=si h
  exact(Goes.retW (xs:=[.i e]) (by kernel_rfl) (FzW.still tI))
 ·refine Goes.skip ?_
  refine sh fol [(4,.i 0)] ?_
  refine Goes.ret ?_
  obtain rfl:=si h
  exact(Goes.retW (xs:=[.i 0]) (by kernel_rfl) (FzW.still tI))
def jI (n:Int) (low:Int) (high:Int):Option Int:=
 (if n<low then
 (zn true 3).bind fun r2=>
 some r2
 else
 (zn (decide (n>high)) 3).bind fun r3=>
 some r3:Option Int).bind fun n4=>
 some n4
theorem yQ (n:Int) (low:Int) (high:Int) {res:Int} (h:jI n low high=some res):qf Tryz.prog (.fn 87) [.i n,.i low,.i high] [] (.i res) []:=by
 unfold jI at h
 refine Goes.fnW Tryz.func87 rfl rfl (m:=16) rfl (rs:=[.tmp 6]) rfl (l:=[(0,.i n),(1,.i low),(2,.i high)]) rfl ?_
 refine sh fol [(0,.i n),(1,.i low),(2,.i high)] ?_
 refine sq ?_
 obtain⟨n4,g_v5,h⟩:=bnd h
 refine Goes.cut (s':=(ofG 16 [(6,.i n4)],[])) ?_ ?_
 ·rcases wyD g_v5 with⟨c1,g_v5⟩|⟨c1,g_v5⟩
  ·obtain⟨r2,e_r2,g_v5⟩:=bnd g_v5
   obtain rfl:=si g_v5
   exact tr fol [3,8] [(6,.i r2)] (ac (gw c1) (ac (cv (zg true 3 e_r2)) az))
  ·obtain⟨r3,e_r3,g_v5⟩:=bnd g_v5
   obtain rfl:=si g_v5
   exact tr fol [3,8] [(6,.i r3)] (ac (gw c1) (ac (cv (zg (decide (n>high)) 3 e_r3)) az))
 refine Goes.ret ?_
 obtain rfl:=si h
 exact(Goes.retW (xs:=[.i n4]) (by kernel_rfl) (FzW.still tI))
def xN (a0_:qaT) (a1_:Str):Option Bool:=
 some (!(ltL a0_.Name a1_))
def vg (a0_:List qaT) (a1_:Str):Nat→Int→Option (Unit⊕Int)
 |0,_=>none
 |K+1,n1=>
  if n1<(a0_.length:Int)then
  (idx a0_ n1).bind fun x5=>
  (xN x5 a1_).bind fun r6=>
  if r6=true then
  some (.inr n1)
  else
  vg a0_ a1_ K (w64 (n1+1))
  else
  some (.inl ())
def xX (N:Nat) (a0_:List qaT) (a1_:Str):Option Int:=
 (vg a0_ a1_ N 0).bind (fun
 |(.inl ())=>
 some (-1)
 |(.inr q8)=>
 some q8)
def qf8 (N:Nat) (r:qeT) (name:Str):Option (Int×Bool):=
 (xX N r.Slings name).bind fun r1=>
 if r1<0 then
 some ((r.Slings.length:Int),false)
 else
 (idx r.Slings r1).bind fun x3=>
 some (r1,x3.Name==name)
def qiC (n:Int):Option Int:=
 (jI n 0 99999).bind fun r1=>
 some r1
def qgt (s_:qaT) (day:Int):Option Bool:=
 (if s_.Gone=true then
 some true
 else
 if day>s_.Last then
 some true
 else
 some (decide (s_.Used=s_.Uses)):Option Bool).bind fun b3=>
 some b3
def qhr (s_:qaT) (day:Int):Option Bool:=
 (if s_.Limit>0 then
 some (decide (day≤s_.Until))
 else
 some false:Option Bool).bind fun b2=>
 some b2
def jU:Option Unit:=
 some ()
theorem qA {res:Unit} (h:jU=some res):qf Tryz.prog (.fn 85) [] [] (fm1) []:=by
 unfold jU at h
 refine Goes.fnW Tryz.func85 rfl rfl (m:=9) rfl (rs:=[.tmp 0]) rfl (l:=[]) rfl ?_
 refine sh fol [] ?_
 refine sg fol [(0,.map 0)] [.map kAQ [.agg [.i 2,.i 3,.func (.func 141) [] []],.agg [.i 1,.i 2,.func (.func 142) [] []],.agg [.i 1,.i 2,.func (.func 143) [] []],.agg [.i 1,.i 1,.func (.func 144) [] []],.agg [.i 1,.i 1,.func (.func 145) [] []],.agg [.i 0,.i 0,.nilfunc]]] ?_
 refine Goes.ret ?_
 obtain rfl:=si h
 exact(Goes.retW (xs:=[.map 0]) (by kernel_rfl) (FzW.of (by kernel_rfl)))
def jD (c:Int):Option Bool:=
 (if c≥97 then
 if c≤122 then
 some true
 else
 if c≥65 then
 some (decide (c≤90))
 else
 some false
 else
 if c≥65 then
 some (decide (c≤90))
 else
 some false:Option Bool).bind fun b5=>
 some b5
theorem jm (c:Int) {res:Bool} (h:jD c=some res):qf Tryz.prog (.fn 183) [.int .i32 c] [] (.bool res) []:=by
 unfold jD at h
 refine Goes.fnW Tryz.func183 rfl rfl (m:=17) rfl (rs:=[.tmp 2]) rfl (l:=[(0,.int .i32 c)]) rfl ?_
 refine sh fol [(0,.int .i32 c)] ?_
 refine sq ?_
 obtain⟨b5,g_v6,h⟩:=bnd h
 refine Goes.cut (s':=(ofG 17 [(2,.bool b5)],[])) ?_ ?_
 ·rcases wyD g_v6 with⟨c1,g_v6⟩|⟨c1,g_v6⟩
  ·rcases wyD g_v6 with⟨c2,g_v6⟩|⟨c2,g_v6⟩
   ·obtain rfl:=si g_v6
    exact tr fol [2,6] [(2,.bool true)] (ac (gw c1) (ac (gw c2) az))
   ·rcases wyD g_v6 with⟨c3,g_v6⟩|⟨c3,g_v6⟩
    ·obtain rfl:=si g_v6
     exact tr fol [2,6,9] [(2,.bool (decide (c≤90)))] (ac (gw c1) (ac (gw c2) (ac (gw c3) az)))
    ·obtain rfl:=si g_v6
     exact tr fol [2,6,9] [(2,.bool false)] (ac (gw c1) (ac (gw c2) (ac (gw c3) az)))
  ·rcases wyD g_v6 with⟨c4,g_v6⟩|⟨c4,g_v6⟩
   ·obtain rfl:=si g_v6
    exact tr fol [2,9] [(2,.bool (decide (c≤90)))] (ac (gw c1) (ac (gw c4) az))
   ·obtain rfl:=si g_v6
    exact tr fol [2,9] [(2,.bool false)] (ac (gw c1) (ac (gw c4) az))
 refine Goes.ret ?_
 obtain rfl:=si h
 exact(Goes.retW (xs:=[.bool b5]) (by kernel_rfl) (FzW.still tB))
def zI (s_:Str):Nat→Nat→Option (Unit⊕Bool)
 |0,_=>none
 |K+1,k1=>
  if k1<s_.length then
  ((jD (jo s_ k1)).bind fun r5=>
  if(!r5)=true then
  if(k1:Int)=0 then
  some true
  else
  if(!decide ((jo s_ k1)=95))=true then
  if(jo s_ k1)<48 then
  some true
  else
  some (decide ((jo s_ k1)>57))
  else
  some false
  else
  some false:Option Bool).bind fun b10=>
  if b10=true then
  some (.inr false)
  else
  zI s_ K (k1+runeLen s_ k1)
  else
  some (.inl ())
def vU (N:Nat) (s_:Str):Option Bool:=
 (zI s_ N 0).bind (fun
 |(.inl ())=>
 (if(!(s_==[]))=true then
 some (decide ((s_.length:Int)≤24))
 else
 some false:Option Bool).bind fun b14=>
 some b14
 |(.inr q16)=>
 some q16)
theorem qcC (N:Nat) (s_:Str) {res:Bool} (h:vU N s_=some res):qf Tryz.prog (.fn 146) [.str s_] [] (.bool res) []:=by
 unfold vU at h
 refine Goes.fnW Tryz.func146 rfl rfl (m:=37) rfl (rs:=[.tmp 2]) rfl (l:=(kV s_ [])) rfl ?_
 refine sh fol (kV s_ []) ?_
 refine sq ?_
 refine sg fol (kV s_ [(6,.ptr 0 0)]) [.iter s_ 0] ?_
 refine Goes.block ?_
 obtain⟨r2,g2,h⟩:=bnd h
 refine Goes.imp (Q:=fun x s'=>(x= .exit 0∧(.inl ())=r2∧Sub s' (ofG 37 (kV s_ []),[]))∨(x= .ret∧ ∃q3,(.inr q3)=r2∧ku Tryz.prog [.tmp 2] (.bool q3) .ret s')) ?_ ?_
 ·refine Goes.sub (s':=(ofG 37 (kV s_ [(6,.ptr 0 0)]),[.iter s_ 0])) (Sub.keep [0,6] rfl rfl) ?_
  refine Goes.loopS (fun M s=> ∃(k1:Nat),s=(ofG 37 (kV s_ [(6,.ptr 0 0)]),[.iter s_ k1])∧zI s_ M k1=some r2) ?_ (m:=N) ⟨_,rfl,g2⟩
  rintro M s ⟨k1,rfl,g2⟩
  cases M with
  |zero=>simp only[zI]at g2;cases g2
  |succ M=>
   rw[zI]at g2
   refine sq ?_
   rcases Classical.em (k1<s_.length)with c4|c4
   ·rw[if_pos c4]at g2
    refine gq fol [0] (kV s_ [(6,.ptr 0 0),(7,.tuple [.bool true,.i (k1:Int),.int .i32 (jo s_ k1)]),(8,.bool true)]) [.iter s_ (k1+runeLen s_ k1)] (ac (hs (.run [0] (qbm (.ptr 0 0) true) [.iter s_ k1] (.tuple [.bool true,.i (k1:Int),.int .i32 (jo s_ k1)]) [.iter s_ (k1+runeLen s_ k1)] true) (qfh rfl c4 rfl)) az) ?_
    refine sq ?_
    refine Goes.ifB (b:=true) (by kernel_rfl) (fun _=>?_) (fun c=>(by cases c))
    refine Goes.skip ?_
    refine Goes.block ?_
    refine sh fol (kV s_ [(3,.i (k1:Int)),(4,.int .i32 (jo s_ k1)),(6,.ptr 0 0)]) ?_
    refine sq ?_
    obtain⟨b10,g_v11,g2⟩:=bnd g2
    refine Goes.cut (s':=(ofG 37 (kV s_ [(6,.ptr 0 0),(29,.bool b10)]),[.iter s_ (k1+runeLen s_ k1)])) ?_ ?_
    ·obtain⟨r5,e_r5,g_v11⟩:=bnd g_v11
     rcases wyB g_v11 with⟨c6,g_v11⟩|⟨c6,g_v11⟩
     ·rcases wyD g_v11 with⟨c7,g_v11⟩|⟨c7,g_v11⟩
      ·obtain rfl:=si g_v11
       exact tr fol [1,3,6] (kV s_ [(6,.ptr 0 0),(29,.bool true)]) (ac (cv (jm (jo s_ k1) e_r5)) (ac (gw c6) (ac (gw c7) az)))
      ·rcases wyB g_v11 with⟨c8,g_v11⟩|⟨c8,g_v11⟩
       ·rcases wyD g_v11 with⟨c9,g_v11⟩|⟨c9,g_v11⟩
        ·obtain rfl:=si g_v11
         exact tr fol [1,3,6,9,12] (kV s_ [(6,.ptr 0 0),(29,.bool true)]) (ac (cv (jm (jo s_ k1) e_r5)) (ac (gw c6) (ac (gw c7) (ac (gw c8) (ac (gw c9) az)))))
        ·obtain rfl:=si g_v11
         exact tr fol [1,3,6,9,12] (kV s_ [(6,.ptr 0 0),(29,.bool (decide ((jo s_ k1)>57)))]) (ac (cv (jm (jo s_ k1) e_r5)) (ac (gw c6) (ac (gw c7) (ac (gw c8) (ac (gw c9) az)))))
       ·obtain rfl:=si g_v11
        exact tr fol [1,3,6,9] (kV s_ [(6,.ptr 0 0),(29,.bool false)]) (ac (cv (jm (jo s_ k1) e_r5)) (ac (gw c6) (ac (gw c7) (ac (gw c8) az))))
     ·obtain rfl:=si g_v11
      exact tr fol [1,3] (kV s_ [(6,.ptr 0 0),(29,.bool false)]) (ac (cv (jm (jo s_ k1) e_r5)) (ac (gw c6) az))
    refine ihB g2 (fun c12 g2=>?_) (fun c12 g2=>?_)
    ·refine sh fol [(2,.bool false)] ?_
     refine Goes.ret ?_
     obtain rfl:=si g2
     exact Or.inr (⟨rfl,_,rfl,(Goes.retW (xs:=[.bool false]) (by kernel_rfl) (FzW.still tB))⟩)
    ·refine Goes.skip ?_
     exact⟨M,(ofG 37 (kV s_ [(6,.ptr 0 0)]),[.iter s_ (k1+runeLen s_ k1)]),Nat.lt_succ_self _,(Sub.keep [0,6] rfl rfl),_,rfl,g2⟩
   ·rw[if_neg c4]at g2
    refine gr fol [0] (kV s_ [(6,.ptr 0 0),(7,.tuple [.bool false]),(8,.bool false)]) (ac (hs (.run [0] (qbm (.ptr 0 0) true) [.iter s_ k1] (.tuple [.bool false]) [.iter s_ k1] false) (qe8 rfl c4)) az) ?_
    refine sq ?_
    refine Goes.ifB (b:=false) (by kernel_rfl) (fun c=>(by cases c)) (fun _=>?_)
    refine Goes.exit ?_
    obtain rfl:=si g2
    exact Or.inl (⟨rfl,rfl,(Sub.norm [] [] rfl rfl (.keep (.same nS) .nil) .nil)⟩)
 rintro x s' (⟨rfl,rfl,hsub⟩|⟨rfl,q16,rfl,hret⟩)
 ·try dsimp only at h
  refine Goes.sub hsub ?_
  refine sq ?_
  obtain⟨b14,g_v15,h⟩:=bnd h
  refine Goes.cut (s':=(ofG 37 [(2,.bool b14)],[])) ?_ ?_
  ·rcases wyB g_v15 with⟨c13,g_v15⟩|⟨c13,g_v15⟩
   ·obtain rfl:=si g_v15
    exact tr fol [2] [(2,.bool (decide ((s_.length:Int)≤24)))] (ac (gw c13) az)
   ·obtain rfl:=si g_v15
    exact tr fol [2] [(2,.bool false)] (ac (gw c13) az)
  refine Goes.ret ?_
  obtain rfl:=si h
  exact(Goes.retW (xs:=[.bool b14]) (by kernel_rfl) (FzW.still tB))
 ·try dsimp only at h
  obtain rfl:=si h
  exact hret
def yA (N:Nat) (s_:Str):Option Int:=
 (vU N s_).bind fun r1=>
 (zn (!r1) 8).bind fun r2=>
 some r2
theorem qdm (N:Nat) (s_:Str) {res:Int} (h:yA N s_=some res):qf Tryz.prog (.fn 89) [.str s_] [] (.i res) []:=by
 unfold yA at h
 refine Goes.fnW Tryz.func89 rfl rfl (m:=7) rfl (rs:=[.tmp 2]) rfl (l:=(kV s_ [])) rfl ?_
 refine sh fol (kV s_ []) ?_
 refine sq ?_
 obtain⟨r1,e_r1,h⟩:=bnd h
 obtain⟨r2,e_r2,h⟩:=bnd h
 refine gr fol [1,3] [(2,.i r2)] (ac (cv (qcC N s_ e_r1)) (ac (cv (zg (!r1) 8 e_r2)) az)) ?_
 refine Goes.ret ?_
 obtain rfl:=si h
 exact(Goes.retW (xs:=[.i r2]) (by kernel_rfl) (FzW.still tI))
def zf (N:Nat) (e:qb):Nat→Int→Option (Unit⊕Int)
 |0,_=>none
 |K+1,n22=>
  if n22<(e.Names.length:Int)then
  (idx e.Names n22).bind fun x26=>
  (yA N x26).bind fun r27=>
  if(!decide (r27=0))=true then
  some (.inr r27)
  else
  zf N e K (w64 (n22+1))
  else
  some (.inl ())
def zb (e:qb):Nat→Int→Option (Unit⊕Int)
 |0,_=>none
 |K+1,n29=>
  if n29<(e.Values.length:Int)then
  (idx e.Values n29).bind fun x33=>
  (jI x33 0 999999999).bind fun r34=>
  if(!decide (r34=0))=true then
  some (.inr r34)
  else
  zb e K (w64 (n29+1))
  else
  some (.inl ())
def zX (N:Nat) (e:qb):Option Int:=
 ((jU).bind fun r1=>
 if(e.Kind==[109,97,107,101])=true then
 some (2,3,true)
 else
 if(e.Kind==[116,101,115,116])=true then
 some (1,2,true)
 else
 if(e.Kind==[117,115,101])=true then
 some (1,2,true)
 else
 if(e.Kind==[102,97,105,108])=true then
 some (1,1,true)
 else
 if(e.Kind==[114,101,99,97,108,108])=true then
 some (1,1,true)
 else
 if(e.Kind==[117,110,100,111])=true then
 some (0,0,true)
 else
 some (0,0,false):Option (Int×Int×Bool)).bind fun(n8,n9,is_10)=>
 ((jI e.Number 1 1000).bind fun r12=>
 (zn (!is_10) 13).bind fun r13=>
 if(!decide ((e.Names.length:Int)=n8))=true then
 (zn true 2).bind fun r15=>
 (jF N ([r12,r13,r15]:List Int)).bind fun r16=>
 some r16
 else
 (zn (!decide ((e.Values.length:Int)=n9)) 2).bind fun r17=>
 (jF N ([r12,r13,r17]:List Int)).bind fun r18=>
 some r18:Option Int).bind fun bad_19=>
 if(!decide (bad_19=0))=true then
 some bad_19
 else
 (zf N e N 0).bind (fun
 |(.inl ())=>
 (zb e N 0).bind (fun
 |(.inl ())=>
 (zn (!(e.Text==[])) 1).bind fun r36=>
 some r36
 |(.inr q37)=>
 some q37)
 |(.inr q38)=>
 some q38)
theorem y8 (N:Nat) (e:qb) {res:Int} (h:zX N e=some res):qf Tryz.prog (.fn 18) [.agg (cE e)] [] (.i res) []:=by
 unfold zX at h
 refine Goes.fnW Tryz.func18 rfl rfl (m:=75) rfl (rs:=[.tmp 2]) rfl (l:=[(0,.agg (cE e))]) rfl ?_
 refine sg fol (kN []) (kW e) ?_
 refine sq ?_
 obtain⟨⟨n8,n9,is_10⟩,g_v11,h⟩:=bnd h
 refine Goes.cutS (s':=(ofG 75 (kN [(3,.ptr 1 0),(4,.bool is_10)]),[.cells (cE e),.cells [.i n8,.i n9,.undef]])) ?_ ?_
 ·obtain⟨r1,e_r1,g_v11⟩:=bnd g_v11
  rcases wyB g_v11 with⟨c2,g_v11⟩|⟨c2,g_v11⟩
  ·simp only[Option.some.injEq,Prod.mk.injEq]at g_v11
   obtain⟨rfl,rfl,rfl⟩:=g_v11
   exact qm.sub (qm.rq fol [0,3] (kN ((3,.ptr 1 0)::kAO)) [.cells (cE e),.cells [.i 2,.i 3,.func (.func 141) [] []]] (ac (cv (qA e_r1)) (ac (hs (.done (zN Tryz.prog 154 (fm1) (.str e.Kind) true) (.tuple (.agg [.i 2,.i 3,.func (.func 141) [] []]::kAS))) (xn qaj [[109,97,107,101],[116,101,115,116],[117,115,101],[102,97,105,108],[114,101,99,97,108,108],[117,110,100,111]] (jB c2) rfl)) az))) (Sub.norm [] [some 0,some 1] rfl rfl (.kp (.kp (.keep (.same nB) .nil))) (.kb rfl (.same (qd.cons nI (qd.cons nS (qd.cons (ql encS _) (qd.cons (ql encI _) (qd.cons nS qd.nil)))))) (.kb rfl (.cells (rc (.same nI) (rc (.same nI) (rc (.undef) rn)))) .nil)))
  ·rcases wyB g_v11 with⟨c3,g_v11⟩|⟨c3,g_v11⟩
   ·simp only[Option.some.injEq,Prod.mk.injEq]at g_v11
    obtain⟨rfl,rfl,rfl⟩:=g_v11
    exact qm.sub (qm.rq fol [0,3] (kN ((3,.ptr 1 0)::kAO)) [.cells (cE e),.cells [.i 1,.i 2,.func (.func 142) [] []]] (ac (cv (qA e_r1)) (ac (hs (.done (zN Tryz.prog 154 (fm1) (.str e.Kind) true) (.tuple (.agg [.i 1,.i 2,.func (.func 142) [] []]::kAS))) (xn qaj [[109,97,107,101],[116,101,115,116],[117,115,101],[102,97,105,108],[114,101,99,97,108,108],[117,110,100,111]] (qh c2 (jB c3)) rfl)) az))) (Sub.norm [] [some 0,some 1] rfl rfl (.kp (.kp (.keep (.same nB) .nil))) (.kb rfl (.same (qd.cons nI (qd.cons nS (qd.cons (ql encS _) (qd.cons (ql encI _) (qd.cons nS qd.nil)))))) (.kb rfl (.cells (rc (.same nI) (rc (.same nI) (rc (.undef) rn)))) .nil)))
   ·rcases wyB g_v11 with⟨c4,g_v11⟩|⟨c4,g_v11⟩
    ·simp only[Option.some.injEq,Prod.mk.injEq]at g_v11
     obtain⟨rfl,rfl,rfl⟩:=g_v11
     exact qm.sub (qm.rq fol [0,3] (kN ((3,.ptr 1 0)::kAO)) [.cells (cE e),.cells [.i 1,.i 2,.func (.func 143) [] []]] (ac (cv (qA e_r1)) (ac (hs (.done (zN Tryz.prog 154 (fm1) (.str e.Kind) true) (.tuple (.agg [.i 1,.i 2,.func (.func 143) [] []]::kAS))) (xn qaj [[109,97,107,101],[116,101,115,116],[117,115,101],[102,97,105,108],[114,101,99,97,108,108],[117,110,100,111]] (qh c2 (qh c3 (jB c4))) rfl)) az))) (Sub.norm [] [some 0,some 1] rfl rfl (.kp (.kp (.keep (.same nB) .nil))) (.kb rfl (.same (qd.cons nI (qd.cons nS (qd.cons (ql encS _) (qd.cons (ql encI _) (qd.cons nS qd.nil)))))) (.kb rfl (.cells (rc (.same nI) (rc (.same nI) (rc (.undef) rn)))) .nil)))
    ·rcases wyB g_v11 with⟨c5,g_v11⟩|⟨c5,g_v11⟩
     ·simp only[Option.some.injEq,Prod.mk.injEq]at g_v11
      obtain⟨rfl,rfl,rfl⟩:=g_v11
      exact qm.sub (qm.rq fol [0,3] (kN ((3,.ptr 1 0)::kAO)) [.cells (cE e),.cells [.i 1,.i 1,.func (.func 144) [] []]] (ac (cv (qA e_r1)) (ac (hs (.done (zN Tryz.prog 154 (fm1) (.str e.Kind) true) (.tuple (.agg [.i 1,.i 1,.func (.func 144) [] []]::kAS))) (xn qaj [[109,97,107,101],[116,101,115,116],[117,115,101],[102,97,105,108],[114,101,99,97,108,108],[117,110,100,111]] (qh c2 (qh c3 (qh c4 (jB c5)))) rfl)) az))) (Sub.norm [] [some 0,some 1] rfl rfl (.kp (.kp (.keep (.same nB) .nil))) (.kb rfl (.same (qd.cons nI (qd.cons nS (qd.cons (ql encS _) (qd.cons (ql encI _) (qd.cons nS qd.nil)))))) (.kb rfl (.cells (rc (.same nI) (rc (.same nI) (rc (.undef) rn)))) .nil)))
     ·rcases wyB g_v11 with⟨c6,g_v11⟩|⟨c6,g_v11⟩
      ·simp only[Option.some.injEq,Prod.mk.injEq]at g_v11
       obtain⟨rfl,rfl,rfl⟩:=g_v11
       exact qm.sub (qm.rq fol [0,3] (kN ((3,.ptr 1 0)::kAO)) [.cells (cE e),.cells [.i 1,.i 1,.func (.func 145) [] []]] (ac (cv (qA e_r1)) (ac (hs (.done (zN Tryz.prog 154 (fm1) (.str e.Kind) true) (.tuple (.agg [.i 1,.i 1,.func (.func 145) [] []]::kAS))) (xn qaj [[109,97,107,101],[116,101,115,116],[117,115,101],[102,97,105,108],[114,101,99,97,108,108],[117,110,100,111]] (qh c2 (qh c3 (qh c4 (qh c5 (jB c6))))) rfl)) az))) (Sub.norm [] [some 0,some 1] rfl rfl (.kp (.kp (.keep (.same nB) .nil))) (.kb rfl (.same (qd.cons nI (qd.cons nS (qd.cons (ql encS _) (qd.cons (ql encI _) (qd.cons nS qd.nil)))))) (.kb rfl (.cells (rc (.same nI) (rc (.same nI) (rc (.undef) rn)))) .nil)))
      ·rcases wyB g_v11 with⟨c7,g_v11⟩|⟨c7,g_v11⟩
       ·simp only[Option.some.injEq,Prod.mk.injEq]at g_v11
        obtain⟨rfl,rfl,rfl⟩:=g_v11
        exact qm.sub (qm.rq fol [0,3] (kN ((3,.ptr 1 0)::kAO)) [.cells (cE e),.cells [.i 0,.i 0,.nilfunc]] (ac (cv (qA e_r1)) (ac (hs (.done (zN Tryz.prog 154 (fm1) (.str e.Kind) true) (.tuple (.agg [.i 0,.i 0,.nilfunc]::kAS))) (xn qaj [[109,97,107,101],[116,101,115,116],[117,115,101],[102,97,105,108],[114,101,99,97,108,108],[117,110,100,111]] (qh c2 (qh c3 (qh c4 (qh c5 (qh c6 (jB c7)))))) rfl)) az))) (Sub.norm [] [some 0,some 1] rfl rfl (.kp (.kp (.keep (.same nB) .nil))) (.kb rfl (.same (qd.cons nI (qd.cons nS (qd.cons (ql encS _) (qd.cons (ql encI _) (qd.cons nS qd.nil)))))) (.kb rfl (.cells (rc (.same nI) (rc (.same nI) (rc (.undef) rn)))) .nil)))
       ·simp only[Option.some.injEq,Prod.mk.injEq]at g_v11
        obtain⟨rfl,rfl,rfl⟩:=g_v11
        exact qm.sub (qm.rq fol [0,3] (kN ((3,.ptr 1 0)::kAG)) [.cells (cE e),.cells [.i 0,.i 0,.nilfunc]] (ac (cv (qA e_r1)) (ac (hs (.done (zN Tryz.prog 154 (fm1) (.str e.Kind) true) (.tuple (.agg [.i 0,.i 0,.nilfunc]::kAg))) (qhW qaj [[109,97,107,101],[116,101,115,116],[117,115,101],[102,97,105,108],[114,101,99,97,108,108],[117,110,100,111]] (qh c2 (qh c3 (qh c4 (qh c5 (qh c6 (qh c7 (rfl))))))))) az))) (Sub.norm [] [some 0,some 1] rfl rfl (.kp (.kp (.keep (.same nB) .nil))) (.kb rfl (.same (qd.cons nI (qd.cons nS (qd.cons (ql encS _) (qd.cons (ql encI _) (qd.cons nS qd.nil)))))) (.kb rfl (.cells (rc (.same nI) (rc (.same nI) (rc (.undef) rn)))) .nil)))
 intro _ hsub
 try dsimp only at h
 refine Goes.sub hsub ?_
 refine sq ?_
 refine sq ?_
 obtain⟨bad_19,g_v20,h⟩:=bnd h
 refine Goes.cutS (s':=(ofG 75 (kN [(5,.i bad_19)]),(kW e))) ?_ ?_
 ·obtain⟨r12,e_r12,g_v20⟩:=bnd g_v20
  obtain⟨r13,e_r13,g_v20⟩:=bnd g_v20
  rcases wyB g_v20 with⟨c14,g_v20⟩|⟨c14,g_v20⟩
  ·obtain⟨r15,e_r15,g_v20⟩:=bnd g_v20
   obtain⟨r16,e_r16,g_v20⟩:=bnd g_v20
   obtain rfl:=si g_v20
   exact qm.sub (qm.rq fol [2,5,12,20,22] (kN [(5,.i r16)]) (.cells (cE e):: .cells [.i n8,.i n9,.undef]::(kAh r12 r13 r15 [])) (ac (cv (yQ e.Number 1 1000 e_r12)) (ac (cv (zg (!is_10) 13 e_r13)) (ac (gw c14) (ac (cv (zg true 2 e_r15)) (ac (hs (.call 86 [.slice 2 0 3 3 1] (.cells (cE e):: .cells [.i n8,.i n9,.undef]::(kAh r12 r13 r15 [])) [2] [vl encI ([r12,r13,r15]:List Int)] (.i r16)) (qbp (FzL.cons (Fz.lit rfl rfl (FzL.still (AllST.cons tI (AllST.cons tI (AllST.cons tI AllST.nil))))) FzL.nil) (vY N ([r12,r13,r15]:List Int) e_r16) tI rfl)) az)))))) (Sub.norm [] [some 0] rfl rfl (.kp (.keep (.same nI) .nil)) (.kb rfl (.same (qd.cons nI (qd.cons nS (qd.cons (ql encS _) (qd.cons (ql encI _) (qd.cons nS qd.nil)))))) .nil))
  ·obtain⟨r17,e_r17,g_v20⟩:=bnd g_v20
   obtain⟨r18,e_r18,g_v20⟩:=bnd g_v20
   obtain rfl:=si g_v20
   exact qm.sub (qm.rq fol [2,5,12,20,22] (kN [(5,.i r18)]) (.cells (cE e):: .cells [.i n8,.i n9,.undef]::(kAh r12 r13 r17 [])) (ac (cv (yQ e.Number 1 1000 e_r12)) (ac (cv (zg (!is_10) 13 e_r13)) (ac (gw c14) (ac (cv (zg (!decide ((e.Values.length:Int)=n9)) 2 e_r17)) (ac (hs (.call 86 [.slice 2 0 3 3 1] (.cells (cE e):: .cells [.i n8,.i n9,.undef]::(kAh r12 r13 r17 [])) [2] [vl encI ([r12,r13,r17]:List Int)] (.i r18)) (qbp (FzL.cons (Fz.lit rfl rfl (FzL.still (AllST.cons tI (AllST.cons tI (AllST.cons tI AllST.nil))))) FzL.nil) (vY N ([r12,r13,r17]:List Int) e_r18) tI rfl)) az)))))) (Sub.norm [] [some 0] rfl rfl (.kp (.keep (.same nI) .nil)) (.kb rfl (.same (qd.cons nI (qd.cons nS (qd.cons (ql encS _) (qd.cons (ql encI _) (qd.cons nS qd.nil)))))) .nil))
 intro _ hsub
 refine Goes.sub hsub ?_
 refine sh fol (kN [(5,.i bad_19),(43,.bool (!decide (bad_19=0)))]) ?_
 refine ihB h (fun c21 h=>?_) (fun c21 h=>?_)
 ·refine sh fol [(2,.i bad_19)] ?_
  refine Goes.ret ?_
  obtain rfl:=si h
  exact(Goes.retW (xs:=[.i bad_19]) (by kernel_rfl) (FzW.still tI))
 ·refine Goes.skip ?_
  refine sq ?_
  refine sh fol (kN [(46,vl encS e.Names),(47,.i (e.Names.length:Int)),(48,.i 0)]) ?_
  refine Goes.block ?_
  obtain⟨r23,g23,h⟩:=bnd h
  refine Goes.imp (Q:=fun x s'=>(x= .exit 0∧(.inl ())=r23∧Sub s' (ofG 75 (kN []),(kW e)))∨(x= .ret∧ ∃q24,(.inr q24)=r23∧ku Tryz.prog [.tmp 2] (.i q24) .ret s')) ?_ ?_
  ·refine Goes.loopS (fun M s=> ∃(n22:Int),s=(ofG 75 (kN (kAi e.Names (e.Names.length:Int) n22 [])),(kW e))∧zf N e M n22=some r23) ?_ (m:=N) ⟨_,rfl,g23⟩
   rintro M s ⟨n22,rfl,g23⟩
   cases M with
   |zero=>simp only[zf]at g23;cases g23
   |succ M=>
    rw[zf]at g23
    refine sh fol (kN (kAi e.Names (e.Names.length:Int) n22 [(49,.bool (decide (n22<(e.Names.length:Int))))])) ?_
    refine sq ?_
    refine ihD g23 (fun c25 g23=>?_) (fun c25 g23=>?_)
    ·refine Goes.skip ?_
     refine sq (Goes.block ?_)
     refine sq ?_
     obtain⟨x26,e_x26,g23⟩:=bnd g23
     refine gr fol [0,1] (kN ((7,.str x26)::(kAi e.Names (e.Names.length:Int) n22 []))) (ac (iv jQ encS e_x26) (ac (lv 0 ce9 encS e_x26 rfl) az)) ?_
     refine sq ?_
     obtain⟨r27,e_r27,g23⟩:=bnd g23
     refine gr fol [1] (kN ((8,.i r27)::(kAi e.Names (e.Names.length:Int) n22 []))) (ac (cv (qdm N x26 e_r27)) az) ?_
     refine sh fol (kN ((8,.i r27)::(kAi e.Names (e.Names.length:Int) n22 [(55,.bool (!decide (r27=0)))]))) ?_
     refine ihB g23 (fun c28 g23=>?_) (fun c28 g23=>?_)
     ·refine sh fol [(2,.i r27)] ?_
      refine Goes.ret ?_
      obtain rfl:=si g23
      exact Or.inr (⟨rfl,_,rfl,(Goes.retW (xs:=[.i r27]) (by kernel_rfl) (FzW.still tI))⟩)
     ·refine Goes.skip ?_
      refine gh fol (kN (kAi e.Names (e.Names.length:Int) (w64 (n22+1)) [])) ?_
      exact⟨M,(ofG 75 (kN (kAi e.Names (e.Names.length:Int) (w64 (n22+1)) [])),(kW e)),Nat.lt_succ_self _,(Sub.refl _),_,rfl,g23⟩
    ·refine Goes.exit ?_
     obtain rfl:=si g23
     exact Or.inl (⟨rfl,rfl,(Sub.keep [1] rfl rfl)⟩)
  rintro x s' (⟨rfl,rfl,hsub⟩|⟨rfl,q38,rfl,hret⟩)
  ·try dsimp only at h
   refine Goes.sub hsub ?_
   refine sq ?_
   refine sh fol (kN [(59,vl encI e.Values),(60,.i (e.Values.length:Int)),(61,.i 0)]) ?_
   refine Goes.block ?_
   obtain⟨r30,g30,h⟩:=bnd h
   refine Goes.imp (Q:=fun x s'=>(x= .exit 2∧(.inl ())=r30∧Sub s' (ofG 75 (kN []),(kW e)))∨(x= .ret∧ ∃q31,(.inr q31)=r30∧ku Tryz.prog [.tmp 2] (.i q31) .ret s')) ?_ ?_
   ·refine Goes.loopS (fun M s=> ∃(n29:Int),s=(ofG 75 (kN (kAj e.Values (e.Values.length:Int) n29 [])),(kW e))∧zb e M n29=some r30) ?_ (m:=N) ⟨_,rfl,g30⟩
    rintro M s ⟨n29,rfl,g30⟩
    cases M with
    |zero=>simp only[zb]at g30;cases g30
    |succ M=>
     rw[zb]at g30
     refine sh fol (kN (kAj e.Values (e.Values.length:Int) n29 [(62,.bool (decide (n29<(e.Values.length:Int))))])) ?_
     refine sq ?_
     refine ihD g30 (fun c32 g30=>?_) (fun c32 g30=>?_)
     ·refine Goes.skip ?_
      refine sq (Goes.block ?_)
      refine sq ?_
      obtain⟨x33,e_x33,g30⟩:=bnd g30
      refine gr fol [0,1] (kN ((10,.i x33)::(kAj e.Values (e.Values.length:Int) n29 []))) (ac (iv qcx encI e_x33) (ac (lv 0 ce3 encI e_x33 rfl) az)) ?_
      refine sq ?_
      obtain⟨r34,e_r34,g30⟩:=bnd g30
      refine gr fol [1] (kN ((11,.i r34)::(kAj e.Values (e.Values.length:Int) n29 []))) (ac (cv (yQ x33 0 999999999 e_r34)) az) ?_
      refine sh fol (kN ((11,.i r34)::(kAj e.Values (e.Values.length:Int) n29 [(68,.bool (!decide (r34=0)))]))) ?_
      refine ihB g30 (fun c35 g30=>?_) (fun c35 g30=>?_)
      ·refine sh fol [(2,.i r34)] ?_
       refine Goes.ret ?_
       obtain rfl:=si g30
       exact Or.inr (⟨rfl,_,rfl,(Goes.retW (xs:=[.i r34]) (by kernel_rfl) (FzW.still tI))⟩)
      ·refine Goes.skip ?_
       refine gh fol (kN (kAj e.Values (e.Values.length:Int) (w64 (n29+1)) [])) ?_
       exact⟨M,(ofG 75 (kN (kAj e.Values (e.Values.length:Int) (w64 (n29+1)) [])),(kW e)),Nat.lt_succ_self _,(Sub.refl _),_,rfl,g30⟩
     ·refine Goes.exit ?_
      obtain rfl:=si g30
      exact Or.inl (⟨rfl,rfl,(Sub.keep [1] rfl rfl)⟩)
   rintro x s' (⟨rfl,rfl,hsub⟩|⟨rfl,q37,rfl,hret⟩)
   ·try dsimp only at h
    refine Goes.sub hsub ?_
    refine sq ?_
    obtain⟨r36,e_r36,h⟩:=bnd h
    refine gr fol [3] [(2,.i r36)] (ac (cv (zg (!(e.Text==[])) 1 e_r36)) az) ?_
    refine Goes.ret ?_
    obtain rfl:=si h
    exact(Goes.retW (xs:=[.i r36]) (by kernel_rfl) (FzW.still tI))
   ·try dsimp only at h
    obtain rfl:=si h
    exact hret
  ·try dsimp only at h
   obtain rfl:=si h
   exact hret
def stringslite_IndexByte (s_:Str) (c:Int):Option Int:=
 (qd1 s_ c).bind fun r1=>
 some r1
theorem vV (s_:Str) (c:Int) {res:Int} (h:stringslite_IndexByte s_ c=some res):qf Tryz.prog (.fn 173) [.str s_,.int .u8 c] [] (.i res) []:=by
 unfold stringslite_IndexByte at h
 refine Goes.fnW Tryz.func173 rfl rfl (m:=8) rfl (rs:=[.tmp 4]) rfl (l:=(kV s_ [(1,.int .u8 c)])) rfl ?_
 refine sh fol (kV s_ [(1,.int .u8 c)]) ?_
 refine sq ?_
 obtain⟨r1,e_r1,h⟩:=bnd h
 refine gr fol [2] [(4,.i r1)] (ac (cv (qiu s_ c e_r1)) az) ?_
 refine Goes.ret ?_
 obtain rfl:=si h
 exact(Goes.retW (xs:=[.i r1]) (by kernel_rfl) (FzW.still tI))
def strings_IndexByte (s_:Str) (c:Int):Option Int:=
 (stringslite_IndexByte s_ c).bind fun r1=>
 some r1
theorem yZ (s_:Str) (c:Int) {res:Int} (h:strings_IndexByte s_ c=some res):qf Tryz.prog (.fn 153) [.str s_,.int .u8 c] [] (.i res) []:=by
 unfold strings_IndexByte at h
 refine Goes.fnW Tryz.func153 rfl rfl (m:=8) rfl (rs:=[.tmp 4]) rfl (l:=(kV s_ [(1,.int .u8 c)])) rfl ?_
 refine sh fol (kV s_ [(1,.int .u8 c)]) ?_
 refine sq ?_
 obtain⟨r1,e_r1,h⟩:=bnd h
 refine gr fol [2] [(4,.i r1)] (ac (cv (vV s_ c e_r1)) az) ?_
 refine Goes.ret ?_
 obtain rfl:=si h
 exact(Goes.retW (xs:=[.i r1]) (by kernel_rfl) (FzW.still tI))
def stringslite_HasSuffix (s_:Str) (suffix:Str):Option Bool:=
 (if(s_.length:Int)≥(suffix.length:Int)then
 (cut s_ (w64 ((s_.length:Int)-(suffix.length:Int))) (s_.length:Int)).bind fun s2=>
 some (s2==suffix)
 else
 some false:Option Bool).bind fun b3=>
 some b3
theorem qao (s_:Str) (suffix:Str) {res:Bool} (h:stringslite_HasSuffix s_ suffix=some res):qf Tryz.prog (.fn 188) [.str s_,.str suffix] [] (.bool res) []:=by
 unfold stringslite_HasSuffix at h
 refine Goes.fnW Tryz.func188 rfl rfl (m:=21) rfl (rs:=[.tmp 4]) rfl (l:=(kJ s_ suffix [])) rfl ?_
 refine sh fol (kJ s_ suffix []) ?_
 refine sq ?_
 obtain⟨b3,g_v4,h⟩:=bnd h
 refine Goes.cut (s':=(ofG 21 [(4,.bool b3)],[])) ?_ ?_
 ·rcases wyD g_v4 with⟨c1,g_v4⟩|⟨c1,g_v4⟩
  ·obtain⟨s2,e_s2,g_v4⟩:=bnd g_v4
   obtain rfl:=si g_v4
   exact tr fol [5,12] [(4,.bool (s2==suffix))] (ac (gw c1) (ac (hs (.done (.opt (qN Tryz.prog 9 (.str s_) (some (.i (w64 ((s_.length:Int)-(suffix.length:Int))))) none none)) (.str s2)) (jA st9 (some (w64 ((s_.length:Int)-(suffix.length:Int)))) none e_s2)) az))
  ·obtain rfl:=si g_v4
   exact tr fol [5] kAG (ac (gw c1) az)
 refine Goes.ret ?_
 obtain rfl:=si h
 exact(Goes.retW (xs:=[.bool b3]) (by kernel_rfl) (FzW.still tB))
def stringslite_CutSuffix (s_:Str) (suffix:Str):Option (Str×Bool):=
 (stringslite_HasSuffix s_ suffix).bind fun r1=>
 if(!r1)=true then
 some (s_,false)
 else
 (cut s_ 0 (w64 ((s_.length:Int)-(suffix.length:Int)))).bind fun s3=>
 some (s3,true)
theorem qam (s_:Str) (suffix:Str) {res:Str×Bool} (h:stringslite_CutSuffix s_ suffix=some res):qf Tryz.prog (.fn 154) [.str s_,.str suffix] [] (.tuple [.str res.1,.bool res.2]) []:=by
 unfold stringslite_CutSuffix at h
 refine Goes.fnW Tryz.func154 rfl rfl (m:=18) rfl (rs:=[.tmp 4,.tmp 5]) rfl (l:=(kJ s_ suffix [])) rfl ?_
 refine sh fol (kJ s_ suffix []) ?_
 refine sq ?_
 refine sq ?_
 obtain⟨r1,e_r1,h⟩:=bnd h
 refine gr fol [2] (kJ s_ suffix [(9,.bool (!r1))]) (ac (cv (qao s_ suffix e_r1)) az) ?_
 refine ihB h (fun c2 h=>?_) (fun c2 h=>?_)
 ·refine sh fol [(4,.str s_),(5,.bool false)] ?_
  refine Goes.ret ?_
  obtain rfl:=si h
  exact(Goes.retW (xs:=(.str s_::kAg)) (by kernel_rfl) (FzW.tuple (qg.cons (FzW.still tS) (qg.cons (FzW.still tB) qg.nil))))
 ·refine Goes.skip ?_
  refine sq ?_
  obtain⟨s3,e_s3,h⟩:=bnd h
  refine gr fol [6] [(4,.str s3),(5,.bool true)] (ac (hs (.done (.opt (qN Tryz.prog 9 (.str s_) none (some (.i (w64 ((s_.length:Int)-(suffix.length:Int))))) none)) (.str s3)) (jA st9 none (some (w64 ((s_.length:Int)-(suffix.length:Int)))) e_s3)) az) ?_
  refine Goes.ret ?_
  obtain rfl:=si h
  exact(Goes.retW (xs:=(.str s3::kAS)) (by kernel_rfl) (FzW.tuple (qg.cons (FzW.still tS) (qg.cons (FzW.still tB) qg.nil))))
def strings_CutSuffix (s_:Str) (suffix:Str):Option (Str×Bool):=
 (stringslite_CutSuffix s_ suffix).bind fun r1=>
 some (r1.1,r1.2)
theorem yX (s_:Str) (suffix:Str) {res:Str×Bool} (h:strings_CutSuffix s_ suffix=some res):qf Tryz.prog (.fn 104) [.str s_,.str suffix] [] (.tuple [.str res.1,.bool res.2]) []:=by
 unfold strings_CutSuffix at h
 refine Goes.fnW Tryz.func104 rfl rfl (m:=11) rfl (rs:=[.tmp 4,.tmp 5]) rfl (l:=(kJ s_ suffix [])) rfl ?_
 refine sh fol (kJ s_ suffix []) ?_
 refine sq ?_
 obtain⟨r1,e_r1,h⟩:=bnd h
 refine gr fol [2] [(4,.str r1.1),(5,.bool r1.2)] (ac (cv (qam s_ suffix e_r1)) az) ?_
 refine Goes.ret ?_
 obtain rfl:=si h
 exact(Goes.retW (xs:=[.str r1.1,.bool r1.2]) (by kernel_rfl) (FzW.tuple (qg.cons (FzW.still tS) (qg.cons (FzW.still tB) qg.nil))))
def je (s_:Str):Nat→Int→Int→Option Int
 |0,_,_=>none
 |K+1,x_1,n2=>
  if n2<(s_.length:Int)then
  (idx s_ n2).bind fun c6=>
  je s_ K ((w64 ((w64 (31*x_1))+(w64 (c6.toNat:Int)))).tmod 9999991) (w64 (n2+1))
  else
  some x_1
def yO (N:Nat) (s_:Str):Option Str:=
 (je s_ N 7 0).bind fun x_3=>
 (qbQ x_3).bind fun r7=>
 (qdx [48] (w64 (7-(r7.length:Int)))).bind fun r8=>
 (cat r8 r7).bind fun s9=>
 some s9
theorem qbS (N:Nat) (s_:Str) {res:Str} (h:yO N s_=some res):qf Tryz.prog (.fn 151) [.str s_] [] (.str res) []:=by
 unfold yO at h
 refine Goes.fnW Tryz.func151 rfl rfl (m:=28) rfl (rs:=[.tmp 2]) rfl (l:=(kV s_ [])) rfl ?_
 refine sh fol (kV s_ []) ?_
 refine sh fol (kV s_ [(3,.i 7)]) ?_
 refine sq ?_
 refine sh fol (kV s_ [(3,.i 7),(7,.i (s_.length:Int)),(8,.i 0)]) ?_
 refine Goes.block ?_
 obtain⟨r4,g4,h⟩:=bnd h
 refine Goes.imp (Q:=fun x s'=>(x= .exit 0∧ ∃x_3,x_3=r4∧Sub s' (ofG 28 [(3,.i x_3)],[]))) ?_ ?_
 ·refine Goes.loopS (fun M s=> ∃(x_1:Int) (n2:Int),s=(ofG 28 (kV s_ ((3,.i x_1)::(kAY (s_.length:Int) n2))),[])∧je s_ M x_1 n2=some r4) ?_ (m:=N) ⟨_,_,rfl,g4⟩
  rintro M s ⟨x_1,n2,rfl,g4⟩
  cases M with
  |zero=>simp only[je]at g4;cases g4
  |succ M=>
   rw[je]at g4
   refine sh fol (kV s_ [(3,.i x_1),(7,.i (s_.length:Int)),(8,.i n2),(9,.bool (decide (n2<(s_.length:Int))))]) ?_
   refine sq ?_
   refine ihD g4 (fun c5 g4=>?_) (fun c5 g4=>?_)
   ·refine Goes.skip ?_
    refine sq (Goes.block ?_)
    refine sh fol (kV s_ (kAa x_1 n2 (kAY (s_.length:Int) n2))) ?_
    obtain⟨c6,e_c6,g4⟩:=bnd g4
    refine gr fol [4] (kV s_ ((3,.i ((w64 ((w64 (31*x_1))+(w64 (c6.toNat:Int)))).tmod 9999991))::(kAY (s_.length:Int) n2))) (ac (hs (.done (.opt (zS Tryz.prog 9 (.str s_) (.i n2))) (.int .u8 (c6.toNat:Int))) (jP st9 e_c6)) az) ?_
    refine gh fol (kV s_ ((3,.i ((w64 ((w64 (31*x_1))+(w64 (c6.toNat:Int)))).tmod 9999991))::(kAY (s_.length:Int) (w64 (n2+1))))) ?_
    exact⟨M,(ofG 28 (kV s_ ((3,.i ((w64 ((w64 (31*x_1))+(w64 (c6.toNat:Int)))).tmod 9999991))::(kAY (s_.length:Int) (w64 (n2+1))))),[]),Nat.lt_succ_self _,(Sub.refl _),_,_,rfl,g4⟩
   ·refine Goes.exit ?_
    obtain rfl:=si g4
    exact⟨rfl,_,rfl,(Sub.keep [3] rfl rfl)⟩
 rintro x s' ⟨rfl,x_3,rfl,hsub⟩
 refine Goes.sub hsub ?_
 refine sq ?_
 obtain⟨r7,e_r7,h⟩:=bnd h
 refine gr fol [1] [(5,.str r7)] (ac (cv (qdN x_3 e_r7)) az) ?_
 refine sq ?_
 obtain⟨r8,e_r8,h⟩:=bnd h
 obtain⟨s9,e_s9,h⟩:=bnd h
 refine gr fol [3,5] [(2,.str s9)] (ac (cv (qg9 [48] (w64 (7-(r7.length:Int))) e_r8)) (ac (hs (.done (.opt (yG Tryz.prog .add 9 (.tmp 25) (.tmp 26) (.str r8) (.str r7))) (.str s9)) (jc e_s9)) az)) ?_
 refine Goes.ret ?_
 obtain rfl:=si h
 exact(Goes.retW (xs:=[.str s9]) (by kernel_rfl) (FzW.still tS))
def jC (s_:Str):Option Bool:=
 (if(!(s_==[]))=true then
 (qgc s_ [48,49,50,51,52,53,54,55,56,57]).bind fun r2=>
 some (r2==[])
 else
 some false:Option Bool).bind fun b3=>
 some b3
theorem j4 (s_:Str) {res:Bool} (h:jC s_=some res):qf Tryz.prog (.fn 155) [.str s_] [] (.bool res) []:=by
 unfold jC at h
 refine Goes.fnW Tryz.func155 rfl rfl (m:=10) rfl (rs:=[.tmp 2]) rfl (l:=(kV s_ [])) rfl ?_
 refine sh fol (kV s_ []) ?_
 refine sq ?_
 obtain⟨b3,g_v4,h⟩:=bnd h
 refine Goes.cut (s':=(ofG 10 [(2,.bool b3)],[])) ?_ ?_
 ·rcases wyB g_v4 with⟨c1,g_v4⟩|⟨c1,g_v4⟩
  ·obtain⟨r2,e_r2,g_v4⟩:=bnd g_v4
   obtain rfl:=si g_v4
   exact tr fol [2,4] [(2,.bool (r2==[]))] (ac (gw c1) (ac (cv (qjy s_ [48,49,50,51,52,53,54,55,56,57] e_r2)) az))
  ·obtain rfl:=si g_v4
   exact tr fol [2] [(2,.bool false)] (ac (gw c1) az)
 refine Goes.ret ?_
 obtain rfl:=si h
 exact(Goes.retW (xs:=[.bool b3]) (by kernel_rfl) (FzW.still tB))
def bytealg_Cutover (n:Int):Option Int:=
 some (w64 ((w64 (n+16)).tdiv 8))
def stringslite_Index (s_:Str) (substr:Str):Option Int:=
 (if(substr.length:Int)=0 then
 some true
 else
 some (substr==s_):Option Bool).bind fun b2=>
 if b2=true then
 some 0
 else
 if(substr.length:Int)=1 then
 (idx substr 0).bind fun c6=>
 (stringslite_IndexByte s_ (c6.toNat:Int)).bind fun r7=>
 some r7
 else
 if(substr.length:Int)≥(s_.length:Int)then
 some (-1)
 else
 none
theorem xh (s_:Str) (substr:Str) {res:Int} (h:stringslite_Index s_ substr=some res):qf Tryz.prog (.fn 130) [.str s_,.str substr] [] (.i res) []:=by
 unfold stringslite_Index at h
 refine Goes.fnW Tryz.func130 rfl rfl (m:=143) rfl (rs:=[.tmp 4]) rfl (l:=(kJ s_ substr [])) rfl ?_
 refine sh fol (kJ s_ substr []) ?_
 refine sh fol (kJ s_ substr [(5,.i (substr.length:Int))]) ?_
 refine sq (Goes.block ?_)
 refine sq ?_
 obtain⟨b2,g_v3,h⟩:=bnd h
 refine Goes.cut (s':=(ofG 143 (kJ s_ substr [(5,.i (substr.length:Int)),(16,.bool b2)]),[])) ?_ ?_
 ·rcases wyD g_v3 with⟨c1,g_v3⟩|⟨c1,g_v3⟩
  ·obtain rfl:=si g_v3
   exact tr fol [2] (kJ s_ substr [(5,.i (substr.length:Int)),(16,.bool true)]) (ac (gw c1) az)
  ·obtain rfl:=si g_v3
   exact tr fol [2] (kJ s_ substr [(5,.i (substr.length:Int)),(16,.bool (substr==s_))]) (ac (gw c1) az)
 refine ihB h (fun c4 h=>?_) (fun c4 h=>?_)
 ·refine sh fol [(4,.i 0)] ?_
  refine Goes.ret ?_
  obtain rfl:=si h
  exact(Goes.retW (xs:=[.i 0]) (by kernel_rfl) (FzW.still tI))
 ·refine sh fol (kJ s_ substr [(5,.i (substr.length:Int)),(24,.bool (decide ((substr.length:Int)=1)))]) ?_
  refine ihD h (fun c5 h=>?_) (fun c5 h=>?_)
  ·refine sq ?_
   obtain⟨c6,e_c6,h⟩:=bnd h
   obtain⟨r7,e_r7,h⟩:=bnd h
   refine gr fol [2,3] [(4,.i r7)] (ac (hs (.done (.opt (zS Tryz.prog 9 (.str substr) (.i 0))) (.int .u8 (c6.toNat:Int))) (jP st9 e_c6)) (ac (cv (vV s_ (c6.toNat:Int) e_r7)) az)) ?_
   refine Goes.ret ?_
   obtain rfl:=si h
   exact(Goes.retW (xs:=[.i r7]) (by kernel_rfl) (FzW.still tI))
  ·refine sh fol (kJ s_ substr [(5,.i (substr.length:Int)),(31,.bool (decide ((substr.length:Int)≥(s_.length:Int))))]) ?_
   refine ihD h (fun c8 h=>?_) (fun c8 h=>?_)
   ·refine sh fol [(4,.i (-1))] ?_
    refine Goes.ret ?_
    obtain rfl:=si h
    exact(Goes.retW (xs:=[.i (-1)]) (by kernel_rfl) (FzW.still tI))
   ·cases h
def strings_Index (s_:Str) (substr:Str):Option Int:=
 (stringslite_Index s_ substr).bind fun r1=>
 some r1
theorem qaE (s_:Str) (substr:Str) {res:Int} (h:strings_Index s_ substr=some res):qf Tryz.prog (.fn 67) [.str s_,.str substr] [] (.i res) []:=by
 unfold strings_Index at h
 refine Goes.fnW Tryz.func67 rfl rfl (m:=8) rfl (rs:=[.tmp 4]) rfl (l:=(kJ s_ substr [])) rfl ?_
 refine sh fol (kJ s_ substr []) ?_
 refine sq ?_
 obtain⟨r1,e_r1,h⟩:=bnd h
 refine gr fol [2] [(4,.i r1)] (ac (cv (xh s_ substr e_r1)) az) ?_
 refine Goes.ret ?_
 obtain rfl:=si h
 exact(Goes.retW (xs:=[.i r1]) (by kernel_rfl) (FzW.still tI))
def zi (s_:Str):Nat→Nat→Int→Option Int
 |0,_,_=>none
 |K+1,k1,n_2=>
  if k1<s_.length then
  zi s_ K (k1+runeLen s_ k1) (w64 (n_2+1))
  else
  some n_2
def utf8_RuneCountInString (N:Nat) (s_:Str):Option Int:=
 (zi s_ N 0 0).bind fun n_3=>
 some n_3
theorem vQ (N:Nat) (s_:Str) {res:Int} (h:utf8_RuneCountInString N s_=some res):qf Tryz.prog (.fn 229) [.str s_] [] (.i res) []:=by
 unfold utf8_RuneCountInString at h
 refine Goes.fnW Tryz.func229 rfl rfl (m:=10) rfl (rs:=[.tmp 2]) rfl (l:=(kV s_ [])) rfl ?_
 refine sh fol (kV s_ [(2,.i 0)]) ?_
 refine sq ?_
 refine sg fol ((2,.i 0)::(kAW [])) [.iter s_ 0] ?_
 refine Goes.block ?_
 obtain⟨r4,g4,h⟩:=bnd h
 refine Goes.imp (Q:=fun x s'=>(x= .exit 0∧ ∃n_3,n_3=r4∧Sub s' (ofG 10 [(2,.i n_3)],[]))) ?_ ?_
 ·refine Goes.sub (s':=(ofG 10 ((2,.i 0)::(kAW [])),[.iter s_ 0])) (Sub.keep [2,4] rfl rfl) ?_
  refine Goes.loopS (fun M s=> ∃(k1:Nat) (n_2:Int),s=(ofG 10 ((2,.i n_2)::(kAW [])),[.iter s_ k1])∧zi s_ M k1 n_2=some r4) ?_ (m:=N) ⟨_,_,rfl,g4⟩
  rintro M s ⟨k1,n_2,rfl,g4⟩
  cases M with
  |zero=>simp only[zi]at g4;cases g4
  |succ M=>
   rw[zi]at g4
   refine sq ?_
   rcases Classical.em (k1<s_.length)with c5|c5
   ·rw[if_pos c5]at g4
    refine gq fol [0] ((2,.i n_2)::(kAW [(6,.bool true)])) [.iter s_ (k1+runeLen s_ k1)] (ac (hs (.run [0] (qbm (.ptr 0 0) true) [.iter s_ k1] (.tuple [.bool true,.i (k1:Int),.int .i32 (jo s_ k1)]) [.iter s_ (k1+runeLen s_ k1)] true) (qfh rfl c5 rfl)) az) ?_
    refine sq ?_
    refine Goes.ifB (b:=true) (by kernel_rfl) (fun _=>?_) (fun c=>(by cases c))
    refine Goes.skip ?_
    refine Goes.block ?_
    refine gh fol ((2,.i (w64 (n_2+1)))::(kAW [])) ?_
    exact⟨M,(ofG 10 ((2,.i (w64 (n_2+1)))::(kAW [])),[.iter s_ (k1+runeLen s_ k1)]),Nat.lt_succ_self _,(Sub.keep [2,4] rfl rfl),_,_,rfl,g4⟩
   ·rw[if_neg c5]at g4
    refine gr fol [0] ((2,.i n_2)::(kAW [(6,.bool false)])) (ac (hs (.run [0] (qbm (.ptr 0 0) true) [.iter s_ k1] (.tuple [.bool false]) [.iter s_ k1] false) (qe8 rfl c5)) az) ?_
    refine sq ?_
    refine Goes.ifB (b:=false) (by kernel_rfl) (fun c=>(by cases c)) (fun _=>?_)
    refine Goes.exit ?_
    obtain rfl:=si g4
    exact⟨rfl,_,rfl,(Sub.norm [] [] rfl rfl (.keep (.same nI) .nil) .nil)⟩
 rintro x s' ⟨rfl,n_3,rfl,hsub⟩
 refine Goes.sub hsub ?_
 refine sh fol [(2,.i n_3)] ?_
 refine Goes.ret ?_
 obtain rfl:=si h
 exact(Goes.retW (xs:=[.i n_3]) (by kernel_rfl) (FzW.still tI))
def jW (n_5:Int):Nat→Option Unit
 |0=>none
 |K+1=>
  if 0<(w64 (n_5-1))then
  none
  else
  some ()
def xw (N:Nat) (s_:Str) (n:Int):Option (List Str):=
 (utf8_RuneCountInString N s_).bind fun r1=>
 (if n<0 then
 some true
 else
 some (decide (n>r1)):Option Bool).bind fun b3=>
 ((if b3=true then
 some r1
 else
 some n:Option Int)).bind fun n_5=>
 (mk 16 n_5 []).bind fun l8=>
 (jW n_5 N).bind fun _=>
 ((if n_5>0 then
 (idx l8 (w64 (n_5-1))).bind fun x14=>
 (put l8 (w64 (n_5-1)) s_).bind fun l15=>
 some l15
 else
 some l8:Option (List Str))).bind fun l11=>
 some l11
theorem qb6 (N:Nat) (s_:Str) (n:Int) {res:List Str} (h:xw N s_ n=some res):qf Tryz.prog (.fn 191) [.str s_,.i n] [] (vl encS res) []:=by
 unfold xw at h
 refine Goes.fnW Tryz.func191 rfl rfl (m:=50) rfl (rs:=[.tmp 4]) rfl (l:=(kV s_ [(1,.i n)])) rfl ?_
 refine sh fol (kV s_ [(1,.i n)]) ?_
 refine sq ?_
 obtain⟨r1,e_r1,h⟩:=bnd h
 refine gr fol [1] (kV s_ [(1,.i n),(5,.i r1)]) (ac (cv (vQ N s_ e_r1)) az) ?_
 refine sq ?_
 refine sq ?_
 obtain⟨b3,g_v4,h⟩:=bnd h
 refine Goes.cut (s':=(ofG 50 (kV s_ [(1,.i n),(5,.i r1),(18,.bool b3)]),[])) ?_ ?_
 ·rcases wyD g_v4 with⟨c2,g_v4⟩|⟨c2,g_v4⟩
  ·obtain rfl:=si g_v4
   exact tr fol [2] (kV s_ [(1,.i n),(5,.i r1),(18,.bool true)]) (ac (gw c2) az)
  ·obtain rfl:=si g_v4
   exact tr fol [2] (kV s_ [(1,.i n),(5,.i r1),(18,.bool (decide (n>r1)))]) (ac (gw c2) az)
 obtain⟨r6,g6,h⟩:=bnd h
 refine Goes.imp (Q:=fun x s'=>(x= .normal∧ ∃n_5,n_5=r6∧Sub s' (ofG 50 (kV s_ [(1,.i n_5)]),[]))) ?_ ?_
 ·refine ihB g6 (fun c7 g6=>?_) (fun c7 g6=>?_)
  ·refine gh fol (kV s_ [(1,.i r1)]) ?_
   obtain rfl:=si g6
   exact⟨rfl,_,rfl,(Sub.refl _)⟩
  ·refine Goes.skip ?_
   obtain rfl:=si g6
   exact⟨rfl,_,rfl,(Sub.keep [0,1] rfl rfl)⟩
 rintro x s' ⟨rfl,n_5,rfl,hsub⟩
 refine Goes.sub hsub ?_
 refine sq ?_
 obtain⟨l8,e_l8,h⟩:=bnd h
 refine gq fol [1] (kV s_ ((1,.i n_5)::(kAI l8 []))) (kE l8) (ac (hs (.run [] (yh Tryz.prog 23 (.i n_5) (.i n_5)) [] (.slice 0 0 l8.length l8.length 1) (kE l8) false) (qjf jQ (E:=encS) (z:=[]) rfl (by kernel_rfl) e_l8 rfl)) az) ?_
 refine sq ?_
 refine sh fol (kV s_ ((1,.i n_5)::(kAI l8 [(7,.i 0)]))) ?_
 refine Goes.block ?_
 obtain⟨r9,g9,h⟩:=bnd h
 refine Goes.imp (Q:=fun x s'=>(x= .exit 0∧()=r9∧Sub s' (ofG 50 (kV s_ ((1,.i n_5)::(kAI l8 []))),(kE l8)))) ?_ ?_
 ·refine Goes.loopS (fun M s=>s=(ofG 50 (kV s_ ((1,.i n_5)::(kAI l8 [(7,.i 0)]))),(kE l8))∧jW n_5 M=some r9) ?_ (m:=N) ⟨rfl,g9⟩
  rintro M s ⟨rfl,g9⟩
  cases M with
  |zero=>simp only[jW]at g9;cases g9
  |succ M=>
   rw[jW]at g9
   refine sq ?_
   refine sh fol (kV s_ ((1,.i n_5)::(kAI l8 [(7,.i 0),(25,.bool (decide (0<(w64 (n_5-1)))))]))) ?_
   refine ihD g9 (fun c10 g9=>?_) (fun c10 g9=>?_)
   ·cases g9
   ·refine Goes.exit ?_
    obtain rfl:=si g9
    exact⟨rfl,rfl,(Sub.keep [0,1,6] rfl rfl)⟩
 rintro x s' ⟨rfl,rfl,hsub⟩
 refine Goes.sub hsub ?_
 refine sq ?_
 refine sh fol (kV s_ ((1,.i n_5)::(kAI l8 [(43,.bool (decide (n_5>0)))]))) ?_
 obtain⟨r12,g12,h⟩:=bnd h
 refine Goes.imp (Q:=fun x s'=>(x= .normal∧ ∃l11,l11=r12∧Sub s' (ofG 50 (kAI l11 []),(kE l11)))) ?_ ?_
 ·refine ihD g12 (fun c13 g12=>?_) (fun c13 g12=>?_)
  ·obtain⟨x14,e_x14,g12⟩:=bnd g12
   obtain⟨l15,e_l15,g12⟩:=bnd g12
   refine gq fol [4,5] (kAI l8 []) (kE l15) (ac (hs (.done (.opt (jb Tryz.prog 23 (.slice 0 0 l8.length l8.length 1) (.i (w64 (n_5-1))))) (.ptr 0 ((w64 (n_5-1):Int).toNat*1+0))) (qjm jQ e_x14)) (ac (hs (.run [0] (qbu Tryz.prog 9 (.ptr 0 ((w64 (n_5-1):Int).toNat*1+0)) (.str s_)) (kE l8) .undef (kE l15) true) (qjp (E:=encS) (l:=l8) (y:=s_) rfl (show _=some 1 by kernel_rfl) rfl e_x14 rfl rfl rfl rfl rfl e_l15 rfl)) az)) ?_
   obtain rfl:=si g12
   exact⟨rfl,_,rfl,((show Sub (ofG 50 (kAI l8 []),(kE l15)) (ofG 50 (kAI l15 []),(kE l15))from(Sub.norm [] [some 0] rfl rfl (.keep (.sliceE rfl (qfw e_l15)) .nil) (.ks .nil))).trans (Sub.refl _))⟩
  ·refine Goes.skip ?_
   obtain rfl:=si g12
   exact⟨rfl,_,rfl,(Sub.keep [6] rfl rfl)⟩
 rintro x s' ⟨rfl,l11,rfl,hsub⟩
 refine Goes.sub hsub ?_
 refine sh fol [(4,.slice 0 0 l11.length l11.length 1)] ?_
 refine Goes.ret ?_
 obtain rfl:=si h
 exact(Goes.retW (xs:=[.slice 0 0 l11.length l11.length 1]) (by kernel_rfl) (FzW.fz (Fz.sl (E:=encS) rfl rfl (nl rfl))))
def jM (substr:Str):Nat→Str→Int→Option Int
 |0,_,_=>none
 |K+1,s_6,n_7=>
  (strings_Index s_6 substr).bind fun r10=>
  if r10=(-1)then
  some n_7
  else
  (cut s_6 (w64 (r10+(substr.length:Int))) (s_6.length:Int)).bind fun s12=>
  jM substr K s12 (w64 (n_7+1))
def strings_Count (N:Nat) (s_:Str) (substr:Str):Option Int:=
 if(substr.length:Int)=0 then
 (utf8_RuneCountInString N s_).bind fun r2=>
 some (w64 (r2+1))
 else
 if(substr.length:Int)=1 then
 (idx substr 0).bind fun c4=>
 (qfA s_ (c4.toNat:Int)).bind fun r5=>
 some r5
 else
 (jM substr N s_ 0).bind fun q13=>
 some q13
theorem qcU (N:Nat) (s_:Str) (substr:Str) {res:Int} (h:strings_Count N s_ substr=some res):qf Tryz.prog (.fn 192) [.str s_,.str substr] [] (.i res) []:=by
 unfold strings_Count at h
 refine Goes.fnW Tryz.func192 rfl rfl (m:=34) rfl (rs:=[.tmp 4]) rfl (l:=(kJ s_ substr [])) rfl ?_
 refine sh fol (kJ s_ substr []) ?_
 refine sq ?_
 refine sh fol (kJ s_ substr [(9,.bool (decide ((substr.length:Int)=0)))]) ?_
 refine ihD h (fun c1 h=>?_) (fun c1 h=>?_)
 ·refine sq ?_
  obtain⟨r2,e_r2,h⟩:=bnd h
  refine gr fol [1] [(4,.i (w64 (r2+1)))] (ac (cv (vQ N s_ e_r2)) az) ?_
  refine Goes.ret ?_
  obtain rfl:=si h
  exact(Goes.retW (xs:=[.i (w64 (r2+1))]) (by kernel_rfl) (FzW.still tI))
 ·refine Goes.skip ?_
  refine sq ?_
  refine sh fol (kJ s_ substr [(15,.bool (decide ((substr.length:Int)=1)))]) ?_
  refine ihD h (fun c3 h=>?_) (fun c3 h=>?_)
  ·refine sq ?_
   obtain⟨c4,e_c4,h⟩:=bnd h
   obtain⟨r5,e_r5,h⟩:=bnd h
   refine gr fol [2,3] [(4,.i r5)] (ac (hs (.done (.opt (zS Tryz.prog 9 (.str substr) (.i 0))) (.int .u8 (c4.toNat:Int))) (jP st9 e_c4)) (ac (cv (qiy s_ (c4.toNat:Int) e_r5)) az)) ?_
   refine Goes.ret ?_
   obtain rfl:=si h
   exact(Goes.retW (xs:=[.i r5]) (by kernel_rfl) (FzW.still tI))
  ·refine Goes.skip ?_
   refine sh fol (kJ s_ substr [(5,.i 0)]) ?_
   refine Goes.block ?_
   obtain⟨r8,g8,h⟩:=bnd h
   refine Goes.imp (Q:=fun x s'=>(x= .ret∧ ∃q9,q9=r8∧ku Tryz.prog [.tmp 4] (.i q9) .ret s')) ?_ ?_
   ·refine Goes.loopS (fun M s=> ∃(s_6:Str) (n_7:Int),s=(ofG 34 (kJ s_6 substr [(5,.i n_7)]),[])∧jM substr M s_6 n_7=some r8) ?_ (m:=N) ⟨_,_,rfl,g8⟩
    rintro M s ⟨s_6,n_7,rfl,g8⟩
    cases M with
    |zero=>simp only[jM]at g8;cases g8
    |succ M=>
     rw[jM]at g8
     refine Goes.block ?_
     refine sq ?_
     obtain⟨r10,e_r10,g8⟩:=bnd g8
     refine gr fol [2] (kJ s_6 substr [(5,.i n_7),(6,.i r10)]) (ac (cv (qaE s_6 substr e_r10)) az) ?_
     refine sq ?_
     refine sh fol (kJ s_6 substr [(5,.i n_7),(6,.i r10),(24,.bool (decide (r10=(-1))))]) ?_
     refine ihD g8 (fun c11 g8=>?_) (fun c11 g8=>?_)
     ·refine sh fol [(4,.i n_7)] ?_
      refine Goes.ret ?_
      obtain rfl:=si g8
      exact⟨rfl,_,rfl,(Goes.retW (xs:=[.i n_7]) (by kernel_rfl) (FzW.still tI))⟩
     ·refine Goes.skip ?_
      refine sh fol (kJ s_6 substr [(5,.i (w64 (n_7+1))),(6,.i r10)]) ?_
      obtain⟨s12,e_s12,g8⟩:=bnd g8
      refine gr fol [5] (kJ s12 substr [(5,.i (w64 (n_7+1)))]) (ac (hs (.done (.opt (qN Tryz.prog 9 (.str s_6) (some (.i (w64 (r10+(substr.length:Int))))) none none)) (.str s12)) (jA st9 (some (w64 (r10+(substr.length:Int)))) none e_s12)) az) ?_
      exact⟨M,(ofG 34 (kJ s12 substr [(5,.i (w64 (n_7+1)))]),[]),Nat.lt_succ_self _,(Sub.refl _),_,_,rfl,g8⟩
   rintro x s' ⟨rfl,q13,rfl,hret⟩
   obtain rfl:=si h
   exact hret
def qZ (s_:Str) (sep:Str) (sepSave:Int) (n_4:Int):Nat→(List Str)→Str→Int→Option ((List Str)×Str×Int)
 |0,_,_,_=>none
 |K+1,l9,s_10,i_11=>
  if i_11<(w64 ((if(w64 ((s_.length:Int)+1))<n_4 then(w64 ((s_.length:Int)+1))else n_4)-1))then
  (strings_Index s_10 sep).bind fun r17=>
  if r17<0 then
  some (l9,s_10,i_11)
  else
  (cut s_10 0 (w64 (r17+sepSave))).bind fun s19=>
  (idx l9 i_11).bind fun x20=>
  (put l9 i_11 s19).bind fun l21=>
  (cut s_10 (w64 (r17+(sep.length:Int))) (s_10.length:Int)).bind fun s22=>
  qZ s_ sep sepSave n_4 K l21 s22 (w64 (i_11+1))
  else
  some (l9,s_10,i_11)
def strings_genSplit (N:Nat) (s_:Str) (sep:Str) (sepSave:Int) (n:Int):Option (List Str):=
 if n=0 then
 some []
 else
 if(sep==[])=true then
 (xw N s_ n).bind fun r3=>
 some r3
 else
 ((if n<0 then
 (strings_Count N s_ sep).bind fun r7=>
 some (w64 (r7+1))
 else
 some n:Option Int)).bind fun n_4=>
 (mk 16 (if(w64 ((s_.length:Int)+1))<n_4 then(w64 ((s_.length:Int)+1))else n_4) []).bind fun l8=>
 (qZ s_ sep sepSave n_4 N l8 s_ 0).bind fun(l12,s_13,i_14)=>
 (idx l12 i_14).bind fun x23=>
 (put l12 i_14 s_13).bind fun l24=>
 (cut l24 0 (w64 (i_14+1))).bind fun s25=>
 some s25
theorem qbI (N:Nat) (s_:Str) (sep:Str) (sepSave:Int) (n:Int) {res:List Str} (h:strings_genSplit N s_ sep sepSave n=some res):qf Tryz.prog (.fn 157) [.str s_,.str sep,.i sepSave,.i n] [] (vl encS res) []:=by
 unfold strings_genSplit at h
 refine Goes.fnW Tryz.func157 rfl rfl (m:=66) rfl (rs:=[.tmp 8]) rfl (l:=(kJ s_ sep [(2,.i sepSave),(3,.i n)])) rfl ?_
 refine sh fol (kJ s_ sep [(2,.i sepSave),(3,.i n)]) ?_
 refine sq ?_
 refine sh fol (kJ s_ sep [(2,.i sepSave),(3,.i n),(13,.bool (decide (n=0)))]) ?_
 refine ihD h (fun c1 h=>?_) (fun c1 h=>?_)
 ·refine sh fol [(8,.nilslice)] ?_
  refine Goes.ret ?_
  obtain rfl:=si h
  exact(Goes.retW (xs:=[.nilslice]) (by kernel_rfl) (FzW.nilv (E:=encS)))
 ·refine Goes.skip ?_
  refine sq ?_
  refine sh fol (kJ s_ sep [(2,.i sepSave),(3,.i n),(15,.bool (sep==[]))]) ?_
  refine ihB h (fun c2 h=>?_) (fun c2 h=>?_)
  ·refine sq ?_
   obtain⟨r3,e_r3,h⟩:=bnd h
   refine gr fol [2] [(8,vl encS r3)] (ac (cv (qb6 N s_ n e_r3)) az) ?_
   refine Goes.ret ?_
   obtain rfl:=si h
   exact(Goes.retW (xs:=[vl encS r3]) (by kernel_rfl) (FzW.still (qV encS _ (nl rfl))))
  ·refine Goes.skip ?_
   refine sq ?_
   refine sh fol (kJ s_ sep [(2,.i sepSave),(3,.i n),(20,.bool (decide (n<0)))]) ?_
   obtain⟨r5,g5,h⟩:=bnd h
   refine Goes.imp (Q:=fun x s'=>(x= .normal∧ ∃n_4,n_4=r5∧Sub s' (ofG 66 (kJ s_ sep [(2,.i sepSave),(3,.i n_4)]),[]))) ?_ ?_
   ·refine ihD g5 (fun c6 g5=>?_) (fun c6 g5=>?_)
    ·obtain⟨r7,e_r7,g5⟩:=bnd g5
     refine gr fol [2] (kJ s_ sep [(2,.i sepSave),(3,.i (w64 (r7+1)))]) (ac (cv (qcU N s_ sep e_r7)) az) ?_
     obtain rfl:=si g5
     exact⟨rfl,_,rfl,(Sub.refl _)⟩
    ·refine Goes.skip ?_
     obtain rfl:=si g5
     exact⟨rfl,_,rfl,(Sub.keep [0,1,2,3] rfl rfl)⟩
   rintro x s' ⟨rfl,n_4,rfl,hsub⟩
   refine Goes.sub hsub ?_
   refine sh fol (kJ s_ sep [(2,.i sepSave),(3,.i (if(w64 ((s_.length:Int)+1))<n_4 then(w64 ((s_.length:Int)+1))else n_4))]) ?_
   refine sq ?_
   obtain⟨l8,e_l8,h⟩:=bnd h
   refine gq fol [1] (kG s_ sep sepSave (if(w64 ((s_.length:Int)+1))<n_4 then(w64 ((s_.length:Int)+1))else n_4) l8 []) (kE l8) (ac (hs (.run [] (yh Tryz.prog 23 (.i (if(w64 ((s_.length:Int)+1))<n_4 then(w64 ((s_.length:Int)+1))else n_4)) (.i (if(w64 ((s_.length:Int)+1))<n_4 then(w64 ((s_.length:Int)+1))else n_4))) [] (.slice 0 0 l8.length l8.length 1) (kE l8) false) (qjf jQ (E:=encS) (z:=[]) rfl (by kernel_rfl) e_l8 rfl)) az) ?_
   refine sh fol (kG s_ sep sepSave (w64 ((if(w64 ((s_.length:Int)+1))<n_4 then(w64 ((s_.length:Int)+1))else n_4)-1)) l8 []) ?_
   refine sh fol (kG s_ sep sepSave (w64 ((if(w64 ((s_.length:Int)+1))<n_4 then(w64 ((s_.length:Int)+1))else n_4)-1)) l8 [(10,.i 0)]) ?_
   refine sq (Goes.block ?_)
   obtain⟨r15,g15,h⟩:=bnd h
   refine Goes.imp (Q:=fun x s'=>(x= .exit 0∧ ∃l12 s_13 i_14,(l12,s_13,i_14)=r15∧Sub s' (ofG 66 (kV s_13 [(9,.slice 0 0 l12.length l12.length 1),(10,.i i_14)]),(kE l12)))) ?_ ?_
   ·refine Goes.loopS (fun M s=> ∃(l9:List Str) (s_10:Str) (i_11:Int),s=(ofG 66 (kG s_10 sep sepSave (w64 ((if(w64 ((s_.length:Int)+1))<n_4 then(w64 ((s_.length:Int)+1))else n_4)-1)) l9 [(10,.i i_11)]),(kE l9))∧qZ s_ sep sepSave n_4 M l9 s_10 i_11=some r15) ?_ (m:=N) ⟨_,_,_,rfl,g15⟩
    rintro M s ⟨l9,s_10,i_11,rfl,g15⟩
    cases M with
    |zero=>simp only[qZ]at g15;cases g15
    |succ M=>
     rw[qZ]at g15
     refine sq ?_
     refine sh fol (kG s_10 sep sepSave (w64 ((if(w64 ((s_.length:Int)+1))<n_4 then(w64 ((s_.length:Int)+1))else n_4)-1)) l9 [(10,.i i_11),(36,.bool (decide (i_11<(w64 ((if(w64 ((s_.length:Int)+1))<n_4 then(w64 ((s_.length:Int)+1))else n_4)-1)))))]) ?_
     refine ihD g15 (fun c16 g15=>?_) (fun c16 g15=>?_)
     ·refine Goes.skip ?_
      refine Goes.block ?_
      refine sq ?_
      obtain⟨r17,e_r17,g15⟩:=bnd g15
      refine gr fol [2] (kG s_10 sep sepSave (w64 ((if(w64 ((s_.length:Int)+1))<n_4 then(w64 ((s_.length:Int)+1))else n_4)-1)) l9 (kAk i_11 r17)) (ac (cv (qaE s_10 sep e_r17)) az) ?_
      refine sq ?_
      refine sh fol (kG s_10 sep sepSave (w64 ((if(w64 ((s_.length:Int)+1))<n_4 then(w64 ((s_.length:Int)+1))else n_4)-1)) l9 [(10,.i i_11),(11,.i r17),(41,.bool (decide (r17<0)))]) ?_
      refine ihD g15 (fun c18 g15=>?_) (fun c18 g15=>?_)
      ·refine Goes.exit ?_
       obtain rfl:=si g15
       exact⟨rfl,_,_,_,rfl,(Sub.keep [0,9,10] rfl rfl)⟩
      ·refine Goes.skip ?_
       refine sq ?_
       obtain⟨s19,e_s19,g15⟩:=bnd g15
       obtain⟨x20,e_x20,g15⟩:=bnd g15
       obtain⟨l21,e_l21,g15⟩:=bnd g15
       refine gq fol [6,7,8] (kG s_10 sep sepSave (w64 ((if(w64 ((s_.length:Int)+1))<n_4 then(w64 ((s_.length:Int)+1))else n_4)-1)) l9 (kAk i_11 r17)) (kE l21) (ac (hs (.done (.opt (qN Tryz.prog 9 (.str s_10) none (some (.i (w64 (r17+sepSave)))) none)) (.str s19)) (jA st9 none (some (w64 (r17+sepSave))) e_s19)) (ac (hs (.done (.opt (jb Tryz.prog 23 (.slice 0 0 l9.length l9.length 1) (.i i_11))) (.ptr 0 ((i_11:Int).toNat*1+0))) (qjm jQ e_x20)) (ac (hs (.run [0] (qbu Tryz.prog 9 (.ptr 0 ((i_11:Int).toNat*1+0)) (.str s19)) (kE l9) .undef (kE l21) true) (qjp (E:=encS) (l:=l9) (y:=s19) rfl (show _=some 1 by kernel_rfl) rfl e_x20 rfl rfl rfl rfl rfl e_l21 rfl)) az))) ?_
       refine Goes.sub (show Sub (ofG 66 (kG s_10 sep sepSave (w64 ((if(w64 ((s_.length:Int)+1))<n_4 then(w64 ((s_.length:Int)+1))else n_4)-1)) l9 (kAk i_11 r17)),(kE l21)) (ofG 66 (kG s_10 sep sepSave (w64 ((if(w64 ((s_.length:Int)+1))<n_4 then(w64 ((s_.length:Int)+1))else n_4)-1)) l21 (kAk i_11 r17)),(kE l21))from(Sub.norm [] [some 0] rfl rfl (.keep (.same nS) (.keep (.same nS) (.keep (.same nI) (.keep (.same nI) (.keep (.sliceE rfl (qfw e_l21)) (.keep (.same nI) (.keep (.same nI) .nil))))))) (.ks .nil))) ?_
       refine sq ?_
       obtain⟨s22,e_s22,g15⟩:=bnd g15
       refine gr fol [5] (kG s22 sep sepSave (w64 ((if(w64 ((s_.length:Int)+1))<n_4 then(w64 ((s_.length:Int)+1))else n_4)-1)) l21 [(10,.i i_11)]) (ac (hs (.done (.opt (qN Tryz.prog 9 (.str s_10) (some (.i (w64 (r17+(sep.length:Int))))) none none)) (.str s22)) (jA st9 (some (w64 (r17+(sep.length:Int)))) none e_s22)) az) ?_
       refine gh fol (kG s22 sep sepSave (w64 ((if(w64 ((s_.length:Int)+1))<n_4 then(w64 ((s_.length:Int)+1))else n_4)-1)) l21 [(10,.i (w64 (i_11+1)))]) ?_
       exact⟨M,(ofG 66 (kG s22 sep sepSave (w64 ((if(w64 ((s_.length:Int)+1))<n_4 then(w64 ((s_.length:Int)+1))else n_4)-1)) l21 [(10,.i (w64 (i_11+1)))]),(kE l21)),Nat.lt_succ_self _,(Sub.refl _),_,_,_,rfl,g15⟩
     ·refine Goes.exit ?_
      obtain rfl:=si g15
      exact⟨rfl,_,_,_,rfl,(Sub.keep [0,9,10] rfl rfl)⟩
   rintro x s' ⟨rfl,l12,s_13,i_14,rfl,hsub⟩
   try dsimp only at h
   refine Goes.sub hsub ?_
   refine sq ?_
   obtain⟨x23,e_x23,h⟩:=bnd h
   obtain⟨l24,e_l24,h⟩:=bnd h
   refine gq fol [3,4] [(9,.slice 0 0 l12.length l12.length 1),(10,.i i_14)] (kE l24) (ac (hs (.done (.opt (jb Tryz.prog 23 (.slice 0 0 l12.length l12.length 1) (.i i_14))) (.ptr 0 ((i_14:Int).toNat*1+0))) (qjm jQ e_x23)) (ac (hs (.run [0] (qbu Tryz.prog 9 (.ptr 0 ((i_14:Int).toNat*1+0)) (.str s_13)) (kE l12) .undef (kE l24) true) (qjp (E:=encS) (l:=l12) (y:=s_13) rfl (show _=some 1 by kernel_rfl) rfl e_x23 rfl rfl rfl rfl rfl e_l24 rfl)) az)) ?_
   refine Goes.sub (show Sub (ofG 66 [(9,.slice 0 0 l12.length l12.length 1),(10,.i i_14)],(kE l24)) (ofG 66 [(9,.slice 0 0 l24.length l24.length 1),(10,.i i_14)],(kE l24))from(Sub.norm [] [some 0] rfl rfl (.keep (.sliceE rfl (qfw e_l24)) (.keep (.same nI) .nil)) (.ks .nil))) ?_
   refine sq (Goes.sub (s':=(ofG 66 [(9,vl encS l24),(10,.i i_14)],[])) (Sub.norm [0] [] rfl rfl (.keep (.frz (Fz.sl (E:=encS) rfl rfl (nl rfl)) (ql encS _)) (.keep (.same nI) .nil)) .nil) ?_)
   obtain⟨s25,e_s25,h⟩:=bnd h
   refine gr fol [3] [(8,vl encS s25)] (ac (hs (.done (.opt (qN Tryz.prog 23 (vl encS l24) none (some (.i (w64 (i_14+1)))) none)) (vl encS s25)) (qhu jQ (E:=encS) rfl none (some (w64 (i_14+1))) e_s25)) az) ?_
   refine Goes.ret ?_
   obtain rfl:=si h
   exact(Goes.retW (xs:=[vl encS s25]) (by kernel_rfl) (FzW.still (qV encS _ (nl rfl))))
def strings_Split (N:Nat) (s_:Str) (sep:Str):Option (List Str):=
 (strings_genSplit N s_ sep 0 (-1)).bind fun r1=>
 some r1
theorem qcH (N:Nat) (s_:Str) (sep:Str) {res:List Str} (h:strings_Split N s_ sep=some res):qf Tryz.prog (.fn 107) [.str s_,.str sep] [] (vl encS res) []:=by
 unfold strings_Split at h
 refine Goes.fnW Tryz.func107 rfl rfl (m:=8) rfl (rs:=[.tmp 4]) rfl (l:=(kJ s_ sep [])) rfl ?_
 refine sh fol (kJ s_ sep []) ?_
 refine sq ?_
 obtain⟨r1,e_r1,h⟩:=bnd h
 refine gr fol [2] [(4,vl encS r1)] (ac (cv (qbI N s_ sep 0 (-1) e_r1)) az) ?_
 refine Goes.ret ?_
 obtain rfl:=si h
 exact(Goes.retW (xs:=[vl encS r1]) (by kernel_rfl) (FzW.still (qV encS _ (nl rfl))))
def qF (s_:List Str) (v:Str):Nat→Int→Option (Unit⊕Int)
 |0,_=>none
 |K+1,n1=>
  if n1<(s_.length:Int)then
  (idx s_ n1).bind fun x5=>
  if(v==x5)=true then
  some (.inr n1)
  else
  qF s_ v K (w64 (n1+1))
  else
  some (.inl ())
def slices_Index_string (N:Nat) (s_:List Str) (v:Str):Option Int:=
 (qF s_ v N 0).bind (fun
 |(.inl ())=>
 some (-1)
 |(.inr q7)=>
 some q7)
theorem qaP (N:Nat) (s_:List Str) (v:Str) {res:Int} (h:slices_Index_string N s_ v=some res):qf Tryz.prog (.fn 164) [vl encS s_,.str v] [] (.i res) []:=by
 unfold slices_Index_string at h
 refine Goes.fnW Tryz.func164 rfl rfl (m:=19) rfl (rs:=[.tmp 4]) rfl (l:=(kAZ s_ v [])) rfl ?_
 refine sh fol (kAZ s_ v []) ?_
 refine sq ?_
 refine sh fol (kAZ s_ v [(7,.i (s_.length:Int)),(8,.i 0)]) ?_
 refine Goes.block ?_
 obtain⟨r2,g2,h⟩:=bnd h
 refine Goes.imp (Q:=fun x s'=>(x= .exit 0∧(.inl ())=r2∧Sub s' (ofG 19 [],[]))∨(x= .ret∧ ∃q3,(.inr q3)=r2∧ku Tryz.prog [.tmp 4] (.i q3) .ret s')) ?_ ?_
 ·refine Goes.loopS (fun M s=> ∃(n1:Int),s=(ofG 19 (kAZ s_ v (kAY (s_.length:Int) n1)),[])∧qF s_ v M n1=some r2) ?_ (m:=N) ⟨_,rfl,g2⟩
  rintro M s ⟨n1,rfl,g2⟩
  cases M with
  |zero=>simp only[qF]at g2;cases g2
  |succ M=>
   rw[qF]at g2
   refine sh fol (kAZ s_ v [(7,.i (s_.length:Int)),(8,.i n1),(9,.bool (decide (n1<(s_.length:Int))))]) ?_
   refine sq ?_
   refine ihD g2 (fun c4 g2=>?_) (fun c4 g2=>?_)
   ·refine Goes.skip ?_
    refine sq (Goes.block ?_)
    refine sh fol (kAZ s_ v ((5,.i n1)::(kAY (s_.length:Int) n1))) ?_
    refine sq ?_
    obtain⟨x5,e_x5,g2⟩:=bnd g2
    refine gr fol [3,4] (kAZ s_ v [(5,.i n1),(7,.i (s_.length:Int)),(8,.i n1),(16,.bool (v==x5))]) (ac (iv jQ encS e_x5) (ac (lv 0 ce9 encS e_x5 rfl) az)) ?_
    refine ihB g2 (fun c6 g2=>?_) (fun c6 g2=>?_)
    ·refine sh fol [(4,.i n1)] ?_
     refine Goes.ret ?_
     obtain rfl:=si g2
     exact Or.inr (⟨rfl,_,rfl,(Goes.retW (xs:=[.i n1]) (by kernel_rfl) (FzW.still tI))⟩)
    ·refine Goes.skip ?_
     refine gh fol (kAZ s_ v (kAY (s_.length:Int) (w64 (n1+1)))) ?_
     exact⟨M,(ofG 19 (kAZ s_ v (kAY (s_.length:Int) (w64 (n1+1)))),[]),Nat.lt_succ_self _,(Sub.refl _),_,rfl,g2⟩
   ·refine Goes.exit ?_
    obtain rfl:=si g2
    exact Or.inl (⟨rfl,rfl,(Sub.keep [] rfl rfl)⟩)
 rintro x s' (⟨rfl,rfl,hsub⟩|⟨rfl,q7,rfl,hret⟩)
 ·try dsimp only at h
  refine Goes.sub hsub ?_
  refine sh fol [(4,.i (-1))] ?_
  refine Goes.ret ?_
  obtain rfl:=si h
  exact(Goes.retW (xs:=[.i (-1)]) (by kernel_rfl) (FzW.still tI))
 ·try dsimp only at h
  obtain rfl:=si h
  exact hret
def slices_Contains_string (N:Nat) (s_:List Str) (v:Str):Option Bool:=
 (slices_Index_string N s_ v).bind fun r1=>
 some (decide (r1≥0))
theorem xY (N:Nat) (s_:List Str) (v:Str) {res:Bool} (h:slices_Contains_string N s_ v=some res):qf Tryz.prog (.fn 112) [vl encS s_,.str v] [] (.bool res) []:=by
 unfold slices_Contains_string at h
 refine Goes.fnW Tryz.func112 rfl rfl (m:=9) rfl (rs:=[.tmp 4]) rfl (l:=(kAZ s_ v [])) rfl ?_
 refine sh fol (kAZ s_ v []) ?_
 refine sq ?_
 obtain⟨r1,e_r1,h⟩:=bnd h
 refine gr fol [2] [(4,.bool (decide (r1≥0)))] (ac (cv (qaP N s_ v e_r1)) az) ?_
 refine Goes.ret ?_
 obtain rfl:=si h
 exact(Goes.retW (xs:=[.bool (decide (r1≥0))]) (by kernel_rfl) (FzW.still tB))
def jw:Option (List Str):=
 qhY (some []) ((app 16 ([]:List Str) ([]:List Str)).bind fun l1=>
 some l1)
theorem qar {res:List Str} (h:jw=some res):qf Tryz.prog (.fn 165) [vl encS ([]:List Str)] [] (vl encS res) []:=by
 unfold jw at h
 refine Goes.fnW Tryz.func165 rfl rfl (m:=8) rfl (rs:=[.tmp 2]) rfl (l:=[(0,vl encS ([]:List Str))]) rfl ?_
 refine sh fol [(0,vl encS ([]:List Str))] ?_
 refine sq ?_
 refine sh fol [(0,vl encS ([]:List Str)),(4,.anyb)] ?_
 refine Goes.condAny (by kernel_rfl) ?_ ?_
 ·replace h:=(qep h).1
  refine sh fol [(2,.nilslice)] ?_
  refine Goes.ret ?_
  obtain rfl:=si h
  exact(Goes.retW (xs:=[.nilslice]) (by kernel_rfl) (FzW.nilv (E:=encS)))
 ·replace h:=(qep h).2
  refine Goes.skip ?_
  refine sq ?_
  obtain⟨l1,e_l1,h⟩:=bnd h
  refine gq fol [2] [(2,.oslice 1 l1.length 1)] (.dead::(kE l1)) (ac (hs (.run [0] (zy Tryz.prog [23,23] (.slice 0 0 0 0 1) (vl encS ([]:List Str))) [.cells []] (.oslice 1 l1.length 1) (.dead::(kE l1)) true) (vH jQ (E:=encS) rfl (qhJ (E:=encS) rfl _) (qj0 (E:=encS) rfl rfl rfl e_l1 rfl))) az) ?_
  refine Goes.ret ?_
  obtain rfl:=si h
  exact(Goes.retW (xs:=[.oslice 1 l1.length 1]) (by kernel_rfl) (FzW.fz (Fz.os (E:=encS) rfl rfl (nl rfl))))
def zH (x:Str) (xs:List Str):Option (List Str):=
 (app 16 ([]:List Str) (x::xs)).bind fun l1=>
 some l1
theorem qas (x:Str) (xs:List Str) {res:List Str} (h:zH x xs=some res):qf Tryz.prog (.fn 165) [vl encS (x::xs)] [] (vl encS res) []:=by
 unfold zH at h
 refine Goes.fnW Tryz.func165 rfl rfl (m:=8) rfl (rs:=[.tmp 2]) rfl (l:=[(0,vl encS (x::xs))]) rfl ?_
 refine sh fol [(0,vl encS (x::xs))] ?_
 refine sq ?_
 refine sh fol ((0,vl encS (x::xs))::kAG) ?_
 refine Goes.ifB (b:=false) (by kernel_rfl) (fun c=>(by cases c)) (fun _=>?_)
 refine Goes.skip ?_
 refine sq ?_
 obtain⟨l1,e_l1,h⟩:=bnd h
 refine gq fol [2] [(2,.oslice 1 l1.length 1)] (.dead::(kE l1)) (ac (hs (.run [0] (zy Tryz.prog [23,23] (.slice 0 0 0 0 1) (vl encS (x::xs))) [.cells []] (.oslice 1 l1.length 1) (.dead::(kE l1)) true) (vH jQ (E:=encS) rfl (qhJ (E:=encS) rfl _) (qj0 (E:=encS) rfl rfl rfl e_l1 rfl))) az) ?_
 refine Goes.ret ?_
 obtain rfl:=si h
 exact(Goes.retW (xs:=[.oslice 1 l1.length 1]) (by kernel_rfl) (FzW.fz (Fz.os (E:=encS) rfl rfl (nl rfl))))
def slices_Clone_string:List Str→Option (List Str)
 |[]=>jw
 |x::xs=>zH x xs
theorem qaW (l:List Str) {res:List Str} (h:slices_Clone_string l=some res):qf Tryz.prog (.fn 165) [vl encS l] [] (vl encS res) []:=by
 cases l with
 |nil=>exact qar h
 |cons x xs=>exact qas x xs h
def jO (s_:Str):Option (Int×Bool):=
 (if(s_.length:Int)>9 then
 some true
 else
 (jC s_).bind fun r2=>
 if(!r2)=true then
 some true
 else
 (idx s_ 0).bind fun c4=>
 if(c4.toNat:Int)=48 then
 some (!(s_==[48]))
 else
 some false:Option Bool).bind fun b6=>
 if b6=true then
 some (0,false)
 else
 (qgn s_).bind fun r9=>
 some (r9.1,true)
theorem xZ (s_:Str) {res:Int×Bool} (h:jO s_=some res):qf Tryz.prog (.fn 172) [.str s_] [] (.tuple [.i res.1,.bool res.2]) []:=by
 unfold jO at h
 refine Goes.fnW Tryz.func172 rfl rfl (m:=31) rfl (rs:=[.tmp 2,.tmp 3]) rfl (l:=(kV s_ [])) rfl ?_
 refine sh fol (kV s_ []) ?_
 refine sq ?_
 refine sq ?_
 obtain⟨b6,g_v7,h⟩:=bnd h
 refine Goes.cut (s':=(ofG 31 (kV s_ [(22,.bool b6)]),[])) ?_ ?_
 ·rcases wyD g_v7 with⟨c1,g_v7⟩|⟨c1,g_v7⟩
  ·obtain rfl:=si g_v7
   exact tr fol [3] (kV s_ [(22,.bool true)]) (ac (gw c1) az)
  ·obtain⟨r2,e_r2,g_v7⟩:=bnd g_v7
   rcases wyB g_v7 with⟨c3,g_v7⟩|⟨c3,g_v7⟩
   ·obtain rfl:=si g_v7
    exact tr fol [3,5,8] (kV s_ [(22,.bool true)]) (ac (gw c1) (ac (cv (j4 s_ e_r2)) (ac (gw c3) az)))
   ·obtain⟨c4,e_c4,g_v7⟩:=bnd g_v7
    rcases wyD g_v7 with⟨c5,g_v7⟩|⟨c5,g_v7⟩
    ·obtain rfl:=si g_v7
     exact tr fol [3,5,8,10,12] (kV s_ [(22,.bool (!(s_==[48])))]) (ac (gw c1) (ac (cv (j4 s_ e_r2)) (ac (gw c3) (ac (hs (.done (.opt (zS Tryz.prog 9 (.str s_) (.i 0))) (.int .u8 (c4.toNat:Int))) (jP st9 e_c4)) (ac (gw c5) az)))))
    ·obtain rfl:=si g_v7
     exact tr fol [3,5,8,10,12] (kV s_ [(22,.bool false)]) (ac (gw c1) (ac (cv (j4 s_ e_r2)) (ac (gw c3) (ac (hs (.done (.opt (zS Tryz.prog 9 (.str s_) (.i 0))) (.int .u8 (c4.toNat:Int))) (jP st9 e_c4)) (ac (gw c5) az)))))
 refine ihB h (fun c8 h=>?_) (fun c8 h=>?_)
 ·refine sh fol ((2,.i 0)::kAb) ?_
  refine Goes.ret ?_
  obtain rfl:=si h
  exact(Goes.retW (xs:=(.i 0::kAg)) (by kernel_rfl) (FzW.tuple (qg.cons (FzW.still tI) (qg.cons (FzW.still tB) qg.nil))))
 ·refine Goes.skip ?_
  refine sq ?_
  obtain⟨r9,e_r9,h⟩:=bnd h
  refine gr fol [1] [(4,.i r9.1),(5,.niliface)] (ac (cv (qj1 s_ e_r9)) az) ?_
  refine sh fol [(2,.i r9.1),(3,.bool true)] ?_
  refine Goes.ret ?_
  obtain rfl:=si h
  exact(Goes.retW (xs:=(.i r9.1::kAS)) (by kernel_rfl) (FzW.tuple (qg.cons (FzW.still tI) (qg.cons (FzW.still tB) qg.nil))))
def ze (s23:List Str):Nat→(List Int)→Int→Option ((List Int)⊕(qb×Bool))
 |0,_,_=>none
 |K+1,l24,n25=>
  if n25<(s23.length:Int)then
  (idx s23 n25).bind fun x30=>
  (jO x30).bind fun r31=>
  if(!r31.2)=true then
  some (.inr ((⟨0,[],[],[],[]⟩:qb),false))
  else
  (app 8 l24 [r31.1]).bind fun l33=>
  ze s23 K l33 (w64 (n25+1))
  else
  some (.inl l24)
def vv (N:Nat) (s_:Str):Option (qb×Bool):=
 (strings_Split N s_ [32]).bind fun r1=>
 ((jU).bind fun r2=>
 (idx r1 0).bind fun x3=>
 if(x3==[109,97,107,101])=true then
 some (2,3,true)
 else
 if(x3==[116,101,115,116])=true then
 some (1,2,true)
 else
 if(x3==[117,115,101])=true then
 some (1,2,true)
 else
 if(x3==[102,97,105,108])=true then
 some (1,1,true)
 else
 if(x3==[114,101,99,97,108,108])=true then
 some (1,1,true)
 else
 if(x3==[117,110,100,111])=true then
 some (0,0,true)
 else
 some (0,0,false):Option (Int×Int×Bool)).bind fun(n10,n11,is_12)=>
 (if(!is_12)=true then
 some true
 else
 if(!decide ((r1.length:Int)=(w64 ((w64 (1+n10))+n11))))=true then
 some true
 else
 (slices_Contains_string N r1 []).bind fun r16=>
 some r16:Option Bool).bind fun b17=>
 if b17=true then
 some ((⟨0,[],[],[],[]⟩:qb),false)
 else
 (idx r1 0).bind fun x20=>
 (cut r1 1 (w64 (1+n10))).bind fun s21=>
 (slices_Clone_string s21).bind fun r22=>
 (cut r1 (w64 (1+n10)) (r1.length:Int)).bind fun s23=>
 (ze s23 N ([]:List Int) 0).bind (fun
 |(.inl l26)=>
 some ((⟨0,x20,r22,l26,[]⟩:qb),true)
 |(.inr q34)=>
 some q34)
theorem qb9 (N:Nat) (s_:Str) {res:qb×Bool} (h:vv N s_=some res):qf Tryz.prog (.fn 127) [.str s_] [] (.tuple [.agg (cE res.1),.bool res.2]) []:=by
 unfold vv at h
 refine Goes.fnW Tryz.func127 rfl rfl (m:=76) rfl (rs:=[.cell 2 26,.tmp 3]) rfl (l:=(kV s_ [])) rfl ?_
 refine sg fol (kV s_ (kF [])) (kA []) ?_
 refine sq ?_
 obtain⟨r1,e_r1,h⟩:=bnd h
 refine gr fol [1] (kF [(4,vl encS r1)]) (ac (cv (qcH N s_ [32] e_r1)) az) ?_
 refine sq ?_
 obtain⟨⟨n10,n11,is_12⟩,g_v13,h⟩:=bnd h
 refine Goes.cutS (s':=(ofG 76 (kF (kAJ r1 [(6,.bool is_12)])),(kA [.cells [.i n10,.i n11,.undef]]))) ?_ ?_
 ·obtain⟨r2,e_r2,g_v13⟩:=bnd g_v13
  obtain⟨x3,e_x3,g_v13⟩:=bnd g_v13
  rcases wyB g_v13 with⟨c4,g_v13⟩|⟨c4,g_v13⟩
  ·simp only[Option.some.injEq,Prod.mk.injEq]at g_v13
   obtain⟨rfl,rfl,rfl⟩:=g_v13
   exact qm.sub (qm.rq fol [0,2,3,4] (kF (kAJ r1 [(6,.bool true)])) (kA [.cells [.i 2,.i 3,.func (.func 141) [] []]]) (ac (cv (qA e_r2)) (ac (iv jQ encS e_x3) (ac (lv 0 ce9 encS e_x3 rfl) (ac (hs (.done (zN Tryz.prog 154 (fm1) (.str x3) true) (.tuple (.agg [.i 2,.i 3,.func (.func 141) [] []]::kAS))) (xn qaj [[109,97,107,101],[116,101,115,116],[117,115,101],[102,97,105,108],[114,101,99,97,108,108],[117,110,100,111]] (jB c4) rfl)) az))))) (Sub.norm [] [some 0,some 1] rfl rfl (.kp (.keep (.same (ql encS _)) (.kp (.keep (.same nB) .nil)))) (.kb rfl (.same (qd.cons nI (qd.cons nS (qd.cons (qj.nilslice) (qd.cons (qj.nilslice) (qd.cons nS qd.nil)))))) (.kb rfl (.cells (rc (.same nI) (rc (.same nI) (rc (.undef) rn)))) .nil)))
  ·rcases wyB g_v13 with⟨c5,g_v13⟩|⟨c5,g_v13⟩
   ·simp only[Option.some.injEq,Prod.mk.injEq]at g_v13
    obtain⟨rfl,rfl,rfl⟩:=g_v13
    exact qm.sub (qm.rq fol [0,2,3,4] (kF (kAJ r1 [(6,.bool true)])) (kA [.cells [.i 1,.i 2,.func (.func 142) [] []]]) (ac (cv (qA e_r2)) (ac (iv jQ encS e_x3) (ac (lv 0 ce9 encS e_x3 rfl) (ac (hs (.done (zN Tryz.prog 154 (fm1) (.str x3) true) (.tuple (.agg [.i 1,.i 2,.func (.func 142) [] []]::kAS))) (xn qaj [[109,97,107,101],[116,101,115,116],[117,115,101],[102,97,105,108],[114,101,99,97,108,108],[117,110,100,111]] (qh c4 (jB c5)) rfl)) az))))) (Sub.norm [] [some 0,some 1] rfl rfl (.kp (.keep (.same (ql encS _)) (.kp (.keep (.same nB) .nil)))) (.kb rfl (.same (qd.cons nI (qd.cons nS (qd.cons (qj.nilslice) (qd.cons (qj.nilslice) (qd.cons nS qd.nil)))))) (.kb rfl (.cells (rc (.same nI) (rc (.same nI) (rc (.undef) rn)))) .nil)))
   ·rcases wyB g_v13 with⟨c6,g_v13⟩|⟨c6,g_v13⟩
    ·simp only[Option.some.injEq,Prod.mk.injEq]at g_v13
     obtain⟨rfl,rfl,rfl⟩:=g_v13
     exact qm.sub (qm.rq fol [0,2,3,4] (kF (kAJ r1 [(6,.bool true)])) (kA [.cells [.i 1,.i 2,.func (.func 143) [] []]]) (ac (cv (qA e_r2)) (ac (iv jQ encS e_x3) (ac (lv 0 ce9 encS e_x3 rfl) (ac (hs (.done (zN Tryz.prog 154 (fm1) (.str x3) true) (.tuple (.agg [.i 1,.i 2,.func (.func 143) [] []]::kAS))) (xn qaj [[109,97,107,101],[116,101,115,116],[117,115,101],[102,97,105,108],[114,101,99,97,108,108],[117,110,100,111]] (qh c4 (qh c5 (jB c6))) rfl)) az))))) (Sub.norm [] [some 0,some 1] rfl rfl (.kp (.keep (.same (ql encS _)) (.kp (.keep (.same nB) .nil)))) (.kb rfl (.same (qd.cons nI (qd.cons nS (qd.cons (qj.nilslice) (qd.cons (qj.nilslice) (qd.cons nS qd.nil)))))) (.kb rfl (.cells (rc (.same nI) (rc (.same nI) (rc (.undef) rn)))) .nil)))
    ·rcases wyB g_v13 with⟨c7,g_v13⟩|⟨c7,g_v13⟩
     ·simp only[Option.some.injEq,Prod.mk.injEq]at g_v13
      obtain⟨rfl,rfl,rfl⟩:=g_v13
      exact qm.sub (qm.rq fol [0,2,3,4] (kF (kAJ r1 [(6,.bool true)])) (kA [.cells [.i 1,.i 1,.func (.func 144) [] []]]) (ac (cv (qA e_r2)) (ac (iv jQ encS e_x3) (ac (lv 0 ce9 encS e_x3 rfl) (ac (hs (.done (zN Tryz.prog 154 (fm1) (.str x3) true) (.tuple (.agg [.i 1,.i 1,.func (.func 144) [] []]::kAS))) (xn qaj [[109,97,107,101],[116,101,115,116],[117,115,101],[102,97,105,108],[114,101,99,97,108,108],[117,110,100,111]] (qh c4 (qh c5 (qh c6 (jB c7)))) rfl)) az))))) (Sub.norm [] [some 0,some 1] rfl rfl (.kp (.keep (.same (ql encS _)) (.kp (.keep (.same nB) .nil)))) (.kb rfl (.same (qd.cons nI (qd.cons nS (qd.cons (qj.nilslice) (qd.cons (qj.nilslice) (qd.cons nS qd.nil)))))) (.kb rfl (.cells (rc (.same nI) (rc (.same nI) (rc (.undef) rn)))) .nil)))
     ·rcases wyB g_v13 with⟨c8,g_v13⟩|⟨c8,g_v13⟩
      ·simp only[Option.some.injEq,Prod.mk.injEq]at g_v13
       obtain⟨rfl,rfl,rfl⟩:=g_v13
       exact qm.sub (qm.rq fol [0,2,3,4] (kF (kAJ r1 [(6,.bool true)])) (kA [.cells [.i 1,.i 1,.func (.func 145) [] []]]) (ac (cv (qA e_r2)) (ac (iv jQ encS e_x3) (ac (lv 0 ce9 encS e_x3 rfl) (ac (hs (.done (zN Tryz.prog 154 (fm1) (.str x3) true) (.tuple (.agg [.i 1,.i 1,.func (.func 145) [] []]::kAS))) (xn qaj [[109,97,107,101],[116,101,115,116],[117,115,101],[102,97,105,108],[114,101,99,97,108,108],[117,110,100,111]] (qh c4 (qh c5 (qh c6 (qh c7 (jB c8))))) rfl)) az))))) (Sub.norm [] [some 0,some 1] rfl rfl (.kp (.keep (.same (ql encS _)) (.kp (.keep (.same nB) .nil)))) (.kb rfl (.same (qd.cons nI (qd.cons nS (qd.cons (qj.nilslice) (qd.cons (qj.nilslice) (qd.cons nS qd.nil)))))) (.kb rfl (.cells (rc (.same nI) (rc (.same nI) (rc (.undef) rn)))) .nil)))
      ·rcases wyB g_v13 with⟨c9,g_v13⟩|⟨c9,g_v13⟩
       ·simp only[Option.some.injEq,Prod.mk.injEq]at g_v13
        obtain⟨rfl,rfl,rfl⟩:=g_v13
        exact qm.sub (qm.rq fol [0,2,3,4] (kF (kAJ r1 [(6,.bool true)])) (kA [.cells [.i 0,.i 0,.nilfunc]]) (ac (cv (qA e_r2)) (ac (iv jQ encS e_x3) (ac (lv 0 ce9 encS e_x3 rfl) (ac (hs (.done (zN Tryz.prog 154 (fm1) (.str x3) true) (.tuple (.agg [.i 0,.i 0,.nilfunc]::kAS))) (xn qaj [[109,97,107,101],[116,101,115,116],[117,115,101],[102,97,105,108],[114,101,99,97,108,108],[117,110,100,111]] (qh c4 (qh c5 (qh c6 (qh c7 (qh c8 (jB c9)))))) rfl)) az))))) (Sub.norm [] [some 0,some 1] rfl rfl (.kp (.keep (.same (ql encS _)) (.kp (.keep (.same nB) .nil)))) (.kb rfl (.same (qd.cons nI (qd.cons nS (qd.cons (qj.nilslice) (qd.cons (qj.nilslice) (qd.cons nS qd.nil)))))) (.kb rfl (.cells (rc (.same nI) (rc (.same nI) (rc (.undef) rn)))) .nil)))
       ·simp only[Option.some.injEq,Prod.mk.injEq]at g_v13
        obtain⟨rfl,rfl,rfl⟩:=g_v13
        exact qm.sub (qm.rq fol [0,2,3,4] (kF (kAJ r1 [(6,.bool false)])) (kA [.cells [.i 0,.i 0,.nilfunc]]) (ac (cv (qA e_r2)) (ac (iv jQ encS e_x3) (ac (lv 0 ce9 encS e_x3 rfl) (ac (hs (.done (zN Tryz.prog 154 (fm1) (.str x3) true) (.tuple (.agg [.i 0,.i 0,.nilfunc]::kAg))) (qhW qaj [[109,97,107,101],[116,101,115,116],[117,115,101],[102,97,105,108],[114,101,99,97,108,108],[117,110,100,111]] (qh c4 (qh c5 (qh c6 (qh c7 (qh c8 (qh c9 (rfl))))))))) az))))) (Sub.norm [] [some 0,some 1] rfl rfl (.kp (.keep (.same (ql encS _)) (.kp (.keep (.same nB) .nil)))) (.kb rfl (.same (qd.cons nI (qd.cons nS (qd.cons (qj.nilslice) (qd.cons (qj.nilslice) (qd.cons nS qd.nil)))))) (.kb rfl (.cells (rc (.same nI) (rc (.same nI) (rc (.undef) rn)))) .nil)))
 intro _ hsub
 try dsimp only at h
 refine Goes.sub hsub ?_
 refine sq ?_
 refine sq ?_
 obtain⟨b17,g_v18,h⟩:=bnd h
 refine Goes.cutS (s':=(ofG 76 (kF (kAJ r1 [(38,.bool b17)])),(kA [.cells [.i n10,.i n11,.undef]]))) ?_ ?_
 ·rcases wyB g_v18 with⟨c14,g_v18⟩|⟨c14,g_v18⟩
  ·obtain rfl:=si g_v18
   exact qm.sub (tr fol [2] (kF (kAJ r1 [(38,.bool true)])) (ac (gw c14) az)) (Sub.refl _)
  ·rcases wyB g_v18 with⟨c15,g_v18⟩|⟨c15,g_v18⟩
   ·obtain rfl:=si g_v18
    exact qm.sub (tr fol [2,13] (kF (kAJ r1 [(38,.bool true)])) (ac (gw c14) (ac (gw c15) az))) (Sub.refl _)
   ·obtain⟨r16,e_r16,g_v18⟩:=bnd g_v18
    obtain rfl:=si g_v18
    exact qm.sub (tr fol [2,13,15] (kF (kAJ r1 [(38,.bool r16)])) (ac (gw c14) (ac (gw c15) (ac (cv (xY N r1 [] e_r16)) az)))) (Sub.refl _)
 intro _ hsub
 refine Goes.sub hsub ?_
 refine ihB h (fun c19 h=>?_) (fun c19 h=>?_)
 ·refine sh fol (kF kAb) ?_
  refine Goes.ret ?_
  obtain rfl:=si h
  exact(Goes.retW (xs:=(kL kAg)) (by kernel_rfl) (FzW.tuple (qg.cons (FzW.agg (qg.cons (FzW.still tI) (qg.cons (FzW.still tS) (qg.cons (FzW.nilv (E:=encS)) (qg.cons (FzW.nilv (E:=encI)) (qg.cons (FzW.still tS) qg.nil)))))) (qg.cons (FzW.still tB) qg.nil))))
 ·refine Goes.skip ?_
  refine sq ?_
  obtain⟨x20,e_x20,h⟩:=bnd h
  obtain⟨s21,e_s21,h⟩:=bnd h
  obtain⟨r22,e_r22,h⟩:=bnd h
  refine gq fol [1,2,7,8] (kF (kAJ r1 [(7,.ptr 2 0)])) (kA [.cells [.i n10,.i n11,.undef],.cells [.i 0,.str x20,vl encS r22,.nilslice,.str []]]) (ac (iv jQ encS e_x20) (ac (lv 0 ce9 encS e_x20 rfl) (ac (hs (.done (.opt (qN Tryz.prog 23 (vl encS r1) (some (.i 1)) (some (.i (w64 (1+n10)))) none)) (vl encS s21)) (qhu jQ (E:=encS) rfl (some 1) (some (w64 (1+n10))) e_s21)) (ac (cv (qaW s21 e_r22)) az)))) ?_
  refine sq ?_
  refine sq ?_
  obtain⟨s23,e_s23,h⟩:=bnd h
  refine gr fol [4] (kF [(7,.ptr 2 0),(54,vl encS s23),(55,.i (s23.length:Int)),(56,.i 0)]) (ac (hs (.done (.opt (qN Tryz.prog 23 (vl encS r1) (some (.i (w64 (1+n10)))) none none)) (vl encS s23)) (qhu jQ (E:=encS) rfl (some (w64 (1+n10))) none e_s23)) az) ?_
  refine Goes.block ?_
  obtain⟨r27,g27,h⟩:=bnd h
  refine Goes.imp (Q:=fun x s'=>(x= .exit 0∧ ∃l26,(.inl l26)=r27∧Sub s' (ofG 76 (kF [(7,.ptr 1 0)]),(kA (kAC x20 r22 l26 (kZ l26 [])))))∨(x= .ret∧ ∃q28,(.inr q28)=r27∧ku Tryz.prog [.cell 2 26,.tmp 3] (.tuple [.agg (cE q28.1),.bool q28.2]) .ret s')) ?_ ?_
  ·refine Goes.sub (s':=(ofG 76 (kF [(7,.ptr 1 0),(54,vl encS s23),(55,.i (s23.length:Int)),(56,.i 0)]),(kA [.cells [.i 0,.str x20,vl encS r22,.gslice 2 ([]:List Int).length 1,.str []],.cells (([]:List Int).flatMap encI.c)]))) (Sub.norm [] [some 0,some 2,none] rfl rfl (.kp (.kp (.keep (.same (ql encS _)) (.keep (.same nI) (.keep (.same nI) .nil))))) (.kb rfl (.same (qd.cons nI (qd.cons nS (qd.cons (qj.nilslice) (qd.cons (qj.nilslice) (qd.cons nS qd.nil)))))) (.kb rfl (.cells (rc (.same nI) (rc (.same nS) (rc (.same (ql encS _)) (rc (.nil) (rc (.same nS) rn)))))) (.fresh .nil)))) ?_
   refine Goes.loopS (fun M s=> ∃(l24:List Int) (n25:Int),s=(ofG 76 (kF ((7,.ptr 1 0)::(kAX s23 (s23.length:Int) n25 []))),(kA (kAC x20 r22 l24 (kZ l24 []))))∧ze s23 M l24 n25=some r27) ?_ (m:=N) ⟨_,_,rfl,g27⟩
   rintro M s ⟨l24,n25,rfl,g27⟩
   cases M with
   |zero=>simp only[ze]at g27;cases g27
   |succ M=>
    rw[ze]at g27
    refine sh fol (kF ((7,.ptr 1 0)::(kAX s23 (s23.length:Int) n25 [(57,.bool (decide (n25<(s23.length:Int))))]))) ?_
    refine sq ?_
    refine ihD g27 (fun c29 g27=>?_) (fun c29 g27=>?_)
    ·refine Goes.skip ?_
     refine sq (Goes.block ?_)
     refine sq ?_
     obtain⟨x30,e_x30,g27⟩:=bnd g27
     refine gr fol [0,1] (kF ((7,.ptr 1 0)::(9,.str x30)::(kAX s23 (s23.length:Int) n25 []))) (ac (iv jQ encS e_x30) (ac (lv 0 ce9 encS e_x30 rfl) az)) ?_
     refine sq ?_
     obtain⟨r31,e_r31,g27⟩:=bnd g27
     refine gr fol [1] (kF ((7,.ptr 1 0)::(10,.i r31.1)::(11,.bool r31.2)::(kAX s23 (s23.length:Int) n25 []))) (ac (cv (xZ x30 e_r31)) az) ?_
     refine sq ?_
     refine sh fol (kF ((7,.ptr 1 0)::(10,.i r31.1)::(kAX s23 (s23.length:Int) n25 [(66,.bool (!r31.2))]))) ?_
     refine ihB g27 (fun c32 g27=>?_) (fun c32 g27=>?_)
     ·refine sh fol (kF kAb) ?_
      refine Goes.ret ?_
      obtain rfl:=si g27
      exact Or.inr (⟨rfl,_,rfl,(Goes.retW (xs:=(kL kAg)) (by kernel_rfl) (FzW.tuple (qg.cons (FzW.agg (qg.cons (FzW.still tI) (qg.cons (FzW.still tS) (qg.cons (FzW.nilv (E:=encS)) (qg.cons (FzW.nilv (E:=encI)) (qg.cons (FzW.still tS) qg.nil)))))) (qg.cons (FzW.still tB) qg.nil))))⟩)
     ·refine Goes.skip ?_
      obtain⟨l33,e_l33,g27⟩:=bnd g27
      refine gq fol [4] (kF ((7,.ptr 1 0)::(kAX s23 (s23.length:Int) n25 []))) (kA (.cells [.i 0,.str x20,vl encS r22,.gslice 4 l33.length 1,.str []]:: .dead::(kT r31.1 (kZ l33 [])))) (ac (hs (.run [2,3] (zy Tryz.prog [24,24] (.gslice 2 l24.length 1) (.slice 3 0 1 1 1)) (kA (kAC x20 r22 l24 (kZ l24 (kT r31.1 [])))) (.gslice 4 l33.length 1) (kA (kAC x20 r22 l24 (.dead::(kT r31.1 (kZ l33 []))))) true) (vH qcx (E:=encI) rfl (qbT (E:=encI) (ys:=[r31.1]) rfl rfl rfl rfl) (qeu (E:=encI) (l:=l24) rfl rfl rfl e_l33 rfl))) az) ?_
      refine gh fol (kF ((7,.ptr 1 0)::(kAX s23 (s23.length:Int) (w64 (n25+1)) []))) ?_
      exact⟨M,(ofG 76 (kF ((7,.ptr 1 0)::(kAX s23 (s23.length:Int) (w64 (n25+1)) []))),(kA (kAC x20 r22 l33 (kZ l33 [])))),Nat.lt_succ_self _,(Sub.norm [] [some 0,some 1,some 4] rfl rfl (.kp (.kp (.keep (.same (ql encS _)) (.keep (.same nI) (.keep (.same nI) .nil))))) (.kb rfl (.same (qd.cons nI (qd.cons nS (qd.cons (qj.nilslice) (qd.cons (qj.nilslice) (qd.cons nS qd.nil)))))) (.kb rfl (.cells (rc (.same nI) (rc (.same nS) (rc (.same (ql encS _)) (rc (.gslice rfl) (rc (.same nS) rn)))))) (.ks .nil)))),_,_,rfl,g27⟩
    ·refine Goes.exit ?_
     obtain rfl:=si g27
     exact Or.inl (⟨rfl,_,rfl,(Sub.keep [2,7] rfl rfl)⟩)
  rintro x s' (⟨rfl,l26,rfl,hsub⟩|⟨rfl,q34,rfl,hret⟩)
  ·try dsimp only at h
   refine Goes.sub hsub ?_
   refine sg fol (kF [(3,.bool true)]) (kAC x20 r22 l26 (kAC x20 r22 l26 (kZ l26 []))) ?_
   refine Goes.ret ?_
   obtain rfl:=si h
   exact(Goes.retW (xs:=(.agg [.i 0,.str x20,vl encS r22,.gslice 2 l26.length 1,.str []]::kAS)) (by kernel_rfl) (FzW.tuple (qg.cons (FzW.agg (qg.cons (FzW.still tI) (qg.cons (FzW.still tS) (qg.cons (FzW.still (qV encS _ (nl rfl))) (qg.cons (FzW.fz (Fz.gs (E:=encI) rfl rfl (nl rfl))) (qg.cons (FzW.still tS) qg.nil)))))) (qg.cons (FzW.still tB) qg.nil))))
  ·try dsimp only at h
   obtain rfl:=si h
   exact hret
def stringslite_Cut (s_:Str) (sep:Str):Option (Str×Str×Bool):=
 (stringslite_Index s_ sep).bind fun r1=>
 if r1≥0 then
 (cut s_ 0 r1).bind fun s3=>
 (cut s_ (w64 (r1+(sep.length:Int))) (s_.length:Int)).bind fun s4=>
 some (s3,s4,true)
 else
 some (s_,[],false)
theorem qb8 (s_:Str) (sep:Str) {res:Str×Str×Bool} (h:stringslite_Cut s_ sep=some res):qf Tryz.prog (.fn 228) [.str s_,.str sep] [] (.tuple [.str res.1,.str res.2.1,.bool res.2.2]) []:=by
 unfold stringslite_Cut at h
 refine Goes.fnW Tryz.func228 rfl rfl (m:=23) rfl (rs:=[.tmp 4,.tmp 5,.tmp 6]) rfl (l:=(kJ s_ sep [])) rfl ?_
 refine sh fol (kJ s_ sep []) ?_
 refine sq ?_
 refine sq ?_
 obtain⟨r1,e_r1,h⟩:=bnd h
 refine gr fol [2] (kJ s_ sep [(7,.i r1)]) (ac (cv (xh s_ sep e_r1)) az) ?_
 refine sh fol (kJ s_ sep [(7,.i r1),(12,.bool (decide (r1≥0)))]) ?_
 refine ihD h (fun c2 h=>?_) (fun c2 h=>?_)
 ·refine sq ?_
  obtain⟨s3,e_s3,h⟩:=bnd h
  obtain⟨s4,e_s4,h⟩:=bnd h
  refine gr fol [2,8] [(4,.str s3),(5,.str s4),(6,.bool true)] (ac (hs (.done (.opt (qN Tryz.prog 9 (.str s_) none (some (.i r1)) none)) (.str s3)) (jA st9 none (some r1) e_s3)) (ac (hs (.done (.opt (qN Tryz.prog 9 (.str s_) (some (.i (w64 (r1+(sep.length:Int))))) none none)) (.str s4)) (jA st9 (some (w64 (r1+(sep.length:Int)))) none e_s4)) az)) ?_
  refine Goes.ret ?_
  obtain rfl:=si h
  exact(Goes.retW (xs:=(.str s3:: .str s4::kAS)) (by kernel_rfl) (FzW.tuple (qg.cons (FzW.still tS) (qg.cons (FzW.still tS) (qg.cons (FzW.still tB) qg.nil)))))
 ·refine Goes.skip ?_
  refine sh fol [(4,.str s_),(5,.str []),(6,.bool false)] ?_
  refine Goes.ret ?_
  obtain rfl:=si h
  exact(Goes.retW (xs:=(.str s_:: .str []::kAg)) (by kernel_rfl) (FzW.tuple (qg.cons (FzW.still tS) (qg.cons (FzW.still tS) (qg.cons (FzW.still tB) qg.nil)))))
def strings_Cut (s_:Str) (sep:Str):Option (Str×Str×Bool):=
 (stringslite_Cut s_ sep).bind fun r1=>
 some (r1.1,r1.2.1,r1.2.2)
theorem qd9 (s_:Str) (sep:Str) {res:Str×Str×Bool} (h:strings_Cut s_ sep=some res):qf Tryz.prog (.fn 190) [.str s_,.str sep] [] (.tuple [.str res.1,.str res.2.1,.bool res.2.2]) []:=by
 unfold strings_Cut at h
 refine Goes.fnW Tryz.func190 rfl rfl (m:=13) rfl (rs:=[.tmp 4,.tmp 5,.tmp 6]) rfl (l:=(kJ s_ sep [])) rfl ?_
 refine sh fol (kJ s_ sep []) ?_
 refine sq ?_
 obtain⟨r1,e_r1,h⟩:=bnd h
 refine gr fol [2] [(4,.str r1.1),(5,.str r1.2.1),(6,.bool r1.2.2)] (ac (cv (qb8 s_ sep e_r1)) az) ?_
 refine Goes.ret ?_
 obtain rfl:=si h
 exact(Goes.retW (xs:=[.str r1.1,.str r1.2.1,.bool r1.2.2]) (by kernel_rfl) (FzW.tuple (qg.cons (FzW.still tS) (qg.cons (FzW.still tS) (qg.cons (FzW.still tB) qg.nil)))))
def vo (N:Nat) (s_:Str):Option (qb×Bool):=
 (strings_Cut s_ [32]).bind fun r1=>
 (jO r1.1).bind fun r2=>
 (vv N r1.2.1).bind fun r3=>
 (if r2.2=true then
 if r3.2=true then
 (zX N (⟨r2.1,r3.1.Kind,r3.1.Names,r3.1.Values,r3.1.Text⟩:qb)).bind fun r6=>
 some (decide (r6=0))
 else
 some false
 else
 some false:Option Bool).bind fun b7=>
 some ((⟨r2.1,r3.1.Kind,r3.1.Names,r3.1.Values,r3.1.Text⟩:qb),b7)
theorem qb0 (N:Nat) (s_:Str) {res:qb×Bool} (h:vo N s_=some res):qf Tryz.prog (.fn 156) [.str s_] [] (.tuple [.agg (cE res.1),.bool res.2]) []:=by
 unfold vo at h
 refine Goes.fnW Tryz.func156 rfl rfl (m:=39) rfl (rs:=[.cell 2 26,.tmp 3]) rfl (l:=(kV s_ [])) rfl ?_
 refine sg fol (kV s_ (kF [])) (kA []) ?_
 refine sq ?_
 obtain⟨r1,e_r1,h⟩:=bnd h
 refine gr fol [1] (kF [(4,.str r1.1),(5,.str r1.2.1)]) (ac (cv (qd9 s_ [32] e_r1)) az) ?_
 refine sq ?_
 obtain⟨r2,e_r2,h⟩:=bnd h
 refine gr fol [1] (kF [(5,.str r1.2.1),(7,.i r2.1),(8,.bool r2.2)]) (ac (cv (xZ r1.1 e_r2)) az) ?_
 refine sq ?_
 obtain⟨r3,e_r3,h⟩:=bnd h
 refine gq fol [1] (kF [(7,.i r2.1),(8,.bool r2.2),(9,.ptr 1 0),(10,.bool r3.2)]) (kA (kW r3.1)) (ac (cv (qb9 N r1.2.1 e_r3)) az) ?_
 refine sg fol (kF [(8,.bool r2.2),(9,.ptr 1 0),(10,.bool r3.2)]) (kA [.cells [.i r2.1,.str r3.1.Kind,vl encS r3.1.Names,vl encI r3.1.Values,.str r3.1.Text]]) ?_
 refine sq ?_
 obtain⟨b7,g_v8,h⟩:=bnd h
 refine Goes.cut (s':=(ofG 39 (kF [(3,.bool b7)]),(kO r2.1 r3.1.Kind r3.1.Names r3.1.Values r3.1.Text))) ?_ ?_
 ·rcases wyB g_v8 with⟨c4,g_v8⟩|⟨c4,g_v8⟩
  ·rcases wyB g_v8 with⟨c5,g_v8⟩|⟨c5,g_v8⟩
   ·obtain⟨r6,e_r6,g_v8⟩:=bnd g_v8
    obtain rfl:=si g_v8
    exact qm.rq fol [2,5,7] (kF [(3,.bool (decide (r6=0)))]) (kO r2.1 r3.1.Kind r3.1.Names r3.1.Values r3.1.Text) (ac (gw c4) (ac (gw c5) (ac (cv (y8 N (⟨r2.1,r3.1.Kind,r3.1.Names,r3.1.Values,r3.1.Text⟩:qb) e_r6)) az)))
   ·obtain rfl:=si g_v8
    exact qm.rq fol [2,5] (kF kAb) (kO r2.1 r3.1.Kind r3.1.Names r3.1.Values r3.1.Text) (ac (gw c4) (ac (gw c5) az))
  ·obtain rfl:=si g_v8
   exact qm.rq fol [2] (kF kAb) (kO r2.1 r3.1.Kind r3.1.Names r3.1.Values r3.1.Text) (ac (gw c4) az)
 refine Goes.ret ?_
 obtain rfl:=si h
 exact(Goes.retW (xs:=[.agg [.i r2.1,.str r3.1.Kind,vl encS r3.1.Names,vl encI r3.1.Values,.str r3.1.Text],.bool b7]) (by kernel_rfl) (FzW.tuple (qg.cons (FzW.agg (qg.cons (FzW.still tI) (qg.cons (FzW.still tS) (qg.cons (FzW.still (qV encS _ (nl rfl))) (qg.cons (FzW.still (qV encI _ (nl rfl))) (qg.cons (FzW.still tS) qg.nil)))))) (qg.cons (FzW.still tB) qg.nil))))
def ko (N:Nat) (s_:Str) (number:Int):Option (qb×Int):=
 (if(w64 ((s_.length:Int)-7))<1 then
 some (w64 ((s_.length:Int)-7),true)
 else
 (idx s_ (w64 ((w64 ((s_.length:Int)-7))-1))).bind fun c2=>
 if(!decide ((c2.toNat:Int)=59))=true then
 some (w64 ((s_.length:Int)-7),true)
 else
 (cut s_ (w64 ((s_.length:Int)-7)) (s_.length:Int)).bind fun s4=>
 (jC s4).bind fun r5=>
 some (w64 ((s_.length:Int)-7),!r5):Option (Int×Bool)).bind fun(cut_6,b7)=>
 if b7=true then
 some ((⟨0,[],[],[],[]⟩:qb),25)
 else
 (cut s_ 0 (w64 (cut_6-1))).bind fun s10=>
 (cut s_ cut_6 (s_.length:Int)).bind fun s11=>
 (yO N s10).bind fun r12=>
 if(!(s11==r12))=true then
 some ((⟨0,[],[],[],[]⟩:qb),27)
 else
 (vo N s10).bind fun r14=>
 (zn (!r14.2) 25).bind fun r15=>
 (zn (!decide (r14.1.Number=number)) 11).bind fun r16=>
 (jF N ([r15,r16]:List Int)).bind fun r17=>
 some (r14.1,r17)
theorem jH (N:Nat) (s_:Str) (number:Int) {res:qb×Int} (h:ko N s_ number=some res):qf Tryz.prog (.fn 105) [.str s_,.i number] [] (.tuple [.agg (cE res.1),.i res.2]) []:=by
 unfold ko at h
 refine Goes.fnW Tryz.func105 rfl rfl (m:=57) rfl (rs:=[.cell 4 26,.tmp 5]) rfl (l:=(kV s_ [(1,.i number)])) rfl ?_
 refine sg fol (kV s_ ((1,.i number)::(kAW []))) (kA []) ?_
 refine sh fol (kV s_ ((1,.i number)::(kAW [(6,.i (w64 ((s_.length:Int)-7)))]))) ?_
 refine sq ?_
 refine sq ?_
 obtain⟨⟨cut_6,b7⟩,g_v8,h⟩:=bnd h
 refine Goes.cut (s':=(ofG 57 (kV s_ ((1,.i number)::(kAW [(6,.i cut_6),(28,.bool b7)]))),(kA []))) ?_ ?_
 ·rcases wyD g_v8 with⟨c1,g_v8⟩|⟨c1,g_v8⟩
  ·simp only[Option.some.injEq,Prod.mk.injEq]at g_v8
   obtain⟨rfl,rfl⟩:=g_v8
   exact tr fol [2] (kV s_ ((1,.i number)::(kAW [(6,.i (w64 ((s_.length:Int)-7))),(28,.bool true)]))) (ac (gw c1) az)
  ·obtain⟨c2,e_c2,g_v8⟩:=bnd g_v8
   rcases wyB g_v8 with⟨c3,g_v8⟩|⟨c3,g_v8⟩
   ·simp only[Option.some.injEq,Prod.mk.injEq]at g_v8
    obtain⟨rfl,rfl⟩:=g_v8
    exact tr fol [2,6,9] (kV s_ ((1,.i number)::(kAW [(6,.i (w64 ((s_.length:Int)-7))),(28,.bool true)]))) (ac (gw c1) (ac (hs (.done (.opt (zS Tryz.prog 9 (.str s_) (.i (w64 ((w64 ((s_.length:Int)-7))-1))))) (.int .u8 (c2.toNat:Int))) (jP st9 e_c2)) (ac (gw c3) az)))
   ·obtain⟨s4,e_s4,g_v8⟩:=bnd g_v8
    obtain⟨r5,e_r5,g_v8⟩:=bnd g_v8
    simp only[Option.some.injEq,Prod.mk.injEq]at g_v8
    obtain⟨rfl,rfl⟩:=g_v8
    exact tr fol [2,6,9,12,13] (kV s_ ((1,.i number)::(kAW [(6,.i (w64 ((s_.length:Int)-7))),(28,.bool (!r5))]))) (ac (gw c1) (ac (hs (.done (.opt (zS Tryz.prog 9 (.str s_) (.i (w64 ((w64 ((s_.length:Int)-7))-1))))) (.int .u8 (c2.toNat:Int))) (jP st9 e_c2)) (ac (gw c3) (ac (hs (.done (.opt (qN Tryz.prog 9 (.str s_) (some (.i (w64 ((s_.length:Int)-7)))) none none)) (.str s4)) (jA st9 (some (w64 ((s_.length:Int)-7))) none e_s4)) (ac (cv (j4 s4 e_r5)) az)))))
 try dsimp only at h
 refine ihB h (fun c9 h=>?_) (fun c9 h=>?_)
 ·refine sh fol (kAW [(5,.i 25)]) ?_
  refine Goes.ret ?_
  obtain rfl:=si h
  exact(Goes.retW (xs:=(kL [.i 25])) (by kernel_rfl) (FzW.tuple (qg.cons (FzW.agg (qg.cons (FzW.still tI) (qg.cons (FzW.still tS) (qg.cons (FzW.nilv (E:=encS)) (qg.cons (FzW.nilv (E:=encI)) (qg.cons (FzW.still tS) qg.nil)))))) (qg.cons (FzW.still tI) qg.nil))))
 ·refine Goes.skip ?_
  refine sq ?_
  obtain⟨s10,e_s10,h⟩:=bnd h
  refine gr fol [3] (kV s_ ((1,.i number)::(kAW [(6,.i cut_6),(7,.str s10)]))) (ac (hs (.done (.opt (qN Tryz.prog 9 (.str s_) none (some (.i (w64 (cut_6-1)))) none)) (.str s10)) (jA st9 none (some (w64 (cut_6-1))) e_s10)) az) ?_
  refine sq ?_
  refine sq ?_
  obtain⟨s11,e_s11,h⟩:=bnd h
  obtain⟨r12,e_r12,h⟩:=bnd h
  refine gr fol [2,4] ((1,.i number)::(kAW [(7,.str s10),(39,.bool (!(s11==r12)))])) (ac (hs (.done (.opt (qN Tryz.prog 9 (.str s_) (some (.i cut_6)) none none)) (.str s11)) (jA st9 (some cut_6) none e_s11)) (ac (cv (qbS N s10 e_r12)) az)) ?_
  refine ihB h (fun c13 h=>?_) (fun c13 h=>?_)
  ·refine sh fol (kAW [(5,.i 27)]) ?_
   refine Goes.ret ?_
   obtain rfl:=si h
   exact(Goes.retW (xs:=(kL [.i 27])) (by kernel_rfl) (FzW.tuple (qg.cons (FzW.agg (qg.cons (FzW.still tI) (qg.cons (FzW.still tS) (qg.cons (FzW.nilv (E:=encS)) (qg.cons (FzW.nilv (E:=encI)) (qg.cons (FzW.still tS) qg.nil)))))) (qg.cons (FzW.still tI) qg.nil))))
  ·refine Goes.skip ?_
   refine sq ?_
   obtain⟨r14,e_r14,h⟩:=bnd h
   refine gq fol [1] ((1,.i number)::(kAW [(8,.ptr 1 0),(9,.bool r14.2)])) (kA (kW r14.1)) (ac (cv (qb0 N s10 e_r14)) az) ?_
   refine sq ?_
   obtain⟨r15,e_r15,h⟩:=bnd h
   obtain⟨r16,e_r16,h⟩:=bnd h
   obtain⟨r17,e_r17,h⟩:=bnd h
   refine gq fol [3,8,10] (kAW [(5,.i r17)]) (kS r14.1 [.cells [.i r15,.i r16]]) (ac (cv (zg (!r14.2) 25 e_r15)) (ac (cv (zg (!decide (r14.1.Number=number)) 11 e_r16)) (ac (hs (.call 86 [.slice 2 0 2 2 1] (kA [.cells (cE r14.1),.cells [.i r15,.i r16]]) [2] [vl encI ([r15,r16]:List Int)] (.i r17)) (qbp (FzL.cons (Fz.lit rfl rfl (FzL.still (AllST.cons tI (AllST.cons tI AllST.nil)))) FzL.nil) (vY N ([r15,r16]:List Int) e_r17) tI rfl)) az))) ?_
   refine Goes.ret ?_
   obtain rfl:=si h
   exact(Goes.retW (xs:=[.agg (cE r14.1),.i r17]) (by kernel_rfl) (FzW.tuple (qg.cons (FzW.agg (qg.cons (FzW.still tI) (qg.cons (FzW.still tS) (qg.cons (FzW.still (qV encS _ (nl rfl))) (qg.cons (FzW.still (qV encI _ (nl rfl))) (qg.cons (FzW.still tS) qg.nil)))))) (qg.cons (FzW.still tI) qg.nil))))
end Go.Av
