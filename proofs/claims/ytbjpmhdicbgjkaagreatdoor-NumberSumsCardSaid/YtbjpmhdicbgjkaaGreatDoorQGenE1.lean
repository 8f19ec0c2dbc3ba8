/-
  Walks of functions: what each computes, as a plain function.
-/
import Derived.Test.YtbjpmhdicbgjkaaGreatDoorAvJnE
noncomputable section
namespace Go.Av
open Go.Proofs Go.RowKit
set_option linter.unusedSectionVars false
set_option linter.unusedVariables false
set_option linter.unusedSimpArgs false
set_option maxRecDepth 100000
theorem fol:Tryz.prog.follows .mixedOrders=true:=by kernel_rfl
structure qB where
 neg:Bool
 w:List Int
def qiH:Enc qB:=(encB.prod (qm7 encI)).comap fun x=>(x.neg,x.w)
instance:SE qiH:=⟨nl rfl⟩
structure qj where
 s:Int
 w:List Int
def qiq:Enc qj:=(encI.prod (encN (qa .u64))).comap fun x=>(x.s,x.w)
instance:SE qiq:=⟨nl rfl⟩
structure qF where
 Num:qj
 Den:qj
def qgN:Enc qF:=(qiq.prod qiq).comap fun x=>(x.Num,x.Den)
instance:SE qgN:=⟨nl rfl⟩
structure qpi where
 X:Str
 Y:Str
def qlB:Enc qpi:=(encS.prod encS).comap fun x=>(x.X,x.Y)
instance:SE qlB:=⟨nl rfl⟩
structure qlG where
 n:qF
 d:qF
def qiz:Enc qlG:=(qgN.prod qgN).comap fun x=>(x.n,x.d)
instance:SE qiz:=⟨nl rfl⟩
structure SpanT where
 Low:Str
 High:Str
def qmx:Enc SpanT:=(encS.prod encS).comap fun x=>(x.Low,x.High)
instance:SE qmx:=⟨nl rfl⟩
structure PartT where
 A:Int
 B:Int
def qmG:Enc PartT:=((qa .u8).prod (qa .u8)).comap fun x=>(x.A,x.B)
instance:SE qmG:=⟨nl rfl⟩
abbrev kA {α3:Type} {α4:Type} (a:List Int) (b:List Int) (c:Int) (d:List α3) (e:List α4) (f:Int) (x:List (Nat×AV)):List (Nat×AV):=(8,vl encI a)::(9,vl encI b)::(10,.i c)::(11,.oslice 0 d.length 1)::(12,.slice 1 0 e.length e.length 1)::(13,.i f)::x
abbrev kB (a:Str) (b:Str) (x:List Blk):List Blk:= .cells [.str a,.str b]::x
abbrev kD (x:List Blk):List Blk:= .cells [.i 0,.nilslice,.i 0,.nilslice]::x
abbrev kF (a:List Int) (x:List Blk):List Blk:= .cells (a.flatMap encI.c)::x
abbrev kG {α0:Type} (a:List α0) (x:List (Nat×AV)):List (Nat×AV):=(5,.slice 0 0 a.length a.length 1)::x
abbrev kH (x:List (Nat×AV)):List (Nat×AV):=(2,.ptr 0 0)::(3,.ptr 1 0)::(4,.ptr 2 0)::x
abbrev kI {α0:Type} {α2:Type} (a:List α0) (b:Int) (c:List α2) (x:List (Nat×AV)):List (Nat×AV):=(11,.slice 0 0 a.length a.length 1)::(12,.i b)::(13,.slice 1 0 c.length c.length 1)::x
abbrev kJ (a:Str) (b:Str) (x:List (Nat×AV)):List (Nat×AV):=(0,.str a)::(1,.str b)::x
abbrev kK (a:List Int) (b:List Int) (x:List (Nat×AV)):List (Nat×AV):=(0,vl encI a)::(1,vl encI b)::x
abbrev kM (a:Int) (b:Int) (c:Int) (d:Int) (x:List (Nat×AV)):List (Nat×AV):=(2,.int .u64 a)::(8,.int .u64 b)::(9,.int .u64 c)::(10,.int .u64 d)::x
abbrev kO (a:Bool) (b:List Int) (c:Bool) (d:List Int) (x:List Blk):List Blk:= .cells [.bool a,vl encI b]:: .cells [.bool c,vl encI d]::x
abbrev kQ (x:List (Nat×AV)):List (Nat×AV):=(3,.ptr 0 0)::(4,.ptr 1 0)::x
abbrev kR (x:List (Nat×AV)):List (Nat×AV):=(2,.ptr 0 0)::(3,.ptr 1 0)::x
abbrev kU (x:List Blk):List Blk:= .cells [.bool false,.nilslice]::x
abbrev kX (a:Int) (b:Int) (c:Int) (x:List (Nat×AV)):List (Nat×AV):=(14,.int .u64 a)::(15,.int .u64 b)::(16,.int .u64 c)::x
abbrev kY (x:List (Nat×AV)):List (Nat×AV):=(4,.ptr 0 0)::x
abbrev kZ (a:Int) (b:Int) (x:List (Nat×AV)):List (Nat×AV):=(5,.i a)::(6,.int .u64 b)::x
abbrev kAA {α0:Type} (a:List α0) (x:List (Nat×AV)):List (Nat×AV):=(6,.slice 0 0 a.length a.length 1)::x
abbrev kAB (a:Str) (b:Bool) (x:List (Nat×AV)):List (Nat×AV):=(0,.str a)::(2,.ptr 0 0)::(3,.bool b)::x
abbrev kAE (a:Int) (b:Int):List Blk:=[.cells [.i a,.i b]]
abbrev kAH (x:List (Nat×AV)):List (Nat×AV):=(1,.ptr 0 0)::(2,.ptr 1 0)::x
abbrev kAJ (a:Int) (b:Int) (x:List (Nat×AV)):List (Nat×AV):=(0,.int .u64 a)::(1,.int .u64 b)::x
abbrev kAL (a:Int) (b:Int) (x:List (Nat×AV)):List (Nat×AV):=(21,.i a)::(22,.i b)::x
abbrev kAM (x:List (Nat×AV)):List (Nat×AV):=(2,.ptr 0 0)::x
abbrev kAN (a:Int) (b:Int) (x:List (Nat×AV)):List (Nat×AV):=(11,.int .u64 a)::(12,.int .u64 b)::x
abbrev kAO (a:Int) (b:Int) (x:List (Nat×AV)):List (Nat×AV):=(7,.int .u64 a)::(8,.int .u64 b)::x
abbrev kAQ (a:Str) (x:List (Nat×AV)):List (Nat×AV):=(0,.str a)::x
abbrev kAR (a:Str) (b:Str):List AV:=[.str a,.str b]
abbrev kAS {α0:Type} (a:List α0) (x:List (Nat×AV)):List (Nat×AV):=(6,.gslice 0 a.length 1)::x
abbrev kAT:List (Nat×AV):=[(4,.bool false)]
abbrev kAU (x:List (Nat×AV)):List (Nat×AV):=(4,.ptr 2 0)::x
abbrev kAV (a:Int) (b:Int) (x:List (Nat×AV)):List (Nat×AV):=(6,.i a)::(7,.i b)::x
abbrev kAW (a:Bool) (b:List Int) (x:List Blk):List Blk:= .cells [.bool a,vl encI b]::x
abbrev kAX (a:Str) (b:Str) (c:Bool) (x:List (Nat×AV)):List (Nat×AV):=(5,.str a)::(6,.str b)::(7,.bool c)::x
abbrev kAY (a:List Str) (x:List Blk):List Blk:= .cells (a.flatMap encS.c)::x
abbrev kAc (a:Int) (b:Int) (x:List (Nat×AV)):List (Nat×AV):=(0,.i a)::(1,.i b)::x
abbrev kAe (a:Int) (x:List (Nat×AV)):List (Nat×AV):=(6,.int .u64 a)::x
abbrev kAg (a:Int) (b:Int):List (Nat×AV):=[(13,.i a),(14,.i b)]
abbrev kAh (a:Int) (b:Int):List (Nat×AV):=[(7,.i a),(8,.i b)]
abbrev kAk {α0:Type} (a:List α0) (x:List (Nat×AV)):List (Nat×AV):=(5,.gslice 0 a.length 1)::x
abbrev kAl (a:Bool):List (Nat×AV):=[(4,.bool a)]
abbrev kAm (a:Int) (b:Int) (x:List (Nat×AV)):List (Nat×AV):=(11,.int .u64 a)::(13,.int .u64 b)::x
abbrev kAn (a:List Int) (x:List (Nat×AV)):List (Nat×AV):=(0,vl encI a)::x
abbrev kAp (a:List Int):List Blk:=[.frozen (a.flatMap encI.c)]
abbrev kAq (a:Int) (b:Int) (x:List (Nat×AV)):List (Nat×AV):=(17,.int .u64 a)::(18,.int .u64 b)::x
abbrev kAr (a:Bool) (b:List Int):List AV:=[.bool a,vl encI b]
abbrev kAs {α3:Type} (a:List Int) (b:List Int) (c:Int) (d:List α3) (x:List (Nat×AV)):List (Nat×AV):=(8,vl encI a)::(9,vl encI b)::(10,.i c)::(11,.oslice 0 d.length 1)::x
abbrev kAt (x:List (Nat×AV)):List (Nat×AV):=(4,.ptr 1 0)::(5,.ptr 2 0)::x
abbrev kAv (a:Int) (x:List (Nat×AV)):List (Nat×AV):=(7,.int .u64 a)::x
abbrev kAy (a:Bool) (b:List Int) (c:Bool) (d:List Int):List AV:=[.agg [.bool a,vl encI b],.agg [.bool c,vl encI d]]
abbrev kAz (a:Bool):List (Nat×AV):=[(8,.bool a)]
abbrev kA1 (a:Int) (b:Int) (c:Int) (x:List (Nat×AV)):List (Nat×AV):=(14,.i a)::(15,.i b)::(16,.i c)::x
abbrev kA2 (x:List (Nat×AV)):List (Nat×AV):=(1,.ptr 0 0)::x
abbrev kA5 (a:Int):List (Nat×AV):=[(5,.i a)]
abbrev kA6 (a:Str) (b:Int) (x:List (Nat×AV)):List (Nat×AV):=(3,.str a)::(4,.i b)::x
abbrev kA7:List (Nat×AV):=[(2,.bool false)]
abbrev kA8 (a:Int) (b:Int) (c:Int) (d:Int) (x:List (Nat×AV)):List (Nat×AV):=(2,.i a)::(7,.i b)::(9,.i c)::(10,.i d)::x
abbrev kA9 (a:Str) (b:Int):List AV:=[.str a,.i b]
abbrev kBA (a:Int) (b:Int) (x:List (Nat×AV)):List (Nat×AV):=(8,.i a)::(9,.i b)::x
abbrev kBD:List (Nat×AV):=[(6,.bool false)]
abbrev kBG (a:Int) (b:Int):List (Nat×AV):=[(104,.i a),(105,.i b)]
abbrev kBH (a:Int) (b:Int):List (Nat×AV):=[(28,.i a),(29,.i b)]
abbrev kBI:List (Nat×AV):=[(8,.bool false)]
abbrev kBJ (a:Int) (b:Int) (c:Int) (x:List (Nat×AV)):List (Nat×AV):=(17,.int .u64 a)::(156,.i b)::(157,.i c)::x
abbrev kBM (a:Int):List (Nat×AV):=[(2,.i a)]
abbrev kBN (a:Str) (b:Bool) (x:List (Nat×AV)):List (Nat×AV):=(5,.str a)::(6,.bool b)::x
abbrev kBO (a:Int) (b:Int):List (Nat×AV):=[(96,.i a),(97,.i b)]
abbrev kBP (a:Int):List Blk:=[.cells [.i a,.nilslice]]
abbrev kBR (a:Int) (b:Int) (x:List (Nat×AV)):List (Nat×AV):=(14,.int .u64 a)::(15,.int .u64 b)::x
abbrev kBS (a:Int):List (Nat×AV):=[(3,.i a)]
abbrev kBT (a:Bool):List (Nat×AV):=[(13,.bool a)]
abbrev kBU (a:Bool):List (Nat×AV):=[(12,.bool a)]
abbrev kBV (a:Bool):List (Nat×AV):=[(10,.bool a)]
abbrev kBW (x:List (Nat×AV)):List (Nat×AV):=(14,.ptr 4 0)::(15,.ptr 5 0)::x
abbrev kBX:List (Nat×AV):=[(2,.ptr 1 0)]
abbrev kBY:List Blk:=[.cells (([]:List Int).flatMap encI.c)]
abbrev kBa (a:Bool):List (Nat×AV):=[(15,.bool a)]
abbrev kBb (a:Str):List (Nat×AV):=[(4,.str a)]
abbrev kBc (x:List (Nat×AV)):List (Nat×AV):=(5,.ptr 3 0)::x
abbrev kBd (a:Int) (x:List Blk):List Blk:= .dead:: .cells [.i a]::x
abbrev kBf (a:Int) (b:Int) (x:List (Nat×AV)):List (Nat×AV):=(5,.i a)::(6,.i b)::x
abbrev kBg (a:List Int) (b:List Int):List AV:=[vl encI a,vl encI b]
abbrev kBh (a:Bool):List (Nat×AV):=[(14,.bool a)]
abbrev kBi (a:Str) (b:Int) (x:List (Nat×AV)):List (Nat×AV):=(6,.str a)::(7,.i b)::x
abbrev kBj (a:List Int) (x:List (Nat×AV)):List (Nat×AV):=(5,vl encI a)::x
abbrev kBl {α0:Type} (a:List α0) (x:List (Nat×AV)):List (Nat×AV):=(3,.gslice 1 a.length 1)::x
abbrev kBm (x:List (Nat×AV)):List (Nat×AV):=(4,.ptr 1 0)::x
abbrev kBp (a:List Str) (x:List (Nat×AV)):List (Nat×AV):=(0,vl encS a)::x
abbrev kBq (a:Bool):List (Nat×AV):=[(2,.bool a)]
abbrev kBr (a:Bool) (b:List Int) (c:Bool) (d:List Int):List (Nat×AV):=[(0,.agg [.bool a,vl encI b]),(1,.agg [.bool c,vl encI d])]
abbrev kBs (a:Str):List (Nat×AV):=[(2,.str a)]
abbrev kBt (a:Int) (x:List (Nat×AV)):List (Nat×AV):=(0,.int .u64 a)::x
abbrev kBu (a:Int):List (Nat×AV):=[(14,.i a)]
abbrev kBw (a:Int):List (Nat×AV):=[(8,.i a)]
abbrev kBx (x:List (Nat×AV)):List (Nat×AV):=(5,.ptr 1 0)::x
abbrev kBz:List (Nat×AV):=[(35,.bool true)]
abbrev kB2 (x:List (Nat×AV)):List (Nat×AV):=(10,.ptr 1 0)::x
abbrev kB3:List (Nat×AV):=[(2,.i 0)]
abbrev kB4 (a:Int):List (Nat×AV):=[(6,.i a)]
abbrev kB5 (a:Int) (b:Int):List AV:=[.int .u64 a,.int .u64 b]
abbrev kB7 (a:Int):List (Nat×AV):=[(4,.i a)]
abbrev kB8 (x:List (Nat×AV)):List (Nat×AV):=(8,.int .u64 0)::x
abbrev kB9 (a:Str) (b:Int) (x:List (Nat×AV)):List (Nat×AV):=(12,.str a)::(13,.i b)::x
theorem ja:SlT Tryz.prog 85 3 1 8:=⟨by kernel_rfl,by kernel_rfl,by kernel_rfl,by kernel_rfl⟩
theorem ce3:CeT Tryz.prog 3:=⟨by kernel_rfl,by kernel_rfl⟩
theorem st9:Tryz.prog.underlying 9=some .string:=by kernel_rfl
theorem qj6:Tryz.prog.underlying 23=some .string:=by kernel_rfl
theorem sl169:SlT Tryz.prog 169 29 1 8:=⟨by kernel_rfl,by kernel_rfl,by kernel_rfl,by kernel_rfl⟩
theorem ce29:CeT Tryz.prog 29:=⟨by kernel_rfl,by kernel_rfl⟩
theorem vD:Tryz.prog.underlying 104=some (.slice 212):=by kernel_rfl
theorem qI:SlT Tryz.prog 104 212 1 8:=⟨by kernel_rfl,by kernel_rfl,by kernel_rfl,by kernel_rfl⟩
theorem zu:CeT Tryz.prog 212:=⟨by kernel_rfl,by kernel_rfl⟩
theorem sl56:SlT Tryz.prog 56 23 1 16:=⟨by kernel_rfl,by kernel_rfl,by kernel_rfl,by kernel_rfl⟩
theorem ce23:CeT Tryz.prog 23:=⟨by kernel_rfl,by kernel_rfl⟩
theorem qoJ:SlT Tryz.prog 244 9 1 16:=⟨by kernel_rfl,by kernel_rfl,by kernel_rfl,by kernel_rfl⟩
theorem ce9:CeT Tryz.prog 9:=⟨by kernel_rfl,by kernel_rfl⟩
def jv (l:List Int):Nat→Int→Option (Unit⊕Int)
 |0,_=>none
 |K+1,n1=>
  if n1<(l.length:Int)then
  (idx l n1).bind fun x5=>
  if(!decide (x5=0))=true then
  some (.inr x5)
  else
  jv l K (w64 (n1+1))
  else
  some (.inl ())
def qa0 (N:Nat) (l:List Int):Option Int:=
 (jv l N 0).bind (fun
 |(.inl ())=>
 some 0
 |(.inr q7)=>
 some q7)
theorem qgX (N:Nat) (l:List Int) {res:Int} (h:qa0 N l=some res):qb Tryz.prog (.fn 16) [vl encI l] [] (.i res) []:=by
 unfold qa0 at h
 refine Goes.fnW Tryz.func16 rfl rfl (m:=19) rfl (rs:=[.tmp 2]) rfl (l:=(kAn l [])) rfl ?_
 refine sh fol (kAn l []) ?_
 refine sq ?_
 refine sh fol (kAn l [(3,.i 0)]) ?_
 refine Goes.block ?_
 obtain⟨r2,g2,h⟩:=bnd h
 refine Goes.imp (Q:=fun x s'=>(x= .exit 0∧(.inl ())=r2∧Sub s' (ofG 19 [],[]))∨(x= .ret∧ ∃q3,(.inr q3)=r2∧vK Tryz.prog [.tmp 2] (.i q3) .ret s')) ?_ ?_
 ·refine Goes.loopS (fun M s=> ∃(n1:Int),s=(ofG 19 (kAn l (kBS n1)),[])∧jv l M n1=some r2) ?_ (m:=N) ⟨_,rfl,g2⟩
  rintro M s ⟨n1,rfl,g2⟩
  cases M with
  |zero=>simp only[jv]at g2;cases g2
  |succ M=>
   rw[jv]at g2
   refine sq ?_
   refine sh fol (kAn l [(3,.i n1),(7,.bool (decide (n1<(l.length:Int))))]) ?_
   refine ihD g2 (fun c4 g2=>?_) (fun c4 g2=>?_)
   ·refine Goes.skip ?_
    refine sq (Goes.block ?_)
    obtain⟨x5,e_x5,g2⟩:=bnd g2
    refine sq (gr fol [2,3] (kAn l ((3,.i n1)::(kBh (!decide (x5=0))))) (ac (iv ja encI e_x5) (ac (lv 0 ce3 encI e_x5 rfl) az)) ?_)
    refine ihB g2 (fun c6 g2=>?_) (fun c6 g2=>?_)
    ·refine sq (gr fol [2,3] (kBM x5) (ac (iv ja encI e_x5) (ac (lv 0 ce3 encI e_x5 rfl) az)) ?_)
     refine Goes.ret ?_
     obtain rfl:=si g2
     exact Or.inr (⟨rfl,_,rfl,(gw2 [.i x5] (FzW.still tI))⟩)
    ·refine Goes.skip ?_
     refine gh fol (kAn l (kBS (w64 (n1+1)))) ?_
     exact⟨M,(ofG 19 (kAn l (kBS (w64 (n1+1)))),[]),Nat.lt_succ_self _,(Sub.refl _),_,rfl,g2⟩
   ·refine Goes.exit ?_
    obtain rfl:=si g2
    exact Or.inl (⟨rfl,rfl,(Sub.keep [] rfl rfl)⟩)
 rintro x s' (⟨rfl,rfl,hsub⟩|⟨rfl,q7,rfl,hret⟩)
 ·try dsimp only at h
  refine Goes.sub hsub ?_
  refine sh fol kB3 ?_
  refine Goes.ret ?_
  obtain rfl:=si h
  exact(gw2 [.i 0] (FzW.still tI))
 ·try dsimp only at h
  obtain rfl:=si h
  exact hret
def jH (s_:Str):Nat→Int→Option (Unit⊕Int)
 |0,_=>none
 |K+1,n1=>
  if n1<(s_.length:Int)then
  (idx s_ n1).bind fun c5=>
  if(c5.toNat:Int)=47 then
  some (.inr n1)
  else
  jH s_ K (w64 (n1+1))
  else
  some (.inl ())
def vI (N:Nat) (s_:Str):Option Int:=
 (jH s_ N 0).bind (fun
 |(.inl ())=>
 some (s_.length:Int)
 |(.inr q7)=>
 some q7)
theorem xB (N:Nat) (s_:Str) {res:Int} (h:vI N s_=some res):qb Tryz.prog (.fn 93) [.str s_] [] (.i res) []:=by
 unfold vI at h
 refine Goes.fnW Tryz.func93 rfl rfl (m:=17) rfl (rs:=[.tmp 2]) rfl (l:=(kAQ s_ [])) rfl ?_
 refine sh fol (kAQ s_ []) ?_
 refine sq ?_
 refine sh fol (kAQ s_ [(3,.i 0)]) ?_
 refine Goes.block ?_
 obtain⟨r2,g2,h⟩:=bnd h
 refine Goes.imp (Q:=fun x s'=>(x= .exit 0∧(.inl ())=r2∧Sub s' (ofG 17 (kAQ s_ []),[]))∨(x= .ret∧ ∃q3,(.inr q3)=r2∧vK Tryz.prog [.tmp 2] (.i q3) .ret s')) ?_ ?_
 ·refine Goes.loopS (fun M s=> ∃(n1:Int),s=(ofG 17 (kAQ s_ (kBS n1)),[])∧jH s_ M n1=some r2) ?_ (m:=N) ⟨_,rfl,g2⟩
  rintro M s ⟨n1,rfl,g2⟩
  cases M with
  |zero=>simp only[jH]at g2;cases g2
  |succ M=>
   rw[jH]at g2
   refine sq ?_
   refine sh fol (kAQ s_ [(3,.i n1),(7,.bool (decide (n1<(s_.length:Int))))]) ?_
   refine ihD g2 (fun c4 g2=>?_) (fun c4 g2=>?_)
   ·refine Goes.skip ?_
    refine sq (Goes.block ?_)
    obtain⟨c5,e_c5,g2⟩:=bnd g2
    refine sq (gr fol [2] (kAQ s_ ((3,.i n1)::(kBT (decide ((c5.toNat:Int)=47))))) (ac (hs (.done (.opt (vC Tryz.prog 9 (.str s_) (.i n1))) (.int .u8 (c5.toNat:Int))) (xQ st9 e_c5)) az) ?_)
    refine ihD g2 (fun c6 g2=>?_) (fun c6 g2=>?_)
    ·refine sh fol (kBM n1) ?_
     refine Goes.ret ?_
     obtain rfl:=si g2
     exact Or.inr (⟨rfl,_,rfl,(gw2 [.i n1] (FzW.still tI))⟩)
    ·refine Goes.skip ?_
     refine gh fol (kAQ s_ (kBS (w64 (n1+1)))) ?_
     exact⟨M,(ofG 17 (kAQ s_ (kBS (w64 (n1+1)))),[]),Nat.lt_succ_self _,(Sub.refl _),_,rfl,g2⟩
   ·refine Goes.exit ?_
    obtain rfl:=si g2
    exact Or.inl (⟨rfl,rfl,(Sub.keep [0] rfl rfl)⟩)
 rintro x s' (⟨rfl,rfl,hsub⟩|⟨rfl,q7,rfl,hret⟩)
 ·try dsimp only at h
  refine Goes.sub hsub ?_
  refine sh fol (kBM (s_.length:Int)) ?_
  refine Goes.ret ?_
  obtain rfl:=si h
  exact(gw2 [.i (s_.length:Int)] (FzW.still tI))
 ·try dsimp only at h
  obtain rfl:=si h
  exact hret
def zX (s_:Str):Nat→Int→Option (Unit⊕Bool)
 |0,_=>none
 |K+1,n1=>
  if n1<(s_.length:Int)then
  ((idx s_ n1).bind fun c5=>
  if(c5.toNat:Int)<48 then
  some true
  else
  some (decide ((c5.toNat:Int)>57)):Option Bool).bind fun b7=>
  if b7=true then
  some (.inr false)
  else
  zX s_ K (w64 (n1+1))
  else
  some (.inl ())
def qat (N:Nat) (s_:Str):Option Bool:=
 (zX s_ N 0).bind (fun
 |(.inl ())=>
 some true
 |(.inr q10)=>
 some q10)
theorem qfC (N:Nat) (s_:Str) {res:Bool} (h:qat N s_=some res):qb Tryz.prog (.fn 154) [.str s_] [] (.bool res) []:=by
 unfold qat at h
 refine Goes.fnW Tryz.func154 rfl rfl (m:=20) rfl (rs:=[.tmp 2]) rfl (l:=(kAQ s_ [])) rfl ?_
 refine sh fol (kAQ s_ []) ?_
 refine sq ?_
 refine sh fol (kAQ s_ [(3,.i 0)]) ?_
 refine Goes.block ?_
 obtain⟨r2,g2,h⟩:=bnd h
 refine Goes.imp (Q:=fun x s'=>(x= .exit 0∧(.inl ())=r2∧Sub s' (ofG 20 [],[]))∨(x= .ret∧ ∃q3,(.inr q3)=r2∧vK Tryz.prog [.tmp 2] (.bool q3) .ret s')) ?_ ?_
 ·refine Goes.loopS (fun M s=> ∃(n1:Int),s=(ofG 20 (kAQ s_ (kBS n1)),[])∧zX s_ M n1=some r2) ?_ (m:=N) ⟨_,rfl,g2⟩
  rintro M s ⟨n1,rfl,g2⟩
  cases M with
  |zero=>simp only[zX]at g2;cases g2
  |succ M=>
   rw[zX]at g2
   refine sq ?_
   refine sh fol (kAQ s_ [(3,.i n1),(7,.bool (decide (n1<(s_.length:Int))))]) ?_
   refine ihD g2 (fun c4 g2=>?_) (fun c4 g2=>?_)
   ·refine Goes.skip ?_
    refine sq (Goes.block ?_)
    refine sq ?_
    obtain⟨b7,g_v8,g2⟩:=bnd g2
    refine Goes.cut (s':=(ofG 20 (kAQ s_ [(3,.i n1),(19,.bool b7)]),[])) ?_ ?_
    ·obtain⟨c5,e_c5,g_v8⟩:=bnd g_v8
     rcases wyD g_v8 with⟨c6,g_v8⟩|⟨c6,g_v8⟩
     ·obtain rfl:=si g_v8
      exact tr fol [2,4] (kAQ s_ [(3,.i n1),(19,.bool true)]) (ac (hs (.done (.opt (vC Tryz.prog 9 (.str s_) (.i n1))) (.int .u8 (c5.toNat:Int))) (xQ st9 e_c5)) (ac (gw c6) az))
     ·obtain rfl:=si g_v8
      exact tr fol [2,4,7] (kAQ s_ [(3,.i n1),(19,.bool (decide ((c5.toNat:Int)>57)))]) (ac (hs (.done (.opt (vC Tryz.prog 9 (.str s_) (.i n1))) (.int .u8 (c5.toNat:Int))) (xQ st9 e_c5)) (ac (gw c6) (ac (hs (.done (.opt (vC Tryz.prog 9 (.str s_) (.i n1))) (.int .u8 (c5.toNat:Int))) (xQ st9 e_c5)) az)))
    refine ihB g2 (fun c9 g2=>?_) (fun c9 g2=>?_)
    ·refine sh fol kA7 ?_
     refine Goes.ret ?_
     obtain rfl:=si g2
     exact Or.inr (⟨rfl,_,rfl,(gw2 [.bool false] (FzW.still tB))⟩)
    ·refine Goes.skip ?_
     refine gh fol (kAQ s_ (kBS (w64 (n1+1)))) ?_
     exact⟨M,(ofG 20 (kAQ s_ (kBS (w64 (n1+1)))),[]),Nat.lt_succ_self _,(Sub.refl _),_,rfl,g2⟩
   ·refine Goes.exit ?_
    obtain rfl:=si g2
    exact Or.inl (⟨rfl,rfl,(Sub.keep [] rfl rfl)⟩)
 rintro x s' (⟨rfl,rfl,hsub⟩|⟨rfl,q10,rfl,hret⟩)
 ·try dsimp only at h
  refine Goes.sub hsub ?_
  refine sh fol [(2,.bool true)] ?_
  refine Goes.ret ?_
  obtain rfl:=si h
  exact(gw2 [.bool true] (FzW.still tB))
 ·try dsimp only at h
  obtain rfl:=si h
  exact hret
def zQ (N:Nat) (s_:Str):Option Bool:=
 (if(s_.length:Int)=0 then
 some true
 else
 if(s_.length:Int)>1 then
 (idx s_ 0).bind fun c3=>
 some (decide ((c3.toNat:Int)=48))
 else
 some false:Option Bool).bind fun b4=>
 if b4=true then
 some false
 else
 (qat N s_).bind fun r7=>
 some r7
theorem zI (N:Nat) (s_:Str) {res:Bool} (h:zQ N s_=some res):qb Tryz.prog (.fn 94) [.str s_] [] (.bool res) []:=by
 unfold zQ at h
 refine Goes.fnW Tryz.func94 rfl rfl (m:=18) rfl (rs:=[.tmp 2]) rfl (l:=(kAQ s_ [])) rfl ?_
 refine sh fol (kAQ s_ []) ?_
 refine sq ?_
 refine sq ?_
 obtain⟨b4,g_v5,h⟩:=bnd h
 refine Goes.cut (s':=(ofG 18 (kAQ s_ (kBa b4)),[])) ?_ ?_
 ·rcases wyD g_v5 with⟨c1,g_v5⟩|⟨c1,g_v5⟩
  ·obtain rfl:=si g_v5
   exact tr fol [3] (kAQ s_ [(15,.bool true)]) (ac (gw c1) az)
  ·rcases wyD g_v5 with⟨c2,g_v5⟩|⟨c2,g_v5⟩
   ·obtain⟨c3,e_c3,g_v5⟩:=bnd g_v5
    obtain rfl:=si g_v5
    exact tr fol [3,7,9] (kAQ s_ (kBa (decide ((c3.toNat:Int)=48)))) (ac (gw c1) (ac (gw c2) (ac (hs (.done (.opt (vC Tryz.prog 9 (.str s_) (.i 0))) (.int .u8 (c3.toNat:Int))) (xQ st9 e_c3)) az)))
   ·obtain rfl:=si g_v5
    exact tr fol [3,7] (kAQ s_ [(15,.bool false)]) (ac (gw c1) (ac (gw c2) az))
 refine ihB h (fun c6 h=>?_) (fun c6 h=>?_)
 ·refine sh fol kA7 ?_
  refine Goes.ret ?_
  obtain rfl:=si h
  exact(gw2 [.bool false] (FzW.still tB))
 ·refine Goes.skip ?_
  obtain⟨r7,e_r7,h⟩:=bnd h
  refine sq (gr fol [1] (kBq r7) (ac (cv (qfC N s_ e_r7)) az) ?_)
  refine Goes.ret ?_
  obtain rfl:=si h
  exact(gw2 [.bool r7] (FzW.still tB))
def jJ (s_:Str):Nat→Int→Int→Option Int
 |0,_,_=>none
 |K+1,n1,n2=>
  if n2<(s_.length:Int)then
  (idx s_ n2).bind fun c6=>
  jJ s_ K (w64 ((w64 ((w64 (10*n1))+(w64 (c6.toNat:Int))))-48)) (w64 (n2+1))
  else
  some n1
def yw (N:Nat) (s_:Str):Option Int:=
 (jJ s_ N 0 0).bind fun n3=>
 some n3
theorem qao (N:Nat) (s_:Str) {res:Int} (h:yw N s_=some res):qb Tryz.prog (.fn 167) [.str s_] [] (.i res) []:=by
 unfold yw at h
 refine Goes.fnW Tryz.func167 rfl rfl (m:=20) rfl (rs:=[.tmp 2]) rfl (l:=(kAQ s_ [])) rfl ?_
 refine sh fol (kAQ s_ []) ?_
 refine sh fol (kAQ s_ [(3,.i 0)]) ?_
 refine sq ?_
 refine sh fol (kAQ s_ [(3,.i 0),(4,.i 0)]) ?_
 refine Goes.block ?_
 obtain⟨r4,g4,h⟩:=bnd h
 refine Goes.imp (Q:=fun x s'=>(x= .exit 0∧ ∃n3,n3=r4∧Sub s' (ofG 20 (kBS n3),[]))) ?_ ?_
 ·refine Goes.loopS (fun M s=> ∃(n1:Int) (n2:Int),s=(ofG 20 (kAQ s_ ((3,.i n1)::(kB7 n2))),[])∧jJ s_ M n1 n2=some r4) ?_ (m:=N) ⟨_,_,rfl,g4⟩
  rintro M s ⟨n1,n2,rfl,g4⟩
  cases M with
  |zero=>simp only[jJ]at g4;cases g4
  |succ M=>
   rw[jJ]at g4
   refine sq ?_
   refine sh fol (kAQ s_ ((3,.i n1)::(4,.i n2)::(kAz (decide (n2<(s_.length:Int)))))) ?_
   refine ihD g4 (fun c5 g4=>?_) (fun c5 g4=>?_)
   ·refine Goes.skip ?_
    refine sq (Goes.block ?_)
    obtain⟨c6,e_c6,g4⟩:=bnd g4
    refine gr fol [4] (kAQ s_ ((3,.i (w64 ((w64 ((w64 (10*n1))+(w64 (c6.toNat:Int))))-48)))::(kB7 n2))) (ac (hs (.done (.opt (vC Tryz.prog 9 (.str s_) (.i n2))) (.int .u8 (c6.toNat:Int))) (xQ st9 e_c6)) az) ?_
    refine gh fol (kAQ s_ ((3,.i (w64 ((w64 ((w64 (10*n1))+(w64 (c6.toNat:Int))))-48)))::(kB7 (w64 (n2+1))))) ?_
    exact⟨M,(ofG 20 (kAQ s_ ((3,.i (w64 ((w64 ((w64 (10*n1))+(w64 (c6.toNat:Int))))-48)))::(kB7 (w64 (n2+1))))),[]),Nat.lt_succ_self _,(Sub.refl _),_,_,rfl,g4⟩
   ·refine Goes.exit ?_
    obtain rfl:=si g4
    exact⟨rfl,_,rfl,(Sub.keep [3] rfl rfl)⟩
 rintro x s' ⟨rfl,n3,rfl,hsub⟩
 refine Goes.sub hsub ?_
 refine sh fol (kBM n3) ?_
 refine Goes.ret ?_
 obtain rfl:=si h
 exact(gw2 [.i n3] (FzW.still tI))
def vT:Nat→(List Int)→Option (List Int)
 |0,_=>none
 |K+1,l1=>
  (if(l1.length:Int)>0 then
  (idx l1 (w64 ((l1.length:Int)-1))).bind fun x5=>
  some (decide (x5=0))
  else
  some false:Option Bool).bind fun b6=>
  if b6=true then
  (cut l1 0 (w64 ((l1.length:Int)-1))).bind fun s9=>
  vT K s9
  else
  some l1
def vo (N:Nat) (w:List Int):Option (List Int):=
 (vT N w).bind fun l2=>
 some l2
theorem vW (N:Nat) (w:List Int) {res:List Int} (h:vo N w=some res):qb Tryz.prog (.fn 210) [vl encI w] [] (vl encI res) []:=by
 unfold vo at h
 refine Goes.fnW Tryz.func210 rfl rfl (m:=21) rfl (rs:=[.tmp 2]) rfl (l:=(kAn w [])) rfl ?_
 refine sh fol (kAn w []) ?_
 refine sq (Goes.block ?_)
 obtain⟨r3,g3,h⟩:=bnd h
 refine Goes.imp (Q:=fun x s'=>(x= .exit 0∧ ∃l2,l2=r3∧Sub s' (ofG 21 (kAn l2 []),[]))) ?_ ?_
 ·refine Goes.loopS (fun M s=> ∃(l1:List Int),s=(ofG 21 (kAn l1 []),[])∧vT M l1=some r3) ?_ (m:=N) ⟨_,rfl,g3⟩
  rintro M s ⟨l1,rfl,g3⟩
  cases M with
  |zero=>simp only[vT]at g3;cases g3
  |succ M=>
   rw[vT]at g3
   refine sq ?_
   refine sq ?_
   obtain⟨b6,g_v7,g3⟩:=bnd g3
   refine Goes.cut (s':=(ofG 21 (kAn l1 (kBh b6)),[])) ?_ ?_
   ·rcases wyD g_v7 with⟨c4,g_v7⟩|⟨c4,g_v7⟩
    ·obtain⟨x5,e_x5,g_v7⟩:=bnd g_v7
     obtain rfl:=si g_v7
     exact tr fol [3,8,9] (kAn l1 (kBh (decide (x5=0)))) (ac (gw c4) (ac (iv ja encI e_x5) (ac (lv 0 ce3 encI e_x5 rfl) az)))
    ·obtain rfl:=si g_v7
     exact tr fol [3] (kAn l1 [(14,.bool false)]) (ac (gw c4) az)
   refine ihB g3 (fun c8 g3=>?_) (fun c8 g3=>?_)
   ·refine Goes.skip ?_
    refine Goes.block ?_
    obtain⟨s9,e_s9,g3⟩:=bnd g3
    refine gr fol [4] (kAn s9 []) (ac (hs (.done (.opt (qR Tryz.prog 85 (vl encI l1) none (some (.i (w64 ((l1.length:Int)-1)))) none)) (vl encI s9)) (qkS ja (E:=encI) rfl none (some (w64 ((l1.length:Int)-1))) e_s9)) az) ?_
    exact⟨M,(ofG 21 (kAn s9 []),[]),Nat.lt_succ_self _,(Sub.refl _),_,rfl,g3⟩
   ·refine Goes.exit ?_
    obtain rfl:=si g3
    exact⟨rfl,_,rfl,(Sub.keep [0] rfl rfl)⟩
 rintro x s' ⟨rfl,l2,rfl,hsub⟩
 refine Goes.sub hsub ?_
 refine sh fol [(2,vl encI l2)] ?_
 refine Goes.ret ?_
 obtain rfl:=si h
 exact(gw2 [vl encI l2] (FzW.still (qo encI _ (nl rfl))))
def zm (N:Nat) (neg:Bool) (w:List Int):Option qB:=
 (vo N w).bind fun r1=>
 (if neg=true then
 some (decide ((r1.length:Int)>0))
 else
 some false:Option Bool).bind fun b3=>
 some (⟨b3,r1⟩:qB)
theorem zB (N:Nat) (neg:Bool) (w:List Int) {res:qB} (h:zm N neg w=some res):qb Tryz.prog (.fn 169) (kAr neg w) [] (.agg (kAr res.neg res.w)) []:=by
 unfold zm at h
 refine Goes.fnW Tryz.func169 rfl rfl (m:=15) rfl (rs:=[.cell 4 121]) rfl (l:=[(0,.bool neg),(1,vl encI w)]) rfl ?_
 refine sg fol ((0,.bool neg)::(1,vl encI w)::(kY [])) (kU []) ?_
 obtain⟨r1,e_r1,h⟩:=bnd h
 refine sq (gr fol [1] ((0,.bool neg)::(1,vl encI r1)::(kY [])) (ac (cv (vW N w e_r1)) az) ?_)
 refine sq ?_
 obtain⟨b3,g_v4,h⟩:=bnd h
 refine Goes.cut (s':=(ofG 15 (kY []),(kAW b3 r1 []))) ?_ ?_
 ·rcases wyB g_v4 with⟨c2,g_v4⟩|⟨c2,g_v4⟩
  ·obtain rfl:=si g_v4
   exact xk.rq fol [1] (kY []) (kAW (decide ((r1.length:Int)>0)) r1 []) (ac (gw c2) az)
  ·obtain rfl:=si g_v4
   exact xk.rq fol [1] (kY []) [.cells [.bool false,vl encI r1]] (ac (gw c2) az)
 refine Goes.ret ?_
 obtain rfl:=si h
 exact(gw2 [.agg (kAr b3 r1)] (FzW.agg (qd.cons (FzW.still tB) (qd.cons (FzW.still (qo encI _ (nl rfl))) qd.nil))))
def j6 (N:Nat):Nat→(List Int)→Str→Option ((List Int)×Str)
 |0,_,_=>none
 |K+1,l9,s10=>
  if(s10.length:Int)>9 then
  (cut s10 (w64 ((s10.length:Int)-9)) (s10.length:Int)).bind fun s15=>
  (yw N s15).bind fun r16=>
  (app 8 l9 [r16]).bind fun l17=>
  (cut s10 0 (w64 ((s10.length:Int)-9))).bind fun s18=>
  j6 N K l17 s18
  else
  some (l9,s10)
def xx (N:Nat) (s_:Str):Option qB:=
 (if(s_.length:Int)>0 then
 (idx s_ 0).bind fun c2=>
 some (decide ((c2.toNat:Int)=45))
 else
 some false:Option Bool).bind fun b3=>
 ((if b3=true then
 (cut s_ 1 (s_.length:Int)).bind fun s8=>
 some s8
 else
 some s_:Option Str)).bind fun s5=>
 (j6 N N ([]:List Int) s5).bind fun(l11,s12)=>
 (yw N s12).bind fun r19=>
 (app 8 l11 [r19]).bind fun l20=>
 (zm N b3 l20).bind fun r21=>
 some r21
theorem qbz (N:Nat) (s_:Str) {res:qB} (h:xx N s_=some res):qb Tryz.prog (.fn 113) [.str s_] [] (.agg (kAr res.neg res.w)) []:=by
 unfold xx at h
 refine Goes.fnW Tryz.func113 rfl rfl (m:=40) rfl (rs:=[.cell 2 121]) rfl (l:=(kAQ s_ [])) rfl ?_
 refine sg fol (kAQ s_ (kAM [])) (kU []) ?_
 refine sq ?_
 obtain⟨b3,g_v4,h⟩:=bnd h
 refine Goes.cut (s':=(ofG 40 (kAB s_ b3 []),(kU []))) ?_ ?_
 ·rcases wyD g_v4 with⟨c1,g_v4⟩|⟨c1,g_v4⟩
  ·obtain⟨c2,e_c2,g_v4⟩:=bnd g_v4
   obtain rfl:=si g_v4
   exact tr fol [3,5] (kAB s_ (decide ((c2.toNat:Int)=45)) []) (ac (gw c1) (ac (hs (.done (.opt (vC Tryz.prog 9 (.str s_) (.i 0))) (.int .u8 (c2.toNat:Int))) (xQ st9 e_c2)) az))
  ·obtain rfl:=si g_v4
   exact tr fol [3] (kAQ s_ (kAM [(3,.bool false)])) (ac (gw c1) az)
 refine sq ?_
 refine sh fol (kAB s_ b3 (kBT b3)) ?_
 obtain⟨r6,g6,h⟩:=bnd h
 refine Goes.imp (Q:=fun x s'=>(x= .normal∧ ∃s5,s5=r6∧Sub s' (ofG 40 (kAB s5 b3 []),(kU [])))) ?_ ?_
 ·refine ihB g6 (fun c7 g6=>?_) (fun c7 g6=>?_)
  ·obtain⟨s8,e_s8,g6⟩:=bnd g6
   refine gr fol [1] (kAB s8 b3 []) (ac (hs (.done (.opt (qR Tryz.prog 9 (.str s_) (some (.i 1)) none none)) (.str s8)) (zC st9 (some 1) none e_s8)) az) ?_
   obtain rfl:=si g6
   exact⟨rfl,_,rfl,(Sub.refl _)⟩
  ·refine Goes.skip ?_
   obtain rfl:=si g6
   exact⟨rfl,_,rfl,(Sub.keep [0,2,3] rfl rfl)⟩
 rintro x s' ⟨rfl,s5,rfl,hsub⟩
 refine Goes.sub hsub ?_
 refine sh fol (kAB s5 b3 [(4,.nilslice)]) ?_
 refine sq (Goes.block ?_)
 obtain⟨r13,g13,h⟩:=bnd h
 refine Goes.imp (Q:=fun x s'=>(x= .exit 0∧ ∃l11 s12,(l11,s12)=r13∧Sub s' (ofG 40 (kAB s12 b3 [(4,.gslice 1 l11.length 1)]),(kU (kF l11 []))))) ?_ ?_
 ·refine Goes.sub (s':=(ofG 40 (kAB s5 b3 [(4,.gslice 1 ([]:List Int).length 1)]),(kU kBY))) (Sub.norm [] [some 0,none] rfl rfl (.keep (.same nS) (.kp (.keep (.same nB) (.keep .nil .nil)))) (.kb rfl (.same sn) (.fresh .nil))) ?_
  refine Goes.loopS (fun M s=> ∃(l9:List Int) (s10:Str),s=(ofG 40 (kAB s10 b3 [(4,.gslice 1 l9.length 1)]),(kU (kF l9 [])))∧j6 N M l9 s10=some r13) ?_ (m:=N) ⟨_,_,rfl,g13⟩
  rintro M s ⟨l9,s10,rfl,g13⟩
  cases M with
  |zero=>simp only[j6]at g13;cases g13
  |succ M=>
   rw[j6]at g13
   refine sq ?_
   refine sh fol (kAB s10 b3 [(4,.gslice 1 l9.length 1),(18,.bool (decide ((s10.length:Int)>9)))]) ?_
   refine ihD g13 (fun c14 g13=>?_) (fun c14 g13=>?_)
   ·refine Goes.skip ?_
    refine Goes.block ?_
    obtain⟨s15,e_s15,g13⟩:=bnd g13
    obtain⟨r16,e_r16,g13⟩:=bnd g13
    obtain⟨l17,e_l17,g13⟩:=bnd g13
    refine sq (gq fol [5,6,8] (kAB s10 b3 [(4,.gslice 3 l17.length 1)]) (kU (kBd r16 (kF l17 []))) (ac (hs (.done (.opt (qR Tryz.prog 9 (.str s10) (some (.i (w64 ((s10.length:Int)-9)))) none none)) (.str s15)) (zC st9 (some (w64 ((s10.length:Int)-9))) none e_s15)) (ac (cv (qao N s15 e_r16)) (ac (hs (.run [1,2] (y8 Tryz.prog [85,85] (.gslice 1 l9.length 1) (.slice 2 0 1 1 1)) (kU (kF l9 [.cells [.i r16]])) (.gslice 3 l17.length 1) (kU (kBd r16 (kF l17 []))) true) (qb2 ja (E:=encI) rfl (qgv (E:=encI) (ys:=[r16]) rfl rfl rfl rfl) (qhB (E:=encI) (l:=l9) rfl rfl rfl e_l17 rfl))) az))) ?_)
    obtain⟨s18,e_s18,g13⟩:=bnd g13
    refine gr fol [4] (kAB s18 b3 [(4,.gslice 3 l17.length 1)]) (ac (hs (.done (.opt (qR Tryz.prog 9 (.str s10) none (some (.i (w64 ((s10.length:Int)-9)))) none)) (.str s18)) (zC st9 none (some (w64 ((s10.length:Int)-9))) e_s18)) az) ?_
    exact⟨M,(ofG 40 (kAB s18 b3 [(4,.gslice 1 l17.length 1)]),(kU (kF l17 []))),Nat.lt_succ_self _,(Sub.norm [] [some 0,some 3] rfl rfl (.keep (.same nS) (.kp (.keep (.same nB) (.keep (.gslice rfl) .nil)))) (.kb rfl (.same sn) (.ks .nil))),_,_,rfl,g13⟩
   ·refine Goes.exit ?_
    obtain rfl:=si g13
    exact⟨rfl,_,_,rfl,(Sub.keep [0,2,3,4] rfl rfl)⟩
 rintro x s' ⟨rfl,l11,s12,rfl,hsub⟩
 try dsimp only at h
 refine Goes.sub hsub ?_
 obtain⟨r19,e_r19,h⟩:=bnd h
 obtain⟨l20,e_l20,h⟩:=bnd h
 obtain⟨r21,e_r21,h⟩:=bnd h
 refine sq (gq fol [3,5,6] (kAM []) (kAW r21.neg r21.w (kBd r19 (kAp l20))) (ac (cv (qao N s12 e_r19)) (ac (hs (.run [1,2] (y8 Tryz.prog [85,85] (.gslice 1 l11.length 1) (.slice 2 0 1 1 1)) (kU (kF l11 [.cells [.i r19]])) (.gslice 3 l20.length 1) (kU (kBd r19 (kF l20 []))) true) (qb2 ja (E:=encI) rfl (qgv (E:=encI) (ys:=[r19]) rfl rfl rfl rfl) (qhB (E:=encI) (l:=l11) rfl rfl rfl e_l20 rfl))) (ac (hs (.callF 169 [.bool b3,.gslice 3 l20.length 1] (kU (kBd r19 (kF l20 []))) [3] (kAr b3 l20) (.agg (kAr r21.neg r21.w))) (xZ (FzL.cons (Fz.still tB) (FzL.cons (Fz.gs (E:=encI) rfl rfl (nl rfl)) FzL.nil)) (zB N b3 l20 e_r21) (Still.agg (AllST.cons tB (AllST.cons (qo encI _ (nl rfl)) AllST.nil))))) az))) ?_)
 refine Goes.sub (show Sub (ofG 40 (kAM []),(kAW r21.neg r21.w (kBd r19 (kAp l20)))) (ofG 40 (kAM []),(kAW r21.neg r21.w []))from(Sub.norm [] [some 0] rfl rfl (.kp .nil) (.kb rfl (.same sn) .nil))) ?_
 refine Goes.ret ?_
 obtain rfl:=si h
 exact(gw2 [.agg (kAr r21.neg r21.w)] (FzW.agg (qd.cons (FzW.still tB) (qd.cons (FzW.still (qo encI _ (nl rfl))) qd.nil))))
def jr:Nat→(List Int)→Int→Option (List Int)
 |0,_,_=>none
 |K+1,l1,n2=>
  if(!decide (n2=0))=true then
  ((if(n2.tmod 1000000000)<0 then
  some (w64 (0-(n2.tmod 1000000000)))
  else
  some (n2.tmod 1000000000):Option Int)).bind fun n6=>
  (app 8 l1 [n6]).bind fun l9=>
  jr K l9 (w64 (n2.tdiv 1000000000))
  else
  some l1
def xz (N:Nat) (n:Int):Option qB:=
 (jr N ([]:List Int) n).bind fun l3=>
 (zm N (decide (n<0)) l3).bind fun r10=>
 some r10
theorem qbx (N:Nat) (n:Int) {res:qB} (h:xz N n=some res):qb Tryz.prog (.fn 116) [.i n] [] (.agg (kAr res.neg res.w)) []:=by
 unfold xz at h
 refine Goes.fnW Tryz.func116 rfl rfl (m:=25) rfl (rs:=[.cell 2 121]) rfl (l:=[(0,.i n)]) rfl ?_
 refine sg fol ((0,.i n)::(kAM [])) (kU []) ?_
 refine sh fol ((0,.i n)::(kAM [(3,.nilslice)])) ?_
 refine sh fol ((0,.i n)::(kAM ((3,.nilslice)::(kAl (decide (n<0)))))) ?_
 refine sq (Goes.block ?_)
 obtain⟨r4,g4,h⟩:=bnd h
 refine Goes.imp (Q:=fun x s'=>(x= .exit 0∧ ∃l3,l3=r4∧Sub s' (ofG 25 (kAM (kBl l3 (kAl (decide (n<0))))),(kU (kF l3 []))))) ?_ ?_
 ·refine Goes.sub (s':=(ofG 25 ((0,.i n)::(kAM ((3,.gslice 1 ([]:List Int).length 1)::(kAl (decide (n<0)))))),(kU kBY))) (Sub.norm [] [some 0,none] rfl rfl (.keep (.same nI) (.kp (.keep .nil (.keep (.same nB) .nil)))) (.kb rfl (.same sn) (.fresh .nil))) ?_
  refine Goes.loopS (fun M s=> ∃(l1:List Int) (n2:Int),s=(ofG 25 ((0,.i n2)::(kAM (kBl l1 (kAl (decide (n<0)))))),(kU (kF l1 [])))∧jr M l1 n2=some r4) ?_ (m:=N) ⟨_,_,rfl,g4⟩
  rintro M s ⟨l1,n2,rfl,g4⟩
  cases M with
  |zero=>simp only[jr]at g4;cases g4
  |succ M=>
   rw[jr]at g4
   refine sq ?_
   refine sh fol ((0,.i n2)::(kAM (kBl l1 [(4,.bool (decide (n<0))),(9,.bool (!decide (n2=0)))]))) ?_
   refine ihB g4 (fun c5 g4=>?_) (fun c5 g4=>?_)
   ·refine Goes.skip ?_
    refine Goes.block ?_
    refine sh fol ((0,.i n2)::(kAM (kBl l1 ((4,.bool (decide (n<0)))::(kA5 (n2.tmod 1000000000)))))) ?_
    refine sq ?_
    refine sh fol ((0,.i n2)::(kAM (kBl l1 ((4,.bool (decide (n<0)))::(5,.i (n2.tmod 1000000000))::(kBT (decide ((n2.tmod 1000000000)<0))))))) ?_
    obtain⟨r7,g7,g4⟩:=bnd g4
    refine Goes.imp (Q:=fun x s'=>(x= .normal∧ ∃n6,n6=r7∧Sub s' (ofG 25 ((0,.i n2)::(kAM (kBl l1 ((4,.bool (decide (n<0)))::(kA5 n6))))),(kU (kF l1 []))))) ?_ ?_
    ·refine ihD g7 (fun c8 g7=>?_) (fun c8 g7=>?_)
     ·refine gh fol ((0,.i n2)::(kAM (kBl l1 ((4,.bool (decide (n<0)))::(kA5 (w64 (0-(n2.tmod 1000000000)))))))) ?_
      obtain rfl:=si g7
      exact⟨rfl,_,rfl,(Sub.refl _)⟩
     ·refine Goes.skip ?_
      obtain rfl:=si g7
      exact⟨rfl,_,rfl,(Sub.keep [0,2,3,4,5] rfl rfl)⟩
    rintro x s' ⟨rfl,n6,rfl,hsub⟩
    refine Goes.sub hsub ?_
    obtain⟨l9,e_l9,g4⟩:=bnd g4
    refine sq (gq fol [3] ((0,.i n2)::(kAM ((3,.gslice 3 l9.length 1)::(kAl (decide (n<0)))))) (kU (kBd n6 (kF l9 []))) (ac (hs (.run [1,2] (y8 Tryz.prog [85,85] (.gslice 1 l1.length 1) (.slice 2 0 1 1 1)) (kU (kF l1 [.cells [.i n6]])) (.gslice 3 l9.length 1) (kU (kBd n6 (kF l9 []))) true) (qb2 ja (E:=encI) rfl (qgv (E:=encI) (ys:=[n6]) rfl rfl rfl rfl) (qhB (E:=encI) (l:=l1) rfl rfl rfl e_l9 rfl))) az) ?_)
    refine gh fol ((0,.i (w64 (n2.tdiv 1000000000)))::(kAM ((3,.gslice 3 l9.length 1)::(kAl (decide (n<0)))))) ?_
    exact⟨M,(ofG 25 ((0,.i (w64 (n2.tdiv 1000000000)))::(kAM (kBl l9 (kAl (decide (n<0)))))),(kU (kF l9 []))),Nat.lt_succ_self _,(Sub.norm [] [some 0,some 3] rfl rfl (.keep (.same nI) (.kp (.keep (.gslice rfl) (.keep (.same nB) .nil)))) (.kb rfl (.same sn) (.ks .nil))),_,_,rfl,g4⟩
   ·refine Goes.exit ?_
    obtain rfl:=si g4
    exact⟨rfl,_,rfl,(Sub.keep [2,3,4] rfl rfl)⟩
 rintro x s' ⟨rfl,l3,rfl,hsub⟩
 refine Goes.sub hsub ?_
 obtain⟨r10,e_r10,h⟩:=bnd h
 refine sq (gq fol [2] (kAM []) (kAW r10.neg r10.w (kAp l3)) (ac (hs (.callF 169 [.bool (decide (n<0)),.gslice 1 l3.length 1] (kU (kF l3 [])) [1] (kAr (decide (n<0)) l3) (.agg (kAr r10.neg r10.w))) (xZ (FzL.cons (Fz.still tB) (FzL.cons (Fz.gs (E:=encI) rfl rfl (nl rfl)) FzL.nil)) (zB N (decide (n<0)) l3 e_r10) (Still.agg (AllST.cons tB (AllST.cons (qo encI _ (nl rfl)) AllST.nil))))) az) ?_)
 refine Goes.sub (show Sub (ofG 25 (kAM []),(kAW r10.neg r10.w (kAp l3))) (ofG 25 (kAM []),(kAW r10.neg r10.w []))from(Sub.norm [] [some 0] rfl rfl (.kp .nil) (.kb rfl (.same sn) .nil))) ?_
 refine Goes.ret ?_
 obtain rfl:=si h
 exact(gw2 [.agg (kAr r10.neg r10.w)] (FzW.agg (qd.cons (FzW.still tB) (qd.cons (FzW.still (qo encI _ (nl rfl))) qd.nil))))
def zY (N:Nat) (a:Str):Option (qB×qB):=
 (vI N a).bind fun r1=>
 if r1=(a.length:Int)then
 (xx N a).bind fun r3=>
 (xz N 1).bind fun r4=>
 some (r3,r4)
 else
 (cut a 0 r1).bind fun s5=>
 (xx N s5).bind fun r6=>
 (cut a (w64 (r1+1)) (a.length:Int)).bind fun s7=>
 (xx N s7).bind fun r8=>
 some (r6,r8)
theorem yh (N:Nat) (a:Str) {res:qB×qB} (h:zY N a=some res):qb Tryz.prog (.fn 95) [.str a] [] (.tuple (kAy res.1.neg res.1.w res.2.neg res.2.w)) []:=by
 unfold zY at h
 refine Goes.fnW Tryz.func95 rfl rfl (m:=25) rfl (rs:=[.cell 2 121,.cell 3 121]) rfl (l:=(kAQ a [])) rfl ?_
 refine sg fol (kAQ a (kR [])) (kU (kU [])) ?_
 refine sh fol (kR (kBb a)) ?_
 obtain⟨r1,e_r1,h⟩:=bnd h
 refine sq (gr fol [1] (kR ((4,.str a)::(kA5 r1))) (ac (cv (xB N a e_r1)) az) ?_)
 refine sq ?_
 refine sh fol (kR ((4,.str a)::(5,.i r1)::(kBU (decide (r1=(a.length:Int)))))) ?_
 refine ihD h (fun c2 h=>?_) (fun c2 h=>?_)
 ·obtain⟨r3,e_r3,h⟩:=bnd h
  obtain⟨r4,e_r4,h⟩:=bnd h
  refine sq (gq fol [1,2] (kR []) (kO r3.neg r3.w r4.neg r4.w []) (ac (cv (qbz N a e_r3)) (ac (cv (qbx N 1 e_r4)) az)) ?_)
  refine Goes.ret ?_
  obtain rfl:=si h
  exact(gw2 (kAy r3.neg r3.w r4.neg r4.w) (FzW.tuple (qd.cons (FzW.agg (qd.cons (FzW.still tB) (qd.cons (FzW.still (qo encI _ (nl rfl))) qd.nil))) (qd.cons (FzW.agg (qd.cons (FzW.still tB) (qd.cons (FzW.still (qo encI _ (nl rfl))) qd.nil))) qd.nil))))
 ·refine Goes.skip ?_
  obtain⟨s5,e_s5,h⟩:=bnd h
  obtain⟨r6,e_r6,h⟩:=bnd h
  obtain⟨s7,e_s7,h⟩:=bnd h
  obtain⟨r8,e_r8,h⟩:=bnd h
  refine sq (gq fol [2,3,7,8] (kR []) (kO r6.neg r6.w r8.neg r8.w []) (ac (hs (.done (.opt (qR Tryz.prog 9 (.str a) none (some (.i r1)) none)) (.str s5)) (zC st9 none (some r1) e_s5)) (ac (cv (qbz N s5 e_r6)) (ac (hs (.done (.opt (qR Tryz.prog 9 (.str a) (some (.i (w64 (r1+1)))) none none)) (.str s7)) (zC st9 (some (w64 (r1+1))) none e_s7)) (ac (cv (qbz N s7 e_r8)) az)))) ?_)
  refine Goes.ret ?_
  obtain rfl:=si h
  exact(gw2 (kAy r6.neg r6.w r8.neg r8.w) (FzW.tuple (qd.cons (FzW.agg (qd.cons (FzW.still tB) (qd.cons (FzW.still (qo encI _ (nl rfl))) qd.nil))) (qd.cons (FzW.agg (qd.cons (FzW.still tB) (qd.cons (FzW.still (qo encI _ (nl rfl))) qd.nil))) qd.nil))))
def zi (a:List Int) (b:List Int) (n3:Int):Nat→(List Int)→Int→Int→Option ((List Int)×Int)
 |0,_,_,_=>none
 |K+1,l7,n8,n9=>
  if n9<(b.length:Int)then
  (idx l7 (w64 (n3+n9))).bind fun x14=>
  (idx a n3).bind fun x15=>
  (idx b n9).bind fun x16=>
  (put l7 (w64 (n3+n9)) ((w64 ((w64 (x14+(w64 (x15*x16))))+n8)).tmod 1000000000)).bind fun l17=>
  zi a b n3 K l17 (w64 ((w64 ((w64 (x14+(w64 (x15*x16))))+n8)).tdiv 1000000000)) (w64 (n9+1))
  else
  some (l7,n8)
def zg (N:Nat) (a:List Int) (b:List Int):Nat→(List Int)→Int→Option (List Int)
 |0,_,_=>none
 |K+1,l2,n3=>
  if n3<(a.length:Int)then
  (zi a b n3 N l2 0 0).bind fun(l10,n11)=>
  (idx l10 (w64 (n3+(b.length:Int)))).bind fun x18=>
  (put l10 (w64 (n3+(b.length:Int))) (w64 (x18+n11))).bind fun l19=>
  zg N a b K l19 (w64 (n3+1))
  else
  some l2
def jN (N:Nat) (a:List Int) (b:List Int):Option (List Int):=
 (mk 8 (w64 ((a.length:Int)+(b.length:Int))) 0).bind fun l1=>
 (zg N a b N l1 0).bind fun l4=>
 (vo N l4).bind fun r20=>
 some r20
theorem qab (N:Nat) (a:List Int) (b:List Int) {res:List Int} (h:jN N a b=some res):qb Tryz.prog (.fn 170) (kBg a b) [] (vl encI res) []:=by
 unfold jN at h
 refine Goes.fnW Tryz.func170 rfl rfl (m:=72) rfl (rs:=[.tmp 4]) rfl (l:=(kK a b [])) rfl ?_
 refine sh fol (kK a b []) ?_
 obtain⟨l1,e_l1,h⟩:=bnd h
 refine sq (gq fol [5] (kK a b (kG l1 [])) (kF l1 []) (ac (hs (.run [] (zP Tryz.prog 85 (.i (w64 ((a.length:Int)+(b.length:Int)))) (.i (w64 ((a.length:Int)+(b.length:Int))))) [] (.slice 0 0 l1.length l1.length 1) (kF l1 []) false) (qcI ja (E:=encI) (z:=0) rfl (by kernel_rfl) e_l1 rfl)) az) ?_)
 refine sq ?_
 refine sh fol (kK a b (kG l1 [(6,.i 0)])) ?_
 refine Goes.block ?_
 obtain⟨r5,g5,h⟩:=bnd h
 refine Goes.imp (Q:=fun x s'=>(x= .exit 0∧ ∃l4,l4=r5∧Sub s' (ofG 72 (kG l4 []),(kF l4 [])))) ?_ ?_
 ·refine Goes.loopS (fun M s=> ∃(l2:List Int) (n3:Int),s=(ofG 72 (kK a b (kG l2 (kB4 n3))),(kF l2 []))∧zg N a b M l2 n3=some r5) ?_ (m:=N) ⟨_,_,rfl,g5⟩
  rintro M s ⟨l2,n3,rfl,g5⟩
  cases M with
  |zero=>simp only[zg]at g5;cases g5
  |succ M=>
   rw[zg]at g5
   refine sq ?_
   refine sh fol (kK a b (kG l2 [(6,.i n3),(19,.bool (decide (n3<(a.length:Int))))])) ?_
   refine ihD g5 (fun c6 g5=>?_) (fun c6 g5=>?_)
   ·refine Goes.skip ?_
    refine sq (Goes.block ?_)
    refine sh fol (kK a b (kG l2 [(6,.i n3),(7,.i 0)])) ?_
    refine sq ?_
    refine sh fol (kK a b (kG l2 [(6,.i n3),(7,.i 0),(8,.i 0)])) ?_
    refine Goes.block ?_
    obtain⟨r12,g12,g5⟩:=bnd g5
    refine Goes.imp (Q:=fun x s'=>(x= .exit 2∧ ∃l10 n11,(l10,n11)=r12∧Sub s' (ofG 72 (kK a b (kG l10 (kAV n3 n11 []))),(kF l10 [])))) ?_ ?_
    ·refine Goes.loopS (fun M s=> ∃(l7:List Int) (n8:Int) (n9:Int),s=(ofG 72 (kK a b (kG l7 (kAV n3 n8 (kBw n9)))),(kF l7 []))∧zi a b n3 M l7 n8 n9=some r12) ?_ (m:=N) ⟨_,_,_,rfl,g12⟩
     rintro M s ⟨l7,n8,n9,rfl,g12⟩
     cases M with
     |zero=>simp only[zi]at g12;cases g12
     |succ M=>
      rw[zi]at g12
      refine sq ?_
      refine sh fol (kK a b (kG l7 (kAV n3 n8 [(8,.i n9),(25,.bool (decide (n9<(b.length:Int))))]))) ?_
      refine ihD g12 (fun c13 g12=>?_) (fun c13 g12=>?_)
      ·refine Goes.skip ?_
       refine sq (Goes.block ?_)
       obtain⟨x14,e_x14,g12⟩:=bnd g12
       obtain⟨x15,e_x15,g12⟩:=bnd g12
       obtain⟨x16,e_x16,g12⟩:=bnd g12
       refine sq (gr fol [4,5,8,9,12,13] (kK a b (kG l7 ((6,.i n3)::(kBA n9 (w64 ((w64 (x14+(w64 (x15*x16))))+n8)) [])))) (ac (hs (.done (.opt (qf Tryz.prog 85 (.slice 0 0 l7.length l7.length 1) (.i (w64 (n3+n9))))) (.ptr 0 ((w64 (n3+n9):Int).toNat*1+0))) (xP ja e_x14)) (ac (hs (.run [0] (zJ Tryz.prog 3 (.ptr 0 ((w64 (n3+n9):Int).toNat*1+0))) (kF l7 []) (.i x14) (kF l7 []) false) (qbT ce3 (E:=encI) (l:=l7) rfl rfl e_x14 (nl rfl) rfl)) (ac (iv ja encI e_x15) (ac (lv 0 ce3 encI e_x15 rfl) (ac (iv ja encI e_x16) (ac (lv 0 ce3 encI e_x16 rfl) az)))))) ?_)
       obtain⟨l17,e_l17,g12⟩:=bnd g12
       refine sq (gq fol [6,7] (kK a b (kG l7 ((6,.i n3)::(kBA n9 (w64 ((w64 (x14+(w64 (x15*x16))))+n8)) [])))) (kF l17 []) (ac (hs (.done (.opt (qf Tryz.prog 85 (.slice 0 0 l7.length l7.length 1) (.i (w64 (n3+n9))))) (.ptr 0 ((w64 (n3+n9):Int).toNat*1+0))) (xP ja e_x14)) (ac (hs (.run [0] (qp Tryz.prog 3 (.ptr 0 ((w64 (n3+n9):Int).toNat*1+0)) (.i ((w64 ((w64 (x14+(w64 (x15*x16))))+n8)).tmod 1000000000))) (kF l7 []) .undef (kF l17 []) true) (xu (E:=encI) (l:=l7) (y:=(w64 ((w64 (x14+(w64 (x15*x16))))+n8)).tmod 1000000000) rfl (show _=some 1 by kernel_rfl) rfl e_x14 rfl rfl rfl rfl rfl e_l17 rfl)) az)) ?_)
       refine Goes.sub (show Sub (ofG 72 (kK a b (kG l7 ((6,.i n3)::(kBA n9 (w64 ((w64 (x14+(w64 (x15*x16))))+n8)) [])))),(kF l17 [])) (ofG 72 (kK a b (kG l17 ((6,.i n3)::(kBA n9 (w64 ((w64 (x14+(w64 (x15*x16))))+n8)) [])))),(kF l17 []))from(Sub.norm [] [some 0] rfl rfl (.keep (.same (qg encI _)) (.keep (.same (qg encI _)) (.keep (.sliceE rfl (jP e_l17)) (.keep (.same nI) (.keep (.same nI) (.keep (.same nI) .nil)))))) (.ks .nil))) ?_
       refine gh fol (kK a b (kG l17 (kAV n3 (w64 ((w64 ((w64 (x14+(w64 (x15*x16))))+n8)).tdiv 1000000000)) (kBw n9)))) ?_
       refine gh fol (kK a b (kG l17 (kAV n3 (w64 ((w64 ((w64 (x14+(w64 (x15*x16))))+n8)).tdiv 1000000000)) (kBw (w64 (n9+1)))))) ?_
       exact⟨M,(ofG 72 (kK a b (kG l17 (kAV n3 (w64 ((w64 ((w64 (x14+(w64 (x15*x16))))+n8)).tdiv 1000000000)) (kBw (w64 (n9+1)))))),(kF l17 [])),Nat.lt_succ_self _,(Sub.refl _),_,_,_,rfl,g12⟩
      ·refine Goes.exit ?_
       obtain rfl:=si g12
       exact⟨rfl,_,_,rfl,(Sub.keep [0,1,5,6,7] rfl rfl)⟩
    rintro x s' ⟨rfl,l10,n11,rfl,hsub⟩
    try dsimp only at g5
    refine Goes.sub hsub ?_
    obtain⟨x18,e_x18,g5⟩:=bnd g5
    obtain⟨l19,e_l19,g5⟩:=bnd g5
    refine gq fol [10,11,14,15] (kK a b (kG l10 (kB4 n3))) (kF l19 []) (ac (hs (.done (.opt (qf Tryz.prog 85 (.slice 0 0 l10.length l10.length 1) (.i (w64 (n3+(b.length:Int)))))) (.ptr 0 ((w64 (n3+(b.length:Int)):Int).toNat*1+0))) (xP ja e_x18)) (ac (hs (.run [0] (zJ Tryz.prog 3 (.ptr 0 ((w64 (n3+(b.length:Int)):Int).toNat*1+0))) (kF l10 []) (.i x18) (kF l10 []) false) (qbT ce3 (E:=encI) (l:=l10) rfl rfl e_x18 (nl rfl) rfl)) (ac (hs (.done (.opt (qf Tryz.prog 85 (.slice 0 0 l10.length l10.length 1) (.i (w64 (n3+(b.length:Int)))))) (.ptr 0 ((w64 (n3+(b.length:Int)):Int).toNat*1+0))) (xP ja e_x18)) (ac (hs (.run [0] (qp Tryz.prog 3 (.ptr 0 ((w64 (n3+(b.length:Int)):Int).toNat*1+0)) (.i (w64 (x18+n11)))) (kF l10 []) .undef (kF l19 []) true) (xu (E:=encI) (l:=l10) (y:=w64 (x18+n11)) rfl (show _=some 1 by kernel_rfl) rfl e_x18 rfl rfl rfl rfl rfl e_l19 rfl)) az)))) ?_
    refine Goes.sub (show Sub (ofG 72 (kK a b (kG l10 (kB4 n3))),(kF l19 [])) (ofG 72 (kK a b (kG l19 (kB4 n3))),(kF l19 []))from(Sub.norm [] [some 0] rfl rfl (.keep (.same (qg encI _)) (.keep (.same (qg encI _)) (.keep (.sliceE rfl (jP e_l19)) (.keep (.same nI) .nil)))) (.ks .nil))) ?_
    refine gh fol (kK a b (kG l19 (kB4 (w64 (n3+1))))) ?_
    exact⟨M,(ofG 72 (kK a b (kG l19 (kB4 (w64 (n3+1))))),(kF l19 [])),Nat.lt_succ_self _,(Sub.refl _),_,_,rfl,g5⟩
   ·refine Goes.exit ?_
    obtain rfl:=si g5
    exact⟨rfl,_,rfl,(Sub.keep [5] rfl rfl)⟩
 rintro x s' ⟨rfl,l4,rfl,hsub⟩
 refine Goes.sub hsub ?_
 obtain⟨r20,e_r20,h⟩:=bnd h
 refine sq (gq fol [1] [(4,vl encI r20)] (kAp l4) (ac (hs (.callF 210 [.slice 0 0 l4.length l4.length 1] (kF l4 []) [0] [vl encI l4] (vl encI r20)) (xZ (FzL.cons (Fz.sl (E:=encI) rfl rfl (nl rfl)) FzL.nil) (vW N l4 e_r20) (qo encI _ (nl rfl)))) az) ?_)
 refine Goes.sub (show Sub (ofG 72 [(4,vl encI r20)],(kAp l4)) (ofG 72 [(4,vl encI r20)],[])from(Sub.norm [] [] rfl rfl (.keep (.same (qg encI _)) .nil) .nil)) ?_
 refine Goes.ret ?_
 obtain rfl:=si h
 exact(gw2 [vl encI r20] (FzW.still (qo encI _ (nl rfl))))
def qV (a:List Int) (b:List Int):Nat→Int→Option (Unit⊕Int)
 |0,_=>none
 |K+1,n3=>
  if n3≥0 then
  (idx a n3).bind fun x7=>
  (idx b n3).bind fun x8=>
  if x7<x8 then
  some (.inr (-1))
  else
  if x7>x8 then
  some (.inr 1)
  else
  qV a b K (w64 (n3-1))
  else
  some (.inl ())
def zR (N:Nat) (a:List Int) (b:List Int):Option Int:=
 if(!decide ((a.length:Int)=(b.length:Int)))=true then
 if(a.length:Int)<(b.length:Int)then
 some (-1)
 else
 some 1
 else
 (qV a b N (w64 ((a.length:Int)-1))).bind (fun
 |(.inl ())=>
 some 0
 |(.inr q11)=>
 some q11)
theorem qaD (N:Nat) (a:List Int) (b:List Int) {res:Int} (h:zR N a b=some res):qb Tryz.prog (.fn 172) (kBg a b) [] (.i res) []:=by
 unfold zR at h
 refine Goes.fnW Tryz.func172 rfl rfl (m:=41) rfl (rs:=[.tmp 4]) rfl (l:=(kK a b [])) rfl ?_
 refine sh fol (kK a b []) ?_
 refine sq ?_
 refine sh fol (kK a b (kBV (!decide ((a.length:Int)=(b.length:Int))))) ?_
 refine ihB h (fun c1 h=>?_) (fun c1 h=>?_)
 ·refine sq ?_
  refine sh fol (kBa (decide ((a.length:Int)<(b.length:Int)))) ?_
  refine ihD h (fun c2 h=>?_) (fun c2 h=>?_)
  ·refine sh fol [(4,.i (-1))] ?_
   refine Goes.ret ?_
   obtain rfl:=si h
   exact(gw2 [.i (-1)] (FzW.still tI))
  ·refine Goes.skip ?_
   refine sh fol [(4,.i 1)] ?_
   refine Goes.ret ?_
   obtain rfl:=si h
   exact(gw2 [.i 1] (FzW.still tI))
 ·refine Goes.skip ?_
  refine sq ?_
  refine sh fol (kK a b (kA5 (w64 ((a.length:Int)-1)))) ?_
  refine Goes.block ?_
  obtain⟨r4,g4,h⟩:=bnd h
  refine Goes.imp (Q:=fun x s'=>(x= .exit 0∧(.inl ())=r4∧Sub s' (ofG 41 [],[]))∨(x= .ret∧ ∃q5,(.inr q5)=r4∧vK Tryz.prog [.tmp 4] (.i q5) .ret s')) ?_ ?_
  ·refine Goes.loopS (fun M s=> ∃(n3:Int),s=(ofG 41 (kK a b (kA5 n3)),[])∧qV a b M n3=some r4) ?_ (m:=N) ⟨_,rfl,g4⟩
   rintro M s ⟨n3,rfl,g4⟩
   cases M with
   |zero=>simp only[qV]at g4;cases g4
   |succ M=>
    rw[qV]at g4
    refine sq ?_
    refine sh fol (kK a b [(5,.i n3),(20,.bool (decide (n3≥0)))]) ?_
    refine ihD g4 (fun c6 g4=>?_) (fun c6 g4=>?_)
    ·refine Goes.skip ?_
     refine sq (Goes.block ?_)
     refine sq ?_
     obtain⟨x7,e_x7,g4⟩:=bnd g4
     obtain⟨x8,e_x8,g4⟩:=bnd g4
     refine sq (gr fol [2,3,6,7] (kK a b [(5,.i n3),(31,.bool (decide (x7<x8)))]) (ac (iv ja encI e_x7) (ac (lv 0 ce3 encI e_x7 rfl) (ac (iv ja encI e_x8) (ac (lv 0 ce3 encI e_x8 rfl) az)))) ?_)
     refine ihD g4 (fun c9 g4=>?_) (fun c9 g4=>?_)
     ·refine sh fol [(4,.i (-1))] ?_
      refine Goes.ret ?_
      obtain rfl:=si g4
      exact Or.inr (⟨rfl,_,rfl,(gw2 [.i (-1)] (FzW.still tI))⟩)
     ·refine Goes.skip ?_
      refine sq (gr fol [2,3,6,7] (kK a b [(5,.i n3),(40,.bool (decide (x7>x8)))]) (ac (iv ja encI e_x7) (ac (lv 0 ce3 encI e_x7 rfl) (ac (iv ja encI e_x8) (ac (lv 0 ce3 encI e_x8 rfl) az)))) ?_)
      refine ihD g4 (fun c10 g4=>?_) (fun c10 g4=>?_)
      ·refine sh fol [(4,.i 1)] ?_
       refine Goes.ret ?_
       obtain rfl:=si g4
       exact Or.inr (⟨rfl,_,rfl,(gw2 [.i 1] (FzW.still tI))⟩)
      ·refine Goes.skip ?_
       refine gh fol (kK a b (kA5 (w64 (n3-1)))) ?_
       exact⟨M,(ofG 41 (kK a b (kA5 (w64 (n3-1)))),[]),Nat.lt_succ_self _,(Sub.refl _),_,rfl,g4⟩
    ·refine Goes.exit ?_
     obtain rfl:=si g4
     exact Or.inl (⟨rfl,rfl,(Sub.keep [] rfl rfl)⟩)
  rintro x s' (⟨rfl,rfl,hsub⟩|⟨rfl,q11,rfl,hret⟩)
  ·try dsimp only at h
   refine Goes.sub hsub ?_
   refine sh fol [(4,.i 0)] ?_
   refine Goes.ret ?_
   obtain rfl:=si h
   exact(gw2 [.i 0] (FzW.still tI))
  ·try dsimp only at h
   obtain rfl:=si h
   exact hret
def zq (a:List Int) (d:Int):Nat→(List Int)→Int→Int→Option ((List Int)×Int)
 |0,_,_,_=>none
 |K+1,l2,n3,n4=>
  if n4≥0 then
  (idx a n4).bind fun x9=>
  (qbK .i64 (w64 ((w64 (n3*1000000000))+x9)) d).bind fun q10=>
  (idx l2 n4).bind fun x11=>
  (put l2 n4 q10).bind fun l12=>
  (qdu .i64 (w64 ((w64 (n3*1000000000))+x9)) d).bind fun q13=>
  zq a d K l12 q13 (w64 (n4-1))
  else
  some (l2,n3)
def vZ (N:Nat) (a:List Int) (d:Int):Option ((List Int)×Int):=
 (mk 8 (a.length:Int) 0).bind fun l1=>
 (zq a d N l1 0 (w64 ((a.length:Int)-1))).bind fun(l5,n6)=>
 (vo N l5).bind fun r14=>
 some (r14,n6)
theorem qb0 (N:Nat) (a:List Int) (d:Int) {res:(List Int)×Int} (h:vZ N a d=some res):qb Tryz.prog (.fn 209) [vl encI a,.i d] [] (.tuple [vl encI res.1,.i res.2]) []:=by
 unfold vZ at h
 refine Goes.fnW Tryz.func209 rfl rfl (m:=39) rfl (rs:=[.tmp 4,.tmp 5]) rfl (l:=(kAn a [(1,.i d)])) rfl ?_
 refine sh fol (kAn a [(1,.i d)]) ?_
 obtain⟨l1,e_l1,h⟩:=bnd h
 refine sq (gq fol [2] (kAn a ((1,.i d)::(kAA l1 []))) (kF l1 []) (ac (hs (.run [] (zP Tryz.prog 85 (.i (a.length:Int)) (.i (a.length:Int))) [] (.slice 0 0 l1.length l1.length 1) (kF l1 []) false) (qcI ja (E:=encI) (z:=0) rfl (by kernel_rfl) e_l1 rfl)) az) ?_)
 refine sh fol (kAn a ((1,.i d)::(kAA l1 [(7,.i 0)]))) ?_
 refine sq ?_
 refine sh fol (kAn a ((1,.i d)::(kAA l1 ((7,.i 0)::(kBw (w64 ((a.length:Int)-1))))))) ?_
 refine Goes.block ?_
 obtain⟨r7,g7,h⟩:=bnd h
 refine Goes.imp (Q:=fun x s'=>(x= .exit 0∧ ∃l5 n6,(l5,n6)=r7∧Sub s' (ofG 39 (kAA l5 [(7,.i n6)]),(kF l5 [])))) ?_ ?_
 ·refine Goes.loopS (fun M s=> ∃(l2:List Int) (n3:Int) (n4:Int),s=(ofG 39 (kAn a ((1,.i d)::(kAA l2 (kAh n3 n4)))),(kF l2 []))∧zq a d M l2 n3 n4=some r7) ?_ (m:=N) ⟨_,_,_,rfl,g7⟩
  rintro M s ⟨l2,n3,n4,rfl,g7⟩
  cases M with
  |zero=>simp only[zq]at g7;cases g7
  |succ M=>
   rw[zq]at g7
   refine sq ?_
   refine sh fol (kAn a ((1,.i d)::(kAA l2 [(7,.i n3),(8,.i n4),(17,.bool (decide (n4≥0)))]))) ?_
   refine ihD g7 (fun c8 g7=>?_) (fun c8 g7=>?_)
   ·refine Goes.skip ?_
    refine sq (Goes.block ?_)
    obtain⟨x9,e_x9,g7⟩:=bnd g7
    refine sq (gr fol [4,5] (kAn a ((1,.i d)::(kAA l2 (kBA n4 (w64 ((w64 (n3*1000000000))+x9)) [])))) (ac (iv ja encI e_x9) (ac (lv 0 ce3 encI e_x9 rfl) az)) ?_)
    obtain⟨q10,e_q10,g7⟩:=bnd g7
    obtain⟨x11,e_x11,g7⟩:=bnd g7
    obtain⟨l12,e_l12,g7⟩:=bnd g7
    refine sq (gq fol [4,5,6] (kAn a ((1,.i d)::(kAA l2 (kBA n4 (w64 ((w64 (n3*1000000000))+x9)) [])))) (kF l12 []) (ac (hs (.done (.opt (qY Tryz.prog .quo 3 (.tmp 29) (.tmp 30) (.i (w64 ((w64 (n3*1000000000))+x9))) (.i d))) (.i q10)) (qbe e_q10)) (ac (hs (.done (.opt (qf Tryz.prog 85 (.slice 0 0 l2.length l2.length 1) (.i n4))) (.ptr 0 ((n4:Int).toNat*1+0))) (xP ja e_x11)) (ac (hs (.run [0] (qp Tryz.prog 3 (.ptr 0 ((n4:Int).toNat*1+0)) (.i q10)) (kF l2 []) .undef (kF l12 []) true) (xu (E:=encI) (l:=l2) (y:=q10) rfl (show _=some 1 by kernel_rfl) rfl e_x11 rfl rfl rfl rfl rfl e_l12 rfl)) az))) ?_)
    refine Goes.sub (show Sub (ofG 39 (kAn a ((1,.i d)::(kAA l2 (kBA n4 (w64 ((w64 (n3*1000000000))+x9)) [])))),(kF l12 [])) (ofG 39 (kAn a ((1,.i d)::(kAA l12 (kBA n4 (w64 ((w64 (n3*1000000000))+x9)) [])))),(kF l12 []))from(Sub.norm [] [some 0] rfl rfl (.keep (.same (qg encI _)) (.keep (.same nI) (.keep (.sliceE rfl (jP e_l12)) (.keep (.same nI) (.keep (.same nI) .nil))))) (.ks .nil))) ?_
    obtain⟨q13,e_q13,g7⟩:=bnd g7
    refine gr fol [2] (kAn a ((1,.i d)::(kAA l12 (kAh q13 n4)))) (ac (hs (.done (.opt (qY Tryz.prog .rem 3 (.tmp 33) (.tmp 34) (.i (w64 ((w64 (n3*1000000000))+x9))) (.i d))) (.i q13)) (qeB e_q13)) az) ?_
    refine gh fol (kAn a ((1,.i d)::(kAA l12 (kAh q13 (w64 (n4-1)))))) ?_
    exact⟨M,(ofG 39 (kAn a ((1,.i d)::(kAA l12 (kAh q13 (w64 (n4-1)))))),(kF l12 [])),Nat.lt_succ_self _,(Sub.refl _),_,_,_,rfl,g7⟩
   ·refine Goes.exit ?_
    obtain rfl:=si g7
    exact⟨rfl,_,_,rfl,(Sub.keep [6,7] rfl rfl)⟩
 rintro x s' ⟨rfl,l5,n6,rfl,hsub⟩
 try dsimp only at h
 refine Goes.sub hsub ?_
 obtain⟨r14,e_r14,h⟩:=bnd h
 refine sq (gq fol [1] ((4,vl encI r14)::(kA5 n6)) (kAp l5) (ac (hs (.callF 210 [.slice 0 0 l5.length l5.length 1] (kF l5 []) [0] [vl encI l5] (vl encI r14)) (xZ (FzL.cons (Fz.sl (E:=encI) rfl rfl (nl rfl)) FzL.nil) (vW N l5 e_r14) (qo encI _ (nl rfl)))) az) ?_)
 refine Goes.sub (show Sub (ofG 39 ((4,vl encI r14)::(kA5 n6)),(kAp l5)) (ofG 39 ((4,vl encI r14)::(kA5 n6)),[])from(Sub.norm [] [] rfl rfl (.keep (.same (qg encI _)) (.keep (.same nI) .nil)) .nil)) ?_
 refine Goes.ret ?_
 obtain rfl:=si h
 exact(gw2 [vl encI r14,.i n6] (FzW.tuple (qd.cons (FzW.still (qo encI _ (nl rfl))) (qd.cons (FzW.still tI) qd.nil))))
def jw (u:List Int) (v:List Int) (j:Int):Nat→Int→Int→Option (Int⊕Int)
 |0,_,_=>none
 |K+1,n6,n7=>
  (if n7≥1000000000 then
  some true
  else
  (idx v (w64 ((v.length:Int)-2))).bind fun x12=>
  (idx u (w64 ((w64 (j+(v.length:Int)))-2))).bind fun x13=>
  some (decide ((w64 (n7*x12))>(w64 ((w64 (n6*1000000000))+x13)))):Option Bool).bind fun b14=>
  if b14=true then
  (idx v (w64 ((v.length:Int)-1))).bind fun x17=>
  if(w64 (n6+x17))≥1000000000 then
  some (.inr (w64 (n7-1)))
  else
  jw u v j K (w64 (n6+x17)) (w64 (n7-1))
  else
  some (.inl n7)
def xn (N:Nat) (u:List Int) (v:List Int) (j:Int):Option Int:=
 (idx u (w64 (j+(v.length:Int)))).bind fun x1=>
 (idx u (w64 ((w64 (j+(v.length:Int)))-1))).bind fun x2=>
 (idx v (w64 ((v.length:Int)-1))).bind fun x3=>
 (qbK .i64 (w64 ((w64 (x1*1000000000))+x2)) x3).bind fun q4=>
 (qdu .i64 (w64 ((w64 (x1*1000000000))+x2)) x3).bind fun q5=>
 (jw u v j N q5 q4).bind (fun
 |(.inl n8)=>
 some n8
 |(.inr q19)=>
 some q19)
theorem qf9 (N:Nat) (u:List Int) (v:List Int) (j:Int) {res:Int} (h:xn N u v j=some res):qb Tryz.prog (.fn 211) [vl encI u,vl encI v,.i j] [] (.i res) []:=by
 unfold xn at h
 refine Goes.fnW Tryz.func211 rfl rfl (m:=77) rfl (rs:=[.tmp 6]) rfl (l:=(kK u v (kBM j))) rfl ?_
 refine sh fol (kK u v (kBM j)) ?_
 refine sh fol (kK u v [(2,.i j),(7,.i (v.length:Int))]) ?_
 obtain⟨x1,e_x1,h⟩:=bnd h
 obtain⟨x2,e_x2,h⟩:=bnd h
 refine sq (gr fol [4,5,12,13] (kK u v ((2,.i j)::(kAh (v.length:Int) (w64 ((w64 (x1*1000000000))+x2))))) (ac (iv ja encI e_x1) (ac (lv 0 ce3 encI e_x1 rfl) (ac (iv ja encI e_x2) (ac (lv 0 ce3 encI e_x2 rfl) az)))) ?_)
 obtain⟨x3,e_x3,h⟩:=bnd h
 obtain⟨q4,e_q4,h⟩:=bnd h
 obtain⟨q5,e_q5,h⟩:=bnd h
 refine sq (gr fol [4,5,6,11,12,13] (kK u v (kA8 j (v.length:Int) q4 q5 [])) (ac (iv ja encI e_x3) (ac (lv 0 ce3 encI e_x3 rfl) (ac (hs (.done (.opt (qY Tryz.prog .quo 3 (.tmp 28) (.tmp 33) (.i (w64 ((w64 (x1*1000000000))+x2))) (.i x3))) (.i q4)) (qbe e_q4)) (ac (iv ja encI e_x3) (ac (lv 0 ce3 encI e_x3 rfl) (ac (hs (.done (.opt (qY Tryz.prog .rem 3 (.tmp 35) (.tmp 40) (.i (w64 ((w64 (x1*1000000000))+x2))) (.i x3))) (.i q5)) (qeB e_q5)) az)))))) ?_)
 refine sq (Goes.block ?_)
 obtain⟨r9,g9,h⟩:=bnd h
 refine Goes.imp (Q:=fun x s'=>(x= .exit 0∧ ∃n8,(.inl n8)=r9∧Sub s' (ofG 77 [(9,.i n8)],[]))∨(x= .ret∧ ∃q10,(.inr q10)=r9∧vK Tryz.prog [.tmp 6] (.i q10) .ret s')) ?_ ?_
 ·refine Goes.loopS (fun M s=> ∃(n6:Int) (n7:Int),s=(ofG 77 (kK u v (kA8 j (v.length:Int) n7 n6 [])),[])∧jw u v j M n6 n7=some r9) ?_ (m:=N) ⟨_,_,rfl,g9⟩
  rintro M s ⟨n6,n7,rfl,g9⟩
  cases M with
  |zero=>simp only[jw]at g9;cases g9
  |succ M=>
   rw[jw]at g9
   refine sq ?_
   refine sq ?_
   obtain⟨b14,g_v15,g9⟩:=bnd g9
   refine Goes.cut (s':=(ofG 77 (kK u v (kA8 j (v.length:Int) n7 n6 [(63,.bool b14)])),[])) ?_ ?_
   ·rcases wyD g_v15 with⟨c11,g_v15⟩|⟨c11,g_v15⟩
    ·obtain rfl:=si g_v15
     exact tr fol [2] (kK u v (kA8 j (v.length:Int) n7 n6 [(63,.bool true)])) (ac (gw c11) az)
    ·obtain⟨x12,e_x12,g_v15⟩:=bnd g_v15
     obtain⟨x13,e_x13,g_v15⟩:=bnd g_v15
     obtain rfl:=si g_v15
     exact tr fol [2,7,8,17,18] (kK u v (kA8 j (v.length:Int) n7 n6 [(63,.bool (decide ((w64 (n7*x12))>(w64 ((w64 (n6*1000000000))+x13)))))])) (ac (gw c11) (ac (iv ja encI e_x12) (ac (lv 0 ce3 encI e_x12 rfl) (ac (iv ja encI e_x13) (ac (lv 0 ce3 encI e_x13 rfl) az)))))
   refine ihB g9 (fun c16 g9=>?_) (fun c16 g9=>?_)
   ·refine Goes.skip ?_
    refine Goes.block ?_
    refine sh fol (kK u v (kA8 j (v.length:Int) (w64 (n7-1)) n6 [])) ?_
    obtain⟨x17,e_x17,g9⟩:=bnd g9
    refine sq (gr fol [4,5] (kK u v (kA8 j (v.length:Int) (w64 (n7-1)) (w64 (n6+x17)) [])) (ac (iv ja encI e_x17) (ac (lv 0 ce3 encI e_x17 rfl) az)) ?_)
    refine sh fol (kK u v (kA8 j (v.length:Int) (w64 (n7-1)) (w64 (n6+x17)) [(74,.bool (decide ((w64 (n6+x17))≥1000000000)))])) ?_
    refine ihD g9 (fun c18 g9=>?_) (fun c18 g9=>?_)
    ·refine sh fol (kB4 (w64 (n7-1))) ?_
     refine Goes.ret ?_
     obtain rfl:=si g9
     exact Or.inr (⟨rfl,_,rfl,(gw2 [.i (w64 (n7-1))] (FzW.still tI))⟩)
    ·refine Goes.skip ?_
     exact⟨M,(ofG 77 (kK u v (kA8 j (v.length:Int) (w64 (n7-1)) (w64 (n6+x17)) [])),[]),Nat.lt_succ_self _,(Sub.keep [0,1,2,7,9,10] rfl rfl),_,_,rfl,g9⟩
   ·refine Goes.exit ?_
    obtain rfl:=si g9
    exact Or.inl (⟨rfl,_,rfl,(Sub.keep [9] rfl rfl)⟩)
 rintro x s' (⟨rfl,n8,rfl,hsub⟩|⟨rfl,q19,rfl,hret⟩)
 ·try dsimp only at h
  refine Goes.sub hsub ?_
  refine sh fol (kB4 n8) ?_
  refine Goes.ret ?_
  obtain rfl:=si h
  exact(gw2 [.i n8] (FzW.still tI))
 ·try dsimp only at h
  obtain rfl:=si h
  exact hret
def zD (a:List Int):Nat→(List Int)→Option (List Int)
 |0,_=>none
 |K+1,l12=>
  if(l12.length:Int)<(w64 ((a.length:Int)+1))then
  (app 8 l12 [0]).bind fun l16=>
  zD a K l16
  else
  some l12
def qP (r9:List Int) (n20:Int) (r25:Int):Nat→(List Int)→Int→Int→Option ((List Int)×Int)
 |0,_,_,_=>none
 |K+1,l26,n27,n28=>
  if n28<(r9.length:Int)then
  (idx r9 n28).bind fun x33=>
  (idx l26 (w64 (n28+n20))).bind fun x34=>
  ((if(w64 (x34-((w64 ((w64 (r25*x33))+n27)).tmod 1000000000)))<0 then
  some (w64 ((w64 ((w64 ((w64 (r25*x33))+n27)).tdiv 1000000000))+1),w64 ((w64 (x34-((w64 ((w64 (r25*x33))+n27)).tmod 1000000000)))+1000000000))
  else
  some (w64 ((w64 ((w64 (r25*x33))+n27)).tdiv 1000000000),w64 (x34-((w64 ((w64 (r25*x33))+n27)).tmod 1000000000))):Option (Int×Int))).bind fun(n35,n36)=>
  (put l26 (w64 (n28+n20)) n36).bind fun l39=>
  qP r9 n20 r25 K l39 n35 (w64 (n28+1))
  else
  some (l26,n27)
def kr (r9:List Int) (n20:Int) (r25:Int):Nat→(List Int)→Int→Int→Option ((List Int)×Int×Int)
 |0,_,_,_=>none
 |K+1,l47,n48,n49=>
  if n49<(r9.length:Int)then
  (idx l47 (w64 (n49+n20))).bind fun x55=>
  (idx r9 n49).bind fun x56=>
  (put l47 (w64 (n49+n20)) ((w64 ((w64 (x55+x56))+n48)).tmod 1000000000)).bind fun l57=>
  kr r9 n20 r25 K l57 (w64 ((w64 ((w64 (x55+x56))+n48)).tdiv 1000000000)) (w64 (n49+1))
  else
  some (l47,w64 (r25-1),n48)
def zf (N:Nat) (r9:List Int):Nat→(List Int)→(List Int)→Int→Option ((List Int)×(List Int))
 |0,_,_,_=>none
 |K+1,l18,l19,n20=>
  if n20≥0 then
  (xn N l18 r9 n20).bind fun r25=>
  (qP r9 n20 r25 N l18 0 0).bind fun(l29,n30)=>
  (idx l29 (w64 (n20+(r9.length:Int)))).bind fun x40=>
  (put l29 (w64 (n20+(r9.length:Int))) (w64 (x40-n30))).bind fun l41=>
  (idx l41 (w64 (n20+(r9.length:Int)))).bind fun x42=>
  ((if x42<0 then
  (kr r9 n20 r25 N l41 0 0).bind fun(l50,n51,n52)=>
  (idx l50 (w64 (n20+(r9.length:Int)))).bind fun x58=>
  (put l50 (w64 (n20+(r9.length:Int))) (w64 (x58+n52))).bind fun l59=>
  some (l59,n51)
  else
  some (l41,r25):Option ((List Int)×Int))).bind fun(l43,n44)=>
  (idx l19 n20).bind fun x60=>
  (put l19 n20 n44).bind fun l61=>
  zf N r9 K l43 l61 (w64 (n20-1))
  else
  some (l18,l19)
def zU (N:Nat) (a:List Int) (b:List Int):Option ((List Int)×(List Int)):=
 (zR N a b).bind fun r1=>
 if r1<0 then
 some ([],a)
 else
 if(b.length:Int)=1 then
 (idx b 0).bind fun x4=>
 (vZ N a x4).bind fun r5=>
 (vo N ([r5.2]:List Int)).bind fun r6=>
 some (r5.1,r6)
 else
 (idx b (w64 ((b.length:Int)-1))).bind fun x7=>
 (qbK .i64 1000000000 (w64 (x7+1))).bind fun q8=>
 (jN N b ([q8]:List Int)).bind fun r9=>
 (jN N a ([q8]:List Int)).bind fun r10=>
 (app 8 ([]:List Int) r10).bind fun l11=>
 (zD a N l11).bind fun l13=>
 (mk 8 (w64 ((l13.length:Int)-(r9.length:Int))) 0).bind fun l17=>
 (zf N r9 N l13 l17 (w64 ((w64 ((l13.length:Int)-(r9.length:Int)))-1))).bind fun(l21,l22)=>
 (cut l21 0 (r9.length:Int)).bind fun s62=>
 (vo N s62).bind fun r63=>
 (idx ([q8]:List Int) 0).bind fun x64=>
 (vZ N r63 x64).bind fun r65=>
 (vo N l22).bind fun r66=>
 some (r66,r65.1)
theorem qag (N:Nat) (a:List Int) (b:List Int) {res:(List Int)×(List Int)} (h:zU N a b=some res):qb Tryz.prog (.fn 155) (kBg a b) [] (.tuple (kBg res.1 res.2)) []:=by
 unfold zU at h
 refine Goes.fnW Tryz.func155 rfl rfl (m:=206) rfl (rs:=[.tmp 4,.tmp 5]) rfl (l:=(kK a b [])) rfl ?_
 refine sh fol (kK a b []) ?_
 refine sq ?_
 obtain⟨r1,e_r1,h⟩:=bnd h
 refine sq (gr fol [2] (kK a b [(27,.bool (decide (r1<0)))]) (ac (cv (qaD N a b e_r1)) az) ?_)
 refine ihD h (fun c2 h=>?_) (fun c2 h=>?_)
 ·refine sh fol ((4,.nilslice)::(kBj a [])) ?_
  refine Goes.ret ?_
  obtain rfl:=si h
  exact(gw2 [.nilslice,vl encI a] (FzW.tuple (qd.cons (FzW.nilv (E:=encI)) (qd.cons (FzW.still (qo encI _ (nl rfl))) qd.nil))))
 ·refine Goes.skip ?_
  refine sq ?_
  refine sh fol (kK a b [(31,.bool (decide ((b.length:Int)=1)))]) ?_
  refine ihD h (fun c3 h=>?_) (fun c3 h=>?_)
  ·obtain⟨x4,e_x4,h⟩:=bnd h
   obtain⟨r5,e_r5,h⟩:=bnd h
   refine sq (gr fol [2,3,4] [(6,vl encI r5.1),(7,.i r5.2)] (ac (iv ja encI e_x4) (ac (lv 0 ce3 encI e_x4 rfl) (ac (cv (qb0 N a x4 e_r5)) az))) ?_)
   obtain⟨r6,e_r6,h⟩:=bnd h
   refine sq (gq fol [3] ((4,vl encI r5.1)::(kBj r6 [])) [.frozen [.i r5.2]] (ac (hs (.callF 210 [.slice 0 0 1 1 1] [.cells [.i r5.2]] [0] [vl encI ([r5.2]:List Int)] (vl encI r6)) (xZ (FzL.cons (Fz.lit rfl rfl (FzL.still (AllST.cons tI AllST.nil))) FzL.nil) (vW N ([r5.2]:List Int) e_r6) (qo encI _ (nl rfl)))) az) ?_)
   refine Goes.sub (show Sub (ofG 206 ((4,vl encI r5.1)::(kBj r6 [])),[.frozen [.i r5.2]]) (ofG 206 ((4,vl encI r5.1)::(kBj r6 [])),[])from(Sub.norm [] [] rfl rfl (.keep (.same (qg encI _)) (.keep (.same (qg encI _)) .nil)) .nil)) ?_
   refine Goes.ret ?_
   obtain rfl:=si h
   exact(gw2 (kBg r5.1 r6) (FzW.tuple (qd.cons (FzW.still (qo encI _ (nl rfl))) (qd.cons (FzW.still (qo encI _ (nl rfl))) qd.nil))))
  ·refine Goes.skip ?_
   obtain⟨x7,e_x7,h⟩:=bnd h
   obtain⟨q8,e_q8,h⟩:=bnd h
   refine sq (gq fol [4,5,7] (kK a b [(8,.slice 0 0 1 1 1)]) [.cells [.i q8]] (ac (iv ja encI e_x7) (ac (lv 0 ce3 encI e_x7 rfl) (ac (hs (.done (.opt (qY Tryz.prog .quo 3 (.const (.int .i64 1000000000)) (.tmp 50) (.i 1000000000) (.i (w64 (x7+1))))) (.i q8)) (qbe e_q8)) az))) ?_)
   obtain⟨r9,e_r9,h⟩:=bnd h
   refine sq (gq fol [2] (kAn a [(8,.slice 0 0 1 1 1),(9,vl encI r9)]) [.frozen [.i q8]] (ac (hs (.callF 170 [vl encI b,.slice 0 0 1 1 1] [.cells [.i q8]] [0] (kBg b ([q8]:List Int)) (vl encI r9)) (xZ (FzL.cons (Fz.still (qo encI _ (nl rfl))) (FzL.cons (Fz.lit rfl rfl (FzL.still (AllST.cons tI AllST.nil))) FzL.nil)) (qab N b ([q8]:List Int) e_r9) (qo encI _ (nl rfl)))) az) ?_)
   refine Goes.sub (show Sub (ofG 206 (kAn a [(8,.slice 0 0 1 1 1),(9,vl encI r9)]),[.frozen [.i q8]]) (ofG 206 (kAn a [(8,vl encI ([q8]:List Int)),(9,vl encI r9)]),[])from(Sub.norm [0] [] rfl rfl (.keep (.same (qg encI _)) (.keep (.frz (Fz.litF rfl rfl (FzL.still (AllST.cons tI AllST.nil))) (qg encI _)) (.keep (.same (qg encI _)) .nil))) .nil)) ?_
   refine sh fol (kAn a [(8,vl encI ([q8]:List Int)),(9,vl encI r9),(10,.i (r9.length:Int))]) ?_
   obtain⟨r10,e_r10,h⟩:=bnd h
   obtain⟨l11,e_l11,h⟩:=bnd h
   refine sq (gq fol [3,4] (kAn a [(8,vl encI ([q8]:List Int)),(9,vl encI r9),(10,.i (r9.length:Int)),(11,.oslice 1 l11.length 1)]) (.dead::(kF l11 [])) (ac (cv (qab N a ([q8]:List Int) e_r10)) (ac (hs (.run [0] (y8 Tryz.prog [85,85] (.slice 0 0 0 0 1) (vl encI r10)) [.cells []] (.oslice 1 l11.length 1) (.dead::(kF l11 [])) true) (qb2 ja (E:=encI) rfl (src_v (E:=encI) rfl _) (dst_z (E:=encI) rfl rfl rfl e_l11 rfl))) az)) ?_)
   refine sq (Goes.block ?_)
   obtain⟨r14,g14,h⟩:=bnd h
   refine Goes.imp (Q:=fun x s'=>(x= .exit 0∧ ∃l13,l13=r14∧Sub s' (ofG 206 (kAs ([q8]:List Int) r9 (r9.length:Int) l13 []),(kF l13 [])))) ?_ ?_
   ·refine Goes.sub (s':=(ofG 206 (kAn a (kAs ([q8]:List Int) r9 (r9.length:Int) l11 [])),(kF l11 []))) (Sub.norm [] [some 1] rfl rfl (.keep (.same (qg encI _)) (.keep (.same (qg encI _)) (.keep (.same (qg encI _)) (.keep (.same nI) (.keep (.oslice rfl) .nil))))) (.ks .nil)) ?_
    refine Goes.loopS (fun M s=> ∃(l12:List Int),s=(ofG 206 (kAn a (kAs ([q8]:List Int) r9 (r9.length:Int) l12 [])),(kF l12 []))∧zD a M l12=some r14) ?_ (m:=N) ⟨_,rfl,g14⟩
    rintro M s ⟨l12,rfl,g14⟩
    cases M with
    |zero=>simp only[zD]at g14;cases g14
    |succ M=>
     rw[zD]at g14
     refine sq ?_
     refine sh fol (kAn a (kAs ([q8]:List Int) r9 (r9.length:Int) l12 [(68,.bool (decide ((l12.length:Int)<(w64 ((a.length:Int)+1)))))])) ?_
     refine ihD g14 (fun c15 g14=>?_) (fun c15 g14=>?_)
     ·refine Goes.skip ?_
      refine Goes.block ?_
      obtain⟨l16,e_l16,g14⟩:=bnd g14
      refine gq fol [2] (kAn a [(8,vl encI ([q8]:List Int)),(9,vl encI r9),(10,.i (r9.length:Int)),(11,.oslice 2 l16.length 1)]) (.dead:: .cells [.i 0]::(kF l16 [])) (ac (hs (.run [0,1] (y8 Tryz.prog [85,85] (.oslice 0 l12.length 1) (.slice 1 0 1 1 1)) (kF l12 [.cells [.i 0]]) (.oslice 2 l16.length 1) (.dead:: .cells [.i 0]::(kF l16 [])) true) (qb2 ja (E:=encI) rfl (qgv (E:=encI) (ys:=[0]) rfl rfl rfl rfl) (dst_o (E:=encI) (l:=l12) rfl rfl rfl e_l16 rfl))) az) ?_
      exact⟨M,(ofG 206 (kAn a (kAs ([q8]:List Int) r9 (r9.length:Int) l16 [])),(kF l16 [])),Nat.lt_succ_self _,(Sub.norm [] [some 2] rfl rfl (.keep (.same (qg encI _)) (.keep (.same (qg encI _)) (.keep (.same (qg encI _)) (.keep (.same nI) (.keep (.oslice rfl) .nil))))) (.ks .nil)),_,rfl,g14⟩
     ·refine Goes.exit ?_
      obtain rfl:=si g14
      exact⟨rfl,_,rfl,(Sub.keep [8,9,10,11] rfl rfl)⟩
   rintro x s' ⟨rfl,l13,rfl,hsub⟩
   refine Goes.sub hsub ?_
   obtain⟨l17,e_l17,h⟩:=bnd h
   refine sq (gq fol [4] (kAs ([q8]:List Int) r9 (r9.length:Int) l13 [(12,.slice 1 0 l17.length l17.length 1)]) (kF l13 (kF l17 [])) (ac (hs (.run [] (zP Tryz.prog 85 (.i (w64 ((l13.length:Int)-(r9.length:Int)))) (.i (w64 ((l13.length:Int)-(r9.length:Int))))) (kF l13 []) (.slice 1 0 l17.length l17.length 1) (kF l13 (kF l17 [])) false) (qcI ja (E:=encI) (z:=0) rfl (by kernel_rfl) e_l17 rfl)) az) ?_)
   refine sq ?_
   refine sh fol (kA ([q8]:List Int) r9 (r9.length:Int) l13 l17 (w64 ((w64 ((l13.length:Int)-(r9.length:Int)))-1)) []) ?_
   refine Goes.block ?_
   obtain⟨r23,g23,h⟩:=bnd h
   refine Goes.imp (Q:=fun x s'=>(x= .exit 2∧ ∃l21 l22,(l21,l22)=r23∧Sub s' (ofG 206 [(8,vl encI ([q8]:List Int)),(10,.i (r9.length:Int)),(11,.oslice 0 l21.length 1),(12,.slice 1 0 l22.length l22.length 1)],(kF l21 (kF l22 []))))) ?_ ?_
   ·refine Goes.loopS (fun M s=> ∃(l18:List Int) (l19:List Int) (n20:Int),s=(ofG 206 (kA ([q8]:List Int) r9 (r9.length:Int) l18 l19 n20 []),(kF l18 (kF l19 [])))∧zf N r9 M l18 l19 n20=some r23) ?_ (m:=N) ⟨_,_,_,rfl,g23⟩
    rintro M s ⟨l18,l19,n20,rfl,g23⟩
    cases M with
    |zero=>simp only[zf]at g23;cases g23
    |succ M=>
     rw[zf]at g23
     refine sq ?_
     refine sh fol (kA ([q8]:List Int) r9 (r9.length:Int) l18 l19 n20 [(83,.bool (decide (n20≥0)))]) ?_
     refine ihD g23 (fun c24 g23=>?_) (fun c24 g23=>?_)
     ·refine Goes.skip ?_
      refine sq (Goes.block ?_)
      obtain⟨r25,e_r25,g23⟩:=bnd g23
      refine sq (gr fol [3] (kA ([q8]:List Int) r9 (r9.length:Int) l18 l19 n20 (kBu r25)) (ac (hs (.call 211 [.oslice 0 l18.length 1,vl encI r9,.i n20] (kF l18 (kF l19 [])) [0] [vl encI l18,vl encI r9,.i n20] (.i r25)) (qbE (FzL.cons (Fz.os (E:=encI) rfl rfl (nl rfl)) (FzL.cons (Fz.still (qo encI _ (nl rfl))) (FzL.cons (Fz.still tI) FzL.nil))) (qf9 N l18 r9 n20 e_r25) tI rfl)) az) ?_)
      refine sh fol (kA ([q8]:List Int) r9 (r9.length:Int) l18 l19 n20 [(14,.i r25),(15,.i 0)]) ?_
      refine sq ?_
      refine sh fol (kA ([q8]:List Int) r9 (r9.length:Int) l18 l19 n20 [(14,.i r25),(15,.i 0),(16,.i 0)]) ?_
      refine Goes.block ?_
      obtain⟨r31,g31,g23⟩:=bnd g23
      refine Goes.imp (Q:=fun x s'=>(x= .exit 4∧ ∃l29 n30,(l29,n30)=r31∧Sub s' (ofG 206 (kA ([q8]:List Int) r9 (r9.length:Int) l29 l19 n20 [(14,.i r25),(15,.i n30)]),(kF l29 (kF l19 []))))) ?_ ?_
      ·refine Goes.loopS (fun M s=> ∃(l26:List Int) (n27:Int) (n28:Int),s=(ofG 206 (kA ([q8]:List Int) r9 (r9.length:Int) l26 l19 n20 (kA1 r25 n27 n28 [])),(kF l26 (kF l19 [])))∧qP r9 n20 r25 M l26 n27 n28=some r31) ?_ (m:=N) ⟨_,_,_,rfl,g31⟩
       rintro M s ⟨l26,n27,n28,rfl,g31⟩
       cases M with
       |zero=>simp only[qP]at g31;cases g31
       |succ M=>
        rw[qP]at g31
        refine sq ?_
        refine sh fol (kA ([q8]:List Int) r9 (r9.length:Int) l26 l19 n20 (kA1 r25 n27 n28 [(92,.bool (decide (n28<(r9.length:Int))))])) ?_
        refine ihD g31 (fun c32 g31=>?_) (fun c32 g31=>?_)
        ·refine Goes.skip ?_
         refine sq (Goes.block ?_)
         obtain⟨x33,e_x33,g31⟩:=bnd g31
         refine sq (gr fol [3,4] (kA ([q8]:List Int) r9 (r9.length:Int) l26 l19 n20 [(14,.i r25),(16,.i n28),(17,.i (w64 ((w64 (r25*x33))+n27)))]) (ac (iv ja encI e_x33) (ac (lv 0 ce3 encI e_x33 rfl) az)) ?_)
         obtain⟨x34,e_x34,g31⟩:=bnd g31
         refine sq (gr fol [4,5] (kA ([q8]:List Int) r9 (r9.length:Int) l26 l19 n20 [(14,.i r25),(16,.i n28),(17,.i (w64 ((w64 (r25*x33))+n27))),(18,.i (w64 (x34-((w64 ((w64 (r25*x33))+n27)).tmod 1000000000))))]) (ac (hs (.done (.opt (qf Tryz.prog 85 (.oslice 0 l26.length 1) (.i (w64 (n28+n20))))) (.ptr 0 ((w64 (n28+n20):Int).toNat*1+0))) (qey ja e_x34)) (ac (hs (.run [0] (zJ Tryz.prog 3 (.ptr 0 ((w64 (n28+n20):Int).toNat*1+0))) (kF l26 (kF l19 [])) (.i x34) (kF l26 (kF l19 [])) false) (qbT ce3 (E:=encI) (l:=l26) rfl rfl e_x34 (nl rfl) rfl)) az)) ?_)
         refine sh fol (kA ([q8]:List Int) r9 (r9.length:Int) l26 l19 n20 (kA1 r25 (w64 ((w64 ((w64 (r25*x33))+n27)).tdiv 1000000000)) n28 [(18,.i (w64 (x34-((w64 ((w64 (r25*x33))+n27)).tmod 1000000000))))])) ?_
         refine sq ?_
         refine sh fol (kA ([q8]:List Int) r9 (r9.length:Int) l26 l19 n20 (kA1 r25 (w64 ((w64 ((w64 (r25*x33))+n27)).tdiv 1000000000)) n28 [(18,.i (w64 (x34-((w64 ((w64 (r25*x33))+n27)).tmod 1000000000)))),(115,.bool (decide ((w64 (x34-((w64 ((w64 (r25*x33))+n27)).tmod 1000000000)))<0)))])) ?_
         obtain⟨r37,g37,g31⟩:=bnd g31
         refine Goes.imp (Q:=fun x s'=>(x= .normal∧ ∃n35 n36,(n35,n36)=r37∧Sub s' (ofG 206 (kA ([q8]:List Int) r9 (r9.length:Int) l26 l19 n20 (kA1 r25 n35 n28 [(18,.i n36)])),(kF l26 (kF l19 []))))) ?_ ?_
         ·refine ihD g37 (fun c38 g37=>?_) (fun c38 g37=>?_)
          ·refine sh fol (kA ([q8]:List Int) r9 (r9.length:Int) l26 l19 n20 (kA1 r25 (w64 ((w64 ((w64 (r25*x33))+n27)).tdiv 1000000000)) n28 [(18,.i (w64 ((w64 (x34-((w64 ((w64 (r25*x33))+n27)).tmod 1000000000)))+1000000000)))])) ?_
           refine gh fol (kA ([q8]:List Int) r9 (r9.length:Int) l26 l19 n20 (kA1 r25 (w64 ((w64 ((w64 ((w64 (r25*x33))+n27)).tdiv 1000000000))+1)) n28 [(18,.i (w64 ((w64 (x34-((w64 ((w64 (r25*x33))+n27)).tmod 1000000000)))+1000000000)))])) ?_
           obtain rfl:=si g37
           exact⟨rfl,_,_,rfl,(Sub.refl _)⟩
          ·refine Goes.skip ?_
           obtain rfl:=si g37
           exact⟨rfl,_,_,rfl,(Sub.keep [8,9,10,11,12,13,14,15,16,18] rfl rfl)⟩
         rintro x s' ⟨rfl,n35,n36,rfl,hsub⟩
         try dsimp only at g31
         refine Goes.sub hsub ?_
         obtain⟨l39,e_l39,g31⟩:=bnd g31
         refine gq fol [5,6] (kA ([q8]:List Int) r9 (r9.length:Int) l26 l19 n20 (kA1 r25 n35 n28 [])) (kF l39 (kF l19 [])) (ac (hs (.done (.opt (qf Tryz.prog 85 (.oslice 0 l26.length 1) (.i (w64 (n28+n20))))) (.ptr 0 ((w64 (n28+n20):Int).toNat*1+0))) (qey ja e_x34)) (ac (hs (.run [0] (qp Tryz.prog 3 (.ptr 0 ((w64 (n28+n20):Int).toNat*1+0)) (.i n36)) (kF l26 (kF l19 [])) .undef (kF l39 (kF l19 [])) true) (xu (E:=encI) (l:=l26) (y:=n36) rfl (show _=some 1 by kernel_rfl) rfl e_x34 rfl rfl rfl rfl rfl e_l39 rfl)) az)) ?_
         refine Goes.sub (show Sub (ofG 206 (kA ([q8]:List Int) r9 (r9.length:Int) l26 l19 n20 (kA1 r25 n35 n28 [])),(kF l39 (kF l19 []))) (ofG 206 (kA ([q8]:List Int) r9 (r9.length:Int) l39 l19 n20 (kA1 r25 n35 n28 [])),(kF l39 (kF l19 [])))from(Sub.norm [] [some 0,some 1] rfl rfl (.keep (.same (qg encI _)) (.keep (.same (qg encI _)) (.keep (.same nI) (.keep (.osliceE rfl (jP e_l39)) (.keep (.slice rfl) (.keep (.same nI) (.keep (.same nI) (.keep (.same nI) (.keep (.same nI) .nil))))))))) (.ks (.ks .nil)))) ?_
         refine gh fol (kA ([q8]:List Int) r9 (r9.length:Int) l39 l19 n20 (kA1 r25 n35 (w64 (n28+1)) [])) ?_
         exact⟨M,(ofG 206 (kA ([q8]:List Int) r9 (r9.length:Int) l39 l19 n20 (kA1 r25 n35 (w64 (n28+1)) [])),(kF l39 (kF l19 []))),Nat.lt_succ_self _,(Sub.refl _),_,_,_,rfl,g31⟩
        ·refine Goes.exit ?_
         obtain rfl:=si g31
         exact⟨rfl,_,_,rfl,(Sub.keep [8,9,10,11,12,13,14,15] rfl rfl)⟩
      rintro x s' ⟨rfl,l29,n30,rfl,hsub⟩
      try dsimp only at g23
      refine Goes.sub hsub ?_
      obtain⟨x40,e_x40,g23⟩:=bnd g23
      obtain⟨l41,e_l41,g23⟩:=bnd g23
      refine sq (gq fol [8,9,12,13] (kA ([q8]:List Int) r9 (r9.length:Int) l29 l19 n20 (kBu r25)) (kF l41 (kF l19 [])) (ac (hs (.done (.opt (qf Tryz.prog 85 (.oslice 0 l29.length 1) (.i (w64 (n20+(r9.length:Int)))))) (.ptr 0 ((w64 (n20+(r9.length:Int)):Int).toNat*1+0))) (qey ja e_x40)) (ac (hs (.run [0] (zJ Tryz.prog 3 (.ptr 0 ((w64 (n20+(r9.length:Int)):Int).toNat*1+0))) (kF l29 (kF l19 [])) (.i x40) (kF l29 (kF l19 [])) false) (qbT ce3 (E:=encI) (l:=l29) rfl rfl e_x40 (nl rfl) rfl)) (ac (hs (.done (.opt (qf Tryz.prog 85 (.oslice 0 l29.length 1) (.i (w64 (n20+(r9.length:Int)))))) (.ptr 0 ((w64 (n20+(r9.length:Int)):Int).toNat*1+0))) (qey ja e_x40)) (ac (hs (.run [0] (qp Tryz.prog 3 (.ptr 0 ((w64 (n20+(r9.length:Int)):Int).toNat*1+0)) (.i (w64 (x40-n30)))) (kF l29 (kF l19 [])) .undef (kF l41 (kF l19 [])) true) (xu (E:=encI) (l:=l29) (y:=w64 (x40-n30)) rfl (show _=some 1 by kernel_rfl) rfl e_x40 rfl rfl rfl rfl rfl e_l41 rfl)) az)))) ?_)
      refine Goes.sub (show Sub (ofG 206 (kA ([q8]:List Int) r9 (r9.length:Int) l29 l19 n20 (kBu r25)),(kF l41 (kF l19 []))) (ofG 206 (kA ([q8]:List Int) r9 (r9.length:Int) l41 l19 n20 (kBu r25)),(kF l41 (kF l19 [])))from(Sub.norm [] [some 0,some 1] rfl rfl (.keep (.same (qg encI _)) (.keep (.same (qg encI _)) (.keep (.same nI) (.keep (.osliceE rfl (jP e_l41)) (.keep (.slice rfl) (.keep (.same nI) (.keep (.same nI) .nil))))))) (.ks (.ks .nil)))) ?_
      refine sq ?_
      obtain⟨x42,e_x42,g23⟩:=bnd g23
      refine sq (gr fol [4,5] (kA ([q8]:List Int) r9 (r9.length:Int) l41 l19 n20 [(14,.i r25),(145,.bool (decide (x42<0)))]) (ac (hs (.done (.opt (qf Tryz.prog 85 (.oslice 0 l41.length 1) (.i (w64 (n20+(r9.length:Int)))))) (.ptr 0 ((w64 (n20+(r9.length:Int)):Int).toNat*1+0))) (qey ja e_x42)) (ac (hs (.run [0] (zJ Tryz.prog 3 (.ptr 0 ((w64 (n20+(r9.length:Int)):Int).toNat*1+0))) (kF l41 (kF l19 [])) (.i x42) (kF l41 (kF l19 [])) false) (qbT ce3 (E:=encI) (l:=l41) rfl rfl e_x42 (nl rfl) rfl)) az)) ?_)
      obtain⟨r45,g45,g23⟩:=bnd g23
      refine Goes.imp (Q:=fun x s'=>(x= .normal∧ ∃l43 n44,(l43,n44)=r45∧Sub s' (ofG 206 (kA ([q8]:List Int) r9 (r9.length:Int) l43 l19 n20 (kBu n44)),(kF l43 (kF l19 []))))) ?_ ?_
      ·refine ihD g45 (fun c46 g45=>?_) (fun c46 g45=>?_)
       ·refine sh fol (kA ([q8]:List Int) r9 (r9.length:Int) l41 l19 n20 (kBu (w64 (r25-1)))) ?_
        refine sh fol (kA ([q8]:List Int) r9 (r9.length:Int) l41 l19 n20 [(14,.i (w64 (r25-1))),(19,.i 0)]) ?_
        refine sq ?_
        refine sh fol (kA ([q8]:List Int) r9 (r9.length:Int) l41 l19 n20 [(14,.i (w64 (r25-1))),(19,.i 0),(20,.i 0)]) ?_
        refine Goes.block ?_
        obtain⟨r53,g53,g45⟩:=bnd g45
        refine Goes.imp (Q:=fun x s'=>(x= .exit 6∧ ∃l50 n51 n52,(l50,n51,n52)=r53∧Sub s' (ofG 206 (kA ([q8]:List Int) r9 (r9.length:Int) l50 l19 n20 [(14,.i n51),(19,.i n52)]),(kF l50 (kF l19 []))))) ?_ ?_
        ·refine Goes.loopS (fun M s=> ∃(l47:List Int) (n48:Int) (n49:Int),s=(ofG 206 (kA ([q8]:List Int) r9 (r9.length:Int) l47 l19 n20 [(14,.i (w64 (r25-1))),(19,.i n48),(20,.i n49)]),(kF l47 (kF l19 [])))∧kr r9 n20 r25 M l47 n48 n49=some r53) ?_ (m:=N) ⟨_,_,_,rfl,g53⟩
         rintro M s ⟨l47,n48,n49,rfl,g53⟩
         cases M with
         |zero=>simp only[kr]at g53;cases g53
         |succ M=>
          rw[kr]at g53
          refine sq ?_
          refine sh fol (kA ([q8]:List Int) r9 (r9.length:Int) l47 l19 n20 [(14,.i (w64 (r25-1))),(19,.i n48),(20,.i n49),(150,.bool (decide (n49<(r9.length:Int))))]) ?_
          refine ihD g53 (fun c54 g53=>?_) (fun c54 g53=>?_)
          ·refine Goes.skip ?_
           refine sq (Goes.block ?_)
           obtain⟨x55,e_x55,g53⟩:=bnd g53
           obtain⟨x56,e_x56,g53⟩:=bnd g53
           refine sq (gr fol [4,5,8,9] (kA ([q8]:List Int) r9 (r9.length:Int) l47 l19 n20 [(14,.i (w64 (r25-1))),(20,.i n49),(21,.i (w64 ((w64 (x55+x56))+n48)))]) (ac (hs (.done (.opt (qf Tryz.prog 85 (.oslice 0 l47.length 1) (.i (w64 (n49+n20))))) (.ptr 0 ((w64 (n49+n20):Int).toNat*1+0))) (qey ja e_x55)) (ac (hs (.run [0] (zJ Tryz.prog 3 (.ptr 0 ((w64 (n49+n20):Int).toNat*1+0))) (kF l47 (kF l19 [])) (.i x55) (kF l47 (kF l19 [])) false) (qbT ce3 (E:=encI) (l:=l47) rfl rfl e_x55 (nl rfl) rfl)) (ac (iv ja encI e_x56) (ac (lv 0 ce3 encI e_x56 rfl) az)))) ?_)
           obtain⟨l57,e_l57,g53⟩:=bnd g53
           refine sq (gq fol [6,7] (kA ([q8]:List Int) r9 (r9.length:Int) l47 l19 n20 [(14,.i (w64 (r25-1))),(20,.i n49),(21,.i (w64 ((w64 (x55+x56))+n48)))]) (kF l57 (kF l19 [])) (ac (hs (.done (.opt (qf Tryz.prog 85 (.oslice 0 l47.length 1) (.i (w64 (n49+n20))))) (.ptr 0 ((w64 (n49+n20):Int).toNat*1+0))) (qey ja e_x55)) (ac (hs (.run [0] (qp Tryz.prog 3 (.ptr 0 ((w64 (n49+n20):Int).toNat*1+0)) (.i ((w64 ((w64 (x55+x56))+n48)).tmod 1000000000))) (kF l47 (kF l19 [])) .undef (kF l57 (kF l19 [])) true) (xu (E:=encI) (l:=l47) (y:=(w64 ((w64 (x55+x56))+n48)).tmod 1000000000) rfl (show _=some 1 by kernel_rfl) rfl e_x55 rfl rfl rfl rfl rfl e_l57 rfl)) az)) ?_)
           refine Goes.sub (show Sub (ofG 206 (kA ([q8]:List Int) r9 (r9.length:Int) l47 l19 n20 [(14,.i (w64 (r25-1))),(20,.i n49),(21,.i (w64 ((w64 (x55+x56))+n48)))]),(kF l57 (kF l19 []))) (ofG 206 (kA ([q8]:List Int) r9 (r9.length:Int) l57 l19 n20 [(14,.i (w64 (r25-1))),(20,.i n49),(21,.i (w64 ((w64 (x55+x56))+n48)))]),(kF l57 (kF l19 [])))from(Sub.norm [] [some 0,some 1] rfl rfl (.keep (.same (qg encI _)) (.keep (.same (qg encI _)) (.keep (.same nI) (.keep (.osliceE rfl (jP e_l57)) (.keep (.slice rfl) (.keep (.same nI) (.keep (.same nI) (.keep (.same nI) (.keep (.same nI) .nil))))))))) (.ks (.ks .nil)))) ?_
           refine gh fol (kA ([q8]:List Int) r9 (r9.length:Int) l57 l19 n20 [(14,.i (w64 (r25-1))),(19,.i (w64 ((w64 ((w64 (x55+x56))+n48)).tdiv 1000000000))),(20,.i n49)]) ?_
           refine gh fol (kA ([q8]:List Int) r9 (r9.length:Int) l57 l19 n20 [(14,.i (w64 (r25-1))),(19,.i (w64 ((w64 ((w64 (x55+x56))+n48)).tdiv 1000000000))),(20,.i (w64 (n49+1)))]) ?_
           exact⟨M,(ofG 206 (kA ([q8]:List Int) r9 (r9.length:Int) l57 l19 n20 [(14,.i (w64 (r25-1))),(19,.i (w64 ((w64 ((w64 (x55+x56))+n48)).tdiv 1000000000))),(20,.i (w64 (n49+1)))]),(kF l57 (kF l19 []))),Nat.lt_succ_self _,(Sub.refl _),_,_,_,rfl,g53⟩
          ·refine Goes.exit ?_
           obtain rfl:=si g53
           exact⟨rfl,_,_,_,rfl,(Sub.keep [8,9,10,11,12,13,14,19] rfl rfl)⟩
        rintro x s' ⟨rfl,l50,n51,n52,rfl,hsub⟩
        try dsimp only at g45
        refine Goes.sub hsub ?_
        obtain⟨x58,e_x58,g45⟩:=bnd g45
        obtain⟨l59,e_l59,g45⟩:=bnd g45
        refine gq fol [8,9,12,13] (kA ([q8]:List Int) r9 (r9.length:Int) l50 l19 n20 (kBu n51)) (kF l59 (kF l19 [])) (ac (hs (.done (.opt (qf Tryz.prog 85 (.oslice 0 l50.length 1) (.i (w64 (n20+(r9.length:Int)))))) (.ptr 0 ((w64 (n20+(r9.length:Int)):Int).toNat*1+0))) (qey ja e_x58)) (ac (hs (.run [0] (zJ Tryz.prog 3 (.ptr 0 ((w64 (n20+(r9.length:Int)):Int).toNat*1+0))) (kF l50 (kF l19 [])) (.i x58) (kF l50 (kF l19 [])) false) (qbT ce3 (E:=encI) (l:=l50) rfl rfl e_x58 (nl rfl) rfl)) (ac (hs (.done (.opt (qf Tryz.prog 85 (.oslice 0 l50.length 1) (.i (w64 (n20+(r9.length:Int)))))) (.ptr 0 ((w64 (n20+(r9.length:Int)):Int).toNat*1+0))) (qey ja e_x58)) (ac (hs (.run [0] (qp Tryz.prog 3 (.ptr 0 ((w64 (n20+(r9.length:Int)):Int).toNat*1+0)) (.i (w64 (x58+n52)))) (kF l50 (kF l19 [])) .undef (kF l59 (kF l19 [])) true) (xu (E:=encI) (l:=l50) (y:=w64 (x58+n52)) rfl (show _=some 1 by kernel_rfl) rfl e_x58 rfl rfl rfl rfl rfl e_l59 rfl)) az)))) ?_
        obtain rfl:=si g45
        exact⟨rfl,_,_,rfl,((show Sub (ofG 206 (kA ([q8]:List Int) r9 (r9.length:Int) l50 l19 n20 (kBu n51)),(kF l59 (kF l19 []))) (ofG 206 (kA ([q8]:List Int) r9 (r9.length:Int) l59 l19 n20 (kBu n51)),(kF l59 (kF l19 [])))from(Sub.norm [] [some 0,some 1] rfl rfl (.keep (.same (qg encI _)) (.keep (.same (qg encI _)) (.keep (.same nI) (.keep (.osliceE rfl (jP e_l59)) (.keep (.slice rfl) (.keep (.same nI) (.keep (.same nI) .nil))))))) (.ks (.ks .nil)))).trans (Sub.refl _))⟩
       ·refine Goes.skip ?_
        obtain rfl:=si g45
        exact⟨rfl,_,_,rfl,(Sub.keep [8,9,10,11,12,13,14] rfl rfl)⟩
      rintro x s' ⟨rfl,l43,n44,rfl,hsub⟩
      try dsimp only at g23
      refine Goes.sub hsub ?_
      obtain⟨x60,e_x60,g23⟩:=bnd g23
      obtain⟨l61,e_l61,g23⟩:=bnd g23
      refine gq fol [3,4] (kA ([q8]:List Int) r9 (r9.length:Int) l43 l19 n20 []) (kF l43 (kF l61 [])) (ac (hs (.done (.opt (qf Tryz.prog 85 (.slice 1 0 l19.length l19.length 1) (.i n20))) (.ptr 1 ((n20:Int).toNat*1+0))) (xP ja e_x60)) (ac (hs (.run [1] (qp Tryz.prog 3 (.ptr 1 ((n20:Int).toNat*1+0)) (.i n44)) (kF l43 (kF l19 [])) .undef (kF l43 (kF l61 [])) true) (xu (E:=encI) (l:=l19) (y:=n44) rfl (show _=some 1 by kernel_rfl) rfl e_x60 rfl rfl rfl rfl rfl e_l61 rfl)) az)) ?_
      refine Goes.sub (show Sub (ofG 206 (kA ([q8]:List Int) r9 (r9.length:Int) l43 l19 n20 []),(kF l43 (kF l61 []))) (ofG 206 (kA ([q8]:List Int) r9 (r9.length:Int) l43 l61 n20 []),(kF l43 (kF l61 [])))from(Sub.norm [] [some 0,some 1] rfl rfl (.keep (.same (qg encI _)) (.keep (.same (qg encI _)) (.keep (.same nI) (.keep (.oslice rfl) (.keep (.sliceE rfl (jP e_l61)) (.keep (.same nI) .nil)))))) (.ks (.ks .nil)))) ?_
      refine gh fol (kA ([q8]:List Int) r9 (r9.length:Int) l43 l61 (w64 (n20-1)) []) ?_
      exact⟨M,(ofG 206 (kA ([q8]:List Int) r9 (r9.length:Int) l43 l61 (w64 (n20-1)) []),(kF l43 (kF l61 []))),Nat.lt_succ_self _,(Sub.refl _),_,_,_,rfl,g23⟩
     ·refine Goes.exit ?_
      obtain rfl:=si g23
      exact⟨rfl,_,_,rfl,(Sub.keep [8,10,11,12] rfl rfl)⟩
   rintro x s' ⟨rfl,l21,l22,rfl,hsub⟩
   try dsimp only at h
   refine Goes.sub hsub ?_
   refine sq (Goes.sub (s':=(ofG 206 [(8,vl encI ([q8]:List Int)),(10,.i (r9.length:Int)),(11,vl encI l21),(12,.slice 0 0 l22.length l22.length 1)],(kF l22 []))) (Sub.norm [0] [some 1] rfl rfl (.keep (.same (qg encI _)) (.keep (.same nI) (.keep (.frz (Fz.os (E:=encI) rfl rfl (nl rfl)) (qg encI _)) (.keep (.slice rfl) .nil)))) (.ks .nil)) ?_)
   obtain⟨s62,e_s62,h⟩:=bnd h
   obtain⟨r63,e_r63,h⟩:=bnd h
   obtain⟨x64,e_x64,h⟩:=bnd h
   obtain⟨r65,e_r65,h⟩:=bnd h
   refine gr fol [2,3,5,6,7] [(12,.slice 0 0 l22.length l22.length 1),(22,vl encI r65.1)] (ac (hs (.done (.opt (qR Tryz.prog 85 (vl encI l21) none (some (.i (r9.length:Int))) none)) (vl encI s62)) (qkS ja (E:=encI) rfl none (some (r9.length:Int)) e_s62)) (ac (cv (vW N s62 e_r63)) (ac (iv ja encI e_x64) (ac (lv 0 ce3 encI e_x64 rfl) (ac (cv (qb0 N r63 x64 e_r65)) az))))) ?_
   obtain⟨r66,e_r66,h⟩:=bnd h
   refine sq (gq fol [1] ((4,vl encI r66)::(kBj r65.1 [])) (kAp l22) (ac (hs (.callF 210 [.slice 0 0 l22.length l22.length 1] (kF l22 []) [0] [vl encI l22] (vl encI r66)) (xZ (FzL.cons (Fz.sl (E:=encI) rfl rfl (nl rfl)) FzL.nil) (vW N l22 e_r66) (qo encI _ (nl rfl)))) az) ?_)
   refine Goes.sub (show Sub (ofG 206 ((4,vl encI r66)::(kBj r65.1 [])),(kAp l22)) (ofG 206 ((4,vl encI r66)::(kBj r65.1 [])),[])from(Sub.norm [] [] rfl rfl (.keep (.same (qg encI _)) (.keep (.same (qg encI _)) .nil)) .nil)) ?_
   refine Goes.ret ?_
   obtain rfl:=si h
   exact(gw2 (kBg r66 r65.1) (FzW.tuple (qd.cons (FzW.still (qo encI _ (nl rfl))) (qd.cons (FzW.still (qo encI _ (nl rfl))) qd.nil))))
def kz (N:Nat):Nat→(List Int)→(List Int)→Option (List Int)
 |0,_,_=>none
 |K+1,l1,l2=>
  if(l2.length:Int)>0 then
  (zU N l1 l2).bind fun r6=>
  kz N K l2 r6.2
  else
  some l1
def xE (N:Nat) (a:List Int) (b:List Int):Option (List Int):=
 (kz N N a b).bind fun l3=>
 some l3
theorem qc9 (N:Nat) (a:List Int) (b:List Int) {res:List Int} (h:xE N a b=some res):qb Tryz.prog (.fn 96) (kBg a b) [] (vl encI res) []:=by
 unfold xE at h
 refine Goes.fnW Tryz.func96 rfl rfl (m:=19) rfl (rs:=[.tmp 4]) rfl (l:=(kK a b [])) rfl ?_
 refine sh fol (kK a b []) ?_
 refine sq (Goes.block ?_)
 obtain⟨r4,g4,h⟩:=bnd h
 refine Goes.imp (Q:=fun x s'=>(x= .exit 0∧ ∃l3,l3=r4∧Sub s' (ofG 19 (kAn l3 []),[]))) ?_ ?_
 ·refine Goes.loopS (fun M s=> ∃(l1:List Int) (l2:List Int),s=(ofG 19 (kK l1 l2 []),[])∧kz N M l1 l2=some r4) ?_ (m:=N) ⟨_,_,rfl,g4⟩
  rintro M s ⟨l1,l2,rfl,g4⟩
  cases M with
  |zero=>simp only[kz]at g4;cases g4
  |succ M=>
   rw[kz]at g4
   refine sq ?_
   refine sh fol (kK l1 l2 [(9,.bool (decide ((l2.length:Int)>0)))]) ?_
   refine ihD g4 (fun c5 g4=>?_) (fun c5 g4=>?_)
   ·refine Goes.skip ?_
    refine Goes.block ?_
    obtain⟨r6,e_r6,g4⟩:=bnd g4
    refine sq (gr fol [2] [(1,vl encI l2),(6,vl encI r6.2)] (ac (cv (qag N l1 l2 e_r6)) az) ?_)
    refine gh fol (kK l2 r6.2 []) ?_
    exact⟨M,(ofG 19 (kK l2 r6.2 []),[]),Nat.lt_succ_self _,(Sub.refl _),_,_,rfl,g4⟩
   ·refine Goes.exit ?_
    obtain rfl:=si g4
    exact⟨rfl,_,rfl,(Sub.keep [0] rfl rfl)⟩
 rintro x s' ⟨rfl,l3,rfl,hsub⟩
 refine Goes.sub hsub ?_
 refine sh fol [(4,vl encI l3)] ?_
 refine Goes.ret ?_
 obtain rfl:=si h
 exact(gw2 [vl encI l3] (FzW.still (qo encI _ (nl rfl))))
def xq (N:Nat) (a:Str):Option Int:=
 (if(a.length:Int)>0 then
 (idx a 0).bind fun c2=>
 some (decide ((c2.toNat:Int)=45))
 else
 some false:Option Bool).bind fun b3=>
 ((if b3=true then
 (cut a 1 (a.length:Int)).bind fun s8=>
 some s8
 else
 some a:Option Str)).bind fun s5=>
 (vI N s5).bind fun r9=>
 ((cut s5 0 r9).bind fun s10=>
 (zQ N s10).bind fun r11=>
 if(!r11)=true then
 some true
 else
 (idx a 0).bind fun c13=>
 if(c13.toNat:Int)=45 then
 (cut s5 0 r9).bind fun s15=>
 some (s15==[48])
 else
 some false:Option Bool).bind fun b16=>
 if b16=true then
 some 1
 else
 (if r9<(s5.length:Int)then
 (cut s5 (w64 (r9+1)) (s5.length:Int)).bind fun s20=>
 (zQ N s20).bind fun r21=>
 if(!r21)=true then
 some true
 else
 (cut s5 (w64 (r9+1)) (s5.length:Int)).bind fun s23=>
 if(s23==[48])=true then
 some true
 else
 (cut s5 (w64 (r9+1)) (s5.length:Int)).bind fun s25=>
 some (s25==[49])
 else
 some false:Option Bool).bind fun b26=>
 if b26=true then
 some 1
 else
 (if r9>600 then
 some true
 else
 some (decide ((w64 ((w64 ((s5.length:Int)-r9))-1))>600)):Option Bool).bind fun b30=>
 if b30=true then
 some 4
 else
 ((if r9<(s5.length:Int)then
 (zY N s5).bind fun r36=>
 (xE N r36.1.w r36.2.w).bind fun r37=>
 (if(!decide ((r37.length:Int)=1))=true then
 some true
 else
 (idx r37 0).bind fun x39=>
 some (!decide (x39=1)):Option Bool).bind fun b40=>
 if b40=true then
 some (.inr 1)
 else
 some (.inl ())
 else
 some (.inl ()):Option (Unit⊕Int))).bind (fun
 |(.inl ())=>
 some 0
 |(.inr q43)=>
 some q43)
theorem qbA (N:Nat) (a:Str) {res:Int} (h:xq N a=some res):qb Tryz.prog (.fn 17) [.str a] [] (.i res) []:=by
 unfold xq at h
 refine Goes.fnW Tryz.func17 rfl rfl (m:=96) rfl (rs:=[.tmp 2]) rfl (l:=(kAQ a [])) rfl ?_
 refine sh fol (kAQ a []) ?_
 refine sh fol (kAQ a [(3,.str a)]) ?_
 refine sq ?_
 refine sq ?_
 obtain⟨b3,g_v4,h⟩:=bnd h
 refine Goes.cut (s':=(ofG 96 (kAQ a [(3,.str a),(16,.bool b3)]),[])) ?_ ?_
 ·rcases wyD g_v4 with⟨c1,g_v4⟩|⟨c1,g_v4⟩
  ·obtain⟨c2,e_c2,g_v4⟩:=bnd g_v4
   obtain rfl:=si g_v4
   exact tr fol [3,5] (kAQ a [(3,.str a),(16,.bool (decide ((c2.toNat:Int)=45)))]) (ac (gw c1) (ac (hs (.done (.opt (vC Tryz.prog 9 (.str a) (.i 0))) (.int .u8 (c2.toNat:Int))) (xQ st9 e_c2)) az))
  ·obtain rfl:=si g_v4
   exact tr fol [3] (kAQ a [(3,.str a),(16,.bool false)]) (ac (gw c1) az)
 obtain⟨r6,g6,h⟩:=bnd h
 refine Goes.imp (Q:=fun x s'=>(x= .normal∧ ∃s5,s5=r6∧Sub s' (ofG 96 (kAQ a [(3,.str s5)]),[]))) ?_ ?_
 ·refine ihB g6 (fun c7 g6=>?_) (fun c7 g6=>?_)
  ·obtain⟨s8,e_s8,g6⟩:=bnd g6
   refine gr fol [1] (kAQ a [(3,.str s8)]) (ac (hs (.done (.opt (qR Tryz.prog 9 (.str a) (some (.i 1)) none none)) (.str s8)) (zC st9 (some 1) none e_s8)) az) ?_
   obtain rfl:=si g6
   exact⟨rfl,_,rfl,(Sub.refl _)⟩
  ·refine Goes.skip ?_
   obtain rfl:=si g6
   exact⟨rfl,_,rfl,(Sub.keep [0,3] rfl rfl)⟩
 rintro x s' ⟨rfl,s5,rfl,hsub⟩
 refine Goes.sub hsub ?_
 obtain⟨r9,e_r9,h⟩:=bnd h
 refine sq (gr fol [1] (kAQ a (kA6 s5 r9 [])) (ac (cv (xB N s5 e_r9)) az) ?_)
 refine sq ?_
 refine sq ?_
 obtain⟨b16,g_v17,h⟩:=bnd h
 refine Goes.cut (s':=(ofG 96 (kA6 s5 r9 [(36,.bool b16)]),[])) ?_ ?_
 ·obtain⟨s10,e_s10,g_v17⟩:=bnd g_v17
  obtain⟨r11,e_r11,g_v17⟩:=bnd g_v17
  rcases wyB g_v17 with⟨c12,g_v17⟩|⟨c12,g_v17⟩
  ·obtain rfl:=si g_v17
   exact tr fol [2,3,5] (kA6 s5 r9 [(36,.bool true)]) (ac (hs (.done (.opt (qR Tryz.prog 9 (.str s5) none (some (.i r9)) none)) (.str s10)) (zC st9 none (some r9) e_s10)) (ac (cv (zI N s10 e_r11)) (ac (gw c12) az)))
  ·obtain⟨c13,e_c13,g_v17⟩:=bnd g_v17
   rcases wyD g_v17 with⟨c14,g_v17⟩|⟨c14,g_v17⟩
   ·obtain⟨s15,e_s15,g_v17⟩:=bnd g_v17
    obtain rfl:=si g_v17
    exact tr fol [2,3,5,7,9,12] (kA6 s5 r9 [(36,.bool (s15==[48]))]) (ac (hs (.done (.opt (qR Tryz.prog 9 (.str s5) none (some (.i r9)) none)) (.str s10)) (zC st9 none (some r9) e_s10)) (ac (cv (zI N s10 e_r11)) (ac (gw c12) (ac (hs (.done (.opt (vC Tryz.prog 23 (.str a) (.i 0))) (.int .u8 (c13.toNat:Int))) (xQ qj6 e_c13)) (ac (gw c14) (ac (hs (.done (.opt (qR Tryz.prog 9 (.str s5) none (some (.i r9)) none)) (.str s15)) (zC st9 none (some r9) e_s15)) az))))))
   ·obtain rfl:=si g_v17
    exact tr fol [2,3,5,7,9] (kA6 s5 r9 [(36,.bool false)]) (ac (hs (.done (.opt (qR Tryz.prog 9 (.str s5) none (some (.i r9)) none)) (.str s10)) (zC st9 none (some r9) e_s10)) (ac (cv (zI N s10 e_r11)) (ac (gw c12) (ac (hs (.done (.opt (vC Tryz.prog 23 (.str a) (.i 0))) (.int .u8 (c13.toNat:Int))) (xQ qj6 e_c13)) (ac (gw c14) az)))))
 refine ihB h (fun c18 h=>?_) (fun c18 h=>?_)
 ·refine sh fol [(2,.i 1)] ?_
  refine Goes.ret ?_
  obtain rfl:=si h
  exact(gw2 [.i 1] (FzW.still tI))
 ·refine Goes.skip ?_
  refine sq ?_
  refine sq ?_
  obtain⟨b26,g_v27,h⟩:=bnd h
  refine Goes.cut (s':=(ofG 96 (kA6 s5 r9 [(62,.bool b26)]),[])) ?_ ?_
  ·rcases wyD g_v27 with⟨c19,g_v27⟩|⟨c19,g_v27⟩
   ·obtain⟨s20,e_s20,g_v27⟩:=bnd g_v27
    obtain⟨r21,e_r21,g_v27⟩:=bnd g_v27
    rcases wyB g_v27 with⟨c22,g_v27⟩|⟨c22,g_v27⟩
    ·obtain rfl:=si g_v27
     exact tr fol [4,8,9,11] (kA6 s5 r9 [(62,.bool true)]) (ac (gw c19) (ac (hs (.done (.opt (qR Tryz.prog 9 (.str s5) (some (.i (w64 (r9+1)))) none none)) (.str s20)) (zC st9 (some (w64 (r9+1))) none e_s20)) (ac (cv (zI N s20 e_r21)) (ac (gw c22) az))))
    ·obtain⟨s23,e_s23,g_v27⟩:=bnd g_v27
     rcases wyB g_v27 with⟨c24,g_v27⟩|⟨c24,g_v27⟩
     ·obtain rfl:=si g_v27
      exact tr fol [4,8,9,11,15,18] (kA6 s5 r9 [(62,.bool true)]) (ac (gw c19) (ac (hs (.done (.opt (qR Tryz.prog 9 (.str s5) (some (.i (w64 (r9+1)))) none none)) (.str s20)) (zC st9 (some (w64 (r9+1))) none e_s20)) (ac (cv (zI N s20 e_r21)) (ac (gw c22) (ac (hs (.done (.opt (qR Tryz.prog 9 (.str s5) (some (.i (w64 (r9+1)))) none none)) (.str s23)) (zC st9 (some (w64 (r9+1))) none e_s23)) (ac (gw c24) az))))))
     ·obtain⟨s25,e_s25,g_v27⟩:=bnd g_v27
      obtain rfl:=si g_v27
      exact tr fol [4,8,9,11,15,18,22] (kA6 s5 r9 [(62,.bool (s25==[49]))]) (ac (gw c19) (ac (hs (.done (.opt (qR Tryz.prog 9 (.str s5) (some (.i (w64 (r9+1)))) none none)) (.str s20)) (zC st9 (some (w64 (r9+1))) none e_s20)) (ac (cv (zI N s20 e_r21)) (ac (gw c22) (ac (hs (.done (.opt (qR Tryz.prog 9 (.str s5) (some (.i (w64 (r9+1)))) none none)) (.str s23)) (zC st9 (some (w64 (r9+1))) none e_s23)) (ac (gw c24) (ac (hs (.done (.opt (qR Tryz.prog 9 (.str s5) (some (.i (w64 (r9+1)))) none none)) (.str s25)) (zC st9 (some (w64 (r9+1))) none e_s25)) az)))))))
   ·obtain rfl:=si g_v27
    exact tr fol [4] (kA6 s5 r9 [(62,.bool false)]) (ac (gw c19) az)
  refine ihB h (fun c28 h=>?_) (fun c28 h=>?_)
  ·refine sh fol [(2,.i 1)] ?_
   refine Goes.ret ?_
   obtain rfl:=si h
   exact(gw2 [.i 1] (FzW.still tI))
  ·refine Goes.skip ?_
   refine sq ?_
   refine sq ?_
   obtain⟨b30,g_v31,h⟩:=bnd h
   refine Goes.cut (s':=(ofG 96 (kA6 s5 r9 [(72,.bool b30)]),[])) ?_ ?_
   ·rcases wyD g_v31 with⟨c29,g_v31⟩|⟨c29,g_v31⟩
    ·obtain rfl:=si g_v31
     exact tr fol [2] (kA6 s5 r9 [(72,.bool true)]) (ac (gw c29) az)
    ·obtain rfl:=si g_v31
     exact tr fol [2] (kA6 s5 r9 [(72,.bool (decide ((w64 ((w64 ((s5.length:Int)-r9))-1))>600)))]) (ac (gw c29) az)
   refine ihB h (fun c32 h=>?_) (fun c32 h=>?_)
   ·refine sh fol [(2,.i 4)] ?_
    refine Goes.ret ?_
    obtain rfl:=si h
    exact(gw2 [.i 4] (FzW.still tI))
   ·refine Goes.skip ?_
    refine sq ?_
    refine sh fol [(3,.str s5),(76,.bool (decide (r9<(s5.length:Int))))] ?_
    obtain⟨r33,g33,h⟩:=bnd h
    refine Goes.imp (Q:=fun x s'=>(x= .normal∧(.inl ())=r33∧Sub s' (ofG 96 [],[]))∨(x= .ret∧ ∃q34,(.inr q34)=r33∧vK Tryz.prog [.tmp 2] (.i q34) .ret s')) ?_ ?_
    ·refine ihD g33 (fun c35 g33=>?_) (fun c35 g33=>?_)
     ·obtain⟨r36,e_r36,g33⟩:=bnd g33
      refine sq (gq fol [1] [(5,.ptr 0 0),(6,.ptr 1 0)] (kO r36.1.neg r36.1.w r36.2.neg r36.2.w []) (ac (cv (yh N s5 e_r36)) az) ?_)
      obtain⟨r37,e_r37,g33⟩:=bnd g33
      refine sq (gr fol [4] [(7,vl encI r37)] (ac (cv (qc9 N r36.1.w r36.2.w e_r37)) az) ?_)
      refine sq ?_
      obtain⟨b40,g_v41,g33⟩:=bnd g33
      refine Goes.cut (s':=(ofG 96 [(95,.bool b40)],(kO r36.1.neg r36.1.w r36.2.neg r36.2.w []))) ?_ ?_
      ·rcases wyB g_v41 with⟨c38,g_v41⟩|⟨c38,g_v41⟩
       ·obtain rfl:=si g_v41
        exact tr fol [3] [(95,.bool true)] (ac (gw c38) az)
       ·obtain⟨x39,e_x39,g_v41⟩:=bnd g_v41
        obtain rfl:=si g_v41
        exact tr fol [3,5,6] [(95,.bool (!decide (x39=1)))] (ac (gw c38) (ac (iv ja encI e_x39) (ac (lv 0 ce3 encI e_x39 rfl) az)))
      refine ihB g33 (fun c42 g33=>?_) (fun c42 g33=>?_)
      ·refine sh fol [(2,.i 1)] ?_
       refine Goes.ret ?_
       obtain rfl:=si g33
       exact Or.inr (⟨rfl,_,rfl,(gw2 [.i 1] (FzW.still tI))⟩)
      ·refine Goes.skip ?_
       obtain rfl:=si g33
       exact Or.inl (⟨rfl,rfl,(Sub.norm [] [] rfl rfl .nil .nil)⟩)
     ·refine Goes.skip ?_
      obtain rfl:=si g33
      exact Or.inl (⟨rfl,rfl,(Sub.keep [] rfl rfl)⟩)
    rintro x s' (⟨rfl,rfl,hsub⟩|⟨rfl,q43,rfl,hret⟩)
    ·try dsimp only at h
     refine Goes.sub hsub ?_
     refine sh fol kB3 ?_
     refine Goes.ret ?_
     obtain rfl:=si h
     exact(gw2 [.i 0] (FzW.still tI))
    ·try dsimp only at h
     obtain rfl:=si h
     exact hret
def yJ (a:Str):Option Int:=
 if(a==[48])=true then
 some 0
 else
 (if(a.length:Int)>0 then
 (idx a 0).bind fun c3=>
 some (decide ((c3.toNat:Int)=45))
 else
 some false:Option Bool).bind fun b4=>
 if b4=true then
 some (-1)
 else
 some 1
theorem qaR (a:Str) {res:Int} (h:yJ a=some res):qb Tryz.prog (.fn 24) [.str a] [] (.i res) []:=by
 unfold yJ at h
 refine Goes.fnW Tryz.func24 rfl rfl (m:=13) rfl (rs:=[.tmp 2]) rfl (l:=(kAQ a [])) rfl ?_
 refine sh fol (kAQ a []) ?_
 refine sq ?_
 refine sh fol (kAQ a (kAl (a==[48]))) ?_
 refine ihB h (fun c1 h=>?_) (fun c1 h=>?_)
 ·refine sh fol kB3 ?_
  refine Goes.ret ?_
  obtain rfl:=si h
  exact(gw2 [.i 0] (FzW.still tI))
 ·refine Goes.skip ?_
  refine sq ?_
  refine sq ?_
  obtain⟨b4,g_v5,h⟩:=bnd h
  refine Goes.cut (s':=(ofG 13 (kBU b4),[])) ?_ ?_
  ·rcases wyD g_v5 with⟨c2,g_v5⟩|⟨c2,g_v5⟩
   ·obtain⟨c3,e_c3,g_v5⟩:=bnd g_v5
    obtain rfl:=si g_v5
    exact tr fol [3,5] (kBU (decide ((c3.toNat:Int)=45))) (ac (gw c2) (ac (hs (.done (.opt (vC Tryz.prog 23 (.str a) (.i 0))) (.int .u8 (c3.toNat:Int))) (xQ qj6 e_c3)) az))
   ·obtain rfl:=si g_v5
    exact tr fol [3] [(12,.bool false)] (ac (gw c2) az)
  refine ihB h (fun c6 h=>?_) (fun c6 h=>?_)
  ·refine sh fol [(2,.i (-1))] ?_
   refine Goes.ret ?_
   obtain rfl:=si h
   exact(gw2 [.i (-1)] (FzW.still tI))
  ·refine Goes.skip ?_
   refine sh fol [(2,.i 1)] ?_
   refine Goes.ret ?_
   obtain rfl:=si h
   exact(gw2 [.i 1] (FzW.still tI))
def qcs (a:Str):Option Str:=
 (yJ a).bind fun r1=>
 if r1<0 then
 (cut a 1 (a.length:Int)).bind fun s3=>
 some s3
 else
 some a
theorem qez (a:Str) {res:Str} (h:qcs a=some res):qb Tryz.prog (.fn 30) [.str a] [] (.str res) []:=by
 unfold qcs at h
 refine Goes.fnW Tryz.func30 rfl rfl (m:=9) rfl (rs:=[.tmp 2]) rfl (l:=(kAQ a [])) rfl ?_
 refine sh fol (kAQ a []) ?_
 refine sq ?_
 obtain⟨r1,e_r1,h⟩:=bnd h
 refine sq (gr fol [1] (kAQ a [(5,.bool (decide (r1<0)))]) (ac (cv (qaR a e_r1)) az) ?_)
 refine ihD h (fun c2 h=>?_) (fun c2 h=>?_)
 ·obtain⟨s3,e_s3,h⟩:=bnd h
  refine sq (gr fol [1] (kBs s3) (ac (hs (.done (.opt (qR Tryz.prog 23 (.str a) (some (.i 1)) none none)) (.str s3)) (zC qj6 (some 1) none e_s3)) az) ?_)
  refine Goes.ret ?_
  obtain rfl:=si h
  exact(gw2 [.str s3] (FzW.still tS))
 ·refine Goes.skip ?_
  refine sh fol (kBs a) ?_
  refine Goes.ret ?_
  obtain rfl:=si h
  exact(gw2 [.str a] (FzW.still tS))
def qcg (N:Nat) (a:Str):Option Str:=
 (vI N a).bind fun r1=>
 if r1=(a.length:Int)then
 some [49]
 else
 (cut a (w64 (r1+1)) (a.length:Int)).bind fun s3=>
 some s3
theorem qhX (N:Nat) (a:Str) {res:Str} (h:qcg N a=some res):qb Tryz.prog (.fn 32) [.str a] [] (.str res) []:=by
 unfold qcg at h
 refine Goes.fnW Tryz.func32 rfl rfl (m:=14) rfl (rs:=[.tmp 2]) rfl (l:=(kAQ a [])) rfl ?_
 refine sh fol (kAQ a []) ?_
 obtain⟨r1,e_r1,h⟩:=bnd h
 refine sq (gr fol [1] (kAQ a (kBS r1)) (ac (cv (xB N a e_r1)) az) ?_)
 refine sq ?_
 refine sh fol (kAQ a [(3,.i r1),(9,.bool (decide (r1=(a.length:Int))))]) ?_
 refine ihD h (fun c2 h=>?_) (fun c2 h=>?_)
 ·refine sh fol [(2,.str [49])] ?_
  refine Goes.ret ?_
  obtain rfl:=si h
  exact(gw2 [.str [49]] (FzW.still tS))
 ·refine Goes.skip ?_
  obtain⟨s3,e_s3,h⟩:=bnd h
  refine sq (gr fol [3] (kBs s3) (ac (hs (.done (.opt (qR Tryz.prog 23 (.str a) (some (.i (w64 (r1+1)))) none none)) (.str s3)) (zC qj6 (some (w64 (r1+1))) none e_s3)) az) ?_)
  refine Goes.ret ?_
  obtain rfl:=si h
  exact(gw2 [.str s3] (FzW.still tS))
def qck (N:Nat) (a:Str):Option Str:=
 (vI N a).bind fun r1=>
 (cut a 0 r1).bind fun s2=>
 some s2
theorem qeF (N:Nat) (a:Str) {res:Str} (h:qck N a=some res):qb Tryz.prog (.fn 98) [.str a] [] (.str res) []:=by
 unfold qck at h
 refine Goes.fnW Tryz.func98 rfl rfl (m:=7) rfl (rs:=[.tmp 2]) rfl (l:=(kAQ a [])) rfl ?_
 refine sh fol (kAQ a []) ?_
 obtain⟨r1,e_r1,h⟩:=bnd h
 obtain⟨s2,e_s2,h⟩:=bnd h
 refine sq (gr fol [2,3] (kBs s2) (ac (cv (xB N a e_r1)) (ac (hs (.done (.opt (qR Tryz.prog 23 (.str a) none (some (.i r1)) none)) (.str s2)) (zC qj6 none (some r1) e_s2)) az)) ?_)
 refine Goes.ret ?_
 obtain rfl:=si h
 exact(gw2 [.str s2] (FzW.still tS))
def qaW (N:Nat) (a:Str):Option Int:=
 ((qck N a).bind fun r1=>
 (qcs r1).bind fun r2=>
 if(r2.length:Int)>600 then
 some true
 else
 (qcg N a).bind fun r4=>
 some (decide ((r4.length:Int)>600)):Option Bool).bind fun b5=>
 if b5=true then
 some 4
 else
 some 0
theorem qgp (N:Nat) (a:Str) {res:Int} (h:qaW N a=some res):qb Tryz.prog (.fn 97) [.str a] [] (.i res) []:=by
 unfold qaW at h
 refine Goes.fnW Tryz.func97 rfl rfl (m:=14) rfl (rs:=[.tmp 2]) rfl (l:=(kAQ a [])) rfl ?_
 refine sh fol (kAQ a []) ?_
 refine sq ?_
 refine sq ?_
 obtain⟨b5,g_v6,h⟩:=bnd h
 refine Goes.cut (s':=(ofG 14 (kBT b5),[])) ?_ ?_
 ·obtain⟨r1,e_r1,g_v6⟩:=bnd g_v6
  obtain⟨r2,e_r2,g_v6⟩:=bnd g_v6
  rcases wyD g_v6 with⟨c3,g_v6⟩|⟨c3,g_v6⟩
  ·obtain rfl:=si g_v6
   exact tr fol [1,2,5] [(13,.bool true)] (ac (cv (qeF N a e_r1)) (ac (cv (qez r1 e_r2)) (ac (gw c3) az)))
  ·obtain⟨r4,e_r4,g_v6⟩:=bnd g_v6
   obtain rfl:=si g_v6
   exact tr fol [1,2,5,7] (kBT (decide ((r4.length:Int)>600))) (ac (cv (qeF N a e_r1)) (ac (cv (qez r1 e_r2)) (ac (gw c3) (ac (cv (qhX N a e_r4)) az))))
 refine ihB h (fun c7 h=>?_) (fun c7 h=>?_)
 ·refine sh fol [(2,.i 4)] ?_
  refine Goes.ret ?_
  obtain rfl:=si h
  exact(gw2 [.i 4] (FzW.still tI))
 ·refine Goes.skip ?_
  refine sh fol kB3 ?_
  refine Goes.ret ?_
  obtain rfl:=si h
  exact(gw2 [.i 0] (FzW.still tI))
def jc (N:Nat) (have_:Str) (e:Int) (bad:Int) (want:Str):Option Bool:=
 ((if bad=0 then
 (qaW N want).bind fun r4=>
 some r4
 else
 some bad:Option Int)).bind fun n1=>
 if(!decide (n1=0))=true then
 (if(have_==[])=true then
 some (decide (e=n1))
 else
 some false:Option Bool).bind fun b7=>
 some b7
 else
 (if e=0 then
 some (have_==want)
 else
 some false:Option Bool).bind fun b10=>
 some b10
theorem qz (N:Nat) (have_:Str) (e:Int) (bad:Int) (want:Str) {res:Bool} (h:jc N have_ e bad want=some res):qb Tryz.prog (.fn 19) [.str have_,.i e,.i bad,.str want] [] (.bool res) []:=by
 unfold jc at h
 refine Goes.fnW Tryz.func19 rfl rfl (m:=29) rfl (rs:=[.tmp 8]) rfl (l:=(kAQ have_ [(1,.i e),(2,.i bad),(3,.str want)])) rfl ?_
 refine sh fol (kAQ have_ [(1,.i e),(2,.i bad),(3,.str want)]) ?_
 refine sq ?_
 refine sh fol (kAQ have_ ((1,.i e)::(2,.i bad)::(3,.str want)::(kBV (decide (bad=0))))) ?_
 obtain⟨r2,g2,h⟩:=bnd h
 refine Goes.imp (Q:=fun x s'=>(x= .normal∧ ∃n1,n1=r2∧Sub s' (ofG 29 (kAQ have_ [(1,.i e),(2,.i n1),(3,.str want)]),[]))) ?_ ?_
 ·refine ihD g2 (fun c3 g2=>?_) (fun c3 g2=>?_)
  ·obtain⟨r4,e_r4,g2⟩:=bnd g2
   refine gr fol [1] (kAQ have_ [(1,.i e),(2,.i r4),(3,.str want)]) (ac (cv (qgp N want e_r4)) az) ?_
   obtain rfl:=si g2
   exact⟨rfl,_,rfl,(Sub.refl _)⟩
  ·refine Goes.skip ?_
   obtain rfl:=si g2
   exact⟨rfl,_,rfl,(Sub.keep [0,1,2,3] rfl rfl)⟩
 rintro x s' ⟨rfl,n1,rfl,hsub⟩
 refine Goes.sub hsub ?_
 refine sq ?_
 refine sh fol (kAQ have_ ((1,.i e)::(2,.i n1)::(3,.str want)::(kBh (!decide (n1=0))))) ?_
 refine ihB h (fun c5 h=>?_) (fun c5 h=>?_)
 ·refine sq ?_
  obtain⟨b7,g_v8,h⟩:=bnd h
  refine Goes.cut (s':=(ofG 29 (kAz b7),[])) ?_ ?_
  ·rcases wyB g_v8 with⟨c6,g_v8⟩|⟨c6,g_v8⟩
   ·obtain rfl:=si g_v8
    exact tr fol [2] (kAz (decide (e=n1))) (ac (gw c6) az)
   ·obtain rfl:=si g_v8
    exact tr fol [2] kBI (ac (gw c6) az)
  refine Goes.ret ?_
  obtain rfl:=si h
  exact(gw2 [.bool b7] (FzW.still tB))
 ·refine Goes.skip ?_
  refine sq ?_
  obtain⟨b10,g_v11,h⟩:=bnd h
  refine Goes.cut (s':=(ofG 29 (kAz b10),[])) ?_ ?_
  ·rcases wyD g_v11 with⟨c9,g_v11⟩|⟨c9,g_v11⟩
   ·obtain rfl:=si g_v11
    exact tr fol [2] (kAz (have_==want)) (ac (gw c9) az)
   ·obtain rfl:=si g_v11
    exact tr fol [2] kBI (ac (gw c9) az)
  refine Goes.ret ?_
  obtain rfl:=si h
  exact(gw2 [.bool b10] (FzW.still tB))
def qK (least:Int):Nat→Int→Str→Option Str
 |0,_,_=>none
 |K+1,n1,s2=>
  (if n1>0 then
  some true
  else
  some (decide ((s2.length:Int)<least)):Option Bool).bind fun b6=>
  if b6=true then
  (cut [48,49,50,51,52,53,54,55,56,57] (n1.tmod 10) (w64 ((n1.tmod 10)+1))).bind fun s9=>
  (cat s9 s2).bind fun s10=>
  qK least K (w64 (n1.tdiv 10)) s10
  else
  some s2
def zk (N:Nat) (n:Int) (least:Int):Option Str:=
 (qK least N n []).bind fun s3=>
 some s3
theorem xK (N:Nat) (n:Int) (least:Int) {res:Str} (h:zk N n least=some res):qb Tryz.prog (.fn 127) [.i n,.i least] [] (.str res) []:=by
 unfold zk at h
 refine Goes.fnW Tryz.func127 rfl rfl (m:=25) rfl (rs:=[.tmp 4]) rfl (l:=(kAc n least [])) rfl ?_
 refine sh fol (kAc n least []) ?_
 refine sh fol (kAc n least [(5,.str [])]) ?_
 refine sq (Goes.block ?_)
 obtain⟨r4,g4,h⟩:=bnd h
 refine Goes.imp (Q:=fun x s'=>(x= .exit 0∧ ∃s3,s3=r4∧Sub s' (ofG 25 [(5,.str s3)],[]))) ?_ ?_
 ·refine Goes.loopS (fun M s=> ∃(n1:Int) (s2:Str),s=(ofG 25 (kAc n1 least [(5,.str s2)]),[])∧qK least M n1 s2=some r4) ?_ (m:=N) ⟨_,_,rfl,g4⟩
  rintro M s ⟨n1,s2,rfl,g4⟩
  cases M with
  |zero=>simp only[qK]at g4;cases g4
  |succ M=>
   rw[qK]at g4
   refine sq ?_
   refine sq ?_
   obtain⟨b6,g_v7,g4⟩:=bnd g4
   refine Goes.cut (s':=(ofG 25 (kAc n1 least ((5,.str s2)::(kBT b6))),[])) ?_ ?_
   ·rcases wyD g_v7 with⟨c5,g_v7⟩|⟨c5,g_v7⟩
    ·obtain rfl:=si g_v7
     exact tr fol [2] (kAc n1 least [(5,.str s2),(13,.bool true)]) (ac (gw c5) az)
    ·obtain rfl:=si g_v7
     exact tr fol [2] (kAc n1 least ((5,.str s2)::(kBT (decide ((s2.length:Int)<least))))) (ac (gw c5) az)
   refine ihB g4 (fun c8 g4=>?_) (fun c8 g4=>?_)
   ·refine Goes.skip ?_
    refine Goes.block ?_
    obtain⟨s9,e_s9,g4⟩:=bnd g4
    obtain⟨s10,e_s10,g4⟩:=bnd g4
    refine sq (gr fol [5,7] (kAc n1 least [(5,.str s10)]) (ac (hs (.done (.opt (qR Tryz.prog 9 (.str [48,49,50,51,52,53,54,55,56,57]) (some (.i (n1.tmod 10))) (some (.i (w64 ((n1.tmod 10)+1)))) none)) (.str s9)) (zC st9 (some (n1.tmod 10)) (some (w64 ((n1.tmod 10)+1))) e_s9)) (ac (hs (.done (.opt (qY Tryz.prog .add 9 (.tmp 19) (.tmp 20) (.str s9) (.str s2))) (.str s10)) (xY e_s10)) az)) ?_)
    refine gh fol (kAc (w64 (n1.tdiv 10)) least [(5,.str s10)]) ?_
    exact⟨M,(ofG 25 (kAc (w64 (n1.tdiv 10)) least [(5,.str s10)]),[]),Nat.lt_succ_self _,(Sub.refl _),_,_,rfl,g4⟩
   ·refine Goes.exit ?_
    obtain rfl:=si g4
    exact⟨rfl,_,rfl,(Sub.keep [5] rfl rfl)⟩
 rintro x s' ⟨rfl,s3,rfl,hsub⟩
 refine Goes.sub hsub ?_
 refine sh fol (kBb s3) ?_
 refine Goes.ret ?_
 obtain rfl:=si h
 exact(gw2 [.str s3] (FzW.still tS))
def jR (N:Nat) (a:qB):Nat→Str→Int→Option Str
 |0,_,_=>none
 |K+1,s4,n5=>
  if n5≥0 then
  (idx a.w n5).bind fun x9=>
  (zk N x9 9).bind fun r10=>
  (cat s4 r10).bind fun s11=>
  jR N a K s11 (w64 (n5-1))
  else
  some s4
def qaK (N:Nat) (a:qB):Option Str:=
 if(a.w.length:Int)=0 then
 some [48]
 else
 (idx a.w (w64 ((a.w.length:Int)-1))).bind fun x2=>
 (zk N x2 1).bind fun r3=>
 (jR N a N r3 (w64 ((a.w.length:Int)-2))).bind fun s6=>
 if a.neg=true then
 (cat [45] s6).bind fun s13=>
 some s13
 else
 some s6
theorem qed (N:Nat) (a:qB) {res:Str} (h:qaK N a=some res):qb Tryz.prog (.fn 114) [.agg (kAr a.neg a.w)] [] (.str res) []:=by
 unfold qaK at h
 refine Goes.fnW Tryz.func114 rfl rfl (m:=39) rfl (rs:=[.tmp 2]) rfl (l:=[(0,.agg [.bool a.neg,vl encI a.w])]) rfl ?_
 refine sg fol (kA2 []) (kAW a.neg a.w []) ?_
 refine sq ?_
 refine sh fol (kA2 (kAz (decide ((a.w.length:Int)=0)))) ?_
 refine ihD h (fun c1 h=>?_) (fun c1 h=>?_)
 ·refine sh fol [(2,.str [48])] ?_
  refine Goes.ret ?_
  obtain rfl:=si h
  exact(gw2 [.str [48]] (FzW.still tS))
 ·refine Goes.skip ?_
  obtain⟨x2,e_x2,h⟩:=bnd h
  obtain⟨r3,e_r3,h⟩:=bnd h
  refine sq (gr fol [6,7,8] (kA2 [(3,.str r3)]) (ac (iv ja encI e_x2) (ac (lv 0 ce3 encI e_x2 rfl) (ac (cv (xK N x2 1 e_r3)) az))) ?_)
  refine sq ?_
  refine sh fol (kA2 (kA6 r3 (w64 ((a.w.length:Int)-2)) [])) ?_
  refine Goes.block ?_
  obtain⟨r7,g7,h⟩:=bnd h
  refine Goes.imp (Q:=fun x s'=>(x= .exit 0∧ ∃s6,s6=r7∧Sub s' (ofG 39 (kA2 [(3,.str s6)]),(kAW a.neg a.w [])))) ?_ ?_
  ·refine Goes.loopS (fun M s=> ∃(s4:Str) (n5:Int),s=(ofG 39 (kA2 (kA6 s4 n5 [])),(kAW a.neg a.w []))∧jR N a M s4 n5=some r7) ?_ (m:=N) ⟨_,_,rfl,g7⟩
   rintro M s ⟨s4,n5,rfl,g7⟩
   cases M with
   |zero=>simp only[jR]at g7;cases g7
   |succ M=>
    rw[jR]at g7
    refine sq ?_
    refine sh fol (kA2 (kA6 s4 n5 [(23,.bool (decide (n5≥0)))])) ?_
    refine ihD g7 (fun c8 g7=>?_) (fun c8 g7=>?_)
    ·refine Goes.skip ?_
     refine sq (Goes.block ?_)
     obtain⟨x9,e_x9,g7⟩:=bnd g7
     obtain⟨r10,e_r10,g7⟩:=bnd g7
     obtain⟨s11,e_s11,g7⟩:=bnd g7
     refine gr fol [4,5,6,7] (kA2 (kA6 s11 n5 [])) (ac (iv ja encI e_x9) (ac (lv 0 ce3 encI e_x9 rfl) (ac (cv (xK N x9 9 e_r10)) (ac (hs (.done (.opt (qY Tryz.prog .add 9 (.tmp 26) (.tmp 32) (.str s4) (.str r10))) (.str s11)) (xY e_s11)) az)))) ?_
     refine gh fol (kA2 (kA6 s11 (w64 (n5-1)) [])) ?_
     exact⟨M,(ofG 39 (kA2 (kA6 s11 (w64 (n5-1)) [])),(kAW a.neg a.w [])),Nat.lt_succ_self _,(Sub.refl _),_,_,rfl,g7⟩
    ·refine Goes.exit ?_
     obtain rfl:=si g7
     exact⟨rfl,_,rfl,(Sub.keep [1,3] rfl rfl)⟩
  rintro x s' ⟨rfl,s6,rfl,hsub⟩
  refine Goes.sub hsub ?_
  refine sq ?_
  refine sh fol [(3,.str s6),(35,.bool a.neg)] ?_
  refine ihB h (fun c12 h=>?_) (fun c12 h=>?_)
  ·obtain⟨s13,e_s13,h⟩:=bnd h
   refine sq (gr fol [1] (kBs s13) (ac (hs (.done (.opt (qY Tryz.prog .add 9 (.const (.string ⟨#[45]⟩)) (.tmp 36) (.str [45]) (.str s6))) (.str s13)) (xY e_s13)) az) ?_)
   refine Goes.ret ?_
   obtain rfl:=si h
   exact(gw2 [.str s13] (FzW.still tS))
  ·refine Goes.skip ?_
   refine sh fol (kBs s6) ?_
   refine Goes.ret ?_
   obtain rfl:=si h
   exact(gw2 [.str s6] (FzW.still tS))
def yC (N:Nat) (a:qB):Option qB:=
 (zm N (!a.neg) a.w).bind fun r1=>
 some r1
theorem qdr (N:Nat) (a:qB) {res:qB} (h:yC N a=some res):qb Tryz.prog (.fn 168) [.agg (kAr a.neg a.w)] [] (.agg (kAr res.neg res.w)) []:=by
 unfold yC at h
 refine Goes.fnW Tryz.func168 rfl rfl (m:=9) rfl (rs:=[.cell 2 121]) rfl (l:=[(0,.agg [.bool a.neg,vl encI a.w])]) rfl ?_
 refine sg fol (kAH []) (kAW a.neg a.w (kU [])) ?_
 obtain⟨r1,e_r1,h⟩:=bnd h
 refine sq (gq fol [5] kBX (kO a.neg a.w r1.neg r1.w []) (ac (cv (zB N (!a.neg) a.w e_r1)) az) ?_)
 refine Goes.ret ?_
 obtain rfl:=si h
 exact(gw2 [.agg (kAr r1.neg r1.w)] (FzW.agg (qd.cons (FzW.still tB) (qd.cons (FzW.still (qo encI _ (nl rfl))) qd.nil))))
def jI (N:Nat) (n:qB) (d:qB):Option Str:=
 ((if d.neg=true then
 (yC N n).bind fun r7=>
 (yC N d).bind fun r8=>
 some (r7.neg,r7.w,r8.neg,r8.w)
 else
 some (n.neg,n.w,d.neg,d.w):Option (Bool×(List Int)×Bool×(List Int)))).bind fun(b1,l2,b3,l4)=>
 (xE N l2 l4).bind fun r9=>
 (zU N l2 r9).bind fun r10=>
 (zU N l4 r9).bind fun r11=>
 (zm N b1 r10.1).bind fun r12=>
 (qaK N r12).bind fun r13=>
 (if(r11.1.length:Int)=1 then
 (idx r11.1 0).bind fun x15=>
 some (decide (x15=1))
 else
 some false:Option Bool).bind fun b16=>
 if b16=true then
 some r13
 else
 (cat r13 [47]).bind fun s19=>
 (zm N false r11.1).bind fun r20=>
 (qaK N r20).bind fun r21=>
 (cat s19 r21).bind fun s22=>
 some s22
theorem yZ (N:Nat) (n:qB) (d:qB) {res:Str} (h:jI N n d=some res):qb Tryz.prog (.fn 109) (kAy n.neg n.w d.neg d.w) [] (.str res) []:=by
 unfold jI at h
 refine Goes.fnW Tryz.func109 rfl rfl (m:=57) rfl (rs:=[.tmp 4]) rfl (l:=(kBr n.neg n.w d.neg d.w)) rfl ?_
 refine sg fol (kR []) (kO n.neg n.w d.neg d.w []) ?_
 refine sq ?_
 refine sh fol (kR (kBU d.neg)) ?_
 obtain⟨r5,g5,h⟩:=bnd h
 refine Goes.imp (Q:=fun x s'=>(x= .normal∧ ∃b1 l2 b3 l4,(b1,l2,b3,l4)=r5∧Sub s' (ofG 57 (kR []),(kO b1 l2 b3 l4 [])))) ?_ ?_
 ·refine ihB g5 (fun c6 g5=>?_) (fun c6 g5=>?_)
  ·obtain⟨r7,e_r7,g5⟩:=bnd g5
   obtain⟨r8,e_r8,g5⟩:=bnd g5
   refine gq fol [1,3] (kR []) (kO r7.neg r7.w r8.neg r8.w []) (ac (cv (qdr N n e_r7)) (ac (cv (qdr N d e_r8)) az)) ?_
   obtain rfl:=si g5
   exact⟨rfl,_,_,_,_,rfl,(Sub.refl _)⟩
  ·refine Goes.skip ?_
   obtain rfl:=si g5
   exact⟨rfl,_,_,_,_,rfl,(Sub.keep [2,3] rfl rfl)⟩
 rintro x s' ⟨rfl,b1,l2,b3,l4,rfl,hsub⟩
 try dsimp only at h
 refine Goes.sub hsub ?_
 obtain⟨r9,e_r9,h⟩:=bnd h
 refine sq (gr fol [4] (kR (kBj r9 [])) (ac (cv (qc9 N l2 l4 e_r9)) az) ?_)
 obtain⟨r10,e_r10,h⟩:=bnd h
 refine sq (gr fol [3] (kR (kBj r9 [(6,vl encI r10.1)])) (ac (cv (qag N l2 r9 e_r10)) az) ?_)
 obtain⟨r11,e_r11,h⟩:=bnd h
 refine sq (gr fol [3] (kAM [(6,vl encI r10.1),(8,vl encI r11.1)]) (ac (cv (qag N l4 r9 e_r11)) az) ?_)
 obtain⟨r12,e_r12,h⟩:=bnd h
 obtain⟨r13,e_r13,h⟩:=bnd h
 refine sq (gr fol [3,4] [(8,vl encI r11.1),(10,.str r13)] (ac (cv (zB N b1 r10.1 e_r12)) (ac (cv (qed N r12 e_r13)) az)) ?_)
 refine sq ?_
 refine sq ?_
 obtain⟨b16,g_v17,h⟩:=bnd h
 refine Goes.cut (s':=(ofG 57 [(8,vl encI r11.1),(10,.str r13),(49,.bool b16)],(kO b1 l2 b3 l4 []))) ?_ ?_
 ·rcases wyD g_v17 with⟨c14,g_v17⟩|⟨c14,g_v17⟩
  ·obtain⟨x15,e_x15,g_v17⟩:=bnd g_v17
   obtain rfl:=si g_v17
   exact tr fol [3,5,6] [(8,vl encI r11.1),(10,.str r13),(49,.bool (decide (x15=1)))] (ac (gw c14) (ac (iv ja encI e_x15) (ac (lv 0 ce3 encI e_x15 rfl) az)))
  ·obtain rfl:=si g_v17
   exact tr fol [3] [(8,vl encI r11.1),(10,.str r13),(49,.bool false)] (ac (gw c14) az)
 refine ihB h (fun c18 h=>?_) (fun c18 h=>?_)
 ·refine sh fol (kBb r13) ?_
  refine Goes.ret ?_
  obtain rfl:=si h
  exact(gw2 [.str r13] (FzW.still tS))
 ·refine Goes.skip ?_
  obtain⟨s19,e_s19,h⟩:=bnd h
  obtain⟨r20,e_r20,h⟩:=bnd h
  obtain⟨r21,e_r21,h⟩:=bnd h
  obtain⟨s22,e_s22,h⟩:=bnd h
  refine sq (gr fol [1,3,4,5] (kBb s22) (ac (hs (.done (.opt (qY Tryz.prog .add 9 (.tmp 51) (.const (.string ⟨#[47]⟩)) (.str r13) (.str [47]))) (.str s19)) (xY e_s19)) (ac (cv (zB N false r11.1 e_r20)) (ac (cv (qed N r20 e_r21)) (ac (hs (.done (.opt (qY Tryz.prog .add 9 (.tmp 52) (.tmp 55) (.str s19) (.str r21))) (.str s22)) (xY e_s22)) az)))) ?_)
  refine Goes.ret ?_
  obtain rfl:=si h
  exact(gw2 [.str s22] (FzW.still tS))
def jm:Nat→Int→Int→Option Int
 |0,_,_=>none
 |K+1,n1,n2=>
  if n2>0 then
  (qdu .i64 n1 n2).bind fun q6=>
  jm K n2 q6
  else
  some n1
def qcx (N:Nat) (a:Int) (b:Int):Option Int:=
 (jm N a b).bind fun n3=>
 some n3
theorem qhZ (N:Nat) (a:Int) (b:Int) {res:Int} (h:qcx N a b=some res):qb Tryz.prog (.fn 126) [.i a,.i b] [] (.i res) []:=by
 unfold qcx at h
 refine Goes.fnW Tryz.func126 rfl rfl (m:=12) rfl (rs:=[.tmp 4]) rfl (l:=(kAc a b [])) rfl ?_
 refine sh fol (kAc a b []) ?_
 refine sq (Goes.block ?_)
 obtain⟨r4,g4,h⟩:=bnd h
 refine Goes.imp (Q:=fun x s'=>(x= .exit 0∧ ∃n3,n3=r4∧Sub s' (ofG 12 [(0,.i n3)],[]))) ?_ ?_
 ·refine Goes.loopS (fun M s=> ∃(n1:Int) (n2:Int),s=(ofG 12 (kAc n1 n2 []),[])∧jm M n1 n2=some r4) ?_ (m:=N) ⟨_,_,rfl,g4⟩
  rintro M s ⟨n1,n2,rfl,g4⟩
  cases M with
  |zero=>simp only[jm]at g4;cases g4
  |succ M=>
   rw[jm]at g4
   refine sq ?_
   refine sh fol (kAc n1 n2 [(6,.bool (decide (n2>0)))]) ?_
   refine ihD g4 (fun c5 g4=>?_) (fun c5 g4=>?_)
   ·refine Goes.skip ?_
    refine Goes.block ?_
    obtain⟨q6,e_q6,g4⟩:=bnd g4
    refine gr fol [3] (kAc n2 q6 []) (ac (hs (.done (.opt (qY Tryz.prog .rem 3 (.tmp 8) (.tmp 9) (.i n1) (.i n2))) (.i q6)) (qeB e_q6)) az) ?_
    exact⟨M,(ofG 12 (kAc n2 q6 []),[]),Nat.lt_succ_self _,(Sub.refl _),_,_,rfl,g4⟩
   ·refine Goes.exit ?_
    obtain rfl:=si g4
    exact⟨rfl,_,rfl,(Sub.keep [0] rfl rfl)⟩
 rintro x s' ⟨rfl,n3,rfl,hsub⟩
 refine Goes.sub hsub ?_
 refine sh fol (kB7 n3) ?_
 refine Goes.ret ?_
 obtain rfl:=si h
 exact(gw2 [.i n3] (FzW.still tI))
def qcw (N:Nat) (num:Int) (den:Int):Option Str:=
 (if num<(-4000000000000000000)then
 some true
 else
 if num>4000000000000000000 then
 some true
 else
 if den<(-4000000000000000000)then
 some true
 else
 some (decide (den>4000000000000000000)):Option Bool).bind fun b4=>
 if b4=true then
 (xz N num).bind fun r7=>
 (xz N den).bind fun r8=>
 (jI N r7 r8).bind fun r9=>
 some r9
 else
 ((if den<0 then
 some (w64 (0-num),w64 (0-den))
 else
 some (num,den):Option (Int×Int))).bind fun(n10,n11)=>
 (qcx N (if(w64 (0-n10))>n10 then(w64 (0-n10))else n10) n11).bind fun r14=>
 (qbK .i64 n10 r14).bind fun q15=>
 (qbK .i64 n11 r14).bind fun q16=>
 ((if q15<0 then
 some [45]
 else
 some []:Option Str)).bind fun s17=>
 (zk N (if(w64 (0-q15))>q15 then(w64 (0-q15))else q15) 1).bind fun r20=>
 (cat s17 r20).bind fun s21=>
 ((if q16>1 then
 (cat s21 [47]).bind fun s25=>
 (zk N q16 1).bind fun r26=>
 (cat s25 r26).bind fun s27=>
 some s27
 else
 some s21:Option Str)).bind fun s22=>
 some s22
theorem qfv (N:Nat) (num:Int) (den:Int) {res:Str} (h:qcw N num den=some res):qb Tryz.prog (.fn 55) [.i num,.i den] [] (.str res) []:=by
 unfold qcw at h
 refine Goes.fnW Tryz.func55 rfl rfl (m:=61) rfl (rs:=[.tmp 4]) rfl (l:=(kAc num den [])) rfl ?_
 refine sh fol (kAc num den []) ?_
 refine sq ?_
 refine sq ?_
 obtain⟨b4,g_v5,h⟩:=bnd h
 refine Goes.cut (s':=(ofG 61 (kAc num den [(20,.bool b4)]),[])) ?_ ?_
 ·rcases wyD g_v5 with⟨c1,g_v5⟩|⟨c1,g_v5⟩
  ·obtain rfl:=si g_v5
   exact tr fol [2] (kAc num den [(20,.bool true)]) (ac (gw c1) az)
  ·rcases wyD g_v5 with⟨c2,g_v5⟩|⟨c2,g_v5⟩
   ·obtain rfl:=si g_v5
    exact tr fol [2,6] (kAc num den [(20,.bool true)]) (ac (gw c1) (ac (gw c2) az))
   ·rcases wyD g_v5 with⟨c3,g_v5⟩|⟨c3,g_v5⟩
    ·obtain rfl:=si g_v5
     exact tr fol [2,6,10] (kAc num den [(20,.bool true)]) (ac (gw c1) (ac (gw c2) (ac (gw c3) az)))
    ·obtain rfl:=si g_v5
     exact tr fol [2,6,10] (kAc num den [(20,.bool (decide (den>4000000000000000000)))]) (ac (gw c1) (ac (gw c2) (ac (gw c3) az)))
 refine ihB h (fun c6 h=>?_) (fun c6 h=>?_)
 ·obtain⟨r7,e_r7,h⟩:=bnd h
  obtain⟨r8,e_r8,h⟩:=bnd h
  obtain⟨r9,e_r9,h⟩:=bnd h
  refine sq (gr fol [1,3,4] (kBb r9) (ac (cv (qbx N num e_r7)) (ac (cv (qbx N den e_r8)) (ac (cv (yZ N r7 r8 e_r9)) az))) ?_)
  refine Goes.ret ?_
  obtain rfl:=si h
  exact(gw2 [.str r9] (FzW.still tS))
 ·refine Goes.skip ?_
  refine sq ?_
  refine sh fol (kAc num den [(27,.bool (decide (den<0)))]) ?_
  obtain⟨r12,g12,h⟩:=bnd h
  refine Goes.imp (Q:=fun x s'=>(x= .normal∧ ∃n10 n11,(n10,n11)=r12∧Sub s' (ofG 61 (kAc n10 n11 []),[]))) ?_ ?_
  ·refine ihD g12 (fun c13 g12=>?_) (fun c13 g12=>?_)
   ·refine gh fol (kAc (w64 (0-num)) (w64 (0-den)) []) ?_
    obtain rfl:=si g12
    exact⟨rfl,_,_,rfl,(Sub.refl _)⟩
   ·refine Goes.skip ?_
    obtain rfl:=si g12
    exact⟨rfl,_,_,rfl,(Sub.keep [0,1] rfl rfl)⟩
  rintro x s' ⟨rfl,n10,n11,rfl,hsub⟩
  try dsimp only at h
  refine Goes.sub hsub ?_
  obtain⟨r14,e_r14,h⟩:=bnd h
  refine sq (gr fol [5] (kAc n10 n11 (kA5 r14)) (ac (cv (qhZ N (if(w64 (0-n10))>n10 then(w64 (0-n10))else n10) n11 e_r14)) az) ?_)
  obtain⟨q15,e_q15,h⟩:=bnd h
  obtain⟨q16,e_q16,h⟩:=bnd h
  refine sq (gr fol [2,5] (kAc q15 q16 []) (ac (hs (.done (.opt (qY Tryz.prog .quo 3 (.tmp 38) (.tmp 39) (.i n10) (.i r14))) (.i q15)) (qbe e_q15)) (ac (hs (.done (.opt (qY Tryz.prog .quo 3 (.tmp 41) (.tmp 42) (.i n11) (.i r14))) (.i q16)) (qbe e_q16)) az)) ?_)
  refine sh fol (kAc q15 q16 [(6,.str [])]) ?_
  refine sq ?_
  refine sh fol (kAc q15 q16 [(6,.str []),(45,.bool (decide (q15<0)))]) ?_
  obtain⟨r18,g18,h⟩:=bnd h
  refine Goes.imp (Q:=fun x s'=>(x= .normal∧ ∃s17,s17=r18∧Sub s' (ofG 61 (kAc q15 q16 [(6,.str s17)]),[]))) ?_ ?_
  ·refine ihD g18 (fun c19 g18=>?_) (fun c19 g18=>?_)
   ·refine gh fol (kAc q15 q16 [(6,.str [45])]) ?_
    obtain rfl:=si g18
    exact⟨rfl,_,rfl,(Sub.refl _)⟩
   ·refine Goes.skip ?_
    obtain rfl:=si g18
    exact⟨rfl,_,rfl,(Sub.keep [0,1,6] rfl rfl)⟩
  rintro x s' ⟨rfl,s17,rfl,hsub⟩
  refine Goes.sub hsub ?_
  obtain⟨r20,e_r20,h⟩:=bnd h
  obtain⟨s21,e_s21,h⟩:=bnd h
  refine sq (gr fol [5,6] [(1,.i q16),(6,.str s21)] (ac (cv (xK N (if(w64 (0-q15))>q15 then(w64 (0-q15))else q15) 1 e_r20)) (ac (hs (.done (.opt (qY Tryz.prog .add 9 (.tmp 46) (.tmp 51) (.str s17) (.str r20))) (.str s21)) (xY e_s21)) az)) ?_)
  refine sq ?_
  refine sh fol [(1,.i q16),(6,.str s21),(54,.bool (decide (q16>1)))] ?_
  obtain⟨r23,g23,h⟩:=bnd h
  refine Goes.imp (Q:=fun x s'=>(x= .normal∧ ∃s22,s22=r23∧Sub s' (ofG 61 [(6,.str s22)],[]))) ?_ ?_
  ·refine ihD g23 (fun c24 g23=>?_) (fun c24 g23=>?_)
   ·obtain⟨s25,e_s25,g23⟩:=bnd g23
    obtain⟨r26,e_r26,g23⟩:=bnd g23
    obtain⟨s27,e_s27,g23⟩:=bnd g23
    refine gr fol [1,3,4] [(6,.str s27)] (ac (hs (.done (.opt (qY Tryz.prog .add 9 (.tmp 55) (.const (.string ⟨#[47]⟩)) (.str s21) (.str [47]))) (.str s25)) (xY e_s25)) (ac (cv (xK N q16 1 e_r26)) (ac (hs (.done (.opt (qY Tryz.prog .add 9 (.tmp 56) (.tmp 58) (.str s25) (.str r26))) (.str s27)) (xY e_s27)) az))) ?_
    obtain rfl:=si g23
    exact⟨rfl,_,rfl,(Sub.refl _)⟩
   ·refine Goes.skip ?_
    obtain rfl:=si g23
    exact⟨rfl,_,rfl,(Sub.keep [6] rfl rfl)⟩
  rintro x s' ⟨rfl,s22,rfl,hsub⟩
  refine Goes.sub hsub ?_
  refine sh fol (kBb s22) ?_
  refine Goes.ret ?_
  obtain rfl:=si h
  exact(gw2 [.str s22] (FzW.still tS))
def jK (N:Nat) (a:Str):Option (Int×Int×Bool):=
 if(a.length:Int)>20 then
 some (0,0,false)
 else
 (if(a.length:Int)>0 then
 (idx a 0).bind fun c3=>
 some (decide ((c3.toNat:Int)=45))
 else
 some false:Option Bool).bind fun b4=>
 ((if b4=true then
 (cut a 1 (a.length:Int)).bind fun s9=>
 some s9
 else
 some a:Option Str)).bind fun s6=>
 (vI N s6).bind fun r10=>
 (if r10>9 then
 some true
 else
 some (decide ((w64 ((s6.length:Int)-r10))>10)):Option Bool).bind fun b12=>
 if b12=true then
 some (0,0,false)
 else
 (cut s6 0 r10).bind fun s15=>
 (yw N s15).bind fun r16=>
 ((if r10<(s6.length:Int)then
 (cut s6 (w64 (r10+1)) (s6.length:Int)).bind fun s20=>
 (yw N s20).bind fun r21=>
 some r21
 else
 some 1:Option Int)).bind fun n17=>
 ((if b4=true then
 some (w64 (0-r16))
 else
 some r16:Option Int)).bind fun n22=>
 some (n22,n17,true)
theorem qaz (N:Nat) (a:Str) {res:Int×Int×Bool} (h:jK N a=some res):qb Tryz.prog (.fn 108) [.str a] [] (.tuple [.i res.1,.i res.2.1,.bool res.2.2]) []:=by
 unfold jK at h
 refine Goes.fnW Tryz.func108 rfl rfl (m:=54) rfl (rs:=[.tmp 2,.tmp 3,.tmp 4]) rfl (l:=(kAQ a [])) rfl ?_
 refine sh fol (kAQ a []) ?_
 refine sh fol [(5,.str a)] ?_
 refine sq ?_
 refine sh fol ((5,.str a)::(kBT (decide ((a.length:Int)>20)))) ?_
 refine ihD h (fun c1 h=>?_) (fun c1 h=>?_)
 ·refine sh fol ((2,.i 0)::(3,.i 0)::kAT) ?_
  refine Goes.ret ?_
  obtain rfl:=si h
  exact(gw2 [.i 0,.i 0,.bool false] (FzW.tuple (qd.cons (FzW.still tI) (qd.cons (FzW.still tI) (qd.cons (FzW.still tB) qd.nil)))))
 ·refine Goes.skip ?_
  refine sq ?_
  obtain⟨b4,g_v5,h⟩:=bnd h
  refine Goes.cut (s':=(ofG 54 (kBN a b4 []),[])) ?_ ?_
  ·rcases wyD g_v5 with⟨c2,g_v5⟩|⟨c2,g_v5⟩
   ·obtain⟨c3,e_c3,g_v5⟩:=bnd g_v5
    obtain rfl:=si g_v5
    exact tr fol [3,5] (kBN a (decide ((c3.toNat:Int)=45)) []) (ac (gw c2) (ac (hs (.done (.opt (vC Tryz.prog 9 (.str a) (.i 0))) (.int .u8 (c3.toNat:Int))) (xQ st9 e_c3)) az))
   ·obtain rfl:=si g_v5
    exact tr fol [3] ((5,.str a)::kBD) (ac (gw c2) az)
  refine sq ?_
  refine sh fol (kBN a b4 [(22,.bool b4)]) ?_
  obtain⟨r7,g7,h⟩:=bnd h
  refine Goes.imp (Q:=fun x s'=>(x= .normal∧ ∃s6,s6=r7∧Sub s' (ofG 54 (kBN s6 b4 []),[]))) ?_ ?_
  ·refine ihB g7 (fun c8 g7=>?_) (fun c8 g7=>?_)
   ·obtain⟨s9,e_s9,g7⟩:=bnd g7
    refine gr fol [1] (kBN s9 b4 []) (ac (hs (.done (.opt (qR Tryz.prog 9 (.str a) (some (.i 1)) none none)) (.str s9)) (zC st9 (some 1) none e_s9)) az) ?_
    obtain rfl:=si g7
    exact⟨rfl,_,rfl,(Sub.refl _)⟩
   ·refine Goes.skip ?_
    obtain rfl:=si g7
    exact⟨rfl,_,rfl,(Sub.keep [5,6] rfl rfl)⟩
  rintro x s' ⟨rfl,s6,rfl,hsub⟩
  refine Goes.sub hsub ?_
  obtain⟨r10,e_r10,h⟩:=bnd h
  refine sq (gr fol [1] (kBN s6 b4 [(7,.i r10)]) (ac (cv (xB N s6 e_r10)) az) ?_)
  refine sq ?_
  refine sq ?_
  obtain⟨b12,g_v13,h⟩:=bnd h
  refine Goes.cut (s':=(ofG 54 (kBN s6 b4 [(7,.i r10),(35,.bool b12)]),[])) ?_ ?_
  ·rcases wyD g_v13 with⟨c11,g_v13⟩|⟨c11,g_v13⟩
   ·obtain rfl:=si g_v13
    exact tr fol [2] (kBN s6 b4 ((7,.i r10)::kBz)) (ac (gw c11) az)
   ·obtain rfl:=si g_v13
    exact tr fol [2] (kBN s6 b4 [(7,.i r10),(35,.bool (decide ((w64 ((s6.length:Int)-r10))>10)))]) (ac (gw c11) az)
  refine ihB h (fun c14 h=>?_) (fun c14 h=>?_)
  ·refine sh fol ((2,.i 0)::(3,.i 0)::kAT) ?_
   refine Goes.ret ?_
   obtain rfl:=si h
   exact(gw2 [.i 0,.i 0,.bool false] (FzW.tuple (qd.cons (FzW.still tI) (qd.cons (FzW.still tI) (qd.cons (FzW.still tB) qd.nil)))))
  ·refine Goes.skip ?_
   obtain⟨s15,e_s15,h⟩:=bnd h
   obtain⟨r16,e_r16,h⟩:=bnd h
   refine sq (gr fol [2,3] (kBN s6 b4 [(7,.i r10),(8,.i r16),(9,.i 1)]) (ac (hs (.done (.opt (qR Tryz.prog 9 (.str s6) none (some (.i r10)) none)) (.str s15)) (zC st9 none (some r10) e_s15)) (ac (cv (qao N s15 e_r16)) az)) ?_)
   refine sq ?_
   refine sh fol (kBN s6 b4 [(7,.i r10),(8,.i r16),(9,.i 1),(43,.bool (decide (r10<(s6.length:Int))))]) ?_
   obtain⟨r18,g18,h⟩:=bnd h
   refine Goes.imp (Q:=fun x s'=>(x= .normal∧ ∃n17,n17=r18∧Sub s' (ofG 54 ((6,.bool b4)::(kBA r16 n17 [])),[]))) ?_ ?_
   ·refine ihD g18 (fun c19 g18=>?_) (fun c19 g18=>?_)
    ·obtain⟨s20,e_s20,g18⟩:=bnd g18
     obtain⟨r21,e_r21,g18⟩:=bnd g18
     refine gr fol [3,4] ((6,.bool b4)::(kBA r16 r21 [])) (ac (hs (.done (.opt (qR Tryz.prog 9 (.str s6) (some (.i (w64 (r10+1)))) none none)) (.str s20)) (zC st9 (some (w64 (r10+1))) none e_s20)) (ac (cv (qao N s20 e_r21)) az)) ?_
     obtain rfl:=si g18
     exact⟨rfl,_,rfl,(Sub.refl _)⟩
    ·refine Goes.skip ?_
     obtain rfl:=si g18
     exact⟨rfl,_,rfl,(Sub.keep [6,8,9] rfl rfl)⟩
   rintro x s' ⟨rfl,n17,rfl,hsub⟩
   refine Goes.sub hsub ?_
   refine sq ?_
   refine sh fol (kBA r16 n17 [(49,.bool b4)]) ?_
   obtain⟨r23,g23,h⟩:=bnd h
   refine Goes.imp (Q:=fun x s'=>(x= .normal∧ ∃n22,n22=r23∧Sub s' (ofG 54 (kBA n22 n17 []),[]))) ?_ ?_
   ·refine ihB g23 (fun c24 g23=>?_) (fun c24 g23=>?_)
    ·refine gh fol (kBA (w64 (0-r16)) n17 []) ?_
     obtain rfl:=si g23
     exact⟨rfl,_,rfl,(Sub.refl _)⟩
    ·refine Goes.skip ?_
     obtain rfl:=si g23
     exact⟨rfl,_,rfl,(Sub.keep [8,9] rfl rfl)⟩
   rintro x s' ⟨rfl,n22,rfl,hsub⟩
   refine Goes.sub hsub ?_
   refine sh fol [(2,.i n22),(3,.i n17),(4,.bool true)] ?_
   refine Goes.ret ?_
   obtain rfl:=si h
   exact(gw2 [.i n22,.i n17,.bool true] (FzW.tuple (qd.cons (FzW.still tI) (qd.cons (FzW.still tI) (qd.cons (FzW.still tB) qd.nil)))))
def vJ (N:Nat) (a:qB) (b:qB):Option qB:=
 (jN N a.w b.w).bind fun r1=>
 (zm N (!(a.neg==b.neg)) r1).bind fun r2=>
 some r2
theorem xm (N:Nat) (a:qB) (b:qB) {res:qB} (h:vJ N a b=some res):qb Tryz.prog (.fn 110) (kAy a.neg a.w b.neg b.w) [] (.agg (kAr res.neg res.w)) []:=by
 unfold vJ at h
 refine Goes.fnW Tryz.func110 rfl rfl (m:=16) rfl (rs:=[.cell 4 121]) rfl (l:=(kBr a.neg a.w b.neg b.w)) rfl ?_
 refine sg fol (kH []) (kO a.neg a.w b.neg b.w (kU [])) ?_
 obtain⟨r1,e_r1,h⟩:=bnd h
 obtain⟨r2,e_r2,h⟩:=bnd h
 refine sq (gq fol [9,10] (kAU []) (kO a.neg a.w b.neg b.w (kAW r2.neg r2.w [])) (ac (cv (qab N a.w b.w e_r1)) (ac (cv (zB N (!(a.neg==b.neg)) r1 e_r2)) az)) ?_)
 refine Goes.ret ?_
 obtain rfl:=si h
 exact(gw2 [.agg (kAr r2.neg r2.w)] (FzW.agg (qd.cons (FzW.still tB) (qd.cons (FzW.still (qo encI _ (nl rfl))) qd.nil))))
def qbu (N:Nat) (a:Str) (b:Str):Option Str:=
 (jK N a).bind fun r1=>
 (jK N b).bind fun r2=>
 (if r1.2.2=true then
 some r2.2.2
 else
 some false:Option Bool).bind fun b4=>
 if b4=true then
 (qcw N (w64 (r1.1*r2.1)) (w64 (r1.2.1*r2.2.1))).bind fun r7=>
 some r7
 else
 (zY N a).bind fun r8=>
 (zY N b).bind fun r9=>
 (vJ N r8.1 r9.1).bind fun r10=>
 (vJ N r8.2 r9.2).bind fun r11=>
 (jI N r10 r11).bind fun r12=>
 some r12
theorem qcL (N:Nat) (a:Str) (b:Str) {res:Str} (h:qbu N a b=some res):qb Tryz.prog (.fn 25) (kAR a b) [] (.str res) []:=by
 unfold qbu at h
 refine Goes.fnW Tryz.func25 rfl rfl (m:=55) rfl (rs:=[.tmp 4]) rfl (l:=(kJ a b [])) rfl ?_
 refine sh fol (kJ a b []) ?_
 obtain⟨r1,e_r1,h⟩:=bnd h
 refine sq (gr fol [1] (kJ a b (kBf r1.1 r1.2.1 [(7,.bool r1.2.2)])) (ac (cv (qaz N a e_r1)) az) ?_)
 obtain⟨r2,e_r2,h⟩:=bnd h
 refine sq (gr fol [1] (kJ a b (kBf r1.1 r1.2.1 ((7,.bool r1.2.2)::(kBA r2.1 r2.2.1 (kBV r2.2.2))))) (ac (cv (qaz N b e_r2)) az) ?_)
 refine sq ?_
 refine sq ?_
 obtain⟨b4,g_v5,h⟩:=bnd h
 refine Goes.cut (s':=(ofG 55 (kJ a b (kBf r1.1 r1.2.1 (kBA r2.1 r2.2.1 [(30,.bool b4)]))),[])) ?_ ?_
 ·rcases wyB g_v5 with⟨c3,g_v5⟩|⟨c3,g_v5⟩
  ·obtain rfl:=si g_v5
   exact tr fol [1] (kJ a b (kBf r1.1 r1.2.1 (kBA r2.1 r2.2.1 [(30,.bool r2.2.2)]))) (ac (gw c3) az)
  ·obtain rfl:=si g_v5
   exact tr fol [1] (kJ a b (kBf r1.1 r1.2.1 (kBA r2.1 r2.2.1 [(30,.bool false)]))) (ac (gw c3) az)
 refine ihB h (fun c6 h=>?_) (fun c6 h=>?_)
 ·obtain⟨r7,e_r7,h⟩:=bnd h
  refine sq (gr fol [6] (kBb r7) (ac (cv (qfv N (w64 (r1.1*r2.1)) (w64 (r1.2.1*r2.2.1)) e_r7)) az) ?_)
  refine Goes.ret ?_
  obtain rfl:=si h
  exact(gw2 [.str r7] (FzW.still tS))
 ·refine Goes.skip ?_
  obtain⟨r8,e_r8,h⟩:=bnd h
  refine sq (gq fol [1] [(1,.str b),(11,.ptr 0 0),(12,.ptr 1 0)] (kO r8.1.neg r8.1.w r8.2.neg r8.2.w []) (ac (cv (yh N a e_r8)) az) ?_)
  obtain⟨r9,e_r9,h⟩:=bnd h
  refine sq (gq fol [1] [(11,.ptr 0 0),(12,.ptr 1 0),(13,.ptr 2 0),(14,.ptr 3 0)] (kO r8.1.neg r8.1.w r8.2.neg r8.2.w (kO r9.1.neg r9.1.w r9.2.neg r9.2.w [])) (ac (cv (yh N b e_r9)) az) ?_)
  obtain⟨r10,e_r10,h⟩:=bnd h
  obtain⟨r11,e_r11,h⟩:=bnd h
  obtain⟨r12,e_r12,h⟩:=bnd h
  refine sq (gr fol [2,5,6] (kBb r12) (ac (cv (xm N r8.1 r9.1 e_r10)) (ac (cv (xm N r8.2 r9.2 e_r11)) (ac (cv (yZ N r10 r11 e_r12)) az))) ?_)
  refine Goes.ret ?_
  obtain rfl:=si h
  exact(gw2 [.str r12] (FzW.still tS))
def xc (a:List Int) (i:Int):Option Int:=
 if i<(a.length:Int)then
 (idx a i).bind fun x2=>
 some x2
 else
 some 0
theorem qbL (a:List Int) (i:Int) {res:Int} (h:xc a i=some res):qb Tryz.prog (.fn 217) [vl encI a,.i i] [] (.i res) []:=by
 unfold xc at h
 refine Goes.fnW Tryz.func217 rfl rfl (m:=13) rfl (rs:=[.tmp 4]) rfl (l:=(kAn a [(1,.i i)])) rfl ?_
 refine sh fol (kAn a [(1,.i i)]) ?_
 refine sq ?_
 refine sh fol (kAn a ((1,.i i)::(kAz (decide (i<(a.length:Int)))))) ?_
 refine ihD h (fun c1 h=>?_) (fun c1 h=>?_)
 ·obtain⟨x2,e_x2,h⟩:=bnd h
  refine sq (gr fol [2,3] (kB7 x2) (ac (iv ja encI e_x2) (ac (lv 0 ce3 encI e_x2 rfl) az)) ?_)
  refine Goes.ret ?_
  obtain rfl:=si h
  exact(gw2 [.i x2] (FzW.still tI))
 ·refine Goes.skip ?_
  refine sh fol [(4,.i 0)] ?_
  refine Goes.ret ?_
  obtain rfl:=si h
  exact(gw2 [.i 0] (FzW.still tI))
def zh (a:List Int) (b:List Int):Nat→(List Int)→Int→Int→Option (List Int)
 |0,_,_,_=>none
 |K+1,l1,n2,n3=>
  (if n3<(a.length:Int)then
  some true
  else
  if n3<(b.length:Int)then
  some true
  else
  some (decide (n2>0)):Option Bool).bind fun b8=>
  if b8=true then
  (xc a n3).bind fun r11=>
  (xc b n3).bind fun r12=>
  (app 8 l1 [(w64 ((w64 (r11+r12))+n2)).tmod 1000000000]).bind fun l13=>
  zh a b K l13 (w64 ((w64 ((w64 (r11+r12))+n2)).tdiv 1000000000)) (w64 (n3+1))
  else
  some l1
def yO (N:Nat) (a:List Int) (b:List Int):Option (List Int):=
 (zh a b N ([]:List Int) 0 0).bind fun l4=>
 some l4
theorem qes (N:Nat) (a:List Int) (b:List Int) {res:List Int} (h:yO N a b=some res):qb Tryz.prog (.fn 171) (kBg a b) [] (vl encI res) []:=by
 unfold yO at h
 refine Goes.fnW Tryz.func171 rfl rfl (m:=42) rfl (rs:=[.tmp 4]) rfl (l:=(kK a b [])) rfl ?_
 refine sh fol (kK a b []) ?_
 refine sh fol (kK a b [(5,.nilslice)]) ?_
 refine sh fol (kK a b [(5,.nilslice),(6,.i 0)]) ?_
 refine sq ?_
 refine sh fol (kK a b [(5,.nilslice),(6,.i 0),(7,.i 0)]) ?_
 refine Goes.block ?_
 obtain⟨r5,g5,h⟩:=bnd h
 refine Goes.imp (Q:=fun x s'=>(x= .exit 0∧ ∃l4,l4=r5∧Sub s' (ofG 42 (kAk l4 []),(kF l4 [])))) ?_ ?_
 ·refine Goes.sub (s':=(ofG 42 (kK a b [(5,.gslice 0 ([]:List Int).length 1),(6,.i 0),(7,.i 0)]),kBY)) (Sub.norm [] [none] rfl rfl (.keep (.same (qg encI _)) (.keep (.same (qg encI _)) (.keep .nil (.keep (.same nI) (.keep (.same nI) .nil))))) (.fresh .nil)) ?_
  refine Goes.loopS (fun M s=> ∃(l1:List Int) (n2:Int) (n3:Int),s=(ofG 42 (kK a b (kAk l1 (kAV n2 n3 []))),(kF l1 []))∧zh a b M l1 n2 n3=some r5) ?_ (m:=N) ⟨_,_,_,rfl,g5⟩
  rintro M s ⟨l1,n2,n3,rfl,g5⟩
  cases M with
  |zero=>simp only[zh]at g5;cases g5
  |succ M=>
   rw[zh]at g5
   refine sq ?_
   refine sq ?_
   obtain⟨b8,g_v9,g5⟩:=bnd g5
   refine Goes.cut (s':=(ofG 42 (kK a b (kAk l1 (kAV n2 n3 [(22,.bool b8)]))),(kF l1 []))) ?_ ?_
   ·rcases wyD g_v9 with⟨c6,g_v9⟩|⟨c6,g_v9⟩
    ·obtain rfl:=si g_v9
     exact tr fol [4] (kK a b (kAk l1 (kAV n2 n3 [(22,.bool true)]))) (ac (gw c6) az)
    ·rcases wyD g_v9 with⟨c7,g_v9⟩|⟨c7,g_v9⟩
     ·obtain rfl:=si g_v9
      exact tr fol [4,10] (kK a b (kAk l1 (kAV n2 n3 [(22,.bool true)]))) (ac (gw c6) (ac (gw c7) az))
     ·obtain rfl:=si g_v9
      exact tr fol [4,10] (kK a b (kAk l1 (kAV n2 n3 [(22,.bool (decide (n2>0)))]))) (ac (gw c6) (ac (gw c7) az))
   refine ihB g5 (fun c10 g5=>?_) (fun c10 g5=>?_)
   ·refine Goes.skip ?_
    refine sq (Goes.block ?_)
    obtain⟨r11,e_r11,g5⟩:=bnd g5
    obtain⟨r12,e_r12,g5⟩:=bnd g5
    refine sq (gr fol [2,5] (kK a b (kAk l1 (kAh n3 (w64 ((w64 (r11+r12))+n2))))) (ac (cv (qbL a n3 e_r11)) (ac (cv (qbL b n3 e_r12)) az)) ?_)
    obtain⟨l13,e_l13,g5⟩:=bnd g5
    refine sq (gq fol [4] (kK a b ((5,.gslice 2 l13.length 1)::(kAh n3 (w64 ((w64 (r11+r12))+n2))))) (kBd ((w64 ((w64 (r11+r12))+n2)).tmod 1000000000) (kF l13 [])) (ac (hs (.run [0,1] (y8 Tryz.prog [85,85] (.gslice 0 l1.length 1) (.slice 1 0 1 1 1)) (kF l1 [.cells [.i ((w64 ((w64 (r11+r12))+n2)).tmod 1000000000)]]) (.gslice 2 l13.length 1) (kBd ((w64 ((w64 (r11+r12))+n2)).tmod 1000000000) (kF l13 [])) true) (qb2 ja (E:=encI) rfl (qgv (E:=encI) (ys:=[(w64 ((w64 (r11+r12))+n2)).tmod 1000000000]) rfl rfl rfl rfl) (qhB (E:=encI) (l:=l1) rfl rfl rfl e_l13 rfl))) az) ?_)
    refine gh fol (kK a b ((5,.gslice 2 l13.length 1)::(kAV (w64 ((w64 ((w64 (r11+r12))+n2)).tdiv 1000000000)) n3 []))) ?_
    refine gh fol (kK a b ((5,.gslice 2 l13.length 1)::(kAV (w64 ((w64 ((w64 (r11+r12))+n2)).tdiv 1000000000)) (w64 (n3+1)) []))) ?_
    exact⟨M,(ofG 42 (kK a b (kAk l13 (kAV (w64 ((w64 ((w64 (r11+r12))+n2)).tdiv 1000000000)) (w64 (n3+1)) []))),(kF l13 [])),Nat.lt_succ_self _,(Sub.norm [] [some 2] rfl rfl (.keep (.same (qg encI _)) (.keep (.same (qg encI _)) (.keep (.gslice rfl) (.keep (.same nI) (.keep (.same nI) .nil))))) (.ks .nil)),_,_,_,rfl,g5⟩
   ·refine Goes.exit ?_
    obtain rfl:=si g5
    exact⟨rfl,_,rfl,(Sub.keep [5] rfl rfl)⟩
 rintro x s' ⟨rfl,l4,rfl,hsub⟩
 refine Goes.sub hsub ?_
 refine sh fol [(4,.gslice 0 l4.length 1)] ?_
 refine Goes.ret ?_
 obtain rfl:=si h
 exact(gw2 [.gslice 0 l4.length 1] (FzW.fz (Fz.gs (E:=encI) rfl rfl (nl rfl))))
def ko (a:List Int) (b:List Int):Nat→(List Int)→Int→Int→Option (List Int)
 |0,_,_,_=>none
 |K+1,l1,n2,n3=>
  if n3<(a.length:Int)then
  (idx a n3).bind fun x7=>
  (xc b n3).bind fun r8=>
  ((if(w64 ((w64 (x7-r8))-n2))<0 then
  some (1,w64 ((w64 ((w64 (x7-r8))-n2))+1000000000))
  else
  some (0,w64 ((w64 (x7-r8))-n2)):Option (Int×Int))).bind fun(n9,n10)=>
  (app 8 l1 [n10]).bind fun l13=>
  ko a b K l13 n9 (w64 (n3+1))
  else
  some l1
def vE (N:Nat) (a:List Int) (b:List Int):Option (List Int):=
 (ko a b N ([]:List Int) 0 0).bind fun l4=>
 (vo N l4).bind fun r14=>
 some r14
theorem qbN (N:Nat) (a:List Int) (b:List Int) {res:List Int} (h:vE N a b=some res):qb Tryz.prog (.fn 173) (kBg a b) [] (vl encI res) []:=by
 unfold vE at h
 refine Goes.fnW Tryz.func173 rfl rfl (m:=35) rfl (rs:=[.tmp 4]) rfl (l:=(kK a b [])) rfl ?_
 refine sh fol (kK a b []) ?_
 refine sh fol (kK a b [(5,.nilslice)]) ?_
 refine sh fol (kK a b [(5,.nilslice),(6,.i 0)]) ?_
 refine sq ?_
 refine sh fol (kK a b [(5,.nilslice),(6,.i 0),(7,.i 0)]) ?_
 refine Goes.block ?_
 obtain⟨r5,g5,h⟩:=bnd h
 refine Goes.imp (Q:=fun x s'=>(x= .exit 0∧ ∃l4,l4=r5∧Sub s' (ofG 35 (kAk l4 []),(kF l4 [])))) ?_ ?_
 ·refine Goes.sub (s':=(ofG 35 (kK a b [(5,.gslice 0 ([]:List Int).length 1),(6,.i 0),(7,.i 0)]),kBY)) (Sub.norm [] [none] rfl rfl (.keep (.same (qg encI _)) (.keep (.same (qg encI _)) (.keep .nil (.keep (.same nI) (.keep (.same nI) .nil))))) (.fresh .nil)) ?_
  refine Goes.loopS (fun M s=> ∃(l1:List Int) (n2:Int) (n3:Int),s=(ofG 35 (kK a b (kAk l1 (kAV n2 n3 []))),(kF l1 []))∧ko a b M l1 n2 n3=some r5) ?_ (m:=N) ⟨_,_,_,rfl,g5⟩
  rintro M s ⟨l1,n2,n3,rfl,g5⟩
  cases M with
  |zero=>simp only[ko]at g5;cases g5
  |succ M=>
   rw[ko]at g5
   refine sq ?_
   refine sh fol (kK a b (kAk l1 (kAV n2 n3 (kBU (decide (n3<(a.length:Int))))))) ?_
   refine ihD g5 (fun c6 g5=>?_) (fun c6 g5=>?_)
   ·refine Goes.skip ?_
    refine sq (Goes.block ?_)
    obtain⟨x7,e_x7,g5⟩:=bnd g5
    obtain⟨r8,e_r8,g5⟩:=bnd g5
    refine sq (gr fol [2,3,6] (kK a b (kAk l1 (kAh n3 (w64 ((w64 (x7-r8))-n2))))) (ac (iv ja encI e_x7) (ac (lv 0 ce3 encI e_x7 rfl) (ac (cv (qbL b n3 e_r8)) az))) ?_)
    refine sh fol (kK a b (kAk l1 ((6,.i 0)::(kAh n3 (w64 ((w64 (x7-r8))-n2)))))) ?_
    refine sq ?_
    refine sh fol (kK a b (kAk l1 [(6,.i 0),(7,.i n3),(8,.i (w64 ((w64 (x7-r8))-n2))),(26,.bool (decide ((w64 ((w64 (x7-r8))-n2))<0)))])) ?_
    obtain⟨r11,g11,g5⟩:=bnd g5
    refine Goes.imp (Q:=fun x s'=>(x= .normal∧ ∃n9 n10,(n9,n10)=r11∧Sub s' (ofG 35 (kK a b (kAk l1 (kAV n9 n3 (kBw n10)))),(kF l1 [])))) ?_ ?_
    ·refine ihD g11 (fun c12 g11=>?_) (fun c12 g11=>?_)
     ·refine sh fol (kK a b (kAk l1 (kAh n3 (w64 ((w64 ((w64 (x7-r8))-n2))+1000000000))))) ?_
      refine gh fol (kK a b (kAk l1 ((6,.i 1)::(kAh n3 (w64 ((w64 ((w64 (x7-r8))-n2))+1000000000)))))) ?_
      obtain rfl:=si g11
      exact⟨rfl,_,_,rfl,(Sub.refl _)⟩
     ·refine Goes.skip ?_
      obtain rfl:=si g11
      exact⟨rfl,_,_,rfl,(Sub.keep [0,1,5,6,7,8] rfl rfl)⟩
    rintro x s' ⟨rfl,n9,n10,rfl,hsub⟩
    try dsimp only at g5
    refine Goes.sub hsub ?_
    obtain⟨l13,e_l13,g5⟩:=bnd g5
    refine gq fol [3] (kK a b ((5,.gslice 2 l13.length 1)::(kAV n9 n3 []))) (kBd n10 (kF l13 [])) (ac (hs (.run [0,1] (y8 Tryz.prog [85,85] (.gslice 0 l1.length 1) (.slice 1 0 1 1 1)) (kF l1 [.cells [.i n10]]) (.gslice 2 l13.length 1) (kBd n10 (kF l13 [])) true) (qb2 ja (E:=encI) rfl (qgv (E:=encI) (ys:=[n10]) rfl rfl rfl rfl) (qhB (E:=encI) (l:=l1) rfl rfl rfl e_l13 rfl))) az) ?_
    refine gh fol (kK a b ((5,.gslice 2 l13.length 1)::(kAV n9 (w64 (n3+1)) []))) ?_
    exact⟨M,(ofG 35 (kK a b (kAk l13 (kAV n9 (w64 (n3+1)) []))),(kF l13 [])),Nat.lt_succ_self _,(Sub.norm [] [some 2] rfl rfl (.keep (.same (qg encI _)) (.keep (.same (qg encI _)) (.keep (.gslice rfl) (.keep (.same nI) (.keep (.same nI) .nil))))) (.ks .nil)),_,_,_,rfl,g5⟩
   ·refine Goes.exit ?_
    obtain rfl:=si g5
    exact⟨rfl,_,rfl,(Sub.keep [5] rfl rfl)⟩
 rintro x s' ⟨rfl,l4,rfl,hsub⟩
 refine Goes.sub hsub ?_
 obtain⟨r14,e_r14,h⟩:=bnd h
 refine sq (gq fol [1] [(4,vl encI r14)] (kAp l4) (ac (hs (.callF 210 [.gslice 0 l4.length 1] (kF l4 []) [0] [vl encI l4] (vl encI r14)) (xZ (FzL.cons (Fz.gs (E:=encI) rfl rfl (nl rfl)) FzL.nil) (vW N l4 e_r14) (qo encI _ (nl rfl)))) az) ?_)
 refine Goes.sub (show Sub (ofG 35 [(4,vl encI r14)],(kAp l4)) (ofG 35 [(4,vl encI r14)],[])from(Sub.norm [] [] rfl rfl (.keep (.same (qg encI _)) .nil) .nil)) ?_
 refine Goes.ret ?_
 obtain rfl:=si h
 exact(gw2 [vl encI r14] (FzW.still (qo encI _ (nl rfl))))
def qby (N:Nat) (a:qB) (b:qB):Option qB:=
 if(a.neg==b.neg)=true then
 (yO N a.w b.w).bind fun r2=>
 (zm N a.neg r2).bind fun r3=>
 some r3
 else
 (zR N a.w b.w).bind fun r4=>
 if r4≥0 then
 (vE N a.w b.w).bind fun r6=>
 (zm N a.neg r6).bind fun r7=>
 some r7
 else
 (vE N b.w a.w).bind fun r8=>
 (zm N b.neg r8).bind fun r9=>
 some r9
theorem qhj (N:Nat) (a:qB) (b:qB) {res:qB} (h:qby N a b=some res):qb Tryz.prog (.fn 118) (kAy a.neg a.w b.neg b.w) [] (.agg (kAr res.neg res.w)) []:=by
 unfold qby at h
 refine Goes.fnW Tryz.func118 rfl rfl (m:=40) rfl (rs:=[.cell 4 121]) rfl (l:=(kBr a.neg a.w b.neg b.w)) rfl ?_
 refine sg fol (kH []) (kO a.neg a.w b.neg b.w (kU [])) ?_
 refine sq ?_
 refine sh fol (kH [(9,.bool (a.neg==b.neg))]) ?_
 refine ihB h (fun c1 h=>?_) (fun c1 h=>?_)
 ·obtain⟨r2,e_r2,h⟩:=bnd h
  obtain⟨r3,e_r3,h⟩:=bnd h
  refine sq (gq fol [6,7] (kAU []) (kO a.neg a.w b.neg b.w (kAW r3.neg r3.w [])) (ac (cv (qes N a.w b.w e_r2)) (ac (cv (zB N a.neg r2 e_r3)) az)) ?_)
  refine Goes.ret ?_
  obtain rfl:=si h
  exact(gw2 [.agg (kAr r3.neg r3.w)] (FzW.agg (qd.cons (FzW.still tB) (qd.cons (FzW.still (qo encI _ (nl rfl))) qd.nil))))
 ·refine Goes.skip ?_
  refine sq ?_
  obtain⟨r4,e_r4,h⟩:=bnd h
  refine sq (gr fol [4] (kH [(23,.bool (decide (r4≥0)))]) (ac (cv (qaD N a.w b.w e_r4)) az) ?_)
  refine ihD h (fun c5 h=>?_) (fun c5 h=>?_)
  ·obtain⟨r6,e_r6,h⟩:=bnd h
   obtain⟨r7,e_r7,h⟩:=bnd h
   refine sq (gq fol [6,7] (kAU []) (kO a.neg a.w b.neg b.w (kAW r7.neg r7.w [])) (ac (cv (qbN N a.w b.w e_r6)) (ac (cv (zB N a.neg r6 e_r7)) az)) ?_)
   refine Goes.ret ?_
   obtain rfl:=si h
   exact(gw2 [.agg (kAr r7.neg r7.w)] (FzW.agg (qd.cons (FzW.still tB) (qd.cons (FzW.still (qo encI _ (nl rfl))) qd.nil))))
  ·refine Goes.skip ?_
   obtain⟨r8,e_r8,h⟩:=bnd h
   obtain⟨r9,e_r9,h⟩:=bnd h
   refine sq (gq fol [6,7] (kAU []) (kO a.neg a.w b.neg b.w (kAW r9.neg r9.w [])) (ac (cv (qbN N b.w a.w e_r8)) (ac (cv (zB N b.neg r8 e_r9)) az)) ?_)
   refine Goes.ret ?_
   obtain rfl:=si h
   exact(gw2 [.agg (kAr r9.neg r9.w)] (FzW.agg (qd.cons (FzW.still tB) (qd.cons (FzW.still (qo encI _ (nl rfl))) qd.nil))))
def qbq (N:Nat) (a:Str) (b:Str):Option Str:=
 (jK N a).bind fun r1=>
 (jK N b).bind fun r2=>
 (if r1.2.2=true then
 some r2.2.2
 else
 some false:Option Bool).bind fun b4=>
 if b4=true then
 (qcw N (w64 ((w64 (r1.1*r2.2.1))+(w64 (r2.1*r1.2.1)))) (w64 (r1.2.1*r2.2.1))).bind fun r7=>
 some r7
 else
 (zY N a).bind fun r8=>
 (zY N b).bind fun r9=>
 (vJ N r8.1 r9.2).bind fun r10=>
 (vJ N r9.1 r8.2).bind fun r11=>
 (qby N r10 r11).bind fun r12=>
 (vJ N r8.2 r9.2).bind fun r13=>
 (jI N r12 r13).bind fun r14=>
 some r14
theorem qal (N:Nat) (a:Str) (b:Str) {res:Str} (h:qbq N a b=some res):qb Tryz.prog (.fn 36) (kAR a b) [] (.str res) []:=by
 unfold qbq at h
 refine Goes.fnW Tryz.func36 rfl rfl (m:=63) rfl (rs:=[.tmp 4]) rfl (l:=(kJ a b [])) rfl ?_
 refine sh fol (kJ a b []) ?_
 obtain⟨r1,e_r1,h⟩:=bnd h
 refine sq (gr fol [1] (kJ a b (kBf r1.1 r1.2.1 [(7,.bool r1.2.2)])) (ac (cv (qaz N a e_r1)) az) ?_)
 obtain⟨r2,e_r2,h⟩:=bnd h
 refine sq (gr fol [1] (kJ a b (kBf r1.1 r1.2.1 ((7,.bool r1.2.2)::(kBA r2.1 r2.2.1 (kBV r2.2.2))))) (ac (cv (qaz N b e_r2)) az) ?_)
 refine sq ?_
 refine sq ?_
 obtain⟨b4,g_v5,h⟩:=bnd h
 refine Goes.cut (s':=(ofG 63 (kJ a b (kBf r1.1 r1.2.1 (kBA r2.1 r2.2.1 [(30,.bool b4)]))),[])) ?_ ?_
 ·rcases wyB g_v5 with⟨c3,g_v5⟩|⟨c3,g_v5⟩
  ·obtain rfl:=si g_v5
   exact tr fol [1] (kJ a b (kBf r1.1 r1.2.1 (kBA r2.1 r2.2.1 [(30,.bool r2.2.2)]))) (ac (gw c3) az)
  ·obtain rfl:=si g_v5
   exact tr fol [1] (kJ a b (kBf r1.1 r1.2.1 (kBA r2.1 r2.2.1 [(30,.bool false)]))) (ac (gw c3) az)
 refine ihB h (fun c6 h=>?_) (fun c6 h=>?_)
 ·obtain⟨r7,e_r7,h⟩:=bnd h
  refine sq (gr fol [10] (kBb r7) (ac (cv (qfv N (w64 ((w64 (r1.1*r2.2.1))+(w64 (r2.1*r1.2.1)))) (w64 (r1.2.1*r2.2.1)) e_r7)) az) ?_)
  refine Goes.ret ?_
  obtain rfl:=si h
  exact(gw2 [.str r7] (FzW.still tS))
 ·refine Goes.skip ?_
  obtain⟨r8,e_r8,h⟩:=bnd h
  refine sq (gq fol [1] [(1,.str b),(11,.ptr 0 0),(12,.ptr 1 0)] (kO r8.1.neg r8.1.w r8.2.neg r8.2.w []) (ac (cv (yh N a e_r8)) az) ?_)
  obtain⟨r9,e_r9,h⟩:=bnd h
  refine sq (gq fol [1] [(11,.ptr 0 0),(12,.ptr 1 0),(13,.ptr 2 0),(14,.ptr 3 0)] (kO r8.1.neg r8.1.w r8.2.neg r8.2.w (kO r9.1.neg r9.1.w r9.2.neg r9.2.w [])) (ac (cv (yh N b e_r9)) az) ?_)
  obtain⟨r10,e_r10,h⟩:=bnd h
  obtain⟨r11,e_r11,h⟩:=bnd h
  obtain⟨r12,e_r12,h⟩:=bnd h
  obtain⟨r13,e_r13,h⟩:=bnd h
  obtain⟨r14,e_r14,h⟩:=bnd h
  refine sq (gr fol [2,5,6,9,10] (kBb r14) (ac (cv (xm N r8.1 r9.2 e_r10)) (ac (cv (xm N r9.1 r8.2 e_r11)) (ac (cv (qhj N r10 r11 e_r12)) (ac (cv (xm N r8.2 r9.2 e_r13)) (ac (cv (yZ N r12 r13 e_r14)) az))))) ?_)
  refine Goes.ret ?_
  obtain rfl:=si h
  exact(gw2 [.str r14] (FzW.still tS))
def qco (a:Str):Option Str:=
 (yJ a).bind fun r1=>
 if r1<0 then
 (cut a 1 (a.length:Int)).bind fun s3=>
 some s3
 else
 (yJ a).bind fun r4=>
 if r4=0 then
 some a
 else
 (cat [45] a).bind fun s6=>
 some s6
theorem qip (a:Str) {res:Str} (h:qco a=some res):qb Tryz.prog (.fn 111) [.str a] [] (.str res) []:=by
 unfold qco at h
 refine Goes.fnW Tryz.func111 rfl rfl (m:=14) rfl (rs:=[.tmp 2]) rfl (l:=(kAQ a [])) rfl ?_
 refine sh fol (kAQ a []) ?_
 refine sq ?_
 obtain⟨r1,e_r1,h⟩:=bnd h
 refine sq (gr fol [1] (kAQ a [(5,.bool (decide (r1<0)))]) (ac (cv (qaR a e_r1)) az) ?_)
 refine ihD h (fun c2 h=>?_) (fun c2 h=>?_)
 ·obtain⟨s3,e_s3,h⟩:=bnd h
  refine sq (gr fol [1] (kBs s3) (ac (hs (.done (.opt (qR Tryz.prog 23 (.str a) (some (.i 1)) none none)) (.str s3)) (zC qj6 (some 1) none e_s3)) az) ?_)
  refine Goes.ret ?_
  obtain rfl:=si h
  exact(gw2 [.str s3] (FzW.still tS))
 ·refine Goes.skip ?_
  refine sq ?_
  obtain⟨r4,e_r4,h⟩:=bnd h
  refine sq (gr fol [1] (kAQ a (kBV (decide (r4=0)))) (ac (cv (qaR a e_r4)) az) ?_)
  refine ihD h (fun c5 h=>?_) (fun c5 h=>?_)
  ·refine sh fol (kBs a) ?_
   refine Goes.ret ?_
   obtain rfl:=si h
   exact(gw2 [.str a] (FzW.still tS))
  ·refine Goes.skip ?_
   obtain⟨s6,e_s6,h⟩:=bnd h
   refine sq (gr fol [1] (kBs s6) (ac (hs (.done (.opt (qY Tryz.prog .add 23 (.const (.string ⟨#[45]⟩)) (.tmp 12) (.str [45]) (.str a))) (.str s6)) (xY e_s6)) az) ?_)
   refine Goes.ret ?_
   obtain rfl:=si h
   exact(gw2 [.str s6] (FzW.still tS))
def qbo (N:Nat) (a:Str) (b:Str):Option Str:=
 (qco b).bind fun r1=>
 (qbq N a r1).bind fun r2=>
 some r2
theorem qbm (N:Nat) (a:Str) (b:Str) {res:Str} (h:qbo N a b=some res):qb Tryz.prog (.fn 28) (kAR a b) [] (.str res) []:=by
 unfold qbo at h
 refine Goes.fnW Tryz.func28 rfl rfl (m:=9) rfl (rs:=[.tmp 4]) rfl (l:=(kJ a b [])) rfl ?_
 refine sh fol (kJ a b []) ?_
 obtain⟨r1,e_r1,h⟩:=bnd h
 obtain⟨r2,e_r2,h⟩:=bnd h
 refine sq (gr fol [2,3] (kBb r2) (ac (cv (qip b e_r1)) (ac (cv (qal N a r1 e_r2)) az)) ?_)
 refine Goes.ret ?_
 obtain rfl:=si h
 exact(gw2 [.str r2] (FzW.still tS))
def qcv (N:Nat) (a:Str) (b:Str):Option Int:=
 (qbo N a b).bind fun r1=>
 (yJ r1).bind fun r2=>
 some r2
theorem qiv (N:Nat) (a:Str) (b:Str) {res:Int} (h:qcv N a b=some res):qb Tryz.prog (.fn 27) (kAR a b) [] (.i res) []:=by
 unfold qcv at h
 refine Goes.fnW Tryz.func27 rfl rfl (m:=9) rfl (rs:=[.tmp 4]) rfl (l:=(kJ a b [])) rfl ?_
 refine sh fol (kJ a b []) ?_
 obtain⟨r1,e_r1,h⟩:=bnd h
 obtain⟨r2,e_r2,h⟩:=bnd h
 refine sq (gr fol [2,3] (kB7 r2) (ac (cv (qbm N a b e_r1)) (ac (cv (qaR r1 e_r2)) az)) ?_)
 refine Goes.ret ?_
 obtain rfl:=si h
 exact(gw2 [.i r2] (FzW.still tI))
def yn (N:Nat) (a:Str):Option Str:=
 (zY N a).bind fun r1=>
 (jI N r1.2 r1.1).bind fun r2=>
 some r2
theorem qd3 (N:Nat) (a:Str) {res:Str} (h:yn N a=some res):qb Tryz.prog (.fn 117) [.str a] [] (.str res) []:=by
 unfold yn at h
 refine Goes.fnW Tryz.func117 rfl rfl (m:=13) rfl (rs:=[.tmp 2]) rfl (l:=(kAQ a [])) rfl ?_
 refine sh fol (kAQ a []) ?_
 obtain⟨r1,e_r1,h⟩:=bnd h
 refine sq (gq fol [1] (kQ []) (kO r1.1.neg r1.1.w r1.2.neg r1.2.w []) (ac (cv (yh N a e_r1)) az) ?_)
 obtain⟨r2,e_r2,h⟩:=bnd h
 refine sq (gr fol [2] (kBs r2) (ac (cv (yZ N r1.2 r1.1 e_r2)) az) ?_)
 refine Goes.ret ?_
 obtain rfl:=si h
 exact(gw2 [.str r2] (FzW.still tS))
def qcn (N:Nat) (a:Str) (b:Str):Option Str:=
 (yn N b).bind fun r1=>
 (qbu N a r1).bind fun r2=>
 some r2
theorem qiy (N:Nat) (a:Str) (b:Str) {res:Str} (h:qcn N a b=some res):qb Tryz.prog (.fn 35) (kAR a b) [] (.str res) []:=by
 unfold qcn at h
 refine Goes.fnW Tryz.func35 rfl rfl (m:=9) rfl (rs:=[.tmp 4]) rfl (l:=(kJ a b [])) rfl ?_
 refine sh fol (kJ a b []) ?_
 obtain⟨r1,e_r1,h⟩:=bnd h
 obtain⟨r2,e_r2,h⟩:=bnd h
 refine sq (gr fol [2,3] (kBb r2) (ac (cv (qd3 N b e_r1)) (ac (cv (qcL N a r1 e_r2)) az)) ?_)
 refine Goes.ret ?_
 obtain rfl:=si h
 exact(gw2 [.str r2] (FzW.still tS))
end Go.Av
