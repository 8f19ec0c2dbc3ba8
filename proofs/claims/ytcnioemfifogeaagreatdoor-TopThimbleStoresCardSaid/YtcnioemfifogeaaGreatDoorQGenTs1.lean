/-
  Walks of functions: what each computes, as a plain function.
-/
import Derived.Test.YtcnioemfifogeaaGreatDoorAvJnQ3
noncomputable section
namespace Go.Av
open Go.Proofs Go.RowKit
abbrev ZT:=Tryz.prog
set_option linter.unusedSectionVars false
set_option linter.unusedVariables false
set_option linter.unusedSimpArgs false
set_option maxRecDepth 100000
theorem fol:Tryz.prog.follows .mixedOrders=true:=by kernel_rfl
structure zi where
 Kind:Str
 Day:Int
 Lot:Str
 Amount:Int
 Yarn:Str
 Dye:Str
 Order:Str
def jT:Enc zi:=(encS.prod (encI.prod (encS.prod (encI.prod (encS.prod (encS.prod encS)))))).comap fun x=>(x.Kind,x.Day,x.Lot,x.Amount,x.Yarn,x.Dye,x.Order)
instance:SE jT:=⟨nl rfl⟩
structure zY where
 Name:Str
 Yarn:Str
 Dye:Str
 Stock:Int
def qN:Enc zY:=(encS.prod (encS.prod (encS.prod encI))).comap fun x=>(x.Name,x.Yarn,x.Dye,x.Stock)
instance:SE qN:=⟨nl rfl⟩
instance:SE (qBz qN):=⟨nl rfl⟩
structure qE where
 Lot:Str
 Order:Str
 Reserved:Int
 Taken:Int
def qJ:Enc qE:=(encS.prod (encS.prod (encI.prod encI))).comap fun x=>(x.Lot,x.Order,x.Reserved,x.Taken)
instance:SE qJ:=⟨nl rfl⟩
instance:SE (qBz qJ):=⟨nl rfl⟩
structure qg where
 lot:zY
 known:Bool
 hold:qE
 free:Int
def qDl:Enc qg:=(qN.prod (encB.prod (qJ.prod encI))).comap fun x=>(x.lot,x.known,x.hold,x.free)
instance:SE qDl:=⟨nl rfl⟩
structure StateT where
 Day:Int
 Lots:List zY
 Holds:List qE
def qGd:Enc StateT:=(encI.prod ((qBz qN).prod (qBz qJ))).comap fun x=>(x.Day,x.Lots,x.Holds)
instance:SE qGd:=⟨nl rfl⟩
structure KeyT where
 lot:Str
 order:Str
def qIb:Enc KeyT:=(encS.prod encS).comap fun x=>(x.lot,x.order)
instance:SE qIb:=⟨nl rfl⟩
structure qe6 where
 Number:Int
 Rule:Int
def qbo:Enc qe6:=(encI.prod encI).comap fun x=>(x.Number,x.Rule)
instance:SE qbo:=⟨nl rfl⟩
abbrev kA (a:Str) (b:Int) (c:Str) (d:Int) (e:Str) (f:Str) (g:Str):List AV:=[.str a,.i b,.str c,.i d,.str e,.str f,.str g]
abbrev kB (a:Str) (b:Str) (c:Int) (d:Bool) (e:Str) (f:Str) (g:Int) (h:Int) (i:Int):List AV:=[.str a,.str b,.i c,.bool d,.str e,.str f,.i g,.i h,.i i]
abbrev kC (a:Str) (b:Str) (c:Str) (d:Int) (e:Bool) (f:Str) (g:Str) (h:Int) (i:Int) (j:Int) (x:List Blk):List Blk:= .cells [.str a,.str b,.str c,.i d,.bool e,.str f,.str g,.i h,.i i,.i j]::x
abbrev kD (a:Str) (b:Int) (c:Str) (d:Int) (e:Str) (f:Str) (g:Str) (x:List Blk):List Blk:= .cells [.str a,.i b,.str c,.i d,.str e,.str f,.str g]::x
abbrev kE (a:Int) (b:List zY) (c:List qE) (x:List Blk):List Blk:= .cells [.i a,vl qN b,vl qJ c]::x
abbrev kF (a:Int) (b:List zY) (c:List qE):List AV:=[.i a,vl qN b,vl qJ c]
abbrev kG (a:List qE) (x:List Blk):List Blk:= .cells (a.flatMap qJ.c)::x
abbrev kH (x:List Blk):List Blk:= .cells [.i 0,.nilslice,.nilslice]::x
abbrev kI (x:List Blk):List Blk:= .cells [.str [],.str [],.str [],.i 0,.bool false,.str [],.str [],.i 0,.i 0,.i 0]::x
abbrev kJ (a:Int) (b:Bool):List (Nat×AV):=[(5,.i a),(7,.i 5),(8,.i a),(16,.bool b)]
abbrev kK {α0:Type} (a:List α0) (x:List (Nat×AV)):List (Nat×AV):=(0,.gslice 0 a.length 4)::x
abbrev kL (a:Str) (b:Str) (c:Int) (d:Int) (x:List Blk):List Blk:= .cells [.str a,.str b,.i c,.i d]::x
abbrev kM (x:List (Nat×AV)):List (Nat×AV):=(2,.ptr 0 0)::(4,.ptr 1 0)::x
abbrev kN (a:List zi) (x:List (Nat×AV)):List (Nat×AV):=(0,vl jT a)::x
abbrev kO (a:Int) (x:List (Nat×AV)):List (Nat×AV):=(7,.ptr 0 0)::(10,.ptr 1 0)::(13,.i a)::(14,.i 0)::x
abbrev kP (a:Str) (b:Str) (c:Str) (d:Int) (e:Bool) (f:Str) (g:Str) (h:Int) (i:Int) (j:Int) (k:Int):List (Nat×AV):=[(0,.agg [.str a,.str b,.str c,.i d,.bool e,.str f,.str g,.i h,.i i,.i j]),(1,.i k)]
abbrev kQ (a:Str) (b:Str) (c:Str) (d:Int) (e:Bool) (f:Str) (g:Str) (h:Int) (i:Int) (j:Int) (k:Int):List AV:=[.agg [.str a,.str b,.str c,.i d,.bool e,.str f,.str g,.i h,.i i,.i j],.i k]
abbrev kR (a:List zY) (b:Int) (c:Int) (x:List (Nat×AV)):List (Nat×AV):=(128,vl qN a)::(129,.i b)::(130,.i c)::x
abbrev kS (x:List (Nat×AV)):List (Nat×AV):=(2,.ptr 0 0)::(3,.ptr 1 0)::x
abbrev kT (a:List zi) (x:List Blk):List Blk:= .cells (a.flatMap jT.c)::x
abbrev kU (a:List zY) (x:List (Nat×AV)):List (Nat×AV):=(0,vl qN a)::x
abbrev kV (x:List (Nat×AV)):List (Nat×AV):=(5,.ptr 2 0)::(6,.ptr 3 0)::x
abbrev kW (a:List zi) (b:Int) (c:Int) (x:List (Nat×AV)):List (Nat×AV):=(41,vl jT a)::(42,.i b)::(43,.i c)::x
abbrev kX (a:Str) (b:Str) (c:Str) (d:Int) (x:List Blk):List Blk:= .cells [.str a,.str b,.str c,.i d]::x
abbrev kY (a:Int) (b:Int):List (Nat×AV):=[(7,.i a),(8,.i b)]
abbrev kZ (a:Int):List (Nat×AV):=[(7,.i 5),(8,.i a)]
abbrev kAA (a:Int) (b:List zY) (c:List qE) (x:List AV):List AV:= .agg [.i a,vl qN b,vl qJ c]::x
abbrev kAB {α1:Type} (a:Int) (b:List α1) (x:List Blk):List Blk:= .cells [.i a,.gslice 4 b.length 4,.nilslice]::x
abbrev kAC {α0:Type} (a:List α0) (x:List (Nat×AV)):List (Nat×AV):=(3,.gslice 0 a.length 7)::x
abbrev kAD (a:List qE) (x:List (Nat×AV)):List (Nat×AV):=(0,vl qJ a)::x
abbrev kAE (a:List zY) (x:List Blk):List Blk:= .cells (a.flatMap qN.c)::x
abbrev kAF (x:List (Nat×AV)):List (Nat×AV):=(4,.ptr 2 0)::(5,.ptr 3 0)::x
abbrev kAG (x:List (Nat×AV)):List (Nat×AV):=(2,.ptr 0 0)::x
abbrev kAH (a:Str) (b:Str) (c:Int) (d:Int) (x:List AV):List AV:= .agg [.str a,.str b,.i c,.i d]::x
abbrev kAI (a:List zi) (b:Int) (c:Int) (x:List (Nat×AV)):List (Nat×AV):=(9,vl jT a)::(10,.i b)::(11,.i c)::x
abbrev kAJ (a:Bool):List (Nat×AV):=[(2,.bool a)]
abbrev kAK {α2:Type} (a:Int) (b:List zY) (c:List α2) (x:List Blk):List Blk:= .cells [.i a,vl qN b,.gslice 2 c.length 4]::x
abbrev kAL {α2:Type} (a:Int) (b:List zY) (c:List α2) (x:List Blk):List Blk:= .cells [.i a,vl qN b,.oslice 2 c.length 4]::x
abbrev kAM (x:List (Nat×AV)):List (Nat×AV):=(1,.ptr 0 0)::x
abbrev kAN (a:Int) (b:Int):List (Nat×AV):=[(5,.i a),(6,.i b)]
abbrev kAO (a:List qe6) (x:List Blk):List Blk:= .cells (a.flatMap qbo.c)::x
abbrev kAP (a:Int) (b:Int) (x:List (Nat×AV)):List (Nat×AV):=(15,.i a)::(16,.i b)::x
abbrev kAQ:List AV:=[.str [114,101,99,101,105,118,101],.str [114,101,115,101,114,118,101],.str [114,101,108,101,97,115,101],.str [116,97,107,101],.str [114,101,116,117,114,110]]
abbrev kAR:List (Nat×AV):=[(2,.bool false)]
abbrev kAS (a:Int) (b:List zY) (x:List Blk):List Blk:= .cells [.i a,vl qN b,.nilslice]::x
abbrev kAT:List (Nat×AV):=[(7,.ptr 0 0),(10,.ptr 1 0),(126,.bool true)]
abbrev kAU:List (Nat×AV):=[(4,.ptr 0 0),(6,.ptr 1 0)]
abbrev kAV (a:Int) (b:List zY) (c:List qE) (x:List (Nat×AV)):List (Nat×AV):=(0,.agg [.i a,vl qN b,vl qJ c])::x
abbrev kAW (a:Str) (x:List (Nat×AV)):List (Nat×AV):=(0,.str a)::(6,.ptr 0 0)::x
abbrev kAX (a:Str) (b:Int) (c:List qE) (d:Int) (e:Int) (x:List (Nat×AV)):List (Nat×AV):=(1,.str a)::(5,.i b)::(9,vl qJ c)::(10,.i d)::(11,.i e)::x
abbrev kAY (a:Str) (b:Int) (c:Str) (d:Int) (e:Str) (f:Str) (g:Str) (h:Str) (x:List Blk):List Blk:= .cells [.str a,.i b,.str c,.i d,.str e,.str f,.str g,.str a,.i b,.str h,.i d,.str e,.str f,.str g]::x
abbrev kAZ (a:Str) (b:Int) (x:List (Nat×AV)):List (Nat×AV):=(0,.str a)::(3,.i b)::x
abbrev kAa (a:Int) (b:Bool):List (Nat×AV):=[(8,.i a),(9,.bool b)]
abbrev kAb (a:Int) (b:Int):List Blk:=[.cells [.i a,.i b]]
abbrev kAc {α0:Type} (a:List α0) (x:List (Nat×AV)):List (Nat×AV):=(5,.gslice 2 a.length 2)::x
abbrev kAd (a:Int) (b:Int) (c:List zY) (d:Int) (e:Int) (x:List (Nat×AV)):List (Nat×AV):=(13,.i a)::(14,.i b)::(183,vl qN c)::(184,.i d)::(185,.i e)::x
abbrev kAe (a:Int):List (Nat×AV):=[(5,.i a)]
abbrev kAf (x:List (Nat×AV)):List (Nat×AV):=(4,.ptr 1 0)::x
abbrev kAg (a:Str) (b:Str) (c:Str) (d:Int) (x:List AV):List AV:= .agg [.str a,.str b,.str c,.i d]::x
abbrev kAh {α0:Type} (a:List α0):List (Nat×AV):=[(4,.oslice 0 a.length 4)]
abbrev kAi (a:Int) (b:Int) (c:Int) (x:List (Nat×AV)):List (Nat×AV):=(8,.i a)::(9,.i b)::(10,.i c)::x
abbrev kAj (a:Int):List (Nat×AV):=[(4,.i a)]
abbrev kAk (x:List (Nat×AV)):List (Nat×AV):=(5,.ptr 1 0)::(6,.ptr 2 0)::x
abbrev kAl (a:Int):List (Nat×AV):=[(2,.i a)]
abbrev kAm (a:Bool):List (Nat×AV):=[(3,.bool a)]
abbrev kAn (a:Int):List (Nat×AV):=[(7,.i a),(8,.i 0)]
abbrev kAo:List (Nat×AV):=[(4,.bool true)]
abbrev kAp:List (Nat×AV):=[(4,.i (-1))]
abbrev kAq:List (Nat×AV):=[(4,.ptr 0 0)]
abbrev kAr:List (Nat×AV):=[(7,.i 5),(8,.i 0)]
theorem sl23:SlT ZT 23 57 7 96:=⟨by kernel_rfl,by kernel_rfl,by kernel_rfl,by kernel_rfl⟩
theorem ag57:AgT ZT 57 7:=⟨by kernel_rfl,by kernel_rfl⟩
theorem sl179:SlT ZT 179 32 1 8:=⟨by kernel_rfl,by kernel_rfl,by kernel_rfl,by kernel_rfl⟩
theorem ce32:CeT ZT 32:=⟨by kernel_rfl,by kernel_rfl⟩
theorem qsC:MapT ZT 143 9 141 (.agg [.nilfunc,.nilfunc]):=⟨by kernel_rfl,by kernel_rfl,by kernel_rfl⟩
theorem qFX:SlT ZT 22 56 7 96:=⟨by kernel_rfl,by kernel_rfl,by kernel_rfl,by kernel_rfl⟩
theorem ag56:AgT ZT 56 7:=⟨by kernel_rfl,by kernel_rfl⟩
theorem qtu:SlT ZT 28 74 4 48:=⟨by kernel_rfl,by kernel_rfl,by kernel_rfl,by kernel_rfl⟩
theorem qDy:AgT ZT 74 4:=⟨by kernel_rfl,by kernel_rfl⟩
theorem qzZ:SlT ZT 27 71 4 56:=⟨by kernel_rfl,by kernel_rfl,by kernel_rfl,by kernel_rfl⟩
theorem qC3:AgT ZT 71 4:=⟨by kernel_rfl,by kernel_rfl⟩
theorem qHO:EqT ZT 190 #[{name:= "lot",type:=9,offset:=0,embedded:=false,tag:= "",pkgPath:= "becket/yarn",byteOffset:=0},{name:= "order",type:=9,offset:=1,embedded:=false,tag:= "",pkgPath:= "becket/yarn",byteOffset:=16}]:=⟨by kernel_rfl,by kernel_rfl,by kernel_rfl⟩
theorem sl79:SlT ZT 79 3 1 8:=⟨by kernel_rfl,by kernel_rfl,by kernel_rfl,by kernel_rfl⟩
theorem ce3:CeT ZT 3:=⟨by kernel_rfl,by kernel_rfl⟩
abbrev qr3 (x0_:zi) (x1_:StateT) (x2_:qg):List AV:=[.func (.func 115) [] [.fptr (kA x0_.Kind x0_.Day x0_.Lot x0_.Amount x0_.Yarn x0_.Dye x0_.Order) 0,.fptr (kF x1_.Day x1_.Lots x1_.Holds) 0],.func (.func 116) [] [.fptr (kA x0_.Kind x0_.Day x0_.Lot x0_.Amount x0_.Yarn x0_.Dye x0_.Order) 0,.fptr (.str x2_.lot.Name::(kB x2_.lot.Yarn x2_.lot.Dye x2_.lot.Stock x2_.known x2_.hold.Lot x2_.hold.Order x2_.hold.Reserved x2_.hold.Taken x2_.free)) 0],.func (.func 117) [] [.fptr [.func (.func 132) [] [],.func (.func 133) [] []] 0,.fptr (.str x2_.lot.Name::(kB x2_.lot.Yarn x2_.lot.Dye x2_.lot.Stock x2_.known x2_.hold.Lot x2_.hold.Order x2_.hold.Reserved x2_.hold.Taken x2_.free)) 0,.fptr (kA x0_.Kind x0_.Day x0_.Lot x0_.Amount x0_.Yarn x0_.Dye x0_.Order) 0],.func (.func 118) [] [.fptr [.func (.func 132) [] [],.func (.func 133) [] []] 0,.fptr (.str x2_.lot.Name::(kB x2_.lot.Yarn x2_.lot.Dye x2_.lot.Stock x2_.known x2_.hold.Lot x2_.hold.Order x2_.hold.Reserved x2_.hold.Taken x2_.free)) 0,.fptr (kA x0_.Kind x0_.Day x0_.Lot x0_.Amount x0_.Yarn x0_.Dye x0_.Order) 0],.func (.func 119) [] [.fptr (kF x1_.Day x1_.Lots x1_.Holds) 0,.fptr (kA x0_.Kind x0_.Day x0_.Lot x0_.Amount x0_.Yarn x0_.Dye x0_.Order) 0]]
abbrev qr8 (x0_:zi) (x1_:StateT) (x2_:qg):List AV:=[.func (.func 115) [] [.fptr (kA x0_.Kind x0_.Day x0_.Lot x0_.Amount x0_.Yarn x0_.Dye x0_.Order) 0,.fptr (kF x1_.Day x1_.Lots x1_.Holds) 0],.func (.func 116) [] [.fptr (kA x0_.Kind x0_.Day x0_.Lot x0_.Amount x0_.Yarn x0_.Dye x0_.Order) 0,.fptr (.str x2_.lot.Name::(kB x2_.lot.Yarn x2_.lot.Dye x2_.lot.Stock x2_.known x2_.hold.Lot x2_.hold.Order x2_.hold.Reserved x2_.hold.Taken x2_.free)) 0],.func (.func 117) [] [.fptr [.func (.func 134) [] [],.func (.func 135) [] []] 0,.fptr (.str x2_.lot.Name::(kB x2_.lot.Yarn x2_.lot.Dye x2_.lot.Stock x2_.known x2_.hold.Lot x2_.hold.Order x2_.hold.Reserved x2_.hold.Taken x2_.free)) 0,.fptr (kA x0_.Kind x0_.Day x0_.Lot x0_.Amount x0_.Yarn x0_.Dye x0_.Order) 0],.func (.func 118) [] [.fptr [.func (.func 134) [] [],.func (.func 135) [] []] 0,.fptr (.str x2_.lot.Name::(kB x2_.lot.Yarn x2_.lot.Dye x2_.lot.Stock x2_.known x2_.hold.Lot x2_.hold.Order x2_.hold.Reserved x2_.hold.Taken x2_.free)) 0,.fptr (kA x0_.Kind x0_.Day x0_.Lot x0_.Amount x0_.Yarn x0_.Dye x0_.Order) 0],.func (.func 119) [] [.fptr (kF x1_.Day x1_.Lots x1_.Holds) 0,.fptr (kA x0_.Kind x0_.Day x0_.Lot x0_.Amount x0_.Yarn x0_.Dye x0_.Order) 0]]
abbrev qsv (x0_:zi) (x1_:StateT) (x2_:qg):List AV:=[.func (.func 115) [] [.fptr (kA x0_.Kind x0_.Day x0_.Lot x0_.Amount x0_.Yarn x0_.Dye x0_.Order) 0,.fptr (kF x1_.Day x1_.Lots x1_.Holds) 0],.func (.func 116) [] [.fptr (kA x0_.Kind x0_.Day x0_.Lot x0_.Amount x0_.Yarn x0_.Dye x0_.Order) 0,.fptr (.str x2_.lot.Name::(kB x2_.lot.Yarn x2_.lot.Dye x2_.lot.Stock x2_.known x2_.hold.Lot x2_.hold.Order x2_.hold.Reserved x2_.hold.Taken x2_.free)) 0],.func (.func 117) [] [.fptr [.func (.func 137) [] [],.func (.func 138) [] []] 0,.fptr (.str x2_.lot.Name::(kB x2_.lot.Yarn x2_.lot.Dye x2_.lot.Stock x2_.known x2_.hold.Lot x2_.hold.Order x2_.hold.Reserved x2_.hold.Taken x2_.free)) 0,.fptr (kA x0_.Kind x0_.Day x0_.Lot x0_.Amount x0_.Yarn x0_.Dye x0_.Order) 0],.func (.func 118) [] [.fptr [.func (.func 137) [] [],.func (.func 138) [] []] 0,.fptr (.str x2_.lot.Name::(kB x2_.lot.Yarn x2_.lot.Dye x2_.lot.Stock x2_.known x2_.hold.Lot x2_.hold.Order x2_.hold.Reserved x2_.hold.Taken x2_.free)) 0,.fptr (kA x0_.Kind x0_.Day x0_.Lot x0_.Amount x0_.Yarn x0_.Dye x0_.Order) 0],.func (.func 119) [] [.fptr (kF x1_.Day x1_.Lots x1_.Holds) 0,.fptr (kA x0_.Kind x0_.Day x0_.Lot x0_.Amount x0_.Yarn x0_.Dye x0_.Order) 0]]
abbrev qsx (x0_:zi) (x1_:StateT) (x2_:qg):List AV:=[.func (.func 115) [] [.fptr (kA x0_.Kind x0_.Day x0_.Lot x0_.Amount x0_.Yarn x0_.Dye x0_.Order) 0,.fptr (kF x1_.Day x1_.Lots x1_.Holds) 0],.func (.func 116) [] [.fptr (kA x0_.Kind x0_.Day x0_.Lot x0_.Amount x0_.Yarn x0_.Dye x0_.Order) 0,.fptr (.str x2_.lot.Name::(kB x2_.lot.Yarn x2_.lot.Dye x2_.lot.Stock x2_.known x2_.hold.Lot x2_.hold.Order x2_.hold.Reserved x2_.hold.Taken x2_.free)) 0],.func (.func 117) [] [.fptr [.func (.func 139) [] [],.func (.func 140) [] []] 0,.fptr (.str x2_.lot.Name::(kB x2_.lot.Yarn x2_.lot.Dye x2_.lot.Stock x2_.known x2_.hold.Lot x2_.hold.Order x2_.hold.Reserved x2_.hold.Taken x2_.free)) 0,.fptr (kA x0_.Kind x0_.Day x0_.Lot x0_.Amount x0_.Yarn x0_.Dye x0_.Order) 0],.func (.func 118) [] [.fptr [.func (.func 139) [] [],.func (.func 140) [] []] 0,.fptr (.str x2_.lot.Name::(kB x2_.lot.Yarn x2_.lot.Dye x2_.lot.Stock x2_.known x2_.hold.Lot x2_.hold.Order x2_.hold.Reserved x2_.hold.Taken x2_.free)) 0,.fptr (kA x0_.Kind x0_.Day x0_.Lot x0_.Amount x0_.Yarn x0_.Dye x0_.Order) 0],.func (.func 119) [] [.fptr (kF x1_.Day x1_.Lots x1_.Holds) 0,.fptr (kA x0_.Kind x0_.Day x0_.Lot x0_.Amount x0_.Yarn x0_.Dye x0_.Order) 0]]
abbrev qsz (x0_:zi) (x1_:StateT) (x2_:qg):List AV:=[.func (.func 115) [] [.fptr (kA x0_.Kind x0_.Day x0_.Lot x0_.Amount x0_.Yarn x0_.Dye x0_.Order) 0,.fptr (kF x1_.Day x1_.Lots x1_.Holds) 0],.func (.func 116) [] [.fptr (kA x0_.Kind x0_.Day x0_.Lot x0_.Amount x0_.Yarn x0_.Dye x0_.Order) 0,.fptr (.str x2_.lot.Name::(kB x2_.lot.Yarn x2_.lot.Dye x2_.lot.Stock x2_.known x2_.hold.Lot x2_.hold.Order x2_.hold.Reserved x2_.hold.Taken x2_.free)) 0],.func (.func 117) [] [.fptr [.func (.func 141) [] [],.func (.func 142) [] []] 0,.fptr (.str x2_.lot.Name::(kB x2_.lot.Yarn x2_.lot.Dye x2_.lot.Stock x2_.known x2_.hold.Lot x2_.hold.Order x2_.hold.Reserved x2_.hold.Taken x2_.free)) 0,.fptr (kA x0_.Kind x0_.Day x0_.Lot x0_.Amount x0_.Yarn x0_.Dye x0_.Order) 0],.func (.func 118) [] [.fptr [.func (.func 141) [] [],.func (.func 142) [] []] 0,.fptr (.str x2_.lot.Name::(kB x2_.lot.Yarn x2_.lot.Dye x2_.lot.Stock x2_.known x2_.hold.Lot x2_.hold.Order x2_.hold.Reserved x2_.hold.Taken x2_.free)) 0,.fptr (kA x0_.Kind x0_.Day x0_.Lot x0_.Amount x0_.Yarn x0_.Dye x0_.Order) 0],.func (.func 119) [] [.fptr (kF x1_.Day x1_.Lots x1_.Holds) 0,.fptr (kA x0_.Kind x0_.Day x0_.Lot x0_.Amount x0_.Yarn x0_.Dye x0_.Order) 0]]
theorem sl31:SlT ZT 31 53 2 16:=⟨by kernel_rfl,by kernel_rfl,by kernel_rfl,by kernel_rfl⟩
theorem st9:Tryz.prog.underlying 9=some .string:=by kernel_rfl
theorem ce9:CeT ZT 9:=⟨by kernel_rfl,by kernel_rfl⟩
abbrev fm1:AV:= .fmap kAQ [.agg [.func (.func 132) [] [],.func (.func 133) [] []],.agg [.func (.func 134) [] [],.func (.func 135) [] []],.agg [.func (.func 137) [] [],.func (.func 138) [] []],.agg [.func (.func 139) [] [],.func (.func 140) [] []],.agg [.func (.func 141) [] [],.func (.func 142) [] []]]
instance:SC 12 fm1:=⟨Still.fmap SX.h (AllST.cons SC.h (AllST.cons SC.h (AllST.cons SC.h (AllST.cons SC.h (AllST.cons SC.h AllST.nil)))))⟩
theorem qI4 (x:zY):Fl (qN.c x):=by
 have e:qN.c x=[.str x.Name,.str x.Yarn,.str x.Dye,.i x.Stock]:=rfl
 rw[e]
 intro a ha
 simp only[List.mem_cons,List.not_mem_nil,or_false]at ha
 rcases ha with rfl|rfl|rfl|rfl<;>rfl
def qwH (l:List zY):Option Unit:=if l.length<=1000000 then some ()else none
theorem qEg (l:List zY) {u:Unit} (h:qwH l=some u):zu ZT (.fn 120) [vl qN l] [] (.gslice 0 l.length 4) (kAE l []):=by
 unfold qwH at h
 split at h
 ·exact qGa rfl qI4 l ‹_›
 cases h
theorem qJd (x:qE):Fl (qJ.c x):=by
 have e:qJ.c x=[.str x.Lot,.str x.Order,.i x.Reserved,.i x.Taken]:=rfl
 rw[e]
 intro a ha
 simp only[List.mem_cons,List.not_mem_nil,or_false]at ha
 rcases ha with rfl|rfl|rfl|rfl<;>rfl
def quZ (l:List qE):Option Unit:=if l.length<=1000000 then some ()else none
theorem qzb (l:List qE) {u:Unit} (h:quZ l=some u):zu ZT (.fn 123) [vl qJ l] [] (.gslice 0 l.length 4) (kG l []):=by
 unfold quZ at h
 split at h
 ·exact qEG rfl qJd l ‹_›
 cases h
def qAZ (l:List zY) (i:Int) (a b c:Str) (d:Int):Option (List zY):=if 0<=i/\i<=l.length/\l.length<1000000 then some (l.take i.toNat++[⟨a,b,c,d⟩]++l.drop i.toNat)else none
theorem qF3 (l:List zY) (i:Int) (a b c:Str) (d:Int) {r:List zY} (h:qAZ l i a b c d=some r):zu ZT (.fn 121) [.gslice 0 l.length 4,.i i,.slice 1 0 1 1 4] (kAE l (kX a b c d [])) (.oslice 2 r.length 4) (.dead::(kX a b c d (kAE r []))):=by
 unfold qAZ at h
 split at h
 ·rename_i hc
  obtain rfl:=si h
  have:=qId (E:=qN) rfl qI4 l ⟨a,b,c,d⟩ i.toNat (by omega) hc.2.2
  rw[Int.toNat_of_nonneg hc.1]at this
  exact this
 cases h
instance:Inhabited qE:=⟨⟨[],[],0,0⟩⟩
theorem hldE:qyb qJ qE.Lot qE.Order qE.Reserved qE.Taken:=⟨rfl,fun _=>rfl⟩
def qxr (l:List qE):Option (List qE):=if l.length<=1000000 then some (qtB qE.Lot qE.Order l)else none
theorem qCO (l:List qE) {r:List qE} (h:qxr l=some r):zu ZT (.fn 126) [.oslice 0 l.length 4,.func (.func 127) [] []] (kG l []) (.tuple []) (kG r []):=by
 unfold qxr at h
 split at h
 ·rename_i hl
  obtain rfl:=si h
  have:=hldE.sortO (ns:=l) hl
  exact this
 cases h
def qw8 (l:List qE):Option (List qE):=if l.length<=1000000 then some (qtB qE.Lot qE.Order l)else none
theorem qCM (l:List qE) {r:List qE} (h:qw8 l=some r):zu ZT (.fn 126) [.gslice 0 l.length 4,.func (.func 127) [] []] (kG l []) (.tuple []) (kG r []):=by
 unfold qw8 at h
 split at h
 ·rename_i hl
  obtain rfl:=si h
  have:=hldE.sortG (ns:=l) hl
  exact this
 cases h
def qnz (e:zi):Option Bool:=
 (if(e.Kind.length:Int)<=60 then
 if(e.Lot.length:Int)<=60 then
 if(e.Yarn.length:Int)<=60 then
 if(e.Dye.length:Int)<=60 then
 some (decide ((e.Order.length:Int)<=60))
 else
 some false
 else
 some false
 else
 some false
 else
 some false:Option Bool).bind fun a=>
 some a
theorem qxF (e:zi) {res:Bool} (h:qnz e=some res):zu ZT (.fn 22) [.agg (kA e.Kind e.Day e.Lot e.Amount e.Yarn e.Dye e.Order)] [] (.bool res) []:=by
 unfold qnz at h
 refine Uc Tryz.func22 rfl rfl (m:=31) rfl (rs:=[.tmp 2]) rfl (l:=[(0,.agg [.str e.Kind,.i e.Day,.str e.Lot,.i e.Amount,.str e.Yarn,.str e.Dye,.str e.Order])]) rfl ?_
 refine sg fol (kAM []) (kD e.Kind e.Day e.Lot e.Amount e.Yarn e.Dye e.Order []) ?_
 refine sq ?_
 obtain⟨g,a,h⟩:=bnd h
 refine Goes.cut (s':=(ofG 31 (kAJ g),(kD e.Kind e.Day e.Lot e.Amount e.Yarn e.Dye e.Order []))) ?_ ?_
 ·rcases wyD a with⟨b,a⟩|⟨b,a⟩
  ·rcases wyD a with⟨c,a⟩|⟨c,a⟩
   ·rcases wyD a with⟨d,a⟩|⟨d,a⟩
    ·rcases wyD a with⟨f,a⟩|⟨f,a⟩
     ·obtain rfl:=si a
      exact tr fol [4,10,16,22] (kAJ (decide ((e.Order.length:Int)<=60))) (ac (gw b) (ac (gw c) (ac (gw d) (ac (gw f) az))))
     obtain rfl:=si a
     exact tr fol [4,10,16,22] kAR (ac (gw b) (ac (gw c) (ac (gw d) (ac (gw f) az))))
    obtain rfl:=si a
    exact tr fol [4,10,16] kAR (ac (gw b) (ac (gw c) (ac (gw d) az)))
   obtain rfl:=si a
   exact tr fol [4,10] kAR (ac (gw b) (ac (gw c) az))
  obtain rfl:=si a
  exact tr fol [4] kAR (ac (gw b) az)
 refine Goes.ret ?_
 obtain rfl:=si h
 exact(gw2 [.bool g] (Ub tB))
def qij (l:List zi):Nat->Int->Option (Unit⊕Bool)
 |0,_=>none
 |K+1,a=>
  if a<(l.length:Int)then
  (idx l a).bind fun b=>
  (qnz b).bind fun c=>
  if(!c)=true then
  some (.inr false)
  else
  qij l K (w64 (a+1))
  else
  some (.inl ())
def qpj (N:Nat) (l:List zi) (n:Int):Option Bool:=
 (if(l.length:Int)>n then
 if(l.length:Int)<=1000 then
 some true
 else
 some (decide ((l.length:Int)>1003))
 else
 some (decide ((l.length:Int)>1003)):Option Bool).bind fun b=>
 if b=true then
 some false
 else
 (qij l N 0).bind (fun
 |(.inl ())=>
 some true
 |(.inr a)=>
 some a)
theorem quf (N:Nat) (l:List zi) (n:Int) {res:Bool} (h:qpj N l n=some res):zu ZT (.fn 9) [vl jT l,.i n] [] (.bool res) []:=by
 unfold qpj at h
 refine Uc Tryz.func9 rfl rfl (m:=32) rfl (rs:=[.tmp 4]) rfl (l:=(kN l [(1,.i n)])) rfl ?_
 refine sh fol (kN l [(1,.i n)]) ?_
 refine sq ?_
 refine sq ?_
 obtain⟨q,a,h⟩:=bnd h
 refine Goes.cut (s':=(ofG 32 (kN l [(19,.bool q)]),[])) ?_ ?_
 ·rcases wyD a with⟨e,a⟩|⟨e,a⟩
  ·rcases wyD a with⟨f,a⟩|⟨f,a⟩
   ·obtain rfl:=si a
    exact tr fol [4,9] (kN l [(19,.bool true)]) (ac (gw e) (ac (gw f) az))
   obtain rfl:=si a
   exact tr fol [4,9] (kN l [(19,.bool (decide ((l.length:Int)>1003)))]) (ac (gw e) (ac (gw f) az))
  obtain rfl:=si a
  exact tr fol [4] (kN l [(19,.bool (decide ((l.length:Int)>1003)))]) (ac (gw e) az)
 refine ihB h (fun r h=>?_) (fun r h=>?_)
 ·refine sh fol [(4,.bool false)] ?_
  refine Goes.ret ?_
  obtain rfl:=si h
  exact(gw2 [.bool false] (Ub tB))
 refine Goes.skip ?_
 refine sq ?_
 refine sh fol (kN l [(5,.i 0)]) ?_
 refine Goes.block ?_
 obtain⟨g,g7,h⟩:=bnd h
 refine Goes.imp (Q:=fun x s'=>(x= .exit 0/\(.inl ())=g/\Sub s' (ofG 32 [],[]))\/(x= .ret/\ ∃p,(.inr p)=g/\qhA ZT [.tmp 4] (.bool p) .ret s')) ?_ ?_
 ·refine Ud (fun M s=> ∃(c:Int),s=(ofG 32 (kN l (kAe c)),[])/\qij l M c=some g) ?_ (m:=N) ⟨_,rfl,g7⟩
  rintro M s ⟨c,rfl,g7⟩
  cases M with
  |zero=>simp only[qij]at g7;cases g7
  |succ M=>
   rw[qij]at g7
   refine sq ?_
   refine sh fol (kN l [(5,.i c),(23,.bool (decide (c<(l.length:Int))))]) ?_
   refine ihD g7 (fun t g7=>?_) (fun t g7=>?_)
   ·refine Goes.skip ?_
    refine sq (Goes.block ?_)
    obtain⟨j,b,g7⟩:=bnd g7
    obtain⟨k,d,g7⟩:=bnd g7
    refine sq (gr fol [2,3,4] (kN l [(5,.i c),(31,.bool (!k))]) (ac (iv sl23 jT b) (ac (la ag57 jT b) (ac (cv (qxF j d)) az))) ?_)
    refine ihB g7 (fun o g7=>?_) (fun o g7=>?_)
    ·refine sh fol [(4,.bool false)] ?_
     refine Goes.ret ?_
     obtain rfl:=si g7
     exact Or.inr (⟨rfl,_,rfl,(gw2 [.bool false] (Ub tB))⟩)
    refine Goes.skip ?_
    refine gh fol (kN l (kAe (w64 (c+1)))) ?_
    exact⟨M,(ofG 32 (kN l (kAe (w64 (c+1)))),[]),Nat.lt_succ_self _,(Sub.refl _),_,rfl,g7⟩
   refine Goes.exit ?_
   obtain rfl:=si g7
   exact Or.inl (⟨rfl,rfl,(Sub.keep [] rfl rfl)⟩)
 rintro x s' (⟨rfl,rfl,hsub⟩|⟨rfl,u,rfl,hret⟩)
 ·try dsimp only at h
  refine Goes.sub hsub ?_
  refine sh fol kAo ?_
  refine Goes.ret ?_
  obtain rfl:=si h
  exact(gw2 [.bool true] (Ub tB))
 try dsimp only at h
 obtain rfl:=si h
 exact hret
def qnj (l:List Int):Nat->Int->Option (Unit⊕Int)
 |0,_=>none
 |K+1,a=>
  if a<(l.length:Int)then
  (idx l a).bind fun b=>
  if(!decide (b=0))=true then
  some (.inr b)
  else
  qnj l K (w64 (a+1))
  else
  some (.inl ())
def qjz (N:Nat) (l:List Int):Option Int:=
 (qnj l N 0).bind (fun
 |(.inl ())=>
 some 0
 |(.inr a)=>
 some a)
theorem qkd (N:Nat) (l:List Int) {res:Int} (h:qjz N l=some res):zu ZT (.fn 50) [vl encI l] [] (.i res) []:=by
 unfold qjz at h
 refine Uc Tryz.func50 rfl rfl (m:=15) rfl (rs:=[.tmp 2]) rfl (l:=[(0,vl encI l)]) rfl ?_
 refine sh fol [(0,vl encI l)] ?_
 refine sq ?_
 refine sh fol [(5,vl encI l),(6,.i (l.length:Int)),(7,.i 0)] ?_
 refine Goes.block ?_
 obtain⟨d,g2,h⟩:=bnd h
 refine Goes.imp (Q:=fun x s'=>(x= .exit 0/\(.inl ())=d/\Sub s' (ofG 15 [],[]))\/(x= .ret/\ ∃e,(.inr e)=d/\qhA ZT [.tmp 2] (.i e) .ret s')) ?_ ?_
 ·refine Ud (fun M s=> ∃(a:Int),s=(ofG 15 [(5,vl encI l),(6,.i (l.length:Int)),(7,.i a)],[])/\qnj l M a=some d) ?_ (m:=N) ⟨_,rfl,g2⟩
  rintro M s ⟨a,rfl,g2⟩
  cases M with
  |zero=>simp only[qnj]at g2;cases g2
  |succ M=>
   rw[qnj]at g2
   refine sh fol [(5,vl encI l),(6,.i (l.length:Int)),(7,.i a),(8,.bool (decide (a<(l.length:Int))))] ?_
   refine sq ?_
   refine ihD g2 (fun f g2=>?_) (fun f g2=>?_)
   ·refine Goes.skip ?_
    refine sq (Goes.block ?_)
    obtain⟨c,b,g2⟩:=bnd g2
    refine sq (gr fol [0,1] [(4,.i c),(5,vl encI l),(6,.i (l.length:Int)),(7,.i a)] (ac (iv sl179 encI b) (ac (lv 0 ce32 encI b rfl) az)) ?_)
    refine sh fol [(4,.i c),(5,vl encI l),(6,.i (l.length:Int)),(7,.i a),(12,.bool (!decide (c=0)))] ?_
    refine ihB g2 (fun g g2=>?_) (fun g g2=>?_)
    ·refine sh fol (kAl c) ?_
     refine Goes.ret ?_
     obtain rfl:=si g2
     exact Or.inr (⟨rfl,_,rfl,(gw2 [.i c] (Ub tI))⟩)
    refine Goes.skip ?_
    refine gh fol [(5,vl encI l),(6,.i (l.length:Int)),(7,.i (w64 (a+1)))] ?_
    exact⟨M,(ofG 15 [(5,vl encI l),(6,.i (l.length:Int)),(7,.i (w64 (a+1)))],[]),Nat.lt_succ_self _,(Sub.refl _),_,rfl,g2⟩
   refine Goes.exit ?_
   obtain rfl:=si g2
   exact Or.inl (⟨rfl,rfl,(Sub.keep [] rfl rfl)⟩)
 rintro x s' (⟨rfl,rfl,hsub⟩|⟨rfl,j,rfl,hret⟩)
 ·try dsimp only at h
  refine Goes.sub hsub ?_
  refine sh fol [(2,.i 0)] ?_
  refine Goes.ret ?_
  obtain rfl:=si h
  exact(gw2 [.i 0] (Ub tI))
 try dsimp only at h
 obtain rfl:=si h
 exact hret
def qhS (holds:Bool) (e:Int):Option Int:=
 if holds=true then
 some e
 else
 some 0
theorem qeL (holds:Bool) (e:Int) {res:Int} (h:qhS holds e=some res):zu ZT (.fn 58) [.bool holds,.i e] [] (.i res) []:=by
 unfold qhS at h
 refine Uc Tryz.func58 rfl rfl (m:=7) rfl (rs:=[.tmp 4]) rfl (l:=[(0,.bool holds),(1,.i e)]) rfl ?_
 refine sh fol [(0,.bool holds),(1,.i e)] ?_
 refine sq ?_
 refine sh fol [(1,.i e),(5,.bool holds)] ?_
 refine ihB h (fun a h=>?_) (fun a h=>?_)
 ·refine sh fol (kAj e) ?_
  refine Goes.ret ?_
  obtain rfl:=si h
  exact(gw2 [.i e] (Ub tI))
 refine Goes.skip ?_
 refine sh fol [(4,.i 0)] ?_
 refine Goes.ret ?_
 obtain rfl:=si h
 exact(gw2 [.i 0] (Ub tI))
def qmg (n:Int) (least:Int) (most:Int):Option Int:=
 (if n<least then
 (qhS true 3).bind fun a=>
 some a
 else
 (qhS (decide (n>most)) 3).bind fun b=>
 some b:Option Int).bind fun c=>
 some c
theorem qkS (n:Int) (least:Int) (most:Int) {res:Int} (h:qmg n least most=some res):zu ZT (.fn 51) [.i n,.i least,.i most] [] (.i res) []:=by
 unfold qmg at h
 refine Uc Tryz.func51 rfl rfl (m:=16) rfl (rs:=[.tmp 6]) rfl (l:=((0,.i n)::(1,.i least)::(kAl most))) rfl ?_
 refine sh fol ((0,.i n)::(1,.i least)::(kAl most)) ?_
 refine sq ?_
 obtain⟨e,a,h⟩:=bnd h
 refine Goes.cut (s':=(ofG 16 [(6,.i e)],[])) ?_ ?_
 ·rcases wyD a with⟨d,a⟩|⟨d,a⟩
  ·obtain⟨f,b,a⟩:=bnd a
   obtain rfl:=si a
   exact tr fol [3,8] [(6,.i f)] (ac (gw d) (ac (cv (qeL true 3 b)) az))
  obtain⟨g,c,a⟩:=bnd a
  obtain rfl:=si a
  exact tr fol [3,8] [(6,.i g)] (ac (gw d) (ac (cv (qeL (decide (n>most)) 3 c)) az))
 refine Goes.ret ?_
 obtain rfl:=si h
 exact(gw2 [.i e] (Ub tI))
def qm2 (c:Int):Option Bool:=
 (if c>=97 then
 if c<=122 then
 some true
 else
 if c>=65 then
 some (decide (c<=90))
 else
 some false
 else
 if c>=65 then
 some (decide (c<=90))
 else
 some false:Option Bool).bind fun a=>
 some a
theorem qmk (c:Int) {res:Bool} (h:qm2 c=some res):zu ZT (.fn 183) [.int .i32 c] [] (.bool res) []:=by
 unfold qm2 at h
 refine Uc Tryz.func183 rfl rfl (m:=17) rfl (rs:=[.tmp 2]) rfl (l:=[(0,.int .i32 c)]) rfl ?_
 refine sh fol [(0,.int .i32 c)] ?_
 refine sq ?_
 obtain⟨g,a,h⟩:=bnd h
 refine Goes.cut (s':=(ofG 17 (kAJ g),[])) ?_ ?_
 ·rcases wyD a with⟨b,a⟩|⟨b,a⟩
  ·rcases wyD a with⟨d,a⟩|⟨d,a⟩
   ·obtain rfl:=si a
    exact tr fol [2,6] [(2,.bool true)] (ac (gw b) (ac (gw d) az))
   rcases wyD a with⟨e,a⟩|⟨e,a⟩
   ·obtain rfl:=si a
    exact tr fol [2,6,9] (kAJ (decide (c<=90))) (ac (gw b) (ac (gw d) (ac (gw e) az)))
   obtain rfl:=si a
   exact tr fol [2,6,9] kAR (ac (gw b) (ac (gw d) (ac (gw e) az)))
  rcases wyD a with⟨f,a⟩|⟨f,a⟩
  ·obtain rfl:=si a
   exact tr fol [2,9] (kAJ (decide (c<=90))) (ac (gw b) (ac (gw f) az))
  obtain rfl:=si a
  exact tr fol [2,9] kAR (ac (gw b) (ac (gw f) az))
 refine Goes.ret ?_
 obtain rfl:=si h
 exact(gw2 [.bool g] (Ub tB))
def qjN (b:Str):Nat->Nat->Option (Unit⊕Bool)
 |0,_=>none
 |K+1,a=>
  if a<b.length then
  ((qm2 (qmW b a)).bind fun d=>
  if(!d)=true then
  if(a:Int)=0 then
  some true
  else
  if(!decide ((qmW b a)=95))=true then
  if(qmW b a)<48 then
  some true
  else
  some (decide ((qmW b a)>57))
  else
  some false
  else
  some false:Option Bool).bind fun c=>
  if c=true then
  some (.inr false)
  else
  qjN b K (a+runeLen b a)
  else
  some (.inl ())
def qoG (N:Nat) (a:Str):Option Bool:=
 (qjN a N 0).bind (fun
 |(.inl ())=>
 (if(!(a==[]))=true then
 some (decide ((a.length:Int)<=24))
 else
 some false:Option Bool).bind fun b=>
 some b
 |(.inr c)=>
 some c)
theorem quX (N:Nat) (d:Str) {res:Bool} (h:qoG N d=some res):zu ZT (.fn 130) [.str d] [] (.bool res) []:=by
 unfold qoG at h
 refine Uc Tryz.func130 rfl rfl (m:=37) rfl (rs:=[.tmp 2]) rfl (l:=[(0,.str d)]) rfl ?_
 refine sh fol [(0,.str d)] ?_
 refine sq ?_
 refine sg fol (kAW d []) [.iter d 0] ?_
 refine Goes.block ?_
 obtain⟨r,g2,h⟩:=bnd h
 refine Goes.imp (Q:=fun x s'=>(x= .exit 0/\(.inl ())=r/\Sub s' (ofG 37 [(0,.str d)],[]))\/(x= .ret/\ ∃w,(.inr w)=r/\qhA ZT [.tmp 2] (.bool w) .ret s')) ?_ ?_
 ·refine Goes.sub (s':=(ofG 37 (kAW d []),[.iter d 0])) (Sub.keep [0,6] rfl rfl) ?_
  refine Ud (fun M s=> ∃(e:Nat),s=(ofG 37 (kAW d []),[.iter d e])/\qjN d M e=some r) ?_ (m:=N) ⟨_,rfl,g2⟩
  rintro M s ⟨e,rfl,g2⟩
  cases M with
  |zero=>simp only[qjN]at g2;cases g2
  |succ M=>
   rw[qjN]at g2
   refine sq ?_
   rcases Classical.em (e<d.length)with n|n
   ·rw[if_pos n]at g2
    refine gq fol [0] (kAW d [(7,.tuple [.bool true,.i (e:Int),.int .i32 (qmW d e)]),(8,.bool true)]) [.iter d (e+runeLen d e)] (ac (hs (.run [0] (qy2 (.ptr 0 0) true) [.iter d e] (.tuple [.bool true,.i (e:Int),.int .i32 (qmW d e)]) [.iter d (e+runeLen d e)] true) (qFK rfl n rfl)) az) ?_
    refine sq ?_
    refine Goes.ifB (b:=true) (by kernel_rfl) (fun _=>?_) (fun c=>(by cases c))
    refine Goes.skip ?_
    refine Goes.block ?_
    refine sh fol (kAZ d (e:Int) [(4,.int .i32 (qmW d e)),(6,.ptr 0 0)]) ?_
    refine sq ?_
    obtain⟨t,a,g2⟩:=bnd g2
    refine Goes.cut (s':=(ofG 37 (kAW d [(29,.bool t)]),[.iter d (e+runeLen d e)])) ?_ ?_
    ·obtain⟨z,g,a⟩:=bnd a
     rcases wyB a with⟨k,a⟩|⟨k,a⟩
     ·rcases wyD a with⟨o,a⟩|⟨o,a⟩
      ·obtain rfl:=si a
       exact tr fol [1,3,6] (kAW d [(29,.bool true)]) (ac (cv (qmk (qmW d e) g)) (ac (gw k) (ac (gw o) az)))
      rcases wyB a with⟨q,a⟩|⟨q,a⟩
      ·rcases wyD a with⟨u,a⟩|⟨u,a⟩
       ·obtain rfl:=si a
        exact tr fol [1,3,6,9,12] (kAW d [(29,.bool true)]) (ac (cv (qmk (qmW d e) g)) (ac (gw k) (ac (gw o) (ac (gw q) (ac (gw u) az)))))
       obtain rfl:=si a
       exact tr fol [1,3,6,9,12] (kAW d [(29,.bool (decide ((qmW d e)>57)))]) (ac (cv (qmk (qmW d e) g)) (ac (gw k) (ac (gw o) (ac (gw q) (ac (gw u) az)))))
      obtain rfl:=si a
      exact tr fol [1,3,6,9] (kAW d [(29,.bool false)]) (ac (cv (qmk (qmW d e) g)) (ac (gw k) (ac (gw o) (ac (gw q) az))))
     obtain rfl:=si a
     exact tr fol [1,3] (kAW d [(29,.bool false)]) (ac (cv (qmk (qmW d e) g)) (ac (gw k) az))
    refine ihB g2 (fun v g2=>?_) (fun v g2=>?_)
    ·refine sh fol kAR ?_
     refine Goes.ret ?_
     obtain rfl:=si g2
     exact Or.inr (⟨rfl,_,rfl,(gw2 [.bool false] (Ub tB))⟩)
    refine Goes.skip ?_
    exact⟨M,(ofG 37 (kAW d []),[.iter d (e+runeLen d e)]),Nat.lt_succ_self _,(Sub.keep [0,6] rfl rfl),_,rfl,g2⟩
   rw[if_neg n]at g2
   refine gr fol [0] (kAW d [(7,.tuple [.bool false]),(8,.bool false)]) (ac (hs (.run [0] (qy2 (.ptr 0 0) true) [.iter d e] (.tuple [.bool false]) [.iter d e] false) (qGo rfl n)) az) ?_
   refine sq ?_
   refine Goes.ifB (b:=false) (by kernel_rfl) (fun c=>(by cases c)) (fun _=>?_)
   refine Goes.exit ?_
   obtain rfl:=si g2
   exact Or.inl (⟨rfl,rfl,(Sub.norm [] [] rfl rfl (.keep (.same nS) .nil) .nil)⟩)
 rintro x s' (⟨rfl,rfl,hsub⟩|⟨rfl,y,rfl,hret⟩)
 ·try dsimp only at h
  refine Goes.sub hsub ?_
  refine sq ?_
  obtain⟨p,f,h⟩:=bnd h
  refine Goes.cut (s':=(ofG 37 (kAJ p),[])) ?_ ?_
  ·rcases wyB f with⟨j,f⟩|⟨j,f⟩
   ·obtain rfl:=si f
    exact tr fol [2] (kAJ (decide ((d.length:Int)<=24))) (ac (gw j) az)
   obtain rfl:=si f
   exact tr fol [2] kAR (ac (gw j) az)
  refine Goes.ret ?_
  obtain rfl:=si h
  exact(gw2 [.bool p] (Ub tB))
 try dsimp only at h
 obtain rfl:=si h
 exact hret
def qnb (N:Nat) (a:Str):Option Int:=
 (qoG N a).bind fun b=>
 (qhS (!b) 8).bind fun c=>
 some c
theorem qmj (N:Nat) (a:Str) {res:Int} (h:qnb N a=some res):zu ZT (.fn 75) [.str a] [] (.i res) []:=by
 unfold qnb at h
 refine Uc Tryz.func75 rfl rfl (m:=7) rfl (rs:=[.tmp 2]) rfl (l:=[(0,.str a)]) rfl ?_
 refine sh fol [(0,.str a)] ?_
 obtain⟨e,b,h⟩:=bnd h
 obtain⟨d,c,h⟩:=bnd h
 refine sq (gr fol [1,3] (kAl d) (ac (cv (quX N a b)) (ac (cv (qeL (!e) 8 c)) az)) ?_)
 refine Goes.ret ?_
 obtain rfl:=si h
 exact(gw2 [.i d] (Ub tI))
def quy (a:qg) (b:Int):Option Bool:=
 some true
theorem qzD (a:qg) (b:Int) {res:Bool} (h:quy a b=some res):zu ZT (.fn 132) (kQ a.lot.Name a.lot.Yarn a.lot.Dye a.lot.Stock a.known a.hold.Lot a.hold.Order a.hold.Reserved a.hold.Taken a.free b) [] (.bool res) []:=by
 unfold quy at h
 refine Uc Tryz.func132 rfl rfl (m:=5) rfl (rs:=[.tmp 4]) rfl (l:=(kP a.lot.Name a.lot.Yarn a.lot.Dye a.lot.Stock a.known a.hold.Lot a.hold.Order a.hold.Reserved a.hold.Taken a.free b)) rfl ?_
 refine sg fol [] (kC a.lot.Name a.lot.Yarn a.lot.Dye a.lot.Stock a.known a.hold.Lot a.hold.Order a.hold.Reserved a.hold.Taken a.free []) ?_
 refine sh fol kAo ?_
 refine Goes.ret ?_
 obtain rfl:=si h
 exact(gw2 [.bool true] (Ub tB))
def qpV (a:qg) (n:Int):Option qg:=
 some (⟨(⟨a.lot.Name,a.lot.Yarn,a.lot.Dye,w64 (a.lot.Stock+n)⟩:zY),a.known,a.hold,a.free⟩:qg)
theorem quS (a:qg) (n:Int) {res:qg} (h:qpV a n=some res):zu ZT (.fn 133) (kQ a.lot.Name a.lot.Yarn a.lot.Dye a.lot.Stock a.known a.hold.Lot a.hold.Order a.hold.Reserved a.hold.Taken a.free n) [] (.agg (.str res.lot.Name::(kB res.lot.Yarn res.lot.Dye res.lot.Stock res.known res.hold.Lot res.hold.Order res.hold.Reserved res.hold.Taken res.free))) []:=by
 unfold qpV at h
 refine Uc Tryz.func133 rfl rfl (m:=13) rfl (rs:=[.cell 4 182]) rfl (l:=(kP a.lot.Name a.lot.Yarn a.lot.Dye a.lot.Stock a.known a.hold.Lot a.hold.Order a.hold.Reserved a.hold.Taken a.free n)) rfl ?_
 refine sg fol ((1,.i n)::(kM [])) (kC a.lot.Name a.lot.Yarn a.lot.Dye a.lot.Stock a.known a.hold.Lot a.hold.Order a.hold.Reserved a.hold.Taken a.free (kI [])) ?_
 refine sg fol (kM []) (kC a.lot.Name a.lot.Yarn a.lot.Dye (w64 (a.lot.Stock+n)) a.known a.hold.Lot a.hold.Order a.hold.Reserved a.hold.Taken a.free (kI [])) ?_
 refine sg fol (kAf []) (kC a.lot.Name a.lot.Yarn a.lot.Dye (w64 (a.lot.Stock+n)) a.known a.hold.Lot a.hold.Order a.hold.Reserved a.hold.Taken a.free (kC a.lot.Name a.lot.Yarn a.lot.Dye (w64 (a.lot.Stock+n)) a.known a.hold.Lot a.hold.Order a.hold.Reserved a.hold.Taken a.free [])) ?_
 refine Goes.ret ?_
 obtain rfl:=si h
 exact(gw2 [.agg (.str a.lot.Name::(kB a.lot.Yarn a.lot.Dye (w64 (a.lot.Stock+n)) a.known a.hold.Lot a.hold.Order a.hold.Reserved a.hold.Taken a.free))] (FzW.agg (xI.cons (Ub tS) (xI.cons (Ub tS) (xI.cons (Ub tS) (xI.cons (Ub tI) (xI.cons (Ub tB) (xI.cons (Ub tS) (xI.cons (Ub tS) (xI.cons (Ub tI) (xI.cons (Ub tI) (xI.cons (Ub tI) xI.nil))))))))))))
def qux (a:qg) (n:Int):Option Bool:=
 some (decide (n<=a.free))
theorem qzi (a:qg) (n:Int) {res:Bool} (h:qux a n=some res):zu ZT (.fn 134) (kQ a.lot.Name a.lot.Yarn a.lot.Dye a.lot.Stock a.known a.hold.Lot a.hold.Order a.hold.Reserved a.hold.Taken a.free n) [] (.bool res) []:=by
 unfold qux at h
 refine Uc Tryz.func134 rfl rfl (m:=9) rfl (rs:=[.tmp 4]) rfl (l:=(kP a.lot.Name a.lot.Yarn a.lot.Dye a.lot.Stock a.known a.hold.Lot a.hold.Order a.hold.Reserved a.hold.Taken a.free n)) rfl ?_
 refine sg fol ((1,.i n)::(kAG [])) (kC a.lot.Name a.lot.Yarn a.lot.Dye a.lot.Stock a.known a.hold.Lot a.hold.Order a.hold.Reserved a.hold.Taken a.free []) ?_
 refine sh fol [(4,.bool (decide (n<=a.free)))] ?_
 refine Goes.ret ?_
 obtain rfl:=si h
 exact(gw2 [.bool (decide (n<=a.free))] (Ub tB))
def qmK (a:qg) (n:Int):Option qg:=
 some (⟨a.lot,a.known,(⟨a.hold.Lot,a.hold.Order,w64 (a.hold.Reserved+n),a.hold.Taken⟩:qE),a.free⟩:qg)
theorem qpU (a:qg) (n:Int) {res:qg} (h:qmK a n=some res):zu ZT (.fn 136) (kQ a.lot.Name a.lot.Yarn a.lot.Dye a.lot.Stock a.known a.hold.Lot a.hold.Order a.hold.Reserved a.hold.Taken a.free n) [] (.agg (.str res.lot.Name::(kB res.lot.Yarn res.lot.Dye res.lot.Stock res.known res.hold.Lot res.hold.Order res.hold.Reserved res.hold.Taken res.free))) []:=by
 unfold qmK at h
 refine Uc Tryz.func136 rfl rfl (m:=13) rfl (rs:=[.cell 4 182]) rfl (l:=(kP a.lot.Name a.lot.Yarn a.lot.Dye a.lot.Stock a.known a.hold.Lot a.hold.Order a.hold.Reserved a.hold.Taken a.free n)) rfl ?_
 refine sg fol ((1,.i n)::(kM [])) (kC a.lot.Name a.lot.Yarn a.lot.Dye a.lot.Stock a.known a.hold.Lot a.hold.Order a.hold.Reserved a.hold.Taken a.free (kI [])) ?_
 refine sg fol (kM []) (kC a.lot.Name a.lot.Yarn a.lot.Dye a.lot.Stock a.known a.hold.Lot a.hold.Order (w64 (a.hold.Reserved+n)) a.hold.Taken a.free (kI [])) ?_
 refine sg fol (kAf []) (kC a.lot.Name a.lot.Yarn a.lot.Dye a.lot.Stock a.known a.hold.Lot a.hold.Order (w64 (a.hold.Reserved+n)) a.hold.Taken a.free (kC a.lot.Name a.lot.Yarn a.lot.Dye a.lot.Stock a.known a.hold.Lot a.hold.Order (w64 (a.hold.Reserved+n)) a.hold.Taken a.free [])) ?_
 refine Goes.ret ?_
 obtain rfl:=si h
 exact(gw2 [.agg (.str a.lot.Name::(kB a.lot.Yarn a.lot.Dye a.lot.Stock a.known a.hold.Lot a.hold.Order (w64 (a.hold.Reserved+n)) a.hold.Taken a.free))] (FzW.agg (xI.cons (Ub tS) (xI.cons (Ub tS) (xI.cons (Ub tS) (xI.cons (Ub tI) (xI.cons (Ub tB) (xI.cons (Ub tS) (xI.cons (Ub tS) (xI.cons (Ub tI) (xI.cons (Ub tI) (xI.cons (Ub tI) xI.nil))))))))))))
def qp2 (a:qg) (n:Int):Option qg:=
 (qmK a n).bind fun b=>
 some b
theorem quM (a:qg) (n:Int) {res:qg} (h:qp2 a n=some res):zu ZT (.fn 135) (kQ a.lot.Name a.lot.Yarn a.lot.Dye a.lot.Stock a.known a.hold.Lot a.hold.Order a.hold.Reserved a.hold.Taken a.free n) [] (.agg (.str res.lot.Name::(kB res.lot.Yarn res.lot.Dye res.lot.Stock res.known res.hold.Lot res.hold.Order res.hold.Reserved res.hold.Taken res.free))) []:=by
 unfold qp2 at h
 refine Uc Tryz.func135 rfl rfl (m:=8) rfl (rs:=[.cell 4 182]) rfl (l:=(kP a.lot.Name a.lot.Yarn a.lot.Dye a.lot.Stock a.known a.hold.Lot a.hold.Order a.hold.Reserved a.hold.Taken a.free n)) rfl ?_
 refine sg fol ((1,.i n)::(kM [])) (kC a.lot.Name a.lot.Yarn a.lot.Dye a.lot.Stock a.known a.hold.Lot a.hold.Order a.hold.Reserved a.hold.Taken a.free (kI [])) ?_
 obtain⟨b,c,h⟩:=bnd h
 refine sq (gq fol [2] (kAf []) (kC a.lot.Name a.lot.Yarn a.lot.Dye a.lot.Stock a.known a.hold.Lot a.hold.Order a.hold.Reserved a.hold.Taken a.free (kC b.lot.Name b.lot.Yarn b.lot.Dye b.lot.Stock b.known b.hold.Lot b.hold.Order b.hold.Reserved b.hold.Taken b.free [])) (ac (cv (qpU a n c)) az) ?_)
 refine Goes.ret ?_
 obtain rfl:=si h
 exact(gw2 [.agg (.str b.lot.Name::(kB b.lot.Yarn b.lot.Dye b.lot.Stock b.known b.hold.Lot b.hold.Order b.hold.Reserved b.hold.Taken b.free))] (FzW.agg (xI.cons (Ub tS) (xI.cons (Ub tS) (xI.cons (Ub tS) (xI.cons (Ub tI) (xI.cons (Ub tB) (xI.cons (Ub tS) (xI.cons (Ub tS) (xI.cons (Ub tI) (xI.cons (Ub tI) (xI.cons (Ub tI) xI.nil))))))))))))
def quL (a:qg) (n:Int):Option Bool:=
 some (decide (n<=a.hold.Reserved))
theorem qzf (a:qg) (n:Int) {res:Bool} (h:quL a n=some res):zu ZT (.fn 137) (kQ a.lot.Name a.lot.Yarn a.lot.Dye a.lot.Stock a.known a.hold.Lot a.hold.Order a.hold.Reserved a.hold.Taken a.free n) [] (.bool res) []:=by
 unfold quL at h
 refine Uc Tryz.func137 rfl rfl (m:=10) rfl (rs:=[.tmp 4]) rfl (l:=(kP a.lot.Name a.lot.Yarn a.lot.Dye a.lot.Stock a.known a.hold.Lot a.hold.Order a.hold.Reserved a.hold.Taken a.free n)) rfl ?_
 refine sg fol ((1,.i n)::(kAG [])) (kC a.lot.Name a.lot.Yarn a.lot.Dye a.lot.Stock a.known a.hold.Lot a.hold.Order a.hold.Reserved a.hold.Taken a.free []) ?_
 refine sh fol [(4,.bool (decide (n<=a.hold.Reserved)))] ?_
 refine Goes.ret ?_
 obtain rfl:=si h
 exact(gw2 [.bool (decide (n<=a.hold.Reserved))] (Ub tB))
def qp4 (a:qg) (n:Int):Option qg:=
 (qmK a (w64 (0-n))).bind fun b=>
 some b
theorem quP (a:qg) (n:Int) {res:qg} (h:qp4 a n=some res):zu ZT (.fn 138) (kQ a.lot.Name a.lot.Yarn a.lot.Dye a.lot.Stock a.known a.hold.Lot a.hold.Order a.hold.Reserved a.hold.Taken a.free n) [] (.agg (.str res.lot.Name::(kB res.lot.Yarn res.lot.Dye res.lot.Stock res.known res.hold.Lot res.hold.Order res.hold.Reserved res.hold.Taken res.free))) []:=by
 unfold qp4 at h
 refine Uc Tryz.func138 rfl rfl (m:=9) rfl (rs:=[.cell 4 182]) rfl (l:=(kP a.lot.Name a.lot.Yarn a.lot.Dye a.lot.Stock a.known a.hold.Lot a.hold.Order a.hold.Reserved a.hold.Taken a.free n)) rfl ?_
 refine sg fol ((1,.i n)::(kM [])) (kC a.lot.Name a.lot.Yarn a.lot.Dye a.lot.Stock a.known a.hold.Lot a.hold.Order a.hold.Reserved a.hold.Taken a.free (kI [])) ?_
 obtain⟨b,c,h⟩:=bnd h
 refine sq (gq fol [3] (kAf []) (kC a.lot.Name a.lot.Yarn a.lot.Dye a.lot.Stock a.known a.hold.Lot a.hold.Order a.hold.Reserved a.hold.Taken a.free (kC b.lot.Name b.lot.Yarn b.lot.Dye b.lot.Stock b.known b.hold.Lot b.hold.Order b.hold.Reserved b.hold.Taken b.free [])) (ac (cv (qpU a (w64 (0-n)) c)) az) ?_)
 refine Goes.ret ?_
 obtain rfl:=si h
 exact(gw2 [.agg (.str b.lot.Name::(kB b.lot.Yarn b.lot.Dye b.lot.Stock b.known b.hold.Lot b.hold.Order b.hold.Reserved b.hold.Taken b.free))] (FzW.agg (xI.cons (Ub tS) (xI.cons (Ub tS) (xI.cons (Ub tS) (xI.cons (Ub tI) (xI.cons (Ub tB) (xI.cons (Ub tS) (xI.cons (Ub tS) (xI.cons (Ub tI) (xI.cons (Ub tI) (xI.cons (Ub tI) xI.nil))))))))))))
def quE (a:qg) (n:Int):Option Bool:=
 some (decide (n<=(w64 (a.free+a.hold.Reserved))))
theorem qzn (a:qg) (n:Int) {res:Bool} (h:quE a n=some res):zu ZT (.fn 139) (kQ a.lot.Name a.lot.Yarn a.lot.Dye a.lot.Stock a.known a.hold.Lot a.hold.Order a.hold.Reserved a.hold.Taken a.free n) [] (.bool res) []:=by
 unfold quE at h
 refine Uc Tryz.func139 rfl rfl (m:=13) rfl (rs:=[.tmp 4]) rfl (l:=(kP a.lot.Name a.lot.Yarn a.lot.Dye a.lot.Stock a.known a.hold.Lot a.hold.Order a.hold.Reserved a.hold.Taken a.free n)) rfl ?_
 refine sg fol ((1,.i n)::(kAG [])) (kC a.lot.Name a.lot.Yarn a.lot.Dye a.lot.Stock a.known a.hold.Lot a.hold.Order a.hold.Reserved a.hold.Taken a.free []) ?_
 refine sh fol [(4,.bool (decide (n<=(w64 (a.free+a.hold.Reserved)))))] ?_
 refine Goes.ret ?_
 obtain rfl:=si h
 exact(gw2 [.bool (decide (n<=(w64 (a.free+a.hold.Reserved))))] (Ub tB))
def qtx (a:qg) (n:Int):Option qg:=
 some (⟨(⟨a.lot.Name,a.lot.Yarn,a.lot.Dye,w64 (a.lot.Stock-n)⟩:zY),a.known,(⟨a.hold.Lot,a.hold.Order,(if(w64 (a.hold.Reserved-n))>0 then(w64 (a.hold.Reserved-n))else 0),w64 (a.hold.Taken+n)⟩:qE),a.free⟩:qg)
theorem qya (a:qg) (n:Int) {res:qg} (h:qtx a n=some res):zu ZT (.fn 140) (kQ a.lot.Name a.lot.Yarn a.lot.Dye a.lot.Stock a.known a.hold.Lot a.hold.Order a.hold.Reserved a.hold.Taken a.free n) [] (.agg (.str res.lot.Name::(kB res.lot.Yarn res.lot.Dye res.lot.Stock res.known res.hold.Lot res.hold.Order res.hold.Reserved res.hold.Taken res.free))) []:=by
 unfold qtx at h
 refine Uc Tryz.func140 rfl rfl (m:=28) rfl (rs:=[.cell 4 182]) rfl (l:=(kP a.lot.Name a.lot.Yarn a.lot.Dye a.lot.Stock a.known a.hold.Lot a.hold.Order a.hold.Reserved a.hold.Taken a.free n)) rfl ?_
 refine sg fol ((1,.i n)::(kM [])) (kC a.lot.Name a.lot.Yarn a.lot.Dye a.lot.Stock a.known a.hold.Lot a.hold.Order a.hold.Reserved a.hold.Taken a.free (kI [])) ?_
 refine sg fol ((1,.i n)::(kM [])) (kC a.lot.Name a.lot.Yarn a.lot.Dye (w64 (a.lot.Stock-n)) a.known a.hold.Lot a.hold.Order a.hold.Reserved a.hold.Taken a.free (kI [])) ?_
 refine sg fol ((1,.i n)::(kM [])) (kC a.lot.Name a.lot.Yarn a.lot.Dye (w64 (a.lot.Stock-n)) a.known a.hold.Lot a.hold.Order a.hold.Reserved (w64 (a.hold.Taken+n)) a.free (kI [])) ?_
 refine sg fol (kM []) (kC a.lot.Name a.lot.Yarn a.lot.Dye (w64 (a.lot.Stock-n)) a.known a.hold.Lot a.hold.Order (if(w64 (a.hold.Reserved-n))>0 then(w64 (a.hold.Reserved-n))else 0) (w64 (a.hold.Taken+n)) a.free (kI [])) ?_
 refine sg fol (kAf []) (kC a.lot.Name a.lot.Yarn a.lot.Dye (w64 (a.lot.Stock-n)) a.known a.hold.Lot a.hold.Order (if(w64 (a.hold.Reserved-n))>0 then(w64 (a.hold.Reserved-n))else 0) (w64 (a.hold.Taken+n)) a.free (kC a.lot.Name a.lot.Yarn a.lot.Dye (w64 (a.lot.Stock-n)) a.known a.hold.Lot a.hold.Order (if(w64 (a.hold.Reserved-n))>0 then(w64 (a.hold.Reserved-n))else 0) (w64 (a.hold.Taken+n)) a.free [])) ?_
 refine Goes.ret ?_
 obtain rfl:=si h
 exact(gw2 [.agg (.str a.lot.Name::(kB a.lot.Yarn a.lot.Dye (w64 (a.lot.Stock-n)) a.known a.hold.Lot a.hold.Order (if(w64 (a.hold.Reserved-n))>0 then(w64 (a.hold.Reserved-n))else 0) (w64 (a.hold.Taken+n)) a.free))] (FzW.agg (xI.cons (Ub tS) (xI.cons (Ub tS) (xI.cons (Ub tS) (xI.cons (Ub tI) (xI.cons (Ub tB) (xI.cons (Ub tS) (xI.cons (Ub tS) (xI.cons (Ub tI) (xI.cons (Ub tI) (xI.cons (Ub tI) xI.nil))))))))))))
def quK (a:qg) (n:Int):Option Bool:=
 some (decide (n<=a.hold.Taken))
theorem qzh (a:qg) (n:Int) {res:Bool} (h:quK a n=some res):zu ZT (.fn 141) (kQ a.lot.Name a.lot.Yarn a.lot.Dye a.lot.Stock a.known a.hold.Lot a.hold.Order a.hold.Reserved a.hold.Taken a.free n) [] (.bool res) []:=by
 unfold quK at h
 refine Uc Tryz.func141 rfl rfl (m:=10) rfl (rs:=[.tmp 4]) rfl (l:=(kP a.lot.Name a.lot.Yarn a.lot.Dye a.lot.Stock a.known a.hold.Lot a.hold.Order a.hold.Reserved a.hold.Taken a.free n)) rfl ?_
 refine sg fol ((1,.i n)::(kAG [])) (kC a.lot.Name a.lot.Yarn a.lot.Dye a.lot.Stock a.known a.hold.Lot a.hold.Order a.hold.Reserved a.hold.Taken a.free []) ?_
 refine sh fol [(4,.bool (decide (n<=a.hold.Taken)))] ?_
 refine Goes.ret ?_
 obtain rfl:=si h
 exact(gw2 [.bool (decide (n<=a.hold.Taken))] (Ub tB))
def qpQ (a:qg) (n:Int):Option qg:=
 some (⟨(⟨a.lot.Name,a.lot.Yarn,a.lot.Dye,w64 (a.lot.Stock+n)⟩:zY),a.known,(⟨a.hold.Lot,a.hold.Order,a.hold.Reserved,w64 (a.hold.Taken-n)⟩:qE),a.free⟩:qg)
theorem qu0 (a:qg) (n:Int) {res:qg} (h:qpQ a n=some res):zu ZT (.fn 142) (kQ a.lot.Name a.lot.Yarn a.lot.Dye a.lot.Stock a.known a.hold.Lot a.hold.Order a.hold.Reserved a.hold.Taken a.free n) [] (.agg (.str res.lot.Name::(kB res.lot.Yarn res.lot.Dye res.lot.Stock res.known res.hold.Lot res.hold.Order res.hold.Reserved res.hold.Taken res.free))) []:=by
 unfold qpQ at h
 refine Uc Tryz.func142 rfl rfl (m:=20) rfl (rs:=[.cell 4 182]) rfl (l:=(kP a.lot.Name a.lot.Yarn a.lot.Dye a.lot.Stock a.known a.hold.Lot a.hold.Order a.hold.Reserved a.hold.Taken a.free n)) rfl ?_
 refine sg fol ((1,.i n)::(kM [])) (kC a.lot.Name a.lot.Yarn a.lot.Dye a.lot.Stock a.known a.hold.Lot a.hold.Order a.hold.Reserved a.hold.Taken a.free (kI [])) ?_
 refine sg fol ((1,.i n)::(kM [])) (kC a.lot.Name a.lot.Yarn a.lot.Dye (w64 (a.lot.Stock+n)) a.known a.hold.Lot a.hold.Order a.hold.Reserved a.hold.Taken a.free (kI [])) ?_
 refine sg fol (kM []) (kC a.lot.Name a.lot.Yarn a.lot.Dye (w64 (a.lot.Stock+n)) a.known a.hold.Lot a.hold.Order a.hold.Reserved (w64 (a.hold.Taken-n)) a.free (kI [])) ?_
 refine sg fol (kAf []) (kC a.lot.Name a.lot.Yarn a.lot.Dye (w64 (a.lot.Stock+n)) a.known a.hold.Lot a.hold.Order a.hold.Reserved (w64 (a.hold.Taken-n)) a.free (kC a.lot.Name a.lot.Yarn a.lot.Dye (w64 (a.lot.Stock+n)) a.known a.hold.Lot a.hold.Order a.hold.Reserved (w64 (a.hold.Taken-n)) a.free [])) ?_
 refine Goes.ret ?_
 obtain rfl:=si h
 exact(gw2 [.agg (.str a.lot.Name::(kB a.lot.Yarn a.lot.Dye (w64 (a.lot.Stock+n)) a.known a.hold.Lot a.hold.Order a.hold.Reserved (w64 (a.hold.Taken-n)) a.free))] (FzW.agg (xI.cons (Ub tS) (xI.cons (Ub tS) (xI.cons (Ub tS) (xI.cons (Ub tI) (xI.cons (Ub tB) (xI.cons (Ub tS) (xI.cons (Ub tS) (xI.cons (Ub tI) (xI.cons (Ub tI) (xI.cons (Ub tI) xI.nil))))))))))))
def qne:Option Unit:=
 some ()
theorem qeG {res:Unit} (h:qne=some res):zu ZT (.fn 78) [] [] (fm1) []:=by
 unfold qne at h
 refine Uc Tryz.func78 rfl rfl (m:=8) rfl (rs:=[.tmp 0]) rfl (l:=[]) rfl ?_
 refine sh fol [] ?_
 refine sg fol [(0,.map 0)] [.map kAQ [.agg [.func (.func 132) [] [],.func (.func 133) [] []],.agg [.func (.func 134) [] [],.func (.func 135) [] []],.agg [.func (.func 137) [] [],.func (.func 138) [] []],.agg [.func (.func 139) [] [],.func (.func 140) [] []],.agg [.func (.func 141) [] [],.func (.func 142) [] []]]] ?_
 refine Goes.ret ?_
 obtain rfl:=si h
 exact(gw2 [.map 0] (FzW.of (by kernel_rfl)))
def qoB (N:Nat) (a:Str):Option Int:=
 (if(!(a==[]))=true then
 (qoG N a).bind fun b=>
 (qhS (!b) 8).bind fun c=>
 some c
 else
 (qhS false 8).bind fun d=>
 some d:Option Int).bind fun e=>
 some e
theorem qve (N:Nat) (b:Str) {res:Int} (h:qoB N b=some res):zu ZT (.fn 79) [.str b] [] (.i res) []:=by
 unfold qoB at h
 refine Uc Tryz.func79 rfl rfl (m:=11) rfl (rs:=[.tmp 2]) rfl (l:=[(0,.str b)]) rfl ?_
 refine sh fol [(0,.str b)] ?_
 refine sq ?_
 obtain⟨g,a,h⟩:=bnd h
 refine Goes.cut (s':=(ofG 11 (kAl g),[])) ?_ ?_
 ·rcases wyB a with⟨f,a⟩|⟨f,a⟩
  ·obtain⟨j,c,a⟩:=bnd a
   obtain⟨k,d,a⟩:=bnd a
   obtain rfl:=si a
   exact tr fol [2,4,7] (kAl k) (ac (gw f) (ac (cv (quX N b c)) (ac (cv (qeL (!j) 8 d)) az)))
  obtain⟨n,e,a⟩:=bnd a
  obtain rfl:=si a
  exact tr fol [2,7] (kAl n) (ac (gw f) (ac (cv (qeL false 8 e)) az))
 refine Goes.ret ?_
 obtain rfl:=si h
 exact(gw2 [.i g] (Ub tI))
def qoz (N:Nat) (e:zi):Option Int:=
 ((qne).bind fun t=>
 if(e.Kind==[114,101,99,101,105,118,101])=true then
 some true
 else
 if(e.Kind==[114,101,115,101,114,118,101])=true then
 some true
 else
 if(e.Kind==[114,101,108,101,97,115,101])=true then
 some true
 else
 if(e.Kind==[116,97,107,101])=true then
 some true
 else
 if(e.Kind==[114,101,116,117,114,110])=true then
 some true
 else
 some false:Option Bool).bind fun p=>
 (qhS (!p) 13).bind fun q=>
 (qmg e.Day 0 99999).bind fun f=>
 (qmg e.Amount 1 999999999).bind fun g=>
 (qnb N e.Lot).bind fun h=>
 (qjz N ([q,f,g,h]:List Int)).bind fun b=>
 if(!decide (b=0))=true then
 some b
 else
 if(e.Kind==[114,101,99,101,105,118,101])=true then
 (qnb N e.Yarn).bind fun i=>
 (qoB N e.Dye).bind fun j=>
 (qhS (!(e.Order==[])) 1).bind fun k=>
 (qjz N ([i,j,k]:List Int)).bind fun l=>
 some l
 else
 ((qnb N e.Order).bind fun a=>
 if(!(e.Yarn==[]))=true then
 (qhS true 1).bind fun c=>
 (qjz N ([a,c]:List Int)).bind fun m=>
 some (a,c,m)
 else
 (qhS (!(e.Dye==[])) 1).bind fun d=>
 (qjz N ([a,d]:List Int)).bind fun n=>
 some (a,d,n):Option (Int×Int×Int)).bind fun(r,s,o)=>
 some o
theorem qyn (N:Nat) (e:zi) {res:Int} (h:qoz N e=some res):zu ZT (.fn 30) [.agg (kA e.Kind e.Day e.Lot e.Amount e.Yarn e.Dye e.Order)] [] (.i res) []:=by
 unfold qoz at h
 refine Uc Tryz.func30 rfl rfl (m:=59) rfl (rs:=[.tmp 2]) rfl (l:=[(0,.agg [.str e.Kind,.i e.Day,.str e.Lot,.i e.Amount,.str e.Yarn,.str e.Dye,.str e.Order])]) rfl ?_
 refine sg fol (kAM []) (kD e.Kind e.Day e.Lot e.Amount e.Yarn e.Dye e.Order []) ?_
 refine sq ?_
 obtain⟨Y,a,h⟩:=bnd h
 refine Goes.cutS (s':=(ofG 59 (kAM [(4,.bool Y)]),(kD e.Kind e.Day e.Lot e.Amount e.Yarn e.Dye e.Order []))) ?_ ?_
 ·obtain⟨Z,g,a⟩:=bnd a
  rcases wyB a with⟨u,a⟩|⟨u,a⟩
  ·obtain rfl:=si a
   exact qgY.sub (qgY.rq fol [0,3] (kAM kAo) (kD e.Kind e.Day e.Lot e.Amount e.Yarn e.Dye e.Order [.cells [.func (.func 132) [] [],.func (.func 133) [] []]]) (ac (cv (qeG g)) (ac (hs (.done (qiU ZT 143 (fm1) (.str e.Kind) true) (.tuple [.agg [.func (.func 132) [] [],.func (.func 133) [] []],.bool true])) (qBo qsC [[114,101,99,101,105,118,101],[114,101,115,101,114,118,101],[114,101,108,101,97,115,101],[116,97,107,101],[114,101,116,117,114,110]] (qjE u) rfl)) az))) (Sub.norm [] [some 0] rfl rfl (.kp (.keep (.same nB) .nil)) (.kb rfl (.same sn) .nil))
  rcases wyB a with⟨J,a⟩|⟨J,a⟩
  ·obtain rfl:=si a
   exact qgY.sub (qgY.rq fol [0,3] (kAM kAo) (kD e.Kind e.Day e.Lot e.Amount e.Yarn e.Dye e.Order [.cells [.func (.func 134) [] [],.func (.func 135) [] []]]) (ac (cv (qeG g)) (ac (hs (.done (qiU ZT 143 (fm1) (.str e.Kind) true) (.tuple [.agg [.func (.func 134) [] [],.func (.func 135) [] []],.bool true])) (qBo qsC [[114,101,99,101,105,118,101],[114,101,115,101,114,118,101],[114,101,108,101,97,115,101],[116,97,107,101],[114,101,116,117,114,110]] (xw u (qjE J)) rfl)) az))) (Sub.norm [] [some 0] rfl rfl (.kp (.keep (.same nB) .nil)) (.kb rfl (.same sn) .nil))
  rcases wyB a with⟨K,a⟩|⟨K,a⟩
  ·obtain rfl:=si a
   exact qgY.sub (qgY.rq fol [0,3] (kAM kAo) (kD e.Kind e.Day e.Lot e.Amount e.Yarn e.Dye e.Order [.cells [.func (.func 137) [] [],.func (.func 138) [] []]]) (ac (cv (qeG g)) (ac (hs (.done (qiU ZT 143 (fm1) (.str e.Kind) true) (.tuple [.agg [.func (.func 137) [] [],.func (.func 138) [] []],.bool true])) (qBo qsC [[114,101,99,101,105,118,101],[114,101,115,101,114,118,101],[114,101,108,101,97,115,101],[116,97,107,101],[114,101,116,117,114,110]] (xw u (xw J (qjE K))) rfl)) az))) (Sub.norm [] [some 0] rfl rfl (.kp (.keep (.same nB) .nil)) (.kb rfl (.same sn) .nil))
  rcases wyB a with⟨Q,a⟩|⟨Q,a⟩
  ·obtain rfl:=si a
   exact qgY.sub (qgY.rq fol [0,3] (kAM kAo) (kD e.Kind e.Day e.Lot e.Amount e.Yarn e.Dye e.Order [.cells [.func (.func 139) [] [],.func (.func 140) [] []]]) (ac (cv (qeG g)) (ac (hs (.done (qiU ZT 143 (fm1) (.str e.Kind) true) (.tuple [.agg [.func (.func 139) [] [],.func (.func 140) [] []],.bool true])) (qBo qsC [[114,101,99,101,105,118,101],[114,101,115,101,114,118,101],[114,101,108,101,97,115,101],[116,97,107,101],[114,101,116,117,114,110]] (xw u (xw J (xw K (qjE Q)))) rfl)) az))) (Sub.norm [] [some 0] rfl rfl (.kp (.keep (.same nB) .nil)) (.kb rfl (.same sn) .nil))
  rcases wyB a with⟨T,a⟩|⟨T,a⟩
  ·obtain rfl:=si a
   exact qgY.sub (qgY.rq fol [0,3] (kAM kAo) (kD e.Kind e.Day e.Lot e.Amount e.Yarn e.Dye e.Order [.cells [.func (.func 141) [] [],.func (.func 142) [] []]]) (ac (cv (qeG g)) (ac (hs (.done (qiU ZT 143 (fm1) (.str e.Kind) true) (.tuple [.agg [.func (.func 141) [] [],.func (.func 142) [] []],.bool true])) (qBo qsC [[114,101,99,101,105,118,101],[114,101,115,101,114,118,101],[114,101,108,101,97,115,101],[116,97,107,101],[114,101,116,117,114,110]] (xw u (xw J (xw K (xw Q (qjE T))))) rfl)) az))) (Sub.norm [] [some 0] rfl rfl (.kp (.keep (.same nB) .nil)) (.kb rfl (.same sn) .nil))
  obtain rfl:=si a
  exact qgY.sub (qgY.rq fol [0,3] (kAM [(4,.bool false)]) (kD e.Kind e.Day e.Lot e.Amount e.Yarn e.Dye e.Order [.cells [.nilfunc,.nilfunc]]) (ac (cv (qeG g)) (ac (hs (.done (qiU ZT 143 (fm1) (.str e.Kind) true) (.tuple [.agg [.nilfunc,.nilfunc],.bool false])) (qH7 qsC [[114,101,99,101,105,118,101],[114,101,115,101,114,118,101],[114,101,108,101,97,115,101],[116,97,107,101],[114,101,116,117,114,110]] (xw u (xw J (xw K (xw Q (xw T (rfl)))))))) az))) (Sub.norm [] [some 0] rfl rfl (.kp (.keep (.same nB) .nil)) (.kb rfl (.same sn) .nil))
 intro _ hsub
 refine Goes.sub hsub ?_
 refine sq ?_
 obtain⟨n,L,h⟩:=bnd h
 obtain⟨c,v,h⟩:=bnd h
 obtain⟨d,w,h⟩:=bnd h
 obtain⟨f,x,h⟩:=bnd h
 obtain⟨k,y,h⟩:=bnd h
 refine sq (gq fol [2,5,8,11,13] (kAM (kAe k)) (kD e.Kind e.Day e.Lot e.Amount e.Yarn e.Dye e.Order [.cells [.i n,.i c,.i d,.i f]]) (ac (cv (qeL (!Y) 13 L)) (ac (cv (qkS e.Day 0 99999 v)) (ac (cv (qkS e.Amount 1 999999999 w)) (ac (cv (qmj N e.Lot x)) (ac (hs (.call 50 [.slice 1 0 4 4 1] (kD e.Kind e.Day e.Lot e.Amount e.Yarn e.Dye e.Order [.cells [.i n,.i c,.i d,.i f]]) [1] [vl encI ([n,c,d,f]:List Int)] (.i k)) (qma (FzL.cons (Fz.lit rfl rfl (Uh (AllST.cons tI (AllST.cons tI (AllST.cons tI (AllST.cons tI AllST.nil)))))) FzL.nil) (qkd N ([n,c,d,f]:List Int) y) tI rfl)) az))))) ?_)
 refine sh fol (kAM [(5,.i k),(28,.bool (!decide (k=0)))]) ?_
 refine ihB h (fun U h=>?_) (fun U h=>?_)
 ·refine sh fol (kAl k) ?_
  refine Goes.ret ?_
  obtain rfl:=si h
  exact(gw2 [.i k] (Ub tI))
 refine Goes.skip ?_
 refine sq ?_
 refine sh fol (kAM [(32,.bool (e.Kind==[114,101,99,101,105,118,101]))]) ?_
 refine ihB h (fun V h=>?_) (fun V h=>?_)
 ·obtain⟨p,z,h⟩:=bnd h
  obtain⟨q,A,h⟩:=bnd h
  obtain⟨r,B,h⟩:=bnd h
  obtain⟨C,D,h⟩:=bnd h
  refine sq (gq fol [2,5,9,11] (kAl C) (kD e.Kind e.Day e.Lot e.Amount e.Yarn e.Dye e.Order [.cells [.i n,.i c,.i d,.i f],.cells [.i p,.i q,.i r]]) (ac (cv (qmj N e.Yarn z)) (ac (cv (qve N e.Dye A)) (ac (cv (qeL (!(e.Order==[])) 1 B)) (ac (hs (.call 50 [.slice 2 0 3 3 1] (kD e.Kind e.Day e.Lot e.Amount e.Yarn e.Dye e.Order [.cells [.i n,.i c,.i d,.i f],.cells [.i p,.i q,.i r]]) [2] [vl encI ([p,q,r]:List Int)] (.i C)) (qma (FzL.cons (Fz.lit rfl rfl (Uh (AllST.cons tI (AllST.cons tI (AllST.cons tI AllST.nil))))) FzL.nil) (qkd N ([p,q,r]:List Int) D) tI rfl)) az)))) ?_)
  refine Goes.ret ?_
  obtain rfl:=si h
  exact(gw2 [.i C] (Ub tI))
 refine Goes.skip ?_
 refine sq ?_
 obtain⟨⟨W,X,M⟩,b,h⟩:=bnd h
 refine Goes.cut (s':=(ofG 59 (kAl M),(kD e.Kind e.Day e.Lot e.Amount e.Yarn e.Dye e.Order (.cells [.i n,.i c,.i d,.i f]::(kAb W X))))) ?_ ?_
 ·obtain⟨j,o,b⟩:=bnd b
  rcases wyB b with⟨E,b⟩|⟨E,b⟩
  ·obtain⟨s,F,b⟩:=bnd b
   obtain⟨O,G,b⟩:=bnd b
   simp only[ZI,ZP]at b
   obtain⟨rfl,rfl,rfl⟩:=b
   exact qgY.rq fol [2,6,11,13] (kAl O) (kD e.Kind e.Day e.Lot e.Amount e.Yarn e.Dye e.Order (.cells [.i n,.i c,.i d,.i f]::(kAb j s))) (ac (cv (qmj N e.Order o)) (ac (gw E) (ac (cv (qeL true 1 F)) (ac (hs (.call 50 [.slice 2 0 2 2 1] (kD e.Kind e.Day e.Lot e.Amount e.Yarn e.Dye e.Order (.cells [.i n,.i c,.i d,.i f]::(kAb j s))) [2] [vl encI ([j,s]:List Int)] (.i O)) (qma (FzL.cons (Fz.lit rfl rfl (Uh (AllST.cons tI (AllST.cons tI AllST.nil)))) FzL.nil) (qkd N ([j,s]:List Int) G) tI rfl)) az))))
  obtain⟨t,H,b⟩:=bnd b
  obtain⟨P,I,b⟩:=bnd b
  simp only[ZI,ZP]at b
  obtain⟨rfl,rfl,rfl⟩:=b
  exact qgY.rq fol [2,6,11,13] (kAl P) (kD e.Kind e.Day e.Lot e.Amount e.Yarn e.Dye e.Order (.cells [.i n,.i c,.i d,.i f]::(kAb j t))) (ac (cv (qmj N e.Order o)) (ac (gw E) (ac (cv (qeL (!(e.Dye==[])) 1 H)) (ac (hs (.call 50 [.slice 2 0 2 2 1] (kD e.Kind e.Day e.Lot e.Amount e.Yarn e.Dye e.Order (.cells [.i n,.i c,.i d,.i f]::(kAb j t))) [2] [vl encI ([j,t]:List Int)] (.i P)) (qma (FzL.cons (Fz.lit rfl rfl (Uh (AllST.cons tI (AllST.cons tI AllST.nil)))) FzL.nil) (qkd N ([j,t]:List Int) I) tI rfl)) az))))
 try dsimp only at h
 refine Goes.ret ?_
 obtain rfl:=si h
 exact(gw2 [.i M] (Ub tI))
def qpz (N:Nat) (e:zi) (b:List zi):Option Int:=
 (qoz N e).bind fun a=>
 some a
theorem qxL (N:Nat) (e:zi) (b:List zi) {res:Int} (h:qpz N e b=some res):zu ZT (.fn 56) [.agg [.str e.Kind,.i e.Day,.str e.Lot,.i e.Amount,.str e.Yarn,.str e.Dye,.str e.Order],vl jT b] [] (.i res) []:=by
 unfold qpz at h
 refine Uc Tryz.func56 rfl rfl (m:=7) rfl (rs:=[.tmp 4]) rfl (l:=[(0,.agg [.str e.Kind,.i e.Day,.str e.Lot,.i e.Amount,.str e.Yarn,.str e.Dye,.str e.Order]),(1,vl jT b)]) rfl ?_
 refine sg fol (kAG []) (kD e.Kind e.Day e.Lot e.Amount e.Yarn e.Dye e.Order []) ?_
 obtain⟨c,a,h⟩:=bnd h
 refine sq (gr fol [1] (kAj c) (ac (cv (qyn N e a)) az) ?_)
 refine Goes.ret ?_
 obtain rfl:=si h
 exact(gw2 [.i c] (Ub tI))
def qgw (N:Nat) (a:List zi):Nat->Int->Option (Unit⊕Int)
 |0,_=>none
 |K+1,b=>
  if b<(a.length:Int)then
  (idx a b).bind fun d=>
  (cut a 0 b).bind fun e=>
  (qpz N d e).bind fun c=>
  if(!decide (c=0))=true then
  some (.inr c)
  else
  qgw N a K (w64 (b+1))
  else
  some (.inl ())
def qop (N:Nat) (a:List zi) (b:Int):Option Int:=
 if(a.length:Int)>b then
 some 5
 else
 (qgw N a N 0).bind (fun
 |(.inl ())=>
 some 0
 |(.inr c)=>
 some c)
theorem qv7 (N:Nat) (a:List zi) (c:Int) {res:Int} (h:qop N a c=some res):zu ZT (.fn 55) [vl jT a,.i c,.func (.func 56) [] []] [] (.i res) []:=by
 unfold qop at h
 refine Uc Tryz.func55 rfl rfl (m:=31) rfl (rs:=[.tmp 6]) rfl (l:=(kN a [(1,.i c),(2,.func (.func 56) [] [])])) rfl ?_
 refine sh fol (kN a [(1,.i c),(2,.func (.func 56) [] [])]) ?_
 refine sq ?_
 refine sh fol (kN a [(2,.func (.func 56) [] []),(13,.bool (decide ((a.length:Int)>c)))]) ?_
 refine ihD h (fun p h=>?_) (fun p h=>?_)
 ·refine sh fol [(6,.i 5)] ?_
  refine Goes.ret ?_
  obtain rfl:=si h
  exact(gw2 [.i 5] (Ub tI))
 refine Goes.skip ?_
 refine sq ?_
 refine sh fol (kN a [(2,.func (.func 56) [] []),(14,vl jT a),(15,.i (a.length:Int)),(16,.i 0)]) ?_
 refine Goes.block ?_
 obtain⟨k,g3,h⟩:=bnd h
 refine Goes.imp (Q:=fun x s'=>(x= .exit 0/\(.inl ())=k/\Sub s' (ofG 31 [],[]))\/(x= .ret/\ ∃n,(.inr n)=k/\qhA ZT [.tmp 6] (.i n) .ret s')) ?_ ?_
 ·refine Ud (fun M s=> ∃(b:Int),s=(ofG 31 (kN a ((2,.func (.func 56) [] [])::(14,vl jT a)::(kAP (a.length:Int) b []))),[])/\qgw N a M b=some k) ?_ (m:=N) ⟨_,rfl,g3⟩
  rintro M s ⟨b,rfl,g3⟩
  cases M with
  |zero=>simp only[qgw]at g3;cases g3
  |succ M=>
   rw[qgw]at g3
   refine sh fol (kN a ((2,.func (.func 56) [] [])::(14,vl jT a)::(kAP (a.length:Int) b [(17,.bool (decide (b<(a.length:Int))))]))) ?_
   refine sq ?_
   refine ihD g3 (fun q g3=>?_) (fun q g3=>?_)
   ·refine Goes.skip ?_
    refine sq (Goes.block ?_)
    obtain⟨d,e,g3⟩:=bnd g3
    refine sq (gq fol [1,2] (kN a ((2,.func (.func 56) [] [])::(7,.i b)::(8,.ptr 0 0)::(14,vl jT a)::(kAP (a.length:Int) b []))) (kD d.Kind d.Day d.Lot d.Amount d.Yarn d.Dye d.Order []) (ac (iv qFX jT e) (ac (la ag56 jT e) az)) ?_)
    obtain⟨o,f,g3⟩:=bnd g3
    obtain⟨g,j,g3⟩:=bnd g3
    refine sq (gr fol [4,5] (kN a ((2,.func (.func 56) [] [])::(9,.i g)::(14,vl jT a)::(kAP (a.length:Int) b []))) (ac (hs (.done (.opt (qmA ZT 22 (vl jT a) none (some (.i b)) none)) (vl jT o)) (qGy qFX (E:=jT) rfl none (some b) f)) (ac (cv (qxL N d o j)) az)) ?_)
    refine sh fol (kN a ((2,.func (.func 56) [] [])::(9,.i g)::(14,vl jT a)::(kAP (a.length:Int) b [(28,.bool (!decide (g=0)))]))) ?_
    refine ihB g3 (fun r g3=>?_) (fun r g3=>?_)
    ·refine sh fol [(6,.i g)] ?_
     refine Goes.ret ?_
     obtain rfl:=si g3
     exact Or.inr (⟨rfl,_,rfl,(gw2 [.i g] (Ub tI))⟩)
    refine Goes.skip ?_
    refine gh fol (kN a ((2,.func (.func 56) [] [])::(14,vl jT a)::(kAP (a.length:Int) (w64 (b+1)) []))) ?_
    exact⟨M,(ofG 31 (kN a ((2,.func (.func 56) [] [])::(14,vl jT a)::(kAP (a.length:Int) (w64 (b+1)) []))),[]),Nat.lt_succ_self _,(Sub.norm [] [] rfl rfl (.keep (.same (qbl jT _)) (.keep (.same (qbg.func sn sn)) (.keep (.same (qbl jT _)) (.keep (.same nI) (.keep (.same nI) .nil))))) .nil),_,rfl,g3⟩
   refine Goes.exit ?_
   obtain rfl:=si g3
   exact Or.inl (⟨rfl,rfl,(Sub.keep [] rfl rfl)⟩)
 rintro x s' (⟨rfl,rfl,hsub⟩|⟨rfl,t,rfl,hret⟩)
 ·try dsimp only at h
  refine Goes.sub hsub ?_
  refine sh fol [(6,.i 0)] ?_
  refine Goes.ret ?_
  obtain rfl:=si h
  exact(gw2 [.i 0] (Ub tI))
 try dsimp only at h
 obtain rfl:=si h
 exact hret
def qpL (N:Nat) (l:List zi):Option Int:=
 (qop N l 1000).bind fun a=>
 some a
theorem qzu (N:Nat) (l:List zi) {res:Int} (h:qpL N l=some res):zu ZT (.fn 18) [vl jT l] [] (.i res) []:=by
 unfold qpL at h
 refine Uc Tryz.func18 rfl rfl (m:=5) rfl (rs:=[.tmp 2]) rfl (l:=(kN l [])) rfl ?_
 refine sh fol (kN l []) ?_
 obtain⟨b,a,h⟩:=bnd h
 refine sq (gr fol [1] (kAl b) (ac (hs (.call 55 [vl jT l,.i 1000,.func (.func 56) [] []] [] [] [vl jT l,.i 1000,.func (.func 56) [] []] (.i b)) (qb4 (FzL.cons (Ua (jo jT _ (nl rfl))) (FzL.cons (Ua tI) (FzL.cons (Fz.func FzL.nil FzL.nil) FzL.nil))) (qv7 N l 1000 a) tI)) az) ?_)
 refine Goes.ret ?_
 obtain rfl:=si h
 exact(gw2 [.i b] (Ub tI))
def qfP (a:StateT) (lot:Str):Nat->Int->Int->Option Int
 |0,_,_=>none
 |K+1,b,c=>
  if b<(a.Holds.length:Int)then
  (((idx a.Holds b).bind fun d=>
  if(d.Lot==lot)=true then
  some (w64 (c+d.Reserved))
  else
  some c:Option Int)).bind fun e=>
  qfP a lot K (w64 (b+1)) e
  else
  some c
def qnq (N:Nat) (a:StateT) (lot:Str):Option Int:=
 (qfP a lot N 0 0).bind fun b=>
 some b
theorem qvR (N:Nat) (a:StateT) (lot:Str) {res:Int} (h:qnq N a lot=some res):zu ZT (.fn 131) (kAA a.Day a.Lots a.Holds [.str lot]) [] (.i res) []:=by
 unfold qnq at h
 refine Uc Tryz.func131 rfl rfl (m:=25) rfl (rs:=[.tmp 4]) rfl (l:=(kAV a.Day a.Lots a.Holds [(1,.str lot)])) rfl ?_
 refine sg fol ((1,.str lot)::(kAG [])) (kE a.Day a.Lots a.Holds []) ?_
 refine sh fol ((1,.str lot)::(kAG [(5,.i 0)])) ?_
 refine sq ?_
 refine sh fol [(1,.str lot),(5,.i 0),(9,vl qJ a.Holds),(10,.i (a.Holds.length:Int)),(11,.i 0)] ?_
 refine Goes.block ?_
 obtain⟨j,g4,h⟩:=bnd h
 refine Goes.imp (Q:=fun x s'=>(x= .exit 0/\ ∃f,f=j/\Sub s' (ofG 25 (kAe f),[]))) ?_ ?_
 ·refine Goes.sub (s':=(ofG 25 [(1,.str lot),(5,.i 0),(9,vl qJ a.Holds),(10,.i (a.Holds.length:Int)),(11,.i 0)],[])) (Sub.norm [] [] rfl rfl (.keep (.same nS) (.keep (.same nI) (.keep (.same (qbl qJ _)) (.keep (.same nI) (.keep (.same nI) .nil))))) .nil) ?_
  refine Ud (fun M s=> ∃(b:Int) (d:Int),s=(ofG 25 (kAX lot d a.Holds (a.Holds.length:Int) b []),[])/\qfP a lot M b d=some j) ?_ (m:=N) ⟨_,_,rfl,g4⟩
  rintro M s ⟨b,d,rfl,g4⟩
  cases M with
  |zero=>simp only[qfP]at g4;cases g4
  |succ M=>
   rw[qfP]at g4
   refine sh fol (kAX lot d a.Holds (a.Holds.length:Int) b [(12,.bool (decide (b<(a.Holds.length:Int))))]) ?_
   refine sq ?_
   refine ihD g4 (fun k g4=>?_) (fun k g4=>?_)
   ·refine Goes.skip ?_
    refine sq ?_
    obtain⟨n,g7,g4⟩:=bnd g4
    refine Goes.imp (Q:=fun x s'=>(x= .normal/\ ∃g,g=n/\Sub s' (ofG 25 (kAX lot g a.Holds (a.Holds.length:Int) b []),[]))) ?_ ?_
    ·refine Goes.block ?_
     obtain⟨e,c,g7⟩:=bnd g7
     refine sq (gq fol [0,1] [(1,.str lot),(5,.i d),(7,.ptr 0 0),(9,vl qJ a.Holds),(10,.i (a.Holds.length:Int)),(11,.i b)] (kL e.Lot e.Order e.Reserved e.Taken []) (ac (iv qtu qJ c) (ac (la qDy qJ c) az)) ?_)
     refine sh fol [(1,.str lot),(5,.i d),(7,.ptr 0 0),(9,vl qJ a.Holds),(10,.i (a.Holds.length:Int)),(11,.i b),(18,.bool (e.Lot==lot))] ?_
     refine ihB g7 (fun o g7=>?_) (fun o g7=>?_)
     ·refine gh fol (kAX lot (w64 (d+e.Reserved)) a.Holds (a.Holds.length:Int) b []) ?_
      obtain rfl:=si g7
      exact⟨rfl,_,rfl,(Sub.norm [] [] rfl rfl (.keep (.same nS) (.keep (.same nI) (.keep (.same (qbl qJ _)) (.keep (.same nI) (.keep (.same nI) .nil))))) .nil)⟩
     refine Goes.skip ?_
     obtain rfl:=si g7
     exact⟨rfl,_,rfl,(Sub.norm [] [] rfl rfl (.keep (.same nS) (.keep (.same nI) (.drop (.keep (.same (qbl qJ _)) (.keep (.same nI) (.keep (.same nI) .nil)))))) .nil)⟩
    rintro x s' ⟨rfl,g,rfl,hsub⟩
    refine Goes.sub hsub ?_
    refine gh fol (kAX lot g a.Holds (a.Holds.length:Int) (w64 (b+1)) []) ?_
    exact⟨M,(ofG 25 (kAX lot g a.Holds (a.Holds.length:Int) (w64 (b+1)) []),[]),Nat.lt_succ_self _,(Sub.refl _),_,_,rfl,g4⟩
   refine Goes.exit ?_
   obtain rfl:=si g4
   exact⟨rfl,_,rfl,(Sub.keep [5] rfl rfl)⟩
 rintro x s' ⟨rfl,f,rfl,hsub⟩
 refine Goes.sub hsub ?_
 refine sh fol (kAj f) ?_
 refine Goes.ret ?_
 obtain rfl:=si h
 exact(gw2 [.i f] (Ub tI))
def qlA (N:Nat) (a:StateT) (l:zY):Option Int:=
 (qnq N a l.Name).bind fun b=>
 some (w64 (l.Stock-b))
theorem qqc (N:Nat) (a:StateT) (l:zY) {res:Int} (h:qlA N a l=some res):zu ZT (.fn 77) (kAA a.Day a.Lots a.Holds (kAg l.Name l.Yarn l.Dye l.Stock [])) [] (.i res) []:=by
 unfold qlA at h
 refine Uc Tryz.func77 rfl rfl (m:=12) rfl (rs:=[.tmp 4]) rfl (l:=(kAV a.Day a.Lots a.Holds [(1,.agg [.str l.Name,.str l.Yarn,.str l.Dye,.i l.Stock])])) rfl ?_
 refine sg fol (kS []) (kE a.Day a.Lots a.Holds (kX l.Name l.Yarn l.Dye l.Stock [])) ?_
 obtain⟨c,b,h⟩:=bnd h
 refine sq (gr fol [5] (kAj (w64 (l.Stock-c))) (ac (cv (qvR N a l.Name b)) az) ?_)
 refine Goes.ret ?_
 obtain rfl:=si h
 exact(gw2 [.i (w64 (l.Stock-c))] (Ub tI))
def qlw (l:zY) (name:Str):Option Int:=
 (tCmp l.Name name).bind fun a=>
 some a
theorem qse (l:zY) (name:Str) {res:Int} (h:qlw l name=some res):zu ZT (.fn 144) (kAg l.Name l.Yarn l.Dye l.Stock [.str name]) [] (.i res) []:=by
 unfold qlw at h
 refine Uc Tryz.func144 rfl rfl (m:=9) rfl (rs:=[.tmp 4]) rfl (l:=[(0,.agg [.str l.Name,.str l.Yarn,.str l.Dye,.i l.Stock]),(1,.str name)]) rfl ?_
 refine sg fol ((1,.str name)::(kAG [])) (kX l.Name l.Yarn l.Dye l.Stock []) ?_
 obtain⟨b,a,h⟩:=bnd h
 refine sq (gr fol [3] (kAj b) (ac (cv (qCn l.Name name a)) az) ?_)
 refine Goes.ret ?_
 obtain rfl:=si h
 exact(gw2 [.i b] (Ub tI))
def xH (b:List zY) (c:Str):Nat->Int->Int->Option Int
 |0,_,_=>none
 |K+1,d,a=>
  if a<d then
  (((idx b (w64 (qEb .u64 (IntKind.wrap .u64 (w64 (a+d))) 1))).bind fun f=>
  (qlw f c).bind fun e=>
  if e<0 then
  some (w64 ((w64 (qEb .u64 (IntKind.wrap .u64 (w64 (a+d))) 1))+1),d)
  else
  some (a,w64 (qEb .u64 (IntKind.wrap .u64 (w64 (a+d))) 1)):Option (Int×Int))).bind fun(g,h)=>
  xH b c K h g
  else
  some a
def qge (N:Nat) (a:List zY) (b:Str):Option (Int×Bool):=
 (xH a b N (a.length:Int) 0).bind fun c=>
 (if c<(a.length:Int)then
 (idx a c).bind fun d=>
 (qlw d b).bind fun e=>
 some (decide (e=0))
 else
 some false:Option Bool).bind fun f=>
 some (c,f)
theorem qpD (N:Nat) (a:List zY) (c:Str) {res:Int×Bool} (h:qge N a c=some res):zu ZT (.fn 143) [vl qN a,.str c,.func (.func 144) [] []] [] (.tuple [.i res.1,.bool res.2]) []:=by
 unfold qge at h
 refine Uc Tryz.func143 rfl rfl (m:=49) rfl (rs:=[.tmp 6,.tmp 7]) rfl (l:=(kU a [(1,.str c),(2,.func (.func 144) [] [])])) rfl ?_
 refine sh fol (kU a [(1,.str c),(2,.func (.func 144) [] [])]) ?_
 refine sh fol (kU a [(1,.str c),(2,.func (.func 144) [] []),(8,.i (a.length:Int))]) ?_
 refine sh fol (kU a [(1,.str c),(2,.func (.func 144) [] []),(8,.i (a.length:Int)),(9,.i 0),(10,.i (a.length:Int))]) ?_
 refine sq (Goes.block ?_)
 obtain⟨y,g4,h⟩:=bnd h
 refine Goes.imp (Q:=fun x s'=>(x= .exit 0/\ ∃j,j=y/\Sub s' (ofG 49 (kU a [(1,.str c),(2,.func (.func 144) [] []),(8,.i (a.length:Int)),(9,.i j)]),[]))) ?_ ?_
 ·refine Ud (fun M s=> ∃(d:Int) (e:Int),s=(ofG 49 (kU a ((1,.str c)::(2,.func (.func 144) [] [])::(kAi (a.length:Int) e d []))),[])/\xH a c M d e=some y) ?_ (m:=N) ⟨_,_,rfl,g4⟩
  rintro M s ⟨d,e,rfl,g4⟩
  cases M with
  |zero=>simp only[xH]at g4;cases g4
  |succ M=>
   rw[xH]at g4
   refine sq ?_
   refine sh fol (kU a ((1,.str c)::(2,.func (.func 144) [] [])::(kAi (a.length:Int) e d [(17,.bool (decide (e<d)))]))) ?_
   refine ihD g4 (fun z g4=>?_) (fun z g4=>?_)
   ·refine Goes.skip ?_
    obtain⟨A,g8,g4⟩:=bnd g4
    refine Goes.imp (Q:=fun x s'=>(x= .normal/\ ∃q r,(q,r)=A/\Sub s' (ofG 49 (kU a ((1,.str c)::(2,.func (.func 144) [] [])::(kAi (a.length:Int) q r []))),[]))) ?_ ?_
    ·refine Goes.block ?_
     refine sh fol (kU a ((1,.str c)::(2,.func (.func 144) [] [])::(kAi (a.length:Int) e d [(11,.i (w64 (qEb .u64 (IntKind.wrap .u64 (w64 (e+d))) 1)))]))) ?_
     obtain⟨B,g,g8⟩:=bnd g8
     obtain⟨t,k,g8⟩:=bnd g8
     refine sq (gr fol [3,4,6] (kU a ((1,.str c)::(2,.func (.func 144) [] [])::(kAi (a.length:Int) e d [(11,.i (w64 (qEb .u64 (IntKind.wrap .u64 (w64 (e+d))) 1))),(31,.bool (decide (t<0)))]))) (ac (iv qzZ qN g) (ac (la qC3 qN g) (ac (cv (qse B c k)) az))) ?_)
     refine ihD g8 (fun u g8=>?_) (fun u g8=>?_)
     ·refine gh fol (kU a ((1,.str c)::(2,.func (.func 144) [] [])::(kAi (a.length:Int) (w64 ((w64 (qEb .u64 (IntKind.wrap .u64 (w64 (e+d))) 1))+1)) d []))) ?_
      obtain rfl:=si g8
      exact⟨rfl,_,_,rfl,(Sub.refl _)⟩
     refine gh fol (kU a ((1,.str c)::(2,.func (.func 144) [] [])::(kAi (a.length:Int) e (w64 (qEb .u64 (IntKind.wrap .u64 (w64 (e+d))) 1)) []))) ?_
     obtain rfl:=si g8
     exact⟨rfl,_,_,rfl,(Sub.refl _)⟩
    rintro x s' ⟨rfl,q,r,rfl,hsub⟩
    try dsimp only at g4
    exact⟨M,(ofG 49 (kU a ((1,.str c)::(2,.func (.func 144) [] [])::(kAi (a.length:Int) q r []))),[]),Nat.lt_succ_self _,(hsub.trans (Sub.refl _)),_,_,rfl,g4⟩
   refine Goes.exit ?_
   obtain rfl:=si g4
   exact⟨rfl,_,rfl,(Sub.keep [0,1,2,8,9] rfl rfl)⟩
 rintro x s' ⟨rfl,j,rfl,hsub⟩
 refine Goes.sub hsub ?_
 refine sq ?_
 obtain⟨p,b,h⟩:=bnd h
 refine Goes.cut (s':=(ofG 49 [(6,.i j),(7,.bool p)],[])) ?_ ?_
 ·rcases wyD b with⟨n,b⟩|⟨n,b⟩
  ·obtain⟨v,f,b⟩:=bnd b
   obtain⟨w,o,b⟩:=bnd b
   obtain rfl:=si b
   exact tr fol [4,8,9,11] [(6,.i j),(7,.bool (decide (w=0)))] (ac (gw n) (ac (iv qzZ qN f) (ac (la qC3 qN f) (ac (cv (qse v c o)) az))))
  obtain rfl:=si b
  exact tr fol [4] [(6,.i j),(7,.bool false)] (ac (gw n) az)
 refine Goes.ret ?_
 obtain rfl:=si h
 exact(gw2 [.i j,.bool p] (FzW.tuple (xI.cons (Ub tI) (xI.cons (Ub tB) xI.nil))))
def qjh (N:Nat) (b:StateT) (name:Str):Option (Int×Bool):=
 (qge N b.Lots name).bind fun a=>
 some (a.1,a.2)
theorem qq0 (N:Nat) (a:StateT) (name:Str) {res:Int×Bool} (h:qjh N a name=some res):zu ZT (.fn 80) (kAA a.Day a.Lots a.Holds [.str name]) [] (.tuple [.i res.1,.bool res.2]) []:=by
 unfold qjh at h
 refine Uc Tryz.func80 rfl rfl (m:=12) rfl (rs:=[.tmp 4,.tmp 5]) rfl (l:=(kAV a.Day a.Lots a.Holds [(1,.str name)])) rfl ?_
 refine sg fol ((1,.str name)::(kAG [])) (kE a.Day a.Lots a.Holds []) ?_
 obtain⟨b,c,h⟩:=bnd h
 refine sq (gr fol [3] [(4,.i b.1),(5,.bool b.2)] (ac (hs (.call 143 [vl qN a.Lots,.str name,.func (.func 144) [] []] [] [] [vl qN a.Lots,.str name,.func (.func 144) [] []] (.tuple [.i b.1,.bool b.2])) (qb4 (FzL.cons (Ua (jo qN _ (nl rfl))) (FzL.cons (Ua tS) (FzL.cons (Fz.func FzL.nil FzL.nil) FzL.nil))) (qpD N a.Lots name c) (Still.tuple (AllST.cons tI (AllST.cons tB AllST.nil))))) az) ?_)
 refine Goes.ret ?_
 obtain rfl:=si h
 exact(gw2 [.i b.1,.bool b.2] (FzW.tuple (xI.cons (Ub tI) (xI.cons (Ub tB) xI.nil))))
def qme (a:qE):Option KeyT:=
 some (⟨a.Lot,a.Order⟩:KeyT)
theorem qpC (a:qE) {res:KeyT} (h:qme a=some res):zu ZT (.fn 125) [.agg [.str a.Lot,.str a.Order,.i a.Reserved,.i a.Taken]] [] (.agg [.str res.lot,.str res.order]) []:=by
 unfold qme at h
 refine Uc Tryz.func125 rfl rfl (m:=8) rfl (rs:=[.cell 2 190]) rfl (l:=[(0,.agg [.str a.Lot,.str a.Order,.i a.Reserved,.i a.Taken])]) rfl ?_
 refine sg fol (kAM [(2,.ptr 1 0)]) (kL a.Lot a.Order a.Reserved a.Taken [.cells [.str [],.str []]]) ?_
 refine sg fol [(2,.ptr 1 0)] (kL a.Lot a.Order a.Reserved a.Taken [.cells [.str a.Lot,.str a.Order]]) ?_
 refine Goes.ret ?_
 obtain rfl:=si h
 exact(gw2 [.agg [.str a.Lot,.str a.Order]] (FzW.agg (xI.cons (Ub tS) (xI.cons (Ub tS) xI.nil))))
def qiK (a:qE) (b:qg):Option Bool:=
 (qme a).bind fun c=>
 (qme b.hold).bind fun d=>
 some ((c.lot==d.lot)&&((c.order==d.order)&&true))
theorem qsI (d:qE) (c:qg) {res:Bool} (h:qiK d c=some res):zu ZT (.fn 175) (kAH d.Lot d.Order d.Reserved d.Taken [.fptr [.str c.lot.Name,.str c.lot.Yarn,.str c.lot.Dye,.i c.lot.Stock,.bool c.known,.str c.hold.Lot,.str c.hold.Order,.i c.hold.Reserved,.i c.hold.Taken,.i c.free] 0]) [] (.bool res) []:=by
 unfold qiK at h
 refine Uc Tryz.func175 rfl rfl (m:=10) rfl (rs:=[.tmp 3]) rfl (l:=[(0,.agg [.str d.Lot,.str d.Order,.i d.Reserved,.i d.Taken]),(1,.fptr [.str c.lot.Name,.str c.lot.Yarn,.str c.lot.Dye,.i c.lot.Stock,.bool c.known,.str c.hold.Lot,.str c.hold.Order,.i c.hold.Reserved,.i c.hold.Taken,.i c.free] 0)]) rfl ?_
 refine sg fol ((1,.fptr [.str c.lot.Name,.str c.lot.Yarn,.str c.lot.Dye,.i c.lot.Stock,.bool c.known,.str c.hold.Lot,.str c.hold.Order,.i c.hold.Reserved,.i c.hold.Taken,.i c.free] 0)::(kAG [])) (kL d.Lot d.Order d.Reserved d.Taken []) ?_
 obtain⟨f,j,h⟩:=bnd h
 obtain⟨g,k,h⟩:=bnd h
 refine sq (gr fol [1,4,5] (kAm ((f.lot==g.lot)&&((f.order==g.order)&&true))) (ac (cv (qpC d j)) (ac (cv (qpC c.hold k)) (ac (hs (.done (.opt (qxH ZT .eql 190 (.tmp 5) (.tmp 8) (.agg [.str f.lot,.str f.order]) (.agg [.str g.lot,.str g.order]))) (.bool ((f.lot==g.lot)&&((f.order==g.order)&&true)))) (qIV qHO (e:=((f.lot==g.lot)&&((f.order==g.order)&&true))) (.cons (a:= .str f.lot) (b:= .str g.lot) rfl (by kernel_rfl) (by kernel_rfl) (by kernel_rfl) (.cons (a:= .str f.order) (b:= .str g.order) rfl (by kernel_rfl) (by kernel_rfl) (by kernel_rfl) .nil)))) az))) ?_)
 refine Goes.ret ?_
 obtain rfl:=si h
 exact(gw2 [.bool ((f.lot==g.lot)&&((f.order==g.order)&&true))] (Ub tB))
def xG (a:List qE) (b:qg):Nat->Int->Option (Unit⊕Int)
 |0,_=>none
 |K+1,c=>
  if c<(a.length:Int)then
  (idx a c).bind fun d=>
  (qiK d b).bind fun e=>
  if e=true then
  some (.inr c)
  else
  xG a b K (w64 (c+1))
  else
  some (.inl ())
def qiL (N:Nat) (a:List qE) (b:qg):Option Int:=
 (xG a b N 0).bind (fun
 |(.inl ())=>
 some (-1)
 |(.inr c)=>
 some c)
theorem qsR (N:Nat) (b:List qE) (a:qg) {res:Int} (h:qiL N b a=some res):zu ZT (.fn 174) [vl qJ b,.func (.func 175) [] [.fptr [.str a.lot.Name,.str a.lot.Yarn,.str a.lot.Dye,.i a.lot.Stock,.bool a.known,.str a.hold.Lot,.str a.hold.Order,.i a.hold.Reserved,.i a.hold.Taken,.i a.free] 0]] [] (.i res) []:=by
 unfold qiL at h
 refine Uc Tryz.func174 rfl rfl (m:=19) rfl (rs:=[.tmp 4]) rfl (l:=(kAD b [(1,.func (.func 175) [] [.fptr [.str a.lot.Name,.str a.lot.Yarn,.str a.lot.Dye,.i a.lot.Stock,.bool a.known,.str a.hold.Lot,.str a.hold.Order,.i a.hold.Reserved,.i a.hold.Taken,.i a.free] 0])])) rfl ?_
 refine sh fol (kAD b [(1,.func (.func 175) [] [.fptr [.str a.lot.Name,.str a.lot.Yarn,.str a.lot.Dye,.i a.lot.Stock,.bool a.known,.str a.hold.Lot,.str a.hold.Order,.i a.hold.Reserved,.i a.hold.Taken,.i a.free] 0])]) ?_
 refine sq ?_
 refine sh fol (kAD b ((1,.func (.func 175) [] [.fptr [.str a.lot.Name,.str a.lot.Yarn,.str a.lot.Dye,.i a.lot.Stock,.bool a.known,.str a.hold.Lot,.str a.hold.Order,.i a.hold.Reserved,.i a.hold.Taken,.i a.free] 0])::(kAn (b.length:Int)))) ?_
 refine Goes.block ?_
 obtain⟨g,g2,h⟩:=bnd h
 refine Goes.imp (Q:=fun x s'=>(x= .exit 0/\(.inl ())=g/\Sub s' (ofG 19 [],[]))\/(x= .ret/\ ∃j,(.inr j)=g/\qhA ZT [.tmp 4] (.i j) .ret s')) ?_ ?_
 ·refine Ud (fun M s=> ∃(c:Int),s=(ofG 19 (kAD b ((1,.func (.func 175) [] [.fptr [.str a.lot.Name,.str a.lot.Yarn,.str a.lot.Dye,.i a.lot.Stock,.bool a.known,.str a.hold.Lot,.str a.hold.Order,.i a.hold.Reserved,.i a.hold.Taken,.i a.free] 0])::(kY (b.length:Int) c))),[])/\xG b a M c=some g) ?_ (m:=N) ⟨_,rfl,g2⟩
  rintro M s ⟨c,rfl,g2⟩
  cases M with
  |zero=>simp only[xG]at g2;cases g2
  |succ M=>
   rw[xG]at g2
   refine sh fol (kAD b ((1,.func (.func 175) [] [.fptr [.str a.lot.Name,.str a.lot.Yarn,.str a.lot.Dye,.i a.lot.Stock,.bool a.known,.str a.hold.Lot,.str a.hold.Order,.i a.hold.Reserved,.i a.hold.Taken,.i a.free] 0])::(7,.i (b.length:Int))::(kAa c (decide (c<(b.length:Int)))))) ?_
   refine sq ?_
   refine ihD g2 (fun n g2=>?_) (fun n g2=>?_)
   ·refine Goes.skip ?_
    refine sq (Goes.block ?_)
    refine sh fol (kAD b ((1,.func (.func 175) [] [.fptr [.str a.lot.Name,.str a.lot.Yarn,.str a.lot.Dye,.i a.lot.Stock,.bool a.known,.str a.hold.Lot,.str a.hold.Order,.i a.hold.Reserved,.i a.hold.Taken,.i a.free] 0])::(5,.i c)::(kY (b.length:Int) c))) ?_
    obtain⟨d,e,g2⟩:=bnd g2
    obtain⟨k,f,g2⟩:=bnd g2
    refine sq (gr fol [3,4,5] (kAD b [(1,.func (.func 175) [] [.fptr [.str a.lot.Name,.str a.lot.Yarn,.str a.lot.Dye,.i a.lot.Stock,.bool a.known,.str a.hold.Lot,.str a.hold.Order,.i a.hold.Reserved,.i a.hold.Taken,.i a.free] 0]),(5,.i c),(7,.i (b.length:Int)),(8,.i c),(16,.bool k)]) (ac (iv qtu qJ e) (ac (la qDy qJ e) (ac (hs (.call 175 (kAH d.Lot d.Order d.Reserved d.Taken [.fptr [.str a.lot.Name,.str a.lot.Yarn,.str a.lot.Dye,.i a.lot.Stock,.bool a.known,.str a.hold.Lot,.str a.hold.Order,.i a.hold.Reserved,.i a.hold.Taken,.i a.free] 0]) [] [] (kAH d.Lot d.Order d.Reserved d.Taken [.fptr [.str a.lot.Name,.str a.lot.Yarn,.str a.lot.Dye,.i a.lot.Stock,.bool a.known,.str a.hold.Lot,.str a.hold.Order,.i a.hold.Reserved,.i a.hold.Taken,.i a.free] 0]) (.bool k)) (qb4 (FzL.cons (Ua (Still.agg (AllST.cons tS (AllST.cons tS (AllST.cons tI (AllST.cons tI AllST.nil)))))) (FzL.cons (Ua (Still.fptr (AllST.cons tS (AllST.cons tS (AllST.cons tS (AllST.cons tI (AllST.cons tB (AllST.cons tS (AllST.cons tS (AllST.cons tI (AllST.cons tI (AllST.cons tI AllST.nil)))))))))))) FzL.nil)) (qsI d a f) tB)) az))) ?_)
    refine ihB g2 (fun o g2=>?_) (fun o g2=>?_)
    ·refine sh fol (kAj c) ?_
     refine Goes.ret ?_
     obtain rfl:=si g2
     exact Or.inr (⟨rfl,_,rfl,(gw2 [.i c] (Ub tI))⟩)
    refine Goes.skip ?_
    refine gh fol (kAD b ((1,.func (.func 175) [] [.fptr [.str a.lot.Name,.str a.lot.Yarn,.str a.lot.Dye,.i a.lot.Stock,.bool a.known,.str a.hold.Lot,.str a.hold.Order,.i a.hold.Reserved,.i a.hold.Taken,.i a.free] 0])::(kY (b.length:Int) (w64 (c+1))))) ?_
    exact⟨M,(ofG 19 (kAD b ((1,.func (.func 175) [] [.fptr [.str a.lot.Name,.str a.lot.Yarn,.str a.lot.Dye,.i a.lot.Stock,.bool a.known,.str a.hold.Lot,.str a.hold.Order,.i a.hold.Reserved,.i a.hold.Taken,.i a.free] 0])::(kY (b.length:Int) (w64 (c+1))))),[]),Nat.lt_succ_self _,(Sub.refl _),_,rfl,g2⟩
   refine Goes.exit ?_
   obtain rfl:=si g2
   exact Or.inl (⟨rfl,rfl,(Sub.keep [] rfl rfl)⟩)
 rintro x s' (⟨rfl,rfl,hsub⟩|⟨rfl,p,rfl,hret⟩)
 ·try dsimp only at h
  refine Goes.sub hsub ?_
  refine sh fol kAp ?_
  refine Goes.ret ?_
  obtain rfl:=si h
  exact(gw2 [.i (-1)] (Ub tI))
 try dsimp only at h
 obtain rfl:=si h
 exact hret
def qbb (N:Nat) (b:StateT) (e:zi):Option qg:=
 (qjh N b e.Lot).bind fun f=>
 ((if f.2=true then
 (idx b.Lots f.1).bind fun c=>
 (qlA N b c).bind fun g=>
 some (c.Name,c.Yarn,c.Dye,c.Stock,g)
 else
 some (e.Lot,e.Yarn,e.Dye,0,0):Option (Str×Str×Str×Int×Int))).bind fun(l,m,n,o,p)=>
 (qiL N b.Holds (⟨(⟨l,m,n,o⟩:zY),f.2,(⟨e.Lot,e.Order,0,0⟩:qE),p⟩:qg)).bind fun d=>
 ((if d>=0 then
 (idx b.Holds d).bind fun a=>
 some (a.Lot,a.Order,a.Reserved,a.Taken)
 else
 some (e.Lot,e.Order,0,0):Option (Str×Str×Int×Int))).bind fun(h,i,j,k)=>
 some (⟨(⟨l,m,n,o⟩:zY),f.2,(⟨h,i,j,k⟩:qE),p⟩:qg)
theorem qix (N:Nat) (a:StateT) (e:zi) {res:qg} (h:qbb N a e=some res):zu ZT (.fn 113) (kAA a.Day a.Lots a.Holds [.agg [.str e.Kind,.i e.Day,.str e.Lot,.i e.Amount,.str e.Yarn,.str e.Dye,.str e.Order]]) [] (.agg (.str res.lot.Name::(kB res.lot.Yarn res.lot.Dye res.lot.Stock res.known res.hold.Lot res.hold.Order res.hold.Reserved res.hold.Taken res.free))) []:=by
 unfold qbb at h
 refine Uc Tryz.func113 rfl rfl (m:=55) rfl (rs:=[.cell 4 182]) rfl (l:=(kAV a.Day a.Lots a.Holds [(1,.agg [.str e.Kind,.i e.Day,.str e.Lot,.i e.Amount,.str e.Yarn,.str e.Dye,.str e.Order])])) rfl ?_
 refine sg fol (kS [(4,.ptr 2 0)]) (kE a.Day a.Lots a.Holds (kD e.Kind e.Day e.Lot e.Amount e.Yarn e.Dye e.Order (kI []))) ?_
 obtain⟨b,y,h⟩:=bnd h
 refine sq (gr fol [3] (kS [(4,.ptr 2 0),(5,.i b.1),(6,.bool b.2)]) (ac (cv (qq0 N a e.Lot y)) az) ?_)
 refine sg fol (kAG [(4,.ptr 2 0),(5,.i b.1),(6,.bool b.2),(7,.ptr 3 0)]) (kE a.Day a.Lots a.Holds (kD e.Kind e.Day e.Lot e.Amount e.Yarn e.Dye e.Order (kI [.cells [.str e.Lot,.str e.Yarn,.str e.Dye,.i 0,.bool b.2,.str e.Lot,.str e.Order,.i 0,.i 0,.i 0]]))) ?_
 refine sq ?_
 refine sh fol (kAG [(4,.ptr 2 0),(5,.i b.1),(7,.ptr 3 0),(30,.bool b.2)]) ?_
 obtain⟨C,g7,h⟩:=bnd h
 refine Goes.imp (Q:=fun x s'=>(x= .normal/\ ∃c d f g j,(c,d,f,g,j)=C/\Sub s' (ofG 55 (kM [(7,.ptr 2 0)]),(kE a.Day a.Lots a.Holds (kI [.cells [.str c,.str d,.str f,.i g,.bool b.2,.str e.Lot,.str e.Order,.i 0,.i 0,.i j]]))))) ?_ ?_
 ·refine ihB g7 (fun D g7=>?_) (fun D g7=>?_)
  ·obtain⟨r,u,g7⟩:=bnd g7
   refine sq (gq fol [3,4] (kAG [(4,.ptr 2 0),(7,.ptr 3 0)]) (kE a.Day a.Lots a.Holds (kD e.Kind e.Day e.Lot e.Amount e.Yarn e.Dye e.Order (kI [.cells [.str r.Name,.str r.Yarn,.str r.Dye,.i r.Stock,.bool b.2,.str e.Lot,.str e.Order,.i 0,.i 0,.i 0]]))) (ac (iv qzZ qN u) (ac (la qC3 qN u) az)) ?_)
   obtain⟨z,v,g7⟩:=bnd g7
   refine gq fol [3] (kAG [(4,.ptr 2 0),(7,.ptr 3 0)]) (kE a.Day a.Lots a.Holds (kD e.Kind e.Day e.Lot e.Amount e.Yarn e.Dye e.Order (kI [.cells [.str r.Name,.str r.Yarn,.str r.Dye,.i r.Stock,.bool b.2,.str e.Lot,.str e.Order,.i 0,.i 0,.i z]]))) (ac (cv (qqc N a r v)) az) ?_
   obtain rfl:=si g7
   exact⟨rfl,_,_,_,_,_,rfl,(Sub.norm [] [some 0,some 2,some 3] rfl rfl (.kp (.kp (.kp .nil))) (.kb rfl (.same sn) (.kb rfl (.same sn) (.kb rfl (.same sn) .nil))))⟩
  refine Goes.skip ?_
  obtain rfl:=si g7
  exact⟨rfl,_,_,_,_,_,rfl,(Sub.norm [] [some 0,some 2,some 3] rfl rfl (.kp (.kp (.drop (.kp .nil)))) (.kb rfl (.same sn) (.kb rfl (.same sn) (.kb rfl (.same sn) .nil))))⟩
 rintro x s' ⟨rfl,c,d,f,g,j,rfl,hsub⟩
 try dsimp only at h
 refine Goes.sub hsub ?_
 refine sq ?_
 obtain⟨s,w,h⟩:=bnd h
 refine sq (gr fol [3] (kM [(7,.ptr 2 0),(8,.i s)]) (ac (hs (.call 174 [vl qJ a.Holds,.func (.func 175) [] [.ptr 2 0]] (kE a.Day a.Lots a.Holds (kI [.cells [.str c,.str d,.str f,.i g,.bool b.2,.str e.Lot,.str e.Order,.i 0,.i 0,.i j]])) [2] [vl qJ a.Holds,.func (.func 175) [] [.fptr [.str (((⟨(⟨c,d,f,g⟩:zY),b.2,(⟨e.Lot,e.Order,0,0⟩:qE),j⟩:qg).lot).Name),.str (((⟨(⟨c,d,f,g⟩:zY),b.2,(⟨e.Lot,e.Order,0,0⟩:qE),j⟩:qg).lot).Yarn),.str (((⟨(⟨c,d,f,g⟩:zY),b.2,(⟨e.Lot,e.Order,0,0⟩:qE),j⟩:qg).lot).Dye),.i (((⟨(⟨c,d,f,g⟩:zY),b.2,(⟨e.Lot,e.Order,0,0⟩:qE),j⟩:qg).lot).Stock),.bool ((⟨(⟨c,d,f,g⟩:zY),b.2,(⟨e.Lot,e.Order,0,0⟩:qE),j⟩:qg).known),.str (((⟨(⟨c,d,f,g⟩:zY),b.2,(⟨e.Lot,e.Order,0,0⟩:qE),j⟩:qg).hold).Lot),.str (((⟨(⟨c,d,f,g⟩:zY),b.2,(⟨e.Lot,e.Order,0,0⟩:qE),j⟩:qg).hold).Order),.i (((⟨(⟨c,d,f,g⟩:zY),b.2,(⟨e.Lot,e.Order,0,0⟩:qE),j⟩:qg).hold).Reserved),.i (((⟨(⟨c,d,f,g⟩:zY),b.2,(⟨e.Lot,e.Order,0,0⟩:qE),j⟩:qg).hold).Taken),.i ((⟨(⟨c,d,f,g⟩:zY),b.2,(⟨e.Lot,e.Order,0,0⟩:qE),j⟩:qg).free)] 0]] (.i s)) (qma (FzL.cons (Ua (jo qJ _ (nl rfl))) (FzL.cons (Fz.func FzL.nil (FzL.cons (Fz.ptr rfl rfl (FzL.cons (Ua tS) (FzL.cons (Ua tS) (FzL.cons (Ua tS) (FzL.cons (Ua tI) (FzL.cons (Ua tB) (FzL.cons (Ua tS) (FzL.cons (Ua tS) (FzL.cons (Ua tI) (FzL.cons (Ua tI) (FzL.cons (Ua tI) FzL.nil))))))))))) FzL.nil)) FzL.nil)) (qsR N a.Holds (⟨(⟨c,d,f,g⟩:zY),b.2,(⟨e.Lot,e.Order,0,0⟩:qE),j⟩:qg) w) tI rfl)) az) ?_)
 refine sh fol (kM [(7,.ptr 2 0),(8,.i s),(47,.bool (decide (s>=0)))]) ?_
 obtain⟨A,g16,h⟩:=bnd h
 refine Goes.imp (Q:=fun x s'=>(x= .normal/\ ∃k n o p,(k,n,o,p)=A/\Sub s' (ofG 55 [(4,.ptr 0 0),(7,.ptr 1 0)],(kI (kC c d f g b.2 k n o p j []))))) ?_ ?_
 ·refine ihD g16 (fun B g16=>?_) (fun B g16=>?_)
  ·obtain⟨t,q,g16⟩:=bnd g16
   refine gq fol [3,4] (kAf [(7,.ptr 2 0)]) (kE a.Day a.Lots a.Holds (kI (kC c d f g b.2 t.Lot t.Order t.Reserved t.Taken j []))) (ac (iv qtu qJ q) (ac (la qDy qJ q) az)) ?_
   obtain rfl:=si g16
   exact⟨rfl,_,_,_,_,rfl,(Sub.norm [] [some 1,some 2] rfl rfl (.kp (.kp .nil)) (.kb rfl (.same sn) (.kb rfl (.same sn) .nil)))⟩
  refine Goes.skip ?_
  obtain rfl:=si g16
  exact⟨rfl,_,_,_,_,rfl,(Sub.norm [] [some 1,some 2] rfl rfl (.drop (.kp (.kp .nil))) (.kb rfl (.same sn) (.kb rfl (.same sn) .nil)))⟩
 rintro x s' ⟨rfl,k,n,o,p,rfl,hsub⟩
 try dsimp only at h
 refine Goes.sub hsub ?_
 refine sg fol kAq (kC c d f g b.2 k n o p j (kC c d f g b.2 k n o p j [])) ?_
 refine Goes.ret ?_
 obtain rfl:=si h
 exact(gw2 [.agg (.str c::(kB d f g b.2 k n o p j))] (FzW.agg (xI.cons (Ub tS) (xI.cons (Ub tS) (xI.cons (Ub tS) (xI.cons (Ub tI) (xI.cons (Ub tB) (xI.cons (Ub tS) (xI.cons (Ub tS) (xI.cons (Ub tI) (xI.cons (Ub tI) (xI.cons (Ub tI) xI.nil))))))))))))
def qni (vals:List Int):Nat->Int->Option (Unit⊕Int)
 |0,_=>none
 |K+1,a=>
  if a<(vals.length:Int)then
  (idx vals a).bind fun b=>
  if(!decide (b=0))=true then
  some (.inr b)
  else
  qni vals K (w64 (a+1))
  else
  some (.inl ())
def qtM (N:Nat) (vals:List Int):Option Int:=
 (qni vals N 0).bind (fun
 |(.inl ())=>
 some 0
 |(.inr a)=>
 some a)
theorem qBw (N:Nat) (vals:List Int) {res:Int} (h:qtM N vals=some res):zu ZT (.fn 83) [vl encI vals] [] (.i res) []:=by
 unfold qtM at h
 refine Uc Tryz.func83 rfl rfl (m:=18) rfl (rs:=[.tmp 2]) rfl (l:=[(0,vl encI vals)]) rfl ?_
 refine sh fol [(0,vl encI vals)] ?_
 refine sh fol [(0,vl encI vals),(3,.i 0)] ?_
 refine sq ?_
 refine sh fol ((3,.i 0)::(6,vl encI vals)::(kAn (vals.length:Int))) ?_
 refine Goes.block ?_
 obtain⟨d,g2,h⟩:=bnd h
 refine Goes.imp (Q:=fun x s'=>(x= .exit 0/\(.inl ())=d/\Sub s' (ofG 18 [(3,.i 0)],[]))\/(x= .ret/\ ∃e,(.inr e)=d/\qhA ZT [.tmp 2] (.i e) .ret s')) ?_ ?_
 ·refine Ud (fun M s=> ∃(a:Int),s=(ofG 18 ((3,.i 0)::(6,vl encI vals)::(kY (vals.length:Int) a)),[])/\qni vals M a=some d) ?_ (m:=N) ⟨_,rfl,g2⟩
  rintro M s ⟨a,rfl,g2⟩
  cases M with
  |zero=>simp only[qni]at g2;cases g2
  |succ M=>
   rw[qni]at g2
   refine sh fol ((3,.i 0)::(6,vl encI vals)::(7,.i (vals.length:Int))::(kAa a (decide (a<(vals.length:Int))))) ?_
   refine sq ?_
   refine ihD g2 (fun f g2=>?_) (fun f g2=>?_)
   ·refine Goes.skip ?_
    refine sq (Goes.block ?_)
    obtain⟨c,b,g2⟩:=bnd g2
    refine sq (gr fol [0,1] ((3,.i 0)::(5,.i c)::(6,vl encI vals)::(kY (vals.length:Int) a)) (ac (iv sl79 encI b) (ac (lv 0 ce3 encI b rfl) az)) ?_)
    refine sh fol [(3,.i 0),(5,.i c),(6,vl encI vals),(7,.i (vals.length:Int)),(8,.i a),(14,.bool (!decide (c=0)))] ?_
    refine ihB g2 (fun g g2=>?_) (fun g g2=>?_)
    ·refine sh fol (kAl c) ?_
     refine Goes.ret ?_
     obtain rfl:=si g2
     exact Or.inr (⟨rfl,_,rfl,(gw2 [.i c] (Ub tI))⟩)
    refine Goes.skip ?_
    refine gh fol ((3,.i 0)::(6,vl encI vals)::(kY (vals.length:Int) (w64 (a+1)))) ?_
    exact⟨M,(ofG 18 ((3,.i 0)::(6,vl encI vals)::(kY (vals.length:Int) (w64 (a+1)))),[]),Nat.lt_succ_self _,(Sub.refl _),_,rfl,g2⟩
   refine Goes.exit ?_
   obtain rfl:=si g2
   exact Or.inl (⟨rfl,rfl,(Sub.keep [3] rfl rfl)⟩)
 rintro x s' (⟨rfl,rfl,hsub⟩|⟨rfl,j,rfl,hret⟩)
 ·try dsimp only at h
  refine Goes.sub hsub ?_
  refine sh fol [(2,.i 0)] ?_
  refine Goes.ret ?_
  obtain rfl:=si h
  exact(gw2 [.i 0] (Ub tI))
 try dsimp only at h
 obtain rfl:=si h
 exact hret
def qlq (N:Nat) (a:qE) (o:qE):Option Int:=
 (tCmp a.Lot o.Lot).bind fun b=>
 (tCmp a.Order o.Order).bind fun c=>
 (qtM N ([b,c]:List Int)).bind fun d=>
 some d
theorem qwl (N:Nat) (a:qE) (o:qE) {res:Int} (h:qlq N a o=some res):zu ZT (.fn 74) (kAH a.Lot a.Order a.Reserved a.Taken (kAH o.Lot o.Order o.Reserved o.Taken [])) [] (.i res) []:=by
 unfold qlq at h
 refine Uc Tryz.func74 rfl rfl (m:=17) rfl (rs:=[.tmp 4]) rfl (l:=[(0,.agg [.str a.Lot,.str a.Order,.i a.Reserved,.i a.Taken]),(1,.agg [.str o.Lot,.str o.Order,.i o.Reserved,.i o.Taken])]) rfl ?_
 refine sg fol (kS []) (kL a.Lot a.Order a.Reserved a.Taken (kL o.Lot o.Order o.Reserved o.Taken [])) ?_
 obtain⟨e,b,h⟩:=bnd h
 obtain⟨f,c,h⟩:=bnd h
 obtain⟨g,d,h⟩:=bnd h
 refine sq (gq fol [4,9,11] (kAj g) (kL a.Lot a.Order a.Reserved a.Taken (kL o.Lot o.Order o.Reserved o.Taken (kAb e f))) (ac (cv (qCn a.Lot o.Lot b)) (ac (cv (qCn a.Order o.Order c)) (ac (hs (.call 83 [.slice 2 0 2 2 1] (kL a.Lot a.Order a.Reserved a.Taken (kL o.Lot o.Order o.Reserved o.Taken (kAb e f))) [2] [vl encI ([e,f]:List Int)] (.i g)) (qma (FzL.cons (Fz.lit rfl rfl (Uh (AllST.cons tI (AllST.cons tI AllST.nil)))) FzL.nil) (qBw N ([e,f]:List Int) d) tI rfl)) az))) ?_)
 refine Goes.ret ?_
 obtain rfl:=si h
 exact(gw2 [.i g] (Ub tI))
end Go.Av
