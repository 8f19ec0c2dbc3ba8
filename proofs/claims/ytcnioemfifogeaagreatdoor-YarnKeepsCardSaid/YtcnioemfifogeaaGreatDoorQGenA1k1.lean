/-
  Walks of functions: what each computes, as a plain function.
-/
import Derived.Test.YtcnioemfifogeaaGreatDoorAvJnQ3
noncomputable section
namespace Go.Av
open Go.Proofs Go.RowKit
abbrev ZT:=Tryz.prog
set_option linter.unusedSectionVars false
set_option linter.unusedVariables false
set_option linter.unusedSimpArgs false
set_option maxRecDepth 100000
theorem fol:Tryz.prog.follows .mixedOrders=true:=by kernel_rfl
structure qw where
 Kind:Str
 Day:Int
 Lot:Str
 Amount:Int
 Yarn:Str
 Dye:Str
 Order:Str
def qJ:Enc qw:=(encS.prod (encI.prod (encS.prod (encI.prod (encS.prod (encS.prod encS)))))).comap fun x=>(x.Kind,x.Day,x.Lot,x.Amount,x.Yarn,x.Dye,x.Order)
instance:SE qJ:=⟨nl rfl⟩
structure qH where
 Name:Str
 Yarn:Str
 Dye:Str
 Stock:Int
def qo:Enc qH:=(encS.prod (encS.prod (encS.prod encI))).comap fun x=>(x.Name,x.Yarn,x.Dye,x.Stock)
instance:SE qo:=⟨nl rfl⟩
instance:SE (qpm qo):=⟨nl rfl⟩
structure qp where
 Lot:Str
 Order:Str
 Reserved:Int
 Taken:Int
def qg:Enc qp:=(encS.prod (encS.prod (encI.prod encI))).comap fun x=>(x.Lot,x.Order,x.Reserved,x.Taken)
instance:SE qg:=⟨nl rfl⟩
instance:SE (qpm qg):=⟨nl rfl⟩
structure ql where
 lot:qH
 known:Bool
 hold:qp
 free:Int
def qsv:Enc ql:=(qo.prod (encB.prod (qg.prod encI))).comap fun x=>(x.lot,x.known,x.hold,x.free)
instance:SE qsv:=⟨nl rfl⟩
structure StateT where
 Day:Int
 Lots:List qH
 Holds:List qp
def qvn:Enc StateT:=(encI.prod ((qpm qo).prod (qpm qg))).comap fun x=>(x.Day,x.Lots,x.Holds)
instance:SE qvn:=⟨nl rfl⟩
structure KeyT where
 lot:Str
 order:Str
def qxu:Enc KeyT:=(encS.prod encS).comap fun x=>(x.lot,x.order)
instance:SE qxu:=⟨nl rfl⟩
structure zU where
 Number:Int
 Rule:Int
def ze:Enc zU:=(encI.prod encI).comap fun x=>(x.Number,x.Rule)
instance:SE ze:=⟨nl rfl⟩
structure qa6 where
 Day:Int
 Lots:List qH
 Holds:List qp
def qt9:Enc qa6:=(encI.prod ((qpm qo).prod (qpm qg))).comap fun x=>(x.Day,x.Lots,x.Holds)
instance:SE qt9:=⟨nl rfl⟩
abbrev kA (a:Str) (b:Int) (c:Str) (d:Int) (e:Str) (f:Str) (g:Str):List AV:=[.str a,.i b,.str c,.i d,.str e,.str f,.str g]
abbrev kB (a:Str) (b:Str) (c:Int) (d:Bool) (e:Str) (f:Str) (g:Int) (h:Int) (i:Int):List AV:=[.str a,.str b,.i c,.bool d,.str e,.str f,.i g,.i h,.i i]
abbrev kC (a:Str) (b:Str) (c:Str) (d:Int) (e:Bool) (f:Str) (g:Str) (h:Int) (i:Int) (j:Int) (x:List Blk):List Blk:= .cells [.str a,.str b,.str c,.i d,.bool e,.str f,.str g,.i h,.i i,.i j]::x
abbrev kD (a:Int) (b:List qH) (c:List qp) (x:List Blk):List Blk:= .cells [.i a,vl qo b,vl qg c]::x
abbrev kE (a:Str) (b:Int) (c:Str) (d:Int) (e:Str) (f:Str) (g:Str) (x:List Blk):List Blk:= .cells [.str a,.i b,.str c,.i d,.str e,.str f,.str g]::x
abbrev kF (x:List Blk):List Blk:= .cells [.i 0,.nilslice,.nilslice]::x
abbrev kG (a:Int) (b:List qH) (c:List qp):List AV:=[.i a,vl qo b,vl qg c]
abbrev kH (a:List qp) (x:List Blk):List Blk:= .cells (a.flatMap qg.c)::x
abbrev kI (x:List Blk):List Blk:= .cells [.str [],.str [],.str [],.i 0,.bool false,.str [],.str [],.i 0,.i 0,.i 0]::x
abbrev kJ {α1:Type} {α2:Type} (a:List qw) (b:List α1) (c:List α2) (d:Int) (x:List (Nat×AV)):List (Nat×AV):=(0,vl qJ a)::(4,.ptr 0 0)::(5,.gslice 1 b.length 7)::(6,.gslice 2 c.length 2)::(7,.i d)::x
abbrev kK (a:Int) (b:Bool):List (Nat×AV):=[(5,.i a),(7,.i 5),(8,.i a),(16,.bool b)]
abbrev kL (x:List (Nat×AV)):List (Nat×AV):=(2,.ptr 0 0)::(3,.ptr 1 0)::x
abbrev kM (a:Str) (b:Str) (c:Int) (d:Int) (x:List Blk):List Blk:= .cells [.str a,.str b,.i c,.i d]::x
abbrev kN {α0:Type} (a:List α0) (b:Int) (c:List zU) (x:List (Nat×AV)):List (Nat×AV):=(4,.ptr 0 0)::(6,.gslice 1 a.length 2)::(7,.i b)::(15,vl ze c)::x
abbrev kO (a:List zU) (x:List Blk):List Blk:= .cells (a.flatMap ze.c)::x
abbrev kP {α0:Type} (a:List α0) (x:List (Nat×AV)):List (Nat×AV):=(0,.gslice 0 a.length 4)::x
abbrev kQ (x:List (Nat×AV)):List (Nat×AV):=(2,.ptr 0 0)::(4,.ptr 1 0)::x
abbrev kR (a:List qw) (b:Int) (c:Int) (x:List (Nat×AV)):List (Nat×AV):=(44,vl qJ a)::(45,.i b)::(46,.i c)::x
abbrev kS (a:List qw) (x:List (Nat×AV)):List (Nat×AV):=(0,vl qJ a)::x
abbrev kT (a:List qH) (x:List Blk):List Blk:= .cells (a.flatMap qo.c)::x
abbrev kU (x:List (Nat×AV)):List (Nat×AV):=(1,.ptr 0 0)::x
abbrev kV (a:Str) (b:Str) (c:Str) (d:Int) (e:Bool) (f:Str) (g:Str) (h:Int) (i:Int) (j:Int) (k:Int):List (Nat×AV):=[(0,.agg [.str a,.str b,.str c,.i d,.bool e,.str f,.str g,.i h,.i i,.i j]),(1,.i k)]
abbrev kW (a:List qw) (x:List Blk):List Blk:= .cells (a.flatMap qJ.c)::x
abbrev kX (a:Str) (b:Str) (c:Str) (d:Int) (x:List Blk):List Blk:= .cells [.str a,.str b,.str c,.i d]::x
abbrev kY (a:Int) (b:List qH) (c:List qp) (x:List AV):List AV:= .agg [.i a,vl qo b,vl qg c]::x
abbrev kZ (a:Str) (b:Str) (c:Str) (d:Int) (e:Bool) (f:Str) (g:Str) (h:Int) (i:Int) (j:Int) (k:Int):List AV:=[.agg [.str a,.str b,.str c,.i d,.bool e,.str f,.str g,.i h,.i i,.i j],.i k]
abbrev kAA (a:Int) (b:List qH) (c:List qp) (x:List (Nat×AV)):List (Nat×AV):=(0,.agg [.i a,vl qo b,vl qg c])::x
abbrev kAB (a:List qH) (x:List (Nat×AV)):List (Nat×AV):=(0,vl qo a)::x
abbrev kAC (x:List (Nat×AV)):List (Nat×AV):=(2,.ptr 0 0)::x
abbrev kAD (x:List (Nat×AV)):List (Nat×AV):=(5,.ptr 2 0)::(6,.ptr 3 0)::x
abbrev kAE (a:Int) (b:Int):List (Nat×AV):=[(7,.i a),(8,.i b)]
abbrev kAF (a:Int):List (Nat×AV):=[(7,.i 5),(8,.i a)]
abbrev kAG (a:List qH) (b:Int) (c:Int) (x:List (Nat×AV)):List (Nat×AV):=(175,vl qo a)::(176,.i b)::(177,.i c)::x
abbrev kAH (x:List (Nat×AV)):List (Nat×AV):=(4,.ptr 0 0)::x
abbrev kAI (a:List qH) (b:Int) (x:List (Nat×AV)):List (Nat×AV):=(2,.ptr 1 0)::(3,.ptr 2 0)::(12,vl qo a)::(13,.i b)::x
abbrev kAJ (a:Str) (b:Str) (c:Int) (d:Int) (x:List AV):List AV:= .agg [.str a,.str b,.i c,.i d]::x
abbrev kAK {α1:Type} {α2:Type} (a:Int) (b:List α1) (c:List α2) (x:List Blk):List Blk:= .cells [.i a,.gslice 2 b.length 4,.gslice 3 c.length 4]::x
abbrev kAL (a:Int) (b:Int):List (Nat×AV):=[(5,.i a),(6,.i b)]
abbrev kAM (a:Int) (b:Int) (x:List (Nat×AV)):List (Nat×AV):=(8,.i a)::(9,.ptr 3 0)::(10,.i b)::(12,.ptr 4 0)::x
abbrev kAN {α1:Type} (a:Int) (b:List α1) (x:List Blk):List Blk:= .cells [.i a,.gslice 4 b.length 4,.nilslice]::x
abbrev kAO (a:List qp) (x:List (Nat×AV)):List (Nat×AV):=(0,vl qg a)::x
abbrev kAP (x:List (Nat×AV)):List (Nat×AV):=(4,.ptr 2 0)::(5,.ptr 3 0)::x
abbrev kAQ:List (Nat×AV):=[(2,.bool false)]
abbrev kAR (a:List qw) (b:Int) (c:Int) (x:List (Nat×AV)):List (Nat×AV):=(9,vl qJ a)::(10,.i b)::(11,.i c)::x
abbrev kAS {α2:Type} (a:Int) (b:List qH) (c:List α2) (x:List Blk):List Blk:= .cells [.i a,vl qo b,.gslice 2 c.length 4]::x
abbrev kAT {α2:Type} (a:Int) (b:List qH) (c:List α2) (x:List Blk):List Blk:= .cells [.i a,vl qo b,.oslice 2 c.length 4]::x
abbrev kAU (a:Int) (b:Int):List Blk:=[.cells [.i a,.i b]]
abbrev kAV (a:Bool):List (Nat×AV):=[(2,.bool a)]
abbrev kAW (a:Int) (b:Int) (x:List (Nat×AV)):List (Nat×AV):=(15,.i a)::(16,.i b)::x
abbrev kAX:List AV:=[.str [114,101,99,101,105,118,101],.str [114,101,115,101,114,118,101],.str [114,101,108,101,97,115,101],.str [116,97,107,101],.str [114,101,116,117,114,110]]
abbrev kAY (a:Int) (b:List qH) (x:List Blk):List Blk:= .cells [.i a,vl qo b,.nilslice]::x
abbrev kAZ (a:Int) (b:Int) (c:List qp) (d:Int) (x:List (Nat×AV)):List (Nat×AV):=(7,.i a)::(21,.i b)::(206,vl qg c)::(207,.i d)::x
abbrev kAa (a:Str) (x:List (Nat×AV)):List (Nat×AV):=(0,.str a)::(6,.ptr 0 0)::x
abbrev kAb (a:Str) (b:Int) (c:List qp) (d:Int) (e:Int) (x:List (Nat×AV)):List (Nat×AV):=(1,.str a)::(5,.i b)::(9,vl qg c)::(10,.i d)::(11,.i e)::x
abbrev kAc (a:Str) (b:Int) (x:List (Nat×AV)):List (Nat×AV):=(0,.str a)::(3,.i b)::x
abbrev kAd (a:Int):List (Nat×AV):=[(5,.i a)]
abbrev kAe (x:List (Nat×AV)):List (Nat×AV):=(4,.ptr 1 0)::x
abbrev kAf {α1:Type} (a:Int) (b:List α1) (x:List Blk):List Blk:= .cells [.i a,.gslice 3 b.length 4,.nilslice]::x
abbrev kAg (a:Int) (b:Bool):List (Nat×AV):=[(8,.i a),(9,.bool b)]
abbrev kAh {α0:Type} (a:List α0) (x:List (Nat×AV)):List (Nat×AV):=(5,.gslice 2 a.length 2)::x
abbrev kAi (a:List qp) (b:Int) (x:List (Nat×AV)):List (Nat×AV):=(26,vl qg a)::(27,.i b)::x
abbrev kAj (a:Int) (x:List (Nat×AV)):List (Nat×AV):=(5,.i a)::(6,.ptr 1 0)::x
abbrev kAk:List (Nat×AV):=[(4,.bool true)]
abbrev kAl (a:Int) (b:Int) (x:List (Nat×AV)):List (Nat×AV):=(7,.i a)::(21,.i b)::x
abbrev kAm (a:Str) (b:Str) (c:Str) (d:Int) (x:List AV):List AV:= .agg [.str a,.str b,.str c,.i d]::x
abbrev kAn (a:Int):List (Nat×AV):=[(4,.i a)]
abbrev kAo {α0:Type} (a:List α0):List (Nat×AV):=[(4,.oslice 0 a.length 4)]
abbrev kAp (a:Int) (b:Int) (c:Int) (x:List (Nat×AV)):List (Nat×AV):=(8,.i a)::(9,.i b)::(10,.i c)::x
abbrev kAq:List (Nat×AV):=[(4,.i (-1))]
abbrev kAr:List (Nat×AV):=[(4,.bool false)]
abbrev kAs {α0:Type} (a:List α0) (b:Int) (c:List zU) (d:Int) (x:List (Nat×AV)):List (Nat×AV):=(6,.gslice 2 a.length 2)::(7,.i b)::(14,.ptr 3 0)::(15,vl ze c)::(16,.i d)::x
abbrev kAt (a:Int):List (Nat×AV):=[(2,.i a)]
abbrev kAu (a:Bool):List (Nat×AV):=[(3,.bool a)]
abbrev kAv (a:Int):List (Nat×AV):=[(7,.i a),(8,.i 0)]
abbrev kAw (a:Str) (b:Str) (c:Int) (d:Int) (x:List (Nat×AV)):List (Nat×AV):=(0,.agg [.str a,.str b,.i c,.i d])::x
abbrev kAx:List (Nat×AV):=[(6,.ptr 1 0)]
abbrev kAy:List (Nat×AV):=[(158,.bool true)]
abbrev kAz (a:Str) (b:Int) (c:Str) (d:Int) (e:Str) (f:Str) (g:Str):List (Nat×AV):=[(1,.agg [.str a,.i b,.str c,.i d,.str e,.str f,.str g])]
abbrev kA0 (x:List (Nat×AV)):List (Nat×AV):=(4,.ptr 2 0)::x
abbrev kA1:List (Nat×AV):=[(7,.i 5),(8,.i 0)]
theorem quP:SlT ZT 22 56 7 96:=⟨by kernel_rfl,by kernel_rfl,by kernel_rfl,by kernel_rfl⟩
theorem ag56:AgT ZT 56 7:=⟨by kernel_rfl,by kernel_rfl⟩
theorem sl23:SlT ZT 23 57 7 96:=⟨by kernel_rfl,by kernel_rfl,by kernel_rfl,by kernel_rfl⟩
theorem ag57:AgT ZT 57 7:=⟨by kernel_rfl,by kernel_rfl⟩
theorem sl179:SlT ZT 179 32 1 8:=⟨by kernel_rfl,by kernel_rfl,by kernel_rfl,by kernel_rfl⟩
theorem ce32:CeT ZT 32:=⟨by kernel_rfl,by kernel_rfl⟩
theorem qh0:MapT ZT 143 9 141 (.agg [.nilfunc,.nilfunc]):=⟨by kernel_rfl,by kernel_rfl,by kernel_rfl⟩
theorem qhR:SlT ZT 28 74 4 48:=⟨by kernel_rfl,by kernel_rfl,by kernel_rfl,by kernel_rfl⟩
theorem qqT:AgT ZT 74 4:=⟨by kernel_rfl,by kernel_rfl⟩
theorem qps:SlT ZT 27 71 4 56:=⟨by kernel_rfl,by kernel_rfl,by kernel_rfl,by kernel_rfl⟩
theorem qr9:AgT ZT 71 4:=⟨by kernel_rfl,by kernel_rfl⟩
theorem qvR:EqT ZT 190 #[{name:= "lot",type:=9,offset:=0,embedded:=false,tag:= "",pkgPath:= "becket/yarn",byteOffset:=0},{name:= "order",type:=9,offset:=1,embedded:=false,tag:= "",pkgPath:= "becket/yarn",byteOffset:=16}]:=⟨by kernel_rfl,by kernel_rfl,by kernel_rfl⟩
theorem sl79:SlT ZT 79 3 1 8:=⟨by kernel_rfl,by kernel_rfl,by kernel_rfl,by kernel_rfl⟩
theorem ce3:CeT ZT 3:=⟨by kernel_rfl,by kernel_rfl⟩
abbrev qhP (x0_:qw) (x1_:StateT) (x2_:ql):List AV:=[.func (.func 115) [] [.fptr (kA x0_.Kind x0_.Day x0_.Lot x0_.Amount x0_.Yarn x0_.Dye x0_.Order) 0,.fptr (kG x1_.Day x1_.Lots x1_.Holds) 0],.func (.func 116) [] [.fptr (kA x0_.Kind x0_.Day x0_.Lot x0_.Amount x0_.Yarn x0_.Dye x0_.Order) 0,.fptr (.str x2_.lot.Name::(kB x2_.lot.Yarn x2_.lot.Dye x2_.lot.Stock x2_.known x2_.hold.Lot x2_.hold.Order x2_.hold.Reserved x2_.hold.Taken x2_.free)) 0],.func (.func 117) [] [.fptr [.func (.func 132) [] [],.func (.func 133) [] []] 0,.fptr (.str x2_.lot.Name::(kB x2_.lot.Yarn x2_.lot.Dye x2_.lot.Stock x2_.known x2_.hold.Lot x2_.hold.Order x2_.hold.Reserved x2_.hold.Taken x2_.free)) 0,.fptr (kA x0_.Kind x0_.Day x0_.Lot x0_.Amount x0_.Yarn x0_.Dye x0_.Order) 0],.func (.func 118) [] [.fptr [.func (.func 132) [] [],.func (.func 133) [] []] 0,.fptr (.str x2_.lot.Name::(kB x2_.lot.Yarn x2_.lot.Dye x2_.lot.Stock x2_.known x2_.hold.Lot x2_.hold.Order x2_.hold.Reserved x2_.hold.Taken x2_.free)) 0,.fptr (kA x0_.Kind x0_.Day x0_.Lot x0_.Amount x0_.Yarn x0_.Dye x0_.Order) 0],.func (.func 119) [] [.fptr (kG x1_.Day x1_.Lots x1_.Holds) 0,.fptr (kA x0_.Kind x0_.Day x0_.Lot x0_.Amount x0_.Yarn x0_.Dye x0_.Order) 0]]
abbrev qhD (x0_:qw) (x1_:StateT) (x2_:ql):List AV:=[.func (.func 115) [] [.fptr (kA x0_.Kind x0_.Day x0_.Lot x0_.Amount x0_.Yarn x0_.Dye x0_.Order) 0,.fptr (kG x1_.Day x1_.Lots x1_.Holds) 0],.func (.func 116) [] [.fptr (kA x0_.Kind x0_.Day x0_.Lot x0_.Amount x0_.Yarn x0_.Dye x0_.Order) 0,.fptr (.str x2_.lot.Name::(kB x2_.lot.Yarn x2_.lot.Dye x2_.lot.Stock x2_.known x2_.hold.Lot x2_.hold.Order x2_.hold.Reserved x2_.hold.Taken x2_.free)) 0],.func (.func 117) [] [.fptr [.func (.func 134) [] [],.func (.func 135) [] []] 0,.fptr (.str x2_.lot.Name::(kB x2_.lot.Yarn x2_.lot.Dye x2_.lot.Stock x2_.known x2_.hold.Lot x2_.hold.Order x2_.hold.Reserved x2_.hold.Taken x2_.free)) 0,.fptr (kA x0_.Kind x0_.Day x0_.Lot x0_.Amount x0_.Yarn x0_.Dye x0_.Order) 0],.func (.func 118) [] [.fptr [.func (.func 134) [] [],.func (.func 135) [] []] 0,.fptr (.str x2_.lot.Name::(kB x2_.lot.Yarn x2_.lot.Dye x2_.lot.Stock x2_.known x2_.hold.Lot x2_.hold.Order x2_.hold.Reserved x2_.hold.Taken x2_.free)) 0,.fptr (kA x0_.Kind x0_.Day x0_.Lot x0_.Amount x0_.Yarn x0_.Dye x0_.Order) 0],.func (.func 119) [] [.fptr (kG x1_.Day x1_.Lots x1_.Holds) 0,.fptr (kA x0_.Kind x0_.Day x0_.Lot x0_.Amount x0_.Yarn x0_.Dye x0_.Order) 0]]
abbrev qhH (x0_:qw) (x1_:StateT) (x2_:ql):List AV:=[.func (.func 115) [] [.fptr (kA x0_.Kind x0_.Day x0_.Lot x0_.Amount x0_.Yarn x0_.Dye x0_.Order) 0,.fptr (kG x1_.Day x1_.Lots x1_.Holds) 0],.func (.func 116) [] [.fptr (kA x0_.Kind x0_.Day x0_.Lot x0_.Amount x0_.Yarn x0_.Dye x0_.Order) 0,.fptr (.str x2_.lot.Name::(kB x2_.lot.Yarn x2_.lot.Dye x2_.lot.Stock x2_.known x2_.hold.Lot x2_.hold.Order x2_.hold.Reserved x2_.hold.Taken x2_.free)) 0],.func (.func 117) [] [.fptr [.func (.func 137) [] [],.func (.func 138) [] []] 0,.fptr (.str x2_.lot.Name::(kB x2_.lot.Yarn x2_.lot.Dye x2_.lot.Stock x2_.known x2_.hold.Lot x2_.hold.Order x2_.hold.Reserved x2_.hold.Taken x2_.free)) 0,.fptr (kA x0_.Kind x0_.Day x0_.Lot x0_.Amount x0_.Yarn x0_.Dye x0_.Order) 0],.func (.func 118) [] [.fptr [.func (.func 137) [] [],.func (.func 138) [] []] 0,.fptr (.str x2_.lot.Name::(kB x2_.lot.Yarn x2_.lot.Dye x2_.lot.Stock x2_.known x2_.hold.Lot x2_.hold.Order x2_.hold.Reserved x2_.hold.Taken x2_.free)) 0,.fptr (kA x0_.Kind x0_.Day x0_.Lot x0_.Amount x0_.Yarn x0_.Dye x0_.Order) 0],.func (.func 119) [] [.fptr (kG x1_.Day x1_.Lots x1_.Holds) 0,.fptr (kA x0_.Kind x0_.Day x0_.Lot x0_.Amount x0_.Yarn x0_.Dye x0_.Order) 0]]
abbrev qhy (x0_:qw) (x1_:StateT) (x2_:ql):List AV:=[.func (.func 115) [] [.fptr (kA x0_.Kind x0_.Day x0_.Lot x0_.Amount x0_.Yarn x0_.Dye x0_.Order) 0,.fptr (kG x1_.Day x1_.Lots x1_.Holds) 0],.func (.func 116) [] [.fptr (kA x0_.Kind x0_.Day x0_.Lot x0_.Amount x0_.Yarn x0_.Dye x0_.Order) 0,.fptr (.str x2_.lot.Name::(kB x2_.lot.Yarn x2_.lot.Dye x2_.lot.Stock x2_.known x2_.hold.Lot x2_.hold.Order x2_.hold.Reserved x2_.hold.Taken x2_.free)) 0],.func (.func 117) [] [.fptr [.func (.func 139) [] [],.func (.func 140) [] []] 0,.fptr (.str x2_.lot.Name::(kB x2_.lot.Yarn x2_.lot.Dye x2_.lot.Stock x2_.known x2_.hold.Lot x2_.hold.Order x2_.hold.Reserved x2_.hold.Taken x2_.free)) 0,.fptr (kA x0_.Kind x0_.Day x0_.Lot x0_.Amount x0_.Yarn x0_.Dye x0_.Order) 0],.func (.func 118) [] [.fptr [.func (.func 139) [] [],.func (.func 140) [] []] 0,.fptr (.str x2_.lot.Name::(kB x2_.lot.Yarn x2_.lot.Dye x2_.lot.Stock x2_.known x2_.hold.Lot x2_.hold.Order x2_.hold.Reserved x2_.hold.Taken x2_.free)) 0,.fptr (kA x0_.Kind x0_.Day x0_.Lot x0_.Amount x0_.Yarn x0_.Dye x0_.Order) 0],.func (.func 119) [] [.fptr (kG x1_.Day x1_.Lots x1_.Holds) 0,.fptr (kA x0_.Kind x0_.Day x0_.Lot x0_.Amount x0_.Yarn x0_.Dye x0_.Order) 0]]
abbrev qhM (x0_:qw) (x1_:StateT) (x2_:ql):List AV:=[.func (.func 115) [] [.fptr (kA x0_.Kind x0_.Day x0_.Lot x0_.Amount x0_.Yarn x0_.Dye x0_.Order) 0,.fptr (kG x1_.Day x1_.Lots x1_.Holds) 0],.func (.func 116) [] [.fptr (kA x0_.Kind x0_.Day x0_.Lot x0_.Amount x0_.Yarn x0_.Dye x0_.Order) 0,.fptr (.str x2_.lot.Name::(kB x2_.lot.Yarn x2_.lot.Dye x2_.lot.Stock x2_.known x2_.hold.Lot x2_.hold.Order x2_.hold.Reserved x2_.hold.Taken x2_.free)) 0],.func (.func 117) [] [.fptr [.func (.func 141) [] [],.func (.func 142) [] []] 0,.fptr (.str x2_.lot.Name::(kB x2_.lot.Yarn x2_.lot.Dye x2_.lot.Stock x2_.known x2_.hold.Lot x2_.hold.Order x2_.hold.Reserved x2_.hold.Taken x2_.free)) 0,.fptr (kA x0_.Kind x0_.Day x0_.Lot x0_.Amount x0_.Yarn x0_.Dye x0_.Order) 0],.func (.func 118) [] [.fptr [.func (.func 141) [] [],.func (.func 142) [] []] 0,.fptr (.str x2_.lot.Name::(kB x2_.lot.Yarn x2_.lot.Dye x2_.lot.Stock x2_.known x2_.hold.Lot x2_.hold.Order x2_.hold.Reserved x2_.hold.Taken x2_.free)) 0,.fptr (kA x0_.Kind x0_.Day x0_.Lot x0_.Amount x0_.Yarn x0_.Dye x0_.Order) 0],.func (.func 119) [] [.fptr (kG x1_.Day x1_.Lots x1_.Holds) 0,.fptr (kA x0_.Kind x0_.Day x0_.Lot x0_.Amount x0_.Yarn x0_.Dye x0_.Order) 0]]
theorem sl31:SlT ZT 31 53 2 16:=⟨by kernel_rfl,by kernel_rfl,by kernel_rfl,by kernel_rfl⟩
theorem st9:Tryz.prog.underlying 9=some .string:=by kernel_rfl
theorem qsK:SlT ZT 40 84 4 56:=⟨by kernel_rfl,by kernel_rfl,by kernel_rfl,by kernel_rfl⟩
theorem ag84:AgT ZT 84 4:=⟨by kernel_rfl,by kernel_rfl⟩
theorem eqt84:EqT ZT 84 #[{name:= "Name",type:=9,offset:=0,embedded:=false,tag:= "",pkgPath:= "",byteOffset:=0},{name:= "Yarn",type:=9,offset:=1,embedded:=false,tag:= "",pkgPath:= "",byteOffset:=16},{name:= "Dye",type:=9,offset:=2,embedded:=false,tag:= "",pkgPath:= "",byteOffset:=32},{name:= "Stock",type:=3,offset:=3,embedded:=false,tag:= "",pkgPath:= "",byteOffset:=48}]:=⟨by kernel_rfl,by kernel_rfl,by kernel_rfl⟩
theorem qtA:SlT ZT 41 118 4 48:=⟨by kernel_rfl,by kernel_rfl,by kernel_rfl,by kernel_rfl⟩
theorem quG:AgT ZT 118 4:=⟨by kernel_rfl,by kernel_rfl⟩
theorem qyo:EqT ZT 118 #[{name:= "Lot",type:=9,offset:=0,embedded:=false,tag:= "",pkgPath:= "",byteOffset:=0},{name:= "Order",type:=9,offset:=1,embedded:=false,tag:= "",pkgPath:= "",byteOffset:=16},{name:= "Reserved",type:=3,offset:=2,embedded:=false,tag:= "",pkgPath:= "",byteOffset:=32},{name:= "Taken",type:=3,offset:=3,embedded:=false,tag:= "",pkgPath:= "",byteOffset:=40}]:=⟨by kernel_rfl,by kernel_rfl,by kernel_rfl⟩
theorem ce9:CeT ZT 9:=⟨by kernel_rfl,by kernel_rfl⟩
theorem ag53:AgT ZT 53 2:=⟨by kernel_rfl,by kernel_rfl⟩
theorem eqt53:EqT ZT 53 #[{name:= "Number",type:=3,offset:=0,embedded:=false,tag:= "",pkgPath:= "",byteOffset:=0},{name:= "Rule",type:=3,offset:=1,embedded:=false,tag:= "",pkgPath:= "",byteOffset:=8}]:=⟨by kernel_rfl,by kernel_rfl,by kernel_rfl⟩
abbrev fm1:AV:= .fmap kAX [.agg [.func (.func 132) [] [],.func (.func 133) [] []],.agg [.func (.func 134) [] [],.func (.func 135) [] []],.agg [.func (.func 137) [] [],.func (.func 138) [] []],.agg [.func (.func 139) [] [],.func (.func 140) [] []],.agg [.func (.func 141) [] [],.func (.func 142) [] []]]
instance:SC 12 fm1:=⟨Still.fmap SX.h (AllST.cons SC.h (AllST.cons SC.h (AllST.cons SC.h (AllST.cons SC.h (AllST.cons SC.h AllST.nil)))))⟩
theorem qxW (x:qH):Fl (qo.c x):=by
 have e:qo.c x=[.str x.Name,.str x.Yarn,.str x.Dye,.i x.Stock]:=rfl
 rw[e]
 intro a ha
 simp only[List.mem_cons,List.not_mem_nil,or_false]at ha
 rcases ha with rfl|rfl|rfl|rfl<;>rfl
def qmp (l:List qH):Option Unit:=if l.length<=1000000 then some ()else none
theorem qs2 (l:List qH) {u:Unit} (h:qmp l=some u):qE ZT (.fn 120) [vl qo l] [] (.gslice 0 l.length 4) (kT l []):=by
 unfold qmp at h
 split at h
 ·exact qvo rfl qxW l ‹_›
 cases h
theorem qyk (x:qp):Fl (qg.c x):=by
 have e:qg.c x=[.str x.Lot,.str x.Order,.i x.Reserved,.i x.Taken]:=rfl
 rw[e]
 intro a ha
 simp only[List.mem_cons,List.not_mem_nil,or_false]at ha
 rcases ha with rfl|rfl|rfl|rfl<;>rfl
def qkv (l:List qp):Option Unit:=if l.length<=1000000 then some ()else none
theorem qoo (l:List qp) {u:Unit} (h:qkv l=some u):qE ZT (.fn 123) [vl qg l] [] (.gslice 0 l.length 4) (kH l []):=by
 unfold qkv at h
 split at h
 ·exact qtE rfl qyk l ‹_›
 cases h
def qqm (l:List qH) (i:Int) (a b c:Str) (d:Int):Option (List qH):=if 0<=i/\i<=l.length/\l.length<1000000 then some (l.take i.toNat++[⟨a,b,c,d⟩]++l.drop i.toNat)else none
theorem qvm (l:List qH) (i:Int) (a b c:Str) (d:Int) {r:List qH} (h:qqm l i a b c d=some r):qE ZT (.fn 121) [.gslice 0 l.length 4,.i i,.slice 1 0 1 1 4] (kT l (kX a b c d [])) (.oslice 2 r.length 4) (.dead::(kX a b c d (kT r []))):=by
 unfold qqm at h
 split at h
 ·rename_i hc
  obtain rfl:=si h
  have:=qxy (E:=qo) rfl qxW l ⟨a,b,c,d⟩ i.toNat (by omega) hc.2.2
  rw[Int.toNat_of_nonneg hc.1]at this
  exact this
 cases h
instance:Inhabited qp:=⟨⟨[],[],0,0⟩⟩
theorem hldE:qnj qg qp.Lot qp.Order qp.Reserved qp.Taken:=⟨rfl,fun _=>rfl⟩
def qmQ (l:List qp):Option (List qp):=if l.length<=1000000 then some (qiI qp.Lot qp.Order l)else none
theorem qrL (l:List qp) {r:List qp} (h:qmQ l=some r):qE ZT (.fn 126) [.oslice 0 l.length 4,.func (.func 127) [] []] (kH l []) (.tuple []) (kH r []):=by
 unfold qmQ at h
 split at h
 ·rename_i hl
  obtain rfl:=si h
  have:=hldE.sortO (ns:=l) hl
  exact this
 cases h
def qmX (l:List qp):Option (List qp):=if l.length<=1000000 then some (qiI qp.Lot qp.Order l)else none
theorem qrQ (l:List qp) {r:List qp} (h:qmX l=some r):qE ZT (.fn 126) [.gslice 0 l.length 4,.func (.func 127) [] []] (kH l []) (.tuple []) (kH r []):=by
 unfold qmX at h
 split at h
 ·rename_i hl
  obtain rfl:=si h
  have:=hldE.sortG (ns:=l) hl
  exact this
 cases h
def qb0 (l:List qw):Nat->(List qw)->Int->Option (List qw)
 |0,_,_=>none
 |K+1,b,a=>
  if a<(l.length:Int)then
  (idx l a).bind fun c=>
  (app 96 b [c]).bind fun d=>
  qb0 l K d (w64 (a+1))
  else
  some b
def qfX (N:Nat) (l:List qw):Option (List qw):=
 (qb0 l N ([]:List qw) 0).bind fun a=>
 some a
theorem qoX (N:Nat) (l:List qw) {res:List qw} (h:qfX N l=some res):qE ZT (.fn 8) [vl qJ l] [] (vl qJ res) []:=by
 unfold qfX at h
 refine Uc Tryz.func8 rfl rfl (m:=18) rfl (rs:=[.tmp 2]) rfl (l:=(kS l [])) rfl ?_
 refine sh fol (kS l []) ?_
 refine sh fol (kS l [(3,.nilslice)]) ?_
 refine sq ?_
 refine sh fol ((3,.nilslice)::(6,vl qJ l)::(kAv (l.length:Int))) ?_
 refine Goes.block ?_
 obtain⟨k,g4,h⟩:=bnd h
 refine Goes.imp (Q:=fun x s'=>(x= .exit 0/\ ∃g,g=k/\Sub s' (ofG 18 [(3,.gslice 0 g.length 7)],(kW g [])))) ?_ ?_
 ·refine Goes.sub (s':=(ofG 18 ((3,.gslice 0 ([]:List qw).length 7)::(6,vl qJ l)::(kAv (l.length:Int))),[.cells (([]:List qw).flatMap qJ.c)])) (Sub.norm [] [none] rfl rfl (.keep .nil (.keep (.same (zu qJ _)) (.keep (.same nI) (.keep (.same nI) .nil)))) (.fresh .nil)) ?_
  refine Ud (fun M s=> ∃(b:List qw) (d:Int),s=(ofG 18 ((3,.gslice 0 b.length 7)::(6,vl qJ l)::(kAE (l.length:Int) d)),(kW b []))/\qb0 l M b d=some k) ?_ (m:=N) ⟨_,_,rfl,g4⟩
  rintro M s ⟨b,d,rfl,g4⟩
  cases M with
  |zero=>simp only[qb0]at g4;cases g4
  |succ M=>
   rw[qb0]at g4
   refine sh fol ((3,.gslice 0 b.length 7)::(6,vl qJ l)::(7,.i (l.length:Int))::(kAg d (decide (d<(l.length:Int))))) ?_
   refine sq ?_
   refine ihD g4 (fun n g4=>?_) (fun n g4=>?_)
   ·refine Goes.skip ?_
    refine sq (Goes.block ?_)
    obtain⟨a,e,g4⟩:=bnd g4
    refine sq (gq fol [0,1] ((3,.gslice 0 b.length 7)::(5,.ptr 1 0)::(6,vl qJ l)::(kAE (l.length:Int) d)) (kW b (kE a.Kind a.Day a.Lot a.Amount a.Yarn a.Dye a.Order [])) (ac (iv quP qJ e) (ac (la ag56 qJ e) az)) ?_)
    obtain⟨f,j,g4⟩:=bnd g4
    refine gq fol [3] ((3,.gslice 3 f.length 7)::(6,vl qJ l)::(kAE (l.length:Int) d)) (.dead::(kE a.Kind a.Day a.Lot a.Amount a.Yarn a.Dye a.Order (kE a.Kind a.Day a.Lot a.Amount a.Yarn a.Dye a.Order (kW f [])))) (ac (hs (.run [0,2] (qe9 ZT [23,23] (.gslice 0 b.length 7) (.slice 2 0 1 1 7)) (kW b (kE a.Kind a.Day a.Lot a.Amount a.Yarn a.Dye a.Order (kE a.Kind a.Day a.Lot a.Amount a.Yarn a.Dye a.Order []))) (.gslice 3 f.length 7) (.dead::(kE a.Kind a.Day a.Lot a.Amount a.Yarn a.Dye a.Order (kE a.Kind a.Day a.Lot a.Amount a.Yarn a.Dye a.Order (kW f [])))) true) (qjy sl23 (E:=qJ) rfl (qo7 (E:=qJ) (ys:=[a]) rfl rfl rfl rfl) (qqc (E:=qJ) (l:=b) rfl rfl rfl j rfl))) az) ?_
    refine gh fol ((3,.gslice 3 f.length 7)::(6,vl qJ l)::(kAE (l.length:Int) (w64 (d+1)))) ?_
    exact⟨M,(ofG 18 ((3,.gslice 0 f.length 7)::(6,vl qJ l)::(kAE (l.length:Int) (w64 (d+1)))),(kW f [])),Nat.lt_succ_self _,(Sub.norm [] [some 3] rfl rfl (.keep (.gslice rfl) (.keep (.same (zu qJ _)) (.keep (.same nI) (.keep (.same nI) .nil)))) (.ks .nil)),_,_,rfl,g4⟩
   refine Goes.exit ?_
   obtain rfl:=si g4
   exact⟨rfl,_,rfl,(Sub.keep [3] rfl rfl)⟩
 rintro x s' ⟨rfl,g,rfl,hsub⟩
 refine Goes.sub hsub ?_
 refine sh fol [(2,.gslice 0 g.length 7)] ?_
 refine Goes.ret ?_
 obtain rfl:=si h
 exact(gw2 [.gslice 0 g.length 7] (FzW.fz (Fz.gs (E:=qJ) rfl rfl (nl rfl))))
def qeh (e:qw):Option Bool:=
 (if(e.Kind.length:Int)<=60 then
 if(e.Lot.length:Int)<=60 then
 if(e.Yarn.length:Int)<=60 then
 if(e.Dye.length:Int)<=60 then
 some (decide ((e.Order.length:Int)<=60))
 else
 some false
 else
 some false
 else
 some false
 else
 some false:Option Bool).bind fun a=>
 some a
theorem qm6 (e:qw) {res:Bool} (h:qeh e=some res):qE ZT (.fn 22) [.agg (kA e.Kind e.Day e.Lot e.Amount e.Yarn e.Dye e.Order)] [] (.bool res) []:=by
 unfold qeh at h
 refine Uc Tryz.func22 rfl rfl (m:=31) rfl (rs:=[.tmp 2]) rfl (l:=[(0,.agg [.str e.Kind,.i e.Day,.str e.Lot,.i e.Amount,.str e.Yarn,.str e.Dye,.str e.Order])]) rfl ?_
 refine sg fol (kU []) (kE e.Kind e.Day e.Lot e.Amount e.Yarn e.Dye e.Order []) ?_
 refine sq ?_
 obtain⟨g,a,h⟩:=bnd h
 refine Goes.cut (s':=(ofG 31 (kAV g),(kE e.Kind e.Day e.Lot e.Amount e.Yarn e.Dye e.Order []))) ?_ ?_
 ·rcases wyD a with⟨b,a⟩|⟨b,a⟩
  ·rcases wyD a with⟨c,a⟩|⟨c,a⟩
   ·rcases wyD a with⟨d,a⟩|⟨d,a⟩
    ·rcases wyD a with⟨f,a⟩|⟨f,a⟩
     ·obtain rfl:=si a
      exact tr fol [4,10,16,22] (kAV (decide ((e.Order.length:Int)<=60))) (ac (gw b) (ac (gw c) (ac (gw d) (ac (gw f) az))))
     obtain rfl:=si a
     exact tr fol [4,10,16,22] kAQ (ac (gw b) (ac (gw c) (ac (gw d) (ac (gw f) az))))
    obtain rfl:=si a
    exact tr fol [4,10,16] kAQ (ac (gw b) (ac (gw c) (ac (gw d) az)))
   obtain rfl:=si a
   exact tr fol [4,10] kAQ (ac (gw b) (ac (gw c) az))
  obtain rfl:=si a
  exact tr fol [4] kAQ (ac (gw b) az)
 refine Goes.ret ?_
 obtain rfl:=si h
 exact(gw2 [.bool g] (Ub tB))
def qa7 (l:List qw):Nat->Int->Option (Unit⊕Bool)
 |0,_=>none
 |K+1,a=>
  if a<(l.length:Int)then
  (idx l a).bind fun b=>
  (qeh b).bind fun c=>
  if(!c)=true then
  some (.inr false)
  else
  qa7 l K (w64 (a+1))
  else
  some (.inl ())
def qfm (N:Nat) (l:List qw) (n:Int):Option Bool:=
 (if(l.length:Int)>n then
 if(l.length:Int)<=1000 then
 some true
 else
 some (decide ((l.length:Int)>1003))
 else
 some (decide ((l.length:Int)>1003)):Option Bool).bind fun b=>
 if b=true then
 some false
 else
 (qa7 l N 0).bind (fun
 |(.inl ())=>
 some true
 |(.inr a)=>
 some a)
theorem qjC (N:Nat) (l:List qw) (n:Int) {res:Bool} (h:qfm N l n=some res):qE ZT (.fn 9) [vl qJ l,.i n] [] (.bool res) []:=by
 unfold qfm at h
 refine Uc Tryz.func9 rfl rfl (m:=32) rfl (rs:=[.tmp 4]) rfl (l:=(kS l [(1,.i n)])) rfl ?_
 refine sh fol (kS l [(1,.i n)]) ?_
 refine sq ?_
 refine sq ?_
 obtain⟨q,a,h⟩:=bnd h
 refine Goes.cut (s':=(ofG 32 (kS l [(19,.bool q)]),[])) ?_ ?_
 ·rcases wyD a with⟨e,a⟩|⟨e,a⟩
  ·rcases wyD a with⟨f,a⟩|⟨f,a⟩
   ·obtain rfl:=si a
    exact tr fol [4,9] (kS l [(19,.bool true)]) (ac (gw e) (ac (gw f) az))
   obtain rfl:=si a
   exact tr fol [4,9] (kS l [(19,.bool (decide ((l.length:Int)>1003)))]) (ac (gw e) (ac (gw f) az))
  obtain rfl:=si a
  exact tr fol [4] (kS l [(19,.bool (decide ((l.length:Int)>1003)))]) (ac (gw e) az)
 refine ihB h (fun r h=>?_) (fun r h=>?_)
 ·refine sh fol kAr ?_
  refine Goes.ret ?_
  obtain rfl:=si h
  exact(gw2 [.bool false] (Ub tB))
 refine Goes.skip ?_
 refine sq ?_
 refine sh fol (kS l [(5,.i 0)]) ?_
 refine Goes.block ?_
 obtain⟨g,g7,h⟩:=bnd h
 refine Goes.imp (Q:=fun x s'=>(x= .exit 0/\(.inl ())=g/\Sub s' (ofG 32 [],[]))\/(x= .ret/\ ∃p,(.inr p)=g/\jT ZT [.tmp 4] (.bool p) .ret s')) ?_ ?_
 ·refine Ud (fun M s=> ∃(c:Int),s=(ofG 32 (kS l (kAd c)),[])/\qa7 l M c=some g) ?_ (m:=N) ⟨_,rfl,g7⟩
  rintro M s ⟨c,rfl,g7⟩
  cases M with
  |zero=>simp only[qa7]at g7;cases g7
  |succ M=>
   rw[qa7]at g7
   refine sq ?_
   refine sh fol (kS l [(5,.i c),(23,.bool (decide (c<(l.length:Int))))]) ?_
   refine ihD g7 (fun t g7=>?_) (fun t g7=>?_)
   ·refine Goes.skip ?_
    refine sq (Goes.block ?_)
    obtain⟨j,b,g7⟩:=bnd g7
    obtain⟨k,d,g7⟩:=bnd g7
    refine sq (gr fol [2,3,4] (kS l [(5,.i c),(31,.bool (!k))]) (ac (iv sl23 qJ b) (ac (la ag57 qJ b) (ac (cv (qm6 j d)) az))) ?_)
    refine ihB g7 (fun o g7=>?_) (fun o g7=>?_)
    ·refine sh fol kAr ?_
     refine Goes.ret ?_
     obtain rfl:=si g7
     exact Or.inr (⟨rfl,_,rfl,(gw2 [.bool false] (Ub tB))⟩)
    refine Goes.skip ?_
    refine gh fol (kS l (kAd (w64 (c+1)))) ?_
    exact⟨M,(ofG 32 (kS l (kAd (w64 (c+1)))),[]),Nat.lt_succ_self _,(Sub.refl _),_,rfl,g7⟩
   refine Goes.exit ?_
   obtain rfl:=si g7
   exact Or.inl (⟨rfl,rfl,(Sub.keep [] rfl rfl)⟩)
 rintro x s' (⟨rfl,rfl,hsub⟩|⟨rfl,u,rfl,hret⟩)
 ·try dsimp only at h
  refine Goes.sub hsub ?_
  refine sh fol kAk ?_
  refine Goes.ret ?_
  obtain rfl:=si h
  exact(gw2 [.bool true] (Ub tB))
 try dsimp only at h
 obtain rfl:=si h
 exact hret
def qd2 (l:List Int):Nat->Int->Option (Unit⊕Int)
 |0,_=>none
 |K+1,a=>
  if a<(l.length:Int)then
  (idx l a).bind fun b=>
  if(!decide (b=0))=true then
  some (.inr b)
  else
  qd2 l K (w64 (a+1))
  else
  some (.inl ())
def qbt (N:Nat) (l:List Int):Option Int:=
 (qd2 l N 0).bind (fun
 |(.inl ())=>
 some 0
 |(.inr a)=>
 some a)
theorem qbb (N:Nat) (l:List Int) {res:Int} (h:qbt N l=some res):qE ZT (.fn 50) [vl encI l] [] (.i res) []:=by
 unfold qbt at h
 refine Uc Tryz.func50 rfl rfl (m:=15) rfl (rs:=[.tmp 2]) rfl (l:=[(0,vl encI l)]) rfl ?_
 refine sh fol [(0,vl encI l)] ?_
 refine sq ?_
 refine sh fol [(5,vl encI l),(6,.i (l.length:Int)),(7,.i 0)] ?_
 refine Goes.block ?_
 obtain⟨d,g2,h⟩:=bnd h
 refine Goes.imp (Q:=fun x s'=>(x= .exit 0/\(.inl ())=d/\Sub s' (ofG 15 [],[]))\/(x= .ret/\ ∃e,(.inr e)=d/\jT ZT [.tmp 2] (.i e) .ret s')) ?_ ?_
 ·refine Ud (fun M s=> ∃(a:Int),s=(ofG 15 [(5,vl encI l),(6,.i (l.length:Int)),(7,.i a)],[])/\qd2 l M a=some d) ?_ (m:=N) ⟨_,rfl,g2⟩
  rintro M s ⟨a,rfl,g2⟩
  cases M with
  |zero=>simp only[qd2]at g2;cases g2
  |succ M=>
   rw[qd2]at g2
   refine sh fol [(5,vl encI l),(6,.i (l.length:Int)),(7,.i a),(8,.bool (decide (a<(l.length:Int))))] ?_
   refine sq ?_
   refine ihD g2 (fun f g2=>?_) (fun f g2=>?_)
   ·refine Goes.skip ?_
    refine sq (Goes.block ?_)
    obtain⟨c,b,g2⟩:=bnd g2
    refine sq (gr fol [0,1] [(4,.i c),(5,vl encI l),(6,.i (l.length:Int)),(7,.i a)] (ac (iv sl179 encI b) (ac (lv 0 ce32 encI b rfl) az)) ?_)
    refine sh fol [(4,.i c),(5,vl encI l),(6,.i (l.length:Int)),(7,.i a),(12,.bool (!decide (c=0)))] ?_
    refine ihB g2 (fun g g2=>?_) (fun g g2=>?_)
    ·refine sh fol (kAt c) ?_
     refine Goes.ret ?_
     obtain rfl:=si g2
     exact Or.inr (⟨rfl,_,rfl,(gw2 [.i c] (Ub tI))⟩)
    refine Goes.skip ?_
    refine gh fol [(5,vl encI l),(6,.i (l.length:Int)),(7,.i (w64 (a+1)))] ?_
    exact⟨M,(ofG 15 [(5,vl encI l),(6,.i (l.length:Int)),(7,.i (w64 (a+1)))],[]),Nat.lt_succ_self _,(Sub.refl _),_,rfl,g2⟩
   refine Goes.exit ?_
   obtain rfl:=si g2
   exact Or.inl (⟨rfl,rfl,(Sub.keep [] rfl rfl)⟩)
 rintro x s' (⟨rfl,rfl,hsub⟩|⟨rfl,j,rfl,hret⟩)
 ·try dsimp only at h
  refine Goes.sub hsub ?_
  refine sh fol [(2,.i 0)] ?_
  refine Goes.ret ?_
  obtain rfl:=si h
  exact(gw2 [.i 0] (Ub tI))
 try dsimp only at h
 obtain rfl:=si h
 exact hret
def qak (holds:Bool) (e:Int):Option Int:=
 if holds=true then
 some e
 else
 some 0
theorem vF (holds:Bool) (e:Int) {res:Int} (h:qak holds e=some res):qE ZT (.fn 58) [.bool holds,.i e] [] (.i res) []:=by
 unfold qak at h
 refine Uc Tryz.func58 rfl rfl (m:=7) rfl (rs:=[.tmp 4]) rfl (l:=[(0,.bool holds),(1,.i e)]) rfl ?_
 refine sh fol [(0,.bool holds),(1,.i e)] ?_
 refine sq ?_
 refine sh fol [(1,.i e),(5,.bool holds)] ?_
 refine ihB h (fun a h=>?_) (fun a h=>?_)
 ·refine sh fol (kAn e) ?_
  refine Goes.ret ?_
  obtain rfl:=si h
  exact(gw2 [.i e] (Ub tI))
 refine Goes.skip ?_
 refine sh fol [(4,.i 0)] ?_
 refine Goes.ret ?_
 obtain rfl:=si h
 exact(gw2 [.i 0] (Ub tI))
def qdt (n:Int) (least:Int) (most:Int):Option Int:=
 (if n<least then
 (qak true 3).bind fun a=>
 some a
 else
 (qak (decide (n>most)) 3).bind fun b=>
 some b:Option Int).bind fun c=>
 some c
theorem qcR (n:Int) (least:Int) (most:Int) {res:Int} (h:qdt n least most=some res):qE ZT (.fn 51) [.i n,.i least,.i most] [] (.i res) []:=by
 unfold qdt at h
 refine Uc Tryz.func51 rfl rfl (m:=16) rfl (rs:=[.tmp 6]) rfl (l:=((0,.i n)::(1,.i least)::(kAt most))) rfl ?_
 refine sh fol ((0,.i n)::(1,.i least)::(kAt most)) ?_
 refine sq ?_
 obtain⟨e,a,h⟩:=bnd h
 refine Goes.cut (s':=(ofG 16 [(6,.i e)],[])) ?_ ?_
 ·rcases wyD a with⟨d,a⟩|⟨d,a⟩
  ·obtain⟨f,b,a⟩:=bnd a
   obtain rfl:=si a
   exact tr fol [3,8] [(6,.i f)] (ac (gw d) (ac (cv (vF true 3 b)) az))
  obtain⟨g,c,a⟩:=bnd a
  obtain rfl:=si a
  exact tr fol [3,8] [(6,.i g)] (ac (gw d) (ac (cv (vF (decide (n>most)) 3 c)) az))
 refine Goes.ret ?_
 obtain rfl:=si h
 exact(gw2 [.i e] (Ub tI))
def qdU (c:Int):Option Bool:=
 (if c>=97 then
 if c<=122 then
 some true
 else
 if c>=65 then
 some (decide (c<=90))
 else
 some false
 else
 if c>=65 then
 some (decide (c<=90))
 else
 some false:Option Bool).bind fun a=>
 some a
theorem qdH (c:Int) {res:Bool} (h:qdU c=some res):qE ZT (.fn 183) [.int .i32 c] [] (.bool res) []:=by
 unfold qdU at h
 refine Uc Tryz.func183 rfl rfl (m:=17) rfl (rs:=[.tmp 2]) rfl (l:=[(0,.int .i32 c)]) rfl ?_
 refine sh fol [(0,.int .i32 c)] ?_
 refine sq ?_
 obtain⟨g,a,h⟩:=bnd h
 refine Goes.cut (s':=(ofG 17 (kAV g),[])) ?_ ?_
 ·rcases wyD a with⟨b,a⟩|⟨b,a⟩
  ·rcases wyD a with⟨d,a⟩|⟨d,a⟩
   ·obtain rfl:=si a
    exact tr fol [2,6] [(2,.bool true)] (ac (gw b) (ac (gw d) az))
   rcases wyD a with⟨e,a⟩|⟨e,a⟩
   ·obtain rfl:=si a
    exact tr fol [2,6,9] (kAV (decide (c<=90))) (ac (gw b) (ac (gw d) (ac (gw e) az)))
   obtain rfl:=si a
   exact tr fol [2,6,9] kAQ (ac (gw b) (ac (gw d) (ac (gw e) az)))
  rcases wyD a with⟨f,a⟩|⟨f,a⟩
  ·obtain rfl:=si a
   exact tr fol [2,9] (kAV (decide (c<=90))) (ac (gw b) (ac (gw f) az))
  obtain rfl:=si a
  exact tr fol [2,9] kAQ (ac (gw b) (ac (gw f) az))
 refine Goes.ret ?_
 obtain rfl:=si h
 exact(gw2 [.bool g] (Ub tB))
def qb8 (b:Str):Nat->Nat->Option (Unit⊕Bool)
 |0,_=>none
 |K+1,a=>
  if a<b.length then
  ((qdU (qdQ b a)).bind fun d=>
  if(!d)=true then
  if(a:Int)=0 then
  some true
  else
  if(!decide ((qdQ b a)=95))=true then
  if(qdQ b a)<48 then
  some true
  else
  some (decide ((qdQ b a)>57))
  else
  some false
  else
  some false:Option Bool).bind fun c=>
  if c=true then
  some (.inr false)
  else
  qb8 b K (a+runeLen b a)
  else
  some (.inl ())
def qe4 (N:Nat) (a:Str):Option Bool:=
 (qb8 a N 0).bind (fun
 |(.inl ())=>
 (if(!(a==[]))=true then
 some (decide ((a.length:Int)<=24))
 else
 some false:Option Bool).bind fun b=>
 some b
 |(.inr c)=>
 some c)
theorem qkz (N:Nat) (d:Str) {res:Bool} (h:qe4 N d=some res):qE ZT (.fn 130) [.str d] [] (.bool res) []:=by
 unfold qe4 at h
 refine Uc Tryz.func130 rfl rfl (m:=37) rfl (rs:=[.tmp 2]) rfl (l:=[(0,.str d)]) rfl ?_
 refine sh fol [(0,.str d)] ?_
 refine sq ?_
 refine sg fol (kAa d []) [.iter d 0] ?_
 refine Goes.block ?_
 obtain⟨r,g2,h⟩:=bnd h
 refine Goes.imp (Q:=fun x s'=>(x= .exit 0/\(.inl ())=r/\Sub s' (ofG 37 [(0,.str d)],[]))\/(x= .ret/\ ∃w,(.inr w)=r/\jT ZT [.tmp 2] (.bool w) .ret s')) ?_ ?_
 ·refine Goes.sub (s':=(ofG 37 (kAa d []),[.iter d 0])) (Sub.keep [0,6] rfl rfl) ?_
  refine Ud (fun M s=> ∃(e:Nat),s=(ofG 37 (kAa d []),[.iter d e])/\qb8 d M e=some r) ?_ (m:=N) ⟨_,rfl,g2⟩
  rintro M s ⟨e,rfl,g2⟩
  cases M with
  |zero=>simp only[qb8]at g2;cases g2
  |succ M=>
   rw[qb8]at g2
   refine sq ?_
   rcases Classical.em (e<d.length)with n|n
   ·rw[if_pos n]at g2
    refine gq fol [0] (kAa d [(7,.tuple [.bool true,.i (e:Int),.int .i32 (qdQ d e)]),(8,.bool true)]) [.iter d (e+runeLen d e)] (ac (hs (.run [0] (qop (.ptr 0 0) true) [.iter d e] (.tuple [.bool true,.i (e:Int),.int .i32 (qdQ d e)]) [.iter d (e+runeLen d e)] true) (quV rfl n rfl)) az) ?_
    refine sq ?_
    refine Goes.ifB (b:=true) (by kernel_rfl) (fun _=>?_) (fun c=>(by cases c))
    refine Goes.skip ?_
    refine Goes.block ?_
    refine sh fol (kAc d (e:Int) [(4,.int .i32 (qdQ d e)),(6,.ptr 0 0)]) ?_
    refine sq ?_
    obtain⟨t,a,g2⟩:=bnd g2
    refine Goes.cut (s':=(ofG 37 (kAa d [(29,.bool t)]),[.iter d (e+runeLen d e)])) ?_ ?_
    ·obtain⟨z,g,a⟩:=bnd a
     rcases wyB a with⟨k,a⟩|⟨k,a⟩
     ·rcases wyD a with⟨o,a⟩|⟨o,a⟩
      ·obtain rfl:=si a
       exact tr fol [1,3,6] (kAa d [(29,.bool true)]) (ac (cv (qdH (qdQ d e) g)) (ac (gw k) (ac (gw o) az)))
      rcases wyB a with⟨q,a⟩|⟨q,a⟩
      ·rcases wyD a with⟨u,a⟩|⟨u,a⟩
       ·obtain rfl:=si a
        exact tr fol [1,3,6,9,12] (kAa d [(29,.bool true)]) (ac (cv (qdH (qdQ d e) g)) (ac (gw k) (ac (gw o) (ac (gw q) (ac (gw u) az)))))
       obtain rfl:=si a
       exact tr fol [1,3,6,9,12] (kAa d [(29,.bool (decide ((qdQ d e)>57)))]) (ac (cv (qdH (qdQ d e) g)) (ac (gw k) (ac (gw o) (ac (gw q) (ac (gw u) az)))))
      obtain rfl:=si a
      exact tr fol [1,3,6,9] (kAa d [(29,.bool false)]) (ac (cv (qdH (qdQ d e) g)) (ac (gw k) (ac (gw o) (ac (gw q) az))))
     obtain rfl:=si a
     exact tr fol [1,3] (kAa d [(29,.bool false)]) (ac (cv (qdH (qdQ d e) g)) (ac (gw k) az))
    refine ihB g2 (fun v g2=>?_) (fun v g2=>?_)
    ·refine sh fol kAQ ?_
     refine Goes.ret ?_
     obtain rfl:=si g2
     exact Or.inr (⟨rfl,_,rfl,(gw2 [.bool false] (Ub tB))⟩)
    refine Goes.skip ?_
    exact⟨M,(ofG 37 (kAa d []),[.iter d (e+runeLen d e)]),Nat.lt_succ_self _,(Sub.keep [0,6] rfl rfl),_,rfl,g2⟩
   rw[if_neg n]at g2
   refine gr fol [0] (kAa d [(7,.tuple [.bool false]),(8,.bool false)]) (ac (hs (.run [0] (qop (.ptr 0 0) true) [.iter d e] (.tuple [.bool false]) [.iter d e] false) (qu2 rfl n)) az) ?_
   refine sq ?_
   refine Goes.ifB (b:=false) (by kernel_rfl) (fun c=>(by cases c)) (fun _=>?_)
   refine Goes.exit ?_
   obtain rfl:=si g2
   exact Or.inl (⟨rfl,rfl,(Sub.norm [] [] rfl rfl (.keep (.same nS) .nil) .nil)⟩)
 rintro x s' (⟨rfl,rfl,hsub⟩|⟨rfl,y,rfl,hret⟩)
 ·try dsimp only at h
  refine Goes.sub hsub ?_
  refine sq ?_
  obtain⟨p,f,h⟩:=bnd h
  refine Goes.cut (s':=(ofG 37 (kAV p),[])) ?_ ?_
  ·rcases wyB f with⟨j,f⟩|⟨j,f⟩
   ·obtain rfl:=si f
    exact tr fol [2] (kAV (decide ((d.length:Int)<=24))) (ac (gw j) az)
   obtain rfl:=si f
   exact tr fol [2] kAQ (ac (gw j) az)
  refine Goes.ret ?_
  obtain rfl:=si h
  exact(gw2 [.bool p] (Ub tB))
 try dsimp only at h
 obtain rfl:=si h
 exact hret
def qd9 (N:Nat) (a:Str):Option Int:=
 (qe4 N a).bind fun b=>
 (qak (!b) 8).bind fun c=>
 some c
theorem qdw (N:Nat) (a:Str) {res:Int} (h:qd9 N a=some res):qE ZT (.fn 75) [.str a] [] (.i res) []:=by
 unfold qd9 at h
 refine Uc Tryz.func75 rfl rfl (m:=7) rfl (rs:=[.tmp 2]) rfl (l:=[(0,.str a)]) rfl ?_
 refine sh fol [(0,.str a)] ?_
 obtain⟨e,b,h⟩:=bnd h
 obtain⟨d,c,h⟩:=bnd h
 refine sq (gr fol [1,3] (kAt d) (ac (cv (qkz N a b)) (ac (cv (vF (!e) 8 c)) az)) ?_)
 refine Goes.ret ?_
 obtain rfl:=si h
 exact(gw2 [.i d] (Ub tI))
def qjE (a:ql) (b:Int):Option Bool:=
 some true
theorem qot (a:ql) (b:Int) {res:Bool} (h:qjE a b=some res):qE ZT (.fn 132) (kZ a.lot.Name a.lot.Yarn a.lot.Dye a.lot.Stock a.known a.hold.Lot a.hold.Order a.hold.Reserved a.hold.Taken a.free b) [] (.bool res) []:=by
 unfold qjE at h
 refine Uc Tryz.func132 rfl rfl (m:=5) rfl (rs:=[.tmp 4]) rfl (l:=(kV a.lot.Name a.lot.Yarn a.lot.Dye a.lot.Stock a.known a.hold.Lot a.hold.Order a.hold.Reserved a.hold.Taken a.free b)) rfl ?_
 refine sg fol [] (kC a.lot.Name a.lot.Yarn a.lot.Dye a.lot.Stock a.known a.hold.Lot a.hold.Order a.hold.Reserved a.hold.Taken a.free []) ?_
 refine sh fol kAk ?_
 refine Goes.ret ?_
 obtain rfl:=si h
 exact(gw2 [.bool true] (Ub tB))
def qfO (a:ql) (n:Int):Option ql:=
 some (⟨(⟨a.lot.Name,a.lot.Yarn,a.lot.Dye,w64 (a.lot.Stock+n)⟩:qH),a.known,a.hold,a.free⟩:ql)
theorem qj4 (a:ql) (n:Int) {res:ql} (h:qfO a n=some res):qE ZT (.fn 133) (kZ a.lot.Name a.lot.Yarn a.lot.Dye a.lot.Stock a.known a.hold.Lot a.hold.Order a.hold.Reserved a.hold.Taken a.free n) [] (.agg (.str res.lot.Name::(kB res.lot.Yarn res.lot.Dye res.lot.Stock res.known res.hold.Lot res.hold.Order res.hold.Reserved res.hold.Taken res.free))) []:=by
 unfold qfO at h
 refine Uc Tryz.func133 rfl rfl (m:=13) rfl (rs:=[.cell 4 182]) rfl (l:=(kV a.lot.Name a.lot.Yarn a.lot.Dye a.lot.Stock a.known a.hold.Lot a.hold.Order a.hold.Reserved a.hold.Taken a.free n)) rfl ?_
 refine sg fol ((1,.i n)::(kQ [])) (kC a.lot.Name a.lot.Yarn a.lot.Dye a.lot.Stock a.known a.hold.Lot a.hold.Order a.hold.Reserved a.hold.Taken a.free (kI [])) ?_
 refine sg fol (kQ []) (kC a.lot.Name a.lot.Yarn a.lot.Dye (w64 (a.lot.Stock+n)) a.known a.hold.Lot a.hold.Order a.hold.Reserved a.hold.Taken a.free (kI [])) ?_
 refine sg fol (kAe []) (kC a.lot.Name a.lot.Yarn a.lot.Dye (w64 (a.lot.Stock+n)) a.known a.hold.Lot a.hold.Order a.hold.Reserved a.hold.Taken a.free (kC a.lot.Name a.lot.Yarn a.lot.Dye (w64 (a.lot.Stock+n)) a.known a.hold.Lot a.hold.Order a.hold.Reserved a.hold.Taken a.free [])) ?_
 refine Goes.ret ?_
 obtain rfl:=si h
 exact(gw2 [.agg (.str a.lot.Name::(kB a.lot.Yarn a.lot.Dye (w64 (a.lot.Stock+n)) a.known a.hold.Lot a.hold.Order a.hold.Reserved a.hold.Taken a.free))] (FzW.agg (ky.cons (Ub tS) (ky.cons (Ub tS) (ky.cons (Ub tS) (ky.cons (Ub tI) (ky.cons (Ub tB) (ky.cons (Ub tS) (ky.cons (Ub tS) (ky.cons (Ub tI) (ky.cons (Ub tI) (ky.cons (Ub tI) ky.nil))))))))))))
def qjS (a:ql) (n:Int):Option Bool:=
 some (decide (n<=a.free))
theorem qo3 (a:ql) (n:Int) {res:Bool} (h:qjS a n=some res):qE ZT (.fn 134) (kZ a.lot.Name a.lot.Yarn a.lot.Dye a.lot.Stock a.known a.hold.Lot a.hold.Order a.hold.Reserved a.hold.Taken a.free n) [] (.bool res) []:=by
 unfold qjS at h
 refine Uc Tryz.func134 rfl rfl (m:=9) rfl (rs:=[.tmp 4]) rfl (l:=(kV a.lot.Name a.lot.Yarn a.lot.Dye a.lot.Stock a.known a.hold.Lot a.hold.Order a.hold.Reserved a.hold.Taken a.free n)) rfl ?_
 refine sg fol ((1,.i n)::(kAC [])) (kC a.lot.Name a.lot.Yarn a.lot.Dye a.lot.Stock a.known a.hold.Lot a.hold.Order a.hold.Reserved a.hold.Taken a.free []) ?_
 refine sh fol [(4,.bool (decide (n<=a.free)))] ?_
 refine Goes.ret ?_
 obtain rfl:=si h
 exact(gw2 [.bool (decide (n<=a.free))] (Ub tB))
def qdJ (a:ql) (n:Int):Option ql:=
 some (⟨a.lot,a.known,(⟨a.hold.Lot,a.hold.Order,w64 (a.hold.Reserved+n),a.hold.Taken⟩:qp),a.free⟩:ql)
theorem qfP (a:ql) (n:Int) {res:ql} (h:qdJ a n=some res):qE ZT (.fn 136) (kZ a.lot.Name a.lot.Yarn a.lot.Dye a.lot.Stock a.known a.hold.Lot a.hold.Order a.hold.Reserved a.hold.Taken a.free n) [] (.agg (.str res.lot.Name::(kB res.lot.Yarn res.lot.Dye res.lot.Stock res.known res.hold.Lot res.hold.Order res.hold.Reserved res.hold.Taken res.free))) []:=by
 unfold qdJ at h
 refine Uc Tryz.func136 rfl rfl (m:=13) rfl (rs:=[.cell 4 182]) rfl (l:=(kV a.lot.Name a.lot.Yarn a.lot.Dye a.lot.Stock a.known a.hold.Lot a.hold.Order a.hold.Reserved a.hold.Taken a.free n)) rfl ?_
 refine sg fol ((1,.i n)::(kQ [])) (kC a.lot.Name a.lot.Yarn a.lot.Dye a.lot.Stock a.known a.hold.Lot a.hold.Order a.hold.Reserved a.hold.Taken a.free (kI [])) ?_
 refine sg fol (kQ []) (kC a.lot.Name a.lot.Yarn a.lot.Dye a.lot.Stock a.known a.hold.Lot a.hold.Order (w64 (a.hold.Reserved+n)) a.hold.Taken a.free (kI [])) ?_
 refine sg fol (kAe []) (kC a.lot.Name a.lot.Yarn a.lot.Dye a.lot.Stock a.known a.hold.Lot a.hold.Order (w64 (a.hold.Reserved+n)) a.hold.Taken a.free (kC a.lot.Name a.lot.Yarn a.lot.Dye a.lot.Stock a.known a.hold.Lot a.hold.Order (w64 (a.hold.Reserved+n)) a.hold.Taken a.free [])) ?_
 refine Goes.ret ?_
 obtain rfl:=si h
 exact(gw2 [.agg (.str a.lot.Name::(kB a.lot.Yarn a.lot.Dye a.lot.Stock a.known a.hold.Lot a.hold.Order (w64 (a.hold.Reserved+n)) a.hold.Taken a.free))] (FzW.agg (ky.cons (Ub tS) (ky.cons (Ub tS) (ky.cons (Ub tS) (ky.cons (Ub tI) (ky.cons (Ub tB) (ky.cons (Ub tS) (ky.cons (Ub tS) (ky.cons (Ub tI) (ky.cons (Ub tI) (ky.cons (Ub tI) ky.nil))))))))))))
def qfV (a:ql) (n:Int):Option ql:=
 (qdJ a n).bind fun b=>
 some b
theorem qkd (a:ql) (n:Int) {res:ql} (h:qfV a n=some res):qE ZT (.fn 135) (kZ a.lot.Name a.lot.Yarn a.lot.Dye a.lot.Stock a.known a.hold.Lot a.hold.Order a.hold.Reserved a.hold.Taken a.free n) [] (.agg (.str res.lot.Name::(kB res.lot.Yarn res.lot.Dye res.lot.Stock res.known res.hold.Lot res.hold.Order res.hold.Reserved res.hold.Taken res.free))) []:=by
 unfold qfV at h
 refine Uc Tryz.func135 rfl rfl (m:=8) rfl (rs:=[.cell 4 182]) rfl (l:=(kV a.lot.Name a.lot.Yarn a.lot.Dye a.lot.Stock a.known a.hold.Lot a.hold.Order a.hold.Reserved a.hold.Taken a.free n)) rfl ?_
 refine sg fol ((1,.i n)::(kQ [])) (kC a.lot.Name a.lot.Yarn a.lot.Dye a.lot.Stock a.known a.hold.Lot a.hold.Order a.hold.Reserved a.hold.Taken a.free (kI [])) ?_
 obtain⟨b,c,h⟩:=bnd h
 refine sq (gq fol [2] (kAe []) (kC a.lot.Name a.lot.Yarn a.lot.Dye a.lot.Stock a.known a.hold.Lot a.hold.Order a.hold.Reserved a.hold.Taken a.free (kC b.lot.Name b.lot.Yarn b.lot.Dye b.lot.Stock b.known b.hold.Lot b.hold.Order b.hold.Reserved b.hold.Taken b.free [])) (ac (cv (qfP a n c)) az) ?_)
 refine Goes.ret ?_
 obtain rfl:=si h
 exact(gw2 [.agg (.str b.lot.Name::(kB b.lot.Yarn b.lot.Dye b.lot.Stock b.known b.hold.Lot b.hold.Order b.hold.Reserved b.hold.Taken b.free))] (FzW.agg (ky.cons (Ub tS) (ky.cons (Ub tS) (ky.cons (Ub tS) (ky.cons (Ub tI) (ky.cons (Ub tB) (ky.cons (Ub tS) (ky.cons (Ub tS) (ky.cons (Ub tI) (ky.cons (Ub tI) (ky.cons (Ub tI) ky.nil))))))))))))
def qjU (a:ql) (n:Int):Option Bool:=
 some (decide (n<=a.hold.Reserved))
theorem qoO (a:ql) (n:Int) {res:Bool} (h:qjU a n=some res):qE ZT (.fn 137) (kZ a.lot.Name a.lot.Yarn a.lot.Dye a.lot.Stock a.known a.hold.Lot a.hold.Order a.hold.Reserved a.hold.Taken a.free n) [] (.bool res) []:=by
 unfold qjU at h
 refine Uc Tryz.func137 rfl rfl (m:=10) rfl (rs:=[.tmp 4]) rfl (l:=(kV a.lot.Name a.lot.Yarn a.lot.Dye a.lot.Stock a.known a.hold.Lot a.hold.Order a.hold.Reserved a.hold.Taken a.free n)) rfl ?_
 refine sg fol ((1,.i n)::(kAC [])) (kC a.lot.Name a.lot.Yarn a.lot.Dye a.lot.Stock a.known a.hold.Lot a.hold.Order a.hold.Reserved a.hold.Taken a.free []) ?_
 refine sh fol [(4,.bool (decide (n<=a.hold.Reserved)))] ?_
 refine Goes.ret ?_
 obtain rfl:=si h
 exact(gw2 [.bool (decide (n<=a.hold.Reserved))] (Ub tB))
def qfL (a:ql) (n:Int):Option ql:=
 (qdJ a (w64 (0-n))).bind fun b=>
 some b
theorem qkq (a:ql) (n:Int) {res:ql} (h:qfL a n=some res):qE ZT (.fn 138) (kZ a.lot.Name a.lot.Yarn a.lot.Dye a.lot.Stock a.known a.hold.Lot a.hold.Order a.hold.Reserved a.hold.Taken a.free n) [] (.agg (.str res.lot.Name::(kB res.lot.Yarn res.lot.Dye res.lot.Stock res.known res.hold.Lot res.hold.Order res.hold.Reserved res.hold.Taken res.free))) []:=by
 unfold qfL at h
 refine Uc Tryz.func138 rfl rfl (m:=9) rfl (rs:=[.cell 4 182]) rfl (l:=(kV a.lot.Name a.lot.Yarn a.lot.Dye a.lot.Stock a.known a.hold.Lot a.hold.Order a.hold.Reserved a.hold.Taken a.free n)) rfl ?_
 refine sg fol ((1,.i n)::(kQ [])) (kC a.lot.Name a.lot.Yarn a.lot.Dye a.lot.Stock a.known a.hold.Lot a.hold.Order a.hold.Reserved a.hold.Taken a.free (kI [])) ?_
 obtain⟨b,c,h⟩:=bnd h
 refine sq (gq fol [3] (kAe []) (kC a.lot.Name a.lot.Yarn a.lot.Dye a.lot.Stock a.known a.hold.Lot a.hold.Order a.hold.Reserved a.hold.Taken a.free (kC b.lot.Name b.lot.Yarn b.lot.Dye b.lot.Stock b.known b.hold.Lot b.hold.Order b.hold.Reserved b.hold.Taken b.free [])) (ac (cv (qfP a (w64 (0-n)) c)) az) ?_)
 refine Goes.ret ?_
 obtain rfl:=si h
 exact(gw2 [.agg (.str b.lot.Name::(kB b.lot.Yarn b.lot.Dye b.lot.Stock b.known b.hold.Lot b.hold.Order b.hold.Reserved b.hold.Taken b.free))] (FzW.agg (ky.cons (Ub tS) (ky.cons (Ub tS) (ky.cons (Ub tS) (ky.cons (Ub tI) (ky.cons (Ub tB) (ky.cons (Ub tS) (ky.cons (Ub tS) (ky.cons (Ub tI) (ky.cons (Ub tI) (ky.cons (Ub tI) ky.nil))))))))))))
def qjQ (a:ql) (n:Int):Option Bool:=
 some (decide (n<=(w64 (a.free+a.hold.Reserved))))
theorem qoU (a:ql) (n:Int) {res:Bool} (h:qjQ a n=some res):qE ZT (.fn 139) (kZ a.lot.Name a.lot.Yarn a.lot.Dye a.lot.Stock a.known a.hold.Lot a.hold.Order a.hold.Reserved a.hold.Taken a.free n) [] (.bool res) []:=by
 unfold qjQ at h
 refine Uc Tryz.func139 rfl rfl (m:=13) rfl (rs:=[.tmp 4]) rfl (l:=(kV a.lot.Name a.lot.Yarn a.lot.Dye a.lot.Stock a.known a.hold.Lot a.hold.Order a.hold.Reserved a.hold.Taken a.free n)) rfl ?_
 refine sg fol ((1,.i n)::(kAC [])) (kC a.lot.Name a.lot.Yarn a.lot.Dye a.lot.Stock a.known a.hold.Lot a.hold.Order a.hold.Reserved a.hold.Taken a.free []) ?_
 refine sh fol [(4,.bool (decide (n<=(w64 (a.free+a.hold.Reserved)))))] ?_
 refine Goes.ret ?_
 obtain rfl:=si h
 exact(gw2 [.bool (decide (n<=(w64 (a.free+a.hold.Reserved))))] (Ub tB))
def qiE (a:ql) (n:Int):Option ql:=
 some (⟨(⟨a.lot.Name,a.lot.Yarn,a.lot.Dye,w64 (a.lot.Stock-n)⟩:qH),a.known,(⟨a.hold.Lot,a.hold.Order,(if(w64 (a.hold.Reserved-n))>0 then(w64 (a.hold.Reserved-n))else 0),w64 (a.hold.Taken+n)⟩:qp),a.free⟩:ql)
theorem qni (a:ql) (n:Int) {res:ql} (h:qiE a n=some res):qE ZT (.fn 140) (kZ a.lot.Name a.lot.Yarn a.lot.Dye a.lot.Stock a.known a.hold.Lot a.hold.Order a.hold.Reserved a.hold.Taken a.free n) [] (.agg (.str res.lot.Name::(kB res.lot.Yarn res.lot.Dye res.lot.Stock res.known res.hold.Lot res.hold.Order res.hold.Reserved res.hold.Taken res.free))) []:=by
 unfold qiE at h
 refine Uc Tryz.func140 rfl rfl (m:=28) rfl (rs:=[.cell 4 182]) rfl (l:=(kV a.lot.Name a.lot.Yarn a.lot.Dye a.lot.Stock a.known a.hold.Lot a.hold.Order a.hold.Reserved a.hold.Taken a.free n)) rfl ?_
 refine sg fol ((1,.i n)::(kQ [])) (kC a.lot.Name a.lot.Yarn a.lot.Dye a.lot.Stock a.known a.hold.Lot a.hold.Order a.hold.Reserved a.hold.Taken a.free (kI [])) ?_
 refine sg fol ((1,.i n)::(kQ [])) (kC a.lot.Name a.lot.Yarn a.lot.Dye (w64 (a.lot.Stock-n)) a.known a.hold.Lot a.hold.Order a.hold.Reserved a.hold.Taken a.free (kI [])) ?_
 refine sg fol ((1,.i n)::(kQ [])) (kC a.lot.Name a.lot.Yarn a.lot.Dye (w64 (a.lot.Stock-n)) a.known a.hold.Lot a.hold.Order a.hold.Reserved (w64 (a.hold.Taken+n)) a.free (kI [])) ?_
 refine sg fol (kQ []) (kC a.lot.Name a.lot.Yarn a.lot.Dye (w64 (a.lot.Stock-n)) a.known a.hold.Lot a.hold.Order (if(w64 (a.hold.Reserved-n))>0 then(w64 (a.hold.Reserved-n))else 0) (w64 (a.hold.Taken+n)) a.free (kI [])) ?_
 refine sg fol (kAe []) (kC a.lot.Name a.lot.Yarn a.lot.Dye (w64 (a.lot.Stock-n)) a.known a.hold.Lot a.hold.Order (if(w64 (a.hold.Reserved-n))>0 then(w64 (a.hold.Reserved-n))else 0) (w64 (a.hold.Taken+n)) a.free (kC a.lot.Name a.lot.Yarn a.lot.Dye (w64 (a.lot.Stock-n)) a.known a.hold.Lot a.hold.Order (if(w64 (a.hold.Reserved-n))>0 then(w64 (a.hold.Reserved-n))else 0) (w64 (a.hold.Taken+n)) a.free [])) ?_
 refine Goes.ret ?_
 obtain rfl:=si h
 exact(gw2 [.agg (.str a.lot.Name::(kB a.lot.Yarn a.lot.Dye (w64 (a.lot.Stock-n)) a.known a.hold.Lot a.hold.Order (if(w64 (a.hold.Reserved-n))>0 then(w64 (a.hold.Reserved-n))else 0) (w64 (a.hold.Taken+n)) a.free))] (FzW.agg (ky.cons (Ub tS) (ky.cons (Ub tS) (ky.cons (Ub tS) (ky.cons (Ub tI) (ky.cons (Ub tB) (ky.cons (Ub tS) (ky.cons (Ub tS) (ky.cons (Ub tI) (ky.cons (Ub tI) (ky.cons (Ub tI) ky.nil))))))))))))
def qj3 (a:ql) (n:Int):Option Bool:=
 some (decide (n<=a.hold.Taken))
theorem qoN (a:ql) (n:Int) {res:Bool} (h:qj3 a n=some res):qE ZT (.fn 141) (kZ a.lot.Name a.lot.Yarn a.lot.Dye a.lot.Stock a.known a.hold.Lot a.hold.Order a.hold.Reserved a.hold.Taken a.free n) [] (.bool res) []:=by
 unfold qj3 at h
 refine Uc Tryz.func141 rfl rfl (m:=10) rfl (rs:=[.tmp 4]) rfl (l:=(kV a.lot.Name a.lot.Yarn a.lot.Dye a.lot.Stock a.known a.hold.Lot a.hold.Order a.hold.Reserved a.hold.Taken a.free n)) rfl ?_
 refine sg fol ((1,.i n)::(kAC [])) (kC a.lot.Name a.lot.Yarn a.lot.Dye a.lot.Stock a.known a.hold.Lot a.hold.Order a.hold.Reserved a.hold.Taken a.free []) ?_
 refine sh fol [(4,.bool (decide (n<=a.hold.Taken)))] ?_
 refine Goes.ret ?_
 obtain rfl:=si h
 exact(gw2 [.bool (decide (n<=a.hold.Taken))] (Ub tB))
def qfU (a:ql) (n:Int):Option ql:=
 some (⟨(⟨a.lot.Name,a.lot.Yarn,a.lot.Dye,w64 (a.lot.Stock+n)⟩:qH),a.known,(⟨a.hold.Lot,a.hold.Order,a.hold.Reserved,w64 (a.hold.Taken-n)⟩:qp),a.free⟩:ql)
theorem qkk (a:ql) (n:Int) {res:ql} (h:qfU a n=some res):qE ZT (.fn 142) (kZ a.lot.Name a.lot.Yarn a.lot.Dye a.lot.Stock a.known a.hold.Lot a.hold.Order a.hold.Reserved a.hold.Taken a.free n) [] (.agg (.str res.lot.Name::(kB res.lot.Yarn res.lot.Dye res.lot.Stock res.known res.hold.Lot res.hold.Order res.hold.Reserved res.hold.Taken res.free))) []:=by
 unfold qfU at h
 refine Uc Tryz.func142 rfl rfl (m:=20) rfl (rs:=[.cell 4 182]) rfl (l:=(kV a.lot.Name a.lot.Yarn a.lot.Dye a.lot.Stock a.known a.hold.Lot a.hold.Order a.hold.Reserved a.hold.Taken a.free n)) rfl ?_
 refine sg fol ((1,.i n)::(kQ [])) (kC a.lot.Name a.lot.Yarn a.lot.Dye a.lot.Stock a.known a.hold.Lot a.hold.Order a.hold.Reserved a.hold.Taken a.free (kI [])) ?_
 refine sg fol ((1,.i n)::(kQ [])) (kC a.lot.Name a.lot.Yarn a.lot.Dye (w64 (a.lot.Stock+n)) a.known a.hold.Lot a.hold.Order a.hold.Reserved a.hold.Taken a.free (kI [])) ?_
 refine sg fol (kQ []) (kC a.lot.Name a.lot.Yarn a.lot.Dye (w64 (a.lot.Stock+n)) a.known a.hold.Lot a.hold.Order a.hold.Reserved (w64 (a.hold.Taken-n)) a.free (kI [])) ?_
 refine sg fol (kAe []) (kC a.lot.Name a.lot.Yarn a.lot.Dye (w64 (a.lot.Stock+n)) a.known a.hold.Lot a.hold.Order a.hold.Reserved (w64 (a.hold.Taken-n)) a.free (kC a.lot.Name a.lot.Yarn a.lot.Dye (w64 (a.lot.Stock+n)) a.known a.hold.Lot a.hold.Order a.hold.Reserved (w64 (a.hold.Taken-n)) a.free [])) ?_
 refine Goes.ret ?_
 obtain rfl:=si h
 exact(gw2 [.agg (.str a.lot.Name::(kB a.lot.Yarn a.lot.Dye (w64 (a.lot.Stock+n)) a.known a.hold.Lot a.hold.Order a.hold.Reserved (w64 (a.hold.Taken-n)) a.free))] (FzW.agg (ky.cons (Ub tS) (ky.cons (Ub tS) (ky.cons (Ub tS) (ky.cons (Ub tI) (ky.cons (Ub tB) (ky.cons (Ub tS) (ky.cons (Ub tS) (ky.cons (Ub tI) (ky.cons (Ub tI) (ky.cons (Ub tI) ky.nil))))))))))))
def qd0:Option Unit:=
 some ()
theorem vR {res:Unit} (h:qd0=some res):qE ZT (.fn 78) [] [] (fm1) []:=by
 unfold qd0 at h
 refine Uc Tryz.func78 rfl rfl (m:=8) rfl (rs:=[.tmp 0]) rfl (l:=[]) rfl ?_
 refine sh fol [] ?_
 refine sg fol [(0,.map 0)] [.map kAX [.agg [.func (.func 132) [] [],.func (.func 133) [] []],.agg [.func (.func 134) [] [],.func (.func 135) [] []],.agg [.func (.func 137) [] [],.func (.func 138) [] []],.agg [.func (.func 139) [] [],.func (.func 140) [] []],.agg [.func (.func 141) [] [],.func (.func 142) [] []]]] ?_
 refine Goes.ret ?_
 obtain rfl:=si h
 exact(gw2 [.map 0] (FzW.of (by kernel_rfl)))
def qeW (N:Nat) (a:Str):Option Int:=
 (if(!(a==[]))=true then
 (qe4 N a).bind fun b=>
 (qak (!b) 8).bind fun c=>
 some c
 else
 (qak false 8).bind fun d=>
 some d:Option Int).bind fun e=>
 some e
theorem qks (N:Nat) (b:Str) {res:Int} (h:qeW N b=some res):qE ZT (.fn 79) [.str b] [] (.i res) []:=by
 unfold qeW at h
 refine Uc Tryz.func79 rfl rfl (m:=11) rfl (rs:=[.tmp 2]) rfl (l:=[(0,.str b)]) rfl ?_
 refine sh fol [(0,.str b)] ?_
 refine sq ?_
 obtain⟨g,a,h⟩:=bnd h
 refine Goes.cut (s':=(ofG 11 (kAt g),[])) ?_ ?_
 ·rcases wyB a with⟨f,a⟩|⟨f,a⟩
  ·obtain⟨j,c,a⟩:=bnd a
   obtain⟨k,d,a⟩:=bnd a
   obtain rfl:=si a
   exact tr fol [2,4,7] (kAt k) (ac (gw f) (ac (cv (qkz N b c)) (ac (cv (vF (!j) 8 d)) az)))
  obtain⟨n,e,a⟩:=bnd a
  obtain rfl:=si a
  exact tr fol [2,7] (kAt n) (ac (gw f) (ac (cv (vF false 8 e)) az))
 refine Goes.ret ?_
 obtain rfl:=si h
 exact(gw2 [.i g] (Ub tI))
def qdV (N:Nat) (e:qw):Option Int:=
 ((qd0).bind fun t=>
 if(e.Kind==[114,101,99,101,105,118,101])=true then
 some true
 else
 if(e.Kind==[114,101,115,101,114,118,101])=true then
 some true
 else
 if(e.Kind==[114,101,108,101,97,115,101])=true then
 some true
 else
 if(e.Kind==[116,97,107,101])=true then
 some true
 else
 if(e.Kind==[114,101,116,117,114,110])=true then
 some true
 else
 some false:Option Bool).bind fun p=>
 (qak (!p) 13).bind fun q=>
 (qdt e.Day 0 99999).bind fun f=>
 (qdt e.Amount 1 999999999).bind fun g=>
 (qd9 N e.Lot).bind fun h=>
 (qbt N ([q,f,g,h]:List Int)).bind fun b=>
 if(!decide (b=0))=true then
 some b
 else
 if(e.Kind==[114,101,99,101,105,118,101])=true then
 (qd9 N e.Yarn).bind fun i=>
 (qeW N e.Dye).bind fun j=>
 (qak (!(e.Order==[])) 1).bind fun k=>
 (qbt N ([i,j,k]:List Int)).bind fun l=>
 some l
 else
 ((qd9 N e.Order).bind fun a=>
 if(!(e.Yarn==[]))=true then
 (qak true 1).bind fun c=>
 (qbt N ([a,c]:List Int)).bind fun m=>
 some (a,c,m)
 else
 (qak (!(e.Dye==[])) 1).bind fun d=>
 (qbt N ([a,d]:List Int)).bind fun n=>
 some (a,d,n):Option (Int×Int×Int)).bind fun(r,s,o)=>
 some o
theorem qiG (N:Nat) (e:qw) {res:Int} (h:qdV N e=some res):qE ZT (.fn 30) [.agg (kA e.Kind e.Day e.Lot e.Amount e.Yarn e.Dye e.Order)] [] (.i res) []:=by
 unfold qdV at h
 refine Uc Tryz.func30 rfl rfl (m:=59) rfl (rs:=[.tmp 2]) rfl (l:=[(0,.agg [.str e.Kind,.i e.Day,.str e.Lot,.i e.Amount,.str e.Yarn,.str e.Dye,.str e.Order])]) rfl ?_
 refine sg fol (kU []) (kE e.Kind e.Day e.Lot e.Amount e.Yarn e.Dye e.Order []) ?_
 refine sq ?_
 obtain⟨Y,a,h⟩:=bnd h
 refine Goes.cutS (s':=(ofG 59 (kU [(4,.bool Y)]),(kE e.Kind e.Day e.Lot e.Amount e.Yarn e.Dye e.Order []))) ?_ ?_
 ·obtain⟨Z,g,a⟩:=bnd a
  rcases wyB a with⟨u,a⟩|⟨u,a⟩
  ·obtain rfl:=si a
   exact qae.sub (qae.rq fol [0,3] (kU kAk) (kE e.Kind e.Day e.Lot e.Amount e.Yarn e.Dye e.Order [.cells [.func (.func 132) [] [],.func (.func 133) [] []]]) (ac (cv (vR g)) (ac (hs (.done (qbk ZT 143 (fm1) (.str e.Kind) true) (.tuple [.agg [.func (.func 132) [] [],.func (.func 133) [] []],.bool true])) (qpP qh0 [[114,101,99,101,105,118,101],[114,101,115,101,114,118,101],[114,101,108,101,97,115,101],[116,97,107,101],[114,101,116,117,114,110]] (qb4 u) rfl)) az))) (Sub.norm [] [some 0] rfl rfl (.kp (.keep (.same nB) .nil)) (.kb rfl (.same sn) .nil))
  rcases wyB a with⟨J,a⟩|⟨J,a⟩
  ·obtain rfl:=si a
   exact qae.sub (qae.rq fol [0,3] (kU kAk) (kE e.Kind e.Day e.Lot e.Amount e.Yarn e.Dye e.Order [.cells [.func (.func 134) [] [],.func (.func 135) [] []]]) (ac (cv (vR g)) (ac (hs (.done (qbk ZT 143 (fm1) (.str e.Kind) true) (.tuple [.agg [.func (.func 134) [] [],.func (.func 135) [] []],.bool true])) (qpP qh0 [[114,101,99,101,105,118,101],[114,101,115,101,114,118,101],[114,101,108,101,97,115,101],[116,97,107,101],[114,101,116,117,114,110]] (zi u (qb4 J)) rfl)) az))) (Sub.norm [] [some 0] rfl rfl (.kp (.keep (.same nB) .nil)) (.kb rfl (.same sn) .nil))
  rcases wyB a with⟨K,a⟩|⟨K,a⟩
  ·obtain rfl:=si a
   exact qae.sub (qae.rq fol [0,3] (kU kAk) (kE e.Kind e.Day e.Lot e.Amount e.Yarn e.Dye e.Order [.cells [.func (.func 137) [] [],.func (.func 138) [] []]]) (ac (cv (vR g)) (ac (hs (.done (qbk ZT 143 (fm1) (.str e.Kind) true) (.tuple [.agg [.func (.func 137) [] [],.func (.func 138) [] []],.bool true])) (qpP qh0 [[114,101,99,101,105,118,101],[114,101,115,101,114,118,101],[114,101,108,101,97,115,101],[116,97,107,101],[114,101,116,117,114,110]] (zi u (zi J (qb4 K))) rfl)) az))) (Sub.norm [] [some 0] rfl rfl (.kp (.keep (.same nB) .nil)) (.kb rfl (.same sn) .nil))
  rcases wyB a with⟨Q,a⟩|⟨Q,a⟩
  ·obtain rfl:=si a
   exact qae.sub (qae.rq fol [0,3] (kU kAk) (kE e.Kind e.Day e.Lot e.Amount e.Yarn e.Dye e.Order [.cells [.func (.func 139) [] [],.func (.func 140) [] []]]) (ac (cv (vR g)) (ac (hs (.done (qbk ZT 143 (fm1) (.str e.Kind) true) (.tuple [.agg [.func (.func 139) [] [],.func (.func 140) [] []],.bool true])) (qpP qh0 [[114,101,99,101,105,118,101],[114,101,115,101,114,118,101],[114,101,108,101,97,115,101],[116,97,107,101],[114,101,116,117,114,110]] (zi u (zi J (zi K (qb4 Q)))) rfl)) az))) (Sub.norm [] [some 0] rfl rfl (.kp (.keep (.same nB) .nil)) (.kb rfl (.same sn) .nil))
  rcases wyB a with⟨T,a⟩|⟨T,a⟩
  ·obtain rfl:=si a
   exact qae.sub (qae.rq fol [0,3] (kU kAk) (kE e.Kind e.Day e.Lot e.Amount e.Yarn e.Dye e.Order [.cells [.func (.func 141) [] [],.func (.func 142) [] []]]) (ac (cv (vR g)) (ac (hs (.done (qbk ZT 143 (fm1) (.str e.Kind) true) (.tuple [.agg [.func (.func 141) [] [],.func (.func 142) [] []],.bool true])) (qpP qh0 [[114,101,99,101,105,118,101],[114,101,115,101,114,118,101],[114,101,108,101,97,115,101],[116,97,107,101],[114,101,116,117,114,110]] (zi u (zi J (zi K (zi Q (qb4 T))))) rfl)) az))) (Sub.norm [] [some 0] rfl rfl (.kp (.keep (.same nB) .nil)) (.kb rfl (.same sn) .nil))
  obtain rfl:=si a
  exact qae.sub (qae.rq fol [0,3] (kU kAr) (kE e.Kind e.Day e.Lot e.Amount e.Yarn e.Dye e.Order [.cells [.nilfunc,.nilfunc]]) (ac (cv (vR g)) (ac (hs (.done (qbk ZT 143 (fm1) (.str e.Kind) true) (.tuple [.agg [.nilfunc,.nilfunc],.bool false])) (qxL qh0 [[114,101,99,101,105,118,101],[114,101,115,101,114,118,101],[114,101,108,101,97,115,101],[116,97,107,101],[114,101,116,117,114,110]] (zi u (zi J (zi K (zi Q (zi T (rfl)))))))) az))) (Sub.norm [] [some 0] rfl rfl (.kp (.keep (.same nB) .nil)) (.kb rfl (.same sn) .nil))
 intro _ hsub
 refine Goes.sub hsub ?_
 refine sq ?_
 obtain⟨n,L,h⟩:=bnd h
 obtain⟨c,v,h⟩:=bnd h
 obtain⟨d,w,h⟩:=bnd h
 obtain⟨f,x,h⟩:=bnd h
 obtain⟨k,y,h⟩:=bnd h
 refine sq (gq fol [2,5,8,11,13] (kU (kAd k)) (kE e.Kind e.Day e.Lot e.Amount e.Yarn e.Dye e.Order [.cells [.i n,.i c,.i d,.i f]]) (ac (cv (vF (!Y) 13 L)) (ac (cv (qcR e.Day 0 99999 v)) (ac (cv (qcR e.Amount 1 999999999 w)) (ac (cv (qdw N e.Lot x)) (ac (hs (.call 50 [.slice 1 0 4 4 1] (kE e.Kind e.Day e.Lot e.Amount e.Yarn e.Dye e.Order [.cells [.i n,.i c,.i d,.i f]]) [1] [vl encI ([n,c,d,f]:List Int)] (.i k)) (qcC (FzL.cons (Fz.lit rfl rfl (Uf (AllST.cons tI (AllST.cons tI (AllST.cons tI (AllST.cons tI AllST.nil)))))) FzL.nil) (qbb N ([n,c,d,f]:List Int) y) tI rfl)) az))))) ?_)
 refine sh fol (kU [(5,.i k),(28,.bool (!decide (k=0)))]) ?_
 refine ihB h (fun U h=>?_) (fun U h=>?_)
 ·refine sh fol (kAt k) ?_
  refine Goes.ret ?_
  obtain rfl:=si h
  exact(gw2 [.i k] (Ub tI))
 refine Goes.skip ?_
 refine sq ?_
 refine sh fol (kU [(32,.bool (e.Kind==[114,101,99,101,105,118,101]))]) ?_
 refine ihB h (fun V h=>?_) (fun V h=>?_)
 ·obtain⟨p,z,h⟩:=bnd h
  obtain⟨q,A,h⟩:=bnd h
  obtain⟨r,B,h⟩:=bnd h
  obtain⟨C,D,h⟩:=bnd h
  refine sq (gq fol [2,5,9,11] (kAt C) (kE e.Kind e.Day e.Lot e.Amount e.Yarn e.Dye e.Order [.cells [.i n,.i c,.i d,.i f],.cells [.i p,.i q,.i r]]) (ac (cv (qdw N e.Yarn z)) (ac (cv (qks N e.Dye A)) (ac (cv (vF (!(e.Order==[])) 1 B)) (ac (hs (.call 50 [.slice 2 0 3 3 1] (kE e.Kind e.Day e.Lot e.Amount e.Yarn e.Dye e.Order [.cells [.i n,.i c,.i d,.i f],.cells [.i p,.i q,.i r]]) [2] [vl encI ([p,q,r]:List Int)] (.i C)) (qcC (FzL.cons (Fz.lit rfl rfl (Uf (AllST.cons tI (AllST.cons tI (AllST.cons tI AllST.nil))))) FzL.nil) (qbb N ([p,q,r]:List Int) D) tI rfl)) az)))) ?_)
  refine Goes.ret ?_
  obtain rfl:=si h
  exact(gw2 [.i C] (Ub tI))
 refine Goes.skip ?_
 refine sq ?_
 obtain⟨⟨W,X,M⟩,b,h⟩:=bnd h
 refine Goes.cut (s':=(ofG 59 (kAt M),(kE e.Kind e.Day e.Lot e.Amount e.Yarn e.Dye e.Order (.cells [.i n,.i c,.i d,.i f]::(kAU W X))))) ?_ ?_
 ·obtain⟨j,o,b⟩:=bnd b
  rcases wyB b with⟨E,b⟩|⟨E,b⟩
  ·obtain⟨s,F,b⟩:=bnd b
   obtain⟨O,G,b⟩:=bnd b
   simp only[ZI,ZP]at b
   obtain⟨rfl,rfl,rfl⟩:=b
   exact qae.rq fol [2,6,11,13] (kAt O) (kE e.Kind e.Day e.Lot e.Amount e.Yarn e.Dye e.Order (.cells [.i n,.i c,.i d,.i f]::(kAU j s))) (ac (cv (qdw N e.Order o)) (ac (gw E) (ac (cv (vF true 1 F)) (ac (hs (.call 50 [.slice 2 0 2 2 1] (kE e.Kind e.Day e.Lot e.Amount e.Yarn e.Dye e.Order (.cells [.i n,.i c,.i d,.i f]::(kAU j s))) [2] [vl encI ([j,s]:List Int)] (.i O)) (qcC (FzL.cons (Fz.lit rfl rfl (Uf (AllST.cons tI (AllST.cons tI AllST.nil)))) FzL.nil) (qbb N ([j,s]:List Int) G) tI rfl)) az))))
  obtain⟨t,H,b⟩:=bnd b
  obtain⟨P,I,b⟩:=bnd b
  simp only[ZI,ZP]at b
  obtain⟨rfl,rfl,rfl⟩:=b
  exact qae.rq fol [2,6,11,13] (kAt P) (kE e.Kind e.Day e.Lot e.Amount e.Yarn e.Dye e.Order (.cells [.i n,.i c,.i d,.i f]::(kAU j t))) (ac (cv (qdw N e.Order o)) (ac (gw E) (ac (cv (vF (!(e.Dye==[])) 1 H)) (ac (hs (.call 50 [.slice 2 0 2 2 1] (kE e.Kind e.Day e.Lot e.Amount e.Yarn e.Dye e.Order (.cells [.i n,.i c,.i d,.i f]::(kAU j t))) [2] [vl encI ([j,t]:List Int)] (.i P)) (qcC (FzL.cons (Fz.lit rfl rfl (Uf (AllST.cons tI (AllST.cons tI AllST.nil)))) FzL.nil) (qbb N ([j,t]:List Int) I) tI rfl)) az))))
 try dsimp only at h
 refine Goes.ret ?_
 obtain rfl:=si h
 exact(gw2 [.i M] (Ub tI))
def qfy (N:Nat) (e:qw) (b:List qw):Option Int:=
 (qdV N e).bind fun a=>
 some a
theorem qm2 (N:Nat) (e:qw) (b:List qw) {res:Int} (h:qfy N e b=some res):qE ZT (.fn 56) [.agg [.str e.Kind,.i e.Day,.str e.Lot,.i e.Amount,.str e.Yarn,.str e.Dye,.str e.Order],vl qJ b] [] (.i res) []:=by
 unfold qfy at h
 refine Uc Tryz.func56 rfl rfl (m:=7) rfl (rs:=[.tmp 4]) rfl (l:=[(0,.agg [.str e.Kind,.i e.Day,.str e.Lot,.i e.Amount,.str e.Yarn,.str e.Dye,.str e.Order]),(1,vl qJ b)]) rfl ?_
 refine sg fol (kAC []) (kE e.Kind e.Day e.Lot e.Amount e.Yarn e.Dye e.Order []) ?_
 obtain⟨c,a,h⟩:=bnd h
 refine sq (gr fol [1] (kAn c) (ac (cv (qiG N e a)) az) ?_)
 refine Goes.ret ?_
 obtain rfl:=si h
 exact(gw2 [.i c] (Ub tI))
def xK (N:Nat) (a:List qw):Nat->Int->Option (Unit⊕Int)
 |0,_=>none
 |K+1,b=>
  if b<(a.length:Int)then
  (idx a b).bind fun d=>
  (cut a 0 b).bind fun e=>
  (qfy N d e).bind fun c=>
  if(!decide (c=0))=true then
  some (.inr c)
  else
  xK N a K (w64 (b+1))
  else
  some (.inl ())
def qeJ (N:Nat) (a:List qw) (b:Int):Option Int:=
 if(a.length:Int)>b then
 some 5
 else
 (xK N a N 0).bind (fun
 |(.inl ())=>
 some 0
 |(.inr c)=>
 some c)
theorem qlk (N:Nat) (a:List qw) (c:Int) {res:Int} (h:qeJ N a c=some res):qE ZT (.fn 55) [vl qJ a,.i c,.func (.func 56) [] []] [] (.i res) []:=by
 unfold qeJ at h
 refine Uc Tryz.func55 rfl rfl (m:=31) rfl (rs:=[.tmp 6]) rfl (l:=(kS a [(1,.i c),(2,.func (.func 56) [] [])])) rfl ?_
 refine sh fol (kS a [(1,.i c),(2,.func (.func 56) [] [])]) ?_
 refine sq ?_
 refine sh fol (kS a [(2,.func (.func 56) [] []),(13,.bool (decide ((a.length:Int)>c)))]) ?_
 refine ihD h (fun p h=>?_) (fun p h=>?_)
 ·refine sh fol [(6,.i 5)] ?_
  refine Goes.ret ?_
  obtain rfl:=si h
  exact(gw2 [.i 5] (Ub tI))
 refine Goes.skip ?_
 refine sq ?_
 refine sh fol (kS a [(2,.func (.func 56) [] []),(14,vl qJ a),(15,.i (a.length:Int)),(16,.i 0)]) ?_
 refine Goes.block ?_
 obtain⟨k,g3,h⟩:=bnd h
 refine Goes.imp (Q:=fun x s'=>(x= .exit 0/\(.inl ())=k/\Sub s' (ofG 31 [],[]))\/(x= .ret/\ ∃n,(.inr n)=k/\jT ZT [.tmp 6] (.i n) .ret s')) ?_ ?_
 ·refine Ud (fun M s=> ∃(b:Int),s=(ofG 31 (kS a ((2,.func (.func 56) [] [])::(14,vl qJ a)::(kAW (a.length:Int) b []))),[])/\xK N a M b=some k) ?_ (m:=N) ⟨_,rfl,g3⟩
  rintro M s ⟨b,rfl,g3⟩
  cases M with
  |zero=>simp only[xK]at g3;cases g3
  |succ M=>
   rw[xK]at g3
   refine sh fol (kS a ((2,.func (.func 56) [] [])::(14,vl qJ a)::(kAW (a.length:Int) b [(17,.bool (decide (b<(a.length:Int))))]))) ?_
   refine sq ?_
   refine ihD g3 (fun q g3=>?_) (fun q g3=>?_)
   ·refine Goes.skip ?_
    refine sq (Goes.block ?_)
    obtain⟨d,e,g3⟩:=bnd g3
    refine sq (gq fol [1,2] (kS a ((2,.func (.func 56) [] [])::(7,.i b)::(8,.ptr 0 0)::(14,vl qJ a)::(kAW (a.length:Int) b []))) (kE d.Kind d.Day d.Lot d.Amount d.Yarn d.Dye d.Order []) (ac (iv quP qJ e) (ac (la ag56 qJ e) az)) ?_)
    obtain⟨o,f,g3⟩:=bnd g3
    obtain⟨g,j,g3⟩:=bnd g3
    refine sq (gr fol [4,5] (kS a ((2,.func (.func 56) [] [])::(9,.i g)::(14,vl qJ a)::(kAW (a.length:Int) b []))) (ac (hs (.done (.opt (qeq ZT 22 (vl qJ a) none (some (.i b)) none)) (vl qJ o)) (qvZ quP (E:=qJ) rfl none (some b) f)) (ac (cv (qm2 N d o j)) az)) ?_)
    refine sh fol (kS a ((2,.func (.func 56) [] [])::(9,.i g)::(14,vl qJ a)::(kAW (a.length:Int) b [(28,.bool (!decide (g=0)))]))) ?_
    refine ihB g3 (fun r g3=>?_) (fun r g3=>?_)
    ·refine sh fol [(6,.i g)] ?_
     refine Goes.ret ?_
     obtain rfl:=si g3
     exact Or.inr (⟨rfl,_,rfl,(gw2 [.i g] (Ub tI))⟩)
    refine Goes.skip ?_
    refine gh fol (kS a ((2,.func (.func 56) [] [])::(14,vl qJ a)::(kAW (a.length:Int) (w64 (b+1)) []))) ?_
    exact⟨M,(ofG 31 (kS a ((2,.func (.func 56) [] [])::(14,vl qJ a)::(kAW (a.length:Int) (w64 (b+1)) []))),[]),Nat.lt_succ_self _,(Sub.norm [] [] rfl rfl (.keep (.same (zu qJ _)) (.keep (.same (zY.func sn sn)) (.keep (.same (zu qJ _)) (.keep (.same nI) (.keep (.same nI) .nil))))) .nil),_,rfl,g3⟩
   refine Goes.exit ?_
   obtain rfl:=si g3
   exact Or.inl (⟨rfl,rfl,(Sub.keep [] rfl rfl)⟩)
 rintro x s' (⟨rfl,rfl,hsub⟩|⟨rfl,t,rfl,hret⟩)
 ·try dsimp only at h
  refine Goes.sub hsub ?_
  refine sh fol [(6,.i 0)] ?_
  refine Goes.ret ?_
  obtain rfl:=si h
  exact(gw2 [.i 0] (Ub tI))
 try dsimp only at h
 obtain rfl:=si h
 exact hret
def qfS (N:Nat) (l:List qw):Option Int:=
 (qeJ N l 1000).bind fun a=>
 some a
theorem qo1 (N:Nat) (l:List qw) {res:Int} (h:qfS N l=some res):qE ZT (.fn 18) [vl qJ l] [] (.i res) []:=by
 unfold qfS at h
 refine Uc Tryz.func18 rfl rfl (m:=5) rfl (rs:=[.tmp 2]) rfl (l:=(kS l [])) rfl ?_
 refine sh fol (kS l []) ?_
 obtain⟨b,a,h⟩:=bnd h
 refine sq (gr fol [1] (kAt b) (ac (hs (.call 55 [vl qJ l,.i 1000,.func (.func 56) [] []] [] [] [vl qJ l,.i 1000,.func (.func 56) [] []] (.i b)) (jf (FzL.cons (Ua (qG qJ _ (nl rfl))) (FzL.cons (Ua tI) (FzL.cons (Fz.func FzL.nil FzL.nil) FzL.nil))) (qlk N l 1000 a) tI)) az) ?_)
 refine Goes.ret ?_
 obtain rfl:=si h
 exact(gw2 [.i b] (Ub tI))
def y8 (a:StateT) (lot:Str):Nat->Int->Int->Option Int
 |0,_,_=>none
 |K+1,b,c=>
  if b<(a.Holds.length:Int)then
  (((idx a.Holds b).bind fun d=>
  if(d.Lot==lot)=true then
  some (w64 (c+d.Reserved))
  else
  some c:Option Int)).bind fun e=>
  y8 a lot K (w64 (b+1)) e
  else
  some c
def qee (N:Nat) (a:StateT) (lot:Str):Option Int:=
 (y8 a lot N 0 0).bind fun b=>
 some b
theorem qkB (N:Nat) (a:StateT) (lot:Str) {res:Int} (h:qee N a lot=some res):qE ZT (.fn 131) (kY a.Day a.Lots a.Holds [.str lot]) [] (.i res) []:=by
 unfold qee at h
 refine Uc Tryz.func131 rfl rfl (m:=25) rfl (rs:=[.tmp 4]) rfl (l:=(kAA a.Day a.Lots a.Holds [(1,.str lot)])) rfl ?_
 refine sg fol ((1,.str lot)::(kAC [])) (kD a.Day a.Lots a.Holds []) ?_
 refine sh fol ((1,.str lot)::(kAC [(5,.i 0)])) ?_
 refine sq ?_
 refine sh fol [(1,.str lot),(5,.i 0),(9,vl qg a.Holds),(10,.i (a.Holds.length:Int)),(11,.i 0)] ?_
 refine Goes.block ?_
 obtain⟨j,g4,h⟩:=bnd h
 refine Goes.imp (Q:=fun x s'=>(x= .exit 0/\ ∃f,f=j/\Sub s' (ofG 25 (kAd f),[]))) ?_ ?_
 ·refine Goes.sub (s':=(ofG 25 [(1,.str lot),(5,.i 0),(9,vl qg a.Holds),(10,.i (a.Holds.length:Int)),(11,.i 0)],[])) (Sub.norm [] [] rfl rfl (.keep (.same nS) (.keep (.same nI) (.keep (.same (zu qg _)) (.keep (.same nI) (.keep (.same nI) .nil))))) .nil) ?_
  refine Ud (fun M s=> ∃(b:Int) (d:Int),s=(ofG 25 (kAb lot d a.Holds (a.Holds.length:Int) b []),[])/\y8 a lot M b d=some j) ?_ (m:=N) ⟨_,_,rfl,g4⟩
  rintro M s ⟨b,d,rfl,g4⟩
  cases M with
  |zero=>simp only[y8]at g4;cases g4
  |succ M=>
   rw[y8]at g4
   refine sh fol (kAb lot d a.Holds (a.Holds.length:Int) b [(12,.bool (decide (b<(a.Holds.length:Int))))]) ?_
   refine sq ?_
   refine ihD g4 (fun k g4=>?_) (fun k g4=>?_)
   ·refine Goes.skip ?_
    refine sq ?_
    obtain⟨n,g7,g4⟩:=bnd g4
    refine Goes.imp (Q:=fun x s'=>(x= .normal/\ ∃g,g=n/\Sub s' (ofG 25 (kAb lot g a.Holds (a.Holds.length:Int) b []),[]))) ?_ ?_
    ·refine Goes.block ?_
     obtain⟨e,c,g7⟩:=bnd g7
     refine sq (gq fol [0,1] [(1,.str lot),(5,.i d),(7,.ptr 0 0),(9,vl qg a.Holds),(10,.i (a.Holds.length:Int)),(11,.i b)] (kM e.Lot e.Order e.Reserved e.Taken []) (ac (iv qhR qg c) (ac (la qqT qg c) az)) ?_)
     refine sh fol [(1,.str lot),(5,.i d),(7,.ptr 0 0),(9,vl qg a.Holds),(10,.i (a.Holds.length:Int)),(11,.i b),(18,.bool (e.Lot==lot))] ?_
     refine ihB g7 (fun o g7=>?_) (fun o g7=>?_)
     ·refine gh fol (kAb lot (w64 (d+e.Reserved)) a.Holds (a.Holds.length:Int) b []) ?_
      obtain rfl:=si g7
      exact⟨rfl,_,rfl,(Sub.norm [] [] rfl rfl (.keep (.same nS) (.keep (.same nI) (.keep (.same (zu qg _)) (.keep (.same nI) (.keep (.same nI) .nil))))) .nil)⟩
     refine Goes.skip ?_
     obtain rfl:=si g7
     exact⟨rfl,_,rfl,(Sub.norm [] [] rfl rfl (.keep (.same nS) (.keep (.same nI) (.drop (.keep (.same (zu qg _)) (.keep (.same nI) (.keep (.same nI) .nil)))))) .nil)⟩
    rintro x s' ⟨rfl,g,rfl,hsub⟩
    refine Goes.sub hsub ?_
    refine gh fol (kAb lot g a.Holds (a.Holds.length:Int) (w64 (b+1)) []) ?_
    exact⟨M,(ofG 25 (kAb lot g a.Holds (a.Holds.length:Int) (w64 (b+1)) []),[]),Nat.lt_succ_self _,(Sub.refl _),_,_,rfl,g4⟩
   refine Goes.exit ?_
   obtain rfl:=si g4
   exact⟨rfl,_,rfl,(Sub.keep [5] rfl rfl)⟩
 rintro x s' ⟨rfl,f,rfl,hsub⟩
 refine Goes.sub hsub ?_
 refine sh fol (kAn f) ?_
 refine Goes.ret ?_
 obtain rfl:=si h
 exact(gw2 [.i f] (Ub tI))
def qdi (N:Nat) (a:StateT) (l:qH):Option Int:=
 (qee N a l.Name).bind fun b=>
 some (w64 (l.Stock-b))
theorem qgf (N:Nat) (a:StateT) (l:qH) {res:Int} (h:qdi N a l=some res):qE ZT (.fn 77) (kY a.Day a.Lots a.Holds (kAm l.Name l.Yarn l.Dye l.Stock [])) [] (.i res) []:=by
 unfold qdi at h
 refine Uc Tryz.func77 rfl rfl (m:=12) rfl (rs:=[.tmp 4]) rfl (l:=(kAA a.Day a.Lots a.Holds [(1,.agg [.str l.Name,.str l.Yarn,.str l.Dye,.i l.Stock])])) rfl ?_
 refine sg fol (kL []) (kD a.Day a.Lots a.Holds (kX l.Name l.Yarn l.Dye l.Stock [])) ?_
 obtain⟨c,b,h⟩:=bnd h
 refine sq (gr fol [5] (kAn (w64 (l.Stock-c))) (ac (cv (qkB N a l.Name b)) az) ?_)
 refine Goes.ret ?_
 obtain rfl:=si h
 exact(gw2 [.i (w64 (l.Stock-c))] (Ub tI))
def qde (l:qH) (name:Str):Option Int:=
 (tCmp l.Name name).bind fun a=>
 some a
theorem qhF (l:qH) (name:Str) {res:Int} (h:qde l name=some res):qE ZT (.fn 144) (kAm l.Name l.Yarn l.Dye l.Stock [.str name]) [] (.i res) []:=by
 unfold qde at h
 refine Uc Tryz.func144 rfl rfl (m:=9) rfl (rs:=[.tmp 4]) rfl (l:=[(0,.agg [.str l.Name,.str l.Yarn,.str l.Dye,.i l.Stock]),(1,.str name)]) rfl ?_
 refine sg fol ((1,.str name)::(kAC [])) (kX l.Name l.Yarn l.Dye l.Stock []) ?_
 obtain⟨b,a,h⟩:=bnd h
 refine sq (gr fol [3] (kAn b) (ac (cv (qsf l.Name name a)) az) ?_)
 refine Goes.ret ?_
 obtain rfl:=si h
 exact(gw2 [.i b] (Ub tI))
def zA (b:List qH) (c:Str):Nat->Int->Int->Option Int
 |0,_,_=>none
 |K+1,d,a=>
  if a<d then
  (((idx b (w64 (qsO .u64 (IntKind.wrap .u64 (w64 (a+d))) 1))).bind fun f=>
  (qde f c).bind fun e=>
  if e<0 then
  some (w64 ((w64 (qsO .u64 (IntKind.wrap .u64 (w64 (a+d))) 1))+1),d)
  else
  some (a,w64 (qsO .u64 (IntKind.wrap .u64 (w64 (a+d))) 1)):Option (Int×Int))).bind fun(g,h)=>
  zA b c K h g
  else
  some a
def xE (N:Nat) (a:List qH) (b:Str):Option (Int×Bool):=
 (zA a b N (a.length:Int) 0).bind fun c=>
 (if c<(a.length:Int)then
 (idx a c).bind fun d=>
 (qde d b).bind fun e=>
 some (decide (e=0))
 else
 some false:Option Bool).bind fun f=>
 some (c,f)
theorem qfH (N:Nat) (a:List qH) (c:Str) {res:Int×Bool} (h:xE N a c=some res):qE ZT (.fn 143) [vl qo a,.str c,.func (.func 144) [] []] [] (.tuple [.i res.1,.bool res.2]) []:=by
 unfold xE at h
 refine Uc Tryz.func143 rfl rfl (m:=49) rfl (rs:=[.tmp 6,.tmp 7]) rfl (l:=(kAB a [(1,.str c),(2,.func (.func 144) [] [])])) rfl ?_
 refine sh fol (kAB a [(1,.str c),(2,.func (.func 144) [] [])]) ?_
 refine sh fol (kAB a [(1,.str c),(2,.func (.func 144) [] []),(8,.i (a.length:Int))]) ?_
 refine sh fol (kAB a [(1,.str c),(2,.func (.func 144) [] []),(8,.i (a.length:Int)),(9,.i 0),(10,.i (a.length:Int))]) ?_
 refine sq (Goes.block ?_)
 obtain⟨y,g4,h⟩:=bnd h
 refine Goes.imp (Q:=fun x s'=>(x= .exit 0/\ ∃j,j=y/\Sub s' (ofG 49 (kAB a [(1,.str c),(2,.func (.func 144) [] []),(8,.i (a.length:Int)),(9,.i j)]),[]))) ?_ ?_
 ·refine Ud (fun M s=> ∃(d:Int) (e:Int),s=(ofG 49 (kAB a ((1,.str c)::(2,.func (.func 144) [] [])::(kAp (a.length:Int) e d []))),[])/\zA a c M d e=some y) ?_ (m:=N) ⟨_,_,rfl,g4⟩
  rintro M s ⟨d,e,rfl,g4⟩
  cases M with
  |zero=>simp only[zA]at g4;cases g4
  |succ M=>
   rw[zA]at g4
   refine sq ?_
   refine sh fol (kAB a ((1,.str c)::(2,.func (.func 144) [] [])::(kAp (a.length:Int) e d [(17,.bool (decide (e<d)))]))) ?_
   refine ihD g4 (fun z g4=>?_) (fun z g4=>?_)
   ·refine Goes.skip ?_
    obtain⟨A,g8,g4⟩:=bnd g4
    refine Goes.imp (Q:=fun x s'=>(x= .normal/\ ∃q r,(q,r)=A/\Sub s' (ofG 49 (kAB a ((1,.str c)::(2,.func (.func 144) [] [])::(kAp (a.length:Int) q r []))),[]))) ?_ ?_
    ·refine Goes.block ?_
     refine sh fol (kAB a ((1,.str c)::(2,.func (.func 144) [] [])::(kAp (a.length:Int) e d [(11,.i (w64 (qsO .u64 (IntKind.wrap .u64 (w64 (e+d))) 1)))]))) ?_
     obtain⟨B,g,g8⟩:=bnd g8
     obtain⟨t,k,g8⟩:=bnd g8
     refine sq (gr fol [3,4,6] (kAB a ((1,.str c)::(2,.func (.func 144) [] [])::(kAp (a.length:Int) e d [(11,.i (w64 (qsO .u64 (IntKind.wrap .u64 (w64 (e+d))) 1))),(31,.bool (decide (t<0)))]))) (ac (iv qps qo g) (ac (la qr9 qo g) (ac (cv (qhF B c k)) az))) ?_)
     refine ihD g8 (fun u g8=>?_) (fun u g8=>?_)
     ·refine gh fol (kAB a ((1,.str c)::(2,.func (.func 144) [] [])::(kAp (a.length:Int) (w64 ((w64 (qsO .u64 (IntKind.wrap .u64 (w64 (e+d))) 1))+1)) d []))) ?_
      obtain rfl:=si g8
      exact⟨rfl,_,_,rfl,(Sub.refl _)⟩
     refine gh fol (kAB a ((1,.str c)::(2,.func (.func 144) [] [])::(kAp (a.length:Int) e (w64 (qsO .u64 (IntKind.wrap .u64 (w64 (e+d))) 1)) []))) ?_
     obtain rfl:=si g8
     exact⟨rfl,_,_,rfl,(Sub.refl _)⟩
    rintro x s' ⟨rfl,q,r,rfl,hsub⟩
    try dsimp only at g4
    exact⟨M,(ofG 49 (kAB a ((1,.str c)::(2,.func (.func 144) [] [])::(kAp (a.length:Int) q r []))),[]),Nat.lt_succ_self _,(hsub.trans (Sub.refl _)),_,_,rfl,g4⟩
   refine Goes.exit ?_
   obtain rfl:=si g4
   exact⟨rfl,_,rfl,(Sub.keep [0,1,2,8,9] rfl rfl)⟩
 rintro x s' ⟨rfl,j,rfl,hsub⟩
 refine Goes.sub hsub ?_
 refine sq ?_
 obtain⟨p,b,h⟩:=bnd h
 refine Goes.cut (s':=(ofG 49 [(6,.i j),(7,.bool p)],[])) ?_ ?_
 ·rcases wyD b with⟨n,b⟩|⟨n,b⟩
  ·obtain⟨v,f,b⟩:=bnd b
   obtain⟨w,o,b⟩:=bnd b
   obtain rfl:=si b
   exact tr fol [4,8,9,11] [(6,.i j),(7,.bool (decide (w=0)))] (ac (gw n) (ac (iv qps qo f) (ac (la qr9 qo f) (ac (cv (qhF v c o)) az))))
  obtain rfl:=si b
  exact tr fol [4] [(6,.i j),(7,.bool false)] (ac (gw n) az)
 refine Goes.ret ?_
 obtain rfl:=si h
 exact(gw2 [.i j,.bool p] (FzW.tuple (ky.cons (Ub tI) (ky.cons (Ub tB) ky.nil))))
def qbG (N:Nat) (b:StateT) (name:Str):Option (Int×Bool):=
 (xE N b.Lots name).bind fun a=>
 some (a.1,a.2)
theorem qgS (N:Nat) (a:StateT) (name:Str) {res:Int×Bool} (h:qbG N a name=some res):qE ZT (.fn 80) (kY a.Day a.Lots a.Holds [.str name]) [] (.tuple [.i res.1,.bool res.2]) []:=by
 unfold qbG at h
 refine Uc Tryz.func80 rfl rfl (m:=12) rfl (rs:=[.tmp 4,.tmp 5]) rfl (l:=(kAA a.Day a.Lots a.Holds [(1,.str name)])) rfl ?_
 refine sg fol ((1,.str name)::(kAC [])) (kD a.Day a.Lots a.Holds []) ?_
 obtain⟨b,c,h⟩:=bnd h
 refine sq (gr fol [3] [(4,.i b.1),(5,.bool b.2)] (ac (hs (.call 143 [vl qo a.Lots,.str name,.func (.func 144) [] []] [] [] [vl qo a.Lots,.str name,.func (.func 144) [] []] (.tuple [.i b.1,.bool b.2])) (jf (FzL.cons (Ua (qG qo _ (nl rfl))) (FzL.cons (Ua tS) (FzL.cons (Fz.func FzL.nil FzL.nil) FzL.nil))) (qfH N a.Lots name c) (Still.tuple (AllST.cons tI (AllST.cons tB AllST.nil))))) az) ?_)
 refine Goes.ret ?_
 obtain rfl:=si h
 exact(gw2 [.i b.1,.bool b.2] (FzW.tuple (ky.cons (Ub tI) (ky.cons (Ub tB) ky.nil))))
def qdx (a:qp):Option KeyT:=
 some (⟨a.Lot,a.Order⟩:KeyT)
theorem qfv (a:qp) {res:KeyT} (h:qdx a=some res):qE ZT (.fn 125) [.agg [.str a.Lot,.str a.Order,.i a.Reserved,.i a.Taken]] [] (.agg [.str res.lot,.str res.order]) []:=by
 unfold qdx at h
 refine Uc Tryz.func125 rfl rfl (m:=8) rfl (rs:=[.cell 2 190]) rfl (l:=(kAw a.Lot a.Order a.Reserved a.Taken [])) rfl ?_
 refine sg fol (kU [(2,.ptr 1 0)]) (kM a.Lot a.Order a.Reserved a.Taken [.cells [.str [],.str []]]) ?_
 refine sg fol [(2,.ptr 1 0)] (kM a.Lot a.Order a.Reserved a.Taken [.cells [.str a.Lot,.str a.Order]]) ?_
 refine Goes.ret ?_
 obtain rfl:=si h
 exact(gw2 [.agg [.str a.Lot,.str a.Order]] (FzW.agg (ky.cons (Ub tS) (ky.cons (Ub tS) ky.nil))))
def qbd (a:qp) (b:ql):Option Bool:=
 (qdx a).bind fun c=>
 (qdx b.hold).bind fun d=>
 some ((c.lot==d.lot)&&((c.order==d.order)&&true))
theorem qih (d:qp) (c:ql) {res:Bool} (h:qbd d c=some res):qE ZT (.fn 175) (kAJ d.Lot d.Order d.Reserved d.Taken [.fptr [.str c.lot.Name,.str c.lot.Yarn,.str c.lot.Dye,.i c.lot.Stock,.bool c.known,.str c.hold.Lot,.str c.hold.Order,.i c.hold.Reserved,.i c.hold.Taken,.i c.free] 0]) [] (.bool res) []:=by
 unfold qbd at h
 refine Uc Tryz.func175 rfl rfl (m:=10) rfl (rs:=[.tmp 3]) rfl (l:=(kAw d.Lot d.Order d.Reserved d.Taken [(1,.fptr [.str c.lot.Name,.str c.lot.Yarn,.str c.lot.Dye,.i c.lot.Stock,.bool c.known,.str c.hold.Lot,.str c.hold.Order,.i c.hold.Reserved,.i c.hold.Taken,.i c.free] 0)])) rfl ?_
 refine sg fol ((1,.fptr [.str c.lot.Name,.str c.lot.Yarn,.str c.lot.Dye,.i c.lot.Stock,.bool c.known,.str c.hold.Lot,.str c.hold.Order,.i c.hold.Reserved,.i c.hold.Taken,.i c.free] 0)::(kAC [])) (kM d.Lot d.Order d.Reserved d.Taken []) ?_
 obtain⟨f,j,h⟩:=bnd h
 obtain⟨g,k,h⟩:=bnd h
 refine sq (gr fol [1,4,5] (kAu ((f.lot==g.lot)&&((f.order==g.order)&&true))) (ac (cv (qfv d j)) (ac (cv (qfv c.hold k)) (ac (hs (.done (.opt (qlB ZT .eql 190 (.tmp 5) (.tmp 8) (.agg [.str f.lot,.str f.order]) (.agg [.str g.lot,.str g.order]))) (.bool ((f.lot==g.lot)&&((f.order==g.order)&&true)))) (qxR qvR (e:=((f.lot==g.lot)&&((f.order==g.order)&&true))) (.cons (a:= .str f.lot) (b:= .str g.lot) rfl (by kernel_rfl) (by kernel_rfl) (by kernel_rfl) (.cons (a:= .str f.order) (b:= .str g.order) rfl (by kernel_rfl) (by kernel_rfl) (by kernel_rfl) .nil)))) az))) ?_)
 refine Goes.ret ?_
 obtain rfl:=si h
 exact(gw2 [.bool ((f.lot==g.lot)&&((f.order==g.order)&&true))] (Ub tB))
def zx (a:List qp) (b:ql):Nat->Int->Option (Unit⊕Int)
 |0,_=>none
 |K+1,c=>
  if c<(a.length:Int)then
  (idx a c).bind fun d=>
  (qbd d b).bind fun e=>
  if e=true then
  some (.inr c)
  else
  zx a b K (w64 (c+1))
  else
  some (.inl ())
def qbc (N:Nat) (a:List qp) (b:ql):Option Int:=
 (zx a b N 0).bind (fun
 |(.inl ())=>
 some (-1)
 |(.inr c)=>
 some c)
theorem qij (N:Nat) (b:List qp) (a:ql) {res:Int} (h:qbc N b a=some res):qE ZT (.fn 174) [vl qg b,.func (.func 175) [] [.fptr [.str a.lot.Name,.str a.lot.Yarn,.str a.lot.Dye,.i a.lot.Stock,.bool a.known,.str a.hold.Lot,.str a.hold.Order,.i a.hold.Reserved,.i a.hold.Taken,.i a.free] 0]] [] (.i res) []:=by
 unfold qbc at h
 refine Uc Tryz.func174 rfl rfl (m:=19) rfl (rs:=[.tmp 4]) rfl (l:=(kAO b [(1,.func (.func 175) [] [.fptr [.str a.lot.Name,.str a.lot.Yarn,.str a.lot.Dye,.i a.lot.Stock,.bool a.known,.str a.hold.Lot,.str a.hold.Order,.i a.hold.Reserved,.i a.hold.Taken,.i a.free] 0])])) rfl ?_
 refine sh fol (kAO b [(1,.func (.func 175) [] [.fptr [.str a.lot.Name,.str a.lot.Yarn,.str a.lot.Dye,.i a.lot.Stock,.bool a.known,.str a.hold.Lot,.str a.hold.Order,.i a.hold.Reserved,.i a.hold.Taken,.i a.free] 0])]) ?_
 refine sq ?_
 refine sh fol (kAO b ((1,.func (.func 175) [] [.fptr [.str a.lot.Name,.str a.lot.Yarn,.str a.lot.Dye,.i a.lot.Stock,.bool a.known,.str a.hold.Lot,.str a.hold.Order,.i a.hold.Reserved,.i a.hold.Taken,.i a.free] 0])::(kAv (b.length:Int)))) ?_
 refine Goes.block ?_
 obtain⟨g,g2,h⟩:=bnd h
 refine Goes.imp (Q:=fun x s'=>(x= .exit 0/\(.inl ())=g/\Sub s' (ofG 19 [],[]))\/(x= .ret/\ ∃j,(.inr j)=g/\jT ZT [.tmp 4] (.i j) .ret s')) ?_ ?_
 ·refine Ud (fun M s=> ∃(c:Int),s=(ofG 19 (kAO b ((1,.func (.func 175) [] [.fptr [.str a.lot.Name,.str a.lot.Yarn,.str a.lot.Dye,.i a.lot.Stock,.bool a.known,.str a.hold.Lot,.str a.hold.Order,.i a.hold.Reserved,.i a.hold.Taken,.i a.free] 0])::(kAE (b.length:Int) c))),[])/\zx b a M c=some g) ?_ (m:=N) ⟨_,rfl,g2⟩
  rintro M s ⟨c,rfl,g2⟩
  cases M with
  |zero=>simp only[zx]at g2;cases g2
  |succ M=>
   rw[zx]at g2
   refine sh fol (kAO b ((1,.func (.func 175) [] [.fptr [.str a.lot.Name,.str a.lot.Yarn,.str a.lot.Dye,.i a.lot.Stock,.bool a.known,.str a.hold.Lot,.str a.hold.Order,.i a.hold.Reserved,.i a.hold.Taken,.i a.free] 0])::(7,.i (b.length:Int))::(kAg c (decide (c<(b.length:Int)))))) ?_
   refine sq ?_
   refine ihD g2 (fun n g2=>?_) (fun n g2=>?_)
   ·refine Goes.skip ?_
    refine sq (Goes.block ?_)
    refine sh fol (kAO b ((1,.func (.func 175) [] [.fptr [.str a.lot.Name,.str a.lot.Yarn,.str a.lot.Dye,.i a.lot.Stock,.bool a.known,.str a.hold.Lot,.str a.hold.Order,.i a.hold.Reserved,.i a.hold.Taken,.i a.free] 0])::(5,.i c)::(kAE (b.length:Int) c))) ?_
    obtain⟨d,e,g2⟩:=bnd g2
    obtain⟨k,f,g2⟩:=bnd g2
    refine sq (gr fol [3,4,5] (kAO b [(1,.func (.func 175) [] [.fptr [.str a.lot.Name,.str a.lot.Yarn,.str a.lot.Dye,.i a.lot.Stock,.bool a.known,.str a.hold.Lot,.str a.hold.Order,.i a.hold.Reserved,.i a.hold.Taken,.i a.free] 0]),(5,.i c),(7,.i (b.length:Int)),(8,.i c),(16,.bool k)]) (ac (iv qhR qg e) (ac (la qqT qg e) (ac (hs (.call 175 (kAJ d.Lot d.Order d.Reserved d.Taken [.fptr [.str a.lot.Name,.str a.lot.Yarn,.str a.lot.Dye,.i a.lot.Stock,.bool a.known,.str a.hold.Lot,.str a.hold.Order,.i a.hold.Reserved,.i a.hold.Taken,.i a.free] 0]) [] [] (kAJ d.Lot d.Order d.Reserved d.Taken [.fptr [.str a.lot.Name,.str a.lot.Yarn,.str a.lot.Dye,.i a.lot.Stock,.bool a.known,.str a.hold.Lot,.str a.hold.Order,.i a.hold.Reserved,.i a.hold.Taken,.i a.free] 0]) (.bool k)) (jf (FzL.cons (Ua (Still.agg (AllST.cons tS (AllST.cons tS (AllST.cons tI (AllST.cons tI AllST.nil)))))) (FzL.cons (Ua (Still.fptr (AllST.cons tS (AllST.cons tS (AllST.cons tS (AllST.cons tI (AllST.cons tB (AllST.cons tS (AllST.cons tS (AllST.cons tI (AllST.cons tI (AllST.cons tI AllST.nil)))))))))))) FzL.nil)) (qih d a f) tB)) az))) ?_)
    refine ihB g2 (fun o g2=>?_) (fun o g2=>?_)
    ·refine sh fol (kAn c) ?_
     refine Goes.ret ?_
     obtain rfl:=si g2
     exact Or.inr (⟨rfl,_,rfl,(gw2 [.i c] (Ub tI))⟩)
    refine Goes.skip ?_
    refine gh fol (kAO b ((1,.func (.func 175) [] [.fptr [.str a.lot.Name,.str a.lot.Yarn,.str a.lot.Dye,.i a.lot.Stock,.bool a.known,.str a.hold.Lot,.str a.hold.Order,.i a.hold.Reserved,.i a.hold.Taken,.i a.free] 0])::(kAE (b.length:Int) (w64 (c+1))))) ?_
    exact⟨M,(ofG 19 (kAO b ((1,.func (.func 175) [] [.fptr [.str a.lot.Name,.str a.lot.Yarn,.str a.lot.Dye,.i a.lot.Stock,.bool a.known,.str a.hold.Lot,.str a.hold.Order,.i a.hold.Reserved,.i a.hold.Taken,.i a.free] 0])::(kAE (b.length:Int) (w64 (c+1))))),[]),Nat.lt_succ_self _,(Sub.refl _),_,rfl,g2⟩
   refine Goes.exit ?_
   obtain rfl:=si g2
   exact Or.inl (⟨rfl,rfl,(Sub.keep [] rfl rfl)⟩)
 rintro x s' (⟨rfl,rfl,hsub⟩|⟨rfl,p,rfl,hret⟩)
 ·try dsimp only at h
  refine Goes.sub hsub ?_
  refine sh fol kAq ?_
  refine Goes.ret ?_
  obtain rfl:=si h
  exact(gw2 [.i (-1)] (Ub tI))
 try dsimp only at h
 obtain rfl:=si h
 exact hret
def zR (N:Nat) (b:StateT) (e:qw):Option ql:=
 (qbG N b e.Lot).bind fun f=>
 ((if f.2=true then
 (idx b.Lots f.1).bind fun c=>
 (qdi N b c).bind fun g=>
 some (c.Name,c.Yarn,c.Dye,c.Stock,g)
 else
 some (e.Lot,e.Yarn,e.Dye,0,0):Option (Str×Str×Str×Int×Int))).bind fun(l,m,n,o,p)=>
 (qbc N b.Holds (⟨(⟨l,m,n,o⟩:qH),f.2,(⟨e.Lot,e.Order,0,0⟩:qp),p⟩:ql)).bind fun d=>
 ((if d>=0 then
 (idx b.Holds d).bind fun a=>
 some (a.Lot,a.Order,a.Reserved,a.Taken)
 else
 some (e.Lot,e.Order,0,0):Option (Str×Str×Int×Int))).bind fun(h,i,j,k)=>
 some (⟨(⟨l,m,n,o⟩:qH),f.2,(⟨h,i,j,k⟩:qp),p⟩:ql)
theorem qba (N:Nat) (a:StateT) (e:qw) {res:ql} (h:zR N a e=some res):qE ZT (.fn 113) (kY a.Day a.Lots a.Holds [.agg [.str e.Kind,.i e.Day,.str e.Lot,.i e.Amount,.str e.Yarn,.str e.Dye,.str e.Order]]) [] (.agg (.str res.lot.Name::(kB res.lot.Yarn res.lot.Dye res.lot.Stock res.known res.hold.Lot res.hold.Order res.hold.Reserved res.hold.Taken res.free))) []:=by
 unfold zR at h
 refine Uc Tryz.func113 rfl rfl (m:=55) rfl (rs:=[.cell 4 182]) rfl (l:=(kAA a.Day a.Lots a.Holds (kAz e.Kind e.Day e.Lot e.Amount e.Yarn e.Dye e.Order))) rfl ?_
 refine sg fol (kL (kA0 [])) (kD a.Day a.Lots a.Holds (kE e.Kind e.Day e.Lot e.Amount e.Yarn e.Dye e.Order (kI []))) ?_
 obtain⟨b,y,h⟩:=bnd h
 refine sq (gr fol [3] (kL (kA0 [(5,.i b.1),(6,.bool b.2)])) (ac (cv (qgS N a e.Lot y)) az) ?_)
 refine sg fol (kAC (kA0 [(5,.i b.1),(6,.bool b.2),(7,.ptr 3 0)])) (kD a.Day a.Lots a.Holds (kE e.Kind e.Day e.Lot e.Amount e.Yarn e.Dye e.Order (kI [.cells [.str e.Lot,.str e.Yarn,.str e.Dye,.i 0,.bool b.2,.str e.Lot,.str e.Order,.i 0,.i 0,.i 0]]))) ?_
 refine sq ?_
 refine sh fol (kAC (kA0 [(5,.i b.1),(7,.ptr 3 0),(30,.bool b.2)])) ?_
 obtain⟨C,g7,h⟩:=bnd h
 refine Goes.imp (Q:=fun x s'=>(x= .normal/\ ∃c d f g j,(c,d,f,g,j)=C/\Sub s' (ofG 55 (kQ [(7,.ptr 2 0)]),(kD a.Day a.Lots a.Holds (kI [.cells [.str c,.str d,.str f,.i g,.bool b.2,.str e.Lot,.str e.Order,.i 0,.i 0,.i j]]))))) ?_ ?_
 ·refine ihB g7 (fun D g7=>?_) (fun D g7=>?_)
  ·obtain⟨r,u,g7⟩:=bnd g7
   refine sq (gq fol [3,4] (kAC (kA0 [(7,.ptr 3 0)])) (kD a.Day a.Lots a.Holds (kE e.Kind e.Day e.Lot e.Amount e.Yarn e.Dye e.Order (kI [.cells [.str r.Name,.str r.Yarn,.str r.Dye,.i r.Stock,.bool b.2,.str e.Lot,.str e.Order,.i 0,.i 0,.i 0]]))) (ac (iv qps qo u) (ac (la qr9 qo u) az)) ?_)
   obtain⟨z,v,g7⟩:=bnd g7
   refine gq fol [3] (kAC (kA0 [(7,.ptr 3 0)])) (kD a.Day a.Lots a.Holds (kE e.Kind e.Day e.Lot e.Amount e.Yarn e.Dye e.Order (kI [.cells [.str r.Name,.str r.Yarn,.str r.Dye,.i r.Stock,.bool b.2,.str e.Lot,.str e.Order,.i 0,.i 0,.i z]]))) (ac (cv (qgf N a r v)) az) ?_
   obtain rfl:=si g7
   exact⟨rfl,_,_,_,_,_,rfl,(Sub.norm [] [some 0,some 2,some 3] rfl rfl (.kp (.kp (.kp .nil))) (.kb rfl (.same sn) (.kb rfl (.same sn) (.kb rfl (.same sn) .nil))))⟩
  refine Goes.skip ?_
  obtain rfl:=si g7
  exact⟨rfl,_,_,_,_,_,rfl,(Sub.norm [] [some 0,some 2,some 3] rfl rfl (.kp (.kp (.drop (.kp .nil)))) (.kb rfl (.same sn) (.kb rfl (.same sn) (.kb rfl (.same sn) .nil))))⟩
 rintro x s' ⟨rfl,c,d,f,g,j,rfl,hsub⟩
 try dsimp only at h
 refine Goes.sub hsub ?_
 refine sq ?_
 obtain⟨s,w,h⟩:=bnd h
 refine sq (gr fol [3] (kQ [(7,.ptr 2 0),(8,.i s)]) (ac (hs (.call 174 [vl qg a.Holds,.func (.func 175) [] [.ptr 2 0]] (kD a.Day a.Lots a.Holds (kI [.cells [.str c,.str d,.str f,.i g,.bool b.2,.str e.Lot,.str e.Order,.i 0,.i 0,.i j]])) [2] [vl qg a.Holds,.func (.func 175) [] [.fptr [.str (((⟨(⟨c,d,f,g⟩:qH),b.2,(⟨e.Lot,e.Order,0,0⟩:qp),j⟩:ql).lot).Name),.str (((⟨(⟨c,d,f,g⟩:qH),b.2,(⟨e.Lot,e.Order,0,0⟩:qp),j⟩:ql).lot).Yarn),.str (((⟨(⟨c,d,f,g⟩:qH),b.2,(⟨e.Lot,e.Order,0,0⟩:qp),j⟩:ql).lot).Dye),.i (((⟨(⟨c,d,f,g⟩:qH),b.2,(⟨e.Lot,e.Order,0,0⟩:qp),j⟩:ql).lot).Stock),.bool ((⟨(⟨c,d,f,g⟩:qH),b.2,(⟨e.Lot,e.Order,0,0⟩:qp),j⟩:ql).known),.str (((⟨(⟨c,d,f,g⟩:qH),b.2,(⟨e.Lot,e.Order,0,0⟩:qp),j⟩:ql).hold).Lot),.str (((⟨(⟨c,d,f,g⟩:qH),b.2,(⟨e.Lot,e.Order,0,0⟩:qp),j⟩:ql).hold).Order),.i (((⟨(⟨c,d,f,g⟩:qH),b.2,(⟨e.Lot,e.Order,0,0⟩:qp),j⟩:ql).hold).Reserved),.i (((⟨(⟨c,d,f,g⟩:qH),b.2,(⟨e.Lot,e.Order,0,0⟩:qp),j⟩:ql).hold).Taken),.i ((⟨(⟨c,d,f,g⟩:qH),b.2,(⟨e.Lot,e.Order,0,0⟩:qp),j⟩:ql).free)] 0]] (.i s)) (qcC (FzL.cons (Ua (qG qg _ (nl rfl))) (FzL.cons (Fz.func FzL.nil (FzL.cons (Fz.ptr rfl rfl (FzL.cons (Ua tS) (FzL.cons (Ua tS) (FzL.cons (Ua tS) (FzL.cons (Ua tI) (FzL.cons (Ua tB) (FzL.cons (Ua tS) (FzL.cons (Ua tS) (FzL.cons (Ua tI) (FzL.cons (Ua tI) (FzL.cons (Ua tI) FzL.nil))))))))))) FzL.nil)) FzL.nil)) (qij N a.Holds (⟨(⟨c,d,f,g⟩:qH),b.2,(⟨e.Lot,e.Order,0,0⟩:qp),j⟩:ql) w) tI rfl)) az) ?_)
 refine sh fol (kQ [(7,.ptr 2 0),(8,.i s),(47,.bool (decide (s>=0)))]) ?_
 obtain⟨A,g16,h⟩:=bnd h
 refine Goes.imp (Q:=fun x s'=>(x= .normal/\ ∃k n o p,(k,n,o,p)=A/\Sub s' (ofG 55 (kAH [(7,.ptr 1 0)]),(kI (kC c d f g b.2 k n o p j []))))) ?_ ?_
 ·refine ihD g16 (fun B g16=>?_) (fun B g16=>?_)
  ·obtain⟨t,q,g16⟩:=bnd g16
   refine gq fol [3,4] (kAe [(7,.ptr 2 0)]) (kD a.Day a.Lots a.Holds (kI (kC c d f g b.2 t.Lot t.Order t.Reserved t.Taken j []))) (ac (iv qhR qg q) (ac (la qqT qg q) az)) ?_
   obtain rfl:=si g16
   exact⟨rfl,_,_,_,_,rfl,(Sub.norm [] [some 1,some 2] rfl rfl (.kp (.kp .nil)) (.kb rfl (.same sn) (.kb rfl (.same sn) .nil)))⟩
  refine Goes.skip ?_
  obtain rfl:=si g16
  exact⟨rfl,_,_,_,_,rfl,(Sub.norm [] [some 1,some 2] rfl rfl (.drop (.kp (.kp .nil))) (.kb rfl (.same sn) (.kb rfl (.same sn) .nil)))⟩
 rintro x s' ⟨rfl,k,n,o,p,rfl,hsub⟩
 try dsimp only at h
 refine Goes.sub hsub ?_
 refine sg fol (kAH []) (kC c d f g b.2 k n o p j (kC c d f g b.2 k n o p j [])) ?_
 refine Goes.ret ?_
 obtain rfl:=si h
 exact(gw2 [.agg (.str c::(kB d f g b.2 k n o p j))] (FzW.agg (ky.cons (Ub tS) (ky.cons (Ub tS) (ky.cons (Ub tS) (ky.cons (Ub tI) (ky.cons (Ub tB) (ky.cons (Ub tS) (ky.cons (Ub tS) (ky.cons (Ub tI) (ky.cons (Ub tI) (ky.cons (Ub tI) ky.nil))))))))))))
def qd4 (vals:List Int):Nat->Int->Option (Unit⊕Int)
 |0,_=>none
 |K+1,a=>
  if a<(vals.length:Int)then
  (idx vals a).bind fun b=>
  if(!decide (b=0))=true then
  some (.inr b)
  else
  qd4 vals K (w64 (a+1))
  else
  some (.inl ())
def qiM (N:Nat) (vals:List Int):Option Int:=
 (qd4 vals N 0).bind (fun
 |(.inl ())=>
 some 0
 |(.inr a)=>
 some a)
theorem qqZ (N:Nat) (vals:List Int) {res:Int} (h:qiM N vals=some res):qE ZT (.fn 83) [vl encI vals] [] (.i res) []:=by
 unfold qiM at h
 refine Uc Tryz.func83 rfl rfl (m:=18) rfl (rs:=[.tmp 2]) rfl (l:=[(0,vl encI vals)]) rfl ?_
 refine sh fol [(0,vl encI vals)] ?_
 refine sh fol [(0,vl encI vals),(3,.i 0)] ?_
 refine sq ?_
 refine sh fol ((3,.i 0)::(6,vl encI vals)::(kAv (vals.length:Int))) ?_
 refine Goes.block ?_
 obtain⟨d,g2,h⟩:=bnd h
 refine Goes.imp (Q:=fun x s'=>(x= .exit 0/\(.inl ())=d/\Sub s' (ofG 18 [(3,.i 0)],[]))\/(x= .ret/\ ∃e,(.inr e)=d/\jT ZT [.tmp 2] (.i e) .ret s')) ?_ ?_
 ·refine Ud (fun M s=> ∃(a:Int),s=(ofG 18 ((3,.i 0)::(6,vl encI vals)::(kAE (vals.length:Int) a)),[])/\qd4 vals M a=some d) ?_ (m:=N) ⟨_,rfl,g2⟩
  rintro M s ⟨a,rfl,g2⟩
  cases M with
  |zero=>simp only[qd4]at g2;cases g2
  |succ M=>
   rw[qd4]at g2
   refine sh fol ((3,.i 0)::(6,vl encI vals)::(7,.i (vals.length:Int))::(kAg a (decide (a<(vals.length:Int))))) ?_
   refine sq ?_
   refine ihD g2 (fun f g2=>?_) (fun f g2=>?_)
   ·refine Goes.skip ?_
    refine sq (Goes.block ?_)
    obtain⟨c,b,g2⟩:=bnd g2
    refine sq (gr fol [0,1] ((3,.i 0)::(5,.i c)::(6,vl encI vals)::(kAE (vals.length:Int) a)) (ac (iv sl79 encI b) (ac (lv 0 ce3 encI b rfl) az)) ?_)
    refine sh fol [(3,.i 0),(5,.i c),(6,vl encI vals),(7,.i (vals.length:Int)),(8,.i a),(14,.bool (!decide (c=0)))] ?_
    refine ihB g2 (fun g g2=>?_) (fun g g2=>?_)
    ·refine sh fol (kAt c) ?_
     refine Goes.ret ?_
     obtain rfl:=si g2
     exact Or.inr (⟨rfl,_,rfl,(gw2 [.i c] (Ub tI))⟩)
    refine Goes.skip ?_
    refine gh fol ((3,.i 0)::(6,vl encI vals)::(kAE (vals.length:Int) (w64 (a+1)))) ?_
    exact⟨M,(ofG 18 ((3,.i 0)::(6,vl encI vals)::(kAE (vals.length:Int) (w64 (a+1)))),[]),Nat.lt_succ_self _,(Sub.refl _),_,rfl,g2⟩
   refine Goes.exit ?_
   obtain rfl:=si g2
   exact Or.inl (⟨rfl,rfl,(Sub.keep [3] rfl rfl)⟩)
 rintro x s' (⟨rfl,rfl,hsub⟩|⟨rfl,j,rfl,hret⟩)
 ·try dsimp only at h
  refine Goes.sub hsub ?_
  refine sh fol [(2,.i 0)] ?_
  refine Goes.ret ?_
  obtain rfl:=si h
  exact(gw2 [.i 0] (Ub tI))
 try dsimp only at h
 obtain rfl:=si h
 exact hret
def qcV (N:Nat) (a:qp) (o:qp):Option Int:=
 (tCmp a.Lot o.Lot).bind fun b=>
 (tCmp a.Order o.Order).bind fun c=>
 (qiM N ([b,c]:List Int)).bind fun d=>
 some d
theorem qlA (N:Nat) (a:qp) (o:qp) {res:Int} (h:qcV N a o=some res):qE ZT (.fn 74) (kAJ a.Lot a.Order a.Reserved a.Taken (kAJ o.Lot o.Order o.Reserved o.Taken [])) [] (.i res) []:=by
 unfold qcV at h
 refine Uc Tryz.func74 rfl rfl (m:=17) rfl (rs:=[.tmp 4]) rfl (l:=(kAw a.Lot a.Order a.Reserved a.Taken [(1,.agg [.str o.Lot,.str o.Order,.i o.Reserved,.i o.Taken])])) rfl ?_
 refine sg fol (kL []) (kM a.Lot a.Order a.Reserved a.Taken (kM o.Lot o.Order o.Reserved o.Taken [])) ?_
 obtain⟨e,b,h⟩:=bnd h
 obtain⟨f,c,h⟩:=bnd h
 obtain⟨g,d,h⟩:=bnd h
 refine sq (gq fol [4,9,11] (kAn g) (kM a.Lot a.Order a.Reserved a.Taken (kM o.Lot o.Order o.Reserved o.Taken (kAU e f))) (ac (cv (qsf a.Lot o.Lot b)) (ac (cv (qsf a.Order o.Order c)) (ac (hs (.call 83 [.slice 2 0 2 2 1] (kM a.Lot a.Order a.Reserved a.Taken (kM o.Lot o.Order o.Reserved o.Taken (kAU e f))) [2] [vl encI ([e,f]:List Int)] (.i g)) (qcC (FzL.cons (Fz.lit rfl rfl (Uf (AllST.cons tI (AllST.cons tI AllST.nil)))) FzL.nil) (qqZ N ([e,f]:List Int) d) tI rfl)) az))) ?_)
 refine Goes.ret ?_
 obtain rfl:=si h
 exact(gw2 [.i g] (Ub tI))
end Go.Av
