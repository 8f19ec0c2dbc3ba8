/-
  Walks of functions: what each computes, as a plain function.
-/
import Derived.Test.YtcnioemfifogeaaGreatDoorAvJnQ3
noncomputable section
namespace Go.Av
open Go.Proofs Go.RowKit
abbrev ZT:=Tryz.prog
set_option linter.unusedSectionVars false
set_option linter.unusedVariables false
set_option linter.unusedSimpArgs false
set_option maxRecDepth 100000
theorem fol:Tryz.prog.follows .mixedOrders=true:=by kernel_rfl
structure qj where
 Name:Str
 Yarn:Str
 Dye:Str
 Stock:Int
def qb:Enc qj:=(encS.prod (encS.prod (encS.prod encI))).comap fun x=>(x.Name,x.Yarn,x.Dye,x.Stock)
instance:SE qb:=⟨nl rfl⟩
instance:SE (qe5 qb):=⟨nl rfl⟩
structure qd where
 Lot:Str
 Order:Str
 Reserved:Int
 Taken:Int
def qa:Enc qd:=(encS.prod (encS.prod (encI.prod encI))).comap fun x=>(x.Lot,x.Order,x.Reserved,x.Taken)
instance:SE qa:=⟨nl rfl⟩
instance:SE (qe5 qa):=⟨nl rfl⟩
structure StateT where
 Day:Int
 Lots:List qj
 Holds:List qd
def qjN:Enc StateT:=(encI.prod ((qe5 qb).prod (qe5 qa))).comap fun x=>(x.Day,x.Lots,x.Holds)
instance:SE qjN:=⟨nl rfl⟩
structure qm where
 Day:Int
 Lots:List qj
 Holds:List qd
def qfS:Enc qm:=(encI.prod ((qe5 qb).prod (qe5 qa))).comap fun x=>(x.Day,x.Lots,x.Holds)
instance:SE qfS:=⟨nl rfl⟩
structure qh where
 Kind:Str
 Day:Int
 Lot:Str
 Amount:Int
 Yarn:Str
 Dye:Str
 Order:Str
def qgk:Enc qh:=(encS.prod (encI.prod (encS.prod (encI.prod (encS.prod (encS.prod encS)))))).comap fun x=>(x.Kind,x.Day,x.Lot,x.Amount,x.Yarn,x.Dye,x.Order)
instance:SE qgk:=⟨nl rfl⟩
structure qc where
 lot:qj
 known:Bool
 hold:qd
 free:Int
def qhu:Enc qc:=(qb.prod (encB.prod (qa.prod encI))).comap fun x=>(x.lot,x.known,x.hold,x.free)
instance:SE qhu:=⟨nl rfl⟩
structure KeyT where
 lot:Str
 order:Str
def qlO:Enc KeyT:=(encS.prod encS).comap fun x=>(x.lot,x.order)
instance:SE qlO:=⟨nl rfl⟩
abbrev kA (a:Str) (b:Int) (c:Str) (d:Int) (e:Str) (f:Str) (g:Str):List AV:=[.str a,.i b,.str c,.i d,.str e,.str f,.str g]
abbrev kB (a:Str) (b:Str) (c:Int) (d:Bool) (e:Str) (f:Str) (g:Int) (h:Int) (i:Int):List AV:=[.str a,.str b,.i c,.bool d,.str e,.str f,.i g,.i h,.i i]
abbrev kC (a:Str) (b:Str) (c:Str) (d:Int) (e:Bool) (f:Str) (g:Str) (h:Int) (i:Int) (j:Int) (x:List Blk):List Blk:= .cells [.str a,.str b,.str c,.i d,.bool e,.str f,.str g,.i h,.i i,.i j]::x
abbrev kD (a:Int) (b:List qj) (c:List qd) (d:Str) (e:Int) (f:Str) (g:Int) (h:Str) (i:Str) (j:Str) (x:List Blk):List Blk:= .cells [.i a,vl qb b,vl qa c]:: .cells [.str d,.i e,.str f,.i g,.str h,.str i,.str j]::x
abbrev kE (a:Int) (b:List qj) (c:List qd) (x:List Blk):List Blk:= .cells [.i a,vl qb b,vl qa c]::x
abbrev kF (x:List Blk):List Blk:= .cells [.i 0,.nilslice,.nilslice]::x
abbrev kG (x:List (Nat×AV)):List (Nat×AV):=(2,.ptr 0 0)::(3,.ptr 1 0)::x
abbrev kH (a:Int) (b:List qj) (c:List qd):List AV:=[.i a,vl qb b,vl qa c]
abbrev kI (a:List qd) (x:List Blk):List Blk:= .cells (a.flatMap qa.c)::x
abbrev kJ (a:Str) (b:Str) (c:Int) (d:Int) (x:List Blk):List Blk:= .cells [.str a,.str b,.i c,.i d]::x
abbrev kK (x:List Blk):List Blk:= .cells [.str [],.str [],.str [],.i 0,.bool false,.str [],.str [],.i 0,.i 0,.i 0]::x
abbrev kL (a:Int) (b:Bool):List (Nat×AV):=[(5,.i a),(7,.i 5),(8,.i a),(16,.bool b)]
abbrev kM (a:Str) (b:Int) (c:Str) (d:Int) (e:Str) (f:Str) (g:Str) (x:List Blk):List Blk:= .cells [.str a,.i b,.str c,.i d,.str e,.str f,.str g]::x
abbrev kN (a:Int) (x:List (Nat×AV)):List (Nat×AV):=(2,.i a)::(3,.ptr 0 0)::(4,.ptr 1 0)::(6,.ptr 2 0)::x
abbrev kO (a:List qj) (x:List Blk):List Blk:= .cells (a.flatMap qb.c)::x
abbrev kP (a:Str) (b:Str) (c:Str) (d:Int) (x:List Blk):List Blk:= .cells [.str a,.str b,.str c,.i d]::x
abbrev kQ {α0:Type} (a:List α0) (x:List (Nat×AV)):List (Nat×AV):=(0,.gslice 0 a.length 4)::x
abbrev kR (a:Int) (b:Int) (c:Int) (d:Int) (x:List (Nat×AV)):List (Nat×AV):=(5,.ptr 2 0)::(6,.ptr 3 0)::(7,.i a)::(8,.i b)::(9,.ptr 4 0)::(10,.i c)::(11,.i d)::x
abbrev kS (a:Int) (b:List qj) (c:List qd) (x:List (Nat×AV)):List (Nat×AV):=(0,.agg [.i a,vl qb b,vl qa c])::x
abbrev kT (x:List (Nat×AV)):List (Nat×AV):=(2,.ptr 0 0)::x
abbrev kU {α0:Type} (a:List α0) (b:Bool) (c:Int) (x:List (Nat×AV)):List (Nat×AV):=(4,.ptr 2 0)::(5,.gslice 3 a.length 4)::(6,.bool b)::(7,.i c)::x
abbrev kV (x:List (Nat×AV)):List (Nat×AV):=(1,.ptr 0 0)::x
abbrev kW (a:Str) (b:Str) (c:Str) (d:Int) (e:Bool) (f:Str) (g:Str) (h:Int) (i:Int) (j:Int) (k:Int):List (Nat×AV):=[(0,.agg [.str a,.str b,.str c,.i d,.bool e,.str f,.str g,.i h,.i i,.i j]),(1,.i k)]
abbrev kX (a:Int) (b:List qj) (c:List qd) (x:List AV):List AV:= .agg [.i a,vl qb b,vl qa c]::x
abbrev kY (x:List (Nat×AV)):List (Nat×AV):=(4,.ptr 2 0)::(5,.ptr 3 0)::x
abbrev kZ (x:List (Nat×AV)):List (Nat×AV):=(5,.ptr 2 0)::(6,.ptr 3 0)::x
abbrev kAA (a:Str) (b:Str) (c:Str) (d:Int) (e:Bool) (f:Str) (g:Str) (h:Int) (i:Int) (j:Int) (k:Int):List AV:=[.agg [.str a,.str b,.str c,.i d,.bool e,.str f,.str g,.i h,.i i,.i j],.i k]
abbrev kAB (a:List qj) (x:List (Nat×AV)):List (Nat×AV):=(0,vl qb a)::x
abbrev kAC {α0:Type} (a:List α0) (b:Bool) (c:Int) (x:List (Nat×AV)):List (Nat×AV):=(7,.gslice 3 a.length 4)::(8,.bool b)::(9,.i c)::(10,.ptr 4 0)::x
abbrev kAD {α2:Type} (a:Int) (b:List qj) (c:List α2) (x:List Blk):List Blk:= .cells [.i a,vl qb b,.gslice 2 c.length 4]::x
abbrev kAE (a:Str) (b:Str) (x:List (Nat×AV)):List (Nat×AV):=(1,.str a)::(2,.str b)::(3,.ptr 0 0)::(6,.ptr 1 0)::x
abbrev kAF (x:List (Nat×AV)):List (Nat×AV):=(4,.ptr 1 0)::x
abbrev kAG (a:Str) (b:Str) (c:Int) (d:Int) (x:List AV):List AV:= .agg [.str a,.str b,.i c,.i d]::x
abbrev kAH (a:Int):List (Nat×AV):=[(7,.i 5),(8,.i a)]
abbrev kAI (a:List qj) (b:Int) (x:List (Nat×AV)):List (Nat×AV):=(2,.ptr 1 0)::(3,.ptr 2 0)::(12,vl qb a)::(13,.i b)::x
abbrev kAJ {α1:Type} {α2:Type} (a:Int) (b:List α1) (c:List α2) (x:List Blk):List Blk:= .cells [.i a,.gslice 2 b.length 4,.gslice 3 c.length 4]::x
abbrev kAK (a:Int) (b:Int):List (Nat×AV):=[(5,.i a),(6,.i b)]
abbrev kAL {α1:Type} (a:Int) (b:List α1) (x:List Blk):List Blk:= .cells [.i a,.gslice 4 b.length 4,.nilslice]::x
abbrev kAM (a:Int) (b:Int) (x:List (Nat×AV)):List (Nat×AV):=(7,.i a)::(8,.i b)::x
abbrev kAN (a:List qd) (x:List (Nat×AV)):List (Nat×AV):=(0,vl qa a)::x
abbrev kAO (a:Str) (b:Int) (c:Str) (d:Int) (e:Str) (f:Str) (g:Str) (x:List (Nat×AV)):List (Nat×AV):=(1,.agg [.str a,.i b,.str c,.i d,.str e,.str f,.str g])::x
abbrev kAP (a:List Int) (b:Int) (c:Int) (x:List (Nat×AV)):List (Nat×AV):=(5,vl encI a)::(6,.i b)::(7,.i c)::x
abbrev kAQ {α2:Type} (a:Int) (b:List qj) (c:List α2) (x:List Blk):List Blk:= .cells [.i a,vl qb b,.oslice 2 c.length 4]::x
abbrev kAR (a:Int) (b:Int):List Blk:=[.cells [.i a,.i b]]
abbrev kAS:List AV:=[.str [114,101,99,101,105,118,101],.str [114,101,115,101,114,118,101],.str [114,101,108,101,97,115,101],.str [116,97,107,101],.str [114,101,116,117,114,110]]
abbrev kAT (a:Int) (b:List qj) (x:List Blk):List Blk:= .cells [.i a,vl qb b,.nilslice]::x
abbrev kAU:List (Nat×AV):=[(4,.ptr 0 0),(6,.ptr 1 0)]
abbrev kAV (a:Bool):List (Nat×AV):=[(2,.bool a)]
abbrev kAW (a:Str) (b:Int) (c:Str) (d:Int) (e:Str) (f:Str) (g:Str) (x:List AV):List AV:= .agg [.str a,.i b,.str c,.i d,.str e,.str f,.str g]::x
abbrev kAX (x:List (Nat×AV)):List (Nat×AV):=(4,.ptr 2 0)::x
abbrev kAY:List (Nat×AV):=[(4,.bool false)]
abbrev kAZ (a:Str) (x:List (Nat×AV)):List (Nat×AV):=(0,.str a)::(6,.ptr 0 0)::x
abbrev kAa (a:Str) (b:Int) (c:List qd) (d:Int) (e:Int) (x:List (Nat×AV)):List (Nat×AV):=(1,.str a)::(5,.i b)::(9,vl qa c)::(10,.i d)::(11,.i e)::x
abbrev kAb (a:Str) (b:Int) (x:List (Nat×AV)):List (Nat×AV):=(0,.str a)::(3,.i b)::x
abbrev kAc:List (Nat×AV):=[(2,.bool false)]
abbrev kAd (a:Int):List (Nat×AV):=[(5,.i a)]
abbrev kAe {α1:Type} (a:Int) (b:List α1) (x:List Blk):List Blk:= .cells [.i a,.gslice 3 b.length 4,.nilslice]::x
abbrev kAf:List Blk:=[.cells [.str [],.str [],.i 0,.i 0]]
abbrev kAg (a:List qd) (b:Int) (c:Int) (x:List (Nat×AV)):List (Nat×AV):=(14,vl qa a)::(15,.i b)::(16,.i c)::x
abbrev kAh (a:List qj) (b:Int) (c:Int) (x:List (Nat×AV)):List (Nat×AV):=(14,vl qb a)::(15,.i b)::(16,.i c)::x
abbrev kAi:List (Nat×AV):=[(102,.bool false)]
abbrev kAj (a:List qd) (b:Int) (x:List (Nat×AV)):List (Nat×AV):=(26,vl qa a)::(27,.i b)::x
abbrev kAk (a:Int) (x:List (Nat×AV)):List (Nat×AV):=(5,.i a)::(6,.ptr 1 0)::x
abbrev kAl:List (Nat×AV):=[(102,.bool true)]
abbrev kAm:List (Nat×AV):=[(4,.bool true)]
abbrev kAn (a:Str) (b:Str) (c:Str) (d:Int) (x:List AV):List AV:= .agg [.str a,.str b,.str c,.i d]::x
abbrev kAo (a:Str) (b:Str) (c:Int) (d:Int):List AV:=[.str a,.str b,.i c,.i d]
abbrev kAp {α0:Type} (a:List α0):List (Nat×AV):=[(4,.oslice 0 a.length 4)]
abbrev kAq:List (Nat×AV):=[(4,.i (-1))]
abbrev kAr (a:Int) (b:Int) (c:Int) (x:List (Nat×AV)):List (Nat×AV):=(8,.i a)::(9,.i b)::(10,.i c)::x
abbrev kAs (a:Int):List (Nat×AV):=[(4,.i a)]
abbrev kAt:List (Nat×AV):=[(42,.bool true)]
abbrev kAu (a:Int):List (Nat×AV):=[(2,.i a)]
abbrev kAv (a:Int) (b:Bool):List (Nat×AV):=[(7,.i 5),(8,.i a),(9,.bool b)]
abbrev kAw (a:Bool):List (Nat×AV):=[(3,.bool a)]
abbrev kAx (a:Bool):List (Nat×AV):=[(102,.bool a)]
abbrev kAy (a:Str) (b:Str) (c:Int) (d:Int) (x:List (Nat×AV)):List (Nat×AV):=(0,.agg [.str a,.str b,.i c,.i d])::x
abbrev kAz:List (Nat×AV):=[(4,.ptr 0 0)]
abbrev kA0:List (Nat×AV):=[(7,.i 5),(8,.i 0)]
theorem sl79:SlT ZT 79 3 1 8:=⟨by kernel_rfl,by kernel_rfl,by kernel_rfl,by kernel_rfl⟩
theorem ce3:CeT ZT 3:=⟨by kernel_rfl,by kernel_rfl⟩
theorem qbu:SlT ZT 40 84 4 56:=⟨by kernel_rfl,by kernel_rfl,by kernel_rfl,by kernel_rfl⟩
theorem ag84:AgT ZT 84 4:=⟨by kernel_rfl,by kernel_rfl⟩
theorem eqt84:EqT ZT 84 #[{name:= "Name",type:=9,offset:=0,embedded:=false,tag:= "",pkgPath:= "",byteOffset:=0},{name:= "Yarn",type:=9,offset:=1,embedded:=false,tag:= "",pkgPath:= "",byteOffset:=16},{name:= "Dye",type:=9,offset:=2,embedded:=false,tag:= "",pkgPath:= "",byteOffset:=32},{name:= "Stock",type:=3,offset:=3,embedded:=false,tag:= "",pkgPath:= "",byteOffset:=48}]:=⟨by kernel_rfl,by kernel_rfl,by kernel_rfl⟩
theorem qcK:SlT ZT 41 118 4 48:=⟨by kernel_rfl,by kernel_rfl,by kernel_rfl,by kernel_rfl⟩
theorem qgt:AgT ZT 118 4:=⟨by kernel_rfl,by kernel_rfl⟩
theorem qmT:EqT ZT 118 #[{name:= "Lot",type:=9,offset:=0,embedded:=false,tag:= "",pkgPath:= "",byteOffset:=0},{name:= "Order",type:=9,offset:=1,embedded:=false,tag:= "",pkgPath:= "",byteOffset:=16},{name:= "Reserved",type:=3,offset:=2,embedded:=false,tag:= "",pkgPath:= "",byteOffset:=32},{name:= "Taken",type:=3,offset:=3,embedded:=false,tag:= "",pkgPath:= "",byteOffset:=40}]:=⟨by kernel_rfl,by kernel_rfl,by kernel_rfl⟩
theorem qgg:SlT ZT 27 71 4 56:=⟨by kernel_rfl,by kernel_rfl,by kernel_rfl,by kernel_rfl⟩
theorem qiL:AgT ZT 71 4:=⟨by kernel_rfl,by kernel_rfl⟩
theorem qa5:SlT ZT 28 74 4 48:=⟨by kernel_rfl,by kernel_rfl,by kernel_rfl,by kernel_rfl⟩
theorem qhc:AgT ZT 74 4:=⟨by kernel_rfl,by kernel_rfl⟩
theorem ce9:CeT ZT 9:=⟨by kernel_rfl,by kernel_rfl⟩
theorem sl179:SlT ZT 179 32 1 8:=⟨by kernel_rfl,by kernel_rfl,by kernel_rfl,by kernel_rfl⟩
theorem ce32:CeT ZT 32:=⟨by kernel_rfl,by kernel_rfl⟩
theorem qaY:MapT ZT 143 9 141 (.agg [.nilfunc,.nilfunc]):=⟨by kernel_rfl,by kernel_rfl,by kernel_rfl⟩
theorem qkm:EqT ZT 190 #[{name:= "lot",type:=9,offset:=0,embedded:=false,tag:= "",pkgPath:= "becket/yarn",byteOffset:=0},{name:= "order",type:=9,offset:=1,embedded:=false,tag:= "",pkgPath:= "becket/yarn",byteOffset:=16}]:=⟨by kernel_rfl,by kernel_rfl,by kernel_rfl⟩
abbrev qaJ (x0_:qh) (x1_:qm) (x2_:qc):List AV:=[.func (.func 115) [] [.fptr (kA x0_.Kind x0_.Day x0_.Lot x0_.Amount x0_.Yarn x0_.Dye x0_.Order) 0,.fptr (kH x1_.Day x1_.Lots x1_.Holds) 0],.func (.func 116) [] [.fptr (kA x0_.Kind x0_.Day x0_.Lot x0_.Amount x0_.Yarn x0_.Dye x0_.Order) 0,.fptr (.str x2_.lot.Name::(kB x2_.lot.Yarn x2_.lot.Dye x2_.lot.Stock x2_.known x2_.hold.Lot x2_.hold.Order x2_.hold.Reserved x2_.hold.Taken x2_.free)) 0],.func (.func 117) [] [.fptr [.func (.func 132) [] [],.func (.func 133) [] []] 0,.fptr (.str x2_.lot.Name::(kB x2_.lot.Yarn x2_.lot.Dye x2_.lot.Stock x2_.known x2_.hold.Lot x2_.hold.Order x2_.hold.Reserved x2_.hold.Taken x2_.free)) 0,.fptr (kA x0_.Kind x0_.Day x0_.Lot x0_.Amount x0_.Yarn x0_.Dye x0_.Order) 0],.func (.func 118) [] [.fptr [.func (.func 132) [] [],.func (.func 133) [] []] 0,.fptr (.str x2_.lot.Name::(kB x2_.lot.Yarn x2_.lot.Dye x2_.lot.Stock x2_.known x2_.hold.Lot x2_.hold.Order x2_.hold.Reserved x2_.hold.Taken x2_.free)) 0,.fptr (kA x0_.Kind x0_.Day x0_.Lot x0_.Amount x0_.Yarn x0_.Dye x0_.Order) 0],.func (.func 119) [] [.fptr (kH x1_.Day x1_.Lots x1_.Holds) 0,.fptr (kA x0_.Kind x0_.Day x0_.Lot x0_.Amount x0_.Yarn x0_.Dye x0_.Order) 0]]
abbrev qaM (x0_:qh) (x1_:qm) (x2_:qc):List AV:=[.func (.func 115) [] [.fptr (kA x0_.Kind x0_.Day x0_.Lot x0_.Amount x0_.Yarn x0_.Dye x0_.Order) 0,.fptr (kH x1_.Day x1_.Lots x1_.Holds) 0],.func (.func 116) [] [.fptr (kA x0_.Kind x0_.Day x0_.Lot x0_.Amount x0_.Yarn x0_.Dye x0_.Order) 0,.fptr (.str x2_.lot.Name::(kB x2_.lot.Yarn x2_.lot.Dye x2_.lot.Stock x2_.known x2_.hold.Lot x2_.hold.Order x2_.hold.Reserved x2_.hold.Taken x2_.free)) 0],.func (.func 117) [] [.fptr [.func (.func 134) [] [],.func (.func 135) [] []] 0,.fptr (.str x2_.lot.Name::(kB x2_.lot.Yarn x2_.lot.Dye x2_.lot.Stock x2_.known x2_.hold.Lot x2_.hold.Order x2_.hold.Reserved x2_.hold.Taken x2_.free)) 0,.fptr (kA x0_.Kind x0_.Day x0_.Lot x0_.Amount x0_.Yarn x0_.Dye x0_.Order) 0],.func (.func 118) [] [.fptr [.func (.func 134) [] [],.func (.func 135) [] []] 0,.fptr (.str x2_.lot.Name::(kB x2_.lot.Yarn x2_.lot.Dye x2_.lot.Stock x2_.known x2_.hold.Lot x2_.hold.Order x2_.hold.Reserved x2_.hold.Taken x2_.free)) 0,.fptr (kA x0_.Kind x0_.Day x0_.Lot x0_.Amount x0_.Yarn x0_.Dye x0_.Order) 0],.func (.func 119) [] [.fptr (kH x1_.Day x1_.Lots x1_.Holds) 0,.fptr (kA x0_.Kind x0_.Day x0_.Lot x0_.Amount x0_.Yarn x0_.Dye x0_.Order) 0]]
abbrev qaO (x0_:qh) (x1_:qm) (x2_:qc):List AV:=[.func (.func 115) [] [.fptr (kA x0_.Kind x0_.Day x0_.Lot x0_.Amount x0_.Yarn x0_.Dye x0_.Order) 0,.fptr (kH x1_.Day x1_.Lots x1_.Holds) 0],.func (.func 116) [] [.fptr (kA x0_.Kind x0_.Day x0_.Lot x0_.Amount x0_.Yarn x0_.Dye x0_.Order) 0,.fptr (.str x2_.lot.Name::(kB x2_.lot.Yarn x2_.lot.Dye x2_.lot.Stock x2_.known x2_.hold.Lot x2_.hold.Order x2_.hold.Reserved x2_.hold.Taken x2_.free)) 0],.func (.func 117) [] [.fptr [.func (.func 137) [] [],.func (.func 138) [] []] 0,.fptr (.str x2_.lot.Name::(kB x2_.lot.Yarn x2_.lot.Dye x2_.lot.Stock x2_.known x2_.hold.Lot x2_.hold.Order x2_.hold.Reserved x2_.hold.Taken x2_.free)) 0,.fptr (kA x0_.Kind x0_.Day x0_.Lot x0_.Amount x0_.Yarn x0_.Dye x0_.Order) 0],.func (.func 118) [] [.fptr [.func (.func 137) [] [],.func (.func 138) [] []] 0,.fptr (.str x2_.lot.Name::(kB x2_.lot.Yarn x2_.lot.Dye x2_.lot.Stock x2_.known x2_.hold.Lot x2_.hold.Order x2_.hold.Reserved x2_.hold.Taken x2_.free)) 0,.fptr (kA x0_.Kind x0_.Day x0_.Lot x0_.Amount x0_.Yarn x0_.Dye x0_.Order) 0],.func (.func 119) [] [.fptr (kH x1_.Day x1_.Lots x1_.Holds) 0,.fptr (kA x0_.Kind x0_.Day x0_.Lot x0_.Amount x0_.Yarn x0_.Dye x0_.Order) 0]]
abbrev qaG (x0_:qh) (x1_:qm) (x2_:qc):List AV:=[.func (.func 115) [] [.fptr (kA x0_.Kind x0_.Day x0_.Lot x0_.Amount x0_.Yarn x0_.Dye x0_.Order) 0,.fptr (kH x1_.Day x1_.Lots x1_.Holds) 0],.func (.func 116) [] [.fptr (kA x0_.Kind x0_.Day x0_.Lot x0_.Amount x0_.Yarn x0_.Dye x0_.Order) 0,.fptr (.str x2_.lot.Name::(kB x2_.lot.Yarn x2_.lot.Dye x2_.lot.Stock x2_.known x2_.hold.Lot x2_.hold.Order x2_.hold.Reserved x2_.hold.Taken x2_.free)) 0],.func (.func 117) [] [.fptr [.func (.func 139) [] [],.func (.func 140) [] []] 0,.fptr (.str x2_.lot.Name::(kB x2_.lot.Yarn x2_.lot.Dye x2_.lot.Stock x2_.known x2_.hold.Lot x2_.hold.Order x2_.hold.Reserved x2_.hold.Taken x2_.free)) 0,.fptr (kA x0_.Kind x0_.Day x0_.Lot x0_.Amount x0_.Yarn x0_.Dye x0_.Order) 0],.func (.func 118) [] [.fptr [.func (.func 139) [] [],.func (.func 140) [] []] 0,.fptr (.str x2_.lot.Name::(kB x2_.lot.Yarn x2_.lot.Dye x2_.lot.Stock x2_.known x2_.hold.Lot x2_.hold.Order x2_.hold.Reserved x2_.hold.Taken x2_.free)) 0,.fptr (kA x0_.Kind x0_.Day x0_.Lot x0_.Amount x0_.Yarn x0_.Dye x0_.Order) 0],.func (.func 119) [] [.fptr (kH x1_.Day x1_.Lots x1_.Holds) 0,.fptr (kA x0_.Kind x0_.Day x0_.Lot x0_.Amount x0_.Yarn x0_.Dye x0_.Order) 0]]
abbrev qaK (x0_:qh) (x1_:qm) (x2_:qc):List AV:=[.func (.func 115) [] [.fptr (kA x0_.Kind x0_.Day x0_.Lot x0_.Amount x0_.Yarn x0_.Dye x0_.Order) 0,.fptr (kH x1_.Day x1_.Lots x1_.Holds) 0],.func (.func 116) [] [.fptr (kA x0_.Kind x0_.Day x0_.Lot x0_.Amount x0_.Yarn x0_.Dye x0_.Order) 0,.fptr (.str x2_.lot.Name::(kB x2_.lot.Yarn x2_.lot.Dye x2_.lot.Stock x2_.known x2_.hold.Lot x2_.hold.Order x2_.hold.Reserved x2_.hold.Taken x2_.free)) 0],.func (.func 117) [] [.fptr [.func (.func 141) [] [],.func (.func 142) [] []] 0,.fptr (.str x2_.lot.Name::(kB x2_.lot.Yarn x2_.lot.Dye x2_.lot.Stock x2_.known x2_.hold.Lot x2_.hold.Order x2_.hold.Reserved x2_.hold.Taken x2_.free)) 0,.fptr (kA x0_.Kind x0_.Day x0_.Lot x0_.Amount x0_.Yarn x0_.Dye x0_.Order) 0],.func (.func 118) [] [.fptr [.func (.func 141) [] [],.func (.func 142) [] []] 0,.fptr (.str x2_.lot.Name::(kB x2_.lot.Yarn x2_.lot.Dye x2_.lot.Stock x2_.known x2_.hold.Lot x2_.hold.Order x2_.hold.Reserved x2_.hold.Taken x2_.free)) 0,.fptr (kA x0_.Kind x0_.Day x0_.Lot x0_.Amount x0_.Yarn x0_.Dye x0_.Order) 0],.func (.func 119) [] [.fptr (kH x1_.Day x1_.Lots x1_.Holds) 0,.fptr (kA x0_.Kind x0_.Day x0_.Lot x0_.Amount x0_.Yarn x0_.Dye x0_.Order) 0]]
theorem st9:Tryz.prog.underlying 9=some .string:=by kernel_rfl
abbrev fm1:AV:= .fmap kAS [.agg [.func (.func 132) [] [],.func (.func 133) [] []],.agg [.func (.func 134) [] [],.func (.func 135) [] []],.agg [.func (.func 137) [] [],.func (.func 138) [] []],.agg [.func (.func 139) [] [],.func (.func 140) [] []],.agg [.func (.func 141) [] [],.func (.func 142) [] []]]
instance:SC 12 fm1:=⟨Still.fmap SX.h (AllST.cons SC.h (AllST.cons SC.h (AllST.cons SC.h (AllST.cons SC.h (AllST.cons SC.h AllST.nil)))))⟩
theorem qmg (x:qj):Fl (qb.c x):=by
 have e:qb.c x=[.str x.Name,.str x.Yarn,.str x.Dye,.i x.Stock]:=rfl
 rw[e]
 intro a ha
 simp only[List.mem_cons,List.not_mem_nil,or_false]at ha
 rcases ha with rfl|rfl|rfl|rfl<;>rfl
def qc8 (l:List qj):Option Unit:=if l.length<=1000000 then some ()else none
theorem qhw (l:List qj) {u:Unit} (h:qc8 l=some u):qf ZT (.fn 120) [vl qb l] [] (.gslice 0 l.length 4) (kO l []):=by
 unfold qc8 at h
 split at h
 ·exact qj5 rfl qmg l ‹_›
 cases h
theorem qmD (x:qd):Fl (qa.c x):=by
 have e:qa.c x=(kAo x.Lot x.Order x.Reserved x.Taken):=rfl
 rw[e]
 intro a ha
 simp only[List.mem_cons,List.not_mem_nil,or_false]at ha
 rcases ha with rfl|rfl|rfl|rfl<;>rfl
def qcb (l:List qd):Option Unit:=if l.length<=1000000 then some ()else none
theorem qel (l:List qd) {u:Unit} (h:qcb l=some u):qf ZT (.fn 123) [vl qa l] [] (.gslice 0 l.length 4) (kI l []):=by
 unfold qcb at h
 split at h
 ·exact qif rfl qmD l ‹_›
 cases h
def qfn (l:List qj) (i:Int) (a b c:Str) (d:Int):Option (List qj):=if 0<=i/\i<=l.length/\l.length<1000000 then some (l.take i.toNat++[⟨a,b,c,d⟩]++l.drop i.toNat)else none
theorem qj3 (l:List qj) (i:Int) (a b c:Str) (d:Int) {r:List qj} (h:qfn l i a b c d=some r):qf ZT (.fn 121) [.gslice 0 l.length 4,.i i,.slice 1 0 1 1 4] (kO l (kP a b c d [])) (.oslice 2 r.length 4) (.dead::(kP a b c d (kO r []))):=by
 unfold qfn at h
 split at h
 ·rename_i hc
  obtain rfl:=si h
  have:=qmc (E:=qb) rfl qmg l ⟨a,b,c,d⟩ i.toNat (by omega) hc.2.2
  rw[Int.toNat_of_nonneg hc.1]at this
  exact this
 cases h
instance:Inhabited qd:=⟨⟨[],[],0,0⟩⟩
theorem hldE:qdR qa qd.Lot qd.Order qd.Reserved qd.Taken:=⟨rfl,fun _=>rfl⟩
def qdr (l:List qd):Option (List qd):=if l.length<=1000000 then some (qbq qd.Lot qd.Order l)else none
theorem qg8 (l:List qd) {r:List qd} (h:qdr l=some r):qf ZT (.fn 126) [.oslice 0 l.length 4,.func (.func 127) [] []] (kI l []) (.tuple []) (kI r []):=by
 unfold qdr at h
 split at h
 ·rename_i hl
  obtain rfl:=si h
  have:=hldE.sortO (ns:=l) hl
  exact this
 cases h
def qdv (l:List qd):Option (List qd):=if l.length<=1000000 then some (qbq qd.Lot qd.Order l)else none
theorem qgZ (l:List qd) {r:List qd} (h:qdv l=some r):qf ZT (.fn 126) [.gslice 0 l.length 4,.func (.func 127) [] []] (kI l []) (.tuple []) (kI r []):=by
 unfold qdv at h
 split at h
 ·rename_i hl
  obtain rfl:=si h
  have:=hldE.sortG (ns:=l) hl
  exact this
 cases h
def vE (l:List Int):Nat->Int->Option (Unit⊕Int)
 |0,_=>none
 |K+1,a=>
  if a<(l.length:Int)then
  (idx l a).bind fun b=>
  if(!decide (b=0))=true then
  some (.inr b)
  else
  vE l K (w64 (a+1))
  else
  some (.inl ())
def xS (N:Nat) (l:List Int):Option Int:=
 (vE l N 0).bind (fun
 |(.inl ())=>
 some 0
 |(.inr a)=>
 some a)
theorem qf5 (N:Nat) (l:List Int) {res:Int} (h:xS N l=some res):qf ZT (.fn 14) [vl encI l] [] (.i res) []:=by
 unfold xS at h
 refine Uc Tryz.func14 rfl rfl (m:=15) rfl (rs:=[.tmp 2]) rfl (l:=[(0,vl encI l)]) rfl ?_
 refine sh fol [(0,vl encI l)] ?_
 refine sq ?_
 refine sh fol [(5,vl encI l),(6,.i (l.length:Int)),(7,.i 0)] ?_
 refine Goes.block ?_
 obtain⟨d,g2,h⟩:=bnd h
 refine Goes.imp (Q:=fun x s'=>(x= .exit 0/\(.inl ())=d/\Sub s' (ofG 15 [],[]))\/(x= .ret/\ ∃e,(.inr e)=d/\qP ZT [.tmp 2] (.i e) .ret s')) ?_ ?_
 ·refine Ud (fun M s=> ∃(a:Int),s=(ofG 15 (kAP l (l.length:Int) a []),[])/\vE l M a=some d) ?_ (m:=N) ⟨_,rfl,g2⟩
  rintro M s ⟨a,rfl,g2⟩
  cases M with
  |zero=>simp only[vE]at g2;cases g2
  |succ M=>
   rw[vE]at g2
   refine sh fol (kAP l (l.length:Int) a [(8,.bool (decide (a<(l.length:Int))))]) ?_
   refine sq ?_
   refine ihD g2 (fun f g2=>?_) (fun f g2=>?_)
   ·refine Goes.skip ?_
    refine sq (Goes.block ?_)
    obtain⟨c,b,g2⟩:=bnd g2
    refine sq (gr fol [0,1] ((4,.i c)::(kAP l (l.length:Int) a [])) (ac (iv sl79 encI b) (ac (lv 0 ce3 encI b rfl) az)) ?_)
    refine sh fol ((4,.i c)::(kAP l (l.length:Int) a [(12,.bool (!decide (c=0)))])) ?_
    refine ihB g2 (fun g g2=>?_) (fun g g2=>?_)
    ·refine sh fol (kAu c) ?_
     refine Goes.ret ?_
     obtain rfl:=si g2
     exact Or.inr (⟨rfl,_,rfl,(gw2 [.i c] (Ub tI))⟩)
    refine Goes.skip ?_
    refine gh fol (kAP l (l.length:Int) (w64 (a+1)) []) ?_
    exact⟨M,(ofG 15 (kAP l (l.length:Int) (w64 (a+1)) []),[]),Nat.lt_succ_self _,(Sub.refl _),_,rfl,g2⟩
   refine Goes.exit ?_
   obtain rfl:=si g2
   exact Or.inl (⟨rfl,rfl,(Sub.keep [] rfl rfl)⟩)
 rintro x s' (⟨rfl,rfl,hsub⟩|⟨rfl,j,rfl,hret⟩)
 ·try dsimp only at h
  refine Goes.sub hsub ?_
  refine sh fol [(2,.i 0)] ?_
  refine Goes.ret ?_
  obtain rfl:=si h
  exact(gw2 [.i 0] (Ub tI))
 try dsimp only at h
 obtain rfl:=si h
 exact hret
def qbA (holds:Bool) (e:Int):Option Int:=
 if holds=true then
 some e
 else
 some 0
theorem qgd (holds:Bool) (e:Int) {res:Int} (h:qbA holds e=some res):qf ZT (.fn 15) [.bool holds,.i e] [] (.i res) []:=by
 unfold qbA at h
 refine Uc Tryz.func15 rfl rfl (m:=7) rfl (rs:=[.tmp 4]) rfl (l:=[(0,.bool holds),(1,.i e)]) rfl ?_
 refine sh fol [(0,.bool holds),(1,.i e)] ?_
 refine sq ?_
 refine sh fol [(1,.i e),(5,.bool holds)] ?_
 refine ihB h (fun a h=>?_) (fun a h=>?_)
 ·refine sh fol (kAs e) ?_
  refine Goes.ret ?_
  obtain rfl:=si h
  exact(gw2 [.i e] (Ub tI))
 refine Goes.skip ?_
 refine sh fol [(4,.i 0)] ?_
 refine Goes.ret ?_
 obtain rfl:=si h
 exact(gw2 [.i 0] (Ub tI))
def vY (a:StateT) (b:StateT):Nat->Int->Option (Unit⊕Bool)
 |0,_=>none
 |K+1,e=>
  if e<(a.Lots.length:Int)then
  (idx a.Lots e).bind fun c=>
  (idx b.Lots e).bind fun d=>
  if(!((c.Name==d.Name)&&((c.Yarn==d.Yarn)&&((c.Dye==d.Dye)&&(decide (c.Stock=d.Stock)&&true)))))=true then
  some (.inr false)
  else
  vY a b K (w64 (e+1))
  else
  some (.inl ())
def vV (a:StateT) (b:StateT):Nat->Int->Option (Unit⊕Bool)
 |0,_=>none
 |K+1,c=>
  if c<(a.Holds.length:Int)then
  (idx a.Holds c).bind fun d=>
  (idx b.Holds c).bind fun e=>
  if(!((d.Lot==e.Lot)&&((d.Order==e.Order)&&(decide (d.Reserved=e.Reserved)&&(decide (d.Taken=e.Taken)&&true)))))=true then
  some (.inr false)
  else
  vV a b K (w64 (c+1))
  else
  some (.inl ())
def qax (N:Nat) (a:StateT) (b:StateT):Option Bool:=
 (if(!decide (a.Day=b.Day))=true then
 some true
 else
 if(!decide ((a.Lots.length:Int)=(b.Lots.length:Int)))=true then
 some true
 else
 some (!decide ((a.Holds.length:Int)=(b.Holds.length:Int))):Option Bool).bind fun e=>
 if e=true then
 some false
 else
 (vY a b N 0).bind (fun
 |(.inl ())=>
 (vV a b N 0).bind (fun
 |(.inl ())=>
 some true
 |(.inr c)=>
 some c)
 |(.inr d)=>
 some d)
theorem qdL (N:Nat) (a:StateT) (b:StateT) {res:Bool} (h:qax N a b=some res):qf ZT (.fn 19) (kX a.Day a.Lots a.Holds (kX b.Day b.Lots b.Holds [])) [] (.bool res) []:=by
 unfold qax at h
 refine Uc Tryz.func19 rfl rfl (m:=66) rfl (rs:=[.tmp 4]) rfl (l:=(kS a.Day a.Lots a.Holds [(1,.agg [.i b.Day,vl qb b.Lots,vl qa b.Holds])])) rfl ?_
 refine sg fol (kG []) (kE a.Day a.Lots a.Holds (kE b.Day b.Lots b.Holds [])) ?_
 refine sq ?_
 refine sq ?_
 obtain⟨D,j,h⟩:=bnd h
 refine Goes.cut (s':=(ofG 66 (kG [(29,.bool D)]),(kE a.Day a.Lots a.Holds (kE b.Day b.Lots b.Holds [])))) ?_ ?_
 ·rcases wyB j with⟨v,j⟩|⟨v,j⟩
  ·obtain rfl:=si j
   exact tr fol [5] (kG [(29,.bool true)]) (ac (gw v) az)
  rcases wyB j with⟨w,j⟩|⟨w,j⟩
  ·obtain rfl:=si j
   exact tr fol [5,14] (kG [(29,.bool true)]) (ac (gw v) (ac (gw w) az))
  obtain rfl:=si j
  exact tr fol [5,14] (kG [(29,.bool (!decide ((a.Holds.length:Int)=(b.Holds.length:Int))))]) (ac (gw v) (ac (gw w) az))
 refine ihB h (fun E h=>?_) (fun E h=>?_)
 ·refine sh fol kAY ?_
  refine Goes.ret ?_
  obtain rfl:=si h
  exact(gw2 [.bool false] (Ub tB))
 refine Goes.skip ?_
 refine sq ?_
 refine sh fol (kG [(5,.i 0)]) ?_
 refine Goes.block ?_
 obtain⟨y,g7,h⟩:=bnd h
 refine Goes.imp (Q:=fun x s'=>(x= .exit 0/\(.inl ())=y/\Sub s' (ofG 66 (kG []),(kE a.Day a.Lots a.Holds (kE b.Day b.Lots b.Holds []))))\/(x= .ret/\ ∃C,(.inr C)=y/\qP ZT [.tmp 4] (.bool C) .ret s')) ?_ ?_
 ·refine Ud (fun M s=> ∃(r:Int),s=(ofG 66 (kG (kAd r)),(kE a.Day a.Lots a.Holds (kE b.Day b.Lots b.Holds [])))/\vY a b M r=some y) ?_ (m:=N) ⟨_,rfl,g7⟩
  rintro M s ⟨r,rfl,g7⟩
  cases M with
  |zero=>simp only[vY]at g7;cases g7
  |succ M=>
   rw[vY]at g7
   refine sq ?_
   refine sh fol (kG [(5,.i r),(34,.bool (decide (r<(a.Lots.length:Int))))]) ?_
   refine ihD g7 (fun F g7=>?_) (fun F g7=>?_)
   ·refine Goes.skip ?_
    refine sq (Goes.block ?_)
    obtain⟨c,n,g7⟩:=bnd g7
    obtain⟨d,o,g7⟩:=bnd g7
    refine sq (gr fol [3,4,8,9,10] (kG [(5,.i r),(47,.bool (!((c.Name==d.Name)&&((c.Yarn==d.Yarn)&&((c.Dye==d.Dye)&&(decide (c.Stock=d.Stock)&&true))))))]) (ac (iv qbu qb n) (ac (la ag84 qb n) (ac (iv qbu qb o) (ac (la ag84 qb o) (ac (hs (.done (.opt (qdD ZT .neq 84 (.tmp 41) (.tmp 46) (.agg [.str c.Name,.str c.Yarn,.str c.Dye,.i c.Stock]) (.agg [.str d.Name,.str d.Yarn,.str d.Dye,.i d.Stock]))) (.bool (!((c.Name==d.Name)&&((c.Yarn==d.Yarn)&&((c.Dye==d.Dye)&&(decide (c.Stock=d.Stock)&&true))))))) (qmr eqt84 (e:=((c.Name==d.Name)&&((c.Yarn==d.Yarn)&&((c.Dye==d.Dye)&&(decide (c.Stock=d.Stock)&&true))))) (.cons (a:= .str c.Name) (b:= .str d.Name) rfl (by kernel_rfl) (by kernel_rfl) (by kernel_rfl) (.cons (a:= .str c.Yarn) (b:= .str d.Yarn) rfl (by kernel_rfl) (by kernel_rfl) (by kernel_rfl) (.cons (a:= .str c.Dye) (b:= .str d.Dye) rfl (by kernel_rfl) (by kernel_rfl) (by kernel_rfl) (.cons (a:= .i c.Stock) (b:= .i d.Stock) rfl (by kernel_rfl) (by kernel_rfl) (by kernel_rfl) .nil)))))) az))))) ?_)
    refine ihB g7 (fun z g7=>?_) (fun z g7=>?_)
    ·refine sh fol kAY ?_
     refine Goes.ret ?_
     obtain rfl:=si g7
     exact Or.inr (⟨rfl,_,rfl,(gw2 [.bool false] (Ub tB))⟩)
    refine Goes.skip ?_
    refine gh fol (kG (kAd (w64 (r+1)))) ?_
    exact⟨M,(ofG 66 (kG (kAd (w64 (r+1)))),(kE a.Day a.Lots a.Holds (kE b.Day b.Lots b.Holds []))),Nat.lt_succ_self _,(Sub.refl _),_,rfl,g7⟩
   refine Goes.exit ?_
   obtain rfl:=si g7
   exact Or.inl (⟨rfl,rfl,(Sub.keep [2,3] rfl rfl)⟩)
 rintro x s' (⟨rfl,rfl,hsub⟩|⟨rfl,G,rfl,hret⟩)
 ·try dsimp only at h
  refine Goes.sub hsub ?_
  refine sq ?_
  refine sh fol (kG [(6,.i 0)]) ?_
  refine Goes.block ?_
  obtain⟨t,g14,h⟩:=bnd h
  refine Goes.imp (Q:=fun x s'=>(x= .exit 2/\(.inl ())=t/\Sub s' (ofG 66 [],[]))\/(x= .ret/\ ∃u,(.inr u)=t/\qP ZT [.tmp 4] (.bool u) .ret s')) ?_ ?_
  ·refine Ud (fun M s=> ∃(k:Int),s=(ofG 66 (kG [(6,.i k)]),(kE a.Day a.Lots a.Holds (kE b.Day b.Lots b.Holds [])))/\vV a b M k=some t) ?_ (m:=N) ⟨_,rfl,g14⟩
   rintro M s ⟨k,rfl,g14⟩
   cases M with
   |zero=>simp only[vV]at g14;cases g14
   |succ M=>
    rw[vV]at g14
    refine sq ?_
    refine sh fol (kG [(6,.i k),(52,.bool (decide (k<(a.Holds.length:Int))))]) ?_
    refine ihD g14 (fun A g14=>?_) (fun A g14=>?_)
    ·refine Goes.skip ?_
     refine sq (Goes.block ?_)
     obtain⟨f,p,g14⟩:=bnd g14
     obtain⟨g,q,g14⟩:=bnd g14
     refine sq (gr fol [3,4,8,9,10] (kG [(6,.i k),(65,.bool (!((f.Lot==g.Lot)&&((f.Order==g.Order)&&(decide (f.Reserved=g.Reserved)&&(decide (f.Taken=g.Taken)&&true))))))]) (ac (iv qcK qa p) (ac (la qgt qa p) (ac (iv qcK qa q) (ac (la qgt qa q) (ac (hs (.done (.opt (qdD ZT .neq 118 (.tmp 59) (.tmp 64) (.agg (kAo f.Lot f.Order f.Reserved f.Taken)) (.agg (kAo g.Lot g.Order g.Reserved g.Taken)))) (.bool (!((f.Lot==g.Lot)&&((f.Order==g.Order)&&(decide (f.Reserved=g.Reserved)&&(decide (f.Taken=g.Taken)&&true))))))) (qmr qmT (e:=((f.Lot==g.Lot)&&((f.Order==g.Order)&&(decide (f.Reserved=g.Reserved)&&(decide (f.Taken=g.Taken)&&true))))) (.cons (a:= .str f.Lot) (b:= .str g.Lot) rfl (by kernel_rfl) (by kernel_rfl) (by kernel_rfl) (.cons (a:= .str f.Order) (b:= .str g.Order) rfl (by kernel_rfl) (by kernel_rfl) (by kernel_rfl) (.cons (a:= .i f.Reserved) (b:= .i g.Reserved) rfl (by kernel_rfl) (by kernel_rfl) (by kernel_rfl) (.cons (a:= .i f.Taken) (b:= .i g.Taken) rfl (by kernel_rfl) (by kernel_rfl) (by kernel_rfl) .nil)))))) az))))) ?_)
     refine ihB g14 (fun B g14=>?_) (fun B g14=>?_)
     ·refine sh fol kAY ?_
      refine Goes.ret ?_
      obtain rfl:=si g14
      exact Or.inr (⟨rfl,_,rfl,(gw2 [.bool false] (Ub tB))⟩)
     refine Goes.skip ?_
     refine gh fol (kG [(6,.i (w64 (k+1)))]) ?_
     exact⟨M,(ofG 66 (kG [(6,.i (w64 (k+1)))]),(kE a.Day a.Lots a.Holds (kE b.Day b.Lots b.Holds []))),Nat.lt_succ_self _,(Sub.refl _),_,rfl,g14⟩
    refine Goes.exit ?_
    obtain rfl:=si g14
    exact Or.inl (⟨rfl,rfl,(Sub.norm [] [] rfl rfl .nil .nil)⟩)
  rintro x s' (⟨rfl,rfl,hsub⟩|⟨rfl,H,rfl,hret⟩)
  ·try dsimp only at h
   refine Goes.sub hsub ?_
   refine sh fol kAm ?_
   refine Goes.ret ?_
   obtain rfl:=si h
   exact(gw2 [.bool true] (Ub tB))
  try dsimp only at h
  obtain rfl:=si h
  exact hret
 try dsimp only at h
 obtain rfl:=si h
 exact hret
def vG (a:qm):Nat->(List qj)->Int->Option (List qj)
 |0,_,_=>none
 |K+1,c,b=>
  if b<(a.Lots.length:Int)then
  (idx a.Lots b).bind fun d=>
  (app 56 c [d]).bind fun e=>
  vG a K e (w64 (b+1))
  else
  some c
def vC (a:qm):Nat->(List qd)->Int->Option (List qd)
 |0,_,_=>none
 |K+1,e,b=>
  if b<(a.Holds.length:Int)then
  (idx a.Holds b).bind fun c=>
  (app 48 e [c]).bind fun d=>
  vC a K d (w64 (b+1))
  else
  some e
def yo (N:Nat) (a:qm):Option StateT:=
 (vG a N ([]:List qj) 0).bind fun c=>
 (vC a N ([]:List qd) 0).bind fun b=>
 some (⟨a.Day,c,b⟩:StateT)
theorem qbo (N:Nat) (a:qm) {res:StateT} (h:yo N a=some res):qf ZT (.fn 20) [.agg (kH a.Day a.Lots a.Holds)] [] (.agg (kH res.Day res.Lots res.Holds)) []:=by
 unfold yo at h
 refine Uc Tryz.func20 rfl rfl (m:=40) rfl (rs:=[.cell 2 43]) rfl (l:=(kS a.Day a.Lots a.Holds [])) rfl ?_
 refine sg fol (kV [(2,.ptr 1 0)]) (kE a.Day a.Lots a.Holds (kF [])) ?_
 refine sg fol (kV [(2,.ptr 1 0),(3,.ptr 2 0)]) (kE a.Day a.Lots a.Holds (kF [.cells [.i a.Day,.nilslice,.nilslice]])) ?_
 refine sq ?_
 refine sh fol (kV (kAI a.Lots (a.Lots.length:Int) [(14,.i 0)])) ?_
 refine Goes.block ?_
 obtain⟨y,g4,h⟩:=bnd h
 refine Goes.imp (Q:=fun x s'=>(x= .exit 0/\ ∃e,e=y/\Sub s' (ofG 40 (kV [(2,.ptr 1 0),(3,.ptr 2 0)]),(kE a.Day a.Lots a.Holds (kF (kAe a.Day e (kO e []))))))) ?_ ?_
 ·refine Goes.sub (s':=(ofG 40 (kV (kAI a.Lots (a.Lots.length:Int) [(14,.i 0)])),(kE a.Day a.Lots a.Holds (kF [.cells [.i a.Day,.gslice 3 ([]:List qj).length 4,.nilslice],.cells (([]:List qj).flatMap qb.c)])))) (Sub.norm [] [some 0,some 1,some 2,none] rfl rfl (.kp (.kp (.kp (.keep (.same (qZ qb _)) (.keep (.same nI) (.keep (.same nI) .nil)))))) (.kb rfl (.same sn) (.kb rfl (.same sn) (.kb rfl (.cells (rc (.same nI) (rc (.nil) (rc (.same (qB.nilslice)) rn)))) (.fresh .nil))))) ?_
  refine Ud (fun M s=> ∃(j:List qj) (o:Int),s=(ofG 40 (kV (kAI a.Lots (a.Lots.length:Int) [(14,.i o)])),(kE a.Day a.Lots a.Holds (kF (kAe a.Day j (kO j [])))))/\vG a M j o=some y) ?_ (m:=N) ⟨_,_,rfl,g4⟩
  rintro M s ⟨j,o,rfl,g4⟩
  cases M with
  |zero=>simp only[vG]at g4;cases g4
  |succ M=>
   rw[vG]at g4
   refine sh fol (kV (kAI a.Lots (a.Lots.length:Int) [(14,.i o),(15,.bool (decide (o<(a.Lots.length:Int))))])) ?_
   refine sq ?_
   refine ihD g4 (fun z g4=>?_) (fun z g4=>?_)
   ·refine Goes.skip ?_
    refine sq (Goes.block ?_)
    obtain⟨d,q,g4⟩:=bnd g4
    refine sq (gq fol [0,1] (kV [(2,.ptr 1 0),(3,.ptr 2 0),(5,.ptr 4 0),(12,vl qb a.Lots),(13,.i (a.Lots.length:Int)),(14,.i o)]) (kE a.Day a.Lots a.Holds (kF (kAe a.Day j (kO j (kP d.Name d.Yarn d.Dye d.Stock []))))) (ac (iv qgg qb q) (ac (la qiL qb q) az)) ?_)
    obtain⟨t,u,g4⟩:=bnd g4
    refine gq fol [4] (kV (kAI a.Lots (a.Lots.length:Int) [(14,.i o)])) (kE a.Day a.Lots a.Holds (kF (.cells [.i a.Day,.gslice 6 t.length 4,.nilslice]:: .dead::(kP d.Name d.Yarn d.Dye d.Stock (kP d.Name d.Yarn d.Dye d.Stock (kO t [])))))) (ac (hs (.run [3,5] (yf ZT [40,40] (.gslice 3 j.length 4) (.slice 5 0 1 1 4)) (kE a.Day a.Lots a.Holds (kF (kAe a.Day j (kO j (kP d.Name d.Yarn d.Dye d.Stock (kP d.Name d.Yarn d.Dye d.Stock [])))))) (.gslice 6 t.length 4) (kE a.Day a.Lots a.Holds (kF (kAe a.Day j (.dead::(kP d.Name d.Yarn d.Dye d.Stock (kP d.Name d.Yarn d.Dye d.Stock (kO t []))))))) true) (qaD qbu (E:=qb) rfl (qdS (E:=qb) (ys:=[d]) rfl rfl rfl rfl) (qek (E:=qb) (l:=j) rfl rfl rfl u rfl))) az) ?_
    refine gh fol (kV (kAI a.Lots (a.Lots.length:Int) [(14,.i (w64 (o+1)))])) ?_
    exact⟨M,(ofG 40 (kV (kAI a.Lots (a.Lots.length:Int) [(14,.i (w64 (o+1)))])),(kE a.Day a.Lots a.Holds (kF (kAe a.Day t (kO t []))))),Nat.lt_succ_self _,(Sub.norm [] [some 0,some 1,some 2,some 6] rfl rfl (.kp (.kp (.kp (.keep (.same (qZ qb _)) (.keep (.same nI) (.keep (.same nI) .nil)))))) (.kb rfl (.same sn) (.kb rfl (.same sn) (.kb rfl (.cells (rc (.same nI) (rc (.gslice rfl) (rc (.same (qB.nilslice)) rn)))) (.ks .nil))))),_,_,rfl,g4⟩
   refine Goes.exit ?_
   obtain rfl:=si g4
   exact⟨rfl,_,rfl,(Sub.keep [1,2,3] rfl rfl)⟩
 rintro x s' ⟨rfl,e,rfl,hsub⟩
 refine Goes.sub hsub ?_
 refine sq ?_
 refine sh fol ((2,.ptr 1 0)::(3,.ptr 2 0)::(kAj a.Holds (a.Holds.length:Int) [(28,.i 0)])) ?_
 refine Goes.block ?_
 obtain⟨v,g11,h⟩:=bnd h
 refine Goes.imp (Q:=fun x s'=>(x= .exit 2/\ ∃f,f=v/\Sub s' (ofG 40 (kG []),(kF (kAJ a.Day e f (kO e (kI f []))))))) ?_ ?_
 ·refine Goes.sub (s':=(ofG 40 (kG (kAj a.Holds (a.Holds.length:Int) [(28,.i 0)])),(kF (.cells [.i a.Day,.gslice 2 e.length 4,.gslice 3 ([]:List qd).length 4]::(kO e [.cells (([]:List qd).flatMap qa.c)]))))) (Sub.norm [] [some 1,some 2,some 3,none] rfl rfl (.kp (.kp (.keep (.same (qZ qa _)) (.keep (.same nI) (.keep (.same nI) .nil))))) (.kb rfl (.same sn) (.kb rfl (.cells (rc (.same nI) (rc (.gslice rfl) (rc (.nil) rn)))) (.ks (.fresh .nil))))) ?_
  refine Ud (fun M s=> ∃(k:List qd) (p:Int),s=(ofG 40 (kG (kAj a.Holds (a.Holds.length:Int) [(28,.i p)])),(kF (kAJ a.Day e k (kO e (kI k [])))))/\vC a M k p=some v) ?_ (m:=N) ⟨_,_,rfl,g11⟩
  rintro M s ⟨k,p,rfl,g11⟩
  cases M with
  |zero=>simp only[vC]at g11;cases g11
  |succ M=>
   rw[vC]at g11
   refine sh fol (kG (kAj a.Holds (a.Holds.length:Int) [(28,.i p),(29,.bool (decide (p<(a.Holds.length:Int))))])) ?_
   refine sq ?_
   refine ihD g11 (fun w g11=>?_) (fun w g11=>?_)
   ·refine Goes.skip ?_
    refine sq (Goes.block ?_)
    obtain⟨b,n,g11⟩:=bnd g11
    refine sq (gq fol [0,1] (kG ((7,.ptr 4 0)::(kAj a.Holds (a.Holds.length:Int) [(28,.i p)]))) (kF (kAJ a.Day e k (kO e (kI k (kJ b.Lot b.Order b.Reserved b.Taken []))))) (ac (iv qa5 qa n) (ac (la qhc qa n) az)) ?_)
    obtain⟨g,r,g11⟩:=bnd g11
    refine gq fol [4] (kG (kAj a.Holds (a.Holds.length:Int) [(28,.i p)])) (kF (.cells [.i a.Day,.gslice 2 e.length 4,.gslice 6 g.length 4]::(kO e (.dead::(kJ b.Lot b.Order b.Reserved b.Taken (kJ b.Lot b.Order b.Reserved b.Taken (kI g []))))))) (ac (hs (.run [3,5] (yf ZT [41,41] (.gslice 3 k.length 4) (.slice 5 0 1 1 4)) (kF (kAJ a.Day e k (kO e (kI k (kJ b.Lot b.Order b.Reserved b.Taken (kJ b.Lot b.Order b.Reserved b.Taken [])))))) (.gslice 6 g.length 4) (kF (kAJ a.Day e k (kO e (.dead::(kJ b.Lot b.Order b.Reserved b.Taken (kJ b.Lot b.Order b.Reserved b.Taken (kI g []))))))) true) (qaD qcK (E:=qa) rfl (qdS (E:=qa) (ys:=[b]) rfl rfl rfl rfl) (qek (E:=qa) (l:=k) rfl rfl rfl r rfl))) az) ?_
    refine gh fol (kG (kAj a.Holds (a.Holds.length:Int) [(28,.i (w64 (p+1)))])) ?_
    exact⟨M,(ofG 40 (kG (kAj a.Holds (a.Holds.length:Int) [(28,.i (w64 (p+1)))])),(kF (kAJ a.Day e g (kO e (kI g []))))),Nat.lt_succ_self _,(Sub.norm [] [some 0,some 1,some 2,some 6] rfl rfl (.kp (.kp (.keep (.same (qZ qa _)) (.keep (.same nI) (.keep (.same nI) .nil))))) (.kb rfl (.same sn) (.kb rfl (.cells (rc (.same nI) (rc (.gslice rfl) (rc (.gslice rfl) rn)))) (.ks (.ks .nil))))),_,_,rfl,g11⟩
   refine Goes.exit ?_
   obtain rfl:=si g11
   exact⟨rfl,_,rfl,(Sub.keep [2,3] rfl rfl)⟩
 rintro x s' ⟨rfl,f,rfl,hsub⟩
 refine Goes.sub hsub ?_
 refine sg fol (kT []) (kAJ a.Day e f (kAJ a.Day e f (kO e (kI f [])))) ?_
 refine Goes.ret ?_
 obtain rfl:=si h
 exact(gw2 [.agg [.i a.Day,.gslice 2 e.length 4,.gslice 3 f.length 4]] (FzW.agg (qp.cons (Ub tI) (qp.cons (FzW.fz (Fz.gs (E:=qb) rfl rfl (nl rfl))) (qp.cons (FzW.fz (Fz.gs (E:=qa) rfl rfl (nl rfl))) qp.nil)))))
def zh (c:StateT):Nat->Int->Option (Unit⊕Bool)
 |0,_=>none
 |K+1,a=>
  if a<(c.Lots.length:Int)then
  ((idx c.Lots a).bind fun b=>
  if(b.Name.length:Int)>60 then
  some true
  else
  if(b.Yarn.length:Int)>60 then
  some true
  else
  some (decide ((b.Dye.length:Int)>60)):Option Bool).bind fun d=>
  if d=true then
  some (.inr false)
  else
  zh c K (w64 (a+1))
  else
  some (.inl ())
def zf (c:StateT):Nat->Int->Option (Unit⊕Bool)
 |0,_=>none
 |K+1,a=>
  if a<(c.Holds.length:Int)then
  ((idx c.Holds a).bind fun b=>
  if(b.Lot.length:Int)>60 then
  some true
  else
  some (decide ((b.Order.length:Int)>60)):Option Bool).bind fun d=>
  if d=true then
  some (.inr false)
  else
  zf c K (w64 (a+1))
  else
  some (.inl ())
def yj (N:Nat) (a:StateT) (n:Int):Option Bool:=
 (if(a.Lots.length:Int)>n then
 if(a.Lots.length:Int)<=64 then
 some true
 else
 if(a.Lots.length:Int)>67 then
 some true
 else
 if(a.Holds.length:Int)>n then
 if(a.Holds.length:Int)<=256 then
 some true
 else
 some (decide ((a.Holds.length:Int)>259))
 else
 some (decide ((a.Holds.length:Int)>259))
 else
 if(a.Lots.length:Int)>67 then
 some true
 else
 if(a.Holds.length:Int)>n then
 if(a.Holds.length:Int)<=256 then
 some true
 else
 some (decide ((a.Holds.length:Int)>259))
 else
 some (decide ((a.Holds.length:Int)>259)):Option Bool).bind fun d=>
 if d=true then
 some false
 else
 (zh a N 0).bind (fun
 |(.inl ())=>
 (zf a N 0).bind (fun
 |(.inl ())=>
 some true
 |(.inr b)=>
 some b)
 |(.inr c)=>
 some c)
theorem qaX (N:Nat) (d:StateT) (n:Int) {res:Bool} (h:yj N d n=some res):qf ZT (.fn 21) (kX d.Day d.Lots d.Holds [.i n]) [] (.bool res) []:=by
 unfold yj at h
 refine Uc Tryz.func21 rfl rfl (m:=103) rfl (rs:=[.tmp 4]) rfl (l:=(kS d.Day d.Lots d.Holds [(1,.i n)])) rfl ?_
 refine sg fol ((1,.i n)::(kT [])) (kE d.Day d.Lots d.Holds []) ?_
 refine sq ?_
 refine sq ?_
 obtain⟨P,a,h⟩:=bnd h
 refine Goes.cut (s':=(ofG 103 (kT [(42,.bool P)]),(kE d.Day d.Lots d.Holds []))) ?_ ?_
 ·rcases wyD a with⟨k,a⟩|⟨k,a⟩
  ·rcases wyD a with⟨u,a⟩|⟨u,a⟩
   ·obtain rfl:=si a
    exact tr fol [5,11] (kT kAt) (ac (gw k) (ac (gw u) az))
   rcases wyD a with⟨v,a⟩|⟨v,a⟩
   ·obtain rfl:=si a
    exact tr fol [5,11,17] (kT kAt) (ac (gw k) (ac (gw u) (ac (gw v) az)))
   rcases wyD a with⟨A,a⟩|⟨A,a⟩
   ·rcases wyD a with⟨C,a⟩|⟨C,a⟩
    ·obtain rfl:=si a
     exact tr fol [5,11,17,23,30] (kT kAt) (ac (gw k) (ac (gw u) (ac (gw v) (ac (gw A) (ac (gw C) az)))))
    obtain rfl:=si a
    exact tr fol [5,11,17,23,30] (kT [(42,.bool (decide ((d.Holds.length:Int)>259)))]) (ac (gw k) (ac (gw u) (ac (gw v) (ac (gw A) (ac (gw C) az)))))
   obtain rfl:=si a
   exact tr fol [5,11,17,23] (kT [(42,.bool (decide ((d.Holds.length:Int)>259)))]) (ac (gw k) (ac (gw u) (ac (gw v) (ac (gw A) az))))
  rcases wyD a with⟨w,a⟩|⟨w,a⟩
  ·obtain rfl:=si a
   exact tr fol [5,17] (kT kAt) (ac (gw k) (ac (gw w) az))
  rcases wyD a with⟨B,a⟩|⟨B,a⟩
  ·rcases wyD a with⟨D,a⟩|⟨D,a⟩
   ·obtain rfl:=si a
    exact tr fol [5,17,23,30] (kT kAt) (ac (gw k) (ac (gw w) (ac (gw B) (ac (gw D) az))))
   obtain rfl:=si a
   exact tr fol [5,17,23,30] (kT [(42,.bool (decide ((d.Holds.length:Int)>259)))]) (ac (gw k) (ac (gw w) (ac (gw B) (ac (gw D) az))))
  obtain rfl:=si a
  exact tr fol [5,17,23] (kT [(42,.bool (decide ((d.Holds.length:Int)>259)))]) (ac (gw k) (ac (gw w) (ac (gw B) az)))
 refine ihB h (fun E h=>?_) (fun E h=>?_)
 ·refine sh fol kAY ?_
  refine Goes.ret ?_
  obtain rfl:=si h
  exact(gw2 [.bool false] (Ub tB))
 refine Goes.skip ?_
 refine sq ?_
 refine sh fol (kT [(5,.i 0)]) ?_
 refine Goes.block ?_
 obtain⟨p,g13,h⟩:=bnd h
 refine Goes.imp (Q:=fun x s'=>(x= .exit 0/\(.inl ())=p/\Sub s' (ofG 103 (kT []),(kE d.Day d.Lots d.Holds [])))\/(x= .ret/\ ∃y,(.inr y)=p/\qP ZT [.tmp 4] (.bool y) .ret s')) ?_ ?_
 ·refine Ud (fun M s=> ∃(g:Int),s=(ofG 103 (kT (kAd g)),(kE d.Day d.Lots d.Holds []))/\zh d M g=some p) ?_ (m:=N) ⟨_,rfl,g13⟩
  rintro M s ⟨g,rfl,g13⟩
  cases M with
  |zero=>simp only[zh]at g13;cases g13
  |succ M=>
   rw[zh]at g13
   refine sq ?_
   refine sh fol (kT [(5,.i g),(47,.bool (decide (g<(d.Lots.length:Int))))]) ?_
   refine ihD g13 (fun F g13=>?_) (fun F g13=>?_)
   ·refine Goes.skip ?_
    refine sq (Goes.block ?_)
    refine sq ?_
    obtain⟨G,c,g13⟩:=bnd g13
    refine Goes.cut (s':=(ofG 103 (kT [(5,.i g),(77,.bool G)]),(kE d.Day d.Lots d.Holds []))) ?_ ?_
    ·obtain⟨H,b,c⟩:=bnd c
     rcases wyD c with⟨o,c⟩|⟨o,c⟩
     ·obtain rfl:=si c
      exact tr fol [3,5,8] (kT [(5,.i g),(77,.bool true)]) (ac (iv qbu qb b) (ac (lv 0 ce9 qb b rfl) (ac (gw o) az)))
     rcases wyD c with⟨q,c⟩|⟨q,c⟩
     ·obtain rfl:=si c
      exact tr fol [3,5,8,12,14,18] (kT [(5,.i g),(77,.bool true)]) (ac (iv qbu qb b) (ac (lv 0 ce9 qb b rfl) (ac (gw o) (ac (iv qbu qb b) (ac (lv 1 ce9 qb b rfl) (ac (gw q) az))))))
     obtain rfl:=si c
     exact tr fol [3,5,8,12,14,18,22,24] (kT [(5,.i g),(77,.bool (decide ((H.Dye.length:Int)>60)))]) (ac (iv qbu qb b) (ac (lv 0 ce9 qb b rfl) (ac (gw o) (ac (iv qbu qb b) (ac (lv 1 ce9 qb b rfl) (ac (gw q) (ac (iv qbu qb b) (ac (lv 2 ce9 qb b rfl) az))))))))
    refine ihB g13 (fun I g13=>?_) (fun I g13=>?_)
    ·refine sh fol kAY ?_
     refine Goes.ret ?_
     obtain rfl:=si g13
     exact Or.inr (⟨rfl,_,rfl,(gw2 [.bool false] (Ub tB))⟩)
    refine Goes.skip ?_
    refine gh fol (kT (kAd (w64 (g+1)))) ?_
    exact⟨M,(ofG 103 (kT (kAd (w64 (g+1)))),(kE d.Day d.Lots d.Holds [])),Nat.lt_succ_self _,(Sub.refl _),_,rfl,g13⟩
   refine Goes.exit ?_
   obtain rfl:=si g13
   exact Or.inl (⟨rfl,rfl,(Sub.keep [2] rfl rfl)⟩)
 rintro x s' (⟨rfl,rfl,hsub⟩|⟨rfl,T,rfl,hret⟩)
 ·try dsimp only at h
  refine Goes.sub hsub ?_
  refine sq ?_
  refine sh fol (kT [(6,.i 0)]) ?_
  refine Goes.block ?_
  obtain⟨r,g23,h⟩:=bnd h
  refine Goes.imp (Q:=fun x s'=>(x= .exit 2/\(.inl ())=r/\Sub s' (ofG 103 [],[]))\/(x= .ret/\ ∃z,(.inr z)=r/\qP ZT [.tmp 4] (.bool z) .ret s')) ?_ ?_
  ·refine Ud (fun M s=> ∃(j:Int),s=(ofG 103 (kT [(6,.i j)]),(kE d.Day d.Lots d.Holds []))/\zf d M j=some r) ?_ (m:=N) ⟨_,rfl,g23⟩
   rintro M s ⟨j,rfl,g23⟩
   cases M with
   |zero=>simp only[zf]at g23;cases g23
   |succ M=>
    rw[zf]at g23
    refine sq ?_
    refine sh fol (kT [(6,.i j),(82,.bool (decide (j<(d.Holds.length:Int))))]) ?_
    refine ihD g23 (fun J g23=>?_) (fun J g23=>?_)
    ·refine Goes.skip ?_
     refine sq (Goes.block ?_)
     refine sq ?_
     obtain⟨K,e,g23⟩:=bnd g23
     refine Goes.cut (s':=(ofG 103 (kT ((6,.i j)::(kAx K))),(kE d.Day d.Lots d.Holds []))) ?_ ?_
     ·obtain⟨L,f,e⟩:=bnd e
      rcases wyD e with⟨t,e⟩|⟨t,e⟩
      ·obtain rfl:=si e
       exact tr fol [3,5,8] (kT ((6,.i j)::kAl)) (ac (iv qcK qa f) (ac (lv 0 ce9 qa f rfl) (ac (gw t) az)))
      obtain rfl:=si e
      exact tr fol [3,5,8,12,14] (kT ((6,.i j)::(kAx (decide ((L.Order.length:Int)>60))))) (ac (iv qcK qa f) (ac (lv 0 ce9 qa f rfl) (ac (gw t) (ac (iv qcK qa f) (ac (lv 1 ce9 qa f rfl) az)))))
     refine ihB g23 (fun O g23=>?_) (fun O g23=>?_)
     ·refine sh fol kAY ?_
      refine Goes.ret ?_
      obtain rfl:=si g23
      exact Or.inr (⟨rfl,_,rfl,(gw2 [.bool false] (Ub tB))⟩)
     refine Goes.skip ?_
     refine gh fol (kT [(6,.i (w64 (j+1)))]) ?_
     exact⟨M,(ofG 103 (kT [(6,.i (w64 (j+1)))]),(kE d.Day d.Lots d.Holds [])),Nat.lt_succ_self _,(Sub.refl _),_,rfl,g23⟩
    refine Goes.exit ?_
    obtain rfl:=si g23
    exact Or.inl (⟨rfl,rfl,(Sub.norm [] [] rfl rfl .nil .nil)⟩)
  rintro x s' (⟨rfl,rfl,hsub⟩|⟨rfl,U,rfl,hret⟩)
  ·try dsimp only at h
   refine Goes.sub hsub ?_
   refine sh fol kAm ?_
   refine Goes.ret ?_
   obtain rfl:=si h
   exact(gw2 [.bool true] (Ub tB))
  try dsimp only at h
  obtain rfl:=si h
  exact hret
 try dsimp only at h
 obtain rfl:=si h
 exact hret
def yl (e:qh):Option Bool:=
 (if(e.Kind.length:Int)<=60 then
 if(e.Lot.length:Int)<=60 then
 if(e.Yarn.length:Int)<=60 then
 if(e.Dye.length:Int)<=60 then
 some (decide ((e.Order.length:Int)<=60))
 else
 some false
 else
 some false
 else
 some false
 else
 some false:Option Bool).bind fun a=>
 some a
theorem qdG (e:qh) {res:Bool} (h:yl e=some res):qf ZT (.fn 22) [.agg (kA e.Kind e.Day e.Lot e.Amount e.Yarn e.Dye e.Order)] [] (.bool res) []:=by
 unfold yl at h
 refine Uc Tryz.func22 rfl rfl (m:=31) rfl (rs:=[.tmp 2]) rfl (l:=[(0,.agg [.str e.Kind,.i e.Day,.str e.Lot,.i e.Amount,.str e.Yarn,.str e.Dye,.str e.Order])]) rfl ?_
 refine sg fol (kV []) (kM e.Kind e.Day e.Lot e.Amount e.Yarn e.Dye e.Order []) ?_
 refine sq ?_
 obtain⟨g,a,h⟩:=bnd h
 refine Goes.cut (s':=(ofG 31 (kAV g),(kM e.Kind e.Day e.Lot e.Amount e.Yarn e.Dye e.Order []))) ?_ ?_
 ·rcases wyD a with⟨b,a⟩|⟨b,a⟩
  ·rcases wyD a with⟨c,a⟩|⟨c,a⟩
   ·rcases wyD a with⟨d,a⟩|⟨d,a⟩
    ·rcases wyD a with⟨f,a⟩|⟨f,a⟩
     ·obtain rfl:=si a
      exact tr fol [4,10,16,22] (kAV (decide ((e.Order.length:Int)<=60))) (ac (gw b) (ac (gw c) (ac (gw d) (ac (gw f) az))))
     obtain rfl:=si a
     exact tr fol [4,10,16,22] kAc (ac (gw b) (ac (gw c) (ac (gw d) (ac (gw f) az))))
    obtain rfl:=si a
    exact tr fol [4,10,16] kAc (ac (gw b) (ac (gw c) (ac (gw d) az)))
   obtain rfl:=si a
   exact tr fol [4,10] kAc (ac (gw b) (ac (gw c) az))
  obtain rfl:=si a
  exact tr fol [4] kAc (ac (gw b) az)
 refine Goes.ret ?_
 obtain rfl:=si h
 exact(gw2 [.bool g] (Ub tB))
def vZ (l:List Int):Nat->Int->Option (Unit⊕Int)
 |0,_=>none
 |K+1,a=>
  if a<(l.length:Int)then
  (idx l a).bind fun b=>
  if(!decide (b=0))=true then
  some (.inr b)
  else
  vZ l K (w64 (a+1))
  else
  some (.inl ())
def zF (N:Nat) (l:List Int):Option Int:=
 (vZ l N 0).bind (fun
 |(.inl ())=>
 some 0
 |(.inr a)=>
 some a)
theorem zQ (N:Nat) (l:List Int) {res:Int} (h:zF N l=some res):qf ZT (.fn 50) [vl encI l] [] (.i res) []:=by
 unfold zF at h
 refine Uc Tryz.func50 rfl rfl (m:=15) rfl (rs:=[.tmp 2]) rfl (l:=[(0,vl encI l)]) rfl ?_
 refine sh fol [(0,vl encI l)] ?_
 refine sq ?_
 refine sh fol [(5,vl encI l),(6,.i (l.length:Int)),(7,.i 0)] ?_
 refine Goes.block ?_
 obtain⟨d,g2,h⟩:=bnd h
 refine Goes.imp (Q:=fun x s'=>(x= .exit 0/\(.inl ())=d/\Sub s' (ofG 15 [],[]))\/(x= .ret/\ ∃e,(.inr e)=d/\qP ZT [.tmp 2] (.i e) .ret s')) ?_ ?_
 ·refine Ud (fun M s=> ∃(a:Int),s=(ofG 15 (kAP l (l.length:Int) a []),[])/\vZ l M a=some d) ?_ (m:=N) ⟨_,rfl,g2⟩
  rintro M s ⟨a,rfl,g2⟩
  cases M with
  |zero=>simp only[vZ]at g2;cases g2
  |succ M=>
   rw[vZ]at g2
   refine sh fol (kAP l (l.length:Int) a [(8,.bool (decide (a<(l.length:Int))))]) ?_
   refine sq ?_
   refine ihD g2 (fun f g2=>?_) (fun f g2=>?_)
   ·refine Goes.skip ?_
    refine sq (Goes.block ?_)
    obtain⟨c,b,g2⟩:=bnd g2
    refine sq (gr fol [0,1] ((4,.i c)::(kAP l (l.length:Int) a [])) (ac (iv sl179 encI b) (ac (lv 0 ce32 encI b rfl) az)) ?_)
    refine sh fol ((4,.i c)::(kAP l (l.length:Int) a [(12,.bool (!decide (c=0)))])) ?_
    refine ihB g2 (fun g g2=>?_) (fun g g2=>?_)
    ·refine sh fol (kAu c) ?_
     refine Goes.ret ?_
     obtain rfl:=si g2
     exact Or.inr (⟨rfl,_,rfl,(gw2 [.i c] (Ub tI))⟩)
    refine Goes.skip ?_
    refine gh fol (kAP l (l.length:Int) (w64 (a+1)) []) ?_
    exact⟨M,(ofG 15 (kAP l (l.length:Int) (w64 (a+1)) []),[]),Nat.lt_succ_self _,(Sub.refl _),_,rfl,g2⟩
   refine Goes.exit ?_
   obtain rfl:=si g2
   exact Or.inl (⟨rfl,rfl,(Sub.keep [] rfl rfl)⟩)
 rintro x s' (⟨rfl,rfl,hsub⟩|⟨rfl,j,rfl,hret⟩)
 ·try dsimp only at h
  refine Goes.sub hsub ?_
  refine sh fol [(2,.i 0)] ?_
  refine Goes.ret ?_
  obtain rfl:=si h
  exact(gw2 [.i 0] (Ub tI))
 try dsimp only at h
 obtain rfl:=si h
 exact hret
def zw (holds:Bool) (e:Int):Option Int:=
 if holds=true then
 some e
 else
 some 0
theorem qM (holds:Bool) (e:Int) {res:Int} (h:zw holds e=some res):qf ZT (.fn 58) [.bool holds,.i e] [] (.i res) []:=by
 unfold zw at h
 refine Uc Tryz.func58 rfl rfl (m:=7) rfl (rs:=[.tmp 4]) rfl (l:=[(0,.bool holds),(1,.i e)]) rfl ?_
 refine sh fol [(0,.bool holds),(1,.i e)] ?_
 refine sq ?_
 refine sh fol [(1,.i e),(5,.bool holds)] ?_
 refine ihB h (fun a h=>?_) (fun a h=>?_)
 ·refine sh fol (kAs e) ?_
  refine Goes.ret ?_
  obtain rfl:=si h
  exact(gw2 [.i e] (Ub tI))
 refine Goes.skip ?_
 refine sh fol [(4,.i 0)] ?_
 refine Goes.ret ?_
 obtain rfl:=si h
 exact(gw2 [.i 0] (Ub tI))
def j5 (n:Int) (least:Int) (most:Int):Option Int:=
 (if n<least then
 (zw true 3).bind fun a=>
 some a
 else
 (zw (decide (n>most)) 3).bind fun b=>
 some b:Option Int).bind fun c=>
 some c
theorem jF (n:Int) (least:Int) (most:Int) {res:Int} (h:j5 n least most=some res):qf ZT (.fn 51) [.i n,.i least,.i most] [] (.i res) []:=by
 unfold j5 at h
 refine Uc Tryz.func51 rfl rfl (m:=16) rfl (rs:=[.tmp 6]) rfl (l:=((0,.i n)::(1,.i least)::(kAu most))) rfl ?_
 refine sh fol ((0,.i n)::(1,.i least)::(kAu most)) ?_
 refine sq ?_
 obtain⟨e,a,h⟩:=bnd h
 refine Goes.cut (s':=(ofG 16 [(6,.i e)],[])) ?_ ?_
 ·rcases wyD a with⟨d,a⟩|⟨d,a⟩
  ·obtain⟨f,b,a⟩:=bnd a
   obtain rfl:=si a
   exact tr fol [3,8] [(6,.i f)] (ac (gw d) (ac (cv (qM true 3 b)) az))
  obtain⟨g,c,a⟩:=bnd a
  obtain rfl:=si a
  exact tr fol [3,8] [(6,.i g)] (ac (gw d) (ac (cv (qM (decide (n>most)) 3 c)) az))
 refine Goes.ret ?_
 obtain rfl:=si h
 exact(gw2 [.i e] (Ub tI))
def vN (c:Int):Option Bool:=
 (if c>=97 then
 if c<=122 then
 some true
 else
 if c>=65 then
 some (decide (c<=90))
 else
 some false
 else
 if c>=65 then
 some (decide (c<=90))
 else
 some false:Option Bool).bind fun a=>
 some a
theorem vF (c:Int) {res:Bool} (h:vN c=some res):qf ZT (.fn 183) [.int .i32 c] [] (.bool res) []:=by
 unfold vN at h
 refine Uc Tryz.func183 rfl rfl (m:=17) rfl (rs:=[.tmp 2]) rfl (l:=[(0,.int .i32 c)]) rfl ?_
 refine sh fol [(0,.int .i32 c)] ?_
 refine sq ?_
 obtain⟨g,a,h⟩:=bnd h
 refine Goes.cut (s':=(ofG 17 (kAV g),[])) ?_ ?_
 ·rcases wyD a with⟨b,a⟩|⟨b,a⟩
  ·rcases wyD a with⟨d,a⟩|⟨d,a⟩
   ·obtain rfl:=si a
    exact tr fol [2,6] [(2,.bool true)] (ac (gw b) (ac (gw d) az))
   rcases wyD a with⟨e,a⟩|⟨e,a⟩
   ·obtain rfl:=si a
    exact tr fol [2,6,9] (kAV (decide (c<=90))) (ac (gw b) (ac (gw d) (ac (gw e) az)))
   obtain rfl:=si a
   exact tr fol [2,6,9] kAc (ac (gw b) (ac (gw d) (ac (gw e) az)))
  rcases wyD a with⟨f,a⟩|⟨f,a⟩
  ·obtain rfl:=si a
   exact tr fol [2,9] (kAV (decide (c<=90))) (ac (gw b) (ac (gw f) az))
  obtain rfl:=si a
  exact tr fol [2,9] kAc (ac (gw b) (ac (gw f) az))
 refine Goes.ret ?_
 obtain rfl:=si h
 exact(gw2 [.bool g] (Ub tB))
def jh (b:Str):Nat->Nat->Option (Unit⊕Bool)
 |0,_=>none
 |K+1,a=>
  if a<b.length then
  ((vN (vL b a)).bind fun d=>
  if(!d)=true then
  if(a:Int)=0 then
  some true
  else
  if(!decide ((vL b a)=95))=true then
  if(vL b a)<48 then
  some true
  else
  some (decide ((vL b a)>57))
  else
  some false
  else
  some false:Option Bool).bind fun c=>
  if c=true then
  some (.inr false)
  else
  jh b K (a+runeLen b a)
  else
  some (.inl ())
def yT (N:Nat) (a:Str):Option Bool:=
 (jh a N 0).bind (fun
 |(.inl ())=>
 (if(!(a==[]))=true then
 some (decide ((a.length:Int)<=24))
 else
 some false:Option Bool).bind fun b=>
 some b
 |(.inr c)=>
 some c)
theorem qb9 (N:Nat) (d:Str) {res:Bool} (h:yT N d=some res):qf ZT (.fn 130) [.str d] [] (.bool res) []:=by
 unfold yT at h
 refine Uc Tryz.func130 rfl rfl (m:=37) rfl (rs:=[.tmp 2]) rfl (l:=[(0,.str d)]) rfl ?_
 refine sh fol [(0,.str d)] ?_
 refine sq ?_
 refine sg fol (kAZ d []) [.iter d 0] ?_
 refine Goes.block ?_
 obtain⟨r,g2,h⟩:=bnd h
 refine Goes.imp (Q:=fun x s'=>(x= .exit 0/\(.inl ())=r/\Sub s' (ofG 37 [(0,.str d)],[]))\/(x= .ret/\ ∃w,(.inr w)=r/\qP ZT [.tmp 2] (.bool w) .ret s')) ?_ ?_
 ·refine Goes.sub (s':=(ofG 37 (kAZ d []),[.iter d 0])) (Sub.keep [0,6] rfl rfl) ?_
  refine Ud (fun M s=> ∃(e:Nat),s=(ofG 37 (kAZ d []),[.iter d e])/\jh d M e=some r) ?_ (m:=N) ⟨_,rfl,g2⟩
  rintro M s ⟨e,rfl,g2⟩
  cases M with
  |zero=>simp only[jh]at g2;cases g2
  |succ M=>
   rw[jh]at g2
   refine sq ?_
   rcases Classical.em (e<d.length)with n|n
   ·rw[if_pos n]at g2
    refine gq fol [0] (kAZ d [(7,.tuple [.bool true,.i (e:Int),.int .i32 (vL d e)]),(8,.bool true)]) [.iter d (e+runeLen d e)] (ac (hs (.run [0] (qeo (.ptr 0 0) true) [.iter d e] (.tuple [.bool true,.i (e:Int),.int .i32 (vL d e)]) [.iter d (e+runeLen d e)] true) (qjO rfl n rfl)) az) ?_
    refine sq ?_
    refine Goes.ifB (b:=true) (by kernel_rfl) (fun _=>?_) (fun c=>(by cases c))
    refine Goes.skip ?_
    refine Goes.block ?_
    refine sh fol (kAb d (e:Int) [(4,.int .i32 (vL d e)),(6,.ptr 0 0)]) ?_
    refine sq ?_
    obtain⟨t,a,g2⟩:=bnd g2
    refine Goes.cut (s':=(ofG 37 (kAZ d [(29,.bool t)]),[.iter d (e+runeLen d e)])) ?_ ?_
    ·obtain⟨z,g,a⟩:=bnd a
     rcases wyB a with⟨k,a⟩|⟨k,a⟩
     ·rcases wyD a with⟨o,a⟩|⟨o,a⟩
      ·obtain rfl:=si a
       exact tr fol [1,3,6] (kAZ d [(29,.bool true)]) (ac (cv (vF (vL d e) g)) (ac (gw k) (ac (gw o) az)))
      rcases wyB a with⟨q,a⟩|⟨q,a⟩
      ·rcases wyD a with⟨u,a⟩|⟨u,a⟩
       ·obtain rfl:=si a
        exact tr fol [1,3,6,9,12] (kAZ d [(29,.bool true)]) (ac (cv (vF (vL d e) g)) (ac (gw k) (ac (gw o) (ac (gw q) (ac (gw u) az)))))
       obtain rfl:=si a
       exact tr fol [1,3,6,9,12] (kAZ d [(29,.bool (decide ((vL d e)>57)))]) (ac (cv (vF (vL d e) g)) (ac (gw k) (ac (gw o) (ac (gw q) (ac (gw u) az)))))
      obtain rfl:=si a
      exact tr fol [1,3,6,9] (kAZ d [(29,.bool false)]) (ac (cv (vF (vL d e) g)) (ac (gw k) (ac (gw o) (ac (gw q) az))))
     obtain rfl:=si a
     exact tr fol [1,3] (kAZ d [(29,.bool false)]) (ac (cv (vF (vL d e) g)) (ac (gw k) az))
    refine ihB g2 (fun v g2=>?_) (fun v g2=>?_)
    ·refine sh fol kAc ?_
     refine Goes.ret ?_
     obtain rfl:=si g2
     exact Or.inr (⟨rfl,_,rfl,(gw2 [.bool false] (Ub tB))⟩)
    refine Goes.skip ?_
    exact⟨M,(ofG 37 (kAZ d []),[.iter d (e+runeLen d e)]),Nat.lt_succ_self _,(Sub.keep [0,6] rfl rfl),_,rfl,g2⟩
   rw[if_neg n]at g2
   refine gr fol [0] (kAZ d [(7,.tuple [.bool false]),(8,.bool false)]) (ac (hs (.run [0] (qeo (.ptr 0 0) true) [.iter d e] (.tuple [.bool false]) [.iter d e] false) (qjW rfl n)) az) ?_
   refine sq ?_
   refine Goes.ifB (b:=false) (by kernel_rfl) (fun c=>(by cases c)) (fun _=>?_)
   refine Goes.exit ?_
   obtain rfl:=si g2
   exact Or.inl (⟨rfl,rfl,(Sub.norm [] [] rfl rfl (.keep (.same nS) .nil) .nil)⟩)
 rintro x s' (⟨rfl,rfl,hsub⟩|⟨rfl,y,rfl,hret⟩)
 ·try dsimp only at h
  refine Goes.sub hsub ?_
  refine sq ?_
  obtain⟨p,f,h⟩:=bnd h
  refine Goes.cut (s':=(ofG 37 (kAV p),[])) ?_ ?_
  ·rcases wyB f with⟨j,f⟩|⟨j,f⟩
   ·obtain rfl:=si f
    exact tr fol [2] (kAV (decide ((d.length:Int)<=24))) (ac (gw j) az)
   obtain rfl:=si f
   exact tr fol [2] kAc (ac (gw j) az)
  refine Goes.ret ?_
  obtain rfl:=si h
  exact(gw2 [.bool p] (Ub tB))
 try dsimp only at h
 obtain rfl:=si h
 exact hret
def vU (N:Nat) (a:Str):Option Int:=
 (yT N a).bind fun b=>
 (zw (!b) 8).bind fun c=>
 some c
theorem ve (N:Nat) (a:Str) {res:Int} (h:vU N a=some res):qf ZT (.fn 75) [.str a] [] (.i res) []:=by
 unfold vU at h
 refine Uc Tryz.func75 rfl rfl (m:=7) rfl (rs:=[.tmp 2]) rfl (l:=[(0,.str a)]) rfl ?_
 refine sh fol [(0,.str a)] ?_
 obtain⟨e,b,h⟩:=bnd h
 obtain⟨d,c,h⟩:=bnd h
 refine sq (gr fol [1,3] (kAu d) (ac (cv (qb9 N a b)) (ac (cv (qM (!e) 8 c)) az)) ?_)
 refine Goes.ret ?_
 obtain rfl:=si h
 exact(gw2 [.i d] (Ub tI))
def yP (N:Nat) (a:Str):Option Int:=
 (if(!(a==[]))=true then
 (yT N a).bind fun b=>
 (zw (!b) 8).bind fun c=>
 some c
 else
 (zw false 8).bind fun d=>
 some d:Option Int).bind fun e=>
 some e
theorem qb4 (N:Nat) (b:Str) {res:Int} (h:yP N b=some res):qf ZT (.fn 79) [.str b] [] (.i res) []:=by
 unfold yP at h
 refine Uc Tryz.func79 rfl rfl (m:=11) rfl (rs:=[.tmp 2]) rfl (l:=[(0,.str b)]) rfl ?_
 refine sh fol [(0,.str b)] ?_
 refine sq ?_
 obtain⟨g,a,h⟩:=bnd h
 refine Goes.cut (s':=(ofG 11 (kAu g),[])) ?_ ?_
 ·rcases wyB a with⟨f,a⟩|⟨f,a⟩
  ·obtain⟨j,c,a⟩:=bnd a
   obtain⟨k,d,a⟩:=bnd a
   obtain rfl:=si a
   exact tr fol [2,4,7] (kAu k) (ac (gw f) (ac (cv (qb9 N b c)) (ac (cv (qM (!j) 8 d)) az)))
  obtain⟨n,e,a⟩:=bnd a
  obtain rfl:=si a
  exact tr fol [2,7] (kAu n) (ac (gw f) (ac (cv (qM false 8 e)) az))
 refine Goes.ret ?_
 obtain rfl:=si h
 exact(gw2 [.i g] (Ub tI))
def xC (N:Nat) (l:qj) (before:List qj):Option Int:=
 (if(before.length:Int)>0 then
 (idx before (w64 ((before.length:Int)-1))).bind fun b=>
 some (ltL l.Name b.Name||l.Name==b.Name)
 else
 some false:Option Bool).bind fun c=>
 (vU N l.Name).bind fun d=>
 (vU N l.Yarn).bind fun e=>
 (yP N l.Dye).bind fun f=>
 (zw c 11).bind fun g=>
 (j5 l.Stock 0 999999999).bind fun h=>
 (zF N ([d,e,f,g,h]:List Int)).bind fun a=>
 some a
theorem qeI (N:Nat) (l:qj) (before:List qj) {res:Int} (h:xC N l before=some res):qf ZT (.fn 69) (kAn l.Name l.Yarn l.Dye l.Stock [vl qb before]) [] (.i res) []:=by
 unfold xC at h
 refine Uc Tryz.func69 rfl rfl (m:=37) rfl (rs:=[.tmp 4]) rfl (l:=[(0,.agg [.str l.Name,.str l.Yarn,.str l.Dye,.i l.Stock]),(1,vl qb before)]) rfl ?_
 refine sg fol ((1,vl qb before)::(kT [])) (kP l.Name l.Yarn l.Dye l.Stock []) ?_
 refine sq ?_
 obtain⟨t,a,h⟩:=bnd h
 refine Goes.cut (s':=(ofG 37 (kT [(5,.bool t)]),(kP l.Name l.Yarn l.Dye l.Stock []))) ?_ ?_
 ·rcases wyD a with⟨s,a⟩|⟨s,a⟩
  ·obtain⟨u,b,a⟩:=bnd a
   obtain rfl:=si a
   exact tr fol [3,10,12] (kT [(5,.bool (ltL l.Name u.Name||l.Name==u.Name))]) (ac (gw s) (ac (iv qgg qb b) (ac (lv 0 ce9 qb b rfl) az)))
  obtain rfl:=si a
  exact tr fol [3] (kT [(5,.bool false)]) (ac (gw s) az)
 obtain⟨n,e,h⟩:=bnd h
 obtain⟨o,f,h⟩:=bnd h
 obtain⟨p,g,h⟩:=bnd h
 obtain⟨q,j,h⟩:=bnd h
 obtain⟨r,k,h⟩:=bnd h
 obtain⟨c,d,h⟩:=bnd h
 refine sq (gq fol [2,5,8,10,13,15] (kAs c) (kP l.Name l.Yarn l.Dye l.Stock [.cells [.i n,.i o,.i p,.i q,.i r]]) (ac (cv (ve N l.Name e)) (ac (cv (ve N l.Yarn f)) (ac (cv (qb4 N l.Dye g)) (ac (cv (qM t 11 j)) (ac (cv (jF l.Stock 0 999999999 k)) (ac (hs (.call 50 [.slice 1 0 5 5 1] (kP l.Name l.Yarn l.Dye l.Stock [.cells [.i n,.i o,.i p,.i q,.i r]]) [1] [vl encI ([n,o,p,q,r]:List Int)] (.i c)) (jl (FzL.cons (Fz.lit rfl rfl (Ue (AllST.cons tI (AllST.cons tI (AllST.cons tI (AllST.cons tI (AllST.cons tI AllST.nil))))))) FzL.nil) (zQ N ([n,o,p,q,r]:List Int) d) tI rfl)) az)))))) ?_)
 refine Goes.ret ?_
 obtain rfl:=si h
 exact(gw2 [.i c] (Ub tI))
def vX (vals:List Int):Nat->Int->Option (Unit⊕Int)
 |0,_=>none
 |K+1,a=>
  if a<(vals.length:Int)then
  (idx vals a).bind fun b=>
  if(!decide (b=0))=true then
  some (.inr b)
  else
  vX vals K (w64 (a+1))
  else
  some (.inl ())
def qbj (N:Nat) (vals:List Int):Option Int:=
 (vX vals N 0).bind (fun
 |(.inl ())=>
 some 0
 |(.inr a)=>
 some a)
theorem qgf (N:Nat) (vals:List Int) {res:Int} (h:qbj N vals=some res):qf ZT (.fn 83) [vl encI vals] [] (.i res) []:=by
 unfold qbj at h
 refine Uc Tryz.func83 rfl rfl (m:=18) rfl (rs:=[.tmp 2]) rfl (l:=[(0,vl encI vals)]) rfl ?_
 refine sh fol [(0,vl encI vals)] ?_
 refine sh fol [(0,vl encI vals),(3,.i 0)] ?_
 refine sq ?_
 refine sh fol [(3,.i 0),(6,vl encI vals),(7,.i (vals.length:Int)),(8,.i 0)] ?_
 refine Goes.block ?_
 obtain⟨d,g2,h⟩:=bnd h
 refine Goes.imp (Q:=fun x s'=>(x= .exit 0/\(.inl ())=d/\Sub s' (ofG 18 [(3,.i 0)],[]))\/(x= .ret/\ ∃e,(.inr e)=d/\qP ZT [.tmp 2] (.i e) .ret s')) ?_ ?_
 ·refine Ud (fun M s=> ∃(a:Int),s=(ofG 18 ((3,.i 0)::(6,vl encI vals)::(kAM (vals.length:Int) a [])),[])/\vX vals M a=some d) ?_ (m:=N) ⟨_,rfl,g2⟩
  rintro M s ⟨a,rfl,g2⟩
  cases M with
  |zero=>simp only[vX]at g2;cases g2
  |succ M=>
   rw[vX]at g2
   refine sh fol ((3,.i 0)::(6,vl encI vals)::(kAM (vals.length:Int) a [(9,.bool (decide (a<(vals.length:Int))))])) ?_
   refine sq ?_
   refine ihD g2 (fun f g2=>?_) (fun f g2=>?_)
   ·refine Goes.skip ?_
    refine sq (Goes.block ?_)
    obtain⟨c,b,g2⟩:=bnd g2
    refine sq (gr fol [0,1] ((3,.i 0)::(5,.i c)::(6,vl encI vals)::(kAM (vals.length:Int) a [])) (ac (iv sl79 encI b) (ac (lv 0 ce3 encI b rfl) az)) ?_)
    refine sh fol ((3,.i 0)::(5,.i c)::(6,vl encI vals)::(kAM (vals.length:Int) a [(14,.bool (!decide (c=0)))])) ?_
    refine ihB g2 (fun g g2=>?_) (fun g g2=>?_)
    ·refine sh fol (kAu c) ?_
     refine Goes.ret ?_
     obtain rfl:=si g2
     exact Or.inr (⟨rfl,_,rfl,(gw2 [.i c] (Ub tI))⟩)
    refine Goes.skip ?_
    refine gh fol ((3,.i 0)::(6,vl encI vals)::(kAM (vals.length:Int) (w64 (a+1)) [])) ?_
    exact⟨M,(ofG 18 ((3,.i 0)::(6,vl encI vals)::(kAM (vals.length:Int) (w64 (a+1)) [])),[]),Nat.lt_succ_self _,(Sub.refl _),_,rfl,g2⟩
   refine Goes.exit ?_
   obtain rfl:=si g2
   exact Or.inl (⟨rfl,rfl,(Sub.keep [3] rfl rfl)⟩)
 rintro x s' (⟨rfl,rfl,hsub⟩|⟨rfl,j,rfl,hret⟩)
 ·try dsimp only at h
  refine Goes.sub hsub ?_
  refine sh fol [(2,.i 0)] ?_
  refine Goes.ret ?_
  obtain rfl:=si h
  exact(gw2 [.i 0] (Ub tI))
 try dsimp only at h
 obtain rfl:=si h
 exact hret
def jQ (N:Nat) (a:qd) (o:qd):Option Int:=
 (qiC a.Lot o.Lot).bind fun b=>
 (qiC a.Order o.Order).bind fun c=>
 (qbj N ([b,c]:List Int)).bind fun d=>
 some d
theorem qdc (N:Nat) (a:qd) (o:qd) {res:Int} (h:jQ N a o=some res):qf ZT (.fn 74) (kAG a.Lot a.Order a.Reserved a.Taken (kAG o.Lot o.Order o.Reserved o.Taken [])) [] (.i res) []:=by
 unfold jQ at h
 refine Uc Tryz.func74 rfl rfl (m:=17) rfl (rs:=[.tmp 4]) rfl (l:=(kAy a.Lot a.Order a.Reserved a.Taken [(1,.agg [.str o.Lot,.str o.Order,.i o.Reserved,.i o.Taken])])) rfl ?_
 refine sg fol (kG []) (kJ a.Lot a.Order a.Reserved a.Taken (kJ o.Lot o.Order o.Reserved o.Taken [])) ?_
 obtain⟨e,b,h⟩:=bnd h
 obtain⟨f,c,h⟩:=bnd h
 obtain⟨g,d,h⟩:=bnd h
 refine sq (gq fol [4,9,11] (kAs g) (kJ a.Lot a.Order a.Reserved a.Taken (kJ o.Lot o.Order o.Reserved o.Taken (kAR e f))) (ac (cv (qgK a.Lot o.Lot b)) (ac (cv (qgK a.Order o.Order c)) (ac (hs (.call 83 [.slice 2 0 2 2 1] (kJ a.Lot a.Order a.Reserved a.Taken (kJ o.Lot o.Order o.Reserved o.Taken (kAR e f))) [2] [vl encI ([e,f]:List Int)] (.i g)) (jl (FzL.cons (Fz.lit rfl rfl (Ue (AllST.cons tI (AllST.cons tI AllST.nil)))) FzL.nil) (qgf N ([e,f]:List Int) d) tI rfl)) az))) ?_)
 refine Goes.ret ?_
 obtain rfl:=si h
 exact(gw2 [.i g] (Ub tI))
def kr (a:qm) (lot:Str):Nat->Int->Int->Option Int
 |0,_,_=>none
 |K+1,b,c=>
  if b<(a.Holds.length:Int)then
  (((idx a.Holds b).bind fun d=>
  if(d.Lot==lot)=true then
  some (w64 (c+d.Reserved))
  else
  some c:Option Int)).bind fun e=>
  kr a lot K (w64 (b+1)) e
  else
  some c
def yg (N:Nat) (a:qm) (lot:Str):Option Int:=
 (kr a lot N 0 0).bind fun b=>
 some b
theorem qcj (N:Nat) (a:qm) (lot:Str) {res:Int} (h:yg N a lot=some res):qf ZT (.fn 131) (kX a.Day a.Lots a.Holds [.str lot]) [] (.i res) []:=by
 unfold yg at h
 refine Uc Tryz.func131 rfl rfl (m:=25) rfl (rs:=[.tmp 4]) rfl (l:=(kS a.Day a.Lots a.Holds [(1,.str lot)])) rfl ?_
 refine sg fol ((1,.str lot)::(kT [])) (kE a.Day a.Lots a.Holds []) ?_
 refine sh fol ((1,.str lot)::(kT [(5,.i 0)])) ?_
 refine sq ?_
 refine sh fol [(1,.str lot),(5,.i 0),(9,vl qa a.Holds),(10,.i (a.Holds.length:Int)),(11,.i 0)] ?_
 refine Goes.block ?_
 obtain⟨j,g4,h⟩:=bnd h
 refine Goes.imp (Q:=fun x s'=>(x= .exit 0/\ ∃f,f=j/\Sub s' (ofG 25 (kAd f),[]))) ?_ ?_
 ·refine Goes.sub (s':=(ofG 25 [(1,.str lot),(5,.i 0),(9,vl qa a.Holds),(10,.i (a.Holds.length:Int)),(11,.i 0)],[])) (Sub.norm [] [] rfl rfl (.keep (.same nS) (.keep (.same nI) (.keep (.same (qZ qa _)) (.keep (.same nI) (.keep (.same nI) .nil))))) .nil) ?_
  refine Ud (fun M s=> ∃(b:Int) (d:Int),s=(ofG 25 (kAa lot d a.Holds (a.Holds.length:Int) b []),[])/\kr a lot M b d=some j) ?_ (m:=N) ⟨_,_,rfl,g4⟩
  rintro M s ⟨b,d,rfl,g4⟩
  cases M with
  |zero=>simp only[kr]at g4;cases g4
  |succ M=>
   rw[kr]at g4
   refine sh fol (kAa lot d a.Holds (a.Holds.length:Int) b [(12,.bool (decide (b<(a.Holds.length:Int))))]) ?_
   refine sq ?_
   refine ihD g4 (fun k g4=>?_) (fun k g4=>?_)
   ·refine Goes.skip ?_
    refine sq ?_
    obtain⟨n,g7,g4⟩:=bnd g4
    refine Goes.imp (Q:=fun x s'=>(x= .normal/\ ∃g,g=n/\Sub s' (ofG 25 (kAa lot g a.Holds (a.Holds.length:Int) b []),[]))) ?_ ?_
    ·refine Goes.block ?_
     obtain⟨e,c,g7⟩:=bnd g7
     refine sq (gq fol [0,1] [(1,.str lot),(5,.i d),(7,.ptr 0 0),(9,vl qa a.Holds),(10,.i (a.Holds.length:Int)),(11,.i b)] (kJ e.Lot e.Order e.Reserved e.Taken []) (ac (iv qa5 qa c) (ac (la qhc qa c) az)) ?_)
     refine sh fol [(1,.str lot),(5,.i d),(7,.ptr 0 0),(9,vl qa a.Holds),(10,.i (a.Holds.length:Int)),(11,.i b),(18,.bool (e.Lot==lot))] ?_
     refine ihB g7 (fun o g7=>?_) (fun o g7=>?_)
     ·refine gh fol (kAa lot (w64 (d+e.Reserved)) a.Holds (a.Holds.length:Int) b []) ?_
      obtain rfl:=si g7
      exact⟨rfl,_,rfl,(Sub.norm [] [] rfl rfl (.keep (.same nS) (.keep (.same nI) (.keep (.same (qZ qa _)) (.keep (.same nI) (.keep (.same nI) .nil))))) .nil)⟩
     refine Goes.skip ?_
     obtain rfl:=si g7
     exact⟨rfl,_,rfl,(Sub.norm [] [] rfl rfl (.keep (.same nS) (.keep (.same nI) (.drop (.keep (.same (qZ qa _)) (.keep (.same nI) (.keep (.same nI) .nil)))))) .nil)⟩
    rintro x s' ⟨rfl,g,rfl,hsub⟩
    refine Goes.sub hsub ?_
    refine gh fol (kAa lot g a.Holds (a.Holds.length:Int) (w64 (b+1)) []) ?_
    exact⟨M,(ofG 25 (kAa lot g a.Holds (a.Holds.length:Int) (w64 (b+1)) []),[]),Nat.lt_succ_self _,(Sub.refl _),_,_,rfl,g4⟩
   refine Goes.exit ?_
   obtain rfl:=si g4
   exact⟨rfl,_,rfl,(Sub.keep [5] rfl rfl)⟩
 rintro x s' ⟨rfl,f,rfl,hsub⟩
 refine Goes.sub hsub ?_
 refine sh fol (kAs f) ?_
 refine Goes.ret ?_
 obtain rfl:=si h
 exact(gw2 [.i f] (Ub tI))
def vM (N:Nat) (a:qm) (l:qj):Option Int:=
 (yg N a l.Name).bind fun b=>
 some (w64 (l.Stock-b))
theorem qbC (N:Nat) (a:qm) (l:qj) {res:Int} (h:vM N a l=some res):qf ZT (.fn 77) (kX a.Day a.Lots a.Holds (kAn l.Name l.Yarn l.Dye l.Stock [])) [] (.i res) []:=by
 unfold vM at h
 refine Uc Tryz.func77 rfl rfl (m:=12) rfl (rs:=[.tmp 4]) rfl (l:=(kS a.Day a.Lots a.Holds [(1,.agg [.str l.Name,.str l.Yarn,.str l.Dye,.i l.Stock])])) rfl ?_
 refine sg fol (kG []) (kE a.Day a.Lots a.Holds (kP l.Name l.Yarn l.Dye l.Stock [])) ?_
 obtain⟨c,b,h⟩:=bnd h
 refine sq (gr fol [5] (kAs (w64 (l.Stock-c))) (ac (cv (qcj N a l.Name b)) az) ?_)
 refine Goes.ret ?_
 obtain rfl:=si h
 exact(gw2 [.i (w64 (l.Stock-c))] (Ub tI))
def zG (N:Nat) (a:List qj):Nat->Int->Option (Unit⊕Int)
 |0,_=>none
 |K+1,b=>
  if b<(a.length:Int)then
  (idx a b).bind fun d=>
  (cut a 0 b).bind fun e=>
  (xC N d e).bind fun c=>
  if(!decide (c=0))=true then
  some (.inr c)
  else
  zG N a K (w64 (b+1))
  else
  some (.inl ())
def xm (N:Nat) (a:List qj) (b:Int):Option Int:=
 if(a.length:Int)>b then
 some 5
 else
 (zG N a N 0).bind (fun
 |(.inl ())=>
 some 0
 |(.inr c)=>
 some c)
theorem qdC (N:Nat) (a:List qj) (c:Int) {res:Int} (h:xm N a c=some res):qf ZT (.fn 68) [vl qb a,.i c,.func (.func 69) [] []] [] (.i res) []:=by
 unfold xm at h
 refine Uc Tryz.func68 rfl rfl (m:=31) rfl (rs:=[.tmp 6]) rfl (l:=(kAB a [(1,.i c),(2,.func (.func 69) [] [])])) rfl ?_
 refine sh fol (kAB a [(1,.i c),(2,.func (.func 69) [] [])]) ?_
 refine sq ?_
 refine sh fol (kAB a [(2,.func (.func 69) [] []),(13,.bool (decide ((a.length:Int)>c)))]) ?_
 refine ihD h (fun p h=>?_) (fun p h=>?_)
 ·refine sh fol [(6,.i 5)] ?_
  refine Goes.ret ?_
  obtain rfl:=si h
  exact(gw2 [.i 5] (Ub tI))
 refine Goes.skip ?_
 refine sq ?_
 refine sh fol (kAB a [(2,.func (.func 69) [] []),(14,vl qb a),(15,.i (a.length:Int)),(16,.i 0)]) ?_
 refine Goes.block ?_
 obtain⟨k,g3,h⟩:=bnd h
 refine Goes.imp (Q:=fun x s'=>(x= .exit 0/\(.inl ())=k/\Sub s' (ofG 31 [],[]))\/(x= .ret/\ ∃n,(.inr n)=k/\qP ZT [.tmp 6] (.i n) .ret s')) ?_ ?_
 ·refine Ud (fun M s=> ∃(b:Int),s=(ofG 31 (kAB a ((2,.func (.func 69) [] [])::(kAh a (a.length:Int) b []))),[])/\zG N a M b=some k) ?_ (m:=N) ⟨_,rfl,g3⟩
  rintro M s ⟨b,rfl,g3⟩
  cases M with
  |zero=>simp only[zG]at g3;cases g3
  |succ M=>
   rw[zG]at g3
   refine sh fol (kAB a ((2,.func (.func 69) [] [])::(kAh a (a.length:Int) b [(17,.bool (decide (b<(a.length:Int))))]))) ?_
   refine sq ?_
   refine ihD g3 (fun q g3=>?_) (fun q g3=>?_)
   ·refine Goes.skip ?_
    refine sq (Goes.block ?_)
    obtain⟨e,d,g3⟩:=bnd g3
    refine sq (gq fol [1,2] (kAB a ((2,.func (.func 69) [] [])::(7,.i b)::(8,.ptr 0 0)::(kAh a (a.length:Int) b []))) (kP e.Name e.Yarn e.Dye e.Stock []) (ac (iv qgg qb d) (ac (la qiL qb d) az)) ?_)
    obtain⟨o,f,g3⟩:=bnd g3
    obtain⟨g,j,g3⟩:=bnd g3
    refine sq (gr fol [4,5] (kAB a ((2,.func (.func 69) [] [])::(9,.i g)::(kAh a (a.length:Int) b []))) (ac (hs (.done (.opt (yH ZT 27 (vl qb a) none (some (.i b)) none)) (vl qb o)) (qmp qgg (E:=qb) rfl none (some b) f)) (ac (cv (qeI N e o j)) az)) ?_)
    refine sh fol (kAB a ((2,.func (.func 69) [] [])::(9,.i g)::(kAh a (a.length:Int) b [(28,.bool (!decide (g=0)))]))) ?_
    refine ihB g3 (fun r g3=>?_) (fun r g3=>?_)
    ·refine sh fol [(6,.i g)] ?_
     refine Goes.ret ?_
     obtain rfl:=si g3
     exact Or.inr (⟨rfl,_,rfl,(gw2 [.i g] (Ub tI))⟩)
    refine Goes.skip ?_
    refine gh fol (kAB a ((2,.func (.func 69) [] [])::(kAh a (a.length:Int) (w64 (b+1)) []))) ?_
    exact⟨M,(ofG 31 (kAB a ((2,.func (.func 69) [] [])::(kAh a (a.length:Int) (w64 (b+1)) []))),[]),Nat.lt_succ_self _,(Sub.norm [] [] rfl rfl (.keep (.same (qZ qb _)) (.keep (.same (qB.func sn sn)) (.keep (.same (qZ qb _)) (.keep (.same nI) (.keep (.same nI) .nil))))) .nil),_,rfl,g3⟩
   refine Goes.exit ?_
   obtain rfl:=si g3
   exact Or.inl (⟨rfl,rfl,(Sub.keep [] rfl rfl)⟩)
 rintro x s' (⟨rfl,rfl,hsub⟩|⟨rfl,t,rfl,hret⟩)
 ·try dsimp only at h
  refine Goes.sub hsub ?_
  refine sh fol [(6,.i 0)] ?_
  refine Goes.ret ?_
  obtain rfl:=si h
  exact(gw2 [.i 0] (Ub tI))
 try dsimp only at h
 obtain rfl:=si h
 exact hret
def jO (a:qj) (b:Str) (c:Str) (d:Int) (e:Int):Option Bool:=
 some (a.Name==b)
theorem qbp (a:qj) (b:Str) (c:Str) (d:Int) (e:Int) {res:Bool} (h:jO a b c d e=some res):qf ZT (.fn 73) (kAn a.Name a.Yarn a.Dye a.Stock [.fptr [.str b,.str c,.i d,.i e] 0]) [] (.bool res) []:=by
 unfold jO at h
 refine Uc Tryz.func73 rfl rfl (m:=9) rfl (rs:=[.tmp 3]) rfl (l:=[(0,.agg [.str a.Name,.str a.Yarn,.str a.Dye,.i a.Stock]),(1,.fptr [.str b,.str c,.i d,.i e] 0)]) rfl ?_
 refine sg fol ((1,.fptr [.str b,.str c,.i d,.i e] 0)::(kT [])) (kP a.Name a.Yarn a.Dye a.Stock []) ?_
 refine sh fol (kAw (a.Name==b)) ?_
 refine Goes.ret ?_
 obtain rfl:=si h
 exact(gw2 [.bool (a.Name==b)] (Ub tB))
def qD (a:List qj) (b:Str) (c:Str) (d:Int) (e:Int):Nat->Int->Option (Unit⊕Int)
 |0,_=>none
 |K+1,f=>
  if f<(a.length:Int)then
  (idx a f).bind fun g=>
  (jO g b c d e).bind fun h=>
  if h=true then
  some (.inr f)
  else
  qD a b c d e K (w64 (f+1))
  else
  some (.inl ())
def jP (N:Nat) (a:List qj) (b:Str) (c:Str) (d:Int) (e:Int):Option Int:=
 (qD a b c d e N 0).bind (fun
 |(.inl ())=>
 some (-1)
 |(.inr f)=>
 some f)
theorem qbB (N:Nat) (a:List qj) (b:Str) (c:Str) (d:Int) (e:Int) {res:Int} (h:jP N a b c d e=some res):qf ZT (.fn 128) [vl qb a,.func (.func 73) [] [.fptr [.str b,.str c,.i d,.i e] 0]] [] (.i res) []:=by
 unfold jP at h
 refine Uc Tryz.func128 rfl rfl (m:=19) rfl (rs:=[.tmp 4]) rfl (l:=(kAB a [(1,.func (.func 73) [] [.fptr [.str b,.str c,.i d,.i e] 0])])) rfl ?_
 refine sh fol (kAB a [(1,.func (.func 73) [] [.fptr [.str b,.str c,.i d,.i e] 0])]) ?_
 refine sq ?_
 refine sh fol (kAB a [(1,.func (.func 73) [] [.fptr [.str b,.str c,.i d,.i e] 0]),(7,.i (a.length:Int)),(8,.i 0)]) ?_
 refine Goes.block ?_
 obtain⟨n,g2,h⟩:=bnd h
 refine Goes.imp (Q:=fun x s'=>(x= .exit 0/\(.inl ())=n/\Sub s' (ofG 19 [],[]))\/(x= .ret/\ ∃o,(.inr o)=n/\qP ZT [.tmp 4] (.i o) .ret s')) ?_ ?_
 ·refine Ud (fun M s=> ∃(f:Int),s=(ofG 19 (kAB a ((1,.func (.func 73) [] [.fptr [.str b,.str c,.i d,.i e] 0])::(kAM (a.length:Int) f []))),[])/\qD a b c d e M f=some n) ?_ (m:=N) ⟨_,rfl,g2⟩
  rintro M s ⟨f,rfl,g2⟩
  cases M with
  |zero=>simp only[qD]at g2;cases g2
  |succ M=>
   rw[qD]at g2
   refine sh fol (kAB a ((1,.func (.func 73) [] [.fptr [.str b,.str c,.i d,.i e] 0])::(kAM (a.length:Int) f [(9,.bool (decide (f<(a.length:Int))))]))) ?_
   refine sq ?_
   refine ihD g2 (fun q g2=>?_) (fun q g2=>?_)
   ·refine Goes.skip ?_
    refine sq (Goes.block ?_)
    refine sh fol (kAB a ((1,.func (.func 73) [] [.fptr [.str b,.str c,.i d,.i e] 0])::(5,.i f)::(kAM (a.length:Int) f []))) ?_
    obtain⟨g,j,g2⟩:=bnd g2
    obtain⟨p,k,g2⟩:=bnd g2
    refine sq (gr fol [3,4,5] (kAB a ((1,.func (.func 73) [] [.fptr [.str b,.str c,.i d,.i e] 0])::(5,.i f)::(kAM (a.length:Int) f [(16,.bool p)]))) (ac (iv qgg qb j) (ac (la qiL qb j) (ac (hs (.call 73 (kAn g.Name g.Yarn g.Dye g.Stock [.fptr [.str b,.str c,.i d,.i e] 0]) [] [] (kAn g.Name g.Yarn g.Dye g.Stock [.fptr [.str b,.str c,.i d,.i e] 0]) (.bool p)) (qE (FzL.cons (Ua (Still.agg (AllST.cons tS (AllST.cons tS (AllST.cons tS (AllST.cons tI AllST.nil)))))) (FzL.cons (Ua (Still.fptr (AllST.cons tS (AllST.cons tS (AllST.cons tI (AllST.cons tI AllST.nil)))))) FzL.nil)) (qbp g b c d e k) tB)) az))) ?_)
    refine ihB g2 (fun r g2=>?_) (fun r g2=>?_)
    ·refine sh fol (kAs f) ?_
     refine Goes.ret ?_
     obtain rfl:=si g2
     exact Or.inr (⟨rfl,_,rfl,(gw2 [.i f] (Ub tI))⟩)
    refine Goes.skip ?_
    refine gh fol (kAB a ((1,.func (.func 73) [] [.fptr [.str b,.str c,.i d,.i e] 0])::(kAM (a.length:Int) (w64 (f+1)) []))) ?_
    exact⟨M,(ofG 19 (kAB a ((1,.func (.func 73) [] [.fptr [.str b,.str c,.i d,.i e] 0])::(kAM (a.length:Int) (w64 (f+1)) []))),[]),Nat.lt_succ_self _,(Sub.refl _),_,rfl,g2⟩
   refine Goes.exit ?_
   obtain rfl:=si g2
   exact Or.inl (⟨rfl,rfl,(Sub.keep [] rfl rfl)⟩)
 rintro x s' (⟨rfl,rfl,hsub⟩|⟨rfl,t,rfl,hret⟩)
 ·try dsimp only at h
  refine Goes.sub hsub ?_
  refine sh fol kAq ?_
  refine Goes.ret ?_
  obtain rfl:=si h
  exact(gw2 [.i (-1)] (Ub tI))
 try dsimp only at h
 obtain rfl:=si h
 exact hret
def zy (N:Nat) (a:List qj) (b:Str) (c:Str) (d:Int) (e:Int):Option Bool:=
 (jP N a b c d e).bind fun f=>
 some (decide (f>=0))
theorem qaL (N:Nat) (a:List qj) (b:Str) (c:Str) (d:Int) (e:Int) {res:Bool} (h:zy N a b c d e=some res):qf ZT (.fn 72) [vl qb a,.func (.func 73) [] [.fptr [.str b,.str c,.i d,.i e] 0]] [] (.bool res) []:=by
 unfold zy at h
 refine Uc Tryz.func72 rfl rfl (m:=9) rfl (rs:=[.tmp 4]) rfl (l:=(kAB a [(1,.func (.func 73) [] [.fptr [.str b,.str c,.i d,.i e] 0])])) rfl ?_
 refine sh fol (kAB a [(1,.func (.func 73) [] [.fptr [.str b,.str c,.i d,.i e] 0])]) ?_
 obtain⟨g,f,h⟩:=bnd h
 refine sq (gr fol [2] [(4,.bool (decide (g>=0)))] (ac (hs (.call 128 [vl qb a,.func (.func 73) [] [.fptr [.str b,.str c,.i d,.i e] 0]] [] [] [vl qb a,.func (.func 73) [] [.fptr [.str b,.str c,.i d,.i e] 0]] (.i g)) (qE (FzL.cons (Ua (qg qb _ (nl rfl))) (FzL.cons (Fz.func FzL.nil (FzL.cons (Ua (Still.fptr (AllST.cons tS (AllST.cons tS (AllST.cons tI (AllST.cons tI AllST.nil)))))) FzL.nil)) FzL.nil)) (qbB N a b c d e f) tI)) az) ?_)
 refine Goes.ret ?_
 obtain rfl:=si h
 exact(gw2 [.bool (decide (g>=0))] (Ub tB))
def jg (N:Nat) (a:qd) (d:List qd) (n:Int) (j:List qj) (o:List qd):Option Int:=
 (zy N j a.Lot a.Order a.Reserved a.Taken).bind fun p=>
 (if(d.length:Int)>0 then
 (idx d (w64 ((d.length:Int)-1))).bind fun q=>
 (jQ N a q).bind fun r=>
 some (decide (r<=0))
 else
 some false:Option Bool).bind fun s=>
 ((zw (!p) 10).bind fun g=>
 (vU N a.Order).bind fun h=>
 (zw s 11).bind fun i=>
 (j5 a.Reserved 0 999999999).bind fun b=>
 (j5 a.Taken 0 999999999).bind fun c=>
 if a.Reserved=0 then
 (zw (decide (a.Taken=0)) 6).bind fun e=>
 (zF N ([g,h,i,b,c,e]:List Int)).bind fun k=>
 some (g,h,i,b,c,e,k)
 else
 (zw false 6).bind fun f=>
 (zF N ([g,h,i,b,c,f]:List Int)).bind fun l=>
 some (g,h,i,b,c,f,l):Option (Int×Int×Int×Int×Int×Int×Int)).bind fun(t,u,v,w,x,y,m)=>
 some m
theorem qbX (N:Nat) (a:qd) (g:List qd) (n:Int) (f:List qj) (o:List qd) {res:Int} (h:jg N a g n f o=some res):qf ZT (.fn 71) (kAG a.Lot a.Order a.Reserved a.Taken [vl qa g,.fptr [.i n,vl qb f,vl qa o] 0]) [] (.i res) []:=by
 unfold jg at h
 refine Uc Tryz.func71 rfl rfl (m:=51) rfl (rs:=[.tmp 5]) rfl (l:=(kAy a.Lot a.Order a.Reserved a.Taken [(1,vl qa g),(2,.fptr [.i n,vl qb f,vl qa o] 0)])) rfl ?_
 refine sg fol [(1,vl qa g),(2,.fptr [.i n,vl qb f,vl qa o] 0),(3,.ptr 0 0)] (kJ a.Lot a.Order a.Reserved a.Taken []) ?_
 obtain⟨y,E,h⟩:=bnd h
 refine sq (gr fol [3] [(1,vl qa g),(3,.ptr 0 0),(6,.bool y)] (ac (hs (.call 72 [vl qb f,.func (.func 73) [] [.ptr 0 0]] (kJ a.Lot a.Order a.Reserved a.Taken []) [0] [vl qb f,.func (.func 73) [] [.fptr [.str a.Lot,.str a.Order,.i a.Reserved,.i a.Taken] 0]] (.bool y)) (jl (FzL.cons (Ua (qg qb _ (nl rfl))) (FzL.cons (Fz.func FzL.nil (FzL.cons (Fz.ptr rfl rfl (FzL.cons (Ua tS) (FzL.cons (Ua tS) (FzL.cons (Ua tI) (FzL.cons (Ua tI) FzL.nil))))) FzL.nil)) FzL.nil)) (qaL N f a.Lot a.Order a.Reserved a.Taken E) tB rfl)) az) ?_)
 refine sq ?_
 obtain⟨J,c,h⟩:=bnd h
 refine Goes.cut (s':=(ofG 51 [(3,.ptr 0 0),(6,.bool y),(7,.bool J)],(kJ a.Lot a.Order a.Reserved a.Taken []))) ?_ ?_
 ·rcases wyD c with⟨K,c⟩|⟨K,c⟩
  ·obtain⟨U,r,c⟩:=bnd c
   obtain⟨V,F,c⟩:=bnd c
   obtain rfl:=si c
   exact tr fol [3,9,10,11] [(3,.ptr 0 0),(6,.bool y),(7,.bool (decide (V<=0)))] (ac (gw K) (ac (iv qa5 qa r) (ac (la qhc qa r) (ac (cv (qdc N a U F)) az))))
  obtain rfl:=si c
  exact tr fol [3] [(3,.ptr 0 0),(6,.bool y),(7,.bool false)] (ac (gw K) az)
 refine sq ?_
 obtain⟨⟨L,M,O,P,Q,T,G⟩,b,h⟩:=bnd h
 refine Goes.cut (s':=(ofG 51 (kAd G),(kJ a.Lot a.Order a.Reserved a.Taken [.cells [.i L,.i M,.i O,.i P,.i Q,.i T]]))) ?_ ?_
 ·obtain⟨s,t,b⟩:=bnd b
  obtain⟨u,v,b⟩:=bnd b
  obtain⟨w,x,b⟩:=bnd b
  obtain⟨d,j,b⟩:=bnd b
  obtain⟨e,k,b⟩:=bnd b
  rcases wyD b with⟨z,b⟩|⟨z,b⟩
  ·obtain⟨p,A,b⟩:=bnd b
   obtain⟨H,B,b⟩:=bnd b
   simp only[ZI,ZP]at b
   obtain⟨rfl,rfl,rfl,rfl,rfl,rfl,rfl⟩:=b
   exact zu.rq fol [2,5,7,10,13,17,22,24] (kAd H) (kJ a.Lot a.Order a.Reserved a.Taken [.cells [.i s,.i u,.i w,.i d,.i e,.i p]]) (ac (cv (qM (!y) 10 t)) (ac (cv (ve N a.Order v)) (ac (cv (qM J 11 x)) (ac (cv (jF a.Reserved 0 999999999 j)) (ac (cv (jF a.Taken 0 999999999 k)) (ac (gw z) (ac (cv (qM (decide (a.Taken=0)) 6 A)) (ac (hs (.call 50 [.slice 1 0 6 6 1] (kJ a.Lot a.Order a.Reserved a.Taken [.cells [.i s,.i u,.i w,.i d,.i e,.i p]]) [1] [vl encI ([s,u,w,d,e,p]:List Int)] (.i H)) (jl (FzL.cons (Fz.lit rfl rfl (Ue (AllST.cons tI (AllST.cons tI (AllST.cons tI (AllST.cons tI (AllST.cons tI (AllST.cons tI AllST.nil)))))))) FzL.nil) (zQ N ([s,u,w,d,e,p]:List Int) B) tI rfl)) az))))))))
  obtain⟨q,C,b⟩:=bnd b
  obtain⟨I,D,b⟩:=bnd b
  simp only[ZI,ZP]at b
  obtain⟨rfl,rfl,rfl,rfl,rfl,rfl,rfl⟩:=b
  exact zu.rq fol [2,5,7,10,13,17,22,24] (kAd I) (kJ a.Lot a.Order a.Reserved a.Taken [.cells [.i s,.i u,.i w,.i d,.i e,.i q]]) (ac (cv (qM (!y) 10 t)) (ac (cv (ve N a.Order v)) (ac (cv (qM J 11 x)) (ac (cv (jF a.Reserved 0 999999999 j)) (ac (cv (jF a.Taken 0 999999999 k)) (ac (gw z) (ac (cv (qM false 6 C)) (ac (hs (.call 50 [.slice 1 0 6 6 1] (kJ a.Lot a.Order a.Reserved a.Taken [.cells [.i s,.i u,.i w,.i d,.i e,.i q]]) [1] [vl encI ([s,u,w,d,e,q]:List Int)] (.i I)) (jl (FzL.cons (Fz.lit rfl rfl (Ue (AllST.cons tI (AllST.cons tI (AllST.cons tI (AllST.cons tI (AllST.cons tI (AllST.cons tI AllST.nil)))))))) FzL.nil) (zQ N ([s,u,w,d,e,q]:List Int) D) tI rfl)) az))))))))
 try dsimp only at h
 refine Goes.ret ?_
 obtain rfl:=si h
 exact(gw2 [.i G] (Ub tI))
def zB (N:Nat) (a:List qd) (b:Int) (c:List qj) (d:List qd):Nat->Int->Option (Unit⊕Int)
 |0,_=>none
 |K+1,e=>
  if e<(a.length:Int)then
  (idx a e).bind fun g=>
  (cut a 0 e).bind fun h=>
  (jg N g h b c d).bind fun f=>
  if(!decide (f=0))=true then
  some (.inr f)
  else
  zB N a b c d K (w64 (e+1))
  else
  some (.inl ())
def yY (N:Nat) (a:List qd) (b:Int) (c:Int) (d:List qj) (e:List qd):Option Int:=
 if(a.length:Int)>b then
 some 5
 else
 (zB N a c d e N 0).bind (fun
 |(.inl ())=>
 some 0
 |(.inr f)=>
 some f)
theorem qdf (N:Nat) (a:List qd) (g:Int) (b:Int) (c:List qj) (d:List qd) {res:Int} (h:yY N a g b c d=some res):qf ZT (.fn 70) [vl qa a,.i g,.func (.func 71) [] [.fptr [.i b,vl qb c,vl qa d] 0]] [] (.i res) []:=by
 unfold yY at h
 refine Uc Tryz.func70 rfl rfl (m:=31) rfl (rs:=[.tmp 6]) rfl (l:=(kAN a [(1,.i g),(2,.func (.func 71) [] [.fptr [.i b,vl qb c,vl qa d] 0])])) rfl ?_
 refine sh fol (kAN a [(1,.i g),(2,.func (.func 71) [] [.fptr [.i b,vl qb c,vl qa d] 0])]) ?_
 refine sq ?_
 refine sh fol (kAN a [(2,.func (.func 71) [] [.fptr [.i b,vl qb c,vl qa d] 0]),(13,.bool (decide ((a.length:Int)>g)))]) ?_
 refine ihD h (fun t h=>?_) (fun t h=>?_)
 ·refine sh fol [(6,.i 5)] ?_
  refine Goes.ret ?_
  obtain rfl:=si h
  exact(gw2 [.i 5] (Ub tI))
 refine Goes.skip ?_
 refine sq ?_
 refine sh fol (kAN a [(2,.func (.func 71) [] [.fptr [.i b,vl qb c,vl qa d] 0]),(14,vl qa a),(15,.i (a.length:Int)),(16,.i 0)]) ?_
 refine Goes.block ?_
 obtain⟨q,g3,h⟩:=bnd h
 refine Goes.imp (Q:=fun x s'=>(x= .exit 0/\(.inl ())=q/\Sub s' (ofG 31 [],[]))\/(x= .ret/\ ∃r,(.inr r)=q/\qP ZT [.tmp 6] (.i r) .ret s')) ?_ ?_
 ·refine Ud (fun M s=> ∃(e:Int),s=(ofG 31 (kAN a ((2,.func (.func 71) [] [.fptr [.i b,vl qb c,vl qa d] 0])::(kAg a (a.length:Int) e []))),[])/\zB N a b c d M e=some q) ?_ (m:=N) ⟨_,rfl,g3⟩
  rintro M s ⟨e,rfl,g3⟩
  cases M with
  |zero=>simp only[zB]at g3;cases g3
  |succ M=>
   rw[zB]at g3
   refine sh fol (kAN a ((2,.func (.func 71) [] [.fptr [.i b,vl qb c,vl qa d] 0])::(kAg a (a.length:Int) e [(17,.bool (decide (e<(a.length:Int))))]))) ?_
   refine sq ?_
   refine ihD g3 (fun u g3=>?_) (fun u g3=>?_)
   ·refine Goes.skip ?_
    refine sq (Goes.block ?_)
    obtain⟨f,j,g3⟩:=bnd g3
    refine sq (gq fol [1,2] (kAN a ((2,.func (.func 71) [] [.fptr [.i b,vl qb c,vl qa d] 0])::(7,.i e)::(8,.ptr 0 0)::(kAg a (a.length:Int) e []))) (kJ f.Lot f.Order f.Reserved f.Taken []) (ac (iv qa5 qa j) (ac (la qhc qa j) az)) ?_)
    obtain⟨p,n,g3⟩:=bnd g3
    obtain⟨k,o,g3⟩:=bnd g3
    refine sq (gr fol [4,5] (kAN a ((2,.func (.func 71) [] [.fptr [.i b,vl qb c,vl qa d] 0])::(9,.i k)::(kAg a (a.length:Int) e []))) (ac (hs (.done (.opt (yH ZT 28 (vl qa a) none (some (.i e)) none)) (vl qa p)) (qmp qa5 (E:=qa) rfl none (some e) n)) (ac (hs (.call 71 (kAG f.Lot f.Order f.Reserved f.Taken [vl qa p,.fptr [.i b,vl qb c,vl qa d] 0]) [] [] (kAG f.Lot f.Order f.Reserved f.Taken [vl qa p,.fptr [.i b,vl qb c,vl qa d] 0]) (.i k)) (qE (FzL.cons (Ua (Still.agg (AllST.cons tS (AllST.cons tS (AllST.cons tI (AllST.cons tI AllST.nil)))))) (FzL.cons (Ua (qg qa _ (nl rfl))) (FzL.cons (Ua (Still.fptr (AllST.cons tI (AllST.cons (qg qb _ (nl rfl)) (AllST.cons (qg qa _ (nl rfl)) AllST.nil))))) FzL.nil))) (qbX N f p b c d o) tI)) az)) ?_)
    refine sh fol (kAN a ((2,.func (.func 71) [] [.fptr [.i b,vl qb c,vl qa d] 0])::(9,.i k)::(kAg a (a.length:Int) e [(28,.bool (!decide (k=0)))]))) ?_
    refine ihB g3 (fun v g3=>?_) (fun v g3=>?_)
    ·refine sh fol [(6,.i k)] ?_
     refine Goes.ret ?_
     obtain rfl:=si g3
     exact Or.inr (⟨rfl,_,rfl,(gw2 [.i k] (Ub tI))⟩)
    refine Goes.skip ?_
    refine gh fol (kAN a ((2,.func (.func 71) [] [.fptr [.i b,vl qb c,vl qa d] 0])::(kAg a (a.length:Int) (w64 (e+1)) []))) ?_
    exact⟨M,(ofG 31 (kAN a ((2,.func (.func 71) [] [.fptr [.i b,vl qb c,vl qa d] 0])::(kAg a (a.length:Int) (w64 (e+1)) []))),[]),Nat.lt_succ_self _,(Sub.norm [] [] rfl rfl (.keep (.same (qZ qa _)) (.keep (.same (qB.func sn sn)) (.keep (.same (qZ qa _)) (.keep (.same nI) (.keep (.same nI) .nil))))) .nil),_,rfl,g3⟩
   refine Goes.exit ?_
   obtain rfl:=si g3
   exact Or.inl (⟨rfl,rfl,(Sub.keep [] rfl rfl)⟩)
 rintro x s' (⟨rfl,rfl,hsub⟩|⟨rfl,w,rfl,hret⟩)
 ·try dsimp only at h
  refine Goes.sub hsub ?_
  refine sh fol [(6,.i 0)] ?_
  refine Goes.ret ?_
  obtain rfl:=si h
  exact(gw2 [.i 0] (Ub tI))
 try dsimp only at h
 obtain rfl:=si h
 exact hret
def vI (N:Nat) (a:qj) (b:Int) (c:List qj) (d:List qd):Option Bool:=
 (vM N (⟨b,c,d⟩:qm) a).bind fun e=>
 some (decide (e<0))
theorem qbZ (N:Nat) (a:qj) (b:Int) (c:List qj) (d:List qd) {res:Bool} (h:vI N a b c d=some res):qf ZT (.fn 76) (kAn a.Name a.Yarn a.Dye a.Stock [.fptr [.i b,vl qb c,vl qa d] 0]) [] (.bool res) []:=by
 unfold vI at h
 refine Uc Tryz.func76 rfl rfl (m:=8) rfl (rs:=[.tmp 3]) rfl (l:=[(0,.agg [.str a.Name,.str a.Yarn,.str a.Dye,.i a.Stock]),(1,.fptr [.i b,vl qb c,vl qa d] 0)]) rfl ?_
 refine sg fol ((1,.fptr [.i b,vl qb c,vl qa d] 0)::(kT [])) (kP a.Name a.Yarn a.Dye a.Stock []) ?_
 obtain⟨f,e,h⟩:=bnd h
 refine sq (gr fol [2] (kAw (decide (f<0))) (ac (cv (qbC N (⟨b,c,d⟩:qm) a e)) az) ?_)
 refine Goes.ret ?_
 obtain rfl:=si h
 exact(gw2 [.bool (decide (f<0))] (Ub tB))
def qC (N:Nat) (a:List qj) (b:Int) (c:List qj) (d:List qd):Nat->Int->Option (Unit⊕Int)
 |0,_=>none
 |K+1,e=>
  if e<(a.length:Int)then
  (idx a e).bind fun f=>
  (vI N f b c d).bind fun g=>
  if g=true then
  some (.inr e)
  else
  qC N a b c d K (w64 (e+1))
  else
  some (.inl ())
def jS (N:Nat) (a:List qj) (b:Int) (c:List qj) (d:List qd):Option Int:=
 (qC N a b c d N 0).bind (fun
 |(.inl ())=>
 some (-1)
 |(.inr e)=>
 some e)
theorem qby (N:Nat) (a:List qj) (b:Int) (c:List qj) (d:List qd) {res:Int} (h:jS N a b c d=some res):qf ZT (.fn 128) [vl qb a,.func (.func 76) [] [.fptr [.i b,vl qb c,vl qa d] 0]] [] (.i res) []:=by
 unfold jS at h
 refine Uc Tryz.func128 rfl rfl (m:=19) rfl (rs:=[.tmp 4]) rfl (l:=(kAB a [(1,.func (.func 76) [] [.fptr [.i b,vl qb c,vl qa d] 0])])) rfl ?_
 refine sh fol (kAB a [(1,.func (.func 76) [] [.fptr [.i b,vl qb c,vl qa d] 0])]) ?_
 refine sq ?_
 refine sh fol (kAB a [(1,.func (.func 76) [] [.fptr [.i b,vl qb c,vl qa d] 0]),(7,.i (a.length:Int)),(8,.i 0)]) ?_
 refine Goes.block ?_
 obtain⟨k,g2,h⟩:=bnd h
 refine Goes.imp (Q:=fun x s'=>(x= .exit 0/\(.inl ())=k/\Sub s' (ofG 19 [],[]))\/(x= .ret/\ ∃n,(.inr n)=k/\qP ZT [.tmp 4] (.i n) .ret s')) ?_ ?_
 ·refine Ud (fun M s=> ∃(e:Int),s=(ofG 19 (kAB a ((1,.func (.func 76) [] [.fptr [.i b,vl qb c,vl qa d] 0])::(kAM (a.length:Int) e []))),[])/\qC N a b c d M e=some k) ?_ (m:=N) ⟨_,rfl,g2⟩
  rintro M s ⟨e,rfl,g2⟩
  cases M with
  |zero=>simp only[qC]at g2;cases g2
  |succ M=>
   rw[qC]at g2
   refine sh fol (kAB a ((1,.func (.func 76) [] [.fptr [.i b,vl qb c,vl qa d] 0])::(kAM (a.length:Int) e [(9,.bool (decide (e<(a.length:Int))))]))) ?_
   refine sq ?_
   refine ihD g2 (fun p g2=>?_) (fun p g2=>?_)
   ·refine Goes.skip ?_
    refine sq (Goes.block ?_)
    refine sh fol (kAB a ((1,.func (.func 76) [] [.fptr [.i b,vl qb c,vl qa d] 0])::(5,.i e)::(kAM (a.length:Int) e []))) ?_
    obtain⟨f,g,g2⟩:=bnd g2
    obtain⟨o,j,g2⟩:=bnd g2
    refine sq (gr fol [3,4,5] (kAB a ((1,.func (.func 76) [] [.fptr [.i b,vl qb c,vl qa d] 0])::(5,.i e)::(kAM (a.length:Int) e [(16,.bool o)]))) (ac (iv qgg qb g) (ac (la qiL qb g) (ac (hs (.call 76 (kAn f.Name f.Yarn f.Dye f.Stock [.fptr [.i b,vl qb c,vl qa d] 0]) [] [] (kAn f.Name f.Yarn f.Dye f.Stock [.fptr [.i b,vl qb c,vl qa d] 0]) (.bool o)) (qE (FzL.cons (Ua (Still.agg (AllST.cons tS (AllST.cons tS (AllST.cons tS (AllST.cons tI AllST.nil)))))) (FzL.cons (Ua (Still.fptr (AllST.cons tI (AllST.cons (qg qb _ (nl rfl)) (AllST.cons (qg qa _ (nl rfl)) AllST.nil))))) FzL.nil)) (qbZ N f b c d j) tB)) az))) ?_)
    refine ihB g2 (fun q g2=>?_) (fun q g2=>?_)
    ·refine sh fol (kAs e) ?_
     refine Goes.ret ?_
     obtain rfl:=si g2
     exact Or.inr (⟨rfl,_,rfl,(gw2 [.i e] (Ub tI))⟩)
    refine Goes.skip ?_
    refine gh fol (kAB a ((1,.func (.func 76) [] [.fptr [.i b,vl qb c,vl qa d] 0])::(kAM (a.length:Int) (w64 (e+1)) []))) ?_
    exact⟨M,(ofG 19 (kAB a ((1,.func (.func 76) [] [.fptr [.i b,vl qb c,vl qa d] 0])::(kAM (a.length:Int) (w64 (e+1)) []))),[]),Nat.lt_succ_self _,(Sub.refl _),_,rfl,g2⟩
   refine Goes.exit ?_
   obtain rfl:=si g2
   exact Or.inl (⟨rfl,rfl,(Sub.keep [] rfl rfl)⟩)
 rintro x s' (⟨rfl,rfl,hsub⟩|⟨rfl,r,rfl,hret⟩)
 ·try dsimp only at h
  refine Goes.sub hsub ?_
  refine sh fol kAq ?_
  refine Goes.ret ?_
  obtain rfl:=si h
  exact(gw2 [.i (-1)] (Ub tI))
 try dsimp only at h
 obtain rfl:=si h
 exact hret
def zC (N:Nat) (a:List qj) (b:Int) (c:List qj) (d:List qd):Option Bool:=
 (jS N a b c d).bind fun e=>
 some (decide (e>=0))
theorem qaR (N:Nat) (a:List qj) (b:Int) (c:List qj) (d:List qd) {res:Bool} (h:zC N a b c d=some res):qf ZT (.fn 72) [vl qb a,.func (.func 76) [] [.fptr [.i b,vl qb c,vl qa d] 0]] [] (.bool res) []:=by
 unfold zC at h
 refine Uc Tryz.func72 rfl rfl (m:=9) rfl (rs:=[.tmp 4]) rfl (l:=(kAB a [(1,.func (.func 76) [] [.fptr [.i b,vl qb c,vl qa d] 0])])) rfl ?_
 refine sh fol (kAB a [(1,.func (.func 76) [] [.fptr [.i b,vl qb c,vl qa d] 0])]) ?_
 obtain⟨f,e,h⟩:=bnd h
 refine sq (gr fol [2] [(4,.bool (decide (f>=0)))] (ac (hs (.call 128 [vl qb a,.func (.func 76) [] [.fptr [.i b,vl qb c,vl qa d] 0]] [] [] [vl qb a,.func (.func 76) [] [.fptr [.i b,vl qb c,vl qa d] 0]] (.i f)) (qE (FzL.cons (Ua (qg qb _ (nl rfl))) (FzL.cons (Fz.func FzL.nil (FzL.cons (Ua (Still.fptr (AllST.cons tI (AllST.cons (qg qb _ (nl rfl)) (AllST.cons (qg qa _ (nl rfl)) AllST.nil))))) FzL.nil)) FzL.nil)) (qby N a b c d e) tI)) az) ?_)
 refine Goes.ret ?_
 obtain rfl:=si h
 exact(gw2 [.bool (decide (f>=0))] (Ub tB))
def vO (N:Nat) (a:qm):Option Int:=
 (j5 a.Day 0 99999).bind fun c=>
 (xm N a.Lots 64).bind fun d=>
 (zF N ([c,d]:List Int)).bind fun b=>
 if(!decide (b=0))=true then
 some b
 else
 (yY N a.Holds 256 a.Day a.Lots a.Holds).bind fun e=>
 (zC N a.Lots a.Day a.Lots a.Holds).bind fun f=>
 (zw f 32).bind fun g=>
 (zF N ([e,g]:List Int)).bind fun h=>
 some h
theorem zA (N:Nat) (a:qm) {res:Int} (h:vO N a=some res):qf ZT (.fn 29) [.agg (kH a.Day a.Lots a.Holds)] [] (.i res) []:=by
 unfold vO at h
 refine Uc Tryz.func29 rfl rfl (m:=28) rfl (rs:=[.tmp 2]) rfl (l:=(kS a.Day a.Lots a.Holds [])) rfl ?_
 refine sg fol (kV []) (kE a.Day a.Lots a.Holds []) ?_
 refine sq ?_
 obtain⟨c,f,h⟩:=bnd h
 obtain⟨b,g,h⟩:=bnd h
 obtain⟨d,j,h⟩:=bnd h
 refine sq (gq fol [2,5,7] (kV [(3,.i d)]) (kE a.Day a.Lots a.Holds (kAR c b)) (ac (cv (jF a.Day 0 99999 f)) (ac (hs (.call 68 [vl qb a.Lots,.i 64,.func (.func 69) [] []] [] [] [vl qb a.Lots,.i 64,.func (.func 69) [] []] (.i b)) (qE (FzL.cons (Ua (qg qb _ (nl rfl))) (FzL.cons (Ua tI) (FzL.cons (Fz.func FzL.nil FzL.nil) FzL.nil))) (qdC N a.Lots 64 g) tI)) (ac (hs (.call 50 [.slice 1 0 2 2 1] (kE a.Day a.Lots a.Holds (kAR c b)) [1] [vl encI ([c,b]:List Int)] (.i d)) (jl (FzL.cons (Fz.lit rfl rfl (Ue (AllST.cons tI (AllST.cons tI AllST.nil)))) FzL.nil) (zQ N ([c,b]:List Int) j) tI rfl)) az))) ?_)
 refine sh fol (kV [(3,.i d),(14,.bool (!decide (d=0)))]) ?_
 refine ihB h (fun t h=>?_) (fun t h=>?_)
 ·refine sh fol (kAu d) ?_
  refine Goes.ret ?_
  obtain rfl:=si h
  exact(gw2 [.i d] (Ub tI))
 refine Goes.skip ?_
 obtain⟨e,k,h⟩:=bnd h
 refine sq (gr fol [3] (kV (kAs e)) (ac (hs (.call 70 [vl qa a.Holds,.i 256,.func (.func 71) [] [.ptr 0 0]] (kE a.Day a.Lots a.Holds (kAR c b)) [0] [vl qa a.Holds,.i 256,.func (.func 71) [] [.fptr [.i a.Day,vl qb a.Lots,vl qa a.Holds] 0]] (.i e)) (jl (FzL.cons (Ua (qg qa _ (nl rfl))) (FzL.cons (Ua tI) (FzL.cons (Fz.func FzL.nil (FzL.cons (Fz.ptr rfl rfl (FzL.cons (Ua tI) (FzL.cons (Ua (qg qb _ (nl rfl))) (FzL.cons (Ua (qg qa _ (nl rfl))) FzL.nil)))) FzL.nil)) FzL.nil))) (qdf N a.Holds 256 a.Day a.Lots a.Holds k) tI rfl)) az) ?_)
 obtain⟨s,n,h⟩:=bnd h
 obtain⟨q,o,h⟩:=bnd h
 obtain⟨r,p,h⟩:=bnd h
 refine sq (gq fol [4,5,7] (kAu r) (kE a.Day a.Lots a.Holds (.cells [.i c,.i b]::(kAR e q))) (ac (hs (.call 72 [vl qb a.Lots,.func (.func 76) [] [.ptr 0 0]] (kE a.Day a.Lots a.Holds (kAR c b)) [0] [vl qb a.Lots,.func (.func 76) [] [.fptr [.i a.Day,vl qb a.Lots,vl qa a.Holds] 0]] (.bool s)) (jl (FzL.cons (Ua (qg qb _ (nl rfl))) (FzL.cons (Fz.func FzL.nil (FzL.cons (Fz.ptr rfl rfl (FzL.cons (Ua tI) (FzL.cons (Ua (qg qb _ (nl rfl))) (FzL.cons (Ua (qg qa _ (nl rfl))) FzL.nil)))) FzL.nil)) FzL.nil)) (qaR N a.Lots a.Day a.Lots a.Holds n) tB rfl)) (ac (cv (qM s 32 o)) (ac (hs (.call 50 [.slice 2 0 2 2 1] (kE a.Day a.Lots a.Holds (.cells [.i c,.i b]::(kAR e q))) [2] [vl encI ([e,q]:List Int)] (.i r)) (jl (FzL.cons (Fz.lit rfl rfl (Ue (AllST.cons tI (AllST.cons tI AllST.nil)))) FzL.nil) (zQ N ([e,q]:List Int) p) tI rfl)) az))) ?_)
 refine Goes.ret ?_
 obtain rfl:=si h
 exact(gw2 [.i r] (Ub tI))
def qbT (a:qc) (b:Int):Option Bool:=
 some true
theorem qeJ (a:qc) (b:Int) {res:Bool} (h:qbT a b=some res):qf ZT (.fn 132) (kAA a.lot.Name a.lot.Yarn a.lot.Dye a.lot.Stock a.known a.hold.Lot a.hold.Order a.hold.Reserved a.hold.Taken a.free b) [] (.bool res) []:=by
 unfold qbT at h
 refine Uc Tryz.func132 rfl rfl (m:=5) rfl (rs:=[.tmp 4]) rfl (l:=(kW a.lot.Name a.lot.Yarn a.lot.Dye a.lot.Stock a.known a.hold.Lot a.hold.Order a.hold.Reserved a.hold.Taken a.free b)) rfl ?_
 refine sg fol [] (kC a.lot.Name a.lot.Yarn a.lot.Dye a.lot.Stock a.known a.hold.Lot a.hold.Order a.hold.Reserved a.hold.Taken a.free []) ?_
 refine sh fol kAm ?_
 refine Goes.ret ?_
 obtain rfl:=si h
 exact(gw2 [.bool true] (Ub tB))
def xx (a:qc) (n:Int):Option qc:=
 some (⟨(⟨a.lot.Name,a.lot.Yarn,a.lot.Dye,w64 (a.lot.Stock+n)⟩:qj),a.known,a.hold,a.free⟩:qc)
theorem qb3 (a:qc) (n:Int) {res:qc} (h:xx a n=some res):qf ZT (.fn 133) (kAA a.lot.Name a.lot.Yarn a.lot.Dye a.lot.Stock a.known a.hold.Lot a.hold.Order a.hold.Reserved a.hold.Taken a.free n) [] (.agg (.str res.lot.Name::(kB res.lot.Yarn res.lot.Dye res.lot.Stock res.known res.hold.Lot res.hold.Order res.hold.Reserved res.hold.Taken res.free))) []:=by
 unfold xx at h
 refine Uc Tryz.func133 rfl rfl (m:=13) rfl (rs:=[.cell 4 182]) rfl (l:=(kW a.lot.Name a.lot.Yarn a.lot.Dye a.lot.Stock a.known a.hold.Lot a.hold.Order a.hold.Reserved a.hold.Taken a.free n)) rfl ?_
 refine sg fol ((1,.i n)::(kT (kAF []))) (kC a.lot.Name a.lot.Yarn a.lot.Dye a.lot.Stock a.known a.hold.Lot a.hold.Order a.hold.Reserved a.hold.Taken a.free (kK [])) ?_
 refine sg fol (kT (kAF [])) (kC a.lot.Name a.lot.Yarn a.lot.Dye (w64 (a.lot.Stock+n)) a.known a.hold.Lot a.hold.Order a.hold.Reserved a.hold.Taken a.free (kK [])) ?_
 refine sg fol (kAF []) (kC a.lot.Name a.lot.Yarn a.lot.Dye (w64 (a.lot.Stock+n)) a.known a.hold.Lot a.hold.Order a.hold.Reserved a.hold.Taken a.free (kC a.lot.Name a.lot.Yarn a.lot.Dye (w64 (a.lot.Stock+n)) a.known a.hold.Lot a.hold.Order a.hold.Reserved a.hold.Taken a.free [])) ?_
 refine Goes.ret ?_
 obtain rfl:=si h
 exact(gw2 [.agg (.str a.lot.Name::(kB a.lot.Yarn a.lot.Dye (w64 (a.lot.Stock+n)) a.known a.hold.Lot a.hold.Order a.hold.Reserved a.hold.Taken a.free))] (FzW.agg (qp.cons (Ub tS) (qp.cons (Ub tS) (qp.cons (Ub tS) (qp.cons (Ub tI) (qp.cons (Ub tB) (qp.cons (Ub tS) (qp.cons (Ub tS) (qp.cons (Ub tI) (qp.cons (Ub tI) (qp.cons (Ub tI) qp.nil))))))))))))
def qbW (a:qc) (n:Int):Option Bool:=
 some (decide (n<=a.free))
theorem qeQ (a:qc) (n:Int) {res:Bool} (h:qbW a n=some res):qf ZT (.fn 134) (kAA a.lot.Name a.lot.Yarn a.lot.Dye a.lot.Stock a.known a.hold.Lot a.hold.Order a.hold.Reserved a.hold.Taken a.free n) [] (.bool res) []:=by
 unfold qbW at h
 refine Uc Tryz.func134 rfl rfl (m:=9) rfl (rs:=[.tmp 4]) rfl (l:=(kW a.lot.Name a.lot.Yarn a.lot.Dye a.lot.Stock a.known a.hold.Lot a.hold.Order a.hold.Reserved a.hold.Taken a.free n)) rfl ?_
 refine sg fol ((1,.i n)::(kT [])) (kC a.lot.Name a.lot.Yarn a.lot.Dye a.lot.Stock a.known a.hold.Lot a.hold.Order a.hold.Reserved a.hold.Taken a.free []) ?_
 refine sh fol [(4,.bool (decide (n<=a.free)))] ?_
 refine Goes.ret ?_
 obtain rfl:=si h
 exact(gw2 [.bool (decide (n<=a.free))] (Ub tB))
def vH (a:qc) (n:Int):Option qc:=
 some (⟨a.lot,a.known,(⟨a.hold.Lot,a.hold.Order,w64 (a.hold.Reserved+n),a.hold.Taken⟩:qd),a.free⟩:qc)
theorem xw (a:qc) (n:Int) {res:qc} (h:vH a n=some res):qf ZT (.fn 136) (kAA a.lot.Name a.lot.Yarn a.lot.Dye a.lot.Stock a.known a.hold.Lot a.hold.Order a.hold.Reserved a.hold.Taken a.free n) [] (.agg (.str res.lot.Name::(kB res.lot.Yarn res.lot.Dye res.lot.Stock res.known res.hold.Lot res.hold.Order res.hold.Reserved res.hold.Taken res.free))) []:=by
 unfold vH at h
 refine Uc Tryz.func136 rfl rfl (m:=13) rfl (rs:=[.cell 4 182]) rfl (l:=(kW a.lot.Name a.lot.Yarn a.lot.Dye a.lot.Stock a.known a.hold.Lot a.hold.Order a.hold.Reserved a.hold.Taken a.free n)) rfl ?_
 refine sg fol ((1,.i n)::(kT (kAF []))) (kC a.lot.Name a.lot.Yarn a.lot.Dye a.lot.Stock a.known a.hold.Lot a.hold.Order a.hold.Reserved a.hold.Taken a.free (kK [])) ?_
 refine sg fol (kT (kAF [])) (kC a.lot.Name a.lot.Yarn a.lot.Dye a.lot.Stock a.known a.hold.Lot a.hold.Order (w64 (a.hold.Reserved+n)) a.hold.Taken a.free (kK [])) ?_
 refine sg fol (kAF []) (kC a.lot.Name a.lot.Yarn a.lot.Dye a.lot.Stock a.known a.hold.Lot a.hold.Order (w64 (a.hold.Reserved+n)) a.hold.Taken a.free (kC a.lot.Name a.lot.Yarn a.lot.Dye a.lot.Stock a.known a.hold.Lot a.hold.Order (w64 (a.hold.Reserved+n)) a.hold.Taken a.free [])) ?_
 refine Goes.ret ?_
 obtain rfl:=si h
 exact(gw2 [.agg (.str a.lot.Name::(kB a.lot.Yarn a.lot.Dye a.lot.Stock a.known a.hold.Lot a.hold.Order (w64 (a.hold.Reserved+n)) a.hold.Taken a.free))] (FzW.agg (qp.cons (Ub tS) (qp.cons (Ub tS) (qp.cons (Ub tS) (qp.cons (Ub tI) (qp.cons (Ub tB) (qp.cons (Ub tS) (qp.cons (Ub tS) (qp.cons (Ub tI) (qp.cons (Ub tI) (qp.cons (Ub tI) qp.nil))))))))))))
def xy (a:qc) (n:Int):Option qc:=
 (vH a n).bind fun b=>
 some b
theorem qb6 (a:qc) (n:Int) {res:qc} (h:xy a n=some res):qf ZT (.fn 135) (kAA a.lot.Name a.lot.Yarn a.lot.Dye a.lot.Stock a.known a.hold.Lot a.hold.Order a.hold.Reserved a.hold.Taken a.free n) [] (.agg (.str res.lot.Name::(kB res.lot.Yarn res.lot.Dye res.lot.Stock res.known res.hold.Lot res.hold.Order res.hold.Reserved res.hold.Taken res.free))) []:=by
 unfold xy at h
 refine Uc Tryz.func135 rfl rfl (m:=8) rfl (rs:=[.cell 4 182]) rfl (l:=(kW a.lot.Name a.lot.Yarn a.lot.Dye a.lot.Stock a.known a.hold.Lot a.hold.Order a.hold.Reserved a.hold.Taken a.free n)) rfl ?_
 refine sg fol ((1,.i n)::(kT (kAF []))) (kC a.lot.Name a.lot.Yarn a.lot.Dye a.lot.Stock a.known a.hold.Lot a.hold.Order a.hold.Reserved a.hold.Taken a.free (kK [])) ?_
 obtain⟨b,c,h⟩:=bnd h
 refine sq (gq fol [2] (kAF []) (kC a.lot.Name a.lot.Yarn a.lot.Dye a.lot.Stock a.known a.hold.Lot a.hold.Order a.hold.Reserved a.hold.Taken a.free (kC b.lot.Name b.lot.Yarn b.lot.Dye b.lot.Stock b.known b.hold.Lot b.hold.Order b.hold.Reserved b.hold.Taken b.free [])) (ac (cv (xw a n c)) az) ?_)
 refine Goes.ret ?_
 obtain rfl:=si h
 exact(gw2 [.agg (.str b.lot.Name::(kB b.lot.Yarn b.lot.Dye b.lot.Stock b.known b.hold.Lot b.hold.Order b.hold.Reserved b.hold.Taken b.free))] (FzW.agg (qp.cons (Ub tS) (qp.cons (Ub tS) (qp.cons (Ub tS) (qp.cons (Ub tI) (qp.cons (Ub tB) (qp.cons (Ub tS) (qp.cons (Ub tS) (qp.cons (Ub tI) (qp.cons (Ub tI) (qp.cons (Ub tI) qp.nil))))))))))))
def qbY (a:qc) (n:Int):Option Bool:=
 some (decide (n<=a.hold.Reserved))
theorem qeH (a:qc) (n:Int) {res:Bool} (h:qbY a n=some res):qf ZT (.fn 137) (kAA a.lot.Name a.lot.Yarn a.lot.Dye a.lot.Stock a.known a.hold.Lot a.hold.Order a.hold.Reserved a.hold.Taken a.free n) [] (.bool res) []:=by
 unfold qbY at h
 refine Uc Tryz.func137 rfl rfl (m:=10) rfl (rs:=[.tmp 4]) rfl (l:=(kW a.lot.Name a.lot.Yarn a.lot.Dye a.lot.Stock a.known a.hold.Lot a.hold.Order a.hold.Reserved a.hold.Taken a.free n)) rfl ?_
 refine sg fol ((1,.i n)::(kT [])) (kC a.lot.Name a.lot.Yarn a.lot.Dye a.lot.Stock a.known a.hold.Lot a.hold.Order a.hold.Reserved a.hold.Taken a.free []) ?_
 refine sh fol [(4,.bool (decide (n<=a.hold.Reserved)))] ?_
 refine Goes.ret ?_
 obtain rfl:=si h
 exact(gw2 [.bool (decide (n<=a.hold.Reserved))] (Ub tB))
def xz (a:qc) (n:Int):Option qc:=
 (vH a (w64 (0-n))).bind fun b=>
 some b
theorem qb8 (a:qc) (n:Int) {res:qc} (h:xz a n=some res):qf ZT (.fn 138) (kAA a.lot.Name a.lot.Yarn a.lot.Dye a.lot.Stock a.known a.hold.Lot a.hold.Order a.hold.Reserved a.hold.Taken a.free n) [] (.agg (.str res.lot.Name::(kB res.lot.Yarn res.lot.Dye res.lot.Stock res.known res.hold.Lot res.hold.Order res.hold.Reserved res.hold.Taken res.free))) []:=by
 unfold xz at h
 refine Uc Tryz.func138 rfl rfl (m:=9) rfl (rs:=[.cell 4 182]) rfl (l:=(kW a.lot.Name a.lot.Yarn a.lot.Dye a.lot.Stock a.known a.hold.Lot a.hold.Order a.hold.Reserved a.hold.Taken a.free n)) rfl ?_
 refine sg fol ((1,.i n)::(kT (kAF []))) (kC a.lot.Name a.lot.Yarn a.lot.Dye a.lot.Stock a.known a.hold.Lot a.hold.Order a.hold.Reserved a.hold.Taken a.free (kK [])) ?_
 obtain⟨b,c,h⟩:=bnd h
 refine sq (gq fol [3] (kAF []) (kC a.lot.Name a.lot.Yarn a.lot.Dye a.lot.Stock a.known a.hold.Lot a.hold.Order a.hold.Reserved a.hold.Taken a.free (kC b.lot.Name b.lot.Yarn b.lot.Dye b.lot.Stock b.known b.hold.Lot b.hold.Order b.hold.Reserved b.hold.Taken b.free [])) (ac (cv (xw a (w64 (0-n)) c)) az) ?_)
 refine Goes.ret ?_
 obtain rfl:=si h
 exact(gw2 [.agg (.str b.lot.Name::(kB b.lot.Yarn b.lot.Dye b.lot.Stock b.known b.hold.Lot b.hold.Order b.hold.Reserved b.hold.Taken b.free))] (FzW.agg (qp.cons (Ub tS) (qp.cons (Ub tS) (qp.cons (Ub tS) (qp.cons (Ub tI) (qp.cons (Ub tB) (qp.cons (Ub tS) (qp.cons (Ub tS) (qp.cons (Ub tI) (qp.cons (Ub tI) (qp.cons (Ub tI) qp.nil))))))))))))
def qb0 (a:qc) (n:Int):Option Bool:=
 some (decide (n<=(w64 (a.free+a.hold.Reserved))))
theorem qeP (a:qc) (n:Int) {res:Bool} (h:qb0 a n=some res):qf ZT (.fn 139) (kAA a.lot.Name a.lot.Yarn a.lot.Dye a.lot.Stock a.known a.hold.Lot a.hold.Order a.hold.Reserved a.hold.Taken a.free n) [] (.bool res) []:=by
 unfold qb0 at h
 refine Uc Tryz.func139 rfl rfl (m:=13) rfl (rs:=[.tmp 4]) rfl (l:=(kW a.lot.Name a.lot.Yarn a.lot.Dye a.lot.Stock a.known a.hold.Lot a.hold.Order a.hold.Reserved a.hold.Taken a.free n)) rfl ?_
 refine sg fol ((1,.i n)::(kT [])) (kC a.lot.Name a.lot.Yarn a.lot.Dye a.lot.Stock a.known a.hold.Lot a.hold.Order a.hold.Reserved a.hold.Taken a.free []) ?_
 refine sh fol [(4,.bool (decide (n<=(w64 (a.free+a.hold.Reserved)))))] ?_
 refine Goes.ret ?_
 obtain rfl:=si h
 exact(gw2 [.bool (decide (n<=(w64 (a.free+a.hold.Reserved))))] (Ub tB))
def qbv (a:qc) (n:Int):Option qc:=
 some (⟨(⟨a.lot.Name,a.lot.Yarn,a.lot.Dye,w64 (a.lot.Stock-n)⟩:qj),a.known,(⟨a.hold.Lot,a.hold.Order,(if(w64 (a.hold.Reserved-n))>0 then(w64 (a.hold.Reserved-n))else 0),w64 (a.hold.Taken+n)⟩:qd),a.free⟩:qc)
theorem qdH (a:qc) (n:Int) {res:qc} (h:qbv a n=some res):qf ZT (.fn 140) (kAA a.lot.Name a.lot.Yarn a.lot.Dye a.lot.Stock a.known a.hold.Lot a.hold.Order a.hold.Reserved a.hold.Taken a.free n) [] (.agg (.str res.lot.Name::(kB res.lot.Yarn res.lot.Dye res.lot.Stock res.known res.hold.Lot res.hold.Order res.hold.Reserved res.hold.Taken res.free))) []:=by
 unfold qbv at h
 refine Uc Tryz.func140 rfl rfl (m:=28) rfl (rs:=[.cell 4 182]) rfl (l:=(kW a.lot.Name a.lot.Yarn a.lot.Dye a.lot.Stock a.known a.hold.Lot a.hold.Order a.hold.Reserved a.hold.Taken a.free n)) rfl ?_
 refine sg fol ((1,.i n)::(kT (kAF []))) (kC a.lot.Name a.lot.Yarn a.lot.Dye a.lot.Stock a.known a.hold.Lot a.hold.Order a.hold.Reserved a.hold.Taken a.free (kK [])) ?_
 refine sg fol ((1,.i n)::(kT (kAF []))) (kC a.lot.Name a.lot.Yarn a.lot.Dye (w64 (a.lot.Stock-n)) a.known a.hold.Lot a.hold.Order a.hold.Reserved a.hold.Taken a.free (kK [])) ?_
 refine sg fol ((1,.i n)::(kT (kAF []))) (kC a.lot.Name a.lot.Yarn a.lot.Dye (w64 (a.lot.Stock-n)) a.known a.hold.Lot a.hold.Order a.hold.Reserved (w64 (a.hold.Taken+n)) a.free (kK [])) ?_
 refine sg fol (kT (kAF [])) (kC a.lot.Name a.lot.Yarn a.lot.Dye (w64 (a.lot.Stock-n)) a.known a.hold.Lot a.hold.Order (if(w64 (a.hold.Reserved-n))>0 then(w64 (a.hold.Reserved-n))else 0) (w64 (a.hold.Taken+n)) a.free (kK [])) ?_
 refine sg fol (kAF []) (kC a.lot.Name a.lot.Yarn a.lot.Dye (w64 (a.lot.Stock-n)) a.known a.hold.Lot a.hold.Order (if(w64 (a.hold.Reserved-n))>0 then(w64 (a.hold.Reserved-n))else 0) (w64 (a.hold.Taken+n)) a.free (kC a.lot.Name a.lot.Yarn a.lot.Dye (w64 (a.lot.Stock-n)) a.known a.hold.Lot a.hold.Order (if(w64 (a.hold.Reserved-n))>0 then(w64 (a.hold.Reserved-n))else 0) (w64 (a.hold.Taken+n)) a.free [])) ?_
 refine Goes.ret ?_
 obtain rfl:=si h
 exact(gw2 [.agg (.str a.lot.Name::(kB a.lot.Yarn a.lot.Dye (w64 (a.lot.Stock-n)) a.known a.hold.Lot a.hold.Order (if(w64 (a.hold.Reserved-n))>0 then(w64 (a.hold.Reserved-n))else 0) (w64 (a.hold.Taken+n)) a.free))] (FzW.agg (qp.cons (Ub tS) (qp.cons (Ub tS) (qp.cons (Ub tS) (qp.cons (Ub tI) (qp.cons (Ub tB) (qp.cons (Ub tS) (qp.cons (Ub tS) (qp.cons (Ub tI) (qp.cons (Ub tI) (qp.cons (Ub tI) qp.nil))))))))))))
def qbU (a:qc) (n:Int):Option Bool:=
 some (decide (n<=a.hold.Taken))
theorem qeL (a:qc) (n:Int) {res:Bool} (h:qbU a n=some res):qf ZT (.fn 141) (kAA a.lot.Name a.lot.Yarn a.lot.Dye a.lot.Stock a.known a.hold.Lot a.hold.Order a.hold.Reserved a.hold.Taken a.free n) [] (.bool res) []:=by
 unfold qbU at h
 refine Uc Tryz.func141 rfl rfl (m:=10) rfl (rs:=[.tmp 4]) rfl (l:=(kW a.lot.Name a.lot.Yarn a.lot.Dye a.lot.Stock a.known a.hold.Lot a.hold.Order a.hold.Reserved a.hold.Taken a.free n)) rfl ?_
 refine sg fol ((1,.i n)::(kT [])) (kC a.lot.Name a.lot.Yarn a.lot.Dye a.lot.Stock a.known a.hold.Lot a.hold.Order a.hold.Reserved a.hold.Taken a.free []) ?_
 refine sh fol [(4,.bool (decide (n<=a.hold.Taken)))] ?_
 refine Goes.ret ?_
 obtain rfl:=si h
 exact(gw2 [.bool (decide (n<=a.hold.Taken))] (Ub tB))
def xB (a:qc) (n:Int):Option qc:=
 some (⟨(⟨a.lot.Name,a.lot.Yarn,a.lot.Dye,w64 (a.lot.Stock+n)⟩:qj),a.known,(⟨a.hold.Lot,a.hold.Order,a.hold.Reserved,w64 (a.hold.Taken-n)⟩:qd),a.free⟩:qc)
theorem qce (a:qc) (n:Int) {res:qc} (h:xB a n=some res):qf ZT (.fn 142) (kAA a.lot.Name a.lot.Yarn a.lot.Dye a.lot.Stock a.known a.hold.Lot a.hold.Order a.hold.Reserved a.hold.Taken a.free n) [] (.agg (.str res.lot.Name::(kB res.lot.Yarn res.lot.Dye res.lot.Stock res.known res.hold.Lot res.hold.Order res.hold.Reserved res.hold.Taken res.free))) []:=by
 unfold xB at h
 refine Uc Tryz.func142 rfl rfl (m:=20) rfl (rs:=[.cell 4 182]) rfl (l:=(kW a.lot.Name a.lot.Yarn a.lot.Dye a.lot.Stock a.known a.hold.Lot a.hold.Order a.hold.Reserved a.hold.Taken a.free n)) rfl ?_
 refine sg fol ((1,.i n)::(kT (kAF []))) (kC a.lot.Name a.lot.Yarn a.lot.Dye a.lot.Stock a.known a.hold.Lot a.hold.Order a.hold.Reserved a.hold.Taken a.free (kK [])) ?_
 refine sg fol ((1,.i n)::(kT (kAF []))) (kC a.lot.Name a.lot.Yarn a.lot.Dye (w64 (a.lot.Stock+n)) a.known a.hold.Lot a.hold.Order a.hold.Reserved a.hold.Taken a.free (kK [])) ?_
 refine sg fol (kT (kAF [])) (kC a.lot.Name a.lot.Yarn a.lot.Dye (w64 (a.lot.Stock+n)) a.known a.hold.Lot a.hold.Order a.hold.Reserved (w64 (a.hold.Taken-n)) a.free (kK [])) ?_
 refine sg fol (kAF []) (kC a.lot.Name a.lot.Yarn a.lot.Dye (w64 (a.lot.Stock+n)) a.known a.hold.Lot a.hold.Order a.hold.Reserved (w64 (a.hold.Taken-n)) a.free (kC a.lot.Name a.lot.Yarn a.lot.Dye (w64 (a.lot.Stock+n)) a.known a.hold.Lot a.hold.Order a.hold.Reserved (w64 (a.hold.Taken-n)) a.free [])) ?_
 refine Goes.ret ?_
 obtain rfl:=si h
 exact(gw2 [.agg (.str a.lot.Name::(kB a.lot.Yarn a.lot.Dye (w64 (a.lot.Stock+n)) a.known a.hold.Lot a.hold.Order a.hold.Reserved (w64 (a.hold.Taken-n)) a.free))] (FzW.agg (qp.cons (Ub tS) (qp.cons (Ub tS) (qp.cons (Ub tS) (qp.cons (Ub tI) (qp.cons (Ub tB) (qp.cons (Ub tS) (qp.cons (Ub tS) (qp.cons (Ub tI) (qp.cons (Ub tI) (qp.cons (Ub tI) qp.nil))))))))))))
def vT:Option Unit:=
 some ()
theorem qN {res:Unit} (h:vT=some res):qf ZT (.fn 78) [] [] (fm1) []:=by
 unfold vT at h
 refine Uc Tryz.func78 rfl rfl (m:=8) rfl (rs:=[.tmp 0]) rfl (l:=[]) rfl ?_
 refine sh fol [] ?_
 refine sg fol [(0,.map 0)] [.map kAS [.agg [.func (.func 132) [] [],.func (.func 133) [] []],.agg [.func (.func 134) [] [],.func (.func 135) [] []],.agg [.func (.func 137) [] [],.func (.func 138) [] []],.agg [.func (.func 139) [] [],.func (.func 140) [] []],.agg [.func (.func 141) [] [],.func (.func 142) [] []]]] ?_
 refine Goes.ret ?_
 obtain rfl:=si h
 exact(gw2 [.map 0] (FzW.of (by kernel_rfl)))
def vP (N:Nat) (e:qh):Option Int:=
 ((vT).bind fun t=>
 if(e.Kind==[114,101,99,101,105,118,101])=true then
 some true
 else
 if(e.Kind==[114,101,115,101,114,118,101])=true then
 some true
 else
 if(e.Kind==[114,101,108,101,97,115,101])=true then
 some true
 else
 if(e.Kind==[116,97,107,101])=true then
 some true
 else
 if(e.Kind==[114,101,116,117,114,110])=true then
 some true
 else
 some false:Option Bool).bind fun p=>
 (zw (!p) 13).bind fun q=>
 (j5 e.Day 0 99999).bind fun f=>
 (j5 e.Amount 1 999999999).bind fun g=>
 (vU N e.Lot).bind fun h=>
 (zF N ([q,f,g,h]:List Int)).bind fun b=>
 if(!decide (b=0))=true then
 some b
 else
 if(e.Kind==[114,101,99,101,105,118,101])=true then
 (vU N e.Yarn).bind fun i=>
 (yP N e.Dye).bind fun j=>
 (zw (!(e.Order==[])) 1).bind fun k=>
 (zF N ([i,j,k]:List Int)).bind fun l=>
 some l
 else
 ((vU N e.Order).bind fun a=>
 if(!(e.Yarn==[]))=true then
 (zw true 1).bind fun c=>
 (zF N ([a,c]:List Int)).bind fun m=>
 some (a,c,m)
 else
 (zw (!(e.Dye==[])) 1).bind fun d=>
 (zF N ([a,d]:List Int)).bind fun n=>
 some (a,d,n):Option (Int×Int×Int)).bind fun(r,s,o)=>
 some o
theorem zW (N:Nat) (e:qh) {res:Int} (h:vP N e=some res):qf ZT (.fn 30) [.agg (kA e.Kind e.Day e.Lot e.Amount e.Yarn e.Dye e.Order)] [] (.i res) []:=by
 unfold vP at h
 refine Uc Tryz.func30 rfl rfl (m:=59) rfl (rs:=[.tmp 2]) rfl (l:=[(0,.agg [.str e.Kind,.i e.Day,.str e.Lot,.i e.Amount,.str e.Yarn,.str e.Dye,.str e.Order])]) rfl ?_
 refine sg fol (kV []) (kM e.Kind e.Day e.Lot e.Amount e.Yarn e.Dye e.Order []) ?_
 refine sq ?_
 obtain⟨Y,a,h⟩:=bnd h
 refine Goes.cutS (s':=(ofG 59 (kV [(4,.bool Y)]),(kM e.Kind e.Day e.Lot e.Amount e.Yarn e.Dye e.Order []))) ?_ ?_
 ·obtain⟨Z,g,a⟩:=bnd a
  rcases wyB a with⟨u,a⟩|⟨u,a⟩
  ·obtain rfl:=si a
   exact zu.sub (zu.rq fol [0,3] (kV kAm) (kM e.Kind e.Day e.Lot e.Amount e.Yarn e.Dye e.Order [.cells [.func (.func 132) [] [],.func (.func 133) [] []]]) (ac (cv (qN g)) (ac (hs (.done (zU ZT 143 (fm1) (.str e.Kind) true) (.tuple [.agg [.func (.func 132) [] [],.func (.func 133) [] []],.bool true])) (qfC qaY [[114,101,99,101,105,118,101],[114,101,115,101,114,118,101],[114,101,108,101,97,115,101],[116,97,107,101],[114,101,116,117,114,110]] (jo u) rfl)) az))) (Sub.norm [] [some 0] rfl rfl (.kp (.keep (.same nB) .nil)) (.kb rfl (.same sn) .nil))
  rcases wyB a with⟨J,a⟩|⟨J,a⟩
  ·obtain rfl:=si a
   exact zu.sub (zu.rq fol [0,3] (kV kAm) (kM e.Kind e.Day e.Lot e.Amount e.Yarn e.Dye e.Order [.cells [.func (.func 134) [] [],.func (.func 135) [] []]]) (ac (cv (qN g)) (ac (hs (.done (zU ZT 143 (fm1) (.str e.Kind) true) (.tuple [.agg [.func (.func 134) [] [],.func (.func 135) [] []],.bool true])) (qfC qaY [[114,101,99,101,105,118,101],[114,101,115,101,114,118,101],[114,101,108,101,97,115,101],[116,97,107,101],[114,101,116,117,114,110]] (qw u (jo J)) rfl)) az))) (Sub.norm [] [some 0] rfl rfl (.kp (.keep (.same nB) .nil)) (.kb rfl (.same sn) .nil))
  rcases wyB a with⟨K,a⟩|⟨K,a⟩
  ·obtain rfl:=si a
   exact zu.sub (zu.rq fol [0,3] (kV kAm) (kM e.Kind e.Day e.Lot e.Amount e.Yarn e.Dye e.Order [.cells [.func (.func 137) [] [],.func (.func 138) [] []]]) (ac (cv (qN g)) (ac (hs (.done (zU ZT 143 (fm1) (.str e.Kind) true) (.tuple [.agg [.func (.func 137) [] [],.func (.func 138) [] []],.bool true])) (qfC qaY [[114,101,99,101,105,118,101],[114,101,115,101,114,118,101],[114,101,108,101,97,115,101],[116,97,107,101],[114,101,116,117,114,110]] (qw u (qw J (jo K))) rfl)) az))) (Sub.norm [] [some 0] rfl rfl (.kp (.keep (.same nB) .nil)) (.kb rfl (.same sn) .nil))
  rcases wyB a with⟨Q,a⟩|⟨Q,a⟩
  ·obtain rfl:=si a
   exact zu.sub (zu.rq fol [0,3] (kV kAm) (kM e.Kind e.Day e.Lot e.Amount e.Yarn e.Dye e.Order [.cells [.func (.func 139) [] [],.func (.func 140) [] []]]) (ac (cv (qN g)) (ac (hs (.done (zU ZT 143 (fm1) (.str e.Kind) true) (.tuple [.agg [.func (.func 139) [] [],.func (.func 140) [] []],.bool true])) (qfC qaY [[114,101,99,101,105,118,101],[114,101,115,101,114,118,101],[114,101,108,101,97,115,101],[116,97,107,101],[114,101,116,117,114,110]] (qw u (qw J (qw K (jo Q)))) rfl)) az))) (Sub.norm [] [some 0] rfl rfl (.kp (.keep (.same nB) .nil)) (.kb rfl (.same sn) .nil))
  rcases wyB a with⟨T,a⟩|⟨T,a⟩
  ·obtain rfl:=si a
   exact zu.sub (zu.rq fol [0,3] (kV kAm) (kM e.Kind e.Day e.Lot e.Amount e.Yarn e.Dye e.Order [.cells [.func (.func 141) [] [],.func (.func 142) [] []]]) (ac (cv (qN g)) (ac (hs (.done (zU ZT 143 (fm1) (.str e.Kind) true) (.tuple [.agg [.func (.func 141) [] [],.func (.func 142) [] []],.bool true])) (qfC qaY [[114,101,99,101,105,118,101],[114,101,115,101,114,118,101],[114,101,108,101,97,115,101],[116,97,107,101],[114,101,116,117,114,110]] (qw u (qw J (qw K (qw Q (jo T))))) rfl)) az))) (Sub.norm [] [some 0] rfl rfl (.kp (.keep (.same nB) .nil)) (.kb rfl (.same sn) .nil))
  obtain rfl:=si a
  exact zu.sub (zu.rq fol [0,3] (kV kAY) (kM e.Kind e.Day e.Lot e.Amount e.Yarn e.Dye e.Order [.cells [.nilfunc,.nilfunc]]) (ac (cv (qN g)) (ac (hs (.done (zU ZT 143 (fm1) (.str e.Kind) true) (.tuple [.agg [.nilfunc,.nilfunc],.bool false])) (qlK qaY [[114,101,99,101,105,118,101],[114,101,115,101,114,118,101],[114,101,108,101,97,115,101],[116,97,107,101],[114,101,116,117,114,110]] (qw u (qw J (qw K (qw Q (qw T (rfl)))))))) az))) (Sub.norm [] [some 0] rfl rfl (.kp (.keep (.same nB) .nil)) (.kb rfl (.same sn) .nil))
 intro _ hsub
 refine Goes.sub hsub ?_
 refine sq ?_
 obtain⟨n,L,h⟩:=bnd h
 obtain⟨c,v,h⟩:=bnd h
 obtain⟨d,w,h⟩:=bnd h
 obtain⟨f,x,h⟩:=bnd h
 obtain⟨k,y,h⟩:=bnd h
 refine sq (gq fol [2,5,8,11,13] (kV (kAd k)) (kM e.Kind e.Day e.Lot e.Amount e.Yarn e.Dye e.Order [.cells [.i n,.i c,.i d,.i f]]) (ac (cv (qM (!Y) 13 L)) (ac (cv (jF e.Day 0 99999 v)) (ac (cv (jF e.Amount 1 999999999 w)) (ac (cv (ve N e.Lot x)) (ac (hs (.call 50 [.slice 1 0 4 4 1] (kM e.Kind e.Day e.Lot e.Amount e.Yarn e.Dye e.Order [.cells [.i n,.i c,.i d,.i f]]) [1] [vl encI ([n,c,d,f]:List Int)] (.i k)) (jl (FzL.cons (Fz.lit rfl rfl (Ue (AllST.cons tI (AllST.cons tI (AllST.cons tI (AllST.cons tI AllST.nil)))))) FzL.nil) (zQ N ([n,c,d,f]:List Int) y) tI rfl)) az))))) ?_)
 refine sh fol (kV [(5,.i k),(28,.bool (!decide (k=0)))]) ?_
 refine ihB h (fun U h=>?_) (fun U h=>?_)
 ·refine sh fol (kAu k) ?_
  refine Goes.ret ?_
  obtain rfl:=si h
  exact(gw2 [.i k] (Ub tI))
 refine Goes.skip ?_
 refine sq ?_
 refine sh fol (kV [(32,.bool (e.Kind==[114,101,99,101,105,118,101]))]) ?_
 refine ihB h (fun V h=>?_) (fun V h=>?_)
 ·obtain⟨p,z,h⟩:=bnd h
  obtain⟨q,A,h⟩:=bnd h
  obtain⟨r,B,h⟩:=bnd h
  obtain⟨C,D,h⟩:=bnd h
  refine sq (gq fol [2,5,9,11] (kAu C) (kM e.Kind e.Day e.Lot e.Amount e.Yarn e.Dye e.Order [.cells [.i n,.i c,.i d,.i f],.cells [.i p,.i q,.i r]]) (ac (cv (ve N e.Yarn z)) (ac (cv (qb4 N e.Dye A)) (ac (cv (qM (!(e.Order==[])) 1 B)) (ac (hs (.call 50 [.slice 2 0 3 3 1] (kM e.Kind e.Day e.Lot e.Amount e.Yarn e.Dye e.Order [.cells [.i n,.i c,.i d,.i f],.cells [.i p,.i q,.i r]]) [2] [vl encI ([p,q,r]:List Int)] (.i C)) (jl (FzL.cons (Fz.lit rfl rfl (Ue (AllST.cons tI (AllST.cons tI (AllST.cons tI AllST.nil))))) FzL.nil) (zQ N ([p,q,r]:List Int) D) tI rfl)) az)))) ?_)
  refine Goes.ret ?_
  obtain rfl:=si h
  exact(gw2 [.i C] (Ub tI))
 refine Goes.skip ?_
 refine sq ?_
 obtain⟨⟨W,X,M⟩,b,h⟩:=bnd h
 refine Goes.cut (s':=(ofG 59 (kAu M),(kM e.Kind e.Day e.Lot e.Amount e.Yarn e.Dye e.Order (.cells [.i n,.i c,.i d,.i f]::(kAR W X))))) ?_ ?_
 ·obtain⟨j,o,b⟩:=bnd b
  rcases wyB b with⟨E,b⟩|⟨E,b⟩
  ·obtain⟨s,F,b⟩:=bnd b
   obtain⟨O,G,b⟩:=bnd b
   simp only[ZI,ZP]at b
   obtain⟨rfl,rfl,rfl⟩:=b
   exact zu.rq fol [2,6,11,13] (kAu O) (kM e.Kind e.Day e.Lot e.Amount e.Yarn e.Dye e.Order (.cells [.i n,.i c,.i d,.i f]::(kAR j s))) (ac (cv (ve N e.Order o)) (ac (gw E) (ac (cv (qM true 1 F)) (ac (hs (.call 50 [.slice 2 0 2 2 1] (kM e.Kind e.Day e.Lot e.Amount e.Yarn e.Dye e.Order (.cells [.i n,.i c,.i d,.i f]::(kAR j s))) [2] [vl encI ([j,s]:List Int)] (.i O)) (jl (FzL.cons (Fz.lit rfl rfl (Ue (AllST.cons tI (AllST.cons tI AllST.nil)))) FzL.nil) (zQ N ([j,s]:List Int) G) tI rfl)) az))))
  obtain⟨t,H,b⟩:=bnd b
  obtain⟨P,I,b⟩:=bnd b
  simp only[ZI,ZP]at b
  obtain⟨rfl,rfl,rfl⟩:=b
  exact zu.rq fol [2,6,11,13] (kAu P) (kM e.Kind e.Day e.Lot e.Amount e.Yarn e.Dye e.Order (.cells [.i n,.i c,.i d,.i f]::(kAR j t))) (ac (cv (ve N e.Order o)) (ac (gw E) (ac (cv (qM (!(e.Dye==[])) 1 H)) (ac (hs (.call 50 [.slice 2 0 2 2 1] (kM e.Kind e.Day e.Lot e.Amount e.Yarn e.Dye e.Order (.cells [.i n,.i c,.i d,.i f]::(kAR j t))) [2] [vl encI ([j,t]:List Int)] (.i P)) (jl (FzL.cons (Fz.lit rfl rfl (Ue (AllST.cons tI (AllST.cons tI AllST.nil)))) FzL.nil) (zQ N ([j,t]:List Int) I) tI rfl)) az))))
 try dsimp only at h
 refine Goes.ret ?_
 obtain rfl:=si h
 exact(gw2 [.i M] (Ub tI))
def jN (l:qj) (name:Str):Option Int:=
 (qiC l.Name name).bind fun a=>
 some a
theorem qaQ (l:qj) (name:Str) {res:Int} (h:jN l name=some res):qf ZT (.fn 144) (kAn l.Name l.Yarn l.Dye l.Stock [.str name]) [] (.i res) []:=by
 unfold jN at h
 refine Uc Tryz.func144 rfl rfl (m:=9) rfl (rs:=[.tmp 4]) rfl (l:=[(0,.agg [.str l.Name,.str l.Yarn,.str l.Dye,.i l.Stock]),(1,.str name)]) rfl ?_
 refine sg fol ((1,.str name)::(kT [])) (kP l.Name l.Yarn l.Dye l.Stock []) ?_
 obtain⟨b,a,h⟩:=bnd h
 refine sq (gr fol [3] (kAs b) (ac (cv (qgK l.Name name a)) az) ?_)
 refine Goes.ret ?_
 obtain rfl:=si h
 exact(gw2 [.i b] (Ub tI))
def qz (b:List qj) (c:Str):Nat->Int->Int->Option Int
 |0,_,_=>none
 |K+1,d,a=>
  if a<d then
  (((idx b (w64 (qh4 .u64 (IntKind.wrap .u64 (w64 (a+d))) 1))).bind fun f=>
  (jN f c).bind fun e=>
  if e<0 then
  some (w64 ((w64 (qh4 .u64 (IntKind.wrap .u64 (w64 (a+d))) 1))+1),d)
  else
  some (a,w64 (qh4 .u64 (IntKind.wrap .u64 (w64 (a+d))) 1)):Option (Int×Int))).bind fun(g,h)=>
  qz b c K h g
  else
  some a
def za (N:Nat) (a:List qj) (b:Str):Option (Int×Bool):=
 (qz a b N (a.length:Int) 0).bind fun c=>
 (if c<(a.length:Int)then
 (idx a c).bind fun d=>
 (jN d b).bind fun e=>
 some (decide (e=0))
 else
 some false:Option Bool).bind fun f=>
 some (c,f)
theorem xq (N:Nat) (a:List qj) (c:Str) {res:Int×Bool} (h:za N a c=some res):qf ZT (.fn 143) [vl qb a,.str c,.func (.func 144) [] []] [] (.tuple [.i res.1,.bool res.2]) []:=by
 unfold za at h
 refine Uc Tryz.func143 rfl rfl (m:=49) rfl (rs:=[.tmp 6,.tmp 7]) rfl (l:=(kAB a [(1,.str c),(2,.func (.func 144) [] [])])) rfl ?_
 refine sh fol (kAB a [(1,.str c),(2,.func (.func 144) [] [])]) ?_
 refine sh fol (kAB a [(1,.str c),(2,.func (.func 144) [] []),(8,.i (a.length:Int))]) ?_
 refine sh fol (kAB a [(1,.str c),(2,.func (.func 144) [] []),(8,.i (a.length:Int)),(9,.i 0),(10,.i (a.length:Int))]) ?_
 refine sq (Goes.block ?_)
 obtain⟨y,g4,h⟩:=bnd h
 refine Goes.imp (Q:=fun x s'=>(x= .exit 0/\ ∃j,j=y/\Sub s' (ofG 49 (kAB a [(1,.str c),(2,.func (.func 144) [] []),(8,.i (a.length:Int)),(9,.i j)]),[]))) ?_ ?_
 ·refine Ud (fun M s=> ∃(d:Int) (e:Int),s=(ofG 49 (kAB a ((1,.str c)::(2,.func (.func 144) [] [])::(kAr (a.length:Int) e d []))),[])/\qz a c M d e=some y) ?_ (m:=N) ⟨_,_,rfl,g4⟩
  rintro M s ⟨d,e,rfl,g4⟩
  cases M with
  |zero=>simp only[qz]at g4;cases g4
  |succ M=>
   rw[qz]at g4
   refine sq ?_
   refine sh fol (kAB a ((1,.str c)::(2,.func (.func 144) [] [])::(kAr (a.length:Int) e d [(17,.bool (decide (e<d)))]))) ?_
   refine ihD g4 (fun z g4=>?_) (fun z g4=>?_)
   ·refine Goes.skip ?_
    obtain⟨A,g8,g4⟩:=bnd g4
    refine Goes.imp (Q:=fun x s'=>(x= .normal/\ ∃q r,(q,r)=A/\Sub s' (ofG 49 (kAB a ((1,.str c)::(2,.func (.func 144) [] [])::(kAr (a.length:Int) q r []))),[]))) ?_ ?_
    ·refine Goes.block ?_
     refine sh fol (kAB a ((1,.str c)::(2,.func (.func 144) [] [])::(kAr (a.length:Int) e d [(11,.i (w64 (qh4 .u64 (IntKind.wrap .u64 (w64 (e+d))) 1)))]))) ?_
     obtain⟨B,g,g8⟩:=bnd g8
     obtain⟨t,k,g8⟩:=bnd g8
     refine sq (gr fol [3,4,6] (kAB a ((1,.str c)::(2,.func (.func 144) [] [])::(kAr (a.length:Int) e d [(11,.i (w64 (qh4 .u64 (IntKind.wrap .u64 (w64 (e+d))) 1))),(31,.bool (decide (t<0)))]))) (ac (iv qgg qb g) (ac (la qiL qb g) (ac (cv (qaQ B c k)) az))) ?_)
     refine ihD g8 (fun u g8=>?_) (fun u g8=>?_)
     ·refine gh fol (kAB a ((1,.str c)::(2,.func (.func 144) [] [])::(kAr (a.length:Int) (w64 ((w64 (qh4 .u64 (IntKind.wrap .u64 (w64 (e+d))) 1))+1)) d []))) ?_
      obtain rfl:=si g8
      exact⟨rfl,_,_,rfl,(Sub.refl _)⟩
     refine gh fol (kAB a ((1,.str c)::(2,.func (.func 144) [] [])::(kAr (a.length:Int) e (w64 (qh4 .u64 (IntKind.wrap .u64 (w64 (e+d))) 1)) []))) ?_
     obtain rfl:=si g8
     exact⟨rfl,_,_,rfl,(Sub.refl _)⟩
    rintro x s' ⟨rfl,q,r,rfl,hsub⟩
    try dsimp only at g4
    exact⟨M,(ofG 49 (kAB a ((1,.str c)::(2,.func (.func 144) [] [])::(kAr (a.length:Int) q r []))),[]),Nat.lt_succ_self _,(hsub.trans (Sub.refl _)),_,_,rfl,g4⟩
   refine Goes.exit ?_
   obtain rfl:=si g4
   exact⟨rfl,_,rfl,(Sub.keep [0,1,2,8,9] rfl rfl)⟩
 rintro x s' ⟨rfl,j,rfl,hsub⟩
 refine Goes.sub hsub ?_
 refine sq ?_
 obtain⟨p,b,h⟩:=bnd h
 refine Goes.cut (s':=(ofG 49 [(6,.i j),(7,.bool p)],[])) ?_ ?_
 ·rcases wyD b with⟨n,b⟩|⟨n,b⟩
  ·obtain⟨v,f,b⟩:=bnd b
   obtain⟨w,o,b⟩:=bnd b
   obtain rfl:=si b
   exact tr fol [4,8,9,11] [(6,.i j),(7,.bool (decide (w=0)))] (ac (gw n) (ac (iv qgg qb f) (ac (la qiL qb f) (ac (cv (qaQ v c o)) az))))
  obtain rfl:=si b
  exact tr fol [4] [(6,.i j),(7,.bool false)] (ac (gw n) az)
 refine Goes.ret ?_
 obtain rfl:=si h
 exact(gw2 [.i j,.bool p] (FzW.tuple (qp.cons (Ub tI) (qp.cons (Ub tB) qp.nil))))
def jG (N:Nat) (b:qm) (name:Str):Option (Int×Bool):=
 (za N b.Lots name).bind fun a=>
 some (a.1,a.2)
theorem qbQ (N:Nat) (a:qm) (name:Str) {res:Int×Bool} (h:jG N a name=some res):qf ZT (.fn 80) (kX a.Day a.Lots a.Holds [.str name]) [] (.tuple [.i res.1,.bool res.2]) []:=by
 unfold jG at h
 refine Uc Tryz.func80 rfl rfl (m:=12) rfl (rs:=[.tmp 4,.tmp 5]) rfl (l:=(kS a.Day a.Lots a.Holds [(1,.str name)])) rfl ?_
 refine sg fol ((1,.str name)::(kT [])) (kE a.Day a.Lots a.Holds []) ?_
 obtain⟨b,c,h⟩:=bnd h
 refine sq (gr fol [3] [(4,.i b.1),(5,.bool b.2)] (ac (hs (.call 143 [vl qb a.Lots,.str name,.func (.func 144) [] []] [] [] [vl qb a.Lots,.str name,.func (.func 144) [] []] (.tuple [.i b.1,.bool b.2])) (qE (FzL.cons (Ua (qg qb _ (nl rfl))) (FzL.cons (Ua tS) (FzL.cons (Fz.func FzL.nil FzL.nil) FzL.nil))) (xq N a.Lots name c) (Still.tuple (AllST.cons tI (AllST.cons tB AllST.nil))))) az) ?_)
 refine Goes.ret ?_
 obtain rfl:=si h
 exact(gw2 [.i b.1,.bool b.2] (FzW.tuple (qp.cons (Ub tI) (qp.cons (Ub tB) qp.nil))))
def j6 (a:qd):Option KeyT:=
 some (⟨a.Lot,a.Order⟩:KeyT)
theorem xk (a:qd) {res:KeyT} (h:j6 a=some res):qf ZT (.fn 125) [.agg (kAo a.Lot a.Order a.Reserved a.Taken)] [] (.agg [.str res.lot,.str res.order]) []:=by
 unfold j6 at h
 refine Uc Tryz.func125 rfl rfl (m:=8) rfl (rs:=[.cell 2 190]) rfl (l:=(kAy a.Lot a.Order a.Reserved a.Taken [])) rfl ?_
 refine sg fol (kV [(2,.ptr 1 0)]) (kJ a.Lot a.Order a.Reserved a.Taken [.cells [.str [],.str []]]) ?_
 refine sg fol [(2,.ptr 1 0)] (kJ a.Lot a.Order a.Reserved a.Taken [.cells [.str a.Lot,.str a.Order]]) ?_
 refine Goes.ret ?_
 obtain rfl:=si h
 exact(gw2 [.agg [.str a.Lot,.str a.Order]] (FzW.agg (qp.cons (Ub tS) (qp.cons (Ub tS) qp.nil))))
end Go.Av
