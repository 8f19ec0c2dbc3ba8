/-
  Walks of functions: what each computes, as a plain function.
-/
import Derived.Test.YtcnioemfifogeaaGreatDoorAvJnQ3
noncomputable section
namespace Go.Av
open Go.Proofs Go.RowKit
abbrev ZT:=Tryz.prog
set_option linter.unusedSectionVars false
set_option linter.unusedVariables false
set_option linter.unusedSimpArgs false
set_option maxRecDepth 100000
theorem fol:Tryz.prog.follows .mixedOrders=true:=by kernel_rfl
structure qb where
 Kind:Str
 Day:Int
 Lot:Str
 Amount:Int
 Yarn:Str
 Dye:Str
 Order:Str
def ql:Enc qb:=(encS.prod (encI.prod (encS.prod (encI.prod (encS.prod (encS.prod encS)))))).comap fun x=>(x.Kind,x.Day,x.Lot,x.Amount,x.Yarn,x.Dye,x.Order)
instance:SE ql:=⟨nl rfl⟩
structure qB where
 Name:Str
 Yarn:Str
 Dye:Str
 Stock:Int
def qo:Enc qB:=(encS.prod (encS.prod (encS.prod encI))).comap fun x=>(x.Name,x.Yarn,x.Dye,x.Stock)
instance:SE qo:=⟨nl rfl⟩
instance:SE (qjT qo):=⟨nl rfl⟩
structure qf where
 Lot:Str
 Order:Str
 Reserved:Int
 Taken:Int
def qg:Enc qf:=(encS.prod (encS.prod (encI.prod encI))).comap fun x=>(x.Lot,x.Order,x.Reserved,x.Taken)
instance:SE qg:=⟨nl rfl⟩
instance:SE (qjT qg):=⟨nl rfl⟩
structure qa where
 lot:qB
 known:Bool
 hold:qf
 free:Int
def qnx:Enc qa:=(qo.prod (encB.prod (qg.prod encI))).comap fun x=>(x.lot,x.known,x.hold,x.free)
instance:SE qnx:=⟨nl rfl⟩
structure StateT where
 Day:Int
 Lots:List qB
 Holds:List qf
def qpq:Enc StateT:=(encI.prod ((qjT qo).prod (qjT qg))).comap fun x=>(x.Day,x.Lots,x.Holds)
instance:SE qpq:=⟨nl rfl⟩
structure KeyT where
 lot:Str
 order:Str
def qsi:Enc KeyT:=(encS.prod encS).comap fun x=>(x.lot,x.order)
instance:SE qsi:=⟨nl rfl⟩
structure ku where
 Number:Int
 Rule:Int
def qG:Enc ku:=(encI.prod encI).comap fun x=>(x.Number,x.Rule)
instance:SE qG:=⟨nl rfl⟩
structure qL where
 Day:Int
 Lots:List qB
 Holds:List qf
def qnZ:Enc qL:=(encI.prod ((qjT qo).prod (qjT qg))).comap fun x=>(x.Day,x.Lots,x.Holds)
instance:SE qnZ:=⟨nl rfl⟩
abbrev kA (a:Str) (b:Int) (c:Str) (d:Int) (e:Str) (f:Str) (g:Str):List AV:=[.str a,.i b,.str c,.i d,.str e,.str f,.str g]
abbrev kB (a:Str) (b:Str) (c:Int) (d:Bool) (e:Str) (f:Str) (g:Int) (h:Int) (i:Int):List AV:=[.str a,.str b,.i c,.bool d,.str e,.str f,.i g,.i h,.i i]
abbrev kC (a:Str) (b:Str) (c:Str) (d:Int) (e:Bool) (f:Str) (g:Str) (h:Int) (i:Int) (j:Int) (x:List Blk):List Blk:= .cells [.str a,.str b,.str c,.i d,.bool e,.str f,.str g,.i h,.i i,.i j]::x
abbrev kD (a:Int) (b:List qB) (c:List qf) (x:List Blk):List Blk:= .cells [.i a,vl qo b,vl qg c]::x
abbrev kE (a:Str) (b:Int) (c:Str) (d:Int) (e:Str) (f:Str) (g:Str) (x:List Blk):List Blk:= .cells [.str a,.i b,.str c,.i d,.str e,.str f,.str g]::x
abbrev kF (x:List Blk):List Blk:= .cells [.i 0,.nilslice,.nilslice]::x
abbrev kG (x:List (Nat×AV)):List (Nat×AV):=(2,.ptr 0 0)::(3,.ptr 1 0)::x
abbrev kH (a:Int) (b:List qB) (c:List qf):List AV:=[.i a,vl qo b,vl qg c]
abbrev kI (a:List qf) (x:List Blk):List Blk:= .cells (a.flatMap qg.c)::x
abbrev kJ (a:List qb) (b:Int) (x:List Blk):List Blk:= .cells (a.flatMap ql.c):: .cells [.i b]::x
abbrev kK (a:Str) (b:Str) (c:Int) (d:Int) (x:List Blk):List Blk:= .cells [.str a,.str b,.i c,.i d]::x
abbrev kL (x:List Blk):List Blk:= .cells [.str [],.str [],.str [],.i 0,.bool false,.str [],.str [],.i 0,.i 0,.i 0]::x
abbrev kM (a:Int) (b:Bool):List (Nat×AV):=[(5,.i a),(7,.i 5),(8,.i a),(16,.bool b)]
abbrev kN (x:List (Nat×AV)):List (Nat×AV):=(2,.ptr 0 0)::(4,.ptr 1 0)::x
abbrev kO (a:List qb) (x:List (Nat×AV)):List (Nat×AV):=(0,vl ql a)::x
abbrev kP (a:Int) (x:List (Nat×AV)):List (Nat×AV):=(2,.i a)::(3,.ptr 0 0)::(4,.ptr 1 0)::(6,.ptr 2 0)::x
abbrev kQ (a:List qB) (x:List Blk):List Blk:= .cells (a.flatMap qo.c)::x
abbrev kR (a:Int) (b:List qb) (c:List ku) (d:Int) (e:Int) (x:List (Nat×AV)):List (Nat×AV):=(1,.i a)::(5,vl ql b)::(6,.ptr 0 0)::(7,vl qG c)::(8,.i d)::(9,.ptr 1 0)::(10,.i e)::x
abbrev kS {α0:Type} (a:List α0) (x:List (Nat×AV)):List (Nat×AV):=(0,.gslice 0 a.length 4)::x
abbrev kT {α0:Type} (a:List α0) (x:List (Nat×AV)):List (Nat×AV):=(0,.gslice 0 a.length 7)::x
abbrev kU (a:Str) (b:Str) (c:Str) (d:Int) (x:List Blk):List Blk:= .cells [.str a,.str b,.str c,.i d]::x
abbrev kV (a:Int) (b:List qB) (c:List qf) (x:List AV):List AV:= .agg [.i a,vl qo b,vl qg c]::x
abbrev kW {α0:Type} (a:List α0) (b:Bool) (c:Int) (x:List (Nat×AV)):List (Nat×AV):=(4,.ptr 2 0)::(5,.gslice 3 a.length 4)::(6,.bool b)::(7,.i c)::x
abbrev kX (a:Str) (b:Str) (c:Str) (d:Int) (e:Bool) (f:Str) (g:Str) (h:Int) (i:Int) (j:Int) (k:Int):List (Nat×AV):=[(0,.agg [.str a,.str b,.str c,.i d,.bool e,.str f,.str g,.i h,.i i,.i j]),(1,.i k)]
abbrev kY (a:Int) (b:Int):List (Nat×AV):=[(5,.i a),(6,.i b)]
abbrev kZ (x:List (Nat×AV)):List (Nat×AV):=(4,.ptr 2 0)::(5,.ptr 3 0)::x
abbrev kAA (a:List qb):List Blk:=[.cells (a.flatMap ql.c)]
abbrev kAB (a:List ku) (b:List ku) (x:List (Nat×AV)):List (Nat×AV):=(7,vl qG a)::(15,vl qG b)::x
abbrev kAC (a:Str) (b:Str) (c:Str) (d:Int) (e:Bool) (f:Str) (g:Str) (h:Int) (i:Int) (j:Int) (k:Int):List AV:=[.agg [.str a,.str b,.str c,.i d,.bool e,.str f,.str g,.i h,.i i,.i j],.i k]
abbrev kAD (a:Int) (b:List qB) (c:List qf) (x:List (Nat×AV)):List (Nat×AV):=(0,.agg [.i a,vl qo b,vl qg c])::x
abbrev kAE (a:List ku) (x:List Blk):List Blk:= .cells (a.flatMap qG.c)::x
abbrev kAF (a:Str) (b:Int) (c:Str) (d:Int) (e:Str) (f:Str) (g:Str) (x:List AV):List AV:= .agg [.str a,.i b,.str c,.i d,.str e,.str f,.str g]::x
abbrev kAG (a:List qB) (b:Int) (x:List (Nat×AV)):List (Nat×AV):=(1,.ptr 0 0)::(2,.ptr 1 0)::(3,.ptr 2 0)::(12,vl qo a)::(13,.i b)::x
abbrev kAH {α0:Type} (a:List α0) (b:Bool) (c:Int) (x:List (Nat×AV)):List (Nat×AV):=(7,.gslice 3 a.length 4)::(8,.bool b)::(9,.i c)::(10,.ptr 4 0)::x
abbrev kAI (x:List (Nat×AV)):List (Nat×AV):=(2,.ptr 0 0)::x
abbrev kAJ {α2:Type} (a:Int) (b:List qB) (c:List α2) (x:List Blk):List Blk:= .cells [.i a,vl qo b,.gslice 2 c.length 4]::x
abbrev kAK (a:Str) (b:Str) (x:List (Nat×AV)):List (Nat×AV):=(1,.str a)::(2,.str b)::(3,.ptr 0 0)::(6,.ptr 1 0)::x
abbrev kAL (x:List (Nat×AV)):List (Nat×AV):=(5,.ptr 2 0)::(6,.ptr 3 0)::x
abbrev kAM (a:Int):List (Nat×AV):=[(7,.i 5),(8,.i a)]
abbrev kAN {α0:Type} (a:List α0) (x:List (Nat×AV)):List (Nat×AV):=(5,.gslice 2 a.length 2)::x
abbrev kAO {α1:Type} {α2:Type} (a:Int) (b:List α1) (c:List α2) (x:List Blk):List Blk:= .cells [.i a,.gslice 2 b.length 4,.gslice 3 c.length 4]::x
abbrev kAP (a:Int) (b:Int) (x:List Blk):List Blk:= .cells [.i a,.i b]::x
abbrev kAQ {α1:Type} (a:Int) (b:List α1) (x:List Blk):List Blk:= .cells [.i a,.gslice 4 b.length 4,.nilslice]::x
abbrev kAR (a:Int) (b:Int):List (Nat×AV):=[(7,.i a),(8,.i b)]
abbrev kAS (a:Str) (b:Str) (c:Int) (d:Int) (x:List AV):List AV:= .agg [.str a,.str b,.i c,.i d]::x
abbrev kAT (a:List qb) (b:Int) (c:Int) (x:List (Nat×AV)):List (Nat×AV):=(9,vl ql a)::(10,.i b)::(11,.i c)::x
abbrev kAU (a:List Int) (b:Int) (c:Int) (x:List (Nat×AV)):List (Nat×AV):=(5,vl encI a)::(6,.i b)::(7,.i c)::x
abbrev kAV {α2:Type} (a:Int) (b:List qB) (c:List α2) (x:List Blk):List Blk:= .cells [.i a,vl qo b,.oslice 2 c.length 4]::x
abbrev kAW (x:List (Nat×AV)):List (Nat×AV):=(1,.ptr 0 0)::x
abbrev kAX (a:List qB) (b:Str) (x:List (Nat×AV)):List (Nat×AV):=(0,vl qo a)::(1,.str b)::x
abbrev kAY (a:Int):List (Nat×AV):=[(5,.i a)]
abbrev kAZ:List AV:=[.str [114,101,99,101,105,118,101],.str [114,101,115,101,114,118,101],.str [114,101,108,101,97,115,101],.str [116,97,107,101],.str [114,101,116,117,114,110]]
abbrev kAa (a:Int) (b:List qB) (x:List Blk):List Blk:= .cells [.i a,vl qo b,.nilslice]::x
abbrev kAb:List (Nat×AV):=[(4,.ptr 0 0),(6,.ptr 1 0)]
abbrev kAc (a:Bool):List (Nat×AV):=[(2,.bool a)]
abbrev kAd (a:Str) (x:List (Nat×AV)):List (Nat×AV):=(0,.str a)::(6,.ptr 0 0)::x
abbrev kAe (a:Str) (b:Int) (c:List qf) (d:Int) (e:Int) (x:List (Nat×AV)):List (Nat×AV):=(1,.str a)::(5,.i b)::(9,vl qg c)::(10,.i d)::(11,.i e)::x
abbrev kAf (x:List (Nat×AV)):List (Nat×AV):=(4,.ptr 1 0)::x
abbrev kAg (a:Str) (b:Int) (x:List (Nat×AV)):List (Nat×AV):=(0,.str a)::(3,.i b)::x
abbrev kAh:List (Nat×AV):=[(2,.bool false)]
abbrev kAi (a:Int) (b:Int) (c:List ku) (x:List (Nat×AV)):List (Nat×AV):=(11,.i a)::(12,.i b)::(13,.ptr 2 0)::(14,.ptr 3 0)::(15,vl qG c)::x
abbrev kAj {α1:Type} (a:Int) (b:List α1) (x:List Blk):List Blk:= .cells [.i a,.gslice 3 b.length 4,.nilslice]::x
abbrev kAk:List Blk:=[.cells [.str [],.str [],.i 0,.i 0]]
abbrev kAl (a:List qb) (b:Int) (c:Int) (x:List (Nat×AV)):List (Nat×AV):=(14,vl ql a)::(15,.i b)::(16,.i c)::x
abbrev kAm (x:List (Nat×AV)):List (Nat×AV):=(4,.ptr 2 0)::x
abbrev kAn (a:List qf) (x:List (Nat×AV)):List (Nat×AV):=(0,vl qg a)::x
abbrev kAo (a:Int) (b:Int) (x:List (Nat×AV)):List (Nat×AV):=(5,.i a)::(6,.i b)::(7,.ptr 2 0)::x
abbrev kAp:List Blk:=[.cells [.i 0,vl qo ([]:List qB),vl qg ([]:List qf)],.cells (([]:List ku).flatMap qG.c)]
abbrev kAq {α1:Type} (a:Int) (b:List α1) (c:Int) (x:List (Nat×AV)):List (Nat×AV):=(1,.i a)::(5,.gslice 0 b.length 7)::(6,.i c)::x
abbrev kAr (a:Int) (b:Bool):List (Nat×AV):=[(8,.i a),(9,.bool b)]
abbrev kAs:List (Nat×AV):=[(102,.bool false)]
abbrev kAt:List (Nat×AV):=[(4,.bool false)]
abbrev kAu (a:List qf) (b:Int) (x:List (Nat×AV)):List (Nat×AV):=(26,vl qg a)::(27,.i b)::x
abbrev kAv:List (Nat×AV):=[(4,.bool true)]
abbrev kAw (a:Int) (b:Int) (x:List (Nat×AV)):List (Nat×AV):=(11,.i a)::(12,.i b)::(13,.ptr 3 0)::(14,.ptr 4 0)::x
abbrev kAx (a:Str) (b:Int) (c:Str) (d:Int) (e:Str) (f:Str) (g:Str) (x:List (Nat×AV)):List (Nat×AV):=(1,.agg [.str a,.i b,.str c,.i d,.str e,.str f,.str g])::x
abbrev kAy (a:Str) (b:Str) (c:Int) (d:Int):List AV:=[.str a,.str b,.i c,.i d]
abbrev kAz {α0:Type} (a:List α0):List (Nat×AV):=[(4,.oslice 0 a.length 4)]
abbrev kA0 {α0:Type} (a:List α0):List (Nat×AV):=[(4,.oslice 0 a.length 7)]
abbrev kA1:List (Nat×AV):=[(102,.bool true)]
abbrev kA2 (a:Int) (b:Int) (c:Int) (x:List (Nat×AV)):List (Nat×AV):=(8,.i a)::(9,.i b)::(10,.i c)::x
abbrev kA3 (a:Int):List (Nat×AV):=[(4,.i a)]
abbrev kA4 (a:Int):List (Nat×AV):=[(2,.i a)]
abbrev kA5:List (Nat×AV):=[(4,.i (-1))]
abbrev kA6:List (Nat×AV):=[(4,.ptr 0 0)]
abbrev kA7 (a:Bool):List (Nat×AV):=[(3,.bool a)]
abbrev kA8:List (Nat×AV):=[(7,.i 5),(8,.i 0)]
theorem qf2:SlT ZT 22 56 7 96:=⟨by kernel_rfl,by kernel_rfl,by kernel_rfl,by kernel_rfl⟩
theorem qpe:AgT ZT 56 7:=⟨by kernel_rfl,by kernel_rfl⟩
theorem qmQ:SlT ZT 23 57 7 96:=⟨by kernel_rfl,by kernel_rfl,by kernel_rfl,by kernel_rfl⟩
theorem qp4:AgT ZT 57 7:=⟨by kernel_rfl,by kernel_rfl⟩
theorem sl179:SlT ZT 179 32 1 8:=⟨by kernel_rfl,by kernel_rfl,by kernel_rfl,by kernel_rfl⟩
theorem ce32:CeT ZT 32:=⟨by kernel_rfl,by kernel_rfl⟩
theorem qdW:MapT ZT 143 9 141 (.agg [.nilfunc,.nilfunc]):=⟨by kernel_rfl,by kernel_rfl,by kernel_rfl⟩
theorem qe6:SlT ZT 28 74 4 48:=⟨by kernel_rfl,by kernel_rfl,by kernel_rfl,by kernel_rfl⟩
theorem qnQ:AgT ZT 74 4:=⟨by kernel_rfl,by kernel_rfl⟩
theorem qqr:SlT ZT 27 71 4 56:=⟨by kernel_rfl,by kernel_rfl,by kernel_rfl,by kernel_rfl⟩
theorem ag71:AgT ZT 71 4:=⟨by kernel_rfl,by kernel_rfl⟩
theorem qq1:EqT ZT 190 #[{name:= "lot",type:=9,offset:=0,embedded:=false,tag:= "",pkgPath:= "becket/yarn",byteOffset:=0},{name:= "order",type:=9,offset:=1,embedded:=false,tag:= "",pkgPath:= "becket/yarn",byteOffset:=16}]:=⟨by kernel_rfl,by kernel_rfl,by kernel_rfl⟩
theorem sl79:SlT ZT 79 3 1 8:=⟨by kernel_rfl,by kernel_rfl,by kernel_rfl,by kernel_rfl⟩
theorem ce3:CeT ZT 3:=⟨by kernel_rfl,by kernel_rfl⟩
abbrev qdO (x0_:qb) (x1_:StateT) (x2_:qa):List AV:=[.func (.func 115) [] [.fptr (kA x0_.Kind x0_.Day x0_.Lot x0_.Amount x0_.Yarn x0_.Dye x0_.Order) 0,.fptr (kH x1_.Day x1_.Lots x1_.Holds) 0],.func (.func 116) [] [.fptr (kA x0_.Kind x0_.Day x0_.Lot x0_.Amount x0_.Yarn x0_.Dye x0_.Order) 0,.fptr (.str x2_.lot.Name::(kB x2_.lot.Yarn x2_.lot.Dye x2_.lot.Stock x2_.known x2_.hold.Lot x2_.hold.Order x2_.hold.Reserved x2_.hold.Taken x2_.free)) 0],.func (.func 117) [] [.fptr [.func (.func 132) [] [],.func (.func 133) [] []] 0,.fptr (.str x2_.lot.Name::(kB x2_.lot.Yarn x2_.lot.Dye x2_.lot.Stock x2_.known x2_.hold.Lot x2_.hold.Order x2_.hold.Reserved x2_.hold.Taken x2_.free)) 0,.fptr (kA x0_.Kind x0_.Day x0_.Lot x0_.Amount x0_.Yarn x0_.Dye x0_.Order) 0],.func (.func 118) [] [.fptr [.func (.func 132) [] [],.func (.func 133) [] []] 0,.fptr (.str x2_.lot.Name::(kB x2_.lot.Yarn x2_.lot.Dye x2_.lot.Stock x2_.known x2_.hold.Lot x2_.hold.Order x2_.hold.Reserved x2_.hold.Taken x2_.free)) 0,.fptr (kA x0_.Kind x0_.Day x0_.Lot x0_.Amount x0_.Yarn x0_.Dye x0_.Order) 0],.func (.func 119) [] [.fptr (kH x1_.Day x1_.Lots x1_.Holds) 0,.fptr (kA x0_.Kind x0_.Day x0_.Lot x0_.Amount x0_.Yarn x0_.Dye x0_.Order) 0]]
abbrev qdQ (x0_:qb) (x1_:StateT) (x2_:qa):List AV:=[.func (.func 115) [] [.fptr (kA x0_.Kind x0_.Day x0_.Lot x0_.Amount x0_.Yarn x0_.Dye x0_.Order) 0,.fptr (kH x1_.Day x1_.Lots x1_.Holds) 0],.func (.func 116) [] [.fptr (kA x0_.Kind x0_.Day x0_.Lot x0_.Amount x0_.Yarn x0_.Dye x0_.Order) 0,.fptr (.str x2_.lot.Name::(kB x2_.lot.Yarn x2_.lot.Dye x2_.lot.Stock x2_.known x2_.hold.Lot x2_.hold.Order x2_.hold.Reserved x2_.hold.Taken x2_.free)) 0],.func (.func 117) [] [.fptr [.func (.func 134) [] [],.func (.func 135) [] []] 0,.fptr (.str x2_.lot.Name::(kB x2_.lot.Yarn x2_.lot.Dye x2_.lot.Stock x2_.known x2_.hold.Lot x2_.hold.Order x2_.hold.Reserved x2_.hold.Taken x2_.free)) 0,.fptr (kA x0_.Kind x0_.Day x0_.Lot x0_.Amount x0_.Yarn x0_.Dye x0_.Order) 0],.func (.func 118) [] [.fptr [.func (.func 134) [] [],.func (.func 135) [] []] 0,.fptr (.str x2_.lot.Name::(kB x2_.lot.Yarn x2_.lot.Dye x2_.lot.Stock x2_.known x2_.hold.Lot x2_.hold.Order x2_.hold.Reserved x2_.hold.Taken x2_.free)) 0,.fptr (kA x0_.Kind x0_.Day x0_.Lot x0_.Amount x0_.Yarn x0_.Dye x0_.Order) 0],.func (.func 119) [] [.fptr (kH x1_.Day x1_.Lots x1_.Holds) 0,.fptr (kA x0_.Kind x0_.Day x0_.Lot x0_.Amount x0_.Yarn x0_.Dye x0_.Order) 0]]
abbrev qdK (x0_:qb) (x1_:StateT) (x2_:qa):List AV:=[.func (.func 115) [] [.fptr (kA x0_.Kind x0_.Day x0_.Lot x0_.Amount x0_.Yarn x0_.Dye x0_.Order) 0,.fptr (kH x1_.Day x1_.Lots x1_.Holds) 0],.func (.func 116) [] [.fptr (kA x0_.Kind x0_.Day x0_.Lot x0_.Amount x0_.Yarn x0_.Dye x0_.Order) 0,.fptr (.str x2_.lot.Name::(kB x2_.lot.Yarn x2_.lot.Dye x2_.lot.Stock x2_.known x2_.hold.Lot x2_.hold.Order x2_.hold.Reserved x2_.hold.Taken x2_.free)) 0],.func (.func 117) [] [.fptr [.func (.func 137) [] [],.func (.func 138) [] []] 0,.fptr (.str x2_.lot.Name::(kB x2_.lot.Yarn x2_.lot.Dye x2_.lot.Stock x2_.known x2_.hold.Lot x2_.hold.Order x2_.hold.Reserved x2_.hold.Taken x2_.free)) 0,.fptr (kA x0_.Kind x0_.Day x0_.Lot x0_.Amount x0_.Yarn x0_.Dye x0_.Order) 0],.func (.func 118) [] [.fptr [.func (.func 137) [] [],.func (.func 138) [] []] 0,.fptr (.str x2_.lot.Name::(kB x2_.lot.Yarn x2_.lot.Dye x2_.lot.Stock x2_.known x2_.hold.Lot x2_.hold.Order x2_.hold.Reserved x2_.hold.Taken x2_.free)) 0,.fptr (kA x0_.Kind x0_.Day x0_.Lot x0_.Amount x0_.Yarn x0_.Dye x0_.Order) 0],.func (.func 119) [] [.fptr (kH x1_.Day x1_.Lots x1_.Holds) 0,.fptr (kA x0_.Kind x0_.Day x0_.Lot x0_.Amount x0_.Yarn x0_.Dye x0_.Order) 0]]
abbrev qdI (x0_:qb) (x1_:StateT) (x2_:qa):List AV:=[.func (.func 115) [] [.fptr (kA x0_.Kind x0_.Day x0_.Lot x0_.Amount x0_.Yarn x0_.Dye x0_.Order) 0,.fptr (kH x1_.Day x1_.Lots x1_.Holds) 0],.func (.func 116) [] [.fptr (kA x0_.Kind x0_.Day x0_.Lot x0_.Amount x0_.Yarn x0_.Dye x0_.Order) 0,.fptr (.str x2_.lot.Name::(kB x2_.lot.Yarn x2_.lot.Dye x2_.lot.Stock x2_.known x2_.hold.Lot x2_.hold.Order x2_.hold.Reserved x2_.hold.Taken x2_.free)) 0],.func (.func 117) [] [.fptr [.func (.func 139) [] [],.func (.func 140) [] []] 0,.fptr (.str x2_.lot.Name::(kB x2_.lot.Yarn x2_.lot.Dye x2_.lot.Stock x2_.known x2_.hold.Lot x2_.hold.Order x2_.hold.Reserved x2_.hold.Taken x2_.free)) 0,.fptr (kA x0_.Kind x0_.Day x0_.Lot x0_.Amount x0_.Yarn x0_.Dye x0_.Order) 0],.func (.func 118) [] [.fptr [.func (.func 139) [] [],.func (.func 140) [] []] 0,.fptr (.str x2_.lot.Name::(kB x2_.lot.Yarn x2_.lot.Dye x2_.lot.Stock x2_.known x2_.hold.Lot x2_.hold.Order x2_.hold.Reserved x2_.hold.Taken x2_.free)) 0,.fptr (kA x0_.Kind x0_.Day x0_.Lot x0_.Amount x0_.Yarn x0_.Dye x0_.Order) 0],.func (.func 119) [] [.fptr (kH x1_.Day x1_.Lots x1_.Holds) 0,.fptr (kA x0_.Kind x0_.Day x0_.Lot x0_.Amount x0_.Yarn x0_.Dye x0_.Order) 0]]
abbrev qdJ (x0_:qb) (x1_:StateT) (x2_:qa):List AV:=[.func (.func 115) [] [.fptr (kA x0_.Kind x0_.Day x0_.Lot x0_.Amount x0_.Yarn x0_.Dye x0_.Order) 0,.fptr (kH x1_.Day x1_.Lots x1_.Holds) 0],.func (.func 116) [] [.fptr (kA x0_.Kind x0_.Day x0_.Lot x0_.Amount x0_.Yarn x0_.Dye x0_.Order) 0,.fptr (.str x2_.lot.Name::(kB x2_.lot.Yarn x2_.lot.Dye x2_.lot.Stock x2_.known x2_.hold.Lot x2_.hold.Order x2_.hold.Reserved x2_.hold.Taken x2_.free)) 0],.func (.func 117) [] [.fptr [.func (.func 141) [] [],.func (.func 142) [] []] 0,.fptr (.str x2_.lot.Name::(kB x2_.lot.Yarn x2_.lot.Dye x2_.lot.Stock x2_.known x2_.hold.Lot x2_.hold.Order x2_.hold.Reserved x2_.hold.Taken x2_.free)) 0,.fptr (kA x0_.Kind x0_.Day x0_.Lot x0_.Amount x0_.Yarn x0_.Dye x0_.Order) 0],.func (.func 118) [] [.fptr [.func (.func 141) [] [],.func (.func 142) [] []] 0,.fptr (.str x2_.lot.Name::(kB x2_.lot.Yarn x2_.lot.Dye x2_.lot.Stock x2_.known x2_.hold.Lot x2_.hold.Order x2_.hold.Reserved x2_.hold.Taken x2_.free)) 0,.fptr (kA x0_.Kind x0_.Day x0_.Lot x0_.Amount x0_.Yarn x0_.Dye x0_.Order) 0],.func (.func 119) [] [.fptr (kH x1_.Day x1_.Lots x1_.Holds) 0,.fptr (kA x0_.Kind x0_.Day x0_.Lot x0_.Amount x0_.Yarn x0_.Dye x0_.Order) 0]]
theorem sl31:SlT ZT 31 53 2 16:=⟨by kernel_rfl,by kernel_rfl,by kernel_rfl,by kernel_rfl⟩
theorem st9:Tryz.prog.underlying 9=some .string:=by kernel_rfl
theorem qjl:SlT ZT 41 118 4 48:=⟨by kernel_rfl,by kernel_rfl,by kernel_rfl,by kernel_rfl⟩
theorem ce9:CeT ZT 9:=⟨by kernel_rfl,by kernel_rfl⟩
theorem qoY:AgT ZT 118 4:=⟨by kernel_rfl,by kernel_rfl⟩
theorem qh1:SlT ZT 40 84 4 56:=⟨by kernel_rfl,by kernel_rfl,by kernel_rfl,by kernel_rfl⟩
theorem ag84:AgT ZT 84 4:=⟨by kernel_rfl,by kernel_rfl⟩
theorem sl44:SlT ZT 44 52 2 16:=⟨by kernel_rfl,by kernel_rfl,by kernel_rfl,by kernel_rfl⟩
theorem eqt84:EqT ZT 84 #[{name:= "Name",type:=9,offset:=0,embedded:=false,tag:= "",pkgPath:= "",byteOffset:=0},{name:= "Yarn",type:=9,offset:=1,embedded:=false,tag:= "",pkgPath:= "",byteOffset:=16},{name:= "Dye",type:=9,offset:=2,embedded:=false,tag:= "",pkgPath:= "",byteOffset:=32},{name:= "Stock",type:=3,offset:=3,embedded:=false,tag:= "",pkgPath:= "",byteOffset:=48}]:=⟨by kernel_rfl,by kernel_rfl,by kernel_rfl⟩
theorem qsT:EqT ZT 118 #[{name:= "Lot",type:=9,offset:=0,embedded:=false,tag:= "",pkgPath:= "",byteOffset:=0},{name:= "Order",type:=9,offset:=1,embedded:=false,tag:= "",pkgPath:= "",byteOffset:=16},{name:= "Reserved",type:=3,offset:=2,embedded:=false,tag:= "",pkgPath:= "",byteOffset:=32},{name:= "Taken",type:=3,offset:=3,embedded:=false,tag:= "",pkgPath:= "",byteOffset:=40}]:=⟨by kernel_rfl,by kernel_rfl,by kernel_rfl⟩
theorem ag53:AgT ZT 53 2:=⟨by kernel_rfl,by kernel_rfl⟩
theorem ag52:AgT ZT 52 2:=⟨by kernel_rfl,by kernel_rfl⟩
theorem eqt52:EqT ZT 52 #[{name:= "Number",type:=3,offset:=0,embedded:=false,tag:= "",pkgPath:= "",byteOffset:=0},{name:= "Rule",type:=3,offset:=1,embedded:=false,tag:= "",pkgPath:= "",byteOffset:=8}]:=⟨by kernel_rfl,by kernel_rfl,by kernel_rfl⟩
abbrev fm1:AV:= .fmap kAZ [.agg [.func (.func 132) [] [],.func (.func 133) [] []],.agg [.func (.func 134) [] [],.func (.func 135) [] []],.agg [.func (.func 137) [] [],.func (.func 138) [] []],.agg [.func (.func 139) [] [],.func (.func 140) [] []],.agg [.func (.func 141) [] [],.func (.func 142) [] []]]
instance:SC 12 fm1:=⟨Still.fmap SX.h (AllST.cons SC.h (AllST.cons SC.h (AllST.cons SC.h (AllST.cons SC.h (AllST.cons SC.h AllST.nil)))))⟩
theorem qst (x:qB):Fl (qo.c x):=by
 have e:qo.c x=[.str x.Name,.str x.Yarn,.str x.Dye,.i x.Stock]:=rfl
 rw[e]
 intro a ha
 simp only[List.mem_cons,List.not_mem_nil,or_false]at ha
 rcases ha with rfl|rfl|rfl|rfl<;>rfl
def qgK (l:List qB):Option Unit:=if l.length<=1000000 then some ()else none
theorem qm3 (l:List qB) {u:Unit} (h:qgK l=some u):qp ZT (.fn 120) [vl qo l] [] (.gslice 0 l.length 4) (kQ l []):=by
 unfold qgK at h
 split at h
 ·exact qpO rfl qst l ‹_›
 cases h
theorem qsO (x:qf):Fl (qg.c x):=by
 have e:qg.c x=(kAy x.Lot x.Order x.Reserved x.Taken):=rfl
 rw[e]
 intro a ha
 simp only[List.mem_cons,List.not_mem_nil,or_false]at ha
 rcases ha with rfl|rfl|rfl|rfl<;>rfl
def qfo (l:List qf):Option Unit:=if l.length<=1000000 then some ()else none
theorem qih (l:List qf) {u:Unit} (h:qfo l=some u):qp ZT (.fn 123) [vl qg l] [] (.gslice 0 l.length 4) (kI l []):=by
 unfold qfo at h
 split at h
 ·exact qof rfl qsO l ‹_›
 cases h
theorem qsk (x:qb):Fl (ql.c x):=by
 have e:ql.c x=(kA x.Kind x.Day x.Lot x.Amount x.Yarn x.Dye x.Order):=rfl
 rw[e]
 intro a ha
 simp only[List.mem_cons,List.not_mem_nil,or_false]at ha
 rcases ha with rfl|rfl|rfl|rfl|rfl|rfl|rfl<;>rfl
def qfW (l:List qb):Option Unit:=if l.length<=1000000 then some ()else none
theorem qhK (l:List qb) {u:Unit} (h:qfW l=some u):qp ZT (.fn 53) [vl ql l] [] (.gslice 0 l.length 7) (kAA l):=by
 unfold qfW at h
 split at h
 ·exact qmN rfl qsk l ‹_›
 cases h
def qlo (l:List qB) (i:Int) (a b c:Str) (d:Int):Option (List qB):=if 0<=i/\i<=l.length/\l.length<1000000 then some (l.take i.toNat++[⟨a,b,c,d⟩]++l.drop i.toNat)else none
theorem qpk (l:List qB) (i:Int) (a b c:Str) (d:Int) {r:List qB} (h:qlo l i a b c d=some r):qp ZT (.fn 121) [.gslice 0 l.length 4,.i i,.slice 1 0 1 1 4] (kQ l (kU a b c d [])) (.oslice 2 r.length 4) (.dead::(kU a b c d (kQ r []))):=by
 unfold qlo at h
 split at h
 ·rename_i hc
  obtain rfl:=si h
  have:=qsa (E:=qo) rfl qst l ⟨a,b,c,d⟩ i.toNat (by omega) hc.2.2
  rw[Int.toNat_of_nonneg hc.1]at this
  exact this
 cases h
instance:Inhabited qf:=⟨⟨[],[],0,0⟩⟩
theorem hldE:qhB qg qf.Lot qf.Order qf.Reserved qf.Taken:=⟨rfl,fun _=>rfl⟩
def qg4 (l:List qf):Option (List qf):=if l.length<=1000000 then some (qew qf.Lot qf.Order l)else none
theorem qmv (l:List qf) {r:List qf} (h:qg4 l=some r):qp ZT (.fn 126) [.oslice 0 l.length 4,.func (.func 127) [] []] (kI l []) (.tuple []) (kI r []):=by
 unfold qg4 at h
 split at h
 ·rename_i hl
  obtain rfl:=si h
  have:=hldE.sortO (ns:=l) hl
  exact this
 cases h
def qhe (l:List qf):Option (List qf):=if l.length<=1000000 then some (qew qf.Lot qf.Order l)else none
theorem qmg (l:List qf) {r:List qf} (h:qhe l=some r):qp ZT (.fn 126) [.gslice 0 l.length 4,.func (.func 127) [] []] (kI l []) (.tuple []) (kI r []):=by
 unfold qhe at h
 split at h
 ·rename_i hl
  obtain rfl:=si h
  have:=hldE.sortG (ns:=l) hl
  exact this
 cases h
def yS (l:List qb):Nat->(List qb)->Int->Option (List qb)
 |0,_,_=>none
 |K+1,b,a=>
  if a<(l.length:Int)then
  (idx l a).bind fun c=>
  (app 96 b [c]).bind fun d=>
  yS l K d (w64 (a+1))
  else
  some b
def qca (N:Nat) (l:List qb):Option (List qb):=
 (yS l N ([]:List qb) 0).bind fun a=>
 some a
theorem qjy (N:Nat) (l:List qb) {res:List qb} (h:qca N l=some res):qp ZT (.fn 8) [vl ql l] [] (vl ql res) []:=by
 unfold qca at h
 refine Uc Tryz.func8 rfl rfl (m:=18) rfl (rs:=[.tmp 2]) rfl (l:=(kO l [])) rfl ?_
 refine sh fol (kO l []) ?_
 refine sh fol (kO l [(3,.nilslice)]) ?_
 refine sq ?_
 refine sh fol [(3,.nilslice),(6,vl ql l),(7,.i (l.length:Int)),(8,.i 0)] ?_
 refine Goes.block ?_
 obtain⟨k,g4,h⟩:=bnd h
 refine Goes.imp (Q:=fun x s'=>(x= .exit 0/\ ∃g,g=k/\Sub s' (ofG 18 [(3,.gslice 0 g.length 7)],(kAA g)))) ?_ ?_
 ·refine Goes.sub (s':=(ofG 18 [(3,.gslice 0 ([]:List qb).length 7),(6,vl ql l),(7,.i (l.length:Int)),(8,.i 0)],[.cells (([]:List qb).flatMap ql.c)])) (Sub.norm [] [none] rfl rfl (.keep .nil (.keep (.same (qN ql _)) (.keep (.same nI) (.keep (.same nI) .nil)))) (.fresh .nil)) ?_
  refine Ud (fun M s=> ∃(b:List qb) (d:Int),s=(ofG 18 ((3,.gslice 0 b.length 7)::(6,vl ql l)::(kAR (l.length:Int) d)),(kAA b))/\yS l M b d=some k) ?_ (m:=N) ⟨_,_,rfl,g4⟩
  rintro M s ⟨b,d,rfl,g4⟩
  cases M with
  |zero=>simp only[yS]at g4;cases g4
  |succ M=>
   rw[yS]at g4
   refine sh fol ((3,.gslice 0 b.length 7)::(6,vl ql l)::(7,.i (l.length:Int))::(kAr d (decide (d<(l.length:Int))))) ?_
   refine sq ?_
   refine ihD g4 (fun n g4=>?_) (fun n g4=>?_)
   ·refine Goes.skip ?_
    refine sq (Goes.block ?_)
    obtain⟨a,e,g4⟩:=bnd g4
    refine sq (gq fol [0,1] ((3,.gslice 0 b.length 7)::(5,.ptr 1 0)::(6,vl ql l)::(kAR (l.length:Int) d)) (.cells (b.flatMap ql.c)::(kE a.Kind a.Day a.Lot a.Amount a.Yarn a.Dye a.Order [])) (ac (iv qf2 ql e) (ac (la qpe ql e) az)) ?_)
    obtain⟨f,j,g4⟩:=bnd g4
    refine gq fol [3] ((3,.gslice 3 f.length 7)::(6,vl ql l)::(kAR (l.length:Int) d)) (.dead::(kE a.Kind a.Day a.Lot a.Amount a.Yarn a.Dye a.Order (kE a.Kind a.Day a.Lot a.Amount a.Yarn a.Dye a.Order (kAA f)))) (ac (hs (.run [0,2] (xK ZT [23,23] (.gslice 0 b.length 7) (.slice 2 0 1 1 7)) (.cells (b.flatMap ql.c)::(kE a.Kind a.Day a.Lot a.Amount a.Yarn a.Dye a.Order (kE a.Kind a.Day a.Lot a.Amount a.Yarn a.Dye a.Order []))) (.gslice 3 f.length 7) (.dead::(kE a.Kind a.Day a.Lot a.Amount a.Yarn a.Dye a.Order (kE a.Kind a.Day a.Lot a.Amount a.Yarn a.Dye a.Order (kAA f)))) true) (qbI qmQ (E:=ql) rfl (qe2 (E:=ql) (ys:=[a]) rfl rfl rfl rfl) (qft (E:=ql) (l:=b) rfl rfl rfl j rfl))) az) ?_
    refine gh fol ((3,.gslice 3 f.length 7)::(6,vl ql l)::(kAR (l.length:Int) (w64 (d+1)))) ?_
    exact⟨M,(ofG 18 ((3,.gslice 0 f.length 7)::(6,vl ql l)::(kAR (l.length:Int) (w64 (d+1)))),(kAA f)),Nat.lt_succ_self _,(Sub.norm [] [some 3] rfl rfl (.keep (.gslice rfl) (.keep (.same (qN ql _)) (.keep (.same nI) (.keep (.same nI) .nil)))) (.ks .nil)),_,_,rfl,g4⟩
   refine Goes.exit ?_
   obtain rfl:=si g4
   exact⟨rfl,_,rfl,(Sub.keep [3] rfl rfl)⟩
 rintro x s' ⟨rfl,g,rfl,hsub⟩
 refine Goes.sub hsub ?_
 refine sh fol [(2,.gslice 0 g.length 7)] ?_
 refine Goes.ret ?_
 obtain rfl:=si h
 exact(gw2 [.gslice 0 g.length 7] (FzW.fz (Um (E:=ql) rfl rfl (nl rfl))))
def qa1 (e:qb):Option Bool:=
 (if(e.Kind.length:Int)<=60 then
 if(e.Lot.length:Int)<=60 then
 if(e.Yarn.length:Int)<=60 then
 if(e.Dye.length:Int)<=60 then
 some (decide ((e.Order.length:Int)<=60))
 else
 some false
 else
 some false
 else
 some false
 else
 some false:Option Bool).bind fun a=>
 some a
theorem qhi (e:qb) {res:Bool} (h:qa1 e=some res):qp ZT (.fn 22) [.agg (kA e.Kind e.Day e.Lot e.Amount e.Yarn e.Dye e.Order)] [] (.bool res) []:=by
 unfold qa1 at h
 refine Uc Tryz.func22 rfl rfl (m:=31) rfl (rs:=[.tmp 2]) rfl (l:=[(0,.agg [.str e.Kind,.i e.Day,.str e.Lot,.i e.Amount,.str e.Yarn,.str e.Dye,.str e.Order])]) rfl ?_
 refine sg fol (kAW []) (kE e.Kind e.Day e.Lot e.Amount e.Yarn e.Dye e.Order []) ?_
 refine sq ?_
 obtain⟨g,a,h⟩:=bnd h
 refine Goes.cut (s':=(ofG 31 (kAc g),(kE e.Kind e.Day e.Lot e.Amount e.Yarn e.Dye e.Order []))) ?_ ?_
 ·rcases wyD a with⟨b,a⟩|⟨b,a⟩
  ·rcases wyD a with⟨c,a⟩|⟨c,a⟩
   ·rcases wyD a with⟨d,a⟩|⟨d,a⟩
    ·rcases wyD a with⟨f,a⟩|⟨f,a⟩
     ·obtain rfl:=si a
      exact tr fol [4,10,16,22] (kAc (decide ((e.Order.length:Int)<=60))) (ac (gw b) (ac (gw c) (ac (gw d) (ac (gw f) az))))
     obtain rfl:=si a
     exact tr fol [4,10,16,22] kAh (ac (gw b) (ac (gw c) (ac (gw d) (ac (gw f) az))))
    obtain rfl:=si a
    exact tr fol [4,10,16] kAh (ac (gw b) (ac (gw c) (ac (gw d) az)))
   obtain rfl:=si a
   exact tr fol [4,10] kAh (ac (gw b) (ac (gw c) az))
  obtain rfl:=si a
  exact tr fol [4] kAh (ac (gw b) az)
 refine Goes.ret ?_
 obtain rfl:=si h
 exact(gw2 [.bool g] (Ub tB))
def vH (l:List qb):Nat->Int->Option (Unit⊕Bool)
 |0,_=>none
 |K+1,a=>
  if a<(l.length:Int)then
  (idx l a).bind fun b=>
  (qa1 b).bind fun c=>
  if(!c)=true then
  some (.inr false)
  else
  vH l K (w64 (a+1))
  else
  some (.inl ())
def qbQ (N:Nat) (l:List qb) (n:Int):Option Bool:=
 (if(l.length:Int)>n then
 if(l.length:Int)<=1000 then
 some true
 else
 some (decide ((l.length:Int)>1003))
 else
 some (decide ((l.length:Int)>1003)):Option Bool).bind fun b=>
 if b=true then
 some false
 else
 (vH l N 0).bind (fun
 |(.inl ())=>
 some true
 |(.inr a)=>
 some a)
theorem qij (N:Nat) (l:List qb) (n:Int) {res:Bool} (h:qbQ N l n=some res):qp ZT (.fn 9) [vl ql l,.i n] [] (.bool res) []:=by
 unfold qbQ at h
 refine Uc Tryz.func9 rfl rfl (m:=32) rfl (rs:=[.tmp 4]) rfl (l:=(kO l [(1,.i n)])) rfl ?_
 refine sh fol (kO l [(1,.i n)]) ?_
 refine sq ?_
 refine sq ?_
 obtain⟨q,a,h⟩:=bnd h
 refine Goes.cut (s':=(ofG 32 (kO l [(19,.bool q)]),[])) ?_ ?_
 ·rcases wyD a with⟨e,a⟩|⟨e,a⟩
  ·rcases wyD a with⟨f,a⟩|⟨f,a⟩
   ·obtain rfl:=si a
    exact tr fol [4,9] (kO l [(19,.bool true)]) (ac (gw e) (ac (gw f) az))
   obtain rfl:=si a
   exact tr fol [4,9] (kO l [(19,.bool (decide ((l.length:Int)>1003)))]) (ac (gw e) (ac (gw f) az))
  obtain rfl:=si a
  exact tr fol [4] (kO l [(19,.bool (decide ((l.length:Int)>1003)))]) (ac (gw e) az)
 refine ihB h (fun r h=>?_) (fun r h=>?_)
 ·refine sh fol kAt ?_
  refine Goes.ret ?_
  obtain rfl:=si h
  exact(gw2 [.bool false] (Ub tB))
 refine Goes.skip ?_
 refine sq ?_
 refine sh fol (kO l [(5,.i 0)]) ?_
 refine Goes.block ?_
 obtain⟨g,g7,h⟩:=bnd h
 refine Goes.imp (Q:=fun x s'=>(x= .exit 0/\(.inl ())=g/\Sub s' (ofG 32 [],[]))\/(x= .ret/\ ∃p,(.inr p)=g/\jF ZT [.tmp 4] (.bool p) .ret s')) ?_ ?_
 ·refine Ud (fun M s=> ∃(c:Int),s=(ofG 32 (kO l (kAY c)),[])/\vH l M c=some g) ?_ (m:=N) ⟨_,rfl,g7⟩
  rintro M s ⟨c,rfl,g7⟩
  cases M with
  |zero=>simp only[vH]at g7;cases g7
  |succ M=>
   rw[vH]at g7
   refine sq ?_
   refine sh fol (kO l [(5,.i c),(23,.bool (decide (c<(l.length:Int))))]) ?_
   refine ihD g7 (fun t g7=>?_) (fun t g7=>?_)
   ·refine Goes.skip ?_
    refine sq (Goes.block ?_)
    obtain⟨j,b,g7⟩:=bnd g7
    obtain⟨k,d,g7⟩:=bnd g7
    refine sq (gr fol [2,3,4] (kO l [(5,.i c),(31,.bool (!k))]) (ac (iv qmQ ql b) (ac (la qp4 ql b) (ac (cv (qhi j d)) az))) ?_)
    refine ihB g7 (fun o g7=>?_) (fun o g7=>?_)
    ·refine sh fol kAt ?_
     refine Goes.ret ?_
     obtain rfl:=si g7
     exact Or.inr (⟨rfl,_,rfl,(gw2 [.bool false] (Ub tB))⟩)
    refine Goes.skip ?_
    refine gh fol (kO l (kAY (w64 (c+1)))) ?_
    exact⟨M,(ofG 32 (kO l (kAY (w64 (c+1)))),[]),Nat.lt_succ_self _,(Sub.refl _),_,rfl,g7⟩
   refine Goes.exit ?_
   obtain rfl:=si g7
   exact Or.inl (⟨rfl,rfl,(Sub.keep [] rfl rfl)⟩)
 rintro x s' (⟨rfl,rfl,hsub⟩|⟨rfl,u,rfl,hret⟩)
 ·try dsimp only at h
  refine Goes.sub hsub ?_
  refine sh fol kAv ?_
  refine Goes.ret ?_
  obtain rfl:=si h
  exact(gw2 [.bool true] (Ub tB))
 try dsimp only at h
 obtain rfl:=si h
 exact hret
def qaL (l:List Int):Nat->Int->Option (Unit⊕Int)
 |0,_=>none
 |K+1,a=>
  if a<(l.length:Int)then
  (idx l a).bind fun b=>
  if(!decide (b=0))=true then
  some (.inr b)
  else
  qaL l K (w64 (a+1))
  else
  some (.inl ())
def qbm (N:Nat) (l:List Int):Option Int:=
 (qaL l N 0).bind (fun
 |(.inl ())=>
 some 0
 |(.inr a)=>
 some a)
theorem qcd (N:Nat) (l:List Int) {res:Int} (h:qbm N l=some res):qp ZT (.fn 50) [vl encI l] [] (.i res) []:=by
 unfold qbm at h
 refine Uc Tryz.func50 rfl rfl (m:=15) rfl (rs:=[.tmp 2]) rfl (l:=[(0,vl encI l)]) rfl ?_
 refine sh fol [(0,vl encI l)] ?_
 refine sq ?_
 refine sh fol [(5,vl encI l),(6,.i (l.length:Int)),(7,.i 0)] ?_
 refine Goes.block ?_
 obtain⟨d,g2,h⟩:=bnd h
 refine Goes.imp (Q:=fun x s'=>(x= .exit 0/\(.inl ())=d/\Sub s' (ofG 15 [],[]))\/(x= .ret/\ ∃e,(.inr e)=d/\jF ZT [.tmp 2] (.i e) .ret s')) ?_ ?_
 ·refine Ud (fun M s=> ∃(a:Int),s=(ofG 15 (kAU l (l.length:Int) a []),[])/\qaL l M a=some d) ?_ (m:=N) ⟨_,rfl,g2⟩
  rintro M s ⟨a,rfl,g2⟩
  cases M with
  |zero=>simp only[qaL]at g2;cases g2
  |succ M=>
   rw[qaL]at g2
   refine sh fol (kAU l (l.length:Int) a [(8,.bool (decide (a<(l.length:Int))))]) ?_
   refine sq ?_
   refine ihD g2 (fun f g2=>?_) (fun f g2=>?_)
   ·refine Goes.skip ?_
    refine sq (Goes.block ?_)
    obtain⟨c,b,g2⟩:=bnd g2
    refine sq (gr fol [0,1] ((4,.i c)::(kAU l (l.length:Int) a [])) (ac (iv sl179 encI b) (ac (lv 0 ce32 encI b rfl) az)) ?_)
    refine sh fol ((4,.i c)::(kAU l (l.length:Int) a [(12,.bool (!decide (c=0)))])) ?_
    refine ihB g2 (fun g g2=>?_) (fun g g2=>?_)
    ·refine sh fol (kA4 c) ?_
     refine Goes.ret ?_
     obtain rfl:=si g2
     exact Or.inr (⟨rfl,_,rfl,(gw2 [.i c] (Ub tI))⟩)
    refine Goes.skip ?_
    refine gh fol (kAU l (l.length:Int) (w64 (a+1)) []) ?_
    exact⟨M,(ofG 15 (kAU l (l.length:Int) (w64 (a+1)) []),[]),Nat.lt_succ_self _,(Sub.refl _),_,rfl,g2⟩
   refine Goes.exit ?_
   obtain rfl:=si g2
   exact Or.inl (⟨rfl,rfl,(Sub.keep [] rfl rfl)⟩)
 rintro x s' (⟨rfl,rfl,hsub⟩|⟨rfl,j,rfl,hret⟩)
 ·try dsimp only at h
  refine Goes.sub hsub ?_
  refine sh fol [(2,.i 0)] ?_
  refine Goes.ret ?_
  obtain rfl:=si h
  exact(gw2 [.i 0] (Ub tI))
 try dsimp only at h
 obtain rfl:=si h
 exact hret
def qam (holds:Bool) (e:Int):Option Int:=
 if holds=true then
 some e
 else
 some 0
theorem qae (holds:Bool) (e:Int) {res:Int} (h:qam holds e=some res):qp ZT (.fn 58) [.bool holds,.i e] [] (.i res) []:=by
 unfold qam at h
 refine Uc Tryz.func58 rfl rfl (m:=7) rfl (rs:=[.tmp 4]) rfl (l:=[(0,.bool holds),(1,.i e)]) rfl ?_
 refine sh fol [(0,.bool holds),(1,.i e)] ?_
 refine sq ?_
 refine sh fol [(1,.i e),(5,.bool holds)] ?_
 refine ihB h (fun a h=>?_) (fun a h=>?_)
 ·refine sh fol (kA3 e) ?_
  refine Goes.ret ?_
  obtain rfl:=si h
  exact(gw2 [.i e] (Ub tI))
 refine Goes.skip ?_
 refine sh fol [(4,.i 0)] ?_
 refine Goes.ret ?_
 obtain rfl:=si h
 exact(gw2 [.i 0] (Ub tI))
def qbY (n:Int) (least:Int) (most:Int):Option Int:=
 (if n<least then
 (qam true 3).bind fun a=>
 some a
 else
 (qam (decide (n>most)) 3).bind fun b=>
 some b:Option Int).bind fun c=>
 some c
theorem qet (n:Int) (least:Int) (most:Int) {res:Int} (h:qbY n least most=some res):qp ZT (.fn 51) [.i n,.i least,.i most] [] (.i res) []:=by
 unfold qbY at h
 refine Uc Tryz.func51 rfl rfl (m:=16) rfl (rs:=[.tmp 6]) rfl (l:=((0,.i n)::(1,.i least)::(kA4 most))) rfl ?_
 refine sh fol ((0,.i n)::(1,.i least)::(kA4 most)) ?_
 refine sq ?_
 obtain⟨e,a,h⟩:=bnd h
 refine Goes.cut (s':=(ofG 16 [(6,.i e)],[])) ?_ ?_
 ·rcases wyD a with⟨d,a⟩|⟨d,a⟩
  ·obtain⟨f,b,a⟩:=bnd a
   obtain rfl:=si a
   exact tr fol [3,8] [(6,.i f)] (ac (gw d) (ac (cv (qae true 3 b)) az))
  obtain⟨g,c,a⟩:=bnd a
  obtain rfl:=si a
  exact tr fol [3,8] [(6,.i g)] (ac (gw d) (ac (cv (qae (decide (n>most)) 3 c)) az))
 refine Goes.ret ?_
 obtain rfl:=si h
 exact(gw2 [.i e] (Ub tI))
def qaG (c:Int):Option Bool:=
 (if c>=97 then
 if c<=122 then
 some true
 else
 if c>=65 then
 some (decide (c<=90))
 else
 some false
 else
 if c>=65 then
 some (decide (c<=90))
 else
 some false:Option Bool).bind fun a=>
 some a
theorem qaw (c:Int) {res:Bool} (h:qaG c=some res):qp ZT (.fn 183) [.int .i32 c] [] (.bool res) []:=by
 unfold qaG at h
 refine Uc Tryz.func183 rfl rfl (m:=17) rfl (rs:=[.tmp 2]) rfl (l:=[(0,.int .i32 c)]) rfl ?_
 refine sh fol [(0,.int .i32 c)] ?_
 refine sq ?_
 obtain⟨g,a,h⟩:=bnd h
 refine Goes.cut (s':=(ofG 17 (kAc g),[])) ?_ ?_
 ·rcases wyD a with⟨b,a⟩|⟨b,a⟩
  ·rcases wyD a with⟨d,a⟩|⟨d,a⟩
   ·obtain rfl:=si a
    exact tr fol [2,6] [(2,.bool true)] (ac (gw b) (ac (gw d) az))
   rcases wyD a with⟨e,a⟩|⟨e,a⟩
   ·obtain rfl:=si a
    exact tr fol [2,6,9] (kAc (decide (c<=90))) (ac (gw b) (ac (gw d) (ac (gw e) az)))
   obtain rfl:=si a
   exact tr fol [2,6,9] kAh (ac (gw b) (ac (gw d) (ac (gw e) az)))
  rcases wyD a with⟨f,a⟩|⟨f,a⟩
  ·obtain rfl:=si a
   exact tr fol [2,9] (kAc (decide (c<=90))) (ac (gw b) (ac (gw f) az))
  obtain rfl:=si a
  exact tr fol [2,9] kAh (ac (gw b) (ac (gw f) az))
 refine Goes.ret ?_
 obtain rfl:=si h
 exact(gw2 [.bool g] (Ub tB))
def yV (b:Str):Nat->Nat->Option (Unit⊕Bool)
 |0,_=>none
 |K+1,a=>
  if a<b.length then
  ((qaG (qaC b a)).bind fun d=>
  if(!d)=true then
  if(a:Int)=0 then
  some true
  else
  if(!decide ((qaC b a)=95))=true then
  if(qaC b a)<48 then
  some true
  else
  some (decide ((qaC b a)>57))
  else
  some false
  else
  some false:Option Bool).bind fun c=>
  if c=true then
  some (.inr false)
  else
  yV b K (a+runeLen b a)
  else
  some (.inl ())
def qbE (N:Nat) (a:Str):Option Bool:=
 (yV a N 0).bind (fun
 |(.inl ())=>
 (if(!(a==[]))=true then
 some (decide ((a.length:Int)<=24))
 else
 some false:Option Bool).bind fun b=>
 some b
 |(.inr c)=>
 some c)
theorem qfv (N:Nat) (d:Str) {res:Bool} (h:qbE N d=some res):qp ZT (.fn 130) [.str d] [] (.bool res) []:=by
 unfold qbE at h
 refine Uc Tryz.func130 rfl rfl (m:=37) rfl (rs:=[.tmp 2]) rfl (l:=[(0,.str d)]) rfl ?_
 refine sh fol [(0,.str d)] ?_
 refine sq ?_
 refine sg fol (kAd d []) [.iter d 0] ?_
 refine Goes.block ?_
 obtain⟨r,g2,h⟩:=bnd h
 refine Goes.imp (Q:=fun x s'=>(x= .exit 0/\(.inl ())=r/\Sub s' (ofG 37 [(0,.str d)],[]))\/(x= .ret/\ ∃w,(.inr w)=r/\jF ZT [.tmp 2] (.bool w) .ret s')) ?_ ?_
 ·refine Goes.sub (s':=(ofG 37 (kAd d []),[.iter d 0])) (Sub.keep [0,6] rfl rfl) ?_
  refine Ud (fun M s=> ∃(e:Nat),s=(ofG 37 (kAd d []),[.iter d e])/\yV d M e=some r) ?_ (m:=N) ⟨_,rfl,g2⟩
  rintro M s ⟨e,rfl,g2⟩
  cases M with
  |zero=>simp only[yV]at g2;cases g2
  |succ M=>
   rw[yV]at g2
   refine sq ?_
   rcases Classical.em (e<d.length)with n|n
   ·rw[if_pos n]at g2
    refine gq fol [0] (kAd d [(7,.tuple [.bool true,.i (e:Int),.int .i32 (qaC d e)]),(8,.bool true)]) [.iter d (e+runeLen d e)] (ac (hs (.run [0] (qiK (.ptr 0 0) true) [.iter d e] (.tuple [.bool true,.i (e:Int),.int .i32 (qaC d e)]) [.iter d (e+runeLen d e)] true) (qpF rfl n rfl)) az) ?_
    refine sq ?_
    refine Goes.ifB (b:=true) (by kernel_rfl) (fun _=>?_) (fun c=>(by cases c))
    refine Goes.skip ?_
    refine Goes.block ?_
    refine sh fol (kAg d (e:Int) [(4,.int .i32 (qaC d e)),(6,.ptr 0 0)]) ?_
    refine sq ?_
    obtain⟨t,a,g2⟩:=bnd g2
    refine Goes.cut (s':=(ofG 37 (kAd d [(29,.bool t)]),[.iter d (e+runeLen d e)])) ?_ ?_
    ·obtain⟨z,g,a⟩:=bnd a
     rcases wyB a with⟨k,a⟩|⟨k,a⟩
     ·rcases wyD a with⟨o,a⟩|⟨o,a⟩
      ·obtain rfl:=si a
       exact tr fol [1,3,6] (kAd d [(29,.bool true)]) (ac (cv (qaw (qaC d e) g)) (ac (gw k) (ac (gw o) az)))
      rcases wyB a with⟨q,a⟩|⟨q,a⟩
      ·rcases wyD a with⟨u,a⟩|⟨u,a⟩
       ·obtain rfl:=si a
        exact tr fol [1,3,6,9,12] (kAd d [(29,.bool true)]) (ac (cv (qaw (qaC d e) g)) (ac (gw k) (ac (gw o) (ac (gw q) (ac (gw u) az)))))
       obtain rfl:=si a
       exact tr fol [1,3,6,9,12] (kAd d [(29,.bool (decide ((qaC d e)>57)))]) (ac (cv (qaw (qaC d e) g)) (ac (gw k) (ac (gw o) (ac (gw q) (ac (gw u) az)))))
      obtain rfl:=si a
      exact tr fol [1,3,6,9] (kAd d [(29,.bool false)]) (ac (cv (qaw (qaC d e) g)) (ac (gw k) (ac (gw o) (ac (gw q) az))))
     obtain rfl:=si a
     exact tr fol [1,3] (kAd d [(29,.bool false)]) (ac (cv (qaw (qaC d e) g)) (ac (gw k) az))
    refine ihB g2 (fun v g2=>?_) (fun v g2=>?_)
    ·refine sh fol kAh ?_
     refine Goes.ret ?_
     obtain rfl:=si g2
     exact Or.inr (⟨rfl,_,rfl,(gw2 [.bool false] (Ub tB))⟩)
    refine Goes.skip ?_
    exact⟨M,(ofG 37 (kAd d []),[.iter d (e+runeLen d e)]),Nat.lt_succ_self _,(Sub.keep [0,6] rfl rfl),_,rfl,g2⟩
   rw[if_neg n]at g2
   refine gr fol [0] (kAd d [(7,.tuple [.bool false]),(8,.bool false)]) (ac (hs (.run [0] (qiK (.ptr 0 0) true) [.iter d e] (.tuple [.bool false]) [.iter d e] false) (qpj rfl n)) az) ?_
   refine sq ?_
   refine Goes.ifB (b:=false) (by kernel_rfl) (fun c=>(by cases c)) (fun _=>?_)
   refine Goes.exit ?_
   obtain rfl:=si g2
   exact Or.inl (⟨rfl,rfl,(Sub.norm [] [] rfl rfl (.keep (.same nS) .nil) .nil)⟩)
 rintro x s' (⟨rfl,rfl,hsub⟩|⟨rfl,y,rfl,hret⟩)
 ·try dsimp only at h
  refine Goes.sub hsub ?_
  refine sq ?_
  obtain⟨p,f,h⟩:=bnd h
  refine Goes.cut (s':=(ofG 37 (kAc p),[])) ?_ ?_
  ·rcases wyB f with⟨j,f⟩|⟨j,f⟩
   ·obtain rfl:=si f
    exact tr fol [2] (kAc (decide ((d.length:Int)<=24))) (ac (gw j) az)
   obtain rfl:=si f
   exact tr fol [2] kAh (ac (gw j) az)
  refine Goes.ret ?_
  obtain rfl:=si h
  exact(gw2 [.bool p] (Ub tB))
 try dsimp only at h
 obtain rfl:=si h
 exact hret
def qcH (N:Nat) (a:Str):Option Int:=
 (qbE N a).bind fun b=>
 (qam (!b) 8).bind fun c=>
 some c
theorem qdB (N:Nat) (a:Str) {res:Int} (h:qcH N a=some res):qp ZT (.fn 75) [.str a] [] (.i res) []:=by
 unfold qcH at h
 refine Uc Tryz.func75 rfl rfl (m:=7) rfl (rs:=[.tmp 2]) rfl (l:=[(0,.str a)]) rfl ?_
 refine sh fol [(0,.str a)] ?_
 obtain⟨e,b,h⟩:=bnd h
 obtain⟨d,c,h⟩:=bnd h
 refine sq (gr fol [1,3] (kA4 d) (ac (cv (qfv N a b)) (ac (cv (qae (!e) 8 c)) az)) ?_)
 refine Goes.ret ?_
 obtain rfl:=si h
 exact(gw2 [.i d] (Ub tI))
def qe7 (a:qa) (b:Int):Option Bool:=
 some true
theorem qi2 (a:qa) (b:Int) {res:Bool} (h:qe7 a b=some res):qp ZT (.fn 132) (kAC a.lot.Name a.lot.Yarn a.lot.Dye a.lot.Stock a.known a.hold.Lot a.hold.Order a.hold.Reserved a.hold.Taken a.free b) [] (.bool res) []:=by
 unfold qe7 at h
 refine Uc Tryz.func132 rfl rfl (m:=5) rfl (rs:=[.tmp 4]) rfl (l:=(kX a.lot.Name a.lot.Yarn a.lot.Dye a.lot.Stock a.known a.hold.Lot a.hold.Order a.hold.Reserved a.hold.Taken a.free b)) rfl ?_
 refine sg fol [] (kC a.lot.Name a.lot.Yarn a.lot.Dye a.lot.Stock a.known a.hold.Lot a.hold.Order a.hold.Reserved a.hold.Taken a.free []) ?_
 refine sh fol kAv ?_
 refine Goes.ret ?_
 obtain rfl:=si h
 exact(gw2 [.bool true] (Ub tB))
def qce (a:qa) (n:Int):Option qa:=
 some (⟨(⟨a.lot.Name,a.lot.Yarn,a.lot.Dye,w64 (a.lot.Stock+n)⟩:qB),a.known,a.hold,a.free⟩:qa)
theorem qfz (a:qa) (n:Int) {res:qa} (h:qce a n=some res):qp ZT (.fn 133) (kAC a.lot.Name a.lot.Yarn a.lot.Dye a.lot.Stock a.known a.hold.Lot a.hold.Order a.hold.Reserved a.hold.Taken a.free n) [] (.agg (.str res.lot.Name::(kB res.lot.Yarn res.lot.Dye res.lot.Stock res.known res.hold.Lot res.hold.Order res.hold.Reserved res.hold.Taken res.free))) []:=by
 unfold qce at h
 refine Uc Tryz.func133 rfl rfl (m:=13) rfl (rs:=[.cell 4 182]) rfl (l:=(kX a.lot.Name a.lot.Yarn a.lot.Dye a.lot.Stock a.known a.hold.Lot a.hold.Order a.hold.Reserved a.hold.Taken a.free n)) rfl ?_
 refine sg fol ((1,.i n)::(kN [])) (kC a.lot.Name a.lot.Yarn a.lot.Dye a.lot.Stock a.known a.hold.Lot a.hold.Order a.hold.Reserved a.hold.Taken a.free (kL [])) ?_
 refine sg fol (kN []) (kC a.lot.Name a.lot.Yarn a.lot.Dye (w64 (a.lot.Stock+n)) a.known a.hold.Lot a.hold.Order a.hold.Reserved a.hold.Taken a.free (kL [])) ?_
 refine sg fol (kAf []) (kC a.lot.Name a.lot.Yarn a.lot.Dye (w64 (a.lot.Stock+n)) a.known a.hold.Lot a.hold.Order a.hold.Reserved a.hold.Taken a.free (kC a.lot.Name a.lot.Yarn a.lot.Dye (w64 (a.lot.Stock+n)) a.known a.hold.Lot a.hold.Order a.hold.Reserved a.hold.Taken a.free [])) ?_
 refine Goes.ret ?_
 obtain rfl:=si h
 exact(gw2 [.agg (.str a.lot.Name::(kB a.lot.Yarn a.lot.Dye (w64 (a.lot.Stock+n)) a.known a.hold.Lot a.hold.Order a.hold.Reserved a.hold.Taken a.free))] (FzW.agg (qJ.cons (Ub tS) (qJ.cons (Ub tS) (qJ.cons (Ub tS) (qJ.cons (Ub tI) (qJ.cons (Ub tB) (qJ.cons (Ub tS) (qJ.cons (Ub tS) (qJ.cons (Ub tI) (qJ.cons (Ub tI) (qJ.cons (Ub tI) qJ.nil))))))))))))
def qe8 (a:qa) (n:Int):Option Bool:=
 some (decide (n<=a.free))
theorem qjr (a:qa) (n:Int) {res:Bool} (h:qe8 a n=some res):qp ZT (.fn 134) (kAC a.lot.Name a.lot.Yarn a.lot.Dye a.lot.Stock a.known a.hold.Lot a.hold.Order a.hold.Reserved a.hold.Taken a.free n) [] (.bool res) []:=by
 unfold qe8 at h
 refine Uc Tryz.func134 rfl rfl (m:=9) rfl (rs:=[.tmp 4]) rfl (l:=(kX a.lot.Name a.lot.Yarn a.lot.Dye a.lot.Stock a.known a.hold.Lot a.hold.Order a.hold.Reserved a.hold.Taken a.free n)) rfl ?_
 refine sg fol ((1,.i n)::(kAI [])) (kC a.lot.Name a.lot.Yarn a.lot.Dye a.lot.Stock a.known a.hold.Lot a.hold.Order a.hold.Reserved a.hold.Taken a.free []) ?_
 refine sh fol [(4,.bool (decide (n<=a.free)))] ?_
 refine Goes.ret ?_
 obtain rfl:=si h
 exact(gw2 [.bool (decide (n<=a.free))] (Ub tB))
def qaA (a:qa) (n:Int):Option qa:=
 some (⟨a.lot,a.known,(⟨a.hold.Lot,a.hold.Order,w64 (a.hold.Reserved+n),a.hold.Taken⟩:qf),a.free⟩:qa)
theorem qcg (a:qa) (n:Int) {res:qa} (h:qaA a n=some res):qp ZT (.fn 136) (kAC a.lot.Name a.lot.Yarn a.lot.Dye a.lot.Stock a.known a.hold.Lot a.hold.Order a.hold.Reserved a.hold.Taken a.free n) [] (.agg (.str res.lot.Name::(kB res.lot.Yarn res.lot.Dye res.lot.Stock res.known res.hold.Lot res.hold.Order res.hold.Reserved res.hold.Taken res.free))) []:=by
 unfold qaA at h
 refine Uc Tryz.func136 rfl rfl (m:=13) rfl (rs:=[.cell 4 182]) rfl (l:=(kX a.lot.Name a.lot.Yarn a.lot.Dye a.lot.Stock a.known a.hold.Lot a.hold.Order a.hold.Reserved a.hold.Taken a.free n)) rfl ?_
 refine sg fol ((1,.i n)::(kN [])) (kC a.lot.Name a.lot.Yarn a.lot.Dye a.lot.Stock a.known a.hold.Lot a.hold.Order a.hold.Reserved a.hold.Taken a.free (kL [])) ?_
 refine sg fol (kN []) (kC a.lot.Name a.lot.Yarn a.lot.Dye a.lot.Stock a.known a.hold.Lot a.hold.Order (w64 (a.hold.Reserved+n)) a.hold.Taken a.free (kL [])) ?_
 refine sg fol (kAf []) (kC a.lot.Name a.lot.Yarn a.lot.Dye a.lot.Stock a.known a.hold.Lot a.hold.Order (w64 (a.hold.Reserved+n)) a.hold.Taken a.free (kC a.lot.Name a.lot.Yarn a.lot.Dye a.lot.Stock a.known a.hold.Lot a.hold.Order (w64 (a.hold.Reserved+n)) a.hold.Taken a.free [])) ?_
 refine Goes.ret ?_
 obtain rfl:=si h
 exact(gw2 [.agg (.str a.lot.Name::(kB a.lot.Yarn a.lot.Dye a.lot.Stock a.known a.hold.Lot a.hold.Order (w64 (a.hold.Reserved+n)) a.hold.Taken a.free))] (FzW.agg (qJ.cons (Ub tS) (qJ.cons (Ub tS) (qJ.cons (Ub tS) (qJ.cons (Ub tI) (qJ.cons (Ub tB) (qJ.cons (Ub tS) (qJ.cons (Ub tS) (qJ.cons (Ub tI) (qJ.cons (Ub tI) (qJ.cons (Ub tI) qJ.nil))))))))))))
def qco (a:qa) (n:Int):Option qa:=
 (qaA a n).bind fun b=>
 some b
theorem qfC (a:qa) (n:Int) {res:qa} (h:qco a n=some res):qp ZT (.fn 135) (kAC a.lot.Name a.lot.Yarn a.lot.Dye a.lot.Stock a.known a.hold.Lot a.hold.Order a.hold.Reserved a.hold.Taken a.free n) [] (.agg (.str res.lot.Name::(kB res.lot.Yarn res.lot.Dye res.lot.Stock res.known res.hold.Lot res.hold.Order res.hold.Reserved res.hold.Taken res.free))) []:=by
 unfold qco at h
 refine Uc Tryz.func135 rfl rfl (m:=8) rfl (rs:=[.cell 4 182]) rfl (l:=(kX a.lot.Name a.lot.Yarn a.lot.Dye a.lot.Stock a.known a.hold.Lot a.hold.Order a.hold.Reserved a.hold.Taken a.free n)) rfl ?_
 refine sg fol ((1,.i n)::(kN [])) (kC a.lot.Name a.lot.Yarn a.lot.Dye a.lot.Stock a.known a.hold.Lot a.hold.Order a.hold.Reserved a.hold.Taken a.free (kL [])) ?_
 obtain⟨b,c,h⟩:=bnd h
 refine sq (gq fol [2] (kAf []) (kC a.lot.Name a.lot.Yarn a.lot.Dye a.lot.Stock a.known a.hold.Lot a.hold.Order a.hold.Reserved a.hold.Taken a.free (kC b.lot.Name b.lot.Yarn b.lot.Dye b.lot.Stock b.known b.hold.Lot b.hold.Order b.hold.Reserved b.hold.Taken b.free [])) (ac (cv (qcg a n c)) az) ?_)
 refine Goes.ret ?_
 obtain rfl:=si h
 exact(gw2 [.agg (.str b.lot.Name::(kB b.lot.Yarn b.lot.Dye b.lot.Stock b.known b.hold.Lot b.hold.Order b.hold.Reserved b.hold.Taken b.free))] (FzW.agg (qJ.cons (Ub tS) (qJ.cons (Ub tS) (qJ.cons (Ub tS) (qJ.cons (Ub tI) (qJ.cons (Ub tB) (qJ.cons (Ub tS) (qJ.cons (Ub tS) (qJ.cons (Ub tI) (qJ.cons (Ub tI) (qJ.cons (Ub tI) qJ.nil))))))))))))
def qfd (a:qa) (n:Int):Option Bool:=
 some (decide (n<=a.hold.Reserved))
theorem qja (a:qa) (n:Int) {res:Bool} (h:qfd a n=some res):qp ZT (.fn 137) (kAC a.lot.Name a.lot.Yarn a.lot.Dye a.lot.Stock a.known a.hold.Lot a.hold.Order a.hold.Reserved a.hold.Taken a.free n) [] (.bool res) []:=by
 unfold qfd at h
 refine Uc Tryz.func137 rfl rfl (m:=10) rfl (rs:=[.tmp 4]) rfl (l:=(kX a.lot.Name a.lot.Yarn a.lot.Dye a.lot.Stock a.known a.hold.Lot a.hold.Order a.hold.Reserved a.hold.Taken a.free n)) rfl ?_
 refine sg fol ((1,.i n)::(kAI [])) (kC a.lot.Name a.lot.Yarn a.lot.Dye a.lot.Stock a.known a.hold.Lot a.hold.Order a.hold.Reserved a.hold.Taken a.free []) ?_
 refine sh fol [(4,.bool (decide (n<=a.hold.Reserved)))] ?_
 refine Goes.ret ?_
 obtain rfl:=si h
 exact(gw2 [.bool (decide (n<=a.hold.Reserved))] (Ub tB))
def qcn (a:qa) (n:Int):Option qa:=
 (qaA a (w64 (0-n))).bind fun b=>
 some b
theorem qfk (a:qa) (n:Int) {res:qa} (h:qcn a n=some res):qp ZT (.fn 138) (kAC a.lot.Name a.lot.Yarn a.lot.Dye a.lot.Stock a.known a.hold.Lot a.hold.Order a.hold.Reserved a.hold.Taken a.free n) [] (.agg (.str res.lot.Name::(kB res.lot.Yarn res.lot.Dye res.lot.Stock res.known res.hold.Lot res.hold.Order res.hold.Reserved res.hold.Taken res.free))) []:=by
 unfold qcn at h
 refine Uc Tryz.func138 rfl rfl (m:=9) rfl (rs:=[.cell 4 182]) rfl (l:=(kX a.lot.Name a.lot.Yarn a.lot.Dye a.lot.Stock a.known a.hold.Lot a.hold.Order a.hold.Reserved a.hold.Taken a.free n)) rfl ?_
 refine sg fol ((1,.i n)::(kN [])) (kC a.lot.Name a.lot.Yarn a.lot.Dye a.lot.Stock a.known a.hold.Lot a.hold.Order a.hold.Reserved a.hold.Taken a.free (kL [])) ?_
 obtain⟨b,c,h⟩:=bnd h
 refine sq (gq fol [3] (kAf []) (kC a.lot.Name a.lot.Yarn a.lot.Dye a.lot.Stock a.known a.hold.Lot a.hold.Order a.hold.Reserved a.hold.Taken a.free (kC b.lot.Name b.lot.Yarn b.lot.Dye b.lot.Stock b.known b.hold.Lot b.hold.Order b.hold.Reserved b.hold.Taken b.free [])) (ac (cv (qcg a (w64 (0-n)) c)) az) ?_)
 refine Goes.ret ?_
 obtain rfl:=si h
 exact(gw2 [.agg (.str b.lot.Name::(kB b.lot.Yarn b.lot.Dye b.lot.Stock b.known b.hold.Lot b.hold.Order b.hold.Reserved b.hold.Taken b.free))] (FzW.agg (qJ.cons (Ub tS) (qJ.cons (Ub tS) (qJ.cons (Ub tS) (qJ.cons (Ub tI) (qJ.cons (Ub tB) (qJ.cons (Ub tS) (qJ.cons (Ub tS) (qJ.cons (Ub tI) (qJ.cons (Ub tI) (qJ.cons (Ub tI) qJ.nil))))))))))))
def qfc (a:qa) (n:Int):Option Bool:=
 some (decide (n<=(w64 (a.free+a.hold.Reserved))))
theorem qi3 (a:qa) (n:Int) {res:Bool} (h:qfc a n=some res):qp ZT (.fn 139) (kAC a.lot.Name a.lot.Yarn a.lot.Dye a.lot.Stock a.known a.hold.Lot a.hold.Order a.hold.Reserved a.hold.Taken a.free n) [] (.bool res) []:=by
 unfold qfc at h
 refine Uc Tryz.func139 rfl rfl (m:=13) rfl (rs:=[.tmp 4]) rfl (l:=(kX a.lot.Name a.lot.Yarn a.lot.Dye a.lot.Stock a.known a.hold.Lot a.hold.Order a.hold.Reserved a.hold.Taken a.free n)) rfl ?_
 refine sg fol ((1,.i n)::(kAI [])) (kC a.lot.Name a.lot.Yarn a.lot.Dye a.lot.Stock a.known a.hold.Lot a.hold.Order a.hold.Reserved a.hold.Taken a.free []) ?_
 refine sh fol [(4,.bool (decide (n<=(w64 (a.free+a.hold.Reserved)))))] ?_
 refine Goes.ret ?_
 obtain rfl:=si h
 exact(gw2 [.bool (decide (n<=(w64 (a.free+a.hold.Reserved))))] (Ub tB))
def qem (a:qa) (n:Int):Option qa:=
 some (⟨(⟨a.lot.Name,a.lot.Yarn,a.lot.Dye,w64 (a.lot.Stock-n)⟩:qB),a.known,(⟨a.hold.Lot,a.hold.Order,(if(w64 (a.hold.Reserved-n))>0 then(w64 (a.hold.Reserved-n))else 0),w64 (a.hold.Taken+n)⟩:qf),a.free⟩:qa)
theorem qhv (a:qa) (n:Int) {res:qa} (h:qem a n=some res):qp ZT (.fn 140) (kAC a.lot.Name a.lot.Yarn a.lot.Dye a.lot.Stock a.known a.hold.Lot a.hold.Order a.hold.Reserved a.hold.Taken a.free n) [] (.agg (.str res.lot.Name::(kB res.lot.Yarn res.lot.Dye res.lot.Stock res.known res.hold.Lot res.hold.Order res.hold.Reserved res.hold.Taken res.free))) []:=by
 unfold qem at h
 refine Uc Tryz.func140 rfl rfl (m:=28) rfl (rs:=[.cell 4 182]) rfl (l:=(kX a.lot.Name a.lot.Yarn a.lot.Dye a.lot.Stock a.known a.hold.Lot a.hold.Order a.hold.Reserved a.hold.Taken a.free n)) rfl ?_
 refine sg fol ((1,.i n)::(kN [])) (kC a.lot.Name a.lot.Yarn a.lot.Dye a.lot.Stock a.known a.hold.Lot a.hold.Order a.hold.Reserved a.hold.Taken a.free (kL [])) ?_
 refine sg fol ((1,.i n)::(kN [])) (kC a.lot.Name a.lot.Yarn a.lot.Dye (w64 (a.lot.Stock-n)) a.known a.hold.Lot a.hold.Order a.hold.Reserved a.hold.Taken a.free (kL [])) ?_
 refine sg fol ((1,.i n)::(kN [])) (kC a.lot.Name a.lot.Yarn a.lot.Dye (w64 (a.lot.Stock-n)) a.known a.hold.Lot a.hold.Order a.hold.Reserved (w64 (a.hold.Taken+n)) a.free (kL [])) ?_
 refine sg fol (kN []) (kC a.lot.Name a.lot.Yarn a.lot.Dye (w64 (a.lot.Stock-n)) a.known a.hold.Lot a.hold.Order (if(w64 (a.hold.Reserved-n))>0 then(w64 (a.hold.Reserved-n))else 0) (w64 (a.hold.Taken+n)) a.free (kL [])) ?_
 refine sg fol (kAf []) (kC a.lot.Name a.lot.Yarn a.lot.Dye (w64 (a.lot.Stock-n)) a.known a.hold.Lot a.hold.Order (if(w64 (a.hold.Reserved-n))>0 then(w64 (a.hold.Reserved-n))else 0) (w64 (a.hold.Taken+n)) a.free (kC a.lot.Name a.lot.Yarn a.lot.Dye (w64 (a.lot.Stock-n)) a.known a.hold.Lot a.hold.Order (if(w64 (a.hold.Reserved-n))>0 then(w64 (a.hold.Reserved-n))else 0) (w64 (a.hold.Taken+n)) a.free [])) ?_
 refine Goes.ret ?_
 obtain rfl:=si h
 exact(gw2 [.agg (.str a.lot.Name::(kB a.lot.Yarn a.lot.Dye (w64 (a.lot.Stock-n)) a.known a.hold.Lot a.hold.Order (if(w64 (a.hold.Reserved-n))>0 then(w64 (a.hold.Reserved-n))else 0) (w64 (a.hold.Taken+n)) a.free))] (FzW.agg (qJ.cons (Ub tS) (qJ.cons (Ub tS) (qJ.cons (Ub tS) (qJ.cons (Ub tI) (qJ.cons (Ub tB) (qJ.cons (Ub tS) (qJ.cons (Ub tS) (qJ.cons (Ub tI) (qJ.cons (Ub tI) (qJ.cons (Ub tI) qJ.nil))))))))))))
def qfb (a:qa) (n:Int):Option Bool:=
 some (decide (n<=a.hold.Taken))
theorem qi8 (a:qa) (n:Int) {res:Bool} (h:qfb a n=some res):qp ZT (.fn 141) (kAC a.lot.Name a.lot.Yarn a.lot.Dye a.lot.Stock a.known a.hold.Lot a.hold.Order a.hold.Reserved a.hold.Taken a.free n) [] (.bool res) []:=by
 unfold qfb at h
 refine Uc Tryz.func141 rfl rfl (m:=10) rfl (rs:=[.tmp 4]) rfl (l:=(kX a.lot.Name a.lot.Yarn a.lot.Dye a.lot.Stock a.known a.hold.Lot a.hold.Order a.hold.Reserved a.hold.Taken a.free n)) rfl ?_
 refine sg fol ((1,.i n)::(kAI [])) (kC a.lot.Name a.lot.Yarn a.lot.Dye a.lot.Stock a.known a.hold.Lot a.hold.Order a.hold.Reserved a.hold.Taken a.free []) ?_
 refine sh fol [(4,.bool (decide (n<=a.hold.Taken)))] ?_
 refine Goes.ret ?_
 obtain rfl:=si h
 exact(gw2 [.bool (decide (n<=a.hold.Taken))] (Ub tB))
def qcp (a:qa) (n:Int):Option qa:=
 some (⟨(⟨a.lot.Name,a.lot.Yarn,a.lot.Dye,w64 (a.lot.Stock+n)⟩:qB),a.known,(⟨a.hold.Lot,a.hold.Order,a.hold.Reserved,w64 (a.hold.Taken-n)⟩:qf),a.free⟩:qa)
theorem qfg (a:qa) (n:Int) {res:qa} (h:qcp a n=some res):qp ZT (.fn 142) (kAC a.lot.Name a.lot.Yarn a.lot.Dye a.lot.Stock a.known a.hold.Lot a.hold.Order a.hold.Reserved a.hold.Taken a.free n) [] (.agg (.str res.lot.Name::(kB res.lot.Yarn res.lot.Dye res.lot.Stock res.known res.hold.Lot res.hold.Order res.hold.Reserved res.hold.Taken res.free))) []:=by
 unfold qcp at h
 refine Uc Tryz.func142 rfl rfl (m:=20) rfl (rs:=[.cell 4 182]) rfl (l:=(kX a.lot.Name a.lot.Yarn a.lot.Dye a.lot.Stock a.known a.hold.Lot a.hold.Order a.hold.Reserved a.hold.Taken a.free n)) rfl ?_
 refine sg fol ((1,.i n)::(kN [])) (kC a.lot.Name a.lot.Yarn a.lot.Dye a.lot.Stock a.known a.hold.Lot a.hold.Order a.hold.Reserved a.hold.Taken a.free (kL [])) ?_
 refine sg fol ((1,.i n)::(kN [])) (kC a.lot.Name a.lot.Yarn a.lot.Dye (w64 (a.lot.Stock+n)) a.known a.hold.Lot a.hold.Order a.hold.Reserved a.hold.Taken a.free (kL [])) ?_
 refine sg fol (kN []) (kC a.lot.Name a.lot.Yarn a.lot.Dye (w64 (a.lot.Stock+n)) a.known a.hold.Lot a.hold.Order a.hold.Reserved (w64 (a.hold.Taken-n)) a.free (kL [])) ?_
 refine sg fol (kAf []) (kC a.lot.Name a.lot.Yarn a.lot.Dye (w64 (a.lot.Stock+n)) a.known a.hold.Lot a.hold.Order a.hold.Reserved (w64 (a.hold.Taken-n)) a.free (kC a.lot.Name a.lot.Yarn a.lot.Dye (w64 (a.lot.Stock+n)) a.known a.hold.Lot a.hold.Order a.hold.Reserved (w64 (a.hold.Taken-n)) a.free [])) ?_
 refine Goes.ret ?_
 obtain rfl:=si h
 exact(gw2 [.agg (.str a.lot.Name::(kB a.lot.Yarn a.lot.Dye (w64 (a.lot.Stock+n)) a.known a.hold.Lot a.hold.Order a.hold.Reserved (w64 (a.hold.Taken-n)) a.free))] (FzW.agg (qJ.cons (Ub tS) (qJ.cons (Ub tS) (qJ.cons (Ub tS) (qJ.cons (Ub tI) (qJ.cons (Ub tB) (qJ.cons (Ub tS) (qJ.cons (Ub tS) (qJ.cons (Ub tI) (qJ.cons (Ub tI) (qJ.cons (Ub tI) qJ.nil))))))))))))
def qaO:Option Unit:=
 some ()
theorem zA {res:Unit} (h:qaO=some res):qp ZT (.fn 78) [] [] (fm1) []:=by
 unfold qaO at h
 refine Uc Tryz.func78 rfl rfl (m:=8) rfl (rs:=[.tmp 0]) rfl (l:=[]) rfl ?_
 refine sh fol [] ?_
 refine sg fol [(0,.map 0)] [.map kAZ [.agg [.func (.func 132) [] [],.func (.func 133) [] []],.agg [.func (.func 134) [] [],.func (.func 135) [] []],.agg [.func (.func 137) [] [],.func (.func 138) [] []],.agg [.func (.func 139) [] [],.func (.func 140) [] []],.agg [.func (.func 141) [] [],.func (.func 142) [] []]]] ?_
 refine Goes.ret ?_
 obtain rfl:=si h
 exact(gw2 [.map 0] (FzW.of (by kernel_rfl)))
def qck (N:Nat) (a:Str):Option Int:=
 (if(!(a==[]))=true then
 (qbE N a).bind fun b=>
 (qam (!b) 8).bind fun c=>
 some c
 else
 (qam false 8).bind fun d=>
 some d:Option Int).bind fun e=>
 some e
theorem qjp (N:Nat) (b:Str) {res:Int} (h:qck N b=some res):qp ZT (.fn 79) [.str b] [] (.i res) []:=by
 unfold qck at h
 refine Uc Tryz.func79 rfl rfl (m:=11) rfl (rs:=[.tmp 2]) rfl (l:=[(0,.str b)]) rfl ?_
 refine sh fol [(0,.str b)] ?_
 refine sq ?_
 obtain⟨g,a,h⟩:=bnd h
 refine Goes.cut (s':=(ofG 11 (kA4 g),[])) ?_ ?_
 ·rcases wyB a with⟨f,a⟩|⟨f,a⟩
  ·obtain⟨j,c,a⟩:=bnd a
   obtain⟨k,d,a⟩:=bnd a
   obtain rfl:=si a
   exact tr fol [2,4,7] (kA4 k) (ac (gw f) (ac (cv (qfv N b c)) (ac (cv (qae (!j) 8 d)) az)))
  obtain⟨n,e,a⟩:=bnd a
  obtain rfl:=si a
  exact tr fol [2,7] (kA4 n) (ac (gw f) (ac (cv (qae false 8 e)) az))
 refine Goes.ret ?_
 obtain rfl:=si h
 exact(gw2 [.i g] (Ub tI))
def qbr (N:Nat) (e:qb):Option Int:=
 ((qaO).bind fun t=>
 if(e.Kind==[114,101,99,101,105,118,101])=true then
 some true
 else
 if(e.Kind==[114,101,115,101,114,118,101])=true then
 some true
 else
 if(e.Kind==[114,101,108,101,97,115,101])=true then
 some true
 else
 if(e.Kind==[116,97,107,101])=true then
 some true
 else
 if(e.Kind==[114,101,116,117,114,110])=true then
 some true
 else
 some false:Option Bool).bind fun p=>
 (qam (!p) 13).bind fun q=>
 (qbY e.Day 0 99999).bind fun f=>
 (qbY e.Amount 1 999999999).bind fun g=>
 (qcH N e.Lot).bind fun h=>
 (qbm N ([q,f,g,h]:List Int)).bind fun b=>
 if(!decide (b=0))=true then
 some b
 else
 if(e.Kind==[114,101,99,101,105,118,101])=true then
 (qcH N e.Yarn).bind fun i=>
 (qck N e.Dye).bind fun j=>
 (qam (!(e.Order==[])) 1).bind fun k=>
 (qbm N ([i,j,k]:List Int)).bind fun l=>
 some l
 else
 ((qcH N e.Order).bind fun a=>
 if(!(e.Yarn==[]))=true then
 (qam true 1).bind fun c=>
 (qbm N ([a,c]:List Int)).bind fun m=>
 some (a,c,m)
 else
 (qam (!(e.Dye==[])) 1).bind fun d=>
 (qbm N ([a,d]:List Int)).bind fun n=>
 some (a,d,n):Option (Int×Int×Int)).bind fun(r,s,o)=>
 some o
theorem qh9 (N:Nat) (e:qb) {res:Int} (h:qbr N e=some res):qp ZT (.fn 30) [.agg (kA e.Kind e.Day e.Lot e.Amount e.Yarn e.Dye e.Order)] [] (.i res) []:=by
 unfold qbr at h
 refine Uc Tryz.func30 rfl rfl (m:=59) rfl (rs:=[.tmp 2]) rfl (l:=[(0,.agg [.str e.Kind,.i e.Day,.str e.Lot,.i e.Amount,.str e.Yarn,.str e.Dye,.str e.Order])]) rfl ?_
 refine sg fol (kAW []) (kE e.Kind e.Day e.Lot e.Amount e.Yarn e.Dye e.Order []) ?_
 refine sq ?_
 obtain⟨Y,a,h⟩:=bnd h
 refine Goes.cutS (s':=(ofG 59 (kAW [(4,.bool Y)]),(kE e.Kind e.Day e.Lot e.Amount e.Yarn e.Dye e.Order []))) ?_ ?_
 ·obtain⟨Z,g,a⟩:=bnd a
  rcases wyB a with⟨u,a⟩|⟨u,a⟩
  ·obtain rfl:=si a
   exact zR.sub (zR.rq fol [0,3] (kAW kAv) (kE e.Kind e.Day e.Lot e.Amount e.Yarn e.Dye e.Order [.cells [.func (.func 132) [] [],.func (.func 133) [] []]]) (ac (cv (zA g)) (ac (hs (.done (yu ZT 143 (fm1) (.str e.Kind) true) (.tuple [.agg [.func (.func 132) [] [],.func (.func 133) [] []],.bool true])) (qkz qdW [[114,101,99,101,105,118,101],[114,101,115,101,114,118,101],[114,101,108,101,97,115,101],[116,97,107,101],[114,101,116,117,114,110]] (yQ u) rfl)) az))) (Sub.norm [] [some 0] rfl rfl (.kp (.keep (.same nB) .nil)) (.kb rfl (.same sn) .nil))
  rcases wyB a with⟨J,a⟩|⟨J,a⟩
  ·obtain rfl:=si a
   exact zR.sub (zR.rq fol [0,3] (kAW kAv) (kE e.Kind e.Day e.Lot e.Amount e.Yarn e.Dye e.Order [.cells [.func (.func 134) [] [],.func (.func 135) [] []]]) (ac (cv (zA g)) (ac (hs (.done (yu ZT 143 (fm1) (.str e.Kind) true) (.tuple [.agg [.func (.func 134) [] [],.func (.func 135) [] []],.bool true])) (qkz qdW [[114,101,99,101,105,118,101],[114,101,115,101,114,118,101],[114,101,108,101,97,115,101],[116,97,107,101],[114,101,116,117,114,110]] (qP u (yQ J)) rfl)) az))) (Sub.norm [] [some 0] rfl rfl (.kp (.keep (.same nB) .nil)) (.kb rfl (.same sn) .nil))
  rcases wyB a with⟨K,a⟩|⟨K,a⟩
  ·obtain rfl:=si a
   exact zR.sub (zR.rq fol [0,3] (kAW kAv) (kE e.Kind e.Day e.Lot e.Amount e.Yarn e.Dye e.Order [.cells [.func (.func 137) [] [],.func (.func 138) [] []]]) (ac (cv (zA g)) (ac (hs (.done (yu ZT 143 (fm1) (.str e.Kind) true) (.tuple [.agg [.func (.func 137) [] [],.func (.func 138) [] []],.bool true])) (qkz qdW [[114,101,99,101,105,118,101],[114,101,115,101,114,118,101],[114,101,108,101,97,115,101],[116,97,107,101],[114,101,116,117,114,110]] (qP u (qP J (yQ K))) rfl)) az))) (Sub.norm [] [some 0] rfl rfl (.kp (.keep (.same nB) .nil)) (.kb rfl (.same sn) .nil))
  rcases wyB a with⟨Q,a⟩|⟨Q,a⟩
  ·obtain rfl:=si a
   exact zR.sub (zR.rq fol [0,3] (kAW kAv) (kE e.Kind e.Day e.Lot e.Amount e.Yarn e.Dye e.Order [.cells [.func (.func 139) [] [],.func (.func 140) [] []]]) (ac (cv (zA g)) (ac (hs (.done (yu ZT 143 (fm1) (.str e.Kind) true) (.tuple [.agg [.func (.func 139) [] [],.func (.func 140) [] []],.bool true])) (qkz qdW [[114,101,99,101,105,118,101],[114,101,115,101,114,118,101],[114,101,108,101,97,115,101],[116,97,107,101],[114,101,116,117,114,110]] (qP u (qP J (qP K (yQ Q)))) rfl)) az))) (Sub.norm [] [some 0] rfl rfl (.kp (.keep (.same nB) .nil)) (.kb rfl (.same sn) .nil))
  rcases wyB a with⟨T,a⟩|⟨T,a⟩
  ·obtain rfl:=si a
   exact zR.sub (zR.rq fol [0,3] (kAW kAv) (kE e.Kind e.Day e.Lot e.Amount e.Yarn e.Dye e.Order [.cells [.func (.func 141) [] [],.func (.func 142) [] []]]) (ac (cv (zA g)) (ac (hs (.done (yu ZT 143 (fm1) (.str e.Kind) true) (.tuple [.agg [.func (.func 141) [] [],.func (.func 142) [] []],.bool true])) (qkz qdW [[114,101,99,101,105,118,101],[114,101,115,101,114,118,101],[114,101,108,101,97,115,101],[116,97,107,101],[114,101,116,117,114,110]] (qP u (qP J (qP K (qP Q (yQ T))))) rfl)) az))) (Sub.norm [] [some 0] rfl rfl (.kp (.keep (.same nB) .nil)) (.kb rfl (.same sn) .nil))
  obtain rfl:=si a
  exact zR.sub (zR.rq fol [0,3] (kAW kAt) (kE e.Kind e.Day e.Lot e.Amount e.Yarn e.Dye e.Order [.cells [.nilfunc,.nilfunc]]) (ac (cv (zA g)) (ac (hs (.done (yu ZT 143 (fm1) (.str e.Kind) true) (.tuple [.agg [.nilfunc,.nilfunc],.bool false])) (qsf qdW [[114,101,99,101,105,118,101],[114,101,115,101,114,118,101],[114,101,108,101,97,115,101],[116,97,107,101],[114,101,116,117,114,110]] (qP u (qP J (qP K (qP Q (qP T (rfl)))))))) az))) (Sub.norm [] [some 0] rfl rfl (.kp (.keep (.same nB) .nil)) (.kb rfl (.same sn) .nil))
 intro _ hsub
 refine Goes.sub hsub ?_
 refine sq ?_
 obtain⟨n,L,h⟩:=bnd h
 obtain⟨c,v,h⟩:=bnd h
 obtain⟨d,w,h⟩:=bnd h
 obtain⟨f,x,h⟩:=bnd h
 obtain⟨k,y,h⟩:=bnd h
 refine sq (gq fol [2,5,8,11,13] (kAW (kAY k)) (kE e.Kind e.Day e.Lot e.Amount e.Yarn e.Dye e.Order [.cells [.i n,.i c,.i d,.i f]]) (ac (cv (qae (!Y) 13 L)) (ac (cv (qet e.Day 0 99999 v)) (ac (cv (qet e.Amount 1 999999999 w)) (ac (cv (qdB N e.Lot x)) (ac (hs (.call 50 [.slice 1 0 4 4 1] (kE e.Kind e.Day e.Lot e.Amount e.Yarn e.Dye e.Order [.cells [.i n,.i c,.i d,.i f]]) [1] [vl encI ([n,c,d,f]:List Int)] (.i k)) (qaD (FzL.cons (Fz.lit rfl rfl (Uh (AllST.cons tI (AllST.cons tI (AllST.cons tI (AllST.cons tI AllST.nil)))))) FzL.nil) (qcd N ([n,c,d,f]:List Int) y) tI rfl)) az))))) ?_)
 refine sh fol (kAW [(5,.i k),(28,.bool (!decide (k=0)))]) ?_
 refine ihB h (fun U h=>?_) (fun U h=>?_)
 ·refine sh fol (kA4 k) ?_
  refine Goes.ret ?_
  obtain rfl:=si h
  exact(gw2 [.i k] (Ub tI))
 refine Goes.skip ?_
 refine sq ?_
 refine sh fol (kAW [(32,.bool (e.Kind==[114,101,99,101,105,118,101]))]) ?_
 refine ihB h (fun V h=>?_) (fun V h=>?_)
 ·obtain⟨p,z,h⟩:=bnd h
  obtain⟨q,A,h⟩:=bnd h
  obtain⟨r,B,h⟩:=bnd h
  obtain⟨C,D,h⟩:=bnd h
  refine sq (gq fol [2,5,9,11] (kA4 C) (kE e.Kind e.Day e.Lot e.Amount e.Yarn e.Dye e.Order [.cells [.i n,.i c,.i d,.i f],.cells [.i p,.i q,.i r]]) (ac (cv (qdB N e.Yarn z)) (ac (cv (qjp N e.Dye A)) (ac (cv (qae (!(e.Order==[])) 1 B)) (ac (hs (.call 50 [.slice 2 0 3 3 1] (kE e.Kind e.Day e.Lot e.Amount e.Yarn e.Dye e.Order [.cells [.i n,.i c,.i d,.i f],.cells [.i p,.i q,.i r]]) [2] [vl encI ([p,q,r]:List Int)] (.i C)) (qaD (FzL.cons (Fz.lit rfl rfl (Uh (AllST.cons tI (AllST.cons tI (AllST.cons tI AllST.nil))))) FzL.nil) (qcd N ([p,q,r]:List Int) D) tI rfl)) az)))) ?_)
  refine Goes.ret ?_
  obtain rfl:=si h
  exact(gw2 [.i C] (Ub tI))
 refine Goes.skip ?_
 refine sq ?_
 obtain⟨⟨W,X,M⟩,b,h⟩:=bnd h
 refine Goes.cut (s':=(ofG 59 (kA4 M),(kE e.Kind e.Day e.Lot e.Amount e.Yarn e.Dye e.Order (.cells [.i n,.i c,.i d,.i f]::(kAP W X []))))) ?_ ?_
 ·obtain⟨j,o,b⟩:=bnd b
  rcases wyB b with⟨E,b⟩|⟨E,b⟩
  ·obtain⟨s,F,b⟩:=bnd b
   obtain⟨O,G,b⟩:=bnd b
   simp only[ZI,ZP]at b
   obtain⟨rfl,rfl,rfl⟩:=b
   exact zR.rq fol [2,6,11,13] (kA4 O) (kE e.Kind e.Day e.Lot e.Amount e.Yarn e.Dye e.Order (.cells [.i n,.i c,.i d,.i f]::(kAP j s []))) (ac (cv (qdB N e.Order o)) (ac (gw E) (ac (cv (qae true 1 F)) (ac (hs (.call 50 [.slice 2 0 2 2 1] (kE e.Kind e.Day e.Lot e.Amount e.Yarn e.Dye e.Order (.cells [.i n,.i c,.i d,.i f]::(kAP j s []))) [2] [vl encI ([j,s]:List Int)] (.i O)) (qaD (FzL.cons (Fz.lit rfl rfl (Uh (AllST.cons tI (AllST.cons tI AllST.nil)))) FzL.nil) (qcd N ([j,s]:List Int) G) tI rfl)) az))))
  obtain⟨t,H,b⟩:=bnd b
  obtain⟨P,I,b⟩:=bnd b
  simp only[ZI,ZP]at b
  obtain⟨rfl,rfl,rfl⟩:=b
  exact zR.rq fol [2,6,11,13] (kA4 P) (kE e.Kind e.Day e.Lot e.Amount e.Yarn e.Dye e.Order (.cells [.i n,.i c,.i d,.i f]::(kAP j t []))) (ac (cv (qdB N e.Order o)) (ac (gw E) (ac (cv (qae (!(e.Dye==[])) 1 H)) (ac (hs (.call 50 [.slice 2 0 2 2 1] (kE e.Kind e.Day e.Lot e.Amount e.Yarn e.Dye e.Order (.cells [.i n,.i c,.i d,.i f]::(kAP j t []))) [2] [vl encI ([j,t]:List Int)] (.i P)) (qaD (FzL.cons (Fz.lit rfl rfl (Uh (AllST.cons tI (AllST.cons tI AllST.nil)))) FzL.nil) (qcd N ([j,t]:List Int) I) tI rfl)) az))))
 try dsimp only at h
 refine Goes.ret ?_
 obtain rfl:=si h
 exact(gw2 [.i M] (Ub tI))
def qb1 (N:Nat) (e:qb) (b:List qb):Option Int:=
 (qbr N e).bind fun a=>
 some a
theorem qhm (N:Nat) (e:qb) (b:List qb) {res:Int} (h:qb1 N e b=some res):qp ZT (.fn 56) (kAF e.Kind e.Day e.Lot e.Amount e.Yarn e.Dye e.Order [vl ql b]) [] (.i res) []:=by
 unfold qb1 at h
 refine Uc Tryz.func56 rfl rfl (m:=7) rfl (rs:=[.tmp 4]) rfl (l:=[(0,.agg [.str e.Kind,.i e.Day,.str e.Lot,.i e.Amount,.str e.Yarn,.str e.Dye,.str e.Order]),(1,vl ql b)]) rfl ?_
 refine sg fol (kAI []) (kE e.Kind e.Day e.Lot e.Amount e.Yarn e.Dye e.Order []) ?_
 obtain⟨c,a,h⟩:=bnd h
 refine sq (gr fol [1] (kA3 c) (ac (cv (qh9 N e a)) az) ?_)
 refine Goes.ret ?_
 obtain rfl:=si h
 exact(gw2 [.i c] (Ub tI))
def jE (N:Nat) (a:List qb):Nat->Int->Option (Unit⊕Int)
 |0,_=>none
 |K+1,b=>
  if b<(a.length:Int)then
  (idx a b).bind fun d=>
  (cut a 0 b).bind fun e=>
  (qb1 N d e).bind fun c=>
  if(!decide (c=0))=true then
  some (.inr c)
  else
  jE N a K (w64 (b+1))
  else
  some (.inl ())
def qbi (N:Nat) (a:List qb) (b:Int):Option Int:=
 if(a.length:Int)>b then
 some 5
 else
 (jE N a N 0).bind (fun
 |(.inl ())=>
 some 0
 |(.inr c)=>
 some c)
theorem qgh (N:Nat) (a:List qb) (c:Int) {res:Int} (h:qbi N a c=some res):qp ZT (.fn 55) [vl ql a,.i c,.func (.func 56) [] []] [] (.i res) []:=by
 unfold qbi at h
 refine Uc Tryz.func55 rfl rfl (m:=31) rfl (rs:=[.tmp 6]) rfl (l:=(kO a [(1,.i c),(2,.func (.func 56) [] [])])) rfl ?_
 refine sh fol (kO a [(1,.i c),(2,.func (.func 56) [] [])]) ?_
 refine sq ?_
 refine sh fol (kO a [(2,.func (.func 56) [] []),(13,.bool (decide ((a.length:Int)>c)))]) ?_
 refine ihD h (fun p h=>?_) (fun p h=>?_)
 ·refine sh fol [(6,.i 5)] ?_
  refine Goes.ret ?_
  obtain rfl:=si h
  exact(gw2 [.i 5] (Ub tI))
 refine Goes.skip ?_
 refine sq ?_
 refine sh fol (kO a [(2,.func (.func 56) [] []),(14,vl ql a),(15,.i (a.length:Int)),(16,.i 0)]) ?_
 refine Goes.block ?_
 obtain⟨k,g3,h⟩:=bnd h
 refine Goes.imp (Q:=fun x s'=>(x= .exit 0/\(.inl ())=k/\Sub s' (ofG 31 [],[]))\/(x= .ret/\ ∃n,(.inr n)=k/\jF ZT [.tmp 6] (.i n) .ret s')) ?_ ?_
 ·refine Ud (fun M s=> ∃(b:Int),s=(ofG 31 (kO a ((2,.func (.func 56) [] [])::(kAl a (a.length:Int) b []))),[])/\jE N a M b=some k) ?_ (m:=N) ⟨_,rfl,g3⟩
  rintro M s ⟨b,rfl,g3⟩
  cases M with
  |zero=>simp only[jE]at g3;cases g3
  |succ M=>
   rw[jE]at g3
   refine sh fol (kO a ((2,.func (.func 56) [] [])::(kAl a (a.length:Int) b [(17,.bool (decide (b<(a.length:Int))))]))) ?_
   refine sq ?_
   refine ihD g3 (fun q g3=>?_) (fun q g3=>?_)
   ·refine Goes.skip ?_
    refine sq (Goes.block ?_)
    obtain⟨d,e,g3⟩:=bnd g3
    refine sq (gq fol [1,2] (kO a ((2,.func (.func 56) [] [])::(7,.i b)::(8,.ptr 0 0)::(kAl a (a.length:Int) b []))) (kE d.Kind d.Day d.Lot d.Amount d.Yarn d.Dye d.Order []) (ac (iv qf2 ql e) (ac (la qpe ql e) az)) ?_)
    obtain⟨o,f,g3⟩:=bnd g3
    obtain⟨g,j,g3⟩:=bnd g3
    refine sq (gr fol [4,5] (kO a ((2,.func (.func 56) [] [])::(9,.i g)::(kAl a (a.length:Int) b []))) (ac (hs (.done (.opt (qak ZT 22 (vl ql a) none (some (.i b)) none)) (vl ql o)) (vl_sl qf2 (E:=ql) rfl none (some b) f)) (ac (cv (qhm N d o j)) az)) ?_)
    refine sh fol (kO a ((2,.func (.func 56) [] [])::(9,.i g)::(kAl a (a.length:Int) b [(28,.bool (!decide (g=0)))]))) ?_
    refine ihB g3 (fun r g3=>?_) (fun r g3=>?_)
    ·refine sh fol [(6,.i g)] ?_
     refine Goes.ret ?_
     obtain rfl:=si g3
     exact Or.inr (⟨rfl,_,rfl,(gw2 [.i g] (Ub tI))⟩)
    refine Goes.skip ?_
    refine gh fol (kO a ((2,.func (.func 56) [] [])::(kAl a (a.length:Int) (w64 (b+1)) []))) ?_
    exact⟨M,(ofG 31 (kO a ((2,.func (.func 56) [] [])::(kAl a (a.length:Int) (w64 (b+1)) []))),[]),Nat.lt_succ_self _,(Sub.norm [] [] rfl rfl (.keep (.same (qN ql _)) (.keep (.same (ky.func sn sn)) (.keep (.same (qN ql _)) (.keep (.same nI) (.keep (.same nI) .nil))))) .nil),_,rfl,g3⟩
   refine Goes.exit ?_
   obtain rfl:=si g3
   exact Or.inl (⟨rfl,rfl,(Sub.keep [] rfl rfl)⟩)
 rintro x s' (⟨rfl,rfl,hsub⟩|⟨rfl,t,rfl,hret⟩)
 ·try dsimp only at h
  refine Goes.sub hsub ?_
  refine sh fol [(6,.i 0)] ?_
  refine Goes.ret ?_
  obtain rfl:=si h
  exact(gw2 [.i 0] (Ub tI))
 try dsimp only at h
 obtain rfl:=si h
 exact hret
def qaM (N:Nat) (l:List qb):Option Int:=
 (qbi N l 1000).bind fun a=>
 some a
theorem yB (N:Nat) (l:List qb) {res:Int} (h:qaM N l=some res):qp ZT (.fn 18) [vl ql l] [] (.i res) []:=by
 unfold qaM at h
 refine Uc Tryz.func18 rfl rfl (m:=5) rfl (rs:=[.tmp 2]) rfl (l:=(kO l [])) rfl ?_
 refine sh fol (kO l []) ?_
 obtain⟨b,a,h⟩:=bnd h
 refine sq (gr fol [1] (kA4 b) (ac (hs (.call 55 [vl ql l,.i 1000,.func (.func 56) [] []] [] [] [vl ql l,.i 1000,.func (.func 56) [] []] (.i b)) (zn (FzL.cons (Ua (qw ql _ (nl rfl))) (FzL.cons (Ua tI) (FzL.cons (Fz.func FzL.nil FzL.nil) FzL.nil))) (qgh N l 1000 a) tI)) az) ?_)
 refine Goes.ret ?_
 obtain rfl:=si h
 exact(gw2 [.i b] (Ub tI))
def je (a:StateT) (lot:Str):Nat->Int->Int->Option Int
 |0,_,_=>none
 |K+1,b,c=>
  if b<(a.Holds.length:Int)then
  (((idx a.Holds b).bind fun d=>
  if(d.Lot==lot)=true then
  some (w64 (c+d.Reserved))
  else
  some c:Option Int)).bind fun e=>
  je a lot K (w64 (b+1)) e
  else
  some c
def qaX (N:Nat) (a:StateT) (lot:Str):Option Int:=
 (je a lot N 0 0).bind fun b=>
 some b
theorem qf5 (N:Nat) (a:StateT) (lot:Str) {res:Int} (h:qaX N a lot=some res):qp ZT (.fn 131) (kV a.Day a.Lots a.Holds [.str lot]) [] (.i res) []:=by
 unfold qaX at h
 refine Uc Tryz.func131 rfl rfl (m:=25) rfl (rs:=[.tmp 4]) rfl (l:=(kAD a.Day a.Lots a.Holds [(1,.str lot)])) rfl ?_
 refine sg fol ((1,.str lot)::(kAI [])) (kD a.Day a.Lots a.Holds []) ?_
 refine sh fol ((1,.str lot)::(kAI [(5,.i 0)])) ?_
 refine sq ?_
 refine sh fol [(1,.str lot),(5,.i 0),(9,vl qg a.Holds),(10,.i (a.Holds.length:Int)),(11,.i 0)] ?_
 refine Goes.block ?_
 obtain⟨j,g4,h⟩:=bnd h
 refine Goes.imp (Q:=fun x s'=>(x= .exit 0/\ ∃f,f=j/\Sub s' (ofG 25 (kAY f),[]))) ?_ ?_
 ·refine Goes.sub (s':=(ofG 25 [(1,.str lot),(5,.i 0),(9,vl qg a.Holds),(10,.i (a.Holds.length:Int)),(11,.i 0)],[])) (Sub.norm [] [] rfl rfl (.keep (.same nS) (.keep (.same nI) (.keep (.same (qN qg _)) (.keep (.same nI) (.keep (.same nI) .nil))))) .nil) ?_
  refine Ud (fun M s=> ∃(b:Int) (d:Int),s=(ofG 25 (kAe lot d a.Holds (a.Holds.length:Int) b []),[])/\je a lot M b d=some j) ?_ (m:=N) ⟨_,_,rfl,g4⟩
  rintro M s ⟨b,d,rfl,g4⟩
  cases M with
  |zero=>simp only[je]at g4;cases g4
  |succ M=>
   rw[je]at g4
   refine sh fol (kAe lot d a.Holds (a.Holds.length:Int) b [(12,.bool (decide (b<(a.Holds.length:Int))))]) ?_
   refine sq ?_
   refine ihD g4 (fun k g4=>?_) (fun k g4=>?_)
   ·refine Goes.skip ?_
    refine sq ?_
    obtain⟨n,g7,g4⟩:=bnd g4
    refine Goes.imp (Q:=fun x s'=>(x= .normal/\ ∃g,g=n/\Sub s' (ofG 25 (kAe lot g a.Holds (a.Holds.length:Int) b []),[]))) ?_ ?_
    ·refine Goes.block ?_
     obtain⟨e,c,g7⟩:=bnd g7
     refine sq (gq fol [0,1] [(1,.str lot),(5,.i d),(7,.ptr 0 0),(9,vl qg a.Holds),(10,.i (a.Holds.length:Int)),(11,.i b)] (kK e.Lot e.Order e.Reserved e.Taken []) (ac (iv qe6 qg c) (ac (la qnQ qg c) az)) ?_)
     refine sh fol [(1,.str lot),(5,.i d),(7,.ptr 0 0),(9,vl qg a.Holds),(10,.i (a.Holds.length:Int)),(11,.i b),(18,.bool (e.Lot==lot))] ?_
     refine ihB g7 (fun o g7=>?_) (fun o g7=>?_)
     ·refine gh fol (kAe lot (w64 (d+e.Reserved)) a.Holds (a.Holds.length:Int) b []) ?_
      obtain rfl:=si g7
      exact⟨rfl,_,rfl,(Sub.norm [] [] rfl rfl (.keep (.same nS) (.keep (.same nI) (.keep (.same (qN qg _)) (.keep (.same nI) (.keep (.same nI) .nil))))) .nil)⟩
     refine Goes.skip ?_
     obtain rfl:=si g7
     exact⟨rfl,_,rfl,(Sub.norm [] [] rfl rfl (.keep (.same nS) (.keep (.same nI) (.drop (.keep (.same (qN qg _)) (.keep (.same nI) (.keep (.same nI) .nil)))))) .nil)⟩
    rintro x s' ⟨rfl,g,rfl,hsub⟩
    refine Goes.sub hsub ?_
    refine gh fol (kAe lot g a.Holds (a.Holds.length:Int) (w64 (b+1)) []) ?_
    exact⟨M,(ofG 25 (kAe lot g a.Holds (a.Holds.length:Int) (w64 (b+1)) []),[]),Nat.lt_succ_self _,(Sub.refl _),_,_,rfl,g4⟩
   refine Goes.exit ?_
   obtain rfl:=si g4
   exact⟨rfl,_,rfl,(Sub.keep [5] rfl rfl)⟩
 rintro x s' ⟨rfl,f,rfl,hsub⟩
 refine Goes.sub hsub ?_
 refine sh fol (kA3 f) ?_
 refine Goes.ret ?_
 obtain rfl:=si h
 exact(gw2 [.i f] (Ub tI))
def qbx (N:Nat) (a:StateT) (l:qB):Option Int:=
 (qaX N a l.Name).bind fun b=>
 some (w64 (l.Stock-b))
theorem qic (N:Nat) (a:StateT) (l:qB) {res:Int} (h:qbx N a l=some res):qp ZT (.fn 77) (kV a.Day a.Lots a.Holds [.agg [.str l.Name,.str l.Yarn,.str l.Dye,.i l.Stock]]) [] (.i res) []:=by
 unfold qbx at h
 refine Uc Tryz.func77 rfl rfl (m:=12) rfl (rs:=[.tmp 4]) rfl (l:=(kAD a.Day a.Lots a.Holds [(1,.agg [.str l.Name,.str l.Yarn,.str l.Dye,.i l.Stock])])) rfl ?_
 refine sg fol (kG []) (kD a.Day a.Lots a.Holds (kU l.Name l.Yarn l.Dye l.Stock [])) ?_
 obtain⟨c,b,h⟩:=bnd h
 refine sq (gr fol [5] (kA3 (w64 (l.Stock-c))) (ac (cv (qf5 N a l.Name b)) az) ?_)
 refine Goes.ret ?_
 obtain rfl:=si h
 exact(gw2 [.i (w64 (l.Stock-c))] (Ub tI))
def xO (l:qB) (name:Str):Option Int:=
 (tCmp l.Name name).bind fun a=>
 some a
theorem qdG (l:qB) (name:Str) {res:Int} (h:xO l name=some res):qp ZT (.fn 144) [.agg [.str l.Name,.str l.Yarn,.str l.Dye,.i l.Stock],.str name] [] (.i res) []:=by
 unfold xO at h
 refine Uc Tryz.func144 rfl rfl (m:=9) rfl (rs:=[.tmp 4]) rfl (l:=[(0,.agg [.str l.Name,.str l.Yarn,.str l.Dye,.i l.Stock]),(1,.str name)]) rfl ?_
 refine sg fol ((1,.str name)::(kAI [])) (kU l.Name l.Yarn l.Dye l.Stock []) ?_
 obtain⟨b,a,h⟩:=bnd h
 refine sq (gr fol [3] (kA3 b) (ac (cv (qr2 l.Name name a)) az) ?_)
 refine Goes.ret ?_
 obtain rfl:=si h
 exact(gw2 [.i b] (Ub tI))
def ko (b:List qB) (c:Str):Nat->Int->Int->Option Int
 |0,_,_=>none
 |K+1,d,a=>
  if a<d then
  (((idx b (w64 (qnl .u64 (IntKind.wrap .u64 (w64 (a+d))) 1))).bind fun f=>
  (xO f c).bind fun e=>
  if e<0 then
  some (w64 ((w64 (qnl .u64 (IntKind.wrap .u64 (w64 (a+d))) 1))+1),d)
  else
  some (a,w64 (qnl .u64 (IntKind.wrap .u64 (w64 (a+d))) 1)):Option (Int×Int))).bind fun(g,h)=>
  ko b c K h g
  else
  some a
def jl (N:Nat) (a:List qB) (b:Str):Option (Int×Bool):=
 (ko a b N (a.length:Int) 0).bind fun c=>
 (if c<(a.length:Int)then
 (idx a c).bind fun d=>
 (xO d b).bind fun e=>
 some (decide (e=0))
 else
 some false:Option Bool).bind fun f=>
 some (c,f)
theorem qb9 (N:Nat) (a:List qB) (c:Str) {res:Int×Bool} (h:jl N a c=some res):qp ZT (.fn 143) [vl qo a,.str c,.func (.func 144) [] []] [] (.tuple [.i res.1,.bool res.2]) []:=by
 unfold jl at h
 refine Uc Tryz.func143 rfl rfl (m:=49) rfl (rs:=[.tmp 6,.tmp 7]) rfl (l:=(kAX a c [(2,.func (.func 144) [] [])])) rfl ?_
 refine sh fol (kAX a c [(2,.func (.func 144) [] [])]) ?_
 refine sh fol (kAX a c [(2,.func (.func 144) [] []),(8,.i (a.length:Int))]) ?_
 refine sh fol (kAX a c [(2,.func (.func 144) [] []),(8,.i (a.length:Int)),(9,.i 0),(10,.i (a.length:Int))]) ?_
 refine sq (Goes.block ?_)
 obtain⟨y,g4,h⟩:=bnd h
 refine Goes.imp (Q:=fun x s'=>(x= .exit 0/\ ∃j,j=y/\Sub s' (ofG 49 (kAX a c [(2,.func (.func 144) [] []),(8,.i (a.length:Int)),(9,.i j)]),[]))) ?_ ?_
 ·refine Ud (fun M s=> ∃(d:Int) (e:Int),s=(ofG 49 (kAX a c ((2,.func (.func 144) [] [])::(kA2 (a.length:Int) e d []))),[])/\ko a c M d e=some y) ?_ (m:=N) ⟨_,_,rfl,g4⟩
  rintro M s ⟨d,e,rfl,g4⟩
  cases M with
  |zero=>simp only[ko]at g4;cases g4
  |succ M=>
   rw[ko]at g4
   refine sq ?_
   refine sh fol (kAX a c ((2,.func (.func 144) [] [])::(kA2 (a.length:Int) e d [(17,.bool (decide (e<d)))]))) ?_
   refine ihD g4 (fun z g4=>?_) (fun z g4=>?_)
   ·refine Goes.skip ?_
    obtain⟨A,g8,g4⟩:=bnd g4
    refine Goes.imp (Q:=fun x s'=>(x= .normal/\ ∃q r,(q,r)=A/\Sub s' (ofG 49 (kAX a c ((2,.func (.func 144) [] [])::(kA2 (a.length:Int) q r []))),[]))) ?_ ?_
    ·refine Goes.block ?_
     refine sh fol (kAX a c ((2,.func (.func 144) [] [])::(kA2 (a.length:Int) e d [(11,.i (w64 (qnl .u64 (IntKind.wrap .u64 (w64 (e+d))) 1)))]))) ?_
     obtain⟨B,g,g8⟩:=bnd g8
     obtain⟨t,k,g8⟩:=bnd g8
     refine sq (gr fol [3,4,6] (kAX a c ((2,.func (.func 144) [] [])::(kA2 (a.length:Int) e d [(11,.i (w64 (qnl .u64 (IntKind.wrap .u64 (w64 (e+d))) 1))),(31,.bool (decide (t<0)))]))) (ac (iv qqr qo g) (ac (la ag71 qo g) (ac (cv (qdG B c k)) az))) ?_)
     refine ihD g8 (fun u g8=>?_) (fun u g8=>?_)
     ·refine gh fol (kAX a c ((2,.func (.func 144) [] [])::(kA2 (a.length:Int) (w64 ((w64 (qnl .u64 (IntKind.wrap .u64 (w64 (e+d))) 1))+1)) d []))) ?_
      obtain rfl:=si g8
      exact⟨rfl,_,_,rfl,(Sub.refl _)⟩
     refine gh fol (kAX a c ((2,.func (.func 144) [] [])::(kA2 (a.length:Int) e (w64 (qnl .u64 (IntKind.wrap .u64 (w64 (e+d))) 1)) []))) ?_
     obtain rfl:=si g8
     exact⟨rfl,_,_,rfl,(Sub.refl _)⟩
    rintro x s' ⟨rfl,q,r,rfl,hsub⟩
    try dsimp only at g4
    exact⟨M,(ofG 49 (kAX a c ((2,.func (.func 144) [] [])::(kA2 (a.length:Int) q r []))),[]),Nat.lt_succ_self _,(hsub.trans (Sub.refl _)),_,_,rfl,g4⟩
   refine Goes.exit ?_
   obtain rfl:=si g4
   exact⟨rfl,_,rfl,(Sub.keep [0,1,2,8,9] rfl rfl)⟩
 rintro x s' ⟨rfl,j,rfl,hsub⟩
 refine Goes.sub hsub ?_
 refine sq ?_
 obtain⟨p,b,h⟩:=bnd h
 refine Goes.cut (s':=(ofG 49 [(6,.i j),(7,.bool p)],[])) ?_ ?_
 ·rcases wyD b with⟨n,b⟩|⟨n,b⟩
  ·obtain⟨v,f,b⟩:=bnd b
   obtain⟨w,o,b⟩:=bnd b
   obtain rfl:=si b
   exact tr fol [4,8,9,11] [(6,.i j),(7,.bool (decide (w=0)))] (ac (gw n) (ac (iv qqr qo f) (ac (la ag71 qo f) (ac (cv (qdG v c o)) az))))
  obtain rfl:=si b
  exact tr fol [4] [(6,.i j),(7,.bool false)] (ac (gw n) az)
 refine Goes.ret ?_
 obtain rfl:=si h
 exact(gw2 [.i j,.bool p] (FzW.tuple (qJ.cons (Ub tI) (qJ.cons (Ub tB) qJ.nil))))
def xJ (N:Nat) (b:StateT) (name:Str):Option (Int×Bool):=
 (jl N b.Lots name).bind fun a=>
 some (a.1,a.2)
theorem qe4 (N:Nat) (a:StateT) (name:Str) {res:Int×Bool} (h:xJ N a name=some res):qp ZT (.fn 80) (kV a.Day a.Lots a.Holds [.str name]) [] (.tuple [.i res.1,.bool res.2]) []:=by
 unfold xJ at h
 refine Uc Tryz.func80 rfl rfl (m:=12) rfl (rs:=[.tmp 4,.tmp 5]) rfl (l:=(kAD a.Day a.Lots a.Holds [(1,.str name)])) rfl ?_
 refine sg fol ((1,.str name)::(kAI [])) (kD a.Day a.Lots a.Holds []) ?_
 obtain⟨b,c,h⟩:=bnd h
 refine sq (gr fol [3] [(4,.i b.1),(5,.bool b.2)] (ac (hs (.call 143 [vl qo a.Lots,.str name,.func (.func 144) [] []] [] [] [vl qo a.Lots,.str name,.func (.func 144) [] []] (.tuple [.i b.1,.bool b.2])) (zn (FzL.cons (Ua (qw qo _ (nl rfl))) (FzL.cons (Ua tS) (FzL.cons (Fz.func FzL.nil FzL.nil) FzL.nil))) (qb9 N a.Lots name c) (Still.tuple (AllST.cons tI (AllST.cons tB AllST.nil))))) az) ?_)
 refine Goes.ret ?_
 obtain rfl:=si h
 exact(gw2 [.i b.1,.bool b.2] (FzW.tuple (qJ.cons (Ub tI) (qJ.cons (Ub tB) qJ.nil))))
def qal (a:qf):Option KeyT:=
 some (⟨a.Lot,a.Order⟩:KeyT)
theorem qb2 (a:qf) {res:KeyT} (h:qal a=some res):qp ZT (.fn 125) [.agg (kAy a.Lot a.Order a.Reserved a.Taken)] [] (.agg [.str res.lot,.str res.order]) []:=by
 unfold qal at h
 refine Uc Tryz.func125 rfl rfl (m:=8) rfl (rs:=[.cell 2 190]) rfl (l:=[(0,.agg [.str a.Lot,.str a.Order,.i a.Reserved,.i a.Taken])]) rfl ?_
 refine sg fol (kAW [(2,.ptr 1 0)]) (kK a.Lot a.Order a.Reserved a.Taken [.cells [.str [],.str []]]) ?_
 refine sg fol [(2,.ptr 1 0)] (kK a.Lot a.Order a.Reserved a.Taken [.cells [.str a.Lot,.str a.Order]]) ?_
 refine Goes.ret ?_
 obtain rfl:=si h
 exact(gw2 [.agg [.str a.Lot,.str a.Order]] (FzW.agg (qJ.cons (Ub tS) (qJ.cons (Ub tS) qJ.nil))))
def vW (a:qf) (b:qa):Option Bool:=
 (qal a).bind fun c=>
 (qal b.hold).bind fun d=>
 some ((c.lot==d.lot)&&((c.order==d.order)&&true))
theorem qdX (d:qf) (c:qa) {res:Bool} (h:vW d c=some res):qp ZT (.fn 175) (kAS d.Lot d.Order d.Reserved d.Taken [.fptr [.str c.lot.Name,.str c.lot.Yarn,.str c.lot.Dye,.i c.lot.Stock,.bool c.known,.str c.hold.Lot,.str c.hold.Order,.i c.hold.Reserved,.i c.hold.Taken,.i c.free] 0]) [] (.bool res) []:=by
 unfold vW at h
 refine Uc Tryz.func175 rfl rfl (m:=10) rfl (rs:=[.tmp 3]) rfl (l:=[(0,.agg [.str d.Lot,.str d.Order,.i d.Reserved,.i d.Taken]),(1,.fptr [.str c.lot.Name,.str c.lot.Yarn,.str c.lot.Dye,.i c.lot.Stock,.bool c.known,.str c.hold.Lot,.str c.hold.Order,.i c.hold.Reserved,.i c.hold.Taken,.i c.free] 0)]) rfl ?_
 refine sg fol ((1,.fptr [.str c.lot.Name,.str c.lot.Yarn,.str c.lot.Dye,.i c.lot.Stock,.bool c.known,.str c.hold.Lot,.str c.hold.Order,.i c.hold.Reserved,.i c.hold.Taken,.i c.free] 0)::(kAI [])) (kK d.Lot d.Order d.Reserved d.Taken []) ?_
 obtain⟨f,j,h⟩:=bnd h
 obtain⟨g,k,h⟩:=bnd h
 refine sq (gr fol [1,4,5] (kA7 ((f.lot==g.lot)&&((f.order==g.order)&&true))) (ac (cv (qb2 d j)) (ac (cv (qb2 c.hold k)) (ac (hs (.done (.opt (qgu ZT .eql 190 (.tmp 5) (.tmp 8) (.agg [.str f.lot,.str f.order]) (.agg [.str g.lot,.str g.order]))) (.bool ((f.lot==g.lot)&&((f.order==g.order)&&true)))) (qss qq1 (e:=((f.lot==g.lot)&&((f.order==g.order)&&true))) (.cons (a:= .str f.lot) (b:= .str g.lot) rfl (by kernel_rfl) (by kernel_rfl) (by kernel_rfl) (.cons (a:= .str f.order) (b:= .str g.order) rfl (by kernel_rfl) (by kernel_rfl) (by kernel_rfl) .nil)))) az))) ?_)
 refine Goes.ret ?_
 obtain rfl:=si h
 exact(gw2 [.bool ((f.lot==g.lot)&&((f.order==g.order)&&true))] (Ub tB))
def qZ (a:List qf) (b:qa):Nat->Int->Option (Unit⊕Int)
 |0,_=>none
 |K+1,c=>
  if c<(a.length:Int)then
  (idx a c).bind fun d=>
  (vW d b).bind fun e=>
  if e=true then
  some (.inr c)
  else
  qZ a b K (w64 (c+1))
  else
  some (.inl ())
def yh (N:Nat) (a:List qf) (b:qa):Option Int:=
 (qZ a b N 0).bind (fun
 |(.inl ())=>
 some (-1)
 |(.inr c)=>
 some c)
theorem qd6 (N:Nat) (b:List qf) (a:qa) {res:Int} (h:yh N b a=some res):qp ZT (.fn 174) [vl qg b,.func (.func 175) [] [.fptr [.str a.lot.Name,.str a.lot.Yarn,.str a.lot.Dye,.i a.lot.Stock,.bool a.known,.str a.hold.Lot,.str a.hold.Order,.i a.hold.Reserved,.i a.hold.Taken,.i a.free] 0]] [] (.i res) []:=by
 unfold yh at h
 refine Uc Tryz.func174 rfl rfl (m:=19) rfl (rs:=[.tmp 4]) rfl (l:=(kAn b [(1,.func (.func 175) [] [.fptr [.str a.lot.Name,.str a.lot.Yarn,.str a.lot.Dye,.i a.lot.Stock,.bool a.known,.str a.hold.Lot,.str a.hold.Order,.i a.hold.Reserved,.i a.hold.Taken,.i a.free] 0])])) rfl ?_
 refine sh fol (kAn b [(1,.func (.func 175) [] [.fptr [.str a.lot.Name,.str a.lot.Yarn,.str a.lot.Dye,.i a.lot.Stock,.bool a.known,.str a.hold.Lot,.str a.hold.Order,.i a.hold.Reserved,.i a.hold.Taken,.i a.free] 0])]) ?_
 refine sq ?_
 refine sh fol (kAn b [(1,.func (.func 175) [] [.fptr [.str a.lot.Name,.str a.lot.Yarn,.str a.lot.Dye,.i a.lot.Stock,.bool a.known,.str a.hold.Lot,.str a.hold.Order,.i a.hold.Reserved,.i a.hold.Taken,.i a.free] 0]),(7,.i (b.length:Int)),(8,.i 0)]) ?_
 refine Goes.block ?_
 obtain⟨g,g2,h⟩:=bnd h
 refine Goes.imp (Q:=fun x s'=>(x= .exit 0/\(.inl ())=g/\Sub s' (ofG 19 [],[]))\/(x= .ret/\ ∃j,(.inr j)=g/\jF ZT [.tmp 4] (.i j) .ret s')) ?_ ?_
 ·refine Ud (fun M s=> ∃(c:Int),s=(ofG 19 (kAn b ((1,.func (.func 175) [] [.fptr [.str a.lot.Name,.str a.lot.Yarn,.str a.lot.Dye,.i a.lot.Stock,.bool a.known,.str a.hold.Lot,.str a.hold.Order,.i a.hold.Reserved,.i a.hold.Taken,.i a.free] 0])::(kAR (b.length:Int) c))),[])/\qZ b a M c=some g) ?_ (m:=N) ⟨_,rfl,g2⟩
  rintro M s ⟨c,rfl,g2⟩
  cases M with
  |zero=>simp only[qZ]at g2;cases g2
  |succ M=>
   rw[qZ]at g2
   refine sh fol (kAn b ((1,.func (.func 175) [] [.fptr [.str a.lot.Name,.str a.lot.Yarn,.str a.lot.Dye,.i a.lot.Stock,.bool a.known,.str a.hold.Lot,.str a.hold.Order,.i a.hold.Reserved,.i a.hold.Taken,.i a.free] 0])::(7,.i (b.length:Int))::(kAr c (decide (c<(b.length:Int)))))) ?_
   refine sq ?_
   refine ihD g2 (fun n g2=>?_) (fun n g2=>?_)
   ·refine Goes.skip ?_
    refine sq (Goes.block ?_)
    refine sh fol (kAn b ((1,.func (.func 175) [] [.fptr [.str a.lot.Name,.str a.lot.Yarn,.str a.lot.Dye,.i a.lot.Stock,.bool a.known,.str a.hold.Lot,.str a.hold.Order,.i a.hold.Reserved,.i a.hold.Taken,.i a.free] 0])::(5,.i c)::(kAR (b.length:Int) c))) ?_
    obtain⟨d,e,g2⟩:=bnd g2
    obtain⟨k,f,g2⟩:=bnd g2
    refine sq (gr fol [3,4,5] (kAn b [(1,.func (.func 175) [] [.fptr [.str a.lot.Name,.str a.lot.Yarn,.str a.lot.Dye,.i a.lot.Stock,.bool a.known,.str a.hold.Lot,.str a.hold.Order,.i a.hold.Reserved,.i a.hold.Taken,.i a.free] 0]),(5,.i c),(7,.i (b.length:Int)),(8,.i c),(16,.bool k)]) (ac (iv qe6 qg e) (ac (la qnQ qg e) (ac (hs (.call 175 (kAS d.Lot d.Order d.Reserved d.Taken [.fptr [.str a.lot.Name,.str a.lot.Yarn,.str a.lot.Dye,.i a.lot.Stock,.bool a.known,.str a.hold.Lot,.str a.hold.Order,.i a.hold.Reserved,.i a.hold.Taken,.i a.free] 0]) [] [] (kAS d.Lot d.Order d.Reserved d.Taken [.fptr [.str a.lot.Name,.str a.lot.Yarn,.str a.lot.Dye,.i a.lot.Stock,.bool a.known,.str a.hold.Lot,.str a.hold.Order,.i a.hold.Reserved,.i a.hold.Taken,.i a.free] 0]) (.bool k)) (zn (FzL.cons (Ua (Still.agg (AllST.cons tS (AllST.cons tS (AllST.cons tI (AllST.cons tI AllST.nil)))))) (FzL.cons (Ua (Still.fptr (AllST.cons tS (AllST.cons tS (AllST.cons tS (AllST.cons tI (AllST.cons tB (AllST.cons tS (AllST.cons tS (AllST.cons tI (AllST.cons tI (AllST.cons tI AllST.nil)))))))))))) FzL.nil)) (qdX d a f) tB)) az))) ?_)
    refine ihB g2 (fun o g2=>?_) (fun o g2=>?_)
    ·refine sh fol (kA3 c) ?_
     refine Goes.ret ?_
     obtain rfl:=si g2
     exact Or.inr (⟨rfl,_,rfl,(gw2 [.i c] (Ub tI))⟩)
    refine Goes.skip ?_
    refine gh fol (kAn b ((1,.func (.func 175) [] [.fptr [.str a.lot.Name,.str a.lot.Yarn,.str a.lot.Dye,.i a.lot.Stock,.bool a.known,.str a.hold.Lot,.str a.hold.Order,.i a.hold.Reserved,.i a.hold.Taken,.i a.free] 0])::(kAR (b.length:Int) (w64 (c+1))))) ?_
    exact⟨M,(ofG 19 (kAn b ((1,.func (.func 175) [] [.fptr [.str a.lot.Name,.str a.lot.Yarn,.str a.lot.Dye,.i a.lot.Stock,.bool a.known,.str a.hold.Lot,.str a.hold.Order,.i a.hold.Reserved,.i a.hold.Taken,.i a.free] 0])::(kAR (b.length:Int) (w64 (c+1))))),[]),Nat.lt_succ_self _,(Sub.refl _),_,rfl,g2⟩
   refine Goes.exit ?_
   obtain rfl:=si g2
   exact Or.inl (⟨rfl,rfl,(Sub.keep [] rfl rfl)⟩)
 rintro x s' (⟨rfl,rfl,hsub⟩|⟨rfl,p,rfl,hret⟩)
 ·try dsimp only at h
  refine Goes.sub hsub ?_
  refine sh fol kA5 ?_
  refine Goes.ret ?_
  obtain rfl:=si h
  exact(gw2 [.i (-1)] (Ub tI))
 try dsimp only at h
 obtain rfl:=si h
 exact hret
def kw (N:Nat) (b:StateT) (e:qb):Option qa:=
 (xJ N b e.Lot).bind fun f=>
 ((if f.2=true then
 (idx b.Lots f.1).bind fun c=>
 (qbx N b c).bind fun g=>
 some (c.Name,c.Yarn,c.Dye,c.Stock,g)
 else
 some (e.Lot,e.Yarn,e.Dye,0,0):Option (Str×Str×Str×Int×Int))).bind fun(l,m,n,o,p)=>
 (yh N b.Holds (⟨(⟨l,m,n,o⟩:qB),f.2,(⟨e.Lot,e.Order,0,0⟩:qf),p⟩:qa)).bind fun d=>
 ((if d>=0 then
 (idx b.Holds d).bind fun a=>
 some (a.Lot,a.Order,a.Reserved,a.Taken)
 else
 some (e.Lot,e.Order,0,0):Option (Str×Str×Int×Int))).bind fun(h,i,j,k)=>
 some (⟨(⟨l,m,n,o⟩:qB),f.2,(⟨h,i,j,k⟩:qf),p⟩:qa)
theorem vK (N:Nat) (a:StateT) (e:qb) {res:qa} (h:kw N a e=some res):qp ZT (.fn 113) (kV a.Day a.Lots a.Holds (kAF e.Kind e.Day e.Lot e.Amount e.Yarn e.Dye e.Order [])) [] (.agg (.str res.lot.Name::(kB res.lot.Yarn res.lot.Dye res.lot.Stock res.known res.hold.Lot res.hold.Order res.hold.Reserved res.hold.Taken res.free))) []:=by
 unfold kw at h
 refine Uc Tryz.func113 rfl rfl (m:=55) rfl (rs:=[.cell 4 182]) rfl (l:=(kAD a.Day a.Lots a.Holds (kAx e.Kind e.Day e.Lot e.Amount e.Yarn e.Dye e.Order []))) rfl ?_
 refine sg fol (kG (kAm [])) (kD a.Day a.Lots a.Holds (kE e.Kind e.Day e.Lot e.Amount e.Yarn e.Dye e.Order (kL []))) ?_
 obtain⟨b,y,h⟩:=bnd h
 refine sq (gr fol [3] (kG (kAm [(5,.i b.1),(6,.bool b.2)])) (ac (cv (qe4 N a e.Lot y)) az) ?_)
 refine sg fol (kAI (kAm [(5,.i b.1),(6,.bool b.2),(7,.ptr 3 0)])) (kD a.Day a.Lots a.Holds (kE e.Kind e.Day e.Lot e.Amount e.Yarn e.Dye e.Order (kL [.cells [.str e.Lot,.str e.Yarn,.str e.Dye,.i 0,.bool b.2,.str e.Lot,.str e.Order,.i 0,.i 0,.i 0]]))) ?_
 refine sq ?_
 refine sh fol (kAI (kAm [(5,.i b.1),(7,.ptr 3 0),(30,.bool b.2)])) ?_
 obtain⟨C,g7,h⟩:=bnd h
 refine Goes.imp (Q:=fun x s'=>(x= .normal/\ ∃c d f g j,(c,d,f,g,j)=C/\Sub s' (ofG 55 (kN [(7,.ptr 2 0)]),(kD a.Day a.Lots a.Holds (kL [.cells [.str c,.str d,.str f,.i g,.bool b.2,.str e.Lot,.str e.Order,.i 0,.i 0,.i j]]))))) ?_ ?_
 ·refine ihB g7 (fun D g7=>?_) (fun D g7=>?_)
  ·obtain⟨r,u,g7⟩:=bnd g7
   refine sq (gq fol [3,4] (kAI (kAm [(7,.ptr 3 0)])) (kD a.Day a.Lots a.Holds (kE e.Kind e.Day e.Lot e.Amount e.Yarn e.Dye e.Order (kL [.cells [.str r.Name,.str r.Yarn,.str r.Dye,.i r.Stock,.bool b.2,.str e.Lot,.str e.Order,.i 0,.i 0,.i 0]]))) (ac (iv qqr qo u) (ac (la ag71 qo u) az)) ?_)
   obtain⟨z,v,g7⟩:=bnd g7
   refine gq fol [3] (kAI (kAm [(7,.ptr 3 0)])) (kD a.Day a.Lots a.Holds (kE e.Kind e.Day e.Lot e.Amount e.Yarn e.Dye e.Order (kL [.cells [.str r.Name,.str r.Yarn,.str r.Dye,.i r.Stock,.bool b.2,.str e.Lot,.str e.Order,.i 0,.i 0,.i z]]))) (ac (cv (qic N a r v)) az) ?_
   obtain rfl:=si g7
   exact⟨rfl,_,_,_,_,_,rfl,(Sub.norm [] [some 0,some 2,some 3] rfl rfl (.kp (.kp (.kp .nil))) (.kb rfl (.same sn) (.kb rfl (.same sn) (.kb rfl (.same sn) .nil))))⟩
  refine Goes.skip ?_
  obtain rfl:=si g7
  exact⟨rfl,_,_,_,_,_,rfl,(Sub.norm [] [some 0,some 2,some 3] rfl rfl (.kp (.kp (.drop (.kp .nil)))) (.kb rfl (.same sn) (.kb rfl (.same sn) (.kb rfl (.same sn) .nil))))⟩
 rintro x s' ⟨rfl,c,d,f,g,j,rfl,hsub⟩
 try dsimp only at h
 refine Goes.sub hsub ?_
 refine sq ?_
 obtain⟨s,w,h⟩:=bnd h
 refine sq (gr fol [3] (kN [(7,.ptr 2 0),(8,.i s)]) (ac (hs (.call 174 [vl qg a.Holds,.func (.func 175) [] [.ptr 2 0]] (kD a.Day a.Lots a.Holds (kL [.cells [.str c,.str d,.str f,.i g,.bool b.2,.str e.Lot,.str e.Order,.i 0,.i 0,.i j]])) [2] [vl qg a.Holds,.func (.func 175) [] [.fptr [.str (((⟨(⟨c,d,f,g⟩:qB),b.2,(⟨e.Lot,e.Order,0,0⟩:qf),j⟩:qa).lot).Name),.str (((⟨(⟨c,d,f,g⟩:qB),b.2,(⟨e.Lot,e.Order,0,0⟩:qf),j⟩:qa).lot).Yarn),.str (((⟨(⟨c,d,f,g⟩:qB),b.2,(⟨e.Lot,e.Order,0,0⟩:qf),j⟩:qa).lot).Dye),.i (((⟨(⟨c,d,f,g⟩:qB),b.2,(⟨e.Lot,e.Order,0,0⟩:qf),j⟩:qa).lot).Stock),.bool ((⟨(⟨c,d,f,g⟩:qB),b.2,(⟨e.Lot,e.Order,0,0⟩:qf),j⟩:qa).known),.str (((⟨(⟨c,d,f,g⟩:qB),b.2,(⟨e.Lot,e.Order,0,0⟩:qf),j⟩:qa).hold).Lot),.str (((⟨(⟨c,d,f,g⟩:qB),b.2,(⟨e.Lot,e.Order,0,0⟩:qf),j⟩:qa).hold).Order),.i (((⟨(⟨c,d,f,g⟩:qB),b.2,(⟨e.Lot,e.Order,0,0⟩:qf),j⟩:qa).hold).Reserved),.i (((⟨(⟨c,d,f,g⟩:qB),b.2,(⟨e.Lot,e.Order,0,0⟩:qf),j⟩:qa).hold).Taken),.i ((⟨(⟨c,d,f,g⟩:qB),b.2,(⟨e.Lot,e.Order,0,0⟩:qf),j⟩:qa).free)] 0]] (.i s)) (qaD (FzL.cons (Ua (qw qg _ (nl rfl))) (FzL.cons (Fz.func FzL.nil (FzL.cons (Fz.ptr rfl rfl (FzL.cons (Ua tS) (FzL.cons (Ua tS) (FzL.cons (Ua tS) (FzL.cons (Ua tI) (FzL.cons (Ua tB) (FzL.cons (Ua tS) (FzL.cons (Ua tS) (FzL.cons (Ua tI) (FzL.cons (Ua tI) (FzL.cons (Ua tI) FzL.nil))))))))))) FzL.nil)) FzL.nil)) (qd6 N a.Holds (⟨(⟨c,d,f,g⟩:qB),b.2,(⟨e.Lot,e.Order,0,0⟩:qf),j⟩:qa) w) tI rfl)) az) ?_)
 refine sh fol (kN [(7,.ptr 2 0),(8,.i s),(47,.bool (decide (s>=0)))]) ?_
 obtain⟨A,g16,h⟩:=bnd h
 refine Goes.imp (Q:=fun x s'=>(x= .normal/\ ∃k n o p,(k,n,o,p)=A/\Sub s' (ofG 55 [(4,.ptr 0 0),(7,.ptr 1 0)],(kL (kC c d f g b.2 k n o p j []))))) ?_ ?_
 ·refine ihD g16 (fun B g16=>?_) (fun B g16=>?_)
  ·obtain⟨t,q,g16⟩:=bnd g16
   refine gq fol [3,4] (kAf [(7,.ptr 2 0)]) (kD a.Day a.Lots a.Holds (kL (kC c d f g b.2 t.Lot t.Order t.Reserved t.Taken j []))) (ac (iv qe6 qg q) (ac (la qnQ qg q) az)) ?_
   obtain rfl:=si g16
   exact⟨rfl,_,_,_,_,rfl,(Sub.norm [] [some 1,some 2] rfl rfl (.kp (.kp .nil)) (.kb rfl (.same sn) (.kb rfl (.same sn) .nil)))⟩
  refine Goes.skip ?_
  obtain rfl:=si g16
  exact⟨rfl,_,_,_,_,rfl,(Sub.norm [] [some 1,some 2] rfl rfl (.drop (.kp (.kp .nil))) (.kb rfl (.same sn) (.kb rfl (.same sn) .nil)))⟩
 rintro x s' ⟨rfl,k,n,o,p,rfl,hsub⟩
 try dsimp only at h
 refine Goes.sub hsub ?_
 refine sg fol kA6 (kC c d f g b.2 k n o p j (kC c d f g b.2 k n o p j [])) ?_
 refine Goes.ret ?_
 obtain rfl:=si h
 exact(gw2 [.agg (.str c::(kB d f g b.2 k n o p j))] (FzW.agg (qJ.cons (Ub tS) (qJ.cons (Ub tS) (qJ.cons (Ub tS) (qJ.cons (Ub tI) (qJ.cons (Ub tB) (qJ.cons (Ub tS) (qJ.cons (Ub tS) (qJ.cons (Ub tI) (qJ.cons (Ub tI) (qJ.cons (Ub tI) qJ.nil))))))))))))
end Go.Av
