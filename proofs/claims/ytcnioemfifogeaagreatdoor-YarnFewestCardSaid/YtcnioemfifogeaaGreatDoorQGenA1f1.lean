/-
  Walks of functions: what each computes, as a plain function.
-/
import Derived.Test.YtcnioemfifogeaaGreatDoorAvJnQ3
noncomputable section
namespace Go.Av
open Go.Proofs Go.RowKit
abbrev ZT:=Tryz.prog
set_option linter.unusedSectionVars false
set_option linter.unusedVariables false
set_option linter.unusedSimpArgs false
set_option maxRecDepth 100000
theorem fol:Tryz.prog.follows .mixedOrders=true:=by kernel_rfl
structure qP where
 Name:Str
 Yarn:Str
 Dye:Str
 Stock:Int
def qg:Enc qP:=(encS.prod (encS.prod (encS.prod encI))).comap fun x=>(x.Name,x.Yarn,x.Dye,x.Stock)
instance:SE qg:=⟨nl rfl⟩
instance:SE (quy qg):=⟨nl rfl⟩
structure qG where
 Lot:Str
 Order:Str
 Reserved:Int
 Taken:Int
def qE:Enc qG:=(encS.prod (encS.prod (encI.prod encI))).comap fun x=>(x.Lot,x.Order,x.Reserved,x.Taken)
instance:SE qE:=⟨nl rfl⟩
instance:SE (quy qE):=⟨nl rfl⟩
structure StateT where
 Day:Int
 Lots:List qP
 Holds:List qG
def qwA:Enc StateT:=(encI.prod ((quy qg).prod (quy qE))).comap fun x=>(x.Day,x.Lots,x.Holds)
instance:SE qwA:=⟨nl rfl⟩
structure qgM where
 Day:Int
 Lots:List qP
 Holds:List qG
def qyM:Enc qgM:=(encI.prod ((quy qg).prod (quy qE))).comap fun x=>(x.Day,x.Lots,x.Holds)
instance:SE qyM:=⟨nl rfl⟩
structure qo where
 lot:qP
 known:Bool
 hold:qG
 free:Int
def qyn:Enc qo:=(qg.prod (encB.prod (qE.prod encI))).comap fun x=>(x.lot,x.known,x.hold,x.free)
instance:SE qyn:=⟨nl rfl⟩
structure ky where
 Kind:Str
 Day:Int
 Lot:Str
 Amount:Int
 Yarn:Str
 Dye:Str
 Order:Str
def qzZ:Enc ky:=(encS.prod (encI.prod (encS.prod (encI.prod (encS.prod (encS.prod encS)))))).comap fun x=>(x.Kind,x.Day,x.Lot,x.Amount,x.Yarn,x.Dye,x.Order)
instance:SE qzZ:=⟨nl rfl⟩
structure KeyT where
 lot:Str
 order:Str
def qCF:Enc KeyT:=(encS.prod encS).comap fun x=>(x.lot,x.order)
instance:SE qCF:=⟨nl rfl⟩
structure qvz where
 Yarn:Str
 Dye:Str
 Amount:Int
def qzu:Enc qvz:=(encS.prod (encS.prod encI)).comap fun x=>(x.Yarn,x.Dye,x.Amount)
instance:SE qzu:=⟨nl rfl⟩
abbrev kA (a:Str) (b:Int) (c:Str) (d:Int) (e:Str) (f:Str) (g:Str):List AV:=[.str a,.i b,.str c,.i d,.str e,.str f,.str g]
abbrev kB (a:Str) (b:Str) (c:Int) (d:Bool) (e:Str) (f:Str) (g:Int) (h:Int) (i:Int):List AV:=[.str a,.str b,.i c,.bool d,.str e,.str f,.i g,.i h,.i i]
abbrev kC (a:Str) (b:Str) (c:Str) (d:Int) (e:Bool) (f:Str) (g:Str) (h:Int) (i:Int) (j:Int) (x:List Blk):List Blk:= .cells [.str a,.str b,.str c,.i d,.bool e,.str f,.str g,.i h,.i i,.i j]::x
abbrev kD (a:Int) (b:List qP) (c:List qG) (x:List Blk):List Blk:= .cells [.i a,vl qg b,vl qE c]::x
abbrev kE (a:Int) (b:List qP) (c:List qG):List AV:=[.i a,vl qg b,vl qE c]
abbrev kF (a:Str) (b:Int) (c:Str) (d:Int) (e:Str) (f:Str) (g:Str) (x:List Blk):List Blk:= .cells [.str a,.i b,.str c,.i d,.str e,.str f,.str g]::x
abbrev kG (a:List qG) (x:List Blk):List Blk:= .cells (a.flatMap qE.c)::x
abbrev kH (x:List Blk):List Blk:= .cells [.i 0,.nilslice,.nilslice]::x
abbrev kI (x:List Blk):List Blk:= .cells [.str [],.str [],.str [],.i 0,.bool false,.str [],.str [],.i 0,.i 0,.i 0]::x
abbrev kJ (a:List Int) (x:List (Nat×AV)):List (Nat×AV):=(2,.ptr 0 0)::(3,.ptr 1 0)::(5,.ptr 2 0)::(6,vl encI a)::(11,.nilslice)::x
abbrev kK (a:Int) (b:Bool):List (Nat×AV):=[(5,.i a),(7,.i 5),(8,.i a),(16,.bool b)]
abbrev kL (a:Str) (b:Str) (c:Int) (d:Int) (x:List Blk):List Blk:= .cells [.str a,.str b,.i c,.i d]::x
abbrev kM (a:Int) (b:List Int) (c:List Int) (x:List (Nat×AV)):List (Nat×AV):=(3,.i a)::(4,.ptr 0 0)::(11,vl encI b)::(16,vl encI c)::x
abbrev kN (x:List (Nat×AV)):List (Nat×AV):=(2,.ptr 0 0)::(3,.ptr 1 0)::x
abbrev kO (a:List Int) (x:List Blk):List Blk:= .cells (a.flatMap encI.c)::x
abbrev kP {α0:Type} (a:List α0) (b:Int) (x:List (Nat×AV)):List (Nat×AV):=(3,.ptr 0 0)::(11,.gslice 1 a.length 1)::(22,.i b)::x
abbrev kQ {α0:Type} (a:List α0) (x:List (Nat×AV)):List (Nat×AV):=(0,.gslice 0 a.length 4)::x
abbrev kR (a:Str) (b:Str) (c:Str) (d:Int) (x:List Blk):List Blk:= .cells [.str a,.str b,.str c,.i d]::x
abbrev kS (a:Str) (b:Str) (c:Int) (x:List (Nat×AV)):List (Nat×AV):=(1,.str a)::(2,.str b)::(3,.i c)::(4,.ptr 0 0)::x
abbrev kT (a:Str) (b:Str) (c:Int) (x:List Blk):List Blk:= .cells [.str a,.str b,.i c]::x
abbrev kU (x:List (Nat×AV)):List (Nat×AV):=(2,.ptr 0 0)::x
abbrev kV (a:List Int) (b:Int) (c:Int) (x:List (Nat×AV)):List (Nat×AV):=(109,vl encI a)::(110,.i b)::(111,.i c)::x
abbrev kW (a:List qP) (x:List Blk):List Blk:= .cells (a.flatMap qg.c)::x
abbrev kX (a:Str) (b:Str) (c:Str) (d:Int) (e:Bool) (f:Str) (g:Str) (h:Int) (i:Int) (j:Int) (k:Int):List (Nat×AV):=[(0,.agg [.str a,.str b,.str c,.i d,.bool e,.str f,.str g,.i h,.i i,.i j]),(1,.i k)]
abbrev kY (a:List Int) (x:List (Nat×AV)):List (Nat×AV):=(3,.ptr 0 0)::(5,.ptr 1 0)::(6,vl encI a)::x
abbrev kZ (a:Int) (b:List qP) (c:List qG) (x:List (Nat×AV)):List (Nat×AV):=(0,.agg [.i a,vl qg b,vl qE c])::x
abbrev kAA (x:List (Nat×AV)):List (Nat×AV):=(1,.ptr 0 0)::x
abbrev kAB (a:Str) (b:Str) (c:Str) (d:Int) (e:Bool) (f:Str) (g:Str) (h:Int) (i:Int) (j:Int) (k:Int):List AV:=[.agg [.str a,.str b,.str c,.i d,.bool e,.str f,.str g,.i h,.i i,.i j],.i k]
abbrev kAC (a:Str) (b:Str) (x:List (Nat×AV)):List (Nat×AV):=(1,.str a)::(2,.str b)::(3,.ptr 0 0)::x
abbrev kAD (a:List qP) (x:List (Nat×AV)):List (Nat×AV):=(0,vl qg a)::x
abbrev kAE (a:Int) (b:List qP) (c:List qG) (x:List AV):List AV:= .agg [.i a,vl qg b,vl qE c]::x
abbrev kAF (x:List (Nat×AV)):List (Nat×AV):=(4,.ptr 1 0)::(5,.ptr 2 0)::(6,.ptr 3 0)::x
abbrev kAG (a:Int) (b:Int) (x:List (Nat×AV)):List (Nat×AV):=(10,.i a)::(11,.i b)::x
abbrev kAH (a:Int) (b:Int) (c:List Int) (d:Int) (x:List (Nat×AV)):List (Nat×AV):=(84,.i a)::(85,.i b)::(89,vl encI c)::(90,.i d)::x
abbrev kAI {α0:Type} (a:List α0) (b:Int) (c:Int) (d:List qP) (e:Int) (x:List (Nat×AV)):List (Nat×AV):=(11,.gslice 1 a.length 1)::(12,.i b)::(13,.i c)::(14,.ptr 2 0)::(34,vl qg d)::(35,.i e)::(36,.i c)::x
abbrev kAJ (a:Int):List (Nat×AV):=[(7,.i 5),(8,.i a)]
abbrev kAK (a:List qP) (b:Int) (x:List (Nat×AV)):List (Nat×AV):=(2,.ptr 1 0)::(3,.ptr 2 0)::(12,vl qg a)::(13,.i b)::x
abbrev kAL {α1:Type} {α2:Type} (a:Int) (b:List α1) (c:List α2) (x:List Blk):List Blk:= .cells [.i a,.gslice 2 b.length 4,.gslice 3 c.length 4]::x
abbrev kAM (a:Str) (b:Str) (c:Int) (d:Int) (x:List AV):List AV:= .agg [.str a,.str b,.i c,.i d]::x
abbrev kAN (a:Int) (b:Int):List (Nat×AV):=[(5,.i a),(6,.i b)]
abbrev kAO (a:Int) (b:Int):List Blk:=[.cells [.i a,.i b]]
abbrev kAP {α1:Type} (a:Int) (b:List α1) (x:List Blk):List Blk:= .cells [.i a,.gslice 4 b.length 4,.nilslice]::x
abbrev kAQ (a:List qP) (b:Int) (c:Int) (x:List (Nat×AV)):List (Nat×AV):=(22,vl qg a)::(23,.i b)::(24,.i c)::x
abbrev kAR (a:List qP) (b:Int) (c:Int) (x:List (Nat×AV)):List (Nat×AV):=(224,vl qg a)::(225,.i b)::(226,.i c)::x
abbrev kAS (a:List qG) (x:List (Nat×AV)):List (Nat×AV):=(0,vl qE a)::x
abbrev kAT (x:List (Nat×AV)):List (Nat×AV):=(4,.ptr 2 0)::(5,.ptr 3 0)::x
abbrev kAU (a:Int) (b:Int) (x:List (Nat×AV)):List (Nat×AV):=(7,.i a)::(8,.i b)::x
abbrev kAV (a:Int) (b:Int) (x:List (Nat×AV)):List (Nat×AV):=(252,.i a)::(253,.i b)::x
abbrev kAW {α2:Type} (a:Int) (b:List qP) (c:List α2) (x:List Blk):List Blk:= .cells [.i a,vl qg b,.gslice 2 c.length 4]::x
abbrev kAX {α2:Type} (a:Int) (b:List qP) (c:List α2) (x:List Blk):List Blk:= .cells [.i a,vl qg b,.oslice 2 c.length 4]::x
abbrev kAY (a:List Int) (b:List Int) (x:List (Nat×AV)):List (Nat×AV):=(0,vl encI a)::(1,vl encI b)::x
abbrev kAZ:List (Nat×AV):=[(4,.ptr 1 0)]
abbrev kAa {α0:Type} (a:List α0) (x:List (Nat×AV)):List (Nat×AV):=(11,.gslice 1 a.length 1)::x
abbrev kAb:List AV:=[.str [114,101,99,101,105,118,101],.str [114,101,115,101,114,118,101],.str [114,101,108,101,97,115,101],.str [116,97,107,101],.str [114,101,116,117,114,110]]
abbrev kAc (a:Int) (b:List qP) (x:List Blk):List Blk:= .cells [.i a,vl qg b,.nilslice]::x
abbrev kAd:List (Nat×AV):=[(4,.ptr 0 0),(6,.ptr 1 0)]
abbrev kAe {α1:Type} (a:Int) (b:List α1) (c:Int) (x:List (Nat×AV)):List (Nat×AV):=(17,.i a)::(18,.gslice 1 b.length 1)::(19,.i c)::x
abbrev kAf:List (Nat×AV):=[(4,.bool false)]
abbrev kAg:List (Nat×AV):=[(5,.ptr 2 0),(67,.bool true)]
abbrev kAh (a:Str) (x:List (Nat×AV)):List (Nat×AV):=(0,.str a)::(6,.ptr 0 0)::x
abbrev kAi (a:Bool):List (Nat×AV):=[(2,.bool a)]
abbrev kAj (a:Str) (b:Int) (x:List (Nat×AV)):List (Nat×AV):=(0,.str a)::(3,.i b)::x
abbrev kAk (a:Int) (b:Int) (x:List (Nat×AV)):List (Nat×AV):=(15,.i a)::(16,.i b)::x
abbrev kAl {α1:Type} (a:Int) (b:List α1) (x:List Blk):List Blk:= .cells [.i a,.gslice 3 b.length 4,.nilslice]::x
abbrev kAm (a:Int) (b:List qP) (c:Int) (d:Int) (x:List (Nat×AV)):List (Nat×AV):=(12,.i a)::(34,vl qg b)::(35,.i c)::(36,.i d)::x
abbrev kAn (a:Int):List (Nat×AV):=[(5,.i a)]
abbrev kAo {α0:Type} (a:List α0) (x:List (Nat×AV)):List (Nat×AV):=(11,.gslice 2 a.length 1)::x
abbrev kAp:List (Nat×AV):=[(4,.i (-1))]
abbrev kAq (a:List qG) (b:Int) (x:List (Nat×AV)):List (Nat×AV):=(26,vl qE a)::(27,.i b)::x
abbrev kAr:List (Nat×AV):=[(5,.ptr 2 0),(6,.ptr 3 0)]
abbrev kAs (a:Int) (x:List (Nat×AV)):List (Nat×AV):=(5,.i a)::(6,.ptr 1 0)::x
abbrev kAt (a:Str) (b:Int) (c:List qG) (x:List (Nat×AV)):List (Nat×AV):=(1,.str a)::(5,.i b)::(9,vl qE c)::x
abbrev kAu (a:Str) (b:Str) (c:Str) (d:Int) (x:List AV):List AV:= .agg [.str a,.str b,.str c,.i d]::x
abbrev kAv:List (Nat×AV):=[(2,.bool false)]
abbrev kAw (a:Int) (b:Int):List (Nat×AV):=[(84,.i a),(85,.i b)]
abbrev kAx (a:Int) (b:Int) (x:List (Nat×AV)):List (Nat×AV):=(12,.i a)::(13,.i b)::x
abbrev kAy:List (Nat×AV):=[(4,.bool true)]
abbrev kAz (a:Int):List (Nat×AV):=[(4,.i a)]
abbrev kA0 {α0:Type} (a:List α0):List (Nat×AV):=[(4,.oslice 0 a.length 4)]
abbrev kA1 (a:Bool):List (Nat×AV):=[(4,.bool a)]
abbrev kA2 (a:Int):List (Nat×AV):=[(2,.i a)]
abbrev kA3 (x:List (Nat×AV)):List (Nat×AV):=(4,.ptr 0 0)::x
abbrev kA4:List (Nat×AV):=[(42,.bool true)]
abbrev kA5 (a:Int) (b:Bool):List (Nat×AV):=[(7,.i 5),(8,.i a),(9,.bool b)]
abbrev kA6 (a:Bool):List (Nat×AV):=[(3,.bool a)]
abbrev kA7:List Blk:=[.cells (([]:List Int).flatMap encI.c)]
abbrev kA8 (a:Str) (b:Str) (c:Int) (d:Int) (x:List (Nat×AV)):List (Nat×AV):=(0,.agg [.str a,.str b,.i c,.i d])::x
abbrev kA9 (a:Int) (x:List (Nat×AV)):List (Nat×AV):=(3,.i a)::(4,.ptr 1 0)::x
abbrev kBA:List (Nat×AV):=[(7,.i 5),(8,.i 0)]
theorem qoB:SlT ZT 27 71 4 56:=⟨by kernel_rfl,by kernel_rfl,by kernel_rfl,by kernel_rfl⟩
theorem qvb:AgT ZT 71 4:=⟨by kernel_rfl,by kernel_rfl⟩
theorem qt3:SlT ZT 40 84 4 56:=⟨by kernel_rfl,by kernel_rfl,by kernel_rfl,by kernel_rfl⟩
theorem qnQ:SlT ZT 28 74 4 48:=⟨by kernel_rfl,by kernel_rfl,by kernel_rfl,by kernel_rfl⟩
theorem qw6:AgT ZT 74 4:=⟨by kernel_rfl,by kernel_rfl⟩
theorem qx7:SlT ZT 41 118 4 48:=⟨by kernel_rfl,by kernel_rfl,by kernel_rfl,by kernel_rfl⟩
theorem ce9:CeT ZT 9:=⟨by kernel_rfl,by kernel_rfl⟩
theorem sl179:SlT ZT 179 32 1 8:=⟨by kernel_rfl,by kernel_rfl,by kernel_rfl,by kernel_rfl⟩
theorem ce32:CeT ZT 32:=⟨by kernel_rfl,by kernel_rfl⟩
theorem qrz:SlT ZT 79 3 1 8:=⟨by kernel_rfl,by kernel_rfl,by kernel_rfl,by kernel_rfl⟩
theorem ce3:CeT ZT 3:=⟨by kernel_rfl,by kernel_rfl⟩
theorem qnm:MapT ZT 143 9 141 (.agg [.nilfunc,.nilfunc]):=⟨by kernel_rfl,by kernel_rfl,by kernel_rfl⟩
theorem qBv:EqT ZT 190 #[{name:= "lot",type:=9,offset:=0,embedded:=false,tag:= "",pkgPath:= "becket/yarn",byteOffset:=0},{name:= "order",type:=9,offset:=1,embedded:=false,tag:= "",pkgPath:= "becket/yarn",byteOffset:=16}]:=⟨by kernel_rfl,by kernel_rfl,by kernel_rfl⟩
abbrev qnf (x0_:ky) (x1_:StateT) (x2_:qo):List AV:=[.func (.func 115) [] [.fptr (kA x0_.Kind x0_.Day x0_.Lot x0_.Amount x0_.Yarn x0_.Dye x0_.Order) 0,.fptr (kE x1_.Day x1_.Lots x1_.Holds) 0],.func (.func 116) [] [.fptr (kA x0_.Kind x0_.Day x0_.Lot x0_.Amount x0_.Yarn x0_.Dye x0_.Order) 0,.fptr (.str x2_.lot.Name::(kB x2_.lot.Yarn x2_.lot.Dye x2_.lot.Stock x2_.known x2_.hold.Lot x2_.hold.Order x2_.hold.Reserved x2_.hold.Taken x2_.free)) 0],.func (.func 117) [] [.fptr [.func (.func 132) [] [],.func (.func 133) [] []] 0,.fptr (.str x2_.lot.Name::(kB x2_.lot.Yarn x2_.lot.Dye x2_.lot.Stock x2_.known x2_.hold.Lot x2_.hold.Order x2_.hold.Reserved x2_.hold.Taken x2_.free)) 0,.fptr (kA x0_.Kind x0_.Day x0_.Lot x0_.Amount x0_.Yarn x0_.Dye x0_.Order) 0],.func (.func 118) [] [.fptr [.func (.func 132) [] [],.func (.func 133) [] []] 0,.fptr (.str x2_.lot.Name::(kB x2_.lot.Yarn x2_.lot.Dye x2_.lot.Stock x2_.known x2_.hold.Lot x2_.hold.Order x2_.hold.Reserved x2_.hold.Taken x2_.free)) 0,.fptr (kA x0_.Kind x0_.Day x0_.Lot x0_.Amount x0_.Yarn x0_.Dye x0_.Order) 0],.func (.func 119) [] [.fptr (kE x1_.Day x1_.Lots x1_.Holds) 0,.fptr (kA x0_.Kind x0_.Day x0_.Lot x0_.Amount x0_.Yarn x0_.Dye x0_.Order) 0]]
abbrev qnb (x0_:ky) (x1_:StateT) (x2_:qo):List AV:=[.func (.func 115) [] [.fptr (kA x0_.Kind x0_.Day x0_.Lot x0_.Amount x0_.Yarn x0_.Dye x0_.Order) 0,.fptr (kE x1_.Day x1_.Lots x1_.Holds) 0],.func (.func 116) [] [.fptr (kA x0_.Kind x0_.Day x0_.Lot x0_.Amount x0_.Yarn x0_.Dye x0_.Order) 0,.fptr (.str x2_.lot.Name::(kB x2_.lot.Yarn x2_.lot.Dye x2_.lot.Stock x2_.known x2_.hold.Lot x2_.hold.Order x2_.hold.Reserved x2_.hold.Taken x2_.free)) 0],.func (.func 117) [] [.fptr [.func (.func 134) [] [],.func (.func 135) [] []] 0,.fptr (.str x2_.lot.Name::(kB x2_.lot.Yarn x2_.lot.Dye x2_.lot.Stock x2_.known x2_.hold.Lot x2_.hold.Order x2_.hold.Reserved x2_.hold.Taken x2_.free)) 0,.fptr (kA x0_.Kind x0_.Day x0_.Lot x0_.Amount x0_.Yarn x0_.Dye x0_.Order) 0],.func (.func 118) [] [.fptr [.func (.func 134) [] [],.func (.func 135) [] []] 0,.fptr (.str x2_.lot.Name::(kB x2_.lot.Yarn x2_.lot.Dye x2_.lot.Stock x2_.known x2_.hold.Lot x2_.hold.Order x2_.hold.Reserved x2_.hold.Taken x2_.free)) 0,.fptr (kA x0_.Kind x0_.Day x0_.Lot x0_.Amount x0_.Yarn x0_.Dye x0_.Order) 0],.func (.func 119) [] [.fptr (kE x1_.Day x1_.Lots x1_.Holds) 0,.fptr (kA x0_.Kind x0_.Day x0_.Lot x0_.Amount x0_.Yarn x0_.Dye x0_.Order) 0]]
abbrev qm2 (x0_:ky) (x1_:StateT) (x2_:qo):List AV:=[.func (.func 115) [] [.fptr (kA x0_.Kind x0_.Day x0_.Lot x0_.Amount x0_.Yarn x0_.Dye x0_.Order) 0,.fptr (kE x1_.Day x1_.Lots x1_.Holds) 0],.func (.func 116) [] [.fptr (kA x0_.Kind x0_.Day x0_.Lot x0_.Amount x0_.Yarn x0_.Dye x0_.Order) 0,.fptr (.str x2_.lot.Name::(kB x2_.lot.Yarn x2_.lot.Dye x2_.lot.Stock x2_.known x2_.hold.Lot x2_.hold.Order x2_.hold.Reserved x2_.hold.Taken x2_.free)) 0],.func (.func 117) [] [.fptr [.func (.func 137) [] [],.func (.func 138) [] []] 0,.fptr (.str x2_.lot.Name::(kB x2_.lot.Yarn x2_.lot.Dye x2_.lot.Stock x2_.known x2_.hold.Lot x2_.hold.Order x2_.hold.Reserved x2_.hold.Taken x2_.free)) 0,.fptr (kA x0_.Kind x0_.Day x0_.Lot x0_.Amount x0_.Yarn x0_.Dye x0_.Order) 0],.func (.func 118) [] [.fptr [.func (.func 137) [] [],.func (.func 138) [] []] 0,.fptr (.str x2_.lot.Name::(kB x2_.lot.Yarn x2_.lot.Dye x2_.lot.Stock x2_.known x2_.hold.Lot x2_.hold.Order x2_.hold.Reserved x2_.hold.Taken x2_.free)) 0,.fptr (kA x0_.Kind x0_.Day x0_.Lot x0_.Amount x0_.Yarn x0_.Dye x0_.Order) 0],.func (.func 119) [] [.fptr (kE x1_.Day x1_.Lots x1_.Holds) 0,.fptr (kA x0_.Kind x0_.Day x0_.Lot x0_.Amount x0_.Yarn x0_.Dye x0_.Order) 0]]
abbrev qmW (x0_:ky) (x1_:StateT) (x2_:qo):List AV:=[.func (.func 115) [] [.fptr (kA x0_.Kind x0_.Day x0_.Lot x0_.Amount x0_.Yarn x0_.Dye x0_.Order) 0,.fptr (kE x1_.Day x1_.Lots x1_.Holds) 0],.func (.func 116) [] [.fptr (kA x0_.Kind x0_.Day x0_.Lot x0_.Amount x0_.Yarn x0_.Dye x0_.Order) 0,.fptr (.str x2_.lot.Name::(kB x2_.lot.Yarn x2_.lot.Dye x2_.lot.Stock x2_.known x2_.hold.Lot x2_.hold.Order x2_.hold.Reserved x2_.hold.Taken x2_.free)) 0],.func (.func 117) [] [.fptr [.func (.func 139) [] [],.func (.func 140) [] []] 0,.fptr (.str x2_.lot.Name::(kB x2_.lot.Yarn x2_.lot.Dye x2_.lot.Stock x2_.known x2_.hold.Lot x2_.hold.Order x2_.hold.Reserved x2_.hold.Taken x2_.free)) 0,.fptr (kA x0_.Kind x0_.Day x0_.Lot x0_.Amount x0_.Yarn x0_.Dye x0_.Order) 0],.func (.func 118) [] [.fptr [.func (.func 139) [] [],.func (.func 140) [] []] 0,.fptr (.str x2_.lot.Name::(kB x2_.lot.Yarn x2_.lot.Dye x2_.lot.Stock x2_.known x2_.hold.Lot x2_.hold.Order x2_.hold.Reserved x2_.hold.Taken x2_.free)) 0,.fptr (kA x0_.Kind x0_.Day x0_.Lot x0_.Amount x0_.Yarn x0_.Dye x0_.Order) 0],.func (.func 119) [] [.fptr (kE x1_.Day x1_.Lots x1_.Holds) 0,.fptr (kA x0_.Kind x0_.Day x0_.Lot x0_.Amount x0_.Yarn x0_.Dye x0_.Order) 0]]
abbrev qmK (x0_:ky) (x1_:StateT) (x2_:qo):List AV:=[.func (.func 115) [] [.fptr (kA x0_.Kind x0_.Day x0_.Lot x0_.Amount x0_.Yarn x0_.Dye x0_.Order) 0,.fptr (kE x1_.Day x1_.Lots x1_.Holds) 0],.func (.func 116) [] [.fptr (kA x0_.Kind x0_.Day x0_.Lot x0_.Amount x0_.Yarn x0_.Dye x0_.Order) 0,.fptr (.str x2_.lot.Name::(kB x2_.lot.Yarn x2_.lot.Dye x2_.lot.Stock x2_.known x2_.hold.Lot x2_.hold.Order x2_.hold.Reserved x2_.hold.Taken x2_.free)) 0],.func (.func 117) [] [.fptr [.func (.func 141) [] [],.func (.func 142) [] []] 0,.fptr (.str x2_.lot.Name::(kB x2_.lot.Yarn x2_.lot.Dye x2_.lot.Stock x2_.known x2_.hold.Lot x2_.hold.Order x2_.hold.Reserved x2_.hold.Taken x2_.free)) 0,.fptr (kA x0_.Kind x0_.Day x0_.Lot x0_.Amount x0_.Yarn x0_.Dye x0_.Order) 0],.func (.func 118) [] [.fptr [.func (.func 141) [] [],.func (.func 142) [] []] 0,.fptr (.str x2_.lot.Name::(kB x2_.lot.Yarn x2_.lot.Dye x2_.lot.Stock x2_.known x2_.hold.Lot x2_.hold.Order x2_.hold.Reserved x2_.hold.Taken x2_.free)) 0,.fptr (kA x0_.Kind x0_.Day x0_.Lot x0_.Amount x0_.Yarn x0_.Dye x0_.Order) 0],.func (.func 119) [] [.fptr (kE x1_.Day x1_.Lots x1_.Holds) 0,.fptr (kA x0_.Kind x0_.Day x0_.Lot x0_.Amount x0_.Yarn x0_.Dye x0_.Order) 0]]
theorem st9:Tryz.prog.underlying 9=some .string:=by kernel_rfl
theorem ag84:AgT ZT 84 4:=⟨by kernel_rfl,by kernel_rfl⟩
theorem qDd:AgT ZT 118 4:=⟨by kernel_rfl,by kernel_rfl⟩
abbrev fm1:AV:= .fmap kAb [.agg [.func (.func 132) [] [],.func (.func 133) [] []],.agg [.func (.func 134) [] [],.func (.func 135) [] []],.agg [.func (.func 137) [] [],.func (.func 138) [] []],.agg [.func (.func 139) [] [],.func (.func 140) [] []],.agg [.func (.func 141) [] [],.func (.func 142) [] []]]
instance:SC 12 fm1:=⟨Still.fmap SX.h (AllST.cons SC.h (AllST.cons SC.h (AllST.cons SC.h (AllST.cons SC.h (AllST.cons SC.h AllST.nil)))))⟩
theorem qDl (x:qP):Fl (qg.c x):=by
 have e:qg.c x=[.str x.Name,.str x.Yarn,.str x.Dye,.i x.Stock]:=rfl
 rw[e]
 intro a ha
 simp only[List.mem_cons,List.not_mem_nil,or_false]at ha
 rcases ha with rfl|rfl|rfl|rfl<;>rfl
def qry (l:List qP):Option Unit:=if l.length<=1000000 then some ()else none
theorem qxP (l:List qP) {u:Unit} (h:qry l=some u):qJ ZT (.fn 120) [vl qg l] [] (.gslice 0 l.length 4) (kW l []):=by
 unfold qry at h
 split at h
 ·exact qAC rfl qDl l ‹_›
 cases h
theorem qD0 (x:qG):Fl (qE.c x):=by
 have e:qE.c x=[.str x.Lot,.str x.Order,.i x.Reserved,.i x.Taken]:=rfl
 rw[e]
 intro a ha
 simp only[List.mem_cons,List.not_mem_nil,or_false]at ha
 rcases ha with rfl|rfl|rfl|rfl<;>rfl
def qpS (l:List qG):Option Unit:=if l.length<=1000000 then some ()else none
theorem qth (l:List qG) {u:Unit} (h:qpS l=some u):qJ ZT (.fn 123) [vl qE l] [] (.gslice 0 l.length 4) (kG l []):=by
 unfold qpS at h
 split at h
 ·exact qzl rfl qD0 l ‹_›
 cases h
def qvl (l:List qP) (i:Int) (a b c:Str) (d:Int):Option (List qP):=if 0<=i/\i<=l.length/\l.length<1000000 then some (l.take i.toNat++[⟨a,b,c,d⟩]++l.drop i.toNat)else none
theorem qAt (l:List qP) (i:Int) (a b c:Str) (d:Int) {r:List qP} (h:qvl l i a b c d=some r):qJ ZT (.fn 121) [.gslice 0 l.length 4,.i i,.slice 1 0 1 1 4] (kW l (kR a b c d [])) (.oslice 2 r.length 4) (.dead::(kR a b c d (kW r []))):=by
 unfold qvl at h
 split at h
 ·rename_i hc
  obtain rfl:=si h
  have:=qCp (E:=qg) rfl qDl l ⟨a,b,c,d⟩ i.toNat (by omega) hc.2.2
  rw[Int.toNat_of_nonneg hc.1]at this
  exact this
 cases h
instance:Inhabited qG:=⟨⟨[],[],0,0⟩⟩
theorem hldE:qsG qE qG.Lot qG.Order qG.Reserved qG.Taken:=⟨rfl,fun _=>rfl⟩
def qr7 (l:List qG):Option (List qG):=if l.length<=1000000 then some (qoy qG.Lot qG.Order l)else none
theorem qwU (l:List qG) {r:List qG} (h:qr7 l=some r):qJ ZT (.fn 126) [.oslice 0 l.length 4,.func (.func 127) [] []] (kG l []) (.tuple []) (kG r []):=by
 unfold qr7 at h
 split at h
 ·rename_i hl
  obtain rfl:=si h
  have:=hldE.sortO (ns:=l) hl
  exact this
 cases h
def qrV (l:List qG):Option (List qG):=if l.length<=1000000 then some (qoy qG.Lot qG.Order l)else none
theorem qxj (l:List qG) {r:List qG} (h:qrV l=some r):qJ ZT (.fn 126) [.gslice 0 l.length 4,.func (.func 127) [] []] (kG l []) (.tuple []) (kG r []):=by
 unfold qrV at h
 split at h
 ·rename_i hl
  obtain rfl:=si h
  have:=hldE.sortG (ns:=l) hl
  exact this
 cases h
def qhF (a:StateT):Nat->(List qP)->Int->Option (List qP)
 |0,_,_=>none
 |K+1,c,b=>
  if b<(a.Lots.length:Int)then
  (idx a.Lots b).bind fun d=>
  (app 56 c [d]).bind fun e=>
  qhF a K e (w64 (b+1))
  else
  some c
def qhD (a:StateT):Nat->(List qG)->Int->Option (List qG)
 |0,_,_=>none
 |K+1,e,b=>
  if b<(a.Holds.length:Int)then
  (idx a.Holds b).bind fun c=>
  (app 48 e [c]).bind fun d=>
  qhD a K d (w64 (b+1))
  else
  some e
def qk6 (N:Nat) (a:StateT):Option qgM:=
 (qhF a N ([]:List qP) 0).bind fun c=>
 (qhD a N ([]:List qG) 0).bind fun b=>
 some (⟨a.Day,c,b⟩:qgM)
theorem qvV (N:Nat) (a:StateT) {res:qgM} (h:qk6 N a=some res):qJ ZT (.fn 20) [.agg (kE a.Day a.Lots a.Holds)] [] (.agg (kE res.Day res.Lots res.Holds)) []:=by
 unfold qk6 at h
 refine Uc Tryz.func20 rfl rfl (m:=40) rfl (rs:=[.cell 2 43]) rfl (l:=(kZ a.Day a.Lots a.Holds [])) rfl ?_
 refine sg fol (kAA [(2,.ptr 1 0)]) (kD a.Day a.Lots a.Holds (kH [])) ?_
 refine sg fol (kAA [(2,.ptr 1 0),(3,.ptr 2 0)]) (kD a.Day a.Lots a.Holds (kH [.cells [.i a.Day,.nilslice,.nilslice]])) ?_
 refine sq ?_
 refine sh fol (kAA (kAK a.Lots (a.Lots.length:Int) [(14,.i 0)])) ?_
 refine Goes.block ?_
 obtain⟨y,g4,h⟩:=bnd h
 refine Goes.imp (Q:=fun x s'=>(x= .exit 0/\ ∃e,e=y/\Sub s' (ofG 40 (kAA [(2,.ptr 1 0),(3,.ptr 2 0)]),(kD a.Day a.Lots a.Holds (kH (kAl a.Day e (kW e []))))))) ?_ ?_
 ·refine Goes.sub (s':=(ofG 40 (kAA (kAK a.Lots (a.Lots.length:Int) [(14,.i 0)])),(kD a.Day a.Lots a.Holds (kH [.cells [.i a.Day,.gslice 3 ([]:List qP).length 4,.nilslice],.cells (([]:List qP).flatMap qg.c)])))) (Sub.norm [] [some 0,some 1,some 2,none] rfl rfl (.kp (.kp (.kp (.keep (.same (zu qg _)) (.keep (.same nI) (.keep (.same nI) .nil)))))) (.kb rfl (.same sn) (.kb rfl (.same sn) (.kb rfl (.cells (rc (.same nI) (rc (.nil) (rc (.same (jT.nilslice)) rn)))) (.fresh .nil))))) ?_
  refine Ud (fun M s=> ∃(j:List qP) (o:Int),s=(ofG 40 (kAA (kAK a.Lots (a.Lots.length:Int) [(14,.i o)])),(kD a.Day a.Lots a.Holds (kH (kAl a.Day j (kW j [])))))/\qhF a M j o=some y) ?_ (m:=N) ⟨_,_,rfl,g4⟩
  rintro M s ⟨j,o,rfl,g4⟩
  cases M with
  |zero=>simp only[qhF]at g4;cases g4
  |succ M=>
   rw[qhF]at g4
   refine sh fol (kAA (kAK a.Lots (a.Lots.length:Int) [(14,.i o),(15,.bool (decide (o<(a.Lots.length:Int))))])) ?_
   refine sq ?_
   refine ihD g4 (fun z g4=>?_) (fun z g4=>?_)
   ·refine Goes.skip ?_
    refine sq (Goes.block ?_)
    obtain⟨d,q,g4⟩:=bnd g4
    refine sq (gq fol [0,1] (kAA [(2,.ptr 1 0),(3,.ptr 2 0),(5,.ptr 4 0),(12,vl qg a.Lots),(13,.i (a.Lots.length:Int)),(14,.i o)]) (kD a.Day a.Lots a.Holds (kH (kAl a.Day j (kW j (kR d.Name d.Yarn d.Dye d.Stock []))))) (ac (iv qoB qg q) (ac (la qvb qg q) az)) ?_)
    obtain⟨t,u,g4⟩:=bnd g4
    refine gq fol [4] (kAA (kAK a.Lots (a.Lots.length:Int) [(14,.i o)])) (kD a.Day a.Lots a.Holds (kH (.cells [.i a.Day,.gslice 6 t.length 4,.nilslice]:: .dead::(kR d.Name d.Yarn d.Dye d.Stock (kR d.Name d.Yarn d.Dye d.Stock (kW t [])))))) (ac (hs (.run [3,5] (qiX ZT [40,40] (.gslice 3 j.length 4) (.slice 5 0 1 1 4)) (kD a.Day a.Lots a.Holds (kH (kAl a.Day j (kW j (kR d.Name d.Yarn d.Dye d.Stock (kR d.Name d.Yarn d.Dye d.Stock [])))))) (.gslice 6 t.length 4) (kD a.Day a.Lots a.Holds (kH (kAl a.Day j (.dead::(kR d.Name d.Yarn d.Dye d.Stock (kR d.Name d.Yarn d.Dye d.Stock (kW t []))))))) true) (qnK qt3 (E:=qg) rfl (qvN (E:=qg) (ys:=[d]) rfl rfl rfl rfl) (qwy (E:=qg) (l:=j) rfl rfl rfl u rfl))) az) ?_
    refine gh fol (kAA (kAK a.Lots (a.Lots.length:Int) [(14,.i (w64 (o+1)))])) ?_
    exact⟨M,(ofG 40 (kAA (kAK a.Lots (a.Lots.length:Int) [(14,.i (w64 (o+1)))])),(kD a.Day a.Lots a.Holds (kH (kAl a.Day t (kW t []))))),Nat.lt_succ_self _,(Sub.norm [] [some 0,some 1,some 2,some 6] rfl rfl (.kp (.kp (.kp (.keep (.same (zu qg _)) (.keep (.same nI) (.keep (.same nI) .nil)))))) (.kb rfl (.same sn) (.kb rfl (.same sn) (.kb rfl (.cells (rc (.same nI) (rc (.gslice rfl) (rc (.same (jT.nilslice)) rn)))) (.ks .nil))))),_,_,rfl,g4⟩
   refine Goes.exit ?_
   obtain rfl:=si g4
   exact⟨rfl,_,rfl,(Sub.keep [1,2,3] rfl rfl)⟩
 rintro x s' ⟨rfl,e,rfl,hsub⟩
 refine Goes.sub hsub ?_
 refine sq ?_
 refine sh fol ((2,.ptr 1 0)::(3,.ptr 2 0)::(kAq a.Holds (a.Holds.length:Int) [(28,.i 0)])) ?_
 refine Goes.block ?_
 obtain⟨v,g11,h⟩:=bnd h
 refine Goes.imp (Q:=fun x s'=>(x= .exit 2/\ ∃f,f=v/\Sub s' (ofG 40 (kN []),(kH (kAL a.Day e f (kW e (kG f []))))))) ?_ ?_
 ·refine Goes.sub (s':=(ofG 40 (kN (kAq a.Holds (a.Holds.length:Int) [(28,.i 0)])),(kH (.cells [.i a.Day,.gslice 2 e.length 4,.gslice 3 ([]:List qG).length 4]::(kW e [.cells (([]:List qG).flatMap qE.c)]))))) (Sub.norm [] [some 1,some 2,some 3,none] rfl rfl (.kp (.kp (.keep (.same (zu qE _)) (.keep (.same nI) (.keep (.same nI) .nil))))) (.kb rfl (.same sn) (.kb rfl (.cells (rc (.same nI) (rc (.gslice rfl) (rc (.nil) rn)))) (.ks (.fresh .nil))))) ?_
  refine Ud (fun M s=> ∃(k:List qG) (p:Int),s=(ofG 40 (kN (kAq a.Holds (a.Holds.length:Int) [(28,.i p)])),(kH (kAL a.Day e k (kW e (kG k [])))))/\qhD a M k p=some v) ?_ (m:=N) ⟨_,_,rfl,g11⟩
  rintro M s ⟨k,p,rfl,g11⟩
  cases M with
  |zero=>simp only[qhD]at g11;cases g11
  |succ M=>
   rw[qhD]at g11
   refine sh fol (kN (kAq a.Holds (a.Holds.length:Int) [(28,.i p),(29,.bool (decide (p<(a.Holds.length:Int))))])) ?_
   refine sq ?_
   refine ihD g11 (fun w g11=>?_) (fun w g11=>?_)
   ·refine Goes.skip ?_
    refine sq (Goes.block ?_)
    obtain⟨b,n,g11⟩:=bnd g11
    refine sq (gq fol [0,1] (kN ((7,.ptr 4 0)::(kAq a.Holds (a.Holds.length:Int) [(28,.i p)]))) (kH (kAL a.Day e k (kW e (kG k (kL b.Lot b.Order b.Reserved b.Taken []))))) (ac (iv qnQ qE n) (ac (la qw6 qE n) az)) ?_)
    obtain⟨g,r,g11⟩:=bnd g11
    refine gq fol [4] (kN (kAq a.Holds (a.Holds.length:Int) [(28,.i p)])) (kH (.cells [.i a.Day,.gslice 2 e.length 4,.gslice 6 g.length 4]::(kW e (.dead::(kL b.Lot b.Order b.Reserved b.Taken (kL b.Lot b.Order b.Reserved b.Taken (kG g []))))))) (ac (hs (.run [3,5] (qiX ZT [41,41] (.gslice 3 k.length 4) (.slice 5 0 1 1 4)) (kH (kAL a.Day e k (kW e (kG k (kL b.Lot b.Order b.Reserved b.Taken (kL b.Lot b.Order b.Reserved b.Taken [])))))) (.gslice 6 g.length 4) (kH (kAL a.Day e k (kW e (.dead::(kL b.Lot b.Order b.Reserved b.Taken (kL b.Lot b.Order b.Reserved b.Taken (kG g []))))))) true) (qnK qx7 (E:=qE) rfl (qvN (E:=qE) (ys:=[b]) rfl rfl rfl rfl) (qwy (E:=qE) (l:=k) rfl rfl rfl r rfl))) az) ?_
    refine gh fol (kN (kAq a.Holds (a.Holds.length:Int) [(28,.i (w64 (p+1)))])) ?_
    exact⟨M,(ofG 40 (kN (kAq a.Holds (a.Holds.length:Int) [(28,.i (w64 (p+1)))])),(kH (kAL a.Day e g (kW e (kG g []))))),Nat.lt_succ_self _,(Sub.norm [] [some 0,some 1,some 2,some 6] rfl rfl (.kp (.kp (.keep (.same (zu qE _)) (.keep (.same nI) (.keep (.same nI) .nil))))) (.kb rfl (.same sn) (.kb rfl (.cells (rc (.same nI) (rc (.gslice rfl) (rc (.gslice rfl) rn)))) (.ks (.ks .nil))))),_,_,rfl,g11⟩
   refine Goes.exit ?_
   obtain rfl:=si g11
   exact⟨rfl,_,rfl,(Sub.keep [2,3] rfl rfl)⟩
 rintro x s' ⟨rfl,f,rfl,hsub⟩
 refine Goes.sub hsub ?_
 refine sg fol (kU []) (kAL a.Day e f (kAL a.Day e f (kW e (kG f [])))) ?_
 refine Goes.ret ?_
 obtain rfl:=si h
 exact(gw2 [.agg [.i a.Day,.gslice 2 e.length 4,.gslice 3 f.length 4]] (FzW.agg (jo.cons (Ub tI) (jo.cons (FzW.fz (Fz.gs (E:=qg) rfl rfl (nl rfl))) (jo.cons (FzW.fz (Fz.gs (E:=qE) rfl rfl (nl rfl))) jo.nil)))))
def qcK (c:qgM):Nat->Int->Option (Unit⊕Bool)
 |0,_=>none
 |K+1,a=>
  if a<(c.Lots.length:Int)then
  ((idx c.Lots a).bind fun b=>
  if(b.Name.length:Int)>60 then
  some true
  else
  if(b.Yarn.length:Int)>60 then
  some true
  else
  some (decide ((b.Dye.length:Int)>60)):Option Bool).bind fun d=>
  if d=true then
  some (.inr false)
  else
  qcK c K (w64 (a+1))
  else
  some (.inl ())
def qcG (c:qgM):Nat->Int->Option (Unit⊕Bool)
 |0,_=>none
 |K+1,a=>
  if a<(c.Holds.length:Int)then
  ((idx c.Holds a).bind fun b=>
  if(b.Lot.length:Int)>60 then
  some true
  else
  some (decide ((b.Order.length:Int)>60)):Option Bool).bind fun d=>
  if d=true then
  some (.inr false)
  else
  qcG c K (w64 (a+1))
  else
  some (.inl ())
def qiu (N:Nat) (a:qgM) (n:Int):Option Bool:=
 (if(a.Lots.length:Int)>n then
 if(a.Lots.length:Int)<=64 then
 some true
 else
 if(a.Lots.length:Int)>67 then
 some true
 else
 if(a.Holds.length:Int)>n then
 if(a.Holds.length:Int)<=256 then
 some true
 else
 some (decide ((a.Holds.length:Int)>259))
 else
 some (decide ((a.Holds.length:Int)>259))
 else
 if(a.Lots.length:Int)>67 then
 some true
 else
 if(a.Holds.length:Int)>n then
 if(a.Holds.length:Int)<=256 then
 some true
 else
 some (decide ((a.Holds.length:Int)>259))
 else
 some (decide ((a.Holds.length:Int)>259)):Option Bool).bind fun d=>
 if d=true then
 some false
 else
 (qcK a N 0).bind (fun
 |(.inl ())=>
 (qcG a N 0).bind (fun
 |(.inl ())=>
 some true
 |(.inr b)=>
 some b)
 |(.inr c)=>
 some c)
theorem qcT (N:Nat) (d:qgM) (n:Int) {res:Bool} (h:qiu N d n=some res):qJ ZT (.fn 21) (kAE d.Day d.Lots d.Holds [.i n]) [] (.bool res) []:=by
 unfold qiu at h
 refine Uc Tryz.func21 rfl rfl (m:=103) rfl (rs:=[.tmp 4]) rfl (l:=(kZ d.Day d.Lots d.Holds [(1,.i n)])) rfl ?_
 refine sg fol ((1,.i n)::(kU [])) (kD d.Day d.Lots d.Holds []) ?_
 refine sq ?_
 refine sq ?_
 obtain⟨P,a,h⟩:=bnd h
 refine Goes.cut (s':=(ofG 103 (kU [(42,.bool P)]),(kD d.Day d.Lots d.Holds []))) ?_ ?_
 ·rcases wyD a with⟨k,a⟩|⟨k,a⟩
  ·rcases wyD a with⟨u,a⟩|⟨u,a⟩
   ·obtain rfl:=si a
    exact tr fol [5,11] (kU kA4) (ac (gw k) (ac (gw u) az))
   rcases wyD a with⟨v,a⟩|⟨v,a⟩
   ·obtain rfl:=si a
    exact tr fol [5,11,17] (kU kA4) (ac (gw k) (ac (gw u) (ac (gw v) az)))
   rcases wyD a with⟨A,a⟩|⟨A,a⟩
   ·rcases wyD a with⟨C,a⟩|⟨C,a⟩
    ·obtain rfl:=si a
     exact tr fol [5,11,17,23,30] (kU kA4) (ac (gw k) (ac (gw u) (ac (gw v) (ac (gw A) (ac (gw C) az)))))
    obtain rfl:=si a
    exact tr fol [5,11,17,23,30] (kU [(42,.bool (decide ((d.Holds.length:Int)>259)))]) (ac (gw k) (ac (gw u) (ac (gw v) (ac (gw A) (ac (gw C) az)))))
   obtain rfl:=si a
   exact tr fol [5,11,17,23] (kU [(42,.bool (decide ((d.Holds.length:Int)>259)))]) (ac (gw k) (ac (gw u) (ac (gw v) (ac (gw A) az))))
  rcases wyD a with⟨w,a⟩|⟨w,a⟩
  ·obtain rfl:=si a
   exact tr fol [5,17] (kU kA4) (ac (gw k) (ac (gw w) az))
  rcases wyD a with⟨B,a⟩|⟨B,a⟩
  ·rcases wyD a with⟨D,a⟩|⟨D,a⟩
   ·obtain rfl:=si a
    exact tr fol [5,17,23,30] (kU kA4) (ac (gw k) (ac (gw w) (ac (gw B) (ac (gw D) az))))
   obtain rfl:=si a
   exact tr fol [5,17,23,30] (kU [(42,.bool (decide ((d.Holds.length:Int)>259)))]) (ac (gw k) (ac (gw w) (ac (gw B) (ac (gw D) az))))
  obtain rfl:=si a
  exact tr fol [5,17,23] (kU [(42,.bool (decide ((d.Holds.length:Int)>259)))]) (ac (gw k) (ac (gw w) (ac (gw B) az)))
 refine ihB h (fun E h=>?_) (fun E h=>?_)
 ·refine sh fol kAf ?_
  refine Goes.ret ?_
  obtain rfl:=si h
  exact(gw2 [.bool false] (Ub tB))
 refine Goes.skip ?_
 refine sq ?_
 refine sh fol (kU [(5,.i 0)]) ?_
 refine Goes.block ?_
 obtain⟨p,g13,h⟩:=bnd h
 refine Goes.imp (Q:=fun x s'=>(x= .exit 0/\(.inl ())=p/\Sub s' (ofG 103 (kU []),(kD d.Day d.Lots d.Holds [])))\/(x= .ret/\ ∃y,(.inr y)=p/\qbg ZT [.tmp 4] (.bool y) .ret s')) ?_ ?_
 ·refine Ud (fun M s=> ∃(g:Int),s=(ofG 103 (kU (kAn g)),(kD d.Day d.Lots d.Holds []))/\qcK d M g=some p) ?_ (m:=N) ⟨_,rfl,g13⟩
  rintro M s ⟨g,rfl,g13⟩
  cases M with
  |zero=>simp only[qcK]at g13;cases g13
  |succ M=>
   rw[qcK]at g13
   refine sq ?_
   refine sh fol (kU [(5,.i g),(47,.bool (decide (g<(d.Lots.length:Int))))]) ?_
   refine ihD g13 (fun F g13=>?_) (fun F g13=>?_)
   ·refine Goes.skip ?_
    refine sq (Goes.block ?_)
    refine sq ?_
    obtain⟨G,c,g13⟩:=bnd g13
    refine Goes.cut (s':=(ofG 103 (kU [(5,.i g),(77,.bool G)]),(kD d.Day d.Lots d.Holds []))) ?_ ?_
    ·obtain⟨H,b,c⟩:=bnd c
     rcases wyD c with⟨o,c⟩|⟨o,c⟩
     ·obtain rfl:=si c
      exact tr fol [3,5,8] (kU [(5,.i g),(77,.bool true)]) (ac (iv qt3 qg b) (ac (lv 0 ce9 qg b rfl) (ac (gw o) az)))
     rcases wyD c with⟨q,c⟩|⟨q,c⟩
     ·obtain rfl:=si c
      exact tr fol [3,5,8,12,14,18] (kU [(5,.i g),(77,.bool true)]) (ac (iv qt3 qg b) (ac (lv 0 ce9 qg b rfl) (ac (gw o) (ac (iv qt3 qg b) (ac (lv 1 ce9 qg b rfl) (ac (gw q) az))))))
     obtain rfl:=si c
     exact tr fol [3,5,8,12,14,18,22,24] (kU [(5,.i g),(77,.bool (decide ((H.Dye.length:Int)>60)))]) (ac (iv qt3 qg b) (ac (lv 0 ce9 qg b rfl) (ac (gw o) (ac (iv qt3 qg b) (ac (lv 1 ce9 qg b rfl) (ac (gw q) (ac (iv qt3 qg b) (ac (lv 2 ce9 qg b rfl) az))))))))
    refine ihB g13 (fun I g13=>?_) (fun I g13=>?_)
    ·refine sh fol kAf ?_
     refine Goes.ret ?_
     obtain rfl:=si g13
     exact Or.inr (⟨rfl,_,rfl,(gw2 [.bool false] (Ub tB))⟩)
    refine Goes.skip ?_
    refine gh fol (kU (kAn (w64 (g+1)))) ?_
    exact⟨M,(ofG 103 (kU (kAn (w64 (g+1)))),(kD d.Day d.Lots d.Holds [])),Nat.lt_succ_self _,(Sub.refl _),_,rfl,g13⟩
   refine Goes.exit ?_
   obtain rfl:=si g13
   exact Or.inl (⟨rfl,rfl,(Sub.keep [2] rfl rfl)⟩)
 rintro x s' (⟨rfl,rfl,hsub⟩|⟨rfl,T,rfl,hret⟩)
 ·try dsimp only at h
  refine Goes.sub hsub ?_
  refine sq ?_
  refine sh fol (kU [(6,.i 0)]) ?_
  refine Goes.block ?_
  obtain⟨r,g23,h⟩:=bnd h
  refine Goes.imp (Q:=fun x s'=>(x= .exit 2/\(.inl ())=r/\Sub s' (ofG 103 [],[]))\/(x= .ret/\ ∃z,(.inr z)=r/\qbg ZT [.tmp 4] (.bool z) .ret s')) ?_ ?_
  ·refine Ud (fun M s=> ∃(j:Int),s=(ofG 103 (kU [(6,.i j)]),(kD d.Day d.Lots d.Holds []))/\qcG d M j=some r) ?_ (m:=N) ⟨_,rfl,g23⟩
   rintro M s ⟨j,rfl,g23⟩
   cases M with
   |zero=>simp only[qcG]at g23;cases g23
   |succ M=>
    rw[qcG]at g23
    refine sq ?_
    refine sh fol (kU [(6,.i j),(82,.bool (decide (j<(d.Holds.length:Int))))]) ?_
    refine ihD g23 (fun J g23=>?_) (fun J g23=>?_)
    ·refine Goes.skip ?_
     refine sq (Goes.block ?_)
     refine sq ?_
     obtain⟨K,e,g23⟩:=bnd g23
     refine Goes.cut (s':=(ofG 103 (kU [(6,.i j),(102,.bool K)]),(kD d.Day d.Lots d.Holds []))) ?_ ?_
     ·obtain⟨L,f,e⟩:=bnd e
      rcases wyD e with⟨t,e⟩|⟨t,e⟩
      ·obtain rfl:=si e
       exact tr fol [3,5,8] (kU [(6,.i j),(102,.bool true)]) (ac (iv qx7 qE f) (ac (lv 0 ce9 qE f rfl) (ac (gw t) az)))
      obtain rfl:=si e
      exact tr fol [3,5,8,12,14] (kU [(6,.i j),(102,.bool (decide ((L.Order.length:Int)>60)))]) (ac (iv qx7 qE f) (ac (lv 0 ce9 qE f rfl) (ac (gw t) (ac (iv qx7 qE f) (ac (lv 1 ce9 qE f rfl) az)))))
     refine ihB g23 (fun O g23=>?_) (fun O g23=>?_)
     ·refine sh fol kAf ?_
      refine Goes.ret ?_
      obtain rfl:=si g23
      exact Or.inr (⟨rfl,_,rfl,(gw2 [.bool false] (Ub tB))⟩)
     refine Goes.skip ?_
     refine gh fol (kU [(6,.i (w64 (j+1)))]) ?_
     exact⟨M,(ofG 103 (kU [(6,.i (w64 (j+1)))]),(kD d.Day d.Lots d.Holds [])),Nat.lt_succ_self _,(Sub.refl _),_,rfl,g23⟩
    refine Goes.exit ?_
    obtain rfl:=si g23
    exact Or.inl (⟨rfl,rfl,(Sub.norm [] [] rfl rfl .nil .nil)⟩)
  rintro x s' (⟨rfl,rfl,hsub⟩|⟨rfl,U,rfl,hret⟩)
  ·try dsimp only at h
   refine Goes.sub hsub ?_
   refine sh fol kAy ?_
   refine Goes.ret ?_
   obtain rfl:=si h
   exact(gw2 [.bool true] (Ub tB))
  try dsimp only at h
  obtain rfl:=si h
  exact hret
 try dsimp only at h
 obtain rfl:=si h
 exact hret
def qih (l:List Int):Nat->Int->Option (Unit⊕Int)
 |0,_=>none
 |K+1,a=>
  if a<(l.length:Int)then
  (idx l a).bind fun b=>
  if(!decide (b=0))=true then
  some (.inr b)
  else
  qih l K (w64 (a+1))
  else
  some (.inl ())
def qdH (N:Nat) (l:List Int):Option Int:=
 (qih l N 0).bind (fun
 |(.inl ())=>
 some 0
 |(.inr a)=>
 some a)
theorem qcv (N:Nat) (l:List Int) {res:Int} (h:qdH N l=some res):qJ ZT (.fn 50) [vl encI l] [] (.i res) []:=by
 unfold qdH at h
 refine Uc Tryz.func50 rfl rfl (m:=15) rfl (rs:=[.tmp 2]) rfl (l:=[(0,vl encI l)]) rfl ?_
 refine sh fol [(0,vl encI l)] ?_
 refine sq ?_
 refine sh fol [(5,vl encI l),(6,.i (l.length:Int)),(7,.i 0)] ?_
 refine Goes.block ?_
 obtain⟨d,g2,h⟩:=bnd h
 refine Goes.imp (Q:=fun x s'=>(x= .exit 0/\(.inl ())=d/\Sub s' (ofG 15 [],[]))\/(x= .ret/\ ∃e,(.inr e)=d/\qbg ZT [.tmp 2] (.i e) .ret s')) ?_ ?_
 ·refine Ud (fun M s=> ∃(a:Int),s=(ofG 15 [(5,vl encI l),(6,.i (l.length:Int)),(7,.i a)],[])/\qih l M a=some d) ?_ (m:=N) ⟨_,rfl,g2⟩
  rintro M s ⟨a,rfl,g2⟩
  cases M with
  |zero=>simp only[qih]at g2;cases g2
  |succ M=>
   rw[qih]at g2
   refine sh fol [(5,vl encI l),(6,.i (l.length:Int)),(7,.i a),(8,.bool (decide (a<(l.length:Int))))] ?_
   refine sq ?_
   refine ihD g2 (fun f g2=>?_) (fun f g2=>?_)
   ·refine Goes.skip ?_
    refine sq (Goes.block ?_)
    obtain⟨c,b,g2⟩:=bnd g2
    refine sq (gr fol [0,1] [(4,.i c),(5,vl encI l),(6,.i (l.length:Int)),(7,.i a)] (ac (iv sl179 encI b) (ac (lv 0 ce32 encI b rfl) az)) ?_)
    refine sh fol [(4,.i c),(5,vl encI l),(6,.i (l.length:Int)),(7,.i a),(12,.bool (!decide (c=0)))] ?_
    refine ihB g2 (fun g g2=>?_) (fun g g2=>?_)
    ·refine sh fol (kA2 c) ?_
     refine Goes.ret ?_
     obtain rfl:=si g2
     exact Or.inr (⟨rfl,_,rfl,(gw2 [.i c] (Ub tI))⟩)
    refine Goes.skip ?_
    refine gh fol [(5,vl encI l),(6,.i (l.length:Int)),(7,.i (w64 (a+1)))] ?_
    exact⟨M,(ofG 15 [(5,vl encI l),(6,.i (l.length:Int)),(7,.i (w64 (a+1)))],[]),Nat.lt_succ_self _,(Sub.refl _),_,rfl,g2⟩
   refine Goes.exit ?_
   obtain rfl:=si g2
   exact Or.inl (⟨rfl,rfl,(Sub.keep [] rfl rfl)⟩)
 rintro x s' (⟨rfl,rfl,hsub⟩|⟨rfl,j,rfl,hret⟩)
 ·try dsimp only at h
  refine Goes.sub hsub ?_
  refine sh fol [(2,.i 0)] ?_
  refine Goes.ret ?_
  obtain rfl:=si h
  exact(gw2 [.i 0] (Ub tI))
 try dsimp only at h
 obtain rfl:=si h
 exact hret
def qcB (holds:Bool) (e:Int):Option Int:=
 if holds=true then
 some e
 else
 some 0
theorem xA (holds:Bool) (e:Int) {res:Int} (h:qcB holds e=some res):qJ ZT (.fn 58) [.bool holds,.i e] [] (.i res) []:=by
 unfold qcB at h
 refine Uc Tryz.func58 rfl rfl (m:=7) rfl (rs:=[.tmp 4]) rfl (l:=[(0,.bool holds),(1,.i e)]) rfl ?_
 refine sh fol [(0,.bool holds),(1,.i e)] ?_
 refine sq ?_
 refine sh fol [(1,.i e),(5,.bool holds)] ?_
 refine ihB h (fun a h=>?_) (fun a h=>?_)
 ·refine sh fol (kAz e) ?_
  refine Goes.ret ?_
  obtain rfl:=si h
  exact(gw2 [.i e] (Ub tI))
 refine Goes.skip ?_
 refine sh fol [(4,.i 0)] ?_
 refine Goes.ret ?_
 obtain rfl:=si h
 exact(gw2 [.i 0] (Ub tI))
def qgz (n:Int) (least:Int) (most:Int):Option Int:=
 (if n<least then
 (qcB true 3).bind fun a=>
 some a
 else
 (qcB (decide (n>most)) 3).bind fun b=>
 some b:Option Int).bind fun c=>
 some c
theorem qe9 (n:Int) (least:Int) (most:Int) {res:Int} (h:qgz n least most=some res):qJ ZT (.fn 51) [.i n,.i least,.i most] [] (.i res) []:=by
 unfold qgz at h
 refine Uc Tryz.func51 rfl rfl (m:=16) rfl (rs:=[.tmp 6]) rfl (l:=((0,.i n)::(1,.i least)::(kA2 most))) rfl ?_
 refine sh fol ((0,.i n)::(1,.i least)::(kA2 most)) ?_
 refine sq ?_
 obtain⟨e,a,h⟩:=bnd h
 refine Goes.cut (s':=(ofG 16 [(6,.i e)],[])) ?_ ?_
 ·rcases wyD a with⟨d,a⟩|⟨d,a⟩
  ·obtain⟨f,b,a⟩:=bnd a
   obtain rfl:=si a
   exact tr fol [3,8] [(6,.i f)] (ac (gw d) (ac (cv (xA true 3 b)) az))
  obtain⟨g,c,a⟩:=bnd a
  obtain rfl:=si a
  exact tr fol [3,8] [(6,.i g)] (ac (gw d) (ac (cv (xA (decide (n>most)) 3 c)) az))
 refine Goes.ret ?_
 obtain rfl:=si h
 exact(gw2 [.i e] (Ub tI))
def qhR (c:Int):Option Bool:=
 (if c>=97 then
 if c<=122 then
 some true
 else
 if c>=65 then
 some (decide (c<=90))
 else
 some false
 else
 if c>=65 then
 some (decide (c<=90))
 else
 some false:Option Bool).bind fun a=>
 some a
theorem qhA (c:Int) {res:Bool} (h:qhR c=some res):qJ ZT (.fn 183) [.int .i32 c] [] (.bool res) []:=by
 unfold qhR at h
 refine Uc Tryz.func183 rfl rfl (m:=17) rfl (rs:=[.tmp 2]) rfl (l:=[(0,.int .i32 c)]) rfl ?_
 refine sh fol [(0,.int .i32 c)] ?_
 refine sq ?_
 obtain⟨g,a,h⟩:=bnd h
 refine Goes.cut (s':=(ofG 17 (kAi g),[])) ?_ ?_
 ·rcases wyD a with⟨b,a⟩|⟨b,a⟩
  ·rcases wyD a with⟨d,a⟩|⟨d,a⟩
   ·obtain rfl:=si a
    exact tr fol [2,6] [(2,.bool true)] (ac (gw b) (ac (gw d) az))
   rcases wyD a with⟨e,a⟩|⟨e,a⟩
   ·obtain rfl:=si a
    exact tr fol [2,6,9] (kAi (decide (c<=90))) (ac (gw b) (ac (gw d) (ac (gw e) az)))
   obtain rfl:=si a
   exact tr fol [2,6,9] kAv (ac (gw b) (ac (gw d) (ac (gw e) az)))
  rcases wyD a with⟨f,a⟩|⟨f,a⟩
  ·obtain rfl:=si a
   exact tr fol [2,9] (kAi (decide (c<=90))) (ac (gw b) (ac (gw f) az))
  obtain rfl:=si a
  exact tr fol [2,9] kAv (ac (gw b) (ac (gw f) az))
 refine Goes.ret ?_
 obtain rfl:=si h
 exact(gw2 [.bool g] (Ub tB))
def qfH (b:Str):Nat->Nat->Option (Unit⊕Bool)
 |0,_=>none
 |K+1,a=>
  if a<b.length then
  ((qhR (qhJ b a)).bind fun d=>
  if(!d)=true then
  if(a:Int)=0 then
  some true
  else
  if(!decide ((qhJ b a)=95))=true then
  if(qhJ b a)<48 then
  some true
  else
  some (decide ((qhJ b a)>57))
  else
  some false
  else
  some false:Option Bool).bind fun c=>
  if c=true then
  some (.inr false)
  else
  qfH b K (a+runeLen b a)
  else
  some (.inl ())
def qjx (N:Nat) (a:Str):Option Bool:=
 (qfH a N 0).bind (fun
 |(.inl ())=>
 (if(!(a==[]))=true then
 some (decide ((a.length:Int)<=24))
 else
 some false:Option Bool).bind fun b=>
 some b
 |(.inr c)=>
 some c)
theorem qpL (N:Nat) (d:Str) {res:Bool} (h:qjx N d=some res):qJ ZT (.fn 130) [.str d] [] (.bool res) []:=by
 unfold qjx at h
 refine Uc Tryz.func130 rfl rfl (m:=37) rfl (rs:=[.tmp 2]) rfl (l:=[(0,.str d)]) rfl ?_
 refine sh fol [(0,.str d)] ?_
 refine sq ?_
 refine sg fol (kAh d []) [.iter d 0] ?_
 refine Goes.block ?_
 obtain⟨r,g2,h⟩:=bnd h
 refine Goes.imp (Q:=fun x s'=>(x= .exit 0/\(.inl ())=r/\Sub s' (ofG 37 [(0,.str d)],[]))\/(x= .ret/\ ∃w,(.inr w)=r/\qbg ZT [.tmp 2] (.bool w) .ret s')) ?_ ?_
 ·refine Goes.sub (s':=(ofG 37 (kAh d []),[.iter d 0])) (Sub.keep [0,6] rfl rfl) ?_
  refine Ud (fun M s=> ∃(e:Nat),s=(ofG 37 (kAh d []),[.iter d e])/\qfH d M e=some r) ?_ (m:=N) ⟨_,rfl,g2⟩
  rintro M s ⟨e,rfl,g2⟩
  cases M with
  |zero=>simp only[qfH]at g2;cases g2
  |succ M=>
   rw[qfH]at g2
   refine sq ?_
   rcases Classical.em (e<d.length)with n|n
   ·rw[if_pos n]at g2
    refine gq fol [0] (kAh d [(7,.tuple [.bool true,.i (e:Int),.int .i32 (qhJ d e)]),(8,.bool true)]) [.iter d (e+runeLen d e)] (ac (hs (.run [0] (qtp (.ptr 0 0) true) [.iter d e] (.tuple [.bool true,.i (e:Int),.int .i32 (qhJ d e)]) [.iter d (e+runeLen d e)] true) (qzW rfl n rfl)) az) ?_
    refine sq ?_
    refine Goes.ifB (b:=true) (by kernel_rfl) (fun _=>?_) (fun c=>(by cases c))
    refine Goes.skip ?_
    refine Goes.block ?_
    refine sh fol (kAj d (e:Int) [(4,.int .i32 (qhJ d e)),(6,.ptr 0 0)]) ?_
    refine sq ?_
    obtain⟨t,a,g2⟩:=bnd g2
    refine Goes.cut (s':=(ofG 37 (kAh d [(29,.bool t)]),[.iter d (e+runeLen d e)])) ?_ ?_
    ·obtain⟨z,g,a⟩:=bnd a
     rcases wyB a with⟨k,a⟩|⟨k,a⟩
     ·rcases wyD a with⟨o,a⟩|⟨o,a⟩
      ·obtain rfl:=si a
       exact tr fol [1,3,6] (kAh d [(29,.bool true)]) (ac (cv (qhA (qhJ d e) g)) (ac (gw k) (ac (gw o) az)))
      rcases wyB a with⟨q,a⟩|⟨q,a⟩
      ·rcases wyD a with⟨u,a⟩|⟨u,a⟩
       ·obtain rfl:=si a
        exact tr fol [1,3,6,9,12] (kAh d [(29,.bool true)]) (ac (cv (qhA (qhJ d e) g)) (ac (gw k) (ac (gw o) (ac (gw q) (ac (gw u) az)))))
       obtain rfl:=si a
       exact tr fol [1,3,6,9,12] (kAh d [(29,.bool (decide ((qhJ d e)>57)))]) (ac (cv (qhA (qhJ d e) g)) (ac (gw k) (ac (gw o) (ac (gw q) (ac (gw u) az)))))
      obtain rfl:=si a
      exact tr fol [1,3,6,9] (kAh d [(29,.bool false)]) (ac (cv (qhA (qhJ d e) g)) (ac (gw k) (ac (gw o) (ac (gw q) az))))
     obtain rfl:=si a
     exact tr fol [1,3] (kAh d [(29,.bool false)]) (ac (cv (qhA (qhJ d e) g)) (ac (gw k) az))
    refine ihB g2 (fun v g2=>?_) (fun v g2=>?_)
    ·refine sh fol kAv ?_
     refine Goes.ret ?_
     obtain rfl:=si g2
     exact Or.inr (⟨rfl,_,rfl,(gw2 [.bool false] (Ub tB))⟩)
    refine Goes.skip ?_
    exact⟨M,(ofG 37 (kAh d []),[.iter d (e+runeLen d e)]),Nat.lt_succ_self _,(Sub.keep [0,6] rfl rfl),_,rfl,g2⟩
   rw[if_neg n]at g2
   refine gr fol [0] (kAh d [(7,.tuple [.bool false]),(8,.bool false)]) (ac (hs (.run [0] (qtp (.ptr 0 0) true) [.iter d e] (.tuple [.bool false]) [.iter d e] false) (qAc rfl n)) az) ?_
   refine sq ?_
   refine Goes.ifB (b:=false) (by kernel_rfl) (fun c=>(by cases c)) (fun _=>?_)
   refine Goes.exit ?_
   obtain rfl:=si g2
   exact Or.inl (⟨rfl,rfl,(Sub.norm [] [] rfl rfl (.keep (.same nS) .nil) .nil)⟩)
 rintro x s' (⟨rfl,rfl,hsub⟩|⟨rfl,y,rfl,hret⟩)
 ·try dsimp only at h
  refine Goes.sub hsub ?_
  refine sq ?_
  obtain⟨p,f,h⟩:=bnd h
  refine Goes.cut (s':=(ofG 37 (kAi p),[])) ?_ ?_
  ·rcases wyB f with⟨j,f⟩|⟨j,f⟩
   ·obtain rfl:=si f
    exact tr fol [2] (kAi (decide ((d.length:Int)<=24))) (ac (gw j) az)
   obtain rfl:=si f
   exact tr fol [2] kAv (ac (gw j) az)
  refine Goes.ret ?_
  obtain rfl:=si h
  exact(gw2 [.bool p] (Ub tB))
 try dsimp only at h
 obtain rfl:=si h
 exact hret
def qhy (N:Nat) (a:Str):Option Int:=
 (qjx N a).bind fun b=>
 (qcB (!b) 8).bind fun c=>
 some c
theorem qge (N:Nat) (a:Str) {res:Int} (h:qhy N a=some res):qJ ZT (.fn 75) [.str a] [] (.i res) []:=by
 unfold qhy at h
 refine Uc Tryz.func75 rfl rfl (m:=7) rfl (rs:=[.tmp 2]) rfl (l:=[(0,.str a)]) rfl ?_
 refine sh fol [(0,.str a)] ?_
 obtain⟨e,b,h⟩:=bnd h
 obtain⟨d,c,h⟩:=bnd h
 refine sq (gr fol [1,3] (kA2 d) (ac (cv (qpL N a b)) (ac (cv (xA (!e) 8 c)) az)) ?_)
 refine Goes.ret ?_
 obtain rfl:=si h
 exact(gw2 [.i d] (Ub tI))
def qig (N:Nat) (a:Str):Option Int:=
 (if(!(a==[]))=true then
 (qjx N a).bind fun b=>
 (qcB (!b) 8).bind fun c=>
 some c
 else
 (qcB false 8).bind fun d=>
 some d:Option Int).bind fun e=>
 some e
theorem qmz (N:Nat) (b:Str) {res:Int} (h:qig N b=some res):qJ ZT (.fn 79) [.str b] [] (.i res) []:=by
 unfold qig at h
 refine Uc Tryz.func79 rfl rfl (m:=11) rfl (rs:=[.tmp 2]) rfl (l:=[(0,.str b)]) rfl ?_
 refine sh fol [(0,.str b)] ?_
 refine sq ?_
 obtain⟨g,a,h⟩:=bnd h
 refine Goes.cut (s':=(ofG 11 (kA2 g),[])) ?_ ?_
 ·rcases wyB a with⟨f,a⟩|⟨f,a⟩
  ·obtain⟨j,c,a⟩:=bnd a
   obtain⟨k,d,a⟩:=bnd a
   obtain rfl:=si a
   exact tr fol [2,4,7] (kA2 k) (ac (gw f) (ac (cv (qpL N b c)) (ac (cv (xA (!j) 8 d)) az)))
  obtain⟨n,e,a⟩:=bnd a
  obtain rfl:=si a
  exact tr fol [2,7] (kA2 n) (ac (gw f) (ac (cv (xA false 8 e)) az))
 refine Goes.ret ?_
 obtain rfl:=si h
 exact(gw2 [.i g] (Ub tI))
def qkq (N:Nat) (l:qP) (before:List qP):Option Int:=
 (if(before.length:Int)>0 then
 (idx before (w64 ((before.length:Int)-1))).bind fun b=>
 some (ltL l.Name b.Name||l.Name==b.Name)
 else
 some false:Option Bool).bind fun c=>
 (qhy N l.Name).bind fun d=>
 (qhy N l.Yarn).bind fun e=>
 (qig N l.Dye).bind fun f=>
 (qcB c 11).bind fun g=>
 (qgz l.Stock 0 999999999).bind fun h=>
 (qdH N ([d,e,f,g,h]:List Int)).bind fun a=>
 some a
theorem qt4 (N:Nat) (l:qP) (before:List qP) {res:Int} (h:qkq N l before=some res):qJ ZT (.fn 69) (kAu l.Name l.Yarn l.Dye l.Stock [vl qg before]) [] (.i res) []:=by
 unfold qkq at h
 refine Uc Tryz.func69 rfl rfl (m:=37) rfl (rs:=[.tmp 4]) rfl (l:=[(0,.agg [.str l.Name,.str l.Yarn,.str l.Dye,.i l.Stock]),(1,vl qg before)]) rfl ?_
 refine sg fol ((1,vl qg before)::(kU [])) (kR l.Name l.Yarn l.Dye l.Stock []) ?_
 refine sq ?_
 obtain⟨t,a,h⟩:=bnd h
 refine Goes.cut (s':=(ofG 37 (kU [(5,.bool t)]),(kR l.Name l.Yarn l.Dye l.Stock []))) ?_ ?_
 ·rcases wyD a with⟨s,a⟩|⟨s,a⟩
  ·obtain⟨u,b,a⟩:=bnd a
   obtain rfl:=si a
   exact tr fol [3,10,12] (kU [(5,.bool (ltL l.Name u.Name||l.Name==u.Name))]) (ac (gw s) (ac (iv qoB qg b) (ac (lv 0 ce9 qg b rfl) az)))
  obtain rfl:=si a
  exact tr fol [3] (kU [(5,.bool false)]) (ac (gw s) az)
 obtain⟨n,e,h⟩:=bnd h
 obtain⟨o,f,h⟩:=bnd h
 obtain⟨p,g,h⟩:=bnd h
 obtain⟨q,j,h⟩:=bnd h
 obtain⟨r,k,h⟩:=bnd h
 obtain⟨c,d,h⟩:=bnd h
 refine sq (gq fol [2,5,8,10,13,15] (kAz c) (kR l.Name l.Yarn l.Dye l.Stock [.cells [.i n,.i o,.i p,.i q,.i r]]) (ac (cv (qge N l.Name e)) (ac (cv (qge N l.Yarn f)) (ac (cv (qmz N l.Dye g)) (ac (cv (xA t 11 j)) (ac (cv (qe9 l.Stock 0 999999999 k)) (ac (hs (.call 50 [.slice 1 0 5 5 1] (kR l.Name l.Yarn l.Dye l.Stock [.cells [.i n,.i o,.i p,.i q,.i r]]) [1] [vl encI ([n,o,p,q,r]:List Int)] (.i c)) (qe6 (FzL.cons (Fz.lit rfl rfl (Ue (AllST.cons tI (AllST.cons tI (AllST.cons tI (AllST.cons tI (AllST.cons tI AllST.nil))))))) FzL.nil) (qcv N ([n,o,p,q,r]:List Int) d) tI rfl)) az)))))) ?_)
 refine Goes.ret ?_
 obtain rfl:=si h
 exact(gw2 [.i c] (Ub tI))
def qib (vals:List Int):Nat->Int->Option (Unit⊕Int)
 |0,_=>none
 |K+1,a=>
  if a<(vals.length:Int)then
  (idx vals a).bind fun b=>
  if(!decide (b=0))=true then
  some (.inr b)
  else
  qib vals K (w64 (a+1))
  else
  some (.inl ())
def qmo (N:Nat) (vals:List Int):Option Int:=
 (qib vals N 0).bind (fun
 |(.inl ())=>
 some 0
 |(.inr a)=>
 some a)
theorem qsv (N:Nat) (vals:List Int) {res:Int} (h:qmo N vals=some res):qJ ZT (.fn 83) [vl encI vals] [] (.i res) []:=by
 unfold qmo at h
 refine Uc Tryz.func83 rfl rfl (m:=18) rfl (rs:=[.tmp 2]) rfl (l:=[(0,vl encI vals)]) rfl ?_
 refine sh fol [(0,vl encI vals)] ?_
 refine sh fol [(0,vl encI vals),(3,.i 0)] ?_
 refine sq ?_
 refine sh fol [(3,.i 0),(6,vl encI vals),(7,.i (vals.length:Int)),(8,.i 0)] ?_
 refine Goes.block ?_
 obtain⟨d,g2,h⟩:=bnd h
 refine Goes.imp (Q:=fun x s'=>(x= .exit 0/\(.inl ())=d/\Sub s' (ofG 18 [(3,.i 0)],[]))\/(x= .ret/\ ∃e,(.inr e)=d/\qbg ZT [.tmp 2] (.i e) .ret s')) ?_ ?_
 ·refine Ud (fun M s=> ∃(a:Int),s=(ofG 18 ((3,.i 0)::(6,vl encI vals)::(kAU (vals.length:Int) a [])),[])/\qib vals M a=some d) ?_ (m:=N) ⟨_,rfl,g2⟩
  rintro M s ⟨a,rfl,g2⟩
  cases M with
  |zero=>simp only[qib]at g2;cases g2
  |succ M=>
   rw[qib]at g2
   refine sh fol ((3,.i 0)::(6,vl encI vals)::(kAU (vals.length:Int) a [(9,.bool (decide (a<(vals.length:Int))))])) ?_
   refine sq ?_
   refine ihD g2 (fun f g2=>?_) (fun f g2=>?_)
   ·refine Goes.skip ?_
    refine sq (Goes.block ?_)
    obtain⟨c,b,g2⟩:=bnd g2
    refine sq (gr fol [0,1] ((3,.i 0)::(5,.i c)::(6,vl encI vals)::(kAU (vals.length:Int) a [])) (ac (iv qrz encI b) (ac (lv 0 ce3 encI b rfl) az)) ?_)
    refine sh fol ((3,.i 0)::(5,.i c)::(6,vl encI vals)::(kAU (vals.length:Int) a [(14,.bool (!decide (c=0)))])) ?_
    refine ihB g2 (fun g g2=>?_) (fun g g2=>?_)
    ·refine sh fol (kA2 c) ?_
     refine Goes.ret ?_
     obtain rfl:=si g2
     exact Or.inr (⟨rfl,_,rfl,(gw2 [.i c] (Ub tI))⟩)
    refine Goes.skip ?_
    refine gh fol ((3,.i 0)::(6,vl encI vals)::(kAU (vals.length:Int) (w64 (a+1)) [])) ?_
    exact⟨M,(ofG 18 ((3,.i 0)::(6,vl encI vals)::(kAU (vals.length:Int) (w64 (a+1)) [])),[]),Nat.lt_succ_self _,(Sub.refl _),_,rfl,g2⟩
   refine Goes.exit ?_
   obtain rfl:=si g2
   exact Or.inl (⟨rfl,rfl,(Sub.keep [3] rfl rfl)⟩)
 rintro x s' (⟨rfl,rfl,hsub⟩|⟨rfl,j,rfl,hret⟩)
 ·try dsimp only at h
  refine Goes.sub hsub ?_
  refine sh fol [(2,.i 0)] ?_
  refine Goes.ret ?_
  obtain rfl:=si h
  exact(gw2 [.i 0] (Ub tI))
 try dsimp only at h
 obtain rfl:=si h
 exact hret
def qgP (N:Nat) (a:qG) (o:qG):Option Int:=
 (tCmp a.Lot o.Lot).bind fun b=>
 (tCmp a.Order o.Order).bind fun c=>
 (qmo N ([b,c]:List Int)).bind fun d=>
 some d
theorem qrM (N:Nat) (a:qG) (o:qG) {res:Int} (h:qgP N a o=some res):qJ ZT (.fn 74) (kAM a.Lot a.Order a.Reserved a.Taken (kAM o.Lot o.Order o.Reserved o.Taken [])) [] (.i res) []:=by
 unfold qgP at h
 refine Uc Tryz.func74 rfl rfl (m:=17) rfl (rs:=[.tmp 4]) rfl (l:=(kA8 a.Lot a.Order a.Reserved a.Taken [(1,.agg [.str o.Lot,.str o.Order,.i o.Reserved,.i o.Taken])])) rfl ?_
 refine sg fol (kN []) (kL a.Lot a.Order a.Reserved a.Taken (kL o.Lot o.Order o.Reserved o.Taken [])) ?_
 obtain⟨e,b,h⟩:=bnd h
 obtain⟨f,c,h⟩:=bnd h
 obtain⟨g,d,h⟩:=bnd h
 refine sq (gq fol [4,9,11] (kAz g) (kL a.Lot a.Order a.Reserved a.Taken (kL o.Lot o.Order o.Reserved o.Taken (kAO e f))) (ac (cv (qwX a.Lot o.Lot b)) (ac (cv (qwX a.Order o.Order c)) (ac (hs (.call 83 [.slice 2 0 2 2 1] (kL a.Lot a.Order a.Reserved a.Taken (kL o.Lot o.Order o.Reserved o.Taken (kAO e f))) [2] [vl encI ([e,f]:List Int)] (.i g)) (qe6 (FzL.cons (Fz.lit rfl rfl (Ue (AllST.cons tI (AllST.cons tI AllST.nil)))) FzL.nil) (qsv N ([e,f]:List Int) d) tI rfl)) az))) ?_)
 refine Goes.ret ?_
 obtain rfl:=si h
 exact(gw2 [.i g] (Ub tI))
def qbk (a:StateT) (lot:Str):Nat->Int->Int->Option Int
 |0,_,_=>none
 |K+1,b,c=>
  if b<(a.Holds.length:Int)then
  (((idx a.Holds b).bind fun d=>
  if(d.Lot==lot)=true then
  some (w64 (c+d.Reserved))
  else
  some c:Option Int)).bind fun e=>
  qbk a lot K (w64 (b+1)) e
  else
  some c
def qin (N:Nat) (a:StateT) (lot:Str):Option Int:=
 (qbk a lot N 0 0).bind fun b=>
 some b
theorem qqw (N:Nat) (a:StateT) (lot:Str) {res:Int} (h:qin N a lot=some res):qJ ZT (.fn 131) (kAE a.Day a.Lots a.Holds [.str lot]) [] (.i res) []:=by
 unfold qin at h
 refine Uc Tryz.func131 rfl rfl (m:=25) rfl (rs:=[.tmp 4]) rfl (l:=(kZ a.Day a.Lots a.Holds [(1,.str lot)])) rfl ?_
 refine sg fol ((1,.str lot)::(kU [])) (kD a.Day a.Lots a.Holds []) ?_
 refine sh fol ((1,.str lot)::(kU [(5,.i 0)])) ?_
 refine sq ?_
 refine sh fol [(1,.str lot),(5,.i 0),(9,vl qE a.Holds),(10,.i (a.Holds.length:Int)),(11,.i 0)] ?_
 refine Goes.block ?_
 obtain⟨j,g4,h⟩:=bnd h
 refine Goes.imp (Q:=fun x s'=>(x= .exit 0/\ ∃f,f=j/\Sub s' (ofG 25 (kAn f),[]))) ?_ ?_
 ·refine Goes.sub (s':=(ofG 25 [(1,.str lot),(5,.i 0),(9,vl qE a.Holds),(10,.i (a.Holds.length:Int)),(11,.i 0)],[])) (Sub.norm [] [] rfl rfl (.keep (.same nS) (.keep (.same nI) (.keep (.same (zu qE _)) (.keep (.same nI) (.keep (.same nI) .nil))))) .nil) ?_
  refine Ud (fun M s=> ∃(b:Int) (d:Int),s=(ofG 25 (kAt lot d a.Holds (kAG (a.Holds.length:Int) b [])),[])/\qbk a lot M b d=some j) ?_ (m:=N) ⟨_,_,rfl,g4⟩
  rintro M s ⟨b,d,rfl,g4⟩
  cases M with
  |zero=>simp only[qbk]at g4;cases g4
  |succ M=>
   rw[qbk]at g4
   refine sh fol (kAt lot d a.Holds (kAG (a.Holds.length:Int) b [(12,.bool (decide (b<(a.Holds.length:Int))))])) ?_
   refine sq ?_
   refine ihD g4 (fun k g4=>?_) (fun k g4=>?_)
   ·refine Goes.skip ?_
    refine sq ?_
    obtain⟨n,g7,g4⟩:=bnd g4
    refine Goes.imp (Q:=fun x s'=>(x= .normal/\ ∃g,g=n/\Sub s' (ofG 25 (kAt lot g a.Holds (kAG (a.Holds.length:Int) b [])),[]))) ?_ ?_
    ·refine Goes.block ?_
     obtain⟨e,c,g7⟩:=bnd g7
     refine sq (gq fol [0,1] ((1,.str lot)::(5,.i d)::(7,.ptr 0 0)::(9,vl qE a.Holds)::(kAG (a.Holds.length:Int) b [])) (kL e.Lot e.Order e.Reserved e.Taken []) (ac (iv qnQ qE c) (ac (la qw6 qE c) az)) ?_)
     refine sh fol ((1,.str lot)::(5,.i d)::(7,.ptr 0 0)::(9,vl qE a.Holds)::(kAG (a.Holds.length:Int) b [(18,.bool (e.Lot==lot))])) ?_
     refine ihB g7 (fun o g7=>?_) (fun o g7=>?_)
     ·refine gh fol (kAt lot (w64 (d+e.Reserved)) a.Holds (kAG (a.Holds.length:Int) b [])) ?_
      obtain rfl:=si g7
      exact⟨rfl,_,rfl,(Sub.norm [] [] rfl rfl (.keep (.same nS) (.keep (.same nI) (.keep (.same (zu qE _)) (.keep (.same nI) (.keep (.same nI) .nil))))) .nil)⟩
     refine Goes.skip ?_
     obtain rfl:=si g7
     exact⟨rfl,_,rfl,(Sub.norm [] [] rfl rfl (.keep (.same nS) (.keep (.same nI) (.drop (.keep (.same (zu qE _)) (.keep (.same nI) (.keep (.same nI) .nil)))))) .nil)⟩
    rintro x s' ⟨rfl,g,rfl,hsub⟩
    refine Goes.sub hsub ?_
    refine gh fol (kAt lot g a.Holds (kAG (a.Holds.length:Int) (w64 (b+1)) [])) ?_
    exact⟨M,(ofG 25 (kAt lot g a.Holds (kAG (a.Holds.length:Int) (w64 (b+1)) [])),[]),Nat.lt_succ_self _,(Sub.refl _),_,_,rfl,g4⟩
   refine Goes.exit ?_
   obtain rfl:=si g4
   exact⟨rfl,_,rfl,(Sub.keep [5] rfl rfl)⟩
 rintro x s' ⟨rfl,f,rfl,hsub⟩
 refine Goes.sub hsub ?_
 refine sh fol (kAz f) ?_
 refine Goes.ret ?_
 obtain rfl:=si h
 exact(gw2 [.i f] (Ub tI))
def qbI (N:Nat) (a:StateT) (l:qP):Option Int:=
 (qin N a l.Name).bind fun b=>
 some (w64 (l.Stock-b))
theorem qeS (N:Nat) (a:StateT) (l:qP) {res:Int} (h:qbI N a l=some res):qJ ZT (.fn 77) (kAE a.Day a.Lots a.Holds (kAu l.Name l.Yarn l.Dye l.Stock [])) [] (.i res) []:=by
 unfold qbI at h
 refine Uc Tryz.func77 rfl rfl (m:=12) rfl (rs:=[.tmp 4]) rfl (l:=(kZ a.Day a.Lots a.Holds [(1,.agg [.str l.Name,.str l.Yarn,.str l.Dye,.i l.Stock])])) rfl ?_
 refine sg fol (kN []) (kD a.Day a.Lots a.Holds (kR l.Name l.Yarn l.Dye l.Stock [])) ?_
 obtain⟨c,b,h⟩:=bnd h
 refine sq (gr fol [5] (kAz (w64 (l.Stock-c))) (ac (cv (qqw N a l.Name b)) az) ?_)
 refine Goes.ret ?_
 obtain rfl:=si h
 exact(gw2 [.i (w64 (l.Stock-c))] (Ub tI))
def qez (N:Nat) (a:List qP):Nat->Int->Option (Unit⊕Int)
 |0,_=>none
 |K+1,b=>
  if b<(a.length:Int)then
  (idx a b).bind fun d=>
  (cut a 0 b).bind fun e=>
  (qkq N d e).bind fun c=>
  if(!decide (c=0))=true then
  some (.inr c)
  else
  qez N a K (w64 (b+1))
  else
  some (.inl ())
def qj4 (N:Nat) (a:List qP) (b:Int):Option Int:=
 if(a.length:Int)>b then
 some 5
 else
 (qez N a N 0).bind (fun
 |(.inl ())=>
 some 0
 |(.inr c)=>
 some c)
theorem qsf (N:Nat) (a:List qP) (c:Int) {res:Int} (h:qj4 N a c=some res):qJ ZT (.fn 68) [vl qg a,.i c,.func (.func 69) [] []] [] (.i res) []:=by
 unfold qj4 at h
 refine Uc Tryz.func68 rfl rfl (m:=31) rfl (rs:=[.tmp 6]) rfl (l:=(kAD a [(1,.i c),(2,.func (.func 69) [] [])])) rfl ?_
 refine sh fol (kAD a [(1,.i c),(2,.func (.func 69) [] [])]) ?_
 refine sq ?_
 refine sh fol (kAD a [(2,.func (.func 69) [] []),(13,.bool (decide ((a.length:Int)>c)))]) ?_
 refine ihD h (fun p h=>?_) (fun p h=>?_)
 ·refine sh fol [(6,.i 5)] ?_
  refine Goes.ret ?_
  obtain rfl:=si h
  exact(gw2 [.i 5] (Ub tI))
 refine Goes.skip ?_
 refine sq ?_
 refine sh fol (kAD a [(2,.func (.func 69) [] []),(14,vl qg a),(15,.i (a.length:Int)),(16,.i 0)]) ?_
 refine Goes.block ?_
 obtain⟨k,g3,h⟩:=bnd h
 refine Goes.imp (Q:=fun x s'=>(x= .exit 0/\(.inl ())=k/\Sub s' (ofG 31 [],[]))\/(x= .ret/\ ∃n,(.inr n)=k/\qbg ZT [.tmp 6] (.i n) .ret s')) ?_ ?_
 ·refine Ud (fun M s=> ∃(b:Int),s=(ofG 31 (kAD a ((2,.func (.func 69) [] [])::(14,vl qg a)::(kAk (a.length:Int) b []))),[])/\qez N a M b=some k) ?_ (m:=N) ⟨_,rfl,g3⟩
  rintro M s ⟨b,rfl,g3⟩
  cases M with
  |zero=>simp only[qez]at g3;cases g3
  |succ M=>
   rw[qez]at g3
   refine sh fol (kAD a ((2,.func (.func 69) [] [])::(14,vl qg a)::(kAk (a.length:Int) b [(17,.bool (decide (b<(a.length:Int))))]))) ?_
   refine sq ?_
   refine ihD g3 (fun q g3=>?_) (fun q g3=>?_)
   ·refine Goes.skip ?_
    refine sq (Goes.block ?_)
    obtain⟨e,d,g3⟩:=bnd g3
    refine sq (gq fol [1,2] (kAD a ((2,.func (.func 69) [] [])::(7,.i b)::(8,.ptr 0 0)::(14,vl qg a)::(kAk (a.length:Int) b []))) (kR e.Name e.Yarn e.Dye e.Stock []) (ac (iv qoB qg d) (ac (la qvb qg d) az)) ?_)
    obtain⟨o,f,g3⟩:=bnd g3
    obtain⟨g,j,g3⟩:=bnd g3
    refine sq (gr fol [4,5] (kAD a ((2,.func (.func 69) [] [])::(9,.i g)::(14,vl qg a)::(kAk (a.length:Int) b []))) (ac (hs (.done (.opt (qja ZT 27 (vl qg a) none (some (.i b)) none)) (vl qg o)) (qDq qoB (E:=qg) rfl none (some b) f)) (ac (cv (qt4 N e o j)) az)) ?_)
    refine sh fol (kAD a ((2,.func (.func 69) [] [])::(9,.i g)::(14,vl qg a)::(kAk (a.length:Int) b [(28,.bool (!decide (g=0)))]))) ?_
    refine ihB g3 (fun r g3=>?_) (fun r g3=>?_)
    ·refine sh fol [(6,.i g)] ?_
     refine Goes.ret ?_
     obtain rfl:=si g3
     exact Or.inr (⟨rfl,_,rfl,(gw2 [.i g] (Ub tI))⟩)
    refine Goes.skip ?_
    refine gh fol (kAD a ((2,.func (.func 69) [] [])::(14,vl qg a)::(kAk (a.length:Int) (w64 (b+1)) []))) ?_
    exact⟨M,(ofG 31 (kAD a ((2,.func (.func 69) [] [])::(14,vl qg a)::(kAk (a.length:Int) (w64 (b+1)) []))),[]),Nat.lt_succ_self _,(Sub.norm [] [] rfl rfl (.keep (.same (zu qg _)) (.keep (.same (jT.func sn sn)) (.keep (.same (zu qg _)) (.keep (.same nI) (.keep (.same nI) .nil))))) .nil),_,rfl,g3⟩
   refine Goes.exit ?_
   obtain rfl:=si g3
   exact Or.inl (⟨rfl,rfl,(Sub.keep [] rfl rfl)⟩)
 rintro x s' (⟨rfl,rfl,hsub⟩|⟨rfl,t,rfl,hret⟩)
 ·try dsimp only at h
  refine Goes.sub hsub ?_
  refine sh fol [(6,.i 0)] ?_
  refine Goes.ret ?_
  obtain rfl:=si h
  exact(gw2 [.i 0] (Ub tI))
 try dsimp only at h
 obtain rfl:=si h
 exact hret
def qgN (a:qP) (b:Str) (c:Str) (d:Int) (e:Int):Option Bool:=
 some (a.Name==b)
theorem qoi (a:qP) (b:Str) (c:Str) (d:Int) (e:Int) {res:Bool} (h:qgN a b c d e=some res):qJ ZT (.fn 73) (kAu a.Name a.Yarn a.Dye a.Stock [.fptr [.str b,.str c,.i d,.i e] 0]) [] (.bool res) []:=by
 unfold qgN at h
 refine Uc Tryz.func73 rfl rfl (m:=9) rfl (rs:=[.tmp 3]) rfl (l:=[(0,.agg [.str a.Name,.str a.Yarn,.str a.Dye,.i a.Stock]),(1,.fptr [.str b,.str c,.i d,.i e] 0)]) rfl ?_
 refine sg fol ((1,.fptr [.str b,.str c,.i d,.i e] 0)::(kU [])) (kR a.Name a.Yarn a.Dye a.Stock []) ?_
 refine sh fol (kA6 (a.Name==b)) ?_
 refine Goes.ret ?_
 obtain rfl:=si h
 exact(gw2 [.bool (a.Name==b)] (Ub tB))
def vR (a:List qP) (b:Str) (c:Str) (d:Int) (e:Int):Nat->Int->Option (Unit⊕Int)
 |0,_=>none
 |K+1,f=>
  if f<(a.length:Int)then
  (idx a f).bind fun g=>
  (qgN g b c d e).bind fun h=>
  if h=true then
  some (.inr f)
  else
  vR a b c d e K (w64 (f+1))
  else
  some (.inl ())
def qgV (N:Nat) (a:List qP) (b:Str) (c:Str) (d:Int) (e:Int):Option Int:=
 (vR a b c d e N 0).bind (fun
 |(.inl ())=>
 some (-1)
 |(.inr f)=>
 some f)
theorem qou (N:Nat) (a:List qP) (b:Str) (c:Str) (d:Int) (e:Int) {res:Int} (h:qgV N a b c d e=some res):qJ ZT (.fn 128) [vl qg a,.func (.func 73) [] [.fptr [.str b,.str c,.i d,.i e] 0]] [] (.i res) []:=by
 unfold qgV at h
 refine Uc Tryz.func128 rfl rfl (m:=19) rfl (rs:=[.tmp 4]) rfl (l:=(kAD a [(1,.func (.func 73) [] [.fptr [.str b,.str c,.i d,.i e] 0])])) rfl ?_
 refine sh fol (kAD a [(1,.func (.func 73) [] [.fptr [.str b,.str c,.i d,.i e] 0])]) ?_
 refine sq ?_
 refine sh fol (kAD a [(1,.func (.func 73) [] [.fptr [.str b,.str c,.i d,.i e] 0]),(7,.i (a.length:Int)),(8,.i 0)]) ?_
 refine Goes.block ?_
 obtain⟨n,g2,h⟩:=bnd h
 refine Goes.imp (Q:=fun x s'=>(x= .exit 0/\(.inl ())=n/\Sub s' (ofG 19 [],[]))\/(x= .ret/\ ∃o,(.inr o)=n/\qbg ZT [.tmp 4] (.i o) .ret s')) ?_ ?_
 ·refine Ud (fun M s=> ∃(f:Int),s=(ofG 19 (kAD a ((1,.func (.func 73) [] [.fptr [.str b,.str c,.i d,.i e] 0])::(kAU (a.length:Int) f []))),[])/\vR a b c d e M f=some n) ?_ (m:=N) ⟨_,rfl,g2⟩
  rintro M s ⟨f,rfl,g2⟩
  cases M with
  |zero=>simp only[vR]at g2;cases g2
  |succ M=>
   rw[vR]at g2
   refine sh fol (kAD a ((1,.func (.func 73) [] [.fptr [.str b,.str c,.i d,.i e] 0])::(kAU (a.length:Int) f [(9,.bool (decide (f<(a.length:Int))))]))) ?_
   refine sq ?_
   refine ihD g2 (fun q g2=>?_) (fun q g2=>?_)
   ·refine Goes.skip ?_
    refine sq (Goes.block ?_)
    refine sh fol (kAD a ((1,.func (.func 73) [] [.fptr [.str b,.str c,.i d,.i e] 0])::(5,.i f)::(kAU (a.length:Int) f []))) ?_
    obtain⟨g,j,g2⟩:=bnd g2
    obtain⟨p,k,g2⟩:=bnd g2
    refine sq (gr fol [3,4,5] (kAD a ((1,.func (.func 73) [] [.fptr [.str b,.str c,.i d,.i e] 0])::(5,.i f)::(kAU (a.length:Int) f [(16,.bool p)]))) (ac (iv qoB qg j) (ac (la qvb qg j) (ac (hs (.call 73 (kAu g.Name g.Yarn g.Dye g.Stock [.fptr [.str b,.str c,.i d,.i e] 0]) [] [] (kAu g.Name g.Yarn g.Dye g.Stock [.fptr [.str b,.str c,.i d,.i e] 0]) (.bool p)) (yX (FzL.cons (Ua (Still.agg (AllST.cons tS (AllST.cons tS (AllST.cons tS (AllST.cons tI AllST.nil)))))) (FzL.cons (Ua (Still.fptr (AllST.cons tS (AllST.cons tS (AllST.cons tI (AllST.cons tI AllST.nil)))))) FzL.nil)) (qoi g b c d e k) tB)) az))) ?_)
    refine ihB g2 (fun r g2=>?_) (fun r g2=>?_)
    ·refine sh fol (kAz f) ?_
     refine Goes.ret ?_
     obtain rfl:=si g2
     exact Or.inr (⟨rfl,_,rfl,(gw2 [.i f] (Ub tI))⟩)
    refine Goes.skip ?_
    refine gh fol (kAD a ((1,.func (.func 73) [] [.fptr [.str b,.str c,.i d,.i e] 0])::(kAU (a.length:Int) (w64 (f+1)) []))) ?_
    exact⟨M,(ofG 19 (kAD a ((1,.func (.func 73) [] [.fptr [.str b,.str c,.i d,.i e] 0])::(kAU (a.length:Int) (w64 (f+1)) []))),[]),Nat.lt_succ_self _,(Sub.refl _),_,rfl,g2⟩
   refine Goes.exit ?_
   obtain rfl:=si g2
   exact Or.inl (⟨rfl,rfl,(Sub.keep [] rfl rfl)⟩)
 rintro x s' (⟨rfl,rfl,hsub⟩|⟨rfl,t,rfl,hret⟩)
 ·try dsimp only at h
  refine Goes.sub hsub ?_
  refine sh fol kAp ?_
  refine Goes.ret ?_
  obtain rfl:=si h
  exact(gw2 [.i (-1)] (Ub tI))
 try dsimp only at h
 obtain rfl:=si h
 exact hret
def qdJ (N:Nat) (a:List qP) (b:Str) (c:Str) (d:Int) (e:Int):Option Bool:=
 (qgV N a b c d e).bind fun f=>
 some (decide (f>=0))
theorem qne (N:Nat) (a:List qP) (b:Str) (c:Str) (d:Int) (e:Int) {res:Bool} (h:qdJ N a b c d e=some res):qJ ZT (.fn 72) [vl qg a,.func (.func 73) [] [.fptr [.str b,.str c,.i d,.i e] 0]] [] (.bool res) []:=by
 unfold qdJ at h
 refine Uc Tryz.func72 rfl rfl (m:=9) rfl (rs:=[.tmp 4]) rfl (l:=(kAD a [(1,.func (.func 73) [] [.fptr [.str b,.str c,.i d,.i e] 0])])) rfl ?_
 refine sh fol (kAD a [(1,.func (.func 73) [] [.fptr [.str b,.str c,.i d,.i e] 0])]) ?_
 obtain⟨g,f,h⟩:=bnd h
 refine sq (gr fol [2] (kA1 (decide (g>=0))) (ac (hs (.call 128 [vl qg a,.func (.func 73) [] [.fptr [.str b,.str c,.i d,.i e] 0]] [] [] [vl qg a,.func (.func 73) [] [.fptr [.str b,.str c,.i d,.i e] 0]] (.i g)) (yX (FzL.cons (Ua (qN qg _ (nl rfl))) (FzL.cons (Fz.func FzL.nil (FzL.cons (Ua (Still.fptr (AllST.cons tS (AllST.cons tS (AllST.cons tI (AllST.cons tI AllST.nil)))))) FzL.nil)) FzL.nil)) (qou N a b c d e f) tI)) az) ?_)
 refine Goes.ret ?_
 obtain rfl:=si h
 exact(gw2 [.bool (decide (g>=0))] (Ub tB))
def qfv (N:Nat) (a:qG) (d:List qG) (n:Int) (j:List qP) (o:List qG):Option Int:=
 (qdJ N j a.Lot a.Order a.Reserved a.Taken).bind fun p=>
 (if(d.length:Int)>0 then
 (idx d (w64 ((d.length:Int)-1))).bind fun q=>
 (qgP N a q).bind fun r=>
 some (decide (r<=0))
 else
 some false:Option Bool).bind fun s=>
 ((qcB (!p) 10).bind fun g=>
 (qhy N a.Order).bind fun h=>
 (qcB s 11).bind fun i=>
 (qgz a.Reserved 0 999999999).bind fun b=>
 (qgz a.Taken 0 999999999).bind fun c=>
 if a.Reserved=0 then
 (qcB (decide (a.Taken=0)) 6).bind fun e=>
 (qdH N ([g,h,i,b,c,e]:List Int)).bind fun k=>
 some (g,h,i,b,c,e,k)
 else
 (qcB false 6).bind fun f=>
 (qdH N ([g,h,i,b,c,f]:List Int)).bind fun l=>
 some (g,h,i,b,c,f,l):Option (Int×Int×Int×Int×Int×Int×Int)).bind fun(t,u,v,w,x,y,m)=>
 some m
theorem qpv (N:Nat) (a:qG) (g:List qG) (n:Int) (f:List qP) (o:List qG) {res:Int} (h:qfv N a g n f o=some res):qJ ZT (.fn 71) (kAM a.Lot a.Order a.Reserved a.Taken [vl qE g,.fptr [.i n,vl qg f,vl qE o] 0]) [] (.i res) []:=by
 unfold qfv at h
 refine Uc Tryz.func71 rfl rfl (m:=51) rfl (rs:=[.tmp 5]) rfl (l:=(kA8 a.Lot a.Order a.Reserved a.Taken [(1,vl qE g),(2,.fptr [.i n,vl qg f,vl qE o] 0)])) rfl ?_
 refine sg fol [(1,vl qE g),(2,.fptr [.i n,vl qg f,vl qE o] 0),(3,.ptr 0 0)] (kL a.Lot a.Order a.Reserved a.Taken []) ?_
 obtain⟨y,E,h⟩:=bnd h
 refine sq (gr fol [3] [(1,vl qE g),(3,.ptr 0 0),(6,.bool y)] (ac (hs (.call 72 [vl qg f,.func (.func 73) [] [.ptr 0 0]] (kL a.Lot a.Order a.Reserved a.Taken []) [0] [vl qg f,.func (.func 73) [] [.fptr [.str a.Lot,.str a.Order,.i a.Reserved,.i a.Taken] 0]] (.bool y)) (qe6 (FzL.cons (Ua (qN qg _ (nl rfl))) (FzL.cons (Fz.func FzL.nil (FzL.cons (Fz.ptr rfl rfl (FzL.cons (Ua tS) (FzL.cons (Ua tS) (FzL.cons (Ua tI) (FzL.cons (Ua tI) FzL.nil))))) FzL.nil)) FzL.nil)) (qne N f a.Lot a.Order a.Reserved a.Taken E) tB rfl)) az) ?_)
 refine sq ?_
 obtain⟨J,c,h⟩:=bnd h
 refine Goes.cut (s':=(ofG 51 [(3,.ptr 0 0),(6,.bool y),(7,.bool J)],(kL a.Lot a.Order a.Reserved a.Taken []))) ?_ ?_
 ·rcases wyD c with⟨K,c⟩|⟨K,c⟩
  ·obtain⟨U,r,c⟩:=bnd c
   obtain⟨V,F,c⟩:=bnd c
   obtain rfl:=si c
   exact tr fol [3,9,10,11] [(3,.ptr 0 0),(6,.bool y),(7,.bool (decide (V<=0)))] (ac (gw K) (ac (iv qnQ qE r) (ac (la qw6 qE r) (ac (cv (qrM N a U F)) az))))
  obtain rfl:=si c
  exact tr fol [3] [(3,.ptr 0 0),(6,.bool y),(7,.bool false)] (ac (gw K) az)
 refine sq ?_
 obtain⟨⟨L,M,O,P,Q,T,G⟩,b,h⟩:=bnd h
 refine Goes.cut (s':=(ofG 51 (kAn G),(kL a.Lot a.Order a.Reserved a.Taken [.cells [.i L,.i M,.i O,.i P,.i Q,.i T]]))) ?_ ?_
 ·obtain⟨s,t,b⟩:=bnd b
  obtain⟨u,v,b⟩:=bnd b
  obtain⟨w,x,b⟩:=bnd b
  obtain⟨d,j,b⟩:=bnd b
  obtain⟨e,k,b⟩:=bnd b
  rcases wyD b with⟨z,b⟩|⟨z,b⟩
  ·obtain⟨p,A,b⟩:=bnd b
   obtain⟨H,B,b⟩:=bnd b
   simp only[ZI,ZP]at b
   obtain⟨rfl,rfl,rfl,rfl,rfl,rfl,rfl⟩:=b
   exact qdw.rq fol [2,5,7,10,13,17,22,24] (kAn H) (kL a.Lot a.Order a.Reserved a.Taken [.cells [.i s,.i u,.i w,.i d,.i e,.i p]]) (ac (cv (xA (!y) 10 t)) (ac (cv (qge N a.Order v)) (ac (cv (xA J 11 x)) (ac (cv (qe9 a.Reserved 0 999999999 j)) (ac (cv (qe9 a.Taken 0 999999999 k)) (ac (gw z) (ac (cv (xA (decide (a.Taken=0)) 6 A)) (ac (hs (.call 50 [.slice 1 0 6 6 1] (kL a.Lot a.Order a.Reserved a.Taken [.cells [.i s,.i u,.i w,.i d,.i e,.i p]]) [1] [vl encI ([s,u,w,d,e,p]:List Int)] (.i H)) (qe6 (FzL.cons (Fz.lit rfl rfl (Ue (AllST.cons tI (AllST.cons tI (AllST.cons tI (AllST.cons tI (AllST.cons tI (AllST.cons tI AllST.nil)))))))) FzL.nil) (qcv N ([s,u,w,d,e,p]:List Int) B) tI rfl)) az))))))))
  obtain⟨q,C,b⟩:=bnd b
  obtain⟨I,D,b⟩:=bnd b
  simp only[ZI,ZP]at b
  obtain⟨rfl,rfl,rfl,rfl,rfl,rfl,rfl⟩:=b
  exact qdw.rq fol [2,5,7,10,13,17,22,24] (kAn I) (kL a.Lot a.Order a.Reserved a.Taken [.cells [.i s,.i u,.i w,.i d,.i e,.i q]]) (ac (cv (xA (!y) 10 t)) (ac (cv (qge N a.Order v)) (ac (cv (xA J 11 x)) (ac (cv (qe9 a.Reserved 0 999999999 j)) (ac (cv (qe9 a.Taken 0 999999999 k)) (ac (gw z) (ac (cv (xA false 6 C)) (ac (hs (.call 50 [.slice 1 0 6 6 1] (kL a.Lot a.Order a.Reserved a.Taken [.cells [.i s,.i u,.i w,.i d,.i e,.i q]]) [1] [vl encI ([s,u,w,d,e,q]:List Int)] (.i I)) (qe6 (FzL.cons (Fz.lit rfl rfl (Ue (AllST.cons tI (AllST.cons tI (AllST.cons tI (AllST.cons tI (AllST.cons tI (AllST.cons tI AllST.nil)))))))) FzL.nil) (qcv N ([s,u,w,d,e,q]:List Int) D) tI rfl)) az))))))))
 try dsimp only at h
 refine Goes.ret ?_
 obtain rfl:=si h
 exact(gw2 [.i G] (Ub tI))
def qdO (N:Nat) (a:List qG) (b:Int) (c:List qP) (d:List qG):Nat->Int->Option (Unit⊕Int)
 |0,_=>none
 |K+1,e=>
  if e<(a.length:Int)then
  (idx a e).bind fun g=>
  (cut a 0 e).bind fun h=>
  (qfv N g h b c d).bind fun f=>
  if(!decide (f=0))=true then
  some (.inr f)
  else
  qdO N a b c d K (w64 (e+1))
  else
  some (.inl ())
def qjC (N:Nat) (a:List qG) (b:Int) (c:Int) (d:List qP) (e:List qG):Option Int:=
 if(a.length:Int)>b then
 some 5
 else
 (qdO N a c d e N 0).bind (fun
 |(.inl ())=>
 some 0
 |(.inr f)=>
 some f)
theorem qri (N:Nat) (a:List qG) (g:Int) (b:Int) (c:List qP) (d:List qG) {res:Int} (h:qjC N a g b c d=some res):qJ ZT (.fn 70) [vl qE a,.i g,.func (.func 71) [] [.fptr [.i b,vl qg c,vl qE d] 0]] [] (.i res) []:=by
 unfold qjC at h
 refine Uc Tryz.func70 rfl rfl (m:=31) rfl (rs:=[.tmp 6]) rfl (l:=(kAS a [(1,.i g),(2,.func (.func 71) [] [.fptr [.i b,vl qg c,vl qE d] 0])])) rfl ?_
 refine sh fol (kAS a [(1,.i g),(2,.func (.func 71) [] [.fptr [.i b,vl qg c,vl qE d] 0])]) ?_
 refine sq ?_
 refine sh fol (kAS a [(2,.func (.func 71) [] [.fptr [.i b,vl qg c,vl qE d] 0]),(13,.bool (decide ((a.length:Int)>g)))]) ?_
 refine ihD h (fun t h=>?_) (fun t h=>?_)
 ·refine sh fol [(6,.i 5)] ?_
  refine Goes.ret ?_
  obtain rfl:=si h
  exact(gw2 [.i 5] (Ub tI))
 refine Goes.skip ?_
 refine sq ?_
 refine sh fol (kAS a [(2,.func (.func 71) [] [.fptr [.i b,vl qg c,vl qE d] 0]),(14,vl qE a),(15,.i (a.length:Int)),(16,.i 0)]) ?_
 refine Goes.block ?_
 obtain⟨q,g3,h⟩:=bnd h
 refine Goes.imp (Q:=fun x s'=>(x= .exit 0/\(.inl ())=q/\Sub s' (ofG 31 [],[]))\/(x= .ret/\ ∃r,(.inr r)=q/\qbg ZT [.tmp 6] (.i r) .ret s')) ?_ ?_
 ·refine Ud (fun M s=> ∃(e:Int),s=(ofG 31 (kAS a ((2,.func (.func 71) [] [.fptr [.i b,vl qg c,vl qE d] 0])::(14,vl qE a)::(kAk (a.length:Int) e []))),[])/\qdO N a b c d M e=some q) ?_ (m:=N) ⟨_,rfl,g3⟩
  rintro M s ⟨e,rfl,g3⟩
  cases M with
  |zero=>simp only[qdO]at g3;cases g3
  |succ M=>
   rw[qdO]at g3
   refine sh fol (kAS a ((2,.func (.func 71) [] [.fptr [.i b,vl qg c,vl qE d] 0])::(14,vl qE a)::(kAk (a.length:Int) e [(17,.bool (decide (e<(a.length:Int))))]))) ?_
   refine sq ?_
   refine ihD g3 (fun u g3=>?_) (fun u g3=>?_)
   ·refine Goes.skip ?_
    refine sq (Goes.block ?_)
    obtain⟨f,j,g3⟩:=bnd g3
    refine sq (gq fol [1,2] (kAS a ((2,.func (.func 71) [] [.fptr [.i b,vl qg c,vl qE d] 0])::(7,.i e)::(8,.ptr 0 0)::(14,vl qE a)::(kAk (a.length:Int) e []))) (kL f.Lot f.Order f.Reserved f.Taken []) (ac (iv qnQ qE j) (ac (la qw6 qE j) az)) ?_)
    obtain⟨p,n,g3⟩:=bnd g3
    obtain⟨k,o,g3⟩:=bnd g3
    refine sq (gr fol [4,5] (kAS a ((2,.func (.func 71) [] [.fptr [.i b,vl qg c,vl qE d] 0])::(9,.i k)::(14,vl qE a)::(kAk (a.length:Int) e []))) (ac (hs (.done (.opt (qja ZT 28 (vl qE a) none (some (.i e)) none)) (vl qE p)) (qDq qnQ (E:=qE) rfl none (some e) n)) (ac (hs (.call 71 (kAM f.Lot f.Order f.Reserved f.Taken [vl qE p,.fptr [.i b,vl qg c,vl qE d] 0]) [] [] (kAM f.Lot f.Order f.Reserved f.Taken [vl qE p,.fptr [.i b,vl qg c,vl qE d] 0]) (.i k)) (yX (FzL.cons (Ua (Still.agg (AllST.cons tS (AllST.cons tS (AllST.cons tI (AllST.cons tI AllST.nil)))))) (FzL.cons (Ua (qN qE _ (nl rfl))) (FzL.cons (Ua (Still.fptr (AllST.cons tI (AllST.cons (qN qg _ (nl rfl)) (AllST.cons (qN qE _ (nl rfl)) AllST.nil))))) FzL.nil))) (qpv N f p b c d o) tI)) az)) ?_)
    refine sh fol (kAS a ((2,.func (.func 71) [] [.fptr [.i b,vl qg c,vl qE d] 0])::(9,.i k)::(14,vl qE a)::(kAk (a.length:Int) e [(28,.bool (!decide (k=0)))]))) ?_
    refine ihB g3 (fun v g3=>?_) (fun v g3=>?_)
    ·refine sh fol [(6,.i k)] ?_
     refine Goes.ret ?_
     obtain rfl:=si g3
     exact Or.inr (⟨rfl,_,rfl,(gw2 [.i k] (Ub tI))⟩)
    refine Goes.skip ?_
    refine gh fol (kAS a ((2,.func (.func 71) [] [.fptr [.i b,vl qg c,vl qE d] 0])::(14,vl qE a)::(kAk (a.length:Int) (w64 (e+1)) []))) ?_
    exact⟨M,(ofG 31 (kAS a ((2,.func (.func 71) [] [.fptr [.i b,vl qg c,vl qE d] 0])::(14,vl qE a)::(kAk (a.length:Int) (w64 (e+1)) []))),[]),Nat.lt_succ_self _,(Sub.norm [] [] rfl rfl (.keep (.same (zu qE _)) (.keep (.same (jT.func sn sn)) (.keep (.same (zu qE _)) (.keep (.same nI) (.keep (.same nI) .nil))))) .nil),_,rfl,g3⟩
   refine Goes.exit ?_
   obtain rfl:=si g3
   exact Or.inl (⟨rfl,rfl,(Sub.keep [] rfl rfl)⟩)
 rintro x s' (⟨rfl,rfl,hsub⟩|⟨rfl,w,rfl,hret⟩)
 ·try dsimp only at h
  refine Goes.sub hsub ?_
  refine sh fol [(6,.i 0)] ?_
  refine Goes.ret ?_
  obtain rfl:=si h
  exact(gw2 [.i 0] (Ub tI))
 try dsimp only at h
 obtain rfl:=si h
 exact hret
def qhI (N:Nat) (a:qP) (b:Int) (c:List qP) (d:List qG):Option Bool:=
 (qbI N (⟨b,c,d⟩:StateT) a).bind fun e=>
 some (decide (e<0))
theorem qpt (N:Nat) (a:qP) (b:Int) (c:List qP) (d:List qG) {res:Bool} (h:qhI N a b c d=some res):qJ ZT (.fn 76) (kAu a.Name a.Yarn a.Dye a.Stock [.fptr [.i b,vl qg c,vl qE d] 0]) [] (.bool res) []:=by
 unfold qhI at h
 refine Uc Tryz.func76 rfl rfl (m:=8) rfl (rs:=[.tmp 3]) rfl (l:=[(0,.agg [.str a.Name,.str a.Yarn,.str a.Dye,.i a.Stock]),(1,.fptr [.i b,vl qg c,vl qE d] 0)]) rfl ?_
 refine sg fol ((1,.fptr [.i b,vl qg c,vl qE d] 0)::(kU [])) (kR a.Name a.Yarn a.Dye a.Stock []) ?_
 obtain⟨f,e,h⟩:=bnd h
 refine sq (gr fol [2] (kA6 (decide (f<0))) (ac (cv (qeS N (⟨b,c,d⟩:StateT) a e)) az) ?_)
 refine Goes.ret ?_
 obtain rfl:=si h
 exact(gw2 [.bool (decide (f<0))] (Ub tB))
def vF (N:Nat) (a:List qP) (b:Int) (c:List qP) (d:List qG):Nat->Int->Option (Unit⊕Int)
 |0,_=>none
 |K+1,e=>
  if e<(a.length:Int)then
  (idx a e).bind fun f=>
  (qhI N f b c d).bind fun g=>
  if g=true then
  some (.inr e)
  else
  vF N a b c d K (w64 (e+1))
  else
  some (.inl ())
def qgH (N:Nat) (a:List qP) (b:Int) (c:List qP) (d:List qG):Option Int:=
 (vF N a b c d N 0).bind (fun
 |(.inl ())=>
 some (-1)
 |(.inr e)=>
 some e)
theorem qor (N:Nat) (a:List qP) (b:Int) (c:List qP) (d:List qG) {res:Int} (h:qgH N a b c d=some res):qJ ZT (.fn 128) [vl qg a,.func (.func 76) [] [.fptr [.i b,vl qg c,vl qE d] 0]] [] (.i res) []:=by
 unfold qgH at h
 refine Uc Tryz.func128 rfl rfl (m:=19) rfl (rs:=[.tmp 4]) rfl (l:=(kAD a [(1,.func (.func 76) [] [.fptr [.i b,vl qg c,vl qE d] 0])])) rfl ?_
 refine sh fol (kAD a [(1,.func (.func 76) [] [.fptr [.i b,vl qg c,vl qE d] 0])]) ?_
 refine sq ?_
 refine sh fol (kAD a [(1,.func (.func 76) [] [.fptr [.i b,vl qg c,vl qE d] 0]),(7,.i (a.length:Int)),(8,.i 0)]) ?_
 refine Goes.block ?_
 obtain⟨k,g2,h⟩:=bnd h
 refine Goes.imp (Q:=fun x s'=>(x= .exit 0/\(.inl ())=k/\Sub s' (ofG 19 [],[]))\/(x= .ret/\ ∃n,(.inr n)=k/\qbg ZT [.tmp 4] (.i n) .ret s')) ?_ ?_
 ·refine Ud (fun M s=> ∃(e:Int),s=(ofG 19 (kAD a ((1,.func (.func 76) [] [.fptr [.i b,vl qg c,vl qE d] 0])::(kAU (a.length:Int) e []))),[])/\vF N a b c d M e=some k) ?_ (m:=N) ⟨_,rfl,g2⟩
  rintro M s ⟨e,rfl,g2⟩
  cases M with
  |zero=>simp only[vF]at g2;cases g2
  |succ M=>
   rw[vF]at g2
   refine sh fol (kAD a ((1,.func (.func 76) [] [.fptr [.i b,vl qg c,vl qE d] 0])::(kAU (a.length:Int) e [(9,.bool (decide (e<(a.length:Int))))]))) ?_
   refine sq ?_
   refine ihD g2 (fun p g2=>?_) (fun p g2=>?_)
   ·refine Goes.skip ?_
    refine sq (Goes.block ?_)
    refine sh fol (kAD a ((1,.func (.func 76) [] [.fptr [.i b,vl qg c,vl qE d] 0])::(5,.i e)::(kAU (a.length:Int) e []))) ?_
    obtain⟨f,g,g2⟩:=bnd g2
    obtain⟨o,j,g2⟩:=bnd g2
    refine sq (gr fol [3,4,5] (kAD a ((1,.func (.func 76) [] [.fptr [.i b,vl qg c,vl qE d] 0])::(5,.i e)::(kAU (a.length:Int) e [(16,.bool o)]))) (ac (iv qoB qg g) (ac (la qvb qg g) (ac (hs (.call 76 (kAu f.Name f.Yarn f.Dye f.Stock [.fptr [.i b,vl qg c,vl qE d] 0]) [] [] (kAu f.Name f.Yarn f.Dye f.Stock [.fptr [.i b,vl qg c,vl qE d] 0]) (.bool o)) (yX (FzL.cons (Ua (Still.agg (AllST.cons tS (AllST.cons tS (AllST.cons tS (AllST.cons tI AllST.nil)))))) (FzL.cons (Ua (Still.fptr (AllST.cons tI (AllST.cons (qN qg _ (nl rfl)) (AllST.cons (qN qE _ (nl rfl)) AllST.nil))))) FzL.nil)) (qpt N f b c d j) tB)) az))) ?_)
    refine ihB g2 (fun q g2=>?_) (fun q g2=>?_)
    ·refine sh fol (kAz e) ?_
     refine Goes.ret ?_
     obtain rfl:=si g2
     exact Or.inr (⟨rfl,_,rfl,(gw2 [.i e] (Ub tI))⟩)
    refine Goes.skip ?_
    refine gh fol (kAD a ((1,.func (.func 76) [] [.fptr [.i b,vl qg c,vl qE d] 0])::(kAU (a.length:Int) (w64 (e+1)) []))) ?_
    exact⟨M,(ofG 19 (kAD a ((1,.func (.func 76) [] [.fptr [.i b,vl qg c,vl qE d] 0])::(kAU (a.length:Int) (w64 (e+1)) []))),[]),Nat.lt_succ_self _,(Sub.refl _),_,rfl,g2⟩
   refine Goes.exit ?_
   obtain rfl:=si g2
   exact Or.inl (⟨rfl,rfl,(Sub.keep [] rfl rfl)⟩)
 rintro x s' (⟨rfl,rfl,hsub⟩|⟨rfl,r,rfl,hret⟩)
 ·try dsimp only at h
  refine Goes.sub hsub ?_
  refine sh fol kAp ?_
  refine Goes.ret ?_
  obtain rfl:=si h
  exact(gw2 [.i (-1)] (Ub tI))
 try dsimp only at h
 obtain rfl:=si h
 exact hret
def qdX (N:Nat) (a:List qP) (b:Int) (c:List qP) (d:List qG):Option Bool:=
 (qgH N a b c d).bind fun e=>
 some (decide (e>=0))
theorem qmV (N:Nat) (a:List qP) (b:Int) (c:List qP) (d:List qG) {res:Bool} (h:qdX N a b c d=some res):qJ ZT (.fn 72) [vl qg a,.func (.func 76) [] [.fptr [.i b,vl qg c,vl qE d] 0]] [] (.bool res) []:=by
 unfold qdX at h
 refine Uc Tryz.func72 rfl rfl (m:=9) rfl (rs:=[.tmp 4]) rfl (l:=(kAD a [(1,.func (.func 76) [] [.fptr [.i b,vl qg c,vl qE d] 0])])) rfl ?_
 refine sh fol (kAD a [(1,.func (.func 76) [] [.fptr [.i b,vl qg c,vl qE d] 0])]) ?_
 obtain⟨f,e,h⟩:=bnd h
 refine sq (gr fol [2] (kA1 (decide (f>=0))) (ac (hs (.call 128 [vl qg a,.func (.func 76) [] [.fptr [.i b,vl qg c,vl qE d] 0]] [] [] [vl qg a,.func (.func 76) [] [.fptr [.i b,vl qg c,vl qE d] 0]] (.i f)) (yX (FzL.cons (Ua (qN qg _ (nl rfl))) (FzL.cons (Fz.func FzL.nil (FzL.cons (Ua (Still.fptr (AllST.cons tI (AllST.cons (qN qg _ (nl rfl)) (AllST.cons (qN qE _ (nl rfl)) AllST.nil))))) FzL.nil)) FzL.nil)) (qor N a b c d e) tI)) az) ?_)
 refine Goes.ret ?_
 obtain rfl:=si h
 exact(gw2 [.bool (decide (f>=0))] (Ub tB))
def qeP (N:Nat) (a:StateT):Option Int:=
 (qgz a.Day 0 99999).bind fun c=>
 (qj4 N a.Lots 64).bind fun d=>
 (qdH N ([c,d]:List Int)).bind fun b=>
 if(!decide (b=0))=true then
 some b
 else
 (qjC N a.Holds 256 a.Day a.Lots a.Holds).bind fun e=>
 (qdX N a.Lots a.Day a.Lots a.Holds).bind fun f=>
 (qcB f 32).bind fun g=>
 (qdH N ([e,g]:List Int)).bind fun h=>
 some h
theorem qkL (N:Nat) (a:StateT) {res:Int} (h:qeP N a=some res):qJ ZT (.fn 29) [.agg (kE a.Day a.Lots a.Holds)] [] (.i res) []:=by
 unfold qeP at h
 refine Uc Tryz.func29 rfl rfl (m:=28) rfl (rs:=[.tmp 2]) rfl (l:=(kZ a.Day a.Lots a.Holds [])) rfl ?_
 refine sg fol (kAA []) (kD a.Day a.Lots a.Holds []) ?_
 refine sq ?_
 obtain⟨c,f,h⟩:=bnd h
 obtain⟨b,g,h⟩:=bnd h
 obtain⟨d,j,h⟩:=bnd h
 refine sq (gq fol [2,5,7] (kAA [(3,.i d)]) (kD a.Day a.Lots a.Holds (kAO c b)) (ac (cv (qe9 a.Day 0 99999 f)) (ac (hs (.call 68 [vl qg a.Lots,.i 64,.func (.func 69) [] []] [] [] [vl qg a.Lots,.i 64,.func (.func 69) [] []] (.i b)) (yX (FzL.cons (Ua (qN qg _ (nl rfl))) (FzL.cons (Ua tI) (FzL.cons (Fz.func FzL.nil FzL.nil) FzL.nil))) (qsf N a.Lots 64 g) tI)) (ac (hs (.call 50 [.slice 1 0 2 2 1] (kD a.Day a.Lots a.Holds (kAO c b)) [1] [vl encI ([c,b]:List Int)] (.i d)) (qe6 (FzL.cons (Fz.lit rfl rfl (Ue (AllST.cons tI (AllST.cons tI AllST.nil)))) FzL.nil) (qcv N ([c,b]:List Int) j) tI rfl)) az))) ?_)
 refine sh fol (kAA [(3,.i d),(14,.bool (!decide (d=0)))]) ?_
 refine ihB h (fun t h=>?_) (fun t h=>?_)
 ·refine sh fol (kA2 d) ?_
  refine Goes.ret ?_
  obtain rfl:=si h
  exact(gw2 [.i d] (Ub tI))
 refine Goes.skip ?_
 obtain⟨e,k,h⟩:=bnd h
 refine sq (gr fol [3] (kAA (kAz e)) (ac (hs (.call 70 [vl qE a.Holds,.i 256,.func (.func 71) [] [.ptr 0 0]] (kD a.Day a.Lots a.Holds (kAO c b)) [0] [vl qE a.Holds,.i 256,.func (.func 71) [] [.fptr [.i a.Day,vl qg a.Lots,vl qE a.Holds] 0]] (.i e)) (qe6 (FzL.cons (Ua (qN qE _ (nl rfl))) (FzL.cons (Ua tI) (FzL.cons (Fz.func FzL.nil (FzL.cons (Fz.ptr rfl rfl (FzL.cons (Ua tI) (FzL.cons (Ua (qN qg _ (nl rfl))) (FzL.cons (Ua (qN qE _ (nl rfl))) FzL.nil)))) FzL.nil)) FzL.nil))) (qri N a.Holds 256 a.Day a.Lots a.Holds k) tI rfl)) az) ?_)
 obtain⟨s,n,h⟩:=bnd h
 obtain⟨q,o,h⟩:=bnd h
 obtain⟨r,p,h⟩:=bnd h
 refine sq (gq fol [4,5,7] (kA2 r) (kD a.Day a.Lots a.Holds (.cells [.i c,.i b]::(kAO e q))) (ac (hs (.call 72 [vl qg a.Lots,.func (.func 76) [] [.ptr 0 0]] (kD a.Day a.Lots a.Holds (kAO c b)) [0] [vl qg a.Lots,.func (.func 76) [] [.fptr [.i a.Day,vl qg a.Lots,vl qE a.Holds] 0]] (.bool s)) (qe6 (FzL.cons (Ua (qN qg _ (nl rfl))) (FzL.cons (Fz.func FzL.nil (FzL.cons (Fz.ptr rfl rfl (FzL.cons (Ua tI) (FzL.cons (Ua (qN qg _ (nl rfl))) (FzL.cons (Ua (qN qE _ (nl rfl))) FzL.nil)))) FzL.nil)) FzL.nil)) (qmV N a.Lots a.Day a.Lots a.Holds n) tB rfl)) (ac (cv (xA s 32 o)) (ac (hs (.call 50 [.slice 2 0 2 2 1] (kD a.Day a.Lots a.Holds (.cells [.i c,.i b]::(kAO e q))) [2] [vl encI ([e,q]:List Int)] (.i r)) (qe6 (FzL.cons (Fz.lit rfl rfl (Ue (AllST.cons tI (AllST.cons tI AllST.nil)))) FzL.nil) (qcv N ([e,q]:List Int) p) tI rfl)) az))) ?_)
 refine Goes.ret ?_
 obtain rfl:=si h
 exact(gw2 [.i r] (Ub tI))
def qpm (a:qo) (b:Int):Option Bool:=
 some true
theorem qtP (a:qo) (b:Int) {res:Bool} (h:qpm a b=some res):qJ ZT (.fn 132) (kAB a.lot.Name a.lot.Yarn a.lot.Dye a.lot.Stock a.known a.hold.Lot a.hold.Order a.hold.Reserved a.hold.Taken a.free b) [] (.bool res) []:=by
 unfold qpm at h
 refine Uc Tryz.func132 rfl rfl (m:=5) rfl (rs:=[.tmp 4]) rfl (l:=(kX a.lot.Name a.lot.Yarn a.lot.Dye a.lot.Stock a.known a.hold.Lot a.hold.Order a.hold.Reserved a.hold.Taken a.free b)) rfl ?_
 refine sg fol [] (kC a.lot.Name a.lot.Yarn a.lot.Dye a.lot.Stock a.known a.hold.Lot a.hold.Order a.hold.Reserved a.hold.Taken a.free []) ?_
 refine sh fol kAy ?_
 refine Goes.ret ?_
 obtain rfl:=si h
 exact(gw2 [.bool true] (Ub tB))
def qkz (a:qo) (n:Int):Option qo:=
 some (⟨(⟨a.lot.Name,a.lot.Yarn,a.lot.Dye,w64 (a.lot.Stock+n)⟩:qP),a.known,a.hold,a.free⟩:qo)
theorem qp0 (a:qo) (n:Int) {res:qo} (h:qkz a n=some res):qJ ZT (.fn 133) (kAB a.lot.Name a.lot.Yarn a.lot.Dye a.lot.Stock a.known a.hold.Lot a.hold.Order a.hold.Reserved a.hold.Taken a.free n) [] (.agg (.str res.lot.Name::(kB res.lot.Yarn res.lot.Dye res.lot.Stock res.known res.hold.Lot res.hold.Order res.hold.Reserved res.hold.Taken res.free))) []:=by
 unfold qkz at h
 refine Uc Tryz.func133 rfl rfl (m:=13) rfl (rs:=[.cell 4 182]) rfl (l:=(kX a.lot.Name a.lot.Yarn a.lot.Dye a.lot.Stock a.known a.hold.Lot a.hold.Order a.hold.Reserved a.hold.Taken a.free n)) rfl ?_
 refine sg fol ((1,.i n)::(kU kAZ)) (kC a.lot.Name a.lot.Yarn a.lot.Dye a.lot.Stock a.known a.hold.Lot a.hold.Order a.hold.Reserved a.hold.Taken a.free (kI [])) ?_
 refine sg fol (kU kAZ) (kC a.lot.Name a.lot.Yarn a.lot.Dye (w64 (a.lot.Stock+n)) a.known a.hold.Lot a.hold.Order a.hold.Reserved a.hold.Taken a.free (kI [])) ?_
 refine sg fol kAZ (kC a.lot.Name a.lot.Yarn a.lot.Dye (w64 (a.lot.Stock+n)) a.known a.hold.Lot a.hold.Order a.hold.Reserved a.hold.Taken a.free (kC a.lot.Name a.lot.Yarn a.lot.Dye (w64 (a.lot.Stock+n)) a.known a.hold.Lot a.hold.Order a.hold.Reserved a.hold.Taken a.free [])) ?_
 refine Goes.ret ?_
 obtain rfl:=si h
 exact(gw2 [.agg (.str a.lot.Name::(kB a.lot.Yarn a.lot.Dye (w64 (a.lot.Stock+n)) a.known a.hold.Lot a.hold.Order a.hold.Reserved a.hold.Taken a.free))] (FzW.agg (jo.cons (Ub tS) (jo.cons (Ub tS) (jo.cons (Ub tS) (jo.cons (Ub tI) (jo.cons (Ub tB) (jo.cons (Ub tS) (jo.cons (Ub tS) (jo.cons (Ub tI) (jo.cons (Ub tI) (jo.cons (Ub tI) jo.nil))))))))))))
def qpx (a:qo) (n:Int):Option Bool:=
 some (decide (n<=a.free))
theorem qt0 (a:qo) (n:Int) {res:Bool} (h:qpx a n=some res):qJ ZT (.fn 134) (kAB a.lot.Name a.lot.Yarn a.lot.Dye a.lot.Stock a.known a.hold.Lot a.hold.Order a.hold.Reserved a.hold.Taken a.free n) [] (.bool res) []:=by
 unfold qpx at h
 refine Uc Tryz.func134 rfl rfl (m:=9) rfl (rs:=[.tmp 4]) rfl (l:=(kX a.lot.Name a.lot.Yarn a.lot.Dye a.lot.Stock a.known a.hold.Lot a.hold.Order a.hold.Reserved a.hold.Taken a.free n)) rfl ?_
 refine sg fol ((1,.i n)::(kU [])) (kC a.lot.Name a.lot.Yarn a.lot.Dye a.lot.Stock a.known a.hold.Lot a.hold.Order a.hold.Reserved a.hold.Taken a.free []) ?_
 refine sh fol (kA1 (decide (n<=a.free))) ?_
 refine Goes.ret ?_
 obtain rfl:=si h
 exact(gw2 [.bool (decide (n<=a.free))] (Ub tB))
def qhH (a:qo) (n:Int):Option qo:=
 some (⟨a.lot,a.known,(⟨a.hold.Lot,a.hold.Order,w64 (a.hold.Reserved+n),a.hold.Taken⟩:qG),a.free⟩:qo)
theorem qkB (a:qo) (n:Int) {res:qo} (h:qhH a n=some res):qJ ZT (.fn 136) (kAB a.lot.Name a.lot.Yarn a.lot.Dye a.lot.Stock a.known a.hold.Lot a.hold.Order a.hold.Reserved a.hold.Taken a.free n) [] (.agg (.str res.lot.Name::(kB res.lot.Yarn res.lot.Dye res.lot.Stock res.known res.hold.Lot res.hold.Order res.hold.Reserved res.hold.Taken res.free))) []:=by
 unfold qhH at h
 refine Uc Tryz.func136 rfl rfl (m:=13) rfl (rs:=[.cell 4 182]) rfl (l:=(kX a.lot.Name a.lot.Yarn a.lot.Dye a.lot.Stock a.known a.hold.Lot a.hold.Order a.hold.Reserved a.hold.Taken a.free n)) rfl ?_
 refine sg fol ((1,.i n)::(kU kAZ)) (kC a.lot.Name a.lot.Yarn a.lot.Dye a.lot.Stock a.known a.hold.Lot a.hold.Order a.hold.Reserved a.hold.Taken a.free (kI [])) ?_
 refine sg fol (kU kAZ) (kC a.lot.Name a.lot.Yarn a.lot.Dye a.lot.Stock a.known a.hold.Lot a.hold.Order (w64 (a.hold.Reserved+n)) a.hold.Taken a.free (kI [])) ?_
 refine sg fol kAZ (kC a.lot.Name a.lot.Yarn a.lot.Dye a.lot.Stock a.known a.hold.Lot a.hold.Order (w64 (a.hold.Reserved+n)) a.hold.Taken a.free (kC a.lot.Name a.lot.Yarn a.lot.Dye a.lot.Stock a.known a.hold.Lot a.hold.Order (w64 (a.hold.Reserved+n)) a.hold.Taken a.free [])) ?_
 refine Goes.ret ?_
 obtain rfl:=si h
 exact(gw2 [.agg (.str a.lot.Name::(kB a.lot.Yarn a.lot.Dye a.lot.Stock a.known a.hold.Lot a.hold.Order (w64 (a.hold.Reserved+n)) a.hold.Taken a.free))] (FzW.agg (jo.cons (Ub tS) (jo.cons (Ub tS) (jo.cons (Ub tS) (jo.cons (Ub tI) (jo.cons (Ub tB) (jo.cons (Ub tS) (jo.cons (Ub tS) (jo.cons (Ub tI) (jo.cons (Ub tI) (jo.cons (Ub tI) jo.nil))))))))))))
def qkE (a:qo) (n:Int):Option qo:=
 (qhH a n).bind fun b=>
 some b
theorem qpU (a:qo) (n:Int) {res:qo} (h:qkE a n=some res):qJ ZT (.fn 135) (kAB a.lot.Name a.lot.Yarn a.lot.Dye a.lot.Stock a.known a.hold.Lot a.hold.Order a.hold.Reserved a.hold.Taken a.free n) [] (.agg (.str res.lot.Name::(kB res.lot.Yarn res.lot.Dye res.lot.Stock res.known res.hold.Lot res.hold.Order res.hold.Reserved res.hold.Taken res.free))) []:=by
 unfold qkE at h
 refine Uc Tryz.func135 rfl rfl (m:=8) rfl (rs:=[.cell 4 182]) rfl (l:=(kX a.lot.Name a.lot.Yarn a.lot.Dye a.lot.Stock a.known a.hold.Lot a.hold.Order a.hold.Reserved a.hold.Taken a.free n)) rfl ?_
 refine sg fol ((1,.i n)::(kU kAZ)) (kC a.lot.Name a.lot.Yarn a.lot.Dye a.lot.Stock a.known a.hold.Lot a.hold.Order a.hold.Reserved a.hold.Taken a.free (kI [])) ?_
 obtain⟨b,c,h⟩:=bnd h
 refine sq (gq fol [2] kAZ (kC a.lot.Name a.lot.Yarn a.lot.Dye a.lot.Stock a.known a.hold.Lot a.hold.Order a.hold.Reserved a.hold.Taken a.free (kC b.lot.Name b.lot.Yarn b.lot.Dye b.lot.Stock b.known b.hold.Lot b.hold.Order b.hold.Reserved b.hold.Taken b.free [])) (ac (cv (qkB a n c)) az) ?_)
 refine Goes.ret ?_
 obtain rfl:=si h
 exact(gw2 [.agg (.str b.lot.Name::(kB b.lot.Yarn b.lot.Dye b.lot.Stock b.known b.hold.Lot b.hold.Order b.hold.Reserved b.hold.Taken b.free))] (FzW.agg (jo.cons (Ub tS) (jo.cons (Ub tS) (jo.cons (Ub tS) (jo.cons (Ub tI) (jo.cons (Ub tB) (jo.cons (Ub tS) (jo.cons (Ub tS) (jo.cons (Ub tI) (jo.cons (Ub tI) (jo.cons (Ub tI) jo.nil))))))))))))
def qpu (a:qo) (n:Int):Option Bool:=
 some (decide (n<=a.hold.Reserved))
theorem qtO (a:qo) (n:Int) {res:Bool} (h:qpu a n=some res):qJ ZT (.fn 137) (kAB a.lot.Name a.lot.Yarn a.lot.Dye a.lot.Stock a.known a.hold.Lot a.hold.Order a.hold.Reserved a.hold.Taken a.free n) [] (.bool res) []:=by
 unfold qpu at h
 refine Uc Tryz.func137 rfl rfl (m:=10) rfl (rs:=[.tmp 4]) rfl (l:=(kX a.lot.Name a.lot.Yarn a.lot.Dye a.lot.Stock a.known a.hold.Lot a.hold.Order a.hold.Reserved a.hold.Taken a.free n)) rfl ?_
 refine sg fol ((1,.i n)::(kU [])) (kC a.lot.Name a.lot.Yarn a.lot.Dye a.lot.Stock a.known a.hold.Lot a.hold.Order a.hold.Reserved a.hold.Taken a.free []) ?_
 refine sh fol (kA1 (decide (n<=a.hold.Reserved))) ?_
 refine Goes.ret ?_
 obtain rfl:=si h
 exact(gw2 [.bool (decide (n<=a.hold.Reserved))] (Ub tB))
def qky (a:qo) (n:Int):Option qo:=
 (qhH a (w64 (0-n))).bind fun b=>
 some b
theorem qpE (a:qo) (n:Int) {res:qo} (h:qky a n=some res):qJ ZT (.fn 138) (kAB a.lot.Name a.lot.Yarn a.lot.Dye a.lot.Stock a.known a.hold.Lot a.hold.Order a.hold.Reserved a.hold.Taken a.free n) [] (.agg (.str res.lot.Name::(kB res.lot.Yarn res.lot.Dye res.lot.Stock res.known res.hold.Lot res.hold.Order res.hold.Reserved res.hold.Taken res.free))) []:=by
 unfold qky at h
 refine Uc Tryz.func138 rfl rfl (m:=9) rfl (rs:=[.cell 4 182]) rfl (l:=(kX a.lot.Name a.lot.Yarn a.lot.Dye a.lot.Stock a.known a.hold.Lot a.hold.Order a.hold.Reserved a.hold.Taken a.free n)) rfl ?_
 refine sg fol ((1,.i n)::(kU kAZ)) (kC a.lot.Name a.lot.Yarn a.lot.Dye a.lot.Stock a.known a.hold.Lot a.hold.Order a.hold.Reserved a.hold.Taken a.free (kI [])) ?_
 obtain⟨b,c,h⟩:=bnd h
 refine sq (gq fol [3] kAZ (kC a.lot.Name a.lot.Yarn a.lot.Dye a.lot.Stock a.known a.hold.Lot a.hold.Order a.hold.Reserved a.hold.Taken a.free (kC b.lot.Name b.lot.Yarn b.lot.Dye b.lot.Stock b.known b.hold.Lot b.hold.Order b.hold.Reserved b.hold.Taken b.free [])) (ac (cv (qkB a (w64 (0-n)) c)) az) ?_)
 refine Goes.ret ?_
 obtain rfl:=si h
 exact(gw2 [.agg (.str b.lot.Name::(kB b.lot.Yarn b.lot.Dye b.lot.Stock b.known b.hold.Lot b.hold.Order b.hold.Reserved b.hold.Taken b.free))] (FzW.agg (jo.cons (Ub tS) (jo.cons (Ub tS) (jo.cons (Ub tS) (jo.cons (Ub tI) (jo.cons (Ub tB) (jo.cons (Ub tS) (jo.cons (Ub tS) (jo.cons (Ub tI) (jo.cons (Ub tI) (jo.cons (Ub tI) jo.nil))))))))))))
def qpB (a:qo) (n:Int):Option Bool:=
 some (decide (n<=(w64 (a.free+a.hold.Reserved))))
theorem qub (a:qo) (n:Int) {res:Bool} (h:qpB a n=some res):qJ ZT (.fn 139) (kAB a.lot.Name a.lot.Yarn a.lot.Dye a.lot.Stock a.known a.hold.Lot a.hold.Order a.hold.Reserved a.hold.Taken a.free n) [] (.bool res) []:=by
 unfold qpB at h
 refine Uc Tryz.func139 rfl rfl (m:=13) rfl (rs:=[.tmp 4]) rfl (l:=(kX a.lot.Name a.lot.Yarn a.lot.Dye a.lot.Stock a.known a.hold.Lot a.hold.Order a.hold.Reserved a.hold.Taken a.free n)) rfl ?_
 refine sg fol ((1,.i n)::(kU [])) (kC a.lot.Name a.lot.Yarn a.lot.Dye a.lot.Stock a.known a.hold.Lot a.hold.Order a.hold.Reserved a.hold.Taken a.free []) ?_
 refine sh fol (kA1 (decide (n<=(w64 (a.free+a.hold.Reserved))))) ?_
 refine Goes.ret ?_
 obtain rfl:=si h
 exact(gw2 [.bool (decide (n<=(w64 (a.free+a.hold.Reserved))))] (Ub tB))
def qob (a:qo) (n:Int):Option qo:=
 some (⟨(⟨a.lot.Name,a.lot.Yarn,a.lot.Dye,w64 (a.lot.Stock-n)⟩:qP),a.known,(⟨a.hold.Lot,a.hold.Order,(if(w64 (a.hold.Reserved-n))>0 then(w64 (a.hold.Reserved-n))else 0),w64 (a.hold.Taken+n)⟩:qG),a.free⟩:qo)
theorem qsF (a:qo) (n:Int) {res:qo} (h:qob a n=some res):qJ ZT (.fn 140) (kAB a.lot.Name a.lot.Yarn a.lot.Dye a.lot.Stock a.known a.hold.Lot a.hold.Order a.hold.Reserved a.hold.Taken a.free n) [] (.agg (.str res.lot.Name::(kB res.lot.Yarn res.lot.Dye res.lot.Stock res.known res.hold.Lot res.hold.Order res.hold.Reserved res.hold.Taken res.free))) []:=by
 unfold qob at h
 refine Uc Tryz.func140 rfl rfl (m:=28) rfl (rs:=[.cell 4 182]) rfl (l:=(kX a.lot.Name a.lot.Yarn a.lot.Dye a.lot.Stock a.known a.hold.Lot a.hold.Order a.hold.Reserved a.hold.Taken a.free n)) rfl ?_
 refine sg fol ((1,.i n)::(kU kAZ)) (kC a.lot.Name a.lot.Yarn a.lot.Dye a.lot.Stock a.known a.hold.Lot a.hold.Order a.hold.Reserved a.hold.Taken a.free (kI [])) ?_
 refine sg fol ((1,.i n)::(kU kAZ)) (kC a.lot.Name a.lot.Yarn a.lot.Dye (w64 (a.lot.Stock-n)) a.known a.hold.Lot a.hold.Order a.hold.Reserved a.hold.Taken a.free (kI [])) ?_
 refine sg fol ((1,.i n)::(kU kAZ)) (kC a.lot.Name a.lot.Yarn a.lot.Dye (w64 (a.lot.Stock-n)) a.known a.hold.Lot a.hold.Order a.hold.Reserved (w64 (a.hold.Taken+n)) a.free (kI [])) ?_
 refine sg fol (kU kAZ) (kC a.lot.Name a.lot.Yarn a.lot.Dye (w64 (a.lot.Stock-n)) a.known a.hold.Lot a.hold.Order (if(w64 (a.hold.Reserved-n))>0 then(w64 (a.hold.Reserved-n))else 0) (w64 (a.hold.Taken+n)) a.free (kI [])) ?_
 refine sg fol kAZ (kC a.lot.Name a.lot.Yarn a.lot.Dye (w64 (a.lot.Stock-n)) a.known a.hold.Lot a.hold.Order (if(w64 (a.hold.Reserved-n))>0 then(w64 (a.hold.Reserved-n))else 0) (w64 (a.hold.Taken+n)) a.free (kC a.lot.Name a.lot.Yarn a.lot.Dye (w64 (a.lot.Stock-n)) a.known a.hold.Lot a.hold.Order (if(w64 (a.hold.Reserved-n))>0 then(w64 (a.hold.Reserved-n))else 0) (w64 (a.hold.Taken+n)) a.free [])) ?_
 refine Goes.ret ?_
 obtain rfl:=si h
 exact(gw2 [.agg (.str a.lot.Name::(kB a.lot.Yarn a.lot.Dye (w64 (a.lot.Stock-n)) a.known a.hold.Lot a.hold.Order (if(w64 (a.hold.Reserved-n))>0 then(w64 (a.hold.Reserved-n))else 0) (w64 (a.hold.Taken+n)) a.free))] (FzW.agg (jo.cons (Ub tS) (jo.cons (Ub tS) (jo.cons (Ub tS) (jo.cons (Ub tI) (jo.cons (Ub tB) (jo.cons (Ub tS) (jo.cons (Ub tS) (jo.cons (Ub tI) (jo.cons (Ub tI) (jo.cons (Ub tI) jo.nil))))))))))))
def qps (a:qo) (n:Int):Option Bool:=
 some (decide (n<=a.hold.Taken))
theorem qt9 (a:qo) (n:Int) {res:Bool} (h:qps a n=some res):qJ ZT (.fn 141) (kAB a.lot.Name a.lot.Yarn a.lot.Dye a.lot.Stock a.known a.hold.Lot a.hold.Order a.hold.Reserved a.hold.Taken a.free n) [] (.bool res) []:=by
 unfold qps at h
 refine Uc Tryz.func141 rfl rfl (m:=10) rfl (rs:=[.tmp 4]) rfl (l:=(kX a.lot.Name a.lot.Yarn a.lot.Dye a.lot.Stock a.known a.hold.Lot a.hold.Order a.hold.Reserved a.hold.Taken a.free n)) rfl ?_
 refine sg fol ((1,.i n)::(kU [])) (kC a.lot.Name a.lot.Yarn a.lot.Dye a.lot.Stock a.known a.hold.Lot a.hold.Order a.hold.Reserved a.hold.Taken a.free []) ?_
 refine sh fol (kA1 (decide (n<=a.hold.Taken))) ?_
 refine Goes.ret ?_
 obtain rfl:=si h
 exact(gw2 [.bool (decide (n<=a.hold.Taken))] (Ub tB))
def qks (a:qo) (n:Int):Option qo:=
 some (⟨(⟨a.lot.Name,a.lot.Yarn,a.lot.Dye,w64 (a.lot.Stock+n)⟩:qP),a.known,(⟨a.hold.Lot,a.hold.Order,a.hold.Reserved,w64 (a.hold.Taken-n)⟩:qG),a.free⟩:qo)
theorem qpP (a:qo) (n:Int) {res:qo} (h:qks a n=some res):qJ ZT (.fn 142) (kAB a.lot.Name a.lot.Yarn a.lot.Dye a.lot.Stock a.known a.hold.Lot a.hold.Order a.hold.Reserved a.hold.Taken a.free n) [] (.agg (.str res.lot.Name::(kB res.lot.Yarn res.lot.Dye res.lot.Stock res.known res.hold.Lot res.hold.Order res.hold.Reserved res.hold.Taken res.free))) []:=by
 unfold qks at h
 refine Uc Tryz.func142 rfl rfl (m:=20) rfl (rs:=[.cell 4 182]) rfl (l:=(kX a.lot.Name a.lot.Yarn a.lot.Dye a.lot.Stock a.known a.hold.Lot a.hold.Order a.hold.Reserved a.hold.Taken a.free n)) rfl ?_
 refine sg fol ((1,.i n)::(kU kAZ)) (kC a.lot.Name a.lot.Yarn a.lot.Dye a.lot.Stock a.known a.hold.Lot a.hold.Order a.hold.Reserved a.hold.Taken a.free (kI [])) ?_
 refine sg fol ((1,.i n)::(kU kAZ)) (kC a.lot.Name a.lot.Yarn a.lot.Dye (w64 (a.lot.Stock+n)) a.known a.hold.Lot a.hold.Order a.hold.Reserved a.hold.Taken a.free (kI [])) ?_
 refine sg fol (kU kAZ) (kC a.lot.Name a.lot.Yarn a.lot.Dye (w64 (a.lot.Stock+n)) a.known a.hold.Lot a.hold.Order a.hold.Reserved (w64 (a.hold.Taken-n)) a.free (kI [])) ?_
 refine sg fol kAZ (kC a.lot.Name a.lot.Yarn a.lot.Dye (w64 (a.lot.Stock+n)) a.known a.hold.Lot a.hold.Order a.hold.Reserved (w64 (a.hold.Taken-n)) a.free (kC a.lot.Name a.lot.Yarn a.lot.Dye (w64 (a.lot.Stock+n)) a.known a.hold.Lot a.hold.Order a.hold.Reserved (w64 (a.hold.Taken-n)) a.free [])) ?_
 refine Goes.ret ?_
 obtain rfl:=si h
 exact(gw2 [.agg (.str a.lot.Name::(kB a.lot.Yarn a.lot.Dye (w64 (a.lot.Stock+n)) a.known a.hold.Lot a.hold.Order a.hold.Reserved (w64 (a.hold.Taken-n)) a.free))] (FzW.agg (jo.cons (Ub tS) (jo.cons (Ub tS) (jo.cons (Ub tS) (jo.cons (Ub tI) (jo.cons (Ub tB) (jo.cons (Ub tS) (jo.cons (Ub tS) (jo.cons (Ub tI) (jo.cons (Ub tI) (jo.cons (Ub tI) jo.nil))))))))))))
def qh5:Option Unit:=
 some ()
theorem xI {res:Unit} (h:qh5=some res):qJ ZT (.fn 78) [] [] (fm1) []:=by
 unfold qh5 at h
 refine Uc Tryz.func78 rfl rfl (m:=8) rfl (rs:=[.tmp 0]) rfl (l:=[]) rfl ?_
 refine sh fol [] ?_
 refine sg fol [(0,.map 0)] [.map kAb [.agg [.func (.func 132) [] [],.func (.func 133) [] []],.agg [.func (.func 134) [] [],.func (.func 135) [] []],.agg [.func (.func 137) [] [],.func (.func 138) [] []],.agg [.func (.func 139) [] [],.func (.func 140) [] []],.agg [.func (.func 141) [] [],.func (.func 142) [] []]]] ?_
 refine Goes.ret ?_
 obtain rfl:=si h
 exact(gw2 [.map 0] (FzW.of (by kernel_rfl)))
def qju (N:Nat) (e:ky):Option Int:=
 ((qh5).bind fun t=>
 if(e.Kind==[114,101,99,101,105,118,101])=true then
 some true
 else
 if(e.Kind==[114,101,115,101,114,118,101])=true then
 some true
 else
 if(e.Kind==[114,101,108,101,97,115,101])=true then
 some true
 else
 if(e.Kind==[116,97,107,101])=true then
 some true
 else
 if(e.Kind==[114,101,116,117,114,110])=true then
 some true
 else
 some false:Option Bool).bind fun p=>
 (qcB (!p) 13).bind fun q=>
 (qgz e.Day 0 99999).bind fun f=>
 (qgz e.Amount 1 999999999).bind fun g=>
 (qhy N e.Lot).bind fun h=>
 (qdH N ([q,f,g,h]:List Int)).bind fun b=>
 if(!decide (b=0))=true then
 some b
 else
 if(e.Kind==[114,101,99,101,105,118,101])=true then
 (qhy N e.Yarn).bind fun i=>
 (qig N e.Dye).bind fun j=>
 (qcB (!(e.Order==[])) 1).bind fun k=>
 (qdH N ([i,j,k]:List Int)).bind fun l=>
 some l
 else
 ((qhy N e.Order).bind fun a=>
 if(!(e.Yarn==[]))=true then
 (qcB true 1).bind fun c=>
 (qdH N ([a,c]:List Int)).bind fun m=>
 some (a,c,m)
 else
 (qcB (!(e.Dye==[])) 1).bind fun d=>
 (qdH N ([a,d]:List Int)).bind fun n=>
 some (a,d,n):Option (Int×Int×Int)).bind fun(r,s,o)=>
 some o
theorem qsR (N:Nat) (e:ky) {res:Int} (h:qju N e=some res):qJ ZT (.fn 30) [.agg (kA e.Kind e.Day e.Lot e.Amount e.Yarn e.Dye e.Order)] [] (.i res) []:=by
 unfold qju at h
 refine Uc Tryz.func30 rfl rfl (m:=59) rfl (rs:=[.tmp 2]) rfl (l:=[(0,.agg [.str e.Kind,.i e.Day,.str e.Lot,.i e.Amount,.str e.Yarn,.str e.Dye,.str e.Order])]) rfl ?_
 refine sg fol (kAA []) (kF e.Kind e.Day e.Lot e.Amount e.Yarn e.Dye e.Order []) ?_
 refine sq ?_
 obtain⟨Y,a,h⟩:=bnd h
 refine Goes.cutS (s':=(ofG 59 (kAA (kA1 Y)),(kF e.Kind e.Day e.Lot e.Amount e.Yarn e.Dye e.Order []))) ?_ ?_
 ·obtain⟨Z,g,a⟩:=bnd a
  rcases wyB a with⟨u,a⟩|⟨u,a⟩
  ·obtain rfl:=si a
   exact qdw.sub (qdw.rq fol [0,3] (kAA kAy) (kF e.Kind e.Day e.Lot e.Amount e.Yarn e.Dye e.Order [.cells [.func (.func 132) [] [],.func (.func 133) [] []]]) (ac (cv (xI g)) (ac (hs (.done (qeR ZT 143 (fm1) (.str e.Kind) true) (.tuple [.agg [.func (.func 132) [] [],.func (.func 133) [] []],.bool true])) (qvT qnm [[114,101,99,101,105,118,101],[114,101,115,101,114,118,101],[114,101,108,101,97,115,101],[116,97,107,101],[114,101,116,117,114,110]] (qfQ u) rfl)) az))) (Sub.norm [] [some 0] rfl rfl (.kp (.keep (.same nB) .nil)) (.kb rfl (.same sn) .nil))
  rcases wyB a with⟨J,a⟩|⟨J,a⟩
  ·obtain rfl:=si a
   exact qdw.sub (qdw.rq fol [0,3] (kAA kAy) (kF e.Kind e.Day e.Lot e.Amount e.Yarn e.Dye e.Order [.cells [.func (.func 134) [] [],.func (.func 135) [] []]]) (ac (cv (xI g)) (ac (hs (.done (qeR ZT 143 (fm1) (.str e.Kind) true) (.tuple [.agg [.func (.func 134) [] [],.func (.func 135) [] []],.bool true])) (qvT qnm [[114,101,99,101,105,118,101],[114,101,115,101,114,118,101],[114,101,108,101,97,115,101],[116,97,107,101],[114,101,116,117,114,110]] (zY u (qfQ J)) rfl)) az))) (Sub.norm [] [some 0] rfl rfl (.kp (.keep (.same nB) .nil)) (.kb rfl (.same sn) .nil))
  rcases wyB a with⟨K,a⟩|⟨K,a⟩
  ·obtain rfl:=si a
   exact qdw.sub (qdw.rq fol [0,3] (kAA kAy) (kF e.Kind e.Day e.Lot e.Amount e.Yarn e.Dye e.Order [.cells [.func (.func 137) [] [],.func (.func 138) [] []]]) (ac (cv (xI g)) (ac (hs (.done (qeR ZT 143 (fm1) (.str e.Kind) true) (.tuple [.agg [.func (.func 137) [] [],.func (.func 138) [] []],.bool true])) (qvT qnm [[114,101,99,101,105,118,101],[114,101,115,101,114,118,101],[114,101,108,101,97,115,101],[116,97,107,101],[114,101,116,117,114,110]] (zY u (zY J (qfQ K))) rfl)) az))) (Sub.norm [] [some 0] rfl rfl (.kp (.keep (.same nB) .nil)) (.kb rfl (.same sn) .nil))
  rcases wyB a with⟨Q,a⟩|⟨Q,a⟩
  ·obtain rfl:=si a
   exact qdw.sub (qdw.rq fol [0,3] (kAA kAy) (kF e.Kind e.Day e.Lot e.Amount e.Yarn e.Dye e.Order [.cells [.func (.func 139) [] [],.func (.func 140) [] []]]) (ac (cv (xI g)) (ac (hs (.done (qeR ZT 143 (fm1) (.str e.Kind) true) (.tuple [.agg [.func (.func 139) [] [],.func (.func 140) [] []],.bool true])) (qvT qnm [[114,101,99,101,105,118,101],[114,101,115,101,114,118,101],[114,101,108,101,97,115,101],[116,97,107,101],[114,101,116,117,114,110]] (zY u (zY J (zY K (qfQ Q)))) rfl)) az))) (Sub.norm [] [some 0] rfl rfl (.kp (.keep (.same nB) .nil)) (.kb rfl (.same sn) .nil))
  rcases wyB a with⟨T,a⟩|⟨T,a⟩
  ·obtain rfl:=si a
   exact qdw.sub (qdw.rq fol [0,3] (kAA kAy) (kF e.Kind e.Day e.Lot e.Amount e.Yarn e.Dye e.Order [.cells [.func (.func 141) [] [],.func (.func 142) [] []]]) (ac (cv (xI g)) (ac (hs (.done (qeR ZT 143 (fm1) (.str e.Kind) true) (.tuple [.agg [.func (.func 141) [] [],.func (.func 142) [] []],.bool true])) (qvT qnm [[114,101,99,101,105,118,101],[114,101,115,101,114,118,101],[114,101,108,101,97,115,101],[116,97,107,101],[114,101,116,117,114,110]] (zY u (zY J (zY K (zY Q (qfQ T))))) rfl)) az))) (Sub.norm [] [some 0] rfl rfl (.kp (.keep (.same nB) .nil)) (.kb rfl (.same sn) .nil))
  obtain rfl:=si a
  exact qdw.sub (qdw.rq fol [0,3] (kAA kAf) (kF e.Kind e.Day e.Lot e.Amount e.Yarn e.Dye e.Order [.cells [.nilfunc,.nilfunc]]) (ac (cv (xI g)) (ac (hs (.done (qeR ZT 143 (fm1) (.str e.Kind) true) (.tuple [.agg [.nilfunc,.nilfunc],.bool false])) (qCu qnm [[114,101,99,101,105,118,101],[114,101,115,101,114,118,101],[114,101,108,101,97,115,101],[116,97,107,101],[114,101,116,117,114,110]] (zY u (zY J (zY K (zY Q (zY T (rfl)))))))) az))) (Sub.norm [] [some 0] rfl rfl (.kp (.keep (.same nB) .nil)) (.kb rfl (.same sn) .nil))
 intro _ hsub
 refine Goes.sub hsub ?_
 refine sq ?_
 obtain⟨n,L,h⟩:=bnd h
 obtain⟨c,v,h⟩:=bnd h
 obtain⟨d,w,h⟩:=bnd h
 obtain⟨f,x,h⟩:=bnd h
 obtain⟨k,y,h⟩:=bnd h
 refine sq (gq fol [2,5,8,11,13] (kAA (kAn k)) (kF e.Kind e.Day e.Lot e.Amount e.Yarn e.Dye e.Order [.cells [.i n,.i c,.i d,.i f]]) (ac (cv (xA (!Y) 13 L)) (ac (cv (qe9 e.Day 0 99999 v)) (ac (cv (qe9 e.Amount 1 999999999 w)) (ac (cv (qge N e.Lot x)) (ac (hs (.call 50 [.slice 1 0 4 4 1] (kF e.Kind e.Day e.Lot e.Amount e.Yarn e.Dye e.Order [.cells [.i n,.i c,.i d,.i f]]) [1] [vl encI ([n,c,d,f]:List Int)] (.i k)) (qe6 (FzL.cons (Fz.lit rfl rfl (Ue (AllST.cons tI (AllST.cons tI (AllST.cons tI (AllST.cons tI AllST.nil)))))) FzL.nil) (qcv N ([n,c,d,f]:List Int) y) tI rfl)) az))))) ?_)
 refine sh fol (kAA [(5,.i k),(28,.bool (!decide (k=0)))]) ?_
 refine ihB h (fun U h=>?_) (fun U h=>?_)
 ·refine sh fol (kA2 k) ?_
  refine Goes.ret ?_
  obtain rfl:=si h
  exact(gw2 [.i k] (Ub tI))
 refine Goes.skip ?_
 refine sq ?_
 refine sh fol (kAA [(32,.bool (e.Kind==[114,101,99,101,105,118,101]))]) ?_
 refine ihB h (fun V h=>?_) (fun V h=>?_)
 ·obtain⟨p,z,h⟩:=bnd h
  obtain⟨q,A,h⟩:=bnd h
  obtain⟨r,B,h⟩:=bnd h
  obtain⟨C,D,h⟩:=bnd h
  refine sq (gq fol [2,5,9,11] (kA2 C) (kF e.Kind e.Day e.Lot e.Amount e.Yarn e.Dye e.Order [.cells [.i n,.i c,.i d,.i f],.cells [.i p,.i q,.i r]]) (ac (cv (qge N e.Yarn z)) (ac (cv (qmz N e.Dye A)) (ac (cv (xA (!(e.Order==[])) 1 B)) (ac (hs (.call 50 [.slice 2 0 3 3 1] (kF e.Kind e.Day e.Lot e.Amount e.Yarn e.Dye e.Order [.cells [.i n,.i c,.i d,.i f],.cells [.i p,.i q,.i r]]) [2] [vl encI ([p,q,r]:List Int)] (.i C)) (qe6 (FzL.cons (Fz.lit rfl rfl (Ue (AllST.cons tI (AllST.cons tI (AllST.cons tI AllST.nil))))) FzL.nil) (qcv N ([p,q,r]:List Int) D) tI rfl)) az)))) ?_)
  refine Goes.ret ?_
  obtain rfl:=si h
  exact(gw2 [.i C] (Ub tI))
 refine Goes.skip ?_
 refine sq ?_
 obtain⟨⟨W,X,M⟩,b,h⟩:=bnd h
 refine Goes.cut (s':=(ofG 59 (kA2 M),(kF e.Kind e.Day e.Lot e.Amount e.Yarn e.Dye e.Order (.cells [.i n,.i c,.i d,.i f]::(kAO W X))))) ?_ ?_
 ·obtain⟨j,o,b⟩:=bnd b
  rcases wyB b with⟨E,b⟩|⟨E,b⟩
  ·obtain⟨s,F,b⟩:=bnd b
   obtain⟨O,G,b⟩:=bnd b
   simp only[ZI,ZP]at b
   obtain⟨rfl,rfl,rfl⟩:=b
   exact qdw.rq fol [2,6,11,13] (kA2 O) (kF e.Kind e.Day e.Lot e.Amount e.Yarn e.Dye e.Order (.cells [.i n,.i c,.i d,.i f]::(kAO j s))) (ac (cv (qge N e.Order o)) (ac (gw E) (ac (cv (xA true 1 F)) (ac (hs (.call 50 [.slice 2 0 2 2 1] (kF e.Kind e.Day e.Lot e.Amount e.Yarn e.Dye e.Order (.cells [.i n,.i c,.i d,.i f]::(kAO j s))) [2] [vl encI ([j,s]:List Int)] (.i O)) (qe6 (FzL.cons (Fz.lit rfl rfl (Ue (AllST.cons tI (AllST.cons tI AllST.nil)))) FzL.nil) (qcv N ([j,s]:List Int) G) tI rfl)) az))))
  obtain⟨t,H,b⟩:=bnd b
  obtain⟨P,I,b⟩:=bnd b
  simp only[ZI,ZP]at b
  obtain⟨rfl,rfl,rfl⟩:=b
  exact qdw.rq fol [2,6,11,13] (kA2 P) (kF e.Kind e.Day e.Lot e.Amount e.Yarn e.Dye e.Order (.cells [.i n,.i c,.i d,.i f]::(kAO j t))) (ac (cv (qge N e.Order o)) (ac (gw E) (ac (cv (xA (!(e.Dye==[])) 1 H)) (ac (hs (.call 50 [.slice 2 0 2 2 1] (kF e.Kind e.Day e.Lot e.Amount e.Yarn e.Dye e.Order (.cells [.i n,.i c,.i d,.i f]::(kAO j t))) [2] [vl encI ([j,t]:List Int)] (.i P)) (qe6 (FzL.cons (Fz.lit rfl rfl (Ue (AllST.cons tI (AllST.cons tI AllST.nil)))) FzL.nil) (qcv N ([j,t]:List Int) I) tI rfl)) az))))
 try dsimp only at h
 refine Goes.ret ?_
 obtain rfl:=si h
 exact(gw2 [.i M] (Ub tI))
def qgS (l:qP) (name:Str):Option Int:=
 (tCmp l.Name name).bind fun a=>
 some a
theorem qmM (l:qP) (name:Str) {res:Int} (h:qgS l name=some res):qJ ZT (.fn 144) (kAu l.Name l.Yarn l.Dye l.Stock [.str name]) [] (.i res) []:=by
 unfold qgS at h
 refine Uc Tryz.func144 rfl rfl (m:=9) rfl (rs:=[.tmp 4]) rfl (l:=[(0,.agg [.str l.Name,.str l.Yarn,.str l.Dye,.i l.Stock]),(1,.str name)]) rfl ?_
 refine sg fol ((1,.str name)::(kU [])) (kR l.Name l.Yarn l.Dye l.Stock []) ?_
 obtain⟨b,a,h⟩:=bnd h
 refine sq (gr fol [3] (kAz b) (ac (cv (qwX l.Name name a)) az) ?_)
 refine Goes.ret ?_
 obtain rfl:=si h
 exact(gw2 [.i b] (Ub tI))
def jI (b:List qP) (c:Str):Nat->Int->Int->Option Int
 |0,_,_=>none
 |K+1,d,a=>
  if a<d then
  (((idx b (w64 (qyh .u64 (IntKind.wrap .u64 (w64 (a+d))) 1))).bind fun f=>
  (qgS f c).bind fun e=>
  if e<0 then
  some (w64 ((w64 (qyh .u64 (IntKind.wrap .u64 (w64 (a+d))) 1))+1),d)
  else
  some (a,w64 (qyh .u64 (IntKind.wrap .u64 (w64 (a+d))) 1)):Option (Int×Int))).bind fun(g,h)=>
  jI b c K h g
  else
  some a
def qcu (N:Nat) (a:List qP) (b:Str):Option (Int×Bool):=
 (jI a b N (a.length:Int) 0).bind fun c=>
 (if c<(a.length:Int)then
 (idx a c).bind fun d=>
 (qgS d b).bind fun e=>
 some (decide (e=0))
 else
 some false:Option Bool).bind fun f=>
 some (c,f)
theorem qkp (N:Nat) (a:List qP) (c:Str) {res:Int×Bool} (h:qcu N a c=some res):qJ ZT (.fn 143) [vl qg a,.str c,.func (.func 144) [] []] [] (.tuple [.i res.1,.bool res.2]) []:=by
 unfold qcu at h
 refine Uc Tryz.func143 rfl rfl (m:=49) rfl (rs:=[.tmp 6,.tmp 7]) rfl (l:=(kAD a [(1,.str c),(2,.func (.func 144) [] [])])) rfl ?_
 refine sh fol (kAD a [(1,.str c),(2,.func (.func 144) [] [])]) ?_
 refine sh fol (kAD a [(1,.str c),(2,.func (.func 144) [] []),(8,.i (a.length:Int))]) ?_
 refine sh fol (kAD a [(1,.str c),(2,.func (.func 144) [] []),(8,.i (a.length:Int)),(9,.i 0),(10,.i (a.length:Int))]) ?_
 refine sq (Goes.block ?_)
 obtain⟨y,g4,h⟩:=bnd h
 refine Goes.imp (Q:=fun x s'=>(x= .exit 0/\ ∃j,j=y/\Sub s' (ofG 49 (kAD a [(1,.str c),(2,.func (.func 144) [] []),(8,.i (a.length:Int)),(9,.i j)]),[]))) ?_ ?_
 ·refine Ud (fun M s=> ∃(d:Int) (e:Int),s=(ofG 49 (kAD a [(1,.str c),(2,.func (.func 144) [] []),(8,.i (a.length:Int)),(9,.i e),(10,.i d)]),[])/\jI a c M d e=some y) ?_ (m:=N) ⟨_,_,rfl,g4⟩
  rintro M s ⟨d,e,rfl,g4⟩
  cases M with
  |zero=>simp only[jI]at g4;cases g4
  |succ M=>
   rw[jI]at g4
   refine sq ?_
   refine sh fol (kAD a [(1,.str c),(2,.func (.func 144) [] []),(8,.i (a.length:Int)),(9,.i e),(10,.i d),(17,.bool (decide (e<d)))]) ?_
   refine ihD g4 (fun z g4=>?_) (fun z g4=>?_)
   ·refine Goes.skip ?_
    obtain⟨A,g8,g4⟩:=bnd g4
    refine Goes.imp (Q:=fun x s'=>(x= .normal/\ ∃q r,(q,r)=A/\Sub s' (ofG 49 (kAD a [(1,.str c),(2,.func (.func 144) [] []),(8,.i (a.length:Int)),(9,.i q),(10,.i r)]),[]))) ?_ ?_
    ·refine Goes.block ?_
     refine sh fol (kAD a ((1,.str c)::(2,.func (.func 144) [] [])::(8,.i (a.length:Int))::(9,.i e)::(kAG d (w64 (qyh .u64 (IntKind.wrap .u64 (w64 (e+d))) 1)) []))) ?_
     obtain⟨B,g,g8⟩:=bnd g8
     obtain⟨t,k,g8⟩:=bnd g8
     refine sq (gr fol [3,4,6] (kAD a ((1,.str c)::(2,.func (.func 144) [] [])::(8,.i (a.length:Int))::(9,.i e)::(kAG d (w64 (qyh .u64 (IntKind.wrap .u64 (w64 (e+d))) 1)) [(31,.bool (decide (t<0)))]))) (ac (iv qoB qg g) (ac (la qvb qg g) (ac (cv (qmM B c k)) az))) ?_)
     refine ihD g8 (fun u g8=>?_) (fun u g8=>?_)
     ·refine gh fol (kAD a [(1,.str c),(2,.func (.func 144) [] []),(8,.i (a.length:Int)),(9,.i (w64 ((w64 (qyh .u64 (IntKind.wrap .u64 (w64 (e+d))) 1))+1))),(10,.i d)]) ?_
      obtain rfl:=si g8
      exact⟨rfl,_,_,rfl,(Sub.refl _)⟩
     refine gh fol (kAD a [(1,.str c),(2,.func (.func 144) [] []),(8,.i (a.length:Int)),(9,.i e),(10,.i (w64 (qyh .u64 (IntKind.wrap .u64 (w64 (e+d))) 1)))]) ?_
     obtain rfl:=si g8
     exact⟨rfl,_,_,rfl,(Sub.refl _)⟩
    rintro x s' ⟨rfl,q,r,rfl,hsub⟩
    try dsimp only at g4
    exact⟨M,(ofG 49 (kAD a [(1,.str c),(2,.func (.func 144) [] []),(8,.i (a.length:Int)),(9,.i q),(10,.i r)]),[]),Nat.lt_succ_self _,(hsub.trans (Sub.refl _)),_,_,rfl,g4⟩
   refine Goes.exit ?_
   obtain rfl:=si g4
   exact⟨rfl,_,rfl,(Sub.keep [0,1,2,8,9] rfl rfl)⟩
 rintro x s' ⟨rfl,j,rfl,hsub⟩
 refine Goes.sub hsub ?_
 refine sq ?_
 obtain⟨p,b,h⟩:=bnd h
 refine Goes.cut (s':=(ofG 49 [(6,.i j),(7,.bool p)],[])) ?_ ?_
 ·rcases wyD b with⟨n,b⟩|⟨n,b⟩
  ·obtain⟨v,f,b⟩:=bnd b
   obtain⟨w,o,b⟩:=bnd b
   obtain rfl:=si b
   exact tr fol [4,8,9,11] [(6,.i j),(7,.bool (decide (w=0)))] (ac (gw n) (ac (iv qoB qg f) (ac (la qvb qg f) (ac (cv (qmM v c o)) az))))
  obtain rfl:=si b
  exact tr fol [4] [(6,.i j),(7,.bool false)] (ac (gw n) az)
 refine Goes.ret ?_
 obtain rfl:=si h
 exact(gw2 [.i j,.bool p] (FzW.tuple (jo.cons (Ub tI) (jo.cons (Ub tB) jo.nil))))
def qfa (N:Nat) (b:StateT) (name:Str):Option (Int×Bool):=
 (qcu N b.Lots name).bind fun a=>
 some (a.1,a.2)
theorem qlP (N:Nat) (a:StateT) (name:Str) {res:Int×Bool} (h:qfa N a name=some res):qJ ZT (.fn 80) (kAE a.Day a.Lots a.Holds [.str name]) [] (.tuple [.i res.1,.bool res.2]) []:=by
 unfold qfa at h
 refine Uc Tryz.func80 rfl rfl (m:=12) rfl (rs:=[.tmp 4,.tmp 5]) rfl (l:=(kZ a.Day a.Lots a.Holds [(1,.str name)])) rfl ?_
 refine sg fol ((1,.str name)::(kU [])) (kD a.Day a.Lots a.Holds []) ?_
 obtain⟨b,c,h⟩:=bnd h
 refine sq (gr fol [3] [(4,.i b.1),(5,.bool b.2)] (ac (hs (.call 143 [vl qg a.Lots,.str name,.func (.func 144) [] []] [] [] [vl qg a.Lots,.str name,.func (.func 144) [] []] (.tuple [.i b.1,.bool b.2])) (yX (FzL.cons (Ua (qN qg _ (nl rfl))) (FzL.cons (Ua tS) (FzL.cons (Fz.func FzL.nil FzL.nil) FzL.nil))) (qkp N a.Lots name c) (Still.tuple (AllST.cons tI (AllST.cons tB AllST.nil))))) az) ?_)
 refine Goes.ret ?_
 obtain rfl:=si h
 exact(gw2 [.i b.1,.bool b.2] (FzW.tuple (jo.cons (Ub tI) (jo.cons (Ub tB) jo.nil))))
def qhm (a:qG):Option KeyT:=
 some (⟨a.Lot,a.Order⟩:KeyT)
theorem qkb (a:qG) {res:KeyT} (h:qhm a=some res):qJ ZT (.fn 125) [.agg [.str a.Lot,.str a.Order,.i a.Reserved,.i a.Taken]] [] (.agg [.str res.lot,.str res.order]) []:=by
 unfold qhm at h
 refine Uc Tryz.func125 rfl rfl (m:=8) rfl (rs:=[.cell 2 190]) rfl (l:=(kA8 a.Lot a.Order a.Reserved a.Taken [])) rfl ?_
 refine sg fol (kAA [(2,.ptr 1 0)]) (kL a.Lot a.Order a.Reserved a.Taken [.cells [.str [],.str []]]) ?_
 refine sg fol [(2,.ptr 1 0)] (kL a.Lot a.Order a.Reserved a.Taken [.cells [.str a.Lot,.str a.Order]]) ?_
 refine Goes.ret ?_
 obtain rfl:=si h
 exact(gw2 [.agg [.str a.Lot,.str a.Order]] (FzW.agg (jo.cons (Ub tS) (jo.cons (Ub tS) jo.nil))))
def qeI (a:qG) (b:qo):Option Bool:=
 (qhm a).bind fun c=>
 (qhm b.hold).bind fun d=>
 some ((c.lot==d.lot)&&((c.order==d.order)&&true))
theorem qnq (d:qG) (c:qo) {res:Bool} (h:qeI d c=some res):qJ ZT (.fn 175) (kAM d.Lot d.Order d.Reserved d.Taken [.fptr [.str c.lot.Name,.str c.lot.Yarn,.str c.lot.Dye,.i c.lot.Stock,.bool c.known,.str c.hold.Lot,.str c.hold.Order,.i c.hold.Reserved,.i c.hold.Taken,.i c.free] 0]) [] (.bool res) []:=by
 unfold qeI at h
 refine Uc Tryz.func175 rfl rfl (m:=10) rfl (rs:=[.tmp 3]) rfl (l:=(kA8 d.Lot d.Order d.Reserved d.Taken [(1,.fptr [.str c.lot.Name,.str c.lot.Yarn,.str c.lot.Dye,.i c.lot.Stock,.bool c.known,.str c.hold.Lot,.str c.hold.Order,.i c.hold.Reserved,.i c.hold.Taken,.i c.free] 0)])) rfl ?_
 refine sg fol ((1,.fptr [.str c.lot.Name,.str c.lot.Yarn,.str c.lot.Dye,.i c.lot.Stock,.bool c.known,.str c.hold.Lot,.str c.hold.Order,.i c.hold.Reserved,.i c.hold.Taken,.i c.free] 0)::(kU [])) (kL d.Lot d.Order d.Reserved d.Taken []) ?_
 obtain⟨f,j,h⟩:=bnd h
 obtain⟨g,k,h⟩:=bnd h
 refine sq (gr fol [1,4,5] (kA6 ((f.lot==g.lot)&&((f.order==g.order)&&true))) (ac (cv (qkb d j)) (ac (cv (qkb c.hold k)) (ac (hs (.done (.opt (qqV ZT .eql 190 (.tmp 5) (.tmp 8) (.agg [.str f.lot,.str f.order]) (.agg [.str g.lot,.str g.order]))) (.bool ((f.lot==g.lot)&&((f.order==g.order)&&true)))) (qDj qBv (e:=((f.lot==g.lot)&&((f.order==g.order)&&true))) (.cons (a:= .str f.lot) (b:= .str g.lot) rfl (by kernel_rfl) (by kernel_rfl) (by kernel_rfl) (.cons (a:= .str f.order) (b:= .str g.order) rfl (by kernel_rfl) (by kernel_rfl) (by kernel_rfl) .nil)))) az))) ?_)
 refine Goes.ret ?_
 obtain rfl:=si h
 exact(gw2 [.bool ((f.lot==g.lot)&&((f.order==g.order)&&true))] (Ub tB))
def jC (a:List qG) (b:qo):Nat->Int->Option (Unit⊕Int)
 |0,_=>none
 |K+1,c=>
  if c<(a.length:Int)then
  (idx a c).bind fun d=>
  (qeI d b).bind fun e=>
  if e=true then
  some (.inr c)
  else
  jC a b K (w64 (c+1))
  else
  some (.inl ())
def qeF (N:Nat) (a:List qG) (b:qo):Option Int:=
 (jC a b N 0).bind (fun
 |(.inl ())=>
 some (-1)
 |(.inr c)=>
 some c)
theorem qnu (N:Nat) (b:List qG) (a:qo) {res:Int} (h:qeF N b a=some res):qJ ZT (.fn 174) [vl qE b,.func (.func 175) [] [.fptr [.str a.lot.Name,.str a.lot.Yarn,.str a.lot.Dye,.i a.lot.Stock,.bool a.known,.str a.hold.Lot,.str a.hold.Order,.i a.hold.Reserved,.i a.hold.Taken,.i a.free] 0]] [] (.i res) []:=by
 unfold qeF at h
 refine Uc Tryz.func174 rfl rfl (m:=19) rfl (rs:=[.tmp 4]) rfl (l:=(kAS b [(1,.func (.func 175) [] [.fptr [.str a.lot.Name,.str a.lot.Yarn,.str a.lot.Dye,.i a.lot.Stock,.bool a.known,.str a.hold.Lot,.str a.hold.Order,.i a.hold.Reserved,.i a.hold.Taken,.i a.free] 0])])) rfl ?_
 refine sh fol (kAS b [(1,.func (.func 175) [] [.fptr [.str a.lot.Name,.str a.lot.Yarn,.str a.lot.Dye,.i a.lot.Stock,.bool a.known,.str a.hold.Lot,.str a.hold.Order,.i a.hold.Reserved,.i a.hold.Taken,.i a.free] 0])]) ?_
 refine sq ?_
 refine sh fol (kAS b [(1,.func (.func 175) [] [.fptr [.str a.lot.Name,.str a.lot.Yarn,.str a.lot.Dye,.i a.lot.Stock,.bool a.known,.str a.hold.Lot,.str a.hold.Order,.i a.hold.Reserved,.i a.hold.Taken,.i a.free] 0]),(7,.i (b.length:Int)),(8,.i 0)]) ?_
 refine Goes.block ?_
 obtain⟨g,g2,h⟩:=bnd h
 refine Goes.imp (Q:=fun x s'=>(x= .exit 0/\(.inl ())=g/\Sub s' (ofG 19 [],[]))\/(x= .ret/\ ∃j,(.inr j)=g/\qbg ZT [.tmp 4] (.i j) .ret s')) ?_ ?_
 ·refine Ud (fun M s=> ∃(c:Int),s=(ofG 19 (kAS b ((1,.func (.func 175) [] [.fptr [.str a.lot.Name,.str a.lot.Yarn,.str a.lot.Dye,.i a.lot.Stock,.bool a.known,.str a.hold.Lot,.str a.hold.Order,.i a.hold.Reserved,.i a.hold.Taken,.i a.free] 0])::(kAU (b.length:Int) c []))),[])/\jC b a M c=some g) ?_ (m:=N) ⟨_,rfl,g2⟩
  rintro M s ⟨c,rfl,g2⟩
  cases M with
  |zero=>simp only[jC]at g2;cases g2
  |succ M=>
   rw[jC]at g2
   refine sh fol (kAS b ((1,.func (.func 175) [] [.fptr [.str a.lot.Name,.str a.lot.Yarn,.str a.lot.Dye,.i a.lot.Stock,.bool a.known,.str a.hold.Lot,.str a.hold.Order,.i a.hold.Reserved,.i a.hold.Taken,.i a.free] 0])::(kAU (b.length:Int) c [(9,.bool (decide (c<(b.length:Int))))]))) ?_
   refine sq ?_
   refine ihD g2 (fun n g2=>?_) (fun n g2=>?_)
   ·refine Goes.skip ?_
    refine sq (Goes.block ?_)
    refine sh fol (kAS b ((1,.func (.func 175) [] [.fptr [.str a.lot.Name,.str a.lot.Yarn,.str a.lot.Dye,.i a.lot.Stock,.bool a.known,.str a.hold.Lot,.str a.hold.Order,.i a.hold.Reserved,.i a.hold.Taken,.i a.free] 0])::(5,.i c)::(kAU (b.length:Int) c []))) ?_
    obtain⟨d,e,g2⟩:=bnd g2
    obtain⟨k,f,g2⟩:=bnd g2
    refine sq (gr fol [3,4,5] (kAS b ((1,.func (.func 175) [] [.fptr [.str a.lot.Name,.str a.lot.Yarn,.str a.lot.Dye,.i a.lot.Stock,.bool a.known,.str a.hold.Lot,.str a.hold.Order,.i a.hold.Reserved,.i a.hold.Taken,.i a.free] 0])::(5,.i c)::(kAU (b.length:Int) c [(16,.bool k)]))) (ac (iv qnQ qE e) (ac (la qw6 qE e) (ac (hs (.call 175 (kAM d.Lot d.Order d.Reserved d.Taken [.fptr [.str a.lot.Name,.str a.lot.Yarn,.str a.lot.Dye,.i a.lot.Stock,.bool a.known,.str a.hold.Lot,.str a.hold.Order,.i a.hold.Reserved,.i a.hold.Taken,.i a.free] 0]) [] [] (kAM d.Lot d.Order d.Reserved d.Taken [.fptr [.str a.lot.Name,.str a.lot.Yarn,.str a.lot.Dye,.i a.lot.Stock,.bool a.known,.str a.hold.Lot,.str a.hold.Order,.i a.hold.Reserved,.i a.hold.Taken,.i a.free] 0]) (.bool k)) (yX (FzL.cons (Ua (Still.agg (AllST.cons tS (AllST.cons tS (AllST.cons tI (AllST.cons tI AllST.nil)))))) (FzL.cons (Ua (Still.fptr (AllST.cons tS (AllST.cons tS (AllST.cons tS (AllST.cons tI (AllST.cons tB (AllST.cons tS (AllST.cons tS (AllST.cons tI (AllST.cons tI (AllST.cons tI AllST.nil)))))))))))) FzL.nil)) (qnq d a f) tB)) az))) ?_)
    refine ihB g2 (fun o g2=>?_) (fun o g2=>?_)
    ·refine sh fol (kAz c) ?_
     refine Goes.ret ?_
     obtain rfl:=si g2
     exact Or.inr (⟨rfl,_,rfl,(gw2 [.i c] (Ub tI))⟩)
    refine Goes.skip ?_
    refine gh fol (kAS b ((1,.func (.func 175) [] [.fptr [.str a.lot.Name,.str a.lot.Yarn,.str a.lot.Dye,.i a.lot.Stock,.bool a.known,.str a.hold.Lot,.str a.hold.Order,.i a.hold.Reserved,.i a.hold.Taken,.i a.free] 0])::(kAU (b.length:Int) (w64 (c+1)) []))) ?_
    exact⟨M,(ofG 19 (kAS b ((1,.func (.func 175) [] [.fptr [.str a.lot.Name,.str a.lot.Yarn,.str a.lot.Dye,.i a.lot.Stock,.bool a.known,.str a.hold.Lot,.str a.hold.Order,.i a.hold.Reserved,.i a.hold.Taken,.i a.free] 0])::(kAU (b.length:Int) (w64 (c+1)) []))),[]),Nat.lt_succ_self _,(Sub.refl _),_,rfl,g2⟩
   refine Goes.exit ?_
   obtain rfl:=si g2
   exact Or.inl (⟨rfl,rfl,(Sub.keep [] rfl rfl)⟩)
 rintro x s' (⟨rfl,rfl,hsub⟩|⟨rfl,p,rfl,hret⟩)
 ·try dsimp only at h
  refine Goes.sub hsub ?_
  refine sh fol kAp ?_
  refine Goes.ret ?_
  obtain rfl:=si h
  exact(gw2 [.i (-1)] (Ub tI))
 try dsimp only at h
 obtain rfl:=si h
 exact hret
def jJ (N:Nat) (b:StateT) (e:ky):Option qo:=
 (qfa N b e.Lot).bind fun f=>
 ((if f.2=true then
 (idx b.Lots f.1).bind fun c=>
 (qbI N b c).bind fun g=>
 some (c.Name,c.Yarn,c.Dye,c.Stock,g)
 else
 some (e.Lot,e.Yarn,e.Dye,0,0):Option (Str×Str×Str×Int×Int))).bind fun(l,m,n,o,p)=>
 (qeF N b.Holds (⟨(⟨l,m,n,o⟩:qP),f.2,(⟨e.Lot,e.Order,0,0⟩:qG),p⟩:qo)).bind fun d=>
 ((if d>=0 then
 (idx b.Holds d).bind fun a=>
 some (a.Lot,a.Order,a.Reserved,a.Taken)
 else
 some (e.Lot,e.Order,0,0):Option (Str×Str×Int×Int))).bind fun(h,i,j,k)=>
 some (⟨(⟨l,m,n,o⟩:qP),f.2,(⟨h,i,j,k⟩:qG),p⟩:qo)
theorem qeC (N:Nat) (a:StateT) (e:ky) {res:qo} (h:jJ N a e=some res):qJ ZT (.fn 113) (kAE a.Day a.Lots a.Holds [.agg [.str e.Kind,.i e.Day,.str e.Lot,.i e.Amount,.str e.Yarn,.str e.Dye,.str e.Order]]) [] (.agg (.str res.lot.Name::(kB res.lot.Yarn res.lot.Dye res.lot.Stock res.known res.hold.Lot res.hold.Order res.hold.Reserved res.hold.Taken res.free))) []:=by
 unfold jJ at h
 refine Uc Tryz.func113 rfl rfl (m:=55) rfl (rs:=[.cell 4 182]) rfl (l:=(kZ a.Day a.Lots a.Holds [(1,.agg [.str e.Kind,.i e.Day,.str e.Lot,.i e.Amount,.str e.Yarn,.str e.Dye,.str e.Order])])) rfl ?_
 refine sg fol (kN [(4,.ptr 2 0)]) (kD a.Day a.Lots a.Holds (kF e.Kind e.Day e.Lot e.Amount e.Yarn e.Dye e.Order (kI []))) ?_
 obtain⟨b,y,h⟩:=bnd h
 refine sq (gr fol [3] (kN [(4,.ptr 2 0),(5,.i b.1),(6,.bool b.2)]) (ac (cv (qlP N a e.Lot y)) az) ?_)
 refine sg fol (kU [(4,.ptr 2 0),(5,.i b.1),(6,.bool b.2),(7,.ptr 3 0)]) (kD a.Day a.Lots a.Holds (kF e.Kind e.Day e.Lot e.Amount e.Yarn e.Dye e.Order (kI [.cells [.str e.Lot,.str e.Yarn,.str e.Dye,.i 0,.bool b.2,.str e.Lot,.str e.Order,.i 0,.i 0,.i 0]]))) ?_
 refine sq ?_
 refine sh fol (kU [(4,.ptr 2 0),(5,.i b.1),(7,.ptr 3 0),(30,.bool b.2)]) ?_
 obtain⟨C,g7,h⟩:=bnd h
 refine Goes.imp (Q:=fun x s'=>(x= .normal/\ ∃c d f g j,(c,d,f,g,j)=C/\Sub s' (ofG 55 (kU [(4,.ptr 1 0),(7,.ptr 2 0)]),(kD a.Day a.Lots a.Holds (kI [.cells [.str c,.str d,.str f,.i g,.bool b.2,.str e.Lot,.str e.Order,.i 0,.i 0,.i j]]))))) ?_ ?_
 ·refine ihB g7 (fun D g7=>?_) (fun D g7=>?_)
  ·obtain⟨r,u,g7⟩:=bnd g7
   refine sq (gq fol [3,4] (kU [(4,.ptr 2 0),(7,.ptr 3 0)]) (kD a.Day a.Lots a.Holds (kF e.Kind e.Day e.Lot e.Amount e.Yarn e.Dye e.Order (kI [.cells [.str r.Name,.str r.Yarn,.str r.Dye,.i r.Stock,.bool b.2,.str e.Lot,.str e.Order,.i 0,.i 0,.i 0]]))) (ac (iv qoB qg u) (ac (la qvb qg u) az)) ?_)
   obtain⟨z,v,g7⟩:=bnd g7
   refine gq fol [3] (kU [(4,.ptr 2 0),(7,.ptr 3 0)]) (kD a.Day a.Lots a.Holds (kF e.Kind e.Day e.Lot e.Amount e.Yarn e.Dye e.Order (kI [.cells [.str r.Name,.str r.Yarn,.str r.Dye,.i r.Stock,.bool b.2,.str e.Lot,.str e.Order,.i 0,.i 0,.i z]]))) (ac (cv (qeS N a r v)) az) ?_
   obtain rfl:=si g7
   exact⟨rfl,_,_,_,_,_,rfl,(Sub.norm [] [some 0,some 2,some 3] rfl rfl (.kp (.kp (.kp .nil))) (.kb rfl (.same sn) (.kb rfl (.same sn) (.kb rfl (.same sn) .nil))))⟩
  refine Goes.skip ?_
  obtain rfl:=si g7
  exact⟨rfl,_,_,_,_,_,rfl,(Sub.norm [] [some 0,some 2,some 3] rfl rfl (.kp (.kp (.drop (.kp .nil)))) (.kb rfl (.same sn) (.kb rfl (.same sn) (.kb rfl (.same sn) .nil))))⟩
 rintro x s' ⟨rfl,c,d,f,g,j,rfl,hsub⟩
 try dsimp only at h
 refine Goes.sub hsub ?_
 refine sq ?_
 obtain⟨s,w,h⟩:=bnd h
 refine sq (gr fol [3] (kU [(4,.ptr 1 0),(7,.ptr 2 0),(8,.i s)]) (ac (hs (.call 174 [vl qE a.Holds,.func (.func 175) [] [.ptr 2 0]] (kD a.Day a.Lots a.Holds (kI [.cells [.str c,.str d,.str f,.i g,.bool b.2,.str e.Lot,.str e.Order,.i 0,.i 0,.i j]])) [2] [vl qE a.Holds,.func (.func 175) [] [.fptr [.str (((⟨(⟨c,d,f,g⟩:qP),b.2,(⟨e.Lot,e.Order,0,0⟩:qG),j⟩:qo).lot).Name),.str (((⟨(⟨c,d,f,g⟩:qP),b.2,(⟨e.Lot,e.Order,0,0⟩:qG),j⟩:qo).lot).Yarn),.str (((⟨(⟨c,d,f,g⟩:qP),b.2,(⟨e.Lot,e.Order,0,0⟩:qG),j⟩:qo).lot).Dye),.i (((⟨(⟨c,d,f,g⟩:qP),b.2,(⟨e.Lot,e.Order,0,0⟩:qG),j⟩:qo).lot).Stock),.bool ((⟨(⟨c,d,f,g⟩:qP),b.2,(⟨e.Lot,e.Order,0,0⟩:qG),j⟩:qo).known),.str (((⟨(⟨c,d,f,g⟩:qP),b.2,(⟨e.Lot,e.Order,0,0⟩:qG),j⟩:qo).hold).Lot),.str (((⟨(⟨c,d,f,g⟩:qP),b.2,(⟨e.Lot,e.Order,0,0⟩:qG),j⟩:qo).hold).Order),.i (((⟨(⟨c,d,f,g⟩:qP),b.2,(⟨e.Lot,e.Order,0,0⟩:qG),j⟩:qo).hold).Reserved),.i (((⟨(⟨c,d,f,g⟩:qP),b.2,(⟨e.Lot,e.Order,0,0⟩:qG),j⟩:qo).hold).Taken),.i ((⟨(⟨c,d,f,g⟩:qP),b.2,(⟨e.Lot,e.Order,0,0⟩:qG),j⟩:qo).free)] 0]] (.i s)) (qe6 (FzL.cons (Ua (qN qE _ (nl rfl))) (FzL.cons (Fz.func FzL.nil (FzL.cons (Fz.ptr rfl rfl (FzL.cons (Ua tS) (FzL.cons (Ua tS) (FzL.cons (Ua tS) (FzL.cons (Ua tI) (FzL.cons (Ua tB) (FzL.cons (Ua tS) (FzL.cons (Ua tS) (FzL.cons (Ua tI) (FzL.cons (Ua tI) (FzL.cons (Ua tI) FzL.nil))))))))))) FzL.nil)) FzL.nil)) (qnu N a.Holds (⟨(⟨c,d,f,g⟩:qP),b.2,(⟨e.Lot,e.Order,0,0⟩:qG),j⟩:qo) w) tI rfl)) az) ?_)
 refine sh fol (kU [(4,.ptr 1 0),(7,.ptr 2 0),(8,.i s),(47,.bool (decide (s>=0)))]) ?_
 obtain⟨A,g16,h⟩:=bnd h
 refine Goes.imp (Q:=fun x s'=>(x= .normal/\ ∃k n o p,(k,n,o,p)=A/\Sub s' (ofG 55 (kA3 [(7,.ptr 1 0)]),(kI (kC c d f g b.2 k n o p j []))))) ?_ ?_
 ·refine ihD g16 (fun B g16=>?_) (fun B g16=>?_)
  ·obtain⟨t,q,g16⟩:=bnd g16
   refine gq fol [3,4] [(4,.ptr 1 0),(7,.ptr 2 0)] (kD a.Day a.Lots a.Holds (kI (kC c d f g b.2 t.Lot t.Order t.Reserved t.Taken j []))) (ac (iv qnQ qE q) (ac (la qw6 qE q) az)) ?_
   obtain rfl:=si g16
   exact⟨rfl,_,_,_,_,rfl,(Sub.norm [] [some 1,some 2] rfl rfl (.kp (.kp .nil)) (.kb rfl (.same sn) (.kb rfl (.same sn) .nil)))⟩
  refine Goes.skip ?_
  obtain rfl:=si g16
  exact⟨rfl,_,_,_,_,rfl,(Sub.norm [] [some 1,some 2] rfl rfl (.drop (.kp (.kp .nil))) (.kb rfl (.same sn) (.kb rfl (.same sn) .nil)))⟩
 rintro x s' ⟨rfl,k,n,o,p,rfl,hsub⟩
 try dsimp only at h
 refine Goes.sub hsub ?_
 refine sg fol (kA3 []) (kC c d f g b.2 k n o p j (kC c d f g b.2 k n o p j [])) ?_
 refine Goes.ret ?_
 obtain rfl:=si h
 exact(gw2 [.agg (.str c::(kB d f g b.2 k n o p j))] (FzW.agg (jo.cons (Ub tS) (jo.cons (Ub tS) (jo.cons (Ub tS) (jo.cons (Ub tI) (jo.cons (Ub tB) (jo.cons (Ub tS) (jo.cons (Ub tS) (jo.cons (Ub tI) (jo.cons (Ub tI) (jo.cons (Ub tI) jo.nil))))))))))))
end Go.Av
