/-
  Walks of functions: what each computes, as a plain function.
-/
import Derived.Test.YtjflombnfhlkaaaGreatDoorAvJn
import Derived.Test.YtjflombnfhlkaaaGreatDoorAvPq
import Derived.Test.YtjflombnfhlkaaaGreatDoorAvSorN
noncomputable section
namespace Go.Av
open Go.Proofs Go.RowKit
set_option linter.unusedSectionVars false
set_option linter.unusedVariables false
set_option linter.unusedSimpArgs false
set_option maxRecDepth 100000
theorem fol:Tryz.prog.follows .mixedOrders=true:=by kernel_rfl
structure jo where
 Number:Int
 Kind:Str
 Names:List Str
 Values:List Int
 Text:Str
def qhg:Enc jo:=(encI.prod (encS.prod ((qgF encS).prod ((qgF encI).prod encS)))).comap fun x=>(x.Number,x.Kind,x.Names,x.Values,x.Text)
instance:SE qhg:=⟨nl rfl⟩
structure qao where
 Name:Str
 Batch:Str
 Born:Int
 Last:Int
 Uses:Int
 Used:Int
 Limit:Int
 Until:Int
 Gone:Bool
def qbZ:Enc qao:=(encS.prod (encS.prod (encI.prod (encI.prod (encI.prod (encI.prod (encI.prod (encI.prod encB)))))))).comap fun x=>(x.Name,x.Batch,x.Born,x.Last,x.Uses,x.Used,x.Limit,x.Until,x.Gone)
instance:SE qbZ:=⟨nl rfl⟩
abbrev cS (x:qao):List AV:=[.str x.Name,.str x.Batch,.i x.Born,.i x.Last,.i x.Uses,.i x.Used,.i x.Limit,.i x.Until,.bool x.Gone]
abbrev cE (x:jo):List AV:=[.i x.Number,.str x.Kind,vl encS x.Names,vl encI x.Values,.str x.Text]
abbrev bS (l:List qao):Blk:= .cells (l.flatMap qbZ.c)
abbrev cF (a:Int) (b:Str) (c:List Str) (d:List Int) (e:Str):List AV:=[.i a,.str b,vl encS c,vl encI d,.str e]
abbrev cT (a b:Str) (c d e f g h:Int) (i:Bool):List AV:=[.str a,.str b,.i c,.i d,.i e,.i f,.i g,.i h,.bool i]
structure qeq where
 Day:Int
 Slings:List qao
def qeB:Enc qeq:=(encI.prod (qgF qbZ)).comap fun x=>(x.Day,x.Slings)
instance:SE qeB:=⟨nl rfl⟩
structure qb where
 Desk:Str
 Number:Int
 Clock:Int
 Line:Str
def qa:Enc qb:=(encS.prod (encI.prod (encI.prod encS))).comap fun x=>(x.Desk,x.Number,x.Clock,x.Line)
instance:SE qa:=⟨nl rfl⟩
structure qj where
 Desk:Str
 Number:Int
def qf:Enc qj:=(encS.prod encI).comap fun x=>(x.Desk,x.Number)
instance:SE qf:=⟨nl rfl⟩
abbrev kA (a:List qb) (x:List Blk):List Blk:= .cells (a.flatMap qa.c)::x
abbrev kB (x:List Blk):List Blk:= .cells [.i 0,.str [],.nilslice,.nilslice,.str []]::x
abbrev kC (a:List qb) (x:List (Nat×AV)):List (Nat×AV):=(0,vl qa a)::x
abbrev kD (a:Str) (b:Int) (c:Int) (d:Str) (x:List Blk):List Blk:= .cells [.str a,.i b,.i c,.str d]::x
abbrev kE (a:List qj) (x:List Blk):List Blk:= .cells (a.flatMap qf.c)::x
abbrev kF {α1:Type} (a:List qb) (b:List α1) (c:Int) (x:List (Nat×AV)):List (Nat×AV):=(1,vl qa a)::(6,.oslice 0 b.length 4)::(7,.i c)::x
abbrev kG (a:List Str) (x:List Blk):List Blk:= .cells (a.flatMap encS.c)::x
abbrev kH {α4:Type} (a:Str) (b:Str) (c:Int) (d:Int) (e:List α4) (x:List (Nat×AV)):List (Nat×AV):=(0,.str a)::(1,.str b)::(2,.i c)::(3,.i d)::(9,.slice 0 0 e.length e.length 1)::x
abbrev kI (a:List Str) (x:List (Nat×AV)):List (Nat×AV):=(2,.ptr 0 0)::(4,vl encS a)::x
abbrev kJ (a:List qb) (b:Int) (c:Int) (x:List (Nat×AV)):List (Nat×AV):=(23,vl qa a)::(24,.i b)::(25,.i c)::x
abbrev kK (x:List (Nat×AV)):List (Nat×AV):=(0,vl qa ([]:List qb))::x
abbrev kL {α1:Type} {α2:Type} (a:Str) (b:List α1) (c:List α2) (x:List Blk):List Blk:= .cells [.i 0,.str a,.gslice 2 b.length 1,.gslice 3 c.length 1,.str []]::x
abbrev kM (a:Str) (b:Str) (x:List (Nat×AV)):List (Nat×AV):=(0,.str a)::(1,.str b)::x
abbrev kN (a:Int) (b:List qb) (c:Int) (d:List qj) (e:Int) (f:Int) (x:List (Nat×AV)):List (Nat×AV):=(7,.i a)::(8,vl qa b)::(9,.i c)::(10,vl qf d)::(11,.i e)::(12,.i f)::x
abbrev kO {α0:Type} (a:List α0) (b:Int) (c:List qb) (d:Int) (x:List (Nat×AV)):List (Nat×AV):=(5,.gslice 0 a.length 2)::(7,.ptr 1 0)::(8,.i b)::(46,vl qa c)::(47,.i d)::x
abbrev kP (a:Int) (b:Int):List (Nat×AV):=[(7,.i a),(8,.i b)]
abbrev kQ {α0:Type} (a:List α0) (b:Int) (x:List (Nat×AV)):List (Nat×AV):=(3,.gslice 0 a.length 2)::(4,.i b)::x
abbrev kR {α0:Type} (a:List α0) (b:Int) (x:List (Nat×AV)):List (Nat×AV):=(5,.gslice 0 a.length 2)::(6,.i b)::(7,.ptr 1 0)::x
abbrev kS (a:List qb) (b:Int) (c:Int) (x:List (Nat×AV)):List (Nat×AV):=(10,vl qa a)::(11,.i b)::(12,.i c)::x
abbrev kT (a:List qb) (x:List (Nat×AV)):List (Nat×AV):=(1,vl qa a)::x
abbrev kU (a:Str) (b:List Str) (c:List Int) (x:List Blk):List Blk:= .cells [.i 0,.str a,vl encS b,.gslice 2 c.length 1,.str []]:: .cells (c.flatMap encI.c)::x
abbrev kV (a:List qb) (b:List qb) (x:List (Nat×AV)):List (Nat×AV):=(5,vl qa a)::(6,vl qa b)::x
abbrev kW {α0:Type} (a:List α0) (x:List (Nat×AV)):List (Nat×AV):=(7,.oslice 0 a.length 4)::x
abbrev kX {α1:Type} (a:Str) (b:List α1) (c:Int) (d:Int) (x:List (Nat×AV)):List (Nat×AV):=(0,.str a)::(3,.gslice 0 b.length 1)::(4,.i c)::(5,.i d)::x
abbrev kY:List AV:=[.agg [.i 0,.str [],.nilslice,.nilslice,.str []],.bool false]
abbrev kZ {α0:Type} (a:List α0) (x:List (Nat×AV)):List (Nat×AV):=(7,.gslice 0 a.length 4)::x
abbrev kAA {α0:Type} (a:List α0) (x:List (Nat×AV)):List (Nat×AV):=(6,.slice 0 0 a.length a.length 1)::x
abbrev kAB (a:Int) (b:Int):List Blk:=[.cells [.i a,.i b]]
abbrev kAC (a:Str) (b:Int) (x:List Blk):List Blk:= .cells [.str a,.i b]::x
abbrev kAD (a:Int) (b:Int) (x:List (Nat×AV)):List (Nat×AV):=(5,.i a)::(8,.ptr 1 0)::(9,.i b)::x
abbrev kAE (a:List Int) (b:Int) (c:Int) (x:List (Nat×AV)):List (Nat×AV):=(5,vl encI a)::(6,.i b)::(7,.i c)::x
abbrev kAF:List (Nat×AV):=[(4,.bool false)]
abbrev kAG (a:List Str) (b:Int) (x:List (Nat×AV)):List (Nat×AV):=(2,.ptr 0 0)::(7,.ptr 1 0)::(54,vl encS a)::(55,.i b)::x
abbrev kAH (a:Str) (x:List (Nat×AV)):List (Nat×AV):=(0,.str a)::x
abbrev kAI (a:List qj) (b:List qj) (x:List (Nat×AV)):List (Nat×AV):=(0,vl qf a)::(1,vl qf b)::x
abbrev kAJ (a:List Int) (x:List Blk):List Blk:= .cells (a.flatMap encI.c)::x
abbrev kAK:List Blk:=[.cells (([]:List qb).flatMap qa.c)]
abbrev kAL:List AV:=[.str [109,97,107,101],.str [116,101,115,116],.str [117,115,101],.str [102,97,105,108],.str [114,101,99,97,108,108],.str [117,110,100,111]]
abbrev kAM (a:Int) (x:List (Nat×AV)):List (Nat×AV):=(3,.i a)::(4,.ptr 0 0)::x
abbrev kAN:List (Nat×AV):=[(5,.ptr 1 0),(6,.bool true)]
abbrev kAO (x:List (Nat×AV)):List (Nat×AV):=(2,.ptr 0 0)::x
abbrev kAP (a:List Str) (b:Str) (x:List (Nat×AV)):List (Nat×AV):=(0,vl encS a)::(1,.str b)::x
abbrev kAQ:List (Nat×AV):=[(4,.bool true)]
abbrev kAR {α0:Type} (a:List α0) (b:Int):List (Nat×AV):=[(9,.slice 0 0 a.length a.length 1),(10,.i b)]
abbrev kAS:List AV:=[.bool true]
abbrev kAT:List (Nat×AV):=[(3,.bool false)]
abbrev kAU (a:Int):List (Nat×AV):=[(7,.i a),(8,.i 0)]
abbrev kAV (a:List qb) (b:Int):List AV:=[vl qa a,.i b]
abbrev kAW (a:Str) (b:Int) (c:Int) (d:Str):List AV:=[.str a,.i b,.i c,.str d]
abbrev kAX:List Blk:=[.cells (([]:List qj).flatMap qf.c)]
abbrev kAY (a:Int):List (Nat×AV):=[(5,.i a)]
abbrev kAZ:List (Nat×AV):=[(2,.bool false)]
abbrev kAa (a:Int) (b:Int) (c:Bool):List (Nat×AV):=[(7,.i a),(8,.i b),(9,.bool c)]
abbrev kAb (a:List qb) (b:Int):List (Nat×AV):=[(23,vl qa a),(24,.i b),(25,.i 0)]
abbrev kAc:List (Nat×AV):=[(4,.nilslice),(5,.i 29)]
abbrev kAd (x:List (Nat×AV)):List (Nat×AV):=(6,.ptr 0 0)::x
theorem sl24:SlT Tryz.prog 24 3 1 8:=⟨by kernel_rfl,by kernel_rfl,by kernel_rfl,by kernel_rfl⟩
theorem ce3:CeT Tryz.prog 3:=⟨by kernel_rfl,by kernel_rfl⟩
theorem xX:SlT Tryz.prog 96 132 4 48:=⟨by kernel_rfl,by kernel_rfl,by kernel_rfl,by kernel_rfl⟩
theorem qaD:AgT Tryz.prog 132 4:=⟨by kernel_rfl,by kernel_rfl⟩
theorem jI:SlT Tryz.prog 98 201 4 48:=⟨by kernel_rfl,by kernel_rfl,by kernel_rfl,by kernel_rfl⟩
theorem sl97:SlT Tryz.prog 97 141 2 24:=⟨by kernel_rfl,by kernel_rfl,by kernel_rfl,by kernel_rfl⟩
theorem ag141:AgT Tryz.prog 141 2:=⟨by kernel_rfl,by kernel_rfl⟩
theorem qdN:SlT Tryz.prog 100 202 2 24:=⟨by kernel_rfl,by kernel_rfl,by kernel_rfl,by kernel_rfl⟩
theorem ce9:CeT Tryz.prog 9:=⟨by kernel_rfl,by kernel_rfl⟩
theorem st9:Tryz.prog.underlying 9=some .string:=by kernel_rfl
theorem yu:SlT Tryz.prog 23 9 1 16:=⟨by kernel_rfl,by kernel_rfl,by kernel_rfl,by kernel_rfl⟩
theorem qcZ:AgT Tryz.prog 201 4:=⟨by kernel_rfl,by kernel_rfl⟩
theorem qjq:EqT Tryz.prog 201 #[{name:= "Desk",type:=9,offset:=0,embedded:=false,tag:= "",pkgPath:= "",byteOffset:=0},{name:= "Number",type:=3,offset:=1,embedded:=false,tag:= "",pkgPath:= "",byteOffset:=16},{name:= "Clock",type:=3,offset:=2,embedded:=false,tag:= "",pkgPath:= "",byteOffset:=24},{name:= "Line",type:=9,offset:=3,embedded:=false,tag:= "",pkgPath:= "",byteOffset:=32}]:=⟨by kernel_rfl,by kernel_rfl,by kernel_rfl⟩
theorem qke:AgT Tryz.prog 202 2:=⟨by kernel_rfl,by kernel_rfl⟩
theorem qkH:EqT Tryz.prog 202 #[{name:= "Desk",type:=9,offset:=0,embedded:=false,tag:= "",pkgPath:= "",byteOffset:=0},{name:= "Number",type:=3,offset:=1,embedded:=false,tag:= "",pkgPath:= "",byteOffset:=16}]:=⟨by kernel_rfl,by kernel_rfl,by kernel_rfl⟩
theorem sl218:SlT Tryz.prog 218 32 1 8:=⟨by kernel_rfl,by kernel_rfl,by kernel_rfl,by kernel_rfl⟩
theorem ce32:CeT Tryz.prog 32:=⟨by kernel_rfl,by kernel_rfl⟩
theorem qdB:MapT Tryz.prog 154 9 152 (.agg [.i 0,.i 0,.nilfunc]):=⟨by kernel_rfl,by kernel_rfl,by kernel_rfl⟩
theorem qkS:EqT Tryz.prog 141 #[{name:= "Desk",type:=9,offset:=0,embedded:=false,tag:= "",pkgPath:= "",byteOffset:=0},{name:= "Number",type:=3,offset:=1,embedded:=false,tag:= "",pkgPath:= "",byteOffset:=16}]:=⟨by kernel_rfl,by kernel_rfl,by kernel_rfl⟩
theorem qib:EqT Tryz.prog 132 #[{name:= "Desk",type:=9,offset:=0,embedded:=false,tag:= "",pkgPath:= "",byteOffset:=0},{name:= "Number",type:=3,offset:=1,embedded:=false,tag:= "",pkgPath:= "",byteOffset:=16},{name:= "Clock",type:=3,offset:=2,embedded:=false,tag:= "",pkgPath:= "",byteOffset:=24},{name:= "Line",type:=9,offset:=3,embedded:=false,tag:= "",pkgPath:= "",byteOffset:=32}]:=⟨by kernel_rfl,by kernel_rfl,by kernel_rfl⟩
abbrev fm1:AV:= .fmap kAL [.agg [.i 2,.i 3,.func (.func 141) [] []],.agg [.i 1,.i 2,.func (.func 142) [] []],.agg [.i 1,.i 2,.func (.func 143) [] []],.agg [.i 1,.i 1,.func (.func 144) [] []],.agg [.i 1,.i 1,.func (.func 145) [] []],.agg [.i 0,.i 0,.nilfunc]]
instance:SC 12 fm1:=⟨Still.fmap SX.h (AllST.cons SC.h (AllST.cons SC.h (AllST.cons SC.h (AllST.cons SC.h (AllST.cons SC.h (AllST.cons SC.h AllST.nil))))))⟩
def toQ (n:qb):Q4:=(n.Desk,n.Number,n.Clock,n.Line)
def ofQ (q:Q4):qb:=⟨q.1,q.2.1,q.2.2.1,q.2.2.2⟩
def jk (l:List qb):List qb:=(yU (l.map toQ)).map ofQ
theorem qje (l:List qb):l.flatMap qa.c=(l.map toQ).flatMap c4:=by
 induction l with
 |nil=>rfl
 |cons x l ih=>rw[List.flatMap_cons,List.map_cons,List.flatMap_cons,ih];rfl
theorem qj6 (l:List qb):(jk l).flatMap qa.c=(yU (l.map toQ)).flatMap c4:=by
 rw[qje]
 unfold jk
 rw[List.map_map,show toQ∘ofQ=id from rfl,List.map_id]
def qgM:Option Unit:=some ()
theorem qhJ {res:Unit} (h:qgM=some res):qc Tryz.prog (.fn 123) [vl qa ([]:List qb)] [] (.gslice 0 ([]:List qb).length 4) kAK:=qjX
def qg2 (l:List qb):Option (List qb):=if l.length≤100000 then some (jk l)else none
def qgU (l:List qb):Option (List qb):=if l.length≤100000 then some (jk l)else none
theorem qiB (l:List qb) {res:List qb} (h:qg2 l=some res):qc Tryz.prog (.fn 135) [.gslice 0 l.length 4,.func (.func 136) [] []] (kA l []) (.tuple []) (kA res []):=by
 unfold qg2 at h
 split at h
 ·rename_i hl
  obtain rfl:=si h
  have:=qkz (ns:=l.map toQ) (by simpa using hl)
  rw[List.length_map]at this
  rw[←qje,←qj6]at this
  exact this
 ·cases h
theorem qi9 (l:List qb) {res:List qb} (h:qgU l=some res):qc Tryz.prog (.fn 135) [.oslice 0 l.length 4,.func (.func 136) [] []] (kA l []) (.tuple []) (kA res []):=by
 unfold qgU at h
 split at h
 ·rename_i hl
  obtain rfl:=si h
  have:=qkl (ns:=l.map toQ) (by simpa using hl)
  rw[List.length_map]at this
  rw[←qje,←qj6]at this
  exact this
 ·cases h
def jd (l:List Int):Nat→Int→Option (Unit⊕Int)
 |0,_=>none
 |K+1,n1=>
  if n1<(l.length:Int)then
  (idx l n1).bind fun x5=>
  if(!decide (x5=0))=true then
  some (.inr x5)
  else
  jd l K (w64 (n1+1))
  else
  some (.inl ())
def yP (N:Nat) (l:List Int):Option Int:=
 (jd l N 0).bind (fun
 |(.inl ())=>
 some 0
 |(.inr q7)=>
 some q7)
theorem qdM (N:Nat) (l:List Int) {res:Int} (h:yP N l=some res):qc Tryz.prog (.fn 28) [vl encI l] [] (.i res) []:=by
 unfold yP at h
 refine Goes.fnW Tryz.func28 rfl rfl (m:=15) rfl (rs:=[.tmp 2]) rfl (l:=[(0,vl encI l)]) rfl ?_
 refine sh fol [(0,vl encI l)] ?_
 refine sq ?_
 refine sh fol [(5,vl encI l),(6,.i (l.length:Int)),(7,.i 0)] ?_
 refine Goes.block ?_
 obtain⟨r2,g2,h⟩:=bnd h
 refine Goes.imp (Q:=fun x s'=>(x= .exit 0∧(.inl ())=r2∧Sub s' (ofG 15 [],[]))∨(x= .ret∧ ∃q3,(.inr q3)=r2∧qJ Tryz.prog [.tmp 2] (.i q3) .ret s')) ?_ ?_
 ·refine Goes.loopS (fun M s=> ∃(n1:Int),s=(ofG 15 (kAE l (l.length:Int) n1 []),[])∧jd l M n1=some r2) ?_ (m:=N) ⟨_,rfl,g2⟩
  rintro M s ⟨n1,rfl,g2⟩
  cases M with
  |zero=>simp only[jd]at g2;cases g2
  |succ M=>
   rw[jd]at g2
   refine sh fol (kAE l (l.length:Int) n1 [(8,.bool (decide (n1<(l.length:Int))))]) ?_
   refine sq ?_
   refine ihD g2 (fun c4 g2=>?_) (fun c4 g2=>?_)
   ·refine Goes.skip ?_
    refine sq (Goes.block ?_)
    obtain⟨x5,e_x5,g2⟩:=bnd g2
    refine sq (gr fol [0,1] ((4,.i x5)::(kAE l (l.length:Int) n1 [])) (ac (iv sl24 encI e_x5) (ac (lv 0 ce3 encI e_x5 rfl) az)) ?_)
    refine sh fol ((4,.i x5)::(kAE l (l.length:Int) n1 [(12,.bool (!decide (x5=0)))])) ?_
    refine ihB g2 (fun c6 g2=>?_) (fun c6 g2=>?_)
    ·refine sh fol [(2,.i x5)] ?_
     refine Goes.ret ?_
     obtain rfl:=si g2
     exact Or.inr (⟨rfl,_,rfl,(gw2 [.i x5] (FzW.still tI))⟩)
    ·refine Goes.skip ?_
     refine gh fol (kAE l (l.length:Int) (w64 (n1+1)) []) ?_
     exact⟨M,(ofG 15 (kAE l (l.length:Int) (w64 (n1+1)) []),[]),Nat.lt_succ_self _,(Sub.refl _),_,rfl,g2⟩
   ·refine Goes.exit ?_
    obtain rfl:=si g2
    exact Or.inl (⟨rfl,rfl,(Sub.keep [] rfl rfl)⟩)
 rintro x s' (⟨rfl,rfl,hsub⟩|⟨rfl,q7,rfl,hret⟩)
 ·try dsimp only at h
  refine Goes.sub hsub ?_
  refine sh fol [(2,.i 0)] ?_
  refine Goes.ret ?_
  obtain rfl:=si h
  exact(gw2 [.i 0] (FzW.still tI))
 ·try dsimp only at h
  obtain rfl:=si h
  exact hret
def zO (l:List qb):Nat→(List qb)→Int→Option (List qb)
 |0,_,_=>none
 |K+1,l1,n2=>
  if n2<(l.length:Int)then
  (idx l n2).bind fun x6=>
  (app 48 l1 [x6]).bind fun l7=>
  zO l K l7 (w64 (n2+1))
  else
  some l1
def vv (N:Nat) (l:List qb):Option (List qb):=
 (zO l N ([]:List qb) 0).bind fun l3=>
 some l3
theorem jA (N:Nat) (l:List qb) {res:List qb} (h:vv N l=some res):qc Tryz.prog (.fn 54) [vl qa l] [] (vl qa res) []:=by
 unfold vv at h
 refine Goes.fnW Tryz.func54 rfl rfl (m:=18) rfl (rs:=[.tmp 2]) rfl (l:=(kC l [])) rfl ?_
 refine sh fol (kC l []) ?_
 refine sh fol (kC l [(3,.nilslice)]) ?_
 refine sq ?_
 refine sh fol ((3,.nilslice)::(6,vl qa l)::(kAU (l.length:Int))) ?_
 refine Goes.block ?_
 obtain⟨r4,g4,h⟩:=bnd h
 refine Goes.imp (Q:=fun x s'=>(x= .exit 0∧ ∃l3,l3=r4∧Sub s' (ofG 18 [(3,.gslice 0 l3.length 4)],(kA l3 [])))) ?_ ?_
 ·refine Goes.sub (s':=(ofG 18 ((3,.gslice 0 ([]:List qb).length 4)::(6,vl qa l)::(kAU (l.length:Int))),kAK)) (Sub.norm [] [none] rfl rfl (.keep .nil (.keep (.same (qd qa _)) (.keep (.same nI) (.keep (.same nI) .nil)))) (.fresh .nil)) ?_
  refine Goes.loopS (fun M s=> ∃(l1:List qb) (n2:Int),s=(ofG 18 ((3,.gslice 0 l1.length 4)::(6,vl qa l)::(kP (l.length:Int) n2)),(kA l1 []))∧zO l M l1 n2=some r4) ?_ (m:=N) ⟨_,_,rfl,g4⟩
  rintro M s ⟨l1,n2,rfl,g4⟩
  cases M with
  |zero=>simp only[zO]at g4;cases g4
  |succ M=>
   rw[zO]at g4
   refine sh fol ((3,.gslice 0 l1.length 4)::(6,vl qa l)::(kAa (l.length:Int) n2 (decide (n2<(l.length:Int))))) ?_
   refine sq ?_
   refine ihD g4 (fun c5 g4=>?_) (fun c5 g4=>?_)
   ·refine Goes.skip ?_
    refine sq (Goes.block ?_)
    obtain⟨x6,e_x6,g4⟩:=bnd g4
    refine sq (gq fol [0,1] ((3,.gslice 0 l1.length 4)::(5,.ptr 1 0)::(6,vl qa l)::(kP (l.length:Int) n2)) (kA l1 (kD x6.Desk x6.Number x6.Clock x6.Line [])) (ac (iv xX qa e_x6) (ac (la qaD qa e_x6) az)) ?_)
    obtain⟨l7,e_l7,g4⟩:=bnd g4
    refine gq fol [3] ((3,.gslice 3 l7.length 4)::(6,vl qa l)::(kP (l.length:Int) n2)) (.dead::(kD x6.Desk x6.Number x6.Clock x6.Line (kD x6.Desk x6.Number x6.Clock x6.Line (kA l7 [])))) (ac (hs (.run [0,2] (zA Tryz.prog [98,98] (.gslice 0 l1.length 4) (.slice 2 0 1 1 4)) (kA l1 (kD x6.Desk x6.Number x6.Clock x6.Line (kD x6.Desk x6.Number x6.Clock x6.Line []))) (.gslice 3 l7.length 4) (.dead::(kD x6.Desk x6.Number x6.Clock x6.Line (kD x6.Desk x6.Number x6.Clock x6.Line (kA l7 [])))) true) (ji jI (E:=qa) rfl (qaV (E:=qa) (ys:=[x6]) rfl rfl rfl rfl) (qbI (E:=qa) (l:=l1) rfl rfl rfl e_l7 rfl))) az) ?_
    refine gh fol ((3,.gslice 3 l7.length 4)::(6,vl qa l)::(kP (l.length:Int) (w64 (n2+1)))) ?_
    exact⟨M,(ofG 18 ((3,.gslice 0 l7.length 4)::(6,vl qa l)::(kP (l.length:Int) (w64 (n2+1)))),(kA l7 [])),Nat.lt_succ_self _,(Sub.norm [] [some 3] rfl rfl (.keep (.gslice rfl) (.keep (.same (qd qa _)) (.keep (.same nI) (.keep (.same nI) .nil)))) (.ks .nil)),_,_,rfl,g4⟩
   ·refine Goes.exit ?_
    obtain rfl:=si g4
    exact⟨rfl,_,rfl,(Sub.keep [3] rfl rfl)⟩
 rintro x s' ⟨rfl,l3,rfl,hsub⟩
 refine Goes.sub hsub ?_
 refine sh fol [(2,.gslice 0 l3.length 4)] ?_
 refine Goes.ret ?_
 obtain rfl:=si h
 exact(gw2 [.gslice 0 l3.length 4] (FzW.fz (Fz.gs (E:=qa) rfl rfl (nl rfl))))
def zP (l:List qj):Nat→(List qj)→Int→Option (List qj)
 |0,_,_=>none
 |K+1,l1,n2=>
  if n2<(l.length:Int)then
  (idx l n2).bind fun x6=>
  (app 24 l1 [x6]).bind fun l7=>
  zP l K l7 (w64 (n2+1))
  else
  some l1
def yI (N:Nat) (l:List qj):Option (List qj):=
 (zP l N ([]:List qj) 0).bind fun l3=>
 some l3
theorem qaX (N:Nat) (l:List qj) {res:List qj} (h:yI N l=some res):qc Tryz.prog (.fn 55) [vl qf l] [] (vl qf res) []:=by
 unfold yI at h
 refine Goes.fnW Tryz.func55 rfl rfl (m:=18) rfl (rs:=[.tmp 2]) rfl (l:=[(0,vl qf l)]) rfl ?_
 refine sh fol [(0,vl qf l)] ?_
 refine sh fol [(0,vl qf l),(3,.nilslice)] ?_
 refine sq ?_
 refine sh fol ((3,.nilslice)::(6,vl qf l)::(kAU (l.length:Int))) ?_
 refine Goes.block ?_
 obtain⟨r4,g4,h⟩:=bnd h
 refine Goes.imp (Q:=fun x s'=>(x= .exit 0∧ ∃l3,l3=r4∧Sub s' (ofG 18 [(3,.gslice 0 l3.length 2)],(kE l3 [])))) ?_ ?_
 ·refine Goes.sub (s':=(ofG 18 ((3,.gslice 0 ([]:List qj).length 2)::(6,vl qf l)::(kAU (l.length:Int))),kAX)) (Sub.norm [] [none] rfl rfl (.keep .nil (.keep (.same (qd qf _)) (.keep (.same nI) (.keep (.same nI) .nil)))) (.fresh .nil)) ?_
  refine Goes.loopS (fun M s=> ∃(l1:List qj) (n2:Int),s=(ofG 18 ((3,.gslice 0 l1.length 2)::(6,vl qf l)::(kP (l.length:Int) n2)),(kE l1 []))∧zP l M l1 n2=some r4) ?_ (m:=N) ⟨_,_,rfl,g4⟩
  rintro M s ⟨l1,n2,rfl,g4⟩
  cases M with
  |zero=>simp only[zP]at g4;cases g4
  |succ M=>
   rw[zP]at g4
   refine sh fol ((3,.gslice 0 l1.length 2)::(6,vl qf l)::(kAa (l.length:Int) n2 (decide (n2<(l.length:Int))))) ?_
   refine sq ?_
   refine ihD g4 (fun c5 g4=>?_) (fun c5 g4=>?_)
   ·refine Goes.skip ?_
    refine sq (Goes.block ?_)
    obtain⟨x6,e_x6,g4⟩:=bnd g4
    refine sq (gq fol [0,1] ((3,.gslice 0 l1.length 2)::(5,.ptr 1 0)::(6,vl qf l)::(kP (l.length:Int) n2)) (kE l1 (kAC x6.Desk x6.Number [])) (ac (iv sl97 qf e_x6) (ac (la ag141 qf e_x6) az)) ?_)
    obtain⟨l7,e_l7,g4⟩:=bnd g4
    refine gq fol [3] ((3,.gslice 3 l7.length 2)::(6,vl qf l)::(kP (l.length:Int) n2)) (.dead::(kAC x6.Desk x6.Number (kAC x6.Desk x6.Number (kE l7 [])))) (ac (hs (.run [0,2] (zA Tryz.prog [100,100] (.gslice 0 l1.length 2) (.slice 2 0 1 1 2)) (kE l1 (kAC x6.Desk x6.Number (kAC x6.Desk x6.Number []))) (.gslice 3 l7.length 2) (.dead::(kAC x6.Desk x6.Number (kAC x6.Desk x6.Number (kE l7 [])))) true) (ji qdN (E:=qf) rfl (qaV (E:=qf) (ys:=[x6]) rfl rfl rfl rfl) (qbI (E:=qf) (l:=l1) rfl rfl rfl e_l7 rfl))) az) ?_
    refine gh fol ((3,.gslice 3 l7.length 2)::(6,vl qf l)::(kP (l.length:Int) (w64 (n2+1)))) ?_
    exact⟨M,(ofG 18 ((3,.gslice 0 l7.length 2)::(6,vl qf l)::(kP (l.length:Int) (w64 (n2+1)))),(kE l7 [])),Nat.lt_succ_self _,(Sub.norm [] [some 3] rfl rfl (.keep (.gslice rfl) (.keep (.same (qd qf _)) (.keep (.same nI) (.keep (.same nI) .nil)))) (.ks .nil)),_,_,rfl,g4⟩
   ·refine Goes.exit ?_
    obtain rfl:=si g4
    exact⟨rfl,_,rfl,(Sub.keep [3] rfl rfl)⟩
 rintro x s' ⟨rfl,l3,rfl,hsub⟩
 refine Goes.sub hsub ?_
 refine sh fol [(2,.gslice 0 l3.length 2)] ?_
 refine Goes.ret ?_
 obtain rfl:=si h
 exact(gw2 [.gslice 0 l3.length 2] (FzW.fz (Fz.gs (E:=qf) rfl rfl (nl rfl))))
def kr (l:List qb):Nat→Int→Option (Unit⊕Bool)
 |0,_=>none
 |K+1,n6=>
  if n6<(l.length:Int)then
  ((idx l n6).bind fun x10=>
  if(x10.Desk.length:Int)>60 then
  some true
  else
  some (decide ((x10.Line.length:Int)>150)):Option Bool).bind fun b12=>
  if b12=true then
  some (.inr false)
  else
  kr l K (w64 (n6+1))
  else
  some (.inl ())
def zx (N:Nat) (l:List qb) (n:Int):Option Bool:=
 (if(l.length:Int)>n then
 if(l.length:Int)≤1000 then
 some true
 else
 some (decide ((l.length:Int)>1003))
 else
 some (decide ((l.length:Int)>1003)):Option Bool).bind fun b3=>
 if b3=true then
 some false
 else
 (kr l N 0).bind (fun
 |(.inl ())=>
 some true
 |(.inr q15)=>
 some q15)
theorem vI (N:Nat) (l:List qb) (n:Int) {res:Bool} (h:zx N l n=some res):qc Tryz.prog (.fn 56) (kAV l n) [] (.bool res) []:=by
 unfold zx at h
 refine Goes.fnW Tryz.func56 rfl rfl (m:=42) rfl (rs:=[.tmp 4]) rfl (l:=(kC l [(1,.i n)])) rfl ?_
 refine sh fol (kC l [(1,.i n)]) ?_
 refine sq ?_
 refine sq ?_
 obtain⟨b3,g_v4,h⟩:=bnd h
 refine Goes.cut (s':=(ofG 42 (kC l [(19,.bool b3)]),[])) ?_ ?_
 ·rcases wyD g_v4 with⟨c1,g_v4⟩|⟨c1,g_v4⟩
  ·rcases wyD g_v4 with⟨c2,g_v4⟩|⟨c2,g_v4⟩
   ·obtain rfl:=si g_v4
    exact tr fol [4,9] (kC l [(19,.bool true)]) (ac (gw c1) (ac (gw c2) az))
   ·obtain rfl:=si g_v4
    exact tr fol [4,9] (kC l [(19,.bool (decide ((l.length:Int)>1003)))]) (ac (gw c1) (ac (gw c2) az))
  ·obtain rfl:=si g_v4
   exact tr fol [4] (kC l [(19,.bool (decide ((l.length:Int)>1003)))]) (ac (gw c1) az)
 refine ihB h (fun c5 h=>?_) (fun c5 h=>?_)
 ·refine sh fol kAF ?_
  refine Goes.ret ?_
  obtain rfl:=si h
  exact(gw2 [.bool false] (FzW.still tB))
 ·refine Goes.skip ?_
  refine sq ?_
  refine sh fol (kC l [(5,.i 0)]) ?_
  refine Goes.block ?_
  obtain⟨r7,g7,h⟩:=bnd h
  refine Goes.imp (Q:=fun x s'=>(x= .exit 0∧(.inl ())=r7∧Sub s' (ofG 42 [],[]))∨(x= .ret∧ ∃q8,(.inr q8)=r7∧qJ Tryz.prog [.tmp 4] (.bool q8) .ret s')) ?_ ?_
  ·refine Goes.loopS (fun M s=> ∃(n6:Int),s=(ofG 42 (kC l (kAY n6)),[])∧kr l M n6=some r7) ?_ (m:=N) ⟨_,rfl,g7⟩
   rintro M s ⟨n6,rfl,g7⟩
   cases M with
   |zero=>simp only[kr]at g7;cases g7
   |succ M=>
    rw[kr]at g7
    refine sq ?_
    refine sh fol (kC l [(5,.i n6),(23,.bool (decide (n6<(l.length:Int))))]) ?_
    refine ihD g7 (fun c9 g7=>?_) (fun c9 g7=>?_)
    ·refine Goes.skip ?_
     refine sq (Goes.block ?_)
     refine sq ?_
     obtain⟨b12,g_v13,g7⟩:=bnd g7
     refine Goes.cut (s':=(ofG 42 (kC l [(5,.i n6),(41,.bool b12)]),[])) ?_ ?_
     ·obtain⟨x10,e_x10,g_v13⟩:=bnd g_v13
      rcases wyD g_v13 with⟨c11,g_v13⟩|⟨c11,g_v13⟩
      ·obtain rfl:=si g_v13
       exact tr fol [2,4,7] (kC l [(5,.i n6),(41,.bool true)]) (ac (iv jI qa e_x10) (ac (lv 0 ce9 qa e_x10 rfl) (ac (gw c11) az)))
      ·obtain rfl:=si g_v13
       exact tr fol [2,4,7,10,12] (kC l [(5,.i n6),(41,.bool (decide ((x10.Line.length:Int)>150)))]) (ac (iv jI qa e_x10) (ac (lv 0 ce9 qa e_x10 rfl) (ac (gw c11) (ac (iv jI qa e_x10) (ac (lv 3 ce9 qa e_x10 rfl) az)))))
     refine ihB g7 (fun c14 g7=>?_) (fun c14 g7=>?_)
     ·refine sh fol kAF ?_
      refine Goes.ret ?_
      obtain rfl:=si g7
      exact Or.inr (⟨rfl,_,rfl,(gw2 [.bool false] (FzW.still tB))⟩)
     ·refine Goes.skip ?_
      refine gh fol (kC l (kAY (w64 (n6+1)))) ?_
      exact⟨M,(ofG 42 (kC l (kAY (w64 (n6+1)))),[]),Nat.lt_succ_self _,(Sub.refl _),_,rfl,g7⟩
    ·refine Goes.exit ?_
     obtain rfl:=si g7
     exact Or.inl (⟨rfl,rfl,(Sub.keep [] rfl rfl)⟩)
  rintro x s' (⟨rfl,rfl,hsub⟩|⟨rfl,q15,rfl,hret⟩)
  ·try dsimp only at h
   refine Goes.sub hsub ?_
   refine sh fol kAQ ?_
   refine Goes.ret ?_
   obtain rfl:=si h
   exact(gw2 [.bool true] (FzW.still tB))
  ·try dsimp only at h
   obtain rfl:=si h
   exact hret
def jW (n:Int) (low:Int) (high:Int):Option Bool:=
 (if n<low then
 some true
 else
 some (decide (n>high)):Option Bool).bind fun b2=>
 some b2
theorem yD (n:Int) (low:Int) (high:Int) {res:Bool} (h:jW n low high=some res):qc Tryz.prog (.fn 36) [.i n,.i low,.i high] [] (.bool res) []:=by
 unfold jW at h
 refine Goes.fnW Tryz.func36 rfl rfl (m:=15) rfl (rs:=[.tmp 6]) rfl (l:=[(0,.i n),(1,.i low),(2,.i high)]) rfl ?_
 refine sh fol [(0,.i n),(1,.i low),(2,.i high)] ?_
 refine sq ?_
 obtain⟨b2,g_v3,h⟩:=bnd h
 refine Goes.cut (s':=(ofG 15 [(6,.bool b2)],[])) ?_ ?_
 ·rcases wyD g_v3 with⟨c1,g_v3⟩|⟨c1,g_v3⟩
  ·obtain rfl:=si g_v3
   exact tr fol [3] [(6,.bool true)] (ac (gw c1) az)
  ·obtain rfl:=si g_v3
   exact tr fol [3] [(6,.bool (decide (n>high)))] (ac (gw c1) az)
 refine Goes.ret ?_
 obtain rfl:=si h
 exact(gw2 [.bool b2] (FzW.still tB))
def zV (s_:Str):Nat→Int→Option (Unit⊕Bool)
 |0,_=>none
 |K+1,n5=>
  if n5<(s_.length:Int)then
  (idx s_ n5).bind fun c9=>
  (if(c9.toNat:Int)≥97 then
  if(c9.toNat:Int)≤122 then
  some true
  else
  if(c9.toNat:Int)≥65 then
  some (decide ((c9.toNat:Int)≤90))
  else
  some false
  else
  if(c9.toNat:Int)≥65 then
  some (decide ((c9.toNat:Int)≤90))
  else
  some false:Option Bool).bind fun b14=>
  (if(!b14)=true then
  if n5=0 then
  some true
  else
  if(c9.toNat:Int)≥48 then
  if(c9.toNat:Int)≤57 then
  some false
  else
  some (!(decide ((c9.toNat:Int)=95)))
  else
  some (!(decide ((c9.toNat:Int)=95)))
  else
  some false:Option Bool).bind fun b20=>
  if b20=true then
  some (.inr false)
  else
  zV s_ K (w64 (n5+1))
  else
  some (.inl ())
def yf (N:Nat) (s_:Str):Option Bool:=
 (if(s_.length:Int)<1 then
 some true
 else
 some (decide ((s_.length:Int)>24)):Option Bool).bind fun b2=>
 if b2=true then
 some false
 else
 (zV s_ N 0).bind (fun
 |(.inl ())=>
 some true
 |(.inr q23)=>
 some q23)
theorem qcw (N:Nat) (s_:Str) {res:Bool} (h:yf N s_=some res):qc Tryz.prog (.fn 47) [.str s_] [] (.bool res) []:=by
 unfold yf at h
 refine Goes.fnW Tryz.func47 rfl rfl (m:=56) rfl (rs:=[.tmp 2]) rfl (l:=(kAH s_ [])) rfl ?_
 refine sh fol (kAH s_ []) ?_
 refine sq ?_
 refine sq ?_
 obtain⟨b2,g_v3,h⟩:=bnd h
 refine Goes.cut (s':=(ofG 56 (kAH s_ [(13,.bool b2)]),[])) ?_ ?_
 ·rcases wyD g_v3 with⟨c1,g_v3⟩|⟨c1,g_v3⟩
  ·obtain rfl:=si g_v3
   exact tr fol [3] (kAH s_ [(13,.bool true)]) (ac (gw c1) az)
  ·obtain rfl:=si g_v3
   exact tr fol [3] (kAH s_ [(13,.bool (decide ((s_.length:Int)>24)))]) (ac (gw c1) az)
 refine ihB h (fun c4 h=>?_) (fun c4 h=>?_)
 ·refine sh fol kAZ ?_
  refine Goes.ret ?_
  obtain rfl:=si h
  exact(gw2 [.bool false] (FzW.still tB))
 ·refine Goes.skip ?_
  refine sq ?_
  refine sh fol (kAH s_ [(3,.i 0)]) ?_
  refine Goes.block ?_
  obtain⟨r6,g6,h⟩:=bnd h
  refine Goes.imp (Q:=fun x s'=>(x= .exit 0∧(.inl ())=r6∧Sub s' (ofG 56 [],[]))∨(x= .ret∧ ∃q7,(.inr q7)=r6∧qJ Tryz.prog [.tmp 2] (.bool q7) .ret s')) ?_ ?_
  ·refine Goes.loopS (fun M s=> ∃(n5:Int),s=(ofG 56 (kAH s_ [(3,.i n5)]),[])∧zV s_ M n5=some r6) ?_ (m:=N) ⟨_,rfl,g6⟩
   rintro M s ⟨n5,rfl,g6⟩
   cases M with
   |zero=>simp only[zV]at g6;cases g6
   |succ M=>
    rw[zV]at g6
    refine sq ?_
    refine sh fol (kAH s_ [(3,.i n5),(17,.bool (decide (n5<(s_.length:Int))))]) ?_
    refine ihD g6 (fun c8 g6=>?_) (fun c8 g6=>?_)
    ·refine Goes.skip ?_
     refine sq (Goes.block ?_)
     obtain⟨c9,e_c9,g6⟩:=bnd g6
     refine sq (gr fol [2] (kAH s_ [(3,.i n5),(4,.int .u8 (c9.toNat:Int))]) (ac (hs (.done (.opt (vw Tryz.prog 9 (.str s_) (.i n5))) (.int .u8 (c9.toNat:Int))) (xn st9 e_c9)) az) ?_)
     refine sq ?_
     obtain⟨b14,g_v15,g6⟩:=bnd g6
     refine Goes.cut (s':=(ofG 56 (kAH s_ [(3,.i n5),(4,.int .u8 (c9.toNat:Int)),(5,.bool b14)]),[])) ?_ ?_
     ·rcases wyD g_v15 with⟨c10,g_v15⟩|⟨c10,g_v15⟩
      ·rcases wyD g_v15 with⟨c11,g_v15⟩|⟨c11,g_v15⟩
       ·obtain rfl:=si g_v15
        exact tr fol [2,6] (kAH s_ [(3,.i n5),(4,.int .u8 (c9.toNat:Int)),(5,.bool true)]) (ac (gw c10) (ac (gw c11) az))
       ·rcases wyD g_v15 with⟨c12,g_v15⟩|⟨c12,g_v15⟩
        ·obtain rfl:=si g_v15
         exact tr fol [2,6,9] (kAH s_ [(3,.i n5),(4,.int .u8 (c9.toNat:Int)),(5,.bool (decide ((c9.toNat:Int)≤90)))]) (ac (gw c10) (ac (gw c11) (ac (gw c12) az)))
        ·obtain rfl:=si g_v15
         exact tr fol [2,6,9] (kAH s_ [(3,.i n5),(4,.int .u8 (c9.toNat:Int)),(5,.bool false)]) (ac (gw c10) (ac (gw c11) (ac (gw c12) az)))
      ·rcases wyD g_v15 with⟨c13,g_v15⟩|⟨c13,g_v15⟩
       ·obtain rfl:=si g_v15
        exact tr fol [2,9] (kAH s_ [(3,.i n5),(4,.int .u8 (c9.toNat:Int)),(5,.bool (decide ((c9.toNat:Int)≤90)))]) (ac (gw c10) (ac (gw c13) az))
       ·obtain rfl:=si g_v15
        exact tr fol [2,9] (kAH s_ [(3,.i n5),(4,.int .u8 (c9.toNat:Int)),(5,.bool false)]) (ac (gw c10) (ac (gw c13) az))
     refine sq ?_
     obtain⟨b20,g_v21,g6⟩:=bnd g6
     refine Goes.cut (s':=(ofG 56 (kAH s_ [(3,.i n5),(55,.bool b20)]),[])) ?_ ?_
     ·rcases wyB g_v21 with⟨c16,g_v21⟩|⟨c16,g_v21⟩
      ·rcases wyD g_v21 with⟨c17,g_v21⟩|⟨c17,g_v21⟩
       ·obtain rfl:=si g_v21
        exact tr fol [2,5] (kAH s_ [(3,.i n5),(55,.bool true)]) (ac (gw c16) (ac (gw c17) az))
       ·rcases wyD g_v21 with⟨c18,g_v21⟩|⟨c18,g_v21⟩
        ·rcases wyD g_v21 with⟨c19,g_v21⟩|⟨c19,g_v21⟩
         ·obtain rfl:=si g_v21
          exact tr fol [2,5,8,12] (kAH s_ [(3,.i n5),(55,.bool false)]) (ac (gw c16) (ac (gw c17) (ac (gw c18) (ac (gw c19) az))))
         ·obtain rfl:=si g_v21
          exact tr fol [2,5,8,12] (kAH s_ [(3,.i n5),(55,.bool (!(decide ((c9.toNat:Int)=95))))]) (ac (gw c16) (ac (gw c17) (ac (gw c18) (ac (gw c19) az))))
        ·obtain rfl:=si g_v21
         exact tr fol [2,5,8] (kAH s_ [(3,.i n5),(55,.bool (!(decide ((c9.toNat:Int)=95))))]) (ac (gw c16) (ac (gw c17) (ac (gw c18) az)))
      ·obtain rfl:=si g_v21
       exact tr fol [2] (kAH s_ [(3,.i n5),(55,.bool false)]) (ac (gw c16) az)
     refine ihB g6 (fun c22 g6=>?_) (fun c22 g6=>?_)
     ·refine sh fol kAZ ?_
      refine Goes.ret ?_
      obtain rfl:=si g6
      exact Or.inr (⟨rfl,_,rfl,(gw2 [.bool false] (FzW.still tB))⟩)
     ·refine Goes.skip ?_
      refine gh fol (kAH s_ [(3,.i (w64 (n5+1)))]) ?_
      exact⟨M,(ofG 56 (kAH s_ [(3,.i (w64 (n5+1)))]),[]),Nat.lt_succ_self _,(Sub.refl _),_,rfl,g6⟩
    ·refine Goes.exit ?_
     obtain rfl:=si g6
     exact Or.inl (⟨rfl,rfl,(Sub.keep [] rfl rfl)⟩)
  rintro x s' (⟨rfl,rfl,hsub⟩|⟨rfl,q23,rfl,hret⟩)
  ·try dsimp only at h
   refine Goes.sub hsub ?_
   refine sh fol [(2,.bool true)] ?_
   refine Goes.ret ?_
   obtain rfl:=si h
   exact(gw2 [.bool true] (FzW.still tB))
  ·try dsimp only at h
   obtain rfl:=si h
   exact hret
def xu (kind:Str):Option (Int×Int×Bool):=
 if(kind==[109,97,107,101])=true then
 some (2,3,true)
 else
 ((if(kind==[116,101,115,116])=true then
 some (kind==[116,101,115,116])
 else
 some (kind==[117,115,101]):Option Bool)).bind fun b2=>
 if b2=true then
 some (1,2,true)
 else
 ((if(kind==[102,97,105,108])=true then
 some (kind==[102,97,105,108])
 else
 some (kind==[114,101,99,97,108,108]):Option Bool)).bind fun b6=>
 if b6=true then
 some (1,1,true)
 else
 if(kind==[117,110,100,111])=true then
 some (0,0,true)
 else
 some (0,0,false)
theorem qdV (kind:Str) {res:Int×Int×Bool} (h:xu kind=some res):qc Tryz.prog (.fn 90) [.str kind] [] (.tuple [.i res.1,.i res.2.1,.bool res.2.2]) []:=by
 unfold xu at h
 refine Goes.fnW Tryz.func90 rfl rfl (m:=16) rfl (rs:=[.tmp 2,.tmp 3,.tmp 4]) rfl (l:=(kAH kind [])) rfl ?_
 refine sh fol (kAH kind []) ?_
 refine sq ?_
 refine sh fol [(5,.str kind)] ?_
 refine Goes.block ?_
 refine sh fol [(5,.str kind),(6,.bool (kind==[109,97,107,101]))] ?_
 refine ihB h (fun c1 h=>?_) (fun c1 h=>?_)
 ·refine sh fol ((2,.i 2)::(3,.i 3)::kAQ) ?_
  refine Goes.ret ?_
  obtain rfl:=si h
  exact(gw2 (.i 2:: .i 3::kAS) (FzW.tuple (qg.cons (FzW.still tI) (qg.cons (FzW.still tI) (qg.cons (FzW.still tB) qg.nil)))))
 ·refine sq ?_
  refine sh fol [(5,.str kind),(8,.bool (kind==[116,101,115,116]))] ?_
  obtain⟨r3,g3,h⟩:=bnd h
  refine Goes.imp (Q:=fun x s'=>(x= .normal∧ ∃b2,b2=r3∧Sub s' (ofG 16 [(5,.str kind),(8,.bool b2)],[]))) ?_ ?_
  ·refine ihB g3 (fun c4 g3=>?_) (fun c4 g3=>?_)
   ·refine Goes.skip ?_
    obtain rfl:=si g3
    exact⟨rfl,_,rfl,(Sub.refl _)⟩
   ·refine gh fol [(5,.str kind),(8,.bool (kind==[117,115,101]))] ?_
    obtain rfl:=si g3
    exact⟨rfl,_,rfl,(Sub.refl _)⟩
  rintro x s' ⟨rfl,b2,rfl,hsub⟩
  refine Goes.sub hsub ?_
  refine ihB h (fun c5 h=>?_) (fun c5 h=>?_)
  ·refine sh fol ((2,.i 1)::(3,.i 2)::kAQ) ?_
   refine Goes.ret ?_
   obtain rfl:=si h
   exact(gw2 (.i 1:: .i 2::kAS) (FzW.tuple (qg.cons (FzW.still tI) (qg.cons (FzW.still tI) (qg.cons (FzW.still tB) qg.nil)))))
  ·refine sq ?_
   refine sh fol [(5,.str kind),(11,.bool (kind==[102,97,105,108]))] ?_
   obtain⟨r7,g7,h⟩:=bnd h
   refine Goes.imp (Q:=fun x s'=>(x= .normal∧ ∃b6,b6=r7∧Sub s' (ofG 16 [(5,.str kind),(11,.bool b6)],[]))) ?_ ?_
   ·refine ihB g7 (fun c8 g7=>?_) (fun c8 g7=>?_)
    ·refine Goes.skip ?_
     obtain rfl:=si g7
     exact⟨rfl,_,rfl,(Sub.refl _)⟩
    ·refine gh fol [(5,.str kind),(11,.bool (kind==[114,101,99,97,108,108]))] ?_
     obtain rfl:=si g7
     exact⟨rfl,_,rfl,(Sub.refl _)⟩
   rintro x s' ⟨rfl,b6,rfl,hsub⟩
   refine Goes.sub hsub ?_
   refine ihB h (fun c9 h=>?_) (fun c9 h=>?_)
   ·refine sh fol ((2,.i 1)::(3,.i 1)::kAQ) ?_
    refine Goes.ret ?_
    obtain rfl:=si h
    exact(gw2 (.i 1:: .i 1::kAS) (FzW.tuple (qg.cons (FzW.still tI) (qg.cons (FzW.still tI) (qg.cons (FzW.still tB) qg.nil)))))
   ·refine sh fol [(14,.bool (kind==[117,110,100,111]))] ?_
    refine ihB h (fun c10 h=>?_) (fun c10 h=>?_)
    ·refine sh fol ((2,.i 0)::(3,.i 0)::kAQ) ?_
     refine Goes.ret ?_
     obtain rfl:=si h
     exact(gw2 (.i 0:: .i 0::kAS) (FzW.tuple (qg.cons (FzW.still tI) (qg.cons (FzW.still tI) (qg.cons (FzW.still tB) qg.nil)))))
    ·refine Goes.skip ?_
     refine sh fol ((2,.i 0)::(3,.i 0)::kAF) ?_
     refine Goes.ret ?_
     obtain rfl:=si h
     exact(gw2 [.i 0,.i 0,.bool false] (FzW.tuple (qg.cons (FzW.still tI) (qg.cons (FzW.still tI) (qg.cons (FzW.still tB) qg.nil)))))
def zl (s_:Str):Nat→(List Str)→Int→Int→Option (List Str)
 |0,_,_,_=>none
 |K+1,l1,n2,n3=>
  if n3≤(s_.length:Int)then
  (((if n3=(s_.length:Int)then
  some true
  else
  (idx s_ n3).bind fun c11=>
  some (decide ((c11.toNat:Int)=32)):Option Bool).bind fun b12=>
  if b12=true then
  (cut s_ n2 n3).bind fun s15=>
  (app 16 l1 [s15]).bind fun l16=>
  some (l16,w64 (n3+1))
  else
  some (l1,n2):Option ((List Str)×Int))).bind fun(l7,n8)=>
  zl s_ K l7 n8 (w64 (n3+1))
  else
  some l1
def yG (N:Nat) (s_:Str):Option (List Str):=
 (zl s_ N ([]:List Str) 0 0).bind fun l4=>
 some l4
theorem qcR (N:Nat) (s_:Str) {res:List Str} (h:yG N s_=some res):qc Tryz.prog (.fn 137) [.str s_] [] (vl encS res) []:=by
 unfold yG at h
 refine Goes.fnW Tryz.func137 rfl rfl (m:=32) rfl (rs:=[.tmp 2]) rfl (l:=(kAH s_ [])) rfl ?_
 refine sh fol (kAH s_ []) ?_
 refine sh fol (kAH s_ [(3,.nilslice)]) ?_
 refine sh fol (kAH s_ [(3,.nilslice),(4,.i 0)]) ?_
 refine sq ?_
 refine sh fol (kAH s_ [(3,.nilslice),(4,.i 0),(5,.i 0)]) ?_
 refine Goes.block ?_
 obtain⟨r5,g5,h⟩:=bnd h
 refine Goes.imp (Q:=fun x s'=>(x= .exit 0∧ ∃l4,l4=r5∧Sub s' (ofG 32 [(3,.gslice 0 l4.length 1)],(kG l4 [])))) ?_ ?_
 ·refine Goes.sub (s':=(ofG 32 (kAH s_ [(3,.gslice 0 ([]:List Str).length 1),(4,.i 0),(5,.i 0)]),[.cells (([]:List Str).flatMap encS.c)])) (Sub.norm [] [none] rfl rfl (.keep (.same nS) (.keep .nil (.keep (.same nI) (.keep (.same nI) .nil)))) (.fresh .nil)) ?_
  refine Goes.loopS (fun M s=> ∃(l1:List Str) (n2:Int) (n3:Int),s=(ofG 32 (kX s_ l1 n2 n3 []),(kG l1 []))∧zl s_ M l1 n2 n3=some r5) ?_ (m:=N) ⟨_,_,_,rfl,g5⟩
  rintro M s ⟨l1,n2,n3,rfl,g5⟩
  cases M with
  |zero=>simp only[zl]at g5;cases g5
  |succ M=>
   rw[zl]at g5
   refine sq ?_
   refine sh fol (kX s_ l1 n2 n3 [(9,.bool (decide (n3≤(s_.length:Int))))]) ?_
   refine ihD g5 (fun c6 g5=>?_) (fun c6 g5=>?_)
   ·refine Goes.skip ?_
    refine sq ?_
    obtain⟨r9,g9,g5⟩:=bnd g5
    refine Goes.imp (Q:=fun x s'=>(x= .normal∧ ∃l7 n8,(l7,n8)=r9∧Sub s' (ofG 32 (kX s_ l7 n8 n3 []),(kG l7 [])))) ?_ ?_
    ·refine Goes.block ?_
     refine sq ?_
     obtain⟨b12,g_v13,g9⟩:=bnd g9
     refine Goes.cut (s':=(ofG 32 (kX s_ l1 n2 n3 [(21,.bool b12)]),(kG l1 []))) ?_ ?_
     ·rcases wyD g_v13 with⟨c10,g_v13⟩|⟨c10,g_v13⟩
      ·obtain rfl:=si g_v13
       exact tr fol [4] (kX s_ l1 n2 n3 [(21,.bool true)]) (ac (gw c10) az)
      ·obtain⟨c11,e_c11,g_v13⟩:=bnd g_v13
       obtain rfl:=si g_v13
       exact tr fol [4,7] (kX s_ l1 n2 n3 [(21,.bool (decide ((c11.toNat:Int)=32)))]) (ac (gw c10) (ac (hs (.done (.opt (vw Tryz.prog 9 (.str s_) (.i n3))) (.int .u8 (c11.toNat:Int))) (xn st9 e_c11)) az))
     refine ihB g9 (fun c14 g9=>?_) (fun c14 g9=>?_)
     ·obtain⟨s15,e_s15,g9⟩:=bnd g9
      obtain⟨l16,e_l16,g9⟩:=bnd g9
      refine sq (gq fol [4,6] (kAH s_ ((3,.gslice 2 l16.length 1)::(kAY n3))) (.dead:: .cells [.str s15]::(kG l16 [])) (ac (hs (.done (.opt (vo Tryz.prog 9 (.str s_) (some (.i n2)) (some (.i n3)) none)) (.str s15)) (qe3 st9 (some n2) (some n3) e_s15)) (ac (hs (.run [0,1] (zA Tryz.prog [23,23] (.gslice 0 l1.length 1) (.slice 1 0 1 1 1)) (kG l1 [.cells [.str s15]]) (.gslice 2 l16.length 1) (.dead:: .cells [.str s15]::(kG l16 [])) true) (ji yu (E:=encS) rfl (qaV (E:=encS) (ys:=[s15]) rfl rfl rfl rfl) (qbI (E:=encS) (l:=l1) rfl rfl rfl e_l16 rfl))) az)) ?_)
      refine gh fol (kAH s_ ((3,.gslice 2 l16.length 1)::(4,.i (w64 (n3+1)))::(kAY n3))) ?_
      obtain rfl:=si g9
      exact⟨rfl,_,_,rfl,(Sub.norm [] [some 2] rfl rfl (.keep (.same nS) (.keep (.gslice rfl) (.keep (.same nI) (.keep (.same nI) .nil)))) (.ks .nil))⟩
     ·refine Goes.skip ?_
      obtain rfl:=si g9
      exact⟨rfl,_,_,rfl,(Sub.keep [0,3,4,5] rfl rfl)⟩
    rintro x s' ⟨rfl,l7,n8,rfl,hsub⟩
    try dsimp only at g5
    refine Goes.sub hsub ?_
    refine gh fol (kX s_ l7 n8 (w64 (n3+1)) []) ?_
    exact⟨M,(ofG 32 (kX s_ l7 n8 (w64 (n3+1)) []),(kG l7 [])),Nat.lt_succ_self _,(Sub.refl _),_,_,_,rfl,g5⟩
   ·refine Goes.exit ?_
    obtain rfl:=si g5
    exact⟨rfl,_,rfl,(Sub.keep [3] rfl rfl)⟩
 rintro x s' ⟨rfl,l4,rfl,hsub⟩
 refine Goes.sub hsub ?_
 refine sh fol [(2,.gslice 0 l4.length 1)] ?_
 refine Goes.ret ?_
 obtain rfl:=si h
 exact(gw2 [.gslice 0 l4.length 1] (FzW.fz (Fz.gs (E:=encS) rfl rfl (nl rfl))))
def zu (s_:Str):Nat→Int→Int→Option (Int⊕(Int×Bool))
 |0,_,_=>none
 |K+1,n8,n9=>
  if n9<(s_.length:Int)then
  ((idx s_ n9).bind fun c14=>
  if(c14.toNat:Int)<48 then
  some true
  else
  some (decide ((c14.toNat:Int)>57)):Option Bool).bind fun b16=>
  if b16=true then
  some (.inr (0,false))
  else
  (idx s_ n9).bind fun c19=>
  zu s_ K (w64 ((w64 (10*n8))+(w64 (IntKind.wrap .u8 ((c19.toNat:Int)-48))))) (w64 (n9+1))
  else
  some (.inl n8)
def vM (N:Nat) (s_:Str):Option (Int×Bool):=
 (if(s_.length:Int)=0 then
 some true
 else
 if(s_.length:Int)>9 then
 some true
 else
 if(s_.length:Int)>1 then
 (idx s_ 0).bind fun c4=>
 some (decide ((c4.toNat:Int)=48))
 else
 some false:Option Bool).bind fun b5=>
 if b5=true then
 some (0,false)
 else
 (zu s_ N 0 0).bind (fun
 |(.inl n10)=>
 some (n10,true)
 |(.inr q20)=>
 some q20)
theorem qcf (N:Nat) (s_:Str) {res:Int×Bool} (h:vM N s_=some res):qc Tryz.prog (.fn 138) [.str s_] [] (.tuple [.i res.1,.bool res.2]) []:=by
 unfold vM at h
 refine Goes.fnW Tryz.func138 rfl rfl (m:=49) rfl (rs:=[.tmp 2,.tmp 3]) rfl (l:=(kAH s_ [])) rfl ?_
 refine sh fol (kAH s_ []) ?_
 refine sq ?_
 refine sq ?_
 obtain⟨b5,g_v6,h⟩:=bnd h
 refine Goes.cut (s':=(ofG 49 (kAH s_ [(23,.bool b5)]),[])) ?_ ?_
 ·rcases wyD g_v6 with⟨c1,g_v6⟩|⟨c1,g_v6⟩
  ·obtain rfl:=si g_v6
   exact tr fol [3] (kAH s_ [(23,.bool true)]) (ac (gw c1) az)
  ·rcases wyD g_v6 with⟨c2,g_v6⟩|⟨c2,g_v6⟩
   ·obtain rfl:=si g_v6
    exact tr fol [3,8] (kAH s_ [(23,.bool true)]) (ac (gw c1) (ac (gw c2) az))
   ·rcases wyD g_v6 with⟨c3,g_v6⟩|⟨c3,g_v6⟩
    ·obtain⟨c4,e_c4,g_v6⟩:=bnd g_v6
     obtain rfl:=si g_v6
     exact tr fol [3,8,12,14] (kAH s_ [(23,.bool (decide ((c4.toNat:Int)=48)))]) (ac (gw c1) (ac (gw c2) (ac (gw c3) (ac (hs (.done (.opt (vw Tryz.prog 9 (.str s_) (.i 0))) (.int .u8 (c4.toNat:Int))) (xn st9 e_c4)) az))))
    ·obtain rfl:=si g_v6
     exact tr fol [3,8,12] (kAH s_ [(23,.bool false)]) (ac (gw c1) (ac (gw c2) (ac (gw c3) az)))
 refine ihB h (fun c7 h=>?_) (fun c7 h=>?_)
 ·refine sh fol ((2,.i 0)::kAT) ?_
  refine Goes.ret ?_
  obtain rfl:=si h
  exact(gw2 [.i 0,.bool false] (FzW.tuple (qg.cons (FzW.still tI) (qg.cons (FzW.still tB) qg.nil))))
 ·refine Goes.skip ?_
  refine sh fol (kAH s_ [(4,.i 0)]) ?_
  refine sq ?_
  refine sh fol (kAH s_ [(4,.i 0),(5,.i 0)]) ?_
  refine Goes.block ?_
  obtain⟨r11,g11,h⟩:=bnd h
  refine Goes.imp (Q:=fun x s'=>(x= .exit 0∧ ∃n10,(.inl n10)=r11∧Sub s' (ofG 49 [(4,.i n10)],[]))∨(x= .ret∧ ∃q12,(.inr q12)=r11∧qJ Tryz.prog [.tmp 2,.tmp 3] (.tuple [.i q12.1,.bool q12.2]) .ret s')) ?_ ?_
  ·refine Goes.loopS (fun M s=> ∃(n8:Int) (n9:Int),s=(ofG 49 (kAH s_ ((4,.i n8)::(kAY n9))),[])∧zu s_ M n8 n9=some r11) ?_ (m:=N) ⟨_,_,rfl,g11⟩
   rintro M s ⟨n8,n9,rfl,g11⟩
   cases M with
   |zero=>simp only[zu]at g11;cases g11
   |succ M=>
    rw[zu]at g11
    refine sq ?_
    refine sh fol (kAH s_ [(4,.i n8),(5,.i n9),(27,.bool (decide (n9<(s_.length:Int))))]) ?_
    refine ihD g11 (fun c13 g11=>?_) (fun c13 g11=>?_)
    ·refine Goes.skip ?_
     refine sq (Goes.block ?_)
     refine sq ?_
     refine sq ?_
     obtain⟨b16,g_v17,g11⟩:=bnd g11
     refine Goes.cut (s':=(ofG 49 (kAH s_ [(4,.i n8),(5,.i n9),(39,.bool b16)]),[])) ?_ ?_
     ·obtain⟨c14,e_c14,g_v17⟩:=bnd g_v17
      rcases wyD g_v17 with⟨c15,g_v17⟩|⟨c15,g_v17⟩
      ·obtain rfl:=si g_v17
       exact tr fol [2,4] (kAH s_ [(4,.i n8),(5,.i n9),(39,.bool true)]) (ac (hs (.done (.opt (vw Tryz.prog 9 (.str s_) (.i n9))) (.int .u8 (c14.toNat:Int))) (xn st9 e_c14)) (ac (gw c15) az))
      ·obtain rfl:=si g_v17
       exact tr fol [2,4,7] (kAH s_ [(4,.i n8),(5,.i n9),(39,.bool (decide ((c14.toNat:Int)>57)))]) (ac (hs (.done (.opt (vw Tryz.prog 9 (.str s_) (.i n9))) (.int .u8 (c14.toNat:Int))) (xn st9 e_c14)) (ac (gw c15) (ac (hs (.done (.opt (vw Tryz.prog 9 (.str s_) (.i n9))) (.int .u8 (c14.toNat:Int))) (xn st9 e_c14)) az)))
     refine ihB g11 (fun c18 g11=>?_) (fun c18 g11=>?_)
     ·refine sh fol ((2,.i 0)::kAT) ?_
      refine Goes.ret ?_
      obtain rfl:=si g11
      exact Or.inr (⟨rfl,_,rfl,(gw2 [.i 0,.bool false] (FzW.tuple (qg.cons (FzW.still tI) (qg.cons (FzW.still tB) qg.nil))))⟩)
     ·refine Goes.skip ?_
      obtain⟨c19,e_c19,g11⟩:=bnd g11
      refine gr fol [4] (kAH s_ ((4,.i (w64 ((w64 (10*n8))+(w64 (IntKind.wrap .u8 ((c19.toNat:Int)-48))))))::(kAY n9))) (ac (hs (.done (.opt (vw Tryz.prog 9 (.str s_) (.i n9))) (.int .u8 (c19.toNat:Int))) (xn st9 e_c19)) az) ?_
      refine gh fol (kAH s_ ((4,.i (w64 ((w64 (10*n8))+(w64 (IntKind.wrap .u8 ((c19.toNat:Int)-48))))))::(kAY (w64 (n9+1))))) ?_
      exact⟨M,(ofG 49 (kAH s_ ((4,.i (w64 ((w64 (10*n8))+(w64 (IntKind.wrap .u8 ((c19.toNat:Int)-48))))))::(kAY (w64 (n9+1))))),[]),Nat.lt_succ_self _,(Sub.refl _),_,_,rfl,g11⟩
    ·refine Goes.exit ?_
     obtain rfl:=si g11
     exact Or.inl (⟨rfl,_,rfl,(Sub.keep [4] rfl rfl)⟩)
  rintro x s' (⟨rfl,n10,rfl,hsub⟩|⟨rfl,q20,rfl,hret⟩)
  ·try dsimp only at h
   refine Goes.sub hsub ?_
   refine sh fol [(2,.i n10),(3,.bool true)] ?_
   refine Goes.ret ?_
   obtain rfl:=si h
   exact(gw2 (.i n10::kAS) (FzW.tuple (qg.cons (FzW.still tI) (qg.cons (FzW.still tB) qg.nil))))
  ·try dsimp only at h
   obtain rfl:=si h
   exact hret
def zD (N:Nat) (r1:List Str) (r3:Int×Int×Bool):Nat→(List Str)→(List Int)→Int→Option (((List Str)×(List Int))⊕(jo×Bool))
 |0,_,_,_=>none
 |K+1,l8,l9,n10=>
  if n10<(r1.length:Int)then
  (((idx r1 n10).bind fun x20=>
  if(x20==[])=true then
  some (.inr ((⟨0,[],[],[],[]⟩:jo),false))
  else
  if n10≤r3.1 then
  (app 16 l8 [x20]).bind fun l23=>
  some (.inl (l23,l9))
  else
  (vM N x20).bind fun r24=>
  if(!r24.2)=true then
  some (.inr ((⟨0,[],[],[],[]⟩:jo),false))
  else
  (app 8 l9 [r24.1]).bind fun l26=>
  some (.inl (l8,l26)):Option (((List Str)×(List Int))⊕(jo×Bool)))).bind (fun
  |(.inl (l16,l17))=>
  zD N r1 r3 K l16 l17 (w64 (n10+1))
  |(.inr q27)=>
  some (.inr q27))
  else
  some (.inl (l8,l9))
def vZ (N:Nat) (s_:Str):Option (jo×Bool):=
 (yG N s_).bind fun r1=>
 (idx r1 0).bind fun x2=>
 (xu x2).bind fun r3=>
 (if(!r3.2.2)=true then
 some true
 else
 some (!decide ((r1.length:Int)=(w64 ((w64 (1+r3.1))+r3.2.1)))):Option Bool).bind fun b5=>
 if b5=true then
 some ((⟨0,[],[],[],[]⟩:jo),false)
 else
 (zD N r1 r3 N ([]:List Str) ([]:List Int) 1).bind (fun
 |(.inl (l11,l12))=>
 some ((⟨0,x2,l11,l12,[]⟩:jo),true)
 |(.inr q28)=>
 some q28)
theorem qcv (N:Nat) (s_:Str) {res:jo×Bool} (h:vZ N s_=some res):qc Tryz.prog (.fn 76) [.str s_] [] (.tuple [.agg (cE res.1),.bool res.2]) []:=by
 unfold vZ at h
 refine Goes.fnW Tryz.func76 rfl rfl (m:=80) rfl (rs:=[.cell 2 26,.tmp 3]) rfl (l:=(kAH s_ [])) rfl ?_
 refine sg fol (kAH s_ (kAO [])) (kB []) ?_
 obtain⟨r1,e_r1,h⟩:=bnd h
 refine sq (gr fol [1] (kI r1 []) (ac (cv (qcR N s_ e_r1)) az) ?_)
 obtain⟨x2,e_x2,h⟩:=bnd h
 obtain⟨r3,e_r3,h⟩:=bnd h
 refine sq (gr fol [1,2,3] (kI r1 [(5,.i r3.1),(6,.i r3.2.1),(7,.bool r3.2.2)]) (ac (iv yu encS e_x2) (ac (lv 0 ce9 encS e_x2 rfl) (ac (cv (qdV x2 e_r3)) az))) ?_)
 refine sq ?_
 refine sq ?_
 obtain⟨b5,g_v6,h⟩:=bnd h
 refine Goes.cut (s':=(ofG 80 (kI r1 [(5,.i r3.1),(32,.bool b5)]),(kB []))) ?_ ?_
 ·rcases wyB g_v6 with⟨c4,g_v6⟩|⟨c4,g_v6⟩
  ·obtain rfl:=si g_v6
   exact tr fol [2] (kI r1 [(5,.i r3.1),(32,.bool true)]) (ac (gw c4) az)
  ·obtain rfl:=si g_v6
   exact tr fol [2] (kI r1 [(5,.i r3.1),(32,.bool (!decide ((r1.length:Int)=(w64 ((w64 (1+r3.1))+r3.2.1)))))]) (ac (gw c4) az)
 refine ihB h (fun c7 h=>?_) (fun c7 h=>?_)
 ·refine sh fol (kAO kAT) ?_
  refine Goes.ret ?_
  obtain rfl:=si h
  exact(gw2 kY (FzW.tuple (qg.cons (FzW.agg (qg.cons (FzW.still tI) (qg.cons (FzW.still tS) (qg.cons (FzW.nilv (E:=encS)) (qg.cons (FzW.nilv (E:=encI)) (qg.cons (FzW.still tS) qg.nil)))))) (qg.cons (FzW.still tB) qg.nil))))
 ·refine Goes.skip ?_
  refine sq (gq fol [1,2] (kI r1 [(5,.i r3.1),(8,.ptr 1 0)]) (kB [.cells [.i 0,.str x2,.nilslice,.nilslice,.str []]]) (ac (iv yu encS e_x2) (ac (lv 0 ce9 encS e_x2 rfl) az)) ?_)
  refine sq ?_
  refine sh fol (kI r1 [(5,.i r3.1),(8,.ptr 1 0),(9,.i 1)]) ?_
  refine Goes.block ?_
  obtain⟨r13,g13,h⟩:=bnd h
  refine Goes.imp (Q:=fun x s'=>(x= .exit 0∧ ∃l11 l12,(.inl (l11,l12))=r13∧Sub s' (ofG 80 (kAO [(8,.ptr 1 0)]),(kB (kL x2 l11 l12 (kG l11 (kAJ l12 []))))))∨(x= .ret∧ ∃q14,(.inr q14)=r13∧qJ Tryz.prog [.cell 2 26,.tmp 3] (.tuple [.agg (cE q14.1),.bool q14.2]) .ret s')) ?_ ?_
  ·refine Goes.sub (s':=(ofG 80 (kI r1 [(5,.i r3.1),(8,.ptr 1 0),(9,.i 1)]),(kB [.cells [.i 0,.str x2,.gslice 2 ([]:List Str).length 1,.gslice 3 ([]:List Int).length 1,.str []],.cells (([]:List Str).flatMap encS.c),.cells (([]:List Int).flatMap encI.c)]))) (Sub.norm [] [some 0,some 1,none,none] rfl rfl (.kp (.keep (.same (qd encS _)) (.keep (.same nI) (.kp (.keep (.same nI) .nil))))) (.kb rfl (.same sn) (.kb rfl (.cells (rc (.same nI) (rc (.same nS) (rc (.nil) (rc (.nil) (rc (.same nS) rn)))))) (.fresh (.fresh .nil))))) ?_
   refine Goes.loopS (fun M s=> ∃(l8:List Str) (l9:List Int) (n10:Int),s=(ofG 80 (kI r1 (kAD r3.1 n10 [])),(kB (kL x2 l8 l9 (kG l8 (kAJ l9 [])))))∧zD N r1 r3 M l8 l9 n10=some r13) ?_ (m:=N) ⟨_,_,_,rfl,g13⟩
   rintro M s ⟨l8,l9,n10,rfl,g13⟩
   cases M with
   |zero=>simp only[zD]at g13;cases g13
   |succ M=>
    rw[zD]at g13
    refine sq ?_
    refine sh fol (kI r1 (kAD r3.1 n10 [(41,.bool (decide (n10<(r1.length:Int))))])) ?_
    refine ihD g13 (fun c15 g13=>?_) (fun c15 g13=>?_)
    ·refine Goes.skip ?_
     refine sq ?_
     obtain⟨r18,g18,g13⟩:=bnd g13
     refine Goes.imp (Q:=fun x s'=>(x= .normal∧ ∃l16 l17,(.inl (l16,l17))=r18∧Sub s' (ofG 80 (kI r1 (kAD r3.1 n10 [])),(kB (kL x2 l16 l17 (kG l16 (kAJ l17 []))))))∨(x= .ret∧ ∃q19,(.inr q19)=r18∧qJ Tryz.prog [.cell 2 26,.tmp 3] (.tuple [.agg (cE q19.1),.bool q19.2]) .ret s')) ?_ ?_
     ·refine Goes.block ?_
      refine sq ?_
      obtain⟨x20,e_x20,g18⟩:=bnd g18
      refine sq (gr fol [2,3] (kI r1 (kAD r3.1 n10 [(48,.bool (x20==[]))])) (ac (iv yu encS e_x20) (ac (lv 0 ce9 encS e_x20 rfl) az)) ?_)
      refine ihB g18 (fun c21 g18=>?_) (fun c21 g18=>?_)
      ·refine sh fol (kAO kAT) ?_
       refine Goes.ret ?_
       obtain rfl:=si g18
       exact Or.inr (⟨rfl,_,rfl,(gw2 kY (FzW.tuple (qg.cons (FzW.agg (qg.cons (FzW.still tI) (qg.cons (FzW.still tS) (qg.cons (FzW.nilv (E:=encS)) (qg.cons (FzW.nilv (E:=encI)) (qg.cons (FzW.still tS) qg.nil)))))) (qg.cons (FzW.still tB) qg.nil))))⟩)
      ·refine Goes.skip ?_
       refine sq ?_
       refine sh fol (kI r1 (kAD r3.1 n10 [(52,.bool (decide (n10≤r3.1)))])) ?_
       refine ihD g18 (fun c22 g18=>?_) (fun c22 g18=>?_)
       ·obtain⟨l23,e_l23,g18⟩:=bnd g18
        refine sq (gq fol [4,5,7] (kI r1 (kAD r3.1 n10 [])) (kB (.cells [.i 0,.str x2,.gslice 5 l23.length 1,.gslice 3 l9.length 1,.str []]:: .dead::(kAJ l9 (.cells [.str x20]::(kG l23 []))))) (ac (iv yu encS e_x20) (ac (lv 0 ce9 encS e_x20 rfl) (ac (hs (.run [2,4] (zA Tryz.prog [23,23] (.gslice 2 l8.length 1) (.slice 4 0 1 1 1)) (kB (kL x2 l8 l9 (kG l8 (kAJ l9 [.cells [.str x20]])))) (.gslice 5 l23.length 1) (kB (kL x2 l8 l9 (.dead::(kAJ l9 (.cells [.str x20]::(kG l23 [])))))) true) (ji yu (E:=encS) rfl (qaV (E:=encS) (ys:=[x20]) rfl rfl rfl rfl) (qbI (E:=encS) (l:=l8) rfl rfl rfl e_l23 rfl))) az))) ?_)
        refine Goes.exit ?_
        obtain rfl:=si g18
        exact Or.inl (⟨rfl,_,_,rfl,(Sub.norm [] [some 0,some 1,some 5,some 3] rfl rfl (.kp (.keep (.same (qd encS _)) (.keep (.same nI) (.kp (.keep (.same nI) .nil))))) (.kb rfl (.same sn) (.kb rfl (.cells (rc (.same nI) (rc (.same nS) (rc (.gslice rfl) (rc (.gslice rfl) (rc (.same nS) rn)))))) (.ks (.ks .nil)))))⟩)
       ·refine Goes.skip ?_
        obtain⟨r24,e_r24,g18⟩:=bnd g18
        refine sq (gr fol [2,3,4] (kI r1 (kAD r3.1 n10 [(10,.i r24.1),(11,.bool r24.2)])) (ac (iv yu encS e_x20) (ac (lv 0 ce9 encS e_x20 rfl) (ac (cv (qcf N x20 e_r24)) az))) ?_)
        refine sq ?_
        refine sh fol (kI r1 (kAD r3.1 n10 [(10,.i r24.1),(71,.bool (!r24.2))])) ?_
        refine ihB g18 (fun c25 g18=>?_) (fun c25 g18=>?_)
        ·refine sh fol (kAO kAT) ?_
         refine Goes.ret ?_
         obtain rfl:=si g18
         exact Or.inr (⟨rfl,_,rfl,(gw2 kY (FzW.tuple (qg.cons (FzW.agg (qg.cons (FzW.still tI) (qg.cons (FzW.still tS) (qg.cons (FzW.nilv (E:=encS)) (qg.cons (FzW.nilv (E:=encI)) (qg.cons (FzW.still tS) qg.nil)))))) (qg.cons (FzW.still tB) qg.nil))))⟩)
        ·refine Goes.skip ?_
         obtain⟨l26,e_l26,g18⟩:=bnd g18
         refine gq fol [4] (kI r1 (kAD r3.1 n10 [])) (kB (.cells [.i 0,.str x2,.gslice 2 l8.length 1,.gslice 5 l26.length 1,.str []]::(kG l8 (.dead:: .cells [.i r24.1]::(kAJ l26 []))))) (ac (hs (.run [3,4] (zA Tryz.prog [24,24] (.gslice 3 l9.length 1) (.slice 4 0 1 1 1)) (kB (kL x2 l8 l9 (kG l8 (kAJ l9 [.cells [.i r24.1]])))) (.gslice 5 l26.length 1) (kB (kL x2 l8 l9 (kG l8 (.dead:: .cells [.i r24.1]::(kAJ l26 []))))) true) (ji sl24 (E:=encI) rfl (qaV (E:=encI) (ys:=[r24.1]) rfl rfl rfl rfl) (qbI (E:=encI) (l:=l9) rfl rfl rfl e_l26 rfl))) az) ?_
         obtain rfl:=si g18
         exact Or.inl (⟨rfl,_,_,rfl,(Sub.norm [] [some 0,some 1,some 2,some 5] rfl rfl (.kp (.keep (.same (qd encS _)) (.keep (.same nI) (.kp (.keep (.same nI) .nil))))) (.kb rfl (.same sn) (.kb rfl (.cells (rc (.same nI) (rc (.same nS) (rc (.gslice rfl) (rc (.gslice rfl) (rc (.same nS) rn)))))) (.ks (.ks .nil)))))⟩)
     rintro x s' (⟨rfl,l16,l17,rfl,hsub⟩|⟨rfl,q27,rfl,hret⟩)
     ·try dsimp only at g13
      refine Goes.sub hsub ?_
      refine gh fol (kI r1 (kAD r3.1 (w64 (n10+1)) [])) ?_
      exact⟨M,(ofG 80 (kI r1 (kAD r3.1 (w64 (n10+1)) [])),(kB (kL x2 l16 l17 (kG l16 (kAJ l17 []))))),Nat.lt_succ_self _,(Sub.refl _),_,_,_,rfl,g13⟩
     ·try dsimp only at g13
      obtain rfl:=si g13
      exact Or.inr (⟨rfl,_,rfl,hret⟩)
    ·refine Goes.exit ?_
     obtain rfl:=si g13
     exact Or.inl (⟨rfl,_,_,rfl,(Sub.keep [2,8] rfl rfl)⟩)
  rintro x s' (⟨rfl,l11,l12,rfl,hsub⟩|⟨rfl,q28,rfl,hret⟩)
  ·try dsimp only at h
   refine Goes.sub hsub ?_
   refine sg fol (kAO [(3,.bool true)]) (kL x2 l11 l12 (kL x2 l11 l12 (kG l11 (kAJ l12 [])))) ?_
   refine Goes.ret ?_
   obtain rfl:=si h
   exact(gw2 (.agg [.i 0,.str x2,.gslice 2 l11.length 1,.gslice 3 l12.length 1,.str []]::kAS) (FzW.tuple (qg.cons (FzW.agg (qg.cons (FzW.still tI) (qg.cons (FzW.still tS) (qg.cons (FzW.fz (Fz.gs (E:=encS) rfl rfl (nl rfl))) (qg.cons (FzW.fz (Fz.gs (E:=encI) rfl rfl (nl rfl))) (qg.cons (FzW.still tS) qg.nil)))))) (qg.cons (FzW.still tB) qg.nil))))
  ·try dsimp only at h
   obtain rfl:=si h
   exact hret
def qI (N:Nat) (l:List qb):Nat→Int→Option (Unit⊕Int)
 |0,_=>none
 |K+1,n2=>
  if n2<(l.length:Int)then
  (((idx l n2).bind fun x8=>
  (yf N x8.Desk).bind fun r9=>
  if(!r9)=true then
  some (.inr 8)
  else
  ((jW x8.Number 1 1000).bind fun r11=>
  if r11=true then
  some true
  else
  (jW x8.Clock 1 1000000).bind fun r13=>
  some r13:Option Bool).bind fun b14=>
  if b14=true then
  some (.inr 3)
  else
  (vZ N x8.Line).bind fun r17=>
  (if(!r17.2)=true then
  some true
  else
  some (r17.1.Kind==[117,110,100,111]):Option Bool).bind fun b19=>
  if b19=true then
  some (.inr 25)
  else
  if n2>0 then
  (idx l (w64 (n2-1))).bind fun x23=>
  (if(ltL x8.Desk x23.Desk)=true then
  some true
  else
  if(x8.Desk==x23.Desk)=true then
  if x8.Number≤x23.Number then
  some true
  else
  some (decide (x8.Clock≤x23.Clock))
  else
  some false:Option Bool).bind fun b27=>
  if b27=true then
  some (.inr 11)
  else
  some (.inl ())
  else
  some (.inl ()):Option (Unit⊕Int))).bind (fun
  |(.inl ())=>
  qI N l K (w64 (n2+1))
  |(.inr q30)=>
  some (.inr q30))
  else
  some (.inl ())
def zH (N:Nat) (l:List qb):Option Int:=
 if(l.length:Int)>1000 then
 some 5
 else
 (qI N l N 0).bind (fun
 |(.inl ())=>
 some 0
 |(.inr q31)=>
 some q31)
theorem vJ (N:Nat) (l:List qb) {res:Int} (h:zH N l=some res):qc Tryz.prog (.fn 60) [vl qa l] [] (.i res) []:=by
 unfold zH at h
 refine Goes.fnW Tryz.func60 rfl rfl (m:=79) rfl (rs:=[.tmp 2]) rfl (l:=(kC l [])) rfl ?_
 refine sh fol (kC l []) ?_
 refine sq ?_
 refine sh fol (kC l [(10,.bool (decide ((l.length:Int)>1000)))]) ?_
 refine ihD h (fun c1 h=>?_) (fun c1 h=>?_)
 ·refine sh fol [(2,.i 5)] ?_
  refine Goes.ret ?_
  obtain rfl:=si h
  exact(gw2 [.i 5] (FzW.still tI))
 ·refine Goes.skip ?_
  refine sq ?_
  refine sh fol (kC l [(3,.i 0)]) ?_
  refine Goes.block ?_
  obtain⟨r3,g3,h⟩:=bnd h
  refine Goes.imp (Q:=fun x s'=>(x= .exit 0∧(.inl ())=r3∧Sub s' (ofG 79 [],[]))∨(x= .ret∧ ∃q4,(.inr q4)=r3∧qJ Tryz.prog [.tmp 2] (.i q4) .ret s')) ?_ ?_
  ·refine Goes.loopS (fun M s=> ∃(n2:Int),s=(ofG 79 (kC l [(3,.i n2)]),[])∧qI N l M n2=some r3) ?_ (m:=N) ⟨_,rfl,g3⟩
   rintro M s ⟨n2,rfl,g3⟩
   cases M with
   |zero=>simp only[qI]at g3;cases g3
   |succ M=>
    rw[qI]at g3
    refine sq ?_
    refine sh fol (kC l [(3,.i n2),(14,.bool (decide (n2<(l.length:Int))))]) ?_
    refine ihD g3 (fun c5 g3=>?_) (fun c5 g3=>?_)
    ·refine Goes.skip ?_
     refine sq ?_
     obtain⟨r6,g6,g3⟩:=bnd g3
     refine Goes.imp (Q:=fun x s'=>(x= .normal∧(.inl ())=r6∧Sub s' (ofG 79 (kC l [(3,.i n2)]),[]))∨(x= .ret∧ ∃q7,(.inr q7)=r6∧qJ Tryz.prog [.tmp 2] (.i q7) .ret s')) ?_ ?_
     ·refine Goes.block ?_
      obtain⟨x8,e_x8,g6⟩:=bnd g6
      refine sq (gq fol [2,3] (kC l (kAM n2 [])) (kD x8.Desk x8.Number x8.Clock x8.Line []) (ac (iv jI qa e_x8) (ac (la qcZ qa e_x8) az)) ?_)
      refine sq ?_
      obtain⟨r9,e_r9,g6⟩:=bnd g6
      refine sq (gr fol [2] (kC l (kAM n2 [(24,.bool (!r9))])) (ac (cv (qcw N x8.Desk e_r9)) az) ?_)
      refine ihB g6 (fun c10 g6=>?_) (fun c10 g6=>?_)
      ·refine sh fol [(2,.i 8)] ?_
       refine Goes.ret ?_
       obtain rfl:=si g6
       exact Or.inr (⟨rfl,_,rfl,(gw2 [.i 8] (FzW.still tI))⟩)
      ·refine Goes.skip ?_
       refine sq ?_
       refine sq ?_
       obtain⟨b14,g_v15,g6⟩:=bnd g6
       refine Goes.cut (s':=(ofG 79 (kC l (kAM n2 [(32,.bool b14)])),(kD x8.Desk x8.Number x8.Clock x8.Line []))) ?_ ?_
       ·obtain⟨r11,e_r11,g_v15⟩:=bnd g_v15
        rcases wyB g_v15 with⟨c12,g_v15⟩|⟨c12,g_v15⟩
        ·obtain rfl:=si g_v15
         exact tr fol [2,3] (kC l (kAM n2 [(32,.bool true)])) (ac (cv (yD x8.Number 1 1000 e_r11)) (ac (gw c12) az))
        ·obtain⟨r13,e_r13,g_v15⟩:=bnd g_v15
         obtain rfl:=si g_v15
         exact tr fol [2,3,6] (kC l (kAM n2 [(32,.bool r13)])) (ac (cv (yD x8.Number 1 1000 e_r11)) (ac (gw c12) (ac (cv (yD x8.Clock 1 1000000 e_r13)) az)))
       refine ihB g6 (fun c16 g6=>?_) (fun c16 g6=>?_)
       ·refine sh fol [(2,.i 3)] ?_
        refine Goes.ret ?_
        obtain rfl:=si g6
        exact Or.inr (⟨rfl,_,rfl,(gw2 [.i 3] (FzW.still tI))⟩)
       ·refine Goes.skip ?_
        obtain⟨r17,e_r17,g6⟩:=bnd g6
        refine sq (gq fol [2] (kC l (kAM n2 [(5,.ptr 1 0),(6,.bool r17.2)])) (kD x8.Desk x8.Number x8.Clock x8.Line [.cells (cE r17.1)]) (ac (cv (qcv N x8.Line e_r17)) az) ?_)
        refine sq ?_
        refine sq ?_
        obtain⟨b19,g_v20,g6⟩:=bnd g6
        refine Goes.cut (s':=(ofG 79 (kC l (kAM n2 [(45,.bool b19)])),(kD x8.Desk x8.Number x8.Clock x8.Line [.cells (cE r17.1)]))) ?_ ?_
        ·rcases wyB g_v20 with⟨c18,g_v20⟩|⟨c18,g_v20⟩
         ·obtain rfl:=si g_v20
          exact tr fol [2] (kC l (kAM n2 [(45,.bool true)])) (ac (gw c18) az)
         ·obtain rfl:=si g_v20
          exact tr fol [2] (kC l (kAM n2 [(45,.bool (r17.1.Kind==[117,110,100,111]))])) (ac (gw c18) az)
        refine ihB g6 (fun c21 g6=>?_) (fun c21 g6=>?_)
        ·refine sh fol [(2,.i 25)] ?_
         refine Goes.ret ?_
         obtain rfl:=si g6
         exact Or.inr (⟨rfl,_,rfl,(gw2 [.i 25] (FzW.still tI))⟩)
        ·refine Goes.skip ?_
         refine sh fol (kC l (kAM n2 [(47,.bool (decide (n2>0)))])) ?_
         refine ihD g6 (fun c22 g6=>?_) (fun c22 g6=>?_)
         ·obtain⟨x23,e_x23,g6⟩:=bnd g6
          refine sq (gq fol [3,4] (kC l (kAM n2 [(7,.ptr 2 0)])) (kD x8.Desk x8.Number x8.Clock x8.Line (.cells (cE r17.1)::(kD x23.Desk x23.Number x23.Clock x23.Line []))) (ac (iv jI qa e_x23) (ac (la qcZ qa e_x23) az)) ?_)
          refine sq ?_
          obtain⟨b27,g_v28,g6⟩:=bnd g6
          refine Goes.cut (s':=(ofG 79 (kC l [(3,.i n2),(78,.bool b27)]),(kD x8.Desk x8.Number x8.Clock x8.Line (.cells (cE r17.1)::(kD x23.Desk x23.Number x23.Clock x23.Line []))))) ?_ ?_
          ·rcases wyB g_v28 with⟨c24,g_v28⟩|⟨c24,g_v28⟩
           ·obtain rfl:=si g_v28
            exact tr fol [5] (kC l [(3,.i n2),(78,.bool true)]) (ac (gw c24) az)
           ·rcases wyB g_v28 with⟨c25,g_v28⟩|⟨c25,g_v28⟩
            ·rcases wyD g_v28 with⟨c26,g_v28⟩|⟨c26,g_v28⟩
             ·obtain rfl:=si g_v28
              exact tr fol [5,11,17] (kC l [(3,.i n2),(78,.bool true)]) (ac (gw c24) (ac (gw c25) (ac (gw c26) az)))
             ·obtain rfl:=si g_v28
              exact tr fol [5,11,17] (kC l [(3,.i n2),(78,.bool (decide (x8.Clock≤x23.Clock)))]) (ac (gw c24) (ac (gw c25) (ac (gw c26) az)))
            ·obtain rfl:=si g_v28
             exact tr fol [5,11] (kC l [(3,.i n2),(78,.bool false)]) (ac (gw c24) (ac (gw c25) az))
          refine ihB g6 (fun c29 g6=>?_) (fun c29 g6=>?_)
          ·refine sh fol [(2,.i 11)] ?_
           refine Goes.ret ?_
           obtain rfl:=si g6
           exact Or.inr (⟨rfl,_,rfl,(gw2 [.i 11] (FzW.still tI))⟩)
          ·refine Goes.skip ?_
           obtain rfl:=si g6
           exact Or.inl (⟨rfl,rfl,(Sub.norm [] [] rfl rfl (.keep (.same (qd qa _)) (.keep (.same nI) .nil)) .nil)⟩)
         ·refine Goes.skip ?_
          obtain rfl:=si g6
          exact Or.inl (⟨rfl,rfl,(Sub.norm [] [] rfl rfl (.keep (.same (qd qa _)) (.keep (.same nI) .nil)) .nil)⟩)
     rintro x s' (⟨rfl,rfl,hsub⟩|⟨rfl,q30,rfl,hret⟩)
     ·try dsimp only at g3
      refine Goes.sub hsub ?_
      refine gh fol (kC l [(3,.i (w64 (n2+1)))]) ?_
      exact⟨M,(ofG 79 (kC l [(3,.i (w64 (n2+1)))]),[]),Nat.lt_succ_self _,(Sub.refl _),_,rfl,g3⟩
     ·try dsimp only at g3
      obtain rfl:=si g3
      exact Or.inr (⟨rfl,_,rfl,hret⟩)
    ·refine Goes.exit ?_
     obtain rfl:=si g3
     exact Or.inl (⟨rfl,rfl,(Sub.keep [] rfl rfl)⟩)
  rintro x s' (⟨rfl,rfl,hsub⟩|⟨rfl,q31,rfl,hret⟩)
  ·try dsimp only at h
   refine Goes.sub hsub ?_
   refine sh fol [(2,.i 0)] ?_
   refine Goes.ret ?_
   obtain rfl:=si h
   exact(gw2 [.i 0] (FzW.still tI))
  ·try dsimp only at h
   obtain rfl:=si h
   exact hret
def qQ (a:List qb) (b:List qb):Nat→Int→Option (Unit⊕Bool)
 |0,_=>none
 |K+1,n2=>
  if n2<(a.length:Int)then
  (idx a n2).bind fun x6=>
  (idx b n2).bind fun x7=>
  if(!((x6.Desk==x7.Desk)&&(decide (x6.Number=x7.Number)&&(decide (x6.Clock=x7.Clock)&&((x6.Line==x7.Line)&&true)))))=true then
  some (.inr false)
  else
  qQ a b K (w64 (n2+1))
  else
  some (.inl ())
def jP (N:Nat) (a:List qb) (b:List qb):Option Bool:=
 if(!decide ((a.length:Int)=(b.length:Int)))=true then
 some false
 else
 (qQ a b N 0).bind (fun
 |(.inl ())=>
 some true
 |(.inr q9)=>
 some q9)
theorem jM (N:Nat) (a:List qb) (b:List qb) {res:Bool} (h:jP N a b=some res):qc Tryz.prog (.fn 64) [vl qa a,vl qa b] [] (.bool res) []:=by
 unfold jP at h
 refine Goes.fnW Tryz.func64 rfl rfl (m:=26) rfl (rs:=[.tmp 4]) rfl (l:=(kC a (kT b []))) rfl ?_
 refine sh fol (kC a (kT b [])) ?_
 refine sq ?_
 refine sh fol (kC a (kT b [(10,.bool (!decide ((a.length:Int)=(b.length:Int))))])) ?_
 refine ihB h (fun c1 h=>?_) (fun c1 h=>?_)
 ·refine sh fol kAF ?_
  refine Goes.ret ?_
  obtain rfl:=si h
  exact(gw2 [.bool false] (FzW.still tB))
 ·refine Goes.skip ?_
  refine sq ?_
  refine sh fol (kC a (kT b [(5,.i 0)])) ?_
  refine Goes.block ?_
  obtain⟨r3,g3,h⟩:=bnd h
  refine Goes.imp (Q:=fun x s'=>(x= .exit 0∧(.inl ())=r3∧Sub s' (ofG 26 [],[]))∨(x= .ret∧ ∃q4,(.inr q4)=r3∧qJ Tryz.prog [.tmp 4] (.bool q4) .ret s')) ?_ ?_
  ·refine Goes.loopS (fun M s=> ∃(n2:Int),s=(ofG 26 (kC a (kT b (kAY n2))),[])∧qQ a b M n2=some r3) ?_ (m:=N) ⟨_,rfl,g3⟩
   rintro M s ⟨n2,rfl,g3⟩
   cases M with
   |zero=>simp only[qQ]at g3;cases g3
   |succ M=>
    rw[qQ]at g3
    refine sq ?_
    refine sh fol (kC a (kT b [(5,.i n2),(14,.bool (decide (n2<(a.length:Int))))])) ?_
    refine ihD g3 (fun c5 g3=>?_) (fun c5 g3=>?_)
    ·refine Goes.skip ?_
     refine sq (Goes.block ?_)
     obtain⟨x6,e_x6,g3⟩:=bnd g3
     obtain⟨x7,e_x7,g3⟩:=bnd g3
     refine sq (gr fol [2,3,6,7,8] (kC a (kT b [(5,.i n2),(25,.bool (!((x6.Desk==x7.Desk)&&(decide (x6.Number=x7.Number)&&(decide (x6.Clock=x7.Clock)&&((x6.Line==x7.Line)&&true))))))])) (ac (iv jI qa e_x6) (ac (la qcZ qa e_x6) (ac (iv jI qa e_x7) (ac (la qcZ qa e_x7) (ac (hs (.done (.opt (qaz Tryz.prog .neq 201 (.tmp 20) (.tmp 24) (.agg (kAW x6.Desk x6.Number x6.Clock x6.Line)) (.agg (kAW x7.Desk x7.Number x7.Clock x7.Line)))) (.bool (!((x6.Desk==x7.Desk)&&(decide (x6.Number=x7.Number)&&(decide (x6.Clock=x7.Clock)&&((x6.Line==x7.Line)&&true))))))) (qe9 qjq (e:=((x6.Desk==x7.Desk)&&(decide (x6.Number=x7.Number)&&(decide (x6.Clock=x7.Clock)&&((x6.Line==x7.Line)&&true))))) (.cons (a:= .str x6.Desk) (b:= .str x7.Desk) rfl (by kernel_rfl) (by kernel_rfl) (by kernel_rfl) (.cons (a:= .i x6.Number) (b:= .i x7.Number) rfl (by kernel_rfl) (by kernel_rfl) (by kernel_rfl) (.cons (a:= .i x6.Clock) (b:= .i x7.Clock) rfl (by kernel_rfl) (by kernel_rfl) (by kernel_rfl) (.cons (a:= .str x6.Line) (b:= .str x7.Line) rfl (by kernel_rfl) (by kernel_rfl) (by kernel_rfl) .nil)))))) az))))) ?_)
     refine ihB g3 (fun c8 g3=>?_) (fun c8 g3=>?_)
     ·refine sh fol kAF ?_
      refine Goes.ret ?_
      obtain rfl:=si g3
      exact Or.inr (⟨rfl,_,rfl,(gw2 [.bool false] (FzW.still tB))⟩)
     ·refine Goes.skip ?_
      refine gh fol (kC a (kT b (kAY (w64 (n2+1))))) ?_
      exact⟨M,(ofG 26 (kC a (kT b (kAY (w64 (n2+1))))),[]),Nat.lt_succ_self _,(Sub.refl _),_,rfl,g3⟩
    ·refine Goes.exit ?_
     obtain rfl:=si g3
     exact Or.inl (⟨rfl,rfl,(Sub.keep [] rfl rfl)⟩)
  rintro x s' (⟨rfl,rfl,hsub⟩|⟨rfl,q9,rfl,hret⟩)
  ·try dsimp only at h
   refine Goes.sub hsub ?_
   refine sh fol kAQ ?_
   refine Goes.ret ?_
   obtain rfl:=si h
   exact(gw2 [.bool true] (FzW.still tB))
  ·try dsimp only at h
   obtain rfl:=si h
   exact hret
def qN (a:List qj) (b:List qj):Nat→Int→Option (Unit⊕Bool)
 |0,_=>none
 |K+1,n2=>
  if n2<(a.length:Int)then
  (idx a n2).bind fun x6=>
  (idx b n2).bind fun x7=>
  if(!((x6.Desk==x7.Desk)&&(decide (x6.Number=x7.Number)&&true)))=true then
  some (.inr false)
  else
  qN a b K (w64 (n2+1))
  else
  some (.inl ())
def jQ (N:Nat) (a:List qj) (b:List qj):Option Bool:=
 if(!decide ((a.length:Int)=(b.length:Int)))=true then
 some false
 else
 (qN a b N 0).bind (fun
 |(.inl ())=>
 some true
 |(.inr q9)=>
 some q9)
theorem xB (N:Nat) (a:List qj) (b:List qj) {res:Bool} (h:jQ N a b=some res):qc Tryz.prog (.fn 65) [vl qf a,vl qf b] [] (.bool res) []:=by
 unfold jQ at h
 refine Goes.fnW Tryz.func65 rfl rfl (m:=26) rfl (rs:=[.tmp 4]) rfl (l:=(kAI a b [])) rfl ?_
 refine sh fol (kAI a b []) ?_
 refine sq ?_
 refine sh fol (kAI a b [(10,.bool (!decide ((a.length:Int)=(b.length:Int))))]) ?_
 refine ihB h (fun c1 h=>?_) (fun c1 h=>?_)
 ·refine sh fol kAF ?_
  refine Goes.ret ?_
  obtain rfl:=si h
  exact(gw2 [.bool false] (FzW.still tB))
 ·refine Goes.skip ?_
  refine sq ?_
  refine sh fol (kAI a b [(5,.i 0)]) ?_
  refine Goes.block ?_
  obtain⟨r3,g3,h⟩:=bnd h
  refine Goes.imp (Q:=fun x s'=>(x= .exit 0∧(.inl ())=r3∧Sub s' (ofG 26 [],[]))∨(x= .ret∧ ∃q4,(.inr q4)=r3∧qJ Tryz.prog [.tmp 4] (.bool q4) .ret s')) ?_ ?_
  ·refine Goes.loopS (fun M s=> ∃(n2:Int),s=(ofG 26 (kAI a b (kAY n2)),[])∧qN a b M n2=some r3) ?_ (m:=N) ⟨_,rfl,g3⟩
   rintro M s ⟨n2,rfl,g3⟩
   cases M with
   |zero=>simp only[qN]at g3;cases g3
   |succ M=>
    rw[qN]at g3
    refine sq ?_
    refine sh fol (kAI a b [(5,.i n2),(14,.bool (decide (n2<(a.length:Int))))]) ?_
    refine ihD g3 (fun c5 g3=>?_) (fun c5 g3=>?_)
    ·refine Goes.skip ?_
     refine sq (Goes.block ?_)
     obtain⟨x6,e_x6,g3⟩:=bnd g3
     obtain⟨x7,e_x7,g3⟩:=bnd g3
     refine sq (gr fol [2,3,6,7,8] (kAI a b [(5,.i n2),(25,.bool (!((x6.Desk==x7.Desk)&&(decide (x6.Number=x7.Number)&&true))))]) (ac (iv qdN qf e_x6) (ac (la qke qf e_x6) (ac (iv qdN qf e_x7) (ac (la qke qf e_x7) (ac (hs (.done (.opt (qaz Tryz.prog .neq 202 (.tmp 20) (.tmp 24) (.agg [.str x6.Desk,.i x6.Number]) (.agg [.str x7.Desk,.i x7.Number]))) (.bool (!((x6.Desk==x7.Desk)&&(decide (x6.Number=x7.Number)&&true))))) (qe9 qkH (e:=((x6.Desk==x7.Desk)&&(decide (x6.Number=x7.Number)&&true))) (.cons (a:= .str x6.Desk) (b:= .str x7.Desk) rfl (by kernel_rfl) (by kernel_rfl) (by kernel_rfl) (.cons (a:= .i x6.Number) (b:= .i x7.Number) rfl (by kernel_rfl) (by kernel_rfl) (by kernel_rfl) .nil)))) az))))) ?_)
     refine ihB g3 (fun c8 g3=>?_) (fun c8 g3=>?_)
     ·refine sh fol kAF ?_
      refine Goes.ret ?_
      obtain rfl:=si g3
      exact Or.inr (⟨rfl,_,rfl,(gw2 [.bool false] (FzW.still tB))⟩)
     ·refine Goes.skip ?_
      refine gh fol (kAI a b (kAY (w64 (n2+1)))) ?_
      exact⟨M,(ofG 26 (kAI a b (kAY (w64 (n2+1)))),[]),Nat.lt_succ_self _,(Sub.refl _),_,rfl,g3⟩
    ·refine Goes.exit ?_
     obtain rfl:=si g3
     exact Or.inl (⟨rfl,rfl,(Sub.keep [] rfl rfl)⟩)
  rintro x s' (⟨rfl,rfl,hsub⟩|⟨rfl,q9,rfl,hret⟩)
  ·try dsimp only at h
   refine Goes.sub hsub ?_
   refine sh fol kAQ ?_
   refine Goes.ret ?_
   obtain rfl:=si h
   exact(gw2 [.bool true] (FzW.still tB))
  ·try dsimp only at h
   obtain rfl:=si h
   exact hret
def zW (l:List Int):Nat→Int→Option (Unit⊕Int)
 |0,_=>none
 |K+1,n1=>
  if n1<(l.length:Int)then
  (idx l n1).bind fun x5=>
  if(!decide (x5=0))=true then
  some (.inr x5)
  else
  zW l K (w64 (n1+1))
  else
  some (.inl ())
def kw (N:Nat) (l:List Int):Option Int:=
 (zW l N 0).bind (fun
 |(.inl ())=>
 some 0
 |(.inr q7)=>
 some q7)
theorem zo (N:Nat) (l:List Int) {res:Int} (h:kw N l=some res):qc Tryz.prog (.fn 86) [vl encI l] [] (.i res) []:=by
 unfold kw at h
 refine Goes.fnW Tryz.func86 rfl rfl (m:=15) rfl (rs:=[.tmp 2]) rfl (l:=[(0,vl encI l)]) rfl ?_
 refine sh fol [(0,vl encI l)] ?_
 refine sq ?_
 refine sh fol [(5,vl encI l),(6,.i (l.length:Int)),(7,.i 0)] ?_
 refine Goes.block ?_
 obtain⟨r2,g2,h⟩:=bnd h
 refine Goes.imp (Q:=fun x s'=>(x= .exit 0∧(.inl ())=r2∧Sub s' (ofG 15 [],[]))∨(x= .ret∧ ∃q3,(.inr q3)=r2∧qJ Tryz.prog [.tmp 2] (.i q3) .ret s')) ?_ ?_
 ·refine Goes.loopS (fun M s=> ∃(n1:Int),s=(ofG 15 (kAE l (l.length:Int) n1 []),[])∧zW l M n1=some r2) ?_ (m:=N) ⟨_,rfl,g2⟩
  rintro M s ⟨n1,rfl,g2⟩
  cases M with
  |zero=>simp only[zW]at g2;cases g2
  |succ M=>
   rw[zW]at g2
   refine sh fol (kAE l (l.length:Int) n1 [(8,.bool (decide (n1<(l.length:Int))))]) ?_
   refine sq ?_
   refine ihD g2 (fun c4 g2=>?_) (fun c4 g2=>?_)
   ·refine Goes.skip ?_
    refine sq (Goes.block ?_)
    obtain⟨x5,e_x5,g2⟩:=bnd g2
    refine sq (gr fol [0,1] ((4,.i x5)::(kAE l (l.length:Int) n1 [])) (ac (iv sl218 encI e_x5) (ac (lv 0 ce32 encI e_x5 rfl) az)) ?_)
    refine sh fol ((4,.i x5)::(kAE l (l.length:Int) n1 [(12,.bool (!decide (x5=0)))])) ?_
    refine ihB g2 (fun c6 g2=>?_) (fun c6 g2=>?_)
    ·refine sh fol [(2,.i x5)] ?_
     refine Goes.ret ?_
     obtain rfl:=si g2
     exact Or.inr (⟨rfl,_,rfl,(gw2 [.i x5] (FzW.still tI))⟩)
    ·refine Goes.skip ?_
     refine gh fol (kAE l (l.length:Int) (w64 (n1+1)) []) ?_
     exact⟨M,(ofG 15 (kAE l (l.length:Int) (w64 (n1+1)) []),[]),Nat.lt_succ_self _,(Sub.refl _),_,rfl,g2⟩
   ·refine Goes.exit ?_
    obtain rfl:=si g2
    exact Or.inl (⟨rfl,rfl,(Sub.keep [] rfl rfl)⟩)
 rintro x s' (⟨rfl,rfl,hsub⟩|⟨rfl,q7,rfl,hret⟩)
 ·try dsimp only at h
  refine Goes.sub hsub ?_
  refine sh fol [(2,.i 0)] ?_
  refine Goes.ret ?_
  obtain rfl:=si h
  exact(gw2 [.i 0] (FzW.still tI))
 ·try dsimp only at h
  obtain rfl:=si h
  exact hret
def ku (holds:Bool) (e:Int):Option Int:=
 if holds=true then
 some e
 else
 some 0
theorem qF (holds:Bool) (e:Int) {res:Int} (h:ku holds e=some res):qc Tryz.prog (.fn 88) [.bool holds,.i e] [] (.i res) []:=by
 unfold ku at h
 refine Goes.fnW Tryz.func88 rfl rfl (m:=7) rfl (rs:=[.tmp 4]) rfl (l:=[(0,.bool holds),(1,.i e)]) rfl ?_
 refine sh fol [(0,.bool holds),(1,.i e)] ?_
 refine sq ?_
 refine sh fol [(1,.i e),(5,.bool holds)] ?_
 refine ihB h (fun c1 h=>?_) (fun c1 h=>?_)
 ·refine sh fol [(4,.i e)] ?_
  refine Goes.ret ?_
  obtain rfl:=si h
  exact(gw2 [.i e] (FzW.still tI))
 ·refine Goes.skip ?_
  refine sh fol [(4,.i 0)] ?_
  refine Goes.ret ?_
  obtain rfl:=si h
  exact(gw2 [.i 0] (FzW.still tI))
def qK (n:qb):Option qj:=
 some (⟨n.Desk,n.Number⟩:qj)
theorem kg (n:qb) {res:qj} (h:qK n=some res):qc Tryz.prog (.fn 129) [.agg (kAW n.Desk n.Number n.Clock n.Line)] [] (.agg [.str res.Desk,.i res.Number]) []:=by
 unfold qK at h
 refine Goes.fnW Tryz.func129 rfl rfl (m:=8) rfl (rs:=[.cell 2 141]) rfl (l:=[(0,.agg [.str n.Desk,.i n.Number,.i n.Clock,.str n.Line])]) rfl ?_
 refine sg fol [(1,.ptr 0 0),(2,.ptr 1 0)] (kD n.Desk n.Number n.Clock n.Line [.cells [.str [],.i 0]]) ?_
 refine sg fol [(2,.ptr 1 0)] (kD n.Desk n.Number n.Clock n.Line (kAC n.Desk n.Number [])) ?_
 refine Goes.ret ?_
 obtain rfl:=si h
 exact(gw2 [.agg [.str n.Desk,.i n.Number]] (FzW.agg (qg.cons (FzW.still tS) (qg.cons (FzW.still tI) qg.nil))))
def cmp_isNaN_int (x_:Int):Option Bool:=
 some (!decide (x_=x_))
theorem xS (x_:Int) {res:Bool} (h:cmp_isNaN_int x_=some res):qc Tryz.prog (.fn 171) [.i x_] [] (.bool res) []:=by
 unfold cmp_isNaN_int at h
 refine Goes.fnW Tryz.func171 rfl rfl (m:=6) rfl (rs:=[.tmp 2]) rfl (l:=[(0,.i x_)]) rfl ?_
 refine sh fol [(0,.i x_)] ?_
 refine sh fol [(2,.bool (!decide (x_=x_)))] ?_
 refine Goes.ret ?_
 obtain rfl:=si h
 exact(gw2 [.bool (!decide (x_=x_))] (FzW.still tB))
def cmp_Compare_int (x_:Int) (y:Int):Option Int:=
 (cmp_isNaN_int x_).bind fun r1=>
 (cmp_isNaN_int y).bind fun r2=>
 if r1=true then
 if r2=true then
 some 0
 else
 some (-1)
 else
 if r2=true then
 some 1
 else
 if x_<y then
 some (-1)
 else
 if x_>y then
 some 1
 else
 some 0
theorem qbu (x_:Int) (y:Int) {res:Int} (h:cmp_Compare_int x_ y=some res):qc Tryz.prog (.fn 126) [.i x_,.i y] [] (.i res) []:=by
 unfold cmp_Compare_int at h
 refine Goes.fnW Tryz.func126 rfl rfl (m:=20) rfl (rs:=[.tmp 4]) rfl (l:=[(0,.i x_),(1,.i y)]) rfl ?_
 refine sh fol [(0,.i x_),(1,.i y)] ?_
 obtain⟨r1,e_r1,h⟩:=bnd h
 refine sq (gr fol [1] [(0,.i x_),(1,.i y),(5,.bool r1)] (ac (cv (xS x_ e_r1)) az) ?_)
 obtain⟨r2,e_r2,h⟩:=bnd h
 refine sq (gr fol [1] [(0,.i x_),(1,.i y),(5,.bool r1),(6,.bool r2)] (ac (cv (xS y e_r2)) az) ?_)
 refine sq ?_
 refine sh fol [(0,.i x_),(1,.i y),(6,.bool r2),(11,.bool r1)] ?_
 refine ihB h (fun c3 h=>?_) (fun c3 h=>?_)
 ·refine sq ?_
  refine sh fol [(12,.bool r2)] ?_
  refine ihB h (fun c4 h=>?_) (fun c4 h=>?_)
  ·refine sh fol [(4,.i 0)] ?_
   refine Goes.ret ?_
   obtain rfl:=si h
   exact(gw2 [.i 0] (FzW.still tI))
  ·refine Goes.skip ?_
   refine sh fol [(4,.i (-1))] ?_
   refine Goes.ret ?_
   obtain rfl:=si h
   exact(gw2 [.i (-1)] (FzW.still tI))
 ·refine Goes.skip ?_
  refine sq ?_
  refine sh fol [(0,.i x_),(1,.i y),(13,.bool r2)] ?_
  refine ihB h (fun c5 h=>?_) (fun c5 h=>?_)
  ·refine sh fol [(4,.i 1)] ?_
   refine Goes.ret ?_
   obtain rfl:=si h
   exact(gw2 [.i 1] (FzW.still tI))
  ·refine Goes.skip ?_
   refine sq ?_
   refine sh fol [(0,.i x_),(1,.i y),(16,.bool (decide (x_<y)))] ?_
   refine ihD h (fun c6 h=>?_) (fun c6 h=>?_)
   ·refine sh fol [(4,.i (-1))] ?_
    refine Goes.ret ?_
    obtain rfl:=si h
    exact(gw2 [.i (-1)] (FzW.still tI))
   ·refine Goes.skip ?_
    refine sq ?_
    refine sh fol [(19,.bool (decide (x_>y)))] ?_
    refine ihD h (fun c7 h=>?_) (fun c7 h=>?_)
    ·refine sh fol [(4,.i 1)] ?_
     refine Goes.ret ?_
     obtain rfl:=si h
     exact(gw2 [.i 1] (FzW.still tI))
    ·refine Goes.skip ?_
     refine sh fol [(4,.i 0)] ?_
     refine Goes.ret ?_
     obtain rfl:=si h
     exact(gw2 [.i 0] (FzW.still tI))
def zY (vals:List Int):Nat→Int→Option (Unit⊕Int)
 |0,_=>none
 |K+1,n1=>
  if n1<(vals.length:Int)then
  (idx vals n1).bind fun x5=>
  if(!decide (x5=0))=true then
  some (.inr x5)
  else
  zY vals K (w64 (n1+1))
  else
  some (.inl ())
def xm (N:Nat) (vals:List Int):Option Int:=
 (zY vals N 0).bind (fun
 |(.inl ())=>
 some 0
 |(.inr q7)=>
 some q7)
theorem qdU (N:Nat) (vals:List Int) {res:Int} (h:xm N vals=some res):qc Tryz.prog (.fn 177) [vl encI vals] [] (.i res) []:=by
 unfold xm at h
 refine Goes.fnW Tryz.func177 rfl rfl (m:=18) rfl (rs:=[.tmp 2]) rfl (l:=[(0,vl encI vals)]) rfl ?_
 refine sh fol [(0,vl encI vals)] ?_
 refine sh fol [(0,vl encI vals),(3,.i 0)] ?_
 refine sq ?_
 refine sh fol ((3,.i 0)::(6,vl encI vals)::(kAU (vals.length:Int))) ?_
 refine Goes.block ?_
 obtain⟨r2,g2,h⟩:=bnd h
 refine Goes.imp (Q:=fun x s'=>(x= .exit 0∧(.inl ())=r2∧Sub s' (ofG 18 [(3,.i 0)],[]))∨(x= .ret∧ ∃q3,(.inr q3)=r2∧qJ Tryz.prog [.tmp 2] (.i q3) .ret s')) ?_ ?_
 ·refine Goes.loopS (fun M s=> ∃(n1:Int),s=(ofG 18 ((3,.i 0)::(6,vl encI vals)::(kP (vals.length:Int) n1)),[])∧zY vals M n1=some r2) ?_ (m:=N) ⟨_,rfl,g2⟩
  rintro M s ⟨n1,rfl,g2⟩
  cases M with
  |zero=>simp only[zY]at g2;cases g2
  |succ M=>
   rw[zY]at g2
   refine sh fol ((3,.i 0)::(6,vl encI vals)::(kAa (vals.length:Int) n1 (decide (n1<(vals.length:Int))))) ?_
   refine sq ?_
   refine ihD g2 (fun c4 g2=>?_) (fun c4 g2=>?_)
   ·refine Goes.skip ?_
    refine sq (Goes.block ?_)
    obtain⟨x5,e_x5,g2⟩:=bnd g2
    refine sq (gr fol [0,1] ((3,.i 0)::(5,.i x5)::(6,vl encI vals)::(kP (vals.length:Int) n1)) (ac (iv sl24 encI e_x5) (ac (lv 0 ce3 encI e_x5 rfl) az)) ?_)
    refine sh fol [(3,.i 0),(5,.i x5),(6,vl encI vals),(7,.i (vals.length:Int)),(8,.i n1),(14,.bool (!decide (x5=0)))] ?_
    refine ihB g2 (fun c6 g2=>?_) (fun c6 g2=>?_)
    ·refine sh fol [(2,.i x5)] ?_
     refine Goes.ret ?_
     obtain rfl:=si g2
     exact Or.inr (⟨rfl,_,rfl,(gw2 [.i x5] (FzW.still tI))⟩)
    ·refine Goes.skip ?_
     refine gh fol ((3,.i 0)::(6,vl encI vals)::(kP (vals.length:Int) (w64 (n1+1)))) ?_
     exact⟨M,(ofG 18 ((3,.i 0)::(6,vl encI vals)::(kP (vals.length:Int) (w64 (n1+1)))),[]),Nat.lt_succ_self _,(Sub.refl _),_,rfl,g2⟩
   ·refine Goes.exit ?_
    obtain rfl:=si g2
    exact Or.inl (⟨rfl,rfl,(Sub.keep [3] rfl rfl)⟩)
 rintro x s' (⟨rfl,rfl,hsub⟩|⟨rfl,q7,rfl,hret⟩)
 ·try dsimp only at h
  refine Goes.sub hsub ?_
  refine sh fol [(2,.i 0)] ?_
  refine Goes.ret ?_
  obtain rfl:=si h
  exact(gw2 [.i 0] (FzW.still tI))
 ·try dsimp only at h
  obtain rfl:=si h
  exact hret
def cmp_isNaN_string (x_:Str):Option Bool:=
 some (!(x_==x_))
theorem yV (x_:Str) {res:Bool} (h:cmp_isNaN_string x_=some res):qc Tryz.prog (.fn 205) [.str x_] [] (.bool res) []:=by
 unfold cmp_isNaN_string at h
 refine Goes.fnW Tryz.func205 rfl rfl (m:=6) rfl (rs:=[.tmp 2]) rfl (l:=(kAH x_ [])) rfl ?_
 refine sh fol (kAH x_ []) ?_
 refine sh fol [(2,.bool (!(x_==x_)))] ?_
 refine Goes.ret ?_
 obtain rfl:=si h
 exact(gw2 [.bool (!(x_==x_))] (FzW.still tB))
def ja (x_:Str) (y:Str):Option Int:=
 (cmp_isNaN_string x_).bind fun r1=>
 (cmp_isNaN_string y).bind fun r2=>
 if r1=true then
 if r2=true then
 some 0
 else
 some (-1)
 else
 if r2=true then
 some 1
 else
 if(ltL x_ y)=true then
 some (-1)
 else
 if(!(ltL x_ y||x_==y))=true then
 some 1
 else
 some 0
theorem qay (x_:Str) (y:Str) {res:Int} (h:ja x_ y=some res):qc Tryz.prog (.fn 178) [.str x_,.str y] [] (.i res) []:=by
 unfold ja at h
 refine Goes.fnW Tryz.func178 rfl rfl (m:=20) rfl (rs:=[.tmp 4]) rfl (l:=(kM x_ y [])) rfl ?_
 refine sh fol (kM x_ y []) ?_
 obtain⟨r1,e_r1,h⟩:=bnd h
 refine sq (gr fol [1] (kM x_ y [(5,.bool r1)]) (ac (cv (yV x_ e_r1)) az) ?_)
 obtain⟨r2,e_r2,h⟩:=bnd h
 refine sq (gr fol [1] (kM x_ y [(5,.bool r1),(6,.bool r2)]) (ac (cv (yV y e_r2)) az) ?_)
 refine sq ?_
 refine sh fol (kM x_ y [(6,.bool r2),(11,.bool r1)]) ?_
 refine ihB h (fun c3 h=>?_) (fun c3 h=>?_)
 ·refine sq ?_
  refine sh fol [(12,.bool r2)] ?_
  refine ihB h (fun c4 h=>?_) (fun c4 h=>?_)
  ·refine sh fol [(4,.i 0)] ?_
   refine Goes.ret ?_
   obtain rfl:=si h
   exact(gw2 [.i 0] (FzW.still tI))
  ·refine Goes.skip ?_
   refine sh fol [(4,.i (-1))] ?_
   refine Goes.ret ?_
   obtain rfl:=si h
   exact(gw2 [.i (-1)] (FzW.still tI))
 ·refine Goes.skip ?_
  refine sq ?_
  refine sh fol (kM x_ y [(13,.bool r2)]) ?_
  refine ihB h (fun c5 h=>?_) (fun c5 h=>?_)
  ·refine sh fol [(4,.i 1)] ?_
   refine Goes.ret ?_
   obtain rfl:=si h
   exact(gw2 [.i 1] (FzW.still tI))
  ·refine Goes.skip ?_
   refine sq ?_
   refine sh fol (kM x_ y [(16,.bool (ltL x_ y))]) ?_
   refine ihB h (fun c6 h=>?_) (fun c6 h=>?_)
   ·refine sh fol [(4,.i (-1))] ?_
    refine Goes.ret ?_
    obtain rfl:=si h
    exact(gw2 [.i (-1)] (FzW.still tI))
   ·refine Goes.skip ?_
    refine sq ?_
    refine sh fol [(19,.bool (!(ltL x_ y||x_==y)))] ?_
    refine ihB h (fun c7 h=>?_) (fun c7 h=>?_)
    ·refine sh fol [(4,.i 1)] ?_
     refine Goes.ret ?_
     obtain rfl:=si h
     exact(gw2 [.i 1] (FzW.still tI))
    ·refine Goes.skip ?_
     refine sh fol [(4,.i 0)] ?_
     refine Goes.ret ?_
     obtain rfl:=si h
     exact(gw2 [.i 0] (FzW.still tI))
def zh (N:Nat) (m:qj) (o:qj):Option Int:=
 (ja m.Desk o.Desk).bind fun r1=>
 (cmp_Compare_int m.Number o.Number).bind fun r2=>
 (xm N ([r1,r2]:List Int)).bind fun r3=>
 some r3
theorem jJ (N:Nat) (m:qj) (o:qj) {res:Int} (h:zh N m o=some res):qc Tryz.prog (.fn 131) [.agg [.str m.Desk,.i m.Number],.agg [.str o.Desk,.i o.Number]] [] (.i res) []:=by
 unfold zh at h
 refine Goes.fnW Tryz.func131 rfl rfl (m:=17) rfl (rs:=[.tmp 4]) rfl (l:=[(0,.agg [.str m.Desk,.i m.Number]),(1,.agg [.str o.Desk,.i o.Number])]) rfl ?_
 refine sg fol (kAO [(3,.ptr 1 0)]) (kAC m.Desk m.Number (kAC o.Desk o.Number [])) ?_
 obtain⟨r1,e_r1,h⟩:=bnd h
 obtain⟨r2,e_r2,h⟩:=bnd h
 obtain⟨r3,e_r3,h⟩:=bnd h
 refine sq (gq fol [4,9,11] [(4,.i r3)] (kAC m.Desk m.Number (kAC o.Desk o.Number (kAB r1 r2))) (ac (cv (qay m.Desk o.Desk e_r1)) (ac (cv (qbu m.Number o.Number e_r2)) (ac (hs (.call 177 [.slice 2 0 2 2 1] (kAC m.Desk m.Number (kAC o.Desk o.Number (kAB r1 r2))) [2] [vl encI ([r1,r2]:List Int)] (.i r3)) (vH (FzL.cons (Fz.lit rfl rfl (FzL.still (AllST.cons tI (AllST.cons tI AllST.nil)))) FzL.nil) (qdU N ([r1,r2]:List Int) e_r3) tI rfl)) az))) ?_)
 refine Goes.ret ?_
 obtain rfl:=si h
 exact(gw2 [.i r3] (FzW.still tI))
def jr (n:Int) (low:Int) (high:Int):Option Int:=
 (if n<low then
 (ku true 3).bind fun r2=>
 some r2
 else
 (ku (decide (n>high)) 3).bind fun r3=>
 some r3:Option Int).bind fun n4=>
 some n4
theorem vC (n:Int) (low:Int) (high:Int) {res:Int} (h:jr n low high=some res):qc Tryz.prog (.fn 87) [.i n,.i low,.i high] [] (.i res) []:=by
 unfold jr at h
 refine Goes.fnW Tryz.func87 rfl rfl (m:=16) rfl (rs:=[.tmp 6]) rfl (l:=[(0,.i n),(1,.i low),(2,.i high)]) rfl ?_
 refine sh fol [(0,.i n),(1,.i low),(2,.i high)] ?_
 refine sq ?_
 obtain⟨n4,g_v5,h⟩:=bnd h
 refine Goes.cut (s':=(ofG 16 [(6,.i n4)],[])) ?_ ?_
 ·rcases wyD g_v5 with⟨c1,g_v5⟩|⟨c1,g_v5⟩
  ·obtain⟨r2,e_r2,g_v5⟩:=bnd g_v5
   obtain rfl:=si g_v5
   exact tr fol [3,8] [(6,.i r2)] (ac (gw c1) (ac (cv (qF true 3 e_r2)) az))
  ·obtain⟨r3,e_r3,g_v5⟩:=bnd g_v5
   obtain rfl:=si g_v5
   exact tr fol [3,8] [(6,.i r3)] (ac (gw c1) (ac (cv (qF (decide (n>high)) 3 e_r3)) az))
 refine Goes.ret ?_
 obtain rfl:=si h
 exact(gw2 [.i n4] (FzW.still tI))
def jg (c:Int):Option Bool:=
 (if c≥97 then
 if c≤122 then
 some true
 else
 if c≥65 then
 some (decide (c≤90))
 else
 some false
 else
 if c≥65 then
 some (decide (c≤90))
 else
 some false:Option Bool).bind fun b5=>
 some b5
theorem je (c:Int) {res:Bool} (h:jg c=some res):qc Tryz.prog (.fn 183) [.int .i32 c] [] (.bool res) []:=by
 unfold jg at h
 refine Goes.fnW Tryz.func183 rfl rfl (m:=17) rfl (rs:=[.tmp 2]) rfl (l:=[(0,.int .i32 c)]) rfl ?_
 refine sh fol [(0,.int .i32 c)] ?_
 refine sq ?_
 obtain⟨b5,g_v6,h⟩:=bnd h
 refine Goes.cut (s':=(ofG 17 [(2,.bool b5)],[])) ?_ ?_
 ·rcases wyD g_v6 with⟨c1,g_v6⟩|⟨c1,g_v6⟩
  ·rcases wyD g_v6 with⟨c2,g_v6⟩|⟨c2,g_v6⟩
   ·obtain rfl:=si g_v6
    exact tr fol [2,6] [(2,.bool true)] (ac (gw c1) (ac (gw c2) az))
   ·rcases wyD g_v6 with⟨c3,g_v6⟩|⟨c3,g_v6⟩
    ·obtain rfl:=si g_v6
     exact tr fol [2,6,9] [(2,.bool (decide (c≤90)))] (ac (gw c1) (ac (gw c2) (ac (gw c3) az)))
    ·obtain rfl:=si g_v6
     exact tr fol [2,6,9] kAZ (ac (gw c1) (ac (gw c2) (ac (gw c3) az)))
  ·rcases wyD g_v6 with⟨c4,g_v6⟩|⟨c4,g_v6⟩
   ·obtain rfl:=si g_v6
    exact tr fol [2,9] [(2,.bool (decide (c≤90)))] (ac (gw c1) (ac (gw c4) az))
   ·obtain rfl:=si g_v6
    exact tr fol [2,9] kAZ (ac (gw c1) (ac (gw c4) az))
 refine Goes.ret ?_
 obtain rfl:=si h
 exact(gw2 [.bool b5] (FzW.still tB))
def zJ (s_:Str):Nat→Nat→Option (Unit⊕Bool)
 |0,_=>none
 |K+1,k1=>
  if k1<s_.length then
  ((jg (jb s_ k1)).bind fun r5=>
  if(!r5)=true then
  if(k1:Int)=0 then
  some true
  else
  if(!decide ((jb s_ k1)=95))=true then
  if(jb s_ k1)<48 then
  some true
  else
  some (decide ((jb s_ k1)>57))
  else
  some false
  else
  some false:Option Bool).bind fun b10=>
  if b10=true then
  some (.inr false)
  else
  zJ s_ K (k1+runeLen s_ k1)
  else
  some (.inl ())
def vN (N:Nat) (s_:Str):Option Bool:=
 (zJ s_ N 0).bind (fun
 |(.inl ())=>
 (if(!(s_==[]))=true then
 some (decide ((s_.length:Int)≤24))
 else
 some false:Option Bool).bind fun b14=>
 some b14
 |(.inr q16)=>
 some q16)
theorem qcg (N:Nat) (s_:Str) {res:Bool} (h:vN N s_=some res):qc Tryz.prog (.fn 146) [.str s_] [] (.bool res) []:=by
 unfold vN at h
 refine Goes.fnW Tryz.func146 rfl rfl (m:=37) rfl (rs:=[.tmp 2]) rfl (l:=(kAH s_ [])) rfl ?_
 refine sh fol (kAH s_ []) ?_
 refine sq ?_
 refine sg fol (kAH s_ (kAd [])) [.iter s_ 0] ?_
 refine Goes.block ?_
 obtain⟨r2,g2,h⟩:=bnd h
 refine Goes.imp (Q:=fun x s'=>(x= .exit 0∧(.inl ())=r2∧Sub s' (ofG 37 (kAH s_ []),[]))∨(x= .ret∧ ∃q3,(.inr q3)=r2∧qJ Tryz.prog [.tmp 2] (.bool q3) .ret s')) ?_ ?_
 ·refine Goes.sub (s':=(ofG 37 (kAH s_ (kAd [])),[.iter s_ 0])) (Sub.keep [0,6] rfl rfl) ?_
  refine Goes.loopS (fun M s=> ∃(k1:Nat),s=(ofG 37 (kAH s_ (kAd [])),[.iter s_ k1])∧zJ s_ M k1=some r2) ?_ (m:=N) ⟨_,rfl,g2⟩
  rintro M s ⟨k1,rfl,g2⟩
  cases M with
  |zero=>simp only[zJ]at g2;cases g2
  |succ M=>
   rw[zJ]at g2
   refine sq ?_
   rcases Classical.em (k1<s_.length)with c4|c4
   ·rw[if_pos c4]at g2
    refine gq fol [0] (kAH s_ (kAd [(7,.tuple [.bool true,.i (k1:Int),.int .i32 (jb s_ k1)]),(8,.bool true)])) [.iter s_ (k1+runeLen s_ k1)] (ac (hs (.run [0] (qaJ (.ptr 0 0) true) [.iter s_ k1] (.tuple [.bool true,.i (k1:Int),.int .i32 (jb s_ k1)]) [.iter s_ (k1+runeLen s_ k1)] true) (qd7 rfl c4 rfl)) az) ?_
    refine sq ?_
    refine Goes.ifB (b:=true) (by kernel_rfl) (fun _=>?_) (fun c=>(by cases c))
    refine Goes.skip ?_
    refine Goes.block ?_
    refine sh fol (kAH s_ ((3,.i (k1:Int))::(4,.int .i32 (jb s_ k1))::(kAd []))) ?_
    refine sq ?_
    obtain⟨b10,g_v11,g2⟩:=bnd g2
    refine Goes.cut (s':=(ofG 37 (kAH s_ (kAd [(29,.bool b10)])),[.iter s_ (k1+runeLen s_ k1)])) ?_ ?_
    ·obtain⟨r5,e_r5,g_v11⟩:=bnd g_v11
     rcases wyB g_v11 with⟨c6,g_v11⟩|⟨c6,g_v11⟩
     ·rcases wyD g_v11 with⟨c7,g_v11⟩|⟨c7,g_v11⟩
      ·obtain rfl:=si g_v11
       exact tr fol [1,3,6] (kAH s_ (kAd [(29,.bool true)])) (ac (cv (je (jb s_ k1) e_r5)) (ac (gw c6) (ac (gw c7) az)))
      ·rcases wyB g_v11 with⟨c8,g_v11⟩|⟨c8,g_v11⟩
       ·rcases wyD g_v11 with⟨c9,g_v11⟩|⟨c9,g_v11⟩
        ·obtain rfl:=si g_v11
         exact tr fol [1,3,6,9,12] (kAH s_ (kAd [(29,.bool true)])) (ac (cv (je (jb s_ k1) e_r5)) (ac (gw c6) (ac (gw c7) (ac (gw c8) (ac (gw c9) az)))))
        ·obtain rfl:=si g_v11
         exact tr fol [1,3,6,9,12] (kAH s_ (kAd [(29,.bool (decide ((jb s_ k1)>57)))])) (ac (cv (je (jb s_ k1) e_r5)) (ac (gw c6) (ac (gw c7) (ac (gw c8) (ac (gw c9) az)))))
       ·obtain rfl:=si g_v11
        exact tr fol [1,3,6,9] (kAH s_ (kAd [(29,.bool false)])) (ac (cv (je (jb s_ k1) e_r5)) (ac (gw c6) (ac (gw c7) (ac (gw c8) az))))
     ·obtain rfl:=si g_v11
      exact tr fol [1,3] (kAH s_ (kAd [(29,.bool false)])) (ac (cv (je (jb s_ k1) e_r5)) (ac (gw c6) az))
    refine ihB g2 (fun c12 g2=>?_) (fun c12 g2=>?_)
    ·refine sh fol kAZ ?_
     refine Goes.ret ?_
     obtain rfl:=si g2
     exact Or.inr (⟨rfl,_,rfl,(gw2 [.bool false] (FzW.still tB))⟩)
    ·refine Goes.skip ?_
     exact⟨M,(ofG 37 (kAH s_ (kAd [])),[.iter s_ (k1+runeLen s_ k1)]),Nat.lt_succ_self _,(Sub.keep [0,6] rfl rfl),_,rfl,g2⟩
   ·rw[if_neg c4]at g2
    refine gr fol [0] (kAH s_ (kAd [(7,.tuple [.bool false]),(8,.bool false)])) (ac (hs (.run [0] (qaJ (.ptr 0 0) true) [.iter s_ k1] (.tuple [.bool false]) [.iter s_ k1] false) (qej rfl c4)) az) ?_
    refine sq ?_
    refine Goes.ifB (b:=false) (by kernel_rfl) (fun c=>(by cases c)) (fun _=>?_)
    refine Goes.exit ?_
    obtain rfl:=si g2
    exact Or.inl (⟨rfl,rfl,(Sub.norm [] [] rfl rfl (.keep (.same nS) .nil) .nil)⟩)
 rintro x s' (⟨rfl,rfl,hsub⟩|⟨rfl,q16,rfl,hret⟩)
 ·try dsimp only at h
  refine Goes.sub hsub ?_
  refine sq ?_
  obtain⟨b14,g_v15,h⟩:=bnd h
  refine Goes.cut (s':=(ofG 37 [(2,.bool b14)],[])) ?_ ?_
  ·rcases wyB g_v15 with⟨c13,g_v15⟩|⟨c13,g_v15⟩
   ·obtain rfl:=si g_v15
    exact tr fol [2] [(2,.bool (decide ((s_.length:Int)≤24)))] (ac (gw c13) az)
   ·obtain rfl:=si g_v15
    exact tr fol [2] kAZ (ac (gw c13) az)
  refine Goes.ret ?_
  obtain rfl:=si h
  exact(gw2 [.bool b14] (FzW.still tB))
 ·try dsimp only at h
  obtain rfl:=si h
  exact hret
def ym (N:Nat) (s_:Str):Option Int:=
 (vN N s_).bind fun r1=>
 (ku (!r1) 8).bind fun r2=>
 some r2
theorem qaw (N:Nat) (s_:Str) {res:Int} (h:ym N s_=some res):qc Tryz.prog (.fn 89) [.str s_] [] (.i res) []:=by
 unfold ym at h
 refine Goes.fnW Tryz.func89 rfl rfl (m:=7) rfl (rs:=[.tmp 2]) rfl (l:=(kAH s_ [])) rfl ?_
 refine sh fol (kAH s_ []) ?_
 obtain⟨r1,e_r1,h⟩:=bnd h
 obtain⟨r2,e_r2,h⟩:=bnd h
 refine sq (gr fol [1,3] [(2,.i r2)] (ac (cv (qcg N s_ e_r1)) (ac (cv (qF (!r1) 8 e_r2)) az)) ?_)
 refine Goes.ret ?_
 obtain rfl:=si h
 exact(gw2 [.i r2] (FzW.still tI))
def xw (a0_:qao) (a1_:Str):Option Bool:=
 some (!(ltL a0_.Name a1_))
def jT (a0_:List qao) (a1_:Str):Nat→Int→Option (Unit⊕Int)
 |0,_=>none
 |K+1,n1=>
  if n1<(a0_.length:Int)then
  (idx a0_ n1).bind fun x5=>
  (xw x5 a1_).bind fun r6=>
  if r6=true then
  some (.inr n1)
  else
  jT a0_ a1_ K (w64 (n1+1))
  else
  some (.inl ())
def xC (N:Nat) (a0_:List qao) (a1_:Str):Option Int:=
 (jT a0_ a1_ N 0).bind (fun
 |(.inl ())=>
 some (-1)
 |(.inr q8)=>
 some q8)
def qfe (N:Nat) (r:qeq) (name:Str):Option (Int×Bool):=
 (xC N r.Slings name).bind fun r1=>
 if r1<0 then
 some ((r.Slings.length:Int),false)
 else
 (idx r.Slings r1).bind fun x3=>
 some (r1,x3.Name==name)
def qhU (n:Int):Option Int:=
 (jr n 0 99999).bind fun r1=>
 some r1
def qfE (s_:qao) (day:Int):Option Bool:=
 (if s_.Gone=true then
 some true
 else
 if day>s_.Last then
 some true
 else
 some (decide (s_.Used=s_.Uses)):Option Bool).bind fun b3=>
 some b3
def qgO (s_:qao) (day:Int):Option Bool:=
 (if s_.Limit>0 then
 some (decide (day≤s_.Until))
 else
 some false:Option Bool).bind fun b2=>
 some b2
def yY:Option Unit:=
 some ()
theorem zT {res:Unit} (h:yY=some res):qc Tryz.prog (.fn 85) [] [] (fm1) []:=by
 unfold yY at h
 refine Goes.fnW Tryz.func85 rfl rfl (m:=9) rfl (rs:=[.tmp 0]) rfl (l:=[]) rfl ?_
 refine sh fol [] ?_
 refine sg fol [(0,.map 0)] [.map kAL [.agg [.i 2,.i 3,.func (.func 141) [] []],.agg [.i 1,.i 2,.func (.func 142) [] []],.agg [.i 1,.i 2,.func (.func 143) [] []],.agg [.i 1,.i 1,.func (.func 144) [] []],.agg [.i 1,.i 1,.func (.func 145) [] []],.agg [.i 0,.i 0,.nilfunc]]] ?_
 refine Goes.ret ?_
 obtain rfl:=si h
 exact(gw2 [.map 0] (FzW.of (by kernel_rfl)))
def stringslite_IndexByte (s_:Str) (c:Int):Option Int:=
 (qeH s_ c).bind fun r1=>
 some r1
theorem xI (s_:Str) (c:Int) {res:Int} (h:stringslite_IndexByte s_ c=some res):qc Tryz.prog (.fn 173) [.str s_,.int .u8 c] [] (.i res) []:=by
 unfold stringslite_IndexByte at h
 refine Goes.fnW Tryz.func173 rfl rfl (m:=8) rfl (rs:=[.tmp 4]) rfl (l:=(kAH s_ [(1,.int .u8 c)])) rfl ?_
 refine sh fol (kAH s_ [(1,.int .u8 c)]) ?_
 obtain⟨r1,e_r1,h⟩:=bnd h
 refine sq (gr fol [2] [(4,.i r1)] (ac (cv (qhk s_ c e_r1)) az) ?_)
 refine Goes.ret ?_
 obtain rfl:=si h
 exact(gw2 [.i r1] (FzW.still tI))
def bytealg_Cutover (n:Int):Option Int:=
 some (w64 ((w64 (n+16)).tdiv 8))
def stringslite_Index (s_:Str) (substr:Str):Option Int:=
 (if(substr.length:Int)=0 then
 some true
 else
 some (substr==s_):Option Bool).bind fun b2=>
 if b2=true then
 some 0
 else
 if(substr.length:Int)=1 then
 (idx substr 0).bind fun c6=>
 (stringslite_IndexByte s_ (c6.toNat:Int)).bind fun r7=>
 some r7
 else
 if(substr.length:Int)≥(s_.length:Int)then
 some (-1)
 else
 none
theorem qaK (s_:Str) (substr:Str) {res:Int} (h:stringslite_Index s_ substr=some res):qc Tryz.prog (.fn 130) [.str s_,.str substr] [] (.i res) []:=by
 unfold stringslite_Index at h
 refine Goes.fnW Tryz.func130 rfl rfl (m:=143) rfl (rs:=[.tmp 4]) rfl (l:=(kM s_ substr [])) rfl ?_
 refine sh fol (kM s_ substr []) ?_
 refine sh fol (kM s_ substr (kAY (substr.length:Int))) ?_
 refine sq (Goes.block ?_)
 refine sq ?_
 obtain⟨b2,g_v3,h⟩:=bnd h
 refine Goes.cut (s':=(ofG 143 (kM s_ substr [(5,.i (substr.length:Int)),(16,.bool b2)]),[])) ?_ ?_
 ·rcases wyD g_v3 with⟨c1,g_v3⟩|⟨c1,g_v3⟩
  ·obtain rfl:=si g_v3
   exact tr fol [2] (kM s_ substr [(5,.i (substr.length:Int)),(16,.bool true)]) (ac (gw c1) az)
  ·obtain rfl:=si g_v3
   exact tr fol [2] (kM s_ substr [(5,.i (substr.length:Int)),(16,.bool (substr==s_))]) (ac (gw c1) az)
 refine ihB h (fun c4 h=>?_) (fun c4 h=>?_)
 ·refine sh fol [(4,.i 0)] ?_
  refine Goes.ret ?_
  obtain rfl:=si h
  exact(gw2 [.i 0] (FzW.still tI))
 ·refine sh fol (kM s_ substr [(5,.i (substr.length:Int)),(24,.bool (decide ((substr.length:Int)=1)))]) ?_
  refine ihD h (fun c5 h=>?_) (fun c5 h=>?_)
  ·obtain⟨c6,e_c6,h⟩:=bnd h
   obtain⟨r7,e_r7,h⟩:=bnd h
   refine sq (gr fol [2,3] [(4,.i r7)] (ac (hs (.done (.opt (vw Tryz.prog 9 (.str substr) (.i 0))) (.int .u8 (c6.toNat:Int))) (xn st9 e_c6)) (ac (cv (xI s_ (c6.toNat:Int) e_r7)) az)) ?_)
   refine Goes.ret ?_
   obtain rfl:=si h
   exact(gw2 [.i r7] (FzW.still tI))
  ·refine sh fol (kM s_ substr [(5,.i (substr.length:Int)),(31,.bool (decide ((substr.length:Int)≥(s_.length:Int))))]) ?_
   refine ihD h (fun c8 h=>?_) (fun c8 h=>?_)
   ·refine sh fol [(4,.i (-1))] ?_
    refine Goes.ret ?_
    obtain rfl:=si h
    exact(gw2 [.i (-1)] (FzW.still tI))
   ·cases h
def strings_Index (s_:Str) (substr:Str):Option Int:=
 (stringslite_Index s_ substr).bind fun r1=>
 some r1
theorem xW (s_:Str) (substr:Str) {res:Int} (h:strings_Index s_ substr=some res):qc Tryz.prog (.fn 67) [.str s_,.str substr] [] (.i res) []:=by
 unfold strings_Index at h
 refine Goes.fnW Tryz.func67 rfl rfl (m:=8) rfl (rs:=[.tmp 4]) rfl (l:=(kM s_ substr [])) rfl ?_
 refine sh fol (kM s_ substr []) ?_
 obtain⟨r1,e_r1,h⟩:=bnd h
 refine sq (gr fol [2] [(4,.i r1)] (ac (cv (qaK s_ substr e_r1)) az) ?_)
 refine Goes.ret ?_
 obtain rfl:=si h
 exact(gw2 [.i r1] (FzW.still tI))
def zg (s_:Str):Nat→Nat→Int→Option Int
 |0,_,_=>none
 |K+1,k1,n2=>
  if k1<s_.length then
  zg s_ K (k1+runeLen s_ k1) (w64 (n2+1))
  else
  some n2
def utf8_RuneCountInString (N:Nat) (s_:Str):Option Int:=
 (zg s_ N 0 0).bind fun n3=>
 some n3
theorem vG (N:Nat) (s_:Str) {res:Int} (h:utf8_RuneCountInString N s_=some res):qc Tryz.prog (.fn 229) [.str s_] [] (.i res) []:=by
 unfold utf8_RuneCountInString at h
 refine Goes.fnW Tryz.func229 rfl rfl (m:=10) rfl (rs:=[.tmp 2]) rfl (l:=(kAH s_ [])) rfl ?_
 refine sh fol (kAH s_ [(2,.i 0)]) ?_
 refine sq ?_
 refine sg fol [(2,.i 0),(4,.ptr 0 0)] [.iter s_ 0] ?_
 refine Goes.block ?_
 obtain⟨r4,g4,h⟩:=bnd h
 refine Goes.imp (Q:=fun x s'=>(x= .exit 0∧ ∃n3,n3=r4∧Sub s' (ofG 10 [(2,.i n3)],[]))) ?_ ?_
 ·refine Goes.sub (s':=(ofG 10 [(2,.i 0),(4,.ptr 0 0)],[.iter s_ 0])) (Sub.keep [2,4] rfl rfl) ?_
  refine Goes.loopS (fun M s=> ∃(k1:Nat) (n2:Int),s=(ofG 10 [(2,.i n2),(4,.ptr 0 0)],[.iter s_ k1])∧zg s_ M k1 n2=some r4) ?_ (m:=N) ⟨_,_,rfl,g4⟩
  rintro M s ⟨k1,n2,rfl,g4⟩
  cases M with
  |zero=>simp only[zg]at g4;cases g4
  |succ M=>
   rw[zg]at g4
   refine sq ?_
   rcases Classical.em (k1<s_.length)with c5|c5
   ·rw[if_pos c5]at g4
    refine gq fol [0] [(2,.i n2),(4,.ptr 0 0),(6,.bool true)] [.iter s_ (k1+runeLen s_ k1)] (ac (hs (.run [0] (qaJ (.ptr 0 0) true) [.iter s_ k1] (.tuple [.bool true,.i (k1:Int),.int .i32 (jb s_ k1)]) [.iter s_ (k1+runeLen s_ k1)] true) (qd7 rfl c5 rfl)) az) ?_
    refine sq ?_
    refine Goes.ifB (b:=true) (by kernel_rfl) (fun _=>?_) (fun c=>(by cases c))
    refine Goes.skip ?_
    refine Goes.block ?_
    refine gh fol [(2,.i (w64 (n2+1))),(4,.ptr 0 0)] ?_
    exact⟨M,(ofG 10 [(2,.i (w64 (n2+1))),(4,.ptr 0 0)],[.iter s_ (k1+runeLen s_ k1)]),Nat.lt_succ_self _,(Sub.keep [2,4] rfl rfl),_,_,rfl,g4⟩
   ·rw[if_neg c5]at g4
    refine gr fol [0] [(2,.i n2),(4,.ptr 0 0),(6,.bool false)] (ac (hs (.run [0] (qaJ (.ptr 0 0) true) [.iter s_ k1] (.tuple [.bool false]) [.iter s_ k1] false) (qej rfl c5)) az) ?_
    refine sq ?_
    refine Goes.ifB (b:=false) (by kernel_rfl) (fun c=>(by cases c)) (fun _=>?_)
    refine Goes.exit ?_
    obtain rfl:=si g4
    exact⟨rfl,_,rfl,(Sub.norm [] [] rfl rfl (.keep (.same nI) .nil) .nil)⟩
 rintro x s' ⟨rfl,n3,rfl,hsub⟩
 refine Goes.sub hsub ?_
 refine sh fol [(2,.i n3)] ?_
 refine Goes.ret ?_
 obtain rfl:=si h
 exact(gw2 [.i n3] (FzW.still tI))
def jO (n5:Int):Nat→Option Unit
 |0=>none
 |K+1=>
  if 0<(w64 (n5-1))then
  none
  else
  some ()
def yT (N:Nat) (s_:Str) (n:Int):Option (List Str):=
 (utf8_RuneCountInString N s_).bind fun r1=>
 (if n<0 then
 some true
 else
 some (decide (n>r1)):Option Bool).bind fun b3=>
 ((if b3=true then
 some r1
 else
 some n:Option Int)).bind fun n5=>
 (mk 16 n5 []).bind fun l8=>
 (jO n5 N).bind fun _=>
 ((if n5>0 then
 (idx l8 (w64 (n5-1))).bind fun x14=>
 (put l8 (w64 (n5-1)) s_).bind fun l15=>
 some l15
 else
 some l8:Option (List Str))).bind fun l11=>
 some l11
theorem qbz (N:Nat) (s_:Str) (n:Int) {res:List Str} (h:yT N s_ n=some res):qc Tryz.prog (.fn 191) [.str s_,.i n] [] (vl encS res) []:=by
 unfold yT at h
 refine Goes.fnW Tryz.func191 rfl rfl (m:=50) rfl (rs:=[.tmp 4]) rfl (l:=(kAH s_ [(1,.i n)])) rfl ?_
 refine sh fol (kAH s_ [(1,.i n)]) ?_
 obtain⟨r1,e_r1,h⟩:=bnd h
 refine sq (gr fol [1] (kAH s_ ((1,.i n)::(kAY r1))) (ac (cv (vG N s_ e_r1)) az) ?_)
 refine sq ?_
 refine sq ?_
 obtain⟨b3,g_v4,h⟩:=bnd h
 refine Goes.cut (s':=(ofG 50 (kAH s_ [(1,.i n),(5,.i r1),(18,.bool b3)]),[])) ?_ ?_
 ·rcases wyD g_v4 with⟨c2,g_v4⟩|⟨c2,g_v4⟩
  ·obtain rfl:=si g_v4
   exact tr fol [2] (kAH s_ [(1,.i n),(5,.i r1),(18,.bool true)]) (ac (gw c2) az)
  ·obtain rfl:=si g_v4
   exact tr fol [2] (kAH s_ [(1,.i n),(5,.i r1),(18,.bool (decide (n>r1)))]) (ac (gw c2) az)
 obtain⟨r6,g6,h⟩:=bnd h
 refine Goes.imp (Q:=fun x s'=>(x= .normal∧ ∃n5,n5=r6∧Sub s' (ofG 50 (kAH s_ [(1,.i n5)]),[]))) ?_ ?_
 ·refine ihB g6 (fun c7 g6=>?_) (fun c7 g6=>?_)
  ·refine gh fol (kAH s_ [(1,.i r1)]) ?_
   obtain rfl:=si g6
   exact⟨rfl,_,rfl,(Sub.refl _)⟩
  ·refine Goes.skip ?_
   obtain rfl:=si g6
   exact⟨rfl,_,rfl,(Sub.keep [0,1] rfl rfl)⟩
 rintro x s' ⟨rfl,n5,rfl,hsub⟩
 refine Goes.sub hsub ?_
 obtain⟨l8,e_l8,h⟩:=bnd h
 refine sq (gq fol [1] (kAH s_ ((1,.i n5)::(kAA l8 []))) (kG l8 []) (ac (hs (.run [] (vU Tryz.prog 23 (.i n5) (.i n5)) [] (.slice 0 0 l8.length l8.length 1) (kG l8 []) false) (qiU yu (E:=encS) (z:=[]) rfl (by kernel_rfl) e_l8 rfl)) az) ?_)
 refine sq ?_
 refine sh fol (kAH s_ ((1,.i n5)::(kAA l8 [(7,.i 0)]))) ?_
 refine Goes.block ?_
 obtain⟨r9,g9,h⟩:=bnd h
 refine Goes.imp (Q:=fun x s'=>(x= .exit 0∧()=r9∧Sub s' (ofG 50 (kAH s_ ((1,.i n5)::(kAA l8 []))),(kG l8 [])))) ?_ ?_
 ·refine Goes.loopS (fun M s=>s=(ofG 50 (kAH s_ ((1,.i n5)::(kAA l8 [(7,.i 0)]))),(kG l8 []))∧jO n5 M=some r9) ?_ (m:=N) ⟨rfl,g9⟩
  rintro M s ⟨rfl,g9⟩
  cases M with
  |zero=>simp only[jO]at g9;cases g9
  |succ M=>
   rw[jO]at g9
   refine sq ?_
   refine sh fol (kAH s_ ((1,.i n5)::(kAA l8 [(7,.i 0),(25,.bool (decide (0<(w64 (n5-1)))))]))) ?_
   refine ihD g9 (fun c10 g9=>?_) (fun c10 g9=>?_)
   ·cases g9
   ·refine Goes.exit ?_
    obtain rfl:=si g9
    exact⟨rfl,rfl,(Sub.keep [0,1,6] rfl rfl)⟩
 rintro x s' ⟨rfl,rfl,hsub⟩
 refine Goes.sub hsub ?_
 refine sq ?_
 refine sh fol (kAH s_ ((1,.i n5)::(kAA l8 [(43,.bool (decide (n5>0)))]))) ?_
 obtain⟨r12,g12,h⟩:=bnd h
 refine Goes.imp (Q:=fun x s'=>(x= .normal∧ ∃l11,l11=r12∧Sub s' (ofG 50 (kAA l11 []),(kG l11 [])))) ?_ ?_
 ·refine ihD g12 (fun c13 g12=>?_) (fun c13 g12=>?_)
  ·obtain⟨x14,e_x14,g12⟩:=bnd g12
   obtain⟨l15,e_l15,g12⟩:=bnd g12
   refine gq fol [4,5] (kAA l8 []) (kG l15 []) (ac (hs (.done (.opt (ql Tryz.prog 23 (.slice 0 0 l8.length l8.length 1) (.i (w64 (n5-1))))) (.ptr 0 ((w64 (n5-1):Int).toNat*1+0))) (qiL yu e_x14)) (ac (hs (.run [0] (qau Tryz.prog 9 (.ptr 0 ((w64 (n5-1):Int).toNat*1+0)) (.str s_)) (kG l8 []) .undef (kG l15 []) true) (qhe (E:=encS) (l:=l8) (y:=s_) rfl (show _=some 1 by kernel_rfl) rfl e_x14 rfl rfl rfl rfl rfl e_l15 rfl)) az)) ?_
   obtain rfl:=si g12
   exact⟨rfl,_,rfl,((show Sub (ofG 50 (kAA l8 []),(kG l15 [])) (ofG 50 (kAA l15 []),(kG l15 []))from(Sub.norm [] [some 0] rfl rfl (.keep (.sliceE rfl (qcQ e_l15)) .nil) (.ks .nil))).trans (Sub.refl _))⟩
  ·refine Goes.skip ?_
   obtain rfl:=si g12
   exact⟨rfl,_,rfl,(Sub.keep [6] rfl rfl)⟩
 rintro x s' ⟨rfl,l11,rfl,hsub⟩
 refine Goes.sub hsub ?_
 refine sh fol [(4,.slice 0 0 l11.length l11.length 1)] ?_
 refine Goes.ret ?_
 obtain rfl:=si h
 exact(gw2 [.slice 0 0 l11.length l11.length 1] (FzW.fz (Fz.sl (E:=encS) rfl rfl (nl rfl))))
def jy (substr:Str):Nat→Str→Int→Option Int
 |0,_,_=>none
 |K+1,s6,n7=>
  (strings_Index s6 substr).bind fun r10=>
  if r10=(-1)then
  some n7
  else
  (cut s6 (w64 (r10+(substr.length:Int))) (s6.length:Int)).bind fun s12=>
  jy substr K s12 (w64 (n7+1))
def strings_Count (N:Nat) (s_:Str) (substr:Str):Option Int:=
 if(substr.length:Int)=0 then
 (utf8_RuneCountInString N s_).bind fun r2=>
 some (w64 (r2+1))
 else
 if(substr.length:Int)=1 then
 (idx substr 0).bind fun c4=>
 (qe2 s_ (c4.toNat:Int)).bind fun r5=>
 some r5
 else
 (jy substr N s_ 0).bind fun q13=>
 some q13
theorem qci (N:Nat) (s_:Str) (substr:Str) {res:Int} (h:strings_Count N s_ substr=some res):qc Tryz.prog (.fn 192) [.str s_,.str substr] [] (.i res) []:=by
 unfold strings_Count at h
 refine Goes.fnW Tryz.func192 rfl rfl (m:=34) rfl (rs:=[.tmp 4]) rfl (l:=(kM s_ substr [])) rfl ?_
 refine sh fol (kM s_ substr []) ?_
 refine sq ?_
 refine sh fol (kM s_ substr [(9,.bool (decide ((substr.length:Int)=0)))]) ?_
 refine ihD h (fun c1 h=>?_) (fun c1 h=>?_)
 ·obtain⟨r2,e_r2,h⟩:=bnd h
  refine sq (gr fol [1] [(4,.i (w64 (r2+1)))] (ac (cv (vG N s_ e_r2)) az) ?_)
  refine Goes.ret ?_
  obtain rfl:=si h
  exact(gw2 [.i (w64 (r2+1))] (FzW.still tI))
 ·refine Goes.skip ?_
  refine sq ?_
  refine sh fol (kM s_ substr [(15,.bool (decide ((substr.length:Int)=1)))]) ?_
  refine ihD h (fun c3 h=>?_) (fun c3 h=>?_)
  ·obtain⟨c4,e_c4,h⟩:=bnd h
   obtain⟨r5,e_r5,h⟩:=bnd h
   refine sq (gr fol [2,3] [(4,.i r5)] (ac (hs (.done (.opt (vw Tryz.prog 9 (.str substr) (.i 0))) (.int .u8 (c4.toNat:Int))) (xn st9 e_c4)) (ac (cv (qhQ s_ (c4.toNat:Int) e_r5)) az)) ?_)
   refine Goes.ret ?_
   obtain rfl:=si h
   exact(gw2 [.i r5] (FzW.still tI))
  ·refine Goes.skip ?_
   refine sh fol (kM s_ substr [(5,.i 0)]) ?_
   refine Goes.block ?_
   obtain⟨r8,g8,h⟩:=bnd h
   refine Goes.imp (Q:=fun x s'=>(x= .ret∧ ∃q9,q9=r8∧qJ Tryz.prog [.tmp 4] (.i q9) .ret s')) ?_ ?_
   ·refine Goes.loopS (fun M s=> ∃(s6:Str) (n7:Int),s=(ofG 34 (kM s6 substr (kAY n7)),[])∧jy substr M s6 n7=some r8) ?_ (m:=N) ⟨_,_,rfl,g8⟩
    rintro M s ⟨s6,n7,rfl,g8⟩
    cases M with
    |zero=>simp only[jy]at g8;cases g8
    |succ M=>
     rw[jy]at g8
     refine Goes.block ?_
     obtain⟨r10,e_r10,g8⟩:=bnd g8
     refine sq (gr fol [2] (kM s6 substr [(5,.i n7),(6,.i r10)]) (ac (cv (xW s6 substr e_r10)) az) ?_)
     refine sq ?_
     refine sh fol (kM s6 substr [(5,.i n7),(6,.i r10),(24,.bool (decide (r10=(-1))))]) ?_
     refine ihD g8 (fun c11 g8=>?_) (fun c11 g8=>?_)
     ·refine sh fol [(4,.i n7)] ?_
      refine Goes.ret ?_
      obtain rfl:=si g8
      exact⟨rfl,_,rfl,(gw2 [.i n7] (FzW.still tI))⟩
     ·refine Goes.skip ?_
      refine sh fol (kM s6 substr [(5,.i (w64 (n7+1))),(6,.i r10)]) ?_
      obtain⟨s12,e_s12,g8⟩:=bnd g8
      refine gr fol [5] (kM s12 substr (kAY (w64 (n7+1)))) (ac (hs (.done (.opt (vo Tryz.prog 9 (.str s6) (some (.i (w64 (r10+(substr.length:Int))))) none none)) (.str s12)) (qe3 st9 (some (w64 (r10+(substr.length:Int)))) none e_s12)) az) ?_
      exact⟨M,(ofG 34 (kM s12 substr (kAY (w64 (n7+1)))),[]),Nat.lt_succ_self _,(Sub.refl _),_,_,rfl,g8⟩
   rintro x s' ⟨rfl,q13,rfl,hret⟩
   obtain rfl:=si h
   exact hret
def ko (s_:Str) (sep:Str) (sepSave:Int) (n4:Int):Nat→(List Str)→Str→Int→Option ((List Str)×Str×Int)
 |0,_,_,_=>none
 |K+1,l9,s10,n11=>
  if n11<(w64 ((if(w64 ((s_.length:Int)+1))<n4 then(w64 ((s_.length:Int)+1))else n4)-1))then
  (strings_Index s10 sep).bind fun r17=>
  if r17<0 then
  some (l9,s10,n11)
  else
  (cut s10 0 (w64 (r17+sepSave))).bind fun s19=>
  (idx l9 n11).bind fun x20=>
  (put l9 n11 s19).bind fun l21=>
  (cut s10 (w64 (r17+(sep.length:Int))) (s10.length:Int)).bind fun s22=>
  ko s_ sep sepSave n4 K l21 s22 (w64 (n11+1))
  else
  some (l9,s10,n11)
def strings_genSplit (N:Nat) (s_:Str) (sep:Str) (sepSave:Int) (n:Int):Option (List Str):=
 if n=0 then
 some []
 else
 if(sep==[])=true then
 (yT N s_ n).bind fun r3=>
 some r3
 else
 ((if n<0 then
 (strings_Count N s_ sep).bind fun r7=>
 some (w64 (r7+1))
 else
 some n:Option Int)).bind fun n4=>
 (mk 16 (if(w64 ((s_.length:Int)+1))<n4 then(w64 ((s_.length:Int)+1))else n4) []).bind fun l8=>
 (ko s_ sep sepSave n4 N l8 s_ 0).bind fun(l12,s13,n14)=>
 (idx l12 n14).bind fun x23=>
 (put l12 n14 s13).bind fun l24=>
 (cut l24 0 (w64 (n14+1))).bind fun s25=>
 some s25
theorem qa6 (N:Nat) (s_:Str) (sep:Str) (sepSave:Int) (n:Int) {res:List Str} (h:strings_genSplit N s_ sep sepSave n=some res):qc Tryz.prog (.fn 157) [.str s_,.str sep,.i sepSave,.i n] [] (vl encS res) []:=by
 unfold strings_genSplit at h
 refine Goes.fnW Tryz.func157 rfl rfl (m:=66) rfl (rs:=[.tmp 8]) rfl (l:=(kM s_ sep [(2,.i sepSave),(3,.i n)])) rfl ?_
 refine sh fol (kM s_ sep [(2,.i sepSave),(3,.i n)]) ?_
 refine sq ?_
 refine sh fol (kM s_ sep [(2,.i sepSave),(3,.i n),(13,.bool (decide (n=0)))]) ?_
 refine ihD h (fun c1 h=>?_) (fun c1 h=>?_)
 ·refine sh fol [(8,.nilslice)] ?_
  refine Goes.ret ?_
  obtain rfl:=si h
  exact(gw2 [.nilslice] (FzW.nilv (E:=encS)))
 ·refine Goes.skip ?_
  refine sq ?_
  refine sh fol (kM s_ sep [(2,.i sepSave),(3,.i n),(15,.bool (sep==[]))]) ?_
  refine ihB h (fun c2 h=>?_) (fun c2 h=>?_)
  ·obtain⟨r3,e_r3,h⟩:=bnd h
   refine sq (gr fol [2] [(8,vl encS r3)] (ac (cv (qbz N s_ n e_r3)) az) ?_)
   refine Goes.ret ?_
   obtain rfl:=si h
   exact(gw2 [vl encS r3] (FzW.still (yK encS _ (nl rfl))))
  ·refine Goes.skip ?_
   refine sq ?_
   refine sh fol (kM s_ sep [(2,.i sepSave),(3,.i n),(20,.bool (decide (n<0)))]) ?_
   obtain⟨r5,g5,h⟩:=bnd h
   refine Goes.imp (Q:=fun x s'=>(x= .normal∧ ∃n4,n4=r5∧Sub s' (ofG 66 (kM s_ sep [(2,.i sepSave),(3,.i n4)]),[]))) ?_ ?_
   ·refine ihD g5 (fun c6 g5=>?_) (fun c6 g5=>?_)
    ·obtain⟨r7,e_r7,g5⟩:=bnd g5
     refine gr fol [2] (kM s_ sep [(2,.i sepSave),(3,.i (w64 (r7+1)))]) (ac (cv (qci N s_ sep e_r7)) az) ?_
     obtain rfl:=si g5
     exact⟨rfl,_,rfl,(Sub.refl _)⟩
    ·refine Goes.skip ?_
     obtain rfl:=si g5
     exact⟨rfl,_,rfl,(Sub.keep [0,1,2,3] rfl rfl)⟩
   rintro x s' ⟨rfl,n4,rfl,hsub⟩
   refine Goes.sub hsub ?_
   refine sh fol (kM s_ sep [(2,.i sepSave),(3,.i (if(w64 ((s_.length:Int)+1))<n4 then(w64 ((s_.length:Int)+1))else n4))]) ?_
   obtain⟨l8,e_l8,h⟩:=bnd h
   refine sq (gq fol [1] (kH s_ sep sepSave (if(w64 ((s_.length:Int)+1))<n4 then(w64 ((s_.length:Int)+1))else n4) l8 []) (kG l8 []) (ac (hs (.run [] (vU Tryz.prog 23 (.i (if(w64 ((s_.length:Int)+1))<n4 then(w64 ((s_.length:Int)+1))else n4)) (.i (if(w64 ((s_.length:Int)+1))<n4 then(w64 ((s_.length:Int)+1))else n4))) [] (.slice 0 0 l8.length l8.length 1) (kG l8 []) false) (qiU yu (E:=encS) (z:=[]) rfl (by kernel_rfl) e_l8 rfl)) az) ?_)
   refine sh fol (kH s_ sep sepSave (w64 ((if(w64 ((s_.length:Int)+1))<n4 then(w64 ((s_.length:Int)+1))else n4)-1)) l8 []) ?_
   refine sh fol (kH s_ sep sepSave (w64 ((if(w64 ((s_.length:Int)+1))<n4 then(w64 ((s_.length:Int)+1))else n4)-1)) l8 [(10,.i 0)]) ?_
   refine sq (Goes.block ?_)
   obtain⟨r15,g15,h⟩:=bnd h
   refine Goes.imp (Q:=fun x s'=>(x= .exit 0∧ ∃l12 s13 n14,(l12,s13,n14)=r15∧Sub s' (ofG 66 (kAH s13 (kAR l12 n14)),(kG l12 [])))) ?_ ?_
   ·refine Goes.loopS (fun M s=> ∃(l9:List Str) (s10:Str) (n11:Int),s=(ofG 66 (kH s10 sep sepSave (w64 ((if(w64 ((s_.length:Int)+1))<n4 then(w64 ((s_.length:Int)+1))else n4)-1)) l9 [(10,.i n11)]),(kG l9 []))∧ko s_ sep sepSave n4 M l9 s10 n11=some r15) ?_ (m:=N) ⟨_,_,_,rfl,g15⟩
    rintro M s ⟨l9,s10,n11,rfl,g15⟩
    cases M with
    |zero=>simp only[ko]at g15;cases g15
    |succ M=>
     rw[ko]at g15
     refine sq ?_
     refine sh fol (kH s10 sep sepSave (w64 ((if(w64 ((s_.length:Int)+1))<n4 then(w64 ((s_.length:Int)+1))else n4)-1)) l9 [(10,.i n11),(36,.bool (decide (n11<(w64 ((if(w64 ((s_.length:Int)+1))<n4 then(w64 ((s_.length:Int)+1))else n4)-1)))))]) ?_
     refine ihD g15 (fun c16 g15=>?_) (fun c16 g15=>?_)
     ·refine Goes.skip ?_
      refine Goes.block ?_
      obtain⟨r17,e_r17,g15⟩:=bnd g15
      refine sq (gr fol [2] (kH s10 sep sepSave (w64 ((if(w64 ((s_.length:Int)+1))<n4 then(w64 ((s_.length:Int)+1))else n4)-1)) l9 [(10,.i n11),(11,.i r17)]) (ac (cv (xW s10 sep e_r17)) az) ?_)
      refine sq ?_
      refine sh fol (kH s10 sep sepSave (w64 ((if(w64 ((s_.length:Int)+1))<n4 then(w64 ((s_.length:Int)+1))else n4)-1)) l9 [(10,.i n11),(11,.i r17),(41,.bool (decide (r17<0)))]) ?_
      refine ihD g15 (fun c18 g15=>?_) (fun c18 g15=>?_)
      ·refine Goes.exit ?_
       obtain rfl:=si g15
       exact⟨rfl,_,_,_,rfl,(Sub.keep [0,9,10] rfl rfl)⟩
      ·refine Goes.skip ?_
       obtain⟨s19,e_s19,g15⟩:=bnd g15
       obtain⟨x20,e_x20,g15⟩:=bnd g15
       obtain⟨l21,e_l21,g15⟩:=bnd g15
       refine sq (gq fol [6,7,8] (kH s10 sep sepSave (w64 ((if(w64 ((s_.length:Int)+1))<n4 then(w64 ((s_.length:Int)+1))else n4)-1)) l9 [(10,.i n11),(11,.i r17)]) (kG l21 []) (ac (hs (.done (.opt (vo Tryz.prog 9 (.str s10) none (some (.i (w64 (r17+sepSave)))) none)) (.str s19)) (qe3 st9 none (some (w64 (r17+sepSave))) e_s19)) (ac (hs (.done (.opt (ql Tryz.prog 23 (.slice 0 0 l9.length l9.length 1) (.i n11))) (.ptr 0 ((n11:Int).toNat*1+0))) (qiL yu e_x20)) (ac (hs (.run [0] (qau Tryz.prog 9 (.ptr 0 ((n11:Int).toNat*1+0)) (.str s19)) (kG l9 []) .undef (kG l21 []) true) (qhe (E:=encS) (l:=l9) (y:=s19) rfl (show _=some 1 by kernel_rfl) rfl e_x20 rfl rfl rfl rfl rfl e_l21 rfl)) az))) ?_)
       refine Goes.sub (show Sub (ofG 66 (kH s10 sep sepSave (w64 ((if(w64 ((s_.length:Int)+1))<n4 then(w64 ((s_.length:Int)+1))else n4)-1)) l9 [(10,.i n11),(11,.i r17)]),(kG l21 [])) (ofG 66 (kH s10 sep sepSave (w64 ((if(w64 ((s_.length:Int)+1))<n4 then(w64 ((s_.length:Int)+1))else n4)-1)) l21 [(10,.i n11),(11,.i r17)]),(kG l21 []))from(Sub.norm [] [some 0] rfl rfl (.keep (.same nS) (.keep (.same nS) (.keep (.same nI) (.keep (.same nI) (.keep (.sliceE rfl (qcQ e_l21)) (.keep (.same nI) (.keep (.same nI) .nil))))))) (.ks .nil))) ?_
       obtain⟨s22,e_s22,g15⟩:=bnd g15
       refine sq (gr fol [5] (kH s22 sep sepSave (w64 ((if(w64 ((s_.length:Int)+1))<n4 then(w64 ((s_.length:Int)+1))else n4)-1)) l21 [(10,.i n11)]) (ac (hs (.done (.opt (vo Tryz.prog 9 (.str s10) (some (.i (w64 (r17+(sep.length:Int))))) none none)) (.str s22)) (qe3 st9 (some (w64 (r17+(sep.length:Int)))) none e_s22)) az) ?_)
       refine gh fol (kH s22 sep sepSave (w64 ((if(w64 ((s_.length:Int)+1))<n4 then(w64 ((s_.length:Int)+1))else n4)-1)) l21 [(10,.i (w64 (n11+1)))]) ?_
       exact⟨M,(ofG 66 (kH s22 sep sepSave (w64 ((if(w64 ((s_.length:Int)+1))<n4 then(w64 ((s_.length:Int)+1))else n4)-1)) l21 [(10,.i (w64 (n11+1)))]),(kG l21 [])),Nat.lt_succ_self _,(Sub.refl _),_,_,_,rfl,g15⟩
     ·refine Goes.exit ?_
      obtain rfl:=si g15
      exact⟨rfl,_,_,_,rfl,(Sub.keep [0,9,10] rfl rfl)⟩
   rintro x s' ⟨rfl,l12,s13,n14,rfl,hsub⟩
   try dsimp only at h
   refine Goes.sub hsub ?_
   obtain⟨x23,e_x23,h⟩:=bnd h
   obtain⟨l24,e_l24,h⟩:=bnd h
   refine sq (gq fol [3,4] (kAR l12 n14) (kG l24 []) (ac (hs (.done (.opt (ql Tryz.prog 23 (.slice 0 0 l12.length l12.length 1) (.i n14))) (.ptr 0 ((n14:Int).toNat*1+0))) (qiL yu e_x23)) (ac (hs (.run [0] (qau Tryz.prog 9 (.ptr 0 ((n14:Int).toNat*1+0)) (.str s13)) (kG l12 []) .undef (kG l24 []) true) (qhe (E:=encS) (l:=l12) (y:=s13) rfl (show _=some 1 by kernel_rfl) rfl e_x23 rfl rfl rfl rfl rfl e_l24 rfl)) az)) ?_)
   refine Goes.sub (show Sub (ofG 66 (kAR l12 n14),(kG l24 [])) (ofG 66 (kAR l24 n14),(kG l24 []))from(Sub.norm [] [some 0] rfl rfl (.keep (.sliceE rfl (qcQ e_l24)) (.keep (.same nI) .nil)) (.ks .nil))) ?_
   refine sq (Goes.sub (s':=(ofG 66 [(9,vl encS l24),(10,.i n14)],[])) (Sub.norm [0] [] rfl rfl (.keep (.frz (Fz.sl (E:=encS) rfl rfl (nl rfl)) (qd encS _)) (.keep (.same nI) .nil)) .nil) ?_)
   obtain⟨s25,e_s25,h⟩:=bnd h
   refine gr fol [3] [(8,vl encS s25)] (ac (hs (.done (.opt (vo Tryz.prog 23 (vl encS l24) none (some (.i (w64 (n14+1)))) none)) (vl encS s25)) (qd6 yu (E:=encS) rfl none (some (w64 (n14+1))) e_s25)) az) ?_
   refine Goes.ret ?_
   obtain rfl:=si h
   exact(gw2 [vl encS s25] (FzW.still (yK encS _ (nl rfl))))
def strings_Split (N:Nat) (s_:Str) (sep:Str):Option (List Str):=
 (strings_genSplit N s_ sep 0 (-1)).bind fun r1=>
 some r1
theorem qcj (N:Nat) (s_:Str) (sep:Str) {res:List Str} (h:strings_Split N s_ sep=some res):qc Tryz.prog (.fn 107) [.str s_,.str sep] [] (vl encS res) []:=by
 unfold strings_Split at h
 refine Goes.fnW Tryz.func107 rfl rfl (m:=8) rfl (rs:=[.tmp 4]) rfl (l:=(kM s_ sep [])) rfl ?_
 refine sh fol (kM s_ sep []) ?_
 obtain⟨r1,e_r1,h⟩:=bnd h
 refine sq (gr fol [2] [(4,vl encS r1)] (ac (cv (qa6 N s_ sep 0 (-1) e_r1)) az) ?_)
 refine Goes.ret ?_
 obtain rfl:=si h
 exact(gw2 [vl encS r1] (FzW.still (yK encS _ (nl rfl))))
def qE (s_:List Str) (v:Str):Nat→Int→Option (Unit⊕Int)
 |0,_=>none
 |K+1,n1=>
  if n1<(s_.length:Int)then
  (idx s_ n1).bind fun x5=>
  if(v==x5)=true then
  some (.inr n1)
  else
  qE s_ v K (w64 (n1+1))
  else
  some (.inl ())
def slices_Index_string (N:Nat) (s_:List Str) (v:Str):Option Int:=
 (qE s_ v N 0).bind (fun
 |(.inl ())=>
 some (-1)
 |(.inr q7)=>
 some q7)
theorem qah (N:Nat) (s_:List Str) (v:Str) {res:Int} (h:slices_Index_string N s_ v=some res):qc Tryz.prog (.fn 164) [vl encS s_,.str v] [] (.i res) []:=by
 unfold slices_Index_string at h
 refine Goes.fnW Tryz.func164 rfl rfl (m:=19) rfl (rs:=[.tmp 4]) rfl (l:=(kAP s_ v [])) rfl ?_
 refine sh fol (kAP s_ v []) ?_
 refine sq ?_
 refine sh fol (kAP s_ v (kAU (s_.length:Int))) ?_
 refine Goes.block ?_
 obtain⟨r2,g2,h⟩:=bnd h
 refine Goes.imp (Q:=fun x s'=>(x= .exit 0∧(.inl ())=r2∧Sub s' (ofG 19 [],[]))∨(x= .ret∧ ∃q3,(.inr q3)=r2∧qJ Tryz.prog [.tmp 4] (.i q3) .ret s')) ?_ ?_
 ·refine Goes.loopS (fun M s=> ∃(n1:Int),s=(ofG 19 (kAP s_ v (kP (s_.length:Int) n1)),[])∧qE s_ v M n1=some r2) ?_ (m:=N) ⟨_,rfl,g2⟩
  rintro M s ⟨n1,rfl,g2⟩
  cases M with
  |zero=>simp only[qE]at g2;cases g2
  |succ M=>
   rw[qE]at g2
   refine sh fol (kAP s_ v (kAa (s_.length:Int) n1 (decide (n1<(s_.length:Int))))) ?_
   refine sq ?_
   refine ihD g2 (fun c4 g2=>?_) (fun c4 g2=>?_)
   ·refine Goes.skip ?_
    refine sq (Goes.block ?_)
    refine sh fol (kAP s_ v ((5,.i n1)::(kP (s_.length:Int) n1))) ?_
    obtain⟨x5,e_x5,g2⟩:=bnd g2
    refine sq (gr fol [3,4] (kAP s_ v [(5,.i n1),(7,.i (s_.length:Int)),(8,.i n1),(16,.bool (v==x5))]) (ac (iv yu encS e_x5) (ac (lv 0 ce9 encS e_x5 rfl) az)) ?_)
    refine ihB g2 (fun c6 g2=>?_) (fun c6 g2=>?_)
    ·refine sh fol [(4,.i n1)] ?_
     refine Goes.ret ?_
     obtain rfl:=si g2
     exact Or.inr (⟨rfl,_,rfl,(gw2 [.i n1] (FzW.still tI))⟩)
    ·refine Goes.skip ?_
     refine gh fol (kAP s_ v (kP (s_.length:Int) (w64 (n1+1)))) ?_
     exact⟨M,(ofG 19 (kAP s_ v (kP (s_.length:Int) (w64 (n1+1)))),[]),Nat.lt_succ_self _,(Sub.refl _),_,rfl,g2⟩
   ·refine Goes.exit ?_
    obtain rfl:=si g2
    exact Or.inl (⟨rfl,rfl,(Sub.keep [] rfl rfl)⟩)
 rintro x s' (⟨rfl,rfl,hsub⟩|⟨rfl,q7,rfl,hret⟩)
 ·try dsimp only at h
  refine Goes.sub hsub ?_
  refine sh fol [(4,.i (-1))] ?_
  refine Goes.ret ?_
  obtain rfl:=si h
  exact(gw2 [.i (-1)] (FzW.still tI))
 ·try dsimp only at h
  obtain rfl:=si h
  exact hret
def slices_Contains_string (N:Nat) (s_:List Str) (v:Str):Option Bool:=
 (slices_Index_string N s_ v).bind fun r1=>
 some (decide (r1≥0))
theorem xD (N:Nat) (s_:List Str) (v:Str) {res:Bool} (h:slices_Contains_string N s_ v=some res):qc Tryz.prog (.fn 112) [vl encS s_,.str v] [] (.bool res) []:=by
 unfold slices_Contains_string at h
 refine Goes.fnW Tryz.func112 rfl rfl (m:=9) rfl (rs:=[.tmp 4]) rfl (l:=(kAP s_ v [])) rfl ?_
 refine sh fol (kAP s_ v []) ?_
 obtain⟨r1,e_r1,h⟩:=bnd h
 refine sq (gr fol [2] [(4,.bool (decide (r1≥0)))] (ac (cv (qah N s_ v e_r1)) az) ?_)
 refine Goes.ret ?_
 obtain rfl:=si h
 exact(gw2 [.bool (decide (r1≥0))] (FzW.still tB))
def jf:Option (List Str):=
 qfI (some []) ((app 16 ([]:List Str) ([]:List Str)).bind fun l1=>
 some l1)
theorem xN {res:List Str} (h:jf=some res):qc Tryz.prog (.fn 165) [vl encS ([]:List Str)] [] (vl encS res) []:=by
 unfold jf at h
 refine Goes.fnW Tryz.func165 rfl rfl (m:=8) rfl (rs:=[.tmp 2]) rfl (l:=[(0,vl encS ([]:List Str))]) rfl ?_
 refine sh fol [(0,vl encS ([]:List Str))] ?_
 refine sq ?_
 refine sh fol [(0,vl encS ([]:List Str)),(4,.anyb)] ?_
 refine Goes.condAny (by kernel_rfl) ?_ ?_
 ·replace h:=(qdH h).1
  refine sh fol [(2,.nilslice)] ?_
  refine Goes.ret ?_
  obtain rfl:=si h
  exact(gw2 [.nilslice] (FzW.nilv (E:=encS)))
 ·replace h:=(qdH h).2
  refine Goes.skip ?_
  obtain⟨l1,e_l1,h⟩:=bnd h
  refine sq (gq fol [2] [(2,.oslice 1 l1.length 1)] (.dead::(kG l1 [])) (ac (hs (.run [0] (zA Tryz.prog [23,23] (.slice 0 0 0 0 1) (vl encS ([]:List Str))) [.cells []] (.oslice 1 l1.length 1) (.dead::(kG l1 [])) true) (ji yu (E:=encS) rfl (qec (E:=encS) rfl _) (qfm (E:=encS) rfl rfl rfl e_l1 rfl))) az) ?_)
  refine Goes.ret ?_
  obtain rfl:=si h
  exact(gw2 [.oslice 1 l1.length 1] (FzW.fz (Fz.os (E:=encS) rfl rfl (nl rfl))))
def zF (hd:Str) (tl:List Str):Option (List Str):=
 (app 16 ([]:List Str) (hd::tl)).bind fun l1=>
 some l1
theorem xJ (hd:Str) (tl:List Str) {res:List Str} (h:zF hd tl=some res):qc Tryz.prog (.fn 165) [vl encS (hd::tl)] [] (vl encS res) []:=by
 unfold zF at h
 refine Goes.fnW Tryz.func165 rfl rfl (m:=8) rfl (rs:=[.tmp 2]) rfl (l:=[(0,vl encS (hd::tl))]) rfl ?_
 refine sh fol [(0,vl encS (hd::tl))] ?_
 refine sq ?_
 refine sh fol ((0,vl encS (hd::tl))::kAF) ?_
 refine Goes.ifB (b:=false) (by kernel_rfl) (fun c=>(by cases c)) (fun _=>?_)
 refine Goes.skip ?_
 obtain⟨l1,e_l1,h⟩:=bnd h
 refine sq (gq fol [2] [(2,.oslice 1 l1.length 1)] (.dead::(kG l1 [])) (ac (hs (.run [0] (zA Tryz.prog [23,23] (.slice 0 0 0 0 1) (vl encS (hd::tl))) [.cells []] (.oslice 1 l1.length 1) (.dead::(kG l1 [])) true) (ji yu (E:=encS) rfl (qec (E:=encS) rfl _) (qfm (E:=encS) rfl rfl rfl e_l1 rfl))) az) ?_)
 refine Goes.ret ?_
 obtain rfl:=si h
 exact(gw2 [.oslice 1 l1.length 1] (FzW.fz (Fz.os (E:=encS) rfl rfl (nl rfl))))
def slices_Clone_string:(List Str)→Option (List Str)
 |[]=>jf
 |hd::tl=>zF hd tl
theorem qat (l:List Str) {res:List Str} (h:slices_Clone_string l=some res):qc Tryz.prog (.fn 165) [vl encS l] [] (vl encS res) []:=by
 cases l with
 |nil=>exact xN h
 |cons hd tl=>exact xJ hd tl h
def jR (s_:Str):Option Bool:=
 (if(!(s_==[]))=true then
 (qfj s_ [48,49,50,51,52,53,54,55,56,57]).bind fun r2=>
 some (r2==[])
 else
 some false:Option Bool).bind fun b3=>
 some b3
theorem vR (s_:Str) {res:Bool} (h:jR s_=some res):qc Tryz.prog (.fn 155) [.str s_] [] (.bool res) []:=by
 unfold jR at h
 refine Goes.fnW Tryz.func155 rfl rfl (m:=10) rfl (rs:=[.tmp 2]) rfl (l:=(kAH s_ [])) rfl ?_
 refine sh fol (kAH s_ []) ?_
 refine sq ?_
 obtain⟨b3,g_v4,h⟩:=bnd h
 refine Goes.cut (s':=(ofG 10 [(2,.bool b3)],[])) ?_ ?_
 ·rcases wyB g_v4 with⟨c1,g_v4⟩|⟨c1,g_v4⟩
  ·obtain⟨r2,e_r2,g_v4⟩:=bnd g_v4
   obtain rfl:=si g_v4
   exact tr fol [2,4] [(2,.bool (r2==[]))] (ac (gw c1) (ac (cv (qja s_ [48,49,50,51,52,53,54,55,56,57] e_r2)) az))
  ·obtain rfl:=si g_v4
   exact tr fol [2] kAZ (ac (gw c1) az)
 refine Goes.ret ?_
 obtain rfl:=si h
 exact(gw2 [.bool b3] (FzW.still tB))
def j4 (s_:Str):Option (Int×Bool):=
 (if(s_.length:Int)>9 then
 some true
 else
 (jR s_).bind fun r2=>
 if(!r2)=true then
 some true
 else
 (idx s_ 0).bind fun c4=>
 if(c4.toNat:Int)=48 then
 some (!(s_==[48]))
 else
 some false:Option Bool).bind fun b6=>
 if b6=true then
 some (0,false)
 else
 (qfq s_).bind fun r9=>
 some (r9.1,true)
theorem qbV (s_:Str) {res:Int×Bool} (h:j4 s_=some res):qc Tryz.prog (.fn 172) [.str s_] [] (.tuple [.i res.1,.bool res.2]) []:=by
 unfold j4 at h
 refine Goes.fnW Tryz.func172 rfl rfl (m:=31) rfl (rs:=[.tmp 2,.tmp 3]) rfl (l:=(kAH s_ [])) rfl ?_
 refine sh fol (kAH s_ []) ?_
 refine sq ?_
 refine sq ?_
 obtain⟨b6,g_v7,h⟩:=bnd h
 refine Goes.cut (s':=(ofG 31 (kAH s_ [(22,.bool b6)]),[])) ?_ ?_
 ·rcases wyD g_v7 with⟨c1,g_v7⟩|⟨c1,g_v7⟩
  ·obtain rfl:=si g_v7
   exact tr fol [3] (kAH s_ [(22,.bool true)]) (ac (gw c1) az)
  ·obtain⟨r2,e_r2,g_v7⟩:=bnd g_v7
   rcases wyB g_v7 with⟨c3,g_v7⟩|⟨c3,g_v7⟩
   ·obtain rfl:=si g_v7
    exact tr fol [3,5,8] (kAH s_ [(22,.bool true)]) (ac (gw c1) (ac (cv (vR s_ e_r2)) (ac (gw c3) az)))
   ·obtain⟨c4,e_c4,g_v7⟩:=bnd g_v7
    rcases wyD g_v7 with⟨c5,g_v7⟩|⟨c5,g_v7⟩
    ·obtain rfl:=si g_v7
     exact tr fol [3,5,8,10,12] (kAH s_ [(22,.bool (!(s_==[48])))]) (ac (gw c1) (ac (cv (vR s_ e_r2)) (ac (gw c3) (ac (hs (.done (.opt (vw Tryz.prog 9 (.str s_) (.i 0))) (.int .u8 (c4.toNat:Int))) (xn st9 e_c4)) (ac (gw c5) az)))))
    ·obtain rfl:=si g_v7
     exact tr fol [3,5,8,10,12] (kAH s_ [(22,.bool false)]) (ac (gw c1) (ac (cv (vR s_ e_r2)) (ac (gw c3) (ac (hs (.done (.opt (vw Tryz.prog 9 (.str s_) (.i 0))) (.int .u8 (c4.toNat:Int))) (xn st9 e_c4)) (ac (gw c5) az)))))
 refine ihB h (fun c8 h=>?_) (fun c8 h=>?_)
 ·refine sh fol ((2,.i 0)::kAT) ?_
  refine Goes.ret ?_
  obtain rfl:=si h
  exact(gw2 [.i 0,.bool false] (FzW.tuple (qg.cons (FzW.still tI) (qg.cons (FzW.still tB) qg.nil))))
 ·refine Goes.skip ?_
  obtain⟨r9,e_r9,h⟩:=bnd h
  refine sq (gr fol [1] [(4,.i r9.1),(5,.niliface)] (ac (cv (qig s_ e_r9)) az) ?_)
  refine sh fol [(2,.i r9.1),(3,.bool true)] ?_
  refine Goes.ret ?_
  obtain rfl:=si h
  exact(gw2 (.i r9.1::kAS) (FzW.tuple (qg.cons (FzW.still tI) (qg.cons (FzW.still tB) qg.nil))))
def za (s23:List Str):Nat→(List Int)→Int→Option ((List Int)⊕(jo×Bool))
 |0,_,_=>none
 |K+1,l24,n25=>
  if n25<(s23.length:Int)then
  (idx s23 n25).bind fun x30=>
  (j4 x30).bind fun r31=>
  if(!r31.2)=true then
  some (.inr ((⟨0,[],[],[],[]⟩:jo),false))
  else
  (app 8 l24 [r31.1]).bind fun l33=>
  za s23 K l33 (w64 (n25+1))
  else
  some (.inl l24)
def jS (N:Nat) (s_:Str):Option (jo×Bool):=
 (strings_Split N s_ [32]).bind fun r1=>
 ((yY).bind fun r2=>
 (idx r1 0).bind fun x3=>
 if(x3==[109,97,107,101])=true then
 some (2,3,true)
 else
 if(x3==[116,101,115,116])=true then
 some (1,2,true)
 else
 if(x3==[117,115,101])=true then
 some (1,2,true)
 else
 if(x3==[102,97,105,108])=true then
 some (1,1,true)
 else
 if(x3==[114,101,99,97,108,108])=true then
 some (1,1,true)
 else
 if(x3==[117,110,100,111])=true then
 some (0,0,true)
 else
 some (0,0,false):Option (Int×Int×Bool)).bind fun(n10,n11,b12)=>
 (if(!b12)=true then
 some true
 else
 if(!decide ((r1.length:Int)=(w64 ((w64 (1+n10))+n11))))=true then
 some true
 else
 (slices_Contains_string N r1 []).bind fun r16=>
 some r16:Option Bool).bind fun b17=>
 if b17=true then
 some ((⟨0,[],[],[],[]⟩:jo),false)
 else
 (idx r1 0).bind fun x20=>
 (cut r1 1 (w64 (1+n10))).bind fun s21=>
 (slices_Clone_string s21).bind fun r22=>
 (cut r1 (w64 (1+n10)) (r1.length:Int)).bind fun s23=>
 (za s23 N ([]:List Int) 0).bind (fun
 |(.inl l26)=>
 some ((⟨0,x20,r22,l26,[]⟩:jo),true)
 |(.inr q34)=>
 some q34)
theorem qbx (N:Nat) (s_:Str) {res:jo×Bool} (h:jS N s_=some res):qc Tryz.prog (.fn 127) [.str s_] [] (.tuple [.agg (cE res.1),.bool res.2]) []:=by
 unfold jS at h
 refine Goes.fnW Tryz.func127 rfl rfl (m:=76) rfl (rs:=[.cell 2 26,.tmp 3]) rfl (l:=(kAH s_ [])) rfl ?_
 refine sg fol (kAH s_ (kAO [])) (kB []) ?_
 obtain⟨r1,e_r1,h⟩:=bnd h
 refine sq (gr fol [1] (kI r1 []) (ac (cv (qcj N s_ [32] e_r1)) az) ?_)
 refine sq ?_
 obtain⟨⟨n10,n11,b12⟩,g_v13,h⟩:=bnd h
 refine Goes.cutS (s':=(ofG 76 (kI r1 [(5,.ptr 1 0),(6,.bool b12)]),(kB [.cells [.i n10,.i n11,.undef]]))) ?_ ?_
 ·obtain⟨r2,e_r2,g_v13⟩:=bnd g_v13
  obtain⟨x3,e_x3,g_v13⟩:=bnd g_v13
  rcases wyB g_v13 with⟨c4,g_v13⟩|⟨c4,g_v13⟩
  ·simp only[Option.some.injEq,Prod.mk.injEq]at g_v13
   obtain⟨rfl,rfl,rfl⟩:=g_v13
   exact zq.sub (zq.rq fol [0,2,3,4] (kI r1 kAN) (kB [.cells [.i 2,.i 3,.func (.func 141) [] []]]) (ac (cv (zT e_r2)) (ac (iv yu encS e_x3) (ac (lv 0 ce9 encS e_x3 rfl) (ac (hs (.done (jZ Tryz.prog 154 (fm1) (.str x3) true) (.tuple (.agg [.i 2,.i 3,.func (.func 141) [] []]::kAS))) (qbY qdB [[109,97,107,101],[116,101,115,116],[117,115,101],[102,97,105,108],[114,101,99,97,108,108],[117,110,100,111]] (y9 c4) rfl)) az))))) (Sub.norm [] [some 0,some 1] rfl rfl (.kp (.keep (.same (qd encS _)) (.kp (.keep (.same nB) .nil)))) (.kb rfl (.same sn) (.kb rfl (.cells (rc (.same nI) (rc (.same nI) (rc (.undef) rn)))) .nil)))
  ·rcases wyB g_v13 with⟨c5,g_v13⟩|⟨c5,g_v13⟩
   ·simp only[Option.some.injEq,Prod.mk.injEq]at g_v13
    obtain⟨rfl,rfl,rfl⟩:=g_v13
    exact zq.sub (zq.rq fol [0,2,3,4] (kI r1 kAN) (kB [.cells [.i 1,.i 2,.func (.func 142) [] []]]) (ac (cv (zT e_r2)) (ac (iv yu encS e_x3) (ac (lv 0 ce9 encS e_x3 rfl) (ac (hs (.done (jZ Tryz.prog 154 (fm1) (.str x3) true) (.tuple (.agg [.i 1,.i 2,.func (.func 142) [] []]::kAS))) (qbY qdB [[109,97,107,101],[116,101,115,116],[117,115,101],[102,97,105,108],[114,101,99,97,108,108],[117,110,100,111]] (qH c4 (y9 c5)) rfl)) az))))) (Sub.norm [] [some 0,some 1] rfl rfl (.kp (.keep (.same (qd encS _)) (.kp (.keep (.same nB) .nil)))) (.kb rfl (.same sn) (.kb rfl (.cells (rc (.same nI) (rc (.same nI) (rc (.undef) rn)))) .nil)))
   ·rcases wyB g_v13 with⟨c6,g_v13⟩|⟨c6,g_v13⟩
    ·simp only[Option.some.injEq,Prod.mk.injEq]at g_v13
     obtain⟨rfl,rfl,rfl⟩:=g_v13
     exact zq.sub (zq.rq fol [0,2,3,4] (kI r1 kAN) (kB [.cells [.i 1,.i 2,.func (.func 143) [] []]]) (ac (cv (zT e_r2)) (ac (iv yu encS e_x3) (ac (lv 0 ce9 encS e_x3 rfl) (ac (hs (.done (jZ Tryz.prog 154 (fm1) (.str x3) true) (.tuple (.agg [.i 1,.i 2,.func (.func 143) [] []]::kAS))) (qbY qdB [[109,97,107,101],[116,101,115,116],[117,115,101],[102,97,105,108],[114,101,99,97,108,108],[117,110,100,111]] (qH c4 (qH c5 (y9 c6))) rfl)) az))))) (Sub.norm [] [some 0,some 1] rfl rfl (.kp (.keep (.same (qd encS _)) (.kp (.keep (.same nB) .nil)))) (.kb rfl (.same sn) (.kb rfl (.cells (rc (.same nI) (rc (.same nI) (rc (.undef) rn)))) .nil)))
    ·rcases wyB g_v13 with⟨c7,g_v13⟩|⟨c7,g_v13⟩
     ·simp only[Option.some.injEq,Prod.mk.injEq]at g_v13
      obtain⟨rfl,rfl,rfl⟩:=g_v13
      exact zq.sub (zq.rq fol [0,2,3,4] (kI r1 kAN) (kB [.cells [.i 1,.i 1,.func (.func 144) [] []]]) (ac (cv (zT e_r2)) (ac (iv yu encS e_x3) (ac (lv 0 ce9 encS e_x3 rfl) (ac (hs (.done (jZ Tryz.prog 154 (fm1) (.str x3) true) (.tuple (.agg [.i 1,.i 1,.func (.func 144) [] []]::kAS))) (qbY qdB [[109,97,107,101],[116,101,115,116],[117,115,101],[102,97,105,108],[114,101,99,97,108,108],[117,110,100,111]] (qH c4 (qH c5 (qH c6 (y9 c7)))) rfl)) az))))) (Sub.norm [] [some 0,some 1] rfl rfl (.kp (.keep (.same (qd encS _)) (.kp (.keep (.same nB) .nil)))) (.kb rfl (.same sn) (.kb rfl (.cells (rc (.same nI) (rc (.same nI) (rc (.undef) rn)))) .nil)))
     ·rcases wyB g_v13 with⟨c8,g_v13⟩|⟨c8,g_v13⟩
      ·simp only[Option.some.injEq,Prod.mk.injEq]at g_v13
       obtain⟨rfl,rfl,rfl⟩:=g_v13
       exact zq.sub (zq.rq fol [0,2,3,4] (kI r1 kAN) (kB [.cells [.i 1,.i 1,.func (.func 145) [] []]]) (ac (cv (zT e_r2)) (ac (iv yu encS e_x3) (ac (lv 0 ce9 encS e_x3 rfl) (ac (hs (.done (jZ Tryz.prog 154 (fm1) (.str x3) true) (.tuple (.agg [.i 1,.i 1,.func (.func 145) [] []]::kAS))) (qbY qdB [[109,97,107,101],[116,101,115,116],[117,115,101],[102,97,105,108],[114,101,99,97,108,108],[117,110,100,111]] (qH c4 (qH c5 (qH c6 (qH c7 (y9 c8))))) rfl)) az))))) (Sub.norm [] [some 0,some 1] rfl rfl (.kp (.keep (.same (qd encS _)) (.kp (.keep (.same nB) .nil)))) (.kb rfl (.same sn) (.kb rfl (.cells (rc (.same nI) (rc (.same nI) (rc (.undef) rn)))) .nil)))
      ·rcases wyB g_v13 with⟨c9,g_v13⟩|⟨c9,g_v13⟩
       ·simp only[Option.some.injEq,Prod.mk.injEq]at g_v13
        obtain⟨rfl,rfl,rfl⟩:=g_v13
        exact zq.sub (zq.rq fol [0,2,3,4] (kI r1 kAN) (kB [.cells [.i 0,.i 0,.nilfunc]]) (ac (cv (zT e_r2)) (ac (iv yu encS e_x3) (ac (lv 0 ce9 encS e_x3 rfl) (ac (hs (.done (jZ Tryz.prog 154 (fm1) (.str x3) true) (.tuple (.agg [.i 0,.i 0,.nilfunc]::kAS))) (qbY qdB [[109,97,107,101],[116,101,115,116],[117,115,101],[102,97,105,108],[114,101,99,97,108,108],[117,110,100,111]] (qH c4 (qH c5 (qH c6 (qH c7 (qH c8 (y9 c9)))))) rfl)) az))))) (Sub.norm [] [some 0,some 1] rfl rfl (.kp (.keep (.same (qd encS _)) (.kp (.keep (.same nB) .nil)))) (.kb rfl (.same sn) (.kb rfl (.cells (rc (.same nI) (rc (.same nI) (rc (.undef) rn)))) .nil)))
       ·simp only[Option.some.injEq,Prod.mk.injEq]at g_v13
        obtain⟨rfl,rfl,rfl⟩:=g_v13
        exact zq.sub (zq.rq fol [0,2,3,4] (kI r1 [(5,.ptr 1 0),(6,.bool false)]) (kB [.cells [.i 0,.i 0,.nilfunc]]) (ac (cv (zT e_r2)) (ac (iv yu encS e_x3) (ac (lv 0 ce9 encS e_x3 rfl) (ac (hs (.done (jZ Tryz.prog 154 (fm1) (.str x3) true) (.tuple [.agg [.i 0,.i 0,.nilfunc],.bool false])) (qjW qdB [[109,97,107,101],[116,101,115,116],[117,115,101],[102,97,105,108],[114,101,99,97,108,108],[117,110,100,111]] (qH c4 (qH c5 (qH c6 (qH c7 (qH c8 (qH c9 (rfl))))))))) az))))) (Sub.norm [] [some 0,some 1] rfl rfl (.kp (.keep (.same (qd encS _)) (.kp (.keep (.same nB) .nil)))) (.kb rfl (.same sn) (.kb rfl (.cells (rc (.same nI) (rc (.same nI) (rc (.undef) rn)))) .nil)))
 intro _ hsub
 try dsimp only at h
 refine Goes.sub hsub ?_
 refine sq ?_
 refine sq ?_
 obtain⟨b17,g_v18,h⟩:=bnd h
 refine Goes.cutS (s':=(ofG 76 (kI r1 [(5,.ptr 1 0),(38,.bool b17)]),(kB [.cells [.i n10,.i n11,.undef]]))) ?_ ?_
 ·rcases wyB g_v18 with⟨c14,g_v18⟩|⟨c14,g_v18⟩
  ·obtain rfl:=si g_v18
   exact zq.sub (tr fol [2] (kI r1 [(5,.ptr 1 0),(38,.bool true)]) (ac (gw c14) az)) (Sub.refl _)
  ·rcases wyB g_v18 with⟨c15,g_v18⟩|⟨c15,g_v18⟩
   ·obtain rfl:=si g_v18
    exact zq.sub (tr fol [2,13] (kI r1 [(5,.ptr 1 0),(38,.bool true)]) (ac (gw c14) (ac (gw c15) az))) (Sub.refl _)
   ·obtain⟨r16,e_r16,g_v18⟩:=bnd g_v18
    obtain rfl:=si g_v18
    exact zq.sub (tr fol [2,13,15] (kI r1 [(5,.ptr 1 0),(38,.bool r16)]) (ac (gw c14) (ac (gw c15) (ac (cv (xD N r1 [] e_r16)) az)))) (Sub.refl _)
 intro _ hsub
 refine Goes.sub hsub ?_
 refine ihB h (fun c19 h=>?_) (fun c19 h=>?_)
 ·refine sh fol (kAO kAT) ?_
  refine Goes.ret ?_
  obtain rfl:=si h
  exact(gw2 kY (FzW.tuple (qg.cons (FzW.agg (qg.cons (FzW.still tI) (qg.cons (FzW.still tS) (qg.cons (FzW.nilv (E:=encS)) (qg.cons (FzW.nilv (E:=encI)) (qg.cons (FzW.still tS) qg.nil)))))) (qg.cons (FzW.still tB) qg.nil))))
 ·refine Goes.skip ?_
  obtain⟨x20,e_x20,h⟩:=bnd h
  obtain⟨s21,e_s21,h⟩:=bnd h
  obtain⟨r22,e_r22,h⟩:=bnd h
  refine sq (gq fol [1,2,7,8] (kI r1 [(5,.ptr 1 0),(7,.ptr 2 0)]) (kB [.cells [.i n10,.i n11,.undef],.cells [.i 0,.str x20,vl encS r22,.nilslice,.str []]]) (ac (iv yu encS e_x20) (ac (lv 0 ce9 encS e_x20 rfl) (ac (hs (.done (.opt (vo Tryz.prog 23 (vl encS r1) (some (.i 1)) (some (.i (w64 (1+n10)))) none)) (vl encS s21)) (qd6 yu (E:=encS) rfl (some 1) (some (w64 (1+n10))) e_s21)) (ac (cv (qat s21 e_r22)) az)))) ?_)
  refine sq ?_
  obtain⟨s23,e_s23,h⟩:=bnd h
  refine sq (gr fol [4] (kAO [(7,.ptr 2 0),(54,vl encS s23),(55,.i (s23.length:Int)),(56,.i 0)]) (ac (hs (.done (.opt (vo Tryz.prog 23 (vl encS r1) (some (.i (w64 (1+n10)))) none none)) (vl encS s23)) (qd6 yu (E:=encS) rfl (some (w64 (1+n10))) none e_s23)) az) ?_)
  refine Goes.block ?_
  obtain⟨r27,g27,h⟩:=bnd h
  refine Goes.imp (Q:=fun x s'=>(x= .exit 0∧ ∃l26,(.inl l26)=r27∧Sub s' (ofG 76 (kAO [(7,.ptr 1 0)]),(kB (kU x20 r22 l26 []))))∨(x= .ret∧ ∃q28,(.inr q28)=r27∧qJ Tryz.prog [.cell 2 26,.tmp 3] (.tuple [.agg (cE q28.1),.bool q28.2]) .ret s')) ?_ ?_
  ·refine Goes.sub (s':=(ofG 76 (kAG s23 (s23.length:Int) [(56,.i 0)]),(kB [.cells [.i 0,.str x20,vl encS r22,.gslice 2 ([]:List Int).length 1,.str []],.cells (([]:List Int).flatMap encI.c)]))) (Sub.norm [] [some 0,some 2,none] rfl rfl (.kp (.kp (.keep (.same (qd encS _)) (.keep (.same nI) (.keep (.same nI) .nil))))) (.kb rfl (.same sn) (.kb rfl (.cells (rc (.same nI) (rc (.same nS) (rc (.same (qd encS _)) (rc (.nil) (rc (.same nS) rn)))))) (.fresh .nil)))) ?_
   refine Goes.loopS (fun M s=> ∃(l24:List Int) (n25:Int),s=(ofG 76 (kAG s23 (s23.length:Int) [(56,.i n25)]),(kB (kU x20 r22 l24 [])))∧za s23 M l24 n25=some r27) ?_ (m:=N) ⟨_,_,rfl,g27⟩
   rintro M s ⟨l24,n25,rfl,g27⟩
   cases M with
   |zero=>simp only[za]at g27;cases g27
   |succ M=>
    rw[za]at g27
    refine sh fol (kAG s23 (s23.length:Int) [(56,.i n25),(57,.bool (decide (n25<(s23.length:Int))))]) ?_
    refine sq ?_
    refine ihD g27 (fun c29 g27=>?_) (fun c29 g27=>?_)
    ·refine Goes.skip ?_
     refine sq (Goes.block ?_)
     obtain⟨x30,e_x30,g27⟩:=bnd g27
     refine sq (gr fol [0,1] (kAO [(7,.ptr 1 0),(9,.str x30),(54,vl encS s23),(55,.i (s23.length:Int)),(56,.i n25)]) (ac (iv yu encS e_x30) (ac (lv 0 ce9 encS e_x30 rfl) az)) ?_)
     obtain⟨r31,e_r31,g27⟩:=bnd g27
     refine sq (gr fol [1] (kAO [(7,.ptr 1 0),(10,.i r31.1),(11,.bool r31.2),(54,vl encS s23),(55,.i (s23.length:Int)),(56,.i n25)]) (ac (cv (qbV x30 e_r31)) az) ?_)
     refine sq ?_
     refine sh fol (kAO [(7,.ptr 1 0),(10,.i r31.1),(54,vl encS s23),(55,.i (s23.length:Int)),(56,.i n25),(66,.bool (!r31.2))]) ?_
     refine ihB g27 (fun c32 g27=>?_) (fun c32 g27=>?_)
     ·refine sh fol (kAO kAT) ?_
      refine Goes.ret ?_
      obtain rfl:=si g27
      exact Or.inr (⟨rfl,_,rfl,(gw2 kY (FzW.tuple (qg.cons (FzW.agg (qg.cons (FzW.still tI) (qg.cons (FzW.still tS) (qg.cons (FzW.nilv (E:=encS)) (qg.cons (FzW.nilv (E:=encI)) (qg.cons (FzW.still tS) qg.nil)))))) (qg.cons (FzW.still tB) qg.nil))))⟩)
     ·refine Goes.skip ?_
      obtain⟨l33,e_l33,g27⟩:=bnd g27
      refine gq fol [4] (kAG s23 (s23.length:Int) [(56,.i n25)]) (kB (.cells [.i 0,.str x20,vl encS r22,.gslice 4 l33.length 1,.str []]:: .dead:: .cells [.i r31.1]::(kAJ l33 []))) (ac (hs (.run [2,3] (zA Tryz.prog [24,24] (.gslice 2 l24.length 1) (.slice 3 0 1 1 1)) (kB (kU x20 r22 l24 [.cells [.i r31.1]])) (.gslice 4 l33.length 1) (kB (.cells [.i 0,.str x20,vl encS r22,.gslice 2 l24.length 1,.str []]:: .dead:: .cells [.i r31.1]::(kAJ l33 []))) true) (ji sl24 (E:=encI) rfl (qaV (E:=encI) (ys:=[r31.1]) rfl rfl rfl rfl) (qbI (E:=encI) (l:=l24) rfl rfl rfl e_l33 rfl))) az) ?_
      refine gh fol (kAG s23 (s23.length:Int) [(56,.i (w64 (n25+1)))]) ?_
      exact⟨M,(ofG 76 (kAG s23 (s23.length:Int) [(56,.i (w64 (n25+1)))]),(kB (kU x20 r22 l33 []))),Nat.lt_succ_self _,(Sub.norm [] [some 0,some 1,some 4] rfl rfl (.kp (.kp (.keep (.same (qd encS _)) (.keep (.same nI) (.keep (.same nI) .nil))))) (.kb rfl (.same sn) (.kb rfl (.cells (rc (.same nI) (rc (.same nS) (rc (.same (qd encS _)) (rc (.gslice rfl) (rc (.same nS) rn)))))) (.ks .nil)))),_,_,rfl,g27⟩
    ·refine Goes.exit ?_
     obtain rfl:=si g27
     exact Or.inl (⟨rfl,_,rfl,(Sub.keep [2,7] rfl rfl)⟩)
  rintro x s' (⟨rfl,l26,rfl,hsub⟩|⟨rfl,q34,rfl,hret⟩)
  ·try dsimp only at h
   refine Goes.sub hsub ?_
   refine sg fol (kAO [(3,.bool true)]) (.cells [.i 0,.str x20,vl encS r22,.gslice 2 l26.length 1,.str []]::(kU x20 r22 l26 [])) ?_
   refine Goes.ret ?_
   obtain rfl:=si h
   exact(gw2 (.agg [.i 0,.str x20,vl encS r22,.gslice 2 l26.length 1,.str []]::kAS) (FzW.tuple (qg.cons (FzW.agg (qg.cons (FzW.still tI) (qg.cons (FzW.still tS) (qg.cons (FzW.still (yK encS _ (nl rfl))) (qg.cons (FzW.fz (Fz.gs (E:=encI) rfl rfl (nl rfl))) (qg.cons (FzW.still tS) qg.nil)))))) (qg.cons (FzW.still tB) qg.nil))))
  ·try dsimp only at h
   obtain rfl:=si h
   exact hret
def jC (N:Nat) (n:qb):Option Int:=
 (jS N n.Line).bind fun r1=>
 ((ym N n.Desk).bind fun r2=>
 (jr n.Number 1 1000).bind fun r3=>
 (jr n.Clock 1 1000000).bind fun r4=>
 if(!r1.2)=true then
 (ku true 25).bind fun r6=>
 (kw N ([r2,r3,r4,r6]:List Int)).bind fun r7=>
 some (r2,r3,r4,r6,r7)
 else
 (ku (r1.1.Kind==[117,110,100,111]) 25).bind fun r8=>
 (kw N ([r2,r3,r4,r8]:List Int)).bind fun r9=>
 some (r2,r3,r4,r8,r9):Option (Int×Int×Int×Int×Int)).bind fun(n10,n11,n12,n13,n14)=>
 some n14
theorem qa5 (N:Nat) (n:qb) {res:Int} (h:jC N n=some res):qc Tryz.prog (.fn 132) [.agg (kAW n.Desk n.Number n.Clock n.Line)] [] (.i res) []:=by
 unfold jC at h
 refine Goes.fnW Tryz.func132 rfl rfl (m:=30) rfl (rs:=[.tmp 2]) rfl (l:=[(0,.agg [.str n.Desk,.i n.Number,.i n.Clock,.str n.Line])]) rfl ?_
 refine sg fol [(1,.ptr 0 0)] (kD n.Desk n.Number n.Clock n.Line []) ?_
 obtain⟨r1,e_r1,h⟩:=bnd h
 refine sq (gq fol [2] [(1,.ptr 0 0),(3,.ptr 1 0),(4,.bool r1.2)] (kD n.Desk n.Number n.Clock n.Line [.cells (cE r1.1)]) (ac (cv (qbx N n.Line e_r1)) az) ?_)
 refine sq ?_
 obtain⟨⟨n10,n11,n12,n13,n14⟩,g_v15,h⟩:=bnd h
 refine Goes.cut (s':=(ofG 30 [(2,.i n14)],(kD n.Desk n.Number n.Clock n.Line [.cells (cE r1.1),.cells [.i n10,.i n11,.i n12,.i n13]]))) ?_ ?_
 ·obtain⟨r2,e_r2,g_v15⟩:=bnd g_v15
  obtain⟨r3,e_r3,g_v15⟩:=bnd g_v15
  obtain⟨r4,e_r4,g_v15⟩:=bnd g_v15
  rcases wyB g_v15 with⟨c5,g_v15⟩|⟨c5,g_v15⟩
  ·obtain⟨r6,e_r6,g_v15⟩:=bnd g_v15
   obtain⟨r7,e_r7,g_v15⟩:=bnd g_v15
   simp only[Option.some.injEq,Prod.mk.injEq]at g_v15
   obtain⟨rfl,rfl,rfl,rfl,rfl⟩:=g_v15
   exact zq.rq fol [2,5,8,11,16,18] [(2,.i r7)] (kD n.Desk n.Number n.Clock n.Line [.cells (cE r1.1),.cells [.i r2,.i r3,.i r4,.i r6]]) (ac (cv (qaw N n.Desk e_r2)) (ac (cv (vC n.Number 1 1000 e_r3)) (ac (cv (vC n.Clock 1 1000000 e_r4)) (ac (gw c5) (ac (cv (qF true 25 e_r6)) (ac (hs (.call 86 [.slice 2 0 4 4 1] (kD n.Desk n.Number n.Clock n.Line [.cells (cE r1.1),.cells [.i r2,.i r3,.i r4,.i r6]]) [2] [vl encI ([r2,r3,r4,r6]:List Int)] (.i r7)) (vH (FzL.cons (Fz.lit rfl rfl (FzL.still (AllST.cons tI (AllST.cons tI (AllST.cons tI (AllST.cons tI AllST.nil)))))) FzL.nil) (zo N ([r2,r3,r4,r6]:List Int) e_r7) tI rfl)) az))))))
  ·obtain⟨r8,e_r8,g_v15⟩:=bnd g_v15
   obtain⟨r9,e_r9,g_v15⟩:=bnd g_v15
   simp only[Option.some.injEq,Prod.mk.injEq]at g_v15
   obtain⟨rfl,rfl,rfl,rfl,rfl⟩:=g_v15
   exact zq.rq fol [2,5,8,11,16,18] [(2,.i r9)] (kD n.Desk n.Number n.Clock n.Line [.cells (cE r1.1),.cells [.i r2,.i r3,.i r4,.i r8]]) (ac (cv (qaw N n.Desk e_r2)) (ac (cv (vC n.Number 1 1000 e_r3)) (ac (cv (vC n.Clock 1 1000000 e_r4)) (ac (gw c5) (ac (cv (qF (r1.1.Kind==[117,110,100,111]) 25 e_r8)) (ac (hs (.call 86 [.slice 2 0 4 4 1] (kD n.Desk n.Number n.Clock n.Line [.cells (cE r1.1),.cells [.i r2,.i r3,.i r4,.i r8]]) [2] [vl encI ([r2,r3,r4,r8]:List Int)] (.i r9)) (vH (FzL.cons (Fz.lit rfl rfl (FzL.still (AllST.cons tI (AllST.cons tI (AllST.cons tI (AllST.cons tI AllST.nil)))))) FzL.nil) (zo N ([r2,r3,r4,r8]:List Int) e_r9) tI rfl)) az))))))
 try dsimp only at h
 refine Goes.ret ?_
 obtain rfl:=si h
 exact(gw2 [.i n14] (FzW.still tI))
end Go.Av
