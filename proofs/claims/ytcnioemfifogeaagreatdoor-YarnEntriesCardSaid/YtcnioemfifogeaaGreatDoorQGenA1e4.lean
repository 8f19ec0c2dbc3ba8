/-
  Walks of functions: what each computes, as a plain function.
-/
import Derived.Test.YtcnioemfifogeaaGreatDoorQGenA1e3
noncomputable section
namespace Go.Av
open Go.Proofs Go.RowKit
set_option linter.unusedSectionVars false
set_option linter.unusedVariables false
set_option linter.unusedSimpArgs false
set_option maxRecDepth 100000
def qaq (N:Nat) (a:qm) (e:qh):Option (Int×Int):=
 (vO N a).bind fun c=>
 (vP N e).bind fun d=>
 (zF N ([c,d]:List Int)).bind fun b=>
 if(!decide (b=0))=true then
 some (0,b)
 else
 (vo N a e).bind fun f=>
 some (f,0)
theorem qdV (N:Nat) (a:qm) (e:qh) {res:Int×Int} (h:qaq N a e=some res):qf ZT (.fn 23) (kX a.Day a.Lots a.Holds (kAW e.Kind e.Day e.Lot e.Amount e.Yarn e.Dye e.Order [])) [] (.tuple [.i res.1,.i res.2]) []:=by
 unfold qaq at h
 refine Uc Tryz.func23 rfl rfl (m:=19) rfl (rs:=[.tmp 4,.tmp 5]) rfl (l:=(kS a.Day a.Lots a.Holds (kAO e.Kind e.Day e.Lot e.Amount e.Yarn e.Dye e.Order []))) rfl ?_
 refine sg fol (kG []) (kD a.Day a.Lots a.Holds e.Kind e.Day e.Lot e.Amount e.Yarn e.Dye e.Order []) ?_
 refine sq ?_
 obtain⟨j,c,h⟩:=bnd h
 obtain⟨k,d,h⟩:=bnd h
 obtain⟨b,f,h⟩:=bnd h
 refine sq (gq fol [1,3,5] (kG [(6,.i b)]) (kD a.Day a.Lots a.Holds e.Kind e.Day e.Lot e.Amount e.Yarn e.Dye e.Order (kAR j k)) (ac (cv (zA N a c)) (ac (cv (zW N e d)) (ac (hs (.call 50 [.slice 2 0 2 2 1] (kD a.Day a.Lots a.Holds e.Kind e.Day e.Lot e.Amount e.Yarn e.Dye e.Order (kAR j k)) [2] [vl encI ([j,k]:List Int)] (.i b)) (jl (FzL.cons (Fz.lit rfl rfl (Ue (AllST.cons tI (AllST.cons tI AllST.nil)))) FzL.nil) (zQ N ([j,k]:List Int) f) tI rfl)) az))) ?_)
 refine sh fol (kG [(6,.i b),(14,.bool (!decide (b=0)))]) ?_
 refine ihB h (fun o h=>?_) (fun o h=>?_)
 ·refine sh fol ((4,.i 0)::(kAd b)) ?_
  refine Goes.ret ?_
  obtain rfl:=si h
  exact(gw2 [.i 0,.i b] (FzW.tuple (qp.cons (Ub tI) (qp.cons (Ub tI) qp.nil))))
 refine Goes.skip ?_
 obtain⟨n,g,h⟩:=bnd h
 refine sq (gr fol [2] [(4,.i n),(5,.i 0)] (ac (cv (qdE N a e g)) az) ?_)
 refine Goes.ret ?_
 obtain rfl:=si h
 exact(gw2 [.i n,.i 0] (FzW.tuple (qp.cons (Ub tI) (qp.cons (Ub tI) qp.nil))))
def qdu (N:Nat) (a:qm) (e:qh):Option (qm×Int):=
 (qaq N a e).bind fun b=>
 (zw (!decide (b.1=0)) 18).bind fun d=>
 (zF N ([b.2,d]:List Int)).bind fun c=>
 if(!decide (c=0))=true then
 some ((⟨0,[],[]⟩:qm),c)
 else
 (jV N a e).bind fun f=>
 some (f,0)
theorem qgT (N:Nat) (a:qm) (e:qh) {res:qm×Int} (h:qdu N a e=some res):qf ZT (.fn 24) (kX a.Day a.Lots a.Holds (kAW e.Kind e.Day e.Lot e.Amount e.Yarn e.Dye e.Order [])) [] (.tuple (kX res.1.Day res.1.Lots res.1.Holds [.i res.2])) []:=by
 unfold qdu at h
 refine Uc Tryz.func24 rfl rfl (m:=27) rfl (rs:=[.cell 4 30,.tmp 5]) rfl (l:=(kS a.Day a.Lots a.Holds (kAO e.Kind e.Day e.Lot e.Amount e.Yarn e.Dye e.Order []))) rfl ?_
 refine sg fol (kG (kAX [])) (kD a.Day a.Lots a.Holds e.Kind e.Day e.Lot e.Amount e.Yarn e.Dye e.Order (kF [])) ?_
 obtain⟨b,f,h⟩:=bnd h
 refine sq (gr fol [2] (kG (kAX [(6,.i b.1),(7,.i b.2)])) (ac (cv (qdV N a e f)) az) ?_)
 refine sq ?_
 obtain⟨g,j,h⟩:=bnd h
 obtain⟨c,k,h⟩:=bnd h
 refine sq (gq fol [3,5] (kG (kAX [(7,.i c)])) (kD a.Day a.Lots a.Holds e.Kind e.Day e.Lot e.Amount e.Yarn e.Dye e.Order (kF (kAR b.2 g))) (ac (cv (qM (!decide (b.1=0)) 18 j)) (ac (hs (.call 50 [.slice 3 0 2 2 1] (kD a.Day a.Lots a.Holds e.Kind e.Day e.Lot e.Amount e.Yarn e.Dye e.Order (kF (kAR b.2 g))) [3] [vl encI ([b.2,g]:List Int)] (.i c)) (jl (FzL.cons (Fz.lit rfl rfl (Ue (AllST.cons tI (AllST.cons tI AllST.nil)))) FzL.nil) (zQ N ([b.2,g]:List Int) k) tI rfl)) az)) ?_)
 refine sh fol (kG (kAX [(7,.i c),(21,.bool (!decide (c=0)))])) ?_
 refine ihB h (fun o h=>?_) (fun o h=>?_)
 ·refine sh fol (kAX (kAd c)) ?_
  refine Goes.ret ?_
  obtain rfl:=si h
  exact(gw2 [.agg [.i 0,.nilslice,.nilslice],.i c] (FzW.tuple (qp.cons (FzW.agg (qp.cons (Ub tI) (qp.cons (FzW.nilv (E:=qb)) (qp.cons (FzW.nilv (E:=qa)) qp.nil)))) (qp.cons (Ub tI) qp.nil))))
 refine Goes.skip ?_
 obtain⟨d,n,h⟩:=bnd h
 refine sq (gq fol [2] (kAX [(5,.i 0)]) (kD a.Day a.Lots a.Holds e.Kind e.Day e.Lot e.Amount e.Yarn e.Dye e.Order (kE d.Day d.Lots d.Holds (kAR b.2 g))) (ac (cv (qbk N a e n)) az) ?_)
 refine Goes.ret ?_
 obtain rfl:=si h
 exact(gw2 (kX d.Day d.Lots d.Holds [.i 0]) (FzW.tuple (qp.cons (FzW.agg (qp.cons (Ub tI) (qp.cons (Ub (qg qb _ (nl rfl))) (qp.cons (Ub (qg qa _ (nl rfl))) qp.nil)))) (qp.cons (Ub tI) qp.nil))))
def zJ (a:StateT) (i:Int):Nat->Int->Int->Option Int
 |0,_,_=>none
 |K+1,b,c=>
  if c<(a.Holds.length:Int)then
  (((idx a.Holds c).bind fun e=>
  (idx a.Lots i).bind fun d=>
  if(e.Lot==d.Name)=true then
  some (w64 (b-e.Reserved))
  else
  some b:Option Int)).bind fun f=>
  zJ a i K f (w64 (c+1))
  else
  some b
def vz (N:Nat) (a:StateT) (i:Int):Option Int:=
 (idx a.Lots i).bind fun b=>
 (zJ a i N b.Stock 0).bind fun c=>
 some c
theorem qa0 (N:Nat) (a:StateT) (i:Int) {res:Int} (h:vz N a i=some res):qf ZT (.fn 35) (kX a.Day a.Lots a.Holds [.i i]) [] (.i res) []:=by
 unfold vz at h
 refine Uc Tryz.func35 rfl rfl (m:=42) rfl (rs:=[.tmp 4]) rfl (l:=(kS a.Day a.Lots a.Holds [(1,.i i)])) rfl ?_
 refine sg fol ((1,.i i)::(kT [])) (kE a.Day a.Lots a.Holds []) ?_
 obtain⟨o,e,h⟩:=bnd h
 refine sq (gr fol [3,5] ((1,.i i)::(kT (kAd o.Stock))) (ac (iv qbu qb e) (ac (lv 3 ce3 qb e rfl) az)) ?_)
 refine sq ?_
 refine sh fol ((1,.i i)::(kT [(5,.i o.Stock),(6,.i 0)])) ?_
 refine Goes.block ?_
 obtain⟨p,g5,h⟩:=bnd h
 refine Goes.imp (Q:=fun x s'=>(x= .exit 0/\ ∃g,g=p/\Sub s' (ofG 42 (kAd g),[]))) ?_ ?_
 ·refine Ud (fun M s=> ∃(f:Int) (d:Int),s=(ofG 42 ((1,.i i)::(kT (kAK f d))),(kE a.Day a.Lots a.Holds []))/\zJ a i M f d=some p) ?_ (m:=N) ⟨_,_,rfl,g5⟩
  rintro M s ⟨f,d,rfl,g5⟩
  cases M with
  |zero=>simp only[zJ]at g5;cases g5
  |succ M=>
   rw[zJ]at g5
   refine sq ?_
   refine sh fol ((1,.i i)::(kT [(5,.i f),(6,.i d),(17,.bool (decide (d<(a.Holds.length:Int))))])) ?_
   refine ihD g5 (fun r g5=>?_) (fun r g5=>?_)
   ·refine Goes.skip ?_
    refine sq ?_
    obtain⟨t,g8,g5⟩:=bnd g5
    refine Goes.imp (Q:=fun x s'=>(x= .normal/\ ∃j,j=t/\Sub s' (ofG 42 ((1,.i i)::(kT (kAK j d))),(kE a.Day a.Lots a.Holds [])))) ?_ ?_
    ·refine Goes.block ?_
     obtain⟨q,b,g8⟩:=bnd g8
     obtain⟨k,c,g8⟩:=bnd g8
     refine sq (gr fol [3,5,9,11] ((1,.i i)::(kT [(5,.i f),(6,.i d),(32,.bool (q.Lot==k.Name))])) (ac (iv qcK qa b) (ac (lv 0 ce9 qa b rfl) (ac (iv qbu qb c) (ac (lv 0 ce9 qb c rfl) az)))) ?_)
     refine ihB g8 (fun n g8=>?_) (fun n g8=>?_)
     ·refine gr fol [4,6] ((1,.i i)::(kT (kAK (w64 (f-q.Reserved)) d))) (ac (iv qcK qa b) (ac (lv 2 ce3 qa b rfl) az)) ?_
      obtain rfl:=si g8
      exact⟨rfl,_,rfl,(Sub.refl _)⟩
     refine Goes.skip ?_
     obtain rfl:=si g8
     exact⟨rfl,_,rfl,(Sub.keep [1,2,5,6] rfl rfl)⟩
    rintro x s' ⟨rfl,j,rfl,hsub⟩
    refine Goes.sub hsub ?_
    refine gh fol ((1,.i i)::(kT (kAK j (w64 (d+1))))) ?_
    exact⟨M,(ofG 42 ((1,.i i)::(kT (kAK j (w64 (d+1))))),(kE a.Day a.Lots a.Holds [])),Nat.lt_succ_self _,(Sub.refl _),_,_,rfl,g5⟩
   refine Goes.exit ?_
   obtain rfl:=si g5
   exact⟨rfl,_,rfl,(Sub.norm [] [] rfl rfl (.drop (.drop (.keep (.same nI) .nil))) .nil)⟩
 rintro x s' ⟨rfl,g,rfl,hsub⟩
 refine Goes.sub hsub ?_
 refine sh fol (kAs g) ?_
 refine Goes.ret ?_
 obtain rfl:=si h
 exact(gw2 [.i g] (Ub tI))
def yR (n:Int) (least:Int) (most:Int):Option Bool:=
 (if n<least then
 some true
 else
 some (decide (n>most)):Option Bool).bind fun a=>
 some a
theorem vR (n:Int) (least:Int) (most:Int) {res:Bool} (h:yR n least most=some res):qf ZT (.fn 60) [.i n,.i least,.i most] [] (.bool res) []:=by
 unfold yR at h
 refine Uc Tryz.func60 rfl rfl (m:=15) rfl (rs:=[.tmp 6]) rfl (l:=((0,.i n)::(1,.i least)::(kAu most))) rfl ?_
 refine sh fol ((0,.i n)::(1,.i least)::(kAu most)) ?_
 refine sq ?_
 obtain⟨c,a,h⟩:=bnd h
 refine Goes.cut (s':=(ofG 15 [(6,.bool c)],[])) ?_ ?_
 ·rcases wyD a with⟨b,a⟩|⟨b,a⟩
  ·obtain rfl:=si a
   exact tr fol [3] [(6,.bool true)] (ac (gw b) az)
  obtain rfl:=si a
  exact tr fol [3] [(6,.bool (decide (n>most)))] (ac (gw b) az)
 refine Goes.ret ?_
 obtain rfl:=si h
 exact(gw2 [.bool c] (Ub tB))
def jW (c:Str):Nat->Int->Option (Unit⊕Bool)
 |0,_=>none
 |K+1,b=>
  if b<(c.length:Int)then
  (idx c b).bind fun a=>
  (if(a.toNat:Int)>=97 then
  if(a.toNat:Int)<=122 then
  some true
  else
  if(a.toNat:Int)>=65 then
  some (decide ((a.toNat:Int)<=90))
  else
  some false
  else
  if(a.toNat:Int)>=65 then
  some (decide ((a.toNat:Int)<=90))
  else
  some false:Option Bool).bind fun d=>
  (if(!d)=true then
  if b=0 then
  some true
  else
  if(a.toNat:Int)>=48 then
  if(a.toNat:Int)<=57 then
  some false
  else
  some (!(decide ((a.toNat:Int)=95)))
  else
  some (!(decide ((a.toNat:Int)=95)))
  else
  some false:Option Bool).bind fun e=>
  if e=true then
  some (.inr false)
  else
  jW c K (w64 (b+1))
  else
  some (.inl ())
def ja (N:Nat) (a:Str):Option Bool:=
 (if(a.length:Int)<1 then
 some true
 else
 some (decide ((a.length:Int)>24)):Option Bool).bind fun c=>
 if c=true then
 some false
 else
 (jW a N 0).bind (fun
 |(.inl ())=>
 some true
 |(.inr b)=>
 some b)
theorem kz (N:Nat) (c:Str) {res:Bool} (h:ja N c=some res):qf ZT (.fn 61) [.str c] [] (.bool res) []:=by
 unfold ja at h
 refine Uc Tryz.func61 rfl rfl (m:=56) rfl (rs:=[.tmp 2]) rfl (l:=[(0,.str c)]) rfl ?_
 refine sh fol [(0,.str c)] ?_
 refine sq ?_
 refine sq ?_
 obtain⟨B,e,h⟩:=bnd h
 refine Goes.cut (s':=(ofG 56 [(0,.str c),(13,.bool B)],[])) ?_ ?_
 ·rcases wyD e with⟨u,e⟩|⟨u,e⟩
  ·obtain rfl:=si e
   exact tr fol [3] [(0,.str c),(13,.bool true)] (ac (gw u) az)
  obtain rfl:=si e
  exact tr fol [3] [(0,.str c),(13,.bool (decide ((c.length:Int)>24)))] (ac (gw u) az)
 refine ihB h (fun C h=>?_) (fun C h=>?_)
 ·refine sh fol kAc ?_
  refine Goes.ret ?_
  obtain rfl:=si h
  exact(gw2 [.bool false] (Ub tB))
 refine Goes.skip ?_
 refine sq ?_
 refine sh fol [(0,.str c),(3,.i 0)] ?_
 refine Goes.block ?_
 obtain⟨v,g6,h⟩:=bnd h
 refine Goes.imp (Q:=fun x s'=>(x= .exit 0/\(.inl ())=v/\Sub s' (ofG 56 [],[]))\/(x= .ret/\ ∃A,(.inr A)=v/\qP ZT [.tmp 2] (.bool A) .ret s')) ?_ ?_
 ·refine Ud (fun M s=> ∃(d:Int),s=(ofG 56 (kAb c d []),[])/\jW c M d=some v) ?_ (m:=N) ⟨_,rfl,g6⟩
  rintro M s ⟨d,rfl,g6⟩
  cases M with
  |zero=>simp only[jW]at g6;cases g6
  |succ M=>
   rw[jW]at g6
   refine sq ?_
   refine sh fol (kAb c d [(17,.bool (decide (d<(c.length:Int))))]) ?_
   refine ihD g6 (fun D g6=>?_) (fun D g6=>?_)
   ·refine Goes.skip ?_
    refine sq (Goes.block ?_)
    obtain⟨j,t,g6⟩:=bnd g6
    refine sq (gr fol [2] (kAb c d [(4,.int .u8 (j.toNat:Int))]) (ac (hs (.done (.opt (qd2 ZT 9 (.str c) (.i d))) (.int .u8 (j.toNat:Int))) (qne st9 t)) az) ?_)
    refine sq ?_
    obtain⟨w,a,g6⟩:=bnd g6
    refine Goes.cut (s':=(ofG 56 (kAb c d [(4,.int .u8 (j.toNat:Int)),(5,.bool w)]),[])) ?_ ?_
    ·rcases wyD a with⟨f,a⟩|⟨f,a⟩
     ·rcases wyD a with⟨n,a⟩|⟨n,a⟩
      ·obtain rfl:=si a
       exact tr fol [2,6] (kAb c d [(4,.int .u8 (j.toNat:Int)),(5,.bool true)]) (ac (gw f) (ac (gw n) az))
      rcases wyD a with⟨p,a⟩|⟨p,a⟩
      ·obtain rfl:=si a
       exact tr fol [2,6,9] (kAb c d [(4,.int .u8 (j.toNat:Int)),(5,.bool (decide ((j.toNat:Int)<=90)))]) (ac (gw f) (ac (gw n) (ac (gw p) az)))
      obtain rfl:=si a
      exact tr fol [2,6,9] (kAb c d [(4,.int .u8 (j.toNat:Int)),(5,.bool false)]) (ac (gw f) (ac (gw n) (ac (gw p) az)))
     rcases wyD a with⟨q,a⟩|⟨q,a⟩
     ·obtain rfl:=si a
      exact tr fol [2,9] (kAb c d [(4,.int .u8 (j.toNat:Int)),(5,.bool (decide ((j.toNat:Int)<=90)))]) (ac (gw f) (ac (gw q) az))
     obtain rfl:=si a
     exact tr fol [2,9] (kAb c d [(4,.int .u8 (j.toNat:Int)),(5,.bool false)]) (ac (gw f) (ac (gw q) az))
    refine sq ?_
    obtain⟨y,b,g6⟩:=bnd g6
    refine Goes.cut (s':=(ofG 56 (kAb c d [(55,.bool y)]),[])) ?_ ?_
    ·rcases wyB b with⟨g,b⟩|⟨g,b⟩
     ·rcases wyD b with⟨k,b⟩|⟨k,b⟩
      ·obtain rfl:=si b
       exact tr fol [2,5] (kAb c d [(55,.bool true)]) (ac (gw g) (ac (gw k) az))
      rcases wyD b with⟨o,b⟩|⟨o,b⟩
      ·rcases wyD b with⟨r,b⟩|⟨r,b⟩
       ·obtain rfl:=si b
        exact tr fol [2,5,8,12] (kAb c d [(55,.bool false)]) (ac (gw g) (ac (gw k) (ac (gw o) (ac (gw r) az))))
       obtain rfl:=si b
       exact tr fol [2,5,8,12] (kAb c d [(55,.bool (!(decide ((j.toNat:Int)=95))))]) (ac (gw g) (ac (gw k) (ac (gw o) (ac (gw r) az))))
      obtain rfl:=si b
      exact tr fol [2,5,8] (kAb c d [(55,.bool (!(decide ((j.toNat:Int)=95))))]) (ac (gw g) (ac (gw k) (ac (gw o) az)))
     obtain rfl:=si b
     exact tr fol [2] (kAb c d [(55,.bool false)]) (ac (gw g) az)
    refine ihB g6 (fun z g6=>?_) (fun z g6=>?_)
    ·refine sh fol kAc ?_
     refine Goes.ret ?_
     obtain rfl:=si g6
     exact Or.inr (⟨rfl,_,rfl,(gw2 [.bool false] (Ub tB))⟩)
    refine Goes.skip ?_
    refine gh fol (kAb c (w64 (d+1)) []) ?_
    exact⟨M,(ofG 56 (kAb c (w64 (d+1)) []),[]),Nat.lt_succ_self _,(Sub.refl _),_,rfl,g6⟩
   refine Goes.exit ?_
   obtain rfl:=si g6
   exact Or.inl (⟨rfl,rfl,(Sub.keep [] rfl rfl)⟩)
 rintro x s' (⟨rfl,rfl,hsub⟩|⟨rfl,E,rfl,hret⟩)
 ·try dsimp only at h
  refine Goes.sub hsub ?_
  refine sh fol [(2,.bool true)] ?_
  refine Goes.ret ?_
  obtain rfl:=si h
  exact(gw2 [.bool true] (Ub tB))
 try dsimp only at h
 obtain rfl:=si h
 exact hret
def xN (N:Nat) (a:Str):Option Bool:=
 (if(a==[])=true then
 some true
 else
 (ja N a).bind fun b=>
 some b:Option Bool).bind fun c=>
 some c
theorem qc7 (N:Nat) (b:Str) {res:Bool} (h:xN N b=some res):qf ZT (.fn 62) [.str b] [] (.bool res) []:=by
 unfold xN at h
 refine Uc Tryz.func62 rfl rfl (m:=9) rfl (rs:=[.tmp 2]) rfl (l:=[(0,.str b)]) rfl ?_
 refine sh fol [(0,.str b)] ?_
 refine sq ?_
 obtain⟨e,a,h⟩:=bnd h
 refine Goes.cut (s':=(ofG 9 (kAV e),[])) ?_ ?_
 ·rcases wyB a with⟨d,a⟩|⟨d,a⟩
  ·obtain rfl:=si a
   exact tr fol [2] [(2,.bool true)] (ac (gw d) az)
  obtain⟨f,c,a⟩:=bnd a
  obtain rfl:=si a
  exact tr fol [2,4] (kAV f) (ac (gw d) (ac (cv (kz N b c)) az))
 refine Goes.ret ?_
 obtain rfl:=si h
 exact(gw2 [.bool e] (Ub tB))
def kg (b:StateT) (name:Str):Nat->Int->Option (Unit⊕Int)
 |0,_=>none
 |K+1,a=>
  if a<(b.Lots.length:Int)then
  (idx b.Lots a).bind fun c=>
  if(c.Name==name)=true then
  some (.inr a)
  else
  kg b name K (w64 (a+1))
  else
  some (.inl ())
def qK (N:Nat) (a:StateT) (name:Str):Option Int:=
 (kg a name N 0).bind (fun
 |(.inl ())=>
 some (-1)
 |(.inr b)=>
 some b)
theorem vS (N:Nat) (a:StateT) (name:Str) {res:Int} (h:qK N a name=some res):qf ZT (.fn 63) (kX a.Day a.Lots a.Holds [.str name]) [] (.i res) []:=by
 unfold qK at h
 refine Uc Tryz.func63 rfl rfl (m:=22) rfl (rs:=[.tmp 4]) rfl (l:=(kS a.Day a.Lots a.Holds [(1,.str name)])) rfl ?_
 refine sg fol ((1,.str name)::(kT [])) (kE a.Day a.Lots a.Holds []) ?_
 refine sq ?_
 refine sh fol ((1,.str name)::(kT [(5,.i 0)])) ?_
 refine Goes.block ?_
 obtain⟨d,g2,h⟩:=bnd h
 refine Goes.imp (Q:=fun x s'=>(x= .exit 0/\(.inl ())=d/\Sub s' (ofG 22 [],[]))\/(x= .ret/\ ∃e,(.inr e)=d/\qP ZT [.tmp 4] (.i e) .ret s')) ?_ ?_
 ·refine Ud (fun M s=> ∃(b:Int),s=(ofG 22 ((1,.str name)::(kT (kAd b))),(kE a.Day a.Lots a.Holds []))/\kg a name M b=some d) ?_ (m:=N) ⟨_,rfl,g2⟩
  rintro M s ⟨b,rfl,g2⟩
  cases M with
  |zero=>simp only[kg]at g2;cases g2
  |succ M=>
   rw[kg]at g2
   refine sq ?_
   refine sh fol ((1,.str name)::(kT [(5,.i b),(10,.bool (decide (b<(a.Lots.length:Int))))])) ?_
   refine ihD g2 (fun f g2=>?_) (fun f g2=>?_)
   ·refine Goes.skip ?_
    refine sq (Goes.block ?_)
    obtain⟨g,c,g2⟩:=bnd g2
    refine sq (gr fol [3,5] ((1,.str name)::(kT [(5,.i b),(20,.bool (g.Name==name))])) (ac (iv qbu qb c) (ac (lv 0 ce9 qb c rfl) az)) ?_)
    refine ihB g2 (fun j g2=>?_) (fun j g2=>?_)
    ·refine sh fol (kAs b) ?_
     refine Goes.ret ?_
     obtain rfl:=si g2
     exact Or.inr (⟨rfl,_,rfl,(gw2 [.i b] (Ub tI))⟩)
    refine Goes.skip ?_
    refine gh fol ((1,.str name)::(kT (kAd (w64 (b+1))))) ?_
    exact⟨M,(ofG 22 ((1,.str name)::(kT (kAd (w64 (b+1))))),(kE a.Day a.Lots a.Holds [])),Nat.lt_succ_self _,(Sub.refl _),_,rfl,g2⟩
   refine Goes.exit ?_
   obtain rfl:=si g2
   exact Or.inl (⟨rfl,rfl,(Sub.norm [] [] rfl rfl .nil .nil)⟩)
 rintro x s' (⟨rfl,rfl,hsub⟩|⟨rfl,k,rfl,hret⟩)
 ·try dsimp only at h
  refine Goes.sub hsub ?_
  refine sh fol kAq ?_
  refine Goes.ret ?_
  obtain rfl:=si h
  exact(gw2 [.i (-1)] (Ub tI))
 try dsimp only at h
 obtain rfl:=si h
 exact hret
def yn (a:qd) (b:qd):Option Bool:=
 (if(!(ltL a.Lot b.Lot||a.Lot==b.Lot))=true then
 some true
 else
 if(a.Lot==b.Lot)=true then
 some (!(ltL a.Order b.Order||a.Order==b.Order))
 else
 some false:Option Bool).bind fun c=>
 some c
theorem qc9 (a:qd) (b:qd) {res:Bool} (h:yn a b=some res):qf ZT (.fn 64) (kAG a.Lot a.Order a.Reserved a.Taken (kAG b.Lot b.Order b.Reserved b.Taken [])) [] (.bool res) []:=by
 unfold yn at h
 refine Uc Tryz.func64 rfl rfl (m:=24) rfl (rs:=[.tmp 4]) rfl (l:=(kAy a.Lot a.Order a.Reserved a.Taken [(1,.agg [.str b.Lot,.str b.Order,.i b.Reserved,.i b.Taken])])) rfl ?_
 refine sg fol (kG []) (kJ a.Lot a.Order a.Reserved a.Taken (kJ b.Lot b.Order b.Reserved b.Taken [])) ?_
 refine sq ?_
 obtain⟨f,c,h⟩:=bnd h
 refine Goes.cut (s':=(ofG 24 [(4,.bool f)],(kJ a.Lot a.Order a.Reserved a.Taken (kJ b.Lot b.Order b.Reserved b.Taken [])))) ?_ ?_
 ·rcases wyB c with⟨d,c⟩|⟨d,c⟩
  ·obtain rfl:=si c
   exact tr fol [5] kAm (ac (gw d) az)
  rcases wyB c with⟨e,c⟩|⟨e,c⟩
  ·obtain rfl:=si c
   exact tr fol [5,11] [(4,.bool (!(ltL a.Order b.Order||a.Order==b.Order)))] (ac (gw d) (ac (gw e) az))
  obtain rfl:=si c
  exact tr fol [5,11] kAY (ac (gw d) (ac (gw e) az))
 refine Goes.ret ?_
 obtain rfl:=si h
 exact(gw2 [.bool f] (Ub tB))
def zD (N:Nat) (d:StateT):Nat->Int->Option (Unit⊕Int)
 |0,_=>none
 |K+1,b=>
  if b<(d.Lots.length:Int)then
  (idx d.Lots b).bind fun a=>
  ((ja N a.Name).bind fun j=>
  if(!j)=true then
  some true
  else
  (ja N a.Yarn).bind fun e=>
  if(!e)=true then
  some true
  else
  (xN N a.Dye).bind fun f=>
  some (!f):Option Bool).bind fun g=>
  if g=true then
  some (.inr 8)
  else
  (if b>0 then
  (idx d.Lots (w64 (b-1))).bind fun c=>
  some (ltL a.Name c.Name||a.Name==c.Name)
  else
  some false:Option Bool).bind fun h=>
  if h=true then
  some (.inr 11)
  else
  (yR a.Stock 0 999999999).bind fun i=>
  if i=true then
  some (.inr 3)
  else
  zD N d K (w64 (b+1))
  else
  some (.inl ())
def zH (N:Nat) (c:StateT):Nat->Int->Option (Unit⊕Int)
 |0,_=>none
 |K+1,b=>
  if b<(c.Holds.length:Int)then
  (idx c.Holds b).bind fun a=>
  (qK N c a.Lot).bind fun d=>
  if d<0 then
  some (.inr 10)
  else
  (ja N a.Order).bind fun e=>
  if(!e)=true then
  some (.inr 8)
  else
  (if b>0 then
  (idx c.Holds (w64 (b-1))).bind fun f=>
  (yn a f).bind fun g=>
  some (!g)
  else
  some false:Option Bool).bind fun h=>
  if h=true then
  some (.inr 11)
  else
  ((yR a.Reserved 0 999999999).bind fun i=>
  if i=true then
  some true
  else
  (yR a.Taken 0 999999999).bind fun j=>
  some j:Option Bool).bind fun k=>
  if k=true then
  some (.inr 3)
  else
  (if a.Reserved=0 then
  some (decide (a.Taken=0))
  else
  some false:Option Bool).bind fun l=>
  if l=true then
  some (.inr 6)
  else
  zH N c K (w64 (b+1))
  else
  some (.inl ())
def qX (N:Nat) (b:StateT):Nat->Int->Option (Unit⊕Int)
 |0,_=>none
 |K+1,a=>
  if a<(b.Lots.length:Int)then
  (vz N b a).bind fun c=>
  if c<0 then
  some (.inr 32)
  else
  qX N b K (w64 (a+1))
  else
  some (.inl ())
def vB (N:Nat) (a:StateT):Option Int:=
 (yR a.Day 0 99999).bind fun e=>
 if e=true then
 some 3
 else
 if(a.Lots.length:Int)>64 then
 some 5
 else
 (zD N a N 0).bind (fun
 |(.inl ())=>
 if(a.Holds.length:Int)>256 then
 some 5
 else
 (zH N a N 0).bind (fun
 |(.inl ())=>
 (qX N a N 0).bind (fun
 |(.inl ())=>
 some 0
 |(.inr b)=>
 some b)
 |(.inr c)=>
 some c)
 |(.inr d)=>
 some d)
theorem zi (N:Nat) (a:StateT) {res:Int} (h:vB N a=some res):qf ZT (.fn 25) [.agg (kH a.Day a.Lots a.Holds)] [] (.i res) []:=by
 unfold vB at h
 refine Uc Tryz.func25 rfl rfl (m:=125) rfl (rs:=[.tmp 2]) rfl (l:=(kS a.Day a.Lots a.Holds [])) rfl ?_
 refine sg fol (kV []) (kE a.Day a.Lots a.Holds []) ?_
 refine sq ?_
 obtain⟨r1,P,h⟩:=bnd h
 refine sq (gr fol [2] (kV [(10,.bool r1)]) (ac (cv (vR a.Day 0 99999 P)) az) ?_)
 refine ihB h (fun c2 h=>?_) (fun c2 h=>?_)
 ·refine sh fol [(2,.i 3)] ?_
  refine Goes.ret ?_
  obtain rfl:=si h
  exact(gw2 [.i 3] (Ub tI))
 refine Goes.skip ?_
 refine sq ?_
 refine sh fol (kV [(14,.bool (decide ((a.Lots.length:Int)>64)))]) ?_
 refine ihD h (fun c3 h=>?_) (fun c3 h=>?_)
 ·refine sh fol [(2,.i 5)] ?_
  refine Goes.ret ?_
  obtain rfl:=si h
  exact(gw2 [.i 5] (Ub tI))
 refine Goes.skip ?_
 refine sq ?_
 refine sh fol (kV [(3,.i 0)]) ?_
 refine Goes.block ?_
 obtain⟨W,g5,h⟩:=bnd h
 refine Goes.imp (Q:=fun x s'=>(x= .exit 0/\(.inl ())=W/\Sub s' (ofG 125 (kV []),(kE a.Day a.Lots a.Holds [])))\/(x= .ret/\ ∃q6,(.inr q6)=W/\qP ZT [.tmp 2] (.i q6) .ret s')) ?_ ?_
 ·refine Ud (fun M s=> ∃(o:Int),s=(ofG 125 (kV [(3,.i o)]),(kE a.Day a.Lots a.Holds []))/\zD N a M o=some W) ?_ (m:=N) ⟨_,rfl,g5⟩
  rintro M s ⟨o,rfl,g5⟩
  cases M with
  |zero=>simp only[zD]at g5;cases g5
  |succ M=>
   rw[zD]at g5
   refine sq ?_
   refine sh fol (kV [(3,.i o),(19,.bool (decide (o<(a.Lots.length:Int))))]) ?_
   refine ihD g5 (fun c7 g5=>?_) (fun c7 g5=>?_)
   ·refine Goes.skip ?_
    refine sq (Goes.block ?_)
    obtain⟨k,y,g5⟩:=bnd g5
    refine sq (gq fol [3,4] (kV ((3,.i o)::(kAF []))) (kE a.Day a.Lots a.Holds (kP k.Name k.Yarn k.Dye k.Stock [])) (ac (iv qbu qb y) (ac (la ag84 qb y) az)) ?_)
    refine sq ?_
    refine sq ?_
    obtain⟨X,b,g5⟩:=bnd g5
    refine Goes.cut (s':=(ofG 125 (kV ((3,.i o)::(kAF [(42,.bool X)]))),(kE a.Day a.Lots a.Holds (kP k.Name k.Yarn k.Dye k.Stock [])))) ?_ ?_
    ·obtain⟨r9,p,b⟩:=bnd b
     rcases wyB b with⟨w,b⟩|⟨w,b⟩
     ·obtain rfl:=si b
      exact tr fol [2,4] (kV ((3,.i o)::(kAF kAt))) (ac (cv (kz N k.Name p)) (ac (gw w) az))
     obtain⟨r11,q,b⟩:=bnd b
     rcases wyB b with⟨z,b⟩|⟨z,b⟩
     ·obtain rfl:=si b
      exact tr fol [2,4,7,10] (kV ((3,.i o)::(kAF kAt))) (ac (cv (kz N k.Name p)) (ac (gw w) (ac (cv (kz N k.Yarn q)) (ac (gw z) az))))
     obtain⟨Y,A,b⟩:=bnd b
     obtain rfl:=si b
     exact tr fol [2,4,7,10,13] (kV ((3,.i o)::(kAF [(42,.bool (!Y))]))) (ac (cv (kz N k.Name p)) (ac (gw w) (ac (cv (kz N k.Yarn q)) (ac (gw z) (ac (cv (qc7 N k.Dye A)) az)))))
    refine ihB g5 (fun Z g5=>?_) (fun Z g5=>?_)
    ·refine sh fol [(2,.i 8)] ?_
     refine Goes.ret ?_
     obtain rfl:=si g5
     exact Or.inr (⟨rfl,_,rfl,(gw2 [.i 8] (Ub tI))⟩)
    refine Goes.skip ?_
    refine sq ?_
    refine sq ?_
    obtain⟨a0,g,g5⟩:=bnd g5
    refine Goes.cut (s':=(ofG 125 (kV ((3,.i o)::(kAF [(56,.bool a0)]))),(kE a.Day a.Lots a.Holds (kP k.Name k.Yarn k.Dye k.Stock [])))) ?_ ?_
    ·rcases wyD g with⟨B,g⟩|⟨B,g⟩
     ·obtain⟨T,r,g⟩:=bnd g
      obtain rfl:=si g
      exact tr fol [2,9,11] (kV ((3,.i o)::(kAF [(56,.bool (ltL k.Name T.Name||k.Name==T.Name))]))) (ac (gw B) (ac (iv qbu qb r) (ac (lv 0 ce9 qb r rfl) az)))
     obtain rfl:=si g
     exact tr fol [2] (kV ((3,.i o)::(kAF [(56,.bool false)]))) (ac (gw B) az)
    refine ihB g5 (fun a1 g5=>?_) (fun a1 g5=>?_)
    ·refine sh fol [(2,.i 11)] ?_
     refine Goes.ret ?_
     obtain rfl:=si g5
     exact Or.inr (⟨rfl,_,rfl,(gw2 [.i 11] (Ub tI))⟩)
    refine Goes.skip ?_
    obtain⟨a2,C,g5⟩:=bnd g5
    refine sq (gr fol [2] (kV [(3,.i o),(59,.bool a2)]) (ac (cv (vR k.Stock 0 999999999 C)) az) ?_)
    refine ihB g5 (fun a3 g5=>?_) (fun a3 g5=>?_)
    ·refine sh fol [(2,.i 3)] ?_
     refine Goes.ret ?_
     obtain rfl:=si g5
     exact Or.inr (⟨rfl,_,rfl,(gw2 [.i 3] (Ub tI))⟩)
    refine Goes.skip ?_
    refine gh fol (kV [(3,.i (w64 (o+1)))]) ?_
    exact⟨M,(ofG 125 (kV [(3,.i (w64 (o+1)))]),(kE a.Day a.Lots a.Holds [])),Nat.lt_succ_self _,(Sub.norm [] [some 0] rfl rfl (.kp (.keep (.same nI) .nil)) (.kb rfl (.same sn) .nil)),_,rfl,g5⟩
   refine Goes.exit ?_
   obtain rfl:=si g5
   exact Or.inl (⟨rfl,rfl,(Sub.keep [1] rfl rfl)⟩)
 rintro x s' (⟨rfl,rfl,hsub⟩|⟨rfl,q58,rfl,hret⟩)
 ·try dsimp only at h
  refine Goes.sub hsub ?_
  refine sq ?_
  refine sh fol (kV [(63,.bool (decide ((a.Holds.length:Int)>256)))]) ?_
  refine ihD h (fun a4 h=>?_) (fun a4 h=>?_)
  ·refine sh fol [(2,.i 5)] ?_
   refine Goes.ret ?_
   obtain rfl:=si h
   exact(gw2 [.i 5] (Ub tI))
  refine Goes.skip ?_
  refine sq ?_
  refine sh fol (kV [(5,.i 0)]) ?_
  refine Goes.block ?_
  obtain⟨D,g26,h⟩:=bnd h
  refine Goes.imp (Q:=fun x s'=>(x= .exit 2/\(.inl ())=D/\Sub s' (ofG 125 (kV []),(kE a.Day a.Lots a.Holds [])))\/(x= .ret/\ ∃U,(.inr U)=D/\qP ZT [.tmp 2] (.i U) .ret s')) ?_ ?_
  ·refine Ud (fun M s=> ∃(d:Int),s=(ofG 125 (kV (kAd d)),(kE a.Day a.Lots a.Holds []))/\zH N a M d=some D) ?_ (m:=N) ⟨_,rfl,g26⟩
   rintro M s ⟨d,rfl,g26⟩
   cases M with
   |zero=>simp only[zH]at g26;cases g26
   |succ M=>
    rw[zH]at g26
    refine sq ?_
    refine sh fol (kV [(5,.i d),(68,.bool (decide (d<(a.Holds.length:Int))))]) ?_
    refine ihD g26 (fun a5 g26=>?_) (fun a5 g26=>?_)
    ·refine Goes.skip ?_
     refine sq (Goes.block ?_)
     obtain⟨c,t,g26⟩:=bnd g26
     refine sq (gq fol [3,4] (kV (kAk d [])) (kE a.Day a.Lots a.Holds (kJ c.Lot c.Order c.Reserved c.Taken [])) (ac (iv qcK qa t) (ac (la qgt qa t) az)) ?_)
     refine sq ?_
     obtain⟨a6,E,g26⟩:=bnd g26
     refine sq (gr fol [3] (kV (kAk d [(80,.bool (decide (a6<0)))])) (ac (cv (vS N a c.Lot E)) az) ?_)
     refine ihD g26 (fun a7 g26=>?_) (fun a7 g26=>?_)
     ·refine sh fol [(2,.i 10)] ?_
      refine Goes.ret ?_
      obtain rfl:=si g26
      exact Or.inr (⟨rfl,_,rfl,(gw2 [.i 10] (Ub tI))⟩)
     refine Goes.skip ?_
     refine sq ?_
     obtain⟨a8,F,g26⟩:=bnd g26
     refine sq (gr fol [2] (kV (kAk d [(84,.bool (!a8))])) (ac (cv (kz N c.Order F)) az) ?_)
     refine ihB g26 (fun a9 g26=>?_) (fun a9 g26=>?_)
     ·refine sh fol [(2,.i 8)] ?_
      refine Goes.ret ?_
      obtain rfl:=si g26
      exact Or.inr (⟨rfl,_,rfl,(gw2 [.i 8] (Ub tI))⟩)
     refine Goes.skip ?_
     refine sq ?_
     refine sq ?_
     obtain⟨b0,e,g26⟩:=bnd g26
     refine Goes.cut (s':=(ofG 125 (kV (kAk d [(97,.bool b0)])),(kE a.Day a.Lots a.Holds (kJ c.Lot c.Order c.Reserved c.Taken [])))) ?_ ?_
     ·rcases wyD e with⟨G,e⟩|⟨G,e⟩
      ·obtain⟨b1,u,e⟩:=bnd e
       obtain⟨b2,H,e⟩:=bnd e
       obtain rfl:=si e
       exact tr fol [2,8,9,10] (kV (kAk d [(97,.bool (!b2))])) (ac (gw G) (ac (iv qcK qa u) (ac (la qgt qa u) (ac (cv (qc9 c b1 H)) az))))
      obtain rfl:=si e
      exact tr fol [2] (kV (kAk d [(97,.bool false)])) (ac (gw G) az)
     refine ihB g26 (fun b3 g26=>?_) (fun b3 g26=>?_)
     ·refine sh fol [(2,.i 11)] ?_
      refine Goes.ret ?_
      obtain rfl:=si g26
      exact Or.inr (⟨rfl,_,rfl,(gw2 [.i 11] (Ub tI))⟩)
     refine Goes.skip ?_
     refine sq ?_
     refine sq ?_
     obtain⟨b4,f,g26⟩:=bnd g26
     refine Goes.cut (s':=(ofG 125 (kV (kAk d [(105,.bool b4)])),(kE a.Day a.Lots a.Holds (kJ c.Lot c.Order c.Reserved c.Taken [])))) ?_ ?_
     ·obtain⟨r40,v,f⟩:=bnd f
      rcases wyB f with⟨I,f⟩|⟨I,f⟩
      ·obtain rfl:=si f
       exact tr fol [2,3] (kV (kAk d [(105,.bool true)])) (ac (cv (vR c.Reserved 0 999999999 v)) (ac (gw I) az))
      obtain⟨b5,J,f⟩:=bnd f
      obtain rfl:=si f
      exact tr fol [2,3,6] (kV (kAk d [(105,.bool b5)])) (ac (cv (vR c.Reserved 0 999999999 v)) (ac (gw I) (ac (cv (vR c.Taken 0 999999999 J)) az)))
     refine ihB g26 (fun b6 g26=>?_) (fun b6 g26=>?_)
     ·refine sh fol [(2,.i 3)] ?_
      refine Goes.ret ?_
      obtain rfl:=si g26
      exact Or.inr (⟨rfl,_,rfl,(gw2 [.i 3] (Ub tI))⟩)
     refine Goes.skip ?_
     refine sq ?_
     obtain⟨b7,j,g26⟩:=bnd g26
     refine Goes.cut (s':=(ofG 125 (kV [(5,.i d),(113,.bool b7)]),(kE a.Day a.Lots a.Holds (kJ c.Lot c.Order c.Reserved c.Taken [])))) ?_ ?_
     ·rcases wyD j with⟨K,j⟩|⟨K,j⟩
      ·obtain rfl:=si j
       exact tr fol [3] (kV [(5,.i d),(113,.bool (decide (c.Taken=0)))]) (ac (gw K) az)
      obtain rfl:=si j
      exact tr fol [3] (kV [(5,.i d),(113,.bool false)]) (ac (gw K) az)
     refine ihB g26 (fun b8 g26=>?_) (fun b8 g26=>?_)
     ·refine sh fol [(2,.i 6)] ?_
      refine Goes.ret ?_
      obtain rfl:=si g26
      exact Or.inr (⟨rfl,_,rfl,(gw2 [.i 6] (Ub tI))⟩)
     refine Goes.skip ?_
     refine gh fol (kV (kAd (w64 (d+1)))) ?_
     exact⟨M,(ofG 125 (kV (kAd (w64 (d+1)))),(kE a.Day a.Lots a.Holds [])),Nat.lt_succ_self _,(Sub.norm [] [some 0] rfl rfl (.kp (.keep (.same nI) .nil)) (.kb rfl (.same sn) .nil)),_,rfl,g26⟩
    refine Goes.exit ?_
    obtain rfl:=si g26
    exact Or.inl (⟨rfl,rfl,(Sub.keep [1] rfl rfl)⟩)
  rintro x s' (⟨rfl,rfl,hsub⟩|⟨rfl,q57,rfl,hret⟩)
  ·try dsimp only at h
   refine Goes.sub hsub ?_
   refine sq ?_
   refine sh fol (kV [(7,.i 0)]) ?_
   refine Goes.block ?_
   obtain⟨L,g51,h⟩:=bnd h
   refine Goes.imp (Q:=fun x s'=>(x= .exit 4/\(.inl ())=L/\Sub s' (ofG 125 [],[]))\/(x= .ret/\ ∃V,(.inr V)=L/\qP ZT [.tmp 2] (.i V) .ret s')) ?_ ?_
   ·refine Ud (fun M s=> ∃(n:Int),s=(ofG 125 (kV [(7,.i n)]),(kE a.Day a.Lots a.Holds []))/\qX N a M n=some L) ?_ (m:=N) ⟨_,rfl,g51⟩
    rintro M s ⟨n,rfl,g51⟩
    cases M with
    |zero=>simp only[qX]at g51;cases g51
    |succ M=>
     rw[qX]at g51
     refine sq ?_
     refine sh fol (kV [(7,.i n),(118,.bool (decide (n<(a.Lots.length:Int))))]) ?_
     refine ihD g51 (fun b9 g51=>?_) (fun b9 g51=>?_)
     ·refine Goes.skip ?_
      refine sq (Goes.block ?_)
      obtain⟨c0,O,g51⟩:=bnd g51
      refine sq (gr fol [2] (kV [(7,.i n),(124,.bool (decide (c0<0)))]) (ac (cv (qa0 N a n O)) az) ?_)
      refine ihD g51 (fun c1 g51=>?_) (fun c1 g51=>?_)
      ·refine sh fol [(2,.i 32)] ?_
       refine Goes.ret ?_
       obtain rfl:=si g51
       exact Or.inr (⟨rfl,_,rfl,(gw2 [.i 32] (Ub tI))⟩)
      refine Goes.skip ?_
      refine gh fol (kV [(7,.i (w64 (n+1)))]) ?_
      exact⟨M,(ofG 125 (kV [(7,.i (w64 (n+1)))]),(kE a.Day a.Lots a.Holds [])),Nat.lt_succ_self _,(Sub.refl _),_,rfl,g51⟩
     refine Goes.exit ?_
     obtain rfl:=si g51
     exact Or.inl (⟨rfl,rfl,(Sub.norm [] [] rfl rfl .nil .nil)⟩)
   rintro x s' (⟨rfl,rfl,hsub⟩|⟨rfl,q56,rfl,hret⟩)
   ·try dsimp only at h
    refine Goes.sub hsub ?_
    refine sh fol [(2,.i 0)] ?_
    refine Goes.ret ?_
    obtain rfl:=si h
    exact(gw2 [.i 0] (Ub tI))
   try dsimp only at h
   obtain rfl:=si h
   exact hret
  try dsimp only at h
  obtain rfl:=si h
  exact hret
 try dsimp only at h
 obtain rfl:=si h
 exact hret
def vg (N:Nat) (e:qh):Option Int:=
 (if(!(e.Kind==[114,101,99,101,105,118,101]))=true then
 if(!(e.Kind==[114,101,115,101,114,118,101]))=true then
 if(!(e.Kind==[114,101,108,101,97,115,101]))=true then
 if(!(e.Kind==[116,97,107,101]))=true then
 some (!(e.Kind==[114,101,116,117,114,110]))
 else
 some false
 else
 some false
 else
 some false
 else
 some false:Option Bool).bind fun j=>
 if j=true then
 some 13
 else
 ((yR e.Day 0 99999).bind fun k=>
 if k=true then
 some true
 else
 (yR e.Amount 1 999999999).bind fun a=>
 some a:Option Bool).bind fun b=>
 if b=true then
 some 3
 else
 (ja N e.Lot).bind fun c=>
 if(!c)=true then
 some 8
 else
 if(e.Kind==[114,101,99,101,105,118,101])=true then
 ((ja N e.Yarn).bind fun d=>
 if(!d)=true then
 some true
 else
 (xN N e.Dye).bind fun f=>
 some (!f):Option Bool).bind fun g=>
 if g=true then
 some 8
 else
 if(!(e.Order==[]))=true then
 some 1
 else
 some 0
 else
 (ja N e.Order).bind fun h=>
 if(!h)=true then
 some 8
 else
 (if(!(e.Yarn==[]))=true then
 some true
 else
 some (!(e.Dye==[])):Option Bool).bind fun i=>
 if i=true then
 some 1
 else
 some 0
theorem zI (N:Nat) (e:qh) {res:Int} (h:vg N e=some res):qf ZT (.fn 26) [.agg (kA e.Kind e.Day e.Lot e.Amount e.Yarn e.Dye e.Order)] [] (.i res) []:=by
 unfold vg at h
 refine Uc Tryz.func26 rfl rfl (m:=63) rfl (rs:=[.tmp 2]) rfl (l:=[(0,.agg [.str e.Kind,.i e.Day,.str e.Lot,.i e.Amount,.str e.Yarn,.str e.Dye,.str e.Order])]) rfl ?_
 refine sg fol (kV []) (kM e.Kind e.Day e.Lot e.Amount e.Yarn e.Dye e.Order []) ?_
 refine sh fol (kV [(3,.str e.Kind)]) ?_
 refine sq ?_
 refine sq ?_
 obtain⟨K,a,h⟩:=bnd h
 refine Goes.cut (s':=(ofG 63 (kV [(3,.str e.Kind),(23,.bool K)]),(kM e.Kind e.Day e.Lot e.Amount e.Yarn e.Dye e.Order []))) ?_ ?_
 ·rcases wyB a with⟨r,a⟩|⟨r,a⟩
  ·rcases wyB a with⟨s,a⟩|⟨s,a⟩
   ·rcases wyB a with⟨t,a⟩|⟨t,a⟩
    ·rcases wyB a with⟨u,a⟩|⟨u,a⟩
     ·obtain rfl:=si a
      exact tr fol [2,6,10,14] (kV [(3,.str e.Kind),(23,.bool (!(e.Kind==[114,101,116,117,114,110])))]) (ac (gw r) (ac (gw s) (ac (gw t) (ac (gw u) az))))
     obtain rfl:=si a
     exact tr fol [2,6,10,14] (kV [(3,.str e.Kind),(23,.bool false)]) (ac (gw r) (ac (gw s) (ac (gw t) (ac (gw u) az))))
    obtain rfl:=si a
    exact tr fol [2,6,10] (kV [(3,.str e.Kind),(23,.bool false)]) (ac (gw r) (ac (gw s) (ac (gw t) az)))
   obtain rfl:=si a
   exact tr fol [2,6] (kV [(3,.str e.Kind),(23,.bool false)]) (ac (gw r) (ac (gw s) az))
  obtain rfl:=si a
  exact tr fol [2] (kV [(3,.str e.Kind),(23,.bool false)]) (ac (gw r) az)
 refine ihB h (fun L h=>?_) (fun L h=>?_)
 ·refine sh fol [(2,.i 13)] ?_
  refine Goes.ret ?_
  obtain rfl:=si h
  exact(gw2 [.i 13] (Ub tI))
 refine Goes.skip ?_
 refine sq ?_
 refine sq ?_
 obtain⟨v,b,h⟩:=bnd h
 refine Goes.cut (s':=(ofG 63 (kV [(3,.str e.Kind),(31,.bool v)]),(kM e.Kind e.Day e.Lot e.Amount e.Yarn e.Dye e.Order []))) ?_ ?_
 ·obtain⟨O,g,b⟩:=bnd b
  rcases wyB b with⟨w,b⟩|⟨w,b⟩
  ·obtain rfl:=si b
   exact tr fol [2,3] (kV [(3,.str e.Kind),(31,.bool true)]) (ac (cv (vR e.Day 0 99999 g)) (ac (gw w) az))
  obtain⟨x,j,b⟩:=bnd b
  obtain rfl:=si b
  exact tr fol [2,3,6] (kV [(3,.str e.Kind),(31,.bool x)]) (ac (cv (vR e.Day 0 99999 g)) (ac (gw w) (ac (cv (vR e.Amount 1 999999999 j)) az)))
 refine ihB h (fun y h=>?_) (fun y h=>?_)
 ·refine sh fol [(2,.i 3)] ?_
  refine Goes.ret ?_
  obtain rfl:=si h
  exact(gw2 [.i 3] (Ub tI))
 refine Goes.skip ?_
 refine sq ?_
 obtain⟨z,k,h⟩:=bnd h
 refine sq (gr fol [2] (kV [(3,.str e.Kind),(35,.bool (!z))]) (ac (cv (kz N e.Lot k)) az) ?_)
 refine ihB h (fun A h=>?_) (fun A h=>?_)
 ·refine sh fol [(2,.i 8)] ?_
  refine Goes.ret ?_
  obtain rfl:=si h
  exact(gw2 [.i 8] (Ub tI))
 refine Goes.skip ?_
 refine sq ?_
 refine sh fol (kV [(37,.bool (e.Kind==[114,101,99,101,105,118,101]))]) ?_
 refine ihB h (fun B h=>?_) (fun B h=>?_)
 ·refine sq ?_
  refine sq ?_
  obtain⟨C,c,h⟩:=bnd h
  refine Goes.cut (s':=(ofG 63 (kV [(47,.bool C)]),(kM e.Kind e.Day e.Lot e.Amount e.Yarn e.Dye e.Order []))) ?_ ?_
  ·obtain⟨M,f,c⟩:=bnd c
   rcases wyB c with⟨n,c⟩|⟨n,c⟩
   ·obtain rfl:=si c
    exact tr fol [2,4] (kV [(47,.bool true)]) (ac (cv (kz N e.Yarn f)) (ac (gw n) az))
   obtain⟨D,o,c⟩:=bnd c
   obtain rfl:=si c
   exact tr fol [2,4,7] (kV [(47,.bool (!D))]) (ac (cv (kz N e.Yarn f)) (ac (gw n) (ac (cv (qc7 N e.Dye o)) az)))
  refine ihB h (fun E h=>?_) (fun E h=>?_)
  ·refine sh fol [(2,.i 8)] ?_
   refine Goes.ret ?_
   obtain rfl:=si h
   exact(gw2 [.i 8] (Ub tI))
  refine Goes.skip ?_
  refine sq ?_
  refine sh fol [(50,.bool (!(e.Order==[])))] ?_
  refine ihB h (fun F h=>?_) (fun F h=>?_)
  ·refine sh fol [(2,.i 1)] ?_
   refine Goes.ret ?_
   obtain rfl:=si h
   exact(gw2 [.i 1] (Ub tI))
  refine Goes.skip ?_
  refine sh fol [(2,.i 0)] ?_
  refine Goes.ret ?_
  obtain rfl:=si h
  exact(gw2 [.i 0] (Ub tI))
 refine Goes.skip ?_
 refine sq ?_
 obtain⟨G,p,h⟩:=bnd h
 refine sq (gr fol [2] (kV [(54,.bool (!G))]) (ac (cv (kz N e.Order p)) az) ?_)
 refine ihB h (fun H h=>?_) (fun H h=>?_)
 ·refine sh fol [(2,.i 8)] ?_
  refine Goes.ret ?_
  obtain rfl:=si h
  exact(gw2 [.i 8] (Ub tI))
 refine Goes.skip ?_
 refine sq ?_
 refine sq ?_
 obtain⟨I,d,h⟩:=bnd h
 refine Goes.cut (s':=(ofG 63 [(62,.bool I)],(kM e.Kind e.Day e.Lot e.Amount e.Yarn e.Dye e.Order []))) ?_ ?_
 ·rcases wyB d with⟨q,d⟩|⟨q,d⟩
  ·obtain rfl:=si d
   exact tr fol [3] [(62,.bool true)] (ac (gw q) az)
  obtain rfl:=si d
  exact tr fol [3] [(62,.bool (!(e.Dye==[])))] (ac (gw q) az)
 refine ihB h (fun J h=>?_) (fun J h=>?_)
 ·refine sh fol [(2,.i 1)] ?_
  refine Goes.ret ?_
  obtain rfl:=si h
  exact(gw2 [.i 1] (Ub tI))
 refine Goes.skip ?_
 refine sh fol [(2,.i 0)] ?_
 refine Goes.ret ?_
 obtain rfl:=si h
 exact(gw2 [.i 0] (Ub tI))
def zk (a:StateT) (lot:Str) (order:Str):Nat->Int->Option (Unit⊕qd)
 |0,_=>none
 |K+1,b=>
  if b<(a.Holds.length:Int)then
  ((idx a.Holds b).bind fun d=>
  if(d.Lot==lot)=true then
  some (d.Order==order)
  else
  some false:Option Bool).bind fun e=>
  if e=true then
  (idx a.Holds b).bind fun c=>
  some (.inr c)
  else
  zk a lot order K (w64 (b+1))
  else
  some (.inl ())
def zZ (N:Nat) (b:StateT) (lot:Str) (order:Str):Option qd:=
 (zk b lot order N 0).bind (fun
 |(.inl ())=>
 some (⟨lot,order,0,0⟩:qd)
 |(.inr a)=>
 some a)
theorem xu (N:Nat) (a:StateT) (lot:Str) (order:Str) {res:qd} (h:zZ N a lot order=some res):qf ZT (.fn 65) (kX a.Day a.Lots a.Holds [.str lot,.str order]) [] (.agg (kAo res.Lot res.Order res.Reserved res.Taken)) []:=by
 unfold zZ at h
 refine Uc Tryz.func65 rfl rfl (m:=41) rfl (rs:=[.cell 6 118]) rfl (l:=(kS a.Day a.Lots a.Holds [(1,.str lot),(2,.str order)])) rfl ?_
 refine sg fol (kAE lot order []) (kE a.Day a.Lots a.Holds kAf) ?_
 refine sq ?_
 refine sh fol (kAE lot order [(7,.i 0)]) ?_
 refine Goes.block ?_
 obtain⟨j,g2,h⟩:=bnd h
 refine Goes.imp (Q:=fun x s'=>(x= .exit 0/\(.inl ())=j/\Sub s' (ofG 41 [(1,.str lot),(2,.str order),(6,.ptr 0 0)],kAf))\/(x= .ret/\ ∃g,(.inr g)=j/\qP ZT [.cell 6 118] (.agg (kAo g.Lot g.Order g.Reserved g.Taken)) .ret s')) ?_ ?_
 ·refine Ud (fun M s=> ∃(f:Int),s=(ofG 41 (kAE lot order [(7,.i f)]),(kE a.Day a.Lots a.Holds kAf))/\zk a lot order M f=some j) ?_ (m:=N) ⟨_,rfl,g2⟩
  rintro M s ⟨f,rfl,g2⟩
  cases M with
  |zero=>simp only[zk]at g2;cases g2
  |succ M=>
   rw[zk]at g2
   refine sq ?_
   refine sh fol (kAE lot order [(7,.i f),(12,.bool (decide (f<(a.Holds.length:Int))))]) ?_
   refine ihD g2 (fun n g2=>?_) (fun n g2=>?_)
   ·refine Goes.skip ?_
    refine sq (Goes.block ?_)
    refine sq ?_
    obtain⟨o,b,g2⟩:=bnd g2
    refine Goes.cut (s':=(ofG 41 (kAE lot order [(7,.i f),(32,.bool o)]),(kE a.Day a.Lots a.Holds kAf))) ?_ ?_
    ·obtain⟨p,c,b⟩:=bnd b
     rcases wyB b with⟨k,b⟩|⟨k,b⟩
     ·obtain rfl:=si b
      exact tr fol [3,5,8,12,14] (kAE lot order [(7,.i f),(32,.bool (p.Order==order))]) (ac (iv qcK qa c) (ac (lv 0 ce9 qa c rfl) (ac (gw k) (ac (iv qcK qa c) (ac (lv 1 ce9 qa c rfl) az)))))
     obtain rfl:=si b
     exact tr fol [3,5,8] (kAE lot order [(7,.i f),(32,.bool false)]) (ac (iv qcK qa c) (ac (lv 0 ce9 qa c rfl) (ac (gw k) az)))
    refine ihB g2 (fun q g2=>?_) (fun q g2=>?_)
    ·obtain⟨d,e,g2⟩:=bnd g2
     refine sq (gq fol [3,4] [(6,.ptr 1 0)] (kE a.Day a.Lots a.Holds (kJ d.Lot d.Order d.Reserved d.Taken [])) (ac (iv qcK qa e) (ac (la qgt qa e) az)) ?_)
     refine Goes.ret ?_
     obtain rfl:=si g2
     exact Or.inr (⟨rfl,_,rfl,(gw2 [.agg (kAo d.Lot d.Order d.Reserved d.Taken)] (FzW.agg (qp.cons (Ub tS) (qp.cons (Ub tS) (qp.cons (Ub tI) (qp.cons (Ub tI) qp.nil))))))⟩)
    refine Goes.skip ?_
    refine gh fol (kAE lot order [(7,.i (w64 (f+1)))]) ?_
    exact⟨M,(ofG 41 (kAE lot order [(7,.i (w64 (f+1)))]),(kE a.Day a.Lots a.Holds kAf)),Nat.lt_succ_self _,(Sub.refl _),_,rfl,g2⟩
   refine Goes.exit ?_
   obtain rfl:=si g2
   exact Or.inl (⟨rfl,rfl,(Sub.norm [] [some 1] rfl rfl (.keep (.same nS) (.keep (.same nS) (.drop (.kp .nil)))) (.kb rfl (.same sn) .nil))⟩)
 rintro x s' (⟨rfl,rfl,hsub⟩|⟨rfl,r,rfl,hret⟩)
 ·try dsimp only at h
  refine Goes.sub hsub ?_
  refine sg fol [(6,.ptr 0 0)] [.cells [.str lot,.str order,.i 0,.i 0]] ?_
  refine Goes.ret ?_
  obtain rfl:=si h
  exact(gw2 [.agg [.str lot,.str order,.i 0,.i 0]] (FzW.agg (qp.cons (Ub tS) (qp.cons (Ub tS) (qp.cons (Ub tI) (qp.cons (Ub tI) qp.nil))))))
 try dsimp only at h
 obtain rfl:=si h
 exact hret
def zz (b:StateT) (e:qh) (amount:Int):Nat->(List qj)->Bool->Int->Option ((List qj)×Bool)
 |0,_,_,_=>none
 |K+1,c,d,f=>
  if f<(b.Lots.length:Int)then
  (idx b.Lots f).bind fun a=>
  (if(!d)=true then
  some (!(ltL a.Name e.Lot||a.Name==e.Lot))
  else
  some false:Option Bool).bind fun g=>
  ((if g=true then
  (app 56 c [(⟨e.Lot,e.Yarn,e.Dye,amount⟩:qj)]).bind fun h=>
  some (h,true)
  else
  some (c,d):Option ((List qj)×Bool))).bind fun(i,j)=>
  ((if(a.Name==e.Lot)=true then
  some (w64 (a.Stock+amount))
  else
  some a.Stock:Option Int)).bind fun k=>
  (app 56 i [(⟨a.Name,a.Yarn,a.Dye,k⟩:qj)]).bind fun l=>
  zz b e amount K l j (w64 (f+1))
  else
  some (c,d)
def z8 (N:Nat) (a:StateT) (e:qh) (amount:Int):Option StateT:=
 (qK N a e.Lot).bind fun f=>
 (zz a e amount N ([]:List qj) (decide (f>=0)) 0).bind fun(d,g)=>
 ((if(!g)=true then
 (app 56 d [(⟨e.Lot,e.Yarn,e.Dye,amount⟩:qj)]).bind fun b=>
 some b
 else
 some d:Option (List qj))).bind fun c=>
 some (⟨a.Day,c,a.Holds⟩:StateT)
theorem xc (N:Nat) (a:StateT) (e:qh) (amount:Int) {res:StateT} (h:z8 N a e amount=some res):qf ZT (.fn 66) (kX a.Day a.Lots a.Holds (kAW e.Kind e.Day e.Lot e.Amount e.Yarn e.Dye e.Order [.i amount])) [] (.agg (kH res.Day res.Lots res.Holds)) []:=by
 unfold z8 at h
 refine Uc Tryz.func66 rfl rfl (m:=78) rfl (rs:=[.cell 6 43]) rfl (l:=(kS a.Day a.Lots a.Holds (kAO e.Kind e.Day e.Lot e.Amount e.Yarn e.Dye e.Order (kAu amount)))) rfl ?_
 refine sg fol (kN amount []) (kD a.Day a.Lots a.Holds e.Kind e.Day e.Lot e.Amount e.Yarn e.Dye e.Order (kF [])) ?_
 refine sh fol (kN amount [(7,.nilslice)]) ?_
 obtain⟨D,B,h⟩:=bnd h
 refine sq (gr fol [3] (kN amount [(7,.nilslice),(8,.bool (decide (D>=0)))]) (ac (cv (vS N a e.Lot B)) az) ?_)
 refine sq ?_
 refine sh fol (kN amount [(7,.nilslice),(8,.bool (decide (D>=0))),(9,.i 0)]) ?_
 refine Goes.block ?_
 obtain⟨O,g7,h⟩:=bnd h
 refine Goes.imp (Q:=fun x s'=>(x= .exit 0/\ ∃t C,(t,C)=O/\Sub s' (ofG 78 (kN amount [(7,.gslice 3 t.length 4),(8,.bool C)]),(kD a.Day a.Lots a.Holds e.Kind e.Day e.Lot e.Amount e.Yarn e.Dye e.Order (kF (kO t [])))))) ?_ ?_
 ·refine Goes.sub (s':=(ofG 78 (kN amount [(7,.gslice 3 ([]:List qj).length 4),(8,.bool (decide (D>=0))),(9,.i 0)]),(kD a.Day a.Lots a.Holds e.Kind e.Day e.Lot e.Amount e.Yarn e.Dye e.Order (kF [.cells (([]:List qj).flatMap qb.c)])))) (Sub.norm [] [some 0,some 1,some 2,none] rfl rfl (.keep (.same nI) (.kp (.kp (.kp (.keep .nil (.keep (.same nB) (.keep (.same nI) .nil))))))) (.kb rfl (.same sn) (.kb rfl (.same sn) (.kb rfl (.same sn) (.fresh .nil))))) ?_
  refine Ud (fun M s=> ∃(p:List qj) (u:Bool) (n:Int),s=(ofG 78 (kN amount [(7,.gslice 3 p.length 4),(8,.bool u),(9,.i n)]),(kD a.Day a.Lots a.Holds e.Kind e.Day e.Lot e.Amount e.Yarn e.Dye e.Order (kF (kO p []))))/\zz a e amount M p u n=some O) ?_ (m:=N) ⟨_,_,_,rfl,g7⟩
  rintro M s ⟨p,u,n,rfl,g7⟩
  cases M with
  |zero=>simp only[zz]at g7;cases g7
  |succ M=>
   rw[zz]at g7
   refine sq ?_
   refine sh fol (kN amount [(7,.gslice 3 p.length 4),(8,.bool u),(9,.i n),(20,.bool (decide (n<(a.Lots.length:Int))))]) ?_
   refine ihD g7 (fun P g7=>?_) (fun P g7=>?_)
   ·refine Goes.skip ?_
    refine sq (Goes.block ?_)
    obtain⟨b,v,g7⟩:=bnd g7
    refine sq (gq fol [3,4] (kN amount (kAC p u n [])) (kD a.Day a.Lots a.Holds e.Kind e.Day e.Lot e.Amount e.Yarn e.Dye e.Order (kF (kO p (kP b.Name b.Yarn b.Dye b.Stock [])))) (ac (iv qbu qb v) (ac (la ag84 qb v) az)) ?_)
    refine sq ?_
    refine sq ?_
    obtain⟨F,f,g7⟩:=bnd g7
    refine Goes.cut (s':=(ofG 78 (kN amount (kAC p u n [(36,.bool F)])),(kD a.Day a.Lots a.Holds e.Kind e.Day e.Lot e.Amount e.Yarn e.Dye e.Order (kF (kO p (kP b.Name b.Yarn b.Dye b.Stock [])))))) ?_ ?_
    ·rcases wyB f with⟨w,f⟩|⟨w,f⟩
     ·obtain rfl:=si f
      exact tr fol [2] (kN amount (kAC p u n [(36,.bool (!(ltL b.Name e.Lot||b.Name==e.Lot)))])) (ac (gw w) az)
     obtain rfl:=si f
     exact tr fol [2] (kN amount (kAC p u n [(36,.bool false)])) (ac (gw w) az)
    obtain⟨G,g15,g7⟩:=bnd g7
    refine Goes.imp (Q:=fun x s'=>(x= .normal/\ ∃d k,(d,k)=G/\Sub s' (ofG 78 (kN amount (kAC d k n [])),(kD a.Day a.Lots a.Holds e.Kind e.Day e.Lot e.Amount e.Yarn e.Dye e.Order (kF (kO d (kP b.Name b.Yarn b.Dye b.Stock []))))))) ?_ ?_
    ·refine ihB g15 (fun H g15=>?_) (fun H g15=>?_)
     ·obtain⟨q,y,g15⟩:=bnd g15
      refine sq (gq fol [10] (kN amount [(7,.gslice 6 q.length 4),(9,.i n),(10,.ptr 4 0)]) (kD a.Day a.Lots a.Holds e.Kind e.Day e.Lot e.Amount e.Yarn e.Dye e.Order (kF (.dead::(kP b.Name b.Yarn b.Dye b.Stock (kP e.Lot e.Yarn e.Dye amount (kO q [])))))) (ac (hs (.run [3,5] (yf ZT [40,40] (.gslice 3 p.length 4) (.slice 5 0 1 1 4)) (kD a.Day a.Lots a.Holds e.Kind e.Day e.Lot e.Amount e.Yarn e.Dye e.Order (kF (kO p (kP b.Name b.Yarn b.Dye b.Stock (kP e.Lot e.Yarn e.Dye amount []))))) (.gslice 6 q.length 4) (kD a.Day a.Lots a.Holds e.Kind e.Day e.Lot e.Amount e.Yarn e.Dye e.Order (kF (.dead::(kP b.Name b.Yarn b.Dye b.Stock (kP e.Lot e.Yarn e.Dye amount (kO q [])))))) true) (qaD qbu (E:=qb) rfl (qdS (E:=qb) (ys:=[(⟨e.Lot,e.Yarn,e.Dye,amount⟩:qj)]) rfl rfl rfl rfl) (qek (E:=qb) (l:=p) rfl rfl rfl y rfl))) az) ?_)
      refine gh fol (kN amount [(7,.gslice 6 q.length 4),(8,.bool true),(9,.i n),(10,.ptr 4 0)]) ?_
      obtain rfl:=si g15
      exact⟨rfl,_,_,rfl,(Sub.norm [] [some 0,some 1,some 2,some 6,some 4] rfl rfl (.keep (.same nI) (.kp (.kp (.kp (.keep (.gslice rfl) (.keep (.same nB) (.keep (.same nI) (.kp .nil)))))))) (.kb rfl (.same sn) (.kb rfl (.same sn) (.kb rfl (.same sn) (.ks (.kb rfl (.same sn) .nil))))))⟩
     refine Goes.skip ?_
     obtain rfl:=si g15
     exact⟨rfl,_,_,rfl,(Sub.keep [2,3,4,6,7,8,9,10] rfl rfl)⟩
    rintro x s' ⟨rfl,d,k,rfl,hsub⟩
    try dsimp only at g7
    refine Goes.sub hsub ?_
    refine sq ?_
    refine sh fol (kN amount (kAC d k n [(52,.bool (b.Name==e.Lot))])) ?_
    obtain⟨I,g19,g7⟩:=bnd g7
    refine Goes.imp (Q:=fun x s'=>(x= .normal/\ ∃g,g=I/\Sub s' (ofG 78 (kN amount (kAC d k n [])),(kD a.Day a.Lots a.Holds e.Kind e.Day e.Lot e.Amount e.Yarn e.Dye e.Order (kF (kO d (kP b.Name b.Yarn b.Dye g []))))))) ?_ ?_
    ·refine ihB g19 (fun J g19=>?_) (fun J g19=>?_)
     ·refine Goes.rg fol (kN amount (kAC d k n [])) (kD a.Day a.Lots a.Holds e.Kind e.Day e.Lot e.Amount e.Yarn e.Dye e.Order (kF (kO d (kP b.Name b.Yarn b.Dye (w64 (b.Stock+amount)) [])))) ?_
      obtain rfl:=si g19
      exact⟨rfl,_,rfl,(Sub.refl _)⟩
     refine Goes.skip ?_
     obtain rfl:=si g19
     exact⟨rfl,_,rfl,(Sub.keep [2,3,4,6,7,8,9,10] rfl rfl)⟩
    rintro x s' ⟨rfl,g,rfl,hsub⟩
    refine Goes.sub hsub ?_
    obtain⟨o,z,g7⟩:=bnd g7
    refine gq fol [3] (kN amount [(7,.gslice 6 o.length 4),(8,.bool k),(9,.i n)]) (kD a.Day a.Lots a.Holds e.Kind e.Day e.Lot e.Amount e.Yarn e.Dye e.Order (kF (.dead::(kP b.Name b.Yarn b.Dye g (kP b.Name b.Yarn b.Dye g (kO o [])))))) (ac (hs (.run [3,5] (yf ZT [40,40] (.gslice 3 d.length 4) (.slice 5 0 1 1 4)) (kD a.Day a.Lots a.Holds e.Kind e.Day e.Lot e.Amount e.Yarn e.Dye e.Order (kF (kO d (kP b.Name b.Yarn b.Dye g (kP b.Name b.Yarn b.Dye g []))))) (.gslice 6 o.length 4) (kD a.Day a.Lots a.Holds e.Kind e.Day e.Lot e.Amount e.Yarn e.Dye e.Order (kF (.dead::(kP b.Name b.Yarn b.Dye g (kP b.Name b.Yarn b.Dye g (kO o [])))))) true) (qaD qbu (E:=qb) rfl (qdS (E:=qb) (ys:=[(⟨b.Name,b.Yarn,b.Dye,g⟩:qj)]) rfl rfl rfl rfl) (qek (E:=qb) (l:=d) rfl rfl rfl z rfl))) az) ?_
    refine gh fol (kN amount [(7,.gslice 6 o.length 4),(8,.bool k),(9,.i (w64 (n+1)))]) ?_
    exact⟨M,(ofG 78 (kN amount [(7,.gslice 3 o.length 4),(8,.bool k),(9,.i (w64 (n+1)))]),(kD a.Day a.Lots a.Holds e.Kind e.Day e.Lot e.Amount e.Yarn e.Dye e.Order (kF (kO o [])))),Nat.lt_succ_self _,(Sub.norm [] [some 0,some 1,some 2,some 6] rfl rfl (.keep (.same nI) (.kp (.kp (.kp (.keep (.gslice rfl) (.keep (.same nB) (.keep (.same nI) .nil))))))) (.kb rfl (.same sn) (.kb rfl (.same sn) (.kb rfl (.same sn) (.ks .nil))))),_,_,_,rfl,g7⟩
   refine Goes.exit ?_
   obtain rfl:=si g7
   exact⟨rfl,_,_,rfl,(Sub.keep [2,3,4,6,7,8] rfl rfl)⟩
 rintro x s' ⟨rfl,t,C,rfl,hsub⟩
 try dsimp only at h
 refine Goes.sub hsub ?_
 refine sq ?_
 refine sh fol (kN amount [(7,.gslice 3 t.length 4),(63,.bool (!C))]) ?_
 obtain⟨K,g23,h⟩:=bnd h
 refine Goes.imp (Q:=fun x s'=>(x= .normal/\ ∃j,j=K/\Sub s' (ofG 78 [(3,.ptr 0 0),(6,.ptr 1 0),(7,.gslice 2 j.length 4)],(kE a.Day a.Lots a.Holds (kF (kO j [])))))) ?_ ?_
 ·refine ihB g23 (fun L g23=>?_) (fun L g23=>?_)
  ·obtain⟨r,A,g23⟩:=bnd g23
   refine gq fol [10] [(3,.ptr 0 0),(6,.ptr 2 0),(7,.gslice 5 r.length 4)] (kD a.Day a.Lots a.Holds e.Kind e.Day e.Lot e.Amount e.Yarn e.Dye e.Order (kF (.dead::(kP e.Lot e.Yarn e.Dye amount (kO r []))))) (ac (hs (.run [3,4] (yf ZT [40,40] (.gslice 3 t.length 4) (.slice 4 0 1 1 4)) (kD a.Day a.Lots a.Holds e.Kind e.Day e.Lot e.Amount e.Yarn e.Dye e.Order (kF (kO t (kP e.Lot e.Yarn e.Dye amount [])))) (.gslice 5 r.length 4) (kD a.Day a.Lots a.Holds e.Kind e.Day e.Lot e.Amount e.Yarn e.Dye e.Order (kF (.dead::(kP e.Lot e.Yarn e.Dye amount (kO r []))))) true) (qaD qbu (E:=qb) rfl (qdS (E:=qb) (ys:=[(⟨e.Lot,e.Yarn,e.Dye,amount⟩:qj)]) rfl rfl rfl rfl) (qek (E:=qb) (l:=t) rfl rfl rfl A rfl))) az) ?_
   obtain rfl:=si g23
   exact⟨rfl,_,rfl,(Sub.norm [] [some 0,some 2,some 5] rfl rfl (.kp (.kp (.keep (.gslice rfl) .nil))) (.kb rfl (.same sn) (.kb rfl (.same sn) (.ks .nil))))⟩
  refine Goes.skip ?_
  obtain rfl:=si g23
  exact⟨rfl,_,rfl,(Sub.norm [] [some 0,some 2,some 3] rfl rfl (.drop (.kp (.drop (.kp (.keep (.gslice rfl) .nil))))) (.kb rfl (.same sn) (.kb rfl (.same sn) (.ks .nil))))⟩
 rintro x s' ⟨rfl,j,rfl,hsub⟩
 refine Goes.sub hsub ?_
 refine sg fol [(3,.ptr 0 0),(6,.ptr 1 0)] (.cells [.i a.Day,.gslice 2 j.length 4,vl qa a.Holds]::(kF (kO j []))) ?_
 refine sg fol [(6,.ptr 1 0)] (.cells [.i a.Day,.gslice 2 j.length 4,vl qa a.Holds]:: .cells [.i a.Day,.gslice 2 j.length 4,vl qa a.Holds]::(kO j [])) ?_
 refine Goes.ret ?_
 obtain rfl:=si h
 exact(gw2 [.agg [.i a.Day,.gslice 2 j.length 4,vl qa a.Holds]] (FzW.agg (qp.cons (Ub tI) (qp.cons (FzW.fz (Fz.gs (E:=qb) rfl rfl (nl rfl))) (qp.cons (Ub (qg qa _ (nl rfl))) qp.nil)))))
def zX (e:StateT) (b:qd):Nat->(List qd)->Bool->Int->Option ((List qd)×Bool)
 |0,_,_,_=>none
 |K+1,c,d,f=>
  if f<(e.Holds.length:Int)then
  (((idx e.Holds f).bind fun a=>
  (if(a.Lot==b.Lot)=true then
  some (a.Order==b.Order)
  else
  some false:Option Bool).bind fun g=>
  if g=true then
  some (c,d)
  else
  (if(!d)=true then
  (yn a b).bind fun h=>
  some h
  else
  some false:Option Bool).bind fun i=>
  ((if i=true then
  (app 48 c [b]).bind fun j=>
  some (j,true)
  else
  some (c,d):Option ((List qd)×Bool))).bind fun(k,l)=>
  (app 48 k [a]).bind fun m=>
  some (m,l):Option ((List qd)×Bool))).bind fun(n,o)=>
  zX e b K n o (w64 (f+1))
  else
  some (c,d)
def yN (N:Nat) (b:StateT) (a:qd):Option StateT:=
 (if a.Reserved=0 then
 some (decide (a.Taken=0))
 else
 some false:Option Bool).bind fun f=>
 (zX b a N ([]:List qd) f 0).bind fun(e,g)=>
 ((if(!g)=true then
 (app 48 e [a]).bind fun c=>
 some c
 else
 some e:Option (List qd))).bind fun d=>
 some (⟨b.Day,b.Lots,d⟩:StateT)
theorem qd3 (N:Nat) (d:StateT) (a:qd) {res:StateT} (h:yN N d a=some res):qf ZT (.fn 67) (kX d.Day d.Lots d.Holds (kAG a.Lot a.Order a.Reserved a.Taken [])) [] (.agg (kH res.Day res.Lots res.Holds)) []:=by
 unfold yN at h
 refine Uc Tryz.func67 rfl rfl (m:=65) rfl (rs:=[.cell 4 43]) rfl (l:=(kS d.Day d.Lots d.Holds [(1,.agg [.str a.Lot,.str a.Order,.i a.Reserved,.i a.Taken])])) rfl ?_
 refine sg fol (kG (kAX [])) (kE d.Day d.Lots d.Holds (kJ a.Lot a.Order a.Reserved a.Taken (kF []))) ?_
 refine sh fol (kG (kAX [(5,.nilslice)])) ?_
 refine sq ?_
 obtain⟨I,n,h⟩:=bnd h
 refine Goes.cut (s':=(ofG 65 (kG (kAX [(5,.nilslice),(6,.bool I)])),(kE d.Day d.Lots d.Holds (kJ a.Lot a.Order a.Reserved a.Taken (kF []))))) ?_ ?_
 ·rcases wyD n with⟨J,n⟩|⟨J,n⟩
  ·obtain rfl:=si n
   exact tr fol [3] (kG (kAX [(5,.nilslice),(6,.bool (decide (a.Taken=0)))])) (ac (gw J) az)
  obtain rfl:=si n
  exact tr fol [3] (kG (kAX [(5,.nilslice),(6,.bool false)])) (ac (gw J) az)
 refine sq ?_
 refine sh fol (kG (kAX [(5,.nilslice),(6,.bool I),(7,.i 0)])) ?_
 refine Goes.block ?_
 obtain⟨Z,g9,h⟩:=bnd h
 refine Goes.imp (Q:=fun x s'=>(x= .exit 0/\ ∃z H,(z,H)=Z/\Sub s' (ofG 65 (kG (kAX [(5,.gslice 3 z.length 4),(6,.bool H)])),(kE d.Day d.Lots d.Holds (kJ a.Lot a.Order a.Reserved a.Taken (kF (kI z []))))))) ?_ ?_
 ·refine Goes.sub (s':=(ofG 65 (kG (kAX [(5,.gslice 3 ([]:List qd).length 4),(6,.bool I),(7,.i 0)])),(kE d.Day d.Lots d.Holds (kJ a.Lot a.Order a.Reserved a.Taken (kF [.cells (([]:List qd).flatMap qa.c)]))))) (Sub.norm [] [some 0,some 1,some 2,none] rfl rfl (.kp (.kp (.kp (.keep .nil (.keep (.same nB) (.keep (.same nI) .nil)))))) (.kb rfl (.same sn) (.kb rfl (.same sn) (.kb rfl (.same sn) (.fresh .nil))))) ?_
  refine Ud (fun M s=> ∃(k:List qd) (q:Bool) (j:Int),s=(ofG 65 (kG (kU k q j [])),(kE d.Day d.Lots d.Holds (kJ a.Lot a.Order a.Reserved a.Taken (kF (kI k [])))))/\zX d a M k q j=some Z) ?_ (m:=N) ⟨_,_,_,rfl,g9⟩
  rintro M s ⟨k,q,j,rfl,g9⟩
  cases M with
  |zero=>simp only[zX]at g9;cases g9
  |succ M=>
   rw[zX]at g9
   refine sq ?_
   refine sh fol (kG (kU k q j [(21,.bool (decide (j<(d.Holds.length:Int))))])) ?_
   refine ihD g9 (fun K g9=>?_) (fun K g9=>?_)
   ·refine Goes.skip ?_
    refine sq ?_
    obtain⟨L,g13,g9⟩:=bnd g9
    refine Goes.imp (Q:=fun x s'=>(x= .normal/\ ∃o r,(o,r)=L/\Sub s' (ofG 65 (kG (kU o r j [])),(kE d.Day d.Lots d.Holds (kJ a.Lot a.Order a.Reserved a.Taken (kF (kI o []))))))) ?_ ?_
    ·refine Goes.block ?_
     obtain⟨b,t,g13⟩:=bnd g13
     refine sq (gq fol [3,4] (kG (kU k q j [(8,.ptr 4 0)])) (kE d.Day d.Lots d.Holds (kJ a.Lot a.Order a.Reserved a.Taken (kF (kI k (kJ b.Lot b.Order b.Reserved b.Taken []))))) (ac (iv qcK qa t) (ac (la qgt qa t) az)) ?_)
     refine sq ?_
     refine sq ?_
     obtain⟨O,f,g13⟩:=bnd g13
     refine Goes.cut (s':=(ofG 65 (kG (kU k q j [(8,.ptr 4 0),(40,.bool O)])),(kE d.Day d.Lots d.Holds (kJ a.Lot a.Order a.Reserved a.Taken (kF (kI k (kJ b.Lot b.Order b.Reserved b.Taken []))))))) ?_ ?_
     ·rcases wyB f with⟨A,f⟩|⟨A,f⟩
      ·obtain rfl:=si f
       exact tr fol [5] (kG (kU k q j [(8,.ptr 4 0),(40,.bool (b.Order==a.Order))])) (ac (gw A) az)
      obtain rfl:=si f
      exact tr fol [5] (kG (kU k q j [(8,.ptr 4 0),(40,.bool false)])) (ac (gw A) az)
     refine ihB g13 (fun P g13=>?_) (fun P g13=>?_)
     ·refine Goes.exit ?_
      obtain rfl:=si g13
      exact⟨rfl,_,_,rfl,(Sub.norm [] [some 0,some 1,some 2,some 3] rfl rfl (.kp (.kp (.kp (.keep (.gslice rfl) (.keep (.same nB) (.keep (.same nI) .nil)))))) (.kb rfl (.same sn) (.kb rfl (.same sn) (.kb rfl (.same sn) (.ks .nil)))))⟩
     refine Goes.skip ?_
     refine sq ?_
     refine sq ?_
     obtain⟨T,e,g13⟩:=bnd g13
     refine Goes.cut (s':=(ofG 65 (kG (kU k q j [(8,.ptr 4 0),(47,.bool T)])),(kE d.Day d.Lots d.Holds (kJ a.Lot a.Order a.Reserved a.Taken (kF (kI k (kJ b.Lot b.Order b.Reserved b.Taken []))))))) ?_ ?_
     ·rcases wyB e with⟨B,e⟩|⟨B,e⟩
      ·obtain⟨U,C,e⟩:=bnd e
       obtain rfl:=si e
       exact tr fol [2,5] (kG (kU k q j [(8,.ptr 4 0),(47,.bool U)])) (ac (gw B) (ac (cv (qc9 b a C)) az))
      obtain rfl:=si e
      exact tr fol [2] (kG (kU k q j [(8,.ptr 4 0),(47,.bool false)])) (ac (gw B) az)
     obtain⟨V,g25,g13⟩:=bnd g13
     refine Goes.imp (Q:=fun x s'=>(x= .normal/\ ∃p v,(p,v)=V/\Sub s' (ofG 65 (kG (kU p v j [(8,.ptr 4 0)])),(kE d.Day d.Lots d.Holds (kJ a.Lot a.Order a.Reserved a.Taken (kF (kI p (kJ b.Lot b.Order b.Reserved b.Taken [])))))))) ?_ ?_
     ·refine ihB g25 (fun W g25=>?_) (fun W g25=>?_)
      ·obtain⟨u,D,g25⟩:=bnd g25
       refine sq (gq fol [3] (kG (kAX [(5,.gslice 6 u.length 4),(7,.i j),(8,.ptr 4 0)])) (kE d.Day d.Lots d.Holds (kJ a.Lot a.Order a.Reserved a.Taken (kF (.dead::(kJ b.Lot b.Order b.Reserved b.Taken (kJ a.Lot a.Order a.Reserved a.Taken (kI u []))))))) (ac (hs (.run [3,5] (yf ZT [41,41] (.gslice 3 k.length 4) (.slice 5 0 1 1 4)) (kE d.Day d.Lots d.Holds (kJ a.Lot a.Order a.Reserved a.Taken (kF (kI k (kJ b.Lot b.Order b.Reserved b.Taken (kJ a.Lot a.Order a.Reserved a.Taken [])))))) (.gslice 6 u.length 4) (kE d.Day d.Lots d.Holds (kJ a.Lot a.Order a.Reserved a.Taken (kF (.dead::(kJ b.Lot b.Order b.Reserved b.Taken (kJ a.Lot a.Order a.Reserved a.Taken (kI u []))))))) true) (qaD qcK (E:=qa) rfl (qdS (E:=qa) (ys:=[a]) rfl rfl rfl rfl) (qek (E:=qa) (l:=k) rfl rfl rfl D rfl))) az) ?_)
       refine gh fol (kG (kAX [(5,.gslice 6 u.length 4),(6,.bool true),(7,.i j),(8,.ptr 4 0)])) ?_
       obtain rfl:=si g25
       exact⟨rfl,_,_,rfl,(Sub.norm [] [some 0,some 1,some 2,some 6,some 4] rfl rfl (.kp (.kp (.kp (.keep (.gslice rfl) (.keep (.same nB) (.keep (.same nI) (.kp .nil))))))) (.kb rfl (.same sn) (.kb rfl (.same sn) (.kb rfl (.same sn) (.ks (.kb rfl (.same sn) .nil))))))⟩
      refine Goes.skip ?_
      obtain rfl:=si g25
      exact⟨rfl,_,_,rfl,(Sub.keep [2,3,4,5,6,7,8] rfl rfl)⟩
     rintro x s' ⟨rfl,p,v,rfl,hsub⟩
     try dsimp only at g13
     refine Goes.sub hsub ?_
     obtain⟨w,F,g13⟩:=bnd g13
     refine gq fol [3] (kG (kAX [(5,.gslice 6 w.length 4),(6,.bool v),(7,.i j)])) (kE d.Day d.Lots d.Holds (kJ a.Lot a.Order a.Reserved a.Taken (kF (.dead::(kJ b.Lot b.Order b.Reserved b.Taken (kJ b.Lot b.Order b.Reserved b.Taken (kI w []))))))) (ac (hs (.run [3,5] (yf ZT [41,41] (.gslice 3 p.length 4) (.slice 5 0 1 1 4)) (kE d.Day d.Lots d.Holds (kJ a.Lot a.Order a.Reserved a.Taken (kF (kI p (kJ b.Lot b.Order b.Reserved b.Taken (kJ b.Lot b.Order b.Reserved b.Taken [])))))) (.gslice 6 w.length 4) (kE d.Day d.Lots d.Holds (kJ a.Lot a.Order a.Reserved a.Taken (kF (.dead::(kJ b.Lot b.Order b.Reserved b.Taken (kJ b.Lot b.Order b.Reserved b.Taken (kI w []))))))) true) (qaD qcK (E:=qa) rfl (qdS (E:=qa) (ys:=[b]) rfl rfl rfl rfl) (qek (E:=qa) (l:=p) rfl rfl rfl F rfl))) az) ?_
     obtain rfl:=si g13
     exact⟨rfl,_,_,rfl,(Sub.norm [] [some 0,some 1,some 2,some 6] rfl rfl (.kp (.kp (.kp (.keep (.gslice rfl) (.keep (.same nB) (.keep (.same nI) .nil)))))) (.kb rfl (.same sn) (.kb rfl (.same sn) (.kb rfl (.same sn) (.ks .nil)))))⟩
    rintro x s' ⟨rfl,o,r,rfl,hsub⟩
    try dsimp only at g9
    refine Goes.sub hsub ?_
    refine gh fol (kG (kU o r (w64 (j+1)) [])) ?_
    exact⟨M,(ofG 65 (kG (kU o r (w64 (j+1)) [])),(kE d.Day d.Lots d.Holds (kJ a.Lot a.Order a.Reserved a.Taken (kF (kI o []))))),Nat.lt_succ_self _,(Sub.refl _),_,_,_,rfl,g9⟩
   refine Goes.exit ?_
   obtain rfl:=si g9
   exact⟨rfl,_,_,rfl,(Sub.keep [2,3,4,5,6] rfl rfl)⟩
 rintro x s' ⟨rfl,z,H,rfl,hsub⟩
 try dsimp only at h
 refine Goes.sub hsub ?_
 refine sq ?_
 refine sh fol (kG (kAX [(5,.gslice 3 z.length 4),(57,.bool (!H))])) ?_
 obtain⟨X,g30,h⟩:=bnd h
 refine Goes.imp (Q:=fun x s'=>(x= .normal/\ ∃g,g=X/\Sub s' (ofG 65 (kT (kAF [(5,.gslice 2 g.length 4)])),(kE d.Day d.Lots d.Holds (kF (kI g [])))))) ?_ ?_
 ·refine ihB g30 (fun Y g30=>?_) (fun Y g30=>?_)
  ·obtain⟨y,G,g30⟩:=bnd g30
   refine gq fol [3] (kT (kAX [(5,.gslice 5 y.length 4)])) (kE d.Day d.Lots d.Holds (kJ a.Lot a.Order a.Reserved a.Taken (kF (.dead::(kJ a.Lot a.Order a.Reserved a.Taken (kI y [])))))) (ac (hs (.run [3,4] (yf ZT [41,41] (.gslice 3 z.length 4) (.slice 4 0 1 1 4)) (kE d.Day d.Lots d.Holds (kJ a.Lot a.Order a.Reserved a.Taken (kF (kI z (kJ a.Lot a.Order a.Reserved a.Taken []))))) (.gslice 5 y.length 4) (kE d.Day d.Lots d.Holds (kJ a.Lot a.Order a.Reserved a.Taken (kF (.dead::(kJ a.Lot a.Order a.Reserved a.Taken (kI y [])))))) true) (qaD qcK (E:=qa) rfl (qdS (E:=qa) (ys:=[a]) rfl rfl rfl rfl) (qek (E:=qa) (l:=z) rfl rfl rfl G rfl))) az) ?_
   obtain rfl:=si g30
   exact⟨rfl,_,rfl,(Sub.norm [] [some 0,some 2,some 5] rfl rfl (.kp (.kp (.keep (.gslice rfl) .nil))) (.kb rfl (.same sn) (.kb rfl (.same sn) (.ks .nil))))⟩
  refine Goes.skip ?_
  obtain rfl:=si g30
  exact⟨rfl,_,rfl,(Sub.norm [] [some 0,some 2,some 3] rfl rfl (.kp (.drop (.kp (.keep (.gslice rfl) .nil)))) (.kb rfl (.same sn) (.kb rfl (.same sn) (.ks .nil))))⟩
 rintro x s' ⟨rfl,g,rfl,hsub⟩
 refine Goes.sub hsub ?_
 refine sg fol (kT (kAF [])) (kAD d.Day d.Lots g (kF (kI g []))) ?_
 refine sg fol (kAF []) (kAD d.Day d.Lots g (kAD d.Day d.Lots g (kI g []))) ?_
 refine Goes.ret ?_
 obtain rfl:=si h
 exact(gw2 [.agg [.i d.Day,vl qb d.Lots,.gslice 2 g.length 4]] (FzW.agg (qp.cons (Ub tI) (qp.cons (Ub (qg qb _ (nl rfl))) (qp.cons (FzW.fz (Fz.gs (E:=qa) rfl rfl (nl rfl))) qp.nil)))))
def xg (N:Nat) (a:StateT) (e:qh):Option StateT:=
 if(e.Kind==[114,101,99,101,105,118,101])=true then
 (z8 N (⟨e.Day,a.Lots,a.Holds⟩:StateT) e e.Amount).bind fun g=>
 some g
 else
 (zZ N (⟨e.Day,a.Lots,a.Holds⟩:StateT) e.Lot e.Order).bind fun b=>
 ((if(e.Kind==[114,101,115,101,114,118,101])=true then
 some (e.Day,a.Lots,a.Holds,w64 (b.Reserved+e.Amount),b.Taken)
 else
 if(e.Kind==[114,101,108,101,97,115,101])=true then
 some (e.Day,a.Lots,a.Holds,w64 (b.Reserved-e.Amount),b.Taken)
 else
 if(e.Kind==[116,97,107,101])=true then
 (z8 N (⟨e.Day,a.Lots,a.Holds⟩:StateT) e (w64 (0-e.Amount))).bind fun c=>
 some (c.Day,c.Lots,c.Holds,(if(w64 (b.Reserved-e.Amount))>0 then(w64 (b.Reserved-e.Amount))else 0),w64 (b.Taken+e.Amount))
 else
 (z8 N (⟨e.Day,a.Lots,a.Holds⟩:StateT) e e.Amount).bind fun d=>
 some (d.Day,d.Lots,d.Holds,b.Reserved,w64 (b.Taken-e.Amount)):Option (Int×(List qj)×(List qd)×Int×Int))).bind fun(h,i,j,k,l)=>
 (yN N (⟨h,i,j⟩:StateT) (⟨b.Lot,b.Order,k,l⟩:qd)).bind fun f=>
 some f
theorem qdU (N:Nat) (b:StateT) (e:qh) {res:StateT} (h:xg N b e=some res):qf ZT (.fn 28) (kX b.Day b.Lots b.Holds (kAW e.Kind e.Day e.Lot e.Amount e.Yarn e.Dye e.Order [])) [] (.agg (kH res.Day res.Lots res.Holds)) []:=by
 unfold xg at h
 refine Uc Tryz.func28 rfl rfl (m:=76) rfl (rs:=[.cell 4 43]) rfl (l:=(kS b.Day b.Lots b.Holds (kAO e.Kind e.Day e.Lot e.Amount e.Yarn e.Dye e.Order []))) rfl ?_
 refine sg fol (kG (kAX [])) (kD b.Day b.Lots b.Holds e.Kind e.Day e.Lot e.Amount e.Yarn e.Dye e.Order (kF [])) ?_
 refine sg fol (kG (kAX [])) (kE e.Day b.Lots b.Holds (kM e.Kind e.Day e.Lot e.Amount e.Yarn e.Dye e.Order (kF []))) ?_
 refine sq ?_
 refine sh fol (kG (kAX [(11,.bool (e.Kind==[114,101,99,101,105,118,101]))])) ?_
 refine ihB h (fun y h=>?_) (fun y h=>?_)
 ·obtain⟨k,n,h⟩:=bnd h
  refine sq (gq fol [4] (kAX []) (kE e.Day b.Lots b.Holds (kM e.Kind e.Day e.Lot e.Amount e.Yarn e.Dye e.Order (kE k.Day k.Lots k.Holds []))) (ac (cv (xc N (⟨e.Day,b.Lots,b.Holds⟩:StateT) e e.Amount n)) az) ?_)
  refine Goes.ret ?_
  obtain rfl:=si h
  exact(gw2 [.agg (kH k.Day k.Lots k.Holds)] (FzW.agg (qp.cons (Ub tI) (qp.cons (Ub (qg qb _ (nl rfl))) (qp.cons (Ub (qg qa _ (nl rfl))) qp.nil)))))
 refine Goes.skip ?_
 obtain⟨a,o,h⟩:=bnd h
 refine sq (gq fol [5] (kG (kY [])) (kE e.Day b.Lots b.Holds (kM e.Kind e.Day e.Lot e.Amount e.Yarn e.Dye e.Order (kF (kJ a.Lot a.Order a.Reserved a.Taken [])))) (ac (cv (xu N (⟨e.Day,b.Lots,b.Holds⟩:StateT) e.Lot e.Order o)) az) ?_)
 refine sq ?_
 refine sh fol (kG (kY [(24,.str e.Kind)])) ?_
 obtain⟨z,g9,h⟩:=bnd h
 refine Goes.imp (Q:=fun x s'=>(x= .normal/\ ∃p q r s t,(p,q,r,s,t)=z/\Sub s' (ofG 76 (kT (kAF [(5,.ptr 2 0)])),(kE p q r (kF (kJ a.Lot a.Order s t [])))))) ?_ ?_
 ·refine Goes.block ?_
  refine sh fol (kG (kY [(24,.str e.Kind),(36,.bool (e.Kind==[114,101,115,101,114,118,101]))])) ?_
  refine ihB g9 (fun u g9=>?_) (fun u g9=>?_)
  ·refine Goes.rg fol (kT (kY [])) (kE e.Day b.Lots b.Holds (kM e.Kind e.Day e.Lot e.Amount e.Yarn e.Dye e.Order (kF (kJ a.Lot a.Order (w64 (a.Reserved+e.Amount)) a.Taken [])))) ?_
   obtain rfl:=si g9
   exact⟨rfl,_,_,_,_,_,rfl,(Sub.norm [] [some 0,some 2,some 3] rfl rfl (.kp (.kp (.kp .nil))) (.kb rfl (.same sn) (.kb rfl (.same sn) (.kb rfl (.same sn) .nil))))⟩
  refine sh fol (kG (kY [(24,.str e.Kind),(44,.bool (e.Kind==[114,101,108,101,97,115,101]))])) ?_
  refine ihB g9 (fun v g9=>?_) (fun v g9=>?_)
  ·refine Goes.rg fol (kT (kY [])) (kE e.Day b.Lots b.Holds (kM e.Kind e.Day e.Lot e.Amount e.Yarn e.Dye e.Order (kF (kJ a.Lot a.Order (w64 (a.Reserved-e.Amount)) a.Taken [])))) ?_
   obtain rfl:=si g9
   exact⟨rfl,_,_,_,_,_,rfl,(Sub.norm [] [some 0,some 2,some 3] rfl rfl (.kp (.kp (.kp .nil))) (.kb rfl (.same sn) (.kb rfl (.same sn) (.kb rfl (.same sn) .nil))))⟩
  refine sh fol (kG (kY [(52,.bool (e.Kind==[116,97,107,101]))])) ?_
  refine ihB g9 (fun w g9=>?_) (fun w g9=>?_)
  ·obtain⟨c,g,g9⟩:=bnd g9
   refine sq (gq fol [5] (kG (kY [])) (kD c.Day c.Lots c.Holds e.Kind e.Day e.Lot e.Amount e.Yarn e.Dye e.Order (kF (kJ a.Lot a.Order a.Reserved a.Taken []))) (ac (cv (xc N (⟨e.Day,b.Lots,b.Holds⟩:StateT) e (w64 (0-e.Amount)) g)) az) ?_)
   refine sg fol (kG (kY [])) (kD c.Day c.Lots c.Holds e.Kind e.Day e.Lot e.Amount e.Yarn e.Dye e.Order (kF (kJ a.Lot a.Order (if(w64 (a.Reserved-e.Amount))>0 then(w64 (a.Reserved-e.Amount))else 0) a.Taken []))) ?_
   refine Goes.rg fol (kT (kY [])) (kD c.Day c.Lots c.Holds e.Kind e.Day e.Lot e.Amount e.Yarn e.Dye e.Order (kF (kJ a.Lot a.Order (if(w64 (a.Reserved-e.Amount))>0 then(w64 (a.Reserved-e.Amount))else 0) (w64 (a.Taken+e.Amount)) []))) ?_
   obtain rfl:=si g9
   exact⟨rfl,_,_,_,_,_,rfl,(Sub.norm [] [some 0,some 2,some 3] rfl rfl (.kp (.kp (.kp .nil))) (.kb rfl (.same sn) (.kb rfl (.same sn) (.kb rfl (.same sn) .nil))))⟩
  obtain⟨d,i,g9⟩:=bnd g9
  refine sq (gq fol [4] (kG (kY [])) (kD d.Day d.Lots d.Holds e.Kind e.Day e.Lot e.Amount e.Yarn e.Dye e.Order (kF (kJ a.Lot a.Order a.Reserved a.Taken []))) (ac (cv (xc N (⟨e.Day,b.Lots,b.Holds⟩:StateT) e e.Amount i)) az) ?_)
  refine Goes.rg fol (kT (kY [])) (kD d.Day d.Lots d.Holds e.Kind e.Day e.Lot e.Amount e.Yarn e.Dye e.Order (kF (kJ a.Lot a.Order a.Reserved (w64 (a.Taken-e.Amount)) []))) ?_
  obtain rfl:=si g9
  exact⟨rfl,_,_,_,_,_,rfl,(Sub.norm [] [some 0,some 2,some 3] rfl rfl (.kp (.kp (.kp .nil))) (.kb rfl (.same sn) (.kb rfl (.same sn) (.kb rfl (.same sn) .nil))))⟩
 rintro x s' ⟨rfl,p,q,r,s,t,rfl,hsub⟩
 try dsimp only at h
 refine Goes.sub hsub ?_
 obtain⟨f,j,h⟩:=bnd h
 refine sq (gq fol [2] (kAF []) (kE p q r (kE f.Day f.Lots f.Holds (kJ a.Lot a.Order s t []))) (ac (cv (qd3 N (⟨p,q,r⟩:StateT) (⟨a.Lot,a.Order,s,t⟩:qd) j)) az) ?_)
 refine Goes.ret ?_
 obtain rfl:=si h
 exact(gw2 [.agg (kH f.Day f.Lots f.Holds)] (FzW.agg (qp.cons (Ub tI) (qp.cons (Ub (qg qb _ (nl rfl))) (qp.cons (Ub (qg qa _ (nl rfl))) qp.nil)))))
def xP (N:Nat) (d:StateT) (e:qh):Option Int:=
 if e.Day<d.Day then
 some 1
 else
 (qK N d e.Lot).bind fun f=>
 ((if(e.Kind==[114,101,99,101,105,118,101])=true then
 (if f>=0 then
 (idx d.Lots f).bind fun n=>
 if(!(n.Yarn==e.Yarn))=true then
 some true
 else
 some (!(n.Dye==e.Dye))
 else
 some false:Option Bool).bind fun o=>
 if o=true then
 some (.inr 2)
 else
 some (.inl ())
 else
 if f<0 then
 some (.inr 2)
 else
 (zZ N d e.Lot e.Order).bind fun a=>
 (vz N d f).bind fun b=>
 (if(e.Kind==[114,101,115,101,114,118,101])=true then
 if e.Amount>b then
 some true
 else
 if(e.Kind==[114,101,108,101,97,115,101])=true then
 if e.Amount>a.Reserved then
 some true
 else
 if(e.Kind==[116,97,107,101])=true then
 if e.Amount>(w64 (b+a.Reserved))then
 some true
 else
 if(e.Kind==[114,101,116,117,114,110])=true then
 some (decide (e.Amount>a.Taken))
 else
 some false
 else
 if(e.Kind==[114,101,116,117,114,110])=true then
 some (decide (e.Amount>a.Taken))
 else
 some false
 else
 if(e.Kind==[116,97,107,101])=true then
 if e.Amount>(w64 (b+a.Reserved))then
 some true
 else
 if(e.Kind==[114,101,116,117,114,110])=true then
 some (decide (e.Amount>a.Taken))
 else
 some false
 else
 if(e.Kind==[114,101,116,117,114,110])=true then
 some (decide (e.Amount>a.Taken))
 else
 some false
 else
 if(e.Kind==[114,101,108,101,97,115,101])=true then
 if e.Amount>a.Reserved then
 some true
 else
 if(e.Kind==[116,97,107,101])=true then
 if e.Amount>(w64 (b+a.Reserved))then
 some true
 else
 if(e.Kind==[114,101,116,117,114,110])=true then
 some (decide (e.Amount>a.Taken))
 else
 some false
 else
 if(e.Kind==[114,101,116,117,114,110])=true then
 some (decide (e.Amount>a.Taken))
 else
 some false
 else
 if(e.Kind==[116,97,107,101])=true then
 if e.Amount>(w64 (b+a.Reserved))then
 some true
 else
 if(e.Kind==[114,101,116,117,114,110])=true then
 some (decide (e.Amount>a.Taken))
 else
 some false
 else
 if(e.Kind==[114,101,116,117,114,110])=true then
 some (decide (e.Amount>a.Taken))
 else
 some false:Option Bool).bind fun g=>
 if g=true then
 some (.inr 3)
 else
 some (.inl ()):Option (Unit⊕Int))).bind (fun
 |(.inl ())=>
 (xg N d e).bind fun c=>
 (qK N c e.Lot).bind fun h=>
 ((idx c.Lots h).bind fun i=>
 if i.Stock>999999999 then
 some true
 else
 (zZ N c e.Lot e.Order).bind fun j=>
 some (decide (j.Taken>999999999)):Option Bool).bind fun k=>
 if k=true then
 some 4
 else
 (if(c.Lots.length:Int)>64 then
 some true
 else
 some (decide ((c.Holds.length:Int)>256)):Option Bool).bind fun l=>
 if l=true then
 some 5
 else
 some 0
 |(.inr m)=>
 some m)
theorem qfZ (N:Nat) (f:StateT) (e:qh) {res:Int} (h:xP N f e=some res):qf ZT (.fn 27) (kX f.Day f.Lots f.Holds (kAW e.Kind e.Day e.Lot e.Amount e.Yarn e.Dye e.Order [])) [] (.i res) []:=by
 unfold xP at h
 refine Uc Tryz.func27 rfl rfl (m:=137) rfl (rs:=[.tmp 4]) rfl (l:=(kS f.Day f.Lots f.Holds (kAO e.Kind e.Day e.Lot e.Amount e.Yarn e.Dye e.Order []))) rfl ?_
 refine sg fol (kG []) (kD f.Day f.Lots f.Holds e.Kind e.Day e.Lot e.Amount e.Yarn e.Dye e.Order []) ?_
 refine sq ?_
 refine sh fol (kG [(13,.bool (decide (e.Day<f.Day)))]) ?_
 refine ihD h (fun c1 h=>?_) (fun c1 h=>?_)
 ·refine sh fol [(4,.i 1)] ?_
  refine Goes.ret ?_
  obtain rfl:=si h
  exact(gw2 [.i 1] (Ub tI))
 refine Goes.skip ?_
 obtain⟨W,X,h⟩:=bnd h
 refine sq (gr fol [3] (kG (kAd W)) (ac (cv (vS N f e.Lot X)) az) ?_)
 refine sq ?_
 refine sh fol (kG [(5,.i W),(20,.bool (e.Kind==[114,101,99,101,105,118,101]))]) ?_
 obtain⟨r3,g3,h⟩:=bnd h
 refine Goes.imp (Q:=fun x s'=>(x= .normal/\(.inl ())=r3/\Sub s' (ofG 137 (kG []),(kD f.Day f.Lots f.Holds e.Kind e.Day e.Lot e.Amount e.Yarn e.Dye e.Order [])))\/(x= .ret/\ ∃q4,(.inr q4)=r3/\qP ZT [.tmp 4] (.i q4) .ret s')) ?_ ?_
 ·refine ihB g3 (fun c5 g3=>?_) (fun c5 g3=>?_)
  ·refine sq ?_
   obtain⟨b9,c,g3⟩:=bnd g3
   refine Goes.cut (s':=(ofG 137 (kG [(44,.bool b9)]),(kD f.Day f.Lots f.Holds e.Kind e.Day e.Lot e.Amount e.Yarn e.Dye e.Order []))) ?_ ?_
   ·rcases wyD c with⟨Y,c⟩|⟨Y,c⟩
    ·obtain⟨x7,q,c⟩:=bnd c
     rcases wyB c with⟨Z,c⟩|⟨Z,c⟩
     ·obtain rfl:=si c
      exact tr fol [2,6,8,12] (kG [(44,.bool true)]) (ac (gw Y) (ac (iv qbu qb q) (ac (lv 1 ce9 qb q rfl) (ac (gw Z) az))))
     obtain rfl:=si c
     exact tr fol [2,6,8,12,16,18] (kG [(44,.bool (!(x7.Dye==e.Dye)))]) (ac (gw Y) (ac (iv qbu qb q) (ac (lv 1 ce9 qb q rfl) (ac (gw Z) (ac (iv qbu qb q) (ac (lv 2 ce9 qb q rfl) az))))))
    obtain rfl:=si c
    exact tr fol [2] (kG [(44,.bool false)]) (ac (gw Y) az)
   refine ihB g3 (fun a0 g3=>?_) (fun a0 g3=>?_)
   ·refine sh fol [(4,.i 2)] ?_
    refine Goes.ret ?_
    obtain rfl:=si g3
    exact Or.inr (⟨rfl,_,rfl,(gw2 [.i 2] (Ub tI))⟩)
   refine Goes.skip ?_
   obtain rfl:=si g3
   exact Or.inl (⟨rfl,rfl,(Sub.keep [2,3] rfl rfl)⟩)
  refine sq ?_
  refine sh fol (kG [(5,.i W),(46,.bool (decide (W<0)))]) ?_
  refine ihD g3 (fun a1 g3=>?_) (fun a1 g3=>?_)
  ·refine sh fol [(4,.i 2)] ?_
   refine Goes.ret ?_
   obtain rfl:=si g3
   exact Or.inr (⟨rfl,_,rfl,(gw2 [.i 2] (Ub tI))⟩)
  refine Goes.skip ?_
  obtain⟨g,D,g3⟩:=bnd g3
  refine sq (gq fol [5] (kG [(5,.i W),(6,.ptr 2 0)]) (kD f.Day f.Lots f.Holds e.Kind e.Day e.Lot e.Amount e.Yarn e.Dye e.Order (kJ g.Lot g.Order g.Reserved g.Taken [])) (ac (cv (xu N f e.Lot e.Order D)) az) ?_)
  obtain⟨a2,E,g3⟩:=bnd g3
  refine sq (gr fol [2] (kG [(6,.ptr 2 0),(7,.i a2)]) (ac (cv (qa0 N f W E)) az) ?_)
  refine sq ?_
  obtain⟨a3,a,g3⟩:=bnd g3
  refine Goes.cut (s':=(ofG 137 (kG (kAx a3)),(kD f.Day f.Lots f.Holds e.Kind e.Day e.Lot e.Amount e.Yarn e.Dye e.Order (kJ g.Lot g.Order g.Reserved g.Taken [])))) ?_ ?_
  ·rcases wyB a with⟨b,a⟩|⟨b,a⟩
   ·rcases wyD a with⟨j,a⟩|⟨j,a⟩
    ·obtain rfl:=si a
     exact tr fol [3,9] (kG kAl) (ac (gw b) (ac (gw j) az))
    rcases wyB a with⟨k,a⟩|⟨k,a⟩
    ·rcases wyD a with⟨s,a⟩|⟨s,a⟩
     ·obtain rfl:=si a
      exact tr fol [3,9,13,21] (kG kAl) (ac (gw b) (ac (gw j) (ac (gw k) (ac (gw s) az))))
     rcases wyB a with⟨u,a⟩|⟨u,a⟩
     ·rcases wyD a with⟨z,a⟩|⟨z,a⟩
      ·obtain rfl:=si a
       exact tr fol [3,9,13,21,25,35] (kG kAl) (ac (gw b) (ac (gw j) (ac (gw k) (ac (gw s) (ac (gw u) (ac (gw z) az))))))
      rcases wyB a with⟨F,a⟩|⟨F,a⟩
      ·obtain rfl:=si a
       exact tr fol [3,9,13,21,25,35,39] (kG (kAx (decide (e.Amount>g.Taken)))) (ac (gw b) (ac (gw j) (ac (gw k) (ac (gw s) (ac (gw u) (ac (gw z) (ac (gw F) az)))))))
      obtain rfl:=si a
      exact tr fol [3,9,13,21,25,35,39] (kG kAi) (ac (gw b) (ac (gw j) (ac (gw k) (ac (gw s) (ac (gw u) (ac (gw z) (ac (gw F) az)))))))
     rcases wyB a with⟨G,a⟩|⟨G,a⟩
     ·obtain rfl:=si a
      exact tr fol [3,9,13,21,25,39] (kG (kAx (decide (e.Amount>g.Taken)))) (ac (gw b) (ac (gw j) (ac (gw k) (ac (gw s) (ac (gw u) (ac (gw G) az))))))
     obtain rfl:=si a
     exact tr fol [3,9,13,21,25,39] (kG kAi) (ac (gw b) (ac (gw j) (ac (gw k) (ac (gw s) (ac (gw u) (ac (gw G) az))))))
    rcases wyB a with⟨v,a⟩|⟨v,a⟩
    ·rcases wyD a with⟨A,a⟩|⟨A,a⟩
     ·obtain rfl:=si a
      exact tr fol [3,9,13,25,35] (kG kAl) (ac (gw b) (ac (gw j) (ac (gw k) (ac (gw v) (ac (gw A) az)))))
     rcases wyB a with⟨H,a⟩|⟨H,a⟩
     ·obtain rfl:=si a
      exact tr fol [3,9,13,25,35,39] (kG (kAx (decide (e.Amount>g.Taken)))) (ac (gw b) (ac (gw j) (ac (gw k) (ac (gw v) (ac (gw A) (ac (gw H) az))))))
     obtain rfl:=si a
     exact tr fol [3,9,13,25,35,39] (kG kAi) (ac (gw b) (ac (gw j) (ac (gw k) (ac (gw v) (ac (gw A) (ac (gw H) az))))))
    rcases wyB a with⟨I,a⟩|⟨I,a⟩
    ·obtain rfl:=si a
     exact tr fol [3,9,13,25,39] (kG (kAx (decide (e.Amount>g.Taken)))) (ac (gw b) (ac (gw j) (ac (gw k) (ac (gw v) (ac (gw I) az)))))
    obtain rfl:=si a
    exact tr fol [3,9,13,25,39] (kG kAi) (ac (gw b) (ac (gw j) (ac (gw k) (ac (gw v) (ac (gw I) az)))))
   rcases wyB a with⟨n,a⟩|⟨n,a⟩
   ·rcases wyD a with⟨t,a⟩|⟨t,a⟩
    ·obtain rfl:=si a
     exact tr fol [3,13,21] (kG kAl) (ac (gw b) (ac (gw n) (ac (gw t) az)))
    rcases wyB a with⟨w,a⟩|⟨w,a⟩
    ·rcases wyD a with⟨B,a⟩|⟨B,a⟩
     ·obtain rfl:=si a
      exact tr fol [3,13,21,25,35] (kG kAl) (ac (gw b) (ac (gw n) (ac (gw t) (ac (gw w) (ac (gw B) az)))))
     rcases wyB a with⟨J,a⟩|⟨J,a⟩
     ·obtain rfl:=si a
      exact tr fol [3,13,21,25,35,39] (kG (kAx (decide (e.Amount>g.Taken)))) (ac (gw b) (ac (gw n) (ac (gw t) (ac (gw w) (ac (gw B) (ac (gw J) az))))))
     obtain rfl:=si a
     exact tr fol [3,13,21,25,35,39] (kG kAi) (ac (gw b) (ac (gw n) (ac (gw t) (ac (gw w) (ac (gw B) (ac (gw J) az))))))
    rcases wyB a with⟨K,a⟩|⟨K,a⟩
    ·obtain rfl:=si a
     exact tr fol [3,13,21,25,39] (kG (kAx (decide (e.Amount>g.Taken)))) (ac (gw b) (ac (gw n) (ac (gw t) (ac (gw w) (ac (gw K) az)))))
    obtain rfl:=si a
    exact tr fol [3,13,21,25,39] (kG kAi) (ac (gw b) (ac (gw n) (ac (gw t) (ac (gw w) (ac (gw K) az)))))
   rcases wyB a with⟨y,a⟩|⟨y,a⟩
   ·rcases wyD a with⟨C,a⟩|⟨C,a⟩
    ·obtain rfl:=si a
     exact tr fol [3,13,25,35] (kG kAl) (ac (gw b) (ac (gw n) (ac (gw y) (ac (gw C) az))))
    rcases wyB a with⟨L,a⟩|⟨L,a⟩
    ·obtain rfl:=si a
     exact tr fol [3,13,25,35,39] (kG (kAx (decide (e.Amount>g.Taken)))) (ac (gw b) (ac (gw n) (ac (gw y) (ac (gw C) (ac (gw L) az)))))
    obtain rfl:=si a
    exact tr fol [3,13,25,35,39] (kG kAi) (ac (gw b) (ac (gw n) (ac (gw y) (ac (gw C) (ac (gw L) az)))))
   rcases wyB a with⟨M,a⟩|⟨M,a⟩
   ·obtain rfl:=si a
    exact tr fol [3,13,25,39] (kG (kAx (decide (e.Amount>g.Taken)))) (ac (gw b) (ac (gw n) (ac (gw y) (ac (gw M) az))))
   obtain rfl:=si a
   exact tr fol [3,13,25,39] (kG kAi) (ac (gw b) (ac (gw n) (ac (gw y) (ac (gw M) az))))
  refine ihB g3 (fun a4 g3=>?_) (fun a4 g3=>?_)
  ·refine sh fol [(4,.i 3)] ?_
   refine Goes.ret ?_
   obtain rfl:=si g3
   exact Or.inr (⟨rfl,_,rfl,(gw2 [.i 3] (Ub tI))⟩)
  refine Goes.skip ?_
  obtain rfl:=si g3
  exact Or.inl (⟨rfl,rfl,(Sub.norm [] [some 0,some 1] rfl rfl (.kp (.kp .nil)) (.kb rfl (.same sn) (.kb rfl (.same sn) .nil)))⟩)
 rintro x s' (⟨rfl,rfl,hsub⟩|⟨rfl,q52,rfl,hret⟩)
 ·try dsimp only at h
  refine Goes.sub hsub ?_
  obtain⟨o,O,h⟩:=bnd h
  refine sq (gq fol [2] [(3,.ptr 1 0),(8,.ptr 2 0)] (kD f.Day f.Lots f.Holds e.Kind e.Day e.Lot e.Amount e.Yarn e.Dye e.Order (kE o.Day o.Lots o.Holds [])) (ac (cv (qdU N f e O)) az) ?_)
  obtain⟨a5,P,h⟩:=bnd h
  refine sq (gr fol [3] [(3,.ptr 1 0),(5,.i a5),(8,.ptr 2 0)] (ac (cv (vS N o e.Lot P)) az) ?_)
  refine sq ?_
  refine sq ?_
  obtain⟨a6,d,h⟩:=bnd h
  refine Goes.cut (s':=(ofG 137 [(8,.ptr 2 0),(126,.bool a6)],(kD f.Day f.Lots f.Holds e.Kind e.Day e.Lot e.Amount e.Yarn e.Dye e.Order (kE o.Day o.Lots o.Holds [])))) ?_ ?_
  ·obtain⟨x42,r,d⟩:=bnd d
   rcases wyD d with⟨T,d⟩|⟨T,d⟩
   ·obtain rfl:=si d
    exact tr fol [3,5,7] [(8,.ptr 2 0),(126,.bool true)] (ac (iv qbu qb r) (ac (lv 3 ce3 qb r rfl) (ac (gw T) az)))
   obtain⟨a7,U,d⟩:=bnd d
   obtain rfl:=si d
   exact tr fol [3,5,7,13] [(8,.ptr 2 0),(126,.bool (decide (a7.Taken>999999999)))] (ac (iv qbu qb r) (ac (lv 3 ce3 qb r rfl) (ac (gw T) (ac (cv (xu N o e.Lot e.Order U)) az))))
  refine ihB h (fun a8 h=>?_) (fun a8 h=>?_)
  ·refine sh fol [(4,.i 4)] ?_
   refine Goes.ret ?_
   obtain rfl:=si h
   exact(gw2 [.i 4] (Ub tI))
  refine Goes.skip ?_
  refine sq ?_
  refine sq ?_
  obtain⟨a9,p,h⟩:=bnd h
  refine Goes.cut (s':=(ofG 137 [(136,.bool a9)],(kD f.Day f.Lots f.Holds e.Kind e.Day e.Lot e.Amount e.Yarn e.Dye e.Order (kE o.Day o.Lots o.Holds [])))) ?_ ?_
  ·rcases wyD p with⟨V,p⟩|⟨V,p⟩
   ·obtain rfl:=si p
    exact tr fol [4] [(136,.bool true)] (ac (gw V) az)
   obtain rfl:=si p
   exact tr fol [4] [(136,.bool (decide ((o.Holds.length:Int)>256)))] (ac (gw V) az)
  refine ihB h (fun b0 h=>?_) (fun b0 h=>?_)
  ·refine sh fol [(4,.i 5)] ?_
   refine Goes.ret ?_
   obtain rfl:=si h
   exact(gw2 [.i 5] (Ub tI))
  refine Goes.skip ?_
  refine sh fol [(4,.i 0)] ?_
  refine Goes.ret ?_
  obtain rfl:=si h
  exact(gw2 [.i 0] (Ub tI))
 try dsimp only at h
 obtain rfl:=si h
 exact hret
end Go.Av
