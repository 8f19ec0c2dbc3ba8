/-
  Walks of functions: what each computes, as a plain function.
-/
import Derived.Test.YtcnioemfifogeaaGreatDoorQGenA1r4
noncomputable section
namespace Go.Av
open Go.Proofs Go.RowKit
set_option linter.unusedSectionVars false
set_option linter.unusedVariables false
set_option linter.unusedSimpArgs false
set_option maxRecDepth 100000
def xV (N:Nat) (l:List qb):Nat->Int->(List qB)->(List qf)->(List ku)->Int->Option (Int×(List qB)×(List qf)×(List ku))
 |0,_,_,_,_,_=>none
 |K+1,d,e,f,h,g=>
  if g<(l.length:Int)then
  (((idx l g).bind fun b=>
  (qdR N (⟨d,e,f⟩:qL) b).bind fun c=>
  if(!decide (c=0))=true then
  (app 16 h [(⟨w64 (g+1),c⟩:ku)]).bind fun i=>
  some (d,e,f,i)
  else
  (qbW N (⟨d,e,f⟩:qL) b).bind fun a=>
  some (a.Day,a.Lots,a.Holds,h):Option (Int×(List qB)×(List qf)×(List ku)))).bind fun(j,k,m,n)=>
  xV N l K j k m n (w64 (g+1))
  else
  some (d,e,f,h)
def qaI (N:Nat) (l:List qb):Option (qL×(List ku)):=
 (xV N l N 0 ([]:List qB) ([]:List qf) ([]:List ku) 0).bind fun(a,b,c,d)=>
 some ((⟨a,b,c⟩:qL),d)
theorem qgd (N:Nat) (l:List qb) {res:qL×(List ku)} (h:qaI N l=some res):qp ZT (.fn 16) [vl ql l] [] (.tuple (kV res.1.Day res.1.Lots res.1.Holds [vl qG res.2])) []:=by
 unfold qaI at h
 refine Uc Tryz.func16 rfl rfl (m:=37) rfl (rs:=[.cell 2 43,.tmp 3]) rfl (l:=(kO l [])) rfl ?_
 refine sg fol (kO l (kAI [])) (kF []) ?_
 refine sg fol (kO l (kN [])) (kF (kF [])) ?_
 refine sh fol (kO l (kN [(5,.nilslice)])) ?_
 refine sq ?_
 refine sh fol (kO l (kN [(5,.nilslice),(6,.i 0)])) ?_
 refine Goes.block ?_
 obtain⟨A,g10,h⟩:=bnd h
 refine Goes.imp (Q:=fun x s'=>(x= .exit 0/\ ∃w y z q,(w,y,z,q)=A/\Sub s' (ofG 37 (kN (kAN q [])),(kF (kD w y z (kAE q [])))))) ?_ ?_
 ·refine Goes.sub (s':=(ofG 37 (kO l (kN [(5,.gslice 2 ([]:List ku).length 2),(6,.i 0)])),(kF kAp))) (Sub.norm [] [some 0,some 1,none] rfl rfl (.keep (.same (qN ql _)) (.kp (.kp (.keep .nil (.keep (.same nI) .nil))))) (.kb rfl (.same sn) (.kb rfl (.cells (rc (.same nI) (rc (.nilv) (rc (.nilv) rn)))) (.fresh .nil)))) ?_
  refine Ud (fun M s=> ∃(n:Int) (o:List qB) (p:List qf) (e:List ku) (b:Int),s=(ofG 37 (kO l (kN (kAN e [(6,.i b)]))),(kF (kD n o p (kAE e []))))/\xV N l M n o p e b=some A) ?_ (m:=N) ⟨_,_,_,_,_,rfl,g10⟩
  rintro M s ⟨n,o,p,e,b,rfl,g10⟩
  cases M with
  |zero=>simp only[xV]at g10;cases g10
  |succ M=>
   rw[xV]at g10
   refine sq ?_
   refine sh fol (kO l (kN (kAN e [(6,.i b),(11,.bool (decide (b<(l.length:Int))))]))) ?_
   refine ihD g10 (fun C g10=>?_) (fun C g10=>?_)
   ·refine Goes.skip ?_
    refine sq ?_
    obtain⟨D,g16,g10⟩:=bnd g10
    refine Goes.imp (Q:=fun x s'=>(x= .normal/\ ∃f g j c,(f,g,j,c)=D/\Sub s' (ofG 37 (kO l (kN (kAN c [(6,.i b)]))),(kF (kD f g j (kAE c [])))))) ?_ ?_
    ·refine Goes.block ?_
     obtain⟨B,a,g16⟩:=bnd g16
     obtain⟨d,r,g16⟩:=bnd g16
     refine sq (gr fol [3,4,5] (kO l (kN (kAN e [(6,.i b),(7,.i d)]))) (ac (iv qmQ ql a) (ac (la qp4 ql a) (ac (cv (qkP N (⟨n,o,p⟩:qL) B r)) az))) ?_)
     refine sh fol (kO l (kN (kAN e [(6,.i b),(7,.i d),(21,.bool (!decide (d=0)))]))) ?_
     refine ihB g16 (fun F g16=>?_) (fun F g16=>?_)
     ·obtain⟨k,t,g16⟩:=bnd g16
      refine gq fol [6] (kO l (kN [(5,.gslice 4 k.length 2),(6,.i b)])) (kF (kD n o p (.dead::(kAP (w64 (b+1)) d (kAE k []))))) (ac (hs (.run [2,3] (xK ZT [44,44] (.gslice 2 e.length 2) (.slice 3 0 1 1 2)) (kF (kD n o p (kAE e (kAP (w64 (b+1)) d [])))) (.gslice 4 k.length 2) (kF (kD n o p (.dead::(kAP (w64 (b+1)) d (kAE k []))))) true) (qbI sl44 (E:=qG) rfl (qe2 (E:=qG) (ys:=[(⟨w64 (b+1),d⟩:ku)]) rfl rfl rfl rfl) (qft (E:=qG) (l:=e) rfl rfl rfl t rfl))) az) ?_
      obtain rfl:=si g16
      exact⟨rfl,_,_,_,_,rfl,(Sub.norm [] [some 0,some 1,some 4] rfl rfl (.keep (.same (qN ql _)) (.kp (.kp (.keep (.gslice rfl) (.keep (.same nI) .nil))))) (.kb rfl (.same sn) (.kb rfl (.same sn) (.ks .nil))))⟩
     obtain⟨u,v,g16⟩:=bnd g16
     refine gq fol [3,4,5] (kO l (kN (kAN e [(6,.i b)]))) (kF (kD u.Day u.Lots u.Holds (kAE e []))) (ac (iv qmQ ql a) (ac (la qp4 ql a) (ac (cv (qhw N (⟨n,o,p⟩:qL) B v)) az))) ?_
     obtain rfl:=si g16
     exact⟨rfl,_,_,_,_,rfl,(Sub.refl _)⟩
    rintro x s' ⟨rfl,f,g,j,c,rfl,hsub⟩
    try dsimp only at g10
    refine Goes.sub hsub ?_
    refine gh fol (kO l (kN (kAN c [(6,.i (w64 (b+1)))]))) ?_
    exact⟨M,(ofG 37 (kO l (kN (kAN c [(6,.i (w64 (b+1)))]))),(kF (kD f g j (kAE c [])))),Nat.lt_succ_self _,(Sub.refl _),_,_,_,_,_,rfl,g10⟩
   refine Goes.exit ?_
   obtain rfl:=si g10
   exact⟨rfl,_,_,_,_,rfl,(Sub.keep [2,4,5] rfl rfl)⟩
 rintro x s' ⟨rfl,w,y,z,q,rfl,hsub⟩
 try dsimp only at h
 refine Goes.sub hsub ?_
 refine sg fol (kAI [(3,.gslice 2 q.length 2)]) (kD w y z (kD w y z (kAE q []))) ?_
 refine Goes.ret ?_
 obtain rfl:=si h
 exact(gw2 (kV w y z [.gslice 2 q.length 2]) (FzW.tuple (qJ.cons (FzW.agg (qJ.cons (Ub tI) (qJ.cons (Ub (qw qo _ (nl rfl))) (qJ.cons (Ub (qw qg _ (nl rfl))) qJ.nil)))) (qJ.cons (FzW.fz (Um (E:=qG) rfl rfl (nl rfl))) qJ.nil))))
def qaR (l:List qb) (day:Int):Nat->(List qb)->Int->Option (List qb)
 |0,_,_=>none
 |K+1,a,b=>
  if b<(l.length:Int)then
  (((idx l b).bind fun d=>
  if d.Day<=day then
  (app 96 a [d]).bind fun c=>
  some c
  else
  some a:Option (List qb))).bind fun e=>
  qaR l day K e (w64 (b+1))
  else
  some a
def qdp (N:Nat) (l:List qb) (day:Int):Option (List qb):=
 (qaR l day N ([]:List qb) 0).bind fun a=>
 some a
theorem qlw (N:Nat) (l:List qb) (day:Int) {res:List qb} (h:qdp N l day=some res):qp ZT (.fn 17) [vl ql l,.i day] [] (vl ql res) []:=by
 unfold qdp at h
 refine Uc Tryz.func17 rfl rfl (m:=28) rfl (rs:=[.tmp 4]) rfl (l:=(kO l [(1,.i day)])) rfl ?_
 refine sh fol (kO l [(1,.i day)]) ?_
 refine sh fol (kO l [(1,.i day),(5,.nilslice)]) ?_
 refine sq ?_
 refine sh fol (kO l [(1,.i day),(5,.nilslice),(6,.i 0)]) ?_
 refine Goes.block ?_
 obtain⟨n,g4,h⟩:=bnd h
 refine Goes.imp (Q:=fun x s'=>(x= .exit 0/\ ∃k,k=n/\Sub s' (ofG 28 [(5,.gslice 0 k.length 7)],(kAA k)))) ?_ ?_
 ·refine Goes.sub (s':=(ofG 28 (kO l [(1,.i day),(5,.gslice 0 ([]:List qb).length 7),(6,.i 0)]),[.cells (([]:List qb).flatMap ql.c)])) (Sub.norm [] [none] rfl rfl (.keep (.same (qN ql _)) (.keep (.same nI) (.keep .nil (.keep (.same nI) .nil)))) (.fresh .nil)) ?_
  refine Ud (fun M s=> ∃(e:List qb) (d:Int),s=(ofG 28 (kO l (kAq day e d [])),(kAA e))/\qaR l day M e d=some n) ?_ (m:=N) ⟨_,_,rfl,g4⟩
  rintro M s ⟨e,d,rfl,g4⟩
  cases M with
  |zero=>simp only[qaR]at g4;cases g4
  |succ M=>
   rw[qaR]at g4
   refine sq ?_
   refine sh fol (kO l (kAq day e d [(10,.bool (decide (d<(l.length:Int))))])) ?_
   refine ihD g4 (fun o g4=>?_) (fun o g4=>?_)
   ·refine Goes.skip ?_
    refine sq ?_
    obtain⟨p,g7,g4⟩:=bnd g4
    refine Goes.imp (Q:=fun x s'=>(x= .normal/\ ∃g,g=p/\Sub s' (ofG 28 (kO l (kAq day g d [])),(kAA g)))) ?_ ?_
    ·refine Goes.block ?_
     obtain⟨a,b,g7⟩:=bnd g7
     refine sq (gr fol [2,4] (kO l (kAq day e d [(19,.bool (decide (a.Day<=day)))])) (ac (iv qmQ ql b) (ac (lv 1 ce3 ql b rfl) az)) ?_)
     refine ihD g7 (fun q g7=>?_) (fun q g7=>?_)
     ·obtain⟨f,j,g7⟩:=bnd g7
      refine gq fol [3,4,6] (kO l [(1,.i day),(5,.gslice 2 f.length 7),(6,.i d)]) (.dead::(kE a.Kind a.Day a.Lot a.Amount a.Yarn a.Dye a.Order (kAA f))) (ac (iv qmQ ql b) (ac (la qp4 ql b) (ac (hs (.run [0,1] (xK ZT [23,23] (.gslice 0 e.length 7) (.slice 1 0 1 1 7)) (.cells (e.flatMap ql.c)::(kE a.Kind a.Day a.Lot a.Amount a.Yarn a.Dye a.Order [])) (.gslice 2 f.length 7) (.dead::(kE a.Kind a.Day a.Lot a.Amount a.Yarn a.Dye a.Order (kAA f))) true) (qbI qmQ (E:=ql) rfl (qe2 (E:=ql) (ys:=[a]) rfl rfl rfl rfl) (qft (E:=ql) (l:=e) rfl rfl rfl j rfl))) az))) ?_
      obtain rfl:=si g7
      exact⟨rfl,_,rfl,(Sub.norm [] [some 2] rfl rfl (.keep (.same (qN ql _)) (.keep (.same nI) (.keep (.gslice rfl) (.keep (.same nI) .nil)))) (.ks .nil))⟩
     refine Goes.skip ?_
     obtain rfl:=si g7
     exact⟨rfl,_,rfl,(Sub.keep [0,1,5,6] rfl rfl)⟩
    rintro x s' ⟨rfl,g,rfl,hsub⟩
    refine Goes.sub hsub ?_
    refine gh fol (kO l (kAq day g (w64 (d+1)) [])) ?_
    exact⟨M,(ofG 28 (kO l (kAq day g (w64 (d+1)) [])),(kAA g)),Nat.lt_succ_self _,(Sub.refl _),_,_,rfl,g4⟩
   refine Goes.exit ?_
   obtain rfl:=si g4
   exact⟨rfl,_,rfl,(Sub.keep [5] rfl rfl)⟩
 rintro x s' ⟨rfl,k,rfl,hsub⟩
 refine Goes.sub hsub ?_
 refine sh fol [(4,.gslice 0 k.length 7)] ?_
 refine Goes.ret ?_
 obtain rfl:=si h
 exact(gw2 [.gslice 0 k.length 7] (FzW.fz (Um (E:=ql) rfl rfl (nl rfl))))
def qaQ (a:qL) (b:qL):Nat->Int->Option (Unit⊕Bool)
 |0,_=>none
 |K+1,e=>
  if e<(a.Lots.length:Int)then
  (idx a.Lots e).bind fun c=>
  (idx b.Lots e).bind fun d=>
  if(!((c.Name==d.Name)&&((c.Yarn==d.Yarn)&&((c.Dye==d.Dye)&&(decide (c.Stock=d.Stock)&&true)))))=true then
  some (.inr false)
  else
  qaQ a b K (w64 (e+1))
  else
  some (.inl ())
def qaP (a:qL) (b:qL):Nat->Int->Option (Unit⊕Bool)
 |0,_=>none
 |K+1,c=>
  if c<(a.Holds.length:Int)then
  (idx a.Holds c).bind fun d=>
  (idx b.Holds c).bind fun e=>
  if(!((d.Lot==e.Lot)&&((d.Order==e.Order)&&(decide (d.Reserved=e.Reserved)&&(decide (d.Taken=e.Taken)&&true)))))=true then
  some (.inr false)
  else
  qaP a b K (w64 (c+1))
  else
  some (.inl ())
def qcD (N:Nat) (a:qL) (b:qL):Option Bool:=
 (if(!decide (a.Day=b.Day))=true then
 some true
 else
 if(!decide ((a.Lots.length:Int)=(b.Lots.length:Int)))=true then
 some true
 else
 some (!decide ((a.Holds.length:Int)=(b.Holds.length:Int))):Option Bool).bind fun e=>
 if e=true then
 some false
 else
 (qaQ a b N 0).bind (fun
 |(.inl ())=>
 (qaP a b N 0).bind (fun
 |(.inl ())=>
 some true
 |(.inr c)=>
 some c)
 |(.inr d)=>
 some d)
theorem qch (N:Nat) (a:qL) (b:qL) {res:Bool} (h:qcD N a b=some res):qp ZT (.fn 19) (kV a.Day a.Lots a.Holds (kV b.Day b.Lots b.Holds [])) [] (.bool res) []:=by
 unfold qcD at h
 refine Uc Tryz.func19 rfl rfl (m:=66) rfl (rs:=[.tmp 4]) rfl (l:=(kAD a.Day a.Lots a.Holds [(1,.agg [.i b.Day,vl qo b.Lots,vl qg b.Holds])])) rfl ?_
 refine sg fol (kG []) (kD a.Day a.Lots a.Holds (kD b.Day b.Lots b.Holds [])) ?_
 refine sq ?_
 refine sq ?_
 obtain⟨D,j,h⟩:=bnd h
 refine Goes.cut (s':=(ofG 66 (kG [(29,.bool D)]),(kD a.Day a.Lots a.Holds (kD b.Day b.Lots b.Holds [])))) ?_ ?_
 ·rcases wyB j with⟨v,j⟩|⟨v,j⟩
  ·obtain rfl:=si j
   exact tr fol [5] (kG [(29,.bool true)]) (ac (gw v) az)
  rcases wyB j with⟨w,j⟩|⟨w,j⟩
  ·obtain rfl:=si j
   exact tr fol [5,14] (kG [(29,.bool true)]) (ac (gw v) (ac (gw w) az))
  obtain rfl:=si j
  exact tr fol [5,14] (kG [(29,.bool (!decide ((a.Holds.length:Int)=(b.Holds.length:Int))))]) (ac (gw v) (ac (gw w) az))
 refine ihB h (fun E h=>?_) (fun E h=>?_)
 ·refine sh fol kAt ?_
  refine Goes.ret ?_
  obtain rfl:=si h
  exact(gw2 [.bool false] (Ub tB))
 refine Goes.skip ?_
 refine sq ?_
 refine sh fol (kG [(5,.i 0)]) ?_
 refine Goes.block ?_
 obtain⟨y,g7,h⟩:=bnd h
 refine Goes.imp (Q:=fun x s'=>(x= .exit 0/\(.inl ())=y/\Sub s' (ofG 66 (kG []),(kD a.Day a.Lots a.Holds (kD b.Day b.Lots b.Holds []))))\/(x= .ret/\ ∃C,(.inr C)=y/\jF ZT [.tmp 4] (.bool C) .ret s')) ?_ ?_
 ·refine Ud (fun M s=> ∃(r:Int),s=(ofG 66 (kG (kAY r)),(kD a.Day a.Lots a.Holds (kD b.Day b.Lots b.Holds [])))/\qaQ a b M r=some y) ?_ (m:=N) ⟨_,rfl,g7⟩
  rintro M s ⟨r,rfl,g7⟩
  cases M with
  |zero=>simp only[qaQ]at g7;cases g7
  |succ M=>
   rw[qaQ]at g7
   refine sq ?_
   refine sh fol (kG [(5,.i r),(34,.bool (decide (r<(a.Lots.length:Int))))]) ?_
   refine ihD g7 (fun F g7=>?_) (fun F g7=>?_)
   ·refine Goes.skip ?_
    refine sq (Goes.block ?_)
    obtain⟨c,n,g7⟩:=bnd g7
    obtain⟨d,o,g7⟩:=bnd g7
    refine sq (gr fol [3,4,8,9,10] (kG [(5,.i r),(47,.bool (!((c.Name==d.Name)&&((c.Yarn==d.Yarn)&&((c.Dye==d.Dye)&&(decide (c.Stock=d.Stock)&&true))))))]) (ac (iv qh1 qo n) (ac (la ag84 qo n) (ac (iv qh1 qo o) (ac (la ag84 qo o) (ac (hs (.done (.opt (qgu ZT .neq 84 (.tmp 41) (.tmp 46) (.agg [.str c.Name,.str c.Yarn,.str c.Dye,.i c.Stock]) (.agg [.str d.Name,.str d.Yarn,.str d.Dye,.i d.Stock]))) (.bool (!((c.Name==d.Name)&&((c.Yarn==d.Yarn)&&((c.Dye==d.Dye)&&(decide (c.Stock=d.Stock)&&true))))))) (qp9 eqt84 (e:=((c.Name==d.Name)&&((c.Yarn==d.Yarn)&&((c.Dye==d.Dye)&&(decide (c.Stock=d.Stock)&&true))))) (.cons (a:= .str c.Name) (b:= .str d.Name) rfl (by kernel_rfl) (by kernel_rfl) (by kernel_rfl) (.cons (a:= .str c.Yarn) (b:= .str d.Yarn) rfl (by kernel_rfl) (by kernel_rfl) (by kernel_rfl) (.cons (a:= .str c.Dye) (b:= .str d.Dye) rfl (by kernel_rfl) (by kernel_rfl) (by kernel_rfl) (.cons (a:= .i c.Stock) (b:= .i d.Stock) rfl (by kernel_rfl) (by kernel_rfl) (by kernel_rfl) .nil)))))) az))))) ?_)
    refine ihB g7 (fun z g7=>?_) (fun z g7=>?_)
    ·refine sh fol kAt ?_
     refine Goes.ret ?_
     obtain rfl:=si g7
     exact Or.inr (⟨rfl,_,rfl,(gw2 [.bool false] (Ub tB))⟩)
    refine Goes.skip ?_
    refine gh fol (kG (kAY (w64 (r+1)))) ?_
    exact⟨M,(ofG 66 (kG (kAY (w64 (r+1)))),(kD a.Day a.Lots a.Holds (kD b.Day b.Lots b.Holds []))),Nat.lt_succ_self _,(Sub.refl _),_,rfl,g7⟩
   refine Goes.exit ?_
   obtain rfl:=si g7
   exact Or.inl (⟨rfl,rfl,(Sub.keep [2,3] rfl rfl)⟩)
 rintro x s' (⟨rfl,rfl,hsub⟩|⟨rfl,G,rfl,hret⟩)
 ·try dsimp only at h
  refine Goes.sub hsub ?_
  refine sq ?_
  refine sh fol (kG [(6,.i 0)]) ?_
  refine Goes.block ?_
  obtain⟨t,g14,h⟩:=bnd h
  refine Goes.imp (Q:=fun x s'=>(x= .exit 2/\(.inl ())=t/\Sub s' (ofG 66 [],[]))\/(x= .ret/\ ∃u,(.inr u)=t/\jF ZT [.tmp 4] (.bool u) .ret s')) ?_ ?_
  ·refine Ud (fun M s=> ∃(k:Int),s=(ofG 66 (kG [(6,.i k)]),(kD a.Day a.Lots a.Holds (kD b.Day b.Lots b.Holds [])))/\qaP a b M k=some t) ?_ (m:=N) ⟨_,rfl,g14⟩
   rintro M s ⟨k,rfl,g14⟩
   cases M with
   |zero=>simp only[qaP]at g14;cases g14
   |succ M=>
    rw[qaP]at g14
    refine sq ?_
    refine sh fol (kG [(6,.i k),(52,.bool (decide (k<(a.Holds.length:Int))))]) ?_
    refine ihD g14 (fun A g14=>?_) (fun A g14=>?_)
    ·refine Goes.skip ?_
     refine sq (Goes.block ?_)
     obtain⟨f,p,g14⟩:=bnd g14
     obtain⟨g,q,g14⟩:=bnd g14
     refine sq (gr fol [3,4,8,9,10] (kG [(6,.i k),(65,.bool (!((f.Lot==g.Lot)&&((f.Order==g.Order)&&(decide (f.Reserved=g.Reserved)&&(decide (f.Taken=g.Taken)&&true))))))]) (ac (iv qjl qg p) (ac (la qoY qg p) (ac (iv qjl qg q) (ac (la qoY qg q) (ac (hs (.done (.opt (qgu ZT .neq 118 (.tmp 59) (.tmp 64) (.agg (kAy f.Lot f.Order f.Reserved f.Taken)) (.agg (kAy g.Lot g.Order g.Reserved g.Taken)))) (.bool (!((f.Lot==g.Lot)&&((f.Order==g.Order)&&(decide (f.Reserved=g.Reserved)&&(decide (f.Taken=g.Taken)&&true))))))) (qp9 qsT (e:=((f.Lot==g.Lot)&&((f.Order==g.Order)&&(decide (f.Reserved=g.Reserved)&&(decide (f.Taken=g.Taken)&&true))))) (.cons (a:= .str f.Lot) (b:= .str g.Lot) rfl (by kernel_rfl) (by kernel_rfl) (by kernel_rfl) (.cons (a:= .str f.Order) (b:= .str g.Order) rfl (by kernel_rfl) (by kernel_rfl) (by kernel_rfl) (.cons (a:= .i f.Reserved) (b:= .i g.Reserved) rfl (by kernel_rfl) (by kernel_rfl) (by kernel_rfl) (.cons (a:= .i f.Taken) (b:= .i g.Taken) rfl (by kernel_rfl) (by kernel_rfl) (by kernel_rfl) .nil)))))) az))))) ?_)
     refine ihB g14 (fun B g14=>?_) (fun B g14=>?_)
     ·refine sh fol kAt ?_
      refine Goes.ret ?_
      obtain rfl:=si g14
      exact Or.inr (⟨rfl,_,rfl,(gw2 [.bool false] (Ub tB))⟩)
     refine Goes.skip ?_
     refine gh fol (kG [(6,.i (w64 (k+1)))]) ?_
     exact⟨M,(ofG 66 (kG [(6,.i (w64 (k+1)))]),(kD a.Day a.Lots a.Holds (kD b.Day b.Lots b.Holds []))),Nat.lt_succ_self _,(Sub.refl _),_,rfl,g14⟩
    refine Goes.exit ?_
    obtain rfl:=si g14
    exact Or.inl (⟨rfl,rfl,(Sub.norm [] [] rfl rfl .nil .nil)⟩)
  rintro x s' (⟨rfl,rfl,hsub⟩|⟨rfl,H,rfl,hret⟩)
  ·try dsimp only at h
   refine Goes.sub hsub ?_
   refine sh fol kAv ?_
   refine Goes.ret ?_
   obtain rfl:=si h
   exact(gw2 [.bool true] (Ub tB))
  try dsimp only at h
  obtain rfl:=si h
  exact hret
 try dsimp only at h
 obtain rfl:=si h
 exact hret
def qau (a:StateT):Nat->(List qB)->Int->Option (List qB)
 |0,_,_=>none
 |K+1,c,b=>
  if b<(a.Lots.length:Int)then
  (idx a.Lots b).bind fun d=>
  (app 56 c [d]).bind fun e=>
  qau a K e (w64 (b+1))
  else
  some c
def qav (a:StateT):Nat->(List qf)->Int->Option (List qf)
 |0,_,_=>none
 |K+1,e,b=>
  if b<(a.Holds.length:Int)then
  (idx a.Holds b).bind fun c=>
  (app 48 e [c]).bind fun d=>
  qav a K d (w64 (b+1))
  else
  some e
def qbR (N:Nat) (a:StateT):Option qL:=
 (qau a N ([]:List qB) 0).bind fun c=>
 (qav a N ([]:List qf) 0).bind fun b=>
 some (⟨a.Day,c,b⟩:qL)
theorem qbM (N:Nat) (a:StateT) {res:qL} (h:qbR N a=some res):qp ZT (.fn 20) [.agg (kH a.Day a.Lots a.Holds)] [] (.agg (kH res.Day res.Lots res.Holds)) []:=by
 unfold qbR at h
 refine Uc Tryz.func20 rfl rfl (m:=40) rfl (rs:=[.cell 2 43]) rfl (l:=(kAD a.Day a.Lots a.Holds [])) rfl ?_
 refine sg fol (kAW [(2,.ptr 1 0)]) (kD a.Day a.Lots a.Holds (kF [])) ?_
 refine sg fol (kAW [(2,.ptr 1 0),(3,.ptr 2 0)]) (kD a.Day a.Lots a.Holds (kF [.cells [.i a.Day,.nilslice,.nilslice]])) ?_
 refine sq ?_
 refine sh fol (kAG a.Lots (a.Lots.length:Int) [(14,.i 0)]) ?_
 refine Goes.block ?_
 obtain⟨y,g4,h⟩:=bnd h
 refine Goes.imp (Q:=fun x s'=>(x= .exit 0/\ ∃e,e=y/\Sub s' (ofG 40 (kAW [(2,.ptr 1 0),(3,.ptr 2 0)]),(kD a.Day a.Lots a.Holds (kF (kAj a.Day e (kQ e []))))))) ?_ ?_
 ·refine Goes.sub (s':=(ofG 40 (kAG a.Lots (a.Lots.length:Int) [(14,.i 0)]),(kD a.Day a.Lots a.Holds (kF [.cells [.i a.Day,.gslice 3 ([]:List qB).length 4,.nilslice],.cells (([]:List qB).flatMap qo.c)])))) (Sub.norm [] [some 0,some 1,some 2,none] rfl rfl (.kp (.kp (.kp (.keep (.same (qN qo _)) (.keep (.same nI) (.keep (.same nI) .nil)))))) (.kb rfl (.same sn) (.kb rfl (.same sn) (.kb rfl (.cells (rc (.same nI) (rc (.nil) (rc (.same (ky.nilslice)) rn)))) (.fresh .nil))))) ?_
  refine Ud (fun M s=> ∃(j:List qB) (o:Int),s=(ofG 40 (kAG a.Lots (a.Lots.length:Int) [(14,.i o)]),(kD a.Day a.Lots a.Holds (kF (kAj a.Day j (kQ j [])))))/\qau a M j o=some y) ?_ (m:=N) ⟨_,_,rfl,g4⟩
  rintro M s ⟨j,o,rfl,g4⟩
  cases M with
  |zero=>simp only[qau]at g4;cases g4
  |succ M=>
   rw[qau]at g4
   refine sh fol (kAG a.Lots (a.Lots.length:Int) [(14,.i o),(15,.bool (decide (o<(a.Lots.length:Int))))]) ?_
   refine sq ?_
   refine ihD g4 (fun z g4=>?_) (fun z g4=>?_)
   ·refine Goes.skip ?_
    refine sq (Goes.block ?_)
    obtain⟨d,q,g4⟩:=bnd g4
    refine sq (gq fol [0,1] (kAW [(2,.ptr 1 0),(3,.ptr 2 0),(5,.ptr 4 0),(12,vl qo a.Lots),(13,.i (a.Lots.length:Int)),(14,.i o)]) (kD a.Day a.Lots a.Holds (kF (kAj a.Day j (kQ j (kU d.Name d.Yarn d.Dye d.Stock []))))) (ac (iv qqr qo q) (ac (la ag71 qo q) az)) ?_)
    obtain⟨t,u,g4⟩:=bnd g4
    refine gq fol [4] (kAG a.Lots (a.Lots.length:Int) [(14,.i o)]) (kD a.Day a.Lots a.Holds (kF (.cells [.i a.Day,.gslice 6 t.length 4,.nilslice]:: .dead::(kU d.Name d.Yarn d.Dye d.Stock (kU d.Name d.Yarn d.Dye d.Stock (kQ t [])))))) (ac (hs (.run [3,5] (xK ZT [40,40] (.gslice 3 j.length 4) (.slice 5 0 1 1 4)) (kD a.Day a.Lots a.Holds (kF (kAj a.Day j (kQ j (kU d.Name d.Yarn d.Dye d.Stock (kU d.Name d.Yarn d.Dye d.Stock [])))))) (.gslice 6 t.length 4) (kD a.Day a.Lots a.Holds (kF (kAj a.Day j (.dead::(kU d.Name d.Yarn d.Dye d.Stock (kU d.Name d.Yarn d.Dye d.Stock (kQ t []))))))) true) (qbI qh1 (E:=qo) rfl (qe2 (E:=qo) (ys:=[d]) rfl rfl rfl rfl) (qft (E:=qo) (l:=j) rfl rfl rfl u rfl))) az) ?_
    refine gh fol (kAG a.Lots (a.Lots.length:Int) [(14,.i (w64 (o+1)))]) ?_
    exact⟨M,(ofG 40 (kAG a.Lots (a.Lots.length:Int) [(14,.i (w64 (o+1)))]),(kD a.Day a.Lots a.Holds (kF (kAj a.Day t (kQ t []))))),Nat.lt_succ_self _,(Sub.norm [] [some 0,some 1,some 2,some 6] rfl rfl (.kp (.kp (.kp (.keep (.same (qN qo _)) (.keep (.same nI) (.keep (.same nI) .nil)))))) (.kb rfl (.same sn) (.kb rfl (.same sn) (.kb rfl (.cells (rc (.same nI) (rc (.gslice rfl) (rc (.same (ky.nilslice)) rn)))) (.ks .nil))))),_,_,rfl,g4⟩
   refine Goes.exit ?_
   obtain rfl:=si g4
   exact⟨rfl,_,rfl,(Sub.keep [1,2,3] rfl rfl)⟩
 rintro x s' ⟨rfl,e,rfl,hsub⟩
 refine Goes.sub hsub ?_
 refine sq ?_
 refine sh fol ((2,.ptr 1 0)::(3,.ptr 2 0)::(kAu a.Holds (a.Holds.length:Int) [(28,.i 0)])) ?_
 refine Goes.block ?_
 obtain⟨v,g11,h⟩:=bnd h
 refine Goes.imp (Q:=fun x s'=>(x= .exit 2/\ ∃f,f=v/\Sub s' (ofG 40 (kG []),(kF (kAO a.Day e f (kQ e (kI f []))))))) ?_ ?_
 ·refine Goes.sub (s':=(ofG 40 (kG (kAu a.Holds (a.Holds.length:Int) [(28,.i 0)])),(kF (.cells [.i a.Day,.gslice 2 e.length 4,.gslice 3 ([]:List qf).length 4]::(kQ e [.cells (([]:List qf).flatMap qg.c)]))))) (Sub.norm [] [some 1,some 2,some 3,none] rfl rfl (.kp (.kp (.keep (.same (qN qg _)) (.keep (.same nI) (.keep (.same nI) .nil))))) (.kb rfl (.same sn) (.kb rfl (.cells (rc (.same nI) (rc (.gslice rfl) (rc (.nil) rn)))) (.ks (.fresh .nil))))) ?_
  refine Ud (fun M s=> ∃(k:List qf) (p:Int),s=(ofG 40 (kG (kAu a.Holds (a.Holds.length:Int) [(28,.i p)])),(kF (kAO a.Day e k (kQ e (kI k [])))))/\qav a M k p=some v) ?_ (m:=N) ⟨_,_,rfl,g11⟩
  rintro M s ⟨k,p,rfl,g11⟩
  cases M with
  |zero=>simp only[qav]at g11;cases g11
  |succ M=>
   rw[qav]at g11
   refine sh fol (kG (kAu a.Holds (a.Holds.length:Int) [(28,.i p),(29,.bool (decide (p<(a.Holds.length:Int))))])) ?_
   refine sq ?_
   refine ihD g11 (fun w g11=>?_) (fun w g11=>?_)
   ·refine Goes.skip ?_
    refine sq (Goes.block ?_)
    obtain⟨b,n,g11⟩:=bnd g11
    refine sq (gq fol [0,1] (kG ((7,.ptr 4 0)::(kAu a.Holds (a.Holds.length:Int) [(28,.i p)]))) (kF (kAO a.Day e k (kQ e (kI k (kK b.Lot b.Order b.Reserved b.Taken []))))) (ac (iv qe6 qg n) (ac (la qnQ qg n) az)) ?_)
    obtain⟨g,r,g11⟩:=bnd g11
    refine gq fol [4] (kG (kAu a.Holds (a.Holds.length:Int) [(28,.i p)])) (kF (.cells [.i a.Day,.gslice 2 e.length 4,.gslice 6 g.length 4]::(kQ e (.dead::(kK b.Lot b.Order b.Reserved b.Taken (kK b.Lot b.Order b.Reserved b.Taken (kI g []))))))) (ac (hs (.run [3,5] (xK ZT [41,41] (.gslice 3 k.length 4) (.slice 5 0 1 1 4)) (kF (kAO a.Day e k (kQ e (kI k (kK b.Lot b.Order b.Reserved b.Taken (kK b.Lot b.Order b.Reserved b.Taken [])))))) (.gslice 6 g.length 4) (kF (kAO a.Day e k (kQ e (.dead::(kK b.Lot b.Order b.Reserved b.Taken (kK b.Lot b.Order b.Reserved b.Taken (kI g []))))))) true) (qbI qjl (E:=qg) rfl (qe2 (E:=qg) (ys:=[b]) rfl rfl rfl rfl) (qft (E:=qg) (l:=k) rfl rfl rfl r rfl))) az) ?_
    refine gh fol (kG (kAu a.Holds (a.Holds.length:Int) [(28,.i (w64 (p+1)))])) ?_
    exact⟨M,(ofG 40 (kG (kAu a.Holds (a.Holds.length:Int) [(28,.i (w64 (p+1)))])),(kF (kAO a.Day e g (kQ e (kI g []))))),Nat.lt_succ_self _,(Sub.norm [] [some 0,some 1,some 2,some 6] rfl rfl (.kp (.kp (.keep (.same (qN qg _)) (.keep (.same nI) (.keep (.same nI) .nil))))) (.kb rfl (.same sn) (.kb rfl (.cells (rc (.same nI) (rc (.gslice rfl) (rc (.gslice rfl) rn)))) (.ks (.ks .nil))))),_,_,rfl,g11⟩
   refine Goes.exit ?_
   obtain rfl:=si g11
   exact⟨rfl,_,rfl,(Sub.keep [2,3] rfl rfl)⟩
 rintro x s' ⟨rfl,f,rfl,hsub⟩
 refine Goes.sub hsub ?_
 refine sg fol (kAI []) (kAO a.Day e f (kAO a.Day e f (kQ e (kI f [])))) ?_
 refine Goes.ret ?_
 obtain rfl:=si h
 exact(gw2 [.agg [.i a.Day,.gslice 2 e.length 4,.gslice 3 f.length 4]] (FzW.agg (qJ.cons (Ub tI) (qJ.cons (FzW.fz (Um (E:=qo) rfl rfl (nl rfl))) (qJ.cons (FzW.fz (Um (E:=qg) rfl rfl (nl rfl))) qJ.nil)))))
end Go.Av
