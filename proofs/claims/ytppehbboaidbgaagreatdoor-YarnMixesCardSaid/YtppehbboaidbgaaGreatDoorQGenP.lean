/-
  The walk of the law.
-/
import Derived.Test.YtppehbboaidbgaaGreatDoorQGenP5
import Derived.Test.YtppehbboaidbgaaGreatDoorAvAwkP
noncomputable section
namespace Go.Av
open Go.Proofs Go.RowKit
set_option linter.unusedSectionVars false
set_option linter.unusedVariables false
set_option linter.unusedSimpArgs false
set_option maxRecDepth 100000
def awk:Option Bool:=some true
theorem qit {res:Bool} (h:awk=some res):qb ZT (.fn 8) [] [] (.bool res) []:=by
 obtain rfl:=si h;exact qr6
def zG (N:Nat) (a:qh):Nat->Int->Option (Unit⊕Bool)
 |0,_=>none
 |K+1,b=>
  if b<(a.Strength.length:Int)then
  (idx a.Strength b).bind fun c=>
  ((xy N c.X 9).bind fun d=>
  if(!d)=true then
  some true
  else
  (xy N c.Y 9).bind fun e=>
  some (!e):Option Bool).bind fun f=>
  if f=true then
  (awk).bind fun g=>
  some (.inr g)
  else
  zG N a K (w64 (b+1))
  else
  some (.inl ())
def zH (N:Nat) (c:List qh):Nat->Int->Option (Unit⊕Bool)
 |0,_=>none
 |K+1,a=>
  if a<(c.length:Int)then
  (idx c a).bind fun b=>
  ((xy N b.Density 9).bind fun d=>
  if(!d)=true then
  some true
  else
  (xy N b.Twist 9).bind fun e=>
  some (!e):Option Bool).bind fun f=>
  if f=true then
  (awk).bind fun g=>
  some (.inr g)
  else
  (zG N b N 0).bind (fun
  |(.inl ())=>
  zH N c K (w64 (a+1))
  |(.inr h)=>
  some (.inr h))
  else
  some (.inl ())
def jo (l:List qh):Nat->(List qh)->Int->Option (List qh)
 |0,_,_=>none
 |K+1,b,a=>
  if a<(l.length:Int)then
  (idx l (w64 ((w64 ((l.length:Int)-1))-a))).bind fun c=>
  (app 88 b [c]).bind fun d=>
  jo l K d (w64 (a+1))
  else
  some b
def jw (N:Nat) (l:List qh) (twist:Str) (c:qh×Int):Nat->Int->Str->Str->Option ((Str×Str)⊕Bool)
 |0,_,_,_=>none
 |K+1,b,d,e=>
  if b<(l.length:Int)then
  (idx l b).bind fun f=>
  (qbu N f twist).bind fun g=>
  (qaY N g.1).bind fun a=>
  if(!decide (g.2=0))=true then
  some (.inr false)
  else
  if(!decide (a.2=0))=true then
  (if a.2=7 then
  if c.2=7 then
  (awk).bind fun h=>
  some h
  else
  some false
  else
  some false:Option Bool).bind fun i=>
  some (.inr i)
  else
  (jd N a.1).bind fun j=>
  if(!decide (j=0))=true then
  some (.inr false)
  else
  (qbR N d f.Density).bind fun k=>
  (qbR N e a.1).bind fun m=>
  jw N l twist c K (w64 (b+1)) k m
  else
  some (.inl (d,e))
def qa3 (N:Nat) (l:List qh) (twist:Str) (factor:Str):Option Bool:=
 (qcc N l).bind fun e=>
 (if(l.length:Int)>6 then
 some true
 else
 (qb6 N e).bind fun v=>
 if(!v)=true then
 some true
 else
 (xy N twist 9).bind fun w=>
 if(!w)=true then
 some true
 else
 (xy N factor 9).bind fun x=>
 if(!x)=true then
 some true
 else
 (qav N [112] e twist factor).bind fun y=>
 some (!decide (y=0)):Option Bool).bind fun f=>
 if f=true then
 (awk).bind fun g=>
 some g
 else
 (zH N e N 0).bind (fun
 |(.inl ())=>
 (mkr 88 (l.length:Int)).bind fun z=>
 (jo l N ([]:List qh) 0).bind fun h=>
 (qat N [112] l twist factor).bind fun a=>
 (qat N [112] h twist factor).bind fun c=>
 (qat N [112] l twist [49]).bind fun b=>
 (if(!((decide (a.2=0))==(decide (c.2=0))))=true then
 some true
 else
 some (!((decide (a.2=0))==(decide (b.2=0)))):Option Bool).bind fun i=>
 if i=true then
 some false
 else
 (jw N l twist a N 0 [48] [48]).bind (fun
 |(.inl (j,k))=>
 (if(!decide (a.2=0))=true then
 some true
 else
 (qar N a.1 c.1).bind fun m=>
 if(!m)=true then
 some true
 else
 if(!(b.1.Density==j))=true then
 some true
 else
 (jJ N a.1.Density).bind fun n=>
 if(!decide (n=0))=true then
 some true
 else
 if(!decide ((a.1.Strength.length:Int)=1))=true then
 some true
 else
 (idx a.1.Strength 0).bind fun d=>
 some (!((d.X==[48])&&((d.Y==k)&&true))):Option Bool).bind fun o=>
 if o=true then
 some false
 else
 ((qad N a.1.Density b.1.Density).bind fun p=>
 if p>=0 then
 (qad N a.1.Density b.1.Density).bind fun q=>
 if((decide (q=0))==(factor==[49]))=true then
 (awk).bind fun r=>
 some r
 else
 some false
 else
 some false:Option Bool).bind fun s=>
 some s
 |(.inr t)=>
 some t)
 |(.inr u)=>
 some u)
theorem qfQ (N:Nat) (l:List qh) (twist:Str) (factor:Str) {res:Bool} (h:qa3 N l twist factor=some res):qb ZT (.fn 4) (vl qc l::(kBB twist factor)) [] (.bool res) []:=by
 unfold qa3 at h;refine Ub Tryz.func4 rfl rfl (m:=241) rfl (rs:=[.tmp 6]) rfl (l:=(kJ l twist factor [])) rfl ?_;refine sh fol (kJ l twist factor []) ?_;obtain⟨p,e_r1,h⟩:=bnd h;refine sq (gr fol [1] (kJ l twist factor [(7,vl qc p)]) (ac (cv (qhZ N l e_r1)) az) ?_);refine sq ?_;refine sq ?_;obtain⟨b10,k,h⟩:=bnd h;refine Ue (s':=(ofG 241 (kJ l twist factor [(7,vl qc p),(54,.bool b10)]),[])) ?_ ?_
 ·rcases wyD k with⟨c2,k⟩|⟨c2,k⟩
  ·obtain rfl:=si k;exact tr fol [3] (kJ l twist factor (kBd p)) (ac (gw c2) az)
  obtain⟨r3,a1,k⟩:=bnd k;rcases wyB k with⟨c4,k⟩|⟨c4,k⟩
  ·obtain rfl:=si k;exact tr fol [3,5,8] (kJ l twist factor (kBd p)) (ac (gw c2) (ac (cv (qbn N p a1)) (ac (gw c4) az)))
  obtain⟨r5,a4,k⟩:=bnd k;rcases wyB k with⟨c6,k⟩|⟨c6,k⟩
  ·obtain rfl:=si k;exact tr fol [3,5,8,10,13] (kJ l twist factor (kBd p)) (ac (gw c2) (ac (cv (qbn N p a1)) (ac (gw c4) (ac (cv (jH N twist 9 a4)) (ac (gw c6) az)))))
  obtain⟨r7,b8,k⟩:=bnd k;rcases wyB k with⟨c8,k⟩|⟨c8,k⟩
  ·obtain rfl:=si k;exact tr fol [3,5,8,10,13,15,18] (kJ l twist factor (kBd p)) (ac (gw c2) (ac (cv (qbn N p a1)) (ac (gw c4) (ac (cv (jH N twist 9 a4)) (ac (gw c6) (ac (cv (jH N factor 9 b8)) (ac (gw c8) az)))))))
  obtain⟨r9,e_r9,k⟩:=bnd k;obtain rfl:=si k;exact tr fol [3,5,8,10,13,15,18,22] (kJ l twist factor [(7,vl qc p),(54,.bool (!decide (r9=0)))]) (ac (gw c2) (ac (cv (qbn N p a1)) (ac (gw c4) (ac (cv (jH N twist 9 a4)) (ac (gw c6) (ac (cv (jH N factor 9 b8)) (ac (gw c8) (ac (cv (qgx N [112] p twist factor e_r9)) az))))))))
 refine ihB h (fun c12 h=>?_) (fun c12 h=>?_)
 ·obtain⟨r13,b9,h⟩:=bnd h;refine sq (gr fol [0] [(6,.bool r13)] (ac (cv (qit b9)) az) ?_);refine Goes.ret ?_;obtain rfl:=si h;exact(gw2 [.bool r13] (Ua tB))
 refine Goes.skip ?_;refine sq ?_;refine sh fol (kJ l twist factor [(56,vl qc p),(57,.i (p.length:Int)),(58,.i 0)]) ?_;refine Goes.block ?_;obtain⟨c0,g15,h⟩:=bnd h;refine Goes.imp (Q:=fun x s'=>(x= .exit 0/\(.inl ())=c0/\Sub s' (ofG 241 (kJ l twist factor []),[]))\/(x= .ret/\ ∃q16,(.inr q16)=c0/\zh ZT [.tmp 6] (.bool q16) .ret s')) ?_ ?_
 ·refine Ud (fun M s=> ∃(r:Int),s=(ofG 241 (kJ l twist factor (kY p (p.length:Int) r [])),[])/\zH N p M r=some c0) ?_ (m:=N) ⟨_,rfl,g15⟩;rintro M s ⟨r,rfl,g15⟩
  cases M with
  |zero=>simp only[zH]at g15;cases g15
  |succ M=>
   rw[zH]at g15;refine sh fol (kJ l twist factor (kY p (p.length:Int) r [(59,.bool (decide (r<(p.length:Int))))])) ?_;refine sq ?_;refine ihD g15 (fun c17 g15=>?_) (fun c17 g15=>?_)
   ·refine Goes.skip ?_;refine sq (Goes.block ?_);obtain⟨n,a5,g15⟩:=bnd g15;refine sq (gq fol [0,1] (kJ l twist factor ((9,.ptr 0 0)::(kY p (p.length:Int) r []))) (kA n.Name n.Density n.Twist n.Strength n.Dye []) (ac (iv sl26 qc a5) (ac (la ag37 qc a5) az)) ?_);refine sq ?_;refine sq ?_;obtain⟨b22,t,g15⟩:=bnd g15;refine Ue (s':=(ofG 241 (kJ l twist factor ((9,.ptr 0 0)::(kY p (p.length:Int) r [(71,.bool b22)]))),(kA n.Name n.Density n.Twist n.Strength n.Dye []))) ?_ ?_
    ·obtain⟨r19,a6,t⟩:=bnd t;rcases wyB t with⟨c1,t⟩|⟨c1,t⟩
     ·obtain rfl:=si t;exact tr fol [2,4] (kJ l twist factor ((9,.ptr 0 0)::(kY p (p.length:Int) r [(71,.bool true)]))) (ac (cv (jH N n.Density 9 a6)) (ac (gw c1) az))
     obtain⟨r21,c3,t⟩:=bnd t;obtain rfl:=si t;exact tr fol [2,4,7] (kJ l twist factor ((9,.ptr 0 0)::(kY p (p.length:Int) r [(71,.bool (!r21))]))) (ac (cv (jH N n.Density 9 a6)) (ac (gw c1) (ac (cv (jH N n.Twist 9 c3)) az)))
    refine ihB g15 (fun c24 g15=>?_) (fun c24 g15=>?_)
    ·obtain⟨r25,c5,g15⟩:=bnd g15;refine sq (gr fol [0] [(6,.bool r25)] (ac (cv (qit c5)) az) ?_);refine Goes.ret ?_;obtain rfl:=si g15;exact Or.inr (⟨rfl,_,rfl,(gw2 [.bool r25] (Ua tB))⟩)
    refine Goes.skip ?_;refine sh fol (kJ l twist factor (kY p (p.length:Int) r [(74,vl qg n.Strength),(75,.i (n.Strength.length:Int)),(76,.i 0)])) ?_;refine Goes.block ?_;obtain⟨c7,g27,g15⟩:=bnd g15;refine Goes.imp (Q:=fun x s'=>(x= .exit 2/\(.inl ())=c7/\Sub s' (ofG 241 (kJ l twist factor (kY p (p.length:Int) r [])),[]))\/(x= .ret/\ ∃q28,(.inr q28)=c7/\zh ZT [.tmp 6] (.bool q28) .ret s')) ?_ ?_
    ·refine Goes.sub (s':=(ofG 241 (kJ l twist factor (kY p (p.length:Int) r [(74,vl qg n.Strength),(75,.i (n.Strength.length:Int)),(76,.i 0)])),[])) (Uc [] [] rfl rfl (.keep (.same (qf qc _)) (.keep (.same nS) (.keep (.same nS) (.keep (.same (qf qc _)) (.keep (.same nI) (.keep (.same nI) (.keep (.same (qf qg _)) (.keep (.same nI) (.keep (.same nI) .nil))))))))) .nil) ?_;refine Ud (fun M s=> ∃(C:Int),s=(ofG 241 (kJ l twist factor (kY p (p.length:Int) r (kAr n.Strength (n.Strength.length:Int) C []))),[])/\zG N n M C=some c7) ?_ (m:=N) ⟨_,rfl,g27⟩;rintro M s ⟨C,rfl,g27⟩
     cases M with
     |zero=>simp only[zG]at g27;cases g27
     |succ M=>
      rw[zG]at g27;refine sh fol (kJ l twist factor (kY p (p.length:Int) r (kAr n.Strength (n.Strength.length:Int) C [(77,.bool (decide (C<(n.Strength.length:Int))))]))) ?_;refine sq ?_;refine ihD g27 (fun c29 g27=>?_) (fun c29 g27=>?_)
      ·refine Goes.skip ?_;refine sq (Goes.block ?_);obtain⟨P,a7,g27⟩:=bnd g27;refine sq (gq fol [0,1] (kJ l twist factor ((11,.ptr 0 0)::(kY p (p.length:Int) r (kAr n.Strength (n.Strength.length:Int) C [])))) (kA9 P.X P.Y []) (ac (iv qeR qg a7) (ac (la qnS qg a7) az)) ?_);refine sq ?_;obtain⟨b34,u,g27⟩:=bnd g27;refine Ue (s':=(ofG 241 (kJ l twist factor (kY p (p.length:Int) r (kAr n.Strength (n.Strength.length:Int) C [(89,.bool b34)]))),(kA9 P.X P.Y []))) ?_ ?_
       ·obtain⟨r31,a8,u⟩:=bnd u;rcases wyB u with⟨c9,u⟩|⟨c9,u⟩
        ·obtain rfl:=si u;exact tr fol [2,4] (kJ l twist factor (kY p (p.length:Int) r (kAr n.Strength (n.Strength.length:Int) C [(89,.bool true)]))) (ac (cv (jH N P.X 9 a8)) (ac (gw c9) az))
        obtain⟨r33,d0,u⟩:=bnd u;obtain rfl:=si u;exact tr fol [2,4,7] (kJ l twist factor (kY p (p.length:Int) r (kAr n.Strength (n.Strength.length:Int) C [(89,.bool (!r33))]))) (ac (cv (jH N P.X 9 a8)) (ac (gw c9) (ac (cv (jH N P.Y 9 d0)) az)))
       refine ihB g27 (fun c36 g27=>?_) (fun c36 g27=>?_)
       ·obtain⟨r37,d1,g27⟩:=bnd g27;refine sq (gr fol [0] [(6,.bool r37)] (ac (cv (qit d1)) az) ?_);refine Goes.ret ?_;obtain rfl:=si g27;exact Or.inr (⟨rfl,_,rfl,(gw2 [.bool r37] (Ua tB))⟩)
       refine Goes.skip ?_;refine gh fol (kJ l twist factor (kY p (p.length:Int) r (kAr n.Strength (n.Strength.length:Int) (w64 (C+1)) []))) ?_;exact⟨M,(ofG 241 (kJ l twist factor (kY p (p.length:Int) r (kAr n.Strength (n.Strength.length:Int) (w64 (C+1)) []))),[]),Nat.lt_succ_self _,(Uc [] [] rfl rfl (.keep (.same (qf qc _)) (.keep (.same nS) (.keep (.same nS) (.keep (.same (qf qc _)) (.keep (.same nI) (.keep (.same nI) (.keep (.same (qf qg _)) (.keep (.same nI) (.keep (.same nI) .nil))))))))) .nil),_,rfl,g27⟩
      refine Goes.exit ?_;obtain rfl:=si g27;exact Or.inl (⟨rfl,rfl,(Sub.keep [0,1,2,56,57,58] rfl rfl)⟩)
    rintro x s' (⟨rfl,rfl,hsub⟩|⟨rfl,q38,rfl,hret⟩)
    ·try dsimp only at g15
     refine Goes.sub hsub ?_;refine gh fol (kJ l twist factor (kY p (p.length:Int) (w64 (r+1)) [])) ?_;exact⟨M,(ofG 241 (kJ l twist factor (kY p (p.length:Int) (w64 (r+1)) [])),[]),Nat.lt_succ_self _,(Sub.refl _),_,rfl,g15⟩
    try dsimp only at g15
    obtain rfl:=si g15;exact Or.inr (⟨rfl,_,rfl,hret⟩)
   refine Goes.exit ?_;obtain rfl:=si g15;exact Or.inl (⟨rfl,rfl,(Sub.keep [0,1,2] rfl rfl)⟩)
 rintro x s' (⟨rfl,rfl,hsub⟩|⟨rfl,q95,rfl,hret⟩)
 ·try dsimp only at h
  refine Goes.sub hsub ?_;obtain⟨a2,a9,h⟩:=bnd h;refine sq (gq fol [2] (kJ l twist factor [(12,.slice 0 0 0 a2 5)]) [.cells (zeros kBF (a2*5))] (ac (hs (.run [] (zF ZT 22 (.i 0) (.i (l.length:Int))) [] (.slice 0 0 0 a2 5) [.cells (zeros kBF (a2*5))] false) (qoA qho (z:=kBF) rfl (by kernel_rfl) a9 rfl)) az) ?_);refine Goes.sub (show Sub (ofG 241 (kJ l twist factor [(12,.slice 0 0 0 a2 5)]),[.cells (zeros kBF (a2*5))]) (ofG 241 (kJ l twist factor [(12,.oslice 0 ([]:List qh).length 5)]),[.cells (([]:List qh).flatMap qc.c)])from(Uc [9999] [some 0] rfl rfl (.keep (.same (qf qc _)) (.keep (.same nS) (.keep (.same nS) (.keep (jk.ownL rfl rfl (qpy _ _) (qrX a9) rfl rfl) .nil)))) (.kb rfl (qcv.pre (fun c h=>absurd h List.not_mem_nil) (Nat.zero_le _) rfl) .nil))) ?_;refine sq ?_;refine sh fol (kJ l twist factor [(12,.oslice 0 ([]:List qh).length 5),(97,.i (l.length:Int)),(98,.i 0)]) ?_;refine Goes.block ?_;obtain⟨r43,g43,h⟩:=bnd h;refine Goes.imp (Q:=fun x s'=>(x= .exit 4/\ ∃B,B=r43/\Sub s' (ofG 241 (kJ l twist factor [(12,.oslice 0 B.length 5)]),(kAU B [])))) ?_ ?_
  ·refine Ud (fun M s=> ∃(L:List qh) (I:Int),s=(ofG 241 (kJ l twist factor [(12,.oslice 0 L.length 5),(97,.i (l.length:Int)),(98,.i I)]),(kAU L []))/\jo l M L I=some r43) ?_ (m:=N) ⟨_,_,rfl,g43⟩;rintro M s ⟨L,I,rfl,g43⟩
   cases M with
   |zero=>simp only[jo]at g43;cases g43
   |succ M=>
    rw[jo]at g43;refine sh fol (kJ l twist factor [(12,.oslice 0 L.length 5),(97,.i (l.length:Int)),(98,.i I),(99,.bool (decide (I<(l.length:Int))))]) ?_;refine sq ?_;refine ihD g43 (fun c44 g43=>?_) (fun c44 g43=>?_)
    ·refine Goes.skip ?_;refine sq (Goes.block ?_);refine sh fol (kJ l twist factor [(12,.oslice 0 L.length 5),(13,.i I),(97,.i (l.length:Int)),(98,.i I)]) ?_;obtain⟨w,b0,g43⟩:=bnd g43;obtain⟨U,d2,g43⟩:=bnd g43;refine gq fol [7,8,10] (kJ l twist factor [(12,.oslice 2 U.length 5),(97,.i (l.length:Int)),(98,.i I)]) (.dead::(kA w.Name w.Density w.Twist w.Strength w.Dye (kAU U []))) (ac (iv qho qc b0) (ac (la qme qc b0) (ac (hs (.run [0,1] (yF ZT [22,22] (.oslice 0 L.length 5) (.slice 1 0 1 1 5)) (kAU L (kA w.Name w.Density w.Twist w.Strength w.Dye [])) (.oslice 2 U.length 5) (.dead::(kA w.Name w.Density w.Twist w.Strength w.Dye (kAU U []))) true) (qa4 qho (E:=qc) rfl (qgj (E:=qc) (ys:=[w]) rfl rfl rfl rfl) (qrp (E:=qc) (l:=L) rfl rfl rfl d2 rfl))) az))) ?_;refine gh fol (kJ l twist factor [(12,.oslice 2 U.length 5),(97,.i (l.length:Int)),(98,.i (w64 (I+1)))]) ?_;exact⟨M,(ofG 241 (kJ l twist factor [(12,.oslice 0 U.length 5),(97,.i (l.length:Int)),(98,.i (w64 (I+1)))]),(kAU U [])),Nat.lt_succ_self _,(Uc [] [some 2] rfl rfl (.keep (.same (qf qc _)) (.keep (.same nS) (.keep (.same nS) (.keep (.oslice rfl) (.keep (.same nI) (.keep (.same nI) .nil)))))) (.ks .nil)),_,_,rfl,g43⟩
    refine Goes.exit ?_;obtain rfl:=si g43;exact⟨rfl,_,rfl,(Sub.keep [0,1,2,12] rfl rfl)⟩
  rintro x s' ⟨rfl,B,rfl,hsub⟩;refine Goes.sub hsub ?_;obtain⟨d,d3,h⟩:=bnd h;refine sq (gq fol [3] (kJ l twist factor [(12,.oslice 0 B.length 5),(14,.ptr 1 0),(15,.i d.2)]) (kAU B (kA d.1.Name d.1.Density d.1.Twist d.1.Strength d.1.Dye [])) (ac (cv (qeG N [112] l twist factor d3)) az) ?_);obtain⟨f,d4,h⟩:=bnd h;refine sq (gq fol [3] (kJ l twist factor [(14,.ptr 1 0),(15,.i d.2),(16,.ptr 2 0),(17,.i f.2)]) (.frozen (B.flatMap qc.c)::(kA d.1.Name d.1.Density d.1.Twist d.1.Strength d.1.Dye (kA f.1.Name f.1.Density f.1.Twist f.1.Strength f.1.Dye []))) (ac (hs (.callF 9 (.str [112]:: .oslice 0 B.length 5::(kBB twist factor)) (kAU B (kA d.1.Name d.1.Density d.1.Twist d.1.Strength d.1.Dye [])) [0] (.str [112]::vl qc B::(kBB twist factor)) (.tuple (kAD f.1.Name f.1.Density f.1.Twist f.1.Strength f.1.Dye [.i f.2]))) (qaV (FzL.cons (Uk tS) (FzL.cons (Fz.os (E:=qc) rfl rfl (nl rfl)) (FzL.cons (Uk tS) (FzL.cons (Uk tS) FzL.nil)))) (qeG N [112] B twist factor d4) (Still.tuple (AllST.cons (Still.agg (AllST.cons tS (AllST.cons tS (AllST.cons tS (AllST.cons (qB qg _ (nl rfl)) (AllST.cons tS AllST.nil)))))) (AllST.cons tI AllST.nil))))) az) ?_);refine Goes.sub (show Sub (ofG 241 (kJ l twist factor [(14,.ptr 1 0),(15,.i d.2),(16,.ptr 2 0),(17,.i f.2)]),(.frozen (B.flatMap qc.c)::(kA d.1.Name d.1.Density d.1.Twist d.1.Strength d.1.Dye (kA f.1.Name f.1.Density f.1.Twist f.1.Strength f.1.Dye [])))) (ofG 241 (kJ l twist factor [(14,.ptr 0 0),(15,.i d.2),(16,.ptr 1 0),(17,.i f.2)]),(kA d.1.Name d.1.Density d.1.Twist d.1.Strength d.1.Dye (kA f.1.Name f.1.Density f.1.Twist f.1.Strength f.1.Dye [])))from(Uc [] [some 1,some 2] rfl rfl (.keep (.same (qf qc _)) (.keep (.same nS) (.keep (.same nS) (.kp (.keep (.same nI) (.kp (.keep (.same nI) .nil))))))) (.kb rfl (.same sn) (.kb rfl (.same sn) .nil)))) ?_;obtain⟨g,d5,h⟩:=bnd h;refine sq (gq fol [2] (kJ l twist factor [(14,.ptr 0 0),(15,.i d.2),(16,.ptr 1 0),(17,.i f.2),(18,.ptr 2 0),(19,.i g.2)]) (kA d.1.Name d.1.Density d.1.Twist d.1.Strength d.1.Dye (kA f.1.Name f.1.Density f.1.Twist f.1.Strength f.1.Dye (kA g.1.Name g.1.Density g.1.Twist g.1.Strength g.1.Dye []))) (ac (cv (qeG N [112] l twist [49] d5)) az) ?_);refine sq ?_;refine sq ?_;obtain⟨b51,D,h⟩:=bnd h;refine Ue (s':=(ofG 241 (kJ l twist factor (kAb d.2 [(144,.bool b51)])),(kA d.1.Name d.1.Density d.1.Twist d.1.Strength d.1.Dye (kA f.1.Name f.1.Density f.1.Twist f.1.Strength f.1.Dye (kA g.1.Name g.1.Density g.1.Twist g.1.Strength g.1.Dye []))))) ?_ ?_
  ·rcases wyB D with⟨d6,D⟩|⟨d6,D⟩
   ·obtain rfl:=si D;exact tr fol [5] (kJ l twist factor (kAb d.2 [(144,.bool true)])) (ac (gw d6) az)
   obtain rfl:=si D;exact tr fol [5] (kJ l twist factor (kAb d.2 [(144,.bool (!((decide (d.2=0))==(decide (g.2=0)))))])) (ac (gw d6) az)
  refine ihB h (fun c53 h=>?_) (fun c53 h=>?_)
  ·refine sh fol kBJ ?_;refine Goes.ret ?_;obtain rfl:=si h;exact(gw2 [.bool false] (Ua tB))
  refine Goes.skip ?_;refine sh fol (kJ l twist factor (kAb d.2 [(20,.str [48]),(21,.str [48])])) ?_;refine sq ?_;refine sh fol ((1,.str twist)::(2,.str factor)::(kAb d.2 [(20,.str [48]),(21,.str [48]),(145,vl qc l),(146,.i (l.length:Int)),(147,.i 0)])) ?_;refine Goes.block ?_;obtain⟨d7,g59,h⟩:=bnd h;refine Goes.imp (Q:=fun x s'=>(x= .exit 6/\ ∃d8 O,(.inl (d8,O))=d7/\Sub s' (ofG 241 ((2,.str factor)::(kAb d.2 [(20,.str d8),(21,.str O)])),(kA d.1.Name d.1.Density d.1.Twist d.1.Strength d.1.Dye (kA f.1.Name f.1.Density f.1.Twist f.1.Strength f.1.Dye (kA g.1.Name g.1.Density g.1.Twist g.1.Strength g.1.Dye [])))))\/(x= .ret/\ ∃q60,(.inr q60)=d7/\zh ZT [.tmp 6] (.bool q60) .ret s')) ?_ ?_
  ·refine Ud (fun M s=> ∃(y:Int) (F:Str) (G:Str),s=(ofG 241 (kP twist factor d.2 F G (kAO l (l.length:Int) y [])),(kA d.1.Name d.1.Density d.1.Twist d.1.Strength d.1.Dye (kA f.1.Name f.1.Density f.1.Twist f.1.Strength f.1.Dye (kA g.1.Name g.1.Density g.1.Twist g.1.Strength g.1.Dye []))))/\jw N l twist d M y F G=some d7) ?_ (m:=N) ⟨_,_,_,rfl,g59⟩;rintro M s ⟨y,F,G,rfl,g59⟩
   cases M with
   |zero=>simp only[jw]at g59;cases g59
   |succ M=>
    rw[jw]at g59;refine sh fol (kP twist factor d.2 F G (kAO l (l.length:Int) y [(148,.bool (decide (y<(l.length:Int))))])) ?_;refine sq ?_;refine ihD g59 (fun c61 g59=>?_) (fun c61 g59=>?_)
    ·refine Goes.skip ?_;refine sq (Goes.block ?_);obtain⟨v,b1,g59⟩:=bnd g59;refine sq (gq fol [0,1] (kP twist factor d.2 F G ((23,.ptr 3 0)::(kAO l (l.length:Int) y []))) (kA d.1.Name d.1.Density d.1.Twist d.1.Strength d.1.Dye (kA f.1.Name f.1.Density f.1.Twist f.1.Strength f.1.Dye (kA g.1.Name g.1.Density g.1.Twist g.1.Strength g.1.Dye (kA v.Name v.Density v.Twist v.Strength v.Dye [])))) (ac (iv qho qc b1) (ac (la qme qc b1) az)) ?_);obtain⟨A,d9,g59⟩:=bnd g59;refine sq (gq fol [2] (kP twist factor d.2 F G ((23,.ptr 3 0)::(24,.ptr 4 0)::(25,.i A.2)::(kAO l (l.length:Int) y []))) (kA d.1.Name d.1.Density d.1.Twist d.1.Strength d.1.Dye (kA f.1.Name f.1.Density f.1.Twist f.1.Strength f.1.Dye (kA g.1.Name g.1.Density g.1.Twist g.1.Strength g.1.Dye (kA v.Name v.Density v.Twist v.Strength v.Dye (kA A.1.Name A.1.Density A.1.Twist A.1.Strength A.1.Dye []))))) (ac (cv (qhj N v twist d9)) az) ?_);obtain⟨J,e0,g59⟩:=bnd g59;refine sq (gr fol [1] (kP twist factor d.2 F G ((23,.ptr 3 0)::(25,.i A.2)::(26,.str J.1)::(27,.i J.2)::(kAO l (l.length:Int) y []))) (ac (cv (qgM N A.1 e0)) az) ?_);refine sq ?_;refine sh fol (kP twist factor d.2 F G ((23,.ptr 3 0)::(26,.str J.1)::(27,.i J.2)::(kAO l (l.length:Int) y [(163,.bool (!decide (A.2=0)))]))) ?_;refine ihB g59 (fun c65 g59=>?_) (fun c65 g59=>?_)
     ·refine sh fol kBJ ?_;refine Goes.ret ?_;obtain rfl:=si g59;exact Or.inr (⟨rfl,_,rfl,(gw2 [.bool false] (Ua tB))⟩)
     refine Goes.skip ?_;refine sq ?_;refine sh fol (kP twist factor d.2 F G ((23,.ptr 3 0)::(26,.str J.1)::(27,.i J.2)::(kAO l (l.length:Int) y [(165,.bool (!decide (J.2=0)))]))) ?_;refine ihB g59 (fun c66 g59=>?_) (fun c66 g59=>?_)
     ·refine sq ?_;obtain⟨b70,q,g59⟩:=bnd g59;refine Ue (s':=(ofG 241 [(6,.bool b70)],(kA d.1.Name d.1.Density d.1.Twist d.1.Strength d.1.Dye (kA f.1.Name f.1.Density f.1.Twist f.1.Strength f.1.Dye (kA g.1.Name g.1.Density g.1.Twist g.1.Strength g.1.Dye (kA v.Name v.Density v.Twist v.Strength v.Dye (kA A.1.Name A.1.Density A.1.Twist A.1.Strength A.1.Dye []))))))) ?_ ?_
      ·rcases wyD q with⟨b5,q⟩|⟨b5,q⟩
       ·rcases wyD q with⟨e1,q⟩|⟨e1,q⟩
        ·obtain⟨r69,e2,q⟩:=bnd q;obtain rfl:=si q;exact tr fol [2,6,7] [(6,.bool r69)] (ac (gw b5) (ac (gw e1) (ac (cv (qit e2)) az)))
        obtain rfl:=si q;exact tr fol [2,6] kBJ (ac (gw b5) (ac (gw e1) az))
       obtain rfl:=si q;exact tr fol [2] kBJ (ac (gw b5) az)
      refine Goes.ret ?_;obtain rfl:=si g59;exact Or.inr (⟨rfl,_,rfl,(gw2 [.bool b70] (Ua tB))⟩)
     refine Goes.skip ?_;refine sq ?_;obtain⟨r72,e3,g59⟩:=bnd g59;refine sq (gr fol [1] (kP twist factor d.2 F G ((23,.ptr 3 0)::(26,.str J.1)::(kAO l (l.length:Int) y [(177,.bool (!decide (r72=0)))]))) (ac (cv (qby N J.1 e3)) az) ?_);refine ihB g59 (fun c73 g59=>?_) (fun c73 g59=>?_)
     ·refine sh fol kBJ ?_;refine Goes.ret ?_;obtain rfl:=si g59;exact Or.inr (⟨rfl,_,rfl,(gw2 [.bool false] (Ua tB))⟩)
     refine Goes.skip ?_;obtain⟨e4,e5,g59⟩:=bnd g59;obtain⟨e6,e7,g59⟩:=bnd g59;refine gr fol [3,6] (kP twist factor d.2 e4 e6 (kAO l (l.length:Int) y [])) (ac (cv (qdJ N F v.Density e5)) (ac (cv (qdJ N G J.1 e7)) az)) ?_;refine gh fol (kP twist factor d.2 e4 e6 (kAO l (l.length:Int) (w64 (y+1)) [])) ?_;exact⟨M,(ofG 241 (kP twist factor d.2 e4 e6 (kAO l (l.length:Int) (w64 (y+1)) [])),(kA d.1.Name d.1.Density d.1.Twist d.1.Strength d.1.Dye (kA f.1.Name f.1.Density f.1.Twist f.1.Strength f.1.Dye (kA g.1.Name g.1.Density g.1.Twist g.1.Strength g.1.Dye [])))),Nat.lt_succ_self _,(Uc [] [some 0,some 1,some 2] rfl rfl (.keep (.same nS) (.keep (.same nS) (.kp (.keep (.same nI) (.kp (.kp (.keep (.same nS) (.keep (.same nS) (.keep (.same (qf qc _)) (.keep (.same nI) (.keep (.same nI) .nil))))))))))) (.kb rfl (.same sn) (.kb rfl (.same sn) (.kb rfl (.same sn) .nil)))),_,_,_,rfl,g59⟩
    refine Goes.exit ?_;obtain rfl:=si g59;exact Or.inl (⟨rfl,_,_,rfl,(Sub.keep [2,14,15,16,18,20,21] rfl rfl)⟩)
  rintro x s' (⟨rfl,d8,O,rfl,hsub⟩|⟨rfl,q94,rfl,hret⟩)
  ·try dsimp only at h
   refine Goes.sub hsub ?_;refine sq ?_;refine sq ?_;obtain⟨b84,j,h⟩:=bnd h;refine Ue (s':=(ofG 241 [(2,.str factor),(14,.ptr 0 0),(18,.ptr 2 0),(220,.bool b84)],(kA d.1.Name d.1.Density d.1.Twist d.1.Strength d.1.Dye (kA f.1.Name f.1.Density f.1.Twist f.1.Strength f.1.Dye (kA g.1.Name g.1.Density g.1.Twist g.1.Strength g.1.Dye []))))) ?_ ?_
   ·rcases wyB j with⟨V,j⟩|⟨V,j⟩
    ·obtain rfl:=si j;exact tr fol [2] (kAh factor) (ac (gw V) az)
    obtain⟨r77,H,j⟩:=bnd j;rcases wyB j with⟨a3,j⟩|⟨a3,j⟩
    ·obtain rfl:=si j;exact tr fol [2,5,8] (kAh factor) (ac (gw V) (ac (cv (yL N d.1 f.1 H)) (ac (gw a3) az)))
    rcases wyB j with⟨b2,j⟩|⟨b2,j⟩
    ·obtain rfl:=si j;exact tr fol [2,5,8,14] (kAh factor) (ac (gw V) (ac (cv (yL N d.1 f.1 H)) (ac (gw a3) (ac (gw b2) az))))
    obtain⟨r80,Z,j⟩:=bnd j;rcases wyB j with⟨b6,j⟩|⟨b6,j⟩
    ·obtain rfl:=si j;exact tr fol [2,5,8,14,17,20] (kAh factor) (ac (gw V) (ac (cv (yL N d.1 f.1 H)) (ac (gw a3) (ac (gw b2) (ac (cv (yU N d.1.Density Z)) (ac (gw b6) az))))))
    rcases wyB j with⟨e8,j⟩|⟨e8,j⟩
    ·obtain rfl:=si j;exact tr fol [2,5,8,14,17,20,26] (kAh factor) (ac (gw V) (ac (cv (yL N d.1 f.1 H)) (ac (gw a3) (ac (gw b2) (ac (cv (yU N d.1.Density Z)) (ac (gw b6) (ac (gw e8) az)))))))
    obtain⟨K,b3,j⟩:=bnd j;obtain rfl:=si j;exact tr fol [2,5,8,14,17,20,26,29,30,33] [(2,.str factor),(14,.ptr 0 0),(18,.ptr 2 0),(220,.bool (!((K.X==[48])&&((K.Y==O)&&true))))] (ac (gw V) (ac (cv (yL N d.1 f.1 H)) (ac (gw a3) (ac (gw b2) (ac (cv (yU N d.1.Density Z)) (ac (gw b6) (ac (gw e8) (ac (iv qeR qg b3) (ac (la qnS qg b3) (ac (hs (.done (.opt (ku ZT .neq 45 (.tmp 216) (.tmp 218) (.agg (kBB K.X K.Y)) (.agg [.str [48],.str O]))) (.bool (!((K.X==[48])&&((K.Y==O)&&true))))) (qri qrv (e:=((K.X==[48])&&((K.Y==O)&&true))) (.cons (a:= .str K.X) (b:= .str [48]) rfl (by kernel_rfl) (by kernel_rfl) (by kernel_rfl) (.cons (a:= .str K.Y) (b:= .str O) rfl (by kernel_rfl) (by kernel_rfl) (by kernel_rfl) .nil)))) az))))))))))
   refine ihB h (fun c86 h=>?_) (fun c86 h=>?_)
   ·refine sh fol kBJ ?_;refine Goes.ret ?_;obtain rfl:=si h;exact(gw2 [.bool false] (Ua tB))
   refine Goes.skip ?_;refine sq ?_;obtain⟨b92,o,h⟩:=bnd h;refine Ue (s':=(ofG 241 [(6,.bool b92)],(kA d.1.Name d.1.Density d.1.Twist d.1.Strength d.1.Dye (kA f.1.Name f.1.Density f.1.Twist f.1.Strength f.1.Dye (kA g.1.Name g.1.Density g.1.Twist g.1.Strength g.1.Dye []))))) ?_ ?_
   ·obtain⟨r87,a0,o⟩:=bnd o;rcases wyD o with⟨b7,o⟩|⟨b7,o⟩
    ·obtain⟨r89,b4,o⟩:=bnd o;rcases wyB o with⟨e9,o⟩|⟨e9,o⟩
     ·obtain⟨r91,f0,o⟩:=bnd o;obtain rfl:=si o;exact tr fol [4,6,11,17,18] [(6,.bool r91)] (ac (cv (xK N d.1.Density g.1.Density a0)) (ac (gw b7) (ac (cv (xK N d.1.Density g.1.Density b4)) (ac (gw e9) (ac (cv (qit f0)) az)))))
     obtain rfl:=si o;exact tr fol [4,6,11,17] kBJ (ac (cv (xK N d.1.Density g.1.Density a0)) (ac (gw b7) (ac (cv (xK N d.1.Density g.1.Density b4)) (ac (gw e9) az))))
    obtain rfl:=si o;exact tr fol [4,6] kBJ (ac (cv (xK N d.1.Density g.1.Density a0)) (ac (gw b7) az))
   refine Goes.ret ?_;obtain rfl:=si h;exact(gw2 [.bool b92] (Ua tB))
  try dsimp only at h
  obtain rfl:=si h;exact hret
 try dsimp only at h
 obtain rfl:=si h;exact hret
end Go.Av
