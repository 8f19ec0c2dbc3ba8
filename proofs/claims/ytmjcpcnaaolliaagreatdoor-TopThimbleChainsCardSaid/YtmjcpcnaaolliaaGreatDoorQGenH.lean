/-
  The walk of the law.
-/
import Derived.Test.YtmjcpcnaaolliaaGreatDoorQGenH3
import Derived.Test.YtmjcpcnaaolliaaGreatDoorAvAwkH
noncomputable section
namespace Go.Av
open Go.Proofs Go.RowKit
set_option linter.unusedSectionVars false
set_option linter.unusedVariables false
set_option linter.unusedSimpArgs false
set_option maxRecDepth 100000
def awk:Option Bool:=some true
theorem qkf {res:Bool} (h:awk=some res):qb ZT (.fn 33) [] [] (.bool res) []:=by
 obtain rfl:=si h
 exact qpf
def qf (l:(qz×qz×qz)):Nat->Int->Option (Unit⊕Bool)
 |0,_=>none
 |K+1,a=>
  if a<3 then
  (if a=0 then
  some (l.1.Length,l.1.Mass,l.1.Direct)
  else
  if a=1 then
  some (l.2.1.Length,l.2.1.Mass,l.2.1.Direct)
  else
  if a=2 then
  some (l.2.2.Length,l.2.2.Mass,l.2.2.Direct)
  else
  none:Option (Int×Int×Bool)).bind fun(e,f,b)=>
  (vV (⟨e,f,b⟩:qz)).bind fun c=>
  if(!decide (c=0))=true then
  (awk).bind fun d=>
  some (.inr d)
  else
  qf l K (w64 (a+1))
  else
  some (.inl ())
def qo (N:Nat) (l:(qz×qz×qz)) (n:(Str×Str)) (length:Str) (h:Str×Int) (i:Str×Int):Nat->Str->Str->Str->Int->Option ((Str×Str×Str)⊕Bool)
 |0,_,_,_,_=>none
 |K+1,d,e,f,a=>
  if a<3 then
  (idx ([n.1,h.1,i.1]:List Str) a).bind fun g=>
  (if a=0 then
  (yY N l.1 g).bind fun j=>
  some (j.1,j.2)
  else
  if a=1 then
  (yY N l.2.1 g).bind fun k=>
  some (k.1,k.2)
  else
  if a=2 then
  (yY N l.2.2 g).bind fun m=>
  some (m.1,m.2)
  else
  none:Option (Str×Int)).bind fun(o,p)=>
  (jP [121]).bind fun b=>
  (qck N (⟨b.Name,o,b.Twist,b.Strength,b.Dye⟩:qcd) length).bind fun c=>
  (if(!decide (p=0))=true then
  some true
  else
  some (!decide (c.2=0)):Option Bool).bind fun q=>
  if q=true then
  some (.inr false)
  else
  (if a=0 then
  some (c.1,e,f)
  else
  if a=1 then
  some (d,c.1,f)
  else
  if a=2 then
  some (d,e,c.1)
  else
  none:Option (Str×Str×Str)).bind fun(r,s,t)=>
  qo N l n length h i K r s t (w64 (a+1))
  else
  some (.inl (d,e,f))
def zY (N:Nat) (l:(qz×qz×qz)) (n:(Str×Str)) (length:Str):Option Bool:=
 (qf l N 0).bind (fun
 |(.inl ())=>
 ((qaX N n.1 9).bind fun i=>
 if(!i)=true then
 some true
 else
 (qaX N n.2 9).bind fun j=>
 if(!j)=true then
 some true
 else
 (qaX N length 9).bind fun k=>
 if(!k)=true then
 some true
 else
 (zo N n.1).bind fun m=>
 (zo N n.2).bind fun o=>
 if(!decide ((w64 (m+o))=0))=true then
 some true
 else
 (xC N length).bind fun p=>
 some (!decide (p=0)):Option Bool).bind fun q=>
 if q=true then
 (awk).bind fun r=>
 some r
 else
 (vT N l.1 l.2.1 n.1).bind fun b=>
 (vT N l.2.1 l.2.2 b.1).bind fun d=>
 (vT N l.1 l.2.2 n.1).bind fun a=>
 (vT N l.1 l.2.2 n.2).bind fun c=>
 (if(!decide (b.2=0))=true then
 some true
 else
 if(!decide (d.2=0))=true then
 some true
 else
 if(!decide (a.2=0))=true then
 some true
 else
 if(!decide (c.2=0))=true then
 some true
 else
 if(!(d.1==a.1))=true then
 some true
 else
 (zo N a.1).bind fun s=>
 (zo N c.1).bind fun t=>
 (zo N b.1).bind fun u=>
 some (!decide ((w64 ((w64 (s+t))+u))=0)):Option Bool).bind fun v=>
 if v=true then
 some false
 else
 (qal N n.1 n.2).bind fun e=>
 (qal N a.1 c.1).bind fun f=>
 ((if(!(l.1.Direct==l.2.2.Direct))=true then
 (qal N c.1 a.1).bind fun g=>
 some (g.1,g.2)
 else
 some (f.1,f.2):Option (Str×Int))).bind fun(w,x)=>
 (if(!decide (e.2=0))=true then
 some true
 else
 if(!decide (x=0))=true then
 some true
 else
 some (!(e.1==w)):Option Bool).bind fun y=>
 if y=true then
 some false
 else
 (qo N l n length b a N [] [] [] 0).bind (fun
 |(.inl (z,h,A))=>
 (if(z==h)=true then
 if(h==A)=true then
 (awk).bind fun B=>
 some B
 else
 some false
 else
 some false:Option Bool).bind fun C=>
 some C
 |(.inr D)=>
 some D)
 |(.inr E)=>
 some E)
theorem qba (N:Nat) (l:(qz×qz×qz)) (n:(Str×Str)) (length:Str) {res:Bool} (h:zY N l n length=some res):qb ZT (.fn 5) [.agg [.i l.1.Length,.i l.1.Mass,.bool l.1.Direct,.i l.2.1.Length,.i l.2.1.Mass,.bool l.2.1.Direct,.i l.2.2.Length,.i l.2.2.Mass,.bool l.2.2.Direct],.agg [.str n.1,.str n.2],.str length] [] (.bool res) []:=by
 unfold zY at h
 refine Ub Tryz.func5 rfl rfl (m:=229) rfl (rs:=[.tmp 6]) rfl (l:=[(0,.agg [.i l.1.Length,.i l.1.Mass,.bool l.1.Direct,.i l.2.1.Length,.i l.2.1.Mass,.bool l.2.1.Direct,.i l.2.2.Length,.i l.2.2.Mass,.bool l.2.2.Direct]),(1,.agg [.str n.1,.str n.2]),(2,.str length)]) rfl ?_
 refine sg fol (kG length []) (kK l.1.Length l.1.Mass l.1.Direct l.2.1.Length l.2.1.Mass l.2.1.Direct l.2.2.Length l.2.2.Mass l.2.2.Direct (kAJ n.1 n.2 [])) ?_
 refine sq ?_
 refine sh fol (kG length [(29,.agg [.i l.1.Length,.i l.1.Mass,.bool l.1.Direct,.i l.2.1.Length,.i l.2.1.Mass,.bool l.2.1.Direct,.i l.2.2.Length,.i l.2.2.Mass,.bool l.2.2.Direct]),(30,.i 0)]) ?_
 refine Goes.block ?_
 obtain⟨r2,g2,h⟩:=bnd h
 refine Goes.imp (Q:=fun x s'=>(x= .exit 0/\(.inl ())=r2/\Sub s' (ofG 229 (kG length []),(kK l.1.Length l.1.Mass l.1.Direct l.2.1.Length l.2.1.Mass l.2.1.Direct l.2.2.Length l.2.2.Mass l.2.2.Direct (kAJ n.1 n.2 []))))\/(x= .ret/\ ∃q3,(.inr q3)=r2/\jh ZT [.tmp 6] (.bool q3) .ret s')) ?_ ?_
 ·refine Uc (fun M s=> ∃(D:Int),s=(ofG 229 (kG length (kAE l.1.Length l.1.Mass l.1.Direct l.2.1.Length l.2.1.Mass l.2.1.Direct l.2.2.Length l.2.2.Mass l.2.2.Direct D [])),(kK l.1.Length l.1.Mass l.1.Direct l.2.1.Length l.2.1.Mass l.2.1.Direct l.2.2.Length l.2.2.Mass l.2.2.Direct (kAJ n.1 n.2 [])))/\qf l M D=some r2) ?_ (m:=N) ⟨_,rfl,g2⟩
  rintro M s ⟨D,rfl,g2⟩
  cases M with
  |zero=>simp only[qf]at g2;cases g2
  |succ M=>
   rw[qf]at g2
   refine sh fol (kG length (kAE l.1.Length l.1.Mass l.1.Direct l.2.1.Length l.2.1.Mass l.2.1.Direct l.2.2.Length l.2.2.Mass l.2.2.Direct D [(31,.bool (decide (D<3)))])) ?_
   refine sq ?_
   refine ihD g2 (fun c4 g2=>?_) (fun c4 g2=>?_)
   ·refine Goes.skip ?_
    refine sq (Goes.block ?_)
    refine sq ?_
    obtain⟨⟨n8,n9,d9⟩,g,g2⟩:=bnd g2
    refine Goes.cut (s':=(ofG 229 (kG length ((8,.ptr 2 0)::(kAE l.1.Length l.1.Mass l.1.Direct l.2.1.Length l.2.1.Mass l.2.1.Direct l.2.2.Length l.2.2.Mass l.2.2.Direct D []))),(kK l.1.Length l.1.Mass l.1.Direct l.2.1.Length l.2.1.Mass l.2.1.Direct l.2.2.Length l.2.2.Mass l.2.2.Direct (kAJ n.1 n.2 (kT n8 n9 d9 []))))) ?_ ?_
    ·rcases wyD g with⟨c5,g⟩|⟨c5,g⟩
     ·simp only[ZI,ZP]at g
      obtain⟨rfl,rfl,rfl⟩:=g
      exact vL.rq fol [0] (kG length ((8,.ptr 2 0)::(kAE l.1.Length l.1.Mass l.1.Direct l.2.1.Length l.2.1.Mass l.2.1.Direct l.2.2.Length l.2.2.Mass l.2.2.Direct D []))) (kK l.1.Length l.1.Mass l.1.Direct l.2.1.Length l.2.1.Mass l.2.1.Direct l.2.2.Length l.2.2.Mass l.2.2.Direct (kAJ n.1 n.2 (kT l.1.Length l.1.Mass l.1.Direct []))) (ac (hs (.done (.opt (jH ZT 51 (.agg [.i l.1.Length,.i l.1.Mass,.bool l.1.Direct,.i l.2.1.Length,.i l.2.1.Mass,.bool l.2.1.Direct,.i l.2.2.Length,.i l.2.2.Mass,.bool l.2.2.Direct]) (.i D))) (.agg [.i l.1.Length,.i l.1.Mass,.bool l.1.Direct])) (ixG (ot c5) (by kernel_rfl))) az)
     rcases wyD g with⟨c6,g⟩|⟨c6,g⟩
     ·simp only[ZI,ZP]at g
      obtain⟨rfl,rfl,rfl⟩:=g
      exact vL.rq fol [0] (kG length ((8,.ptr 2 0)::(kAE l.1.Length l.1.Mass l.1.Direct l.2.1.Length l.2.1.Mass l.2.1.Direct l.2.2.Length l.2.2.Mass l.2.2.Direct D []))) (kK l.1.Length l.1.Mass l.1.Direct l.2.1.Length l.2.1.Mass l.2.1.Direct l.2.2.Length l.2.2.Mass l.2.2.Direct (kAJ n.1 n.2 (kT l.2.1.Length l.2.1.Mass l.2.1.Direct []))) (ac (hs (.done (.opt (jH ZT 51 (.agg [.i l.1.Length,.i l.1.Mass,.bool l.1.Direct,.i l.2.1.Length,.i l.2.1.Mass,.bool l.2.1.Direct,.i l.2.2.Length,.i l.2.2.Mass,.bool l.2.2.Direct]) (.i D))) (.agg [.i l.2.1.Length,.i l.2.1.Mass,.bool l.2.1.Direct])) (ixG (ot c6) (by kernel_rfl))) az)
     rcases wyD g with⟨c7,g⟩|⟨c7,g⟩
     ·simp only[ZI,ZP]at g
      obtain⟨rfl,rfl,rfl⟩:=g
      exact vL.rq fol [0] (kG length ((8,.ptr 2 0)::(kAE l.1.Length l.1.Mass l.1.Direct l.2.1.Length l.2.1.Mass l.2.1.Direct l.2.2.Length l.2.2.Mass l.2.2.Direct D []))) (kK l.1.Length l.1.Mass l.1.Direct l.2.1.Length l.2.1.Mass l.2.1.Direct l.2.2.Length l.2.2.Mass l.2.2.Direct (kAJ n.1 n.2 (kT l.2.2.Length l.2.2.Mass l.2.2.Direct []))) (ac (hs (.done (.opt (jH ZT 51 (.agg [.i l.1.Length,.i l.1.Mass,.bool l.1.Direct,.i l.2.1.Length,.i l.2.1.Mass,.bool l.2.1.Direct,.i l.2.2.Length,.i l.2.2.Mass,.bool l.2.2.Direct]) (.i D))) (.agg [.i l.2.2.Length,.i l.2.2.Mass,.bool l.2.2.Direct])) (ixG (ot c7) (by kernel_rfl))) az)
     cases g
    try dsimp only at g2
    obtain⟨r12,a8,g2⟩:=bnd g2
    refine sq (gr fol [1] (kG length (kAE l.1.Length l.1.Mass l.1.Direct l.2.1.Length l.2.1.Mass l.2.1.Direct l.2.2.Length l.2.2.Mass l.2.2.Direct D [(35,.bool (!decide (r12=0)))])) (ac (cv (qdH (⟨n8,n9,d9⟩:qz) a8)) az) ?_)
    refine ihB g2 (fun c13 g2=>?_) (fun c13 g2=>?_)
    ·obtain⟨e0,a9,g2⟩:=bnd g2
     refine sq (gr fol [0] [(6,.bool e0)] (ac (cv (qkf a9)) az) ?_)
     refine Goes.ret ?_
     obtain rfl:=si g2
     exact Or.inr (⟨rfl,_,rfl,(gw2 [.bool e0] (Ua tB))⟩)
    refine Goes.skip ?_
    refine gh fol (kG length (kAE l.1.Length l.1.Mass l.1.Direct l.2.1.Length l.2.1.Mass l.2.1.Direct l.2.2.Length l.2.2.Mass l.2.2.Direct (w64 (D+1)) [])) ?_
    exact⟨M,(ofG 229 (kG length (kAE l.1.Length l.1.Mass l.1.Direct l.2.1.Length l.2.1.Mass l.2.1.Direct l.2.2.Length l.2.2.Mass l.2.2.Direct (w64 (D+1)) [])),(kK l.1.Length l.1.Mass l.1.Direct l.2.1.Length l.2.1.Mass l.2.1.Direct l.2.2.Length l.2.2.Mass l.2.2.Direct (kAJ n.1 n.2 []))),Nat.lt_succ_self _,(Sub.norm [] [some 0,some 1] rfl rfl (.keep (.same nS) (.kp (.kp (.keep (.same (qC.agg sn)) (.keep (.same nI) .nil))))) (.kb rfl (.same sn) (.kb rfl (.same sn) .nil))),_,rfl,g2⟩
   refine Goes.exit ?_
   obtain rfl:=si g2
   exact Or.inl (⟨rfl,rfl,(Sub.keep [2,3,4] rfl rfl)⟩)
 rintro x s' (⟨rfl,rfl,hsub⟩|⟨rfl,q95,rfl,hret⟩)
 ·try dsimp only at h
  refine Goes.sub hsub ?_
  refine sq ?_
  refine sq ?_
  obtain⟨b25,a,h⟩:=bnd h
  refine Goes.cut (s':=(ofG 229 (kG length [(67,.bool b25)]),(kK l.1.Length l.1.Mass l.1.Direct l.2.1.Length l.2.1.Mass l.2.1.Direct l.2.2.Length l.2.2.Mass l.2.2.Direct (kAJ n.1 n.2 [])))) ?_ ?_
  ·obtain⟨r15,t,a⟩:=bnd a
   rcases wyB a with⟨I,a⟩|⟨I,a⟩
   ·obtain rfl:=si a
    exact tr fol [2,4] (kG length [(67,.bool true)]) (ac (cv (zN N n.1 9 t)) (ac (gw I) az))
   obtain⟨r17,A,a⟩:=bnd a
   rcases wyB a with⟨L,a⟩|⟨L,a⟩
   ·obtain rfl:=si a
    exact tr fol [2,4,7,10] (kG length [(67,.bool true)]) (ac (cv (zN N n.1 9 t)) (ac (gw I) (ac (cv (zN N n.2 9 A)) (ac (gw L) az))))
   obtain⟨r19,F,a⟩:=bnd a
   rcases wyB a with⟨Y,a⟩|⟨Y,a⟩
   ·obtain rfl:=si a
    exact tr fol [2,4,7,10,12,15] (kG length [(67,.bool true)]) (ac (cv (zN N n.1 9 t)) (ac (gw I) (ac (cv (zN N n.2 9 A)) (ac (gw L) (ac (cv (zN N length 9 F)) (ac (gw Y) az))))))
   obtain⟨r21,O,a⟩:=bnd a
   obtain⟨r22,P,a⟩:=bnd a
   rcases wyB a with⟨b0,a⟩|⟨b0,a⟩
   ·obtain rfl:=si a
    exact tr fol [2,4,7,10,12,15,18,21,25] (kG length [(67,.bool true)]) (ac (cv (zN N n.1 9 t)) (ac (gw I) (ac (cv (zN N n.2 9 A)) (ac (gw L) (ac (cv (zN N length 9 F)) (ac (gw Y) (ac (cv (z8 N n.1 O)) (ac (cv (z8 N n.2 P)) (ac (gw b0) az)))))))))
   obtain⟨r24,b1,a⟩:=bnd a
   obtain rfl:=si a
   exact tr fol [2,4,7,10,12,15,18,21,25,27] (kG length [(67,.bool (!decide (r24=0)))]) (ac (cv (zN N n.1 9 t)) (ac (gw I) (ac (cv (zN N n.2 9 A)) (ac (gw L) (ac (cv (zN N length 9 F)) (ac (gw Y) (ac (cv (z8 N n.1 O)) (ac (cv (z8 N n.2 P)) (ac (gw b0) (ac (cv (qey N length b1)) az))))))))))
  refine ihB h (fun c27 h=>?_) (fun c27 h=>?_)
  ·obtain⟨e1,b2,h⟩:=bnd h
   refine sq (gr fol [0] [(6,.bool e1)] (ac (cv (qkf b2)) az) ?_)
   refine Goes.ret ?_
   obtain rfl:=si h
   exact(gw2 [.bool e1] (Ua tB))
  refine Goes.skip ?_
  obtain⟨c,b3,h⟩:=bnd h
  refine sq (gr fol [6] (kG length [(9,.str c.1),(10,.i c.2)]) (ac (cv (qag N l.1 l.2.1 n.1 b3)) az) ?_)
  obtain⟨J,b4,h⟩:=bnd h
  refine sq (gr fol [5] (kG length [(9,.str c.1),(10,.i c.2),(11,.str J.1),(12,.i J.2)]) (ac (cv (qag N l.2.1 l.2.2 c.1 b4)) az) ?_)
  obtain⟨e,b5,h⟩:=bnd h
  refine sq (gr fol [6] (kG length [(9,.str c.1),(10,.i c.2),(11,.str J.1),(12,.i J.2),(13,.str e.1),(14,.i e.2)]) (ac (cv (qag N l.1 l.2.2 n.1 b5)) az) ?_)
  obtain⟨r,b6,h⟩:=bnd h
  refine sq (gr fol [6] (kG length [(9,.str c.1),(10,.i c.2),(11,.str J.1),(12,.i J.2),(13,.str e.1),(14,.i e.2),(15,.str r.1),(16,.i r.2)]) (ac (cv (qag N l.1 l.2.2 n.2 b6)) az) ?_)
  refine sq ?_
  refine sq ?_
  obtain⟨b41,b,h⟩:=bnd h
  refine Goes.cut (s':=(ofG 229 (kG length (kAT c.1 e.1 [(15,.str r.1),(137,.bool b41)])),(kK l.1.Length l.1.Mass l.1.Direct l.2.1.Length l.2.1.Mass l.2.1.Direct l.2.2.Length l.2.2.Mass l.2.2.Direct (kAJ n.1 n.2 [])))) ?_ ?_
  ·rcases wyB b with⟨G,b⟩|⟨G,b⟩
   ·obtain rfl:=si b
    exact tr fol [2] (kG length (kAT c.1 e.1 (kAs r.1))) (ac (gw G) az)
   rcases wyB b with⟨K,b⟩|⟨K,b⟩
   ·obtain rfl:=si b
    exact tr fol [2,6] (kG length (kAT c.1 e.1 (kAs r.1))) (ac (gw G) (ac (gw K) az))
   rcases wyB b with⟨U,b⟩|⟨U,b⟩
   ·obtain rfl:=si b
    exact tr fol [2,6,10] (kG length (kAT c.1 e.1 (kAs r.1))) (ac (gw G) (ac (gw K) (ac (gw U) az)))
   rcases wyB b with⟨Z,b⟩|⟨Z,b⟩
   ·obtain rfl:=si b
    exact tr fol [2,6,10,14] (kG length (kAT c.1 e.1 (kAs r.1))) (ac (gw G) (ac (gw K) (ac (gw U) (ac (gw Z) az))))
   rcases wyB b with⟨b7,b⟩|⟨b7,b⟩
   ·obtain rfl:=si b
    exact tr fol [2,6,10,14,19] (kG length (kAT c.1 e.1 (kAs r.1))) (ac (gw G) (ac (gw K) (ac (gw U) (ac (gw Z) (ac (gw b7) az)))))
   obtain⟨r38,b8,b⟩:=bnd b
   obtain⟨r39,b9,b⟩:=bnd b
   obtain⟨r40,c0,b⟩:=bnd b
   obtain rfl:=si b
   exact tr fol [2,6,10,14,19,21,23,26] (kG length (kAT c.1 e.1 [(15,.str r.1),(137,.bool (!decide ((w64 ((w64 (r38+r39))+r40))=0)))])) (ac (gw G) (ac (gw K) (ac (gw U) (ac (gw Z) (ac (gw b7) (ac (cv (z8 N e.1 b8)) (ac (cv (z8 N r.1 b9)) (ac (cv (z8 N c.1 c0)) az))))))))
  refine ihB h (fun c43 h=>?_) (fun c43 h=>?_)
  ·refine sh fol [(6,.bool false)] ?_
   refine Goes.ret ?_
   obtain rfl:=si h
   exact(gw2 [.bool false] (Ua tB))
  refine Goes.skip ?_
  obtain⟨u,c1,h⟩:=bnd h
  refine sq (gr fol [4] (kG length (kAT c.1 e.1 [(15,.str r.1),(17,.str u.1),(18,.i u.2)])) (ac (cv (qb9 N n.1 n.2 c1)) az) ?_)
  obtain⟨a0,c2,h⟩:=bnd h
  refine sq (gr fol [2] (kG length (kAT c.1 e.1 [(15,.str r.1),(17,.str u.1),(18,.i u.2),(19,.str a0.1),(20,.i a0.2)])) (ac (cv (qb9 N e.1 r.1 c2)) az) ?_)
  refine sq ?_
  refine sh fol (kG length (kAT c.1 e.1 [(15,.str r.1),(17,.str u.1),(18,.i u.2),(19,.str a0.1),(20,.i a0.2),(158,.bool (!(l.1.Direct==l.2.2.Direct)))])) ?_
  obtain⟨r48,H,h⟩:=bnd h
  refine Goes.imp (Q:=fun x s'=>(x= .normal/\ ∃a1 c3,(a1,c3)=r48/\Sub s' (ofG 229 (kG length (kAT c.1 e.1 [(17,.str u.1),(18,.i u.2),(19,.str a1),(20,.i c3)])),(kK l.1.Length l.1.Mass l.1.Direct l.2.1.Length l.2.1.Mass l.2.1.Direct l.2.2.Length l.2.2.Mass l.2.2.Direct (kAJ n.1 n.2 []))))) ?_ ?_
  ·refine ihB H (fun c49 H=>?_) (fun c49 H=>?_)
   ·obtain⟨e2,c8,H⟩:=bnd H
    refine gr fol [2] (kG length (kAT c.1 e.1 [(17,.str u.1),(18,.i u.2),(19,.str e2.1),(20,.i e2.2)])) (ac (cv (qb9 N r.1 e.1 c8)) az) ?_
    obtain rfl:=si H
    exact⟨rfl,_,_,rfl,(Sub.refl _)⟩
   refine Goes.skip ?_
   obtain rfl:=si H
   exact⟨rfl,_,_,rfl,(Sub.keep [2,3,4,9,13,17,18,19,20] rfl rfl)⟩
  rintro x s' ⟨rfl,a1,c3,rfl,hsub⟩
  try dsimp only at h
  refine Goes.sub hsub ?_
  refine sq ?_
  refine sq ?_
  obtain⟨b53,q,h⟩:=bnd h
  refine Goes.cut (s':=(ofG 229 (kG length (kAT c.1 e.1 [(175,.bool b53)])),(kK l.1.Length l.1.Mass l.1.Direct l.2.1.Length l.2.1.Mass l.2.1.Direct l.2.2.Length l.2.2.Mass l.2.2.Direct (kAJ n.1 n.2 [])))) ?_ ?_
  ·rcases wyB q with⟨a2,q⟩|⟨a2,q⟩
   ·obtain rfl:=si q
    exact tr fol [2] (kG length (kAT c.1 e.1 [(175,.bool true)])) (ac (gw a2) az)
   rcases wyB q with⟨c9,q⟩|⟨c9,q⟩
   ·obtain rfl:=si q
    exact tr fol [2,6] (kG length (kAT c.1 e.1 [(175,.bool true)])) (ac (gw a2) (ac (gw c9) az))
   obtain rfl:=si q
   exact tr fol [2,6] (kG length (kAT c.1 e.1 [(175,.bool (!(u.1==a1)))])) (ac (gw a2) (ac (gw c9) az))
  refine ihB h (fun c55 h=>?_) (fun c55 h=>?_)
  ·refine sh fol [(6,.bool false)] ?_
   refine Goes.ret ?_
   obtain rfl:=si h
   exact(gw2 [.bool false] (Ua tB))
  refine Goes.skip ?_
  refine sg fol (kG length (kAT c.1 e.1 [(21,.ptr 2 0)])) (kK l.1.Length l.1.Mass l.1.Direct l.2.1.Length l.2.1.Mass l.2.1.Direct l.2.2.Length l.2.2.Mass l.2.2.Direct (kAJ n.1 n.2 [.cells [.str [],.str [],.str []]])) ?_
  refine sq ?_
  refine sg fol [(2,.str length),(3,.ptr 0 0),(21,.ptr 2 0),(180,.slice 3 0 3 3 1),(181,.i 3),(182,.i 0)] (kK l.1.Length l.1.Mass l.1.Direct l.2.1.Length l.2.1.Mass l.2.1.Direct l.2.2.Length l.2.2.Mass l.2.2.Direct (kAJ n.1 n.2 (.cells [.str [],.str [],.str []]::(kX n.1 c.1 e.1 [])))) ?_
  refine Goes.block ?_
  obtain⟨d0,o,h⟩:=bnd h
  refine Goes.imp (Q:=fun x s'=>(x= .exit 2/\ ∃a3 a4 a5,(.inl (a3,a4,a5))=d0/\Sub s' (ofG 229 [(21,.ptr 0 0)],(kX a3 a4 a5 [])))\/(x= .ret/\ ∃e3,(.inr e3)=d0/\jh ZT [.tmp 6] (.bool e3) .ret s')) ?_ ?_
  ·refine Goes.sub (s':=(ofG 229 (kP length [(180,.slice 2 0 3 3 1),(181,.i 3),(182,.i 0)]),(kK l.1.Length l.1.Mass l.1.Direct l.2.1.Length l.2.1.Mass l.2.1.Direct l.2.2.Length l.2.2.Mass l.2.2.Direct (.cells [.str [],.str [],.str []]::(kX n.1 c.1 e.1 []))))) (Sub.norm [] [some 0,some 2,some 3] rfl rfl (.keep (.same nS) (.kp (.kp (.keep (.slice rfl) (.keep (.same nI) (.keep (.same nI) .nil)))))) (.kb rfl (.same sn) (.kb rfl (.same sn) (.kb rfl (.same sn) .nil)))) ?_
   refine Uc (fun M s=> ∃(v:Str) (w:Str) (y:Str) (f:Int),s=(ofG 229 (kP length (kM f [])),(kK l.1.Length l.1.Mass l.1.Direct l.2.1.Length l.2.1.Mass l.2.1.Direct l.2.2.Length l.2.2.Mass l.2.2.Direct (kX v w y (kX n.1 c.1 e.1 []))))/\qo N l n length c e M v w y f=some d0) ?_ (m:=N) ⟨_,_,_,_,rfl,o⟩
   rintro M s ⟨v,w,y,f,rfl,o⟩
   cases M with
   |zero=>simp only[qo]at o;cases o
   |succ M=>
    rw[qo]at o
    refine sh fol (kP length (kM f [(183,.bool (decide (f<3)))])) ?_
    refine sq ?_
    refine ihD o (fun c65 o=>?_) (fun c65 o=>?_)
    ·refine Goes.skip ?_
     refine sq (Goes.block ?_)
     obtain⟨V,X,o⟩:=bnd o
     refine sq (gr fol [1,2] (kP length ((22,.i f)::(23,.str V)::(kM f []))) (ac (hs (.done (.opt (qd ZT 58 (.slice 2 0 ([n.1,c.1,e.1]:List Str).length ([n.1,c.1,e.1]:List Str).length 1) (.i f))) (.ptr 2 ((f:Int).toNat*1+0))) (xS sl58 X)) (ac (hs (.run [2] (zR ZT 22 (.ptr 2 ((f:Int).toNat*1+0))) (kK l.1.Length l.1.Mass l.1.Direct l.2.1.Length l.2.1.Mass l.2.1.Direct l.2.2.Length l.2.2.Mass l.2.2.Direct (kX v w y (kX n.1 c.1 e.1 []))) (.str V) (kK l.1.Length l.1.Mass l.1.Direct l.2.1.Length l.2.1.Mass l.2.1.Direct l.2.2.Length l.2.2.Mass l.2.2.Direct (kX v w y (kX n.1 c.1 e.1 []))) false) (qbR ce22 (E:=encS) (l:=([n.1,c.1,e.1]:List Str)) rfl rfl X (nl rfl) rfl)) az)) ?_)
     refine sq ?_
     obtain⟨⟨B,a6⟩,d,o⟩:=bnd o
     refine Goes.cut (s':=(ofG 229 (kP length ((22,.i f)::(24,.str B)::(25,.i a6)::(kM f []))),(kK l.1.Length l.1.Mass l.1.Direct l.2.1.Length l.2.1.Mass l.2.1.Direct l.2.2.Length l.2.2.Mass l.2.2.Direct (kX v w y (kX n.1 c.1 e.1 []))))) ?_ ?_
     ·rcases wyD d with⟨e4,d⟩|⟨e4,d⟩
      ·obtain⟨e5,d1,d⟩:=bnd d
       simp only[ZI,ZP]at d
       obtain⟨rfl,rfl⟩:=d
       exact tr fol [1,4] (kP length ((22,.i f)::(24,.str e5.1)::(25,.i e5.2)::(kM f []))) (ac (hs (.done (.opt (qd ZT 51 (.ptr 0 0) (.i f))) (.ptr 0 0)) (ixA (ot e4) (by kernel_rfl))) (ac (cv (qbf N l.1 V d1)) az))
      rcases wyD d with⟨e6,d⟩|⟨e6,d⟩
      ·obtain⟨e7,d2,d⟩:=bnd d
       simp only[ZI,ZP]at d
       obtain⟨rfl,rfl⟩:=d
       exact tr fol [1,4] (kP length ((22,.i f)::(24,.str e7.1)::(25,.i e7.2)::(kM f []))) (ac (hs (.done (.opt (qd ZT 51 (.ptr 0 0) (.i f))) (.ptr 0 3)) (ixA (ot e6) (by kernel_rfl))) (ac (cv (qbf N l.2.1 V d2)) az))
      rcases wyD d with⟨e8,d⟩|⟨e8,d⟩
      ·obtain⟨e9,d3,d⟩:=bnd d
       simp only[ZI,ZP]at d
       obtain⟨rfl,rfl⟩:=d
       exact tr fol [1,4] (kP length ((22,.i f)::(24,.str e9.1)::(25,.i e9.2)::(kM f []))) (ac (hs (.done (.opt (qd ZT 51 (.ptr 0 0) (.i f))) (.ptr 0 6)) (ixA (ot e8) (by kernel_rfl))) (ac (cv (qbf N l.2.2 V d3)) az))
      cases d
     try dsimp only at o
     obtain⟨j,d4,o⟩:=bnd o
     refine sq (gq fol [0] (kP length ((22,.i f)::(24,.str B)::(25,.i a6)::(26,.ptr 3 0)::(kM f []))) (kK l.1.Length l.1.Mass l.1.Direct l.2.1.Length l.2.1.Mass l.2.1.Direct l.2.2.Length l.2.2.Mass l.2.2.Direct (kX v w y (kX n.1 c.1 e.1 (kZ j.Name j.Density j.Twist j.Strength j.Dye [])))) (ac (cv (qbC [121] d4)) az) ?_)
     refine sg fol (kP length ((22,.i f)::(25,.i a6)::(26,.ptr 3 0)::(kM f []))) (kK l.1.Length l.1.Mass l.1.Direct l.2.1.Length l.2.1.Mass l.2.1.Direct l.2.2.Length l.2.2.Mass l.2.2.Direct (kX v w y (kX n.1 c.1 e.1 (kZ j.Name B j.Twist j.Strength j.Dye [])))) ?_
     obtain⟨C,d5,o⟩:=bnd o
     refine sq (gr fol [2] (kP length ((22,.i f)::(25,.i a6)::(27,.str C.1)::(28,.i C.2)::(kM f []))) (ac (cv (qid N (⟨j.Name,B,j.Twist,j.Strength,j.Dye⟩:qcd) length d5)) az) ?_)
     refine sq ?_
     refine sq ?_
     obtain⟨b79,z,o⟩:=bnd o
     refine Goes.cut (s':=(ofG 229 (kP length ((22,.i f)::(27,.str C.1)::(kM f [(209,.bool b79)]))),(kK l.1.Length l.1.Mass l.1.Direct l.2.1.Length l.2.1.Mass l.2.1.Direct l.2.2.Length l.2.2.Mass l.2.2.Direct (kX v w y (kX n.1 c.1 e.1 (kZ j.Name B j.Twist j.Strength j.Dye [])))))) ?_ ?_
     ·rcases wyB z with⟨d6,z⟩|⟨d6,z⟩
      ·obtain rfl:=si z
       exact tr fol [2] (kP length ((22,.i f)::(27,.str C.1)::(kM f [(209,.bool true)]))) (ac (gw d6) az)
      obtain rfl:=si z
      exact tr fol [2] (kP length ((22,.i f)::(27,.str C.1)::(kM f [(209,.bool (!decide (C.2=0)))]))) (ac (gw d6) az)
     refine ihB o (fun c81 o=>?_) (fun c81 o=>?_)
     ·refine sh fol [(6,.bool false)] ?_
      refine Goes.ret ?_
      obtain rfl:=si o
      exact Or.inr (⟨rfl,_,rfl,(gw2 [.bool false] (Ua tB))⟩)
     refine Goes.skip ?_
     obtain⟨⟨f0,f1,f2⟩,k,o⟩:=bnd o
     refine Goes.cut (s':=(ofG 229 (kP length (kM f [])),(kK l.1.Length l.1.Mass l.1.Direct l.2.1.Length l.2.1.Mass l.2.1.Direct l.2.2.Length l.2.2.Mass l.2.2.Direct (kX f0 f1 f2 (kX n.1 c.1 e.1 (kZ j.Name B j.Twist j.Strength j.Dye [])))))) ?_ ?_
     ·rcases wyD k with⟨f3,k⟩|⟨f3,k⟩
      ·simp only[ZI,ZP]at k
       obtain⟨rfl,rfl,rfl⟩:=k
       exact vL.rq fol [2] (kP length (kM f [])) (kK l.1.Length l.1.Mass l.1.Direct l.2.1.Length l.2.1.Mass l.2.1.Direct l.2.2.Length l.2.2.Mass l.2.2.Direct (kX C.1 w y (kX n.1 c.1 e.1 (kZ j.Name B j.Twist j.Strength j.Dye [])))) (ac (hs (.done (.opt (qd ZT 57 (.ptr 1 0) (.i f))) (.ptr 1 0)) (ixA (ot f3) (by kernel_rfl))) az)
      rcases wyD k with⟨f4,k⟩|⟨f4,k⟩
      ·simp only[ZI,ZP]at k
       obtain⟨rfl,rfl,rfl⟩:=k
       exact vL.rq fol [2] (kP length (kM f [])) (kK l.1.Length l.1.Mass l.1.Direct l.2.1.Length l.2.1.Mass l.2.1.Direct l.2.2.Length l.2.2.Mass l.2.2.Direct (kX v C.1 y (kX n.1 c.1 e.1 (kZ j.Name B j.Twist j.Strength j.Dye [])))) (ac (hs (.done (.opt (qd ZT 57 (.ptr 1 0) (.i f))) (.ptr 1 1)) (ixA (ot f4) (by kernel_rfl))) az)
      rcases wyD k with⟨f5,k⟩|⟨f5,k⟩
      ·simp only[ZI,ZP]at k
       obtain⟨rfl,rfl,rfl⟩:=k
       exact vL.rq fol [2] (kP length (kM f [])) (kK l.1.Length l.1.Mass l.1.Direct l.2.1.Length l.2.1.Mass l.2.1.Direct l.2.2.Length l.2.2.Mass l.2.2.Direct (kX v w C.1 (kX n.1 c.1 e.1 (kZ j.Name B j.Twist j.Strength j.Dye [])))) (ac (hs (.done (.opt (qd ZT 57 (.ptr 1 0) (.i f))) (.ptr 1 2)) (ixA (ot f5) (by kernel_rfl))) az)
      cases k
     try dsimp only at o
     refine gh fol (kP length (kM (w64 (f+1)) [])) ?_
     exact⟨M,(ofG 229 (kP length (kM (w64 (f+1)) [])),(kK l.1.Length l.1.Mass l.1.Direct l.2.1.Length l.2.1.Mass l.2.1.Direct l.2.2.Length l.2.2.Mass l.2.2.Direct (kX f0 f1 f2 (kX n.1 c.1 e.1 [])))),Nat.lt_succ_self _,(Sub.norm [] [some 0,some 1,some 2] rfl rfl (.keep (.same nS) (.kp (.kp (.keep (.slice rfl) (.keep (.same nI) (.keep (.same nI) .nil)))))) (.kb rfl (.same sn) (.kb rfl (.same sn) (.kb rfl (.same sn) .nil)))),_,_,_,_,rfl,o⟩
    refine Goes.exit ?_
    obtain rfl:=si o
    exact Or.inl (⟨rfl,_,_,_,rfl,(Sub.norm [] [some 1] rfl rfl (.drop (.drop (.kp .nil))) (.kb rfl (.same sn) .nil))⟩)
  rintro x s' (⟨rfl,a3,a4,a5,rfl,hsub⟩|⟨rfl,q94,rfl,hret⟩)
  ·try dsimp only at h
   refine Goes.sub hsub ?_
   refine sq ?_
   obtain⟨f6,p,h⟩:=bnd h
   refine Goes.cut (s':=(ofG 229 [(6,.bool f6)],(kX a3 a4 a5 []))) ?_ ?_
   ·rcases wyB p with⟨a7,p⟩|⟨a7,p⟩
    ·rcases wyB p with⟨d7,p⟩|⟨d7,p⟩
     ·obtain⟨r91,d8,p⟩:=bnd p
      obtain rfl:=si p
      exact tr fol [5,12,13] [(6,.bool r91)] (ac (gw a7) (ac (gw d7) (ac (cv (qkf d8)) az)))
     obtain rfl:=si p
     exact tr fol [5,12] [(6,.bool false)] (ac (gw a7) (ac (gw d7) az))
    obtain rfl:=si p
    exact tr fol [5] [(6,.bool false)] (ac (gw a7) az)
   refine Goes.ret ?_
   obtain rfl:=si h
   exact(gw2 [.bool f6] (Ua tB))
  try dsimp only at h
  obtain rfl:=si h
  exact hret
 try dsimp only at h
 obtain rfl:=si h
 exact hret
end Go.Av
