/-
  The walk of the law.
-/
import Derived.Test.YtkdbjocpkfeckaaGreatDoorQGenSu3
import Derived.Test.YtkdbjocpkfeckaaGreatDoorAvAwkB9
noncomputable section
namespace Go.Av
open Go.Proofs Go.RowKit
set_option linter.unusedSectionVars false
set_option linter.unusedVariables false
set_option linter.unusedSimpArgs false
set_option maxRecDepth 100000
def awk:Option Bool:=some true
theorem qfP {res:Bool} (h:awk=some res):qf ZT (.fn 6) [] [] (.bool res) []:=by
 obtain rfl:=si h;exact qpR
def zV (n:Int) (d:(List Int)×Int) (c:(List (List Int))×Int) (f:(List (List Int))×Int) (g:(List (List Int))×Int) (a:Int):Nat->Int->Int->Option (Int⊕Bool)
 |0,_,_=>none
 |K+1,e,b=>
  if b<n then
  ((((idx g.1 a).bind fun j=>
  (idx j b).bind fun k=>
  (idx c.1 a).bind fun h=>
  (idx h b).bind fun i=>
  (idx d.1 a).bind fun l=>
  (idx f.1 l).bind fun m=>
  (idx d.1 b).bind fun o=>
  (idx m o).bind fun p=>
  if(!decide (k=(w64 (i+p))))=true then
  some true
  else
  (idx c.1 b).bind fun q=>
  (idx q a).bind fun r=>
  if(!decide (i=r))=true then
  some true
  else
  (idx h a).bind fun s=>
  some (!decide (s=0)):Option Bool).bind fun t=>
  if t=true then
  some (.inr false)
  else
  if a<b then
  (idx c.1 a).bind fun u=>
  (idx u b).bind fun v=>
  some (.inl (w64 (e+v)))
  else
  some (.inl e):Option (Int⊕Bool))).bind (fun
  |(.inl w)=>
  zV n d c f g a K w (w64 (b+1))
  |(.inr x)=>
  some (.inr x))
  else
  some (.inl e)
def zU (N:Nat) (n:Int) (b:(List Int)×Int) (c:(List (List Int))×Int) (d:(List (List Int))×Int) (e:(List (List Int))×Int):Nat->Int->Int->Option (Int⊕Bool)
 |0,_,_=>none
 |K+1,f,a=>
  if a<n then
  (zV n b c d e a N f 0).bind (fun
  |(.inl g)=>
  zU N n b c d e K g (w64 (a+1))
  |(.inr h)=>
  some (.inr h))
  else
  some (.inl f)
def zO (n:Int) (c:(List (List Int))×Int) (d:(List (List Int))×Int) (b:Int):Nat->Int->Option (Unit⊕Bool)
 |0,_=>none
 |K+1,a=>
  if a<n then
  (idx d.1 b).bind fun e=>
  (idx e a).bind fun f=>
  (idx c.1 b).bind fun g=>
  (idx g a).bind fun h=>
  if(!decide (f=(w64 (0-h))))=true then
  some (.inr false)
  else
  zO n c d b K (w64 (a+1))
  else
  some (.inl ())
def zP (N:Nat) (n:Int) (b:(List Int)×Int) (c:(List (List Int))×Int) (d:(List (List Int))×Int) (e:(List Int)×Int):Nat->Int->Option (Unit⊕Bool)
 |0,_=>none
 |K+1,a=>
  if a<n then
  (idx e.1 (w64 ((w64 (n-1))-a))).bind fun f=>
  (idx b.1 a).bind fun g=>
  if(!decide (f=(w64 ((w64 (n-1))-g))))=true then
  some (.inr false)
  else
  (zO n c d a N 0).bind (fun
  |(.inl ())=>
  zP N n b c d e K (w64 (a+1))
  |(.inr h)=>
  some (.inr h))
  else
  some (.inl ())
def qan (N:Nat) (n:Int) (a:qj4):Option Bool:=
 ((awk).bind fun Q=>
 if(!Q)=true then
 some true
 else
 (qbR N n a.A 5 8).bind fun U=>
 if(!U)=true then
 some true
 else
 (qbR N n a.B 5 8).bind fun V=>
 if(!V)=true then
 some true
 else
 if a.K<(-3)then
 some true
 else
 some (decide (a.K>3)):Option Bool).bind fun X=>
 if X=true then
 (awk).bind fun v=>
 some v
 else
 (qaA N n a.A a.B).bind fun c=>
 (xA N n a.A).bind fun b=>
 (xA N n a.B).bind fun d=>
 (xA N n c.1).bind fun m=>
 (xw N n a.A).bind fun e=>
 (xw N n a.B).bind fun f=>
 (xw N n c.1).bind fun g=>
 (yL N n a.A).bind fun h=>
 (if(!decide ((w64 ((w64 ((w64 ((w64 ((w64 ((w64 ((w64 (c.2+b.2))+d.2))+m.2))+e.2))+f.2))+g.2))+h.2))=0))=true then
 some true
 else
 if(!decide ((b.1.length:Int)=n))=true then
 some true
 else
 (vZ N b.1).bind fun w=>
 if(!decide (w=0))=true then
 some true
 else
 if(!decide ((d.1.length:Int)=n))=true then
 some true
 else
 (vZ N d.1).bind fun x=>
 if(!decide (x=0))=true then
 some true
 else
 (qac N b.1 d.1).bind fun y=>
 (yJ N m.1 y).bind fun z=>
 if(!z)=true then
 some true
 else
 (yl N e.1 n).bind fun C=>
 if(!C)=true then
 some true
 else
 (yl N f.1 n).bind fun D=>
 if(!D)=true then
 some true
 else
 (yl N g.1 n).bind fun E=>
 some (!E):Option Bool).bind fun F=>
 if F=true then
 some false
 else
 (zU N n b e f g N 0 0).bind (fun
 |(.inl G)=>
 if(!decide (G=h.1))=true then
 some false
 else
 (xB N n a.A [51]).bind fun i=>
 (xB N n a.B [51]).bind fun j=>
 (xB N n c.1 [51]).bind fun o=>
 (if(!decide ((w64 ((w64 (i.2+j.2))+o.2))=0))=true then
 some true
 else
 (xP N i.1 n).bind fun H=>
 if(!H)=true then
 some true
 else
 (xP N j.1 n).bind fun I=>
 if(!I)=true then
 some true
 else
 (qal N i.1 j.1).bind fun J=>
 (yG N o.1 J).bind fun L=>
 some (!L):Option Bool).bind fun M=>
 if M=true then
 some false
 else
 (qaD N n a.A).bind fun p=>
 (xw N n p.1).bind fun k=>
 (qcf N n a.A).bind fun q=>
 (xA N n q.1).bind fun l=>
 (qbu N n a.A a.K).bind fun r=>
 (yL N n r.1).bind fun s=>
 (if(!decide ((w64 ((w64 ((w64 ((w64 ((w64 (p.2+k.2))+q.2))+l.2))+r.2))+s.2))=0))=true then
 some true
 else
 (yl N k.1 n).bind fun O=>
 if(!O)=true then
 some true
 else
 if(!decide ((l.1.length:Int)=n))=true then
 some true
 else
 some (!decide (s.1=(w64 (a.K*h.1)))):Option Bool).bind fun P=>
 if P=true then
 some false
 else
 (zP N n b e k l N 0).bind (fun
 |(.inl ())=>
 some true
 |(.inr t)=>
 some t)
 |(.inr u)=>
 some u)
theorem qeM (N:Nat) (n:Int) (r:qj4) {res:Bool} (h:qan N n r=some res):qf ZT (.fn 5) [.i n,.agg [vl encI r.A,vl encI r.B,.i r.K]] [] (.bool res) []:=by
 unfold qan at h;refine Ub Tryz.func5 rfl rfl (m:=432) rfl (rs:=[.tmp 4]) rfl (l:=[(0,.i n),(1,.agg [vl encI r.A,vl encI r.B,.i r.K])]) rfl ?_;refine sg fol (kX n []) (kAI r.A r.B r.K) ?_;refine sq ?_;refine sq ?_;obtain⟨b8,o,h⟩:=bnd h;refine Goes.cut (s':=(ofG 432 (kX n [(69,.bool b8)]),(kAI r.A r.B r.K))) ?_ ?_
 ·obtain⟨r1,a6,o⟩:=bnd o;rcases wyB o with⟨c2,o⟩|⟨c2,o⟩
  ·obtain rfl:=si o;exact tr fol [0,2] (kX n [(69,.bool true)]) (ac (cv (qfP a6)) (ac (gw c2) az))
  obtain⟨r3,b4,o⟩:=bnd o;rcases wyB o with⟨c4,o⟩|⟨c4,o⟩
  ·obtain rfl:=si o;exact tr fol [0,2,6,9] (kX n [(69,.bool true)]) (ac (cv (qfP a6)) (ac (gw c2) (ac (cv (yP N n r.A 5 8 b4)) (ac (gw c4) az))))
  obtain⟨r5,c8,o⟩:=bnd o;rcases wyB o with⟨c6,o⟩|⟨c6,o⟩
  ·obtain rfl:=si o;exact tr fol [0,2,6,9,13,16] (kX n [(69,.bool true)]) (ac (cv (qfP a6)) (ac (gw c2) (ac (cv (yP N n r.A 5 8 b4)) (ac (gw c4) (ac (cv (yP N n r.B 5 8 c8)) (ac (gw c6) az))))))
  rcases wyD o with⟨c7,o⟩|⟨c7,o⟩
  ·obtain rfl:=si o;exact tr fol [0,2,6,9,13,16,21] (kX n [(69,.bool true)]) (ac (cv (qfP a6)) (ac (gw c2) (ac (cv (yP N n r.A 5 8 b4)) (ac (gw c4) (ac (cv (yP N n r.B 5 8 c8)) (ac (gw c6) (ac (gw c7) az)))))))
  obtain rfl:=si o;exact tr fol [0,2,6,9,13,16,21] (kX n [(69,.bool (decide (r.K>3)))]) (ac (cv (qfP a6)) (ac (gw c2) (ac (cv (yP N n r.A 5 8 b4)) (ac (gw c4) (ac (cv (yP N n r.B 5 8 c8)) (ac (gw c6) (ac (gw c7) az)))))))
 refine ihB h (fun c10 h=>?_) (fun c10 h=>?_)
 ·obtain⟨r11,f1,h⟩:=bnd h;refine sq (gr fol [0] (kAk r11) (ac (cv (qfP f1)) az) ?_);refine Goes.ret ?_;obtain rfl:=si h;exact(gw2 [.bool r11] (Ua tB))
 refine Goes.skip ?_;obtain⟨e,f2,h⟩:=bnd h;refine sq (gr fol [5] (kX n (kAL e.1 e.2 [])) (ac (cv (qf8 N n r.A r.B f2)) az) ?_);obtain⟨b,f3,h⟩:=bnd h;refine sq (gr fol [3] (kX n (kAL e.1 e.2 [(7,vl encI b.1),(8,.i b.2)])) (ac (cv (qbd N n r.A f3)) az) ?_);obtain⟨C,f4,h⟩:=bnd h;refine sq (gr fol [3] (kX n (kAL e.1 e.2 [(7,vl encI b.1),(8,.i b.2),(9,vl encI C.1),(10,.i C.2)])) (ac (cv (qbd N n r.B f4)) az) ?_);obtain⟨H,f5,h⟩:=bnd h;refine sq (gr fol [2] (kX n (kAL e.1 e.2 (kAb b.1 b.2 C.1 C.2 H.1 H.2 []))) (ac (cv (qbd N n e.1 f5)) az) ?_);obtain⟨c,f6,h⟩:=bnd h;refine sq (gr fol [3] (kX n (kAL e.1 e.2 (kAb b.1 b.2 C.1 C.2 H.1 H.2 [(13,vl (qc encI) c.1),(14,.i c.2)]))) (ac (cv (qbb N n r.A f6)) az) ?_);obtain⟨j,f7,h⟩:=bnd h;refine sq (gr fol [3] (kX n (kAL e.1 e.2 (kAb b.1 b.2 C.1 C.2 H.1 H.2 [(13,vl (qc encI) c.1),(14,.i c.2),(15,vl (qc encI) j.1),(16,.i j.2)]))) (ac (cv (qbb N n r.B f7)) az) ?_);obtain⟨k,f8,h⟩:=bnd h;refine sq (gr fol [2] (kX n (kAL e.1 e.2 (kAb b.1 b.2 C.1 C.2 H.1 H.2 [(13,vl (qc encI) c.1),(14,.i c.2),(15,vl (qc encI) j.1),(16,.i j.2),(17,vl (qc encI) k.1),(18,.i k.2)]))) (ac (cv (qbb N n e.1 f8)) az) ?_);obtain⟨f,f9,h⟩:=bnd h;refine sq (gr fol [3] (kX n (kAL e.1 e.2 (kAb b.1 b.2 C.1 C.2 H.1 H.2 [(13,vl (qc encI) c.1),(14,.i c.2),(15,vl (qc encI) j.1),(16,.i j.2),(17,vl (qc encI) k.1),(18,.i k.2),(19,.i f.1),(20,.i f.2)]))) (ac (cv (qcn N n r.A f9)) az) ?_);refine sq ?_;refine sq ?_;obtain⟨b35,a,h⟩:=bnd h;refine Goes.cut (s':=(ofG 432 (kG n e.1 b.1 [(13,vl (qc encI) c.1),(15,vl (qc encI) j.1),(17,vl (qc encI) k.1),(19,.i f.1),(190,.bool b35)]),(kAI r.A r.B r.K))) ?_ ?_
 ·rcases wyB a with⟨Y,a⟩|⟨Y,a⟩
  ·obtain rfl:=si a;exact tr fol [16] (kG n e.1 b.1 ((13,vl (qc encI) c.1)::(15,vl (qc encI) j.1)::(17,vl (qc encI) k.1)::(kAc f.1))) (ac (gw Y) az)
  rcases wyB a with⟨a1,a⟩|⟨a1,a⟩
  ·obtain rfl:=si a;exact tr fol [16,22] (kG n e.1 b.1 ((13,vl (qc encI) c.1)::(15,vl (qc encI) j.1)::(17,vl (qc encI) k.1)::(kAc f.1))) (ac (gw Y) (ac (gw a1) az))
  obtain⟨r22,E,a⟩:=bnd a;rcases wyB a with⟨a7,a⟩|⟨a7,a⟩
  ·obtain rfl:=si a;exact tr fol [16,22,24,27] (kG n e.1 b.1 ((13,vl (qc encI) c.1)::(15,vl (qc encI) j.1)::(17,vl (qc encI) k.1)::(kAc f.1))) (ac (gw Y) (ac (gw a1) (ac (cv (qI N b.1 E)) (ac (gw a7) az))))
  rcases wyB a with⟨a9,a⟩|⟨a9,a⟩
  ·obtain rfl:=si a;exact tr fol [16,22,24,27,33] (kG n e.1 b.1 ((13,vl (qc encI) c.1)::(15,vl (qc encI) j.1)::(17,vl (qc encI) k.1)::(kAc f.1))) (ac (gw Y) (ac (gw a1) (ac (cv (qI N b.1 E)) (ac (gw a7) (ac (gw a9) az)))))
  obtain⟨r25,X,a⟩:=bnd a;rcases wyB a with⟨c3,a⟩|⟨c3,a⟩
  ·obtain rfl:=si a;exact tr fol [16,22,24,27,33,35,38] (kG n e.1 b.1 ((13,vl (qc encI) c.1)::(15,vl (qc encI) j.1)::(17,vl (qc encI) k.1)::(kAc f.1))) (ac (gw Y) (ac (gw a1) (ac (cv (qI N b.1 E)) (ac (gw a7) (ac (gw a9) (ac (cv (qI N C.1 X)) (ac (gw c3) az)))))))
  obtain⟨e2,a2,a⟩:=bnd a;obtain⟨r28,a3,a⟩:=bnd a;rcases wyB a with⟨c9,a⟩|⟨c9,a⟩
  ·obtain rfl:=si a;exact tr fol [16,22,24,27,33,35,38,42,43,46] (kG n e.1 b.1 ((13,vl (qc encI) c.1)::(15,vl (qc encI) j.1)::(17,vl (qc encI) k.1)::(kAc f.1))) (ac (gw Y) (ac (gw a1) (ac (cv (qI N b.1 E)) (ac (gw a7) (ac (gw a9) (ac (cv (qI N C.1 X)) (ac (gw c3) (ac (cv (xV N b.1 C.1 a2)) (ac (cv (xk N H.1 e2 a3)) (ac (gw c9) az))))))))))
  obtain⟨r30,b0,a⟩:=bnd a;rcases wyB a with⟨e3,a⟩|⟨e3,a⟩
  ·obtain rfl:=si a;exact tr fol [16,22,24,27,33,35,38,42,43,46,49,52] (kG n e.1 b.1 ((13,vl (qc encI) c.1)::(15,vl (qc encI) j.1)::(17,vl (qc encI) k.1)::(kAc f.1))) (ac (gw Y) (ac (gw a1) (ac (cv (qI N b.1 E)) (ac (gw a7) (ac (gw a9) (ac (cv (qI N C.1 X)) (ac (gw c3) (ac (cv (xV N b.1 C.1 a2)) (ac (cv (xk N H.1 e2 a3)) (ac (gw c9) (ac (cv (zM N c.1 n b0)) (ac (gw e3) az))))))))))))
  obtain⟨r32,d0,a⟩:=bnd a;rcases wyB a with⟨h0,a⟩|⟨h0,a⟩
  ·obtain rfl:=si a;exact tr fol [16,22,24,27,33,35,38,42,43,46,49,52,55,58] (kG n e.1 b.1 ((13,vl (qc encI) c.1)::(15,vl (qc encI) j.1)::(17,vl (qc encI) k.1)::(kAc f.1))) (ac (gw Y) (ac (gw a1) (ac (cv (qI N b.1 E)) (ac (gw a7) (ac (gw a9) (ac (cv (qI N C.1 X)) (ac (gw c3) (ac (cv (xV N b.1 C.1 a2)) (ac (cv (xk N H.1 e2 a3)) (ac (gw c9) (ac (cv (zM N c.1 n b0)) (ac (gw e3) (ac (cv (zM N j.1 n d0)) (ac (gw h0) az))))))))))))))
  obtain⟨r34,h1,a⟩:=bnd a;obtain rfl:=si a;exact tr fol [16,22,24,27,33,35,38,42,43,46,49,52,55,58,61] (kG n e.1 b.1 [(13,vl (qc encI) c.1),(15,vl (qc encI) j.1),(17,vl (qc encI) k.1),(19,.i f.1),(190,.bool (!r34))]) (ac (gw Y) (ac (gw a1) (ac (cv (qI N b.1 E)) (ac (gw a7) (ac (gw a9) (ac (cv (qI N C.1 X)) (ac (gw c3) (ac (cv (xV N b.1 C.1 a2)) (ac (cv (xk N H.1 e2 a3)) (ac (gw c9) (ac (cv (zM N c.1 n b0)) (ac (gw e3) (ac (cv (zM N j.1 n d0)) (ac (gw h0) (ac (cv (zM N k.1 n h1)) az)))))))))))))))
 refine ihB h (fun c37 h=>?_) (fun c37 h=>?_)
 ·refine sh fol kAN ?_;refine Goes.ret ?_;obtain rfl:=si h;exact(gw2 [.bool false] (Ua tB))
 refine Goes.skip ?_;refine sh fol (kG n e.1 b.1 [(13,vl (qc encI) c.1),(15,vl (qc encI) j.1),(17,vl (qc encI) k.1),(19,.i f.1),(21,.i 0)]) ?_;refine sq ?_;refine sh fol (kG n e.1 b.1 [(13,vl (qc encI) c.1),(15,vl (qc encI) j.1),(17,vl (qc encI) k.1),(19,.i f.1),(21,.i 0),(22,.i 0)]) ?_;refine Goes.block ?_;obtain⟨h2,g41,h⟩:=bnd h;refine Goes.imp (Q:=fun x s'=>(x= .exit 0/\ ∃e4,(.inl e4)=h2/\Sub s' (ofG 432 (kG n e.1 b.1 [(13,vl (qc encI) c.1),(19,.i f.1),(21,.i e4)]),(kAI r.A r.B r.K)))\/(x= .ret/\ ∃q42,(.inr q42)=h2/\qZ ZT [.tmp 4] (.bool q42) .ret s')) ?_ ?_
 ·refine Uc (fun M s=> ∃(d1:Int) (z:Int),s=(ofG 432 (kG n e.1 b.1 ((13,vl (qc encI) c.1)::(15,vl (qc encI) j.1)::(17,vl (qc encI) k.1)::(kAG f.1 d1 z []))),(kAI r.A r.B r.K))/\zU N n b c j k M d1 z=some h2) ?_ (m:=N) ⟨_,_,rfl,g41⟩;rintro M s ⟨d1,z,rfl,g41⟩
  cases M with
  |zero=>simp only[zU]at g41;cases g41
  |succ M=>
   rw[zU]at g41;refine sq ?_;refine sh fol (kG n e.1 b.1 ((13,vl (qc encI) c.1)::(15,vl (qc encI) j.1)::(17,vl (qc encI) k.1)::(kAG f.1 d1 z [(193,.bool (decide (z<n)))]))) ?_;refine ihD g41 (fun c43 g41=>?_) (fun c43 g41=>?_)
   ·refine Goes.skip ?_;refine sq (Goes.block ?_);refine sh fol (kG n e.1 b.1 ((13,vl (qc encI) c.1)::(15,vl (qc encI) j.1)::(17,vl (qc encI) k.1)::(kAG f.1 d1 z [(23,.i 0)]))) ?_;refine Goes.block ?_;obtain⟨h3,g47,g41⟩:=bnd g41;refine Goes.imp (Q:=fun x s'=>(x= .exit 2/\ ∃d2,(.inl d2)=h3/\Sub s' (ofG 432 (kG n e.1 b.1 ((13,vl (qc encI) c.1)::(15,vl (qc encI) j.1)::(17,vl (qc encI) k.1)::(kAG f.1 d2 z []))),(kAI r.A r.B r.K)))\/(x= .ret/\ ∃q48,(.inr q48)=h3/\qZ ZT [.tmp 4] (.bool q48) .ret s')) ?_ ?_
    ·refine Uc (fun M s=> ∃(Z:Int) (F:Int),s=(ofG 432 (kG n e.1 b.1 ((13,vl (qc encI) c.1)::(15,vl (qc encI) j.1)::(17,vl (qc encI) k.1)::(kAG f.1 Z z [(23,.i F)]))),(kAI r.A r.B r.K))/\zV n b c j k z M Z F=some h3) ?_ (m:=N) ⟨_,_,rfl,g47⟩;rintro M s ⟨Z,F,rfl,g47⟩
     cases M with
     |zero=>simp only[zV]at g47;cases g47
     |succ M=>
      rw[zV]at g47;refine sq ?_;refine sh fol (kG n e.1 b.1 ((13,vl (qc encI) c.1)::(15,vl (qc encI) j.1)::(17,vl (qc encI) k.1)::(kAG f.1 Z z [(23,.i F),(198,.bool (decide (F<n)))]))) ?_;refine ihD g47 (fun c49 g47=>?_) (fun c49 g47=>?_)
      ·refine Goes.skip ?_;refine sq ?_;obtain⟨r51,G,g47⟩:=bnd g47;refine Goes.imp (Q:=fun x s'=>(x= .normal/\ ∃d3,(.inl d3)=r51/\Sub s' (ofG 432 (kG n e.1 b.1 ((13,vl (qc encI) c.1)::(15,vl (qc encI) j.1)::(17,vl (qc encI) k.1)::(kAG f.1 d3 z [(23,.i F)]))),(kAI r.A r.B r.K)))\/(x= .ret/\ ∃q52,(.inr q52)=r51/\qZ ZT [.tmp 4] (.bool q52) .ret s')) ?_ ?_
       ·refine Goes.block ?_;refine sq ?_;refine sq ?_;obtain⟨b66,d,G⟩:=bnd G;refine Goes.cut (s':=(ofG 432 (kG n e.1 b.1 ((13,vl (qc encI) c.1)::(15,vl (qc encI) j.1)::(17,vl (qc encI) k.1)::(kAG f.1 Z z [(23,.i F),(256,.bool b66)]))),(kAI r.A r.B r.K))) ?_ ?_
        ·obtain⟨x53,I,d⟩:=bnd d;obtain⟨x54,J,d⟩:=bnd d;obtain⟨x55,w,d⟩:=bnd d;obtain⟨x56,D,d⟩:=bnd d;obtain⟨x57,L,d⟩:=bnd d;obtain⟨x58,O,d⟩:=bnd d;obtain⟨x59,P,d⟩:=bnd d;obtain⟨x60,U,d⟩:=bnd d;rcases wyB d with⟨e5,d⟩|⟨e5,d⟩
         ·obtain rfl:=si d;exact tr fol [2,3,5,6,9,10,12,13,17,18,19,20,23,24,25,26,29] (kG n e.1 b.1 ((13,vl (qc encI) c.1)::(15,vl (qc encI) j.1)::(17,vl (qc encI) k.1)::(kAG f.1 Z z [(23,.i F),(256,.bool true)]))) (ac (iv qbO (qc encI) I) (ac (lv 0 qci (qc encI) I rfl) (ac (iv qP encI J) (ac (lv 0 ce3 encI J rfl) (ac (iv qbO (qc encI) w) (ac (lv 0 qci (qc encI) w rfl) (ac (iv qP encI D) (ac (lv 0 ce3 encI D rfl) (ac (iv qP encI L) (ac (lv 0 ce3 encI L rfl) (ac (iv qbO (qc encI) O) (ac (lv 0 qci (qc encI) O rfl) (ac (iv qP encI P) (ac (lv 0 ce3 encI P rfl) (ac (iv qP encI U) (ac (lv 0 ce3 encI U rfl) (ac (gw e5) az)))))))))))))))))
         obtain⟨x62,a4,d⟩:=bnd d;obtain⟨x63,a5,d⟩:=bnd d;rcases wyB d with⟨h4,d⟩|⟨h4,d⟩
         ·obtain rfl:=si d;exact tr fol [2,3,5,6,9,10,12,13,17,18,19,20,23,24,25,26,29,32,33,35,36,39,40,42,43,46] (kG n e.1 b.1 ((13,vl (qc encI) c.1)::(15,vl (qc encI) j.1)::(17,vl (qc encI) k.1)::(kAG f.1 Z z [(23,.i F),(256,.bool true)]))) (ac (iv qbO (qc encI) I) (ac (lv 0 qci (qc encI) I rfl) (ac (iv qP encI J) (ac (lv 0 ce3 encI J rfl) (ac (iv qbO (qc encI) w) (ac (lv 0 qci (qc encI) w rfl) (ac (iv qP encI D) (ac (lv 0 ce3 encI D rfl) (ac (iv qP encI L) (ac (lv 0 ce3 encI L rfl) (ac (iv qbO (qc encI) O) (ac (lv 0 qci (qc encI) O rfl) (ac (iv qP encI P) (ac (lv 0 ce3 encI P rfl) (ac (iv qP encI U) (ac (lv 0 ce3 encI U rfl) (ac (gw e5) (ac (iv qbO (qc encI) w) (ac (lv 0 qci (qc encI) w rfl) (ac (iv qP encI D) (ac (lv 0 ce3 encI D rfl) (ac (iv qbO (qc encI) a4) (ac (lv 0 qci (qc encI) a4 rfl) (ac (iv qP encI a5) (ac (lv 0 ce3 encI a5 rfl) (ac (gw h4) az))))))))))))))))))))))))))
         obtain⟨x65,d4,d⟩:=bnd d;obtain rfl:=si d;exact tr fol [2,3,5,6,9,10,12,13,17,18,19,20,23,24,25,26,29,32,33,35,36,39,40,42,43,46,49,50,52,53] (kG n e.1 b.1 ((13,vl (qc encI) c.1)::(15,vl (qc encI) j.1)::(17,vl (qc encI) k.1)::(kAG f.1 Z z [(23,.i F),(256,.bool (!decide (x65=0)))]))) (ac (iv qbO (qc encI) I) (ac (lv 0 qci (qc encI) I rfl) (ac (iv qP encI J) (ac (lv 0 ce3 encI J rfl) (ac (iv qbO (qc encI) w) (ac (lv 0 qci (qc encI) w rfl) (ac (iv qP encI D) (ac (lv 0 ce3 encI D rfl) (ac (iv qP encI L) (ac (lv 0 ce3 encI L rfl) (ac (iv qbO (qc encI) O) (ac (lv 0 qci (qc encI) O rfl) (ac (iv qP encI P) (ac (lv 0 ce3 encI P rfl) (ac (iv qP encI U) (ac (lv 0 ce3 encI U rfl) (ac (gw e5) (ac (iv qbO (qc encI) w) (ac (lv 0 qci (qc encI) w rfl) (ac (iv qP encI D) (ac (lv 0 ce3 encI D rfl) (ac (iv qbO (qc encI) a4) (ac (lv 0 qci (qc encI) a4 rfl) (ac (iv qP encI a5) (ac (lv 0 ce3 encI a5 rfl) (ac (gw h4) (ac (iv qbO (qc encI) w) (ac (lv 0 qci (qc encI) w rfl) (ac (iv qP encI d4) (ac (lv 0 ce3 encI d4 rfl) az))))))))))))))))))))))))))))))
        refine ihB G (fun c68 G=>?_) (fun c68 G=>?_)
        ·refine sh fol kAN ?_;refine Goes.ret ?_;obtain rfl:=si G;exact Or.inr (⟨rfl,_,rfl,(gw2 [.bool false] (Ua tB))⟩)
        refine Goes.skip ?_;refine sh fol (kG n e.1 b.1 ((13,vl (qc encI) c.1)::(15,vl (qc encI) j.1)::(17,vl (qc encI) k.1)::(kAG f.1 Z z [(23,.i F),(259,.bool (decide (z<F)))]))) ?_;refine ihD G (fun c69 G=>?_) (fun c69 G=>?_)
        ·obtain⟨x70,d5,G⟩:=bnd G;obtain⟨x71,d6,G⟩:=bnd G;refine gr fol [3,4,6,7] (kG n e.1 b.1 ((13,vl (qc encI) c.1)::(15,vl (qc encI) j.1)::(17,vl (qc encI) k.1)::(kAG f.1 (w64 (Z+x71)) z [(23,.i F)]))) (ac (iv qbO (qc encI) d5) (ac (lv 0 qci (qc encI) d5 rfl) (ac (iv qP encI d6) (ac (lv 0 ce3 encI d6 rfl) az)))) ?_;obtain rfl:=si G;exact Or.inl (⟨rfl,_,rfl,(Sub.refl _)⟩)
        refine Goes.skip ?_;obtain rfl:=si G;exact Or.inl (⟨rfl,_,rfl,(Sub.keep [0,3,5,7,13,15,17,19,21,22,23] rfl rfl)⟩)
       rintro x s' (⟨rfl,d3,rfl,hsub⟩|⟨rfl,q72,rfl,hret⟩)
       ·try dsimp only at g47
        refine Goes.sub hsub ?_;refine gh fol (kG n e.1 b.1 ((13,vl (qc encI) c.1)::(15,vl (qc encI) j.1)::(17,vl (qc encI) k.1)::(kAG f.1 d3 z [(23,.i (w64 (F+1)))]))) ?_;exact⟨M,(ofG 432 (kG n e.1 b.1 ((13,vl (qc encI) c.1)::(15,vl (qc encI) j.1)::(17,vl (qc encI) k.1)::(kAG f.1 d3 z [(23,.i (w64 (F+1)))]))),(kAI r.A r.B r.K)),Nat.lt_succ_self _,(Sub.refl _),_,_,rfl,g47⟩
       try dsimp only at g47
       obtain rfl:=si g47;exact Or.inr (⟨rfl,_,rfl,hret⟩)
      refine Goes.exit ?_;obtain rfl:=si g47;exact Or.inl (⟨rfl,_,rfl,(Sub.keep [0,3,5,7,13,15,17,19,21,22] rfl rfl)⟩)
    rintro x s' (⟨rfl,d2,rfl,hsub⟩|⟨rfl,q73,rfl,hret⟩)
    ·try dsimp only at g41
     refine Goes.sub hsub ?_;refine gh fol (kG n e.1 b.1 ((13,vl (qc encI) c.1)::(15,vl (qc encI) j.1)::(17,vl (qc encI) k.1)::(kAG f.1 d2 (w64 (z+1)) []))) ?_;exact⟨M,(ofG 432 (kG n e.1 b.1 ((13,vl (qc encI) c.1)::(15,vl (qc encI) j.1)::(17,vl (qc encI) k.1)::(kAG f.1 d2 (w64 (z+1)) []))),(kAI r.A r.B r.K)),Nat.lt_succ_self _,(Sub.refl _),_,_,rfl,g41⟩
    try dsimp only at g41
    obtain rfl:=si g41;exact Or.inr (⟨rfl,_,rfl,hret⟩)
   refine Goes.exit ?_;obtain rfl:=si g41;exact Or.inl (⟨rfl,_,rfl,(Sub.keep [0,3,5,7,13,19,21] rfl rfl)⟩)
 rintro x s' (⟨rfl,e4,rfl,hsub⟩|⟨rfl,q119,rfl,hret⟩)
 ·try dsimp only at h
  refine Goes.sub hsub ?_;refine sq ?_;refine sh fol (kG n e.1 b.1 [(13,vl (qc encI) c.1),(19,.i f.1),(271,.bool (!decide (e4=f.1)))]) ?_;refine ihB h (fun c74 h=>?_) (fun c74 h=>?_)
  ·refine sh fol kAN ?_;refine Goes.ret ?_;obtain rfl:=si h;exact(gw2 [.bool false] (Ua tB))
  refine Goes.skip ?_;obtain⟨a0,h5,h⟩:=bnd h;refine sq (gr fol [3] (kG n e.1 b.1 [(13,vl (qc encI) c.1),(19,.i f.1),(24,vl (qc encS) a0.1),(25,.i a0.2)]) (ac (cv (qcd N n r.A [51] h5)) az) ?_);obtain⟨b1,h6,h⟩:=bnd h;refine sq (gr fol [3] (kG n e.1 b.1 [(13,vl (qc encI) c.1),(19,.i f.1),(24,vl (qc encS) a0.1),(25,.i a0.2),(26,vl (qc encS) b1.1),(27,.i b1.2)]) (ac (cv (qcd N n r.B [51] h6)) az) ?_);obtain⟨h7,h8,h⟩:=bnd h;refine sq (gr fol [2] (kX n [(7,vl encI b.1),(13,vl (qc encI) c.1),(19,.i f.1),(24,vl (qc encS) a0.1),(25,.i a0.2),(26,vl (qc encS) b1.1),(27,.i b1.2),(28,vl (qc encS) h7.1),(29,.i h7.2)]) (ac (cv (qcd N n e.1 [51] h8)) az) ?_);refine sq ?_;refine sq ?_;obtain⟨b85,g,h⟩:=bnd h;refine Goes.cut (s':=(ofG 432 (kX n [(7,vl encI b.1),(13,vl (qc encI) c.1),(19,.i f.1),(317,.bool b85)]),(kAI r.A r.B r.K))) ?_ ?_
  ·rcases wyB g with⟨d7,g⟩|⟨d7,g⟩
   ·obtain rfl:=si g;exact tr fol [6] (kX n [(7,vl encI b.1),(13,vl (qc encI) c.1),(19,.i f.1),(317,.bool true)]) (ac (gw d7) az)
   obtain⟨r79,b2,g⟩:=bnd g;rcases wyB g with⟨e6,g⟩|⟨e6,g⟩
   ·obtain rfl:=si g;exact tr fol [6,9,12] (kX n [(7,vl encI b.1),(13,vl (qc encI) c.1),(19,.i f.1),(317,.bool true)]) (ac (gw d7) (ac (cv (yY N a0.1 n b2)) (ac (gw e6) az)))
   obtain⟨r81,d8,g⟩:=bnd g;rcases wyB g with⟨h9,g⟩|⟨h9,g⟩
   ·obtain rfl:=si g;exact tr fol [6,9,12,15,18] (kX n [(7,vl encI b.1),(13,vl (qc encI) c.1),(19,.i f.1),(317,.bool true)]) (ac (gw d7) (ac (cv (yY N a0.1 n b2)) (ac (gw e6) (ac (cv (yY N b1.1 n d8)) (ac (gw h9) az)))))
   obtain⟨r83,i0,g⟩:=bnd g;obtain⟨r84,i1,g⟩:=bnd g;obtain rfl:=si g;exact tr fol [6,9,12,15,18,22,23] (kX n [(7,vl encI b.1),(13,vl (qc encI) c.1),(19,.i f.1),(317,.bool (!r84))]) (ac (gw d7) (ac (cv (yY N a0.1 n b2)) (ac (gw e6) (ac (cv (yY N b1.1 n d8)) (ac (gw h9) (ac (cv (qfF N a0.1 b1.1 i0)) (ac (cv (qeu N h7.1 r83 i1)) az)))))))
  refine ihB h (fun c87 h=>?_) (fun c87 h=>?_)
  ·refine sh fol kAN ?_;refine Goes.ret ?_;obtain rfl:=si h;exact(gw2 [.bool false] (Ua tB))
  refine Goes.skip ?_;obtain⟨a8,i2,h⟩:=bnd h;refine sq (gr fol [3] (kX n [(7,vl encI b.1),(13,vl (qc encI) c.1),(19,.i f.1),(30,vl encI a8.1),(31,.i a8.2)]) (ac (cv (qf4 N n r.A i2)) az) ?_);obtain⟨q,i3,h⟩:=bnd h;refine sq (gr fol [2] (kX n [(7,vl encI b.1),(13,vl (qc encI) c.1),(19,.i f.1),(31,.i a8.2),(32,vl (qc encI) q.1),(33,.i q.2)]) (ac (cv (qbb N n a8.1 i3)) az) ?_);obtain⟨c5,i4,h⟩:=bnd h;refine sq (gr fol [3] (kX n [(7,vl encI b.1),(13,vl (qc encI) c.1),(19,.i f.1),(31,.i a8.2),(32,vl (qc encI) q.1),(33,.i q.2),(34,vl encI c5.1),(35,.i c5.2)]) (ac (cv (qhX N n r.A i4)) az) ?_);obtain⟨v,i5,h⟩:=bnd h;refine sq (gr fol [2] (kX n [(7,vl encI b.1),(13,vl (qc encI) c.1),(19,.i f.1),(31,.i a8.2),(32,vl (qc encI) q.1),(33,.i q.2),(35,.i c5.2),(36,vl encI v.1),(37,.i v.2)]) (ac (cv (qbd N n c5.1 i5)) az) ?_);obtain⟨e7,i6,h⟩:=bnd h;refine sq (gr fol [5] (kX n [(7,vl encI b.1),(13,vl (qc encI) c.1),(19,.i f.1),(31,.i a8.2),(32,vl (qc encI) q.1),(33,.i q.2),(35,.i c5.2),(36,vl encI v.1),(37,.i v.2),(38,vl encI e7.1),(39,.i e7.2)]) (ac (cv (qhc N n r.A r.K i6)) az) ?_);obtain⟨i7,i8,h⟩:=bnd h;refine sq (gr fol [2] (kX n [(7,vl encI b.1),(13,vl (qc encI) c.1),(19,.i f.1),(31,.i a8.2),(32,vl (qc encI) q.1),(33,.i q.2),(35,.i c5.2),(36,vl encI v.1),(37,.i v.2),(39,.i e7.2),(40,.i i7.1),(41,.i i7.2)]) (ac (cv (qcn N n e7.1 i8)) az) ?_);refine sq ?_;refine sq ?_;obtain⟨b98,u,h⟩:=bnd h;refine Goes.cut (s':=(ofG 432 (kAQ n b.1 [(13,vl (qc encI) c.1),(32,vl (qc encI) q.1),(36,vl encI v.1),(390,.bool b98)]),(kAI r.A r.B r.K))) ?_ ?_
  ·rcases wyB u with⟨d9,u⟩|⟨d9,u⟩
   ·obtain rfl:=si u;exact tr fol [12] (kAQ n b.1 [(13,vl (qc encI) c.1),(32,vl (qc encI) q.1),(36,vl encI v.1),(390,.bool true)]) (ac (gw d9) az)
   obtain⟨r95,b3,u⟩:=bnd u;rcases wyB u with⟨e8,u⟩|⟨e8,u⟩
   ·obtain rfl:=si u;exact tr fol [12,15,18] (kAQ n b.1 [(13,vl (qc encI) c.1),(32,vl (qc encI) q.1),(36,vl encI v.1),(390,.bool true)]) (ac (gw d9) (ac (cv (zM N q.1 n b3)) (ac (gw e8) az)))
   rcases wyB u with⟨i9,u⟩|⟨i9,u⟩
   ·obtain rfl:=si u;exact tr fol [12,15,18,24] (kAQ n b.1 [(13,vl (qc encI) c.1),(32,vl (qc encI) q.1),(36,vl encI v.1),(390,.bool true)]) (ac (gw d9) (ac (cv (zM N q.1 n b3)) (ac (gw e8) (ac (gw i9) az))))
   obtain rfl:=si u;exact tr fol [12,15,18,24] (kAQ n b.1 [(13,vl (qc encI) c.1),(32,vl (qc encI) q.1),(36,vl encI v.1),(390,.bool (!decide (i7.1=(w64 (r.K*f.1)))))]) (ac (gw d9) (ac (cv (zM N q.1 n b3)) (ac (gw e8) (ac (gw i9) az))))
  refine ihB h (fun c100 h=>?_) (fun c100 h=>?_)
  ·refine sh fol kAN ?_;refine Goes.ret ?_;obtain rfl:=si h;exact(gw2 [.bool false] (Ua tB))
  refine Goes.skip ?_;refine sq ?_;refine sh fol (kAQ n b.1 [(13,vl (qc encI) c.1),(32,vl (qc encI) q.1),(36,vl encI v.1),(42,.i 0)]) ?_;refine Goes.block ?_;obtain⟨e0,p,h⟩:=bnd h;refine Goes.imp (Q:=fun x s'=>(x= .exit 4/\(.inl ())=e0/\Sub s' (ofG 432 [],[]))\/(x= .ret/\ ∃e9,(.inr e9)=e0/\qZ ZT [.tmp 4] (.bool e9) .ret s')) ?_ ?_
  ·refine Goes.sub (s':=(ofG 432 (kAQ n b.1 [(13,vl (qc encI) c.1),(32,vl (qc encI) q.1),(36,vl encI v.1),(42,.i 0)]),[])) (Sub.norm [] [] rfl rfl (.keep (.same nI) (.keep (.same (qw encI _)) (.keep (.same (qw (qc encI) _)) (.keep (.same (qw (qc encI) _)) (.keep (.same (qw encI _)) (.keep (.same nI) .nil)))))) .nil) ?_;refine Uc (fun M s=> ∃(y:Int),s=(ofG 432 (kAQ n b.1 ((13,vl (qc encI) c.1)::(32,vl (qc encI) q.1)::(kAi v.1 y []))),[])/\zP N n b c q v M y=some e0) ?_ (m:=N) ⟨_,rfl,p⟩;rintro M s ⟨y,rfl,p⟩
   cases M with
   |zero=>simp only[zP]at p;cases p
   |succ M=>
    rw[zP]at p;refine sq ?_;refine sh fol (kAQ n b.1 ((13,vl (qc encI) c.1)::(32,vl (qc encI) q.1)::(kAi v.1 y [(393,.bool (decide (y<n)))]))) ?_;refine ihD p (fun c104 p=>?_) (fun c104 p=>?_)
    ·refine Goes.skip ?_;refine sq (Goes.block ?_);refine sq ?_;obtain⟨x105,b5,p⟩:=bnd p;obtain⟨x106,b6,p⟩:=bnd p;refine sq (gr fol [5,6,11,12] (kAQ n b.1 ((13,vl (qc encI) c.1)::(32,vl (qc encI) q.1)::(kAi v.1 y [(410,.bool (!decide (x105=(w64 ((w64 (n-1))-x106)))))]))) (ac (iv qP encI b5) (ac (lv 0 ce3 encI b5 rfl) (ac (iv qP encI b6) (ac (lv 0 ce3 encI b6 rfl) az)))) ?_);refine ihB p (fun c107 p=>?_) (fun c107 p=>?_)
     ·refine sh fol kAN ?_;refine Goes.ret ?_;obtain rfl:=si p;exact Or.inr (⟨rfl,_,rfl,(gw2 [.bool false] (Ua tB))⟩)
     refine Goes.skip ?_;refine sh fol (kAQ n b.1 ((13,vl (qc encI) c.1)::(32,vl (qc encI) q.1)::(kAi v.1 y [(43,.i 0)]))) ?_;refine Goes.block ?_;obtain⟨e1,t,p⟩:=bnd p;refine Goes.imp (Q:=fun x s'=>(x= .exit 6/\(.inl ())=e1/\Sub s' (ofG 432 (kAQ n b.1 ((13,vl (qc encI) c.1)::(32,vl (qc encI) q.1)::(kAi v.1 y []))),[]))\/(x= .ret/\ ∃f0,(.inr f0)=e1/\qZ ZT [.tmp 4] (.bool f0) .ret s')) ?_ ?_
     ·refine Uc (fun M s=> ∃(V:Int),s=(ofG 432 (kAQ n b.1 ((13,vl (qc encI) c.1)::(32,vl (qc encI) q.1)::(kAi v.1 y [(43,.i V)]))),[])/\zO n c q y M V=some e1) ?_ (m:=N) ⟨_,rfl,t⟩;rintro M s ⟨V,rfl,t⟩
      cases M with
      |zero=>simp only[zO]at t;cases t
      |succ M=>
       rw[zO]at t;refine sq ?_;refine sh fol (kAQ n b.1 ((13,vl (qc encI) c.1)::(32,vl (qc encI) q.1)::(kAi v.1 y [(43,.i V),(413,.bool (decide (V<n)))]))) ?_;refine ihD t (fun c111 t=>?_) (fun c111 t=>?_)
       ·refine Goes.skip ?_;refine sq (Goes.block ?_);obtain⟨x112,b7,t⟩:=bnd t;obtain⟨x113,b9,t⟩:=bnd t;obtain⟨x114,c0,t⟩:=bnd t;obtain⟨x115,c1,t⟩:=bnd t;refine sq (gr fol [2,3,5,6,9,10,12,13] (kAQ n b.1 ((13,vl (qc encI) c.1)::(32,vl (qc encI) q.1)::(kAi v.1 y [(43,.i V),(431,.bool (!decide (x113=(w64 (0-x115)))))]))) (ac (iv qbO (qc encI) b7) (ac (lv 0 qci (qc encI) b7 rfl) (ac (iv qP encI b9) (ac (lv 0 ce3 encI b9 rfl) (ac (iv qbO (qc encI) c0) (ac (lv 0 qci (qc encI) c0 rfl) (ac (iv qP encI c1) (ac (lv 0 ce3 encI c1 rfl) az)))))))) ?_);refine ihB t (fun c116 t=>?_) (fun c116 t=>?_)
        ·refine sh fol kAN ?_;refine Goes.ret ?_;obtain rfl:=si t;exact Or.inr (⟨rfl,_,rfl,(gw2 [.bool false] (Ua tB))⟩)
        refine Goes.skip ?_;refine gh fol (kAQ n b.1 ((13,vl (qc encI) c.1)::(32,vl (qc encI) q.1)::(kAi v.1 y [(43,.i (w64 (V+1)))]))) ?_;exact⟨M,(ofG 432 (kAQ n b.1 ((13,vl (qc encI) c.1)::(32,vl (qc encI) q.1)::(kAi v.1 y [(43,.i (w64 (V+1)))]))),[]),Nat.lt_succ_self _,(Sub.refl _),_,rfl,t⟩
       refine Goes.exit ?_;obtain rfl:=si t;exact Or.inl (⟨rfl,rfl,(Sub.keep [0,7,13,32,36,42] rfl rfl)⟩)
     rintro x s' (⟨rfl,rfl,hsub⟩|⟨rfl,q117,rfl,hret⟩)
     ·try dsimp only at p
      refine Goes.sub hsub ?_;refine gh fol (kAQ n b.1 ((13,vl (qc encI) c.1)::(32,vl (qc encI) q.1)::(kAi v.1 (w64 (y+1)) []))) ?_;exact⟨M,(ofG 432 (kAQ n b.1 ((13,vl (qc encI) c.1)::(32,vl (qc encI) q.1)::(kAi v.1 (w64 (y+1)) []))),[]),Nat.lt_succ_self _,(Sub.refl _),_,rfl,p⟩
     try dsimp only at p
     obtain rfl:=si p;exact Or.inr (⟨rfl,_,rfl,hret⟩)
    refine Goes.exit ?_;obtain rfl:=si p;exact Or.inl (⟨rfl,rfl,(Sub.keep [] rfl rfl)⟩)
  rintro x s' (⟨rfl,rfl,hsub⟩|⟨rfl,q118,rfl,hret⟩)
  ·try dsimp only at h
   refine Goes.sub hsub ?_;refine sh fol kBB ?_;refine Goes.ret ?_;obtain rfl:=si h;exact(gw2 [.bool true] (Ua tB))
  try dsimp only at h
  obtain rfl:=si h;exact hret
 try dsimp only at h
 obtain rfl:=si h;exact hret
end Go.Av
