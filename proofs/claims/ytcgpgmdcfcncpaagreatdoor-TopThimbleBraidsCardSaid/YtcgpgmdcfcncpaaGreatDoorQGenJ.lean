/-
  The walk of the law.
-/
import Derived.Test.YtcgpgmdcfcncpaaGreatDoorQGenJ5
import Derived.Test.YtcgpgmdcfcncpaaGreatDoorAvAwkJ
noncomputable section
namespace Go.Av
open Go.Proofs Go.RowKit
set_option linter.unusedSectionVars false
set_option linter.unusedVariables false
set_option linter.unusedSimpArgs false
set_option maxRecDepth 100000
def awk:Option Bool:=some true
theorem ql1 {res:Bool} (h:awk=some res):qb ZT (.fn 6) [] [] (.bool res) []:=by
 obtain rfl:=si h
 exact qsn
def qG (n:Int) (colours:List Int) (b:(List Int)×Int) (c:(List Int)×Int):Nat->Int->Option (Unit⊕Bool)
 |0,_=>none
 |K+1,a=>
  if a<n then
  (idx b.1 a).bind fun d=>
  (idx c.1 d).bind fun e=>
  (idx colours a).bind fun f=>
  if(!decide (e=f))=true then
  some (.inr false)
  else
  qG n colours b c K (w64 (a+1))
  else
  some (.inl ())
def qE (N:Nat) (n:Int) (w:List Int) (d:(List (List Int))×Int) (e:(List (List Int))×Int):Nat->Int->Option (Unit⊕Bool)
 |0,_=>none
 |K+1,b=>
  if b<(w.length:Int)then
  (cut w 0 b).bind fun j=>
  (qck N n j).bind fun c=>
  (if(!decide (c.2=0))=true then
  some true
  else
  if(!decide ((c.1.length:Int)=n))=true then
  some true
  else
  (yg N c.1).bind fun k=>
  if(!decide (k=0))=true then
  some true
  else
  (idx d.1 0).bind fun l=>
  (idx l b).bind fun h=>
  if h<0 then
  some true
  else
  if h>=n then
  some true
  else
  (idx e.1 0).bind fun m=>
  (idx m b).bind fun i=>
  if i<0 then
  some true
  else
  some (decide (i>=n)):Option Bool).bind fun o=>
  if o=true then
  some (.inr false)
  else
  (idx d.1 0).bind fun p=>
  (idx p b).bind fun q=>
  (idx c.1 q).bind fun f=>
  (idx e.1 0).bind fun r=>
  (idx r b).bind fun s=>
  (idx c.1 s).bind fun g=>
  ((idx w b).bind fun a=>
  if a>0 then
  if(!decide ((w64 (f+1))=a))=true then
  some true
  else
  if(!decide ((w64 (g+1))=(w64 (a+1))))=true then
  some true
  else
  if a<0 then
  if(!decide ((w64 (f+1))=(w64 (1-a))))=true then
  some true
  else
  some (!decide ((w64 (g+1))=(w64 (0-a))))
  else
  some false
  else
  if a<0 then
  if(!decide ((w64 (f+1))=(w64 (1-a))))=true then
  some true
  else
  some (!decide ((w64 (g+1))=(w64 (0-a))))
  else
  some false:Option Bool).bind fun t=>
  if t=true then
  some (.inr false)
  else
  qE N n w d e K (w64 (b+1))
  else
  some (.inl ())
def qD (N:Nat) (n:Int) (w:List Int) (d:(List Int)×Int):Nat->Int->Option (Unit⊕Bool)
 |0,_=>none
 |K+1,a=>
  if a<=4 then
  (xg N n w a).bind fun b=>
  (xg N n d.1 a).bind fun c=>
  (if(!decide (b.2=0))=true then
  some true
  else
  if(!decide (c.2=0))=true then
  some true
  else
  some (!decide (b.1=c.1)):Option Bool).bind fun e=>
  if e=true then
  some (.inr false)
  else
  qD N n w d K (w64 (a+1))
  else
  some (.inl ())
def jY (N:Nat) (n:Int) (w:List Int) (colours:List Int):Option Bool:=
 (if n<2 then
 some true
 else
 if n>6 then
 some true
 else
 if(w.length:Int)>10 then
 some true
 else
 (zO N n w).bind fun F=>
 if(!decide (F=0))=true then
 some true
 else
 if(colours.length:Int)>30 then
 some true
 else
 (yV N n colours).bind fun G=>
 some (!decide (G=0)):Option Bool).bind fun H=>
 if H=true then
 (awk).bind fun s=>
 some s
 else
 (qck N n w).bind fun a=>
 (qbe N n w colours).bind fun f=>
 (qaJ N n w).bind fun g=>
 (qbi N a.1).bind fun h=>
 (if(!decide (a.2=0))=true then
 some true
 else
 if(!decide (f.2=0))=true then
 some true
 else
 if(!decide (g.2=0))=true then
 some true
 else
 if(!decide (h.2=0))=true then
 some true
 else
 if(!decide ((a.1.length:Int)=n))=true then
 some true
 else
 (yg N a.1).bind fun t=>
 if(!decide (t=0))=true then
 some true
 else
 if(!decide ((f.1.length:Int)=n))=true then
 some true
 else
 if g.1<1 then
 some true
 else
 (qbM N h.1).bind fun u=>
 if(!decide (u=0))=true then
 some true
 else
 (qar N g.1).bind fun v=>
 (qdi N h.1 v).bind fun x=>
 (qas N x).bind fun y=>
 some (!y):Option Bool).bind fun z=>
 if z=true then
 some false
 else
 (qG n colours a f N 0).bind (fun
 |(.inl ())=>
 (qbS N n w).bind fun c=>
 (if(!decide (c.2=0))=true then
 some true
 else
 (zO N n c.1).bind fun A=>
 if(!decide (A=0))=true then
 some true
 else
 some (!decide ((c.1.length:Int)=(w.length:Int))):Option Bool).bind fun B=>
 if B=true then
 some false
 else
 (qa3 N n w 1).bind fun d=>
 (qa3 N n c.1 1).bind fun e=>
 (if(!decide (d.2=0))=true then
 some true
 else
 if(!decide (e.2=0))=true then
 some true
 else
 if(!decide ((d.1.length:Int)=1))=true then
 some true
 else
 if(!decide ((e.1.length:Int)=1))=true then
 some true
 else
 (idx d.1 0).bind fun C=>
 if(!decide ((C.length:Int)=(w.length:Int)))=true then
 some true
 else
 (idx e.1 0).bind fun D=>
 some (!decide ((D.length:Int)=(w.length:Int))):Option Bool).bind fun E=>
 if E=true then
 some false
 else
 (qE N n w d e N 0).bind (fun
 |(.inl ())=>
 (qbZ N n w).bind fun i=>
 (qaR N n i.1).bind fun b=>
 (if(!decide (i.2=0))=true then
 some true
 else
 if(!decide (b.2=0))=true then
 some (!decide (b.2=5))
 else
 some false:Option Bool).bind fun j=>
 if j=true then
 some false
 else
 (if(!decide (b.2=0))=true then
 some true
 else
 (zO N n b.1).bind fun k=>
 some (!decide (k=0)):Option Bool).bind fun l=>
 if l=true then
 (awk).bind fun m=>
 some m
 else
 (qD N n w b N 1).bind (fun
 |(.inl ())=>
 (awk).bind fun o=>
 some o
 |(.inr p)=>
 some p)
 |(.inr q)=>
 some q)
 |(.inr r)=>
 some r)
theorem qcF (N:Nat) (n:Int) (w:List Int) (colours:List Int) {res:Bool} (h:jY N n w colours=some res):qb ZT (.fn 3) (.i n::vl encI w::(kA1 colours)) [] (.bool res) []:=by
 unfold jY at h
 refine Ub Tryz.func3 rfl rfl (m:=414) rfl (rs:=[.tmp 6]) rfl (l:=(kE n w [(2,vl encI colours)])) rfl ?_
 refine sh fol (kE n w [(2,vl encI colours)]) ?_
 refine sq ?_
 refine sq ?_
 obtain⟨b8,f,h⟩:=bnd h
 refine Goes.cut (s':=(ofG 414 (kE n w [(2,vl encI colours),(63,.bool b8)]),[])) ?_ ?_
 ·rcases wyD f with⟨c1,f⟩|⟨c1,f⟩
  ·obtain rfl:=si f
   exact tr fol [2] (kE n w (kBp colours)) (ac (gw c1) az)
  rcases wyD f with⟨c2,f⟩|⟨c2,f⟩
  ·obtain rfl:=si f
   exact tr fol [2,6] (kE n w (kBp colours)) (ac (gw c1) (ac (gw c2) az))
  rcases wyD f with⟨c3,f⟩|⟨c3,f⟩
  ·obtain rfl:=si f
   exact tr fol [2,6,11] (kE n w (kBp colours)) (ac (gw c1) (ac (gw c2) (ac (gw c3) az)))
  obtain⟨r4,a8,f⟩:=bnd f
  rcases wyB f with⟨c5,f⟩|⟨c5,f⟩
  ·obtain rfl:=si f
   exact tr fol [2,6,11,14,17] (kE n w (kBp colours)) (ac (gw c1) (ac (gw c2) (ac (gw c3) (ac (cv (jM N n w a8)) (ac (gw c5) az)))))
  rcases wyD f with⟨c6,f⟩|⟨c6,f⟩
  ·obtain rfl:=si f
   exact tr fol [2,6,11,14,17,22] (kE n w (kBp colours)) (ac (gw c1) (ac (gw c2) (ac (gw c3) (ac (cv (jM N n w a8)) (ac (gw c5) (ac (gw c6) az))))))
  obtain⟨r7,e_r7,f⟩:=bnd f
  obtain rfl:=si f
  exact tr fol [2,6,11,14,17,22,25] (kE n w [(2,vl encI colours),(63,.bool (!decide (r7=0)))]) (ac (gw c1) (ac (gw c2) (ac (gw c3) (ac (cv (jM N n w a8)) (ac (gw c5) (ac (gw c6) (ac (cv (qe3 N n colours e_r7)) az)))))))
 refine ihB h (fun c10 h=>?_) (fun c10 h=>?_)
 ·obtain⟨r11,e_r11,h⟩:=bnd h
  refine sq (gr fol [0] [(6,.bool r11)] (ac (cv (ql1 e_r11)) az) ?_)
  refine Goes.ret ?_
  obtain rfl:=si h
  exact(gw2 [.bool r11] (Ua tB))
 refine Goes.skip ?_
 obtain⟨p,e_r12,h⟩:=bnd h
 refine sq (gr fol [2] (kE n w ((2,vl encI colours)::(kBd p.1 [(8,.i p.2)]))) (ac (cv (qf5 N n w e_r12)) az) ?_)
 obtain⟨v,e_r13,h⟩:=bnd h
 refine sq (gr fol [3] (kE n w ((2,vl encI colours)::(kBd p.1 ((8,.i p.2)::(kAg v.1 v.2 []))))) (ac (cv (qhk N n w colours e_r13)) az) ?_)
 obtain⟨a9,e_r14,h⟩:=bnd h
 refine sq (gr fol [2] (kE n w ((2,vl encI colours)::(kBd p.1 ((8,.i p.2)::(kAg v.1 v.2 [(11,.i a9.1),(12,.i a9.2)]))))) (ac (cv (qgB N n w e_r14)) az) ?_)
 obtain⟨b0,e_r15,h⟩:=bnd h
 refine sq (gr fol [1] (kE n w ((2,vl encI colours)::(kBd p.1 ((8,.i p.2)::(kAg v.1 v.2 [(11,.i a9.1),(12,.i a9.2),(13,.str b0.1),(14,.i b0.2)]))))) (ac (cv (qgY N p.1 e_r15)) az) ?_)
 refine sq ?_
 refine sq ?_
 obtain⟨b30,b,h⟩:=bnd h
 refine Goes.cut (s':=(ofG 414 (kE n w (kAD colours p.1 v.1 [(136,.bool b30)])),[])) ?_ ?_
 ·rcases wyB b with⟨I,b⟩|⟨I,b⟩
  ·obtain rfl:=si b
   exact tr fol [2] (kE n w (kAD colours p.1 v.1 kBW)) (ac (gw I) az)
  rcases wyB b with⟨O,b⟩|⟨O,b⟩
  ·obtain rfl:=si b
   exact tr fol [2,6] (kE n w (kAD colours p.1 v.1 kBW)) (ac (gw I) (ac (gw O) az))
  rcases wyB b with⟨T,b⟩|⟨T,b⟩
  ·obtain rfl:=si b
   exact tr fol [2,6,10] (kE n w (kAD colours p.1 v.1 kBW)) (ac (gw I) (ac (gw O) (ac (gw T) az)))
  rcases wyB b with⟨X,b⟩|⟨X,b⟩
  ·obtain rfl:=si b
   exact tr fol [2,6,10,14] (kE n w (kAD colours p.1 v.1 kBW)) (ac (gw I) (ac (gw O) (ac (gw T) (ac (gw X) az))))
  rcases wyB b with⟨a0,b⟩|⟨a0,b⟩
  ·obtain rfl:=si b
   exact tr fol [2,6,10,14,20] (kE n w (kAD colours p.1 v.1 kBW)) (ac (gw I) (ac (gw O) (ac (gw T) (ac (gw X) (ac (gw a0) az)))))
  obtain⟨r21,J,b⟩:=bnd b
  rcases wyB b with⟨a4,b⟩|⟨a4,b⟩
  ·obtain rfl:=si b
   exact tr fol [2,6,10,14,20,22,25] (kE n w (kAD colours p.1 v.1 kBW)) (ac (gw I) (ac (gw O) (ac (gw T) (ac (gw X) (ac (gw a0) (ac (cv (zg N p.1 J)) (ac (gw a4) az)))))))
  rcases wyB b with⟨b1,b⟩|⟨b1,b⟩
  ·obtain rfl:=si b
   exact tr fol [2,6,10,14,20,22,25,31] (kE n w (kAD colours p.1 v.1 kBW)) (ac (gw I) (ac (gw O) (ac (gw T) (ac (gw X) (ac (gw a0) (ac (cv (zg N p.1 J)) (ac (gw a4) (ac (gw b1) az))))))))
  rcases wyD b with⟨d8,b⟩|⟨d8,b⟩
  ·obtain rfl:=si b
   exact tr fol [2,6,10,14,20,22,25,31,35] (kE n w (kAD colours p.1 v.1 kBW)) (ac (gw I) (ac (gw O) (ac (gw T) (ac (gw X) (ac (gw a0) (ac (cv (zg N p.1 J)) (ac (gw a4) (ac (gw b1) (ac (gw d8) az)))))))))
  obtain⟨r25,b2,b⟩:=bnd b
  rcases wyB b with⟨c26,b⟩|⟨c26,b⟩
  ·obtain rfl:=si b
   exact tr fol [2,6,10,14,20,22,25,31,35,37,40] (kE n w (kAD colours p.1 v.1 kBW)) (ac (gw I) (ac (gw O) (ac (gw T) (ac (gw X) (ac (gw a0) (ac (cv (zg N p.1 J)) (ac (gw a4) (ac (gw b1) (ac (gw d8) (ac (cv (qfC N b0.1 b2)) (ac (gw c26) az)))))))))))
  obtain⟨r27,e_r27,b⟩:=bnd b
  obtain⟨r28,e_r28,b⟩:=bnd b
  obtain⟨r29,e_r29,b⟩:=bnd b
  obtain rfl:=si b
  exact tr fol [2,6,10,14,20,22,25,31,35,37,40,43,44,45] (kE n w (kAD colours p.1 v.1 [(136,.bool (!r29))])) (ac (gw I) (ac (gw O) (ac (gw T) (ac (gw X) (ac (gw a0) (ac (cv (zg N p.1 J)) (ac (gw a4) (ac (gw b1) (ac (gw d8) (ac (cv (qfC N b0.1 b2)) (ac (gw c26) (ac (cv (qhu N a9.1 e_r27)) (ac (cv (qjR N b0.1 r27 e_r28)) (ac (cv (qhf N r28 e_r29)) az))))))))))))))
 refine ihB h (fun c32 h=>?_) (fun c32 h=>?_)
 ·refine sh fol kBh ?_
  refine Goes.ret ?_
  obtain rfl:=si h
  exact(gw2 [.bool false] (Ua tB))
 refine Goes.skip ?_
 refine sq ?_
 refine sh fol (kE n w (kAD colours p.1 v.1 [(137,.i n),(138,.i 0)])) ?_
 refine Goes.block ?_
 obtain⟨r34,C,h⟩:=bnd h
 refine Goes.imp (Q:=fun x s'=>(x= .exit 0/\(.inl ())=r34/\Sub s' (ofG 414 (kE n w []),[]))\/(x= .ret/\ ∃q35,(.inr q35)=r34/\kz ZT [.tmp 6] (.bool q35) .ret s')) ?_ ?_
 ·refine Uc (fun M s=> ∃(P:Int),s=(ofG 414 (kE n w (kAD colours p.1 v.1 [(137,.i n),(138,.i P)])),[])/\qG n colours p v M P=some r34) ?_ (m:=N) ⟨_,rfl,C⟩
  rintro M s ⟨P,rfl,C⟩
  cases M with
  |zero=>simp only[qG]at C;cases C
  |succ M=>
   rw[qG]at C
   refine sh fol (kE n w (kAD colours p.1 v.1 [(137,.i n),(138,.i P),(139,.bool (decide (P<n)))])) ?_
   refine sq ?_
   refine ihD C (fun c36 C=>?_) (fun c36 C=>?_)
   ·refine Goes.skip ?_
    refine sq (Goes.block ?_)
    refine sh fol (kE n w (kAD colours p.1 v.1 [(15,.i P),(137,.i n),(138,.i P)])) ?_
    obtain⟨x37,b3,C⟩:=bnd C
    obtain⟨x38,b4,C⟩:=bnd C
    obtain⟨x39,b5,C⟩:=bnd C
    refine sq (gr fol [3,4,5,6,9,10] (kE n w (kAD colours p.1 v.1 [(137,.i n),(138,.i P),(152,.bool (!decide (x38=x39)))])) (ac (iv qo encI b3) (ac (lv 0 ce3 encI b3 rfl) (ac (iv qo encI b4) (ac (lv 0 ce3 encI b4 rfl) (ac (iv qo encI b5) (ac (lv 0 ce3 encI b5 rfl) az)))))) ?_)
    refine ihB C (fun c40 C=>?_) (fun c40 C=>?_)
    ·refine sh fol kBh ?_
     refine Goes.ret ?_
     obtain rfl:=si C
     exact Or.inr (⟨rfl,_,rfl,(gw2 [.bool false] (Ua tB))⟩)
    refine Goes.skip ?_
    refine gh fol (kE n w (kAD colours p.1 v.1 [(137,.i n),(138,.i (w64 (P+1)))])) ?_
    exact⟨M,(ofG 414 (kE n w (kAD colours p.1 v.1 [(137,.i n),(138,.i (w64 (P+1)))])),[]),Nat.lt_succ_self _,(Sub.refl _),_,rfl,C⟩
   refine Goes.exit ?_
   obtain rfl:=si C
   exact Or.inl (⟨rfl,rfl,(Sub.keep [0,1] rfl rfl)⟩)
 rintro x s' (⟨rfl,rfl,hsub⟩|⟨rfl,q124,rfl,hret⟩)
 ·try dsimp only at h
  refine Goes.sub hsub ?_
  obtain⟨K,e_r41,h⟩:=bnd h
  refine sq (gr fol [2] (kE n w [(16,vl encI K.1),(17,.i K.2)]) (ac (cv (qhA N n w e_r41)) az) ?_)
  refine sq ?_
  refine sq ?_
  obtain⟨b45,A,h⟩:=bnd h
  refine Goes.cut (s':=(ofG 414 (kE n w [(16,vl encI K.1),(174,.bool b45)]),[])) ?_ ?_
  ·rcases wyB A with⟨d9,A⟩|⟨d9,A⟩
   ·obtain rfl:=si A
    exact tr fol [2] (kE n w [(16,vl encI K.1),(174,.bool true)]) (ac (gw d9) az)
   obtain⟨r43,b6,A⟩:=bnd A
   rcases wyB A with⟨c44,A⟩|⟨c44,A⟩
   ·obtain rfl:=si A
    exact tr fol [2,5,8] (kE n w [(16,vl encI K.1),(174,.bool true)]) (ac (gw d9) (ac (cv (jM N n K.1 b6)) (ac (gw c44) az)))
   obtain rfl:=si A
   exact tr fol [2,5,8] (kE n w [(16,vl encI K.1),(174,.bool (!decide ((K.1.length:Int)=(w.length:Int))))]) (ac (gw d9) (ac (cv (jM N n K.1 b6)) (ac (gw c44) az)))
  refine ihB h (fun c47 h=>?_) (fun c47 h=>?_)
  ·refine sh fol kBh ?_
   refine Goes.ret ?_
   obtain rfl:=si h
   exact(gw2 [.bool false] (Ua tB))
  refine Goes.skip ?_
  obtain⟨j,e_r48,h⟩:=bnd h
  refine sq (gr fol [2] (kE n w [(16,vl encI K.1),(18,vl (qd encI) j.1),(19,.i j.2)]) (ac (cv (qeV N n w 1 e_r48)) az) ?_)
  obtain⟨k,e_r49,h⟩:=bnd h
  refine sq (gr fol [2] (kE n w [(18,vl (qd encI) j.1),(19,.i j.2),(20,vl (qd encI) k.1),(21,.i k.2)]) (ac (cv (qeV N n K.1 1 e_r49)) az) ?_)
  refine sq ?_
  refine sq ?_
  obtain⟨b57,e,h⟩:=bnd h
  refine Goes.cut (s':=(ofG 414 (kE n w [(18,vl (qd encI) j.1),(20,vl (qd encI) k.1),(220,.bool b57)]),[])) ?_ ?_
  ·rcases wyB e with⟨a1,e⟩|⟨a1,e⟩
   ·obtain rfl:=si e
    exact tr fol [2] (kE n w [(18,vl (qd encI) j.1),(20,vl (qd encI) k.1),(220,.bool true)]) (ac (gw a1) az)
   rcases wyB e with⟨a5,e⟩|⟨a5,e⟩
   ·obtain rfl:=si e
    exact tr fol [2,6] (kE n w [(18,vl (qd encI) j.1),(20,vl (qd encI) k.1),(220,.bool true)]) (ac (gw a1) (ac (gw a5) az))
   rcases wyB e with⟨b7,e⟩|⟨b7,e⟩
   ·obtain rfl:=si e
    exact tr fol [2,6,11] (kE n w [(18,vl (qd encI) j.1),(20,vl (qd encI) k.1),(220,.bool true)]) (ac (gw a1) (ac (gw a5) (ac (gw b7) az)))
   rcases wyB e with⟨e0,e⟩|⟨e0,e⟩
   ·obtain rfl:=si e
    exact tr fol [2,6,11,16] (kE n w [(18,vl (qd encI) j.1),(20,vl (qd encI) k.1),(220,.bool true)]) (ac (gw a1) (ac (gw a5) (ac (gw b7) (ac (gw e0) az))))
   obtain⟨x54,U,e⟩:=bnd e
   rcases wyB e with⟨c55,e⟩|⟨c55,e⟩
   ·obtain rfl:=si e
    exact tr fol [2,6,11,16,18,19,25] (kE n w [(18,vl (qd encI) j.1),(20,vl (qd encI) k.1),(220,.bool true)]) (ac (gw a1) (ac (gw a5) (ac (gw b7) (ac (gw e0) (ac (iv qdJ (qd encI) U) (ac (lv 0 qex (qd encI) U rfl) (ac (gw c55) az)))))))
   obtain⟨x56,b9,e⟩:=bnd e
   obtain rfl:=si e
   exact tr fol [2,6,11,16,18,19,25,27,28] (kE n w [(18,vl (qd encI) j.1),(20,vl (qd encI) k.1),(220,.bool (!decide ((x56.length:Int)=(w.length:Int))))]) (ac (gw a1) (ac (gw a5) (ac (gw b7) (ac (gw e0) (ac (iv qdJ (qd encI) U) (ac (lv 0 qex (qd encI) U rfl) (ac (gw c55) (ac (iv qdJ (qd encI) b9) (ac (lv 0 qex (qd encI) b9 rfl) az)))))))))
  refine ihB h (fun c59 h=>?_) (fun c59 h=>?_)
  ·refine sh fol kBh ?_
   refine Goes.ret ?_
   obtain rfl:=si h
   exact(gw2 [.bool false] (Ua tB))
  refine Goes.skip ?_
  refine sq ?_
  refine sh fol (kE n w [(18,vl (qd encI) j.1),(20,vl (qd encI) k.1),(222,.i (w.length:Int)),(223,.i 0)]) ?_
  refine Goes.block ?_
  obtain⟨r61,g,h⟩:=bnd h
  refine Goes.imp (Q:=fun x s'=>(x= .exit 2/\(.inl ())=r61/\Sub s' (ofG 414 (kE n w []),[]))\/(x= .ret/\ ∃q62,(.inr q62)=r61/\kz ZT [.tmp 6] (.bool q62) .ret s')) ?_ ?_
  ·refine Uc (fun M s=> ∃(o:Int),s=(ofG 414 (kE n w ((18,vl (qd encI) j.1)::(20,vl (qd encI) k.1)::(kA0 (w.length:Int) o []))),[])/\qE N n w j k M o=some r61) ?_ (m:=N) ⟨_,rfl,g⟩
   rintro M s ⟨o,rfl,g⟩
   cases M with
   |zero=>simp only[qE]at g;cases g
   |succ M=>
    rw[qE]at g
    refine sh fol (kE n w ((18,vl (qd encI) j.1)::(20,vl (qd encI) k.1)::(kA0 (w.length:Int) o [(224,.bool (decide (o<(w.length:Int))))]))) ?_
    refine sq ?_
    refine ihD g (fun c63 g=>?_) (fun c63 g=>?_)
    ·refine Goes.skip ?_
     refine sq (Goes.block ?_)
     refine sh fol (kE n w ((18,vl (qd encI) j.1)::(20,vl (qd encI) k.1)::(22,.i o)::(kA0 (w.length:Int) o []))) ?_
     obtain⟨s64,e_s64,g⟩:=bnd g
     obtain⟨F,e_r65,g⟩:=bnd g
     refine sq (gr fol [3,4] (kE n w ((18,vl (qd encI) j.1)::(20,vl (qd encI) k.1)::(22,.i o)::(23,vl encI F.1)::(24,.i F.2)::(kA0 (w.length:Int) o []))) (ac (hs (.done (.opt (zi ZT 22 (vl encI w) none (some (.i o)) none)) (vl encI s64)) (qkU qo (E:=encI) rfl none (some o) e_s64)) (ac (cv (qf5 N n s64 e_r65)) az)) ?_)
     refine sq ?_
     refine sq ?_
     obtain⟨b77,c,g⟩:=bnd g
     refine Goes.cut (s':=(ofG 414 (kE n w ((18,vl (qd encI) j.1)::(20,vl (qd encI) k.1)::(22,.i o)::(23,vl encI F.1)::(kA0 (w.length:Int) o [(284,.bool b77)]))),[])) ?_ ?_
     ·rcases wyB c with⟨Y,c⟩|⟨Y,c⟩
      ·obtain rfl:=si c
       exact tr fol [2] (kE n w ((18,vl (qd encI) j.1)::(20,vl (qd encI) k.1)::(kAb o F.1 (w.length:Int)))) (ac (gw Y) az)
      rcases wyB c with⟨a2,c⟩|⟨a2,c⟩
      ·obtain rfl:=si c
       exact tr fol [2,8] (kE n w ((18,vl (qd encI) j.1)::(20,vl (qd encI) k.1)::(kAb o F.1 (w.length:Int)))) (ac (gw Y) (ac (gw a2) az))
      obtain⟨r68,L,c⟩:=bnd c
      rcases wyB c with⟨a6,c⟩|⟨a6,c⟩
      ·obtain rfl:=si c
       exact tr fol [2,8,10,13] (kE n w ((18,vl (qd encI) j.1)::(20,vl (qd encI) k.1)::(kAb o F.1 (w.length:Int)))) (ac (gw Y) (ac (gw a2) (ac (cv (zg N F.1 L)) (ac (gw a6) az))))
      obtain⟨x70,r,c⟩:=bnd c
      obtain⟨x71,t,c⟩:=bnd c
      rcases wyD c with⟨c0,c⟩|⟨c0,c⟩
      ·obtain rfl:=si c
       exact tr fol [2,8,10,13,15,16,18,19,22] (kE n w ((18,vl (qd encI) j.1)::(20,vl (qd encI) k.1)::(kAb o F.1 (w.length:Int)))) (ac (gw Y) (ac (gw a2) (ac (cv (zg N F.1 L)) (ac (gw a6) (ac (iv qdJ (qd encI) r) (ac (lv 0 qex (qd encI) r rfl) (ac (iv qo encI t) (ac (lv 0 ce3 encI t rfl) (ac (gw c0) az)))))))))
      rcases wyD c with⟨e1,c⟩|⟨e1,c⟩
      ·obtain rfl:=si c
       exact tr fol [2,8,10,13,15,16,18,19,22,24,25,27,28,32] (kE n w ((18,vl (qd encI) j.1)::(20,vl (qd encI) k.1)::(kAb o F.1 (w.length:Int)))) (ac (gw Y) (ac (gw a2) (ac (cv (zg N F.1 L)) (ac (gw a6) (ac (iv qdJ (qd encI) r) (ac (lv 0 qex (qd encI) r rfl) (ac (iv qo encI t) (ac (lv 0 ce3 encI t rfl) (ac (gw c0) (ac (iv qdJ (qd encI) r) (ac (lv 0 qex (qd encI) r rfl) (ac (iv qo encI t) (ac (lv 0 ce3 encI t rfl) (ac (gw e1) az))))))))))))))
      obtain⟨x74,G,c⟩:=bnd c
      obtain⟨x75,H,c⟩:=bnd c
      rcases wyD c with⟨c76,c⟩|⟨c76,c⟩
      ·obtain rfl:=si c
       exact tr fol [2,8,10,13,15,16,18,19,22,24,25,27,28,32,34,35,37,38,41] (kE n w ((18,vl (qd encI) j.1)::(20,vl (qd encI) k.1)::(kAb o F.1 (w.length:Int)))) (ac (gw Y) (ac (gw a2) (ac (cv (zg N F.1 L)) (ac (gw a6) (ac (iv qdJ (qd encI) r) (ac (lv 0 qex (qd encI) r rfl) (ac (iv qo encI t) (ac (lv 0 ce3 encI t rfl) (ac (gw c0) (ac (iv qdJ (qd encI) r) (ac (lv 0 qex (qd encI) r rfl) (ac (iv qo encI t) (ac (lv 0 ce3 encI t rfl) (ac (gw e1) (ac (iv qdJ (qd encI) G) (ac (lv 0 qex (qd encI) G rfl) (ac (iv qo encI H) (ac (lv 0 ce3 encI H rfl) (ac (gw c76) az)))))))))))))))))))
      obtain rfl:=si c
      exact tr fol [2,8,10,13,15,16,18,19,22,24,25,27,28,32,34,35,37,38,41,43,44,46,47] (kE n w ((18,vl (qd encI) j.1)::(20,vl (qd encI) k.1)::(22,.i o)::(23,vl encI F.1)::(kA0 (w.length:Int) o [(284,.bool (decide (x75>=n)))]))) (ac (gw Y) (ac (gw a2) (ac (cv (zg N F.1 L)) (ac (gw a6) (ac (iv qdJ (qd encI) r) (ac (lv 0 qex (qd encI) r rfl) (ac (iv qo encI t) (ac (lv 0 ce3 encI t rfl) (ac (gw c0) (ac (iv qdJ (qd encI) r) (ac (lv 0 qex (qd encI) r rfl) (ac (iv qo encI t) (ac (lv 0 ce3 encI t rfl) (ac (gw e1) (ac (iv qdJ (qd encI) G) (ac (lv 0 qex (qd encI) G rfl) (ac (iv qo encI H) (ac (lv 0 ce3 encI H rfl) (ac (gw c76) (ac (iv qdJ (qd encI) G) (ac (lv 0 qex (qd encI) G rfl) (ac (iv qo encI H) (ac (lv 0 ce3 encI H rfl) az)))))))))))))))))))))))
     refine ihB g (fun c79 g=>?_) (fun c79 g=>?_)
     ·refine sh fol kBh ?_
      refine Goes.ret ?_
      obtain rfl:=si g
      exact Or.inr (⟨rfl,_,rfl,(gw2 [.bool false] (Ua tB))⟩)
     refine Goes.skip ?_
     obtain⟨x80,c4,g⟩:=bnd g
     obtain⟨x81,c7,g⟩:=bnd g
     obtain⟨x82,c8,g⟩:=bnd g
     obtain⟨x83,c9,g⟩:=bnd g
     obtain⟨x84,d0,g⟩:=bnd g
     obtain⟨x85,d1,g⟩:=bnd g
     refine sq (gr fol [2,3,5,6,7,8,12,13,15,16,17,18] (kE n w ((18,vl (qd encI) j.1)::(20,vl (qd encI) k.1)::(22,.i o)::(25,.i (w64 (x82+1)))::(26,.i (w64 (x85+1)))::(kA0 (w.length:Int) o []))) (ac (iv qdJ (qd encI) c4) (ac (lv 0 qex (qd encI) c4 rfl) (ac (iv qo encI c7) (ac (lv 0 ce3 encI c7 rfl) (ac (iv qo encI c8) (ac (lv 0 ce3 encI c8 rfl) (ac (iv qdJ (qd encI) c9) (ac (lv 0 qex (qd encI) c9 rfl) (ac (iv qo encI d0) (ac (lv 0 ce3 encI d0 rfl) (ac (iv qo encI d1) (ac (lv 0 ce3 encI d1 rfl) az)))))))))))) ?_)
     refine sq ?_
     obtain⟨b94,d,g⟩:=bnd g
     refine Goes.cut (s':=(ofG 414 (kE n w ((18,vl (qd encI) j.1)::(20,vl (qd encI) k.1)::(kA0 (w.length:Int) o [(351,.bool b94)]))),[])) ?_ ?_
     ·obtain⟨x86,a,d⟩:=bnd d
      rcases wyD d with⟨V,d⟩|⟨V,d⟩
      ·rcases wyB d with⟨a7,d⟩|⟨a7,d⟩
       ·obtain rfl:=si d
        exact tr fol [2,3,5,9,10,12] (kE n w ((18,vl (qd encI) j.1)::(20,vl (qd encI) k.1)::(kA0 (w.length:Int) o [(351,.bool true)]))) (ac (iv qo encI a) (ac (lv 0 ce3 encI a rfl) (ac (gw V) (ac (iv qo encI a) (ac (lv 0 ce3 encI a rfl) (ac (gw a7) az))))))
       rcases wyB d with⟨d2,d⟩|⟨d2,d⟩
       ·obtain rfl:=si d
        exact tr fol [2,3,5,9,10,12,16,17,22] (kE n w ((18,vl (qd encI) j.1)::(20,vl (qd encI) k.1)::(kA0 (w.length:Int) o [(351,.bool true)]))) (ac (iv qo encI a) (ac (lv 0 ce3 encI a rfl) (ac (gw V) (ac (iv qo encI a) (ac (lv 0 ce3 encI a rfl) (ac (gw a7) (ac (iv qo encI a) (ac (lv 0 ce3 encI a rfl) (ac (gw d2) az)))))))))
       rcases wyD d with⟨e2,d⟩|⟨e2,d⟩
       ·rcases wyB d with⟨c91,d⟩|⟨c91,d⟩
        ·obtain rfl:=si d
         exact tr fol [2,3,5,9,10,12,16,17,22,25,26,28,32,33,36] (kE n w ((18,vl (qd encI) j.1)::(20,vl (qd encI) k.1)::(kA0 (w.length:Int) o [(351,.bool true)]))) (ac (iv qo encI a) (ac (lv 0 ce3 encI a rfl) (ac (gw V) (ac (iv qo encI a) (ac (lv 0 ce3 encI a rfl) (ac (gw a7) (ac (iv qo encI a) (ac (lv 0 ce3 encI a rfl) (ac (gw d2) (ac (iv qo encI a) (ac (lv 0 ce3 encI a rfl) (ac (gw e2) (ac (iv qo encI a) (ac (lv 0 ce3 encI a rfl) (ac (gw c91) az)))))))))))))))
        obtain rfl:=si d
        exact tr fol [2,3,5,9,10,12,16,17,22,25,26,28,32,33,36,40,41] (kE n w ((18,vl (qd encI) j.1)::(20,vl (qd encI) k.1)::(kA0 (w.length:Int) o [(351,.bool (!decide ((w64 (x85+1))=(w64 (0-x86)))))]))) (ac (iv qo encI a) (ac (lv 0 ce3 encI a rfl) (ac (gw V) (ac (iv qo encI a) (ac (lv 0 ce3 encI a rfl) (ac (gw a7) (ac (iv qo encI a) (ac (lv 0 ce3 encI a rfl) (ac (gw d2) (ac (iv qo encI a) (ac (lv 0 ce3 encI a rfl) (ac (gw e2) (ac (iv qo encI a) (ac (lv 0 ce3 encI a rfl) (ac (gw c91) (ac (iv qo encI a) (ac (lv 0 ce3 encI a rfl) az)))))))))))))))))
       obtain rfl:=si d
       exact tr fol [2,3,5,9,10,12,16,17,22,25,26,28] (kE n w ((18,vl (qd encI) j.1)::(20,vl (qd encI) k.1)::(kA0 (w.length:Int) o [(351,.bool false)]))) (ac (iv qo encI a) (ac (lv 0 ce3 encI a rfl) (ac (gw V) (ac (iv qo encI a) (ac (lv 0 ce3 encI a rfl) (ac (gw a7) (ac (iv qo encI a) (ac (lv 0 ce3 encI a rfl) (ac (gw d2) (ac (iv qo encI a) (ac (lv 0 ce3 encI a rfl) (ac (gw e2) az))))))))))))
      rcases wyD d with⟨e3,d⟩|⟨e3,d⟩
      ·rcases wyB d with⟨c93,d⟩|⟨c93,d⟩
       ·obtain rfl:=si d
        exact tr fol [2,3,5,25,26,28,32,33,36] (kE n w ((18,vl (qd encI) j.1)::(20,vl (qd encI) k.1)::(kA0 (w.length:Int) o [(351,.bool true)]))) (ac (iv qo encI a) (ac (lv 0 ce3 encI a rfl) (ac (gw V) (ac (iv qo encI a) (ac (lv 0 ce3 encI a rfl) (ac (gw e3) (ac (iv qo encI a) (ac (lv 0 ce3 encI a rfl) (ac (gw c93) az)))))))))
       obtain rfl:=si d
       exact tr fol [2,3,5,25,26,28,32,33,36,40,41] (kE n w ((18,vl (qd encI) j.1)::(20,vl (qd encI) k.1)::(kA0 (w.length:Int) o [(351,.bool (!decide ((w64 (x85+1))=(w64 (0-x86)))))]))) (ac (iv qo encI a) (ac (lv 0 ce3 encI a rfl) (ac (gw V) (ac (iv qo encI a) (ac (lv 0 ce3 encI a rfl) (ac (gw e3) (ac (iv qo encI a) (ac (lv 0 ce3 encI a rfl) (ac (gw c93) (ac (iv qo encI a) (ac (lv 0 ce3 encI a rfl) az)))))))))))
      obtain rfl:=si d
      exact tr fol [2,3,5,25,26,28] (kE n w ((18,vl (qd encI) j.1)::(20,vl (qd encI) k.1)::(kA0 (w.length:Int) o [(351,.bool false)]))) (ac (iv qo encI a) (ac (lv 0 ce3 encI a rfl) (ac (gw V) (ac (iv qo encI a) (ac (lv 0 ce3 encI a rfl) (ac (gw e3) az))))))
     refine ihB g (fun c96 g=>?_) (fun c96 g=>?_)
     ·refine sh fol kBh ?_
      refine Goes.ret ?_
      obtain rfl:=si g
      exact Or.inr (⟨rfl,_,rfl,(gw2 [.bool false] (Ua tB))⟩)
     refine Goes.skip ?_
     refine gh fol (kE n w ((18,vl (qd encI) j.1)::(20,vl (qd encI) k.1)::(kA0 (w.length:Int) (w64 (o+1)) []))) ?_
     exact⟨M,(ofG 414 (kE n w ((18,vl (qd encI) j.1)::(20,vl (qd encI) k.1)::(kA0 (w.length:Int) (w64 (o+1)) []))),[]),Nat.lt_succ_self _,(Sub.refl _),_,rfl,g⟩
    refine Goes.exit ?_
    obtain rfl:=si g
    exact Or.inl (⟨rfl,rfl,(Sub.keep [0,1] rfl rfl)⟩)
  rintro x s' (⟨rfl,rfl,hsub⟩|⟨rfl,q123,rfl,hret⟩)
  ·try dsimp only at h
   refine Goes.sub hsub ?_
   obtain⟨W,e_r97,h⟩:=bnd h
   refine sq (gq fol [2] (kE n w [(27,.ptr 0 0),(28,.i W.2)]) [.cells [.i W.1.Half,vl (qd encI) W.1.Factors]] (ac (cv (qhB N n w e_r97)) az) ?_)
   obtain⟨u,e_r98,h⟩:=bnd h
   refine sq (gr fol [2] (kE n w [(28,.i W.2),(29,vl encI u.1),(30,.i u.2)]) (ac (cv (qiw N n W.1 e_r98)) az) ?_)
   refine sq ?_
   refine sq ?_
   obtain⟨b101,y,h⟩:=bnd h
   refine Goes.cut (s':=(ofG 414 (kE n w [(29,vl encI u.1),(30,.i u.2),(374,.bool b101)]),[.cells [.i W.1.Half,vl (qd encI) W.1.Factors]])) ?_ ?_
   ·rcases wyB y with⟨e4,y⟩|⟨e4,y⟩
    ·obtain rfl:=si y
     exact tr fol [2] (kE n w [(29,vl encI u.1),(30,.i u.2),(374,.bool true)]) (ac (gw e4) az)
    rcases wyB y with⟨d3,y⟩|⟨d3,y⟩
    ·obtain rfl:=si y
     exact tr fol [2,5] (kE n w [(29,vl encI u.1),(30,.i u.2),(374,.bool (!decide (u.2=5)))]) (ac (gw e4) (ac (gw d3) az))
    obtain rfl:=si y
    exact tr fol [2,5] (kE n w [(29,vl encI u.1),(30,.i u.2),(374,.bool false)]) (ac (gw e4) (ac (gw d3) az))
   refine ihB h (fun c103 h=>?_) (fun c103 h=>?_)
   ·refine sh fol kBh ?_
    refine Goes.ret ?_
    obtain rfl:=si h
    exact(gw2 [.bool false] (Ua tB))
   refine Goes.skip ?_
   refine sq ?_
   refine sq ?_
   obtain⟨b106,D,h⟩:=bnd h
   refine Goes.cut (s':=(ofG 414 (kE n w [(29,vl encI u.1),(382,.bool b106)]),[.cells [.i W.1.Half,vl (qd encI) W.1.Factors]])) ?_ ?_
   ·rcases wyB D with⟨d4,D⟩|⟨d4,D⟩
    ·obtain rfl:=si D
     exact tr fol [2] (kE n w [(29,vl encI u.1),(382,.bool true)]) (ac (gw d4) az)
    obtain⟨r105,e5,D⟩:=bnd D
    obtain rfl:=si D
    exact tr fol [2,5] (kE n w [(29,vl encI u.1),(382,.bool (!decide (r105=0)))]) (ac (gw d4) (ac (cv (jM N n u.1 e5)) az))
   refine ihB h (fun c108 h=>?_) (fun c108 h=>?_)
   ·obtain⟨f0,e6,h⟩:=bnd h
    refine sq (gr fol [0] [(6,.bool f0)] (ac (cv (ql1 e6)) az) ?_)
    refine Goes.ret ?_
    obtain rfl:=si h
    exact(gw2 [.bool f0] (Ua tB))
   refine Goes.skip ?_
   refine sq ?_
   refine sh fol (kE n w [(29,vl encI u.1),(31,.i 1)]) ?_
   refine Goes.block ?_
   obtain⟨d5,q,h⟩:=bnd h
   refine Goes.imp (Q:=fun x s'=>(x= .exit 4/\(.inl ())=d5/\Sub s' (ofG 414 [],[]))\/(x= .ret/\ ∃f1,(.inr f1)=d5/\kz ZT [.tmp 6] (.bool f1) .ret s')) ?_ ?_
   ·refine Goes.sub (s':=(ofG 414 (kE n w [(29,vl encI u.1),(31,.i 1)]),[])) (Sub.norm [] [] rfl rfl (.keep (.same nI) (.keep (.same (qf encI _)) (.keep (.same (qf encI _)) (.keep (.same nI) .nil)))) .nil) ?_
    refine Uc (fun M s=> ∃(B:Int),s=(ofG 414 (kE n w (kBb u.1 B [])),[])/\qD N n w u M B=some d5) ?_ (m:=N) ⟨_,rfl,q⟩
    rintro M s ⟨B,rfl,q⟩
    cases M with
    |zero=>simp only[qD]at q;cases q
    |succ M=>
     rw[qD]at q
     refine sq ?_
     refine sh fol (kE n w (kBb u.1 B [(385,.bool (decide (B<=4)))])) ?_
     refine ihD q (fun c113 q=>?_) (fun c113 q=>?_)
     ·refine Goes.skip ?_
      refine sq (Goes.block ?_)
      obtain⟨Z,e7,q⟩:=bnd q
      refine sq (gr fol [3] (kE n w (kBb u.1 B [(32,.i Z.1),(33,.i Z.2)])) (ac (cv (qdp N n w B e7)) az) ?_)
      obtain⟨d6,e8,q⟩:=bnd q
      refine sq (gr fol [3] (kE n w (kBb u.1 B [(32,.i Z.1),(33,.i Z.2),(34,.i d6.1),(35,.i d6.2)])) (ac (cv (qdp N n u.1 B e8)) az) ?_)
      refine sq ?_
      obtain⟨b118,z,q⟩:=bnd q
      refine Goes.cut (s':=(ofG 414 (kE n w (kBb u.1 B [(412,.bool b118)])),[])) ?_ ?_
      ·rcases wyB z with⟨a3,z⟩|⟨a3,z⟩
       ·obtain rfl:=si z
        exact tr fol [2] (kE n w (kBb u.1 B [(412,.bool true)])) (ac (gw a3) az)
       rcases wyB z with⟨d7,z⟩|⟨d7,z⟩
       ·obtain rfl:=si z
        exact tr fol [2,6] (kE n w (kBb u.1 B [(412,.bool true)])) (ac (gw a3) (ac (gw d7) az))
       obtain rfl:=si z
       exact tr fol [2,6] (kE n w (kBb u.1 B [(412,.bool (!decide (Z.1=d6.1)))])) (ac (gw a3) (ac (gw d7) az))
      refine ihB q (fun c120 q=>?_) (fun c120 q=>?_)
      ·refine sh fol kBh ?_
       refine Goes.ret ?_
       obtain rfl:=si q
       exact Or.inr (⟨rfl,_,rfl,(gw2 [.bool false] (Ua tB))⟩)
      refine Goes.skip ?_
      refine gh fol (kE n w (kBb u.1 (w64 (B+1)) [])) ?_
      exact⟨M,(ofG 414 (kE n w (kBb u.1 (w64 (B+1)) [])),[]),Nat.lt_succ_self _,(Sub.refl _),_,rfl,q⟩
     refine Goes.exit ?_
     obtain rfl:=si q
     exact Or.inl (⟨rfl,rfl,(Sub.keep [] rfl rfl)⟩)
   rintro x s' (⟨rfl,rfl,hsub⟩|⟨rfl,q122,rfl,hret⟩)
   ·try dsimp only at h
    refine Goes.sub hsub ?_
    obtain⟨f2,e9,h⟩:=bnd h
    refine sq (gr fol [0] [(6,.bool f2)] (ac (cv (ql1 e9)) az) ?_)
    refine Goes.ret ?_
    obtain rfl:=si h
    exact(gw2 [.bool f2] (Ua tB))
   try dsimp only at h
   obtain rfl:=si h
   exact hret
  try dsimp only at h
  obtain rfl:=si h
  exact hret
 try dsimp only at h
 obtain rfl:=si h
 exact hret
end Go.Av
