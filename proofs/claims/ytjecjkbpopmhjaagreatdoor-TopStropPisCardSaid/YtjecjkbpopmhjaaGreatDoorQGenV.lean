/-
  The walk of the law.
-/
import Derived.Test.YtjecjkbpopmhjaaGreatDoorQGenV4
import Derived.Test.YtjecjkbpopmhjaaGreatDoorAvAwkV
noncomputable section
namespace Go.Av
open Go.Proofs Go.RowKit
set_option linter.unusedSectionVars false
set_option linter.unusedVariables false
set_option linter.unusedSimpArgs false
set_option maxRecDepth 100000
def awk:Option Bool:=some true
theorem qmT {res:Bool} (h:awk=some res):qb ZT (.fn 6) [] [] (.bool res) []:=by
 obtain rfl:=si h
 exact qqg
def qA (N:Nat) (a:Str) (b:Str) (k:Int):Nat->Str->Str->Str->Str->Str->Str->Int->Int->Option (Unit⊕Bool)
 |0,_,_,_,_,_,_,_,_=>none
 |K+1,m,n,o,p,q,r,g,i=>
  if i<=(w64 (k+2))then
  (qbP N i).bind fun h=>
  (qbg N [50] a).bind fun s=>
  (xV s).bind fun t=>
  (vM N t h.1).bind fun d=>
  (qbg N a a).bind fun u=>
  (xV u).bind fun v=>
  (vM N v h.1).bind fun e=>
  (xV [50]).bind fun w=>
  (vM N w h.1).bind fun l=>
  (qbA N d.1 l.1).bind fun f=>
  (qbg N b b).bind fun x=>
  (xV x).bind fun y=>
  (vM N y h.1).bind fun j=>
  (if(!decide ((w64 ((w64 ((w64 ((w64 ((w64 (h.2+d.2))+e.2))+l.2))+f.2))+j.2))=0))=true then
  some true
  else
  (zZ N d.1).bind fun z=>
  (zZ N e.1).bind fun A=>
  (zZ N f.1).bind fun B=>
  (zZ N j.1).bind fun C=>
  if(!decide ((w64 ((w64 ((w64 (z+A))+B))+C))=0))=true then
  some true
  else
  (qcR N f.1 a).bind fun D=>
  some (!D):Option Bool).bind fun E=>
  if E=true then
  some (.inr false)
  else
  (if i>k then
  (jS N d.1 (⟨m,n⟩:qJ)).bind fun F=>
  if(!F)=true then
  some true
  else
  (jS N e.1 (⟨o,p⟩:qJ)).bind fun G=>
  if(!G)=true then
  some true
  else
  (jS N f.1 (⟨q,r⟩:qJ)).bind fun H=>
  some (!H)
  else
  some false:Option Bool).bind fun I=>
  if I=true then
  some (.inr false)
  else
  (xZ N e.1 j.1).bind fun c=>
  (if(!decide (c.2=0))=true then
  if(!decide (c.2=24))=true then
  some true
  else
  if g<2 then
  if(!decide (c.2=0))=true then
  some true
  else
  if(!decide (c.1=g))=true then
  some true
  else
  if c.2=0 then
  (vT N a b).bind fun J=>
  some (!decide (c.1=J))
  else
  some false
  else
  if c.2=0 then
  (vT N a b).bind fun L=>
  some (!decide (c.1=L))
  else
  some false
  else
  if g<2 then
  if(!decide (c.2=0))=true then
  some true
  else
  if(!decide (c.1=g))=true then
  some true
  else
  if c.2=0 then
  (vT N a b).bind fun M=>
  some (!decide (c.1=M))
  else
  some false
  else
  if c.2=0 then
  (vT N a b).bind fun O=>
  some (!decide (c.1=O))
  else
  some false:Option Bool).bind fun P=>
  if P=true then
  some (.inr false)
  else
  ((if c.2=0 then
  some c.1
  else
  some g:Option Int)).bind fun Q=>
  qA N a b k K d.1.Low d.1.High e.1.Low e.1.High f.1.Low f.1.High Q (w64 (i+1))
  else
  some (.inl ())
def yn (N:Nat) (a:Str) (b:Str) (k:Int):Option Bool:=
 ((qbR N a 4).bind fun g=>
 if(!g)=true then
 some true
 else
 (qbR N b 4).bind fun h=>
 if(!h)=true then
 some true
 else
 (yg a).bind fun i=>
 if i<=0 then
 some true
 else
 (yg b).bind fun j=>
 if j<=0 then
 some true
 else
 if k<1 then
 some true
 else
 some (decide (k>20)):Option Bool).bind fun c=>
 if c=true then
 (awk).bind fun d=>
 some d
 else
 (qA N a b k N [] [] [] [] [] [] 2 k).bind (fun
 |(.inl ())=>
 (awk).bind fun e=>
 some e
 |(.inr f)=>
 some f)
theorem qcC (N:Nat) (a:Str) (b:Str) (k:Int) {res:Bool} (h:yn N a b k=some res):qb ZT (.fn 4) [.str a,.str b,.i k] [] (.bool res) []:=by
 unfold yn at h
 refine Ub Tryz.func4 rfl rfl (m:=199) rfl (rs:=[.tmp 6]) rfl (l:=(kR a b (kBB k))) rfl ?_
 refine sh fol (kR a b (kBB k)) ?_
 refine sq ?_
 refine sq ?_
 obtain⟨b10,d,h⟩:=bnd h
 refine Goes.cut (s':=(ofG 199 (kR a b [(2,.i k),(51,.bool b10)]),[])) ?_ ?_
 ·obtain⟨r1,D,d⟩:=bnd d
  rcases wyB d with⟨c2,d⟩|⟨c2,d⟩
  ·obtain rfl:=si d
   exact tr fol [1,3] (kR a b (kBV k)) (ac (cv (jy N a 4 D)) (ac (gw c2) az))
  obtain⟨r3,E,d⟩:=bnd d
  rcases wyB d with⟨c4,d⟩|⟨c4,d⟩
  ·obtain rfl:=si d
   exact tr fol [1,3,5,8] (kR a b (kBV k)) (ac (cv (jy N a 4 D)) (ac (gw c2) (ac (cv (jy N b 4 E)) (ac (gw c4) az))))
  obtain⟨r5,J,d⟩:=bnd d
  rcases wyD d with⟨c6,d⟩|⟨c6,d⟩
  ·obtain rfl:=si d
   exact tr fol [1,3,5,8,10,13] (kR a b (kBV k)) (ac (cv (jy N a 4 D)) (ac (gw c2) (ac (cv (jy N b 4 E)) (ac (gw c4) (ac (cv (zV a J)) (ac (gw c6) az))))))
  obtain⟨r7,L,d⟩:=bnd d
  rcases wyD d with⟨c8,d⟩|⟨c8,d⟩
  ·obtain rfl:=si d
   exact tr fol [1,3,5,8,10,13,15,18] (kR a b (kBV k)) (ac (cv (jy N a 4 D)) (ac (gw c2) (ac (cv (jy N b 4 E)) (ac (gw c4) (ac (cv (zV a J)) (ac (gw c6) (ac (cv (zV b L)) (ac (gw c8) az))))))))
  rcases wyD d with⟨c9,d⟩|⟨c9,d⟩
  ·obtain rfl:=si d
   exact tr fol [1,3,5,8,10,13,15,18,22] (kR a b (kBV k)) (ac (cv (jy N a 4 D)) (ac (gw c2) (ac (cv (jy N b 4 E)) (ac (gw c4) (ac (cv (zV a J)) (ac (gw c6) (ac (cv (zV b L)) (ac (gw c8) (ac (gw c9) az)))))))))
  obtain rfl:=si d
  exact tr fol [1,3,5,8,10,13,15,18,22] (kR a b [(2,.i k),(51,.bool (decide (k>20)))]) (ac (cv (jy N a 4 D)) (ac (gw c2) (ac (cv (jy N b 4 E)) (ac (gw c4) (ac (cv (zV a J)) (ac (gw c6) (ac (cv (zV b L)) (ac (gw c8) (ac (gw c9) az)))))))))
 refine ihB h (fun c12 h=>?_) (fun c12 h=>?_)
 ·obtain⟨r13,e_r13,h⟩:=bnd h
  refine sq (gr fol [0] [(6,.bool r13)] (ac (cv (qmT e_r13)) az) ?_)
  refine Goes.ret ?_
  obtain rfl:=si h
  exact(gw2 [.bool r13] (Ua tB))
 refine Goes.skip ?_
 refine sg fol (kR a b ((2,.i k)::(kBD []))) (kS (kS (kS []))) ?_
 refine sh fol (kR a b ((2,.i k)::(kBD [(10,.i 2)]))) ?_
 refine sq ?_
 refine sh fol (kR a b ((2,.i k)::(kBD [(10,.i 2),(11,.i k)]))) ?_
 refine Goes.block ?_
 obtain⟨r22,g22,h⟩:=bnd h
 refine Goes.imp (Q:=fun x s'=>(x= .exit 0/\(.inl ())=r22/\Sub s' (ofG 199 [],[]))\/(x= .ret/\ ∃q23,(.inr q23)=r22/\yj ZT [.tmp 6] (.bool q23) .ret s')) ?_ ?_
 ·refine Uc (fun M s=> ∃(t:Str) (u:Str) (w:Str) (y:Str) (z:Str) (A:Str) (n:Int) (e:Int),s=(ofG 199 (kC a b k n e []),(kB t u w y (kZ z A [])))/\qA N a b k M t u w y z A n e=some r22) ?_ (m:=N) ⟨_,_,_,_,_,_,_,_,rfl,g22⟩
  rintro M s ⟨t,u,w,y,z,A,n,e,rfl,g22⟩
  cases M with
  |zero=>simp only[qA]at g22;cases g22
  |succ M=>
   rw[qA]at g22
   refine sq ?_
   refine sh fol (kC a b k n e [(57,.bool (decide (e<=(w64 (k+2)))))]) ?_
   refine ihD g22 (fun c24 g22=>?_) (fun c24 g22=>?_)
   ·refine Goes.skip ?_
    refine sq (Goes.block ?_)
    obtain⟨q,e_r25,g22⟩:=bnd g22
    refine sq (gq fol [1] (kC a b k n e [(12,.ptr 3 0),(13,.i q.2)]) (kB t u w y (kB z A q.1.Low q.1.High [])) (ac (cv (qji N e e_r25)) az) ?_)
    obtain⟨r26,e_r26,g22⟩:=bnd g22
    obtain⟨r27,e_r27,g22⟩:=bnd g22
    obtain⟨o,e_r28,g22⟩:=bnd g22
    refine sq (gq fol [1,2,4] (kC a b k n e [(12,.ptr 3 0),(13,.i q.2),(14,.ptr 4 0),(15,.i o.2)]) (kB t u w y (kB z A q.1.Low q.1.High (kZ o.1.Low o.1.High []))) (ac (cv (qdp N [50] a e_r26)) (ac (cv (qa6 r26 e_r27)) (ac (cv (qaD N r27 q.1 e_r28)) az))) ?_)
    obtain⟨r29,e_r29,g22⟩:=bnd g22
    obtain⟨r30,e_r30,g22⟩:=bnd g22
    obtain⟨p,e_r31,g22⟩:=bnd g22
    refine sq (gq fol [2,3,5] (kC a b k n e ((12,.ptr 3 0)::(kBA q.2 o.2 p.2 []))) (kB t u w y (kB z A q.1.Low q.1.High (kB o.1.Low o.1.High p.1.Low p.1.High []))) (ac (cv (qdp N a a e_r29)) (ac (cv (qa6 r29 e_r30)) (ac (cv (qaD N r30 q.1 e_r31)) az))) ?_)
    obtain⟨r32,e_r32,g22⟩:=bnd g22
    obtain⟨v,e_r33,g22⟩:=bnd g22
    refine sq (gq fol [0,2] (kC a b k n e ((12,.ptr 3 0)::(kBA q.2 o.2 p.2 [(18,.ptr 6 0),(19,.i v.2)]))) (kB t u w y (kB z A q.1.Low q.1.High (kB o.1.Low o.1.High p.1.Low p.1.High (kZ v.1.Low v.1.High [])))) (ac (cv (qa6 [50] e_r32)) (ac (cv (qaD N r32 q.1 e_r33)) az)) ?_)
    obtain⟨r,e_r34,g22⟩:=bnd g22
    refine sq (gq fol [2] (kC a b k n e ((12,.ptr 3 0)::(kBA q.2 o.2 p.2 [(19,.i v.2),(20,.ptr 7 0),(21,.i r.2)]))) (kB t u w y (kB z A q.1.Low q.1.High (kB o.1.Low o.1.High p.1.Low p.1.High (kB v.1.Low v.1.High r.1.Low r.1.High [])))) (ac (cv (qgX N o.1 v.1 e_r34)) az) ?_)
    obtain⟨r35,e_r35,g22⟩:=bnd g22
    obtain⟨r36,e_r36,g22⟩:=bnd g22
    obtain⟨C,e_r37,g22⟩:=bnd g22
    refine sq (gq fol [2,3,5] (kC a b k n e (kBA q.2 o.2 p.2 [(19,.i v.2),(20,.ptr 7 0),(21,.i r.2),(22,.ptr 8 0),(23,.i C.2)])) (kB t u w y (kB z A q.1.Low q.1.High (kB o.1.Low o.1.High p.1.Low p.1.High (kB v.1.Low v.1.High r.1.Low r.1.High (kZ C.1.Low C.1.High []))))) (ac (cv (qdp N b b e_r35)) (ac (cv (qa6 r35 e_r36)) (ac (cv (qaD N r36 q.1 e_r37)) az))) ?_)
    refine sq ?_
    refine sq ?_
    obtain⟨b45,f,g22⟩:=bnd g22
    refine Goes.cut (s':=(ofG 199 (kC a b k n e (kP [(22,.ptr 8 0),(134,.bool b45)])),(kB t u w y (kB z A q.1.Low q.1.High (kB o.1.Low o.1.High p.1.Low p.1.High (kB v.1.Low v.1.High r.1.Low r.1.High (kZ C.1.Low C.1.High []))))))) ?_ ?_
    ·rcases wyB f with⟨a2,f⟩|⟨a2,f⟩
     ·obtain rfl:=si f
      exact tr fol [12] (kC a b k n e (kP [(22,.ptr 8 0),(134,.bool true)])) (ac (gw a2) az)
     obtain⟨r39,O,f⟩:=bnd f
     obtain⟨r40,P,f⟩:=bnd f
     obtain⟨r41,U,f⟩:=bnd f
     obtain⟨r42,V,f⟩:=bnd f
     rcases wyB f with⟨c43,f⟩|⟨c43,f⟩
     ·obtain rfl:=si f
      exact tr fol [12,14,16,19,22,26] (kC a b k n e (kP [(22,.ptr 8 0),(134,.bool true)])) (ac (gw a2) (ac (cv (zA N o.1 O)) (ac (cv (zA N p.1 P)) (ac (cv (zA N r.1 U)) (ac (cv (zA N C.1 V)) (ac (gw c43) az))))))
     obtain⟨r44,e_r44,f⟩:=bnd f
     obtain rfl:=si f
     exact tr fol [12,14,16,19,22,26,29] (kC a b k n e (kP [(22,.ptr 8 0),(134,.bool (!r44))])) (ac (gw a2) (ac (cv (zA N o.1 O)) (ac (cv (zA N p.1 P)) (ac (cv (zA N r.1 U)) (ac (cv (zA N C.1 V)) (ac (gw c43) (ac (cv (qiI N r.1 a e_r44)) az)))))))
    refine ihB g22 (fun c47 g22=>?_) (fun c47 g22=>?_)
    ·refine sh fol kBC ?_
     refine Goes.ret ?_
     obtain rfl:=si g22
     exact Or.inr (⟨rfl,_,rfl,(gw2 [.bool false] (Ua tB))⟩)
    refine Goes.skip ?_
    refine sq ?_
    refine sq ?_
    obtain⟨b54,g,g22⟩:=bnd g22
    refine Goes.cut (s':=(ofG 199 (kC a b k n e (kP [(22,.ptr 8 0),(155,.bool b54)])),(kB t u w y (kB z A q.1.Low q.1.High (kB o.1.Low o.1.High p.1.Low p.1.High (kB v.1.Low v.1.High r.1.Low r.1.High (kZ C.1.Low C.1.High []))))))) ?_ ?_
    ·rcases wyD g with⟨X,g⟩|⟨X,g⟩
     ·obtain⟨r49,G,g⟩:=bnd g
      rcases wyB g with⟨a3,g⟩|⟨a3,g⟩
      ·obtain rfl:=si g
       exact tr fol [3,6,8] (kC a b k n e (kP [(22,.ptr 8 0),(155,.bool true)])) (ac (gw X) (ac (cv (yx N o.1 (⟨t,u⟩:qJ) G)) (ac (gw a3) az)))
      obtain⟨r51,Y,g⟩:=bnd g
      rcases wyB g with⟨c52,g⟩|⟨c52,g⟩
      ·obtain rfl:=si g
       exact tr fol [3,6,8,11,14] (kC a b k n e (kP [(22,.ptr 8 0),(155,.bool true)])) (ac (gw X) (ac (cv (yx N o.1 (⟨t,u⟩:qJ) G)) (ac (gw a3) (ac (cv (yx N p.1 (⟨w,y⟩:qJ) Y)) (ac (gw c52) az)))))
      obtain⟨r53,e_r53,g⟩:=bnd g
      obtain rfl:=si g
      exact tr fol [3,6,8,11,14,17] (kC a b k n e (kP [(22,.ptr 8 0),(155,.bool (!r53))])) (ac (gw X) (ac (cv (yx N o.1 (⟨t,u⟩:qJ) G)) (ac (gw a3) (ac (cv (yx N p.1 (⟨w,y⟩:qJ) Y)) (ac (gw c52) (ac (cv (yx N r.1 (⟨z,A⟩:qJ) e_r53)) az))))))
     obtain rfl:=si g
     exact tr fol [3] (kC a b k n e (kP [(22,.ptr 8 0),(155,.bool false)])) (ac (gw X) az)
    refine ihB g22 (fun c56 g22=>?_) (fun c56 g22=>?_)
    ·refine sh fol kBC ?_
     refine Goes.ret ?_
     obtain rfl:=si g22
     exact Or.inr (⟨rfl,_,rfl,(gw2 [.bool false] (Ua tB))⟩)
    refine Goes.skip ?_
    obtain⟨j,e_r57,g22⟩:=bnd g22
    refine sq (gr fol [2] (kC a b k n e (kP (kA1 j.1 j.2 []))) (ac (cv (qfp N p.1 C.1 e_r57)) az) ?_)
    refine sq ?_
    refine sq ?_
    obtain⟨b74,c,g22⟩:=bnd g22
    refine Goes.cut (s':=(ofG 199 (kC a b k n e (kP (kA1 j.1 j.2 [(191,.bool b74)]))),(kB t u w y (kB z A q.1.Low q.1.High (kB o.1.Low o.1.High p.1.Low p.1.High (kB v.1.Low v.1.High r.1.Low r.1.High (kZ C.1.Low C.1.High []))))))) ?_ ?_
    ·rcases wyB c with⟨B,c⟩|⟨B,c⟩
     ·rcases wyB c with⟨F,c⟩|⟨F,c⟩
      ·obtain rfl:=si c
       exact tr fol [2,6] (kC a b k n e (kP (kA1 j.1 j.2 [(191,.bool true)]))) (ac (gw B) (ac (gw F) az))
      rcases wyD c with⟨H,c⟩|⟨H,c⟩
      ·rcases wyB c with⟨Z,c⟩|⟨Z,c⟩
       ·obtain rfl:=si c
        exact tr fol [2,6,9,12] (kC a b k n e (kP (kA1 j.1 j.2 [(191,.bool true)]))) (ac (gw B) (ac (gw F) (ac (gw H) (ac (gw Z) az))))
       rcases wyB c with⟨a4,c⟩|⟨a4,c⟩
       ·obtain rfl:=si c
        exact tr fol [2,6,9,12,19] (kC a b k n e (kP (kA1 j.1 j.2 [(191,.bool true)]))) (ac (gw B) (ac (gw F) (ac (gw H) (ac (gw Z) (ac (gw a4) az)))))
       rcases wyD c with⟨c63,c⟩|⟨c63,c⟩
       ·obtain⟨r64,e_r64,c⟩:=bnd c
        obtain rfl:=si c
        exact tr fol [2,6,9,12,19,22,26] (kC a b k n e (kP (kA1 j.1 j.2 [(191,.bool (!decide (j.1=r64)))]))) (ac (gw B) (ac (gw F) (ac (gw H) (ac (gw Z) (ac (gw a4) (ac (gw c63) (ac (cv (jr N a b e_r64)) az)))))))
       obtain rfl:=si c
       exact tr fol [2,6,9,12,19,22] (kC a b k n e (kP (kA1 j.1 j.2 [(191,.bool false)]))) (ac (gw B) (ac (gw F) (ac (gw H) (ac (gw Z) (ac (gw a4) (ac (gw c63) az))))))
      rcases wyD c with⟨c65,c⟩|⟨c65,c⟩
      ·obtain⟨r66,e_r66,c⟩:=bnd c
       obtain rfl:=si c
       exact tr fol [2,6,9,22,26] (kC a b k n e (kP (kA1 j.1 j.2 [(191,.bool (!decide (j.1=r66)))]))) (ac (gw B) (ac (gw F) (ac (gw H) (ac (gw c65) (ac (cv (jr N a b e_r66)) az)))))
      obtain rfl:=si c
      exact tr fol [2,6,9,22] (kC a b k n e (kP (kA1 j.1 j.2 [(191,.bool false)]))) (ac (gw B) (ac (gw F) (ac (gw H) (ac (gw c65) az))))
     rcases wyD c with⟨I,c⟩|⟨I,c⟩
     ·rcases wyB c with⟨a0,c⟩|⟨a0,c⟩
      ·obtain rfl:=si c
       exact tr fol [2,9,12] (kC a b k n e (kP (kA1 j.1 j.2 [(191,.bool true)]))) (ac (gw B) (ac (gw I) (ac (gw a0) az)))
      rcases wyB c with⟨a5,c⟩|⟨a5,c⟩
      ·obtain rfl:=si c
       exact tr fol [2,9,12,19] (kC a b k n e (kP (kA1 j.1 j.2 [(191,.bool true)]))) (ac (gw B) (ac (gw I) (ac (gw a0) (ac (gw a5) az))))
      rcases wyD c with⟨c70,c⟩|⟨c70,c⟩
      ·obtain⟨r71,e_r71,c⟩:=bnd c
       obtain rfl:=si c
       exact tr fol [2,9,12,19,22,26] (kC a b k n e (kP (kA1 j.1 j.2 [(191,.bool (!decide (j.1=r71)))]))) (ac (gw B) (ac (gw I) (ac (gw a0) (ac (gw a5) (ac (gw c70) (ac (cv (jr N a b e_r71)) az))))))
      obtain rfl:=si c
      exact tr fol [2,9,12,19,22] (kC a b k n e (kP (kA1 j.1 j.2 [(191,.bool false)]))) (ac (gw B) (ac (gw I) (ac (gw a0) (ac (gw a5) (ac (gw c70) az)))))
     rcases wyD c with⟨c72,c⟩|⟨c72,c⟩
     ·obtain⟨r73,e_r73,c⟩:=bnd c
      obtain rfl:=si c
      exact tr fol [2,9,22,26] (kC a b k n e (kP (kA1 j.1 j.2 [(191,.bool (!decide (j.1=r73)))]))) (ac (gw B) (ac (gw I) (ac (gw c72) (ac (cv (jr N a b e_r73)) az))))
     obtain rfl:=si c
     exact tr fol [2,9,22] (kC a b k n e (kP (kA1 j.1 j.2 [(191,.bool false)]))) (ac (gw B) (ac (gw I) (ac (gw c72) az)))
    refine ihB g22 (fun c76 g22=>?_) (fun c76 g22=>?_)
    ·refine sh fol kBC ?_
     refine Goes.ret ?_
     obtain rfl:=si g22
     exact Or.inr (⟨rfl,_,rfl,(gw2 [.bool false] (Ua tB))⟩)
    refine Goes.skip ?_
    refine sq ?_
    refine sh fol (kC a b k n e (kP [(24,.i j.1),(193,.bool (decide (j.2=0)))])) ?_
    obtain⟨r78,a1,g22⟩:=bnd g22
    refine Goes.imp (Q:=fun x s'=>(x= .normal/\ ∃K,K=r78/\Sub s' (ofG 199 (kC a b k K e [(14,.ptr 3 0),(16,.ptr 4 0),(20,.ptr 5 0)]),(kB t u w y (kB z A o.1.Low o.1.High (kB p.1.Low p.1.High r.1.Low r.1.High [])))))) ?_ ?_
    ·refine ihD a1 (fun c79 a1=>?_) (fun c79 a1=>?_)
     ·refine gh fol (kC a b k j.1 e (kP [])) ?_
      obtain rfl:=si a1
      exact⟨rfl,_,rfl,(Sub.norm [] [some 0,some 1,some 2,some 4,some 5,some 7] rfl rfl (.keep (.same nS) (.keep (.same nS) (.keep (.same nI) (.kp (.kp (.kp (.keep (.same nI) (.keep (.same nI) (.kp (.kp (.kp .nil))))))))))) (.kb rfl (.same sn) (.kb rfl (.same sn) (.kb rfl (.same sn) (.kb rfl (.same sn) (.kb rfl (.same sn) (.kb rfl (.same sn) .nil)))))))⟩
     refine Goes.skip ?_
     obtain rfl:=si a1
     exact⟨rfl,_,rfl,(Sub.norm [] [some 0,some 1,some 2,some 4,some 5,some 7] rfl rfl (.keep (.same nS) (.keep (.same nS) (.keep (.same nI) (.kp (.kp (.kp (.keep (.same nI) (.keep (.same nI) (.kp (.kp (.kp .nil))))))))))) (.kb rfl (.same sn) (.kb rfl (.same sn) (.kb rfl (.same sn) (.kb rfl (.same sn) (.kb rfl (.same sn) (.kb rfl (.same sn) .nil)))))))⟩
    rintro x s' ⟨rfl,K,rfl,hsub⟩
    refine Goes.sub hsub ?_
    refine Goes.rg fol (kC a b k K e []) (kB o.1.Low o.1.High p.1.Low p.1.High (kB r.1.Low r.1.High o.1.Low o.1.High (kB p.1.Low p.1.High r.1.Low r.1.High []))) ?_
    refine gh fol (kC a b k K (w64 (e+1)) []) ?_
    exact⟨M,(ofG 199 (kC a b k K (w64 (e+1)) []),(kB o.1.Low o.1.High p.1.Low p.1.High (kZ r.1.Low r.1.High []))),Nat.lt_succ_self _,(Sub.norm [] [some 0,some 1,some 2] rfl rfl (.keep (.same nS) (.keep (.same nS) (.keep (.same nI) (.kp (.kp (.kp (.keep (.same nI) (.keep (.same nI) .nil)))))))) (.kb rfl (.same sn) (.kb rfl (.same sn) (.kb rfl (.same sn) .nil)))),_,_,_,_,_,_,_,_,rfl,g22⟩
   refine Goes.exit ?_
   obtain rfl:=si g22
   exact Or.inl (⟨rfl,rfl,(Sub.norm [] [] rfl rfl .nil .nil)⟩)
 rintro x s' (⟨rfl,rfl,hsub⟩|⟨rfl,q81,rfl,hret⟩)
 ·try dsimp only at h
  refine Goes.sub hsub ?_
  obtain⟨r80,e_r80,h⟩:=bnd h
  refine sq (gr fol [0] [(6,.bool r80)] (ac (cv (qmT e_r80)) az) ?_)
  refine Goes.ret ?_
  obtain rfl:=si h
  exact(gw2 [.bool r80] (Ua tB))
 try dsimp only at h
 obtain rfl:=si h
 exact hret
end Go.Av
