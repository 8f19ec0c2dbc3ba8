/-
  The walk of the law.
-/
import Derived.Test.YtmjcpcnaaolliaaGreatDoorQGenW4
import Derived.Test.YtmjcpcnaaolliaaGreatDoorAvAwkW
noncomputable section
namespace Go.Av
open Go.Proofs Go.RowKit
set_option linter.unusedSectionVars false
set_option linter.unusedVariables false
set_option linter.unusedSimpArgs false
set_option maxRecDepth 100000
def awk:Option Bool:=some true
theorem qmY {res:Bool} (h:awk=some res):qb ZT (.fn 22) [] [] (.bool res) []:=by
 obtain rfl:=si h
 exact qqr
def qG (N:Nat) (n:Str) (d:Str) (e:Str) (a:Int):Nat->Int->Int->Option (Int⊕Bool)
 |0,_,_=>none
 |K+1,b,c=>
  if c<=a then
  (((qcJ N c a).bind fun g=>
  if(!decide (g=1))=true then
  some (.inl b)
  else
  (qcD N c a).bind fun h=>
  (qaL N e h).bind fun i=>
  (qak N n i).bind fun j=>
  (yS j).bind fun k=>
  (qcT N k d).bind fun f=>
  if f<0 then
  some (.inr false)
  else
  if f=0 then
  some (.inl (w64 (b+1)))
  else
  some (.inl b):Option (Int⊕Bool))).bind (fun
  |(.inl l)=>
  qG N n d e a K l (w64 (c+1))
  |(.inr m)=>
  some (.inr m))
  else
  some (.inl b)
def qF (N:Nat) (g:Str) (most:Int) (b:Str) (c:Str):Nat->Int->Int->Option (Int⊕Bool)
 |0,_,_=>none
 |K+1,d,a=>
  if a<=most then
  (qG N g b c a N d 0).bind (fun
  |(.inl e)=>
  qF N g most b c K e (w64 (a+1))
  |(.inr f)=>
  some (.inr f))
  else
  some (.inl d)
def jf (N:Nat) (c:Str) (most:Int) (move:Int):Option Bool:=
 ((qcU N c 5).bind fun z=>
 if(!z)=true then
 some true
 else
 if most<1 then
 some true
 else
 if most>12 then
 some true
 else
 if move<(-1000)then
 some true
 else
 some (decide (move>1000)):Option Bool).bind fun A=>
 if A=true then
 (awk).bind fun B=>
 some B
 else
 (yh N c most).bind fun a=>
 (yM c).bind fun g=>
 (yh N g most).bind fun b=>
 (xD N move).bind fun h=>
 (qaL N c h).bind fun i=>
 (yh N i most).bind fun d=>
 (if(!decide ((w64 ((w64 (a.2+b.2))+d.2))=0))=true then
 some true
 else
 (yY N a.1).bind fun j=>
 (yY N b.1).bind fun k=>
 (yY N d.1).bind fun l=>
 some (!decide ((w64 ((w64 (j+k))+l))=0)):Option Bool).bind fun m=>
 if m=true then
 some false
 else
 (qak N c a.1).bind fun n=>
 (yS n).bind fun e=>
 (qbt N c).bind fun o=>
 (qF N c most e o N 0 1).bind (fun
 |(.inl f)=>
 (if f=0 then
 some true
 else
 (yM c).bind fun p=>
 (qak N p b.1).bind fun q=>
 (yS q).bind fun r=>
 if(!(r==e))=true then
 some true
 else
 if f=1 then
 (yM a.1).bind fun s=>
 some (!(b.1==s))
 else
 some false:Option Bool).bind fun t=>
 if t=true then
 some false
 else
 ((xD N move).bind fun u=>
 (qaL N a.1 u).bind fun v=>
 if(d.1==v)=true then
 (awk).bind fun w=>
 some w
 else
 some false:Option Bool).bind fun x=>
 some x
 |(.inr y)=>
 some y)
theorem qbb (N:Nat) (f:Str) (most:Int) (move:Int) {res:Bool} (h:jf N f most move=some res):qb ZT (.fn 4) [.str f,.i most,.i move] [] (.bool res) []:=by
 unfold jf at h
 refine Ub Tryz.func4 rfl rfl (m:=146) rfl (rs:=[.tmp 6]) rfl (l:=(kAK f most move [])) rfl ?_
 refine sh fol (kAK f most move []) ?_
 refine sq ?_
 refine sq ?_
 obtain⟨b6,e,h⟩:=bnd h
 refine Goes.cut (s':=(ofG 146 (kAK f most move [(38,.bool b6)]),[])) ?_ ?_
 ·obtain⟨r1,r,e⟩:=bnd e
  rcases wyB e with⟨c2,e⟩|⟨c2,e⟩
  ·obtain rfl:=si e
   exact tr fol [1,3] (kAK f most move [(38,.bool true)]) (ac (cv (qaW N f 5 r)) (ac (gw c2) az))
  rcases wyD e with⟨c3,e⟩|⟨c3,e⟩
  ·obtain rfl:=si e
   exact tr fol [1,3,7] (kAK f most move [(38,.bool true)]) (ac (cv (qaW N f 5 r)) (ac (gw c2) (ac (gw c3) az)))
  rcases wyD e with⟨c4,e⟩|⟨c4,e⟩
  ·obtain rfl:=si e
   exact tr fol [1,3,7,11] (kAK f most move [(38,.bool true)]) (ac (cv (qaW N f 5 r)) (ac (gw c2) (ac (gw c3) (ac (gw c4) az))))
  rcases wyD e with⟨c5,e⟩|⟨c5,e⟩
  ·obtain rfl:=si e
   exact tr fol [1,3,7,11,15] (kAK f most move [(38,.bool true)]) (ac (cv (qaW N f 5 r)) (ac (gw c2) (ac (gw c3) (ac (gw c4) (ac (gw c5) az)))))
  obtain rfl:=si e
  exact tr fol [1,3,7,11,15] (kAK f most move [(38,.bool (decide (move>1000)))]) (ac (cv (qaW N f 5 r)) (ac (gw c2) (ac (gw c3) (ac (gw c4) (ac (gw c5) az)))))
 refine ihB h (fun c8 h=>?_) (fun c8 h=>?_)
 ·obtain⟨r9,e_r9,h⟩:=bnd h
  refine sq (gr fol [0] [(6,.bool r9)] (ac (cv (qmY e_r9)) az) ?_)
  refine Goes.ret ?_
  obtain rfl:=si h
  exact(gw2 [.bool r9] (Ua tB))
 refine Goes.skip ?_
 obtain⟨b,F,h⟩:=bnd h
 refine sq (gr fol [2] (kAK f most move [(7,.str b.1),(8,.i b.2)]) (ac (cv (qaZ N f most F)) az) ?_)
 obtain⟨r11,G,h⟩:=bnd h
 obtain⟨c,H,h⟩:=bnd h
 refine sq (gr fol [1,3] (kAK f most move [(7,.str b.1),(8,.i b.2),(9,.str c.1),(10,.i c.2)]) (ac (cv (qan f G)) (ac (cv (qaZ N r11 most H)) az)) ?_)
 obtain⟨r13,I,h⟩:=bnd h
 obtain⟨r14,J,h⟩:=bnd h
 obtain⟨d,K,h⟩:=bnd h
 refine sq (gr fol [2,3,5] (kAK f most move [(7,.str b.1),(8,.i b.2),(9,.str c.1),(10,.i c.2),(11,.str d.1),(12,.i d.2)]) (ac (cv (qbd N move I)) (ac (cv (qaS N f r13 J)) (ac (cv (qaZ N r14 most K)) az))) ?_)
 refine sq ?_
 refine sq ?_
 obtain⟨b20,k,h⟩:=bnd h
 refine Goes.cut (s':=(ofG 146 (kAK f most move [(7,.str b.1),(9,.str c.1),(11,.str d.1),(78,.bool b20)]),[])) ?_ ?_
 ·rcases wyB k with⟨L,k⟩|⟨L,k⟩
  ·obtain rfl:=si k
   exact tr fol [6] (kAK f most move [(7,.str b.1),(9,.str c.1),(11,.str d.1),(78,.bool true)]) (ac (gw L) az)
  obtain⟨r17,O,k⟩:=bnd k
  obtain⟨r18,P,k⟩:=bnd k
  obtain⟨r19,U,k⟩:=bnd k
  obtain rfl:=si k
  exact tr fol [6,8,10,13] (kAK f most move [(7,.str b.1),(9,.str c.1),(11,.str d.1),(78,.bool (!decide ((w64 ((w64 (r17+r18))+r19))=0)))]) (ac (gw L) (ac (cv (yJ N b.1 O)) (ac (cv (yJ N c.1 P)) (ac (cv (yJ N d.1 U)) az))))
 refine ihB h (fun c22 h=>?_) (fun c22 h=>?_)
 ·refine sh fol [(6,.bool false)] ?_
  refine Goes.ret ?_
  obtain rfl:=si h
  exact(gw2 [.bool false] (Ua tB))
 refine Goes.skip ?_
 obtain⟨r23,V,h⟩:=bnd h
 obtain⟨g,X,h⟩:=bnd h
 refine sq (gr fol [2,3] (kAK f most move [(7,.str b.1),(9,.str c.1),(11,.str d.1),(13,.str g)]) (ac (cv (qaj N f b.1 V)) (ac (cv (xq r23 X)) az)) ?_)
 obtain⟨n,Y,h⟩:=bnd h
 refine sq (gr fol [1] (kI f most move b.1 c.1 d.1 g n []) (ac (cv (qg9 N f Y)) az) ?_)
 refine sh fol (kI f most move b.1 c.1 d.1 g n [(15,.i 0)]) ?_
 refine sq ?_
 refine sh fol (kI f most move b.1 c.1 d.1 g n [(15,.i 0),(16,.i 1)]) ?_
 refine Goes.block ?_
 obtain⟨Z,g29,h⟩:=bnd h
 refine Goes.imp (Q:=fun x s'=>(x= .exit 0/\ ∃a0,(.inl a0)=Z/\Sub s' (ofG 146 (kA1 f [(2,.i move),(7,.str b.1),(9,.str c.1),(11,.str d.1),(13,.str g),(15,.i a0)]),[]))\/(x= .ret/\ ∃q30,(.inr q30)=Z/\jZ ZT [.tmp 6] (.bool q30) .ret s')) ?_ ?_
 ·refine Uc (fun M s=> ∃(w:Int) (j:Int),s=(ofG 146 (kI f most move b.1 c.1 d.1 g n (kAC w j [])),[])/\qF N f most g n M w j=some Z) ?_ (m:=N) ⟨_,_,rfl,g29⟩
  rintro M s ⟨w,j,rfl,g29⟩
  cases M with
  |zero=>simp only[qF]at g29;cases g29
  |succ M=>
   rw[qF]at g29
   refine sq ?_
   refine sh fol (kI f most move b.1 c.1 d.1 g n (kAC w j [(87,.bool (decide (j<=most)))])) ?_
   refine ihD g29 (fun c31 g29=>?_) (fun c31 g29=>?_)
   ·refine Goes.skip ?_
    refine sq (Goes.block ?_)
    refine sh fol (kI f most move b.1 c.1 d.1 g n (kAC w j [(17,.i 0)])) ?_
    refine Goes.block ?_
    obtain⟨a1,g35,g29⟩:=bnd g29
    refine Goes.imp (Q:=fun x s'=>(x= .exit 2/\ ∃y,(.inl y)=a1/\Sub s' (ofG 146 (kI f most move b.1 c.1 d.1 g n (kAC y j [])),[]))\/(x= .ret/\ ∃q36,(.inr q36)=a1/\jZ ZT [.tmp 6] (.bool q36) .ret s')) ?_ ?_
    ·refine Uc (fun M s=> ∃(q:Int) (p:Int),s=(ofG 146 (kI f most move b.1 c.1 d.1 g n (kAC q j [(17,.i p)])),[])/\qG N f g n j M q p=some a1) ?_ (m:=N) ⟨_,_,rfl,g35⟩
     rintro M s ⟨q,p,rfl,g35⟩
     cases M with
     |zero=>simp only[qG]at g35;cases g35
     |succ M=>
      rw[qG]at g35
      refine sq ?_
      refine sh fol (kI f most move b.1 c.1 d.1 g n (kAC q j [(17,.i p),(92,.bool (decide (p<=j)))])) ?_
      refine ihD g35 (fun c37 g35=>?_) (fun c37 g35=>?_)
      ·refine Goes.skip ?_
       refine sq ?_
       obtain⟨r39,g39,g35⟩:=bnd g35
       refine Goes.imp (Q:=fun x s'=>(x= .normal/\ ∃z,(.inl z)=r39/\Sub s' (ofG 146 (kI f most move b.1 c.1 d.1 g n (kAC z j [(17,.i p)])),[]))\/(x= .ret/\ ∃q40,(.inr q40)=r39/\jZ ZT [.tmp 6] (.bool q40) .ret s')) ?_ ?_
       ·refine Goes.block ?_
        refine sq ?_
        obtain⟨r41,a2,g39⟩:=bnd g39
        refine sq (gr fol [2] (kI f most move b.1 c.1 d.1 g n (kAC q j [(17,.i p),(98,.bool (!decide (r41=1)))])) (ac (cv (qiG N p j a2)) az) ?_)
        refine ihB g39 (fun c42 g39=>?_) (fun c42 g39=>?_)
        ·refine Goes.exit ?_
         obtain rfl:=si g39
         exact Or.inl (⟨rfl,_,rfl,(Sub.keep [0,1,2,7,9,11,13,14,15,16,17] rfl rfl)⟩)
        refine Goes.skip ?_
        obtain⟨r43,a3,g39⟩:=bnd g39
        obtain⟨r44,a4,g39⟩:=bnd g39
        refine sq (gr fol [3,4] (kI f most move b.1 c.1 d.1 g n (kAC q j [(17,.i p),(18,.str r44)])) (ac (cv (qf5 N p j a3)) (ac (cv (qaS N n r43 a4)) az)) ?_)
        obtain⟨r45,a5,g39⟩:=bnd g39
        obtain⟨r46,a6,g39⟩:=bnd g39
        obtain⟨D,a7,g39⟩:=bnd g39
        refine sq (gr fol [2,3,5] (kI f most move b.1 c.1 d.1 g n (kAC q j [(17,.i p),(19,.i D)])) (ac (cv (qaj N f r44 a5)) (ac (cv (xq r45 a6)) (ac (cv (qjf N r46 g a7)) az))) ?_)
        refine sq ?_
        refine sh fol (kI f most move b.1 c.1 d.1 g n (kAC q j [(17,.i p),(19,.i D),(111,.bool (decide (D<0)))])) ?_
        refine ihD g39 (fun c48 g39=>?_) (fun c48 g39=>?_)
        ·refine sh fol [(6,.bool false)] ?_
         refine Goes.ret ?_
         obtain rfl:=si g39
         exact Or.inr (⟨rfl,_,rfl,(gw2 [.bool false] (Ua tB))⟩)
        refine Goes.skip ?_
        refine sh fol (kI f most move b.1 c.1 d.1 g n (kAC q j [(17,.i p),(113,.bool (decide (D=0)))])) ?_
        refine ihD g39 (fun c49 g39=>?_) (fun c49 g39=>?_)
        ·refine gh fol (kI f most move b.1 c.1 d.1 g n (kAC (w64 (q+1)) j [(17,.i p)])) ?_
         obtain rfl:=si g39
         exact Or.inl (⟨rfl,_,rfl,(Sub.refl _)⟩)
        refine Goes.skip ?_
        obtain rfl:=si g39
        exact Or.inl (⟨rfl,_,rfl,(Sub.keep [0,1,2,7,9,11,13,14,15,16,17] rfl rfl)⟩)
       rintro x s' (⟨rfl,z,rfl,hsub⟩|⟨rfl,q50,rfl,hret⟩)
       ·try dsimp only at g35
        refine Goes.sub hsub ?_
        refine gh fol (kI f most move b.1 c.1 d.1 g n (kAC z j [(17,.i (w64 (p+1)))])) ?_
        exact⟨M,(ofG 146 (kI f most move b.1 c.1 d.1 g n (kAC z j [(17,.i (w64 (p+1)))])),[]),Nat.lt_succ_self _,(Sub.refl _),_,_,rfl,g35⟩
       try dsimp only at g35
       obtain rfl:=si g35
       exact Or.inr (⟨rfl,_,rfl,hret⟩)
      refine Goes.exit ?_
      obtain rfl:=si g35
      exact Or.inl (⟨rfl,_,rfl,(Sub.keep [0,1,2,7,9,11,13,14,15,16] rfl rfl)⟩)
    rintro x s' (⟨rfl,y,rfl,hsub⟩|⟨rfl,q51,rfl,hret⟩)
    ·try dsimp only at g29
     refine Goes.sub hsub ?_
     refine gh fol (kI f most move b.1 c.1 d.1 g n (kAC y (w64 (j+1)) [])) ?_
     exact⟨M,(ofG 146 (kI f most move b.1 c.1 d.1 g n (kAC y (w64 (j+1)) [])),[]),Nat.lt_succ_self _,(Sub.refl _),_,_,rfl,g29⟩
    try dsimp only at g29
    obtain rfl:=si g29
    exact Or.inr (⟨rfl,_,rfl,hret⟩)
   refine Goes.exit ?_
   obtain rfl:=si g29
   exact Or.inl (⟨rfl,_,rfl,(Sub.keep [0,2,7,9,11,13,15] rfl rfl)⟩)
 rintro x s' (⟨rfl,a0,rfl,hsub⟩|⟨rfl,q68,rfl,hret⟩)
 ·try dsimp only at h
  refine Goes.sub hsub ?_
  refine sq ?_
  refine sq ?_
  obtain⟨b59,a,h⟩:=bnd h
  refine Goes.cut (s':=(ofG 146 [(2,.i move),(7,.str b.1),(11,.str d.1),(136,.bool b59)],[])) ?_ ?_
  ·rcases wyD a with⟨A,a⟩|⟨A,a⟩
   ·obtain rfl:=si a
    exact tr fol [2] [(2,.i move),(7,.str b.1),(11,.str d.1),(136,.bool true)] (ac (gw A) az)
   obtain⟨a8,t,a⟩:=bnd a
   obtain⟨a9,u,a⟩:=bnd a
   obtain⟨r55,v,a⟩:=bnd a
   rcases wyB a with⟨E,a⟩|⟨E,a⟩
   ·obtain rfl:=si a
    exact tr fol [2,4,6,7,11] [(2,.i move),(7,.str b.1),(11,.str d.1),(136,.bool true)] (ac (gw A) (ac (cv (qan f t)) (ac (cv (qaj N a8 c.1 u)) (ac (cv (xq a9 v)) (ac (gw E) az)))))
   rcases wyD a with⟨b0,a⟩|⟨b0,a⟩
   ·obtain⟨r58,b1,a⟩:=bnd a
    obtain rfl:=si a
    exact tr fol [2,4,6,7,11,14,17] [(2,.i move),(7,.str b.1),(11,.str d.1),(136,.bool (!(c.1==r58)))] (ac (gw A) (ac (cv (qan f t)) (ac (cv (qaj N a8 c.1 u)) (ac (cv (xq a9 v)) (ac (gw E) (ac (gw b0) (ac (cv (qan b.1 b1)) az)))))))
   obtain rfl:=si a
   exact tr fol [2,4,6,7,11,14] [(2,.i move),(7,.str b.1),(11,.str d.1),(136,.bool false)] (ac (gw A) (ac (cv (qan f t)) (ac (cv (qaj N a8 c.1 u)) (ac (cv (xq a9 v)) (ac (gw E) (ac (gw b0) az))))))
  refine ihB h (fun c61 h=>?_) (fun c61 h=>?_)
  ·refine sh fol [(6,.bool false)] ?_
   refine Goes.ret ?_
   obtain rfl:=si h
   exact(gw2 [.bool false] (Ua tB))
  refine Goes.skip ?_
  refine sq ?_
  obtain⟨b66,o,h⟩:=bnd h
  refine Goes.cut (s':=(ofG 146 [(6,.bool b66)],[])) ?_ ?_
  ·obtain⟨r62,B,o⟩:=bnd o
   obtain⟨r63,C,o⟩:=bnd o
   rcases wyB o with⟨b2,o⟩|⟨b2,o⟩
   ·obtain⟨r65,b3,o⟩:=bnd o
    obtain rfl:=si o
    exact tr fol [3,4,6,7] [(6,.bool r65)] (ac (cv (qbd N move B)) (ac (cv (qaS N b.1 r62 C)) (ac (gw b2) (ac (cv (qmY b3)) az))))
   obtain rfl:=si o
   exact tr fol [3,4,6] [(6,.bool false)] (ac (cv (qbd N move B)) (ac (cv (qaS N b.1 r62 C)) (ac (gw b2) az)))
  refine Goes.ret ?_
  obtain rfl:=si h
  exact(gw2 [.bool b66] (Ua tB))
 try dsimp only at h
 obtain rfl:=si h
 exact hret
end Go.Av
