/-
  The walk of the law.
-/
import Derived.Test.YtkdbjocpkfeckaaGreatDoorQGenEr4
import Derived.Test.YtkdbjocpkfeckaaGreatDoorAvAwkB9
noncomputable section
namespace Go.Av
open Go.Proofs Go.RowKit
set_option linter.unusedSectionVars false
set_option linter.unusedVariables false
set_option linter.unusedSimpArgs false
set_option maxRecDepth 100000
def awk:Option Bool:=some true
theorem qkF {res:Bool} (h:awk=some res):qb ZT (.fn 6) [] [] (.bool res) []:=by
 obtain rfl:=si h;exact qsD
def qV (N:Nat) (n:Int) (a:List Int) (b:List Int) (e:Str×Int) (c:List Str):Nat->Int->Option (Unit⊕Bool)
 |0,_=>none
 |K+1,d=>
  if d<(c.length:Int)then
  (idx c d).bind fun f=>
  if(f==e.1)=true then
  some (.inr true)
  else
  (qH N n a b f).bind fun g=>
  if(!decide (g=21))=true then
  some (.inr false)
  else
  qV N n a b e c K (w64 (d+1))
  else
  some (.inl ())
def jr (N:Nat) (n:Int) (a:List Int) (b:List Int):Option Bool:=
 ((awk).bind fun m=>
 if(!m)=true then
 some true
 else
 (qbb N n a 4 7).bind fun o=>
 if(!o)=true then
 some true
 else
 (qbb N n b 4 7).bind fun p=>
 some (!p):Option Bool).bind fun q=>
 if q=true then
 (awk).bind fun r=>
 some r
 else
 (qbR N n a b).bind fun d=>
 (qau N n a b).bind fun e=>
 (qbe N n a b).bind fun c=>
 (if(!decide (d.2=0))=true then
 some true
 else
 if(!(d.1==(decide (e.2=0))))=true then
 some true
 else
 some (!(d.1==(decide (c.2=7)))):Option Bool).bind fun f=>
 if f=true then
 some false
 else
 if d.1=true then
 ((xq N n a b e.1).bind fun g=>
 if g=0 then
 some (c.1==[])
 else
 some false:Option Bool).bind fun h=>
 some h
 else
 (if(!decide (e.2=23))=true then
 some true
 else
 if(!decide (c.2=0))=true then
 some true
 else
 if(!decide ((e.1.length:Int)=0))=true then
 some true
 else
 (qH N n a b c.1).bind fun i=>
 some (!decide (i=0)):Option Bool).bind fun j=>
 if j=true then
 some false
 else
 (qc9).bind fun k=>
 (qV N n a b c k N 0).bind (fun
 |(.inl ())=>
 some false
 |(.inr l)=>
 some l)
theorem qey (N:Nat) (n:Int) (a:List Int) (b:List Int) {res:Bool} (h:jr N n a b=some res):qb ZT (.fn 4) (.i n::(kAs a b)) [] (.bool res) []:=by
 unfold jr at h;refine Ub Tryz.func4 rfl rfl (m:=111) rfl (rs:=[.tmp 6]) rfl (l:=(kE n a (kAS b []))) rfl ?_;refine sh fol (kE n a (kAS b [])) ?_;refine sq ?_;refine sq ?_;obtain⟨b6,e,h⟩:=bnd h;refine Goes.cut (s':=(ofG 111 (kE n a (kAS b [(28,.bool b6)])),[])) ?_ ?_
 ·obtain⟨r1,q,e⟩:=bnd e;rcases wyB e with⟨U,e⟩|⟨U,e⟩
  ·obtain rfl:=si e;exact tr fol [0,2] (kE n a (kAS b [(28,.bool true)])) (ac (cv (qkF q)) (ac (gw U) az))
  obtain⟨r3,z,e⟩:=bnd e;rcases wyB e with⟨V,e⟩|⟨V,e⟩
  ·obtain rfl:=si e;exact tr fol [0,2,5,8] (kE n a (kAS b [(28,.bool true)])) (ac (cv (qkF q)) (ac (gw U) (ac (cv (qdU N n a 4 7 z)) (ac (gw V) az))))
  obtain⟨r5,K,e⟩:=bnd e;obtain rfl:=si e;exact tr fol [0,2,5,8,11] (kE n a (kAS b [(28,.bool (!r5))])) (ac (cv (qkF q)) (ac (gw U) (ac (cv (qdU N n a 4 7 z)) (ac (gw V) (ac (cv (qdU N n b 4 7 K)) az)))))
 refine ihB h (fun c8 h=>?_) (fun c8 h=>?_)
 ·obtain⟨r9,L,h⟩:=bnd h;refine sq (gr fol [0] [(6,.bool r9)] (ac (cv (qkF L)) az) ?_);refine Goes.ret ?_;obtain rfl:=si h;exact(gw2 [.bool r9] (Ua tB))
 refine Goes.skip ?_;obtain⟨o,A,h⟩:=bnd h;refine sq (gr fol [3] (kE n a (kAS b ((7,.bool o.1)::(kAp o.2)))) (ac (cv (qif N n a b A)) az) ?_);obtain⟨j,B,h⟩:=bnd h;refine sq (gr fol [3] (kE n a (kAS b [(7,.bool o.1),(8,.i o.2),(9,vl qO j.1),(10,.i j.2)])) (ac (cv (qiJ N n a b B)) az) ?_);obtain⟨d,C,h⟩:=bnd h;refine sq (gr fol [3] (kE n a (kAS b ((7,.bool o.1)::(8,.i o.2)::(kAk j.1 j.2 d.1 d.2 [])))) (ac (cv (qg6 N n a b C)) az) ?_);refine sq ?_;refine sq ?_;obtain⟨X,f,h⟩:=bnd h;refine Goes.cut (s':=(ofG 111 (kE n a (kAS b ((7,.bool o.1)::(kAk j.1 j.2 d.1 d.2 [(64,.bool X)])))),[])) ?_ ?_
 ·rcases wyB f with⟨v,f⟩|⟨v,f⟩
  ·obtain rfl:=si f;exact tr fol [2] (kE n a (kAS b ((7,.bool o.1)::(kAk j.1 j.2 d.1 d.2 [(64,.bool true)])))) (ac (gw v) az)
  rcases wyB f with⟨D,f⟩|⟨D,f⟩
  ·obtain rfl:=si f;exact tr fol [2,8] (kE n a (kAS b ((7,.bool o.1)::(kAk j.1 j.2 d.1 d.2 [(64,.bool true)])))) (ac (gw v) (ac (gw D) az))
  obtain rfl:=si f;exact tr fol [2,8] (kE n a (kAS b ((7,.bool o.1)::(kAk j.1 j.2 d.1 d.2 [(64,.bool (!(o.1==(decide (d.2=7)))))])))) (ac (gw v) (ac (gw D) az))
 refine ihB h (fun Y h=>?_) (fun Y h=>?_)
 ·refine sh fol kAh ?_;refine Goes.ret ?_;obtain rfl:=si h;exact(gw2 [.bool false] (Ua tB))
 refine Goes.skip ?_;refine sq ?_;refine sh fol (kE n a (kAS b (kAk j.1 j.2 d.1 d.2 [(65,.bool o.1)]))) ?_;refine ihB h (fun Z h=>?_) (fun Z h=>?_)
 ·refine sq ?_;obtain⟨O,k,h⟩:=bnd h;refine Goes.cut (s':=(ofG 111 [(6,.bool O)],[])) ?_ ?_
  ·obtain⟨r19,r,k⟩:=bnd k;rcases wyD k with⟨E,k⟩|⟨E,k⟩
   ·obtain rfl:=si k;exact tr fol [4,6] [(6,.bool (d.1==[]))] (ac (cv (qck N n a b j.1 r)) (ac (gw E) az))
   obtain rfl:=si k;exact tr fol [4,6] kAh (ac (cv (qck N n a b j.1 r)) (ac (gw E) az))
  refine Goes.ret ?_;obtain rfl:=si h;exact(gw2 [.bool O] (Ua tB))
 refine Goes.skip ?_;refine sq ?_;refine sq ?_;obtain⟨a0,c,h⟩:=bnd h;refine Goes.cut (s':=(ofG 111 (kE n a (kAS b [(11,.str d.1),(94,.bool a0)])),[])) ?_ ?_
 ·rcases wyB c with⟨t,c⟩|⟨t,c⟩
  ·obtain rfl:=si c;exact tr fol [2] (kE n a (kAS b [(11,.str d.1),(94,.bool true)])) (ac (gw t) az)
  rcases wyB c with⟨w,c⟩|⟨w,c⟩
  ·obtain rfl:=si c;exact tr fol [2,6] (kE n a (kAS b [(11,.str d.1),(94,.bool true)])) (ac (gw t) (ac (gw w) az))
  rcases wyB c with⟨F,c⟩|⟨F,c⟩
  ·obtain rfl:=si c;exact tr fol [2,6,11] (kE n a (kAS b [(11,.str d.1),(94,.bool true)])) (ac (gw t) (ac (gw w) (ac (gw F) az)))
  obtain⟨a1,G,c⟩:=bnd c;obtain rfl:=si c;exact tr fol [2,6,11,16] (kE n a (kAS b [(11,.str d.1),(94,.bool (!decide (a1=0)))])) (ac (gw t) (ac (gw w) (ac (gw F) (ac (cv (qbU N n a b d.1 G)) az))))
 refine ihB h (fun a2 h=>?_) (fun a2 h=>?_)
 ·refine sh fol kAh ?_;refine Goes.ret ?_;obtain rfl:=si h;exact(gw2 [.bool false] (Ua tB))
 refine Goes.skip ?_;refine sq ?_;obtain⟨g,H,h⟩:=bnd h;refine sq (gr fol [0] (kE n a (kAS b [(11,.str d.1),(95,vl encS g),(96,.i (g.length:Int)),(97,.i 0)])) (ac (cv (qiU H)) az) ?_);refine Goes.block ?_;obtain⟨I,g32,h⟩:=bnd h;refine Goes.imp (Q:=fun x s'=>(x= .exit 0/\(.inl ())=I/\Sub s' (ofG 111 [],[]))\/(x= .ret/\ ∃P,(.inr P)=I/\jM ZT [.tmp 6] (.bool P) .ret s')) ?_ ?_
 ·refine Ud (fun M s=> ∃(p:Int),s=(ofG 111 (kE n a (kAS b ((11,.str d.1)::(kAy g (g.length:Int) p [])))),[])/\qV N n a b d g M p=some I) ?_ (m:=N) ⟨_,rfl,g32⟩;rintro M s ⟨p,rfl,g32⟩
  cases M with
  |zero=>simp only[qV]at g32;cases g32
  |succ M=>
   rw[qV]at g32;refine sh fol (kE n a (kAS b ((11,.str d.1)::(kAy g (g.length:Int) p [(98,.bool (decide (p<(g.length:Int))))])))) ?_;refine sq ?_;refine ihD g32 (fun a3 g32=>?_) (fun a3 g32=>?_)
   ·refine Goes.skip ?_;refine sq (Goes.block ?_);obtain⟨y,u,g32⟩:=bnd g32;refine sq (gr fol [0,1] (kE n a (kAS b ((11,.str d.1)::(14,.str y)::(kAy g (g.length:Int) p [])))) (ac (iv sl41 encS u) (ac (lv 0 ce9 encS u rfl) az)) ?_);refine sq ?_;refine sh fol (kE n a (kAS b ((11,.str d.1)::(14,.str y)::(kAy g (g.length:Int) p [(103,.bool (y==d.1))])))) ?_;refine ihB g32 (fun a4 g32=>?_) (fun a4 g32=>?_)
    ·refine sh fol [(6,.bool true)] ?_;refine Goes.ret ?_;obtain rfl:=si g32;exact Or.inr (⟨rfl,_,rfl,(gw2 [.bool true] (Ua tB))⟩)
    refine Goes.skip ?_;obtain⟨a5,J,g32⟩:=bnd g32;refine sq (gr fol [4] (kE n a (kAS b ((11,.str d.1)::(kAy g (g.length:Int) p [(109,.bool (!decide (a5=21)))])))) (ac (cv (qbU N n a b y J)) az) ?_);refine ihB g32 (fun a6 g32=>?_) (fun a6 g32=>?_)
    ·refine sh fol kAh ?_;refine Goes.ret ?_;obtain rfl:=si g32;exact Or.inr (⟨rfl,_,rfl,(gw2 [.bool false] (Ua tB))⟩)
    refine Goes.skip ?_;refine gh fol (kE n a (kAS b ((11,.str d.1)::(kAy g (g.length:Int) (w64 (p+1)) [])))) ?_;exact⟨M,(ofG 111 (kE n a (kAS b ((11,.str d.1)::(kAy g (g.length:Int) (w64 (p+1)) [])))),[]),Nat.lt_succ_self _,(Sub.refl _),_,rfl,g32⟩
   refine Goes.exit ?_;obtain rfl:=si g32;exact Or.inl (⟨rfl,rfl,(Sub.keep [] rfl rfl)⟩)
 rintro x s' (⟨rfl,rfl,hsub⟩|⟨rfl,q39,rfl,hret⟩)
 ·try dsimp only at h
  refine Goes.sub hsub ?_;refine sh fol kAh ?_;refine Goes.ret ?_;obtain rfl:=si h;exact(gw2 [.bool false] (Ua tB))
 try dsimp only at h
 obtain rfl:=si h;exact hret
end Go.Av
