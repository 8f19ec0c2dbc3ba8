/-
  The walk of the law.
-/
import Derived.Test.YthgioiakbbhonaaGreatDoorQGenEi5
import Derived.Test.YthgioiakbbhonaaGreatDoorAvAwkE2
noncomputable section
namespace Go.Av
open Go.Proofs Go.RowKit
set_option linter.unusedSectionVars false
set_option linter.unusedVariables false
set_option linter.unusedSimpArgs false
set_option maxRecDepth 100000
def awk:Option Bool:=some true
theorem qeg {res:Bool} (h:awk=some res):qf ZT (.fn 4) [] [] (.bool res) []:=by
 cases h
 exact qry
def zJ (N:Nat) (m:List (List Str)) (b:List Str) (c:(List Str)×Int):Nat->Int->Option (Unit⊕Bool)
 |0,_=>none
 |K+1,a=>
  if a<(m.length:Int)then
  (idx m a).bind λd=>
  (xL N d c.1).bind λe=>
  (idx b a).bind λf=>
  if(!(e==f))=true then
  some (.inr false)
  else
  zJ N m b c K (w64 (a+1))
  else
  some (.inl ())
def zh (N:Nat) (m:List (List Str)) (f:List Str):Nat->(List Str)->Int->Option (List Str)
 |0,_,_=>none
 |K+1,b,a=>
  if a<(m.length:Int)then
  (idx m a).bind λc=>
  (xL N c f).bind λd=>
  (app 16 b [d]).bind λe=>
  zh N m f K e (w64 (a+1))
  else
  some b
def qas (N:Nat) (m:List (List Str)) (b:List Str) (f:List Str):Option Bool:=
 ((awk).bind λy=>
 if(!y)=true then
 some true
 else
 if(m.length:Int)=0 then
 some true
 else
 if(m.length:Int)>4 then
 some true
 else
 (qaB N m 4 4 4).bind λz=>
 if(!z)=true then
 some true
 else
 (xR N b 4 4).bind λA=>
 if(!A)=true then
 some true
 else
 (xR N f 4 4).bind λB=>
 if(!B)=true then
 some true
 else
 (yD N m b).bind λg=>
 if(!decide (g=0))=true then
 some true
 else
 (idx m 0).bind λh=>
 some (!decide ((f.length:Int)=(h.length:Int))):Option Bool).bind λi=>
 if i=true then
 (awk).bind λj=>
 some j
 else
 (jP N m b).bind λc=>
 (vP N m b).bind λa=>
 (if(!decide (c.2=0))=true then
 if(!decide (c.2=7))=true then
 some true
 else
 if(!decide (a.2=0))=true then
 if(!decide (a.2=14))=true then
 some true
 else
 if c.2=0 then
 some (decide (a.2=0))
 else
 some false
 else
 if c.2=0 then
 some (decide (a.2=0))
 else
 some false
 else
 if(!decide (a.2=0))=true then
 if(!decide (a.2=14))=true then
 some true
 else
 if c.2=0 then
 some (decide (a.2=0))
 else
 some false
 else
 if c.2=0 then
 some (decide (a.2=0))
 else
 some false:Option Bool).bind λk=>
 if k=true then
 some false
 else
 (if c.2=0 then
 if(!decide ((c.1.length:Int)=(m.length:Int)))=true then
 some true
 else
 (yz N c.1).bind λl=>
 if(!decide (l=0))=true then
 some true
 else
 (qbn N m b c.1).bind λn=>
 if(!n)=true then
 some true
 else
 (y7 N m b c.1).bind λo=>
 some (!decide (o=0))
 else
 some false:Option Bool).bind λp=>
 if p=true then
 some false
 else
 ((if a.2=0 then
 ((idx m 0).bind λq=>
 if(!decide ((a.1.length:Int)=(q.length:Int)))=true then
 some true
 else
 (yz N a.1).bind λr=>
 some (!decide (r=0)):Option Bool).bind λs=>
 if s=true then
 some (.inr false)
 else
 (zJ N m b a N 0).bind (λ
 |(.inl ())=>
 some (.inl ())
 |(.inr t)=>
 some (.inr t))
 else
 some (.inl ()):Option (Unit⊕Bool))).bind (λ
 |(.inl ())=>
 (zh N m f N ([]:List Str) 0).bind λe=>
 (jP N m e).bind λu=>
 (vP N m e).bind λd=>
 (if u.2=7 then
 if d.2=14 then
 some true
 else
 if d.2=0 then
 (qaD N d.1 f).bind λv=>
 some v
 else
 some false
 else
 some false:Option Bool).bind λw=>
 some w
 |(.inr x)=>
 some x)
theorem qeH (N:Nat) (m:List (List Str)) (b:List Str) (j:List Str) {res:Bool} (h:qas N m b j=some res):qf ZT (.fn 3) [vl eSS m,vl encS b,vl encS j] [] (.bool res) []:=by
 unfold qas at h;obtain⟨b14,d,h⟩:=bnd h;refine Ub Tryz.func3 rfl rfl (m:=196) rfl (rs:=[.tmp 6]) rfl (l:=((0,vl eSS m)::(kI b j []))) rfl<|sh fol ((0,vl eSS m)::(kI b j []))<|sq<|sq<|Goes.cut (s':=(ofG 196 ((0,vl eSS m)::(kI b j [(59,.bool b14)])),[])) ?_ ?_
 ·obtain⟨r1,o,d⟩:=bnd d;rcases wyB d with⟨X,d⟩|⟨X,d⟩
  ·cases d
   exact tr fol [0,2] ((0,vl eSS m)::(kI b j kBQ)) (qA (cv (qeg o)) (gw X))
  rcases wyD d with⟨c3,d⟩|⟨c3,d⟩
  ·cases d
   exact tr fol [0,2,7] ((0,vl eSS m)::(kI b j kBQ)) (qI (cv (qeg o)) (gw X) (gw c3))
  rcases wyD d with⟨c4,d⟩|⟨c4,d⟩
  ·cases d
   exact tr fol [0,2,7,12] ((0,vl eSS m)::(kI b j kBQ)) (zM (cv (qeg o)) (gw X) (gw c3) (gw c4))
  obtain⟨r5,w,d⟩:=bnd d;rcases wyB d with⟨c6,d⟩|⟨c6,d⟩
  ·cases d
   exact tr fol [0,2,7,12,14,17] ((0,vl eSS m)::(kI b j kBQ)) (qcE (cv (qeg o)) (gw X) (gw c3) (gw c4) (cv (xn N m 4 4 4 w)) (gw c6))
  obtain⟨r7,B,d⟩:=bnd d;rcases wyB d with⟨c8,d⟩|⟨c8,d⟩
  ·cases d
   exact tr fol [0,2,7,12,14,17,19,22] ((0,vl eSS m)::(kI b j kBQ)) (qkW (cv (qeg o)) (gw X) (gw c3) (gw c4) (cv (xn N m 4 4 4 w)) (gw c6) (cv (jH N b 4 4 B)) (gw c8))
  obtain⟨r9,G,d⟩:=bnd d;rcases wyB d with⟨Y,d⟩|⟨Y,d⟩
  ·cases d
   exact tr fol [0,2,7,12,14,17,19,22,24,27] ((0,vl eSS m)::(kI b j kBQ)) (qie (cv (qeg o)) (gw X) (gw c3) (gw c4) (cv (xn N m 4 4 4 w)) (gw c6) (cv (jH N b 4 4 B)) (gw c8) (qA (cv (jH N j 4 4 G)) (gw Y)))
  obtain⟨r11,H,d⟩:=bnd d;rcases wyB d with⟨c12,d⟩|⟨c12,d⟩
  ·cases d
   exact tr fol [0,2,7,12,14,17,19,22,24,27,30,33] ((0,vl eSS m)::(kI b j kBQ)) (qie (cv (qeg o)) (gw X) (gw c3) (gw c4) (cv (xn N m 4 4 4 w)) (gw c6) (cv (jH N b 4 4 B)) (gw c8) (zM (cv (jH N j 4 4 G)) (gw Y) (cv (qbG N m b H)) (gw c12)))
  obtain⟨x13,I,rfl⟩:=bs1 d;exact tr fol [0,2,7,12,14,17,19,22,24,27,30,33,37,38] ((0,vl eSS m)::(kI b j [(59,.bool (!decide ((zl j)=(zl x13))))])) (qie (cv (qeg o)) (gw X) (gw c3) (gw c4) (cv (xn N m 4 4 4 w)) (gw c6) (cv (jH N b 4 4 B)) (gw c8) (qcE (cv (jH N j 4 4 G)) (gw Y) (cv (qbG N m b H)) (gw c12) (iv qcA eSS I) (lv 0 qcz eSS I rfl)))
 refine ihB h (λc16 h=>?_) (λc16 h=>?_)
 ·obtain⟨r17,e_r17,rfl⟩:=bs1 h;exact sq<|gr fol [0] [(6,.bool r17)] (qh (cv (qeg e_r17)))<|Goes.ret<|(gw2 [.bool r17] (Ua tB))
 obtain⟨g,e_r18,e,e_r19,b30,a,h⟩:=bn3 h;refine Goes.skip<|sq<|gr fol [2] ((0,vl eSS m)::(kI b j [(7,vl encS g.1),(8,.i g.2)])) (qh (cv (qdX N m b e_r18)))<|sq<|gr fol [2] ((0,vl eSS m)::(kI b j (kAF g.1 g.2 e.1 e.2 []))) (qh (cv (qeG N m b e_r19)))<|sq<|sq<|Goes.cut (s':=(ofG 196 ((0,vl eSS m)::(kI b j (kAF g.1 g.2 e.1 e.2 [(94,.bool b30)]))),[])) ?_ ?_
 ·rcases wyB a with⟨p,a⟩|⟨p,a⟩
  ·rcases wyB a with⟨y,a⟩|⟨y,a⟩
   ·cases a
    exact tr fol [2,6] ((0,vl eSS m)::(kI b j (kAF g.1 g.2 e.1 e.2 [(94,.bool true)]))) (qA (gw p) (gw y))
   rcases wyB a with⟨C,a⟩|⟨C,a⟩
   ·rcases wyB a with⟨Z,a⟩|⟨Z,a⟩
    ·cases a
     exact tr fol [2,6,9,14] ((0,vl eSS m)::(kI b j (kAF g.1 g.2 e.1 e.2 [(94,.bool true)]))) (zM (gw p) (gw y) (gw C) (gw Z))
    rcases wyD a with⟨c24,a⟩|⟨c24,a⟩
    ·cases a
     exact tr fol [2,6,9,14,17] ((0,vl eSS m)::(kI b j (kAF g.1 g.2 e.1 e.2 [(94,.bool (decide (e.2=0)))]))) (qbj (gw p) (gw y) (gw C) (gw Z) (gw c24))
    cases a
    exact tr fol [2,6,9,14,17] ((0,vl eSS m)::(kI b j (kAF g.1 g.2 e.1 e.2 [(94,.bool false)]))) (qbj (gw p) (gw y) (gw C) (gw Z) (gw c24))
   rcases wyD a with⟨c25,a⟩|⟨c25,a⟩
   ·cases a
    exact tr fol [2,6,9,17] ((0,vl eSS m)::(kI b j (kAF g.1 g.2 e.1 e.2 [(94,.bool (decide (e.2=0)))]))) (zM (gw p) (gw y) (gw C) (gw c25))
   cases a
   exact tr fol [2,6,9,17] ((0,vl eSS m)::(kI b j (kAF g.1 g.2 e.1 e.2 [(94,.bool false)]))) (zM (gw p) (gw y) (gw C) (gw c25))
  rcases wyB a with⟨D,a⟩|⟨D,a⟩
  ·rcases wyB a with⟨a0,a⟩|⟨a0,a⟩
   ·cases a
    exact tr fol [2,9,14] ((0,vl eSS m)::(kI b j (kAF g.1 g.2 e.1 e.2 [(94,.bool true)]))) (qI (gw p) (gw D) (gw a0))
   rcases wyD a with⟨c28,a⟩|⟨c28,a⟩
   ·cases a
    exact tr fol [2,9,14,17] ((0,vl eSS m)::(kI b j (kAF g.1 g.2 e.1 e.2 [(94,.bool (decide (e.2=0)))]))) (zM (gw p) (gw D) (gw a0) (gw c28))
   cases a
   exact tr fol [2,9,14,17] ((0,vl eSS m)::(kI b j (kAF g.1 g.2 e.1 e.2 [(94,.bool false)]))) (zM (gw p) (gw D) (gw a0) (gw c28))
  rcases wyD a with⟨c29,a⟩|⟨c29,a⟩
  ·cases a
   exact tr fol [2,9,17] ((0,vl eSS m)::(kI b j (kAF g.1 g.2 e.1 e.2 [(94,.bool (decide (e.2=0)))]))) (qI (gw p) (gw D) (gw c29))
  cases a
  exact tr fol [2,9,17] ((0,vl eSS m)::(kI b j (kAF g.1 g.2 e.1 e.2 [(94,.bool false)]))) (qI (gw p) (gw D) (gw c29))
 refine ihB h (λc32 h=>?_) (λc32 h=>?_)
 ·cases h
  exact sh fol kAy<|Goes.ret<|(gw2 [.bool false] (Ua tB))
 obtain⟨b40,f,h⟩:=bnd h;refine Goes.skip<|sq<|sq<|Goes.cut (s':=(ofG 196 ((0,vl eSS m)::(kI b j (kBp e.1 [(10,.i e.2),(122,.bool b40)]))),[])) ?_ ?_
 ·rcases wyD f with⟨F,f⟩|⟨F,f⟩
  ·rcases wyB f with⟨J,f⟩|⟨J,f⟩
   ·cases f
    exact tr fol [2,8] ((0,vl eSS m)::(kI b j (kBp e.1 [(10,.i e.2),(122,.bool true)]))) (qA (gw F) (gw J))
   obtain⟨r35,z,f⟩:=bnd f;rcases wyB f with⟨a1,f⟩|⟨a1,f⟩
   ·cases f
    exact tr fol [2,8,10,13] ((0,vl eSS m)::(kI b j (kBp e.1 [(10,.i e.2),(122,.bool true)]))) (zM (gw F) (gw J) (cv (yH N g.1 z)) (gw a1))
   obtain⟨r37,K,f⟩:=bnd f;rcases wyB f with⟨c38,f⟩|⟨c38,f⟩
   ·cases f
    exact tr fol [2,8,10,13,17,20] ((0,vl eSS m)::(kI b j (kBp e.1 [(10,.i e.2),(122,.bool true)]))) (qcE (gw F) (gw J) (cv (yH N g.1 z)) (gw a1) (cv (qdW N m b g.1 K)) (gw c38))
   obtain⟨r39,e_r39,rfl⟩:=bs1 f;exact tr fol [2,8,10,13,17,20,24] ((0,vl eSS m)::(kI b j (kBp e.1 [(10,.i e.2),(122,.bool (!decide (r39=0)))]))) (qhi (gw F) (gw J) (cv (yH N g.1 z)) (gw a1) (cv (qdW N m b g.1 K)) (gw c38) (cv (qeJ N m b g.1 e_r39)))
  cases f
  exact tr fol [2] ((0,vl eSS m)::(kI b j (kBp e.1 [(10,.i e.2),(122,.bool false)]))) (qh (gw F))
 refine ihB h (λc42 h=>?_) (λc42 h=>?_)
 ·cases h
  exact sh fol kAy<|Goes.ret<|(gw2 [.bool false] (Ua tB))
 obtain⟨r43,g43,h⟩:=bnd h;refine Goes.skip<|sq<|sh fol ((0,vl eSS m)::(kI b j (kBp e.1 [(124,.bool (decide (e.2=0)))])))<|Goes.imp (Q:=λx s'=>(x= .normal/\(.inl ())=r43/\Sub s' (ofG 196 [(0,vl eSS m),(2,vl encS j)],[]))\/(x= .ret/\ ∃q44,(.inr q44)=r43/\zm ZT [.tmp 6] (.bool q44) .ret s')) ?_ ?_
 ·refine ihD g43 (λc45 g43=>?_) (λc45 g43=>?_)
  ·obtain⟨b49,n,g43⟩:=bnd g43;refine sq<|sq<|Goes.cut (s':=(ofG 196 ((0,vl eSS m)::(kI b j (kBp e.1 [(136,.bool b49)]))),[])) ?_ ?_
   ·obtain⟨x46,t,n⟩:=bnd n;rcases wyB n with⟨c47,n⟩|⟨c47,n⟩
    ·cases n
     exact tr fol [3,4,7] ((0,vl eSS m)::(kI b j (kBp e.1 [(136,.bool true)]))) (qI (iv qcA eSS t) (lv 0 qcz eSS t rfl) (gw c47))
    obtain⟨r48,e_r48,rfl⟩:=bs1 n;exact tr fol [3,4,7,9] ((0,vl eSS m)::(kI b j (kBp e.1 [(136,.bool (!decide (r48=0)))]))) (zM (iv qcA eSS t) (lv 0 qcz eSS t rfl) (gw c47) (cv (yH N e.1 e_r48)))
   refine ihB g43 (λc51 g43=>?_) (λc51 g43=>?_)
   ·cases g43
    exact sh fol kAy<|Goes.ret<|Or.inr (⟨rfl,_,rfl,(gw2 [.bool false] (Ua tB))⟩)
   obtain⟨r53,g53,g43⟩:=bnd g43;refine Goes.skip<|sh fol ((0,vl eSS m)::(kI b j (kBp e.1 [(138,.i (zl m)),(139,.i 0)])))<|Goes.block<|Goes.imp (Q:=λx s'=>(x= .exit 0/\(.inl ())=r53/\Sub s' (ofG 196 [(0,vl eSS m),(2,vl encS j)],[]))\/(x= .ret/\ ∃q54,(.inr q54)=r53/\zm ZT [.tmp 6] (.bool q54) .ret s')) ?_ ?_
   ·refine Ud (λM s=> ∃(u:Int),s=(ofG 196 ((0,vl eSS m)::(kI b j (kBp e.1 [(138,.i (zl m)),(139,.i u)]))),[])/\zJ N m b e M u=some r53) ?_ (m:=N) ⟨_,rfl,g53⟩;rintro M s ⟨u,rfl,g53⟩
    cases M with
    |zero=>simp only[zJ]at g53;cases g53
    |succ M=>
     rw[zJ]at g53;refine sh fol ((0,vl eSS m)::(kI b j (kBp e.1 [(138,.i (zl m)),(139,.i u),(140,.bool (decide (u<(zl m))))])))<|sq<|ihD g53 (λc55 g53=>?_) (λc55 g53=>?_)
     ·obtain⟨x56,L,r57,e_r57,x58,O,g53⟩:=bn3 g53;refine Goes.skip<|sq<|Goes.block<|sh fol ((0,vl eSS m)::(kI b j (kBp e.1 [(11,.i u),(138,.i (zl m)),(139,.i u)])))<|sq<|gr fol [2,3,5,8,9] ((0,vl eSS m)::(kI b j (kBp e.1 [(138,.i (zl m)),(139,.i u),(152,.bool (!(r57==x58)))]))) (qbj (iv qcA eSS L) (lv 0 qcz eSS L rfl) (cv (qca N x56 e.1 e_r57)) (iv qeI encS O) (lv 0 qf8 encS O rfl))<|ihB g53 (λc59 g53=>?_) (λc59 g53=>?_)
      ·cases g53
       exact sh fol kAy<|Goes.ret<|Or.inr (⟨rfl,_,rfl,(gw2 [.bool false] (Ua tB))⟩)
      exact Goes.skip<|gh fol ((0,vl eSS m)::(kI b j (kBp e.1 [(138,.i (zl m)),(139,.i (w64 (u+1)))])))<|zo ⟨_,rfl,g53⟩
     cases g53
     exact Goes.exit<|Or.inl (⟨rfl,rfl,(Sub.keep [0,2] rfl rfl)⟩)
   rintro x s' (⟨rfl,rfl,hsub⟩|⟨rfl,q60,rfl,hret⟩)
   ·try dsimp only at g43
    cases g43
    exact Or.inl (⟨rfl,rfl,(hsub.trans (Sub.refl _))⟩)
   try dsimp only at g43
   cases g43
   exact Or.inr (⟨rfl,_,rfl,hret⟩)
  cases g43
  exact Goes.skip<|Or.inl (⟨rfl,rfl,(Sub.keep [0,2] rfl rfl)⟩)
 rintro x s' (⟨rfl,rfl,hsub⟩|⟨rfl,q77,rfl,hret⟩)
 ·try dsimp only at h
  obtain⟨r64,g64,h⟩:=bnd h;refine Goes.sub hsub<|sh fol [(0,vl eSS m),(2,vl encS j),(12,.nilslice)]<|sq<|sh fol [(0,vl eSS m),(2,vl encS j),(12,.nilslice),(155,.i (zl m)),(156,.i 0)]<|Goes.block<|Goes.imp (Q:=λx s'=>(x= .exit 2/\ ∃q,q=r64/\Sub s' (ofG 196 ((0,vl eSS m)::(kAr j q [])),(kS q [])))) ?_ ?_
  ·refine Goes.sub (s':=(ofG 196 [(0,vl eSS m),(2,vl encS j),(12,.gslice 0 ([]:List Str).length 1),(155,.i (zl m)),(156,.i 0)],[.cells (([]:List Str).flatMap encS.c)])) (Uc [] [none] rfl rfl (.keep (.same (qc eSS _)) (.keep (.same (qc encS _)) (.keep .nil (.keep (.same nI) (.keep (.same nI) .nil))))) (.fresh .nil))<|Ud (λM s=> ∃(v:List Str) (r:Int),s=(ofG 196 ((0,vl eSS m)::(kAr j v [(155,.i (zl m)),(156,.i r)])),(kS v []))/\zh N m j M v r=some r64) ?_ (m:=N) ⟨_,_,rfl,g64⟩;rintro M s ⟨v,r,rfl,g64⟩
   cases M with
   |zero=>simp only[zh]at g64;cases g64
   |succ M=>
    rw[zh]at g64;refine sh fol ((0,vl eSS m)::(kAr j v [(155,.i (zl m)),(156,.i r),(157,.bool (decide (r<(zl m))))]))<|sq<|ihD g64 (λc65 g64=>?_) (λc65 g64=>?_)
    ·obtain⟨x66,P,a2,e_r67,A,e_l68,g64⟩:=bn3 g64;exact Goes.skip<|sq<|Goes.block<|sh fol ((0,vl eSS m)::(kAr j v [(13,.i r),(155,.i (zl m)),(156,.i r)]))<|gq fol [3,4,6,8] [(0,vl eSS m),(2,vl encS j),(12,.gslice 2 A.length 1),(155,.i (zl m)),(156,.i r)] (.dead:: .cells [.str a2]::(kS A [])) (zM (iv qcA eSS P) (lv 0 qcz eSS P rfl) (cv (qca N x66 j e_r67)) (hs (.run [0,1] (zO ZT [23,23] (.gslice 0 v.length 1) (.slice 1 0 1 1 1)) (kS v [.cells [.str a2]]) (.gslice 2 A.length 1) (.dead:: .cells [.str a2]::(kS A [])) true) (qaq qeI (E:=encS) rfl (qdy (E:=encS) (ys:=[a2]) rfl rfl rfl rfl) (qex (E:=encS) (l:=v) rfl rfl rfl e_l68 rfl))))<|gh fol [(0,vl eSS m),(2,vl encS j),(12,.gslice 2 A.length 1),(155,.i (zl m)),(156,.i (w64 (r+1)))]<|⟨M,(ofG 196 ((0,vl eSS m)::(kAr j A [(155,.i (zl m)),(156,.i (w64 (r+1)))])),(kS A [])),aQ _,(Uc [] [some 2] rfl rfl (.keep (.same (qc eSS _)) (.keep (.same (qc encS _)) (.keep (.gslice rfl) (.keep (.same nI) (.keep (.same nI) .nil))))) (.ks .nil)),_,_,rfl,g64⟩
    cases g64
    exact Goes.exit<|⟨rfl,_,rfl,(Sub.keep [0,2,12] rfl rfl)⟩
  rintro x s' ⟨rfl,q,rfl,hsub⟩;obtain⟨U,e_r69,r70,e_r70,b75,k,h⟩:=bn3 h;refine Goes.sub hsub<|sq<|gq fol [2] ((0,vl eSS m)::(kAr j q [(15,.i U.2)])) [.frozen (q.flatMap encS.c)] (qh (hs (.callF 8 [vl eSS m,.gslice 0 q.length 1] (kS q []) [0] [vl eSS m,vl encS q] (.tuple [vl encS U.1,.i U.2])) (qa0 (FzL.cons (Un (qw eSS _ (nl rfl))) (FzL.cons (Fz.gs (E:=encS) rfl rfl (nl rfl)) FzL.nil)) (qdX N m q e_r69) (Still.tuple (AllST.cons (qw encS _ (nl rfl)) (AllST.cons tI AllST.nil))))))<|Goes.sub (show Sub _ (ofG 196 [(0,vl eSS m),(2,vl encS j),(12,vl encS q),(15,.i U.2)],[])from(Uc [0] [] rfl rfl (.keep (.same (qc eSS _)) (.keep (.same (qc encS _)) (.keep (.frz (Fz.gsF (E:=encS) rfl rfl (nl rfl)) (qc encS _)) (.keep (.same nI) .nil)))) .nil))<|sq<|gr fol [2] [(2,vl encS j),(15,.i U.2),(16,vl encS r70.1),(17,.i r70.2)] (qh (cv (qeG N m q e_r70)))<|sq<|Goes.cut (s':=(ofG 196 [(6,.bool b75)],[])) ?_ ?_
  ·rcases wyD k with⟨V,k⟩|⟨V,k⟩
   ·rcases wyD k with⟨a3,k⟩|⟨a3,k⟩
    ·cases k
     exact tr fol [2,5] [(6,.bool true)] (qA (gw V) (gw a3))
    rcases wyD k with⟨c73,k⟩|⟨c73,k⟩
    ·obtain⟨r74,e_r74,rfl⟩:=bs1 k;exact tr fol [2,5,8,11] [(6,.bool r74)] (zM (gw V) (gw a3) (gw c73) (cv (qgV N r70.1 j e_r74)))
    cases k
    exact tr fol [2,5,8] kAy (qI (gw V) (gw a3) (gw c73))
   cases k
   exact tr fol [2] kAy (qh (gw V))
  obtain rfl:=si h;exact Goes.ret<|(gw2 [.bool b75] (Ua tB))
 try dsimp only at h
 cases h
 exact hret
end Go.Av
