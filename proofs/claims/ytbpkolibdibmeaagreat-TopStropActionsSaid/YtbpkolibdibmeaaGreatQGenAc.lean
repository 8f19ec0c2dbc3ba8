/-
  The walk of the law.
-/
import Derived.Test.YtbpkolibdibmeaaGreatQGenAc5
import Derived.Test.YtbpkolibdibmeaaGreatAvAwkA1
noncomputable section
namespace Go.Av
open Go.Proofs Go.RowKit
set_option linter.unusedSectionVars false
set_option linter.unusedVariables false
set_option linter.unusedSimpArgs false
set_option maxRecDepth 100000
def awk:Option Bool:=some true
theorem qld {res:Bool} (h:awk=some res):qc ZT (.fn 5) [] [] (.bool res) []:=by
 obtain rfl:=si h;exact qur
def ze (N:Nat) (n:Int) (a:List Int) (b:List Int):Option Bool:=
 ((qbL N n a 4 6).bind fun s=>
 if(!s)=true then
 some true
 else
 (qbL N n b 4 6).bind fun t=>
 some (!t):Option Bool).bind fun u=>
 if u=true then
 (awk).bind fun v=>
 some v
 else
 (qb6 N n a).bind fun w=>
 (qb6 N n b).bind fun x=>
 (xC N w x).bind fun d=>
 (qcu N n a b).bind fun f=>
 (qa8 N n a b).bind fun c=>
 (qbe N n a b).bind fun e=>
 (qbe N n b a).bind fun g=>
 (if(!decide (f.2=0))=true then
 some true
 else
 if(!(f.1==d))=true then
 some true
 else
 if(!((decide (c.2=0))==d))=true then
 some true
 else
 if(!((decide (e.2=7))==d))=true then
 some true
 else
 if(!decide (g.2=e.2))=true then
 some true
 else
 some (!(e.1==g.1)):Option Bool).bind fun i=>
 if i=true then
 some false
 else
 if(!d)=true then
 (if c.2=23 then
 (qU N n b a e.1).bind fun j=>
 if j=0 then
 (awk).bind fun k=>
 some k
 else
 some false
 else
 some false:Option Bool).bind fun l=>
 some l
 else
 if(c.1.length:Int)>5000 then
 (awk).bind fun m=>
 some m
 else
 (yH N n a c.1).bind fun h=>
 (if h.2=true then
 (yR N n a b c.1).bind fun o=>
 if o=0 then
 (yR N n b a h.1).bind fun p=>
 if p=0 then
 (awk).bind fun q=>
 some q
 else
 some false
 else
 some false
 else
 some false:Option Bool).bind fun r=>
 some r
theorem qcD (N:Nat) (n:Int) (a:List Int) (b:List Int) {res:Bool} (h:ze N n a b=some res):qc ZT (.fn 3) (.i n::(kAt a b)) [] (.bool res) []:=by
 unfold ze at h;refine Ub Tryz.func3 rfl rfl (m:=139) rfl (rs:=[.tmp 6]) rfl (l:=(kC n a (kAp b []))) rfl ?_;refine sh fol (kC n a (kAp b [])) ?_;refine sq ?_;refine sq ?_;obtain⟨b4,j,h⟩:=bnd h;refine Goes.cut (s':=(ofG 139 (kC n a (kAp b [(27,.bool b4)])),[])) ?_ ?_
 ·obtain⟨r1,A,j⟩:=bnd j;rcases wyB j with⟨Z,j⟩|⟨Z,j⟩
  ·obtain rfl:=si j;exact tr fol [2,4] (kC n a (kAp b [(27,.bool true)])) (ac (cv (qek N n a 4 6 A)) (ac (gw Z) az))
  obtain⟨r3,P,j⟩:=bnd j;obtain rfl:=si j;exact tr fol [2,4,7] (kC n a (kAp b [(27,.bool (!r3))])) (ac (cv (qek N n a 4 6 A)) (ac (gw Z) (ac (cv (qek N n b 4 6 P)) az)))
 refine ihB h (fun c6 h=>?_) (fun c6 h=>?_)
 ·obtain⟨r7,Q,h⟩:=bnd h;refine sq (gr fol [0] [(6,.bool r7)] (ac (cv (qld Q)) az) ?_);refine Goes.ret ?_;obtain rfl:=si h;exact(gw2 [.bool r7] (Ua tB))
 refine Goes.skip ?_;obtain⟨r8,T,h⟩:=bnd h;obtain⟨r9,U,h⟩:=bnd h;obtain⟨k,B,h⟩:=bnd h;refine sq (gr fol [2,5,6] (kC n a (kAp b [(7,.bool k)])) (ac (cv (qfY N n a T)) (ac (cv (qfY N n b U)) (ac (cv (qgp N r8 r9 B)) az))) ?_);obtain⟨o,C,h⟩:=bnd h;refine sq (gr fol [3] (kC n a (kAp b ((7,.bool k)::(8,.bool o.1)::(kBg o.2)))) (ac (cv (qi9 N n a b C)) az) ?_);obtain⟨e,D,h⟩:=bnd h;refine sq (gr fol [3] (kC n a (kAp b ((7,.bool k)::(8,.bool o.1)::(9,.i o.2)::(10,vl qy e.1)::(kBI e.2)))) (ac (cv (qjN N n a b D)) az) ?_);obtain⟨g,E,h⟩:=bnd h;refine sq (gr fol [3] (kC n a (kAp b [(7,.bool k),(8,.bool o.1),(9,.i o.2),(10,vl qy e.1),(11,.i e.2),(12,.str g.1),(13,.i g.2)])) (ac (cv (qeK N n a b E)) az) ?_);obtain⟨F,G,h⟩:=bnd h;refine sq (gr fol [3] (kC n a (kAp b [(7,.bool k),(8,.bool o.1),(9,.i o.2),(10,vl qy e.1),(11,.i e.2),(12,.str g.1),(13,.i g.2),(14,.str F.1),(15,.i F.2)])) (ac (cv (qeK N n b a G)) az) ?_);refine sq ?_;refine sq ?_;obtain⟨a0,c,h⟩:=bnd h;refine Goes.cut (s':=(ofG 139 (kC n a (kAQ b k e.1 e.2 g.1 [(92,.bool a0)])),[])) ?_ ?_
 ·rcases wyB c with⟨p,c⟩|⟨p,c⟩
  ·obtain rfl:=si c;exact tr fol [2] (kC n a (kAQ b k e.1 e.2 g.1 kBp)) (ac (gw p) az)
  rcases wyB c with⟨r,c⟩|⟨r,c⟩
  ·obtain rfl:=si c;exact tr fol [2,7] (kC n a (kAQ b k e.1 e.2 g.1 kBp)) (ac (gw p) (ac (gw r) az))
  rcases wyB c with⟨s,c⟩|⟨s,c⟩
  ·obtain rfl:=si c;exact tr fol [2,7,13] (kC n a (kAQ b k e.1 e.2 g.1 kBp)) (ac (gw p) (ac (gw r) (ac (gw s) az)))
  rcases wyB c with⟨w,c⟩|⟨w,c⟩
  ·obtain rfl:=si c;exact tr fol [2,7,13,19] (kC n a (kAQ b k e.1 e.2 g.1 kBp)) (ac (gw p) (ac (gw r) (ac (gw s) (ac (gw w) az))))
  rcases wyB c with⟨H,c⟩|⟨H,c⟩
  ·obtain rfl:=si c;exact tr fol [2,7,13,19,24] (kC n a (kAQ b k e.1 e.2 g.1 kBp)) (ac (gw p) (ac (gw r) (ac (gw s) (ac (gw w) (ac (gw H) az)))))
  obtain rfl:=si c;exact tr fol [2,7,13,19,24] (kC n a (kAQ b k e.1 e.2 g.1 [(92,.bool (!(g.1==F.1)))])) (ac (gw p) (ac (gw r) (ac (gw s) (ac (gw w) (ac (gw H) az)))))
 refine ihB h (fun a1 h=>?_) (fun a1 h=>?_)
 ·refine sh fol kAg ?_;refine Goes.ret ?_;obtain rfl:=si h;exact(gw2 [.bool false] (Ua tB))
 refine Goes.skip ?_;refine sq ?_;refine sh fol (kC n a (kAp b [(10,vl qy e.1),(11,.i e.2),(12,.str g.1),(94,.bool (!k))])) ?_;refine ihB h (fun a2 h=>?_) (fun a2 h=>?_)
 ·refine sq ?_;obtain⟨V,f,h⟩:=bnd h;refine Goes.cut (s':=(ofG 139 [(6,.bool V)],[])) ?_ ?_
  ·rcases wyD f with⟨x,f⟩|⟨x,f⟩
   ·obtain⟨r25,t,f⟩:=bnd f;rcases wyD f with⟨I,f⟩|⟨I,f⟩
    ·obtain⟨a3,J,f⟩:=bnd f;obtain rfl:=si f;exact tr fol [2,7,10,11] [(6,.bool a3)] (ac (gw x) (ac (cv (qcp N n b a g.1 t)) (ac (gw I) (ac (cv (qld J)) az))))
    obtain rfl:=si f;exact tr fol [2,7,10] kAg (ac (gw x) (ac (cv (qcp N n b a g.1 t)) (ac (gw I) az)))
   obtain rfl:=si f;exact tr fol [2] kAg (ac (gw x) az)
  refine Goes.ret ?_;obtain rfl:=si h;exact(gw2 [.bool V] (Ua tB))
 refine Goes.skip ?_;refine sq ?_;refine sh fol (kC n a (kAp b [(10,vl qy e.1),(110,.bool (decide ((e.1.length:Int)>5000)))])) ?_;refine ihD h (fun a4 h=>?_) (fun a4 h=>?_)
 ·obtain⟨X,K,h⟩:=bnd h;refine sq (gr fol [0] [(6,.bool X)] (ac (cv (qld K)) az) ?_);refine Goes.ret ?_;obtain rfl:=si h;exact(gw2 [.bool X] (Ua tB))
 refine Goes.skip ?_;obtain⟨y,L,h⟩:=bnd h;refine sq (gr fol [3] (kC n a (kAp b [(10,vl qy e.1),(16,vl qy y.1),(17,.bool y.2)])) (ac (cv (qel N n a e.1 L)) az) ?_);refine sq ?_;obtain⟨Y,d,h⟩:=bnd h;refine Goes.cut (s':=(ofG 139 [(6,.bool Y)],[])) ?_ ?_
 ·rcases wyB d with⟨u,d⟩|⟨u,d⟩
  ·obtain⟨r34,q,d⟩:=bnd d;rcases wyD d with⟨z,d⟩|⟨z,d⟩
   ·obtain⟨r36,v,d⟩:=bnd d;rcases wyD d with⟨M,d⟩|⟨M,d⟩
    ·obtain⟨a5,O,d⟩:=bnd d;obtain rfl:=si d;exact tr fol [1,6,9,14,17,18] [(6,.bool a5)] (ac (gw u) (ac (cv (yG N n a b e.1 q)) (ac (gw z) (ac (cv (yG N n b a y.1 v)) (ac (gw M) (ac (cv (qld O)) az))))))
    obtain rfl:=si d;exact tr fol [1,6,9,14,17] kAg (ac (gw u) (ac (cv (yG N n a b e.1 q)) (ac (gw z) (ac (cv (yG N n b a y.1 v)) (ac (gw M) az)))))
   obtain rfl:=si d;exact tr fol [1,6,9] kAg (ac (gw u) (ac (cv (yG N n a b e.1 q)) (ac (gw z) az)))
  obtain rfl:=si d;exact tr fol [1] kAg (ac (gw u) az)
 refine Goes.ret ?_;obtain rfl:=si h;exact(gw2 [.bool Y] (Ua tB))
end Go.Av
