/-
  Walks of functions: what each computes, as a plain function.
-/
import Derived.Test.YtlhmomppjidoiaaGreatDoorQGenY3
noncomputable section
namespace Go.Av
open Go.Proofs Go.RowKit
set_option linter.unusedSectionVars false
set_option linter.unusedVariables false
set_option linter.unusedSimpArgs false
set_option maxRecDepth 100000
def qca (N:Nat) (a:qC) (b:qC):Option qC:=
 if(a.neg==b.neg)=true then
 (xu N a.w b.w).bind fun c=>
 (zD N a.neg c).bind fun d=>
 some d
 else
 (je N a.w b.w).bind fun e=>
 if e>=0 then
 (yh N a.w b.w).bind fun f=>
 (zD N a.neg f).bind fun g=>
 some g
 else
 (yh N b.w a.w).bind fun h=>
 (zD N b.neg h).bind fun i=>
 some i
theorem qib (N:Nat) (a:qC) (b:qC) {res:qC} (h:qca N a b=some res):qb ZT (.fn 141) (kAl a.neg a.w b.neg b.w) [] (.agg (kAf res.neg res.w)) []:=by
 unfold qca at h
 refine Ub Tryz.func141 rfl rfl (m:=40) rfl (rs:=[.cell 4 116]) rfl (l:=(kBT a.neg a.w b.neg b.w)) rfl ?_
 refine sg fol (kE []) (kK a.neg a.w b.neg b.w (kN [])) ?_
 refine sq ?_
 refine sh fol (kE [(9,.bool (a.neg==b.neg))]) ?_
 refine ihB h (fun p h=>?_) (fun p h=>?_)
 ·obtain⟨q,c,h⟩:=bnd h
  obtain⟨k,d,h⟩:=bnd h
  refine sq (gq fol [6,7] (kAS []) (kK a.neg a.w b.neg b.w (kAL k.neg k.w [])) (ac (cv (qeR N a.w b.w c)) (ac (cv (zQ N a.neg q d)) az)) ?_)
  refine Goes.ret ?_
  obtain rfl:=si h
  exact(gw2 [.agg (kAf k.neg k.w)] (FzW.agg (qd.cons (Ua tB) (qd.cons (Ua (qw encI _ (nl rfl))) qd.nil))))
 refine Goes.skip ?_
 refine sq ?_
 obtain⟨r,e,h⟩:=bnd h
 refine sq (gr fol [4] (kE [(23,.bool (decide (r>=0)))]) (ac (cv (qa0 N a.w b.w e)) az) ?_)
 refine ihD h (fun s h=>?_) (fun s h=>?_)
 ·obtain⟨t,f,h⟩:=bnd h
  obtain⟨n,g,h⟩:=bnd h
  refine sq (gq fol [6,7] (kAS []) (kK a.neg a.w b.neg b.w (kAL n.neg n.w [])) (ac (cv (qbQ N a.w b.w f)) (ac (cv (zQ N a.neg t g)) az)) ?_)
  refine Goes.ret ?_
  obtain rfl:=si h
  exact(gw2 [.agg (kAf n.neg n.w)] (FzW.agg (qd.cons (Ua tB) (qd.cons (Ua (qw encI _ (nl rfl))) qd.nil))))
 refine Goes.skip ?_
 obtain⟨u,i,h⟩:=bnd h
 obtain⟨o,j,h⟩:=bnd h
 refine sq (gq fol [6,7] (kAS []) (kK a.neg a.w b.neg b.w (kAL o.neg o.w [])) (ac (cv (qbQ N b.w a.w i)) (ac (cv (zQ N b.neg u j)) az)) ?_)
 refine Goes.ret ?_
 obtain rfl:=si h
 exact(gw2 [.agg (kAf o.neg o.w)] (FzW.agg (qd.cons (Ua tB) (qd.cons (Ua (qw encI _ (nl rfl))) qd.nil))))
def qbO (N:Nat) (a:Str) (b:Str):Option Str:=
 (yz N a).bind fun c=>
 (yz N b).bind fun d=>
 (if c.2.2=true then
 some d.2.2
 else
 some false:Option Bool).bind fun l=>
 if l=true then
 (qeb N (w64 ((w64 (c.1*d.2.1))+(w64 (d.1*c.2.1)))) (w64 (c.2.1*d.2.1))).bind fun m=>
 some m
 else
 (yo N a).bind fun e=>
 (yo N b).bind fun f=>
 (xQ N e.1 f.2).bind fun g=>
 (xQ N f.1 e.2).bind fun h=>
 (qca N g h).bind fun i=>
 (xQ N e.2 f.2).bind fun j=>
 (yM N i j).bind fun k=>
 some k
theorem qfo (N:Nat) (a:Str) (b:Str) {res:Str} (h:qbO N a b=some res):qb ZT (.fn 71) (kBY a b) [] (.str res) []:=by
 unfold qbO at h
 refine Ub Tryz.func71 rfl rfl (m:=63) rfl (rs:=[.tmp 4]) rfl (l:=(kQ a b [])) rfl ?_
 refine sh fol (kQ a b []) ?_
 obtain⟨d,p,h⟩:=bnd h
 refine sq (gr fol [1] (kQ a b (kAw d.1 d.2.1 [(7,.bool d.2.2)])) (ac (cv (qec N a p)) az) ?_)
 obtain⟨e,q,h⟩:=bnd h
 refine sq (gr fol [1] (kQ a b (kAw d.1 d.2.1 ((7,.bool d.2.2)::(kA2 e.1 e.2.1 (kBR e.2.2))))) (ac (cv (qec N b q)) az) ?_)
 refine sq ?_
 refine sq ?_
 obtain⟨C,c,h⟩:=bnd h
 refine Goes.cut (s':=(ofG 63 (kQ a b (kAw d.1 d.2.1 (kA2 e.1 e.2.1 [(30,.bool C)]))),[])) ?_ ?_
 ·rcases wyB c with⟨v,c⟩|⟨v,c⟩
  ·obtain rfl:=si c
   exact tr fol [1] (kQ a b (kAw d.1 d.2.1 (kA2 e.1 e.2.1 [(30,.bool e.2.2)]))) (ac (gw v) az)
  obtain rfl:=si c
  exact tr fol [1] (kQ a b (kAw d.1 d.2.1 (kA2 e.1 e.2.1 [(30,.bool false)]))) (ac (gw v) az)
 refine ihB h (fun D h=>?_) (fun D h=>?_)
 ·obtain⟨B,r,h⟩:=bnd h
  refine sq (gr fol [10] (kBG B) (ac (cv (qkG N (w64 ((w64 (d.1*e.2.1))+(w64 (e.1*d.2.1)))) (w64 (d.2.1*e.2.1)) r)) az) ?_)
  refine Goes.ret ?_
  obtain rfl:=si h
  exact(gw2 [.str B] (Ua tS))
 refine Goes.skip ?_
 obtain⟨f,s,h⟩:=bnd h
 refine sq (gq fol [1] [(1,.str b),(11,.ptr 0 0),(12,.ptr 1 0)] (kK f.1.neg f.1.w f.2.neg f.2.w []) (ac (cv (qb9 N a s)) az) ?_)
 obtain⟨g,t,h⟩:=bnd h
 refine sq (gq fol [1] [(11,.ptr 0 0),(12,.ptr 1 0),(13,.ptr 2 0),(14,.ptr 3 0)] (kK f.1.neg f.1.w f.2.neg f.2.w (kK g.1.neg g.1.w g.2.neg g.2.w [])) (ac (cv (qb9 N b t)) az) ?_)
 obtain⟨x,i,h⟩:=bnd h
 obtain⟨y,j,h⟩:=bnd h
 obtain⟨z,k,h⟩:=bnd h
 obtain⟨A,n,h⟩:=bnd h
 obtain⟨u,o,h⟩:=bnd h
 refine sq (gr fol [2,5,6,9,10] (kBG u) (ac (cv (qbS N f.1 g.2 i)) (ac (cv (qbS N g.1 f.2 j)) (ac (cv (qib N x y k)) (ac (cv (qbS N f.2 g.2 n)) (ac (cv (qcg N z A o)) az))))) ?_)
 refine Goes.ret ?_
 obtain rfl:=si h
 exact(gw2 [.str u] (Ua tS))
def qcQ (a:Str):Option Str:=
 (ve a).bind fun b=>
 if b<0 then
 (cut a 1 (a.length:Int)).bind fun c=>
 some c
 else
 (ve a).bind fun d=>
 if d=0 then
 some a
 else
 (cat [45] a).bind fun e=>
 some e
theorem qiP (a:Str) {res:Str} (h:qcQ a=some res):qb ZT (.fn 140) [.str a] [] (.str res) []:=by
 unfold qcQ at h
 refine Ub Tryz.func140 rfl rfl (m:=14) rfl (rs:=[.tmp 2]) rfl (l:=(kAH a)) rfl ?_
 refine sh fol (kAH a) ?_
 refine sq ?_
 obtain⟨j,b,h⟩:=bnd h
 refine sq (gr fol [1] (kA5 a (kBh (decide (j<0)))) (ac (cv (yD a b)) az) ?_)
 refine ihD h (fun k h=>?_) (fun k h=>?_)
 ·obtain⟨f,c,h⟩:=bnd h
  refine sq (gr fol [1] (kBH f) (ac (hs (.done (.opt (qU ZT 22 (.str a) (some (.i 1)) none none)) (.str f)) (zS qlp (some 1) none c)) az) ?_)
  refine Goes.ret ?_
  obtain rfl:=si h
  exact(gw2 [.str f] (Ua tS))
 refine Goes.skip ?_
 refine sq ?_
 obtain⟨n,d,h⟩:=bnd h
 refine sq (gr fol [1] (kA5 a (kBR (decide (n=0)))) (ac (cv (yD a d)) az) ?_)
 refine ihD h (fun o h=>?_) (fun o h=>?_)
 ·refine sh fol (kBH a) ?_
  refine Goes.ret ?_
  obtain rfl:=si h
  exact(gw2 [.str a] (Ua tS))
 refine Goes.skip ?_
 obtain⟨g,e,h⟩:=bnd h
 refine sq (gr fol [1] (kBH g) (ac (hs (.done (.opt (qZ ZT .add 22 (.const (.string ⟨#[45]⟩)) (.tmp 12) (.str [45]) (.str a))) (.str g)) (qax e)) az) ?_)
 refine Goes.ret ?_
 obtain rfl:=si h
 exact(gw2 [.str g] (Ua tS))
def qbN (N:Nat) (a:Str) (b:Str):Option Str:=
 (qcQ b).bind fun c=>
 (qbO N a c).bind fun d=>
 some d
theorem qe5 (N:Nat) (a:Str) (b:Str) {res:Str} (h:qbN N a b=some res):qb ZT (.fn 70) (kBY a b) [] (.str res) []:=by
 unfold qbN at h
 refine Ub Tryz.func70 rfl rfl (m:=9) rfl (rs:=[.tmp 4]) rfl (l:=(kQ a b [])) rfl ?_
 refine sh fol (kQ a b []) ?_
 obtain⟨f,c,h⟩:=bnd h
 obtain⟨e,d,h⟩:=bnd h
 refine sq (gr fol [2,3] (kBG e) (ac (cv (qiP b c)) (ac (cv (qfo N a f d)) az)) ?_)
 refine Goes.ret ?_
 obtain rfl:=si h
 exact(gw2 [.str e] (Ua tS))
def qa9 (N:Nat) (a:Str) (b:Str):Option Int:=
 (qbN N a b).bind fun c=>
 (ve c).bind fun d=>
 some d
theorem qe2 (N:Nat) (a:Str) (b:Str) {res:Int} (h:qa9 N a b=some res):qb ZT (.fn 36) (kBY a b) [] (.i res) []:=by
 unfold qa9 at h
 refine Ub Tryz.func36 rfl rfl (m:=9) rfl (rs:=[.tmp 4]) rfl (l:=(kQ a b [])) rfl ?_
 refine sh fol (kQ a b []) ?_
 obtain⟨f,c,h⟩:=bnd h
 obtain⟨e,d,h⟩:=bnd h
 refine sq (gr fol [2,3] (kBU e) (ac (cv (qe5 N a b c)) (ac (cv (yD f d)) az)) ?_)
 refine Goes.ret ?_
 obtain rfl:=si h
 exact(gw2 [.i e] (Ua tI))
def j6 (c:Str):Nat->Int->Option (Unit⊕Bool)
 |0,_=>none
 |K+1,b=>
  if b<(c.length:Int)then
  (idx c b).bind fun a=>
  (if(a.toNat:Int)>=97 then
  if(a.toNat:Int)<=122 then
  some true
  else
  if(a.toNat:Int)>=65 then
  some (decide ((a.toNat:Int)<=90))
  else
  some false
  else
  if(a.toNat:Int)>=65 then
  some (decide ((a.toNat:Int)<=90))
  else
  some false:Option Bool).bind fun d=>
  (if(!d)=true then
  if b=0 then
  some true
  else
  if(a.toNat:Int)>=48 then
  if(a.toNat:Int)<=57 then
  some false
  else
  some (!(decide ((a.toNat:Int)=95)))
  else
  some (!(decide ((a.toNat:Int)=95)))
  else
  some false:Option Bool).bind fun e=>
  if e=true then
  some (.inr false)
  else
  j6 c K (w64 (b+1))
  else
  some (.inl ())
def qak (N:Nat) (a:Str):Option Bool:=
 (if(a.length:Int)<1 then
 some true
 else
 some (decide ((a.length:Int)>24)):Option Bool).bind fun c=>
 if c=true then
 some false
 else
 (j6 a N 0).bind (fun
 |(.inl ())=>
 some true
 |(.inr b)=>
 some b)
theorem qdB (N:Nat) (c:Str) {res:Bool} (h:qak N c=some res):qb ZT (.fn 50) [.str c] [] (.bool res) []:=by
 unfold qak at h
 refine Ub Tryz.func50 rfl rfl (m:=56) rfl (rs:=[.tmp 2]) rfl (l:=(kAH c)) rfl ?_
 refine sh fol (kAH c) ?_
 refine sq ?_
 refine sq ?_
 obtain⟨B,e,h⟩:=bnd h
 refine Goes.cut (s':=(ofG 56 (kA5 c (kBE B)),[])) ?_ ?_
 ·rcases wyD e with⟨u,e⟩|⟨u,e⟩
  ·obtain rfl:=si e
   exact tr fol [3] (kA5 c [(13,.bool true)]) (ac (gw u) az)
  obtain rfl:=si e
  exact tr fol [3] (kA5 c (kBE (decide ((c.length:Int)>24)))) (ac (gw u) az)
 refine ihB h (fun C h=>?_) (fun C h=>?_)
 ·refine sh fol kAq ?_
  refine Goes.ret ?_
  obtain rfl:=si h
  exact(gw2 [.bool false] (Ua tB))
 refine Goes.skip ?_
 refine sq ?_
 refine sh fol (kA5 c [(3,.i 0)]) ?_
 refine Goes.block ?_
 obtain⟨v,g6,h⟩:=bnd h
 refine Goes.imp (Q:=fun x s'=>(x= .exit 0/\(.inl ())=v/\Sub s' (ofG 56 [],[]))\/(x= .ret/\ ∃A,(.inr A)=v/\zM ZT [.tmp 2] (.bool A) .ret s')) ?_ ?_
 ·refine Uc (fun M s=> ∃(d:Int),s=(ofG 56 (kAF c d []),[])/\j6 c M d=some v) ?_ (m:=N) ⟨_,rfl,g6⟩
  rintro M s ⟨d,rfl,g6⟩
  cases M with
  |zero=>simp only[j6]at g6;cases g6
  |succ M=>
   rw[j6]at g6
   refine sq ?_
   refine sh fol (kAF c d [(17,.bool (decide (d<(c.length:Int))))]) ?_
   refine ihD g6 (fun D g6=>?_) (fun D g6=>?_)
   ·refine Goes.skip ?_
    refine sq (Goes.block ?_)
    obtain⟨j,t,g6⟩:=bnd g6
    refine sq (gr fol [2] (kAF c d [(4,.int .u8 (j.toNat:Int))]) (ac (hs (.done (.opt (vY ZT 9 (.str c) (.i d))) (.int .u8 (j.toNat:Int))) (xL st9 t)) az) ?_)
    refine sq ?_
    obtain⟨w,a,g6⟩:=bnd g6
    refine Goes.cut (s':=(ofG 56 (kAF c d ((4,.int .u8 (j.toNat:Int))::(kBh w))),[])) ?_ ?_
    ·rcases wyD a with⟨f,a⟩|⟨f,a⟩
     ·rcases wyD a with⟨n,a⟩|⟨n,a⟩
      ·obtain rfl:=si a
       exact tr fol [2,6] (kAF c d [(4,.int .u8 (j.toNat:Int)),(5,.bool true)]) (ac (gw f) (ac (gw n) az))
      rcases wyD a with⟨p,a⟩|⟨p,a⟩
      ·obtain rfl:=si a
       exact tr fol [2,6,9] (kAF c d ((4,.int .u8 (j.toNat:Int))::(kBh (decide ((j.toNat:Int)<=90))))) (ac (gw f) (ac (gw n) (ac (gw p) az)))
      obtain rfl:=si a
      exact tr fol [2,6,9] (kAF c d [(4,.int .u8 (j.toNat:Int)),(5,.bool false)]) (ac (gw f) (ac (gw n) (ac (gw p) az)))
     rcases wyD a with⟨q,a⟩|⟨q,a⟩
     ·obtain rfl:=si a
      exact tr fol [2,9] (kAF c d ((4,.int .u8 (j.toNat:Int))::(kBh (decide ((j.toNat:Int)<=90))))) (ac (gw f) (ac (gw q) az))
     obtain rfl:=si a
     exact tr fol [2,9] (kAF c d [(4,.int .u8 (j.toNat:Int)),(5,.bool false)]) (ac (gw f) (ac (gw q) az))
    refine sq ?_
    obtain⟨y,b,g6⟩:=bnd g6
    refine Goes.cut (s':=(ofG 56 (kAF c d [(55,.bool y)]),[])) ?_ ?_
    ·rcases wyB b with⟨g,b⟩|⟨g,b⟩
     ·rcases wyD b with⟨k,b⟩|⟨k,b⟩
      ·obtain rfl:=si b
       exact tr fol [2,5] (kAF c d [(55,.bool true)]) (ac (gw g) (ac (gw k) az))
      rcases wyD b with⟨o,b⟩|⟨o,b⟩
      ·rcases wyD b with⟨r,b⟩|⟨r,b⟩
       ·obtain rfl:=si b
        exact tr fol [2,5,8,12] (kAF c d [(55,.bool false)]) (ac (gw g) (ac (gw k) (ac (gw o) (ac (gw r) az))))
       obtain rfl:=si b
       exact tr fol [2,5,8,12] (kAF c d [(55,.bool (!(decide ((j.toNat:Int)=95))))]) (ac (gw g) (ac (gw k) (ac (gw o) (ac (gw r) az))))
      obtain rfl:=si b
      exact tr fol [2,5,8] (kAF c d [(55,.bool (!(decide ((j.toNat:Int)=95))))]) (ac (gw g) (ac (gw k) (ac (gw o) az)))
     obtain rfl:=si b
     exact tr fol [2] (kAF c d [(55,.bool false)]) (ac (gw g) az)
    refine ihB g6 (fun z g6=>?_) (fun z g6=>?_)
    ·refine sh fol kAq ?_
     refine Goes.ret ?_
     obtain rfl:=si g6
     exact Or.inr (⟨rfl,_,rfl,(gw2 [.bool false] (Ua tB))⟩)
    refine Goes.skip ?_
    refine gh fol (kAF c (w64 (d+1)) []) ?_
    exact⟨M,(ofG 56 (kAF c (w64 (d+1)) []),[]),Nat.lt_succ_self _,(Sub.refl _),_,rfl,g6⟩
   refine Goes.exit ?_
   obtain rfl:=si g6
   exact Or.inl (⟨rfl,rfl,(Sub.keep [] rfl rfl)⟩)
 rintro x s' (⟨rfl,rfl,hsub⟩|⟨rfl,E,rfl,hret⟩)
 ·try dsimp only at h
  refine Goes.sub hsub ?_
  refine sh fol kBd ?_
  refine Goes.ret ?_
  obtain rfl:=si h
  exact(gw2 [.bool true] (Ua tB))
 try dsimp only at h
 obtain rfl:=si h
 exact hret
def qbo (N:Nat) (a:Str):Option Bool:=
 (if(a==[])=true then
 some true
 else
 (qak N a).bind fun b=>
 some b:Option Bool).bind fun c=>
 some c
theorem qh6 (N:Nat) (b:Str) {res:Bool} (h:qbo N b=some res):qb ZT (.fn 51) [.str b] [] (.bool res) []:=by
 unfold qbo at h
 refine Ub Tryz.func51 rfl rfl (m:=9) rfl (rs:=[.tmp 2]) rfl (l:=(kAH b)) rfl ?_
 refine sh fol (kAH b) ?_
 refine sq ?_
 obtain⟨e,a,h⟩:=bnd h
 refine Goes.cut (s':=(ofG 9 (kBQ e),[])) ?_ ?_
 ·rcases wyB a with⟨d,a⟩|⟨d,a⟩
  ·obtain rfl:=si a
   exact tr fol [2] kBd (ac (gw d) az)
  obtain⟨f,c,a⟩:=bnd a
  obtain rfl:=si a
  exact tr fol [2,4] (kBQ f) (ac (gw d) (ac (cv (qdB N b c)) az))
 refine Goes.ret ?_
 obtain rfl:=si h
 exact(gw2 [.bool e] (Ua tB))
def qH (N:Nat) (y:qV):Nat->Int->Option (Unit⊕Int)
 |0,_=>none
 |K+1,a=>
  if a<(y.Strength.length:Int)then
  (idx y.Strength a).bind fun b=>
  (vW N b.X).bind fun c=>
  ((if c=0 then
  (vW N b.Y).bind fun e=>
  some e
  else
  some c:Option Int)).bind fun d=>
  if(!decide (d=0))=true then
  some (.inr d)
  else
  (if a>0 then
  (idx y.Strength (w64 (a-1))).bind fun f=>
  (qa9 N b.X f.X).bind fun g=>
  some (decide (g<=0))
  else
  some false:Option Bool).bind fun h=>
  if h=true then
  some (.inr 11)
  else
  qH N y K (w64 (a+1))
  else
  some (.inl ())
def xn (N:Nat) (y:qV):Option Int:=
 (qak N y.Name).bind fun e=>
 if(!e)=true then
 some 8
 else
 (xZ N y.Density).bind fun c=>
 ((if c=0 then
 (yV N y.Twist).bind fun f=>
 some f
 else
 some c:Option Int)).bind fun d=>
 if(!decide (d=0))=true then
 some d
 else
 if(y.Strength.length:Int)=0 then
 some 12
 else
 if(y.Strength.length:Int)>256 then
 some 5
 else
 (qH N y N 0).bind (fun
 |(.inl ())=>
 (qbo N y.Dye).bind fun a=>
 if(!a)=true then
 some 8
 else
 some 0
 |(.inr b)=>
 some b)
theorem qeY (N:Nat) (y:qV) {res:Int} (h:xn N y=some res):qb ZT (.fn 9) [.agg (kAx y.Name y.Density y.Twist y.Strength y.Dye)] [] (.i res) []:=by
 unfold xn at h
 refine Ub Tryz.func9 rfl rfl (m:=78) rfl (rs:=[.tmp 2]) rfl (l:=(kW y.Name y.Density y.Twist y.Strength y.Dye [])) rfl ?_
 refine sg fol (kR []) (kB y.Name y.Density y.Twist y.Strength y.Dye []) ?_
 refine sq ?_
 obtain⟨O,t,h⟩:=bnd h
 refine sq (gr fol [2] (kR [(9,.bool (!O))]) (ac (cv (qdB N y.Name t)) az) ?_)
 refine ihB h (fun P h=>?_) (fun P h=>?_)
 ·refine sh fol [(2,.i 8)] ?_
  refine Goes.ret ?_
  obtain rfl:=si h
  exact(gw2 [.i 8] (Ua tI))
 refine Goes.skip ?_
 obtain⟨z,u,h⟩:=bnd h
 refine sq (gr fol [2] (kR [(3,.i z)]) (ac (cv (qfx N y.Density u)) az) ?_)
 refine sq ?_
 refine sh fol (kR [(3,.i z),(14,.bool (decide (z=0)))]) ?_
 obtain⟨U,g5,h⟩:=bnd h
 refine Goes.imp (Q:=fun x s'=>(x= .normal/\ ∃f,f=U/\Sub s' (ofG 78 (kR [(3,.i f)]),(kB y.Name y.Density y.Twist y.Strength y.Dye [])))) ?_ ?_
 ·refine ihD g5 (fun V g5=>?_) (fun V g5=>?_)
  ·obtain⟨Z,v,g5⟩:=bnd g5
   refine gr fol [2] (kR [(3,.i Z)]) (ac (cv (qaO N y.Twist v)) az) ?_
   obtain rfl:=si g5
   exact⟨rfl,_,rfl,(Sub.refl _)⟩
  refine Goes.skip ?_
  obtain rfl:=si g5
  exact⟨rfl,_,rfl,(Sub.keep [1,3] rfl rfl)⟩
 rintro x s' ⟨rfl,f,rfl,hsub⟩
 refine Goes.sub hsub ?_
 refine sq ?_
 refine sh fol (kR [(3,.i f),(19,.bool (!decide (f=0)))]) ?_
 refine ihB h (fun c8 h=>?_) (fun c8 h=>?_)
 ·refine sh fol (kA3 f) ?_
  refine Goes.ret ?_
  obtain rfl:=si h
  exact(gw2 [.i f] (Ua tI))
 refine Goes.skip ?_
 refine sq ?_
 refine sh fol (kR [(24,.bool (decide ((y.Strength.length:Int)=0)))]) ?_
 refine ihD h (fun c9 h=>?_) (fun c9 h=>?_)
 ·refine sh fol [(2,.i 12)] ?_
  refine Goes.ret ?_
  obtain rfl:=si h
  exact(gw2 [.i 12] (Ua tI))
 refine Goes.skip ?_
 refine sq ?_
 refine sh fol (kR [(28,.bool (decide ((y.Strength.length:Int)>256)))]) ?_
 refine ihD h (fun A h=>?_) (fun A h=>?_)
 ·refine sh fol [(2,.i 5)] ?_
  refine Goes.ret ?_
  obtain rfl:=si h
  exact(gw2 [.i 5] (Ua tI))
 refine Goes.skip ?_
 refine sq ?_
 refine sh fol (kR kBc) ?_
 refine Goes.block ?_
 obtain⟨g,g12,h⟩:=bnd h
 refine Goes.imp (Q:=fun x s'=>(x= .exit 0/\(.inl ())=g/\Sub s' (ofG 78 (kR []),(kB y.Name y.Density y.Twist y.Strength y.Dye [])))\/(x= .ret/\ ∃w,(.inr w)=g/\zM ZT [.tmp 2] (.i w) .ret s')) ?_ ?_
 ·refine Uc (fun M s=> ∃(b:Int),s=(ofG 78 (kR (kBU b)),(kB y.Name y.Density y.Twist y.Strength y.Dye []))/\qH N y M b=some g) ?_ (m:=N) ⟨_,rfl,g12⟩
  rintro M s ⟨b,rfl,g12⟩
  cases M with
  |zero=>simp only[qH]at g12;cases g12
  |succ M=>
   rw[qH]at g12
   refine sq ?_
   refine sh fol (kR [(4,.i b),(33,.bool (decide (b<(y.Strength.length:Int))))]) ?_
   refine ihD g12 (fun B g12=>?_) (fun B g12=>?_)
   ·refine Goes.skip ?_
    refine sq (Goes.block ?_)
    obtain⟨j,c,g12⟩:=bnd g12
    obtain⟨k,n,g12⟩:=bnd g12
    refine sq (gr fol [3,5,6] (kR ((4,.i b)::(kAm k))) (ac (iv qda qc c) (ac (lv 0 qfI qc c rfl) (ac (cv (qch N j.X n)) az))) ?_)
    refine sq ?_
    refine sh fol (kR [(4,.i b),(5,.i k),(44,.bool (decide (k=0)))]) ?_
    obtain⟨C,g18,g12⟩:=bnd g12
    refine Goes.imp (Q:=fun x s'=>(x= .normal/\ ∃d,d=C/\Sub s' (ofG 78 (kR ((4,.i b)::(kAm d))),(kB y.Name y.Density y.Twist y.Strength y.Dye [])))) ?_ ?_
    ·refine ihD g18 (fun D g18=>?_) (fun D g18=>?_)
     ·obtain⟨E,o,g18⟩:=bnd g18
      refine gr fol [3,5,6] (kR ((4,.i b)::(kAm E))) (ac (iv qda qc c) (ac (lv 1 qfI qc c rfl) (ac (cv (qch N j.Y o)) az))) ?_
      obtain rfl:=si g18
      exact⟨rfl,_,rfl,(Sub.refl _)⟩
     refine Goes.skip ?_
     obtain rfl:=si g18
     exact⟨rfl,_,rfl,(Sub.keep [1,4,5] rfl rfl)⟩
    rintro x s' ⟨rfl,d,rfl,hsub⟩
    refine Goes.sub hsub ?_
    refine sq ?_
    refine sh fol (kR [(4,.i b),(5,.i d),(53,.bool (!decide (d=0)))]) ?_
    refine ihB g12 (fun F g12=>?_) (fun F g12=>?_)
    ·refine sh fol (kA3 d) ?_
     refine Goes.ret ?_
     obtain rfl:=si g12
     exact Or.inr (⟨rfl,_,rfl,(gw2 [.i d] (Ua tI))⟩)
    refine Goes.skip ?_
    refine sq ?_
    obtain⟨G,a,g12⟩:=bnd g12
    refine Goes.cut (s':=(ofG 78 (kR [(4,.i b),(73,.bool G)]),(kB y.Name y.Density y.Twist y.Strength y.Dye []))) ?_ ?_
    ·rcases wyD a with⟨p,a⟩|⟨p,a⟩
     ·obtain⟨H,e,a⟩:=bnd a
      obtain⟨I,q,a⟩:=bnd a
      obtain rfl:=si a
      exact tr fol [2,6,8,13,15,16] (kR [(4,.i b),(73,.bool (decide (I<=0)))]) (ac (gw p) (ac (iv qda qc c) (ac (lv 0 qfI qc c rfl) (ac (iv qda qc e) (ac (lv 0 qfI qc e rfl) (ac (cv (qe2 N j.X H.X q)) az))))))
     obtain rfl:=si a
     exact tr fol [2] (kR [(4,.i b),(73,.bool false)]) (ac (gw p) az)
    refine ihB g12 (fun J g12=>?_) (fun J g12=>?_)
    ·refine sh fol [(2,.i 11)] ?_
     refine Goes.ret ?_
     obtain rfl:=si g12
     exact Or.inr (⟨rfl,_,rfl,(gw2 [.i 11] (Ua tI))⟩)
    refine Goes.skip ?_
    refine gh fol (kR (kBU (w64 (b+1)))) ?_
    exact⟨M,(ofG 78 (kR (kBU (w64 (b+1)))),(kB y.Name y.Density y.Twist y.Strength y.Dye [])),Nat.lt_succ_self _,(Sub.refl _),_,rfl,g12⟩
   refine Goes.exit ?_
   obtain rfl:=si g12
   exact Or.inl (⟨rfl,rfl,(Sub.keep [1] rfl rfl)⟩)
 rintro x s' (⟨rfl,rfl,hsub⟩|⟨rfl,q30,rfl,hret⟩)
 ·try dsimp only at h
  refine Goes.sub hsub ?_
  refine sq ?_
  obtain⟨K,r,h⟩:=bnd h
  refine sq (gr fol [2] [(77,.bool (!K))] (ac (cv (qh6 N y.Dye r)) az) ?_)
  refine ihB h (fun L h=>?_) (fun L h=>?_)
  ·refine sh fol [(2,.i 8)] ?_
   refine Goes.ret ?_
   obtain rfl:=si h
   exact(gw2 [.i 8] (Ua tI))
  refine Goes.skip ?_
  refine sh fol [(2,.i 0)] ?_
  refine Goes.ret ?_
  obtain rfl:=si h
  exact(gw2 [.i 0] (Ua tI))
 try dsimp only at h
 obtain rfl:=si h
 exact hret
def yf (c:Int):Option Bool:=
 (if c>=97 then
 if c<=122 then
 some true
 else
 if c>=65 then
 some (decide (c<=90))
 else
 some false
 else
 if c>=65 then
 some (decide (c<=90))
 else
 some false:Option Bool).bind fun a=>
 some a
theorem vR (c:Int) {res:Bool} (h:yf c=some res):qb ZT (.fn 180) [.int .i32 c] [] (.bool res) []:=by
 unfold yf at h
 refine Ub Tryz.func180 rfl rfl (m:=17) rfl (rs:=[.tmp 2]) rfl (l:=[(0,.int .i32 c)]) rfl ?_
 refine sh fol [(0,.int .i32 c)] ?_
 refine sq ?_
 obtain⟨g,a,h⟩:=bnd h
 refine Goes.cut (s':=(ofG 17 (kBQ g),[])) ?_ ?_
 ·rcases wyD a with⟨b,a⟩|⟨b,a⟩
  ·rcases wyD a with⟨d,a⟩|⟨d,a⟩
   ·obtain rfl:=si a
    exact tr fol [2,6] kBd (ac (gw b) (ac (gw d) az))
   rcases wyD a with⟨e,a⟩|⟨e,a⟩
   ·obtain rfl:=si a
    exact tr fol [2,6,9] (kBQ (decide (c<=90))) (ac (gw b) (ac (gw d) (ac (gw e) az)))
   obtain rfl:=si a
   exact tr fol [2,6,9] kAq (ac (gw b) (ac (gw d) (ac (gw e) az)))
  rcases wyD a with⟨f,a⟩|⟨f,a⟩
  ·obtain rfl:=si a
   exact tr fol [2,9] (kBQ (decide (c<=90))) (ac (gw b) (ac (gw f) az))
  obtain rfl:=si a
  exact tr fol [2,9] kAq (ac (gw b) (ac (gw f) az))
 refine Goes.ret ?_
 obtain rfl:=si h
 exact(gw2 [.bool g] (Ua tB))
def jB (b:Str):Nat->Nat->Option (Unit⊕Bool)
 |0,_=>none
 |K+1,a=>
  if a<b.length then
  ((yf (vZ b a)).bind fun d=>
  if(!d)=true then
  if(a:Int)=0 then
  some true
  else
  if(!decide ((vZ b a)=95))=true then
  if(vZ b a)<48 then
  some true
  else
  some (decide ((vZ b a)>57))
  else
  some false
  else
  some false:Option Bool).bind fun c=>
  if c=true then
  some (.inr false)
  else
  jB b K (a+runeLen b a)
  else
  some (.inl ())
def xz (N:Nat) (a:Str):Option Bool:=
 (jB a N 0).bind (fun
 |(.inl ())=>
 (if(!(a==[]))=true then
 some (decide ((a.length:Int)<=24))
 else
 some false:Option Bool).bind fun b=>
 some b
 |(.inr c)=>
 some c)
theorem qcM (N:Nat) (d:Str) {res:Bool} (h:xz N d=some res):qb ZT (.fn 118) [.str d] [] (.bool res) []:=by
 unfold xz at h
 refine Ub Tryz.func118 rfl rfl (m:=37) rfl (rs:=[.tmp 2]) rfl (l:=(kAH d)) rfl ?_
 refine sh fol (kAH d) ?_
 refine sq ?_
 refine sg fol (kAr d []) [.iter d 0] ?_
 refine Goes.block ?_
 obtain⟨r,g2,h⟩:=bnd h
 refine Goes.imp (Q:=fun x s'=>(x= .exit 0/\(.inl ())=r/\Sub s' (ofG 37 (kAH d),[]))\/(x= .ret/\ ∃w,(.inr w)=r/\zM ZT [.tmp 2] (.bool w) .ret s')) ?_ ?_
 ·refine Goes.sub (s':=(ofG 37 (kAr d []),[.iter d 0])) (Sub.keep [0,6] rfl rfl) ?_
  refine Uc (fun M s=> ∃(e:Nat),s=(ofG 37 (kAr d []),[.iter d e])/\jB d M e=some r) ?_ (m:=N) ⟨_,rfl,g2⟩
  rintro M s ⟨e,rfl,g2⟩
  cases M with
  |zero=>simp only[jB]at g2;cases g2
  |succ M=>
   rw[jB]at g2
   refine sq ?_
   rcases Classical.em (e<d.length)with n|n
   ·rw[if_pos n]at g2
    refine gq fol [0] (kAr d [(7,.tuple [.bool true,.i (e:Int),.int .i32 (vZ d e)]),(8,.bool true)]) [.iter d (e+runeLen d e)] (ac (hs (.run [0] (qe1 (.ptr 0 0) true) [.iter d e] (.tuple [.bool true,.i (e:Int),.int .i32 (vZ d e)]) [.iter d (e+runeLen d e)] true) (qmI rfl n rfl)) az) ?_
    refine sq ?_
    refine Goes.ifB (b:=true) (by kernel_rfl) (fun _=>?_) (fun c=>(by cases c))
    refine Goes.skip ?_
    refine Goes.block ?_
    refine sh fol (kAF d (e:Int) [(4,.int .i32 (vZ d e)),(6,.ptr 0 0)]) ?_
    refine sq ?_
    obtain⟨t,a,g2⟩:=bnd g2
    refine Goes.cut (s':=(ofG 37 (kAr d [(29,.bool t)]),[.iter d (e+runeLen d e)])) ?_ ?_
    ·obtain⟨z,g,a⟩:=bnd a
     rcases wyB a with⟨k,a⟩|⟨k,a⟩
     ·rcases wyD a with⟨o,a⟩|⟨o,a⟩
      ·obtain rfl:=si a
       exact tr fol [1,3,6] (kAr d [(29,.bool true)]) (ac (cv (vR (vZ d e) g)) (ac (gw k) (ac (gw o) az)))
      rcases wyB a with⟨q,a⟩|⟨q,a⟩
      ·rcases wyD a with⟨u,a⟩|⟨u,a⟩
       ·obtain rfl:=si a
        exact tr fol [1,3,6,9,12] (kAr d [(29,.bool true)]) (ac (cv (vR (vZ d e) g)) (ac (gw k) (ac (gw o) (ac (gw q) (ac (gw u) az)))))
       obtain rfl:=si a
       exact tr fol [1,3,6,9,12] (kAr d [(29,.bool (decide ((vZ d e)>57)))]) (ac (cv (vR (vZ d e) g)) (ac (gw k) (ac (gw o) (ac (gw q) (ac (gw u) az)))))
      obtain rfl:=si a
      exact tr fol [1,3,6,9] (kAr d [(29,.bool false)]) (ac (cv (vR (vZ d e) g)) (ac (gw k) (ac (gw o) (ac (gw q) az))))
     obtain rfl:=si a
     exact tr fol [1,3] (kAr d [(29,.bool false)]) (ac (cv (vR (vZ d e) g)) (ac (gw k) az))
    refine ihB g2 (fun v g2=>?_) (fun v g2=>?_)
    ·refine sh fol kAq ?_
     refine Goes.ret ?_
     obtain rfl:=si g2
     exact Or.inr (⟨rfl,_,rfl,(gw2 [.bool false] (Ua tB))⟩)
    refine Goes.skip ?_
    exact⟨M,(ofG 37 (kAr d []),[.iter d (e+runeLen d e)]),Nat.lt_succ_self _,(Sub.keep [0,6] rfl rfl),_,rfl,g2⟩
   rw[if_neg n]at g2
   refine gr fol [0] (kAr d [(7,.tuple [.bool false]),(8,.bool false)]) (ac (hs (.run [0] (qe1 (.ptr 0 0) true) [.iter d e] (.tuple [.bool false]) [.iter d e] false) (qmo rfl n)) az) ?_
   refine sq ?_
   refine Goes.ifB (b:=false) (by kernel_rfl) (fun c=>(by cases c)) (fun _=>?_)
   refine Goes.exit ?_
   obtain rfl:=si g2
   exact Or.inl (⟨rfl,rfl,(Sub.norm [] [] rfl rfl (.keep (.same nS) .nil) .nil)⟩)
 rintro x s' (⟨rfl,rfl,hsub⟩|⟨rfl,y,rfl,hret⟩)
 ·try dsimp only at h
  refine Goes.sub hsub ?_
  refine sq ?_
  obtain⟨p,f,h⟩:=bnd h
  refine Goes.cut (s':=(ofG 37 (kBQ p),[])) ?_ ?_
  ·rcases wyB f with⟨j,f⟩|⟨j,f⟩
   ·obtain rfl:=si f
    exact tr fol [2] (kBQ (decide ((d.length:Int)<=24))) (ac (gw j) az)
   obtain rfl:=si f
   exact tr fol [2] kAq (ac (gw j) az)
  refine Goes.ret ?_
  obtain rfl:=si h
  exact(gw2 [.bool p] (Ua tB))
 try dsimp only at h
 obtain rfl:=si h
 exact hret
def qde (N:Nat) (a:Str):Option Int:=
 (xz N a).bind fun b=>
 (vK (!b) 8).bind fun c=>
 some c
theorem qid (N:Nat) (a:Str) {res:Int} (h:qde N a=some res):qb ZT (.fn 53) [.str a] [] (.i res) []:=by
 unfold qde at h
 refine Ub Tryz.func53 rfl rfl (m:=7) rfl (rs:=[.tmp 2]) rfl (l:=(kAH a)) rfl ?_
 refine sh fol (kAH a) ?_
 obtain⟨e,b,h⟩:=bnd h
 obtain⟨d,c,h⟩:=bnd h
 refine sq (gr fol [1,3] (kA3 d) (ac (cv (qcM N a b)) (ac (cv (qag (!e) 8 c)) az)) ?_)
 refine Goes.ret ?_
 obtain rfl:=si h
 exact(gw2 [.i d] (Ua tI))
def qae (N:Nat) (a:Str):Option Int:=
 (qbf N a 0).bind fun b=>
 some b
theorem qdw (N:Nat) (a:Str) {res:Int} (h:qae N a=some res):qb ZT (.fn 78) [.str a] [] (.i res) []:=by
 unfold qae at h
 refine Ub Tryz.func78 rfl rfl (m:=5) rfl (rs:=[.tmp 2]) rfl (l:=(kAH a)) rfl ?_
 refine sh fol (kAH a) ?_
 obtain⟨c,b,h⟩:=bnd h
 refine sq (gr fol [1] (kA3 c) (ac (cv (qeD N a 0 b)) az) ?_)
 refine Goes.ret ?_
 obtain rfl:=si h
 exact(gw2 [.i c] (Ua tI))
def yu (N:Nat) (a:qM) (b:qM):Option Int:=
 (qI N a.Num b.Den).bind fun c=>
 (qI N b.Num a.Den).bind fun d=>
 (qaJ N c d).bind fun e=>
 some e
theorem qdA (N:Nat) (a:qM) (b:qM) {res:Int} (h:yu N a b=some res):qb ZT (.fn 98) [.agg (nq1 a),.agg (nq1 b)] [] (.i res) []:=by
 unfold yu at h
 refine Ub Tryz.func98 rfl rfl (m:=16) rfl (rs:=[.tmp 4]) rfl (l:=[(0,.agg (nq1 a)),(1,.agg (nq1 b))]) rfl ?_
 refine sg fol (kM (kAZ [])) [.cells (nq1 a),.cells (nq1 b)] ?_
 obtain⟨g,c,h⟩:=bnd h
 obtain⟨j,d,h⟩:=bnd h
 obtain⟨f,e,h⟩:=bnd h
 refine sq (gr fol [4,9,10] (kBU f) (ac (cv (jY N a.Num b.Den c)) (ac (cv (jY N b.Num a.Den d)) (ac (cv (qd6 N g j e)) az))) ?_)
 refine Goes.ret ?_
 obtain rfl:=si h
 exact(gw2 [.i f] (Ua tI))
def qaw (N:Nat) (p:qY) (before:List qY):Option Int:=
 (qae N p.X).bind fun e=>
 (qae N p.Y).bind fun f=>
 (yH N ([e,f]:List Int)).bind fun d=>
 (if(!decide (d=0))=true then
 some true
 else
 some (decide ((before.length:Int)=0)):Option Bool).bind fun g=>
 if g=true then
 some d
 else
 (idx before (w64 ((before.length:Int)-1))).bind fun h=>
 (vz N p.X).bind fun i=>
 (vz N h.X).bind fun a=>
 (yu N i a).bind fun b=>
 (vK (decide (b<=0)) 11).bind fun c=>
 some c
theorem qeL (N:Nat) (p:qY) (before:List qY) {res:Int} (h:qaw N p before=some res):qb ZT (.fn 58) [.agg [.str p.X,.str p.Y],vl qc before] [] (.i res) []:=by
 unfold qaw at h
 refine Ub Tryz.func58 rfl rfl (m:=38) rfl (rs:=[.tmp 4]) rfl (l:=[(0,.agg [.str p.X,.str p.Y]),(1,vl qc before)]) rfl ?_
 refine sg fol ((1,vl qc before)::(kM [])) (kAN p.X p.Y []) ?_
 refine sq ?_
 obtain⟨g,j,h⟩:=bnd h
 obtain⟨k,n,h⟩:=bnd h
 obtain⟨c,o,h⟩:=bnd h
 refine sq (gq fol [2,5,7] ((1,vl qc before)::(kM (kAm c))) (kAN p.X p.Y (kAE g k)) (ac (cv (qdw N p.X j)) (ac (cv (qdw N p.Y n)) (ac (hs (.call 52 [.slice 1 0 2 2 1] (kAN p.X p.Y (kAE g k)) [1] [vl encI ([g,k]:List Int)] (.i c)) (qd2 (FzL.cons (Fz.lit rfl rfl (Ue (AllST.cons tI (AllST.cons tI AllST.nil)))) FzL.nil) (qcu N ([g,k]:List Int) o) tI rfl)) az))) ?_)
 refine sq ?_
 obtain⟨w,a,h⟩:=bnd h
 refine Goes.cut (s':=(ofG 38 ((1,vl qc before)::(kM [(5,.i c),(21,.bool w)])),(kAN p.X p.Y (kAE g k)))) ?_ ?_
 ·rcases wyB a with⟨s,a⟩|⟨s,a⟩
  ·obtain rfl:=si a
   exact tr fol [2] ((1,vl qc before)::(kM [(5,.i c),(21,.bool true)])) (ac (gw s) az)
  obtain rfl:=si a
  exact tr fol [2] ((1,vl qc before)::(kM [(5,.i c),(21,.bool (decide ((before.length:Int)=0)))])) (ac (gw s) az)
 refine ihB h (fun x h=>?_) (fun x h=>?_)
 ·refine sh fol (kBU c) ?_
  refine Goes.ret ?_
  obtain rfl:=si h
  exact(gw2 [.i c] (Ua tI))
 refine Goes.skip ?_
 obtain⟨v,b,h⟩:=bnd h
 refine sq (gr fol [4,6] (kM [(6,.str v.X)]) (ac (iv qda qc b) (ac (lv 0 qfI qc b rfl) az)) ?_)
 obtain⟨y,q,h⟩:=bnd h
 obtain⟨t,d,h⟩:=bnd h
 obtain⟨u,e,h⟩:=bnd h
 obtain⟨r,f,h⟩:=bnd h
 refine sq (gr fol [2,4,5,7] (kBU r) (ac (cv (yZ N p.X q)) (ac (cv (yZ N v.X d)) (ac (cv (qdA N y t e)) (ac (cv (qag (decide (u<=0)) 11 f)) az)))) ?_)
 refine Goes.ret ?_
 obtain rfl:=si h
 exact(gw2 [.i r] (Ua tI))
def qar (N:Nat) (a:Str):Option Int:=
 (if(!(a==[]))=true then
 (xz N a).bind fun b=>
 (vK (!b) 8).bind fun c=>
 some c
 else
 (vK false 8).bind fun d=>
 some d:Option Int).bind fun e=>
 some e
theorem qfF (N:Nat) (b:Str) {res:Int} (h:qar N b=some res):qb ZT (.fn 59) [.str b] [] (.i res) []:=by
 unfold qar at h
 refine Ub Tryz.func59 rfl rfl (m:=11) rfl (rs:=[.tmp 2]) rfl (l:=(kAH b)) rfl ?_
 refine sh fol (kAH b) ?_
 refine sq ?_
 obtain⟨g,a,h⟩:=bnd h
 refine Goes.cut (s':=(ofG 11 (kA3 g),[])) ?_ ?_
 ·rcases wyB a with⟨f,a⟩|⟨f,a⟩
  ·obtain⟨j,c,a⟩:=bnd a
   obtain⟨k,d,a⟩:=bnd a
   obtain rfl:=si a
   exact tr fol [2,4,7] (kA3 k) (ac (gw f) (ac (cv (qcM N b c)) (ac (cv (qag (!j) 8 d)) az)))
  obtain⟨n,e,a⟩:=bnd a
  obtain rfl:=si a
  exact tr fol [2,7] (kA3 n) (ac (gw f) (ac (cv (qag false 8 e)) az))
 refine Goes.ret ?_
 obtain rfl:=si h
 exact(gw2 [.i g] (Ua tI))
def qF (N:Nat) (a:List qY):Nat->Int->Option (Unit⊕Int)
 |0,_=>none
 |K+1,b=>
  if b<(a.length:Int)then
  (idx a b).bind fun d=>
  (cut a 0 b).bind fun e=>
  (qaw N d e).bind fun c=>
  if(!decide (c=0))=true then
  some (.inr c)
  else
  qF N a K (w64 (b+1))
  else
  some (.inl ())
def vQ (N:Nat) (a:List qY) (b:Int):Option Int:=
 if(a.length:Int)>b then
 some 5
 else
 (qF N a N 0).bind (fun
 |(.inl ())=>
 some 0
 |(.inr c)=>
 some c)
theorem qdE (N:Nat) (a:List qY) (c:Int) {res:Int} (h:vQ N a c=some res):qb ZT (.fn 57) [vl qc a,.i c,.func (.func 58) [] []] [] (.i res) []:=by
 unfold vQ at h
 refine Ub Tryz.func57 rfl rfl (m:=31) rfl (rs:=[.tmp 6]) rfl (l:=(kBI a [(1,.i c),(2,.func (.func 58) [] [])])) rfl ?_
 refine sh fol (kBI a [(1,.i c),(2,.func (.func 58) [] [])]) ?_
 refine sq ?_
 refine sh fol (kBI a ((2,.func (.func 58) [] [])::(kBE (decide ((a.length:Int)>c))))) ?_
 refine ihD h (fun p h=>?_) (fun p h=>?_)
 ·refine sh fol [(6,.i 5)] ?_
  refine Goes.ret ?_
  obtain rfl:=si h
  exact(gw2 [.i 5] (Ua tI))
 refine Goes.skip ?_
 refine sq ?_
 refine sh fol (kBI a [(2,.func (.func 58) [] []),(14,vl qc a),(15,.i (a.length:Int)),(16,.i 0)]) ?_
 refine Goes.block ?_
 obtain⟨j,g3,h⟩:=bnd h
 refine Goes.imp (Q:=fun x s'=>(x= .exit 0/\(.inl ())=j/\Sub s' (ofG 31 [],[]))\/(x= .ret/\ ∃n,(.inr n)=j/\zM ZT [.tmp 6] (.i n) .ret s')) ?_ ?_
 ·refine Uc (fun M s=> ∃(b:Int),s=(ofG 31 (kBI a ((2,.func (.func 58) [] [])::(14,vl qc a)::(kAW (a.length:Int) b []))),[])/\qF N a M b=some j) ?_ (m:=N) ⟨_,rfl,g3⟩
  rintro M s ⟨b,rfl,g3⟩
  cases M with
  |zero=>simp only[qF]at g3;cases g3
  |succ M=>
   rw[qF]at g3
   refine sh fol (kBI a ((2,.func (.func 58) [] [])::(14,vl qc a)::(kAW (a.length:Int) b [(17,.bool (decide (b<(a.length:Int))))]))) ?_
   refine sq ?_
   refine ihD g3 (fun q g3=>?_) (fun q g3=>?_)
   ·refine Goes.skip ?_
    refine sq (Goes.block ?_)
    obtain⟨k,d,g3⟩:=bnd g3
    refine sq (gq fol [1,2] (kBI a ((2,.func (.func 58) [] [])::(7,.i b)::(8,.ptr 0 0)::(14,vl qc a)::(kAW (a.length:Int) b []))) (kAN k.X k.Y []) (ac (iv qda qc d) (ac (la ag67 qc d) az)) ?_)
    obtain⟨o,e,g3⟩:=bnd g3
    obtain⟨f,g,g3⟩:=bnd g3
    refine sq (gr fol [4,5] (kBI a ((2,.func (.func 58) [] [])::(9,.i f)::(14,vl qc a)::(kAW (a.length:Int) b []))) (ac (hs (.done (.opt (qU ZT 23 (vl qc a) none (some (.i b)) none)) (vl qc o)) (qka qda (E:=qc) rfl none (some b) e)) (ac (cv (qeL N k o g)) az)) ?_)
    refine sh fol (kBI a ((2,.func (.func 58) [] [])::(9,.i f)::(14,vl qc a)::(kAW (a.length:Int) b [(28,.bool (!decide (f=0)))]))) ?_
    refine ihB g3 (fun r g3=>?_) (fun r g3=>?_)
    ·refine sh fol [(6,.i f)] ?_
     refine Goes.ret ?_
     obtain rfl:=si g3
     exact Or.inr (⟨rfl,_,rfl,(gw2 [.i f] (Ua tI))⟩)
    refine Goes.skip ?_
    refine gh fol (kBI a ((2,.func (.func 58) [] [])::(14,vl qc a)::(kAW (a.length:Int) (w64 (b+1)) []))) ?_
    exact⟨M,(ofG 31 (kBI a ((2,.func (.func 58) [] [])::(14,vl qc a)::(kAW (a.length:Int) (w64 (b+1)) []))),[]),Nat.lt_succ_self _,(Sub.norm [] [] rfl rfl (.keep (.same (qf qc _)) (.keep (.same (qD.func sn sn)) (.keep (.same (qf qc _)) (.keep (.same nI) (.keep (.same nI) .nil))))) .nil),_,rfl,g3⟩
   refine Goes.exit ?_
   obtain rfl:=si g3
   exact Or.inl (⟨rfl,rfl,(Sub.keep [] rfl rfl)⟩)
 rintro x s' (⟨rfl,rfl,hsub⟩|⟨rfl,t,rfl,hret⟩)
 ·try dsimp only at h
  refine Goes.sub hsub ?_
  refine sh fol [(6,.i 0)] ?_
  refine Goes.ret ?_
  obtain rfl:=si h
  exact(gw2 [.i 0] (Ua tI))
 try dsimp only at h
 obtain rfl:=si h
 exact hret
def jP (N:Nat) (y:qV):Option Int:=
 (qde N y.Name).bind fun a=>
 (qau N y.Density).bind fun b=>
 (xc N y.Twist).bind fun c=>
 (vK (decide ((y.Strength.length:Int)=0)) 12).bind fun d=>
 (vQ N y.Strength 256).bind fun e=>
 (qar N y.Dye).bind fun f=>
 (yH N ([a,b,c,d,e,f]:List Int)).bind fun g=>
 some g
theorem qaN (N:Nat) (y:qV) {res:Int} (h:jP N y=some res):qb ZT (.fn 10) [.agg (kAx y.Name y.Density y.Twist y.Strength y.Dye)] [] (.i res) []:=by
 unfold jP at h
 refine Ub Tryz.func10 rfl rfl (m:=25) rfl (rs:=[.tmp 2]) rfl (l:=(kW y.Name y.Density y.Twist y.Strength y.Dye [])) rfl ?_
 refine sg fol (kR []) (kB y.Name y.Density y.Twist y.Strength y.Dye []) ?_
 obtain⟨k,a,h⟩:=bnd h
 obtain⟨n,b,h⟩:=bnd h
 obtain⟨o,c,h⟩:=bnd h
 obtain⟨p,d,h⟩:=bnd h
 obtain⟨e,f,h⟩:=bnd h
 obtain⟨q,g,h⟩:=bnd h
 obtain⟨r,j,h⟩:=bnd h
 refine sq (gq fol [2,5,8,13,16,19,21] (kA3 r) (kB y.Name y.Density y.Twist y.Strength y.Dye [.cells [.i k,.i n,.i o,.i p,.i e,.i q]]) (ac (cv (qid N y.Name a)) (ac (cv (qf1 N y.Density b)) (ac (cv (qbz N y.Twist c)) (ac (cv (qag (decide ((y.Strength.length:Int)=0)) 12 d)) (ac (hs (.call 57 [vl qc y.Strength,.i 256,.func (.func 58) [] []] [] [] [vl qc y.Strength,.i 256,.func (.func 58) [] []] (.i e)) (qqx (FzL.cons (Un (qw qc _ (nl rfl))) (FzL.cons (Un tI) (FzL.cons (Fz.func FzL.nil FzL.nil) FzL.nil))) (qdE N y.Strength 256 f) tI)) (ac (cv (qfF N y.Dye g)) (ac (hs (.call 52 [.slice 1 0 6 6 1] (kB y.Name y.Density y.Twist y.Strength y.Dye [.cells [.i k,.i n,.i o,.i p,.i e,.i q]]) [1] [vl encI ([k,n,o,p,e,q]:List Int)] (.i r)) (qd2 (FzL.cons (Fz.lit rfl rfl (Ue (AllST.cons tI (AllST.cons tI (AllST.cons tI (AllST.cons tI (AllST.cons tI (AllST.cons tI AllST.nil)))))))) FzL.nil) (qcu N ([k,n,o,p,e,q]:List Int) j) tI rfl)) az))))))) ?_)
 refine Goes.ret ?_
 obtain rfl:=si h
 exact(gw2 [.i r] (Ua tI))
def qaL (a:qM):Option qM:=
 (zu a.Num).bind fun b=>
 some (⟨b,a.Den⟩:qM)
theorem qgf (a:qM) {res:qM} (h:qaL a=some res):qb ZT (.fn 130) [.agg (nq1 a)] [] (.agg (nq1 res)) []:=by
 unfold qaL at h
 refine Ub Tryz.func130 rfl rfl (m:=9) rfl (rs:=[.cell 2 107]) rfl (l:=[(0,.agg (nq1 a))]) rfl ?_
 refine sg fol (kR kAj) (.cells (nq1 a)::(kF [])) ?_
 obtain⟨b,c,h⟩:=bnd h
 refine sq (gq fol [2,6] kAj [.cells (nq1 a),.cells (ni2 b.s b.w a.Den.s a.Den.w)] (ac (cv (jQ a.Num c)) (ac (hs (.run [1] (qy ZT 107 (.ptr 1 0) (.agg (ni2 b.s b.w a.Den.s a.Den.w))) (.cells (nq1 a)::(kF [])) .undef [.cells (nq1 a),.cells (ni2 b.s b.w a.Den.s a.Den.w)] true) (zk (n:=4) (by kernel_rfl) rfl rfl rfl rfl (cac rfl (cac nvc (cac rfl (cac nvc can)))) rfl)) az)) ?_)
 refine Goes.ret ?_
 obtain rfl:=si h
 exact(gw2 [.agg (ni2 b.s b.w a.Den.s a.Den.w)] (FzW.agg (qd.cons (Ua tI) (qd.cons (Ua (qA (qa .u64) _ (nl rfl))) (qd.cons (Ua tI) (qd.cons (Ua (qA (qa .u64) _ (nl rfl))) qd.nil))))))
def qG (N:Nat) (y:qV) (k:Int) (l:List Int) (m:Int) (n:List Int):Nat->Int->(List Int)->Int->(List Int)->Int->Int->Option (Int×(List Int)×Int×(List Int)×Int)
 |0,_,_,_,_,_,_=>none
 |K+1,c,d,e,f,b,g=>
  if b<(y.Strength.length:Int)then
  (idx y.Strength b).bind fun h=>
  (vz N h.X).bind fun i=>
  (yu N i (⟨(⟨k,l⟩:ql),(⟨m,n⟩:ql)⟩:qM)).bind fun j=>
  if j>0 then
  some (c,d,e,f,g)
  else
  (vz N h.Y).bind fun a=>
  qG N y k l m n K a.Num.s a.Num.w a.Den.s a.Den.w (w64 (b+1)) 0
  else
  some (c,d,e,f,g)
def xe (N:Nat) (y:qV) (twist:qM):Option (qM×Int):=
 (xC twist).bind fun h=>
 ((if h<0 then
 (qaL twist).bind fun a=>
 some (a.Num.s,a.Num.w,a.Den.s,a.Den.w)
 else
 some (twist.Num.s,twist.Num.w,twist.Den.s,twist.Den.w):Option (Int×(List Int)×Int×(List Int)))).bind fun(i,j,k,l)=>
 (qj8 0).bind fun b=>
 (qG N y i j k l N b.Num.s b.Num.w b.Den.s b.Den.w 0 7).bind fun(c,d,e,f,g)=>
 some ((⟨(⟨c,d⟩:ql),(⟨e,f⟩:ql)⟩:qM),g)
theorem qdF (N:Nat) (y:qV) (twist:qM) {res:qM×Int} (h:xe N y twist=some res):qb ZT (.fn 60) (kAK y.Name y.Density y.Twist y.Strength y.Dye [.agg (nq1 twist)]) [] (.tuple [.agg (nq1 res.1),.i res.2]) []:=by
 unfold xe at h
 refine Ub Tryz.func60 rfl rfl (m:=35) rfl (rs:=[.cell 4 107,.tmp 5]) rfl (l:=(kW y.Name y.Density y.Twist y.Strength y.Dye [(1,.agg (nq1 twist))])) rfl ?_
 refine sg fol (kE []) (kB y.Name y.Density y.Twist y.Strength y.Dye (.cells (nq1 twist)::(kF []))) ?_
 refine Goes.scope ?_
 refine sq ?_
 obtain⟨P,D,h⟩:=bnd h
 refine sq (gr fol [1] (kE (kA1 (decide (P<0)))) (ac (cv (qcJ twist D)) az) ?_)
 obtain⟨U,g6,h⟩:=bnd h
 refine Goes.imp (Q:=fun x s'=>(x= .normal/\ ∃g j k o,(g,j,k,o)=U/\Sub s' (ofG 35 (kE []),(kB y.Name y.Density y.Twist y.Strength y.Dye (.cells (ni2 g j k o)::(kF [])))))) ?_ ?_
 ·refine ihD g6 (fun V g6=>?_) (fun V g6=>?_)
  ·obtain⟨I,E,g6⟩:=bnd g6
   refine gq fol [1,2] (kE []) (kB y.Name y.Density y.Twist y.Strength y.Dye (.cells (nq1 I)::(kF []))) (ac (cv (qgf twist E)) (ac (hs (.run [1] (qy ZT 107 (.ptr 1 0) (.agg (nq1 I))) (kB y.Name y.Density y.Twist y.Strength y.Dye (.cells (nq1 twist)::(kF []))) .undef (kB y.Name y.Density y.Twist y.Strength y.Dye (.cells (nq1 I)::(kF []))) true) (zk (n:=4) (by kernel_rfl) rfl rfl rfl rfl (cac rfl (cac nvc (cac rfl (cac nvc can)))) rfl)) az)) ?_
   obtain rfl:=si g6
   exact⟨rfl,_,_,_,_,rfl,(Sub.refl _)⟩
  refine Goes.skip ?_
  obtain rfl:=si g6
  exact⟨rfl,_,_,_,_,rfl,(Sub.keep [2,3,4] rfl rfl)⟩
 rintro x s' ⟨rfl,g,j,k,o,rfl,hsub⟩
 try dsimp only at h
 refine Goes.sub hsub ?_
 obtain⟨H,F,h⟩:=bnd h
 refine sq (gq fol [0,2] (kE [(6,.ptr 3 0),(7,.i 7)]) (kB y.Name y.Density y.Twist y.Strength y.Dye (.cells (ni2 g j k o)::(kF [.cells (nq1 H)]))) (ac (cv (qn7 0 F)) (ac (hs (.run [3] (qy ZT 107 (.ptr 3 0) (.agg (nq1 H))) (kB y.Name y.Density y.Twist y.Strength y.Dye (.cells (ni2 g j k o)::(kF (kF [])))) .undef (kB y.Name y.Density y.Twist y.Strength y.Dye (.cells (ni2 g j k o)::(kF [.cells (nq1 H)]))) true) (zk (n:=4) (by kernel_rfl) rfl rfl rfl rfl (cac rfl (cac nvc (cac rfl (cac nvc can)))) rfl)) az)) ?_)
 refine sq (Goes.label ?_)
 refine sq ?_
 refine sh fol (kAZ (kAS [(6,.ptr 3 0),(7,.i 7),(17,vl qc y.Strength),(18,.i (y.Strength.length:Int)),(19,.i 0)])) ?_
 refine Goes.block ?_
 obtain⟨G,g21,h⟩:=bnd h
 refine Goes.imp (Q:=fun x s'=>(x= .exit 0/\ ∃a b c d q,(a,b,c,d,q)=G/\Sub s' (ofG 35 (kAP [(6,.ptr 1 0),(7,.i q)]),(kF [.cells (ni2 a b c d)])))) ?_ ?_
 ·refine Goes.sub (s':=(ofG 35 (kX [(6,.ptr 2 0),(7,.i 7),(17,vl qc y.Strength),(18,.i (y.Strength.length:Int)),(19,.i 0)]),(.cells (ni2 g j k o)::(kF [.cells (nq1 H)])))) (Sub.norm [] [some 1,some 2,some 3] rfl rfl (.kp (.kp (.kp (.keep (.same nI) (.keep (.same (qf qc _)) (.keep (.same nI) (.keep (.same nI) .nil))))))) (.kb rfl (.same sn) (.kb rfl (.same sn) (.kb rfl (.same sn) .nil)))) ?_
  refine Uc (fun M s=> ∃(r:Int) (t:List Int) (u:Int) (v:List Int) (e:Int) (p:Int),s=(ofG 35 (kX ((6,.ptr 2 0)::(7,.i p)::(kA7 y.Strength (y.Strength.length:Int) e []))),(.cells (ni2 g j k o)::(kF [.cells (ni2 r t u v)])))/\qG N y g j k o M r t u v e p=some G) ?_ (m:=N) ⟨_,_,_,_,_,_,rfl,g21⟩
  rintro M s ⟨r,t,u,v,e,p,rfl,g21⟩
  cases M with
  |zero=>simp only[qG]at g21;cases g21
  |succ M=>
   rw[qG]at g21
   refine sh fol (kX ((6,.ptr 2 0)::(7,.i p)::(kA7 y.Strength (y.Strength.length:Int) e [(20,.bool (decide (e<(y.Strength.length:Int))))]))) ?_
   refine sq ?_
   refine ihD g21 (fun J g21=>?_) (fun J g21=>?_)
   ·refine Goes.skip ?_
    refine sq (Goes.block ?_)
    obtain⟨f,w,g21⟩:=bnd g21
    refine sq (gq fol [0,1] (kX ((6,.ptr 2 0)::(7,.i p)::(9,.ptr 3 0)::(kA7 y.Strength (y.Strength.length:Int) e []))) (.cells (ni2 g j k o)::(kF (.cells (ni2 r t u v)::(kAN f.X f.Y [])))) (ac (iv qda qc w) (ac (la ag67 qc w) az)) ?_)
    refine sq ?_
    obtain⟨K,A,g21⟩:=bnd g21
    obtain⟨L,B,g21⟩:=bnd g21
    refine sq (gr fol [2,4] (kX ((6,.ptr 2 0)::(7,.i p)::(9,.ptr 3 0)::(kA7 y.Strength (y.Strength.length:Int) e [(28,.bool (decide (L>0)))]))) (ac (cv (yZ N f.X A)) (ac (cv (qdA N K (⟨(⟨g,j⟩:ql),(⟨k,o⟩:ql)⟩:qM) B)) az)) ?_)
    refine ihD g21 (fun O g21=>?_) (fun O g21=>?_)
    ·refine Goes.exit ?_
     obtain rfl:=si g21
     exact⟨rfl,_,_,_,_,_,rfl,(Sub.norm [] [some 1,some 2] rfl rfl (.drop (.kp (.kp (.keep (.same nI) .nil)))) (.kb rfl (.same sn) (.kb rfl (.same sn) .nil)))⟩
    refine Goes.skip ?_
    obtain⟨z,C,g21⟩:=bnd g21
    refine gq fol [2,3] (kX ((6,.ptr 2 0)::(7,.i 0)::(kA7 y.Strength (y.Strength.length:Int) e []))) (.cells (ni2 g j k o)::(kF (.cells (nq1 z)::(kAN f.X f.Y [])))) (ac (cv (yZ N f.Y C)) (ac (hs (.run [2] (qy ZT 107 (.ptr 2 0) (.agg (nq1 z))) (.cells (ni2 g j k o)::(kF (.cells (ni2 r t u v)::(kAN f.X f.Y [])))) .undef (.cells (ni2 g j k o)::(kF (.cells (nq1 z)::(kAN f.X f.Y [])))) true) (zk (n:=4) (by kernel_rfl) rfl rfl rfl rfl (cac rfl (cac nvc (cac rfl (cac nvc can)))) rfl)) az)) ?_
    refine gh fol (kX ((6,.ptr 2 0)::(7,.i 0)::(kA7 y.Strength (y.Strength.length:Int) (w64 (e+1)) []))) ?_
    exact⟨M,(ofG 35 (kX ((6,.ptr 2 0)::(7,.i 0)::(kA7 y.Strength (y.Strength.length:Int) (w64 (e+1)) []))),(.cells (ni2 g j k o)::(kF [.cells (nq1 z)]))),Nat.lt_succ_self _,(Sub.norm [] [some 0,some 1,some 2] rfl rfl (.kp (.kp (.kp (.keep (.same nI) (.keep (.same (qf qc _)) (.keep (.same nI) (.keep (.same nI) .nil))))))) (.kb rfl (.same sn) (.kb rfl (.same sn) (.kb rfl (.same sn) .nil)))),_,_,_,_,_,_,rfl,g21⟩
   refine Goes.exit ?_
   obtain rfl:=si g21
   exact⟨rfl,_,_,_,_,_,rfl,(Sub.norm [] [some 1,some 2] rfl rfl (.drop (.kp (.kp (.keep (.same nI) .nil)))) (.kb rfl (.same sn) (.kb rfl (.same sn) .nil)))⟩
 rintro x s' ⟨rfl,a,b,c,d,q,rfl,hsub⟩
 try dsimp only at h
 refine Goes.sub hsub ?_
 refine sq (gq fol [2] (kAP (kAm q)) [.cells (ni2 a b c d),.cells (ni2 a b c d)] (ac (hs (.run [0] (qy ZT 107 (.ptr 0 0) (.agg (ni2 a b c d))) (kF [.cells (ni2 a b c d)]) .undef [.cells (ni2 a b c d),.cells (ni2 a b c d)] true) (zk (n:=4) (by kernel_rfl) rfl rfl rfl rfl (cac rfl (cac nvc (cac rfl (cac nvc can)))) rfl)) az) ?_)
 refine Goes.ret ?_
 obtain rfl:=si h
 exact(gw2 [.agg (ni2 a b c d),.i q] (FzW.tuple (qd.cons (FzW.agg (qd.cons (Ua tI) (qd.cons (Ua (qA (qa .u64) _ (nl rfl))) (qd.cons (Ua tI) (qd.cons (Ua (qA (qa .u64) _ (nl rfl))) qd.nil))))) (qd.cons (Ua tI) qd.nil))))
def yC (N:Nat) (y:qV):Option (Str×Int):=
 (jP N y).bind fun b=>
 if(!decide (b=0))=true then
 some ([],b)
 else
 (vz N y.Twist).bind fun d=>
 (xe N y d).bind fun a=>
 if(!decide (a.2=0))=true then
 some ([],a.2)
 else
 (xO N a.1).bind fun c=>
 some (c.1,c.2)
theorem qfZ (N:Nat) (y:qV) {res:Str×Int} (h:yC N y=some res):qb ZT (.fn 11) [.agg (kAx y.Name y.Density y.Twist y.Strength y.Dye)] [] (.tuple [.str res.1,.i res.2]) []:=by
 unfold yC at h
 refine Ub Tryz.func11 rfl rfl (m:=27) rfl (rs:=[.tmp 2,.tmp 3]) rfl (l:=(kW y.Name y.Density y.Twist y.Strength y.Dye [])) rfl ?_
 refine sg fol (kR []) (kB y.Name y.Density y.Twist y.Strength y.Dye []) ?_
 refine sq ?_
 obtain⟨b,c,h⟩:=bnd h
 refine sq (gr fol [1] (kR (kBU b)) (ac (cv (qaN N y c)) az) ?_)
 refine sh fol (kR ((4,.i b)::(kBR (!decide (b=0))))) ?_
 refine ihB h (fun j h=>?_) (fun j h=>?_)
 ·refine sh fol [(2,.str []),(3,.i b)] ?_
  refine Goes.ret ?_
  obtain rfl:=si h
  exact(gw2 [.str [],.i b] (FzW.tuple (qd.cons (Ua tS) (qd.cons (Ua tI) qd.nil))))
 refine Goes.skip ?_
 obtain⟨k,d,h⟩:=bnd h
 obtain⟨a,e,h⟩:=bnd h
 refine sq (gq fol [3,4,9] (kBL [(6,.i a.2)]) (kB y.Name y.Density y.Twist y.Strength y.Dye [.cells (nq1 a.1)]) (ac (cv (yZ N y.Twist d)) (ac (cv (qdF N y k e)) (ac (hs (.run [1] (qy ZT 107 (.ptr 1 0) (.agg (nq1 a.1))) (kB y.Name y.Density y.Twist y.Strength y.Dye (kF [])) .undef (kB y.Name y.Density y.Twist y.Strength y.Dye [.cells (nq1 a.1)]) true) (zk (n:=4) (by kernel_rfl) rfl rfl rfl rfl (cac rfl (cac nvc (cac rfl (cac nvc can)))) rfl)) az))) ?_)
 refine sq ?_
 refine sh fol (kBL [(6,.i a.2),(21,.bool (!decide (a.2=0)))]) ?_
 refine ihB h (fun o h=>?_) (fun o h=>?_)
 ·refine sh fol [(2,.str []),(3,.i a.2)] ?_
  refine Goes.ret ?_
  obtain rfl:=si h
  exact(gw2 [.str [],.i a.2] (FzW.tuple (qd.cons (Ua tS) (qd.cons (Ua tI) qd.nil))))
 refine Goes.skip ?_
 obtain⟨g,f,h⟩:=bnd h
 refine sq (gr fol [1] [(2,.str g.1),(3,.i g.2)] (ac (cv (qdJ N a.1 f)) az) ?_)
 refine Goes.ret ?_
 obtain rfl:=si h
 exact(gw2 [.str g.1,.i g.2] (FzW.tuple (qd.cons (Ua tS) (qd.cons (Ua tI) qd.nil))))
def qaX (N:Nat) (a:qM) (b:qM):Option qM:=
 ((jC a).bind fun g=>
 if g=true then
 (jC b).bind fun h=>
 some h
 else
 some false:Option Bool).bind fun i=>
 if i=true then
 (jS N a.Num b.Num).bind fun j=>
 (qbj j).bind fun k=>
 some k
 else
 (qI N a.Num b.Den).bind fun l=>
 (qI N b.Num a.Den).bind fun c=>
 (jS N l c).bind fun d=>
 (qI N a.Den b.Den).bind fun e=>
 (qcR N d e).bind fun f=>
 some f
theorem qgj (N:Nat) (a:qM) (b:qM) {res:qM} (h:qaX N a b=some res):qb ZT (.fn 63) [.agg (nq1 a),.agg (nq1 b)] [] (.agg (nq1 res)) []:=by
 unfold qaX at h
 refine Ub Tryz.func63 rfl rfl (m:=34) rfl (rs:=[.cell 4 107]) rfl (l:=[(0,.agg (nq1 a)),(1,.agg (nq1 b))]) rfl ?_
 refine sg fol (kE []) (.cells (nq1 a):: .cells (nq1 b)::(kF [])) ?_
 refine sq ?_
 refine sq ?_
 obtain⟨w,c,h⟩:=bnd h
 refine Goes.cut (s':=(ofG 34 (kE (kBR w)),(.cells (nq1 a):: .cells (nq1 b)::(kF [])))) ?_ ?_
 ·obtain⟨B,e,c⟩:=bnd c
  rcases wyB c with⟨s,c⟩|⟨s,c⟩
  ·obtain⟨x,k,c⟩:=bnd c
   obtain rfl:=si c
   exact tr fol [1,2,4] (kE (kBR x)) (ac (cv (yK a e)) (ac (gw s) (ac (cv (yK b k)) az)))
  obtain rfl:=si c
  exact tr fol [1,2] (kE [(10,.bool false)]) (ac (cv (yK a e)) (ac (gw s) az))
 refine ihB h (fun y h=>?_) (fun y h=>?_)
 ·obtain⟨z,o,h⟩:=bnd h
  obtain⟨r,p,h⟩:=bnd h
  refine sq (gq fol [4,5,6] (kAS []) [.cells (nq1 a),.cells (nq1 b),.cells (nq1 r)] (ac (cv (qab N a.Num b.Num o)) (ac (cv (qcY z p)) (ac (hs (.run [2] (qy ZT 107 (.ptr 2 0) (.agg (nq1 r))) (.cells (nq1 a):: .cells (nq1 b)::(kF [])) .undef [.cells (nq1 a),.cells (nq1 b),.cells (nq1 r)] true) (zk (n:=4) (by kernel_rfl) rfl rfl rfl rfl (cac rfl (cac nvc (cac rfl (cac nvc can)))) rfl)) az))) ?_)
  refine Goes.ret ?_
  obtain rfl:=si h
  exact(gw2 [.agg (nq1 r)] (FzW.agg (qd.cons (Ua tI) (qd.cons (Ua (qA (qa .u64) _ (nl rfl))) (qd.cons (Ua tI) (qd.cons (Ua (qA (qa .u64) _ (nl rfl))) qd.nil))))))
 refine Goes.skip ?_
 obtain⟨A,q,h⟩:=bnd h
 obtain⟨t,f,h⟩:=bnd h
 obtain⟨u,g,h⟩:=bnd h
 obtain⟨v,i,h⟩:=bnd h
 obtain⟨d,j,h⟩:=bnd h
 refine sq (gq fol [4,9,10,15,16,17] (kAS []) [.cells (nq1 a),.cells (nq1 b),.cells (nq1 d)] (ac (cv (jY N a.Num b.Den q)) (ac (cv (jY N b.Num a.Den f)) (ac (cv (qab N A t g)) (ac (cv (jY N a.Den b.Den i)) (ac (cv (qku N u v j)) (ac (hs (.run [2] (qy ZT 107 (.ptr 2 0) (.agg (nq1 d))) (.cells (nq1 a):: .cells (nq1 b)::(kF [])) .undef [.cells (nq1 a),.cells (nq1 b),.cells (nq1 d)] true) (zk (n:=4) (by kernel_rfl) rfl rfl rfl rfl (cac rfl (cac nvc (cac rfl (cac nvc can)))) rfl)) az)))))) ?_)
 refine Goes.ret ?_
 obtain rfl:=si h
 exact(gw2 [.agg (nq1 d)] (FzW.agg (qd.cons (Ua tI) (qd.cons (Ua (qA (qa .u64) _ (nl rfl))) (qd.cons (Ua tI) (qd.cons (Ua (qA (qa .u64) _ (nl rfl))) qd.nil))))))
def xP:Option (List qY):=
 qna (some []) ((app 32 ([]:List qY) ([]:List qY)).bind fun a=>
 some a)
theorem qcC {res:List qY} (h:xP=some res):qb ZT (.fn 64) [vl qc ([]:List qY)] [] (vl qc res) []:=by
 unfold xP at h
 refine Ub Tryz.func64 rfl rfl (m:=8) rfl (rs:=[.tmp 2]) rfl (l:=[(0,vl qc ([]:List qY))]) rfl ?_
 refine sh fol [(0,vl qc ([]:List qY))] ?_
 refine sq ?_
 refine sh fol [(0,vl qc ([]:List qY)),(4,.anyb)] ?_
 refine Goes.condAny (by kernel_rfl) ?_ ?_
 ·replace h:=(qhn h).1
  refine sh fol [(2,.nilslice)] ?_
  refine Goes.ret ?_
  obtain rfl:=si h
  exact(gw2 [.nilslice] (FzW.nilv (E:=qc)))
 replace h:=(qhn h).2
 refine Goes.skip ?_
 obtain⟨a,b,h⟩:=bnd h
 refine sq (gq fol [2] [(2,.oslice 1 a.length 2)] (kBZ a) (ac (hs (.run [0] (yw ZT [23,23] (.slice 0 0 0 0 2) (vl qc ([]:List qY))) [.cells []] (.oslice 1 a.length 2) (kBZ a) true) (qaV qda (E:=qc) rfl (qoA (E:=qc) rfl _) (qoP (E:=qc) rfl rfl rfl b rfl))) az) ?_)
 refine Goes.ret ?_
 obtain rfl:=si h
 exact(gw2 [.oslice 1 a.length 2] (FzW.fz (Fz.os (E:=qc) rfl rfl (nl rfl))))
def jK (hd:qY) (tl:List qY):Option (List qY):=
 (app 32 ([]:List qY) (hd::tl)).bind fun a=>
 some a
theorem qcN (hd:qY) (tl:List qY) {res:List qY} (h:jK hd tl=some res):qb ZT (.fn 64) [vl qc (hd::tl)] [] (vl qc res) []:=by
 unfold jK at h
 refine Ub Tryz.func64 rfl rfl (m:=8) rfl (rs:=[.tmp 2]) rfl (l:=(kBI (hd::tl) [])) rfl ?_
 refine sh fol (kBI (hd::tl) []) ?_
 refine sq ?_
 refine sh fol (kBI (hd::tl) kAp) ?_
 refine Goes.ifB (b:=false) (by kernel_rfl) (fun c=>(by cases c)) (fun _=>?_)
 refine Goes.skip ?_
 obtain⟨a,d,h⟩:=bnd h
 refine sq (gq fol [2] [(2,.oslice 1 a.length 2)] (kBZ a) (ac (hs (.run [0] (yw ZT [23,23] (.slice 0 0 0 0 2) (vl qc (hd::tl))) [.cells []] (.oslice 1 a.length 2) (kBZ a) true) (qaV qda (E:=qc) rfl (qoA (E:=qc) rfl _) (qoP (E:=qc) rfl rfl rfl d rfl))) az) ?_)
 refine Goes.ret ?_
 obtain rfl:=si h
 exact(gw2 [.oslice 1 a.length 2] (FzW.fz (Fz.os (E:=qc) rfl rfl (nl rfl))))
def qaC:(List qY)->Option (List qY)
 |[]=>xP
 |hd::tl=>jK hd tl
theorem qdD (l:List qY) {res:List qY} (h:qaC l=some res):qb ZT (.fn 64) [vl qc l] [] (vl qc res) []:=by
 cases l with
 |nil=>exact qcC h
 |cons hd tl=>exact qcN hd tl h
def qa3 (N:Nat) (y:qV) (turns:Str):Option (qV×Int):=
 (jP N y).bind fun d=>
 (xc N turns).bind fun e=>
 (yH N ([d,e]:List Int)).bind fun c=>
 if(!decide (c=0))=true then
 some ((⟨[],[],[],[],[]⟩:qV),c)
 else
 (vz N y.Twist).bind fun f=>
 (vz N turns).bind fun g=>
 (qaX N f g).bind fun h=>
 (xO N h).bind fun a=>
 if(!decide (a.2=0))=true then
 some ((⟨[],[],[],[],[]⟩:qV),a.2)
 else
 (qaC y.Strength).bind fun b=>
 some ((⟨y.Name,y.Density,a.1,b,y.Dye⟩:qV),0)
theorem qgk (N:Nat) (y:qV) (turns:Str) {res:qV×Int} (h:qa3 N y turns=some res):qb ZT (.fn 12) (kAK y.Name y.Density y.Twist y.Strength y.Dye [.str turns]) [] (.tuple (kAK res.1.Name res.1.Density res.1.Twist res.1.Strength res.1.Dye [.i res.2])) []:=by
 unfold qa3 at h
 refine Ub Tryz.func12 rfl rfl (m:=42) rfl (rs:=[.cell 4 25,.tmp 5]) rfl (l:=(kW y.Name y.Density y.Twist y.Strength y.Dye [(1,.str turns)])) rfl ?_
 refine sg fol ((1,.str turns)::(kM (kAb []))) (kB y.Name y.Density y.Twist y.Strength y.Dye (kAC [])) ?_
 refine sq ?_
 obtain⟨c,g,h⟩:=bnd h
 obtain⟨d,j,h⟩:=bnd h
 obtain⟨f,k,h⟩:=bnd h
 refine sq (gq fol [1,3,5] ((1,.str turns)::(kM (kAb [(6,.i f)]))) (kB y.Name y.Density y.Twist y.Strength y.Dye (kAC (kAE c d))) (ac (cv (qaN N y g)) (ac (cv (qbz N turns j)) (ac (hs (.call 52 [.slice 2 0 2 2 1] (kB y.Name y.Density y.Twist y.Strength y.Dye (kAC (kAE c d))) [2] [vl encI ([c,d]:List Int)] (.i f)) (qd2 (FzL.cons (Fz.lit rfl rfl (Ue (AllST.cons tI (AllST.cons tI AllST.nil)))) FzL.nil) (qcu N ([c,d]:List Int) k) tI rfl)) az))) ?_)
 refine sh fol ((1,.str turns)::(kM (kAb [(6,.i f),(17,.bool (!decide (f=0)))]))) ?_
 refine ihB h (fun r h=>?_) (fun r h=>?_)
 ·refine sh fol (kAb (kAm f)) ?_
  refine Goes.ret ?_
  obtain rfl:=si h
  exact(gw2 [.agg [.str [],.str [],.str [],.nilslice,.str []],.i f] (FzW.tuple (qd.cons (FzW.agg (qd.cons (Ua tS) (qd.cons (Ua tS) (qd.cons (Ua tS) (qd.cons (FzW.nilv (E:=qc)) (qd.cons (Ua tS) qd.nil)))))) (qd.cons (Ua tI) qd.nil))))
 refine Goes.skip ?_
 obtain⟨s,n,h⟩:=bnd h
 obtain⟨t,o,h⟩:=bnd h
 obtain⟨u,p,h⟩:=bnd h
 obtain⟨a,q,h⟩:=bnd h
 refine sq (gr fol [2,4,5,6] (kM (kAb [(7,.str a.1),(8,.i a.2)])) (ac (cv (yZ N y.Twist n)) (ac (cv (yZ N turns o)) (ac (cv (qgj N s t p)) (ac (cv (qdJ N u q)) az)))) ?_)
 refine sq ?_
 refine sh fol (kM (kAb [(7,.str a.1),(8,.i a.2),(31,.bool (!decide (a.2=0)))])) ?_
 refine ihB h (fun v h=>?_) (fun v h=>?_)
 ·refine sh fol (kAb (kAm a.2)) ?_
  refine Goes.ret ?_
  obtain rfl:=si h
  exact(gw2 [.agg [.str [],.str [],.str [],.nilslice,.str []],.i a.2] (FzW.tuple (qd.cons (FzW.agg (qd.cons (Ua tS) (qd.cons (Ua tS) (qd.cons (Ua tS) (qd.cons (FzW.nilv (E:=qc)) (qd.cons (Ua tS) qd.nil)))))) (qd.cons (Ua tI) qd.nil))))
 refine Goes.skip ?_
 refine sg fol (kM (kAb [(7,.str a.1),(9,.ptr 3 0)])) (kB y.Name y.Density y.Twist y.Strength y.Dye (kAC (.cells [.i c,.i d]::(kB y.Name y.Density y.Twist y.Strength y.Dye [])))) ?_
 obtain⟨b,e,h⟩:=bnd h
 refine sq (gq fol [3] (kAb [(9,.ptr 3 0)]) (kB y.Name y.Density y.Twist y.Strength y.Dye (kAC (.cells [.i c,.i d]::(kB y.Name y.Density a.1 b y.Dye [])))) (ac (cv (qdD y.Strength e)) az) ?_)
 refine sg fol (kAb [(5,.i 0)]) (kB y.Name y.Density y.Twist y.Strength y.Dye (kB y.Name y.Density a.1 b y.Dye (.cells [.i c,.i d]::(kB y.Name y.Density a.1 b y.Dye [])))) ?_
 refine Goes.ret ?_
 obtain rfl:=si h
 exact(gw2 (kAK y.Name y.Density a.1 b y.Dye [.i 0]) (FzW.tuple (qd.cons (FzW.agg (qd.cons (Ua tS) (qd.cons (Ua tS) (qd.cons (Ua tS) (qd.cons (Ua (qw qc _ (nl rfl))) (qd.cons (Ua tS) qd.nil)))))) (qd.cons (Ua tI) qd.nil))))
def qX (N:Nat) (y:qV) (e:Str):Nat->Int->Int->Option Int
 |0,_,_=>none
 |K+1,f,a=>
  if a<(y.Strength.length:Int)then
  (((idx y.Strength a).bind fun b=>
  (qa9 N b.X e).bind fun c=>
  if c<=0 then
  some a
  else
  some f:Option Int)).bind fun d=>
  qX N y e K d (w64 (a+1))
  else
  some f
def yQ (N:Nat) (y:qV):Option (Str×Int):=
 (ve y.Twist).bind fun c=>
 ((if c<0 then
 (qbN N [48] y.Twist).bind fun d=>
 some d
 else
 some y.Twist:Option Str)).bind fun e=>
 (qX N y e N (-1) 0).bind fun b=>
 if b<0 then
 some ([],7)
 else
 (idx y.Strength b).bind fun a=>
 some (a.Y,0)
theorem qff (N:Nat) (y:qV) {res:Str×Int} (h:yQ N y=some res):qb ZT (.fn 15) [.agg (kAx y.Name y.Density y.Twist y.Strength y.Dye)] [] (.tuple [.str res.1,.i res.2]) []:=by
 unfold yQ at h
 refine Ub Tryz.func15 rfl rfl (m:=39) rfl (rs:=[.tmp 2,.tmp 3]) rfl (l:=(kW y.Name y.Density y.Twist y.Strength y.Dye [])) rfl ?_
 refine sg fol (kR []) (kB y.Name y.Density y.Twist y.Strength y.Dye []) ?_
 refine sh fol (kR (kBG y.Twist)) ?_
 refine sq ?_
 obtain⟨z,g,h⟩:=bnd h
 refine sq (gr fol [1] (kR [(4,.str y.Twist),(11,.bool (decide (z<0)))]) (ac (cv (yD y.Twist g)) az) ?_)
 obtain⟨A,g3,h⟩:=bnd h
 refine Goes.imp (Q:=fun x s'=>(x= .normal/\ ∃a,a=A/\Sub s' (ofG 39 (kR (kBG a)),(kB y.Name y.Density y.Twist y.Strength y.Dye [])))) ?_ ?_
 ·refine ihD g3 (fun B g3=>?_) (fun B g3=>?_)
  ·obtain⟨C,j,g3⟩:=bnd g3
   refine gr fol [1] (kR (kBG C)) (ac (cv (qe5 N [48] y.Twist j)) az) ?_
   obtain rfl:=si g3
   exact⟨rfl,_,rfl,(Sub.refl _)⟩
  refine Goes.skip ?_
  obtain rfl:=si g3
  exact⟨rfl,_,rfl,(Sub.keep [1,4] rfl rfl)⟩
 rintro x s' ⟨rfl,a,rfl,hsub⟩
 refine Goes.sub hsub ?_
 refine sh fol (kR [(4,.str a),(5,.i (-1))]) ?_
 refine sq ?_
 refine sh fol (kR [(4,.str a),(5,.i (-1)),(6,.i 0)]) ?_
 refine Goes.block ?_
 obtain⟨w,g9,h⟩:=bnd h
 refine Goes.imp (Q:=fun x s'=>(x= .exit 0/\ ∃k,k=w/\Sub s' (ofG 39 (kR (kAm k)),(kB y.Name y.Density y.Twist y.Strength y.Dye [])))) ?_ ?_
 ·refine Uc (fun M s=> ∃(n:Int) (b:Int),s=(ofG 39 (kR ((4,.str a)::(kAw n b []))),(kB y.Name y.Density y.Twist y.Strength y.Dye []))/\qX N y a M n b=some w) ?_ (m:=N) ⟨_,_,rfl,g9⟩
  rintro M s ⟨n,b,rfl,g9⟩
  cases M with
  |zero=>simp only[qX]at g9;cases g9
  |succ M=>
   rw[qX]at g9
   refine sq ?_
   refine sh fol (kR ((4,.str a)::(kAw n b [(18,.bool (decide (b<(y.Strength.length:Int))))]))) ?_
   refine ihD g9 (fun p g9=>?_) (fun p g9=>?_)
   ·refine Goes.skip ?_
    refine sq ?_
    obtain⟨q,g12,g9⟩:=bnd g9
    refine Goes.imp (Q:=fun x s'=>(x= .normal/\ ∃c,c=q/\Sub s' (ofG 39 (kR ((4,.str a)::(kAw c b []))),(kB y.Name y.Density y.Twist y.Strength y.Dye [])))) ?_ ?_
    ·refine Goes.block ?_
     obtain⟨r,d,g12⟩:=bnd g12
     obtain⟨t,f,g12⟩:=bnd g12
     refine sq (gr fol [3,5,7] (kR ((4,.str a)::(kAw n b [(29,.bool (decide (t<=0)))]))) (ac (iv qda qc d) (ac (lv 0 qfI qc d rfl) (ac (cv (qe2 N r.X a f)) az))) ?_)
     refine ihD g12 (fun u g12=>?_) (fun u g12=>?_)
     ·refine gh fol (kR [(4,.str a),(5,.i b),(6,.i b)]) ?_
      obtain rfl:=si g12
      exact⟨rfl,_,rfl,(Sub.refl _)⟩
     refine Goes.skip ?_
     obtain rfl:=si g12
     exact⟨rfl,_,rfl,(Sub.keep [1,4,5,6] rfl rfl)⟩
    rintro x s' ⟨rfl,c,rfl,hsub⟩
    refine Goes.sub hsub ?_
    refine gh fol (kR ((4,.str a)::(kAw c (w64 (b+1)) []))) ?_
    exact⟨M,(ofG 39 (kR ((4,.str a)::(kAw c (w64 (b+1)) []))),(kB y.Name y.Density y.Twist y.Strength y.Dye [])),Nat.lt_succ_self _,(Sub.refl _),_,_,rfl,g9⟩
   refine Goes.exit ?_
   obtain rfl:=si g9
   exact⟨rfl,_,rfl,(Sub.keep [1,5] rfl rfl)⟩
 rintro x s' ⟨rfl,k,rfl,hsub⟩
 refine Goes.sub hsub ?_
 refine sq ?_
 refine sh fol (kR [(5,.i k),(32,.bool (decide (k<0)))]) ?_
 refine ihD h (fun v h=>?_) (fun v h=>?_)
 ·refine sh fol [(2,.str []),(3,.i 7)] ?_
  refine Goes.ret ?_
  obtain rfl:=si h
  exact(gw2 [.str [],.i 7] (FzW.tuple (qd.cons (Ua tS) (qd.cons (Ua tI) qd.nil))))
 refine Goes.skip ?_
 obtain⟨o,e,h⟩:=bnd h
 refine sq (gr fol [3,5] [(2,.str o.Y),(3,.i 0)] (ac (iv qda qc e) (ac (lv 1 qfI qc e rfl) az)) ?_)
 refine Goes.ret ?_
 obtain rfl:=si h
 exact(gw2 [.str o.Y,.i 0] (FzW.tuple (qd.cons (Ua tS) (qd.cons (Ua tI) qd.nil))))
def qas (N:Nat) (y:qV) (turns:Str):Option qV:=
 (qbO N y.Twist turns).bind fun a=>
 some (⟨y.Name,y.Density,a,y.Strength,y.Dye⟩:qV)
theorem qf4 (N:Nat) (y:qV) (turns:Str) {res:qV} (h:qas N y turns=some res):qb ZT (.fn 16) (kAK y.Name y.Density y.Twist y.Strength y.Dye [.str turns]) [] (.agg (kAx res.Name res.Density res.Twist res.Strength res.Dye)) []:=by
 unfold qas at h
 refine Ub Tryz.func16 rfl rfl (m:=11) rfl (rs:=[.cell 4 26]) rfl (l:=(kW y.Name y.Density y.Twist y.Strength y.Dye [(1,.str turns)])) rfl ?_
 refine sg fol ((1,.str turns)::(kM (kAb []))) (kB y.Name y.Density y.Twist y.Strength y.Dye (kAC [])) ?_
 obtain⟨b,a,h⟩:=bnd h
 refine sq (gq fol [3] (kM (kAb [])) (kB y.Name y.Density b y.Strength y.Dye (kAC [])) (ac (cv (qfo N y.Twist turns a)) az) ?_)
 refine sg fol (kAb []) (kB y.Name y.Density b y.Strength y.Dye (kB y.Name y.Density b y.Strength y.Dye [])) ?_
 refine Goes.ret ?_
 obtain rfl:=si h
 exact(gw2 [.agg (kAx y.Name y.Density b y.Strength y.Dye)] (FzW.agg (qd.cons (Ua tS) (qd.cons (Ua tS) (qd.cons (Ua tS) (qd.cons (Ua (qw qc _ (nl rfl))) (qd.cons (Ua tS) qd.nil)))))))
def vP (y:qV):Nat->(List Str)->Int->Option (List Str)
 |0,_,_=>none
 |K+1,b,a=>
  if a<(y.Strength.length:Int)then
  (idx y.Strength a).bind fun c=>
  (app 16 b [c.X,c.Y]).bind fun d=>
  vP y K d (w64 (a+1))
  else
  some b
def qaI (N:Nat) (y:qV):Option Int:=
 (vP y N ([y.Density,y.Twist]:List Str) 0).bind fun a=>
 (qaY N a).bind fun b=>
 some b
theorem qhb (N:Nat) (y:qV) {res:Int} (h:qaI N y=some res):qb ZT (.fn 17) [.agg (kAx y.Name y.Density y.Twist y.Strength y.Dye)] [] (.i res) []:=by
 unfold qaI at h
 refine Ub Tryz.func17 rfl rfl (m:=34) rfl (rs:=[.tmp 2]) rfl (l:=(kW y.Name y.Density y.Twist y.Strength y.Dye [])) rfl ?_
 refine sg fol (kR []) (kB y.Name y.Density y.Twist y.Strength y.Dye []) ?_
 refine sg fol (kR [(3,.slice 1 0 2 2 1)]) (kB y.Name y.Density y.Twist y.Strength y.Dye (kAN y.Density y.Twist [])) ?_
 refine sq ?_
 refine sh fol (kR ((3,.slice 1 0 2 2 1)::kBc)) ?_
 refine Goes.block ?_
 obtain⟨n,g4,h⟩:=bnd h
 refine Goes.imp (Q:=fun x s'=>(x= .exit 0/\ ∃b,b=n/\Sub s' (ofG 34 [(3,.oslice 0 b.length 1)],(kZ b [])))) ?_ ?_
 ·refine Goes.sub (s':=(ofG 34 (kR ((3,.oslice 1 ([y.Density,y.Twist]:List Str).length 1)::kBc)),(kB y.Name y.Density y.Twist y.Strength y.Dye (kZ ([y.Density,y.Twist]:List Str) [])))) (Sub.norm [9999] [some 0,some 1] rfl rfl (.kp (.keep (zV.own rfl rfl (by kernel_rfl) (by kernel_rfl) rfl rfl) (.keep (.same nI) .nil))) (.kb rfl (.same sn) (.ks .nil))) ?_
  refine Uc (fun M s=> ∃(c:List Str) (d:Int),s=(ofG 34 (kR ((3,.oslice 1 c.length 1)::(kBU d))),(kB y.Name y.Density y.Twist y.Strength y.Dye (kZ c [])))/\vP y M c d=some n) ?_ (m:=N) ⟨_,_,rfl,g4⟩
  rintro M s ⟨c,d,rfl,g4⟩
  cases M with
  |zero=>simp only[vP]at g4;cases g4
  |succ M=>
   rw[vP]at g4
   refine sq ?_
   refine sh fol (kR [(3,.oslice 1 c.length 1),(4,.i d),(14,.bool (decide (d<(y.Strength.length:Int))))]) ?_
   refine ihD g4 (fun o g4=>?_) (fun o g4=>?_)
   ·refine Goes.skip ?_
    refine sq (Goes.block ?_)
    obtain⟨e,a,g4⟩:=bnd g4
    obtain⟨f,g,g4⟩:=bnd g4
    refine gq fol [4,6,10,12,14] (kR ((3,.oslice 3 f.length 1)::(kBU d))) (kB y.Name y.Density y.Twist y.Strength y.Dye (.dead::(kAN e.X e.Y (kZ f [])))) (ac (iv qda qc a) (ac (lv 0 qfI qc a rfl) (ac (iv qda qc a) (ac (lv 1 qfI qc a rfl) (ac (hs (.run [1,2] (yw ZT [120,120] (.oslice 1 c.length 1) (.slice 2 0 2 2 1)) (kB y.Name y.Density y.Twist y.Strength y.Dye (kZ c (kAN e.X e.Y []))) (.oslice 3 f.length 1) (kB y.Name y.Density y.Twist y.Strength y.Dye (.dead::(kAN e.X e.Y (kZ f [])))) true) (qaV qp8 (E:=encS) rfl (qga (E:=encS) (ys:=[e.X,e.Y]) rfl rfl rfl rfl) (qp9 (E:=encS) (l:=c) rfl rfl rfl g rfl))) az))))) ?_
    refine gh fol (kR ((3,.oslice 3 f.length 1)::(kBU (w64 (d+1))))) ?_
    exact⟨M,(ofG 34 (kR ((3,.oslice 1 f.length 1)::(kBU (w64 (d+1))))),(kB y.Name y.Density y.Twist y.Strength y.Dye (kZ f []))),Nat.lt_succ_self _,(Sub.norm [] [some 0,some 3] rfl rfl (.kp (.keep (.oslice rfl) (.keep (.same nI) .nil))) (.kb rfl (.same sn) (.ks .nil))),_,_,rfl,g4⟩
   refine Goes.exit ?_
   obtain rfl:=si g4
   exact⟨rfl,_,rfl,(Sub.norm [] [some 1] rfl rfl (.drop (.keep (.oslice rfl) .nil)) (.ks .nil))⟩
 rintro x s' ⟨rfl,b,rfl,hsub⟩
 refine Goes.sub hsub ?_
 obtain⟨k,j,h⟩:=bnd h
 refine sq (gr fol [1] (kA3 k) (ac (hs (.call 72 [.oslice 0 b.length 1] (kZ b []) [0] [vl encS b] (.i k)) (qd2 (FzL.cons (Fz.os (E:=encS) rfl rfl (nl rfl)) FzL.nil) (qfz N b j) tI rfl)) az) ?_)
 refine Goes.ret ?_
 obtain rfl:=si h
 exact(gw2 [.i k] (Ua tI))
def jb (a:qV) (b:qV):Nat->Int->Option (Unit⊕Bool)
 |0,_=>none
 |K+1,e=>
  if e<(a.Strength.length:Int)then
  (idx a.Strength e).bind fun c=>
  (idx b.Strength e).bind fun d=>
  if(!((c.X==d.X)&&((c.Y==d.Y)&&true)))=true then
  some (.inr false)
  else
  jb a b K (w64 (e+1))
  else
  some (.inl ())
def xS (N:Nat) (a:qV) (b:qV):Option Bool:=
 (if(!(a.Name==b.Name))=true then
 some true
 else
 if(!(a.Density==b.Density))=true then
 some true
 else
 if(!(a.Twist==b.Twist))=true then
 some true
 else
 if(!(a.Dye==b.Dye))=true then
 some true
 else
 some (!decide ((a.Strength.length:Int)=(b.Strength.length:Int))):Option Bool).bind fun d=>
 if d=true then
 some false
 else
 (jb a b N 0).bind (fun
 |(.inl ())=>
 some true
 |(.inr c)=>
 some c)
theorem qck (N:Nat) (a:qV) (b:qV) {res:Bool} (h:xS N a b=some res):qb ZT (.fn 18) (kAK a.Name a.Density a.Twist a.Strength a.Dye (kAK b.Name b.Density b.Twist b.Strength b.Dye [])) [] (.bool res) []:=by
 unfold xS at h
 refine Ub Tryz.func18 rfl rfl (m:=59) rfl (rs:=[.tmp 4]) rfl (l:=(kW a.Name a.Density a.Twist a.Strength a.Dye [(1,.agg [.str b.Name,.str b.Density,.str b.Twist,vl qc b.Strength,.str b.Dye])])) rfl ?_
 refine sg fol (kM (kAZ [])) (kB a.Name a.Density a.Twist a.Strength a.Dye (kB b.Name b.Density b.Twist b.Strength b.Dye [])) ?_
 refine sq ?_
 refine sq ?_
 obtain⟨w,c,h⟩:=bnd h
 refine Goes.cut (s':=(ofG 59 (kM (kAZ [(40,.bool w)])),(kB a.Name a.Density a.Twist a.Strength a.Dye (kB b.Name b.Density b.Twist b.Strength b.Dye [])))) ?_ ?_
 ·rcases wyB c with⟨n,c⟩|⟨n,c⟩
  ·obtain rfl:=si c
   exact tr fol [5] (kM (kAZ [(40,.bool true)])) (ac (gw n) az)
  rcases wyB c with⟨o,c⟩|⟨o,c⟩
  ·obtain rfl:=si c
   exact tr fol [5,12] (kM (kAZ [(40,.bool true)])) (ac (gw n) (ac (gw o) az))
  rcases wyB c with⟨q,c⟩|⟨q,c⟩
  ·obtain rfl:=si c
   exact tr fol [5,12,19] (kM (kAZ [(40,.bool true)])) (ac (gw n) (ac (gw o) (ac (gw q) az)))
  rcases wyB c with⟨r,c⟩|⟨r,c⟩
  ·obtain rfl:=si c
   exact tr fol [5,12,19,26] (kM (kAZ [(40,.bool true)])) (ac (gw n) (ac (gw o) (ac (gw q) (ac (gw r) az))))
  obtain rfl:=si c
  exact tr fol [5,12,19,26] (kM (kAZ [(40,.bool (!decide ((a.Strength.length:Int)=(b.Strength.length:Int))))])) (ac (gw n) (ac (gw o) (ac (gw q) (ac (gw r) az))))
 refine ihB h (fun y h=>?_) (fun y h=>?_)
 ·refine sh fol kAp ?_
  refine Goes.ret ?_
  obtain rfl:=si h
  exact(gw2 [.bool false] (Ua tB))
 refine Goes.skip ?_
 refine sq ?_
 refine sh fol (kM (kAZ [(5,.i 0)])) ?_
 refine Goes.block ?_
 obtain⟨t,g9,h⟩:=bnd h
 refine Goes.imp (Q:=fun x s'=>(x= .exit 0/\(.inl ())=t/\Sub s' (ofG 59 [],[]))\/(x= .ret/\ ∃p,(.inr p)=t/\zM ZT [.tmp 4] (.bool p) .ret s')) ?_ ?_
 ·refine Uc (fun M s=> ∃(k:Int),s=(ofG 59 (kM (kAZ (kAm k))),(kB a.Name a.Density a.Twist a.Strength a.Dye (kB b.Name b.Density b.Twist b.Strength b.Dye [])))/\jb a b M k=some t) ?_ (m:=N) ⟨_,rfl,g9⟩
  rintro M s ⟨k,rfl,g9⟩
  cases M with
  |zero=>simp only[jb]at g9;cases g9
  |succ M=>
   rw[jb]at g9
   refine sq ?_
   refine sh fol (kM (kAZ [(5,.i k),(45,.bool (decide (k<(a.Strength.length:Int))))])) ?_
   refine ihD g9 (fun u g9=>?_) (fun u g9=>?_)
   ·refine Goes.skip ?_
    refine sq (Goes.block ?_)
    obtain⟨d,g,g9⟩:=bnd g9
    obtain⟨f,j,g9⟩:=bnd g9
    refine sq (gr fol [3,4,8,9,10] (kM (kAZ [(5,.i k),(58,.bool (!((d.X==f.X)&&((d.Y==f.Y)&&true))))])) (ac (iv qda qc g) (ac (la ag67 qc g) (ac (iv qda qc j) (ac (la ag67 qc j) (ac (hs (.done (.opt (qZ ZT .neq 67 (.tmp 52) (.tmp 57) (.agg (kBY d.X d.Y)) (.agg (kBY f.X f.Y)))) (.bool (!((d.X==f.X)&&((d.Y==f.Y)&&true))))) (ne_ag eqt67 (e:=((d.X==f.X)&&((d.Y==f.Y)&&true))) (.cons (a:= .str d.X) (b:= .str f.X) rfl (by kernel_rfl) (by kernel_rfl) (by kernel_rfl) (.cons (a:= .str d.Y) (b:= .str f.Y) rfl (by kernel_rfl) (by kernel_rfl) (by kernel_rfl) .nil)))) az))))) ?_)
    refine ihB g9 (fun v g9=>?_) (fun v g9=>?_)
    ·refine sh fol kAp ?_
     refine Goes.ret ?_
     obtain rfl:=si g9
     exact Or.inr (⟨rfl,_,rfl,(gw2 [.bool false] (Ua tB))⟩)
    refine Goes.skip ?_
    refine gh fol (kM (kAZ (kAm (w64 (k+1))))) ?_
    exact⟨M,(ofG 59 (kM (kAZ (kAm (w64 (k+1))))),(kB a.Name a.Density a.Twist a.Strength a.Dye (kB b.Name b.Density b.Twist b.Strength b.Dye []))),Nat.lt_succ_self _,(Sub.refl _),_,rfl,g9⟩
   refine Goes.exit ?_
   obtain rfl:=si g9
   exact Or.inl (⟨rfl,rfl,(Sub.norm [] [] rfl rfl .nil .nil)⟩)
 rintro x s' (⟨rfl,rfl,hsub⟩|⟨rfl,z,rfl,hret⟩)
 ·try dsimp only at h
  refine Goes.sub hsub ?_
  refine sh fol [(4,.bool true)] ?_
  refine Goes.ret ?_
  obtain rfl:=si h
  exact(gw2 [.bool true] (Ua tB))
 try dsimp only at h
 obtain rfl:=si h
 exact hret
end Go.Av
