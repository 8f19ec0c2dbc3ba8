/-
  Walks of functions: what each computes, as a plain function.
-/
import Derived.Test.YtlhmomppjidoiaaGreatDoorQGenY3
noncomputable section
namespace Go.Av
open Go.Proofs Go.RowKit
set_option linter.unusedSectionVars false
set_option linter.unusedVariables false
set_option linter.unusedSimpArgs false
set_option maxRecDepth 100000
def qcq (N:Nat) (a:qC) (b:qC):Option qC:=
 if(a.neg==b.neg)=true then
 (yn N a.w b.w).bind fun c=>
 (zo N a.neg c).bind fun d=>
 some d
 else
 (jo N a.w b.w).bind fun e=>
 if e>=0 then
 (ym N a.w b.w).bind fun f=>
 (zo N a.neg f).bind fun g=>
 some g
 else
 (ym N b.w a.w).bind fun h=>
 (zo N b.neg h).bind fun i=>
 some i
theorem qiE (N:Nat) (a:qC) (b:qC) {res:qC} (h:qcq N a b=some res):qb ZT (.fn 141) (kAl a.neg a.w b.neg b.w) [] (.agg (kAf res.neg res.w)) []:=by
 unfold qcq at h
 refine Ub Tryz.func141 rfl rfl (m:=40) rfl (rs:=[.cell 4 116]) rfl (l:=(kBT a.neg a.w b.neg b.w)) rfl ?_
 refine sg fol (kE []) (kK a.neg a.w b.neg b.w (kN [])) ?_
 refine sq ?_
 refine sh fol (kE [(9,.bool (a.neg==b.neg))]) ?_
 refine ihB h (fun p h=>?_) (fun p h=>?_)
 ·obtain⟨q,c,h⟩:=bnd h
  obtain⟨k,d,h⟩:=bnd h
  refine sq (gq fol [6,7] (kAS []) (kK a.neg a.w b.neg b.w (kAL k.neg k.w [])) (ac (cv (qcl N a.w b.w c)) (ac (cv (zC N a.neg q d)) az)) ?_)
  refine Goes.ret ?_
  obtain rfl:=si h
  exact(gw2 [.agg (kAf k.neg k.w)] (FzW.agg (qc.cons (Ua tB) (qc.cons (Ua (qx encI _ (nl rfl))) qc.nil))))
 refine Goes.skip ?_
 refine sq ?_
 obtain⟨r,e,h⟩:=bnd h
 refine sq (gr fol [4] (kE [(23,.bool (decide (r>=0)))]) (ac (cv (qa0 N a.w b.w e)) az) ?_)
 refine ihD h (fun s h=>?_) (fun s h=>?_)
 ·obtain⟨t,f,h⟩:=bnd h
  obtain⟨n,g,h⟩:=bnd h
  refine sq (gq fol [6,7] (kAS []) (kK a.neg a.w b.neg b.w (kAL n.neg n.w [])) (ac (cv (qco N a.w b.w f)) (ac (cv (zC N a.neg t g)) az)) ?_)
  refine Goes.ret ?_
  obtain rfl:=si h
  exact(gw2 [.agg (kAf n.neg n.w)] (FzW.agg (qc.cons (Ua tB) (qc.cons (Ua (qx encI _ (nl rfl))) qc.nil))))
 refine Goes.skip ?_
 obtain⟨u,i,h⟩:=bnd h
 obtain⟨o,j,h⟩:=bnd h
 refine sq (gq fol [6,7] (kAS []) (kK a.neg a.w b.neg b.w (kAL o.neg o.w [])) (ac (cv (qco N b.w a.w i)) (ac (cv (zC N b.neg u j)) az)) ?_)
 refine Goes.ret ?_
 obtain rfl:=si h
 exact(gw2 [.agg (kAf o.neg o.w)] (FzW.agg (qc.cons (Ua tB) (qc.cons (Ua (qx encI _ (nl rfl))) qc.nil))))
def qcX (N:Nat) (a:Str) (b:Str):Option Str:=
 (jT N a).bind fun c=>
 (jT N b).bind fun d=>
 (if c.2.2=true then
 some d.2.2
 else
 some false:Option Bool).bind fun l=>
 if l=true then
 (qc0 N (w64 ((w64 (c.1*d.2.1))+(w64 (d.1*c.2.1)))) (w64 (c.2.1*d.2.1))).bind fun m=>
 some m
 else
 (jd N a).bind fun e=>
 (jd N b).bind fun f=>
 (yA N e.1 f.2).bind fun g=>
 (yA N f.1 e.2).bind fun h=>
 (qcq N g h).bind fun i=>
 (yA N e.2 f.2).bind fun j=>
 (jQ N i j).bind fun k=>
 some k
theorem qjt (N:Nat) (a:Str) (b:Str) {res:Str} (h:qcX N a b=some res):qb ZT (.fn 71) (kBY a b) [] (.str res) []:=by
 unfold qcX at h
 refine Ub Tryz.func71 rfl rfl (m:=63) rfl (rs:=[.tmp 4]) rfl (l:=(kQ a b [])) rfl ?_
 refine sh fol (kQ a b []) ?_
 obtain⟨d,p,h⟩:=bnd h
 refine sq (gr fol [1] (kQ a b (kAw d.1 d.2.1 [(7,.bool d.2.2)])) (ac (cv (qba N a p)) az) ?_)
 obtain⟨e,q,h⟩:=bnd h
 refine sq (gr fol [1] (kQ a b (kAw d.1 d.2.1 ((7,.bool d.2.2)::(kA2 e.1 e.2.1 (kBR e.2.2))))) (ac (cv (qba N b q)) az) ?_)
 refine sq ?_
 refine sq ?_
 obtain⟨C,c,h⟩:=bnd h
 refine Goes.cut (s':=(ofG 63 (kQ a b (kAw d.1 d.2.1 (kA2 e.1 e.2.1 [(30,.bool C)]))),[])) ?_ ?_
 ·rcases wyB c with⟨v,c⟩|⟨v,c⟩
  ·obtain rfl:=si c
   exact tr fol [1] (kQ a b (kAw d.1 d.2.1 (kA2 e.1 e.2.1 [(30,.bool e.2.2)]))) (ac (gw v) az)
  obtain rfl:=si c
  exact tr fol [1] (kQ a b (kAw d.1 d.2.1 (kA2 e.1 e.2.1 [(30,.bool false)]))) (ac (gw v) az)
 refine ihB h (fun D h=>?_) (fun D h=>?_)
 ·obtain⟨B,r,h⟩:=bnd h
  refine sq (gr fol [10] (kBG B) (ac (cv (qgy N (w64 ((w64 (d.1*e.2.1))+(w64 (e.1*d.2.1)))) (w64 (d.2.1*e.2.1)) r)) az) ?_)
  refine Goes.ret ?_
  obtain rfl:=si h
  exact(gw2 [.str B] (Ua tS))
 refine Goes.skip ?_
 obtain⟨f,s,h⟩:=bnd h
 refine sq (gq fol [1] [(1,.str b),(11,.ptr 0 0),(12,.ptr 1 0)] (kK f.1.neg f.1.w f.2.neg f.2.w []) (ac (cv (yf N a s)) az) ?_)
 obtain⟨g,t,h⟩:=bnd h
 refine sq (gq fol [1] [(11,.ptr 0 0),(12,.ptr 1 0),(13,.ptr 2 0),(14,.ptr 3 0)] (kK f.1.neg f.1.w f.2.neg f.2.w (kK g.1.neg g.1.w g.2.neg g.2.w [])) (ac (cv (yf N b t)) az) ?_)
 obtain⟨x,i,h⟩:=bnd h
 obtain⟨y,j,h⟩:=bnd h
 obtain⟨z,k,h⟩:=bnd h
 obtain⟨A,n,h⟩:=bnd h
 obtain⟨u,o,h⟩:=bnd h
 refine sq (gr fol [2,5,6,9,10] (kBG u) (ac (cv (xW N f.1 g.2 i)) (ac (cv (xW N g.1 f.2 j)) (ac (cv (qiE N x y k)) (ac (cv (xW N f.2 g.2 n)) (ac (cv (xP N z A o)) az))))) ?_)
 refine Goes.ret ?_
 obtain rfl:=si h
 exact(gw2 [.str u] (Ua tS))
def qcR (a:Str):Option Str:=
 (vX a).bind fun b=>
 if b<0 then
 (cut a 1 (a.length:Int)).bind fun c=>
 some c
 else
 (vX a).bind fun d=>
 if d=0 then
 some a
 else
 (cat [45] a).bind fun e=>
 some e
theorem qjw (a:Str) {res:Str} (h:qcR a=some res):qb ZT (.fn 140) [.str a] [] (.str res) []:=by
 unfold qcR at h
 refine Ub Tryz.func140 rfl rfl (m:=14) rfl (rs:=[.tmp 2]) rfl (l:=(kAH a)) rfl ?_
 refine sh fol (kAH a) ?_
 refine sq ?_
 obtain⟨j,b,h⟩:=bnd h
 refine sq (gr fol [1] (kA5 a (kBh (decide (j<0)))) (ac (cv (xH a b)) az) ?_)
 refine ihD h (fun k h=>?_) (fun k h=>?_)
 ·obtain⟨f,c,h⟩:=bnd h
  refine sq (gr fol [1] (kBH f) (ac (hs (.done (.opt (qU ZT 22 (.str a) (some (.i 1)) none none)) (.str f)) (z8 qlq (some 1) none c)) az) ?_)
  refine Goes.ret ?_
  obtain rfl:=si h
  exact(gw2 [.str f] (Ua tS))
 refine Goes.skip ?_
 refine sq ?_
 obtain⟨n,d,h⟩:=bnd h
 refine sq (gr fol [1] (kA5 a (kBR (decide (n=0)))) (ac (cv (xH a d)) az) ?_)
 refine ihD h (fun o h=>?_) (fun o h=>?_)
 ·refine sh fol (kBH a) ?_
  refine Goes.ret ?_
  obtain rfl:=si h
  exact(gw2 [.str a] (Ua tS))
 refine Goes.skip ?_
 obtain⟨g,e,h⟩:=bnd h
 refine sq (gr fol [1] (kBH g) (ac (hs (.done (.opt (qZ ZT .add 22 (.const (.string ⟨#[45]⟩)) (.tmp 12) (.str [45]) (.str a))) (.str g)) (qaJ e)) az) ?_)
 refine Goes.ret ?_
 obtain rfl:=si h
 exact(gw2 [.str g] (Ua tS))
def qbu (N:Nat) (a:Str) (b:Str):Option Str:=
 (qcR b).bind fun c=>
 (qcX N a c).bind fun d=>
 some d
theorem qdF (N:Nat) (a:Str) (b:Str) {res:Str} (h:qbu N a b=some res):qb ZT (.fn 70) (kBY a b) [] (.str res) []:=by
 unfold qbu at h
 refine Ub Tryz.func70 rfl rfl (m:=9) rfl (rs:=[.tmp 4]) rfl (l:=(kQ a b [])) rfl ?_
 refine sh fol (kQ a b []) ?_
 obtain⟨f,c,h⟩:=bnd h
 obtain⟨e,d,h⟩:=bnd h
 refine sq (gr fol [2,3] (kBG e) (ac (cv (qjw b c)) (ac (cv (qjt N a f d)) az)) ?_)
 refine Goes.ret ?_
 obtain rfl:=si h
 exact(gw2 [.str e] (Ua tS))
def qaS (N:Nat) (a:Str) (b:Str):Option Int:=
 (qbu N a b).bind fun c=>
 (vX c).bind fun d=>
 some d
theorem qfK (N:Nat) (a:Str) (b:Str) {res:Int} (h:qaS N a b=some res):qb ZT (.fn 36) (kBY a b) [] (.i res) []:=by
 unfold qaS at h
 refine Ub Tryz.func36 rfl rfl (m:=9) rfl (rs:=[.tmp 4]) rfl (l:=(kQ a b [])) rfl ?_
 refine sh fol (kQ a b []) ?_
 obtain⟨f,c,h⟩:=bnd h
 obtain⟨e,d,h⟩:=bnd h
 refine sq (gr fol [2,3] (kBU e) (ac (cv (qdF N a b c)) (ac (cv (xH f d)) az)) ?_)
 refine Goes.ret ?_
 obtain rfl:=si h
 exact(gw2 [.i e] (Ua tI))
def vw (c:Str):Nat->Int->Option (Unit⊕Bool)
 |0,_=>none
 |K+1,b=>
  if b<(c.length:Int)then
  (idx c b).bind fun a=>
  (if(a.toNat:Int)>=97 then
  if(a.toNat:Int)<=122 then
  some true
  else
  if(a.toNat:Int)>=65 then
  some (decide ((a.toNat:Int)<=90))
  else
  some false
  else
  if(a.toNat:Int)>=65 then
  some (decide ((a.toNat:Int)<=90))
  else
  some false:Option Bool).bind fun d=>
  (if(!d)=true then
  if b=0 then
  some true
  else
  if(a.toNat:Int)>=48 then
  if(a.toNat:Int)<=57 then
  some false
  else
  some (!(decide ((a.toNat:Int)=95)))
  else
  some (!(decide ((a.toNat:Int)=95)))
  else
  some false:Option Bool).bind fun e=>
  if e=true then
  some (.inr false)
  else
  vw c K (w64 (b+1))
  else
  some (.inl ())
def qav (N:Nat) (a:Str):Option Bool:=
 (if(a.length:Int)<1 then
 some true
 else
 some (decide ((a.length:Int)>24)):Option Bool).bind fun c=>
 if c=true then
 some false
 else
 (vw a N 0).bind (fun
 |(.inl ())=>
 some true
 |(.inr b)=>
 some b)
theorem qdN (N:Nat) (c:Str) {res:Bool} (h:qav N c=some res):qb ZT (.fn 50) [.str c] [] (.bool res) []:=by
 unfold qav at h
 refine Ub Tryz.func50 rfl rfl (m:=56) rfl (rs:=[.tmp 2]) rfl (l:=(kAH c)) rfl ?_
 refine sh fol (kAH c) ?_
 refine sq ?_
 refine sq ?_
 obtain⟨B,e,h⟩:=bnd h
 refine Goes.cut (s':=(ofG 56 (kA5 c (kBE B)),[])) ?_ ?_
 ·rcases wyD e with⟨u,e⟩|⟨u,e⟩
  ·obtain rfl:=si e
   exact tr fol [3] (kA5 c [(13,.bool true)]) (ac (gw u) az)
  obtain rfl:=si e
  exact tr fol [3] (kA5 c (kBE (decide ((c.length:Int)>24)))) (ac (gw u) az)
 refine ihB h (fun C h=>?_) (fun C h=>?_)
 ·refine sh fol kAq ?_
  refine Goes.ret ?_
  obtain rfl:=si h
  exact(gw2 [.bool false] (Ua tB))
 refine Goes.skip ?_
 refine sq ?_
 refine sh fol (kA5 c [(3,.i 0)]) ?_
 refine Goes.block ?_
 obtain⟨v,g6,h⟩:=bnd h
 refine Goes.imp (Q:=fun x s'=>(x= .exit 0/\(.inl ())=v/\Sub s' (ofG 56 [],[]))\/(x= .ret/\ ∃A,(.inr A)=v/\zS ZT [.tmp 2] (.bool A) .ret s')) ?_ ?_
 ·refine Uc (fun M s=> ∃(d:Int),s=(ofG 56 (kAF c d []),[])/\vw c M d=some v) ?_ (m:=N) ⟨_,rfl,g6⟩
  rintro M s ⟨d,rfl,g6⟩
  cases M with
  |zero=>simp only[vw]at g6;cases g6
  |succ M=>
   rw[vw]at g6
   refine sq ?_
   refine sh fol (kAF c d [(17,.bool (decide (d<(c.length:Int))))]) ?_
   refine ihD g6 (fun D g6=>?_) (fun D g6=>?_)
   ·refine Goes.skip ?_
    refine sq (Goes.block ?_)
    obtain⟨j,t,g6⟩:=bnd g6
    refine sq (gr fol [2] (kAF c d [(4,.int .u8 (j.toNat:Int))]) (ac (hs (.done (.opt (yc ZT 9 (.str c) (.i d))) (.int .u8 (j.toNat:Int))) (qae st9 t)) az) ?_)
    refine sq ?_
    obtain⟨w,a,g6⟩:=bnd g6
    refine Goes.cut (s':=(ofG 56 (kAF c d ((4,.int .u8 (j.toNat:Int))::(kBh w))),[])) ?_ ?_
    ·rcases wyD a with⟨f,a⟩|⟨f,a⟩
     ·rcases wyD a with⟨n,a⟩|⟨n,a⟩
      ·obtain rfl:=si a
       exact tr fol [2,6] (kAF c d [(4,.int .u8 (j.toNat:Int)),(5,.bool true)]) (ac (gw f) (ac (gw n) az))
      rcases wyD a with⟨p,a⟩|⟨p,a⟩
      ·obtain rfl:=si a
       exact tr fol [2,6,9] (kAF c d ((4,.int .u8 (j.toNat:Int))::(kBh (decide ((j.toNat:Int)<=90))))) (ac (gw f) (ac (gw n) (ac (gw p) az)))
      obtain rfl:=si a
      exact tr fol [2,6,9] (kAF c d [(4,.int .u8 (j.toNat:Int)),(5,.bool false)]) (ac (gw f) (ac (gw n) (ac (gw p) az)))
     rcases wyD a with⟨q,a⟩|⟨q,a⟩
     ·obtain rfl:=si a
      exact tr fol [2,9] (kAF c d ((4,.int .u8 (j.toNat:Int))::(kBh (decide ((j.toNat:Int)<=90))))) (ac (gw f) (ac (gw q) az))
     obtain rfl:=si a
     exact tr fol [2,9] (kAF c d [(4,.int .u8 (j.toNat:Int)),(5,.bool false)]) (ac (gw f) (ac (gw q) az))
    refine sq ?_
    obtain⟨y,b,g6⟩:=bnd g6
    refine Goes.cut (s':=(ofG 56 (kAF c d [(55,.bool y)]),[])) ?_ ?_
    ·rcases wyB b with⟨g,b⟩|⟨g,b⟩
     ·rcases wyD b with⟨k,b⟩|⟨k,b⟩
      ·obtain rfl:=si b
       exact tr fol [2,5] (kAF c d [(55,.bool true)]) (ac (gw g) (ac (gw k) az))
      rcases wyD b with⟨o,b⟩|⟨o,b⟩
      ·rcases wyD b with⟨r,b⟩|⟨r,b⟩
       ·obtain rfl:=si b
        exact tr fol [2,5,8,12] (kAF c d [(55,.bool false)]) (ac (gw g) (ac (gw k) (ac (gw o) (ac (gw r) az))))
       obtain rfl:=si b
       exact tr fol [2,5,8,12] (kAF c d [(55,.bool (!(decide ((j.toNat:Int)=95))))]) (ac (gw g) (ac (gw k) (ac (gw o) (ac (gw r) az))))
      obtain rfl:=si b
      exact tr fol [2,5,8] (kAF c d [(55,.bool (!(decide ((j.toNat:Int)=95))))]) (ac (gw g) (ac (gw k) (ac (gw o) az)))
     obtain rfl:=si b
     exact tr fol [2] (kAF c d [(55,.bool false)]) (ac (gw g) az)
    refine ihB g6 (fun z g6=>?_) (fun z g6=>?_)
    ·refine sh fol kAq ?_
     refine Goes.ret ?_
     obtain rfl:=si g6
     exact Or.inr (⟨rfl,_,rfl,(gw2 [.bool false] (Ua tB))⟩)
    refine Goes.skip ?_
    refine gh fol (kAF c (w64 (d+1)) []) ?_
    exact⟨M,(ofG 56 (kAF c (w64 (d+1)) []),[]),Nat.lt_succ_self _,(Sub.refl _),_,rfl,g6⟩
   refine Goes.exit ?_
   obtain rfl:=si g6
   exact Or.inl (⟨rfl,rfl,(Sub.keep [] rfl rfl)⟩)
 rintro x s' (⟨rfl,rfl,hsub⟩|⟨rfl,E,rfl,hret⟩)
 ·try dsimp only at h
  refine Goes.sub hsub ?_
  refine sh fol kBd ?_
  refine Goes.ret ?_
  obtain rfl:=si h
  exact(gw2 [.bool true] (Ua tB))
 try dsimp only at h
 obtain rfl:=si h
 exact hret
def qbK (N:Nat) (a:Str):Option Bool:=
 (if(a==[])=true then
 some true
 else
 (qav N a).bind fun b=>
 some b:Option Bool).bind fun c=>
 some c
theorem qhC (N:Nat) (b:Str) {res:Bool} (h:qbK N b=some res):qb ZT (.fn 51) [.str b] [] (.bool res) []:=by
 unfold qbK at h
 refine Ub Tryz.func51 rfl rfl (m:=9) rfl (rs:=[.tmp 2]) rfl (l:=(kAH b)) rfl ?_
 refine sh fol (kAH b) ?_
 refine sq ?_
 obtain⟨e,a,h⟩:=bnd h
 refine Goes.cut (s':=(ofG 9 (kBQ e),[])) ?_ ?_
 ·rcases wyB a with⟨d,a⟩|⟨d,a⟩
  ·obtain rfl:=si a
   exact tr fol [2] kBd (ac (gw d) az)
  obtain⟨f,c,a⟩:=bnd a
  obtain rfl:=si a
  exact tr fol [2,4] (kBQ f) (ac (gw d) (ac (cv (qdN N b c)) az))
 refine Goes.ret ?_
 obtain rfl:=si h
 exact(gw2 [.bool e] (Ua tB))
def qI (N:Nat) (y:yH):Nat->Int->Option (Unit⊕Int)
 |0,_=>none
 |K+1,a=>
  if a<(y.Strength.length:Int)then
  (idx y.Strength a).bind fun b=>
  (kL N b.X).bind fun c=>
  ((if c=0 then
  (kL N b.Y).bind fun e=>
  some e
  else
  some c:Option Int)).bind fun d=>
  if(!decide (d=0))=true then
  some (.inr d)
  else
  (if a>0 then
  (idx y.Strength (w64 (a-1))).bind fun f=>
  (qaS N b.X f.X).bind fun g=>
  some (decide (g<=0))
  else
  some false:Option Bool).bind fun h=>
  if h=true then
  some (.inr 11)
  else
  qI N y K (w64 (a+1))
  else
  some (.inl ())
def vD (N:Nat) (y:yH):Option Int:=
 (qav N y.Name).bind fun e=>
 if(!e)=true then
 some 8
 else
 (xX N y.Density).bind fun c=>
 ((if c=0 then
 (qaa N y.Twist).bind fun f=>
 some f
 else
 some c:Option Int)).bind fun d=>
 if(!decide (d=0))=true then
 some d
 else
 if(y.Strength.length:Int)=0 then
 some 12
 else
 if(y.Strength.length:Int)>256 then
 some 5
 else
 (qI N y N 0).bind (fun
 |(.inl ())=>
 (qbK N y.Dye).bind fun a=>
 if(!a)=true then
 some 8
 else
 some 0
 |(.inr b)=>
 some b)
theorem qaL (N:Nat) (y:yH) {res:Int} (h:vD N y=some res):qb ZT (.fn 9) [.agg (kAx y.Name y.Density y.Twist y.Strength y.Dye)] [] (.i res) []:=by
 unfold vD at h
 refine Ub Tryz.func9 rfl rfl (m:=78) rfl (rs:=[.tmp 2]) rfl (l:=(kW y.Name y.Density y.Twist y.Strength y.Dye [])) rfl ?_
 refine sg fol (kR []) (kB y.Name y.Density y.Twist y.Strength y.Dye []) ?_
 refine sq ?_
 obtain⟨O,t,h⟩:=bnd h
 refine sq (gr fol [2] (kR [(9,.bool (!O))]) (ac (cv (qdN N y.Name t)) az) ?_)
 refine ihB h (fun P h=>?_) (fun P h=>?_)
 ·refine sh fol [(2,.i 8)] ?_
  refine Goes.ret ?_
  obtain rfl:=si h
  exact(gw2 [.i 8] (Ua tI))
 refine Goes.skip ?_
 obtain⟨z,u,h⟩:=bnd h
 refine sq (gr fol [2] (kR [(3,.i z)]) (ac (cv (qfu N y.Density u)) az) ?_)
 refine sq ?_
 refine sh fol (kR [(3,.i z),(14,.bool (decide (z=0)))]) ?_
 obtain⟨U,g5,h⟩:=bnd h
 refine Goes.imp (Q:=fun x s'=>(x= .normal/\ ∃f,f=U/\Sub s' (ofG 78 (kR [(3,.i f)]),(kB y.Name y.Density y.Twist y.Strength y.Dye [])))) ?_ ?_
 ·refine ihD g5 (fun V g5=>?_) (fun V g5=>?_)
  ·obtain⟨Z,v,g5⟩:=bnd g5
   refine gr fol [2] (kR [(3,.i Z)]) (ac (cv (qcp N y.Twist v)) az) ?_
   obtain rfl:=si g5
   exact⟨rfl,_,rfl,(Sub.refl _)⟩
  refine Goes.skip ?_
  obtain rfl:=si g5
  exact⟨rfl,_,rfl,(Sub.keep [1,3] rfl rfl)⟩
 rintro x s' ⟨rfl,f,rfl,hsub⟩
 refine Goes.sub hsub ?_
 refine sq ?_
 refine sh fol (kR [(3,.i f),(19,.bool (!decide (f=0)))]) ?_
 refine ihB h (fun c8 h=>?_) (fun c8 h=>?_)
 ·refine sh fol (kA3 f) ?_
  refine Goes.ret ?_
  obtain rfl:=si h
  exact(gw2 [.i f] (Ua tI))
 refine Goes.skip ?_
 refine sq ?_
 refine sh fol (kR [(24,.bool (decide ((y.Strength.length:Int)=0)))]) ?_
 refine ihD h (fun c9 h=>?_) (fun c9 h=>?_)
 ·refine sh fol [(2,.i 12)] ?_
  refine Goes.ret ?_
  obtain rfl:=si h
  exact(gw2 [.i 12] (Ua tI))
 refine Goes.skip ?_
 refine sq ?_
 refine sh fol (kR [(28,.bool (decide ((y.Strength.length:Int)>256)))]) ?_
 refine ihD h (fun A h=>?_) (fun A h=>?_)
 ·refine sh fol [(2,.i 5)] ?_
  refine Goes.ret ?_
  obtain rfl:=si h
  exact(gw2 [.i 5] (Ua tI))
 refine Goes.skip ?_
 refine sq ?_
 refine sh fol (kR kBc) ?_
 refine Goes.block ?_
 obtain⟨g,g12,h⟩:=bnd h
 refine Goes.imp (Q:=fun x s'=>(x= .exit 0/\(.inl ())=g/\Sub s' (ofG 78 (kR []),(kB y.Name y.Density y.Twist y.Strength y.Dye [])))\/(x= .ret/\ ∃w,(.inr w)=g/\zS ZT [.tmp 2] (.i w) .ret s')) ?_ ?_
 ·refine Uc (fun M s=> ∃(b:Int),s=(ofG 78 (kR (kBU b)),(kB y.Name y.Density y.Twist y.Strength y.Dye []))/\qI N y M b=some g) ?_ (m:=N) ⟨_,rfl,g12⟩
  rintro M s ⟨b,rfl,g12⟩
  cases M with
  |zero=>simp only[qI]at g12;cases g12
  |succ M=>
   rw[qI]at g12
   refine sq ?_
   refine sh fol (kR [(4,.i b),(33,.bool (decide (b<(y.Strength.length:Int))))]) ?_
   refine ihD g12 (fun B g12=>?_) (fun B g12=>?_)
   ·refine Goes.skip ?_
    refine sq (Goes.block ?_)
    obtain⟨j,c,g12⟩:=bnd g12
    obtain⟨k,n,g12⟩:=bnd g12
    refine sq (gr fol [3,5,6] (kR ((4,.i b)::(kAm k))) (ac (iv qiC qo c) (ac (lv 0 qjG qo c rfl) (ac (cv (yC N j.X n)) az))) ?_)
    refine sq ?_
    refine sh fol (kR [(4,.i b),(5,.i k),(44,.bool (decide (k=0)))]) ?_
    obtain⟨C,g18,g12⟩:=bnd g12
    refine Goes.imp (Q:=fun x s'=>(x= .normal/\ ∃d,d=C/\Sub s' (ofG 78 (kR ((4,.i b)::(kAm d))),(kB y.Name y.Density y.Twist y.Strength y.Dye [])))) ?_ ?_
    ·refine ihD g18 (fun D g18=>?_) (fun D g18=>?_)
     ·obtain⟨E,o,g18⟩:=bnd g18
      refine gr fol [3,5,6] (kR ((4,.i b)::(kAm E))) (ac (iv qiC qo c) (ac (lv 1 qjG qo c rfl) (ac (cv (yC N j.Y o)) az))) ?_
      obtain rfl:=si g18
      exact⟨rfl,_,rfl,(Sub.refl _)⟩
     refine Goes.skip ?_
     obtain rfl:=si g18
     exact⟨rfl,_,rfl,(Sub.keep [1,4,5] rfl rfl)⟩
    rintro x s' ⟨rfl,d,rfl,hsub⟩
    refine Goes.sub hsub ?_
    refine sq ?_
    refine sh fol (kR [(4,.i b),(5,.i d),(53,.bool (!decide (d=0)))]) ?_
    refine ihB g12 (fun F g12=>?_) (fun F g12=>?_)
    ·refine sh fol (kA3 d) ?_
     refine Goes.ret ?_
     obtain rfl:=si g12
     exact Or.inr (⟨rfl,_,rfl,(gw2 [.i d] (Ua tI))⟩)
    refine Goes.skip ?_
    refine sq ?_
    obtain⟨G,a,g12⟩:=bnd g12
    refine Goes.cut (s':=(ofG 78 (kR [(4,.i b),(73,.bool G)]),(kB y.Name y.Density y.Twist y.Strength y.Dye []))) ?_ ?_
    ·rcases wyD a with⟨p,a⟩|⟨p,a⟩
     ·obtain⟨H,e,a⟩:=bnd a
      obtain⟨I,q,a⟩:=bnd a
      obtain rfl:=si a
      exact tr fol [2,6,8,13,15,16] (kR [(4,.i b),(73,.bool (decide (I<=0)))]) (ac (gw p) (ac (iv qiC qo c) (ac (lv 0 qjG qo c rfl) (ac (iv qiC qo e) (ac (lv 0 qjG qo e rfl) (ac (cv (qfK N j.X H.X q)) az))))))
     obtain rfl:=si a
     exact tr fol [2] (kR [(4,.i b),(73,.bool false)]) (ac (gw p) az)
    refine ihB g12 (fun J g12=>?_) (fun J g12=>?_)
    ·refine sh fol [(2,.i 11)] ?_
     refine Goes.ret ?_
     obtain rfl:=si g12
     exact Or.inr (⟨rfl,_,rfl,(gw2 [.i 11] (Ua tI))⟩)
    refine Goes.skip ?_
    refine gh fol (kR (kBU (w64 (b+1)))) ?_
    exact⟨M,(ofG 78 (kR (kBU (w64 (b+1)))),(kB y.Name y.Density y.Twist y.Strength y.Dye [])),Nat.lt_succ_self _,(Sub.refl _),_,rfl,g12⟩
   refine Goes.exit ?_
   obtain rfl:=si g12
   exact Or.inl (⟨rfl,rfl,(Sub.keep [1] rfl rfl)⟩)
 rintro x s' (⟨rfl,rfl,hsub⟩|⟨rfl,q30,rfl,hret⟩)
 ·try dsimp only at h
  refine Goes.sub hsub ?_
  refine sq ?_
  obtain⟨K,r,h⟩:=bnd h
  refine sq (gr fol [2] [(77,.bool (!K))] (ac (cv (qhC N y.Dye r)) az) ?_)
  refine ihB h (fun L h=>?_) (fun L h=>?_)
  ·refine sh fol [(2,.i 8)] ?_
   refine Goes.ret ?_
   obtain rfl:=si h
   exact(gw2 [.i 8] (Ua tI))
  refine Goes.skip ?_
  refine sh fol [(2,.i 0)] ?_
  refine Goes.ret ?_
  obtain rfl:=si h
  exact(gw2 [.i 0] (Ua tI))
 try dsimp only at h
 obtain rfl:=si h
 exact hret
def yu (c:Int):Option Bool:=
 (if c>=97 then
 if c<=122 then
 some true
 else
 if c>=65 then
 some (decide (c<=90))
 else
 some false
 else
 if c>=65 then
 some (decide (c<=90))
 else
 some false:Option Bool).bind fun a=>
 some a
theorem vV (c:Int) {res:Bool} (h:yu c=some res):qb ZT (.fn 180) [.int .i32 c] [] (.bool res) []:=by
 unfold yu at h
 refine Ub Tryz.func180 rfl rfl (m:=17) rfl (rs:=[.tmp 2]) rfl (l:=[(0,.int .i32 c)]) rfl ?_
 refine sh fol [(0,.int .i32 c)] ?_
 refine sq ?_
 obtain⟨g,a,h⟩:=bnd h
 refine Goes.cut (s':=(ofG 17 (kBQ g),[])) ?_ ?_
 ·rcases wyD a with⟨b,a⟩|⟨b,a⟩
  ·rcases wyD a with⟨d,a⟩|⟨d,a⟩
   ·obtain rfl:=si a
    exact tr fol [2,6] kBd (ac (gw b) (ac (gw d) az))
   rcases wyD a with⟨e,a⟩|⟨e,a⟩
   ·obtain rfl:=si a
    exact tr fol [2,6,9] (kBQ (decide (c<=90))) (ac (gw b) (ac (gw d) (ac (gw e) az)))
   obtain rfl:=si a
   exact tr fol [2,6,9] kAq (ac (gw b) (ac (gw d) (ac (gw e) az)))
  rcases wyD a with⟨f,a⟩|⟨f,a⟩
  ·obtain rfl:=si a
   exact tr fol [2,9] (kBQ (decide (c<=90))) (ac (gw b) (ac (gw f) az))
  obtain rfl:=si a
  exact tr fol [2,9] kAq (ac (gw b) (ac (gw f) az))
 refine Goes.ret ?_
 obtain rfl:=si h
 exact(gw2 [.bool g] (Ua tB))
def jG (b:Str):Nat->Nat->Option (Unit⊕Bool)
 |0,_=>none
 |K+1,a=>
  if a<b.length then
  ((yu (yl b a)).bind fun d=>
  if(!d)=true then
  if(a:Int)=0 then
  some true
  else
  if(!decide ((yl b a)=95))=true then
  if(yl b a)<48 then
  some true
  else
  some (decide ((yl b a)>57))
  else
  some false
  else
  some false:Option Bool).bind fun c=>
  if c=true then
  some (.inr false)
  else
  jG b K (a+runeLen b a)
  else
  some (.inl ())
def xK (N:Nat) (a:Str):Option Bool:=
 (jG a N 0).bind (fun
 |(.inl ())=>
 (if(!(a==[]))=true then
 some (decide ((a.length:Int)<=24))
 else
 some false:Option Bool).bind fun b=>
 some b
 |(.inr c)=>
 some c)
theorem qcS (N:Nat) (d:Str) {res:Bool} (h:xK N d=some res):qb ZT (.fn 118) [.str d] [] (.bool res) []:=by
 unfold xK at h
 refine Ub Tryz.func118 rfl rfl (m:=37) rfl (rs:=[.tmp 2]) rfl (l:=(kAH d)) rfl ?_
 refine sh fol (kAH d) ?_
 refine sq ?_
 refine sg fol (kAr d []) [.iter d 0] ?_
 refine Goes.block ?_
 obtain⟨r,g2,h⟩:=bnd h
 refine Goes.imp (Q:=fun x s'=>(x= .exit 0/\(.inl ())=r/\Sub s' (ofG 37 (kAH d),[]))\/(x= .ret/\ ∃w,(.inr w)=r/\zS ZT [.tmp 2] (.bool w) .ret s')) ?_ ?_
 ·refine Goes.sub (s':=(ofG 37 (kAr d []),[.iter d 0])) (Sub.keep [0,6] rfl rfl) ?_
  refine Uc (fun M s=> ∃(e:Nat),s=(ofG 37 (kAr d []),[.iter d e])/\jG d M e=some r) ?_ (m:=N) ⟨_,rfl,g2⟩
  rintro M s ⟨e,rfl,g2⟩
  cases M with
  |zero=>simp only[jG]at g2;cases g2
  |succ M=>
   rw[jG]at g2
   refine sq ?_
   rcases Classical.em (e<d.length)with n|n
   ·rw[if_pos n]at g2
    refine gq fol [0] (kAr d [(7,.tuple [.bool true,.i (e:Int),.int .i32 (yl d e)]),(8,.bool true)]) [.iter d (e+runeLen d e)] (ac (hs (.run [0] (qfl (.ptr 0 0) true) [.iter d e] (.tuple [.bool true,.i (e:Int),.int .i32 (yl d e)]) [.iter d (e+runeLen d e)] true) (qnk rfl n rfl)) az) ?_
    refine sq ?_
    refine Goes.ifB (b:=true) (by kernel_rfl) (fun _=>?_) (fun c=>(by cases c))
    refine Goes.skip ?_
    refine Goes.block ?_
    refine sh fol (kAF d (e:Int) [(4,.int .i32 (yl d e)),(6,.ptr 0 0)]) ?_
    refine sq ?_
    obtain⟨t,a,g2⟩:=bnd g2
    refine Goes.cut (s':=(ofG 37 (kAr d [(29,.bool t)]),[.iter d (e+runeLen d e)])) ?_ ?_
    ·obtain⟨z,g,a⟩:=bnd a
     rcases wyB a with⟨k,a⟩|⟨k,a⟩
     ·rcases wyD a with⟨o,a⟩|⟨o,a⟩
      ·obtain rfl:=si a
       exact tr fol [1,3,6] (kAr d [(29,.bool true)]) (ac (cv (vV (yl d e) g)) (ac (gw k) (ac (gw o) az)))
      rcases wyB a with⟨q,a⟩|⟨q,a⟩
      ·rcases wyD a with⟨u,a⟩|⟨u,a⟩
       ·obtain rfl:=si a
        exact tr fol [1,3,6,9,12] (kAr d [(29,.bool true)]) (ac (cv (vV (yl d e) g)) (ac (gw k) (ac (gw o) (ac (gw q) (ac (gw u) az)))))
       obtain rfl:=si a
       exact tr fol [1,3,6,9,12] (kAr d [(29,.bool (decide ((yl d e)>57)))]) (ac (cv (vV (yl d e) g)) (ac (gw k) (ac (gw o) (ac (gw q) (ac (gw u) az)))))
      obtain rfl:=si a
      exact tr fol [1,3,6,9] (kAr d [(29,.bool false)]) (ac (cv (vV (yl d e) g)) (ac (gw k) (ac (gw o) (ac (gw q) az))))
     obtain rfl:=si a
     exact tr fol [1,3] (kAr d [(29,.bool false)]) (ac (cv (vV (yl d e) g)) (ac (gw k) az))
    refine ihB g2 (fun v g2=>?_) (fun v g2=>?_)
    ·refine sh fol kAq ?_
     refine Goes.ret ?_
     obtain rfl:=si g2
     exact Or.inr (⟨rfl,_,rfl,(gw2 [.bool false] (Ua tB))⟩)
    refine Goes.skip ?_
    exact⟨M,(ofG 37 (kAr d []),[.iter d (e+runeLen d e)]),Nat.lt_succ_self _,(Sub.keep [0,6] rfl rfl),_,rfl,g2⟩
   rw[if_neg n]at g2
   refine gr fol [0] (kAr d [(7,.tuple [.bool false]),(8,.bool false)]) (ac (hs (.run [0] (qfl (.ptr 0 0) true) [.iter d e] (.tuple [.bool false]) [.iter d e] false) (qnd rfl n)) az) ?_
   refine sq ?_
   refine Goes.ifB (b:=false) (by kernel_rfl) (fun c=>(by cases c)) (fun _=>?_)
   refine Goes.exit ?_
   obtain rfl:=si g2
   exact Or.inl (⟨rfl,rfl,(Sub.norm [] [] rfl rfl (.keep (.same nS) .nil) .nil)⟩)
 rintro x s' (⟨rfl,rfl,hsub⟩|⟨rfl,y,rfl,hret⟩)
 ·try dsimp only at h
  refine Goes.sub hsub ?_
  refine sq ?_
  obtain⟨p,f,h⟩:=bnd h
  refine Goes.cut (s':=(ofG 37 (kBQ p),[])) ?_ ?_
  ·rcases wyB f with⟨j,f⟩|⟨j,f⟩
   ·obtain rfl:=si f
    exact tr fol [2] (kBQ (decide ((d.length:Int)<=24))) (ac (gw j) az)
   obtain rfl:=si f
   exact tr fol [2] kAq (ac (gw j) az)
  refine Goes.ret ?_
  obtain rfl:=si h
  exact(gw2 [.bool p] (Ua tB))
 try dsimp only at h
 obtain rfl:=si h
 exact hret
def qdG (N:Nat) (a:Str):Option Int:=
 (xK N a).bind fun b=>
 (jr (!b) 8).bind fun c=>
 some c
theorem qiD (N:Nat) (a:Str) {res:Int} (h:qdG N a=some res):qb ZT (.fn 53) [.str a] [] (.i res) []:=by
 unfold qdG at h
 refine Ub Tryz.func53 rfl rfl (m:=7) rfl (rs:=[.tmp 2]) rfl (l:=(kAH a)) rfl ?_
 refine sh fol (kAH a) ?_
 obtain⟨e,b,h⟩:=bnd h
 obtain⟨d,c,h⟩:=bnd h
 refine sq (gr fol [1,3] (kA3 d) (ac (cv (qcS N a b)) (ac (cv (yD (!e) 8 c)) az)) ?_)
 refine Goes.ret ?_
 obtain rfl:=si h
 exact(gw2 [.i d] (Ua tI))
def zY (N:Nat) (a:Str):Option Int:=
 (qbw N a 0).bind fun b=>
 some b
theorem xC (N:Nat) (a:Str) {res:Int} (h:zY N a=some res):qb ZT (.fn 78) [.str a] [] (.i res) []:=by
 unfold zY at h
 refine Ub Tryz.func78 rfl rfl (m:=5) rfl (rs:=[.tmp 2]) rfl (l:=(kAH a)) rfl ?_
 refine sh fol (kAH a) ?_
 obtain⟨c,b,h⟩:=bnd h
 refine sq (gr fol [1] (kA3 c) (ac (cv (qeZ N a 0 b)) az) ?_)
 refine Goes.ret ?_
 obtain rfl:=si h
 exact(gw2 [.i c] (Ua tI))
def xq (N:Nat) (a:qJ) (b:qJ):Option Int:=
 (qW N a.Num b.Den).bind fun c=>
 (qW N b.Num a.Den).bind fun d=>
 (qaX N c d).bind fun e=>
 some e
theorem qgB (N:Nat) (a:qJ) (b:qJ) {res:Int} (h:xq N a b=some res):qb ZT (.fn 98) [.agg (nq1 a),.agg (nq1 b)] [] (.i res) []:=by
 unfold xq at h
 refine Ub Tryz.func98 rfl rfl (m:=16) rfl (rs:=[.tmp 4]) rfl (l:=[(0,.agg (nq1 a)),(1,.agg (nq1 b))]) rfl ?_
 refine sg fol (kM (kAZ [])) [.cells (nq1 a),.cells (nq1 b)] ?_
 obtain⟨g,c,h⟩:=bnd h
 obtain⟨j,d,h⟩:=bnd h
 obtain⟨f,e,h⟩:=bnd h
 refine sq (gr fol [4,9,10] (kBU f) (ac (cv (yh N a.Num b.Den c)) (ac (cv (yh N b.Num a.Den d)) (ac (cv (qdZ N g j e)) az))) ?_)
 refine Goes.ret ?_
 obtain rfl:=si h
 exact(gw2 [.i f] (Ua tI))
def qaH (N:Nat) (p:xN) (before:List xN):Option Int:=
 (zY N p.X).bind fun e=>
 (zY N p.Y).bind fun f=>
 (zI N ([e,f]:List Int)).bind fun d=>
 (if(!decide (d=0))=true then
 some true
 else
 some (decide ((before.length:Int)=0)):Option Bool).bind fun g=>
 if g=true then
 some d
 else
 (idx before (w64 ((before.length:Int)-1))).bind fun h=>
 (jV N p.X).bind fun i=>
 (jV N h.X).bind fun a=>
 (xq N i a).bind fun b=>
 (jr (decide (b<=0)) 11).bind fun c=>
 some c
theorem qe5 (N:Nat) (p:xN) (before:List xN) {res:Int} (h:qaH N p before=some res):qb ZT (.fn 58) [.agg [.str p.X,.str p.Y],vl qo before] [] (.i res) []:=by
 unfold qaH at h
 refine Ub Tryz.func58 rfl rfl (m:=38) rfl (rs:=[.tmp 4]) rfl (l:=[(0,.agg [.str p.X,.str p.Y]),(1,vl qo before)]) rfl ?_
 refine sg fol ((1,vl qo before)::(kM [])) (kAN p.X p.Y []) ?_
 refine sq ?_
 obtain⟨g,j,h⟩:=bnd h
 obtain⟨k,n,h⟩:=bnd h
 obtain⟨c,o,h⟩:=bnd h
 refine sq (gq fol [2,5,7] ((1,vl qo before)::(kM (kAm c))) (kAN p.X p.Y (kAE g k)) (ac (cv (xC N p.X j)) (ac (cv (xC N p.Y n)) (ac (hs (.call 52 [.slice 1 0 2 2 1] (kAN p.X p.Y (kAE g k)) [1] [vl encI ([g,k]:List Int)] (.i c)) (qbR (FzL.cons (Fz.lit rfl rfl (Ue (AllST.cons tI (AllST.cons tI AllST.nil)))) FzL.nil) (qaC N ([g,k]:List Int) o) tI rfl)) az))) ?_)
 refine sq ?_
 obtain⟨w,a,h⟩:=bnd h
 refine Goes.cut (s':=(ofG 38 ((1,vl qo before)::(kM [(5,.i c),(21,.bool w)])),(kAN p.X p.Y (kAE g k)))) ?_ ?_
 ·rcases wyB a with⟨s,a⟩|⟨s,a⟩
  ·obtain rfl:=si a
   exact tr fol [2] ((1,vl qo before)::(kM [(5,.i c),(21,.bool true)])) (ac (gw s) az)
  obtain rfl:=si a
  exact tr fol [2] ((1,vl qo before)::(kM [(5,.i c),(21,.bool (decide ((before.length:Int)=0)))])) (ac (gw s) az)
 refine ihB h (fun x h=>?_) (fun x h=>?_)
 ·refine sh fol (kBU c) ?_
  refine Goes.ret ?_
  obtain rfl:=si h
  exact(gw2 [.i c] (Ua tI))
 refine Goes.skip ?_
 obtain⟨v,b,h⟩:=bnd h
 refine sq (gr fol [4,6] (kM [(6,.str v.X)]) (ac (iv qiC qo b) (ac (lv 0 qjG qo b rfl) az)) ?_)
 obtain⟨y,q,h⟩:=bnd h
 obtain⟨t,d,h⟩:=bnd h
 obtain⟨u,e,h⟩:=bnd h
 obtain⟨r,f,h⟩:=bnd h
 refine sq (gr fol [2,4,5,7] (kBU r) (ac (cv (yG N p.X q)) (ac (cv (yG N v.X d)) (ac (cv (qgB N y t e)) (ac (cv (yD (decide (u<=0)) 11 f)) az)))) ?_)
 refine Goes.ret ?_
 obtain rfl:=si h
 exact(gw2 [.i r] (Ua tI))
def qaG (N:Nat) (a:Str):Option Int:=
 (if(!(a==[]))=true then
 (xK N a).bind fun b=>
 (jr (!b) 8).bind fun c=>
 some c
 else
 (jr false 8).bind fun d=>
 some d:Option Int).bind fun e=>
 some e
theorem qgp (N:Nat) (b:Str) {res:Int} (h:qaG N b=some res):qb ZT (.fn 59) [.str b] [] (.i res) []:=by
 unfold qaG at h
 refine Ub Tryz.func59 rfl rfl (m:=11) rfl (rs:=[.tmp 2]) rfl (l:=(kAH b)) rfl ?_
 refine sh fol (kAH b) ?_
 refine sq ?_
 obtain⟨g,a,h⟩:=bnd h
 refine Goes.cut (s':=(ofG 11 (kA3 g),[])) ?_ ?_
 ·rcases wyB a with⟨f,a⟩|⟨f,a⟩
  ·obtain⟨j,c,a⟩:=bnd a
   obtain⟨k,d,a⟩:=bnd a
   obtain rfl:=si a
   exact tr fol [2,4,7] (kA3 k) (ac (gw f) (ac (cv (qcS N b c)) (ac (cv (yD (!j) 8 d)) az)))
  obtain⟨n,e,a⟩:=bnd a
  obtain rfl:=si a
  exact tr fol [2,7] (kA3 n) (ac (gw f) (ac (cv (yD false 8 e)) az))
 refine Goes.ret ?_
 obtain rfl:=si h
 exact(gw2 [.i g] (Ua tI))
def qH (N:Nat) (a:List xN):Nat->Int->Option (Unit⊕Int)
 |0,_=>none
 |K+1,b=>
  if b<(a.length:Int)then
  (idx a b).bind fun d=>
  (cut a 0 b).bind fun e=>
  (qaH N d e).bind fun c=>
  if(!decide (c=0))=true then
  some (.inr c)
  else
  qH N a K (w64 (b+1))
  else
  some (.inl ())
def vY (N:Nat) (a:List xN) (b:Int):Option Int:=
 if(a.length:Int)>b then
 some 5
 else
 (qH N a N 0).bind (fun
 |(.inl ())=>
 some 0
 |(.inr c)=>
 some c)
theorem qdU (N:Nat) (a:List xN) (c:Int) {res:Int} (h:vY N a c=some res):qb ZT (.fn 57) [vl qo a,.i c,.func (.func 58) [] []] [] (.i res) []:=by
 unfold vY at h
 refine Ub Tryz.func57 rfl rfl (m:=31) rfl (rs:=[.tmp 6]) rfl (l:=(kBI a [(1,.i c),(2,.func (.func 58) [] [])])) rfl ?_
 refine sh fol (kBI a [(1,.i c),(2,.func (.func 58) [] [])]) ?_
 refine sq ?_
 refine sh fol (kBI a ((2,.func (.func 58) [] [])::(kBE (decide ((a.length:Int)>c))))) ?_
 refine ihD h (fun p h=>?_) (fun p h=>?_)
 ·refine sh fol [(6,.i 5)] ?_
  refine Goes.ret ?_
  obtain rfl:=si h
  exact(gw2 [.i 5] (Ua tI))
 refine Goes.skip ?_
 refine sq ?_
 refine sh fol (kBI a [(2,.func (.func 58) [] []),(14,vl qo a),(15,.i (a.length:Int)),(16,.i 0)]) ?_
 refine Goes.block ?_
 obtain⟨j,g3,h⟩:=bnd h
 refine Goes.imp (Q:=fun x s'=>(x= .exit 0/\(.inl ())=j/\Sub s' (ofG 31 [],[]))\/(x= .ret/\ ∃n,(.inr n)=j/\zS ZT [.tmp 6] (.i n) .ret s')) ?_ ?_
 ·refine Uc (fun M s=> ∃(b:Int),s=(ofG 31 (kBI a ((2,.func (.func 58) [] [])::(14,vl qo a)::(kAW (a.length:Int) b []))),[])/\qH N a M b=some j) ?_ (m:=N) ⟨_,rfl,g3⟩
  rintro M s ⟨b,rfl,g3⟩
  cases M with
  |zero=>simp only[qH]at g3;cases g3
  |succ M=>
   rw[qH]at g3
   refine sh fol (kBI a ((2,.func (.func 58) [] [])::(14,vl qo a)::(kAW (a.length:Int) b [(17,.bool (decide (b<(a.length:Int))))]))) ?_
   refine sq ?_
   refine ihD g3 (fun q g3=>?_) (fun q g3=>?_)
   ·refine Goes.skip ?_
    refine sq (Goes.block ?_)
    obtain⟨k,d,g3⟩:=bnd g3
    refine sq (gq fol [1,2] (kBI a ((2,.func (.func 58) [] [])::(7,.i b)::(8,.ptr 0 0)::(14,vl qo a)::(kAW (a.length:Int) b []))) (kAN k.X k.Y []) (ac (iv qiC qo d) (ac (la ag67 qo d) az)) ?_)
    obtain⟨o,e,g3⟩:=bnd g3
    obtain⟨f,g,g3⟩:=bnd g3
    refine sq (gr fol [4,5] (kBI a ((2,.func (.func 58) [] [])::(9,.i f)::(14,vl qo a)::(kAW (a.length:Int) b []))) (ac (hs (.done (.opt (qU ZT 23 (vl qo a) none (some (.i b)) none)) (vl qo o)) (qjY qiC (E:=qo) rfl none (some b) e)) (ac (cv (qe5 N k o g)) az)) ?_)
    refine sh fol (kBI a ((2,.func (.func 58) [] [])::(9,.i f)::(14,vl qo a)::(kAW (a.length:Int) b [(28,.bool (!decide (f=0)))]))) ?_
    refine ihB g3 (fun r g3=>?_) (fun r g3=>?_)
    ·refine sh fol [(6,.i f)] ?_
     refine Goes.ret ?_
     obtain rfl:=si g3
     exact Or.inr (⟨rfl,_,rfl,(gw2 [.i f] (Ua tI))⟩)
    refine Goes.skip ?_
    refine gh fol (kBI a ((2,.func (.func 58) [] [])::(14,vl qo a)::(kAW (a.length:Int) (w64 (b+1)) []))) ?_
    exact⟨M,(ofG 31 (kBI a ((2,.func (.func 58) [] [])::(14,vl qo a)::(kAW (a.length:Int) (w64 (b+1)) []))),[]),Nat.lt_succ_self _,(Sub.norm [] [] rfl rfl (.keep (.same (qd qo _)) (.keep (.same (qE.func sn sn)) (.keep (.same (qd qo _)) (.keep (.same nI) (.keep (.same nI) .nil))))) .nil),_,rfl,g3⟩
   refine Goes.exit ?_
   obtain rfl:=si g3
   exact Or.inl (⟨rfl,rfl,(Sub.keep [] rfl rfl)⟩)
 rintro x s' (⟨rfl,rfl,hsub⟩|⟨rfl,t,rfl,hret⟩)
 ·try dsimp only at h
  refine Goes.sub hsub ?_
  refine sh fol [(6,.i 0)] ?_
  refine Goes.ret ?_
  obtain rfl:=si h
  exact(gw2 [.i 0] (Ua tI))
 try dsimp only at h
 obtain rfl:=si h
 exact hret
def zR (N:Nat) (y:yH):Option Int:=
 (qdG N y.Name).bind fun a=>
 (qaE N y.Density).bind fun b=>
 (qax N y.Twist).bind fun c=>
 (jr (decide ((y.Strength.length:Int)=0)) 12).bind fun d=>
 (vY N y.Strength 256).bind fun e=>
 (qaG N y.Dye).bind fun f=>
 (zI N ([a,b,c,d,e,f]:List Int)).bind fun g=>
 some g
theorem qa2 (N:Nat) (y:yH) {res:Int} (h:zR N y=some res):qb ZT (.fn 10) [.agg (kAx y.Name y.Density y.Twist y.Strength y.Dye)] [] (.i res) []:=by
 unfold zR at h
 refine Ub Tryz.func10 rfl rfl (m:=25) rfl (rs:=[.tmp 2]) rfl (l:=(kW y.Name y.Density y.Twist y.Strength y.Dye [])) rfl ?_
 refine sg fol (kR []) (kB y.Name y.Density y.Twist y.Strength y.Dye []) ?_
 obtain⟨k,a,h⟩:=bnd h
 obtain⟨n,b,h⟩:=bnd h
 obtain⟨o,c,h⟩:=bnd h
 obtain⟨p,d,h⟩:=bnd h
 obtain⟨e,f,h⟩:=bnd h
 obtain⟨q,g,h⟩:=bnd h
 obtain⟨r,j,h⟩:=bnd h
 refine sq (gq fol [2,5,8,13,16,19,21] (kA3 r) (kB y.Name y.Density y.Twist y.Strength y.Dye [.cells [.i k,.i n,.i o,.i p,.i e,.i q]]) (ac (cv (qiD N y.Name a)) (ac (cv (qf0 N y.Density b)) (ac (cv (qdL N y.Twist c)) (ac (cv (yD (decide ((y.Strength.length:Int)=0)) 12 d)) (ac (hs (.call 57 [vl qo y.Strength,.i 256,.func (.func 58) [] []] [] [] [vl qo y.Strength,.i 256,.func (.func 58) [] []] (.i e)) (qqV (FzL.cons (Un (qx qo _ (nl rfl))) (FzL.cons (Un tI) (FzL.cons (Fz.func FzL.nil FzL.nil) FzL.nil))) (qdU N y.Strength 256 f) tI)) (ac (cv (qgp N y.Dye g)) (ac (hs (.call 52 [.slice 1 0 6 6 1] (kB y.Name y.Density y.Twist y.Strength y.Dye [.cells [.i k,.i n,.i o,.i p,.i e,.i q]]) [1] [vl encI ([k,n,o,p,e,q]:List Int)] (.i r)) (qbR (FzL.cons (Fz.lit rfl rfl (Ue (AllST.cons tI (AllST.cons tI (AllST.cons tI (AllST.cons tI (AllST.cons tI (AllST.cons tI AllST.nil)))))))) FzL.nil) (qaC N ([k,n,o,p,e,q]:List Int) j) tI rfl)) az))))))) ?_)
 refine Goes.ret ?_
 obtain rfl:=si h
 exact(gw2 [.i r] (Ua tI))
def qbg (a:qJ):Option qJ:=
 (zi a.Num).bind fun b=>
 some (⟨b,a.Den⟩:qJ)
theorem qgC (a:qJ) {res:qJ} (h:qbg a=some res):qb ZT (.fn 130) [.agg (nq1 a)] [] (.agg (nq1 res)) []:=by
 unfold qbg at h
 refine Ub Tryz.func130 rfl rfl (m:=9) rfl (rs:=[.cell 2 107]) rfl (l:=[(0,.agg (nq1 a))]) rfl ?_
 refine sg fol (kR kAj) (.cells (nq1 a)::(kF [])) ?_
 obtain⟨b,c,h⟩:=bnd h
 refine sq (gq fol [2,6] kAj [.cells (nq1 a),.cells (ni2 b.s b.w a.Den.s a.Den.w)] (ac (cv (jk a.Num c)) (ac (hs (.run [1] (qy ZT 107 (.ptr 1 0) (.agg (ni2 b.s b.w a.Den.s a.Den.w))) (.cells (nq1 a)::(kF [])) .undef [.cells (nq1 a),.cells (ni2 b.s b.w a.Den.s a.Den.w)] true) (zk (n:=4) (by kernel_rfl) rfl rfl rfl rfl (cac rfl (cac nvc (cac rfl (cac nvc can)))) rfl)) az)) ?_)
 refine Goes.ret ?_
 obtain rfl:=si h
 exact(gw2 [.agg (ni2 b.s b.w a.Den.s a.Den.w)] (FzW.agg (qc.cons (Ua tI) (qc.cons (Ua (qB (qa .u64) _ (nl rfl))) (qc.cons (Ua tI) (qc.cons (Ua (qB (qa .u64) _ (nl rfl))) qc.nil))))))
def qbo (N:Nat) (y:yH) (length:Str):Option (Str×Int):=
 (zR N y).bind fun c=>
 (zY N length).bind fun d=>
 (zI N ([c,d]:List Int)).bind fun a=>
 if(!decide (a=0))=true then
 some ([],a)
 else
 (jV N y.Density).bind fun e=>
 (jV N length).bind fun f=>
 (xw N e f).bind fun g=>
 (qaT N g).bind fun b=>
 some (b.1,b.2)
theorem qjL (N:Nat) (y:yH) (length:Str) {res:Str×Int} (h:qbo N y length=some res):qb ZT (.fn 28) (kAK y.Name y.Density y.Twist y.Strength y.Dye [.str length]) [] (.tuple [.str res.1,.i res.2]) []:=by
 unfold qbo at h
 refine Ub Tryz.func28 rfl rfl (m:=25) rfl (rs:=[.tmp 4,.tmp 5]) rfl (l:=(kW y.Name y.Density y.Twist y.Strength y.Dye [(1,.str length)])) rfl ?_
 refine sg fol ((1,.str length)::(kM [])) (kB y.Name y.Density y.Twist y.Strength y.Dye []) ?_
 refine sq ?_
 obtain⟨k,b,h⟩:=bnd h
 obtain⟨n,c,h⟩:=bnd h
 obtain⟨a,d,h⟩:=bnd h
 refine sq (gq fol [1,3,5] ((1,.str length)::(kM [(6,.i a)])) (kB y.Name y.Density y.Twist y.Strength y.Dye (kAE k n)) (ac (cv (qa2 N y b)) (ac (cv (xC N length c)) (ac (hs (.call 52 [.slice 1 0 2 2 1] (kB y.Name y.Density y.Twist y.Strength y.Dye (kAE k n)) [1] [vl encI ([k,n]:List Int)] (.i a)) (qbR (FzL.cons (Fz.lit rfl rfl (Ue (AllST.cons tI (AllST.cons tI AllST.nil)))) FzL.nil) (qaC N ([k,n]:List Int) d) tI rfl)) az))) ?_)
 refine sh fol ((1,.str length)::(kM [(6,.i a),(14,.bool (!decide (a=0)))])) ?_
 refine ihB h (fun p h=>?_) (fun p h=>?_)
 ·refine sh fol ((4,.str [])::(kAm a)) ?_
  refine Goes.ret ?_
  obtain rfl:=si h
  exact(gw2 [.str [],.i a] (FzW.tuple (qc.cons (Ua tS) (qc.cons (Ua tI) qc.nil))))
 refine Goes.skip ?_
 obtain⟨q,e,h⟩:=bnd h
 obtain⟨r,f,h⟩:=bnd h
 obtain⟨s,g,h⟩:=bnd h
 obtain⟨o,j,h⟩:=bnd h
 refine sq (gr fol [2,4,5,6] ((4,.str o.1)::(kAm o.2)) (ac (cv (yG N y.Density e)) (ac (cv (yG N length f)) (ac (cv (qbS N q r g)) (ac (cv (qeg N s j)) az)))) ?_)
 refine Goes.ret ?_
 obtain rfl:=si h
 exact(gw2 [.str o.1,.i o.2] (FzW.tuple (qc.cons (Ua tS) (qc.cons (Ua tI) qc.nil))))
def qaf (N:Nat) (y:yH) (mass:Str):Option (Str×Int):=
 (zR N y).bind fun c=>
 (zY N mass).bind fun d=>
 (zI N ([c,d]:List Int)).bind fun a=>
 if(!decide (a=0))=true then
 some ([],a)
 else
 (jV N mass).bind fun e=>
 (jV N y.Density).bind fun f=>
 (qaq N e f).bind fun g=>
 (qaT N g).bind fun b=>
 some (b.1,b.2)
theorem qhh (N:Nat) (y:yH) (mass:Str) {res:Str×Int} (h:qaf N y mass=some res):qb ZT (.fn 29) (kAK y.Name y.Density y.Twist y.Strength y.Dye [.str mass]) [] (.tuple [.str res.1,.i res.2]) []:=by
 unfold qaf at h
 refine Ub Tryz.func29 rfl rfl (m:=25) rfl (rs:=[.tmp 4,.tmp 5]) rfl (l:=(kW y.Name y.Density y.Twist y.Strength y.Dye [(1,.str mass)])) rfl ?_
 refine sg fol ((1,.str mass)::(kM [])) (kB y.Name y.Density y.Twist y.Strength y.Dye []) ?_
 refine sq ?_
 obtain⟨k,b,h⟩:=bnd h
 obtain⟨n,c,h⟩:=bnd h
 obtain⟨a,d,h⟩:=bnd h
 refine sq (gq fol [1,3,5] ((1,.str mass)::(kM [(6,.i a)])) (kB y.Name y.Density y.Twist y.Strength y.Dye (kAE k n)) (ac (cv (qa2 N y b)) (ac (cv (xC N mass c)) (ac (hs (.call 52 [.slice 1 0 2 2 1] (kB y.Name y.Density y.Twist y.Strength y.Dye (kAE k n)) [1] [vl encI ([k,n]:List Int)] (.i a)) (qbR (FzL.cons (Fz.lit rfl rfl (Ue (AllST.cons tI (AllST.cons tI AllST.nil)))) FzL.nil) (qaC N ([k,n]:List Int) d) tI rfl)) az))) ?_)
 refine sh fol ((1,.str mass)::(kM [(6,.i a),(14,.bool (!decide (a=0)))])) ?_
 refine ihB h (fun p h=>?_) (fun p h=>?_)
 ·refine sh fol ((4,.str [])::(kAm a)) ?_
  refine Goes.ret ?_
  obtain rfl:=si h
  exact(gw2 [.str [],.i a] (FzW.tuple (qc.cons (Ua tS) (qc.cons (Ua tI) qc.nil))))
 refine Goes.skip ?_
 obtain⟨q,e,h⟩:=bnd h
 obtain⟨r,f,h⟩:=bnd h
 obtain⟨s,g,h⟩:=bnd h
 obtain⟨o,j,h⟩:=bnd h
 refine sq (gr fol [1,4,5,6] ((4,.str o.1)::(kAm o.2)) (ac (cv (yG N mass e)) (ac (cv (yG N y.Density f)) (ac (cv (qdK N q r g)) (ac (cv (qeg N s j)) az)))) ?_)
 refine Goes.ret ?_
 obtain rfl:=si h
 exact(gw2 [.str o.1,.i o.2] (FzW.tuple (qc.cons (Ua tS) (qc.cons (Ua tI) qc.nil))))
def qam (N:Nat) (a:qJ):Option qm:=
 (zQ N a.Num a.Den).bind fun b=>
 some b.1
theorem qfm (N:Nat) (a:qJ) {res:qm} (h:qam N a=some res):qb ZT (.fn 147) [.agg (nq1 a)] [] (.agg (nz1 res)) []:=by
 unfold qam at h
 refine Ub Tryz.func147 rfl rfl (m:=14) rfl (rs:=[.cell 2 105]) rfl (l:=[(0,.agg (nq1 a))]) rfl ?_
 refine sg fol (kR kAj) [.cells (nq1 a),bZ] ?_
 obtain⟨b,c,h⟩:=bnd h
 refine sq (gq fol [4,10,11] [(2,.ptr 1 0),(3,.ptr 2 0)] [.cells (nq1 a),bZ,.cells (nz1 b.1),.cells (nz1 b.2)] (ac (cv (qaZ N a.Num a.Den c)) (ac (hs (.run [2] (qy ZT 105 (.ptr 2 0) (.agg (nz1 b.1))) [.cells (nq1 a),bZ,bZ,bZ] .undef [.cells (nq1 a),bZ,.cells (nz1 b.1),bZ] true) (zk (n:=2) (by kernel_rfl) rfl rfl rfl rfl (cac rfl (cac nvc can)) rfl)) (ac (hs (.run [3] (qy ZT 105 (.ptr 3 0) (.agg (nz1 b.2))) [.cells (nq1 a),bZ,.cells (nz1 b.1),bZ] .undef [.cells (nq1 a),bZ,.cells (nz1 b.1),.cells (nz1 b.2)] true) (zk (n:=2) (by kernel_rfl) rfl rfl rfl rfl (cac rfl (cac nvc can)) rfl)) az))) ?_)
 refine sq (gq fol [1] kAj [.cells (nq1 a),.cells (nz1 b.1),.cells (nz1 b.1),.cells (nz1 b.2)] (ac (hs (.run [1] (qy ZT 105 (.ptr 1 0) (.agg (nz1 b.1))) [.cells (nq1 a),bZ,.cells (nz1 b.1),.cells (nz1 b.2)] .undef [.cells (nq1 a),.cells (nz1 b.1),.cells (nz1 b.1),.cells (nz1 b.2)] true) (zk (n:=2) (by kernel_rfl) rfl rfl rfl rfl (cac rfl (cac nvc can)) rfl)) az) ?_)
 refine Goes.ret ?_
 obtain rfl:=si h
 exact(gw2 [.agg (nz1 b.1)] (FzW.agg (qc.cons (Ua tI) (qc.cons (Ua (qB (qa .u64) _ (nl rfl))) qc.nil))))
def qbD (N:Nat) (a:qJ):Option qm:=
 (qbg a).bind fun b=>
 (qam N b).bind fun c=>
 (zi c).bind fun d=>
 some d
theorem qf9 (N:Nat) (a:qJ) {res:qm} (h:qbD N a=some res):qb ZT (.fn 82) [.agg (nq1 a)] [] (.agg (nz1 res)) []:=by
 unfold qbD at h
 refine Ub Tryz.func82 rfl rfl (m:=7) rfl (rs:=[.cell 2 105]) rfl (l:=[(0,.agg (nq1 a))]) rfl ?_
 refine sg fol (kR kAj) [.cells (nq1 a),bZ] ?_
 obtain⟨f,b,h⟩:=bnd h
 obtain⟨g,c,h⟩:=bnd h
 obtain⟨e,d,h⟩:=bnd h
 refine sq (gq fol [1,2,3,4] kAj [.cells (nq1 a),.cells (nz1 e)] (ac (cv (qgC a b)) (ac (cv (qfm N f c)) (ac (cv (jk g d)) (ac (hs (.run [1] (qy ZT 105 (.ptr 1 0) (.agg (nz1 e))) [.cells (nq1 a),bZ] .undef [.cells (nq1 a),.cells (nz1 e)] true) (zk (n:=2) (by kernel_rfl) rfl rfl rfl rfl (cac rfl (cac nvc can)) rfl)) az)))) ?_)
 refine Goes.ret ?_
 obtain rfl:=si h
 exact(gw2 [.agg (nz1 e)] (FzW.agg (qc.cons (Ua tI) (qc.cons (Ua (qB (qa .u64) _ (nl rfl))) qc.nil))))
def qbA (a:qm):Option (Int×Bool):=
 some (a.s,a.w.isEmpty)
theorem qgf (a:qm) {res:Int×Bool} (h:qbA a=some res):qb ZT (.fn 83) [.agg (nz1 a)] [] (.tuple [.i res.1,.bool res.2]) []:=by
 unfold qbA at h
 refine Ub Tryz.func83 rfl rfl (m:=9) rfl (rs:=[.tmp 2,.tmp 3]) rfl (l:=[(0,.agg (nz1 a))]) rfl ?_
 refine sg fol (kR []) [.cells (nz1 a)] ?_
 refine sq (gr fol [4] ((2,.i a.s)::(kBF a.w.isEmpty [])) (ac (hs (.done (.opt (qZ ZT .eql 103 (.tmp 7) (.const (.slice none 0 0)) (nvl (qa .u64) a.w) .nilslice)) (.bool a.w.isEmpty)) (qay vS)) az) ?_)
 refine Goes.ret ?_
 obtain rfl:=si h
 exact(gw2 [.i a.s,.bool a.w.isEmpty] (FzW.tuple (qc.cons (Ua tI) (qc.cons (Ua tB) qc.nil))))
def xm (N:Nat) (y:yH) (capacity:Int) (length:Str):Option (Int×Int):=
 (zR N y).bind fun f=>
 (qaW capacity 1 999999999).bind fun g=>
 (zY N length).bind fun h=>
 (zI N ([f,g,h]:List Int)).bind fun e=>
 if(!decide (e=0))=true then
 some (0,e)
 else
 (jV N y.Density).bind fun i=>
 (jV N length).bind fun j=>
 (xw N i j).bind fun k=>
 (qkS capacity).bind fun l=>
 (qaq N k l).bind fun b=>
 (qbD N b).bind fun c=>
 (qbA c).bind fun a=>
 (if(!a.2)=true then
 some true
 else
 some (decide (a.1>999999999)):Option Bool).bind fun d=>
 if d=true then
 some (0,4)
 else
 some (a.1,0)
theorem qgH (N:Nat) (y:yH) (capacity:Int) (length:Str) {res:Int×Int} (h:xm N y capacity length=some res):qb ZT (.fn 30) (kAK y.Name y.Density y.Twist y.Strength y.Dye [.i capacity,.str length]) [] (.tuple [.i res.1,.i res.2]) []:=by
 unfold xm at h
 refine Ub Tryz.func30 rfl rfl (m:=43) rfl (rs:=[.tmp 6,.tmp 7]) rfl (l:=(kW y.Name y.Density y.Twist y.Strength y.Dye ((1,.i capacity)::(kBH length)))) rfl ?_
 refine sg fol ((1,.i capacity)::(kAT length [])) (kB y.Name y.Density y.Twist y.Strength y.Dye []) ?_
 refine sq ?_
 obtain⟨j,k,h⟩:=bnd h
 obtain⟨n,o,h⟩:=bnd h
 obtain⟨p,q,h⟩:=bnd h
 obtain⟨g,r,h⟩:=bnd h
 refine sq (gq fol [1,3,5,7] ((1,.i capacity)::(kAT length [(8,.i g)])) (kB y.Name y.Density y.Twist y.Strength y.Dye (kBA j n p)) (ac (cv (qa2 N y k)) (ac (cv (qhW capacity 1 999999999 o)) (ac (cv (xC N length q)) (ac (hs (.call 52 [.slice 1 0 3 3 1] (kB y.Name y.Density y.Twist y.Strength y.Dye (kBA j n p)) [1] [vl encI ([j,n,p]:List Int)] (.i g)) (qbR (FzL.cons (Fz.lit rfl rfl (Ue (AllST.cons tI (AllST.cons tI (AllST.cons tI AllST.nil))))) FzL.nil) (qaC N ([j,n,p]:List Int) r) tI rfl)) az)))) ?_)
 refine sh fol ((1,.i capacity)::(kAT length [(8,.i g),(20,.bool (!decide (g=0)))])) ?_
 refine ihB h (fun B h=>?_) (fun B h=>?_)
 ·refine sh fol [(6,.i 0),(7,.i g)] ?_
  refine Goes.ret ?_
  obtain rfl:=si h
  exact(gw2 [.i 0,.i g] (FzW.tuple (qc.cons (Ua tI) (qc.cons (Ua tI) qc.nil))))
 refine Goes.skip ?_
 obtain⟨C,s,h⟩:=bnd h
 obtain⟨D,t,h⟩:=bnd h
 obtain⟨E,u,h⟩:=bnd h
 obtain⟨F,v,h⟩:=bnd h
 obtain⟨w,c,h⟩:=bnd h
 obtain⟨x,d,h⟩:=bnd h
 obtain⟨b,e,h⟩:=bnd h
 refine sq (gr fol [2,4,5,7,8,9,10] ((9,.i b.1)::(kBR b.2)) (ac (cv (yG N y.Density s)) (ac (cv (yG N length t)) (ac (cv (qbS N C D u)) (ac (cv (qok capacity v)) (ac (cv (qdK N E F c)) (ac (cv (qf9 N w d)) (ac (cv (qgf x e)) az))))))) ?_)
 refine sq ?_
 refine sq ?_
 obtain⟨z,a,h⟩:=bnd h
 refine Goes.cut (s':=(ofG 43 [(9,.i b.1),(41,.bool z)],(kB y.Name y.Density y.Twist y.Strength y.Dye (kBA j n p)))) ?_ ?_
 ·rcases wyB a with⟨f,a⟩|⟨f,a⟩
  ·obtain rfl:=si a
   exact tr fol [2] [(9,.i b.1),(41,.bool true)] (ac (gw f) az)
  obtain rfl:=si a
  exact tr fol [2] [(9,.i b.1),(41,.bool (decide (b.1>999999999)))] (ac (gw f) az)
 refine ihB h (fun A h=>?_) (fun A h=>?_)
 ·refine sh fol [(6,.i 0),(7,.i 4)] ?_
  refine Goes.ret ?_
  obtain rfl:=si h
  exact(gw2 [.i 0,.i 4] (FzW.tuple (qc.cons (Ua tI) (qc.cons (Ua tI) qc.nil))))
 refine Goes.skip ?_
 refine sh fol [(6,.i b.1),(7,.i 0)] ?_
 refine Goes.ret ?_
 obtain rfl:=si h
 exact(gw2 [.i b.1,.i 0] (FzW.tuple (qc.cons (Ua tI) (qc.cons (Ua tI) qc.nil))))
def qad (holds:Bool) (e:Int):Option Int:=
 if holds=true then
 some e
 else
 some 0
theorem qeS (holds:Bool) (e:Int) {res:Int} (h:qad holds e=some res):qb ZT (.fn 32) [.bool holds,.i e] [] (.i res) []:=by
 unfold qad at h
 refine Ub Tryz.func32 rfl rfl (m:=7) rfl (rs:=[.tmp 4]) rfl (l:=[(0,.bool holds),(1,.i e)]) rfl ?_
 refine sh fol [(0,.bool holds),(1,.i e)] ?_
 refine sq ?_
 refine sh fol ((1,.i e)::(kBh holds)) ?_
 refine ihB h (fun a h=>?_) (fun a h=>?_)
 ·refine sh fol (kBU e) ?_
  refine Goes.ret ?_
  obtain rfl:=si h
  exact(gw2 [.i e] (Ua tI))
 refine Goes.skip ?_
 refine sh fol kBc ?_
 refine Goes.ret ?_
 obtain rfl:=si h
 exact(gw2 [.i 0] (Ua tI))
def yK (N:Nat) (n:Int):Option Str:=
 (vM N n).bind fun a=>
 (qab N a).bind fun b=>
 some b
theorem qcQ (N:Nat) (n:Int) {res:Str} (h:yK N n=some res):qb ZT (.fn 37) [.i n] [] (.str res) []:=by
 unfold yK at h
 refine Ub Tryz.func37 rfl rfl (m:=6) rfl (rs:=[.tmp 2]) rfl (l:=[(0,.i n)]) rfl ?_
 refine sh fol [(0,.i n)] ?_
 obtain⟨d,a,h⟩:=bnd h
 obtain⟨c,b,h⟩:=bnd h
 refine sq (gr fol [1,2] (kBH c) (ac (cv (qbb N n a)) (ac (cv (qbC N d b)) az)) ?_)
 refine Goes.ret ?_
 obtain rfl:=si h
 exact(gw2 [.str c] (Ua tS))
def vL (N:Nat) (a:Str):Option Bool:=
 (vJ N a).bind fun b=>
 some (decide (b=(a.length:Int)))
theorem qbv (N:Nat) (a:Str) {res:Bool} (h:vL N a=some res):qb ZT (.fn 91) [.str a] [] (.bool res) []:=by
 unfold vL at h
 refine Ub Tryz.func91 rfl rfl (m:=8) rfl (rs:=[.tmp 2]) rfl (l:=(kAH a)) rfl ?_
 refine sh fol (kAH a) ?_
 obtain⟨c,b,h⟩:=bnd h
 refine sq (gr fol [1] (kBQ (decide (c=(a.length:Int)))) (ac (cv (yR N a b)) az) ?_)
 refine Goes.ret ?_
 obtain rfl:=si h
 exact(gw2 [.bool (decide (c=(a.length:Int)))] (Ua tB))
def qak (N:Nat) (a:qC) (b:qC):Option qC:=
 (zX N a.w b.w).bind fun c=>
 (if a.neg=true then
 some (decide ((c.2.length:Int)>0))
 else
 some false:Option Bool).bind fun d=>
 ((if d=true then
 (yn N c.1 ([1]:List Int)).bind fun e=>
 some e
 else
 some c.1:Option (List Int))).bind fun f=>
 (zo N a.neg f).bind fun g=>
 some g
theorem qfQ (N:Nat) (a:qC) (b:qC) {res:qC} (h:qak N a b=some res):qb ZT (.fn 153) (kAl a.neg a.w b.neg b.w) [] (.agg (kAf res.neg res.w)) []:=by
 unfold qak at h
 refine Ub Tryz.func153 rfl rfl (m:=29) rfl (rs:=[.cell 4 116]) rfl (l:=(kBT a.neg a.w b.neg b.w)) rfl ?_
 refine sg fol (kE []) (kK a.neg a.w b.neg b.w (kN [])) ?_
 obtain⟨d,e,h⟩:=bnd h
 refine sq (gr fol [4] (kM (kAS (kAs d.1 [(6,vl encI d.2)]))) (ac (cv (xx N a.w b.w e)) az) ?_)
 refine sq ?_
 refine sq ?_
 obtain⟨p,c,h⟩:=bnd h
 refine Goes.cut (s':=(ofG 29 (kM (kAS (kAs d.1 [(21,.bool p)]))),(kK a.neg a.w b.neg b.w (kN [])))) ?_ ?_
 ·rcases wyB c with⟨o,c⟩|⟨o,c⟩
  ·obtain rfl:=si c
   exact tr fol [2] (kM (kAS (kAs d.1 [(21,.bool (decide ((d.2.length:Int)>0)))]))) (ac (gw o) az)
  obtain rfl:=si c
  exact tr fol [2] (kM (kAS (kAs d.1 [(21,.bool false)]))) (ac (gw o) az)
 obtain⟨q,g6,h⟩:=bnd h
 refine Goes.imp (Q:=fun x s'=>(x= .normal/\ ∃j,j=q/\Sub s' (ofG 29 (kM (kAb (kAs j []))),(kAL a.neg a.w (kN []))))) ?_ ?_
 ·refine ihB g6 (fun r g6=>?_) (fun r g6=>?_)
  ·obtain⟨k,f,g6⟩:=bnd g6
   refine gq fol [2] (kM (kAS (kAs k []))) (kK a.neg a.w b.neg b.w (kN [.frozen [.i 1]])) (ac (hs (.callF 207 [vl encI d.1,.slice 3 0 1 1 1] (kK a.neg a.w b.neg b.w (kN [.cells [.i 1]])) [3] (kBO d.1 ([1]:List Int)) (vl encI k)) (qaB (FzL.cons (Un (qx encI _ (nl rfl))) (FzL.cons (Fz.lit rfl rfl (Ue (AllST.cons tI AllST.nil))) FzL.nil)) (qcl N d.1 ([1]:List Int) f) (qx encI _ (nl rfl)))) az) ?_
   obtain rfl:=si g6
   exact⟨rfl,_,rfl,((show Sub (ofG 29 (kM (kAS (kAs k []))),(kK a.neg a.w b.neg b.w (kN [.frozen [.i 1]]))) (ofG 29 (kM (kAb (kAs k []))),(kAL a.neg a.w (kN [])))from(Sub.norm [] [some 0,some 2] rfl rfl (.kp (.kp (.keep (.same (qd encI _)) .nil))) (.kb rfl (.same sn) (.kb rfl (.same sn) .nil)))).trans (Sub.refl _))⟩
  refine Goes.skip ?_
  obtain rfl:=si g6
  exact⟨rfl,_,rfl,(Sub.norm [] [some 0,some 2] rfl rfl (.kp (.kp (.keep (.same (qd encI _)) .nil))) (.kb rfl (.same sn) (.kb rfl (.same sn) .nil)))⟩
 rintro x s' ⟨rfl,j,rfl,hsub⟩
 refine Goes.sub hsub ?_
 obtain⟨n,g,h⟩:=bnd h
 refine sq (gq fol [3] (kAb []) (kK a.neg a.w n.neg n.w []) (ac (cv (zC N a.neg j g)) az) ?_)
 refine Goes.ret ?_
 obtain rfl:=si h
 exact(gw2 [.agg (kAf n.neg n.w)] (FzW.agg (qc.cons (Ua tB) (qc.cons (Ua (qx encI _ (nl rfl))) qc.nil))))
def qbL (N:Nat) (a:Str):Option Str:=
 (vL N a).bind fun c=>
 if c=true then
 some a
 else
 (jd N a).bind fun b=>
 (qak N b.1 b.2).bind fun d=>
 (qab N d).bind fun e=>
 some e
theorem qhI (N:Nat) (a:Str) {res:Str} (h:qbL N a=some res):qb ZT (.fn 88) [.str a] [] (.str res) []:=by
 unfold qbL at h
 refine Ub Tryz.func88 rfl rfl (m:=17) rfl (rs:=[.tmp 2]) rfl (l:=(kAH a)) rfl ?_
 refine sh fol (kAH a) ?_
 refine sq ?_
 obtain⟨i,c,h⟩:=bnd h
 refine sq (gr fol [1] (kA5 a (kA0 i)) (ac (cv (qbv N a c)) az) ?_)
 refine ihB h (fun j h=>?_) (fun j h=>?_)
 ·refine sh fol (kBH a) ?_
  refine Goes.ret ?_
  obtain rfl:=si h
  exact(gw2 [.str a] (Ua tS))
 refine Goes.skip ?_
 obtain⟨b,d,h⟩:=bnd h
 refine sq (gq fol [1] (kX []) (kK b.1.neg b.1.w b.2.neg b.2.w []) (ac (cv (yf N a d)) az) ?_)
 obtain⟨k,e,h⟩:=bnd h
 obtain⟨g,f,h⟩:=bnd h
 refine sq (gr fol [2,3] (kBH g) (ac (cv (qfQ N b.1 b.2 e)) (ac (cv (qbC N k f)) az)) ?_)
 refine Goes.ret ?_
 obtain rfl:=si h
 exact(gw2 [.str g] (Ua tS))
def xJ (N:Nat) (y:yH) (capacity:Int) (length:Str):Option Str:=
 (qbr N y.Density length).bind fun a=>
 (yK N capacity).bind fun b=>
 (qb5 N a b).bind fun c=>
 (qbu N [48] c).bind fun d=>
 (qbL N d).bind fun e=>
 (qbu N [48] e).bind fun f=>
 some f
theorem qgo (N:Nat) (y:yH) (capacity:Int) (length:Str) {res:Str} (h:xJ N y capacity length=some res):qb ZT (.fn 35) (kAK y.Name y.Density y.Twist y.Strength y.Dye [.i capacity,.str length]) [] (.str res) []:=by
 unfold xJ at h
 refine Ub Tryz.func35 rfl rfl (m:=19) rfl (rs:=[.tmp 6]) rfl (l:=(kW y.Name y.Density y.Twist y.Strength y.Dye ((1,.i capacity)::(kBH length)))) rfl ?_
 refine sg fol ((1,.i capacity)::(kAT length [])) (kB y.Name y.Density y.Twist y.Strength y.Dye []) ?_
 obtain⟨k,a,h⟩:=bnd h
 obtain⟨n,b,h⟩:=bnd h
 obtain⟨g,c,h⟩:=bnd h
 refine sq (gr fol [3,5,6] [(7,.str g)] (ac (cv (qdh N y.Density length a)) (ac (cv (qcQ N capacity b)) (ac (cv (qfH N k n c)) az))) ?_)
 obtain⟨o,d,h⟩:=bnd h
 obtain⟨p,e,h⟩:=bnd h
 obtain⟨j,f,h⟩:=bnd h
 refine sq (gr fol [1,2,3] [(6,.str j)] (ac (cv (qdF N [48] g d)) (ac (cv (qhI N o e)) (ac (cv (qdF N [48] p f)) az))) ?_)
 refine Goes.ret ?_
 obtain rfl:=si h
 exact(gw2 [.str j] (Ua tS))
def zU (d:qC):Nat->Int->Int->Option (Int⊕(Int×Bool))
 |0,_,_=>none
 |K+1,b,e=>
  if e>=0 then
  (idx d.w e).bind fun c=>
  ((if d.neg=true then
  some (w64 (0-c))
  else
  some c:Option Int)).bind fun a=>
  (if b>9223372036 then
  some true
  else
  if b<(-9223372036)then
  some true
  else
  if b=9223372036 then
  if a>854775807 then
  some true
  else
  if b=(-9223372036)then
  some (decide (a<(-854775808)))
  else
  some false
  else
  if b=(-9223372036)then
  some (decide (a<(-854775808)))
  else
  some false:Option Bool).bind fun f=>
  if f=true then
  some (.inr (0,false))
  else
  zU d K (w64 ((w64 (b*1000000000))+a)) (w64 (e-1))
  else
  some (.inl b)
def qaV (N:Nat) (a:Str):Option (Int×Bool):=
 ((vL N a).bind fun d=>
 if(!d)=true then
 some true
 else
 some (decide ((a.length:Int)>20)):Option Bool).bind fun e=>
 if e=true then
 some (0,false)
 else
 (yB N a).bind fun c=>
 (zU c N 0 (w64 ((c.w.length:Int)-1))).bind (fun
 |(.inl f)=>
 some (f,true)
 |(.inr b)=>
 some b)
theorem qhy (N:Nat) (a:Str) {res:Int×Bool} (h:qaV N a=some res):qb ZT (.fn 38) [.str a] [] (.tuple [.i res.1,.bool res.2]) []:=by
 unfold qaV at h
 refine Ub Tryz.func38 rfl rfl (m:=62) rfl (rs:=[.tmp 2,.tmp 3]) rfl (l:=(kAH a)) rfl ?_
 refine sh fol (kAH a) ?_
 refine sq ?_
 refine sq ?_
 obtain⟨H,d,h⟩:=bnd h
 refine Goes.cut (s':=(ofG 62 (kA5 a (kBe H)),[])) ?_ ?_
 ·obtain⟨K,q,d⟩:=bnd d
  rcases wyB d with⟨B,d⟩|⟨B,d⟩
  ·obtain rfl:=si d
   exact tr fol [1,3] (kA5 a [(15,.bool true)]) (ac (cv (qbv N a q)) (ac (gw B) az))
  obtain rfl:=si d
  exact tr fol [1,3] (kA5 a (kBe (decide ((a.length:Int)>20)))) (ac (cv (qbv N a q)) (ac (gw B) az))
 refine ihB h (fun I h=>?_) (fun I h=>?_)
 ·refine sh fol [(2,.i 0),(3,.bool false)] ?_
  refine Goes.ret ?_
  obtain rfl:=si h
  exact(gw2 [.i 0,.bool false] (FzW.tuple (qc.cons (Ua tI) (qc.cons (Ua tB) qc.nil))))
 refine Goes.skip ?_
 obtain⟨k,z,h⟩:=bnd h
 refine sq (gq fol [1] (kAP []) (kAL k.neg k.w []) (ac (cv (qbc N a z)) az) ?_)
 refine sh fol (kAP [(5,.i 0)]) ?_
 refine sq ?_
 refine sh fol (kAP [(5,.i 0),(6,.i (w64 ((k.w.length:Int)-1)))]) ?_
 refine Goes.block ?_
 obtain⟨r,g10,h⟩:=bnd h
 refine Goes.imp (Q:=fun x s'=>(x= .exit 0/\ ∃A,(.inl A)=r/\Sub s' (ofG 62 (kAm A),[]))\/(x= .ret/\ ∃t,(.inr t)=r/\zS ZT [.tmp 2,.tmp 3] (.tuple [.i t.1,.bool t.2]) .ret s')) ?_ ?_
 ·refine Uc (fun M s=> ∃(f:Int) (e:Int),s=(ofG 62 (kAP (kAw f e [])),(kAL k.neg k.w []))/\zU k M f e=some r) ?_ (m:=N) ⟨_,_,rfl,g10⟩
  rintro M s ⟨f,e,rfl,g10⟩
  cases M with
  |zero=>simp only[zU]at g10;cases g10
  |succ M=>
   rw[zU]at g10
   refine sq ?_
   refine sh fol (kAP (kAw f e [(23,.bool (decide (e>=0)))])) ?_
   refine ihD g10 (fun C g10=>?_) (fun C g10=>?_)
   ·refine Goes.skip ?_
    refine sq (Goes.block ?_)
    obtain⟨u,o,g10⟩:=bnd g10
    refine sq (gr fol [3,4] (kAP ((5,.i f)::(kAA e u []))) (ac (iv jK encI o) (ac (lv 0 ce3 encI o rfl) az)) ?_)
    refine sq ?_
    refine sh fol (kAP ((5,.i f)::(kAA e u [(32,.bool k.neg)]))) ?_
    obtain⟨D,g15,g10⟩:=bnd g10
    refine Goes.imp (Q:=fun x s'=>(x= .normal/\ ∃c,c=D/\Sub s' (ofG 62 (kAP ((5,.i f)::(kAA e c []))),(kAL k.neg k.w [])))) ?_ ?_
    ·refine ihB g15 (fun E g15=>?_) (fun E g15=>?_)
     ·refine gh fol (kAP ((5,.i f)::(kAA e (w64 (0-u)) []))) ?_
      obtain rfl:=si g15
      exact⟨rfl,_,rfl,(Sub.refl _)⟩
     refine Goes.skip ?_
     obtain rfl:=si g15
     exact⟨rfl,_,rfl,(Sub.keep [4,5,6,7] rfl rfl)⟩
    rintro x s' ⟨rfl,c,rfl,hsub⟩
    refine Goes.sub hsub ?_
    refine sq ?_
    refine sq ?_
    obtain⟨F,b,g10⟩:=bnd g10
    refine Goes.cut (s':=(ofG 62 (kAP ((5,.i f)::(kAA e c [(56,.bool F)]))),(kAL k.neg k.w []))) ?_ ?_
    ·rcases wyD b with⟨g,b⟩|⟨g,b⟩
     ·obtain rfl:=si b
      exact tr fol [2] (kAP ((5,.i f)::(kAA e c [(56,.bool true)]))) (ac (gw g) az)
     rcases wyD b with⟨j,b⟩|⟨j,b⟩
     ·obtain rfl:=si b
      exact tr fol [2,6] (kAP ((5,.i f)::(kAA e c [(56,.bool true)]))) (ac (gw g) (ac (gw j) az))
     rcases wyD b with⟨n,b⟩|⟨n,b⟩
     ·rcases wyD b with⟨p,b⟩|⟨p,b⟩
      ·obtain rfl:=si b
       exact tr fol [2,6,9,14] (kAP ((5,.i f)::(kAA e c [(56,.bool true)]))) (ac (gw g) (ac (gw j) (ac (gw n) (ac (gw p) az))))
      rcases wyD b with⟨v,b⟩|⟨v,b⟩
      ·obtain rfl:=si b
       exact tr fol [2,6,9,14,17] (kAP ((5,.i f)::(kAA e c [(56,.bool (decide (c<(-854775808))))]))) (ac (gw g) (ac (gw j) (ac (gw n) (ac (gw p) (ac (gw v) az)))))
      obtain rfl:=si b
      exact tr fol [2,6,9,14,17] (kAP ((5,.i f)::(kAA e c [(56,.bool false)]))) (ac (gw g) (ac (gw j) (ac (gw n) (ac (gw p) (ac (gw v) az)))))
     rcases wyD b with⟨y,b⟩|⟨y,b⟩
     ·obtain rfl:=si b
      exact tr fol [2,6,9,17] (kAP ((5,.i f)::(kAA e c [(56,.bool (decide (c<(-854775808))))]))) (ac (gw g) (ac (gw j) (ac (gw n) (ac (gw y) az))))
     obtain rfl:=si b
     exact tr fol [2,6,9,17] (kAP ((5,.i f)::(kAA e c [(56,.bool false)]))) (ac (gw g) (ac (gw j) (ac (gw n) (ac (gw y) az))))
    refine ihB g10 (fun G g10=>?_) (fun G g10=>?_)
    ·refine sh fol [(2,.i 0),(3,.bool false)] ?_
     refine Goes.ret ?_
     obtain rfl:=si g10
     exact Or.inr (⟨rfl,_,rfl,(gw2 [.i 0,.bool false] (FzW.tuple (qc.cons (Ua tI) (qc.cons (Ua tB) qc.nil))))⟩)
    refine Goes.skip ?_
    refine gh fol (kAP (kAw (w64 ((w64 (f*1000000000))+c)) e [])) ?_
    refine gh fol (kAP (kAw (w64 ((w64 (f*1000000000))+c)) (w64 (e-1)) [])) ?_
    exact⟨M,(ofG 62 (kAP (kAw (w64 ((w64 (f*1000000000))+c)) (w64 (e-1)) [])),(kAL k.neg k.w [])),Nat.lt_succ_self _,(Sub.refl _),_,_,rfl,g10⟩
   refine Goes.exit ?_
   obtain rfl:=si g10
   exact Or.inl (⟨rfl,_,rfl,(Sub.norm [] [] rfl rfl (.drop (.keep (.same nI) .nil)) .nil)⟩)
 rintro x s' (⟨rfl,A,rfl,hsub⟩|⟨rfl,J,rfl,hret⟩)
 ·try dsimp only at h
  refine Goes.sub hsub ?_
  refine sh fol [(2,.i A),(3,.bool true)] ?_
  refine Goes.ret ?_
  obtain rfl:=si h
  exact(gw2 [.i A,.bool true] (FzW.tuple (qc.cons (Ua tI) (qc.cons (Ua tB) qc.nil))))
 try dsimp only at h
 obtain rfl:=si h
 exact hret
end Go.Av
