/-
  Walks of functions: what each computes, as a plain function.
-/
import Derived.Test.YtfjamndmfilklaaGreatDoorQGenR3
noncomputable section
namespace Go.Av
open Go.Proofs Go.RowKit
set_option linter.unusedSectionVars false
set_option linter.unusedVariables false
set_option linter.unusedSimpArgs false
set_option maxRecDepth 100000
def qaX (N:Nat) (a:Str) (b:Str):Option Str:=
 (jJ N a).bind fun c=>
 (jJ N b).bind fun d=>
 (if c.2.2=true then
 some d.2.2
 else
 some false:Option Bool).bind fun l=>
 if l=true then
 (qc8 N (w64 ((w64 (c.1*d.2.1))+(w64 (d.1*c.2.1)))) (w64 (c.2.1*d.2.1))).bind fun m=>
 some m
 else
 (z8 N a).bind fun e=>
 (z8 N b).bind fun f=>
 (yw N e.1 f.2).bind fun g=>
 (yw N f.1 e.2).bind fun h=>
 (qcz N g h).bind fun i=>
 (yw N e.2 f.2).bind fun j=>
 (jV N i j).bind fun k=>
 some k
theorem qb0 (N:Nat) (a:Str) (b:Str) {res:Str} (h:qaX N a b=some res):qb ZT (.fn 79) (kAO a b) [] (.str res) []:=by
 unfold qaX at h
 refine Ub Tryz.func79 rfl rfl (m:=63) rfl (rs:=[.tmp 4]) rfl (l:=(kR a b [])) rfl ?_
 refine sh fol (kR a b []) ?_
 obtain⟨d,q,h⟩:=bnd h
 refine sq (gr fol [1] (kR a b [(5,.i d.1),(6,.i d.2.1),(7,.bool d.2.2)]) (ac (cv (qa4 N a q)) az) ?_)
 obtain⟨e,r,h⟩:=bnd h
 refine sq (gr fol [1] (kR a b ((5,.i d.1)::(6,.i d.2.1)::(7,.bool d.2.2)::(kAx e.1 e.2.1 (kBP e.2.2)))) (ac (cv (qa4 N b r)) az) ?_)
 refine sq ?_
 refine sq ?_
 obtain⟨D,c,h⟩:=bnd h
 refine Goes.cut (s':=(ofG 63 (kR a b ((5,.i d.1)::(6,.i d.2.1)::(kAx e.1 e.2.1 [(30,.bool D)]))),[])) ?_ ?_
 ·rcases wyB c with⟨x,c⟩|⟨x,c⟩
  ·obtain rfl:=si c
   exact tr fol [1] (kR a b ((5,.i d.1)::(6,.i d.2.1)::(kAx e.1 e.2.1 [(30,.bool e.2.2)]))) (ac (gw x) az)
  obtain rfl:=si c
  exact tr fol [1] (kR a b ((5,.i d.1)::(6,.i d.2.1)::(kAx e.1 e.2.1 [(30,.bool false)]))) (ac (gw x) az)
 refine ihB h (fun E h=>?_) (fun E h=>?_)
 ·obtain⟨C,s,h⟩:=bnd h
  refine sq (gr fol [10] (kAq C) (ac (cv (qgr N (w64 ((w64 (d.1*e.2.1))+(w64 (e.1*d.2.1)))) (w64 (d.2.1*e.2.1)) s)) az) ?_)
  refine Goes.ret ?_
  obtain rfl:=si h
  exact(gw2 [.str C] (Ua tS))
 refine Goes.skip ?_
 obtain⟨f,t,h⟩:=bnd h
 refine sq (gq fol [1] [(1,.str b),(11,.ptr 0 0),(12,.ptr 1 0)] (kL f.1.neg f.1.w f.2.neg f.2.w []) (ac (cv (vZ N a t)) az) ?_)
 obtain⟨g,u,h⟩:=bnd h
 refine sq (gq fol [1] [(11,.ptr 0 0),(12,.ptr 1 0),(13,.ptr 2 0),(14,.ptr 3 0)] (kL f.1.neg f.1.w f.2.neg f.2.w (kL g.1.neg g.1.w g.2.neg g.2.w [])) (ac (cv (vZ N b u)) az) ?_)
 obtain⟨y,j,h⟩:=bnd h
 obtain⟨z,k,h⟩:=bnd h
 obtain⟨A,n,h⟩:=bnd h
 obtain⟨B,o,h⟩:=bnd h
 obtain⟨v,p,h⟩:=bnd h
 refine sq (gr fol [2,5,6,9,10] (kAq v) (ac (cv (qaq N f.1 g.2 j)) (ac (cv (qaq N g.1 f.2 k)) (ac (cv (qin N y z n)) (ac (cv (qaq N f.2 g.2 o)) (ac (cv (xU N A B p)) az))))) ?_)
 refine Goes.ret ?_
 obtain rfl:=si h
 exact(gw2 [.str v] (Ua tS))
def qdk (a:Str):Option Str:=
 (vS a).bind fun b=>
 if b<0 then
 (cut a 1 (a.length:Int)).bind fun c=>
 some c
 else
 (vS a).bind fun d=>
 if d=0 then
 some a
 else
 (cat [45] a).bind fun e=>
 some e
theorem qjP (a:Str) {res:Str} (h:qdk a=some res):qb ZT (.fn 81) [.str a] [] (.str res) []:=by
 unfold qdk at h
 refine Ub Tryz.func81 rfl rfl (m:=14) rfl (rs:=[.tmp 2]) rfl (l:=(kAM a [])) rfl ?_
 refine sh fol (kAM a []) ?_
 refine sq ?_
 obtain⟨j,b,h⟩:=bnd h
 refine sq (gr fol [1] (kAM a [(5,.bool (decide (j<0)))]) (ac (cv (qaK a b)) az) ?_)
 refine ihD h (fun k h=>?_) (fun k h=>?_)
 ·obtain⟨f,c,h⟩:=bnd h
  refine sq (gr fol [1] (kBJ f) (ac (hs (.done (.opt (qL ZT 22 (.str a) (some (.i 1)) none none)) (.str f)) (zI qlj (some 1) none c)) az) ?_)
  refine Goes.ret ?_
  obtain rfl:=si h
  exact(gw2 [.str f] (Ua tS))
 refine Goes.skip ?_
 refine sq ?_
 obtain⟨n,d,h⟩:=bnd h
 refine sq (gr fol [1] (kAM a (kBP (decide (n=0)))) (ac (cv (qaK a d)) az) ?_)
 refine ihD h (fun o h=>?_) (fun o h=>?_)
 ·refine sh fol (kBJ a) ?_
  refine Goes.ret ?_
  obtain rfl:=si h
  exact(gw2 [.str a] (Ua tS))
 refine Goes.skip ?_
 obtain⟨g,e,h⟩:=bnd h
 refine sq (gr fol [1] (kBJ g) (ac (hs (.done (.opt (qR ZT .add 22 (.const (.string ⟨#[45]⟩)) (.tmp 12) (.str [45]) (.str a))) (.str g)) (qax e)) az) ?_)
 refine Goes.ret ?_
 obtain rfl:=si h
 exact(gw2 [.str g] (Ua tS))
def qb4 (N:Nat) (a:Str) (b:Str):Option Str:=
 (qdk b).bind fun c=>
 (qaX N a c).bind fun d=>
 some d
theorem qfn (N:Nat) (a:Str) (b:Str) {res:Str} (h:qb4 N a b=some res):qb ZT (.fn 22) (kAO a b) [] (.str res) []:=by
 unfold qb4 at h
 refine Ub Tryz.func22 rfl rfl (m:=9) rfl (rs:=[.tmp 4]) rfl (l:=(kR a b [])) rfl ?_
 refine sh fol (kR a b []) ?_
 obtain⟨f,c,h⟩:=bnd h
 obtain⟨e,d,h⟩:=bnd h
 refine sq (gr fol [2,3] (kAq e) (ac (cv (qjP b c)) (ac (cv (qb0 N a f d)) az)) ?_)
 refine Goes.ret ?_
 obtain rfl:=si h
 exact(gw2 [.str e] (Ua tS))
def xO (N:Nat) (a:Str) (b:Str):Option Int:=
 (qb4 N a b).bind fun c=>
 (vS c).bind fun d=>
 some d
theorem qaC (N:Nat) (a:Str) (b:Str) {res:Int} (h:xO N a b=some res):qb ZT (.fn 29) (kAO a b) [] (.i res) []:=by
 unfold xO at h
 refine Ub Tryz.func29 rfl rfl (m:=9) rfl (rs:=[.tmp 4]) rfl (l:=(kR a b [])) rfl ?_
 refine sh fol (kR a b []) ?_
 obtain⟨f,c,h⟩:=bnd h
 obtain⟨e,d,h⟩:=bnd h
 refine sq (gr fol [2,3] [(4,.i e)] (ac (cv (qfn N a b c)) (ac (cv (qaK f d)) az)) ?_)
 refine Goes.ret ?_
 obtain rfl:=si h
 exact(gw2 [.i e] (Ua tI))
def jr (a:Str):Nat->Int->Option (Unit⊕Bool)
 |0,_=>none
 |K+1,b=>
  if b<(a.length:Int)then
  ((idx a b).bind fun c=>
  if(c.toNat:Int)<48 then
  some true
  else
  some (decide ((c.toNat:Int)>57)):Option Bool).bind fun d=>
  if d=true then
  some (.inr false)
  else
  jr a K (w64 (b+1))
  else
  some (.inl ())
def qa7 (N:Nat) (b:Str):Option Bool:=
 (jr b N 0).bind (fun
 |(.inl ())=>
 some true
 |(.inr a)=>
 some a)
theorem qgw (N:Nat) (b:Str) {res:Bool} (h:qa7 N b=some res):qb ZT (.fn 144) [.str b] [] (.bool res) []:=by
 unfold qa7 at h
 refine Ub Tryz.func144 rfl rfl (m:=20) rfl (rs:=[.tmp 2]) rfl (l:=(kAM b [])) rfl ?_
 refine sh fol (kAM b []) ?_
 refine sq ?_
 refine sh fol (kAM b [(3,.i 0)]) ?_
 refine Goes.block ?_
 obtain⟨f,g2,h⟩:=bnd h
 refine Goes.imp (Q:=fun x s'=>(x= .exit 0/\(.inl ())=f/\Sub s' (ofG 20 [],[]))\/(x= .ret/\ ∃j,(.inr j)=f/\jy ZT [.tmp 2] (.bool j) .ret s')) ?_ ?_
 ·refine Uc (fun M s=> ∃(c:Int),s=(ofG 20 (kAM b (kBU c)),[])/\jr b M c=some f) ?_ (m:=N) ⟨_,rfl,g2⟩
  rintro M s ⟨c,rfl,g2⟩
  cases M with
  |zero=>simp only[jr]at g2;cases g2
  |succ M=>
   rw[jr]at g2
   refine sq ?_
   refine sh fol (kAM b [(3,.i c),(7,.bool (decide (c<(b.length:Int))))]) ?_
   refine ihD g2 (fun k g2=>?_) (fun k g2=>?_)
   ·refine Goes.skip ?_
    refine sq (Goes.block ?_)
    refine sq ?_
    obtain⟨n,a,g2⟩:=bnd g2
    refine Goes.cut (s':=(ofG 20 (kAM b [(3,.i c),(19,.bool n)]),[])) ?_ ?_
    ·obtain⟨e,d,a⟩:=bnd a
     rcases wyD a with⟨g,a⟩|⟨g,a⟩
     ·obtain rfl:=si a
      exact tr fol [2,4] (kAM b [(3,.i c),(19,.bool true)]) (ac (hs (.done (.opt (yj ZT 9 (.str b) (.i c))) (.int .u8 (e.toNat:Int))) (qaG st9 d)) (ac (gw g) az))
     obtain rfl:=si a
     exact tr fol [2,4,7] (kAM b [(3,.i c),(19,.bool (decide ((e.toNat:Int)>57)))]) (ac (hs (.done (.opt (yj ZT 9 (.str b) (.i c))) (.int .u8 (e.toNat:Int))) (qaG st9 d)) (ac (gw g) (ac (hs (.done (.opt (yj ZT 9 (.str b) (.i c))) (.int .u8 (e.toNat:Int))) (qaG st9 d)) az)))
    refine ihB g2 (fun o g2=>?_) (fun o g2=>?_)
    ·refine sh fol kBY ?_
     refine Goes.ret ?_
     obtain rfl:=si g2
     exact Or.inr (⟨rfl,_,rfl,(gw2 [.bool false] (Ua tB))⟩)
    refine Goes.skip ?_
    refine gh fol (kAM b (kBU (w64 (c+1)))) ?_
    exact⟨M,(ofG 20 (kAM b (kBU (w64 (c+1)))),[]),Nat.lt_succ_self _,(Sub.refl _),_,rfl,g2⟩
   refine Goes.exit ?_
   obtain rfl:=si g2
   exact Or.inl (⟨rfl,rfl,(Sub.keep [] rfl rfl)⟩)
 rintro x s' (⟨rfl,rfl,hsub⟩|⟨rfl,p,rfl,hret⟩)
 ·try dsimp only at h
  refine Goes.sub hsub ?_
  refine sh fol [(2,.bool true)] ?_
  refine Goes.ret ?_
  obtain rfl:=si h
  exact(gw2 [.bool true] (Ua tB))
 try dsimp only at h
 obtain rfl:=si h
 exact hret
def jf (N:Nat) (a:Str):Option Bool:=
 (if(a.length:Int)=0 then
 some true
 else
 if(a.length:Int)>1 then
 (idx a 0).bind fun b=>
 some (decide ((b.toNat:Int)=48))
 else
 some false:Option Bool).bind fun c=>
 if c=true then
 some false
 else
 (qa7 N a).bind fun d=>
 some d
theorem zY (N:Nat) (b:Str) {res:Bool} (h:jf N b=some res):qb ZT (.fn 70) [.str b] [] (.bool res) []:=by
 unfold jf at h
 refine Ub Tryz.func70 rfl rfl (m:=18) rfl (rs:=[.tmp 2]) rfl (l:=(kAM b [])) rfl ?_
 refine sh fol (kAM b []) ?_
 refine sq ?_
 refine sq ?_
 obtain⟨k,a,h⟩:=bnd h
 refine Goes.cut (s':=(ofG 18 (kAM b (kBN k)),[])) ?_ ?_
 ·rcases wyD a with⟨e,a⟩|⟨e,a⟩
  ·obtain rfl:=si a
   exact tr fol [3] (kAM b [(15,.bool true)]) (ac (gw e) az)
  rcases wyD a with⟨f,a⟩|⟨f,a⟩
  ·obtain⟨g,c,a⟩:=bnd a
   obtain rfl:=si a
   exact tr fol [3,7,9] (kAM b (kBN (decide ((g.toNat:Int)=48)))) (ac (gw e) (ac (gw f) (ac (hs (.done (.opt (yj ZT 9 (.str b) (.i 0))) (.int .u8 (g.toNat:Int))) (qaG st9 c)) az)))
  obtain rfl:=si a
  exact tr fol [3,7] (kAM b [(15,.bool false)]) (ac (gw e) (ac (gw f) az))
 refine ihB h (fun n h=>?_) (fun n h=>?_)
 ·refine sh fol kBY ?_
  refine Goes.ret ?_
  obtain rfl:=si h
  exact(gw2 [.bool false] (Ua tB))
 refine Goes.skip ?_
 obtain⟨j,d,h⟩:=bnd h
 refine sq (gr fol [1] [(2,.bool j)] (ac (cv (qgw N b d)) az) ?_)
 refine Goes.ret ?_
 obtain rfl:=si h
 exact(gw2 [.bool j] (Ua tB))
def qa0 (N:Nat) (a:Str):Option Int:=
 (if(a.length:Int)>0 then
 (idx a 0).bind fun t=>
 some (decide ((t.toNat:Int)=45))
 else
 some false:Option Bool).bind fun u=>
 ((if u=true then
 (cut a 1 (a.length:Int)).bind fun v=>
 some v
 else
 some a:Option Str)).bind fun b=>
 (vN N b).bind fun c=>
 ((cut b 0 c).bind fun f=>
 (jf N f).bind fun g=>
 if(!g)=true then
 some true
 else
 (idx a 0).bind fun h=>
 if(h.toNat:Int)=45 then
 (cut b 0 c).bind fun i=>
 some (i==[48])
 else
 some false:Option Bool).bind fun j=>
 if j=true then
 some 1
 else
 (if c<(b.length:Int)then
 (cut b (w64 (c+1)) (b.length:Int)).bind fun k=>
 (jf N k).bind fun l=>
 if(!l)=true then
 some true
 else
 (cut b (w64 (c+1)) (b.length:Int)).bind fun m=>
 if(m==[48])=true then
 some true
 else
 (cut b (w64 (c+1)) (b.length:Int)).bind fun n=>
 some (n==[49])
 else
 some false:Option Bool).bind fun o=>
 if o=true then
 some 1
 else
 (if c>600 then
 some true
 else
 some (decide ((w64 ((w64 ((b.length:Int)-c))-1))>600)):Option Bool).bind fun p=>
 if p=true then
 some 4
 else
 ((if c<(b.length:Int)then
 (z8 N b).bind fun d=>
 (qaB N d.1.w d.2.w).bind fun e=>
 (if(!decide ((e.length:Int)=1))=true then
 some true
 else
 (idx e 0).bind fun q=>
 some (!decide (q=1)):Option Bool).bind fun r=>
 if r=true then
 some (.inr 1)
 else
 some (.inl ())
 else
 some (.inl ()):Option (Unit⊕Int))).bind (fun
 |(.inl ())=>
 some 0
 |(.inr s)=>
 some s)
theorem qd7 (N:Nat) (a:Str) {res:Int} (h:qa0 N a=some res):qb ZT (.fn 14) [.str a] [] (.i res) []:=by
 unfold qa0 at h
 refine Ub Tryz.func14 rfl rfl (m:=96) rfl (rs:=[.tmp 2]) rfl (l:=(kAM a [])) rfl ?_
 refine sh fol (kAM a []) ?_
 refine sh fol (kAM a [(3,.str a)]) ?_
 refine sq ?_
 refine sq ?_
 obtain⟨b3,g,h⟩:=bnd h
 refine Goes.cut (s':=(ofG 96 (kAM a [(3,.str a),(16,.bool b3)]),[])) ?_ ?_
 ·rcases wyD g with⟨Y,g⟩|⟨Y,g⟩
  ·obtain⟨c2,J,g⟩:=bnd g
   obtain rfl:=si g
   exact tr fol [3,5] (kAM a [(3,.str a),(16,.bool (decide ((c2.toNat:Int)=45)))]) (ac (gw Y) (ac (hs (.done (.opt (yj ZT 9 (.str a) (.i 0))) (.int .u8 (c2.toNat:Int))) (qaG st9 J)) az))
  obtain rfl:=si g
  exact tr fol [3] (kAM a [(3,.str a),(16,.bool false)]) (ac (gw Y) az)
 obtain⟨r6,g6,h⟩:=bnd h
 refine Goes.imp (Q:=fun x s'=>(x= .normal/\ ∃e,e=r6/\Sub s' (ofG 96 (kAM a [(3,.str e)]),[]))) ?_ ?_
 ·refine ihB g6 (fun c7 g6=>?_) (fun c7 g6=>?_)
  ·obtain⟨s8,K,g6⟩:=bnd g6
   refine gr fol [1] (kAM a [(3,.str s8)]) (ac (hs (.done (.opt (qL ZT 9 (.str a) (some (.i 1)) none none)) (.str s8)) (zI st9 (some 1) none K)) az) ?_
   obtain rfl:=si g6
   exact⟨rfl,_,rfl,(Sub.refl _)⟩
  refine Goes.skip ?_
  obtain rfl:=si g6
  exact⟨rfl,_,rfl,(Sub.keep [0,3] rfl rfl)⟩
 rintro x s' ⟨rfl,e,rfl,hsub⟩
 refine Goes.sub hsub ?_
 obtain⟨d,L,h⟩:=bnd h
 refine sq (gr fol [1] (kAM a (kAs e d [])) (ac (cv (xe N e L)) az) ?_)
 refine sq ?_
 refine sq ?_
 obtain⟨Z,c,h⟩:=bnd h
 refine Goes.cut (s':=(ofG 96 (kAs e d [(36,.bool Z)]),[])) ?_ ?_
 ·obtain⟨r,n,c⟩:=bnd c
  obtain⟨r11,o,c⟩:=bnd c
  rcases wyB c with⟨z,c⟩|⟨z,c⟩
  ·obtain rfl:=si c
   exact tr fol [2,3,5] (kAs e d [(36,.bool true)]) (ac (hs (.done (.opt (qL ZT 9 (.str e) none (some (.i d)) none)) (.str r)) (zI st9 none (some d) n)) (ac (cv (zY N r o)) (ac (gw z) az)))
  obtain⟨M,t,c⟩:=bnd c
  rcases wyD c with⟨B,c⟩|⟨B,c⟩
  ·obtain⟨O,C,c⟩:=bnd c
   obtain rfl:=si c
   exact tr fol [2,3,5,7,9,12] (kAs e d [(36,.bool (O==[48]))]) (ac (hs (.done (.opt (qL ZT 9 (.str e) none (some (.i d)) none)) (.str r)) (zI st9 none (some d) n)) (ac (cv (zY N r o)) (ac (gw z) (ac (hs (.done (.opt (yj ZT 22 (.str a) (.i 0))) (.int .u8 (M.toNat:Int))) (qaG qlj t)) (ac (gw B) (ac (hs (.done (.opt (qL ZT 9 (.str e) none (some (.i d)) none)) (.str O)) (zI st9 none (some d) C)) az))))))
  obtain rfl:=si c
  exact tr fol [2,3,5,7,9] (kAs e d [(36,.bool false)]) (ac (hs (.done (.opt (qL ZT 9 (.str e) none (some (.i d)) none)) (.str r)) (zI st9 none (some d) n)) (ac (cv (zY N r o)) (ac (gw z) (ac (hs (.done (.opt (yj ZT 22 (.str a) (.i 0))) (.int .u8 (M.toNat:Int))) (qaG qlj t)) (ac (gw B) az)))))
 refine ihB h (fun a0 h=>?_) (fun a0 h=>?_)
 ·refine sh fol [(2,.i 1)] ?_
  refine Goes.ret ?_
  obtain rfl:=si h
  exact(gw2 [.i 1] (Ua tI))
 refine Goes.skip ?_
 refine sq ?_
 refine sq ?_
 obtain⟨a1,b,h⟩:=bnd h
 refine Goes.cut (s':=(ofG 96 (kAs e d [(62,.bool a1)]),[])) ?_ ?_
 ·rcases wyD b with⟨u,b⟩|⟨u,b⟩
  ·obtain⟨s,p,b⟩:=bnd b
   obtain⟨r21,q,b⟩:=bnd b
   rcases wyB b with⟨A,b⟩|⟨A,b⟩
   ·obtain rfl:=si b
    exact tr fol [4,8,9,11] (kAs e d [(62,.bool true)]) (ac (gw u) (ac (hs (.done (.opt (qL ZT 9 (.str e) (some (.i (w64 (d+1)))) none none)) (.str s)) (zI st9 (some (w64 (d+1))) none p)) (ac (cv (zY N s q)) (ac (gw A) az))))
   obtain⟨P,v,b⟩:=bnd b
   rcases wyB b with⟨D,b⟩|⟨D,b⟩
   ·obtain rfl:=si b
    exact tr fol [4,8,9,11,15,18] (kAs e d [(62,.bool true)]) (ac (gw u) (ac (hs (.done (.opt (qL ZT 9 (.str e) (some (.i (w64 (d+1)))) none none)) (.str s)) (zI st9 (some (w64 (d+1))) none p)) (ac (cv (zY N s q)) (ac (gw A) (ac (hs (.done (.opt (qL ZT 9 (.str e) (some (.i (w64 (d+1)))) none none)) (.str P)) (zI st9 (some (w64 (d+1))) none v)) (ac (gw D) az))))))
   obtain⟨U,E,b⟩:=bnd b
   obtain rfl:=si b
   exact tr fol [4,8,9,11,15,18,22] (kAs e d [(62,.bool (U==[49]))]) (ac (gw u) (ac (hs (.done (.opt (qL ZT 9 (.str e) (some (.i (w64 (d+1)))) none none)) (.str s)) (zI st9 (some (w64 (d+1))) none p)) (ac (cv (zY N s q)) (ac (gw A) (ac (hs (.done (.opt (qL ZT 9 (.str e) (some (.i (w64 (d+1)))) none none)) (.str P)) (zI st9 (some (w64 (d+1))) none v)) (ac (gw D) (ac (hs (.done (.opt (qL ZT 9 (.str e) (some (.i (w64 (d+1)))) none none)) (.str U)) (zI st9 (some (w64 (d+1))) none E)) az)))))))
  obtain rfl:=si b
  exact tr fol [4] (kAs e d [(62,.bool false)]) (ac (gw u) az)
 refine ihB h (fun a2 h=>?_) (fun a2 h=>?_)
 ·refine sh fol [(2,.i 1)] ?_
  refine Goes.ret ?_
  obtain rfl:=si h
  exact(gw2 [.i 1] (Ua tI))
 refine Goes.skip ?_
 refine sq ?_
 refine sq ?_
 obtain⟨a3,j,h⟩:=bnd h
 refine Goes.cut (s':=(ofG 96 (kAs e d [(72,.bool a3)]),[])) ?_ ?_
 ·rcases wyD j with⟨F,j⟩|⟨F,j⟩
  ·obtain rfl:=si j
   exact tr fol [2] (kAs e d [(72,.bool true)]) (ac (gw F) az)
  obtain rfl:=si j
  exact tr fol [2] (kAs e d [(72,.bool (decide ((w64 ((w64 ((e.length:Int)-d))-1))>600)))]) (ac (gw F) az)
 refine ihB h (fun a4 h=>?_) (fun a4 h=>?_)
 ·refine sh fol [(2,.i 4)] ?_
  refine Goes.ret ?_
  obtain rfl:=si h
  exact(gw2 [.i 4] (Ua tI))
 refine Goes.skip ?_
 refine sq ?_
 refine sh fol [(3,.str e),(76,.bool (decide (d<(e.length:Int))))] ?_
 obtain⟨V,g33,h⟩:=bnd h
 refine Goes.imp (Q:=fun x s'=>(x= .normal/\(.inl ())=V/\Sub s' (ofG 96 [],[]))\/(x= .ret/\ ∃X,(.inr X)=V/\jy ZT [.tmp 2] (.i X) .ret s')) ?_ ?_
 ·refine ihD g33 (fun a5 g33=>?_) (fun a5 g33=>?_)
  ·obtain⟨k,G,g33⟩:=bnd g33
   refine sq (gq fol [1] [(5,.ptr 0 0),(6,.ptr 1 0)] (kL k.1.neg k.1.w k.2.neg k.2.w []) (ac (cv (vZ N e G)) az) ?_)
   obtain⟨a6,H,g33⟩:=bnd g33
   refine sq (gr fol [4] [(7,vl encI a6)] (ac (cv (qdZ N k.1.w k.2.w H)) az) ?_)
   refine sq ?_
   obtain⟨a7,f,g33⟩:=bnd g33
   refine Goes.cut (s':=(ofG 96 [(95,.bool a7)],(kL k.1.neg k.1.w k.2.neg k.2.w []))) ?_ ?_
   ·rcases wyB f with⟨I,f⟩|⟨I,f⟩
    ·obtain rfl:=si f
     exact tr fol [3] [(95,.bool true)] (ac (gw I) az)
    obtain⟨a8,y,f⟩:=bnd f
    obtain rfl:=si f
    exact tr fol [3,5,6] [(95,.bool (!decide (a8=1)))] (ac (gw I) (ac (iv jB encI y) (ac (lv 0 ce3 encI y rfl) az)))
   refine ihB g33 (fun a9 g33=>?_) (fun a9 g33=>?_)
   ·refine sh fol [(2,.i 1)] ?_
    refine Goes.ret ?_
    obtain rfl:=si g33
    exact Or.inr (⟨rfl,_,rfl,(gw2 [.i 1] (Ua tI))⟩)
   refine Goes.skip ?_
   obtain rfl:=si g33
   exact Or.inl (⟨rfl,rfl,(Sub.norm [] [] rfl rfl .nil .nil)⟩)
  refine Goes.skip ?_
  obtain rfl:=si g33
  exact Or.inl (⟨rfl,rfl,(Sub.keep [] rfl rfl)⟩)
 rintro x s' (⟨rfl,rfl,hsub⟩|⟨rfl,q43,rfl,hret⟩)
 ·try dsimp only at h
  refine Goes.sub hsub ?_
  refine sh fol [(2,.i 0)] ?_
  refine Goes.ret ?_
  obtain rfl:=si h
  exact(gw2 [.i 0] (Ua tI))
 try dsimp only at h
 obtain rfl:=si h
 exact hret
def qX (N:Nat) (v:List Str):Nat->Int->Option (Unit⊕Int)
 |0,_=>none
 |K+1,a=>
  if a<(v.length:Int)then
  (idx v a).bind fun c=>
  (qa0 N c).bind fun b=>
  if(!decide (b=0))=true then
  some (.inr b)
  else
  qX N v K (w64 (a+1))
  else
  some (.inl ())
def qam (N:Nat) (v:List Str):Option Int:=
 (qX N v N 0).bind (fun
 |(.inl ())=>
 some 0
 |(.inr a)=>
 some a)
theorem qfH (N:Nat) (v:List Str) {res:Int} (h:qam N v=some res):qb ZT (.fn 68) [vl encS v] [] (.i res) []:=by
 unfold qam at h
 refine Ub Tryz.func68 rfl rfl (m:=19) rfl (rs:=[.tmp 2]) rfl (l:=(kBL v [])) rfl ?_
 refine sh fol (kBL v []) ?_
 refine sq ?_
 refine sh fol (kBL v [(3,.i 0)]) ?_
 refine Goes.block ?_
 obtain⟨e,g2,h⟩:=bnd h
 refine Goes.imp (Q:=fun x s'=>(x= .exit 0/\(.inl ())=e/\Sub s' (ofG 19 [],[]))\/(x= .ret/\ ∃f,(.inr f)=e/\jy ZT [.tmp 2] (.i f) .ret s')) ?_ ?_
 ·refine Uc (fun M s=> ∃(a:Int),s=(ofG 19 (kAn v a []),[])/\qX N v M a=some e) ?_ (m:=N) ⟨_,rfl,g2⟩
  rintro M s ⟨a,rfl,g2⟩
  cases M with
  |zero=>simp only[qX]at g2;cases g2
  |succ M=>
   rw[qX]at g2
   refine sq ?_
   refine sh fol (kAn v a (kAw (decide (a<(v.length:Int))))) ?_
   refine ihD g2 (fun g g2=>?_) (fun g g2=>?_)
   ·refine Goes.skip ?_
    refine sq (Goes.block ?_)
    obtain⟨j,b,g2⟩:=bnd g2
    obtain⟨c,d,g2⟩:=bnd g2
    refine sq (gr fol [2,3,4] (kAn v a [(4,.i c)]) (ac (iv sl73 encS b) (ac (lv 0 ce22 encS b rfl) (ac (cv (qd7 N j d)) az))) ?_)
    refine sh fol (kAn v a [(4,.i c),(17,.bool (!decide (c=0)))]) ?_
    refine ihB g2 (fun k g2=>?_) (fun k g2=>?_)
    ·refine sh fol (kBF c) ?_
     refine Goes.ret ?_
     obtain rfl:=si g2
     exact Or.inr (⟨rfl,_,rfl,(gw2 [.i c] (Ua tI))⟩)
    refine Goes.skip ?_
    refine gh fol (kAn v (w64 (a+1)) []) ?_
    exact⟨M,(ofG 19 (kAn v (w64 (a+1)) []),[]),Nat.lt_succ_self _,(Sub.refl _),_,rfl,g2⟩
   refine Goes.exit ?_
   obtain rfl:=si g2
   exact Or.inl (⟨rfl,rfl,(Sub.keep [] rfl rfl)⟩)
 rintro x s' (⟨rfl,rfl,hsub⟩|⟨rfl,n,rfl,hret⟩)
 ·try dsimp only at h
  refine Goes.sub hsub ?_
  refine sh fol [(2,.i 0)] ?_
  refine Goes.ret ?_
  obtain rfl:=si h
  exact(gw2 [.i 0] (Ua tI))
 try dsimp only at h
 obtain rfl:=si h
 exact hret
def yn (N:Nat) (a:kK):Option Int:=
 (qam N ([a.Low,a.High]:List Str)).bind fun b=>
 (if b=0 then
 (xO N a.Low a.High).bind fun c=>
 some (decide (c>0))
 else
 some false:Option Bool).bind fun d=>
 ((if d=true then
 some 11
 else
 some b:Option Int)).bind fun e=>
 some e
theorem qcc (N:Nat) (a:kK) {res:Int} (h:yn N a=some res):qb ZT (.fn 11) [.agg (kAO a.Low a.High)] [] (.i res) []:=by
 unfold yn at h
 refine Ub Tryz.func11 rfl rfl (m:=21) rfl (rs:=[.tmp 2]) rfl (l:=[(0,.agg [.str a.Low,.str a.High])]) rfl ?_
 refine sg fol (kAp []) (kQ a.Low a.High []) ?_
 obtain⟨c,d,h⟩:=bnd h
 refine sq (gq fol [5] (kAp (kBU c)) (kQ a.Low a.High (kQ a.Low a.High [])) (ac (hs (.call 68 [.slice 1 0 2 2 1] (kQ a.Low a.High (kQ a.Low a.High [])) [1] [vl encS ([a.Low,a.High]:List Str)] (.i c)) (qdG (FzL.cons (Fz.lit rfl rfl (Ue (AllST.cons tS (AllST.cons tS AllST.nil)))) FzL.nil) (qfH N ([a.Low,a.High]:List Str) d) tI rfl)) az) ?_)
 refine sq ?_
 refine sq ?_
 obtain⟨j,b,h⟩:=bnd h
 refine Goes.cut (s':=(ofG 21 [(3,.i c),(19,.bool j)],(kQ a.Low a.High (kQ a.Low a.High [])))) ?_ ?_
 ·rcases wyD b with⟨g,b⟩|⟨g,b⟩
  ·obtain⟨k,e,b⟩:=bnd b
   obtain rfl:=si b
   exact tr fol [2,7] [(3,.i c),(19,.bool (decide (k>0)))] (ac (gw g) (ac (cv (qaC N a.Low a.High e)) az))
  obtain rfl:=si b
  exact tr fol [2] [(3,.i c),(19,.bool false)] (ac (gw g) az)
 obtain⟨n,g7,h⟩:=bnd h
 refine Goes.imp (Q:=fun x s'=>(x= .normal/\ ∃f,f=n/\Sub s' (ofG 21 (kBU f),[]))) ?_ ?_
 ·refine ihB g7 (fun o g7=>?_) (fun o g7=>?_)
  ·refine gh fol [(3,.i 11)] ?_
   obtain rfl:=si g7
   exact⟨rfl,_,rfl,(Sub.norm [] [] rfl rfl (.keep (.same nI) .nil) .nil)⟩
  refine Goes.skip ?_
  obtain rfl:=si g7
  exact⟨rfl,_,rfl,(Sub.norm [] [] rfl rfl (.keep (.same nI) .nil) .nil)⟩
 rintro x s' ⟨rfl,f,rfl,hsub⟩
 refine Goes.sub hsub ?_
 refine sh fol (kBF f) ?_
 refine Goes.ret ?_
 obtain rfl:=si h
 exact(gw2 [.i f] (Ua tI))
def xL (N:Nat) (a:kK) (b:kK):Option (Int×Int):=
 (xO N a.High b.Low).bind fun c=>
 if c<0 then
 some ((-1),0)
 else
 (xO N b.High a.Low).bind fun d=>
 if d<0 then
 some (1,0)
 else
 (if(a.Low==a.High)=true then
 some ((a.Low==b.Low)&&((a.High==b.High)&&true))
 else
 some false:Option Bool).bind fun e=>
 if e=true then
 some (0,0)
 else
 some (0,24)
theorem qf2 (N:Nat) (a:kK) (b:kK) {res:Int×Int} (h:xL N a b=some res):qb ZT (.fn 12) (kV a.Low a.High (kV b.Low b.High [])) [] (.tuple [.i res.1,.i res.2]) []:=by
 unfold xL at h
 refine Ub Tryz.func12 rfl rfl (m:=28) rfl (rs:=[.tmp 4,.tmp 5]) rfl (l:=(kAG a.Low a.High b.Low b.High [])) rfl ?_
 refine sg fol (kO (kAV [])) (kB a.Low a.High b.Low b.High []) ?_
 refine sq ?_
 obtain⟨j,d,h⟩:=bnd h
 refine sq (gr fol [4] (kO (kAV [(11,.bool (decide (j<0)))])) (ac (cv (qaC N a.High b.Low d)) az) ?_)
 refine ihD h (fun k h=>?_) (fun k h=>?_)
 ·refine sh fol [(4,.i (-1)),(5,.i 0)] ?_
  refine Goes.ret ?_
  obtain rfl:=si h
  exact(gw2 [.i (-1),.i 0] (FzW.tuple (qc.cons (Ua tI) (qc.cons (Ua tI) qc.nil))))
 refine Goes.skip ?_
 refine sq ?_
 obtain⟨n,f,h⟩:=bnd h
 refine sq (gr fol [4] (kO (kAV [(17,.bool (decide (n<0)))])) (ac (cv (qaC N b.High a.Low f)) az) ?_)
 refine ihD h (fun o h=>?_) (fun o h=>?_)
 ·refine sh fol [(4,.i 1),(5,.i 0)] ?_
  refine Goes.ret ?_
  obtain rfl:=si h
  exact(gw2 [.i 1,.i 0] (FzW.tuple (qc.cons (Ua tI) (qc.cons (Ua tI) qc.nil))))
 refine Goes.skip ?_
 refine sq ?_
 refine sq ?_
 obtain⟨p,c,h⟩:=bnd h
 refine Goes.cut (s':=(ofG 28 [(27,.bool p)],(kB a.Low a.High b.Low b.High []))) ?_ ?_
 ·rcases wyB c with⟨g,c⟩|⟨g,c⟩
  ·obtain rfl:=si c
   exact tr fol [5,8] [(27,.bool ((a.Low==b.Low)&&((a.High==b.High)&&true)))] (ac (gw g) (ac (hs (.done (.opt (qR ZT .eql 24 (.tmp 24) (.tmp 25) (.agg (kAO a.Low a.High)) (.agg (kAO b.Low b.High)))) (.bool ((a.Low==b.Low)&&((a.High==b.High)&&true)))) (qiY qiF (e:=((a.Low==b.Low)&&((a.High==b.High)&&true))) (.cons (a:= .str a.Low) (b:= .str b.Low) rfl (by kernel_rfl) (by kernel_rfl) (by kernel_rfl) (.cons (a:= .str a.High) (b:= .str b.High) rfl (by kernel_rfl) (by kernel_rfl) (by kernel_rfl) .nil)))) az))
  obtain rfl:=si c
  exact tr fol [5] [(27,.bool false)] (ac (gw g) az)
 refine ihB h (fun q h=>?_) (fun q h=>?_)
 ·refine sh fol [(4,.i 0),(5,.i 0)] ?_
  refine Goes.ret ?_
  obtain rfl:=si h
  exact(gw2 [.i 0,.i 0] (FzW.tuple (qc.cons (Ua tI) (qc.cons (Ua tI) qc.nil))))
 refine Goes.skip ?_
 refine sh fol [(4,.i 0),(5,.i 24)] ?_
 refine Goes.ret ?_
 obtain rfl:=si h
 exact(gw2 [.i 0,.i 24] (FzW.tuple (qc.cons (Ua tI) (qc.cons (Ua tI) qc.nil))))
def vI (a:Int) (e:Int) (bad:Int) (want:Int):Option Bool:=
 if(!decide (bad=0))=true then
 (if a=0 then
 some (decide (e=bad))
 else
 some false:Option Bool).bind fun b=>
 some b
 else
 (if e=0 then
 some (decide (a=want))
 else
 some false:Option Bool).bind fun c=>
 some c
theorem qgg (a:Int) (e:Int) (bad:Int) (want:Int) {res:Bool} (h:vI a e bad want=some res):qb ZT (.fn 13) [.i a,.i e,.i bad,.i want] [] (.bool res) []:=by
 unfold vI at h
 refine Ub Tryz.func13 rfl rfl (m:=25) rfl (rs:=[.tmp 8]) rfl (l:=(kAC a e ((2,.i bad)::(kBU want)))) rfl ?_
 refine sh fol (kAC a e ((2,.i bad)::(kBU want))) ?_
 refine sq ?_
 refine sh fol (kAC a e ((2,.i bad)::(3,.i want)::(kBP (!decide (bad=0))))) ?_
 refine ihB h (fun k h=>?_) (fun k h=>?_)
 ·refine sq ?_
  obtain⟨g,b,h⟩:=bnd h
  refine Goes.cut (s':=(ofG 25 (kAw g),[])) ?_ ?_
  ·rcases wyD b with⟨d,b⟩|⟨d,b⟩
   ·obtain rfl:=si b
    exact tr fol [2] (kAw (decide (e=bad))) (ac (gw d) az)
   obtain rfl:=si b
   exact tr fol [2] kBK (ac (gw d) az)
  refine Goes.ret ?_
  obtain rfl:=si h
  exact(gw2 [.bool g] (Ua tB))
 refine Goes.skip ?_
 refine sq ?_
 obtain⟨j,c,h⟩:=bnd h
 refine Goes.cut (s':=(ofG 25 (kAw j),[])) ?_ ?_
 ·rcases wyD c with⟨f,c⟩|⟨f,c⟩
  ·obtain rfl:=si c
   exact tr fol [2] (kAw (decide (a=want))) (ac (gw f) az)
  obtain rfl:=si c
  exact tr fol [2] kBK (ac (gw f) az)
 refine Goes.ret ?_
 obtain rfl:=si h
 exact(gw2 [.bool j] (Ua tB))
def qcA (holds:Bool) (e:Int):Option Int:=
 if holds=true then
 some e
 else
 some 0
theorem qio (holds:Bool) (e:Int) {res:Int} (h:qcA holds e=some res):qb ZT (.fn 15) [.bool holds,.i e] [] (.i res) []:=by
 unfold qcA at h
 refine Ub Tryz.func15 rfl rfl (m:=7) rfl (rs:=[.tmp 4]) rfl (l:=[(0,.bool holds),(1,.i e)]) rfl ?_
 refine sh fol [(0,.bool holds),(1,.i e)] ?_
 refine sq ?_
 refine sh fol [(1,.i e),(5,.bool holds)] ?_
 refine ihB h (fun a h=>?_) (fun a h=>?_)
 ·refine sh fol [(4,.i e)] ?_
  refine Goes.ret ?_
  obtain rfl:=si h
  exact(gw2 [.i e] (Ua tI))
 refine Goes.skip ?_
 refine sh fol [(4,.i 0)] ?_
 refine Goes.ret ?_
 obtain rfl:=si h
 exact(gw2 [.i 0] (Ua tI))
def qay (N:Nat) (a:Str):Option Str:=
 (vN N a).bind fun b=>
 (cut a 0 b).bind fun c=>
 some c
theorem qdx (N:Nat) (a:Str) {res:Str} (h:qay N a=some res):qb ZT (.fn 75) [.str a] [] (.str res) []:=by
 unfold qay at h
 refine Ub Tryz.func75 rfl rfl (m:=7) rfl (rs:=[.tmp 2]) rfl (l:=(kAM a [])) rfl ?_
 refine sh fol (kAM a []) ?_
 obtain⟨e,b,h⟩:=bnd h
 obtain⟨d,c,h⟩:=bnd h
 refine sq (gr fol [2,3] (kBJ d) (ac (cv (xe N a b)) (ac (hs (.done (.opt (qL ZT 22 (.str a) none (some (.i e)) none)) (.str d)) (zI qlj none (some e) c)) az)) ?_)
 refine Goes.ret ?_
 obtain rfl:=si h
 exact(gw2 [.str d] (Ua tS))
def qaD (N:Nat) (a:Str):Option Str:=
 (vN N a).bind fun b=>
 if b=(a.length:Int)then
 some [49]
 else
 (cut a (w64 (b+1)) (a.length:Int)).bind fun c=>
 some c
theorem qfD (N:Nat) (a:Str) {res:Str} (h:qaD N a=some res):qb ZT (.fn 76) [.str a] [] (.str res) []:=by
 unfold qaD at h
 refine Ub Tryz.func76 rfl rfl (m:=14) rfl (rs:=[.tmp 2]) rfl (l:=(kAM a [])) rfl ?_
 refine sh fol (kAM a []) ?_
 obtain⟨b,c,h⟩:=bnd h
 refine sq (gr fol [1] (kAM a (kBU b)) (ac (cv (xe N a c)) az) ?_)
 refine sq ?_
 refine sh fol (kAM a [(3,.i b),(9,.bool (decide (b=(a.length:Int))))]) ?_
 refine ihD h (fun f h=>?_) (fun f h=>?_)
 ·refine sh fol [(2,.str [49])] ?_
  refine Goes.ret ?_
  obtain rfl:=si h
  exact(gw2 [.str [49]] (Ua tS))
 refine Goes.skip ?_
 obtain⟨e,d,h⟩:=bnd h
 refine sq (gr fol [3] (kBJ e) (ac (hs (.done (.opt (qL ZT 22 (.str a) (some (.i (w64 (b+1)))) none none)) (.str e)) (zI qlj (some (w64 (b+1))) none d)) az) ?_)
 refine Goes.ret ?_
 obtain rfl:=si h
 exact(gw2 [.str e] (Ua tS))
def qde (a:Str):Option Str:=
 (vS a).bind fun b=>
 if b<0 then
 (cut a 1 (a.length:Int)).bind fun c=>
 some c
 else
 some a
theorem qfM (a:Str) {res:Str} (h:qde a=some res):qb ZT (.fn 157) [.str a] [] (.str res) []:=by
 unfold qde at h
 refine Ub Tryz.func157 rfl rfl (m:=9) rfl (rs:=[.tmp 2]) rfl (l:=(kAM a [])) rfl ?_
 refine sh fol (kAM a []) ?_
 refine sq ?_
 obtain⟨e,b,h⟩:=bnd h
 refine sq (gr fol [1] (kAM a [(5,.bool (decide (e<0)))]) (ac (cv (qaK a b)) az) ?_)
 refine ihD h (fun f h=>?_) (fun f h=>?_)
 ·obtain⟨d,c,h⟩:=bnd h
  refine sq (gr fol [1] (kBJ d) (ac (hs (.done (.opt (qL ZT 22 (.str a) (some (.i 1)) none none)) (.str d)) (zI qlj (some 1) none c)) az) ?_)
  refine Goes.ret ?_
  obtain rfl:=si h
  exact(gw2 [.str d] (Ua tS))
 refine Goes.skip ?_
 refine sh fol (kBJ a) ?_
 refine Goes.ret ?_
 obtain rfl:=si h
 exact(gw2 [.str a] (Ua tS))
def qbK (N:Nat) (a:Str):Option Int:=
 ((qay N a).bind fun b=>
 (qde b).bind fun c=>
 if(c.length:Int)>600 then
 some true
 else
 (qaD N a).bind fun d=>
 some (decide ((d.length:Int)>600)):Option Bool).bind fun e=>
 if e=true then
 some 4
 else
 some 0
theorem qhv (N:Nat) (a:Str) {res:Int} (h:qbK N a=some res):qb ZT (.fn 204) [.str a] [] (.i res) []:=by
 unfold qbK at h
 refine Ub Tryz.func204 rfl rfl (m:=14) rfl (rs:=[.tmp 2]) rfl (l:=(kAM a [])) rfl ?_
 refine sh fol (kAM a []) ?_
 refine sq ?_
 refine sq ?_
 obtain⟨j,b,h⟩:=bnd h
 refine Goes.cut (s':=(ofG 14 (kBO j),[])) ?_ ?_
 ·obtain⟨g,c,b⟩:=bnd b
  obtain⟨o,d,b⟩:=bnd b
  rcases wyD b with⟨f,b⟩|⟨f,b⟩
  ·obtain rfl:=si b
   exact tr fol [1,2,5] [(13,.bool true)] (ac (cv (qdx N a c)) (ac (cv (qfM g d)) (ac (gw f) az)))
  obtain⟨k,e,b⟩:=bnd b
  obtain rfl:=si b
  exact tr fol [1,2,5,7] (kBO (decide ((k.length:Int)>600))) (ac (cv (qdx N a c)) (ac (cv (qfM g d)) (ac (gw f) (ac (cv (qfD N a e)) az))))
 refine ihB h (fun n h=>?_) (fun n h=>?_)
 ·refine sh fol [(2,.i 4)] ?_
  refine Goes.ret ?_
  obtain rfl:=si h
  exact(gw2 [.i 4] (Ua tI))
 refine Goes.skip ?_
 refine sh fol [(2,.i 0)] ?_
 refine Goes.ret ?_
 obtain rfl:=si h
 exact(gw2 [.i 0] (Ua tI))
def qU (N:Nat) (l:List Str):Nat->Int->Option (Unit⊕Int)
 |0,_=>none
 |K+1,a=>
  if a<(l.length:Int)then
  (idx l a).bind fun b=>
  (qbK N b).bind fun c=>
  if(!decide (c=0))=true then
  some (.inr 4)
  else
  qU N l K (w64 (a+1))
  else
  some (.inl ())
def qbh (N:Nat) (l:List Str):Option Int:=
 (qU N l N 0).bind (fun
 |(.inl ())=>
 some 0
 |(.inr a)=>
 some a)
theorem qfK (N:Nat) (l:List Str) {res:Int} (h:qbh N l=some res):qb ZT (.fn 148) [vl encS l] [] (.i res) []:=by
 unfold qbh at h
 refine Ub Tryz.func148 rfl rfl (m:=16) rfl (rs:=[.tmp 2]) rfl (l:=(kBL l [])) rfl ?_
 refine sh fol (kBL l []) ?_
 refine sq ?_
 refine sh fol (kBL l [(3,.i 0)]) ?_
 refine Goes.block ?_
 obtain⟨d,g2,h⟩:=bnd h
 refine Goes.imp (Q:=fun x s'=>(x= .exit 0/\(.inl ())=d/\Sub s' (ofG 16 [],[]))\/(x= .ret/\ ∃e,(.inr e)=d/\jy ZT [.tmp 2] (.i e) .ret s')) ?_ ?_
 ·refine Uc (fun M s=> ∃(a:Int),s=(ofG 16 (kAn l a []),[])/\qU N l M a=some d) ?_ (m:=N) ⟨_,rfl,g2⟩
  rintro M s ⟨a,rfl,g2⟩
  cases M with
  |zero=>simp only[qU]at g2;cases g2
  |succ M=>
   rw[qU]at g2
   refine sq ?_
   refine sh fol (kAn l a [(7,.bool (decide (a<(l.length:Int))))]) ?_
   refine ihD g2 (fun f g2=>?_) (fun f g2=>?_)
   ·refine Goes.skip ?_
    refine sq (Goes.block ?_)
    obtain⟨g,b,g2⟩:=bnd g2
    obtain⟨j,c,g2⟩:=bnd g2
    refine sq (gr fol [2,3,4] (kAn l a (kBN (!decide (j=0)))) (ac (iv sl73 encS b) (ac (lv 0 ce22 encS b rfl) (ac (cv (qhv N g c)) az))) ?_)
    refine ihB g2 (fun k g2=>?_) (fun k g2=>?_)
    ·refine sh fol [(2,.i 4)] ?_
     refine Goes.ret ?_
     obtain rfl:=si g2
     exact Or.inr (⟨rfl,_,rfl,(gw2 [.i 4] (Ua tI))⟩)
    refine Goes.skip ?_
    refine gh fol (kAn l (w64 (a+1)) []) ?_
    exact⟨M,(ofG 16 (kAn l (w64 (a+1)) []),[]),Nat.lt_succ_self _,(Sub.refl _),_,rfl,g2⟩
   refine Goes.exit ?_
   obtain rfl:=si g2
   exact Or.inl (⟨rfl,rfl,(Sub.keep [] rfl rfl)⟩)
 rintro x s' (⟨rfl,rfl,hsub⟩|⟨rfl,n,rfl,hret⟩)
 ·try dsimp only at h
  refine Goes.sub hsub ?_
  refine sh fol [(2,.i 0)] ?_
  refine Goes.ret ?_
  obtain rfl:=si h
  exact(gw2 [.i 0] (Ua tI))
 try dsimp only at h
 obtain rfl:=si h
 exact hret
def xJ (N:Nat) (a:kK):Option Int:=
 (qbh N ([a.Low,a.High]:List Str)).bind fun b=>
 some b
theorem qfk (N:Nat) (a:kK) {res:Int} (h:xJ N a=some res):qb ZT (.fn 73) [.agg (kAO a.Low a.High)] [] (.i res) []:=by
 unfold xJ at h
 refine Ub Tryz.func73 rfl rfl (m:=9) rfl (rs:=[.tmp 2]) rfl (l:=[(0,.agg [.str a.Low,.str a.High])]) rfl ?_
 refine sg fol (kAp []) (kQ a.Low a.High []) ?_
 obtain⟨c,b,h⟩:=bnd h
 refine sq (gq fol [5] (kBF c) (kQ a.Low a.High (kQ a.Low a.High [])) (ac (hs (.call 148 [.slice 1 0 2 2 1] (kQ a.Low a.High (kQ a.Low a.High [])) [1] [vl encS ([a.Low,a.High]:List Str)] (.i c)) (qdG (FzL.cons (Fz.lit rfl rfl (Ue (AllST.cons tS (AllST.cons tS AllST.nil)))) FzL.nil) (qfK N ([a.Low,a.High]:List Str) b) tI rfl)) az) ?_)
 refine Goes.ret ?_
 obtain rfl:=si h
 exact(gw2 [.i c] (Ua tI))
def zi (N:Nat) (a:kK) (e:Int) (bad:Int) (want:kK):Option Bool:=
 ((if bad=0 then
 (xJ N want).bind fun d=>
 some d
 else
 some bad:Option Int)).bind fun c=>
 if(!decide (c=0))=true then
 (if((a.Low==[])&&((a.High==[])&&true))=true then
 some (decide (e=c))
 else
 some false:Option Bool).bind fun f=>
 some f
 else
 (if e=0 then
 some ((a.Low==want.Low)&&((a.High==want.High)&&true))
 else
 some false:Option Bool).bind fun b=>
 some b
theorem vX (N:Nat) (c:kK) (e:Int) (bad:Int) (want:kK) {res:Bool} (h:zi N c e bad want=some res):qb ZT (.fn 17) (kV c.Low c.High (.i e:: .i bad::(kV want.Low want.High []))) [] (.bool res) []:=by
 unfold zi at h
 refine Ub Tryz.func17 rfl rfl (m:=30) rfl (rs:=[.tmp 8]) rfl (l:=[(0,.agg [.str c.Low,.str c.High]),(1,.i e),(2,.i bad),(3,.agg [.str want.Low,.str want.High])]) rfl ?_
 refine sg fol ((1,.i e)::(2,.i bad)::(kX [(7,.ptr 1 0)])) (kB c.Low c.High want.Low want.High []) ?_
 refine sq ?_
 refine sh fol ((1,.i e)::(2,.i bad)::(kX ((7,.ptr 1 0)::(kBP (decide (bad=0)))))) ?_
 obtain⟨q,g2,h⟩:=bnd h
 refine Goes.imp (Q:=fun x s'=>(x= .normal/\ ∃g,g=q/\Sub s' (ofG 30 ((1,.i e)::(2,.i g)::(kX [(7,.ptr 1 0)])),(kB c.Low c.High want.Low want.High [])))) ?_ ?_
 ·refine ihD g2 (fun r g2=>?_) (fun r g2=>?_)
  ·obtain⟨s,j,g2⟩:=bnd g2
   refine gr fol [1] ((1,.i e)::(2,.i s)::(kX [(7,.ptr 1 0)])) (ac (cv (qfk N want j)) az) ?_
   obtain rfl:=si g2
   exact⟨rfl,_,rfl,(Sub.refl _)⟩
  refine Goes.skip ?_
  obtain rfl:=si g2
  exact⟨rfl,_,rfl,(Sub.keep [1,2,4,7] rfl rfl)⟩
 rintro x s' ⟨rfl,g,rfl,hsub⟩
 refine Goes.sub hsub ?_
 refine sq ?_
 refine sh fol ((1,.i e)::(2,.i g)::(kX [(7,.ptr 1 0),(14,.bool (!decide (g=0)))])) ?_
 refine ihB h (fun t h=>?_) (fun t h=>?_)
 ·refine sq ?_
  obtain⟨p,f,h⟩:=bnd h
  refine Goes.cut (s':=(ofG 30 (kAw p),(kB c.Low c.High want.Low want.High []))) ?_ ?_
  ·rcases wyB f with⟨n,f⟩|⟨n,f⟩
   ·obtain rfl:=si f
    exact tr fol [2,3] (kAw (decide (e=g))) (ac (hs (.done (.opt (qR ZT .eql 24 (.tmp 15) (.tmp 16) (.agg (kAO c.Low c.High)) (.agg [.str [],.str []]))) (.bool ((c.Low==[])&&((c.High==[])&&true)))) (qiY qiF (e:=((c.Low==[])&&((c.High==[])&&true))) (.cons (a:= .str c.Low) (b:= .str []) rfl (by kernel_rfl) (by kernel_rfl) (by kernel_rfl) (.cons (a:= .str c.High) (b:= .str []) rfl (by kernel_rfl) (by kernel_rfl) (by kernel_rfl) .nil)))) (ac (gw n) az))
   obtain rfl:=si f
   exact tr fol [2,3] kBK (ac (hs (.done (.opt (qR ZT .eql 24 (.tmp 15) (.tmp 16) (.agg (kAO c.Low c.High)) (.agg [.str [],.str []]))) (.bool ((c.Low==[])&&((c.High==[])&&true)))) (qiY qiF (e:=((c.Low==[])&&((c.High==[])&&true))) (.cons (a:= .str c.Low) (b:= .str []) rfl (by kernel_rfl) (by kernel_rfl) (by kernel_rfl) (.cons (a:= .str c.High) (b:= .str []) rfl (by kernel_rfl) (by kernel_rfl) (by kernel_rfl) .nil)))) (ac (gw n) az))
  refine Goes.ret ?_
  obtain rfl:=si h
  exact(gw2 [.bool p] (Ua tB))
 refine Goes.skip ?_
 refine sq ?_
 obtain⟨k,d,h⟩:=bnd h
 refine Goes.cut (s':=(ofG 30 (kAw k),(kB c.Low c.High want.Low want.High []))) ?_ ?_
 ·rcases wyD d with⟨o,d⟩|⟨o,d⟩
  ·obtain rfl:=si d
   exact tr fol [2,5] (kAw ((c.Low==want.Low)&&((c.High==want.High)&&true))) (ac (gw o) (ac (hs (.done (.opt (qR ZT .eql 24 (.tmp 26) (.tmp 27) (.agg (kAO c.Low c.High)) (.agg (kAO want.Low want.High)))) (.bool ((c.Low==want.Low)&&((c.High==want.High)&&true)))) (qiY qiF (e:=((c.Low==want.Low)&&((c.High==want.High)&&true))) (.cons (a:= .str c.Low) (b:= .str want.Low) rfl (by kernel_rfl) (by kernel_rfl) (by kernel_rfl) (.cons (a:= .str c.High) (b:= .str want.High) rfl (by kernel_rfl) (by kernel_rfl) (by kernel_rfl) .nil)))) az))
  obtain rfl:=si d
  exact tr fol [2] kBK (ac (gw o) az)
 refine Goes.ret ?_
 obtain rfl:=si h
 exact(gw2 [.bool k] (Ua tB))
def vO (N:Nat) (a:Str) (b:Str):Option Str:=
 (jJ N a).bind fun c=>
 (jJ N b).bind fun d=>
 (if c.2.2=true then
 some d.2.2
 else
 some false:Option Bool).bind fun j=>
 if j=true then
 (qc8 N (w64 (c.1*d.1)) (w64 (c.2.1*d.2.1))).bind fun k=>
 some k
 else
 (z8 N a).bind fun h=>
 (z8 N b).bind fun i=>
 (yw N h.1 i.1).bind fun e=>
 (yw N h.2 i.2).bind fun f=>
 (jV N e f).bind fun g=>
 some g
theorem vC (N:Nat) (a:Str) (b:Str) {res:Str} (h:vO N a b=some res):qb ZT (.fn 77) (kAO a b) [] (.str res) []:=by
 unfold vO at h
 refine Ub Tryz.func77 rfl rfl (m:=55) rfl (rs:=[.tmp 4]) rfl (l:=(kR a b [])) rfl ?_
 refine sh fol (kR a b []) ?_
 obtain⟨d,o,h⟩:=bnd h
 refine sq (gr fol [1] (kR a b [(5,.i d.1),(6,.i d.2.1),(7,.bool d.2.2)]) (ac (cv (qa4 N a o)) az) ?_)
 obtain⟨e,p,h⟩:=bnd h
 refine sq (gr fol [1] (kR a b ((5,.i d.1)::(6,.i d.2.1)::(7,.bool d.2.2)::(kAx e.1 e.2.1 (kBP e.2.2)))) (ac (cv (qa4 N b p)) az) ?_)
 refine sq ?_
 refine sq ?_
 obtain⟨z,c,h⟩:=bnd h
 refine Goes.cut (s':=(ofG 55 (kR a b ((5,.i d.1)::(6,.i d.2.1)::(kAx e.1 e.2.1 [(30,.bool z)]))),[])) ?_ ?_
 ·rcases wyB c with⟨u,c⟩|⟨u,c⟩
  ·obtain rfl:=si c
   exact tr fol [1] (kR a b ((5,.i d.1)::(6,.i d.2.1)::(kAx e.1 e.2.1 [(30,.bool e.2.2)]))) (ac (gw u) az)
  obtain rfl:=si c
  exact tr fol [1] (kR a b ((5,.i d.1)::(6,.i d.2.1)::(kAx e.1 e.2.1 [(30,.bool false)]))) (ac (gw u) az)
 refine ihB h (fun A h=>?_) (fun A h=>?_)
 ·obtain⟨y,q,h⟩:=bnd h
  refine sq (gr fol [6] (kAq y) (ac (cv (qgr N (w64 (d.1*e.1)) (w64 (d.2.1*e.2.1)) q)) az) ?_)
  refine Goes.ret ?_
  obtain rfl:=si h
  exact(gw2 [.str y] (Ua tS))
 refine Goes.skip ?_
 obtain⟨f,r,h⟩:=bnd h
 refine sq (gq fol [1] [(1,.str b),(11,.ptr 0 0),(12,.ptr 1 0)] (kL f.1.neg f.1.w f.2.neg f.2.w []) (ac (cv (vZ N a r)) az) ?_)
 obtain⟨n,s,h⟩:=bnd h
 refine sq (gq fol [1] [(11,.ptr 0 0),(12,.ptr 1 0),(13,.ptr 2 0),(14,.ptr 3 0)] (kL f.1.neg f.1.w f.2.neg f.2.w (kL n.1.neg n.1.w n.2.neg n.2.w [])) (ac (cv (vZ N b s)) az) ?_)
 obtain⟨v,g,h⟩:=bnd h
 obtain⟨x,j,h⟩:=bnd h
 obtain⟨t,k,h⟩:=bnd h
 refine sq (gr fol [2,5,6] (kAq t) (ac (cv (qaq N f.1 n.1 g)) (ac (cv (qaq N f.2 n.2 j)) (ac (cv (xU N v x k)) az))) ?_)
 refine Goes.ret ?_
 obtain rfl:=si h
 exact(gw2 [.str t] (Ua tS))
def yZ (N:Nat) (a:Str):Option Str:=
 (z8 N a).bind fun b=>
 (jV N b.2 b.1).bind fun c=>
 some c
theorem qeS (N:Nat) (a:Str) {res:Str} (h:yZ N a=some res):qb ZT (.fn 82) [.str a] [] (.str res) []:=by
 unfold yZ at h
 refine Ub Tryz.func82 rfl rfl (m:=13) rfl (rs:=[.tmp 2]) rfl (l:=(kAM a [])) rfl ?_
 refine sh fol (kAM a []) ?_
 obtain⟨b,c,h⟩:=bnd h
 refine sq (gq fol [1] (kAA []) (kL b.1.neg b.1.w b.2.neg b.2.w []) (ac (cv (vZ N a c)) az) ?_)
 obtain⟨e,d,h⟩:=bnd h
 refine sq (gr fol [2] (kBJ e) (ac (cv (xU N b.2 b.1 d)) az) ?_)
 refine Goes.ret ?_
 obtain rfl:=si h
 exact(gw2 [.str e] (Ua tS))
def qaw (N:Nat) (a:Str) (b:Str):Option Str:=
 (yZ N b).bind fun c=>
 (vO N a c).bind fun d=>
 some d
theorem qbk (N:Nat) (a:Str) (b:Str) {res:Str} (h:qaw N a b=some res):qb ZT (.fn 23) (kAO a b) [] (.str res) []:=by
 unfold qaw at h
 refine Ub Tryz.func23 rfl rfl (m:=9) rfl (rs:=[.tmp 4]) rfl (l:=(kR a b [])) rfl ?_
 refine sh fol (kR a b []) ?_
 obtain⟨f,c,h⟩:=bnd h
 obtain⟨e,d,h⟩:=bnd h
 refine sq (gr fol [2,3] (kAq e) (ac (cv (qeS N b c)) (ac (cv (vC N a f d)) az)) ?_)
 refine Goes.ret ?_
 obtain rfl:=si h
 exact(gw2 [.str e] (Ua tS))
def qcE (a:Str):Option kK:=
 some (⟨a,a⟩:kK)
theorem qhr (a:Str) {res:kK} (h:qcE a=some res):qb ZT (.fn 27) [.str a] [] (.agg (kAO res.Low res.High)) []:=by
 unfold qcE at h
 refine Ub Tryz.func27 rfl rfl (m:=6) rfl (rs:=[.cell 2 24]) rfl (l:=(kAM a [])) rfl ?_
 refine sg fol (kAM a (kO [])) (kN []) ?_
 refine sg fol (kO []) [.cells [.str a,.str a]] ?_
 refine Goes.ret ?_
 obtain rfl:=si h
 exact(gw2 [.agg [.str a,.str a]] (FzW.agg (qc.cons (Ua tS) (qc.cons (Ua tS) qc.nil))))
def qaJ (N:Nat) (a:Str):Option Bool:=
 (vN N a).bind fun b=>
 some (decide (b=(a.length:Int)))
theorem qgh (N:Nat) (a:Str) {res:Bool} (h:qaJ N a=some res):qb ZT (.fn 153) [.str a] [] (.bool res) []:=by
 unfold qaJ at h
 refine Ub Tryz.func153 rfl rfl (m:=8) rfl (rs:=[.tmp 2]) rfl (l:=(kAM a [])) rfl ?_
 refine sh fol (kAM a []) ?_
 obtain⟨c,b,h⟩:=bnd h
 refine sq (gr fol [1] [(2,.bool (decide (c=(a.length:Int))))] (ac (cv (xe N a b)) az) ?_)
 refine Goes.ret ?_
 obtain rfl:=si h
 exact(gw2 [.bool (decide (c=(a.length:Int)))] (Ua tB))
def qac (N:Nat) (a:qz) (b:qz):Option qz:=
 (zT N a.w b.w).bind fun c=>
 (if a.neg=true then
 some (decide ((c.2.length:Int)>0))
 else
 some false:Option Bool).bind fun d=>
 ((if d=true then
 (ym N c.1 ([1]:List Int)).bind fun e=>
 some e
 else
 some c.1:Option (List Int))).bind fun f=>
 (zl N a.neg f).bind fun g=>
 some g
theorem qfE (N:Nat) (a:qz) (b:qz) {res:qz} (h:qac N a b=some res):qb ZT (.fn 155) (kAl a.neg a.w b.neg b.w) [] (.agg (kAg res.neg res.w)) []:=by
 unfold qac at h
 refine Ub Tryz.func155 rfl rfl (m:=29) rfl (rs:=[.cell 4 107]) rfl (l:=(kBM a.neg a.w b.neg b.w)) rfl ?_
 refine sg fol (kF []) (kL a.neg a.w b.neg b.w (kP [])) ?_
 obtain⟨d,e,h⟩:=bnd h
 refine sq (gr fol [4] (kO (kAR (kBH d.1 [(6,vl encI d.2)]))) (ac (cv (xC N a.w b.w e)) az) ?_)
 refine sq ?_
 refine sq ?_
 obtain⟨p,c,h⟩:=bnd h
 refine Goes.cut (s':=(ofG 29 (kO (kAR (kBH d.1 [(21,.bool p)]))),(kL a.neg a.w b.neg b.w (kP [])))) ?_ ?_
 ·rcases wyB c with⟨o,c⟩|⟨o,c⟩
  ·obtain rfl:=si c
   exact tr fol [2] (kO (kAR (kBH d.1 [(21,.bool (decide ((d.2.length:Int)>0)))]))) (ac (gw o) az)
  obtain rfl:=si c
  exact tr fol [2] (kO (kAR (kBH d.1 [(21,.bool false)]))) (ac (gw o) az)
 obtain⟨q,g6,h⟩:=bnd h
 refine Goes.imp (Q:=fun x s'=>(x= .normal/\ ∃j,j=q/\Sub s' (ofG 29 (kO ((4,.ptr 1 0)::(kBH j []))),(kAW a.neg a.w (kP []))))) ?_ ?_
 ·refine ihB g6 (fun r g6=>?_) (fun r g6=>?_)
  ·obtain⟨k,f,g6⟩:=bnd g6
   refine gq fol [2] (kO (kAR (kBH k []))) (kL a.neg a.w b.neg b.w (kP [.frozen [.i 1]])) (ac (hs (.callF 206 [vl encI d.1,.slice 3 0 1 1 1] (kL a.neg a.w b.neg b.w (kP [.cells [.i 1]])) [3] (kBD d.1 ([1]:List Int)) (vl encI k)) (qaH (FzL.cons (Fz.still (qw encI _ (nl rfl))) (FzL.cons (Fz.lit rfl rfl (Ue (AllST.cons tI AllST.nil))) FzL.nil)) (qcb N d.1 ([1]:List Int) f) (qw encI _ (nl rfl)))) az) ?_
   obtain rfl:=si g6
   exact⟨rfl,_,rfl,((show Sub (ofG 29 (kO (kAR (kBH k []))),(kL a.neg a.w b.neg b.w (kP [.frozen [.i 1]]))) (ofG 29 (kO ((4,.ptr 1 0)::(kBH k []))),(kAW a.neg a.w (kP [])))from(Sub.norm [] [some 0,some 2] rfl rfl (.kp (.kp (.keep (.same (qf encI _)) .nil))) (.kb rfl (.same sn) (.kb rfl (.same sn) .nil)))).trans (Sub.refl _))⟩
  refine Goes.skip ?_
  obtain rfl:=si g6
  exact⟨rfl,_,rfl,(Sub.norm [] [some 0,some 2] rfl rfl (.kp (.kp (.keep (.same (qf encI _)) .nil))) (.kb rfl (.same sn) (.kb rfl (.same sn) .nil)))⟩
 rintro x s' ⟨rfl,j,rfl,hsub⟩
 refine Goes.sub hsub ?_
 obtain⟨n,g,h⟩:=bnd h
 refine sq (gq fol [3] [(4,.ptr 1 0)] (kL a.neg a.w n.neg n.w []) (ac (cv (zA N a.neg j g)) az) ?_)
 refine Goes.ret ?_
 obtain rfl:=si h
 exact(gw2 [.agg (kAg n.neg n.w)] (FzW.agg (qc.cons (Ua tB) (qc.cons (Ua (qw encI _ (nl rfl))) qc.nil))))
def qa1 (N:Nat) (a:Str):Option Str:=
 (qaJ N a).bind fun c=>
 if c=true then
 some a
 else
 (z8 N a).bind fun b=>
 (qac N b.1 b.2).bind fun d=>
 (qaU N d).bind fun e=>
 some e
theorem qey (N:Nat) (a:Str) {res:Str} (h:qa1 N a=some res):qb ZT (.fn 78) [.str a] [] (.str res) []:=by
 unfold qa1 at h
 refine Ub Tryz.func78 rfl rfl (m:=17) rfl (rs:=[.tmp 2]) rfl (l:=(kAM a [])) rfl ?_
 refine sh fol (kAM a []) ?_
 refine sq ?_
 obtain⟨i,c,h⟩:=bnd h
 refine sq (gr fol [1] (kAM a [(6,.bool i)]) (ac (cv (qgh N a c)) az) ?_)
 refine ihB h (fun j h=>?_) (fun j h=>?_)
 ·refine sh fol (kBJ a) ?_
  refine Goes.ret ?_
  obtain rfl:=si h
  exact(gw2 [.str a] (Ua tS))
 refine Goes.skip ?_
 obtain⟨b,d,h⟩:=bnd h
 refine sq (gq fol [1] (kAA []) (kL b.1.neg b.1.w b.2.neg b.2.w []) (ac (cv (vZ N a d)) az) ?_)
 obtain⟨k,e,h⟩:=bnd h
 obtain⟨g,f,h⟩:=bnd h
 refine sq (gr fol [2,3] (kBJ g) (ac (cv (qfE N b.1 b.2 e)) (ac (cv (qcY N k f)) az)) ?_)
 refine Goes.ret ?_
 obtain rfl:=si h
 exact(gw2 [.str g] (Ua tS))
def qdu (N:Nat) (a:Str):Option Str:=
 (vO N a [49,47,50]).bind fun b=>
 some b
theorem qiq (N:Nat) (a:Str) {res:Str} (h:qdu N a=some res):qb ZT (.fn 149) [.str a] [] (.str res) []:=by
 unfold qdu at h
 refine Ub Tryz.func149 rfl rfl (m:=5) rfl (rs:=[.tmp 2]) rfl (l:=(kAM a [])) rfl ?_
 refine sh fol (kAM a []) ?_
 obtain⟨c,b,h⟩:=bnd h
 refine sq (gr fol [1] (kBJ c) (ac (cv (vC N a [49,47,50] b)) az) ?_)
 refine Goes.ret ?_
 obtain rfl:=si h
 exact(gw2 [.str c] (Ua tS))
def zX (N:Nat) (a:Str):Nat->Str->Option Str
 |0,_=>none
 |K+1,b=>
  (vO N b b).bind fun c=>
  (xO N c a).bind fun d=>
  if d<=0 then
  (vO N b [50]).bind fun e=>
  zX N a K e
  else
  some b
def zW (N:Nat) (a:Str):Nat->Str->Str->Option Str
 |0,_,_=>none
 |K+1,c,d=>
  (qb4 N d c).bind fun e=>
  (xO N e [49]).bind fun f=>
  if f>0 then
  (((qaX N c d).bind fun g=>
  (qdu N g).bind fun h=>
  (qa1 N h).bind fun b=>
  (vO N b b).bind fun i=>
  (xO N i a).bind fun j=>
  if j<=0 then
  some (b,d)
  else
  some (c,b):Option (Str×Str))).bind fun(k,l)=>
  zW N a K k l
  else
  some c
def vo (N:Nat) (a:Str):Option Str:=
 (zX N a N [49]).bind fun c=>
 (zW N a N [48] c).bind fun b=>
 some b
theorem qaR (N:Nat) (a:Str) {res:Str} (h:vo N a=some res):qb ZT (.fn 74) [.str a] [] (.str res) []:=by
 unfold vo at h
 refine Ub Tryz.func74 rfl rfl (m:=33) rfl (rs:=[.tmp 2]) rfl (l:=(kAM a [])) rfl ?_
 refine sh fol (kAM a []) ?_
 refine sh fol (kAM a [(3,.str [48]),(4,.str [49])]) ?_
 refine sq (Goes.block ?_)
 obtain⟨I,g3,h⟩:=bnd h
 refine Goes.imp (Q:=fun x s'=>(x= .exit 0/\ ∃y,y=I/\Sub s' (ofG 33 (kAM a ((3,.str [48])::(kAq y))),[]))) ?_ ?_
 ·refine Uc (fun M s=> ∃(i:Str),s=(ofG 33 (kAM a ((3,.str [48])::(kAq i))),[])/\zX N a M i=some I) ?_ (m:=N) ⟨_,rfl,g3⟩
  rintro M s ⟨i,rfl,g3⟩
  cases M with
  |zero=>simp only[zX]at g3;cases g3
  |succ M=>
   rw[zX]at g3
   refine sq ?_
   obtain⟨K,t,g3⟩:=bnd g3
   obtain⟨L,u,g3⟩:=bnd g3
   refine sq (gr fol [2,4] (kAM a [(3,.str [48]),(4,.str i),(11,.bool (decide (L<=0)))]) (ac (cv (vC N i i t)) (ac (cv (qaC N K a u)) az)) ?_)
   refine ihD g3 (fun O g3=>?_) (fun O g3=>?_)
   ·refine Goes.skip ?_
    refine Goes.block ?_
    obtain⟨J,v,g3⟩:=bnd g3
    refine gr fol [1] (kAM a ((3,.str [48])::(kAq J))) (ac (cv (vC N i [50] v)) az) ?_
    exact⟨M,(ofG 33 (kAM a ((3,.str [48])::(kAq J))),[]),Nat.lt_succ_self _,(Sub.refl _),_,rfl,g3⟩
   refine Goes.exit ?_
   obtain rfl:=si g3
   exact⟨rfl,_,rfl,(Sub.keep [0,3,4] rfl rfl)⟩
 rintro x s' ⟨rfl,y,rfl,hsub⟩
 refine Goes.sub hsub ?_
 refine sq (Goes.block ?_)
 obtain⟨w,g11,h⟩:=bnd h
 refine Goes.imp (Q:=fun x s'=>(x= .exit 2/\ ∃c,c=w/\Sub s' (ofG 33 [(3,.str c)],[]))) ?_ ?_
 ·refine Uc (fun M s=> ∃(d:Str) (e:Str),s=(ofG 33 (kAM a ((3,.str d)::(kAq e))),[])/\zW N a M d e=some w) ?_ (m:=N) ⟨_,_,rfl,g11⟩
  rintro M s ⟨d,e,rfl,g11⟩
  cases M with
  |zero=>simp only[zW]at g11;cases g11
  |succ M=>
   rw[zW]at g11
   refine sq ?_
   obtain⟨z,j,g11⟩:=bnd g11
   obtain⟨A,k,g11⟩:=bnd g11
   refine sq (gr fol [2,3] (kAM a [(3,.str d),(4,.str e),(18,.bool (decide (A>0)))]) (ac (cv (qfn N e d j)) (ac (cv (qaC N z [49] k)) az)) ?_)
   refine ihD g11 (fun B g11=>?_) (fun B g11=>?_)
   ·refine Goes.skip ?_
    obtain⟨C,g17,g11⟩:=bnd g11
    refine Goes.imp (Q:=fun x s'=>(x= .normal/\ ∃f g,(f,g)=C/\Sub s' (ofG 33 (kAM a ((3,.str f)::(kAq g))),[]))) ?_ ?_
    ·refine Goes.block ?_
     obtain⟨D,n,g17⟩:=bnd g17
     obtain⟨E,o,g17⟩:=bnd g17
     obtain⟨b,p,g17⟩:=bnd g17
     refine sq (gr fol [2,3,4] (kAM a ((3,.str d)::(4,.str e)::(kBd b))) (ac (cv (qb0 N d e n)) (ac (cv (qiq N D o)) (ac (cv (qey N E p)) az))) ?_)
     obtain⟨F,q,g17⟩:=bnd g17
     obtain⟨G,r,g17⟩:=bnd g17
     refine sq (gr fol [2,4] (kAM a [(3,.str d),(4,.str e),(5,.str b),(29,.bool (decide (G<=0)))]) (ac (cv (vC N b b q)) (ac (cv (qaC N F a r)) az)) ?_)
     refine ihD g17 (fun H g17=>?_) (fun H g17=>?_)
     ·refine gh fol (kAM a ((3,.str b)::(kAq e))) ?_
      obtain rfl:=si g17
      exact⟨rfl,_,_,rfl,(Sub.refl _)⟩
     refine gh fol (kAM a ((3,.str d)::(kAq b))) ?_
     obtain rfl:=si g17
     exact⟨rfl,_,_,rfl,(Sub.refl _)⟩
    rintro x s' ⟨rfl,f,g,rfl,hsub⟩
    try dsimp only at g11
    exact⟨M,(ofG 33 (kAM a ((3,.str f)::(kAq g))),[]),Nat.lt_succ_self _,(hsub.trans (Sub.refl _)),_,_,rfl,g11⟩
   refine Goes.exit ?_
   obtain rfl:=si g11
   exact⟨rfl,_,rfl,(Sub.keep [3] rfl rfl)⟩
 rintro x s' ⟨rfl,c,rfl,hsub⟩
 refine Goes.sub hsub ?_
 refine sh fol (kBJ c) ?_
 refine Goes.ret ?_
 obtain rfl:=si h
 exact(gw2 [.str c] (Ua tS))
def xA (N:Nat) (a:Str):Option kK:=
 (qay N a).bind fun h=>
 (vo N h).bind fun i=>
 (qaD N a).bind fun j=>
 (vo N j).bind fun k=>
 (qaw N i k).bind fun c=>
 (vO N c c).bind fun l=>
 if(l==a)=true then
 (qcE c).bind fun m=>
 some m
 else
 (vO N a [49,48,48,48,48,48,48]).bind fun n=>
 (qa1 N n).bind fun d=>
 (vo N d).bind fun b=>
 (qaw N b [49,48,48,48]).bind fun e=>
 (qaX N b [49]).bind fun f=>
 (qaw N f [49,48,48,48]).bind fun g=>
 some (⟨e,g⟩:kK)
theorem qe4 (N:Nat) (a:Str) {res:kK} (h:xA N a=some res):qb ZT (.fn 18) [.str a] [] (.agg (kAO res.Low res.High)) []:=by
 unfold xA at h
 refine Ub Tryz.func18 rfl rfl (m:=29) rfl (rs:=[.cell 2 24]) rfl (l:=(kAM a [])) rfl ?_
 refine sg fol (kAM a (kO [])) (kN []) ?_
 obtain⟨y,i,h⟩:=bnd h
 obtain⟨z,j,h⟩:=bnd h
 obtain⟨A,k,h⟩:=bnd h
 obtain⟨B,n,h⟩:=bnd h
 obtain⟨o,p,h⟩:=bnd h
 refine sq (gr fol [1,2,4,5,6] (kAM a (kO [(3,.str o)])) (ac (cv (qdx N a i)) (ac (cv (qaR N y j)) (ac (cv (qfD N a k)) (ac (cv (qaR N A n)) (ac (cv (qbk N z B p)) az))))) ?_)
 refine sq ?_
 obtain⟨C,q,h⟩:=bnd h
 refine sq (gr fol [2] (kAM a (kO [(3,.str o),(16,.bool (C==a))])) (ac (cv (vC N o o q)) az) ?_)
 refine ihB h (fun D h=>?_) (fun D h=>?_)
 ·obtain⟨v,r,h⟩:=bnd h
  refine sq (gq fol [1] (kO []) (kQ v.Low v.High []) (ac (cv (qhr o r)) az) ?_)
  refine Goes.ret ?_
  obtain rfl:=si h
  exact(gw2 [.agg (kAO v.Low v.High)] (FzW.agg (qc.cons (Ua tS) (qc.cons (Ua tS) qc.nil))))
 refine Goes.skip ?_
 obtain⟨E,s,h⟩:=bnd h
 obtain⟨w,b,h⟩:=bnd h
 obtain⟨c,d,h⟩:=bnd h
 refine sq (gr fol [1,2,3] (kO (kAq c)) (ac (cv (vC N a [49,48,48,48,48,48,48] s)) (ac (cv (qey N E b)) (ac (cv (qaR N w d)) az))) ?_)
 obtain⟨t,e,h⟩:=bnd h
 obtain⟨x,f,h⟩:=bnd h
 obtain⟨u,g,h⟩:=bnd h
 refine sq (gq fol [1,3,4] (kO []) (kQ t u []) (ac (cv (qbk N c [49,48,48,48] e)) (ac (cv (qb0 N c [49] f)) (ac (cv (qbk N x [49,48,48,48] g)) az))) ?_)
 refine Goes.ret ?_
 obtain rfl:=si h
 exact(gw2 [.agg (kAO t u)] (FzW.agg (qc.cons (Ua tS) (qc.cons (Ua tS) qc.nil))))
def xB (N:Nat):Nat->Str->Int->Str->Option Str
 |0,_,_,_=>none
 |K+1,a,b,c=>
  if b>0 then
  ((if(b.tmod 2)=1 then
  (vO N c a).bind fun d=>
  some d
  else
  some c:Option Str)).bind fun f=>
  (vO N a a).bind fun e=>
  xB N K e (w64 (b.tdiv 2)) f
  else
  some c
def qc9 (N:Nat) (a:Str) (k:Int):Option Str:=
 if k<0 then
 none
 else
 (xB N N a k [49]).bind fun b=>
 some b
theorem qjB (N:Nat) (a:Str) (k:Int) {res:Str} (h:qc9 N a k=some res):qb ZT (.fn 24) [.str a,.i k] [] (.str res) []:=by
 unfold qc9 at h
 refine Ub Tryz.func24 rfl rfl (m:=27) rfl (rs:=[.tmp 4]) rfl (l:=(kAM a [(1,.i k)])) rfl ?_
 refine sh fol (kAM a [(1,.i k)]) ?_
 refine sq ?_
 refine sh fol (kAM a [(1,.i k),(7,.bool (decide (k<0)))]) ?_
 refine ihD h (fun t h=>?_) (fun t h=>?_)
 ·refine sq ?_
  cases h
 refine Goes.skip ?_
 refine sh fol (kAM a [(1,.i k),(5,.str [49])]) ?_
 refine sq (Goes.block ?_)
 obtain⟨r,g7,h⟩:=bnd h
 refine Goes.imp (Q:=fun x s'=>(x= .exit 0/\ ∃n,n=r/\Sub s' (ofG 27 (kBd n),[]))) ?_ ?_
 ·refine Uc (fun M s=> ∃(c:Str) (b:Int) (g:Str),s=(ofG 27 (kAM c ((1,.i b)::(kBd g))),[])/\xB N M c b g=some r) ?_ (m:=N) ⟨_,_,_,rfl,g7⟩
  rintro M s ⟨c,b,g,rfl,g7⟩
  cases M with
  |zero=>simp only[xB]at g7;cases g7
  |succ M=>
   rw[xB]at g7
   refine sq ?_
   refine sh fol (kAM c [(1,.i b),(5,.str g),(14,.bool (decide (b>0)))]) ?_
   refine ihD g7 (fun u g7=>?_) (fun u g7=>?_)
   ·refine Goes.skip ?_
    refine Goes.block ?_
    refine sq ?_
    refine sh fol (kAM c [(1,.i b),(5,.str g),(17,.bool (decide ((b.tmod 2)=1)))]) ?_
    obtain⟨o,g10,g7⟩:=bnd g7
    refine Goes.imp (Q:=fun x s'=>(x= .normal/\ ∃j,j=o/\Sub s' (ofG 27 (kAM c ((1,.i b)::(kBd j))),[]))) ?_ ?_
    ·refine ihD g10 (fun p g10=>?_) (fun p g10=>?_)
     ·obtain⟨q,d,g10⟩:=bnd g10
      refine gr fol [2] (kAM c ((1,.i b)::(kBd q))) (ac (cv (vC N g c d)) az) ?_
      obtain rfl:=si g10
      exact⟨rfl,_,rfl,(Sub.refl _)⟩
     refine Goes.skip ?_
     obtain rfl:=si g10
     exact⟨rfl,_,rfl,(Sub.keep [0,1,5] rfl rfl)⟩
    rintro x s' ⟨rfl,j,rfl,hsub⟩
    refine Goes.sub hsub ?_
    obtain⟨e,f,g7⟩:=bnd g7
    refine sq (gr fol [2] (kAM e ((1,.i b)::(kBd j))) (ac (cv (vC N c c f)) az) ?_)
    refine gh fol (kAM e ((1,.i (w64 (b.tdiv 2)))::(kBd j))) ?_
    exact⟨M,(ofG 27 (kAM e ((1,.i (w64 (b.tdiv 2)))::(kBd j))),[]),Nat.lt_succ_self _,(Sub.refl _),_,_,_,rfl,g7⟩
   refine Goes.exit ?_
   obtain rfl:=si g7
   exact⟨rfl,_,rfl,(Sub.keep [5] rfl rfl)⟩
 rintro x s' ⟨rfl,n,rfl,hsub⟩
 refine Goes.sub hsub ?_
 refine sh fol (kAq n) ?_
 refine Goes.ret ?_
 obtain rfl:=si h
 exact(gw2 [.str n] (Ua tS))
def qdn (N:Nat) (k:Int):Option kK:=
 (cut [51,49,52,49,53,57,50,54,53,51,53,56,57,55,57,51,50,51,56,52,54,50,54,52,51,51,56,51,50,55,57] 0 (w64 (k+1))).bind fun a=>
 (qc9 N [49,48] k).bind fun b=>
 (qaw N a b).bind fun c=>
 (qaX N a [49]).bind fun d=>
 (qaw N d b).bind fun e=>
 some (⟨c,e⟩:kK)
theorem qkG (N:Nat) (k:Int) {res:kK} (h:qdn N k=some res):qb ZT (.fn 19) [.i k] [] (.agg (kAO res.Low res.High)) []:=by
 unfold qdn at h
 refine Ub Tryz.func19 rfl rfl (m:=20) rfl (rs:=[.cell 2 24]) rfl (l:=[(0,.i k)]) rfl ?_
 refine sg fol ((0,.i k)::(kO [])) (kN []) ?_
 refine sh fol ((0,.i k)::(kO [(3,.str [51,49,52,49,53,57,50,54,53,51,53,56,57,55,57,51,50,51,56,52,54,50,54,52,51,51,56,51,50,55,57])])) ?_
 obtain⟨a,b,h⟩:=bnd h
 refine sq (gr fol [3] ((0,.i k)::(kO (kAq a))) (ac (hs (.done (.opt (qL ZT 9 (.str [51,49,52,49,53,57,50,54,53,51,53,56,57,55,57,51,50,51,56,52,54,50,54,52,51,51,56,51,50,55,57]) none (some (.i (w64 (k+1)))) none)) (.str a)) (zI st9 none (some (w64 (k+1))) b)) az) ?_)
 obtain⟨g,c,h⟩:=bnd h
 refine sq (gr fol [1] (kO ((4,.str a)::(kBd g))) (ac (cv (qjB N [49,48] k c)) az) ?_)
 obtain⟨j,d,h⟩:=bnd h
 obtain⟨o,e,h⟩:=bnd h
 obtain⟨n,f,h⟩:=bnd h
 refine sq (gq fol [2,4,6] (kO []) (kQ j n []) (ac (cv (qbk N a g d)) (ac (cv (qb0 N a [49] e)) (ac (cv (qbk N o g f)) az))) ?_)
 refine Goes.ret ?_
 obtain rfl:=si h
 exact(gw2 [.agg (kAO j n)] (FzW.agg (qc.cons (Ua tS) (qc.cons (Ua tS) qc.nil))))
end Go.Av
