/-
  Walks of functions: what each computes, as a plain function.
-/
import Derived.Test.YtlhmomppjidoiaaGreatDoorQGenY3
noncomputable section
namespace Go.Av
open Go.Proofs Go.RowKit
set_option linter.unusedSectionVars false
set_option linter.unusedVariables false
set_option linter.unusedSimpArgs false
set_option maxRecDepth 100000
def qb3 (N:Nat) (a:qD) (b:qD):Option qD:=
 if(a.neg==b.neg)=true then
 (xE N a.w b.w).bind fun c=>
 (zG N a.neg c).bind fun d=>
 some d
 else
 (jr N a.w b.w).bind fun e=>
 if e>=0 then
 (yw N a.w b.w).bind fun f=>
 (zG N a.neg f).bind fun g=>
 some g
 else
 (yw N b.w a.w).bind fun h=>
 (zG N b.neg h).bind fun i=>
 some i
theorem qio (N:Nat) (a:qD) (b:qD) {res:qD} (h:qb3 N a b=some res):qb ZT (.fn 141) (kAl a.neg a.w b.neg b.w) [] (.agg (kAf res.neg res.w)) []:=by
 unfold qb3 at h
 refine Ub Tryz.func141 rfl rfl (m:=40) rfl (rs:=[.cell 4 116]) rfl (l:=(kBT a.neg a.w b.neg b.w)) rfl ?_
 refine sg fol (kE []) (kK a.neg a.w b.neg b.w (kN [])) ?_
 refine sq ?_
 refine sh fol (kE [(9,.bool (a.neg==b.neg))]) ?_
 refine ihB h (fun p h=>?_) (fun p h=>?_)
 ·obtain⟨q,c,h⟩:=bnd h
  obtain⟨k,d,h⟩:=bnd h
  refine sq (gq fol [6,7] (kAS []) (kK a.neg a.w b.neg b.w (kAL k.neg k.w [])) (ac (cv (qfc N a.w b.w c)) (ac (cv (zU N a.neg q d)) az)) ?_)
  refine Goes.ret ?_
  obtain rfl:=si h
  exact(gw2 [.agg (kAf k.neg k.w)] (FzW.agg (qc.cons (Ua tB) (qc.cons (Ua (qw encI _ (nl rfl))) qc.nil))))
 refine Goes.skip ?_
 refine sq ?_
 obtain⟨r,e,h⟩:=bnd h
 refine sq (gr fol [4] (kE [(23,.bool (decide (r>=0)))]) (ac (cv (qbf N a.w b.w e)) az) ?_)
 refine ihD h (fun s h=>?_) (fun s h=>?_)
 ·obtain⟨t,f,h⟩:=bnd h
  obtain⟨n,g,h⟩:=bnd h
  refine sq (gq fol [6,7] (kAS []) (kK a.neg a.w b.neg b.w (kAL n.neg n.w [])) (ac (cv (qb1 N a.w b.w f)) (ac (cv (zU N a.neg t g)) az)) ?_)
  refine Goes.ret ?_
  obtain rfl:=si h
  exact(gw2 [.agg (kAf n.neg n.w)] (FzW.agg (qc.cons (Ua tB) (qc.cons (Ua (qw encI _ (nl rfl))) qc.nil))))
 refine Goes.skip ?_
 obtain⟨u,i,h⟩:=bnd h
 obtain⟨o,j,h⟩:=bnd h
 refine sq (gq fol [6,7] (kAS []) (kK a.neg a.w b.neg b.w (kAL o.neg o.w [])) (ac (cv (qb1 N b.w a.w i)) (ac (cv (zU N b.neg u j)) az)) ?_)
 refine Goes.ret ?_
 obtain rfl:=si h
 exact(gw2 [.agg (kAf o.neg o.w)] (FzW.agg (qc.cons (Ua tB) (qc.cons (Ua (qw encI _ (nl rfl))) qc.nil))))
def qcV (N:Nat) (a:Str) (b:Str):Option Str:=
 (yE N a).bind fun c=>
 (yE N b).bind fun d=>
 (if c.2.2=true then
 some d.2.2
 else
 some false:Option Bool).bind fun l=>
 if l=true then
 (qea N (w64 ((w64 (c.1*d.2.1))+(w64 (d.1*c.2.1)))) (w64 (c.2.1*d.2.1))).bind fun m=>
 some m
 else
 (yB N a).bind fun e=>
 (yB N b).bind fun f=>
 (qaq N e.1 f.2).bind fun g=>
 (qaq N f.1 e.2).bind fun h=>
 (qb3 N g h).bind fun i=>
 (qaq N e.2 f.2).bind fun j=>
 (y7 N i j).bind fun k=>
 some k
theorem qjt (N:Nat) (a:Str) (b:Str) {res:Str} (h:qcV N a b=some res):qb ZT (.fn 71) (kBY a b) [] (.str res) []:=by
 unfold qcV at h
 refine Ub Tryz.func71 rfl rfl (m:=63) rfl (rs:=[.tmp 4]) rfl (l:=(kQ a b [])) rfl ?_
 refine sh fol (kQ a b []) ?_
 obtain⟨d,p,h⟩:=bnd h
 refine sq (gr fol [1] (kQ a b (kAw d.1 d.2.1 [(7,.bool d.2.2)])) (ac (cv (qei N a p)) az) ?_)
 obtain⟨e,q,h⟩:=bnd h
 refine sq (gr fol [1] (kQ a b (kAw d.1 d.2.1 ((7,.bool d.2.2)::(kA2 e.1 e.2.1 (kBR e.2.2))))) (ac (cv (qei N b q)) az) ?_)
 refine sq ?_
 refine sq ?_
 obtain⟨C,c,h⟩:=bnd h
 refine Goes.cut (s':=(ofG 63 (kQ a b (kAw d.1 d.2.1 (kA2 e.1 e.2.1 [(30,.bool C)]))),[])) ?_ ?_
 ·rcases wyB c with⟨v,c⟩|⟨v,c⟩
  ·obtain rfl:=si c
   exact tr fol [1] (kQ a b (kAw d.1 d.2.1 (kA2 e.1 e.2.1 [(30,.bool e.2.2)]))) (ac (gw v) az)
  obtain rfl:=si c
  exact tr fol [1] (kQ a b (kAw d.1 d.2.1 (kA2 e.1 e.2.1 [(30,.bool false)]))) (ac (gw v) az)
 refine ihB h (fun D h=>?_) (fun D h=>?_)
 ·obtain⟨B,r,h⟩:=bnd h
  refine sq (gr fol [10] (kBG B) (ac (cv (qj9 N (w64 ((w64 (d.1*e.2.1))+(w64 (e.1*d.2.1)))) (w64 (d.2.1*e.2.1)) r)) az) ?_)
  refine Goes.ret ?_
  obtain rfl:=si h
  exact(gw2 [.str B] (Ua tS))
 refine Goes.skip ?_
 obtain⟨f,s,h⟩:=bnd h
 refine sq (gq fol [1] [(1,.str b),(11,.ptr 0 0),(12,.ptr 1 0)] (kK f.1.neg f.1.w f.2.neg f.2.w []) (ac (cv (qb8 N a s)) az) ?_)
 obtain⟨g,t,h⟩:=bnd h
 refine sq (gq fol [1] [(11,.ptr 0 0),(12,.ptr 1 0),(13,.ptr 2 0),(14,.ptr 3 0)] (kK f.1.neg f.1.w f.2.neg f.2.w (kK g.1.neg g.1.w g.2.neg g.2.w [])) (ac (cv (qb8 N b t)) az) ?_)
 obtain⟨x,i,h⟩:=bnd h
 obtain⟨y,j,h⟩:=bnd h
 obtain⟨z,k,h⟩:=bnd h
 obtain⟨A,n,h⟩:=bnd h
 obtain⟨u,o,h⟩:=bnd h
 refine sq (gr fol [2,5,6,9,10] (kBG u) (ac (cv (qcd N f.1 g.2 i)) (ac (cv (qcd N g.1 f.2 j)) (ac (cv (qio N x y k)) (ac (cv (qcd N f.2 g.2 n)) (ac (cv (qcB N z A o)) az))))) ?_)
 refine Goes.ret ?_
 obtain rfl:=si h
 exact(gw2 [.str u] (Ua tS))
def qc8 (a:Str):Option Str:=
 (yh a).bind fun b=>
 if b<0 then
 (cut a 1 (a.length:Int)).bind fun c=>
 some c
 else
 (yh a).bind fun d=>
 if d=0 then
 some a
 else
 (cat [45] a).bind fun e=>
 some e
theorem qiY (a:Str) {res:Str} (h:qc8 a=some res):qb ZT (.fn 140) [.str a] [] (.str res) []:=by
 unfold qc8 at h
 refine Ub Tryz.func140 rfl rfl (m:=14) rfl (rs:=[.tmp 2]) rfl (l:=(kAH a)) rfl ?_
 refine sh fol (kAH a) ?_
 refine sq ?_
 obtain⟨j,b,h⟩:=bnd h
 refine sq (gr fol [1] (kA5 a (kBh (decide (j<0)))) (ac (cv (xN a b)) az) ?_)
 refine ihD h (fun k h=>?_) (fun k h=>?_)
 ·obtain⟨f,c,h⟩:=bnd h
  refine sq (gr fol [1] (kBH f) (ac (hs (.done (.opt (qQ ZT 22 (.str a) (some (.i 1)) none none)) (.str f)) (zZ qk1 (some 1) none c)) az) ?_)
  refine Goes.ret ?_
  obtain rfl:=si h
  exact(gw2 [.str f] (Ua tS))
 refine Goes.skip ?_
 refine sq ?_
 obtain⟨n,d,h⟩:=bnd h
 refine sq (gr fol [1] (kA5 a (kBR (decide (n=0)))) (ac (cv (xN a d)) az) ?_)
 refine ihD h (fun o h=>?_) (fun o h=>?_)
 ·refine sh fol (kBH a) ?_
  refine Goes.ret ?_
  obtain rfl:=si h
  exact(gw2 [.str a] (Ua tS))
 refine Goes.skip ?_
 obtain⟨g,e,h⟩:=bnd h
 refine sq (gr fol [1] (kBH g) (ac (hs (.done (.opt (qY ZT .add 22 (.const (.string ⟨#[45]⟩)) (.tmp 12) (.str [45]) (.str a))) (.str g)) (qaH e)) az) ?_)
 refine Goes.ret ?_
 obtain rfl:=si h
 exact(gw2 [.str g] (Ua tS))
def qc0 (N:Nat) (a:Str) (b:Str):Option Str:=
 (qc8 b).bind fun c=>
 (qcV N a c).bind fun d=>
 some d
theorem qi2 (N:Nat) (a:Str) (b:Str) {res:Str} (h:qc0 N a b=some res):qb ZT (.fn 70) (kBY a b) [] (.str res) []:=by
 unfold qc0 at h
 refine Ub Tryz.func70 rfl rfl (m:=9) rfl (rs:=[.tmp 4]) rfl (l:=(kQ a b [])) rfl ?_
 refine sh fol (kQ a b []) ?_
 obtain⟨f,c,h⟩:=bnd h
 obtain⟨e,d,h⟩:=bnd h
 refine sq (gr fol [2,3] (kBG e) (ac (cv (qiY b c)) (ac (cv (qjt N a f d)) az)) ?_)
 refine Goes.ret ?_
 obtain rfl:=si h
 exact(gw2 [.str e] (Ua tS))
def qaz (N:Nat) (a:Str) (b:Str):Option Int:=
 (qc0 N a b).bind fun c=>
 (yh c).bind fun d=>
 some d
theorem vN (N:Nat) (a:Str) (b:Str) {res:Int} (h:qaz N a b=some res):qb ZT (.fn 36) (kBY a b) [] (.i res) []:=by
 unfold qaz at h
 refine Ub Tryz.func36 rfl rfl (m:=9) rfl (rs:=[.tmp 4]) rfl (l:=(kQ a b [])) rfl ?_
 refine sh fol (kQ a b []) ?_
 obtain⟨f,c,h⟩:=bnd h
 obtain⟨e,d,h⟩:=bnd h
 refine sq (gr fol [2,3] (kBU e) (ac (cv (qi2 N a b c)) (ac (cv (xN f d)) az)) ?_)
 refine Goes.ret ?_
 obtain rfl:=si h
 exact(gw2 [.i e] (Ua tI))
def xC (c:Int):Option Bool:=
 (if c>=97 then
 if c<=122 then
 some true
 else
 if c>=65 then
 some (decide (c<=90))
 else
 some false
 else
 if c>=65 then
 some (decide (c<=90))
 else
 some false:Option Bool).bind fun a=>
 some a
theorem vW (c:Int) {res:Bool} (h:xC c=some res):qb ZT (.fn 180) [.int .i32 c] [] (.bool res) []:=by
 unfold xC at h
 refine Ub Tryz.func180 rfl rfl (m:=17) rfl (rs:=[.tmp 2]) rfl (l:=[(0,.int .i32 c)]) rfl ?_
 refine sh fol [(0,.int .i32 c)] ?_
 refine sq ?_
 obtain⟨g,a,h⟩:=bnd h
 refine Goes.cut (s':=(ofG 17 (kBQ g),[])) ?_ ?_
 ·rcases wyD a with⟨b,a⟩|⟨b,a⟩
  ·rcases wyD a with⟨d,a⟩|⟨d,a⟩
   ·obtain rfl:=si a
    exact tr fol [2,6] kBd (ac (gw b) (ac (gw d) az))
   rcases wyD a with⟨e,a⟩|⟨e,a⟩
   ·obtain rfl:=si a
    exact tr fol [2,6,9] (kBQ (decide (c<=90))) (ac (gw b) (ac (gw d) (ac (gw e) az)))
   obtain rfl:=si a
   exact tr fol [2,6,9] kAq (ac (gw b) (ac (gw d) (ac (gw e) az)))
  rcases wyD a with⟨f,a⟩|⟨f,a⟩
  ·obtain rfl:=si a
   exact tr fol [2,9] (kBQ (decide (c<=90))) (ac (gw b) (ac (gw f) az))
  obtain rfl:=si a
  exact tr fol [2,9] kAq (ac (gw b) (ac (gw f) az))
 refine Goes.ret ?_
 obtain rfl:=si h
 exact(gw2 [.bool g] (Ua tB))
def jL (b:Str):Nat->Nat->Option (Unit⊕Bool)
 |0,_=>none
 |K+1,a=>
  if a<b.length then
  ((xC (yo b a)).bind fun d=>
  if(!d)=true then
  if(a:Int)=0 then
  some true
  else
  if(!decide ((yo b a)=95))=true then
  if(yo b a)<48 then
  some true
  else
  some (decide ((yo b a)>57))
  else
  some false
  else
  some false:Option Bool).bind fun c=>
  if c=true then
  some (.inr false)
  else
  jL b K (a+runeLen b a)
  else
  some (.inl ())
def xL (N:Nat) (a:Str):Option Bool:=
 (jL a N 0).bind (fun
 |(.inl ())=>
 (if(!(a==[]))=true then
 some (decide ((a.length:Int)<=24))
 else
 some false:Option Bool).bind fun b=>
 some b
 |(.inr c)=>
 some c)
theorem qcY (N:Nat) (d:Str) {res:Bool} (h:xL N d=some res):qb ZT (.fn 118) [.str d] [] (.bool res) []:=by
 unfold xL at h
 refine Ub Tryz.func118 rfl rfl (m:=37) rfl (rs:=[.tmp 2]) rfl (l:=(kAH d)) rfl ?_
 refine sh fol (kAH d) ?_
 refine sq ?_
 refine sg fol (kAr d []) [.iter d 0] ?_
 refine Goes.block ?_
 obtain⟨r,g2,h⟩:=bnd h
 refine Goes.imp (Q:=fun x s'=>(x= .exit 0/\(.inl ())=r/\Sub s' (ofG 37 (kAH d),[]))\/(x= .ret/\ ∃w,(.inr w)=r/\vI ZT [.tmp 2] (.bool w) .ret s')) ?_ ?_
 ·refine Goes.sub (s':=(ofG 37 (kAr d []),[.iter d 0])) (Sub.keep [0,6] rfl rfl) ?_
  refine Uc (fun M s=> ∃(e:Nat),s=(ofG 37 (kAr d []),[.iter d e])/\jL d M e=some r) ?_ (m:=N) ⟨_,rfl,g2⟩
  rintro M s ⟨e,rfl,g2⟩
  cases M with
  |zero=>simp only[jL]at g2;cases g2
  |succ M=>
   rw[jL]at g2
   refine sq ?_
   rcases Classical.em (e<d.length)with n|n
   ·rw[if_pos n]at g2
    refine gq fol [0] (kAr d [(7,.tuple [.bool true,.i (e:Int),.int .i32 (yo d e)]),(8,.bool true)]) [.iter d (e+runeLen d e)] (ac (hs (.run [0] (qfs (.ptr 0 0) true) [.iter d e] (.tuple [.bool true,.i (e:Int),.int .i32 (yo d e)]) [.iter d (e+runeLen d e)] true) (qmC rfl n rfl)) az) ?_
    refine sq ?_
    refine Goes.ifB (b:=true) (by kernel_rfl) (fun _=>?_) (fun c=>(by cases c))
    refine Goes.skip ?_
    refine Goes.block ?_
    refine sh fol (kAF d (e:Int) [(4,.int .i32 (yo d e)),(6,.ptr 0 0)]) ?_
    refine sq ?_
    obtain⟨t,a,g2⟩:=bnd g2
    refine Goes.cut (s':=(ofG 37 (kAr d [(29,.bool t)]),[.iter d (e+runeLen d e)])) ?_ ?_
    ·obtain⟨z,g,a⟩:=bnd a
     rcases wyB a with⟨k,a⟩|⟨k,a⟩
     ·rcases wyD a with⟨o,a⟩|⟨o,a⟩
      ·obtain rfl:=si a
       exact tr fol [1,3,6] (kAr d [(29,.bool true)]) (ac (cv (vW (yo d e) g)) (ac (gw k) (ac (gw o) az)))
      rcases wyB a with⟨q,a⟩|⟨q,a⟩
      ·rcases wyD a with⟨u,a⟩|⟨u,a⟩
       ·obtain rfl:=si a
        exact tr fol [1,3,6,9,12] (kAr d [(29,.bool true)]) (ac (cv (vW (yo d e) g)) (ac (gw k) (ac (gw o) (ac (gw q) (ac (gw u) az)))))
       obtain rfl:=si a
       exact tr fol [1,3,6,9,12] (kAr d [(29,.bool (decide ((yo d e)>57)))]) (ac (cv (vW (yo d e) g)) (ac (gw k) (ac (gw o) (ac (gw q) (ac (gw u) az)))))
      obtain rfl:=si a
      exact tr fol [1,3,6,9] (kAr d [(29,.bool false)]) (ac (cv (vW (yo d e) g)) (ac (gw k) (ac (gw o) (ac (gw q) az))))
     obtain rfl:=si a
     exact tr fol [1,3] (kAr d [(29,.bool false)]) (ac (cv (vW (yo d e) g)) (ac (gw k) az))
    refine ihB g2 (fun v g2=>?_) (fun v g2=>?_)
    ·refine sh fol kAq ?_
     refine Goes.ret ?_
     obtain rfl:=si g2
     exact Or.inr (⟨rfl,_,rfl,(gw2 [.bool false] (Ua tB))⟩)
    refine Goes.skip ?_
    exact⟨M,(ofG 37 (kAr d []),[.iter d (e+runeLen d e)]),Nat.lt_succ_self _,(Sub.keep [0,6] rfl rfl),_,rfl,g2⟩
   rw[if_neg n]at g2
   refine gr fol [0] (kAr d [(7,.tuple [.bool false]),(8,.bool false)]) (ac (hs (.run [0] (qfs (.ptr 0 0) true) [.iter d e] (.tuple [.bool false]) [.iter d e] false) (qmR rfl n)) az) ?_
   refine sq ?_
   refine Goes.ifB (b:=false) (by kernel_rfl) (fun c=>(by cases c)) (fun _=>?_)
   refine Goes.exit ?_
   obtain rfl:=si g2
   exact Or.inl (⟨rfl,rfl,(Sub.norm [] [] rfl rfl (.keep (.same nS) .nil) .nil)⟩)
 rintro x s' (⟨rfl,rfl,hsub⟩|⟨rfl,y,rfl,hret⟩)
 ·try dsimp only at h
  refine Goes.sub hsub ?_
  refine sq ?_
  obtain⟨p,f,h⟩:=bnd h
  refine Goes.cut (s':=(ofG 37 (kBQ p),[])) ?_ ?_
  ·rcases wyB f with⟨j,f⟩|⟨j,f⟩
   ·obtain rfl:=si f
    exact tr fol [2] (kBQ (decide ((d.length:Int)<=24))) (ac (gw j) az)
   obtain rfl:=si f
   exact tr fol [2] kAq (ac (gw j) az)
  refine Goes.ret ?_
  obtain rfl:=si h
  exact(gw2 [.bool p] (Ua tB))
 try dsimp only at h
 obtain rfl:=si h
 exact hret
def qdl (N:Nat) (a:Str):Option Int:=
 (xL N a).bind fun b=>
 (jK (!b) 8).bind fun c=>
 some c
theorem qij (N:Nat) (a:Str) {res:Int} (h:qdl N a=some res):qb ZT (.fn 53) [.str a] [] (.i res) []:=by
 unfold qdl at h
 refine Ub Tryz.func53 rfl rfl (m:=7) rfl (rs:=[.tmp 2]) rfl (l:=(kAH a)) rfl ?_
 refine sh fol (kAH a) ?_
 obtain⟨e,b,h⟩:=bnd h
 obtain⟨d,c,h⟩:=bnd h
 refine sq (gr fol [1,3] (kA3 d) (ac (cv (qcY N a b)) (ac (cv (yI (!e) 8 c)) az)) ?_)
 refine Goes.ret ?_
 obtain rfl:=si h
 exact(gw2 [.i d] (Ua tI))
def vL (N:Nat) (a:Str):Option Int:=
 (qaP N a 0).bind fun b=>
 some b
theorem xI (N:Nat) (a:Str) {res:Int} (h:vL N a=some res):qb ZT (.fn 78) [.str a] [] (.i res) []:=by
 unfold vL at h
 refine Ub Tryz.func78 rfl rfl (m:=5) rfl (rs:=[.tmp 2]) rfl (l:=(kAH a)) rfl ?_
 refine sh fol (kAH a) ?_
 obtain⟨c,b,h⟩:=bnd h
 refine sq (gr fol [1] (kA3 c) (ac (cv (qeV N a 0 b)) az) ?_)
 refine Goes.ret ?_
 obtain rfl:=si h
 exact(gw2 [.i c] (Ua tI))
def qdp (N:Nat) (a:qB) (b:qB):Option Int:=
 (qU N a.Num b.Den).bind fun c=>
 (qU N b.Num a.Den).bind fun d=>
 (qaV N c d).bind fun e=>
 some e
theorem qgk (N:Nat) (a:qB) (b:qB) {res:Int} (h:qdp N a b=some res):qb ZT (.fn 98) [.agg (nq1 a),.agg (nq1 b)] [] (.i res) []:=by
 unfold qdp at h
 refine Ub Tryz.func98 rfl rfl (m:=16) rfl (rs:=[.tmp 4]) rfl (l:=[(0,.agg (nq1 a)),(1,.agg (nq1 b))]) rfl ?_
 refine sg fol (kM (kAZ [])) [.cells (nq1 a),.cells (nq1 b)] ?_
 obtain⟨g,c,h⟩:=bnd h
 obtain⟨j,d,h⟩:=bnd h
 obtain⟨f,e,h⟩:=bnd h
 refine sq (gr fol [4,9,10] (kBU f) (ac (cv (yn N a.Num b.Den c)) (ac (cv (yn N b.Num a.Den d)) (ac (cv (qek N g j e)) az))) ?_)
 refine Goes.ret ?_
 obtain rfl:=si h
 exact(gw2 [.i f] (Ua tI))
def xH (N:Nat) (p:qP) (before:List qP):Option Int:=
 (vL N p.X).bind fun e=>
 (vL N p.Y).bind fun f=>
 (zA N ([e,f]:List Int)).bind fun d=>
 (if(!decide (d=0))=true then
 some true
 else
 some (decide ((before.length:Int)=0)):Option Bool).bind fun g=>
 if g=true then
 some d
 else
 (idx before (w64 ((before.length:Int)-1))).bind fun h=>
 (vJ N p.X).bind fun i=>
 (vJ N h.X).bind fun a=>
 (qdp N i a).bind fun b=>
 (jK (decide (b<=0)) 11).bind fun c=>
 some c
theorem qfe (N:Nat) (p:qP) (before:List qP) {res:Int} (h:xH N p before=some res):qb ZT (.fn 58) [.agg [.str p.X,.str p.Y],vl qz before] [] (.i res) []:=by
 unfold xH at h
 refine Ub Tryz.func58 rfl rfl (m:=38) rfl (rs:=[.tmp 4]) rfl (l:=[(0,.agg [.str p.X,.str p.Y]),(1,vl qz before)]) rfl ?_
 refine sg fol ((1,vl qz before)::(kM [])) (kAN p.X p.Y []) ?_
 refine sq ?_
 obtain⟨g,j,h⟩:=bnd h
 obtain⟨k,n,h⟩:=bnd h
 obtain⟨c,o,h⟩:=bnd h
 refine sq (gq fol [2,5,7] ((1,vl qz before)::(kM (kAm c))) (kAN p.X p.Y (kAE g k)) (ac (cv (xI N p.X j)) (ac (cv (xI N p.Y n)) (ac (hs (.call 52 [.slice 1 0 2 2 1] (kAN p.X p.Y (kAE g k)) [1] [vl encI ([g,k]:List Int)] (.i c)) (yN (FzL.cons (Fz.lit rfl rfl (Ud (AllST.cons tI (AllST.cons tI AllST.nil)))) FzL.nil) (jQ N ([g,k]:List Int) o) tI rfl)) az))) ?_)
 refine sq ?_
 obtain⟨w,a,h⟩:=bnd h
 refine Goes.cut (s':=(ofG 38 ((1,vl qz before)::(kM [(5,.i c),(21,.bool w)])),(kAN p.X p.Y (kAE g k)))) ?_ ?_
 ·rcases wyB a with⟨s,a⟩|⟨s,a⟩
  ·obtain rfl:=si a
   exact tr fol [2] ((1,vl qz before)::(kM [(5,.i c),(21,.bool true)])) (ac (gw s) az)
  obtain rfl:=si a
  exact tr fol [2] ((1,vl qz before)::(kM [(5,.i c),(21,.bool (decide ((before.length:Int)=0)))])) (ac (gw s) az)
 refine ihB h (fun x h=>?_) (fun x h=>?_)
 ·refine sh fol (kBU c) ?_
  refine Goes.ret ?_
  obtain rfl:=si h
  exact(gw2 [.i c] (Ua tI))
 refine Goes.skip ?_
 obtain⟨v,b,h⟩:=bnd h
 refine sq (gr fol [4,6] (kM [(6,.str v.X)]) (ac (iv sl23 qz b) (ac (lv 0 ce22 qz b rfl) az)) ?_)
 obtain⟨y,q,h⟩:=bnd h
 obtain⟨t,d,h⟩:=bnd h
 obtain⟨u,e,h⟩:=bnd h
 obtain⟨r,f,h⟩:=bnd h
 refine sq (gr fol [2,4,5,7] (kBU r) (ac (cv (jw N p.X q)) (ac (cv (jw N v.X d)) (ac (cv (qgk N y t e)) (ac (cv (yI (decide (u<=0)) 11 f)) az)))) ?_)
 refine Goes.ret ?_
 obtain rfl:=si h
 exact(gw2 [.i r] (Ua tI))
def qby (N:Nat) (a:Str):Option Int:=
 (if(!(a==[]))=true then
 (xL N a).bind fun b=>
 (jK (!b) 8).bind fun c=>
 some c
 else
 (jK false 8).bind fun d=>
 some d:Option Int).bind fun e=>
 some e
theorem qfV (N:Nat) (b:Str) {res:Int} (h:qby N b=some res):qb ZT (.fn 59) [.str b] [] (.i res) []:=by
 unfold qby at h
 refine Ub Tryz.func59 rfl rfl (m:=11) rfl (rs:=[.tmp 2]) rfl (l:=(kAH b)) rfl ?_
 refine sh fol (kAH b) ?_
 refine sq ?_
 obtain⟨g,a,h⟩:=bnd h
 refine Goes.cut (s':=(ofG 11 (kA3 g),[])) ?_ ?_
 ·rcases wyB a with⟨f,a⟩|⟨f,a⟩
  ·obtain⟨j,c,a⟩:=bnd a
   obtain⟨k,d,a⟩:=bnd a
   obtain rfl:=si a
   exact tr fol [2,4,7] (kA3 k) (ac (gw f) (ac (cv (qcY N b c)) (ac (cv (yI (!j) 8 d)) az)))
  obtain⟨n,e,a⟩:=bnd a
  obtain rfl:=si a
  exact tr fol [2,7] (kA3 n) (ac (gw f) (ac (cv (yI false 8 e)) az))
 refine Goes.ret ?_
 obtain rfl:=si h
 exact(gw2 [.i g] (Ua tI))
def qG (N:Nat) (a:List qP):Nat->Int->Option (Unit⊕Int)
 |0,_=>none
 |K+1,b=>
  if b<(a.length:Int)then
  (idx a b).bind fun d=>
  (cut a 0 b).bind fun e=>
  (xH N d e).bind fun c=>
  if(!decide (c=0))=true then
  some (.inr c)
  else
  qG N a K (w64 (b+1))
  else
  some (.inl ())
def yj (N:Nat) (a:List qP) (b:Int):Option Int:=
 if(a.length:Int)>b then
 some 5
 else
 (qG N a N 0).bind (fun
 |(.inl ())=>
 some 0
 |(.inr c)=>
 some c)
theorem qdS (N:Nat) (a:List qP) (c:Int) {res:Int} (h:yj N a c=some res):qb ZT (.fn 57) [vl qz a,.i c,.func (.func 58) [] []] [] (.i res) []:=by
 unfold yj at h
 refine Ub Tryz.func57 rfl rfl (m:=31) rfl (rs:=[.tmp 6]) rfl (l:=(kBI a [(1,.i c),(2,.func (.func 58) [] [])])) rfl ?_
 refine sh fol (kBI a [(1,.i c),(2,.func (.func 58) [] [])]) ?_
 refine sq ?_
 refine sh fol (kBI a ((2,.func (.func 58) [] [])::(kBE (decide ((a.length:Int)>c))))) ?_
 refine ihD h (fun p h=>?_) (fun p h=>?_)
 ·refine sh fol [(6,.i 5)] ?_
  refine Goes.ret ?_
  obtain rfl:=si h
  exact(gw2 [.i 5] (Ua tI))
 refine Goes.skip ?_
 refine sq ?_
 refine sh fol (kBI a [(2,.func (.func 58) [] []),(14,vl qz a),(15,.i (a.length:Int)),(16,.i 0)]) ?_
 refine Goes.block ?_
 obtain⟨j,g3,h⟩:=bnd h
 refine Goes.imp (Q:=fun x s'=>(x= .exit 0/\(.inl ())=j/\Sub s' (ofG 31 [],[]))\/(x= .ret/\ ∃n,(.inr n)=j/\vI ZT [.tmp 6] (.i n) .ret s')) ?_ ?_
 ·refine Uc (fun M s=> ∃(b:Int),s=(ofG 31 (kBI a ((2,.func (.func 58) [] [])::(14,vl qz a)::(kAW (a.length:Int) b []))),[])/\qG N a M b=some j) ?_ (m:=N) ⟨_,rfl,g3⟩
  rintro M s ⟨b,rfl,g3⟩
  cases M with
  |zero=>simp only[qG]at g3;cases g3
  |succ M=>
   rw[qG]at g3
   refine sh fol (kBI a ((2,.func (.func 58) [] [])::(14,vl qz a)::(kAW (a.length:Int) b [(17,.bool (decide (b<(a.length:Int))))]))) ?_
   refine sq ?_
   refine ihD g3 (fun q g3=>?_) (fun q g3=>?_)
   ·refine Goes.skip ?_
    refine sq (Goes.block ?_)
    obtain⟨k,d,g3⟩:=bnd g3
    refine sq (gq fol [1,2] (kBI a ((2,.func (.func 58) [] [])::(7,.i b)::(8,.ptr 0 0)::(14,vl qz a)::(kAW (a.length:Int) b []))) (kAN k.X k.Y []) (ac (iv sl23 qz d) (ac (la ag67 qz d) az)) ?_)
    obtain⟨o,e,g3⟩:=bnd g3
    obtain⟨f,g,g3⟩:=bnd g3
    refine sq (gr fol [4,5] (kBI a ((2,.func (.func 58) [] [])::(9,.i f)::(14,vl qz a)::(kAW (a.length:Int) b []))) (ac (hs (.done (.opt (qQ ZT 23 (vl qz a) none (some (.i b)) none)) (vl qz o)) (qjE sl23 (E:=qz) rfl none (some b) e)) (ac (cv (qfe N k o g)) az)) ?_)
    refine sh fol (kBI a ((2,.func (.func 58) [] [])::(9,.i f)::(14,vl qz a)::(kAW (a.length:Int) b [(28,.bool (!decide (f=0)))]))) ?_
    refine ihB g3 (fun r g3=>?_) (fun r g3=>?_)
    ·refine sh fol [(6,.i f)] ?_
     refine Goes.ret ?_
     obtain rfl:=si g3
     exact Or.inr (⟨rfl,_,rfl,(gw2 [.i f] (Ua tI))⟩)
    refine Goes.skip ?_
    refine gh fol (kBI a ((2,.func (.func 58) [] [])::(14,vl qz a)::(kAW (a.length:Int) (w64 (b+1)) []))) ?_
    exact⟨M,(ofG 31 (kBI a ((2,.func (.func 58) [] [])::(14,vl qz a)::(kAW (a.length:Int) (w64 (b+1)) []))),[]),Nat.lt_succ_self _,(Sub.norm [] [] rfl rfl (.keep (.same (qd qz _)) (.keep (.same (qE.func sn sn)) (.keep (.same (qd qz _)) (.keep (.same nI) (.keep (.same nI) .nil))))) .nil),_,rfl,g3⟩
   refine Goes.exit ?_
   obtain rfl:=si g3
   exact Or.inl (⟨rfl,rfl,(Sub.keep [] rfl rfl)⟩)
 rintro x s' (⟨rfl,rfl,hsub⟩|⟨rfl,t,rfl,hret⟩)
 ·try dsimp only at h
  refine Goes.sub hsub ?_
  refine sh fol [(6,.i 0)] ?_
  refine Goes.ret ?_
  obtain rfl:=si h
  exact(gw2 [.i 0] (Ua tI))
 try dsimp only at h
 obtain rfl:=si h
 exact hret
def vZ (N:Nat) (y:qbL):Option Int:=
 (qdl N y.Name).bind fun a=>
 (ze N y.Density).bind fun b=>
 (qar N y.Twist).bind fun c=>
 (jK (decide ((y.Strength.length:Int)=0)) 12).bind fun d=>
 (yj N y.Strength 256).bind fun e=>
 (qby N y.Dye).bind fun f=>
 (zA N ([a,b,c,d,e,f]:List Int)).bind fun g=>
 some g
theorem qa3 (N:Nat) (y:qbL) {res:Int} (h:vZ N y=some res):qb ZT (.fn 10) [.agg (kAx y.Name y.Density y.Twist y.Strength y.Dye)] [] (.i res) []:=by
 unfold vZ at h
 refine Ub Tryz.func10 rfl rfl (m:=25) rfl (rs:=[.tmp 2]) rfl (l:=(kW y.Name y.Density y.Twist y.Strength y.Dye [])) rfl ?_
 refine sg fol (kR []) (kB y.Name y.Density y.Twist y.Strength y.Dye []) ?_
 obtain⟨k,a,h⟩:=bnd h
 obtain⟨n,b,h⟩:=bnd h
 obtain⟨o,c,h⟩:=bnd h
 obtain⟨p,d,h⟩:=bnd h
 obtain⟨e,f,h⟩:=bnd h
 obtain⟨q,g,h⟩:=bnd h
 obtain⟨r,j,h⟩:=bnd h
 refine sq (gq fol [2,5,8,13,16,19,21] (kA3 r) (kB y.Name y.Density y.Twist y.Strength y.Dye [.cells [.i k,.i n,.i o,.i p,.i e,.i q]]) (ac (cv (qij N y.Name a)) (ac (cv (qat N y.Density b)) (ac (cv (qdI N y.Twist c)) (ac (cv (yI (decide ((y.Strength.length:Int)=0)) 12 d)) (ac (hs (.call 57 [vl qz y.Strength,.i 256,.func (.func 58) [] []] [] [] [vl qz y.Strength,.i 256,.func (.func 58) [] []] (.i e)) (qqA (FzL.cons (Ue (qw qz _ (nl rfl))) (FzL.cons (Ue tI) (FzL.cons (Fz.func FzL.nil FzL.nil) FzL.nil))) (qdS N y.Strength 256 f) tI)) (ac (cv (qfV N y.Dye g)) (ac (hs (.call 52 [.slice 1 0 6 6 1] (kB y.Name y.Density y.Twist y.Strength y.Dye [.cells [.i k,.i n,.i o,.i p,.i e,.i q]]) [1] [vl encI ([k,n,o,p,e,q]:List Int)] (.i r)) (yN (FzL.cons (Fz.lit rfl rfl (Ud (AllST.cons tI (AllST.cons tI (AllST.cons tI (AllST.cons tI (AllST.cons tI (AllST.cons tI AllST.nil)))))))) FzL.nil) (jQ N ([k,n,o,p,e,q]:List Int) j) tI rfl)) az))))))) ?_)
 refine Goes.ret ?_
 obtain rfl:=si h
 exact(gw2 [.i r] (Ua tI))
def qba (a:qB):Option qB:=
 (zk a.Num).bind fun b=>
 some (⟨b,a.Den⟩:qB)
theorem qgo (a:qB) {res:qB} (h:qba a=some res):qb ZT (.fn 130) [.agg (nq1 a)] [] (.agg (nq1 res)) []:=by
 unfold qba at h
 refine Ub Tryz.func130 rfl rfl (m:=9) rfl (rs:=[.cell 2 107]) rfl (l:=[(0,.agg (nq1 a))]) rfl ?_
 refine sg fol (kR kAj) (.cells (nq1 a)::(kF [])) ?_
 obtain⟨b,c,h⟩:=bnd h
 refine sq (gq fol [2,6] kAj [.cells (nq1 a),.cells (ni2 b.s b.w a.Den.s a.Den.w)] (ac (cv (jl a.Num c)) (ac (hs (.run [1] (qp ZT 107 (.ptr 1 0) (.agg (ni2 b.s b.w a.Den.s a.Den.w))) (.cells (nq1 a)::(kF [])) .undef [.cells (nq1 a),.cells (ni2 b.s b.w a.Den.s a.Den.w)] true) (qX (n:=4) (by kernel_rfl) rfl rfl rfl rfl (cac rfl (cac nvc (cac rfl (cac nvc can)))) rfl)) az)) ?_)
 refine Goes.ret ?_
 obtain rfl:=si h
 exact(gw2 [.agg (ni2 b.s b.w a.Den.s a.Den.w)] (FzW.agg (qc.cons (Ua tI) (qc.cons (Ua (qo (qa .u64) _ (nl rfl))) (qc.cons (Ua tI) (qc.cons (Ua (qo (qa .u64) _ (nl rfl))) qc.nil))))))
def qdb (N:Nat) (y:qbL) (length:Str):Option (Str×Int):=
 (vZ N y).bind fun c=>
 (vL N length).bind fun d=>
 (zA N ([c,d]:List Int)).bind fun a=>
 if(!decide (a=0))=true then
 some ([],a)
 else
 (vJ N y.Density).bind fun e=>
 (vJ N length).bind fun f=>
 (yH N e f).bind fun g=>
 (yA N g).bind fun b=>
 some (b.1,b.2)
theorem qjx (N:Nat) (y:qbL) (length:Str) {res:Str×Int} (h:qdb N y length=some res):qb ZT (.fn 28) (kAK y.Name y.Density y.Twist y.Strength y.Dye [.str length]) [] (.tuple [.str res.1,.i res.2]) []:=by
 unfold qdb at h
 refine Ub Tryz.func28 rfl rfl (m:=25) rfl (rs:=[.tmp 4,.tmp 5]) rfl (l:=(kW y.Name y.Density y.Twist y.Strength y.Dye [(1,.str length)])) rfl ?_
 refine sg fol ((1,.str length)::(kM [])) (kB y.Name y.Density y.Twist y.Strength y.Dye []) ?_
 refine sq ?_
 obtain⟨k,b,h⟩:=bnd h
 obtain⟨n,c,h⟩:=bnd h
 obtain⟨a,d,h⟩:=bnd h
 refine sq (gq fol [1,3,5] ((1,.str length)::(kM [(6,.i a)])) (kB y.Name y.Density y.Twist y.Strength y.Dye (kAE k n)) (ac (cv (qa3 N y b)) (ac (cv (xI N length c)) (ac (hs (.call 52 [.slice 1 0 2 2 1] (kB y.Name y.Density y.Twist y.Strength y.Dye (kAE k n)) [1] [vl encI ([k,n]:List Int)] (.i a)) (yN (FzL.cons (Fz.lit rfl rfl (Ud (AllST.cons tI (AllST.cons tI AllST.nil)))) FzL.nil) (jQ N ([k,n]:List Int) d) tI rfl)) az))) ?_)
 refine sh fol ((1,.str length)::(kM [(6,.i a),(14,.bool (!decide (a=0)))])) ?_
 refine ihB h (fun p h=>?_) (fun p h=>?_)
 ·refine sh fol ((4,.str [])::(kAm a)) ?_
  refine Goes.ret ?_
  obtain rfl:=si h
  exact(gw2 [.str [],.i a] (FzW.tuple (qc.cons (Ua tS) (qc.cons (Ua tI) qc.nil))))
 refine Goes.skip ?_
 obtain⟨q,e,h⟩:=bnd h
 obtain⟨r,f,h⟩:=bnd h
 obtain⟨s,g,h⟩:=bnd h
 obtain⟨o,j,h⟩:=bnd h
 refine sq (gr fol [2,4,5,6] ((4,.str o.1)::(kAm o.2)) (ac (cv (jw N y.Density e)) (ac (cv (jw N length f)) (ac (cv (qaI N q r g)) (ac (cv (qak N s j)) az)))) ?_)
 refine Goes.ret ?_
 obtain rfl:=si h
 exact(gw2 [.str o.1,.i o.2] (FzW.tuple (qc.cons (Ua tS) (qc.cons (Ua tI) qc.nil))))
def qbE (N:Nat) (y:qbL) (mass:Str):Option (Str×Int):=
 (vZ N y).bind fun c=>
 (vL N mass).bind fun d=>
 (zA N ([c,d]:List Int)).bind fun a=>
 if(!decide (a=0))=true then
 some ([],a)
 else
 (vJ N mass).bind fun e=>
 (vJ N y.Density).bind fun f=>
 (jS N e f).bind fun g=>
 (yA N g).bind fun b=>
 some (b.1,b.2)
theorem qhL (N:Nat) (y:qbL) (mass:Str) {res:Str×Int} (h:qbE N y mass=some res):qb ZT (.fn 29) (kAK y.Name y.Density y.Twist y.Strength y.Dye [.str mass]) [] (.tuple [.str res.1,.i res.2]) []:=by
 unfold qbE at h
 refine Ub Tryz.func29 rfl rfl (m:=25) rfl (rs:=[.tmp 4,.tmp 5]) rfl (l:=(kW y.Name y.Density y.Twist y.Strength y.Dye [(1,.str mass)])) rfl ?_
 refine sg fol ((1,.str mass)::(kM [])) (kB y.Name y.Density y.Twist y.Strength y.Dye []) ?_
 refine sq ?_
 obtain⟨k,b,h⟩:=bnd h
 obtain⟨n,c,h⟩:=bnd h
 obtain⟨a,d,h⟩:=bnd h
 refine sq (gq fol [1,3,5] ((1,.str mass)::(kM [(6,.i a)])) (kB y.Name y.Density y.Twist y.Strength y.Dye (kAE k n)) (ac (cv (qa3 N y b)) (ac (cv (xI N mass c)) (ac (hs (.call 52 [.slice 1 0 2 2 1] (kB y.Name y.Density y.Twist y.Strength y.Dye (kAE k n)) [1] [vl encI ([k,n]:List Int)] (.i a)) (yN (FzL.cons (Fz.lit rfl rfl (Ud (AllST.cons tI (AllST.cons tI AllST.nil)))) FzL.nil) (jQ N ([k,n]:List Int) d) tI rfl)) az))) ?_)
 refine sh fol ((1,.str mass)::(kM [(6,.i a),(14,.bool (!decide (a=0)))])) ?_
 refine ihB h (fun p h=>?_) (fun p h=>?_)
 ·refine sh fol ((4,.str [])::(kAm a)) ?_
  refine Goes.ret ?_
  obtain rfl:=si h
  exact(gw2 [.str [],.i a] (FzW.tuple (qc.cons (Ua tS) (qc.cons (Ua tI) qc.nil))))
 refine Goes.skip ?_
 obtain⟨q,e,h⟩:=bnd h
 obtain⟨r,f,h⟩:=bnd h
 obtain⟨s,g,h⟩:=bnd h
 obtain⟨o,j,h⟩:=bnd h
 refine sq (gr fol [1,4,5,6] ((4,.str o.1)::(kAm o.2)) (ac (cv (jw N mass e)) (ac (cv (jw N y.Density f)) (ac (cv (yx N q r g)) (ac (cv (qak N s j)) az)))) ?_)
 refine Goes.ret ?_
 obtain rfl:=si h
 exact(gw2 [.str o.1,.i o.2] (FzW.tuple (qc.cons (Ua tS) (qc.cons (Ua tI) qc.nil))))
def qab (N:Nat) (a:qB):Option qj:=
 (zT N a.Num a.Den).bind fun b=>
 some b.1
theorem qfi (N:Nat) (a:qB) {res:qj} (h:qab N a=some res):qb ZT (.fn 147) [.agg (nq1 a)] [] (.agg (nz1 res)) []:=by
 unfold qab at h
 refine Ub Tryz.func147 rfl rfl (m:=14) rfl (rs:=[.cell 2 105]) rfl (l:=[(0,.agg (nq1 a))]) rfl ?_
 refine sg fol (kR kAj) [.cells (nq1 a),bZ] ?_
 obtain⟨b,c,h⟩:=bnd h
 refine sq (gq fol [4,10,11] [(2,.ptr 1 0),(3,.ptr 2 0)] [.cells (nq1 a),bZ,.cells (nz1 b.1),.cells (nz1 b.2)] (ac (cv (qa0 N a.Num a.Den c)) (ac (hs (.run [2] (qp ZT 105 (.ptr 2 0) (.agg (nz1 b.1))) [.cells (nq1 a),bZ,bZ,bZ] .undef [.cells (nq1 a),bZ,.cells (nz1 b.1),bZ] true) (qX (n:=2) (by kernel_rfl) rfl rfl rfl rfl (cac rfl (cac nvc can)) rfl)) (ac (hs (.run [3] (qp ZT 105 (.ptr 3 0) (.agg (nz1 b.2))) [.cells (nq1 a),bZ,.cells (nz1 b.1),bZ] .undef [.cells (nq1 a),bZ,.cells (nz1 b.1),.cells (nz1 b.2)] true) (qX (n:=2) (by kernel_rfl) rfl rfl rfl rfl (cac rfl (cac nvc can)) rfl)) az))) ?_)
 refine sq (gq fol [1] kAj [.cells (nq1 a),.cells (nz1 b.1),.cells (nz1 b.1),.cells (nz1 b.2)] (ac (hs (.run [1] (qp ZT 105 (.ptr 1 0) (.agg (nz1 b.1))) [.cells (nq1 a),bZ,.cells (nz1 b.1),.cells (nz1 b.2)] .undef [.cells (nq1 a),.cells (nz1 b.1),.cells (nz1 b.1),.cells (nz1 b.2)] true) (qX (n:=2) (by kernel_rfl) rfl rfl rfl rfl (cac rfl (cac nvc can)) rfl)) az) ?_)
 refine Goes.ret ?_
 obtain rfl:=si h
 exact(gw2 [.agg (nz1 b.1)] (FzW.agg (qc.cons (Ua tI) (qc.cons (Ua (qo (qa .u64) _ (nl rfl))) qc.nil))))
def qbx (N:Nat) (a:qB):Option qj:=
 (qba a).bind fun b=>
 (qab N b).bind fun c=>
 (zk c).bind fun d=>
 some d
theorem qfY (N:Nat) (a:qB) {res:qj} (h:qbx N a=some res):qb ZT (.fn 82) [.agg (nq1 a)] [] (.agg (nz1 res)) []:=by
 unfold qbx at h
 refine Ub Tryz.func82 rfl rfl (m:=7) rfl (rs:=[.cell 2 105]) rfl (l:=[(0,.agg (nq1 a))]) rfl ?_
 refine sg fol (kR kAj) [.cells (nq1 a),bZ] ?_
 obtain⟨f,b,h⟩:=bnd h
 obtain⟨g,c,h⟩:=bnd h
 obtain⟨e,d,h⟩:=bnd h
 refine sq (gq fol [1,2,3,4] kAj [.cells (nq1 a),.cells (nz1 e)] (ac (cv (qgo a b)) (ac (cv (qfi N f c)) (ac (cv (jl g d)) (ac (hs (.run [1] (qp ZT 105 (.ptr 1 0) (.agg (nz1 e))) [.cells (nq1 a),bZ] .undef [.cells (nq1 a),.cells (nz1 e)] true) (qX (n:=2) (by kernel_rfl) rfl rfl rfl rfl (cac rfl (cac nvc can)) rfl)) az)))) ?_)
 refine Goes.ret ?_
 obtain rfl:=si h
 exact(gw2 [.agg (nz1 e)] (FzW.agg (qc.cons (Ua tI) (qc.cons (Ua (qo (qa .u64) _ (nl rfl))) qc.nil))))
def qbw (a:qj):Option (Int×Bool):=
 some (a.s,a.w.isEmpty)
theorem qfW (a:qj) {res:Int×Bool} (h:qbw a=some res):qb ZT (.fn 83) [.agg (nz1 a)] [] (.tuple [.i res.1,.bool res.2]) []:=by
 unfold qbw at h
 refine Ub Tryz.func83 rfl rfl (m:=9) rfl (rs:=[.tmp 2,.tmp 3]) rfl (l:=[(0,.agg (nz1 a))]) rfl ?_
 refine sg fol (kR []) [.cells (nz1 a)] ?_
 refine sq (gr fol [4] ((2,.i a.s)::(kBF a.w.isEmpty [])) (ac (hs (.done (.opt (qY ZT .eql 103 (.tmp 7) (.const (.slice none 0 0)) (nvl (qa .u64) a.w) .nilslice)) (.bool a.w.isEmpty)) (qaB vX)) az) ?_)
 refine Goes.ret ?_
 obtain rfl:=si h
 exact(gw2 [.i a.s,.bool a.w.isEmpty] (FzW.tuple (qc.cons (Ua tI) (qc.cons (Ua tB) qc.nil))))
def qaY (N:Nat) (y:qbL) (capacity:Int) (length:Str):Option (Int×Int):=
 (vZ N y).bind fun f=>
 (qam capacity 1 999999999).bind fun g=>
 (vL N length).bind fun h=>
 (zA N ([f,g,h]:List Int)).bind fun e=>
 if(!decide (e=0))=true then
 some (0,e)
 else
 (vJ N y.Density).bind fun i=>
 (vJ N length).bind fun j=>
 (yH N i j).bind fun k=>
 (qg3 capacity).bind fun l=>
 (jS N k l).bind fun b=>
 (qbx N b).bind fun c=>
 (qbw c).bind fun a=>
 (if(!a.2)=true then
 some true
 else
 some (decide (a.1>999999999)):Option Bool).bind fun d=>
 if d=true then
 some (0,4)
 else
 some (a.1,0)
theorem qgq (N:Nat) (y:qbL) (capacity:Int) (length:Str) {res:Int×Int} (h:qaY N y capacity length=some res):qb ZT (.fn 30) (kAK y.Name y.Density y.Twist y.Strength y.Dye [.i capacity,.str length]) [] (.tuple [.i res.1,.i res.2]) []:=by
 unfold qaY at h
 refine Ub Tryz.func30 rfl rfl (m:=43) rfl (rs:=[.tmp 6,.tmp 7]) rfl (l:=(kW y.Name y.Density y.Twist y.Strength y.Dye ((1,.i capacity)::(kBH length)))) rfl ?_
 refine sg fol ((1,.i capacity)::(kAT length [])) (kB y.Name y.Density y.Twist y.Strength y.Dye []) ?_
 refine sq ?_
 obtain⟨j,k,h⟩:=bnd h
 obtain⟨n,o,h⟩:=bnd h
 obtain⟨p,q,h⟩:=bnd h
 obtain⟨g,r,h⟩:=bnd h
 refine sq (gq fol [1,3,5,7] ((1,.i capacity)::(kAT length [(8,.i g)])) (kB y.Name y.Density y.Twist y.Strength y.Dye (kBA j n p)) (ac (cv (qa3 N y k)) (ac (cv (qcn capacity 1 999999999 o)) (ac (cv (xI N length q)) (ac (hs (.call 52 [.slice 1 0 3 3 1] (kB y.Name y.Density y.Twist y.Strength y.Dye (kBA j n p)) [1] [vl encI ([j,n,p]:List Int)] (.i g)) (yN (FzL.cons (Fz.lit rfl rfl (Ud (AllST.cons tI (AllST.cons tI (AllST.cons tI AllST.nil))))) FzL.nil) (jQ N ([j,n,p]:List Int) r) tI rfl)) az)))) ?_)
 refine sh fol ((1,.i capacity)::(kAT length [(8,.i g),(20,.bool (!decide (g=0)))])) ?_
 refine ihB h (fun B h=>?_) (fun B h=>?_)
 ·refine sh fol [(6,.i 0),(7,.i g)] ?_
  refine Goes.ret ?_
  obtain rfl:=si h
  exact(gw2 [.i 0,.i g] (FzW.tuple (qc.cons (Ua tI) (qc.cons (Ua tI) qc.nil))))
 refine Goes.skip ?_
 obtain⟨C,s,h⟩:=bnd h
 obtain⟨D,t,h⟩:=bnd h
 obtain⟨E,u,h⟩:=bnd h
 obtain⟨F,v,h⟩:=bnd h
 obtain⟨w,c,h⟩:=bnd h
 obtain⟨x,d,h⟩:=bnd h
 obtain⟨b,e,h⟩:=bnd h
 refine sq (gr fol [2,4,5,7,8,9,10] ((9,.i b.1)::(kBR b.2)) (ac (cv (jw N y.Density s)) (ac (cv (jw N length t)) (ac (cv (qaI N C D u)) (ac (cv (qhh capacity v)) (ac (cv (yx N E F c)) (ac (cv (qfY N w d)) (ac (cv (qfW x e)) az))))))) ?_)
 refine sq ?_
 refine sq ?_
 obtain⟨z,a,h⟩:=bnd h
 refine Goes.cut (s':=(ofG 43 [(9,.i b.1),(41,.bool z)],(kB y.Name y.Density y.Twist y.Strength y.Dye (kBA j n p)))) ?_ ?_
 ·rcases wyB a with⟨f,a⟩|⟨f,a⟩
  ·obtain rfl:=si a
   exact tr fol [2] [(9,.i b.1),(41,.bool true)] (ac (gw f) az)
  obtain rfl:=si a
  exact tr fol [2] [(9,.i b.1),(41,.bool (decide (b.1>999999999)))] (ac (gw f) az)
 refine ihB h (fun A h=>?_) (fun A h=>?_)
 ·refine sh fol [(6,.i 0),(7,.i 4)] ?_
  refine Goes.ret ?_
  obtain rfl:=si h
  exact(gw2 [.i 0,.i 4] (FzW.tuple (qc.cons (Ua tI) (qc.cons (Ua tI) qc.nil))))
 refine Goes.skip ?_
 refine sh fol [(6,.i b.1),(7,.i 0)] ?_
 refine Goes.ret ?_
 obtain rfl:=si h
 exact(gw2 [.i b.1,.i 0] (FzW.tuple (qc.cons (Ua tI) (qc.cons (Ua tI) qc.nil))))
def xK (N:Nat) (n:Int):Option Str:=
 (vS N n).bind fun a=>
 (qaO N a).bind fun b=>
 some b
theorem yU (N:Nat) (n:Int) {res:Str} (h:xK N n=some res):qb ZT (.fn 37) [.i n] [] (.str res) []:=by
 unfold xK at h
 refine Ub Tryz.func37 rfl rfl (m:=6) rfl (rs:=[.tmp 2]) rfl (l:=[(0,.i n)]) rfl ?_
 refine sh fol [(0,.i n)] ?_
 obtain⟨d,a,h⟩:=bnd h
 obtain⟨c,b,h⟩:=bnd h
 refine sq (gr fol [1,2] (kBH c) (ac (cv (qbe N n a)) (ac (cv (qcG N d b)) az)) ?_)
 refine Goes.ret ?_
 obtain rfl:=si h
 exact(gw2 [.str c] (Ua tS))
def qbY (N:Nat) (a:Str) (digits:Int):Option Bool:=
 (if(a.length:Int)<=(w64 ((w64 (2*digits))+2))then
 (qap N a).bind fun b=>
 if b=0 then
 (qc7 N a).bind fun c=>
 (qcU c).bind fun d=>
 if(d.length:Int)<=digits then
 (qcT N a).bind fun e=>
 some (decide ((e.length:Int)<=digits))
 else
 some false
 else
 some false
 else
 some false:Option Bool).bind fun f=>
 some f
theorem qa1 (N:Nat) (a:Str) (digits:Int) {res:Bool} (h:qbY N a digits=some res):qb ZT (.fn 39) [.str a,.i digits] [] (.bool res) []:=by
 unfold qbY at h
 refine Ub Tryz.func39 rfl rfl (m:=31) rfl (rs:=[.tmp 4]) rfl (l:=(kA5 a [(1,.i digits)])) rfl ?_
 refine sh fol (kA5 a [(1,.i digits)]) ?_
 refine sq ?_
 obtain⟨n,b,h⟩:=bnd h
 refine Goes.cut (s':=(ofG 31 (kBM n),[])) ?_ ?_
 ·rcases wyD b with⟨f,b⟩|⟨f,b⟩
  ·obtain⟨q,c,b⟩:=bnd b
   rcases wyD b with⟨j,b⟩|⟨j,b⟩
   ·obtain⟨o,d,b⟩:=bnd b
    obtain⟨r,e,b⟩:=bnd b
    rcases wyD b with⟨k,b⟩|⟨k,b⟩
    ·obtain⟨p,g,b⟩:=bnd b
     obtain rfl:=si b
     exact tr fol [6,8,11,13,14,19,21] (kBM (decide ((p.length:Int)<=digits))) (ac (gw f) (ac (cv (qan N a c)) (ac (gw j) (ac (cv (qfA N a d)) (ac (cv (qfO o e)) (ac (gw k) (ac (cv (qiV N a g)) az)))))))
    obtain rfl:=si b
    exact tr fol [6,8,11,13,14,19] kAp (ac (gw f) (ac (cv (qan N a c)) (ac (gw j) (ac (cv (qfA N a d)) (ac (cv (qfO o e)) (ac (gw k) az))))))
   obtain rfl:=si b
   exact tr fol [6,8,11] kAp (ac (gw f) (ac (cv (qan N a c)) (ac (gw j) az)))
  obtain rfl:=si b
  exact tr fol [6] kAp (ac (gw f) az)
 refine Goes.ret ?_
 obtain rfl:=si h
 exact(gw2 [.bool n] (Ua tB))
end Go.Av
