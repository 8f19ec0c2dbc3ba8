/-
  Walks of functions: what each computes, as a plain function.
-/
import Derived.Test.YtbjpmhdicbgjkaaGreatDoorQGenE3
noncomputable section
namespace Go.Av
open Go.Proofs Go.RowKit
set_option linter.unusedSectionVars false
set_option linter.unusedVariables false
set_option linter.unusedSimpArgs false
set_option maxRecDepth 100000
def qal (N:Nat) (a:Str):Option Str:=
 (xe N a).bind fun c=>
 if c=true then
 some a
 else
 (vR N a).bind fun b=>
 (yM N b.1 b.2).bind fun d=>
 (xz N d).bind fun e=>
 some e
theorem qft (N:Nat) (a:Str) {res:Str} (h:qal N a=some res):qc Tryz.prog (.fn 33) [.str a] [] (.str res) []:=by
 unfold qal at h
 refine Goes.fnW Tryz.func33 rfl rfl (m:=17) rfl (rs:=[.tmp 2]) rfl (l:=(kAQ a [])) rfl ?_
 refine sh fol (kAQ a []) ?_
 refine sq ?_
 obtain⟨i,c,h⟩:=bnd h
 refine sq (gr fol [1] (kAQ a [(6,.bool i)]) (ac (cv (qd6 N a c)) az) ?_)
 refine ihB h (fun j h=>?_) (fun j h=>?_)
 ·refine sh fol (kBs a) ?_
  refine Goes.ret ?_
  obtain rfl:=si h
  exact(gw2 [.str a] (FzW.still tS))
 refine Goes.skip ?_
 obtain⟨b,d,h⟩:=bnd h
 refine sq (gq fol [1] (kQ []) (kO b.1.neg b.1.w b.2.neg b.2.w []) (ac (cv (qcq N a d)) az) ?_)
 obtain⟨k,e,h⟩:=bnd h
 obtain⟨g,f,h⟩:=bnd h
 refine sq (gr fol [2,3] (kBs g) (ac (cv (qd0 N b.1 b.2 e)) (ac (cv (qbf N k f)) az)) ?_)
 refine Goes.ret ?_
 obtain rfl:=si h
 exact(gw2 [.str g] (FzW.still tS))
def qbA (N:Nat) (numerator:Int) (denominator:Int):Option (Str×Int):=
 if denominator=0 then
 some ([],6)
 else
 (qau numerator).bind fun b=>
 (qau denominator).bind fun c=>
 (qcK N b c).bind fun d=>
 (yo N d).bind fun a=>
 some (a.1,a.2)
theorem qgW (N:Nat) (numerator:Int) (denominator:Int) {res:Str×Int} (h:qbA N numerator denominator=some res):qc Tryz.prog (.fn 51) [.i numerator,.i denominator] [] (.tuple (kA9 res.1 res.2)) []:=by
 unfold qbA at h
 refine Goes.fnW Tryz.func51 rfl rfl (m:=16) rfl (rs:=[.tmp 4,.tmp 5]) rfl (l:=(kAc numerator denominator [])) rfl ?_
 refine sh fol (kAc numerator denominator []) ?_
 refine sq ?_
 refine sh fol (kAc numerator denominator [(7,.bool (decide (denominator=0)))]) ?_
 refine ihD h (fun f h=>?_) (fun f h=>?_)
 ·refine sh fol [(4,.str []),(5,.i 6)] ?_
  refine Goes.ret ?_
  obtain rfl:=si h
  exact(gw2 [.str [],.i 6] (FzW.tuple (qg.cons (FzW.still tS) (qg.cons (FzW.still tI) qg.nil))))
 refine Goes.skip ?_
 obtain⟨g,a,h⟩:=bnd h
 obtain⟨j,b,h⟩:=bnd h
 obtain⟨k,c,h⟩:=bnd h
 obtain⟨e,d,h⟩:=bnd h
 refine sq (gr fol [1,3,4,5] ((4,.str e.1)::(kA5 e.2)) (ac (cv (xA numerator a)) (ac (cv (xA denominator b)) (ac (cv (qiu N g j c)) (ac (cv (qbw N k d)) az)))) ?_)
 refine Goes.ret ?_
 obtain rfl:=si h
 exact(gw2 (kA9 e.1 e.2) (FzW.tuple (qg.cons (FzW.still tS) (qg.cons (FzW.still tI) qg.nil))))
def yK (N:Nat) (a:jQ):Option qj:=
 (zq N a.Num a.Den).bind fun b=>
 some b.1
theorem qdy (N:Nat) (a:jQ) {res:qj} (h:yK N a=some res):qc Tryz.prog (.fn 103) [.agg [.i a.Num.s,nvl (qa .u64) a.Num.w,.i a.Den.s,nvl (qa .u64) a.Den.w]] [] (.agg [.i res.s,nvl (qa .u64) res.w]) []:=by
 unfold yK at h
 refine Goes.fnW Tryz.func103 rfl rfl (m:=14) rfl (rs:=[.cell 2 106]) rfl (l:=[(0,.agg [.i a.Num.s,nvl (qa .u64) a.Num.w,.i a.Den.s,nvl (qa .u64) a.Den.w])]) rfl ?_
 refine sg fol (kAH []) [.cells [.i a.Num.s,nvl (qa .u64) a.Num.w,.i a.Den.s,nvl (qa .u64) a.Den.w],bZ] ?_
 obtain⟨b,c,h⟩:=bnd h
 refine sq (gq fol [4,10,11] [(2,.ptr 1 0),(3,.ptr 2 0)] [.cells [.i a.Num.s,nvl (qa .u64) a.Num.w,.i a.Den.s,nvl (qa .u64) a.Den.w],bZ,.cells [.i b.1.s,nvl (qa .u64) b.1.w],.cells [.i b.2.s,nvl (qa .u64) b.2.w]] (ac (cv (xQ N a.Num a.Den c)) (ac (hs (.run [2] (qw Tryz.prog 106 (.ptr 2 0) (.agg [.i b.1.s,nvl (qa .u64) b.1.w])) [.cells [.i a.Num.s,nvl (qa .u64) a.Num.w,.i a.Den.s,nvl (qa .u64) a.Den.w],bZ,bZ,bZ] .undef [.cells [.i a.Num.s,nvl (qa .u64) a.Num.w,.i a.Den.s,nvl (qa .u64) a.Den.w],bZ,.cells [.i b.1.s,nvl (qa .u64) b.1.w],bZ] true) (zg (n:=2) (by kernel_rfl) rfl rfl rfl rfl (cac rfl (cac nvc can)) rfl)) (ac (hs (.run [3] (qw Tryz.prog 106 (.ptr 3 0) (.agg [.i b.2.s,nvl (qa .u64) b.2.w])) [.cells [.i a.Num.s,nvl (qa .u64) a.Num.w,.i a.Den.s,nvl (qa .u64) a.Den.w],bZ,.cells [.i b.1.s,nvl (qa .u64) b.1.w],bZ] .undef [.cells [.i a.Num.s,nvl (qa .u64) a.Num.w,.i a.Den.s,nvl (qa .u64) a.Den.w],bZ,.cells [.i b.1.s,nvl (qa .u64) b.1.w],.cells [.i b.2.s,nvl (qa .u64) b.2.w]] true) (zg (n:=2) (by kernel_rfl) rfl rfl rfl rfl (cac rfl (cac nvc can)) rfl)) az))) ?_)
 refine sq (gq fol [1] kBX [.cells [.i a.Num.s,nvl (qa .u64) a.Num.w,.i a.Den.s,nvl (qa .u64) a.Den.w],.cells [.i b.1.s,nvl (qa .u64) b.1.w],.cells [.i b.1.s,nvl (qa .u64) b.1.w],.cells [.i b.2.s,nvl (qa .u64) b.2.w]] (ac (hs (.run [1] (qw Tryz.prog 106 (.ptr 1 0) (.agg [.i b.1.s,nvl (qa .u64) b.1.w])) [.cells [.i a.Num.s,nvl (qa .u64) a.Num.w,.i a.Den.s,nvl (qa .u64) a.Den.w],bZ,.cells [.i b.1.s,nvl (qa .u64) b.1.w],.cells [.i b.2.s,nvl (qa .u64) b.2.w]] .undef [.cells [.i a.Num.s,nvl (qa .u64) a.Num.w,.i a.Den.s,nvl (qa .u64) a.Den.w],.cells [.i b.1.s,nvl (qa .u64) b.1.w],.cells [.i b.1.s,nvl (qa .u64) b.1.w],.cells [.i b.2.s,nvl (qa .u64) b.2.w]] true) (zg (n:=2) (by kernel_rfl) rfl rfl rfl rfl (cac rfl (cac nvc can)) rfl)) az) ?_)
 refine Goes.ret ?_
 obtain rfl:=si h
 exact(gw2 [.agg [.i b.1.s,nvl (qa .u64) b.1.w]] (FzW.agg (qg.cons (FzW.still tI) (qg.cons (FzW.still (qF (qa .u64) _ (nl rfl))) qg.nil))))
def yg (N:Nat) (a:Str):Option (Str×Int):=
 (xE N a).bind fun b=>
 if(!decide (b=0))=true then
 some ([],b)
 else
 (qcs N a).bind fun d=>
 (yK N d).bind fun e=>
 (qaI e).bind fun f=>
 (yo N f).bind fun c=>
 some (c.1,c.2)
theorem qeE (N:Nat) (a:Str) {res:Str×Int} (h:yg N a=some res):qc Tryz.prog (.fn 52) [.str a] [] (.tuple (kA9 res.1 res.2)) []:=by
 unfold yg at h
 refine Goes.fnW Tryz.func52 rfl rfl (m:=17) rfl (rs:=[.tmp 2,.tmp 3]) rfl (l:=(kAQ a [])) rfl ?_
 refine sh fol (kAQ a []) ?_
 refine sq ?_
 obtain⟨b,c,h⟩:=bnd h
 refine sq (gr fol [1] (kAQ a (kB7 b)) (ac (cv (qeF N a c)) az) ?_)
 refine sh fol (kAQ a ((4,.i b)::(kAz (!decide (b=0))))) ?_
 refine ihB h (fun k h=>?_) (fun k h=>?_)
 ·refine sh fol ((2,.str [])::(kBS b)) ?_
  refine Goes.ret ?_
  obtain rfl:=si h
  exact(gw2 [.str [],.i b] (FzW.tuple (qg.cons (FzW.still tS) (qg.cons (FzW.still tI) qg.nil))))
 refine Goes.skip ?_
 obtain⟨n,d,h⟩:=bnd h
 obtain⟨o,e,h⟩:=bnd h
 obtain⟨p,f,h⟩:=bnd h
 obtain⟨j,g,h⟩:=bnd h
 refine sq (gr fol [1,2,3,4] ((2,.str j.1)::(kBS j.2)) (ac (cv (qhv N a d)) (ac (cv (qdy N n e)) (ac (cv (qdV o f)) (ac (cv (qbw N p g)) az)))) ?_)
 refine Goes.ret ?_
 obtain rfl:=si h
 exact(gw2 (kA9 j.1 j.2) (FzW.tuple (qg.cons (FzW.still tS) (qg.cons (FzW.still tI) qg.nil))))
def jW (c:Int):Option Bool:=
 (if c>=97 then
 if c<=122 then
 some true
 else
 if c>=65 then
 some (decide (c<=90))
 else
 some false
 else
 if c>=65 then
 some (decide (c<=90))
 else
 some false:Option Bool).bind fun a=>
 some a
theorem jM (c:Int) {res:Bool} (h:jW c=some res):qc Tryz.prog (.fn 125) [.int .i32 c] [] (.bool res) []:=by
 unfold jW at h
 refine Goes.fnW Tryz.func125 rfl rfl (m:=17) rfl (rs:=[.tmp 2]) rfl (l:=[(0,.int .i32 c)]) rfl ?_
 refine sh fol [(0,.int .i32 c)] ?_
 refine sq ?_
 obtain⟨g,a,h⟩:=bnd h
 refine Goes.cut (s':=(ofG 17 (kBq g),[])) ?_ ?_
 ·rcases wyD a with⟨b,a⟩|⟨b,a⟩
  ·rcases wyD a with⟨d,a⟩|⟨d,a⟩
   ·obtain rfl:=si a
    exact tr fol [2,6] [(2,.bool true)] (ac (gw b) (ac (gw d) az))
   rcases wyD a with⟨e,a⟩|⟨e,a⟩
   ·obtain rfl:=si a
    exact tr fol [2,6,9] (kBq (decide (c<=90))) (ac (gw b) (ac (gw d) (ac (gw e) az)))
   obtain rfl:=si a
   exact tr fol [2,6,9] kA7 (ac (gw b) (ac (gw d) (ac (gw e) az)))
  rcases wyD a with⟨f,a⟩|⟨f,a⟩
  ·obtain rfl:=si a
   exact tr fol [2,9] (kBq (decide (c<=90))) (ac (gw b) (ac (gw f) az))
  obtain rfl:=si a
  exact tr fol [2,9] kA7 (ac (gw b) (ac (gw f) az))
 refine Goes.ret ?_
 obtain rfl:=si h
 exact(gw2 [.bool g] (FzW.still tB))
def zQ (b:Str):Nat->Nat->Option (Unit⊕Bool)
 |0,_=>none
 |K+1,a=>
  if a<b.length then
  ((jW (jT b a)).bind fun d=>
  if(!d)=true then
  if(a:Int)=0 then
  some true
  else
  if(!decide ((jT b a)=95))=true then
  if(jT b a)<48 then
  some true
  else
  some (decide ((jT b a)>57))
  else
  some false
  else
  some false:Option Bool).bind fun c=>
  if c=true then
  some (.inr false)
  else
  zQ b K (a+runeLen b a)
  else
  some (.inl ())
def xk (N:Nat) (a:Str):Option Bool:=
 (zQ a N 0).bind (fun
 |(.inl ())=>
 (if(!(a==[]))=true then
 some (decide ((a.length:Int)<=24))
 else
 some false:Option Bool).bind fun b=>
 some b
 |(.inr c)=>
 some c)
theorem qee (N:Nat) (d:Str) {res:Bool} (h:xk N d=some res):qc Tryz.prog (.fn 53) [.str d] [] (.bool res) []:=by
 unfold xk at h
 refine Goes.fnW Tryz.func53 rfl rfl (m:=37) rfl (rs:=[.tmp 2]) rfl (l:=(kAQ d [])) rfl ?_
 refine sh fol (kAQ d []) ?_
 refine sq ?_
 refine sg fol (kAQ d (kBn [])) [.iter d 0] ?_
 refine Goes.block ?_
 obtain⟨r,g2,h⟩:=bnd h
 refine Goes.imp (Q:=fun x s'=>(x= .exit 0/\(.inl ())=r/\Sub s' (ofG 37 (kAQ d []),[]))\/(x= .ret/\ ∃w,(.inr w)=r/\jJ Tryz.prog [.tmp 2] (.bool w) .ret s')) ?_ ?_
 ·refine Goes.sub (s':=(ofG 37 (kAQ d (kBn [])),[.iter d 0])) (Sub.keep [0,6] rfl rfl) ?_
  refine Goes.loopS (fun M s=> ∃(e:Nat),s=(ofG 37 (kAQ d (kBn [])),[.iter d e])/\zQ d M e=some r) ?_ (m:=N) ⟨_,rfl,g2⟩
  rintro M s ⟨e,rfl,g2⟩
  cases M with
  |zero=>simp only[zQ]at g2;cases g2
  |succ M=>
   rw[zQ]at g2
   refine sq ?_
   rcases Classical.em (e<d.length)with n|n
   ·rw[if_pos n]at g2
    refine gq fol [0] (kAQ d (kBn [(7,.tuple [.bool true,.i (e:Int),.int .i32 (jT d e)]),(8,.bool true)])) [.iter d (e+runeLen d e)] (ac (hs (.run [0] (qdB (.ptr 0 0) true) [.iter d e] (.tuple [.bool true,.i (e:Int),.int .i32 (jT d e)]) [.iter d (e+runeLen d e)] true) (qkd rfl n rfl)) az) ?_
    refine sq ?_
    refine Goes.ifB (b:=true) (by kernel_rfl) (fun _=>?_) (fun c=>(by cases c))
    refine Goes.skip ?_
    refine Goes.block ?_
    refine sh fol (kAQ d ((3,.i (e:Int))::(4,.int .i32 (jT d e))::(kBn []))) ?_
    refine sq ?_
    obtain⟨t,a,g2⟩:=bnd g2
    refine Goes.cut (s':=(ofG 37 (kAQ d (kBn [(29,.bool t)])),[.iter d (e+runeLen d e)])) ?_ ?_
    ·obtain⟨z,g,a⟩:=bnd a
     rcases wyB a with⟨k,a⟩|⟨k,a⟩
     ·rcases wyD a with⟨o,a⟩|⟨o,a⟩
      ·obtain rfl:=si a
       exact tr fol [1,3,6] (kAQ d (kBn [(29,.bool true)])) (ac (cv (jM (jT d e) g)) (ac (gw k) (ac (gw o) az)))
      rcases wyB a with⟨q,a⟩|⟨q,a⟩
      ·rcases wyD a with⟨u,a⟩|⟨u,a⟩
       ·obtain rfl:=si a
        exact tr fol [1,3,6,9,12] (kAQ d (kBn [(29,.bool true)])) (ac (cv (jM (jT d e) g)) (ac (gw k) (ac (gw o) (ac (gw q) (ac (gw u) az)))))
       obtain rfl:=si a
       exact tr fol [1,3,6,9,12] (kAQ d (kBn [(29,.bool (decide ((jT d e)>57)))])) (ac (cv (jM (jT d e) g)) (ac (gw k) (ac (gw o) (ac (gw q) (ac (gw u) az)))))
      obtain rfl:=si a
      exact tr fol [1,3,6,9] (kAQ d (kBn [(29,.bool false)])) (ac (cv (jM (jT d e) g)) (ac (gw k) (ac (gw o) (ac (gw q) az))))
     obtain rfl:=si a
     exact tr fol [1,3] (kAQ d (kBn [(29,.bool false)])) (ac (cv (jM (jT d e) g)) (ac (gw k) az))
    refine ihB g2 (fun v g2=>?_) (fun v g2=>?_)
    ·refine sh fol kA7 ?_
     refine Goes.ret ?_
     obtain rfl:=si g2
     exact Or.inr (⟨rfl,_,rfl,(gw2 [.bool false] (FzW.still tB))⟩)
    refine Goes.skip ?_
    exact⟨M,(ofG 37 (kAQ d (kBn [])),[.iter d (e+runeLen d e)]),Nat.lt_succ_self _,(Sub.keep [0,6] rfl rfl),_,rfl,g2⟩
   rw[if_neg n]at g2
   refine gr fol [0] (kAQ d (kBn ((7,.tuple [.bool false])::kBI))) (ac (hs (.run [0] (qdB (.ptr 0 0) true) [.iter d e] (.tuple [.bool false]) [.iter d e] false) (qkj rfl n)) az) ?_
   refine sq ?_
   refine Goes.ifB (b:=false) (by kernel_rfl) (fun c=>(by cases c)) (fun _=>?_)
   refine Goes.exit ?_
   obtain rfl:=si g2
   exact Or.inl (⟨rfl,rfl,(Sub.norm [] [] rfl rfl (.keep (.same nS) .nil) .nil)⟩)
 rintro x s' (⟨rfl,rfl,hsub⟩|⟨rfl,y,rfl,hret⟩)
 ·try dsimp only at h
  refine Goes.sub hsub ?_
  refine sq ?_
  obtain⟨p,f,h⟩:=bnd h
  refine Goes.cut (s':=(ofG 37 (kBq p),[])) ?_ ?_
  ·rcases wyB f with⟨j,f⟩|⟨j,f⟩
   ·obtain rfl:=si f
    exact tr fol [2] (kBq (decide ((d.length:Int)<=24))) (ac (gw j) az)
   obtain rfl:=si f
   exact tr fol [2] kA7 (ac (gw j) az)
  refine Goes.ret ?_
  obtain rfl:=si h
  exact(gw2 [.bool p] (FzW.still tB))
 try dsimp only at h
 obtain rfl:=si h
 exact hret
def jr (c:Str):Nat->Int->Option (Unit⊕Bool)
 |0,_=>none
 |K+1,b=>
  if b<(c.length:Int)then
  (idx c b).bind fun a=>
  (if(a.toNat:Int)>=97 then
  if(a.toNat:Int)<=122 then
  some true
  else
  if(a.toNat:Int)>=65 then
  some (decide ((a.toNat:Int)<=90))
  else
  some false
  else
  if(a.toNat:Int)>=65 then
  some (decide ((a.toNat:Int)<=90))
  else
  some false:Option Bool).bind fun d=>
  (if(!d)=true then
  if b=0 then
  some true
  else
  if(a.toNat:Int)>=48 then
  if(a.toNat:Int)<=57 then
  some false
  else
  some (!(decide ((a.toNat:Int)=95)))
  else
  some (!(decide ((a.toNat:Int)=95)))
  else
  some false:Option Bool).bind fun e=>
  if e=true then
  some (.inr false)
  else
  jr c K (w64 (b+1))
  else
  some (.inl ())
def xG (N:Nat) (a:Str):Option Bool:=
 (if(a.length:Int)<1 then
 some true
 else
 some (decide ((a.length:Int)>24)):Option Bool).bind fun c=>
 if c=true then
 some false
 else
 (jr a N 0).bind (fun
 |(.inl ())=>
 some true
 |(.inr b)=>
 some b)
theorem qez (N:Nat) (c:Str) {res:Bool} (h:xG N c=some res):qc Tryz.prog (.fn 54) [.str c] [] (.bool res) []:=by
 unfold xG at h
 refine Goes.fnW Tryz.func54 rfl rfl (m:=56) rfl (rs:=[.tmp 2]) rfl (l:=(kAQ c [])) rfl ?_
 refine sh fol (kAQ c []) ?_
 refine sq ?_
 refine sq ?_
 obtain⟨B,e,h⟩:=bnd h
 refine Goes.cut (s':=(ofG 56 (kAQ c (kBT B)),[])) ?_ ?_
 ·rcases wyD e with⟨u,e⟩|⟨u,e⟩
  ·obtain rfl:=si e
   exact tr fol [3] (kAQ c [(13,.bool true)]) (ac (gw u) az)
  obtain rfl:=si e
  exact tr fol [3] (kAQ c (kBT (decide ((c.length:Int)>24)))) (ac (gw u) az)
 refine ihB h (fun C h=>?_) (fun C h=>?_)
 ·refine sh fol kA7 ?_
  refine Goes.ret ?_
  obtain rfl:=si h
  exact(gw2 [.bool false] (FzW.still tB))
 refine Goes.skip ?_
 refine sq ?_
 refine sh fol (kAQ c [(3,.i 0)]) ?_
 refine Goes.block ?_
 obtain⟨v,g6,h⟩:=bnd h
 refine Goes.imp (Q:=fun x s'=>(x= .exit 0/\(.inl ())=v/\Sub s' (ofG 56 [],[]))\/(x= .ret/\ ∃A,(.inr A)=v/\jJ Tryz.prog [.tmp 2] (.bool A) .ret s')) ?_ ?_
 ·refine Goes.loopS (fun M s=> ∃(d:Int),s=(ofG 56 (kAQ c (kBS d)),[])/\jr c M d=some v) ?_ (m:=N) ⟨_,rfl,g6⟩
  rintro M s ⟨d,rfl,g6⟩
  cases M with
  |zero=>simp only[jr]at g6;cases g6
  |succ M=>
   rw[jr]at g6
   refine sq ?_
   refine sh fol (kAQ c [(3,.i d),(17,.bool (decide (d<(c.length:Int))))]) ?_
   refine ihD g6 (fun D g6=>?_) (fun D g6=>?_)
   ·refine Goes.skip ?_
    refine sq (Goes.block ?_)
    obtain⟨j,t,g6⟩:=bnd g6
    refine sq (gr fol [2] (kAQ c [(3,.i d),(4,.int .u8 (j.toNat:Int))]) (ac (hs (.done (.opt (jS Tryz.prog 9 (.str c) (.i d))) (.int .u8 (j.toNat:Int))) (y9 st9 t)) az) ?_)
    refine sq ?_
    obtain⟨w,a,g6⟩:=bnd g6
    refine Goes.cut (s':=(ofG 56 (kAQ c [(3,.i d),(4,.int .u8 (j.toNat:Int)),(5,.bool w)]),[])) ?_ ?_
    ·rcases wyD a with⟨f,a⟩|⟨f,a⟩
     ·rcases wyD a with⟨n,a⟩|⟨n,a⟩
      ·obtain rfl:=si a
       exact tr fol [2,6] (kAQ c [(3,.i d),(4,.int .u8 (j.toNat:Int)),(5,.bool true)]) (ac (gw f) (ac (gw n) az))
      rcases wyD a with⟨p,a⟩|⟨p,a⟩
      ·obtain rfl:=si a
       exact tr fol [2,6,9] (kAQ c [(3,.i d),(4,.int .u8 (j.toNat:Int)),(5,.bool (decide ((j.toNat:Int)<=90)))]) (ac (gw f) (ac (gw n) (ac (gw p) az)))
      obtain rfl:=si a
      exact tr fol [2,6,9] (kAQ c [(3,.i d),(4,.int .u8 (j.toNat:Int)),(5,.bool false)]) (ac (gw f) (ac (gw n) (ac (gw p) az)))
     rcases wyD a with⟨q,a⟩|⟨q,a⟩
     ·obtain rfl:=si a
      exact tr fol [2,9] (kAQ c [(3,.i d),(4,.int .u8 (j.toNat:Int)),(5,.bool (decide ((j.toNat:Int)<=90)))]) (ac (gw f) (ac (gw q) az))
     obtain rfl:=si a
     exact tr fol [2,9] (kAQ c [(3,.i d),(4,.int .u8 (j.toNat:Int)),(5,.bool false)]) (ac (gw f) (ac (gw q) az))
    refine sq ?_
    obtain⟨y,b,g6⟩:=bnd g6
    refine Goes.cut (s':=(ofG 56 (kAQ c [(3,.i d),(55,.bool y)]),[])) ?_ ?_
    ·rcases wyB b with⟨g,b⟩|⟨g,b⟩
     ·rcases wyD b with⟨k,b⟩|⟨k,b⟩
      ·obtain rfl:=si b
       exact tr fol [2,5] (kAQ c [(3,.i d),(55,.bool true)]) (ac (gw g) (ac (gw k) az))
      rcases wyD b with⟨o,b⟩|⟨o,b⟩
      ·rcases wyD b with⟨r,b⟩|⟨r,b⟩
       ·obtain rfl:=si b
        exact tr fol [2,5,8,12] (kAQ c [(3,.i d),(55,.bool false)]) (ac (gw g) (ac (gw k) (ac (gw o) (ac (gw r) az))))
       obtain rfl:=si b
       exact tr fol [2,5,8,12] (kAQ c [(3,.i d),(55,.bool (!(decide ((j.toNat:Int)=95))))]) (ac (gw g) (ac (gw k) (ac (gw o) (ac (gw r) az))))
      obtain rfl:=si b
      exact tr fol [2,5,8] (kAQ c [(3,.i d),(55,.bool (!(decide ((j.toNat:Int)=95))))]) (ac (gw g) (ac (gw k) (ac (gw o) az)))
     obtain rfl:=si b
     exact tr fol [2] (kAQ c [(3,.i d),(55,.bool false)]) (ac (gw g) az)
    refine ihB g6 (fun z g6=>?_) (fun z g6=>?_)
    ·refine sh fol kA7 ?_
     refine Goes.ret ?_
     obtain rfl:=si g6
     exact Or.inr (⟨rfl,_,rfl,(gw2 [.bool false] (FzW.still tB))⟩)
    refine Goes.skip ?_
    refine gh fol (kAQ c (kBS (w64 (d+1)))) ?_
    exact⟨M,(ofG 56 (kAQ c (kBS (w64 (d+1)))),[]),Nat.lt_succ_self _,(Sub.refl _),_,rfl,g6⟩
   refine Goes.exit ?_
   obtain rfl:=si g6
   exact Or.inl (⟨rfl,rfl,(Sub.keep [] rfl rfl)⟩)
 rintro x s' (⟨rfl,rfl,hsub⟩|⟨rfl,E,rfl,hret⟩)
 ·try dsimp only at h
  refine Goes.sub hsub ?_
  refine sh fol [(2,.bool true)] ?_
  refine Goes.ret ?_
  obtain rfl:=si h
  exact(gw2 [.bool true] (FzW.still tB))
 try dsimp only at h
 obtain rfl:=si h
 exact hret
end Go.Av
