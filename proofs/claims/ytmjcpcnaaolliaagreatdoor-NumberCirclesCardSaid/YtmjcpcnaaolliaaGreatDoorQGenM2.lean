/-
  Walks of functions: what each computes, as a plain function.
-/
import Derived.Test.YtmjcpcnaaolliaaGreatDoorQGenM1
noncomputable section
namespace Go.Av
open Go.Proofs Go.RowKit
set_option linter.unusedSectionVars false
set_option linter.unusedVariables false
set_option linter.unusedSimpArgs false
set_option maxRecDepth 100000
def j6 (neg:Bool) (w:List Int):Option qm:=
 if(w.length:Int)=0 then
 some (⟨0,[]⟩:qm)
 else
 (if(w.length:Int)=1 then
 (idx w 0).bind fun d=>
 if d<=9223372036854775807 then
 some neg
 else
 some false
 else
 some false:Option Bool).bind fun e=>
 if e=true then
 (idx w 0).bind fun f=>
 some (⟨w64 (0-(w64 f)),[]⟩:qm)
 else
 (if(w.length:Int)=1 then
 (idx w 0).bind fun a=>
 some (decide (a<=9223372036854775807))
 else
 some false:Option Bool).bind fun b=>
 if b=true then
 (idx w 0).bind fun c=>
 some (⟨w64 c,[]⟩:qm)
 else
 if neg=true then
 some (⟨(-1),w⟩:qm)
 else
 some (⟨1,w⟩:qm)
theorem qat (neg:Bool) (w:List Int) {res:qm} (h:j6 neg w=some res):qb ZT (.fn 159) [.bool neg,vl (qa .u64) w] [] (.agg (nz1 res)) []:=by
 unfold j6 at h
 refine Ub Tryz.func159 rfl rfl (m:=50) rfl (rs:=[.cell 4 95]) rfl (l:=[(0,.bool neg),(1,vl (qa .u64) w)]) rfl ?_
 refine sg fol ((0,.bool neg)::(1,vl (qa .u64) w)::(kX [])) [bZ] ?_
 refine sq (Goes.block ?_)
 refine sh fol ((0,.bool neg)::(1,vl (qa .u64) w)::(kX [(5,.bool (decide ((w.length:Int)=0)))])) ?_
 refine ihD h (fun t h=>?_) (fun t h=>?_)
 ·refine sh fol (kX []) ?_
  refine Goes.ret ?_
  obtain rfl:=si h
  exact(gw2 [.agg [.i 0,.nilslice]] (FzW.agg (qc.cons (Ua tI) (qc.cons (FzW.nv0 (E:=(qa .u64))) qc.nil))))
 refine sq ?_
 obtain⟨u,a,h⟩:=bnd h
 refine Goes.cut (s':=(ofG 50 ((0,.bool neg)::(1,vl (qa .u64) w)::(kX [(10,.bool u)])),[bZ])) ?_ ?_
 ·rcases wyD a with⟨j,a⟩|⟨j,a⟩
  ·obtain⟨x,c,a⟩:=bnd a
   rcases wyD a with⟨k,a⟩|⟨k,a⟩
   ·obtain rfl:=si a
    exact tr fol [3,5,6,9] ((0,.bool neg)::(1,vl (qa .u64) w)::(kX [(10,.bool neg)])) (ac (gw j) (ac (iv zS (qa .u64) c) (ac (lv 0 z8 (qa .u64) c rfl) (ac (gw k) az))))
   obtain rfl:=si a
   exact tr fol [3,5,6,9] ((0,.bool neg)::(1,vl (qa .u64) w)::(kX [(10,.bool false)])) (ac (gw j) (ac (iv zS (qa .u64) c) (ac (lv 0 z8 (qa .u64) c rfl) (ac (gw k) az))))
  obtain rfl:=si a
  exact tr fol [3] ((0,.bool neg)::(1,vl (qa .u64) w)::(kX [(10,.bool false)])) (ac (gw j) az)
 refine ihB h (fun v h=>?_) (fun v h=>?_)
 ·obtain⟨s,f,h⟩:=bnd h
  refine sq (gq fol [1,2] (kX []) (kAy (w64 (0-(w64 s)))) (ac (iv zS (qa .u64) f) (ac (lv 0 z8 (qa .u64) f rfl) az)) ?_)
  refine Goes.ret ?_
  obtain rfl:=si h
  exact(gw2 [.agg [.i (w64 (0-(w64 s))),.nilslice]] (FzW.agg (qc.cons (Ua tI) (qc.cons (FzW.nv0 (E:=(qa .u64))) qc.nil))))
 refine sq ?_
 obtain⟨n,b,h⟩:=bnd h
 refine Goes.cut (s':=(ofG 50 ((0,.bool neg)::(1,vl (qa .u64) w)::(kX [(29,.bool n)])),[bZ])) ?_ ?_
 ·rcases wyD b with⟨o,b⟩|⟨o,b⟩
  ·obtain⟨p,d,b⟩:=bnd b
   obtain rfl:=si b
   exact tr fol [3,5,6] ((0,.bool neg)::(1,vl (qa .u64) w)::(kX [(29,.bool (decide (p<=9223372036854775807)))])) (ac (gw o) (ac (iv zS (qa .u64) d) (ac (lv 0 z8 (qa .u64) d rfl) az)))
  obtain rfl:=si b
  exact tr fol [3] ((0,.bool neg)::(1,vl (qa .u64) w)::(kX [(29,.bool false)])) (ac (gw o) az)
 refine ihB h (fun q h=>?_) (fun q h=>?_)
 ·obtain⟨g,e,h⟩:=bnd h
  refine sq (gq fol [1,2] (kX []) (kAy (w64 g)) (ac (iv zS (qa .u64) e) (ac (lv 0 z8 (qa .u64) e rfl) az)) ?_)
  refine Goes.ret ?_
  obtain rfl:=si h
  exact(gw2 [.agg [.i (w64 g),.nilslice]] (FzW.agg (qc.cons (Ua tI) (qc.cons (FzW.nv0 (E:=(qa .u64))) qc.nil))))
 refine sh fol ((1,vl (qa .u64) w)::(kX [(44,.bool neg)])) ?_
 refine ihB h (fun r h=>?_) (fun r h=>?_)
 ·refine sg fol (kX []) [.cells [.i (-1),vl (qa .u64) w]] ?_
  refine Goes.ret ?_
  obtain rfl:=si h
  exact(gw2 [.agg [.i (-1),vl (qa .u64) w]] (FzW.agg (qc.cons (Ua tI) (qc.cons (FzW.Lnv (E:=(qa .u64)) (by first|omega|(simp only[decide_eq_false_iff_not,decide_eq_true_eq]at*;omega)) (nl rfl)) qc.nil))))
 refine Goes.skip ?_
 refine sg fol (kX []) [.cells [.i 1,vl (qa .u64) w]] ?_
 refine Goes.ret ?_
 obtain rfl:=si h
 exact(gw2 [.agg [.i 1,vl (qa .u64) w]] (FzW.agg (qc.cons (Ua tI) (qc.cons (FzW.Lnv (E:=(qa .u64)) (by first|omega|(simp only[decide_eq_false_iff_not,decide_eq_true_eq]at*;omega)) (nl rfl)) qc.nil))))
def qau (w:List Int):Nat->Int->Option Int
 |0,_=>none
 |K+1,a=>
  (if a>0 then
  (idx w (w64 (a-1))).bind fun b=>
  some (decide (b=0))
  else
  some false:Option Bool).bind fun c=>
  if c=true then
  qau w K (w64 (a-1))
  else
  some a
def yR (N:Nat) (w:List Int):Option (List Int):=
 (qau w N (w.length:Int)).bind fun a=>
 (cut w 0 a).bind fun b=>
 some b
theorem xg (N:Nat) (w:List Int) {res:List Int} (h:yR N w=some res):qb ZT (.fn 225) [vl (qa .u64) w] [] (vl (qa .u64) res) []:=by
 unfold yR at h
 refine Ub Tryz.func225 rfl rfl (m:=21) rfl (rs:=[.tmp 2]) rfl (l:=[(0,vl (qa .u64) w)]) rfl ?_
 refine sh fol [(0,vl (qa .u64) w)] ?_
 refine sh fol [(0,vl (qa .u64) w),(3,.i (w.length:Int))] ?_
 refine sq (Goes.block ?_)
 obtain⟨j,g3,h⟩:=bnd h
 refine Goes.imp (Q:=fun x s'=>(x= .exit 0/\ ∃d,d=j/\Sub s' (ofG 21 [(0,vl (qa .u64) w),(3,.i d)],[]))) ?_ ?_
 ·refine Uc (fun M s=> ∃(b:Int),s=(ofG 21 [(0,vl (qa .u64) w),(3,.i b)],[])/\qau w M b=some j) ?_ (m:=N) ⟨_,rfl,g3⟩
  rintro M s ⟨b,rfl,g3⟩
  cases M with
  |zero=>simp only[qau]at g3;cases g3
  |succ M=>
   rw[qau]at g3
   refine sq ?_
   refine sq ?_
   obtain⟨k,a,g3⟩:=bnd g3
   refine Goes.cut (s':=(ofG 21 ((0,vl (qa .u64) w)::(3,.i b)::(kBN k)),[])) ?_ ?_
   ·rcases wyD a with⟨f,a⟩|⟨f,a⟩
    ·obtain⟨n,c,a⟩:=bnd a
     obtain rfl:=si a
     exact tr fol [2,6,7] ((0,vl (qa .u64) w)::(3,.i b)::(kBN (decide (n=0)))) (ac (gw f) (ac (iv zS (qa .u64) c) (ac (lv 0 z8 (qa .u64) c rfl) az)))
    obtain rfl:=si a
    exact tr fol [2] [(0,vl (qa .u64) w),(3,.i b),(15,.bool false)] (ac (gw f) az)
   refine ihB g3 (fun o g3=>?_) (fun o g3=>?_)
   ·refine Goes.skip ?_
    refine Goes.block ?_
    refine gh fol [(0,vl (qa .u64) w),(3,.i (w64 (b-1)))] ?_
    exact⟨M,(ofG 21 [(0,vl (qa .u64) w),(3,.i (w64 (b-1)))],[]),Nat.lt_succ_self _,(Sub.refl _),_,rfl,g3⟩
   refine Goes.exit ?_
   obtain rfl:=si g3
   exact⟨rfl,_,rfl,(Sub.keep [0,3] rfl rfl)⟩
 rintro x s' ⟨rfl,d,rfl,hsub⟩
 refine Goes.sub hsub ?_
 obtain⟨g,e,h⟩:=bnd h
 refine sq (gr fol [2] [(2,vl (qa .u64) g)] (ac (hs (.done (.opt (qY ZT 93 (vl (qa .u64) w) none (some (.i d)) none)) (vl (qa .u64) g)) (qmj zS (E:=(qa .u64)) rfl none (some d) e)) az) ?_)
 refine Goes.ret ?_
 obtain rfl:=si h
 exact(gw2 [vl (qa .u64) g] (Ua (qy (qa .u64) _ (nl rfl))))
def je (c:List Int) (d:List Int):Nat->(List Int)->Int->Int->Option ((List Int)×Int)
 |0,_,_,_=>none
 |K+1,e,a,j=>
  if a<(c.length:Int)then
  ((if a<(d.length:Int)then
  (idx d a).bind fun f=>
  some f
  else
  some 0:Option Int)).bind fun g=>
  (idx c a).bind fun h=>
  (qaa h g j).bind fun b=>
  (idx e a).bind fun k=>
  (put e a b.1).bind fun i=>
  je c d K i (w64 (a+1)) b.2
  else
  some (e,j)
def qaw (N:Nat) (b:List Int) (y:List Int):Option (List Int):=
 ((if(b.length:Int)<(y.length:Int)then
 some (y,b)
 else
 some (b,y):Option ((List Int)×(List Int)))).bind fun(a,g)=>
 (mk 8 (w64 ((a.length:Int)+1)) 0).bind fun h=>
 (je a g N h 0 0).bind fun(f,c)=>
 (idx f (a.length:Int)).bind fun i=>
 (put f (a.length:Int) c).bind fun d=>
 (yR N d).bind fun e=>
 some e
theorem qgJ (N:Nat) (B:List Int) (y:List Int) {res:List Int} (h:qaw N B y=some res):qb ZT (.fn 160) [vl (qa .u64) B,vl (qa .u64) y] [] (vl (qa .u64) res) []:=by
 unfold qaw at h
 refine Ub Tryz.func160 rfl rfl (m:=54) rfl (rs:=[.tmp 4]) rfl (l:=[(0,vl (qa .u64) B),(1,vl (qa .u64) y)]) rfl ?_
 refine sh fol [(0,vl (qa .u64) B),(1,vl (qa .u64) y)] ?_
 refine sq ?_
 refine sh fol ((0,vl (qa .u64) B)::(1,vl (qa .u64) y)::(kBM (decide ((B.length:Int)<(y.length:Int))))) ?_
 obtain⟨P,g3,h⟩:=bnd h
 refine Goes.imp (Q:=fun x s'=>(x= .normal/\ ∃a e,(a,e)=P/\Sub s' (ofG 54 [(0,vl (qa .u64) a),(1,vl (qa .u64) e)],[]))) ?_ ?_
 ·refine ihD g3 (fun U g3=>?_) (fun U g3=>?_)
  ·refine gh fol [(0,vl (qa .u64) y),(1,vl (qa .u64) B)] ?_
   obtain rfl:=si g3
   exact⟨rfl,_,_,rfl,(Sub.refl _)⟩
  refine Goes.skip ?_
  obtain rfl:=si g3
  exact⟨rfl,_,_,rfl,(Sub.keep [0,1] rfl rfl)⟩
 rintro x s' ⟨rfl,a,e,rfl,hsub⟩
 try dsimp only at h
 refine Goes.sub hsub ?_
 obtain⟨C,G,h⟩:=bnd h
 refine sq (gq fol [3] ((0,vl (qa .u64) a)::(1,vl (qa .u64) e)::(kC C [])) [.cells (C.flatMap (qa .u64).c)] (ac (hs (.run [] (jf ZT 93 (.i (w64 ((a.length:Int)+1))) (.i (w64 ((a.length:Int)+1)))) [] (.slice 0 0 C.length C.length 1) [.cells (C.flatMap (qa .u64).c)] false) (qcX zS (E:=(qa .u64)) (z:=0) rfl (by kernel_rfl) G rfl)) az) ?_)
 refine sh fol ((0,vl (qa .u64) a)::(1,vl (qa .u64) e)::(kC C [(6,.int .u64 0)])) ?_
 refine sq ?_
 refine sh fol ((0,vl (qa .u64) a)::(1,vl (qa .u64) e)::(kC C [(6,.int .u64 0),(21,.i (a.length:Int)),(22,.i 0)])) ?_
 refine Goes.block ?_
 obtain⟨H,g11,h⟩:=bnd h
 refine Goes.imp (Q:=fun x s'=>(x= .exit 0/\ ∃v k,(v,k)=H/\Sub s' (ofG 54 ((0,vl (qa .u64) a)::(kC v (kAL k []))),[.cells (v.flatMap (qa .u64).c)]))) ?_ ?_
 ·refine Uc (fun M s=> ∃(f:List Int) (d:Int) (w:Int),s=(ofG 54 ((0,vl (qa .u64) a)::(1,vl (qa .u64) e)::(kC f (kAL w (kAE (a.length:Int) d [])))),[.cells (f.flatMap (qa .u64).c)])/\je a e M f d w=some H) ?_ (m:=N) ⟨_,_,_,rfl,g11⟩
  rintro M s ⟨f,d,w,rfl,g11⟩
  cases M with
  |zero=>simp only[je]at g11;cases g11
  |succ M=>
   rw[je]at g11
   refine sh fol ((0,vl (qa .u64) a)::(1,vl (qa .u64) e)::(kC f (kAL w (kAE (a.length:Int) d [(23,.bool (decide (d<(a.length:Int))))])))) ?_
   refine sq ?_
   refine ihD g11 (fun I g11=>?_) (fun I g11=>?_)
   ·refine Goes.skip ?_
    refine sq (Goes.block ?_)
    refine sh fol ((0,vl (qa .u64) a)::(1,vl (qa .u64) e)::(kC f (kAL w ((7,.i d)::(kAE (a.length:Int) d []))))) ?_
    refine sh fol ((0,vl (qa .u64) a)::(1,vl (qa .u64) e)::(kC f (kAL w ((7,.i d)::(kBQ (kAE (a.length:Int) d [])))))) ?_
    refine sq ?_
    refine sh fol ((0,vl (qa .u64) a)::(1,vl (qa .u64) e)::(kC f (kAL w ((7,.i d)::(kBQ (kAE (a.length:Int) d [(28,.bool (decide (d<(e.length:Int))))])))))) ?_
    obtain⟨J,g14,g11⟩:=bnd g11
    refine Goes.imp (Q:=fun x s'=>(x= .normal/\ ∃A,A=J/\Sub s' (ofG 54 ((0,vl (qa .u64) a)::(1,vl (qa .u64) e)::(kC f (kAL w ((7,.i d)::(8,.int .u64 A)::(kAE (a.length:Int) d []))))),[.cells (f.flatMap (qa .u64).c)]))) ?_ ?_
    ·refine ihD g14 (fun K g14=>?_) (fun K g14=>?_)
     ·obtain⟨L,n,g14⟩:=bnd g14
      refine gr fol [2,3] ((0,vl (qa .u64) a)::(1,vl (qa .u64) e)::(kC f (kAL w ((7,.i d)::(8,.int .u64 L)::(kAE (a.length:Int) d []))))) (ac (iv zS (qa .u64) n) (ac (lv 0 z8 (qa .u64) n rfl) az)) ?_
      obtain rfl:=si g14
      exact⟨rfl,_,rfl,(Sub.refl _)⟩
     refine Goes.skip ?_
     obtain rfl:=si g14
     exact⟨rfl,_,rfl,(Sub.keep [0,1,5,6,7,8,21,22] rfl rfl)⟩
    rintro x s' ⟨rfl,A,rfl,hsub⟩
    refine Goes.sub hsub ?_
    obtain⟨O,o,g11⟩:=bnd g11
    obtain⟨j,D,g11⟩:=bnd g11
    obtain⟨V,p,g11⟩:=bnd g11
    obtain⟨g,q,g11⟩:=bnd g11
    refine gq fol [4,5,8,12,13] ((0,vl (qa .u64) a)::(1,vl (qa .u64) e)::(kC f (kAL j.2 (kAE (a.length:Int) d [])))) [.cells (g.flatMap (qa .u64).c)] (ac (iv zS (qa .u64) o) (ac (lv 0 z8 (qa .u64) o rfl) (ac (cv (qch O A w D)) (ac (hs (.done (.opt (qj ZT 93 (.slice 0 0 f.length f.length 1) (.i d))) (.ptr 0 ((d:Int).toNat*1+0))) (qao zS p)) (ac (hs (.run [0] (qw ZT 245 (.ptr 0 ((d:Int).toNat*1+0)) (.int .u64 j.1)) [.cells (f.flatMap (qa .u64).c)] .undef [.cells (g.flatMap (qa .u64).c)] true) (qae (E:=(qa .u64)) (l:=f) (y:=j.1) rfl (show _=some 1 by kernel_rfl) rfl p rfl rfl rfl rfl rfl q rfl)) az))))) ?_
    refine Goes.sub (show Sub (ofG 54 ((0,vl (qa .u64) a)::(1,vl (qa .u64) e)::(kC f (kAL j.2 (kAE (a.length:Int) d [])))),[.cells (g.flatMap (qa .u64).c)]) (ofG 54 ((0,vl (qa .u64) a)::(1,vl (qa .u64) e)::(kC g (kAL j.2 (kAE (a.length:Int) d [])))),[.cells (g.flatMap (qa .u64).c)])from(Sub.norm [] [some 0] rfl rfl (.keep (.same (qf (qa .u64) _)) (.keep (.same (qf (qa .u64) _)) (.keep (.sliceE rfl (vI q)) (.keep (.same nI) (.keep (.same nI) (.keep (.same nI) .nil)))))) (.ks .nil))) ?_
    refine gh fol ((0,vl (qa .u64) a)::(1,vl (qa .u64) e)::(kC g (kAL j.2 (kAE (a.length:Int) (w64 (d+1)) [])))) ?_
    exact⟨M,(ofG 54 ((0,vl (qa .u64) a)::(1,vl (qa .u64) e)::(kC g (kAL j.2 (kAE (a.length:Int) (w64 (d+1)) [])))),[.cells (g.flatMap (qa .u64).c)]),Nat.lt_succ_self _,(Sub.refl _),_,_,_,rfl,g11⟩
   refine Goes.exit ?_
   obtain rfl:=si g11
   exact⟨rfl,_,_,rfl,(Sub.keep [0,5,6] rfl rfl)⟩
 rintro x s' ⟨rfl,v,k,rfl,hsub⟩
 try dsimp only at h
 refine Goes.sub hsub ?_
 obtain⟨X,r,h⟩:=bnd h
 obtain⟨b,t,h⟩:=bnd h
 refine sq (gq fol [4,5] (kC v []) [.cells (b.flatMap (qa .u64).c)] (ac (hs (.done (.opt (qj ZT 93 (.slice 0 0 v.length v.length 1) (.i (a.length:Int)))) (.ptr 0 (((a.length:Int):Int).toNat*1+0))) (qao zS r)) (ac (hs (.run [0] (qw ZT 245 (.ptr 0 (((a.length:Int):Int).toNat*1+0)) (.int .u64 k)) [.cells (v.flatMap (qa .u64).c)] .undef [.cells (b.flatMap (qa .u64).c)] true) (qae (E:=(qa .u64)) (l:=v) (y:=k) rfl (show _=some 1 by kernel_rfl) rfl r rfl rfl rfl rfl rfl t rfl)) az)) ?_)
 refine Goes.sub (show Sub (ofG 54 (kC v []),[.cells (b.flatMap (qa .u64).c)]) (ofG 54 (kC b []),[.cells (b.flatMap (qa .u64).c)])from(Sub.norm [] [some 0] rfl rfl (.keep (.sliceE rfl (vI t)) .nil) (.ks .nil))) ?_
 obtain⟨u,F,h⟩:=bnd h
 refine sq (gq fol [1] [(4,vl (qa .u64) u)] [.frozen (b.flatMap (qa .u64).c)] (ac (hs (.callF 225 [.slice 0 0 b.length b.length 1] [.cells (b.flatMap (qa .u64).c)] [0] [vl (qa .u64) b] (vl (qa .u64) u)) (yj (FzL.cons (Fz.sl (E:=(qa .u64)) rfl rfl (nl rfl)) FzL.nil) (xg N b F) (qy (qa .u64) _ (nl rfl)))) az) ?_)
 refine Goes.sub (show Sub (ofG 54 [(4,vl (qa .u64) u)],[.frozen (b.flatMap (qa .u64).c)]) (ofG 54 [(4,vl (qa .u64) u)],[])from(Sub.norm [] [] rfl rfl (.keep (.same (qf (qa .u64) _)) .nil) .nil)) ?_
 refine Goes.ret ?_
 obtain rfl:=si h
 exact(gw2 [vl (qa .u64) u] (Ua (qy (qa .u64) _ (nl rfl))))
def zw (a:List Int) (b:List Int):Nat->Int->Option (Unit⊕Int)
 |0,_=>none
 |K+1,c=>
  if c>=0 then
  (idx a c).bind fun d=>
  (idx b c).bind fun e=>
  if(!decide (d=e))=true then
  if d<e then
  some (.inr (-1))
  else
  some (.inr 1)
  else
  zw a b K (w64 (c-1))
  else
  some (.inl ())
def jO (N:Nat) (a:List Int) (b:List Int):Option Int:=
 if(!decide ((a.length:Int)=(b.length:Int)))=true then
 if(a.length:Int)<(b.length:Int)then
 some (-1)
 else
 some 1
 else
 (zw a b N (w64 ((a.length:Int)-1))).bind (fun
 |(.inl ())=>
 some 0
 |(.inr c)=>
 some c)
theorem qbT (N:Nat) (a:List Int) (b:List Int) {res:Int} (h:jO N a b=some res):qb ZT (.fn 161) [vl (qa .u64) a,vl (qa .u64) b] [] (.i res) []:=by
 unfold jO at h
 refine Ub Tryz.func161 rfl rfl (m:=41) rfl (rs:=[.tmp 4]) rfl (l:=[(0,vl (qa .u64) a),(1,vl (qa .u64) b)]) rfl ?_
 refine sh fol [(0,vl (qa .u64) a),(1,vl (qa .u64) b)] ?_
 refine sq ?_
 refine sh fol [(0,vl (qa .u64) a),(1,vl (qa .u64) b),(10,.bool (!decide ((a.length:Int)=(b.length:Int))))] ?_
 refine ihB h (fun o h=>?_) (fun o h=>?_)
 ·refine sq ?_
  refine sh fol (kBN (decide ((a.length:Int)<(b.length:Int)))) ?_
  refine ihD h (fun p h=>?_) (fun p h=>?_)
  ·refine sh fol [(4,.i (-1))] ?_
   refine Goes.ret ?_
   obtain rfl:=si h
   exact(gw2 [.i (-1)] (Ua tI))
  refine Goes.skip ?_
  refine sh fol [(4,.i 1)] ?_
  refine Goes.ret ?_
  obtain rfl:=si h
  exact(gw2 [.i 1] (Ua tI))
 refine Goes.skip ?_
 refine sq ?_
 refine sh fol ((0,vl (qa .u64) a)::(1,vl (qa .u64) b)::(kA6 (w64 ((a.length:Int)-1)))) ?_
 refine Goes.block ?_
 obtain⟨f,g4,h⟩:=bnd h
 refine Goes.imp (Q:=fun x s'=>(x= .exit 0/\(.inl ())=f/\Sub s' (ofG 41 [],[]))\/(x= .ret/\ ∃j,(.inr j)=f/\yB ZT [.tmp 4] (.i j) .ret s')) ?_ ?_
 ·refine Uc (fun M s=> ∃(e:Int),s=(ofG 41 ((0,vl (qa .u64) a)::(1,vl (qa .u64) b)::(kA6 e)),[])/\zw a b M e=some f) ?_ (m:=N) ⟨_,rfl,g4⟩
  rintro M s ⟨e,rfl,g4⟩
  cases M with
  |zero=>simp only[zw]at g4;cases g4
  |succ M=>
   rw[zw]at g4
   refine sq ?_
   refine sh fol [(0,vl (qa .u64) a),(1,vl (qa .u64) b),(5,.i e),(20,.bool (decide (e>=0)))] ?_
   refine ihD g4 (fun q g4=>?_) (fun q g4=>?_)
   ·refine Goes.skip ?_
    refine sq (Goes.block ?_)
    obtain⟨k,c,g4⟩:=bnd g4
    obtain⟨n,d,g4⟩:=bnd g4
    refine sq (gr fol [2,3,6,7] [(0,vl (qa .u64) a),(1,vl (qa .u64) b),(5,.i e),(31,.bool (!decide (k=n)))] (ac (iv zS (qa .u64) c) (ac (lv 0 z8 (qa .u64) c rfl) (ac (iv zS (qa .u64) d) (ac (lv 0 z8 (qa .u64) d rfl) az)))) ?_)
    refine ihB g4 (fun r g4=>?_) (fun r g4=>?_)
    ·refine sq ?_
     refine sq (gr fol [2,3,6,7] [(40,.bool (decide (k<n)))] (ac (iv zS (qa .u64) c) (ac (lv 0 z8 (qa .u64) c rfl) (ac (iv zS (qa .u64) d) (ac (lv 0 z8 (qa .u64) d rfl) az)))) ?_)
     refine ihD g4 (fun g g4=>?_) (fun g g4=>?_)
     ·refine sh fol [(4,.i (-1))] ?_
      refine Goes.ret ?_
      obtain rfl:=si g4
      exact Or.inr (⟨rfl,_,rfl,(gw2 [.i (-1)] (Ua tI))⟩)
     refine Goes.skip ?_
     refine sh fol [(4,.i 1)] ?_
     refine Goes.ret ?_
     obtain rfl:=si g4
     exact Or.inr (⟨rfl,_,rfl,(gw2 [.i 1] (Ua tI))⟩)
    refine Goes.skip ?_
    refine gh fol ((0,vl (qa .u64) a)::(1,vl (qa .u64) b)::(kA6 (w64 (e-1)))) ?_
    exact⟨M,(ofG 41 ((0,vl (qa .u64) a)::(1,vl (qa .u64) b)::(kA6 (w64 (e-1)))),[]),Nat.lt_succ_self _,(Sub.refl _),_,rfl,g4⟩
   refine Goes.exit ?_
   obtain rfl:=si g4
   exact Or.inl (⟨rfl,rfl,(Sub.keep [] rfl rfl)⟩)
 rintro x s' (⟨rfl,rfl,hsub⟩|⟨rfl,t,rfl,hret⟩)
 ·try dsimp only at h
  refine Goes.sub hsub ?_
  refine sh fol [(4,.i 0)] ?_
  refine Goes.ret ?_
  obtain rfl:=si h
  exact(gw2 [.i 0] (Ua tI))
 try dsimp only at h
 obtain rfl:=si h
 exact hret
def jG (c:List Int) (y:List Int):Nat->(List Int)->Int->Int->Option (List Int)
 |0,_,_,_=>none
 |K+1,d,a,h=>
  if a<(c.length:Int)then
  ((if a<(y.length:Int)then
  (idx y a).bind fun e=>
  some e
  else
  some 0:Option Int)).bind fun i=>
  (idx c a).bind fun f=>
  (qem f i h).bind fun b=>
  (idx d a).bind fun j=>
  (put d a b.1).bind fun g=>
  jG c y K g (w64 (a+1)) b.2
  else
  some d
def yx (N:Nat) (b:List Int) (y:List Int):Option (List Int):=
 (mk 8 (b.length:Int) 0).bind fun c=>
 (jG b y N c 0 0).bind fun d=>
 (yR N d).bind fun a=>
 some a
theorem qea (N:Nat) (a:List Int) (y:List Int) {res:List Int} (h:yx N a y=some res):qb ZT (.fn 162) [vl (qa .u64) a,vl (qa .u64) y] [] (vl (qa .u64) res) []:=by
 unfold yx at h
 refine Ub Tryz.func162 rfl rfl (m:=41) rfl (rs:=[.tmp 4]) rfl (l:=[(0,vl (qa .u64) a),(1,vl (qa .u64) y)]) rfl ?_
 refine sh fol [(0,vl (qa .u64) a),(1,vl (qa .u64) y)] ?_
 obtain⟨r,v,h⟩:=bnd h
 refine sq (gq fol [2] ((0,vl (qa .u64) a)::(1,vl (qa .u64) y)::(kC r [])) [.cells (r.flatMap (qa .u64).c)] (ac (hs (.run [] (jf ZT 93 (.i (a.length:Int)) (.i (a.length:Int))) [] (.slice 0 0 r.length r.length 1) [.cells (r.flatMap (qa .u64).c)] false) (qcX zS (E:=(qa .u64)) (z:=0) rfl (by kernel_rfl) v rfl)) az) ?_)
 refine sh fol ((0,vl (qa .u64) a)::(1,vl (qa .u64) y)::(kC r [(6,.int .u64 0)])) ?_
 refine sq ?_
 refine sh fol ((0,vl (qa .u64) a)::(1,vl (qa .u64) y)::(kC r [(6,.int .u64 0),(13,.i (a.length:Int)),(14,.i 0)])) ?_
 refine Goes.block ?_
 obtain⟨D,g6,h⟩:=bnd h
 refine Goes.imp (Q:=fun x s'=>(x= .exit 0/\ ∃g,g=D/\Sub s' (ofG 41 (kC g []),[.cells (g.flatMap (qa .u64).c)]))) ?_ ?_
 ·refine Uc (fun M s=> ∃(d:List Int) (b:Int) (q:Int),s=(ofG 41 ((0,vl (qa .u64) a)::(1,vl (qa .u64) y)::(kC d (kAL q (kAM (a.length:Int) b)))),[.cells (d.flatMap (qa .u64).c)])/\jG a y M d b q=some D) ?_ (m:=N) ⟨_,_,_,rfl,g6⟩
  rintro M s ⟨d,b,q,rfl,g6⟩
  cases M with
  |zero=>simp only[jG]at g6;cases g6
  |succ M=>
   rw[jG]at g6
   refine sh fol ((0,vl (qa .u64) a)::(1,vl (qa .u64) y)::(kC d (kAL q ((13,.i (a.length:Int))::(14,.i b)::(kBN (decide (b<(a.length:Int)))))))) ?_
   refine sq ?_
   refine ihD g6 (fun F g6=>?_) (fun F g6=>?_)
   ·refine Goes.skip ?_
    refine sq (Goes.block ?_)
    refine sh fol ((0,vl (qa .u64) a)::(1,vl (qa .u64) y)::(kC d (kAL q ((7,.i b)::(kAM (a.length:Int) b))))) ?_
    refine sh fol ((0,vl (qa .u64) a)::(1,vl (qa .u64) y)::(kC d (kAL q ((7,.i b)::(kBQ (kAM (a.length:Int) b)))))) ?_
    refine sq ?_
    refine sh fol ((0,vl (qa .u64) a)::(1,vl (qa .u64) y)::(kC d (kAL q ((7,.i b)::(kBQ [(13,.i (a.length:Int)),(14,.i b),(20,.bool (decide (b<(y.length:Int))))]))))) ?_
    obtain⟨G,g9,g6⟩:=bnd g6
    refine Goes.imp (Q:=fun x s'=>(x= .normal/\ ∃w,w=G/\Sub s' (ofG 41 ((0,vl (qa .u64) a)::(1,vl (qa .u64) y)::(kC d (kAL q ((7,.i b)::(8,.int .u64 w)::(kAM (a.length:Int) b))))),[.cells (d.flatMap (qa .u64).c)]))) ?_ ?_
    ·refine ihD g9 (fun A g9=>?_) (fun A g9=>?_)
     ·obtain⟨B,j,g9⟩:=bnd g9
      refine gr fol [2,3] ((0,vl (qa .u64) a)::(1,vl (qa .u64) y)::(kC d (kAL q ((7,.i b)::(8,.int .u64 B)::(kAM (a.length:Int) b))))) (ac (iv zS (qa .u64) j) (ac (lv 0 z8 (qa .u64) j rfl) az)) ?_
      obtain rfl:=si g9
      exact⟨rfl,_,rfl,(Sub.refl _)⟩
     refine Goes.skip ?_
     obtain rfl:=si g9
     exact⟨rfl,_,rfl,(Sub.keep [0,1,5,6,7,8,13,14] rfl rfl)⟩
    rintro x s' ⟨rfl,w,rfl,hsub⟩
    refine Goes.sub hsub ?_
    obtain⟨C,k,g6⟩:=bnd g6
    obtain⟨f,t,g6⟩:=bnd g6
    obtain⟨H,n,g6⟩:=bnd g6
    obtain⟨e,o,g6⟩:=bnd g6
    refine gq fol [4,5,8,12,13] ((0,vl (qa .u64) a)::(1,vl (qa .u64) y)::(kC d (kAL f.2 (kAM (a.length:Int) b)))) [.cells (e.flatMap (qa .u64).c)] (ac (iv zS (qa .u64) k) (ac (lv 0 z8 (qa .u64) k rfl) (ac (cv (qhJ C w q t)) (ac (hs (.done (.opt (qj ZT 93 (.slice 0 0 d.length d.length 1) (.i b))) (.ptr 0 ((b:Int).toNat*1+0))) (qao zS n)) (ac (hs (.run [0] (qw ZT 245 (.ptr 0 ((b:Int).toNat*1+0)) (.int .u64 f.1)) [.cells (d.flatMap (qa .u64).c)] .undef [.cells (e.flatMap (qa .u64).c)] true) (qae (E:=(qa .u64)) (l:=d) (y:=f.1) rfl (show _=some 1 by kernel_rfl) rfl n rfl rfl rfl rfl rfl o rfl)) az))))) ?_
    refine Goes.sub (show Sub (ofG 41 ((0,vl (qa .u64) a)::(1,vl (qa .u64) y)::(kC d (kAL f.2 (kAM (a.length:Int) b)))),[.cells (e.flatMap (qa .u64).c)]) (ofG 41 ((0,vl (qa .u64) a)::(1,vl (qa .u64) y)::(kC e (kAL f.2 (kAM (a.length:Int) b)))),[.cells (e.flatMap (qa .u64).c)])from(Sub.norm [] [some 0] rfl rfl (.keep (.same (qf (qa .u64) _)) (.keep (.same (qf (qa .u64) _)) (.keep (.sliceE rfl (vI o)) (.keep (.same nI) (.keep (.same nI) (.keep (.same nI) .nil)))))) (.ks .nil))) ?_
    refine gh fol ((0,vl (qa .u64) a)::(1,vl (qa .u64) y)::(kC e (kAL f.2 (kAM (a.length:Int) (w64 (b+1)))))) ?_
    exact⟨M,(ofG 41 ((0,vl (qa .u64) a)::(1,vl (qa .u64) y)::(kC e (kAL f.2 (kAM (a.length:Int) (w64 (b+1)))))),[.cells (e.flatMap (qa .u64).c)]),Nat.lt_succ_self _,(Sub.refl _),_,_,_,rfl,g6⟩
   refine Goes.exit ?_
   obtain rfl:=si g6
   exact⟨rfl,_,rfl,(Sub.keep [5] rfl rfl)⟩
 rintro x s' ⟨rfl,g,rfl,hsub⟩
 refine Goes.sub hsub ?_
 obtain⟨p,u,h⟩:=bnd h
 refine sq (gq fol [1] [(4,vl (qa .u64) p)] [.frozen (g.flatMap (qa .u64).c)] (ac (hs (.callF 225 [.slice 0 0 g.length g.length 1] [.cells (g.flatMap (qa .u64).c)] [0] [vl (qa .u64) g] (vl (qa .u64) p)) (yj (FzL.cons (Fz.sl (E:=(qa .u64)) rfl rfl (nl rfl)) FzL.nil) (xg N g u) (qy (qa .u64) _ (nl rfl)))) az) ?_)
 refine Goes.sub (show Sub (ofG 41 [(4,vl (qa .u64) p)],[.frozen (g.flatMap (qa .u64).c)]) (ofG 41 [(4,vl (qa .u64) p)],[])from(Sub.norm [] [] rfl rfl (.keep (.same (qf (qa .u64) _)) .nil) .nil)) ?_
 refine Goes.ret ?_
 obtain rfl:=si h
 exact(gw2 [vl (qa .u64) p] (Ua (qy (qa .u64) _ (nl rfl))))
def jF (N:Nat) (a:qm) (b:qm):Option qm:=
 (if a.w.isEmpty=true then
 some b.w.isEmpty
 else
 some false:Option Bool).bind fun m=>
 ((if m=true then
 if((decide ((w64 (a.s+b.s))>a.s))==(decide (b.s>0)))=true then
 some (.inr (⟨w64 (a.s+b.s),[]⟩:qm))
 else
 some (.inl ())
 else
 some (.inl ()):Option (Unit⊕qm))).bind (fun
 |(.inl ())=>
 (qL a).bind fun c=>
 (qL b).bind fun d=>
 if(c.1==d.1)=true then
 (qaw N c.2 d.2).bind fun e=>
 (j6 c.1 e).bind fun f=>
 some f
 else
 (jO N c.2 d.2).bind fun g=>
 if g>=0 then
 (yx N c.2 d.2).bind fun h=>
 (j6 c.1 h).bind fun i=>
 some i
 else
 (yx N d.2 c.2).bind fun j=>
 (j6 d.1 j).bind fun k=>
 some k
 |(.inr l)=>
 some l)
theorem yY (N:Nat) (a:qm) (b:qm) {res:qm} (h:jF N a b=some res):qb ZT (.fn 65) [.agg (nz1 a),.agg (nz1 b)] [] (.agg (nz1 res)) []:=by
 unfold jF at h
 refine Ub Tryz.func65 rfl rfl (m:=67) rfl (rs:=[.cell 4 95]) rfl (l:=[(0,.agg (nz1 a)),(1,.agg (nz1 b))]) rfl ?_
 refine sg fol (kF []) [.cells (nz1 a),.cells (nz1 b),bZ] ?_
 refine sq ?_
 refine sq ?_
 obtain⟨J,c,h⟩:=bnd h
 refine Goes.cut (s':=(ofG 67 (kF [(17,.bool J)]),[.cells (nz1 a),.cells (nz1 b),bZ])) ?_ ?_
 ·rcases wyB c with⟨z,c⟩|⟨z,c⟩
  ·obtain rfl:=si c
   exact tr fol [2,3,6] (kF [(17,.bool b.w.isEmpty)]) (ac (hs (.done (.opt (kL ZT .eql 93 (.tmp 11) (.const (.slice none 0 0)) (nvl (qa .u64) a.w) .nilslice)) (.bool a.w.isEmpty)) (qaL qaI)) (ac (gw z) (ac (hs (.done (.opt (kL ZT .eql 93 (.tmp 15) (.const (.slice none 0 0)) (nvl (qa .u64) b.w) .nilslice)) (.bool b.w.isEmpty)) (qaL qaI)) az)))
  obtain rfl:=si c
  exact tr fol [2,3] (kF [(17,.bool false)]) (ac (hs (.done (.opt (kL ZT .eql 93 (.tmp 11) (.const (.slice none 0 0)) (nvl (qa .u64) a.w) .nilslice)) (.bool a.w.isEmpty)) (qaL qaI)) (ac (gw z) az))
 obtain⟨H,g4,h⟩:=bnd h
 refine Goes.imp (Q:=fun x s'=>(x= .normal/\(.inl ())=H/\Sub s' (ofG 67 (kF []),[.cells (nz1 a),.cells (nz1 b),bZ]))\/(x= .ret/\ ∃I,(.inr I)=H/\yB ZT [.cell 4 95] (.agg (nz1 I)) .ret s')) ?_ ?_
 ·refine ihB g4 (fun K g4=>?_) (fun K g4=>?_)
  ·refine sh fol (kF (kA6 (w64 (a.s+b.s)))) ?_
   refine sh fol (kF [(5,.i (w64 (a.s+b.s))),(30,.bool ((decide ((w64 (a.s+b.s))>a.s))==(decide (b.s>0))))]) ?_
   refine ihB g4 (fun L g4=>?_) (fun L g4=>?_)
   ·refine sg fol (kAR []) (.cells (nz1 a):: .cells (nz1 b)::(kAy (w64 (a.s+b.s)))) ?_
    refine Goes.ret ?_
    obtain rfl:=si g4
    exact Or.inr (⟨rfl,_,rfl,(gw2 [.agg [.i (w64 (a.s+b.s)),.nilslice]] (FzW.agg (qc.cons (Ua tI) (qc.cons (FzW.nv0 (E:=(qa .u64))) qc.nil))))⟩)
   refine Goes.skip ?_
   obtain rfl:=si g4
   exact Or.inl (⟨rfl,rfl,(Sub.keep [2,3,4] rfl rfl)⟩)
  refine Goes.skip ?_
  obtain rfl:=si g4
  exact Or.inl (⟨rfl,rfl,(Sub.keep [2,3,4] rfl rfl)⟩)
 rintro x s' (⟨rfl,rfl,hsub⟩|⟨rfl,M,rfl,hret⟩)
 ·try dsimp only at h
  refine Goes.sub hsub ?_
  obtain⟨d,v,h⟩:=bnd h
  refine sq (gr fol [1] (kAc (kAR [(6,.bool d.1),(7,vl (qa .u64) d.2)])) (ac (cv (zP a v)) az) ?_)
  obtain⟨e,y,h⟩:=bnd h
  refine sq (gr fol [1] (kAR [(6,.bool d.1),(7,vl (qa .u64) d.2),(8,.bool e.1),(9,vl (qa .u64) e.2)]) (ac (cv (zP b y)) az) ?_)
  refine sq (Goes.block ?_)
  refine sh fol (kAR [(6,.bool d.1),(7,vl (qa .u64) d.2),(8,.bool e.1),(9,vl (qa .u64) e.2),(43,.bool (d.1==e.1))]) ?_
  refine ihB h (fun A h=>?_) (fun A h=>?_)
  ·obtain⟨B,k,h⟩:=bnd h
   obtain⟨f,o,h⟩:=bnd h
   refine sq (gq fol [3,4,5] (kAR []) [.cells (nz1 a),.cells (nz1 b),.cells (nz1 f)] (ac (cv (qgJ N d.2 e.2 k)) (ac (cv (qat d.1 B o)) (ac (hs (.run [2] (qw ZT 95 (.ptr 2 0) (.agg (nz1 f))) [.cells (nz1 a),.cells (nz1 b),bZ] .undef [.cells (nz1 a),.cells (nz1 b),.cells (nz1 f)] true) (kw (n:=2) (by kernel_rfl) rfl rfl rfl rfl (cac rfl (cac nvc can)) rfl)) az))) ?_)
   refine Goes.ret ?_
   obtain rfl:=si h
   exact(gw2 [.agg (nz1 f)] (FzW.agg (qc.cons (Ua tI) (qc.cons (Ua (qA (qa .u64) _ (nl rfl))) qc.nil))))
  obtain⟨C,p,h⟩:=bnd h
  refine sq (gr fol [2] (kAR [(6,.bool d.1),(7,vl (qa .u64) d.2),(8,.bool e.1),(9,vl (qa .u64) e.2),(52,.bool (decide (C>=0)))]) (ac (cv (qbT N d.2 e.2 p)) az) ?_)
  refine ihD h (fun D h=>?_) (fun D h=>?_)
  ·obtain⟨F,q,h⟩:=bnd h
   obtain⟨g,r,h⟩:=bnd h
   refine sq (gq fol [3,4,5] (kAR []) [.cells (nz1 a),.cells (nz1 b),.cells (nz1 g)] (ac (cv (qea N d.2 e.2 q)) (ac (cv (qat d.1 F r)) (ac (hs (.run [2] (qw ZT 95 (.ptr 2 0) (.agg (nz1 g))) [.cells (nz1 a),.cells (nz1 b),bZ] .undef [.cells (nz1 a),.cells (nz1 b),.cells (nz1 g)] true) (kw (n:=2) (by kernel_rfl) rfl rfl rfl rfl (cac rfl (cac nvc can)) rfl)) az))) ?_)
   refine Goes.ret ?_
   obtain rfl:=si h
   exact(gw2 [.agg (nz1 g)] (FzW.agg (qc.cons (Ua tI) (qc.cons (Ua (qA (qa .u64) _ (nl rfl))) qc.nil))))
  refine Goes.skip ?_
  obtain⟨G,t,h⟩:=bnd h
  obtain⟨j,u,h⟩:=bnd h
  refine sq (gq fol [3,4,5] (kAR []) [.cells (nz1 a),.cells (nz1 b),.cells (nz1 j)] (ac (cv (qea N e.2 d.2 t)) (ac (cv (qat e.1 G u)) (ac (hs (.run [2] (qw ZT 95 (.ptr 2 0) (.agg (nz1 j))) [.cells (nz1 a),.cells (nz1 b),bZ] .undef [.cells (nz1 a),.cells (nz1 b),.cells (nz1 j)] true) (kw (n:=2) (by kernel_rfl) rfl rfl rfl rfl (cac rfl (cac nvc can)) rfl)) az))) ?_)
  refine Goes.ret ?_
  obtain rfl:=si h
  exact(gw2 [.agg (nz1 j)] (FzW.agg (qc.cons (Ua tI) (qc.cons (Ua (qA (qa .u64) _ (nl rfl))) qc.nil))))
 try dsimp only at h
 obtain rfl:=si h
 exact hret
def qcx (n:Int):Option qm:=
 some (⟨n,[]⟩:qm)
theorem qbv (n:Int) {res:qm} (h:qcx n=some res):qb ZT (.fn 66) [.i n] [] (.agg (nz1 res)) []:=by
 unfold qcx at h
 refine Ub Tryz.func66 rfl rfl (m:=5) rfl (rs:=[.cell 2 95]) rfl (l:=[(0,.i n)]) rfl ?_
 refine sg fol ((0,.i n)::(kS [])) [bZ] ?_
 refine sg fol (kS []) (kAy n) ?_
 refine Goes.ret ?_
 obtain rfl:=si h
 exact(gw2 [.agg [.i n,.nilslice]] (FzW.agg (qc.cons (Ua tI) (qc.cons (FzW.nv0 (E:=(qa .u64))) qc.nil))))
def stringslite_HasPrefix (b:Str) (a:Str):Option Bool:=
 (if(b.length:Int)>=(a.length:Int)then
 (cut b 0 (a.length:Int)).bind fun c=>
 some (c==a)
 else
 some false:Option Bool).bind fun d=>
 some d
theorem yD (c:Str) (a:Str) {res:Bool} (h:stringslite_HasPrefix c a=some res):qb ZT (.fn 211) (kAi c a) [] (.bool res) []:=by
 unfold stringslite_HasPrefix at h
 refine Ub Tryz.func211 rfl rfl (m:=18) rfl (rs:=[.tmp 4]) rfl (l:=(kO c a [])) rfl ?_
 refine sh fol (kO c a []) ?_
 refine sq ?_
 obtain⟨f,b,h⟩:=bnd h
 refine Goes.cut (s':=(ofG 18 (kAs f),[])) ?_ ?_
 ·rcases wyD b with⟨e,b⟩|⟨e,b⟩
  ·obtain⟨g,d,b⟩:=bnd b
   obtain rfl:=si b
   exact tr fol [5,9] (kAs (g==a)) (ac (gw e) (ac (hs (.done (.opt (qY ZT 9 (.str c) none (some (.i (a.length:Int))) none)) (.str g)) (zX st9 none (some (a.length:Int)) d)) az))
  obtain rfl:=si b
  exact tr fol [5] kAa (ac (gw e) az)
 refine Goes.ret ?_
 obtain rfl:=si h
 exact(gw2 [.bool f] (Ua tB))
def strings_HasPrefix (b:Str) (a:Str):Option Bool:=
 (stringslite_HasPrefix b a).bind fun c=>
 some c
theorem qeD (b:Str) (a:Str) {res:Bool} (h:strings_HasPrefix b a=some res):qb ZT (.fn 142) (kAi b a) [] (.bool res) []:=by
 unfold strings_HasPrefix at h
 refine Ub Tryz.func142 rfl rfl (m:=8) rfl (rs:=[.tmp 4]) rfl (l:=(kO b a [])) rfl ?_
 refine sh fol (kO b a []) ?_
 obtain⟨d,c,h⟩:=bnd h
 refine sq (gr fol [2] (kAs d) (ac (cv (yD b a c)) az) ?_)
 refine Goes.ret ?_
 obtain rfl:=si h
 exact(gw2 [.bool d] (Ua tB))
def stringslite_TrimPrefix (b:Str) (a:Str):Option Str:=
 (stringslite_HasPrefix b a).bind fun c=>
 if c=true then
 (cut b (a.length:Int) (b.length:Int)).bind fun d=>
 some d
 else
 some b
theorem qcD (b:Str) (a:Str) {res:Str} (h:stringslite_TrimPrefix b a=some res):qb ZT (.fn 212) (kAi b a) [] (.str res) []:=by
 unfold stringslite_TrimPrefix at h
 refine Ub Tryz.func212 rfl rfl (m:=13) rfl (rs:=[.tmp 4]) rfl (l:=(kO b a [])) rfl ?_
 refine sh fol (kO b a []) ?_
 refine sq ?_
 obtain⟨f,c,h⟩:=bnd h
 refine sq (gr fol [2] (kO b a [(7,.bool f)]) (ac (cv (yD b a c)) az) ?_)
 refine ihB h (fun g h=>?_) (fun g h=>?_)
 ·obtain⟨e,d,h⟩:=bnd h
  refine sq (gr fol [3] (kA4 e) (ac (hs (.done (.opt (qY ZT 9 (.str b) (some (.i (a.length:Int))) none none)) (.str e)) (zX st9 (some (a.length:Int)) none d)) az) ?_)
  refine Goes.ret ?_
  obtain rfl:=si h
  exact(gw2 [.str e] (Ua tS))
 refine Goes.skip ?_
 refine sh fol (kA4 b) ?_
 refine Goes.ret ?_
 obtain rfl:=si h
 exact(gw2 [.str b] (Ua tS))
def strings_TrimPrefix (b:Str) (a:Str):Option Str:=
 (stringslite_TrimPrefix b a).bind fun c=>
 some c
theorem qbt (b:Str) (a:Str) {res:Str} (h:strings_TrimPrefix b a=some res):qb ZT (.fn 143) (kAi b a) [] (.str res) []:=by
 unfold strings_TrimPrefix at h
 refine Ub Tryz.func143 rfl rfl (m:=8) rfl (rs:=[.tmp 4]) rfl (l:=(kO b a [])) rfl ?_
 refine sh fol (kO b a []) ?_
 obtain⟨d,c,h⟩:=bnd h
 refine sq (gr fol [2] (kA4 d) (ac (cv (qcD b a c)) az) ?_)
 refine Goes.ret ?_
 obtain rfl:=si h
 exact(gw2 [.str d] (Ua tS))
def bits_Mul64 (a:Int) (y:Int):Option (Int×Int):=
 some (IntKind.wrap .u64 ((IntKind.wrap .u64 ((IntKind.wrap .u64 ((qx .u64 a 32)*(qx .u64 y 32)))+(qx .u64 (IntKind.wrap .u64 ((IntKind.wrap .u64 ((qx .u64 a 32)*(qB .u64 y 4294967295)))+(qx .u64 (IntKind.wrap .u64 ((qB .u64 a 4294967295)*(qB .u64 y 4294967295))) 32))) 32)))+(qx .u64 (IntKind.wrap .u64 ((qB .u64 (IntKind.wrap .u64 ((IntKind.wrap .u64 ((qx .u64 a 32)*(qB .u64 y 4294967295)))+(qx .u64 (IntKind.wrap .u64 ((qB .u64 a 4294967295)*(qB .u64 y 4294967295))) 32))) 4294967295)+(IntKind.wrap .u64 ((qB .u64 a 4294967295)*(qx .u64 y 32))))) 32)),IntKind.wrap .u64 (a*y))
theorem qbE (a:Int) (y:Int) {res:Int×Int} (h:bits_Mul64 a y=some res):qb ZT (.fn 215) (kBO a y) [] (.tuple (kBO res.1 res.2)) []:=by
 unfold bits_Mul64 at h
 refine Ub Tryz.func215 rfl rfl (m:=51) rfl (rs:=[.tmp 4,.tmp 5]) rfl (l:=(kY a y [])) rfl ?_
 refine sh fol (kY a y []) ?_
 refine sh fol (kY a y (kAL (qB .u64 a 4294967295) [])) ?_
 refine sh fol (kY a y (kAL (qB .u64 a 4294967295) (kAf (qx .u64 a 32) []))) ?_
 refine sh fol (kY a y (kAL (qB .u64 a 4294967295) (kAA (qx .u64 a 32) (qB .u64 y 4294967295) []))) ?_
 refine sh fol (kY a y (kAL (qB .u64 a 4294967295) (kAA (qx .u64 a 32) (qB .u64 y 4294967295) [(9,.int .u64 (qx .u64 y 32))]))) ?_
 refine sh fol (kY a y (kAL (qB .u64 a 4294967295) (kAA (qx .u64 a 32) (qB .u64 y 4294967295) [(9,.int .u64 (qx .u64 y 32)),(10,.int .u64 (IntKind.wrap .u64 ((qB .u64 a 4294967295)*(qB .u64 y 4294967295))))]))) ?_
 refine sh fol (kY a y (kAL (qB .u64 a 4294967295) (kAf (qx .u64 a 32) [(9,.int .u64 (qx .u64 y 32)),(11,.int .u64 (IntKind.wrap .u64 ((IntKind.wrap .u64 ((qx .u64 a 32)*(qB .u64 y 4294967295)))+(qx .u64 (IntKind.wrap .u64 ((qB .u64 a 4294967295)*(qB .u64 y 4294967295))) 32))))]))) ?_
 refine sh fol (kY a y (kAL (qB .u64 a 4294967295) (kAf (qx .u64 a 32) ((9,.int .u64 (qx .u64 y 32))::(kZ (IntKind.wrap .u64 ((IntKind.wrap .u64 ((qx .u64 a 32)*(qB .u64 y 4294967295)))+(qx .u64 (IntKind.wrap .u64 ((qB .u64 a 4294967295)*(qB .u64 y 4294967295))) 32))) (qB .u64 (IntKind.wrap .u64 ((IntKind.wrap .u64 ((qx .u64 a 32)*(qB .u64 y 4294967295)))+(qx .u64 (IntKind.wrap .u64 ((qB .u64 a 4294967295)*(qB .u64 y 4294967295))) 32))) 4294967295) []))))) ?_
 refine sh fol (kY a y (kAL (qB .u64 a 4294967295) (kAf (qx .u64 a 32) [(9,.int .u64 (qx .u64 y 32)),(12,.int .u64 (qB .u64 (IntKind.wrap .u64 ((IntKind.wrap .u64 ((qx .u64 a 32)*(qB .u64 y 4294967295)))+(qx .u64 (IntKind.wrap .u64 ((qB .u64 a 4294967295)*(qB .u64 y 4294967295))) 32))) 4294967295)),(13,.int .u64 (qx .u64 (IntKind.wrap .u64 ((IntKind.wrap .u64 ((qx .u64 a 32)*(qB .u64 y 4294967295)))+(qx .u64 (IntKind.wrap .u64 ((qB .u64 a 4294967295)*(qB .u64 y 4294967295))) 32))) 32))]))) ?_
 refine sh fol (kY a y (kAf (qx .u64 a 32) [(9,.int .u64 (qx .u64 y 32)),(12,.int .u64 (IntKind.wrap .u64 ((qB .u64 (IntKind.wrap .u64 ((IntKind.wrap .u64 ((qx .u64 a 32)*(qB .u64 y 4294967295)))+(qx .u64 (IntKind.wrap .u64 ((qB .u64 a 4294967295)*(qB .u64 y 4294967295))) 32))) 4294967295)+(IntKind.wrap .u64 ((qB .u64 a 4294967295)*(qx .u64 y 32)))))),(13,.int .u64 (qx .u64 (IntKind.wrap .u64 ((IntKind.wrap .u64 ((qx .u64 a 32)*(qB .u64 y 4294967295)))+(qx .u64 (IntKind.wrap .u64 ((qB .u64 a 4294967295)*(qB .u64 y 4294967295))) 32))) 32))])) ?_
 refine sh fol (kY a y [(4,.int .u64 (IntKind.wrap .u64 ((IntKind.wrap .u64 ((IntKind.wrap .u64 ((qx .u64 a 32)*(qx .u64 y 32)))+(qx .u64 (IntKind.wrap .u64 ((IntKind.wrap .u64 ((qx .u64 a 32)*(qB .u64 y 4294967295)))+(qx .u64 (IntKind.wrap .u64 ((qB .u64 a 4294967295)*(qB .u64 y 4294967295))) 32))) 32)))+(qx .u64 (IntKind.wrap .u64 ((qB .u64 (IntKind.wrap .u64 ((IntKind.wrap .u64 ((qx .u64 a 32)*(qB .u64 y 4294967295)))+(qx .u64 (IntKind.wrap .u64 ((qB .u64 a 4294967295)*(qB .u64 y 4294967295))) 32))) 4294967295)+(IntKind.wrap .u64 ((qB .u64 a 4294967295)*(qx .u64 y 32))))) 32))))]) ?_
 refine sh fol [(4,.int .u64 (IntKind.wrap .u64 ((IntKind.wrap .u64 ((IntKind.wrap .u64 ((qx .u64 a 32)*(qx .u64 y 32)))+(qx .u64 (IntKind.wrap .u64 ((IntKind.wrap .u64 ((qx .u64 a 32)*(qB .u64 y 4294967295)))+(qx .u64 (IntKind.wrap .u64 ((qB .u64 a 4294967295)*(qB .u64 y 4294967295))) 32))) 32)))+(qx .u64 (IntKind.wrap .u64 ((qB .u64 (IntKind.wrap .u64 ((IntKind.wrap .u64 ((qx .u64 a 32)*(qB .u64 y 4294967295)))+(qx .u64 (IntKind.wrap .u64 ((qB .u64 a 4294967295)*(qB .u64 y 4294967295))) 32))) 4294967295)+(IntKind.wrap .u64 ((qB .u64 a 4294967295)*(qx .u64 y 32))))) 32)))),(5,.int .u64 (IntKind.wrap .u64 (a*y)))] ?_
 refine Goes.ret ?_
 obtain rfl:=si h
 exact(gw2 (kBO (IntKind.wrap .u64 ((IntKind.wrap .u64 ((IntKind.wrap .u64 ((qx .u64 a 32)*(qx .u64 y 32)))+(qx .u64 (IntKind.wrap .u64 ((IntKind.wrap .u64 ((qx .u64 a 32)*(qB .u64 y 4294967295)))+(qx .u64 (IntKind.wrap .u64 ((qB .u64 a 4294967295)*(qB .u64 y 4294967295))) 32))) 32)))+(qx .u64 (IntKind.wrap .u64 ((qB .u64 (IntKind.wrap .u64 ((IntKind.wrap .u64 ((qx .u64 a 32)*(qB .u64 y 4294967295)))+(qx .u64 (IntKind.wrap .u64 ((qB .u64 a 4294967295)*(qB .u64 y 4294967295))) 32))) 4294967295)+(IntKind.wrap .u64 ((qB .u64 a 4294967295)*(qx .u64 y 32))))) 32))) (IntKind.wrap .u64 (a*y))) (FzW.tuple (qc.cons (Ua tI) (qc.cons (Ua tI) qc.nil))))
def jD (b:List Int) (l:Int) (g:Int):Nat->(List Int)->Int->Int->Option ((List Int)×Int)
 |0,_,_,_=>none
 |K+1,h,a,c=>
  if a<(b.length:Int)then
  (idx b a).bind fun i=>
  (bits_Mul64 l i).bind fun d=>
  (idx h (w64 (g+a))).bind fun j=>
  (qaa d.2 j 0).bind fun e=>
  (qaa e.1 c 0).bind fun f=>
  (put h (w64 (g+a)) f.1).bind fun k=>
  jD b l g K k (w64 (a+1)) (IntKind.wrap .u64 ((IntKind.wrap .u64 (d.1+e.2))+f.2))
  else
  some (h,c)
def jE (N:Nat) (a:List Int) (b:List Int):Nat->(List Int)->Int->Option (List Int)
 |0,_,_=>none
 |K+1,g,c=>
  if c<(a.length:Int)then
  (idx a c).bind fun h=>
  (jD b h c N g 0 0).bind fun(d,e)=>
  (idx d (w64 (c+(b.length:Int)))).bind fun i=>
  (put d (w64 (c+(b.length:Int))) e).bind fun f=>
  jE N a b K f (w64 (c+1))
  else
  some g
def qay (N:Nat) (a:List Int) (b:List Int):Option (List Int):=
 (mk 8 (w64 ((a.length:Int)+(b.length:Int))) 0).bind fun d=>
 (jE N a b N d 0).bind fun e=>
 (yR N e).bind fun c=>
 some c
theorem qgK (N:Nat) (a:List Int) (b:List Int) {res:List Int} (h:qay N a b=some res):qb ZT (.fn 217) [vl (qa .u64) a,vl (qa .u64) b] [] (vl (qa .u64) res) []:=by
 unfold qay at h
 refine Ub Tryz.func217 rfl rfl (m:=80) rfl (rs:=[.tmp 4]) rfl (l:=[(0,vl (qa .u64) a),(1,vl (qa .u64) b)]) rfl ?_
 refine sh fol [(0,vl (qa .u64) a),(1,vl (qa .u64) b)] ?_
 obtain⟨L,O,h⟩:=bnd h
 refine sq (gq fol [5] ((0,vl (qa .u64) a)::(1,vl (qa .u64) b)::(kC L [])) [.cells (L.flatMap (qa .u64).c)] (ac (hs (.run [] (jf ZT 93 (.i (w64 ((a.length:Int)+(b.length:Int)))) (.i (w64 ((a.length:Int)+(b.length:Int))))) [] (.slice 0 0 L.length L.length 1) [.cells (L.flatMap (qa .u64).c)] false) (qcX zS (E:=(qa .u64)) (z:=0) rfl (by kernel_rfl) O rfl)) az) ?_)
 refine sq ?_
 refine sh fol ((1,vl (qa .u64) b)::(kC L [(20,vl (qa .u64) a),(21,.i (a.length:Int)),(22,.i 0)])) ?_
 refine Goes.block ?_
 obtain⟨Y,g5,h⟩:=bnd h
 refine Goes.imp (Q:=fun x s'=>(x= .exit 0/\ ∃u,u=Y/\Sub s' (ofG 80 (kC u []),[.cells (u.flatMap (qa .u64).c)]))) ?_ ?_
 ·refine Uc (fun M s=> ∃(F:List Int) (d:Int),s=(ofG 80 ((1,vl (qa .u64) b)::(kC F ((20,vl (qa .u64) a)::(kAE (a.length:Int) d [])))),[.cells (F.flatMap (qa .u64).c)])/\jE N a b M F d=some Y) ?_ (m:=N) ⟨_,_,rfl,g5⟩
  rintro M s ⟨F,d,rfl,g5⟩
  cases M with
  |zero=>simp only[jE]at g5;cases g5
  |succ M=>
   rw[jE]at g5
   refine sh fol ((1,vl (qa .u64) b)::(kC F ((20,vl (qa .u64) a)::(kAE (a.length:Int) d [(23,.bool (decide (d<(a.length:Int))))])))) ?_
   refine sq ?_
   refine ihD g5 (fun Z g5=>?_) (fun Z g5=>?_)
   ·refine Goes.skip ?_
    refine sq (Goes.block ?_)
    obtain⟨q,G,g5⟩:=bnd g5
    refine sq (gr fol [1,2] ((1,vl (qa .u64) b)::(kC F ((6,.i d)::(kAf q ((20,vl (qa .u64) a)::(kAE (a.length:Int) d [])))))) (ac (iv zS (qa .u64) G) (ac (lv 0 z8 (qa .u64) G rfl) az)) ?_)
    refine sh fol ((1,vl (qa .u64) b)::(kC F ((6,.i d)::(kAf q (kBQ ((20,vl (qa .u64) a)::(kAE (a.length:Int) d []))))))) ?_
    refine sq ?_
    refine sh fol ((1,vl (qa .u64) b)::(kC F ((6,.i d)::(kAf q (kBQ ((20,vl (qa .u64) a)::(kAE (a.length:Int) d [(27,vl (qa .u64) b),(28,.i (b.length:Int)),(29,.i 0)]))))))) ?_
    refine Goes.block ?_
    obtain⟨P,g13,g5⟩:=bnd g5
    refine Goes.imp (Q:=fun x s'=>(x= .exit 2/\ ∃k v,(k,v)=P/\Sub s' (ofG 80 ((1,vl (qa .u64) b)::(kC k ((6,.i d)::(8,.int .u64 v)::(20,vl (qa .u64) a)::(kAE (a.length:Int) d [])))),[.cells (k.flatMap (qa .u64).c)]))) ?_ ?_
    ·refine Uc (fun M s=> ∃(j:List Int) (e:Int) (n:Int),s=(ofG 80 ((1,vl (qa .u64) b)::(kC j ((6,.i d)::(kAA q n ((20,vl (qa .u64) a)::(kAE (a.length:Int) d ((27,vl (qa .u64) b)::(kAr (b.length:Int) e)))))))),[.cells (j.flatMap (qa .u64).c)])/\jD b q d M j e n=some P) ?_ (m:=N) ⟨_,_,_,rfl,g13⟩
     rintro M s ⟨j,e,n,rfl,g13⟩
     cases M with
     |zero=>simp only[jD]at g13;cases g13
     |succ M=>
      rw[jD]at g13
      refine sh fol ((1,vl (qa .u64) b)::(kC j ((6,.i d)::(kAA q n ((20,vl (qa .u64) a)::(kAE (a.length:Int) d [(27,vl (qa .u64) b),(28,.i (b.length:Int)),(29,.i e),(30,.bool (decide (e<(b.length:Int))))])))))) ?_
      refine sq ?_
      refine ihD g13 (fun X g13=>?_) (fun X g13=>?_)
      ·refine Goes.skip ?_
       refine sq (Goes.block ?_)
       obtain⟨U,w,g13⟩:=bnd g13
       refine sq (gr fol [1,2] ((1,vl (qa .u64) b)::(kC j ((6,.i d)::(kAA q n ((9,.i e)::(10,.int .u64 U)::(20,vl (qa .u64) a)::(kAE (a.length:Int) d ((27,vl (qa .u64) b)::(kAr (b.length:Int) e)))))))) (ac (iv zS (qa .u64) w) (ac (lv 0 z8 (qa .u64) w rfl) az)) ?_)
       obtain⟨f,H,g13⟩:=bnd g13
       refine sq (gr fol [2] ((1,vl (qa .u64) b)::(kC j ((6,.i d)::(kAA q n ((9,.i e)::(kZ f.1 f.2 ((20,vl (qa .u64) a)::(kAE (a.length:Int) d ((27,vl (qa .u64) b)::(kAr (b.length:Int) e)))))))))) (ac (cv (qbE q U H)) az) ?_)
       refine sh fol ((1,vl (qa .u64) b)::(kC j ((6,.i d)::(kAA q n ((9,.i e)::(kZ f.1 f.2 ((20,vl (qa .u64) a)::(kAE (a.length:Int) d ((27,vl (qa .u64) b)::(kAr (b.length:Int) e)))))))))) ?_
       obtain⟨V,o,g13⟩:=bnd g13
       obtain⟨g,I,g13⟩:=bnd g13
       refine sq (gr fol [5,6,7] ((1,vl (qa .u64) b)::(kC j ((6,.i d)::(kAA q n ((9,.i e)::(kZ f.1 g.1 ((13,.int .u64 g.2)::(20,vl (qa .u64) a)::(kAE (a.length:Int) d ((27,vl (qa .u64) b)::(kAr (b.length:Int) e)))))))))) (ac (hs (.done (.opt (qj ZT 93 (.slice 0 0 j.length j.length 1) (.i (w64 (d+e))))) (.ptr 0 ((w64 (d+e):Int).toNat*1+0))) (qao zS o)) (ac (hs (.run [0] (jo ZT 245 (.ptr 0 ((w64 (d+e):Int).toNat*1+0))) [.cells (j.flatMap (qa .u64).c)] (.int .u64 V) [.cells (j.flatMap (qa .u64).c)] false) (qcC z8 (E:=(qa .u64)) (l:=j) rfl rfl o (nl rfl) rfl)) (ac (cv (qch f.2 V 0 I)) az))) ?_)
       refine sh fol ((1,vl (qa .u64) b)::(kC j ((6,.i d)::(kAA q n ((9,.i e)::(kZ (IntKind.wrap .u64 (f.1+g.2)) g.1 ((20,vl (qa .u64) a)::(kAE (a.length:Int) d ((27,vl (qa .u64) b)::(kAr (b.length:Int) e)))))))))) ?_
       obtain⟨p,J,g13⟩:=bnd g13
       refine sq (gr fol [2] ((1,vl (qa .u64) b)::(kC j ((6,.i d)::(kAf q ((9,.i e)::(kZ (IntKind.wrap .u64 (f.1+g.2)) p.1 ((13,.int .u64 p.2)::(20,vl (qa .u64) a)::(kAE (a.length:Int) d ((27,vl (qa .u64) b)::(kAr (b.length:Int) e)))))))))) (ac (cv (qch g.1 n 0 J)) az) ?_)
       obtain⟨r,A,g13⟩:=bnd g13
       refine gq fol [8,9] ((1,vl (qa .u64) b)::(kC j ((6,.i d)::(kAA q (IntKind.wrap .u64 ((IntKind.wrap .u64 (f.1+g.2))+p.2)) ((20,vl (qa .u64) a)::(kAE (a.length:Int) d ((27,vl (qa .u64) b)::(kAr (b.length:Int) e)))))))) [.cells (r.flatMap (qa .u64).c)] (ac (hs (.done (.opt (qj ZT 93 (.slice 0 0 j.length j.length 1) (.i (w64 (d+e))))) (.ptr 0 ((w64 (d+e):Int).toNat*1+0))) (qao zS o)) (ac (hs (.run [0] (qw ZT 245 (.ptr 0 ((w64 (d+e):Int).toNat*1+0)) (.int .u64 p.1)) [.cells (j.flatMap (qa .u64).c)] .undef [.cells (r.flatMap (qa .u64).c)] true) (qae (E:=(qa .u64)) (l:=j) (y:=p.1) rfl (show _=some 1 by kernel_rfl) rfl o rfl rfl rfl rfl rfl A rfl)) az)) ?_
       refine Goes.sub (show Sub (ofG 80 ((1,vl (qa .u64) b)::(kC j ((6,.i d)::(kAA q (IntKind.wrap .u64 ((IntKind.wrap .u64 (f.1+g.2))+p.2)) ((20,vl (qa .u64) a)::(kAE (a.length:Int) d ((27,vl (qa .u64) b)::(kAr (b.length:Int) e)))))))),[.cells (r.flatMap (qa .u64).c)]) (ofG 80 ((1,vl (qa .u64) b)::(kC r ((6,.i d)::(kAA q (IntKind.wrap .u64 ((IntKind.wrap .u64 (f.1+g.2))+p.2)) ((20,vl (qa .u64) a)::(kAE (a.length:Int) d ((27,vl (qa .u64) b)::(kAr (b.length:Int) e)))))))),[.cells (r.flatMap (qa .u64).c)])from(Sub.norm [] [some 0] rfl rfl (.keep (.same (qf (qa .u64) _)) (.keep (.sliceE rfl (vI A)) (.keep (.same nI) (.keep (.same nI) (.keep (.same nI) (.keep (.same (qf (qa .u64) _)) (.keep (.same nI) (.keep (.same nI) (.keep (.same (qf (qa .u64) _)) (.keep (.same nI) (.keep (.same nI) .nil))))))))))) (.ks .nil))) ?_
       refine gh fol ((1,vl (qa .u64) b)::(kC r ((6,.i d)::(kAA q (IntKind.wrap .u64 ((IntKind.wrap .u64 (f.1+g.2))+p.2)) ((20,vl (qa .u64) a)::(kAE (a.length:Int) d ((27,vl (qa .u64) b)::(kAr (b.length:Int) (w64 (e+1)))))))))) ?_
       exact⟨M,(ofG 80 ((1,vl (qa .u64) b)::(kC r ((6,.i d)::(kAA q (IntKind.wrap .u64 ((IntKind.wrap .u64 (f.1+g.2))+p.2)) ((20,vl (qa .u64) a)::(kAE (a.length:Int) d ((27,vl (qa .u64) b)::(kAr (b.length:Int) (w64 (e+1)))))))))),[.cells (r.flatMap (qa .u64).c)]),Nat.lt_succ_self _,(Sub.refl _),_,_,_,rfl,g13⟩
      refine Goes.exit ?_
      obtain rfl:=si g13
      exact⟨rfl,_,_,rfl,(Sub.keep [1,5,6,8,20,21,22] rfl rfl)⟩
    rintro x s' ⟨rfl,k,v,rfl,hsub⟩
    try dsimp only at g5
    refine Goes.sub hsub ?_
    obtain⟨a0,B,g5⟩:=bnd g5
    obtain⟨t,C,g5⟩:=bnd g5
    refine gq fol [6,7] ((1,vl (qa .u64) b)::(kC k ((20,vl (qa .u64) a)::(kAE (a.length:Int) d [])))) [.cells (t.flatMap (qa .u64).c)] (ac (hs (.done (.opt (qj ZT 93 (.slice 0 0 k.length k.length 1) (.i (w64 (d+(b.length:Int)))))) (.ptr 0 ((w64 (d+(b.length:Int)):Int).toNat*1+0))) (qao zS B)) (ac (hs (.run [0] (qw ZT 245 (.ptr 0 ((w64 (d+(b.length:Int)):Int).toNat*1+0)) (.int .u64 v)) [.cells (k.flatMap (qa .u64).c)] .undef [.cells (t.flatMap (qa .u64).c)] true) (qae (E:=(qa .u64)) (l:=k) (y:=v) rfl (show _=some 1 by kernel_rfl) rfl B rfl rfl rfl rfl rfl C rfl)) az)) ?_
    refine Goes.sub (show Sub (ofG 80 ((1,vl (qa .u64) b)::(kC k ((20,vl (qa .u64) a)::(kAE (a.length:Int) d [])))),[.cells (t.flatMap (qa .u64).c)]) (ofG 80 ((1,vl (qa .u64) b)::(kC t ((20,vl (qa .u64) a)::(kAE (a.length:Int) d [])))),[.cells (t.flatMap (qa .u64).c)])from(Sub.norm [] [some 0] rfl rfl (.keep (.same (qf (qa .u64) _)) (.keep (.sliceE rfl (vI C)) (.keep (.same (qf (qa .u64) _)) (.keep (.same nI) (.keep (.same nI) .nil))))) (.ks .nil))) ?_
    refine gh fol ((1,vl (qa .u64) b)::(kC t ((20,vl (qa .u64) a)::(kAE (a.length:Int) (w64 (d+1)) [])))) ?_
    exact⟨M,(ofG 80 ((1,vl (qa .u64) b)::(kC t ((20,vl (qa .u64) a)::(kAE (a.length:Int) (w64 (d+1)) [])))),[.cells (t.flatMap (qa .u64).c)]),Nat.lt_succ_self _,(Sub.refl _),_,_,rfl,g5⟩
   refine Goes.exit ?_
   obtain rfl:=si g5
   exact⟨rfl,_,rfl,(Sub.keep [5] rfl rfl)⟩
 rintro x s' ⟨rfl,u,rfl,hsub⟩
 refine Goes.sub hsub ?_
 obtain⟨D,K,h⟩:=bnd h
 refine sq (gq fol [1] [(4,vl (qa .u64) D)] [.frozen (u.flatMap (qa .u64).c)] (ac (hs (.callF 225 [.slice 0 0 u.length u.length 1] [.cells (u.flatMap (qa .u64).c)] [0] [vl (qa .u64) u] (vl (qa .u64) D)) (yj (FzL.cons (Fz.sl (E:=(qa .u64)) rfl rfl (nl rfl)) FzL.nil) (xg N u K) (qy (qa .u64) _ (nl rfl)))) az) ?_)
 refine Goes.sub (show Sub (ofG 80 [(4,vl (qa .u64) D)],[.frozen (u.flatMap (qa .u64).c)]) (ofG 80 [(4,vl (qa .u64) D)],[])from(Sub.norm [] [] rfl rfl (.keep (.same (qf (qa .u64) _)) .nil) .nil)) ?_
 refine Goes.ret ?_
 obtain rfl:=si h
 exact(gw2 [vl (qa .u64) D] (Ua (qy (qa .u64) _ (nl rfl))))
def qK (N:Nat) (a:qm) (b:qm):Option qm:=
 (if a.w.isEmpty=true then
 some b.w.isEmpty
 else
 some false:Option Bool).bind fun j=>
 ((if j=true then
 (qce a.s).bind fun k=>
 (qce b.s).bind fun l=>
 (bits_Mul64 k l).bind fun e=>
 (if e.1=0 then
 some (decide (e.2<=9223372036854775807))
 else
 some false:Option Bool).bind fun f=>
 if f=true then
 if(!((decide (a.s<0))==(decide (b.s<0))))=true then
 some (.inr (⟨w64 (0-(w64 e.2)),[]⟩:qm))
 else
 some (.inr (⟨w64 e.2,[]⟩:qm))
 else
 some (.inl ())
 else
 some (.inl ()):Option (Unit⊕qm))).bind (fun
 |(.inl ())=>
 (qL a).bind fun c=>
 (qL b).bind fun d=>
 (qay N c.2 d.2).bind fun g=>
 (j6 (!(c.1==d.1)) g).bind fun h=>
 some h
 |(.inr i)=>
 some i)
theorem zW (N:Nat) (a:qm) (b:qm) {res:qm} (h:qK N a b=some res):qb ZT (.fn 145) [.agg (nz1 a),.agg (nz1 b)] [] (.agg (nz1 res)) []:=by
 unfold qK at h
 refine Ub Tryz.func145 rfl rfl (m:=66) rfl (rs:=[.cell 4 95]) rfl (l:=[(0,.agg (nz1 a)),(1,.agg (nz1 b))]) rfl ?_
 refine sg fol (kF []) [.cells (nz1 a),.cells (nz1 b),bZ] ?_
 refine sq ?_
 refine sq ?_
 obtain⟨G,d,h⟩:=bnd h
 refine Goes.cut (s':=(ofG 66 (kF [(18,.bool G)]),[.cells (nz1 a),.cells (nz1 b),bZ])) ?_ ?_
 ·rcases wyB d with⟨y,d⟩|⟨y,d⟩
  ·obtain rfl:=si d
   exact tr fol [2,3,6] (kF [(18,.bool b.w.isEmpty)]) (ac (hs (.done (.opt (kL ZT .eql 93 (.tmp 12) (.const (.slice none 0 0)) (nvl (qa .u64) a.w) .nilslice)) (.bool a.w.isEmpty)) (qaL qaI)) (ac (gw y) (ac (hs (.done (.opt (kL ZT .eql 93 (.tmp 16) (.const (.slice none 0 0)) (nvl (qa .u64) b.w) .nilslice)) (.bool b.w.isEmpty)) (qaL qaI)) az)))
  obtain rfl:=si d
  exact tr fol [2,3] (kF [(18,.bool false)]) (ac (hs (.done (.opt (kL ZT .eql 93 (.tmp 12) (.const (.slice none 0 0)) (nvl (qa .u64) a.w) .nilslice)) (.bool a.w.isEmpty)) (qaL qaI)) (ac (gw y) az))
 obtain⟨D,g4,h⟩:=bnd h
 refine Goes.imp (Q:=fun x s'=>(x= .normal/\(.inl ())=D/\Sub s' (ofG 66 (kF []),[.cells (nz1 a),.cells (nz1 b),bZ]))\/(x= .ret/\ ∃F,(.inr F)=D/\yB ZT [.cell 4 95] (.agg (nz1 F)) .ret s')) ?_ ?_
 ·refine ihB g4 (fun H g4=>?_) (fun H g4=>?_)
  ·obtain⟨I,t,g4⟩:=bnd g4
   obtain⟨J,u,g4⟩:=bnd g4
   obtain⟨f,v,g4⟩:=bnd g4
   refine sq (gr fol [2,5,6] (kF ((5,.int .u64 f.1)::(kAL f.2 []))) (ac (cv (qel a.s t)) (ac (cv (qel b.s u)) (ac (cv (qbE I J v)) az))) ?_)
   refine sq ?_
   obtain⟨z,c,g4⟩:=bnd g4
   refine Goes.cut (s':=(ofG 66 (kF (kAL f.2 [(34,.bool z)])),[.cells (nz1 a),.cells (nz1 b),bZ])) ?_ ?_
   ·rcases wyD c with⟨k,c⟩|⟨k,c⟩
    ·obtain rfl:=si c
     exact tr fol [2] (kF (kAL f.2 [(34,.bool (decide (f.2<=9223372036854775807)))])) (ac (gw k) az)
    obtain rfl:=si c
    exact tr fol [2] (kF (kAL f.2 [(34,.bool false)])) (ac (gw k) az)
   refine ihB g4 (fun A g4=>?_) (fun A g4=>?_)
   ·refine sq ?_
    refine sh fol (kAR (kAL f.2 [(41,.bool (!((decide (a.s<0))==(decide (b.s<0)))))])) ?_
    refine ihB g4 (fun B g4=>?_) (fun B g4=>?_)
    ·refine sg fol (kAR []) (.cells (nz1 a):: .cells (nz1 b)::(kAy (w64 (0-(w64 f.2))))) ?_
     refine Goes.ret ?_
     obtain rfl:=si g4
     exact Or.inr (⟨rfl,_,rfl,(gw2 [.agg [.i (w64 (0-(w64 f.2))),.nilslice]] (FzW.agg (qc.cons (Ua tI) (qc.cons (FzW.nv0 (E:=(qa .u64))) qc.nil))))⟩)
    refine Goes.skip ?_
    refine sg fol (kAR []) (.cells (nz1 a):: .cells (nz1 b)::(kAy (w64 f.2))) ?_
    refine Goes.ret ?_
    obtain rfl:=si g4
    exact Or.inr (⟨rfl,_,rfl,(gw2 [.agg [.i (w64 f.2),.nilslice]] (FzW.agg (qc.cons (Ua tI) (qc.cons (FzW.nv0 (E:=(qa .u64))) qc.nil))))⟩)
   refine Goes.skip ?_
   obtain rfl:=si g4
   exact Or.inl (⟨rfl,rfl,(Sub.keep [2,3,4] rfl rfl)⟩)
  refine Goes.skip ?_
  obtain rfl:=si g4
  exact Or.inl (⟨rfl,rfl,(Sub.keep [2,3,4] rfl rfl)⟩)
 rintro x s' (⟨rfl,rfl,hsub⟩|⟨rfl,K,rfl,hret⟩)
 ·try dsimp only at h
  refine Goes.sub hsub ?_
  obtain⟨e,o,h⟩:=bnd h
  refine sq (gr fol [1] (kAc (kAR [(7,.bool e.1),(8,vl (qa .u64) e.2)])) (ac (cv (zP a o)) az) ?_)
  obtain⟨g,p,h⟩:=bnd h
  refine sq (gr fol [1] (kAR [(7,.bool e.1),(8,vl (qa .u64) e.2),(9,.bool g.1),(10,vl (qa .u64) g.2)]) (ac (cv (zP b p)) az) ?_)
  obtain⟨C,q,h⟩:=bnd h
  obtain⟨j,r,h⟩:=bnd h
  refine sq (gq fol [5,6,7] (kAR []) [.cells (nz1 a),.cells (nz1 b),.cells (nz1 j)] (ac (cv (qgK N e.2 g.2 q)) (ac (cv (qat (!(e.1==g.1)) C r)) (ac (hs (.run [2] (qw ZT 95 (.ptr 2 0) (.agg (nz1 j))) [.cells (nz1 a),.cells (nz1 b),bZ] .undef [.cells (nz1 a),.cells (nz1 b),.cells (nz1 j)] true) (kw (n:=2) (by kernel_rfl) rfl rfl rfl rfl (cac rfl (cac nvc can)) rfl)) az))) ?_)
  refine Goes.ret ?_
  obtain rfl:=si h
  exact(gw2 [.agg (nz1 j)] (FzW.agg (qc.cons (Ua tI) (qc.cons (Ua (qA (qa .u64) _ (nl rfl))) qc.nil))))
 try dsimp only at h
 obtain rfl:=si h
 exact hret
def vG (N:Nat):Nat->Int->(List Int)->Int->(List Int)->Int->Option (Int×(List Int))
 |0,_,_,_,_,_=>none
 |K+1,e,f,h,i,g=>
  if g>0 then
  ((((if(qB .i64 g 1)=1 then
  (qK N (⟨h,i⟩:qm) (⟨e,f⟩:qm)).bind fun a=>
  some (a.s,a.w)
  else
  some (h,i):Option (Int×(List Int)))).bind fun(b,c)=>
  if g>1 then
  (qK N (⟨e,f⟩:qm) (⟨e,f⟩:qm)).bind fun d=>
  some (d.s,d.w,b,c)
  else
  some (e,f,b,c):Option (Int×(List Int)×Int×(List Int)))).bind fun(j,k,l,m)=>
  vG N K j k l m (qx .i64 g 1)
  else
  some (h,i)
def qbJ (N:Nat) (a:qm) (k:Int):Option qm:=
 (qcx 1).bind fun b=>
 (vG N N a.s a.w b.s b.w k).bind fun(c,d)=>
 some (⟨c,d⟩:qm)
theorem qhg (N:Nat) (a:qm) (k:Int) {res:qm} (h:qbJ N a k=some res):qb ZT (.fn 146) [.agg (nz1 a),.i k] [] (.agg (nz1 res)) []:=by
 unfold qbJ at h
 refine Ub Tryz.func146 rfl rfl (m:=23) rfl (rs:=[.cell 4 95]) rfl (l:=[(0,.agg (nz1 a)),(1,.i k)]) rfl ?_
 refine sg fol ((1,.i k)::(kS [(4,.ptr 1 0)])) [.cells (nz1 a),bZ] ?_
 obtain⟨B,y,h⟩:=bnd h
 refine sq (gq fol [0,2] ((1,.i k)::(kS (kAU []))) [.cells (nz1 a),bZ,.cells (nz1 B)] (ac (cv (qbv 1 y)) (ac (hs (.run [2] (qw ZT 95 (.ptr 2 0) (.agg (nz1 B))) [.cells (nz1 a),bZ,bZ] .undef [.cells (nz1 a),bZ,.cells (nz1 B)] true) (kw (n:=2) (by kernel_rfl) rfl rfl rfl rfl (cac rfl (cac nvc can)) rfl)) az)) ?_)
 refine sq (Goes.block ?_)
 obtain⟨H,g9,h⟩:=bnd h
 refine Goes.imp (Q:=fun x s'=>(x= .exit 0/\ ∃g j,(g,j)=H/\Sub s' (ofG 23 (kX [(5,.ptr 1 0)]),[bZ,.cells (ni1 g j)]))) ?_ ?_
 ·refine Uc (fun M s=> ∃(e:Int) (f:List Int) (z:Int) (A:List Int) (b:Int),s=(ofG 23 ((1,.i b)::(kS (kAU []))),[.cells (ni1 e f),bZ,.cells (ni1 z A)])/\vG N M e f z A b=some H) ?_ (m:=N) ⟨_,_,_,_,_,rfl,g9⟩
  rintro M s ⟨e,f,z,A,b,rfl,g9⟩
  cases M with
  |zero=>simp only[vG]at g9;cases g9
  |succ M=>
   rw[vG]at g9
   refine sq ?_
   refine sh fol ((1,.i b)::(kS (kAU (kBI (decide (b>0)))))) ?_
   refine ihD g9 (fun C g9=>?_) (fun C g9=>?_)
   ·refine Goes.skip ?_
    refine sq ?_
    obtain⟨D,g15,g9⟩:=bnd g9
    refine Goes.imp (Q:=fun x s'=>(x= .normal/\ ∃o p q r,(o,p,q,r)=D/\Sub s' (ofG 23 ((1,.i b)::(kS (kAU []))),[.cells (ni1 o p),bZ,.cells (ni1 q r)]))) ?_ ?_
    ·refine Goes.block ?_
     refine sq ?_
     refine sh fol ((1,.i b)::(kS (kAU (kBM (decide ((qB .i64 b 1)=1)))))) ?_
     obtain⟨E,g18,g15⟩:=bnd g15
     refine Goes.imp (Q:=fun x s'=>(x= .normal/\ ∃c d,(c,d)=E/\Sub s' (ofG 23 ((1,.i b)::(kS (kAU []))),[.cells (ni1 e f),bZ,.cells (ni1 c d)]))) ?_ ?_
     ·refine ihD g18 (fun F g18=>?_) (fun F g18=>?_)
      ·obtain⟨t,u,g18⟩:=bnd g18
       refine gq fol [2,3] ((1,.i b)::(kS (kAU []))) [.cells (ni1 e f),bZ,.cells (nz1 t)] (ac (cv (zW N (⟨z,A⟩:qm) (⟨e,f⟩:qm) u)) (ac (hs (.run [2] (qw ZT 95 (.ptr 2 0) (.agg (nz1 t))) [.cells (ni1 e f),bZ,.cells (ni1 z A)] .undef [.cells (ni1 e f),bZ,.cells (nz1 t)] true) (kw (n:=2) (by kernel_rfl) rfl rfl rfl rfl (cac rfl (cac nvc can)) rfl)) az)) ?_
       obtain rfl:=si g18
       exact⟨rfl,_,_,rfl,(Sub.refl _)⟩
      refine Goes.skip ?_
      obtain rfl:=si g18
      exact⟨rfl,_,_,rfl,(Sub.keep [1,2,4,5] rfl rfl)⟩
     rintro x s' ⟨rfl,c,d,rfl,hsub⟩
     try dsimp only at g15
     refine Goes.sub hsub ?_
     refine sh fol ((1,.i b)::(kS (kAU [(18,.bool (decide (b>1)))]))) ?_
     refine ihD g15 (fun G g15=>?_) (fun G g15=>?_)
     ·obtain⟨v,w,g15⟩:=bnd g15
      refine gq fol [2,3] ((1,.i b)::(kS (kAU []))) [.cells (nz1 v),bZ,.cells (ni1 c d)] (ac (cv (zW N (⟨e,f⟩:qm) (⟨e,f⟩:qm) w)) (ac (hs (.run [0] (qw ZT 95 (.ptr 0 0) (.agg (nz1 v))) [.cells (ni1 e f),bZ,.cells (ni1 c d)] .undef [.cells (nz1 v),bZ,.cells (ni1 c d)] true) (kw (n:=2) (by kernel_rfl) rfl rfl rfl rfl (cac rfl (cac nvc can)) rfl)) az)) ?_
      obtain rfl:=si g15
      exact⟨rfl,_,_,_,_,rfl,(Sub.refl _)⟩
     refine Goes.skip ?_
     obtain rfl:=si g15
     exact⟨rfl,_,_,_,_,rfl,(Sub.keep [1,2,4,5] rfl rfl)⟩
    rintro x s' ⟨rfl,o,p,q,r,rfl,hsub⟩
    try dsimp only at g9
    refine Goes.sub hsub ?_
    refine gh fol ((1,.i (qx .i64 b 1))::(kS (kAU []))) ?_
    exact⟨M,(ofG 23 ((1,.i (qx .i64 b 1))::(kS (kAU []))),[.cells (ni1 o p),bZ,.cells (ni1 q r)]),Nat.lt_succ_self _,(Sub.refl _),_,_,_,_,_,rfl,g9⟩
   refine Goes.exit ?_
   obtain rfl:=si g9
   exact⟨rfl,_,_,rfl,(Sub.norm [] [some 1,some 2] rfl rfl (.drop (.drop (.kp (.kp .nil)))) (.kb rfl (.same sn) (.kb rfl (.same sn) .nil)))⟩
 rintro x s' ⟨rfl,g,j,rfl,hsub⟩
 try dsimp only at h
 refine Goes.sub hsub ?_
 refine sq (gq fol [1] (kX []) [.cells (ni1 g j),.cells (ni1 g j)] (ac (hs (.run [0] (qw ZT 95 (.ptr 0 0) (.agg (ni1 g j))) [bZ,.cells (ni1 g j)] .undef [.cells (ni1 g j),.cells (ni1 g j)] true) (kw (n:=2) (by kernel_rfl) rfl rfl rfl rfl (cac rfl (cac nvc can)) rfl)) az) ?_)
 refine Goes.ret ?_
 obtain rfl:=si h
 exact(gw2 [.agg (ni1 g j)] (FzW.agg (qc.cons (Ua tI) (qc.cons (Ua (qA (qa .u64) _ (nl rfl))) qc.nil))))
def zU (a:qm):Option qm:=
 (if a.w.isEmpty=true then
 some (!decide (a.s=(-9223372036854775808)))
 else
 some false:Option Bool).bind fun c=>
 if c=true then
 some (⟨w64 (0-a.s),[]⟩:qm)
 else
 (qL a).bind fun b=>
 (j6 (!b.1) b.2).bind fun d=>
 some d
theorem vZ (a:qm) {res:qm} (h:zU a=some res):qb ZT (.fn 147) [.agg (nz1 a)] [] (.agg (nz1 res)) []:=by
 unfold zU at h
 refine Ub Tryz.func147 rfl rfl (m:=26) rfl (rs:=[.cell 2 95]) rfl (l:=[(0,.agg (nz1 a))]) rfl ?_
 refine sg fol (kAe kA9) [.cells (nz1 a),bZ] ?_
 refine sq ?_
 refine sq ?_
 obtain⟨j,b,h⟩:=bnd h
 refine Goes.cut (s':=(ofG 26 (kAe ((2,.ptr 1 0)::(kBB j))),[.cells (nz1 a),bZ])) ?_ ?_
 ·rcases wyB b with⟨g,b⟩|⟨g,b⟩
  ·obtain rfl:=si b
   exact tr fol [2,3] (kAe ((2,.ptr 1 0)::(kBB (!decide (a.s=(-9223372036854775808)))))) (ac (hs (.done (.opt (kL ZT .eql 93 (.tmp 6) (.const (.slice none 0 0)) (nvl (qa .u64) a.w) .nilslice)) (.bool a.w.isEmpty)) (qaL qaI)) (ac (gw g) az))
  obtain rfl:=si b
  exact tr fol [2,3] (kAe [(2,.ptr 1 0),(12,.bool false)]) (ac (hs (.done (.opt (kL ZT .eql 93 (.tmp 6) (.const (.slice none 0 0)) (nvl (qa .u64) a.w) .nilslice)) (.bool a.w.isEmpty)) (qaL qaI)) (ac (gw g) az))
 refine ihB h (fun k h=>?_) (fun k h=>?_)
 ·refine sg fol kA9 (.cells (nz1 a)::(kAy (w64 (0-a.s)))) ?_
  refine Goes.ret ?_
  obtain rfl:=si h
  exact(gw2 [.agg [.i (w64 (0-a.s)),.nilslice]] (FzW.agg (qc.cons (Ua tI) (qc.cons (FzW.nv0 (E:=(qa .u64))) qc.nil))))
 refine Goes.skip ?_
 obtain⟨e,c,h⟩:=bnd h
 refine sq (gr fol [1] ((2,.ptr 1 0)::(kBJ e.1 [(4,vl (qa .u64) e.2)])) (ac (cv (zP a c)) az) ?_)
 obtain⟨f,d,h⟩:=bnd h
 refine sq (gq fol [3,4] kA9 [.cells (nz1 a),.cells (nz1 f)] (ac (cv (qat (!e.1) e.2 d)) (ac (hs (.run [1] (qw ZT 95 (.ptr 1 0) (.agg (nz1 f))) [.cells (nz1 a),bZ] .undef [.cells (nz1 a),.cells (nz1 f)] true) (kw (n:=2) (by kernel_rfl) rfl rfl rfl rfl (cac rfl (cac nvc can)) rfl)) az)) ?_)
 refine Goes.ret ?_
 obtain rfl:=si h
 exact(gw2 [.agg (nz1 f)] (FzW.agg (qc.cons (Ua tI) (qc.cons (Ua (qA (qa .u64) _ (nl rfl))) qc.nil))))
def xh (N:Nat):Nat->Int->(List Int)->Str->Option (Int×(List Int))
 |0,_,_,_=>none
 |K+1,j,k,a=>
  if(a.length:Int)>0 then
  (cut a 0 (if(a.length:Int)<18 then(a.length:Int)else 18)).bind fun c=>
  (qkn c).bind fun d=>
  (qcx 10).bind fun e=>
  (qbJ N e (if(a.length:Int)<18 then(a.length:Int)else 18)).bind fun f=>
  (qK N (⟨j,k⟩:qm) f).bind fun g=>
  (qcx d.1).bind fun h=>
  (jF N g h).bind fun b=>
  (cut a (if(a.length:Int)<18 then(a.length:Int)else 18) (a.length:Int)).bind fun i=>
  xh N K b.s b.w i
  else
  some (j,k)
def qaf (N:Nat) (b:Str):Option qm:=
 (strings_HasPrefix b [45]).bind fun e=>
 (strings_TrimPrefix b [45]).bind fun f=>
 (xh N N 0 [] f).bind fun(c,d)=>
 if e=true then
 (zU (⟨c,d⟩:qm)).bind fun a=>
 some a
 else
 some (⟨c,d⟩:qm)
theorem qan (N:Nat) (g:Str) {res:qm} (h:qaf N g=some res):qb ZT (.fn 61) [.str g] [] (.agg (nz1 res)) []:=by
 unfold qaf at h
 refine Ub Tryz.func61 rfl rfl (m:=41) rfl (rs:=[.cell 2 95]) rfl (l:=(kAS g [])) rfl ?_
 refine sg fol (kAS g (kS [])) [bZ] ?_
 obtain⟨d,y,h⟩:=bnd h
 refine sq (gr fol [1] (kAS g (kS (kBJ d []))) (ac (cv (qeD g [45] y)) az) ?_)
 obtain⟨J,z,h⟩:=bnd h
 refine sq (gr fol [1] (kAS J (kS (kBJ d []))) (ac (cv (qbt g [45] z)) az) ?_)
 refine sg fol (kAS J (kS (kAu d []))) [bZ,bZ] ?_
 refine sq (Goes.block ?_)
 obtain⟨K,g8,h⟩:=bnd h
 refine Goes.imp (Q:=fun x s'=>(x= .exit 0/\ ∃b c,(b,c)=K/\Sub s' (ofG 41 (kS (kAu d [])),[bZ,.cells (ni1 b c)]))) ?_ ?_
 ·refine Uc (fun M s=> ∃(A:Int) (B:List Int) (a:Str),s=(ofG 41 (kAS a (kS (kAu d []))),[bZ,.cells (ni1 A B)])/\xh N M A B a=some K) ?_ (m:=N) ⟨_,_,_,rfl,g8⟩
  rintro M s ⟨A,B,a,rfl,g8⟩
  cases M with
  |zero=>simp only[xh]at g8;cases g8
  |succ M=>
   rw[xh]at g8
   refine sq ?_
   refine sh fol (kAS a (kS (kAu d (kBN (decide ((a.length:Int)>0)))))) ?_
   refine ihD g8 (fun L g8=>?_) (fun L g8=>?_)
   ·refine Goes.skip ?_
    refine Goes.block ?_
    refine sh fol (kAS a (kS (kAu d (kA6 (if(a.length:Int)<18 then(a.length:Int)else 18))))) ?_
    obtain⟨C,j,g8⟩:=bnd g8
    obtain⟨D,k,g8⟩:=bnd g8
    refine sq (gr fol [2,3] (kAS a (kS (kAu d [(5,.i (if(a.length:Int)<18 then(a.length:Int)else 18)),(6,.i D.1)]))) (ac (hs (.done (.opt (qY ZT 9 (.str a) none (some (.i (if(a.length:Int)<18 then(a.length:Int)else 18))) none)) (.str C)) (zX st9 none (some (if(a.length:Int)<18 then(a.length:Int)else 18)) j)) (ac (cv (qpt C k)) az)) ?_)
    obtain⟨E,o,g8⟩:=bnd g8
    obtain⟨F,p,g8⟩:=bnd g8
    obtain⟨G,q,g8⟩:=bnd g8
    obtain⟨H,r,g8⟩:=bnd g8
    obtain⟨e,t,g8⟩:=bnd g8
    refine sq (gq fol [1,3,4,6,7,8] (kAS a (kS (kAu d (kA6 (if(a.length:Int)<18 then(a.length:Int)else 18))))) [bZ,.cells (nz1 e)] (ac (cv (qbv 10 o)) (ac (cv (qhg N E (if(a.length:Int)<18 then(a.length:Int)else 18) p)) (ac (cv (zW N (⟨A,B⟩:qm) F q)) (ac (cv (qbv D.1 r)) (ac (cv (yY N G H t)) (ac (hs (.run [1] (qw ZT 95 (.ptr 1 0) (.agg (nz1 e))) [bZ,.cells (ni1 A B)] .undef [bZ,.cells (nz1 e)] true) (kw (n:=2) (by kernel_rfl) rfl rfl rfl rfl (cac rfl (cac nvc can)) rfl)) az)))))) ?_)
    obtain⟨u,v,g8⟩:=bnd g8
    refine gr fol [2] (kAS u (kS (kAu d []))) (ac (hs (.done (.opt (qY ZT 9 (.str a) (some (.i (if(a.length:Int)<18 then(a.length:Int)else 18))) none none)) (.str u)) (zX st9 (some (if(a.length:Int)<18 then(a.length:Int)else 18)) none v)) az) ?_
    exact⟨M,(ofG 41 (kAS u (kS (kAu d []))),[bZ,.cells (nz1 e)]),Nat.lt_succ_self _,(Sub.refl _),_,_,_,rfl,g8⟩
   refine Goes.exit ?_
   obtain rfl:=si g8
   exact⟨rfl,_,_,rfl,(Sub.keep [2,3,4] rfl rfl)⟩
 rintro x s' ⟨rfl,b,c,rfl,hsub⟩
 try dsimp only at h
 refine Goes.sub hsub ?_
 refine sq ?_
 refine sh fol (kS [(4,.ptr 1 0),(37,.bool d)]) ?_
 refine ihB h (fun I h=>?_) (fun I h=>?_)
 ·obtain⟨f,w,h⟩:=bnd h
  refine sq (gq fol [1,2] (kS []) [.cells (nz1 f),.cells (ni1 b c)] (ac (cv (vZ (⟨b,c⟩:qm) w)) (ac (hs (.run [0] (qw ZT 95 (.ptr 0 0) (.agg (nz1 f))) [bZ,.cells (ni1 b c)] .undef [.cells (nz1 f),.cells (ni1 b c)] true) (kw (n:=2) (by kernel_rfl) rfl rfl rfl rfl (cac rfl (cac nvc can)) rfl)) az)) ?_)
  refine Goes.ret ?_
  obtain rfl:=si h
  exact(gw2 [.agg (nz1 f)] (FzW.agg (qc.cons (Ua tI) (qc.cons (Ua (qA (qa .u64) _ (nl rfl))) qc.nil))))
 refine Goes.skip ?_
 refine sq (gq fol [1] (kS []) [.cells (ni1 b c),.cells (ni1 b c)] (ac (hs (.run [0] (qw ZT 95 (.ptr 0 0) (.agg (ni1 b c))) [bZ,.cells (ni1 b c)] .undef [.cells (ni1 b c),.cells (ni1 b c)] true) (kw (n:=2) (by kernel_rfl) rfl rfl rfl rfl (cac rfl (cac nvc can)) rfl)) az) ?_)
 refine Goes.ret ?_
 obtain rfl:=si h
 exact(gw2 [.agg (ni1 b c)] (FzW.agg (qc.cons (Ua tI) (qc.cons (Ua (qA (qa .u64) _ (nl rfl))) qc.nil))))
def bits_Len64 (a:Int):Option Int:=
 ((if a>=4294967296 then
 some (qx .u64 a 32,32)
 else
 some (a,0):Option (Int×Int))).bind fun(b,f)=>
 ((if b>=65536 then
 some (qx .u64 b 16,w64 (f+16))
 else
 some (b,f):Option (Int×Int))).bind fun(c,g)=>
 ((if c>=256 then
 some (qx .u64 c 8,w64 (g+8))
 else
 some (c,g):Option (Int×Int))).bind fun(h,d)=>
 (idx ([0,1,2,2,3,3,3,3,4,4,4,4,4,4,4,4,5,5,5,5,5,5,5,5,5,5,5,5,5,5,5,5,6,6,6,6,6,6,6,6,6,6,6,6,6,6,6,6,6,6,6,6,6,6,6,6,6,6,6,6,6,6,6,6,7,7,7,7,7,7,7,7,7,7,7,7,7,7,7,7,7,7,7,7,7,7,7,7,7,7,7,7,7,7,7,7,7,7,7,7,7,7,7,7,7,7,7,7,7,7,7,7,7,7,7,7,7,7,7,7,7,7,7,7,7,7,7,7,8,8,8,8,8,8,8,8,8,8,8,8,8,8,8,8,8,8,8,8,8,8,8,8,8,8,8,8,8,8,8,8,8,8,8,8,8,8,8,8,8,8,8,8,8,8,8,8,8,8,8,8,8,8,8,8,8,8,8,8,8,8,8,8,8,8,8,8,8,8,8,8,8,8,8,8,8,8,8,8,8,8,8,8,8,8,8,8,8,8,8,8,8,8,8,8,8,8,8,8,8,8,8,8,8,8,8,8,8,8,8,8,8,8,8,8,8,8,8,8,8,8,8,8,8,8,8,8]:Str) (IntKind.wrap .u8 h)).bind fun e=>
 some (w64 (d+(w64 (e.toNat:Int))))
theorem qfd (b:Int) {res:Int} (h:bits_Len64 b=some res):qb ZT (.fn 243) [.int .u64 b] [] (.i res) []:=by
 unfold bits_Len64 at h
 refine Ub Tryz.func243 rfl rfl (m:=25) rfl (rs:=[.tmp 2]) rfl (l:=[(0,.int .u64 b)]) rfl ?_
 refine sh fol [(0,.int .u64 b),(2,.i 0)] ?_
 refine sq ?_
 refine sh fol ((0,.int .u64 b)::(2,.i 0)::(kAs (decide (b>=4294967296)))) ?_
 obtain⟨p,g3,h⟩:=bnd h
 refine Goes.imp (Q:=fun x s'=>(x= .normal/\ ∃c g,(c,g)=p/\Sub s' (ofG 25 (kA8 c g []),[]))) ?_ ?_
 ·refine ihD g3 (fun q g3=>?_) (fun q g3=>?_)
  ·refine sh fol [(0,.int .u64 (qx .u64 b 32))] ?_
   refine gh fol [(0,.int .u64 (qx .u64 b 32)),(2,.i 32)] ?_
   obtain rfl:=si g3
   exact⟨rfl,_,_,rfl,(Sub.refl _)⟩
  refine Goes.skip ?_
  obtain rfl:=si g3
  exact⟨rfl,_,_,rfl,(Sub.keep [0,2] rfl rfl)⟩
 rintro x s' ⟨rfl,c,g,rfl,hsub⟩
 try dsimp only at h
 refine Goes.sub hsub ?_
 refine sq ?_
 refine sh fol (kA8 c g (kBI (decide (c>=65536)))) ?_
 obtain⟨r,g7,h⟩:=bnd h
 refine Goes.imp (Q:=fun x s'=>(x= .normal/\ ∃d j,(d,j)=r/\Sub s' (ofG 25 (kA8 d j []),[]))) ?_ ?_
 ·refine ihD g7 (fun s g7=>?_) (fun s g7=>?_)
  ·refine sh fol (kA8 (qx .u64 c 16) g []) ?_
   refine gh fol (kA8 (qx .u64 c 16) (w64 (g+16)) []) ?_
   obtain rfl:=si g7
   exact⟨rfl,_,_,rfl,(Sub.refl _)⟩
  refine Goes.skip ?_
  obtain rfl:=si g7
  exact⟨rfl,_,_,rfl,(Sub.keep [0,2] rfl rfl)⟩
 rintro x s' ⟨rfl,d,j,rfl,hsub⟩
 try dsimp only at h
 refine Goes.sub hsub ?_
 refine sq ?_
 refine sh fol (kA8 d j [(14,.bool (decide (d>=256)))]) ?_
 obtain⟨n,g11,h⟩:=bnd h
 refine Goes.imp (Q:=fun x s'=>(x= .normal/\ ∃k a,(k,a)=n/\Sub s' (ofG 25 (kA8 k a []),[]))) ?_ ?_
 ·refine ihD g11 (fun o g11=>?_) (fun o g11=>?_)
  ·refine sh fol (kA8 (qx .u64 d 8) j []) ?_
   refine gh fol (kA8 (qx .u64 d 8) (w64 (j+8)) []) ?_
   obtain rfl:=si g11
   exact⟨rfl,_,_,rfl,(Sub.refl _)⟩
  refine Goes.skip ?_
  obtain rfl:=si g11
  exact⟨rfl,_,_,rfl,(Sub.keep [0,2] rfl rfl)⟩
 rintro x s' ⟨rfl,k,a,rfl,hsub⟩
 try dsimp only at h
 refine Goes.sub hsub ?_
 obtain⟨e,f,h⟩:=bnd h
 refine sq (gr fol [3] [(2,.i (w64 (a+(w64 (e.toNat:Int)))))] (ac (hs (.done (.opt (yl ZT 9 (.str [0,1,2,2,3,3,3,3,4,4,4,4,4,4,4,4,5,5,5,5,5,5,5,5,5,5,5,5,5,5,5,5,6,6,6,6,6,6,6,6,6,6,6,6,6,6,6,6,6,6,6,6,6,6,6,6,6,6,6,6,6,6,6,6,7,7,7,7,7,7,7,7,7,7,7,7,7,7,7,7,7,7,7,7,7,7,7,7,7,7,7,7,7,7,7,7,7,7,7,7,7,7,7,7,7,7,7,7,7,7,7,7,7,7,7,7,7,7,7,7,7,7,7,7,7,7,7,7,8,8,8,8,8,8,8,8,8,8,8,8,8,8,8,8,8,8,8,8,8,8,8,8,8,8,8,8,8,8,8,8,8,8,8,8,8,8,8,8,8,8,8,8,8,8,8,8,8,8,8,8,8,8,8,8,8,8,8,8,8,8,8,8,8,8,8,8,8,8,8,8,8,8,8,8,8,8,8,8,8,8,8,8,8,8,8,8,8,8,8,8,8,8,8,8,8,8,8,8,8,8,8,8,8,8,8,8,8,8,8,8,8,8,8,8,8,8,8,8,8,8,8,8,8,8,8,8]) (.int .u8 (IntKind.wrap .u8 k)))) (.int .u8 (e.toNat:Int))) (qaJ st9 f)) az) ?_)
 refine Goes.ret ?_
 obtain rfl:=si h
 exact(gw2 [.i (w64 (a+(w64 (e.toNat:Int))))] (Ua tI))
def qbc (a:qm):Option Int:=
 (qL a).bind fun b=>
 if(b.2.length:Int)=0 then
 some 0
 else
 (idx b.2 (w64 ((b.2.length:Int)-1))).bind fun c=>
 (bits_Len64 c).bind fun d=>
 some (w64 ((w64 (64*(w64 ((b.2.length:Int)-1))))+d))
theorem qd8 (a:qm) {res:Int} (h:qbc a=some res):qb ZT (.fn 200) [.agg (nz1 a)] [] (.i res) []:=by
 unfold qbc at h
 refine Ub Tryz.func200 rfl rfl (m:=25) rfl (rs:=[.tmp 2]) rfl (l:=[(0,.agg (nz1 a))]) rfl ?_
 refine sg fol (kAe []) [.cells (nz1 a)] ?_
 obtain⟨c,d,h⟩:=bnd h
 refine sq (gr fol [1] [(4,vl (qa .u64) c.2)] (ac (cv (zP a d)) az) ?_)
 refine sq ?_
 refine sh fol ((4,vl (qa .u64) c.2)::(kBB (decide ((c.2.length:Int)=0)))) ?_
 refine ihD h (fun g h=>?_) (fun g h=>?_)
 ·refine sh fol [(2,.i 0)] ?_
  refine Goes.ret ?_
  obtain rfl:=si h
  exact(gw2 [.i 0] (Ua tI))
 refine Goes.skip ?_
 obtain⟨j,b,h⟩:=bnd h
 obtain⟨f,e,h⟩:=bnd h
 refine sq (gr fol [8,9,10] [(2,.i (w64 ((w64 (64*(w64 ((c.2.length:Int)-1))))+f)))] (ac (iv zS (qa .u64) b) (ac (lv 0 z8 (qa .u64) b rfl) (ac (cv (qfd j e)) az))) ?_)
 refine Goes.ret ?_
 obtain rfl:=si h
 exact(gw2 [.i (w64 ((w64 (64*(w64 ((c.2.length:Int)-1))))+f))] (Ua tI))
def bits_LeadingZeros64 (a:Int):Option Int:=
 (bits_Len64 a).bind fun b=>
 some (w64 (64-b))
theorem qbp (a:Int) {res:Int} (h:bits_LeadingZeros64 a=some res):qb ZT (.fn 286) [.int .u64 a] [] (.i res) []:=by
 unfold bits_LeadingZeros64 at h
 refine Ub Tryz.func286 rfl rfl (m:=6) rfl (rs:=[.tmp 2]) rfl (l:=[(0,.int .u64 a)]) rfl ?_
 refine sh fol [(0,.int .u64 a)] ?_
 obtain⟨c,b,h⟩:=bnd h
 refine sq (gr fol [1] [(2,.i (w64 (64-c)))] (ac (cv (qfd a b)) az) ?_)
 refine Goes.ret ?_
 obtain rfl:=si h
 exact(gw2 [.i (w64 (64-c))] (Ua tI))
def yH (d:Int) (c:Int):Nat->Int->Int->Option Int
 |0,_,_=>none
 |K+1,a,b=>
  (if a>=4294967296 then
  some true
  else
  some (decide ((IntKind.wrap .u64 (a*(qB .u64 d 4294967295)))>(IntKind.wrap .u64 ((IntKind.wrap .u64 (4294967296*b))+(qx .u64 c 32))))):Option Bool).bind fun e=>
  if e=true then
  if(IntKind.wrap .u64 (b+(qx .u64 d 32)))>=4294967296 then
  some (IntKind.wrap .u64 (a-1))
  else
  yH d c K (IntKind.wrap .u64 (a-1)) (IntKind.wrap .u64 (b+(qx .u64 d 32)))
  else
  some a
def yE (d:Int) (c:Int):Nat->Int->Int->Option Int
 |0,_,_=>none
 |K+1,b,a=>
  (if a>=4294967296 then
  some true
  else
  some (decide ((IntKind.wrap .u64 (a*(qB .u64 d 4294967295)))>(IntKind.wrap .u64 ((IntKind.wrap .u64 (4294967296*b))+(qB .u64 c 4294967295))))):Option Bool).bind fun e=>
  if e=true then
  if(IntKind.wrap .u64 (b+(qx .u64 d 32)))>=4294967296 then
  some (IntKind.wrap .u64 (a-1))
  else
  yE d c K (IntKind.wrap .u64 (b+(qx .u64 d 32))) (IntKind.wrap .u64 (a-1))
  else
  some a
def qaY (N:Nat) (hi:Int) (lo:Int) (y:Int):Option (Int×Int):=
 ((if y=0 then
 none
 else
 some ():Option Unit)).bind fun _=>
 ((if y<=hi then
 none
 else
 some ():Option Unit)).bind fun _=>
 if hi=0 then
 (qcf .u64 lo y).bind fun k=>
 (qeA .u64 lo y).bind fun l=>
 some (k,l)
 else
 (bits_LeadingZeros64 y).bind fun f=>
 (qhj .u64 y (IntKind.wrap .u64 f)).bind fun d=>
 (qhj .u64 hi (IntKind.wrap .u64 f)).bind fun b=>
 (qkv .u64 lo (IntKind.wrap .u64 (64-(IntKind.wrap .u64 f)))).bind fun c=>
 (qhj .u64 lo (IntKind.wrap .u64 f)).bind fun a=>
 (qcf .u64 (orI .u64 b c) (qx .u64 d 32)).bind fun g=>
 (yH d a N g (IntKind.wrap .u64 ((orI .u64 b c)-(IntKind.wrap .u64 (g*(qx .u64 d 32)))))).bind fun e=>
 (qcf .u64 (IntKind.wrap .u64 ((IntKind.wrap .u64 ((IntKind.wrap .u64 ((orI .u64 b c)*4294967296))+(qx .u64 a 32)))-(IntKind.wrap .u64 (e*d)))) (qx .u64 d 32)).bind fun h=>
 (yE d a N (IntKind.wrap .u64 ((IntKind.wrap .u64 ((IntKind.wrap .u64 ((IntKind.wrap .u64 ((orI .u64 b c)*4294967296))+(qx .u64 a 32)))-(IntKind.wrap .u64 (e*d))))-(IntKind.wrap .u64 (h*(qx .u64 d 32))))) h).bind fun i=>
 (qkv .u64 (IntKind.wrap .u64 ((IntKind.wrap .u64 ((IntKind.wrap .u64 ((IntKind.wrap .u64 ((IntKind.wrap .u64 ((IntKind.wrap .u64 ((orI .u64 b c)*4294967296))+(qx .u64 a 32)))-(IntKind.wrap .u64 (e*d))))*4294967296))+(qB .u64 a 4294967295)))-(IntKind.wrap .u64 (i*d)))) (IntKind.wrap .u64 f)).bind fun j=>
 some (IntKind.wrap .u64 ((IntKind.wrap .u64 (e*4294967296))+i),j)
theorem qfa (N:Nat) (hi:Int) (lo:Int) (y:Int) {res:Int×Int} (h:qaY N hi lo y=some res):qb ZT (.fn 285) (.int .u64 hi::(kBO lo y)) [] (.tuple (kBO res.1 res.2)) []:=by
 unfold qaY at h
 refine Ub Tryz.func285 rfl rfl (m:=135) rfl (rs:=[.tmp 6,.tmp 7]) rfl (l:=(kY hi lo [(2,.int .u64 y)])) rfl ?_
 refine sh fol (kY hi lo [(2,.int .u64 y)]) ?_
 refine sq ?_
 refine sh fol (kY hi lo [(2,.int .u64 y),(20,.bool (decide (y=0)))]) ?_
 obtain⟨Z,g1,h⟩:=bnd h
 refine Goes.imp (Q:=fun x s'=>(x= .normal/\()=Z/\Sub s' (ofG 135 (kY hi lo [(2,.int .u64 y)]),[]))) ?_ ?_
 ·refine ihD g1 (fun c2 g1=>?_) (fun c2 g1=>?_)
  ·cases g1
  refine Goes.skip ?_
  obtain rfl:=si g1
  exact⟨rfl,rfl,(Sub.keep [0,1,2] rfl rfl)⟩
 rintro x s' ⟨rfl,rfl,hsub⟩
 refine Goes.sub hsub ?_
 refine sq ?_
 refine sh fol (kY hi lo [(2,.int .u64 y),(24,.bool (decide (y<=hi)))]) ?_
 obtain⟨r3,g3,h⟩:=bnd h
 refine Goes.imp (Q:=fun x s'=>(x= .normal/\()=r3/\Sub s' (ofG 135 (kY hi lo [(2,.int .u64 y)]),[]))) ?_ ?_
 ·refine ihD g3 (fun c4 g3=>?_) (fun c4 g3=>?_)
  ·cases g3
  refine Goes.skip ?_
  obtain rfl:=si g3
  exact⟨rfl,rfl,(Sub.keep [0,1,2] rfl rfl)⟩
 rintro x s' ⟨rfl,rfl,hsub⟩
 refine Goes.sub hsub ?_
 refine sq ?_
 refine sh fol (kY hi lo [(2,.int .u64 y),(27,.bool (decide (hi=0)))]) ?_
 refine ihD h (fun c5 h=>?_) (fun c5 h=>?_)
 ·obtain⟨K,E,h⟩:=bnd h
  obtain⟨L,F,h⟩:=bnd h
  refine sq (gr fol [2,5] (kAL K (kAf L [])) (ac (hs (.done (.opt (kL ZT .quo 245 (.tmp 28) (.tmp 29) (.int .u64 lo) (.int .u64 y))) (.int .u64 K)) (qbY E)) (ac (hs (.done (.opt (kL ZT .rem 245 (.tmp 31) (.tmp 32) (.int .u64 lo) (.int .u64 y))) (.int .u64 L)) (qfU F)) az)) ?_)
  refine Goes.ret ?_
  obtain rfl:=si h
  exact(gw2 (kBO K L) (FzW.tuple (qc.cons (Ua tI) (qc.cons (Ua tI) qc.nil))))
 refine Goes.skip ?_
 obtain⟨f,G,h⟩:=bnd h
 refine sq (gr fol [1] (kY hi lo [(2,.int .u64 y),(8,.int .u64 (IntKind.wrap .u64 f))]) (ac (cv (qbp y G)) az) ?_)
 obtain⟨b,H,h⟩:=bnd h
 refine sq (gr fol [2] (kY hi lo [(2,.int .u64 b),(8,.int .u64 (IntKind.wrap .u64 f))]) (ac (hs (.done (.opt (kL ZT .shl 245 (.tmp 37) (.tmp 38) (.int .u64 y) (.int .u64 (IntKind.wrap .u64 f)))) (.int .u64 b)) (qf5 H)) az) ?_)
 refine sh fol (kY hi lo [(2,.int .u64 b),(8,.int .u64 (IntKind.wrap .u64 f)),(9,.int .u64 (qx .u64 b 32))]) ?_
 refine sh fol (kY hi lo (kJ b (IntKind.wrap .u64 f) (qx .u64 b 32) (qB .u64 b 4294967295) [])) ?_
 obtain⟨c,t,h⟩:=bnd h
 obtain⟨d,u,h⟩:=bnd h
 refine sq (gr fol [2,6] ((1,.int .u64 lo)::(kJ b (IntKind.wrap .u64 f) (qx .u64 b 32) (qB .u64 b 4294967295) [(11,.int .u64 (orI .u64 c d))])) (ac (hs (.done (.opt (kL ZT .shl 245 (.tmp 44) (.tmp 45) (.int .u64 hi) (.int .u64 (IntKind.wrap .u64 f)))) (.int .u64 c)) (qf5 t)) (ac (hs (.done (.opt (kL ZT .shr 245 (.tmp 47) (.tmp 49) (.int .u64 lo) (.int .u64 (IntKind.wrap .u64 (64-(IntKind.wrap .u64 f)))))) (.int .u64 d)) (qhc u)) az)) ?_)
 obtain⟨a,v,h⟩:=bnd h
 refine sq (gr fol [2] (kJ b (IntKind.wrap .u64 f) (qx .u64 b 32) (qB .u64 b 4294967295) (kZ (orI .u64 c d) a [])) (ac (hs (.done (.opt (kL ZT .shl 245 (.tmp 52) (.tmp 53) (.int .u64 lo) (.int .u64 (IntKind.wrap .u64 f)))) (.int .u64 a)) (qf5 v)) az) ?_)
 refine sh fol (kJ b (IntKind.wrap .u64 f) (qx .u64 b 32) (qB .u64 b 4294967295) (kZ (orI .u64 c d) a [(13,.int .u64 (qx .u64 a 32))])) ?_
 refine sh fol (kJ b (IntKind.wrap .u64 f) (qx .u64 b 32) (qB .u64 b 4294967295) (kAQ (orI .u64 c d) (qx .u64 a 32) [(14,.int .u64 (qB .u64 a 4294967295))])) ?_
 obtain⟨q,w,h⟩:=bnd h
 refine sq (gr fol [2] (kJ b (IntKind.wrap .u64 f) (qx .u64 b 32) (qB .u64 b 4294967295) (kAQ (orI .u64 c d) (qx .u64 a 32) (kAz (qB .u64 a 4294967295) q []))) (ac (hs (.done (.opt (kL ZT .quo 245 (.tmp 59) (.tmp 60) (.int .u64 (orI .u64 c d)) (.int .u64 (qx .u64 b 32)))) (.int .u64 q)) (qbY w)) az) ?_)
 refine sh fol (kJ b (IntKind.wrap .u64 f) (qx .u64 b 32) (qB .u64 b 4294967295) (kAQ (orI .u64 c d) (qx .u64 a 32) (kP (qB .u64 a 4294967295) q (IntKind.wrap .u64 ((orI .u64 c d)-(IntKind.wrap .u64 (q*(qx .u64 b 32))))) []))) ?_
 refine sq (Goes.block ?_)
 obtain⟨I,g17,h⟩:=bnd h
 refine Goes.imp (Q:=fun x s'=>(x= .exit 0/\ ∃e,e=I/\Sub s' (ofG 135 (kJ b (IntKind.wrap .u64 f) (qx .u64 b 32) (qB .u64 b 4294967295) (kAQ (orI .u64 c d) (qx .u64 a 32) (kAz (qB .u64 a 4294967295) e []))),[]))) ?_ ?_
 ·refine Uc (fun M s=> ∃(j:Int) (g:Int),s=(ofG 135 (kJ b (IntKind.wrap .u64 f) (qx .u64 b 32) (qB .u64 b 4294967295) (kAQ (orI .u64 c d) (qx .u64 a 32) (kP (qB .u64 a 4294967295) j g []))),[])/\yH b a M j g=some I) ?_ (m:=N) ⟨_,_,rfl,g17⟩
  rintro M s ⟨j,g,rfl,g17⟩
  cases M with
  |zero=>simp only[yH]at g17;cases g17
  |succ M=>
   rw[yH]at g17
   refine sq ?_
   refine sq ?_
   obtain⟨O,k,g17⟩:=bnd g17
   refine Goes.cut (s':=(ofG 135 (kJ b (IntKind.wrap .u64 f) (qx .u64 b 32) (qB .u64 b 4294967295) (kAQ (orI .u64 c d) (qx .u64 a 32) (kP (qB .u64 a 4294967295) j g [(78,.bool O)]))),[])) ?_ ?_
   ·rcases wyD k with⟨z,k⟩|⟨z,k⟩
    ·obtain rfl:=si k
     exact tr fol [2] (kJ b (IntKind.wrap .u64 f) (qx .u64 b 32) (qB .u64 b 4294967295) (kAQ (orI .u64 c d) (qx .u64 a 32) (kP (qB .u64 a 4294967295) j g [(78,.bool true)]))) (ac (gw z) az)
    obtain rfl:=si k
    exact tr fol [2] (kJ b (IntKind.wrap .u64 f) (qx .u64 b 32) (qB .u64 b 4294967295) (kAQ (orI .u64 c d) (qx .u64 a 32) (kP (qB .u64 a 4294967295) j g [(78,.bool (decide ((IntKind.wrap .u64 (j*(qB .u64 b 4294967295)))>(IntKind.wrap .u64 ((IntKind.wrap .u64 (4294967296*g))+(qx .u64 a 32))))))]))) (ac (gw z) az)
   refine ihB g17 (fun P g17=>?_) (fun P g17=>?_)
   ·refine Goes.skip ?_
    refine Goes.block ?_
    refine sh fol (kJ b (IntKind.wrap .u64 f) (qx .u64 b 32) (qB .u64 b 4294967295) (kAQ (orI .u64 c d) (qx .u64 a 32) (kP (qB .u64 a 4294967295) (IntKind.wrap .u64 (j-1)) g []))) ?_
    refine sh fol (kJ b (IntKind.wrap .u64 f) (qx .u64 b 32) (qB .u64 b 4294967295) (kAQ (orI .u64 c d) (qx .u64 a 32) (kP (qB .u64 a 4294967295) (IntKind.wrap .u64 (j-1)) (IntKind.wrap .u64 (g+(qx .u64 b 32))) []))) ?_
    refine sh fol (kJ b (IntKind.wrap .u64 f) (qx .u64 b 32) (qB .u64 b 4294967295) (kAQ (orI .u64 c d) (qx .u64 a 32) (kP (qB .u64 a 4294967295) (IntKind.wrap .u64 (j-1)) (IntKind.wrap .u64 (g+(qx .u64 b 32))) [(85,.bool (decide ((IntKind.wrap .u64 (g+(qx .u64 b 32)))>=4294967296)))]))) ?_
    refine ihD g17 (fun U g17=>?_) (fun U g17=>?_)
    ·refine Goes.exit ?_
     obtain rfl:=si g17
     exact⟨rfl,_,rfl,(Sub.keep [2,8,9,10,11,13,14,15] rfl rfl)⟩
    refine Goes.skip ?_
    exact⟨M,(ofG 135 (kJ b (IntKind.wrap .u64 f) (qx .u64 b 32) (qB .u64 b 4294967295) (kAQ (orI .u64 c d) (qx .u64 a 32) (kP (qB .u64 a 4294967295) (IntKind.wrap .u64 (j-1)) (IntKind.wrap .u64 (g+(qx .u64 b 32))) []))),[]),Nat.lt_succ_self _,(Sub.keep [2,8,9,10,11,13,14,15,16] rfl rfl),_,_,rfl,g17⟩
   refine Goes.exit ?_
   obtain rfl:=si g17
   exact⟨rfl,_,rfl,(Sub.keep [2,8,9,10,11,13,14,15] rfl rfl)⟩
 rintro x s' ⟨rfl,e,rfl,hsub⟩
 refine Goes.sub hsub ?_
 refine sh fol (kJ b (IntKind.wrap .u64 f) (qx .u64 b 32) (qB .u64 b 4294967295) (kAz (qB .u64 a 4294967295) e [(17,.int .u64 (IntKind.wrap .u64 ((IntKind.wrap .u64 ((IntKind.wrap .u64 ((orI .u64 c d)*4294967296))+(qx .u64 a 32)))-(IntKind.wrap .u64 (e*b)))))])) ?_
 obtain⟨r,A,h⟩:=bnd h
 refine sq (gr fol [2] (kJ b (IntKind.wrap .u64 f) (qx .u64 b 32) (qB .u64 b 4294967295) (kAz (qB .u64 a 4294967295) e (kAZ (IntKind.wrap .u64 ((IntKind.wrap .u64 ((IntKind.wrap .u64 ((orI .u64 c d)*4294967296))+(qx .u64 a 32)))-(IntKind.wrap .u64 (e*b)))) r []))) (ac (hs (.done (.opt (kL ZT .quo 245 (.tmp 94) (.tmp 95) (.int .u64 (IntKind.wrap .u64 ((IntKind.wrap .u64 ((IntKind.wrap .u64 ((orI .u64 c d)*4294967296))+(qx .u64 a 32)))-(IntKind.wrap .u64 (e*b))))) (.int .u64 (qx .u64 b 32)))) (.int .u64 r)) (qbY A)) az) ?_)
 refine sh fol (kJ b (IntKind.wrap .u64 f) (qx .u64 b 32) (qB .u64 b 4294967295) (kP (qB .u64 a 4294967295) e (IntKind.wrap .u64 ((IntKind.wrap .u64 ((IntKind.wrap .u64 ((IntKind.wrap .u64 ((orI .u64 c d)*4294967296))+(qx .u64 a 32)))-(IntKind.wrap .u64 (e*b))))-(IntKind.wrap .u64 (r*(qx .u64 b 32))))) (kAZ (IntKind.wrap .u64 ((IntKind.wrap .u64 ((IntKind.wrap .u64 ((orI .u64 c d)*4294967296))+(qx .u64 a 32)))-(IntKind.wrap .u64 (e*b)))) r []))) ?_
 refine sq (Goes.block ?_)
 obtain⟨J,g27,h⟩:=bnd h
 refine Goes.imp (Q:=fun x s'=>(x= .exit 2/\ ∃p,p=J/\Sub s' (ofG 135 ((2,.int .u64 b)::(8,.int .u64 (IntKind.wrap .u64 f))::(kAz (qB .u64 a 4294967295) e (kAZ (IntKind.wrap .u64 ((IntKind.wrap .u64 ((IntKind.wrap .u64 ((orI .u64 c d)*4294967296))+(qx .u64 a 32)))-(IntKind.wrap .u64 (e*b)))) p []))),[]))) ?_ ?_
 ·refine Uc (fun M s=> ∃(i:Int) (n:Int),s=(ofG 135 (kJ b (IntKind.wrap .u64 f) (qx .u64 b 32) (qB .u64 b 4294967295) (kP (qB .u64 a 4294967295) e i (kAZ (IntKind.wrap .u64 ((IntKind.wrap .u64 ((IntKind.wrap .u64 ((orI .u64 c d)*4294967296))+(qx .u64 a 32)))-(IntKind.wrap .u64 (e*b)))) n []))),[])/\yE b a M i n=some J) ?_ (m:=N) ⟨_,_,rfl,g27⟩
  rintro M s ⟨i,n,rfl,g27⟩
  cases M with
  |zero=>simp only[yE]at g27;cases g27
  |succ M=>
   rw[yE]at g27
   refine sq ?_
   refine sq ?_
   obtain⟨V,o,g27⟩:=bnd g27
   refine Goes.cut (s':=(ofG 135 (kJ b (IntKind.wrap .u64 f) (qx .u64 b 32) (qB .u64 b 4294967295) (kP (qB .u64 a 4294967295) e i (kAZ (IntKind.wrap .u64 ((IntKind.wrap .u64 ((IntKind.wrap .u64 ((orI .u64 c d)*4294967296))+(qx .u64 a 32)))-(IntKind.wrap .u64 (e*b)))) n [(113,.bool V)]))),[])) ?_ ?_
   ·rcases wyD o with⟨B,o⟩|⟨B,o⟩
    ·obtain rfl:=si o
     exact tr fol [2] (kJ b (IntKind.wrap .u64 f) (qx .u64 b 32) (qB .u64 b 4294967295) (kP (qB .u64 a 4294967295) e i (kAZ (IntKind.wrap .u64 ((IntKind.wrap .u64 ((IntKind.wrap .u64 ((orI .u64 c d)*4294967296))+(qx .u64 a 32)))-(IntKind.wrap .u64 (e*b)))) n [(113,.bool true)]))) (ac (gw B) az)
    obtain rfl:=si o
    exact tr fol [2] (kJ b (IntKind.wrap .u64 f) (qx .u64 b 32) (qB .u64 b 4294967295) (kP (qB .u64 a 4294967295) e i (kAZ (IntKind.wrap .u64 ((IntKind.wrap .u64 ((IntKind.wrap .u64 ((orI .u64 c d)*4294967296))+(qx .u64 a 32)))-(IntKind.wrap .u64 (e*b)))) n [(113,.bool (decide ((IntKind.wrap .u64 (n*(qB .u64 b 4294967295)))>(IntKind.wrap .u64 ((IntKind.wrap .u64 (4294967296*i))+(qB .u64 a 4294967295))))))]))) (ac (gw B) az)
   refine ihB g27 (fun X g27=>?_) (fun X g27=>?_)
   ·refine Goes.skip ?_
    refine Goes.block ?_
    refine sh fol (kJ b (IntKind.wrap .u64 f) (qx .u64 b 32) (qB .u64 b 4294967295) (kP (qB .u64 a 4294967295) e i (kAZ (IntKind.wrap .u64 ((IntKind.wrap .u64 ((IntKind.wrap .u64 ((orI .u64 c d)*4294967296))+(qx .u64 a 32)))-(IntKind.wrap .u64 (e*b)))) (IntKind.wrap .u64 (n-1)) []))) ?_
    refine sh fol (kJ b (IntKind.wrap .u64 f) (qx .u64 b 32) (qB .u64 b 4294967295) (kP (qB .u64 a 4294967295) e (IntKind.wrap .u64 (i+(qx .u64 b 32))) (kAZ (IntKind.wrap .u64 ((IntKind.wrap .u64 ((IntKind.wrap .u64 ((orI .u64 c d)*4294967296))+(qx .u64 a 32)))-(IntKind.wrap .u64 (e*b)))) (IntKind.wrap .u64 (n-1)) []))) ?_
    refine sh fol (kJ b (IntKind.wrap .u64 f) (qx .u64 b 32) (qB .u64 b 4294967295) (kP (qB .u64 a 4294967295) e (IntKind.wrap .u64 (i+(qx .u64 b 32))) (kAZ (IntKind.wrap .u64 ((IntKind.wrap .u64 ((IntKind.wrap .u64 ((orI .u64 c d)*4294967296))+(qx .u64 a 32)))-(IntKind.wrap .u64 (e*b)))) (IntKind.wrap .u64 (n-1)) [(120,.bool (decide ((IntKind.wrap .u64 (i+(qx .u64 b 32)))>=4294967296)))]))) ?_
    refine ihD g27 (fun Y g27=>?_) (fun Y g27=>?_)
    ·refine Goes.exit ?_
     obtain rfl:=si g27
     exact⟨rfl,_,rfl,(Sub.keep [2,8,14,15,17,18] rfl rfl)⟩
    refine Goes.skip ?_
    exact⟨M,(ofG 135 (kJ b (IntKind.wrap .u64 f) (qx .u64 b 32) (qB .u64 b 4294967295) (kP (qB .u64 a 4294967295) e (IntKind.wrap .u64 (i+(qx .u64 b 32))) (kAZ (IntKind.wrap .u64 ((IntKind.wrap .u64 ((IntKind.wrap .u64 ((orI .u64 c d)*4294967296))+(qx .u64 a 32)))-(IntKind.wrap .u64 (e*b)))) (IntKind.wrap .u64 (n-1)) []))),[]),Nat.lt_succ_self _,(Sub.keep [2,8,9,10,14,15,16,17,18] rfl rfl),_,_,rfl,g27⟩
   refine Goes.exit ?_
   obtain rfl:=si g27
   exact⟨rfl,_,rfl,(Sub.keep [2,8,14,15,17,18] rfl rfl)⟩
 rintro x s' ⟨rfl,p,rfl,hsub⟩
 refine Goes.sub hsub ?_
 obtain⟨C,D,h⟩:=bnd h
 refine sq (gr fol [13] (kAL (IntKind.wrap .u64 ((IntKind.wrap .u64 (e*4294967296))+p)) (kAf C [])) (ac (hs (.done (.opt (kL ZT .shr 245 (.tmp 132) (.tmp 133) (.int .u64 (IntKind.wrap .u64 ((IntKind.wrap .u64 ((IntKind.wrap .u64 ((IntKind.wrap .u64 ((IntKind.wrap .u64 ((IntKind.wrap .u64 ((orI .u64 c d)*4294967296))+(qx .u64 a 32)))-(IntKind.wrap .u64 (e*b))))*4294967296))+(qB .u64 a 4294967295)))-(IntKind.wrap .u64 (p*b))))) (.int .u64 (IntKind.wrap .u64 f)))) (.int .u64 C)) (qhc D)) az) ?_)
 refine Goes.ret ?_
 obtain rfl:=si h
 exact(gw2 (kBO (IntKind.wrap .u64 ((IntKind.wrap .u64 (e*4294967296))+p)) C) (FzW.tuple (qc.cons (Ua tI) (qc.cons (Ua tI) qc.nil))))
def zT (b:List Int) (a:Int):Nat->(List Int)->Int->Option (List Int)
 |0,_,_=>none
 |K+1,f,c=>
  if c<(b.length:Int)then
  (((idx b c).bind fun e=>
  (idx f c).bind fun g=>
  (qhj .u64 e a).bind fun h=>
  (put f c (orI .u64 g h)).bind fun d=>
  if a>0 then
  (qkv .u64 e (w64 (64-a))).bind fun i=>
  (idx d (w64 (c+1))).bind fun k=>
  (put d (w64 (c+1)) i).bind fun j=>
  some j
  else
  some d:Option (List Int))).bind fun l=>
  zT b a K l (w64 (c+1))
  else
  some f
def yX (N:Nat) (a:List Int) (b:Int):Option (List Int):=
 (mk 8 (w64 ((a.length:Int)+1)) 0).bind fun c=>
 (zT a b N c 0).bind fun d=>
 some d
theorem qcJ (N:Nat) (a:List Int) (b:Int) {G:List Int} (h:yX N a b=some G):qb ZT (.fn 287) [vl (qa .u64) a,.i b] [] (.slice 0 0 G.length G.length 1) [.cells (G.flatMap (qa .u64).c)]:=by
 unfold yX at h
 refine Goes.fnH Tryz.func287 rfl rfl (m:=40) rfl (rs:=[.tmp 4]) rfl (l:=[(0,vl (qa .u64) a),(1,.i b)]) rfl ?_
 intro B hB
 refine sh fol [(0,vl (qa .u64) a),(1,.i b)] ?_
 obtain⟨D,F,h⟩:=bnd h
 refine sq (gq fol [3] ((0,vl (qa .u64) a)::(1,.i b)::(kC D [])) [.cells (D.flatMap (qa .u64).c)] (ac (hs (.run [] (jf ZT 93 (.i (w64 ((a.length:Int)+1))) (.i (w64 ((a.length:Int)+1)))) [] (.slice 0 0 D.length D.length 1) [.cells (D.flatMap (qa .u64).c)] false) (qcX zS (E:=(qa .u64)) (z:=0) rfl (by kernel_rfl) F rfl)) az) ?_)
 refine sq ?_
 refine sh fol ((1,.i b)::(kC D [(12,vl (qa .u64) a),(13,.i (a.length:Int)),(14,.i 0)])) ?_
 refine Goes.block ?_
 obtain⟨I,g6,h⟩:=bnd h
 refine Goes.imp (Q:=fun x s'=>(x= .exit 0/\ ∃r,r=I/\Sub s' (ofG 40 (kC r []),[.cells (r.flatMap (qa .u64).c)]))) ?_ ?_
 ·refine Uc (fun M s=> ∃(g:List Int) (d:Int),s=(ofG 40 ((1,.i b)::(kC g ((12,vl (qa .u64) a)::(kAM (a.length:Int) d)))),[.cells (g.flatMap (qa .u64).c)])/\zT a b M g d=some I) ?_ (m:=N) ⟨_,_,rfl,g6⟩
  rintro M s ⟨g,d,rfl,g6⟩
  cases M with
  |zero=>simp only[zT]at g6;cases g6
  |succ M=>
   rw[zT]at g6
   refine sh fol ((1,.i b)::(kC g ((12,vl (qa .u64) a)::(13,.i (a.length:Int))::(14,.i d)::(kBN (decide (d<(a.length:Int))))))) ?_
   refine sq ?_
   refine ihD g6 (fun J g6=>?_) (fun J g6=>?_)
   ·refine Goes.skip ?_
    refine sq ?_
    obtain⟨K,g9,g6⟩:=bnd g6
    refine Goes.imp (Q:=fun x s'=>(x= .normal/\ ∃t,t=K/\Sub s' (ofG 40 ((1,.i b)::(kC t ((12,vl (qa .u64) a)::(kAM (a.length:Int) d)))),[.cells (t.flatMap (qa .u64).c)]))) ?_ ?_
    ·refine Goes.block ?_
     obtain⟨j,k,g9⟩:=bnd g9
     refine sq (gr fol [1,2] ((1,.i b)::(kC g ((6,.i d)::(kAf j ((12,vl (qa .u64) a)::(kAM (a.length:Int) d)))))) (ac (iv zS (qa .u64) k) (ac (lv 0 z8 (qa .u64) k rfl) az)) ?_)
     obtain⟨u,f,g9⟩:=bnd g9
     obtain⟨v,w,g9⟩:=bnd g9
     obtain⟨e,n,g9⟩:=bnd g9
     refine sq (gq fol [2,3,6,8,9] ((1,.i b)::(kC g ((6,.i d)::(kAf j ((12,vl (qa .u64) a)::(kAM (a.length:Int) d)))))) [.cells (e.flatMap (qa .u64).c)] (ac (hs (.done (.opt (qj ZT 93 (.slice 0 0 g.length g.length 1) (.i d))) (.ptr 0 ((d:Int).toNat*1+0))) (qao zS f)) (ac (hs (.run [0] (jo ZT 245 (.ptr 0 ((d:Int).toNat*1+0))) [.cells (g.flatMap (qa .u64).c)] (.int .u64 u) [.cells (g.flatMap (qa .u64).c)] false) (qcC z8 (E:=(qa .u64)) (l:=g) rfl rfl f (nl rfl) rfl)) (ac (hs (.done (.opt (kL ZT .shl 245 (.tmp 23) (.tmp 24) (.int .u64 j) (.i b))) (.int .u64 v)) (qf5 w)) (ac (hs (.done (.opt (qj ZT 93 (.slice 0 0 g.length g.length 1) (.i d))) (.ptr 0 ((d:Int).toNat*1+0))) (qao zS f)) (ac (hs (.run [0] (qw ZT 245 (.ptr 0 ((d:Int).toNat*1+0)) (.int .u64 (orI .u64 u v))) [.cells (g.flatMap (qa .u64).c)] .undef [.cells (e.flatMap (qa .u64).c)] true) (qae (E:=(qa .u64)) (l:=g) (y:=orI .u64 u v) rfl (show _=some 1 by kernel_rfl) rfl f rfl rfl rfl rfl rfl n rfl)) az))))) ?_)
     refine Goes.sub (show Sub (ofG 40 ((1,.i b)::(kC g ((6,.i d)::(kAf j ((12,vl (qa .u64) a)::(kAM (a.length:Int) d)))))),[.cells (e.flatMap (qa .u64).c)]) (ofG 40 ((1,.i b)::(kC e ((6,.i d)::(kAf j ((12,vl (qa .u64) a)::(kAM (a.length:Int) d)))))),[.cells (e.flatMap (qa .u64).c)])from(Sub.norm [] [some 0] (by rw[hB];rfl) rfl (.keep (.same nI) (.keep (.sliceE rfl (vI n)) (.keep (.same nI) (.keep (.same nI) (.keep (.same (qf (qa .u64) _)) (.keep (.same nI) (.keep (.same nI) .nil))))))) (.ks .nil))) ?_
     refine sh fol ((1,.i b)::(kC e ((6,.i d)::(kAf j [(12,vl (qa .u64) a),(13,.i (a.length:Int)),(14,.i d),(29,.bool (decide (b>0)))])))) ?_
     refine ihD g9 (fun H g9=>?_) (fun H g9=>?_)
     ·obtain⟨A,C,g9⟩:=bnd g9
      obtain⟨L,o,g9⟩:=bnd g9
      obtain⟨p,q,g9⟩:=bnd g9
      refine gq fol [6,7,8] ((1,.i b)::(kC e ((12,vl (qa .u64) a)::(kAM (a.length:Int) d)))) [.cells (p.flatMap (qa .u64).c)] (ac (hs (.done (.opt (kL ZT .shr 245 (.tmp 33) (.tmp 35) (.int .u64 j) (.i (w64 (64-b))))) (.int .u64 A)) (qhc C)) (ac (hs (.done (.opt (qj ZT 93 (.slice 0 0 e.length e.length 1) (.i (w64 (d+1))))) (.ptr 0 ((w64 (d+1):Int).toNat*1+0))) (qao zS o)) (ac (hs (.run [0] (qw ZT 245 (.ptr 0 ((w64 (d+1):Int).toNat*1+0)) (.int .u64 A)) [.cells (e.flatMap (qa .u64).c)] .undef [.cells (p.flatMap (qa .u64).c)] true) (qae (E:=(qa .u64)) (l:=e) (y:=A) rfl (show _=some 1 by kernel_rfl) rfl o rfl rfl rfl rfl rfl q rfl)) az))) ?_
      obtain rfl:=si g9
      exact⟨rfl,_,rfl,((show Sub (ofG 40 ((1,.i b)::(kC e ((12,vl (qa .u64) a)::(kAM (a.length:Int) d)))),[.cells (p.flatMap (qa .u64).c)]) (ofG 40 ((1,.i b)::(kC p ((12,vl (qa .u64) a)::(kAM (a.length:Int) d)))),[.cells (p.flatMap (qa .u64).c)])from(Sub.norm [] [some 0] (by rw[hB];rfl) rfl (.keep (.same nI) (.keep (.sliceE rfl (vI q)) (.keep (.same (qf (qa .u64) _)) (.keep (.same nI) (.keep (.same nI) .nil))))) (.ks .nil))).trans (Sub.refl _))⟩
     refine Goes.skip ?_
     obtain rfl:=si g9
     exact⟨rfl,_,rfl,(Sub.keep [1,5,12,13,14] rfl rfl)⟩
    rintro x s' ⟨rfl,t,rfl,hsub⟩
    refine Goes.sub hsub ?_
    refine gh fol ((1,.i b)::(kC t ((12,vl (qa .u64) a)::(kAM (a.length:Int) (w64 (d+1)))))) ?_
    exact⟨M,(ofG 40 ((1,.i b)::(kC t ((12,vl (qa .u64) a)::(kAM (a.length:Int) (w64 (d+1)))))),[.cells (t.flatMap (qa .u64).c)]),Nat.lt_succ_self _,(Sub.refl _),_,_,rfl,g6⟩
   refine Goes.exit ?_
   obtain rfl:=si g6
   exact⟨rfl,_,rfl,(Sub.keep [5] rfl rfl)⟩
 rintro x s' ⟨rfl,r,rfl,hsub⟩
 refine Goes.sub hsub ?_
 refine sh fol [(4,.slice 0 0 r.length r.length 1)] ?_
 refine Goes.ret ?_
 obtain rfl:=si h
 exact(gh2 [.slice 0 0 r.length r.length 1] (qf4.refl _ _))
def yc (e:List Int) (f:Nat) (g:Nat) (a:List Int):Nat->Int->Int->Int->Option Int
 |0,_,_,_=>none
 |K+1,b,c,i=>
  if i=0 then
  (idx a (w64 ((a.length:Int)-2))).bind fun j=>
  (bits_Mul64 b j).bind fun d=>
  (if d.1<c then
  some true
  else
  if d.1=c then
  (qf6 e f g (w64 ((a.length:Int)-2))).bind fun k=>
  some (decide (d.2<=k))
  else
  some false:Option Bool).bind fun l=>
  if l=true then
  some b
  else
  (idx a (w64 ((a.length:Int)-1))).bind fun m=>
  (qaa c m 0).bind fun h=>
  yc e f g a K (IntKind.wrap .u64 (b-1)) h.1 h.2
  else
  some b
def jX (b:Nat) (e:Nat) (c:List Int) (f:Int):Nat->(List Int)->Int->Int->Int->Option ((List Int)×Int×Int)
 |0,_,_,_,_=>none
 |K+1,d,a,g,h=>
  if a<(c.length:Int)then
  (idx c a).bind fun l=>
  (bits_Mul64 f l).bind fun i=>
  (qaa i.2 h 0).bind fun j=>
  (qf6 d b e a).bind fun m=>
  (qem m j.1 g).bind fun k=>
  (put d ((b+(a:Int).toNat:Nat):Int) k.1).bind fun n=>
  jX b e c f K n (w64 (a+1)) k.2 (IntKind.wrap .u64 (i.1+j.2))
  else
  some (d,g,h)
def jY (b:Nat) (e:Nat) (c:List Int):Nat->(List Int)->Int->Int->Option ((List Int)×Int)
 |0,_,_,_=>none
 |K+1,d,a,f=>
  if a<(c.length:Int)then
  (qf6 d b e a).bind fun h=>
  (idx c a).bind fun i=>
  (qaa h i f).bind fun g=>
  (put d ((b+(a:Int).toNat:Nat):Int) g.1).bind fun j=>
  jY b e c K j (w64 (a+1)) g.2
  else
  some (d,f)
def qbG (N:Nat) (d:List Int) (b:Nat) (c:Nat) (v:Nat) (a:List Int):Option ((List Int)×Int):=
 (qf6 d b c (a.length:Int)).bind fun u=>
 (idx a (w64 ((a.length:Int)-1))).bind fun l=>
 ((if u>=l then
 (qf6 d b c (w64 ((a.length:Int)-1))).bind fun m=>
 (qaa m l 0).bind fun f=>
 some (18446744073709551615,f.1,f.2)
 else
 (qf6 d b c (w64 ((a.length:Int)-1))).bind fun n=>
 (qaY N u n l).bind fun g=>
 some (g.1,g.2,0):Option (Int×Int×Int))).bind fun(w,x,y)=>
 (yc d b c a N w x y).bind fun e=>
 (jX b c a e N d 0 0 0).bind fun(h,o,p)=>
 (qf6 h b c (a.length:Int)).bind fun q=>
 (qem q p o).bind fun i=>
 (put h ((b+((a.length:Int):Int).toNat:Nat):Int) i.1).bind fun j=>
 if i.2=0 then
 some (j,e)
 else
 (jY b c a N j 0 0).bind fun(k,r)=>
 (qf6 k b c (a.length:Int)).bind fun s=>
 (put k ((b+((a.length:Int):Int).toNat:Nat):Int) (IntKind.wrap .u64 (s+r))).bind fun t=>
 some (t,IntKind.wrap .u64 (e-1))
theorem qig (N:Nat) (j:List Int) (b:Nat) (d:Nat) (e:Nat) (a:List Int) {l1:List Int} {n2:Int} (h:qbG N j b d e a=some (l1,n2)):qb ZT (.fn 288) [.slice 0 b d e 1,vl (qa .u64) a] [.cells (j.flatMap (qa .u64).c)] (.int .u64 n2) [.cells (l1.flatMap (qa .u64).c)]:=by
 unfold qbG at h
 refine Goes.fnH Tryz.func288 rfl rfl (m:=186) rfl (rs:=[.tmp 4]) rfl (l:=[(0,.slice 0 b d e 1),(1,vl (qa .u64) a)]) rfl ?_
 intro B hB
 refine sh fol [(0,.slice 0 b d e 1),(1,vl (qa .u64) a)] ?_
 refine sh fol ((0,.slice 0 b d e 1)::(1,vl (qa .u64) a)::(kA6 (a.length:Int))) ?_
 refine sh fol ((0,.slice 0 b d e 1)::(1,vl (qa .u64) a)::(kA6 (a.length:Int))) ?_
 refine sh fol ((0,.slice 0 b d e 1)::(1,vl (qa .u64) a)::(5,.i (a.length:Int))::(kBQ [])) ?_
 refine sq ?_
 obtain⟨x3,K,h⟩:=bnd h
 obtain⟨x4,u,h⟩:=bnd h
 refine sq (gr fol [2,3,7,8] ((0,.slice 0 b d e 1)::(1,vl (qa .u64) a)::(5,.i (a.length:Int))::(kBQ [(30,.bool (decide (x3>=x4)))])) (ac (hs (.done (.opt (qj ZT 93 (.slice 0 b d e 1) (.i (a.length:Int)))) (.ptr 0 ((((b+((a.length:Int):Int).toNat:Nat):Int):Int).toNat*1+0))) (qdi zS K)) (ac (hs (.run [0] (jo ZT 245 (.ptr 0 ((((b+((a.length:Int):Int).toNat:Nat):Int):Int).toNat*1+0))) [.cells (j.flatMap (qa .u64).c)] (.int .u64 x3) [.cells (j.flatMap (qa .u64).c)] false) (qcC z8 (E:=(qa .u64)) (l:=j) rfl rfl (wI K) (nl rfl) rfl)) (ac (iv zS (qa .u64) u) (ac (lv 0 z8 (qa .u64) u rfl) az)))) ?_)
 obtain⟨r8,g8,h⟩:=bnd h
 refine Goes.imp (Q:=fun x s'=>(x= .normal/\ ∃n5 n6 n7,(n5,n6,n7)=r8/\Sub s' (ofG 186 ((0,.slice 0 b d e 1)::(1,vl (qa .u64) a)::(kT (a.length:Int) n5 (kAA n6 n7 []))),[.cells (j.flatMap (qa .u64).c)]))) ?_ ?_
 ·refine ihD g8 (fun c9 g8=>?_) (fun c9 g8=>?_)
  ·refine sh fol [(0,.slice 0 b d e 1),(1,vl (qa .u64) a),(5,.i (a.length:Int)),(6,.int .u64 18446744073709551615)] ?_
   obtain⟨c7,P,g8⟩:=bnd g8
   obtain⟨c8,b1,g8⟩:=bnd g8
   refine gr fol [3,4,8,9,10] ((0,.slice 0 b d e 1)::(1,vl (qa .u64) a)::(5,.i (a.length:Int))::(6,.int .u64 18446744073709551615)::(kAA c8.1 c8.2 [])) (ac (hs (.done (.opt (qj ZT 93 (.slice 0 b d e 1) (.i (w64 ((a.length:Int)-1))))) (.ptr 0 ((((b+(w64 ((a.length:Int)-1):Int).toNat:Nat):Int):Int).toNat*1+0))) (qdi zS P)) (ac (hs (.run [0] (jo ZT 245 (.ptr 0 ((((b+(w64 ((a.length:Int)-1):Int).toNat:Nat):Int):Int).toNat*1+0))) [.cells (j.flatMap (qa .u64).c)] (.int .u64 c7) [.cells (j.flatMap (qa .u64).c)] false) (qcC z8 (E:=(qa .u64)) (l:=j) rfl rfl (wI P) (nl rfl) rfl)) (ac (iv zS (qa .u64) u) (ac (lv 0 z8 (qa .u64) u rfl) (ac (cv (qch c7 x4 0 b1)) az))))) ?_
   obtain rfl:=si g8
   exact⟨rfl,_,_,_,rfl,(Sub.refl _)⟩
  obtain⟨d0,U,g8⟩:=bnd g8
  obtain⟨d1,b2,g8⟩:=bnd g8
  refine gr fol [2,3,7,8,12,13,14] ((0,.slice 0 b d e 1)::(1,vl (qa .u64) a)::(kT (a.length:Int) d1.1 (kAf d1.2 (kBQ [])))) (ac (hs (.done (.opt (qj ZT 93 (.slice 0 b d e 1) (.i (a.length:Int)))) (.ptr 0 ((((b+((a.length:Int):Int).toNat:Nat):Int):Int).toNat*1+0))) (qdi zS K)) (ac (hs (.run [0] (jo ZT 245 (.ptr 0 ((((b+((a.length:Int):Int).toNat:Nat):Int):Int).toNat*1+0))) [.cells (j.flatMap (qa .u64).c)] (.int .u64 x3) [.cells (j.flatMap (qa .u64).c)] false) (qcC z8 (E:=(qa .u64)) (l:=j) rfl rfl (wI K) (nl rfl) rfl)) (ac (hs (.done (.opt (qj ZT 93 (.slice 0 b d e 1) (.i (w64 ((a.length:Int)-1))))) (.ptr 0 ((((b+(w64 ((a.length:Int)-1):Int).toNat:Nat):Int):Int).toNat*1+0))) (qdi zS U)) (ac (hs (.run [0] (jo ZT 245 (.ptr 0 ((((b+(w64 ((a.length:Int)-1):Int).toNat:Nat):Int):Int).toNat*1+0))) [.cells (j.flatMap (qa .u64).c)] (.int .u64 d0) [.cells (j.flatMap (qa .u64).c)] false) (qcC z8 (E:=(qa .u64)) (l:=j) rfl rfl (wI U) (nl rfl) rfl)) (ac (iv zS (qa .u64) u) (ac (lv 0 z8 (qa .u64) u rfl) (ac (cv (qfa N x3 d0 x4 b2)) az))))))) ?_
  obtain rfl:=si g8
  exact⟨rfl,_,_,_,rfl,(Sub.refl _)⟩
 rintro x s' ⟨rfl,n5,n6,n7,rfl,hsub⟩
 try dsimp only at h
 refine Goes.sub hsub ?_
 refine sq (Goes.block ?_)
 obtain⟨d2,g19,h⟩:=bnd h
 refine Goes.imp (Q:=fun x s'=>(x= .exit 0/\ ∃f,f=d2/\Sub s' (ofG 186 ((0,.slice 0 b d e 1)::(1,vl (qa .u64) a)::(kT (a.length:Int) f [])),[.cells (j.flatMap (qa .u64).c)]))) ?_ ?_
 ·refine Uc (fun M s=> ∃(o:Int) (q:Int) (a4:Int),s=(ofG 186 ((0,.slice 0 b d e 1)::(1,vl (qa .u64) a)::(kT (a.length:Int) o (kAA q a4 []))),[.cells (j.flatMap (qa .u64).c)])/\yc j b d a M o q a4=some d2) ?_ (m:=N) ⟨_,_,_,rfl,g19⟩
  rintro M s ⟨o,q,a4,rfl,g19⟩
  cases M with
  |zero=>simp only[yc]at g19;cases g19
  |succ M=>
   rw[yc]at g19
   refine sq ?_
   refine sh fol ((0,.slice 0 b d e 1)::(1,vl (qa .u64) a)::(kT (a.length:Int) o (kAf q [(64,.bool (decide (a4=0)))]))) ?_
   refine ihD g19 (fun c20 g19=>?_) (fun c20 g19=>?_)
   ·refine Goes.skip ?_
    refine Goes.block ?_
    obtain⟨x21,V,g19⟩:=bnd g19
    obtain⟨b3,b4,g19⟩:=bnd g19
    refine sq (gr fol [4,5,6] ((0,.slice 0 b d e 1)::(1,vl (qa .u64) a)::(kT (a.length:Int) o (kAf q [(9,.int .u64 b3.1),(10,.int .u64 b3.2)]))) (ac (iv zS (qa .u64) V) (ac (lv 0 z8 (qa .u64) V rfl) (ac (cv (qbE o x21 b4)) az))) ?_)
    refine sq ?_
    refine sq ?_
    obtain⟨b26,k,g19⟩:=bnd g19
    refine Goes.cut (s':=(ofG 186 ((0,.slice 0 b d e 1)::(1,vl (qa .u64) a)::(kT (a.length:Int) o (kAf q [(91,.bool b26)]))),[.cells (j.flatMap (qa .u64).c)])) ?_ ?_
    ·rcases wyD k with⟨a5,k⟩|⟨a5,k⟩
     ·obtain rfl:=si k
      exact tr fol [3] ((0,.slice 0 b d e 1)::(1,vl (qa .u64) a)::(kT (a.length:Int) o (kAf q [(91,.bool true)]))) (ac (gw a5) az)
     rcases wyD k with⟨b5,k⟩|⟨b5,k⟩
     ·obtain⟨d3,X,k⟩:=bnd k
      obtain rfl:=si k
      exact tr fol [3,7,12,13] ((0,.slice 0 b d e 1)::(1,vl (qa .u64) a)::(kT (a.length:Int) o (kAf q [(91,.bool (decide (b3.2<=d3)))]))) (ac (gw a5) (ac (gw b5) (ac (hs (.done (.opt (qj ZT 93 (.slice 0 b d e 1) (.i (w64 ((a.length:Int)-2))))) (.ptr 0 ((((b+(w64 ((a.length:Int)-2):Int).toNat:Nat):Int):Int).toNat*1+0))) (qdi zS X)) (ac (hs (.run [0] (jo ZT 245 (.ptr 0 ((((b+(w64 ((a.length:Int)-2):Int).toNat:Nat):Int):Int).toNat*1+0))) [.cells (j.flatMap (qa .u64).c)] (.int .u64 d3) [.cells (j.flatMap (qa .u64).c)] false) (qcC z8 (E:=(qa .u64)) (l:=j) rfl rfl (wI X) (nl rfl) rfl)) az))))
     obtain rfl:=si k
     exact tr fol [3,7] ((0,.slice 0 b d e 1)::(1,vl (qa .u64) a)::(kT (a.length:Int) o (kAf q [(91,.bool false)]))) (ac (gw a5) (ac (gw b5) az))
    refine ihB g19 (fun c28 g19=>?_) (fun c28 g19=>?_)
    ·refine Goes.exit ?_
     obtain rfl:=si g19
     exact⟨rfl,_,rfl,(Sub.keep [0,1,5,6] rfl rfl)⟩
    refine Goes.skip ?_
    refine sh fol ((0,.slice 0 b d e 1)::(1,vl (qa .u64) a)::(kT (a.length:Int) (IntKind.wrap .u64 (o-1)) (kAf q []))) ?_
    obtain⟨x29,Y,g19⟩:=bnd g19
    obtain⟨a6,b6,g19⟩:=bnd g19
    refine gr fol [4,5,6] ((0,.slice 0 b d e 1)::(1,vl (qa .u64) a)::(kT (a.length:Int) (IntKind.wrap .u64 (o-1)) (kAA a6.1 a6.2 []))) (ac (iv zS (qa .u64) Y) (ac (lv 0 z8 (qa .u64) Y rfl) (ac (cv (qch q x29 0 b6)) az))) ?_
    exact⟨M,(ofG 186 ((0,.slice 0 b d e 1)::(1,vl (qa .u64) a)::(kT (a.length:Int) (IntKind.wrap .u64 (o-1)) (kAA a6.1 a6.2 []))),[.cells (j.flatMap (qa .u64).c)]),Nat.lt_succ_self _,(Sub.refl _),_,_,_,rfl,g19⟩
   refine Goes.exit ?_
   obtain rfl:=si g19
   exact⟨rfl,_,rfl,(Sub.keep [0,1,5,6] rfl rfl)⟩
 rintro x s' ⟨rfl,f,rfl,hsub⟩
 refine Goes.sub hsub ?_
 refine sh fol ((0,.slice 0 b d e 1)::(1,vl (qa .u64) a)::(kT (a.length:Int) f [(11,.int .u64 0),(12,.int .u64 0)])) ?_
 refine sq ?_
 refine sh fol ((0,.slice 0 b d e 1)::(1,vl (qa .u64) a)::(kT (a.length:Int) f [(11,.int .u64 0),(12,.int .u64 0),(104,.i (a.length:Int)),(105,.i 0)])) ?_
 refine Goes.block ?_
 obtain⟨d4,g38,h⟩:=bnd h
 refine Goes.imp (Q:=fun x s'=>(x= .exit 2/\ ∃C a7 a8,(C,a7,a8)=d4/\Sub s' (ofG 186 ((0,.slice 0 b d e 1)::(1,vl (qa .u64) a)::(kT (a.length:Int) f (kZ a7 a8 []))),[.cells (C.flatMap (qa .u64).c)]))) ?_ ?_
 ·refine Uc (fun M s=> ∃(D:List Int) (g:Int) (r:Int) (F:Int),s=(ofG 186 ((0,.slice 0 b d e 1)::(1,vl (qa .u64) a)::(kT (a.length:Int) f (kZ r F (kAq (a.length:Int) g)))),[.cells (D.flatMap (qa .u64).c)])/\jX b d a f M D g r F=some d4) ?_ (m:=N) ⟨_,_,_,_,rfl,g38⟩
  rintro M s ⟨D,g,r,F,rfl,g38⟩
  cases M with
  |zero=>simp only[jX]at g38;cases g38
  |succ M=>
   rw[jX]at g38
   refine sh fol ((0,.slice 0 b d e 1)::(1,vl (qa .u64) a)::(kT (a.length:Int) f (kZ r F [(104,.i (a.length:Int)),(105,.i g),(106,.bool (decide (g<(a.length:Int))))]))) ?_
   refine sq ?_
   refine ihD g38 (fun c39 g38=>?_) (fun c39 g38=>?_)
   ·refine Goes.skip ?_
    refine sq (Goes.block ?_)
    refine sh fol ((0,.slice 0 b d e 1)::(1,vl (qa .u64) a)::(kT (a.length:Int) f (kZ r F ((13,.i g)::(kAq (a.length:Int) g))))) ?_
    obtain⟨x40,Z,g38⟩:=bnd g38
    obtain⟨p,b7,g38⟩:=bnd g38
    refine sq (gr fol [3,4,5] ((0,.slice 0 b d e 1)::(1,vl (qa .u64) a)::(kT (a.length:Int) f (kZ r F ((13,.i g)::(kAz p.1 p.2 (kAq (a.length:Int) g)))))) (ac (iv zS (qa .u64) Z) (ac (lv 0 z8 (qa .u64) Z rfl) (ac (cv (qbE f x40 b7)) az))) ?_)
    refine sh fol ((0,.slice 0 b d e 1)::(1,vl (qa .u64) a)::(kT (a.length:Int) f (kZ r F ((13,.i g)::(kAz p.1 p.2 (kAq (a.length:Int) g)))))) ?_
    obtain⟨t,b8,g38⟩:=bnd g38
    refine sq (gr fol [2] ((0,.slice 0 b d e 1)::(1,vl (qa .u64) a)::(kT (a.length:Int) f ((11,.int .u64 r)::(13,.i g)::(kP p.1 t.1 t.2 (kAq (a.length:Int) g))))) (ac (cv (qch p.2 F 0 b8)) az) ?_)
    refine sh fol ((0,.slice 0 b d e 1)::(1,vl (qa .u64) a)::(kT (a.length:Int) f (kZ r (IntKind.wrap .u64 (p.1+t.2)) ((13,.i g)::(15,.int .u64 t.1)::(kAq (a.length:Int) g))))) ?_
    obtain⟨d5,v,g38⟩:=bnd g38
    obtain⟨I,b9,g38⟩:=bnd g38
    obtain⟨a0,c0,g38⟩:=bnd g38
    refine gq fol [4,5,8,12,13] ((0,.slice 0 b d e 1)::(1,vl (qa .u64) a)::(kT (a.length:Int) f (kZ I.2 (IntKind.wrap .u64 (p.1+t.2)) (kAq (a.length:Int) g)))) [.cells (a0.flatMap (qa .u64).c)] (ac (hs (.done (.opt (qj ZT 93 (.slice 0 b d e 1) (.i g))) (.ptr 0 ((((b+(g:Int).toNat:Nat):Int):Int).toNat*1+0))) (qdi zS v)) (ac (hs (.run [0] (jo ZT 245 (.ptr 0 ((((b+(g:Int).toNat:Nat):Int):Int).toNat*1+0))) [.cells (D.flatMap (qa .u64).c)] (.int .u64 d5) [.cells (D.flatMap (qa .u64).c)] false) (qcC z8 (E:=(qa .u64)) (l:=D) rfl rfl (wI v) (nl rfl) rfl)) (ac (cv (qhJ d5 t.1 r b9)) (ac (hs (.done (.opt (qj ZT 93 (.slice 0 b d e 1) (.i g))) (.ptr 0 ((((b+(g:Int).toNat:Nat):Int):Int).toNat*1+0))) (qdi zS v)) (ac (hs (.run [0] (qw ZT 245 (.ptr 0 ((((b+(g:Int).toNat:Nat):Int):Int).toNat*1+0)) (.int .u64 I.1)) [.cells (D.flatMap (qa .u64).c)] .undef [.cells (a0.flatMap (qa .u64).c)] true) (qae (E:=(qa .u64)) (l:=D) (y:=I.1) rfl (show _=some 1 by kernel_rfl) rfl (wI v) rfl rfl rfl rfl rfl c0 rfl)) az))))) ?_
    refine Goes.sub (show Sub (ofG 186 ((0,.slice 0 b d e 1)::(1,vl (qa .u64) a)::(kT (a.length:Int) f (kZ I.2 (IntKind.wrap .u64 (p.1+t.2)) (kAq (a.length:Int) g)))),[.cells (a0.flatMap (qa .u64).c)]) (ofG 186 ((0,.slice 0 b d e 1)::(1,vl (qa .u64) a)::(kT (a.length:Int) f (kZ I.2 (IntKind.wrap .u64 (p.1+t.2)) (kAq (a.length:Int) g)))),[.cells (a0.flatMap (qa .u64).c)])from(Sub.norm [] [some 0] (by rw[hB];rfl) rfl (.keep (.slice rfl) (.keep (.same (qf (qa .u64) _)) (.keep (.same nI) (.keep (.same nI) (.keep (.same nI) (.keep (.same nI) (.keep (.same nI) (.keep (.same nI) .nil)))))))) (.ks .nil))) ?_
    refine gh fol ((0,.slice 0 b d e 1)::(1,vl (qa .u64) a)::(kT (a.length:Int) f (kZ I.2 (IntKind.wrap .u64 (p.1+t.2)) (kAq (a.length:Int) (w64 (g+1)))))) ?_
    exact⟨M,(ofG 186 ((0,.slice 0 b d e 1)::(1,vl (qa .u64) a)::(kT (a.length:Int) f (kZ I.2 (IntKind.wrap .u64 (p.1+t.2)) (kAq (a.length:Int) (w64 (g+1)))))),[.cells (a0.flatMap (qa .u64).c)]),Nat.lt_succ_self _,(Sub.refl _),_,_,_,_,rfl,g38⟩
   refine Goes.exit ?_
   obtain rfl:=si g38
   exact⟨rfl,_,_,_,rfl,(Sub.keep [0,1,5,6,11,12] rfl rfl)⟩
 rintro x s' ⟨rfl,C,a7,a8,rfl,hsub⟩
 try dsimp only at h
 refine Goes.sub hsub ?_
 obtain⟨d6,w,h⟩:=bnd h
 obtain⟨L,c1,h⟩:=bnd h
 obtain⟨a9,c2,h⟩:=bnd h
 refine sq (gq fol [4,5,8,12,13] ((0,.slice 0 b d e 1)::(1,vl (qa .u64) a)::(kT (a.length:Int) f [(11,.int .u64 L.2)])) [.cells (a9.flatMap (qa .u64).c)] (ac (hs (.done (.opt (qj ZT 93 (.slice 0 b d e 1) (.i (a.length:Int)))) (.ptr 0 ((((b+((a.length:Int):Int).toNat:Nat):Int):Int).toNat*1+0))) (qdi zS w)) (ac (hs (.run [0] (jo ZT 245 (.ptr 0 ((((b+((a.length:Int):Int).toNat:Nat):Int):Int).toNat*1+0))) [.cells (C.flatMap (qa .u64).c)] (.int .u64 d6) [.cells (C.flatMap (qa .u64).c)] false) (qcC z8 (E:=(qa .u64)) (l:=C) rfl rfl (wI w) (nl rfl) rfl)) (ac (cv (qhJ d6 a8 a7 c1)) (ac (hs (.done (.opt (qj ZT 93 (.slice 0 b d e 1) (.i (a.length:Int)))) (.ptr 0 ((((b+((a.length:Int):Int).toNat:Nat):Int):Int).toNat*1+0))) (qdi zS w)) (ac (hs (.run [0] (qw ZT 245 (.ptr 0 ((((b+((a.length:Int):Int).toNat:Nat):Int):Int).toNat*1+0)) (.int .u64 L.1)) [.cells (C.flatMap (qa .u64).c)] .undef [.cells (a9.flatMap (qa .u64).c)] true) (qae (E:=(qa .u64)) (l:=C) (y:=L.1) rfl (show _=some 1 by kernel_rfl) rfl (wI w) rfl rfl rfl rfl rfl c2 rfl)) az))))) ?_)
 refine Goes.sub (show Sub (ofG 186 ((0,.slice 0 b d e 1)::(1,vl (qa .u64) a)::(kT (a.length:Int) f [(11,.int .u64 L.2)])),[.cells (a9.flatMap (qa .u64).c)]) (ofG 186 ((0,.slice 0 b d e 1)::(1,vl (qa .u64) a)::(kT (a.length:Int) f [(11,.int .u64 L.2)])),[.cells (a9.flatMap (qa .u64).c)])from(Sub.norm [] [some 0] (by rw[hB];rfl) rfl (.keep (.slice rfl) (.keep (.same (qf (qa .u64) _)) (.keep (.same nI) (.keep (.same nI) (.keep (.same nI) .nil))))) (.ks .nil))) ?_
 refine sq ?_
 refine sh fol ((0,.slice 0 b d e 1)::(1,vl (qa .u64) a)::(kT (a.length:Int) f [(154,.bool (decide (L.2=0)))])) ?_
 refine ihD h (fun c51 h=>?_) (fun c51 h=>?_)
 ·refine sh fol [(4,.int .u64 f)] ?_
  refine Goes.ret ?_
  simp only[ZI,ZP]at h
  obtain⟨rfl,rfl⟩:=h
  exact(gh2 [.int .u64 f] (qf4.refl _ _))
 refine Goes.skip ?_
 refine sh fol ((0,.slice 0 b d e 1)::(1,vl (qa .u64) a)::(kT (a.length:Int) f [(17,.int .u64 0)])) ?_
 refine sq ?_
 refine sh fol ((0,.slice 0 b d e 1)::(1,vl (qa .u64) a)::(kT (a.length:Int) f [(17,.int .u64 0),(156,.i (a.length:Int)),(157,.i 0)])) ?_
 refine Goes.block ?_
 obtain⟨d7,g57,h⟩:=bnd h
 refine Goes.imp (Q:=fun x s'=>(x= .exit 4/\ ∃G a1,(G,a1)=d7/\Sub s' (ofG 186 ((0,.slice 0 b d e 1)::(kT (a.length:Int) f [(17,.int .u64 a1)])),[.cells (G.flatMap (qa .u64).c)]))) ?_ ?_
 ·refine Uc (fun M s=> ∃(H:List Int) (n:Int) (O:Int),s=(ofG 186 ((0,.slice 0 b d e 1)::(1,vl (qa .u64) a)::(kT (a.length:Int) f (kAt O (a.length:Int) n []))),[.cells (H.flatMap (qa .u64).c)])/\jY b d a M H n O=some d7) ?_ (m:=N) ⟨_,_,_,rfl,g57⟩
  rintro M s ⟨H,n,O,rfl,g57⟩
  cases M with
  |zero=>simp only[jY]at g57;cases g57
  |succ M=>
   rw[jY]at g57
   refine sh fol ((0,.slice 0 b d e 1)::(1,vl (qa .u64) a)::(kT (a.length:Int) f (kAt O (a.length:Int) n [(158,.bool (decide (n<(a.length:Int))))]))) ?_
   refine sq ?_
   refine ihD g57 (fun c58 g57=>?_) (fun c58 g57=>?_)
   ·refine Goes.skip ?_
    refine sq (Goes.block ?_)
    refine sh fol ((0,.slice 0 b d e 1)::(1,vl (qa .u64) a)::(kT (a.length:Int) f [(17,.int .u64 O),(18,.i n),(156,.i (a.length:Int)),(157,.i n)])) ?_
    obtain⟨d8,z,g57⟩:=bnd g57
    obtain⟨x60,a2,g57⟩:=bnd g57
    obtain⟨J,c3,g57⟩:=bnd g57
    obtain⟨a3,c4,g57⟩:=bnd g57
    refine gq fol [4,5,8,9,11,15,16] ((0,.slice 0 b d e 1)::(1,vl (qa .u64) a)::(kT (a.length:Int) f (kAt J.2 (a.length:Int) n []))) [.cells (a3.flatMap (qa .u64).c)] (ac (hs (.done (.opt (qj ZT 93 (.slice 0 b d e 1) (.i n))) (.ptr 0 ((((b+(n:Int).toNat:Nat):Int):Int).toNat*1+0))) (qdi zS z)) (ac (hs (.run [0] (jo ZT 245 (.ptr 0 ((((b+(n:Int).toNat:Nat):Int):Int).toNat*1+0))) [.cells (H.flatMap (qa .u64).c)] (.int .u64 d8) [.cells (H.flatMap (qa .u64).c)] false) (qcC z8 (E:=(qa .u64)) (l:=H) rfl rfl (wI z) (nl rfl) rfl)) (ac (iv zS (qa .u64) a2) (ac (lv 0 z8 (qa .u64) a2 rfl) (ac (cv (qch d8 x60 O c3)) (ac (hs (.done (.opt (qj ZT 93 (.slice 0 b d e 1) (.i n))) (.ptr 0 ((((b+(n:Int).toNat:Nat):Int):Int).toNat*1+0))) (qdi zS z)) (ac (hs (.run [0] (qw ZT 245 (.ptr 0 ((((b+(n:Int).toNat:Nat):Int):Int).toNat*1+0)) (.int .u64 J.1)) [.cells (H.flatMap (qa .u64).c)] .undef [.cells (a3.flatMap (qa .u64).c)] true) (qae (E:=(qa .u64)) (l:=H) (y:=J.1) rfl (show _=some 1 by kernel_rfl) rfl (wI z) rfl rfl rfl rfl rfl c4 rfl)) az))))))) ?_
    refine Goes.sub (show Sub (ofG 186 ((0,.slice 0 b d e 1)::(1,vl (qa .u64) a)::(kT (a.length:Int) f (kAt J.2 (a.length:Int) n []))),[.cells (a3.flatMap (qa .u64).c)]) (ofG 186 ((0,.slice 0 b d e 1)::(1,vl (qa .u64) a)::(kT (a.length:Int) f (kAt J.2 (a.length:Int) n []))),[.cells (a3.flatMap (qa .u64).c)])from(Sub.norm [] [some 0] (by rw[hB];rfl) rfl (.keep (.slice rfl) (.keep (.same (qf (qa .u64) _)) (.keep (.same nI) (.keep (.same nI) (.keep (.same nI) (.keep (.same nI) (.keep (.same nI) .nil))))))) (.ks .nil))) ?_
    refine gh fol ((0,.slice 0 b d e 1)::(1,vl (qa .u64) a)::(kT (a.length:Int) f (kAt J.2 (a.length:Int) (w64 (n+1)) []))) ?_
    exact⟨M,(ofG 186 ((0,.slice 0 b d e 1)::(1,vl (qa .u64) a)::(kT (a.length:Int) f (kAt J.2 (a.length:Int) (w64 (n+1)) []))),[.cells (a3.flatMap (qa .u64).c)]),Nat.lt_succ_self _,(Sub.refl _),_,_,_,rfl,g57⟩
   refine Goes.exit ?_
   obtain rfl:=si g57
   exact⟨rfl,_,_,rfl,(Sub.keep [0,5,6,17] rfl rfl)⟩
 rintro x s' ⟨rfl,G,a1,rfl,hsub⟩
 try dsimp only at h
 refine Goes.sub hsub ?_
 obtain⟨c5,A,h⟩:=bnd h
 obtain⟨b0,c6,h⟩:=bnd h
 refine sq (gq fol [2,3,6,7] (kAL f []) [.cells (b0.flatMap (qa .u64).c)] (ac (hs (.done (.opt (qj ZT 93 (.slice 0 b d e 1) (.i (a.length:Int)))) (.ptr 0 ((((b+((a.length:Int):Int).toNat:Nat):Int):Int).toNat*1+0))) (qdi zS A)) (ac (hs (.run [0] (jo ZT 245 (.ptr 0 ((((b+((a.length:Int):Int).toNat:Nat):Int):Int).toNat*1+0))) [.cells (G.flatMap (qa .u64).c)] (.int .u64 c5) [.cells (G.flatMap (qa .u64).c)] false) (qcC z8 (E:=(qa .u64)) (l:=G) rfl rfl (wI A) (nl rfl) rfl)) (ac (hs (.done (.opt (qj ZT 93 (.slice 0 b d e 1) (.i (a.length:Int)))) (.ptr 0 ((((b+((a.length:Int):Int).toNat:Nat):Int):Int).toNat*1+0))) (qdi zS A)) (ac (hs (.run [0] (qw ZT 245 (.ptr 0 ((((b+((a.length:Int):Int).toNat:Nat):Int):Int).toNat*1+0)) (.int .u64 (IntKind.wrap .u64 (c5+a1)))) [.cells (G.flatMap (qa .u64).c)] .undef [.cells (b0.flatMap (qa .u64).c)] true) (qae (E:=(qa .u64)) (l:=G) (y:=IntKind.wrap .u64 (c5+a1)) rfl (show _=some 1 by kernel_rfl) rfl (wI A) rfl rfl rfl rfl rfl c6 rfl)) az)))) ?_)
 refine Goes.sub (show Sub (ofG 186 (kAL f []),[.cells (b0.flatMap (qa .u64).c)]) (ofG 186 (kAL f []),[.cells (b0.flatMap (qa .u64).c)])from(Sub.norm [] [some 0] (by rw[hB];rfl) rfl (.keep (.same nI) .nil) (.ks .nil))) ?_
 refine sh fol [(4,.int .u64 (IntKind.wrap .u64 (f-1)))] ?_
 refine Goes.ret ?_
 simp only[ZI,ZP]at h
 obtain⟨rfl,rfl⟩:=h
 exact(gh2 [.int .u64 (IntKind.wrap .u64 (f-1))] (qf4.refl _ _))
def vP (N:Nat) (a:List Int) (b:List Int):Nat->(List Int)->Int->Int->Option ((List Int)×Int)
 |0,_,_,_=>none
 |K+1,e,i,c=>
  if c>=0 then
  (idx a c).bind fun f=>
  (idx b 0).bind fun g=>
  (qaY N i f g).bind fun d=>
  (idx e c).bind fun j=>
  (put e c d.1).bind fun h=>
  vP N a b K h d.2 (w64 (c-1))
  else
  some (e,i)
def vV (N:Nat) (c:List Int):Nat->(List Int)->(List Int)->Int->Option ((List Int)×(List Int))
 |0,_,_,_=>none
 |K+1,b,d,a=>
  if a>=0 then
  (win b a (w64 ((w64 (a+(c.length:Int)))+1))).bind fun(e,g)=>
  (qbG N b e g (b.length-e) c).bind fun(f,h)=>
  ((if b.length=f.length then some ()else none:Option Unit)).bind fun j=>
  (idx d a).bind fun k=>
  (put d a h).bind fun i=>
  vV N c K f i (w64 (a-1))
  else
  some (b,d)
def jU (c:Int) (e:List Int):Nat->(List Int)->Int->Option (List Int)
 |0,_,_=>none
 |K+1,d,a=>
  if a<(e.length:Int)then
  (((idx d a).bind fun f=>
  (qkv .u64 f c).bind fun g=>
  (put d a g).bind fun b=>
  (if c>0 then
  some (decide ((w64 (a+1))<(b.length:Int)))
  else
  some false:Option Bool).bind fun h=>
  if h=true then
  (idx b a).bind fun i=>
  (idx b (w64 (a+1))).bind fun j=>
  (qhj .u64 j (w64 (64-c))).bind fun k=>
  (put b a (orI .u64 i k)).bind fun l=>
  some l
  else
  some b:Option (List Int))).bind fun m=>
  jU c e K m (w64 (a+1))
  else
  some d
def qaR (N:Nat) (a:List Int) (b:List Int):Option ((List Int)×(List Int)):=
 (jO N a b).bind fun q=>
 if q<0 then
 some ([],a)
 else
 if(b.length:Int)=1 then
 (mk 8 (a.length:Int) 0).bind fun r=>
 (vP N a b N r 0 (w64 ((a.length:Int)-1))).bind fun(s,t)=>
 (yR N s).bind fun e=>
 (yR N ([t]:List Int)).bind fun f=>
 some (e,f)
 else
 (idx b (w64 ((b.length:Int)-1))).bind fun g=>
 (bits_LeadingZeros64 g).bind fun d=>
 (yX N b d).bind fun h=>
 (yR N h).bind fun c=>
 (yX N a d).bind fun i=>
 (mk 8 (w64 ((w64 ((a.length:Int)-(c.length:Int)))+1)) 0).bind fun j=>
 (vV N c N i j (w64 ((a.length:Int)-(c.length:Int)))).bind fun(k,l)=>
 (jU d c N k 0).bind fun m=>
 (yR N l).bind fun n=>
 (cut m 0 (c.length:Int)).bind fun o=>
 (yR N o).bind fun p=>
 some (n,p)
theorem qfl (N:Nat) (a:List Int) (b:List Int) {res:(List Int)×(List Int)} (h:qaR N a b=some res):qb ZT (.fn 242) [vl (qa .u64) a,vl (qa .u64) b] [] (.tuple [vl (qa .u64) res.1,vl (qa .u64) res.2]) []:=by
 unfold qaR at h
 refine Ub Tryz.func242 rfl rfl (m:=137) rfl (rs:=[.tmp 4,.tmp 5]) rfl (l:=[(0,vl (qa .u64) a),(1,vl (qa .u64) b)]) rfl ?_
 refine sh fol [(0,vl (qa .u64) a),(1,vl (qa .u64) b)] ?_
 refine sq ?_
 obtain⟨r1,e_r1,h⟩:=bnd h
 refine sq (gr fol [2] [(0,vl (qa .u64) a),(1,vl (qa .u64) b),(19,.bool (decide (r1<0)))] (ac (cv (qbT N a b e_r1)) az) ?_)
 refine ihD h (fun c2 h=>?_) (fun c2 h=>?_)
 ·refine sh fol [(4,.nilslice),(5,vl (qa .u64) a)] ?_
  refine Goes.ret ?_
  obtain rfl:=si h
  exact(gw2 [.nilslice,vl (qa .u64) a] (FzW.tuple (qc.cons (FzW.nilv (E:=(qa .u64))) (qc.cons (Ua (qy (qa .u64) _ (nl rfl))) qc.nil))))
 refine Goes.skip ?_
 refine sq ?_
 refine sh fol [(0,vl (qa .u64) a),(1,vl (qa .u64) b),(23,.bool (decide ((b.length:Int)=1)))] ?_
 refine ihD h (fun c3 h=>?_) (fun c3 h=>?_)
 ·obtain⟨l4,e_l4,h⟩:=bnd h
  refine sq (gq fol [2] ((0,vl (qa .u64) a)::(1,vl (qa .u64) b)::(kU l4 [])) [.cells (l4.flatMap (qa .u64).c)] (ac (hs (.run [] (jf ZT 93 (.i (a.length:Int)) (.i (a.length:Int))) [] (.slice 0 0 l4.length l4.length 1) [.cells (l4.flatMap (qa .u64).c)] false) (qcX zS (E:=(qa .u64)) (z:=0) rfl (by kernel_rfl) e_l4 rfl)) az) ?_)
  refine sh fol ((0,vl (qa .u64) a)::(1,vl (qa .u64) b)::(kU l4 [(7,.int .u64 0)])) ?_
  refine sq ?_
  refine sh fol ((0,vl (qa .u64) a)::(1,vl (qa .u64) b)::(kU l4 [(7,.int .u64 0),(8,.i (w64 ((a.length:Int)-1)))])) ?_
  refine Goes.block ?_
  obtain⟨r10,g10,h⟩:=bnd h
  refine Goes.imp (Q:=fun x s'=>(x= .exit 0/\ ∃J n9,(J,n9)=r10/\Sub s' (ofG 137 (kU J (kAf n9 [])),[.cells (J.flatMap (qa .u64).c)]))) ?_ ?_
  ·refine Uc (fun M s=> ∃(K:List Int) (n6:Int) (F:Int),s=(ofG 137 ((0,vl (qa .u64) a)::(1,vl (qa .u64) b)::(kU K (kAf n6 [(8,.i F)]))),[.cells (K.flatMap (qa .u64).c)])/\vP N a b M K n6 F=some r10) ?_ (m:=N) ⟨_,_,_,rfl,g10⟩
   rintro M s ⟨K,n6,F,rfl,g10⟩
   cases M with
   |zero=>simp only[vP]at g10;cases g10
   |succ M=>
    rw[vP]at g10
    refine sq ?_
    refine sh fol ((0,vl (qa .u64) a)::(1,vl (qa .u64) b)::(kU K (kAf n6 [(8,.i F),(31,.bool (decide (F>=0)))]))) ?_
    refine ihD g10 (fun c11 g10=>?_) (fun c11 g10=>?_)
    ·refine Goes.skip ?_
     refine sq (Goes.block ?_)
     obtain⟨x12,L,g10⟩:=bnd g10
     obtain⟨x13,O,g10⟩:=bnd g10
     obtain⟨C,e_r14,g10⟩:=bnd g10
     obtain⟨x15,P,g10⟩:=bnd g10
     obtain⟨A,U,g10⟩:=bnd g10
     refine gq fol [5,6,8,9,10,14,15] ((0,vl (qa .u64) a)::(1,vl (qa .u64) b)::(kU K (kAf C.2 [(8,.i F)]))) [.cells (A.flatMap (qa .u64).c)] (ac (iv zS (qa .u64) L) (ac (lv 0 z8 (qa .u64) L rfl) (ac (iv zS (qa .u64) O) (ac (lv 0 z8 (qa .u64) O rfl) (ac (cv (qfa N n6 x12 x13 e_r14)) (ac (hs (.done (.opt (qj ZT 93 (.slice 0 0 K.length K.length 1) (.i F))) (.ptr 0 ((F:Int).toNat*1+0))) (qao zS P)) (ac (hs (.run [0] (qw ZT 245 (.ptr 0 ((F:Int).toNat*1+0)) (.int .u64 C.1)) [.cells (K.flatMap (qa .u64).c)] .undef [.cells (A.flatMap (qa .u64).c)] true) (qae (E:=(qa .u64)) (l:=K) (y:=C.1) rfl (show _=some 1 by kernel_rfl) rfl P rfl rfl rfl rfl rfl U rfl)) az))))))) ?_
     refine Goes.sub (show Sub (ofG 137 ((0,vl (qa .u64) a)::(1,vl (qa .u64) b)::(kU K (kAf C.2 [(8,.i F)]))),[.cells (A.flatMap (qa .u64).c)]) (ofG 137 ((0,vl (qa .u64) a)::(1,vl (qa .u64) b)::(kU A (kAf C.2 [(8,.i F)]))),[.cells (A.flatMap (qa .u64).c)])from(Sub.norm [] [some 0] rfl rfl (.keep (.same (qf (qa .u64) _)) (.keep (.same (qf (qa .u64) _)) (.keep (.sliceE rfl (vI U)) (.keep (.same nI) (.keep (.same nI) .nil))))) (.ks .nil))) ?_
     refine gh fol ((0,vl (qa .u64) a)::(1,vl (qa .u64) b)::(kU A (kAf C.2 [(8,.i (w64 (F-1)))]))) ?_
     exact⟨M,(ofG 137 ((0,vl (qa .u64) a)::(1,vl (qa .u64) b)::(kU A (kAf C.2 [(8,.i (w64 (F-1)))]))),[.cells (A.flatMap (qa .u64).c)]),Nat.lt_succ_self _,(Sub.refl _),_,_,_,rfl,g10⟩
    refine Goes.exit ?_
    obtain rfl:=si g10
    exact⟨rfl,_,_,rfl,(Sub.keep [6,7] rfl rfl)⟩
  rintro x s' ⟨rfl,J,n9,rfl,hsub⟩
  try dsimp only at h
  refine Goes.sub hsub ?_
  obtain⟨V,e_r17,h⟩:=bnd h
  obtain⟨X,e_r18,h⟩:=bnd h
  refine sq (gq fol [1,4] [(4,vl (qa .u64) V),(5,vl (qa .u64) X)] [.frozen (J.flatMap (qa .u64).c),.frozen [.int .u64 n9]] (ac (hs (.callF 225 [.slice 0 0 J.length J.length 1] [.cells (J.flatMap (qa .u64).c)] [0] [vl (qa .u64) J] (vl (qa .u64) V)) (yj (FzL.cons (Fz.sl (E:=(qa .u64)) rfl rfl (nl rfl)) FzL.nil) (xg N J e_r17) (qy (qa .u64) _ (nl rfl)))) (ac (hs (.callF 225 [.slice 1 0 1 1 1] [.frozen (J.flatMap (qa .u64).c),.cells [.int .u64 n9]] [1] [vl (qa .u64) ([n9]:List Int)] (vl (qa .u64) X)) (yj (FzL.cons (Fz.lit rfl rfl (Ue (AllST.cons tI AllST.nil))) FzL.nil) (xg N ([n9]:List Int) e_r18) (qy (qa .u64) _ (nl rfl)))) az)) ?_)
  refine Goes.sub (show Sub (ofG 137 [(4,vl (qa .u64) V),(5,vl (qa .u64) X)],[.frozen (J.flatMap (qa .u64).c),.frozen [.int .u64 n9]]) (ofG 137 [(4,vl (qa .u64) V),(5,vl (qa .u64) X)],[])from(Sub.norm [] [] rfl rfl (.keep (.same (qf (qa .u64) _)) (.keep (.same (qf (qa .u64) _)) .nil)) .nil)) ?_
  refine Goes.ret ?_
  obtain rfl:=si h
  exact(gw2 [vl (qa .u64) V,vl (qa .u64) X] (FzW.tuple (qc.cons (Ua (qy (qa .u64) _ (nl rfl))) (qc.cons (Ua (qy (qa .u64) _ (nl rfl))) qc.nil))))
 refine Goes.skip ?_
 obtain⟨x19,Y,h⟩:=bnd h
 obtain⟨g,e_r20,h⟩:=bnd h
 refine sq (gr fol [4,5,6] [(0,vl (qa .u64) a),(1,vl (qa .u64) b),(9,.i g)] (ac (iv zS (qa .u64) Y) (ac (lv 0 z8 (qa .u64) Y rfl) (ac (cv (qbp x19 e_r20)) az))) ?_)
 obtain⟨t,e_r21,h⟩:=bnd h
 obtain⟨d,e_r23,h⟩:=bnd h
 refine sq (gq fol [2,3] [(0,vl (qa .u64) a),(9,.i g),(10,vl (qa .u64) d)] [.frozen (t.flatMap (qa .u64).c)] (ac (hs (.callH 287 [vl (qa .u64) b,.i g] [] [] (.slice 0 0 t.length t.length 1) [.cells (t.flatMap (qa .u64).c)]) (qgw [] [some 0] (qcJ N b g e_r21) .nil rfl rfl (.new rfl rfl (.same fa) rfl .nil) (rc (.same (qf (qa .u64) _)) (rc (.same nI) rn)) (.slice rfl) rfl)) (ac (hs (.callF 225 [.slice 0 0 t.length t.length 1] [.cells (t.flatMap (qa .u64).c)] [0] [vl (qa .u64) t] (vl (qa .u64) d)) (yj (FzL.cons (Fz.sl (E:=(qa .u64)) rfl rfl (nl rfl)) FzL.nil) (xg N t e_r23) (qy (qa .u64) _ (nl rfl)))) az)) ?_)
 refine Goes.sub (show Sub (ofG 137 [(0,vl (qa .u64) a),(9,.i g),(10,vl (qa .u64) d)],[.frozen (t.flatMap (qa .u64).c)]) (ofG 137 [(0,vl (qa .u64) a),(9,.i g),(10,vl (qa .u64) d)],[])from(Sub.norm [] [] rfl rfl (.keep (.same (qf (qa .u64) _)) (.keep (.same nI) (.keep (.same (qf (qa .u64) _)) .nil))) .nil)) ?_
 obtain⟨p,e_r24,h⟩:=bnd h
 refine sq (gq fol [2] [(0,vl (qa .u64) a),(9,.i g),(10,vl (qa .u64) d),(11,.slice 0 0 p.length p.length 1)] [.cells (p.flatMap (qa .u64).c)] (ac (hs (.callH 287 [vl (qa .u64) a,.i g] [] [] (.slice 0 0 p.length p.length 1) [.cells (p.flatMap (qa .u64).c)]) (qgw [] [some 0] (qcJ N a g e_r24) .nil rfl rfl (.new rfl rfl (.same fa) rfl .nil) (rc (.same (qf (qa .u64) _)) (rc (.same nI) rn)) (.slice rfl) rfl)) az) ?_)
 refine sh fol [(0,vl (qa .u64) a),(9,.i g),(10,vl (qa .u64) d),(11,.slice 0 0 p.length p.length 1),(12,.i (d.length:Int))] ?_
 obtain⟨G,e_l26,h⟩:=bnd h
 refine sq (gq fol [5] ((0,vl (qa .u64) a)::(9,.i g)::(10,vl (qa .u64) d)::(kG p (d.length:Int) G [])) [.cells (p.flatMap (qa .u64).c),.cells (G.flatMap (qa .u64).c)] (ac (hs (.run [] (jf ZT 93 (.i (w64 ((w64 ((a.length:Int)-(d.length:Int)))+1))) (.i (w64 ((w64 ((a.length:Int)-(d.length:Int)))+1)))) [.cells (p.flatMap (qa .u64).c)] (.slice 1 0 G.length G.length 1) [.cells (p.flatMap (qa .u64).c),.cells (G.flatMap (qa .u64).c)] false) (qcX zS (E:=(qa .u64)) (z:=0) rfl (by kernel_rfl) e_l26 rfl)) az) ?_)
 refine sq ?_
 refine sh fol ((9,.i g)::(10,vl (qa .u64) d)::(kG p (d.length:Int) G [(14,.i (w64 ((a.length:Int)-(d.length:Int))))])) ?_
 refine Goes.block ?_
 obtain⟨r32,g32,h⟩:=bnd h
 refine Goes.imp (Q:=fun x s'=>(x= .exit 2/\ ∃Z e,(Z,e)=r32/\Sub s' (ofG 137 ((9,.i g)::(kG Z (d.length:Int) e [])),[.cells (Z.flatMap (qa .u64).c),.cells (e.flatMap (qa .u64).c)]))) ?_ ?_
 ·refine Uc (fun M s=> ∃(o:List Int) (q:List Int) (n:Int),s=(ofG 137 ((9,.i g)::(10,vl (qa .u64) d)::(kG o (d.length:Int) q [(14,.i n)])),[.cells (o.flatMap (qa .u64).c),.cells (q.flatMap (qa .u64).c)])/\vV N d M o q n=some r32) ?_ (m:=N) ⟨_,_,_,rfl,g32⟩
  rintro M s ⟨o,q,n,rfl,g32⟩
  cases M with
  |zero=>simp only[vV]at g32;cases g32
  |succ M=>
   rw[vV]at g32
   refine sq ?_
   refine sh fol ((9,.i g)::(10,vl (qa .u64) d)::(kG o (d.length:Int) q [(14,.i n),(81,.bool (decide (n>=0)))])) ?_
   refine ihD g32 (fun c33 g32=>?_) (fun c33 g32=>?_)
   ·refine Goes.skip ?_
    refine sq (Goes.block ?_)
    obtain⟨⟨H,n36⟩,e_w34,g32⟩:=bnd g32
    try dsimp only at g32
    obtain⟨⟨u,n39⟩,e_r37,g32⟩:=bnd g32
    try dsimp only at g32
    obtain⟨u40,e_u40,g32⟩:=bnd g32
    obtain⟨x41,a0,g32⟩:=bnd g32
    obtain⟨B,a1,g32⟩:=bnd g32
    refine gq fol [8,10,11,12] ((9,.i g)::(10,vl (qa .u64) d)::(kG o (d.length:Int) q [(14,.i n)])) [.cells (u.flatMap (qa .u64).c),.cells (B.flatMap (qa .u64).c)] (ac (hs (.done (.opt (qY ZT 93 (.slice 0 0 o.length o.length 1) (some (.i n)) (some (.i (w64 ((w64 (n+(d.length:Int)))+1)))) none)) (.slice 0 H n36 (o.length-H) 1)) (wn_ix zS e_w34)) (ac (hs (.callH 288 [.slice 0 H n36 (o.length-H) 1,vl (qa .u64) d] [.cells (o.flatMap (qa .u64).c),.cells (q.flatMap (qa .u64).c)] [0] (.int .u64 n39) [.cells (u.flatMap (qa .u64).c),.cells (q.flatMap (qa .u64).c)]) (qgw [some 0] [some 0,none] (qig N o H n36 (o.length-H) d e_r37) (.ks .nil) rfl rfl (.back rfl rfl (.same fa) rfl (.old rfl rfl .nil)) (rc (.slice rfl) (rc (.same (qf (qa .u64) _)) rn)) (.same nI) rfl)) (ac (hs (.done (.opt (qj ZT 93 (.slice 1 0 q.length q.length 1) (.i n))) (.ptr 1 ((n:Int).toNat*1+0))) (qao zS a0)) (ac (hs (.run [1] (qw ZT 245 (.ptr 1 ((n:Int).toNat*1+0)) (.int .u64 n39)) [.cells (u.flatMap (qa .u64).c),.cells (q.flatMap (qa .u64).c)] .undef [.cells (u.flatMap (qa .u64).c),.cells (B.flatMap (qa .u64).c)] true) (qae (E:=(qa .u64)) (l:=q) (y:=n39) rfl (show _=some 1 by kernel_rfl) rfl a0 rfl rfl rfl rfl rfl a1 rfl)) az)))) ?_
    refine Goes.sub (show Sub (ofG 137 ((9,.i g)::(10,vl (qa .u64) d)::(kG o (d.length:Int) q [(14,.i n)])),[.cells (u.flatMap (qa .u64).c),.cells (B.flatMap (qa .u64).c)]) (ofG 137 ((9,.i g)::(10,vl (qa .u64) d)::(kG u (d.length:Int) B [(14,.i n)])),[.cells (u.flatMap (qa .u64).c),.cells (B.flatMap (qa .u64).c)])from(Sub.norm [] [some 0,some 1] rfl rfl (.keep (.same nI) (.keep (.same (qf (qa .u64) _)) (.keep (.sliceE rfl (qp8 e_u40)) (.keep (.same nI) (.keep (.sliceE rfl (vI a1)) (.keep (.same nI) .nil)))))) (.ks (.ks .nil)))) ?_
    refine gh fol ((9,.i g)::(10,vl (qa .u64) d)::(kG u (d.length:Int) B [(14,.i (w64 (n-1)))])) ?_
    exact⟨M,(ofG 137 ((9,.i g)::(10,vl (qa .u64) d)::(kG u (d.length:Int) B [(14,.i (w64 (n-1)))])),[.cells (u.flatMap (qa .u64).c),.cells (B.flatMap (qa .u64).c)]),Nat.lt_succ_self _,(Sub.refl _),_,_,_,rfl,g32⟩
   refine Goes.exit ?_
   obtain rfl:=si g32
   exact⟨rfl,_,_,rfl,(Sub.keep [9,11,12,13] rfl rfl)⟩
 rintro x s' ⟨rfl,Z,e,rfl,hsub⟩
 try dsimp only at h
 refine Goes.sub hsub ?_
 refine sq ?_
 refine sh fol ((9,.i g)::(kG Z (d.length:Int) e [(96,.i (d.length:Int)),(97,.i 0)])) ?_
 refine Goes.block ?_
 obtain⟨r46,g46,h⟩:=bnd h
 refine Goes.imp (Q:=fun x s'=>(x= .exit 4/\ ∃I,I=r46/\Sub s' (ofG 137 (kG I (d.length:Int) e []),[.cells (I.flatMap (qa .u64).c),.cells (e.flatMap (qa .u64).c)]))) ?_ ?_
 ·refine Uc (fun M s=> ∃(k:List Int) (f:Int),s=(ofG 137 ((9,.i g)::(kG k (d.length:Int) e (kAx (d.length:Int) f))),[.cells (k.flatMap (qa .u64).c),.cells (e.flatMap (qa .u64).c)])/\jU g d M k f=some r46) ?_ (m:=N) ⟨_,_,rfl,g46⟩
  rintro M s ⟨k,f,rfl,g46⟩
  cases M with
  |zero=>simp only[jU]at g46;cases g46
  |succ M=>
   rw[jU]at g46
   refine sh fol ((9,.i g)::(kG k (d.length:Int) e [(96,.i (d.length:Int)),(97,.i f),(98,.bool (decide (f<(d.length:Int))))])) ?_
   refine sq ?_
   refine ihD g46 (fun c47 g46=>?_) (fun c47 g46=>?_)
   ·refine Goes.skip ?_
    refine sq ?_
    obtain⟨r49,g49,g46⟩:=bnd g46
    refine Goes.imp (Q:=fun x s'=>(x= .normal/\ ∃D,D=r49/\Sub s' (ofG 137 ((9,.i g)::(kG D (d.length:Int) e (kAx (d.length:Int) f))),[.cells (D.flatMap (qa .u64).c),.cells (e.flatMap (qa .u64).c)]))) ?_ ?_
    ·refine Goes.block ?_
     refine sh fol ((9,.i g)::(kG k (d.length:Int) e ((15,.i f)::(kAx (d.length:Int) f)))) ?_
     obtain⟨x50,v,g49⟩:=bnd g49
     obtain⟨q51,e_q51,g49⟩:=bnd g49
     obtain⟨j,a2,g49⟩:=bnd g49
     refine sq (gq fol [2,3,5,6,7] ((9,.i g)::(kG k (d.length:Int) e ((15,.i f)::(kAx (d.length:Int) f)))) [.cells (j.flatMap (qa .u64).c),.cells (e.flatMap (qa .u64).c)] (ac (hs (.done (.opt (qj ZT 93 (.slice 0 0 k.length k.length 1) (.i f))) (.ptr 0 ((f:Int).toNat*1+0))) (qao zS v)) (ac (hs (.run [0] (jo ZT 245 (.ptr 0 ((f:Int).toNat*1+0))) [.cells (k.flatMap (qa .u64).c),.cells (e.flatMap (qa .u64).c)] (.int .u64 x50) [.cells (k.flatMap (qa .u64).c),.cells (e.flatMap (qa .u64).c)] false) (qcC z8 (E:=(qa .u64)) (l:=k) rfl rfl v (nl rfl) rfl)) (ac (hs (.done (.opt (kL ZT .shr 245 (.tmp 103) (.tmp 104) (.int .u64 x50) (.i g))) (.int .u64 q51)) (qhc e_q51)) (ac (hs (.done (.opt (qj ZT 93 (.slice 0 0 k.length k.length 1) (.i f))) (.ptr 0 ((f:Int).toNat*1+0))) (qao zS v)) (ac (hs (.run [0] (qw ZT 245 (.ptr 0 ((f:Int).toNat*1+0)) (.int .u64 q51)) [.cells (k.flatMap (qa .u64).c),.cells (e.flatMap (qa .u64).c)] .undef [.cells (j.flatMap (qa .u64).c),.cells (e.flatMap (qa .u64).c)] true) (qae (E:=(qa .u64)) (l:=k) (y:=q51) rfl (show _=some 1 by kernel_rfl) rfl v rfl rfl rfl rfl rfl a2 rfl)) az))))) ?_)
     refine Goes.sub (show Sub (ofG 137 ((9,.i g)::(kG k (d.length:Int) e ((15,.i f)::(kAx (d.length:Int) f)))),[.cells (j.flatMap (qa .u64).c),.cells (e.flatMap (qa .u64).c)]) (ofG 137 ((9,.i g)::(kG j (d.length:Int) e ((15,.i f)::(kAx (d.length:Int) f)))),[.cells (j.flatMap (qa .u64).c),.cells (e.flatMap (qa .u64).c)])from(Sub.norm [] [some 0,some 1] rfl rfl (.keep (.same nI) (.keep (.sliceE rfl (vI a2)) (.keep (.same nI) (.keep (.slice rfl) (.keep (.same nI) (.keep (.same nI) (.keep (.same nI) .nil))))))) (.ks (.ks .nil)))) ?_
     refine sq ?_
     obtain⟨b54,r,g49⟩:=bnd g49
     refine Goes.cut (s':=(ofG 137 ((9,.i g)::(kG j (d.length:Int) e [(15,.i f),(96,.i (d.length:Int)),(97,.i f),(115,.bool b54)])),[.cells (j.flatMap (qa .u64).c),.cells (e.flatMap (qa .u64).c)])) ?_ ?_
     ·rcases wyD r with⟨c53,r⟩|⟨c53,r⟩
      ·obtain rfl:=si r
       exact tr fol [2] ((9,.i g)::(kG j (d.length:Int) e [(15,.i f),(96,.i (d.length:Int)),(97,.i f),(115,.bool (decide ((w64 (f+1))<(j.length:Int))))])) (ac (gw c53) az)
      obtain rfl:=si r
      exact tr fol [2] ((9,.i g)::(kG j (d.length:Int) e [(15,.i f),(96,.i (d.length:Int)),(97,.i f),(115,.bool false)])) (ac (gw c53) az)
     refine ihB g49 (fun c56 g49=>?_) (fun c56 g49=>?_)
     ·obtain⟨x57,w,g49⟩:=bnd g49
      obtain⟨x58,a3,g49⟩:=bnd g49
      obtain⟨q59,e_q59,g49⟩:=bnd g49
      obtain⟨a4,a5,g49⟩:=bnd g49
      refine gq fol [2,3,7,8,11,13,14] ((9,.i g)::(kG j (d.length:Int) e (kAx (d.length:Int) f))) [.cells (a4.flatMap (qa .u64).c),.cells (e.flatMap (qa .u64).c)] (ac (hs (.done (.opt (qj ZT 93 (.slice 0 0 j.length j.length 1) (.i f))) (.ptr 0 ((f:Int).toNat*1+0))) (qao zS w)) (ac (hs (.run [0] (jo ZT 245 (.ptr 0 ((f:Int).toNat*1+0))) [.cells (j.flatMap (qa .u64).c),.cells (e.flatMap (qa .u64).c)] (.int .u64 x57) [.cells (j.flatMap (qa .u64).c),.cells (e.flatMap (qa .u64).c)] false) (qcC z8 (E:=(qa .u64)) (l:=j) rfl rfl w (nl rfl) rfl)) (ac (hs (.done (.opt (qj ZT 93 (.slice 0 0 j.length j.length 1) (.i (w64 (f+1))))) (.ptr 0 ((w64 (f+1):Int).toNat*1+0))) (qao zS a3)) (ac (hs (.run [0] (jo ZT 245 (.ptr 0 ((w64 (f+1):Int).toNat*1+0))) [.cells (j.flatMap (qa .u64).c),.cells (e.flatMap (qa .u64).c)] (.int .u64 x58) [.cells (j.flatMap (qa .u64).c),.cells (e.flatMap (qa .u64).c)] false) (qcC z8 (E:=(qa .u64)) (l:=j) rfl rfl a3 (nl rfl) rfl)) (ac (hs (.done (.opt (kL ZT .shl 245 (.tmp 124) (.tmp 126) (.int .u64 x58) (.i (w64 (64-g))))) (.int .u64 q59)) (qf5 e_q59)) (ac (hs (.done (.opt (qj ZT 93 (.slice 0 0 j.length j.length 1) (.i f))) (.ptr 0 ((f:Int).toNat*1+0))) (qao zS w)) (ac (hs (.run [0] (qw ZT 245 (.ptr 0 ((f:Int).toNat*1+0)) (.int .u64 (orI .u64 x57 q59))) [.cells (j.flatMap (qa .u64).c),.cells (e.flatMap (qa .u64).c)] .undef [.cells (a4.flatMap (qa .u64).c),.cells (e.flatMap (qa .u64).c)] true) (qae (E:=(qa .u64)) (l:=j) (y:=orI .u64 x57 q59) rfl (show _=some 1 by kernel_rfl) rfl w rfl rfl rfl rfl rfl a5 rfl)) az))))))) ?_
      obtain rfl:=si g49
      exact⟨rfl,_,rfl,((show Sub (ofG 137 ((9,.i g)::(kG j (d.length:Int) e (kAx (d.length:Int) f))),[.cells (a4.flatMap (qa .u64).c),.cells (e.flatMap (qa .u64).c)]) (ofG 137 ((9,.i g)::(kG a4 (d.length:Int) e (kAx (d.length:Int) f))),[.cells (a4.flatMap (qa .u64).c),.cells (e.flatMap (qa .u64).c)])from(Sub.norm [] [some 0,some 1] rfl rfl (.keep (.same nI) (.keep (.sliceE rfl (vI a5)) (.keep (.same nI) (.keep (.slice rfl) (.keep (.same nI) (.keep (.same nI) .nil)))))) (.ks (.ks .nil)))).trans (Sub.refl _))⟩
     refine Goes.skip ?_
     obtain rfl:=si g49
     exact⟨rfl,_,rfl,(Sub.keep [9,11,12,13,96,97] rfl rfl)⟩
    rintro x s' ⟨rfl,D,rfl,hsub⟩
    refine Goes.sub hsub ?_
    refine gh fol ((9,.i g)::(kG D (d.length:Int) e (kAx (d.length:Int) (w64 (f+1))))) ?_
    exact⟨M,(ofG 137 ((9,.i g)::(kG D (d.length:Int) e (kAx (d.length:Int) (w64 (f+1))))),[.cells (D.flatMap (qa .u64).c),.cells (e.flatMap (qa .u64).c)]),Nat.lt_succ_self _,(Sub.refl _),_,_,rfl,g46⟩
   refine Goes.exit ?_
   obtain rfl:=si g46
   exact⟨rfl,_,rfl,(Sub.keep [11,12,13] rfl rfl)⟩
 rintro x s' ⟨rfl,I,rfl,hsub⟩
 refine Goes.sub hsub ?_
 refine sq (Goes.sub (s':=(ofG 137 [(11,vl (qa .u64) I),(12,.i (d.length:Int)),(13,.slice 0 0 e.length e.length 1)],[.cells (e.flatMap (qa .u64).c)])) (Sub.norm [0] [some 1] rfl rfl (.keep (.frz (Fz.sl (E:=(qa .u64)) rfl rfl (nl rfl)) (qf (qa .u64) _)) (.keep (.same nI) (.keep (.slice rfl) .nil))) (.ks .nil)) ?_)
 obtain⟨a6,e_r62,h⟩:=bnd h
 obtain⟨s63,e_s63,h⟩:=bnd h
 obtain⟨a7,e_r64,h⟩:=bnd h
 refine gq fol [1,4,5] [(4,vl (qa .u64) a6),(5,vl (qa .u64) a7)] [.frozen (e.flatMap (qa .u64).c)] (ac (hs (.callF 225 [.slice 0 0 e.length e.length 1] [.cells (e.flatMap (qa .u64).c)] [0] [vl (qa .u64) e] (vl (qa .u64) a6)) (yj (FzL.cons (Fz.sl (E:=(qa .u64)) rfl rfl (nl rfl)) FzL.nil) (xg N e e_r62) (qy (qa .u64) _ (nl rfl)))) (ac (hs (.done (.opt (qY ZT 93 (vl (qa .u64) I) none (some (.i (d.length:Int))) none)) (vl (qa .u64) s63)) (qmj zS (E:=(qa .u64)) rfl none (some (d.length:Int)) e_s63)) (ac (cv (xg N s63 e_r64)) az))) ?_
 refine Goes.sub (show Sub (ofG 137 [(4,vl (qa .u64) a6),(5,vl (qa .u64) a7)],[.frozen (e.flatMap (qa .u64).c)]) (ofG 137 [(4,vl (qa .u64) a6),(5,vl (qa .u64) a7)],[])from(Sub.norm [] [] rfl rfl (.keep (.same (qf (qa .u64) _)) (.keep (.same (qf (qa .u64) _)) .nil)) .nil)) ?_
 refine Goes.ret ?_
 obtain rfl:=si h
 exact(gw2 [vl (qa .u64) a6,vl (qa .u64) a7] (FzW.tuple (qc.cons (Ua (qy (qa .u64) _ (nl rfl))) (qc.cons (Ua (qy (qa .u64) _ (nl rfl))) qc.nil))))
end Go.Av
