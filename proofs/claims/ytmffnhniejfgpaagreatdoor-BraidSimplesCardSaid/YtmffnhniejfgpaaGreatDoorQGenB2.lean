/-
  Walks of functions: what each computes, as a plain function.
-/
import Derived.Test.YtmffnhniejfgpaaGreatDoorQGenB1
noncomputable section
namespace Go.Av
open Go.Proofs Go.RowKit
set_option linter.unusedSectionVars false
set_option linter.unusedVariables false
set_option linter.unusedSimpArgs false
set_option maxRecDepth 100000
def vE (N:Nat) (n:Int) (p:List Int):Option ((List Int)×Int):=
 (zn n).bind fun b=>
 (zX N n p).bind fun c=>
 (zy N ([b,c]:List Int)).bind fun a=>
 if(!decide (a=0))=true then
 some ([],a)
 else
 (kr N p).bind fun d=>
 some (d,0)
theorem qbC (N:Nat) (n:Int) (p:List Int) {res:(List Int)×Int} (h:vE N n p=some res):qa ZT (.fn 12) (kAk n p) [] (.tuple (kAT res.1 res.2)) []:=by
 unfold vE at h
 refine Ub Tryz.func12 rfl rfl (m:=19) rfl (rs:=[.tmp 4,.tmp 5]) rfl (l:=(kB n p [])) rfl ?_
 refine sh fol (kB n p []) ?_
 refine sq ?_
 obtain⟨f,b,h⟩:=bnd h
 obtain⟨g,c,h⟩:=bnd h
 obtain⟨a,d,h⟩:=bnd h
 refine sq (gq fol [1,4,6] (kQ p (kBQ a)) (kV f g) (ac (cv (zi n b)) (ac (cv (yI N n p c)) (ac (hs (.call 60 [.slice 0 0 2 2 1] (kV f g) [0] [vl encI ([f,g]:List Int)] (.i a)) (xN (FzL.cons (Fz.lit rfl rfl (Um (AllST.cons tI (AllST.cons tI AllST.nil)))) FzL.nil) (jg N ([f,g]:List Int) d) tI rfl)) az))) ?_)
 refine sh fol (kQ p [(6,.i a),(15,.bool (!decide (a=0)))]) ?_
 refine ihB h (fun k h=>?_) (fun k h=>?_)
 ·refine sh fol (kBM (kAc a)) ?_
  refine Goes.ret ?_
  obtain rfl:=si h
  exact(gw2 (kAd a) (FzW.tuple (jm.cons (FzW.nilv (E:=encI)) (jm.cons (Ua tI) jm.nil))))
 refine Goes.skip ?_
 obtain⟨j,e,h⟩:=bnd h
 refine sq (gr fol [1] ((4,vl encI j)::kBO) (ac (cv (jS N p e)) az) ?_)
 refine Goes.ret ?_
 obtain rfl:=si h
 exact(gw2 [vl encI j,.i 0] (FzW.tuple (jm.cons (Ua (jC encI _ (nl rfl))) (jm.cons (Ua tI) jm.nil))))
def zF:Nat->(List Int)->(List Int)->Int->Option (List Int)
 |0,_,_,_=>none
 |K+1,b,f,a=>
  if a<(b.length:Int)then
  (((idx b (w64 (a-1))).bind fun c=>
  (idx b a).bind fun d=>
  if c<d then
  some (b,f,w64 (a+1))
  else
  (app 8 f [a]).bind fun g=>
  (put b (w64 (a-1)) d).bind fun e=>
  (idx e a).bind fun j=>
  (put e a c).bind fun h=>
  some (h,g,1):Option ((List Int)×(List Int)×Int))).bind fun(k,l,i)=>
  zF K k l i
  else
  some f
def kD (N:Nat) (p:List Int):Option (List Int):=
 (app 8 ([]:List Int) p).bind fun a=>
 (zF N a ([]:List Int) 1).bind fun b=>
 some b
theorem vg (N:Nat) (p:List Int) {res:List Int} (h:kD N p=some res):qa ZT (.fn 14) [vl encI p] [] (vl encI res) []:=by
 unfold kD at h
 refine Ub Tryz.func14 rfl rfl (m:=46) rfl (rs:=[.tmp 2]) rfl (l:=(kH p [])) rfl ?_
 refine sh fol (kH p []) ?_
 obtain⟨r,B,h⟩:=bnd h
 refine sq (gq fol [2] [(3,.oslice 1 r.length 1)] (.dead::(kA r)) (ac (hs (.run [0] (jf ZT [22,22] (.slice 0 0 0 0 1) (vl encI p)) [.cells []] (.oslice 1 r.length 1) (.dead::(kA r)) true) (vU z8 (E:=encI) rfl (qdF (E:=encI) rfl _) (dst_z (E:=encI) rfl rfl rfl B rfl))) az) ?_)
 refine sh fol ((3,.oslice 1 r.length 1)::(kBM [])) ?_
 refine sq ?_
 refine sh fol ((3,.oslice 1 r.length 1)::(kBM [(5,.i 1)])) ?_
 refine Goes.block ?_
 obtain⟨F,g6,h⟩:=bnd h
 refine Goes.imp (Q:=fun x s'=>(x= .exit 0/\ ∃w,w=F/\Sub s' (ofG 46 (kAE w []),(kA w)))) ?_ ?_
 ·refine Goes.sub (s':=(ofG 46 (kAC r [(4,.gslice 1 ([]:List Int).length 1),(5,.i 1)]),(kJ r kZ))) (Sub.norm [] [some 1,none] rfl rfl (.keep (.oslice rfl) (.keep .nil (.keep (.same nI) .nil))) (.ks (.fresh .nil))) ?_
  refine Uc (fun M s=> ∃(c:List Int) (f:List Int) (a:Int),s=(ofG 46 (kAC c (kAn f (kAc a))),(kJ c (kA f)))/\zF M c f a=some F) ?_ (m:=N) ⟨_,_,_,rfl,g6⟩
  rintro M s ⟨c,f,a,rfl,g6⟩
  cases M with
  |zero=>simp only[zF]at g6;cases g6
  |succ M=>
   rw[zF]at g6
   refine sq ?_
   refine sh fol (kAC c (kAn f [(5,.i a),(12,.bool (decide (a<(c.length:Int))))])) ?_
   refine ihD g6 (fun G g6=>?_) (fun G g6=>?_)
   ·refine Goes.skip ?_
    obtain⟨C,g11,g6⟩:=bnd g6
    refine Goes.imp (Q:=fun x s'=>(x= .normal/\ ∃z A q,(z,A,q)=C/\Sub s' (ofG 46 (kAC z (kAn A (kAc q))),(kJ z (kA A))))) ?_ ?_
    ·refine Goes.block ?_
     refine sq ?_
     obtain⟨j,d,g11⟩:=bnd g11
     obtain⟨k,e,g11⟩:=bnd g11
     refine sq (gr fol [3,4,7,8] (kAC c (kAn f [(5,.i a),(22,.bool (decide (j<k)))])) (ac (hs (.done (.opt (qd ZT 22 (.oslice 0 c.length 1) (.i (w64 (a-1))))) (.ptr 0 ((w64 (a-1):Int).toNat*1+0))) (qcQ z8 d)) (ac (hs (.run [0] (jE ZT 3 (.ptr 0 ((w64 (a-1):Int).toNat*1+0))) (kJ c (kA f)) (.i j) (kJ c (kA f)) false) (qcy ce3 (E:=encI) (l:=c) rfl rfl d (nl rfl) rfl)) (ac (hs (.done (.opt (qd ZT 22 (.oslice 0 c.length 1) (.i a))) (.ptr 0 ((a:Int).toNat*1+0))) (qcQ z8 e)) (ac (hs (.run [0] (jE ZT 3 (.ptr 0 ((a:Int).toNat*1+0))) (kJ c (kA f)) (.i k) (kJ c (kA f)) false) (qcy ce3 (E:=encI) (l:=c) rfl rfl e (nl rfl) rfl)) az)))) ?_)
     refine ihD g11 (fun D g11=>?_) (fun D g11=>?_)
     ·refine sh fol (kAC c (kAn f (kAc (w64 (a+1))))) ?_
      refine Goes.exit ?_
      obtain rfl:=si g11
      exact⟨rfl,_,_,_,rfl,(Sub.refl _)⟩
     refine Goes.skip ?_
     obtain⟨b,t,g11⟩:=bnd g11
     refine sq (gq fol [3] (kAC c ((4,.gslice 3 b.length 1)::(kAc a))) (kJ c (kAD a (kA b))) (ac (hs (.run [1,2] (jf ZT [22,22] (.gslice 1 f.length 1) (.slice 2 0 1 1 1)) (kJ c (kJ f (kAu a []))) (.gslice 3 b.length 1) (kJ c (kAD a (kA b))) true) (vU z8 (E:=encI) rfl (qcY (E:=encI) (ys:=[a]) rfl rfl rfl rfl) (qbw (E:=encI) (l:=f) rfl rfl rfl t rfl))) az) ?_)
     obtain⟨u,n,g11⟩:=bnd g11
     obtain⟨H,v,g11⟩:=bnd g11
     obtain⟨g,o,g11⟩:=bnd g11
     refine sq (gq fol [7,8,12,13,14,15,16,17] (kAC c [(4,.gslice 3 b.length 1)]) (kJ g (kAD a (kA b))) (ac (hs (.done (.opt (qd ZT 22 (.oslice 0 c.length 1) (.i a))) (.ptr 0 ((a:Int).toNat*1+0))) (qcQ z8 e)) (ac (hs (.run [0] (jE ZT 3 (.ptr 0 ((a:Int).toNat*1+0))) (kJ c (kAD a (kA b))) (.i k) (kJ c (kAD a (kA b))) false) (qcy ce3 (E:=encI) (l:=c) rfl rfl e (nl rfl) rfl)) (ac (hs (.done (.opt (qd ZT 22 (.oslice 0 c.length 1) (.i (w64 (a-1))))) (.ptr 0 ((w64 (a-1):Int).toNat*1+0))) (qcQ z8 d)) (ac (hs (.run [0] (jE ZT 3 (.ptr 0 ((w64 (a-1):Int).toNat*1+0))) (kJ c (kAD a (kA b))) (.i j) (kJ c (kAD a (kA b))) false) (qcy ce3 (E:=encI) (l:=c) rfl rfl d (nl rfl) rfl)) (ac (hs (.done (.opt (qd ZT 22 (.oslice 0 c.length 1) (.i (w64 (a-1))))) (.ptr 0 ((w64 (a-1):Int).toNat*1+0))) (qcQ z8 d)) (ac (hs (.run [0] (jW ZT 3 (.ptr 0 ((w64 (a-1):Int).toNat*1+0)) (.i k)) (kJ c (kAD a (kA b))) .undef (kJ u (kAD a (kA b))) true) (xW (E:=encI) (l:=c) (y:=k) rfl (show _=some 1 by kernel_rfl) rfl d rfl rfl rfl rfl rfl n rfl)) (ac (hs (.done (.opt (qd ZT 22 (.oslice 0 c.length 1) (.i a))) (.ptr 0 ((a:Int).toNat*1+0))) (qcQ z8 e)) (ac (hs (.run [0] (jW ZT 3 (.ptr 0 ((a:Int).toNat*1+0)) (.i j)) (kJ u (kAD a (kA b))) .undef (kJ g (kAD a (kA b))) true) (xW (E:=encI) (l:=u) (y:=j) rfl (show _=some 1 by kernel_rfl) rfl v rfl rfl rfl rfl rfl o rfl)) az)))))))) ?_)
     refine Goes.sub (show Sub (ofG 46 (kAC c [(4,.gslice 3 b.length 1)]),(kJ g (kAD a (kA b)))) (ofG 46 (kAC g (kAn b [])),(kJ g (kA b)))from(Sub.norm [] [some 0,some 3] rfl rfl (.keep (.osliceE rfl ((vI n).trans (vI o))) (.keep (.gslice rfl) .nil)) (.ks (.ks .nil)))) ?_
     refine gh fol (kAC g (kAn b [(5,.i 1)])) ?_
     obtain rfl:=si g11
     exact⟨rfl,_,_,_,rfl,(Sub.refl _)⟩
    rintro x s' ⟨rfl,z,A,q,rfl,hsub⟩
    try dsimp only at g6
    exact⟨M,(ofG 46 (kAC z (kAn A (kAc q))),(kJ z (kA A))),Nat.lt_succ_self _,(hsub.trans (Sub.refl _)),_,_,_,rfl,g6⟩
   refine Goes.exit ?_
   obtain rfl:=si g6
   exact⟨rfl,_,rfl,(Sub.norm [] [some 1] rfl rfl (.drop (.keep (.gslice rfl) .nil)) (.ks .nil))⟩
 rintro x s' ⟨rfl,w,rfl,hsub⟩
 refine Goes.sub hsub ?_
 refine sh fol (kA7 w) ?_
 refine Goes.ret ?_
 obtain rfl:=si h
 exact(gw2 [.gslice 0 w.length 1] (Uu (Fz.gs (E:=encI) rfl rfl (nl rfl))))
def kY (n:Int):Nat->(List Int)->Int->Option (List Int)
 |0,_,_=>none
 |K+1,b,a=>
  if a<n then
  (app 8 b [w64 ((w64 (n-1))-a)]).bind fun c=>
  kY n K c (w64 (a+1))
  else
  some b
def jk (N:Nat) (n:Int):Option (List Int):=
 (kY n N ([]:List Int) 0).bind fun a=>
 some a
theorem yO (N:Nat) (n:Int) {res:List Int} (h:jk N n=some res):qa ZT (.fn 76) [.i n] [] (vl encI res) []:=by
 unfold jk at h
 refine Ub Tryz.func76 rfl rfl (m:=18) rfl (rs:=[.tmp 2]) rfl (l:=(kBT n)) rfl ?_
 refine sh fol (kBT n) ?_
 refine sh fol ((0,.i n)::(kAs [])) ?_
 refine sq ?_
 refine sh fol ((0,.i n)::(kAs kA9)) ?_
 refine Goes.block ?_
 obtain⟨f,g4,h⟩:=bnd h
 refine Goes.imp (Q:=fun x s'=>(x= .exit 0/\ ∃d,d=f/\Sub s' (ofG 18 (kAH d []),(kA d)))) ?_ ?_
 ·refine Goes.sub (s':=(ofG 18 ((0,.i n)::(kBD kA9)),kZ)) (Sub.norm [] [none] rfl rfl (.keep (.same nI) (.keep .nil (.keep (.same nI) .nil))) (.fresh .nil)) ?_
  refine Uc (fun M s=> ∃(b:List Int) (a:Int),s=(ofG 18 ((0,.i n)::(kAH b (kAX a))),(kA b))/\kY n M b a=some f) ?_ (m:=N) ⟨_,_,rfl,g4⟩
  rintro M s ⟨b,a,rfl,g4⟩
  cases M with
  |zero=>simp only[kY]at g4;cases g4
  |succ M=>
   rw[kY]at g4
   refine sq ?_
   refine sh fol ((0,.i n)::(kAH b [(4,.i a),(7,.bool (decide (a<n)))])) ?_
   refine ihD g4 (fun g g4=>?_) (fun g g4=>?_)
   ·refine Goes.skip ?_
    refine sq (Goes.block ?_)
    obtain⟨c,e,g4⟩:=bnd g4
    refine gq fol [6] ((0,.i n)::(kBE c (kAX a))) (kAD (w64 ((w64 (n-1))-a)) (kA c)) (ac (hs (.run [0,1] (jf ZT [22,22] (.gslice 0 b.length 1) (.slice 1 0 1 1 1)) (kJ b (kAu (w64 ((w64 (n-1))-a)) [])) (.gslice 2 c.length 1) (kAD (w64 ((w64 (n-1))-a)) (kA c)) true) (vU z8 (E:=encI) rfl (qcY (E:=encI) (ys:=[w64 ((w64 (n-1))-a)]) rfl rfl rfl rfl) (qbw (E:=encI) (l:=b) rfl rfl rfl e rfl))) az) ?_
    refine gh fol ((0,.i n)::(kBE c (kAX (w64 (a+1))))) ?_
    exact⟨M,(ofG 18 ((0,.i n)::(kAH c (kAX (w64 (a+1))))),(kA c)),Nat.lt_succ_self _,(Sub.norm [] [some 2] rfl rfl (.keep (.same nI) (.keep (.gslice rfl) (.keep (.same nI) .nil))) (.ks .nil)),_,_,rfl,g4⟩
   refine Goes.exit ?_
   obtain rfl:=si g4
   exact⟨rfl,_,rfl,(Sub.keep [3] rfl rfl)⟩
 rintro x s' ⟨rfl,d,rfl,hsub⟩
 refine Goes.sub hsub ?_
 refine sh fol (kA7 d) ?_
 refine Goes.ret ?_
 obtain rfl:=si h
 exact(gw2 [.gslice 0 d.length 1] (Uu (Fz.gs (E:=encI) rfl rfl (nl rfl))))
def vZ (N:Nat) (p:List Int):Option Bool:=
 ((ja N (p.length:Int)).bind fun a=>
 (zA N p a).bind fun b=>
 if b=true then
 some (a,true)
 else
 (jk N (p.length:Int)).bind fun c=>
 (zA N p c).bind fun d=>
 some (a,d):Option ((List Int)×Bool)).bind fun(f,e)=>
 some e
theorem qcd (N:Nat) (p:List Int) {res:Bool} (h:vZ N p=some res):qa ZT (.fn 64) [vl encI p] [] (.bool res) []:=by
 unfold vZ at h
 refine Ub Tryz.func64 rfl rfl (m:=15) rfl (rs:=[.tmp 2]) rfl (l:=(kH p [])) rfl ?_
 refine sh fol (kH p []) ?_
 refine sq ?_
 obtain⟨⟨n,j⟩,a,h⟩:=bnd h
 refine Goes.cut (s':=(ofG 15 [(2,.bool j)],(kA n))) ?_ ?_
 ·obtain⟨b,c,a⟩:=bnd a
  obtain⟨k,d,a⟩:=bnd a
  rcases wyB a with⟨g,a⟩|⟨g,a⟩
  ·simp only[ZI,ZP]at a
   obtain⟨rfl,rfl⟩:=a
   exact jD.rq fol [3,4,5] [(2,.bool true)] (kA b) (ac (hs (.callH 86 [.i (p.length:Int)] [] [] (.gslice 0 b.length 1) (kA b)) (yT [] [some 0] (vW N (p.length:Int) c) .nil rfl rfl (.new rfl rfl (.same fa) rfl .nil) (rc (.same nI) rn) (.gslice rfl) rfl)) (ac (hs (.call 32 [vl encI p,.gslice 0 b.length 1] (kA b) [0] (kAi p b) (.bool k)) (xN (FzL.cons (Fz.still (jC encI _ (nl rfl))) (FzL.cons (Fz.gs (E:=encI) rfl rfl (nl rfl)) FzL.nil)) (jL N p b d) tB rfl)) (ac (gw g) az)))
  obtain⟨o,e,a⟩:=bnd a
  obtain⟨q,f,a⟩:=bnd a
  simp only[ZI,ZP]at a
  obtain⟨rfl,rfl⟩:=a
  exact jD.rq fol [3,4,5,9,10] [(2,.bool q)] (kA b) (ac (hs (.callH 86 [.i (p.length:Int)] [] [] (.gslice 0 b.length 1) (kA b)) (yT [] [some 0] (vW N (p.length:Int) c) .nil rfl rfl (.new rfl rfl (.same fa) rfl .nil) (rc (.same nI) rn) (.gslice rfl) rfl)) (ac (hs (.call 32 [vl encI p,.gslice 0 b.length 1] (kA b) [0] (kAi p b) (.bool k)) (xN (FzL.cons (Fz.still (jC encI _ (nl rfl))) (FzL.cons (Fz.gs (E:=encI) rfl rfl (nl rfl)) FzL.nil)) (jL N p b d) tB rfl)) (ac (gw g) (ac (cv (yO N (p.length:Int) e)) (ac (cv (jL N p o f)) az)))))
 try dsimp only at h
 refine Goes.ret ?_
 obtain rfl:=si h
 exact(gw2 [.bool j] (Ua tB))
def jV (p:List Int) (i:Int):Option Bool:=
 (idx p (w64 (i-1))).bind fun a=>
 (idx p i).bind fun b=>
 some (decide (a>b))
theorem yh (p:List Int) (i:Int) {res:Bool} (h:jV p i=some res):qa ZT (.fn 65) (kAT p i) [] (.bool res) []:=by
 unfold jV at h
 refine Ub Tryz.func65 rfl rfl (m:=15) rfl (rs:=[.tmp 4]) rfl (l:=(kH p (kAx i))) rfl ?_
 refine sh fol (kH p (kAx i)) ?_
 obtain⟨c,a,h⟩:=bnd h
 obtain⟨d,b,h⟩:=bnd h
 refine sq (gr fol [3,4,7,8] (kAa (decide (c>d))) (ac (iv z8 encI a) (ac (lv 0 ce3 encI a rfl) (ac (iv z8 encI b) (ac (lv 0 ce3 encI b rfl) az)))) ?_)
 refine Goes.ret ?_
 obtain rfl:=si h
 exact(gw2 [.bool (decide (c>d))] (Ua tB))
def yC (N:Nat) (p:List Int) (i:Int):Option Bool:=
 (j6 N p).bind fun a=>
 (jV a i).bind fun b=>
 some b
theorem qcw (N:Nat) (p:List Int) (i:Int) {res:Bool} (h:yC N p i=some res):qa ZT (.fn 66) (kAT p i) [] (.bool res) []:=by
 unfold yC at h
 refine Ub Tryz.func66 rfl rfl (m:=9) rfl (rs:=[.tmp 4]) rfl (l:=(kH p (kAx i))) rfl ?_
 refine sh fol (kH p (kAx i)) ?_
 obtain⟨d,a,h⟩:=bnd h
 obtain⟨c,b,h⟩:=bnd h
 refine sq (gr fol [1,3] (kAa c) (ac (cv (qbi N p a)) (ac (cv (yh d i b)) az)) ?_)
 refine Goes.ret ?_
 obtain rfl:=si h
 exact(gw2 [.bool c] (Ua tB))
def kG (N:Nat) (n:Int) (f:zV) (b:Int) (c:List Int):Nat->Int->Option (Unit⊕Int)
 |0,_=>none
 |K+1,a=>
  (if a<n then
  some (decide (b>0))
  else
  some false:Option Bool).bind fun d=>
  if d=true then
  ((jV c a).bind fun e=>
  if e=true then
  (idx f.Factors (w64 (b-1))).bind fun g=>
  (yC N g a).bind fun h=>
  some (!h)
  else
  some false:Option Bool).bind fun i=>
  if i=true then
  some (.inr 1)
  else
  kG N n f b c K (w64 (a+1))
  else
  some (.inl ())
def kN (N:Nat) (n:Int) (f:zV):Nat->Int->Option (Unit⊕Int)
 |0,_=>none
 |K+1,a=>
  if a<(f.Factors.length:Int)then
  (idx f.Factors a).bind fun b=>
  if(!decide ((b.length:Int)=n))=true then
  some (.inr 2)
  else
  (ze N b).bind fun c=>
  if(!decide (c=0))=true then
  some (.inr 15)
  else
  (vZ N b).bind fun d=>
  if d=true then
  some (.inr 1)
  else
  (kG N n f a b N 1).bind (fun
  |(.inl ())=>
  kN N n f K (w64 (a+1))
  |(.inr e)=>
  some (.inr e))
  else
  some (.inl ())
def jG (N:Nat) (n:Int) (f:zV):Option Int:=
 (if n<1 then
 some true
 else
 if n>12 then
 some true
 else
 if f.Half<(-200)then
 some true
 else
 if f.Half>200 then
 some true
 else
 if n=1 then
 some (!decide (f.Half=0))
 else
 some false:Option Bool).bind fun b=>
 if b=true then
 some 3
 else
 if(f.Factors.length:Int)>200 then
 some 5
 else
 (kN N n f N 0).bind (fun
 |(.inl ())=>
 some 0
 |(.inr a)=>
 some a)
theorem qaL (N:Nat) (n:Int) (f:zV) {res:Int} (h:jG N n f=some res):qa ZT (.fn 15) [.i n,.agg [.i f.Half,vl (qf encI) f.Factors]] [] (.i res) []:=by
 unfold jG at h
 refine Ub Tryz.func15 rfl rfl (m:=81) rfl (rs:=[.tmp 4]) rfl (l:=[(0,.i n),(1,.agg [.i f.Half,vl (qf encI) f.Factors])]) rfl ?_
 refine sg fol (kI n []) [.cells [.i f.Half,vl (qf encI) f.Factors]] ?_
 refine sq ?_
 refine sq ?_
 obtain⟨W,a,h⟩:=bnd h
 refine Goes.cut (s':=(ofG 81 (kI n [(32,.bool W)]),[.cells [.i f.Half,vl (qf encI) f.Factors]])) ?_ ?_
 ·rcases wyD a with⟨p,a⟩|⟨p,a⟩
  ·obtain rfl:=si a
   exact tr fol [2] (kI n [(32,.bool true)]) (ac (gw p) az)
  rcases wyD a with⟨z,a⟩|⟨z,a⟩
  ·obtain rfl:=si a
   exact tr fol [2,6] (kI n [(32,.bool true)]) (ac (gw p) (ac (gw z) az))
  rcases wyD a with⟨A,a⟩|⟨A,a⟩
  ·obtain rfl:=si a
   exact tr fol [2,6,11] (kI n [(32,.bool true)]) (ac (gw p) (ac (gw z) (ac (gw A) az)))
  rcases wyD a with⟨D,a⟩|⟨D,a⟩
  ·obtain rfl:=si a
   exact tr fol [2,6,11,16] (kI n [(32,.bool true)]) (ac (gw p) (ac (gw z) (ac (gw A) (ac (gw D) az))))
  rcases wyD a with⟨E,a⟩|⟨E,a⟩
  ·obtain rfl:=si a
   exact tr fol [2,6,11,16,19] (kI n [(32,.bool (!decide (f.Half=0)))]) (ac (gw p) (ac (gw z) (ac (gw A) (ac (gw D) (ac (gw E) az)))))
  obtain rfl:=si a
  exact tr fol [2,6,11,16,19] (kI n [(32,.bool false)]) (ac (gw p) (ac (gw z) (ac (gw A) (ac (gw D) (ac (gw E) az)))))
 refine ihB h (fun X h=>?_) (fun X h=>?_)
 ·refine sh fol [(4,.i 3)] ?_
  refine Goes.ret ?_
  obtain rfl:=si h
  exact(gw2 [.i 3] (Ua tI))
 refine Goes.skip ?_
 refine sq ?_
 refine sh fol (kI n [(36,.bool (decide ((f.Factors.length:Int)>200)))]) ?_
 refine ihD h (fun Y h=>?_) (fun Y h=>?_)
 ·refine sh fol [(4,.i 5)] ?_
  refine Goes.ret ?_
  obtain rfl:=si h
  exact(gw2 [.i 5] (Ua tI))
 refine Goes.skip ?_
 refine sq ?_
 refine sh fol (kI n kBO) ?_
 refine Goes.block ?_
 obtain⟨q,g11,h⟩:=bnd h
 refine Goes.imp (Q:=fun x s'=>(x= .exit 0/\(.inl ())=q/\Sub s' (ofG 81 [],[]))\/(x= .ret/\ ∃B,(.inr B)=q/\zx ZT [.tmp 4] (.i B) .ret s')) ?_ ?_
 ·refine Uc (fun M s=> ∃(b:Int),s=(ofG 81 (kI n (kAc b)),[.cells [.i f.Half,vl (qf encI) f.Factors]])/\kN N n f M b=some q) ?_ (m:=N) ⟨_,rfl,g11⟩
  rintro M s ⟨b,rfl,g11⟩
  cases M with
  |zero=>simp only[kN]at g11;cases g11
  |succ M=>
   rw[kN]at g11
   refine sq ?_
   refine sh fol (kI n [(5,.i b),(41,.bool (decide (b<(f.Factors.length:Int))))]) ?_
   refine ihD g11 (fun F g11=>?_) (fun F g11=>?_)
   ·refine Goes.skip ?_
    refine sq (Goes.block ?_)
    obtain⟨d,j,g11⟩:=bnd g11
    refine sq (gr fol [3,4] (kI n ((5,.i b)::(kBB d []))) (ac (iv qeE (qf encI) j) (ac (lv 0 qeh (qf encI) j rfl) az)) ?_)
    refine sq ?_
    refine sh fol (kI n ((5,.i b)::(kBB d [(52,.bool (!decide ((d.length:Int)=n)))]))) ?_
    refine ihB g11 (fun G g11=>?_) (fun G g11=>?_)
    ·refine sh fol [(4,.i 2)] ?_
     refine Goes.ret ?_
     obtain rfl:=si g11
     exact Or.inr (⟨rfl,_,rfl,(gw2 [.i 2] (Ua tI))⟩)
    refine Goes.skip ?_
    refine sq ?_
    obtain⟨H,r,g11⟩:=bnd g11
    refine sq (gr fol [1] (kI n ((5,.i b)::(kBB d [(55,.bool (!decide (H=0)))]))) (ac (cv (yL N d r)) az) ?_)
    refine ihB g11 (fun I g11=>?_) (fun I g11=>?_)
    ·refine sh fol [(4,.i 15)] ?_
     refine Goes.ret ?_
     obtain rfl:=si g11
     exact Or.inr (⟨rfl,_,rfl,(gw2 [.i 15] (Ua tI))⟩)
    refine Goes.skip ?_
    refine sq ?_
    obtain⟨J,t,g11⟩:=bnd g11
    refine sq (gr fol [1] (kI n ((5,.i b)::(kBB d [(57,.bool J)]))) (ac (cv (qcd N d t)) az) ?_)
    refine ihB g11 (fun K g11=>?_) (fun K g11=>?_)
    ·refine sh fol [(4,.i 1)] ?_
     refine Goes.ret ?_
     obtain rfl:=si g11
     exact Or.inr (⟨rfl,_,rfl,(gw2 [.i 1] (Ua tI))⟩)
    refine Goes.skip ?_
    refine sh fol (kI n ((5,.i b)::(kBB d [(7,.i 1)]))) ?_
    refine Goes.block ?_
    obtain⟨u,g21,g11⟩:=bnd g11
    refine Goes.imp (Q:=fun x s'=>(x= .exit 2/\(.inl ())=u/\Sub s' (ofG 81 (kI n (kAc b)),[.cells [.i f.Half,vl (qf encI) f.Factors]]))\/(x= .ret/\ ∃C,(.inr C)=u/\zx ZT [.tmp 4] (.i C) .ret s')) ?_ ?_
    ·refine Uc (fun M s=> ∃(e:Int),s=(ofG 81 (kI n ((5,.i b)::(kM d e []))),[.cells [.i f.Half,vl (qf encI) f.Factors]])/\kG N n f b d M e=some u) ?_ (m:=N) ⟨_,rfl,g21⟩
     rintro M s ⟨e,rfl,g21⟩
     cases M with
     |zero=>simp only[kG]at g21;cases g21
     |succ M=>
      rw[kG]at g21
      refine sq ?_
      refine sq ?_
      obtain⟨L,g,g21⟩:=bnd g21
      refine Goes.cut (s':=(ofG 81 (kI n ((5,.i b)::(kM d e [(64,.bool L)]))),[.cells [.i f.Half,vl (qf encI) f.Factors]])) ?_ ?_
      ·rcases wyD g with⟨v,g⟩|⟨v,g⟩
       ·obtain rfl:=si g
        exact tr fol [3] (kI n ((5,.i b)::(kM d e [(64,.bool (decide (b>0)))]))) (ac (gw v) az)
       obtain rfl:=si g
       exact tr fol [3] (kI n ((5,.i b)::(kM d e [(64,.bool false)]))) (ac (gw v) az)
      refine ihB g21 (fun O g21=>?_) (fun O g21=>?_)
      ·refine Goes.skip ?_
       refine sq (Goes.block ?_)
       refine sq ?_
       obtain⟨P,c,g21⟩:=bnd g21
       refine Goes.cut (s':=(ofG 81 (kI n ((5,.i b)::(kM d e [(80,.bool P)]))),[.cells [.i f.Half,vl (qf encI) f.Factors]])) ?_ ?_
       ·obtain⟨Z,k,c⟩:=bnd c
        rcases wyB c with⟨w,c⟩|⟨w,c⟩
        ·obtain⟨T,o,c⟩:=bnd c
         obtain⟨U,y,c⟩:=bnd c
         obtain rfl:=si c
         exact tr fol [2,3,8,9,11] (kI n ((5,.i b)::(kM d e [(80,.bool (!U))]))) (ac (cv (yh d e k)) (ac (gw w) (ac (iv qeE (qf encI) o) (ac (lv 0 qeh (qf encI) o rfl) (ac (cv (qcw N T e y)) az)))))
        obtain rfl:=si c
        exact tr fol [2,3] (kI n ((5,.i b)::(kM d e [(80,.bool false)]))) (ac (cv (yh d e k)) (ac (gw w) az))
       refine ihB g21 (fun V g21=>?_) (fun V g21=>?_)
       ·refine sh fol [(4,.i 1)] ?_
        refine Goes.ret ?_
        obtain rfl:=si g21
        exact Or.inr (⟨rfl,_,rfl,(gw2 [.i 1] (Ua tI))⟩)
       refine Goes.skip ?_
       refine gh fol (kI n ((5,.i b)::(kM d (w64 (e+1)) []))) ?_
       exact⟨M,(ofG 81 (kI n ((5,.i b)::(kM d (w64 (e+1)) []))),[.cells [.i f.Half,vl (qf encI) f.Factors]]),Nat.lt_succ_self _,(Sub.refl _),_,rfl,g21⟩
      refine Goes.exit ?_
      obtain rfl:=si g21
      exact Or.inl (⟨rfl,rfl,(Sub.keep [0,3,5] rfl rfl)⟩)
    rintro x s' (⟨rfl,rfl,hsub⟩|⟨rfl,a0,rfl,hret⟩)
    ·try dsimp only at g11
     refine Goes.sub hsub ?_
     refine gh fol (kI n (kAc (w64 (b+1)))) ?_
     exact⟨M,(ofG 81 (kI n (kAc (w64 (b+1)))),[.cells [.i f.Half,vl (qf encI) f.Factors]]),Nat.lt_succ_self _,(Sub.refl _),_,rfl,g11⟩
    try dsimp only at g11
    obtain rfl:=si g11
    exact Or.inr (⟨rfl,_,rfl,hret⟩)
   refine Goes.exit ?_
   obtain rfl:=si g11
   exact Or.inl (⟨rfl,rfl,(Sub.norm [] [] rfl rfl .nil .nil)⟩)
 rintro x s' (⟨rfl,rfl,hsub⟩|⟨rfl,a1,rfl,hret⟩)
 ·try dsimp only at h
  refine Goes.sub hsub ?_
  refine sh fol kA9 ?_
  refine Goes.ret ?_
  obtain rfl:=si h
  exact(gw2 [.i 0] (Ua tI))
 try dsimp only at h
 obtain rfl:=si h
 exact hret
def y9 (f:zV):Option zV:=
 some f
theorem qaW (f:zV) {res:zV} (h:y9 f=some res):qa ZT (.fn 16) [.agg [.i f.Half,vl (qf encI) f.Factors]] [] (.agg [.i res.Half,vl (qf encI) res.Factors]) []:=by
 unfold y9 at h
 refine Ub Tryz.func16 rfl rfl (m:=8) rfl (rs:=[.cell 2 36]) rfl (l:=[(0,.agg [.i f.Half,vl (qf encI) f.Factors])]) rfl ?_
 refine sg fol [(1,.ptr 0 0),(2,.ptr 1 0)] [.cells [.i f.Half,vl (qf encI) f.Factors],bZ] ?_
 refine sg fol [(2,.ptr 1 0)] [.cells [.i f.Half,vl (qf encI) f.Factors],.cells [.i f.Half,vl (qf encI) f.Factors]] ?_
 refine Goes.ret ?_
 obtain rfl:=si h
 exact(gw2 [.agg [.i f.Half,vl (qf encI) f.Factors]] (FzW.agg (jm.cons (Ua tI) (jm.cons (Ua (jC (qf encI) _ (nl rfl))) jm.nil))))
def qK (p:List Int):Nat->(List Int)->Int->Option (List Int)
 |0,_,_=>none
 |K+1,b,a=>
  if a<(p.length:Int)then
  (idx p a).bind fun c=>
  (idx b c).bind fun e=>
  (put b c a).bind fun d=>
  qK p K d (w64 (a+1))
  else
  some b
def zO (N:Nat) (p:List Int):Option (List Int):=
 (mk 8 (p.length:Int) 0).bind fun a=>
 (qK p N a 0).bind fun b=>
 some b
theorem xV (N:Nat) (p:List Int) {res:List Int} (h:zO N p=some res):qa ZT (.fn 178) [vl encI p] [] (vl encI res) []:=by
 unfold zO at h
 refine Ub Tryz.func178 rfl rfl (m:=22) rfl (rs:=[.tmp 2]) rfl (l:=(kH p [])) rfl ?_
 refine sh fol (kH p []) ?_
 obtain⟨j,k,h⟩:=bnd h
 refine sq (gq fol [2] (kH p (kK j [])) (kA j) (ac (hs (.run [] (jr ZT 93 (.i (p.length:Int)) (.i (p.length:Int))) [] (.slice 0 0 j.length j.length 1) (kA j) false) (qdm xY (E:=encI) (z:=0) rfl (by kernel_rfl) k rfl)) az) ?_)
 refine sq ?_
 refine sh fol (kK j [(9,vl encI p),(10,.i (p.length:Int)),(11,.i 0)]) ?_
 refine Goes.block ?_
 obtain⟨o,g5,h⟩:=bnd h
 refine Goes.imp (Q:=fun x s'=>(x= .exit 0/\ ∃g,g=o/\Sub s' (ofG 22 (kK g []),(kA g)))) ?_ ?_
 ·refine Uc (fun M s=> ∃(b:List Int) (a:Int),s=(ofG 22 (kK b ((9,vl encI p)::(kAQ (p.length:Int) a []))),(kA b))/\qK p M b a=some o) ?_ (m:=N) ⟨_,_,rfl,g5⟩
  rintro M s ⟨b,a,rfl,g5⟩
  cases M with
  |zero=>simp only[qK]at g5;cases g5
  |succ M=>
   rw[qK]at g5
   refine sh fol (kK b ((9,vl encI p)::(kAQ (p.length:Int) a [(12,.bool (decide (a<(p.length:Int))))]))) ?_
   refine sq ?_
   refine ihD g5 (fun q g5=>?_) (fun q g5=>?_)
   ·refine Goes.skip ?_
    refine sq (Goes.block ?_)
    obtain⟨n,c,g5⟩:=bnd g5
    refine sq (gr fol [1,2] (kK b ((4,.i a)::(5,.i n)::(9,vl encI p)::(kAQ (p.length:Int) a []))) (ac (iv xY encI c) (ac (lv 0 ce3 encI c rfl) az)) ?_)
    obtain⟨r,d,g5⟩:=bnd g5
    obtain⟨e,f,g5⟩:=bnd g5
    refine gq fol [3,4] (kK b ((9,vl encI p)::(kAQ (p.length:Int) a []))) (kA e) (ac (hs (.done (.opt (qd ZT 93 (.slice 0 0 b.length b.length 1) (.i n))) (.ptr 0 ((n:Int).toNat*1+0))) (qcm xY d)) (ac (hs (.run [0] (jW ZT 3 (.ptr 0 ((n:Int).toNat*1+0)) (.i a)) (kA b) .undef (kA e) true) (xW (E:=encI) (l:=b) (y:=a) rfl (show _=some 1 by kernel_rfl) rfl d rfl rfl rfl rfl rfl f rfl)) az)) ?_
    refine Goes.sub (show Sub (ofG 22 (kK b ((9,vl encI p)::(kAQ (p.length:Int) a []))),(kA e)) (ofG 22 (kK e ((9,vl encI p)::(kAQ (p.length:Int) a []))),(kA e))from(Sub.norm [] [some 0] rfl rfl (.keep (.sliceE rfl (vI f)) (.keep (.same (qF encI _)) (.keep (.same nI) (.keep (.same nI) .nil)))) (.ks .nil))) ?_
    refine gh fol (kK e ((9,vl encI p)::(kAQ (p.length:Int) (w64 (a+1)) []))) ?_
    exact⟨M,(ofG 22 (kK e ((9,vl encI p)::(kAQ (p.length:Int) (w64 (a+1)) []))),(kA e)),Nat.lt_succ_self _,(Sub.refl _),_,_,rfl,g5⟩
   refine Goes.exit ?_
   obtain rfl:=si g5
   exact⟨rfl,_,rfl,(Sub.keep [3] rfl rfl)⟩
 rintro x s' ⟨rfl,g,rfl,hsub⟩
 refine Goes.sub hsub ?_
 refine sh fol (kA5 g) ?_
 refine Goes.ret ?_
 obtain rfl:=si h
 exact(gw2 [.slice 0 0 g.length g.length 1] (Uu (Fz.sl (E:=encI) rfl rfl (nl rfl))))
def zY (N:Nat) (p:List Int) (i:Int):Option Bool:=
 (zO N p).bind fun a=>
 (kg a i).bind fun b=>
 some b
theorem qal (N:Nat) (p:List Int) (i:Int) {res:Bool} (h:zY N p i=some res):qa ZT (.fn 129) (kAT p i) [] (.bool res) []:=by
 unfold zY at h
 refine Ub Tryz.func129 rfl rfl (m:=9) rfl (rs:=[.tmp 4]) rfl (l:=(kH p (kAx i))) rfl ?_
 refine sh fol (kH p (kAx i)) ?_
 obtain⟨d,a,h⟩:=bnd h
 obtain⟨c,b,h⟩:=bnd h
 refine sq (gr fol [1,3] (kAa c) (ac (cv (xV N p a)) (ac (cv (zL d i b)) az)) ?_)
 refine Goes.ret ?_
 obtain rfl:=si h
 exact(gw2 [.bool c] (Ua tB))
def kT (N:Nat) (a:List Int) (b:List Int):Nat->Int->Int->Option (Unit⊕(Int×Bool))
 |0,_,_=>none
 |K+1,c,d=>
  if c<d then
  ((kg b c).bind fun e=>
  if e=true then
  (zY N a c).bind fun f=>
  some (!f)
  else
  some false:Option Bool).bind fun g=>
  if g=true then
  some (.inr (c,true))
  else
  kT N a b K (w64 (c+1)) d
  else
  some (.inl ())
def je (N:Nat) (a:List Int) (b:List Int):Option (Int×Bool):=
 (kT N a b N 0 (w64 ((a.length:Int)-1))).bind (fun
 |(.inl ())=>
 some (0,false)
 |(.inr c)=>
 some c)
theorem qbo (N:Nat) (a:List Int) (b:List Int) {res:Int×Bool} (h:je N a b=some res):qa ZT (.fn 69) (kAi a b) [] (.tuple [.i res.1,.bool res.2]) []:=by
 unfold je at h
 refine Ub Tryz.func69 rfl rfl (m:=24) rfl (rs:=[.tmp 4,.tmp 5]) rfl (l:=(kH a (kQ b []))) rfl ?_
 refine sh fol (kH a (kQ b [])) ?_
 refine sq ?_
 refine sh fol (kH a (kQ b [(9,.i (w64 ((a.length:Int)-1))),(10,.i 0)])) ?_
 refine Goes.block ?_
 obtain⟨j,g3,h⟩:=bnd h
 refine Goes.imp (Q:=fun x s'=>(x= .exit 0/\(.inl ())=j/\Sub s' (ofG 24 [],[]))\/(x= .ret/\ ∃k,(.inr k)=j/\zx ZT [.tmp 4,.tmp 5] (.tuple [.i k.1,.bool k.2]) .ret s')) ?_ ?_
 ·refine Uc (fun M s=> ∃(d:Int) (e:Int),s=(ofG 24 (kH a (kQ b ((9,.i e)::(kBF d)))),[])/\kT N a b M d e=some j) ?_ (m:=N) ⟨_,_,rfl,g3⟩
  rintro M s ⟨d,e,rfl,g3⟩
  cases M with
  |zero=>simp only[kT]at g3;cases g3
  |succ M=>
   rw[kT]at g3
   refine sh fol (kH a (kQ b ((9,.i e)::(10,.i d)::(kBC (decide (d<e)))))) ?_
   refine sq ?_
   refine ihD g3 (fun p g3=>?_) (fun p g3=>?_)
   ·refine Goes.skip ?_
    refine sq (Goes.block ?_)
    refine sh fol (kH a (kQ b ((6,.i d)::(9,.i e)::(kBF d)))) ?_
    refine sq ?_
    obtain⟨q,c,g3⟩:=bnd g3
    refine Goes.cut (s':=(ofG 24 (kH a (kQ b [(6,.i d),(9,.i e),(10,.i d),(21,.bool q)])),[])) ?_ ?_
    ·obtain⟨u,f,c⟩:=bnd c
     rcases wyB c with⟨n,c⟩|⟨n,c⟩
     ·obtain⟨r,g,c⟩:=bnd c
      obtain rfl:=si c
      exact tr fol [2,3,6] (kH a (kQ b [(6,.i d),(9,.i e),(10,.i d),(21,.bool (!r))])) (ac (cv (zL b d f)) (ac (gw n) (ac (cv (qal N a d g)) az)))
     obtain rfl:=si c
     exact tr fol [2,3] (kH a (kQ b [(6,.i d),(9,.i e),(10,.i d),(21,.bool false)])) (ac (cv (zL b d f)) (ac (gw n) az))
    refine ihB g3 (fun o g3=>?_) (fun o g3=>?_)
    ·refine sh fol [(4,.i d),(5,.bool true)] ?_
     refine Goes.ret ?_
     obtain rfl:=si g3
     exact Or.inr (⟨rfl,_,rfl,(gw2 [.i d,.bool true] (FzW.tuple (jm.cons (Ua tI) (jm.cons (Ua tB) jm.nil))))⟩)
    refine Goes.skip ?_
    refine gh fol (kH a (kQ b ((9,.i e)::(kBF (w64 (d+1)))))) ?_
    exact⟨M,(ofG 24 (kH a (kQ b ((9,.i e)::(kBF (w64 (d+1)))))),[]),Nat.lt_succ_self _,(Sub.refl _),_,_,rfl,g3⟩
   refine Goes.exit ?_
   obtain rfl:=si g3
   exact Or.inl (⟨rfl,rfl,(Sub.keep [] rfl rfl)⟩)
 rintro x s' (⟨rfl,rfl,hsub⟩|⟨rfl,t,rfl,hret⟩)
 ·try dsimp only at h
  refine Goes.sub hsub ?_
  refine sh fol [(4,.i 0),(5,.bool false)] ?_
  refine Goes.ret ?_
  obtain rfl:=si h
  exact(gw2 [.i 0,.bool false] (FzW.tuple (jm.cons (Ua tI) (jm.cons (Ua tB) jm.nil))))
 try dsimp only at h
 obtain rfl:=si h
 exact hret
def cmp_isNaN_int (a:Int):Option Bool:=
 some (!decide (a=a))
theorem jl (a:Int) {res:Bool} (h:cmp_isNaN_int a=some res):qa ZT (.fn 208) [.i a] [] (.bool res) []:=by
 unfold cmp_isNaN_int at h
 refine Ub Tryz.func208 rfl rfl (m:=6) rfl (rs:=[.tmp 2]) rfl (l:=(kBT a)) rfl ?_
 refine sh fol (kBT a) ?_
 refine sh fol [(2,.bool (!decide (a=a)))] ?_
 refine Goes.ret ?_
 obtain rfl:=si h
 exact(gw2 [.bool (!decide (a=a))] (Ua tB))
def cmp_Less_int (a:Int) (y:Int):Option Bool:=
 ((cmp_isNaN_int a).bind fun b=>
 if b=true then
 (cmp_isNaN_int y).bind fun c=>
 if(!c)=true then
 some true
 else
 some (decide (a<y))
 else
 some (decide (a<y)):Option Bool).bind fun d=>
 some d
theorem qbD (c:Int) (y:Int) {res:Bool} (h:cmp_Less_int c y=some res):qa ZT (.fn 179) [.i c,.i y] [] (.bool res) []:=by
 unfold cmp_Less_int at h
 refine Ub Tryz.func179 rfl rfl (m:=17) rfl (rs:=[.tmp 4]) rfl (l:=((0,.i c)::(kAx y))) rfl ?_
 refine sh fol ((0,.i c)::(kAx y)) ?_
 refine sq ?_
 obtain⟨g,a,h⟩:=bnd h
 refine Goes.cut (s':=(ofG 17 (kAa g),[])) ?_ ?_
 ·obtain⟨j,b,a⟩:=bnd a
  rcases wyB a with⟨e,a⟩|⟨e,a⟩
  ·obtain⟨k,d,a⟩:=bnd a
   rcases wyB a with⟨f,a⟩|⟨f,a⟩
   ·obtain rfl:=si a
    exact tr fol [1,2,4,7] kA4 (ac (cv (jl c b)) (ac (gw e) (ac (cv (jl y d)) (ac (gw f) az))))
   obtain rfl:=si a
   exact tr fol [1,2,4,7] (kAa (decide (c<y))) (ac (cv (jl c b)) (ac (gw e) (ac (cv (jl y d)) (ac (gw f) az))))
  obtain rfl:=si a
  exact tr fol [1,2] (kAa (decide (c<y))) (ac (cv (jl c b)) (ac (gw e) az))
 refine Goes.ret ?_
 obtain rfl:=si h
 exact(gw2 [.bool g] (Ua tB))
def qC (b:List Int):Nat->Int->Option (Unit⊕Bool)
 |0,_=>none
 |K+1,a=>
  if a>0 then
  (idx b a).bind fun c=>
  (idx b (w64 (a-1))).bind fun d=>
  (cmp_Less_int c d).bind fun e=>
  if e=true then
  some (.inr false)
  else
  qC b K (w64 (a-1))
  else
  some (.inl ())
def slices_IsSorted_int (N:Nat) (a:List Int):Option Bool:=
 (qC a N (w64 ((a.length:Int)-1))).bind (fun
 |(.inl ())=>
 some true
 |(.inr b)=>
 some b)
theorem xC (N:Nat) (a:List Int) {res:Bool} (h:slices_IsSorted_int N a=some res):qa ZT (.fn 130) [vl encI a] [] (.bool res) []:=by
 unfold slices_IsSorted_int at h
 refine Ub Tryz.func130 rfl rfl (m:=21) rfl (rs:=[.tmp 2]) rfl (l:=(kH a [])) rfl ?_
 refine sh fol (kH a []) ?_
 refine sq ?_
 refine sh fol (kH a (kAy (w64 ((a.length:Int)-1)))) ?_
 refine Goes.block ?_
 obtain⟨f,g2,h⟩:=bnd h
 refine Goes.imp (Q:=fun x s'=>(x= .exit 0/\(.inl ())=f/\Sub s' (ofG 21 [],[]))\/(x= .ret/\ ∃g,(.inr g)=f/\zx ZT [.tmp 2] (.bool g) .ret s')) ?_ ?_
 ·refine Uc (fun M s=> ∃(b:Int),s=(ofG 21 (kH a (kAy b)),[])/\qC a M b=some f) ?_ (m:=N) ⟨_,rfl,g2⟩
  rintro M s ⟨b,rfl,g2⟩
  cases M with
  |zero=>simp only[qC]at g2;cases g2
  |succ M=>
   rw[qC]at g2
   refine sq ?_
   refine sh fol (kH a ((3,.i b)::(kAp (decide (b>0))))) ?_
   refine ihD g2 (fun j g2=>?_) (fun j g2=>?_)
   ·refine Goes.skip ?_
    refine sq (Goes.block ?_)
    obtain⟨k,c,g2⟩:=bnd g2
    obtain⟨n,d,g2⟩:=bnd g2
    obtain⟨o,e,g2⟩:=bnd g2
    refine sq (gr fol [2,3,7,8,9] (kH a [(3,.i b),(20,.bool o)]) (ac (iv xY encI c) (ac (lv 0 ce3 encI c rfl) (ac (iv xY encI d) (ac (lv 0 ce3 encI d rfl) (ac (cv (qbD k n e)) az))))) ?_)
    refine ihB g2 (fun p g2=>?_) (fun p g2=>?_)
    ·refine sh fol [(2,.bool false)] ?_
     refine Goes.ret ?_
     obtain rfl:=si g2
     exact Or.inr (⟨rfl,_,rfl,(gw2 [.bool false] (Ua tB))⟩)
    refine Goes.skip ?_
    refine gh fol (kH a (kAy (w64 (b-1)))) ?_
    exact⟨M,(ofG 21 (kH a (kAy (w64 (b-1)))),[]),Nat.lt_succ_self _,(Sub.refl _),_,rfl,g2⟩
   refine Goes.exit ?_
   obtain rfl:=si g2
   exact Or.inl (⟨rfl,rfl,(Sub.keep [] rfl rfl)⟩)
 rintro x s' (⟨rfl,rfl,hsub⟩|⟨rfl,q,rfl,hret⟩)
 ·try dsimp only at h
  refine Goes.sub hsub ?_
  refine sh fol [(2,.bool true)] ?_
  refine Goes.ret ?_
  obtain rfl:=si h
  exact(gw2 [.bool true] (Ua tB))
 try dsimp only at h
 obtain rfl:=si h
 exact hret
def zQ (N:Nat) (p:List Int):Option Bool:=
 (slices_IsSorted_int N p).bind fun a=>
 some a
theorem vJ (N:Nat) (p:List Int) {res:Bool} (h:zQ N p=some res):qa ZT (.fn 70) [vl encI p] [] (.bool res) []:=by
 unfold zQ at h
 refine Ub Tryz.func70 rfl rfl (m:=5) rfl (rs:=[.tmp 2]) rfl (l:=(kH p [])) rfl ?_
 refine sh fol (kH p []) ?_
 obtain⟨b,a,h⟩:=bnd h
 refine sq (gr fol [1] [(2,.bool b)] (ac (cv (xC N p a)) az) ?_)
 refine Goes.ret ?_
 obtain rfl:=si h
 exact(gw2 [.bool b] (Ua tB))
def ko (b:List Int) (c:List Int):Nat->Int->Option (Unit⊕Bool)
 |0,_=>none
 |K+1,a=>
  if a<(b.length:Int)then
  (idx b a).bind fun d=>
  (idx c a).bind fun e=>
  if(!decide (d=e))=true then
  some (.inr false)
  else
  ko b c K (w64 (a+1))
  else
  some (.inl ())
def slices_Equal_int (N:Nat) (a:List Int) (b:List Int):Option Bool:=
 if(!decide ((a.length:Int)=(b.length:Int)))=true then
 some false
 else
 (ko a b N 0).bind (fun
 |(.inl ())=>
 some true
 |(.inr c)=>
 some c)
theorem qay (N:Nat) (a:List Int) (b:List Int) {res:Bool} (h:slices_Equal_int N a b=some res):qa ZT (.fn 71) (kAi a b) [] (.bool res) []:=by
 unfold slices_Equal_int at h
 refine Ub Tryz.func71 rfl rfl (m:=26) rfl (rs:=[.tmp 4]) rfl (l:=(kH a (kQ b []))) rfl ?_
 refine sh fol (kH a (kQ b [])) ?_
 refine sq ?_
 refine sh fol (kH a (kQ b (kAq (!decide ((a.length:Int)=(b.length:Int)))))) ?_
 refine ihB h (fun j h=>?_) (fun j h=>?_)
 ·refine sh fol kAA ?_
  refine Goes.ret ?_
  obtain rfl:=si h
  exact(gw2 [.bool false] (Ua tB))
 refine Goes.skip ?_
 refine sq ?_
 refine sh fol (kH a (kQ b [(12,.i (a.length:Int)),(13,.i 0)])) ?_
 refine Goes.block ?_
 obtain⟨f,g3,h⟩:=bnd h
 refine Goes.imp (Q:=fun x s'=>(x= .exit 0/\(.inl ())=f/\Sub s' (ofG 26 [],[]))\/(x= .ret/\ ∃g,(.inr g)=f/\zx ZT [.tmp 4] (.bool g) .ret s')) ?_ ?_
 ·refine Uc (fun M s=> ∃(c:Int),s=(ofG 26 (kH a (kQ b (kA0 (a.length:Int) c []))),[])/\ko a b M c=some f) ?_ (m:=N) ⟨_,rfl,g3⟩
  rintro M s ⟨c,rfl,g3⟩
  cases M with
  |zero=>simp only[ko]at g3;cases g3
  |succ M=>
   rw[ko]at g3
   refine sh fol (kH a (kQ b (kA0 (a.length:Int) c (kBL (decide (c<(a.length:Int))))))) ?_
   refine sq ?_
   refine ihD g3 (fun k g3=>?_) (fun k g3=>?_)
   ·refine Goes.skip ?_
    refine sq (Goes.block ?_)
    refine sh fol (kH a (kQ b ((5,.i c)::(kA0 (a.length:Int) c [])))) ?_
    obtain⟨n,d,g3⟩:=bnd g3
    obtain⟨o,e,g3⟩:=bnd g3
    refine sq (gr fol [2,3,6,7] (kH a (kQ b (kA0 (a.length:Int) c [(24,.bool (!decide (n=o)))]))) (ac (iv xY encI d) (ac (lv 0 ce3 encI d rfl) (ac (iv xY encI e) (ac (lv 0 ce3 encI e rfl) az)))) ?_)
    refine ihB g3 (fun p g3=>?_) (fun p g3=>?_)
    ·refine sh fol kAA ?_
     refine Goes.ret ?_
     obtain rfl:=si g3
     exact Or.inr (⟨rfl,_,rfl,(gw2 [.bool false] (Ua tB))⟩)
    refine Goes.skip ?_
    refine gh fol (kH a (kQ b (kA0 (a.length:Int) (w64 (c+1)) []))) ?_
    exact⟨M,(ofG 26 (kH a (kQ b (kA0 (a.length:Int) (w64 (c+1)) []))),[]),Nat.lt_succ_self _,(Sub.refl _),_,rfl,g3⟩
   refine Goes.exit ?_
   obtain rfl:=si g3
   exact Or.inl (⟨rfl,rfl,(Sub.keep [] rfl rfl)⟩)
 rintro x s' (⟨rfl,rfl,hsub⟩|⟨rfl,q,rfl,hret⟩)
 ·try dsimp only at h
  refine Goes.sub hsub ?_
  refine sh fol kA4 ?_
  refine Goes.ret ?_
  obtain rfl:=si h
  exact(gw2 [.bool true] (Ua tB))
 try dsimp only at h
 obtain rfl:=si h
 exact hret
def qp:Nat->(List Int)->Int->Int->Option (List Int)
 |0,_,_,_=>none
 |K+1,c,d,a=>
  if d<a then
  (idx c a).bind fun f=>
  (idx c d).bind fun g=>
  (put c d f).bind fun b=>
  (idx b a).bind fun h=>
  (put b a g).bind fun e=>
  qp K e (w64 (d+1)) (w64 (a-1))
  else
  some c
def zg (N:Nat) (a:List Int):Option (List Int):=
 (qp N a 0 (w64 ((a.length:Int)-1))).bind fun b=>
 some b
theorem yU (N:Nat) (b:List Int) {t:List Int} (h:zg N b=some t):qa ZT (.fn 132) [.slice 0 0 b.length b.length 1] (kA b) (.tuple []) (kA t):=by
 unfold zg at h
 refine Up Tryz.func132 rfl rfl (m:=28) rfl (rs:=[]) rfl (l:=[(0,.slice 0 0 b.length b.length 1)]) rfl ?_
 intro B hB
 refine Goes.subQ ?_
 refine sh fol ((0,.slice 0 0 b.length b.length 1)::(2,.i 0)::(kAy (w64 ((b.length:Int)-1)))) ?_
 refine Goes.block ?_
 obtain⟨u,g6,h⟩:=bnd h
 refine Goes.imp (Q:=fun x s'=>(x= .exit 0/\ ∃p,p=u/\Sub s' (ofG 28 [],(kA p)))) ?_ ?_
 ·refine Uc (fun M s=> ∃(a:List Int) (d:Int) (e:Int),s=(ofG 28 (kAW a d e []),(kA a))/\qp M a d e=some u) ?_ (m:=N) ⟨_,_,_,rfl,g6⟩
  rintro M s ⟨a,d,e,rfl,g6⟩
  cases M with
  |zero=>simp only[qp]at g6;cases g6
  |succ M=>
   rw[qp]at g6
   refine sq ?_
   refine sh fol (kAW a d e [(9,.bool (decide (d<e)))]) ?_
   refine ihD g6 (fun v g6=>?_) (fun v g6=>?_)
   ·refine Goes.skip ?_
    refine sq (Goes.block ?_)
    obtain⟨q,g,g6⟩:=bnd g6
    obtain⟨r,f,g6⟩:=bnd g6
    obtain⟨n,j,g6⟩:=bnd g6
    obtain⟨w,o,g6⟩:=bnd g6
    obtain⟨c,k,g6⟩:=bnd g6
    refine gq fol [6,7,10,11,12,13,14,15] (kAW a d e []) (kA c) (ac (hs (.done (.opt (qd ZT 93 (.slice 0 0 a.length a.length 1) (.i e))) (.ptr 0 ((e:Int).toNat*1+0))) (qcm xY g)) (ac (hs (.run [0] (jE ZT 3 (.ptr 0 ((e:Int).toNat*1+0))) (kA a) (.i q) (kA a) false) (qcy ce3 (E:=encI) (l:=a) rfl rfl g (nl rfl) rfl)) (ac (hs (.done (.opt (qd ZT 93 (.slice 0 0 a.length a.length 1) (.i d))) (.ptr 0 ((d:Int).toNat*1+0))) (qcm xY f)) (ac (hs (.run [0] (jE ZT 3 (.ptr 0 ((d:Int).toNat*1+0))) (kA a) (.i r) (kA a) false) (qcy ce3 (E:=encI) (l:=a) rfl rfl f (nl rfl) rfl)) (ac (hs (.done (.opt (qd ZT 93 (.slice 0 0 a.length a.length 1) (.i d))) (.ptr 0 ((d:Int).toNat*1+0))) (qcm xY f)) (ac (hs (.run [0] (jW ZT 3 (.ptr 0 ((d:Int).toNat*1+0)) (.i q)) (kA a) .undef (kA n) true) (xW (E:=encI) (l:=a) (y:=q) rfl (show _=some 1 by kernel_rfl) rfl f rfl rfl rfl rfl rfl j rfl)) (ac (hs (.done (.opt (qd ZT 93 (.slice 0 0 a.length a.length 1) (.i e))) (.ptr 0 ((e:Int).toNat*1+0))) (qcm xY g)) (ac (hs (.run [0] (jW ZT 3 (.ptr 0 ((e:Int).toNat*1+0)) (.i r)) (kA n) .undef (kA c) true) (xW (E:=encI) (l:=n) (y:=r) rfl (show _=some 1 by kernel_rfl) rfl o rfl rfl rfl rfl rfl k rfl)) az)))))))) ?_
    refine Goes.sub (show Sub (ofG 28 (kAW a d e []),(kA c)) (ofG 28 (kAW c d e []),(kA c))from(Sub.norm [] [some 0] (by rw[hB];rfl) rfl (.keep (.sliceE rfl ((vI j).trans (vI k))) (.keep (.same nI) (.keep (.same nI) .nil))) (.ks .nil))) ?_
    refine gh fol (kAW c (w64 (d+1)) (w64 (e-1)) []) ?_
    exact⟨M,(ofG 28 (kAW c (w64 (d+1)) (w64 (e-1)) []),(kA c)),Nat.lt_succ_self _,(Sub.refl _),_,_,_,rfl,g6⟩
   refine Goes.exit ?_
   obtain rfl:=si g6
   exact⟨rfl,_,rfl,(Sub.keep [] rfl rfl)⟩
 rintro x s' ⟨rfl,p,rfl,hsub⟩
 obtain rfl:=si h
 exact⟨_,hsub,(gh2 [] (xS.refl _ _))⟩
def vP (N:Nat) (n:Int):Option (List Int):=
 (jb N n).bind fun a=>
 (zg N a).bind fun b=>
 ((if a.length=b.length then some ()else none:Option Unit)).bind fun c=>
 some b
theorem qaD (N:Nat) (n:Int) {res:List Int} (h:vP N n=some res):qa ZT (.fn 72) [.i n] [] (vl encI res) []:=by
 unfold vP at h
 refine Ub Tryz.func72 rfl rfl (m:=9) rfl (rs:=[.tmp 2]) rfl (l:=(kBT n)) rfl ?_
 refine sh fol (kBT n) ?_
 obtain⟨a,c,h⟩:=bnd h
 refine sq (gq fol [1] (kK a []) (kA a) (ac (hs (.callH 131 [.i n] [] [] (.slice 0 0 a.length a.length 1) (kA a)) (yT [] [some 0] (xX N n c) .nil rfl rfl (.new rfl rfl (.same fa) rfl .nil) (rc (.same nI) rn) (.slice rfl) rfl)) az) ?_)
 obtain⟨b,d,h⟩:=bnd h
 obtain⟨f,e,h⟩:=bnd h
 refine sq (gq fol [1] (kK a []) (kA b) (ac (hs (.callH 132 [.slice 0 0 a.length a.length 1] (kA a) [0] (.tuple []) (kA b)) (yT [some 0] [some 0] (yU N a d) (.ks .nil) rfl rfl (.back rfl rfl (.same fa) rfl .nil) (rc (.slice rfl) rn) (.same (qg.tuple sn)) rfl)) az) ?_)
 refine Goes.sub (show Sub (ofG 9 (kK a []),(kA b)) (ofG 9 (kK b []),(kA b))from(Sub.norm [] [some 0] rfl rfl (.keep (.sliceE rfl (qfh e)) .nil) (.ks .nil))) ?_
 refine sh fol (kA5 b) ?_
 refine Goes.ret ?_
 obtain rfl:=si h
 exact(gw2 [.slice 0 0 b.length b.length 1] (Uu (Fz.sl (E:=encI) rfl rfl (nl rfl))))
def kF (N:Nat) (n:Int) (f:zV):Nat->Int->Option (Unit⊕Int)
 |0,_=>none
 |K+1,a=>
  if a<(f.Factors.length:Int)then
  (idx f.Factors a).bind fun b=>
  (zX N n b).bind fun c=>
  if(!decide (c=0))=true then
  some (.inr c)
  else
  ((if a>0 then
  (idx f.Factors (w64 (a-1))).bind fun d=>
  (je N d b).bind fun e=>
  some e.2
  else
  some false:Option Bool)).bind fun g=>
  (if g=true then
  some true
  else
  (zQ N b).bind fun h=>
  if h=true then
  some true
  else
  (vP N n).bind fun i=>
  (slices_Equal_int N b i).bind fun j=>
  some j:Option Bool).bind fun k=>
  if k=true then
  some (.inr 1)
  else
  kF N n f K (w64 (a+1))
  else
  some (.inl ())
def zH (N:Nat) (n:Int) (f:zV):Option Int:=
 ((zn n).bind fun a=>
 (ji f.Half).bind fun q=>
 if q>200 then
 (kR true 3).bind fun l=>
 (kR (decide ((f.Factors.length:Int)>200)) 5).bind fun m=>
 (zy N ([a,l,m]:List Int)).bind fun r=>
 some (a,l,m,r)
 else
 if f.Half<(-200)then
 (kR true 3).bind fun o=>
 (kR (decide ((f.Factors.length:Int)>200)) 5).bind fun p=>
 (zy N ([a,o,p]:List Int)).bind fun h=>
 some (a,o,p,h)
 else
 if n=1 then
 (kR (!decide (f.Half=0)) 3).bind fun b=>
 (kR (decide ((f.Factors.length:Int)>200)) 5).bind fun c=>
 (zy N ([a,b,c]:List Int)).bind fun i=>
 some (a,b,c,i)
 else
 (kR false 3).bind fun d=>
 (kR (decide ((f.Factors.length:Int)>200)) 5).bind fun e=>
 (zy N ([a,d,e]:List Int)).bind fun j=>
 some (a,d,e,j):Option (Int×Int×Int×Int)).bind fun(s,t,u,g)=>
 if(!decide (g=0))=true then
 some g
 else
 (kF N n f N 0).bind (fun
 |(.inl ())=>
 some 0
 |(.inr k)=>
 some k)
theorem yJ (N:Nat) (n:Int) (f:zV) {res:Int} (h:zH N n f=some res):qa ZT (.fn 17) [.i n,.agg [.i f.Half,vl (qf encI) f.Factors]] [] (.i res) []:=by
 unfold zH at h
 refine Ub Tryz.func17 rfl rfl (m:=80) rfl (rs:=[.tmp 4]) rfl (l:=[(0,.i n),(1,.agg [.i f.Half,vl (qf encI) f.Factors])]) rfl ?_
 refine sg fol (kI n []) [.cells [.i f.Half,vl (qf encI) f.Factors]] ?_
 refine sq ?_
 refine sq ?_
 obtain⟨⟨n18,n19,n20,k⟩,a,h⟩:=bnd h
 refine Goes.cut (s':=(ofG 80 (kI n (kAc k)),(.cells [.i f.Half,vl (qf encI) f.Factors]::(kAM n18 n19 n20)))) ?_ ?_
 ·obtain⟨e,g,a⟩:=bnd a
  obtain⟨r2,j,a⟩:=bnd a
  rcases wyD a with⟨T,a⟩|⟨T,a⟩
  ·obtain⟨r4,U,a⟩:=bnd a
   obtain⟨r5,V,a⟩:=bnd a
   obtain⟨r6,W,a⟩:=bnd a
   simp only[ZI,ZP]at a
   obtain⟨rfl,rfl,rfl,rfl⟩:=a
   exact jD.rq fol [1,4,6,20,25,27] (kI n (kAc r6)) (.cells [.i f.Half,vl (qf encI) f.Factors]::(kAM e r4 r5)) (ac (cv (zi n g)) (ac (cv (vG f.Half j)) (ac (gw T) (ac (cv (kw true 3 U)) (ac (cv (kw (decide ((f.Factors.length:Int)>200)) 5 V)) (ac (hs (.call 60 [.slice 1 0 3 3 1] (.cells [.i f.Half,vl (qf encI) f.Factors]::(kAM e r4 r5)) [1] [vl encI ([e,r4,r5]:List Int)] (.i r6)) (xN (FzL.cons (Fz.lit rfl rfl (Um (AllST.cons tI (AllST.cons tI (AllST.cons tI AllST.nil))))) FzL.nil) (jg N ([e,r4,r5]:List Int) W) tI rfl)) az))))))
  rcases wyD a with⟨c7,a⟩|⟨c7,a⟩
  ·obtain⟨r8,X,a⟩:=bnd a
   obtain⟨r9,Y,a⟩:=bnd a
   obtain⟨Z,z,a⟩:=bnd a
   simp only[ZI,ZP]at a
   obtain⟨rfl,rfl,rfl,rfl⟩:=a
   exact jD.rq fol [1,4,6,11,20,25,27] (kI n (kAc Z)) (.cells [.i f.Half,vl (qf encI) f.Factors]::(kAM e r8 r9)) (ac (cv (zi n g)) (ac (cv (vG f.Half j)) (ac (gw T) (ac (gw c7) (ac (cv (kw true 3 X)) (ac (cv (kw (decide ((f.Factors.length:Int)>200)) 5 Y)) (ac (hs (.call 60 [.slice 1 0 3 3 1] (.cells [.i f.Half,vl (qf encI) f.Factors]::(kAM e r8 r9)) [1] [vl encI ([e,r8,r9]:List Int)] (.i Z)) (xN (FzL.cons (Fz.lit rfl rfl (Um (AllST.cons tI (AllST.cons tI (AllST.cons tI AllST.nil))))) FzL.nil) (jg N ([e,r8,r9]:List Int) z) tI rfl)) az)))))))
  rcases wyD a with⟨A,a⟩|⟨A,a⟩
  ·obtain⟨t,B,a⟩:=bnd a
   obtain⟨u,C,a⟩:=bnd a
   obtain⟨a0,D,a⟩:=bnd a
   simp only[ZI,ZP]at a
   obtain⟨rfl,rfl,rfl,rfl⟩:=a
   exact jD.rq fol [1,4,6,11,14,20,25,27] (kI n (kAc a0)) (.cells [.i f.Half,vl (qf encI) f.Factors]::(kAM e t u)) (ac (cv (zi n g)) (ac (cv (vG f.Half j)) (ac (gw T) (ac (gw c7) (ac (gw A) (ac (cv (kw (!decide (f.Half=0)) 3 B)) (ac (cv (kw (decide ((f.Factors.length:Int)>200)) 5 C)) (ac (hs (.call 60 [.slice 1 0 3 3 1] (.cells [.i f.Half,vl (qf encI) f.Factors]::(kAM e t u)) [1] [vl encI ([e,t,u]:List Int)] (.i a0)) (xN (FzL.cons (Fz.lit rfl rfl (Um (AllST.cons tI (AllST.cons tI (AllST.cons tI AllST.nil))))) FzL.nil) (jg N ([e,t,u]:List Int) D) tI rfl)) az))))))))
  obtain⟨v,E,a⟩:=bnd a
  obtain⟨w,F,a⟩:=bnd a
  obtain⟨a1,G,a⟩:=bnd a
  simp only[ZI,ZP]at a
  obtain⟨rfl,rfl,rfl,rfl⟩:=a
  exact jD.rq fol [1,4,6,11,14,20,25,27] (kI n (kAc a1)) (.cells [.i f.Half,vl (qf encI) f.Factors]::(kAM e v w)) (ac (cv (zi n g)) (ac (cv (vG f.Half j)) (ac (gw T) (ac (gw c7) (ac (gw A) (ac (cv (kw false 3 E)) (ac (cv (kw (decide ((f.Factors.length:Int)>200)) 5 F)) (ac (hs (.call 60 [.slice 1 0 3 3 1] (.cells [.i f.Half,vl (qf encI) f.Factors]::(kAM e v w)) [1] [vl encI ([e,v,w]:List Int)] (.i a1)) (xN (FzL.cons (Fz.lit rfl rfl (Um (AllST.cons tI (AllST.cons tI (AllST.cons tI AllST.nil))))) FzL.nil) (jg N ([e,v,w]:List Int) G) tI rfl)) az))))))))
 try dsimp only at h
 refine sh fol (kI n [(5,.i k),(39,.bool (!decide (k=0)))]) ?_
 refine ihB h (fun c23 h=>?_) (fun c23 h=>?_)
 ·refine sh fol (kAX k) ?_
  refine Goes.ret ?_
  obtain rfl:=si h
  exact(gw2 [.i k] (Ua tI))
 refine Goes.skip ?_
 refine sq ?_
 refine sh fol (kI n [(42,vl (qf encI) f.Factors),(43,.i (f.Factors.length:Int)),(44,.i 0)]) ?_
 refine Goes.block ?_
 obtain⟨H,g25,h⟩:=bnd h
 refine Goes.imp (Q:=fun x s'=>(x= .exit 0/\(.inl ())=H/\Sub s' (ofG 80 [],[]))\/(x= .ret/\ ∃a2,(.inr a2)=H/\zx ZT [.tmp 4] (.i a2) .ret s')) ?_ ?_
 ·refine Goes.sub (s':=(ofG 80 (kI n [(42,vl (qf encI) f.Factors),(43,.i (f.Factors.length:Int)),(44,.i 0)]),[.cells [.i f.Half,vl (qf encI) f.Factors]])) (Sub.norm [] [some 0] rfl rfl (.keep (.same nI) (.kp (.keep (.same (qF (qf encI) _)) (.keep (.same nI) (.keep (.same nI) .nil))))) (.kb rfl (.same sn) .nil)) ?_
  refine Uc (fun M s=> ∃(c:Int),s=(ofG 80 (kI n ((42,vl (qf encI) f.Factors)::(kA1 (f.Factors.length:Int) c []))),[.cells [.i f.Half,vl (qf encI) f.Factors]])/\kF N n f M c=some H) ?_ (m:=N) ⟨_,rfl,g25⟩
  rintro M s ⟨c,rfl,g25⟩
  cases M with
  |zero=>simp only[kF]at g25;cases g25
  |succ M=>
   rw[kF]at g25
   refine sh fol (kI n ((42,vl (qf encI) f.Factors)::(kA1 (f.Factors.length:Int) c [(45,.bool (decide (c<(f.Factors.length:Int))))]))) ?_
   refine sq ?_
   refine ihD g25 (fun c27 g25=>?_) (fun c27 g25=>?_)
   ·refine Goes.skip ?_
    refine sq (Goes.block ?_)
    obtain⟨d,o,g25⟩:=bnd g25
    refine sq (gr fol [1,2] (kI n ((6,.i c)::(7,vl encI d)::(42,vl (qf encI) f.Factors)::(kA1 (f.Factors.length:Int) c []))) (ac (iv qeE (qf encI) o) (ac (lv 0 qeh (qf encI) o rfl) az)) ?_)
    refine sq ?_
    obtain⟨p,I,g25⟩:=bnd g25
    refine sq (gr fol [2] (kI n ((6,.i c)::(7,vl encI d)::(8,.i p)::(42,vl (qf encI) f.Factors)::(kA1 (f.Factors.length:Int) c []))) (ac (cv (yI N n d I)) az) ?_)
    refine sh fol (kI n ((6,.i c)::(7,vl encI d)::(8,.i p)::(42,vl (qf encI) f.Factors)::(kA1 (f.Factors.length:Int) c [(53,.bool (!decide (p=0)))]))) ?_
    refine ihB g25 (fun c30 g25=>?_) (fun c30 g25=>?_)
    ·refine sh fol (kAX p) ?_
     refine Goes.ret ?_
     obtain rfl:=si g25
     exact Or.inr (⟨rfl,_,rfl,(gw2 [.i p] (Ua tI))⟩)
    refine Goes.skip ?_
    refine sh fol (kI n ((6,.i c)::(7,vl encI d)::(9,.bool false)::(42,vl (qf encI) f.Factors)::(kA1 (f.Factors.length:Int) c []))) ?_
    refine sq ?_
    refine sh fol (kI n ((6,.i c)::(7,vl encI d)::(9,.bool false)::(42,vl (qf encI) f.Factors)::(kA1 (f.Factors.length:Int) c [(56,.bool (decide (c>0)))]))) ?_
    obtain⟨r32,g32,g25⟩:=bnd g25
    refine Goes.imp (Q:=fun x s'=>(x= .normal/\ ∃J,J=r32/\Sub s' (ofG 80 (kI n ((7,vl encI d)::(9,.bool J)::(42,vl (qf encI) f.Factors)::(kA1 (f.Factors.length:Int) c []))),[.cells [.i f.Half,vl (qf encI) f.Factors]]))) ?_ ?_
    ·refine ihD g32 (fun c33 g32=>?_) (fun c33 g32=>?_)
     ·obtain⟨x34,q,g32⟩:=bnd g32
      obtain⟨r35,K,g32⟩:=bnd g32
      refine gr fol [4,5,7] (kI n ((7,vl encI d)::(9,.bool r35.2)::(42,vl (qf encI) f.Factors)::(kA1 (f.Factors.length:Int) c []))) (ac (iv qeE (qf encI) q) (ac (lv 0 qeh (qf encI) q rfl) (ac (cv (qbo N x34 d K)) az))) ?_
      obtain rfl:=si g32
      exact⟨rfl,_,rfl,(Sub.refl _)⟩
     refine Goes.skip ?_
     obtain rfl:=si g32
     exact⟨rfl,_,rfl,(Sub.keep [0,3,7,9,42,43,44] rfl rfl)⟩
    rintro x s' ⟨rfl,J,rfl,hsub⟩
    refine Goes.sub hsub ?_
    refine sq ?_
    obtain⟨b41,b,g25⟩:=bnd g25
    refine Goes.cut (s':=(ofG 80 (kI n ((42,vl (qf encI) f.Factors)::(kA1 (f.Factors.length:Int) c [(78,.bool b41)]))),[.cells [.i f.Half,vl (qf encI) f.Factors]])) ?_ ?_
    ·rcases wyB b with⟨y,b⟩|⟨y,b⟩
     ·obtain rfl:=si b
      exact tr fol [1] (kI n ((42,vl (qf encI) f.Factors)::(kA1 (f.Factors.length:Int) c [(78,.bool true)]))) (ac (gw y) az)
     obtain⟨r37,r,b⟩:=bnd b
     rcases wyB b with⟨L,b⟩|⟨L,b⟩
     ·obtain rfl:=si b
      exact tr fol [1,3,5] (kI n ((42,vl (qf encI) f.Factors)::(kA1 (f.Factors.length:Int) c [(78,.bool true)]))) (ac (gw y) (ac (cv (vJ N d r)) (ac (gw L) az)))
     obtain⟨r39,O,b⟩:=bnd b
     obtain⟨r40,P,b⟩:=bnd b
     obtain rfl:=si b
     exact tr fol [1,3,5,8,9] (kI n ((42,vl (qf encI) f.Factors)::(kA1 (f.Factors.length:Int) c [(78,.bool r40)]))) (ac (gw y) (ac (cv (vJ N d r)) (ac (gw L) (ac (cv (qaD N n O)) (ac (cv (qay N d r39 P)) az)))))
    refine ihB g25 (fun c43 g25=>?_) (fun c43 g25=>?_)
    ·refine sh fol [(4,.i 1)] ?_
     refine Goes.ret ?_
     obtain rfl:=si g25
     exact Or.inr (⟨rfl,_,rfl,(gw2 [.i 1] (Ua tI))⟩)
    refine Goes.skip ?_
    refine gh fol (kI n ((42,vl (qf encI) f.Factors)::(kA1 (f.Factors.length:Int) (w64 (c+1)) []))) ?_
    exact⟨M,(ofG 80 (kI n ((42,vl (qf encI) f.Factors)::(kA1 (f.Factors.length:Int) (w64 (c+1)) []))),[.cells [.i f.Half,vl (qf encI) f.Factors]]),Nat.lt_succ_self _,(Sub.refl _),_,rfl,g25⟩
   refine Goes.exit ?_
   obtain rfl:=si g25
   exact Or.inl (⟨rfl,rfl,(Sub.norm [] [] rfl rfl .nil .nil)⟩)
 rintro x s' (⟨rfl,rfl,hsub⟩|⟨rfl,q44,rfl,hret⟩)
 ·try dsimp only at h
  refine Goes.sub hsub ?_
  refine sh fol kA9 ?_
  refine Goes.ret ?_
  obtain rfl:=si h
  exact(gw2 [.i 0] (Ua tI))
 try dsimp only at h
 obtain rfl:=si h
 exact hret
def zR (N:Nat) (f:zV):Nat->(List Int)->Int->Option (List Int)
 |0,_,_=>none
 |K+1,b,a=>
  if a<(f.Factors.length:Int)then
  (idx f.Factors a).bind fun c=>
  (kr N c).bind fun d=>
  (app 8 b d).bind fun e=>
  zR N f K e (w64 (a+1))
  else
  some b
def jQ (N:Nat) (n:Int) (f:zV):Option ((List Int)×Int):=
 (zH N n f).bind fun e=>
 if(!decide (e=0))=true then
 some ([],e)
 else
 (vP N n).bind fun h=>
 (kr N h).bind fun g=>
 ((if f.Half<0 then
 (zM N g).bind fun i=>
 some i
 else
 some g:Option (List Int))).bind fun j=>
 (ji f.Half).bind fun c=>
 (qW N j c).bind fun a=>
 (if a.length<=1000000000 then some ()else none:Option Unit).bind fun k=>
 (zR N f N a 0).bind fun d=>
 (jZ d).bind fun b=>
 some (b.1,b.2)
theorem qcl (N:Nat) (n:Int) (f:zV) {res:(List Int)×Int} (h:jQ N n f=some res):qa ZT (.fn 18) [.i n,.agg [.i f.Half,vl (qf encI) f.Factors]] [] (.tuple (kAT res.1 res.2)) []:=by
 unfold jQ at h
 refine Ub Tryz.func18 rfl rfl (m:=46) rfl (rs:=[.tmp 4,.tmp 5]) rfl (l:=[(0,.i n),(1,.agg [.i f.Half,vl (qf encI) f.Factors])]) rfl ?_
 refine sg fol (kI n []) [.cells [.i f.Half,vl (qf encI) f.Factors]] ?_
 refine sq ?_
 obtain⟨u,v,h⟩:=bnd h
 refine sq (gr fol [2] (kI n (kBQ u)) (ac (cv (yJ N n f v)) az) ?_)
 refine sh fol (kI n [(6,.i u),(15,.bool (!decide (u=0)))]) ?_
 refine ihB h (fun J h=>?_) (fun J h=>?_)
 ·refine sh fol (kBM (kAc u)) ?_
  refine Goes.ret ?_
  obtain rfl:=si h
  exact(gw2 (kAd u) (FzW.tuple (jm.cons (FzW.nilv (E:=encI)) (jm.cons (Ua tI) jm.nil))))
 refine Goes.skip ?_
 obtain⟨K,w,h⟩:=bnd h
 obtain⟨F,y,h⟩:=bnd h
 refine sq (gr fol [1,2] (kBU [(7,vl encI F)]) (ac (cv (qaD N n w)) (ac (cv (jS N K y)) az)) ?_)
 refine sq ?_
 refine sh fol (kBU [(7,vl encI F),(22,.bool (decide (f.Half<0)))]) ?_
 obtain⟨L,g6,h⟩:=bnd h
 refine Goes.imp (Q:=fun x s'=>(x= .normal/\ ∃z,z=L/\Sub s' (ofG 46 (kBU [(7,vl encI z)]),[.cells [.i f.Half,vl (qf encI) f.Factors]]))) ?_ ?_
 ·refine ihD g6 (fun O g6=>?_) (fun O g6=>?_)
  ·obtain⟨G,A,g6⟩:=bnd g6
   refine gq fol [1] (kBU [(7,.gslice 1 G.length 1)]) (.cells [.i f.Half,vl (qf encI) f.Factors]::(kA G)) (ac (hs (.callH 73 [vl encI F] [.cells [.i f.Half,vl (qf encI) f.Factors]] [] (.gslice 1 G.length 1) (.cells [.i f.Half,vl (qf encI) f.Factors]::(kA G))) (yT [] [none,some 0] (qaz N F A) .nil rfl rfl (.old rfl rfl (.new rfl rfl (.same fa) rfl .nil)) (rc (.same (qF encI _)) rn) (.gslice rfl) rfl)) az) ?_
   obtain rfl:=si g6
   exact⟨rfl,_,rfl,(Sub.norm [1] [some 0] rfl rfl (.kp (.keep (.frz (Fz.gs (E:=encI) rfl rfl (nl rfl)) (qF encI _)) .nil)) (.kb rfl (.same sn) .nil))⟩
  refine Goes.skip ?_
  obtain rfl:=si g6
  exact⟨rfl,_,rfl,(Sub.keep [3,7] rfl rfl)⟩
 rintro x s' ⟨rfl,z,rfl,hsub⟩
 refine Goes.sub hsub ?_
 obtain⟨B,k,h⟩:=bnd h
 obtain⟨a,o,h⟩:=bnd h
 refine sq (gq fol [3,4] (kBU [(8,.slice 1 0 a.length a.length 1)]) (.cells [.i f.Half,vl (qf encI) f.Factors]::(kA a)) (ac (cv (vG f.Half k)) (ac (hs (.callH 74 (kAT z B) [.cells [.i f.Half,vl (qf encI) f.Factors]] [] (.slice 1 0 a.length a.length 1) (.cells [.i f.Half,vl (qf encI) f.Factors]::(kA a))) (yT [] [none,some 0] (xg N z B o) .nil rfl rfl (.old rfl rfl (.new rfl rfl (.same fa) rfl .nil)) (rc (.same (qF encI _)) (rc (.same nI) rn)) (.slice rfl) rfl)) az)) ?_)
 refine sq ?_
 refine sh fol [(8,.slice 1 0 a.length a.length 1),(31,vl (qf encI) f.Factors),(32,.i (f.Factors.length:Int)),(33,.i 0)] ?_
 refine Goes.block ?_
 obtain⟨P,p,h⟩:=bnd h
 obtain⟨C,g17,h⟩:=bnd h
 refine Goes.imp (Q:=fun x s'=>(x= .exit 0/\ ∃b,b=C/\Sub s' (ofG 46 [(8,.oslice 0 b.length 1)],(kA b)))) ?_ ?_
 ·refine Goes.sub (s':=(ofG 46 [(8,.oslice 0 a.length 1),(31,vl (qf encI) f.Factors),(32,.i (f.Factors.length:Int)),(33,.i 0)],(kA a))) (Sub.norm [9999] [some 1] rfl rfl (.keep (zI.ownL rfl rfl (qhS encI a) (qia p) rfl rfl) (.keep (.same (qF (qf encI) _)) (.keep (.same nI) (.keep (.same nI) .nil)))) (.ks .nil)) ?_
  refine Uc (fun M s=> ∃(d:List Int) (e:Int),s=(ofG 46 ((8,.oslice 0 d.length 1)::(31,vl (qf encI) f.Factors)::(kBH (f.Factors.length:Int) e)),(kA d))/\zR N f M d e=some C) ?_ (m:=N) ⟨_,_,rfl,g17⟩
  rintro M s ⟨d,e,rfl,g17⟩
  cases M with
  |zero=>simp only[zR]at g17;cases g17
  |succ M=>
   rw[zR]at g17
   refine sh fol [(8,.oslice 0 d.length 1),(31,vl (qf encI) f.Factors),(32,.i (f.Factors.length:Int)),(33,.i e),(34,.bool (decide (e<(f.Factors.length:Int))))] ?_
   refine sq ?_
   refine ihD g17 (fun H g17=>?_) (fun H g17=>?_)
   ·refine Goes.skip ?_
    refine sq (Goes.block ?_)
    obtain⟨D,j,g17⟩:=bnd g17
    refine sq (gr fol [0,1] ((8,.oslice 0 d.length 1)::(10,vl encI D)::(31,vl (qf encI) f.Factors)::(kBH (f.Factors.length:Int) e)) (ac (iv qeE (qf encI) j) (ac (lv 0 qeh (qf encI) j rfl) az)) ?_)
    obtain⟨I,q,g17⟩:=bnd g17
    obtain⟨g,r,g17⟩:=bnd g17
    refine gq fol [2,3] ((8,.oslice 1 g.length 1)::(31,vl (qf encI) f.Factors)::(kBH (f.Factors.length:Int) e)) (.dead::(kA g)) (ac (cv (jS N D q)) (ac (hs (.run [0] (jf ZT [22,22] (.oslice 0 d.length 1) (vl encI I)) (kA d) (.oslice 1 g.length 1) (.dead::(kA g)) true) (vU z8 (E:=encI) rfl (qdF (E:=encI) rfl _) (dst_o (E:=encI) (l:=d) rfl rfl rfl r rfl))) az)) ?_
    refine gh fol ((8,.oslice 1 g.length 1)::(31,vl (qf encI) f.Factors)::(kBH (f.Factors.length:Int) (w64 (e+1)))) ?_
    exact⟨M,(ofG 46 ((8,.oslice 0 g.length 1)::(31,vl (qf encI) f.Factors)::(kBH (f.Factors.length:Int) (w64 (e+1)))),(kA g)),Nat.lt_succ_self _,(Sub.norm [] [some 1] rfl rfl (.keep (.oslice rfl) (.keep (.same (qF (qf encI) _)) (.keep (.same nI) (.keep (.same nI) .nil)))) (.ks .nil)),_,_,rfl,g17⟩
   refine Goes.exit ?_
   obtain rfl:=si g17
   exact⟨rfl,_,rfl,(Sub.keep [8] rfl rfl)⟩
 rintro x s' ⟨rfl,b,rfl,hsub⟩
 refine Goes.sub hsub ?_
 obtain⟨c,t,h⟩:=bnd h
 refine sq (gq fol [1] ((4,vl encI c.1)::(kAc c.2)) (kAr b []) (ac (hs (.callF 75 [.oslice 0 b.length 1] (kA b) [0] [vl encI b] (.tuple (kAT c.1 c.2))) (qiG (FzL.cons (Fz.os (E:=encI) rfl rfl (nl rfl)) FzL.nil) (qbf b t) (Still.tuple (AllST.cons (jC encI _ (nl rfl)) (AllST.cons tI AllST.nil))))) az) ?_)
 refine Goes.sub (show Sub (ofG 46 ((4,vl encI c.1)::(kAc c.2)),(kAr b [])) (ofG 46 ((4,vl encI c.1)::(kAc c.2)),[])from(Sub.norm [] [] rfl rfl (.keep (.same (qF encI _)) (.keep (.same nI) .nil)) .nil)) ?_
 refine Goes.ret ?_
 obtain rfl:=si h
 exact(gw2 (kAT c.1 c.2) (FzW.tuple (jm.cons (Ua (jC encI _ (nl rfl))) (jm.cons (Ua tI) jm.nil))))
def zP (f:zV) (c:List Int):Nat->(List Int)->Int->Option (List Int)
 |0,_,_=>none
 |K+1,d,e=>
  (yB f.Half).bind fun a=>
  if e<a then
  (app 8 d c).bind fun b=>
  zP f c K b (w64 (e+1))
  else
  some d
def zW (N:Nat) (f:zV):Nat->(List Int)->Int->Option (List Int)
 |0,_,_=>none
 |K+1,b,a=>
  if a<(f.Factors.length:Int)then
  (idx f.Factors a).bind fun c=>
  (kD N c).bind fun d=>
  (app 8 b d).bind fun e=>
  zW N f K e (w64 (a+1))
  else
  some b
def vV (N:Nat) (n:Int) (f:zV):Option (List Int):=
 (jk N n).bind fun c=>
 (kD N c).bind fun b=>
 ((if f.Half<0 then
 (jJ N b).bind fun d=>
 some d
 else
 some b:Option (List Int))).bind fun e=>
 (zP f e N ([]:List Int) 0).bind fun g=>
 (zW N f N g 0).bind fun a=>
 some a
theorem qbX (N:Nat) (n:Int) (f:zV) {res:List Int} (h:vV N n f=some res):qa ZT (.fn 19) [.i n,.agg [.i f.Half,vl (qf encI) f.Factors]] [] (vl encI res) []:=by
 unfold vV at h
 refine Ub Tryz.func19 rfl rfl (m:=43) rfl (rs:=[.tmp 4]) rfl (l:=[(0,.i n),(1,.agg [.i f.Half,vl (qf encI) f.Factors])]) rfl ?_
 refine sg fol (kI n []) [.cells [.i f.Half,vl (qf encI) f.Factors]] ?_
 obtain⟨I,u,h⟩:=bnd h
 obtain⟨B,v,h⟩:=bnd h
 refine sq (gr fol [1,2] (kAY B []) (ac (cv (yO N n u)) (ac (cv (vg N I v)) az)) ?_)
 refine sq ?_
 refine sh fol (kAY B (kBL (decide (f.Half<0)))) ?_
 obtain⟨J,g4,h⟩:=bnd h
 refine Goes.imp (Q:=fun x s'=>(x= .normal/\ ∃e,e=J/\Sub s' (ofG 43 (kAY e []),[.cells [.i f.Half,vl (qf encI) f.Factors]]))) ?_ ?_
 ·refine ihD g4 (fun K g4=>?_) (fun K g4=>?_)
  ·obtain⟨L,w,g4⟩:=bnd g4
   refine gr fol [1] (kAY L []) (ac (cv (qbj N B w)) az) ?_
   obtain rfl:=si g4
   exact⟨rfl,_,rfl,(Sub.refl _)⟩
  refine Goes.skip ?_
  obtain rfl:=si g4
  exact⟨rfl,_,rfl,(Sub.keep [3,5] rfl rfl)⟩
 rintro x s' ⟨rfl,e,rfl,hsub⟩
 refine Goes.sub hsub ?_
 refine sh fol (kAY e (kAL [])) ?_
 refine sq ?_
 refine sh fol (kAY e (kAL kBJ)) ?_
 refine Goes.block ?_
 obtain⟨y,g10,h⟩:=bnd h
 refine Goes.imp (Q:=fun x s'=>(x= .exit 0/\ ∃z,z=y/\Sub s' (ofG 43 (kBU (kAw z [])),(.cells [.i f.Half,vl (qf encI) f.Factors]::(kA z))))) ?_ ?_
 ·refine Goes.sub (s':=(ofG 43 (kAY e ((6,.gslice 1 ([]:List Int).length 1)::kBJ)),(.cells [.i f.Half,vl (qf encI) f.Factors]::kZ))) (Sub.norm [] [some 0,none] rfl rfl (.kp (.keep (.same (qF encI _)) (.keep .nil (.keep (.same nI) .nil)))) (.kb rfl (.same sn) (.fresh .nil))) ?_
  refine Uc (fun M s=> ∃(k:List Int) (o:Int),s=(ofG 43 (kAY e (kAw k (kBK o))),(.cells [.i f.Half,vl (qf encI) f.Factors]::(kA k)))/\zP f e M k o=some y) ?_ (m:=N) ⟨_,_,rfl,g10⟩
  rintro M s ⟨k,o,rfl,g10⟩
  cases M with
  |zero=>simp only[zP]at g10;cases g10
  |succ M=>
   rw[zP]at g10
   refine sq ?_
   obtain⟨C,p,g10⟩:=bnd g10
   refine sq (gr fol [3] (kAY e (kAw k [(7,.i o),(21,.bool (decide (o<C)))])) (ac (cv (qcA f.Half p)) az) ?_)
   refine ihD g10 (fun D g10=>?_) (fun D g10=>?_)
   ·refine Goes.skip ?_
    refine sq (Goes.block ?_)
    obtain⟨c,q,g10⟩:=bnd g10
    refine gq fol [2] (kAY e (kAV c (kBK o))) (.cells [.i f.Half,vl (qf encI) f.Factors]:: .dead::(kA c)) (ac (hs (.run [1] (jf ZT [22,22] (.gslice 1 k.length 1) (vl encI e)) (.cells [.i f.Half,vl (qf encI) f.Factors]::(kA k)) (.gslice 2 c.length 1) (.cells [.i f.Half,vl (qf encI) f.Factors]:: .dead::(kA c)) true) (vU z8 (E:=encI) rfl (qdF (E:=encI) rfl _) (qbw (E:=encI) (l:=k) rfl rfl rfl q rfl))) az) ?_
    refine gh fol (kAY e (kAV c (kBK (w64 (o+1))))) ?_
    exact⟨M,(ofG 43 (kAY e (kAw c (kBK (w64 (o+1))))),(.cells [.i f.Half,vl (qf encI) f.Factors]::(kA c))),Nat.lt_succ_self _,(Sub.norm [] [some 0,some 2] rfl rfl (.kp (.keep (.same (qF encI _)) (.keep (.gslice rfl) (.keep (.same nI) .nil)))) (.kb rfl (.same sn) (.ks .nil))),_,_,rfl,g10⟩
   refine Goes.exit ?_
   obtain rfl:=si g10
   exact⟨rfl,_,rfl,(Sub.keep [3,6] rfl rfl)⟩
 rintro x s' ⟨rfl,z,rfl,hsub⟩
 refine Goes.sub hsub ?_
 refine sq ?_
 refine sh fol (kBU (kAw z [(8,.i 0)])) ?_
 refine Goes.block ?_
 obtain⟨A,g17,h⟩:=bnd h
 refine Goes.imp (Q:=fun x s'=>(x= .exit 2/\ ∃g,g=A/\Sub s' (ofG 43 [(6,.gslice 0 g.length 1)],(kA g)))) ?_ ?_
 ·refine Uc (fun M s=> ∃(a:List Int) (b:Int),s=(ofG 43 (kBU (kAw a (kA2 b))),(.cells [.i f.Half,vl (qf encI) f.Factors]::(kA a)))/\zW N f M a b=some A) ?_ (m:=N) ⟨_,_,rfl,g17⟩
  rintro M s ⟨a,b,rfl,g17⟩
  cases M with
  |zero=>simp only[zW]at g17;cases g17
  |succ M=>
   rw[zW]at g17
   refine sq ?_
   refine sh fol (kBU (kAw a [(8,.i b),(31,.bool (decide (b<(f.Factors.length:Int))))])) ?_
   refine ihD g17 (fun F g17=>?_) (fun F g17=>?_)
   ·refine Goes.skip ?_
    refine sq (Goes.block ?_)
    obtain⟨G,j,g17⟩:=bnd g17
    obtain⟨H,r,g17⟩:=bnd g17
    obtain⟨d,t,g17⟩:=bnd g17
    refine gq fol [4,5,6,7] (kBU (kAV d (kA2 b))) (.cells [.i f.Half,vl (qf encI) f.Factors]:: .dead::(kA d)) (ac (iv qeE (qf encI) j) (ac (lv 0 qeh (qf encI) j rfl) (ac (cv (vg N G r)) (ac (hs (.run [1] (jf ZT [22,22] (.gslice 1 a.length 1) (vl encI H)) (.cells [.i f.Half,vl (qf encI) f.Factors]::(kA a)) (.gslice 2 d.length 1) (.cells [.i f.Half,vl (qf encI) f.Factors]:: .dead::(kA d)) true) (vU z8 (E:=encI) rfl (qdF (E:=encI) rfl _) (qbw (E:=encI) (l:=a) rfl rfl rfl t rfl))) az)))) ?_
    refine gh fol (kBU (kAV d (kA2 (w64 (b+1))))) ?_
    exact⟨M,(ofG 43 (kBU (kAw d (kA2 (w64 (b+1))))),(.cells [.i f.Half,vl (qf encI) f.Factors]::(kA d))),Nat.lt_succ_self _,(Sub.norm [] [some 0,some 2] rfl rfl (.kp (.keep (.gslice rfl) (.keep (.same nI) .nil))) (.kb rfl (.same sn) (.ks .nil))),_,_,rfl,g17⟩
   refine Goes.exit ?_
   obtain rfl:=si g17
   exact⟨rfl,_,rfl,(Sub.norm [] [some 1] rfl rfl (.drop (.keep (.gslice rfl) .nil)) (.ks .nil))⟩
 rintro x s' ⟨rfl,g,rfl,hsub⟩
 refine Goes.sub hsub ?_
 refine sh fol (kAE g []) ?_
 refine Goes.ret ?_
 obtain rfl:=si h
 exact(gw2 [.gslice 0 g.length 1] (Uu (Fz.gs (E:=encI) rfl rfl (nl rfl))))
end Go.Av
