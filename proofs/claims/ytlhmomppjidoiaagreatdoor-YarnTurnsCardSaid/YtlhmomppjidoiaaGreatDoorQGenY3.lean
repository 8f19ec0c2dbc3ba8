/-
  Walks of functions: what each computes, as a plain function.
-/
import Derived.Test.YtlhmomppjidoiaaGreatDoorQGenY2
noncomputable section
namespace Go.Av
open Go.Proofs Go.RowKit
set_option linter.unusedSectionVars false
set_option linter.unusedVariables false
set_option linter.unusedSimpArgs false
set_option maxRecDepth 100000
def jZ (b:Str):Nat->Int->Option (Unit⊕Int)
 |0,_=>none
 |K+1,a=>
  if a<(b.length:Int)then
  (idx b a).bind fun c=>
  if(c.toNat:Int)=47 then
  some (.inr a)
  else
  jZ b K (w64 (a+1))
  else
  some (.inl ())
def yD (N:Nat) (a:Str):Option Int:=
 (jZ a N 0).bind (fun
 |(.inl ())=>
 some (a.length:Int)
 |(.inr b)=>
 some b)
theorem qai (N:Nat) (a:Str) {res:Int} (h:yD N a=some res):qb ZT (.fn 65) [.str a] [] (.i res) []:=by
 unfold yD at h
 refine Ub Tryz.func65 rfl rfl (m:=17) rfl (rs:=[.tmp 2]) rfl (l:=(kAH a)) rfl ?_
 refine sh fol (kAH a) ?_
 refine sq ?_
 refine sh fol (kA5 a [(3,.i 0)]) ?_
 refine Goes.block ?_
 obtain⟨d,g2,h⟩:=bnd h
 refine Goes.imp (Q:=fun x s'=>(x= .exit 0/\(.inl ())=d/\Sub s' (ofG 17 (kAH a),[]))\/(x= .ret/\ ∃e,(.inr e)=d/\vI ZT [.tmp 2] (.i e) .ret s')) ?_ ?_
 ·refine Uc (fun M s=> ∃(b:Int),s=(ofG 17 (kAF a b []),[])/\jZ a M b=some d) ?_ (m:=N) ⟨_,rfl,g2⟩
  rintro M s ⟨b,rfl,g2⟩
  cases M with
  |zero=>simp only[jZ]at g2;cases g2
  |succ M=>
   rw[jZ]at g2
   refine sq ?_
   refine sh fol (kAF a b [(7,.bool (decide (b<(a.length:Int))))]) ?_
   refine ihD g2 (fun g g2=>?_) (fun g g2=>?_)
   ·refine Goes.skip ?_
    refine sq (Goes.block ?_)
    obtain⟨f,c,g2⟩:=bnd g2
    refine sq (gr fol [2] (kAF a b (kBE (decide ((f.toNat:Int)=47)))) (ac (hs (.done (.opt (yu ZT 9 (.str a) (.i b))) (.int .u8 (f.toNat:Int))) (qaD st9 c)) az) ?_)
    refine ihD g2 (fun j g2=>?_) (fun j g2=>?_)
    ·refine sh fol (kA3 b) ?_
     refine Goes.ret ?_
     obtain rfl:=si g2
     exact Or.inr (⟨rfl,_,rfl,(gw2 [.i b] (Ua tI))⟩)
    refine Goes.skip ?_
    refine gh fol (kAF a (w64 (b+1)) []) ?_
    exact⟨M,(ofG 17 (kAF a (w64 (b+1)) []),[]),Nat.lt_succ_self _,(Sub.refl _),_,rfl,g2⟩
   refine Goes.exit ?_
   obtain rfl:=si g2
   exact Or.inl (⟨rfl,rfl,(Sub.keep [0] rfl rfl)⟩)
 rintro x s' (⟨rfl,rfl,hsub⟩|⟨rfl,k,rfl,hret⟩)
 ·try dsimp only at h
  refine Goes.sub hsub ?_
  refine sh fol (kA3 (a.length:Int)) ?_
  refine Goes.ret ?_
  obtain rfl:=si h
  exact(gw2 [.i (a.length:Int)] (Ua tI))
 try dsimp only at h
 obtain rfl:=si h
 exact hret
def jB (a:Str):Nat->Int->Option (Unit⊕Bool)
 |0,_=>none
 |K+1,b=>
  if b<(a.length:Int)then
  ((idx a b).bind fun c=>
  if(c.toNat:Int)<48 then
  some true
  else
  some (decide ((c.toNat:Int)>57)):Option Bool).bind fun d=>
  if d=true then
  some (.inr false)
  else
  jB a K (w64 (b+1))
  else
  some (.inl ())
def qa7 (N:Nat) (b:Str):Option Bool:=
 (jB b N 0).bind (fun
 |(.inl ())=>
 some true
 |(.inr a)=>
 some a)
theorem qgp (N:Nat) (b:Str) {res:Bool} (h:qa7 N b=some res):qb ZT (.fn 138) [.str b] [] (.bool res) []:=by
 unfold qa7 at h
 refine Ub Tryz.func138 rfl rfl (m:=20) rfl (rs:=[.tmp 2]) rfl (l:=(kAH b)) rfl ?_
 refine sh fol (kAH b) ?_
 refine sq ?_
 refine sh fol (kA5 b [(3,.i 0)]) ?_
 refine Goes.block ?_
 obtain⟨f,g2,h⟩:=bnd h
 refine Goes.imp (Q:=fun x s'=>(x= .exit 0/\(.inl ())=f/\Sub s' (ofG 20 [],[]))\/(x= .ret/\ ∃j,(.inr j)=f/\vI ZT [.tmp 2] (.bool j) .ret s')) ?_ ?_
 ·refine Uc (fun M s=> ∃(c:Int),s=(ofG 20 (kAF b c []),[])/\jB b M c=some f) ?_ (m:=N) ⟨_,rfl,g2⟩
  rintro M s ⟨c,rfl,g2⟩
  cases M with
  |zero=>simp only[jB]at g2;cases g2
  |succ M=>
   rw[jB]at g2
   refine sq ?_
   refine sh fol (kAF b c [(7,.bool (decide (c<(b.length:Int))))]) ?_
   refine ihD g2 (fun k g2=>?_) (fun k g2=>?_)
   ·refine Goes.skip ?_
    refine sq (Goes.block ?_)
    refine sq ?_
    obtain⟨n,a,g2⟩:=bnd g2
    refine Goes.cut (s':=(ofG 20 (kAF b c [(19,.bool n)]),[])) ?_ ?_
    ·obtain⟨e,d,a⟩:=bnd a
     rcases wyD a with⟨g,a⟩|⟨g,a⟩
     ·obtain rfl:=si a
      exact tr fol [2,4] (kAF b c [(19,.bool true)]) (ac (hs (.done (.opt (yu ZT 9 (.str b) (.i c))) (.int .u8 (e.toNat:Int))) (qaD st9 d)) (ac (gw g) az))
     obtain rfl:=si a
     exact tr fol [2,4,7] (kAF b c [(19,.bool (decide ((e.toNat:Int)>57)))]) (ac (hs (.done (.opt (yu ZT 9 (.str b) (.i c))) (.int .u8 (e.toNat:Int))) (qaD st9 d)) (ac (gw g) (ac (hs (.done (.opt (yu ZT 9 (.str b) (.i c))) (.int .u8 (e.toNat:Int))) (qaD st9 d)) az)))
    refine ihB g2 (fun o g2=>?_) (fun o g2=>?_)
    ·refine sh fol kAq ?_
     refine Goes.ret ?_
     obtain rfl:=si g2
     exact Or.inr (⟨rfl,_,rfl,(gw2 [.bool false] (Ua tB))⟩)
    refine Goes.skip ?_
    refine gh fol (kAF b (w64 (c+1)) []) ?_
    exact⟨M,(ofG 20 (kAF b (w64 (c+1)) []),[]),Nat.lt_succ_self _,(Sub.refl _),_,rfl,g2⟩
   refine Goes.exit ?_
   obtain rfl:=si g2
   exact Or.inl (⟨rfl,rfl,(Sub.keep [] rfl rfl)⟩)
 rintro x s' (⟨rfl,rfl,hsub⟩|⟨rfl,p,rfl,hret⟩)
 ·try dsimp only at h
  refine Goes.sub hsub ?_
  refine sh fol kBd ?_
  refine Goes.ret ?_
  obtain rfl:=si h
  exact(gw2 [.bool true] (Ua tB))
 try dsimp only at h
 obtain rfl:=si h
 exact hret
def jh (N:Nat) (a:Str):Option Bool:=
 (if(a.length:Int)=0 then
 some true
 else
 if(a.length:Int)>1 then
 (idx a 0).bind fun b=>
 some (decide ((b.toNat:Int)=48))
 else
 some false:Option Bool).bind fun c=>
 if c=true then
 some false
 else
 (qa7 N a).bind fun d=>
 some d
theorem ja (N:Nat) (b:Str) {res:Bool} (h:jh N b=some res):qb ZT (.fn 66) [.str b] [] (.bool res) []:=by
 unfold jh at h
 refine Ub Tryz.func66 rfl rfl (m:=18) rfl (rs:=[.tmp 2]) rfl (l:=(kAH b)) rfl ?_
 refine sh fol (kAH b) ?_
 refine sq ?_
 refine sq ?_
 obtain⟨k,a,h⟩:=bnd h
 refine Goes.cut (s':=(ofG 18 (kA5 b (kBe k)),[])) ?_ ?_
 ·rcases wyD a with⟨e,a⟩|⟨e,a⟩
  ·obtain rfl:=si a
   exact tr fol [3] (kA5 b [(15,.bool true)]) (ac (gw e) az)
  rcases wyD a with⟨f,a⟩|⟨f,a⟩
  ·obtain⟨g,c,a⟩:=bnd a
   obtain rfl:=si a
   exact tr fol [3,7,9] (kA5 b (kBe (decide ((g.toNat:Int)=48)))) (ac (gw e) (ac (gw f) (ac (hs (.done (.opt (yu ZT 9 (.str b) (.i 0))) (.int .u8 (g.toNat:Int))) (qaD st9 c)) az)))
  obtain rfl:=si a
  exact tr fol [3,7] (kA5 b [(15,.bool false)]) (ac (gw e) (ac (gw f) az))
 refine ihB h (fun n h=>?_) (fun n h=>?_)
 ·refine sh fol kAq ?_
  refine Goes.ret ?_
  obtain rfl:=si h
  exact(gw2 [.bool false] (Ua tB))
 refine Goes.skip ?_
 obtain⟨j,d,h⟩:=bnd h
 refine sq (gr fol [1] (kBQ j) (ac (cv (qgp N b d)) az) ?_)
 refine Goes.ret ?_
 obtain rfl:=si h
 exact(gw2 [.bool j] (Ua tB))
def yM:Nat->(List Int)->Option (List Int)
 |0,_=>none
 |K+1,a=>
  (if(a.length:Int)>0 then
  (idx a (w64 ((a.length:Int)-1))).bind fun b=>
  some (decide (b=0))
  else
  some false:Option Bool).bind fun c=>
  if c=true then
  (cut a 0 (w64 ((a.length:Int)-1))).bind fun d=>
  yM K d
  else
  some a
def yf (N:Nat) (w:List Int):Option (List Int):=
 (yM N w).bind fun a=>
 some a
theorem yO (N:Nat) (w:List Int) {res:List Int} (h:yf N w=some res):qb ZT (.fn 205) [vl encI w] [] (vl encI res) []:=by
 unfold yf at h
 refine Ub Tryz.func205 rfl rfl (m:=21) rfl (rs:=[.tmp 2]) rfl (l:=(kAi w [])) rfl ?_
 refine sh fol (kAi w []) ?_
 refine sq (Goes.block ?_)
 obtain⟨j,g3,h⟩:=bnd h
 refine Goes.imp (Q:=fun x s'=>(x= .exit 0/\ ∃d,d=j/\Sub s' (ofG 21 (kAi d []),[]))) ?_ ?_
 ·refine Uc (fun M s=> ∃(b:List Int),s=(ofG 21 (kAi b []),[])/\yM M b=some j) ?_ (m:=N) ⟨_,rfl,g3⟩
  rintro M s ⟨b,rfl,g3⟩
  cases M with
  |zero=>simp only[yM]at g3;cases g3
  |succ M=>
   rw[yM]at g3
   refine sq ?_
   refine sq ?_
   obtain⟨k,a,g3⟩:=bnd g3
   refine Goes.cut (s':=(ofG 21 (kAi b [(14,.bool k)]),[])) ?_ ?_
   ·rcases wyD a with⟨f,a⟩|⟨f,a⟩
    ·obtain⟨n,c,a⟩:=bnd a
     obtain rfl:=si a
     exact tr fol [3,8,9] (kAi b [(14,.bool (decide (n=0)))]) (ac (gw f) (ac (iv jR encI c) (ac (lv 0 ce3 encI c rfl) az)))
    obtain rfl:=si a
    exact tr fol [3] (kAi b [(14,.bool false)]) (ac (gw f) az)
   refine ihB g3 (fun o g3=>?_) (fun o g3=>?_)
   ·refine Goes.skip ?_
    refine Goes.block ?_
    obtain⟨g,e,g3⟩:=bnd g3
    refine gr fol [4] (kAi g []) (ac (hs (.done (.opt (qQ ZT 87 (vl encI b) none (some (.i (w64 ((b.length:Int)-1)))) none)) (vl encI g)) (qjE jR (E:=encI) rfl none (some (w64 ((b.length:Int)-1))) e)) az) ?_
    exact⟨M,(ofG 21 (kAi g []),[]),Nat.lt_succ_self _,(Sub.refl _),_,rfl,g3⟩
   refine Goes.exit ?_
   obtain rfl:=si g3
   exact⟨rfl,_,rfl,(Sub.keep [0] rfl rfl)⟩
 rintro x s' ⟨rfl,d,rfl,hsub⟩
 refine Goes.sub hsub ?_
 refine sh fol [(2,vl encI d)] ?_
 refine Goes.ret ?_
 obtain rfl:=si h
 exact(gw2 [vl encI d] (Ua (qw encI _ (nl rfl))))
def zG (N:Nat) (neg:Bool) (w:List Int):Option qD:=
 (yf N w).bind fun a=>
 (if neg=true then
 some (decide ((a.length:Int)>0))
 else
 some false:Option Bool).bind fun b=>
 some (⟨b,a⟩:qD)
theorem zU (N:Nat) (neg:Bool) (w:List Int) {res:qD} (h:zG N neg w=some res):qb ZT (.fn 151) (kAf neg w) [] (.agg (kAf res.neg res.w)) []:=by
 unfold zG at h
 refine Ub Tryz.func151 rfl rfl (m:=15) rfl (rs:=[.cell 4 116]) rfl (l:=[(0,.bool neg),(1,vl encI w)]) rfl ?_
 refine sg fol ((0,.bool neg)::(1,vl encI w)::(kAP [])) (kN []) ?_
 obtain⟨b,c,h⟩:=bnd h
 refine sq (gr fol [1] ((0,.bool neg)::(1,vl encI b)::(kAP [])) (ac (cv (yO N w c)) az) ?_)
 refine sq ?_
 obtain⟨e,a,h⟩:=bnd h
 refine Goes.cut (s':=(ofG 15 (kAP []),(kAL e b []))) ?_ ?_
 ·rcases wyB a with⟨d,a⟩|⟨d,a⟩
  ·obtain rfl:=si a
   exact jg.rq fol [1] (kAP []) (kAL (decide ((b.length:Int)>0)) b []) (ac (gw d) az)
  obtain rfl:=si a
  exact jg.rq fol [1] (kAP []) [.cells [.bool false,vl encI b]] (ac (gw d) az)
 refine Goes.ret ?_
 obtain rfl:=si h
 exact(gw2 [.agg (kAf e b)] (FzW.agg (qc.cons (Ua tB) (qc.cons (Ua (qw encI _ (nl rfl))) qc.nil))))
def zR:Nat->(List Int)->Int->Option (List Int)
 |0,_,_=>none
 |K+1,b,a=>
  if(!decide (a=0))=true then
  ((if(a.tmod 1000000000)<0 then
  some (w64 (0-(a.tmod 1000000000)))
  else
  some (a.tmod 1000000000):Option Int)).bind fun c=>
  (app 8 b [c]).bind fun d=>
  zR K d (w64 (a.tdiv 1000000000))
  else
  some b
def vS (N:Nat) (n:Int):Option qD:=
 (zR N ([]:List Int) n).bind fun b=>
 (zG N (decide (n<0)) b).bind fun a=>
 some a
theorem qbe (N:Nat) (n:Int) {res:qD} (h:vS N n=some res):qb ZT (.fn 90) [.i n] [] (.agg (kAf res.neg res.w)) []:=by
 unfold vS at h
 refine Ub Tryz.func90 rfl rfl (m:=25) rfl (rs:=[.cell 2 116]) rfl (l:=[(0,.i n)]) rfl ?_
 refine sg fol ((0,.i n)::(kM [])) (kN []) ?_
 refine sh fol ((0,.i n)::(kM [(3,.nilslice)])) ?_
 refine sh fol ((0,.i n)::(kM ((3,.nilslice)::(kBM (decide (n<0)))))) ?_
 refine sq (Goes.block ?_)
 obtain⟨k,g4,h⟩:=bnd h
 refine Goes.imp (Q:=fun x s'=>(x= .exit 0/\ ∃d,d=k/\Sub s' (ofG 25 (kM (kAu d (decide (n<0)) [])),(kN (kC d []))))) ?_ ?_
 ·refine Goes.sub (s':=(ofG 25 ((0,.i n)::(kM ((3,.gslice 1 ([]:List Int).length 1)::(kBM (decide (n<0)))))),(kN kBJ))) (Sub.norm [] [some 0,none] rfl rfl (.keep (.same nI) (.kp (.keep .nil (.keep (.same nB) .nil)))) (.kb rfl (.same sn) (.fresh .nil))) ?_
  refine Uc (fun M s=> ∃(c:List Int) (b:Int),s=(ofG 25 ((0,.i b)::(kM (kAu c (decide (n<0)) []))),(kN (kC c [])))/\zR M c b=some k) ?_ (m:=N) ⟨_,_,rfl,g4⟩
  rintro M s ⟨c,b,rfl,g4⟩
  cases M with
  |zero=>simp only[zR]at g4;cases g4
  |succ M=>
   rw[zR]at g4
   refine sq ?_
   refine sh fol ((0,.i b)::(kM (kAu c (decide (n<0)) [(9,.bool (!decide (b=0)))]))) ?_
   refine ihB g4 (fun o g4=>?_) (fun o g4=>?_)
   ·refine Goes.skip ?_
    refine Goes.block ?_
    refine sh fol ((0,.i b)::(kM (kAu c (decide (n<0)) (kAm (b.tmod 1000000000))))) ?_
    refine sq ?_
    refine sh fol ((0,.i b)::(kM (kAu c (decide (n<0)) ((5,.i (b.tmod 1000000000))::(kBE (decide ((b.tmod 1000000000)<0))))))) ?_
    obtain⟨p,g7,g4⟩:=bnd g4
    refine Goes.imp (Q:=fun x s'=>(x= .normal/\ ∃e,e=p/\Sub s' (ofG 25 ((0,.i b)::(kM (kAu c (decide (n<0)) (kAm e)))),(kN (kC c []))))) ?_ ?_
    ·refine ihD g7 (fun q g7=>?_) (fun q g7=>?_)
     ·refine gh fol ((0,.i b)::(kM (kAu c (decide (n<0)) (kAm (w64 (0-(b.tmod 1000000000))))))) ?_
      obtain rfl:=si g7
      exact⟨rfl,_,rfl,(Sub.refl _)⟩
     refine Goes.skip ?_
     obtain rfl:=si g7
     exact⟨rfl,_,rfl,(Sub.keep [0,2,3,4,5] rfl rfl)⟩
    rintro x s' ⟨rfl,e,rfl,hsub⟩
    refine Goes.sub hsub ?_
    obtain⟨f,j,g4⟩:=bnd g4
    refine sq (gq fol [3] ((0,.i b)::(kM ((3,.gslice 3 f.length 1)::(kBM (decide (n<0)))))) (kN (kBN e (kC f []))) (ac (hs (.run [1,2] (xU ZT [87,87] (.gslice 1 c.length 1) (.slice 2 0 1 1 1)) (kN (kC c [.cells [.i e]])) (.gslice 3 f.length 1) (kN (kBN e (kC f []))) true) (qcy jR (E:=encI) rfl (qht (E:=encI) (ys:=[e]) rfl rfl rfl rfl) (qiq (E:=encI) (l:=c) rfl rfl rfl j rfl))) az) ?_)
    refine gh fol ((0,.i (w64 (b.tdiv 1000000000)))::(kM ((3,.gslice 3 f.length 1)::(kBM (decide (n<0)))))) ?_
    exact⟨M,(ofG 25 ((0,.i (w64 (b.tdiv 1000000000)))::(kM (kAu f (decide (n<0)) []))),(kN (kC f []))),Nat.lt_succ_self _,(Sub.norm [] [some 0,some 3] rfl rfl (.keep (.same nI) (.kp (.keep (.gslice rfl) (.keep (.same nB) .nil)))) (.kb rfl (.same sn) (.ks .nil))),_,_,rfl,g4⟩
   refine Goes.exit ?_
   obtain rfl:=si g4
   exact⟨rfl,_,rfl,(Sub.keep [2,3,4] rfl rfl)⟩
 rintro x s' ⟨rfl,d,rfl,hsub⟩
 refine Goes.sub hsub ?_
 obtain⟨a,g,h⟩:=bnd h
 refine sq (gq fol [2] (kM []) (kAL a.neg a.w (kAd d)) (ac (hs (.callF 151 [.bool (decide (n<0)),.gslice 1 d.length 1] (kN (kC d [])) [1] (kAf (decide (n<0)) d) (.agg (kAf a.neg a.w))) (qaQ (FzL.cons (Ue tB) (FzL.cons (Fz.gs (E:=encI) rfl rfl (nl rfl)) FzL.nil)) (zU N (decide (n<0)) d g) (Still.agg (AllST.cons tB (AllST.cons (qw encI _ (nl rfl)) AllST.nil))))) az) ?_)
 refine Goes.sub (show Sub (ofG 25 (kM []),(kAL a.neg a.w (kAd d))) (ofG 25 (kM []),(kAL a.neg a.w []))from(Sub.norm [] [some 0] rfl rfl (.kp .nil) (.kb rfl (.same sn) .nil))) ?_
 refine Goes.ret ?_
 obtain rfl:=si h
 exact(gw2 [.agg (kAf a.neg a.w)] (FzW.agg (qc.cons (Ua tB) (qc.cons (Ua (qw encI _ (nl rfl))) qc.nil))))
def jV (a:Str):Nat->Int->Int->Option Int
 |0,_,_=>none
 |K+1,c,b=>
  if b<(a.length:Int)then
  (idx a b).bind fun d=>
  jV a K (w64 ((w64 ((w64 (10*c))+(w64 (d.toNat:Int))))-48)) (w64 (b+1))
  else
  some c
def xq (N:Nat) (a:Str):Option Int:=
 (jV a N 0 0).bind fun b=>
 some b
theorem qaX (N:Nat) (a:Str) {res:Int} (h:xq N a=some res):qb ZT (.fn 149) [.str a] [] (.i res) []:=by
 unfold xq at h
 refine Ub Tryz.func149 rfl rfl (m:=20) rfl (rs:=[.tmp 2]) rfl (l:=(kAH a)) rfl ?_
 refine sh fol (kAH a) ?_
 refine sh fol (kA5 a [(3,.i 0)]) ?_
 refine sq ?_
 refine sh fol (kA5 a ((3,.i 0)::kBc)) ?_
 refine Goes.block ?_
 obtain⟨g,g4,h⟩:=bnd h
 refine Goes.imp (Q:=fun x s'=>(x= .exit 0/\ ∃d,d=g/\Sub s' (ofG 20 [(3,.i d)],[]))) ?_ ?_
 ·refine Uc (fun M s=> ∃(c:Int) (b:Int),s=(ofG 20 (kAF a c (kBU b)),[])/\jV a M c b=some g) ?_ (m:=N) ⟨_,_,rfl,g4⟩
  rintro M s ⟨c,b,rfl,g4⟩
  cases M with
  |zero=>simp only[jV]at g4;cases g4
  |succ M=>
   rw[jV]at g4
   refine sq ?_
   refine sh fol (kAF a c ((4,.i b)::(kBa (decide (b<(a.length:Int)))))) ?_
   refine ihD g4 (fun j g4=>?_) (fun j g4=>?_)
   ·refine Goes.skip ?_
    refine sq (Goes.block ?_)
    obtain⟨f,e,g4⟩:=bnd g4
    refine gr fol [4] (kAF a (w64 ((w64 ((w64 (10*c))+(w64 (f.toNat:Int))))-48)) (kBU b)) (ac (hs (.done (.opt (yu ZT 9 (.str a) (.i b))) (.int .u8 (f.toNat:Int))) (qaD st9 e)) az) ?_
    refine gh fol (kAF a (w64 ((w64 ((w64 (10*c))+(w64 (f.toNat:Int))))-48)) (kBU (w64 (b+1)))) ?_
    exact⟨M,(ofG 20 (kAF a (w64 ((w64 ((w64 (10*c))+(w64 (f.toNat:Int))))-48)) (kBU (w64 (b+1)))),[]),Nat.lt_succ_self _,(Sub.refl _),_,_,rfl,g4⟩
   refine Goes.exit ?_
   obtain rfl:=si g4
   exact⟨rfl,_,rfl,(Sub.keep [3] rfl rfl)⟩
 rintro x s' ⟨rfl,d,rfl,hsub⟩
 refine Goes.sub hsub ?_
 refine sh fol (kA3 d) ?_
 refine Goes.ret ?_
 obtain rfl:=si h
 exact(gw2 [.i d] (Ua tI))
def yc (N:Nat):Nat->(List Int)->Str->Option ((List Int)×Str)
 |0,_,_=>none
 |K+1,f,a=>
  if(a.length:Int)>9 then
  (cut a (w64 ((a.length:Int)-9)) (a.length:Int)).bind fun b=>
  (xq N b).bind fun c=>
  (app 8 f [c]).bind fun d=>
  (cut a 0 (w64 ((a.length:Int)-9))).bind fun e=>
  yc N K d e
  else
  some (f,a)
def xX (N:Nat) (a:Str):Option qD:=
 (if(a.length:Int)>0 then
 (idx a 0).bind fun h=>
 some (decide ((h.toNat:Int)=45))
 else
 some false:Option Bool).bind fun g=>
 ((if g=true then
 (cut a 1 (a.length:Int)).bind fun i=>
 some i
 else
 some a:Option Str)).bind fun j=>
 (yc N N ([]:List Int) j).bind fun(b,c)=>
 (xq N c).bind fun d=>
 (app 8 b [d]).bind fun e=>
 (zG N g e).bind fun f=>
 some f
theorem qcj (N:Nat) (k:Str) {res:qD} (h:xX N k=some res):qb ZT (.fn 92) [.str k] [] (.agg (kAf res.neg res.w)) []:=by
 unfold xX at h
 refine Ub Tryz.func92 rfl rfl (m:=40) rfl (rs:=[.cell 2 116]) rfl (l:=(kAH k)) rfl ?_
 refine sg fol (kA5 k (kM [])) (kN []) ?_
 refine sq ?_
 obtain⟨e,b,h⟩:=bnd h
 refine Goes.cut (s':=(ofG 40 (kA5 k (kM (kBF e []))),(kN []))) ?_ ?_
 ·rcases wyD b with⟨H,b⟩|⟨H,b⟩
  ·obtain⟨J,B,b⟩:=bnd b
   obtain rfl:=si b
   exact tr fol [3,5] (kA5 k (kM (kBF (decide ((J.toNat:Int)=45)) []))) (ac (gw H) (ac (hs (.done (.opt (yu ZT 9 (.str k) (.i 0))) (.int .u8 (J.toNat:Int))) (qaD st9 B)) az))
  obtain rfl:=si b
  exact tr fol [3] (kA5 k (kM [(3,.bool false)])) (ac (gw H) az)
 refine sq ?_
 refine sh fol (kA5 k (kM (kBF e (kBE e)))) ?_
 obtain⟨L,g6,h⟩:=bnd h
 refine Goes.imp (Q:=fun x s'=>(x= .normal/\ ∃C,C=L/\Sub s' (ofG 40 (kA5 C (kM (kBF e []))),(kN [])))) ?_ ?_
 ·refine ihB g6 (fun O g6=>?_) (fun O g6=>?_)
  ·obtain⟨K,D,g6⟩:=bnd g6
   refine gr fol [1] (kA5 K (kM (kBF e []))) (ac (hs (.done (.opt (qQ ZT 9 (.str k) (some (.i 1)) none none)) (.str K)) (zZ st9 (some 1) none D)) az) ?_
   obtain rfl:=si g6
   exact⟨rfl,_,rfl,(Sub.refl _)⟩
  refine Goes.skip ?_
  obtain rfl:=si g6
  exact⟨rfl,_,rfl,(Sub.keep [0,2,3] rfl rfl)⟩
 rintro x s' ⟨rfl,C,rfl,hsub⟩
 refine Goes.sub hsub ?_
 refine sh fol (kA5 C (kM (kBF e [(4,.nilslice)]))) ?_
 refine sq (Goes.block ?_)
 obtain⟨F,g13,h⟩:=bnd h
 refine Goes.imp (Q:=fun x s'=>(x= .exit 0/\ ∃f n,(f,n)=F/\Sub s' (ofG 40 (kA5 n (kM (kBF e [(4,.gslice 1 f.length 1)]))),(kN (kC f []))))) ?_ ?_
 ·refine Goes.sub (s':=(ofG 40 (kA5 C (kM (kBF e [(4,.gslice 1 ([]:List Int).length 1)]))),(kN kBJ))) (Sub.norm [] [some 0,none] rfl rfl (.keep (.same nS) (.kp (.keep (.same nB) (.keep .nil .nil)))) (.kb rfl (.same sn) (.fresh .nil))) ?_
  refine Uc (fun M s=> ∃(p:List Int) (a:Str),s=(ofG 40 (kA5 a (kM (kBF e [(4,.gslice 1 p.length 1)]))),(kN (kC p [])))/\yc N M p a=some F) ?_ (m:=N) ⟨_,_,rfl,g13⟩
  rintro M s ⟨p,a,rfl,g13⟩
  cases M with
  |zero=>simp only[yc]at g13;cases g13
  |succ M=>
   rw[yc]at g13
   refine sq ?_
   refine sh fol (kA5 a (kM (kBF e [(4,.gslice 1 p.length 1),(18,.bool (decide ((a.length:Int)>9)))]))) ?_
   refine ihD g13 (fun I g13=>?_) (fun I g13=>?_)
   ·refine Goes.skip ?_
    refine Goes.block ?_
    obtain⟨G,q,g13⟩:=bnd g13
    obtain⟨o,r,g13⟩:=bnd g13
    obtain⟨g,t,g13⟩:=bnd g13
    refine sq (gq fol [5,6,8] (kA5 a (kM (kBF e [(4,.gslice 3 g.length 1)]))) (kN (kBN o (kC g []))) (ac (hs (.done (.opt (qQ ZT 9 (.str a) (some (.i (w64 ((a.length:Int)-9)))) none none)) (.str G)) (zZ st9 (some (w64 ((a.length:Int)-9))) none q)) (ac (cv (qaX N G r)) (ac (hs (.run [1,2] (xU ZT [87,87] (.gslice 1 p.length 1) (.slice 2 0 1 1 1)) (kN (kC p [.cells [.i o]])) (.gslice 3 g.length 1) (kN (kBN o (kC g []))) true) (qcy jR (E:=encI) rfl (qht (E:=encI) (ys:=[o]) rfl rfl rfl rfl) (qiq (E:=encI) (l:=p) rfl rfl rfl t rfl))) az))) ?_)
    obtain⟨u,v,g13⟩:=bnd g13
    refine gr fol [4] (kA5 u (kM (kBF e [(4,.gslice 3 g.length 1)]))) (ac (hs (.done (.opt (qQ ZT 9 (.str a) none (some (.i (w64 ((a.length:Int)-9)))) none)) (.str u)) (zZ st9 none (some (w64 ((a.length:Int)-9))) v)) az) ?_
    exact⟨M,(ofG 40 (kA5 u (kM (kBF e [(4,.gslice 1 g.length 1)]))),(kN (kC g []))),Nat.lt_succ_self _,(Sub.norm [] [some 0,some 3] rfl rfl (.keep (.same nS) (.kp (.keep (.same nB) (.keep (.gslice rfl) .nil)))) (.kb rfl (.same sn) (.ks .nil))),_,_,rfl,g13⟩
   refine Goes.exit ?_
   obtain rfl:=si g13
   exact⟨rfl,_,_,rfl,(Sub.keep [0,2,3,4] rfl rfl)⟩
 rintro x s' ⟨rfl,f,n,rfl,hsub⟩
 try dsimp only at h
 refine Goes.sub hsub ?_
 obtain⟨j,y,h⟩:=bnd h
 obtain⟨d,z,h⟩:=bnd h
 obtain⟨c,A,h⟩:=bnd h
 refine sq (gq fol [3,5,6] (kM []) (kAL c.neg c.w (kBN j (kAd d))) (ac (cv (qaX N n y)) (ac (hs (.run [1,2] (xU ZT [87,87] (.gslice 1 f.length 1) (.slice 2 0 1 1 1)) (kN (kC f [.cells [.i j]])) (.gslice 3 d.length 1) (kN (kBN j (kC d []))) true) (qcy jR (E:=encI) rfl (qht (E:=encI) (ys:=[j]) rfl rfl rfl rfl) (qiq (E:=encI) (l:=f) rfl rfl rfl z rfl))) (ac (hs (.callF 151 [.bool e,.gslice 3 d.length 1] (kN (kBN j (kC d []))) [3] (kAf e d) (.agg (kAf c.neg c.w))) (qaQ (FzL.cons (Ue tB) (FzL.cons (Fz.gs (E:=encI) rfl rfl (nl rfl)) FzL.nil)) (zU N e d A) (Still.agg (AllST.cons tB (AllST.cons (qw encI _ (nl rfl)) AllST.nil))))) az))) ?_)
 refine Goes.sub (show Sub (ofG 40 (kM []),(kAL c.neg c.w (kBN j (kAd d)))) (ofG 40 (kM []),(kAL c.neg c.w []))from(Sub.norm [] [some 0] rfl rfl (.kp .nil) (.kb rfl (.same sn) .nil))) ?_
 refine Goes.ret ?_
 obtain rfl:=si h
 exact(gw2 [.agg (kAf c.neg c.w)] (FzW.agg (qc.cons (Ua tB) (qc.cons (Ua (qw encI _ (nl rfl))) qc.nil))))
def yB (N:Nat) (a:Str):Option (qD×qD):=
 (yD N a).bind fun b=>
 if b=(a.length:Int)then
 (xX N a).bind fun c=>
 (vS N 1).bind fun d=>
 some (c,d)
 else
 (cut a 0 b).bind fun e=>
 (xX N e).bind fun f=>
 (cut a (w64 (b+1)) (a.length:Int)).bind fun g=>
 (xX N g).bind fun h=>
 some (f,h)
theorem qb8 (N:Nat) (a:Str) {res:qD×qD} (h:yB N a=some res):qb ZT (.fn 67) [.str a] [] (.tuple (kAl res.1.neg res.1.w res.2.neg res.2.w)) []:=by
 unfold yB at h
 refine Ub Tryz.func67 rfl rfl (m:=25) rfl (rs:=[.cell 2 116,.cell 3 116]) rfl (l:=(kAH a)) rfl ?_
 refine sg fol (kA5 a (kM (kAZ []))) (kN (kN [])) ?_
 refine sh fol (kM (kAZ (kBG a))) ?_
 obtain⟨b,c,h⟩:=bnd h
 refine sq (gr fol [1] (kM (kAZ ((4,.str a)::(kAm b)))) (ac (cv (qai N a c)) az) ?_)
 refine sq ?_
 refine sh fol (kM (kAZ ((4,.str a)::(5,.i b)::(kA1 (decide (b=(a.length:Int))))))) ?_
 refine ihD h (fun t h=>?_) (fun t h=>?_)
 ·obtain⟨n,d,h⟩:=bnd h
  obtain⟨o,e,h⟩:=bnd h
  refine sq (gq fol [1,2] (kM (kAZ [])) (kK n.neg n.w o.neg o.w []) (ac (cv (qcj N a d)) (ac (cv (qbe N 1 e)) az)) ?_)
  refine Goes.ret ?_
  obtain rfl:=si h
  exact(gw2 (kAl n.neg n.w o.neg o.w) (FzW.tuple (qc.cons (FzW.agg (qc.cons (Ua tB) (qc.cons (Ua (qw encI _ (nl rfl))) qc.nil))) (qc.cons (FzW.agg (qc.cons (Ua tB) (qc.cons (Ua (qw encI _ (nl rfl))) qc.nil))) qc.nil))))
 refine Goes.skip ?_
 obtain⟨r,f,h⟩:=bnd h
 obtain⟨p,g,h⟩:=bnd h
 obtain⟨s,j,h⟩:=bnd h
 obtain⟨q,k,h⟩:=bnd h
 refine sq (gq fol [2,3,7,8] (kM (kAZ [])) (kK p.neg p.w q.neg q.w []) (ac (hs (.done (.opt (qQ ZT 9 (.str a) none (some (.i b)) none)) (.str r)) (zZ st9 none (some b) f)) (ac (cv (qcj N r g)) (ac (hs (.done (.opt (qQ ZT 9 (.str a) (some (.i (w64 (b+1)))) none none)) (.str s)) (zZ st9 (some (w64 (b+1))) none j)) (ac (cv (qcj N s k)) az)))) ?_)
 refine Goes.ret ?_
 obtain rfl:=si h
 exact(gw2 (kAl p.neg p.w q.neg q.w) (FzW.tuple (qc.cons (FzW.agg (qc.cons (Ua tB) (qc.cons (Ua (qw encI _ (nl rfl))) qc.nil))) (qc.cons (FzW.agg (qc.cons (Ua tB) (qc.cons (Ua (qw encI _ (nl rfl))) qc.nil))) qc.nil))))
def zt (a:List Int) (b:List Int) (g:Int):Nat->(List Int)->Int->Int->Option ((List Int)×Int)
 |0,_,_,_=>none
 |K+1,h,i,c=>
  if c<(b.length:Int)then
  (idx h (w64 (g+c))).bind fun d=>
  (idx a g).bind fun e=>
  (idx b c).bind fun f=>
  (put h (w64 (g+c)) ((w64 ((w64 (d+(w64 (e*f))))+i)).tmod 1000000000)).bind fun j=>
  zt a b g K j (w64 ((w64 ((w64 (d+(w64 (e*f))))+i)).tdiv 1000000000)) (w64 (c+1))
  else
  some (h,i)
def zy (N:Nat) (a:List Int) (b:List Int):Nat->(List Int)->Int->Option (List Int)
 |0,_,_=>none
 |K+1,h,c=>
  if c<(a.length:Int)then
  (zt a b c N h 0 0).bind fun(d,e)=>
  (idx d (w64 (c+(b.length:Int)))).bind fun f=>
  (put d (w64 (c+(b.length:Int))) (w64 (f+e))).bind fun g=>
  zy N a b K g (w64 (c+1))
  else
  some h
def vH (N:Nat) (a:List Int) (b:List Int):Option (List Int):=
 (mk 8 (w64 ((a.length:Int)+(b.length:Int))) 0).bind fun d=>
 (zy N a b N d 0).bind fun e=>
 (yf N e).bind fun c=>
 some c
theorem qaT (N:Nat) (a:List Int) (b:List Int) {res:List Int} (h:vH N a b=some res):qb ZT (.fn 152) (kBO a b) [] (vl encI res) []:=by
 unfold vH at h
 refine Ub Tryz.func152 rfl rfl (m:=72) rfl (rs:=[.tmp 4]) rfl (l:=(kH a b [])) rfl ?_
 refine sh fol (kH a b []) ?_
 obtain⟨H,I,h⟩:=bnd h
 refine sq (gq fol [5] (kH a b (kD H [])) (kC H []) (ac (hs (.run [] (ji ZT 87 (.i (w64 ((a.length:Int)+(b.length:Int)))) (.i (w64 ((a.length:Int)+(b.length:Int))))) [] (.slice 0 0 H.length H.length 1) (kC H []) false) (qdr jR (E:=encI) (z:=0) rfl (by kernel_rfl) I rfl)) az) ?_)
 refine sq ?_
 refine sh fol (kH a b (kD H [(6,.i 0)])) ?_
 refine Goes.block ?_
 obtain⟨L,g5,h⟩:=bnd h
 refine Goes.imp (Q:=fun x s'=>(x= .exit 0/\ ∃t,t=L/\Sub s' (ofG 72 (kD t []),(kC t [])))) ?_ ?_
 ·refine Uc (fun M s=> ∃(D:List Int) (c:Int),s=(ofG 72 (kH a b (kD D [(6,.i c)])),(kC D []))/\zy N a b M D c=some L) ?_ (m:=N) ⟨_,_,rfl,g5⟩
  rintro M s ⟨D,c,rfl,g5⟩
  cases M with
  |zero=>simp only[zy]at g5;cases g5
  |succ M=>
   rw[zy]at g5
   refine sq ?_
   refine sh fol (kH a b (kD D [(6,.i c),(19,.bool (decide (c<(a.length:Int))))])) ?_
   refine ihD g5 (fun O g5=>?_) (fun O g5=>?_)
   ·refine Goes.skip ?_
    refine sq (Goes.block ?_)
    refine sh fol (kH a b (kD D [(6,.i c),(7,.i 0)])) ?_
    refine sq ?_
    refine sh fol (kH a b (kD D [(6,.i c),(7,.i 0),(8,.i 0)])) ?_
    refine Goes.block ?_
    obtain⟨J,g12,g5⟩:=bnd g5
    refine Goes.imp (Q:=fun x s'=>(x= .exit 2/\ ∃d u,(d,u)=J/\Sub s' (ofG 72 (kH a b (kD d (kAA c u []))),(kC d [])))) ?_ ?_
    ·refine Uc (fun M s=> ∃(p:List Int) (r:Int) (o:Int),s=(ofG 72 (kH a b (kD p (kAA c r [(8,.i o)]))),(kC p []))/\zt a b c M p r o=some J) ?_ (m:=N) ⟨_,_,_,rfl,g12⟩
     rintro M s ⟨p,r,o,rfl,g12⟩
     cases M with
     |zero=>simp only[zt]at g12;cases g12
     |succ M=>
      rw[zt]at g12
      refine sq ?_
      refine sh fol (kH a b (kD p (kAA c r [(8,.i o),(25,.bool (decide (o<(b.length:Int))))]))) ?_
      refine ihD g12 (fun K g12=>?_) (fun K g12=>?_)
      ·refine Goes.skip ?_
       refine sq (Goes.block ?_)
       obtain⟨e,f,g12⟩:=bnd g12
       obtain⟨g,v,g12⟩:=bnd g12
       obtain⟨j,w,g12⟩:=bnd g12
       refine sq (gr fol [4,5,8,9,12,13] (kH a b (kD p ((6,.i c)::(kA2 o (w64 ((w64 (e+(w64 (g*j))))+r)) [])))) (ac (hs (.done (.opt (qg ZT 87 (.slice 0 0 p.length p.length 1) (.i (w64 (c+o))))) (.ptr 0 ((w64 (c+o):Int).toNat*1+0))) (qaC jR f)) (ac (hs (.run [0] (jf ZT 3 (.ptr 0 ((w64 (c+o):Int).toNat*1+0))) (kC p []) (.i e) (kC p []) false) (qct ce3 (E:=encI) (l:=p) rfl rfl f (nl rfl) rfl)) (ac (iv jR encI v) (ac (lv 0 ce3 encI v rfl) (ac (iv jR encI w) (ac (lv 0 ce3 encI w rfl) az)))))) ?_)
       obtain⟨k,A,g12⟩:=bnd g12
       refine sq (gq fol [6,7] (kH a b (kD p ((6,.i c)::(kA2 o (w64 ((w64 (e+(w64 (g*j))))+r)) [])))) (kC k []) (ac (hs (.done (.opt (qg ZT 87 (.slice 0 0 p.length p.length 1) (.i (w64 (c+o))))) (.ptr 0 ((w64 (c+o):Int).toNat*1+0))) (qaC jR f)) (ac (hs (.run [0] (qp ZT 3 (.ptr 0 ((w64 (c+o):Int).toNat*1+0)) (.i ((w64 ((w64 (e+(w64 (g*j))))+r)).tmod 1000000000))) (kC p []) .undef (kC k []) true) (qao (E:=encI) (l:=p) (y:=(w64 ((w64 (e+(w64 (g*j))))+r)).tmod 1000000000) rfl (show _=some 1 by kernel_rfl) rfl f rfl rfl rfl rfl rfl A rfl)) az)) ?_)
       refine Goes.sub (show Sub (ofG 72 (kH a b (kD p ((6,.i c)::(kA2 o (w64 ((w64 (e+(w64 (g*j))))+r)) [])))),(kC k [])) (ofG 72 (kH a b (kD k ((6,.i c)::(kA2 o (w64 ((w64 (e+(w64 (g*j))))+r)) [])))),(kC k []))from(Sub.norm [] [some 0] rfl rfl (.keep (.same (qd encI _)) (.keep (.same (qd encI _)) (.keep (.sliceE rfl (vM A)) (.keep (.same nI) (.keep (.same nI) (.keep (.same nI) .nil)))))) (.ks .nil))) ?_
       refine gh fol (kH a b (kD k (kAA c (w64 ((w64 ((w64 (e+(w64 (g*j))))+r)).tdiv 1000000000)) [(8,.i o)]))) ?_
       refine gh fol (kH a b (kD k (kAA c (w64 ((w64 ((w64 (e+(w64 (g*j))))+r)).tdiv 1000000000)) [(8,.i (w64 (o+1)))]))) ?_
       exact⟨M,(ofG 72 (kH a b (kD k (kAA c (w64 ((w64 ((w64 (e+(w64 (g*j))))+r)).tdiv 1000000000)) [(8,.i (w64 (o+1)))]))),(kC k [])),Nat.lt_succ_self _,(Sub.refl _),_,_,_,rfl,g12⟩
      refine Goes.exit ?_
      obtain rfl:=si g12
      exact⟨rfl,_,_,rfl,(Sub.keep [0,1,5,6,7] rfl rfl)⟩
    rintro x s' ⟨rfl,d,u,rfl,hsub⟩
    try dsimp only at g5
    refine Goes.sub hsub ?_
    obtain⟨F,n,g5⟩:=bnd g5
    obtain⟨q,B,g5⟩:=bnd g5
    refine gq fol [10,11,14,15] (kH a b (kD d [(6,.i c)])) (kC q []) (ac (hs (.done (.opt (qg ZT 87 (.slice 0 0 d.length d.length 1) (.i (w64 (c+(b.length:Int)))))) (.ptr 0 ((w64 (c+(b.length:Int)):Int).toNat*1+0))) (qaC jR n)) (ac (hs (.run [0] (jf ZT 3 (.ptr 0 ((w64 (c+(b.length:Int)):Int).toNat*1+0))) (kC d []) (.i F) (kC d []) false) (qct ce3 (E:=encI) (l:=d) rfl rfl n (nl rfl) rfl)) (ac (hs (.done (.opt (qg ZT 87 (.slice 0 0 d.length d.length 1) (.i (w64 (c+(b.length:Int)))))) (.ptr 0 ((w64 (c+(b.length:Int)):Int).toNat*1+0))) (qaC jR n)) (ac (hs (.run [0] (qp ZT 3 (.ptr 0 ((w64 (c+(b.length:Int)):Int).toNat*1+0)) (.i (w64 (F+u)))) (kC d []) .undef (kC q []) true) (qao (E:=encI) (l:=d) (y:=w64 (F+u)) rfl (show _=some 1 by kernel_rfl) rfl n rfl rfl rfl rfl rfl B rfl)) az)))) ?_
    refine Goes.sub (show Sub (ofG 72 (kH a b (kD d [(6,.i c)])),(kC q [])) (ofG 72 (kH a b (kD q [(6,.i c)])),(kC q []))from(Sub.norm [] [some 0] rfl rfl (.keep (.same (qd encI _)) (.keep (.same (qd encI _)) (.keep (.sliceE rfl (vM B)) (.keep (.same nI) .nil)))) (.ks .nil))) ?_
    refine gh fol (kH a b (kD q [(6,.i (w64 (c+1)))])) ?_
    exact⟨M,(ofG 72 (kH a b (kD q [(6,.i (w64 (c+1)))])),(kC q [])),Nat.lt_succ_self _,(Sub.refl _),_,_,rfl,g5⟩
   refine Goes.exit ?_
   obtain rfl:=si g5
   exact⟨rfl,_,rfl,(Sub.keep [5] rfl rfl)⟩
 rintro x s' ⟨rfl,t,rfl,hsub⟩
 refine Goes.sub hsub ?_
 obtain⟨C,G,h⟩:=bnd h
 refine sq (gq fol [1] [(4,vl encI C)] (kAd t) (ac (hs (.callF 205 [.slice 0 0 t.length t.length 1] (kC t []) [0] [vl encI t] (vl encI C)) (qaQ (FzL.cons (Fz.sl (E:=encI) rfl rfl (nl rfl)) FzL.nil) (yO N t G) (qw encI _ (nl rfl)))) az) ?_)
 refine Goes.sub (show Sub (ofG 72 [(4,vl encI C)],(kAd t)) (ofG 72 [(4,vl encI C)],[])from(Sub.norm [] [] rfl rfl (.keep (.same (qd encI _)) .nil) .nil)) ?_
 refine Goes.ret ?_
 obtain rfl:=si h
 exact(gw2 [vl encI C] (Ua (qw encI _ (nl rfl))))
def qR (a:List Int) (b:List Int):Nat->Int->Option (Unit⊕Int)
 |0,_=>none
 |K+1,c=>
  if c>=0 then
  (idx a c).bind fun d=>
  (idx b c).bind fun e=>
  if d<e then
  some (.inr (-1))
  else
  if d>e then
  some (.inr 1)
  else
  qR a b K (w64 (c-1))
  else
  some (.inl ())
def jr (N:Nat) (a:List Int) (b:List Int):Option Int:=
 if(!decide ((a.length:Int)=(b.length:Int)))=true then
 if(a.length:Int)<(b.length:Int)then
 some (-1)
 else
 some 1
 else
 (qR a b N (w64 ((a.length:Int)-1))).bind (fun
 |(.inl ())=>
 some 0
 |(.inr c)=>
 some c)
theorem qbf (N:Nat) (a:List Int) (b:List Int) {res:Int} (h:jr N a b=some res):qb ZT (.fn 203) (kBO a b) [] (.i res) []:=by
 unfold jr at h
 refine Ub Tryz.func203 rfl rfl (m:=41) rfl (rs:=[.tmp 4]) rfl (l:=(kH a b [])) rfl ?_
 refine sh fol (kH a b []) ?_
 refine sq ?_
 refine sh fol (kH a b (kBR (!decide ((a.length:Int)=(b.length:Int))))) ?_
 refine ihB h (fun o h=>?_) (fun o h=>?_)
 ·refine sq ?_
  refine sh fol (kBe (decide ((a.length:Int)<(b.length:Int)))) ?_
  refine ihD h (fun p h=>?_) (fun p h=>?_)
  ·refine sh fol [(4,.i (-1))] ?_
   refine Goes.ret ?_
   obtain rfl:=si h
   exact(gw2 [.i (-1)] (Ua tI))
  refine Goes.skip ?_
  refine sh fol [(4,.i 1)] ?_
  refine Goes.ret ?_
  obtain rfl:=si h
  exact(gw2 [.i 1] (Ua tI))
 refine Goes.skip ?_
 refine sq ?_
 refine sh fol (kH a b (kAm (w64 ((a.length:Int)-1)))) ?_
 refine Goes.block ?_
 obtain⟨f,g4,h⟩:=bnd h
 refine Goes.imp (Q:=fun x s'=>(x= .exit 0/\(.inl ())=f/\Sub s' (ofG 41 [],[]))\/(x= .ret/\ ∃j,(.inr j)=f/\vI ZT [.tmp 4] (.i j) .ret s')) ?_ ?_
 ·refine Uc (fun M s=> ∃(e:Int),s=(ofG 41 (kH a b (kAm e)),[])/\qR a b M e=some f) ?_ (m:=N) ⟨_,rfl,g4⟩
  rintro M s ⟨e,rfl,g4⟩
  cases M with
  |zero=>simp only[qR]at g4;cases g4
  |succ M=>
   rw[qR]at g4
   refine sq ?_
   refine sh fol (kH a b [(5,.i e),(20,.bool (decide (e>=0)))]) ?_
   refine ihD g4 (fun q g4=>?_) (fun q g4=>?_)
   ·refine Goes.skip ?_
    refine sq (Goes.block ?_)
    refine sq ?_
    obtain⟨k,c,g4⟩:=bnd g4
    obtain⟨n,d,g4⟩:=bnd g4
    refine sq (gr fol [2,3,6,7] (kH a b [(5,.i e),(31,.bool (decide (k<n)))]) (ac (iv jR encI c) (ac (lv 0 ce3 encI c rfl) (ac (iv jR encI d) (ac (lv 0 ce3 encI d rfl) az)))) ?_)
    refine ihD g4 (fun r g4=>?_) (fun r g4=>?_)
    ·refine sh fol [(4,.i (-1))] ?_
     refine Goes.ret ?_
     obtain rfl:=si g4
     exact Or.inr (⟨rfl,_,rfl,(gw2 [.i (-1)] (Ua tI))⟩)
    refine Goes.skip ?_
    refine sq (gr fol [2,3,6,7] (kH a b [(5,.i e),(40,.bool (decide (k>n)))]) (ac (iv jR encI c) (ac (lv 0 ce3 encI c rfl) (ac (iv jR encI d) (ac (lv 0 ce3 encI d rfl) az)))) ?_)
    refine ihD g4 (fun g g4=>?_) (fun g g4=>?_)
    ·refine sh fol [(4,.i 1)] ?_
     refine Goes.ret ?_
     obtain rfl:=si g4
     exact Or.inr (⟨rfl,_,rfl,(gw2 [.i 1] (Ua tI))⟩)
    refine Goes.skip ?_
    refine gh fol (kH a b (kAm (w64 (e-1)))) ?_
    exact⟨M,(ofG 41 (kH a b (kAm (w64 (e-1)))),[]),Nat.lt_succ_self _,(Sub.refl _),_,rfl,g4⟩
   refine Goes.exit ?_
   obtain rfl:=si g4
   exact Or.inl (⟨rfl,rfl,(Sub.keep [] rfl rfl)⟩)
 rintro x s' (⟨rfl,rfl,hsub⟩|⟨rfl,t,rfl,hret⟩)
 ·try dsimp only at h
  refine Goes.sub hsub ?_
  refine sh fol kBc ?_
  refine Goes.ret ?_
  obtain rfl:=si h
  exact(gw2 [.i 0] (Ua tI))
 try dsimp only at h
 obtain rfl:=si h
 exact hret
def zL (a:List Int) (d:Int):Nat->(List Int)->Int->Int->Option ((List Int)×Int)
 |0,_,_,_=>none
 |K+1,c,e,b=>
  if b>=0 then
  (idx a b).bind fun i=>
  (qci .i64 (w64 ((w64 (e*1000000000))+i)) d).bind fun f=>
  (idx c b).bind fun j=>
  (put c b f).bind fun g=>
  (qeb .i64 (w64 ((w64 (e*1000000000))+i)) d).bind fun h=>
  zL a d K g h (w64 (b-1))
  else
  some (c,e)
def yZ (N:Nat) (a:List Int) (d:Int):Option ((List Int)×Int):=
 (mk 8 (a.length:Int) 0).bind fun c=>
 (zL a d N c 0 (w64 ((a.length:Int)-1))).bind fun(e,f)=>
 (yf N e).bind fun b=>
 some (b,f)
theorem qcz (N:Nat) (a:List Int) (d:Int) {res:(List Int)×Int} (h:yZ N a d=some res):qb ZT (.fn 204) [vl encI a,.i d] [] (.tuple [vl encI res.1,.i res.2]) []:=by
 unfold yZ at h
 refine Ub Tryz.func204 rfl rfl (m:=39) rfl (rs:=[.tmp 4,.tmp 5]) rfl (l:=(kAi a [(1,.i d)])) rfl ?_
 refine sh fol (kAi a [(1,.i d)]) ?_
 obtain⟨q,B,h⟩:=bnd h
 refine sq (gq fol [2] (kAi a ((1,.i d)::(kU q []))) (kC q []) (ac (hs (.run [] (ji ZT 87 (.i (a.length:Int)) (.i (a.length:Int))) [] (.slice 0 0 q.length q.length 1) (kC q []) false) (qdr jR (E:=encI) (z:=0) rfl (by kernel_rfl) B rfl)) az) ?_)
 refine sh fol (kAi a ((1,.i d)::(kU q [(7,.i 0)]))) ?_
 refine sq ?_
 refine sh fol (kAi a ((1,.i d)::(kU q [(7,.i 0),(8,.i (w64 ((a.length:Int)-1)))]))) ?_
 refine Goes.block ?_
 obtain⟨C,g7,h⟩:=bnd h
 refine Goes.imp (Q:=fun x s'=>(x= .exit 0/\ ∃f r,(f,r)=C/\Sub s' (ofG 39 (kU f [(7,.i r)]),(kC f [])))) ?_ ?_
 ·refine Uc (fun M s=> ∃(e:List Int) (n:Int) (c:Int),s=(ofG 39 (kAi a ((1,.i d)::(kU e (kBP n c)))),(kC e []))/\zL a d M e n c=some C) ?_ (m:=N) ⟨_,_,_,rfl,g7⟩
  rintro M s ⟨e,n,c,rfl,g7⟩
  cases M with
  |zero=>simp only[zL]at g7;cases g7
  |succ M=>
   rw[zL]at g7
   refine sq ?_
   refine sh fol (kAi a ((1,.i d)::(kU e [(7,.i n),(8,.i c),(17,.bool (decide (c>=0)))]))) ?_
   refine ihD g7 (fun D g7=>?_) (fun D g7=>?_)
   ·refine Goes.skip ?_
    refine sq (Goes.block ?_)
    obtain⟨A,p,g7⟩:=bnd g7
    refine sq (gr fol [4,5] (kAi a ((1,.i d)::(kU e (kA2 c (w64 ((w64 (n*1000000000))+A)) [])))) (ac (iv jR encI p) (ac (lv 0 ce3 encI p rfl) az)) ?_)
    obtain⟨t,u,g7⟩:=bnd g7
    obtain⟨F,g,g7⟩:=bnd g7
    obtain⟨b,j,g7⟩:=bnd g7
    refine sq (gq fol [4,5,6] (kAi a ((1,.i d)::(kU e (kA2 c (w64 ((w64 (n*1000000000))+A)) [])))) (kC b []) (ac (hs (.done (.opt (qY ZT .quo 3 (.tmp 29) (.tmp 30) (.i (w64 ((w64 (n*1000000000))+A))) (.i d))) (.i t)) (qbR u)) (ac (hs (.done (.opt (qg ZT 87 (.slice 0 0 e.length e.length 1) (.i c))) (.ptr 0 ((c:Int).toNat*1+0))) (qaC jR g)) (ac (hs (.run [0] (qp ZT 3 (.ptr 0 ((c:Int).toNat*1+0)) (.i t)) (kC e []) .undef (kC b []) true) (qao (E:=encI) (l:=e) (y:=t) rfl (show _=some 1 by kernel_rfl) rfl g rfl rfl rfl rfl rfl j rfl)) az))) ?_)
    refine Goes.sub (show Sub (ofG 39 (kAi a ((1,.i d)::(kU e (kA2 c (w64 ((w64 (n*1000000000))+A)) [])))),(kC b [])) (ofG 39 (kAi a ((1,.i d)::(kU b (kA2 c (w64 ((w64 (n*1000000000))+A)) [])))),(kC b []))from(Sub.norm [] [some 0] rfl rfl (.keep (.same (qd encI _)) (.keep (.same nI) (.keep (.sliceE rfl (vM j)) (.keep (.same nI) (.keep (.same nI) .nil))))) (.ks .nil))) ?_
    obtain⟨o,v,g7⟩:=bnd g7
    refine gr fol [2] (kAi a ((1,.i d)::(kU b (kBP o c)))) (ac (hs (.done (.opt (qY ZT .rem 3 (.tmp 33) (.tmp 34) (.i (w64 ((w64 (n*1000000000))+A))) (.i d))) (.i o)) (qfp v)) az) ?_
    refine gh fol (kAi a ((1,.i d)::(kU b (kBP o (w64 (c-1)))))) ?_
    exact⟨M,(ofG 39 (kAi a ((1,.i d)::(kU b (kBP o (w64 (c-1)))))),(kC b [])),Nat.lt_succ_self _,(Sub.refl _),_,_,_,rfl,g7⟩
   refine Goes.exit ?_
   obtain rfl:=si g7
   exact⟨rfl,_,_,rfl,(Sub.keep [6,7] rfl rfl)⟩
 rintro x s' ⟨rfl,f,r,rfl,hsub⟩
 try dsimp only at h
 refine Goes.sub hsub ?_
 obtain⟨k,w,h⟩:=bnd h
 refine sq (gq fol [1] ((4,vl encI k)::(kAm r)) (kAd f) (ac (hs (.callF 205 [.slice 0 0 f.length f.length 1] (kC f []) [0] [vl encI f] (vl encI k)) (qaQ (FzL.cons (Fz.sl (E:=encI) rfl rfl (nl rfl)) FzL.nil) (yO N f w) (qw encI _ (nl rfl)))) az) ?_)
 refine Goes.sub (show Sub (ofG 39 ((4,vl encI k)::(kAm r)),(kAd f)) (ofG 39 ((4,vl encI k)::(kAm r)),[])from(Sub.norm [] [] rfl rfl (.keep (.same (qd encI _)) (.keep (.same nI) .nil)) .nil)) ?_
 refine Goes.ret ?_
 obtain rfl:=si h
 exact(gw2 [vl encI k,.i r] (FzW.tuple (qc.cons (Ua (qw encI _ (nl rfl))) (qc.cons (Ua tI) qc.nil))))
def jW (u:List Int) (v:List Int) (j:Int):Nat->Int->Int->Option (Int⊕Int)
 |0,_,_=>none
 |K+1,c,a=>
  (if a>=1000000000 then
  some true
  else
  (idx v (w64 ((v.length:Int)-2))).bind fun d=>
  (idx u (w64 ((w64 (j+(v.length:Int)))-2))).bind fun e=>
  some (decide ((w64 (a*d))>(w64 ((w64 (c*1000000000))+e)))):Option Bool).bind fun f=>
  if f=true then
  (idx v (w64 ((v.length:Int)-1))).bind fun b=>
  if(w64 (c+b))>=1000000000 then
  some (.inr (w64 (a-1)))
  else
  jW u v j K (w64 (c+b)) (w64 (a-1))
  else
  some (.inl a)
def qaa (N:Nat) (u:List Int) (v:List Int) (j:Int):Option Int:=
 (idx u (w64 (j+(v.length:Int)))).bind fun b=>
 (idx u (w64 ((w64 (j+(v.length:Int)))-1))).bind fun c=>
 (idx v (w64 ((v.length:Int)-1))).bind fun d=>
 (qci .i64 (w64 ((w64 (b*1000000000))+c)) d).bind fun e=>
 (qeb .i64 (w64 ((w64 (b*1000000000))+c)) d).bind fun f=>
 (jW u v j N f e).bind (fun
 |(.inl g)=>
 some g
 |(.inr a)=>
 some a)
theorem qhj (N:Nat) (u:List Int) (v:List Int) (j:Int) {res:Int} (h:qaa N u v j=some res):qb ZT (.fn 206) [vl encI u,vl encI v,.i j] [] (.i res) []:=by
 unfold qaa at h
 refine Ub Tryz.func206 rfl rfl (m:=77) rfl (rs:=[.tmp 6]) rfl (l:=(kH u v (kA3 j))) rfl ?_
 refine sh fol (kH u v (kA3 j)) ?_
 refine sh fol (kH u v [(2,.i j),(7,.i (v.length:Int))]) ?_
 obtain⟨y,n,h⟩:=bnd h
 obtain⟨z,o,h⟩:=bnd h
 refine sq (gr fol [4,5,12,13] (kH u v ((2,.i j)::(kBP (v.length:Int) (w64 ((w64 (y*1000000000))+z))))) (ac (iv jR encI n) (ac (lv 0 ce3 encI n rfl) (ac (iv jR encI o) (ac (lv 0 ce3 encI o rfl) az)))) ?_)
 obtain⟨G,b,h⟩:=bnd h
 obtain⟨H,q,h⟩:=bnd h
 obtain⟨I,r,h⟩:=bnd h
 refine sq (gr fol [4,5,6,11,12,13] (kH u v (kAv j (v.length:Int) H I [])) (ac (iv jR encI b) (ac (lv 0 ce3 encI b rfl) (ac (hs (.done (.opt (qY ZT .quo 3 (.tmp 28) (.tmp 33) (.i (w64 ((w64 (y*1000000000))+z))) (.i G))) (.i H)) (qbR q)) (ac (iv jR encI b) (ac (lv 0 ce3 encI b rfl) (ac (hs (.done (.opt (qY ZT .rem 3 (.tmp 35) (.tmp 40) (.i (w64 ((w64 (y*1000000000))+z))) (.i G))) (.i I)) (qfp r)) az)))))) ?_)
 refine sq (Goes.block ?_)
 obtain⟨A,g9,h⟩:=bnd h
 refine Goes.imp (Q:=fun x s'=>(x= .exit 0/\ ∃t,(.inl t)=A/\Sub s' (ofG 77 [(9,.i t)],[]))\/(x= .ret/\ ∃w,(.inr w)=A/\vI ZT [.tmp 6] (.i w) .ret s')) ?_ ?_
 ·refine Uc (fun M s=> ∃(d:Int) (c:Int),s=(ofG 77 (kH u v (kAv j (v.length:Int) c d [])),[])/\jW u v j M d c=some A) ?_ (m:=N) ⟨_,_,rfl,g9⟩
  rintro M s ⟨d,c,rfl,g9⟩
  cases M with
  |zero=>simp only[jW]at g9;cases g9
  |succ M=>
   rw[jW]at g9
   refine sq ?_
   refine sq ?_
   obtain⟨B,a,g9⟩:=bnd g9
   refine Goes.cut (s':=(ofG 77 (kH u v (kAv j (v.length:Int) c d [(63,.bool B)])),[])) ?_ ?_
   ·rcases wyD a with⟨p,a⟩|⟨p,a⟩
    ·obtain rfl:=si a
     exact tr fol [2] (kH u v (kAv j (v.length:Int) c d [(63,.bool true)])) (ac (gw p) az)
    obtain⟨C,e,a⟩:=bnd a
    obtain⟨D,f,a⟩:=bnd a
    obtain rfl:=si a
    exact tr fol [2,7,8,17,18] (kH u v (kAv j (v.length:Int) c d [(63,.bool (decide ((w64 (c*C))>(w64 ((w64 (d*1000000000))+D)))))])) (ac (gw p) (ac (iv jR encI e) (ac (lv 0 ce3 encI e rfl) (ac (iv jR encI f) (ac (lv 0 ce3 encI f rfl) az)))))
   refine ihB g9 (fun E g9=>?_) (fun E g9=>?_)
   ·refine Goes.skip ?_
    refine Goes.block ?_
    refine sh fol (kH u v (kAv j (v.length:Int) (w64 (c-1)) d [])) ?_
    obtain⟨k,g,g9⟩:=bnd g9
    refine sq (gr fol [4,5] (kH u v (kAv j (v.length:Int) (w64 (c-1)) (w64 (d+k)) [])) (ac (iv jR encI g) (ac (lv 0 ce3 encI g rfl) az)) ?_)
    refine sh fol (kH u v (kAv j (v.length:Int) (w64 (c-1)) (w64 (d+k)) [(74,.bool (decide ((w64 (d+k))>=1000000000)))])) ?_
    refine ihD g9 (fun F g9=>?_) (fun F g9=>?_)
    ·refine sh fol [(6,.i (w64 (c-1)))] ?_
     refine Goes.ret ?_
     obtain rfl:=si g9
     exact Or.inr (⟨rfl,_,rfl,(gw2 [.i (w64 (c-1))] (Ua tI))⟩)
    refine Goes.skip ?_
    exact⟨M,(ofG 77 (kH u v (kAv j (v.length:Int) (w64 (c-1)) (w64 (d+k)) [])),[]),Nat.lt_succ_self _,(Sub.keep [0,1,2,7,9,10] rfl rfl),_,_,rfl,g9⟩
   refine Goes.exit ?_
   obtain rfl:=si g9
   exact Or.inl (⟨rfl,_,rfl,(Sub.keep [9] rfl rfl)⟩)
 rintro x s' (⟨rfl,t,rfl,hsub⟩|⟨rfl,J,rfl,hret⟩)
 ·try dsimp only at h
  refine Goes.sub hsub ?_
  refine sh fol [(6,.i t)] ?_
  refine Goes.ret ?_
  obtain rfl:=si h
  exact(gw2 [.i t] (Ua tI))
 try dsimp only at h
 obtain rfl:=si h
 exact hret
def zX (a:List Int):Nat->(List Int)->Option (List Int)
 |0,_=>none
 |K+1,b=>
  if(b.length:Int)<(w64 ((a.length:Int)+1))then
  (app 8 b [0]).bind fun c=>
  zX a K c
  else
  some b
def qO (h:List Int) (e:Int) (a:Int):Nat->(List Int)->Int->Int->Option ((List Int)×Int)
 |0,_,_,_=>none
 |K+1,f,b,c=>
  if c<(h.length:Int)then
  (idx h c).bind fun d=>
  (idx f (w64 (c+e))).bind fun g=>
  ((if(w64 (g-((w64 ((w64 (a*d))+b)).tmod 1000000000)))<0 then
  some (w64 ((w64 ((w64 ((w64 (a*d))+b)).tdiv 1000000000))+1),w64 ((w64 (g-((w64 ((w64 (a*d))+b)).tmod 1000000000)))+1000000000))
  else
  some (w64 ((w64 ((w64 (a*d))+b)).tdiv 1000000000),w64 (g-((w64 ((w64 (a*d))+b)).tmod 1000000000))):Option (Int×Int))).bind fun(i,j)=>
  (put f (w64 (c+e)) j).bind fun k=>
  qO h e a K k i (w64 (c+1))
  else
  some (f,b)
def ku (h:List Int) (b:Int) (e:Int):Nat->(List Int)->Int->Int->Option ((List Int)×Int×Int)
 |0,_,_,_=>none
 |K+1,c,d,a=>
  if a<(h.length:Int)then
  (idx c (w64 (a+b))).bind fun f=>
  (idx h a).bind fun g=>
  (put c (w64 (a+b)) ((w64 ((w64 (f+g))+d)).tmod 1000000000)).bind fun i=>
  ku h b e K i (w64 ((w64 ((w64 (f+g))+d)).tdiv 1000000000)) (w64 (a+1))
  else
  some (c,w64 (e-1),d)
def zx (N:Nat) (b:List Int):Nat->(List Int)->(List Int)->Int->Option ((List Int)×(List Int))
 |0,_,_,_=>none
 |K+1,c,d,a=>
  if a>=0 then
  (qaa N c b a).bind fun e=>
  (qO b a e N c 0 0).bind fun(g,i)=>
  (idx g (w64 (a+(b.length:Int)))).bind fun j=>
  (put g (w64 (a+(b.length:Int))) (w64 (j-i))).bind fun f=>
  (idx f (w64 (a+(b.length:Int)))).bind fun k=>
  ((if k<0 then
  (ku b a e N f 0 0).bind fun(h,l,m)=>
  (idx h (w64 (a+(b.length:Int)))).bind fun n=>
  (put h (w64 (a+(b.length:Int))) (w64 (n+m))).bind fun o=>
  some (o,l)
  else
  some (f,e):Option ((List Int)×Int))).bind fun(p,q)=>
  (idx d a).bind fun s=>
  (put d a q).bind fun r=>
  zx N b K p r (w64 (a-1))
  else
  some (c,d)
def jE (N:Nat) (a:List Int) (b:List Int):Option ((List Int)×(List Int)):=
 (jr N a b).bind fun q=>
 if q<0 then
 some ([],a)
 else
 if(b.length:Int)=1 then
 (idx b 0).bind fun r=>
 (yZ N a r).bind fun p=>
 (yf N ([p.2]:List Int)).bind fun s=>
 some (p.1,s)
 else
 (idx b (w64 ((b.length:Int)-1))).bind fun t=>
 (qci .i64 1000000000 (w64 (t+1))).bind fun e=>
 (vH N b ([e]:List Int)).bind fun d=>
 (vH N a ([e]:List Int)).bind fun f=>
 (app 8 ([]:List Int) f).bind fun g=>
 (zX a N g).bind fun c=>
 (mk 8 (w64 ((c.length:Int)-(d.length:Int))) 0).bind fun h=>
 (zx N d N c h (w64 ((w64 ((c.length:Int)-(d.length:Int)))-1))).bind fun(i,j)=>
 (cut i 0 (d.length:Int)).bind fun k=>
 (yf N k).bind fun l=>
 (idx ([e]:List Int) 0).bind fun m=>
 (yZ N l m).bind fun n=>
 (yf N j).bind fun o=>
 some (o,n.1)
theorem qaN (N:Nat) (a:List Int) (b:List Int) {res:(List Int)×(List Int)} (h:jE N a b=some res):qb ZT (.fn 139) (kBO a b) [] (.tuple (kBO res.1 res.2)) []:=by
 unfold jE at h
 refine Ub Tryz.func139 rfl rfl (m:=206) rfl (rs:=[.tmp 4,.tmp 5]) rfl (l:=(kH a b [])) rfl ?_
 refine sh fol (kH a b []) ?_
 refine sq ?_
 obtain⟨r1,e_r1,h⟩:=bnd h
 refine sq (gr fol [2] (kH a b [(27,.bool (decide (r1<0)))]) (ac (cv (qbf N a b e_r1)) az) ?_)
 refine ihD h (fun c2 h=>?_) (fun c2 h=>?_)
 ·refine sh fol ((4,.nilslice)::(kAs a [])) ?_
  refine Goes.ret ?_
  obtain rfl:=si h
  exact(gw2 [.nilslice,vl encI a] (FzW.tuple (qc.cons (FzW.nilv (E:=encI)) (qc.cons (Ua (qw encI _ (nl rfl))) qc.nil))))
 refine Goes.skip ?_
 refine sq ?_
 refine sh fol (kH a b [(31,.bool (decide ((b.length:Int)=1)))]) ?_
 refine ihD h (fun c3 h=>?_) (fun c3 h=>?_)
 ·obtain⟨x4,e_x4,h⟩:=bnd h
  obtain⟨r5,e_r5,h⟩:=bnd h
  refine sq (gr fol [2,3,4] [(6,vl encI r5.1),(7,.i r5.2)] (ac (iv jR encI e_x4) (ac (lv 0 ce3 encI e_x4 rfl) (ac (cv (qcz N a x4 e_r5)) az))) ?_)
  obtain⟨r6,e_r6,h⟩:=bnd h
  refine sq (gq fol [3] ((4,vl encI r5.1)::(kAs r6 [])) [.frozen [.i r5.2]] (ac (hs (.callF 205 [.slice 0 0 1 1 1] [.cells [.i r5.2]] [0] [vl encI ([r5.2]:List Int)] (vl encI r6)) (qaQ (FzL.cons (Fz.lit rfl rfl (Ud (AllST.cons tI AllST.nil))) FzL.nil) (yO N ([r5.2]:List Int) e_r6) (qw encI _ (nl rfl)))) az) ?_)
  refine Goes.sub (show Sub (ofG 206 ((4,vl encI r5.1)::(kAs r6 [])),[.frozen [.i r5.2]]) (ofG 206 ((4,vl encI r5.1)::(kAs r6 [])),[])from(Sub.norm [] [] rfl rfl (.keep (.same (qd encI _)) (.keep (.same (qd encI _)) .nil)) .nil)) ?_
  refine Goes.ret ?_
  obtain rfl:=si h
  exact(gw2 (kBO r5.1 r6) (FzW.tuple (qc.cons (Ua (qw encI _ (nl rfl))) (qc.cons (Ua (qw encI _ (nl rfl))) qc.nil))))
 refine Goes.skip ?_
 obtain⟨x7,e_x7,h⟩:=bnd h
 obtain⟨g,e_q8,h⟩:=bnd h
 refine sq (gq fol [4,5,7] (kH a b [(8,.slice 0 0 1 1 1)]) [.cells [.i g]] (ac (iv jR encI e_x7) (ac (lv 0 ce3 encI e_x7 rfl) (ac (hs (.done (.opt (qY ZT .quo 3 (.const (.int .i64 1000000000)) (.tmp 50) (.i 1000000000) (.i (w64 (x7+1))))) (.i g)) (qbR e_q8)) az))) ?_)
 obtain⟨e,e_r9,h⟩:=bnd h
 refine sq (gq fol [2] (kAi a [(8,.slice 0 0 1 1 1),(9,vl encI e)]) [.frozen [.i g]] (ac (hs (.callF 152 [vl encI b,.slice 0 0 1 1 1] [.cells [.i g]] [0] (kBO b ([g]:List Int)) (vl encI e)) (qaQ (FzL.cons (Ue (qw encI _ (nl rfl))) (FzL.cons (Fz.lit rfl rfl (Ud (AllST.cons tI AllST.nil))) FzL.nil)) (qaT N b ([g]:List Int) e_r9) (qw encI _ (nl rfl)))) az) ?_)
 refine Goes.sub (show Sub (ofG 206 (kAi a [(8,.slice 0 0 1 1 1),(9,vl encI e)]),[.frozen [.i g]]) (ofG 206 (kAi a [(8,vl encI ([g]:List Int)),(9,vl encI e)]),[])from(Sub.norm [0] [] rfl rfl (.keep (.same (qd encI _)) (.keep (.frz (Fz.litF rfl rfl (Ud (AllST.cons tI AllST.nil))) (qd encI _)) (.keep (.same (qd encI _)) .nil))) .nil)) ?_
 refine sh fol (kAi a [(8,vl encI ([g]:List Int)),(9,vl encI e),(10,.i (e.length:Int))]) ?_
 obtain⟨r10,e_r10,h⟩:=bnd h
 obtain⟨Y,e_l11,h⟩:=bnd h
 refine sq (gq fol [3,4] (kAi a [(8,vl encI ([g]:List Int)),(9,vl encI e),(10,.i (e.length:Int)),(11,.oslice 1 Y.length 1)]) (.dead::(kC Y [])) (ac (cv (qaT N a ([g]:List Int) e_r10)) (ac (hs (.run [0] (xU ZT [87,87] (.slice 0 0 0 0 1) (vl encI r10)) [.cells []] (.oslice 1 Y.length 1) (.dead::(kC Y [])) true) (qcy jR (E:=encI) rfl (src_v (E:=encI) rfl _) (dst_z (E:=encI) rfl rfl rfl e_l11 rfl))) az)) ?_)
 refine sq (Goes.block ?_)
 obtain⟨r14,g14,h⟩:=bnd h
 refine Goes.imp (Q:=fun x s'=>(x= .exit 0/\ ∃A,A=r14/\Sub s' (ofG 206 (kAg ([g]:List Int) e (e.length:Int) A []),(kC A [])))) ?_ ?_
 ·refine Goes.sub (s':=(ofG 206 (kAi a (kAg ([g]:List Int) e (e.length:Int) Y [])),(kC Y []))) (Sub.norm [] [some 1] rfl rfl (.keep (.same (qd encI _)) (.keep (.same (qd encI _)) (.keep (.same (qd encI _)) (.keep (.same nI) (.keep (.oslice rfl) .nil))))) (.ks .nil)) ?_
  refine Uc (fun M s=> ∃(F:List Int),s=(ofG 206 (kAi a (kAg ([g]:List Int) e (e.length:Int) F [])),(kC F []))/\zX a M F=some r14) ?_ (m:=N) ⟨_,rfl,g14⟩
  rintro M s ⟨F,rfl,g14⟩
  cases M with
  |zero=>simp only[zX]at g14;cases g14
  |succ M=>
   rw[zX]at g14
   refine sq ?_
   refine sh fol (kAi a (kAg ([g]:List Int) e (e.length:Int) F [(68,.bool (decide ((F.length:Int)<(w64 ((a.length:Int)+1)))))])) ?_
   refine ihD g14 (fun c15 g14=>?_) (fun c15 g14=>?_)
   ·refine Goes.skip ?_
    refine Goes.block ?_
    obtain⟨Z,e_l16,g14⟩:=bnd g14
    refine gq fol [2] (kAi a [(8,vl encI ([g]:List Int)),(9,vl encI e),(10,.i (e.length:Int)),(11,.oslice 2 Z.length 1)]) (.dead:: .cells [.i 0]::(kC Z [])) (ac (hs (.run [0,1] (xU ZT [87,87] (.oslice 0 F.length 1) (.slice 1 0 1 1 1)) (kC F [.cells [.i 0]]) (.oslice 2 Z.length 1) (.dead:: .cells [.i 0]::(kC Z [])) true) (qcy jR (E:=encI) rfl (qht (E:=encI) (ys:=[0]) rfl rfl rfl rfl) (dst_o (E:=encI) (l:=F) rfl rfl rfl e_l16 rfl))) az) ?_
    exact⟨M,(ofG 206 (kAi a (kAg ([g]:List Int) e (e.length:Int) Z [])),(kC Z [])),Nat.lt_succ_self _,(Sub.norm [] [some 2] rfl rfl (.keep (.same (qd encI _)) (.keep (.same (qd encI _)) (.keep (.same (qd encI _)) (.keep (.same nI) (.keep (.oslice rfl) .nil))))) (.ks .nil)),_,rfl,g14⟩
   refine Goes.exit ?_
   obtain rfl:=si g14
   exact⟨rfl,_,rfl,(Sub.keep [8,9,10,11] rfl rfl)⟩
 rintro x s' ⟨rfl,A,rfl,hsub⟩
 refine Goes.sub hsub ?_
 obtain⟨V,e_l17,h⟩:=bnd h
 refine sq (gq fol [4] (kAg ([g]:List Int) e (e.length:Int) A [(12,.slice 1 0 V.length V.length 1)]) (kC A (kC V [])) (ac (hs (.run [] (ji ZT 87 (.i (w64 ((A.length:Int)-(e.length:Int)))) (.i (w64 ((A.length:Int)-(e.length:Int))))) (kC A []) (.slice 1 0 V.length V.length 1) (kC A (kC V [])) false) (qdr jR (E:=encI) (z:=0) rfl (by kernel_rfl) e_l17 rfl)) az) ?_)
 refine sq ?_
 refine sh fol (kA ([g]:List Int) e (e.length:Int) A V (w64 ((w64 ((A.length:Int)-(e.length:Int)))-1)) []) ?_
 refine Goes.block ?_
 obtain⟨r23,g23,h⟩:=bnd h
 refine Goes.imp (Q:=fun x s'=>(x= .exit 2/\ ∃a0 o,(a0,o)=r23/\Sub s' (ofG 206 [(8,vl encI ([g]:List Int)),(10,.i (e.length:Int)),(11,.oslice 0 a0.length 1),(12,.slice 1 0 o.length o.length 1)],(kC a0 (kC o []))))) ?_ ?_
 ·refine Uc (fun M s=> ∃(B:List Int) (c:List Int) (d:Int),s=(ofG 206 (kA ([g]:List Int) e (e.length:Int) B c d []),(kC B (kC c [])))/\zx N e M B c d=some r23) ?_ (m:=N) ⟨_,_,_,rfl,g23⟩
  rintro M s ⟨B,c,d,rfl,g23⟩
  cases M with
  |zero=>simp only[zx]at g23;cases g23
  |succ M=>
   rw[zx]at g23
   refine sq ?_
   refine sh fol (kA ([g]:List Int) e (e.length:Int) B c d [(83,.bool (decide (d>=0)))]) ?_
   refine ihD g23 (fun c24 g23=>?_) (fun c24 g23=>?_)
   ·refine Goes.skip ?_
    refine sq (Goes.block ?_)
    obtain⟨f,e_r25,g23⟩:=bnd g23
    refine sq (gr fol [3] (kA ([g]:List Int) e (e.length:Int) B c d [(14,.i f)]) (ac (hs (.call 206 [.oslice 0 B.length 1,vl encI e,.i d] (kC B (kC c [])) [0] [vl encI B,vl encI e,.i d] (.i f)) (yN (FzL.cons (Fz.os (E:=encI) rfl rfl (nl rfl)) (FzL.cons (Ue (qw encI _ (nl rfl))) (FzL.cons (Ue tI) FzL.nil))) (qhj N B e d e_r25) tI rfl)) az) ?_)
    refine sh fol (kA ([g]:List Int) e (e.length:Int) B c d [(14,.i f),(15,.i 0)]) ?_
    refine sq ?_
    refine sh fol (kA ([g]:List Int) e (e.length:Int) B c d [(14,.i f),(15,.i 0),(16,.i 0)]) ?_
    refine Goes.block ?_
    obtain⟨r31,g31,g23⟩:=bnd g23
    refine Goes.imp (Q:=fun x s'=>(x= .exit 4/\ ∃t n30,(t,n30)=r31/\Sub s' (ofG 206 (kA ([g]:List Int) e (e.length:Int) t c d [(14,.i f),(15,.i n30)]),(kC t (kC c []))))) ?_ ?_
    ·refine Uc (fun M s=> ∃(k:List Int) (p:Int) (j:Int),s=(ofG 206 (kA ([g]:List Int) e (e.length:Int) k c d ((14,.i f)::(kAW p j []))),(kC k (kC c [])))/\qO e d f M k p j=some r31) ?_ (m:=N) ⟨_,_,_,rfl,g31⟩
     rintro M s ⟨k,p,j,rfl,g31⟩
     cases M with
     |zero=>simp only[qO]at g31;cases g31
     |succ M=>
      rw[qO]at g31
      refine sq ?_
      refine sh fol (kA ([g]:List Int) e (e.length:Int) k c d ((14,.i f)::(kAW p j [(92,.bool (decide (j<(e.length:Int))))]))) ?_
      refine ihD g31 (fun c32 g31=>?_) (fun c32 g31=>?_)
      ·refine Goes.skip ?_
       refine sq (Goes.block ?_)
       obtain⟨C,e_x33,g31⟩:=bnd g31
       refine sq (gr fol [3,4] (kA ([g]:List Int) e (e.length:Int) k c d [(14,.i f),(16,.i j),(17,.i (w64 ((w64 (f*C))+p)))]) (ac (iv jR encI e_x33) (ac (lv 0 ce3 encI e_x33 rfl) az)) ?_)
       obtain⟨X,G,g31⟩:=bnd g31
       refine sq (gr fol [4,5] (kA ([g]:List Int) e (e.length:Int) k c d [(14,.i f),(16,.i j),(17,.i (w64 ((w64 (f*C))+p))),(18,.i (w64 (X-((w64 ((w64 (f*C))+p)).tmod 1000000000))))]) (ac (hs (.done (.opt (qg ZT 87 (.oslice 0 k.length 1) (.i (w64 (j+d))))) (.ptr 0 ((w64 (j+d):Int).toNat*1+0))) (qfu jR G)) (ac (hs (.run [0] (jf ZT 3 (.ptr 0 ((w64 (j+d):Int).toNat*1+0))) (kC k (kC c [])) (.i X) (kC k (kC c [])) false) (qct ce3 (E:=encI) (l:=k) rfl rfl G (nl rfl) rfl)) az)) ?_)
       refine sh fol (kA ([g]:List Int) e (e.length:Int) k c d ((14,.i f)::(kAW (w64 ((w64 ((w64 (f*C))+p)).tdiv 1000000000)) j [(18,.i (w64 (X-((w64 ((w64 (f*C))+p)).tmod 1000000000))))]))) ?_
       refine sq ?_
       refine sh fol (kA ([g]:List Int) e (e.length:Int) k c d ((14,.i f)::(kAW (w64 ((w64 ((w64 (f*C))+p)).tdiv 1000000000)) j [(18,.i (w64 (X-((w64 ((w64 (f*C))+p)).tmod 1000000000)))),(115,.bool (decide ((w64 (X-((w64 ((w64 (f*C))+p)).tmod 1000000000)))<0)))]))) ?_
       obtain⟨r37,g37,g31⟩:=bnd g31
       refine Goes.imp (Q:=fun x s'=>(x= .normal/\ ∃O n36,(O,n36)=r37/\Sub s' (ofG 206 (kA ([g]:List Int) e (e.length:Int) k c d ((14,.i f)::(kAW O j [(18,.i n36)]))),(kC k (kC c []))))) ?_ ?_
       ·refine ihD g37 (fun c38 g37=>?_) (fun c38 g37=>?_)
        ·refine sh fol (kA ([g]:List Int) e (e.length:Int) k c d ((14,.i f)::(kAW (w64 ((w64 ((w64 (f*C))+p)).tdiv 1000000000)) j [(18,.i (w64 ((w64 (X-((w64 ((w64 (f*C))+p)).tmod 1000000000)))+1000000000)))]))) ?_
         refine gh fol (kA ([g]:List Int) e (e.length:Int) k c d ((14,.i f)::(kAW (w64 ((w64 ((w64 ((w64 (f*C))+p)).tdiv 1000000000))+1)) j [(18,.i (w64 ((w64 (X-((w64 ((w64 (f*C))+p)).tmod 1000000000)))+1000000000)))]))) ?_
         obtain rfl:=si g37
         exact⟨rfl,_,_,rfl,(Sub.refl _)⟩
        refine Goes.skip ?_
        obtain rfl:=si g37
        exact⟨rfl,_,_,rfl,(Sub.keep [8,9,10,11,12,13,14,15,16,18] rfl rfl)⟩
       rintro x s' ⟨rfl,O,n36,rfl,hsub⟩
       try dsimp only at g31
       refine Goes.sub hsub ?_
       obtain⟨P,e_l39,g31⟩:=bnd g31
       refine gq fol [5,6] (kA ([g]:List Int) e (e.length:Int) k c d ((14,.i f)::(kAW O j []))) (kC P (kC c [])) (ac (hs (.done (.opt (qg ZT 87 (.oslice 0 k.length 1) (.i (w64 (j+d))))) (.ptr 0 ((w64 (j+d):Int).toNat*1+0))) (qfu jR G)) (ac (hs (.run [0] (qp ZT 3 (.ptr 0 ((w64 (j+d):Int).toNat*1+0)) (.i n36)) (kC k (kC c [])) .undef (kC P (kC c [])) true) (qao (E:=encI) (l:=k) (y:=n36) rfl (show _=some 1 by kernel_rfl) rfl G rfl rfl rfl rfl rfl e_l39 rfl)) az)) ?_
       refine Goes.sub (show Sub (ofG 206 (kA ([g]:List Int) e (e.length:Int) k c d ((14,.i f)::(kAW O j []))),(kC P (kC c []))) (ofG 206 (kA ([g]:List Int) e (e.length:Int) P c d ((14,.i f)::(kAW O j []))),(kC P (kC c [])))from(Sub.norm [] [some 0,some 1] rfl rfl (.keep (.same (qd encI _)) (.keep (.same (qd encI _)) (.keep (.same nI) (.keep (.osliceE rfl (vM e_l39)) (.keep (.slice rfl) (.keep (.same nI) (.keep (.same nI) (.keep (.same nI) (.keep (.same nI) .nil))))))))) (.ks (.ks .nil)))) ?_
       refine gh fol (kA ([g]:List Int) e (e.length:Int) P c d ((14,.i f)::(kAW O (w64 (j+1)) []))) ?_
       exact⟨M,(ofG 206 (kA ([g]:List Int) e (e.length:Int) P c d ((14,.i f)::(kAW O (w64 (j+1)) []))),(kC P (kC c []))),Nat.lt_succ_self _,(Sub.refl _),_,_,_,rfl,g31⟩
      refine Goes.exit ?_
      obtain rfl:=si g31
      exact⟨rfl,_,_,rfl,(Sub.keep [8,9,10,11,12,13,14,15] rfl rfl)⟩
    rintro x s' ⟨rfl,t,n30,rfl,hsub⟩
    try dsimp only at g23
    refine Goes.sub hsub ?_
    obtain⟨x40,H,g23⟩:=bnd g23
    obtain⟨u,e_l41,g23⟩:=bnd g23
    refine sq (gq fol [8,9,12,13] (kA ([g]:List Int) e (e.length:Int) t c d [(14,.i f)]) (kC u (kC c [])) (ac (hs (.done (.opt (qg ZT 87 (.oslice 0 t.length 1) (.i (w64 (d+(e.length:Int)))))) (.ptr 0 ((w64 (d+(e.length:Int)):Int).toNat*1+0))) (qfu jR H)) (ac (hs (.run [0] (jf ZT 3 (.ptr 0 ((w64 (d+(e.length:Int)):Int).toNat*1+0))) (kC t (kC c [])) (.i x40) (kC t (kC c [])) false) (qct ce3 (E:=encI) (l:=t) rfl rfl H (nl rfl) rfl)) (ac (hs (.done (.opt (qg ZT 87 (.oslice 0 t.length 1) (.i (w64 (d+(e.length:Int)))))) (.ptr 0 ((w64 (d+(e.length:Int)):Int).toNat*1+0))) (qfu jR H)) (ac (hs (.run [0] (qp ZT 3 (.ptr 0 ((w64 (d+(e.length:Int)):Int).toNat*1+0)) (.i (w64 (x40-n30)))) (kC t (kC c [])) .undef (kC u (kC c [])) true) (qao (E:=encI) (l:=t) (y:=w64 (x40-n30)) rfl (show _=some 1 by kernel_rfl) rfl H rfl rfl rfl rfl rfl e_l41 rfl)) az)))) ?_)
    refine Goes.sub (show Sub (ofG 206 (kA ([g]:List Int) e (e.length:Int) t c d [(14,.i f)]),(kC u (kC c []))) (ofG 206 (kA ([g]:List Int) e (e.length:Int) u c d [(14,.i f)]),(kC u (kC c [])))from(Sub.norm [] [some 0,some 1] rfl rfl (.keep (.same (qd encI _)) (.keep (.same (qd encI _)) (.keep (.same nI) (.keep (.osliceE rfl (vM e_l41)) (.keep (.slice rfl) (.keep (.same nI) (.keep (.same nI) .nil))))))) (.ks (.ks .nil)))) ?_
    refine sq ?_
    obtain⟨x42,e_x42,g23⟩:=bnd g23
    refine sq (gr fol [4,5] (kA ([g]:List Int) e (e.length:Int) u c d [(14,.i f),(145,.bool (decide (x42<0)))]) (ac (hs (.done (.opt (qg ZT 87 (.oslice 0 u.length 1) (.i (w64 (d+(e.length:Int)))))) (.ptr 0 ((w64 (d+(e.length:Int)):Int).toNat*1+0))) (qfu jR e_x42)) (ac (hs (.run [0] (jf ZT 3 (.ptr 0 ((w64 (d+(e.length:Int)):Int).toNat*1+0))) (kC u (kC c [])) (.i x42) (kC u (kC c [])) false) (qct ce3 (E:=encI) (l:=u) rfl rfl e_x42 (nl rfl) rfl)) az)) ?_)
    obtain⟨r45,g45,g23⟩:=bnd g23
    refine Goes.imp (Q:=fun x s'=>(x= .normal/\ ∃q n44,(q,n44)=r45/\Sub s' (ofG 206 (kA ([g]:List Int) e (e.length:Int) q c d [(14,.i n44)]),(kC q (kC c []))))) ?_ ?_
    ·refine ihD g45 (fun c46 g45=>?_) (fun c46 g45=>?_)
     ·refine sh fol (kA ([g]:List Int) e (e.length:Int) u c d [(14,.i (w64 (f-1)))]) ?_
      refine sh fol (kA ([g]:List Int) e (e.length:Int) u c d [(14,.i (w64 (f-1))),(19,.i 0)]) ?_
      refine sq ?_
      refine sh fol (kA ([g]:List Int) e (e.length:Int) u c d [(14,.i (w64 (f-1))),(19,.i 0),(20,.i 0)]) ?_
      refine Goes.block ?_
      obtain⟨r53,g53,g45⟩:=bnd g45
      refine Goes.imp (Q:=fun x s'=>(x= .exit 6/\ ∃v a1 n52,(v,a1,n52)=r53/\Sub s' (ofG 206 (kA ([g]:List Int) e (e.length:Int) v c d [(14,.i a1),(19,.i n52)]),(kC v (kC c []))))) ?_ ?_
      ·refine Uc (fun M s=> ∃(r:List Int) (w:Int) (n:Int),s=(ofG 206 (kA ([g]:List Int) e (e.length:Int) r c d [(14,.i (w64 (f-1))),(19,.i w),(20,.i n)]),(kC r (kC c [])))/\ku e d f M r w n=some r53) ?_ (m:=N) ⟨_,_,_,rfl,g53⟩
       rintro M s ⟨r,w,n,rfl,g53⟩
       cases M with
       |zero=>simp only[ku]at g53;cases g53
       |succ M=>
        rw[ku]at g53
        refine sq ?_
        refine sh fol (kA ([g]:List Int) e (e.length:Int) r c d [(14,.i (w64 (f-1))),(19,.i w),(20,.i n),(150,.bool (decide (n<(e.length:Int))))]) ?_
        refine ihD g53 (fun c54 g53=>?_) (fun c54 g53=>?_)
        ·refine Goes.skip ?_
         refine sq (Goes.block ?_)
         obtain⟨D,I,g53⟩:=bnd g53
         obtain⟨J,e_x56,g53⟩:=bnd g53
         refine sq (gr fol [4,5,8,9] (kA ([g]:List Int) e (e.length:Int) r c d [(14,.i (w64 (f-1))),(20,.i n),(21,.i (w64 ((w64 (D+J))+w)))]) (ac (hs (.done (.opt (qg ZT 87 (.oslice 0 r.length 1) (.i (w64 (n+d))))) (.ptr 0 ((w64 (n+d):Int).toNat*1+0))) (qfu jR I)) (ac (hs (.run [0] (jf ZT 3 (.ptr 0 ((w64 (n+d):Int).toNat*1+0))) (kC r (kC c [])) (.i D) (kC r (kC c [])) false) (qct ce3 (E:=encI) (l:=r) rfl rfl I (nl rfl) rfl)) (ac (iv jR encI e_x56) (ac (lv 0 ce3 encI e_x56 rfl) az)))) ?_)
         obtain⟨K,e_l57,g53⟩:=bnd g53
         refine sq (gq fol [6,7] (kA ([g]:List Int) e (e.length:Int) r c d [(14,.i (w64 (f-1))),(20,.i n),(21,.i (w64 ((w64 (D+J))+w)))]) (kC K (kC c [])) (ac (hs (.done (.opt (qg ZT 87 (.oslice 0 r.length 1) (.i (w64 (n+d))))) (.ptr 0 ((w64 (n+d):Int).toNat*1+0))) (qfu jR I)) (ac (hs (.run [0] (qp ZT 3 (.ptr 0 ((w64 (n+d):Int).toNat*1+0)) (.i ((w64 ((w64 (D+J))+w)).tmod 1000000000))) (kC r (kC c [])) .undef (kC K (kC c [])) true) (qao (E:=encI) (l:=r) (y:=(w64 ((w64 (D+J))+w)).tmod 1000000000) rfl (show _=some 1 by kernel_rfl) rfl I rfl rfl rfl rfl rfl e_l57 rfl)) az)) ?_)
         refine Goes.sub (show Sub (ofG 206 (kA ([g]:List Int) e (e.length:Int) r c d [(14,.i (w64 (f-1))),(20,.i n),(21,.i (w64 ((w64 (D+J))+w)))]),(kC K (kC c []))) (ofG 206 (kA ([g]:List Int) e (e.length:Int) K c d [(14,.i (w64 (f-1))),(20,.i n),(21,.i (w64 ((w64 (D+J))+w)))]),(kC K (kC c [])))from(Sub.norm [] [some 0,some 1] rfl rfl (.keep (.same (qd encI _)) (.keep (.same (qd encI _)) (.keep (.same nI) (.keep (.osliceE rfl (vM e_l57)) (.keep (.slice rfl) (.keep (.same nI) (.keep (.same nI) (.keep (.same nI) (.keep (.same nI) .nil))))))))) (.ks (.ks .nil)))) ?_
         refine gh fol (kA ([g]:List Int) e (e.length:Int) K c d [(14,.i (w64 (f-1))),(19,.i (w64 ((w64 ((w64 (D+J))+w)).tdiv 1000000000))),(20,.i n)]) ?_
         refine gh fol (kA ([g]:List Int) e (e.length:Int) K c d [(14,.i (w64 (f-1))),(19,.i (w64 ((w64 ((w64 (D+J))+w)).tdiv 1000000000))),(20,.i (w64 (n+1)))]) ?_
         exact⟨M,(ofG 206 (kA ([g]:List Int) e (e.length:Int) K c d [(14,.i (w64 (f-1))),(19,.i (w64 ((w64 ((w64 (D+J))+w)).tdiv 1000000000))),(20,.i (w64 (n+1)))]),(kC K (kC c []))),Nat.lt_succ_self _,(Sub.refl _),_,_,_,rfl,g53⟩
        refine Goes.exit ?_
        obtain rfl:=si g53
        exact⟨rfl,_,_,_,rfl,(Sub.keep [8,9,10,11,12,13,14,19] rfl rfl)⟩
      rintro x s' ⟨rfl,v,a1,n52,rfl,hsub⟩
      try dsimp only at g45
      refine Goes.sub hsub ?_
      obtain⟨x58,L,g45⟩:=bnd g45
      obtain⟨l59,e_l59,g45⟩:=bnd g45
      refine gq fol [8,9,12,13] (kA ([g]:List Int) e (e.length:Int) v c d [(14,.i a1)]) (kC l59 (kC c [])) (ac (hs (.done (.opt (qg ZT 87 (.oslice 0 v.length 1) (.i (w64 (d+(e.length:Int)))))) (.ptr 0 ((w64 (d+(e.length:Int)):Int).toNat*1+0))) (qfu jR L)) (ac (hs (.run [0] (jf ZT 3 (.ptr 0 ((w64 (d+(e.length:Int)):Int).toNat*1+0))) (kC v (kC c [])) (.i x58) (kC v (kC c [])) false) (qct ce3 (E:=encI) (l:=v) rfl rfl L (nl rfl) rfl)) (ac (hs (.done (.opt (qg ZT 87 (.oslice 0 v.length 1) (.i (w64 (d+(e.length:Int)))))) (.ptr 0 ((w64 (d+(e.length:Int)):Int).toNat*1+0))) (qfu jR L)) (ac (hs (.run [0] (qp ZT 3 (.ptr 0 ((w64 (d+(e.length:Int)):Int).toNat*1+0)) (.i (w64 (x58+n52)))) (kC v (kC c [])) .undef (kC l59 (kC c [])) true) (qao (E:=encI) (l:=v) (y:=w64 (x58+n52)) rfl (show _=some 1 by kernel_rfl) rfl L rfl rfl rfl rfl rfl e_l59 rfl)) az)))) ?_
      obtain rfl:=si g45
      exact⟨rfl,_,_,rfl,((show Sub (ofG 206 (kA ([g]:List Int) e (e.length:Int) v c d [(14,.i a1)]),(kC l59 (kC c []))) (ofG 206 (kA ([g]:List Int) e (e.length:Int) l59 c d [(14,.i a1)]),(kC l59 (kC c [])))from(Sub.norm [] [some 0,some 1] rfl rfl (.keep (.same (qd encI _)) (.keep (.same (qd encI _)) (.keep (.same nI) (.keep (.osliceE rfl (vM e_l59)) (.keep (.slice rfl) (.keep (.same nI) (.keep (.same nI) .nil))))))) (.ks (.ks .nil)))).trans (Sub.refl _))⟩
     refine Goes.skip ?_
     obtain rfl:=si g45
     exact⟨rfl,_,_,rfl,(Sub.keep [8,9,10,11,12,13,14] rfl rfl)⟩
    rintro x s' ⟨rfl,q,n44,rfl,hsub⟩
    try dsimp only at g23
    refine Goes.sub hsub ?_
    obtain⟨x60,e_x60,g23⟩:=bnd g23
    obtain⟨U,e_l61,g23⟩:=bnd g23
    refine gq fol [3,4] (kA ([g]:List Int) e (e.length:Int) q c d []) (kC q (kC U [])) (ac (hs (.done (.opt (qg ZT 87 (.slice 1 0 c.length c.length 1) (.i d))) (.ptr 1 ((d:Int).toNat*1+0))) (qaC jR e_x60)) (ac (hs (.run [1] (qp ZT 3 (.ptr 1 ((d:Int).toNat*1+0)) (.i n44)) (kC q (kC c [])) .undef (kC q (kC U [])) true) (qao (E:=encI) (l:=c) (y:=n44) rfl (show _=some 1 by kernel_rfl) rfl e_x60 rfl rfl rfl rfl rfl e_l61 rfl)) az)) ?_
    refine Goes.sub (show Sub (ofG 206 (kA ([g]:List Int) e (e.length:Int) q c d []),(kC q (kC U []))) (ofG 206 (kA ([g]:List Int) e (e.length:Int) q U d []),(kC q (kC U [])))from(Sub.norm [] [some 0,some 1] rfl rfl (.keep (.same (qd encI _)) (.keep (.same (qd encI _)) (.keep (.same nI) (.keep (.oslice rfl) (.keep (.sliceE rfl (vM e_l61)) (.keep (.same nI) .nil)))))) (.ks (.ks .nil)))) ?_
    refine gh fol (kA ([g]:List Int) e (e.length:Int) q U (w64 (d-1)) []) ?_
    exact⟨M,(ofG 206 (kA ([g]:List Int) e (e.length:Int) q U (w64 (d-1)) []),(kC q (kC U []))),Nat.lt_succ_self _,(Sub.refl _),_,_,_,rfl,g23⟩
   refine Goes.exit ?_
   obtain rfl:=si g23
   exact⟨rfl,_,_,rfl,(Sub.keep [8,10,11,12] rfl rfl)⟩
 rintro x s' ⟨rfl,a0,o,rfl,hsub⟩
 try dsimp only at h
 refine Goes.sub hsub ?_
 refine sq (Goes.sub (s':=(ofG 206 [(8,vl encI ([g]:List Int)),(10,.i (e.length:Int)),(11,vl encI a0),(12,.slice 0 0 o.length o.length 1)],(kC o []))) (Sub.norm [0] [some 1] rfl rfl (.keep (.same (qd encI _)) (.keep (.same nI) (.keep (.frz (Fz.os (E:=encI) rfl rfl (nl rfl)) (qd encI _)) (.keep (.slice rfl) .nil)))) (.ks .nil)) ?_)
 obtain⟨s62,e_s62,h⟩:=bnd h
 obtain⟨r63,e_r63,h⟩:=bnd h
 obtain⟨x64,e_x64,h⟩:=bnd h
 obtain⟨r65,e_r65,h⟩:=bnd h
 refine gr fol [2,3,5,6,7] [(12,.slice 0 0 o.length o.length 1),(22,vl encI r65.1)] (ac (hs (.done (.opt (qQ ZT 87 (vl encI a0) none (some (.i (e.length:Int))) none)) (vl encI s62)) (qjE jR (E:=encI) rfl none (some (e.length:Int)) e_s62)) (ac (cv (yO N s62 e_r63)) (ac (iv jR encI e_x64) (ac (lv 0 ce3 encI e_x64 rfl) (ac (cv (qcz N r63 x64 e_r65)) az))))) ?_
 obtain⟨r66,e_r66,h⟩:=bnd h
 refine sq (gq fol [1] ((4,vl encI r66)::(kAs r65.1 [])) (kAd o) (ac (hs (.callF 205 [.slice 0 0 o.length o.length 1] (kC o []) [0] [vl encI o] (vl encI r66)) (qaQ (FzL.cons (Fz.sl (E:=encI) rfl rfl (nl rfl)) FzL.nil) (yO N o e_r66) (qw encI _ (nl rfl)))) az) ?_)
 refine Goes.sub (show Sub (ofG 206 ((4,vl encI r66)::(kAs r65.1 [])),(kAd o)) (ofG 206 ((4,vl encI r66)::(kAs r65.1 [])),[])from(Sub.norm [] [] rfl rfl (.keep (.same (qd encI _)) (.keep (.same (qd encI _)) .nil)) .nil)) ?_
 refine Goes.ret ?_
 obtain rfl:=si h
 exact(gw2 (kBO r66 r65.1) (FzW.tuple (qc.cons (Ua (qw encI _ (nl rfl))) (qc.cons (Ua (qw encI _ (nl rfl))) qc.nil))))
def ky (N:Nat):Nat->(List Int)->(List Int)->Option (List Int)
 |0,_,_=>none
 |K+1,b,a=>
  if(a.length:Int)>0 then
  (jE N b a).bind fun c=>
  ky N K a c.2
  else
  some b
def qaA (N:Nat) (a:List Int) (b:List Int):Option (List Int):=
 (ky N N a b).bind fun c=>
 some c
theorem qdP (N:Nat) (a:List Int) (b:List Int) {res:List Int} (h:qaA N a b=some res):qb ZT (.fn 68) (kBO a b) [] (vl encI res) []:=by
 unfold qaA at h
 refine Ub Tryz.func68 rfl rfl (m:=19) rfl (rs:=[.tmp 4]) rfl (l:=(kH a b [])) rfl ?_
 refine sh fol (kH a b []) ?_
 refine sq (Goes.block ?_)
 obtain⟨i,g4,h⟩:=bnd h
 refine Goes.imp (Q:=fun x s'=>(x= .exit 0/\ ∃d,d=i/\Sub s' (ofG 19 (kAi d []),[]))) ?_ ?_
 ·refine Uc (fun M s=> ∃(e:List Int) (c:List Int),s=(ofG 19 (kH e c []),[])/\ky N M e c=some i) ?_ (m:=N) ⟨_,_,rfl,g4⟩
  rintro M s ⟨e,c,rfl,g4⟩
  cases M with
  |zero=>simp only[ky]at g4;cases g4
  |succ M=>
   rw[ky]at g4
   refine sq ?_
   refine sh fol (kH e c [(9,.bool (decide ((c.length:Int)>0)))]) ?_
   refine ihD g4 (fun j g4=>?_) (fun j g4=>?_)
   ·refine Goes.skip ?_
    refine Goes.block ?_
    obtain⟨g,f,g4⟩:=bnd g4
    refine sq (gr fol [2] [(1,vl encI c),(6,vl encI g.2)] (ac (cv (qaN N e c f)) az) ?_)
    refine gh fol (kH c g.2 []) ?_
    exact⟨M,(ofG 19 (kH c g.2 []),[]),Nat.lt_succ_self _,(Sub.refl _),_,_,rfl,g4⟩
   refine Goes.exit ?_
   obtain rfl:=si g4
   exact⟨rfl,_,rfl,(Sub.keep [0] rfl rfl)⟩
 rintro x s' ⟨rfl,d,rfl,hsub⟩
 refine Goes.sub hsub ?_
 refine sh fol [(4,vl encI d)] ?_
 refine Goes.ret ?_
 obtain rfl:=si h
 exact(gw2 [vl encI d] (Ua (qw encI _ (nl rfl))))
def qap (N:Nat) (a:Str):Option Int:=
 (if(a.length:Int)>0 then
 (idx a 0).bind fun t=>
 some (decide ((t.toNat:Int)=45))
 else
 some false:Option Bool).bind fun u=>
 ((if u=true then
 (cut a 1 (a.length:Int)).bind fun v=>
 some v
 else
 some a:Option Str)).bind fun b=>
 (yD N b).bind fun c=>
 ((cut b 0 c).bind fun f=>
 (jh N f).bind fun g=>
 if(!g)=true then
 some true
 else
 (idx a 0).bind fun h=>
 if(h.toNat:Int)=45 then
 (cut b 0 c).bind fun i=>
 some (i==[48])
 else
 some false:Option Bool).bind fun j=>
 if j=true then
 some 1
 else
 (if c<(b.length:Int)then
 (cut b (w64 (c+1)) (b.length:Int)).bind fun k=>
 (jh N k).bind fun l=>
 if(!l)=true then
 some true
 else
 (cut b (w64 (c+1)) (b.length:Int)).bind fun m=>
 if(m==[48])=true then
 some true
 else
 (cut b (w64 (c+1)) (b.length:Int)).bind fun n=>
 some (n==[49])
 else
 some false:Option Bool).bind fun o=>
 if o=true then
 some 1
 else
 (if c>600 then
 some true
 else
 some (decide ((w64 ((w64 ((b.length:Int)-c))-1))>600)):Option Bool).bind fun p=>
 if p=true then
 some 4
 else
 ((if c<(b.length:Int)then
 (yB N b).bind fun d=>
 (qaA N d.1.w d.2.w).bind fun e=>
 (if(!decide ((e.length:Int)=1))=true then
 some true
 else
 (idx e 0).bind fun q=>
 some (!decide (q=1)):Option Bool).bind fun r=>
 if r=true then
 some (.inr 1)
 else
 some (.inl ())
 else
 some (.inl ()):Option (Unit⊕Int))).bind (fun
 |(.inl ())=>
 some 0
 |(.inr s)=>
 some s)
theorem qan (N:Nat) (a:Str) {res:Int} (h:qap N a=some res):qb ZT (.fn 14) [.str a] [] (.i res) []:=by
 unfold qap at h
 refine Ub Tryz.func14 rfl rfl (m:=96) rfl (rs:=[.tmp 2]) rfl (l:=(kAH a)) rfl ?_
 refine sh fol (kAH a) ?_
 refine sh fol (kA5 a [(3,.str a)]) ?_
 refine sq ?_
 refine sq ?_
 obtain⟨b3,g,h⟩:=bnd h
 refine Goes.cut (s':=(ofG 96 (kA5 a [(3,.str a),(16,.bool b3)]),[])) ?_ ?_
 ·rcases wyD g with⟨Y,g⟩|⟨Y,g⟩
  ·obtain⟨c2,J,g⟩:=bnd g
   obtain rfl:=si g
   exact tr fol [3,5] (kA5 a [(3,.str a),(16,.bool (decide ((c2.toNat:Int)=45)))]) (ac (gw Y) (ac (hs (.done (.opt (yu ZT 9 (.str a) (.i 0))) (.int .u8 (c2.toNat:Int))) (qaD st9 J)) az))
  obtain rfl:=si g
  exact tr fol [3] (kA5 a [(3,.str a),(16,.bool false)]) (ac (gw Y) az)
 obtain⟨r6,g6,h⟩:=bnd h
 refine Goes.imp (Q:=fun x s'=>(x= .normal/\ ∃e,e=r6/\Sub s' (ofG 96 (kA5 a [(3,.str e)]),[]))) ?_ ?_
 ·refine ihB g6 (fun c7 g6=>?_) (fun c7 g6=>?_)
  ·obtain⟨s8,K,g6⟩:=bnd g6
   refine gr fol [1] (kA5 a [(3,.str s8)]) (ac (hs (.done (.opt (qQ ZT 9 (.str a) (some (.i 1)) none none)) (.str s8)) (zZ st9 (some 1) none K)) az) ?_
   obtain rfl:=si g6
   exact⟨rfl,_,rfl,(Sub.refl _)⟩
  refine Goes.skip ?_
  obtain rfl:=si g6
  exact⟨rfl,_,rfl,(Sub.keep [0,3] rfl rfl)⟩
 rintro x s' ⟨rfl,e,rfl,hsub⟩
 refine Goes.sub hsub ?_
 obtain⟨d,L,h⟩:=bnd h
 refine sq (gr fol [1] (kA5 a (kAt e d [])) (ac (cv (qai N e L)) az) ?_)
 refine sq ?_
 refine sq ?_
 obtain⟨Z,c,h⟩:=bnd h
 refine Goes.cut (s':=(ofG 96 (kAt e d [(36,.bool Z)]),[])) ?_ ?_
 ·obtain⟨r,n,c⟩:=bnd c
  obtain⟨r11,o,c⟩:=bnd c
  rcases wyB c with⟨z,c⟩|⟨z,c⟩
  ·obtain rfl:=si c
   exact tr fol [2,3,5] (kAt e d [(36,.bool true)]) (ac (hs (.done (.opt (qQ ZT 9 (.str e) none (some (.i d)) none)) (.str r)) (zZ st9 none (some d) n)) (ac (cv (ja N r o)) (ac (gw z) az)))
  obtain⟨M,t,c⟩:=bnd c
  rcases wyD c with⟨B,c⟩|⟨B,c⟩
  ·obtain⟨O,C,c⟩:=bnd c
   obtain rfl:=si c
   exact tr fol [2,3,5,7,9,12] (kAt e d [(36,.bool (O==[48]))]) (ac (hs (.done (.opt (qQ ZT 9 (.str e) none (some (.i d)) none)) (.str r)) (zZ st9 none (some d) n)) (ac (cv (ja N r o)) (ac (gw z) (ac (hs (.done (.opt (yu ZT 22 (.str a) (.i 0))) (.int .u8 (M.toNat:Int))) (qaD qk1 t)) (ac (gw B) (ac (hs (.done (.opt (qQ ZT 9 (.str e) none (some (.i d)) none)) (.str O)) (zZ st9 none (some d) C)) az))))))
  obtain rfl:=si c
  exact tr fol [2,3,5,7,9] (kAt e d [(36,.bool false)]) (ac (hs (.done (.opt (qQ ZT 9 (.str e) none (some (.i d)) none)) (.str r)) (zZ st9 none (some d) n)) (ac (cv (ja N r o)) (ac (gw z) (ac (hs (.done (.opt (yu ZT 22 (.str a) (.i 0))) (.int .u8 (M.toNat:Int))) (qaD qk1 t)) (ac (gw B) az)))))
 refine ihB h (fun a0 h=>?_) (fun a0 h=>?_)
 ·refine sh fol [(2,.i 1)] ?_
  refine Goes.ret ?_
  obtain rfl:=si h
  exact(gw2 [.i 1] (Ua tI))
 refine Goes.skip ?_
 refine sq ?_
 refine sq ?_
 obtain⟨a1,b,h⟩:=bnd h
 refine Goes.cut (s':=(ofG 96 (kAt e d [(62,.bool a1)]),[])) ?_ ?_
 ·rcases wyD b with⟨u,b⟩|⟨u,b⟩
  ·obtain⟨s,p,b⟩:=bnd b
   obtain⟨r21,q,b⟩:=bnd b
   rcases wyB b with⟨A,b⟩|⟨A,b⟩
   ·obtain rfl:=si b
    exact tr fol [4,8,9,11] (kAt e d [(62,.bool true)]) (ac (gw u) (ac (hs (.done (.opt (qQ ZT 9 (.str e) (some (.i (w64 (d+1)))) none none)) (.str s)) (zZ st9 (some (w64 (d+1))) none p)) (ac (cv (ja N s q)) (ac (gw A) az))))
   obtain⟨P,v,b⟩:=bnd b
   rcases wyB b with⟨D,b⟩|⟨D,b⟩
   ·obtain rfl:=si b
    exact tr fol [4,8,9,11,15,18] (kAt e d [(62,.bool true)]) (ac (gw u) (ac (hs (.done (.opt (qQ ZT 9 (.str e) (some (.i (w64 (d+1)))) none none)) (.str s)) (zZ st9 (some (w64 (d+1))) none p)) (ac (cv (ja N s q)) (ac (gw A) (ac (hs (.done (.opt (qQ ZT 9 (.str e) (some (.i (w64 (d+1)))) none none)) (.str P)) (zZ st9 (some (w64 (d+1))) none v)) (ac (gw D) az))))))
   obtain⟨U,E,b⟩:=bnd b
   obtain rfl:=si b
   exact tr fol [4,8,9,11,15,18,22] (kAt e d [(62,.bool (U==[49]))]) (ac (gw u) (ac (hs (.done (.opt (qQ ZT 9 (.str e) (some (.i (w64 (d+1)))) none none)) (.str s)) (zZ st9 (some (w64 (d+1))) none p)) (ac (cv (ja N s q)) (ac (gw A) (ac (hs (.done (.opt (qQ ZT 9 (.str e) (some (.i (w64 (d+1)))) none none)) (.str P)) (zZ st9 (some (w64 (d+1))) none v)) (ac (gw D) (ac (hs (.done (.opt (qQ ZT 9 (.str e) (some (.i (w64 (d+1)))) none none)) (.str U)) (zZ st9 (some (w64 (d+1))) none E)) az)))))))
  obtain rfl:=si b
  exact tr fol [4] (kAt e d [(62,.bool false)]) (ac (gw u) az)
 refine ihB h (fun a2 h=>?_) (fun a2 h=>?_)
 ·refine sh fol [(2,.i 1)] ?_
  refine Goes.ret ?_
  obtain rfl:=si h
  exact(gw2 [.i 1] (Ua tI))
 refine Goes.skip ?_
 refine sq ?_
 refine sq ?_
 obtain⟨a3,j,h⟩:=bnd h
 refine Goes.cut (s':=(ofG 96 (kAt e d [(72,.bool a3)]),[])) ?_ ?_
 ·rcases wyD j with⟨F,j⟩|⟨F,j⟩
  ·obtain rfl:=si j
   exact tr fol [2] (kAt e d [(72,.bool true)]) (ac (gw F) az)
  obtain rfl:=si j
  exact tr fol [2] (kAt e d [(72,.bool (decide ((w64 ((w64 ((e.length:Int)-d))-1))>600)))]) (ac (gw F) az)
 refine ihB h (fun a4 h=>?_) (fun a4 h=>?_)
 ·refine sh fol [(2,.i 4)] ?_
  refine Goes.ret ?_
  obtain rfl:=si h
  exact(gw2 [.i 4] (Ua tI))
 refine Goes.skip ?_
 refine sq ?_
 refine sh fol [(3,.str e),(76,.bool (decide (d<(e.length:Int))))] ?_
 obtain⟨V,g33,h⟩:=bnd h
 refine Goes.imp (Q:=fun x s'=>(x= .normal/\(.inl ())=V/\Sub s' (ofG 96 [],[]))\/(x= .ret/\ ∃X,(.inr X)=V/\vI ZT [.tmp 2] (.i X) .ret s')) ?_ ?_
 ·refine ihD g33 (fun a5 g33=>?_) (fun a5 g33=>?_)
  ·obtain⟨k,G,g33⟩:=bnd g33
   refine sq (gq fol [1] [(5,.ptr 0 0),(6,.ptr 1 0)] (kK k.1.neg k.1.w k.2.neg k.2.w []) (ac (cv (qb8 N e G)) az) ?_)
   obtain⟨a6,H,g33⟩:=bnd g33
   refine sq (gr fol [4] [(7,vl encI a6)] (ac (cv (qdP N k.1.w k.2.w H)) az) ?_)
   refine sq ?_
   obtain⟨a7,f,g33⟩:=bnd g33
   refine Goes.cut (s':=(ofG 96 [(95,.bool a7)],(kK k.1.neg k.1.w k.2.neg k.2.w []))) ?_ ?_
   ·rcases wyB f with⟨I,f⟩|⟨I,f⟩
    ·obtain rfl:=si f
     exact tr fol [3] [(95,.bool true)] (ac (gw I) az)
    obtain⟨a8,y,f⟩:=bnd f
    obtain rfl:=si f
    exact tr fol [3,5,6] [(95,.bool (!decide (a8=1)))] (ac (gw I) (ac (iv jR encI y) (ac (lv 0 ce3 encI y rfl) az)))
   refine ihB g33 (fun a9 g33=>?_) (fun a9 g33=>?_)
   ·refine sh fol [(2,.i 1)] ?_
    refine Goes.ret ?_
    obtain rfl:=si g33
    exact Or.inr (⟨rfl,_,rfl,(gw2 [.i 1] (Ua tI))⟩)
   refine Goes.skip ?_
   obtain rfl:=si g33
   exact Or.inl (⟨rfl,rfl,(Sub.norm [] [] rfl rfl .nil .nil)⟩)
  refine Goes.skip ?_
  obtain rfl:=si g33
  exact Or.inl (⟨rfl,rfl,(Sub.keep [] rfl rfl)⟩)
 rintro x s' (⟨rfl,rfl,hsub⟩|⟨rfl,q43,rfl,hret⟩)
 ·try dsimp only at h
  refine Goes.sub hsub ?_
  refine sh fol [(2,.i 0)] ?_
  refine Goes.ret ?_
  obtain rfl:=si h
  exact(gw2 [.i 0] (Ua tI))
 try dsimp only at h
 obtain rfl:=si h
 exact hret
def yh (a:Str):Option Int:=
 if(a==[48])=true then
 some 0
 else
 (if(a.length:Int)>0 then
 (idx a 0).bind fun b=>
 some (decide ((b.toNat:Int)=45))
 else
 some false:Option Bool).bind fun c=>
 if c=true then
 some (-1)
 else
 some 1
theorem xN (a:Str) {res:Int} (h:yh a=some res):qb ZT (.fn 69) [.str a] [] (.i res) []:=by
 unfold yh at h
 refine Ub Tryz.func69 rfl rfl (m:=13) rfl (rs:=[.tmp 2]) rfl (l:=(kAH a)) rfl ?_
 refine sh fol (kAH a) ?_
 refine sq ?_
 refine sh fol (kA5 a (kBM (a==[48]))) ?_
 refine ihB h (fun f h=>?_) (fun f h=>?_)
 ·refine sh fol [(2,.i 0)] ?_
  refine Goes.ret ?_
  obtain rfl:=si h
  exact(gw2 [.i 0] (Ua tI))
 refine Goes.skip ?_
 refine sq ?_
 refine sq ?_
 obtain⟨g,b,h⟩:=bnd h
 refine Goes.cut (s':=(ofG 13 (kA1 g),[])) ?_ ?_
 ·rcases wyD b with⟨d,b⟩|⟨d,b⟩
  ·obtain⟨e,c,b⟩:=bnd b
   obtain rfl:=si b
   exact tr fol [3,5] (kA1 (decide ((e.toNat:Int)=45))) (ac (gw d) (ac (hs (.done (.opt (yu ZT 22 (.str a) (.i 0))) (.int .u8 (e.toNat:Int))) (qaD qk1 c)) az))
  obtain rfl:=si b
  exact tr fol [3] [(12,.bool false)] (ac (gw d) az)
 refine ihB h (fun j h=>?_) (fun j h=>?_)
 ·refine sh fol [(2,.i (-1))] ?_
  refine Goes.ret ?_
  obtain rfl:=si h
  exact(gw2 [.i (-1)] (Ua tI))
 refine Goes.skip ?_
 refine sh fol [(2,.i 1)] ?_
 refine Goes.ret ?_
 obtain rfl:=si h
 exact(gw2 [.i 1] (Ua tI))
def zO (N:Nat) (a:Str):Option Int:=
 (qap N a).bind fun b=>
 (if b=0 then
 (yh a).bind fun c=>
 some (decide (c<=0))
 else
 some false:Option Bool).bind fun d=>
 ((if d=true then
 some 3
 else
 some b:Option Int)).bind fun e=>
 some e
theorem xW (N:Nat) (a:Str) {res:Int} (h:zO N a=some res):qb ZT (.fn 23) [.str a] [] (.i res) []:=by
 unfold zO at h
 refine Ub Tryz.func23 rfl rfl (m:=14) rfl (rs:=[.tmp 2]) rfl (l:=(kAH a)) rfl ?_
 refine sh fol (kAH a) ?_
 obtain⟨f,c,h⟩:=bnd h
 refine sq (gr fol [1] (kAF a f []) (ac (cv (qan N a c)) az) ?_)
 refine sq ?_
 refine sq ?_
 obtain⟨j,b,h⟩:=bnd h
 refine Goes.cut (s':=(ofG 14 ((3,.i f)::(kA1 j)),[])) ?_ ?_
 ·rcases wyD b with⟨g,b⟩|⟨g,b⟩
  ·obtain⟨k,d,b⟩:=bnd b
   obtain rfl:=si b
   exact tr fol [2,4] ((3,.i f)::(kA1 (decide (k<=0)))) (ac (gw g) (ac (cv (xN a d)) az))
  obtain rfl:=si b
  exact tr fol [2] [(3,.i f),(12,.bool false)] (ac (gw g) az)
 obtain⟨n,g7,h⟩:=bnd h
 refine Goes.imp (Q:=fun x s'=>(x= .normal/\ ∃e,e=n/\Sub s' (ofG 14 [(3,.i e)],[]))) ?_ ?_
 ·refine ihB g7 (fun o g7=>?_) (fun o g7=>?_)
  ·refine gh fol [(3,.i 3)] ?_
   obtain rfl:=si g7
   exact⟨rfl,_,rfl,(Sub.refl _)⟩
  refine Goes.skip ?_
  obtain rfl:=si g7
  exact⟨rfl,_,rfl,(Sub.keep [3] rfl rfl)⟩
 rintro x s' ⟨rfl,e,rfl,hsub⟩
 refine Goes.sub hsub ?_
 refine sh fol (kA3 e) ?_
 refine Goes.ret ?_
 obtain rfl:=si h
 exact(gw2 [.i e] (Ua tI))
def qM (least:Int):Nat->Int->Str->Option Str
 |0,_,_=>none
 |K+1,a,b=>
  (if a>0 then
  some true
  else
  some (decide ((b.length:Int)<least)):Option Bool).bind fun d=>
  if d=true then
  (cut [48,49,50,51,52,53,54,55,56,57] (a.tmod 10) (w64 ((a.tmod 10)+1))).bind fun e=>
  (cat e b).bind fun c=>
  qM least K (w64 (a.tdiv 10)) c
  else
  some b
def zB (N:Nat) (n:Int) (least:Int):Option Str:=
 (qM least N n []).bind fun a=>
 some a
theorem qay (N:Nat) (n:Int) (least:Int) {res:Str} (h:zB N n least=some res):qb ZT (.fn 145) [.i n,.i least] [] (.str res) []:=by
 unfold zB at h
 refine Ub Tryz.func145 rfl rfl (m:=25) rfl (rs:=[.tmp 4]) rfl (l:=(kAO n least [])) rfl ?_
 refine sh fol (kAO n least []) ?_
 refine sh fol (kAO n least [(5,.str [])]) ?_
 refine sq (Goes.block ?_)
 obtain⟨k,g4,h⟩:=bnd h
 refine Goes.imp (Q:=fun x s'=>(x= .exit 0/\ ∃f,f=k/\Sub s' (ofG 25 [(5,.str f)],[]))) ?_ ?_
 ·refine Uc (fun M s=> ∃(b:Int) (d:Str),s=(ofG 25 (kAO b least [(5,.str d)]),[])/\qM least M b d=some k) ?_ (m:=N) ⟨_,_,rfl,g4⟩
  rintro M s ⟨b,d,rfl,g4⟩
  cases M with
  |zero=>simp only[qM]at g4;cases g4
  |succ M=>
   rw[qM]at g4
   refine sq ?_
   refine sq ?_
   obtain⟨p,a,g4⟩:=bnd g4
   refine Goes.cut (s':=(ofG 25 (kAO b least ((5,.str d)::(kBE p))),[])) ?_ ?_
   ·rcases wyD a with⟨j,a⟩|⟨j,a⟩
    ·obtain rfl:=si a
     exact tr fol [2] (kAO b least [(5,.str d),(13,.bool true)]) (ac (gw j) az)
    obtain rfl:=si a
    exact tr fol [2] (kAO b least ((5,.str d)::(kBE (decide ((d.length:Int)<least))))) (ac (gw j) az)
   refine ihB g4 (fun q g4=>?_) (fun q g4=>?_)
   ·refine Goes.skip ?_
    refine Goes.block ?_
    obtain⟨o,g,g4⟩:=bnd g4
    obtain⟨c,e,g4⟩:=bnd g4
    refine sq (gr fol [5,7] (kAO b least [(5,.str c)]) (ac (hs (.done (.opt (qQ ZT 9 (.str [48,49,50,51,52,53,54,55,56,57]) (some (.i (b.tmod 10))) (some (.i (w64 ((b.tmod 10)+1)))) none)) (.str o)) (zZ st9 (some (b.tmod 10)) (some (w64 ((b.tmod 10)+1))) g)) (ac (hs (.done (.opt (qY ZT .add 9 (.tmp 19) (.tmp 20) (.str o) (.str d))) (.str c)) (qaH e)) az)) ?_)
    refine gh fol (kAO (w64 (b.tdiv 10)) least [(5,.str c)]) ?_
    exact⟨M,(ofG 25 (kAO (w64 (b.tdiv 10)) least [(5,.str c)]),[]),Nat.lt_succ_self _,(Sub.refl _),_,_,rfl,g4⟩
   refine Goes.exit ?_
   obtain rfl:=si g4
   exact⟨rfl,_,rfl,(Sub.keep [5] rfl rfl)⟩
 rintro x s' ⟨rfl,f,rfl,hsub⟩
 refine Goes.sub hsub ?_
 refine sh fol (kBG f) ?_
 refine Goes.ret ?_
 obtain rfl:=si h
 exact(gw2 [.str f] (Ua tS))
def vT (N:Nat) (a:qD):Nat->Str->Int->Option Str
 |0,_,_=>none
 |K+1,e,b=>
  if b>=0 then
  (idx a.w b).bind fun f=>
  (zB N f 9).bind fun c=>
  (cat e c).bind fun d=>
  vT N a K d (w64 (b-1))
  else
  some e
def qaO (N:Nat) (a:qD):Option Str:=
 if(a.w.length:Int)=0 then
 some [48]
 else
 (idx a.w (w64 ((a.w.length:Int)-1))).bind fun d=>
 (zB N d 1).bind fun e=>
 (vT N a N e (w64 ((a.w.length:Int)-2))).bind fun c=>
 if a.neg=true then
 (cat [45] c).bind fun b=>
 some b
 else
 some c
theorem qcG (N:Nat) (a:qD) {res:Str} (h:qaO N a=some res):qb ZT (.fn 89) [.agg (kAf a.neg a.w)] [] (.str res) []:=by
 unfold qaO at h
 refine Ub Tryz.func89 rfl rfl (m:=39) rfl (rs:=[.tmp 2]) rfl (l:=[(0,.agg [.bool a.neg,vl encI a.w])]) rfl ?_
 refine sg fol (kR []) (kAL a.neg a.w []) ?_
 refine sq ?_
 refine sh fol (kR (kBa (decide ((a.w.length:Int)=0)))) ?_
 refine ihD h (fun u h=>?_) (fun u h=>?_)
 ·refine sh fol [(2,.str [48])] ?_
  refine Goes.ret ?_
  obtain rfl:=si h
  exact(gw2 [.str [48]] (Ua tS))
 refine Goes.skip ?_
 obtain⟨v,c,h⟩:=bnd h
 obtain⟨r,n,h⟩:=bnd h
 refine sq (gr fol [6,7,8] (kR [(3,.str r)]) (ac (iv jR encI c) (ac (lv 0 ce3 encI c rfl) (ac (cv (qay N v 1 n)) az))) ?_)
 refine sq ?_
 refine sh fol (kR (kAt r (w64 ((a.w.length:Int)-2)) [])) ?_
 refine Goes.block ?_
 obtain⟨t,g7,h⟩:=bnd h
 refine Goes.imp (Q:=fun x s'=>(x= .exit 0/\ ∃f,f=t/\Sub s' (ofG 39 (kR [(3,.str f)]),(kAL a.neg a.w [])))) ?_ ?_
 ·refine Uc (fun M s=> ∃(o:Str) (d:Int),s=(ofG 39 (kR (kAt o d [])),(kAL a.neg a.w []))/\vT N a M o d=some t) ?_ (m:=N) ⟨_,_,rfl,g7⟩
  rintro M s ⟨o,d,rfl,g7⟩
  cases M with
  |zero=>simp only[vT]at g7;cases g7
  |succ M=>
   rw[vT]at g7
   refine sq ?_
   refine sh fol (kR (kAt o d [(23,.bool (decide (d>=0)))])) ?_
   refine ihD g7 (fun y g7=>?_) (fun y g7=>?_)
   ·refine Goes.skip ?_
    refine sq (Goes.block ?_)
    obtain⟨z,e,g7⟩:=bnd g7
    obtain⟨p,g,g7⟩:=bnd g7
    obtain⟨b,i,g7⟩:=bnd g7
    refine gr fol [4,5,6,7] (kR (kAt b d [])) (ac (iv jR encI e) (ac (lv 0 ce3 encI e rfl) (ac (cv (qay N z 9 g)) (ac (hs (.done (.opt (qY ZT .add 9 (.tmp 26) (.tmp 32) (.str o) (.str p))) (.str b)) (qaH i)) az)))) ?_
    refine gh fol (kR (kAt b (w64 (d-1)) [])) ?_
    exact⟨M,(ofG 39 (kR (kAt b (w64 (d-1)) [])),(kAL a.neg a.w [])),Nat.lt_succ_self _,(Sub.refl _),_,_,rfl,g7⟩
   refine Goes.exit ?_
   obtain rfl:=si g7
   exact⟨rfl,_,rfl,(Sub.keep [1,3] rfl rfl)⟩
 rintro x s' ⟨rfl,f,rfl,hsub⟩
 refine Goes.sub hsub ?_
 refine sq ?_
 refine sh fol [(3,.str f),(35,.bool a.neg)] ?_
 refine ihB h (fun q h=>?_) (fun q h=>?_)
 ·obtain⟨j,k,h⟩:=bnd h
  refine sq (gr fol [1] (kBH j) (ac (hs (.done (.opt (qY ZT .add 9 (.const (.string ⟨#[45]⟩)) (.tmp 36) (.str [45]) (.str f))) (.str j)) (qaH k)) az) ?_)
  refine Goes.ret ?_
  obtain rfl:=si h
  exact(gw2 [.str j] (Ua tS))
 refine Goes.skip ?_
 refine sh fol (kBH f) ?_
 refine Goes.ret ?_
 obtain rfl:=si h
 exact(gw2 [.str f] (Ua tS))
def xm (N:Nat) (a:qD):Option qD:=
 (zG N (!a.neg) a.w).bind fun b=>
 some b
theorem qec (N:Nat) (a:qD) {res:qD} (h:xm N a=some res):qb ZT (.fn 150) [.agg (kAf a.neg a.w)] [] (.agg (kAf res.neg res.w)) []:=by
 unfold xm at h
 refine Ub Tryz.func150 rfl rfl (m:=9) rfl (rs:=[.cell 2 116]) rfl (l:=[(0,.agg [.bool a.neg,vl encI a.w])]) rfl ?_
 refine sg fol (kR kAj) (kAL a.neg a.w (kN [])) ?_
 obtain⟨c,b,h⟩:=bnd h
 refine sq (gq fol [5] kAj (kK a.neg a.w c.neg c.w []) (ac (cv (zU N (!a.neg) a.w b)) az) ?_)
 refine Goes.ret ?_
 obtain rfl:=si h
 exact(gw2 [.agg (kAf c.neg c.w)] (FzW.agg (qc.cons (Ua tB) (qc.cons (Ua (qw encI _ (nl rfl))) qc.nil))))
def y7 (N:Nat) (n:qD) (d:qD):Option Str:=
 ((if d.neg=true then
 (xm N n).bind fun l=>
 (xm N d).bind fun m=>
 some (l.neg,l.w,m.neg,m.w)
 else
 some (n.neg,n.w,d.neg,d.w):Option (Bool×(List Int)×Bool×(List Int)))).bind fun(r,o,s,p)=>
 (qaA N o p).bind fun q=>
 (jE N o q).bind fun c=>
 (jE N p q).bind fun a=>
 (zG N r c.1).bind fun e=>
 (qaO N e).bind fun b=>
 (if(a.1.length:Int)=1 then
 (idx a.1 0).bind fun f=>
 some (decide (f=1))
 else
 some false:Option Bool).bind fun g=>
 if g=true then
 some b
 else
 (cat b [47]).bind fun h=>
 (zG N false a.1).bind fun i=>
 (qaO N i).bind fun j=>
 (cat h j).bind fun k=>
 some k
theorem qcB (N:Nat) (n:qD) (d:qD) {res:Str} (h:y7 N n d=some res):qb ZT (.fn 85) (kAl n.neg n.w d.neg d.w) [] (.str res) []:=by
 unfold y7 at h
 refine Ub Tryz.func85 rfl rfl (m:=57) rfl (rs:=[.tmp 4]) rfl (l:=(kBT n.neg n.w d.neg d.w)) rfl ?_
 refine sg fol (kM (kAZ [])) (kK n.neg n.w d.neg d.w []) ?_
 refine sq ?_
 refine sh fol (kM (kAZ (kA1 d.neg))) ?_
 obtain⟨O,g5,h⟩:=bnd h
 refine Goes.imp (Q:=fun x s'=>(x= .normal/\ ∃y u D v,(y,u,D,v)=O/\Sub s' (ofG 57 (kM (kAZ [])),(kK y u D v [])))) ?_ ?_
 ·refine ihB g5 (fun P g5=>?_) (fun P g5=>?_)
  ·obtain⟨L,z,g5⟩:=bnd g5
   obtain⟨M,A,g5⟩:=bnd g5
   refine gq fol [1,3] (kM (kAZ [])) (kK L.neg L.w M.neg M.w []) (ac (cv (qec N n z)) (ac (cv (qec N d A)) az)) ?_
   obtain rfl:=si g5
   exact⟨rfl,_,_,_,_,rfl,(Sub.refl _)⟩
  refine Goes.skip ?_
  obtain rfl:=si g5
  exact⟨rfl,_,_,_,_,rfl,(Sub.keep [2,3] rfl rfl)⟩
 rintro x s' ⟨rfl,y,u,D,v,rfl,hsub⟩
 try dsimp only at h
 refine Goes.sub hsub ?_
 obtain⟨E,B,h⟩:=bnd h
 refine sq (gr fol [4] (kM (kAZ (kAs E []))) (ac (cv (qdP N u v B)) az) ?_)
 obtain⟨f,g,h⟩:=bnd h
 refine sq (gr fol [3] (kM (kAZ (kAs E [(6,vl encI f.1)]))) (ac (cv (qaN N u E g)) az) ?_)
 obtain⟨c,i,h⟩:=bnd h
 refine sq (gr fol [3] (kM [(6,vl encI f.1),(8,vl encI c.1)]) (ac (cv (qaN N v E i)) az) ?_)
 obtain⟨F,j,h⟩:=bnd h
 obtain⟨b,k,h⟩:=bnd h
 refine sq (gr fol [3,4] [(8,vl encI c.1),(10,.str b)] (ac (cv (zU N y f.1 j)) (ac (cv (qcG N F k)) az)) ?_)
 refine sq ?_
 refine sq ?_
 obtain⟨G,a,h⟩:=bnd h
 refine Goes.cut (s':=(ofG 57 [(8,vl encI c.1),(10,.str b),(49,.bool G)],(kK y u D v []))) ?_ ?_
 ·rcases wyD a with⟨o,a⟩|⟨o,a⟩
  ·obtain⟨H,e,a⟩:=bnd a
   obtain rfl:=si a
   exact tr fol [3,5,6] [(8,vl encI c.1),(10,.str b),(49,.bool (decide (H=1)))] (ac (gw o) (ac (iv jR encI e) (ac (lv 0 ce3 encI e rfl) az)))
  obtain rfl:=si a
  exact tr fol [3] [(8,vl encI c.1),(10,.str b),(49,.bool false)] (ac (gw o) az)
 refine ihB h (fun I h=>?_) (fun I h=>?_)
 ·refine sh fol (kBG b) ?_
  refine Goes.ret ?_
  obtain rfl:=si h
  exact(gw2 [.str b] (Ua tS))
 refine Goes.skip ?_
 obtain⟨C,p,h⟩:=bnd h
 obtain⟨J,q,h⟩:=bnd h
 obtain⟨K,r,h⟩:=bnd h
 obtain⟨s,t,h⟩:=bnd h
 refine sq (gr fol [1,3,4,5] (kBG s) (ac (hs (.done (.opt (qY ZT .add 9 (.tmp 51) (.const (.string ⟨#[47]⟩)) (.str b) (.str [47]))) (.str C)) (qaH p)) (ac (cv (zU N false c.1 q)) (ac (cv (qcG N J r)) (ac (hs (.done (.opt (qY ZT .add 9 (.tmp 52) (.tmp 55) (.str C) (.str K))) (.str s)) (qaH t)) az)))) ?_)
 refine Goes.ret ?_
 obtain rfl:=si h
 exact(gw2 [.str s] (Ua tS))
def jO:Nat->Int->Int->Option Int
 |0,_,_=>none
 |K+1,b,a=>
  if a>0 then
  (qeb .i64 b a).bind fun c=>
  jO K a c
  else
  some b
def qda (N:Nat) (a:Int) (b:Int):Option Int:=
 (jO N a b).bind fun c=>
 some c
theorem qjl (N:Nat) (a:Int) (b:Int) {res:Int} (h:qda N a b=some res):qb ZT (.fn 144) [.i a,.i b] [] (.i res) []:=by
 unfold qda at h
 refine Ub Tryz.func144 rfl rfl (m:=12) rfl (rs:=[.tmp 4]) rfl (l:=(kAO a b [])) rfl ?_
 refine sh fol (kAO a b []) ?_
 refine sq (Goes.block ?_)
 obtain⟨j,g4,h⟩:=bnd h
 refine Goes.imp (Q:=fun x s'=>(x= .exit 0/\ ∃d,d=j/\Sub s' (ofG 12 [(0,.i d)],[]))) ?_ ?_
 ·refine Uc (fun M s=> ∃(e:Int) (c:Int),s=(ofG 12 (kAO e c []),[])/\jO M e c=some j) ?_ (m:=N) ⟨_,_,rfl,g4⟩
  rintro M s ⟨e,c,rfl,g4⟩
  cases M with
  |zero=>simp only[jO]at g4;cases g4
  |succ M=>
   rw[jO]at g4
   refine sq ?_
   refine sh fol (kAO e c (kA0 (decide (c>0)))) ?_
   refine ihD g4 (fun k g4=>?_) (fun k g4=>?_)
   ·refine Goes.skip ?_
    refine Goes.block ?_
    obtain⟨g,f,g4⟩:=bnd g4
    refine gr fol [3] (kAO c g []) (ac (hs (.done (.opt (qY ZT .rem 3 (.tmp 8) (.tmp 9) (.i e) (.i c))) (.i g)) (qfp f)) az) ?_
    exact⟨M,(ofG 12 (kAO c g []),[]),Nat.lt_succ_self _,(Sub.refl _),_,_,rfl,g4⟩
   refine Goes.exit ?_
   obtain rfl:=si g4
   exact⟨rfl,_,rfl,(Sub.keep [0] rfl rfl)⟩
 rintro x s' ⟨rfl,d,rfl,hsub⟩
 refine Goes.sub hsub ?_
 refine sh fol (kBU d) ?_
 refine Goes.ret ?_
 obtain rfl:=si h
 exact(gw2 [.i d] (Ua tI))
def qea (N:Nat) (num:Int) (den:Int):Option Str:=
 (if num<(-4000000000000000000)then
 some true
 else
 if num>4000000000000000000 then
 some true
 else
 if den<(-4000000000000000000)then
 some true
 else
 some (decide (den>4000000000000000000)):Option Bool).bind fun m=>
 if m=true then
 (vS N num).bind fun n=>
 (vS N den).bind fun o=>
 (y7 N n o).bind fun p=>
 some p
 else
 ((if den<0 then
 some (w64 (0-num),w64 (0-den))
 else
 some (num,den):Option (Int×Int))).bind fun(a,c)=>
 (qda N (if(w64 (0-a))>a then(w64 (0-a))else a) c).bind fun d=>
 (qci .i64 a d).bind fun b=>
 (qci .i64 c d).bind fun e=>
 ((if b<0 then
 some [45]
 else
 some []:Option Str)).bind fun g=>
 (zB N (if(w64 (0-b))>b then(w64 (0-b))else b) 1).bind fun h=>
 (cat g h).bind fun f=>
 ((if e>1 then
 (cat f [47]).bind fun i=>
 (zB N e 1).bind fun j=>
 (cat i j).bind fun k=>
 some k
 else
 some f:Option Str)).bind fun l=>
 some l
theorem qj9 (N:Nat) (num:Int) (den:Int) {res:Str} (h:qea N num den=some res):qb ZT (.fn 76) [.i num,.i den] [] (.str res) []:=by
 unfold qea at h
 refine Ub Tryz.func76 rfl rfl (m:=61) rfl (rs:=[.tmp 4]) rfl (l:=(kAO num den [])) rfl ?_
 refine sh fol (kAO num den []) ?_
 refine sq ?_
 refine sq ?_
 obtain⟨O,a,h⟩:=bnd h
 refine Goes.cut (s':=(ofG 61 (kAO num den [(20,.bool O)]),[])) ?_ ?_
 ·rcases wyD a with⟨v,a⟩|⟨v,a⟩
  ·obtain rfl:=si a
   exact tr fol [2] (kAO num den [(20,.bool true)]) (ac (gw v) az)
  rcases wyD a with⟨C,a⟩|⟨C,a⟩
  ·obtain rfl:=si a
   exact tr fol [2,6] (kAO num den [(20,.bool true)]) (ac (gw v) (ac (gw C) az))
  rcases wyD a with⟨D,a⟩|⟨D,a⟩
  ·obtain rfl:=si a
   exact tr fol [2,6,10] (kAO num den [(20,.bool true)]) (ac (gw v) (ac (gw C) (ac (gw D) az)))
  obtain rfl:=si a
  exact tr fol [2,6,10] (kAO num den [(20,.bool (decide (den>4000000000000000000)))]) (ac (gw v) (ac (gw C) (ac (gw D) az)))
 refine ihB h (fun P h=>?_) (fun P h=>?_)
 ·obtain⟨U,w,h⟩:=bnd h
  obtain⟨V,y,h⟩:=bnd h
  obtain⟨M,z,h⟩:=bnd h
  refine sq (gr fol [1,3,4] (kBG M) (ac (cv (qbe N num w)) (ac (cv (qbe N den y)) (ac (cv (qcB N U V z)) az))) ?_)
  refine Goes.ret ?_
  obtain rfl:=si h
  exact(gw2 [.str M] (Ua tS))
 refine Goes.skip ?_
 refine sq ?_
 refine sh fol (kAO num den [(27,.bool (decide (den<0)))]) ?_
 obtain⟨E,g12,h⟩:=bnd h
 refine Goes.imp (Q:=fun x s'=>(x= .normal/\ ∃d e,(d,e)=E/\Sub s' (ofG 61 (kAO d e []),[]))) ?_ ?_
 ·refine ihD g12 (fun F g12=>?_) (fun F g12=>?_)
  ·refine gh fol (kAO (w64 (0-num)) (w64 (0-den)) []) ?_
   obtain rfl:=si g12
   exact⟨rfl,_,_,rfl,(Sub.refl _)⟩
  refine Goes.skip ?_
  obtain rfl:=si g12
  exact⟨rfl,_,_,rfl,(Sub.keep [0,1] rfl rfl)⟩
 rintro x s' ⟨rfl,d,e,rfl,hsub⟩
 try dsimp only at h
 refine Goes.sub hsub ?_
 obtain⟨k,n,h⟩:=bnd h
 refine sq (gr fol [5] (kAO d e (kAm k)) (ac (cv (qjl N (if(w64 (0-d))>d then(w64 (0-d))else d) e n)) az) ?_)
 obtain⟨b,o,h⟩:=bnd h
 obtain⟨c,p,h⟩:=bnd h
 refine sq (gr fol [2,5] (kAO b c []) (ac (hs (.done (.opt (qY ZT .quo 3 (.tmp 38) (.tmp 39) (.i d) (.i k))) (.i b)) (qbR o)) (ac (hs (.done (.opt (qY ZT .quo 3 (.tmp 41) (.tmp 42) (.i e) (.i k))) (.i c)) (qbR p)) az)) ?_)
 refine sh fol (kAO b c [(6,.str [])]) ?_
 refine sq ?_
 refine sh fol (kAO b c [(6,.str []),(45,.bool (decide (b<0)))]) ?_
 obtain⟨G,g18,h⟩:=bnd h
 refine Goes.imp (Q:=fun x s'=>(x= .normal/\ ∃g,g=G/\Sub s' (ofG 61 (kAO b c [(6,.str g)]),[]))) ?_ ?_
 ·refine ihD g18 (fun H g18=>?_) (fun H g18=>?_)
  ·refine gh fol (kAO b c [(6,.str [45])]) ?_
   obtain rfl:=si g18
   exact⟨rfl,_,rfl,(Sub.refl _)⟩
  refine Goes.skip ?_
  obtain rfl:=si g18
  exact⟨rfl,_,rfl,(Sub.keep [0,1,6] rfl rfl)⟩
 rintro x s' ⟨rfl,g,rfl,hsub⟩
 refine Goes.sub hsub ?_
 obtain⟨I,q,h⟩:=bnd h
 obtain⟨j,r,h⟩:=bnd h
 refine sq (gr fol [5,6] [(1,.i c),(6,.str j)] (ac (cv (qay N (if(w64 (0-b))>b then(w64 (0-b))else b) 1 q)) (ac (hs (.done (.opt (qY ZT .add 9 (.tmp 46) (.tmp 51) (.str g) (.str I))) (.str j)) (qaH r)) az)) ?_)
 refine sq ?_
 refine sh fol [(1,.i c),(6,.str j),(54,.bool (decide (c>1)))] ?_
 obtain⟨J,g23,h⟩:=bnd h
 refine Goes.imp (Q:=fun x s'=>(x= .normal/\ ∃f,f=J/\Sub s' (ofG 61 [(6,.str f)],[]))) ?_ ?_
 ·refine ihD g23 (fun K g23=>?_) (fun K g23=>?_)
  ·obtain⟨A,s,g23⟩:=bnd g23
   obtain⟨L,t,g23⟩:=bnd g23
   obtain⟨B,u,g23⟩:=bnd g23
   refine gr fol [1,3,4] [(6,.str B)] (ac (hs (.done (.opt (qY ZT .add 9 (.tmp 55) (.const (.string ⟨#[47]⟩)) (.str j) (.str [47]))) (.str A)) (qaH s)) (ac (cv (qay N c 1 t)) (ac (hs (.done (.opt (qY ZT .add 9 (.tmp 56) (.tmp 58) (.str A) (.str L))) (.str B)) (qaH u)) az))) ?_
   obtain rfl:=si g23
   exact⟨rfl,_,rfl,(Sub.refl _)⟩
  refine Goes.skip ?_
  obtain rfl:=si g23
  exact⟨rfl,_,rfl,(Sub.keep [6] rfl rfl)⟩
 rintro x s' ⟨rfl,f,rfl,hsub⟩
 refine Goes.sub hsub ?_
 refine sh fol (kBG f) ?_
 refine Goes.ret ?_
 obtain rfl:=si h
 exact(gw2 [.str f] (Ua tS))
def yE (N:Nat) (a:Str):Option (Int×Int×Bool):=
 if(a.length:Int)>20 then
 some (0,0,false)
 else
 (if(a.length:Int)>0 then
 (idx a 0).bind fun l=>
 some (decide ((l.toNat:Int)=45))
 else
 some false:Option Bool).bind fun k=>
 ((if k=true then
 (cut a 1 (a.length:Int)).bind fun m=>
 some m
 else
 some a:Option Str)).bind fun c=>
 (yD N c).bind fun b=>
 (if b>9 then
 some true
 else
 some (decide ((w64 ((c.length:Int)-b))>10)):Option Bool).bind fun e=>
 if e=true then
 some (0,0,false)
 else
 (cut c 0 b).bind fun f=>
 (xq N f).bind fun d=>
 ((if b<(c.length:Int)then
 (cut c (w64 (b+1)) (c.length:Int)).bind fun g=>
 (xq N g).bind fun h=>
 some h
 else
 some 1:Option Int)).bind fun i=>
 ((if k=true then
 some (w64 (0-d))
 else
 some d:Option Int)).bind fun j=>
 some (j,i,true)
theorem qei (N:Nat) (a:Str) {res:Int×Int×Bool} (h:yE N a=some res):qb ZT (.fn 84) [.str a] [] (.tuple [.i res.1,.i res.2.1,.bool res.2.2]) []:=by
 unfold yE at h
 refine Ub Tryz.func84 rfl rfl (m:=54) rfl (rs:=[.tmp 2,.tmp 3,.tmp 4]) rfl (l:=(kAH a)) rfl ?_
 refine sh fol (kAH a) ?_
 refine sh fol [(5,.str a)] ?_
 refine sq ?_
 refine sh fol ((5,.str a)::(kBE (decide ((a.length:Int)>20)))) ?_
 refine ihD h (fun I h=>?_) (fun I h=>?_)
 ·refine sh fol ((2,.i 0)::(3,.i 0)::kAp) ?_
  refine Goes.ret ?_
  obtain rfl:=si h
  exact(gw2 [.i 0,.i 0,.bool false] (FzW.tuple (qc.cons (Ua tI) (qc.cons (Ua tI) (qc.cons (Ua tB) qc.nil)))))
 refine Goes.skip ?_
 refine sq ?_
 obtain⟨f,c,h⟩:=bnd h
 refine Goes.cut (s':=(ofG 54 ((5,.str a)::(kA0 f)),[])) ?_ ?_
 ·rcases wyD c with⟨y,c⟩|⟨y,c⟩
  ·obtain⟨G,t,c⟩:=bnd c
   obtain rfl:=si c
   exact tr fol [3,5] ((5,.str a)::(kA0 (decide ((G.toNat:Int)=45)))) (ac (gw y) (ac (hs (.done (.opt (yu ZT 9 (.str a) (.i 0))) (.int .u8 (G.toNat:Int))) (qaD st9 t)) az))
  obtain rfl:=si c
  exact tr fol [3] ((5,.str a)::kAR) (ac (gw y) az)
 refine sq ?_
 refine sh fol [(5,.str a),(6,.bool f),(22,.bool f)] ?_
 obtain⟨J,g7,h⟩:=bnd h
 refine Goes.imp (Q:=fun x s'=>(x= .normal/\ ∃g,g=J/\Sub s' (ofG 54 ((5,.str g)::(kA0 f)),[]))) ?_ ?_
 ·refine ihB g7 (fun K g7=>?_) (fun K g7=>?_)
  ·obtain⟨H,u,g7⟩:=bnd g7
   refine gr fol [1] ((5,.str H)::(kA0 f)) (ac (hs (.done (.opt (qQ ZT 9 (.str a) (some (.i 1)) none none)) (.str H)) (zZ st9 (some 1) none u)) az) ?_
   obtain rfl:=si g7
   exact⟨rfl,_,rfl,(Sub.refl _)⟩
  refine Goes.skip ?_
  obtain rfl:=si g7
  exact⟨rfl,_,rfl,(Sub.keep [5,6] rfl rfl)⟩
 rintro x s' ⟨rfl,g,rfl,hsub⟩
 refine Goes.sub hsub ?_
 obtain⟨b,n,h⟩:=bnd h
 refine sq (gr fol [1] [(5,.str g),(6,.bool f),(7,.i b)] (ac (cv (qai N g n)) az) ?_)
 refine sq ?_
 refine sq ?_
 obtain⟨z,d,h⟩:=bnd h
 refine Goes.cut (s':=(ofG 54 [(5,.str g),(6,.bool f),(7,.i b),(35,.bool z)],[])) ?_ ?_
 ·rcases wyD d with⟨o,d⟩|⟨o,d⟩
  ·obtain rfl:=si d
   exact tr fol [2] [(5,.str g),(6,.bool f),(7,.i b),(35,.bool true)] (ac (gw o) az)
  obtain rfl:=si d
  exact tr fol [2] [(5,.str g),(6,.bool f),(7,.i b),(35,.bool (decide ((w64 ((g.length:Int)-b))>10)))] (ac (gw o) az)
 refine ihB h (fun A h=>?_) (fun A h=>?_)
 ·refine sh fol ((2,.i 0)::(3,.i 0)::kAp) ?_
  refine Goes.ret ?_
  obtain rfl:=si h
  exact(gw2 [.i 0,.i 0,.bool false] (FzW.tuple (qc.cons (Ua tI) (qc.cons (Ua tI) (qc.cons (Ua tB) qc.nil)))))
 refine Goes.skip ?_
 obtain⟨v,p,h⟩:=bnd h
 obtain⟨j,q,h⟩:=bnd h
 refine sq (gr fol [2,3] [(5,.str g),(6,.bool f),(7,.i b),(8,.i j),(9,.i 1)] (ac (hs (.done (.opt (qQ ZT 9 (.str g) none (some (.i b)) none)) (.str v)) (zZ st9 none (some b) p)) (ac (cv (qaX N v q)) az)) ?_)
 refine sq ?_
 refine sh fol [(5,.str g),(6,.bool f),(7,.i b),(8,.i j),(9,.i 1),(43,.bool (decide (b<(g.length:Int))))] ?_
 obtain⟨B,g18,h⟩:=bnd h
 refine Goes.imp (Q:=fun x s'=>(x= .normal/\ ∃e,e=B/\Sub s' (ofG 54 ((6,.bool f)::(kA2 j e [])),[]))) ?_ ?_
 ·refine ihD g18 (fun C g18=>?_) (fun C g18=>?_)
  ·obtain⟨w,r,g18⟩:=bnd g18
   obtain⟨D,s,g18⟩:=bnd g18
   refine gr fol [3,4] ((6,.bool f)::(kA2 j D [])) (ac (hs (.done (.opt (qQ ZT 9 (.str g) (some (.i (w64 (b+1)))) none none)) (.str w)) (zZ st9 (some (w64 (b+1))) none r)) (ac (cv (qaX N w s)) az)) ?_
   obtain rfl:=si g18
   exact⟨rfl,_,rfl,(Sub.refl _)⟩
  refine Goes.skip ?_
  obtain rfl:=si g18
  exact⟨rfl,_,rfl,(Sub.keep [6,8,9] rfl rfl)⟩
 rintro x s' ⟨rfl,e,rfl,hsub⟩
 refine Goes.sub hsub ?_
 refine sq ?_
 refine sh fol (kA2 j e [(49,.bool f)]) ?_
 obtain⟨E,g23,h⟩:=bnd h
 refine Goes.imp (Q:=fun x s'=>(x= .normal/\ ∃k,k=E/\Sub s' (ofG 54 (kA2 k e []),[]))) ?_ ?_
 ·refine ihB g23 (fun F g23=>?_) (fun F g23=>?_)
  ·refine gh fol (kA2 (w64 (0-j)) e []) ?_
   obtain rfl:=si g23
   exact⟨rfl,_,rfl,(Sub.refl _)⟩
  refine Goes.skip ?_
  obtain rfl:=si g23
  exact⟨rfl,_,rfl,(Sub.keep [8,9] rfl rfl)⟩
 rintro x s' ⟨rfl,k,rfl,hsub⟩
 refine Goes.sub hsub ?_
 refine sh fol [(2,.i k),(3,.i e),(4,.bool true)] ?_
 refine Goes.ret ?_
 obtain rfl:=si h
 exact(gw2 [.i k,.i e,.bool true] (FzW.tuple (qc.cons (Ua tI) (qc.cons (Ua tI) (qc.cons (Ua tB) qc.nil)))))
def qaq (N:Nat) (a:qD) (b:qD):Option qD:=
 (vH N a.w b.w).bind fun c=>
 (zG N (!(a.neg==b.neg)) c).bind fun d=>
 some d
theorem qcd (N:Nat) (a:qD) (b:qD) {res:qD} (h:qaq N a b=some res):qb ZT (.fn 86) (kAl a.neg a.w b.neg b.w) [] (.agg (kAf res.neg res.w)) []:=by
 unfold qaq at h
 refine Ub Tryz.func86 rfl rfl (m:=16) rfl (rs:=[.cell 4 116]) rfl (l:=(kBT a.neg a.w b.neg b.w)) rfl ?_
 refine sg fol (kE []) (kK a.neg a.w b.neg b.w (kN [])) ?_
 obtain⟨f,c,h⟩:=bnd h
 obtain⟨e,d,h⟩:=bnd h
 refine sq (gq fol [9,10] (kAS []) (kK a.neg a.w b.neg b.w (kAL e.neg e.w [])) (ac (cv (qaT N a.w b.w c)) (ac (cv (zU N (!(a.neg==b.neg)) f d)) az)) ?_)
 refine Goes.ret ?_
 obtain rfl:=si h
 exact(gw2 [.agg (kAf e.neg e.w)] (FzW.agg (qc.cons (Ua tB) (qc.cons (Ua (qw encI _ (nl rfl))) qc.nil))))
def qcU (a:Str):Option Str:=
 (yh a).bind fun b=>
 if b<0 then
 (cut a 1 (a.length:Int)).bind fun c=>
 some c
 else
 some a
theorem qfO (a:Str) {res:Str} (h:qcU a=some res):qb ZT (.fn 93) [.str a] [] (.str res) []:=by
 unfold qcU at h
 refine Ub Tryz.func93 rfl rfl (m:=9) rfl (rs:=[.tmp 2]) rfl (l:=(kAH a)) rfl ?_
 refine sh fol (kAH a) ?_
 refine sq ?_
 obtain⟨e,b,h⟩:=bnd h
 refine sq (gr fol [1] (kA5 a (kBh (decide (e<0)))) (ac (cv (xN a b)) az) ?_)
 refine ihD h (fun f h=>?_) (fun f h=>?_)
 ·obtain⟨d,c,h⟩:=bnd h
  refine sq (gr fol [1] (kBH d) (ac (hs (.done (.opt (qQ ZT 22 (.str a) (some (.i 1)) none none)) (.str d)) (zZ qk1 (some 1) none c)) az) ?_)
  refine Goes.ret ?_
  obtain rfl:=si h
  exact(gw2 [.str d] (Ua tS))
 refine Goes.skip ?_
 refine sh fol (kBH a) ?_
 refine Goes.ret ?_
 obtain rfl:=si h
 exact(gw2 [.str a] (Ua tS))
def qc7 (N:Nat) (a:Str):Option Str:=
 (yD N a).bind fun b=>
 (cut a 0 b).bind fun c=>
 some c
theorem qfA (N:Nat) (a:Str) {res:Str} (h:qc7 N a=some res):qb ZT (.fn 94) [.str a] [] (.str res) []:=by
 unfold qc7 at h
 refine Ub Tryz.func94 rfl rfl (m:=7) rfl (rs:=[.tmp 2]) rfl (l:=(kAH a)) rfl ?_
 refine sh fol (kAH a) ?_
 obtain⟨e,b,h⟩:=bnd h
 obtain⟨d,c,h⟩:=bnd h
 refine sq (gr fol [2,3] (kBH d) (ac (cv (qai N a b)) (ac (hs (.done (.opt (qQ ZT 22 (.str a) none (some (.i e)) none)) (.str d)) (zZ qk1 none (some e) c)) az)) ?_)
 refine Goes.ret ?_
 obtain rfl:=si h
 exact(gw2 [.str d] (Ua tS))
def qcT (N:Nat) (a:Str):Option Str:=
 (yD N a).bind fun b=>
 if b=(a.length:Int)then
 some [49]
 else
 (cut a (w64 (b+1)) (a.length:Int)).bind fun c=>
 some c
theorem qiV (N:Nat) (a:Str) {res:Str} (h:qcT N a=some res):qb ZT (.fn 95) [.str a] [] (.str res) []:=by
 unfold qcT at h
 refine Ub Tryz.func95 rfl rfl (m:=14) rfl (rs:=[.tmp 2]) rfl (l:=(kAH a)) rfl ?_
 refine sh fol (kAH a) ?_
 obtain⟨b,c,h⟩:=bnd h
 refine sq (gr fol [1] (kAF a b []) (ac (cv (qai N a c)) az) ?_)
 refine sq ?_
 refine sh fol (kAF a b [(9,.bool (decide (b=(a.length:Int))))]) ?_
 refine ihD h (fun f h=>?_) (fun f h=>?_)
 ·refine sh fol [(2,.str [49])] ?_
  refine Goes.ret ?_
  obtain rfl:=si h
  exact(gw2 [.str [49]] (Ua tS))
 refine Goes.skip ?_
 obtain⟨e,d,h⟩:=bnd h
 refine sq (gr fol [3] (kBH e) (ac (hs (.done (.opt (qQ ZT 22 (.str a) (some (.i (w64 (b+1)))) none none)) (.str e)) (zZ qk1 (some (w64 (b+1))) none d)) az) ?_)
 refine Goes.ret ?_
 obtain rfl:=si h
 exact(gw2 [.str e] (Ua tS))
def qae (N:Nat) (a:Str):Option Int:=
 (qap N a).bind fun b=>
 (if b=0 then
 (yh a).bind fun c=>
 some (decide (c<0))
 else
 some false:Option Bool).bind fun d=>
 ((if d=true then
 some 3
 else
 some b:Option Int)).bind fun e=>
 some e
theorem qff (N:Nat) (a:Str) {res:Int} (h:qae N a=some res):qb ZT (.fn 31) [.str a] [] (.i res) []:=by
 unfold qae at h
 refine Ub Tryz.func31 rfl rfl (m:=14) rfl (rs:=[.tmp 2]) rfl (l:=(kAH a)) rfl ?_
 refine sh fol (kAH a) ?_
 obtain⟨f,c,h⟩:=bnd h
 refine sq (gr fol [1] (kAF a f []) (ac (cv (qan N a c)) az) ?_)
 refine sq ?_
 refine sq ?_
 obtain⟨j,b,h⟩:=bnd h
 refine Goes.cut (s':=(ofG 14 ((3,.i f)::(kA1 j)),[])) ?_ ?_
 ·rcases wyD b with⟨g,b⟩|⟨g,b⟩
  ·obtain⟨k,d,b⟩:=bnd b
   obtain rfl:=si b
   exact tr fol [2,4] ((3,.i f)::(kA1 (decide (k<0)))) (ac (gw g) (ac (cv (xN a d)) az))
  obtain rfl:=si b
  exact tr fol [2] [(3,.i f),(12,.bool false)] (ac (gw g) az)
 obtain⟨n,g7,h⟩:=bnd h
 refine Goes.imp (Q:=fun x s'=>(x= .normal/\ ∃e,e=n/\Sub s' (ofG 14 [(3,.i e)],[]))) ?_ ?_
 ·refine ihB g7 (fun o g7=>?_) (fun o g7=>?_)
  ·refine gh fol [(3,.i 3)] ?_
   obtain rfl:=si g7
   exact⟨rfl,_,rfl,(Sub.refl _)⟩
  refine Goes.skip ?_
  obtain rfl:=si g7
  exact⟨rfl,_,rfl,(Sub.keep [3] rfl rfl)⟩
 rintro x s' ⟨rfl,e,rfl,hsub⟩
 refine Goes.sub hsub ?_
 refine sh fol (kA3 e) ?_
 refine Goes.ret ?_
 obtain rfl:=si h
 exact(gw2 [.i e] (Ua tI))
def xZ (a:List Int) (i:Int):Option Int:=
 if i<(a.length:Int)then
 (idx a i).bind fun b=>
 some b
 else
 some 0
theorem qb5 (a:List Int) (i:Int) {res:Int} (h:xZ a i=some res):qb ZT (.fn 256) [vl encI a,.i i] [] (.i res) []:=by
 unfold xZ at h
 refine Ub Tryz.func256 rfl rfl (m:=13) rfl (rs:=[.tmp 4]) rfl (l:=(kAi a [(1,.i i)])) rfl ?_
 refine sh fol (kAi a [(1,.i i)]) ?_
 refine sq ?_
 refine sh fol (kAi a ((1,.i i)::(kBa (decide (i<(a.length:Int)))))) ?_
 refine ihD h (fun d h=>?_) (fun d h=>?_)
 ·obtain⟨c,b,h⟩:=bnd h
  refine sq (gr fol [2,3] (kBU c) (ac (iv jR encI b) (ac (lv 0 ce3 encI b rfl) az)) ?_)
  refine Goes.ret ?_
  obtain rfl:=si h
  exact(gw2 [.i c] (Ua tI))
 refine Goes.skip ?_
 refine sh fol kBc ?_
 refine Goes.ret ?_
 obtain rfl:=si h
 exact(gw2 [.i 0] (Ua tI))
def zu (a:List Int) (b:List Int):Nat->(List Int)->Int->Int->Option (List Int)
 |0,_,_,_=>none
 |K+1,h,f,c=>
  (if c<(a.length:Int)then
  some true
  else
  if c<(b.length:Int)then
  some true
  else
  some (decide (f>0)):Option Bool).bind fun i=>
  if i=true then
  (xZ a c).bind fun d=>
  (xZ b c).bind fun e=>
  (app 8 h [(w64 ((w64 (d+e))+f)).tmod 1000000000]).bind fun g=>
  zu a b K g (w64 ((w64 ((w64 (d+e))+f)).tdiv 1000000000)) (w64 (c+1))
  else
  some h
def xE (N:Nat) (a:List Int) (b:List Int):Option (List Int):=
 (zu a b N ([]:List Int) 0 0).bind fun c=>
 some c
theorem qfc (N:Nat) (a:List Int) (b:List Int) {res:List Int} (h:xE N a b=some res):qb ZT (.fn 207) (kBO a b) [] (vl encI res) []:=by
 unfold xE at h
 refine Ub Tryz.func207 rfl rfl (m:=42) rfl (rs:=[.tmp 4]) rfl (l:=(kH a b [])) rfl ?_
 refine sh fol (kH a b []) ?_
 refine sh fol (kH a b [(5,.nilslice)]) ?_
 refine sh fol (kH a b [(5,.nilslice),(6,.i 0)]) ?_
 refine sq ?_
 refine sh fol (kH a b [(5,.nilslice),(6,.i 0),(7,.i 0)]) ?_
 refine Goes.block ?_
 obtain⟨v,g5,h⟩:=bnd h
 refine Goes.imp (Q:=fun x s'=>(x= .exit 0/\ ∃q,q=v/\Sub s' (ofG 42 (kAX q []),(kC q [])))) ?_ ?_
 ·refine Goes.sub (s':=(ofG 42 (kH a b [(5,.gslice 0 ([]:List Int).length 1),(6,.i 0),(7,.i 0)]),kBJ)) (Sub.norm [] [none] rfl rfl (.keep (.same (qd encI _)) (.keep (.same (qd encI _)) (.keep .nil (.keep (.same nI) (.keep (.same nI) .nil))))) (.fresh .nil)) ?_
  refine Uc (fun M s=> ∃(k:List Int) (f:Int) (j:Int),s=(ofG 42 (kH a b (kAX k (kAA f j []))),(kC k []))/\zu a b M k f j=some v) ?_ (m:=N) ⟨_,_,_,rfl,g5⟩
  rintro M s ⟨k,f,j,rfl,g5⟩
  cases M with
  |zero=>simp only[zu]at g5;cases g5
  |succ M=>
   rw[zu]at g5
   refine sq ?_
   refine sq ?_
   obtain⟨w,c,g5⟩:=bnd g5
   refine Goes.cut (s':=(ofG 42 (kH a b (kAX k (kAA f j [(22,.bool w)]))),(kC k []))) ?_ ?_
   ·rcases wyD c with⟨r,c⟩|⟨r,c⟩
    ·obtain rfl:=si c
     exact tr fol [4] (kH a b (kAX k (kAA f j [(22,.bool true)]))) (ac (gw r) az)
    rcases wyD c with⟨t,c⟩|⟨t,c⟩
    ·obtain rfl:=si c
     exact tr fol [4,10] (kH a b (kAX k (kAA f j [(22,.bool true)]))) (ac (gw r) (ac (gw t) az))
    obtain rfl:=si c
    exact tr fol [4,10] (kH a b (kAX k (kAA f j [(22,.bool (decide (f>0)))]))) (ac (gw r) (ac (gw t) az))
   refine ihB g5 (fun u g5=>?_) (fun u g5=>?_)
   ·refine Goes.skip ?_
    refine sq (Goes.block ?_)
    obtain⟨d,n,g5⟩:=bnd g5
    obtain⟨e,o,g5⟩:=bnd g5
    refine sq (gr fol [2,5] (kH a b (kAX k (kBP j (w64 ((w64 (d+e))+f))))) (ac (cv (qb5 a j n)) (ac (cv (qb5 b j o)) az)) ?_)
    obtain⟨g,p,g5⟩:=bnd g5
    refine sq (gq fol [4] (kH a b ((5,.gslice 2 g.length 1)::(kBP j (w64 ((w64 (d+e))+f))))) (kBN ((w64 ((w64 (d+e))+f)).tmod 1000000000) (kC g [])) (ac (hs (.run [0,1] (xU ZT [87,87] (.gslice 0 k.length 1) (.slice 1 0 1 1 1)) (kC k [.cells [.i ((w64 ((w64 (d+e))+f)).tmod 1000000000)]]) (.gslice 2 g.length 1) (kBN ((w64 ((w64 (d+e))+f)).tmod 1000000000) (kC g [])) true) (qcy jR (E:=encI) rfl (qht (E:=encI) (ys:=[(w64 ((w64 (d+e))+f)).tmod 1000000000]) rfl rfl rfl rfl) (qiq (E:=encI) (l:=k) rfl rfl rfl p rfl))) az) ?_)
    refine gh fol (kH a b ((5,.gslice 2 g.length 1)::(kAA (w64 ((w64 ((w64 (d+e))+f)).tdiv 1000000000)) j []))) ?_
    refine gh fol (kH a b ((5,.gslice 2 g.length 1)::(kAA (w64 ((w64 ((w64 (d+e))+f)).tdiv 1000000000)) (w64 (j+1)) []))) ?_
    exact⟨M,(ofG 42 (kH a b (kAX g (kAA (w64 ((w64 ((w64 (d+e))+f)).tdiv 1000000000)) (w64 (j+1)) []))),(kC g [])),Nat.lt_succ_self _,(Sub.norm [] [some 2] rfl rfl (.keep (.same (qd encI _)) (.keep (.same (qd encI _)) (.keep (.gslice rfl) (.keep (.same nI) (.keep (.same nI) .nil))))) (.ks .nil)),_,_,_,rfl,g5⟩
   refine Goes.exit ?_
   obtain rfl:=si g5
   exact⟨rfl,_,rfl,(Sub.keep [5] rfl rfl)⟩
 rintro x s' ⟨rfl,q,rfl,hsub⟩
 refine Goes.sub hsub ?_
 refine sh fol [(4,.gslice 0 q.length 1)] ?_
 refine Goes.ret ?_
 obtain rfl:=si h
 exact(gw2 [.gslice 0 q.length 1] (FzW.fz (Fz.gs (E:=encI) rfl rfl (nl rfl))))
def ko (a:List Int) (b:List Int):Nat->(List Int)->Int->Int->Option (List Int)
 |0,_,_,_=>none
 |K+1,i,d,c=>
  if c<(a.length:Int)then
  (idx a c).bind fun e=>
  (xZ b c).bind fun f=>
  ((if(w64 ((w64 (e-f))-d))<0 then
  some (1,w64 ((w64 ((w64 (e-f))-d))+1000000000))
  else
  some (0,w64 ((w64 (e-f))-d)):Option (Int×Int))).bind fun(j,g)=>
  (app 8 i [g]).bind fun h=>
  ko a b K h j (w64 (c+1))
  else
  some i
def yw (N:Nat) (a:List Int) (b:List Int):Option (List Int):=
 (ko a b N ([]:List Int) 0 0).bind fun d=>
 (yf N d).bind fun c=>
 some c
theorem qb1 (N:Nat) (a:List Int) (b:List Int) {res:List Int} (h:yw N a b=some res):qb ZT (.fn 208) (kBO a b) [] (vl encI res) []:=by
 unfold yw at h
 refine Ub Tryz.func208 rfl rfl (m:=35) rfl (rs:=[.tmp 4]) rfl (l:=(kH a b [])) rfl ?_
 refine sh fol (kH a b []) ?_
 refine sh fol (kH a b [(5,.nilslice)]) ?_
 refine sh fol (kH a b [(5,.nilslice),(6,.i 0)]) ?_
 refine sq ?_
 refine sh fol (kH a b [(5,.nilslice),(6,.i 0),(7,.i 0)]) ?_
 refine Goes.block ?_
 obtain⟨y,g5,h⟩:=bnd h
 refine Goes.imp (Q:=fun x s'=>(x= .exit 0/\ ∃j,j=y/\Sub s' (ofG 35 (kAX j []),(kC j [])))) ?_ ?_
 ·refine Goes.sub (s':=(ofG 35 (kH a b [(5,.gslice 0 ([]:List Int).length 1),(6,.i 0),(7,.i 0)]),kBJ)) (Sub.norm [] [none] rfl rfl (.keep (.same (qd encI _)) (.keep (.same (qd encI _)) (.keep .nil (.keep (.same nI) (.keep (.same nI) .nil))))) (.fresh .nil)) ?_
  refine Uc (fun M s=> ∃(c:List Int) (k:Int) (d:Int),s=(ofG 35 (kH a b (kAX c (kAA k d []))),(kC c []))/\ko a b M c k d=some y) ?_ (m:=N) ⟨_,_,_,rfl,g5⟩
  rintro M s ⟨c,k,d,rfl,g5⟩
  cases M with
  |zero=>simp only[ko]at g5;cases g5
  |succ M=>
   rw[ko]at g5
   refine sq ?_
   refine sh fol (kH a b (kAX c (kAA k d (kA1 (decide (d<(a.length:Int))))))) ?_
   refine ihD g5 (fun z g5=>?_) (fun z g5=>?_)
   ·refine Goes.skip ?_
    refine sq (Goes.block ?_)
    obtain⟨q,n,g5⟩:=bnd g5
    obtain⟨r,u,g5⟩:=bnd g5
    refine sq (gr fol [2,3,6] (kH a b (kAX c (kBP d (w64 ((w64 (q-r))-k))))) (ac (iv jR encI n) (ac (lv 0 ce3 encI n rfl) (ac (cv (qb5 b d u)) az))) ?_)
    refine sh fol (kH a b (kAX c ((6,.i 0)::(kBP d (w64 ((w64 (q-r))-k)))))) ?_
    refine sq ?_
    refine sh fol (kH a b (kAX c [(6,.i 0),(7,.i d),(8,.i (w64 ((w64 (q-r))-k))),(26,.bool (decide ((w64 ((w64 (q-r))-k))<0)))])) ?_
    obtain⟨v,g11,g5⟩:=bnd g5
    refine Goes.imp (Q:=fun x s'=>(x= .normal/\ ∃t e,(t,e)=v/\Sub s' (ofG 35 (kH a b (kAX c (kAA t d [(8,.i e)]))),(kC c [])))) ?_ ?_
    ·refine ihD g11 (fun w g11=>?_) (fun w g11=>?_)
     ·refine sh fol (kH a b (kAX c (kBP d (w64 ((w64 ((w64 (q-r))-k))+1000000000))))) ?_
      refine gh fol (kH a b (kAX c ((6,.i 1)::(kBP d (w64 ((w64 ((w64 (q-r))-k))+1000000000)))))) ?_
      obtain rfl:=si g11
      exact⟨rfl,_,_,rfl,(Sub.refl _)⟩
     refine Goes.skip ?_
     obtain rfl:=si g11
     exact⟨rfl,_,_,rfl,(Sub.keep [0,1,5,6,7,8] rfl rfl)⟩
    rintro x s' ⟨rfl,t,e,rfl,hsub⟩
    try dsimp only at g5
    refine Goes.sub hsub ?_
    obtain⟨f,o,g5⟩:=bnd g5
    refine gq fol [3] (kH a b ((5,.gslice 2 f.length 1)::(kAA t d []))) (kBN e (kC f [])) (ac (hs (.run [0,1] (xU ZT [87,87] (.gslice 0 c.length 1) (.slice 1 0 1 1 1)) (kC c [.cells [.i e]]) (.gslice 2 f.length 1) (kBN e (kC f [])) true) (qcy jR (E:=encI) rfl (qht (E:=encI) (ys:=[e]) rfl rfl rfl rfl) (qiq (E:=encI) (l:=c) rfl rfl rfl o rfl))) az) ?_
    refine gh fol (kH a b ((5,.gslice 2 f.length 1)::(kAA t (w64 (d+1)) []))) ?_
    exact⟨M,(ofG 35 (kH a b (kAX f (kAA t (w64 (d+1)) []))),(kC f [])),Nat.lt_succ_self _,(Sub.norm [] [some 2] rfl rfl (.keep (.same (qd encI _)) (.keep (.same (qd encI _)) (.keep (.gslice rfl) (.keep (.same nI) (.keep (.same nI) .nil))))) (.ks .nil)),_,_,_,rfl,g5⟩
   refine Goes.exit ?_
   obtain rfl:=si g5
   exact⟨rfl,_,rfl,(Sub.keep [5] rfl rfl)⟩
 rintro x s' ⟨rfl,j,rfl,hsub⟩
 refine Goes.sub hsub ?_
 obtain⟨g,p,h⟩:=bnd h
 refine sq (gq fol [1] [(4,vl encI g)] (kAd j) (ac (hs (.callF 205 [.gslice 0 j.length 1] (kC j []) [0] [vl encI j] (vl encI g)) (qaQ (FzL.cons (Fz.gs (E:=encI) rfl rfl (nl rfl)) FzL.nil) (yO N j p) (qw encI _ (nl rfl)))) az) ?_)
 refine Goes.sub (show Sub (ofG 35 [(4,vl encI g)],(kAd j)) (ofG 35 [(4,vl encI g)],[])from(Sub.norm [] [] rfl rfl (.keep (.same (qd encI _)) .nil) .nil)) ?_
 refine Goes.ret ?_
 obtain rfl:=si h
 exact(gw2 [vl encI g] (Ua (qw encI _ (nl rfl))))
end Go.Av
