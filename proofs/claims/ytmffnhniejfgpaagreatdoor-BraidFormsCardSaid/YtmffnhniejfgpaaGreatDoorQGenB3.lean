/-
  Walks of functions: what each computes, as a plain function.
-/
import Derived.Test.YtmffnhniejfgpaaGreatDoorQGenB2
noncomputable section
namespace Go.Av
open Go.Proofs Go.RowKit
set_option linter.unusedSectionVars false
set_option linter.unusedVariables false
set_option linter.unusedSimpArgs false
set_option maxRecDepth 100000
def qJ (b:List Int) (c:List Int):Nat->Int->Option (Unit⊕Bool)
 |0,_=>none
 |K+1,a=>
  if a<(b.length:Int)then
  (idx b a).bind fun d=>
  (idx c a).bind fun e=>
  if(!decide (d=e))=true then
  some (.inr false)
  else
  qJ b c K (w64 (a+1))
  else
  some (.inl ())
def z8 (N:Nat) (a:List Int) (b:List Int):Option Bool:=
 if(!decide ((a.length:Int)=(b.length:Int)))=true then
 some false
 else
 (qJ a b N 0).bind (fun
 |(.inl ())=>
 some true
 |(.inr c)=>
 some c)
theorem qao (N:Nat) (a:List Int) (b:List Int) {res:Bool} (h:z8 N a b=some res):qb ZT (.fn 88) (kAi a b) [] (.bool res) []:=by
 unfold z8 at h
 refine Ub Tryz.func88 rfl rfl (m:=26) rfl (rs:=[.tmp 4]) rfl (l:=(kH a (kQ b []))) rfl ?_
 refine sh fol (kH a (kQ b [])) ?_
 refine sq ?_
 refine sh fol (kH a (kQ b (kAq (!decide ((a.length:Int)=(b.length:Int)))))) ?_
 refine ihB h (fun j h=>?_) (fun j h=>?_)
 ·refine sh fol kAA ?_
  refine Goes.ret ?_
  obtain rfl:=si h
  exact(gw2 [.bool false] (Ua tB))
 refine Goes.skip ?_
 refine sq ?_
 refine sh fol (kH a (kQ b [(12,.i (a.length:Int)),(13,.i 0)])) ?_
 refine Goes.block ?_
 obtain⟨f,g3,h⟩:=bnd h
 refine Goes.imp (Q:=fun x s'=>(x= .exit 0/\(.inl ())=f/\Sub s' (ofG 26 [],[]))\/(x= .ret/\ ∃g,(.inr g)=f/\jh ZT [.tmp 4] (.bool g) .ret s')) ?_ ?_
 ·refine Uc (fun M s=> ∃(c:Int),s=(ofG 26 (kH a (kQ b (kA0 (a.length:Int) c []))),[])/\qJ a b M c=some f) ?_ (m:=N) ⟨_,rfl,g3⟩
  rintro M s ⟨c,rfl,g3⟩
  cases M with
  |zero=>simp only[qJ]at g3;cases g3
  |succ M=>
   rw[qJ]at g3
   refine sh fol (kH a (kQ b (kA0 (a.length:Int) c (kBL (decide (c<(a.length:Int))))))) ?_
   refine sq ?_
   refine ihD g3 (fun k g3=>?_) (fun k g3=>?_)
   ·refine Goes.skip ?_
    refine sq (Goes.block ?_)
    refine sh fol (kH a (kQ b ((5,.i c)::(kA0 (a.length:Int) c [])))) ?_
    obtain⟨n,d,g3⟩:=bnd g3
    obtain⟨o,e,g3⟩:=bnd g3
    refine sq (gr fol [2,3,6,7] (kH a (kQ b (kA0 (a.length:Int) c [(24,.bool (!decide (n=o)))]))) (ac (iv yo encI d) (ac (lv 0 ce3 encI d rfl) (ac (iv yo encI e) (ac (lv 0 ce3 encI e rfl) az)))) ?_)
    refine ihB g3 (fun p g3=>?_) (fun p g3=>?_)
    ·refine sh fol kAA ?_
     refine Goes.ret ?_
     obtain rfl:=si g3
     exact Or.inr (⟨rfl,_,rfl,(gw2 [.bool false] (Ua tB))⟩)
    refine Goes.skip ?_
    refine gh fol (kH a (kQ b (kA0 (a.length:Int) (w64 (c+1)) []))) ?_
    exact⟨M,(ofG 26 (kH a (kQ b (kA0 (a.length:Int) (w64 (c+1)) []))),[]),Nat.lt_succ_self _,(Sub.refl _),_,rfl,g3⟩
   refine Goes.exit ?_
   obtain rfl:=si g3
   exact Or.inl (⟨rfl,rfl,(Sub.keep [] rfl rfl)⟩)
 rintro x s' (⟨rfl,rfl,hsub⟩|⟨rfl,q,rfl,hret⟩)
 ·try dsimp only at h
  refine Goes.sub hsub ?_
  refine sh fol kA4 ?_
  refine Goes.ret ?_
  obtain rfl:=si h
  exact(gw2 [.bool true] (Ua tB))
 try dsimp only at h
 obtain rfl:=si h
 exact hret
def qA (p:List Int):Nat->(List Int)->Int->Option (List Int)
 |0,_,_=>none
 |K+1,b,a=>
  if a<(p.length:Int)then
  (idx p a).bind fun c=>
  (idx b (w64 ((w64 ((p.length:Int)-1))-a))).bind fun e=>
  (put b (w64 ((w64 ((p.length:Int)-1))-a)) (w64 ((w64 ((p.length:Int)-1))-c))).bind fun d=>
  qA p K d (w64 (a+1))
  else
  some b
def zH (N:Nat) (p:List Int):Option (List Int):=
 (mk 8 (p.length:Int) 0).bind fun a=>
 (qA p N a 0).bind fun b=>
 some b
theorem xH (N:Nat) (p:List Int) {res:List Int} (h:zH N p=some res):qb ZT (.fn 136) [vl encI p] [] (vl encI res) []:=by
 unfold zH at h
 refine Ub Tryz.func136 rfl rfl (m:=30) rfl (rs:=[.tmp 2]) rfl (l:=(kH p [])) rfl ?_
 refine sh fol (kH p []) ?_
 refine sh fol (kH p (kAy (p.length:Int))) ?_
 obtain⟨j,k,h⟩:=bnd h
 refine sq (gq fol [1] (kH p [(3,.i (p.length:Int)),(4,.slice 0 0 j.length j.length 1)]) (kA j) (ac (hs (.run [] (jH ZT 93 (.i (p.length:Int)) (.i (p.length:Int))) [] (.slice 0 0 j.length j.length 1) (kA j) false) (qdz xL (E:=encI) (z:=0) rfl (by kernel_rfl) k rfl)) az) ?_)
 refine sq ?_
 refine sh fol (kR (p.length:Int) j p [(13,.i 0)]) ?_
 refine Goes.block ?_
 obtain⟨o,g5,h⟩:=bnd h
 refine Goes.imp (Q:=fun x s'=>(x= .exit 0/\ ∃c,c=o/\Sub s' (ofG 30 [(4,.slice 0 0 c.length c.length 1)],(kA c)))) ?_ ?_
 ·refine Uc (fun M s=> ∃(b:List Int) (a:Int),s=(ofG 30 (kR (p.length:Int) b p [(13,.i a)]),(kA b))/\qA p M b a=some o) ?_ (m:=N) ⟨_,_,rfl,g5⟩
  rintro M s ⟨b,a,rfl,g5⟩
  cases M with
  |zero=>simp only[qA]at g5;cases g5
  |succ M=>
   rw[qA]at g5
   refine sh fol (kR (p.length:Int) b p ((13,.i a)::(kBL (decide (a<(p.length:Int)))))) ?_
   refine sq ?_
   refine ihD g5 (fun q g5=>?_) (fun q g5=>?_)
   ·refine Goes.skip ?_
    refine sq (Goes.block ?_)
    obtain⟨n,d,g5⟩:=bnd g5
    refine sq (gr fol [1,2] ((3,.i (p.length:Int))::(4,.slice 0 0 b.length b.length 1)::(5,.i a)::(6,.i n)::(11,vl encI p)::(kA0 (p.length:Int) a [])) (ac (iv xL encI d) (ac (lv 0 ce3 encI d rfl) az)) ?_)
    obtain⟨r,e,g5⟩:=bnd g5
    obtain⟨f,g,g5⟩:=bnd g5
    refine gq fol [9,10] (kR (p.length:Int) b p [(13,.i a)]) (kA f) (ac (hs (.done (.opt (qc ZT 93 (.slice 0 0 b.length b.length 1) (.i (w64 ((w64 ((p.length:Int)-1))-a))))) (.ptr 0 ((w64 ((w64 ((p.length:Int)-1))-a):Int).toNat*1+0))) (qbV xL e)) (ac (hs (.run [0] (jy ZT 3 (.ptr 0 ((w64 ((w64 ((p.length:Int)-1))-a):Int).toNat*1+0)) (.i (w64 ((w64 ((p.length:Int)-1))-n)))) (kA b) .undef (kA f) true) (xc (E:=encI) (l:=b) (y:=w64 ((w64 ((p.length:Int)-1))-n)) rfl (show _=some 1 by kernel_rfl) rfl e rfl rfl rfl rfl rfl g rfl)) az)) ?_
    refine Goes.sub (show Sub (ofG 30 (kR (p.length:Int) b p [(13,.i a)]),(kA f)) (ofG 30 (kR (p.length:Int) f p [(13,.i a)]),(kA f))from(Sub.norm [] [some 0] rfl rfl (.keep (.same nI) (.keep (.sliceE rfl (ve g)) (.keep (.same (qB encI _)) (.keep (.same nI) (.keep (.same nI) .nil))))) (.ks .nil))) ?_
    refine gh fol (kR (p.length:Int) f p [(13,.i (w64 (a+1)))]) ?_
    exact⟨M,(ofG 30 (kR (p.length:Int) f p [(13,.i (w64 (a+1)))]),(kA f)),Nat.lt_succ_self _,(Sub.refl _),_,_,rfl,g5⟩
   refine Goes.exit ?_
   obtain rfl:=si g5
   exact⟨rfl,_,rfl,(Sub.keep [4] rfl rfl)⟩
 rintro x s' ⟨rfl,c,rfl,hsub⟩
 refine Goes.sub hsub ?_
 refine sh fol (kA5 c) ?_
 refine Goes.ret ?_
 obtain rfl:=si h
 exact(gw2 [.slice 0 0 c.length c.length 1] (Uw (Fz.sl (E:=encI) rfl rfl (nl rfl))))
def ze (N:Nat) (p:List Int) (i:Int):Option (List Int):=
 (kz N p).bind fun a=>
 (qU a i).bind fun b=>
 (kz N b).bind fun c=>
 some c
theorem yc (N:Nat) (p:List Int) (i:Int) {res:List Int} (h:ze N p i=some res):qb ZT (.fn 137) (kAT p i) [] (vl encI res) []:=by
 unfold ze at h
 refine Ub Tryz.func137 rfl rfl (m:=10) rfl (rs:=[.tmp 4]) rfl (l:=(kH p (kAx i))) rfl ?_
 refine sh fol (kH p (kAx i)) ?_
 obtain⟨e,a,h⟩:=bnd h
 obtain⟨f,b,h⟩:=bnd h
 obtain⟨d,c,h⟩:=bnd h
 refine sq (gr fol [1,3,4] [(4,vl encI d)] (ac (cv (j5 N p a)) (ac (cv (jC e i b)) (ac (cv (j5 N f c)) az))) ?_)
 refine Goes.ret ?_
 obtain rfl:=si h
 exact(gw2 [vl encI d] (Ua (ja encI _ (nl rfl))))
end Go.Av
