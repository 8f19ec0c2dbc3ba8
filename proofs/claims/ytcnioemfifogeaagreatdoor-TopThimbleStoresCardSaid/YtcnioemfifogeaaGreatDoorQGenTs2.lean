/-
  Walks of functions: what each computes, as a plain function.
-/
import Derived.Test.YtcnioemfifogeaaGreatDoorQGenTs1
noncomputable section
namespace Go.Av
open Go.Proofs Go.RowKit
set_option linter.unusedSectionVars false
set_option linter.unusedVariables false
set_option linter.unusedSimpArgs false
set_option maxRecDepth 100000
def qiq (a:qE) (b:qg):Option Bool:=
 (qme a).bind fun c=>
 (qme b.hold).bind fun d=>
 some ((c.lot==d.lot)&&((c.order==d.order)&&true))
theorem qnf (d:qE) (c:qg) {res:Bool} (h:qiq d c=some res):zu ZT (.fn 124) (kAH d.Lot d.Order d.Reserved d.Taken [.fptr [.str c.lot.Name,.str c.lot.Yarn,.str c.lot.Dye,.i c.lot.Stock,.bool c.known,.str c.hold.Lot,.str c.hold.Order,.i c.hold.Reserved,.i c.hold.Taken,.i c.free] 0]) [] (.bool res) []:=by
 unfold qiq at h
 refine Uc Tryz.func124 rfl rfl (m:=10) rfl (rs:=[.tmp 3]) rfl (l:=[(0,.agg [.str d.Lot,.str d.Order,.i d.Reserved,.i d.Taken]),(1,.fptr [.str c.lot.Name,.str c.lot.Yarn,.str c.lot.Dye,.i c.lot.Stock,.bool c.known,.str c.hold.Lot,.str c.hold.Order,.i c.hold.Reserved,.i c.hold.Taken,.i c.free] 0)]) rfl ?_
 refine sg fol ((1,.fptr [.str c.lot.Name,.str c.lot.Yarn,.str c.lot.Dye,.i c.lot.Stock,.bool c.known,.str c.hold.Lot,.str c.hold.Order,.i c.hold.Reserved,.i c.hold.Taken,.i c.free] 0)::(kAG [])) (kL d.Lot d.Order d.Reserved d.Taken []) ?_
 obtain⟨f,j,h⟩:=bnd h
 obtain⟨g,k,h⟩:=bnd h
 refine sq (gr fol [1,4,5] (kAm ((f.lot==g.lot)&&((f.order==g.order)&&true))) (ac (cv (qpC d j)) (ac (cv (qpC c.hold k)) (ac (hs (.done (.opt (qxH ZT .eql 190 (.tmp 5) (.tmp 8) (.agg [.str f.lot,.str f.order]) (.agg [.str g.lot,.str g.order]))) (.bool ((f.lot==g.lot)&&((f.order==g.order)&&true)))) (qIV qHO (e:=((f.lot==g.lot)&&((f.order==g.order)&&true))) (.cons (a:= .str f.lot) (b:= .str g.lot) rfl (by kernel_rfl) (by kernel_rfl) (by kernel_rfl) (.cons (a:= .str f.order) (b:= .str g.order) rfl (by kernel_rfl) (by kernel_rfl) (by kernel_rfl) .nil)))) az))) ?_)
 refine Goes.ret ?_
 obtain rfl:=si h
 exact(gw2 [.bool ((f.lot==g.lot)&&((f.order==g.order)&&true))] (Ub tB))
def qdg (a:List qE) (b:qg):Nat->Int->Option (Unit⊕Int)
 |0,_=>none
 |K+1,c=>
  if c<(a.length:Int)then
  (idx a c).bind fun d=>
  (qiq d b).bind fun e=>
  if e=true then
  some (.inr c)
  else
  qdg a b K (w64 (c+1))
  else
  some (.inl ())
def qkp (N:Nat) (a:List qE) (b:qg):Option Int:=
 (qdg a b N 0).bind (fun
 |(.inl ())=>
 some (-1)
 |(.inr c)=>
 some c)
theorem qoU (N:Nat) (b:List qE) (a:qg) {res:Int} (h:qkp N b a=some res):zu ZT (.fn 174) [vl qJ b,.func (.func 124) [] [.fptr [.str a.lot.Name,.str a.lot.Yarn,.str a.lot.Dye,.i a.lot.Stock,.bool a.known,.str a.hold.Lot,.str a.hold.Order,.i a.hold.Reserved,.i a.hold.Taken,.i a.free] 0]] [] (.i res) []:=by
 unfold qkp at h
 refine Uc Tryz.func174 rfl rfl (m:=19) rfl (rs:=[.tmp 4]) rfl (l:=(kAD b [(1,.func (.func 124) [] [.fptr [.str a.lot.Name,.str a.lot.Yarn,.str a.lot.Dye,.i a.lot.Stock,.bool a.known,.str a.hold.Lot,.str a.hold.Order,.i a.hold.Reserved,.i a.hold.Taken,.i a.free] 0])])) rfl ?_
 refine sh fol (kAD b [(1,.func (.func 124) [] [.fptr [.str a.lot.Name,.str a.lot.Yarn,.str a.lot.Dye,.i a.lot.Stock,.bool a.known,.str a.hold.Lot,.str a.hold.Order,.i a.hold.Reserved,.i a.hold.Taken,.i a.free] 0])]) ?_
 refine sq ?_
 refine sh fol (kAD b ((1,.func (.func 124) [] [.fptr [.str a.lot.Name,.str a.lot.Yarn,.str a.lot.Dye,.i a.lot.Stock,.bool a.known,.str a.hold.Lot,.str a.hold.Order,.i a.hold.Reserved,.i a.hold.Taken,.i a.free] 0])::(kAn (b.length:Int)))) ?_
 refine Goes.block ?_
 obtain⟨g,g2,h⟩:=bnd h
 refine Goes.imp (Q:=fun x s'=>(x= .exit 0/\(.inl ())=g/\Sub s' (ofG 19 [],[]))\/(x= .ret/\ ∃j,(.inr j)=g/\qhA ZT [.tmp 4] (.i j) .ret s')) ?_ ?_
 ·refine Ud (fun M s=> ∃(c:Int),s=(ofG 19 (kAD b ((1,.func (.func 124) [] [.fptr [.str a.lot.Name,.str a.lot.Yarn,.str a.lot.Dye,.i a.lot.Stock,.bool a.known,.str a.hold.Lot,.str a.hold.Order,.i a.hold.Reserved,.i a.hold.Taken,.i a.free] 0])::(kY (b.length:Int) c))),[])/\qdg b a M c=some g) ?_ (m:=N) ⟨_,rfl,g2⟩
  rintro M s ⟨c,rfl,g2⟩
  cases M with
  |zero=>simp only[qdg]at g2;cases g2
  |succ M=>
   rw[qdg]at g2
   refine sh fol (kAD b ((1,.func (.func 124) [] [.fptr [.str a.lot.Name,.str a.lot.Yarn,.str a.lot.Dye,.i a.lot.Stock,.bool a.known,.str a.hold.Lot,.str a.hold.Order,.i a.hold.Reserved,.i a.hold.Taken,.i a.free] 0])::(7,.i (b.length:Int))::(kAa c (decide (c<(b.length:Int)))))) ?_
   refine sq ?_
   refine ihD g2 (fun n g2=>?_) (fun n g2=>?_)
   ·refine Goes.skip ?_
    refine sq (Goes.block ?_)
    refine sh fol (kAD b ((1,.func (.func 124) [] [.fptr [.str a.lot.Name,.str a.lot.Yarn,.str a.lot.Dye,.i a.lot.Stock,.bool a.known,.str a.hold.Lot,.str a.hold.Order,.i a.hold.Reserved,.i a.hold.Taken,.i a.free] 0])::(5,.i c)::(kY (b.length:Int) c))) ?_
    obtain⟨d,e,g2⟩:=bnd g2
    obtain⟨k,f,g2⟩:=bnd g2
    refine sq (gr fol [3,4,5] (kAD b [(1,.func (.func 124) [] [.fptr [.str a.lot.Name,.str a.lot.Yarn,.str a.lot.Dye,.i a.lot.Stock,.bool a.known,.str a.hold.Lot,.str a.hold.Order,.i a.hold.Reserved,.i a.hold.Taken,.i a.free] 0]),(5,.i c),(7,.i (b.length:Int)),(8,.i c),(16,.bool k)]) (ac (iv qtu qJ e) (ac (la qDy qJ e) (ac (hs (.call 124 (kAH d.Lot d.Order d.Reserved d.Taken [.fptr [.str a.lot.Name,.str a.lot.Yarn,.str a.lot.Dye,.i a.lot.Stock,.bool a.known,.str a.hold.Lot,.str a.hold.Order,.i a.hold.Reserved,.i a.hold.Taken,.i a.free] 0]) [] [] (kAH d.Lot d.Order d.Reserved d.Taken [.fptr [.str a.lot.Name,.str a.lot.Yarn,.str a.lot.Dye,.i a.lot.Stock,.bool a.known,.str a.hold.Lot,.str a.hold.Order,.i a.hold.Reserved,.i a.hold.Taken,.i a.free] 0]) (.bool k)) (qb4 (FzL.cons (Ua (Still.agg (AllST.cons tS (AllST.cons tS (AllST.cons tI (AllST.cons tI AllST.nil)))))) (FzL.cons (Ua (Still.fptr (AllST.cons tS (AllST.cons tS (AllST.cons tS (AllST.cons tI (AllST.cons tB (AllST.cons tS (AllST.cons tS (AllST.cons tI (AllST.cons tI (AllST.cons tI AllST.nil)))))))))))) FzL.nil)) (qnf d a f) tB)) az))) ?_)
    refine ihB g2 (fun o g2=>?_) (fun o g2=>?_)
    ·refine sh fol (kAj c) ?_
     refine Goes.ret ?_
     obtain rfl:=si g2
     exact Or.inr (⟨rfl,_,rfl,(gw2 [.i c] (Ub tI))⟩)
    refine Goes.skip ?_
    refine gh fol (kAD b ((1,.func (.func 124) [] [.fptr [.str a.lot.Name,.str a.lot.Yarn,.str a.lot.Dye,.i a.lot.Stock,.bool a.known,.str a.hold.Lot,.str a.hold.Order,.i a.hold.Reserved,.i a.hold.Taken,.i a.free] 0])::(kY (b.length:Int) (w64 (c+1))))) ?_
    exact⟨M,(ofG 19 (kAD b ((1,.func (.func 124) [] [.fptr [.str a.lot.Name,.str a.lot.Yarn,.str a.lot.Dye,.i a.lot.Stock,.bool a.known,.str a.hold.Lot,.str a.hold.Order,.i a.hold.Reserved,.i a.hold.Taken,.i a.free] 0])::(kY (b.length:Int) (w64 (c+1))))),[]),Nat.lt_succ_self _,(Sub.refl _),_,rfl,g2⟩
   refine Goes.exit ?_
   obtain rfl:=si g2
   exact Or.inl (⟨rfl,rfl,(Sub.keep [] rfl rfl)⟩)
 rintro x s' (⟨rfl,rfl,hsub⟩|⟨rfl,p,rfl,hret⟩)
 ·try dsimp only at h
  refine Goes.sub hsub ?_
  refine sh fol kAp ?_
  refine Goes.ret ?_
  obtain rfl:=si h
  exact(gw2 [.i (-1)] (Ub tI))
 try dsimp only at h
 obtain rfl:=si h
 exact hret
def xA (b:Str) (c:Str) (d:Str) (e:Int) (f:Bool) (g:Str) (h:Str) (i:Int) (j:Int) (a10_:Int):Nat->(List qE)->Int->Int->Option ((List qE)×Int)
 |0,_,_,_=>none
 |K+1,a,k,m=>
  if m<(a.length:Int)then
  (((idx a m).bind fun l=>
  (qiq l (⟨(⟨b,c,d,e⟩:zY),f,(⟨g,h,i,j⟩:qE),a10_⟩:qg)).bind fun n=>
  if(!n)=true then
  (idx a k).bind fun r=>
  (put a k l).bind fun o=>
  some (o,w64 (k+1))
  else
  some (a,k):Option ((List qE)×Int))).bind fun(p,q)=>
  xA b c d e f g h i j a10_ K p q (w64 (m+1))
  else
  some (a,k)
def qcN (N:Nat) (a:List qE) (b:Str) (c:Str) (d:Str) (e:Int) (f:Bool) (g:Str) (h:Str) (i:Int) (j:Int) (a10_:Int):Option (Unit⊕(List qE)):=
 (qkp N a (⟨(⟨b,c,d,e⟩:zY),f,(⟨g,h,i,j⟩:qE),a10_⟩:qg)).bind fun n=>
 if n=(-1)then
 some (.inl ())
 else
 (xA b c d e f g h i j a10_ N a n (w64 (n+1))).bind fun(k,o)=>
 (if o=0 then
 ((if 0<k.length then some ()else none:Option Unit)).bind fun s=>
 (some (qvV k 0 (⟨[],[],0,0⟩:qE))).bind fun p=>
 some p
 else
 (at' k o).bind fun l=>
 ((if l<k.length then some ()else none:Option Unit)).bind fun t=>
 (some (qvV k l (⟨[],[],0,0⟩:qE))).bind fun q=>
 some q:Option (List qE)).bind fun m=>
 ((if 0<m.length then some ()else none:Option Unit)).bind fun u=>
 (cut m 0 o).bind fun r=>
 some (.inr r)
theorem qrG (N:Nat) (p:List qE) (a:Str) (b:Str) (c:Str) (d:Int) (e:Bool) (f:Str) (g:Str) (j:Int) (k:Int) (a10_:Int) (h:qcN N p a b c d e f g j k a10_=some (.inl ())):zu ZT (.fn 122) [.gslice 0 p.length 4,.func (.func 124) [] [.ptr 1 0]] (kG p (kC a b c d e f g j k a10_ [])) (.gslice 0 p.length 4) (kG p (kC a b c d e f g j k a10_ [])):=by
 unfold qcN at h
 refine Goes.fnH Tryz.func122 rfl rfl (m:=42) rfl (rs:=[.tmp 4]) rfl (l:=(kK p [(1,.func (.func 124) [] [.ptr 1 0])])) rfl ?_
 intro B hB
 refine sh fol (kK p [(1,.func (.func 124) [] [.ptr 1 0])]) ?_
 obtain⟨r2,e_r2,h⟩:=bnd h
 refine sq (gr fol [2] (kK p ((1,.func (.func 124) [] [.ptr 1 0])::(kAe r2))) (ac (hs (.call 174 [.gslice 0 p.length 4,.func (.func 124) [] [.ptr 1 0]] (kG p (kC a b c d e f g j k a10_ [])) [0,1] [vl qJ p,.func (.func 124) [] [.fptr [.str (((⟨(⟨a,b,c,d⟩:zY),e,(⟨f,g,j,k⟩:qE),a10_⟩:qg).lot).Name),.str (((⟨(⟨a,b,c,d⟩:zY),e,(⟨f,g,j,k⟩:qE),a10_⟩:qg).lot).Yarn),.str (((⟨(⟨a,b,c,d⟩:zY),e,(⟨f,g,j,k⟩:qE),a10_⟩:qg).lot).Dye),.i (((⟨(⟨a,b,c,d⟩:zY),e,(⟨f,g,j,k⟩:qE),a10_⟩:qg).lot).Stock),.bool ((⟨(⟨a,b,c,d⟩:zY),e,(⟨f,g,j,k⟩:qE),a10_⟩:qg).known),.str (((⟨(⟨a,b,c,d⟩:zY),e,(⟨f,g,j,k⟩:qE),a10_⟩:qg).hold).Lot),.str (((⟨(⟨a,b,c,d⟩:zY),e,(⟨f,g,j,k⟩:qE),a10_⟩:qg).hold).Order),.i (((⟨(⟨a,b,c,d⟩:zY),e,(⟨f,g,j,k⟩:qE),a10_⟩:qg).hold).Reserved),.i (((⟨(⟨a,b,c,d⟩:zY),e,(⟨f,g,j,k⟩:qE),a10_⟩:qg).hold).Taken),.i ((⟨(⟨a,b,c,d⟩:zY),e,(⟨f,g,j,k⟩:qE),a10_⟩:qg).free)] 0]] (.i r2)) (qma (FzL.cons (Fz.gs (E:=qJ) rfl rfl (nl rfl)) (FzL.cons (Fz.func FzL.nil (FzL.cons (Fz.ptr rfl rfl (FzL.cons (Ua tS) (FzL.cons (Ua tS) (FzL.cons (Ua tS) (FzL.cons (Ua tI) (FzL.cons (Ua tB) (FzL.cons (Ua tS) (FzL.cons (Ua tS) (FzL.cons (Ua tI) (FzL.cons (Ua tI) (FzL.cons (Ua tI) FzL.nil))))))))))) FzL.nil)) FzL.nil)) (qoU N p (⟨(⟨a,b,c,d⟩:zY),e,(⟨f,g,j,k⟩:qE),a10_⟩:qg) e_r2) tI rfl)) az) ?_)
 refine sq ?_
 refine sh fol (kK p [(1,.func (.func 124) [] [.ptr 1 0]),(5,.i r2),(12,.bool (decide (r2=(-1))))]) ?_
 refine ihD h (fun c3 h=>?_) (fun c3 h=>?_)
 ·refine sh fol [(4,.gslice 0 p.length 4)] ?_
  refine Goes.ret ?_
  cases h
  exact(gh2 [.gslice 0 p.length 4] (qzy.refl _ _))
 refine Goes.skip ?_
 refine sq ?_
 refine sh fol (kK p ((1,.func (.func 124) [] [.ptr 1 0])::(kAN r2 (w64 (r2+1))))) ?_
 refine Goes.block ?_
 obtain⟨r9,g9,h⟩:=bnd h
 refine Goes.imp (Q:=fun x s'=>(x= .exit 0/\ ∃t v,(t,v)=r9/\Sub s' (ofG 42 (kK t (kAe v)),(kG t (kC a b c d e f g j k a10_ []))))) ?_ ?_
 ·refine Ud (fun M s=> ∃(q:List qE) (w:Int) (r:Int),s=(ofG 42 (kK q ((1,.func (.func 124) [] [.ptr 1 0])::(kAN w r))),(kG q (kC a b c d e f g j k a10_ [])))/\xA a b c d e f g j k a10_ M q w r=some r9) ?_ (m:=N) ⟨_,_,_,rfl,g9⟩
  rintro M s ⟨q,w,r,rfl,g9⟩
  cases M with
  |zero=>simp only[xA]at g9;cases g9
  |succ M=>
   rw[xA]at g9
   refine sq ?_
   refine sh fol (kK q [(1,.func (.func 124) [] [.ptr 1 0]),(5,.i w),(6,.i r),(19,.bool (decide (r<(q.length:Int))))]) ?_
   refine ihD g9 (fun c10 g9=>?_) (fun c10 g9=>?_)
   ·refine Goes.skip ?_
    refine sq ?_
    obtain⟨r13,g13,g9⟩:=bnd g9
    refine Goes.imp (Q:=fun x s'=>(x= .normal/\ ∃u C,(u,C)=r13/\Sub s' (ofG 42 (kK u ((1,.func (.func 124) [] [.ptr 1 0])::(kAN C r))),(kG u (kC a b c d e f g j k a10_ []))))) ?_ ?_
    ·refine Goes.block ?_
     obtain⟨n,D,g13⟩:=bnd g13
     refine sq (gq fol [2,3] (kK q [(1,.func (.func 124) [] [.ptr 1 0]),(5,.i w),(6,.i r),(7,.ptr 2 0)]) (kG q (kC a b c d e f g j k a10_ (kL n.Lot n.Order n.Reserved n.Taken []))) (ac (hs (.done (.opt (yX ZT 28 (.gslice 0 q.length 4) (.i r))) (.ptr 0 ((r:Int).toNat*4+0))) (qDZ qtu D)) (ac (hs (.run [0] (qqr ZT 74 (.ptr 0 ((r:Int).toNat*4+0))) (kG q (kC a b c d e f g j k a10_ [])) (.agg [.str n.Lot,.str n.Order,.i n.Reserved,.i n.Taken]) (kG q (kC a b c d e f g j k a10_ [])) false) (qI3 qDy (E:=qJ) (l:=q) rfl rfl D)) az)) ?_)
     obtain⟨r15,X,g13⟩:=bnd g13
     refine sq (gr fol [2] (kK q [(1,.func (.func 124) [] [.ptr 1 0]),(5,.i w),(6,.i r),(7,.ptr 2 0),(29,.bool (!r15))]) (ac (hs (.call 124 (kAH n.Lot n.Order n.Reserved n.Taken [.ptr 1 0]) (kG q (kC a b c d e f g j k a10_ (kL n.Lot n.Order n.Reserved n.Taken []))) [1] (kAH n.Lot n.Order n.Reserved n.Taken [.fptr [.str (((⟨(⟨a,b,c,d⟩:zY),e,(⟨f,g,j,k⟩:qE),a10_⟩:qg).lot).Name),.str (((⟨(⟨a,b,c,d⟩:zY),e,(⟨f,g,j,k⟩:qE),a10_⟩:qg).lot).Yarn),.str (((⟨(⟨a,b,c,d⟩:zY),e,(⟨f,g,j,k⟩:qE),a10_⟩:qg).lot).Dye),.i (((⟨(⟨a,b,c,d⟩:zY),e,(⟨f,g,j,k⟩:qE),a10_⟩:qg).lot).Stock),.bool ((⟨(⟨a,b,c,d⟩:zY),e,(⟨f,g,j,k⟩:qE),a10_⟩:qg).known),.str (((⟨(⟨a,b,c,d⟩:zY),e,(⟨f,g,j,k⟩:qE),a10_⟩:qg).hold).Lot),.str (((⟨(⟨a,b,c,d⟩:zY),e,(⟨f,g,j,k⟩:qE),a10_⟩:qg).hold).Order),.i (((⟨(⟨a,b,c,d⟩:zY),e,(⟨f,g,j,k⟩:qE),a10_⟩:qg).hold).Reserved),.i (((⟨(⟨a,b,c,d⟩:zY),e,(⟨f,g,j,k⟩:qE),a10_⟩:qg).hold).Taken),.i ((⟨(⟨a,b,c,d⟩:zY),e,(⟨f,g,j,k⟩:qE),a10_⟩:qg).free)] 0]) (.bool r15)) (qma (FzL.cons (Ua (Still.agg (AllST.cons tS (AllST.cons tS (AllST.cons tI (AllST.cons tI AllST.nil)))))) (FzL.cons (Fz.ptr rfl rfl (FzL.cons (Ua tS) (FzL.cons (Ua tS) (FzL.cons (Ua tS) (FzL.cons (Ua tI) (FzL.cons (Ua tB) (FzL.cons (Ua tS) (FzL.cons (Ua tS) (FzL.cons (Ua tI) (FzL.cons (Ua tI) (FzL.cons (Ua tI) FzL.nil))))))))))) FzL.nil)) (qnf n (⟨(⟨a,b,c,d⟩:zY),e,(⟨f,g,j,k⟩:qE),a10_⟩:qg) X) tB rfl)) az) ?_)
     refine ihB g13 (fun c16 g13=>?_) (fun c16 g13=>?_)
     ·obtain⟨x17,F,g13⟩:=bnd g13
      obtain⟨A,G,g13⟩:=bnd g13
      refine sq (gq fol [3,4] (kK q ((1,.func (.func 124) [] [.ptr 1 0])::(kAN w r))) (kG A (kC a b c d e f g j k a10_ (kL n.Lot n.Order n.Reserved n.Taken []))) (ac (hs (.done (.opt (yX ZT 28 (.gslice 0 q.length 4) (.i w))) (.ptr 0 ((w:Int).toNat*4+0))) (qDZ qtu F)) (ac (hs (.run [0] (qwg ZT 74 (.ptr 0 ((w:Int).toNat*4+0)) (.agg [.str n.Lot,.str n.Order,.i n.Reserved,.i n.Taken])) (kG q (kC a b c d e f g j k a10_ (kL n.Lot n.Order n.Reserved n.Taken []))) .undef (kG A (kC a b c d e f g j k a10_ (kL n.Lot n.Order n.Reserved n.Taken []))) true) (qGX (E:=qJ) (l:=q) (y:=n) rfl (show _=some 4 by kernel_rfl) rfl F rfl rfl rfl rfl rfl G rfl)) az)) ?_)
      refine Goes.sub (show Sub (ofG 42 (kK q ((1,.func (.func 124) [] [.ptr 1 0])::(kAN w r))),(kG A (kC a b c d e f g j k a10_ (kL n.Lot n.Order n.Reserved n.Taken [])))) (ofG 42 (kK A ((1,.func (.func 124) [] [.ptr 1 0])::(kAN w r))),(kG A (kC a b c d e f g j k a10_ [])))from(Sub.norm [] [some 0,some 1] (by rw[hB];rfl) rfl (.keep (.gsliceE rfl (qCr G)) (.keep (.funcL (sn) (rc (.ptr rfl) rn)) (.keep (.same nI) (.keep (.same nI) .nil)))) (.ks (.kb rfl (.same sn) .nil)))) ?_
      refine gh fol (kK A ((1,.func (.func 124) [] [.ptr 1 0])::(kAN (w64 (w+1)) r))) ?_
      obtain rfl:=si g13
      exact⟨rfl,_,_,rfl,(Sub.refl _)⟩
     refine Goes.skip ?_
     obtain rfl:=si g13
     exact⟨rfl,_,_,rfl,(Sub.norm [] [some 0,some 1] (by rw[hB];rfl) rfl (.keep (.gslice rfl) (.keep (.funcL (sn) (rc (.ptr rfl) rn)) (.keep (.same nI) (.keep (.same nI) .nil)))) (.ks (.kb rfl (.same sn) .nil)))⟩
    rintro x s' ⟨rfl,u,C,rfl,hsub⟩
    try dsimp only at g9
    refine Goes.sub hsub ?_
    refine gh fol (kK u ((1,.func (.func 124) [] [.ptr 1 0])::(kAN C (w64 (r+1))))) ?_
    exact⟨M,(ofG 42 (kK u ((1,.func (.func 124) [] [.ptr 1 0])::(kAN C (w64 (r+1))))),(kG u (kC a b c d e f g j k a10_ []))),Nat.lt_succ_self _,(Sub.refl _),_,_,_,rfl,g9⟩
   refine Goes.exit ?_
   obtain rfl:=si g9
   exact⟨rfl,_,_,rfl,(Sub.keep [0,5] rfl rfl)⟩
 rintro x s' ⟨rfl,t,v,rfl,hsub⟩
 try dsimp only at h
 refine Goes.sub hsub ?_
 refine sq ?_
 obtain⟨V,o,h⟩:=bnd h
 refine Goes.cutS (s':=(ofG 42 (kK V (kAe v)),(kG V (kC a b c d e f g j k a10_ [])))) ?_ ?_
 ·rcases wyD o with⟨Y,o⟩|⟨Y,o⟩
  ·obtain⟨u20,H,o⟩:=bnd o
   obtain⟨I,J,o⟩:=bnd o
   obtain rfl:=si o
   exact qgY.sub (qgY.rq fol [2,3] (kK t (kAe v)) (kG I (kC a b c d e f g j k a10_ [])) (ac (hs (.done (.opt (qmA ZT 28 (.gslice 0 t.length 4) (some (.i v)) none none)) (.oslice 0 t.length 4)) (qFo qtu (ot Y) (qrW H))) (ac (hs (.run [0] (qrI ZT [28] (.oslice 0 t.length 4)) (kG t (kC a b c d e f g j k a10_ [])) (.tuple []) (kG I (kC a b c d e f g j k a10_ [])) true) (qIR qtu (E:=qJ) (z:=(⟨[],[],0,0⟩:qE)) rfl (by kernel_rfl) rfl (qrW H) rfl J rfl)) az))) ((show Sub (ofG 42 (kK t (kAe v)),(kG I (kC a b c d e f g j k a10_ []))) (ofG 42 (kK I (kAe v)),(kG I (kC a b c d e f g j k a10_ [])))from(Sub.norm [] [some 0,some 1] (by rw[hB];rfl) rfl (.keep (.gsliceE rfl (qxy (Nat.zero_le _) J)) (.keep (.same nI) .nil)) (.ks (.kb rfl (.same sn) .nil)))).trans (Sub.refl _))
  obtain⟨W,K,o⟩:=bnd o
  obtain⟨u23,L,o⟩:=bnd o
  obtain⟨O,P,o⟩:=bnd o
  obtain rfl:=si o
  exact qgY.sub (qgY.rq fol [2,3] (kK t (kAe v)) (kG O (kC a b c d e f g j k a10_ [])) (ac (hs (.done (.opt (qmA ZT 28 (.gslice 0 t.length 4) (some (.i v)) none none)) (.wslice 0 (W*4) (t.length-W) 4)) (qDJ qtu (of_decide_eq_false Y) K (qrW L))) (ac (hs (.run [0] (qrI ZT [28] (.wslice 0 (W*4) (t.length-W) 4)) (kG t (kC a b c d e f g j k a10_ [])) (.tuple []) (kG O (kC a b c d e f g j k a10_ [])) true) (qIW qtu (E:=qJ) (z:=(⟨[],[],0,0⟩:qE)) rfl (by kernel_rfl) rfl (qrW L) rfl P rfl)) az))) ((show Sub (ofG 42 (kK t (kAe v)),(kG O (kC a b c d e f g j k a10_ []))) (ofG 42 (kK O (kAe v)),(kG O (kC a b c d e f g j k a10_ [])))from(Sub.norm [] [some 0,some 1] (by rw[hB];rfl) rfl (.keep (.gsliceE rfl (qxy (qIP K) P)) (.keep (.same nI) .nil)) (.ks (.kb rfl (.same sn) .nil)))).trans (Sub.refl _))
 intro _ hsub
 refine Goes.sub hsub ?_
 obtain⟨u28,Z,h⟩:=bnd h
 obtain⟨T,U,h⟩:=bnd h
 refine sq (gr fol [2] (kAh T) (ac (hs (.done (.opt (qmA ZT 28 (.gslice 0 V.length 4) none (some (.i v)) none)) (.oslice 0 T.length 4)) (qIU qtu (qrW Z) U)) az) ?_)
 refine Goes.sub (show Sub (ofG 42 (kAh T),(kG V (kC a b c d e f g j k a10_ []))) (ofG 42 (kAh T),(kG T (kC a b c d e f g j k a10_ [])))from(Sub.norm [] [some 0,some 1] (by rw[hB];rfl) rfl (.keep (.oslice rfl) .nil) (.kb rfl (qqM.cut U) (.kb rfl (.same sn) .nil)))) ?_
 refine Goes.ret ?_
 cases h
theorem qrw (N:Nat) (p:List qE) (a:Str) (b:Str) (c:Str) (d:Int) (e:Bool) (f:Str) (g:Str) (j:Int) (k:Int) (a10_:Int) {l1:List qE} (h:qcN N p a b c d e f g j k a10_=some (.inr l1)):zu ZT (.fn 122) [.gslice 0 p.length 4,.func (.func 124) [] [.ptr 1 0]] (kG p (kC a b c d e f g j k a10_ [])) (.oslice 0 l1.length 4) (kG l1 (kC a b c d e f g j k a10_ [])):=by
 unfold qcN at h
 refine Goes.fnH Tryz.func122 rfl rfl (m:=42) rfl (rs:=[.tmp 4]) rfl (l:=(kK p [(1,.func (.func 124) [] [.ptr 1 0])])) rfl ?_
 intro B hB
 refine sh fol (kK p [(1,.func (.func 124) [] [.ptr 1 0])]) ?_
 obtain⟨r2,e_r2,h⟩:=bnd h
 refine sq (gr fol [2] (kK p ((1,.func (.func 124) [] [.ptr 1 0])::(kAe r2))) (ac (hs (.call 174 [.gslice 0 p.length 4,.func (.func 124) [] [.ptr 1 0]] (kG p (kC a b c d e f g j k a10_ [])) [0,1] [vl qJ p,.func (.func 124) [] [.fptr [.str (((⟨(⟨a,b,c,d⟩:zY),e,(⟨f,g,j,k⟩:qE),a10_⟩:qg).lot).Name),.str (((⟨(⟨a,b,c,d⟩:zY),e,(⟨f,g,j,k⟩:qE),a10_⟩:qg).lot).Yarn),.str (((⟨(⟨a,b,c,d⟩:zY),e,(⟨f,g,j,k⟩:qE),a10_⟩:qg).lot).Dye),.i (((⟨(⟨a,b,c,d⟩:zY),e,(⟨f,g,j,k⟩:qE),a10_⟩:qg).lot).Stock),.bool ((⟨(⟨a,b,c,d⟩:zY),e,(⟨f,g,j,k⟩:qE),a10_⟩:qg).known),.str (((⟨(⟨a,b,c,d⟩:zY),e,(⟨f,g,j,k⟩:qE),a10_⟩:qg).hold).Lot),.str (((⟨(⟨a,b,c,d⟩:zY),e,(⟨f,g,j,k⟩:qE),a10_⟩:qg).hold).Order),.i (((⟨(⟨a,b,c,d⟩:zY),e,(⟨f,g,j,k⟩:qE),a10_⟩:qg).hold).Reserved),.i (((⟨(⟨a,b,c,d⟩:zY),e,(⟨f,g,j,k⟩:qE),a10_⟩:qg).hold).Taken),.i ((⟨(⟨a,b,c,d⟩:zY),e,(⟨f,g,j,k⟩:qE),a10_⟩:qg).free)] 0]] (.i r2)) (qma (FzL.cons (Fz.gs (E:=qJ) rfl rfl (nl rfl)) (FzL.cons (Fz.func FzL.nil (FzL.cons (Fz.ptr rfl rfl (FzL.cons (Ua tS) (FzL.cons (Ua tS) (FzL.cons (Ua tS) (FzL.cons (Ua tI) (FzL.cons (Ua tB) (FzL.cons (Ua tS) (FzL.cons (Ua tS) (FzL.cons (Ua tI) (FzL.cons (Ua tI) (FzL.cons (Ua tI) FzL.nil))))))))))) FzL.nil)) FzL.nil)) (qoU N p (⟨(⟨a,b,c,d⟩:zY),e,(⟨f,g,j,k⟩:qE),a10_⟩:qg) e_r2) tI rfl)) az) ?_)
 refine sq ?_
 refine sh fol (kK p [(1,.func (.func 124) [] [.ptr 1 0]),(5,.i r2),(12,.bool (decide (r2=(-1))))]) ?_
 refine ihD h (fun c3 h=>?_) (fun c3 h=>?_)
 ·refine sh fol [(4,.gslice 0 p.length 4)] ?_
  refine Goes.ret ?_
  cases h
 refine Goes.skip ?_
 refine sq ?_
 refine sh fol (kK p ((1,.func (.func 124) [] [.ptr 1 0])::(kAN r2 (w64 (r2+1))))) ?_
 refine Goes.block ?_
 obtain⟨r9,g9,h⟩:=bnd h
 refine Goes.imp (Q:=fun x s'=>(x= .exit 0/\ ∃t v,(t,v)=r9/\Sub s' (ofG 42 (kK t (kAe v)),(kG t (kC a b c d e f g j k a10_ []))))) ?_ ?_
 ·refine Ud (fun M s=> ∃(q:List qE) (w:Int) (r:Int),s=(ofG 42 (kK q ((1,.func (.func 124) [] [.ptr 1 0])::(kAN w r))),(kG q (kC a b c d e f g j k a10_ [])))/\xA a b c d e f g j k a10_ M q w r=some r9) ?_ (m:=N) ⟨_,_,_,rfl,g9⟩
  rintro M s ⟨q,w,r,rfl,g9⟩
  cases M with
  |zero=>simp only[xA]at g9;cases g9
  |succ M=>
   rw[xA]at g9
   refine sq ?_
   refine sh fol (kK q [(1,.func (.func 124) [] [.ptr 1 0]),(5,.i w),(6,.i r),(19,.bool (decide (r<(q.length:Int))))]) ?_
   refine ihD g9 (fun c10 g9=>?_) (fun c10 g9=>?_)
   ·refine Goes.skip ?_
    refine sq ?_
    obtain⟨r13,g13,g9⟩:=bnd g9
    refine Goes.imp (Q:=fun x s'=>(x= .normal/\ ∃u D,(u,D)=r13/\Sub s' (ofG 42 (kK u ((1,.func (.func 124) [] [.ptr 1 0])::(kAN D r))),(kG u (kC a b c d e f g j k a10_ []))))) ?_ ?_
    ·refine Goes.block ?_
     obtain⟨n,F,g13⟩:=bnd g13
     refine sq (gq fol [2,3] (kK q [(1,.func (.func 124) [] [.ptr 1 0]),(5,.i w),(6,.i r),(7,.ptr 2 0)]) (kG q (kC a b c d e f g j k a10_ (kL n.Lot n.Order n.Reserved n.Taken []))) (ac (hs (.done (.opt (yX ZT 28 (.gslice 0 q.length 4) (.i r))) (.ptr 0 ((r:Int).toNat*4+0))) (qDZ qtu F)) (ac (hs (.run [0] (qqr ZT 74 (.ptr 0 ((r:Int).toNat*4+0))) (kG q (kC a b c d e f g j k a10_ [])) (.agg [.str n.Lot,.str n.Order,.i n.Reserved,.i n.Taken]) (kG q (kC a b c d e f g j k a10_ [])) false) (qI3 qDy (E:=qJ) (l:=q) rfl rfl F)) az)) ?_)
     obtain⟨r15,X,g13⟩:=bnd g13
     refine sq (gr fol [2] (kK q [(1,.func (.func 124) [] [.ptr 1 0]),(5,.i w),(6,.i r),(7,.ptr 2 0),(29,.bool (!r15))]) (ac (hs (.call 124 (kAH n.Lot n.Order n.Reserved n.Taken [.ptr 1 0]) (kG q (kC a b c d e f g j k a10_ (kL n.Lot n.Order n.Reserved n.Taken []))) [1] (kAH n.Lot n.Order n.Reserved n.Taken [.fptr [.str (((⟨(⟨a,b,c,d⟩:zY),e,(⟨f,g,j,k⟩:qE),a10_⟩:qg).lot).Name),.str (((⟨(⟨a,b,c,d⟩:zY),e,(⟨f,g,j,k⟩:qE),a10_⟩:qg).lot).Yarn),.str (((⟨(⟨a,b,c,d⟩:zY),e,(⟨f,g,j,k⟩:qE),a10_⟩:qg).lot).Dye),.i (((⟨(⟨a,b,c,d⟩:zY),e,(⟨f,g,j,k⟩:qE),a10_⟩:qg).lot).Stock),.bool ((⟨(⟨a,b,c,d⟩:zY),e,(⟨f,g,j,k⟩:qE),a10_⟩:qg).known),.str (((⟨(⟨a,b,c,d⟩:zY),e,(⟨f,g,j,k⟩:qE),a10_⟩:qg).hold).Lot),.str (((⟨(⟨a,b,c,d⟩:zY),e,(⟨f,g,j,k⟩:qE),a10_⟩:qg).hold).Order),.i (((⟨(⟨a,b,c,d⟩:zY),e,(⟨f,g,j,k⟩:qE),a10_⟩:qg).hold).Reserved),.i (((⟨(⟨a,b,c,d⟩:zY),e,(⟨f,g,j,k⟩:qE),a10_⟩:qg).hold).Taken),.i ((⟨(⟨a,b,c,d⟩:zY),e,(⟨f,g,j,k⟩:qE),a10_⟩:qg).free)] 0]) (.bool r15)) (qma (FzL.cons (Ua (Still.agg (AllST.cons tS (AllST.cons tS (AllST.cons tI (AllST.cons tI AllST.nil)))))) (FzL.cons (Fz.ptr rfl rfl (FzL.cons (Ua tS) (FzL.cons (Ua tS) (FzL.cons (Ua tS) (FzL.cons (Ua tI) (FzL.cons (Ua tB) (FzL.cons (Ua tS) (FzL.cons (Ua tS) (FzL.cons (Ua tI) (FzL.cons (Ua tI) (FzL.cons (Ua tI) FzL.nil))))))))))) FzL.nil)) (qnf n (⟨(⟨a,b,c,d⟩:zY),e,(⟨f,g,j,k⟩:qE),a10_⟩:qg) X) tB rfl)) az) ?_)
     refine ihB g13 (fun c16 g13=>?_) (fun c16 g13=>?_)
     ·obtain⟨x17,G,g13⟩:=bnd g13
      obtain⟨A,H,g13⟩:=bnd g13
      refine sq (gq fol [3,4] (kK q ((1,.func (.func 124) [] [.ptr 1 0])::(kAN w r))) (kG A (kC a b c d e f g j k a10_ (kL n.Lot n.Order n.Reserved n.Taken []))) (ac (hs (.done (.opt (yX ZT 28 (.gslice 0 q.length 4) (.i w))) (.ptr 0 ((w:Int).toNat*4+0))) (qDZ qtu G)) (ac (hs (.run [0] (qwg ZT 74 (.ptr 0 ((w:Int).toNat*4+0)) (.agg [.str n.Lot,.str n.Order,.i n.Reserved,.i n.Taken])) (kG q (kC a b c d e f g j k a10_ (kL n.Lot n.Order n.Reserved n.Taken []))) .undef (kG A (kC a b c d e f g j k a10_ (kL n.Lot n.Order n.Reserved n.Taken []))) true) (qGX (E:=qJ) (l:=q) (y:=n) rfl (show _=some 4 by kernel_rfl) rfl G rfl rfl rfl rfl rfl H rfl)) az)) ?_)
      refine Goes.sub (show Sub (ofG 42 (kK q ((1,.func (.func 124) [] [.ptr 1 0])::(kAN w r))),(kG A (kC a b c d e f g j k a10_ (kL n.Lot n.Order n.Reserved n.Taken [])))) (ofG 42 (kK A ((1,.func (.func 124) [] [.ptr 1 0])::(kAN w r))),(kG A (kC a b c d e f g j k a10_ [])))from(Sub.norm [] [some 0,some 1] (by rw[hB];rfl) rfl (.keep (.gsliceE rfl (qCr H)) (.keep (.funcL (sn) (rc (.ptr rfl) rn)) (.keep (.same nI) (.keep (.same nI) .nil)))) (.ks (.kb rfl (.same sn) .nil)))) ?_
      refine gh fol (kK A ((1,.func (.func 124) [] [.ptr 1 0])::(kAN (w64 (w+1)) r))) ?_
      obtain rfl:=si g13
      exact⟨rfl,_,_,rfl,(Sub.refl _)⟩
     refine Goes.skip ?_
     obtain rfl:=si g13
     exact⟨rfl,_,_,rfl,(Sub.norm [] [some 0,some 1] (by rw[hB];rfl) rfl (.keep (.gslice rfl) (.keep (.funcL (sn) (rc (.ptr rfl) rn)) (.keep (.same nI) (.keep (.same nI) .nil)))) (.ks (.kb rfl (.same sn) .nil)))⟩
    rintro x s' ⟨rfl,u,D,rfl,hsub⟩
    try dsimp only at g9
    refine Goes.sub hsub ?_
    refine gh fol (kK u ((1,.func (.func 124) [] [.ptr 1 0])::(kAN D (w64 (r+1))))) ?_
    exact⟨M,(ofG 42 (kK u ((1,.func (.func 124) [] [.ptr 1 0])::(kAN D (w64 (r+1))))),(kG u (kC a b c d e f g j k a10_ []))),Nat.lt_succ_self _,(Sub.refl _),_,_,_,rfl,g9⟩
   refine Goes.exit ?_
   obtain rfl:=si g9
   exact⟨rfl,_,_,rfl,(Sub.keep [0,5] rfl rfl)⟩
 rintro x s' ⟨rfl,t,v,rfl,hsub⟩
 try dsimp only at h
 refine Goes.sub hsub ?_
 refine sq ?_
 obtain⟨V,o,h⟩:=bnd h
 refine Goes.cutS (s':=(ofG 42 (kK V (kAe v)),(kG V (kC a b c d e f g j k a10_ [])))) ?_ ?_
 ·rcases wyD o with⟨Y,o⟩|⟨Y,o⟩
  ·obtain⟨u20,I,o⟩:=bnd o
   obtain⟨J,K,o⟩:=bnd o
   obtain rfl:=si o
   exact qgY.sub (qgY.rq fol [2,3] (kK t (kAe v)) (kG J (kC a b c d e f g j k a10_ [])) (ac (hs (.done (.opt (qmA ZT 28 (.gslice 0 t.length 4) (some (.i v)) none none)) (.oslice 0 t.length 4)) (qFo qtu (ot Y) (qrW I))) (ac (hs (.run [0] (qrI ZT [28] (.oslice 0 t.length 4)) (kG t (kC a b c d e f g j k a10_ [])) (.tuple []) (kG J (kC a b c d e f g j k a10_ [])) true) (qIR qtu (E:=qJ) (z:=(⟨[],[],0,0⟩:qE)) rfl (by kernel_rfl) rfl (qrW I) rfl K rfl)) az))) ((show Sub (ofG 42 (kK t (kAe v)),(kG J (kC a b c d e f g j k a10_ []))) (ofG 42 (kK J (kAe v)),(kG J (kC a b c d e f g j k a10_ [])))from(Sub.norm [] [some 0,some 1] (by rw[hB];rfl) rfl (.keep (.gsliceE rfl (qxy (Nat.zero_le _) K)) (.keep (.same nI) .nil)) (.ks (.kb rfl (.same sn) .nil)))).trans (Sub.refl _))
  obtain⟨W,L,o⟩:=bnd o
  obtain⟨u23,O,o⟩:=bnd o
  obtain⟨P,T,o⟩:=bnd o
  obtain rfl:=si o
  exact qgY.sub (qgY.rq fol [2,3] (kK t (kAe v)) (kG P (kC a b c d e f g j k a10_ [])) (ac (hs (.done (.opt (qmA ZT 28 (.gslice 0 t.length 4) (some (.i v)) none none)) (.wslice 0 (W*4) (t.length-W) 4)) (qDJ qtu (of_decide_eq_false Y) L (qrW O))) (ac (hs (.run [0] (qrI ZT [28] (.wslice 0 (W*4) (t.length-W) 4)) (kG t (kC a b c d e f g j k a10_ [])) (.tuple []) (kG P (kC a b c d e f g j k a10_ [])) true) (qIW qtu (E:=qJ) (z:=(⟨[],[],0,0⟩:qE)) rfl (by kernel_rfl) rfl (qrW O) rfl T rfl)) az))) ((show Sub (ofG 42 (kK t (kAe v)),(kG P (kC a b c d e f g j k a10_ []))) (ofG 42 (kK P (kAe v)),(kG P (kC a b c d e f g j k a10_ [])))from(Sub.norm [] [some 0,some 1] (by rw[hB];rfl) rfl (.keep (.gsliceE rfl (qxy (qIP L) T)) (.keep (.same nI) .nil)) (.ks (.kb rfl (.same sn) .nil)))).trans (Sub.refl _))
 intro _ hsub
 refine Goes.sub hsub ?_
 obtain⟨u28,Z,h⟩:=bnd h
 obtain⟨C,U,h⟩:=bnd h
 refine sq (gr fol [2] (kAh C) (ac (hs (.done (.opt (qmA ZT 28 (.gslice 0 V.length 4) none (some (.i v)) none)) (.oslice 0 C.length 4)) (qIU qtu (qrW Z) U)) az) ?_)
 refine Goes.sub (show Sub (ofG 42 (kAh C),(kG V (kC a b c d e f g j k a10_ []))) (ofG 42 (kAh C),(kG C (kC a b c d e f g j k a10_ [])))from(Sub.norm [] [some 0,some 1] (by rw[hB];rfl) rfl (.keep (.oslice rfl) .nil) (.kb rfl (qqM.cut U) (.kb rfl (.same sn) .nil)))) ?_
 refine Goes.ret ?_
 obtain rfl:=Sum.inr.inj (si h)
 exact(gh2 [.oslice 0 C.length 4] (qzy.refl _ _))
def qlJ (N:Nat) (d:StateT) (e:zi):Option StateT:=
 ((qne).bind fun O=>
 if(e.Kind==[114,101,99,101,105,118,101])=true then
 (qbb N d e).bind fun H=>
 (qpV H e.Amount).bind fun h=>
 some (h.lot.Name,h.lot.Yarn,h.lot.Dye,h.lot.Stock,h.known,h.hold.Lot,h.hold.Order,h.hold.Reserved,h.hold.Taken,h.free)
 else
 if(e.Kind==[114,101,115,101,114,118,101])=true then
 (qbb N d e).bind fun I=>
 (qp2 I e.Amount).bind fun i=>
 some (i.lot.Name,i.lot.Yarn,i.lot.Dye,i.lot.Stock,i.known,i.hold.Lot,i.hold.Order,i.hold.Reserved,i.hold.Taken,i.free)
 else
 if(e.Kind==[114,101,108,101,97,115,101])=true then
 (qbb N d e).bind fun J=>
 (qp4 J e.Amount).bind fun a=>
 some (a.lot.Name,a.lot.Yarn,a.lot.Dye,a.lot.Stock,a.known,a.hold.Lot,a.hold.Order,a.hold.Reserved,a.hold.Taken,a.free)
 else
 if(e.Kind==[116,97,107,101])=true then
 (qbb N d e).bind fun w=>
 (qtx w e.Amount).bind fun b=>
 some (b.lot.Name,b.lot.Yarn,b.lot.Dye,b.lot.Stock,b.known,b.hold.Lot,b.hold.Order,b.hold.Reserved,b.hold.Taken,b.free)
 else
 if(e.Kind==[114,101,116,117,114,110])=true then
 (qbb N d e).bind fun x=>
 (qpQ x e.Amount).bind fun c=>
 some (c.lot.Name,c.lot.Yarn,c.lot.Dye,c.lot.Stock,c.known,c.hold.Lot,c.hold.Order,c.hold.Reserved,c.hold.Taken,c.free)
 else
 none:Option (Str×Str×Str×Int×Bool×Str×Str×Int×Int×Int)).bind fun(k,l,m,n,y,o,p,f,g,z)=>
 (qwH d.Lots).bind fun _=>
 (qjh N (⟨e.Day,d.Lots,[]⟩:StateT) e.Lot).bind fun j=>
 ((if j.2=true then
 (idx d.Lots j.1).bind fun K=>
 (put d.Lots j.1 (⟨k,l,m,n⟩:zY)).bind fun A=>
 some A
 else
 (qAZ d.Lots j.1 k l m n).bind fun B=>
 some B:Option (List zY))).bind fun q=>
 (quZ d.Holds).bind fun _=>
 (qcN N d.Holds k l m n y o p f g z).bind fun C=>
 match C with
 | .inl _=>
 (if f>0 then
 some true
 else
 some (decide (g>0)):Option Bool).bind fun D=>
 ((if D=true then
 (app 48 d.Holds [(⟨o,p,f,g⟩:qE)]).bind fun E=>
 some E
 else
 some d.Holds:Option (List qE))).bind fun r=>
 (qw8 r).bind fun s=>
 ((if r.length=s.length then some ()else none:Option Unit)).bind fun L=>
 some (⟨e.Day,q,s⟩:StateT)
 | .inr t=>
 (if f>0 then
 some true
 else
 some (decide (g>0)):Option Bool).bind fun F=>
 ((if F=true then
 (app 48 t [(⟨o,p,f,g⟩:qE)]).bind fun G=>
 some G
 else
 some t:Option (List qE))).bind fun u=>
 (qxr u).bind fun v=>
 ((if u.length=v.length then some ()else none:Option Unit)).bind fun M=>
 some (⟨e.Day,q,v⟩:StateT)
theorem qts (N:Nat) (b:StateT) (e:zi) {res:StateT} (h:qlJ N b e=some res):zu ZT (.fn 59) (kAA b.Day b.Lots b.Holds [.agg [.str e.Kind,.i e.Day,.str e.Lot,.i e.Amount,.str e.Yarn,.str e.Dye,.str e.Order]]) [] (.agg (kF res.Day res.Lots res.Holds)) []:=by
 unfold qlJ at h
 refine Uc Tryz.func59 rfl rfl (m:=75) rfl (rs:=[.cell 4 30]) rfl (l:=(kAV b.Day b.Lots b.Holds [(1,.agg [.str e.Kind,.i e.Day,.str e.Lot,.i e.Amount,.str e.Yarn,.str e.Dye,.str e.Order])])) rfl ?_
 refine sg fol (kS [(4,.ptr 2 0)]) (kE b.Day b.Lots b.Holds (kD e.Kind e.Day e.Lot e.Amount e.Yarn e.Dye e.Order (kH []))) ?_
 refine sq ?_
 obtain⟨⟨j,k,n,o,q,d,f,g,c,r⟩,a,h⟩:=bnd h
 refine Goes.cut (s':=(ofG 75 (kS (kAF [])),(kE b.Day b.Lots b.Holds (kD e.Kind e.Day e.Lot e.Amount e.Yarn e.Dye e.Order (kH (kC j k n o q d f g c r [])))))) ?_ ?_
 ·obtain⟨r1,H,a⟩:=bnd a
  rcases wyB a with⟨c2,a⟩|⟨c2,a⟩
  ·obtain⟨r3,e_r3,a⟩:=bnd a
   obtain⟨T,e_r4,a⟩:=bnd a
   simp only[ZI,ZP]at a
   obtain⟨rfl,rfl,rfl,rfl,rfl,rfl,rfl,rfl,rfl,rfl⟩:=a
   exact qgY.rq fol [0,3,7,10] (kS (kAF [])) (kE b.Day b.Lots b.Holds (kD e.Kind e.Day e.Lot e.Amount e.Yarn e.Dye e.Order (kH (kC T.lot.Name T.lot.Yarn T.lot.Dye T.lot.Stock T.known T.hold.Lot T.hold.Order T.hold.Reserved T.hold.Taken T.free [])))) (ac (cv (qeG H)) (ac (hs (.done (qiU ZT 143 (fm1) (.str e.Kind) false) (.agg [.func (.func 132) [] [],.func (.func 133) [] []])) (qrY qsC [[114,101,99,101,105,118,101],[114,101,115,101,114,118,101],[114,101,108,101,97,115,101],[116,97,107,101],[114,101,116,117,114,110]] (qjE c2) rfl)) (ac (cv (qix N b e e_r3)) (ac (cv (quS r3 e.Amount e_r4)) az))))
  rcases wyB a with⟨c5,a⟩|⟨c5,a⟩
  ·obtain⟨r6,e_r6,a⟩:=bnd a
   obtain⟨U,e_r7,a⟩:=bnd a
   simp only[ZI,ZP]at a
   obtain⟨rfl,rfl,rfl,rfl,rfl,rfl,rfl,rfl,rfl,rfl⟩:=a
   exact qgY.rq fol [0,3,7,10] (kS (kAF [])) (kE b.Day b.Lots b.Holds (kD e.Kind e.Day e.Lot e.Amount e.Yarn e.Dye e.Order (kH (kC U.lot.Name U.lot.Yarn U.lot.Dye U.lot.Stock U.known U.hold.Lot U.hold.Order U.hold.Reserved U.hold.Taken U.free [])))) (ac (cv (qeG H)) (ac (hs (.done (qiU ZT 143 (fm1) (.str e.Kind) false) (.agg [.func (.func 134) [] [],.func (.func 135) [] []])) (qrY qsC [[114,101,99,101,105,118,101],[114,101,115,101,114,118,101],[114,101,108,101,97,115,101],[116,97,107,101],[114,101,116,117,114,110]] (xw c2 (qjE c5)) rfl)) (ac (cv (qix N b e e_r6)) (ac (cv (quM r6 e.Amount e_r7)) az))))
  rcases wyB a with⟨c8,a⟩|⟨c8,a⟩
  ·obtain⟨r9,e_r9,a⟩:=bnd a
   obtain⟨B,Y,a⟩:=bnd a
   simp only[ZI,ZP]at a
   obtain⟨rfl,rfl,rfl,rfl,rfl,rfl,rfl,rfl,rfl,rfl⟩:=a
   exact qgY.rq fol [0,3,7,10] (kS (kAF [])) (kE b.Day b.Lots b.Holds (kD e.Kind e.Day e.Lot e.Amount e.Yarn e.Dye e.Order (kH (kC B.lot.Name B.lot.Yarn B.lot.Dye B.lot.Stock B.known B.hold.Lot B.hold.Order B.hold.Reserved B.hold.Taken B.free [])))) (ac (cv (qeG H)) (ac (hs (.done (qiU ZT 143 (fm1) (.str e.Kind) false) (.agg [.func (.func 137) [] [],.func (.func 138) [] []])) (qrY qsC [[114,101,99,101,105,118,101],[114,101,115,101,114,118,101],[114,101,108,101,97,115,101],[116,97,107,101],[114,101,116,117,114,110]] (xw c2 (xw c5 (qjE c8))) rfl)) (ac (cv (qix N b e e_r9)) (ac (cv (quP r9 e.Amount Y)) az))))
  rcases wyB a with⟨Z,a⟩|⟨Z,a⟩
  ·obtain⟨r12,a0,a⟩:=bnd a
   obtain⟨C,a1,a⟩:=bnd a
   simp only[ZI,ZP]at a
   obtain⟨rfl,rfl,rfl,rfl,rfl,rfl,rfl,rfl,rfl,rfl⟩:=a
   exact qgY.rq fol [0,3,7,10] (kS (kAF [])) (kE b.Day b.Lots b.Holds (kD e.Kind e.Day e.Lot e.Amount e.Yarn e.Dye e.Order (kH (kC C.lot.Name C.lot.Yarn C.lot.Dye C.lot.Stock C.known C.hold.Lot C.hold.Order C.hold.Reserved C.hold.Taken C.free [])))) (ac (cv (qeG H)) (ac (hs (.done (qiU ZT 143 (fm1) (.str e.Kind) false) (.agg [.func (.func 139) [] [],.func (.func 140) [] []])) (qrY qsC [[114,101,99,101,105,118,101],[114,101,115,101,114,118,101],[114,101,108,101,97,115,101],[116,97,107,101],[114,101,116,117,114,110]] (xw c2 (xw c5 (xw c8 (qjE Z)))) rfl)) (ac (cv (qix N b e a0)) (ac (cv (qya r12 e.Amount a1)) az))))
  rcases wyB a with⟨c14,a⟩|⟨c14,a⟩
  ·obtain⟨r15,a2,a⟩:=bnd a
   obtain⟨D,a3,a⟩:=bnd a
   simp only[ZI,ZP]at a
   obtain⟨rfl,rfl,rfl,rfl,rfl,rfl,rfl,rfl,rfl,rfl⟩:=a
   exact qgY.rq fol [0,3,7,10] (kS (kAF [])) (kE b.Day b.Lots b.Holds (kD e.Kind e.Day e.Lot e.Amount e.Yarn e.Dye e.Order (kH (kC D.lot.Name D.lot.Yarn D.lot.Dye D.lot.Stock D.known D.hold.Lot D.hold.Order D.hold.Reserved D.hold.Taken D.free [])))) (ac (cv (qeG H)) (ac (hs (.done (qiU ZT 143 (fm1) (.str e.Kind) false) (.agg [.func (.func 141) [] [],.func (.func 142) [] []])) (qrY qsC [[114,101,99,101,105,118,101],[114,101,115,101,114,118,101],[114,101,108,101,97,115,101],[116,97,107,101],[114,101,116,117,114,110]] (xw c2 (xw c5 (xw c8 (xw Z (qjE c14))))) rfl)) (ac (cv (qix N b e a2)) (ac (cv (qu0 r15 e.Amount a3)) az))))
  cases a
 try dsimp only at h
 obtain⟨_,a4,h⟩:=bnd h
 refine sq (gq fol [4] (kS (kAF [(6,.ptr 5 0)])) (kE b.Day b.Lots b.Holds (kD e.Kind e.Day e.Lot e.Amount e.Yarn e.Dye e.Order (kH (kC j k n o q d f g c r (kAE b.Lots (kAB e.Day b.Lots [])))))) (ac (hs (.callH 120 [vl qN b.Lots] (kE b.Day b.Lots b.Holds (kD e.Kind e.Day e.Lot e.Amount e.Yarn e.Dye e.Order (kH (kC j k n o q d f g c r [])))) [] (.gslice 4 b.Lots.length 4) (kE b.Day b.Lots b.Holds (kD e.Kind e.Day e.Lot e.Amount e.Yarn e.Dye e.Order (kH (kC j k n o q d f g c r (kAE b.Lots [])))))) (qwd [] [none,none,none,none,some 0] (qEg b.Lots a4) .nil rfl rfl (.old rfl rfl (.old rfl rfl (.old rfl rfl (.old rfl rfl (.new rfl rfl (.same fa) rfl .nil))))) (rc (.same (qbl qN _)) rn) (.gslice rfl) rfl)) az) ?_)
 refine sq ?_
 obtain⟨s,a5,h⟩:=bnd h
 refine sq (gr fol [3] (kAG (kAF [(6,.ptr 5 0),(7,.i s.1),(8,.bool s.2)])) (ac (hs (.call 80 [.agg [.i e.Day,.gslice 4 b.Lots.length 4,.nilslice],.str e.Lot] (kE b.Day b.Lots b.Holds (kD e.Kind e.Day e.Lot e.Amount e.Yarn e.Dye e.Order (kH (kC j k n o q d f g c r (kAE b.Lots (kAB e.Day b.Lots [])))))) [4] [.agg [.i e.Day,vl qN b.Lots,.nilslice],.str e.Lot] (.tuple [.i s.1,.bool s.2])) (qma (FzL.cons (Fz.agg (FzL.cons (Ua tI) (FzL.cons (Fz.gs (E:=qN) rfl rfl (nl rfl)) (FzL.cons (Ua (Still.nilslice 10)) FzL.nil)))) (FzL.cons (Ua tS) FzL.nil)) ((zu.wk (qq0 N (⟨e.Day,b.Lots,[]⟩:StateT) e.Lot a5) (WkL.cons (Wk.agg (WkL.cons (Wk.refl _) (WkL.cons (Wk.refl _) (WkL.cons (Wk.nilv (E:=qJ)) WkL.nil)))) (WkL.cons (Wk.refl _) WkL.nil)))) (Still.tuple (AllST.cons tI (AllST.cons tB AllST.nil))) rfl)) az) ?_)
 refine sh fol (kAG (kAF [(6,.ptr 5 0),(7,.i s.1),(33,.bool s.2)])) ?_
 obtain⟨r31,t,h⟩:=bnd h
 refine Goes.imp (Q:=fun x s'=>(x= .normal/\ ∃p,p=r31/\Sub s' (ofG 75 (kM (kV [])),(kE b.Day b.Lots b.Holds (kH (kC j k n o q d f g c r (kAS e.Day p []))))))) ?_ ?_
 ·refine ihB t (fun c32 t=>?_) (fun c32 t=>?_)
  ·obtain⟨x33,K,t⟩:=bnd t
   obtain⟨L,M,t⟩:=bnd t
   refine gq fol [5,6] (kAG (kAF [(6,.ptr 5 0)])) (kE b.Day b.Lots b.Holds (kD e.Kind e.Day e.Lot e.Amount e.Yarn e.Dye e.Order (kH (kC j k n o q d f g c r (kAE L (kAB e.Day b.Lots [])))))) (ac (hs (.done (.opt (yX ZT 27 (.gslice 4 b.Lots.length 4) (.i s.1))) (.ptr 4 ((s.1:Int).toNat*4+0))) (qDZ qzZ K)) (ac (hs (.run [4] (qwg ZT 71 (.ptr 4 ((s.1:Int).toNat*4+0)) (.agg [.str j,.str k,.str n,.i o])) (kE b.Day b.Lots b.Holds (kD e.Kind e.Day e.Lot e.Amount e.Yarn e.Dye e.Order (kH (kC j k n o q d f g c r (kAE b.Lots (kAB e.Day b.Lots [])))))) .undef (kE b.Day b.Lots b.Holds (kD e.Kind e.Day e.Lot e.Amount e.Yarn e.Dye e.Order (kH (kC j k n o q d f g c r (kAE L (kAB e.Day b.Lots [])))))) true) (qGX (E:=qN) (l:=b.Lots) (y:=(⟨j,k,n,o⟩:zY)) rfl (show _=some 4 by kernel_rfl) rfl K rfl rfl rfl rfl rfl M rfl)) az)) ?_
   obtain rfl:=si t
   exact⟨rfl,_,rfl,((show Sub (ofG 75 (kAG (kAF [(6,.ptr 5 0)])),(kE b.Day b.Lots b.Holds (kD e.Kind e.Day e.Lot e.Amount e.Yarn e.Dye e.Order (kH (kC j k n o q d f g c r (kAE L (kAB e.Day b.Lots []))))))) (ofG 75 (kM (kV [])),(kE b.Day b.Lots b.Holds (kH (kC j k n o q d f g c r (kAB e.Day L (kAE L []))))))from(Sub.norm [] [some 0,some 2,some 3,some 5,some 4] rfl rfl (.kp (.kp (.kp (.kp .nil)))) (.kb rfl (.same sn) (.kb rfl (.same sn) (.kb rfl (.same sn) (.kb rfl (.cells (rc (.same nI) (rc (.gsliceE rfl (qCr M)) (rc (.same (qbg.nilslice)) rn)))) (.ks .nil))))))).trans (Sub.norm [4] [some 0,some 1,some 2,some 3] rfl rfl (.kp (.kp (.kp (.kp .nil)))) (.kb rfl (.same sn) (.kb rfl (.same sn) (.kb rfl (.same sn) (.kb rfl (.cells (rc (.same nI) (rc (.frz (Fz.gs (E:=qN) rfl rfl (nl rfl)) (qbl qN _)) (rc (.same (qbg.nilslice)) rn)))) .nil))))))⟩
  obtain⟨V,a6,t⟩:=bnd t
  refine gq fol [6] (kAG (kAF [(6,.ptr 5 0)])) (kE b.Day b.Lots b.Holds (kD e.Kind e.Day e.Lot e.Amount e.Yarn e.Dye e.Order (kH (kC j k n o q d f g c r (.dead:: .cells [.i e.Day,.oslice 7 V.length 4,.nilslice]::(kX j k n o (kAE V []))))))) (ac (hs (.callH 121 [.gslice 4 b.Lots.length 4,.i s.1,.slice 6 0 1 1 4] (kE b.Day b.Lots b.Holds (kD e.Kind e.Day e.Lot e.Amount e.Yarn e.Dye e.Order (kH (kC j k n o q d f g c r (kAE b.Lots (kAB e.Day b.Lots (kX j k n o []))))))) [4,6] (.oslice 7 V.length 4) (kE b.Day b.Lots b.Holds (kD e.Kind e.Day e.Lot e.Amount e.Yarn e.Dye e.Order (kH (kC j k n o q d f g c r (.dead::(kAB e.Day b.Lots (kX j k n o (kAE V []))))))))) (qwd [some 4,some 6] [none,none,none,none,none,none,some 1,some 2] (qF3 b.Lots s.1 j k n o a6) (.ks (.kb rfl (.cells (rc (.same nS) (rc (.same nS) (rc (.same nS) (rc (.same nI) rn))))) .nil)) rfl rfl (.old rfl rfl (.old rfl rfl (.old rfl rfl (.old rfl rfl (.dead (.old rfl rfl (.back rfl rfl (.cells (rc (.same nS) (rc (.same nS) (rc (.same nS) (rc (.same nI) rn))))) rfl (.new rfl rfl (.same fa) rfl .nil)))))))) (rc (.gslice rfl) (rc (.same nI) (rc (.slice rfl) rn))) (.oslice rfl) rfl)) az) ?_
  obtain rfl:=si t
  exact⟨rfl,_,rfl,(Sub.norm [7] [some 0,some 2,some 3,some 5] rfl rfl (.kp (.kp (.kp (.kp .nil)))) (.kb rfl (.same sn) (.kb rfl (.same sn) (.kb rfl (.same sn) (.kb rfl (.cells (rc (.same nI) (rc (.frz (Fz.os (E:=qN) rfl rfl (nl rfl)) (qbl qN _)) (rc (.same (qbg.nilslice)) rn)))) .nil)))))⟩
 rintro x s' ⟨rfl,p,rfl,hsub⟩
 refine Goes.sub hsub ?_
 refine sq ?_
 obtain⟨_,O,h⟩:=bnd h
 obtain⟨r38,P,h⟩:=bnd h
 rcases r38 with _|u
 ·try dsimp only at h
  refine gq fol [2,4] (kAf (kV [])) (kE b.Day b.Lots b.Holds (kH (kC j k n o q d f g c r (.cells [.i e.Day,vl qN p,.gslice 4 b.Holds.length 4]::(kG b.Holds []))))) (ac (hs (.callH 123 [vl qJ b.Holds] (kE b.Day b.Lots b.Holds (kH (kC j k n o q d f g c r (kAS e.Day p [])))) [] (.gslice 4 b.Holds.length 4) (kE b.Day b.Lots b.Holds (kH (kC j k n o q d f g c r (kAS e.Day p (kG b.Holds [])))))) (qwd [] [none,none,none,none,some 0] (qzb b.Holds O) .nil rfl rfl (.old rfl rfl (.old rfl rfl (.old rfl rfl (.old rfl rfl (.new rfl rfl (.same fa) rfl .nil))))) (rc (.same (qbl qJ _)) rn) (.gslice rfl) rfl)) (ac (hs (.callH 122 [.gslice 4 b.Holds.length 4,.func (.func 124) [] [.ptr 2 0]] (kE b.Day b.Lots b.Holds (kH (kC j k n o q d f g c r (kAS e.Day p (kG b.Holds []))))) [4,2] (.gslice 4 b.Holds.length 4) (kE b.Day b.Lots b.Holds (kH (kC j k n o q d f g c r (kAS e.Day p (kG b.Holds [])))))) (qwd [some 4,some 2] [none,none,some 1,none,some 0] (qrG N b.Holds j k n o q d f g c r P) (.ks (.kb rfl (.cells (rc (.same nS) (rc (.same nS) (rc (.same nS) (rc (.same nI) (rc (.same nB) (rc (.same nS) (rc (.same nS) (rc (.same nI) (rc (.same nI) (rc (.same nI) rn))))))))))) .nil)) rfl rfl (.old rfl rfl (.old rfl rfl (.back rfl rfl (.cells (rc (.same nS) (rc (.same nS) (rc (.same nS) (rc (.same nI) (rc (.same nB) (rc (.same nS) (rc (.same nS) (rc (.same nI) (rc (.same nI) (rc (.same nI) rn))))))))))) rfl (.old rfl rfl (.back rfl rfl (.same fa) rfl .nil))))) (rc (.gslice rfl) (rc (.funcL (sn) (rc (.ptr rfl) rn)) rn)) (.gslice rfl) rfl)) az)) ?_
  refine sq ?_
  refine sq ?_
  obtain⟨b41,v,h⟩:=bnd h
  refine Goes.cut (s':=(ofG 75 (kAf (kV [(63,.bool b41)])),(kE b.Day b.Lots b.Holds (kH (kC j k n o q d f g c r (.cells [.i e.Day,vl qN p,.gslice 4 b.Holds.length 4]::(kG b.Holds []))))))) ?_ ?_
  ·rcases wyD v with⟨a7,v⟩|⟨a7,v⟩
   ·obtain rfl:=si v
    exact tr fol [4] (kAf (kV [(63,.bool true)])) (ac (gw a7) az)
   obtain rfl:=si v
   exact tr fol [4] (kAf (kV [(63,.bool (decide (c>0)))])) (ac (gw a7) az)
  obtain⟨r44,I,h⟩:=bnd h
  refine Goes.imp (Q:=fun x s'=>(x= .normal/\ ∃w,w=r44/\Sub s' (ofG 75 kAU,(kH (kAK e.Day p w (kG w [])))))) ?_ ?_
  ·refine ihB I (fun c45 I=>?_) (fun c45 I=>?_)
   ·obtain⟨W,a8,I⟩:=bnd I
    refine gq fol [5] (kAf [(6,.ptr 3 0)]) (kE b.Day b.Lots b.Holds (kH (kC j k n o q d f g c r (.cells [.i e.Day,vl qN p,.gslice 6 W.length 4]:: .dead::(kL d f g c (kG W [])))))) (ac (hs (.run [4,5] (qqW ZT [28,28] (.gslice 4 b.Holds.length 4) (.slice 5 0 1 1 4)) (kE b.Day b.Lots b.Holds (kH (kC j k n o q d f g c r (.cells [.i e.Day,vl qN p,.gslice 4 b.Holds.length 4]::(kG b.Holds (kL d f g c [])))))) (.gslice 6 W.length 4) (kE b.Day b.Lots b.Holds (kH (kC j k n o q d f g c r (.cells [.i e.Day,vl qN p,.gslice 4 b.Holds.length 4]:: .dead::(kL d f g c (kG W [])))))) true) (qyQ qtu (E:=qJ) rfl (qEj (E:=qJ) (ys:=[(⟨d,f,g,c⟩:qE)]) rfl rfl rfl rfl) (qFg (E:=qJ) (l:=b.Holds) rfl rfl rfl a8 rfl))) az) ?_
    obtain rfl:=si I
    exact⟨rfl,_,rfl,(Sub.norm [] [some 1,some 3,some 6] rfl rfl (.kp (.kp .nil)) (.kb rfl (.same sn) (.kb rfl (.cells (rc (.same nI) (rc (.same (qbl qN _)) (rc (.gslice rfl) rn)))) (.ks .nil))))⟩
   refine Goes.skip ?_
   obtain rfl:=si I
   exact⟨rfl,_,rfl,(Sub.norm [] [some 1,some 3,some 4] rfl rfl (.kp (.drop (.kp .nil))) (.kb rfl (.same sn) (.kb rfl (.cells (rc (.same nI) (rc (.same (qbl qN _)) (rc (.gslice rfl) rn)))) (.ks .nil))))⟩
  rintro x s' ⟨rfl,w,rfl,hsub⟩
  refine Goes.sub hsub ?_
  obtain⟨F,a9,h⟩:=bnd h
  obtain⟨u49,b0,h⟩:=bnd h
  refine sq (gq fol [2] kAU (kH (kAK e.Day p w (kG F []))) (ac (hs (.callH 126 [.gslice 2 w.length 4,.func (.func 127) [] []] (kH (kAK e.Day p w (kG w []))) [2] (.tuple []) (kH (kAK e.Day p w (kG F [])))) (qwd [some 2] [none,none,some 0] (qCM w a9) (.ks .nil) rfl rfl (.old rfl rfl (.old rfl rfl (.back rfl rfl (.same fa) rfl .nil))) (rc (.gslice rfl) (rc (.same (qbg.func sn sn)) rn)) (.same (qbg.tuple sn)) rfl)) az) ?_)
  refine Goes.sub (show Sub (ofG 75 kAU,(kH (kAK e.Day p w (kG F [])))) (ofG 75 kAU,(kH (kAK e.Day p F (kG F []))))from(Sub.norm [] [some 0,some 1,some 2] rfl rfl (.kp (.kp .nil)) (.kb rfl (.same sn) (.kb rfl (.cells (rc (.same nI) (rc (.same (qbl qN _)) (rc (.gsliceE rfl (qFn b0)) rn)))) (.ks .nil))))) ?_
  refine sg fol kAq (kAK e.Day p F (kAK e.Day p F (kG F []))) ?_
  refine Goes.ret ?_
  obtain rfl:=si h
  exact(gw2 [.agg [.i e.Day,vl qN p,.gslice 2 F.length 4]] (FzW.agg (xI.cons (Ub tI) (xI.cons (Ub (jo qN _ (nl rfl))) (xI.cons (FzW.fz (Fz.gs (E:=qJ) rfl rfl (nl rfl))) xI.nil)))))
 try dsimp only at h
 refine gq fol [2,4] (kAf (kV [])) (kE b.Day b.Lots b.Holds (kH (kC j k n o q d f g c r (.cells [.i e.Day,vl qN p,.oslice 4 u.length 4]::(kG u []))))) (ac (hs (.callH 123 [vl qJ b.Holds] (kE b.Day b.Lots b.Holds (kH (kC j k n o q d f g c r (kAS e.Day p [])))) [] (.gslice 4 b.Holds.length 4) (kE b.Day b.Lots b.Holds (kH (kC j k n o q d f g c r (kAS e.Day p (kG b.Holds [])))))) (qwd [] [none,none,none,none,some 0] (qzb b.Holds O) .nil rfl rfl (.old rfl rfl (.old rfl rfl (.old rfl rfl (.old rfl rfl (.new rfl rfl (.same fa) rfl .nil))))) (rc (.same (qbl qJ _)) rn) (.gslice rfl) rfl)) (ac (hs (.callH 122 [.gslice 4 b.Holds.length 4,.func (.func 124) [] [.ptr 2 0]] (kE b.Day b.Lots b.Holds (kH (kC j k n o q d f g c r (kAS e.Day p (kG b.Holds []))))) [4,2] (.oslice 4 u.length 4) (kE b.Day b.Lots b.Holds (kH (kC j k n o q d f g c r (kAS e.Day p (kG u [])))))) (qwd [some 4,some 2] [none,none,some 1,none,some 0] (qrw N b.Holds j k n o q d f g c r P) (.ks (.kb rfl (.cells (rc (.same nS) (rc (.same nS) (rc (.same nS) (rc (.same nI) (rc (.same nB) (rc (.same nS) (rc (.same nS) (rc (.same nI) (rc (.same nI) (rc (.same nI) rn))))))))))) .nil)) rfl rfl (.old rfl rfl (.old rfl rfl (.back rfl rfl (.cells (rc (.same nS) (rc (.same nS) (rc (.same nS) (rc (.same nI) (rc (.same nB) (rc (.same nS) (rc (.same nS) (rc (.same nI) (rc (.same nI) (rc (.same nI) rn))))))))))) rfl (.old rfl rfl (.back rfl rfl (.same fa) rfl .nil))))) (rc (.gslice rfl) (rc (.funcL (sn) (rc (.ptr rfl) rn)) rn)) (.oslice rfl) rfl)) az)) ?_
 refine sq ?_
 refine sq ?_
 obtain⟨b51,z,h⟩:=bnd h
 refine Goes.cut (s':=(ofG 75 (kAf (kV [(63,.bool b51)])),(kE b.Day b.Lots b.Holds (kH (kC j k n o q d f g c r (.cells [.i e.Day,vl qN p,.oslice 4 u.length 4]::(kG u []))))))) ?_ ?_
 ·rcases wyD z with⟨b1,z⟩|⟨b1,z⟩
  ·obtain rfl:=si z
   exact tr fol [4] (kAf (kV [(63,.bool true)])) (ac (gw b1) az)
  obtain rfl:=si z
  exact tr fol [4] (kAf (kV [(63,.bool (decide (c>0)))])) (ac (gw b1) az)
 obtain⟨r54,J,h⟩:=bnd h
 refine Goes.imp (Q:=fun x s'=>(x= .normal/\ ∃A,A=r54/\Sub s' (ofG 75 kAU,(kH (kAL e.Day p A (kG A [])))))) ?_ ?_
 ·refine ihB J (fun c55 J=>?_) (fun c55 J=>?_)
  ·obtain⟨X,b2,J⟩:=bnd J
   refine gq fol [5] (kAf [(6,.ptr 3 0)]) (kE b.Day b.Lots b.Holds (kH (kC j k n o q d f g c r (.cells [.i e.Day,vl qN p,.oslice 6 X.length 4]:: .dead::(kL d f g c (kG X [])))))) (ac (hs (.run [4,5] (qqW ZT [28,28] (.oslice 4 u.length 4) (.slice 5 0 1 1 4)) (kE b.Day b.Lots b.Holds (kH (kC j k n o q d f g c r (.cells [.i e.Day,vl qN p,.oslice 4 u.length 4]::(kG u (kL d f g c [])))))) (.oslice 6 X.length 4) (kE b.Day b.Lots b.Holds (kH (kC j k n o q d f g c r (.cells [.i e.Day,vl qN p,.oslice 4 u.length 4]:: .dead::(kL d f g c (kG X [])))))) true) (qyQ qtu (E:=qJ) rfl (qEj (E:=qJ) (ys:=[(⟨d,f,g,c⟩:qE)]) rfl rfl rfl rfl) (dst_o (E:=qJ) (l:=u) rfl rfl rfl b2 rfl))) az) ?_
   obtain rfl:=si J
   exact⟨rfl,_,rfl,(Sub.norm [] [some 1,some 3,some 6] rfl rfl (.kp (.kp .nil)) (.kb rfl (.same sn) (.kb rfl (.cells (rc (.same nI) (rc (.same (qbl qN _)) (rc (.oslice rfl) rn)))) (.ks .nil))))⟩
  refine Goes.skip ?_
  obtain rfl:=si J
  exact⟨rfl,_,rfl,(Sub.norm [] [some 1,some 3,some 4] rfl rfl (.kp (.drop (.kp .nil))) (.kb rfl (.same sn) (.kb rfl (.cells (rc (.same nI) (rc (.same (qbl qN _)) (rc (.oslice rfl) rn)))) (.ks .nil))))⟩
 rintro x s' ⟨rfl,A,rfl,hsub⟩
 refine Goes.sub hsub ?_
 obtain⟨G,b3,h⟩:=bnd h
 obtain⟨u59,b4,h⟩:=bnd h
 refine sq (gq fol [2] kAU (kH (kAL e.Day p A (kG G []))) (ac (hs (.callH 126 [.oslice 2 A.length 4,.func (.func 127) [] []] (kH (kAL e.Day p A (kG A []))) [2] (.tuple []) (kH (kAL e.Day p A (kG G [])))) (qwd [some 2] [none,none,some 0] (qCO A b3) (.ks .nil) rfl rfl (.old rfl rfl (.old rfl rfl (.back rfl rfl (.same fa) rfl .nil))) (rc (.oslice rfl) (rc (.same (qbg.func sn sn)) rn)) (.same (qbg.tuple sn)) rfl)) az) ?_)
 refine Goes.sub (show Sub (ofG 75 kAU,(kH (kAL e.Day p A (kG G [])))) (ofG 75 kAU,(kH (kAL e.Day p G (kG G []))))from(Sub.norm [] [some 0,some 1,some 2] rfl rfl (.kp (.kp .nil)) (.kb rfl (.same sn) (.kb rfl (.cells (rc (.same nI) (rc (.same (qbl qN _)) (rc (.osliceE rfl (qFn b4)) rn)))) (.ks .nil))))) ?_
 refine sg fol kAq (kAL e.Day p G (kAL e.Day p G (kG G []))) ?_
 refine Goes.ret ?_
 obtain rfl:=si h
 exact(gw2 [.agg [.i e.Day,vl qN p,.oslice 2 G.length 4]] (FzW.agg (xI.cons (Ub tI) (xI.cons (Ub (jo qN _ (nl rfl))) (xI.cons (FzW.fz (Fz.os (E:=qJ) rfl rfl (nl rfl))) xI.nil)))))
end Go.Av
