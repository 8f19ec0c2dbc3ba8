/-
  Walks of functions: what each computes, as a plain function.
-/
import Derived.Test.YtcnioemfifogeaaGreatDoorQGenA1k1
noncomputable section
namespace Go.Av
open Go.Proofs Go.RowKit
set_option linter.unusedSectionVars false
set_option linter.unusedVariables false
set_option linter.unusedSimpArgs false
set_option maxRecDepth 100000
def qa8 (a:qp) (b:ql):Option Bool:=
 (qdx a).bind fun c=>
 (qdx b.hold).bind fun d=>
 some ((c.lot==d.lot)&&((c.order==d.order)&&true))
theorem qd8 (d:qp) (c:ql) {res:Bool} (h:qa8 d c=some res):qE ZT (.fn 124) (kAJ d.Lot d.Order d.Reserved d.Taken [.fptr [.str c.lot.Name,.str c.lot.Yarn,.str c.lot.Dye,.i c.lot.Stock,.bool c.known,.str c.hold.Lot,.str c.hold.Order,.i c.hold.Reserved,.i c.hold.Taken,.i c.free] 0]) [] (.bool res) []:=by
 unfold qa8 at h
 refine Uc Tryz.func124 rfl rfl (m:=10) rfl (rs:=[.tmp 3]) rfl (l:=(kAw d.Lot d.Order d.Reserved d.Taken [(1,.fptr [.str c.lot.Name,.str c.lot.Yarn,.str c.lot.Dye,.i c.lot.Stock,.bool c.known,.str c.hold.Lot,.str c.hold.Order,.i c.hold.Reserved,.i c.hold.Taken,.i c.free] 0)])) rfl ?_
 refine sg fol ((1,.fptr [.str c.lot.Name,.str c.lot.Yarn,.str c.lot.Dye,.i c.lot.Stock,.bool c.known,.str c.hold.Lot,.str c.hold.Order,.i c.hold.Reserved,.i c.hold.Taken,.i c.free] 0)::(kAC [])) (kM d.Lot d.Order d.Reserved d.Taken []) ?_
 obtain⟨f,j,h⟩:=bnd h
 obtain⟨g,k,h⟩:=bnd h
 refine sq (gr fol [1,4,5] (kAu ((f.lot==g.lot)&&((f.order==g.order)&&true))) (ac (cv (qfv d j)) (ac (cv (qfv c.hold k)) (ac (hs (.done (.opt (qlB ZT .eql 190 (.tmp 5) (.tmp 8) (.agg [.str f.lot,.str f.order]) (.agg [.str g.lot,.str g.order]))) (.bool ((f.lot==g.lot)&&((f.order==g.order)&&true)))) (qxR qvR (e:=((f.lot==g.lot)&&((f.order==g.order)&&true))) (.cons (a:= .str f.lot) (b:= .str g.lot) rfl (by kernel_rfl) (by kernel_rfl) (by kernel_rfl) (.cons (a:= .str f.order) (b:= .str g.order) rfl (by kernel_rfl) (by kernel_rfl) (by kernel_rfl) .nil)))) az))) ?_)
 refine Goes.ret ?_
 obtain rfl:=si h
 exact(gw2 [.bool ((f.lot==g.lot)&&((f.order==g.order)&&true))] (Ub tB))
def jF (a:List qp) (b:ql):Nat->Int->Option (Unit⊕Int)
 |0,_=>none
 |K+1,c=>
  if c<(a.length:Int)then
  (idx a c).bind fun d=>
  (qa8 d b).bind fun e=>
  if e=true then
  some (.inr c)
  else
  jF a b K (w64 (c+1))
  else
  some (.inl ())
def qcy (N:Nat) (a:List qp) (b:ql):Option Int:=
 (jF a b N 0).bind (fun
 |(.inl ())=>
 some (-1)
 |(.inr c)=>
 some c)
theorem qfa (N:Nat) (b:List qp) (a:ql) {res:Int} (h:qcy N b a=some res):qE ZT (.fn 174) [vl qg b,.func (.func 124) [] [.fptr [.str a.lot.Name,.str a.lot.Yarn,.str a.lot.Dye,.i a.lot.Stock,.bool a.known,.str a.hold.Lot,.str a.hold.Order,.i a.hold.Reserved,.i a.hold.Taken,.i a.free] 0]] [] (.i res) []:=by
 unfold qcy at h
 refine Uc Tryz.func174 rfl rfl (m:=19) rfl (rs:=[.tmp 4]) rfl (l:=(kAO b [(1,.func (.func 124) [] [.fptr [.str a.lot.Name,.str a.lot.Yarn,.str a.lot.Dye,.i a.lot.Stock,.bool a.known,.str a.hold.Lot,.str a.hold.Order,.i a.hold.Reserved,.i a.hold.Taken,.i a.free] 0])])) rfl ?_
 refine sh fol (kAO b [(1,.func (.func 124) [] [.fptr [.str a.lot.Name,.str a.lot.Yarn,.str a.lot.Dye,.i a.lot.Stock,.bool a.known,.str a.hold.Lot,.str a.hold.Order,.i a.hold.Reserved,.i a.hold.Taken,.i a.free] 0])]) ?_
 refine sq ?_
 refine sh fol (kAO b ((1,.func (.func 124) [] [.fptr [.str a.lot.Name,.str a.lot.Yarn,.str a.lot.Dye,.i a.lot.Stock,.bool a.known,.str a.hold.Lot,.str a.hold.Order,.i a.hold.Reserved,.i a.hold.Taken,.i a.free] 0])::(kAv (b.length:Int)))) ?_
 refine Goes.block ?_
 obtain⟨g,g2,h⟩:=bnd h
 refine Goes.imp (Q:=fun x s'=>(x= .exit 0/\(.inl ())=g/\Sub s' (ofG 19 [],[]))\/(x= .ret/\ ∃j,(.inr j)=g/\jT ZT [.tmp 4] (.i j) .ret s')) ?_ ?_
 ·refine Ud (fun M s=> ∃(c:Int),s=(ofG 19 (kAO b ((1,.func (.func 124) [] [.fptr [.str a.lot.Name,.str a.lot.Yarn,.str a.lot.Dye,.i a.lot.Stock,.bool a.known,.str a.hold.Lot,.str a.hold.Order,.i a.hold.Reserved,.i a.hold.Taken,.i a.free] 0])::(kAE (b.length:Int) c))),[])/\jF b a M c=some g) ?_ (m:=N) ⟨_,rfl,g2⟩
  rintro M s ⟨c,rfl,g2⟩
  cases M with
  |zero=>simp only[jF]at g2;cases g2
  |succ M=>
   rw[jF]at g2
   refine sh fol (kAO b ((1,.func (.func 124) [] [.fptr [.str a.lot.Name,.str a.lot.Yarn,.str a.lot.Dye,.i a.lot.Stock,.bool a.known,.str a.hold.Lot,.str a.hold.Order,.i a.hold.Reserved,.i a.hold.Taken,.i a.free] 0])::(7,.i (b.length:Int))::(kAg c (decide (c<(b.length:Int)))))) ?_
   refine sq ?_
   refine ihD g2 (fun n g2=>?_) (fun n g2=>?_)
   ·refine Goes.skip ?_
    refine sq (Goes.block ?_)
    refine sh fol (kAO b ((1,.func (.func 124) [] [.fptr [.str a.lot.Name,.str a.lot.Yarn,.str a.lot.Dye,.i a.lot.Stock,.bool a.known,.str a.hold.Lot,.str a.hold.Order,.i a.hold.Reserved,.i a.hold.Taken,.i a.free] 0])::(5,.i c)::(kAE (b.length:Int) c))) ?_
    obtain⟨d,e,g2⟩:=bnd g2
    obtain⟨k,f,g2⟩:=bnd g2
    refine sq (gr fol [3,4,5] (kAO b [(1,.func (.func 124) [] [.fptr [.str a.lot.Name,.str a.lot.Yarn,.str a.lot.Dye,.i a.lot.Stock,.bool a.known,.str a.hold.Lot,.str a.hold.Order,.i a.hold.Reserved,.i a.hold.Taken,.i a.free] 0]),(5,.i c),(7,.i (b.length:Int)),(8,.i c),(16,.bool k)]) (ac (iv qhR qg e) (ac (la qqT qg e) (ac (hs (.call 124 (kAJ d.Lot d.Order d.Reserved d.Taken [.fptr [.str a.lot.Name,.str a.lot.Yarn,.str a.lot.Dye,.i a.lot.Stock,.bool a.known,.str a.hold.Lot,.str a.hold.Order,.i a.hold.Reserved,.i a.hold.Taken,.i a.free] 0]) [] [] (kAJ d.Lot d.Order d.Reserved d.Taken [.fptr [.str a.lot.Name,.str a.lot.Yarn,.str a.lot.Dye,.i a.lot.Stock,.bool a.known,.str a.hold.Lot,.str a.hold.Order,.i a.hold.Reserved,.i a.hold.Taken,.i a.free] 0]) (.bool k)) (jf (FzL.cons (Ua (Still.agg (AllST.cons tS (AllST.cons tS (AllST.cons tI (AllST.cons tI AllST.nil)))))) (FzL.cons (Ua (Still.fptr (AllST.cons tS (AllST.cons tS (AllST.cons tS (AllST.cons tI (AllST.cons tB (AllST.cons tS (AllST.cons tS (AllST.cons tI (AllST.cons tI (AllST.cons tI AllST.nil)))))))))))) FzL.nil)) (qd8 d a f) tB)) az))) ?_)
    refine ihB g2 (fun o g2=>?_) (fun o g2=>?_)
    ·refine sh fol (kAn c) ?_
     refine Goes.ret ?_
     obtain rfl:=si g2
     exact Or.inr (⟨rfl,_,rfl,(gw2 [.i c] (Ub tI))⟩)
    refine Goes.skip ?_
    refine gh fol (kAO b ((1,.func (.func 124) [] [.fptr [.str a.lot.Name,.str a.lot.Yarn,.str a.lot.Dye,.i a.lot.Stock,.bool a.known,.str a.hold.Lot,.str a.hold.Order,.i a.hold.Reserved,.i a.hold.Taken,.i a.free] 0])::(kAE (b.length:Int) (w64 (c+1))))) ?_
    exact⟨M,(ofG 19 (kAO b ((1,.func (.func 124) [] [.fptr [.str a.lot.Name,.str a.lot.Yarn,.str a.lot.Dye,.i a.lot.Stock,.bool a.known,.str a.hold.Lot,.str a.hold.Order,.i a.hold.Reserved,.i a.hold.Taken,.i a.free] 0])::(kAE (b.length:Int) (w64 (c+1))))),[]),Nat.lt_succ_self _,(Sub.refl _),_,rfl,g2⟩
   refine Goes.exit ?_
   obtain rfl:=si g2
   exact Or.inl (⟨rfl,rfl,(Sub.keep [] rfl rfl)⟩)
 rintro x s' (⟨rfl,rfl,hsub⟩|⟨rfl,p,rfl,hret⟩)
 ·try dsimp only at h
  refine Goes.sub hsub ?_
  refine sh fol kAq ?_
  refine Goes.ret ?_
  obtain rfl:=si h
  exact(gw2 [.i (-1)] (Ub tI))
 try dsimp only at h
 obtain rfl:=si h
 exact hret
def zn (b:Str) (c:Str) (d:Str) (e:Int) (f:Bool) (g:Str) (h:Str) (i:Int) (j:Int) (a10_:Int):Nat->(List qp)->Int->Int->Option ((List qp)×Int)
 |0,_,_,_=>none
 |K+1,a,k,m=>
  if m<(a.length:Int)then
  (((idx a m).bind fun l=>
  (qa8 l (⟨(⟨b,c,d,e⟩:qH),f,(⟨g,h,i,j⟩:qp),a10_⟩:ql)).bind fun n=>
  if(!n)=true then
  (idx a k).bind fun r=>
  (put a k l).bind fun o=>
  some (o,w64 (k+1))
  else
  some (a,k):Option ((List qp)×Int))).bind fun(p,q)=>
  zn b c d e f g h i j a10_ K p q (w64 (m+1))
  else
  some (a,k)
def jm (N:Nat) (a:List qp) (b:Str) (c:Str) (d:Str) (e:Int) (f:Bool) (g:Str) (h:Str) (i:Int) (j:Int) (a10_:Int):Option (Unit⊕(List qp)):=
 (qcy N a (⟨(⟨b,c,d,e⟩:qH),f,(⟨g,h,i,j⟩:qp),a10_⟩:ql)).bind fun n=>
 if n=(-1)then
 some (.inl ())
 else
 (zn b c d e f g h i j a10_ N a n (w64 (n+1))).bind fun(k,o)=>
 (if o=0 then
 ((if 0<k.length then some ()else none:Option Unit)).bind fun s=>
 (some (qle k 0 (⟨[],[],0,0⟩:qp))).bind fun p=>
 some p
 else
 (at' k o).bind fun l=>
 ((if l<k.length then some ()else none:Option Unit)).bind fun t=>
 (some (qle k l (⟨[],[],0,0⟩:qp))).bind fun q=>
 some q:Option (List qp)).bind fun m=>
 ((if 0<m.length then some ()else none:Option Unit)).bind fun u=>
 (cut m 0 o).bind fun r=>
 some (.inr r)
theorem qhs (N:Nat) (p:List qp) (a:Str) (b:Str) (c:Str) (d:Int) (e:Bool) (f:Str) (g:Str) (j:Int) (k:Int) (a10_:Int) (h:jm N p a b c d e f g j k a10_=some (.inl ())):qE ZT (.fn 122) [.gslice 0 p.length 4,.func (.func 124) [] [.ptr 1 0]] (kH p (kC a b c d e f g j k a10_ [])) (.gslice 0 p.length 4) (kH p (kC a b c d e f g j k a10_ [])):=by
 unfold jm at h
 refine Goes.fnH Tryz.func122 rfl rfl (m:=42) rfl (rs:=[.tmp 4]) rfl (l:=(kP p [(1,.func (.func 124) [] [.ptr 1 0])])) rfl ?_
 intro B hB
 refine sh fol (kP p [(1,.func (.func 124) [] [.ptr 1 0])]) ?_
 obtain⟨r2,e_r2,h⟩:=bnd h
 refine sq (gr fol [2] (kP p ((1,.func (.func 124) [] [.ptr 1 0])::(kAd r2))) (ac (hs (.call 174 [.gslice 0 p.length 4,.func (.func 124) [] [.ptr 1 0]] (kH p (kC a b c d e f g j k a10_ [])) [0,1] [vl qg p,.func (.func 124) [] [.fptr [.str (((⟨(⟨a,b,c,d⟩:qH),e,(⟨f,g,j,k⟩:qp),a10_⟩:ql).lot).Name),.str (((⟨(⟨a,b,c,d⟩:qH),e,(⟨f,g,j,k⟩:qp),a10_⟩:ql).lot).Yarn),.str (((⟨(⟨a,b,c,d⟩:qH),e,(⟨f,g,j,k⟩:qp),a10_⟩:ql).lot).Dye),.i (((⟨(⟨a,b,c,d⟩:qH),e,(⟨f,g,j,k⟩:qp),a10_⟩:ql).lot).Stock),.bool ((⟨(⟨a,b,c,d⟩:qH),e,(⟨f,g,j,k⟩:qp),a10_⟩:ql).known),.str (((⟨(⟨a,b,c,d⟩:qH),e,(⟨f,g,j,k⟩:qp),a10_⟩:ql).hold).Lot),.str (((⟨(⟨a,b,c,d⟩:qH),e,(⟨f,g,j,k⟩:qp),a10_⟩:ql).hold).Order),.i (((⟨(⟨a,b,c,d⟩:qH),e,(⟨f,g,j,k⟩:qp),a10_⟩:ql).hold).Reserved),.i (((⟨(⟨a,b,c,d⟩:qH),e,(⟨f,g,j,k⟩:qp),a10_⟩:ql).hold).Taken),.i ((⟨(⟨a,b,c,d⟩:qH),e,(⟨f,g,j,k⟩:qp),a10_⟩:ql).free)] 0]] (.i r2)) (qcC (FzL.cons (Fz.gs (E:=qg) rfl rfl (nl rfl)) (FzL.cons (Fz.func FzL.nil (FzL.cons (Fz.ptr rfl rfl (FzL.cons (Ua tS) (FzL.cons (Ua tS) (FzL.cons (Ua tS) (FzL.cons (Ua tI) (FzL.cons (Ua tB) (FzL.cons (Ua tS) (FzL.cons (Ua tS) (FzL.cons (Ua tI) (FzL.cons (Ua tI) (FzL.cons (Ua tI) FzL.nil))))))))))) FzL.nil)) FzL.nil)) (qfa N p (⟨(⟨a,b,c,d⟩:qH),e,(⟨f,g,j,k⟩:qp),a10_⟩:ql) e_r2) tI rfl)) az) ?_)
 refine sq ?_
 refine sh fol (kP p [(1,.func (.func 124) [] [.ptr 1 0]),(5,.i r2),(12,.bool (decide (r2=(-1))))]) ?_
 refine ihD h (fun c3 h=>?_) (fun c3 h=>?_)
 ·refine sh fol [(4,.gslice 0 p.length 4)] ?_
  refine Goes.ret ?_
  cases h
  exact(gh2 [.gslice 0 p.length 4] (qoB.refl _ _))
 refine Goes.skip ?_
 refine sq ?_
 refine sh fol (kP p ((1,.func (.func 124) [] [.ptr 1 0])::(kAL r2 (w64 (r2+1))))) ?_
 refine Goes.block ?_
 obtain⟨r9,g9,h⟩:=bnd h
 refine Goes.imp (Q:=fun x s'=>(x= .exit 0/\ ∃t v,(t,v)=r9/\Sub s' (ofG 42 (kP t (kAd v)),(kH t (kC a b c d e f g j k a10_ []))))) ?_ ?_
 ·refine Ud (fun M s=> ∃(q:List qp) (w:Int) (r:Int),s=(ofG 42 (kP q ((1,.func (.func 124) [] [.ptr 1 0])::(kAL w r))),(kH q (kC a b c d e f g j k a10_ [])))/\zn a b c d e f g j k a10_ M q w r=some r9) ?_ (m:=N) ⟨_,_,_,rfl,g9⟩
  rintro M s ⟨q,w,r,rfl,g9⟩
  cases M with
  |zero=>simp only[zn]at g9;cases g9
  |succ M=>
   rw[zn]at g9
   refine sq ?_
   refine sh fol (kP q [(1,.func (.func 124) [] [.ptr 1 0]),(5,.i w),(6,.i r),(19,.bool (decide (r<(q.length:Int))))]) ?_
   refine ihD g9 (fun c10 g9=>?_) (fun c10 g9=>?_)
   ·refine Goes.skip ?_
    refine sq ?_
    obtain⟨r13,g13,g9⟩:=bnd g9
    refine Goes.imp (Q:=fun x s'=>(x= .normal/\ ∃u C,(u,C)=r13/\Sub s' (ofG 42 (kP u ((1,.func (.func 124) [] [.ptr 1 0])::(kAL C r))),(kH u (kC a b c d e f g j k a10_ []))))) ?_ ?_
    ·refine Goes.block ?_
     obtain⟨n,D,g13⟩:=bnd g13
     refine sq (gq fol [2,3] (kP q [(1,.func (.func 124) [] [.ptr 1 0]),(5,.i w),(6,.i r),(7,.ptr 2 0)]) (kH q (kC a b c d e f g j k a10_ (kM n.Lot n.Order n.Reserved n.Taken []))) (ac (hs (.done (.opt (qP ZT 28 (.gslice 0 q.length 4) (.i r))) (.ptr 0 ((r:Int).toNat*4+0))) (qrc qhR D)) (ac (hs (.run [0] (qf0 ZT 74 (.ptr 0 ((r:Int).toNat*4+0))) (kH q (kC a b c d e f g j k a10_ [])) (.agg [.str n.Lot,.str n.Order,.i n.Reserved,.i n.Taken]) (kH q (kC a b c d e f g j k a10_ [])) false) (qwp qqT (E:=qg) (l:=q) rfl rfl D)) az)) ?_)
     obtain⟨r15,X,g13⟩:=bnd g13
     refine sq (gr fol [2] (kP q [(1,.func (.func 124) [] [.ptr 1 0]),(5,.i w),(6,.i r),(7,.ptr 2 0),(29,.bool (!r15))]) (ac (hs (.call 124 (kAJ n.Lot n.Order n.Reserved n.Taken [.ptr 1 0]) (kH q (kC a b c d e f g j k a10_ (kM n.Lot n.Order n.Reserved n.Taken []))) [1] (kAJ n.Lot n.Order n.Reserved n.Taken [.fptr [.str (((⟨(⟨a,b,c,d⟩:qH),e,(⟨f,g,j,k⟩:qp),a10_⟩:ql).lot).Name),.str (((⟨(⟨a,b,c,d⟩:qH),e,(⟨f,g,j,k⟩:qp),a10_⟩:ql).lot).Yarn),.str (((⟨(⟨a,b,c,d⟩:qH),e,(⟨f,g,j,k⟩:qp),a10_⟩:ql).lot).Dye),.i (((⟨(⟨a,b,c,d⟩:qH),e,(⟨f,g,j,k⟩:qp),a10_⟩:ql).lot).Stock),.bool ((⟨(⟨a,b,c,d⟩:qH),e,(⟨f,g,j,k⟩:qp),a10_⟩:ql).known),.str (((⟨(⟨a,b,c,d⟩:qH),e,(⟨f,g,j,k⟩:qp),a10_⟩:ql).hold).Lot),.str (((⟨(⟨a,b,c,d⟩:qH),e,(⟨f,g,j,k⟩:qp),a10_⟩:ql).hold).Order),.i (((⟨(⟨a,b,c,d⟩:qH),e,(⟨f,g,j,k⟩:qp),a10_⟩:ql).hold).Reserved),.i (((⟨(⟨a,b,c,d⟩:qH),e,(⟨f,g,j,k⟩:qp),a10_⟩:ql).hold).Taken),.i ((⟨(⟨a,b,c,d⟩:qH),e,(⟨f,g,j,k⟩:qp),a10_⟩:ql).free)] 0]) (.bool r15)) (qcC (FzL.cons (Ua (Still.agg (AllST.cons tS (AllST.cons tS (AllST.cons tI (AllST.cons tI AllST.nil)))))) (FzL.cons (Fz.ptr rfl rfl (FzL.cons (Ua tS) (FzL.cons (Ua tS) (FzL.cons (Ua tS) (FzL.cons (Ua tI) (FzL.cons (Ua tB) (FzL.cons (Ua tS) (FzL.cons (Ua tS) (FzL.cons (Ua tI) (FzL.cons (Ua tI) (FzL.cons (Ua tI) FzL.nil))))))))))) FzL.nil)) (qd8 n (⟨(⟨a,b,c,d⟩:qH),e,(⟨f,g,j,k⟩:qp),a10_⟩:ql) X) tB rfl)) az) ?_)
     refine ihB g13 (fun c16 g13=>?_) (fun c16 g13=>?_)
     ·obtain⟨x17,F,g13⟩:=bnd g13
      obtain⟨A,G,g13⟩:=bnd g13
      refine sq (gq fol [3,4] (kP q ((1,.func (.func 124) [] [.ptr 1 0])::(kAL w r))) (kH A (kC a b c d e f g j k a10_ (kM n.Lot n.Order n.Reserved n.Taken []))) (ac (hs (.done (.opt (qP ZT 28 (.gslice 0 q.length 4) (.i w))) (.ptr 0 ((w:Int).toNat*4+0))) (qrc qhR F)) (ac (hs (.run [0] (qlS ZT 74 (.ptr 0 ((w:Int).toNat*4+0)) (.agg [.str n.Lot,.str n.Order,.i n.Reserved,.i n.Taken])) (kH q (kC a b c d e f g j k a10_ (kM n.Lot n.Order n.Reserved n.Taken []))) .undef (kH A (kC a b c d e f g j k a10_ (kM n.Lot n.Order n.Reserved n.Taken []))) true) (qwg (E:=qg) (l:=q) (y:=n) rfl (show _=some 4 by kernel_rfl) rfl F rfl rfl rfl rfl rfl G rfl)) az)) ?_)
      refine Goes.sub (show Sub (ofG 42 (kP q ((1,.func (.func 124) [] [.ptr 1 0])::(kAL w r))),(kH A (kC a b c d e f g j k a10_ (kM n.Lot n.Order n.Reserved n.Taken [])))) (ofG 42 (kP A ((1,.func (.func 124) [] [.ptr 1 0])::(kAL w r))),(kH A (kC a b c d e f g j k a10_ [])))from(Sub.norm [] [some 0,some 1] (by rw[hB];rfl) rfl (.keep (.gsliceE rfl (qsj G)) (.keep (.funcL (sn) (rc (.ptr rfl) rn)) (.keep (.same nI) (.keep (.same nI) .nil)))) (.ks (.kb rfl (.same sn) .nil)))) ?_
      refine gh fol (kP A ((1,.func (.func 124) [] [.ptr 1 0])::(kAL (w64 (w+1)) r))) ?_
      obtain rfl:=si g13
      exact⟨rfl,_,_,rfl,(Sub.refl _)⟩
     refine Goes.skip ?_
     obtain rfl:=si g13
     exact⟨rfl,_,_,rfl,(Sub.norm [] [some 0,some 1] (by rw[hB];rfl) rfl (.keep (.gslice rfl) (.keep (.funcL (sn) (rc (.ptr rfl) rn)) (.keep (.same nI) (.keep (.same nI) .nil)))) (.ks (.kb rfl (.same sn) .nil)))⟩
    rintro x s' ⟨rfl,u,C,rfl,hsub⟩
    try dsimp only at g9
    refine Goes.sub hsub ?_
    refine gh fol (kP u ((1,.func (.func 124) [] [.ptr 1 0])::(kAL C (w64 (r+1))))) ?_
    exact⟨M,(ofG 42 (kP u ((1,.func (.func 124) [] [.ptr 1 0])::(kAL C (w64 (r+1))))),(kH u (kC a b c d e f g j k a10_ []))),Nat.lt_succ_self _,(Sub.refl _),_,_,_,rfl,g9⟩
   refine Goes.exit ?_
   obtain rfl:=si g9
   exact⟨rfl,_,_,rfl,(Sub.keep [0,5] rfl rfl)⟩
 rintro x s' ⟨rfl,t,v,rfl,hsub⟩
 try dsimp only at h
 refine Goes.sub hsub ?_
 refine sq ?_
 obtain⟨V,o,h⟩:=bnd h
 refine Goes.cutS (s':=(ofG 42 (kP V (kAd v)),(kH V (kC a b c d e f g j k a10_ [])))) ?_ ?_
 ·rcases wyD o with⟨Y,o⟩|⟨Y,o⟩
  ·obtain⟨u20,H,o⟩:=bnd o
   obtain⟨I,J,o⟩:=bnd o
   obtain rfl:=si o
   exact qae.sub (qae.rq fol [2,3] (kP t (kAd v)) (kH I (kC a b c d e f g j k a10_ [])) (ac (hs (.done (.opt (qeq ZT 28 (.gslice 0 t.length 4) (some (.i v)) none none)) (.oslice 0 t.length 4)) (qui qhR (ot Y) (qhv H))) (ac (hs (.run [0] (qg6 ZT [28] (.oslice 0 t.length 4)) (kH t (kC a b c d e f g j k a10_ [])) (.tuple []) (kH I (kC a b c d e f g j k a10_ [])) true) (qxZ qhR (E:=qg) (z:=(⟨[],[],0,0⟩:qp)) rfl (by kernel_rfl) rfl (qhv H) rfl J rfl)) az))) ((show Sub (ofG 42 (kP t (kAd v)),(kH I (kC a b c d e f g j k a10_ []))) (ofG 42 (kP I (kAd v)),(kH I (kC a b c d e f g j k a10_ [])))from(Sub.norm [] [some 0,some 1] (by rw[hB];rfl) rfl (.keep (.gsliceE rfl (qmw (Nat.zero_le _) J)) (.keep (.same nI) .nil)) (.ks (.kb rfl (.same sn) .nil)))).trans (Sub.refl _))
  obtain⟨W,K,o⟩:=bnd o
  obtain⟨u23,L,o⟩:=bnd o
  obtain⟨O,P,o⟩:=bnd o
  obtain rfl:=si o
  exact qae.sub (qae.rq fol [2,3] (kP t (kAd v)) (kH O (kC a b c d e f g j k a10_ [])) (ac (hs (.done (.opt (qeq ZT 28 (.gslice 0 t.length 4) (some (.i v)) none none)) (.wslice 0 (W*4) (t.length-W) 4)) (qsx qhR (of_decide_eq_false Y) K (qhv L))) (ac (hs (.run [0] (qg6 ZT [28] (.wslice 0 (W*4) (t.length-W) 4)) (kH t (kC a b c d e f g j k a10_ [])) (.tuple []) (kH O (kC a b c d e f g j k a10_ [])) true) (qx2 qhR (E:=qg) (z:=(⟨[],[],0,0⟩:qp)) rfl (by kernel_rfl) rfl (qhv L) rfl P rfl)) az))) ((show Sub (ofG 42 (kP t (kAd v)),(kH O (kC a b c d e f g j k a10_ []))) (ofG 42 (kP O (kAd v)),(kH O (kC a b c d e f g j k a10_ [])))from(Sub.norm [] [some 0,some 1] (by rw[hB];rfl) rfl (.keep (.gsliceE rfl (qmw (qx1 K) P)) (.keep (.same nI) .nil)) (.ks (.kb rfl (.same sn) .nil)))).trans (Sub.refl _))
 intro _ hsub
 refine Goes.sub hsub ?_
 obtain⟨u28,Z,h⟩:=bnd h
 obtain⟨T,U,h⟩:=bnd h
 refine sq (gr fol [2] (kAo T) (ac (hs (.done (.opt (qeq ZT 28 (.gslice 0 V.length 4) none (some (.i v)) none)) (.oslice 0 T.length 4)) (qxV qhR (qhv Z) U)) az) ?_)
 refine Goes.sub (show Sub (ofG 42 (kAo T),(kH V (kC a b c d e f g j k a10_ []))) (ofG 42 (kAo T),(kH T (kC a b c d e f g j k a10_ [])))from(Sub.norm [] [some 0,some 1] (by rw[hB];rfl) rfl (.keep (.oslice rfl) .nil) (.kb rfl (qgN.cut U) (.kb rfl (.same sn) .nil)))) ?_
 refine Goes.ret ?_
 cases h
theorem qhm (N:Nat) (p:List qp) (a:Str) (b:Str) (c:Str) (d:Int) (e:Bool) (f:Str) (g:Str) (j:Int) (k:Int) (a10_:Int) {l1:List qp} (h:jm N p a b c d e f g j k a10_=some (.inr l1)):qE ZT (.fn 122) [.gslice 0 p.length 4,.func (.func 124) [] [.ptr 1 0]] (kH p (kC a b c d e f g j k a10_ [])) (.oslice 0 l1.length 4) (kH l1 (kC a b c d e f g j k a10_ [])):=by
 unfold jm at h
 refine Goes.fnH Tryz.func122 rfl rfl (m:=42) rfl (rs:=[.tmp 4]) rfl (l:=(kP p [(1,.func (.func 124) [] [.ptr 1 0])])) rfl ?_
 intro B hB
 refine sh fol (kP p [(1,.func (.func 124) [] [.ptr 1 0])]) ?_
 obtain⟨r2,e_r2,h⟩:=bnd h
 refine sq (gr fol [2] (kP p ((1,.func (.func 124) [] [.ptr 1 0])::(kAd r2))) (ac (hs (.call 174 [.gslice 0 p.length 4,.func (.func 124) [] [.ptr 1 0]] (kH p (kC a b c d e f g j k a10_ [])) [0,1] [vl qg p,.func (.func 124) [] [.fptr [.str (((⟨(⟨a,b,c,d⟩:qH),e,(⟨f,g,j,k⟩:qp),a10_⟩:ql).lot).Name),.str (((⟨(⟨a,b,c,d⟩:qH),e,(⟨f,g,j,k⟩:qp),a10_⟩:ql).lot).Yarn),.str (((⟨(⟨a,b,c,d⟩:qH),e,(⟨f,g,j,k⟩:qp),a10_⟩:ql).lot).Dye),.i (((⟨(⟨a,b,c,d⟩:qH),e,(⟨f,g,j,k⟩:qp),a10_⟩:ql).lot).Stock),.bool ((⟨(⟨a,b,c,d⟩:qH),e,(⟨f,g,j,k⟩:qp),a10_⟩:ql).known),.str (((⟨(⟨a,b,c,d⟩:qH),e,(⟨f,g,j,k⟩:qp),a10_⟩:ql).hold).Lot),.str (((⟨(⟨a,b,c,d⟩:qH),e,(⟨f,g,j,k⟩:qp),a10_⟩:ql).hold).Order),.i (((⟨(⟨a,b,c,d⟩:qH),e,(⟨f,g,j,k⟩:qp),a10_⟩:ql).hold).Reserved),.i (((⟨(⟨a,b,c,d⟩:qH),e,(⟨f,g,j,k⟩:qp),a10_⟩:ql).hold).Taken),.i ((⟨(⟨a,b,c,d⟩:qH),e,(⟨f,g,j,k⟩:qp),a10_⟩:ql).free)] 0]] (.i r2)) (qcC (FzL.cons (Fz.gs (E:=qg) rfl rfl (nl rfl)) (FzL.cons (Fz.func FzL.nil (FzL.cons (Fz.ptr rfl rfl (FzL.cons (Ua tS) (FzL.cons (Ua tS) (FzL.cons (Ua tS) (FzL.cons (Ua tI) (FzL.cons (Ua tB) (FzL.cons (Ua tS) (FzL.cons (Ua tS) (FzL.cons (Ua tI) (FzL.cons (Ua tI) (FzL.cons (Ua tI) FzL.nil))))))))))) FzL.nil)) FzL.nil)) (qfa N p (⟨(⟨a,b,c,d⟩:qH),e,(⟨f,g,j,k⟩:qp),a10_⟩:ql) e_r2) tI rfl)) az) ?_)
 refine sq ?_
 refine sh fol (kP p [(1,.func (.func 124) [] [.ptr 1 0]),(5,.i r2),(12,.bool (decide (r2=(-1))))]) ?_
 refine ihD h (fun c3 h=>?_) (fun c3 h=>?_)
 ·refine sh fol [(4,.gslice 0 p.length 4)] ?_
  refine Goes.ret ?_
  cases h
 refine Goes.skip ?_
 refine sq ?_
 refine sh fol (kP p ((1,.func (.func 124) [] [.ptr 1 0])::(kAL r2 (w64 (r2+1))))) ?_
 refine Goes.block ?_
 obtain⟨r9,g9,h⟩:=bnd h
 refine Goes.imp (Q:=fun x s'=>(x= .exit 0/\ ∃t v,(t,v)=r9/\Sub s' (ofG 42 (kP t (kAd v)),(kH t (kC a b c d e f g j k a10_ []))))) ?_ ?_
 ·refine Ud (fun M s=> ∃(q:List qp) (w:Int) (r:Int),s=(ofG 42 (kP q ((1,.func (.func 124) [] [.ptr 1 0])::(kAL w r))),(kH q (kC a b c d e f g j k a10_ [])))/\zn a b c d e f g j k a10_ M q w r=some r9) ?_ (m:=N) ⟨_,_,_,rfl,g9⟩
  rintro M s ⟨q,w,r,rfl,g9⟩
  cases M with
  |zero=>simp only[zn]at g9;cases g9
  |succ M=>
   rw[zn]at g9
   refine sq ?_
   refine sh fol (kP q [(1,.func (.func 124) [] [.ptr 1 0]),(5,.i w),(6,.i r),(19,.bool (decide (r<(q.length:Int))))]) ?_
   refine ihD g9 (fun c10 g9=>?_) (fun c10 g9=>?_)
   ·refine Goes.skip ?_
    refine sq ?_
    obtain⟨r13,g13,g9⟩:=bnd g9
    refine Goes.imp (Q:=fun x s'=>(x= .normal/\ ∃u D,(u,D)=r13/\Sub s' (ofG 42 (kP u ((1,.func (.func 124) [] [.ptr 1 0])::(kAL D r))),(kH u (kC a b c d e f g j k a10_ []))))) ?_ ?_
    ·refine Goes.block ?_
     obtain⟨n,F,g13⟩:=bnd g13
     refine sq (gq fol [2,3] (kP q [(1,.func (.func 124) [] [.ptr 1 0]),(5,.i w),(6,.i r),(7,.ptr 2 0)]) (kH q (kC a b c d e f g j k a10_ (kM n.Lot n.Order n.Reserved n.Taken []))) (ac (hs (.done (.opt (qP ZT 28 (.gslice 0 q.length 4) (.i r))) (.ptr 0 ((r:Int).toNat*4+0))) (qrc qhR F)) (ac (hs (.run [0] (qf0 ZT 74 (.ptr 0 ((r:Int).toNat*4+0))) (kH q (kC a b c d e f g j k a10_ [])) (.agg [.str n.Lot,.str n.Order,.i n.Reserved,.i n.Taken]) (kH q (kC a b c d e f g j k a10_ [])) false) (qwp qqT (E:=qg) (l:=q) rfl rfl F)) az)) ?_)
     obtain⟨r15,X,g13⟩:=bnd g13
     refine sq (gr fol [2] (kP q [(1,.func (.func 124) [] [.ptr 1 0]),(5,.i w),(6,.i r),(7,.ptr 2 0),(29,.bool (!r15))]) (ac (hs (.call 124 (kAJ n.Lot n.Order n.Reserved n.Taken [.ptr 1 0]) (kH q (kC a b c d e f g j k a10_ (kM n.Lot n.Order n.Reserved n.Taken []))) [1] (kAJ n.Lot n.Order n.Reserved n.Taken [.fptr [.str (((⟨(⟨a,b,c,d⟩:qH),e,(⟨f,g,j,k⟩:qp),a10_⟩:ql).lot).Name),.str (((⟨(⟨a,b,c,d⟩:qH),e,(⟨f,g,j,k⟩:qp),a10_⟩:ql).lot).Yarn),.str (((⟨(⟨a,b,c,d⟩:qH),e,(⟨f,g,j,k⟩:qp),a10_⟩:ql).lot).Dye),.i (((⟨(⟨a,b,c,d⟩:qH),e,(⟨f,g,j,k⟩:qp),a10_⟩:ql).lot).Stock),.bool ((⟨(⟨a,b,c,d⟩:qH),e,(⟨f,g,j,k⟩:qp),a10_⟩:ql).known),.str (((⟨(⟨a,b,c,d⟩:qH),e,(⟨f,g,j,k⟩:qp),a10_⟩:ql).hold).Lot),.str (((⟨(⟨a,b,c,d⟩:qH),e,(⟨f,g,j,k⟩:qp),a10_⟩:ql).hold).Order),.i (((⟨(⟨a,b,c,d⟩:qH),e,(⟨f,g,j,k⟩:qp),a10_⟩:ql).hold).Reserved),.i (((⟨(⟨a,b,c,d⟩:qH),e,(⟨f,g,j,k⟩:qp),a10_⟩:ql).hold).Taken),.i ((⟨(⟨a,b,c,d⟩:qH),e,(⟨f,g,j,k⟩:qp),a10_⟩:ql).free)] 0]) (.bool r15)) (qcC (FzL.cons (Ua (Still.agg (AllST.cons tS (AllST.cons tS (AllST.cons tI (AllST.cons tI AllST.nil)))))) (FzL.cons (Fz.ptr rfl rfl (FzL.cons (Ua tS) (FzL.cons (Ua tS) (FzL.cons (Ua tS) (FzL.cons (Ua tI) (FzL.cons (Ua tB) (FzL.cons (Ua tS) (FzL.cons (Ua tS) (FzL.cons (Ua tI) (FzL.cons (Ua tI) (FzL.cons (Ua tI) FzL.nil))))))))))) FzL.nil)) (qd8 n (⟨(⟨a,b,c,d⟩:qH),e,(⟨f,g,j,k⟩:qp),a10_⟩:ql) X) tB rfl)) az) ?_)
     refine ihB g13 (fun c16 g13=>?_) (fun c16 g13=>?_)
     ·obtain⟨x17,G,g13⟩:=bnd g13
      obtain⟨A,H,g13⟩:=bnd g13
      refine sq (gq fol [3,4] (kP q ((1,.func (.func 124) [] [.ptr 1 0])::(kAL w r))) (kH A (kC a b c d e f g j k a10_ (kM n.Lot n.Order n.Reserved n.Taken []))) (ac (hs (.done (.opt (qP ZT 28 (.gslice 0 q.length 4) (.i w))) (.ptr 0 ((w:Int).toNat*4+0))) (qrc qhR G)) (ac (hs (.run [0] (qlS ZT 74 (.ptr 0 ((w:Int).toNat*4+0)) (.agg [.str n.Lot,.str n.Order,.i n.Reserved,.i n.Taken])) (kH q (kC a b c d e f g j k a10_ (kM n.Lot n.Order n.Reserved n.Taken []))) .undef (kH A (kC a b c d e f g j k a10_ (kM n.Lot n.Order n.Reserved n.Taken []))) true) (qwg (E:=qg) (l:=q) (y:=n) rfl (show _=some 4 by kernel_rfl) rfl G rfl rfl rfl rfl rfl H rfl)) az)) ?_)
      refine Goes.sub (show Sub (ofG 42 (kP q ((1,.func (.func 124) [] [.ptr 1 0])::(kAL w r))),(kH A (kC a b c d e f g j k a10_ (kM n.Lot n.Order n.Reserved n.Taken [])))) (ofG 42 (kP A ((1,.func (.func 124) [] [.ptr 1 0])::(kAL w r))),(kH A (kC a b c d e f g j k a10_ [])))from(Sub.norm [] [some 0,some 1] (by rw[hB];rfl) rfl (.keep (.gsliceE rfl (qsj H)) (.keep (.funcL (sn) (rc (.ptr rfl) rn)) (.keep (.same nI) (.keep (.same nI) .nil)))) (.ks (.kb rfl (.same sn) .nil)))) ?_
      refine gh fol (kP A ((1,.func (.func 124) [] [.ptr 1 0])::(kAL (w64 (w+1)) r))) ?_
      obtain rfl:=si g13
      exact⟨rfl,_,_,rfl,(Sub.refl _)⟩
     refine Goes.skip ?_
     obtain rfl:=si g13
     exact⟨rfl,_,_,rfl,(Sub.norm [] [some 0,some 1] (by rw[hB];rfl) rfl (.keep (.gslice rfl) (.keep (.funcL (sn) (rc (.ptr rfl) rn)) (.keep (.same nI) (.keep (.same nI) .nil)))) (.ks (.kb rfl (.same sn) .nil)))⟩
    rintro x s' ⟨rfl,u,D,rfl,hsub⟩
    try dsimp only at g9
    refine Goes.sub hsub ?_
    refine gh fol (kP u ((1,.func (.func 124) [] [.ptr 1 0])::(kAL D (w64 (r+1))))) ?_
    exact⟨M,(ofG 42 (kP u ((1,.func (.func 124) [] [.ptr 1 0])::(kAL D (w64 (r+1))))),(kH u (kC a b c d e f g j k a10_ []))),Nat.lt_succ_self _,(Sub.refl _),_,_,_,rfl,g9⟩
   refine Goes.exit ?_
   obtain rfl:=si g9
   exact⟨rfl,_,_,rfl,(Sub.keep [0,5] rfl rfl)⟩
 rintro x s' ⟨rfl,t,v,rfl,hsub⟩
 try dsimp only at h
 refine Goes.sub hsub ?_
 refine sq ?_
 obtain⟨V,o,h⟩:=bnd h
 refine Goes.cutS (s':=(ofG 42 (kP V (kAd v)),(kH V (kC a b c d e f g j k a10_ [])))) ?_ ?_
 ·rcases wyD o with⟨Y,o⟩|⟨Y,o⟩
  ·obtain⟨u20,I,o⟩:=bnd o
   obtain⟨J,K,o⟩:=bnd o
   obtain rfl:=si o
   exact qae.sub (qae.rq fol [2,3] (kP t (kAd v)) (kH J (kC a b c d e f g j k a10_ [])) (ac (hs (.done (.opt (qeq ZT 28 (.gslice 0 t.length 4) (some (.i v)) none none)) (.oslice 0 t.length 4)) (qui qhR (ot Y) (qhv I))) (ac (hs (.run [0] (qg6 ZT [28] (.oslice 0 t.length 4)) (kH t (kC a b c d e f g j k a10_ [])) (.tuple []) (kH J (kC a b c d e f g j k a10_ [])) true) (qxZ qhR (E:=qg) (z:=(⟨[],[],0,0⟩:qp)) rfl (by kernel_rfl) rfl (qhv I) rfl K rfl)) az))) ((show Sub (ofG 42 (kP t (kAd v)),(kH J (kC a b c d e f g j k a10_ []))) (ofG 42 (kP J (kAd v)),(kH J (kC a b c d e f g j k a10_ [])))from(Sub.norm [] [some 0,some 1] (by rw[hB];rfl) rfl (.keep (.gsliceE rfl (qmw (Nat.zero_le _) K)) (.keep (.same nI) .nil)) (.ks (.kb rfl (.same sn) .nil)))).trans (Sub.refl _))
  obtain⟨W,L,o⟩:=bnd o
  obtain⟨u23,O,o⟩:=bnd o
  obtain⟨P,T,o⟩:=bnd o
  obtain rfl:=si o
  exact qae.sub (qae.rq fol [2,3] (kP t (kAd v)) (kH P (kC a b c d e f g j k a10_ [])) (ac (hs (.done (.opt (qeq ZT 28 (.gslice 0 t.length 4) (some (.i v)) none none)) (.wslice 0 (W*4) (t.length-W) 4)) (qsx qhR (of_decide_eq_false Y) L (qhv O))) (ac (hs (.run [0] (qg6 ZT [28] (.wslice 0 (W*4) (t.length-W) 4)) (kH t (kC a b c d e f g j k a10_ [])) (.tuple []) (kH P (kC a b c d e f g j k a10_ [])) true) (qx2 qhR (E:=qg) (z:=(⟨[],[],0,0⟩:qp)) rfl (by kernel_rfl) rfl (qhv O) rfl T rfl)) az))) ((show Sub (ofG 42 (kP t (kAd v)),(kH P (kC a b c d e f g j k a10_ []))) (ofG 42 (kP P (kAd v)),(kH P (kC a b c d e f g j k a10_ [])))from(Sub.norm [] [some 0,some 1] (by rw[hB];rfl) rfl (.keep (.gsliceE rfl (qmw (qx1 L) T)) (.keep (.same nI) .nil)) (.ks (.kb rfl (.same sn) .nil)))).trans (Sub.refl _))
 intro _ hsub
 refine Goes.sub hsub ?_
 obtain⟨u28,Z,h⟩:=bnd h
 obtain⟨C,U,h⟩:=bnd h
 refine sq (gr fol [2] (kAo C) (ac (hs (.done (.opt (qeq ZT 28 (.gslice 0 V.length 4) none (some (.i v)) none)) (.oslice 0 C.length 4)) (qxV qhR (qhv Z) U)) az) ?_)
 refine Goes.sub (show Sub (ofG 42 (kAo C),(kH V (kC a b c d e f g j k a10_ []))) (ofG 42 (kAo C),(kH C (kC a b c d e f g j k a10_ [])))from(Sub.norm [] [some 0,some 1] (by rw[hB];rfl) rfl (.keep (.oslice rfl) .nil) (.kb rfl (qgN.cut U) (.kb rfl (.same sn) .nil)))) ?_
 refine Goes.ret ?_
 obtain rfl:=Sum.inr.inj (si h)
 exact(gh2 [.oslice 0 C.length 4] (qoB.refl _ _))
def qbL (N:Nat) (d:StateT) (e:qw):Option StateT:=
 ((qd0).bind fun O=>
 if(e.Kind==[114,101,99,101,105,118,101])=true then
 (zR N d e).bind fun H=>
 (qfO H e.Amount).bind fun h=>
 some (h.lot.Name,h.lot.Yarn,h.lot.Dye,h.lot.Stock,h.known,h.hold.Lot,h.hold.Order,h.hold.Reserved,h.hold.Taken,h.free)
 else
 if(e.Kind==[114,101,115,101,114,118,101])=true then
 (zR N d e).bind fun I=>
 (qfV I e.Amount).bind fun i=>
 some (i.lot.Name,i.lot.Yarn,i.lot.Dye,i.lot.Stock,i.known,i.hold.Lot,i.hold.Order,i.hold.Reserved,i.hold.Taken,i.free)
 else
 if(e.Kind==[114,101,108,101,97,115,101])=true then
 (zR N d e).bind fun J=>
 (qfL J e.Amount).bind fun a=>
 some (a.lot.Name,a.lot.Yarn,a.lot.Dye,a.lot.Stock,a.known,a.hold.Lot,a.hold.Order,a.hold.Reserved,a.hold.Taken,a.free)
 else
 if(e.Kind==[116,97,107,101])=true then
 (zR N d e).bind fun w=>
 (qiE w e.Amount).bind fun b=>
 some (b.lot.Name,b.lot.Yarn,b.lot.Dye,b.lot.Stock,b.known,b.hold.Lot,b.hold.Order,b.hold.Reserved,b.hold.Taken,b.free)
 else
 if(e.Kind==[114,101,116,117,114,110])=true then
 (zR N d e).bind fun x=>
 (qfU x e.Amount).bind fun c=>
 some (c.lot.Name,c.lot.Yarn,c.lot.Dye,c.lot.Stock,c.known,c.hold.Lot,c.hold.Order,c.hold.Reserved,c.hold.Taken,c.free)
 else
 none:Option (Str×Str×Str×Int×Bool×Str×Str×Int×Int×Int)).bind fun(k,l,m,n,y,o,p,f,g,z)=>
 (qmp d.Lots).bind fun _=>
 (qbG N (⟨e.Day,d.Lots,[]⟩:StateT) e.Lot).bind fun j=>
 ((if j.2=true then
 (idx d.Lots j.1).bind fun K=>
 (put d.Lots j.1 (⟨k,l,m,n⟩:qH)).bind fun A=>
 some A
 else
 (qqm d.Lots j.1 k l m n).bind fun B=>
 some B:Option (List qH))).bind fun q=>
 (qkv d.Holds).bind fun _=>
 (jm N d.Holds k l m n y o p f g z).bind fun C=>
 match C with
 | .inl _=>
 (if f>0 then
 some true
 else
 some (decide (g>0)):Option Bool).bind fun D=>
 ((if D=true then
 (app 48 d.Holds [(⟨o,p,f,g⟩:qp)]).bind fun E=>
 some E
 else
 some d.Holds:Option (List qp))).bind fun r=>
 (qmX r).bind fun s=>
 ((if r.length=s.length then some ()else none:Option Unit)).bind fun L=>
 some (⟨e.Day,q,s⟩:StateT)
 | .inr t=>
 (if f>0 then
 some true
 else
 some (decide (g>0)):Option Bool).bind fun F=>
 ((if F=true then
 (app 48 t [(⟨o,p,f,g⟩:qp)]).bind fun G=>
 some G
 else
 some t:Option (List qp))).bind fun u=>
 (qmQ u).bind fun v=>
 ((if u.length=v.length then some ()else none:Option Unit)).bind fun M=>
 some (⟨e.Day,q,v⟩:StateT)
theorem qgl (N:Nat) (b:StateT) (e:qw) {res:StateT} (h:qbL N b e=some res):qE ZT (.fn 59) (kY b.Day b.Lots b.Holds [.agg [.str e.Kind,.i e.Day,.str e.Lot,.i e.Amount,.str e.Yarn,.str e.Dye,.str e.Order]]) [] (.agg (kG res.Day res.Lots res.Holds)) []:=by
 unfold qbL at h
 refine Uc Tryz.func59 rfl rfl (m:=75) rfl (rs:=[.cell 4 30]) rfl (l:=(kAA b.Day b.Lots b.Holds (kAz e.Kind e.Day e.Lot e.Amount e.Yarn e.Dye e.Order))) rfl ?_
 refine sg fol (kL (kA0 [])) (kD b.Day b.Lots b.Holds (kE e.Kind e.Day e.Lot e.Amount e.Yarn e.Dye e.Order (kF []))) ?_
 refine sq ?_
 obtain⟨⟨j,k,n,o,q,d,f,g,c,r⟩,a,h⟩:=bnd h
 refine Goes.cut (s':=(ofG 75 (kL (kAP [])),(kD b.Day b.Lots b.Holds (kE e.Kind e.Day e.Lot e.Amount e.Yarn e.Dye e.Order (kF (kC j k n o q d f g c r [])))))) ?_ ?_
 ·obtain⟨r1,G,a⟩:=bnd a
  rcases wyB a with⟨c2,a⟩|⟨c2,a⟩
  ·obtain⟨r3,e_r3,a⟩:=bnd a
   obtain⟨M,e_r4,a⟩:=bnd a
   simp only[ZI,ZP]at a
   obtain⟨rfl,rfl,rfl,rfl,rfl,rfl,rfl,rfl,rfl,rfl⟩:=a
   exact qae.rq fol [0,3,7,10] (kL (kAP [])) (kD b.Day b.Lots b.Holds (kE e.Kind e.Day e.Lot e.Amount e.Yarn e.Dye e.Order (kF (kC M.lot.Name M.lot.Yarn M.lot.Dye M.lot.Stock M.known M.hold.Lot M.hold.Order M.hold.Reserved M.hold.Taken M.free [])))) (ac (cv (vR G)) (ac (hs (.done (qbk ZT 143 (fm1) (.str e.Kind) false) (.agg [.func (.func 132) [] [],.func (.func 133) [] []])) (qhu qh0 [[114,101,99,101,105,118,101],[114,101,115,101,114,118,101],[114,101,108,101,97,115,101],[116,97,107,101],[114,101,116,117,114,110]] (qb4 c2) rfl)) (ac (cv (qba N b e e_r3)) (ac (cv (qj4 r3 e.Amount e_r4)) az))))
  rcases wyB a with⟨c5,a⟩|⟨c5,a⟩
  ·obtain⟨r6,e_r6,a⟩:=bnd a
   obtain⟨O,e_r7,a⟩:=bnd a
   simp only[ZI,ZP]at a
   obtain⟨rfl,rfl,rfl,rfl,rfl,rfl,rfl,rfl,rfl,rfl⟩:=a
   exact qae.rq fol [0,3,7,10] (kL (kAP [])) (kD b.Day b.Lots b.Holds (kE e.Kind e.Day e.Lot e.Amount e.Yarn e.Dye e.Order (kF (kC O.lot.Name O.lot.Yarn O.lot.Dye O.lot.Stock O.known O.hold.Lot O.hold.Order O.hold.Reserved O.hold.Taken O.free [])))) (ac (cv (vR G)) (ac (hs (.done (qbk ZT 143 (fm1) (.str e.Kind) false) (.agg [.func (.func 134) [] [],.func (.func 135) [] []])) (qhu qh0 [[114,101,99,101,105,118,101],[114,101,115,101,114,118,101],[114,101,108,101,97,115,101],[116,97,107,101],[114,101,116,117,114,110]] (zi c2 (qb4 c5)) rfl)) (ac (cv (qba N b e e_r6)) (ac (cv (qkd r6 e.Amount e_r7)) az))))
  rcases wyB a with⟨c8,a⟩|⟨c8,a⟩
  ·obtain⟨r9,e_r9,a⟩:=bnd a
   obtain⟨A,V,a⟩:=bnd a
   simp only[ZI,ZP]at a
   obtain⟨rfl,rfl,rfl,rfl,rfl,rfl,rfl,rfl,rfl,rfl⟩:=a
   exact qae.rq fol [0,3,7,10] (kL (kAP [])) (kD b.Day b.Lots b.Holds (kE e.Kind e.Day e.Lot e.Amount e.Yarn e.Dye e.Order (kF (kC A.lot.Name A.lot.Yarn A.lot.Dye A.lot.Stock A.known A.hold.Lot A.hold.Order A.hold.Reserved A.hold.Taken A.free [])))) (ac (cv (vR G)) (ac (hs (.done (qbk ZT 143 (fm1) (.str e.Kind) false) (.agg [.func (.func 137) [] [],.func (.func 138) [] []])) (qhu qh0 [[114,101,99,101,105,118,101],[114,101,115,101,114,118,101],[114,101,108,101,97,115,101],[116,97,107,101],[114,101,116,117,114,110]] (zi c2 (zi c5 (qb4 c8))) rfl)) (ac (cv (qba N b e e_r9)) (ac (cv (qkq r9 e.Amount V)) az))))
  rcases wyB a with⟨W,a⟩|⟨W,a⟩
  ·obtain⟨r12,X,a⟩:=bnd a
   obtain⟨B,Y,a⟩:=bnd a
   simp only[ZI,ZP]at a
   obtain⟨rfl,rfl,rfl,rfl,rfl,rfl,rfl,rfl,rfl,rfl⟩:=a
   exact qae.rq fol [0,3,7,10] (kL (kAP [])) (kD b.Day b.Lots b.Holds (kE e.Kind e.Day e.Lot e.Amount e.Yarn e.Dye e.Order (kF (kC B.lot.Name B.lot.Yarn B.lot.Dye B.lot.Stock B.known B.hold.Lot B.hold.Order B.hold.Reserved B.hold.Taken B.free [])))) (ac (cv (vR G)) (ac (hs (.done (qbk ZT 143 (fm1) (.str e.Kind) false) (.agg [.func (.func 139) [] [],.func (.func 140) [] []])) (qhu qh0 [[114,101,99,101,105,118,101],[114,101,115,101,114,118,101],[114,101,108,101,97,115,101],[116,97,107,101],[114,101,116,117,114,110]] (zi c2 (zi c5 (zi c8 (qb4 W)))) rfl)) (ac (cv (qba N b e X)) (ac (cv (qni r12 e.Amount Y)) az))))
  rcases wyB a with⟨c14,a⟩|⟨c14,a⟩
  ·obtain⟨r15,Z,a⟩:=bnd a
   obtain⟨C,a0,a⟩:=bnd a
   simp only[ZI,ZP]at a
   obtain⟨rfl,rfl,rfl,rfl,rfl,rfl,rfl,rfl,rfl,rfl⟩:=a
   exact qae.rq fol [0,3,7,10] (kL (kAP [])) (kD b.Day b.Lots b.Holds (kE e.Kind e.Day e.Lot e.Amount e.Yarn e.Dye e.Order (kF (kC C.lot.Name C.lot.Yarn C.lot.Dye C.lot.Stock C.known C.hold.Lot C.hold.Order C.hold.Reserved C.hold.Taken C.free [])))) (ac (cv (vR G)) (ac (hs (.done (qbk ZT 143 (fm1) (.str e.Kind) false) (.agg [.func (.func 141) [] [],.func (.func 142) [] []])) (qhu qh0 [[114,101,99,101,105,118,101],[114,101,115,101,114,118,101],[114,101,108,101,97,115,101],[116,97,107,101],[114,101,116,117,114,110]] (zi c2 (zi c5 (zi c8 (zi W (qb4 c14))))) rfl)) (ac (cv (qba N b e Z)) (ac (cv (qkk r15 e.Amount a0)) az))))
  cases a
 try dsimp only at h
 obtain⟨_,a1,h⟩:=bnd h
 refine sq (gq fol [4] (kL (kAP [(6,.ptr 5 0)])) (kD b.Day b.Lots b.Holds (kE e.Kind e.Day e.Lot e.Amount e.Yarn e.Dye e.Order (kF (kC j k n o q d f g c r (kT b.Lots (kAN e.Day b.Lots [])))))) (ac (hs (.callH 120 [vl qo b.Lots] (kD b.Day b.Lots b.Holds (kE e.Kind e.Day e.Lot e.Amount e.Yarn e.Dye e.Order (kF (kC j k n o q d f g c r [])))) [] (.gslice 4 b.Lots.length 4) (kD b.Day b.Lots b.Holds (kE e.Kind e.Day e.Lot e.Amount e.Yarn e.Dye e.Order (kF (kC j k n o q d f g c r (kT b.Lots [])))))) (qme [] [none,none,none,none,some 0] (qs2 b.Lots a1) .nil rfl rfl (.old rfl rfl (.old rfl rfl (.old rfl rfl (.old rfl rfl (.new rfl rfl (.same fa) rfl .nil))))) (rc (.same (zu qo _)) rn) (.gslice rfl) rfl)) az) ?_)
 refine sq ?_
 obtain⟨s,a2,h⟩:=bnd h
 refine sq (gr fol [3] (kAC (kAP [(6,.ptr 5 0),(7,.i s.1),(8,.bool s.2)])) (ac (hs (.call 80 [.agg [.i e.Day,.gslice 4 b.Lots.length 4,.nilslice],.str e.Lot] (kD b.Day b.Lots b.Holds (kE e.Kind e.Day e.Lot e.Amount e.Yarn e.Dye e.Order (kF (kC j k n o q d f g c r (kT b.Lots (kAN e.Day b.Lots [])))))) [4] [.agg [.i e.Day,vl qo b.Lots,.nilslice],.str e.Lot] (.tuple [.i s.1,.bool s.2])) (qcC (FzL.cons (Fz.agg (FzL.cons (Ua tI) (FzL.cons (Fz.gs (E:=qo) rfl rfl (nl rfl)) (FzL.cons (Ua (Still.nilslice 10)) FzL.nil)))) (FzL.cons (Ua tS) FzL.nil)) ((qE.wk (qgS N (⟨e.Day,b.Lots,[]⟩:StateT) e.Lot a2) (WkL.cons (Wk.agg (WkL.cons (Wk.refl _) (WkL.cons (Wk.refl _) (WkL.cons (Wk.nilv (E:=qg)) WkL.nil)))) (WkL.cons (Wk.refl _) WkL.nil)))) (Still.tuple (AllST.cons tI (AllST.cons tB AllST.nil))) rfl)) az) ?_)
 refine sh fol (kAC (kAP [(6,.ptr 5 0),(7,.i s.1),(33,.bool s.2)])) ?_
 obtain⟨r31,g31,h⟩:=bnd h
 refine Goes.imp (Q:=fun x s'=>(x= .normal/\ ∃p,p=r31/\Sub s' (ofG 75 (kQ (kAD [])),(kD b.Day b.Lots b.Holds (kF (kC j k n o q d f g c r (kAY e.Day p []))))))) ?_ ?_
 ·refine ihB g31 (fun c32 g31=>?_) (fun c32 g31=>?_)
  ·obtain⟨x33,H,g31⟩:=bnd g31
   obtain⟨I,J,g31⟩:=bnd g31
   refine gq fol [5,6] (kAC (kAP [(6,.ptr 5 0)])) (kD b.Day b.Lots b.Holds (kE e.Kind e.Day e.Lot e.Amount e.Yarn e.Dye e.Order (kF (kC j k n o q d f g c r (kT I (kAN e.Day b.Lots [])))))) (ac (hs (.done (.opt (qP ZT 27 (.gslice 4 b.Lots.length 4) (.i s.1))) (.ptr 4 ((s.1:Int).toNat*4+0))) (qrc qps H)) (ac (hs (.run [4] (qlS ZT 71 (.ptr 4 ((s.1:Int).toNat*4+0)) (.agg [.str j,.str k,.str n,.i o])) (kD b.Day b.Lots b.Holds (kE e.Kind e.Day e.Lot e.Amount e.Yarn e.Dye e.Order (kF (kC j k n o q d f g c r (kT b.Lots (kAN e.Day b.Lots [])))))) .undef (kD b.Day b.Lots b.Holds (kE e.Kind e.Day e.Lot e.Amount e.Yarn e.Dye e.Order (kF (kC j k n o q d f g c r (kT I (kAN e.Day b.Lots [])))))) true) (qwg (E:=qo) (l:=b.Lots) (y:=(⟨j,k,n,o⟩:qH)) rfl (show _=some 4 by kernel_rfl) rfl H rfl rfl rfl rfl rfl J rfl)) az)) ?_
   obtain rfl:=si g31
   exact⟨rfl,_,rfl,((show Sub (ofG 75 (kAC (kAP [(6,.ptr 5 0)])),(kD b.Day b.Lots b.Holds (kE e.Kind e.Day e.Lot e.Amount e.Yarn e.Dye e.Order (kF (kC j k n o q d f g c r (kT I (kAN e.Day b.Lots []))))))) (ofG 75 (kQ (kAD [])),(kD b.Day b.Lots b.Holds (kF (kC j k n o q d f g c r (kAN e.Day I (kT I []))))))from(Sub.norm [] [some 0,some 2,some 3,some 5,some 4] rfl rfl (.kp (.kp (.kp (.kp .nil)))) (.kb rfl (.same sn) (.kb rfl (.same sn) (.kb rfl (.same sn) (.kb rfl (.cells (rc (.same nI) (rc (.gsliceE rfl (qsj J)) (rc (.same (zY.nilslice)) rn)))) (.ks .nil))))))).trans (Sub.norm [4] [some 0,some 1,some 2,some 3] rfl rfl (.kp (.kp (.kp (.kp .nil)))) (.kb rfl (.same sn) (.kb rfl (.same sn) (.kb rfl (.same sn) (.kb rfl (.cells (rc (.same nI) (rc (.frz (Fz.gs (E:=qo) rfl rfl (nl rfl)) (zu qo _)) (rc (.same (zY.nilslice)) rn)))) .nil))))))⟩
  obtain⟨P,a3,g31⟩:=bnd g31
  refine gq fol [6] (kAC (kAP [(6,.ptr 5 0)])) (kD b.Day b.Lots b.Holds (kE e.Kind e.Day e.Lot e.Amount e.Yarn e.Dye e.Order (kF (kC j k n o q d f g c r (.dead:: .cells [.i e.Day,.oslice 7 P.length 4,.nilslice]::(kX j k n o (kT P []))))))) (ac (hs (.callH 121 [.gslice 4 b.Lots.length 4,.i s.1,.slice 6 0 1 1 4] (kD b.Day b.Lots b.Holds (kE e.Kind e.Day e.Lot e.Amount e.Yarn e.Dye e.Order (kF (kC j k n o q d f g c r (kT b.Lots (kAN e.Day b.Lots (kX j k n o []))))))) [4,6] (.oslice 7 P.length 4) (kD b.Day b.Lots b.Holds (kE e.Kind e.Day e.Lot e.Amount e.Yarn e.Dye e.Order (kF (kC j k n o q d f g c r (.dead::(kAN e.Day b.Lots (kX j k n o (kT P []))))))))) (qme [some 4,some 6] [none,none,none,none,none,none,some 1,some 2] (qvm b.Lots s.1 j k n o a3) (.ks (.kb rfl (.cells (rc (.same nS) (rc (.same nS) (rc (.same nS) (rc (.same nI) rn))))) .nil)) rfl rfl (.old rfl rfl (.old rfl rfl (.old rfl rfl (.old rfl rfl (.dead (.old rfl rfl (.back rfl rfl (.cells (rc (.same nS) (rc (.same nS) (rc (.same nS) (rc (.same nI) rn))))) rfl (.new rfl rfl (.same fa) rfl .nil)))))))) (rc (.gslice rfl) (rc (.same nI) (rc (.slice rfl) rn))) (.oslice rfl) rfl)) az) ?_
  obtain rfl:=si g31
  exact⟨rfl,_,rfl,(Sub.norm [7] [some 0,some 2,some 3,some 5] rfl rfl (.kp (.kp (.kp (.kp .nil)))) (.kb rfl (.same sn) (.kb rfl (.same sn) (.kb rfl (.same sn) (.kb rfl (.cells (rc (.same nI) (rc (.frz (Fz.os (E:=qo) rfl rfl (nl rfl)) (zu qo _)) (rc (.same (zY.nilslice)) rn)))) .nil)))))⟩
 rintro x s' ⟨rfl,p,rfl,hsub⟩
 refine Goes.sub hsub ?_
 refine sq ?_
 obtain⟨_,K,h⟩:=bnd h
 obtain⟨r38,L,h⟩:=bnd h
 rcases r38 with _|t
 ·try dsimp only at h
  refine gq fol [2,4] (kAe (kAD [])) (kD b.Day b.Lots b.Holds (kF (kC j k n o q d f g c r (.cells [.i e.Day,vl qo p,.gslice 4 b.Holds.length 4]::(kH b.Holds []))))) (ac (hs (.callH 123 [vl qg b.Holds] (kD b.Day b.Lots b.Holds (kF (kC j k n o q d f g c r (kAY e.Day p [])))) [] (.gslice 4 b.Holds.length 4) (kD b.Day b.Lots b.Holds (kF (kC j k n o q d f g c r (kAY e.Day p (kH b.Holds [])))))) (qme [] [none,none,none,none,some 0] (qoo b.Holds K) .nil rfl rfl (.old rfl rfl (.old rfl rfl (.old rfl rfl (.old rfl rfl (.new rfl rfl (.same fa) rfl .nil))))) (rc (.same (zu qg _)) rn) (.gslice rfl) rfl)) (ac (hs (.callH 122 [.gslice 4 b.Holds.length 4,.func (.func 124) [] [.ptr 2 0]] (kD b.Day b.Lots b.Holds (kF (kC j k n o q d f g c r (kAY e.Day p (kH b.Holds []))))) [4,2] (.gslice 4 b.Holds.length 4) (kD b.Day b.Lots b.Holds (kF (kC j k n o q d f g c r (kAY e.Day p (kH b.Holds [])))))) (qme [some 4,some 2] [none,none,some 1,none,some 0] (qhs N b.Holds j k n o q d f g c r L) (.ks (.kb rfl (.cells (rc (.same nS) (rc (.same nS) (rc (.same nS) (rc (.same nI) (rc (.same nB) (rc (.same nS) (rc (.same nS) (rc (.same nI) (rc (.same nI) (rc (.same nI) rn))))))))))) .nil)) rfl rfl (.old rfl rfl (.old rfl rfl (.back rfl rfl (.cells (rc (.same nS) (rc (.same nS) (rc (.same nS) (rc (.same nI) (rc (.same nB) (rc (.same nS) (rc (.same nS) (rc (.same nI) (rc (.same nI) (rc (.same nI) rn))))))))))) rfl (.old rfl rfl (.back rfl rfl (.same fa) rfl .nil))))) (rc (.gslice rfl) (rc (.funcL (sn) (rc (.ptr rfl) rn)) rn)) (.gslice rfl) rfl)) az)) ?_
  refine sq ?_
  refine sq ?_
  obtain⟨b41,u,h⟩:=bnd h
  refine Goes.cut (s':=(ofG 75 (kAe (kAD [(63,.bool b41)])),(kD b.Day b.Lots b.Holds (kF (kC j k n o q d f g c r (.cells [.i e.Day,vl qo p,.gslice 4 b.Holds.length 4]::(kH b.Holds []))))))) ?_ ?_
  ·rcases wyD u with⟨a4,u⟩|⟨a4,u⟩
   ·obtain rfl:=si u
    exact tr fol [4] (kAe (kAD [(63,.bool true)])) (ac (gw a4) az)
   obtain rfl:=si u
   exact tr fol [4] (kAe (kAD [(63,.bool (decide (c>0)))])) (ac (gw a4) az)
  obtain⟨r44,g44,h⟩:=bnd h
  refine Goes.imp (Q:=fun x s'=>(x= .normal/\ ∃v,v=r44/\Sub s' (ofG 75 (kAH kAx),(kF (kAS e.Day p v (kH v [])))))) ?_ ?_
  ·refine ihB g44 (fun c45 g44=>?_) (fun c45 g44=>?_)
   ·obtain⟨T,a5,g44⟩:=bnd g44
    refine gq fol [5] (kAe [(6,.ptr 3 0)]) (kD b.Day b.Lots b.Holds (kF (kC j k n o q d f g c r (.cells [.i e.Day,vl qo p,.gslice 6 T.length 4]:: .dead::(kM d f g c (kH T [])))))) (ac (hs (.run [4,5] (qe9 ZT [28,28] (.gslice 4 b.Holds.length 4) (.slice 5 0 1 1 4)) (kD b.Day b.Lots b.Holds (kF (kC j k n o q d f g c r (.cells [.i e.Day,vl qo p,.gslice 4 b.Holds.length 4]::(kH b.Holds (kM d f g c [])))))) (.gslice 6 T.length 4) (kD b.Day b.Lots b.Holds (kF (kC j k n o q d f g c r (.cells [.i e.Day,vl qo p,.gslice 4 b.Holds.length 4]:: .dead::(kM d f g c (kH T [])))))) true) (qjy qhR (E:=qg) rfl (qo7 (E:=qg) (ys:=[(⟨d,f,g,c⟩:qp)]) rfl rfl rfl rfl) (qqc (E:=qg) (l:=b.Holds) rfl rfl rfl a5 rfl))) az) ?_
    obtain rfl:=si g44
    exact⟨rfl,_,rfl,(Sub.norm [] [some 1,some 3,some 6] rfl rfl (.kp (.kp .nil)) (.kb rfl (.same sn) (.kb rfl (.cells (rc (.same nI) (rc (.same (zu qo _)) (rc (.gslice rfl) rn)))) (.ks .nil))))⟩
   refine Goes.skip ?_
   obtain rfl:=si g44
   exact⟨rfl,_,rfl,(Sub.norm [] [some 1,some 3,some 4] rfl rfl (.kp (.drop (.kp .nil))) (.kb rfl (.same sn) (.kb rfl (.cells (rc (.same nI) (rc (.same (zu qo _)) (rc (.gslice rfl) rn)))) (.ks .nil))))⟩
  rintro x s' ⟨rfl,v,rfl,hsub⟩
  refine Goes.sub hsub ?_
  obtain⟨D,a6,h⟩:=bnd h
  obtain⟨u49,a7,h⟩:=bnd h
  refine sq (gq fol [2] (kAH kAx) (kF (kAS e.Day p v (kH D []))) (ac (hs (.callH 126 [.gslice 2 v.length 4,.func (.func 127) [] []] (kF (kAS e.Day p v (kH v []))) [2] (.tuple []) (kF (kAS e.Day p v (kH D [])))) (qme [some 2] [none,none,some 0] (qrQ v a6) (.ks .nil) rfl rfl (.old rfl rfl (.old rfl rfl (.back rfl rfl (.same fa) rfl .nil))) (rc (.gslice rfl) (rc (.same (zY.func sn sn)) rn)) (.same (zY.tuple sn)) rfl)) az) ?_)
  refine Goes.sub (show Sub (ofG 75 (kAH kAx),(kF (kAS e.Day p v (kH D [])))) (ofG 75 (kAH kAx),(kF (kAS e.Day p D (kH D []))))from(Sub.norm [] [some 0,some 1,some 2] rfl rfl (.kp (.kp .nil)) (.kb rfl (.same sn) (.kb rfl (.cells (rc (.same nI) (rc (.same (zu qo _)) (rc (.gsliceE rfl (quw a7)) rn)))) (.ks .nil))))) ?_
  refine sg fol (kAH []) (kAS e.Day p D (kAS e.Day p D (kH D []))) ?_
  refine Goes.ret ?_
  obtain rfl:=si h
  exact(gw2 [.agg [.i e.Day,vl qo p,.gslice 2 D.length 4]] (FzW.agg (ky.cons (Ub tI) (ky.cons (Ub (qG qo _ (nl rfl))) (ky.cons (FzW.fz (Fz.gs (E:=qg) rfl rfl (nl rfl))) ky.nil)))))
 try dsimp only at h
 refine gq fol [2,4] (kAe (kAD [])) (kD b.Day b.Lots b.Holds (kF (kC j k n o q d f g c r (.cells [.i e.Day,vl qo p,.oslice 4 t.length 4]::(kH t []))))) (ac (hs (.callH 123 [vl qg b.Holds] (kD b.Day b.Lots b.Holds (kF (kC j k n o q d f g c r (kAY e.Day p [])))) [] (.gslice 4 b.Holds.length 4) (kD b.Day b.Lots b.Holds (kF (kC j k n o q d f g c r (kAY e.Day p (kH b.Holds [])))))) (qme [] [none,none,none,none,some 0] (qoo b.Holds K) .nil rfl rfl (.old rfl rfl (.old rfl rfl (.old rfl rfl (.old rfl rfl (.new rfl rfl (.same fa) rfl .nil))))) (rc (.same (zu qg _)) rn) (.gslice rfl) rfl)) (ac (hs (.callH 122 [.gslice 4 b.Holds.length 4,.func (.func 124) [] [.ptr 2 0]] (kD b.Day b.Lots b.Holds (kF (kC j k n o q d f g c r (kAY e.Day p (kH b.Holds []))))) [4,2] (.oslice 4 t.length 4) (kD b.Day b.Lots b.Holds (kF (kC j k n o q d f g c r (kAY e.Day p (kH t [])))))) (qme [some 4,some 2] [none,none,some 1,none,some 0] (qhm N b.Holds j k n o q d f g c r L) (.ks (.kb rfl (.cells (rc (.same nS) (rc (.same nS) (rc (.same nS) (rc (.same nI) (rc (.same nB) (rc (.same nS) (rc (.same nS) (rc (.same nI) (rc (.same nI) (rc (.same nI) rn))))))))))) .nil)) rfl rfl (.old rfl rfl (.old rfl rfl (.back rfl rfl (.cells (rc (.same nS) (rc (.same nS) (rc (.same nS) (rc (.same nI) (rc (.same nB) (rc (.same nS) (rc (.same nS) (rc (.same nI) (rc (.same nI) (rc (.same nI) rn))))))))))) rfl (.old rfl rfl (.back rfl rfl (.same fa) rfl .nil))))) (rc (.gslice rfl) (rc (.funcL (sn) (rc (.ptr rfl) rn)) rn)) (.oslice rfl) rfl)) az)) ?_
 refine sq ?_
 refine sq ?_
 obtain⟨b51,w,h⟩:=bnd h
 refine Goes.cut (s':=(ofG 75 (kAe (kAD [(63,.bool b51)])),(kD b.Day b.Lots b.Holds (kF (kC j k n o q d f g c r (.cells [.i e.Day,vl qo p,.oslice 4 t.length 4]::(kH t []))))))) ?_ ?_
 ·rcases wyD w with⟨a8,w⟩|⟨a8,w⟩
  ·obtain rfl:=si w
   exact tr fol [4] (kAe (kAD [(63,.bool true)])) (ac (gw a8) az)
  obtain rfl:=si w
  exact tr fol [4] (kAe (kAD [(63,.bool (decide (c>0)))])) (ac (gw a8) az)
 obtain⟨r54,g54,h⟩:=bnd h
 refine Goes.imp (Q:=fun x s'=>(x= .normal/\ ∃z,z=r54/\Sub s' (ofG 75 (kAH kAx),(kF (kAT e.Day p z (kH z [])))))) ?_ ?_
 ·refine ihB g54 (fun c55 g54=>?_) (fun c55 g54=>?_)
  ·obtain⟨U,a9,g54⟩:=bnd g54
   refine gq fol [5] (kAe [(6,.ptr 3 0)]) (kD b.Day b.Lots b.Holds (kF (kC j k n o q d f g c r (.cells [.i e.Day,vl qo p,.oslice 6 U.length 4]:: .dead::(kM d f g c (kH U [])))))) (ac (hs (.run [4,5] (qe9 ZT [28,28] (.oslice 4 t.length 4) (.slice 5 0 1 1 4)) (kD b.Day b.Lots b.Holds (kF (kC j k n o q d f g c r (.cells [.i e.Day,vl qo p,.oslice 4 t.length 4]::(kH t (kM d f g c [])))))) (.oslice 6 U.length 4) (kD b.Day b.Lots b.Holds (kF (kC j k n o q d f g c r (.cells [.i e.Day,vl qo p,.oslice 4 t.length 4]:: .dead::(kM d f g c (kH U [])))))) true) (qjy qhR (E:=qg) rfl (qo7 (E:=qg) (ys:=[(⟨d,f,g,c⟩:qp)]) rfl rfl rfl rfl) (dst_o (E:=qg) (l:=t) rfl rfl rfl a9 rfl))) az) ?_
   obtain rfl:=si g54
   exact⟨rfl,_,rfl,(Sub.norm [] [some 1,some 3,some 6] rfl rfl (.kp (.kp .nil)) (.kb rfl (.same sn) (.kb rfl (.cells (rc (.same nI) (rc (.same (zu qo _)) (rc (.oslice rfl) rn)))) (.ks .nil))))⟩
  refine Goes.skip ?_
  obtain rfl:=si g54
  exact⟨rfl,_,rfl,(Sub.norm [] [some 1,some 3,some 4] rfl rfl (.kp (.drop (.kp .nil))) (.kb rfl (.same sn) (.kb rfl (.cells (rc (.same nI) (rc (.same (zu qo _)) (rc (.oslice rfl) rn)))) (.ks .nil))))⟩
 rintro x s' ⟨rfl,z,rfl,hsub⟩
 refine Goes.sub hsub ?_
 obtain⟨F,b0,h⟩:=bnd h
 obtain⟨u59,b1,h⟩:=bnd h
 refine sq (gq fol [2] (kAH kAx) (kF (kAT e.Day p z (kH F []))) (ac (hs (.callH 126 [.oslice 2 z.length 4,.func (.func 127) [] []] (kF (kAT e.Day p z (kH z []))) [2] (.tuple []) (kF (kAT e.Day p z (kH F [])))) (qme [some 2] [none,none,some 0] (qrL z b0) (.ks .nil) rfl rfl (.old rfl rfl (.old rfl rfl (.back rfl rfl (.same fa) rfl .nil))) (rc (.oslice rfl) (rc (.same (zY.func sn sn)) rn)) (.same (zY.tuple sn)) rfl)) az) ?_)
 refine Goes.sub (show Sub (ofG 75 (kAH kAx),(kF (kAT e.Day p z (kH F [])))) (ofG 75 (kAH kAx),(kF (kAT e.Day p F (kH F []))))from(Sub.norm [] [some 0,some 1,some 2] rfl rfl (.kp (.kp .nil)) (.kb rfl (.same sn) (.kb rfl (.cells (rc (.same nI) (rc (.same (zu qo _)) (rc (.osliceE rfl (quw b1)) rn)))) (.ks .nil))))) ?_
 refine sg fol (kAH []) (kAT e.Day p F (kAT e.Day p F (kH F []))) ?_
 refine Goes.ret ?_
 obtain rfl:=si h
 exact(gw2 [.agg [.i e.Day,vl qo p,.oslice 2 F.length 4]] (FzW.agg (ky.cons (Ub tI) (ky.cons (Ub (qG qo _ (nl rfl))) (ky.cons (FzW.fz (Fz.os (E:=qg) rfl rfl (nl rfl))) ky.nil)))))
end Go.Av
