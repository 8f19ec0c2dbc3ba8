/-
  Walks of functions: what each computes, as a plain function.
-/
import Derived.Test.YtcnioemfifogeaaGreatDoorQGenA1f1
noncomputable section
namespace Go.Av
open Go.Proofs Go.RowKit
set_option linter.unusedSectionVars false
set_option linter.unusedVariables false
set_option linter.unusedSimpArgs false
set_option maxRecDepth 100000
def qeE (a:qG) (b:qo):Option Bool:=
 (qhm a).bind fun c=>
 (qhm b.hold).bind fun d=>
 some ((c.lot==d.lot)&&((c.order==d.order)&&true))
theorem qh8 (d:qG) (c:qo) {res:Bool} (h:qeE d c=some res):qJ ZT (.fn 124) (kAM d.Lot d.Order d.Reserved d.Taken [.fptr [.str c.lot.Name,.str c.lot.Yarn,.str c.lot.Dye,.i c.lot.Stock,.bool c.known,.str c.hold.Lot,.str c.hold.Order,.i c.hold.Reserved,.i c.hold.Taken,.i c.free] 0]) [] (.bool res) []:=by
 unfold qeE at h
 refine Uc Tryz.func124 rfl rfl (m:=10) rfl (rs:=[.tmp 3]) rfl (l:=(kA8 d.Lot d.Order d.Reserved d.Taken [(1,.fptr [.str c.lot.Name,.str c.lot.Yarn,.str c.lot.Dye,.i c.lot.Stock,.bool c.known,.str c.hold.Lot,.str c.hold.Order,.i c.hold.Reserved,.i c.hold.Taken,.i c.free] 0)])) rfl ?_
 refine sg fol ((1,.fptr [.str c.lot.Name,.str c.lot.Yarn,.str c.lot.Dye,.i c.lot.Stock,.bool c.known,.str c.hold.Lot,.str c.hold.Order,.i c.hold.Reserved,.i c.hold.Taken,.i c.free] 0)::(kU [])) (kL d.Lot d.Order d.Reserved d.Taken []) ?_
 obtain⟨f,j,h⟩:=bnd h
 obtain⟨g,k,h⟩:=bnd h
 refine sq (gr fol [1,4,5] (kA6 ((f.lot==g.lot)&&((f.order==g.order)&&true))) (ac (cv (qkb d j)) (ac (cv (qkb c.hold k)) (ac (hs (.done (.opt (qqV ZT .eql 190 (.tmp 5) (.tmp 8) (.agg [.str f.lot,.str f.order]) (.agg [.str g.lot,.str g.order]))) (.bool ((f.lot==g.lot)&&((f.order==g.order)&&true)))) (qDj qBv (e:=((f.lot==g.lot)&&((f.order==g.order)&&true))) (.cons (a:= .str f.lot) (b:= .str g.lot) rfl (by kernel_rfl) (by kernel_rfl) (by kernel_rfl) (.cons (a:= .str f.order) (b:= .str g.order) rfl (by kernel_rfl) (by kernel_rfl) (by kernel_rfl) .nil)))) az))) ?_)
 refine Goes.ret ?_
 obtain rfl:=si h
 exact(gw2 [.bool ((f.lot==g.lot)&&((f.order==g.order)&&true))] (Ub tB))
def xD (a:List qG) (b:qo):Nat->Int->Option (Unit⊕Int)
 |0,_=>none
 |K+1,c=>
  if c<(a.length:Int)then
  (idx a c).bind fun d=>
  (qeE d b).bind fun e=>
  if e=true then
  some (.inr c)
  else
  xD a b K (w64 (c+1))
  else
  some (.inl ())
def qgf (N:Nat) (a:List qG) (b:qo):Option Int:=
 (xD a b N 0).bind (fun
 |(.inl ())=>
 some (-1)
 |(.inr c)=>
 some c)
theorem qjP (N:Nat) (b:List qG) (a:qo) {res:Int} (h:qgf N b a=some res):qJ ZT (.fn 174) [vl qE b,.func (.func 124) [] [.fptr [.str a.lot.Name,.str a.lot.Yarn,.str a.lot.Dye,.i a.lot.Stock,.bool a.known,.str a.hold.Lot,.str a.hold.Order,.i a.hold.Reserved,.i a.hold.Taken,.i a.free] 0]] [] (.i res) []:=by
 unfold qgf at h
 refine Uc Tryz.func174 rfl rfl (m:=19) rfl (rs:=[.tmp 4]) rfl (l:=(kAS b [(1,.func (.func 124) [] [.fptr [.str a.lot.Name,.str a.lot.Yarn,.str a.lot.Dye,.i a.lot.Stock,.bool a.known,.str a.hold.Lot,.str a.hold.Order,.i a.hold.Reserved,.i a.hold.Taken,.i a.free] 0])])) rfl ?_
 refine sh fol (kAS b [(1,.func (.func 124) [] [.fptr [.str a.lot.Name,.str a.lot.Yarn,.str a.lot.Dye,.i a.lot.Stock,.bool a.known,.str a.hold.Lot,.str a.hold.Order,.i a.hold.Reserved,.i a.hold.Taken,.i a.free] 0])]) ?_
 refine sq ?_
 refine sh fol (kAS b [(1,.func (.func 124) [] [.fptr [.str a.lot.Name,.str a.lot.Yarn,.str a.lot.Dye,.i a.lot.Stock,.bool a.known,.str a.hold.Lot,.str a.hold.Order,.i a.hold.Reserved,.i a.hold.Taken,.i a.free] 0]),(7,.i (b.length:Int)),(8,.i 0)]) ?_
 refine Goes.block ?_
 obtain⟨g,g2,h⟩:=bnd h
 refine Goes.imp (Q:=fun x s'=>(x= .exit 0/\(.inl ())=g/\Sub s' (ofG 19 [],[]))\/(x= .ret/\ ∃j,(.inr j)=g/\qbg ZT [.tmp 4] (.i j) .ret s')) ?_ ?_
 ·refine Ud (fun M s=> ∃(c:Int),s=(ofG 19 (kAS b ((1,.func (.func 124) [] [.fptr [.str a.lot.Name,.str a.lot.Yarn,.str a.lot.Dye,.i a.lot.Stock,.bool a.known,.str a.hold.Lot,.str a.hold.Order,.i a.hold.Reserved,.i a.hold.Taken,.i a.free] 0])::(kAU (b.length:Int) c []))),[])/\xD b a M c=some g) ?_ (m:=N) ⟨_,rfl,g2⟩
  rintro M s ⟨c,rfl,g2⟩
  cases M with
  |zero=>simp only[xD]at g2;cases g2
  |succ M=>
   rw[xD]at g2
   refine sh fol (kAS b ((1,.func (.func 124) [] [.fptr [.str a.lot.Name,.str a.lot.Yarn,.str a.lot.Dye,.i a.lot.Stock,.bool a.known,.str a.hold.Lot,.str a.hold.Order,.i a.hold.Reserved,.i a.hold.Taken,.i a.free] 0])::(kAU (b.length:Int) c [(9,.bool (decide (c<(b.length:Int))))]))) ?_
   refine sq ?_
   refine ihD g2 (fun n g2=>?_) (fun n g2=>?_)
   ·refine Goes.skip ?_
    refine sq (Goes.block ?_)
    refine sh fol (kAS b ((1,.func (.func 124) [] [.fptr [.str a.lot.Name,.str a.lot.Yarn,.str a.lot.Dye,.i a.lot.Stock,.bool a.known,.str a.hold.Lot,.str a.hold.Order,.i a.hold.Reserved,.i a.hold.Taken,.i a.free] 0])::(5,.i c)::(kAU (b.length:Int) c []))) ?_
    obtain⟨d,e,g2⟩:=bnd g2
    obtain⟨k,f,g2⟩:=bnd g2
    refine sq (gr fol [3,4,5] (kAS b ((1,.func (.func 124) [] [.fptr [.str a.lot.Name,.str a.lot.Yarn,.str a.lot.Dye,.i a.lot.Stock,.bool a.known,.str a.hold.Lot,.str a.hold.Order,.i a.hold.Reserved,.i a.hold.Taken,.i a.free] 0])::(5,.i c)::(kAU (b.length:Int) c [(16,.bool k)]))) (ac (iv qnQ qE e) (ac (la qw6 qE e) (ac (hs (.call 124 (kAM d.Lot d.Order d.Reserved d.Taken [.fptr [.str a.lot.Name,.str a.lot.Yarn,.str a.lot.Dye,.i a.lot.Stock,.bool a.known,.str a.hold.Lot,.str a.hold.Order,.i a.hold.Reserved,.i a.hold.Taken,.i a.free] 0]) [] [] (kAM d.Lot d.Order d.Reserved d.Taken [.fptr [.str a.lot.Name,.str a.lot.Yarn,.str a.lot.Dye,.i a.lot.Stock,.bool a.known,.str a.hold.Lot,.str a.hold.Order,.i a.hold.Reserved,.i a.hold.Taken,.i a.free] 0]) (.bool k)) (yX (FzL.cons (Ua (Still.agg (AllST.cons tS (AllST.cons tS (AllST.cons tI (AllST.cons tI AllST.nil)))))) (FzL.cons (Ua (Still.fptr (AllST.cons tS (AllST.cons tS (AllST.cons tS (AllST.cons tI (AllST.cons tB (AllST.cons tS (AllST.cons tS (AllST.cons tI (AllST.cons tI (AllST.cons tI AllST.nil)))))))))))) FzL.nil)) (qh8 d a f) tB)) az))) ?_)
    refine ihB g2 (fun o g2=>?_) (fun o g2=>?_)
    ·refine sh fol (kAz c) ?_
     refine Goes.ret ?_
     obtain rfl:=si g2
     exact Or.inr (⟨rfl,_,rfl,(gw2 [.i c] (Ub tI))⟩)
    refine Goes.skip ?_
    refine gh fol (kAS b ((1,.func (.func 124) [] [.fptr [.str a.lot.Name,.str a.lot.Yarn,.str a.lot.Dye,.i a.lot.Stock,.bool a.known,.str a.hold.Lot,.str a.hold.Order,.i a.hold.Reserved,.i a.hold.Taken,.i a.free] 0])::(kAU (b.length:Int) (w64 (c+1)) []))) ?_
    exact⟨M,(ofG 19 (kAS b ((1,.func (.func 124) [] [.fptr [.str a.lot.Name,.str a.lot.Yarn,.str a.lot.Dye,.i a.lot.Stock,.bool a.known,.str a.hold.Lot,.str a.hold.Order,.i a.hold.Reserved,.i a.hold.Taken,.i a.free] 0])::(kAU (b.length:Int) (w64 (c+1)) []))),[]),Nat.lt_succ_self _,(Sub.refl _),_,rfl,g2⟩
   refine Goes.exit ?_
   obtain rfl:=si g2
   exact Or.inl (⟨rfl,rfl,(Sub.keep [] rfl rfl)⟩)
 rintro x s' (⟨rfl,rfl,hsub⟩|⟨rfl,p,rfl,hret⟩)
 ·try dsimp only at h
  refine Goes.sub hsub ?_
  refine sh fol kAp ?_
  refine Goes.ret ?_
  obtain rfl:=si h
  exact(gw2 [.i (-1)] (Ub tI))
 try dsimp only at h
 obtain rfl:=si h
 exact hret
def jf (b:Str) (c:Str) (d:Str) (e:Int) (f:Bool) (g:Str) (h:Str) (i:Int) (j:Int) (a10_:Int):Nat->(List qG)->Int->Int->Option ((List qG)×Int)
 |0,_,_,_=>none
 |K+1,a,k,m=>
  if m<(a.length:Int)then
  (((idx a m).bind fun l=>
  (qeE l (⟨(⟨b,c,d,e⟩:qP),f,(⟨g,h,i,j⟩:qG),a10_⟩:qo)).bind fun n=>
  if(!n)=true then
  (idx a k).bind fun r=>
  (put a k l).bind fun o=>
  some (o,w64 (k+1))
  else
  some (a,k):Option ((List qG)×Int))).bind fun(p,q)=>
  jf b c d e f g h i j a10_ K p q (w64 (m+1))
  else
  some (a,k)
def xu (N:Nat) (a:List qG) (b:Str) (c:Str) (d:Str) (e:Int) (f:Bool) (g:Str) (h:Str) (i:Int) (j:Int) (a10_:Int):Option (Unit⊕(List qG)):=
 (qgf N a (⟨(⟨b,c,d,e⟩:qP),f,(⟨g,h,i,j⟩:qG),a10_⟩:qo)).bind fun n=>
 if n=(-1)then
 some (.inl ())
 else
 (jf b c d e f g h i j a10_ N a n (w64 (n+1))).bind fun(k,o)=>
 (if o=0 then
 ((if 0<k.length then some ()else none:Option Unit)).bind fun s=>
 (some (qqF k 0 (⟨[],[],0,0⟩:qG))).bind fun p=>
 some p
 else
 (at' k o).bind fun l=>
 ((if l<k.length then some ()else none:Option Unit)).bind fun t=>
 (some (qqF k l (⟨[],[],0,0⟩:qG))).bind fun q=>
 some q:Option (List qG)).bind fun m=>
 ((if 0<m.length then some ()else none:Option Unit)).bind fun u=>
 (cut m 0 o).bind fun r=>
 some (.inr r)
theorem qmk (N:Nat) (p:List qG) (a:Str) (b:Str) (c:Str) (d:Int) (e:Bool) (f:Str) (g:Str) (j:Int) (k:Int) (a10_:Int) (h:xu N p a b c d e f g j k a10_=some (.inl ())):qJ ZT (.fn 122) [.gslice 0 p.length 4,.func (.func 124) [] [.ptr 1 0]] (kG p (kC a b c d e f g j k a10_ [])) (.gslice 0 p.length 4) (kG p (kC a b c d e f g j k a10_ [])):=by
 unfold xu at h
 refine Goes.fnH Tryz.func122 rfl rfl (m:=42) rfl (rs:=[.tmp 4]) rfl (l:=(kQ p [(1,.func (.func 124) [] [.ptr 1 0])])) rfl ?_
 intro B hB
 refine sh fol (kQ p [(1,.func (.func 124) [] [.ptr 1 0])]) ?_
 obtain⟨r2,e_r2,h⟩:=bnd h
 refine sq (gr fol [2] (kQ p ((1,.func (.func 124) [] [.ptr 1 0])::(kAn r2))) (ac (hs (.call 174 [.gslice 0 p.length 4,.func (.func 124) [] [.ptr 1 0]] (kG p (kC a b c d e f g j k a10_ [])) [0,1] [vl qE p,.func (.func 124) [] [.fptr [.str (((⟨(⟨a,b,c,d⟩:qP),e,(⟨f,g,j,k⟩:qG),a10_⟩:qo).lot).Name),.str (((⟨(⟨a,b,c,d⟩:qP),e,(⟨f,g,j,k⟩:qG),a10_⟩:qo).lot).Yarn),.str (((⟨(⟨a,b,c,d⟩:qP),e,(⟨f,g,j,k⟩:qG),a10_⟩:qo).lot).Dye),.i (((⟨(⟨a,b,c,d⟩:qP),e,(⟨f,g,j,k⟩:qG),a10_⟩:qo).lot).Stock),.bool ((⟨(⟨a,b,c,d⟩:qP),e,(⟨f,g,j,k⟩:qG),a10_⟩:qo).known),.str (((⟨(⟨a,b,c,d⟩:qP),e,(⟨f,g,j,k⟩:qG),a10_⟩:qo).hold).Lot),.str (((⟨(⟨a,b,c,d⟩:qP),e,(⟨f,g,j,k⟩:qG),a10_⟩:qo).hold).Order),.i (((⟨(⟨a,b,c,d⟩:qP),e,(⟨f,g,j,k⟩:qG),a10_⟩:qo).hold).Reserved),.i (((⟨(⟨a,b,c,d⟩:qP),e,(⟨f,g,j,k⟩:qG),a10_⟩:qo).hold).Taken),.i ((⟨(⟨a,b,c,d⟩:qP),e,(⟨f,g,j,k⟩:qG),a10_⟩:qo).free)] 0]] (.i r2)) (qe6 (FzL.cons (Fz.gs (E:=qE) rfl rfl (nl rfl)) (FzL.cons (Fz.func FzL.nil (FzL.cons (Fz.ptr rfl rfl (FzL.cons (Ua tS) (FzL.cons (Ua tS) (FzL.cons (Ua tS) (FzL.cons (Ua tI) (FzL.cons (Ua tB) (FzL.cons (Ua tS) (FzL.cons (Ua tS) (FzL.cons (Ua tI) (FzL.cons (Ua tI) (FzL.cons (Ua tI) FzL.nil))))))))))) FzL.nil)) FzL.nil)) (qjP N p (⟨(⟨a,b,c,d⟩:qP),e,(⟨f,g,j,k⟩:qG),a10_⟩:qo) e_r2) tI rfl)) az) ?_)
 refine sq ?_
 refine sh fol (kQ p [(1,.func (.func 124) [] [.ptr 1 0]),(5,.i r2),(12,.bool (decide (r2=(-1))))]) ?_
 refine ihD h (fun c3 h=>?_) (fun c3 h=>?_)
 ·refine sh fol [(4,.gslice 0 p.length 4)] ?_
  refine Goes.ret ?_
  cases h
  exact(gh2 [.gslice 0 p.length 4] (qtN.refl _ _))
 refine Goes.skip ?_
 refine sq ?_
 refine sh fol (kQ p ((1,.func (.func 124) [] [.ptr 1 0])::(kAN r2 (w64 (r2+1))))) ?_
 refine Goes.block ?_
 obtain⟨r9,g9,h⟩:=bnd h
 refine Goes.imp (Q:=fun x s'=>(x= .exit 0/\ ∃t v,(t,v)=r9/\Sub s' (ofG 42 (kQ t (kAn v)),(kG t (kC a b c d e f g j k a10_ []))))) ?_ ?_
 ·refine Ud (fun M s=> ∃(q:List qG) (w:Int) (r:Int),s=(ofG 42 (kQ q ((1,.func (.func 124) [] [.ptr 1 0])::(kAN w r))),(kG q (kC a b c d e f g j k a10_ [])))/\jf a b c d e f g j k a10_ M q w r=some r9) ?_ (m:=N) ⟨_,_,_,rfl,g9⟩
  rintro M s ⟨q,w,r,rfl,g9⟩
  cases M with
  |zero=>simp only[jf]at g9;cases g9
  |succ M=>
   rw[jf]at g9
   refine sq ?_
   refine sh fol (kQ q [(1,.func (.func 124) [] [.ptr 1 0]),(5,.i w),(6,.i r),(19,.bool (decide (r<(q.length:Int))))]) ?_
   refine ihD g9 (fun c10 g9=>?_) (fun c10 g9=>?_)
   ·refine Goes.skip ?_
    refine sq ?_
    obtain⟨r13,g13,g9⟩:=bnd g9
    refine Goes.imp (Q:=fun x s'=>(x= .normal/\ ∃u C,(u,C)=r13/\Sub s' (ofG 42 (kQ u ((1,.func (.func 124) [] [.ptr 1 0])::(kAN C r))),(kG u (kC a b c d e f g j k a10_ []))))) ?_ ?_
    ·refine Goes.block ?_
     obtain⟨n,D,g13⟩:=bnd g13
     refine sq (gq fol [2,3] (kQ q [(1,.func (.func 124) [] [.ptr 1 0]),(5,.i w),(6,.i r),(7,.ptr 2 0)]) (kG q (kC a b c d e f g j k a10_ (kL n.Lot n.Order n.Reserved n.Taken []))) (ac (hs (.done (.opt (zi ZT 28 (.gslice 0 q.length 4) (.i r))) (.ptr 0 ((r:Int).toNat*4+0))) (qtE qnQ D)) (ac (hs (.run [0] (qjE ZT 74 (.ptr 0 ((r:Int).toNat*4+0))) (kG q (kC a b c d e f g j k a10_ [])) (.agg [.str n.Lot,.str n.Order,.i n.Reserved,.i n.Taken]) (kG q (kC a b c d e f g j k a10_ [])) false) (qDk qw6 (E:=qE) (l:=q) rfl rfl D)) az)) ?_)
     obtain⟨r15,X,g13⟩:=bnd g13
     refine sq (gr fol [2] (kQ q [(1,.func (.func 124) [] [.ptr 1 0]),(5,.i w),(6,.i r),(7,.ptr 2 0),(29,.bool (!r15))]) (ac (hs (.call 124 (kAM n.Lot n.Order n.Reserved n.Taken [.ptr 1 0]) (kG q (kC a b c d e f g j k a10_ (kL n.Lot n.Order n.Reserved n.Taken []))) [1] (kAM n.Lot n.Order n.Reserved n.Taken [.fptr [.str (((⟨(⟨a,b,c,d⟩:qP),e,(⟨f,g,j,k⟩:qG),a10_⟩:qo).lot).Name),.str (((⟨(⟨a,b,c,d⟩:qP),e,(⟨f,g,j,k⟩:qG),a10_⟩:qo).lot).Yarn),.str (((⟨(⟨a,b,c,d⟩:qP),e,(⟨f,g,j,k⟩:qG),a10_⟩:qo).lot).Dye),.i (((⟨(⟨a,b,c,d⟩:qP),e,(⟨f,g,j,k⟩:qG),a10_⟩:qo).lot).Stock),.bool ((⟨(⟨a,b,c,d⟩:qP),e,(⟨f,g,j,k⟩:qG),a10_⟩:qo).known),.str (((⟨(⟨a,b,c,d⟩:qP),e,(⟨f,g,j,k⟩:qG),a10_⟩:qo).hold).Lot),.str (((⟨(⟨a,b,c,d⟩:qP),e,(⟨f,g,j,k⟩:qG),a10_⟩:qo).hold).Order),.i (((⟨(⟨a,b,c,d⟩:qP),e,(⟨f,g,j,k⟩:qG),a10_⟩:qo).hold).Reserved),.i (((⟨(⟨a,b,c,d⟩:qP),e,(⟨f,g,j,k⟩:qG),a10_⟩:qo).hold).Taken),.i ((⟨(⟨a,b,c,d⟩:qP),e,(⟨f,g,j,k⟩:qG),a10_⟩:qo).free)] 0]) (.bool r15)) (qe6 (FzL.cons (Ua (Still.agg (AllST.cons tS (AllST.cons tS (AllST.cons tI (AllST.cons tI AllST.nil)))))) (FzL.cons (Fz.ptr rfl rfl (FzL.cons (Ua tS) (FzL.cons (Ua tS) (FzL.cons (Ua tS) (FzL.cons (Ua tI) (FzL.cons (Ua tB) (FzL.cons (Ua tS) (FzL.cons (Ua tS) (FzL.cons (Ua tI) (FzL.cons (Ua tI) (FzL.cons (Ua tI) FzL.nil))))))))))) FzL.nil)) (qh8 n (⟨(⟨a,b,c,d⟩:qP),e,(⟨f,g,j,k⟩:qG),a10_⟩:qo) X) tB rfl)) az) ?_)
     refine ihB g13 (fun c16 g13=>?_) (fun c16 g13=>?_)
     ·obtain⟨x17,F,g13⟩:=bnd g13
      obtain⟨A,G,g13⟩:=bnd g13
      refine sq (gq fol [3,4] (kQ q ((1,.func (.func 124) [] [.ptr 1 0])::(kAN w r))) (kG A (kC a b c d e f g j k a10_ (kL n.Lot n.Order n.Reserved n.Taken []))) (ac (hs (.done (.opt (zi ZT 28 (.gslice 0 q.length 4) (.i w))) (.ptr 0 ((w:Int).toNat*4+0))) (qtE qnQ F)) (ac (hs (.run [0] (qqB ZT 74 (.ptr 0 ((w:Int).toNat*4+0)) (.agg [.str n.Lot,.str n.Order,.i n.Reserved,.i n.Taken])) (kG q (kC a b c d e f g j k a10_ (kL n.Lot n.Order n.Reserved n.Taken []))) .undef (kG A (kC a b c d e f g j k a10_ (kL n.Lot n.Order n.Reserved n.Taken []))) true) (qzH (E:=qE) (l:=q) (y:=n) rfl (show _=some 4 by kernel_rfl) rfl F rfl rfl rfl rfl rfl G rfl)) az)) ?_)
      refine Goes.sub (show Sub (ofG 42 (kQ q ((1,.func (.func 124) [] [.ptr 1 0])::(kAN w r))),(kG A (kC a b c d e f g j k a10_ (kL n.Lot n.Order n.Reserved n.Taken [])))) (ofG 42 (kQ A ((1,.func (.func 124) [] [.ptr 1 0])::(kAN w r))),(kG A (kC a b c d e f g j k a10_ [])))from(Sub.norm [] [some 0,some 1] (by rw[hB];rfl) rfl (.keep (.gsliceE rfl (quL G)) (.keep (.funcL (sn) (rc (.ptr rfl) rn)) (.keep (.same nI) (.keep (.same nI) .nil)))) (.ks (.kb rfl (.same sn) .nil)))) ?_
      refine gh fol (kQ A ((1,.func (.func 124) [] [.ptr 1 0])::(kAN (w64 (w+1)) r))) ?_
      obtain rfl:=si g13
      exact⟨rfl,_,_,rfl,(Sub.refl _)⟩
     refine Goes.skip ?_
     obtain rfl:=si g13
     exact⟨rfl,_,_,rfl,(Sub.norm [] [some 0,some 1] (by rw[hB];rfl) rfl (.keep (.gslice rfl) (.keep (.funcL (sn) (rc (.ptr rfl) rn)) (.keep (.same nI) (.keep (.same nI) .nil)))) (.ks (.kb rfl (.same sn) .nil)))⟩
    rintro x s' ⟨rfl,u,C,rfl,hsub⟩
    try dsimp only at g9
    refine Goes.sub hsub ?_
    refine gh fol (kQ u ((1,.func (.func 124) [] [.ptr 1 0])::(kAN C (w64 (r+1))))) ?_
    exact⟨M,(ofG 42 (kQ u ((1,.func (.func 124) [] [.ptr 1 0])::(kAN C (w64 (r+1))))),(kG u (kC a b c d e f g j k a10_ []))),Nat.lt_succ_self _,(Sub.refl _),_,_,_,rfl,g9⟩
   refine Goes.exit ?_
   obtain rfl:=si g9
   exact⟨rfl,_,_,rfl,(Sub.keep [0,5] rfl rfl)⟩
 rintro x s' ⟨rfl,t,v,rfl,hsub⟩
 try dsimp only at h
 refine Goes.sub hsub ?_
 refine sq ?_
 obtain⟨V,o,h⟩:=bnd h
 refine Goes.cutS (s':=(ofG 42 (kQ V (kAn v)),(kG V (kC a b c d e f g j k a10_ [])))) ?_ ?_
 ·rcases wyD o with⟨Y,o⟩|⟨Y,o⟩
  ·obtain⟨u20,H,o⟩:=bnd o
   obtain⟨I,J,o⟩:=bnd o
   obtain rfl:=si o
   exact qdw.sub (qdw.rq fol [2,3] (kQ t (kAn v)) (kG I (kC a b c d e f g j k a10_ [])) (ac (hs (.done (.opt (qja ZT 28 (.gslice 0 t.length 4) (some (.i v)) none none)) (.oslice 0 t.length 4)) (qzy qnQ (ot Y) (qmD H))) (ac (hs (.run [0] (qme ZT [28] (.oslice 0 t.length 4)) (kG t (kC a b c d e f g j k a10_ [])) (.tuple []) (kG I (kC a b c d e f g j k a10_ [])) true) (qC8 qnQ (E:=qE) (z:=(⟨[],[],0,0⟩:qG)) rfl (by kernel_rfl) rfl (qmD H) rfl J rfl)) az))) ((show Sub (ofG 42 (kQ t (kAn v)),(kG I (kC a b c d e f g j k a10_ []))) (ofG 42 (kQ I (kAn v)),(kG I (kC a b c d e f g j k a10_ [])))from(Sub.norm [] [some 0,some 1] (by rw[hB];rfl) rfl (.keep (.gsliceE rfl (qrX (Nat.zero_le _) J)) (.keep (.same nI) .nil)) (.ks (.kb rfl (.same sn) .nil)))).trans (Sub.refl _))
  obtain⟨W,K,o⟩:=bnd o
  obtain⟨u23,L,o⟩:=bnd o
  obtain⟨O,P,o⟩:=bnd o
  obtain rfl:=si o
  exact qdw.sub (qdw.rq fol [2,3] (kQ t (kAn v)) (kG O (kC a b c d e f g j k a10_ [])) (ac (hs (.done (.opt (qja ZT 28 (.gslice 0 t.length 4) (some (.i v)) none none)) (.wslice 0 (W*4) (t.length-W) 4)) (qxY qnQ (of_decide_eq_false Y) K (qmD L))) (ac (hs (.run [0] (qme ZT [28] (.wslice 0 (W*4) (t.length-W) 4)) (kG t (kC a b c d e f g j k a10_ [])) (.tuple []) (kG O (kC a b c d e f g j k a10_ [])) true) (qC6 qnQ (E:=qE) (z:=(⟨[],[],0,0⟩:qG)) rfl (by kernel_rfl) rfl (qmD L) rfl P rfl)) az))) ((show Sub (ofG 42 (kQ t (kAn v)),(kG O (kC a b c d e f g j k a10_ []))) (ofG 42 (kQ O (kAn v)),(kG O (kC a b c d e f g j k a10_ [])))from(Sub.norm [] [some 0,some 1] (by rw[hB];rfl) rfl (.keep (.gsliceE rfl (qrX (qC9 K) P)) (.keep (.same nI) .nil)) (.ks (.kb rfl (.same sn) .nil)))).trans (Sub.refl _))
 intro _ hsub
 refine Goes.sub hsub ?_
 obtain⟨u28,Z,h⟩:=bnd h
 obtain⟨T,U,h⟩:=bnd h
 refine sq (gr fol [2] (kA0 T) (ac (hs (.done (.opt (qja ZT 28 (.gslice 0 V.length 4) none (some (.i v)) none)) (.oslice 0 T.length 4)) (qDf qnQ (qmD Z) U)) az) ?_)
 refine Goes.sub (show Sub (ofG 42 (kA0 T),(kG V (kC a b c d e f g j k a10_ []))) (ofG 42 (kA0 T),(kG T (kC a b c d e f g j k a10_ [])))from(Sub.norm [] [some 0,some 1] (by rw[hB];rfl) rfl (.keep (.oslice rfl) .nil) (.kb rfl (qlq.cut U) (.kb rfl (.same sn) .nil)))) ?_
 refine Goes.ret ?_
 cases h
theorem qmg (N:Nat) (p:List qG) (a:Str) (b:Str) (c:Str) (d:Int) (e:Bool) (f:Str) (g:Str) (j:Int) (k:Int) (a10_:Int) {l1:List qG} (h:xu N p a b c d e f g j k a10_=some (.inr l1)):qJ ZT (.fn 122) [.gslice 0 p.length 4,.func (.func 124) [] [.ptr 1 0]] (kG p (kC a b c d e f g j k a10_ [])) (.oslice 0 l1.length 4) (kG l1 (kC a b c d e f g j k a10_ [])):=by
 unfold xu at h
 refine Goes.fnH Tryz.func122 rfl rfl (m:=42) rfl (rs:=[.tmp 4]) rfl (l:=(kQ p [(1,.func (.func 124) [] [.ptr 1 0])])) rfl ?_
 intro B hB
 refine sh fol (kQ p [(1,.func (.func 124) [] [.ptr 1 0])]) ?_
 obtain⟨r2,e_r2,h⟩:=bnd h
 refine sq (gr fol [2] (kQ p ((1,.func (.func 124) [] [.ptr 1 0])::(kAn r2))) (ac (hs (.call 174 [.gslice 0 p.length 4,.func (.func 124) [] [.ptr 1 0]] (kG p (kC a b c d e f g j k a10_ [])) [0,1] [vl qE p,.func (.func 124) [] [.fptr [.str (((⟨(⟨a,b,c,d⟩:qP),e,(⟨f,g,j,k⟩:qG),a10_⟩:qo).lot).Name),.str (((⟨(⟨a,b,c,d⟩:qP),e,(⟨f,g,j,k⟩:qG),a10_⟩:qo).lot).Yarn),.str (((⟨(⟨a,b,c,d⟩:qP),e,(⟨f,g,j,k⟩:qG),a10_⟩:qo).lot).Dye),.i (((⟨(⟨a,b,c,d⟩:qP),e,(⟨f,g,j,k⟩:qG),a10_⟩:qo).lot).Stock),.bool ((⟨(⟨a,b,c,d⟩:qP),e,(⟨f,g,j,k⟩:qG),a10_⟩:qo).known),.str (((⟨(⟨a,b,c,d⟩:qP),e,(⟨f,g,j,k⟩:qG),a10_⟩:qo).hold).Lot),.str (((⟨(⟨a,b,c,d⟩:qP),e,(⟨f,g,j,k⟩:qG),a10_⟩:qo).hold).Order),.i (((⟨(⟨a,b,c,d⟩:qP),e,(⟨f,g,j,k⟩:qG),a10_⟩:qo).hold).Reserved),.i (((⟨(⟨a,b,c,d⟩:qP),e,(⟨f,g,j,k⟩:qG),a10_⟩:qo).hold).Taken),.i ((⟨(⟨a,b,c,d⟩:qP),e,(⟨f,g,j,k⟩:qG),a10_⟩:qo).free)] 0]] (.i r2)) (qe6 (FzL.cons (Fz.gs (E:=qE) rfl rfl (nl rfl)) (FzL.cons (Fz.func FzL.nil (FzL.cons (Fz.ptr rfl rfl (FzL.cons (Ua tS) (FzL.cons (Ua tS) (FzL.cons (Ua tS) (FzL.cons (Ua tI) (FzL.cons (Ua tB) (FzL.cons (Ua tS) (FzL.cons (Ua tS) (FzL.cons (Ua tI) (FzL.cons (Ua tI) (FzL.cons (Ua tI) FzL.nil))))))))))) FzL.nil)) FzL.nil)) (qjP N p (⟨(⟨a,b,c,d⟩:qP),e,(⟨f,g,j,k⟩:qG),a10_⟩:qo) e_r2) tI rfl)) az) ?_)
 refine sq ?_
 refine sh fol (kQ p [(1,.func (.func 124) [] [.ptr 1 0]),(5,.i r2),(12,.bool (decide (r2=(-1))))]) ?_
 refine ihD h (fun c3 h=>?_) (fun c3 h=>?_)
 ·refine sh fol [(4,.gslice 0 p.length 4)] ?_
  refine Goes.ret ?_
  cases h
 refine Goes.skip ?_
 refine sq ?_
 refine sh fol (kQ p ((1,.func (.func 124) [] [.ptr 1 0])::(kAN r2 (w64 (r2+1))))) ?_
 refine Goes.block ?_
 obtain⟨r9,g9,h⟩:=bnd h
 refine Goes.imp (Q:=fun x s'=>(x= .exit 0/\ ∃t v,(t,v)=r9/\Sub s' (ofG 42 (kQ t (kAn v)),(kG t (kC a b c d e f g j k a10_ []))))) ?_ ?_
 ·refine Ud (fun M s=> ∃(q:List qG) (w:Int) (r:Int),s=(ofG 42 (kQ q ((1,.func (.func 124) [] [.ptr 1 0])::(kAN w r))),(kG q (kC a b c d e f g j k a10_ [])))/\jf a b c d e f g j k a10_ M q w r=some r9) ?_ (m:=N) ⟨_,_,_,rfl,g9⟩
  rintro M s ⟨q,w,r,rfl,g9⟩
  cases M with
  |zero=>simp only[jf]at g9;cases g9
  |succ M=>
   rw[jf]at g9
   refine sq ?_
   refine sh fol (kQ q [(1,.func (.func 124) [] [.ptr 1 0]),(5,.i w),(6,.i r),(19,.bool (decide (r<(q.length:Int))))]) ?_
   refine ihD g9 (fun c10 g9=>?_) (fun c10 g9=>?_)
   ·refine Goes.skip ?_
    refine sq ?_
    obtain⟨r13,g13,g9⟩:=bnd g9
    refine Goes.imp (Q:=fun x s'=>(x= .normal/\ ∃u D,(u,D)=r13/\Sub s' (ofG 42 (kQ u ((1,.func (.func 124) [] [.ptr 1 0])::(kAN D r))),(kG u (kC a b c d e f g j k a10_ []))))) ?_ ?_
    ·refine Goes.block ?_
     obtain⟨n,F,g13⟩:=bnd g13
     refine sq (gq fol [2,3] (kQ q [(1,.func (.func 124) [] [.ptr 1 0]),(5,.i w),(6,.i r),(7,.ptr 2 0)]) (kG q (kC a b c d e f g j k a10_ (kL n.Lot n.Order n.Reserved n.Taken []))) (ac (hs (.done (.opt (zi ZT 28 (.gslice 0 q.length 4) (.i r))) (.ptr 0 ((r:Int).toNat*4+0))) (qtE qnQ F)) (ac (hs (.run [0] (qjE ZT 74 (.ptr 0 ((r:Int).toNat*4+0))) (kG q (kC a b c d e f g j k a10_ [])) (.agg [.str n.Lot,.str n.Order,.i n.Reserved,.i n.Taken]) (kG q (kC a b c d e f g j k a10_ [])) false) (qDk qw6 (E:=qE) (l:=q) rfl rfl F)) az)) ?_)
     obtain⟨r15,X,g13⟩:=bnd g13
     refine sq (gr fol [2] (kQ q [(1,.func (.func 124) [] [.ptr 1 0]),(5,.i w),(6,.i r),(7,.ptr 2 0),(29,.bool (!r15))]) (ac (hs (.call 124 (kAM n.Lot n.Order n.Reserved n.Taken [.ptr 1 0]) (kG q (kC a b c d e f g j k a10_ (kL n.Lot n.Order n.Reserved n.Taken []))) [1] (kAM n.Lot n.Order n.Reserved n.Taken [.fptr [.str (((⟨(⟨a,b,c,d⟩:qP),e,(⟨f,g,j,k⟩:qG),a10_⟩:qo).lot).Name),.str (((⟨(⟨a,b,c,d⟩:qP),e,(⟨f,g,j,k⟩:qG),a10_⟩:qo).lot).Yarn),.str (((⟨(⟨a,b,c,d⟩:qP),e,(⟨f,g,j,k⟩:qG),a10_⟩:qo).lot).Dye),.i (((⟨(⟨a,b,c,d⟩:qP),e,(⟨f,g,j,k⟩:qG),a10_⟩:qo).lot).Stock),.bool ((⟨(⟨a,b,c,d⟩:qP),e,(⟨f,g,j,k⟩:qG),a10_⟩:qo).known),.str (((⟨(⟨a,b,c,d⟩:qP),e,(⟨f,g,j,k⟩:qG),a10_⟩:qo).hold).Lot),.str (((⟨(⟨a,b,c,d⟩:qP),e,(⟨f,g,j,k⟩:qG),a10_⟩:qo).hold).Order),.i (((⟨(⟨a,b,c,d⟩:qP),e,(⟨f,g,j,k⟩:qG),a10_⟩:qo).hold).Reserved),.i (((⟨(⟨a,b,c,d⟩:qP),e,(⟨f,g,j,k⟩:qG),a10_⟩:qo).hold).Taken),.i ((⟨(⟨a,b,c,d⟩:qP),e,(⟨f,g,j,k⟩:qG),a10_⟩:qo).free)] 0]) (.bool r15)) (qe6 (FzL.cons (Ua (Still.agg (AllST.cons tS (AllST.cons tS (AllST.cons tI (AllST.cons tI AllST.nil)))))) (FzL.cons (Fz.ptr rfl rfl (FzL.cons (Ua tS) (FzL.cons (Ua tS) (FzL.cons (Ua tS) (FzL.cons (Ua tI) (FzL.cons (Ua tB) (FzL.cons (Ua tS) (FzL.cons (Ua tS) (FzL.cons (Ua tI) (FzL.cons (Ua tI) (FzL.cons (Ua tI) FzL.nil))))))))))) FzL.nil)) (qh8 n (⟨(⟨a,b,c,d⟩:qP),e,(⟨f,g,j,k⟩:qG),a10_⟩:qo) X) tB rfl)) az) ?_)
     refine ihB g13 (fun c16 g13=>?_) (fun c16 g13=>?_)
     ·obtain⟨x17,G,g13⟩:=bnd g13
      obtain⟨A,H,g13⟩:=bnd g13
      refine sq (gq fol [3,4] (kQ q ((1,.func (.func 124) [] [.ptr 1 0])::(kAN w r))) (kG A (kC a b c d e f g j k a10_ (kL n.Lot n.Order n.Reserved n.Taken []))) (ac (hs (.done (.opt (zi ZT 28 (.gslice 0 q.length 4) (.i w))) (.ptr 0 ((w:Int).toNat*4+0))) (qtE qnQ G)) (ac (hs (.run [0] (qqB ZT 74 (.ptr 0 ((w:Int).toNat*4+0)) (.agg [.str n.Lot,.str n.Order,.i n.Reserved,.i n.Taken])) (kG q (kC a b c d e f g j k a10_ (kL n.Lot n.Order n.Reserved n.Taken []))) .undef (kG A (kC a b c d e f g j k a10_ (kL n.Lot n.Order n.Reserved n.Taken []))) true) (qzH (E:=qE) (l:=q) (y:=n) rfl (show _=some 4 by kernel_rfl) rfl G rfl rfl rfl rfl rfl H rfl)) az)) ?_)
      refine Goes.sub (show Sub (ofG 42 (kQ q ((1,.func (.func 124) [] [.ptr 1 0])::(kAN w r))),(kG A (kC a b c d e f g j k a10_ (kL n.Lot n.Order n.Reserved n.Taken [])))) (ofG 42 (kQ A ((1,.func (.func 124) [] [.ptr 1 0])::(kAN w r))),(kG A (kC a b c d e f g j k a10_ [])))from(Sub.norm [] [some 0,some 1] (by rw[hB];rfl) rfl (.keep (.gsliceE rfl (quL H)) (.keep (.funcL (sn) (rc (.ptr rfl) rn)) (.keep (.same nI) (.keep (.same nI) .nil)))) (.ks (.kb rfl (.same sn) .nil)))) ?_
      refine gh fol (kQ A ((1,.func (.func 124) [] [.ptr 1 0])::(kAN (w64 (w+1)) r))) ?_
      obtain rfl:=si g13
      exact⟨rfl,_,_,rfl,(Sub.refl _)⟩
     refine Goes.skip ?_
     obtain rfl:=si g13
     exact⟨rfl,_,_,rfl,(Sub.norm [] [some 0,some 1] (by rw[hB];rfl) rfl (.keep (.gslice rfl) (.keep (.funcL (sn) (rc (.ptr rfl) rn)) (.keep (.same nI) (.keep (.same nI) .nil)))) (.ks (.kb rfl (.same sn) .nil)))⟩
    rintro x s' ⟨rfl,u,D,rfl,hsub⟩
    try dsimp only at g9
    refine Goes.sub hsub ?_
    refine gh fol (kQ u ((1,.func (.func 124) [] [.ptr 1 0])::(kAN D (w64 (r+1))))) ?_
    exact⟨M,(ofG 42 (kQ u ((1,.func (.func 124) [] [.ptr 1 0])::(kAN D (w64 (r+1))))),(kG u (kC a b c d e f g j k a10_ []))),Nat.lt_succ_self _,(Sub.refl _),_,_,_,rfl,g9⟩
   refine Goes.exit ?_
   obtain rfl:=si g9
   exact⟨rfl,_,_,rfl,(Sub.keep [0,5] rfl rfl)⟩
 rintro x s' ⟨rfl,t,v,rfl,hsub⟩
 try dsimp only at h
 refine Goes.sub hsub ?_
 refine sq ?_
 obtain⟨V,o,h⟩:=bnd h
 refine Goes.cutS (s':=(ofG 42 (kQ V (kAn v)),(kG V (kC a b c d e f g j k a10_ [])))) ?_ ?_
 ·rcases wyD o with⟨Y,o⟩|⟨Y,o⟩
  ·obtain⟨u20,I,o⟩:=bnd o
   obtain⟨J,K,o⟩:=bnd o
   obtain rfl:=si o
   exact qdw.sub (qdw.rq fol [2,3] (kQ t (kAn v)) (kG J (kC a b c d e f g j k a10_ [])) (ac (hs (.done (.opt (qja ZT 28 (.gslice 0 t.length 4) (some (.i v)) none none)) (.oslice 0 t.length 4)) (qzy qnQ (ot Y) (qmD I))) (ac (hs (.run [0] (qme ZT [28] (.oslice 0 t.length 4)) (kG t (kC a b c d e f g j k a10_ [])) (.tuple []) (kG J (kC a b c d e f g j k a10_ [])) true) (qC8 qnQ (E:=qE) (z:=(⟨[],[],0,0⟩:qG)) rfl (by kernel_rfl) rfl (qmD I) rfl K rfl)) az))) ((show Sub (ofG 42 (kQ t (kAn v)),(kG J (kC a b c d e f g j k a10_ []))) (ofG 42 (kQ J (kAn v)),(kG J (kC a b c d e f g j k a10_ [])))from(Sub.norm [] [some 0,some 1] (by rw[hB];rfl) rfl (.keep (.gsliceE rfl (qrX (Nat.zero_le _) K)) (.keep (.same nI) .nil)) (.ks (.kb rfl (.same sn) .nil)))).trans (Sub.refl _))
  obtain⟨W,L,o⟩:=bnd o
  obtain⟨u23,O,o⟩:=bnd o
  obtain⟨P,T,o⟩:=bnd o
  obtain rfl:=si o
  exact qdw.sub (qdw.rq fol [2,3] (kQ t (kAn v)) (kG P (kC a b c d e f g j k a10_ [])) (ac (hs (.done (.opt (qja ZT 28 (.gslice 0 t.length 4) (some (.i v)) none none)) (.wslice 0 (W*4) (t.length-W) 4)) (qxY qnQ (of_decide_eq_false Y) L (qmD O))) (ac (hs (.run [0] (qme ZT [28] (.wslice 0 (W*4) (t.length-W) 4)) (kG t (kC a b c d e f g j k a10_ [])) (.tuple []) (kG P (kC a b c d e f g j k a10_ [])) true) (qC6 qnQ (E:=qE) (z:=(⟨[],[],0,0⟩:qG)) rfl (by kernel_rfl) rfl (qmD O) rfl T rfl)) az))) ((show Sub (ofG 42 (kQ t (kAn v)),(kG P (kC a b c d e f g j k a10_ []))) (ofG 42 (kQ P (kAn v)),(kG P (kC a b c d e f g j k a10_ [])))from(Sub.norm [] [some 0,some 1] (by rw[hB];rfl) rfl (.keep (.gsliceE rfl (qrX (qC9 L) T)) (.keep (.same nI) .nil)) (.ks (.kb rfl (.same sn) .nil)))).trans (Sub.refl _))
 intro _ hsub
 refine Goes.sub hsub ?_
 obtain⟨u28,Z,h⟩:=bnd h
 obtain⟨C,U,h⟩:=bnd h
 refine sq (gr fol [2] (kA0 C) (ac (hs (.done (.opt (qja ZT 28 (.gslice 0 V.length 4) none (some (.i v)) none)) (.oslice 0 C.length 4)) (qDf qnQ (qmD Z) U)) az) ?_)
 refine Goes.sub (show Sub (ofG 42 (kA0 C),(kG V (kC a b c d e f g j k a10_ []))) (ofG 42 (kA0 C),(kG C (kC a b c d e f g j k a10_ [])))from(Sub.norm [] [some 0,some 1] (by rw[hB];rfl) rfl (.keep (.oslice rfl) .nil) (.kb rfl (qlq.cut U) (.kb rfl (.same sn) .nil)))) ?_
 refine Goes.ret ?_
 obtain rfl:=Sum.inr.inj (si h)
 exact(gh2 [.oslice 0 C.length 4] (qtN.refl _ _))
def qjt (N:Nat) (d:StateT) (e:ky):Option StateT:=
 ((qh5).bind fun O=>
 if(e.Kind==[114,101,99,101,105,118,101])=true then
 (jJ N d e).bind fun H=>
 (qkz H e.Amount).bind fun h=>
 some (h.lot.Name,h.lot.Yarn,h.lot.Dye,h.lot.Stock,h.known,h.hold.Lot,h.hold.Order,h.hold.Reserved,h.hold.Taken,h.free)
 else
 if(e.Kind==[114,101,115,101,114,118,101])=true then
 (jJ N d e).bind fun I=>
 (qkE I e.Amount).bind fun i=>
 some (i.lot.Name,i.lot.Yarn,i.lot.Dye,i.lot.Stock,i.known,i.hold.Lot,i.hold.Order,i.hold.Reserved,i.hold.Taken,i.free)
 else
 if(e.Kind==[114,101,108,101,97,115,101])=true then
 (jJ N d e).bind fun J=>
 (qky J e.Amount).bind fun a=>
 some (a.lot.Name,a.lot.Yarn,a.lot.Dye,a.lot.Stock,a.known,a.hold.Lot,a.hold.Order,a.hold.Reserved,a.hold.Taken,a.free)
 else
 if(e.Kind==[116,97,107,101])=true then
 (jJ N d e).bind fun w=>
 (qob w e.Amount).bind fun b=>
 some (b.lot.Name,b.lot.Yarn,b.lot.Dye,b.lot.Stock,b.known,b.hold.Lot,b.hold.Order,b.hold.Reserved,b.hold.Taken,b.free)
 else
 if(e.Kind==[114,101,116,117,114,110])=true then
 (jJ N d e).bind fun x=>
 (qks x e.Amount).bind fun c=>
 some (c.lot.Name,c.lot.Yarn,c.lot.Dye,c.lot.Stock,c.known,c.hold.Lot,c.hold.Order,c.hold.Reserved,c.hold.Taken,c.free)
 else
 none:Option (Str×Str×Str×Int×Bool×Str×Str×Int×Int×Int)).bind fun(k,l,m,n,y,o,p,f,g,z)=>
 (qry d.Lots).bind fun _=>
 (qfa N (⟨e.Day,d.Lots,[]⟩:StateT) e.Lot).bind fun j=>
 ((if j.2=true then
 (idx d.Lots j.1).bind fun K=>
 (put d.Lots j.1 (⟨k,l,m,n⟩:qP)).bind fun A=>
 some A
 else
 (qvl d.Lots j.1 k l m n).bind fun B=>
 some B:Option (List qP))).bind fun q=>
 (qpS d.Holds).bind fun _=>
 (xu N d.Holds k l m n y o p f g z).bind fun C=>
 match C with
 | .inl _=>
 (if f>0 then
 some true
 else
 some (decide (g>0)):Option Bool).bind fun D=>
 ((if D=true then
 (app 48 d.Holds [(⟨o,p,f,g⟩:qG)]).bind fun E=>
 some E
 else
 some d.Holds:Option (List qG))).bind fun r=>
 (qrV r).bind fun s=>
 ((if r.length=s.length then some ()else none:Option Unit)).bind fun L=>
 some (⟨e.Day,q,s⟩:StateT)
 | .inr t=>
 (if f>0 then
 some true
 else
 some (decide (g>0)):Option Bool).bind fun F=>
 ((if F=true then
 (app 48 t [(⟨o,p,f,g⟩:qG)]).bind fun G=>
 some G
 else
 some t:Option (List qG))).bind fun u=>
 (qr7 u).bind fun v=>
 ((if u.length=v.length then some ()else none:Option Unit)).bind fun M=>
 some (⟨e.Day,q,v⟩:StateT)
theorem qs2 (N:Nat) (b:StateT) (e:ky) {res:StateT} (h:qjt N b e=some res):qJ ZT (.fn 59) (kAE b.Day b.Lots b.Holds [.agg [.str e.Kind,.i e.Day,.str e.Lot,.i e.Amount,.str e.Yarn,.str e.Dye,.str e.Order]]) [] (.agg (kE res.Day res.Lots res.Holds)) []:=by
 unfold qjt at h
 refine Uc Tryz.func59 rfl rfl (m:=75) rfl (rs:=[.cell 4 30]) rfl (l:=(kZ b.Day b.Lots b.Holds [(1,.agg [.str e.Kind,.i e.Day,.str e.Lot,.i e.Amount,.str e.Yarn,.str e.Dye,.str e.Order])])) rfl ?_
 refine sg fol (kN [(4,.ptr 2 0)]) (kD b.Day b.Lots b.Holds (kF e.Kind e.Day e.Lot e.Amount e.Yarn e.Dye e.Order (kH []))) ?_
 refine sq ?_
 obtain⟨⟨j,k,n,o,q,d,f,g,c,r⟩,a,h⟩:=bnd h
 refine Goes.cut (s':=(ofG 75 (kN (kAT [])),(kD b.Day b.Lots b.Holds (kF e.Kind e.Day e.Lot e.Amount e.Yarn e.Dye e.Order (kH (kC j k n o q d f g c r [])))))) ?_ ?_
 ·obtain⟨r1,G,a⟩:=bnd a
  rcases wyB a with⟨c2,a⟩|⟨c2,a⟩
  ·obtain⟨r3,e_r3,a⟩:=bnd a
   obtain⟨M,e_r4,a⟩:=bnd a
   simp only[ZI,ZP]at a
   obtain⟨rfl,rfl,rfl,rfl,rfl,rfl,rfl,rfl,rfl,rfl⟩:=a
   exact qdw.rq fol [0,3,7,10] (kN (kAT [])) (kD b.Day b.Lots b.Holds (kF e.Kind e.Day e.Lot e.Amount e.Yarn e.Dye e.Order (kH (kC M.lot.Name M.lot.Yarn M.lot.Dye M.lot.Stock M.known M.hold.Lot M.hold.Order M.hold.Reserved M.hold.Taken M.free [])))) (ac (cv (xI G)) (ac (hs (.done (qeR ZT 143 (fm1) (.str e.Kind) false) (.agg [.func (.func 132) [] [],.func (.func 133) [] []])) (qmB qnm [[114,101,99,101,105,118,101],[114,101,115,101,114,118,101],[114,101,108,101,97,115,101],[116,97,107,101],[114,101,116,117,114,110]] (qfQ c2) rfl)) (ac (cv (qeC N b e e_r3)) (ac (cv (qp0 r3 e.Amount e_r4)) az))))
  rcases wyB a with⟨c5,a⟩|⟨c5,a⟩
  ·obtain⟨r6,e_r6,a⟩:=bnd a
   obtain⟨O,e_r7,a⟩:=bnd a
   simp only[ZI,ZP]at a
   obtain⟨rfl,rfl,rfl,rfl,rfl,rfl,rfl,rfl,rfl,rfl⟩:=a
   exact qdw.rq fol [0,3,7,10] (kN (kAT [])) (kD b.Day b.Lots b.Holds (kF e.Kind e.Day e.Lot e.Amount e.Yarn e.Dye e.Order (kH (kC O.lot.Name O.lot.Yarn O.lot.Dye O.lot.Stock O.known O.hold.Lot O.hold.Order O.hold.Reserved O.hold.Taken O.free [])))) (ac (cv (xI G)) (ac (hs (.done (qeR ZT 143 (fm1) (.str e.Kind) false) (.agg [.func (.func 134) [] [],.func (.func 135) [] []])) (qmB qnm [[114,101,99,101,105,118,101],[114,101,115,101,114,118,101],[114,101,108,101,97,115,101],[116,97,107,101],[114,101,116,117,114,110]] (zY c2 (qfQ c5)) rfl)) (ac (cv (qeC N b e e_r6)) (ac (cv (qpU r6 e.Amount e_r7)) az))))
  rcases wyB a with⟨c8,a⟩|⟨c8,a⟩
  ·obtain⟨r9,e_r9,a⟩:=bnd a
   obtain⟨A,V,a⟩:=bnd a
   simp only[ZI,ZP]at a
   obtain⟨rfl,rfl,rfl,rfl,rfl,rfl,rfl,rfl,rfl,rfl⟩:=a
   exact qdw.rq fol [0,3,7,10] (kN (kAT [])) (kD b.Day b.Lots b.Holds (kF e.Kind e.Day e.Lot e.Amount e.Yarn e.Dye e.Order (kH (kC A.lot.Name A.lot.Yarn A.lot.Dye A.lot.Stock A.known A.hold.Lot A.hold.Order A.hold.Reserved A.hold.Taken A.free [])))) (ac (cv (xI G)) (ac (hs (.done (qeR ZT 143 (fm1) (.str e.Kind) false) (.agg [.func (.func 137) [] [],.func (.func 138) [] []])) (qmB qnm [[114,101,99,101,105,118,101],[114,101,115,101,114,118,101],[114,101,108,101,97,115,101],[116,97,107,101],[114,101,116,117,114,110]] (zY c2 (zY c5 (qfQ c8))) rfl)) (ac (cv (qeC N b e e_r9)) (ac (cv (qpE r9 e.Amount V)) az))))
  rcases wyB a with⟨W,a⟩|⟨W,a⟩
  ·obtain⟨r12,X,a⟩:=bnd a
   obtain⟨B,Y,a⟩:=bnd a
   simp only[ZI,ZP]at a
   obtain⟨rfl,rfl,rfl,rfl,rfl,rfl,rfl,rfl,rfl,rfl⟩:=a
   exact qdw.rq fol [0,3,7,10] (kN (kAT [])) (kD b.Day b.Lots b.Holds (kF e.Kind e.Day e.Lot e.Amount e.Yarn e.Dye e.Order (kH (kC B.lot.Name B.lot.Yarn B.lot.Dye B.lot.Stock B.known B.hold.Lot B.hold.Order B.hold.Reserved B.hold.Taken B.free [])))) (ac (cv (xI G)) (ac (hs (.done (qeR ZT 143 (fm1) (.str e.Kind) false) (.agg [.func (.func 139) [] [],.func (.func 140) [] []])) (qmB qnm [[114,101,99,101,105,118,101],[114,101,115,101,114,118,101],[114,101,108,101,97,115,101],[116,97,107,101],[114,101,116,117,114,110]] (zY c2 (zY c5 (zY c8 (qfQ W)))) rfl)) (ac (cv (qeC N b e X)) (ac (cv (qsF r12 e.Amount Y)) az))))
  rcases wyB a with⟨c14,a⟩|⟨c14,a⟩
  ·obtain⟨r15,Z,a⟩:=bnd a
   obtain⟨C,a0,a⟩:=bnd a
   simp only[ZI,ZP]at a
   obtain⟨rfl,rfl,rfl,rfl,rfl,rfl,rfl,rfl,rfl,rfl⟩:=a
   exact qdw.rq fol [0,3,7,10] (kN (kAT [])) (kD b.Day b.Lots b.Holds (kF e.Kind e.Day e.Lot e.Amount e.Yarn e.Dye e.Order (kH (kC C.lot.Name C.lot.Yarn C.lot.Dye C.lot.Stock C.known C.hold.Lot C.hold.Order C.hold.Reserved C.hold.Taken C.free [])))) (ac (cv (xI G)) (ac (hs (.done (qeR ZT 143 (fm1) (.str e.Kind) false) (.agg [.func (.func 141) [] [],.func (.func 142) [] []])) (qmB qnm [[114,101,99,101,105,118,101],[114,101,115,101,114,118,101],[114,101,108,101,97,115,101],[116,97,107,101],[114,101,116,117,114,110]] (zY c2 (zY c5 (zY c8 (zY W (qfQ c14))))) rfl)) (ac (cv (qeC N b e Z)) (ac (cv (qpP r15 e.Amount a0)) az))))
  cases a
 try dsimp only at h
 obtain⟨_,a1,h⟩:=bnd h
 refine sq (gq fol [4] (kN (kAT [(6,.ptr 5 0)])) (kD b.Day b.Lots b.Holds (kF e.Kind e.Day e.Lot e.Amount e.Yarn e.Dye e.Order (kH (kC j k n o q d f g c r (kW b.Lots (kAP e.Day b.Lots [])))))) (ac (hs (.callH 120 [vl qg b.Lots] (kD b.Day b.Lots b.Holds (kF e.Kind e.Day e.Lot e.Amount e.Yarn e.Dye e.Order (kH (kC j k n o q d f g c r [])))) [] (.gslice 4 b.Lots.length 4) (kD b.Day b.Lots b.Holds (kF e.Kind e.Day e.Lot e.Amount e.Yarn e.Dye e.Order (kH (kC j k n o q d f g c r (kW b.Lots [])))))) (qrn [] [none,none,none,none,some 0] (qxP b.Lots a1) .nil rfl rfl (.old rfl rfl (.old rfl rfl (.old rfl rfl (.old rfl rfl (.new rfl rfl (.same fa) rfl .nil))))) (rc (.same (zu qg _)) rn) (.gslice rfl) rfl)) az) ?_)
 refine sq ?_
 obtain⟨s,a2,h⟩:=bnd h
 refine sq (gr fol [3] (kU (kAT [(6,.ptr 5 0),(7,.i s.1),(8,.bool s.2)])) (ac (hs (.call 80 [.agg [.i e.Day,.gslice 4 b.Lots.length 4,.nilslice],.str e.Lot] (kD b.Day b.Lots b.Holds (kF e.Kind e.Day e.Lot e.Amount e.Yarn e.Dye e.Order (kH (kC j k n o q d f g c r (kW b.Lots (kAP e.Day b.Lots [])))))) [4] [.agg [.i e.Day,vl qg b.Lots,.nilslice],.str e.Lot] (.tuple [.i s.1,.bool s.2])) (qe6 (FzL.cons (Fz.agg (FzL.cons (Ua tI) (FzL.cons (Fz.gs (E:=qg) rfl rfl (nl rfl)) (FzL.cons (Ua (Still.nilslice 10)) FzL.nil)))) (FzL.cons (Ua tS) FzL.nil)) ((qJ.wk (qlP N (⟨e.Day,b.Lots,[]⟩:StateT) e.Lot a2) (WkL.cons (Wk.agg (WkL.cons (Wk.refl _) (WkL.cons (Wk.refl _) (WkL.cons (Wk.nilv (E:=qE)) WkL.nil)))) (WkL.cons (Wk.refl _) WkL.nil)))) (Still.tuple (AllST.cons tI (AllST.cons tB AllST.nil))) rfl)) az) ?_)
 refine sh fol (kU (kAT [(6,.ptr 5 0),(7,.i s.1),(33,.bool s.2)])) ?_
 obtain⟨r31,g31,h⟩:=bnd h
 refine Goes.imp (Q:=fun x s'=>(x= .normal/\ ∃p,p=r31/\Sub s' (ofG 75 (kU (kAF [])),(kD b.Day b.Lots b.Holds (kH (kC j k n o q d f g c r (kAc e.Day p []))))))) ?_ ?_
 ·refine ihB g31 (fun c32 g31=>?_) (fun c32 g31=>?_)
  ·obtain⟨x33,H,g31⟩:=bnd g31
   obtain⟨I,J,g31⟩:=bnd g31
   refine gq fol [5,6] (kU (kAT [(6,.ptr 5 0)])) (kD b.Day b.Lots b.Holds (kF e.Kind e.Day e.Lot e.Amount e.Yarn e.Dye e.Order (kH (kC j k n o q d f g c r (kW I (kAP e.Day b.Lots [])))))) (ac (hs (.done (.opt (zi ZT 27 (.gslice 4 b.Lots.length 4) (.i s.1))) (.ptr 4 ((s.1:Int).toNat*4+0))) (qtE qoB H)) (ac (hs (.run [4] (qqB ZT 71 (.ptr 4 ((s.1:Int).toNat*4+0)) (.agg [.str j,.str k,.str n,.i o])) (kD b.Day b.Lots b.Holds (kF e.Kind e.Day e.Lot e.Amount e.Yarn e.Dye e.Order (kH (kC j k n o q d f g c r (kW b.Lots (kAP e.Day b.Lots [])))))) .undef (kD b.Day b.Lots b.Holds (kF e.Kind e.Day e.Lot e.Amount e.Yarn e.Dye e.Order (kH (kC j k n o q d f g c r (kW I (kAP e.Day b.Lots [])))))) true) (qzH (E:=qg) (l:=b.Lots) (y:=(⟨j,k,n,o⟩:qP)) rfl (show _=some 4 by kernel_rfl) rfl H rfl rfl rfl rfl rfl J rfl)) az)) ?_
   obtain rfl:=si g31
   exact⟨rfl,_,rfl,((show Sub (ofG 75 (kU (kAT [(6,.ptr 5 0)])),(kD b.Day b.Lots b.Holds (kF e.Kind e.Day e.Lot e.Amount e.Yarn e.Dye e.Order (kH (kC j k n o q d f g c r (kW I (kAP e.Day b.Lots []))))))) (ofG 75 (kU (kAF [])),(kD b.Day b.Lots b.Holds (kH (kC j k n o q d f g c r (kAP e.Day I (kW I []))))))from(Sub.norm [] [some 0,some 2,some 3,some 5,some 4] rfl rfl (.kp (.kp (.kp (.kp .nil)))) (.kb rfl (.same sn) (.kb rfl (.same sn) (.kb rfl (.same sn) (.kb rfl (.cells (rc (.same nI) (rc (.gsliceE rfl (quL J)) (rc (.same (jT.nilslice)) rn)))) (.ks .nil))))))).trans (Sub.norm [4] [some 0,some 1,some 2,some 3] rfl rfl (.kp (.kp (.kp (.kp .nil)))) (.kb rfl (.same sn) (.kb rfl (.same sn) (.kb rfl (.same sn) (.kb rfl (.cells (rc (.same nI) (rc (.frz (Fz.gs (E:=qg) rfl rfl (nl rfl)) (zu qg _)) (rc (.same (jT.nilslice)) rn)))) .nil))))))⟩
  obtain⟨P,a3,g31⟩:=bnd g31
  refine gq fol [6] (kU (kAT [(6,.ptr 5 0)])) (kD b.Day b.Lots b.Holds (kF e.Kind e.Day e.Lot e.Amount e.Yarn e.Dye e.Order (kH (kC j k n o q d f g c r (.dead:: .cells [.i e.Day,.oslice 7 P.length 4,.nilslice]::(kR j k n o (kW P []))))))) (ac (hs (.callH 121 [.gslice 4 b.Lots.length 4,.i s.1,.slice 6 0 1 1 4] (kD b.Day b.Lots b.Holds (kF e.Kind e.Day e.Lot e.Amount e.Yarn e.Dye e.Order (kH (kC j k n o q d f g c r (kW b.Lots (kAP e.Day b.Lots (kR j k n o []))))))) [4,6] (.oslice 7 P.length 4) (kD b.Day b.Lots b.Holds (kF e.Kind e.Day e.Lot e.Amount e.Yarn e.Dye e.Order (kH (kC j k n o q d f g c r (.dead::(kAP e.Day b.Lots (kR j k n o (kW P []))))))))) (qrn [some 4,some 6] [none,none,none,none,none,none,some 1,some 2] (qAt b.Lots s.1 j k n o a3) (.ks (.kb rfl (.cells (rc (.same nS) (rc (.same nS) (rc (.same nS) (rc (.same nI) rn))))) .nil)) rfl rfl (.old rfl rfl (.old rfl rfl (.old rfl rfl (.old rfl rfl (.dead (.old rfl rfl (.back rfl rfl (.cells (rc (.same nS) (rc (.same nS) (rc (.same nS) (rc (.same nI) rn))))) rfl (.new rfl rfl (.same fa) rfl .nil)))))))) (rc (.gslice rfl) (rc (.same nI) (rc (.slice rfl) rn))) (.oslice rfl) rfl)) az) ?_
  obtain rfl:=si g31
  exact⟨rfl,_,rfl,(Sub.norm [7] [some 0,some 2,some 3,some 5] rfl rfl (.kp (.kp (.kp (.kp .nil)))) (.kb rfl (.same sn) (.kb rfl (.same sn) (.kb rfl (.same sn) (.kb rfl (.cells (rc (.same nI) (rc (.frz (Fz.os (E:=qg) rfl rfl (nl rfl)) (zu qg _)) (rc (.same (jT.nilslice)) rn)))) .nil)))))⟩
 rintro x s' ⟨rfl,p,rfl,hsub⟩
 refine Goes.sub hsub ?_
 refine sq ?_
 obtain⟨_,K,h⟩:=bnd h
 obtain⟨r38,L,h⟩:=bnd h
 rcases r38 with _|t
 ·try dsimp only at h
  refine gq fol [2,4] (kAF []) (kD b.Day b.Lots b.Holds (kH (kC j k n o q d f g c r (.cells [.i e.Day,vl qg p,.gslice 4 b.Holds.length 4]::(kG b.Holds []))))) (ac (hs (.callH 123 [vl qE b.Holds] (kD b.Day b.Lots b.Holds (kH (kC j k n o q d f g c r (kAc e.Day p [])))) [] (.gslice 4 b.Holds.length 4) (kD b.Day b.Lots b.Holds (kH (kC j k n o q d f g c r (kAc e.Day p (kG b.Holds [])))))) (qrn [] [none,none,none,none,some 0] (qth b.Holds K) .nil rfl rfl (.old rfl rfl (.old rfl rfl (.old rfl rfl (.old rfl rfl (.new rfl rfl (.same fa) rfl .nil))))) (rc (.same (zu qE _)) rn) (.gslice rfl) rfl)) (ac (hs (.callH 122 [.gslice 4 b.Holds.length 4,.func (.func 124) [] [.ptr 2 0]] (kD b.Day b.Lots b.Holds (kH (kC j k n o q d f g c r (kAc e.Day p (kG b.Holds []))))) [4,2] (.gslice 4 b.Holds.length 4) (kD b.Day b.Lots b.Holds (kH (kC j k n o q d f g c r (kAc e.Day p (kG b.Holds [])))))) (qrn [some 4,some 2] [none,none,some 1,none,some 0] (qmk N b.Holds j k n o q d f g c r L) (.ks (.kb rfl (.cells (rc (.same nS) (rc (.same nS) (rc (.same nS) (rc (.same nI) (rc (.same nB) (rc (.same nS) (rc (.same nS) (rc (.same nI) (rc (.same nI) (rc (.same nI) rn))))))))))) .nil)) rfl rfl (.old rfl rfl (.old rfl rfl (.back rfl rfl (.cells (rc (.same nS) (rc (.same nS) (rc (.same nS) (rc (.same nI) (rc (.same nB) (rc (.same nS) (rc (.same nS) (rc (.same nI) (rc (.same nI) (rc (.same nI) rn))))))))))) rfl (.old rfl rfl (.back rfl rfl (.same fa) rfl .nil))))) (rc (.gslice rfl) (rc (.funcL (sn) (rc (.ptr rfl) rn)) rn)) (.gslice rfl) rfl)) az)) ?_
  refine sq ?_
  refine sq ?_
  obtain⟨b41,u,h⟩:=bnd h
  refine Goes.cut (s':=(ofG 75 (kAF [(63,.bool b41)]),(kD b.Day b.Lots b.Holds (kH (kC j k n o q d f g c r (.cells [.i e.Day,vl qg p,.gslice 4 b.Holds.length 4]::(kG b.Holds []))))))) ?_ ?_
  ·rcases wyD u with⟨a4,u⟩|⟨a4,u⟩
   ·obtain rfl:=si u
    exact tr fol [4] (kAF [(63,.bool true)]) (ac (gw a4) az)
   obtain rfl:=si u
   exact tr fol [4] (kAF [(63,.bool (decide (c>0)))]) (ac (gw a4) az)
  obtain⟨r44,g44,h⟩:=bnd h
  refine Goes.imp (Q:=fun x s'=>(x= .normal/\ ∃v,v=r44/\Sub s' (ofG 75 kAd,(kH (kAW e.Day p v (kG v [])))))) ?_ ?_
  ·refine ihB g44 (fun c45 g44=>?_) (fun c45 g44=>?_)
   ·obtain⟨T,a5,g44⟩:=bnd g44
    refine gq fol [5] [(4,.ptr 1 0),(6,.ptr 3 0)] (kD b.Day b.Lots b.Holds (kH (kC j k n o q d f g c r (.cells [.i e.Day,vl qg p,.gslice 6 T.length 4]:: .dead::(kL d f g c (kG T [])))))) (ac (hs (.run [4,5] (qiX ZT [28,28] (.gslice 4 b.Holds.length 4) (.slice 5 0 1 1 4)) (kD b.Day b.Lots b.Holds (kH (kC j k n o q d f g c r (.cells [.i e.Day,vl qg p,.gslice 4 b.Holds.length 4]::(kG b.Holds (kL d f g c [])))))) (.gslice 6 T.length 4) (kD b.Day b.Lots b.Holds (kH (kC j k n o q d f g c r (.cells [.i e.Day,vl qg p,.gslice 4 b.Holds.length 4]:: .dead::(kL d f g c (kG T [])))))) true) (qnK qnQ (E:=qE) rfl (qvN (E:=qE) (ys:=[(⟨d,f,g,c⟩:qG)]) rfl rfl rfl rfl) (qwy (E:=qE) (l:=b.Holds) rfl rfl rfl a5 rfl))) az) ?_
    obtain rfl:=si g44
    exact⟨rfl,_,rfl,(Sub.norm [] [some 1,some 3,some 6] rfl rfl (.kp (.kp .nil)) (.kb rfl (.same sn) (.kb rfl (.cells (rc (.same nI) (rc (.same (zu qg _)) (rc (.gslice rfl) rn)))) (.ks .nil))))⟩
   refine Goes.skip ?_
   obtain rfl:=si g44
   exact⟨rfl,_,rfl,(Sub.norm [] [some 1,some 3,some 4] rfl rfl (.kp (.drop (.kp .nil))) (.kb rfl (.same sn) (.kb rfl (.cells (rc (.same nI) (rc (.same (zu qg _)) (rc (.gslice rfl) rn)))) (.ks .nil))))⟩
  rintro x s' ⟨rfl,v,rfl,hsub⟩
  refine Goes.sub hsub ?_
  obtain⟨D,a6,h⟩:=bnd h
  obtain⟨u49,a7,h⟩:=bnd h
  refine sq (gq fol [2] kAd (kH (kAW e.Day p v (kG D []))) (ac (hs (.callH 126 [.gslice 2 v.length 4,.func (.func 127) [] []] (kH (kAW e.Day p v (kG v []))) [2] (.tuple []) (kH (kAW e.Day p v (kG D [])))) (qrn [some 2] [none,none,some 0] (qxj v a6) (.ks .nil) rfl rfl (.old rfl rfl (.old rfl rfl (.back rfl rfl (.same fa) rfl .nil))) (rc (.gslice rfl) (rc (.same (jT.func sn sn)) rn)) (.same (jT.tuple sn)) rfl)) az) ?_)
  refine Goes.sub (show Sub (ofG 75 kAd,(kH (kAW e.Day p v (kG D [])))) (ofG 75 kAd,(kH (kAW e.Day p D (kG D []))))from(Sub.norm [] [some 0,some 1,some 2] rfl rfl (.kp (.kp .nil)) (.kb rfl (.same sn) (.kb rfl (.cells (rc (.same nI) (rc (.same (zu qg _)) (rc (.gsliceE rfl (qzx a7)) rn)))) (.ks .nil))))) ?_
  refine sg fol (kA3 []) (kAW e.Day p D (kAW e.Day p D (kG D []))) ?_
  refine Goes.ret ?_
  obtain rfl:=si h
  exact(gw2 [.agg [.i e.Day,vl qg p,.gslice 2 D.length 4]] (FzW.agg (jo.cons (Ub tI) (jo.cons (Ub (qN qg _ (nl rfl))) (jo.cons (FzW.fz (Fz.gs (E:=qE) rfl rfl (nl rfl))) jo.nil)))))
 try dsimp only at h
 refine gq fol [2,4] (kAF []) (kD b.Day b.Lots b.Holds (kH (kC j k n o q d f g c r (.cells [.i e.Day,vl qg p,.oslice 4 t.length 4]::(kG t []))))) (ac (hs (.callH 123 [vl qE b.Holds] (kD b.Day b.Lots b.Holds (kH (kC j k n o q d f g c r (kAc e.Day p [])))) [] (.gslice 4 b.Holds.length 4) (kD b.Day b.Lots b.Holds (kH (kC j k n o q d f g c r (kAc e.Day p (kG b.Holds [])))))) (qrn [] [none,none,none,none,some 0] (qth b.Holds K) .nil rfl rfl (.old rfl rfl (.old rfl rfl (.old rfl rfl (.old rfl rfl (.new rfl rfl (.same fa) rfl .nil))))) (rc (.same (zu qE _)) rn) (.gslice rfl) rfl)) (ac (hs (.callH 122 [.gslice 4 b.Holds.length 4,.func (.func 124) [] [.ptr 2 0]] (kD b.Day b.Lots b.Holds (kH (kC j k n o q d f g c r (kAc e.Day p (kG b.Holds []))))) [4,2] (.oslice 4 t.length 4) (kD b.Day b.Lots b.Holds (kH (kC j k n o q d f g c r (kAc e.Day p (kG t [])))))) (qrn [some 4,some 2] [none,none,some 1,none,some 0] (qmg N b.Holds j k n o q d f g c r L) (.ks (.kb rfl (.cells (rc (.same nS) (rc (.same nS) (rc (.same nS) (rc (.same nI) (rc (.same nB) (rc (.same nS) (rc (.same nS) (rc (.same nI) (rc (.same nI) (rc (.same nI) rn))))))))))) .nil)) rfl rfl (.old rfl rfl (.old rfl rfl (.back rfl rfl (.cells (rc (.same nS) (rc (.same nS) (rc (.same nS) (rc (.same nI) (rc (.same nB) (rc (.same nS) (rc (.same nS) (rc (.same nI) (rc (.same nI) (rc (.same nI) rn))))))))))) rfl (.old rfl rfl (.back rfl rfl (.same fa) rfl .nil))))) (rc (.gslice rfl) (rc (.funcL (sn) (rc (.ptr rfl) rn)) rn)) (.oslice rfl) rfl)) az)) ?_
 refine sq ?_
 refine sq ?_
 obtain⟨b51,w,h⟩:=bnd h
 refine Goes.cut (s':=(ofG 75 (kAF [(63,.bool b51)]),(kD b.Day b.Lots b.Holds (kH (kC j k n o q d f g c r (.cells [.i e.Day,vl qg p,.oslice 4 t.length 4]::(kG t []))))))) ?_ ?_
 ·rcases wyD w with⟨a8,w⟩|⟨a8,w⟩
  ·obtain rfl:=si w
   exact tr fol [4] (kAF [(63,.bool true)]) (ac (gw a8) az)
  obtain rfl:=si w
  exact tr fol [4] (kAF [(63,.bool (decide (c>0)))]) (ac (gw a8) az)
 obtain⟨r54,g54,h⟩:=bnd h
 refine Goes.imp (Q:=fun x s'=>(x= .normal/\ ∃z,z=r54/\Sub s' (ofG 75 kAd,(kH (kAX e.Day p z (kG z [])))))) ?_ ?_
 ·refine ihB g54 (fun c55 g54=>?_) (fun c55 g54=>?_)
  ·obtain⟨U,a9,g54⟩:=bnd g54
   refine gq fol [5] [(4,.ptr 1 0),(6,.ptr 3 0)] (kD b.Day b.Lots b.Holds (kH (kC j k n o q d f g c r (.cells [.i e.Day,vl qg p,.oslice 6 U.length 4]:: .dead::(kL d f g c (kG U [])))))) (ac (hs (.run [4,5] (qiX ZT [28,28] (.oslice 4 t.length 4) (.slice 5 0 1 1 4)) (kD b.Day b.Lots b.Holds (kH (kC j k n o q d f g c r (.cells [.i e.Day,vl qg p,.oslice 4 t.length 4]::(kG t (kL d f g c [])))))) (.oslice 6 U.length 4) (kD b.Day b.Lots b.Holds (kH (kC j k n o q d f g c r (.cells [.i e.Day,vl qg p,.oslice 4 t.length 4]:: .dead::(kL d f g c (kG U [])))))) true) (qnK qnQ (E:=qE) rfl (qvN (E:=qE) (ys:=[(⟨d,f,g,c⟩:qG)]) rfl rfl rfl rfl) (dst_o (E:=qE) (l:=t) rfl rfl rfl a9 rfl))) az) ?_
   obtain rfl:=si g54
   exact⟨rfl,_,rfl,(Sub.norm [] [some 1,some 3,some 6] rfl rfl (.kp (.kp .nil)) (.kb rfl (.same sn) (.kb rfl (.cells (rc (.same nI) (rc (.same (zu qg _)) (rc (.oslice rfl) rn)))) (.ks .nil))))⟩
  refine Goes.skip ?_
  obtain rfl:=si g54
  exact⟨rfl,_,rfl,(Sub.norm [] [some 1,some 3,some 4] rfl rfl (.kp (.drop (.kp .nil))) (.kb rfl (.same sn) (.kb rfl (.cells (rc (.same nI) (rc (.same (zu qg _)) (rc (.oslice rfl) rn)))) (.ks .nil))))⟩
 rintro x s' ⟨rfl,z,rfl,hsub⟩
 refine Goes.sub hsub ?_
 obtain⟨F,b0,h⟩:=bnd h
 obtain⟨u59,b1,h⟩:=bnd h
 refine sq (gq fol [2] kAd (kH (kAX e.Day p z (kG F []))) (ac (hs (.callH 126 [.oslice 2 z.length 4,.func (.func 127) [] []] (kH (kAX e.Day p z (kG z []))) [2] (.tuple []) (kH (kAX e.Day p z (kG F [])))) (qrn [some 2] [none,none,some 0] (qwU z b0) (.ks .nil) rfl rfl (.old rfl rfl (.old rfl rfl (.back rfl rfl (.same fa) rfl .nil))) (rc (.oslice rfl) (rc (.same (jT.func sn sn)) rn)) (.same (jT.tuple sn)) rfl)) az) ?_)
 refine Goes.sub (show Sub (ofG 75 kAd,(kH (kAX e.Day p z (kG F [])))) (ofG 75 kAd,(kH (kAX e.Day p F (kG F []))))from(Sub.norm [] [some 0,some 1,some 2] rfl rfl (.kp (.kp .nil)) (.kb rfl (.same sn) (.kb rfl (.cells (rc (.same nI) (rc (.same (zu qg _)) (rc (.osliceE rfl (qzx b1)) rn)))) (.ks .nil))))) ?_
 refine sg fol (kA3 []) (kAX e.Day p F (kAX e.Day p F (kG F []))) ?_
 refine Goes.ret ?_
 obtain rfl:=si h
 exact(gw2 [.agg [.i e.Day,vl qg p,.oslice 2 F.length 4]] (FzW.agg (jo.cons (Ub tI) (jo.cons (Ub (qN qg _ (nl rfl))) (jo.cons (FzW.fz (Fz.os (E:=qE) rfl rfl (nl rfl))) jo.nil)))))
end Go.Av
