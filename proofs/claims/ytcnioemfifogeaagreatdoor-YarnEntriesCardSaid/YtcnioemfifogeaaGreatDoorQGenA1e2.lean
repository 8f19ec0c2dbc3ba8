/-
  Walks of functions: what each computes, as a plain function.
-/
import Derived.Test.YtcnioemfifogeaaGreatDoorQGenA1e1
noncomputable section
namespace Go.Av
open Go.Proofs Go.RowKit
set_option linter.unusedSectionVars false
set_option linter.unusedVariables false
set_option linter.unusedSimpArgs false
set_option maxRecDepth 100000
def zP (a:qd) (b:qc):Option Bool:=
 (j6 a).bind fun c=>
 (j6 b.hold).bind fun d=>
 some ((c.lot==d.lot)&&((c.order==d.order)&&true))
theorem qba (d:qd) (c:qc) {res:Bool} (h:zP d c=some res):qf ZT (.fn 175) (kAG d.Lot d.Order d.Reserved d.Taken [.fptr [.str c.lot.Name,.str c.lot.Yarn,.str c.lot.Dye,.i c.lot.Stock,.bool c.known,.str c.hold.Lot,.str c.hold.Order,.i c.hold.Reserved,.i c.hold.Taken,.i c.free] 0]) [] (.bool res) []:=by
 unfold zP at h
 refine Uc Tryz.func175 rfl rfl (m:=10) rfl (rs:=[.tmp 3]) rfl (l:=(kAy d.Lot d.Order d.Reserved d.Taken [(1,.fptr [.str c.lot.Name,.str c.lot.Yarn,.str c.lot.Dye,.i c.lot.Stock,.bool c.known,.str c.hold.Lot,.str c.hold.Order,.i c.hold.Reserved,.i c.hold.Taken,.i c.free] 0)])) rfl ?_
 refine sg fol ((1,.fptr [.str c.lot.Name,.str c.lot.Yarn,.str c.lot.Dye,.i c.lot.Stock,.bool c.known,.str c.hold.Lot,.str c.hold.Order,.i c.hold.Reserved,.i c.hold.Taken,.i c.free] 0)::(kT [])) (kJ d.Lot d.Order d.Reserved d.Taken []) ?_
 obtain⟨f,j,h⟩:=bnd h
 obtain⟨g,k,h⟩:=bnd h
 refine sq (gr fol [1,4,5] (kAw ((f.lot==g.lot)&&((f.order==g.order)&&true))) (ac (cv (xk d j)) (ac (cv (xk c.hold k)) (ac (hs (.done (.opt (qdD ZT .eql 190 (.tmp 5) (.tmp 8) (.agg [.str f.lot,.str f.order]) (.agg [.str g.lot,.str g.order]))) (.bool ((f.lot==g.lot)&&((f.order==g.order)&&true)))) (qms qkm (e:=((f.lot==g.lot)&&((f.order==g.order)&&true))) (.cons (a:= .str f.lot) (b:= .str g.lot) rfl (by kernel_rfl) (by kernel_rfl) (by kernel_rfl) (.cons (a:= .str f.order) (b:= .str g.order) rfl (by kernel_rfl) (by kernel_rfl) (by kernel_rfl) .nil)))) az))) ?_)
 refine Goes.ret ?_
 obtain rfl:=si h
 exact(gw2 [.bool ((f.lot==g.lot)&&((f.order==g.order)&&true))] (Ub tB))
def qy (a:List qd) (b:qc):Nat->Int->Option (Unit⊕Int)
 |0,_=>none
 |K+1,c=>
  if c<(a.length:Int)then
  (idx a c).bind fun d=>
  (zP d b).bind fun e=>
  if e=true then
  some (.inr c)
  else
  qy a b K (w64 (c+1))
  else
  some (.inl ())
def zS (N:Nat) (a:List qd) (b:qc):Option Int:=
 (qy a b N 0).bind (fun
 |(.inl ())=>
 some (-1)
 |(.inr c)=>
 some c)
theorem qa7 (N:Nat) (b:List qd) (a:qc) {res:Int} (h:zS N b a=some res):qf ZT (.fn 174) [vl qa b,.func (.func 175) [] [.fptr [.str a.lot.Name,.str a.lot.Yarn,.str a.lot.Dye,.i a.lot.Stock,.bool a.known,.str a.hold.Lot,.str a.hold.Order,.i a.hold.Reserved,.i a.hold.Taken,.i a.free] 0]] [] (.i res) []:=by
 unfold zS at h
 refine Uc Tryz.func174 rfl rfl (m:=19) rfl (rs:=[.tmp 4]) rfl (l:=(kAN b [(1,.func (.func 175) [] [.fptr [.str a.lot.Name,.str a.lot.Yarn,.str a.lot.Dye,.i a.lot.Stock,.bool a.known,.str a.hold.Lot,.str a.hold.Order,.i a.hold.Reserved,.i a.hold.Taken,.i a.free] 0])])) rfl ?_
 refine sh fol (kAN b [(1,.func (.func 175) [] [.fptr [.str a.lot.Name,.str a.lot.Yarn,.str a.lot.Dye,.i a.lot.Stock,.bool a.known,.str a.hold.Lot,.str a.hold.Order,.i a.hold.Reserved,.i a.hold.Taken,.i a.free] 0])]) ?_
 refine sq ?_
 refine sh fol (kAN b [(1,.func (.func 175) [] [.fptr [.str a.lot.Name,.str a.lot.Yarn,.str a.lot.Dye,.i a.lot.Stock,.bool a.known,.str a.hold.Lot,.str a.hold.Order,.i a.hold.Reserved,.i a.hold.Taken,.i a.free] 0]),(7,.i (b.length:Int)),(8,.i 0)]) ?_
 refine Goes.block ?_
 obtain⟨g,g2,h⟩:=bnd h
 refine Goes.imp (Q:=fun x s'=>(x= .exit 0/\(.inl ())=g/\Sub s' (ofG 19 [],[]))\/(x= .ret/\ ∃j,(.inr j)=g/\qP ZT [.tmp 4] (.i j) .ret s')) ?_ ?_
 ·refine Ud (fun M s=> ∃(c:Int),s=(ofG 19 (kAN b ((1,.func (.func 175) [] [.fptr [.str a.lot.Name,.str a.lot.Yarn,.str a.lot.Dye,.i a.lot.Stock,.bool a.known,.str a.hold.Lot,.str a.hold.Order,.i a.hold.Reserved,.i a.hold.Taken,.i a.free] 0])::(kAM (b.length:Int) c []))),[])/\qy b a M c=some g) ?_ (m:=N) ⟨_,rfl,g2⟩
  rintro M s ⟨c,rfl,g2⟩
  cases M with
  |zero=>simp only[qy]at g2;cases g2
  |succ M=>
   rw[qy]at g2
   refine sh fol (kAN b ((1,.func (.func 175) [] [.fptr [.str a.lot.Name,.str a.lot.Yarn,.str a.lot.Dye,.i a.lot.Stock,.bool a.known,.str a.hold.Lot,.str a.hold.Order,.i a.hold.Reserved,.i a.hold.Taken,.i a.free] 0])::(kAM (b.length:Int) c [(9,.bool (decide (c<(b.length:Int))))]))) ?_
   refine sq ?_
   refine ihD g2 (fun n g2=>?_) (fun n g2=>?_)
   ·refine Goes.skip ?_
    refine sq (Goes.block ?_)
    refine sh fol (kAN b ((1,.func (.func 175) [] [.fptr [.str a.lot.Name,.str a.lot.Yarn,.str a.lot.Dye,.i a.lot.Stock,.bool a.known,.str a.hold.Lot,.str a.hold.Order,.i a.hold.Reserved,.i a.hold.Taken,.i a.free] 0])::(5,.i c)::(kAM (b.length:Int) c []))) ?_
    obtain⟨d,e,g2⟩:=bnd g2
    obtain⟨k,f,g2⟩:=bnd g2
    refine sq (gr fol [3,4,5] (kAN b ((1,.func (.func 175) [] [.fptr [.str a.lot.Name,.str a.lot.Yarn,.str a.lot.Dye,.i a.lot.Stock,.bool a.known,.str a.hold.Lot,.str a.hold.Order,.i a.hold.Reserved,.i a.hold.Taken,.i a.free] 0])::(5,.i c)::(kAM (b.length:Int) c [(16,.bool k)]))) (ac (iv qa5 qa e) (ac (la qhc qa e) (ac (hs (.call 175 (kAG d.Lot d.Order d.Reserved d.Taken [.fptr [.str a.lot.Name,.str a.lot.Yarn,.str a.lot.Dye,.i a.lot.Stock,.bool a.known,.str a.hold.Lot,.str a.hold.Order,.i a.hold.Reserved,.i a.hold.Taken,.i a.free] 0]) [] [] (kAG d.Lot d.Order d.Reserved d.Taken [.fptr [.str a.lot.Name,.str a.lot.Yarn,.str a.lot.Dye,.i a.lot.Stock,.bool a.known,.str a.hold.Lot,.str a.hold.Order,.i a.hold.Reserved,.i a.hold.Taken,.i a.free] 0]) (.bool k)) (qE (FzL.cons (Ua (Still.agg (AllST.cons tS (AllST.cons tS (AllST.cons tI (AllST.cons tI AllST.nil)))))) (FzL.cons (Ua (Still.fptr (AllST.cons tS (AllST.cons tS (AllST.cons tS (AllST.cons tI (AllST.cons tB (AllST.cons tS (AllST.cons tS (AllST.cons tI (AllST.cons tI (AllST.cons tI AllST.nil)))))))))))) FzL.nil)) (qba d a f) tB)) az))) ?_)
    refine ihB g2 (fun o g2=>?_) (fun o g2=>?_)
    ·refine sh fol (kAs c) ?_
     refine Goes.ret ?_
     obtain rfl:=si g2
     exact Or.inr (⟨rfl,_,rfl,(gw2 [.i c] (Ub tI))⟩)
    refine Goes.skip ?_
    refine gh fol (kAN b ((1,.func (.func 175) [] [.fptr [.str a.lot.Name,.str a.lot.Yarn,.str a.lot.Dye,.i a.lot.Stock,.bool a.known,.str a.hold.Lot,.str a.hold.Order,.i a.hold.Reserved,.i a.hold.Taken,.i a.free] 0])::(kAM (b.length:Int) (w64 (c+1)) []))) ?_
    exact⟨M,(ofG 19 (kAN b ((1,.func (.func 175) [] [.fptr [.str a.lot.Name,.str a.lot.Yarn,.str a.lot.Dye,.i a.lot.Stock,.bool a.known,.str a.hold.Lot,.str a.hold.Order,.i a.hold.Reserved,.i a.hold.Taken,.i a.free] 0])::(kAM (b.length:Int) (w64 (c+1)) []))),[]),Nat.lt_succ_self _,(Sub.refl _),_,rfl,g2⟩
   refine Goes.exit ?_
   obtain rfl:=si g2
   exact Or.inl (⟨rfl,rfl,(Sub.keep [] rfl rfl)⟩)
 rintro x s' (⟨rfl,rfl,hsub⟩|⟨rfl,p,rfl,hret⟩)
 ·try dsimp only at h
  refine Goes.sub hsub ?_
  refine sh fol kAq ?_
  refine Goes.ret ?_
  obtain rfl:=si h
  exact(gw2 [.i (-1)] (Ub tI))
 try dsimp only at h
 obtain rfl:=si h
 exact hret
def qA (N:Nat) (b:qm) (e:qh):Option qc:=
 (jG N b e.Lot).bind fun f=>
 ((if f.2=true then
 (idx b.Lots f.1).bind fun c=>
 (vM N b c).bind fun g=>
 some (c.Name,c.Yarn,c.Dye,c.Stock,g)
 else
 some (e.Lot,e.Yarn,e.Dye,0,0):Option (Str×Str×Str×Int×Int))).bind fun(l,m,n,o,p)=>
 (zS N b.Holds (⟨(⟨l,m,n,o⟩:qj),f.2,(⟨e.Lot,e.Order,0,0⟩:qd),p⟩:qc)).bind fun d=>
 ((if d>=0 then
 (idx b.Holds d).bind fun a=>
 some (a.Lot,a.Order,a.Reserved,a.Taken)
 else
 some (e.Lot,e.Order,0,0):Option (Str×Str×Int×Int))).bind fun(h,i,j,k)=>
 some (⟨(⟨l,m,n,o⟩:qj),f.2,(⟨h,i,j,k⟩:qd),p⟩:qc)
theorem zM (N:Nat) (a:qm) (e:qh) {res:qc} (h:qA N a e=some res):qf ZT (.fn 113) (kX a.Day a.Lots a.Holds (kAW e.Kind e.Day e.Lot e.Amount e.Yarn e.Dye e.Order [])) [] (.agg (.str res.lot.Name::(kB res.lot.Yarn res.lot.Dye res.lot.Stock res.known res.hold.Lot res.hold.Order res.hold.Reserved res.hold.Taken res.free))) []:=by
 unfold qA at h
 refine Uc Tryz.func113 rfl rfl (m:=55) rfl (rs:=[.cell 4 182]) rfl (l:=(kS a.Day a.Lots a.Holds (kAO e.Kind e.Day e.Lot e.Amount e.Yarn e.Dye e.Order []))) rfl ?_
 refine sg fol (kG (kAX [])) (kD a.Day a.Lots a.Holds e.Kind e.Day e.Lot e.Amount e.Yarn e.Dye e.Order (kK [])) ?_
 obtain⟨b,y,h⟩:=bnd h
 refine sq (gr fol [3] (kG (kAX [(5,.i b.1),(6,.bool b.2)])) (ac (cv (qbQ N a e.Lot y)) az) ?_)
 refine sg fol (kT (kAX [(5,.i b.1),(6,.bool b.2),(7,.ptr 3 0)])) (kD a.Day a.Lots a.Holds e.Kind e.Day e.Lot e.Amount e.Yarn e.Dye e.Order (kK [.cells [.str e.Lot,.str e.Yarn,.str e.Dye,.i 0,.bool b.2,.str e.Lot,.str e.Order,.i 0,.i 0,.i 0]])) ?_
 refine sq ?_
 refine sh fol (kT (kAX [(5,.i b.1),(7,.ptr 3 0),(30,.bool b.2)])) ?_
 obtain⟨C,g7,h⟩:=bnd h
 refine Goes.imp (Q:=fun x s'=>(x= .normal/\ ∃c d f g j,(c,d,f,g,j)=C/\Sub s' (ofG 55 (kT (kAF [(7,.ptr 2 0)])),(kE a.Day a.Lots a.Holds (kK [.cells [.str c,.str d,.str f,.i g,.bool b.2,.str e.Lot,.str e.Order,.i 0,.i 0,.i j]]))))) ?_ ?_
 ·refine ihB g7 (fun D g7=>?_) (fun D g7=>?_)
  ·obtain⟨r,u,g7⟩:=bnd g7
   refine sq (gq fol [3,4] (kT (kAX [(7,.ptr 3 0)])) (kD a.Day a.Lots a.Holds e.Kind e.Day e.Lot e.Amount e.Yarn e.Dye e.Order (kK [.cells [.str r.Name,.str r.Yarn,.str r.Dye,.i r.Stock,.bool b.2,.str e.Lot,.str e.Order,.i 0,.i 0,.i 0]])) (ac (iv qgg qb u) (ac (la qiL qb u) az)) ?_)
   obtain⟨z,v,g7⟩:=bnd g7
   refine gq fol [3] (kT (kAX [(7,.ptr 3 0)])) (kD a.Day a.Lots a.Holds e.Kind e.Day e.Lot e.Amount e.Yarn e.Dye e.Order (kK [.cells [.str r.Name,.str r.Yarn,.str r.Dye,.i r.Stock,.bool b.2,.str e.Lot,.str e.Order,.i 0,.i 0,.i z]])) (ac (cv (qbC N a r v)) az) ?_
   obtain rfl:=si g7
   exact⟨rfl,_,_,_,_,_,rfl,(Sub.norm [] [some 0,some 2,some 3] rfl rfl (.kp (.kp (.kp .nil))) (.kb rfl (.same sn) (.kb rfl (.same sn) (.kb rfl (.same sn) .nil))))⟩
  refine Goes.skip ?_
  obtain rfl:=si g7
  exact⟨rfl,_,_,_,_,_,rfl,(Sub.norm [] [some 0,some 2,some 3] rfl rfl (.kp (.kp (.drop (.kp .nil)))) (.kb rfl (.same sn) (.kb rfl (.same sn) (.kb rfl (.same sn) .nil))))⟩
 rintro x s' ⟨rfl,c,d,f,g,j,rfl,hsub⟩
 try dsimp only at h
 refine Goes.sub hsub ?_
 refine sq ?_
 obtain⟨s,w,h⟩:=bnd h
 refine sq (gr fol [3] (kT (kAF [(7,.ptr 2 0),(8,.i s)])) (ac (hs (.call 174 [vl qa a.Holds,.func (.func 175) [] [.ptr 2 0]] (kE a.Day a.Lots a.Holds (kK [.cells [.str c,.str d,.str f,.i g,.bool b.2,.str e.Lot,.str e.Order,.i 0,.i 0,.i j]])) [2] [vl qa a.Holds,.func (.func 175) [] [.fptr [.str (((⟨(⟨c,d,f,g⟩:qj),b.2,(⟨e.Lot,e.Order,0,0⟩:qd),j⟩:qc).lot).Name),.str (((⟨(⟨c,d,f,g⟩:qj),b.2,(⟨e.Lot,e.Order,0,0⟩:qd),j⟩:qc).lot).Yarn),.str (((⟨(⟨c,d,f,g⟩:qj),b.2,(⟨e.Lot,e.Order,0,0⟩:qd),j⟩:qc).lot).Dye),.i (((⟨(⟨c,d,f,g⟩:qj),b.2,(⟨e.Lot,e.Order,0,0⟩:qd),j⟩:qc).lot).Stock),.bool ((⟨(⟨c,d,f,g⟩:qj),b.2,(⟨e.Lot,e.Order,0,0⟩:qd),j⟩:qc).known),.str (((⟨(⟨c,d,f,g⟩:qj),b.2,(⟨e.Lot,e.Order,0,0⟩:qd),j⟩:qc).hold).Lot),.str (((⟨(⟨c,d,f,g⟩:qj),b.2,(⟨e.Lot,e.Order,0,0⟩:qd),j⟩:qc).hold).Order),.i (((⟨(⟨c,d,f,g⟩:qj),b.2,(⟨e.Lot,e.Order,0,0⟩:qd),j⟩:qc).hold).Reserved),.i (((⟨(⟨c,d,f,g⟩:qj),b.2,(⟨e.Lot,e.Order,0,0⟩:qd),j⟩:qc).hold).Taken),.i ((⟨(⟨c,d,f,g⟩:qj),b.2,(⟨e.Lot,e.Order,0,0⟩:qd),j⟩:qc).free)] 0]] (.i s)) (jl (FzL.cons (Ua (qg qa _ (nl rfl))) (FzL.cons (Fz.func FzL.nil (FzL.cons (Fz.ptr rfl rfl (FzL.cons (Ua tS) (FzL.cons (Ua tS) (FzL.cons (Ua tS) (FzL.cons (Ua tI) (FzL.cons (Ua tB) (FzL.cons (Ua tS) (FzL.cons (Ua tS) (FzL.cons (Ua tI) (FzL.cons (Ua tI) (FzL.cons (Ua tI) FzL.nil))))))))))) FzL.nil)) FzL.nil)) (qa7 N a.Holds (⟨(⟨c,d,f,g⟩:qj),b.2,(⟨e.Lot,e.Order,0,0⟩:qd),j⟩:qc) w) tI rfl)) az) ?_)
 refine sh fol (kT (kAF [(7,.ptr 2 0),(8,.i s),(47,.bool (decide (s>=0)))])) ?_
 obtain⟨A,g16,h⟩:=bnd h
 refine Goes.imp (Q:=fun x s'=>(x= .normal/\ ∃k n o p,(k,n,o,p)=A/\Sub s' (ofG 55 [(4,.ptr 0 0),(7,.ptr 1 0)],(kK (kC c d f g b.2 k n o p j []))))) ?_ ?_
 ·refine ihD g16 (fun B g16=>?_) (fun B g16=>?_)
  ·obtain⟨t,q,g16⟩:=bnd g16
   refine gq fol [3,4] (kAF [(7,.ptr 2 0)]) (kE a.Day a.Lots a.Holds (kK (kC c d f g b.2 t.Lot t.Order t.Reserved t.Taken j []))) (ac (iv qa5 qa q) (ac (la qhc qa q) az)) ?_
   obtain rfl:=si g16
   exact⟨rfl,_,_,_,_,rfl,(Sub.norm [] [some 1,some 2] rfl rfl (.kp (.kp .nil)) (.kb rfl (.same sn) (.kb rfl (.same sn) .nil)))⟩
  refine Goes.skip ?_
  obtain rfl:=si g16
  exact⟨rfl,_,_,_,_,rfl,(Sub.norm [] [some 1,some 2] rfl rfl (.drop (.kp (.kp .nil))) (.kb rfl (.same sn) (.kb rfl (.same sn) .nil)))⟩
 rintro x s' ⟨rfl,k,n,o,p,rfl,hsub⟩
 try dsimp only at h
 refine Goes.sub hsub ?_
 refine sg fol kAz (kC c d f g b.2 k n o p j (kC c d f g b.2 k n o p j [])) ?_
 refine Goes.ret ?_
 obtain rfl:=si h
 exact(gw2 [.agg (.str c::(kB d f g b.2 k n o p j))] (FzW.agg (qp.cons (Ub tS) (qp.cons (Ub tS) (qp.cons (Ub tS) (qp.cons (Ub tI) (qp.cons (Ub tB) (qp.cons (Ub tS) (qp.cons (Ub tS) (qp.cons (Ub tI) (qp.cons (Ub tI) (qp.cons (Ub tI) qp.nil))))))))))))
def zL (a:qd) (b:qc):Option Bool:=
 (j6 a).bind fun c=>
 (j6 b.hold).bind fun d=>
 some ((c.lot==d.lot)&&((c.order==d.order)&&true))
theorem vW (d:qd) (c:qc) {res:Bool} (h:zL d c=some res):qf ZT (.fn 124) (kAG d.Lot d.Order d.Reserved d.Taken [.fptr [.str c.lot.Name,.str c.lot.Yarn,.str c.lot.Dye,.i c.lot.Stock,.bool c.known,.str c.hold.Lot,.str c.hold.Order,.i c.hold.Reserved,.i c.hold.Taken,.i c.free] 0]) [] (.bool res) []:=by
 unfold zL at h
 refine Uc Tryz.func124 rfl rfl (m:=10) rfl (rs:=[.tmp 3]) rfl (l:=(kAy d.Lot d.Order d.Reserved d.Taken [(1,.fptr [.str c.lot.Name,.str c.lot.Yarn,.str c.lot.Dye,.i c.lot.Stock,.bool c.known,.str c.hold.Lot,.str c.hold.Order,.i c.hold.Reserved,.i c.hold.Taken,.i c.free] 0)])) rfl ?_
 refine sg fol ((1,.fptr [.str c.lot.Name,.str c.lot.Yarn,.str c.lot.Dye,.i c.lot.Stock,.bool c.known,.str c.hold.Lot,.str c.hold.Order,.i c.hold.Reserved,.i c.hold.Taken,.i c.free] 0)::(kT [])) (kJ d.Lot d.Order d.Reserved d.Taken []) ?_
 obtain⟨f,j,h⟩:=bnd h
 obtain⟨g,k,h⟩:=bnd h
 refine sq (gr fol [1,4,5] (kAw ((f.lot==g.lot)&&((f.order==g.order)&&true))) (ac (cv (xk d j)) (ac (cv (xk c.hold k)) (ac (hs (.done (.opt (qdD ZT .eql 190 (.tmp 5) (.tmp 8) (.agg [.str f.lot,.str f.order]) (.agg [.str g.lot,.str g.order]))) (.bool ((f.lot==g.lot)&&((f.order==g.order)&&true)))) (qms qkm (e:=((f.lot==g.lot)&&((f.order==g.order)&&true))) (.cons (a:= .str f.lot) (b:= .str g.lot) rfl (by kernel_rfl) (by kernel_rfl) (by kernel_rfl) (.cons (a:= .str f.order) (b:= .str g.order) rfl (by kernel_rfl) (by kernel_rfl) (by kernel_rfl) .nil)))) az))) ?_)
 refine Goes.ret ?_
 obtain rfl:=si h
 exact(gw2 [.bool ((f.lot==g.lot)&&((f.order==g.order)&&true))] (Ub tB))
def qI (a:List qd) (b:qc):Nat->Int->Option (Unit⊕Int)
 |0,_=>none
 |K+1,c=>
  if c<(a.length:Int)then
  (idx a c).bind fun d=>
  (zL d b).bind fun e=>
  if e=true then
  some (.inr c)
  else
  qI a b K (w64 (c+1))
  else
  some (.inl ())
def jD (N:Nat) (a:List qd) (b:qc):Option Int:=
 (qI a b N 0).bind (fun
 |(.inl ())=>
 some (-1)
 |(.inr c)=>
 some c)
theorem yV (N:Nat) (b:List qd) (a:qc) {res:Int} (h:jD N b a=some res):qf ZT (.fn 174) [vl qa b,.func (.func 124) [] [.fptr [.str a.lot.Name,.str a.lot.Yarn,.str a.lot.Dye,.i a.lot.Stock,.bool a.known,.str a.hold.Lot,.str a.hold.Order,.i a.hold.Reserved,.i a.hold.Taken,.i a.free] 0]] [] (.i res) []:=by
 unfold jD at h
 refine Uc Tryz.func174 rfl rfl (m:=19) rfl (rs:=[.tmp 4]) rfl (l:=(kAN b [(1,.func (.func 124) [] [.fptr [.str a.lot.Name,.str a.lot.Yarn,.str a.lot.Dye,.i a.lot.Stock,.bool a.known,.str a.hold.Lot,.str a.hold.Order,.i a.hold.Reserved,.i a.hold.Taken,.i a.free] 0])])) rfl ?_
 refine sh fol (kAN b [(1,.func (.func 124) [] [.fptr [.str a.lot.Name,.str a.lot.Yarn,.str a.lot.Dye,.i a.lot.Stock,.bool a.known,.str a.hold.Lot,.str a.hold.Order,.i a.hold.Reserved,.i a.hold.Taken,.i a.free] 0])]) ?_
 refine sq ?_
 refine sh fol (kAN b [(1,.func (.func 124) [] [.fptr [.str a.lot.Name,.str a.lot.Yarn,.str a.lot.Dye,.i a.lot.Stock,.bool a.known,.str a.hold.Lot,.str a.hold.Order,.i a.hold.Reserved,.i a.hold.Taken,.i a.free] 0]),(7,.i (b.length:Int)),(8,.i 0)]) ?_
 refine Goes.block ?_
 obtain⟨g,g2,h⟩:=bnd h
 refine Goes.imp (Q:=fun x s'=>(x= .exit 0/\(.inl ())=g/\Sub s' (ofG 19 [],[]))\/(x= .ret/\ ∃j,(.inr j)=g/\qP ZT [.tmp 4] (.i j) .ret s')) ?_ ?_
 ·refine Ud (fun M s=> ∃(c:Int),s=(ofG 19 (kAN b ((1,.func (.func 124) [] [.fptr [.str a.lot.Name,.str a.lot.Yarn,.str a.lot.Dye,.i a.lot.Stock,.bool a.known,.str a.hold.Lot,.str a.hold.Order,.i a.hold.Reserved,.i a.hold.Taken,.i a.free] 0])::(kAM (b.length:Int) c []))),[])/\qI b a M c=some g) ?_ (m:=N) ⟨_,rfl,g2⟩
  rintro M s ⟨c,rfl,g2⟩
  cases M with
  |zero=>simp only[qI]at g2;cases g2
  |succ M=>
   rw[qI]at g2
   refine sh fol (kAN b ((1,.func (.func 124) [] [.fptr [.str a.lot.Name,.str a.lot.Yarn,.str a.lot.Dye,.i a.lot.Stock,.bool a.known,.str a.hold.Lot,.str a.hold.Order,.i a.hold.Reserved,.i a.hold.Taken,.i a.free] 0])::(kAM (b.length:Int) c [(9,.bool (decide (c<(b.length:Int))))]))) ?_
   refine sq ?_
   refine ihD g2 (fun n g2=>?_) (fun n g2=>?_)
   ·refine Goes.skip ?_
    refine sq (Goes.block ?_)
    refine sh fol (kAN b ((1,.func (.func 124) [] [.fptr [.str a.lot.Name,.str a.lot.Yarn,.str a.lot.Dye,.i a.lot.Stock,.bool a.known,.str a.hold.Lot,.str a.hold.Order,.i a.hold.Reserved,.i a.hold.Taken,.i a.free] 0])::(5,.i c)::(kAM (b.length:Int) c []))) ?_
    obtain⟨d,e,g2⟩:=bnd g2
    obtain⟨k,f,g2⟩:=bnd g2
    refine sq (gr fol [3,4,5] (kAN b ((1,.func (.func 124) [] [.fptr [.str a.lot.Name,.str a.lot.Yarn,.str a.lot.Dye,.i a.lot.Stock,.bool a.known,.str a.hold.Lot,.str a.hold.Order,.i a.hold.Reserved,.i a.hold.Taken,.i a.free] 0])::(5,.i c)::(kAM (b.length:Int) c [(16,.bool k)]))) (ac (iv qa5 qa e) (ac (la qhc qa e) (ac (hs (.call 124 (kAG d.Lot d.Order d.Reserved d.Taken [.fptr [.str a.lot.Name,.str a.lot.Yarn,.str a.lot.Dye,.i a.lot.Stock,.bool a.known,.str a.hold.Lot,.str a.hold.Order,.i a.hold.Reserved,.i a.hold.Taken,.i a.free] 0]) [] [] (kAG d.Lot d.Order d.Reserved d.Taken [.fptr [.str a.lot.Name,.str a.lot.Yarn,.str a.lot.Dye,.i a.lot.Stock,.bool a.known,.str a.hold.Lot,.str a.hold.Order,.i a.hold.Reserved,.i a.hold.Taken,.i a.free] 0]) (.bool k)) (qE (FzL.cons (Ua (Still.agg (AllST.cons tS (AllST.cons tS (AllST.cons tI (AllST.cons tI AllST.nil)))))) (FzL.cons (Ua (Still.fptr (AllST.cons tS (AllST.cons tS (AllST.cons tS (AllST.cons tI (AllST.cons tB (AllST.cons tS (AllST.cons tS (AllST.cons tI (AllST.cons tI (AllST.cons tI AllST.nil)))))))))))) FzL.nil)) (vW d a f) tB)) az))) ?_)
    refine ihB g2 (fun o g2=>?_) (fun o g2=>?_)
    ·refine sh fol (kAs c) ?_
     refine Goes.ret ?_
     obtain rfl:=si g2
     exact Or.inr (⟨rfl,_,rfl,(gw2 [.i c] (Ub tI))⟩)
    refine Goes.skip ?_
    refine gh fol (kAN b ((1,.func (.func 124) [] [.fptr [.str a.lot.Name,.str a.lot.Yarn,.str a.lot.Dye,.i a.lot.Stock,.bool a.known,.str a.hold.Lot,.str a.hold.Order,.i a.hold.Reserved,.i a.hold.Taken,.i a.free] 0])::(kAM (b.length:Int) (w64 (c+1)) []))) ?_
    exact⟨M,(ofG 19 (kAN b ((1,.func (.func 124) [] [.fptr [.str a.lot.Name,.str a.lot.Yarn,.str a.lot.Dye,.i a.lot.Stock,.bool a.known,.str a.hold.Lot,.str a.hold.Order,.i a.hold.Reserved,.i a.hold.Taken,.i a.free] 0])::(kAM (b.length:Int) (w64 (c+1)) []))),[]),Nat.lt_succ_self _,(Sub.refl _),_,rfl,g2⟩
   refine Goes.exit ?_
   obtain rfl:=si g2
   exact Or.inl (⟨rfl,rfl,(Sub.keep [] rfl rfl)⟩)
 rintro x s' (⟨rfl,rfl,hsub⟩|⟨rfl,p,rfl,hret⟩)
 ·try dsimp only at h
  refine Goes.sub hsub ?_
  refine sh fol kAq ?_
  refine Goes.ret ?_
  obtain rfl:=si h
  exact(gw2 [.i (-1)] (Ub tI))
 try dsimp only at h
 obtain rfl:=si h
 exact hret
def qx (b:Str) (c:Str) (d:Str) (e:Int) (f:Bool) (g:Str) (h:Str) (i:Int) (j:Int) (a10_:Int):Nat->(List qd)->Int->Int->Option ((List qd)×Int)
 |0,_,_,_=>none
 |K+1,a,k,m=>
  if m<(a.length:Int)then
  (((idx a m).bind fun l=>
  (zL l (⟨(⟨b,c,d,e⟩:qj),f,(⟨g,h,i,j⟩:qd),a10_⟩:qc)).bind fun n=>
  if(!n)=true then
  (idx a k).bind fun r=>
  (put a k l).bind fun o=>
  some (o,w64 (k+1))
  else
  some (a,k):Option ((List qd)×Int))).bind fun(p,q)=>
  qx b c d e f g h i j a10_ K p q (w64 (m+1))
  else
  some (a,k)
def qF (N:Nat) (a:List qd) (b:Str) (c:Str) (d:Str) (e:Int) (f:Bool) (g:Str) (h:Str) (i:Int) (j:Int) (a10_:Int):Option (Unit⊕(List qd)):=
 (jD N a (⟨(⟨b,c,d,e⟩:qj),f,(⟨g,h,i,j⟩:qd),a10_⟩:qc)).bind fun n=>
 if n=(-1)then
 some (.inl ())
 else
 (qx b c d e f g h i j a10_ N a n (w64 (n+1))).bind fun(k,o)=>
 (if o=0 then
 ((if 0<k.length then some ()else none:Option Unit)).bind fun s=>
 (some (qcE k 0 (⟨[],[],0,0⟩:qd))).bind fun p=>
 some p
 else
 (at' k o).bind fun l=>
 ((if l<k.length then some ()else none:Option Unit)).bind fun t=>
 (some (qcE k l (⟨[],[],0,0⟩:qd))).bind fun q=>
 some q:Option (List qd)).bind fun m=>
 ((if 0<m.length then some ()else none:Option Unit)).bind fun u=>
 (cut m 0 o).bind fun r=>
 some (.inr r)
theorem qar (N:Nat) (p:List qd) (a:Str) (b:Str) (c:Str) (d:Int) (e:Bool) (f:Str) (g:Str) (j:Int) (k:Int) (a10_:Int) (h:qF N p a b c d e f g j k a10_=some (.inl ())):qf ZT (.fn 122) [.gslice 0 p.length 4,.func (.func 124) [] [.ptr 1 0]] (kI p (kC a b c d e f g j k a10_ [])) (.gslice 0 p.length 4) (kI p (kC a b c d e f g j k a10_ [])):=by
 unfold qF at h
 refine Goes.fnH Tryz.func122 rfl rfl (m:=42) rfl (rs:=[.tmp 4]) rfl (l:=(kQ p [(1,.func (.func 124) [] [.ptr 1 0])])) rfl ?_
 intro B hB
 refine sh fol (kQ p [(1,.func (.func 124) [] [.ptr 1 0])]) ?_
 obtain⟨r2,e_r2,h⟩:=bnd h
 refine sq (gr fol [2] (kQ p ((1,.func (.func 124) [] [.ptr 1 0])::(kAd r2))) (ac (hs (.call 174 [.gslice 0 p.length 4,.func (.func 124) [] [.ptr 1 0]] (kI p (kC a b c d e f g j k a10_ [])) [0,1] [vl qa p,.func (.func 124) [] [.fptr [.str (((⟨(⟨a,b,c,d⟩:qj),e,(⟨f,g,j,k⟩:qd),a10_⟩:qc).lot).Name),.str (((⟨(⟨a,b,c,d⟩:qj),e,(⟨f,g,j,k⟩:qd),a10_⟩:qc).lot).Yarn),.str (((⟨(⟨a,b,c,d⟩:qj),e,(⟨f,g,j,k⟩:qd),a10_⟩:qc).lot).Dye),.i (((⟨(⟨a,b,c,d⟩:qj),e,(⟨f,g,j,k⟩:qd),a10_⟩:qc).lot).Stock),.bool ((⟨(⟨a,b,c,d⟩:qj),e,(⟨f,g,j,k⟩:qd),a10_⟩:qc).known),.str (((⟨(⟨a,b,c,d⟩:qj),e,(⟨f,g,j,k⟩:qd),a10_⟩:qc).hold).Lot),.str (((⟨(⟨a,b,c,d⟩:qj),e,(⟨f,g,j,k⟩:qd),a10_⟩:qc).hold).Order),.i (((⟨(⟨a,b,c,d⟩:qj),e,(⟨f,g,j,k⟩:qd),a10_⟩:qc).hold).Reserved),.i (((⟨(⟨a,b,c,d⟩:qj),e,(⟨f,g,j,k⟩:qd),a10_⟩:qc).hold).Taken),.i ((⟨(⟨a,b,c,d⟩:qj),e,(⟨f,g,j,k⟩:qd),a10_⟩:qc).free)] 0]] (.i r2)) (jl (FzL.cons (Fz.gs (E:=qa) rfl rfl (nl rfl)) (FzL.cons (Fz.func FzL.nil (FzL.cons (Fz.ptr rfl rfl (FzL.cons (Ua tS) (FzL.cons (Ua tS) (FzL.cons (Ua tS) (FzL.cons (Ua tI) (FzL.cons (Ua tB) (FzL.cons (Ua tS) (FzL.cons (Ua tS) (FzL.cons (Ua tI) (FzL.cons (Ua tI) (FzL.cons (Ua tI) FzL.nil))))))))))) FzL.nil)) FzL.nil)) (yV N p (⟨(⟨a,b,c,d⟩:qj),e,(⟨f,g,j,k⟩:qd),a10_⟩:qc) e_r2) tI rfl)) az) ?_)
 refine sq ?_
 refine sh fol (kQ p [(1,.func (.func 124) [] [.ptr 1 0]),(5,.i r2),(12,.bool (decide (r2=(-1))))]) ?_
 refine ihD h (fun c3 h=>?_) (fun c3 h=>?_)
 ·refine sh fol [(4,.gslice 0 p.length 4)] ?_
  refine Goes.ret ?_
  cases h
  exact(gh2 [.gslice 0 p.length 4] (qeE.refl _ _))
 refine Goes.skip ?_
 refine sq ?_
 refine sh fol (kQ p ((1,.func (.func 124) [] [.ptr 1 0])::(kAK r2 (w64 (r2+1))))) ?_
 refine Goes.block ?_
 obtain⟨r9,g9,h⟩:=bnd h
 refine Goes.imp (Q:=fun x s'=>(x= .exit 0/\ ∃t v,(t,v)=r9/\Sub s' (ofG 42 (kQ t (kAd v)),(kI t (kC a b c d e f g j k a10_ []))))) ?_ ?_
 ·refine Ud (fun M s=> ∃(q:List qd) (w:Int) (r:Int),s=(ofG 42 (kQ q ((1,.func (.func 124) [] [.ptr 1 0])::(kAK w r))),(kI q (kC a b c d e f g j k a10_ [])))/\qx a b c d e f g j k a10_ M q w r=some r9) ?_ (m:=N) ⟨_,_,_,rfl,g9⟩
  rintro M s ⟨q,w,r,rfl,g9⟩
  cases M with
  |zero=>simp only[qx]at g9;cases g9
  |succ M=>
   rw[qx]at g9
   refine sq ?_
   refine sh fol (kQ q [(1,.func (.func 124) [] [.ptr 1 0]),(5,.i w),(6,.i r),(19,.bool (decide (r<(q.length:Int))))]) ?_
   refine ihD g9 (fun c10 g9=>?_) (fun c10 g9=>?_)
   ·refine Goes.skip ?_
    refine sq ?_
    obtain⟨r13,g13,g9⟩:=bnd g9
    refine Goes.imp (Q:=fun x s'=>(x= .normal/\ ∃u C,(u,C)=r13/\Sub s' (ofG 42 (kQ u ((1,.func (.func 124) [] [.ptr 1 0])::(kAK C r))),(kI u (kC a b c d e f g j k a10_ []))))) ?_ ?_
    ·refine Goes.block ?_
     obtain⟨n,D,g13⟩:=bnd g13
     refine sq (gq fol [2,3] (kQ q [(1,.func (.func 124) [] [.ptr 1 0]),(5,.i w),(6,.i r),(7,.ptr 2 0)]) (kI q (kC a b c d e f g j k a10_ (kJ n.Lot n.Order n.Reserved n.Taken []))) (ac (hs (.done (.opt (qo ZT 28 (.gslice 0 q.length 4) (.i r))) (.ptr 0 ((r:Int).toNat*4+0))) (qhQ qa5 D)) (ac (hs (.run [0] (xO ZT 74 (.ptr 0 ((r:Int).toNat*4+0))) (kI q (kC a b c d e f g j k a10_ [])) (.agg (kAo n.Lot n.Order n.Reserved n.Taken)) (kI q (kC a b c d e f g j k a10_ [])) false) (qmq qhc (E:=qa) (l:=q) rfl rfl D)) az)) ?_)
     obtain⟨r15,X,g13⟩:=bnd g13
     refine sq (gr fol [2] (kQ q [(1,.func (.func 124) [] [.ptr 1 0]),(5,.i w),(6,.i r),(7,.ptr 2 0),(29,.bool (!r15))]) (ac (hs (.call 124 (kAG n.Lot n.Order n.Reserved n.Taken [.ptr 1 0]) (kI q (kC a b c d e f g j k a10_ (kJ n.Lot n.Order n.Reserved n.Taken []))) [1] (kAG n.Lot n.Order n.Reserved n.Taken [.fptr [.str (((⟨(⟨a,b,c,d⟩:qj),e,(⟨f,g,j,k⟩:qd),a10_⟩:qc).lot).Name),.str (((⟨(⟨a,b,c,d⟩:qj),e,(⟨f,g,j,k⟩:qd),a10_⟩:qc).lot).Yarn),.str (((⟨(⟨a,b,c,d⟩:qj),e,(⟨f,g,j,k⟩:qd),a10_⟩:qc).lot).Dye),.i (((⟨(⟨a,b,c,d⟩:qj),e,(⟨f,g,j,k⟩:qd),a10_⟩:qc).lot).Stock),.bool ((⟨(⟨a,b,c,d⟩:qj),e,(⟨f,g,j,k⟩:qd),a10_⟩:qc).known),.str (((⟨(⟨a,b,c,d⟩:qj),e,(⟨f,g,j,k⟩:qd),a10_⟩:qc).hold).Lot),.str (((⟨(⟨a,b,c,d⟩:qj),e,(⟨f,g,j,k⟩:qd),a10_⟩:qc).hold).Order),.i (((⟨(⟨a,b,c,d⟩:qj),e,(⟨f,g,j,k⟩:qd),a10_⟩:qc).hold).Reserved),.i (((⟨(⟨a,b,c,d⟩:qj),e,(⟨f,g,j,k⟩:qd),a10_⟩:qc).hold).Taken),.i ((⟨(⟨a,b,c,d⟩:qj),e,(⟨f,g,j,k⟩:qd),a10_⟩:qc).free)] 0]) (.bool r15)) (jl (FzL.cons (Ua (Still.agg (AllST.cons tS (AllST.cons tS (AllST.cons tI (AllST.cons tI AllST.nil)))))) (FzL.cons (Fz.ptr rfl rfl (FzL.cons (Ua tS) (FzL.cons (Ua tS) (FzL.cons (Ua tS) (FzL.cons (Ua tI) (FzL.cons (Ua tB) (FzL.cons (Ua tS) (FzL.cons (Ua tS) (FzL.cons (Ua tI) (FzL.cons (Ua tI) (FzL.cons (Ua tI) FzL.nil))))))))))) FzL.nil)) (vW n (⟨(⟨a,b,c,d⟩:qj),e,(⟨f,g,j,k⟩:qd),a10_⟩:qc) X) tB rfl)) az) ?_)
     refine ihB g13 (fun c16 g13=>?_) (fun c16 g13=>?_)
     ·obtain⟨x17,F,g13⟩:=bnd g13
      obtain⟨A,G,g13⟩:=bnd g13
      refine sq (gq fol [3,4] (kQ q ((1,.func (.func 124) [] [.ptr 1 0])::(kAK w r))) (kI A (kC a b c d e f g j k a10_ (kJ n.Lot n.Order n.Reserved n.Taken []))) (ac (hs (.done (.opt (qo ZT 28 (.gslice 0 q.length 4) (.i w))) (.ptr 0 ((w:Int).toNat*4+0))) (qhQ qa5 F)) (ac (hs (.run [0] (qda ZT 74 (.ptr 0 ((w:Int).toNat*4+0)) (.agg (kAo n.Lot n.Order n.Reserved n.Taken))) (kI q (kC a b c d e f g j k a10_ (kJ n.Lot n.Order n.Reserved n.Taken []))) .undef (kI A (kC a b c d e f g j k a10_ (kJ n.Lot n.Order n.Reserved n.Taken []))) true) (qkT (E:=qa) (l:=q) (y:=n) rfl (show _=some 4 by kernel_rfl) rfl F rfl rfl rfl rfl rfl G rfl)) az)) ?_)
      refine Goes.sub (show Sub (ofG 42 (kQ q ((1,.func (.func 124) [] [.ptr 1 0])::(kAK w r))),(kI A (kC a b c d e f g j k a10_ (kJ n.Lot n.Order n.Reserved n.Taken [])))) (ofG 42 (kQ A ((1,.func (.func 124) [] [.ptr 1 0])::(kAK w r))),(kI A (kC a b c d e f g j k a10_ [])))from(Sub.norm [] [some 0,some 1] (by rw[hB];rfl) rfl (.keep (.gsliceE rfl (qhb G)) (.keep (.funcL (sn) (rc (.ptr rfl) rn)) (.keep (.same nI) (.keep (.same nI) .nil)))) (.ks (.kb rfl (.same sn) .nil)))) ?_
      refine gh fol (kQ A ((1,.func (.func 124) [] [.ptr 1 0])::(kAK (w64 (w+1)) r))) ?_
      obtain rfl:=si g13
      exact⟨rfl,_,_,rfl,(Sub.refl _)⟩
     refine Goes.skip ?_
     obtain rfl:=si g13
     exact⟨rfl,_,_,rfl,(Sub.norm [] [some 0,some 1] (by rw[hB];rfl) rfl (.keep (.gslice rfl) (.keep (.funcL (sn) (rc (.ptr rfl) rn)) (.keep (.same nI) (.keep (.same nI) .nil)))) (.ks (.kb rfl (.same sn) .nil)))⟩
    rintro x s' ⟨rfl,u,C,rfl,hsub⟩
    try dsimp only at g9
    refine Goes.sub hsub ?_
    refine gh fol (kQ u ((1,.func (.func 124) [] [.ptr 1 0])::(kAK C (w64 (r+1))))) ?_
    exact⟨M,(ofG 42 (kQ u ((1,.func (.func 124) [] [.ptr 1 0])::(kAK C (w64 (r+1))))),(kI u (kC a b c d e f g j k a10_ []))),Nat.lt_succ_self _,(Sub.refl _),_,_,_,rfl,g9⟩
   refine Goes.exit ?_
   obtain rfl:=si g9
   exact⟨rfl,_,_,rfl,(Sub.keep [0,5] rfl rfl)⟩
 rintro x s' ⟨rfl,t,v,rfl,hsub⟩
 try dsimp only at h
 refine Goes.sub hsub ?_
 refine sq ?_
 obtain⟨V,o,h⟩:=bnd h
 refine Goes.cutS (s':=(ofG 42 (kQ V (kAd v)),(kI V (kC a b c d e f g j k a10_ [])))) ?_ ?_
 ·rcases wyD o with⟨Y,o⟩|⟨Y,o⟩
  ·obtain⟨u20,H,o⟩:=bnd o
   obtain⟨I,J,o⟩:=bnd o
   obtain rfl:=si o
   exact zu.sub (zu.rq fol [2,3] (kQ t (kAd v)) (kI I (kC a b c d e f g j k a10_ [])) (ac (hs (.done (.opt (yH ZT 28 (.gslice 0 t.length 4) (some (.i v)) none none)) (.oslice 0 t.length 4)) (qjb qa5 (ot Y) (qaC H))) (ac (hs (.run [0] (qau ZT [28] (.oslice 0 t.length 4)) (kI t (kC a b c d e f g j k a10_ [])) (.tuple []) (kI I (kC a b c d e f g j k a10_ [])) true) (qmj qa5 (E:=qa) (z:=(⟨[],[],0,0⟩:qd)) rfl (by kernel_rfl) rfl (qaC H) rfl J rfl)) az))) ((show Sub (ofG 42 (kQ t (kAd v)),(kI I (kC a b c d e f g j k a10_ []))) (ofG 42 (kQ I (kAd v)),(kI I (kC a b c d e f g j k a10_ [])))from(Sub.norm [] [some 0,some 1] (by rw[hB];rfl) rfl (.keep (.gsliceE rfl (qdq (Nat.zero_le _) J)) (.keep (.same nI) .nil)) (.ks (.kb rfl (.same sn) .nil)))).trans (Sub.refl _))
  obtain⟨W,K,o⟩:=bnd o
  obtain⟨u23,L,o⟩:=bnd o
  obtain⟨O,P,o⟩:=bnd o
  obtain rfl:=si o
  exact zu.sub (zu.rq fol [2,3] (kQ t (kAd v)) (kI O (kC a b c d e f g j k a10_ [])) (ac (hs (.done (.opt (yH ZT 28 (.gslice 0 t.length 4) (some (.i v)) none none)) (.wslice 0 (W*4) (t.length-W) 4)) (qhp qa5 (of_decide_eq_false Y) K (qaC L))) (ac (hs (.run [0] (qau ZT [28] (.wslice 0 (W*4) (t.length-W) 4)) (kI t (kC a b c d e f g j k a10_ [])) (.tuple []) (kI O (kC a b c d e f g j k a10_ [])) true) (qmv qa5 (E:=qa) (z:=(⟨[],[],0,0⟩:qd)) rfl (by kernel_rfl) rfl (qaC L) rfl P rfl)) az))) ((show Sub (ofG 42 (kQ t (kAd v)),(kI O (kC a b c d e f g j k a10_ []))) (ofG 42 (kQ O (kAd v)),(kI O (kC a b c d e f g j k a10_ [])))from(Sub.norm [] [some 0,some 1] (by rw[hB];rfl) rfl (.keep (.gsliceE rfl (qdq (qmo K) P)) (.keep (.same nI) .nil)) (.ks (.kb rfl (.same sn) .nil)))).trans (Sub.refl _))
 intro _ hsub
 refine Goes.sub hsub ?_
 obtain⟨u28,Z,h⟩:=bnd h
 obtain⟨T,U,h⟩:=bnd h
 refine sq (gr fol [2] (kAp T) (ac (hs (.done (.opt (yH ZT 28 (.gslice 0 V.length 4) none (some (.i v)) none)) (.oslice 0 T.length 4)) (qmn qa5 (qaC Z) U)) az) ?_)
 refine Goes.sub (show Sub (ofG 42 (kAp T),(kI V (kC a b c d e f g j k a10_ []))) (ofG 42 (kAp T),(kI T (kC a b c d e f g j k a10_ [])))from(Sub.norm [] [some 0,some 1] (by rw[hB];rfl) rfl (.keep (.oslice rfl) .nil) (.kb rfl (xV.cut U) (.kb rfl (.same sn) .nil)))) ?_
 refine Goes.ret ?_
 cases h
theorem qav (N:Nat) (p:List qd) (a:Str) (b:Str) (c:Str) (d:Int) (e:Bool) (f:Str) (g:Str) (j:Int) (k:Int) (a10_:Int) {l1:List qd} (h:qF N p a b c d e f g j k a10_=some (.inr l1)):qf ZT (.fn 122) [.gslice 0 p.length 4,.func (.func 124) [] [.ptr 1 0]] (kI p (kC a b c d e f g j k a10_ [])) (.oslice 0 l1.length 4) (kI l1 (kC a b c d e f g j k a10_ [])):=by
 unfold qF at h
 refine Goes.fnH Tryz.func122 rfl rfl (m:=42) rfl (rs:=[.tmp 4]) rfl (l:=(kQ p [(1,.func (.func 124) [] [.ptr 1 0])])) rfl ?_
 intro B hB
 refine sh fol (kQ p [(1,.func (.func 124) [] [.ptr 1 0])]) ?_
 obtain⟨r2,e_r2,h⟩:=bnd h
 refine sq (gr fol [2] (kQ p ((1,.func (.func 124) [] [.ptr 1 0])::(kAd r2))) (ac (hs (.call 174 [.gslice 0 p.length 4,.func (.func 124) [] [.ptr 1 0]] (kI p (kC a b c d e f g j k a10_ [])) [0,1] [vl qa p,.func (.func 124) [] [.fptr [.str (((⟨(⟨a,b,c,d⟩:qj),e,(⟨f,g,j,k⟩:qd),a10_⟩:qc).lot).Name),.str (((⟨(⟨a,b,c,d⟩:qj),e,(⟨f,g,j,k⟩:qd),a10_⟩:qc).lot).Yarn),.str (((⟨(⟨a,b,c,d⟩:qj),e,(⟨f,g,j,k⟩:qd),a10_⟩:qc).lot).Dye),.i (((⟨(⟨a,b,c,d⟩:qj),e,(⟨f,g,j,k⟩:qd),a10_⟩:qc).lot).Stock),.bool ((⟨(⟨a,b,c,d⟩:qj),e,(⟨f,g,j,k⟩:qd),a10_⟩:qc).known),.str (((⟨(⟨a,b,c,d⟩:qj),e,(⟨f,g,j,k⟩:qd),a10_⟩:qc).hold).Lot),.str (((⟨(⟨a,b,c,d⟩:qj),e,(⟨f,g,j,k⟩:qd),a10_⟩:qc).hold).Order),.i (((⟨(⟨a,b,c,d⟩:qj),e,(⟨f,g,j,k⟩:qd),a10_⟩:qc).hold).Reserved),.i (((⟨(⟨a,b,c,d⟩:qj),e,(⟨f,g,j,k⟩:qd),a10_⟩:qc).hold).Taken),.i ((⟨(⟨a,b,c,d⟩:qj),e,(⟨f,g,j,k⟩:qd),a10_⟩:qc).free)] 0]] (.i r2)) (jl (FzL.cons (Fz.gs (E:=qa) rfl rfl (nl rfl)) (FzL.cons (Fz.func FzL.nil (FzL.cons (Fz.ptr rfl rfl (FzL.cons (Ua tS) (FzL.cons (Ua tS) (FzL.cons (Ua tS) (FzL.cons (Ua tI) (FzL.cons (Ua tB) (FzL.cons (Ua tS) (FzL.cons (Ua tS) (FzL.cons (Ua tI) (FzL.cons (Ua tI) (FzL.cons (Ua tI) FzL.nil))))))))))) FzL.nil)) FzL.nil)) (yV N p (⟨(⟨a,b,c,d⟩:qj),e,(⟨f,g,j,k⟩:qd),a10_⟩:qc) e_r2) tI rfl)) az) ?_)
 refine sq ?_
 refine sh fol (kQ p [(1,.func (.func 124) [] [.ptr 1 0]),(5,.i r2),(12,.bool (decide (r2=(-1))))]) ?_
 refine ihD h (fun c3 h=>?_) (fun c3 h=>?_)
 ·refine sh fol [(4,.gslice 0 p.length 4)] ?_
  refine Goes.ret ?_
  cases h
 refine Goes.skip ?_
 refine sq ?_
 refine sh fol (kQ p ((1,.func (.func 124) [] [.ptr 1 0])::(kAK r2 (w64 (r2+1))))) ?_
 refine Goes.block ?_
 obtain⟨r9,g9,h⟩:=bnd h
 refine Goes.imp (Q:=fun x s'=>(x= .exit 0/\ ∃t v,(t,v)=r9/\Sub s' (ofG 42 (kQ t (kAd v)),(kI t (kC a b c d e f g j k a10_ []))))) ?_ ?_
 ·refine Ud (fun M s=> ∃(q:List qd) (w:Int) (r:Int),s=(ofG 42 (kQ q ((1,.func (.func 124) [] [.ptr 1 0])::(kAK w r))),(kI q (kC a b c d e f g j k a10_ [])))/\qx a b c d e f g j k a10_ M q w r=some r9) ?_ (m:=N) ⟨_,_,_,rfl,g9⟩
  rintro M s ⟨q,w,r,rfl,g9⟩
  cases M with
  |zero=>simp only[qx]at g9;cases g9
  |succ M=>
   rw[qx]at g9
   refine sq ?_
   refine sh fol (kQ q [(1,.func (.func 124) [] [.ptr 1 0]),(5,.i w),(6,.i r),(19,.bool (decide (r<(q.length:Int))))]) ?_
   refine ihD g9 (fun c10 g9=>?_) (fun c10 g9=>?_)
   ·refine Goes.skip ?_
    refine sq ?_
    obtain⟨r13,g13,g9⟩:=bnd g9
    refine Goes.imp (Q:=fun x s'=>(x= .normal/\ ∃u D,(u,D)=r13/\Sub s' (ofG 42 (kQ u ((1,.func (.func 124) [] [.ptr 1 0])::(kAK D r))),(kI u (kC a b c d e f g j k a10_ []))))) ?_ ?_
    ·refine Goes.block ?_
     obtain⟨n,F,g13⟩:=bnd g13
     refine sq (gq fol [2,3] (kQ q [(1,.func (.func 124) [] [.ptr 1 0]),(5,.i w),(6,.i r),(7,.ptr 2 0)]) (kI q (kC a b c d e f g j k a10_ (kJ n.Lot n.Order n.Reserved n.Taken []))) (ac (hs (.done (.opt (qo ZT 28 (.gslice 0 q.length 4) (.i r))) (.ptr 0 ((r:Int).toNat*4+0))) (qhQ qa5 F)) (ac (hs (.run [0] (xO ZT 74 (.ptr 0 ((r:Int).toNat*4+0))) (kI q (kC a b c d e f g j k a10_ [])) (.agg (kAo n.Lot n.Order n.Reserved n.Taken)) (kI q (kC a b c d e f g j k a10_ [])) false) (qmq qhc (E:=qa) (l:=q) rfl rfl F)) az)) ?_)
     obtain⟨r15,X,g13⟩:=bnd g13
     refine sq (gr fol [2] (kQ q [(1,.func (.func 124) [] [.ptr 1 0]),(5,.i w),(6,.i r),(7,.ptr 2 0),(29,.bool (!r15))]) (ac (hs (.call 124 (kAG n.Lot n.Order n.Reserved n.Taken [.ptr 1 0]) (kI q (kC a b c d e f g j k a10_ (kJ n.Lot n.Order n.Reserved n.Taken []))) [1] (kAG n.Lot n.Order n.Reserved n.Taken [.fptr [.str (((⟨(⟨a,b,c,d⟩:qj),e,(⟨f,g,j,k⟩:qd),a10_⟩:qc).lot).Name),.str (((⟨(⟨a,b,c,d⟩:qj),e,(⟨f,g,j,k⟩:qd),a10_⟩:qc).lot).Yarn),.str (((⟨(⟨a,b,c,d⟩:qj),e,(⟨f,g,j,k⟩:qd),a10_⟩:qc).lot).Dye),.i (((⟨(⟨a,b,c,d⟩:qj),e,(⟨f,g,j,k⟩:qd),a10_⟩:qc).lot).Stock),.bool ((⟨(⟨a,b,c,d⟩:qj),e,(⟨f,g,j,k⟩:qd),a10_⟩:qc).known),.str (((⟨(⟨a,b,c,d⟩:qj),e,(⟨f,g,j,k⟩:qd),a10_⟩:qc).hold).Lot),.str (((⟨(⟨a,b,c,d⟩:qj),e,(⟨f,g,j,k⟩:qd),a10_⟩:qc).hold).Order),.i (((⟨(⟨a,b,c,d⟩:qj),e,(⟨f,g,j,k⟩:qd),a10_⟩:qc).hold).Reserved),.i (((⟨(⟨a,b,c,d⟩:qj),e,(⟨f,g,j,k⟩:qd),a10_⟩:qc).hold).Taken),.i ((⟨(⟨a,b,c,d⟩:qj),e,(⟨f,g,j,k⟩:qd),a10_⟩:qc).free)] 0]) (.bool r15)) (jl (FzL.cons (Ua (Still.agg (AllST.cons tS (AllST.cons tS (AllST.cons tI (AllST.cons tI AllST.nil)))))) (FzL.cons (Fz.ptr rfl rfl (FzL.cons (Ua tS) (FzL.cons (Ua tS) (FzL.cons (Ua tS) (FzL.cons (Ua tI) (FzL.cons (Ua tB) (FzL.cons (Ua tS) (FzL.cons (Ua tS) (FzL.cons (Ua tI) (FzL.cons (Ua tI) (FzL.cons (Ua tI) FzL.nil))))))))))) FzL.nil)) (vW n (⟨(⟨a,b,c,d⟩:qj),e,(⟨f,g,j,k⟩:qd),a10_⟩:qc) X) tB rfl)) az) ?_)
     refine ihB g13 (fun c16 g13=>?_) (fun c16 g13=>?_)
     ·obtain⟨x17,G,g13⟩:=bnd g13
      obtain⟨A,H,g13⟩:=bnd g13
      refine sq (gq fol [3,4] (kQ q ((1,.func (.func 124) [] [.ptr 1 0])::(kAK w r))) (kI A (kC a b c d e f g j k a10_ (kJ n.Lot n.Order n.Reserved n.Taken []))) (ac (hs (.done (.opt (qo ZT 28 (.gslice 0 q.length 4) (.i w))) (.ptr 0 ((w:Int).toNat*4+0))) (qhQ qa5 G)) (ac (hs (.run [0] (qda ZT 74 (.ptr 0 ((w:Int).toNat*4+0)) (.agg (kAo n.Lot n.Order n.Reserved n.Taken))) (kI q (kC a b c d e f g j k a10_ (kJ n.Lot n.Order n.Reserved n.Taken []))) .undef (kI A (kC a b c d e f g j k a10_ (kJ n.Lot n.Order n.Reserved n.Taken []))) true) (qkT (E:=qa) (l:=q) (y:=n) rfl (show _=some 4 by kernel_rfl) rfl G rfl rfl rfl rfl rfl H rfl)) az)) ?_)
      refine Goes.sub (show Sub (ofG 42 (kQ q ((1,.func (.func 124) [] [.ptr 1 0])::(kAK w r))),(kI A (kC a b c d e f g j k a10_ (kJ n.Lot n.Order n.Reserved n.Taken [])))) (ofG 42 (kQ A ((1,.func (.func 124) [] [.ptr 1 0])::(kAK w r))),(kI A (kC a b c d e f g j k a10_ [])))from(Sub.norm [] [some 0,some 1] (by rw[hB];rfl) rfl (.keep (.gsliceE rfl (qhb H)) (.keep (.funcL (sn) (rc (.ptr rfl) rn)) (.keep (.same nI) (.keep (.same nI) .nil)))) (.ks (.kb rfl (.same sn) .nil)))) ?_
      refine gh fol (kQ A ((1,.func (.func 124) [] [.ptr 1 0])::(kAK (w64 (w+1)) r))) ?_
      obtain rfl:=si g13
      exact⟨rfl,_,_,rfl,(Sub.refl _)⟩
     refine Goes.skip ?_
     obtain rfl:=si g13
     exact⟨rfl,_,_,rfl,(Sub.norm [] [some 0,some 1] (by rw[hB];rfl) rfl (.keep (.gslice rfl) (.keep (.funcL (sn) (rc (.ptr rfl) rn)) (.keep (.same nI) (.keep (.same nI) .nil)))) (.ks (.kb rfl (.same sn) .nil)))⟩
    rintro x s' ⟨rfl,u,D,rfl,hsub⟩
    try dsimp only at g9
    refine Goes.sub hsub ?_
    refine gh fol (kQ u ((1,.func (.func 124) [] [.ptr 1 0])::(kAK D (w64 (r+1))))) ?_
    exact⟨M,(ofG 42 (kQ u ((1,.func (.func 124) [] [.ptr 1 0])::(kAK D (w64 (r+1))))),(kI u (kC a b c d e f g j k a10_ []))),Nat.lt_succ_self _,(Sub.refl _),_,_,_,rfl,g9⟩
   refine Goes.exit ?_
   obtain rfl:=si g9
   exact⟨rfl,_,_,rfl,(Sub.keep [0,5] rfl rfl)⟩
 rintro x s' ⟨rfl,t,v,rfl,hsub⟩
 try dsimp only at h
 refine Goes.sub hsub ?_
 refine sq ?_
 obtain⟨V,o,h⟩:=bnd h
 refine Goes.cutS (s':=(ofG 42 (kQ V (kAd v)),(kI V (kC a b c d e f g j k a10_ [])))) ?_ ?_
 ·rcases wyD o with⟨Y,o⟩|⟨Y,o⟩
  ·obtain⟨u20,I,o⟩:=bnd o
   obtain⟨J,K,o⟩:=bnd o
   obtain rfl:=si o
   exact zu.sub (zu.rq fol [2,3] (kQ t (kAd v)) (kI J (kC a b c d e f g j k a10_ [])) (ac (hs (.done (.opt (yH ZT 28 (.gslice 0 t.length 4) (some (.i v)) none none)) (.oslice 0 t.length 4)) (qjb qa5 (ot Y) (qaC I))) (ac (hs (.run [0] (qau ZT [28] (.oslice 0 t.length 4)) (kI t (kC a b c d e f g j k a10_ [])) (.tuple []) (kI J (kC a b c d e f g j k a10_ [])) true) (qmj qa5 (E:=qa) (z:=(⟨[],[],0,0⟩:qd)) rfl (by kernel_rfl) rfl (qaC I) rfl K rfl)) az))) ((show Sub (ofG 42 (kQ t (kAd v)),(kI J (kC a b c d e f g j k a10_ []))) (ofG 42 (kQ J (kAd v)),(kI J (kC a b c d e f g j k a10_ [])))from(Sub.norm [] [some 0,some 1] (by rw[hB];rfl) rfl (.keep (.gsliceE rfl (qdq (Nat.zero_le _) K)) (.keep (.same nI) .nil)) (.ks (.kb rfl (.same sn) .nil)))).trans (Sub.refl _))
  obtain⟨W,L,o⟩:=bnd o
  obtain⟨u23,O,o⟩:=bnd o
  obtain⟨P,T,o⟩:=bnd o
  obtain rfl:=si o
  exact zu.sub (zu.rq fol [2,3] (kQ t (kAd v)) (kI P (kC a b c d e f g j k a10_ [])) (ac (hs (.done (.opt (yH ZT 28 (.gslice 0 t.length 4) (some (.i v)) none none)) (.wslice 0 (W*4) (t.length-W) 4)) (qhp qa5 (of_decide_eq_false Y) L (qaC O))) (ac (hs (.run [0] (qau ZT [28] (.wslice 0 (W*4) (t.length-W) 4)) (kI t (kC a b c d e f g j k a10_ [])) (.tuple []) (kI P (kC a b c d e f g j k a10_ [])) true) (qmv qa5 (E:=qa) (z:=(⟨[],[],0,0⟩:qd)) rfl (by kernel_rfl) rfl (qaC O) rfl T rfl)) az))) ((show Sub (ofG 42 (kQ t (kAd v)),(kI P (kC a b c d e f g j k a10_ []))) (ofG 42 (kQ P (kAd v)),(kI P (kC a b c d e f g j k a10_ [])))from(Sub.norm [] [some 0,some 1] (by rw[hB];rfl) rfl (.keep (.gsliceE rfl (qdq (qmo L) T)) (.keep (.same nI) .nil)) (.ks (.kb rfl (.same sn) .nil)))).trans (Sub.refl _))
 intro _ hsub
 refine Goes.sub hsub ?_
 obtain⟨u28,Z,h⟩:=bnd h
 obtain⟨C,U,h⟩:=bnd h
 refine sq (gr fol [2] (kAp C) (ac (hs (.done (.opt (yH ZT 28 (.gslice 0 V.length 4) none (some (.i v)) none)) (.oslice 0 C.length 4)) (qmn qa5 (qaC Z) U)) az) ?_)
 refine Goes.sub (show Sub (ofG 42 (kAp C),(kI V (kC a b c d e f g j k a10_ []))) (ofG 42 (kAp C),(kI C (kC a b c d e f g j k a10_ [])))from(Sub.norm [] [some 0,some 1] (by rw[hB];rfl) rfl (.keep (.oslice rfl) .nil) (.kb rfl (xV.cut U) (.kb rfl (.same sn) .nil)))) ?_
 refine Goes.ret ?_
 obtain rfl:=Sum.inr.inj (si h)
 exact(gh2 [.oslice 0 C.length 4] (qeE.refl _ _))
def jV (N:Nat) (d:qm) (e:qh):Option qm:=
 ((vT).bind fun O=>
 if(e.Kind==[114,101,99,101,105,118,101])=true then
 (qA N d e).bind fun H=>
 (xx H e.Amount).bind fun h=>
 some (h.lot.Name,h.lot.Yarn,h.lot.Dye,h.lot.Stock,h.known,h.hold.Lot,h.hold.Order,h.hold.Reserved,h.hold.Taken,h.free)
 else
 if(e.Kind==[114,101,115,101,114,118,101])=true then
 (qA N d e).bind fun I=>
 (xy I e.Amount).bind fun i=>
 some (i.lot.Name,i.lot.Yarn,i.lot.Dye,i.lot.Stock,i.known,i.hold.Lot,i.hold.Order,i.hold.Reserved,i.hold.Taken,i.free)
 else
 if(e.Kind==[114,101,108,101,97,115,101])=true then
 (qA N d e).bind fun J=>
 (xz J e.Amount).bind fun a=>
 some (a.lot.Name,a.lot.Yarn,a.lot.Dye,a.lot.Stock,a.known,a.hold.Lot,a.hold.Order,a.hold.Reserved,a.hold.Taken,a.free)
 else
 if(e.Kind==[116,97,107,101])=true then
 (qA N d e).bind fun w=>
 (qbv w e.Amount).bind fun b=>
 some (b.lot.Name,b.lot.Yarn,b.lot.Dye,b.lot.Stock,b.known,b.hold.Lot,b.hold.Order,b.hold.Reserved,b.hold.Taken,b.free)
 else
 if(e.Kind==[114,101,116,117,114,110])=true then
 (qA N d e).bind fun x=>
 (xB x e.Amount).bind fun c=>
 some (c.lot.Name,c.lot.Yarn,c.lot.Dye,c.lot.Stock,c.known,c.hold.Lot,c.hold.Order,c.hold.Reserved,c.hold.Taken,c.free)
 else
 none:Option (Str×Str×Str×Int×Bool×Str×Str×Int×Int×Int)).bind fun(k,l,m,n,y,o,p,f,g,z)=>
 (qc8 d.Lots).bind fun _=>
 (jG N (⟨e.Day,d.Lots,[]⟩:qm) e.Lot).bind fun j=>
 ((if j.2=true then
 (idx d.Lots j.1).bind fun K=>
 (put d.Lots j.1 (⟨k,l,m,n⟩:qj)).bind fun A=>
 some A
 else
 (qfn d.Lots j.1 k l m n).bind fun B=>
 some B:Option (List qj))).bind fun q=>
 (qcb d.Holds).bind fun _=>
 (qF N d.Holds k l m n y o p f g z).bind fun C=>
 match C with
 | .inl _=>
 (if f>0 then
 some true
 else
 some (decide (g>0)):Option Bool).bind fun D=>
 ((if D=true then
 (app 48 d.Holds [(⟨o,p,f,g⟩:qd)]).bind fun E=>
 some E
 else
 some d.Holds:Option (List qd))).bind fun r=>
 (qdv r).bind fun s=>
 ((if r.length=s.length then some ()else none:Option Unit)).bind fun L=>
 some (⟨e.Day,q,s⟩:qm)
 | .inr t=>
 (if f>0 then
 some true
 else
 some (decide (g>0)):Option Bool).bind fun F=>
 ((if F=true then
 (app 48 t [(⟨o,p,f,g⟩:qd)]).bind fun G=>
 some G
 else
 some t:Option (List qd))).bind fun u=>
 (qdr u).bind fun v=>
 ((if u.length=v.length then some ()else none:Option Unit)).bind fun M=>
 some (⟨e.Day,q,v⟩:qm)
theorem qbk (N:Nat) (b:qm) (e:qh) {res:qm} (h:jV N b e=some res):qf ZT (.fn 59) (kX b.Day b.Lots b.Holds (kAW e.Kind e.Day e.Lot e.Amount e.Yarn e.Dye e.Order [])) [] (.agg (kH res.Day res.Lots res.Holds)) []:=by
 unfold jV at h
 refine Uc Tryz.func59 rfl rfl (m:=75) rfl (rs:=[.cell 4 30]) rfl (l:=(kS b.Day b.Lots b.Holds (kAO e.Kind e.Day e.Lot e.Amount e.Yarn e.Dye e.Order []))) rfl ?_
 refine sg fol (kG (kAX [])) (kD b.Day b.Lots b.Holds e.Kind e.Day e.Lot e.Amount e.Yarn e.Dye e.Order (kF [])) ?_
 refine sq ?_
 obtain⟨⟨j,k,n,o,q,d,f,g,c,r⟩,a,h⟩:=bnd h
 refine Goes.cut (s':=(ofG 75 (kG (kY [])),(kD b.Day b.Lots b.Holds e.Kind e.Day e.Lot e.Amount e.Yarn e.Dye e.Order (kF (kC j k n o q d f g c r []))))) ?_ ?_
 ·obtain⟨r1,G,a⟩:=bnd a
  rcases wyB a with⟨c2,a⟩|⟨c2,a⟩
  ·obtain⟨r3,e_r3,a⟩:=bnd a
   obtain⟨M,e_r4,a⟩:=bnd a
   simp only[ZI,ZP]at a
   obtain⟨rfl,rfl,rfl,rfl,rfl,rfl,rfl,rfl,rfl,rfl⟩:=a
   exact zu.rq fol [0,3,7,10] (kG (kY [])) (kD b.Day b.Lots b.Holds e.Kind e.Day e.Lot e.Amount e.Yarn e.Dye e.Order (kF (kC M.lot.Name M.lot.Yarn M.lot.Dye M.lot.Stock M.known M.hold.Lot M.hold.Order M.hold.Reserved M.hold.Taken M.free []))) (ac (cv (qN G)) (ac (hs (.done (zU ZT 143 (fm1) (.str e.Kind) false) (.agg [.func (.func 132) [] [],.func (.func 133) [] []])) (qaB qaY [[114,101,99,101,105,118,101],[114,101,115,101,114,118,101],[114,101,108,101,97,115,101],[116,97,107,101],[114,101,116,117,114,110]] (jo c2) rfl)) (ac (cv (zM N b e e_r3)) (ac (cv (qb3 r3 e.Amount e_r4)) az))))
  rcases wyB a with⟨c5,a⟩|⟨c5,a⟩
  ·obtain⟨r6,e_r6,a⟩:=bnd a
   obtain⟨O,e_r7,a⟩:=bnd a
   simp only[ZI,ZP]at a
   obtain⟨rfl,rfl,rfl,rfl,rfl,rfl,rfl,rfl,rfl,rfl⟩:=a
   exact zu.rq fol [0,3,7,10] (kG (kY [])) (kD b.Day b.Lots b.Holds e.Kind e.Day e.Lot e.Amount e.Yarn e.Dye e.Order (kF (kC O.lot.Name O.lot.Yarn O.lot.Dye O.lot.Stock O.known O.hold.Lot O.hold.Order O.hold.Reserved O.hold.Taken O.free []))) (ac (cv (qN G)) (ac (hs (.done (zU ZT 143 (fm1) (.str e.Kind) false) (.agg [.func (.func 134) [] [],.func (.func 135) [] []])) (qaB qaY [[114,101,99,101,105,118,101],[114,101,115,101,114,118,101],[114,101,108,101,97,115,101],[116,97,107,101],[114,101,116,117,114,110]] (qw c2 (jo c5)) rfl)) (ac (cv (zM N b e e_r6)) (ac (cv (qb6 r6 e.Amount e_r7)) az))))
  rcases wyB a with⟨c8,a⟩|⟨c8,a⟩
  ·obtain⟨r9,e_r9,a⟩:=bnd a
   obtain⟨A,V,a⟩:=bnd a
   simp only[ZI,ZP]at a
   obtain⟨rfl,rfl,rfl,rfl,rfl,rfl,rfl,rfl,rfl,rfl⟩:=a
   exact zu.rq fol [0,3,7,10] (kG (kY [])) (kD b.Day b.Lots b.Holds e.Kind e.Day e.Lot e.Amount e.Yarn e.Dye e.Order (kF (kC A.lot.Name A.lot.Yarn A.lot.Dye A.lot.Stock A.known A.hold.Lot A.hold.Order A.hold.Reserved A.hold.Taken A.free []))) (ac (cv (qN G)) (ac (hs (.done (zU ZT 143 (fm1) (.str e.Kind) false) (.agg [.func (.func 137) [] [],.func (.func 138) [] []])) (qaB qaY [[114,101,99,101,105,118,101],[114,101,115,101,114,118,101],[114,101,108,101,97,115,101],[116,97,107,101],[114,101,116,117,114,110]] (qw c2 (qw c5 (jo c8))) rfl)) (ac (cv (zM N b e e_r9)) (ac (cv (qb8 r9 e.Amount V)) az))))
  rcases wyB a with⟨W,a⟩|⟨W,a⟩
  ·obtain⟨r12,X,a⟩:=bnd a
   obtain⟨B,Y,a⟩:=bnd a
   simp only[ZI,ZP]at a
   obtain⟨rfl,rfl,rfl,rfl,rfl,rfl,rfl,rfl,rfl,rfl⟩:=a
   exact zu.rq fol [0,3,7,10] (kG (kY [])) (kD b.Day b.Lots b.Holds e.Kind e.Day e.Lot e.Amount e.Yarn e.Dye e.Order (kF (kC B.lot.Name B.lot.Yarn B.lot.Dye B.lot.Stock B.known B.hold.Lot B.hold.Order B.hold.Reserved B.hold.Taken B.free []))) (ac (cv (qN G)) (ac (hs (.done (zU ZT 143 (fm1) (.str e.Kind) false) (.agg [.func (.func 139) [] [],.func (.func 140) [] []])) (qaB qaY [[114,101,99,101,105,118,101],[114,101,115,101,114,118,101],[114,101,108,101,97,115,101],[116,97,107,101],[114,101,116,117,114,110]] (qw c2 (qw c5 (qw c8 (jo W)))) rfl)) (ac (cv (zM N b e X)) (ac (cv (qdH r12 e.Amount Y)) az))))
  rcases wyB a with⟨c14,a⟩|⟨c14,a⟩
  ·obtain⟨r15,Z,a⟩:=bnd a
   obtain⟨C,a0,a⟩:=bnd a
   simp only[ZI,ZP]at a
   obtain⟨rfl,rfl,rfl,rfl,rfl,rfl,rfl,rfl,rfl,rfl⟩:=a
   exact zu.rq fol [0,3,7,10] (kG (kY [])) (kD b.Day b.Lots b.Holds e.Kind e.Day e.Lot e.Amount e.Yarn e.Dye e.Order (kF (kC C.lot.Name C.lot.Yarn C.lot.Dye C.lot.Stock C.known C.hold.Lot C.hold.Order C.hold.Reserved C.hold.Taken C.free []))) (ac (cv (qN G)) (ac (hs (.done (zU ZT 143 (fm1) (.str e.Kind) false) (.agg [.func (.func 141) [] [],.func (.func 142) [] []])) (qaB qaY [[114,101,99,101,105,118,101],[114,101,115,101,114,118,101],[114,101,108,101,97,115,101],[116,97,107,101],[114,101,116,117,114,110]] (qw c2 (qw c5 (qw c8 (qw W (jo c14))))) rfl)) (ac (cv (zM N b e Z)) (ac (cv (qce r15 e.Amount a0)) az))))
  cases a
 try dsimp only at h
 obtain⟨_,a1,h⟩:=bnd h
 refine sq (gq fol [4] (kG (kY [(6,.ptr 5 0)])) (kD b.Day b.Lots b.Holds e.Kind e.Day e.Lot e.Amount e.Yarn e.Dye e.Order (kF (kC j k n o q d f g c r (kO b.Lots (kAL e.Day b.Lots []))))) (ac (hs (.callH 120 [vl qb b.Lots] (kD b.Day b.Lots b.Holds e.Kind e.Day e.Lot e.Amount e.Yarn e.Dye e.Order (kF (kC j k n o q d f g c r []))) [] (.gslice 4 b.Lots.length 4) (kD b.Day b.Lots b.Holds e.Kind e.Day e.Lot e.Amount e.Yarn e.Dye e.Order (kF (kC j k n o q d f g c r (kO b.Lots []))))) (qcV [] [none,none,none,none,some 0] (qhw b.Lots a1) .nil rfl rfl (.old rfl rfl (.old rfl rfl (.old rfl rfl (.old rfl rfl (.new rfl rfl (.same fa) rfl .nil))))) (rc (.same (qZ qb _)) rn) (.gslice rfl) rfl)) az) ?_)
 refine sq ?_
 obtain⟨s,a2,h⟩:=bnd h
 refine sq (gr fol [3] (kT (kY [(6,.ptr 5 0),(7,.i s.1),(8,.bool s.2)])) (ac (hs (.call 80 [.agg [.i e.Day,.gslice 4 b.Lots.length 4,.nilslice],.str e.Lot] (kD b.Day b.Lots b.Holds e.Kind e.Day e.Lot e.Amount e.Yarn e.Dye e.Order (kF (kC j k n o q d f g c r (kO b.Lots (kAL e.Day b.Lots []))))) [4] [.agg [.i e.Day,vl qb b.Lots,.nilslice],.str e.Lot] (.tuple [.i s.1,.bool s.2])) (jl (FzL.cons (Fz.agg (FzL.cons (Ua tI) (FzL.cons (Fz.gs (E:=qb) rfl rfl (nl rfl)) (FzL.cons (Ua (Still.nilslice 10)) FzL.nil)))) (FzL.cons (Ua tS) FzL.nil)) ((qf.wk (qbQ N (⟨e.Day,b.Lots,[]⟩:qm) e.Lot a2) (WkL.cons (Wk.agg (WkL.cons (Wk.refl _) (WkL.cons (Wk.refl _) (WkL.cons (Wk.nilv (E:=qa)) WkL.nil)))) (WkL.cons (Wk.refl _) WkL.nil)))) (Still.tuple (AllST.cons tI (AllST.cons tB AllST.nil))) rfl)) az) ?_)
 refine sh fol (kT (kY [(6,.ptr 5 0),(7,.i s.1),(33,.bool s.2)])) ?_
 obtain⟨r31,g31,h⟩:=bnd h
 refine Goes.imp (Q:=fun x s'=>(x= .normal/\ ∃p,p=r31/\Sub s' (ofG 75 (kT (kAF (kZ []))),(kE b.Day b.Lots b.Holds (kF (kC j k n o q d f g c r (kAT e.Day p []))))))) ?_ ?_
 ·refine ihB g31 (fun c32 g31=>?_) (fun c32 g31=>?_)
  ·obtain⟨x33,H,g31⟩:=bnd g31
   obtain⟨I,J,g31⟩:=bnd g31
   refine gq fol [5,6] (kT (kY [(6,.ptr 5 0)])) (kD b.Day b.Lots b.Holds e.Kind e.Day e.Lot e.Amount e.Yarn e.Dye e.Order (kF (kC j k n o q d f g c r (kO I (kAL e.Day b.Lots []))))) (ac (hs (.done (.opt (qo ZT 27 (.gslice 4 b.Lots.length 4) (.i s.1))) (.ptr 4 ((s.1:Int).toNat*4+0))) (qhQ qgg H)) (ac (hs (.run [4] (qda ZT 71 (.ptr 4 ((s.1:Int).toNat*4+0)) (.agg [.str j,.str k,.str n,.i o])) (kD b.Day b.Lots b.Holds e.Kind e.Day e.Lot e.Amount e.Yarn e.Dye e.Order (kF (kC j k n o q d f g c r (kO b.Lots (kAL e.Day b.Lots []))))) .undef (kD b.Day b.Lots b.Holds e.Kind e.Day e.Lot e.Amount e.Yarn e.Dye e.Order (kF (kC j k n o q d f g c r (kO I (kAL e.Day b.Lots []))))) true) (qkT (E:=qb) (l:=b.Lots) (y:=(⟨j,k,n,o⟩:qj)) rfl (show _=some 4 by kernel_rfl) rfl H rfl rfl rfl rfl rfl J rfl)) az)) ?_
   obtain rfl:=si g31
   exact⟨rfl,_,rfl,((show Sub (ofG 75 (kT (kY [(6,.ptr 5 0)])),(kD b.Day b.Lots b.Holds e.Kind e.Day e.Lot e.Amount e.Yarn e.Dye e.Order (kF (kC j k n o q d f g c r (kO I (kAL e.Day b.Lots [])))))) (ofG 75 (kT (kAF (kZ []))),(kE b.Day b.Lots b.Holds (kF (kC j k n o q d f g c r (kAL e.Day I (kO I []))))))from(Sub.norm [] [some 0,some 2,some 3,some 5,some 4] rfl rfl (.kp (.kp (.kp (.kp .nil)))) (.kb rfl (.same sn) (.kb rfl (.same sn) (.kb rfl (.same sn) (.kb rfl (.cells (rc (.same nI) (rc (.gsliceE rfl (qhb J)) (rc (.same (qB.nilslice)) rn)))) (.ks .nil))))))).trans (Sub.norm [4] [some 0,some 1,some 2,some 3] rfl rfl (.kp (.kp (.kp (.kp .nil)))) (.kb rfl (.same sn) (.kb rfl (.same sn) (.kb rfl (.same sn) (.kb rfl (.cells (rc (.same nI) (rc (.frz (Fz.gs (E:=qb) rfl rfl (nl rfl)) (qZ qb _)) (rc (.same (qB.nilslice)) rn)))) .nil))))))⟩
  obtain⟨P,a3,g31⟩:=bnd g31
  refine gq fol [6] (kT (kY [(6,.ptr 5 0)])) (kD b.Day b.Lots b.Holds e.Kind e.Day e.Lot e.Amount e.Yarn e.Dye e.Order (kF (kC j k n o q d f g c r (.dead:: .cells [.i e.Day,.oslice 7 P.length 4,.nilslice]::(kP j k n o (kO P [])))))) (ac (hs (.callH 121 [.gslice 4 b.Lots.length 4,.i s.1,.slice 6 0 1 1 4] (kD b.Day b.Lots b.Holds e.Kind e.Day e.Lot e.Amount e.Yarn e.Dye e.Order (kF (kC j k n o q d f g c r (kO b.Lots (kAL e.Day b.Lots (kP j k n o [])))))) [4,6] (.oslice 7 P.length 4) (kD b.Day b.Lots b.Holds e.Kind e.Day e.Lot e.Amount e.Yarn e.Dye e.Order (kF (kC j k n o q d f g c r (.dead::(kAL e.Day b.Lots (kP j k n o (kO P [])))))))) (qcV [some 4,some 6] [none,none,none,none,none,none,some 1,some 2] (qj3 b.Lots s.1 j k n o a3) (.ks (.kb rfl (.cells (rc (.same nS) (rc (.same nS) (rc (.same nS) (rc (.same nI) rn))))) .nil)) rfl rfl (.old rfl rfl (.old rfl rfl (.old rfl rfl (.old rfl rfl (.dead (.old rfl rfl (.back rfl rfl (.cells (rc (.same nS) (rc (.same nS) (rc (.same nS) (rc (.same nI) rn))))) rfl (.new rfl rfl (.same fa) rfl .nil)))))))) (rc (.gslice rfl) (rc (.same nI) (rc (.slice rfl) rn))) (.oslice rfl) rfl)) az) ?_
  obtain rfl:=si g31
  exact⟨rfl,_,rfl,(Sub.norm [7] [some 0,some 2,some 3,some 5] rfl rfl (.kp (.kp (.kp (.kp .nil)))) (.kb rfl (.same sn) (.kb rfl (.same sn) (.kb rfl (.same sn) (.kb rfl (.cells (rc (.same nI) (rc (.frz (Fz.os (E:=qb) rfl rfl (nl rfl)) (qZ qb _)) (rc (.same (qB.nilslice)) rn)))) .nil)))))⟩
 rintro x s' ⟨rfl,p,rfl,hsub⟩
 refine Goes.sub hsub ?_
 refine sq ?_
 obtain⟨_,K,h⟩:=bnd h
 obtain⟨r38,L,h⟩:=bnd h
 rcases r38 with _|t
 ·try dsimp only at h
  refine gq fol [2,4] (kAF (kZ [])) (kE b.Day b.Lots b.Holds (kF (kC j k n o q d f g c r (.cells [.i e.Day,vl qb p,.gslice 4 b.Holds.length 4]::(kI b.Holds []))))) (ac (hs (.callH 123 [vl qa b.Holds] (kE b.Day b.Lots b.Holds (kF (kC j k n o q d f g c r (kAT e.Day p [])))) [] (.gslice 4 b.Holds.length 4) (kE b.Day b.Lots b.Holds (kF (kC j k n o q d f g c r (kAT e.Day p (kI b.Holds [])))))) (qcV [] [none,none,none,none,some 0] (qel b.Holds K) .nil rfl rfl (.old rfl rfl (.old rfl rfl (.old rfl rfl (.old rfl rfl (.new rfl rfl (.same fa) rfl .nil))))) (rc (.same (qZ qa _)) rn) (.gslice rfl) rfl)) (ac (hs (.callH 122 [.gslice 4 b.Holds.length 4,.func (.func 124) [] [.ptr 2 0]] (kE b.Day b.Lots b.Holds (kF (kC j k n o q d f g c r (kAT e.Day p (kI b.Holds []))))) [4,2] (.gslice 4 b.Holds.length 4) (kE b.Day b.Lots b.Holds (kF (kC j k n o q d f g c r (kAT e.Day p (kI b.Holds [])))))) (qcV [some 4,some 2] [none,none,some 1,none,some 0] (qar N b.Holds j k n o q d f g c r L) (.ks (.kb rfl (.cells (rc (.same nS) (rc (.same nS) (rc (.same nS) (rc (.same nI) (rc (.same nB) (rc (.same nS) (rc (.same nS) (rc (.same nI) (rc (.same nI) (rc (.same nI) rn))))))))))) .nil)) rfl rfl (.old rfl rfl (.old rfl rfl (.back rfl rfl (.cells (rc (.same nS) (rc (.same nS) (rc (.same nS) (rc (.same nI) (rc (.same nB) (rc (.same nS) (rc (.same nS) (rc (.same nI) (rc (.same nI) (rc (.same nI) rn))))))))))) rfl (.old rfl rfl (.back rfl rfl (.same fa) rfl .nil))))) (rc (.gslice rfl) (rc (.funcL (sn) (rc (.ptr rfl) rn)) rn)) (.gslice rfl) rfl)) az)) ?_
  refine sq ?_
  refine sq ?_
  obtain⟨b41,u,h⟩:=bnd h
  refine Goes.cut (s':=(ofG 75 (kAF (kZ [(63,.bool b41)])),(kE b.Day b.Lots b.Holds (kF (kC j k n o q d f g c r (.cells [.i e.Day,vl qb p,.gslice 4 b.Holds.length 4]::(kI b.Holds []))))))) ?_ ?_
  ·rcases wyD u with⟨a4,u⟩|⟨a4,u⟩
   ·obtain rfl:=si u
    exact tr fol [4] (kAF (kZ [(63,.bool true)])) (ac (gw a4) az)
   obtain rfl:=si u
   exact tr fol [4] (kAF (kZ [(63,.bool (decide (c>0)))])) (ac (gw a4) az)
  obtain⟨r44,g44,h⟩:=bnd h
  refine Goes.imp (Q:=fun x s'=>(x= .normal/\ ∃v,v=r44/\Sub s' (ofG 75 kAU,(kF (kAD e.Day p v (kI v [])))))) ?_ ?_
  ·refine ihB g44 (fun c45 g44=>?_) (fun c45 g44=>?_)
   ·obtain⟨T,a5,g44⟩:=bnd g44
    refine gq fol [5] (kAF [(6,.ptr 3 0)]) (kE b.Day b.Lots b.Holds (kF (kC j k n o q d f g c r (.cells [.i e.Day,vl qb p,.gslice 6 T.length 4]:: .dead::(kJ d f g c (kI T [])))))) (ac (hs (.run [4,5] (yf ZT [28,28] (.gslice 4 b.Holds.length 4) (.slice 5 0 1 1 4)) (kE b.Day b.Lots b.Holds (kF (kC j k n o q d f g c r (.cells [.i e.Day,vl qb p,.gslice 4 b.Holds.length 4]::(kI b.Holds (kJ d f g c [])))))) (.gslice 6 T.length 4) (kE b.Day b.Lots b.Holds (kF (kC j k n o q d f g c r (.cells [.i e.Day,vl qb p,.gslice 4 b.Holds.length 4]:: .dead::(kJ d f g c (kI T [])))))) true) (qaD qa5 (E:=qa) rfl (qdS (E:=qa) (ys:=[(⟨d,f,g,c⟩:qd)]) rfl rfl rfl rfl) (qek (E:=qa) (l:=b.Holds) rfl rfl rfl a5 rfl))) az) ?_
    obtain rfl:=si g44
    exact⟨rfl,_,rfl,(Sub.norm [] [some 1,some 3,some 6] rfl rfl (.kp (.kp .nil)) (.kb rfl (.same sn) (.kb rfl (.cells (rc (.same nI) (rc (.same (qZ qb _)) (rc (.gslice rfl) rn)))) (.ks .nil))))⟩
   refine Goes.skip ?_
   obtain rfl:=si g44
   exact⟨rfl,_,rfl,(Sub.norm [] [some 1,some 3,some 4] rfl rfl (.kp (.drop (.kp .nil))) (.kb rfl (.same sn) (.kb rfl (.cells (rc (.same nI) (rc (.same (qZ qb _)) (rc (.gslice rfl) rn)))) (.ks .nil))))⟩
  rintro x s' ⟨rfl,v,rfl,hsub⟩
  refine Goes.sub hsub ?_
  obtain⟨D,a6,h⟩:=bnd h
  obtain⟨u49,a7,h⟩:=bnd h
  refine sq (gq fol [2] kAU (kF (kAD e.Day p v (kI D []))) (ac (hs (.callH 126 [.gslice 2 v.length 4,.func (.func 127) [] []] (kF (kAD e.Day p v (kI v []))) [2] (.tuple []) (kF (kAD e.Day p v (kI D [])))) (qcV [some 2] [none,none,some 0] (qgZ v a6) (.ks .nil) rfl rfl (.old rfl rfl (.old rfl rfl (.back rfl rfl (.same fa) rfl .nil))) (rc (.gslice rfl) (rc (.same (qB.func sn sn)) rn)) (.same (qB.tuple sn)) rfl)) az) ?_)
  refine Goes.sub (show Sub (ofG 75 kAU,(kF (kAD e.Day p v (kI D [])))) (ofG 75 kAU,(kF (kAD e.Day p D (kI D []))))from(Sub.norm [] [some 0,some 1,some 2] rfl rfl (.kp (.kp .nil)) (.kb rfl (.same sn) (.kb rfl (.cells (rc (.same nI) (rc (.same (qZ qb _)) (rc (.gsliceE rfl (qji a7)) rn)))) (.ks .nil))))) ?_
  refine sg fol kAz (kAD e.Day p D (kAD e.Day p D (kI D []))) ?_
  refine Goes.ret ?_
  obtain rfl:=si h
  exact(gw2 [.agg [.i e.Day,vl qb p,.gslice 2 D.length 4]] (FzW.agg (qp.cons (Ub tI) (qp.cons (Ub (qg qb _ (nl rfl))) (qp.cons (FzW.fz (Fz.gs (E:=qa) rfl rfl (nl rfl))) qp.nil)))))
 try dsimp only at h
 refine gq fol [2,4] (kAF (kZ [])) (kE b.Day b.Lots b.Holds (kF (kC j k n o q d f g c r (.cells [.i e.Day,vl qb p,.oslice 4 t.length 4]::(kI t []))))) (ac (hs (.callH 123 [vl qa b.Holds] (kE b.Day b.Lots b.Holds (kF (kC j k n o q d f g c r (kAT e.Day p [])))) [] (.gslice 4 b.Holds.length 4) (kE b.Day b.Lots b.Holds (kF (kC j k n o q d f g c r (kAT e.Day p (kI b.Holds [])))))) (qcV [] [none,none,none,none,some 0] (qel b.Holds K) .nil rfl rfl (.old rfl rfl (.old rfl rfl (.old rfl rfl (.old rfl rfl (.new rfl rfl (.same fa) rfl .nil))))) (rc (.same (qZ qa _)) rn) (.gslice rfl) rfl)) (ac (hs (.callH 122 [.gslice 4 b.Holds.length 4,.func (.func 124) [] [.ptr 2 0]] (kE b.Day b.Lots b.Holds (kF (kC j k n o q d f g c r (kAT e.Day p (kI b.Holds []))))) [4,2] (.oslice 4 t.length 4) (kE b.Day b.Lots b.Holds (kF (kC j k n o q d f g c r (kAT e.Day p (kI t [])))))) (qcV [some 4,some 2] [none,none,some 1,none,some 0] (qav N b.Holds j k n o q d f g c r L) (.ks (.kb rfl (.cells (rc (.same nS) (rc (.same nS) (rc (.same nS) (rc (.same nI) (rc (.same nB) (rc (.same nS) (rc (.same nS) (rc (.same nI) (rc (.same nI) (rc (.same nI) rn))))))))))) .nil)) rfl rfl (.old rfl rfl (.old rfl rfl (.back rfl rfl (.cells (rc (.same nS) (rc (.same nS) (rc (.same nS) (rc (.same nI) (rc (.same nB) (rc (.same nS) (rc (.same nS) (rc (.same nI) (rc (.same nI) (rc (.same nI) rn))))))))))) rfl (.old rfl rfl (.back rfl rfl (.same fa) rfl .nil))))) (rc (.gslice rfl) (rc (.funcL (sn) (rc (.ptr rfl) rn)) rn)) (.oslice rfl) rfl)) az)) ?_
 refine sq ?_
 refine sq ?_
 obtain⟨b51,w,h⟩:=bnd h
 refine Goes.cut (s':=(ofG 75 (kAF (kZ [(63,.bool b51)])),(kE b.Day b.Lots b.Holds (kF (kC j k n o q d f g c r (.cells [.i e.Day,vl qb p,.oslice 4 t.length 4]::(kI t []))))))) ?_ ?_
 ·rcases wyD w with⟨a8,w⟩|⟨a8,w⟩
  ·obtain rfl:=si w
   exact tr fol [4] (kAF (kZ [(63,.bool true)])) (ac (gw a8) az)
  obtain rfl:=si w
  exact tr fol [4] (kAF (kZ [(63,.bool (decide (c>0)))])) (ac (gw a8) az)
 obtain⟨r54,g54,h⟩:=bnd h
 refine Goes.imp (Q:=fun x s'=>(x= .normal/\ ∃z,z=r54/\Sub s' (ofG 75 kAU,(kF (kAQ e.Day p z (kI z [])))))) ?_ ?_
 ·refine ihB g54 (fun c55 g54=>?_) (fun c55 g54=>?_)
  ·obtain⟨U,a9,g54⟩:=bnd g54
   refine gq fol [5] (kAF [(6,.ptr 3 0)]) (kE b.Day b.Lots b.Holds (kF (kC j k n o q d f g c r (.cells [.i e.Day,vl qb p,.oslice 6 U.length 4]:: .dead::(kJ d f g c (kI U [])))))) (ac (hs (.run [4,5] (yf ZT [28,28] (.oslice 4 t.length 4) (.slice 5 0 1 1 4)) (kE b.Day b.Lots b.Holds (kF (kC j k n o q d f g c r (.cells [.i e.Day,vl qb p,.oslice 4 t.length 4]::(kI t (kJ d f g c [])))))) (.oslice 6 U.length 4) (kE b.Day b.Lots b.Holds (kF (kC j k n o q d f g c r (.cells [.i e.Day,vl qb p,.oslice 4 t.length 4]:: .dead::(kJ d f g c (kI U [])))))) true) (qaD qa5 (E:=qa) rfl (qdS (E:=qa) (ys:=[(⟨d,f,g,c⟩:qd)]) rfl rfl rfl rfl) (dst_o (E:=qa) (l:=t) rfl rfl rfl a9 rfl))) az) ?_
   obtain rfl:=si g54
   exact⟨rfl,_,rfl,(Sub.norm [] [some 1,some 3,some 6] rfl rfl (.kp (.kp .nil)) (.kb rfl (.same sn) (.kb rfl (.cells (rc (.same nI) (rc (.same (qZ qb _)) (rc (.oslice rfl) rn)))) (.ks .nil))))⟩
  refine Goes.skip ?_
  obtain rfl:=si g54
  exact⟨rfl,_,rfl,(Sub.norm [] [some 1,some 3,some 4] rfl rfl (.kp (.drop (.kp .nil))) (.kb rfl (.same sn) (.kb rfl (.cells (rc (.same nI) (rc (.same (qZ qb _)) (rc (.oslice rfl) rn)))) (.ks .nil))))⟩
 rintro x s' ⟨rfl,z,rfl,hsub⟩
 refine Goes.sub hsub ?_
 obtain⟨F,b0,h⟩:=bnd h
 obtain⟨u59,b1,h⟩:=bnd h
 refine sq (gq fol [2] kAU (kF (kAQ e.Day p z (kI F []))) (ac (hs (.callH 126 [.oslice 2 z.length 4,.func (.func 127) [] []] (kF (kAQ e.Day p z (kI z []))) [2] (.tuple []) (kF (kAQ e.Day p z (kI F [])))) (qcV [some 2] [none,none,some 0] (qg8 z b0) (.ks .nil) rfl rfl (.old rfl rfl (.old rfl rfl (.back rfl rfl (.same fa) rfl .nil))) (rc (.oslice rfl) (rc (.same (qB.func sn sn)) rn)) (.same (qB.tuple sn)) rfl)) az) ?_)
 refine Goes.sub (show Sub (ofG 75 kAU,(kF (kAQ e.Day p z (kI F [])))) (ofG 75 kAU,(kF (kAQ e.Day p F (kI F []))))from(Sub.norm [] [some 0,some 1,some 2] rfl rfl (.kp (.kp .nil)) (.kb rfl (.same sn) (.kb rfl (.cells (rc (.same nI) (rc (.same (qZ qb _)) (rc (.osliceE rfl (qji b1)) rn)))) (.ks .nil))))) ?_
 refine sg fol kAz (kAQ e.Day p F (kAQ e.Day p F (kI F []))) ?_
 refine Goes.ret ?_
 obtain rfl:=si h
 exact(gw2 [.agg [.i e.Day,vl qb p,.oslice 2 F.length 4]] (FzW.agg (qp.cons (Ub tI) (qp.cons (Ub (qg qb _ (nl rfl))) (qp.cons (FzW.fz (Fz.os (E:=qa) rfl rfl (nl rfl))) qp.nil)))))
end Go.Av
