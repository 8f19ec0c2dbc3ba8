/-
  Walks of functions: what each computes, as a plain function.
-/
import Derived.Test.YtkdbjocpkfeckaaGreatDoorQGenSu1
open Go.IntKind(wrap)
noncomputable section
namespace Go.Av
open Go.Proofs Go.RowKit
set_option linter.unusedSectionVars false
set_option linter.unusedVariables false
set_option linter.unusedSimpArgs false
set_option maxRecDepth 100000
def qbv (N:Nat):Nat->Int->(List Int)->Str->Option (Int×(List Int))
 |0,_,_,_=>none
 |K+1,j,k,a=>
  if(a.length:Int)>0 then
  (cut a 0 (if(a.length:Int)<18 then(a.length:Int)else 18)).bind fun c=>
  (qoZ c).bind fun d=>
  (qdo 10).bind fun e=>
  (qdT N e (if(a.length:Int)<18 then(a.length:Int)else 18)).bind fun f=>
  (zy (⟨j,k⟩:qC) f).bind fun g=>
  (qdo d.1).bind fun h=>
  (yN g h).bind fun b=>
  (cut a (if(a.length:Int)<18 then(a.length:Int)else 18) (a.length:Int)).bind fun i=>
  qbv N K b.s b.w i
  else
  some (j,k)
def qb5 (N:Nat) (b:Str):Option qC:=
 (strings_HasPrefix b [45]).bind fun e=>
 (strings_TrimPrefix b [45]).bind fun f=>
 (qbv N N 0 [] f).bind fun(c,d)=>
 if e=true then
 (zX (⟨c,d⟩:qC)).bind fun a=>
 some a
 else
 some (⟨c,d⟩:qC)
theorem qbq (N:Nat) (g:Str) {res:qC} (h:qb5 N g=some res):qf ZT (.fn 142) [.str g] [] (.agg (nz1 res)) []:=by
 unfold qb5 at h;refine Ub Tryz.func142 rfl rfl (m:=41) rfl (rs:=[.cell 2 115]) rfl (l:=(kAw g)) rfl ?_;refine sg fol ((0,.str g)::(kW [])) [bZ] ?_;obtain⟨d,y,h⟩:=bnd h;refine sq (gr fol [1] (kQ g d []) (ac (cv (qdQ g [45] y)) az) ?_);obtain⟨J,z,h⟩:=bnd h;refine sq (gr fol [1] (kQ J d []) (ac (cv (qdD g [45] z)) az) ?_);refine sg fol (kQ J d kA0) [bZ,bZ] ?_;refine sq (Goes.block ?_);obtain⟨K,g8,h⟩:=bnd h;refine Goes.imp (Q:=fun x s'=>(x= .exit 0/\ ∃b c,(b,c)=K/\Sub s' (ofG 41 (kW ((3,.bool d)::kA0)),[bZ,.cells (ni1 b c)]))) ?_ ?_
 ·refine Uc (fun M s=> ∃(A:Int) (B:List Int) (a:Str),s=(ofG 41 (kQ a d kA0),[bZ,.cells (ni1 A B)])/\qbv N M A B a=some K) ?_ (m:=N) ⟨_,_,_,rfl,g8⟩;rintro M s ⟨A,B,a,rfl,g8⟩
  cases M with
  |zero=>simp only[qbv]at g8;cases g8
  |succ M=>
   rw[qbv]at g8;refine sq ?_;refine sh fol (kQ a d [(4,.ptr 1 0),(15,.bool (decide ((a.length:Int)>0)))]) ?_;refine ihD g8 (fun L g8=>?_) (fun L g8=>?_)
   ·refine Goes.skip ?_;refine Goes.block ?_;refine sh fol (kQ a d ((4,.ptr 1 0)::(kAr (if(a.length:Int)<18 then(a.length:Int)else 18)))) ?_;obtain⟨C,j,g8⟩:=bnd g8;obtain⟨D,k,g8⟩:=bnd g8;refine sq (gr fol [2,3] (kQ a d [(4,.ptr 1 0),(5,.i (if(a.length:Int)<18 then(a.length:Int)else 18)),(6,.i D.1)]) (ac (hs (.done (.opt (qM ZT 9 (.str a) none (some (.i (if(a.length:Int)<18 then(a.length:Int)else 18))) none)) (.str C)) (jI st9 none (some (if(a.length:Int)<18 then(a.length:Int)else 18)) j)) (ac (cv (qpc C k)) az)) ?_);obtain⟨E,o,g8⟩:=bnd g8;obtain⟨F,p,g8⟩:=bnd g8;obtain⟨G,q,g8⟩:=bnd g8;obtain⟨H,r,g8⟩:=bnd g8;obtain⟨e,t,g8⟩:=bnd g8;refine sq (gq fol [1,3,4,6,7,8] (kQ a d ((4,.ptr 1 0)::(kAr (if(a.length:Int)<18 then(a.length:Int)else 18)))) [bZ,.cells (nz1 e)] (ac (cv (qbT 10 o)) (ac (cv (qgS N E (if(a.length:Int)<18 then(a.length:Int)else 18) p)) (ac (cv (jX (⟨A,B⟩:qC) F q)) (ac (cv (qbT D.1 r)) (ac (cv (qcb G H t)) (ac (hs (.run [1] (qA ZT 115 (.ptr 1 0) (.agg (nz1 e))) [bZ,.cells (ni1 A B)] .undef [bZ,.cells (nz1 e)] true) (zD (n:=2) (by kernel_rfl) rfl rfl rfl rfl (cac rfl (cac nvc can)) rfl)) az)))))) ?_);obtain⟨u,v,g8⟩:=bnd g8;refine gr fol [2] (kQ u d kA0) (ac (hs (.done (.opt (qM ZT 9 (.str a) (some (.i (if(a.length:Int)<18 then(a.length:Int)else 18))) none none)) (.str u)) (jI st9 (some (if(a.length:Int)<18 then(a.length:Int)else 18)) none v)) az) ?_;exact⟨M,(ofG 41 (kQ u d kA0),[bZ,.cells (nz1 e)]),Nat.lt_succ_self _,(Sub.refl _),_,_,_,rfl,g8⟩
   refine Goes.exit ?_;obtain rfl:=si g8;exact⟨rfl,_,_,rfl,(Sub.keep [2,3,4] rfl rfl)⟩
 rintro x s' ⟨rfl,b,c,rfl,hsub⟩
 try dsimp only at h
 refine Goes.sub hsub ?_;refine sq ?_;refine sh fol (kW [(4,.ptr 1 0),(37,.bool d)]) ?_;refine ihB h (fun I h=>?_) (fun I h=>?_)
 ·obtain⟨f,w,h⟩:=bnd h;refine sq (gq fol [1,2] (kW []) [.cells (nz1 f),.cells (ni1 b c)] (ac (cv (vN (⟨b,c⟩:qC) w)) (ac (hs (.run [0] (qA ZT 115 (.ptr 0 0) (.agg (nz1 f))) [bZ,.cells (ni1 b c)] .undef [.cells (nz1 f),.cells (ni1 b c)] true) (zD (n:=2) (by kernel_rfl) rfl rfl rfl rfl (cac rfl (cac nvc can)) rfl)) az)) ?_);refine Goes.ret ?_;obtain rfl:=si h;exact(gw2 [.agg (nz1 f)] (FzW.agg (qh.cons (Ua tI) (qh.cons (Ua (qx ZU _ (nl rfl))) qh.nil))))
 refine Goes.skip ?_;refine sq (gq fol [1] (kW []) [.cells (ni1 b c),.cells (ni1 b c)] (ac (hs (.run [0] (qA ZT 115 (.ptr 0 0) (.agg (ni1 b c))) [bZ,.cells (ni1 b c)] .undef [.cells (ni1 b c),.cells (ni1 b c)] true) (zD (n:=2) (by kernel_rfl) rfl rfl rfl rfl (cac rfl (cac nvc can)) rfl)) az) ?_);refine Goes.ret ?_;obtain rfl:=si h;exact(gw2 [.agg (ni1 b c)] (FzW.agg (qh.cons (Ua tI) (qh.cons (Ua (qx ZU _ (nl rfl))) qh.nil))))
def qed (a:qC) (b:qC):Option Int:=
 (if a.w.isEmpty=true then
 some b.w.isEmpty
 else
 some false:Option Bool).bind fun c=>
 if c=true then
 if a.s<b.s then
 some (-1)
 else
 if a.s>b.s then
 some 1
 else
 some 0
 else
 none
theorem qhF (a:qC) (b:qC) {res:Int} (h:qed a b=some res):qf ZT (.fn 143) [.agg (nz1 a),.agg (nz1 b)] [] (.i res) []:=by
 unfold qed at h;refine Ub Tryz.func143 rfl rfl (m:=29) rfl (rs:=[.tmp 4]) rfl (l:=[(0,.agg (nz1 a)),(1,.agg (nz1 b))]) rfl ?_;refine sg fol (kW (kAv [])) [.cells (nz1 a),.cells (nz1 b)] ?_;refine sq ?_;refine sq ?_;obtain⟨e,c,h⟩:=bnd h;refine Goes.cut (s':=(ofG 29 (kW (kAv (kBD e))),[.cells (nz1 a),.cells (nz1 b)])) ?_ ?_
 ·rcases wyB c with⟨d,c⟩|⟨d,c⟩
  ·obtain rfl:=si c;exact tr fol [2,3,6] (kW (kAv (kBD b.w.isEmpty))) (ac (hs (.done (.opt (jB ZT .eql 113 (.tmp 6) (.const (.slice none 0 0)) (nvl ZU a.w) .nilslice)) (.bool a.w.isEmpty)) (qag vX)) (ac (gw d) (ac (hs (.done (.opt (jB ZT .eql 113 (.tmp 10) (.const (.slice none 0 0)) (nvl ZU b.w) .nilslice)) (.bool b.w.isEmpty)) (qag vX)) az)))
  obtain rfl:=si c;exact tr fol [2,3] (kW (kAv [(12,.bool false)])) (ac (hs (.done (.opt (jB ZT .eql 113 (.tmp 6) (.const (.slice none 0 0)) (nvl ZU a.w) .nilslice)) (.bool a.w.isEmpty)) (qag vX)) (ac (gw d) az))
 refine ihB h (fun f h=>?_) (fun f h=>?_)
 ·refine sq (Goes.block ?_);refine sh fol (kW (kAv (kA2 (decide (a.s<b.s))))) ?_;refine ihD h (fun g h=>?_) (fun g h=>?_)
  ·refine sh fol [(4,.i (-1))] ?_;refine Goes.ret ?_;obtain rfl:=si h;exact(gw2 [.i (-1)] (Ua tI))
  refine sh fol [(19,.bool (decide (a.s>b.s)))] ?_;refine ihD h (fun j h=>?_) (fun j h=>?_)
  ·refine sh fol [(4,.i 1)] ?_;refine Goes.ret ?_;obtain rfl:=si h;exact(gw2 [.i 1] (Ua tI))
  refine Goes.skip ?_;refine sh fol [(4,.i 0)] ?_;refine Goes.ret ?_;obtain rfl:=si h;exact(gw2 [.i 0] (Ua tI))
 refine Goes.skip ?_;refine sq ?_;cases h
def qbK (N:Nat) (a:Str):Option Int:=
 (strings_CutPrefix a [45]).bind fun r=>
 (strings_Cut r.1 [47]).bind fun b=>
 ((xZ b.1).bind fun t=>
 if t=true then
 if(!r.2)=true then
 some true
 else
 some (!(b.1==[48]))
 else
 some false:Option Bool).bind fun s=>
 ((if b.2.2=true then
 (if s=true then
 (xZ b.2.1).bind fun g=>
 if g=true then
 if(!(b.2.1==[48]))=true then
 some (!(b.2.1==[49]))
 else
 some false
 else
 some false
 else
 some false:Option Bool).bind fun h=>
 some h
 else
 some s:Option Bool)).bind fun u=>
 ((qay (!u) 1).bind fun c=>
 if(b.1.length:Int)>600 then
 (qay true 4).bind fun d=>
 (qbG N ([c,d]:List Int)).bind fun i=>
 some (c,d,i)
 else
 (qay (decide ((b.2.1.length:Int)>600)) 4).bind fun e=>
 (qbG N ([c,e]:List Int)).bind fun j=>
 some (c,e,j):Option (Int×Int×Int)).bind fun(v,w,f)=>
 if(!decide (f=0))=true then
 some f
 else
 (if b.2.2=true then
 (qb5 N b.1).bind fun k=>
 (qb5 N b.2.1).bind fun l=>
 (qej N k l).bind fun m=>
 (qdo 1).bind fun n=>
 (qed m n).bind fun o=>
 some (!decide (o=0))
 else
 some false:Option Bool).bind fun p=>
 (qay p 1).bind fun q=>
 some q
theorem qf6 (N:Nat) (a:Str) {res:Int} (h:qbK N a=some res):qf ZT (.fn 74) [.str a] [] (.i res) []:=by
 unfold qbK at h;refine Ub Tryz.func74 rfl rfl (m:=76) rfl (rs:=[.tmp 2]) rfl (l:=(kAw a)) rfl ?_;refine sh fol (kAw a) ?_;obtain⟨V,H,h⟩:=bnd h;refine sq (gr fol [1] ((3,.str V.1)::(kAk V.2)) (ac (cv (qdS a [45] H)) az) ?_);obtain⟨e,I,h⟩:=bnd h;refine sq (gr fol [1] ((4,.bool V.2)::(kAB e.1 e.2.1 e.2.2 [])) (ac (cv (qdP V.1 [47] I)) az) ?_);refine sq ?_;obtain⟨b6,f,h⟩:=bnd h;refine Goes.cut (s':=(ofG 76 (kAB e.1 e.2.1 e.2.2 (kA5 b6)),[])) ?_ ?_
 ·obtain⟨r3,k,f⟩:=bnd f;rcases wyB f with⟨X,f⟩|⟨X,f⟩
  ·rcases wyB f with⟨Y,f⟩|⟨Y,f⟩
   ·obtain rfl:=si f;exact tr fol [1,2,5] (kAB e.1 e.2.1 e.2.2 [(8,.bool true)]) (ac (cv (jk e.1 k)) (ac (gw X) (ac (gw Y) az)))
   obtain rfl:=si f;exact tr fol [1,2,5] (kAB e.1 e.2.1 e.2.2 (kA5 (!(e.1==[48])))) (ac (cv (jk e.1 k)) (ac (gw X) (ac (gw Y) az)))
  obtain rfl:=si f;exact tr fol [1,2] (kAB e.1 e.2.1 e.2.2 [(8,.bool false)]) (ac (cv (jk e.1 k)) (ac (gw X) az))
 refine sq ?_;refine sh fol (kAB e.1 e.2.1 e.2.2 [(8,.bool b6),(32,.bool e.2.2)]) ?_;obtain⟨r9,g9,h⟩:=bnd h;refine Goes.imp (Q:=fun x s'=>(x= .normal/\ ∃J,J=r9/\Sub s' (ofG 76 (kAB e.1 e.2.1 e.2.2 (kA5 J)),[]))) ?_ ?_
 ·refine ihB g9 (fun Z g9=>?_) (fun Z g9=>?_)
  ·obtain⟨a0,c,g9⟩:=bnd g9;refine Goes.cut (s':=(ofG 76 (kAB e.1 e.2.1 e.2.2 (kA5 a0)),[])) ?_ ?_
   ·rcases wyB c with⟨n,c⟩|⟨n,c⟩
    ·obtain⟨r12,j,c⟩:=bnd c;rcases wyB c with⟨q,c⟩|⟨q,c⟩
     ·rcases wyB c with⟨t,c⟩|⟨t,c⟩
      ·obtain rfl:=si c;exact tr fol [1,3,5,9] (kAB e.1 e.2.1 e.2.2 (kA5 (!(e.2.1==[49])))) (ac (gw n) (ac (cv (jk e.2.1 j)) (ac (gw q) (ac (gw t) az))))
      obtain rfl:=si c;exact tr fol [1,3,5,9] (kAB e.1 e.2.1 e.2.2 [(8,.bool false)]) (ac (gw n) (ac (cv (jk e.2.1 j)) (ac (gw q) (ac (gw t) az))))
     obtain rfl:=si c;exact tr fol [1,3,5] (kAB e.1 e.2.1 e.2.2 [(8,.bool false)]) (ac (gw n) (ac (cv (jk e.2.1 j)) (ac (gw q) az)))
    obtain rfl:=si c;exact tr fol [1] (kAB e.1 e.2.1 e.2.2 [(8,.bool false)]) (ac (gw n) az)
   obtain rfl:=si g9;exact⟨rfl,_,rfl,(Sub.refl _)⟩
  refine Goes.skip ?_;obtain rfl:=si g9;exact⟨rfl,_,rfl,(Sub.keep [5,6,7,8] rfl rfl)⟩
 rintro x s' ⟨rfl,J,rfl,hsub⟩;refine Goes.sub hsub ?_;refine sq ?_;refine sq ?_;obtain⟨⟨K,L,o⟩,b,h⟩:=bnd h;refine Goes.cut (s':=(ofG 76 (kAB e.1 e.2.1 e.2.2 [(9,.i o)]),(kAA K L []))) ?_ ?_
 ·obtain⟨g,p,b⟩:=bnd b;rcases wyD b with⟨u,b⟩|⟨u,b⟩
  ·obtain⟨r,v,b⟩:=bnd b;obtain⟨M,w,b⟩:=bnd b;simp only[ZI,ZP]at b;obtain⟨rfl,rfl,rfl⟩:=b;exact yK.rq fol [2,6,11,13] (kAB e.1 e.2.1 e.2.2 [(9,.i M)]) (kAA g r []) (ac (cv (xO (!J) 1 p)) (ac (gw u) (ac (cv (xO true 4 v)) (ac (hs (.call 139 [.slice 0 0 2 2 1] (kAA g r []) [0] [vl encI ([g,r]:List Int)] (.i M)) (qeE (FzL.cons (Fz.lit rfl rfl (Up (AllST.cons tI (AllST.cons tI AllST.nil)))) FzL.nil) (qdw N ([g,r]:List Int) w) tI rfl)) az))))
  obtain⟨s,y,b⟩:=bnd b;obtain⟨O,z,b⟩:=bnd b;simp only[ZI,ZP]at b;obtain⟨rfl,rfl,rfl⟩:=b;exact yK.rq fol [2,6,11,13] (kAB e.1 e.2.1 e.2.2 [(9,.i O)]) (kAA g s []) (ac (cv (xO (!J) 1 p)) (ac (gw u) (ac (cv (xO (decide ((e.2.1.length:Int)>600)) 4 y)) (ac (hs (.call 139 [.slice 0 0 2 2 1] (kAA g s []) [0] [vl encI ([g,s]:List Int)] (.i O)) (qeE (FzL.cons (Fz.lit rfl rfl (Up (AllST.cons tI (AllST.cons tI AllST.nil)))) FzL.nil) (qdw N ([g,s]:List Int) z) tI rfl)) az))))
 try dsimp only at h
 refine sh fol (kAB e.1 e.2.1 e.2.2 [(9,.i o),(61,.bool (!decide (o=0)))]) ?_;refine ihB h (fun a1 h=>?_) (fun a1 h=>?_)
 ·refine sh fol (kAx o) ?_;refine Goes.ret ?_;obtain rfl:=si h;exact(gw2 [.i o] (Ua tI))
 refine Goes.skip ?_;refine sq ?_;obtain⟨P,d,h⟩:=bnd h;refine Goes.cut (s':=(ofG 76 (kA1 P),(kAA K L []))) ?_ ?_
 ·rcases wyB d with⟨A,d⟩|⟨A,d⟩
  ·obtain⟨a2,B,d⟩:=bnd d;obtain⟨a3,C,d⟩:=bnd d;obtain⟨a4,D,d⟩:=bnd d;obtain⟨a5,E,d⟩:=bnd d;obtain⟨a6,F,d⟩:=bnd d;obtain rfl:=si d;exact tr fol [1,3,5,6,7,8] (kA1 (!decide (a6=0))) (ac (gw A) (ac (cv (qbq N e.1 B)) (ac (cv (qbq N e.2.1 C)) (ac (cv (qgI N a2 a3 D)) (ac (cv (qbT 1 E)) (ac (cv (qhF a4 a5 F)) az))))))
  obtain rfl:=si d;exact tr fol [1] [(10,.bool false)] (ac (gw A) az)
 obtain⟨U,G,h⟩:=bnd h;refine sq (gr fol [1] (kAx U) (ac (cv (xO P 1 G)) az) ?_);refine Goes.ret ?_;obtain rfl:=si h;exact(gw2 [.i U] (Ua tI))
def qa5 (n:qC):Option qm:=
 (qdo 1).bind fun a=>
 some (⟨n,a⟩:qm)
theorem qc0 (n:qC) {res:qm} (h:qa5 n=some res):qf ZT (.fn 149) [.agg (nz1 n)] [] (.agg (nq1 res)) []:=by
 unfold qa5 at h;refine Ub Tryz.func149 rfl rfl (m:=6) rfl (rs:=[.cell 2 117]) rfl (l:=[(0,.agg (nz1 n))]) rfl ?_;refine sg fol (kAT []) (.cells (nz1 n)::(kF [])) ?_;obtain⟨a,b,h⟩:=bnd h;refine sq (gq fol [1,3] [(2,.ptr 1 0)] [.cells (nz1 n),.cells (ni2 n.s n.w a.s a.w)] (ac (cv (qbT 1 b)) (ac (hs (.run [1] (qA ZT 117 (.ptr 1 0) (.agg (ni2 n.s n.w a.s a.w))) (.cells (nz1 n)::(kF [])) .undef [.cells (nz1 n),.cells (ni2 n.s n.w a.s a.w)] true) (zD (n:=4) (by kernel_rfl) rfl rfl rfl rfl (cac rfl (cac nvc (cac rfl (cac nvc can)))) rfl)) az)) ?_);refine Goes.ret ?_;obtain rfl:=si h;exact(gw2 [.agg (ni2 n.s n.w a.s a.w)] (FzW.agg (qh.cons (Ua tI) (qh.cons (Ua (qx ZU _ (nl rfl))) (qh.cons (Ua tI) (qh.cons (Ua (qx ZU _ (nl rfl))) qh.nil))))))
def qg5 (n:Int):Option qm:=
 (qdo n).bind fun a=>
 (qa5 a).bind fun b=>
 some b
theorem qeY (n:Int) {res:qm} (h:qg5 n=some res):qf ZT (.fn 126) [.i n] [] (.agg (nq1 res)) []:=by
 unfold qg5 at h;refine Ub Tryz.func126 rfl rfl (m:=6) rfl (rs:=[.cell 2 117]) rfl (l:=[(0,.i n)]) rfl ?_;refine sg fol ((0,.i n)::(kW [])) (kF []) ?_;obtain⟨d,a,h⟩:=bnd h;obtain⟨c,b,h⟩:=bnd h;refine sq (gq fol [1,2,3] (kW []) [.cells (nq1 c)] (ac (cv (qbT n a)) (ac (cv (qc0 d b)) (ac (hs (.run [0] (qA ZT 117 (.ptr 0 0) (.agg (nq1 c))) (kF []) .undef [.cells (nq1 c)] true) (zD (n:=4) (by kernel_rfl) rfl rfl rfl rfl (cac rfl (cac nvc (cac rfl (cac nvc can)))) rfl)) az))) ?_);refine Goes.ret ?_;obtain rfl:=si h;exact(gw2 [.agg (nq1 c)] (FzW.agg (qh.cons (Ua tI) (qh.cons (Ua (qx ZU _ (nl rfl))) (qh.cons (Ua tI) (qh.cons (Ua (qx ZU _ (nl rfl))) qh.nil))))))
def bits_Mul (b:Int) (y:Int):Option (Int×Int):=
 (bits_Mul64 b y).bind fun a=>
 some (a.1,a.2)
theorem qf1 (d:Int) (y:Int) {res:Int×Int} (h:bits_Mul d y=some res):qf ZT (.fn 162) [.int .u64 d,.int .u64 y] [] (.tuple [.int .u64 res.1,.int .u64 res.2]) []:=by
 unfold bits_Mul at h;refine Ub Tryz.func162 rfl rfl (m:=30) rfl (rs:=[.tmp 4,.tmp 5]) rfl (l:=(kAJ d y [])) rfl ?_;refine sh fol (kAJ d y []) ?_;refine sq ?_;refine Goes.ifB (b:=false) (by kernel_rfl) (fun c=>(by cases c)) (fun _=>?_);refine Goes.skip ?_;obtain⟨a,e,h⟩:=bnd h;refine sq (gr fol [2] [(8,.int .u64 a.1),(9,.int .u64 a.2)] (ac (cv (qeA d y e)) az) ?_);refine sh fol [(4,.int .u64 a.1),(5,.int .u64 a.2)] ?_;refine Goes.ret ?_;obtain rfl:=si h;exact(gw2 [.int .u64 a.1,.int .u64 a.2] (FzW.tuple (qh.cons (Ua tI) (qh.cons (Ua tI) qh.nil))))
def qaz (a:qC) (b:qC):Option qC:=
 (vC b).bind fun f=>
 ((if f<0 then
 (zX a).bind fun d=>
 (zX b).bind fun e=>
 some (d.s,d.w,e.s,e.w)
 else
 some (a.s,a.w,b.s,b.w):Option (Int×(List Int)×Int×(List Int)))).bind fun(g,h,i,j)=>
 (yI (⟨g,h⟩:qC) (⟨i,j⟩:qC)).bind fun c=>
 some c.1
theorem qdR (a:qC) (b:qC) {res:qC} (h:qaz a b=some res):qf ZT (.fn 261) [.agg (nz1 a),.agg (nz1 b)] [] (.agg (nz1 res)) []:=by
 unfold qaz at h;refine Ub Tryz.func261 rfl rfl (m:=21) rfl (rs:=[.cell 4 115]) rfl (l:=[(0,.agg (nz1 a)),(1,.agg (nz1 b))]) rfl ?_;refine sg fol (kD []) [.cells (nz1 a),.cells (nz1 b),bZ] ?_;refine sq ?_;obtain⟨r,j,h⟩:=bnd h;refine sq (gr fol [1] (kD [(9,.bool (decide (r<0)))]) (ac (cv (qbA b j)) az) ?_);obtain⟨s,g6,h⟩:=bnd h;refine Goes.imp (Q:=fun x s'=>(x= .normal/\ ∃d e f g,(d,e,f,g)=s/\Sub s' (ofG 21 (kD []),[.cells (ni1 d e),.cells (ni1 f g),bZ]))) ?_ ?_
 ·refine ihD g6 (fun t g6=>?_) (fun t g6=>?_)
  ·obtain⟨k,o,g6⟩:=bnd g6;obtain⟨q,p,g6⟩:=bnd g6;refine gq fol [1,3,4,5] (kD []) [.cells (nz1 k),.cells (nz1 q),bZ] (ac (cv (vN a o)) (ac (cv (vN b p)) (ac (hs (.run [0] (qA ZT 115 (.ptr 0 0) (.agg (nz1 k))) [.cells (nz1 a),.cells (nz1 b),bZ] .undef [.cells (nz1 k),.cells (nz1 b),bZ] true) (zD (n:=2) (by kernel_rfl) rfl rfl rfl rfl (cac rfl (cac nvc can)) rfl)) (ac (hs (.run [1] (qA ZT 115 (.ptr 1 0) (.agg (nz1 q))) [.cells (nz1 k),.cells (nz1 b),bZ] .undef [.cells (nz1 k),.cells (nz1 q),bZ] true) (zD (n:=2) (by kernel_rfl) rfl rfl rfl rfl (cac rfl (cac nvc can)) rfl)) az)))) ?_;obtain rfl:=si g6;exact⟨rfl,_,_,_,_,rfl,(Sub.refl _)⟩
  refine Goes.skip ?_;obtain rfl:=si g6;exact⟨rfl,_,_,_,_,rfl,(Sub.keep [2,3,4] rfl rfl)⟩
 rintro x s' ⟨rfl,d,e,f,g,rfl,hsub⟩
 try dsimp only at h
 refine Goes.sub hsub ?_;obtain⟨c,i,h⟩:=bnd h;refine sq (gq fol [2,8,9] [(4,.ptr 2 0),(5,.ptr 3 0)] [.cells (ni1 d e),.cells (ni1 f g),bZ,.cells (nz1 c.1),.cells (nz1 c.2)] (ac (cv (qco (⟨d,e⟩:qC) (⟨f,g⟩:qC) i)) (ac (hs (.run [3] (qA ZT 115 (.ptr 3 0) (.agg (nz1 c.1))) [.cells (ni1 d e),.cells (ni1 f g),bZ,bZ,bZ] .undef [.cells (ni1 d e),.cells (ni1 f g),bZ,.cells (nz1 c.1),bZ] true) (zD (n:=2) (by kernel_rfl) rfl rfl rfl rfl (cac rfl (cac nvc can)) rfl)) (ac (hs (.run [4] (qA ZT 115 (.ptr 4 0) (.agg (nz1 c.2))) [.cells (ni1 d e),.cells (ni1 f g),bZ,.cells (nz1 c.1),bZ] .undef [.cells (ni1 d e),.cells (ni1 f g),bZ,.cells (nz1 c.1),.cells (nz1 c.2)] true) (zD (n:=2) (by kernel_rfl) rfl rfl rfl rfl (cac rfl (cac nvc can)) rfl)) az))) ?_);refine sq (gq fol [1] kAz [.cells (ni1 d e),.cells (ni1 f g),.cells (nz1 c.1),.cells (nz1 c.1),.cells (nz1 c.2)] (ac (hs (.run [2] (qA ZT 115 (.ptr 2 0) (.agg (nz1 c.1))) [.cells (ni1 d e),.cells (ni1 f g),bZ,.cells (nz1 c.1),.cells (nz1 c.2)] .undef [.cells (ni1 d e),.cells (ni1 f g),.cells (nz1 c.1),.cells (nz1 c.1),.cells (nz1 c.2)] true) (zD (n:=2) (by kernel_rfl) rfl rfl rfl rfl (cac rfl (cac nvc can)) rfl)) az) ?_);refine Goes.ret ?_;obtain rfl:=si h;exact(gw2 [.agg (nz1 c.1)] (FzW.agg (qh.cons (Ua tI) (qh.cons (Ua (qx ZU _ (nl rfl))) qh.nil))))
def qbs (N:Nat) (num:qC) (den:qC):Option qm:=
 (vC den).bind fun k=>
 ((if k<0 then
 (zX num).bind fun i=>
 (zX den).bind fun j=>
 some (i.s,i.w,j.s,j.w)
 else
 some (num.s,num.w,den.s,den.w):Option (Int×(List Int)×Int×(List Int)))).bind fun(d,e,b,c)=>
 (if c.isEmpty=true then
 some (decide (b=1))
 else
 some false:Option Bool).bind fun f=>
 if f=true then
 some (⟨(⟨d,e⟩:qC),(⟨b,c⟩:qC)⟩:qm)
 else
 (qej N (⟨d,e⟩:qC) (⟨b,c⟩:qC)).bind fun a=>
 (qaz (⟨d,e⟩:qC) a).bind fun g=>
 (qaz (⟨b,c⟩:qC) a).bind fun h=>
 some (⟨g,h⟩:qm)
theorem qd1 (N:Nat) (num:qC) (den:qC) {res:qm} (h:qbs N num den=some res):qf ZT (.fn 200) [.agg (nz1 num),.agg (nz1 den)] [] (.agg (nq1 res)) []:=by
 unfold qbs at h;refine Ub Tryz.func200 rfl rfl (m:=34) rfl (rs:=[.cell 4 117]) rfl (l:=[(0,.agg (nz1 num)),(1,.agg (nz1 den))]) rfl ?_;refine sg fol (kD []) (.cells (nz1 num):: .cells (nz1 den)::(kF [])) ?_;refine sq ?_;obtain⟨A,q,h⟩:=bnd h;refine sq (gr fol [1] (kD (kA5 (decide (A<0)))) (ac (cv (qbA den q)) az) ?_);obtain⟨B,g6,h⟩:=bnd h;refine Goes.imp (Q:=fun x s'=>(x= .normal/\ ∃d e c a,(d,e,c,a)=B/\Sub s' (ofG 34 (kD []),(.cells (ni1 d e):: .cells (ni1 c a)::(kF []))))) ?_ ?_
 ·refine ihD g6 (fun C g6=>?_) (fun C g6=>?_)
  ·obtain⟨r,t,g6⟩:=bnd g6;obtain⟨v,u,g6⟩:=bnd g6;refine gq fol [1,3,4,5] (kD []) (.cells (nz1 r):: .cells (nz1 v)::(kF [])) (ac (cv (vN num t)) (ac (cv (vN den u)) (ac (hs (.run [0] (qA ZT 115 (.ptr 0 0) (.agg (nz1 r))) (.cells (nz1 num):: .cells (nz1 den)::(kF [])) .undef (.cells (nz1 r):: .cells (nz1 den)::(kF [])) true) (zD (n:=2) (by kernel_rfl) rfl rfl rfl rfl (cac rfl (cac nvc can)) rfl)) (ac (hs (.run [1] (qA ZT 115 (.ptr 1 0) (.agg (nz1 v))) (.cells (nz1 r):: .cells (nz1 den)::(kF [])) .undef (.cells (nz1 r):: .cells (nz1 v)::(kF [])) true) (zD (n:=2) (by kernel_rfl) rfl rfl rfl rfl (cac rfl (cac nvc can)) rfl)) az)))) ?_;obtain rfl:=si g6;exact⟨rfl,_,_,_,_,rfl,(Sub.refl _)⟩
  refine Goes.skip ?_;obtain rfl:=si g6;exact⟨rfl,_,_,_,_,rfl,(Sub.keep [2,3,4] rfl rfl)⟩
 rintro x s' ⟨rfl,d,e,c,a,rfl,hsub⟩
 try dsimp only at h
 refine Goes.sub hsub ?_;refine sq ?_;refine sq ?_;obtain⟨y,b,h⟩:=bnd h;refine Goes.cut (s':=(ofG 34 (kD [(20,.bool y)]),(.cells (ni1 d e):: .cells (ni1 c a)::(kF [])))) ?_ ?_
 ·rcases wyB b with⟨j,b⟩|⟨j,b⟩
  ·obtain rfl:=si b;exact tr fol [2,3] (kD [(20,.bool (decide (c=1)))]) (ac (hs (.done (.opt (jB ZT .eql 113 (.tmp 14) (.const (.slice none 0 0)) (nvl ZU a) .nilslice)) (.bool a.isEmpty)) (qag vX)) (ac (gw j) az))
  obtain rfl:=si b;exact tr fol [2,3] (kD [(20,.bool false)]) (ac (hs (.done (.opt (jB ZT .eql 113 (.tmp 14) (.const (.slice none 0 0)) (nvl ZU a) .nilslice)) (.bool a.isEmpty)) (qag vX)) (ac (gw j) az))
 refine ihB h (fun z h=>?_) (fun z h=>?_)
 ·refine sq (gq fol [3] kAz [.cells (ni1 d e),.cells (ni1 c a),.cells (ni2 d e c a)] (ac (hs (.run [2] (qA ZT 117 (.ptr 2 0) (.agg (ni2 d e c a))) (.cells (ni1 d e):: .cells (ni1 c a)::(kF [])) .undef [.cells (ni1 d e),.cells (ni1 c a),.cells (ni2 d e c a)] true) (zD (n:=4) (by kernel_rfl) rfl rfl rfl rfl (cac rfl (cac nvc (cac rfl (cac nvc can)))) rfl)) az) ?_);refine Goes.ret ?_;obtain rfl:=si h;exact(gw2 [.agg (ni2 d e c a)] (FzW.agg (qh.cons (Ua tI) (qh.cons (Ua (qx ZU _ (nl rfl))) (qh.cons (Ua tI) (qh.cons (Ua (qx ZU _ (nl rfl))) qh.nil))))))
 refine Goes.skip ?_;obtain⟨f,k,h⟩:=bnd h;refine sq (gq fol [2,4] (kD [(5,.ptr 3 0)]) (.cells (ni1 d e):: .cells (ni1 c a)::(kF [.cells (nz1 f)])) (ac (cv (qgI N (⟨d,e⟩:qC) (⟨c,a⟩:qC) k)) (ac (hs (.run [3] (qA ZT 115 (.ptr 3 0) (.agg (nz1 f))) (.cells (ni1 d e):: .cells (ni1 c a)::(kF [bZ])) .undef (.cells (ni1 d e):: .cells (ni1 c a)::(kF [.cells (nz1 f)])) true) (zD (n:=2) (by kernel_rfl) rfl rfl rfl rfl (cac rfl (cac nvc can)) rfl)) az)) ?_);obtain⟨g,o,h⟩:=bnd h;obtain⟨i,p,h⟩:=bnd h;refine sq (gq fol [2,5,7] kAz [.cells (ni1 d e),.cells (ni1 c a),.cells (ni2 g.s g.w i.s i.w),.cells (nz1 f)] (ac (cv (qdR (⟨d,e⟩:qC) f o)) (ac (cv (qdR (⟨c,a⟩:qC) f p)) (ac (hs (.run [2] (qA ZT 117 (.ptr 2 0) (.agg (ni2 g.s g.w i.s i.w))) (.cells (ni1 d e):: .cells (ni1 c a)::(kF [.cells (nz1 f)])) .undef [.cells (ni1 d e),.cells (ni1 c a),.cells (ni2 g.s g.w i.s i.w),.cells (nz1 f)] true) (zD (n:=4) (by kernel_rfl) rfl rfl rfl rfl (cac rfl (cac nvc (cac rfl (cac nvc can)))) rfl)) az))) ?_);refine Goes.ret ?_;obtain rfl:=si h;exact(gw2 [.agg (ni2 g.s g.w i.s i.w)] (FzW.agg (qh.cons (Ua tI) (qh.cons (Ua (qx ZU _ (nl rfl))) (qh.cons (Ua tI) (qh.cons (Ua (qx ZU _ (nl rfl))) qh.nil))))))
def jF (a:qm):Option Bool:=
 (if a.Den.w.isEmpty=true then
 some (decide (a.Den.s=1))
 else
 some false:Option Bool).bind fun b=>
 some b
theorem yA (a:qm) {res:Bool} (h:jF a=some res):qf ZT (.fn 201) [.agg (nq1 a)] [] (.bool res) []:=by
 unfold jF at h;refine Ub Tryz.func201 rfl rfl (m:=13) rfl (rs:=[.tmp 2]) rfl (l:=[(0,.agg (nq1 a))]) rfl ?_;refine sg fol (kAo []) [.cells (nq1 a)] ?_;refine sq ?_;obtain⟨d,b,h⟩:=bnd h;refine Goes.cut (s':=(ofG 13 [(2,.bool d)],[.cells (nq1 a)])) ?_ ?_
 ·rcases wyB b with⟨c,b⟩|⟨c,b⟩
  ·obtain rfl:=si b;exact tr fol [3,4] [(2,.bool (decide (a.Den.s=1)))] (ac (hs (.done (.opt (jB ZT .eql 113 (.tmp 5) (.const (.slice none 0 0)) (nvl ZU a.Den.w) .nilslice)) (.bool a.Den.w.isEmpty)) (qag vX)) (ac (gw c) az))
  obtain rfl:=si b;exact tr fol [3,4] kA7 (ac (hs (.done (.opt (jB ZT .eql 113 (.tmp 5) (.const (.slice none 0 0)) (nvl ZU a.Den.w) .nilslice)) (.bool a.Den.w.isEmpty)) (qag vX)) (ac (gw c) az))
 refine Goes.ret ?_;obtain rfl:=si h;exact(gw2 [.bool d] (Ua tB))
def yS (N:Nat) (a:qm) (b:qm):Option qm:=
 ((jF a).bind fun g=>
 if g=true then
 (jF b).bind fun h=>
 some h
 else
 some false:Option Bool).bind fun i=>
 if i=true then
 (yN a.Num b.Num).bind fun j=>
 (qa5 j).bind fun k=>
 some k
 else
 (zy a.Num b.Den).bind fun l=>
 (zy b.Num a.Den).bind fun c=>
 (yN l c).bind fun d=>
 (zy a.Den b.Den).bind fun e=>
 (qbs N d e).bind fun f=>
 some f
theorem qbx (N:Nat) (a:qm) (b:qm) {res:qm} (h:yS N a b=some res):qf ZT (.fn 148) [.agg (nq1 a),.agg (nq1 b)] [] (.agg (nq1 res)) []:=by
 unfold yS at h;refine Ub Tryz.func148 rfl rfl (m:=34) rfl (rs:=[.cell 4 117]) rfl (l:=[(0,.agg (nq1 a)),(1,.agg (nq1 b))]) rfl ?_;refine sg fol (kD []) (.cells (nq1 a):: .cells (nq1 b)::(kF [])) ?_;refine sq ?_;refine sq ?_;obtain⟨w,c,h⟩:=bnd h;refine Goes.cut (s':=(ofG 34 (kD (kA1 w)),(.cells (nq1 a):: .cells (nq1 b)::(kF [])))) ?_ ?_
 ·obtain⟨B,e,c⟩:=bnd c;rcases wyB c with⟨s,c⟩|⟨s,c⟩
  ·obtain⟨x,k,c⟩:=bnd c;obtain rfl:=si c;exact tr fol [1,2,4] (kD (kA1 x)) (ac (cv (yA a e)) (ac (gw s) (ac (cv (yA b k)) az)))
  obtain rfl:=si c;exact tr fol [1,2] (kD [(10,.bool false)]) (ac (cv (yA a e)) (ac (gw s) az))
 refine ihB h (fun y h=>?_) (fun y h=>?_)
 ·obtain⟨z,o,h⟩:=bnd h;obtain⟨r,p,h⟩:=bnd h;refine sq (gq fol [4,5,6] kAz [.cells (nq1 a),.cells (nq1 b),.cells (nq1 r)] (ac (cv (qcb a.Num b.Num o)) (ac (cv (qc0 z p)) (ac (hs (.run [2] (qA ZT 117 (.ptr 2 0) (.agg (nq1 r))) (.cells (nq1 a):: .cells (nq1 b)::(kF [])) .undef [.cells (nq1 a),.cells (nq1 b),.cells (nq1 r)] true) (zD (n:=4) (by kernel_rfl) rfl rfl rfl rfl (cac rfl (cac nvc (cac rfl (cac nvc can)))) rfl)) az))) ?_);refine Goes.ret ?_;obtain rfl:=si h;exact(gw2 [.agg (nq1 r)] (FzW.agg (qh.cons (Ua tI) (qh.cons (Ua (qx ZU _ (nl rfl))) (qh.cons (Ua tI) (qh.cons (Ua (qx ZU _ (nl rfl))) qh.nil))))))
 refine Goes.skip ?_;obtain⟨A,q,h⟩:=bnd h;obtain⟨t,f,h⟩:=bnd h;obtain⟨u,g,h⟩:=bnd h;obtain⟨v,i,h⟩:=bnd h;obtain⟨d,j,h⟩:=bnd h;refine sq (gq fol [4,9,10,15,16,17] kAz [.cells (nq1 a),.cells (nq1 b),.cells (nq1 d)] (ac (cv (jX a.Num b.Den q)) (ac (cv (jX b.Num a.Den f)) (ac (cv (qcb A t g)) (ac (cv (jX a.Den b.Den i)) (ac (cv (qd1 N u v j)) (ac (hs (.run [2] (qA ZT 117 (.ptr 2 0) (.agg (nq1 d))) (.cells (nq1 a):: .cells (nq1 b)::(kF [])) .undef [.cells (nq1 a),.cells (nq1 b),.cells (nq1 d)] true) (zD (n:=4) (by kernel_rfl) rfl rfl rfl rfl (cac rfl (cac nvc (cac rfl (cac nvc can)))) rfl)) az)))))) ?_);refine Goes.ret ?_;obtain rfl:=si h;exact(gw2 [.agg (nq1 d)] (FzW.agg (qh.cons (Ua tI) (qh.cons (Ua (qx ZU _ (nl rfl))) (qh.cons (Ua tI) (qh.cons (Ua (qx ZU _ (nl rfl))) qh.nil))))))
def qaM (a:qm):Option qm:=
 (zX a.Num).bind fun b=>
 some (⟨b,a.Den⟩:qm)
theorem qf7 (a:qm) {res:qm} (h:qaM a=some res):qf ZT (.fn 260) [.agg (nq1 a)] [] (.agg (nq1 res)) []:=by
 unfold qaM at h;refine Ub Tryz.func260 rfl rfl (m:=9) rfl (rs:=[.cell 2 117]) rfl (l:=[(0,.agg (nq1 a))]) rfl ?_;refine sg fol (kAT []) (.cells (nq1 a)::(kF [])) ?_;obtain⟨b,c,h⟩:=bnd h;refine sq (gq fol [2,6] [(2,.ptr 1 0)] [.cells (nq1 a),.cells (ni2 b.s b.w a.Den.s a.Den.w)] (ac (cv (vN a.Num c)) (ac (hs (.run [1] (qA ZT 117 (.ptr 1 0) (.agg (ni2 b.s b.w a.Den.s a.Den.w))) (.cells (nq1 a)::(kF [])) .undef [.cells (nq1 a),.cells (ni2 b.s b.w a.Den.s a.Den.w)] true) (zD (n:=4) (by kernel_rfl) rfl rfl rfl rfl (cac rfl (cac nvc (cac rfl (cac nvc can)))) rfl)) az)) ?_);refine Goes.ret ?_;obtain rfl:=si h;exact(gw2 [.agg (ni2 b.s b.w a.Den.s a.Den.w)] (FzW.agg (qh.cons (Ua tI) (qh.cons (Ua (qx ZU _ (nl rfl))) (qh.cons (Ua tI) (qh.cons (Ua (qx ZU _ (nl rfl))) qh.nil))))))
def xR (N:Nat) (a:qm) (b:qm):Option qm:=
 (qaM b).bind fun c=>
 (yS N a c).bind fun d=>
 some d
theorem qdB (N:Nat) (a:qm) (b:qm) {res:qm} (h:xR N a b=some res):qf ZT (.fn 198) [.agg (nq1 a),.agg (nq1 b)] [] (.agg (nq1 res)) []:=by
 unfold xR at h;refine Ub Tryz.func198 rfl rfl (m:=9) rfl (rs:=[.cell 4 117]) rfl (l:=[(0,.agg (nq1 a)),(1,.agg (nq1 b))]) rfl ?_;refine sg fol (kD []) (.cells (nq1 a):: .cells (nq1 b)::(kF [])) ?_;obtain⟨f,c,h⟩:=bnd h;obtain⟨e,d,h⟩:=bnd h;refine sq (gq fol [2,3,4] kAz [.cells (nq1 a),.cells (nq1 b),.cells (nq1 e)] (ac (cv (qf7 b c)) (ac (cv (qbx N a f d)) (ac (hs (.run [2] (qA ZT 117 (.ptr 2 0) (.agg (nq1 e))) (.cells (nq1 a):: .cells (nq1 b)::(kF [])) .undef [.cells (nq1 a),.cells (nq1 b),.cells (nq1 e)] true) (zD (n:=4) (by kernel_rfl) rfl rfl rfl rfl (cac rfl (cac nvc (cac rfl (cac nvc can)))) rfl)) az))) ?_);refine Goes.ret ?_;obtain rfl:=si h;exact(gw2 [.agg (nq1 e)] (FzW.agg (qh.cons (Ua tI) (qh.cons (Ua (qx ZU _ (nl rfl))) (qh.cons (Ua tI) (qh.cons (Ua (qx ZU _ (nl rfl))) qh.nil))))))
def xU (N:Nat) (a:qm):Option qm:=
 (qbs N a.Den a.Num).bind fun b=>
 some b
theorem qdA (N:Nat) (a:qm) {res:qm} (h:xU N a=some res):qf ZT (.fn 199) [.agg (nq1 a)] [] (.agg (nq1 res)) []:=by
 unfold xU at h;refine Ub Tryz.func199 rfl rfl (m:=8) rfl (rs:=[.cell 2 117]) rfl (l:=[(0,.agg (nq1 a))]) rfl ?_;refine sg fol (kAT []) (.cells (nq1 a)::(kF [])) ?_;obtain⟨c,b,h⟩:=bnd h;refine sq (gq fol [4,5] [(2,.ptr 1 0)] [.cells (nq1 a),.cells (nq1 c)] (ac (cv (qd1 N a.Den a.Num b)) (ac (hs (.run [1] (qA ZT 117 (.ptr 1 0) (.agg (nq1 c))) (.cells (nq1 a)::(kF [])) .undef [.cells (nq1 a),.cells (nq1 c)] true) (zD (n:=4) (by kernel_rfl) rfl rfl rfl rfl (cac rfl (cac nvc (cac rfl (cac nvc can)))) rfl)) az)) ?_);refine Goes.ret ?_;obtain rfl:=si h;exact(gw2 [.agg (nq1 c)] (FzW.agg (qh.cons (Ua tI) (qh.cons (Ua (qx ZU _ (nl rfl))) (qh.cons (Ua tI) (qh.cons (Ua (qx ZU _ (nl rfl))) qh.nil))))))
def qbm (N:Nat) (letter:Int) (t:qm):Option ((qm×qm)×(qm×qm)):=
 (qg5 1).bind fun a=>
 (qg5 0).bind fun b=>
 if letter>0 then
 (xR N a t).bind fun c=>
 some ((c,t),(a,b))
 else
 (xU N t).bind fun d=>
 (xU N t).bind fun e=>
 (xR N a e).bind fun f=>
 some ((b,a),(d,f))
theorem qha (N:Nat) (letter:Int) (t:qm) {res:((qm×qm)×(qm×qm))} (h:qbm N letter t=some res):qf ZT (.fn 146) [.i letter,.agg (nq1 t)] [] (.agg (nb4 res)) []:=by
 unfold qbm at h;refine Ub Tryz.func146 rfl rfl (m:=31) rfl (rs:=[.cell 4 172]) rfl (l:=[(0,.i letter),(1,.agg (nq1 t))]) rfl ?_;refine sg fol (kX letter kA0) (.cells (nq1 t)::(kJ [])) ?_;obtain⟨a,c,h⟩:=bnd h;obtain⟨b,d,h⟩:=bnd h;refine sq (gq fol [0,1,4,5] (kX letter (kAM [(6,.ptr 3 0)])) (.cells (nq1 t)::(kJ [.cells (nq1 a),.cells (nq1 b)])) (ac (cv (qeY 1 c)) (ac (cv (qeY 0 d)) (ac (hs (.run [2] (qA ZT 117 (.ptr 2 0) (.agg (nq1 a))) (.cells (nq1 t)::(kJ (kF (kF [])))) .undef (.cells (nq1 t)::(kJ (.cells (nq1 a)::(kF [])))) true) (zD (n:=4) (by kernel_rfl) rfl rfl rfl rfl (cac rfl (cac nvc (cac rfl (cac nvc can)))) rfl)) (ac (hs (.run [3] (qA ZT 117 (.ptr 3 0) (.agg (nq1 b))) (.cells (nq1 t)::(kJ (.cells (nq1 a)::(kF [])))) .undef (.cells (nq1 t)::(kJ [.cells (nq1 a),.cells (nq1 b)])) true) (zD (n:=4) (by kernel_rfl) rfl rfl rfl rfl (cac rfl (cac nvc (cac rfl (cac nvc can)))) rfl)) az)))) ?_);refine sq ?_;refine sh fol ((3,.ptr 0 0)::(kAM ((6,.ptr 3 0)::(kA1 (decide (letter>0)))))) ?_;refine ihD h (fun q h=>?_) (fun q h=>?_)
 ·obtain⟨k,e,h⟩:=bnd h;refine sq (gq fol [2,9] kA0 [.cells (nq1 t),.cells (nq4 k t a b),.cells (nq1 a),.cells (nq1 b)] (ac (cv (qdB N a t e)) (ac (hs (.run [1] (qA ZT 172 (.ptr 1 0) (.agg (nq4 k t a b))) (.cells (nq1 t)::(kJ [.cells (nq1 a),.cells (nq1 b)])) .undef [.cells (nq1 t),.cells (nq4 k t a b),.cells (nq1 a),.cells (nq1 b)] true) (zD (n:=16) (by kernel_rfl) rfl rfl rfl rfl (cac rfl (cac nvc (cac rfl (cac nvc (cac rfl (cac nvc (cac rfl (cac nvc (cac rfl (cac nvc (cac rfl (cac nvc (cac rfl (cac nvc (cac rfl (cac nvc can)))))))))))))))) rfl)) az)) ?_);refine Goes.ret ?_;obtain rfl:=si h;exact(gw2 [.agg (nq4 k t a b)] (FzW.agg (qh.cons (Ua tI) (qh.cons (Ua (qx ZU _ (nl rfl))) (qh.cons (Ua tI) (qh.cons (Ua (qx ZU _ (nl rfl))) (qh.cons (Ua tI) (qh.cons (Ua (qx ZU _ (nl rfl))) (qh.cons (Ua tI) (qh.cons (Ua (qx ZU _ (nl rfl))) (qh.cons (Ua tI) (qh.cons (Ua (qx ZU _ (nl rfl))) (qh.cons (Ua tI) (qh.cons (Ua (qx ZU _ (nl rfl))) (qh.cons (Ua tI) (qh.cons (Ua (qx ZU _ (nl rfl))) (qh.cons (Ua tI) (qh.cons (Ua (qx ZU _ (nl rfl))) qh.nil))))))))))))))))))
 refine Goes.skip ?_;obtain⟨o,f,h⟩:=bnd h;obtain⟨r,g,h⟩:=bnd h;obtain⟨p,j,h⟩:=bnd h;refine sq (gq fol [4,7,8,11] kA0 [.cells (nq1 t),.cells (nq4 b a o p),.cells (nq1 a),.cells (nq1 b)] (ac (cv (qdA N t f)) (ac (cv (qdA N t g)) (ac (cv (qdB N a r j)) (ac (hs (.run [1] (qA ZT 172 (.ptr 1 0) (.agg (nq4 b a o p))) (.cells (nq1 t)::(kJ [.cells (nq1 a),.cells (nq1 b)])) .undef [.cells (nq1 t),.cells (nq4 b a o p),.cells (nq1 a),.cells (nq1 b)] true) (zD (n:=16) (by kernel_rfl) rfl rfl rfl rfl (cac rfl (cac nvc (cac rfl (cac nvc (cac rfl (cac nvc (cac rfl (cac nvc (cac rfl (cac nvc (cac rfl (cac nvc (cac rfl (cac nvc (cac rfl (cac nvc can)))))))))))))))) rfl)) az)))) ?_);refine Goes.ret ?_;obtain rfl:=si h;exact(gw2 [.agg (nq4 b a o p)] (FzW.agg (qh.cons (Ua tI) (qh.cons (Ua (qx ZU _ (nl rfl))) (qh.cons (Ua tI) (qh.cons (Ua (qx ZU _ (nl rfl))) (qh.cons (Ua tI) (qh.cons (Ua (qx ZU _ (nl rfl))) (qh.cons (Ua tI) (qh.cons (Ua (qx ZU _ (nl rfl))) (qh.cons (Ua tI) (qh.cons (Ua (qx ZU _ (nl rfl))) (qh.cons (Ua tI) (qh.cons (Ua (qx ZU _ (nl rfl))) (qh.cons (Ua tI) (qh.cons (Ua (qx ZU _ (nl rfl))) (qh.cons (Ua tI) (qh.cons (Ua (qx ZU _ (nl rfl))) qh.nil))))))))))))))))))
def yg (N:Nat) (a:qm) (b:qm):Option qm:=
 (zy a.Num b.Num).bind fun c=>
 (zy a.Den b.Den).bind fun d=>
 (qbs N c d).bind fun e=>
 some e
theorem qap (N:Nat) (a:qm) (b:qm) {res:qm} (h:yg N a b=some res):qf ZT (.fn 147) [.agg (nq1 a),.agg (nq1 b)] [] (.agg (nq1 res)) []:=by
 unfold yg at h;refine Ub Tryz.func147 rfl rfl (m:=16) rfl (rs:=[.cell 4 117]) rfl (l:=[(0,.agg (nq1 a)),(1,.agg (nq1 b))]) rfl ?_;refine sg fol (kD []) (.cells (nq1 a):: .cells (nq1 b)::(kF [])) ?_;obtain⟨g,c,h⟩:=bnd h;obtain⟨i,d,h⟩:=bnd h;obtain⟨f,e,h⟩:=bnd h;refine sq (gq fol [4,9,10,11] kAz [.cells (nq1 a),.cells (nq1 b),.cells (nq1 f)] (ac (cv (jX a.Num b.Num c)) (ac (cv (jX a.Den b.Den d)) (ac (cv (qd1 N g i e)) (ac (hs (.run [2] (qA ZT 117 (.ptr 2 0) (.agg (nq1 f))) (.cells (nq1 a):: .cells (nq1 b)::(kF [])) .undef [.cells (nq1 a),.cells (nq1 b),.cells (nq1 f)] true) (zD (n:=4) (by kernel_rfl) rfl rfl rfl rfl (cac rfl (cac nvc (cac rfl (cac nvc can)))) rfl)) az)))) ?_);refine Goes.ret ?_;obtain rfl:=si h;exact(gw2 [.agg (nq1 f)] (FzW.agg (qh.cons (Ua tI) (qh.cons (Ua (qx ZU _ (nl rfl))) (qh.cons (Ua tI) (qh.cons (Ua (qx ZU _ (nl rfl))) qh.nil))))))
def zJ:Nat->(List qm)->Int->Option (List qm)
 |0,_,_=>none
 |K+1,a,c=>
  if c<(a.length:Int)then
  (at' a c).bind fun b=>
  (some (qcm a b (a.take b))).bind fun d=>
  zJ K d (w64 (c+((Nat.min (a.take b).length (a.length-b):Nat):Int)))
  else
  some a
def vV (N:Nat) (a:Int) (b:List Int) (c:Int) (d:List Int) (e:Int):Option (List qm):=
 ((if e<0 then
 none
 else
 some ():Option Unit)).bind fun _=>
 (bits_Mul (wrap .u64 1) (wrap .u64 e)).bind fun g=>
 (if g.1>0 then
 some true
 else
 some (decide (g.2>9223372036854775807)):Option Bool).bind fun j=>
 ((if j=true then
 none
 else
 some ():Option Unit)).bind fun _=>
 (mk 64 (w64 g.2) (⟨(⟨0,[]⟩:qC),(⟨0,[]⟩:qC)⟩:qm)).bind fun f=>
 (some (cpy f ([(⟨(⟨a,b⟩:qC),(⟨c,d⟩:qC)⟩:qm)]:List qm))).bind fun h=>
 (zJ N h ((Nat.min ([(⟨(⟨a,b⟩:qC),(⟨c,d⟩:qC)⟩:qm)]:List qm).length f.length:Nat):Int)).bind fun i=>
 some i
theorem qcq (N:Nat) (b:Int) (c:List Int) (d:Int) (e:List Int) (n:Int) {C:List qm} (h:vV N b c d e n=some C):qf ZT (.fn 145) [.slice 0 0 1 1 4,.i n] [.cells (ni2 b c d e)] (.slice 1 0 C.length C.length 4) (.cells (ni2 b c d e)::(kK C [])):=by
 unfold vV at h;refine Un Tryz.func145 rfl rfl (m:=48) rfl (rs:=[.tmp 4]) rfl (l:=(kAp (kBC n))) rfl ?_;intro B hB;refine sh fol (kAp (kBC n)) ?_;refine sq ?_;refine sh fol (kAp ((1,.i n)::(kA1 (decide (n<0))))) ?_;obtain⟨G,g2,h⟩:=bnd h;refine Goes.imp (Q:=fun x s'=>(x= .normal/\()=G/\Sub s' (ofG 48 (kAp (kBC n)),[.cells (ni2 b c d e)]))) ?_ ?_
 ·refine ihD g2 (fun H g2=>?_) (fun H g2=>?_)
  ·cases g2
  refine Goes.skip ?_;obtain rfl:=si g2;exact⟨rfl,rfl,(Sub.keep [0,1] rfl rfl)⟩
 rintro x s' ⟨rfl,rfl,hsub⟩;refine Goes.sub hsub ?_;obtain⟨v,y,h⟩:=bnd h;refine sq (gr fol [5] (kAp ((5,.int .u64 v.1)::(kAg v.2 []))) (ac (cv (qf1 (wrap .u64 1) (wrap .u64 n) y)) az) ?_);refine sq ?_;refine sq ?_;obtain⟨I,o,h⟩:=bnd h;refine Goes.cut (s':=(ofG 48 (kAp (kAg v.2 [(26,.bool I)])),[.cells (ni2 b c d e)])) ?_ ?_
 ·rcases wyD o with⟨D,o⟩|⟨D,o⟩
  ·obtain rfl:=si o;exact tr fol [2] (kAp (kAg v.2 [(26,.bool true)])) (ac (gw D) az)
  obtain rfl:=si o;exact tr fol [2] (kAp (kAg v.2 [(26,.bool (decide (v.2>9223372036854775807)))])) (ac (gw D) az)
 obtain⟨J,g8,h⟩:=bnd h;refine Goes.imp (Q:=fun x s'=>(x= .normal/\()=J/\Sub s' (ofG 48 (kAp (kAg v.2 [])),[.cells (ni2 b c d e)]))) ?_ ?_
 ·refine ihB g8 (fun K g8=>?_) (fun K g8=>?_)
  ·cases g8
  refine Goes.skip ?_;obtain rfl:=si g8;exact⟨rfl,rfl,(Sub.keep [0,6] rfl rfl)⟩
 rintro x s' ⟨rfl,rfl,hsub⟩;refine Goes.sub hsub ?_;obtain⟨f,w,h⟩:=bnd h;refine sq (gq fol [2] (kAp (kAK f [])) (.cells (ni2 b c d e)::(kK f [])) (ac (hs (.run [] (jD ZT 120 (.i (w64 v.2)) (.i (w64 v.2))) [.cells (ni2 b c d e)] (.slice 1 0 f.length f.length 4) (.cells (ni2 b c d e)::(kK f [])) false) (qdK qdz (E:=qd) (z:=(⟨(⟨0,[]⟩:qC),(⟨0,[]⟩:qC)⟩:qm)) rfl (by kernel_rfl) w rfl)) az) ?_);obtain⟨r,t,h⟩:=bnd h;refine sq (gq fol [2] (kAK f [(8,.i ((Nat.min ([(⟨(⟨b,c⟩:qC),(⟨d,e⟩:qC)⟩:qm)]:List qm).length f.length:Nat):Int))]) (.cells (ni2 b c d e)::(kK r [])) (ac (hs (.run [1,0] (qaH ZT [120,120] (.slice 1 0 f.length f.length 4) (.slice 0 0 1 1 4)) (.cells (ni2 b c d e)::(kK f [])) (.i ((Nat.min ([(⟨(⟨b,c⟩:qC),(⟨d,e⟩:qC)⟩:qm)]:List qm).length f.length:Nat):Int)) (.cells (ni2 b c d e)::(kK r [])) true) (qo9 qdz (E:=qd) (l:=f) rfl (qeZ (E:=qd) (ys:=([(⟨(⟨b,c⟩:qC),(⟨d,e⟩:qC)⟩:qm)]:List qm)) rfl rfl rfl rfl) (.inl rfl) rfl rfl t rfl)) az) ?_);refine Goes.sub (show Sub (ofG 48 (kAK f [(8,.i ((Nat.min ([(⟨(⟨b,c⟩:qC),(⟨d,e⟩:qC)⟩:qm)]:List qm).length f.length:Nat):Int))]),(.cells (ni2 b c d e)::(kK r []))) (ofG 48 (kAK r [(8,.i ((Nat.min ([(⟨(⟨b,c⟩:qC),(⟨d,e⟩:qC)⟩:qm)]:List qm).length f.length:Nat):Int))]),(.cells (ni2 b c d e)::(kK r [])))from(Sub.norm [] [some 0,some 1] (by rw[hB];rfl) rfl (.keep (.sliceE rfl (qi7 t)) (.keep (.same nI) .nil)) (.kb rfl (.same sn) (.ks .nil)))) ?_;refine sq (Goes.block ?_);obtain⟨A,g15,h⟩:=bnd h;refine Goes.imp (Q:=fun x s'=>(x= .exit 0/\ ∃p,p=A/\Sub s' (ofG 48 (kAK p []),(.cells (ni2 b c d e)::(kK p []))))) ?_ ?_
 ·refine Uc (fun M s=> ∃(a:List qm) (j:Int),s=(ofG 48 (kAK a [(8,.i j)]),(.cells (ni2 b c d e)::(kK a [])))/\zJ M a j=some A) ?_ (m:=N) ⟨_,_,rfl,g15⟩;rintro M s ⟨a,j,rfl,g15⟩
  cases M with
  |zero=>simp only[zJ]at g15;cases g15
  |succ M=>
   rw[zJ]at g15;refine sq ?_;refine sh fol (kAK a [(8,.i j),(37,.bool (decide (j<(a.length:Int))))]) ?_;refine ihD g15 (fun F g15=>?_) (fun F g15=>?_)
   ·refine Goes.skip ?_;refine Goes.block ?_;obtain⟨g,k,g15⟩:=bnd g15;obtain⟨q,u,g15⟩:=bnd g15;refine gq fol [3,6,7] (kAK a [(8,.i (w64 (j+((Nat.min (a.take g).length (a.length-g):Nat):Int))))]) (.cells (ni2 b c d e)::(kK q [])) (ac (hs (.done (.opt (qM ZT 120 (.slice 1 0 a.length a.length 4) (some (.i j)) none none)) (qdW 1 4 a.length g)) (qje qdz k)) (ac (hs (.done (.opt (qM ZT 120 (.slice 1 0 a.length a.length 4) none (some (.i j)) none)) (.slice 1 0 g a.length 4)) (qo1 qdz k)) (ac (hs (.run [1,1] (qaH ZT [120,120] (qdW 1 4 a.length g) (.slice 1 0 g a.length 4)) (.cells (ni2 b c d e)::(kK a [])) (.i ((Nat.min (a.take g).length (a.length-g):Nat):Int)) (.cells (ni2 b c d e)::(kK q [])) true) (qjx qdz (E:=qd) rfl (l:=a) (qlZ (E:=qd) rfl rfl rfl (qh2 k)) (qh2 k) rfl rfl u rfl)) az))) ?_;exact⟨M,(ofG 48 (kAK q [(8,.i (w64 (j+((Nat.min (a.take g).length (a.length-g):Nat):Int))))]),(.cells (ni2 b c d e)::(kK q []))),Nat.lt_succ_self _,((show Sub (ofG 48 (kAK a [(8,.i (w64 (j+((Nat.min (a.take g).length (a.length-g):Nat):Int))))]),(.cells (ni2 b c d e)::(kK q []))) (ofG 48 (kAK q [(8,.i (w64 (j+((Nat.min (a.take g).length (a.length-g):Nat):Int))))]),(.cells (ni2 b c d e)::(kK q [])))from(Sub.norm [] [some 0,some 1] (by rw[hB];rfl) rfl (.keep (.sliceE rfl (qh4 (qh2 k) u)) (.keep (.same nI) .nil)) (.kb rfl (.same sn) (.ks .nil)))).trans (Sub.refl _)),_,_,rfl,g15⟩
   refine Goes.exit ?_;obtain rfl:=si g15;exact⟨rfl,_,rfl,(Sub.keep [7] rfl rfl)⟩
 rintro x s' ⟨rfl,p,rfl,hsub⟩;refine Goes.sub hsub ?_;refine sh fol [(4,.slice 1 0 p.length p.length 4)] ?_;refine Goes.ret ?_;obtain rfl:=si h;exact(gh2 [.slice 1 0 p.length p.length 4] (qbz.refl _ _))
def vQ (N:Nat) (n:Int) (w:List Int) (h:List (List qm)):Nat->(List (List qm))->Int->Option (List (List qm))
 |0,_,_=>none
 |K+1,c,a=>
  if a<(h.length:Int)then
  (qg5 0).bind fun d=>
  (vV N d.Num.s d.Num.w d.Den.s d.Den.w n).bind fun e=>
  (idx c a).bind fun i=>
  ((if e.length<=1000000000 then some ()else none:Option Unit)).bind fun j=>
  (idx (qO c a e) a).bind fun b=>
  (qg5 1).bind fun f=>
  (idx b a).bind fun k=>
  (put b a f).bind fun g=>
  vQ N n w h K (qO (qO c a e) a g) (w64 (a+1))
  else
  some c
def vL (N:Nat) (f:List (List qm)) (a:Int) (b:((qm×qm)×(qm×qm))):Nat->(List (List qm))->Int->Option (List (List qm))
 |0,_,_=>none
 |K+1,d,c=>
  if c<(f.length:Int)then
  (idx d c).bind fun e=>
  (idx e (w64 (a-1))).bind fun g=>
  (idx e (w64 ((w64 (a-1))+1))).bind fun h=>
  (yg N g b.1.1).bind fun j=>
  (yg N h b.2.1).bind fun k=>
  (yS N j k).bind fun l=>
  (put e (w64 (a-1)) l).bind fun i=>
  (yg N g b.1.2).bind fun m=>
  (yg N h b.2.2).bind fun n=>
  (yS N m n).bind fun o=>
  (idx i (w64 ((w64 (a-1))+1))).bind fun q=>
  (put i (w64 ((w64 (a-1))+1)) o).bind fun p=>
  vL N f a b K (qO d c p) (w64 (c+1))
  else
  some d
def vI (N:Nat) (w:List Int) (t:qm):Nat->(List (List qm))->Int->Option (List (List qm))
 |0,_,_=>none
 |K+1,a,b=>
  if b<(w.length:Int)then
  (idx w b).bind fun c=>
  (xc c).bind fun d=>
  (qbm N c t).bind fun e=>
  (vL N a d e N a 0).bind fun f=>
  vI N w t K f (w64 (b+1))
  else
  some a
def qbr (N:Nat) (n:Int) (w:List Int) (t:qm):Option (List (List qm)):=
 (mk 24 n ([]:List qm)).bind fun b=>
 (vQ N n w b N b 0).bind fun c=>
 (vI N w t N c 0).bind fun a=>
 some a
theorem qg1 (N:Nat) (n:Int) (w:List Int) (t:qm) {res:List (List qm)} (h:qbr N n w t=some res):qf ZT (.fn 75) [.i n,vl encI w,.agg (nq1 t)] [] (vl (qc qd) res) []:=by
 unfold qbr at h;refine Ub Tryz.func75 rfl rfl (m:=98) rfl (rs:=[.tmp 6]) rfl (l:=(kI n w [(2,.agg (nq1 t))])) rfl ?_;refine sg fol (kI n w [(5,.ptr 0 0)]) [.cells (nq1 t)] ?_;obtain⟨A,a1,h⟩:=bnd h;refine sq (gq fol [1] (kI n w (kC A [])) [.cells (nq1 t),.cells (A.flatMap (qhN qd).c)] (ac (hs (.run [] (jD ZT 111 (.i n) (.i n)) [.cells (nq1 t)] (.slice 1 0 A.length A.length 1) [.cells (nq1 t),.cells (A.flatMap (qhN qd).c)] false) (qdK qim (E:=(qhN qd)) (z:=[]) rfl (by kernel_rfl) a1 rfl)) az) ?_);refine Goes.sub (show Sub (ofG 98 (kI n w (kC A [])),[.cells (nq1 t),.cells (A.flatMap (qhN qd).c)]) (ofG 98 (kI n w (kC A [])),[.cells (nq1 t),bg qd A])from(Sub.bagNil1 (E:=qd) (b:=1) rfl a1)) ?_;refine sq ?_;refine sh fol (kI n w (kC A [(20,.i (A.length:Int)),(21,.i 0)])) ?_;refine Goes.block ?_;obtain⟨r5,g5,h⟩:=bnd h;refine Goes.imp (Q:=fun x s'=>(x= .exit 0/\ ∃l4,l4=r5/\Sub s' (ofG 98 (kAy w (kC l4 [])),[.cells (nq1 t),bg qd l4]))) ?_ ?_
 ·refine Uc (fun M s=> ∃(q:List (List qm)) (f:Int),s=(ofG 98 (kI n w (kC q (kAV (A.length:Int) f))),[.cells (nq1 t),bg qd q])/\vQ N n w A M q f=some r5) ?_ (m:=N) ⟨_,_,rfl,g5⟩;rintro M s ⟨q,f,rfl,g5⟩
  cases M with
  |zero=>simp only[vQ]at g5;cases g5
  |succ M=>
   rw[vQ]at g5;refine sh fol (kI n w (kC q [(20,.i (A.length:Int)),(21,.i f),(22,.bool (decide (f<(A.length:Int))))])) ?_;refine sq ?_;refine ihD g5 (fun c6 g5=>?_) (fun c6 g5=>?_)
   ·refine Goes.skip ?_;refine sq (Goes.block ?_);refine sh fol (kI n w (kC q ((8,.i f)::(kAV (A.length:Int) f)))) ?_;obtain⟨P,e_r7,g5⟩:=bnd g5;obtain⟨r,e_r8,g5⟩:=bnd g5;obtain⟨x10,K,g5⟩:=bnd g5;obtain⟨u11,a2,g5⟩:=bnd g5;refine sq (gq fol [2,5,6,7] (kI n w (kC q ((8,.i f)::(kAV (A.length:Int) f)))) (.cells (nq1 t):: .bag ((q.map (zA qd)).set (f:Int).toNat (.av (.slice 3 0 r.length r.length 4))):: .cells (nq1 P)::(kK r [])) (ac (cv (qeY 0 e_r7)) (ac (hs (.callH 145 [.slice 2 0 1 1 4,.i n] [.cells (nq1 t),bg qd q,.cells (nq1 P)] [2] (.slice 3 0 r.length r.length 4) (.cells (nq1 t)::bg qd q:: .cells (nq1 P)::(kK r []))) (qab [some 2] [none,none,some 0,some 1] (qcq N P.Num.s P.Num.w P.Den.s P.Den.w n e_r8) (.kb rfl (.cells (rc (.same nI) (rc (.same (qbW ZU _)) (rc (.same nI) (rc (.same (qbW ZU _)) rn))))) .nil) rfl rfl (.old rfl rfl (.old rfl rfl (.back rfl rfl (.cells (rc (.same nI) (rc (.same (qbW ZU _)) (rc (.same nI) (rc (.same (qbW ZU _)) rn))))) rfl (.new rfl rfl (.same fa) rfl .nil)))) (rc (.slice rfl) (rc (.same nI) rn)) (.slice rfl) rfl)) (ac (hs (.done (.opt (qo ZT 111 (.slice 1 0 q.length q.length 1) (.i f))) (.ptr 1 ((f:Int).toNat*1+0))) (yX qim K)) (ac (hs (.run [1] (qA ZT 120 (.ptr 1 ((f:Int).toNat*1+0)) (.slice 3 0 r.length r.length 4)) (.cells (nq1 t)::bg qd q:: .cells (nq1 P)::(kK r [])) .undef (.cells (nq1 t):: .bag ((q.map (zA qd)).set (f:Int).toNat (.av (.slice 3 0 r.length r.length 4))):: .cells (nq1 P)::(kK r [])) true) (qlI (show _=some 1 by kernel_rfl) rfl (qnl K) rfl rfl rfl)) az)))) ?_);refine Goes.sub ((show Sub (ofG 98 (kI n w (kC q ((8,.i f)::(kAV (A.length:Int) f)))),(.cells (nq1 t):: .bag ((q.map (zA qd)).set (f:Int).toNat (.av (.slice 3 0 r.length r.length 4))):: .cells (nq1 P)::(kK r []))) (ofG 98 (kI n w (kC q ((8,.i f)::(kAV (A.length:Int) f)))),[.cells (nq1 t),bg qd (qO q f r),.cells (nq1 P),.dead])from(Uo (E:=qd) (b:=1) (c:=3) (Nat.ne_of_beq_eq_false rfl) rfl rfl K (.s (qpV a2)) rfl)).trans (show Sub (ofG 98 (kI n w (kC q ((8,.i f)::(kAV (A.length:Int) f)))),[.cells (nq1 t),bg qd (qO q f r),.cells (nq1 P),.dead]) (ofG 98 (kI n w (kC (qO q f r) ((8,.i f)::(kAV (A.length:Int) f)))),[.cells (nq1 t),bg qd (qO q f r)])from(Sub.norm [] [some 0,some 1] rfl rfl (.keep (.same nI) (.keep (.same (qw encI _)) (.kp (.keep (.sliceE rfl (qcg _ _ _)) (.keep (.same nI) (.keep (.same nI) (.keep (.same nI) .nil))))))) (.kb rfl (.same sn) (.kb rfl jY.bgs .nil))))) ?_;obtain⟨B,H,g5⟩:=bnd g5;refine Goes.sub (s':=(ofG 98 (kI n w (kC (qO q f r) ((8,.i f)::(kAV (A.length:Int) f)))),(.cells (nq1 t):: .bag (((qO q f r).map (zA qd)).set (f:Int).toNat (.av (.gslice 2 B.length 4)))::(kK B [])))) (Uu (E:=qd) (b:=1) rfl H) ?_;obtain⟨r14,a3,g5⟩:=bnd g5;obtain⟨x15,U,g5⟩:=bnd g5;obtain⟨G,V,g5⟩:=bnd g5;refine gq fol [2,3,5,6,7] (kI n w (kC (qO q f r) (kAV (A.length:Int) f))) (.cells (nq1 t):: .bag (((qO q f r).map (zA qd)).set (f:Int).toNat (.av (.gslice 2 B.length 4)))::(kK G [])) (ac (hs (.done (.opt (qo ZT 111 (.slice 1 0 (qO q f r).length (qO q f r).length 1) (.i f))) (.ptr 1 ((f:Int).toNat*1+0))) (yX qim H)) (ac (hs (.run [1] (z8 ZT 120 (.ptr 1 ((f:Int).toNat*1+0))) (.cells (nq1 t):: .bag (((qO q f r).map (zA qd)).set (f:Int).toNat (.av (.gslice 2 B.length 4)))::(kK B [])) (.gslice 2 B.length 4) (.cells (nq1 t):: .bag (((qO q f r).map (zA qd)).set (f:Int).toNat (.av (.gslice 2 B.length 4)))::(kK B [])) false) (qiI qlY rfl (at_set H))) (ac (cv (qeY 1 a3)) (ac (hs (.done (.opt (qo ZT 120 (.gslice 2 B.length 4) (.i f))) (.ptr 2 ((f:Int).toNat*4+0))) (qb3 qdz U)) (ac (hs (.run [2] (qA ZT 117 (.ptr 2 ((f:Int).toNat*4+0)) (.agg (nq1 r14))) (.cells (nq1 t):: .bag (((qO q f r).map (zA qd)).set (f:Int).toNat (.av (.gslice 2 B.length 4)))::(kK B [])) .undef (.cells (nq1 t):: .bag (((qO q f r).map (zA qd)).set (f:Int).toNat (.av (.gslice 2 B.length 4)))::(kK G [])) true) (qbl (E:=qd) (l:=B) (y:=r14) rfl (show _=some 4 by kernel_rfl) rfl U rfl rfl rfl (cac rfl (cac nvc (cac rfl (cac nvc can)))) rfl V rfl)) az))))) ?_;refine Goes.sub ((show Sub (ofG 98 (kI n w (kC (qO q f r) (kAV (A.length:Int) f))),(.cells (nq1 t):: .bag (((qO q f r).map (zA qd)).set (f:Int).toNat (.av (.gslice 2 B.length 4)))::(kK G []))) (ofG 98 (kI n w (kC (qO q f r) (kAV (A.length:Int) f))),[.cells (nq1 t),bg qd (qO (qO q f r) f G),.dead])from(Uo (E:=qd) (b:=1) (c:=2) (Nat.ne_of_beq_eq_false rfl) rfl rfl H .g (vS V))).trans (show Sub (ofG 98 (kI n w (kC (qO q f r) (kAV (A.length:Int) f))),[.cells (nq1 t),bg qd (qO (qO q f r) f G),.dead]) (ofG 98 (kI n w (kC (qO (qO q f r) f G) (kAV (A.length:Int) f))),[.cells (nq1 t),bg qd (qO (qO q f r) f G)])from(Sub.norm [] [some 0,some 1] rfl rfl (.keep (.same nI) (.keep (.same (qw encI _)) (.kp (.keep (.sliceE rfl (qcg _ _ _)) (.keep (.same nI) (.keep (.same nI) .nil)))))) (.kb rfl (.same sn) (.kb rfl jY.bgs .nil))))) ?_;refine gh fol (kI n w (kC (qO (qO q f r) f G) (kAV (A.length:Int) (w64 (f+1))))) ?_;exact⟨M,(ofG 98 (kI n w (kC (qO (qO q f r) f G) (kAV (A.length:Int) (w64 (f+1))))),[.cells (nq1 t),bg qd (qO (qO q f r) f G)]),Nat.lt_succ_self _,(Sub.refl _),_,_,rfl,g5⟩
   refine Goes.exit ?_;obtain rfl:=si g5;exact⟨rfl,_,rfl,(Sub.keep [1,5,7] rfl rfl)⟩
 rintro x s' ⟨rfl,l4,rfl,hsub⟩;refine Goes.sub hsub ?_;refine sq ?_;refine sh fol (kC l4 [(39,vl encI w),(40,.i (w.length:Int)),(41,.i 0)]) ?_;refine Goes.block ?_;obtain⟨r20,g20,h⟩:=bnd h;refine Goes.imp (Q:=fun x s'=>(x= .exit 2/\ ∃F,F=r20/\Sub s' (ofG 98 (kAF F []),[bg qd F]))) ?_ ?_
 ·refine Uc (fun M s=> ∃(k:List (List qm)) (p:Int),s=(ofG 98 (kC k (kAm w (w.length:Int) p [])),[.cells (nq1 t),bg qd k])/\vI N w t M k p=some r20) ?_ (m:=N) ⟨_,_,rfl,g20⟩;rintro M s ⟨k,p,rfl,g20⟩
  cases M with
  |zero=>simp only[vI]at g20;cases g20
  |succ M=>
   rw[vI]at g20;refine sh fol (kC k (kAm w (w.length:Int) p [(42,.bool (decide (p<(w.length:Int))))])) ?_;refine sq ?_;refine ihD g20 (fun c21 g20=>?_) (fun c21 g20=>?_)
   ·refine Goes.skip ?_;refine sq (Goes.block ?_);obtain⟨a4,X,g20⟩:=bnd g20;refine sq (gr fol [0,1] (kC k ((10,.i a4)::(kAm w (w.length:Int) p []))) (ac (iv qP encI X) (ac (lv 0 ce3 encI X rfl) az)) ?_);obtain⟨o,a5,g20⟩:=bnd g20;obtain⟨j,a6,g20⟩:=bnd g20;refine sq (gq fol [1,5,8] (kC k (kAW (w64 (o-1)) (kAm w (w.length:Int) p []))) [.cells (nq1 t),bg qd k,.cells (nb4 j)] (ac (cv (qbI a4 a5)) (ac (cv (qha N a4 t a6)) (ac (hs (.run [2] (qA ZT 172 (.ptr 2 0) (.agg (nb4 j))) (.cells (nq1 t)::bg qd k::(kJ [])) .undef [.cells (nq1 t),bg qd k,.cells (nb4 j)] true) (zD (n:=16) (by kernel_rfl) rfl rfl rfl rfl (cac rfl (cac nvc (cac rfl (cac nvc (cac rfl (cac nvc (cac rfl (cac nvc (cac rfl (cac nvc (cac rfl (cac nvc (cac rfl (cac nvc (cac rfl (cac nvc can)))))))))))))))) rfl)) az))) ?_);refine sh fol (kC k (kAW (w64 (o-1)) (kAm w (w.length:Int) p [(51,.slice 1 0 k.length k.length 1),(52,.i (k.length:Int)),(53,.i 0)]))) ?_;refine Goes.block ?_;obtain⟨r28,g28,g20⟩:=bnd g20;refine Goes.imp (Q:=fun x s'=>(x= .exit 4/\ ∃L,L=r28/\Sub s' (ofG 98 (kC L (kAm w (w.length:Int) p [])),[.cells (nq1 t),bg qd L]))) ?_ ?_
    ·refine Uc (fun M s=> ∃(a:List (List qm)) (d:Int),s=(ofG 98 (kC a (kAW (w64 (o-1)) (kH w (w.length:Int) p a (k.length:Int) d []))),[.cells (nq1 t),bg qd a,.cells (nb4 j)])/\vL N k o j M a d=some r28) ?_ (m:=N) ⟨_,_,rfl,g28⟩;rintro M s ⟨a,d,rfl,g28⟩
     cases M with
     |zero=>simp only[vL]at g28;cases g28
     |succ M=>
      rw[vL]at g28;refine sh fol (kC a (kAW (w64 (o-1)) (kH w (w.length:Int) p a (k.length:Int) d [(54,.bool (decide (d<(k.length:Int))))]))) ?_;refine sq ?_;refine ihD g28 (fun c29 g28=>?_) (fun c29 g28=>?_)
      ·refine Goes.skip ?_;refine sq (Goes.block ?_);obtain⟨e,I,g28⟩:=bnd g28;refine sq (Goes.sub (s':=(ofG 98 (kC a (kAW (w64 (o-1)) (kH w (w.length:Int) p a (k.length:Int) d [(54,.bool (decide (d<(k.length:Int))))]))),(.cells (nq1 t):: .bag ((a.map (zA qd)).set (d:Int).toNat (.av (.gslice 3 e.length 4))):: .cells (nb4 j)::(kK e [])))) (Uu (E:=qd) (b:=1) rfl I) ?_);refine gr fol [0,1] (kC a (kAW (w64 (o-1)) ((14,.gslice 3 e.length 4)::(kH w (w.length:Int) p a (k.length:Int) d [])))) (ac (hs (.done (.opt (qo ZT 111 (.slice 1 0 a.length a.length 1) (.i d))) (.ptr 1 ((d:Int).toNat*1+0))) (yX qim I)) (ac (hs (.run [1] (z8 ZT 120 (.ptr 1 ((d:Int).toNat*1+0))) (.cells (nq1 t):: .bag ((a.map (zA qd)).set (d:Int).toNat (.av (.gslice 3 e.length 4))):: .cells (nb4 j)::(kK e [])) (.gslice 3 e.length 4) (.cells (nq1 t):: .bag ((a.map (zA qd)).set (d:Int).toNat (.av (.gslice 3 e.length 4))):: .cells (nb4 j)::(kK e [])) false) (qiI qlY rfl (at_set I))) az)) ?_;obtain⟨u,J,g28⟩:=bnd g28;obtain⟨v,Y,g28⟩:=bnd g28;refine sq (gq fol [2,3,7,8,11,12] (kC a (kAW (w64 (o-1)) (kA8 e (kH w (w.length:Int) p a (k.length:Int) d [])))) (.cells (nq1 t):: .bag ((a.map (zA qd)).set (d:Int).toNat (.av (.gslice 3 e.length 4))):: .cells (nb4 j)::(kK e [.cells (nq1 u),.cells (nq1 v)])) (ac (hs (.done (.opt (qo ZT 120 (.gslice 3 e.length 4) (.i (w64 (o-1))))) (.ptr 3 ((w64 (o-1):Int).toNat*4+0))) (qb3 qdz J)) (ac (hs (.run [3] (z8 ZT 117 (.ptr 3 ((w64 (o-1):Int).toNat*4+0))) (.cells (nq1 t):: .bag ((a.map (zA qd)).set (d:Int).toNat (.av (.gslice 3 e.length 4))):: .cells (nb4 j)::(kK e [])) (.agg (nq1 u)) (.cells (nq1 t):: .bag ((a.map (zA qd)).set (d:Int).toNat (.av (.gslice 3 e.length 4))):: .cells (nb4 j)::(kK e [])) false) (qq3 qlC (E:=qd) (l:=e) rfl rfl J)) (ac (hs (.done (.opt (qo ZT 120 (.gslice 3 e.length 4) (.i (w64 ((w64 (o-1))+1))))) (.ptr 3 ((w64 ((w64 (o-1))+1):Int).toNat*4+0))) (qb3 qdz Y)) (ac (hs (.run [3] (z8 ZT 117 (.ptr 3 ((w64 ((w64 (o-1))+1):Int).toNat*4+0))) (.cells (nq1 t):: .bag ((a.map (zA qd)).set (d:Int).toNat (.av (.gslice 3 e.length 4))):: .cells (nb4 j)::(kK e [])) (.agg (nq1 v)) (.cells (nq1 t):: .bag ((a.map (zA qd)).set (d:Int).toNat (.av (.gslice 3 e.length 4))):: .cells (nb4 j)::(kK e [])) false) (qq3 qlC (E:=qd) (l:=e) rfl rfl Y)) (ac (hs (.run [4] (qA ZT 117 (.ptr 4 0) (.agg (nq1 u))) (.cells (nq1 t):: .bag ((a.map (zA qd)).set (d:Int).toNat (.av (.gslice 3 e.length 4))):: .cells (nb4 j)::(kK e (kF (kF [])))) .undef (.cells (nq1 t):: .bag ((a.map (zA qd)).set (d:Int).toNat (.av (.gslice 3 e.length 4))):: .cells (nb4 j)::(kK e (.cells (nq1 u)::(kF [])))) true) (zD (n:=4) (by kernel_rfl) rfl rfl rfl rfl (cac rfl (cac nvc (cac rfl (cac nvc can)))) rfl)) (ac (hs (.run [5] (qA ZT 117 (.ptr 5 0) (.agg (nq1 v))) (.cells (nq1 t):: .bag ((a.map (zA qd)).set (d:Int).toNat (.av (.gslice 3 e.length 4))):: .cells (nb4 j)::(kK e (.cells (nq1 u)::(kF [])))) .undef (.cells (nq1 t):: .bag ((a.map (zA qd)).set (d:Int).toNat (.av (.gslice 3 e.length 4))):: .cells (nb4 j)::(kK e [.cells (nq1 u),.cells (nq1 v)])) true) (zD (n:=4) (by kernel_rfl) rfl rfl rfl rfl (cac rfl (cac nvc (cac rfl (cac nvc can)))) rfl)) az)))))) ?_);obtain⟨r34,a7,g28⟩:=bnd g28;obtain⟨r35,a8,g28⟩:=bnd g28;obtain⟨r36,a9,g28⟩:=bnd g28;obtain⟨C,O,g28⟩:=bnd g28;refine sq (gq fol [6,11,12,13,14] (kC a (kAW (w64 (o-1)) (kA8 e (kH w (w.length:Int) p a (k.length:Int) d [])))) (.cells (nq1 t):: .bag ((a.map (zA qd)).set (d:Int).toNat (.av (.gslice 3 e.length 4))):: .cells (nb4 j)::(kK C [.cells (nq1 u),.cells (nq1 v)])) (ac (cv (qap N u j.1.1 a7)) (ac (cv (qap N v j.2.1 a8)) (ac (cv (qbx N r34 r35 a9)) (ac (hs (.done (.opt (qo ZT 120 (.gslice 3 e.length 4) (.i (w64 (o-1))))) (.ptr 3 ((w64 (o-1):Int).toNat*4+0))) (qb3 qdz J)) (ac (hs (.run [3] (qA ZT 117 (.ptr 3 ((w64 (o-1):Int).toNat*4+0)) (.agg (nq1 r36))) (.cells (nq1 t):: .bag ((a.map (zA qd)).set (d:Int).toNat (.av (.gslice 3 e.length 4))):: .cells (nb4 j)::(kK e [.cells (nq1 u),.cells (nq1 v)])) .undef (.cells (nq1 t):: .bag ((a.map (zA qd)).set (d:Int).toNat (.av (.gslice 3 e.length 4))):: .cells (nb4 j)::(kK C [.cells (nq1 u),.cells (nq1 v)])) true) (qbl (E:=qd) (l:=e) (y:=r36) rfl (show _=some 4 by kernel_rfl) rfl J rfl rfl rfl (cac rfl (cac nvc (cac rfl (cac nvc can)))) rfl O rfl)) az))))) ?_);refine Goes.sub (show Sub (ofG 98 (kC a (kAW (w64 (o-1)) (kA8 e (kH w (w.length:Int) p a (k.length:Int) d [])))),(.cells (nq1 t):: .bag ((a.map (zA qd)).set (d:Int).toNat (.av (.gslice 3 e.length 4))):: .cells (nb4 j)::(kK C [.cells (nq1 u),.cells (nq1 v)]))) (ofG 98 (kC a ((11,.i (w64 (o-1)))::(12,.ptr 3 0)::(14,.gslice 2 C.length 4)::(15,.ptr 4 0)::(16,.ptr 5 0)::(kH w (w.length:Int) p a (k.length:Int) d []))),(.cells (nq1 t):: .bag ((a.map (zA qd)).set (d:Int).toNat (.av (.gslice 2 C.length 4)))::(kK C [.cells (nb4 j),.cells (nq1 u),.cells (nq1 v)])))from(Sub.norm [] [some 0,some 1,some 3,some 2,some 4,some 5] rfl rfl (.kp (.keep (.slice rfl) (.keep (.same nI) (.kp (.keep (.gsliceE rfl (vS O)) (.kp (.kp (.keep (.same (qw encI _)) (.keep (.same nI) (.keep (.same nI) (.keep (.slice rfl) (.keep (.same nI) (.keep (.same nI) .nil))))))))))))) (.kb rfl (.same sn) (.kb rfl (jY.bgv (.gsliceE rfl (vS O))) (.ks (.kb rfl (.same sn) (.kb rfl (.same sn) (.kb rfl (.same sn) .nil)))))))) ?_;obtain⟨r38,b0,g28⟩:=bnd g28;obtain⟨r39,b1,g28⟩:=bnd g28;obtain⟨r40,b2,g28⟩:=bnd g28;obtain⟨x41,Z,g28⟩:=bnd g28;obtain⟨D,a0,g28⟩:=bnd g28;refine gq fol [7,12,13,14,15] (kC a ((11,.i (w64 (o-1)))::(12,.ptr 3 0)::(kH w (w.length:Int) p a (k.length:Int) d []))) (.cells (nq1 t):: .bag ((a.map (zA qd)).set (d:Int).toNat (.av (.gslice 2 C.length 4)))::(kK D [.cells (nb4 j),.cells (nq1 u),.cells (nq1 v)])) (ac (cv (qap N u j.1.2 b0)) (ac (cv (qap N v j.2.2 b1)) (ac (cv (qbx N r38 r39 b2)) (ac (hs (.done (.opt (qo ZT 120 (.gslice 2 C.length 4) (.i (w64 ((w64 (o-1))+1))))) (.ptr 2 ((w64 ((w64 (o-1))+1):Int).toNat*4+0))) (qb3 qdz Z)) (ac (hs (.run [2] (qA ZT 117 (.ptr 2 ((w64 ((w64 (o-1))+1):Int).toNat*4+0)) (.agg (nq1 r40))) (.cells (nq1 t):: .bag ((a.map (zA qd)).set (d:Int).toNat (.av (.gslice 2 C.length 4)))::(kK C [.cells (nb4 j),.cells (nq1 u),.cells (nq1 v)])) .undef (.cells (nq1 t):: .bag ((a.map (zA qd)).set (d:Int).toNat (.av (.gslice 2 C.length 4)))::(kK D [.cells (nb4 j),.cells (nq1 u),.cells (nq1 v)])) true) (qbl (E:=qd) (l:=C) (y:=r40) rfl (show _=some 4 by kernel_rfl) rfl Z rfl rfl rfl (cac rfl (cac nvc (cac rfl (cac nvc can)))) rfl a0 rfl)) az))))) ?_;refine Goes.sub ((show Sub (ofG 98 (kC a ((11,.i (w64 (o-1)))::(12,.ptr 3 0)::(kH w (w.length:Int) p a (k.length:Int) d []))),(.cells (nq1 t):: .bag ((a.map (zA qd)).set (d:Int).toNat (.av (.gslice 2 C.length 4)))::(kK D [.cells (nb4 j),.cells (nq1 u),.cells (nq1 v)]))) (ofG 98 (kC a ((11,.i (w64 (o-1)))::(12,.ptr 3 0)::(kH w (w.length:Int) p a (k.length:Int) d []))),[.cells (nq1 t),bg qd (qO a d D),.dead,.cells (nb4 j),.cells (nq1 u),.cells (nq1 v)])from(Uo (E:=qd) (b:=1) (c:=2) (Nat.ne_of_beq_eq_false rfl) rfl rfl I .g (vS a0))).trans (show Sub (ofG 98 (kC a ((11,.i (w64 (o-1)))::(12,.ptr 3 0)::(kH w (w.length:Int) p a (k.length:Int) d []))),[.cells (nq1 t),bg qd (qO a d D),.dead,.cells (nb4 j),.cells (nq1 u),.cells (nq1 v)]) (ofG 98 (kC (qO a d D) (kAW (w64 (o-1)) (kH w (w.length:Int) p (qO a d D) (k.length:Int) d []))),[.cells (nq1 t),bg qd (qO a d D),.cells (nb4 j)])from(Sub.norm [] [some 0,some 1,some 3] rfl rfl (.kp (.keep (.sliceE rfl (qcg _ _ _)) (.keep (.same nI) (.kp (.keep (.same (qw encI _)) (.keep (.same nI) (.keep (.same nI) (.keep (.sliceE rfl (qcg _ _ _)) (.keep (.same nI) (.keep (.same nI) .nil)))))))))) (.kb rfl (.same sn) (.kb rfl jY.bgs (.kb rfl (.same sn) .nil)))))) ?_;refine gh fol (kC (qO a d D) (kAW (w64 (o-1)) (kH w (w.length:Int) p (qO a d D) (k.length:Int) (w64 (d+1)) []))) ?_;exact⟨M,(ofG 98 (kC (qO a d D) (kAW (w64 (o-1)) (kH w (w.length:Int) p (qO a d D) (k.length:Int) (w64 (d+1)) []))),[.cells (nq1 t),bg qd (qO a d D),.cells (nb4 j)]),Nat.lt_succ_self _,(Sub.refl _),_,_,rfl,g28⟩
      refine Goes.exit ?_;obtain rfl:=si g28;exact⟨rfl,_,rfl,(Sub.norm [] [some 0,some 1] rfl rfl (.kp (.keep (.slice rfl) (.drop (.drop (.keep (.same (qw encI _)) (.keep (.same nI) (.keep (.same nI) .nil))))))) (.kb rfl (.same sn) (.kb rfl jY.bgs .nil)))⟩
    rintro x s' ⟨rfl,L,rfl,hsub⟩;refine Goes.sub hsub ?_;refine gh fol (kC L (kAm w (w.length:Int) (w64 (p+1)) [])) ?_;exact⟨M,(ofG 98 (kC L (kAm w (w.length:Int) (w64 (p+1)) [])),[.cells (nq1 t),bg qd L]),Nat.lt_succ_self _,(Sub.refl _),_,_,rfl,g20⟩
   refine Goes.exit ?_;obtain rfl:=si g20;exact⟨rfl,_,rfl,(Sub.norm [] [some 1] rfl rfl (.drop (.keep (.slice rfl) .nil)) (.kb rfl jY.bgs .nil))⟩
 rintro x s' ⟨rfl,F,rfl,hsub⟩;refine Goes.sub hsub ?_;refine sh fol [(6,.slice 0 0 F.length F.length 1)] ?_;refine Goes.sub (s':=(ofG 98 [(6,.slice 0 0 F.length F.length 1)],[.frozen (F.flatMap (qc qd).c)])) (Sub.bagFreeze (E:=qd) (b:=0) rfl) ?_;refine Goes.ret ?_;obtain rfl:=si h;exact(gw2 [.slice 0 0 F.length F.length 1] (Ux (Fz.slF (E:=(qc qd)) rfl rfl (nl rfl))))
def qeV (N:Nat) (a:Str):Option qm:=
 (strings_Cut a [47]).bind fun b=>
 if(!b.2.2)=true then
 (qb5 N b.1).bind fun c=>
 (qa5 c).bind fun d=>
 some d
 else
 (qb5 N b.1).bind fun e=>
 (qb5 N b.2.1).bind fun f=>
 some (⟨e,f⟩:qm)
theorem qkd (N:Nat) (a:Str) {res:qm} (h:qeV N a=some res):qf ZT (.fn 76) [.str a] [] (.agg (nq1 res)) []:=by
 unfold qeV at h;refine Ub Tryz.func76 rfl rfl (m:=22) rfl (rs:=[.cell 2 117]) rfl (l:=(kAw a)) rfl ?_;refine sg fol ((0,.str a)::(kW [])) (kF []) ?_;obtain⟨b,e,h⟩:=bnd h;refine sq (gr fol [1] (kW [(3,.str b.1),(4,.str b.2.1),(5,.bool b.2.2)]) (ac (cv (qdP a [47] e)) az) ?_);refine sq ?_;refine sh fol (kW ((3,.str b.1)::(4,.str b.2.1)::(kA2 (!b.2.2)))) ?_;refine ihB h (fun o h=>?_) (fun o h=>?_)
 ·obtain⟨p,f,h⟩:=bnd h;obtain⟨k,g,h⟩:=bnd h;refine sq (gq fol [1,2,3] (kW []) [.cells (nq1 k)] (ac (cv (qbq N b.1 f)) (ac (cv (qc0 p g)) (ac (hs (.run [0] (qA ZT 117 (.ptr 0 0) (.agg (nq1 k))) (kF []) .undef [.cells (nq1 k)] true) (zD (n:=4) (by kernel_rfl) rfl rfl rfl rfl (cac rfl (cac nvc (cac rfl (cac nvc can)))) rfl)) az))) ?_);refine Goes.ret ?_;obtain rfl:=si h;exact(gw2 [.agg (nq1 k)] (FzW.agg (qh.cons (Ua tI) (qh.cons (Ua (qx ZU _ (nl rfl))) (qh.cons (Ua tI) (qh.cons (Ua (qx ZU _ (nl rfl))) qh.nil))))))
 refine Goes.skip ?_;obtain⟨c,i,h⟩:=bnd h;obtain⟨d,j,h⟩:=bnd h;refine sq (gq fol [1,3,5] (kW []) [.cells (ni2 c.s c.w d.s d.w)] (ac (cv (qbq N b.1 i)) (ac (cv (qbq N b.2.1 j)) (ac (hs (.run [0] (qA ZT 117 (.ptr 0 0) (.agg (ni2 c.s c.w d.s d.w))) (kF []) .undef [.cells (ni2 c.s c.w d.s d.w)] true) (zD (n:=4) (by kernel_rfl) rfl rfl rfl rfl (cac rfl (cac nvc (cac rfl (cac nvc can)))) rfl)) az))) ?_);refine Goes.ret ?_;obtain rfl:=si h;exact(gw2 [.agg (ni2 c.s c.w d.s d.w)] (FzW.agg (qh.cons (Ua tI) (qh.cons (Ua (qx ZU _ (nl rfl))) (qh.cons (Ua tI) (qh.cons (Ua (qx ZU _ (nl rfl))) qh.nil))))))
def qbg (a:qC):Option (Bool×(List Int)):=
 if(!a.w.isEmpty)=true then
 some (decide (a.s<0),a.w)
 else
 if a.s=0 then
 some (false,[])
 else
 (qaL a.s).bind fun b=>
 some (decide (a.s<0),[b])
theorem qfU (a:qC) {res:Bool×(List Int)} (h:qbg a=some res):qf ZT (.fn 249) [.agg (nz1 a)] [] (.tuple [.bool res.1,vl ZU res.2]) []:=by
 unfold qbg at h;refine Ub Tryz.func249 rfl rfl (m:=24) rfl (rs:=[.tmp 2,.tmp 3]) rfl (l:=[(0,.agg (nz1 a))]) rfl ?_;refine sg fol (kAo []) [.cells (nz1 a)] ?_;refine sq (Goes.block ?_);refine sq (gr fol [2] (kAo (kAk (!a.w.isEmpty))) (ac (hs (.done (.opt (jB ZT .neq 113 (.tmp 6) (.const (.slice none 0 0)) (nvl ZU a.w) .nilslice)) (.bool (!a.w.isEmpty))) (ne_nv vX)) az) ?_);refine ihB h (fun c h=>?_) (fun c h=>?_)
 ·refine sh fol [(2,.bool (decide (a.s<0))),(3,nvl ZU a.w)] ?_;refine Goes.ret ?_;obtain rfl:=si h;exact(gw2 [.bool (decide (a.s<0)),nvl ZU a.w] (FzW.tuple (qh.cons (Ua tB) (qh.cons (FzW.nvL (E:=ZU) (nl rfl)) qh.nil))))
 refine sh fol (kAo (kA2 (decide (a.s=0)))) ?_;refine ihD h (fun d h=>?_) (fun d h=>?_)
 ·refine sh fol [(2,.bool false),(3,.nilslice)] ?_;refine Goes.ret ?_;obtain rfl:=si h;exact(gw2 [.bool false,.nilslice] (FzW.tuple (qh.cons (Ua tB) (qh.cons (FzW.nilv (E:=ZU)) qh.nil))))
 refine Goes.skip ?_;obtain⟨e,b,h⟩:=bnd h;refine sq (gq fol [5] [(2,.bool (decide (a.s<0))),(3,.slice 1 0 1 1 1)] [.cells (nz1 a),.cells [.int .u64 e]] (ac (cv (qd2 a.s b)) az) ?_);refine Goes.ret ?_;obtain rfl:=si h;exact(gw2 [.bool (decide (a.s<0)),.slice 1 0 1 1 1] (FzW.tuple (qh.cons (Ua tB) (qh.cons (Ux (Fz.lit rfl rfl (Up (AllST.cons tI AllST.nil)))) qh.nil))))
def bits_Len64 (a:Int):Option Int:=
 ((if a>=4294967296 then
 some (qW .u64 a 32,32)
 else
 some (a,0):Option (Int×Int))).bind fun(b,f)=>
 ((if b>=65536 then
 some (qW .u64 b 16,w64 (f+16))
 else
 some (b,f):Option (Int×Int))).bind fun(c,g)=>
 ((if c>=256 then
 some (qW .u64 c 8,w64 (g+8))
 else
 some (c,g):Option (Int×Int))).bind fun(h,d)=>
 (idx ([0,1,2,2,3,3,3,3,4,4,4,4,4,4,4,4,5,5,5,5,5,5,5,5,5,5,5,5,5,5,5,5,6,6,6,6,6,6,6,6,6,6,6,6,6,6,6,6,6,6,6,6,6,6,6,6,6,6,6,6,6,6,6,6,7,7,7,7,7,7,7,7,7,7,7,7,7,7,7,7,7,7,7,7,7,7,7,7,7,7,7,7,7,7,7,7,7,7,7,7,7,7,7,7,7,7,7,7,7,7,7,7,7,7,7,7,7,7,7,7,7,7,7,7,7,7,7,7,8,8,8,8,8,8,8,8,8,8,8,8,8,8,8,8,8,8,8,8,8,8,8,8,8,8,8,8,8,8,8,8,8,8,8,8,8,8,8,8,8,8,8,8,8,8,8,8,8,8,8,8,8,8,8,8,8,8,8,8,8,8,8,8,8,8,8,8,8,8,8,8,8,8,8,8,8,8,8,8,8,8,8,8,8,8,8,8,8,8,8,8,8,8,8,8,8,8,8,8,8,8,8,8,8,8,8,8,8,8,8,8,8,8,8,8,8,8,8,8,8,8,8,8,8,8,8,8]:Str) (wrap .u8 h)).bind fun e=>
 some (w64 (d+(w64 (e.toNat:Int))))
theorem qhU (b:Int) {res:Int} (h:bits_Len64 b=some res):qf ZT (.fn 262) [.int .u64 b] [] (.i res) []:=by
 unfold bits_Len64 at h;refine Ub Tryz.func262 rfl rfl (m:=25) rfl (rs:=[.tmp 2]) rfl (l:=(kBE b [])) rfl ?_;refine sh fol (kBE b [(2,.i 0)]) ?_;refine sq ?_;refine sh fol (kBE b ((2,.i 0)::(kAk (decide (b>=4294967296))))) ?_;obtain⟨p,g3,h⟩:=bnd h;refine Goes.imp (Q:=fun x s'=>(x= .normal/\ ∃c g,(c,g)=p/\Sub s' (ofG 25 (kBE c (kAx g)),[]))) ?_ ?_
 ·refine ihD g3 (fun q g3=>?_) (fun q g3=>?_)
  ·refine sh fol (kBE (qW .u64 b 32) []) ?_;refine gh fol (kBE (qW .u64 b 32) [(2,.i 32)]) ?_;obtain rfl:=si g3;exact⟨rfl,_,_,rfl,(Sub.refl _)⟩
  refine Goes.skip ?_;obtain rfl:=si g3;exact⟨rfl,_,_,rfl,(Sub.keep [0,2] rfl rfl)⟩
 rintro x s' ⟨rfl,c,g,rfl,hsub⟩
 try dsimp only at h
 refine Goes.sub hsub ?_;refine sq ?_;refine sh fol (kBE c ((2,.i g)::(kA5 (decide (c>=65536))))) ?_;obtain⟨r,g7,h⟩:=bnd h;refine Goes.imp (Q:=fun x s'=>(x= .normal/\ ∃d j,(d,j)=r/\Sub s' (ofG 25 (kBE d (kAx j)),[]))) ?_ ?_
 ·refine ihD g7 (fun s g7=>?_) (fun s g7=>?_)
  ·refine sh fol (kBE (qW .u64 c 16) (kAx g)) ?_;refine gh fol (kBE (qW .u64 c 16) (kAx (w64 (g+16)))) ?_;obtain rfl:=si g7;exact⟨rfl,_,_,rfl,(Sub.refl _)⟩
  refine Goes.skip ?_;obtain rfl:=si g7;exact⟨rfl,_,_,rfl,(Sub.keep [0,2] rfl rfl)⟩
 rintro x s' ⟨rfl,d,j,rfl,hsub⟩
 try dsimp only at h
 refine Goes.sub hsub ?_;refine sq ?_;refine sh fol (kBE d [(2,.i j),(14,.bool (decide (d>=256)))]) ?_;obtain⟨n,g11,h⟩:=bnd h;refine Goes.imp (Q:=fun x s'=>(x= .normal/\ ∃k a,(k,a)=n/\Sub s' (ofG 25 (kBE k (kAx a)),[]))) ?_ ?_
 ·refine ihD g11 (fun o g11=>?_) (fun o g11=>?_)
  ·refine sh fol (kBE (qW .u64 d 8) (kAx j)) ?_;refine gh fol (kBE (qW .u64 d 8) (kAx (w64 (j+8)))) ?_;obtain rfl:=si g11;exact⟨rfl,_,_,rfl,(Sub.refl _)⟩
  refine Goes.skip ?_;obtain rfl:=si g11;exact⟨rfl,_,_,rfl,(Sub.keep [0,2] rfl rfl)⟩
 rintro x s' ⟨rfl,k,a,rfl,hsub⟩
 try dsimp only at h
 refine Goes.sub hsub ?_;obtain⟨e,f,h⟩:=bnd h;refine sq (gr fol [3] (kAx (w64 (a+(w64 (e.toNat:Int))))) (ac (hs (.done (.opt (yx ZT 9 (.str [0,1,2,2,3,3,3,3,4,4,4,4,4,4,4,4,5,5,5,5,5,5,5,5,5,5,5,5,5,5,5,5,6,6,6,6,6,6,6,6,6,6,6,6,6,6,6,6,6,6,6,6,6,6,6,6,6,6,6,6,6,6,6,6,7,7,7,7,7,7,7,7,7,7,7,7,7,7,7,7,7,7,7,7,7,7,7,7,7,7,7,7,7,7,7,7,7,7,7,7,7,7,7,7,7,7,7,7,7,7,7,7,7,7,7,7,7,7,7,7,7,7,7,7,7,7,7,7,8,8,8,8,8,8,8,8,8,8,8,8,8,8,8,8,8,8,8,8,8,8,8,8,8,8,8,8,8,8,8,8,8,8,8,8,8,8,8,8,8,8,8,8,8,8,8,8,8,8,8,8,8,8,8,8,8,8,8,8,8,8,8,8,8,8,8,8,8,8,8,8,8,8,8,8,8,8,8,8,8,8,8,8,8,8,8,8,8,8,8,8,8,8,8,8,8,8,8,8,8,8,8,8,8,8,8,8,8,8,8,8,8,8,8,8,8,8,8,8,8,8,8,8,8,8,8,8]) (.int .u8 (wrap .u8 k)))) (.int .u8 (e.toNat:Int))) (qaq st9 f)) az) ?_);refine Goes.ret ?_;obtain rfl:=si h;exact(gw2 [.i (w64 (a+(w64 (e.toNat:Int))))] (Ua tI))
def qbL (a:qC):Option Int:=
 (qbg a).bind fun b=>
 if(b.2.length:Int)=0 then
 some 0
 else
 (idx b.2 (w64 ((b.2.length:Int)-1))).bind fun c=>
 (bits_Len64 c).bind fun d=>
 some (w64 ((w64 (64*(w64 ((b.2.length:Int)-1))))+d))
theorem qgf (a:qC) {res:Int} (h:qbL a=some res):qf ZT (.fn 202) [.agg (nz1 a)] [] (.i res) []:=by
 unfold qbL at h;refine Ub Tryz.func202 rfl rfl (m:=25) rfl (rs:=[.tmp 2]) rfl (l:=[(0,.agg (nz1 a))]) rfl ?_;refine sg fol (kAo []) [.cells (nz1 a)] ?_;obtain⟨c,d,h⟩:=bnd h;refine sq (gr fol [1] [(4,vl ZU c.2)] (ac (cv (qfU a d)) az) ?_);refine sq ?_;refine sh fol ((4,vl ZU c.2)::(kBD (decide ((c.2.length:Int)=0)))) ?_;refine ihD h (fun g h=>?_) (fun g h=>?_)
 ·refine sh fol [(2,.i 0)] ?_;refine Goes.ret ?_;obtain rfl:=si h;exact(gw2 [.i 0] (Ua tI))
 refine Goes.skip ?_;obtain⟨j,b,h⟩:=bnd h;obtain⟨f,e,h⟩:=bnd h;refine sq (gr fol [8,9,10] (kAx (w64 ((w64 (64*(w64 ((c.2.length:Int)-1))))+f))) (ac (iv sl113 ZU b) (ac (lv 0 ce241 ZU b rfl) (ac (cv (qhU j e)) az))) ?_);refine Goes.ret ?_;obtain rfl:=si h;exact(gw2 [.i (w64 ((w64 (64*(w64 ((c.2.length:Int)-1))))+f))] (Ua tI))
def qcU (n:qC):Option Bool:=
 ((qbL n).bind fun a=>
 if a>1800 then
 none
 else
 some ():Option Unit).bind fun _=>
 some false
theorem qdM (n:qC) {res:Bool} (h:qcU n=some res):qf ZT (.fn 152) [.agg (nz1 n)] [] (.bool res) []:=by
 unfold qcU at h;refine Ub Tryz.func152 rfl rfl (m:=13) rfl (rs:=[.tmp 2]) rfl (l:=[(0,.agg (nz1 n))]) rfl ?_;refine sg fol (kAo []) [.cells (nz1 n)] ?_;refine sq ?_;obtain⟨⟨⟩,a,h⟩:=bnd h;refine Goes.cut (s':=(ofG 13 kA7,[.cells (nz1 n)])) ?_ ?_
 ·obtain⟨d,b,a⟩:=bnd a;rcases wyD a with⟨c,a⟩|⟨c,a⟩
  ·cases a
  simp only[ZI,ZP]at a;obtain⟨⟩:=a;exact tr fol [1,3] kA7 (ac (cv (qgf n b)) (ac (gw c) az))
 refine Goes.ret ?_;obtain rfl:=si h;exact(gw2 [.bool false] (Ua tB))
def xz (a:qm):Option Bool:=
 ((qcU a.Num).bind fun b=>
 if b=true then
 some true
 else
 (qcU a.Den).bind fun c=>
 some c:Option Bool).bind fun d=>
 some d
theorem qe6 (a:qm) {res:Bool} (h:xz a=some res):qf ZT (.fn 80) [.agg (nq1 a)] [] (.bool res) []:=by
 unfold xz at h;refine Ub Tryz.func80 rfl rfl (m:=11) rfl (rs:=[.tmp 2]) rfl (l:=[(0,.agg (nq1 a))]) rfl ?_;refine sg fol (kAo []) [.cells (nq1 a)] ?_;refine sq ?_;obtain⟨f,b,h⟩:=bnd h;refine Goes.cut (s':=(ofG 11 [(2,.bool f)],[.cells (nq1 a)])) ?_ ?_
 ·obtain⟨i,c,b⟩:=bnd b;rcases wyB b with⟨e,b⟩|⟨e,b⟩
  ·obtain rfl:=si b;exact tr fol [2,3] [(2,.bool true)] (ac (cv (qdM a.Num c)) (ac (gw e) az))
  obtain⟨g,d,b⟩:=bnd b;obtain rfl:=si b;exact tr fol [2,3,6] [(2,.bool g)] (ac (cv (qdM a.Num c)) (ac (gw e) (ac (cv (qdM a.Den d)) az)))
 refine Goes.ret ?_;obtain rfl:=si h;exact(gw2 [.bool f] (Ua tB))
def qL (a:List qm):Nat->Int->Option (Unit⊕Int)
 |0,_=>none
 |K+1,b=>
  if b<(a.length:Int)then
  (idx a b).bind fun c=>
  (xz c).bind fun d=>
  if d=true then
  some (.inr b)
  else
  qL a K (w64 (b+1))
  else
  some (.inl ())
def jP (N:Nat) (a:List qm):Option Int:=
 (qL a N 0).bind (fun
 |(.inl ())=>
 some (-1)
 |(.inr b)=>
 some b)
theorem qbN (N:Nat) (a:List qm) {res:Int} (h:jP N a=some res):qf ZT (.fn 151) [vl qd a,.func (.func 80) [] []] [] (.i res) []:=by
 unfold jP at h;refine Ub Tryz.func151 rfl rfl (m:=19) rfl (rs:=[.tmp 4]) rfl (l:=(kAu a [(1,.func (.func 80) [] [])])) rfl ?_;refine sh fol (kAu a [(1,.func (.func 80) [] [])]) ?_;refine sq ?_;refine sh fol (kAu a [(1,.func (.func 80) [] []),(7,.i (a.length:Int)),(8,.i 0)]) ?_;refine Goes.block ?_;obtain⟨e,g2,h⟩:=bnd h;refine Goes.imp (Q:=fun x s'=>(x= .exit 0/\(.inl ())=e/\Sub s' (ofG 19 [],[]))\/(x= .ret/\ ∃f,(.inr f)=e/\qZ ZT [.tmp 4] (.i f) .ret s')) ?_ ?_
 ·refine Uc (fun M s=> ∃(b:Int),s=(ofG 19 (kAu a ((1,.func (.func 80) [] [])::(kZ (a.length:Int) b []))),[])/\qL a M b=some e) ?_ (m:=N) ⟨_,rfl,g2⟩;rintro M s ⟨b,rfl,g2⟩
  cases M with
  |zero=>simp only[qL]at g2;cases g2
  |succ M=>
   rw[qL]at g2;refine sh fol (kAu a ((1,.func (.func 80) [] [])::(kZ (a.length:Int) b [(9,.bool (decide (b<(a.length:Int))))]))) ?_;refine sq ?_;refine ihD g2 (fun g g2=>?_) (fun g g2=>?_)
   ·refine Goes.skip ?_;refine sq (Goes.block ?_);refine sh fol (kAu a ((1,.func (.func 80) [] [])::(5,.i b)::(kZ (a.length:Int) b []))) ?_;obtain⟨j,c,g2⟩:=bnd g2;obtain⟨k,d,g2⟩:=bnd g2;refine sq (gr fol [3,4,5] (kAu a ((1,.func (.func 80) [] [])::(5,.i b)::(kZ (a.length:Int) b [(16,.bool k)]))) (ac (iv qdz qd c) (ac (la qlC qd c) (ac (cv (qe6 j d)) az))) ?_);refine ihB g2 (fun n g2=>?_) (fun n g2=>?_)
    ·refine sh fol (kBF b) ?_;refine Goes.ret ?_;obtain rfl:=si g2;exact Or.inr (⟨rfl,_,rfl,(gw2 [.i b] (Ua tI))⟩)
    refine Goes.skip ?_;refine gh fol (kAu a ((1,.func (.func 80) [] [])::(kZ (a.length:Int) (w64 (b+1)) []))) ?_;exact⟨M,(ofG 19 (kAu a ((1,.func (.func 80) [] [])::(kZ (a.length:Int) (w64 (b+1)) []))),[]),Nat.lt_succ_self _,(Sub.refl _),_,rfl,g2⟩
   refine Goes.exit ?_;obtain rfl:=si g2;exact Or.inl (⟨rfl,rfl,(Sub.keep [] rfl rfl)⟩)
 rintro x s' (⟨rfl,rfl,hsub⟩|⟨rfl,o,rfl,hret⟩)
 ·try dsimp only at h
  refine Goes.sub hsub ?_;refine sh fol [(4,.i (-1))] ?_;refine Goes.ret ?_;obtain rfl:=si h;exact(gw2 [.i (-1)] (Ua tI))
 try dsimp only at h
 obtain rfl:=si h;exact hret
def ja (N:Nat) (a:List qm):Option Bool:=
 (jP N a).bind fun b=>
 some (decide (b>=0))
theorem qaZ (N:Nat) (a:List qm) {res:Bool} (h:ja N a=some res):qf ZT (.fn 79) [vl qd a,.func (.func 80) [] []] [] (.bool res) []:=by
 unfold ja at h;refine Ub Tryz.func79 rfl rfl (m:=9) rfl (rs:=[.tmp 4]) rfl (l:=(kAu a [(1,.func (.func 80) [] [])])) rfl ?_;refine sh fol (kAu a [(1,.func (.func 80) [] [])]) ?_;obtain⟨c,b,h⟩:=bnd h;refine sq (gr fol [2] (kAk (decide (c>=0))) (ac (hs (.call 151 [vl qd a,.func (.func 80) [] []] [] [] [vl qd a,.func (.func 80) [] []] (.i c)) (qeD (FzL.cons (Ui (qE qd _ (nl rfl))) (FzL.cons (Fz.func FzL.nil FzL.nil) FzL.nil)) (qbN N a b) tI)) az) ?_);refine Goes.ret ?_;obtain rfl:=si h;exact(gw2 [.bool (decide (c>=0))] (Ua tB))
def xJ (N:Nat) (row:List qm):Option Bool:=
 (ja N row).bind fun a=>
 some a
theorem qfj (N:Nat) (row:List qm) {res:Bool} (h:xJ N row=some res):qf ZT (.fn 78) [vl qd row] [] (.bool res) []:=by
 unfold xJ at h;refine Ub Tryz.func78 rfl rfl (m:=5) rfl (rs:=[.tmp 2]) rfl (l:=(kAu row [])) rfl ?_;refine sh fol (kAu row []) ?_;obtain⟨b,a,h⟩:=bnd h;refine sq (gr fol [1] [(2,.bool b)] (ac (hs (.call 79 [vl qd row,.func (.func 80) [] []] [] [] [vl qd row,.func (.func 80) [] []] (.bool b)) (qeD (FzL.cons (Ui (qE qd _ (nl rfl))) (FzL.cons (Fz.func FzL.nil FzL.nil) FzL.nil)) (qaZ N row a) tB)) az) ?_);refine Goes.ret ?_;obtain rfl:=si h;exact(gw2 [.bool b] (Ua tB))
def vM (a:qC):Option Str:=
 if a.w.isEmpty=true then
 (qmi a.s).bind fun b=>
 some b
 else
 none
theorem qaB (a:qC) {res:Str} (h:vM a=some res):qf ZT (.fn 203) [.agg (nz1 a)] [] (.str res) []:=by
 unfold vM at h;refine Ub Tryz.func203 rfl rfl (m:=69) rfl (rs:=[.tmp 2]) rfl (l:=[(0,.agg (nz1 a))]) rfl ?_;refine sg fol (kAo []) [.cells (nz1 a)] ?_;refine sq ?_;refine sq (gr fol [2] (kAo [(14,.bool a.w.isEmpty)]) (ac (hs (.done (.opt (jB ZT .eql 113 (.tmp 13) (.const (.slice none 0 0)) (nvl ZU a.w) .nilslice)) (.bool a.w.isEmpty)) (qag vX)) az) ?_);refine ihB h (fun d h=>?_) (fun d h=>?_)
 ·obtain⟨c,b,h⟩:=bnd h;refine sq (gr fol [2] [(2,.str c)] (ac (cv (qpE a.s b)) az) ?_);refine Goes.ret ?_;obtain rfl:=si h;exact(gw2 [.str c] (Ua tS))
 refine Goes.skip ?_;refine sq ?_;cases h
def qaf (a:qm):Option Str:=
 (jF a).bind fun b=>
 if b=true then
 (vM a.Num).bind fun c=>
 some c
 else
 (vM a.Num).bind fun d=>
 (cat d [47]).bind fun e=>
 (vM a.Den).bind fun f=>
 (cat e f).bind fun g=>
 some g
theorem qfw (a:qm) {res:Str} (h:qaf a=some res):qf ZT (.fn 153) [.agg (nq1 a)] [] (.str res) []:=by
 unfold qaf at h;refine Ub Tryz.func153 rfl rfl (m:=16) rfl (rs:=[.tmp 2]) rfl (l:=[(0,.agg (nq1 a))]) rfl ?_;refine sg fol (kAo []) [.cells (nq1 a)] ?_;refine sq ?_;obtain⟨n,b,h⟩:=bnd h;refine sq (gr fol [1] (kAo (kAk n)) (ac (cv (yA a b)) az) ?_);refine ihB h (fun o h=>?_) (fun o h=>?_)
 ·obtain⟨j,c,h⟩:=bnd h;refine sq (gr fol [2] [(2,.str j)] (ac (cv (qaB a.Num c)) az) ?_);refine Goes.ret ?_;obtain rfl:=si h;exact(gw2 [.str j] (Ua tS))
 refine Goes.skip ?_;obtain⟨p,d,h⟩:=bnd h;obtain⟨k,e,h⟩:=bnd h;obtain⟨q,f,h⟩:=bnd h;obtain⟨i,g,h⟩:=bnd h;refine sq (gr fol [2,3,6,7] [(2,.str i)] (ac (cv (qaB a.Num d)) (ac (hs (.done (.opt (jB ZT .add 9 (.tmp 10) (.const (.string ⟨#[47]⟩)) (.str p) (.str [47]))) (.str k)) (qef e)) (ac (cv (qaB a.Den f)) (ac (hs (.done (.opt (jB ZT .add 9 (.tmp 11) (.tmp 14) (.str k) (.str q))) (.str i)) (qef g)) az)))) ?_);refine Goes.ret ?_;obtain rfl:=si h;exact(gw2 [.str i] (Ua tS))
def yQ (l:List qm):Nat->(List Str)->Int->Option (List Str)
 |0,_,_=>none
 |K+1,b,a=>
  if a<(l.length:Int)then
  (idx l a).bind fun d=>
  (qaf d).bind fun e=>
  (idx b a).bind fun f=>
  (put b a e).bind fun c=>
  yQ l K c (w64 (a+1))
  else
  some b
def qcS (N:Nat) (l:List qm):Option (List Str):=
 (mk 16 (l.length:Int) []).bind fun a=>
 (yQ l N a 0).bind fun b=>
 some b
theorem qiU (N:Nat) (l:List qm) {res:List Str} (h:qcS N l=some res):qf ZT (.fn 82) [vl qd l] [] (vl encS res) []:=by
 unfold qcS at h;refine Ub Tryz.func82 rfl rfl (m:=23) rfl (rs:=[.tmp 2]) rfl (l:=(kAu l [])) rfl ?_;refine sh fol (kAu l []) ?_;obtain⟨k,o,h⟩:=bnd h;refine sq (gq fol [2] (kAu l (kS k [])) (kR k []) (ac (hs (.run [] (jD ZT 80 (.i (l.length:Int)) (.i (l.length:Int))) [] (.slice 0 0 k.length k.length 1) (kR k []) false) (qdK qhW (E:=encS) (z:=[]) rfl (by kernel_rfl) o rfl)) az) ?_);refine sq ?_;refine sh fol (kS k [(9,vl qd l),(10,.i (l.length:Int)),(11,.i 0)]) ?_;refine Goes.block ?_;obtain⟨q,g5,h⟩:=bnd h;refine Goes.imp (Q:=fun x s'=>(x= .exit 0/\ ∃e,e=q/\Sub s' (ofG 23 (kS e []),(kR e [])))) ?_ ?_
 ·refine Uc (fun M s=> ∃(b:List Str) (c:Int),s=(ofG 23 (kS b (kAd l (l.length:Int) c [])),(kR b []))/\yQ l M b c=some q) ?_ (m:=N) ⟨_,_,rfl,g5⟩;rintro M s ⟨b,c,rfl,g5⟩
  cases M with
  |zero=>simp only[yQ]at g5;cases g5
  |succ M=>
   rw[yQ]at g5;refine sh fol (kS b (kAd l (l.length:Int) c (kBD (decide (c<(l.length:Int)))))) ?_;refine sq ?_;refine ihD g5 (fun t g5=>?_) (fun t g5=>?_)
   ·refine Goes.skip ?_;refine sq (Goes.block ?_);obtain⟨f,g,g5⟩:=bnd g5;refine sq (gq fol [1,2,5] (kS b ((4,.i c)::(kAs (kAd l (l.length:Int) c [])))) (kR b [.cells (nq1 f)]) (ac (iv qdz qd g) (ac (la qlC qd g) (ac (hs (.run [1] (qA ZT 117 (.ptr 1 0) (.agg (nq1 f))) (kR b (kF [])) .undef (kR b [.cells (nq1 f)]) true) (zD (n:=4) (by kernel_rfl) rfl rfl rfl rfl (cac rfl (cac nvc (cac rfl (cac nvc can)))) rfl)) az))) ?_);obtain⟨r,p,g5⟩:=bnd g5;obtain⟨u,j,g5⟩:=bnd g5;obtain⟨a,d,g5⟩:=bnd g5;refine gq fol [3,4,5] (kS b (kAd l (l.length:Int) c [])) (kR a [.cells (nq1 f)]) (ac (cv (qfw f p)) (ac (hs (.done (.opt (qo ZT 80 (.slice 0 0 b.length b.length 1) (.i c))) (.ptr 0 ((c:Int).toNat*1+0))) (yX qhW j)) (ac (hs (.run [0] (qA ZT 71 (.ptr 0 ((c:Int).toNat*1+0)) (.str r)) (kR b [.cells (nq1 f)]) .undef (kR a [.cells (nq1 f)]) true) (qbl (E:=encS) (l:=b) (y:=r) rfl (show _=some 1 by kernel_rfl) rfl j rfl rfl rfl rfl rfl d rfl)) az))) ?_;refine Goes.sub (show Sub (ofG 23 (kS b (kAd l (l.length:Int) c [])),(kR a [.cells (nq1 f)])) (ofG 23 (kS a (kAd l (l.length:Int) c [])),(kR a []))from(Sub.norm [] [some 0] rfl rfl (.keep (.sliceE rfl (vS d)) (.keep (.same (qw qd _)) (.keep (.same nI) (.keep (.same nI) .nil)))) (.ks .nil))) ?_;refine gh fol (kS a (kAd l (l.length:Int) (w64 (c+1)) [])) ?_;exact⟨M,(ofG 23 (kS a (kAd l (l.length:Int) (w64 (c+1)) [])),(kR a [])),Nat.lt_succ_self _,(Sub.refl _),_,_,rfl,g5⟩
   refine Goes.exit ?_;obtain rfl:=si g5;exact⟨rfl,_,rfl,(Sub.keep [3] rfl rfl)⟩
 rintro x s' ⟨rfl,e,rfl,hsub⟩;refine Goes.sub hsub ?_;refine sh fol [(2,.slice 0 0 e.length e.length 1)] ?_;refine Goes.ret ?_;obtain rfl:=si h;exact(gw2 [.slice 0 0 e.length e.length 1] (Ux (Fz.sl (E:=encS) rfl rfl (nl rfl))))
end Go.Av
