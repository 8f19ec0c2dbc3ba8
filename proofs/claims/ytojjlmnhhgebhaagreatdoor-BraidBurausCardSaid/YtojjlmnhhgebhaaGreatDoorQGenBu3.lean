/-
  Walks of functions: what each computes, as a plain function.
-/
import Derived.Test.YtojjlmnhhgebhaaGreatDoorQGenBu2
noncomputable section
namespace Go.Av
open Go.Proofs Go.RowKit
set_option linter.unusedSectionVars false
set_option linter.unusedVariables false
set_option linter.unusedSimpArgs false
set_option maxRecDepth 100000
def qbS (N:Nat) (a:qo) (b:qo):Option Int:=
 (if a.w.isEmpty=true then
 some b.w.isEmpty
 else
 some false:Option Bool).bind fun c=>
 if c=true then
 if a.s<b.s then
 some (-1)
 else
 if a.s>b.s then
 some 1
 else
 some 0
 else
 (xq N a b).bind fun d=>
 (ky d).bind fun e=>
 some e
theorem qh6 (N:Nat) (a:qo) (b:qo) {res:Int} (h:qbS N a b=some res):qc ZT (.fn 97) [.agg (nz1 a),.agg (nz1 b)] [] (.i res) []:=by
 unfold qbS at h;refine Ub Tryz.func97 rfl rfl (m:=29) rfl (rs:=[.tmp 4]) rfl (l:=[(0,.agg (nz1 a)),(1,.agg (nz1 b))]) rfl ?_;refine sg fol (kAE (kA5 [])) [.cells (nz1 a),.cells (nz1 b)] ?_;refine sq ?_;refine sq ?_;obtain⟨j,c,h⟩:=bnd h;refine Ue (s':=(ofG 29 (kAE (kA5 (kA8 j))),[.cells (nz1 a),.cells (nz1 b)])) ?_ ?_
 ·rcases wyB c with⟨f,c⟩|⟨f,c⟩
  ·obtain rfl:=si c;exact tr fol [2,3,6] (kAE (kA5 (kA8 b.w.isEmpty))) (ac (hs (.done (.opt (ku ZT .eql 77 (.tmp 6) (.const (.slice none 0 0)) (nvl ZU a.w) .nilslice)) (.bool a.w.isEmpty)) (qaG qaC)) (ac (gw f) (ac (hs (.done (.opt (ku ZT .eql 77 (.tmp 10) (.const (.slice none 0 0)) (nvl ZU b.w) .nilslice)) (.bool b.w.isEmpty)) (qaG qaC)) az)))
  obtain rfl:=si c;exact tr fol [2,3] (kAE (kA5 [(12,.bool false)])) (ac (hs (.done (.opt (ku ZT .eql 77 (.tmp 6) (.const (.slice none 0 0)) (nvl ZU a.w) .nilslice)) (.bool a.w.isEmpty)) (qaG qaC)) (ac (gw f) az))
 refine ihB h (fun k h=>?_) (fun k h=>?_)
 ·refine sq (Goes.block ?_);refine sh fol (kAE (kA5 (kBC (decide (a.s<b.s))))) ?_;refine ihD h (fun n h=>?_) (fun n h=>?_)
  ·refine sh fol kBF ?_;refine Goes.ret ?_;obtain rfl:=si h;exact(gw2 [.i (-1)] (Ua tI))
  refine sh fol [(19,.bool (decide (a.s>b.s)))] ?_;refine ihD h (fun o h=>?_) (fun o h=>?_)
  ·refine sh fol [(4,.i 1)] ?_;refine Goes.ret ?_;obtain rfl:=si h;exact(gw2 [.i 1] (Ua tI))
  refine Goes.skip ?_;refine sh fol [(4,.i 0)] ?_;refine Goes.ret ?_;obtain rfl:=si h;exact(gw2 [.i 0] (Ua tI))
 refine Goes.skip ?_;obtain⟨p,d,h⟩:=bnd h;obtain⟨g,e,h⟩:=bnd h;refine sq (gr fol [2,3] (kBN g) (ac (cv (qeB N a b d)) (ac (cv (xO p e)) az)) ?_);refine Goes.ret ?_;obtain rfl:=si h;exact(gw2 [.i g] (Ua tI))
def qbj (N:Nat) (a:Str):Option Int:=
 (strings_CutPrefix a [45]).bind fun r=>
 (strings_Cut r.1 [47]).bind fun b=>
 ((jH b.1).bind fun t=>
 if t=true then
 if(!r.2)=true then
 some true
 else
 some (!(b.1==[48]))
 else
 some false:Option Bool).bind fun s=>
 ((if b.2.2=true then
 (if s=true then
 (jH b.2.1).bind fun g=>
 if g=true then
 if(!(b.2.1==[48]))=true then
 some (!(b.2.1==[49]))
 else
 some false
 else
 some false
 else
 some false:Option Bool).bind fun h=>
 some h
 else
 some s:Option Bool)).bind fun u=>
 ((zz (!u) 1).bind fun c=>
 if(b.1.length:Int)>600 then
 (zz true 4).bind fun d=>
 (yM N ([c,d]:List Int)).bind fun i=>
 some (c,d,i)
 else
 (zz (decide ((b.2.1.length:Int)>600)) 4).bind fun e=>
 (yM N ([c,e]:List Int)).bind fun j=>
 some (c,e,j):Option (Int×Int×Int)).bind fun(v,w,f)=>
 if(!decide (f=0))=true then
 some f
 else
 (if b.2.2=true then
 (qbg N b.1).bind fun k=>
 (qbg N b.2.1).bind fun l=>
 (qcN N k l).bind fun m=>
 (qcm 1).bind fun n=>
 (qbS N m n).bind fun o=>
 some (!decide (o=0))
 else
 some false:Option Bool).bind fun p=>
 (zz p 1).bind fun q=>
 some q
theorem qgW (N:Nat) (a:Str) {res:Int} (h:qbj N a=some res):qc ZT (.fn 38) [.str a] [] (.i res) []:=by
 unfold qbj at h;refine Ub Tryz.func38 rfl rfl (m:=76) rfl (rs:=[.tmp 2]) rfl (l:=(kAY a)) rfl ?_;refine sh fol (kAY a) ?_;obtain⟨V,H,h⟩:=bnd h;refine sq (gr fol [1] ((3,.str V.1)::(kAq V.2)) (ac (cv (qeK a [45] H)) az) ?_);obtain⟨e,I,h⟩:=bnd h;refine sq (gr fol [1] ((4,.bool V.2)::(kAH e.1 e.2.1 e.2.2 [])) (ac (cv (qeO V.1 [47] I)) az) ?_);refine sq ?_;obtain⟨b6,f,h⟩:=bnd h;refine Ue (s':=(ofG 76 (kAH e.1 e.2.1 e.2.2 (kBJ b6)),[])) ?_ ?_
 ·obtain⟨r3,k,f⟩:=bnd f;rcases wyB f with⟨X,f⟩|⟨X,f⟩
  ·rcases wyB f with⟨Y,f⟩|⟨Y,f⟩
   ·obtain rfl:=si f;exact tr fol [1,2,5] (kAH e.1 e.2.1 e.2.2 [(8,.bool true)]) (ac (cv (jw e.1 k)) (ac (gw X) (ac (gw Y) az)))
   obtain rfl:=si f;exact tr fol [1,2,5] (kAH e.1 e.2.1 e.2.2 (kBJ (!(e.1==[48])))) (ac (cv (jw e.1 k)) (ac (gw X) (ac (gw Y) az)))
  obtain rfl:=si f;exact tr fol [1,2] (kAH e.1 e.2.1 e.2.2 [(8,.bool false)]) (ac (cv (jw e.1 k)) (ac (gw X) az))
 refine sq ?_;refine sh fol (kAH e.1 e.2.1 e.2.2 [(8,.bool b6),(32,.bool e.2.2)]) ?_;obtain⟨r9,g9,h⟩:=bnd h;refine Goes.imp (Q:=fun x s'=>(x= .normal/\ ∃J,J=r9/\Sub s' (ofG 76 (kAH e.1 e.2.1 e.2.2 (kBJ J)),[]))) ?_ ?_
 ·refine ihB g9 (fun Z g9=>?_) (fun Z g9=>?_)
  ·obtain⟨a0,c,g9⟩:=bnd g9;refine Ue (s':=(ofG 76 (kAH e.1 e.2.1 e.2.2 (kBJ a0)),[])) ?_ ?_
   ·rcases wyB c with⟨n,c⟩|⟨n,c⟩
    ·obtain⟨r12,j,c⟩:=bnd c;rcases wyB c with⟨q,c⟩|⟨q,c⟩
     ·rcases wyB c with⟨t,c⟩|⟨t,c⟩
      ·obtain rfl:=si c;exact tr fol [1,3,5,9] (kAH e.1 e.2.1 e.2.2 (kBJ (!(e.2.1==[49])))) (ac (gw n) (ac (cv (jw e.2.1 j)) (ac (gw q) (ac (gw t) az))))
      obtain rfl:=si c;exact tr fol [1,3,5,9] (kAH e.1 e.2.1 e.2.2 [(8,.bool false)]) (ac (gw n) (ac (cv (jw e.2.1 j)) (ac (gw q) (ac (gw t) az))))
     obtain rfl:=si c;exact tr fol [1,3,5] (kAH e.1 e.2.1 e.2.2 [(8,.bool false)]) (ac (gw n) (ac (cv (jw e.2.1 j)) (ac (gw q) az)))
    obtain rfl:=si c;exact tr fol [1] (kAH e.1 e.2.1 e.2.2 [(8,.bool false)]) (ac (gw n) az)
   obtain rfl:=si g9;exact⟨rfl,_,rfl,(Sub.refl _)⟩
  refine Goes.skip ?_;obtain rfl:=si g9;exact⟨rfl,_,rfl,(Sub.keep [5,6,7,8] rfl rfl)⟩
 rintro x s' ⟨rfl,J,rfl,hsub⟩;refine Goes.sub hsub ?_;refine sq ?_;refine sq ?_;obtain⟨⟨K,L,o⟩,b,h⟩:=bnd h;refine Ue (s':=(ofG 76 (kAH e.1 e.2.1 e.2.2 [(9,.i o)]),(kA7 K L))) ?_ ?_
 ·obtain⟨g,p,b⟩:=bnd b;rcases wyD b with⟨u,b⟩|⟨u,b⟩
  ·obtain⟨r,v,b⟩:=bnd b;obtain⟨M,w,b⟩:=bnd b;simp only[ZI,ZP]at b;obtain⟨rfl,rfl,rfl⟩:=b;exact qd4.rq fol [2,6,11,13] (kAH e.1 e.2.1 e.2.2 [(9,.i M)]) (kA7 g r) (ac (cv (qai (!J) 1 p)) (ac (gw u) (ac (cv (qai true 4 v)) (ac (hs (.call 93 [.slice 0 0 2 2 1] (kA7 g r) [0] [vl encI ([g,r]:List Int)] (.i M)) (qfG (FzL.cons (Fz.lit rfl rfl (Uj (AllST.cons tI (AllST.cons tI AllST.nil)))) FzL.nil) (qd6 N ([g,r]:List Int) w) tI rfl)) az))))
  obtain⟨s,y,b⟩:=bnd b;obtain⟨O,z,b⟩:=bnd b;simp only[ZI,ZP]at b;obtain⟨rfl,rfl,rfl⟩:=b;exact qd4.rq fol [2,6,11,13] (kAH e.1 e.2.1 e.2.2 [(9,.i O)]) (kA7 g s) (ac (cv (qai (!J) 1 p)) (ac (gw u) (ac (cv (qai (decide ((e.2.1.length:Int)>600)) 4 y)) (ac (hs (.call 93 [.slice 0 0 2 2 1] (kA7 g s) [0] [vl encI ([g,s]:List Int)] (.i O)) (qfG (FzL.cons (Fz.lit rfl rfl (Uj (AllST.cons tI (AllST.cons tI AllST.nil)))) FzL.nil) (qd6 N ([g,s]:List Int) z) tI rfl)) az))))
 try dsimp only at h
 refine sh fol (kAH e.1 e.2.1 e.2.2 [(9,.i o),(61,.bool (!decide (o=0)))]) ?_;refine ihB h (fun a1 h=>?_) (fun a1 h=>?_)
 ·refine sh fol (kBA o) ?_;refine Goes.ret ?_;obtain rfl:=si h;exact(gw2 [.i o] (Ua tI))
 refine Goes.skip ?_;refine sq ?_;obtain⟨P,d,h⟩:=bnd h;refine Ue (s':=(ofG 76 (kA9 P),(kA7 K L))) ?_ ?_
 ·rcases wyB d with⟨A,d⟩|⟨A,d⟩
  ·obtain⟨a2,B,d⟩:=bnd d;obtain⟨a3,C,d⟩:=bnd d;obtain⟨a4,D,d⟩:=bnd d;obtain⟨a5,E,d⟩:=bnd d;obtain⟨a6,F,d⟩:=bnd d;obtain rfl:=si d;exact tr fol [1,3,5,6,7,8] (kA9 (!decide (a6=0))) (ac (gw A) (ac (cv (qbR N e.1 B)) (ac (cv (qbR N e.2.1 C)) (ac (cv (qh3 N a2 a3 D)) (ac (cv (qby 1 E)) (ac (cv (qh6 N a4 a5 F)) az))))))
  obtain rfl:=si d;exact tr fol [1] [(10,.bool false)] (ac (gw A) az)
 obtain⟨U,G,h⟩:=bnd h;refine sq (gr fol [1] (kBA U) (ac (cv (qai P 1 G)) az) ?_);refine Goes.ret ?_;obtain rfl:=si h;exact(gw2 [.i U] (Ua tI))
def qdv (n:Int):Option Int:=
 some (if(w64 (0-n))>n then(w64 (0-n))else n)
theorem qjI (n:Int) {res:Int} (h:qdv n=some res):qc ZT (.fn 65) [.i n] [] (.i res) []:=by
 unfold qdv at h;refine Ub Tryz.func65 rfl rfl (m:=7) rfl (rs:=[.tmp 2]) rfl (l:=[(0,.i n)]) rfl ?_;refine sh fol [(0,.i n)] ?_;refine sh fol (kBA (if(w64 (0-n))>n then(w64 (0-n))else n)) ?_;refine Goes.ret ?_;obtain rfl:=si h;exact(gw2 [.i (if(w64 (0-n))>n then(w64 (0-n))else n)] (Ua tI))
def bits_Mul (b:Int) (y:Int):Option (Int×Int):=
 (bits_Mul64 b y).bind fun a=>
 some (a.1,a.2)
theorem qkm (d:Int) (y:Int) {res:Int×Int} (h:bits_Mul d y=some res):qc ZT (.fn 134) (kAw d y) [] (.tuple (kAw res.1 res.2)) []:=by
 unfold bits_Mul at h;refine Ub Tryz.func134 rfl rfl (m:=30) rfl (rs:=[.tmp 4,.tmp 5]) rfl (l:=(kX d y [])) rfl ?_;refine sh fol (kX d y []) ?_;refine sq ?_;refine Goes.ifB (b:=false) (by kernel_rfl) (fun c=>(by cases c)) (fun _=>?_);refine Goes.skip ?_;obtain⟨a,e,h⟩:=bnd h;refine sq (gr fol [2] [(8,.int .u64 a.1),(9,.int .u64 a.2)] (ac (cv (qaL d y e)) az) ?_);refine sh fol [(4,.int .u64 a.1),(5,.int .u64 a.2)] ?_;refine Goes.ret ?_;obtain rfl:=si h;exact(gw2 (kAw a.1 a.2) (FzW.tuple (qf.cons (Ua tI) (qf.cons (Ua tI) qf.nil))))
def qbu (n:qo):Option qj:=
 (qcm 1).bind fun a=>
 some (⟨n,a⟩:qj)
theorem qdx (n:qo) {res:qj} (h:qbu n=some res):qc ZT (.fn 104) [.agg (nz1 n)] [] (.agg (nq1 res)) []:=by
 unfold qbu at h;refine Ub Tryz.func104 rfl rfl (m:=6) rfl (rs:=[.cell 2 81]) rfl (l:=[(0,.agg (nz1 n))]) rfl ?_;refine sg fol (kAb []) (.cells (nz1 n)::(kK [])) ?_;obtain⟨a,b,h⟩:=bnd h;refine sq (gq fol [1,3] kBM [.cells (nz1 n),.cells (ni2 n.s n.w a.s a.w)] (ac (cv (qby 1 b)) (ac (hs (.run [1] (qp ZT 81 (.ptr 1 0) (.agg (ni2 n.s n.w a.s a.w))) (.cells (nz1 n)::(kK [])) .undef [.cells (nz1 n),.cells (ni2 n.s n.w a.s a.w)] true) (kg (n:=4) (by kernel_rfl) rfl rfl rfl rfl (cac rfl (cac nvc (cac rfl (cac nvc can)))) rfl)) az)) ?_);refine Goes.ret ?_;obtain rfl:=si h;exact(gw2 [.agg (ni2 n.s n.w a.s a.w)] (FzW.agg (qf.cons (Ua tI) (qf.cons (Ua (qm ZU _ (nl rfl))) (qf.cons (Ua tI) (qf.cons (Ua (qm ZU _ (nl rfl))) qf.nil))))))
def qfi (n:Int):Option qj:=
 (qcm n).bind fun a=>
 (qbu a).bind fun b=>
 some b
theorem qf6 (n:Int) {res:qj} (h:qfi n=some res):qc ZT (.fn 100) [.i n] [] (.agg (nq1 res)) []:=by
 unfold qfi at h;refine Ub Tryz.func100 rfl rfl (m:=6) rfl (rs:=[.cell 2 81]) rfl (l:=[(0,.i n)]) rfl ?_;refine sg fol ((0,.i n)::(kAE [])) (kK []) ?_;obtain⟨d,a,h⟩:=bnd h;obtain⟨c,b,h⟩:=bnd h;refine sq (gq fol [1,2,3] (kAE []) [.cells (nq1 c)] (ac (cv (qby n a)) (ac (cv (qdx d b)) (ac (hs (.run [0] (qp ZT 81 (.ptr 0 0) (.agg (nq1 c))) (kK []) .undef [.cells (nq1 c)] true) (kg (n:=4) (by kernel_rfl) rfl rfl rfl rfl (cac rfl (cac nvc (cac rfl (cac nvc can)))) rfl)) az))) ?_);refine Goes.ret ?_;obtain rfl:=si h;exact(gw2 [.agg (nq1 c)] (FzW.agg (qf.cons (Ua tI) (qf.cons (Ua (qm ZU _ (nl rfl))) (qf.cons (Ua tI) (qf.cons (Ua (qm ZU _ (nl rfl))) qf.nil))))))
def vW (N:Nat) (a:qo) (b:qo):Option qo:=
 (ky b).bind fun f=>
 ((if f<0 then
 (zx a).bind fun d=>
 (zx b).bind fun e=>
 some (d.s,d.w,e.s,e.w)
 else
 some (a.s,a.w,b.s,b.w):Option (Int×(List Int)×Int×(List Int)))).bind fun(g,h,i,j)=>
 (jv N (⟨g,h⟩:qo) (⟨i,j⟩:qo)).bind fun c=>
 some c.1
theorem qeF (N:Nat) (a:qo) (b:qo) {res:qo} (h:vW N a b=some res):qc ZT (.fn 221) [.agg (nz1 a),.agg (nz1 b)] [] (.agg (nz1 res)) []:=by
 unfold vW at h;refine Ub Tryz.func221 rfl rfl (m:=21) rfl (rs:=[.cell 4 79]) rfl (l:=[(0,.agg (nz1 a)),(1,.agg (nz1 b))]) rfl ?_;refine sg fol (kG []) [.cells (nz1 a),.cells (nz1 b),bZ] ?_;refine sq ?_;obtain⟨r,j,h⟩:=bnd h;refine sq (gr fol [1] (kG [(9,.bool (decide (r<0)))]) (ac (cv (xO b j)) az) ?_);obtain⟨s,g6,h⟩:=bnd h;refine Goes.imp (Q:=fun x s'=>(x= .normal/\ ∃d e f g,(d,e,f,g)=s/\Sub s' (ofG 21 (kG []),[.cells (ni1 d e),.cells (ni1 f g),bZ]))) ?_ ?_
 ·refine ihD g6 (fun t g6=>?_) (fun t g6=>?_)
  ·obtain⟨k,o,g6⟩:=bnd g6;obtain⟨q,p,g6⟩:=bnd g6;refine gq fol [1,3,4,5] (kG []) [.cells (nz1 k),.cells (nz1 q),bZ] (ac (cv (jZ a o)) (ac (cv (jZ b p)) (ac (hs (.run [0] (qp ZT 79 (.ptr 0 0) (.agg (nz1 k))) [.cells (nz1 a),.cells (nz1 b),bZ] .undef [.cells (nz1 k),.cells (nz1 b),bZ] true) (kg (n:=2) (by kernel_rfl) rfl rfl rfl rfl (cac rfl (cac nvc can)) rfl)) (ac (hs (.run [1] (qp ZT 79 (.ptr 1 0) (.agg (nz1 q))) [.cells (nz1 k),.cells (nz1 b),bZ] .undef [.cells (nz1 k),.cells (nz1 q),bZ] true) (kg (n:=2) (by kernel_rfl) rfl rfl rfl rfl (cac rfl (cac nvc can)) rfl)) az)))) ?_;obtain rfl:=si g6;exact⟨rfl,_,_,_,_,rfl,(Sub.refl _)⟩
  refine Goes.skip ?_;obtain rfl:=si g6;exact⟨rfl,_,_,_,_,rfl,(Sub.keep [2,3,4] rfl rfl)⟩
 rintro x s' ⟨rfl,d,e,f,g,rfl,hsub⟩
 try dsimp only at h
 refine Goes.sub hsub ?_;obtain⟨c,i,h⟩:=bnd h;refine sq (gq fol [2,8,9] [(4,.ptr 2 0),(5,.ptr 3 0)] [.cells (ni1 d e),.cells (ni1 f g),bZ,.cells (nz1 c.1),.cells (nz1 c.2)] (ac (cv (qcQ N (⟨d,e⟩:qo) (⟨f,g⟩:qo) i)) (ac (hs (.run [3] (qp ZT 79 (.ptr 3 0) (.agg (nz1 c.1))) [.cells (ni1 d e),.cells (ni1 f g),bZ,bZ,bZ] .undef [.cells (ni1 d e),.cells (ni1 f g),bZ,.cells (nz1 c.1),bZ] true) (kg (n:=2) (by kernel_rfl) rfl rfl rfl rfl (cac rfl (cac nvc can)) rfl)) (ac (hs (.run [4] (qp ZT 79 (.ptr 4 0) (.agg (nz1 c.2))) [.cells (ni1 d e),.cells (ni1 f g),bZ,.cells (nz1 c.1),bZ] .undef [.cells (ni1 d e),.cells (ni1 f g),bZ,.cells (nz1 c.1),.cells (nz1 c.2)] true) (kg (n:=2) (by kernel_rfl) rfl rfl rfl rfl (cac rfl (cac nvc can)) rfl)) az))) ?_);refine sq (gq fol [1] kAc [.cells (ni1 d e),.cells (ni1 f g),.cells (nz1 c.1),.cells (nz1 c.1),.cells (nz1 c.2)] (ac (hs (.run [2] (qp ZT 79 (.ptr 2 0) (.agg (nz1 c.1))) [.cells (ni1 d e),.cells (ni1 f g),bZ,.cells (nz1 c.1),.cells (nz1 c.2)] .undef [.cells (ni1 d e),.cells (ni1 f g),.cells (nz1 c.1),.cells (nz1 c.1),.cells (nz1 c.2)] true) (kg (n:=2) (by kernel_rfl) rfl rfl rfl rfl (cac rfl (cac nvc can)) rfl)) az) ?_);refine Goes.ret ?_;obtain rfl:=si h;exact(gw2 [.agg (nz1 c.1)] (FzW.agg (qf.cons (Ua tI) (qf.cons (Ua (qm ZU _ (nl rfl))) qf.nil))))
def qbJ (N:Nat) (num:qo) (den:qo):Option qj:=
 (ky den).bind fun k=>
 ((if k<0 then
 (zx num).bind fun i=>
 (zx den).bind fun j=>
 some (i.s,i.w,j.s,j.w)
 else
 some (num.s,num.w,den.s,den.w):Option (Int×(List Int)×Int×(List Int)))).bind fun(d,e,b,c)=>
 (if c.isEmpty=true then
 some (decide (b=1))
 else
 some false:Option Bool).bind fun f=>
 if f=true then
 some (⟨(⟨d,e⟩:qo),(⟨b,c⟩:qo)⟩:qj)
 else
 (qcN N (⟨d,e⟩:qo) (⟨b,c⟩:qo)).bind fun a=>
 (vW N (⟨d,e⟩:qo) a).bind fun g=>
 (vW N (⟨b,c⟩:qo) a).bind fun h=>
 some (⟨g,h⟩:qj)
theorem qed (N:Nat) (num:qo) (den:qo) {res:qj} (h:qbJ N num den=some res):qc ZT (.fn 178) [.agg (nz1 num),.agg (nz1 den)] [] (.agg (nq1 res)) []:=by
 unfold qbJ at h;refine Ub Tryz.func178 rfl rfl (m:=34) rfl (rs:=[.cell 4 81]) rfl (l:=[(0,.agg (nz1 num)),(1,.agg (nz1 den))]) rfl ?_;refine sg fol (kG []) (.cells (nz1 num):: .cells (nz1 den)::(kK [])) ?_;refine sq ?_;obtain⟨A,q,h⟩:=bnd h;refine sq (gr fol [1] (kG (kBJ (decide (A<0)))) (ac (cv (xO den q)) az) ?_);obtain⟨B,g6,h⟩:=bnd h;refine Goes.imp (Q:=fun x s'=>(x= .normal/\ ∃d e c a,(d,e,c,a)=B/\Sub s' (ofG 34 (kG []),(.cells (ni1 d e):: .cells (ni1 c a)::(kK []))))) ?_ ?_
 ·refine ihD g6 (fun C g6=>?_) (fun C g6=>?_)
  ·obtain⟨r,t,g6⟩:=bnd g6;obtain⟨v,u,g6⟩:=bnd g6;refine gq fol [1,3,4,5] (kG []) (.cells (nz1 r):: .cells (nz1 v)::(kK [])) (ac (cv (jZ num t)) (ac (cv (jZ den u)) (ac (hs (.run [0] (qp ZT 79 (.ptr 0 0) (.agg (nz1 r))) (.cells (nz1 num):: .cells (nz1 den)::(kK [])) .undef (.cells (nz1 r):: .cells (nz1 den)::(kK [])) true) (kg (n:=2) (by kernel_rfl) rfl rfl rfl rfl (cac rfl (cac nvc can)) rfl)) (ac (hs (.run [1] (qp ZT 79 (.ptr 1 0) (.agg (nz1 v))) (.cells (nz1 r):: .cells (nz1 den)::(kK [])) .undef (.cells (nz1 r):: .cells (nz1 v)::(kK [])) true) (kg (n:=2) (by kernel_rfl) rfl rfl rfl rfl (cac rfl (cac nvc can)) rfl)) az)))) ?_;obtain rfl:=si g6;exact⟨rfl,_,_,_,_,rfl,(Sub.refl _)⟩
  refine Goes.skip ?_;obtain rfl:=si g6;exact⟨rfl,_,_,_,_,rfl,(Sub.keep [2,3,4] rfl rfl)⟩
 rintro x s' ⟨rfl,d,e,c,a,rfl,hsub⟩
 try dsimp only at h
 refine Goes.sub hsub ?_;refine sq ?_;refine sq ?_;obtain⟨y,b,h⟩:=bnd h;refine Ue (s':=(ofG 34 (kG [(20,.bool y)]),(.cells (ni1 d e):: .cells (ni1 c a)::(kK [])))) ?_ ?_
 ·rcases wyB b with⟨j,b⟩|⟨j,b⟩
  ·obtain rfl:=si b;exact tr fol [2,3] (kG [(20,.bool (decide (c=1)))]) (ac (hs (.done (.opt (ku ZT .eql 77 (.tmp 14) (.const (.slice none 0 0)) (nvl ZU a) .nilslice)) (.bool a.isEmpty)) (qaG qaC)) (ac (gw j) az))
  obtain rfl:=si b;exact tr fol [2,3] (kG [(20,.bool false)]) (ac (hs (.done (.opt (ku ZT .eql 77 (.tmp 14) (.const (.slice none 0 0)) (nvl ZU a) .nilslice)) (.bool a.isEmpty)) (qaG qaC)) (ac (gw j) az))
 refine ihB h (fun z h=>?_) (fun z h=>?_)
 ·refine sq (gq fol [3] kAc [.cells (ni1 d e),.cells (ni1 c a),.cells (ni2 d e c a)] (ac (hs (.run [2] (qp ZT 81 (.ptr 2 0) (.agg (ni2 d e c a))) (.cells (ni1 d e):: .cells (ni1 c a)::(kK [])) .undef [.cells (ni1 d e),.cells (ni1 c a),.cells (ni2 d e c a)] true) (kg (n:=4) (by kernel_rfl) rfl rfl rfl rfl (cac rfl (cac nvc (cac rfl (cac nvc can)))) rfl)) az) ?_);refine Goes.ret ?_;obtain rfl:=si h;exact(gw2 [.agg (ni2 d e c a)] (FzW.agg (qf.cons (Ua tI) (qf.cons (Ua (qm ZU _ (nl rfl))) (qf.cons (Ua tI) (qf.cons (Ua (qm ZU _ (nl rfl))) qf.nil))))))
 refine Goes.skip ?_;obtain⟨f,k,h⟩:=bnd h;refine sq (gq fol [2,4] (kG [(5,.ptr 3 0)]) (.cells (ni1 d e):: .cells (ni1 c a)::(kK [.cells (nz1 f)])) (ac (cv (qh3 N (⟨d,e⟩:qo) (⟨c,a⟩:qo) k)) (ac (hs (.run [3] (qp ZT 79 (.ptr 3 0) (.agg (nz1 f))) (.cells (ni1 d e):: .cells (ni1 c a)::(kK [bZ])) .undef (.cells (ni1 d e):: .cells (ni1 c a)::(kK [.cells (nz1 f)])) true) (kg (n:=2) (by kernel_rfl) rfl rfl rfl rfl (cac rfl (cac nvc can)) rfl)) az)) ?_);obtain⟨g,o,h⟩:=bnd h;obtain⟨i,p,h⟩:=bnd h;refine sq (gq fol [2,5,7] kAc [.cells (ni1 d e),.cells (ni1 c a),.cells (ni2 g.s g.w i.s i.w),.cells (nz1 f)] (ac (cv (qeF N (⟨d,e⟩:qo) f o)) (ac (cv (qeF N (⟨c,a⟩:qo) f p)) (ac (hs (.run [2] (qp ZT 81 (.ptr 2 0) (.agg (ni2 g.s g.w i.s i.w))) (.cells (ni1 d e):: .cells (ni1 c a)::(kK [.cells (nz1 f)])) .undef [.cells (ni1 d e),.cells (ni1 c a),.cells (ni2 g.s g.w i.s i.w),.cells (nz1 f)] true) (kg (n:=4) (by kernel_rfl) rfl rfl rfl rfl (cac rfl (cac nvc (cac rfl (cac nvc can)))) rfl)) az))) ?_);refine Goes.ret ?_;obtain rfl:=si h;exact(gw2 [.agg (ni2 g.s g.w i.s i.w)] (FzW.agg (qf.cons (Ua tI) (qf.cons (Ua (qm ZU _ (nl rfl))) (qf.cons (Ua tI) (qf.cons (Ua (qm ZU _ (nl rfl))) qf.nil))))))
def jL (a:qj):Option Bool:=
 (if a.Den.w.isEmpty=true then
 some (decide (a.Den.s=1))
 else
 some false:Option Bool).bind fun b=>
 some b
theorem y7 (a:qj) {res:Bool} (h:jL a=some res):qc ZT (.fn 179) [.agg (nq1 a)] [] (.bool res) []:=by
 unfold jL at h;refine Ub Tryz.func179 rfl rfl (m:=13) rfl (rs:=[.tmp 2]) rfl (l:=[(0,.agg (nq1 a))]) rfl ?_;refine sg fol (kAu []) [.cells (nq1 a)] ?_;refine sq ?_;obtain⟨d,b,h⟩:=bnd h;refine Ue (s':=(ofG 13 [(2,.bool d)],[.cells (nq1 a)])) ?_ ?_
 ·rcases wyB b with⟨c,b⟩|⟨c,b⟩
  ·obtain rfl:=si b;exact tr fol [3,4] [(2,.bool (decide (a.Den.s=1)))] (ac (hs (.done (.opt (ku ZT .eql 77 (.tmp 5) (.const (.slice none 0 0)) (nvl ZU a.Den.w) .nilslice)) (.bool a.Den.w.isEmpty)) (qaG qaC)) (ac (gw c) az))
  obtain rfl:=si b;exact tr fol [3,4] [(2,.bool false)] (ac (hs (.done (.opt (ku ZT .eql 77 (.tmp 5) (.const (.slice none 0 0)) (nvl ZU a.Den.w) .nilslice)) (.bool a.Den.w.isEmpty)) (qaG qaC)) (ac (gw c) az))
 refine Goes.ret ?_;obtain rfl:=si h;exact(gw2 [.bool d] (Ua tB))
def yQ (N:Nat) (a:qj) (b:qj):Option qj:=
 ((jL a).bind fun g=>
 if g=true then
 (jL b).bind fun h=>
 some h
 else
 some false:Option Bool).bind fun i=>
 if i=true then
 (vH N a.Num b.Num).bind fun j=>
 (qbu j).bind fun k=>
 some k
 else
 (qM N a.Num b.Den).bind fun l=>
 (qM N b.Num a.Den).bind fun c=>
 (vH N l c).bind fun d=>
 (qM N a.Den b.Den).bind fun e=>
 (qbJ N d e).bind fun f=>
 some f
theorem qbZ (N:Nat) (a:qj) (b:qj) {res:qj} (h:yQ N a b=some res):qc ZT (.fn 103) [.agg (nq1 a),.agg (nq1 b)] [] (.agg (nq1 res)) []:=by
 unfold yQ at h;refine Ub Tryz.func103 rfl rfl (m:=34) rfl (rs:=[.cell 4 81]) rfl (l:=[(0,.agg (nq1 a)),(1,.agg (nq1 b))]) rfl ?_;refine sg fol (kG []) (.cells (nq1 a):: .cells (nq1 b)::(kK [])) ?_;refine sq ?_;refine sq ?_;obtain⟨w,c,h⟩:=bnd h;refine Ue (s':=(ofG 34 (kG (kA9 w)),(.cells (nq1 a):: .cells (nq1 b)::(kK [])))) ?_ ?_
 ·obtain⟨B,e,c⟩:=bnd c;rcases wyB c with⟨s,c⟩|⟨s,c⟩
  ·obtain⟨x,k,c⟩:=bnd c;obtain rfl:=si c;exact tr fol [1,2,4] (kG (kA9 x)) (ac (cv (y7 a e)) (ac (gw s) (ac (cv (y7 b k)) az)))
  obtain rfl:=si c;exact tr fol [1,2] (kG [(10,.bool false)]) (ac (cv (y7 a e)) (ac (gw s) az))
 refine ihB h (fun y h=>?_) (fun y h=>?_)
 ·obtain⟨z,o,h⟩:=bnd h;obtain⟨r,p,h⟩:=bnd h;refine sq (gq fol [4,5,6] kAc [.cells (nq1 a),.cells (nq1 b),.cells (nq1 r)] (ac (cv (qac N a.Num b.Num o)) (ac (cv (qdx z p)) (ac (hs (.run [2] (qp ZT 81 (.ptr 2 0) (.agg (nq1 r))) (.cells (nq1 a):: .cells (nq1 b)::(kK [])) .undef [.cells (nq1 a),.cells (nq1 b),.cells (nq1 r)] true) (kg (n:=4) (by kernel_rfl) rfl rfl rfl rfl (cac rfl (cac nvc (cac rfl (cac nvc can)))) rfl)) az))) ?_);refine Goes.ret ?_;obtain rfl:=si h;exact(gw2 [.agg (nq1 r)] (FzW.agg (qf.cons (Ua tI) (qf.cons (Ua (qm ZU _ (nl rfl))) (qf.cons (Ua tI) (qf.cons (Ua (qm ZU _ (nl rfl))) qf.nil))))))
 refine Goes.skip ?_;obtain⟨A,q,h⟩:=bnd h;obtain⟨t,f,h⟩:=bnd h;obtain⟨u,g,h⟩:=bnd h;obtain⟨v,i,h⟩:=bnd h;obtain⟨d,j,h⟩:=bnd h;refine sq (gq fol [4,9,10,15,16,17] kAc [.cells (nq1 a),.cells (nq1 b),.cells (nq1 d)] (ac (cv (jY N a.Num b.Den q)) (ac (cv (jY N b.Num a.Den f)) (ac (cv (qac N A t g)) (ac (cv (jY N a.Den b.Den i)) (ac (cv (qed N u v j)) (ac (hs (.run [2] (qp ZT 81 (.ptr 2 0) (.agg (nq1 d))) (.cells (nq1 a):: .cells (nq1 b)::(kK [])) .undef [.cells (nq1 a),.cells (nq1 b),.cells (nq1 d)] true) (kg (n:=4) (by kernel_rfl) rfl rfl rfl rfl (cac rfl (cac nvc (cac rfl (cac nvc can)))) rfl)) az)))))) ?_);refine Goes.ret ?_;obtain rfl:=si h;exact(gw2 [.agg (nq1 d)] (FzW.agg (qf.cons (Ua tI) (qf.cons (Ua (qm ZU _ (nl rfl))) (qf.cons (Ua tI) (qf.cons (Ua (qm ZU _ (nl rfl))) qf.nil))))))
def qbf (a:qj):Option qj:=
 (zx a.Num).bind fun b=>
 some (⟨b,a.Den⟩:qj)
theorem qgZ (a:qj) {res:qj} (h:qbf a=some res):qc ZT (.fn 220) [.agg (nq1 a)] [] (.agg (nq1 res)) []:=by
 unfold qbf at h;refine Ub Tryz.func220 rfl rfl (m:=9) rfl (rs:=[.cell 2 81]) rfl (l:=[(0,.agg (nq1 a))]) rfl ?_;refine sg fol (kAb []) (.cells (nq1 a)::(kK [])) ?_;obtain⟨b,c,h⟩:=bnd h;refine sq (gq fol [2,6] kBM [.cells (nq1 a),.cells (ni2 b.s b.w a.Den.s a.Den.w)] (ac (cv (jZ a.Num c)) (ac (hs (.run [1] (qp ZT 81 (.ptr 1 0) (.agg (ni2 b.s b.w a.Den.s a.Den.w))) (.cells (nq1 a)::(kK [])) .undef [.cells (nq1 a),.cells (ni2 b.s b.w a.Den.s a.Den.w)] true) (kg (n:=4) (by kernel_rfl) rfl rfl rfl rfl (cac rfl (cac nvc (cac rfl (cac nvc can)))) rfl)) az)) ?_);refine Goes.ret ?_;obtain rfl:=si h;exact(gw2 [.agg (ni2 b.s b.w a.Den.s a.Den.w)] (FzW.agg (qf.cons (Ua tI) (qf.cons (Ua (qm ZU _ (nl rfl))) (qf.cons (Ua tI) (qf.cons (Ua (qm ZU _ (nl rfl))) qf.nil))))))
def qaB (N:Nat) (a:qj) (b:qj):Option qj:=
 (qbf b).bind fun c=>
 (yQ N a c).bind fun d=>
 some d
theorem qd2 (N:Nat) (a:qj) (b:qj) {res:qj} (h:qaB N a b=some res):qc ZT (.fn 176) [.agg (nq1 a),.agg (nq1 b)] [] (.agg (nq1 res)) []:=by
 unfold qaB at h;refine Ub Tryz.func176 rfl rfl (m:=9) rfl (rs:=[.cell 4 81]) rfl (l:=[(0,.agg (nq1 a)),(1,.agg (nq1 b))]) rfl ?_;refine sg fol (kG []) (.cells (nq1 a):: .cells (nq1 b)::(kK [])) ?_;obtain⟨f,c,h⟩:=bnd h;obtain⟨e,d,h⟩:=bnd h;refine sq (gq fol [2,3,4] kAc [.cells (nq1 a),.cells (nq1 b),.cells (nq1 e)] (ac (cv (qgZ b c)) (ac (cv (qbZ N a f d)) (ac (hs (.run [2] (qp ZT 81 (.ptr 2 0) (.agg (nq1 e))) (.cells (nq1 a):: .cells (nq1 b)::(kK [])) .undef [.cells (nq1 a),.cells (nq1 b),.cells (nq1 e)] true) (kg (n:=4) (by kernel_rfl) rfl rfl rfl rfl (cac rfl (cac nvc (cac rfl (cac nvc can)))) rfl)) az))) ?_);refine Goes.ret ?_;obtain rfl:=si h;exact(gw2 [.agg (nq1 e)] (FzW.agg (qf.cons (Ua tI) (qf.cons (Ua (qm ZU _ (nl rfl))) (qf.cons (Ua tI) (qf.cons (Ua (qm ZU _ (nl rfl))) qf.nil))))))
def qay (N:Nat) (a:qj):Option qj:=
 (qbJ N a.Den a.Num).bind fun b=>
 some b
theorem qd3 (N:Nat) (a:qj) {res:qj} (h:qay N a=some res):qc ZT (.fn 177) [.agg (nq1 a)] [] (.agg (nq1 res)) []:=by
 unfold qay at h;refine Ub Tryz.func177 rfl rfl (m:=8) rfl (rs:=[.cell 2 81]) rfl (l:=[(0,.agg (nq1 a))]) rfl ?_;refine sg fol (kAb []) (.cells (nq1 a)::(kK [])) ?_;obtain⟨c,b,h⟩:=bnd h;refine sq (gq fol [4,5] kBM [.cells (nq1 a),.cells (nq1 c)] (ac (cv (qed N a.Den a.Num b)) (ac (hs (.run [1] (qp ZT 81 (.ptr 1 0) (.agg (nq1 c))) (.cells (nq1 a)::(kK [])) .undef [.cells (nq1 a),.cells (nq1 c)] true) (kg (n:=4) (by kernel_rfl) rfl rfl rfl rfl (cac rfl (cac nvc (cac rfl (cac nvc can)))) rfl)) az)) ?_);refine Goes.ret ?_;obtain rfl:=si h;exact(gw2 [.agg (nq1 c)] (FzW.agg (qf.cons (Ua tI) (qf.cons (Ua (qm ZU _ (nl rfl))) (qf.cons (Ua tI) (qf.cons (Ua (qm ZU _ (nl rfl))) qf.nil))))))
def qbP (N:Nat) (letter:Int) (t:qj):Option ((qj×qj)×(qj×qj)):=
 (qfi 1).bind fun a=>
 (qfi 0).bind fun b=>
 if letter>0 then
 (qaB N a t).bind fun c=>
 some ((c,t),(a,b))
 else
 (qay N t).bind fun d=>
 (qay N t).bind fun e=>
 (qaB N a e).bind fun f=>
 some ((b,a),(d,f))
theorem qhq (N:Nat) (letter:Int) (t:qj) {res:((qj×qj)×(qj×qj))} (h:qbP N letter t=some res):qc ZT (.fn 101) [.i letter,.agg (nq1 t)] [] (.agg (nb4 res)) []:=by
 unfold qbP at h;refine Ub Tryz.func101 rfl rfl (m:=31) rfl (rs:=[.cell 4 143]) rfl (l:=[(0,.i letter),(1,.agg (nq1 t))]) rfl ?_;refine sg fol ((0,.i letter)::(3,.ptr 0 0)::kA3) (.cells (nq1 t)::(kO [])) ?_;obtain⟨a,c,h⟩:=bnd h;obtain⟨b,d,h⟩:=bnd h;refine sq (gq fol [0,1,4,5] [(0,.i letter),(3,.ptr 0 0),(4,.ptr 1 0),(5,.ptr 2 0),(6,.ptr 3 0)] (.cells (nq1 t)::(kO [.cells (nq1 a),.cells (nq1 b)])) (ac (cv (qf6 1 c)) (ac (cv (qf6 0 d)) (ac (hs (.run [2] (qp ZT 81 (.ptr 2 0) (.agg (nq1 a))) (.cells (nq1 t)::(kO (kK (kK [])))) .undef (.cells (nq1 t)::(kO (.cells (nq1 a)::(kK [])))) true) (kg (n:=4) (by kernel_rfl) rfl rfl rfl rfl (cac rfl (cac nvc (cac rfl (cac nvc can)))) rfl)) (ac (hs (.run [3] (qp ZT 81 (.ptr 3 0) (.agg (nq1 b))) (.cells (nq1 t)::(kO (.cells (nq1 a)::(kK [])))) .undef (.cells (nq1 t)::(kO [.cells (nq1 a),.cells (nq1 b)])) true) (kg (n:=4) (by kernel_rfl) rfl rfl rfl rfl (cac rfl (cac nvc (cac rfl (cac nvc can)))) rfl)) az)))) ?_);refine sq ?_;refine sh fol ((3,.ptr 0 0)::(4,.ptr 1 0)::(5,.ptr 2 0)::(6,.ptr 3 0)::(kA9 (decide (letter>0)))) ?_;refine ihD h (fun q h=>?_) (fun q h=>?_)
 ·obtain⟨k,e,h⟩:=bnd h;refine sq (gq fol [2,9] kA3 [.cells (nq1 t),.cells (nq4 k t a b),.cells (nq1 a),.cells (nq1 b)] (ac (cv (qd2 N a t e)) (ac (hs (.run [1] (qp ZT 143 (.ptr 1 0) (.agg (nq4 k t a b))) (.cells (nq1 t)::(kO [.cells (nq1 a),.cells (nq1 b)])) .undef [.cells (nq1 t),.cells (nq4 k t a b),.cells (nq1 a),.cells (nq1 b)] true) (kg (n:=16) (by kernel_rfl) rfl rfl rfl rfl (cac rfl (cac nvc (cac rfl (cac nvc (cac rfl (cac nvc (cac rfl (cac nvc (cac rfl (cac nvc (cac rfl (cac nvc (cac rfl (cac nvc (cac rfl (cac nvc can)))))))))))))))) rfl)) az)) ?_);refine Goes.ret ?_;obtain rfl:=si h;exact(gw2 [.agg (nq4 k t a b)] (FzW.agg (qf.cons (Ua tI) (qf.cons (Ua (qm ZU _ (nl rfl))) (qf.cons (Ua tI) (qf.cons (Ua (qm ZU _ (nl rfl))) (qf.cons (Ua tI) (qf.cons (Ua (qm ZU _ (nl rfl))) (qf.cons (Ua tI) (qf.cons (Ua (qm ZU _ (nl rfl))) (qf.cons (Ua tI) (qf.cons (Ua (qm ZU _ (nl rfl))) (qf.cons (Ua tI) (qf.cons (Ua (qm ZU _ (nl rfl))) (qf.cons (Ua tI) (qf.cons (Ua (qm ZU _ (nl rfl))) (qf.cons (Ua tI) (qf.cons (Ua (qm ZU _ (nl rfl))) qf.nil))))))))))))))))))
 refine Goes.skip ?_;obtain⟨o,f,h⟩:=bnd h;obtain⟨r,g,h⟩:=bnd h;obtain⟨p,j,h⟩:=bnd h;refine sq (gq fol [4,7,8,11] kA3 [.cells (nq1 t),.cells (nq4 b a o p),.cells (nq1 a),.cells (nq1 b)] (ac (cv (qd3 N t f)) (ac (cv (qd3 N t g)) (ac (cv (qd2 N a r j)) (ac (hs (.run [1] (qp ZT 143 (.ptr 1 0) (.agg (nq4 b a o p))) (.cells (nq1 t)::(kO [.cells (nq1 a),.cells (nq1 b)])) .undef [.cells (nq1 t),.cells (nq4 b a o p),.cells (nq1 a),.cells (nq1 b)] true) (kg (n:=16) (by kernel_rfl) rfl rfl rfl rfl (cac rfl (cac nvc (cac rfl (cac nvc (cac rfl (cac nvc (cac rfl (cac nvc (cac rfl (cac nvc (cac rfl (cac nvc (cac rfl (cac nvc (cac rfl (cac nvc can)))))))))))))))) rfl)) az)))) ?_);refine Goes.ret ?_;obtain rfl:=si h;exact(gw2 [.agg (nq4 b a o p)] (FzW.agg (qf.cons (Ua tI) (qf.cons (Ua (qm ZU _ (nl rfl))) (qf.cons (Ua tI) (qf.cons (Ua (qm ZU _ (nl rfl))) (qf.cons (Ua tI) (qf.cons (Ua (qm ZU _ (nl rfl))) (qf.cons (Ua tI) (qf.cons (Ua (qm ZU _ (nl rfl))) (qf.cons (Ua tI) (qf.cons (Ua (qm ZU _ (nl rfl))) (qf.cons (Ua tI) (qf.cons (Ua (qm ZU _ (nl rfl))) (qf.cons (Ua tI) (qf.cons (Ua (qm ZU _ (nl rfl))) (qf.cons (Ua tI) (qf.cons (Ua (qm ZU _ (nl rfl))) qf.nil))))))))))))))))))
def jQ (N:Nat) (a:qj) (b:qj):Option qj:=
 (qM N a.Num b.Num).bind fun c=>
 (qM N a.Den b.Den).bind fun d=>
 (qbJ N c d).bind fun e=>
 some e
theorem qaN (N:Nat) (a:qj) (b:qj) {res:qj} (h:jQ N a b=some res):qc ZT (.fn 102) [.agg (nq1 a),.agg (nq1 b)] [] (.agg (nq1 res)) []:=by
 unfold jQ at h;refine Ub Tryz.func102 rfl rfl (m:=16) rfl (rs:=[.cell 4 81]) rfl (l:=[(0,.agg (nq1 a)),(1,.agg (nq1 b))]) rfl ?_;refine sg fol (kG []) (.cells (nq1 a):: .cells (nq1 b)::(kK [])) ?_;obtain⟨g,c,h⟩:=bnd h;obtain⟨i,d,h⟩:=bnd h;obtain⟨f,e,h⟩:=bnd h;refine sq (gq fol [4,9,10,11] kAc [.cells (nq1 a),.cells (nq1 b),.cells (nq1 f)] (ac (cv (jY N a.Num b.Num c)) (ac (cv (jY N a.Den b.Den d)) (ac (cv (qed N g i e)) (ac (hs (.run [2] (qp ZT 81 (.ptr 2 0) (.agg (nq1 f))) (.cells (nq1 a):: .cells (nq1 b)::(kK [])) .undef [.cells (nq1 a),.cells (nq1 b),.cells (nq1 f)] true) (kg (n:=4) (by kernel_rfl) rfl rfl rfl rfl (cac rfl (cac nvc (cac rfl (cac nvc can)))) rfl)) az)))) ?_);refine Goes.ret ?_;obtain rfl:=si h;exact(gw2 [.agg (nq1 f)] (FzW.agg (qf.cons (Ua tI) (qf.cons (Ua (qm ZU _ (nl rfl))) (qf.cons (Ua tI) (qf.cons (Ua (qm ZU _ (nl rfl))) qf.nil))))))
def zT:Nat->(List qj)->Int->Option (List qj)
 |0,_,_=>none
 |K+1,a,c=>
  if c<(a.length:Int)then
  (at' a c).bind fun b=>
  (some (qgI a b (a.take b))).bind fun d=>
  zT K d (w64 (c+((Nat.min (a.take b).length (a.length-b):Nat):Int)))
  else
  some a
def yD (N:Nat) (a:Int) (b:List Int) (c:Int) (d:List Int) (e:Int):Option (List qj):=
 ((if e<0 then
 none
 else
 some ():Option Unit)).bind fun _=>
 (bits_Mul (IntKind.wrap .u64 1) (IntKind.wrap .u64 e)).bind fun g=>
 (if g.1>0 then
 some true
 else
 some (decide (g.2>9223372036854775807)):Option Bool).bind fun j=>
 ((if j=true then
 none
 else
 some ():Option Unit)).bind fun _=>
 (mk 64 (w64 g.2) (⟨(⟨0,[]⟩:qo),(⟨0,[]⟩:qo)⟩:qj)).bind fun f=>
 (some (cpy f ([(⟨(⟨a,b⟩:qo),(⟨c,d⟩:qo)⟩:qj)]:List qj))).bind fun h=>
 (zT N h ((Nat.min ([(⟨(⟨a,b⟩:qo),(⟨c,d⟩:qo)⟩:qj)]:List qj).length f.length:Nat):Int)).bind fun i=>
 some i
theorem qcT (N:Nat) (b:Int) (c:List Int) (d:Int) (e:List Int) (n:Int) {C:List qj} (h:yD N b c d e n=some C):qc ZT (.fn 99) [.slice 0 0 1 1 4,.i n] [.cells (ni2 b c d e)] (.slice 1 0 C.length C.length 4) (.cells (ni2 b c d e)::(kQ C [])):=by
 unfold yD at h;refine Goes.fnH Tryz.func99 rfl rfl (m:=48) rfl (rs:=[.tmp 4]) rfl (l:=(kAv [(1,.i n)])) rfl ?_;intro B hB;refine sh fol (kAv [(1,.i n)]) ?_;refine sq ?_;refine sh fol (kAv ((1,.i n)::(kA9 (decide (n<0))))) ?_;obtain⟨G,g2,h⟩:=bnd h;refine Goes.imp (Q:=fun x s'=>(x= .normal/\()=G/\Sub s' (ofG 48 (kAv [(1,.i n)]),[.cells (ni2 b c d e)]))) ?_ ?_
 ·refine ihD g2 (fun H g2=>?_) (fun H g2=>?_)
  ·cases g2
  refine Goes.skip ?_;obtain rfl:=si g2;exact⟨rfl,rfl,(Sub.keep [0,1] rfl rfl)⟩
 rintro x s' ⟨rfl,rfl,hsub⟩;refine Goes.sub hsub ?_;obtain⟨v,y,h⟩:=bnd h;refine sq (gr fol [5] (kAv ((5,.int .u64 v.1)::(kAJ v.2 []))) (ac (cv (qkm (IntKind.wrap .u64 1) (IntKind.wrap .u64 n) y)) az) ?_);refine sq ?_;refine sq ?_;obtain⟨I,o,h⟩:=bnd h;refine Ue (s':=(ofG 48 (kAv (kAJ v.2 [(26,.bool I)])),[.cells (ni2 b c d e)])) ?_ ?_
 ·rcases wyD o with⟨D,o⟩|⟨D,o⟩
  ·obtain rfl:=si o;exact tr fol [2] (kAv (kAJ v.2 [(26,.bool true)])) (ac (gw D) az)
  obtain rfl:=si o;exact tr fol [2] (kAv (kAJ v.2 [(26,.bool (decide (v.2>9223372036854775807)))])) (ac (gw D) az)
 obtain⟨J,g8,h⟩:=bnd h;refine Goes.imp (Q:=fun x s'=>(x= .normal/\()=J/\Sub s' (ofG 48 (kAv (kAJ v.2 [])),[.cells (ni2 b c d e)]))) ?_ ?_
 ·refine ihB g8 (fun K g8=>?_) (fun K g8=>?_)
  ·cases g8
  refine Goes.skip ?_;obtain rfl:=si g8;exact⟨rfl,rfl,(Sub.keep [0,6] rfl rfl)⟩
 rintro x s' ⟨rfl,rfl,hsub⟩;refine Goes.sub hsub ?_;obtain⟨f,w,h⟩:=bnd h;refine sq (gq fol [2] (kAv (kAO f [])) (.cells (ni2 b c d e)::(kQ f [])) (ac (hs (.run [] (zC ZT 84 (.i (w64 v.2)) (.i (w64 v.2))) [.cells (ni2 b c d e)] (.slice 1 0 f.length f.length 4) (.cells (ni2 b c d e)::(kQ f [])) false) (qb0 qgS (E:=qb) (z:=(⟨(⟨0,[]⟩:qo),(⟨0,[]⟩:qo)⟩:qj)) rfl (by kernel_rfl) w rfl)) az) ?_);obtain⟨r,t,h⟩:=bnd h;refine sq (gq fol [2] (kAO f (kBH ((Nat.min ([(⟨(⟨b,c⟩:qo),(⟨d,e⟩:qo)⟩:qj)]:List qj).length f.length:Nat):Int))) (.cells (ni2 b c d e)::(kQ r [])) (ac (hs (.run [1,0] (qbU ZT [84,84] (.slice 1 0 f.length f.length 4) (.slice 0 0 1 1 4)) (.cells (ni2 b c d e)::(kQ f [])) (.i ((Nat.min ([(⟨(⟨b,c⟩:qo),(⟨d,e⟩:qo)⟩:qj)]:List qj).length f.length:Nat):Int)) (.cells (ni2 b c d e)::(kQ r [])) true) (qrm qgS (E:=qb) (l:=f) rfl (qfn (E:=qb) (ys:=([(⟨(⟨b,c⟩:qo),(⟨d,e⟩:qo)⟩:qj)]:List qj)) rfl rfl rfl rfl) (.inl rfl) rfl rfl t rfl)) az) ?_);refine Goes.sub (show Sub (ofG 48 (kAO f (kBH ((Nat.min ([(⟨(⟨b,c⟩:qo),(⟨d,e⟩:qo)⟩:qj)]:List qj).length f.length:Nat):Int))),(.cells (ni2 b c d e)::(kQ r []))) (ofG 48 (kAO r (kBH ((Nat.min ([(⟨(⟨b,c⟩:qo),(⟨d,e⟩:qo)⟩:qj)]:List qj).length f.length:Nat):Int))),(.cells (ni2 b c d e)::(kQ r [])))from(Uc [] [some 0,some 1] (by rw[hB];rfl) rfl (.keep (.sliceE rfl (qml t)) (.keep (.same nI) .nil)) (.kb rfl (.same sn) (.ks .nil)))) ?_;refine sq (Goes.block ?_);obtain⟨A,g15,h⟩:=bnd h;refine Goes.imp (Q:=fun x s'=>(x= .exit 0/\ ∃p,p=A/\Sub s' (ofG 48 (kAO p []),(.cells (ni2 b c d e)::(kQ p []))))) ?_ ?_
 ·refine Ud (fun M s=> ∃(a:List qj) (j:Int),s=(ofG 48 (kAO a (kBH j)),(.cells (ni2 b c d e)::(kQ a [])))/\zT M a j=some A) ?_ (m:=N) ⟨_,_,rfl,g15⟩;rintro M s ⟨a,j,rfl,g15⟩
  cases M with
  |zero=>simp only[zT]at g15;cases g15
  |succ M=>
   rw[zT]at g15;refine sq ?_;refine sh fol (kAO a [(8,.i j),(37,.bool (decide (j<(a.length:Int))))]) ?_;refine ihD g15 (fun F g15=>?_) (fun F g15=>?_)
   ·refine Goes.skip ?_;refine Goes.block ?_;obtain⟨g,k,g15⟩:=bnd g15;obtain⟨q,u,g15⟩:=bnd g15;refine gq fol [3,6,7] (kAO a (kBH (w64 (j+((Nat.min (a.take g).length (a.length-g):Nat):Int))))) (.cells (ni2 b c d e)::(kQ q [])) (ac (hs (.done (.opt (qK ZT 84 (.slice 1 0 a.length a.length 4) (some (.i j)) none none)) (qf8 1 4 a.length g)) (qnX qgS k)) (ac (hs (.done (.opt (qK ZT 84 (.slice 1 0 a.length a.length 4) none (some (.i j)) none)) (.slice 1 0 g a.length 4)) (qrJ qgS k)) (ac (hs (.run [1,1] (qbU ZT [84,84] (qf8 1 4 a.length g) (.slice 1 0 g a.length 4)) (.cells (ni2 b c d e)::(kQ a [])) (.i ((Nat.min (a.take g).length (a.length-g):Nat):Int)) (.cells (ni2 b c d e)::(kQ q [])) true) (qn9 qgS (E:=qb) rfl (l:=a) (qqf (E:=qb) rfl rfl rfl (qpk k)) (qpk k) rfl rfl u rfl)) az))) ?_;exact⟨M,(ofG 48 (kAO q (kBH (w64 (j+((Nat.min (a.take g).length (a.length-g):Nat):Int))))),(.cells (ni2 b c d e)::(kQ q []))),Nat.lt_succ_self _,((show Sub (ofG 48 (kAO a (kBH (w64 (j+((Nat.min (a.take g).length (a.length-g):Nat):Int))))),(.cells (ni2 b c d e)::(kQ q []))) (ofG 48 (kAO q (kBH (w64 (j+((Nat.min (a.take g).length (a.length-g):Nat):Int))))),(.cells (ni2 b c d e)::(kQ q [])))from(Uc [] [some 0,some 1] (by rw[hB];rfl) rfl (.keep (.sliceE rfl (qm7 (qpk k) u)) (.keep (.same nI) .nil)) (.kb rfl (.same sn) (.ks .nil)))).trans (Sub.refl _)),_,_,rfl,g15⟩
   refine Goes.exit ?_;obtain rfl:=si g15;exact⟨rfl,_,rfl,(Sub.keep [7] rfl rfl)⟩
 rintro x s' ⟨rfl,p,rfl,hsub⟩;refine Goes.sub hsub ?_;refine sh fol [(4,.slice 1 0 p.length p.length 4)] ?_;refine Goes.ret ?_;obtain rfl:=si h;exact(gh2 [.slice 1 0 p.length p.length 4] (qgo.refl _ _))
def yj (N:Nat) (n:Int) (w:List Int) (h:List (List qj)):Nat->(List (List qj))->Int->Option (List (List qj))
 |0,_,_=>none
 |K+1,c,a=>
  if a<(h.length:Int)then
  (qfi 0).bind fun d=>
  (yD N d.Num.s d.Num.w d.Den.s d.Den.w n).bind fun e=>
  (idx c a).bind fun i=>
  ((if e.length<=1000000000 then some ()else none:Option Unit)).bind fun j=>
  (idx (qx c a e) a).bind fun b=>
  (qfi 1).bind fun f=>
  (idx b a).bind fun k=>
  (put b a f).bind fun g=>
  yj N n w h K (qx (qx c a e) a g) (w64 (a+1))
  else
  some c
def yn (N:Nat) (f:List (List qj)) (a:Int) (b:((qj×qj)×(qj×qj))):Nat->(List (List qj))->Int->Option (List (List qj))
 |0,_,_=>none
 |K+1,d,c=>
  if c<(f.length:Int)then
  (idx d c).bind fun e=>
  (idx e (w64 (a-1))).bind fun g=>
  (idx e (w64 ((w64 (a-1))+1))).bind fun h=>
  (jQ N g b.1.1).bind fun j=>
  (jQ N h b.2.1).bind fun k=>
  (yQ N j k).bind fun l=>
  (put e (w64 (a-1)) l).bind fun i=>
  (jQ N g b.1.2).bind fun m=>
  (jQ N h b.2.2).bind fun n=>
  (yQ N m n).bind fun o=>
  (idx i (w64 ((w64 (a-1))+1))).bind fun q=>
  (put i (w64 ((w64 (a-1))+1)) o).bind fun p=>
  yn N f a b K (qx d c p) (w64 (c+1))
  else
  some d
def yA (N:Nat) (w:List Int) (t:qj):Nat->(List (List qj))->Int->Option (List (List qj))
 |0,_,_=>none
 |K+1,a,b=>
  if b<(w.length:Int)then
  (idx w b).bind fun c=>
  (qdv c).bind fun d=>
  (qbP N c t).bind fun e=>
  (yn N a d e N a 0).bind fun f=>
  yA N w t K f (w64 (b+1))
  else
  some a
def qbK (N:Nat) (n:Int) (w:List Int) (t:qj):Option (List (List qj)):=
 (mk 24 n ([]:List qj)).bind fun b=>
 (yj N n w b N b 0).bind fun c=>
 (yA N w t N c 0).bind fun a=>
 some a
theorem qhz (N:Nat) (n:Int) (w:List Int) (t:qj) {res:List (List qj)} (h:qbK N n w t=some res):qc ZT (.fn 40) [.i n,vl encI w,.agg (nq1 t)] [] (vl (qE qb) res) []:=by
 unfold qbK at h;refine Ub Tryz.func40 rfl rfl (m:=98) rfl (rs:=[.tmp 6]) rfl (l:=(kY n w [(2,.agg (nq1 t))])) rfl ?_;refine sg fol (kY n w [(5,.ptr 0 0)]) [.cells (nq1 t)] ?_;obtain⟨A,a1,h⟩:=bnd h;refine sq (gq fol [1] (kY n w (kE A [])) [.cells (nq1 t),.cells (A.flatMap (qne qb).c)] (ac (hs (.run [] (zC ZT 75 (.i n) (.i n)) [.cells (nq1 t)] (.slice 1 0 A.length A.length 1) [.cells (nq1 t),.cells (A.flatMap (qne qb).c)] false) (qb0 qm5 (E:=(qne qb)) (z:=[]) rfl (by kernel_rfl) a1 rfl)) az) ?_);refine Goes.sub (show Sub (ofG 98 (kY n w (kE A [])),[.cells (nq1 t),.cells (A.flatMap (qne qb).c)]) (ofG 98 (kY n w (kE A [])),[.cells (nq1 t),bg qb A])from(Sub.bagNil1 (E:=qb) (b:=1) rfl a1)) ?_;refine sq ?_;refine sh fol (kY n w (kE A [(20,.i (A.length:Int)),(21,.i 0)])) ?_;refine Goes.block ?_;obtain⟨r5,g5,h⟩:=bnd h;refine Goes.imp (Q:=fun x s'=>(x= .exit 0/\ ∃l4,l4=r5/\Sub s' (ofG 98 ((1,vl encI w)::(kE l4 [])),[.cells (nq1 t),bg qb l4]))) ?_ ?_
 ·refine Ud (fun M s=> ∃(q:List (List qj)) (f:Int),s=(ofG 98 (kY n w (kE q (kAQ (A.length:Int) f))),[.cells (nq1 t),bg qb q])/\yj N n w A M q f=some r5) ?_ (m:=N) ⟨_,_,rfl,g5⟩;rintro M s ⟨q,f,rfl,g5⟩
  cases M with
  |zero=>simp only[yj]at g5;cases g5
  |succ M=>
   rw[yj]at g5;refine sh fol (kY n w (kE q [(20,.i (A.length:Int)),(21,.i f),(22,.bool (decide (f<(A.length:Int))))])) ?_;refine sq ?_;refine ihD g5 (fun c6 g5=>?_) (fun c6 g5=>?_)
   ·refine Goes.skip ?_;refine sq (Goes.block ?_);refine sh fol (kY n w (kE q ((8,.i f)::(kAQ (A.length:Int) f)))) ?_;obtain⟨P,e_r7,g5⟩:=bnd g5;obtain⟨r,e_r8,g5⟩:=bnd g5;obtain⟨x10,K,g5⟩:=bnd g5;obtain⟨u11,a2,g5⟩:=bnd g5;refine sq (gq fol [2,5,6,7] (kY n w (kE q ((8,.i f)::(kAQ (A.length:Int) f)))) (.cells (nq1 t):: .bag ((q.map (qW qb)).set (f:Int).toNat (.av (.slice 3 0 r.length r.length 4))):: .cells (nq1 P)::(kQ r [])) (ac (cv (qf6 0 e_r7)) (ac (hs (.callH 99 [.slice 2 0 1 1 4,.i n] [.cells (nq1 t),bg qb q,.cells (nq1 P)] [2] (.slice 3 0 r.length r.length 4) (.cells (nq1 t)::bg qb q:: .cells (nq1 P)::(kQ r []))) (qew [some 2] [none,none,some 0,some 1] (qcT N P.Num.s P.Num.w P.Den.s P.Den.w n e_r8) (.kb rfl (.cells (rc (.same nI) (rc (.same (qcj ZU _)) (rc (.same nI) (rc (.same (qcj ZU _)) rn))))) .nil) rfl rfl (.old rfl rfl (.old rfl rfl (.back rfl rfl (.cells (rc (.same nI) (rc (.same (qcj ZU _)) (rc (.same nI) (rc (.same (qcj ZU _)) rn))))) rfl (.new rfl rfl (.same fa) rfl .nil)))) (rc (.slice rfl) (rc (.same nI) rn)) (.slice rfl) rfl)) (ac (hs (.done (.opt (qd ZT 75 (.slice 1 0 q.length q.length 1) (.i f))) (.ptr 1 ((f:Int).toNat*1+0))) (xx qm5 K)) (ac (hs (.run [1] (qp ZT 84 (.ptr 1 ((f:Int).toNat*1+0)) (.slice 3 0 r.length r.length 4)) (.cells (nq1 t)::bg qb q:: .cells (nq1 P)::(kQ r [])) .undef (.cells (nq1 t):: .bag ((q.map (qW qb)).set (f:Int).toNat (.av (.slice 3 0 r.length r.length 4))):: .cells (nq1 P)::(kQ r [])) true) (qqC (show _=some 1 by kernel_rfl) rfl (qqZ K) rfl rfl rfl)) az)))) ?_);refine Goes.sub ((show Sub (ofG 98 (kY n w (kE q ((8,.i f)::(kAQ (A.length:Int) f)))),(.cells (nq1 t):: .bag ((q.map (qW qb)).set (f:Int).toNat (.av (.slice 3 0 r.length r.length 4))):: .cells (nq1 P)::(kQ r []))) (ofG 98 (kY n w (kE q ((8,.i f)::(kAQ (A.length:Int) f)))),[.cells (nq1 t),bg qb (qx q f r),.cells (nq1 P),.dead])from(Ui (E:=qb) (b:=1) (c:=3) (Nat.ne_of_beq_eq_false rfl) rfl rfl K (.s (qpT a2)) rfl)).trans (show Sub (ofG 98 (kY n w (kE q ((8,.i f)::(kAQ (A.length:Int) f)))),[.cells (nq1 t),bg qb (qx q f r),.cells (nq1 P),.dead]) (ofG 98 (kY n w (kE (qx q f r) ((8,.i f)::(kAQ (A.length:Int) f)))),[.cells (nq1 t),bg qb (qx q f r)])from(Uc [] [some 0,some 1] rfl rfl (.keep (.same nI) (.keep (.same (qg encI _)) (.kp (.keep (.sliceE rfl (qbc _ _ _)) (.keep (.same nI) (.keep (.same nI) (.keep (.same nI) .nil))))))) (.kb rfl (.same sn) (.kb rfl yZ.bgs .nil))))) ?_;obtain⟨B,H,g5⟩:=bnd g5;refine Goes.sub (s':=(ofG 98 (kY n w (kE (qx q f r) ((8,.i f)::(kAQ (A.length:Int) f)))),(.cells (nq1 t):: .bag (((qx q f r).map (qW qb)).set (f:Int).toNat (.av (.gslice 2 B.length 4)))::(kQ B [])))) (Ul (E:=qb) (b:=1) rfl H) ?_;obtain⟨r14,a3,g5⟩:=bnd g5;obtain⟨x15,U,g5⟩:=bnd g5;obtain⟨F,V,g5⟩:=bnd g5;refine gq fol [2,3,5,6,7] (kY n w (kE (qx q f r) (kAQ (A.length:Int) f))) (.cells (nq1 t):: .bag (((qx q f r).map (qW qb)).set (f:Int).toNat (.av (.gslice 2 B.length 4)))::(kQ F [])) (ac (hs (.done (.opt (qd ZT 75 (.slice 1 0 (qx q f r).length (qx q f r).length 1) (.i f))) (.ptr 1 ((f:Int).toNat*1+0))) (xx qm5 H)) (ac (hs (.run [1] (ko ZT 84 (.ptr 1 ((f:Int).toNat*1+0))) (.cells (nq1 t):: .bag (((qx q f r).map (qW qb)).set (f:Int).toNat (.av (.gslice 2 B.length 4)))::(kQ B [])) (.gslice 2 B.length 4) (.cells (nq1 t):: .bag (((qx q f r).map (qW qb)).set (f:Int).toNat (.av (.gslice 2 B.length 4)))::(kQ B [])) false) (qeE ce84 rfl (at_set H))) (ac (cv (qf6 1 a3)) (ac (hs (.done (.opt (qd ZT 84 (.gslice 2 B.length 4) (.i f))) (.ptr 2 ((f:Int).toNat*4+0))) (qa9 qgS U)) (ac (hs (.run [2] (qp ZT 81 (.ptr 2 ((f:Int).toNat*4+0)) (.agg (nq1 r14))) (.cells (nq1 t):: .bag (((qx q f r).map (qW qb)).set (f:Int).toNat (.av (.gslice 2 B.length 4)))::(kQ B [])) .undef (.cells (nq1 t):: .bag (((qx q f r).map (qW qb)).set (f:Int).toNat (.av (.gslice 2 B.length 4)))::(kQ F [])) true) (vT (E:=qb) (l:=B) (y:=r14) rfl (show _=some 4 by kernel_rfl) rfl U rfl rfl rfl (cac rfl (cac nvc (cac rfl (cac nvc can)))) rfl V rfl)) az))))) ?_;refine Goes.sub ((show Sub (ofG 98 (kY n w (kE (qx q f r) (kAQ (A.length:Int) f))),(.cells (nq1 t):: .bag (((qx q f r).map (qW qb)).set (f:Int).toNat (.av (.gslice 2 B.length 4)))::(kQ F []))) (ofG 98 (kY n w (kE (qx q f r) (kAQ (A.length:Int) f))),[.cells (nq1 t),bg qb (qx (qx q f r) f F),.dead])from(Ui (E:=qb) (b:=1) (c:=2) (Nat.ne_of_beq_eq_false rfl) rfl rfl H .g (zn V))).trans (show Sub (ofG 98 (kY n w (kE (qx q f r) (kAQ (A.length:Int) f))),[.cells (nq1 t),bg qb (qx (qx q f r) f F),.dead]) (ofG 98 (kY n w (kE (qx (qx q f r) f F) (kAQ (A.length:Int) f))),[.cells (nq1 t),bg qb (qx (qx q f r) f F)])from(Uc [] [some 0,some 1] rfl rfl (.keep (.same nI) (.keep (.same (qg encI _)) (.kp (.keep (.sliceE rfl (qbc _ _ _)) (.keep (.same nI) (.keep (.same nI) .nil)))))) (.kb rfl (.same sn) (.kb rfl yZ.bgs .nil))))) ?_;refine gh fol (kY n w (kE (qx (qx q f r) f F) (kAQ (A.length:Int) (w64 (f+1))))) ?_;exact⟨M,(ofG 98 (kY n w (kE (qx (qx q f r) f F) (kAQ (A.length:Int) (w64 (f+1))))),[.cells (nq1 t),bg qb (qx (qx q f r) f F)]),Nat.lt_succ_self _,(Sub.refl _),_,_,rfl,g5⟩
   refine Goes.exit ?_;obtain rfl:=si g5;exact⟨rfl,_,rfl,(Sub.keep [1,5,7] rfl rfl)⟩
 rintro x s' ⟨rfl,l4,rfl,hsub⟩;refine Goes.sub hsub ?_;refine sq ?_;refine sh fol (kE l4 [(39,vl encI w),(40,.i (w.length:Int)),(41,.i 0)]) ?_;refine Goes.block ?_;obtain⟨r20,g20,h⟩:=bnd h;refine Goes.imp (Q:=fun x s'=>(x= .exit 2/\ ∃G,G=r20/\Sub s' (ofG 98 [(7,.slice 0 0 G.length G.length 1)],[bg qb G]))) ?_ ?_
 ·refine Ud (fun M s=> ∃(k:List (List qj)) (p:Int),s=(ofG 98 (kE k (kAr w (w.length:Int) p [])),[.cells (nq1 t),bg qb k])/\yA N w t M k p=some r20) ?_ (m:=N) ⟨_,_,rfl,g20⟩;rintro M s ⟨k,p,rfl,g20⟩
  cases M with
  |zero=>simp only[yA]at g20;cases g20
  |succ M=>
   rw[yA]at g20;refine sh fol (kE k (kAr w (w.length:Int) p [(42,.bool (decide (p<(w.length:Int))))])) ?_;refine sq ?_;refine ihD g20 (fun c21 g20=>?_) (fun c21 g20=>?_)
   ·refine Goes.skip ?_;refine sq (Goes.block ?_);obtain⟨a4,X,g20⟩:=bnd g20;refine sq (gr fol [0,1] (kE k ((10,.i a4)::(kAr w (w.length:Int) p []))) (ac (iv ji encI X) (ac (lv 0 ce3 encI X rfl) az)) ?_);obtain⟨o,a5,g20⟩:=bnd g20;obtain⟨j,a6,g20⟩:=bnd g20;refine sq (gq fol [1,5,8] (kE k (kAf (w64 (o-1)) (kAr w (w.length:Int) p []))) [.cells (nq1 t),bg qb k,.cells (nb4 j)] (ac (cv (qjI a4 a5)) (ac (cv (qhq N a4 t a6)) (ac (hs (.run [2] (qp ZT 143 (.ptr 2 0) (.agg (nb4 j))) (.cells (nq1 t)::bg qb k::(kO [])) .undef [.cells (nq1 t),bg qb k,.cells (nb4 j)] true) (kg (n:=16) (by kernel_rfl) rfl rfl rfl rfl (cac rfl (cac nvc (cac rfl (cac nvc (cac rfl (cac nvc (cac rfl (cac nvc (cac rfl (cac nvc (cac rfl (cac nvc (cac rfl (cac nvc (cac rfl (cac nvc can)))))))))))))))) rfl)) az))) ?_);refine sh fol (kE k (kAf (w64 (o-1)) (kAr w (w.length:Int) p [(51,.slice 1 0 k.length k.length 1),(52,.i (k.length:Int)),(53,.i 0)]))) ?_;refine Goes.block ?_;obtain⟨r28,g28,g20⟩:=bnd g20;refine Goes.imp (Q:=fun x s'=>(x= .exit 4/\ ∃L,L=r28/\Sub s' (ofG 98 (kE L (kAr w (w.length:Int) p [])),[.cells (nq1 t),bg qb L]))) ?_ ?_
    ·refine Ud (fun M s=> ∃(a:List (List qj)) (d:Int),s=(ofG 98 (kE a (kAf (w64 (o-1)) (kN w (w.length:Int) p a (k.length:Int) d []))),[.cells (nq1 t),bg qb a,.cells (nb4 j)])/\yn N k o j M a d=some r28) ?_ (m:=N) ⟨_,_,rfl,g28⟩;rintro M s ⟨a,d,rfl,g28⟩
     cases M with
     |zero=>simp only[yn]at g28;cases g28
     |succ M=>
      rw[yn]at g28;refine sh fol (kE a (kAf (w64 (o-1)) (kN w (w.length:Int) p a (k.length:Int) d [(54,.bool (decide (d<(k.length:Int))))]))) ?_;refine sq ?_;refine ihD g28 (fun c29 g28=>?_) (fun c29 g28=>?_)
      ·refine Goes.skip ?_;refine sq (Goes.block ?_);obtain⟨e,I,g28⟩:=bnd g28;refine sq (Goes.sub (s':=(ofG 98 (kE a (kAf (w64 (o-1)) (kN w (w.length:Int) p a (k.length:Int) d [(54,.bool (decide (d<(k.length:Int))))]))),(.cells (nq1 t):: .bag ((a.map (qW qb)).set (d:Int).toNat (.av (.gslice 3 e.length 4))):: .cells (nb4 j)::(kQ e [])))) (Ul (E:=qb) (b:=1) rfl I) ?_);refine gr fol [0,1] (kE a (kAf (w64 (o-1)) ((14,.gslice 3 e.length 4)::(kN w (w.length:Int) p a (k.length:Int) d [])))) (ac (hs (.done (.opt (qd ZT 75 (.slice 1 0 a.length a.length 1) (.i d))) (.ptr 1 ((d:Int).toNat*1+0))) (xx qm5 I)) (ac (hs (.run [1] (ko ZT 84 (.ptr 1 ((d:Int).toNat*1+0))) (.cells (nq1 t):: .bag ((a.map (qW qb)).set (d:Int).toNat (.av (.gslice 3 e.length 4))):: .cells (nb4 j)::(kQ e [])) (.gslice 3 e.length 4) (.cells (nq1 t):: .bag ((a.map (qW qb)).set (d:Int).toNat (.av (.gslice 3 e.length 4))):: .cells (nb4 j)::(kQ e [])) false) (qeE ce84 rfl (at_set I))) az)) ?_;obtain⟨u,J,g28⟩:=bnd g28;obtain⟨v,Y,g28⟩:=bnd g28;refine sq (gq fol [2,3,7,8,11,12] (kE a (kAf (w64 (o-1)) (kBG e (kN w (w.length:Int) p a (k.length:Int) d [])))) (.cells (nq1 t):: .bag ((a.map (qW qb)).set (d:Int).toNat (.av (.gslice 3 e.length 4))):: .cells (nb4 j)::(kQ e [.cells (nq1 u),.cells (nq1 v)])) (ac (hs (.done (.opt (qd ZT 84 (.gslice 3 e.length 4) (.i (w64 (o-1))))) (.ptr 3 ((w64 (o-1):Int).toNat*4+0))) (qa9 qgS J)) (ac (hs (.run [3] (ko ZT 81 (.ptr 3 ((w64 (o-1):Int).toNat*4+0))) (.cells (nq1 t):: .bag ((a.map (qW qb)).set (d:Int).toNat (.av (.gslice 3 e.length 4))):: .cells (nb4 j)::(kQ e [])) (.agg (nq1 u)) (.cells (nq1 t):: .bag ((a.map (qW qb)).set (d:Int).toNat (.av (.gslice 3 e.length 4))):: .cells (nb4 j)::(kQ e [])) false) (qq0 ag81 (E:=qb) (l:=e) rfl rfl J)) (ac (hs (.done (.opt (qd ZT 84 (.gslice 3 e.length 4) (.i (w64 ((w64 (o-1))+1))))) (.ptr 3 ((w64 ((w64 (o-1))+1):Int).toNat*4+0))) (qa9 qgS Y)) (ac (hs (.run [3] (ko ZT 81 (.ptr 3 ((w64 ((w64 (o-1))+1):Int).toNat*4+0))) (.cells (nq1 t):: .bag ((a.map (qW qb)).set (d:Int).toNat (.av (.gslice 3 e.length 4))):: .cells (nb4 j)::(kQ e [])) (.agg (nq1 v)) (.cells (nq1 t):: .bag ((a.map (qW qb)).set (d:Int).toNat (.av (.gslice 3 e.length 4))):: .cells (nb4 j)::(kQ e [])) false) (qq0 ag81 (E:=qb) (l:=e) rfl rfl Y)) (ac (hs (.run [4] (qp ZT 81 (.ptr 4 0) (.agg (nq1 u))) (.cells (nq1 t):: .bag ((a.map (qW qb)).set (d:Int).toNat (.av (.gslice 3 e.length 4))):: .cells (nb4 j)::(kQ e (kK (kK [])))) .undef (.cells (nq1 t):: .bag ((a.map (qW qb)).set (d:Int).toNat (.av (.gslice 3 e.length 4))):: .cells (nb4 j)::(kQ e (.cells (nq1 u)::(kK [])))) true) (kg (n:=4) (by kernel_rfl) rfl rfl rfl rfl (cac rfl (cac nvc (cac rfl (cac nvc can)))) rfl)) (ac (hs (.run [5] (qp ZT 81 (.ptr 5 0) (.agg (nq1 v))) (.cells (nq1 t):: .bag ((a.map (qW qb)).set (d:Int).toNat (.av (.gslice 3 e.length 4))):: .cells (nb4 j)::(kQ e (.cells (nq1 u)::(kK [])))) .undef (.cells (nq1 t):: .bag ((a.map (qW qb)).set (d:Int).toNat (.av (.gslice 3 e.length 4))):: .cells (nb4 j)::(kQ e [.cells (nq1 u),.cells (nq1 v)])) true) (kg (n:=4) (by kernel_rfl) rfl rfl rfl rfl (cac rfl (cac nvc (cac rfl (cac nvc can)))) rfl)) az)))))) ?_);obtain⟨r34,a7,g28⟩:=bnd g28;obtain⟨r35,a8,g28⟩:=bnd g28;obtain⟨r36,a9,g28⟩:=bnd g28;obtain⟨C,O,g28⟩:=bnd g28;refine sq (gq fol [6,11,12,13,14] (kE a (kAf (w64 (o-1)) (kBG e (kN w (w.length:Int) p a (k.length:Int) d [])))) (.cells (nq1 t):: .bag ((a.map (qW qb)).set (d:Int).toNat (.av (.gslice 3 e.length 4))):: .cells (nb4 j)::(kQ C [.cells (nq1 u),.cells (nq1 v)])) (ac (cv (qaN N u j.1.1 a7)) (ac (cv (qaN N v j.2.1 a8)) (ac (cv (qbZ N r34 r35 a9)) (ac (hs (.done (.opt (qd ZT 84 (.gslice 3 e.length 4) (.i (w64 (o-1))))) (.ptr 3 ((w64 (o-1):Int).toNat*4+0))) (qa9 qgS J)) (ac (hs (.run [3] (qp ZT 81 (.ptr 3 ((w64 (o-1):Int).toNat*4+0)) (.agg (nq1 r36))) (.cells (nq1 t):: .bag ((a.map (qW qb)).set (d:Int).toNat (.av (.gslice 3 e.length 4))):: .cells (nb4 j)::(kQ e [.cells (nq1 u),.cells (nq1 v)])) .undef (.cells (nq1 t):: .bag ((a.map (qW qb)).set (d:Int).toNat (.av (.gslice 3 e.length 4))):: .cells (nb4 j)::(kQ C [.cells (nq1 u),.cells (nq1 v)])) true) (vT (E:=qb) (l:=e) (y:=r36) rfl (show _=some 4 by kernel_rfl) rfl J rfl rfl rfl (cac rfl (cac nvc (cac rfl (cac nvc can)))) rfl O rfl)) az))))) ?_);refine Goes.sub (show Sub (ofG 98 (kE a (kAf (w64 (o-1)) (kBG e (kN w (w.length:Int) p a (k.length:Int) d [])))),(.cells (nq1 t):: .bag ((a.map (qW qb)).set (d:Int).toNat (.av (.gslice 3 e.length 4))):: .cells (nb4 j)::(kQ C [.cells (nq1 u),.cells (nq1 v)]))) (ofG 98 (kE a ((11,.i (w64 (o-1)))::(12,.ptr 3 0)::(14,.gslice 2 C.length 4)::(15,.ptr 4 0)::(16,.ptr 5 0)::(kN w (w.length:Int) p a (k.length:Int) d []))),(.cells (nq1 t):: .bag ((a.map (qW qb)).set (d:Int).toNat (.av (.gslice 2 C.length 4)))::(kQ C [.cells (nb4 j),.cells (nq1 u),.cells (nq1 v)])))from(Uc [] [some 0,some 1,some 3,some 2,some 4,some 5] rfl rfl (.kp (.keep (.slice rfl) (.keep (.same nI) (.kp (.keep (.gsliceE rfl (zn O)) (.kp (.kp (.keep (.same (qg encI _)) (.keep (.same nI) (.keep (.same nI) (.keep (.slice rfl) (.keep (.same nI) (.keep (.same nI) .nil))))))))))))) (.kb rfl (.same sn) (.kb rfl (yZ.bgv (.gsliceE rfl (zn O))) (.ks (.kb rfl (.same sn) (.kb rfl (.same sn) (.kb rfl (.same sn) .nil)))))))) ?_;obtain⟨r38,b0,g28⟩:=bnd g28;obtain⟨r39,b1,g28⟩:=bnd g28;obtain⟨r40,b2,g28⟩:=bnd g28;obtain⟨x41,Z,g28⟩:=bnd g28;obtain⟨D,a0,g28⟩:=bnd g28;refine gq fol [7,12,13,14,15] (kE a ((11,.i (w64 (o-1)))::(12,.ptr 3 0)::(kN w (w.length:Int) p a (k.length:Int) d []))) (.cells (nq1 t):: .bag ((a.map (qW qb)).set (d:Int).toNat (.av (.gslice 2 C.length 4)))::(kQ D [.cells (nb4 j),.cells (nq1 u),.cells (nq1 v)])) (ac (cv (qaN N u j.1.2 b0)) (ac (cv (qaN N v j.2.2 b1)) (ac (cv (qbZ N r38 r39 b2)) (ac (hs (.done (.opt (qd ZT 84 (.gslice 2 C.length 4) (.i (w64 ((w64 (o-1))+1))))) (.ptr 2 ((w64 ((w64 (o-1))+1):Int).toNat*4+0))) (qa9 qgS Z)) (ac (hs (.run [2] (qp ZT 81 (.ptr 2 ((w64 ((w64 (o-1))+1):Int).toNat*4+0)) (.agg (nq1 r40))) (.cells (nq1 t):: .bag ((a.map (qW qb)).set (d:Int).toNat (.av (.gslice 2 C.length 4)))::(kQ C [.cells (nb4 j),.cells (nq1 u),.cells (nq1 v)])) .undef (.cells (nq1 t):: .bag ((a.map (qW qb)).set (d:Int).toNat (.av (.gslice 2 C.length 4)))::(kQ D [.cells (nb4 j),.cells (nq1 u),.cells (nq1 v)])) true) (vT (E:=qb) (l:=C) (y:=r40) rfl (show _=some 4 by kernel_rfl) rfl Z rfl rfl rfl (cac rfl (cac nvc (cac rfl (cac nvc can)))) rfl a0 rfl)) az))))) ?_;refine Goes.sub ((show Sub (ofG 98 (kE a ((11,.i (w64 (o-1)))::(12,.ptr 3 0)::(kN w (w.length:Int) p a (k.length:Int) d []))),(.cells (nq1 t):: .bag ((a.map (qW qb)).set (d:Int).toNat (.av (.gslice 2 C.length 4)))::(kQ D [.cells (nb4 j),.cells (nq1 u),.cells (nq1 v)]))) (ofG 98 (kE a ((11,.i (w64 (o-1)))::(12,.ptr 3 0)::(kN w (w.length:Int) p a (k.length:Int) d []))),[.cells (nq1 t),bg qb (qx a d D),.dead,.cells (nb4 j),.cells (nq1 u),.cells (nq1 v)])from(Ui (E:=qb) (b:=1) (c:=2) (Nat.ne_of_beq_eq_false rfl) rfl rfl I .g (zn a0))).trans (show Sub (ofG 98 (kE a ((11,.i (w64 (o-1)))::(12,.ptr 3 0)::(kN w (w.length:Int) p a (k.length:Int) d []))),[.cells (nq1 t),bg qb (qx a d D),.dead,.cells (nb4 j),.cells (nq1 u),.cells (nq1 v)]) (ofG 98 (kE (qx a d D) (kAf (w64 (o-1)) (kN w (w.length:Int) p (qx a d D) (k.length:Int) d []))),[.cells (nq1 t),bg qb (qx a d D),.cells (nb4 j)])from(Uc [] [some 0,some 1,some 3] rfl rfl (.kp (.keep (.sliceE rfl (qbc _ _ _)) (.keep (.same nI) (.kp (.keep (.same (qg encI _)) (.keep (.same nI) (.keep (.same nI) (.keep (.sliceE rfl (qbc _ _ _)) (.keep (.same nI) (.keep (.same nI) .nil)))))))))) (.kb rfl (.same sn) (.kb rfl yZ.bgs (.kb rfl (.same sn) .nil)))))) ?_;refine gh fol (kE (qx a d D) (kAf (w64 (o-1)) (kN w (w.length:Int) p (qx a d D) (k.length:Int) (w64 (d+1)) []))) ?_;exact⟨M,(ofG 98 (kE (qx a d D) (kAf (w64 (o-1)) (kN w (w.length:Int) p (qx a d D) (k.length:Int) (w64 (d+1)) []))),[.cells (nq1 t),bg qb (qx a d D),.cells (nb4 j)]),Nat.lt_succ_self _,(Sub.refl _),_,_,rfl,g28⟩
      refine Goes.exit ?_;obtain rfl:=si g28;exact⟨rfl,_,rfl,(Uc [] [some 0,some 1] rfl rfl (.kp (.keep (.slice rfl) (.drop (.drop (.keep (.same (qg encI _)) (.keep (.same nI) (.keep (.same nI) .nil))))))) (.kb rfl (.same sn) (.kb rfl yZ.bgs .nil)))⟩
    rintro x s' ⟨rfl,L,rfl,hsub⟩;refine Goes.sub hsub ?_;refine gh fol (kE L (kAr w (w.length:Int) (w64 (p+1)) [])) ?_;exact⟨M,(ofG 98 (kE L (kAr w (w.length:Int) (w64 (p+1)) [])),[.cells (nq1 t),bg qb L]),Nat.lt_succ_self _,(Sub.refl _),_,_,rfl,g20⟩
   refine Goes.exit ?_;obtain rfl:=si g20;exact⟨rfl,_,rfl,(Uc [] [some 1] rfl rfl (.drop (.keep (.slice rfl) .nil)) (.kb rfl yZ.bgs .nil))⟩
 rintro x s' ⟨rfl,G,rfl,hsub⟩;refine Goes.sub hsub ?_;refine sh fol (kT G []) ?_;refine Goes.sub (s':=(ofG 98 (kT G []),[.frozen (G.flatMap (qE qb).c)])) (Sub.bagFreeze (E:=qb) (b:=0) rfl) ?_;refine Goes.ret ?_;obtain rfl:=si h;exact(gw2 [.slice 0 0 G.length G.length 1] (FzW.fz (Fz.slF (E:=(qE qb)) rfl rfl (nl rfl))))
def qez (N:Nat) (a:Str):Option qj:=
 (strings_Cut a [47]).bind fun b=>
 if(!b.2.2)=true then
 (qbg N b.1).bind fun c=>
 (qbu c).bind fun d=>
 some d
 else
 (qbg N b.1).bind fun e=>
 (qbg N b.2.1).bind fun f=>
 some (⟨e,f⟩:qj)
theorem qkQ (N:Nat) (a:Str) {res:qj} (h:qez N a=some res):qc ZT (.fn 41) [.str a] [] (.agg (nq1 res)) []:=by
 unfold qez at h;refine Ub Tryz.func41 rfl rfl (m:=22) rfl (rs:=[.cell 2 81]) rfl (l:=(kAY a)) rfl ?_;refine sg fol ((0,.str a)::(kAE [])) (kK []) ?_;obtain⟨b,e,h⟩:=bnd h;refine sq (gr fol [1] (kAE [(3,.str b.1),(4,.str b.2.1),(5,.bool b.2.2)]) (ac (cv (qeO a [47] e)) az) ?_);refine sq ?_;refine sh fol (kAE ((3,.str b.1)::(4,.str b.2.1)::(kBC (!b.2.2)))) ?_;refine ihB h (fun o h=>?_) (fun o h=>?_)
 ·obtain⟨p,f,h⟩:=bnd h;obtain⟨k,g,h⟩:=bnd h;refine sq (gq fol [1,2,3] (kAE []) [.cells (nq1 k)] (ac (cv (qbR N b.1 f)) (ac (cv (qdx p g)) (ac (hs (.run [0] (qp ZT 81 (.ptr 0 0) (.agg (nq1 k))) (kK []) .undef [.cells (nq1 k)] true) (kg (n:=4) (by kernel_rfl) rfl rfl rfl rfl (cac rfl (cac nvc (cac rfl (cac nvc can)))) rfl)) az))) ?_);refine Goes.ret ?_;obtain rfl:=si h;exact(gw2 [.agg (nq1 k)] (FzW.agg (qf.cons (Ua tI) (qf.cons (Ua (qm ZU _ (nl rfl))) (qf.cons (Ua tI) (qf.cons (Ua (qm ZU _ (nl rfl))) qf.nil))))))
 refine Goes.skip ?_;obtain⟨c,i,h⟩:=bnd h;obtain⟨d,j,h⟩:=bnd h;refine sq (gq fol [1,3,5] (kAE []) [.cells (ni2 c.s c.w d.s d.w)] (ac (cv (qbR N b.1 i)) (ac (cv (qbR N b.2.1 j)) (ac (hs (.run [0] (qp ZT 81 (.ptr 0 0) (.agg (ni2 c.s c.w d.s d.w))) (kK []) .undef [.cells (ni2 c.s c.w d.s d.w)] true) (kg (n:=4) (by kernel_rfl) rfl rfl rfl rfl (cac rfl (cac nvc (cac rfl (cac nvc can)))) rfl)) az))) ?_);refine Goes.ret ?_;obtain rfl:=si h;exact(gw2 [.agg (ni2 c.s c.w d.s d.w)] (FzW.agg (qf.cons (Ua tI) (qf.cons (Ua (qm ZU _ (nl rfl))) (qf.cons (Ua tI) (qf.cons (Ua (qm ZU _ (nl rfl))) qf.nil))))))
def qbh (a:qo):Option Int:=
 (qG a).bind fun b=>
 if(b.2.length:Int)=0 then
 some 0
 else
 (idx b.2 (w64 ((b.2.length:Int)-1))).bind fun c=>
 (bits_Len64 c).bind fun d=>
 some (w64 ((w64 (64*(w64 ((b.2.length:Int)-1))))+d))
theorem qd7 (a:qo) {res:Int} (h:qbh a=some res):qc ZT (.fn 180) [.agg (nz1 a)] [] (.i res) []:=by
 unfold qbh at h;refine Ub Tryz.func180 rfl rfl (m:=25) rfl (rs:=[.tmp 2]) rfl (l:=[(0,.agg (nz1 a))]) rfl ?_;refine sg fol (kAu []) [.cells (nz1 a)] ?_;obtain⟨c,d,h⟩:=bnd h;refine sq (gr fol [1] [(4,vl ZU c.2)] (ac (cv (zH a d)) az) ?_);refine sq ?_;refine sh fol ((4,vl ZU c.2)::(kA8 (decide ((c.2.length:Int)=0)))) ?_;refine ihD h (fun g h=>?_) (fun g h=>?_)
 ·refine sh fol [(2,.i 0)] ?_;refine Goes.ret ?_;obtain rfl:=si h;exact(gw2 [.i 0] (Ua tI))
 refine Goes.skip ?_;obtain⟨j,b,h⟩:=bnd h;obtain⟨f,e,h⟩:=bnd h;refine sq (gr fol [8,9,10] (kBA (w64 ((w64 (64*(w64 ((c.2.length:Int)-1))))+f))) (ac (iv zM ZU b) (ac (lv 0 zS ZU b rfl) (ac (cv (qfo j e)) az))) ?_);refine Goes.ret ?_;obtain rfl:=si h;exact(gw2 [.i (w64 ((w64 (64*(w64 ((c.2.length:Int)-1))))+f))] (Ua tI))
def jr (N:Nat):Nat->(List Str)->(List Int)->Option (List Str)
 |0,_,_=>none
 |K+1,i,j=>
  if(j.length:Int)>0 then
  (qaY N j ([1000000000000000000]:List Int)).bind fun b=>
  ((if(b.2.length:Int)>0 then
  (idx b.2 0).bind fun c=>
  (qh9 c 10).bind fun d=>
  some d
  else
  some [48]:Option Str)).bind fun a=>
  ((if(b.1.length:Int)>0 then
  (qeR [48] (w64 (18-(a.length:Int)))).bind fun e=>
  (cat e a).bind fun f=>
  some f
  else
  some a:Option Str)).bind fun g=>
  (app 16 i [g]).bind fun h=>
  jr N K h b.1
  else
  some i
def zo (e:List Str):Nat->Bool->(Option (List Int))->Int->Option (Bool×(Option (List Int)))
 |0,_,_,_=>none
 |K+1,ok27,b,a=>
  if a>=0 then
  (idx e a).bind fun c=>
  (bWr ok27 b c).bind fun d=>
  zo e K true (some d) (w64 (a-1))
  else
  some (ok27,b)
def vG (N:Nat) (a:qo):Option Str:=
 if a.w.isEmpty=true then
 (qlD a.s).bind fun h=>
 some h
 else
 (qG a).bind fun f=>
 (jr N N ([]:List Str) f.2).bind fun g=>
 ((if f.1=true then
 (bWr false (none:Option (List Int)) [45]).bind fun b=>
 some (true,(some b))
 else
 some (false,(none:Option (List Int))):Option (Bool×(Option (List Int))))).bind fun(ok21,c)=>
 (zo g N ok21 c (w64 ((g.length:Int)-1))).bind fun(ok30,d)=>
 (qmN ok30 d).bind fun e=>
 some e
theorem xV (N:Nat) (a:qo) {res:Str} (h:vG N a=some res):qc ZT (.fn 181) [.agg (nz1 a)] [] (.str res) []:=by
 unfold vG at h;refine Ub Tryz.func181 rfl rfl (m:=69) rfl (rs:=[.tmp 2]) rfl (l:=[(0,.agg (nz1 a))]) rfl ?_;refine sg fol (kAu []) [.cells (nz1 a)] ?_;refine sq ?_;refine sq (gr fol [2] (kAu [(14,.bool a.w.isEmpty)]) (ac (hs (.done (.opt (ku ZT .eql 77 (.tmp 13) (.const (.slice none 0 0)) (nvl ZU a.w) .nilslice)) (.bool a.w.isEmpty)) (qaG qaC)) az) ?_);refine ihB h (fun c1 h=>?_) (fun c1 h=>?_)
 ·obtain⟨r2,J,h⟩:=bnd h;refine sq (gr fol [2] [(2,.str r2)] (ac (cv (qpB a.s J)) az) ?_);refine Goes.ret ?_;obtain rfl:=si h;exact(gw2 [.str r2] (Ua tS))
 refine Goes.skip ?_;obtain⟨d,K,h⟩:=bnd h;refine sq (gr fol [1] [(3,.bool d.1),(4,vl ZU d.2)] (ac (cv (zH a K)) az) ?_);refine sg fol [(3,.bool d.1),(4,vl ZU d.2),(5,.slice 1 0 1 1 1)] [.cells (nz1 a),.cells [.int .u64 1000000000000000000]] ?_;refine sh fol [(3,.bool d.1),(4,vl ZU d.2),(5,.slice 1 0 1 1 1),(6,.nilslice)] ?_;refine sq (Goes.block ?_);obtain⟨r7,g7,h⟩:=bnd h;refine Goes.imp (Q:=fun x s'=>(x= .exit 0/\ ∃b,b=r7/\Sub s' (ofG 69 ((3,.bool d.1)::(kAC b [])),(kI b [])))) ?_ ?_
 ·refine Goes.sub (s':=(ofG 69 [(3,.bool d.1),(4,vl ZU d.2),(5,vl ZU ([1000000000000000000]:List Int)),(6,.gslice 0 ([]:List Str).length 1)],[.cells (([]:List Str).flatMap encS.c)])) (Uc [1] [none] rfl rfl (.keep (.same nB) (.keep (.same (qg ZU _)) (.keep (.frz (Fz.lit rfl rfl (Uj (AllST.cons tI AllST.nil))) (qg ZU _)) (.keep .nil .nil)))) (.fresh .nil)) ?_;refine Ud (fun M s=> ∃(g:List Str) (I:List Int),s=(ofG 69 ((3,.bool d.1)::(4,vl ZU I)::(5,vl ZU ([1000000000000000000]:List Int))::(kAC g [])),(kI g []))/\jr N M g I=some r7) ?_ (m:=N) ⟨_,_,rfl,g7⟩;rintro M s ⟨g,I,rfl,g7⟩
  cases M with
  |zero=>simp only[jr]at g7;cases g7
  |succ M=>
   rw[jr]at g7;refine sq ?_;refine sh fol ((3,.bool d.1)::(4,vl ZU I)::(5,vl ZU ([1000000000000000000]:List Int))::(kAC g [(26,.bool (decide ((I.length:Int)>0)))])) ?_;refine ihD g7 (fun c8 g7=>?_) (fun c8 g7=>?_)
   ·refine Goes.skip ?_;refine Goes.block ?_;obtain⟨j,L,g7⟩:=bnd g7;refine sq (gr fol [2] ((3,.bool d.1)::(5,vl ZU ([1000000000000000000]:List Int))::(kAC g [(7,vl ZU j.1),(8,vl ZU j.2)])) (ac (cv (qe9 N I ([1000000000000000000]:List Int) L)) az) ?_);refine sh fol ((3,.bool d.1)::(5,vl ZU ([1000000000000000000]:List Int))::(kAC g [(7,vl ZU j.1),(8,vl ZU j.2),(9,.str [48])])) ?_;refine sq ?_;refine sh fol ((3,.bool d.1)::(5,vl ZU ([1000000000000000000]:List Int))::(kAC g [(7,vl ZU j.1),(8,vl ZU j.2),(9,.str [48]),(35,.bool (decide ((j.2.length:Int)>0)))])) ?_;obtain⟨U,g11,g7⟩:=bnd g7;refine Goes.imp (Q:=fun x s'=>(x= .normal/\ ∃p,p=U/\Sub s' (ofG 69 ((3,.bool d.1)::(5,vl ZU ([1000000000000000000]:List Int))::(kAC g [(7,vl ZU j.1),(9,.str p)])),(kI g [])))) ?_ ?_
    ·refine ihD g11 (fun V g11=>?_) (fun V g11=>?_)
     ·obtain⟨X,r,g11⟩:=bnd g11;obtain⟨Y,z,g11⟩:=bnd g11;refine gr fol [1,2,3] ((3,.bool d.1)::(5,vl ZU ([1000000000000000000]:List Int))::(kAC g [(7,vl ZU j.1),(9,.str Y)])) (ac (iv zM ZU r) (ac (lv 0 zS ZU r rfl) (ac (cv (qo8 X 10 z)) az))) ?_;obtain rfl:=si g11;exact⟨rfl,_,rfl,(Sub.refl _)⟩
     refine Goes.skip ?_;obtain rfl:=si g11;exact⟨rfl,_,rfl,(Sub.keep [3,5,6,7,9] rfl rfl)⟩
    rintro x s' ⟨rfl,p,rfl,hsub⟩;refine Goes.sub hsub ?_;refine sq ?_;refine sh fol ((3,.bool d.1)::(5,vl ZU ([1000000000000000000]:List Int))::(kAC g [(7,vl ZU j.1),(9,.str p),(42,.bool (decide ((j.1.length:Int)>0)))])) ?_;obtain⟨Z,g16,g7⟩:=bnd g7;refine Goes.imp (Q:=fun x s'=>(x= .normal/\ ∃k,k=Z/\Sub s' (ofG 69 ((3,.bool d.1)::(5,vl ZU ([1000000000000000000]:List Int))::(kAC g [(7,vl ZU j.1),(9,.str k)])),(kI g [])))) ?_ ?_
    ·refine ihD g16 (fun a0 g16=>?_) (fun a0 g16=>?_)
     ·obtain⟨a1,A,g16⟩:=bnd g16;obtain⟨O,B,g16⟩:=bnd g16;refine gr fol [3,5] ((3,.bool d.1)::(5,vl ZU ([1000000000000000000]:List Int))::(kAC g [(7,vl ZU j.1),(9,.str O)])) (ac (cv (qk0 [48] (w64 (18-(p.length:Int))) A)) (ac (hs (.done (.opt (ku ZT .add 9 (.tmp 46) (.tmp 47) (.str a1) (.str p))) (.str O)) (qaO B)) az)) ?_;obtain rfl:=si g16;exact⟨rfl,_,rfl,(Sub.refl _)⟩
     refine Goes.skip ?_;obtain rfl:=si g16;exact⟨rfl,_,rfl,(Sub.keep [3,5,6,7,9] rfl rfl)⟩
    rintro x s' ⟨rfl,k,rfl,hsub⟩;refine Goes.sub hsub ?_;obtain⟨n,C,g7⟩:=bnd g7;refine sq (gq fol [3] [(3,.bool d.1),(5,vl ZU ([1000000000000000000]:List Int)),(6,.gslice 2 n.length 1),(7,vl ZU j.1)] (.dead:: .cells [.str k]::(kI n [])) (ac (hs (.run [0,1] (yC ZT [250,250] (.gslice 0 g.length 1) (.slice 1 0 1 1 1)) (kI g [.cells [.str k]]) (.gslice 2 n.length 1) (.dead:: .cells [.str k]::(kI n [])) true) (qbG qqX (E:=encS) rfl (qfn (E:=encS) (ys:=[k]) rfl rfl rfl rfl) (qgL (E:=encS) (l:=g) rfl rfl rfl C rfl))) az) ?_);refine gh fol [(3,.bool d.1),(4,vl ZU j.1),(5,vl ZU ([1000000000000000000]:List Int)),(6,.gslice 2 n.length 1)] ?_;exact⟨M,(ofG 69 ((3,.bool d.1)::(4,vl ZU j.1)::(5,vl ZU ([1000000000000000000]:List Int))::(kAC n [])),(kI n [])),Nat.lt_succ_self _,(Uc [] [some 2] rfl rfl (.keep (.same nB) (.keep (.same (qg ZU _)) (.keep (.same (qg ZU _)) (.keep (.gslice rfl) .nil)))) (.ks .nil)),_,_,rfl,g7⟩
   refine Goes.exit ?_;obtain rfl:=si g7;exact⟨rfl,_,rfl,(Sub.keep [3,6] rfl rfl)⟩
 rintro x s' ⟨rfl,b,rfl,hsub⟩;refine Goes.sub hsub ?_;refine sg fol ((3,.bool d.1)::(kAC b (kBK []))) (kI b [.bld 256 5 [.nilptr,.nilslice]]) ?_;refine sq ?_;refine sh fol (kAC b (kBK [(54,.bool d.1)])) ?_;obtain⟨a2,g23,h⟩:=bnd h;refine Goes.imp (Q:=fun x s'=>(x= .normal/\ ∃ok21 u,(ok21,u)=a2/\Sub s' (ofG 69 (kAC b (kBK [])),(kI b [.bld 256 5 [pz ok21 1 0,hsl 2 1 u],.cells ((hof u).flatMap (qa .u8).c)])))) ?_ ?_
 ·refine ihB g23 (fun a3 g23=>?_) (fun a3 g23=>?_)
  ·refine Goes.sub (s':=(ofG 69 (kAC b (kBK [(54,.bool d.1)])),(kI b [.bld 256 5 [pz false 1 0,.nilslice]]))) (Uc [] [some 0,some 1] rfl rfl (.keep (.gslice rfl) (.kp (.keep (.same nB) .nil))) (.ks (.kb rfl (.bld (rc (jA.pz0) (rc (.same (qH.nilslice)) rn))) .nil))) ?_;refine Goes.sub (s':=(ofG 69 (kAC b (kBK [(54,.bool d.1)])),(kI b [.bld 256 5 [pz false 1 0,hsl 2 1 (none:Option (List Int))],.cells ((hof (none:Option (List Int))).flatMap (qa .u8).c)]))) (Uc [] [some 0,some 1,none] rfl rfl (.keep (.gslice rfl) (.kp (.keep (.same nB) .nil))) (.ks (.kb rfl (.bld (rc (jA.pz0) (rc .hs0 rn))) (.fresh .nil)))) ?_;obtain⟨v,D,g23⟩:=bnd g23;refine gq fol [0] (kAC b (kBK [])) (kI b [.bld 256 5 [pz true 1 0,hsl 3 1 (some v)],.dead,.cells ((hof (some v)).flatMap (qa .u8).c)]) (ac (hs (.callH 226 [.ptr 1 0,.str [45]] (kI b [.bld 256 5 [pz false 1 0,hsl 2 1 (none:Option (List Int))],.cells ((hof (none:Option (List Int))).flatMap (qa .u8).c)]) [1,2] (.tuple [.i (([45].length:Nat):Int),.niliface]) (kI b [.bld 256 5 [pz true 1 0,hsl 3 1 (some v)],.dead,.cells ((hof (some v)).flatMap (qa .u8).c)])) (qew [some 1,some 2] [none,some 0,none,some 2] (qn0 false (none:Option (List Int)) [45] D) (.kb rfl (.bld (rc (jA.pz0) (rc .hs0 rn))) (.ks .nil)) rfl rfl (.old rfl rfl (.back rfl rfl (.bld (rc ((jA.pz rfl)) (rc (.hs rfl) rn))) rfl (.dead (.new rfl rfl (.same fa) rfl .nil)))) (rc (.ptr rfl) (rc (.same nS) rn)) (.same (qH.tuple sn)) rfl)) az) ?_;obtain rfl:=si g23;exact⟨rfl,_,_,rfl,(Uc [] [some 0,some 1,some 3] rfl rfl (.keep (.gslice rfl) (.kp .nil)) (.ks (.kb rfl (.bld (rc ((jA.pz rfl)) (rc (.hs rfl) rn))) (.ks .nil))))⟩
  refine Goes.skip ?_;obtain rfl:=si g23;exact⟨rfl,_,_,rfl,(Uc [] [some 0,some 1,none] rfl rfl (.keep (.gslice rfl) (.kp .nil)) (.ks (.kb rfl (.bld (rc (jA.pz0) (rc .hs0 rn))) (.fresh .nil))))⟩
 rintro x s' ⟨rfl,ok21,u,rfl,hsub⟩
 try dsimp only at h
 refine Goes.sub hsub ?_;refine sq ?_;refine sh fol (kAC b (kBK [(11,.i (w64 ((b.length:Int)-1)))])) ?_;refine Goes.block ?_;obtain⟨P,g32,h⟩:=bnd h;refine Goes.imp (Q:=fun x s'=>(x= .exit 2/\ ∃ok30 o,(ok30,o)=P/\Sub s' (ofG 69 [(10,.ptr 0 0)],[.bld 256 5 [pz ok30 0 0,hsl 1 1 o],.cells ((hof o).flatMap (qa .u8).c)]))) ?_ ?_
 ·refine Ud (fun M s=> ∃(ok27:Bool) (e:Option (List Int)) (f:Int),s=(ofG 69 (kAC b (kBK [(11,.i f)])),(kI b [.bld 256 5 [pz ok27 1 0,hsl 2 1 e],.cells ((hof e).flatMap (qa .u8).c)]))/\zo b M ok27 e f=some P) ?_ (m:=N) ⟨_,_,_,rfl,g32⟩;rintro M s ⟨ok27,e,f,rfl,g32⟩
  cases M with
  |zero=>simp only[zo]at g32;cases g32
  |succ M=>
   rw[zo]at g32;refine sq ?_;refine sh fol (kAC b (kBK [(11,.i f),(60,.bool (decide (f>=0)))])) ?_;refine ihD g32 (fun a4 g32=>?_) (fun a4 g32=>?_)
   ·refine Goes.skip ?_;refine sq (Goes.block ?_);obtain⟨y,t,g32⟩:=bnd g32;obtain⟨q,F,g32⟩:=bnd g32;refine gq fol [2,3,4] (kAC b (kBK [(11,.i f)])) (kI b [.bld 256 5 [pz true 1 0,hsl 3 1 (some q)],.dead,.cells ((hof (some q)).flatMap (qa .u8).c)]) (ac (hs (.done (.opt (qd ZT 250 (.gslice 0 b.length 1) (.i f))) (.ptr 0 ((f:Int).toNat*1+0))) (qa9 qqX t)) (ac (hs (.run [0] (ko ZT 9 (.ptr 0 ((f:Int).toNat*1+0))) (kI b [.bld 256 5 [pz ok27 1 0,hsl 2 1 e],.cells ((hof e).flatMap (qa .u8).c)]) (.str y) (kI b [.bld 256 5 [pz ok27 1 0,hsl 2 1 e],.cells ((hof e).flatMap (qa .u8).c)]) false) (qcb ce9 (E:=encS) (l:=b) rfl rfl t (nl rfl) rfl)) (ac (hs (.callH 226 [.ptr 1 0,.str y] (kI b [.bld 256 5 [pz ok27 1 0,hsl 2 1 e],.cells ((hof e).flatMap (qa .u8).c)]) [1,2] (.tuple [.i ((y.length:Nat):Int),.niliface]) (kI b [.bld 256 5 [pz true 1 0,hsl 3 1 (some q)],.dead,.cells ((hof (some q)).flatMap (qa .u8).c)])) (qew [some 1,some 2] [none,some 0,none,some 2] (qn0 ok27 e y F) (.kb rfl (.bld (rc ((jA.pz rfl)) (rc (.hs rfl) rn))) (.ks .nil)) rfl rfl (.old rfl rfl (.back rfl rfl (.bld (rc ((jA.pz rfl)) (rc (.hs rfl) rn))) rfl (.dead (.new rfl rfl (.same fa) rfl .nil)))) (rc (.ptr rfl) (rc (.same nS) rn)) (.same (qH.tuple sn)) rfl)) az))) ?_;refine gh fol (kAC b (kBK [(11,.i (w64 (f-1)))])) ?_;exact⟨M,(ofG 69 (kAC b (kBK [(11,.i (w64 (f-1)))])),(kI b [.bld 256 5 [pz true 1 0,hsl 2 1 (some q)],.cells ((hof (some q)).flatMap (qa .u8).c)])),Nat.lt_succ_self _,(Uc [] [some 0,some 1,some 3] rfl rfl (.keep (.gslice rfl) (.kp (.keep (.same nI) .nil))) (.ks (.kb rfl (.bld (rc ((jA.pz rfl)) (rc (.hs rfl) rn))) (.ks .nil)))),_,_,_,rfl,g32⟩
   refine Goes.exit ?_;obtain rfl:=si g32;exact⟨rfl,_,_,rfl,(Uc [] [some 1,some 2] rfl rfl (.drop (.kp .nil)) (.kb rfl (.bld (rc ((jA.pz rfl)) (rc (.hs rfl) rn))) (.ks .nil)))⟩
 rintro x s' ⟨rfl,ok30,o,rfl,hsub⟩
 try dsimp only at h
 refine Goes.sub hsub ?_;obtain⟨G,H,h⟩:=bnd h;refine sq (gq fol [0] [(2,.str G)] [.dead,.dead] (ac (hs (.callH 227 [.ptr 0 0] [.bld 256 5 [pz ok30 0 0,hsl 1 1 o],.cells ((hof o).flatMap (qa .u8).c)] [0,1] (.str G) [.dead,.dead]) (qew [some 0,some 1] [none,none] (qqh ok30 o H) (.kb rfl (.bld (rc ((jA.pz rfl)) (rc (.hs rfl) rn))) (.ks .nil)) rfl rfl (.dead (.dead .nil)) (rc (.ptr rfl) rn) (.same nS) rfl)) az) ?_);refine Goes.ret ?_;obtain rfl:=si h;exact(gw2 [.str G] (Ua tS))
def qdl (N:Nat) (n:qo):Option Bool:=
 ((qbh n).bind fun a=>
 if a>1800 then
 (vG N n).bind fun b=>
 (strings_TrimPrefix b [45]).bind fun c=>
 some (decide ((c.length:Int)>600))
 else
 some false:Option Bool).bind fun d=>
 some d
theorem qer (N:Nat) (n:qo) {res:Bool} (h:qdl N n=some res):qc ZT (.fn 107) [.agg (nz1 n)] [] (.bool res) []:=by
 unfold qdl at h;refine Ub Tryz.func107 rfl rfl (m:=13) rfl (rs:=[.tmp 2]) rfl (l:=[(0,.agg (nz1 n))]) rfl ?_;refine sg fol (kAu []) [.cells (nz1 n)] ?_;refine sq ?_;obtain⟨f,a,h⟩:=bnd h;refine Ue (s':=(ofG 13 [(2,.bool f)],[.cells (nz1 n)])) ?_ ?_
 ·obtain⟨j,b,a⟩:=bnd a;rcases wyD a with⟨e,a⟩|⟨e,a⟩
  ·obtain⟨g,c,a⟩:=bnd a;obtain⟨i,d,a⟩:=bnd a;obtain rfl:=si a;exact tr fol [1,3,5,6] [(2,.bool (decide ((i.length:Int)>600)))] (ac (cv (qd7 n b)) (ac (gw e) (ac (cv (xV N n c)) (ac (cv (qbs g [45] d)) az))))
  obtain rfl:=si a;exact tr fol [1,3] [(2,.bool false)] (ac (cv (qd7 n b)) (ac (gw e) az))
 refine Goes.ret ?_;obtain rfl:=si h;exact(gw2 [.bool f] (Ua tB))
def qak (N:Nat) (a:qj):Option Bool:=
 ((qdl N a.Num).bind fun b=>
 if b=true then
 some true
 else
 (qdl N a.Den).bind fun c=>
 some c:Option Bool).bind fun d=>
 some d
theorem qfZ (N:Nat) (a:qj) {res:Bool} (h:qak N a=some res):qc ZT (.fn 45) [.agg (nq1 a)] [] (.bool res) []:=by
 unfold qak at h;refine Ub Tryz.func45 rfl rfl (m:=11) rfl (rs:=[.tmp 2]) rfl (l:=[(0,.agg (nq1 a))]) rfl ?_;refine sg fol (kAu []) [.cells (nq1 a)] ?_;refine sq ?_;obtain⟨f,b,h⟩:=bnd h;refine Ue (s':=(ofG 11 [(2,.bool f)],[.cells (nq1 a)])) ?_ ?_
 ·obtain⟨i,c,b⟩:=bnd b;rcases wyB b with⟨e,b⟩|⟨e,b⟩
  ·obtain rfl:=si b;exact tr fol [2,3] [(2,.bool true)] (ac (cv (qer N a.Num c)) (ac (gw e) az))
  obtain⟨g,d,b⟩:=bnd b;obtain rfl:=si b;exact tr fol [2,3,6] [(2,.bool g)] (ac (cv (qer N a.Num c)) (ac (gw e) (ac (cv (qer N a.Den d)) az)))
 refine Goes.ret ?_;obtain rfl:=si h;exact(gw2 [.bool f] (Ua tB))
def qP (N:Nat) (a:List qj):Nat->Int->Option (Unit⊕Int)
 |0,_=>none
 |K+1,b=>
  if b<(a.length:Int)then
  (idx a b).bind fun c=>
  (qak N c).bind fun d=>
  if d=true then
  some (.inr b)
  else
  qP N a K (w64 (b+1))
  else
  some (.inl ())
def jP (N:Nat) (a:List qj):Option Int:=
 (qP N a N 0).bind (fun
 |(.inl ())=>
 some (-1)
 |(.inr b)=>
 some b)
theorem qb9 (N:Nat) (a:List qj) {res:Int} (h:jP N a=some res):qc ZT (.fn 106) [vl qb a,.func (.func 45) [] []] [] (.i res) []:=by
 unfold jP at h;refine Ub Tryz.func106 rfl rfl (m:=19) rfl (rs:=[.tmp 4]) rfl (l:=(kA1 a [(1,.func (.func 45) [] [])])) rfl ?_;refine sh fol (kA1 a [(1,.func (.func 45) [] [])]) ?_;refine sq ?_;refine sh fol (kA1 a [(1,.func (.func 45) [] []),(7,.i (a.length:Int)),(8,.i 0)]) ?_;refine Goes.block ?_;obtain⟨e,g2,h⟩:=bnd h;refine Goes.imp (Q:=fun x s'=>(x= .exit 0/\(.inl ())=e/\Sub s' (ofG 19 [],[]))\/(x= .ret/\ ∃f,(.inr f)=e/\zJ ZT [.tmp 4] (.i f) .ret s')) ?_ ?_
 ·refine Ud (fun M s=> ∃(b:Int),s=(ofG 19 (kA1 a ((1,.func (.func 45) [] [])::(kAI (a.length:Int) b))),[])/\qP N a M b=some e) ?_ (m:=N) ⟨_,rfl,g2⟩;rintro M s ⟨b,rfl,g2⟩
  cases M with
  |zero=>simp only[qP]at g2;cases g2
  |succ M=>
   rw[qP]at g2;refine sh fol (kA1 a [(1,.func (.func 45) [] []),(7,.i (a.length:Int)),(8,.i b),(9,.bool (decide (b<(a.length:Int))))]) ?_;refine sq ?_;refine ihD g2 (fun g g2=>?_) (fun g g2=>?_)
   ·refine Goes.skip ?_;refine sq (Goes.block ?_);refine sh fol (kA1 a ((1,.func (.func 45) [] [])::(5,.i b)::(kAI (a.length:Int) b))) ?_;obtain⟨j,c,g2⟩:=bnd g2;obtain⟨k,d,g2⟩:=bnd g2;refine sq (gr fol [3,4,5] (kA1 a [(1,.func (.func 45) [] []),(5,.i b),(7,.i (a.length:Int)),(8,.i b),(16,.bool k)]) (ac (iv qgS qb c) (ac (la ag81 qb c) (ac (cv (qfZ N j d)) az))) ?_);refine ihB g2 (fun n g2=>?_) (fun n g2=>?_)
    ·refine sh fol (kBN b) ?_;refine Goes.ret ?_;obtain rfl:=si g2;exact Or.inr (⟨rfl,_,rfl,(gw2 [.i b] (Ua tI))⟩)
    refine Goes.skip ?_;refine gh fol (kA1 a ((1,.func (.func 45) [] [])::(kAI (a.length:Int) (w64 (b+1))))) ?_;exact⟨M,(ofG 19 (kA1 a ((1,.func (.func 45) [] [])::(kAI (a.length:Int) (w64 (b+1))))),[]),Nat.lt_succ_self _,(Sub.refl _),_,rfl,g2⟩
   refine Goes.exit ?_;obtain rfl:=si g2;exact Or.inl (⟨rfl,rfl,(Sub.keep [] rfl rfl)⟩)
 rintro x s' (⟨rfl,rfl,hsub⟩|⟨rfl,o,rfl,hret⟩)
 ·try dsimp only at h
  refine Goes.sub hsub ?_;refine sh fol kBF ?_;refine Goes.ret ?_;obtain rfl:=si h;exact(gw2 [.i (-1)] (Ua tI))
 try dsimp only at h
 obtain rfl:=si h;exact hret
def jf (N:Nat) (a:List qj):Option Bool:=
 (jP N a).bind fun b=>
 some (decide (b>=0))
theorem qbA (N:Nat) (a:List qj) {res:Bool} (h:jf N a=some res):qc ZT (.fn 44) [vl qb a,.func (.func 45) [] []] [] (.bool res) []:=by
 unfold jf at h;refine Ub Tryz.func44 rfl rfl (m:=9) rfl (rs:=[.tmp 4]) rfl (l:=(kA1 a [(1,.func (.func 45) [] [])])) rfl ?_;refine sh fol (kA1 a [(1,.func (.func 45) [] [])]) ?_;obtain⟨c,b,h⟩:=bnd h;refine sq (gr fol [2] (kAq (decide (c>=0))) (ac (hs (.call 106 [vl qb a,.func (.func 45) [] []] [] [] [vl qb a,.func (.func 45) [] []] (.i c)) (qfr (FzL.cons (Ug (qw qb _ (nl rfl))) (FzL.cons (Fz.func FzL.nil FzL.nil) FzL.nil)) (qb9 N a b) tI)) az) ?_);refine Goes.ret ?_;obtain rfl:=si h;exact(gw2 [.bool (decide (c>=0))] (Ua tB))
def qar (N:Nat) (row:List qj):Option Bool:=
 (jf N row).bind fun a=>
 some a
theorem qgd (N:Nat) (row:List qj) {res:Bool} (h:qar N row=some res):qc ZT (.fn 43) [vl qb row] [] (.bool res) []:=by
 unfold qar at h;refine Ub Tryz.func43 rfl rfl (m:=5) rfl (rs:=[.tmp 2]) rfl (l:=(kA1 row [])) rfl ?_;refine sh fol (kA1 row []) ?_;obtain⟨b,a,h⟩:=bnd h;refine sq (gr fol [1] [(2,.bool b)] (ac (hs (.call 44 [vl qb row,.func (.func 45) [] []] [] [] [vl qb row,.func (.func 45) [] []] (.bool b)) (qfr (FzL.cons (Ug (qw qb _ (nl rfl))) (FzL.cons (Fz.func FzL.nil FzL.nil) FzL.nil)) (qbA N row a) tB)) az) ?_);refine Goes.ret ?_;obtain rfl:=si h;exact(gw2 [.bool b] (Ua tB))
def qaM (N:Nat) (a:qj):Option Str:=
 (jL a).bind fun b=>
 if b=true then
 (vG N a.Num).bind fun c=>
 some c
 else
 (vG N a.Num).bind fun d=>
 (cat d [47]).bind fun e=>
 (vG N a.Den).bind fun f=>
 (cat e f).bind fun g=>
 some g
theorem qgh (N:Nat) (a:qj) {res:Str} (h:qaM N a=some res):qc ZT (.fn 108) [.agg (nq1 a)] [] (.str res) []:=by
 unfold qaM at h;refine Ub Tryz.func108 rfl rfl (m:=16) rfl (rs:=[.tmp 2]) rfl (l:=[(0,.agg (nq1 a))]) rfl ?_;refine sg fol (kAu []) [.cells (nq1 a)] ?_;refine sq ?_;obtain⟨n,b,h⟩:=bnd h;refine sq (gr fol [1] (kAu (kAq n)) (ac (cv (y7 a b)) az) ?_);refine ihB h (fun o h=>?_) (fun o h=>?_)
 ·obtain⟨j,c,h⟩:=bnd h;refine sq (gr fol [2] [(2,.str j)] (ac (cv (xV N a.Num c)) az) ?_);refine Goes.ret ?_;obtain rfl:=si h;exact(gw2 [.str j] (Ua tS))
 refine Goes.skip ?_;obtain⟨p,d,h⟩:=bnd h;obtain⟨k,e,h⟩:=bnd h;obtain⟨q,f,h⟩:=bnd h;obtain⟨i,g,h⟩:=bnd h;refine sq (gr fol [2,3,6,7] [(2,.str i)] (ac (cv (xV N a.Num d)) (ac (hs (.done (.opt (ku ZT .add 9 (.tmp 10) (.const (.string ⟨#[47]⟩)) (.str p) (.str [47]))) (.str k)) (qaO e)) (ac (cv (xV N a.Den f)) (ac (hs (.done (.opt (ku ZT .add 9 (.tmp 11) (.tmp 14) (.str k) (.str q))) (.str i)) (qaO g)) az)))) ?_);refine Goes.ret ?_;obtain rfl:=si h;exact(gw2 [.str i] (Ua tS))
def xD (N:Nat) (l:List qj):Nat->(List Str)->Int->Option (List Str)
 |0,_,_=>none
 |K+1,b,a=>
  if a<(l.length:Int)then
  (idx l a).bind fun d=>
  (qaM N d).bind fun e=>
  (idx b a).bind fun f=>
  (put b a e).bind fun c=>
  xD N l K c (w64 (a+1))
  else
  some b
def qde (N:Nat) (l:List qj):Option (List Str):=
 (mk 16 (l.length:Int) []).bind fun a=>
 (xD N l N a 0).bind fun b=>
 some b
theorem qjB (N:Nat) (l:List qj) {res:List Str} (h:qde N l=some res):qc ZT (.fn 47) [vl qb l] [] (vl encS res) []:=by
 unfold qde at h;refine Ub Tryz.func47 rfl rfl (m:=23) rfl (rs:=[.tmp 2]) rfl (l:=(kA1 l [])) rfl ?_;refine sh fol (kA1 l []) ?_;obtain⟨k,o,h⟩:=bnd h;refine sq (gq fol [2] (kA1 l [(3,.slice 0 0 k.length k.length 1)]) (kI k []) (ac (hs (.run [] (zC ZT 59 (.i (l.length:Int)) (.i (l.length:Int))) [] (.slice 0 0 k.length k.length 1) (kI k []) false) (qb0 qgn (E:=encS) (z:=[]) rfl (by kernel_rfl) o rfl)) az) ?_);refine sq ?_;refine sh fol (kAF k l (l.length:Int) [(11,.i 0)]) ?_;refine Goes.block ?_;obtain⟨q,g5,h⟩:=bnd h;refine Goes.imp (Q:=fun x s'=>(x= .exit 0/\ ∃e,e=q/\Sub s' (ofG 23 [(3,.slice 0 0 e.length e.length 1)],(kI e [])))) ?_ ?_
 ·refine Ud (fun M s=> ∃(b:List Str) (c:Int),s=(ofG 23 (kAF b l (l.length:Int) [(11,.i c)]),(kI b []))/\xD N l M b c=some q) ?_ (m:=N) ⟨_,_,rfl,g5⟩;rintro M s ⟨b,c,rfl,g5⟩
  cases M with
  |zero=>simp only[xD]at g5;cases g5
  |succ M=>
   rw[xD]at g5;refine sh fol (kAF b l (l.length:Int) ((11,.i c)::(kA8 (decide (c<(l.length:Int)))))) ?_;refine sq ?_;refine ihD g5 (fun t g5=>?_) (fun t g5=>?_)
   ·refine Goes.skip ?_;refine sq (Goes.block ?_);obtain⟨f,g,g5⟩:=bnd g5;refine sq (gq fol [1,2,5] [(3,.slice 0 0 b.length b.length 1),(4,.i c),(5,.ptr 1 0),(9,vl qb l),(10,.i (l.length:Int)),(11,.i c)] (kI b [.cells (nq1 f)]) (ac (iv qgS qb g) (ac (la ag81 qb g) (ac (hs (.run [1] (qp ZT 81 (.ptr 1 0) (.agg (nq1 f))) (kI b (kK [])) .undef (kI b [.cells (nq1 f)]) true) (kg (n:=4) (by kernel_rfl) rfl rfl rfl rfl (cac rfl (cac nvc (cac rfl (cac nvc can)))) rfl)) az))) ?_);obtain⟨r,p,g5⟩:=bnd g5;obtain⟨u,j,g5⟩:=bnd g5;obtain⟨a,d,g5⟩:=bnd g5;refine gq fol [3,4,5] (kAF b l (l.length:Int) [(11,.i c)]) (kI a [.cells (nq1 f)]) (ac (cv (qgh N f p)) (ac (hs (.done (.opt (qd ZT 59 (.slice 0 0 b.length b.length 1) (.i c))) (.ptr 0 ((c:Int).toNat*1+0))) (xx qgn j)) (ac (hs (.run [0] (qp ZT 23 (.ptr 0 ((c:Int).toNat*1+0)) (.str r)) (kI b [.cells (nq1 f)]) .undef (kI a [.cells (nq1 f)]) true) (vT (E:=encS) (l:=b) (y:=r) rfl (show _=some 1 by kernel_rfl) rfl j rfl rfl rfl rfl rfl d rfl)) az))) ?_;refine Goes.sub (show Sub (ofG 23 (kAF b l (l.length:Int) [(11,.i c)]),(kI a [.cells (nq1 f)])) (ofG 23 (kAF a l (l.length:Int) [(11,.i c)]),(kI a []))from(Uc [] [some 0] rfl rfl (.keep (.sliceE rfl (zn d)) (.keep (.same (qg qb _)) (.keep (.same nI) (.keep (.same nI) .nil)))) (.ks .nil))) ?_;refine gh fol (kAF a l (l.length:Int) [(11,.i (w64 (c+1)))]) ?_;exact⟨M,(ofG 23 (kAF a l (l.length:Int) [(11,.i (w64 (c+1)))]),(kI a [])),Nat.lt_succ_self _,(Sub.refl _),_,_,rfl,g5⟩
   refine Goes.exit ?_;obtain rfl:=si g5;exact⟨rfl,_,rfl,(Sub.keep [3] rfl rfl)⟩
 rintro x s' ⟨rfl,e,rfl,hsub⟩;refine Goes.sub hsub ?_;refine sh fol [(2,.slice 0 0 e.length e.length 1)] ?_;refine Goes.ret ?_;obtain rfl:=si h;exact(gw2 [.slice 0 0 e.length e.length 1] (FzW.fz (Fz.sl (E:=encS) rfl rfl (nl rfl))))
end Go.Av
