/-
  Walks of functions: what each computes, as a plain function.
-/
import Derived.Test.YtmjcpcnaaolliaaGreatDoorQGenH1
noncomputable section
namespace Go.Av
open Go.Proofs Go.RowKit
set_option linter.unusedSectionVars false
set_option linter.unusedVariables false
set_option linter.unusedSimpArgs false
set_option maxRecDepth 100000
def qU (N:Nat) (a:qj) (b:qj):Option qj:=
 (if a.w.isEmpty=true then
 some b.w.isEmpty
 else
 some false:Option Bool).bind fun j=>
 ((if j=true then
 (qbz a.s).bind fun k=>
 (qbz b.s).bind fun l=>
 (bits_Mul64 k l).bind fun e=>
 (if e.1=0 then
 some (decide (e.2<=9223372036854775807))
 else
 some false:Option Bool).bind fun f=>
 if f=true then
 if(!((decide (a.s<0))==(decide (b.s<0))))=true then
 some (.inr (⟨w64 (0-(w64 e.2)),[]⟩:qj))
 else
 some (.inr (⟨w64 e.2,[]⟩:qj))
 else
 some (.inl ())
 else
 some (.inl ()):Option (Unit⊕qj))).bind (fun
 |(.inl ())=>
 (qF a).bind fun c=>
 (qF b).bind fun d=>
 (xW N c.2 d.2).bind fun g=>
 (jK (!(c.1==d.1)) g).bind fun h=>
 some h
 |(.inr i)=>
 some i)
theorem vD (N:Nat) (a:qj) (b:qj) {res:qj} (h:qU N a b=some res):qb ZT (.fn 145) [.agg (nz1 a),.agg (nz1 b)] [] (.agg (nz1 res)) []:=by
 unfold qU at h
 refine Ub Tryz.func145 rfl rfl (m:=66) rfl (rs:=[.cell 4 95]) rfl (l:=[(0,.agg (nz1 a)),(1,.agg (nz1 b))]) rfl ?_
 refine sg fol (kE []) [.cells (nz1 a),.cells (nz1 b),bZ] ?_
 refine sq ?_
 refine sq ?_
 obtain⟨G,d,h⟩:=bnd h
 refine Goes.cut (s':=(ofG 66 (kE [(18,.bool G)]),[.cells (nz1 a),.cells (nz1 b),bZ])) ?_ ?_
 ·rcases wyB d with⟨y,d⟩|⟨y,d⟩
  ·obtain rfl:=si d
   exact tr fol [2,3,6] (kE [(18,.bool b.w.isEmpty)]) (ac (hs (.done (.opt (zy ZT .eql 93 (.tmp 12) (.const (.slice none 0 0)) (nvl (qa .u64) a.w) .nilslice)) (.bool a.w.isEmpty)) (qab xY)) (ac (gw y) (ac (hs (.done (.opt (zy ZT .eql 93 (.tmp 16) (.const (.slice none 0 0)) (nvl (qa .u64) b.w) .nilslice)) (.bool b.w.isEmpty)) (qab xY)) az)))
  obtain rfl:=si d
  exact tr fol [2,3] (kE [(18,.bool false)]) (ac (hs (.done (.opt (zy ZT .eql 93 (.tmp 12) (.const (.slice none 0 0)) (nvl (qa .u64) a.w) .nilslice)) (.bool a.w.isEmpty)) (qab xY)) (ac (gw y) az))
 obtain⟨D,g4,h⟩:=bnd h
 refine Goes.imp (Q:=fun x s'=>(x= .normal/\(.inl ())=D/\Sub s' (ofG 66 (kE []),[.cells (nz1 a),.cells (nz1 b),bZ]))\/(x= .ret/\ ∃F,(.inr F)=D/\jh ZT [.cell 4 95] (.agg (nz1 F)) .ret s')) ?_ ?_
 ·refine ihB g4 (fun H g4=>?_) (fun H g4=>?_)
  ·obtain⟨I,t,g4⟩:=bnd g4
   obtain⟨J,u,g4⟩:=bnd g4
   obtain⟨f,v,g4⟩:=bnd g4
   refine sq (gr fol [2,5,6] (kE ((5,.int .u64 f.1)::(kAF f.2 []))) (ac (cv (qdg a.s t)) (ac (cv (qdg b.s u)) (ac (cv (qa0 I J v)) az))) ?_)
   refine sq ?_
   obtain⟨z,c,g4⟩:=bnd g4
   refine Goes.cut (s':=(ofG 66 (kE (kAF f.2 [(34,.bool z)])),[.cells (nz1 a),.cells (nz1 b),bZ])) ?_ ?_
   ·rcases wyD c with⟨k,c⟩|⟨k,c⟩
    ·obtain rfl:=si c
     exact tr fol [2] (kE (kAF f.2 [(34,.bool (decide (f.2<=9223372036854775807)))])) (ac (gw k) az)
    obtain rfl:=si c
    exact tr fol [2] (kE (kAF f.2 [(34,.bool false)])) (ac (gw k) az)
   refine ihB g4 (fun A g4=>?_) (fun A g4=>?_)
   ·refine sq ?_
    refine sh fol ((4,.ptr 2 0)::(kAF f.2 [(41,.bool (!((decide (a.s<0))==(decide (b.s<0)))))])) ?_
    refine ihB g4 (fun B g4=>?_) (fun B g4=>?_)
    ·refine sg fol kAa (.cells (nz1 a):: .cells (nz1 b)::(kAm (w64 (0-(w64 f.2))))) ?_
     refine Goes.ret ?_
     obtain rfl:=si g4
     exact Or.inr (⟨rfl,_,rfl,(gw2 [.agg [.i (w64 (0-(w64 f.2))),.nilslice]] (FzW.agg (qc.cons (Ua tI) (qc.cons (FzW.nv0 (E:=(qa .u64))) qc.nil))))⟩)
    refine Goes.skip ?_
    refine sg fol kAa (.cells (nz1 a):: .cells (nz1 b)::(kAm (w64 f.2))) ?_
    refine Goes.ret ?_
    obtain rfl:=si g4
    exact Or.inr (⟨rfl,_,rfl,(gw2 [.agg [.i (w64 f.2),.nilslice]] (FzW.agg (qc.cons (Ua tI) (qc.cons (FzW.nv0 (E:=(qa .u64))) qc.nil))))⟩)
   refine Goes.skip ?_
   obtain rfl:=si g4
   exact Or.inl (⟨rfl,rfl,(Sub.keep [2,3,4] rfl rfl)⟩)
  refine Goes.skip ?_
  obtain rfl:=si g4
  exact Or.inl (⟨rfl,rfl,(Sub.keep [2,3,4] rfl rfl)⟩)
 rintro x s' (⟨rfl,rfl,hsub⟩|⟨rfl,K,rfl,hret⟩)
 ·try dsimp only at h
  refine Goes.sub hsub ?_
  obtain⟨e,o,h⟩:=bnd h
  refine sq (gr fol [1] (kAz [(4,.ptr 2 0),(7,.bool e.1),(8,vl (qa .u64) e.2)]) (ac (cv (zw a o)) az) ?_)
  obtain⟨g,p,h⟩:=bnd h
  refine sq (gr fol [1] [(4,.ptr 2 0),(7,.bool e.1),(8,vl (qa .u64) e.2),(9,.bool g.1),(10,vl (qa .u64) g.2)] (ac (cv (zw b p)) az) ?_)
  obtain⟨C,q,h⟩:=bnd h
  obtain⟨j,r,h⟩:=bnd h
  refine sq (gq fol [5,6,7] kAa [.cells (nz1 a),.cells (nz1 b),.cells (nz1 j)] (ac (cv (qfH N e.2 g.2 q)) (ac (cv (xB (!(e.1==g.1)) C r)) (ac (hs (.run [2] (qp ZT 95 (.ptr 2 0) (.agg (nz1 j))) [.cells (nz1 a),.cells (nz1 b),bZ] .undef [.cells (nz1 a),.cells (nz1 b),.cells (nz1 j)] true) (zf (n:=2) (by kernel_rfl) rfl rfl rfl rfl (cac rfl (cac nvc can)) rfl)) az))) ?_)
  refine Goes.ret ?_
  obtain rfl:=si h
  exact(gw2 [.agg (nz1 j)] (FzW.agg (qc.cons (Ua tI) (qc.cons (Ua (qw (qa .u64) _ (nl rfl))) qc.nil))))
 try dsimp only at h
 obtain rfl:=si h
 exact hret
def jE (N:Nat):Nat->Int->(List Int)->Int->(List Int)->Int->Option (Int×(List Int))
 |0,_,_,_,_,_=>none
 |K+1,e,f,h,i,g=>
  if g>0 then
  ((((if(qy .i64 g 1)=1 then
  (qU N (⟨h,i⟩:qj) (⟨e,f⟩:qj)).bind fun a=>
  some (a.s,a.w)
  else
  some (h,i):Option (Int×(List Int)))).bind fun(b,c)=>
  if g>1 then
  (qU N (⟨e,f⟩:qj) (⟨e,f⟩:qj)).bind fun d=>
  some (d.s,d.w,b,c)
  else
  some (e,f,b,c):Option (Int×(List Int)×Int×(List Int)))).bind fun(j,k,l,m)=>
  jE N K j k l m (ql .i64 g 1)
  else
  some (h,i)
def qbb (N:Nat) (a:qj) (k:Int):Option qj:=
 (qbH 1).bind fun b=>
 (jE N N a.s a.w b.s b.w k).bind fun(c,d)=>
 some (⟨c,d⟩:qj)
theorem qgO (N:Nat) (a:qj) (k:Int) {res:qj} (h:qbb N a k=some res):qb ZT (.fn 146) [.agg (nz1 a),.i k] [] (.agg (nz1 res)) []:=by
 unfold qbb at h
 refine Ub Tryz.func146 rfl rfl (m:=23) rfl (rs:=[.cell 4 95]) rfl (l:=[(0,.agg (nz1 a)),(1,.i k)]) rfl ?_
 refine sg fol ((1,.i k)::(kV kA3)) [.cells (nz1 a),bZ] ?_
 obtain⟨B,y,h⟩:=bnd h
 refine sq (gq fol [0,2] ((1,.i k)::(kV (kAO []))) [.cells (nz1 a),bZ,.cells (nz1 B)] (ac (cv (qaQ 1 y)) (ac (hs (.run [2] (qp ZT 95 (.ptr 2 0) (.agg (nz1 B))) [.cells (nz1 a),bZ,bZ] .undef [.cells (nz1 a),bZ,.cells (nz1 B)] true) (zf (n:=2) (by kernel_rfl) rfl rfl rfl rfl (cac rfl (cac nvc can)) rfl)) az)) ?_)
 refine sq (Goes.block ?_)
 obtain⟨H,g9,h⟩:=bnd h
 refine Goes.imp (Q:=fun x s'=>(x= .exit 0/\ ∃g j,(g,j)=H/\Sub s' (ofG 23 (kAd [(5,.ptr 1 0)]),[bZ,.cells (ni1 g j)]))) ?_ ?_
 ·refine Uc (fun M s=> ∃(e:Int) (f:List Int) (z:Int) (A:List Int) (b:Int),s=(ofG 23 ((1,.i b)::(kV (kAO []))),[.cells (ni1 e f),bZ,.cells (ni1 z A)])/\jE N M e f z A b=some H) ?_ (m:=N) ⟨_,_,_,_,_,rfl,g9⟩
  rintro M s ⟨e,f,z,A,b,rfl,g9⟩
  cases M with
  |zero=>simp only[jE]at g9;cases g9
  |succ M=>
   rw[jE]at g9
   refine sq ?_
   refine sh fol ((1,.i b)::(kV (kAO [(8,.bool (decide (b>0)))]))) ?_
   refine ihD g9 (fun C g9=>?_) (fun C g9=>?_)
   ·refine Goes.skip ?_
    refine sq ?_
    obtain⟨D,g15,g9⟩:=bnd g9
    refine Goes.imp (Q:=fun x s'=>(x= .normal/\ ∃o p q r,(o,p,q,r)=D/\Sub s' (ofG 23 ((1,.i b)::(kV (kAO []))),[.cells (ni1 o p),bZ,.cells (ni1 q r)]))) ?_ ?_
    ·refine Goes.block ?_
     refine sq ?_
     refine sh fol ((1,.i b)::(kV (kAO [(13,.bool (decide ((qy .i64 b 1)=1)))]))) ?_
     obtain⟨E,g18,g15⟩:=bnd g15
     refine Goes.imp (Q:=fun x s'=>(x= .normal/\ ∃c d,(c,d)=E/\Sub s' (ofG 23 ((1,.i b)::(kV (kAO []))),[.cells (ni1 e f),bZ,.cells (ni1 c d)]))) ?_ ?_
     ·refine ihD g18 (fun F g18=>?_) (fun F g18=>?_)
      ·obtain⟨t,u,g18⟩:=bnd g18
       refine gq fol [2,3] ((1,.i b)::(kV (kAO []))) [.cells (ni1 e f),bZ,.cells (nz1 t)] (ac (cv (vD N (⟨z,A⟩:qj) (⟨e,f⟩:qj) u)) (ac (hs (.run [2] (qp ZT 95 (.ptr 2 0) (.agg (nz1 t))) [.cells (ni1 e f),bZ,.cells (ni1 z A)] .undef [.cells (ni1 e f),bZ,.cells (nz1 t)] true) (zf (n:=2) (by kernel_rfl) rfl rfl rfl rfl (cac rfl (cac nvc can)) rfl)) az)) ?_
       obtain rfl:=si g18
       exact⟨rfl,_,_,rfl,(Sub.refl _)⟩
      refine Goes.skip ?_
      obtain rfl:=si g18
      exact⟨rfl,_,_,rfl,(Sub.keep [1,2,4,5] rfl rfl)⟩
     rintro x s' ⟨rfl,c,d,rfl,hsub⟩
     try dsimp only at g15
     refine Goes.sub hsub ?_
     refine sh fol ((1,.i b)::(kV (kAO [(18,.bool (decide (b>1)))]))) ?_
     refine ihD g15 (fun G g15=>?_) (fun G g15=>?_)
     ·obtain⟨v,w,g15⟩:=bnd g15
      refine gq fol [2,3] ((1,.i b)::(kV (kAO []))) [.cells (nz1 v),bZ,.cells (ni1 c d)] (ac (cv (vD N (⟨e,f⟩:qj) (⟨e,f⟩:qj) w)) (ac (hs (.run [0] (qp ZT 95 (.ptr 0 0) (.agg (nz1 v))) [.cells (ni1 e f),bZ,.cells (ni1 c d)] .undef [.cells (nz1 v),bZ,.cells (ni1 c d)] true) (zf (n:=2) (by kernel_rfl) rfl rfl rfl rfl (cac rfl (cac nvc can)) rfl)) az)) ?_
      obtain rfl:=si g15
      exact⟨rfl,_,_,_,_,rfl,(Sub.refl _)⟩
     refine Goes.skip ?_
     obtain rfl:=si g15
     exact⟨rfl,_,_,_,_,rfl,(Sub.keep [1,2,4,5] rfl rfl)⟩
    rintro x s' ⟨rfl,o,p,q,r,rfl,hsub⟩
    try dsimp only at g9
    refine Goes.sub hsub ?_
    refine gh fol ((1,.i (ql .i64 b 1))::(kV (kAO []))) ?_
    exact⟨M,(ofG 23 ((1,.i (ql .i64 b 1))::(kV (kAO []))),[.cells (ni1 o p),bZ,.cells (ni1 q r)]),Nat.lt_succ_self _,(Sub.refl _),_,_,_,_,_,rfl,g9⟩
   refine Goes.exit ?_
   obtain rfl:=si g9
   exact⟨rfl,_,_,rfl,(Sub.norm [] [some 1,some 2] rfl rfl (.drop (.drop (.kp (.kp .nil)))) (.kb rfl (.same sn) (.kb rfl (.same sn) .nil)))⟩
 rintro x s' ⟨rfl,g,j,rfl,hsub⟩
 try dsimp only at h
 refine Goes.sub hsub ?_
 refine sq (gq fol [1] (kAd []) [.cells (ni1 g j),.cells (ni1 g j)] (ac (hs (.run [0] (qp ZT 95 (.ptr 0 0) (.agg (ni1 g j))) [bZ,.cells (ni1 g j)] .undef [.cells (ni1 g j),.cells (ni1 g j)] true) (zf (n:=2) (by kernel_rfl) rfl rfl rfl rfl (cac rfl (cac nvc can)) rfl)) az) ?_)
 refine Goes.ret ?_
 obtain rfl:=si h
 exact(gw2 [.agg (ni1 g j)] (FzW.agg (qc.cons (Ua tI) (qc.cons (Ua (qw (qa .u64) _ (nl rfl))) qc.nil))))
def zD (a:qj):Option qj:=
 (if a.w.isEmpty=true then
 some (!decide (a.s=(-9223372036854775808)))
 else
 some false:Option Bool).bind fun c=>
 if c=true then
 some (⟨w64 (0-a.s),[]⟩:qj)
 else
 (qF a).bind fun b=>
 (jK (!b.1) b.2).bind fun d=>
 some d
theorem vJ (a:qj) {res:qj} (h:zD a=some res):qb ZT (.fn 147) [.agg (nz1 a)] [] (.agg (nz1 res)) []:=by
 unfold zD at h
 refine Ub Tryz.func147 rfl rfl (m:=26) rfl (rs:=[.cell 2 95]) rfl (l:=[(0,.agg (nz1 a))]) rfl ?_
 refine sg fol (kAY kAp) [.cells (nz1 a),bZ] ?_
 refine sq ?_
 refine sq ?_
 obtain⟨j,b,h⟩:=bnd h
 refine Goes.cut (s':=(ofG 26 (kAY ((2,.ptr 1 0)::(kAq j))),[.cells (nz1 a),bZ])) ?_ ?_
 ·rcases wyB b with⟨g,b⟩|⟨g,b⟩
  ·obtain rfl:=si b
   exact tr fol [2,3] (kAY ((2,.ptr 1 0)::(kAq (!decide (a.s=(-9223372036854775808)))))) (ac (hs (.done (.opt (zy ZT .eql 93 (.tmp 6) (.const (.slice none 0 0)) (nvl (qa .u64) a.w) .nilslice)) (.bool a.w.isEmpty)) (qab xY)) (ac (gw g) az))
  obtain rfl:=si b
  exact tr fol [2,3] (kAY [(2,.ptr 1 0),(12,.bool false)]) (ac (hs (.done (.opt (zy ZT .eql 93 (.tmp 6) (.const (.slice none 0 0)) (nvl (qa .u64) a.w) .nilslice)) (.bool a.w.isEmpty)) (qab xY)) (ac (gw g) az))
 refine ihB h (fun k h=>?_) (fun k h=>?_)
 ·refine sg fol kAp (.cells (nz1 a)::(kAm (w64 (0-a.s)))) ?_
  refine Goes.ret ?_
  obtain rfl:=si h
  exact(gw2 [.agg [.i (w64 (0-a.s)),.nilslice]] (FzW.agg (qc.cons (Ua tI) (qc.cons (FzW.nv0 (E:=(qa .u64))) qc.nil))))
 refine Goes.skip ?_
 obtain⟨e,c,h⟩:=bnd h
 refine sq (gr fol [1] [(2,.ptr 1 0),(3,.bool e.1),(4,vl (qa .u64) e.2)] (ac (cv (zw a c)) az) ?_)
 obtain⟨f,d,h⟩:=bnd h
 refine sq (gq fol [3,4] kAp [.cells (nz1 a),.cells (nz1 f)] (ac (cv (xB (!e.1) e.2 d)) (ac (hs (.run [1] (qp ZT 95 (.ptr 1 0) (.agg (nz1 f))) [.cells (nz1 a),bZ] .undef [.cells (nz1 a),.cells (nz1 f)] true) (zf (n:=2) (by kernel_rfl) rfl rfl rfl rfl (cac rfl (cac nvc can)) rfl)) az)) ?_)
 refine Goes.ret ?_
 obtain rfl:=si h
 exact(gw2 [.agg (nz1 f)] (FzW.agg (qc.cons (Ua tI) (qc.cons (Ua (qw (qa .u64) _ (nl rfl))) qc.nil))))
def yN (N:Nat):Nat->Int->(List Int)->Str->Option (Int×(List Int))
 |0,_,_,_=>none
 |K+1,j,k,a=>
  if(a.length:Int)>0 then
  (cut a 0 (if(a.length:Int)<18 then(a.length:Int)else 18)).bind fun c=>
  (qjr c).bind fun d=>
  (qbH 10).bind fun e=>
  (qbb N e (if(a.length:Int)<18 then(a.length:Int)else 18)).bind fun f=>
  (qU N (⟨j,k⟩:qj) f).bind fun g=>
  (qbH d.1).bind fun h=>
  (yL N g h).bind fun b=>
  (cut a (if(a.length:Int)<18 then(a.length:Int)else 18) (a.length:Int)).bind fun i=>
  yN N K b.s b.w i
  else
  some (j,k)
def qaF (N:Nat) (b:Str):Option qj:=
 (strings_HasPrefix b [45]).bind fun e=>
 (strings_TrimPrefix b [45]).bind fun f=>
 (yN N N 0 [] f).bind fun(c,d)=>
 if e=true then
 (zD (⟨c,d⟩:qj)).bind fun a=>
 some a
 else
 some (⟨c,d⟩:qj)
theorem qa4 (N:Nat) (g:Str) {res:qj} (h:qaF N g=some res):qb ZT (.fn 61) [.str g] [] (.agg (nz1 res)) []:=by
 unfold qaF at h
 refine Ub Tryz.func61 rfl rfl (m:=41) rfl (rs:=[.cell 2 95]) rfl (l:=(kAI g)) rfl ?_
 refine sg fol ((0,.str g)::(kV [])) [bZ] ?_
 obtain⟨d,y,h⟩:=bnd h
 refine sq (gr fol [1] (kQ g d []) (ac (cv (qdB g [45] y)) az) ?_)
 obtain⟨J,z,h⟩:=bnd h
 refine sq (gr fol [1] (kQ J d []) (ac (cv (qaM g [45] z)) az) ?_)
 refine sg fol (kQ J d kA3) [bZ,bZ] ?_
 refine sq (Goes.block ?_)
 obtain⟨K,g8,h⟩:=bnd h
 refine Goes.imp (Q:=fun x s'=>(x= .exit 0/\ ∃b c,(b,c)=K/\Sub s' (ofG 41 (kV ((3,.bool d)::kA3)),[bZ,.cells (ni1 b c)]))) ?_ ?_
 ·refine Uc (fun M s=> ∃(A:Int) (B:List Int) (a:Str),s=(ofG 41 (kQ a d kA3),[bZ,.cells (ni1 A B)])/\yN N M A B a=some K) ?_ (m:=N) ⟨_,_,_,rfl,g8⟩
  rintro M s ⟨A,B,a,rfl,g8⟩
  cases M with
  |zero=>simp only[yN]at g8;cases g8
  |succ M=>
   rw[yN]at g8
   refine sq ?_
   refine sh fol (kQ a d [(4,.ptr 1 0),(15,.bool (decide ((a.length:Int)>0)))]) ?_
   refine ihD g8 (fun L g8=>?_) (fun L g8=>?_)
   ·refine Goes.skip ?_
    refine Goes.block ?_
    refine sh fol (kQ a d ((4,.ptr 1 0)::(kAo (if(a.length:Int)<18 then(a.length:Int)else 18)))) ?_
    obtain⟨C,j,g8⟩:=bnd g8
    obtain⟨D,k,g8⟩:=bnd g8
    refine sq (gr fol [2,3] (kQ a d [(4,.ptr 1 0),(5,.i (if(a.length:Int)<18 then(a.length:Int)else 18)),(6,.i D.1)]) (ac (hs (.done (.opt (qW ZT 9 (.str a) none (some (.i (if(a.length:Int)<18 then(a.length:Int)else 18))) none)) (.str C)) (jG st9 none (some (if(a.length:Int)<18 then(a.length:Int)else 18)) j)) (ac (cv (qmZ C k)) az)) ?_)
    obtain⟨E,o,g8⟩:=bnd g8
    obtain⟨F,p,g8⟩:=bnd g8
    obtain⟨G,q,g8⟩:=bnd g8
    obtain⟨H,r,g8⟩:=bnd g8
    obtain⟨e,t,g8⟩:=bnd g8
    refine sq (gq fol [1,3,4,6,7,8] (kQ a d ((4,.ptr 1 0)::(kAo (if(a.length:Int)<18 then(a.length:Int)else 18)))) [bZ,.cells (nz1 e)] (ac (cv (qaQ 10 o)) (ac (cv (qgO N E (if(a.length:Int)<18 then(a.length:Int)else 18) p)) (ac (cv (vD N (⟨A,B⟩:qj) F q)) (ac (cv (qaQ D.1 r)) (ac (cv (qbN N G H t)) (ac (hs (.run [1] (qp ZT 95 (.ptr 1 0) (.agg (nz1 e))) [bZ,.cells (ni1 A B)] .undef [bZ,.cells (nz1 e)] true) (zf (n:=2) (by kernel_rfl) rfl rfl rfl rfl (cac rfl (cac nvc can)) rfl)) az)))))) ?_)
    obtain⟨u,v,g8⟩:=bnd g8
    refine gr fol [2] (kQ u d kA3) (ac (hs (.done (.opt (qW ZT 9 (.str a) (some (.i (if(a.length:Int)<18 then(a.length:Int)else 18))) none none)) (.str u)) (jG st9 (some (if(a.length:Int)<18 then(a.length:Int)else 18)) none v)) az) ?_
    exact⟨M,(ofG 41 (kQ u d kA3),[bZ,.cells (nz1 e)]),Nat.lt_succ_self _,(Sub.refl _),_,_,_,rfl,g8⟩
   refine Goes.exit ?_
   obtain rfl:=si g8
   exact⟨rfl,_,_,rfl,(Sub.keep [2,3,4] rfl rfl)⟩
 rintro x s' ⟨rfl,b,c,rfl,hsub⟩
 try dsimp only at h
 refine Goes.sub hsub ?_
 refine sq ?_
 refine sh fol (kV [(4,.ptr 1 0),(37,.bool d)]) ?_
 refine ihB h (fun I h=>?_) (fun I h=>?_)
 ·obtain⟨f,w,h⟩:=bnd h
  refine sq (gq fol [1,2] (kV []) [.cells (nz1 f),.cells (ni1 b c)] (ac (cv (vJ (⟨b,c⟩:qj) w)) (ac (hs (.run [0] (qp ZT 95 (.ptr 0 0) (.agg (nz1 f))) [bZ,.cells (ni1 b c)] .undef [.cells (nz1 f),.cells (ni1 b c)] true) (zf (n:=2) (by kernel_rfl) rfl rfl rfl rfl (cac rfl (cac nvc can)) rfl)) az)) ?_)
  refine Goes.ret ?_
  obtain rfl:=si h
  exact(gw2 [.agg (nz1 f)] (FzW.agg (qc.cons (Ua tI) (qc.cons (Ua (qw (qa .u64) _ (nl rfl))) qc.nil))))
 refine Goes.skip ?_
 refine sq (gq fol [1] (kV []) [.cells (ni1 b c),.cells (ni1 b c)] (ac (hs (.run [0] (qp ZT 95 (.ptr 0 0) (.agg (ni1 b c))) [bZ,.cells (ni1 b c)] .undef [.cells (ni1 b c),.cells (ni1 b c)] true) (zf (n:=2) (by kernel_rfl) rfl rfl rfl rfl (cac rfl (cac nvc can)) rfl)) az) ?_)
 refine Goes.ret ?_
 obtain rfl:=si h
 exact(gw2 [.agg (ni1 b c)] (FzW.agg (qc.cons (Ua tI) (qc.cons (Ua (qw (qa .u64) _ (nl rfl))) qc.nil))))
def qbx (n:qj):Option qG:=
 (qbH 1).bind fun a=>
 some (⟨n,a⟩:qG)
theorem qeJ (n:qj) {res:qG} (h:qbx n=some res):qb ZT (.fn 120) [.agg (nz1 n)] [] (.agg (nq1 res)) []:=by
 unfold qbx at h
 refine Ub Tryz.func120 rfl rfl (m:=6) rfl (rs:=[.cell 2 100]) rfl (l:=[(0,.agg (nz1 n))]) rfl ?_
 refine sg fol (kAY kAp) (.cells (nz1 n)::(kI [])) ?_
 obtain⟨a,b,h⟩:=bnd h
 refine sq (gq fol [1,3] kAp [.cells (nz1 n),.cells (ni2 n.s n.w a.s a.w)] (ac (cv (qaQ 1 b)) (ac (hs (.run [1] (qp ZT 100 (.ptr 1 0) (.agg (ni2 n.s n.w a.s a.w))) (.cells (nz1 n)::(kI [])) .undef [.cells (nz1 n),.cells (ni2 n.s n.w a.s a.w)] true) (zf (n:=4) (by kernel_rfl) rfl rfl rfl rfl (cac rfl (cac nvc (cac rfl (cac nvc can)))) rfl)) az)) ?_)
 refine Goes.ret ?_
 obtain rfl:=si h
 exact(gw2 [.agg (ni2 n.s n.w a.s a.w)] (FzW.agg (qc.cons (Ua tI) (qc.cons (Ua (qw (qa .u64) _ (nl rfl))) (qc.cons (Ua tI) (qc.cons (Ua (qw (qa .u64) _ (nl rfl))) qc.nil))))))
def stringslite_IndexByte (a:Str) (c:Int):Option Int:=
 (qij a c).bind fun b=>
 some b
theorem qcb (a:Str) (c:Int) {res:Int} (h:stringslite_IndexByte a c=some res):qb ZT (.fn 296) [.str a,.int .u8 c] [] (.i res) []:=by
 unfold stringslite_IndexByte at h
 refine Ub Tryz.func296 rfl rfl (m:=8) rfl (rs:=[.tmp 4]) rfl (l:=[(0,.str a),(1,.int .u8 c)]) rfl ?_
 refine sh fol [(0,.str a),(1,.int .u8 c)] ?_
 obtain⟨d,b,h⟩:=bnd h
 refine sq (gr fol [2] [(4,.i d)] (ac (cv (qlE a c b)) az) ?_)
 refine Goes.ret ?_
 obtain rfl:=si h
 exact(gw2 [.i d] (Ua tI))
def stringslite_Index (a:Str) (substr:Str):Option Int:=
 (if(substr.length:Int)=0 then
 some true
 else
 some (substr==a):Option Bool).bind fun b=>
 if b=true then
 some 0
 else
 if(substr.length:Int)=1 then
 (idx substr 0).bind fun c=>
 (stringslite_IndexByte a (c.toNat:Int)).bind fun d=>
 some d
 else
 if(substr.length:Int)>=(a.length:Int)then
 some (-1)
 else
 none
theorem qdr (b:Str) (substr:Str) {res:Int} (h:stringslite_Index b substr=some res):qb ZT (.fn 258) [.str b,.str substr] [] (.i res) []:=by
 unfold stringslite_Index at h
 refine Ub Tryz.func258 rfl rfl (m:=143) rfl (rs:=[.tmp 4]) rfl (l:=(kS b substr [])) rfl ?_
 refine sh fol (kS b substr []) ?_
 refine sh fol (kS b substr (kAo (substr.length:Int))) ?_
 refine sq (Goes.block ?_)
 refine sq ?_
 obtain⟨j,a,h⟩:=bnd h
 refine Goes.cut (s':=(ofG 143 (kS b substr [(5,.i (substr.length:Int)),(16,.bool j)]),[])) ?_ ?_
 ·rcases wyD a with⟨e,a⟩|⟨e,a⟩
  ·obtain rfl:=si a
   exact tr fol [2] (kS b substr [(5,.i (substr.length:Int)),(16,.bool true)]) (ac (gw e) az)
  obtain rfl:=si a
  exact tr fol [2] (kS b substr [(5,.i (substr.length:Int)),(16,.bool (substr==b))]) (ac (gw e) az)
 refine ihB h (fun k h=>?_) (fun k h=>?_)
 ·refine sh fol [(4,.i 0)] ?_
  refine Goes.ret ?_
  obtain rfl:=si h
  exact(gw2 [.i 0] (Ua tI))
 refine sh fol (kS b substr [(5,.i (substr.length:Int)),(24,.bool (decide ((substr.length:Int)=1)))]) ?_
 refine ihD h (fun n h=>?_) (fun n h=>?_)
 ·obtain⟨f,c,h⟩:=bnd h
  obtain⟨g,d,h⟩:=bnd h
  refine sq (gr fol [2,3] [(4,.i g)] (ac (hs (.done (.opt (jH ZT 9 (.str substr) (.i 0))) (.int .u8 (f.toNat:Int))) (qaj st9 c)) (ac (cv (qcb b (f.toNat:Int) d)) az)) ?_)
  refine Goes.ret ?_
  obtain rfl:=si h
  exact(gw2 [.i g] (Ua tI))
 refine sh fol (kS b substr [(5,.i (substr.length:Int)),(31,.bool (decide ((substr.length:Int)>=(b.length:Int))))]) ?_
 refine ihD h (fun o h=>?_) (fun o h=>?_)
 ·refine sh fol [(4,.i (-1))] ?_
  refine Goes.ret ?_
  obtain rfl:=si h
  exact(gw2 [.i (-1)] (Ua tI))
 cases h
def stringslite_Cut (a:Str) (sep:Str):Option (Str×Str×Bool):=
 (stringslite_Index a sep).bind fun b=>
 if b>=0 then
 (cut a 0 b).bind fun c=>
 (cut a (w64 (b+(sep.length:Int))) (a.length:Int)).bind fun d=>
 some (c,d,true)
 else
 some (a,[],false)
theorem qej (a:Str) (sep:Str) {res:Str×Str×Bool} (h:stringslite_Cut a sep=some res):qb ZT (.fn 228) [.str a,.str sep] [] (.tuple [.str res.1,.str res.2.1,.bool res.2.2]) []:=by
 unfold stringslite_Cut at h
 refine Ub Tryz.func228 rfl rfl (m:=23) rfl (rs:=[.tmp 4,.tmp 5,.tmp 6]) rfl (l:=(kS a sep [])) rfl ?_
 refine sh fol (kS a sep []) ?_
 refine sq ?_
 obtain⟨b,c,h⟩:=bnd h
 refine sq (gr fol [2] (kS a sep [(7,.i b)]) (ac (cv (qdr a sep c)) az) ?_)
 refine sh fol (kS a sep ((7,.i b)::(kAq (decide (b>=0))))) ?_
 refine ihD h (fun j h=>?_) (fun j h=>?_)
 ·obtain⟨f,d,h⟩:=bnd h
  obtain⟨g,e,h⟩:=bnd h
  refine sq (gr fol [2,8] [(4,.str f),(5,.str g),(6,.bool true)] (ac (hs (.done (.opt (qW ZT 9 (.str a) none (some (.i b)) none)) (.str f)) (jG st9 none (some b) d)) (ac (hs (.done (.opt (qW ZT 9 (.str a) (some (.i (w64 (b+(sep.length:Int))))) none none)) (.str g)) (jG st9 (some (w64 (b+(sep.length:Int)))) none e)) az)) ?_)
  refine Goes.ret ?_
  obtain rfl:=si h
  exact(gw2 [.str f,.str g,.bool true] (FzW.tuple (qc.cons (Ua tS) (qc.cons (Ua tS) (qc.cons (Ua tB) qc.nil)))))
 refine Goes.skip ?_
 refine sh fol [(4,.str a),(5,.str []),(6,.bool false)] ?_
 refine Goes.ret ?_
 obtain rfl:=si h
 exact(gw2 [.str a,.str [],.bool false] (FzW.tuple (qc.cons (Ua tS) (qc.cons (Ua tS) (qc.cons (Ua tB) qc.nil)))))
def strings_Cut (b:Str) (sep:Str):Option (Str×Str×Bool):=
 (stringslite_Cut b sep).bind fun a=>
 some (a.1,a.2.1,a.2.2)
theorem qdI (b:Str) (sep:Str) {res:Str×Str×Bool} (h:strings_Cut b sep=some res):qb ZT (.fn 165) [.str b,.str sep] [] (.tuple [.str res.1,.str res.2.1,.bool res.2.2]) []:=by
 unfold strings_Cut at h
 refine Ub Tryz.func165 rfl rfl (m:=13) rfl (rs:=[.tmp 4,.tmp 5,.tmp 6]) rfl (l:=(kS b sep [])) rfl ?_
 refine sh fol (kS b sep []) ?_
 obtain⟨a,c,h⟩:=bnd h
 refine sq (gr fol [2] [(4,.str a.1),(5,.str a.2.1),(6,.bool a.2.2)] (ac (cv (qej b sep c)) az) ?_)
 refine Goes.ret ?_
 obtain rfl:=si h
 exact(gw2 [.str a.1,.str a.2.1,.bool a.2.2] (FzW.tuple (qc.cons (Ua tS) (qc.cons (Ua tS) (qc.cons (Ua tB) qc.nil)))))
def yE (N:Nat) (a:Str):Option qG:=
 (strings_Cut a [47]).bind fun b=>
 if(!b.2.2)=true then
 (qaF N b.1).bind fun c=>
 (qbx c).bind fun d=>
 some d
 else
 (qaF N b.1).bind fun e=>
 (qaF N b.2.1).bind fun f=>
 some (⟨e,f⟩:qG)
theorem vY (N:Nat) (a:Str) {res:qG} (h:yE N a=some res):qb ZT (.fn 83) [.str a] [] (.agg (nq1 res)) []:=by
 unfold yE at h
 refine Ub Tryz.func83 rfl rfl (m:=22) rfl (rs:=[.cell 2 100]) rfl (l:=(kAI a)) rfl ?_
 refine sg fol ((0,.str a)::(kV [])) (kI []) ?_
 obtain⟨b,e,h⟩:=bnd h
 refine sq (gr fol [1] (kV [(3,.str b.1),(4,.str b.2.1),(5,.bool b.2.2)]) (ac (cv (qdI a [47] e)) az) ?_)
 refine sq ?_
 refine sh fol (kV [(3,.str b.1),(4,.str b.2.1),(13,.bool (!b.2.2))]) ?_
 refine ihB h (fun o h=>?_) (fun o h=>?_)
 ·obtain⟨p,f,h⟩:=bnd h
  obtain⟨k,g,h⟩:=bnd h
  refine sq (gq fol [1,2,3] (kV []) [.cells (nq1 k)] (ac (cv (qa4 N b.1 f)) (ac (cv (qeJ p g)) (ac (hs (.run [0] (qp ZT 100 (.ptr 0 0) (.agg (nq1 k))) (kI []) .undef [.cells (nq1 k)] true) (zf (n:=4) (by kernel_rfl) rfl rfl rfl rfl (cac rfl (cac nvc (cac rfl (cac nvc can)))) rfl)) az))) ?_)
  refine Goes.ret ?_
  obtain rfl:=si h
  exact(gw2 [.agg (nq1 k)] (FzW.agg (qc.cons (Ua tI) (qc.cons (Ua (qw (qa .u64) _ (nl rfl))) (qc.cons (Ua tI) (qc.cons (Ua (qw (qa .u64) _ (nl rfl))) qc.nil))))))
 refine Goes.skip ?_
 obtain⟨c,i,h⟩:=bnd h
 obtain⟨d,j,h⟩:=bnd h
 refine sq (gq fol [1,3,5] (kV []) [.cells (ni2 c.s c.w d.s d.w)] (ac (cv (qa4 N b.1 i)) (ac (cv (qa4 N b.2.1 j)) (ac (hs (.run [0] (qp ZT 100 (.ptr 0 0) (.agg (ni2 c.s c.w d.s d.w))) (kI []) .undef [.cells (ni2 c.s c.w d.s d.w)] true) (zf (n:=4) (by kernel_rfl) rfl rfl rfl rfl (cac rfl (cac nvc (cac rfl (cac nvc can)))) rfl)) az))) ?_)
 refine Goes.ret ?_
 obtain rfl:=si h
 exact(gw2 [.agg (ni2 c.s c.w d.s d.w)] (FzW.agg (qc.cons (Ua tI) (qc.cons (Ua (qw (qa .u64) _ (nl rfl))) (qc.cons (Ua tI) (qc.cons (Ua (qw (qa .u64) _ (nl rfl))) qc.nil))))))
def zu (l:List Int):Nat->Int->Option (Unit⊕Int)
 |0,_=>none
 |K+1,a=>
  if a<(l.length:Int)then
  (idx l a).bind fun b=>
  if(!decide (b=0))=true then
  some (.inr b)
  else
  zu l K (w64 (a+1))
  else
  some (.inl ())
def zX (N:Nat) (l:List Int):Option Int:=
 (zu l N 0).bind (fun
 |(.inl ())=>
 some 0
 |(.inr a)=>
 some a)
theorem xw (N:Nat) (l:List Int) {res:Int} (h:zX N l=some res):qb ZT (.fn 110) [vl encI l] [] (.i res) []:=by
 unfold zX at h
 refine Ub Tryz.func110 rfl rfl (m:=15) rfl (rs:=[.tmp 2]) rfl (l:=(kAX l [])) rfl ?_
 refine sh fol (kAX l []) ?_
 refine sq ?_
 refine sh fol [(5,vl encI l),(6,.i (l.length:Int)),(7,.i 0)] ?_
 refine Goes.block ?_
 obtain⟨d,g2,h⟩:=bnd h
 refine Goes.imp (Q:=fun x s'=>(x= .exit 0/\(.inl ())=d/\Sub s' (ofG 15 [],[]))\/(x= .ret/\ ∃e,(.inr e)=d/\jh ZT [.tmp 2] (.i e) .ret s')) ?_ ?_
 ·refine Uc (fun M s=> ∃(a:Int),s=(ofG 15 (kAQ l (l.length:Int) a []),[])/\zu l M a=some d) ?_ (m:=N) ⟨_,rfl,g2⟩
  rintro M s ⟨a,rfl,g2⟩
  cases M with
  |zero=>simp only[zu]at g2;cases g2
  |succ M=>
   rw[zu]at g2
   refine sh fol (kAQ l (l.length:Int) a [(8,.bool (decide (a<(l.length:Int))))]) ?_
   refine sq ?_
   refine ihD g2 (fun f g2=>?_) (fun f g2=>?_)
   ·refine Goes.skip ?_
    refine sq (Goes.block ?_)
    obtain⟨c,b,g2⟩:=bnd g2
    refine sq (gr fol [0,1] ((4,.i c)::(kAQ l (l.length:Int) a [])) (ac (iv qo6 encI b) (ac (lv 0 ce27 encI b rfl) az)) ?_)
    refine sh fol ((4,.i c)::(kAQ l (l.length:Int) a (kAq (!decide (c=0))))) ?_
    refine ihB g2 (fun g g2=>?_) (fun g g2=>?_)
    ·refine sh fol (kAi c) ?_
     refine Goes.ret ?_
     obtain rfl:=si g2
     exact Or.inr (⟨rfl,_,rfl,(gw2 [.i c] (Ua tI))⟩)
    refine Goes.skip ?_
    refine gh fol (kAQ l (l.length:Int) (w64 (a+1)) []) ?_
    exact⟨M,(ofG 15 (kAQ l (l.length:Int) (w64 (a+1)) []),[]),Nat.lt_succ_self _,(Sub.refl _),_,rfl,g2⟩
   refine Goes.exit ?_
   obtain rfl:=si g2
   exact Or.inl (⟨rfl,rfl,(Sub.keep [] rfl rfl)⟩)
 rintro x s' (⟨rfl,rfl,hsub⟩|⟨rfl,j,rfl,hret⟩)
 ·try dsimp only at h
  refine Goes.sub hsub ?_
  refine sh fol [(2,.i 0)] ?_
  refine Goes.ret ?_
  obtain rfl:=si h
  exact(gw2 [.i 0] (Ua tI))
 try dsimp only at h
 obtain rfl:=si h
 exact hret
def jv (holds:Bool) (e:Int):Option Int:=
 if holds=true then
 some e
 else
 some 0
theorem vW (holds:Bool) (e:Int) {res:Int} (h:jv holds e=some res):qb ZT (.fn 180) [.bool holds,.i e] [] (.i res) []:=by
 unfold jv at h
 refine Ub Tryz.func180 rfl rfl (m:=7) rfl (rs:=[.tmp 4]) rfl (l:=[(0,.bool holds),(1,.i e)]) rfl ?_
 refine sh fol [(0,.bool holds),(1,.i e)] ?_
 refine sq ?_
 refine sh fol [(1,.i e),(5,.bool holds)] ?_
 refine ihB h (fun a h=>?_) (fun a h=>?_)
 ·refine sh fol [(4,.i e)] ?_
  refine Goes.ret ?_
  obtain rfl:=si h
  exact(gw2 [.i e] (Ua tI))
 refine Goes.skip ?_
 refine sh fol [(4,.i 0)] ?_
 refine Goes.ret ?_
 obtain rfl:=si h
 exact(gw2 [.i 0] (Ua tI))
def qat (n:Int) (least:Int) (most:Int):Option Int:=
 (if n<least then
 (jv true 3).bind fun a=>
 some a
 else
 (jv (decide (n>most)) 3).bind fun b=>
 some b:Option Int).bind fun c=>
 some c
theorem qdM (n:Int) (least:Int) (most:Int) {res:Int} (h:qat n least most=some res):qb ZT (.fn 190) [.i n,.i least,.i most] [] (.i res) []:=by
 unfold qat at h
 refine Ub Tryz.func190 rfl rfl (m:=16) rfl (rs:=[.tmp 6]) rfl (l:=((0,.i n)::(1,.i least)::(kAi most))) rfl ?_
 refine sh fol ((0,.i n)::(1,.i least)::(kAi most)) ?_
 refine sq ?_
 obtain⟨e,a,h⟩:=bnd h
 refine Goes.cut (s':=(ofG 16 [(6,.i e)],[])) ?_ ?_
 ·rcases wyD a with⟨d,a⟩|⟨d,a⟩
  ·obtain⟨f,b,a⟩:=bnd a
   obtain rfl:=si a
   exact tr fol [3,8] [(6,.i f)] (ac (gw d) (ac (cv (vW true 3 b)) az))
  obtain⟨g,c,a⟩:=bnd a
  obtain rfl:=si a
  exact tr fol [3,8] [(6,.i g)] (ac (gw d) (ac (cv (vW (decide (n>most)) 3 c)) az))
 refine Goes.ret ?_
 obtain rfl:=si h
 exact(gw2 [.i e] (Ua tI))
def jk (N:Nat) (a:qz):Option Int:=
 (qat a.Length 1 999999999).bind fun b=>
 (qat a.Mass 1 999999999).bind fun c=>
 (zX N ([b,c]:List Int)).bind fun d=>
 some d
theorem xZ (N:Nat) (a:qz) {res:Int} (h:jk N a=some res):qb ZT (.fn 111) [.agg [.i a.Length,.i a.Mass,.bool a.Direct]] [] (.i res) []:=by
 unfold jk at h
 refine Ub Tryz.func111 rfl rfl (m:=11) rfl (rs:=[.tmp 2]) rfl (l:=[(0,.agg [.i a.Length,.i a.Mass,.bool a.Direct])]) rfl ?_
 refine sg fol (kAY []) (kT a.Length a.Mass a.Direct []) ?_
 obtain⟨e,b,h⟩:=bnd h
 obtain⟨f,c,h⟩:=bnd h
 obtain⟨g,d,h⟩:=bnd h
 refine sq (gq fol [2,5,7] (kAi g) (kT a.Length a.Mass a.Direct (kAb e f)) (ac (cv (qdM a.Length 1 999999999 b)) (ac (cv (qdM a.Mass 1 999999999 c)) (ac (hs (.call 110 [.slice 1 0 2 2 1] (kT a.Length a.Mass a.Direct (kAb e f)) [1] [vl encI ([e,f]:List Int)] (.i g)) (qbc (FzL.cons (Fz.lit rfl rfl (Ue (AllST.cons tI (AllST.cons tI AllST.nil)))) FzL.nil) (xw N ([e,f]:List Int) d) tI rfl)) az))) ?_)
 refine Goes.ret ?_
 obtain rfl:=si h
 exact(gw2 [.i g] (Ua tI))
def zt (l:List Int):Nat->Int->Option (Unit⊕Int)
 |0,_=>none
 |K+1,a=>
  if a<(l.length:Int)then
  (idx l a).bind fun b=>
  if(!decide (b=0))=true then
  some (.inr b)
  else
  zt l K (w64 (a+1))
  else
  some (.inl ())
def jZ (N:Nat) (l:List Int):Option Int:=
 (zt l N 0).bind (fun
 |(.inl ())=>
 some 0
 |(.inr a)=>
 some a)
theorem qbg (N:Nat) (l:List Int) {res:Int} (h:jZ N l=some res):qb ZT (.fn 79) [vl encI l] [] (.i res) []:=by
 unfold jZ at h
 refine Ub Tryz.func79 rfl rfl (m:=15) rfl (rs:=[.tmp 2]) rfl (l:=(kAX l [])) rfl ?_
 refine sh fol (kAX l []) ?_
 refine sq ?_
 refine sh fol [(5,vl encI l),(6,.i (l.length:Int)),(7,.i 0)] ?_
 refine Goes.block ?_
 obtain⟨d,g2,h⟩:=bnd h
 refine Goes.imp (Q:=fun x s'=>(x= .exit 0/\(.inl ())=d/\Sub s' (ofG 15 [],[]))\/(x= .ret/\ ∃e,(.inr e)=d/\jh ZT [.tmp 2] (.i e) .ret s')) ?_ ?_
 ·refine Uc (fun M s=> ∃(a:Int),s=(ofG 15 (kAQ l (l.length:Int) a []),[])/\zt l M a=some d) ?_ (m:=N) ⟨_,rfl,g2⟩
  rintro M s ⟨a,rfl,g2⟩
  cases M with
  |zero=>simp only[zt]at g2;cases g2
  |succ M=>
   rw[zt]at g2
   refine sh fol (kAQ l (l.length:Int) a [(8,.bool (decide (a<(l.length:Int))))]) ?_
   refine sq ?_
   refine ihD g2 (fun f g2=>?_) (fun f g2=>?_)
   ·refine Goes.skip ?_
    refine sq (Goes.block ?_)
    obtain⟨c,b,g2⟩:=bnd g2
    refine sq (gr fol [0,1] ((4,.i c)::(kAQ l (l.length:Int) a [])) (ac (iv qo6 encI b) (ac (lv 0 ce27 encI b rfl) az)) ?_)
    refine sh fol ((4,.i c)::(kAQ l (l.length:Int) a (kAq (!decide (c=0))))) ?_
    refine ihB g2 (fun g g2=>?_) (fun g g2=>?_)
    ·refine sh fol (kAi c) ?_
     refine Goes.ret ?_
     obtain rfl:=si g2
     exact Or.inr (⟨rfl,_,rfl,(gw2 [.i c] (Ua tI))⟩)
    refine Goes.skip ?_
    refine gh fol (kAQ l (l.length:Int) (w64 (a+1)) []) ?_
    exact⟨M,(ofG 15 (kAQ l (l.length:Int) (w64 (a+1)) []),[]),Nat.lt_succ_self _,(Sub.refl _),_,rfl,g2⟩
   refine Goes.exit ?_
   obtain rfl:=si g2
   exact Or.inl (⟨rfl,rfl,(Sub.keep [] rfl rfl)⟩)
 rintro x s' (⟨rfl,rfl,hsub⟩|⟨rfl,j,rfl,hret⟩)
 ·try dsimp only at h
  refine Goes.sub hsub ?_
  refine sh fol [(2,.i 0)] ?_
  refine Goes.ret ?_
  obtain rfl:=si h
  exact(gw2 [.i 0] (Ua tI))
 try dsimp only at h
 obtain rfl:=si h
 exact hret
def qZ (holds:Bool) (e:Int):Option Int:=
 if holds=true then
 some e
 else
 some 0
theorem yu (holds:Bool) (e:Int) {res:Int} (h:qZ holds e=some res):qb ZT (.fn 81) [.bool holds,.i e] [] (.i res) []:=by
 unfold qZ at h
 refine Ub Tryz.func81 rfl rfl (m:=7) rfl (rs:=[.tmp 4]) rfl (l:=[(0,.bool holds),(1,.i e)]) rfl ?_
 refine sh fol [(0,.bool holds),(1,.i e)] ?_
 refine sq ?_
 refine sh fol [(1,.i e),(5,.bool holds)] ?_
 refine ihB h (fun a h=>?_) (fun a h=>?_)
 ·refine sh fol [(4,.i e)] ?_
  refine Goes.ret ?_
  obtain rfl:=si h
  exact(gw2 [.i e] (Ua tI))
 refine Goes.skip ?_
 refine sh fol [(4,.i 0)] ?_
 refine Goes.ret ?_
 obtain rfl:=si h
 exact(gw2 [.i 0] (Ua tI))
def qV (a:qj):Option Int:=
 some (if(if a.s<1 then a.s else 1)>(-1)then(if a.s<1 then a.s else 1)else(-1))
theorem vQ (a:qj) {res:Int} (h:qV a=some res):qb ZT (.fn 155) [.agg (nz1 a)] [] (.i res) []:=by
 unfold qV at h
 refine Ub Tryz.func155 rfl rfl (m:=7) rfl (rs:=[.tmp 2]) rfl (l:=[(0,.agg (nz1 a))]) rfl ?_
 refine sg fol (kAY []) [.cells (nz1 a)] ?_
 refine sh fol (kAi (if(if a.s<1 then a.s else 1)>(-1)then(if a.s<1 then a.s else 1)else(-1))) ?_
 refine Goes.ret ?_
 obtain rfl:=si h
 exact(gw2 [.i (if(if a.s<1 then a.s else 1)>(-1)then(if a.s<1 then a.s else 1)else(-1))] (Ua tI))
def yO (N:Nat) (a:qj) (b:qj):Option qj:=
 (zD b).bind fun c=>
 (yL N a c).bind fun d=>
 some d
theorem qdw (N:Nat) (a:qj) (b:qj) {res:qj} (h:yO N a b=some res):qb ZT (.fn 230) [.agg (nz1 a),.agg (nz1 b)] [] (.agg (nz1 res)) []:=by
 unfold yO at h
 refine Ub Tryz.func230 rfl rfl (m:=9) rfl (rs:=[.cell 4 95]) rfl (l:=[(0,.agg (nz1 a)),(1,.agg (nz1 b))]) rfl ?_
 refine sg fol (kE []) [.cells (nz1 a),.cells (nz1 b),bZ] ?_
 obtain⟨f,c,h⟩:=bnd h
 obtain⟨e,d,h⟩:=bnd h
 refine sq (gq fol [2,3,4] kAa [.cells (nz1 a),.cells (nz1 b),.cells (nz1 e)] (ac (cv (vJ b c)) (ac (cv (qbN N a f d)) (ac (hs (.run [2] (qp ZT 95 (.ptr 2 0) (.agg (nz1 e))) [.cells (nz1 a),.cells (nz1 b),bZ] .undef [.cells (nz1 a),.cells (nz1 b),.cells (nz1 e)] true) (zf (n:=2) (by kernel_rfl) rfl rfl rfl rfl (cac rfl (cac nvc can)) rfl)) az))) ?_)
 refine Goes.ret ?_
 obtain rfl:=si h
 exact(gw2 [.agg (nz1 e)] (FzW.agg (qc.cons (Ua tI) (qc.cons (Ua (qw (qa .u64) _ (nl rfl))) qc.nil))))
def bits_Len64 (a:Int):Option Int:=
 ((if a>=4294967296 then
 some (ql .u64 a 32,32)
 else
 some (a,0):Option (Int×Int))).bind fun(b,f)=>
 ((if b>=65536 then
 some (ql .u64 b 16,w64 (f+16))
 else
 some (b,f):Option (Int×Int))).bind fun(c,g)=>
 ((if c>=256 then
 some (ql .u64 c 8,w64 (g+8))
 else
 some (c,g):Option (Int×Int))).bind fun(h,d)=>
 (idx ([0,1,2,2,3,3,3,3,4,4,4,4,4,4,4,4,5,5,5,5,5,5,5,5,5,5,5,5,5,5,5,5,6,6,6,6,6,6,6,6,6,6,6,6,6,6,6,6,6,6,6,6,6,6,6,6,6,6,6,6,6,6,6,6,7,7,7,7,7,7,7,7,7,7,7,7,7,7,7,7,7,7,7,7,7,7,7,7,7,7,7,7,7,7,7,7,7,7,7,7,7,7,7,7,7,7,7,7,7,7,7,7,7,7,7,7,7,7,7,7,7,7,7,7,7,7,7,7,8,8,8,8,8,8,8,8,8,8,8,8,8,8,8,8,8,8,8,8,8,8,8,8,8,8,8,8,8,8,8,8,8,8,8,8,8,8,8,8,8,8,8,8,8,8,8,8,8,8,8,8,8,8,8,8,8,8,8,8,8,8,8,8,8,8,8,8,8,8,8,8,8,8,8,8,8,8,8,8,8,8,8,8,8,8,8,8,8,8,8,8,8,8,8,8,8,8,8,8,8,8,8,8,8,8,8,8,8,8,8,8,8,8,8,8,8,8,8,8,8,8,8,8,8,8,8,8]:Str) (IntKind.wrap .u8 h)).bind fun e=>
 some (w64 (d+(w64 (e.toNat:Int))))
theorem qea (b:Int) {res:Int} (h:bits_Len64 b=some res):qb ZT (.fn 243) [.int .u64 b] [] (.i res) []:=by
 unfold bits_Len64 at h
 refine Ub Tryz.func243 rfl rfl (m:=25) rfl (rs:=[.tmp 2]) rfl (l:=(kAt b [])) rfl ?_
 refine sh fol (kAt b [(2,.i 0)]) ?_
 refine sq ?_
 refine sh fol (kAt b ((2,.i 0)::(kAv (decide (b>=4294967296))))) ?_
 obtain⟨p,g3,h⟩:=bnd h
 refine Goes.imp (Q:=fun x s'=>(x= .normal/\ ∃c g,(c,g)=p/\Sub s' (ofG 25 (kAt c (kAi g)),[]))) ?_ ?_
 ·refine ihD g3 (fun q g3=>?_) (fun q g3=>?_)
  ·refine sh fol (kAt (ql .u64 b 32) []) ?_
   refine gh fol (kAt (ql .u64 b 32) [(2,.i 32)]) ?_
   obtain rfl:=si g3
   exact⟨rfl,_,_,rfl,(Sub.refl _)⟩
  refine Goes.skip ?_
  obtain rfl:=si g3
  exact⟨rfl,_,_,rfl,(Sub.keep [0,2] rfl rfl)⟩
 rintro x s' ⟨rfl,c,g,rfl,hsub⟩
 try dsimp only at h
 refine Goes.sub hsub ?_
 refine sq ?_
 refine sh fol (kAt c [(2,.i g),(8,.bool (decide (c>=65536)))]) ?_
 obtain⟨r,g7,h⟩:=bnd h
 refine Goes.imp (Q:=fun x s'=>(x= .normal/\ ∃d j,(d,j)=r/\Sub s' (ofG 25 (kAt d (kAi j)),[]))) ?_ ?_
 ·refine ihD g7 (fun s g7=>?_) (fun s g7=>?_)
  ·refine sh fol (kAt (ql .u64 c 16) (kAi g)) ?_
   refine gh fol (kAt (ql .u64 c 16) (kAi (w64 (g+16)))) ?_
   obtain rfl:=si g7
   exact⟨rfl,_,_,rfl,(Sub.refl _)⟩
  refine Goes.skip ?_
  obtain rfl:=si g7
  exact⟨rfl,_,_,rfl,(Sub.keep [0,2] rfl rfl)⟩
 rintro x s' ⟨rfl,d,j,rfl,hsub⟩
 try dsimp only at h
 refine Goes.sub hsub ?_
 refine sq ?_
 refine sh fol (kAt d [(2,.i j),(14,.bool (decide (d>=256)))]) ?_
 obtain⟨n,g11,h⟩:=bnd h
 refine Goes.imp (Q:=fun x s'=>(x= .normal/\ ∃k a,(k,a)=n/\Sub s' (ofG 25 (kAt k (kAi a)),[]))) ?_ ?_
 ·refine ihD g11 (fun o g11=>?_) (fun o g11=>?_)
  ·refine sh fol (kAt (ql .u64 d 8) (kAi j)) ?_
   refine gh fol (kAt (ql .u64 d 8) (kAi (w64 (j+8)))) ?_
   obtain rfl:=si g11
   exact⟨rfl,_,_,rfl,(Sub.refl _)⟩
  refine Goes.skip ?_
  obtain rfl:=si g11
  exact⟨rfl,_,_,rfl,(Sub.keep [0,2] rfl rfl)⟩
 rintro x s' ⟨rfl,k,a,rfl,hsub⟩
 try dsimp only at h
 refine Goes.sub hsub ?_
 obtain⟨e,f,h⟩:=bnd h
 refine sq (gr fol [3] (kAi (w64 (a+(w64 (e.toNat:Int))))) (ac (hs (.done (.opt (jH ZT 9 (.str [0,1,2,2,3,3,3,3,4,4,4,4,4,4,4,4,5,5,5,5,5,5,5,5,5,5,5,5,5,5,5,5,6,6,6,6,6,6,6,6,6,6,6,6,6,6,6,6,6,6,6,6,6,6,6,6,6,6,6,6,6,6,6,6,7,7,7,7,7,7,7,7,7,7,7,7,7,7,7,7,7,7,7,7,7,7,7,7,7,7,7,7,7,7,7,7,7,7,7,7,7,7,7,7,7,7,7,7,7,7,7,7,7,7,7,7,7,7,7,7,7,7,7,7,7,7,7,7,8,8,8,8,8,8,8,8,8,8,8,8,8,8,8,8,8,8,8,8,8,8,8,8,8,8,8,8,8,8,8,8,8,8,8,8,8,8,8,8,8,8,8,8,8,8,8,8,8,8,8,8,8,8,8,8,8,8,8,8,8,8,8,8,8,8,8,8,8,8,8,8,8,8,8,8,8,8,8,8,8,8,8,8,8,8,8,8,8,8,8,8,8,8,8,8,8,8,8,8,8,8,8,8,8,8,8,8,8,8,8,8,8,8,8,8,8,8,8,8,8,8,8,8,8,8,8,8]) (.int .u8 (IntKind.wrap .u8 k)))) (.int .u8 (e.toNat:Int))) (qaj st9 f)) az) ?_)
 refine Goes.ret ?_
 obtain rfl:=si h
 exact(gw2 [.i (w64 (a+(w64 (e.toNat:Int))))] (Ua tI))
def bits_LeadingZeros64 (a:Int):Option Int:=
 (bits_Len64 a).bind fun b=>
 some (w64 (64-b))
theorem qaH (a:Int) {res:Int} (h:bits_LeadingZeros64 a=some res):qb ZT (.fn 286) [.int .u64 a] [] (.i res) []:=by
 unfold bits_LeadingZeros64 at h
 refine Ub Tryz.func286 rfl rfl (m:=6) rfl (rs:=[.tmp 2]) rfl (l:=(kAt a [])) rfl ?_
 refine sh fol (kAt a []) ?_
 obtain⟨c,b,h⟩:=bnd h
 refine sq (gr fol [1] (kAi (w64 (64-c))) (ac (cv (qea a b)) az) ?_)
 refine Goes.ret ?_
 obtain rfl:=si h
 exact(gw2 [.i (w64 (64-c))] (Ua tI))
def yj (d:Int) (c:Int):Nat->Int->Int->Option Int
 |0,_,_=>none
 |K+1,a,b=>
  (if a>=4294967296 then
  some true
  else
  some (decide ((IntKind.wrap .u64 (a*(qy .u64 d 4294967295)))>(IntKind.wrap .u64 ((IntKind.wrap .u64 (4294967296*b))+(ql .u64 c 32))))):Option Bool).bind fun e=>
  if e=true then
  if(IntKind.wrap .u64 (b+(ql .u64 d 32)))>=4294967296 then
  some (IntKind.wrap .u64 (a-1))
  else
  yj d c K (IntKind.wrap .u64 (a-1)) (IntKind.wrap .u64 (b+(ql .u64 d 32)))
  else
  some a
def yg (d:Int) (c:Int):Nat->Int->Int->Option Int
 |0,_,_=>none
 |K+1,b,a=>
  (if a>=4294967296 then
  some true
  else
  some (decide ((IntKind.wrap .u64 (a*(qy .u64 d 4294967295)))>(IntKind.wrap .u64 ((IntKind.wrap .u64 (4294967296*b))+(qy .u64 c 4294967295))))):Option Bool).bind fun e=>
  if e=true then
  if(IntKind.wrap .u64 (b+(ql .u64 d 32)))>=4294967296 then
  some (IntKind.wrap .u64 (a-1))
  else
  yg d c K (IntKind.wrap .u64 (b+(ql .u64 d 32))) (IntKind.wrap .u64 (a-1))
  else
  some a
def qai (N:Nat) (hi:Int) (lo:Int) (y:Int):Option (Int×Int):=
 ((if y=0 then
 none
 else
 some ():Option Unit)).bind fun _=>
 ((if y<=hi then
 none
 else
 some ():Option Unit)).bind fun _=>
 if hi=0 then
 (qcK .u64 lo y).bind fun k=>
 (qe2 .u64 lo y).bind fun l=>
 some (k,l)
 else
 (bits_LeadingZeros64 y).bind fun f=>
 (qgV .u64 y (IntKind.wrap .u64 f)).bind fun d=>
 (qgV .u64 hi (IntKind.wrap .u64 f)).bind fun b=>
 (qjL .u64 lo (IntKind.wrap .u64 (64-(IntKind.wrap .u64 f)))).bind fun c=>
 (qgV .u64 lo (IntKind.wrap .u64 f)).bind fun a=>
 (qcK .u64 (orI .u64 b c) (ql .u64 d 32)).bind fun g=>
 (yj d a N g (IntKind.wrap .u64 ((orI .u64 b c)-(IntKind.wrap .u64 (g*(ql .u64 d 32)))))).bind fun e=>
 (qcK .u64 (IntKind.wrap .u64 ((IntKind.wrap .u64 ((IntKind.wrap .u64 ((orI .u64 b c)*4294967296))+(ql .u64 a 32)))-(IntKind.wrap .u64 (e*d)))) (ql .u64 d 32)).bind fun h=>
 (yg d a N (IntKind.wrap .u64 ((IntKind.wrap .u64 ((IntKind.wrap .u64 ((IntKind.wrap .u64 ((orI .u64 b c)*4294967296))+(ql .u64 a 32)))-(IntKind.wrap .u64 (e*d))))-(IntKind.wrap .u64 (h*(ql .u64 d 32))))) h).bind fun i=>
 (qjL .u64 (IntKind.wrap .u64 ((IntKind.wrap .u64 ((IntKind.wrap .u64 ((IntKind.wrap .u64 ((IntKind.wrap .u64 ((IntKind.wrap .u64 ((orI .u64 b c)*4294967296))+(ql .u64 a 32)))-(IntKind.wrap .u64 (e*d))))*4294967296))+(qy .u64 a 4294967295)))-(IntKind.wrap .u64 (i*d)))) (IntKind.wrap .u64 f)).bind fun j=>
 some (IntKind.wrap .u64 ((IntKind.wrap .u64 (e*4294967296))+i),j)
theorem qef (N:Nat) (hi:Int) (lo:Int) (y:Int) {res:Int×Int} (h:qai N hi lo y=some res):qb ZT (.fn 285) (.int .u64 hi::(kA2 lo y)) [] (.tuple (kA2 res.1 res.2)) []:=by
 unfold qai at h
 refine Ub Tryz.func285 rfl rfl (m:=135) rfl (rs:=[.tmp 6,.tmp 7]) rfl (l:=(kU hi lo [(2,.int .u64 y)])) rfl ?_
 refine sh fol (kU hi lo [(2,.int .u64 y)]) ?_
 refine sq ?_
 refine sh fol (kU hi lo [(2,.int .u64 y),(20,.bool (decide (y=0)))]) ?_
 obtain⟨Z,g1,h⟩:=bnd h
 refine Goes.imp (Q:=fun x s'=>(x= .normal/\()=Z/\Sub s' (ofG 135 (kU hi lo [(2,.int .u64 y)]),[]))) ?_ ?_
 ·refine ihD g1 (fun c2 g1=>?_) (fun c2 g1=>?_)
  ·cases g1
  refine Goes.skip ?_
  obtain rfl:=si g1
  exact⟨rfl,rfl,(Sub.keep [0,1,2] rfl rfl)⟩
 rintro x s' ⟨rfl,rfl,hsub⟩
 refine Goes.sub hsub ?_
 refine sq ?_
 refine sh fol (kU hi lo [(2,.int .u64 y),(24,.bool (decide (y<=hi)))]) ?_
 obtain⟨r3,g3,h⟩:=bnd h
 refine Goes.imp (Q:=fun x s'=>(x= .normal/\()=r3/\Sub s' (ofG 135 (kU hi lo [(2,.int .u64 y)]),[]))) ?_ ?_
 ·refine ihD g3 (fun c4 g3=>?_) (fun c4 g3=>?_)
  ·cases g3
  refine Goes.skip ?_
  obtain rfl:=si g3
  exact⟨rfl,rfl,(Sub.keep [0,1,2] rfl rfl)⟩
 rintro x s' ⟨rfl,rfl,hsub⟩
 refine Goes.sub hsub ?_
 refine sq ?_
 refine sh fol (kU hi lo [(2,.int .u64 y),(27,.bool (decide (hi=0)))]) ?_
 refine ihD h (fun c5 h=>?_) (fun c5 h=>?_)
 ·obtain⟨K,E,h⟩:=bnd h
  obtain⟨L,F,h⟩:=bnd h
  refine sq (gr fol [2,5] (kAF K (kAR L [])) (ac (hs (.done (.opt (zy ZT .quo 245 (.tmp 28) (.tmp 29) (.int .u64 lo) (.int .u64 y))) (.int .u64 K)) (qcC E)) (ac (hs (.done (.opt (zy ZT .rem 245 (.tmp 31) (.tmp 32) (.int .u64 lo) (.int .u64 y))) (.int .u64 L)) (qfU F)) az)) ?_)
  refine Goes.ret ?_
  obtain rfl:=si h
  exact(gw2 (kA2 K L) (FzW.tuple (qc.cons (Ua tI) (qc.cons (Ua tI) qc.nil))))
 refine Goes.skip ?_
 obtain⟨f,G,h⟩:=bnd h
 refine sq (gr fol [1] (kU hi lo [(2,.int .u64 y),(8,.int .u64 (IntKind.wrap .u64 f))]) (ac (cv (qaH y G)) az) ?_)
 obtain⟨b,H,h⟩:=bnd h
 refine sq (gr fol [2] (kU hi lo [(2,.int .u64 b),(8,.int .u64 (IntKind.wrap .u64 f))]) (ac (hs (.done (.opt (zy ZT .shl 245 (.tmp 37) (.tmp 38) (.int .u64 y) (.int .u64 (IntKind.wrap .u64 f)))) (.int .u64 b)) (qeB H)) az) ?_)
 refine sh fol (kU hi lo [(2,.int .u64 b),(8,.int .u64 (IntKind.wrap .u64 f)),(9,.int .u64 (ql .u64 b 32))]) ?_
 refine sh fol (kU hi lo (kF b (IntKind.wrap .u64 f) (ql .u64 b 32) (qy .u64 b 4294967295) [])) ?_
 obtain⟨c,t,h⟩:=bnd h
 obtain⟨d,u,h⟩:=bnd h
 refine sq (gr fol [2,6] ((1,.int .u64 lo)::(kF b (IntKind.wrap .u64 f) (ql .u64 b 32) (qy .u64 b 4294967295) [(11,.int .u64 (orI .u64 c d))])) (ac (hs (.done (.opt (zy ZT .shl 245 (.tmp 44) (.tmp 45) (.int .u64 hi) (.int .u64 (IntKind.wrap .u64 f)))) (.int .u64 c)) (qeB t)) (ac (hs (.done (.opt (zy ZT .shr 245 (.tmp 47) (.tmp 49) (.int .u64 lo) (.int .u64 (IntKind.wrap .u64 (64-(IntKind.wrap .u64 f)))))) (.int .u64 d)) (qf0 u)) az)) ?_)
 obtain⟨a,v,h⟩:=bnd h
 refine sq (gr fol [2] (kF b (IntKind.wrap .u64 f) (ql .u64 b 32) (qy .u64 b 4294967295) (kW (orI .u64 c d) a [])) (ac (hs (.done (.opt (zy ZT .shl 245 (.tmp 52) (.tmp 53) (.int .u64 lo) (.int .u64 (IntKind.wrap .u64 f)))) (.int .u64 a)) (qeB v)) az) ?_)
 refine sh fol (kF b (IntKind.wrap .u64 f) (ql .u64 b 32) (qy .u64 b 4294967295) (kW (orI .u64 c d) a [(13,.int .u64 (ql .u64 a 32))])) ?_
 refine sh fol (kF b (IntKind.wrap .u64 f) (ql .u64 b 32) (qy .u64 b 4294967295) (kAK (orI .u64 c d) (ql .u64 a 32) [(14,.int .u64 (qy .u64 a 4294967295))])) ?_
 obtain⟨q,w,h⟩:=bnd h
 refine sq (gr fol [2] (kF b (IntKind.wrap .u64 f) (ql .u64 b 32) (qy .u64 b 4294967295) (kAK (orI .u64 c d) (ql .u64 a 32) (kAn (qy .u64 a 4294967295) q []))) (ac (hs (.done (.opt (zy ZT .quo 245 (.tmp 59) (.tmp 60) (.int .u64 (orI .u64 c d)) (.int .u64 (ql .u64 b 32)))) (.int .u64 q)) (qcC w)) az) ?_)
 refine sh fol (kF b (IntKind.wrap .u64 f) (ql .u64 b 32) (qy .u64 b 4294967295) (kAK (orI .u64 c d) (ql .u64 a 32) (kL (qy .u64 a 4294967295) q (IntKind.wrap .u64 ((orI .u64 c d)-(IntKind.wrap .u64 (q*(ql .u64 b 32))))) []))) ?_
 refine sq (Goes.block ?_)
 obtain⟨I,g17,h⟩:=bnd h
 refine Goes.imp (Q:=fun x s'=>(x= .exit 0/\ ∃e,e=I/\Sub s' (ofG 135 (kF b (IntKind.wrap .u64 f) (ql .u64 b 32) (qy .u64 b 4294967295) (kAK (orI .u64 c d) (ql .u64 a 32) (kAn (qy .u64 a 4294967295) e []))),[]))) ?_ ?_
 ·refine Uc (fun M s=> ∃(j:Int) (g:Int),s=(ofG 135 (kF b (IntKind.wrap .u64 f) (ql .u64 b 32) (qy .u64 b 4294967295) (kAK (orI .u64 c d) (ql .u64 a 32) (kL (qy .u64 a 4294967295) j g []))),[])/\yj b a M j g=some I) ?_ (m:=N) ⟨_,_,rfl,g17⟩
  rintro M s ⟨j,g,rfl,g17⟩
  cases M with
  |zero=>simp only[yj]at g17;cases g17
  |succ M=>
   rw[yj]at g17
   refine sq ?_
   refine sq ?_
   obtain⟨O,k,g17⟩:=bnd g17
   refine Goes.cut (s':=(ofG 135 (kF b (IntKind.wrap .u64 f) (ql .u64 b 32) (qy .u64 b 4294967295) (kAK (orI .u64 c d) (ql .u64 a 32) (kL (qy .u64 a 4294967295) j g [(78,.bool O)]))),[])) ?_ ?_
   ·rcases wyD k with⟨z,k⟩|⟨z,k⟩
    ·obtain rfl:=si k
     exact tr fol [2] (kF b (IntKind.wrap .u64 f) (ql .u64 b 32) (qy .u64 b 4294967295) (kAK (orI .u64 c d) (ql .u64 a 32) (kL (qy .u64 a 4294967295) j g [(78,.bool true)]))) (ac (gw z) az)
    obtain rfl:=si k
    exact tr fol [2] (kF b (IntKind.wrap .u64 f) (ql .u64 b 32) (qy .u64 b 4294967295) (kAK (orI .u64 c d) (ql .u64 a 32) (kL (qy .u64 a 4294967295) j g [(78,.bool (decide ((IntKind.wrap .u64 (j*(qy .u64 b 4294967295)))>(IntKind.wrap .u64 ((IntKind.wrap .u64 (4294967296*g))+(ql .u64 a 32))))))]))) (ac (gw z) az)
   refine ihB g17 (fun P g17=>?_) (fun P g17=>?_)
   ·refine Goes.skip ?_
    refine Goes.block ?_
    refine sh fol (kF b (IntKind.wrap .u64 f) (ql .u64 b 32) (qy .u64 b 4294967295) (kAK (orI .u64 c d) (ql .u64 a 32) (kL (qy .u64 a 4294967295) (IntKind.wrap .u64 (j-1)) g []))) ?_
    refine sh fol (kF b (IntKind.wrap .u64 f) (ql .u64 b 32) (qy .u64 b 4294967295) (kAK (orI .u64 c d) (ql .u64 a 32) (kL (qy .u64 a 4294967295) (IntKind.wrap .u64 (j-1)) (IntKind.wrap .u64 (g+(ql .u64 b 32))) []))) ?_
    refine sh fol (kF b (IntKind.wrap .u64 f) (ql .u64 b 32) (qy .u64 b 4294967295) (kAK (orI .u64 c d) (ql .u64 a 32) (kL (qy .u64 a 4294967295) (IntKind.wrap .u64 (j-1)) (IntKind.wrap .u64 (g+(ql .u64 b 32))) [(85,.bool (decide ((IntKind.wrap .u64 (g+(ql .u64 b 32)))>=4294967296)))]))) ?_
    refine ihD g17 (fun U g17=>?_) (fun U g17=>?_)
    ·refine Goes.exit ?_
     obtain rfl:=si g17
     exact⟨rfl,_,rfl,(Sub.keep [2,8,9,10,11,13,14,15] rfl rfl)⟩
    refine Goes.skip ?_
    exact⟨M,(ofG 135 (kF b (IntKind.wrap .u64 f) (ql .u64 b 32) (qy .u64 b 4294967295) (kAK (orI .u64 c d) (ql .u64 a 32) (kL (qy .u64 a 4294967295) (IntKind.wrap .u64 (j-1)) (IntKind.wrap .u64 (g+(ql .u64 b 32))) []))),[]),Nat.lt_succ_self _,(Sub.keep [2,8,9,10,11,13,14,15,16] rfl rfl),_,_,rfl,g17⟩
   refine Goes.exit ?_
   obtain rfl:=si g17
   exact⟨rfl,_,rfl,(Sub.keep [2,8,9,10,11,13,14,15] rfl rfl)⟩
 rintro x s' ⟨rfl,e,rfl,hsub⟩
 refine Goes.sub hsub ?_
 refine sh fol (kF b (IntKind.wrap .u64 f) (ql .u64 b 32) (qy .u64 b 4294967295) (kAn (qy .u64 a 4294967295) e [(17,.int .u64 (IntKind.wrap .u64 ((IntKind.wrap .u64 ((IntKind.wrap .u64 ((orI .u64 c d)*4294967296))+(ql .u64 a 32)))-(IntKind.wrap .u64 (e*b)))))])) ?_
 obtain⟨r,A,h⟩:=bnd h
 refine sq (gr fol [2] (kF b (IntKind.wrap .u64 f) (ql .u64 b 32) (qy .u64 b 4294967295) (kAn (qy .u64 a 4294967295) e (kAL (IntKind.wrap .u64 ((IntKind.wrap .u64 ((IntKind.wrap .u64 ((orI .u64 c d)*4294967296))+(ql .u64 a 32)))-(IntKind.wrap .u64 (e*b)))) r []))) (ac (hs (.done (.opt (zy ZT .quo 245 (.tmp 94) (.tmp 95) (.int .u64 (IntKind.wrap .u64 ((IntKind.wrap .u64 ((IntKind.wrap .u64 ((orI .u64 c d)*4294967296))+(ql .u64 a 32)))-(IntKind.wrap .u64 (e*b))))) (.int .u64 (ql .u64 b 32)))) (.int .u64 r)) (qcC A)) az) ?_)
 refine sh fol (kF b (IntKind.wrap .u64 f) (ql .u64 b 32) (qy .u64 b 4294967295) (kL (qy .u64 a 4294967295) e (IntKind.wrap .u64 ((IntKind.wrap .u64 ((IntKind.wrap .u64 ((IntKind.wrap .u64 ((orI .u64 c d)*4294967296))+(ql .u64 a 32)))-(IntKind.wrap .u64 (e*b))))-(IntKind.wrap .u64 (r*(ql .u64 b 32))))) (kAL (IntKind.wrap .u64 ((IntKind.wrap .u64 ((IntKind.wrap .u64 ((orI .u64 c d)*4294967296))+(ql .u64 a 32)))-(IntKind.wrap .u64 (e*b)))) r []))) ?_
 refine sq (Goes.block ?_)
 obtain⟨J,g27,h⟩:=bnd h
 refine Goes.imp (Q:=fun x s'=>(x= .exit 2/\ ∃p,p=J/\Sub s' (ofG 135 ((2,.int .u64 b)::(8,.int .u64 (IntKind.wrap .u64 f))::(kAn (qy .u64 a 4294967295) e (kAL (IntKind.wrap .u64 ((IntKind.wrap .u64 ((IntKind.wrap .u64 ((orI .u64 c d)*4294967296))+(ql .u64 a 32)))-(IntKind.wrap .u64 (e*b)))) p []))),[]))) ?_ ?_
 ·refine Uc (fun M s=> ∃(i:Int) (n:Int),s=(ofG 135 (kF b (IntKind.wrap .u64 f) (ql .u64 b 32) (qy .u64 b 4294967295) (kL (qy .u64 a 4294967295) e i (kAL (IntKind.wrap .u64 ((IntKind.wrap .u64 ((IntKind.wrap .u64 ((orI .u64 c d)*4294967296))+(ql .u64 a 32)))-(IntKind.wrap .u64 (e*b)))) n []))),[])/\yg b a M i n=some J) ?_ (m:=N) ⟨_,_,rfl,g27⟩
  rintro M s ⟨i,n,rfl,g27⟩
  cases M with
  |zero=>simp only[yg]at g27;cases g27
  |succ M=>
   rw[yg]at g27
   refine sq ?_
   refine sq ?_
   obtain⟨V,o,g27⟩:=bnd g27
   refine Goes.cut (s':=(ofG 135 (kF b (IntKind.wrap .u64 f) (ql .u64 b 32) (qy .u64 b 4294967295) (kL (qy .u64 a 4294967295) e i (kAL (IntKind.wrap .u64 ((IntKind.wrap .u64 ((IntKind.wrap .u64 ((orI .u64 c d)*4294967296))+(ql .u64 a 32)))-(IntKind.wrap .u64 (e*b)))) n [(113,.bool V)]))),[])) ?_ ?_
   ·rcases wyD o with⟨B,o⟩|⟨B,o⟩
    ·obtain rfl:=si o
     exact tr fol [2] (kF b (IntKind.wrap .u64 f) (ql .u64 b 32) (qy .u64 b 4294967295) (kL (qy .u64 a 4294967295) e i (kAL (IntKind.wrap .u64 ((IntKind.wrap .u64 ((IntKind.wrap .u64 ((orI .u64 c d)*4294967296))+(ql .u64 a 32)))-(IntKind.wrap .u64 (e*b)))) n [(113,.bool true)]))) (ac (gw B) az)
    obtain rfl:=si o
    exact tr fol [2] (kF b (IntKind.wrap .u64 f) (ql .u64 b 32) (qy .u64 b 4294967295) (kL (qy .u64 a 4294967295) e i (kAL (IntKind.wrap .u64 ((IntKind.wrap .u64 ((IntKind.wrap .u64 ((orI .u64 c d)*4294967296))+(ql .u64 a 32)))-(IntKind.wrap .u64 (e*b)))) n [(113,.bool (decide ((IntKind.wrap .u64 (n*(qy .u64 b 4294967295)))>(IntKind.wrap .u64 ((IntKind.wrap .u64 (4294967296*i))+(qy .u64 a 4294967295))))))]))) (ac (gw B) az)
   refine ihB g27 (fun X g27=>?_) (fun X g27=>?_)
   ·refine Goes.skip ?_
    refine Goes.block ?_
    refine sh fol (kF b (IntKind.wrap .u64 f) (ql .u64 b 32) (qy .u64 b 4294967295) (kL (qy .u64 a 4294967295) e i (kAL (IntKind.wrap .u64 ((IntKind.wrap .u64 ((IntKind.wrap .u64 ((orI .u64 c d)*4294967296))+(ql .u64 a 32)))-(IntKind.wrap .u64 (e*b)))) (IntKind.wrap .u64 (n-1)) []))) ?_
    refine sh fol (kF b (IntKind.wrap .u64 f) (ql .u64 b 32) (qy .u64 b 4294967295) (kL (qy .u64 a 4294967295) e (IntKind.wrap .u64 (i+(ql .u64 b 32))) (kAL (IntKind.wrap .u64 ((IntKind.wrap .u64 ((IntKind.wrap .u64 ((orI .u64 c d)*4294967296))+(ql .u64 a 32)))-(IntKind.wrap .u64 (e*b)))) (IntKind.wrap .u64 (n-1)) []))) ?_
    refine sh fol (kF b (IntKind.wrap .u64 f) (ql .u64 b 32) (qy .u64 b 4294967295) (kL (qy .u64 a 4294967295) e (IntKind.wrap .u64 (i+(ql .u64 b 32))) (kAL (IntKind.wrap .u64 ((IntKind.wrap .u64 ((IntKind.wrap .u64 ((orI .u64 c d)*4294967296))+(ql .u64 a 32)))-(IntKind.wrap .u64 (e*b)))) (IntKind.wrap .u64 (n-1)) [(120,.bool (decide ((IntKind.wrap .u64 (i+(ql .u64 b 32)))>=4294967296)))]))) ?_
    refine ihD g27 (fun Y g27=>?_) (fun Y g27=>?_)
    ·refine Goes.exit ?_
     obtain rfl:=si g27
     exact⟨rfl,_,rfl,(Sub.keep [2,8,14,15,17,18] rfl rfl)⟩
    refine Goes.skip ?_
    exact⟨M,(ofG 135 (kF b (IntKind.wrap .u64 f) (ql .u64 b 32) (qy .u64 b 4294967295) (kL (qy .u64 a 4294967295) e (IntKind.wrap .u64 (i+(ql .u64 b 32))) (kAL (IntKind.wrap .u64 ((IntKind.wrap .u64 ((IntKind.wrap .u64 ((orI .u64 c d)*4294967296))+(ql .u64 a 32)))-(IntKind.wrap .u64 (e*b)))) (IntKind.wrap .u64 (n-1)) []))),[]),Nat.lt_succ_self _,(Sub.keep [2,8,9,10,14,15,16,17,18] rfl rfl),_,_,rfl,g27⟩
   refine Goes.exit ?_
   obtain rfl:=si g27
   exact⟨rfl,_,rfl,(Sub.keep [2,8,14,15,17,18] rfl rfl)⟩
 rintro x s' ⟨rfl,p,rfl,hsub⟩
 refine Goes.sub hsub ?_
 obtain⟨C,D,h⟩:=bnd h
 refine sq (gr fol [13] (kAF (IntKind.wrap .u64 ((IntKind.wrap .u64 (e*4294967296))+p)) (kAR C [])) (ac (hs (.done (.opt (zy ZT .shr 245 (.tmp 132) (.tmp 133) (.int .u64 (IntKind.wrap .u64 ((IntKind.wrap .u64 ((IntKind.wrap .u64 ((IntKind.wrap .u64 ((IntKind.wrap .u64 ((IntKind.wrap .u64 ((orI .u64 c d)*4294967296))+(ql .u64 a 32)))-(IntKind.wrap .u64 (e*b))))*4294967296))+(qy .u64 a 4294967295)))-(IntKind.wrap .u64 (p*b))))) (.int .u64 (IntKind.wrap .u64 f)))) (.int .u64 C)) (qf0 D)) az) ?_)
 refine Goes.ret ?_
 obtain rfl:=si h
 exact(gw2 (kA2 (IntKind.wrap .u64 ((IntKind.wrap .u64 (e*4294967296))+p)) C) (FzW.tuple (qc.cons (Ua tI) (qc.cons (Ua tI) qc.nil))))
def zF (b:List Int) (a:Int):Nat->(List Int)->Int->Option (List Int)
 |0,_,_=>none
 |K+1,f,c=>
  if c<(b.length:Int)then
  (((idx b c).bind fun e=>
  (idx f c).bind fun g=>
  (qgV .u64 e a).bind fun h=>
  (put f c (orI .u64 g h)).bind fun d=>
  if a>0 then
  (qjL .u64 e (w64 (64-a))).bind fun i=>
  (idx d (w64 (c+1))).bind fun k=>
  (put d (w64 (c+1)) i).bind fun j=>
  some j
  else
  some d:Option (List Int))).bind fun l=>
  zF b a K l (w64 (c+1))
  else
  some f
def yI (N:Nat) (a:List Int) (b:Int):Option (List Int):=
 (mk 8 (w64 ((a.length:Int)+1)) 0).bind fun c=>
 (zF a b N c 0).bind fun d=>
 some d
theorem qb3 (N:Nat) (a:List Int) (b:Int) {G:List Int} (h:yI N a b=some G):qb ZT (.fn 287) [vl (qa .u64) a,.i b] [] (.slice 0 0 G.length G.length 1) [.cells (G.flatMap (qa .u64).c)]:=by
 unfold yI at h
 refine Goes.fnH Tryz.func287 rfl rfl (m:=40) rfl (rs:=[.tmp 4]) rfl (l:=[(0,vl (qa .u64) a),(1,.i b)]) rfl ?_
 intro B hB
 refine sh fol [(0,vl (qa .u64) a),(1,.i b)] ?_
 obtain⟨D,F,h⟩:=bnd h
 refine sq (gq fol [3] ((0,vl (qa .u64) a)::(1,.i b)::(kB D [])) [.cells (D.flatMap (qa .u64).c)] (ac (hs (.run [] (zU ZT 93 (.i (w64 ((a.length:Int)+1))) (.i (w64 ((a.length:Int)+1)))) [] (.slice 0 0 D.length D.length 1) [.cells (D.flatMap (qa .u64).c)] false) (qcv zA (E:=(qa .u64)) (z:=0) rfl (by kernel_rfl) F rfl)) az) ?_)
 refine sq ?_
 refine sh fol ((1,.i b)::(kB D [(12,vl (qa .u64) a),(13,.i (a.length:Int)),(14,.i 0)])) ?_
 refine Goes.block ?_
 obtain⟨I,g6,h⟩:=bnd h
 refine Goes.imp (Q:=fun x s'=>(x= .exit 0/\ ∃r,r=I/\Sub s' (ofG 40 (kB r []),[.cells (r.flatMap (qa .u64).c)]))) ?_ ?_
 ·refine Uc (fun M s=> ∃(g:List Int) (d:Int),s=(ofG 40 ((1,.i b)::(kB g ((12,vl (qa .u64) a)::(kAG (a.length:Int) d)))),[.cells (g.flatMap (qa .u64).c)])/\zF a b M g d=some I) ?_ (m:=N) ⟨_,_,rfl,g6⟩
  rintro M s ⟨g,d,rfl,g6⟩
  cases M with
  |zero=>simp only[zF]at g6;cases g6
  |succ M=>
   rw[zF]at g6
   refine sh fol ((1,.i b)::(kB g [(12,vl (qa .u64) a),(13,.i (a.length:Int)),(14,.i d),(15,.bool (decide (d<(a.length:Int))))])) ?_
   refine sq ?_
   refine ihD g6 (fun J g6=>?_) (fun J g6=>?_)
   ·refine Goes.skip ?_
    refine sq ?_
    obtain⟨K,g9,g6⟩:=bnd g6
    refine Goes.imp (Q:=fun x s'=>(x= .normal/\ ∃t,t=K/\Sub s' (ofG 40 ((1,.i b)::(kB t ((12,vl (qa .u64) a)::(kAG (a.length:Int) d)))),[.cells (t.flatMap (qa .u64).c)]))) ?_ ?_
    ·refine Goes.block ?_
     obtain⟨j,k,g9⟩:=bnd g9
     refine sq (gr fol [1,2] ((1,.i b)::(kB g ((6,.i d)::(kAR j ((12,vl (qa .u64) a)::(kAG (a.length:Int) d)))))) (ac (iv zA (qa .u64) k) (ac (lv 0 zK (qa .u64) k rfl) az)) ?_)
     obtain⟨u,f,g9⟩:=bnd g9
     obtain⟨v,w,g9⟩:=bnd g9
     obtain⟨e,n,g9⟩:=bnd g9
     refine sq (gq fol [2,3,6,8,9] ((1,.i b)::(kB g ((6,.i d)::(kAR j ((12,vl (qa .u64) a)::(kAG (a.length:Int) d)))))) [.cells (e.flatMap (qa .u64).c)] (ac (hs (.done (.opt (qd ZT 93 (.slice 0 0 g.length g.length 1) (.i d))) (.ptr 0 ((d:Int).toNat*1+0))) (xS zA f)) (ac (hs (.run [0] (zR ZT 245 (.ptr 0 ((d:Int).toNat*1+0))) [.cells (g.flatMap (qa .u64).c)] (.int .u64 u) [.cells (g.flatMap (qa .u64).c)] false) (qbR zK (E:=(qa .u64)) (l:=g) rfl rfl f (nl rfl) rfl)) (ac (hs (.done (.opt (zy ZT .shl 245 (.tmp 23) (.tmp 24) (.int .u64 j) (.i b))) (.int .u64 v)) (qeB w)) (ac (hs (.done (.opt (qd ZT 93 (.slice 0 0 g.length g.length 1) (.i d))) (.ptr 0 ((d:Int).toNat*1+0))) (xS zA f)) (ac (hs (.run [0] (qp ZT 245 (.ptr 0 ((d:Int).toNat*1+0)) (.int .u64 (orI .u64 u v))) [.cells (g.flatMap (qa .u64).c)] .undef [.cells (e.flatMap (qa .u64).c)] true) (xI (E:=(qa .u64)) (l:=g) (y:=orI .u64 u v) rfl (show _=some 1 by kernel_rfl) rfl f rfl rfl rfl rfl rfl n rfl)) az))))) ?_)
     refine Goes.sub (show Sub (ofG 40 ((1,.i b)::(kB g ((6,.i d)::(kAR j ((12,vl (qa .u64) a)::(kAG (a.length:Int) d)))))),[.cells (e.flatMap (qa .u64).c)]) (ofG 40 ((1,.i b)::(kB e ((6,.i d)::(kAR j ((12,vl (qa .u64) a)::(kAG (a.length:Int) d)))))),[.cells (e.flatMap (qa .u64).c)])from(Sub.norm [] [some 0] (by rw[hB];rfl) rfl (.keep (.same nI) (.keep (.sliceE rfl (j6 n)) (.keep (.same nI) (.keep (.same nI) (.keep (.same (qg (qa .u64) _)) (.keep (.same nI) (.keep (.same nI) .nil))))))) (.ks .nil))) ?_
     refine sh fol ((1,.i b)::(kB e ((6,.i d)::(kAR j [(12,vl (qa .u64) a),(13,.i (a.length:Int)),(14,.i d),(29,.bool (decide (b>0)))])))) ?_
     refine ihD g9 (fun H g9=>?_) (fun H g9=>?_)
     ·obtain⟨A,C,g9⟩:=bnd g9
      obtain⟨L,o,g9⟩:=bnd g9
      obtain⟨p,q,g9⟩:=bnd g9
      refine gq fol [6,7,8] ((1,.i b)::(kB e ((12,vl (qa .u64) a)::(kAG (a.length:Int) d)))) [.cells (p.flatMap (qa .u64).c)] (ac (hs (.done (.opt (zy ZT .shr 245 (.tmp 33) (.tmp 35) (.int .u64 j) (.i (w64 (64-b))))) (.int .u64 A)) (qf0 C)) (ac (hs (.done (.opt (qd ZT 93 (.slice 0 0 e.length e.length 1) (.i (w64 (d+1))))) (.ptr 0 ((w64 (d+1):Int).toNat*1+0))) (xS zA o)) (ac (hs (.run [0] (qp ZT 245 (.ptr 0 ((w64 (d+1):Int).toNat*1+0)) (.int .u64 A)) [.cells (e.flatMap (qa .u64).c)] .undef [.cells (p.flatMap (qa .u64).c)] true) (xI (E:=(qa .u64)) (l:=e) (y:=A) rfl (show _=some 1 by kernel_rfl) rfl o rfl rfl rfl rfl rfl q rfl)) az))) ?_
      obtain rfl:=si g9
      exact⟨rfl,_,rfl,((show Sub (ofG 40 ((1,.i b)::(kB e ((12,vl (qa .u64) a)::(kAG (a.length:Int) d)))),[.cells (p.flatMap (qa .u64).c)]) (ofG 40 ((1,.i b)::(kB p ((12,vl (qa .u64) a)::(kAG (a.length:Int) d)))),[.cells (p.flatMap (qa .u64).c)])from(Sub.norm [] [some 0] (by rw[hB];rfl) rfl (.keep (.same nI) (.keep (.sliceE rfl (j6 q)) (.keep (.same (qg (qa .u64) _)) (.keep (.same nI) (.keep (.same nI) .nil))))) (.ks .nil))).trans (Sub.refl _))⟩
     refine Goes.skip ?_
     obtain rfl:=si g9
     exact⟨rfl,_,rfl,(Sub.keep [1,5,12,13,14] rfl rfl)⟩
    rintro x s' ⟨rfl,t,rfl,hsub⟩
    refine Goes.sub hsub ?_
    refine gh fol ((1,.i b)::(kB t ((12,vl (qa .u64) a)::(kAG (a.length:Int) (w64 (d+1)))))) ?_
    exact⟨M,(ofG 40 ((1,.i b)::(kB t ((12,vl (qa .u64) a)::(kAG (a.length:Int) (w64 (d+1)))))),[.cells (t.flatMap (qa .u64).c)]),Nat.lt_succ_self _,(Sub.refl _),_,_,rfl,g6⟩
   refine Goes.exit ?_
   obtain rfl:=si g6
   exact⟨rfl,_,rfl,(Sub.keep [5] rfl rfl)⟩
 rintro x s' ⟨rfl,r,rfl,hsub⟩
 refine Goes.sub hsub ?_
 refine sh fol [(4,.slice 0 0 r.length r.length 1)] ?_
 refine Goes.ret ?_
 obtain rfl:=si h
 exact(gh2 [.slice 0 0 r.length r.length 1] (qeT.refl _ _))
def vN (e:List Int) (f:Nat) (g:Nat) (a:List Int):Nat->Int->Int->Int->Option Int
 |0,_,_,_=>none
 |K+1,b,c,i=>
  if i=0 then
  (idx a (w64 ((a.length:Int)-2))).bind fun j=>
  (bits_Mul64 b j).bind fun d=>
  (if d.1<c then
  some true
  else
  if d.1=c then
  (qeC e f g (w64 ((a.length:Int)-2))).bind fun k=>
  some (decide (d.2<=k))
  else
  some false:Option Bool).bind fun l=>
  if l=true then
  some b
  else
  (idx a (w64 ((a.length:Int)-1))).bind fun m=>
  (xy c m 0).bind fun h=>
  vN e f g a K (IntKind.wrap .u64 (b-1)) h.1 h.2
  else
  some b
def jM (b:Nat) (e:Nat) (c:List Int) (f:Int):Nat->(List Int)->Int->Int->Int->Option ((List Int)×Int×Int)
 |0,_,_,_,_=>none
 |K+1,d,a,g,h=>
  if a<(c.length:Int)then
  (idx c a).bind fun l=>
  (bits_Mul64 f l).bind fun i=>
  (xy i.2 h 0).bind fun j=>
  (qeC d b e a).bind fun m=>
  (qdc m j.1 g).bind fun k=>
  (put d ((b+(a:Int).toNat:Nat):Int) k.1).bind fun n=>
  jM b e c f K n (w64 (a+1)) k.2 (IntKind.wrap .u64 (i.1+j.2))
  else
  some (d,g,h)
def jO (b:Nat) (e:Nat) (c:List Int):Nat->(List Int)->Int->Int->Option ((List Int)×Int)
 |0,_,_,_=>none
 |K+1,d,a,f=>
  if a<(c.length:Int)then
  (qeC d b e a).bind fun h=>
  (idx c a).bind fun i=>
  (xy h i f).bind fun g=>
  (put d ((b+(a:Int).toNat:Nat):Int) g.1).bind fun j=>
  jO b e c K j (w64 (a+1)) g.2
  else
  some (d,f)
def qa2 (N:Nat) (d:List Int) (b:Nat) (c:Nat) (v:Nat) (a:List Int):Option ((List Int)×Int):=
 (qeC d b c (a.length:Int)).bind fun u=>
 (idx a (w64 ((a.length:Int)-1))).bind fun l=>
 ((if u>=l then
 (qeC d b c (w64 ((a.length:Int)-1))).bind fun m=>
 (xy m l 0).bind fun f=>
 some (18446744073709551615,f.1,f.2)
 else
 (qeC d b c (w64 ((a.length:Int)-1))).bind fun n=>
 (qai N u n l).bind fun g=>
 some (g.1,g.2,0):Option (Int×Int×Int))).bind fun(w,x,y)=>
 (vN d b c a N w x y).bind fun e=>
 (jM b c a e N d 0 0 0).bind fun(h,o,p)=>
 (qeC h b c (a.length:Int)).bind fun q=>
 (qdc q p o).bind fun i=>
 (put h ((b+((a.length:Int):Int).toNat:Nat):Int) i.1).bind fun j=>
 if i.2=0 then
 some (j,e)
 else
 (jO b c a N j 0 0).bind fun(k,r)=>
 (qeC k b c (a.length:Int)).bind fun s=>
 (put k ((b+((a.length:Int):Int).toNat:Nat):Int) (IntKind.wrap .u64 (s+r))).bind fun t=>
 some (t,IntKind.wrap .u64 (e-1))
theorem qgk (N:Nat) (j:List Int) (b:Nat) (d:Nat) (e:Nat) (a:List Int) {l1:List Int} {n2:Int} (h:qa2 N j b d e a=some (l1,n2)):qb ZT (.fn 288) [.slice 0 b d e 1,vl (qa .u64) a] [.cells (j.flatMap (qa .u64).c)] (.int .u64 n2) [.cells (l1.flatMap (qa .u64).c)]:=by
 unfold qa2 at h
 refine Goes.fnH Tryz.func288 rfl rfl (m:=186) rfl (rs:=[.tmp 4]) rfl (l:=[(0,.slice 0 b d e 1),(1,vl (qa .u64) a)]) rfl ?_
 intro B hB
 refine sh fol [(0,.slice 0 b d e 1),(1,vl (qa .u64) a)] ?_
 refine sh fol ((0,.slice 0 b d e 1)::(1,vl (qa .u64) a)::(kAo (a.length:Int))) ?_
 refine sh fol ((0,.slice 0 b d e 1)::(1,vl (qa .u64) a)::(kAo (a.length:Int))) ?_
 refine sh fol ((0,.slice 0 b d e 1)::(1,vl (qa .u64) a)::(5,.i (a.length:Int))::(kA4 [])) ?_
 refine sq ?_
 obtain⟨x3,O,h⟩:=bnd h
 obtain⟨x4,w,h⟩:=bnd h
 refine sq (gr fol [2,3,7,8] ((0,.slice 0 b d e 1)::(1,vl (qa .u64) a)::(5,.i (a.length:Int))::(kA4 [(30,.bool (decide (x3>=x4)))])) (ac (hs (.done (.opt (qd ZT 93 (.slice 0 b d e 1) (.i (a.length:Int)))) (.ptr 0 ((((b+((a.length:Int):Int).toNat:Nat):Int):Int).toNat*1+0))) (qcq zA O)) (ac (hs (.run [0] (zR ZT 245 (.ptr 0 ((((b+((a.length:Int):Int).toNat:Nat):Int):Int).toNat*1+0))) [.cells (j.flatMap (qa .u64).c)] (.int .u64 x3) [.cells (j.flatMap (qa .u64).c)] false) (qbR zK (E:=(qa .u64)) (l:=j) rfl rfl (wI O) (nl rfl) rfl)) (ac (iv zA (qa .u64) w) (ac (lv 0 zK (qa .u64) w rfl) az)))) ?_)
 obtain⟨r8,g8,h⟩:=bnd h
 refine Goes.imp (Q:=fun x s'=>(x= .normal/\ ∃n5 n6 n7,(n5,n6,n7)=r8/\Sub s' (ofG 186 ((0,.slice 0 b d e 1)::(1,vl (qa .u64) a)::(kN (a.length:Int) n5 (kY n6 n7 []))),[.cells (j.flatMap (qa .u64).c)]))) ?_ ?_
 ·refine ihD g8 (fun c9 g8=>?_) (fun c9 g8=>?_)
  ·refine sh fol [(0,.slice 0 b d e 1),(1,vl (qa .u64) a),(5,.i (a.length:Int)),(6,.int .u64 18446744073709551615)] ?_
   obtain⟨d0,V,g8⟩:=bnd g8
   obtain⟨d1,b3,g8⟩:=bnd g8
   refine gr fol [3,4,8,9,10] ((0,.slice 0 b d e 1)::(1,vl (qa .u64) a)::(5,.i (a.length:Int))::(6,.int .u64 18446744073709551615)::(kY d1.1 d1.2 [])) (ac (hs (.done (.opt (qd ZT 93 (.slice 0 b d e 1) (.i (w64 ((a.length:Int)-1))))) (.ptr 0 ((((b+(w64 ((a.length:Int)-1):Int).toNat:Nat):Int):Int).toNat*1+0))) (qcq zA V)) (ac (hs (.run [0] (zR ZT 245 (.ptr 0 ((((b+(w64 ((a.length:Int)-1):Int).toNat:Nat):Int):Int).toNat*1+0))) [.cells (j.flatMap (qa .u64).c)] (.int .u64 d0) [.cells (j.flatMap (qa .u64).c)] false) (qbR zK (E:=(qa .u64)) (l:=j) rfl rfl (wI V) (nl rfl) rfl)) (ac (iv zA (qa .u64) w) (ac (lv 0 zK (qa .u64) w rfl) (ac (cv (qbB d0 x4 0 b3)) az))))) ?_
   obtain rfl:=si g8
   exact⟨rfl,_,_,_,rfl,(Sub.refl _)⟩
  obtain⟨d2,X,g8⟩:=bnd g8
  obtain⟨d3,b4,g8⟩:=bnd g8
  refine gr fol [2,3,7,8,12,13,14] ((0,.slice 0 b d e 1)::(1,vl (qa .u64) a)::(kN (a.length:Int) d3.1 (kAR d3.2 (kA4 [])))) (ac (hs (.done (.opt (qd ZT 93 (.slice 0 b d e 1) (.i (a.length:Int)))) (.ptr 0 ((((b+((a.length:Int):Int).toNat:Nat):Int):Int).toNat*1+0))) (qcq zA O)) (ac (hs (.run [0] (zR ZT 245 (.ptr 0 ((((b+((a.length:Int):Int).toNat:Nat):Int):Int).toNat*1+0))) [.cells (j.flatMap (qa .u64).c)] (.int .u64 x3) [.cells (j.flatMap (qa .u64).c)] false) (qbR zK (E:=(qa .u64)) (l:=j) rfl rfl (wI O) (nl rfl) rfl)) (ac (hs (.done (.opt (qd ZT 93 (.slice 0 b d e 1) (.i (w64 ((a.length:Int)-1))))) (.ptr 0 ((((b+(w64 ((a.length:Int)-1):Int).toNat:Nat):Int):Int).toNat*1+0))) (qcq zA X)) (ac (hs (.run [0] (zR ZT 245 (.ptr 0 ((((b+(w64 ((a.length:Int)-1):Int).toNat:Nat):Int):Int).toNat*1+0))) [.cells (j.flatMap (qa .u64).c)] (.int .u64 d2) [.cells (j.flatMap (qa .u64).c)] false) (qbR zK (E:=(qa .u64)) (l:=j) rfl rfl (wI X) (nl rfl) rfl)) (ac (iv zA (qa .u64) w) (ac (lv 0 zK (qa .u64) w rfl) (ac (cv (qef N x3 d2 x4 b4)) az))))))) ?_
  obtain rfl:=si g8
  exact⟨rfl,_,_,_,rfl,(Sub.refl _)⟩
 rintro x s' ⟨rfl,n5,n6,n7,rfl,hsub⟩
 try dsimp only at h
 refine Goes.sub hsub ?_
 refine sq (Goes.block ?_)
 obtain⟨d4,g19,h⟩:=bnd h
 refine Goes.imp (Q:=fun x s'=>(x= .exit 0/\ ∃f,f=d4/\Sub s' (ofG 186 ((0,.slice 0 b d e 1)::(1,vl (qa .u64) a)::(kN (a.length:Int) f [])),[.cells (j.flatMap (qa .u64).c)]))) ?_ ?_
 ·refine Uc (fun M s=> ∃(q:Int) (t:Int) (a6:Int),s=(ofG 186 ((0,.slice 0 b d e 1)::(1,vl (qa .u64) a)::(kN (a.length:Int) q (kY t a6 []))),[.cells (j.flatMap (qa .u64).c)])/\vN j b d a M q t a6=some d4) ?_ (m:=N) ⟨_,_,_,rfl,g19⟩
  rintro M s ⟨q,t,a6,rfl,g19⟩
  cases M with
  |zero=>simp only[vN]at g19;cases g19
  |succ M=>
   rw[vN]at g19
   refine sq ?_
   refine sh fol ((0,.slice 0 b d e 1)::(1,vl (qa .u64) a)::(kN (a.length:Int) q (kAR t [(64,.bool (decide (a6=0)))]))) ?_
   refine ihD g19 (fun c20 g19=>?_) (fun c20 g19=>?_)
   ·refine Goes.skip ?_
    refine Goes.block ?_
    obtain⟨x21,Y,g19⟩:=bnd g19
    obtain⟨b5,b6,g19⟩:=bnd g19
    refine sq (gr fol [4,5,6] ((0,.slice 0 b d e 1)::(1,vl (qa .u64) a)::(kN (a.length:Int) q (kAR t [(9,.int .u64 b5.1),(10,.int .u64 b5.2)]))) (ac (iv zA (qa .u64) Y) (ac (lv 0 zK (qa .u64) Y rfl) (ac (cv (qa0 q x21 b6)) az))) ?_)
    refine sq ?_
    refine sq ?_
    obtain⟨b26,k,g19⟩:=bnd g19
    refine Goes.cut (s':=(ofG 186 ((0,.slice 0 b d e 1)::(1,vl (qa .u64) a)::(kN (a.length:Int) q (kAR t [(91,.bool b26)]))),[.cells (j.flatMap (qa .u64).c)])) ?_ ?_
    ·rcases wyD k with⟨a7,k⟩|⟨a7,k⟩
     ·obtain rfl:=si k
      exact tr fol [3] ((0,.slice 0 b d e 1)::(1,vl (qa .u64) a)::(kN (a.length:Int) q (kAR t [(91,.bool true)]))) (ac (gw a7) az)
     rcases wyD k with⟨b7,k⟩|⟨b7,k⟩
     ·obtain⟨d5,Z,k⟩:=bnd k
      obtain rfl:=si k
      exact tr fol [3,7,12,13] ((0,.slice 0 b d e 1)::(1,vl (qa .u64) a)::(kN (a.length:Int) q (kAR t [(91,.bool (decide (b5.2<=d5)))]))) (ac (gw a7) (ac (gw b7) (ac (hs (.done (.opt (qd ZT 93 (.slice 0 b d e 1) (.i (w64 ((a.length:Int)-2))))) (.ptr 0 ((((b+(w64 ((a.length:Int)-2):Int).toNat:Nat):Int):Int).toNat*1+0))) (qcq zA Z)) (ac (hs (.run [0] (zR ZT 245 (.ptr 0 ((((b+(w64 ((a.length:Int)-2):Int).toNat:Nat):Int):Int).toNat*1+0))) [.cells (j.flatMap (qa .u64).c)] (.int .u64 d5) [.cells (j.flatMap (qa .u64).c)] false) (qbR zK (E:=(qa .u64)) (l:=j) rfl rfl (wI Z) (nl rfl) rfl)) az))))
     obtain rfl:=si k
     exact tr fol [3,7] ((0,.slice 0 b d e 1)::(1,vl (qa .u64) a)::(kN (a.length:Int) q (kAR t [(91,.bool false)]))) (ac (gw a7) (ac (gw b7) az))
    refine ihB g19 (fun c28 g19=>?_) (fun c28 g19=>?_)
    ·refine Goes.exit ?_
     obtain rfl:=si g19
     exact⟨rfl,_,rfl,(Sub.keep [0,1,5,6] rfl rfl)⟩
    refine Goes.skip ?_
    refine sh fol ((0,.slice 0 b d e 1)::(1,vl (qa .u64) a)::(kN (a.length:Int) (IntKind.wrap .u64 (q-1)) (kAR t []))) ?_
    obtain⟨x29,a0,g19⟩:=bnd g19
    obtain⟨a8,b8,g19⟩:=bnd g19
    refine gr fol [4,5,6] ((0,.slice 0 b d e 1)::(1,vl (qa .u64) a)::(kN (a.length:Int) (IntKind.wrap .u64 (q-1)) (kY a8.1 a8.2 []))) (ac (iv zA (qa .u64) a0) (ac (lv 0 zK (qa .u64) a0 rfl) (ac (cv (qbB t x29 0 b8)) az))) ?_
    exact⟨M,(ofG 186 ((0,.slice 0 b d e 1)::(1,vl (qa .u64) a)::(kN (a.length:Int) (IntKind.wrap .u64 (q-1)) (kY a8.1 a8.2 []))),[.cells (j.flatMap (qa .u64).c)]),Nat.lt_succ_self _,(Sub.refl _),_,_,_,rfl,g19⟩
   refine Goes.exit ?_
   obtain rfl:=si g19
   exact⟨rfl,_,rfl,(Sub.keep [0,1,5,6] rfl rfl)⟩
 rintro x s' ⟨rfl,f,rfl,hsub⟩
 refine Goes.sub hsub ?_
 refine sh fol ((0,.slice 0 b d e 1)::(1,vl (qa .u64) a)::(kN (a.length:Int) f [(11,.int .u64 0),(12,.int .u64 0)])) ?_
 refine sq ?_
 refine sh fol ((0,.slice 0 b d e 1)::(1,vl (qa .u64) a)::(kN (a.length:Int) f [(11,.int .u64 0),(12,.int .u64 0),(104,.i (a.length:Int)),(105,.i 0)])) ?_
 refine Goes.block ?_
 obtain⟨d6,n,h⟩:=bnd h
 refine Goes.imp (Q:=fun x s'=>(x= .exit 2/\ ∃F a9 b0,(F,a9,b0)=d6/\Sub s' (ofG 186 ((0,.slice 0 b d e 1)::(1,vl (qa .u64) a)::(kN (a.length:Int) f (kW a9 b0 []))),[.cells (F.flatMap (qa .u64).c)]))) ?_ ?_
 ·refine Uc (fun M s=> ∃(G:List Int) (g:Int) (u:Int) (H:Int),s=(ofG 186 ((0,.slice 0 b d e 1)::(1,vl (qa .u64) a)::(kN (a.length:Int) f (kW u H (kAe (a.length:Int) g)))),[.cells (G.flatMap (qa .u64).c)])/\jM b d a f M G g u H=some d6) ?_ (m:=N) ⟨_,_,_,_,rfl,n⟩
  rintro M s ⟨G,g,u,H,rfl,n⟩
  cases M with
  |zero=>simp only[jM]at n;cases n
  |succ M=>
   rw[jM]at n
   refine sh fol ((0,.slice 0 b d e 1)::(1,vl (qa .u64) a)::(kN (a.length:Int) f (kW u H [(104,.i (a.length:Int)),(105,.i g),(106,.bool (decide (g<(a.length:Int))))]))) ?_
   refine sq ?_
   refine ihD n (fun c39 n=>?_) (fun c39 n=>?_)
   ·refine Goes.skip ?_
    refine sq (Goes.block ?_)
    refine sh fol ((0,.slice 0 b d e 1)::(1,vl (qa .u64) a)::(kN (a.length:Int) f (kW u H ((13,.i g)::(kAe (a.length:Int) g))))) ?_
    obtain⟨x40,a1,n⟩:=bnd n
    obtain⟨r,b9,n⟩:=bnd n
    refine sq (gr fol [3,4,5] ((0,.slice 0 b d e 1)::(1,vl (qa .u64) a)::(kN (a.length:Int) f (kW u H ((13,.i g)::(kAn r.1 r.2 (kAe (a.length:Int) g)))))) (ac (iv zA (qa .u64) a1) (ac (lv 0 zK (qa .u64) a1 rfl) (ac (cv (qa0 f x40 b9)) az))) ?_)
    refine sh fol ((0,.slice 0 b d e 1)::(1,vl (qa .u64) a)::(kN (a.length:Int) f (kW u H ((13,.i g)::(kAn r.1 r.2 (kAe (a.length:Int) g)))))) ?_
    obtain⟨v,c0,n⟩:=bnd n
    refine sq (gr fol [2] ((0,.slice 0 b d e 1)::(1,vl (qa .u64) a)::(kN (a.length:Int) f ((11,.int .u64 u)::(13,.i g)::(kL r.1 v.1 v.2 (kAe (a.length:Int) g))))) (ac (cv (qbB r.2 H 0 c0)) az) ?_)
    refine sh fol ((0,.slice 0 b d e 1)::(1,vl (qa .u64) a)::(kN (a.length:Int) f (kW u (IntKind.wrap .u64 (r.1+v.2)) ((13,.i g)::(15,.int .u64 v.1)::(kAe (a.length:Int) g))))) ?_
    obtain⟨d7,z,n⟩:=bnd n
    obtain⟨K,c1,n⟩:=bnd n
    obtain⟨a2,c2,n⟩:=bnd n
    refine gq fol [4,5,8,12,13] ((0,.slice 0 b d e 1)::(1,vl (qa .u64) a)::(kN (a.length:Int) f (kW K.2 (IntKind.wrap .u64 (r.1+v.2)) (kAe (a.length:Int) g)))) [.cells (a2.flatMap (qa .u64).c)] (ac (hs (.done (.opt (qd ZT 93 (.slice 0 b d e 1) (.i g))) (.ptr 0 ((((b+(g:Int).toNat:Nat):Int):Int).toNat*1+0))) (qcq zA z)) (ac (hs (.run [0] (zR ZT 245 (.ptr 0 ((((b+(g:Int).toNat:Nat):Int):Int).toNat*1+0))) [.cells (G.flatMap (qa .u64).c)] (.int .u64 d7) [.cells (G.flatMap (qa .u64).c)] false) (qbR zK (E:=(qa .u64)) (l:=G) rfl rfl (wI z) (nl rfl) rfl)) (ac (cv (qgp d7 v.1 u c1)) (ac (hs (.done (.opt (qd ZT 93 (.slice 0 b d e 1) (.i g))) (.ptr 0 ((((b+(g:Int).toNat:Nat):Int):Int).toNat*1+0))) (qcq zA z)) (ac (hs (.run [0] (qp ZT 245 (.ptr 0 ((((b+(g:Int).toNat:Nat):Int):Int).toNat*1+0)) (.int .u64 K.1)) [.cells (G.flatMap (qa .u64).c)] .undef [.cells (a2.flatMap (qa .u64).c)] true) (xI (E:=(qa .u64)) (l:=G) (y:=K.1) rfl (show _=some 1 by kernel_rfl) rfl (wI z) rfl rfl rfl rfl rfl c2 rfl)) az))))) ?_
    refine Goes.sub (show Sub (ofG 186 ((0,.slice 0 b d e 1)::(1,vl (qa .u64) a)::(kN (a.length:Int) f (kW K.2 (IntKind.wrap .u64 (r.1+v.2)) (kAe (a.length:Int) g)))),[.cells (a2.flatMap (qa .u64).c)]) (ofG 186 ((0,.slice 0 b d e 1)::(1,vl (qa .u64) a)::(kN (a.length:Int) f (kW K.2 (IntKind.wrap .u64 (r.1+v.2)) (kAe (a.length:Int) g)))),[.cells (a2.flatMap (qa .u64).c)])from(Sub.norm [] [some 0] (by rw[hB];rfl) rfl (.keep (.slice rfl) (.keep (.same (qg (qa .u64) _)) (.keep (.same nI) (.keep (.same nI) (.keep (.same nI) (.keep (.same nI) (.keep (.same nI) (.keep (.same nI) .nil)))))))) (.ks .nil))) ?_
    refine gh fol ((0,.slice 0 b d e 1)::(1,vl (qa .u64) a)::(kN (a.length:Int) f (kW K.2 (IntKind.wrap .u64 (r.1+v.2)) (kAe (a.length:Int) (w64 (g+1)))))) ?_
    exact⟨M,(ofG 186 ((0,.slice 0 b d e 1)::(1,vl (qa .u64) a)::(kN (a.length:Int) f (kW K.2 (IntKind.wrap .u64 (r.1+v.2)) (kAe (a.length:Int) (w64 (g+1)))))),[.cells (a2.flatMap (qa .u64).c)]),Nat.lt_succ_self _,(Sub.refl _),_,_,_,_,rfl,n⟩
   refine Goes.exit ?_
   obtain rfl:=si n
   exact⟨rfl,_,_,_,rfl,(Sub.keep [0,1,5,6,11,12] rfl rfl)⟩
 rintro x s' ⟨rfl,F,a9,b0,rfl,hsub⟩
 try dsimp only at h
 refine Goes.sub hsub ?_
 obtain⟨d8,A,h⟩:=bnd h
 obtain⟨P,c3,h⟩:=bnd h
 obtain⟨b1,c4,h⟩:=bnd h
 refine sq (gq fol [4,5,8,12,13] ((0,.slice 0 b d e 1)::(1,vl (qa .u64) a)::(kN (a.length:Int) f [(11,.int .u64 P.2)])) [.cells (b1.flatMap (qa .u64).c)] (ac (hs (.done (.opt (qd ZT 93 (.slice 0 b d e 1) (.i (a.length:Int)))) (.ptr 0 ((((b+((a.length:Int):Int).toNat:Nat):Int):Int).toNat*1+0))) (qcq zA A)) (ac (hs (.run [0] (zR ZT 245 (.ptr 0 ((((b+((a.length:Int):Int).toNat:Nat):Int):Int).toNat*1+0))) [.cells (F.flatMap (qa .u64).c)] (.int .u64 d8) [.cells (F.flatMap (qa .u64).c)] false) (qbR zK (E:=(qa .u64)) (l:=F) rfl rfl (wI A) (nl rfl) rfl)) (ac (cv (qgp d8 b0 a9 c3)) (ac (hs (.done (.opt (qd ZT 93 (.slice 0 b d e 1) (.i (a.length:Int)))) (.ptr 0 ((((b+((a.length:Int):Int).toNat:Nat):Int):Int).toNat*1+0))) (qcq zA A)) (ac (hs (.run [0] (qp ZT 245 (.ptr 0 ((((b+((a.length:Int):Int).toNat:Nat):Int):Int).toNat*1+0)) (.int .u64 P.1)) [.cells (F.flatMap (qa .u64).c)] .undef [.cells (b1.flatMap (qa .u64).c)] true) (xI (E:=(qa .u64)) (l:=F) (y:=P.1) rfl (show _=some 1 by kernel_rfl) rfl (wI A) rfl rfl rfl rfl rfl c4 rfl)) az))))) ?_)
 refine Goes.sub (show Sub (ofG 186 ((0,.slice 0 b d e 1)::(1,vl (qa .u64) a)::(kN (a.length:Int) f [(11,.int .u64 P.2)])),[.cells (b1.flatMap (qa .u64).c)]) (ofG 186 ((0,.slice 0 b d e 1)::(1,vl (qa .u64) a)::(kN (a.length:Int) f [(11,.int .u64 P.2)])),[.cells (b1.flatMap (qa .u64).c)])from(Sub.norm [] [some 0] (by rw[hB];rfl) rfl (.keep (.slice rfl) (.keep (.same (qg (qa .u64) _)) (.keep (.same nI) (.keep (.same nI) (.keep (.same nI) .nil))))) (.ks .nil))) ?_
 refine sq ?_
 refine sh fol ((0,.slice 0 b d e 1)::(1,vl (qa .u64) a)::(kN (a.length:Int) f [(154,.bool (decide (P.2=0)))])) ?_
 refine ihD h (fun c51 h=>?_) (fun c51 h=>?_)
 ·refine sh fol [(4,.int .u64 f)] ?_
  refine Goes.ret ?_
  simp only[ZI,ZP]at h
  obtain⟨rfl,rfl⟩:=h
  exact(gh2 [.int .u64 f] (qeT.refl _ _))
 refine Goes.skip ?_
 refine sh fol ((0,.slice 0 b d e 1)::(1,vl (qa .u64) a)::(kN (a.length:Int) f [(17,.int .u64 0)])) ?_
 refine sq ?_
 refine sh fol ((0,.slice 0 b d e 1)::(1,vl (qa .u64) a)::(kN (a.length:Int) f [(17,.int .u64 0),(156,.i (a.length:Int)),(157,.i 0)])) ?_
 refine Goes.block ?_
 obtain⟨d9,o,h⟩:=bnd h
 refine Goes.imp (Q:=fun x s'=>(x= .exit 4/\ ∃I a3,(I,a3)=d9/\Sub s' (ofG 186 ((0,.slice 0 b d e 1)::(kN (a.length:Int) f [(17,.int .u64 a3)])),[.cells (I.flatMap (qa .u64).c)]))) ?_ ?_
 ·refine Uc (fun M s=> ∃(J:List Int) (p:Int) (U:Int),s=(ofG 186 ((0,.slice 0 b d e 1)::(1,vl (qa .u64) a)::(kN (a.length:Int) f (kAj U (a.length:Int) p []))),[.cells (J.flatMap (qa .u64).c)])/\jO b d a M J p U=some d9) ?_ (m:=N) ⟨_,_,_,rfl,o⟩
  rintro M s ⟨J,p,U,rfl,o⟩
  cases M with
  |zero=>simp only[jO]at o;cases o
  |succ M=>
   rw[jO]at o
   refine sh fol ((0,.slice 0 b d e 1)::(1,vl (qa .u64) a)::(kN (a.length:Int) f (kAj U (a.length:Int) p [(158,.bool (decide (p<(a.length:Int))))]))) ?_
   refine sq ?_
   refine ihD o (fun c58 o=>?_) (fun c58 o=>?_)
   ·refine Goes.skip ?_
    refine sq (Goes.block ?_)
    refine sh fol ((0,.slice 0 b d e 1)::(1,vl (qa .u64) a)::(kN (a.length:Int) f [(17,.int .u64 U),(18,.i p),(156,.i (a.length:Int)),(157,.i p)])) ?_
    obtain⟨e0,C,o⟩:=bnd o
    obtain⟨x60,a4,o⟩:=bnd o
    obtain⟨L,c5,o⟩:=bnd o
    obtain⟨a5,c6,o⟩:=bnd o
    refine gq fol [4,5,8,9,11,15,16] ((0,.slice 0 b d e 1)::(1,vl (qa .u64) a)::(kN (a.length:Int) f (kAj L.2 (a.length:Int) p []))) [.cells (a5.flatMap (qa .u64).c)] (ac (hs (.done (.opt (qd ZT 93 (.slice 0 b d e 1) (.i p))) (.ptr 0 ((((b+(p:Int).toNat:Nat):Int):Int).toNat*1+0))) (qcq zA C)) (ac (hs (.run [0] (zR ZT 245 (.ptr 0 ((((b+(p:Int).toNat:Nat):Int):Int).toNat*1+0))) [.cells (J.flatMap (qa .u64).c)] (.int .u64 e0) [.cells (J.flatMap (qa .u64).c)] false) (qbR zK (E:=(qa .u64)) (l:=J) rfl rfl (wI C) (nl rfl) rfl)) (ac (iv zA (qa .u64) a4) (ac (lv 0 zK (qa .u64) a4 rfl) (ac (cv (qbB e0 x60 U c5)) (ac (hs (.done (.opt (qd ZT 93 (.slice 0 b d e 1) (.i p))) (.ptr 0 ((((b+(p:Int).toNat:Nat):Int):Int).toNat*1+0))) (qcq zA C)) (ac (hs (.run [0] (qp ZT 245 (.ptr 0 ((((b+(p:Int).toNat:Nat):Int):Int).toNat*1+0)) (.int .u64 L.1)) [.cells (J.flatMap (qa .u64).c)] .undef [.cells (a5.flatMap (qa .u64).c)] true) (xI (E:=(qa .u64)) (l:=J) (y:=L.1) rfl (show _=some 1 by kernel_rfl) rfl (wI C) rfl rfl rfl rfl rfl c6 rfl)) az))))))) ?_
    refine Goes.sub (show Sub (ofG 186 ((0,.slice 0 b d e 1)::(1,vl (qa .u64) a)::(kN (a.length:Int) f (kAj L.2 (a.length:Int) p []))),[.cells (a5.flatMap (qa .u64).c)]) (ofG 186 ((0,.slice 0 b d e 1)::(1,vl (qa .u64) a)::(kN (a.length:Int) f (kAj L.2 (a.length:Int) p []))),[.cells (a5.flatMap (qa .u64).c)])from(Sub.norm [] [some 0] (by rw[hB];rfl) rfl (.keep (.slice rfl) (.keep (.same (qg (qa .u64) _)) (.keep (.same nI) (.keep (.same nI) (.keep (.same nI) (.keep (.same nI) (.keep (.same nI) .nil))))))) (.ks .nil))) ?_
    refine gh fol ((0,.slice 0 b d e 1)::(1,vl (qa .u64) a)::(kN (a.length:Int) f (kAj L.2 (a.length:Int) (w64 (p+1)) []))) ?_
    exact⟨M,(ofG 186 ((0,.slice 0 b d e 1)::(1,vl (qa .u64) a)::(kN (a.length:Int) f (kAj L.2 (a.length:Int) (w64 (p+1)) []))),[.cells (a5.flatMap (qa .u64).c)]),Nat.lt_succ_self _,(Sub.refl _),_,_,_,rfl,o⟩
   refine Goes.exit ?_
   obtain rfl:=si o
   exact⟨rfl,_,_,rfl,(Sub.keep [0,5,6,17] rfl rfl)⟩
 rintro x s' ⟨rfl,I,a3,rfl,hsub⟩
 try dsimp only at h
 refine Goes.sub hsub ?_
 obtain⟨c7,D,h⟩:=bnd h
 obtain⟨b2,c8,h⟩:=bnd h
 refine sq (gq fol [2,3,6,7] (kAF f []) [.cells (b2.flatMap (qa .u64).c)] (ac (hs (.done (.opt (qd ZT 93 (.slice 0 b d e 1) (.i (a.length:Int)))) (.ptr 0 ((((b+((a.length:Int):Int).toNat:Nat):Int):Int).toNat*1+0))) (qcq zA D)) (ac (hs (.run [0] (zR ZT 245 (.ptr 0 ((((b+((a.length:Int):Int).toNat:Nat):Int):Int).toNat*1+0))) [.cells (I.flatMap (qa .u64).c)] (.int .u64 c7) [.cells (I.flatMap (qa .u64).c)] false) (qbR zK (E:=(qa .u64)) (l:=I) rfl rfl (wI D) (nl rfl) rfl)) (ac (hs (.done (.opt (qd ZT 93 (.slice 0 b d e 1) (.i (a.length:Int)))) (.ptr 0 ((((b+((a.length:Int):Int).toNat:Nat):Int):Int).toNat*1+0))) (qcq zA D)) (ac (hs (.run [0] (qp ZT 245 (.ptr 0 ((((b+((a.length:Int):Int).toNat:Nat):Int):Int).toNat*1+0)) (.int .u64 (IntKind.wrap .u64 (c7+a3)))) [.cells (I.flatMap (qa .u64).c)] .undef [.cells (b2.flatMap (qa .u64).c)] true) (xI (E:=(qa .u64)) (l:=I) (y:=IntKind.wrap .u64 (c7+a3)) rfl (show _=some 1 by kernel_rfl) rfl (wI D) rfl rfl rfl rfl rfl c8 rfl)) az)))) ?_)
 refine Goes.sub (show Sub (ofG 186 (kAF f []),[.cells (b2.flatMap (qa .u64).c)]) (ofG 186 (kAF f []),[.cells (b2.flatMap (qa .u64).c)])from(Sub.norm [] [some 0] (by rw[hB];rfl) rfl (.keep (.same nI) .nil) (.ks .nil))) ?_
 refine sh fol [(4,.int .u64 (IntKind.wrap .u64 (f-1)))] ?_
 refine Goes.ret ?_
 simp only[ZI,ZP]at h
 obtain⟨rfl,rfl⟩:=h
 exact(gh2 [.int .u64 (IntKind.wrap .u64 (f-1))] (qeT.refl _ _))
def vo (N:Nat) (a:List Int) (b:List Int):Nat->(List Int)->Int->Int->Option ((List Int)×Int)
 |0,_,_,_=>none
 |K+1,e,i,c=>
  if c>=0 then
  (idx a c).bind fun f=>
  (idx b 0).bind fun g=>
  (qai N i f g).bind fun d=>
  (idx e c).bind fun j=>
  (put e c d.1).bind fun h=>
  vo N a b K h d.2 (w64 (c-1))
  else
  some (e,i)
def vw (N:Nat) (c:List Int):Nat->(List Int)->(List Int)->Int->Option ((List Int)×(List Int))
 |0,_,_,_=>none
 |K+1,b,d,a=>
  if a>=0 then
  (win b a (w64 ((w64 (a+(c.length:Int)))+1))).bind fun(e,g)=>
  (qa2 N b e g (b.length-e) c).bind fun(f,h)=>
  ((if b.length=f.length then some ()else none:Option Unit)).bind fun j=>
  (idx d a).bind fun k=>
  (put d a h).bind fun i=>
  vw N c K f i (w64 (a-1))
  else
  some (b,d)
def jB (c:Int) (e:List Int):Nat->(List Int)->Int->Option (List Int)
 |0,_,_=>none
 |K+1,d,a=>
  if a<(e.length:Int)then
  (((idx d a).bind fun f=>
  (qjL .u64 f c).bind fun g=>
  (put d a g).bind fun b=>
  (if c>0 then
  some (decide ((w64 (a+1))<(b.length:Int)))
  else
  some false:Option Bool).bind fun h=>
  if h=true then
  (idx b a).bind fun i=>
  (idx b (w64 (a+1))).bind fun j=>
  (qgV .u64 j (w64 (64-c))).bind fun k=>
  (put b a (orI .u64 i k)).bind fun l=>
  some l
  else
  some b:Option (List Int))).bind fun m=>
  jB c e K m (w64 (a+1))
  else
  some d
def qam (N:Nat) (a:List Int) (b:List Int):Option ((List Int)×(List Int)):=
 (jo N a b).bind fun q=>
 if q<0 then
 some ([],a)
 else
 if(b.length:Int)=1 then
 (mk 8 (a.length:Int) 0).bind fun r=>
 (vo N a b N r 0 (w64 ((a.length:Int)-1))).bind fun(s,t)=>
 (yF N s).bind fun e=>
 (yF N ([t]:List Int)).bind fun f=>
 some (e,f)
 else
 (idx b (w64 ((b.length:Int)-1))).bind fun g=>
 (bits_LeadingZeros64 g).bind fun d=>
 (yI N b d).bind fun h=>
 (yF N h).bind fun c=>
 (yI N a d).bind fun i=>
 (mk 8 (w64 ((w64 ((a.length:Int)-(c.length:Int)))+1)) 0).bind fun j=>
 (vw N c N i j (w64 ((a.length:Int)-(c.length:Int)))).bind fun(k,l)=>
 (jB d c N k 0).bind fun m=>
 (yF N l).bind fun n=>
 (cut m 0 (c.length:Int)).bind fun o=>
 (yF N o).bind fun p=>
 some (n,p)
theorem qd5 (N:Nat) (a:List Int) (b:List Int) {res:(List Int)×(List Int)} (h:qam N a b=some res):qb ZT (.fn 242) [vl (qa .u64) a,vl (qa .u64) b] [] (.tuple [vl (qa .u64) res.1,vl (qa .u64) res.2]) []:=by
 unfold qam at h
 refine Ub Tryz.func242 rfl rfl (m:=137) rfl (rs:=[.tmp 4,.tmp 5]) rfl (l:=[(0,vl (qa .u64) a),(1,vl (qa .u64) b)]) rfl ?_
 refine sh fol [(0,vl (qa .u64) a),(1,vl (qa .u64) b)] ?_
 refine sq ?_
 obtain⟨r1,e_r1,h⟩:=bnd h
 refine sq (gr fol [2] [(0,vl (qa .u64) a),(1,vl (qa .u64) b),(19,.bool (decide (r1<0)))] (ac (cv (qbk N a b e_r1)) az) ?_)
 refine ihD h (fun c2 h=>?_) (fun c2 h=>?_)
 ·refine sh fol [(4,.nilslice),(5,vl (qa .u64) a)] ?_
  refine Goes.ret ?_
  obtain rfl:=si h
  exact(gw2 [.nilslice,vl (qa .u64) a] (FzW.tuple (qc.cons (FzW.nilv (E:=(qa .u64))) (qc.cons (Ua (qx (qa .u64) _ (nl rfl))) qc.nil))))
 refine Goes.skip ?_
 refine sq ?_
 refine sh fol [(0,vl (qa .u64) a),(1,vl (qa .u64) b),(23,.bool (decide ((b.length:Int)=1)))] ?_
 refine ihD h (fun c3 h=>?_) (fun c3 h=>?_)
 ·obtain⟨l4,e_l4,h⟩:=bnd h
  refine sq (gq fol [2] ((0,vl (qa .u64) a)::(1,vl (qa .u64) b)::(kO l4 [])) [.cells (l4.flatMap (qa .u64).c)] (ac (hs (.run [] (zU ZT 93 (.i (a.length:Int)) (.i (a.length:Int))) [] (.slice 0 0 l4.length l4.length 1) [.cells (l4.flatMap (qa .u64).c)] false) (qcv zA (E:=(qa .u64)) (z:=0) rfl (by kernel_rfl) e_l4 rfl)) az) ?_)
  refine sh fol ((0,vl (qa .u64) a)::(1,vl (qa .u64) b)::(kO l4 [(7,.int .u64 0)])) ?_
  refine sq ?_
  refine sh fol ((0,vl (qa .u64) a)::(1,vl (qa .u64) b)::(kO l4 [(7,.int .u64 0),(8,.i (w64 ((a.length:Int)-1)))])) ?_
  refine Goes.block ?_
  obtain⟨r10,g10,h⟩:=bnd h
  refine Goes.imp (Q:=fun x s'=>(x= .exit 0/\ ∃O n9,(O,n9)=r10/\Sub s' (ofG 137 (kO O (kAR n9 [])),[.cells (O.flatMap (qa .u64).c)]))) ?_ ?_
  ·refine Uc (fun M s=> ∃(P:List Int) (n6:Int) (I:Int),s=(ofG 137 ((0,vl (qa .u64) a)::(1,vl (qa .u64) b)::(kO P (kAR n6 [(8,.i I)]))),[.cells (P.flatMap (qa .u64).c)])/\vo N a b M P n6 I=some r10) ?_ (m:=N) ⟨_,_,_,rfl,g10⟩
   rintro M s ⟨P,n6,I,rfl,g10⟩
   cases M with
   |zero=>simp only[vo]at g10;cases g10
   |succ M=>
    rw[vo]at g10
    refine sq ?_
    refine sh fol ((0,vl (qa .u64) a)::(1,vl (qa .u64) b)::(kO P (kAR n6 [(8,.i I),(31,.bool (decide (I>=0)))]))) ?_
    refine ihD g10 (fun c11 g10=>?_) (fun c11 g10=>?_)
    ·refine Goes.skip ?_
     refine sq (Goes.block ?_)
     obtain⟨x12,U,g10⟩:=bnd g10
     obtain⟨x13,V,g10⟩:=bnd g10
     obtain⟨G,e_r14,g10⟩:=bnd g10
     obtain⟨x15,X,g10⟩:=bnd g10
     obtain⟨D,Y,g10⟩:=bnd g10
     refine gq fol [5,6,8,9,10,14,15] ((0,vl (qa .u64) a)::(1,vl (qa .u64) b)::(kO P (kAR G.2 [(8,.i I)]))) [.cells (D.flatMap (qa .u64).c)] (ac (iv zA (qa .u64) U) (ac (lv 0 zK (qa .u64) U rfl) (ac (iv zA (qa .u64) V) (ac (lv 0 zK (qa .u64) V rfl) (ac (cv (qef N n6 x12 x13 e_r14)) (ac (hs (.done (.opt (qd ZT 93 (.slice 0 0 P.length P.length 1) (.i I))) (.ptr 0 ((I:Int).toNat*1+0))) (xS zA X)) (ac (hs (.run [0] (qp ZT 245 (.ptr 0 ((I:Int).toNat*1+0)) (.int .u64 G.1)) [.cells (P.flatMap (qa .u64).c)] .undef [.cells (D.flatMap (qa .u64).c)] true) (xI (E:=(qa .u64)) (l:=P) (y:=G.1) rfl (show _=some 1 by kernel_rfl) rfl X rfl rfl rfl rfl rfl Y rfl)) az))))))) ?_
     refine Goes.sub (show Sub (ofG 137 ((0,vl (qa .u64) a)::(1,vl (qa .u64) b)::(kO P (kAR G.2 [(8,.i I)]))),[.cells (D.flatMap (qa .u64).c)]) (ofG 137 ((0,vl (qa .u64) a)::(1,vl (qa .u64) b)::(kO D (kAR G.2 [(8,.i I)]))),[.cells (D.flatMap (qa .u64).c)])from(Sub.norm [] [some 0] rfl rfl (.keep (.same (qg (qa .u64) _)) (.keep (.same (qg (qa .u64) _)) (.keep (.sliceE rfl (j6 Y)) (.keep (.same nI) (.keep (.same nI) .nil))))) (.ks .nil))) ?_
     refine gh fol ((0,vl (qa .u64) a)::(1,vl (qa .u64) b)::(kO D (kAR G.2 [(8,.i (w64 (I-1)))]))) ?_
     exact⟨M,(ofG 137 ((0,vl (qa .u64) a)::(1,vl (qa .u64) b)::(kO D (kAR G.2 [(8,.i (w64 (I-1)))]))),[.cells (D.flatMap (qa .u64).c)]),Nat.lt_succ_self _,(Sub.refl _),_,_,_,rfl,g10⟩
    refine Goes.exit ?_
    obtain rfl:=si g10
    exact⟨rfl,_,_,rfl,(Sub.keep [6,7] rfl rfl)⟩
  rintro x s' ⟨rfl,O,n9,rfl,hsub⟩
  try dsimp only at h
  refine Goes.sub hsub ?_
  obtain⟨Z,e_r17,h⟩:=bnd h
  obtain⟨a0,e_r18,h⟩:=bnd h
  refine sq (gq fol [1,4] [(4,vl (qa .u64) Z),(5,vl (qa .u64) a0)] [.frozen (O.flatMap (qa .u64).c),.frozen [.int .u64 n9]] (ac (hs (.callF 225 [.slice 0 0 O.length O.length 1] [.cells (O.flatMap (qa .u64).c)] [0] [vl (qa .u64) O] (vl (qa .u64) Z)) (qaA (FzL.cons (Fz.sl (E:=(qa .u64)) rfl rfl (nl rfl)) FzL.nil) (yJ N O e_r17) (qx (qa .u64) _ (nl rfl)))) (ac (hs (.callF 225 [.slice 1 0 1 1 1] [.frozen (O.flatMap (qa .u64).c),.cells [.int .u64 n9]] [1] [vl (qa .u64) ([n9]:List Int)] (vl (qa .u64) a0)) (qaA (FzL.cons (Fz.lit rfl rfl (Ue (AllST.cons tI AllST.nil))) FzL.nil) (yJ N ([n9]:List Int) e_r18) (qx (qa .u64) _ (nl rfl)))) az)) ?_)
  refine Goes.sub (show Sub (ofG 137 [(4,vl (qa .u64) Z),(5,vl (qa .u64) a0)],[.frozen (O.flatMap (qa .u64).c),.frozen [.int .u64 n9]]) (ofG 137 [(4,vl (qa .u64) Z),(5,vl (qa .u64) a0)],[])from(Sub.norm [] [] rfl rfl (.keep (.same (qg (qa .u64) _)) (.keep (.same (qg (qa .u64) _)) .nil)) .nil)) ?_
  refine Goes.ret ?_
  obtain rfl:=si h
  exact(gw2 [vl (qa .u64) Z,vl (qa .u64) a0] (FzW.tuple (qc.cons (Ua (qx (qa .u64) _ (nl rfl))) (qc.cons (Ua (qx (qa .u64) _ (nl rfl))) qc.nil))))
 refine Goes.skip ?_
 obtain⟨x19,a1,h⟩:=bnd h
 obtain⟨g,e_r20,h⟩:=bnd h
 refine sq (gr fol [4,5,6] [(0,vl (qa .u64) a),(1,vl (qa .u64) b),(9,.i g)] (ac (iv zA (qa .u64) a1) (ac (lv 0 zK (qa .u64) a1 rfl) (ac (cv (qaH x19 e_r20)) az))) ?_)
 obtain⟨w,e_r21,h⟩:=bnd h
 obtain⟨d,e_r23,h⟩:=bnd h
 refine sq (gq fol [2,3] [(0,vl (qa .u64) a),(9,.i g),(10,vl (qa .u64) d)] [.frozen (w.flatMap (qa .u64).c)] (ac (hs (.callH 287 [vl (qa .u64) b,.i g] [] [] (.slice 0 0 w.length w.length 1) [.cells (w.flatMap (qa .u64).c)]) (qfg [] [some 0] (qb3 N b g e_r21) .nil rfl rfl (.new rfl rfl (.same fa) rfl .nil) (rc (.same (qg (qa .u64) _)) (rc (.same nI) rn)) (.slice rfl) rfl)) (ac (hs (.callF 225 [.slice 0 0 w.length w.length 1] [.cells (w.flatMap (qa .u64).c)] [0] [vl (qa .u64) w] (vl (qa .u64) d)) (qaA (FzL.cons (Fz.sl (E:=(qa .u64)) rfl rfl (nl rfl)) FzL.nil) (yJ N w e_r23) (qx (qa .u64) _ (nl rfl)))) az)) ?_)
 refine Goes.sub (show Sub (ofG 137 [(0,vl (qa .u64) a),(9,.i g),(10,vl (qa .u64) d)],[.frozen (w.flatMap (qa .u64).c)]) (ofG 137 [(0,vl (qa .u64) a),(9,.i g),(10,vl (qa .u64) d)],[])from(Sub.norm [] [] rfl rfl (.keep (.same (qg (qa .u64) _)) (.keep (.same nI) (.keep (.same (qg (qa .u64) _)) .nil))) .nil)) ?_
 obtain⟨r,e_r24,h⟩:=bnd h
 refine sq (gq fol [2] [(0,vl (qa .u64) a),(9,.i g),(10,vl (qa .u64) d),(11,.slice 0 0 r.length r.length 1)] [.cells (r.flatMap (qa .u64).c)] (ac (hs (.callH 287 [vl (qa .u64) a,.i g] [] [] (.slice 0 0 r.length r.length 1) [.cells (r.flatMap (qa .u64).c)]) (qfg [] [some 0] (qb3 N a g e_r24) .nil rfl rfl (.new rfl rfl (.same fa) rfl .nil) (rc (.same (qg (qa .u64) _)) (rc (.same nI) rn)) (.slice rfl) rfl)) az) ?_)
 refine sh fol [(0,vl (qa .u64) a),(9,.i g),(10,vl (qa .u64) d),(11,.slice 0 0 r.length r.length 1),(12,.i (d.length:Int))] ?_
 obtain⟨J,e_l26,h⟩:=bnd h
 refine sq (gq fol [5] ((0,vl (qa .u64) a)::(9,.i g)::(10,vl (qa .u64) d)::(kD r (d.length:Int) J [])) [.cells (r.flatMap (qa .u64).c),.cells (J.flatMap (qa .u64).c)] (ac (hs (.run [] (zU ZT 93 (.i (w64 ((w64 ((a.length:Int)-(d.length:Int)))+1))) (.i (w64 ((w64 ((a.length:Int)-(d.length:Int)))+1)))) [.cells (r.flatMap (qa .u64).c)] (.slice 1 0 J.length J.length 1) [.cells (r.flatMap (qa .u64).c),.cells (J.flatMap (qa .u64).c)] false) (qcv zA (E:=(qa .u64)) (z:=0) rfl (by kernel_rfl) e_l26 rfl)) az) ?_)
 refine sq ?_
 refine sh fol ((9,.i g)::(10,vl (qa .u64) d)::(kD r (d.length:Int) J [(14,.i (w64 ((a.length:Int)-(d.length:Int))))])) ?_
 refine Goes.block ?_
 obtain⟨r32,k,h⟩:=bnd h
 refine Goes.imp (Q:=fun x s'=>(x= .exit 2/\ ∃a2 e,(a2,e)=r32/\Sub s' (ofG 137 ((9,.i g)::(kD a2 (d.length:Int) e [])),[.cells (a2.flatMap (qa .u64).c),.cells (e.flatMap (qa .u64).c)]))) ?_ ?_
 ·refine Uc (fun M s=> ∃(q:List Int) (t:List Int) (p:Int),s=(ofG 137 ((9,.i g)::(10,vl (qa .u64) d)::(kD q (d.length:Int) t [(14,.i p)])),[.cells (q.flatMap (qa .u64).c),.cells (t.flatMap (qa .u64).c)])/\vw N d M q t p=some r32) ?_ (m:=N) ⟨_,_,_,rfl,k⟩
  rintro M s ⟨q,t,p,rfl,k⟩
  cases M with
  |zero=>simp only[vw]at k;cases k
  |succ M=>
   rw[vw]at k
   refine sq ?_
   refine sh fol ((9,.i g)::(10,vl (qa .u64) d)::(kD q (d.length:Int) t [(14,.i p),(81,.bool (decide (p>=0)))])) ?_
   refine ihD k (fun c33 k=>?_) (fun c33 k=>?_)
   ·refine Goes.skip ?_
    refine sq (Goes.block ?_)
    obtain⟨⟨K,n36⟩,e_w34,k⟩:=bnd k
    try dsimp only at k
    obtain⟨⟨A,n39⟩,e_r37,k⟩:=bnd k
    try dsimp only at k
    obtain⟨u40,e_u40,k⟩:=bnd k
    obtain⟨x41,a3,k⟩:=bnd k
    obtain⟨F,a4,k⟩:=bnd k
    refine gq fol [8,10,11,12] ((9,.i g)::(10,vl (qa .u64) d)::(kD q (d.length:Int) t [(14,.i p)])) [.cells (A.flatMap (qa .u64).c),.cells (F.flatMap (qa .u64).c)] (ac (hs (.done (.opt (qW ZT 93 (.slice 0 0 q.length q.length 1) (some (.i p)) (some (.i (w64 ((w64 (p+(d.length:Int)))+1)))) none)) (.slice 0 K n36 (q.length-K) 1)) (wn_ix zA e_w34)) (ac (hs (.callH 288 [.slice 0 K n36 (q.length-K) 1,vl (qa .u64) d] [.cells (q.flatMap (qa .u64).c),.cells (t.flatMap (qa .u64).c)] [0] (.int .u64 n39) [.cells (A.flatMap (qa .u64).c),.cells (t.flatMap (qa .u64).c)]) (qfg [some 0] [some 0,none] (qgk N q K n36 (q.length-K) d e_r37) (.ks .nil) rfl rfl (.back rfl rfl (.same fa) rfl (.old rfl rfl .nil)) (rc (.slice rfl) (rc (.same (qg (qa .u64) _)) rn)) (.same nI) rfl)) (ac (hs (.done (.opt (qd ZT 93 (.slice 1 0 t.length t.length 1) (.i p))) (.ptr 1 ((p:Int).toNat*1+0))) (xS zA a3)) (ac (hs (.run [1] (qp ZT 245 (.ptr 1 ((p:Int).toNat*1+0)) (.int .u64 n39)) [.cells (A.flatMap (qa .u64).c),.cells (t.flatMap (qa .u64).c)] .undef [.cells (A.flatMap (qa .u64).c),.cells (F.flatMap (qa .u64).c)] true) (xI (E:=(qa .u64)) (l:=t) (y:=n39) rfl (show _=some 1 by kernel_rfl) rfl a3 rfl rfl rfl rfl rfl a4 rfl)) az)))) ?_
    refine Goes.sub (show Sub (ofG 137 ((9,.i g)::(10,vl (qa .u64) d)::(kD q (d.length:Int) t [(14,.i p)])),[.cells (A.flatMap (qa .u64).c),.cells (F.flatMap (qa .u64).c)]) (ofG 137 ((9,.i g)::(10,vl (qa .u64) d)::(kD A (d.length:Int) F [(14,.i p)])),[.cells (A.flatMap (qa .u64).c),.cells (F.flatMap (qa .u64).c)])from(Sub.norm [] [some 0,some 1] rfl rfl (.keep (.same nI) (.keep (.same (qg (qa .u64) _)) (.keep (.sliceE rfl (qod e_u40)) (.keep (.same nI) (.keep (.sliceE rfl (j6 a4)) (.keep (.same nI) .nil)))))) (.ks (.ks .nil)))) ?_
    refine gh fol ((9,.i g)::(10,vl (qa .u64) d)::(kD A (d.length:Int) F [(14,.i (w64 (p-1)))])) ?_
    exact⟨M,(ofG 137 ((9,.i g)::(10,vl (qa .u64) d)::(kD A (d.length:Int) F [(14,.i (w64 (p-1)))])),[.cells (A.flatMap (qa .u64).c),.cells (F.flatMap (qa .u64).c)]),Nat.lt_succ_self _,(Sub.refl _),_,_,_,rfl,k⟩
   refine Goes.exit ?_
   obtain rfl:=si k
   exact⟨rfl,_,_,rfl,(Sub.keep [9,11,12,13] rfl rfl)⟩
 rintro x s' ⟨rfl,a2,e,rfl,hsub⟩
 try dsimp only at h
 refine Goes.sub hsub ?_
 refine sq ?_
 refine sh fol ((9,.i g)::(kD a2 (d.length:Int) e [(96,.i (d.length:Int)),(97,.i 0)])) ?_
 refine Goes.block ?_
 obtain⟨r46,u,h⟩:=bnd h
 refine Goes.imp (Q:=fun x s'=>(x= .exit 4/\ ∃L,L=r46/\Sub s' (ofG 137 (kD L (d.length:Int) e []),[.cells (L.flatMap (qa .u64).c),.cells (e.flatMap (qa .u64).c)]))) ?_ ?_
 ·refine Uc (fun M s=> ∃(o:List Int) (f:Int),s=(ofG 137 ((9,.i g)::(kD o (d.length:Int) e (kAk (d.length:Int) f))),[.cells (o.flatMap (qa .u64).c),.cells (e.flatMap (qa .u64).c)])/\jB g d M o f=some r46) ?_ (m:=N) ⟨_,_,rfl,u⟩
  rintro M s ⟨o,f,rfl,u⟩
  cases M with
  |zero=>simp only[jB]at u;cases u
  |succ M=>
   rw[jB]at u
   refine sh fol ((9,.i g)::(kD o (d.length:Int) e [(96,.i (d.length:Int)),(97,.i f),(98,.bool (decide (f<(d.length:Int))))])) ?_
   refine sq ?_
   refine ihD u (fun c47 u=>?_) (fun c47 u=>?_)
   ·refine Goes.skip ?_
    refine sq ?_
    obtain⟨r49,n,u⟩:=bnd u
    refine Goes.imp (Q:=fun x s'=>(x= .normal/\ ∃H,H=r49/\Sub s' (ofG 137 ((9,.i g)::(kD H (d.length:Int) e (kAk (d.length:Int) f))),[.cells (H.flatMap (qa .u64).c),.cells (e.flatMap (qa .u64).c)]))) ?_ ?_
    ·refine Goes.block ?_
     refine sh fol ((9,.i g)::(kD o (d.length:Int) e ((15,.i f)::(kAk (d.length:Int) f)))) ?_
     obtain⟨x50,B,n⟩:=bnd n
     obtain⟨q51,e_q51,n⟩:=bnd n
     obtain⟨j,a5,n⟩:=bnd n
     refine sq (gq fol [2,3,5,6,7] ((9,.i g)::(kD o (d.length:Int) e ((15,.i f)::(kAk (d.length:Int) f)))) [.cells (j.flatMap (qa .u64).c),.cells (e.flatMap (qa .u64).c)] (ac (hs (.done (.opt (qd ZT 93 (.slice 0 0 o.length o.length 1) (.i f))) (.ptr 0 ((f:Int).toNat*1+0))) (xS zA B)) (ac (hs (.run [0] (zR ZT 245 (.ptr 0 ((f:Int).toNat*1+0))) [.cells (o.flatMap (qa .u64).c),.cells (e.flatMap (qa .u64).c)] (.int .u64 x50) [.cells (o.flatMap (qa .u64).c),.cells (e.flatMap (qa .u64).c)] false) (qbR zK (E:=(qa .u64)) (l:=o) rfl rfl B (nl rfl) rfl)) (ac (hs (.done (.opt (zy ZT .shr 245 (.tmp 103) (.tmp 104) (.int .u64 x50) (.i g))) (.int .u64 q51)) (qf0 e_q51)) (ac (hs (.done (.opt (qd ZT 93 (.slice 0 0 o.length o.length 1) (.i f))) (.ptr 0 ((f:Int).toNat*1+0))) (xS zA B)) (ac (hs (.run [0] (qp ZT 245 (.ptr 0 ((f:Int).toNat*1+0)) (.int .u64 q51)) [.cells (o.flatMap (qa .u64).c),.cells (e.flatMap (qa .u64).c)] .undef [.cells (j.flatMap (qa .u64).c),.cells (e.flatMap (qa .u64).c)] true) (xI (E:=(qa .u64)) (l:=o) (y:=q51) rfl (show _=some 1 by kernel_rfl) rfl B rfl rfl rfl rfl rfl a5 rfl)) az))))) ?_)
     refine Goes.sub (show Sub (ofG 137 ((9,.i g)::(kD o (d.length:Int) e ((15,.i f)::(kAk (d.length:Int) f)))),[.cells (j.flatMap (qa .u64).c),.cells (e.flatMap (qa .u64).c)]) (ofG 137 ((9,.i g)::(kD j (d.length:Int) e ((15,.i f)::(kAk (d.length:Int) f)))),[.cells (j.flatMap (qa .u64).c),.cells (e.flatMap (qa .u64).c)])from(Sub.norm [] [some 0,some 1] rfl rfl (.keep (.same nI) (.keep (.sliceE rfl (j6 a5)) (.keep (.same nI) (.keep (.slice rfl) (.keep (.same nI) (.keep (.same nI) (.keep (.same nI) .nil))))))) (.ks (.ks .nil)))) ?_
     refine sq ?_
     obtain⟨b54,v,n⟩:=bnd n
     refine Goes.cut (s':=(ofG 137 ((9,.i g)::(kD j (d.length:Int) e [(15,.i f),(96,.i (d.length:Int)),(97,.i f),(115,.bool b54)])),[.cells (j.flatMap (qa .u64).c),.cells (e.flatMap (qa .u64).c)])) ?_ ?_
     ·rcases wyD v with⟨c53,v⟩|⟨c53,v⟩
      ·obtain rfl:=si v
       exact tr fol [2] ((9,.i g)::(kD j (d.length:Int) e [(15,.i f),(96,.i (d.length:Int)),(97,.i f),(115,.bool (decide ((w64 (f+1))<(j.length:Int))))])) (ac (gw c53) az)
      obtain rfl:=si v
      exact tr fol [2] ((9,.i g)::(kD j (d.length:Int) e [(15,.i f),(96,.i (d.length:Int)),(97,.i f),(115,.bool false)])) (ac (gw c53) az)
     refine ihB n (fun c56 n=>?_) (fun c56 n=>?_)
     ·obtain⟨x57,C,n⟩:=bnd n
      obtain⟨x58,a6,n⟩:=bnd n
      obtain⟨q59,e_q59,n⟩:=bnd n
      obtain⟨a7,a8,n⟩:=bnd n
      refine gq fol [2,3,7,8,11,13,14] ((9,.i g)::(kD j (d.length:Int) e (kAk (d.length:Int) f))) [.cells (a7.flatMap (qa .u64).c),.cells (e.flatMap (qa .u64).c)] (ac (hs (.done (.opt (qd ZT 93 (.slice 0 0 j.length j.length 1) (.i f))) (.ptr 0 ((f:Int).toNat*1+0))) (xS zA C)) (ac (hs (.run [0] (zR ZT 245 (.ptr 0 ((f:Int).toNat*1+0))) [.cells (j.flatMap (qa .u64).c),.cells (e.flatMap (qa .u64).c)] (.int .u64 x57) [.cells (j.flatMap (qa .u64).c),.cells (e.flatMap (qa .u64).c)] false) (qbR zK (E:=(qa .u64)) (l:=j) rfl rfl C (nl rfl) rfl)) (ac (hs (.done (.opt (qd ZT 93 (.slice 0 0 j.length j.length 1) (.i (w64 (f+1))))) (.ptr 0 ((w64 (f+1):Int).toNat*1+0))) (xS zA a6)) (ac (hs (.run [0] (zR ZT 245 (.ptr 0 ((w64 (f+1):Int).toNat*1+0))) [.cells (j.flatMap (qa .u64).c),.cells (e.flatMap (qa .u64).c)] (.int .u64 x58) [.cells (j.flatMap (qa .u64).c),.cells (e.flatMap (qa .u64).c)] false) (qbR zK (E:=(qa .u64)) (l:=j) rfl rfl a6 (nl rfl) rfl)) (ac (hs (.done (.opt (zy ZT .shl 245 (.tmp 124) (.tmp 126) (.int .u64 x58) (.i (w64 (64-g))))) (.int .u64 q59)) (qeB e_q59)) (ac (hs (.done (.opt (qd ZT 93 (.slice 0 0 j.length j.length 1) (.i f))) (.ptr 0 ((f:Int).toNat*1+0))) (xS zA C)) (ac (hs (.run [0] (qp ZT 245 (.ptr 0 ((f:Int).toNat*1+0)) (.int .u64 (orI .u64 x57 q59))) [.cells (j.flatMap (qa .u64).c),.cells (e.flatMap (qa .u64).c)] .undef [.cells (a7.flatMap (qa .u64).c),.cells (e.flatMap (qa .u64).c)] true) (xI (E:=(qa .u64)) (l:=j) (y:=orI .u64 x57 q59) rfl (show _=some 1 by kernel_rfl) rfl C rfl rfl rfl rfl rfl a8 rfl)) az))))))) ?_
      obtain rfl:=si n
      exact⟨rfl,_,rfl,((show Sub (ofG 137 ((9,.i g)::(kD j (d.length:Int) e (kAk (d.length:Int) f))),[.cells (a7.flatMap (qa .u64).c),.cells (e.flatMap (qa .u64).c)]) (ofG 137 ((9,.i g)::(kD a7 (d.length:Int) e (kAk (d.length:Int) f))),[.cells (a7.flatMap (qa .u64).c),.cells (e.flatMap (qa .u64).c)])from(Sub.norm [] [some 0,some 1] rfl rfl (.keep (.same nI) (.keep (.sliceE rfl (j6 a8)) (.keep (.same nI) (.keep (.slice rfl) (.keep (.same nI) (.keep (.same nI) .nil)))))) (.ks (.ks .nil)))).trans (Sub.refl _))⟩
     refine Goes.skip ?_
     obtain rfl:=si n
     exact⟨rfl,_,rfl,(Sub.keep [9,11,12,13,96,97] rfl rfl)⟩
    rintro x s' ⟨rfl,H,rfl,hsub⟩
    refine Goes.sub hsub ?_
    refine gh fol ((9,.i g)::(kD H (d.length:Int) e (kAk (d.length:Int) (w64 (f+1))))) ?_
    exact⟨M,(ofG 137 ((9,.i g)::(kD H (d.length:Int) e (kAk (d.length:Int) (w64 (f+1))))),[.cells (H.flatMap (qa .u64).c),.cells (e.flatMap (qa .u64).c)]),Nat.lt_succ_self _,(Sub.refl _),_,_,rfl,u⟩
   refine Goes.exit ?_
   obtain rfl:=si u
   exact⟨rfl,_,rfl,(Sub.keep [11,12,13] rfl rfl)⟩
 rintro x s' ⟨rfl,L,rfl,hsub⟩
 refine Goes.sub hsub ?_
 refine sq (Goes.sub (s':=(ofG 137 [(11,vl (qa .u64) L),(12,.i (d.length:Int)),(13,.slice 0 0 e.length e.length 1)],[.cells (e.flatMap (qa .u64).c)])) (Sub.norm [0] [some 1] rfl rfl (.keep (.frz (Fz.sl (E:=(qa .u64)) rfl rfl (nl rfl)) (qg (qa .u64) _)) (.keep (.same nI) (.keep (.slice rfl) .nil))) (.ks .nil)) ?_)
 obtain⟨a9,e_r62,h⟩:=bnd h
 obtain⟨s63,e_s63,h⟩:=bnd h
 obtain⟨b0,e_r64,h⟩:=bnd h
 refine gq fol [1,4,5] [(4,vl (qa .u64) a9),(5,vl (qa .u64) b0)] [.frozen (e.flatMap (qa .u64).c)] (ac (hs (.callF 225 [.slice 0 0 e.length e.length 1] [.cells (e.flatMap (qa .u64).c)] [0] [vl (qa .u64) e] (vl (qa .u64) a9)) (qaA (FzL.cons (Fz.sl (E:=(qa .u64)) rfl rfl (nl rfl)) FzL.nil) (yJ N e e_r62) (qx (qa .u64) _ (nl rfl)))) (ac (hs (.done (.opt (qW ZT 93 (vl (qa .u64) L) none (some (.i (d.length:Int))) none)) (vl (qa .u64) s63)) (qiB zA (E:=(qa .u64)) rfl none (some (d.length:Int)) e_s63)) (ac (cv (yJ N s63 e_r64)) az))) ?_
 refine Goes.sub (show Sub (ofG 137 [(4,vl (qa .u64) a9),(5,vl (qa .u64) b0)],[.frozen (e.flatMap (qa .u64).c)]) (ofG 137 [(4,vl (qa .u64) a9),(5,vl (qa .u64) b0)],[])from(Sub.norm [] [] rfl rfl (.keep (.same (qg (qa .u64) _)) (.keep (.same (qg (qa .u64) _)) .nil)) .nil)) ?_
 refine Goes.ret ?_
 obtain rfl:=si h
 exact(gw2 [vl (qa .u64) a9,vl (qa .u64) b0] (FzW.tuple (qc.cons (Ua (qx (qa .u64) _ (nl rfl))) (qc.cons (Ua (qx (qa .u64) _ (nl rfl))) qc.nil))))
def zZ (N:Nat) (a:qj) (b:qj):Option (qj×qj):=
 (if a.w.isEmpty=true then
 if b.w.isEmpty=true then
 some (!decide (a.s=(-9223372036854775808)))
 else
 some false
 else
 some false:Option Bool).bind fun r=>
 if r=true then
 (qcK .i64 a.s b.s).bind fun q=>
 (qe2 .i64 a.s b.s).bind fun i=>
 ((if i<0 then
 some (w64 (q-1),w64 (i+b.s))
 else
 some (q,i):Option (Int×Int))).bind fun(t,u)=>
 some ((⟨t,[]⟩:qj),(⟨u,[]⟩:qj))
 else
 (qF a).bind fun d=>
 (qF b).bind fun j=>
 (qam N d.2 j.2).bind fun f=>
 (jK d.1 f.1).bind fun e=>
 (jK d.1 f.2).bind fun c=>
 (qV c).bind fun k=>
 ((if k<0 then
 (qbH 1).bind fun l=>
 (yO N e l).bind fun g=>
 (yL N c b).bind fun h=>
 some (g.s,g.w,h.s,h.w)
 else
 some (e.s,e.w,c.s,c.w):Option (Int×(List Int)×Int×(List Int)))).bind fun(m,n,o,p)=>
 some ((⟨m,n⟩:qj),(⟨o,p⟩:qj))
theorem qbY (N:Nat) (a:qj) (b:qj) {res:qj×qj} (h:zZ N a b=some res):qb ZT (.fn 196) [.agg (nz1 a),.agg (nz1 b)] [] (.tuple [.agg (nz1 res.1),.agg (nz1 res.2)]) []:=by
 unfold zZ at h
 refine Ub Tryz.func196 rfl rfl (m:=84) rfl (rs:=[.cell 4 95,.cell 5 95]) rfl (l:=[(0,.agg (nz1 a)),(1,.agg (nz1 b))]) rfl ?_
 refine sg fol (kE [(5,.ptr 3 0)]) [.cells (nz1 a),.cells (nz1 b),bZ,bZ] ?_
 refine sq ?_
 refine sq ?_
 obtain⟨b3,c,h⟩:=bnd h
 refine Goes.cut (s':=(ofG 84 (kE [(5,.ptr 3 0),(28,.bool b3)]),[.cells (nz1 a),.cells (nz1 b),bZ,bZ])) ?_ ?_
 ·rcases wyB c with⟨L,c⟩|⟨L,c⟩
  ·rcases wyB c with⟨O,c⟩|⟨O,c⟩
   ·obtain rfl:=si c
    exact tr fol [2,3,6,8] (kE [(5,.ptr 3 0),(28,.bool (!decide (a.s=(-9223372036854775808))))]) (ac (hs (.done (.opt (zy ZT .eql 93 (.tmp 17) (.const (.slice none 0 0)) (nvl (qa .u64) a.w) .nilslice)) (.bool a.w.isEmpty)) (qab xY)) (ac (gw L) (ac (hs (.done (.opt (zy ZT .eql 93 (.tmp 21) (.const (.slice none 0 0)) (nvl (qa .u64) b.w) .nilslice)) (.bool b.w.isEmpty)) (qab xY)) (ac (gw O) az))))
   obtain rfl:=si c
   exact tr fol [2,3,6,8] (kE [(5,.ptr 3 0),(28,.bool false)]) (ac (hs (.done (.opt (zy ZT .eql 93 (.tmp 17) (.const (.slice none 0 0)) (nvl (qa .u64) a.w) .nilslice)) (.bool a.w.isEmpty)) (qab xY)) (ac (gw L) (ac (hs (.done (.opt (zy ZT .eql 93 (.tmp 21) (.const (.slice none 0 0)) (nvl (qa .u64) b.w) .nilslice)) (.bool b.w.isEmpty)) (qab xY)) (ac (gw O) az))))
  obtain rfl:=si c
  exact tr fol [2,3] (kE [(5,.ptr 3 0),(28,.bool false)]) (ac (hs (.done (.opt (zy ZT .eql 93 (.tmp 17) (.const (.slice none 0 0)) (nvl (qa .u64) a.w) .nilslice)) (.bool a.w.isEmpty)) (qab xY)) (ac (gw L) az))
 refine ihB h (fun c5 h=>?_) (fun c5 h=>?_)
 ·obtain⟨M,F,h⟩:=bnd h
  obtain⟨G,H,h⟩:=bnd h
  refine sq (gr fol [4,9] (kAM [(6,.i M),(7,.i G)]) (ac (hs (.done (.opt (zy ZT .quo 3 (.tmp 30) (.tmp 32) (.i a.s) (.i b.s))) (.i M)) (qcC F)) (ac (hs (.done (.opt (zy ZT .rem 3 (.tmp 35) (.tmp 37) (.i a.s) (.i b.s))) (.i G)) (qfU H)) az)) ?_)
  refine sq ?_
  refine sh fol (kAM [(6,.i M),(7,.i G),(40,.bool (decide (G<0)))]) ?_
  obtain⟨P,g10,h⟩:=bnd h
  refine Goes.imp (Q:=fun x s'=>(x= .normal/\ ∃I J,(I,J)=P/\Sub s' (ofG 84 (kAd [(5,.ptr 1 0),(6,.i I),(7,.i J)]),[bZ,bZ]))) ?_ ?_
  ·refine ihD g10 (fun U g10=>?_) (fun U g10=>?_)
   ·refine gh fol [(4,.ptr 2 0),(5,.ptr 3 0),(6,.i (w64 (M-1))),(7,.i (w64 (G+b.s)))] ?_
    obtain rfl:=si g10
    exact⟨rfl,_,_,rfl,(Sub.norm [] [some 2,some 3] rfl rfl (.kp (.kp (.keep (.same nI) (.keep (.same nI) .nil)))) (.kb rfl (.same sn) (.kb rfl (.same sn) .nil)))⟩
   refine Goes.skip ?_
   obtain rfl:=si g10
   exact⟨rfl,_,_,rfl,(Sub.norm [] [some 2,some 3] rfl rfl (.drop (.kp (.kp (.keep (.same nI) (.keep (.same nI) .nil))))) (.kb rfl (.same sn) (.kb rfl (.same sn) .nil)))⟩
  rintro x s' ⟨rfl,I,J,rfl,hsub⟩
  try dsimp only at h
  refine Goes.sub hsub ?_
  refine sg fol (kAd [(5,.ptr 1 0)]) (.cells [.i I,.nilslice]::(kAm J)) ?_
  refine Goes.ret ?_
  obtain rfl:=si h
  exact(gw2 [.agg [.i I,.nilslice],.agg [.i J,.nilslice]] (FzW.tuple (qc.cons (FzW.agg (qc.cons (Ua tI) (qc.cons (FzW.nv0 (E:=(qa .u64))) qc.nil))) (qc.cons (FzW.agg (qc.cons (Ua tI) (qc.cons (FzW.nv0 (E:=(qa .u64))) qc.nil))) qc.nil))))
 refine Goes.skip ?_
 obtain⟨j,r,h⟩:=bnd h
 refine sq (gr fol [1] (kAM [(8,.bool j.1),(9,vl (qa .u64) j.2)]) (ac (cv (zw a r)) az) ?_)
 obtain⟨K,t,h⟩:=bnd h
 refine sq (gr fol [1] (kAM [(8,.bool j.1),(9,vl (qa .u64) j.2),(11,vl (qa .u64) K.2)]) (ac (cv (zw b t)) az) ?_)
 obtain⟨q,u,h⟩:=bnd h
 refine sq (gr fol [2] (kAM [(8,.bool j.1),(12,vl (qa .u64) q.1),(13,vl (qa .u64) q.2)]) (ac (cv (qd5 N j.2 K.2 u)) az) ?_)
 obtain⟨o,v,h⟩:=bnd h
 obtain⟨k,y,h⟩:=bnd h
 refine sq (gq fol [2,5,8,9] (kAM [(14,.ptr 4 0),(15,.ptr 5 0)]) [.cells (nz1 a),.cells (nz1 b),bZ,bZ,.cells (nz1 o),.cells (nz1 k)] (ac (cv (xB j.1 q.1 v)) (ac (cv (xB j.1 q.2 y)) (ac (hs (.run [4] (qp ZT 95 (.ptr 4 0) (.agg (nz1 o))) [.cells (nz1 a),.cells (nz1 b),bZ,bZ,bZ,bZ] .undef [.cells (nz1 a),.cells (nz1 b),bZ,bZ,.cells (nz1 o),bZ] true) (zf (n:=2) (by kernel_rfl) rfl rfl rfl rfl (cac rfl (cac nvc can)) rfl)) (ac (hs (.run [5] (qp ZT 95 (.ptr 5 0) (.agg (nz1 k))) [.cells (nz1 a),.cells (nz1 b),bZ,bZ,.cells (nz1 o),bZ] .undef [.cells (nz1 a),.cells (nz1 b),bZ,bZ,.cells (nz1 o),.cells (nz1 k)] true) (zf (n:=2) (by kernel_rfl) rfl rfl rfl rfl (cac rfl (cac nvc can)) rfl)) az)))) ?_)
 refine sq ?_
 obtain⟨V,z,h⟩:=bnd h
 refine sq (gr fol [1] (kAM [(14,.ptr 4 0),(15,.ptr 5 0),(75,.bool (decide (V<0)))]) (ac (cv (vQ k z)) az) ?_)
 obtain⟨X,g22,h⟩:=bnd h
 refine Goes.imp (Q:=fun x s'=>(x= .normal/\ ∃d e f g,(d,e,f,g)=X/\Sub s' (ofG 84 (kAd [(5,.ptr 1 0),(14,.ptr 2 0),(15,.ptr 3 0)]),[bZ,bZ,.cells (ni1 d e),.cells (ni1 f g)]))) ?_ ?_
 ·refine ihD g22 (fun Y g22=>?_) (fun Y g22=>?_)
  ·obtain⟨Z,A,g22⟩:=bnd g22
   obtain⟨p,B,g22⟩:=bnd g22
   obtain⟨C,D,g22⟩:=bnd g22
   refine gq fol [1,2,5,6,7] [(4,.ptr 2 0),(5,.ptr 3 0),(14,.ptr 4 0),(15,.ptr 5 0)] [.cells (nz1 a),.cells (nz1 b),bZ,bZ,.cells (nz1 p),.cells (nz1 C)] (ac (cv (qaQ 1 A)) (ac (cv (qdw N o Z B)) (ac (cv (qbN N k b D)) (ac (hs (.run [4] (qp ZT 95 (.ptr 4 0) (.agg (nz1 p))) [.cells (nz1 a),.cells (nz1 b),bZ,bZ,.cells (nz1 o),.cells (nz1 k)] .undef [.cells (nz1 a),.cells (nz1 b),bZ,bZ,.cells (nz1 p),.cells (nz1 k)] true) (zf (n:=2) (by kernel_rfl) rfl rfl rfl rfl (cac rfl (cac nvc can)) rfl)) (ac (hs (.run [5] (qp ZT 95 (.ptr 5 0) (.agg (nz1 C))) [.cells (nz1 a),.cells (nz1 b),bZ,bZ,.cells (nz1 p),.cells (nz1 k)] .undef [.cells (nz1 a),.cells (nz1 b),bZ,bZ,.cells (nz1 p),.cells (nz1 C)] true) (zf (n:=2) (by kernel_rfl) rfl rfl rfl rfl (cac rfl (cac nvc can)) rfl)) az))))) ?_
   obtain rfl:=si g22
   exact⟨rfl,_,_,_,_,rfl,(Sub.norm [] [some 2,some 3,some 4,some 5] rfl rfl (.kp (.kp (.kp (.kp .nil)))) (.kb rfl (.same sn) (.kb rfl (.same sn) (.kb rfl (.same sn) (.kb rfl (.same sn) .nil)))))⟩
  refine Goes.skip ?_
  obtain rfl:=si g22
  exact⟨rfl,_,_,_,_,rfl,(Sub.norm [] [some 2,some 3,some 4,some 5] rfl rfl (.drop (.kp (.kp (.kp (.kp .nil))))) (.kb rfl (.same sn) (.kb rfl (.same sn) (.kb rfl (.same sn) (.kb rfl (.same sn) .nil)))))⟩
 rintro x s' ⟨rfl,d,e,f,g,rfl,hsub⟩
 try dsimp only at h
 refine Goes.sub hsub ?_
 refine sq (gq fol [2,3] (kAd [(5,.ptr 1 0)]) [.cells (ni1 d e),.cells (ni1 f g),.cells (ni1 d e),.cells (ni1 f g)] (ac (hs (.run [0] (qp ZT 95 (.ptr 0 0) (.agg (ni1 d e))) [bZ,bZ,.cells (ni1 d e),.cells (ni1 f g)] .undef [.cells (ni1 d e),bZ,.cells (ni1 d e),.cells (ni1 f g)] true) (zf (n:=2) (by kernel_rfl) rfl rfl rfl rfl (cac rfl (cac nvc can)) rfl)) (ac (hs (.run [1] (qp ZT 95 (.ptr 1 0) (.agg (ni1 f g))) [.cells (ni1 d e),bZ,.cells (ni1 d e),.cells (ni1 f g)] .undef [.cells (ni1 d e),.cells (ni1 f g),.cells (ni1 d e),.cells (ni1 f g)] true) (zf (n:=2) (by kernel_rfl) rfl rfl rfl rfl (cac rfl (cac nvc can)) rfl)) az)) ?_)
 refine Goes.ret ?_
 obtain rfl:=si h
 exact(gw2 [.agg (ni1 d e),.agg (ni1 f g)] (FzW.tuple (qc.cons (FzW.agg (qc.cons (Ua tI) (qc.cons (Ua (qw (qa .u64) _ (nl rfl))) qc.nil))) (qc.cons (FzW.agg (qc.cons (Ua tI) (qc.cons (Ua (qw (qa .u64) _ (nl rfl))) qc.nil))) qc.nil))))
def qaq (a:qj):Option qj:=
 if a.s<0 then
 (zD a).bind fun b=>
 some b
 else
 some a
theorem qde (a:qj) {res:qj} (h:qaq a=some res):qb ZT (.fn 223) [.agg (nz1 a)] [] (.agg (nz1 res)) []:=by
 unfold qaq at h
 refine Ub Tryz.func223 rfl rfl (m:=9) rfl (rs:=[.cell 2 95]) rfl (l:=[(0,.agg (nz1 a))]) rfl ?_
 refine sg fol (kAY kAp) [.cells (nz1 a),bZ] ?_
 refine sq ?_
 refine sh fol (kAY [(2,.ptr 1 0),(5,.bool (decide (a.s<0)))]) ?_
 refine ihD h (fun d h=>?_) (fun d h=>?_)
 ·obtain⟨c,b,h⟩:=bnd h
  refine sq (gq fol [1,2] kAp [.cells (nz1 a),.cells (nz1 c)] (ac (cv (vJ a b)) (ac (hs (.run [1] (qp ZT 95 (.ptr 1 0) (.agg (nz1 c))) [.cells (nz1 a),bZ] .undef [.cells (nz1 a),.cells (nz1 c)] true) (zf (n:=2) (by kernel_rfl) rfl rfl rfl rfl (cac rfl (cac nvc can)) rfl)) az)) ?_)
  refine Goes.ret ?_
  obtain rfl:=si h
  exact(gw2 [.agg (nz1 c)] (FzW.agg (qc.cons (Ua tI) (qc.cons (Ua (qw (qa .u64) _ (nl rfl))) qc.nil))))
 refine Goes.skip ?_
 refine sq (gq fol [1] kAp [.cells (nz1 a),.cells (nz1 a)] (ac (hs (.run [1] (qp ZT 95 (.ptr 1 0) (.agg (nz1 a))) [.cells (nz1 a),bZ] .undef [.cells (nz1 a),.cells (nz1 a)] true) (zf (n:=2) (by kernel_rfl) rfl rfl rfl rfl (cac rfl (cac nvc can)) rfl)) az) ?_)
 refine Goes.ret ?_
 obtain rfl:=si h
 exact(gw2 [.agg (nz1 a)] (FzW.agg (qc.cons (Ua tI) (qc.cons (Ua (qw (qa .u64) _ (nl rfl))) qc.nil))))
def vI (N:Nat):Nat->Int->(List Int)->Int->(List Int)->Option (Int×(List Int))
 |0,_,_,_,_=>none
 |K+1,e,f,b,c=>
  (qV (⟨b,c⟩:qj)).bind fun d=>
  if(!decide (d=0))=true then
  (zZ N (⟨e,f⟩:qj) (⟨b,c⟩:qj)).bind fun a=>
  vI N K b c a.2.s a.2.w
  else
  some (e,f)
def qbU (N:Nat) (a:qj) (b:qj):Option qj:=
 (qaq a).bind fun c=>
 (qaq b).bind fun d=>
 (vI N N c.s c.w d.s d.w).bind fun(e,f)=>
 some (⟨e,f⟩:qj)
theorem qgP (N:Nat) (a:qj) (b:qj) {res:qj} (h:qbU N a b=some res):qb ZT (.fn 156) [.agg (nz1 a),.agg (nz1 b)] [] (.agg (nz1 res)) []:=by
 unfold qbU at h
 refine Ub Tryz.func156 rfl rfl (m:=23) rfl (rs:=[.cell 4 95]) rfl (l:=[(0,.agg (nz1 a)),(1,.agg (nz1 b))]) rfl ?_
 refine sg fol (kE []) [.cells (nz1 a),.cells (nz1 b),bZ] ?_
 obtain⟨p,q,h⟩:=bnd h
 obtain⟨t,r,h⟩:=bnd h
 refine sq (gq fol [1,3,4,5] (kE []) [.cells (nz1 p),.cells (nz1 t),bZ] (ac (cv (qde a q)) (ac (cv (qde b r)) (ac (hs (.run [0] (qp ZT 95 (.ptr 0 0) (.agg (nz1 p))) [.cells (nz1 a),.cells (nz1 b),bZ] .undef [.cells (nz1 p),.cells (nz1 b),bZ] true) (zf (n:=2) (by kernel_rfl) rfl rfl rfl rfl (cac rfl (cac nvc can)) rfl)) (ac (hs (.run [1] (qp ZT 95 (.ptr 1 0) (.agg (nz1 t))) [.cells (nz1 p),.cells (nz1 b),bZ] .undef [.cells (nz1 p),.cells (nz1 t),bZ] true) (zf (n:=2) (by kernel_rfl) rfl rfl rfl rfl (cac rfl (cac nvc can)) rfl)) az)))) ?_)
 refine sq (Goes.block ?_)
 obtain⟨w,g9,h⟩:=bnd h
 refine Goes.imp (Q:=fun x s'=>(x= .exit 0/\ ∃f g,(f,g)=w/\Sub s' (ofG 23 (kV kA3),[.cells (ni1 f g),bZ]))) ?_ ?_
 ·refine Uc (fun M s=> ∃(i:Int) (j:List Int) (d:Int) (e:List Int),s=(ofG 23 (kE []),[.cells (ni1 i j),.cells (ni1 d e),bZ])/\vI N M i j d e=some w) ?_ (m:=N) ⟨_,_,_,_,rfl,g9⟩
  rintro M s ⟨i,j,d,e,rfl,g9⟩
  cases M with
  |zero=>simp only[vI]at g9;cases g9
  |succ M=>
   rw[vI]at g9
   refine sq ?_
   obtain⟨u,k,g9⟩:=bnd g9
   refine sq (gr fol [1] (kE [(13,.bool (!decide (u=0)))]) (ac (cv (vQ (⟨d,e⟩:qj) k)) az) ?_)
   refine ihB g9 (fun v g9=>?_) (fun v g9=>?_)
   ·refine Goes.skip ?_
    refine Goes.block ?_
    obtain⟨c,o,g9⟩:=bnd g9
    refine sq (gq fol [2,8,9] (kE [(6,.ptr 4 0)]) [.cells (ni1 i j),.cells (ni1 d e),bZ,.cells (nz1 c.1),.cells (nz1 c.2)] (ac (cv (qbY N (⟨i,j⟩:qj) (⟨d,e⟩:qj) o)) (ac (hs (.run [3] (qp ZT 95 (.ptr 3 0) (.agg (nz1 c.1))) [.cells (ni1 i j),.cells (ni1 d e),bZ,bZ,bZ] .undef [.cells (ni1 i j),.cells (ni1 d e),bZ,.cells (nz1 c.1),bZ] true) (zf (n:=2) (by kernel_rfl) rfl rfl rfl rfl (cac rfl (cac nvc can)) rfl)) (ac (hs (.run [4] (qp ZT 95 (.ptr 4 0) (.agg (nz1 c.2))) [.cells (ni1 i j),.cells (ni1 d e),bZ,.cells (nz1 c.1),bZ] .undef [.cells (ni1 i j),.cells (ni1 d e),bZ,.cells (nz1 c.1),.cells (nz1 c.2)] true) (zf (n:=2) (by kernel_rfl) rfl rfl rfl rfl (cac rfl (cac nvc can)) rfl)) az))) ?_)
    refine gq fol [2,3] (kE []) [.cells (ni1 d e),.cells (nz1 c.2),bZ,.cells (nz1 c.1),.cells (nz1 c.2)] (ac (hs (.run [0] (qp ZT 95 (.ptr 0 0) (.agg (ni1 d e))) [.cells (ni1 i j),.cells (ni1 d e),bZ,.cells (nz1 c.1),.cells (nz1 c.2)] .undef [.cells (ni1 d e),.cells (ni1 d e),bZ,.cells (nz1 c.1),.cells (nz1 c.2)] true) (zf (n:=2) (by kernel_rfl) rfl rfl rfl rfl (cac rfl (cac nvc can)) rfl)) (ac (hs (.run [1] (qp ZT 95 (.ptr 1 0) (.agg (nz1 c.2))) [.cells (ni1 d e),.cells (ni1 d e),bZ,.cells (nz1 c.1),.cells (nz1 c.2)] .undef [.cells (ni1 d e),.cells (nz1 c.2),bZ,.cells (nz1 c.1),.cells (nz1 c.2)] true) (zf (n:=2) (by kernel_rfl) rfl rfl rfl rfl (cac rfl (cac nvc can)) rfl)) az)) ?_
    exact⟨M,(ofG 23 (kE []),[.cells (ni1 d e),.cells (nz1 c.2),bZ]),Nat.lt_succ_self _,(Sub.norm [] [some 0,some 1,some 2] rfl rfl (.kp (.kp (.kp .nil))) (.kb rfl (.same sn) (.kb rfl (.same sn) (.kb rfl (.same sn) .nil)))),_,_,_,_,rfl,g9⟩
   refine Goes.exit ?_
   obtain rfl:=si g9
   exact⟨rfl,_,_,rfl,(Sub.norm [] [some 0,some 2] rfl rfl (.kp (.drop (.kp .nil))) (.kb rfl (.same sn) (.kb rfl (.same sn) .nil)))⟩
 rintro x s' ⟨rfl,f,g,rfl,hsub⟩
 try dsimp only at h
 refine Goes.sub hsub ?_
 refine sq (gq fol [1] kA3 [.cells (ni1 f g),.cells (ni1 f g)] (ac (hs (.run [1] (qp ZT 95 (.ptr 1 0) (.agg (ni1 f g))) [.cells (ni1 f g),bZ] .undef [.cells (ni1 f g),.cells (ni1 f g)] true) (zf (n:=2) (by kernel_rfl) rfl rfl rfl rfl (cac rfl (cac nvc can)) rfl)) az) ?_)
 refine Goes.ret ?_
 obtain rfl:=si h
 exact(gw2 [.agg (ni1 f g)] (FzW.agg (qc.cons (Ua tI) (qc.cons (Ua (qw (qa .u64) _ (nl rfl))) qc.nil))))
def stringslite_CutPrefix (b:Str) (a:Str):Option (Str×Bool):=
 (stringslite_HasPrefix b a).bind fun c=>
 if(!c)=true then
 some (b,false)
 else
 (cut b (a.length:Int) (b.length:Int)).bind fun d=>
 some (d,true)
theorem qb6 (b:Str) (a:Str) {res:Str×Bool} (h:stringslite_CutPrefix b a=some res):qb ZT (.fn 227) [.str b,.str a] [] (.tuple [.str res.1,.bool res.2]) []:=by
 unfold stringslite_CutPrefix at h
 refine Ub Tryz.func227 rfl rfl (m:=15) rfl (rs:=[.tmp 4,.tmp 5]) rfl (l:=(kS b a [])) rfl ?_
 refine sh fol (kS b a []) ?_
 refine sq ?_
 obtain⟨f,c,h⟩:=bnd h
 refine sq (gr fol [2] (kS b a [(9,.bool (!f))]) (ac (cv (ym b a c)) az) ?_)
 refine ihB h (fun g h=>?_) (fun g h=>?_)
 ·refine sh fol [(4,.str b),(5,.bool false)] ?_
  refine Goes.ret ?_
  obtain rfl:=si h
  exact(gw2 [.str b,.bool false] (FzW.tuple (qc.cons (Ua tS) (qc.cons (Ua tB) qc.nil))))
 refine Goes.skip ?_
 obtain⟨e,d,h⟩:=bnd h
 refine sq (gr fol [3] [(4,.str e),(5,.bool true)] (ac (hs (.done (.opt (qW ZT 9 (.str b) (some (.i (a.length:Int))) none none)) (.str e)) (jG st9 (some (a.length:Int)) none d)) az) ?_)
 refine Goes.ret ?_
 obtain rfl:=si h
 exact(gw2 [.str e,.bool true] (FzW.tuple (qc.cons (Ua tS) (qc.cons (Ua tB) qc.nil))))
def strings_CutPrefix (c:Str) (a:Str):Option (Str×Bool):=
 (stringslite_CutPrefix c a).bind fun b=>
 some (b.1,b.2)
theorem qdK (b:Str) (a:Str) {res:Str×Bool} (h:strings_CutPrefix b a=some res):qb ZT (.fn 164) [.str b,.str a] [] (.tuple [.str res.1,.bool res.2]) []:=by
 unfold strings_CutPrefix at h
 refine Ub Tryz.func164 rfl rfl (m:=11) rfl (rs:=[.tmp 4,.tmp 5]) rfl (l:=(kS b a [])) rfl ?_
 refine sh fol (kS b a []) ?_
 obtain⟨d,c,h⟩:=bnd h
 refine sq (gr fol [2] [(4,.str d.1),(5,.bool d.2)] (ac (cv (qb6 b a c)) az) ?_)
 refine Goes.ret ?_
 obtain rfl:=si h
 exact(gw2 [.str d.1,.bool d.2] (FzW.tuple (qc.cons (Ua tS) (qc.cons (Ua tB) qc.nil))))
def jm (a:Str):Option Bool:=
 (if(!(a==[]))=true then
 (qjg a [48,49,50,51,52,53,54,55,56,57]).bind fun b=>
 if(b==[])=true then
 (idx a 0).bind fun c=>
 if(!decide ((c.toNat:Int)=48))=true then
 some true
 else
 some (a==[48])
 else
 some false
 else
 some false:Option Bool).bind fun d=>
 some d
theorem ja (c:Str) {res:Bool} (h:jm c=some res):qb ZT (.fn 166) [.str c] [] (.bool res) []:=by
 unfold jm at h
 refine Ub Tryz.func166 rfl rfl (m:=19) rfl (rs:=[.tmp 2]) rfl (l:=(kAI c)) rfl ?_
 refine sh fol (kAI c) ?_
 refine sq ?_
 obtain⟨j,a,h⟩:=bnd h
 refine Goes.cut (s':=(ofG 19 (kAy j),[])) ?_ ?_
 ·rcases wyB a with⟨e,a⟩|⟨e,a⟩
  ·obtain⟨n,b,a⟩:=bnd a
   rcases wyB a with⟨f,a⟩|⟨f,a⟩
   ·obtain⟨k,d,a⟩:=bnd a
    rcases wyB a with⟨g,a⟩|⟨g,a⟩
    ·obtain rfl:=si a
     exact tr fol [2,4,7,9,11] [(2,.bool true)] (ac (gw e) (ac (cv (qg7 c [48,49,50,51,52,53,54,55,56,57] b)) (ac (gw f) (ac (hs (.done (.opt (jH ZT 9 (.str c) (.i 0))) (.int .u8 (k.toNat:Int))) (qaj st9 d)) (ac (gw g) az)))))
    obtain rfl:=si a
    exact tr fol [2,4,7,9,11] (kAy (c==[48])) (ac (gw e) (ac (cv (qg7 c [48,49,50,51,52,53,54,55,56,57] b)) (ac (gw f) (ac (hs (.done (.opt (jH ZT 9 (.str c) (.i 0))) (.int .u8 (k.toNat:Int))) (qaj st9 d)) (ac (gw g) az)))))
   obtain rfl:=si a
   exact tr fol [2,4,7] kAl (ac (gw e) (ac (cv (qg7 c [48,49,50,51,52,53,54,55,56,57] b)) (ac (gw f) az)))
  obtain rfl:=si a
  exact tr fol [2] kAl (ac (gw e) az)
 refine Goes.ret ?_
 obtain rfl:=si h
 exact(gw2 [.bool j] (Ua tB))
end Go.Av
