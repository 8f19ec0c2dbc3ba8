/-
  Walks of functions: what each computes, as a plain function.
-/
import Derived.Test.YtbjpmhdicbgjkaaGreatDoorQGenE3
noncomputable section
namespace Go.Av
open Go.Proofs Go.RowKit
set_option linter.unusedSectionVars false
set_option linter.unusedVariables false
set_option linter.unusedSimpArgs false
set_option maxRecDepth 100000
def qbm (N:Nat) (a:Str):Option Str:=
 (vI N a).bind fun c=>
 if c=true then
 some a
 else
 (z8 N a).bind fun b=>
 (qab N b.1 b.2).bind fun d=>
 (xV N d).bind fun e=>
 some e
theorem qgK (N:Nat) (a:Str) {res:Str} (h:qbm N a=some res):qb ZT (.fn 33) [.str a] [] (.str res) []:=by
 unfold qbm at h
 refine Ub Tryz.func33 rfl rfl (m:=17) rfl (rs:=[.tmp 2]) rfl (l:=(kAQ a [])) rfl ?_
 refine sh fol (kAQ a []) ?_
 refine sq ?_
 obtain⟨i,c,h⟩:=bnd h
 refine sq (gr fol [1] (kAQ a [(6,.bool i)]) (ac (cv (qbb N a c)) az) ?_)
 refine ihB h (fun j h=>?_) (fun j h=>?_)
 ·refine sh fol (kBs a) ?_
  refine Goes.ret ?_
  obtain rfl:=si h
  exact(gw2 [.str a] (Ua tS))
 refine Goes.skip ?_
 obtain⟨b,d,h⟩:=bnd h
 refine sq (gq fol [1] (kQ []) (kO b.1.neg b.1.w b.2.neg b.2.w []) (ac (cv (vW N a d)) az) ?_)
 obtain⟨k,e,h⟩:=bnd h
 obtain⟨g,f,h⟩:=bnd h
 refine sq (gr fol [2,3] (kBs g) (ac (cv (qfi N b.1 b.2 e)) (ac (cv (qbi N k f)) az)) ?_)
 refine Goes.ret ?_
 obtain rfl:=si h
 exact(gw2 [.str g] (Ua tS))
def xR (N:Nat) (a:qm):Option qf:=
 (zL N a.Num a.Den).bind fun b=>
 some b.1
theorem qfz (N:Nat) (a:qm) {res:qf} (h:xR N a=some res):qb ZT (.fn 103) [.agg (nq1 a)] [] (.agg (nz1 res)) []:=by
 unfold xR at h
 refine Ub Tryz.func103 rfl rfl (m:=14) rfl (rs:=[.cell 2 106]) rfl (l:=[(0,.agg (nq1 a))]) rfl ?_
 refine sg fol (kAH []) [.cells (nq1 a),bZ] ?_
 obtain⟨b,c,h⟩:=bnd h
 refine sq (gq fol [4,10,11] [(2,.ptr 1 0),(3,.ptr 2 0)] [.cells (nq1 a),bZ,.cells (nz1 b.1),.cells (nz1 b.2)] (ac (cv (qaO N a.Num a.Den c)) (ac (hs (.run [2] (qo ZT 106 (.ptr 2 0) (.agg (nz1 b.1))) [.cells (nq1 a),bZ,bZ,bZ] .undef [.cells (nq1 a),bZ,.cells (nz1 b.1),bZ] true) (qI (n:=2) (by kernel_rfl) rfl rfl rfl rfl (cac rfl (cac nvc can)) rfl)) (ac (hs (.run [3] (qo ZT 106 (.ptr 3 0) (.agg (nz1 b.2))) [.cells (nq1 a),bZ,.cells (nz1 b.1),bZ] .undef [.cells (nq1 a),bZ,.cells (nz1 b.1),.cells (nz1 b.2)] true) (qI (n:=2) (by kernel_rfl) rfl rfl rfl rfl (cac rfl (cac nvc can)) rfl)) az))) ?_)
 refine sq (gq fol [1] kBX [.cells (nq1 a),.cells (nz1 b.1),.cells (nz1 b.1),.cells (nz1 b.2)] (ac (hs (.run [1] (qo ZT 106 (.ptr 1 0) (.agg (nz1 b.1))) [.cells (nq1 a),bZ,.cells (nz1 b.1),.cells (nz1 b.2)] .undef [.cells (nq1 a),.cells (nz1 b.1),.cells (nz1 b.1),.cells (nz1 b.2)] true) (qI (n:=2) (by kernel_rfl) rfl rfl rfl rfl (cac rfl (cac nvc can)) rfl)) az) ?_)
 refine Goes.ret ?_
 obtain rfl:=si h
 exact(gw2 [.agg (nz1 b.1)] (FzW.agg (qd.cons (Ua tI) (qd.cons (Ua (qp (qa .u64) _ (nl rfl))) qd.nil))))
def qfq (n:Int):Option qm:=
 (qci n).bind fun a=>
 (qaI a).bind fun b=>
 some b
theorem qd7 (n:Int) {res:qm} (h:qfq n=some res):qb ZT (.fn 84) [.i n] [] (.agg (nq1 res)) []:=by
 unfold qfq at h
 refine Ub Tryz.func84 rfl rfl (m:=6) rfl (rs:=[.cell 2 108]) rfl (l:=[(0,.i n)]) rfl ?_
 refine sg fol ((0,.i n)::(kAM [])) (kD []) ?_
 obtain⟨d,a,h⟩:=bnd h
 obtain⟨c,b,h⟩:=bnd h
 refine sq (gq fol [1,2,3] (kAM []) [.cells (nq1 c)] (ac (cv (qbc n a)) (ac (cv (qbE d b)) (ac (hs (.run [0] (qo ZT 108 (.ptr 0 0) (.agg (nq1 c))) (kD []) .undef [.cells (nq1 c)] true) (qI (n:=4) (by kernel_rfl) rfl rfl rfl rfl (cac rfl (cac nvc (cac rfl (cac nvc can)))) rfl)) az))) ?_)
 refine Goes.ret ?_
 obtain rfl:=si h
 exact(gw2 [.agg (nq1 c)] (FzW.agg (qd.cons (Ua tI) (qd.cons (Ua (qp (qa .u64) _ (nl rfl))) (qd.cons (Ua tI) (qd.cons (Ua (qp (qa .u64) _ (nl rfl))) qd.nil))))))
def xk (N:Nat) (a:qm):Option qm:=
 (xR N a).bind fun b=>
 (qaI b).bind fun c=>
 some c
theorem qdz (N:Nat) (a:qm) {res:qm} (h:xk N a=some res):qb ZT (.fn 85) [.agg (nq1 a)] [] (.agg (nq1 res)) []:=by
 unfold xk at h
 refine Ub Tryz.func85 rfl rfl (m:=6) rfl (rs:=[.cell 2 108]) rfl (l:=[(0,.agg (nq1 a))]) rfl ?_
 refine sg fol (kAH []) (.cells (nq1 a)::(kD [])) ?_
 obtain⟨e,b,h⟩:=bnd h
 obtain⟨d,c,h⟩:=bnd h
 refine sq (gq fol [1,2,3] kBX [.cells (nq1 a),.cells (nq1 d)] (ac (cv (qfz N a b)) (ac (cv (qbE e c)) (ac (hs (.run [1] (qo ZT 108 (.ptr 1 0) (.agg (nq1 d))) (.cells (nq1 a)::(kD [])) .undef [.cells (nq1 a),.cells (nq1 d)] true) (qI (n:=4) (by kernel_rfl) rfl rfl rfl rfl (cac rfl (cac nvc (cac rfl (cac nvc can)))) rfl)) az))) ?_)
 refine Goes.ret ?_
 obtain rfl:=si h
 exact(gw2 [.agg (nq1 d)] (FzW.agg (qd.cons (Ua tI) (qd.cons (Ua (qp (qa .u64) _ (nl rfl))) (qd.cons (Ua tI) (qd.cons (Ua (qp (qa .u64) _ (nl rfl))) qd.nil))))))
def kr (N:Nat) (f:jk) (times:qm) (g:jk):Option jk:=
 (xc N f.n times).bind fun a=>
 (xh N a g.n).bind fun b=>
 (xc N f.d times).bind fun c=>
 (xh N c g.d).bind fun e=>
 some (⟨b,e⟩:jk)
theorem qaH (N:Nat) (f:jk) (times:qm) (g:jk) {res:jk} (h:kr N f times g=some res):qb ZT (.fn 86) [.agg (nq2 f.n f.d),.agg (nq1 times),.agg (nq2 g.n g.d)] [] (.agg (nq2 res.n res.d)) []:=by
 unfold kr at h
 refine Ub Tryz.func86 rfl rfl (m:=22) rfl (rs:=[.cell 6 113]) rfl (l:=[(0,.agg (nq2 f.n f.d)),(1,.agg (nq1 times)),(2,.agg (nq2 g.n g.d))]) rfl ?_
 refine sg fol (kQ [(5,.ptr 2 0),(6,.ptr 3 0)]) (.cells (nq2 f.n f.d):: .cells (nq1 times):: .cells (nq2 g.n g.d)::(kAI [])) ?_
 obtain⟨k,a,h⟩:=bnd h
 obtain⟨i,b,h⟩:=bnd h
 obtain⟨o,c,h⟩:=bnd h
 obtain⟨j,e,h⟩:=bnd h
 refine sq (gq fol [3,6,10,13,15] [(6,.ptr 3 0)] [.cells (nq2 f.n f.d),.cells (nq1 times),.cells (nq2 g.n g.d),.cells (nq2 i j)] (ac (cv (qby N f.n times a)) (ac (cv (qbB N k g.n b)) (ac (cv (qby N f.d times c)) (ac (cv (qbB N o g.d e)) (ac (hs (.run [3] (qo ZT 113 (.ptr 3 0) (.agg (nq2 i j))) (.cells (nq2 f.n f.d):: .cells (nq1 times):: .cells (nq2 g.n g.d)::(kAI [])) .undef [.cells (nq2 f.n f.d),.cells (nq1 times),.cells (nq2 g.n g.d),.cells (nq2 i j)] true) (qI (n:=8) (by kernel_rfl) rfl rfl rfl rfl (cac rfl (cac nvc (cac rfl (cac nvc (cac rfl (cac nvc (cac rfl (cac nvc can)))))))) rfl)) az))))) ?_)
 refine Goes.ret ?_
 obtain rfl:=si h
 exact(gw2 [.agg (nq2 i j)] (FzW.agg (qd.cons (Ua tI) (qd.cons (Ua (qp (qa .u64) _ (nl rfl))) (qd.cons (Ua tI) (qd.cons (Ua (qp (qa .u64) _ (nl rfl))) (qd.cons (Ua tI) (qd.cons (Ua (qp (qa .u64) _ (nl rfl))) (qd.cons (Ua tI) (qd.cons (Ua (qp (qa .u64) _ (nl rfl))) qd.nil))))))))))
def jH (vals:List Int):Nat->Int->Option (Unit⊕Int)
 |0,_=>none
 |K+1,a=>
  if a<(vals.length:Int)then
  (idx vals a).bind fun b=>
  if(!decide (b=0))=true then
  some (.inr b)
  else
  jH vals K (w64 (a+1))
  else
  some (.inl ())
def qb5 (N:Nat) (vals:List Int):Option Int:=
 (jH vals N 0).bind (fun
 |(.inl ())=>
 some 0
 |(.inr a)=>
 some a)
theorem qh2 (N:Nat) (vals:List Int) {res:Int} (h:qb5 N vals=some res):qb ZT (.fn 91) [vl encI vals] [] (.i res) []:=by
 unfold qb5 at h
 refine Ub Tryz.func91 rfl rfl (m:=18) rfl (rs:=[.tmp 2]) rfl (l:=(kAn vals [])) rfl ?_
 refine sh fol (kAn vals []) ?_
 refine sh fol (kAn vals [(3,.i 0)]) ?_
 refine sq ?_
 refine sh fol [(3,.i 0),(6,vl encI vals),(7,.i (vals.length:Int)),(8,.i 0)] ?_
 refine Goes.block ?_
 obtain⟨d,g2,h⟩:=bnd h
 refine Goes.imp (Q:=fun x s'=>(x= .exit 0/\(.inl ())=d/\Sub s' (ofG 18 [(3,.i 0)],[]))\/(x= .ret/\ ∃e,(.inr e)=d/\jY ZT [.tmp 2] (.i e) .ret s')) ?_ ?_
 ·refine Uc (fun M s=> ∃(a:Int),s=(ofG 18 ((3,.i 0)::(6,vl encI vals)::(kAh (vals.length:Int) a)),[])/\jH vals M a=some d) ?_ (m:=N) ⟨_,rfl,g2⟩
  rintro M s ⟨a,rfl,g2⟩
  cases M with
  |zero=>simp only[jH]at g2;cases g2
  |succ M=>
   rw[jH]at g2
   refine sh fol [(3,.i 0),(6,vl encI vals),(7,.i (vals.length:Int)),(8,.i a),(9,.bool (decide (a<(vals.length:Int))))] ?_
   refine sq ?_
   refine ihD g2 (fun f g2=>?_) (fun f g2=>?_)
   ·refine Goes.skip ?_
    refine sq (Goes.block ?_)
    obtain⟨c,b,g2⟩:=bnd g2
    refine sq (gr fol [0,1] ((3,.i 0)::(5,.i c)::(6,vl encI vals)::(kAh (vals.length:Int) a)) (ac (iv jB encI b) (ac (lv 0 ce3 encI b rfl) az)) ?_)
    refine sh fol ((3,.i 0)::(5,.i c)::(6,vl encI vals)::(7,.i (vals.length:Int))::(8,.i a)::(kBh (!decide (c=0)))) ?_
    refine ihB g2 (fun g g2=>?_) (fun g g2=>?_)
    ·refine sh fol (kBM c) ?_
     refine Goes.ret ?_
     obtain rfl:=si g2
     exact Or.inr (⟨rfl,_,rfl,(gw2 [.i c] (Ua tI))⟩)
    refine Goes.skip ?_
    refine gh fol ((3,.i 0)::(6,vl encI vals)::(kAh (vals.length:Int) (w64 (a+1)))) ?_
    exact⟨M,(ofG 18 ((3,.i 0)::(6,vl encI vals)::(kAh (vals.length:Int) (w64 (a+1)))),[]),Nat.lt_succ_self _,(Sub.refl _),_,rfl,g2⟩
   refine Goes.exit ?_
   obtain rfl:=si g2
   exact Or.inl (⟨rfl,rfl,(Sub.keep [3] rfl rfl)⟩)
 rintro x s' (⟨rfl,rfl,hsub⟩|⟨rfl,j,rfl,hret⟩)
 ·try dsimp only at h
  refine Goes.sub hsub ?_
  refine sh fol kB3 ?_
  refine Goes.ret ?_
  obtain rfl:=si h
  exact(gw2 [.i 0] (Ua tI))
 try dsimp only at h
 obtain rfl:=si h
 exact hret
def qau (a:qm):Option Int:=
 (qY a.Num).bind fun b=>
 some b
theorem qfX (a:qm) {res:Int} (h:qau a=some res):qb ZT (.fn 99) [.agg (nq1 a)] [] (.i res) []:=by
 unfold qau at h
 refine Ub Tryz.func99 rfl rfl (m:=6) rfl (rs:=[.tmp 2]) rfl (l:=[(0,.agg (nq1 a))]) rfl ?_
 refine sg fol (kA2 []) [.cells (nq1 a)] ?_
 obtain⟨c,b,h⟩:=bnd h
 refine sq (gr fol [2] (kBM c) (ac (cv (yh a.Num b)) az) ?_)
 refine Goes.ret ?_
 obtain rfl:=si h
 exact(gw2 [.i c] (Ua tI))
def qbd (N:Nat) (a:qm) (b:qm):Option qm:=
 (vE N a b).bind fun c=>
 (qau c).bind fun d=>
 if d<0 then
 (vE N b a).bind fun e=>
 some e
 else
 some c
theorem qeG (N:Nat) (a:qm) (b:qm) {res:qm} (h:qbd N a b=some res):qb ZT (.fn 92) [.agg (nq1 a),.agg (nq1 b)] [] (.agg (nq1 res)) []:=by
 unfold qbd at h
 refine Ub Tryz.func92 rfl rfl (m:=16) rfl (rs:=[.cell 4 108]) rfl (l:=[(0,.agg (nq1 a)),(1,.agg (nq1 b))]) rfl ?_
 refine sg fol (kH []) (.cells (nq1 a):: .cells (nq1 b)::(kD [])) ?_
 obtain⟨c,d,h⟩:=bnd h
 refine sq (gq fol [2,4] (kH (kBc [])) (.cells (nq1 a):: .cells (nq1 b)::(kD [.cells (nq1 c)])) (ac (cv (qaz N a b d)) (ac (hs (.run [3] (qo ZT 108 (.ptr 3 0) (.agg (nq1 c))) (.cells (nq1 a):: .cells (nq1 b)::(kD (kD []))) .undef (.cells (nq1 a):: .cells (nq1 b)::(kD [.cells (nq1 c)])) true) (qI (n:=4) (by kernel_rfl) rfl rfl rfl rfl (cac rfl (cac nvc (cac rfl (cac nvc can)))) rfl)) az)) ?_)
 refine sq ?_
 obtain⟨i,e,h⟩:=bnd h
 refine sq (gr fol [1] (kH (kBc [(11,.bool (decide (i<0)))])) (ac (cv (qfX c e)) az) ?_)
 refine ihD h (fun j h=>?_) (fun j h=>?_)
 ·obtain⟨g,f,h⟩:=bnd h
  refine sq (gq fol [2,3] (kAU []) [.cells (nq1 a),.cells (nq1 b),.cells (nq1 g),.cells (nq1 c)] (ac (cv (qaz N b a f)) (ac (hs (.run [2] (qo ZT 108 (.ptr 2 0) (.agg (nq1 g))) (.cells (nq1 a):: .cells (nq1 b)::(kD [.cells (nq1 c)])) .undef [.cells (nq1 a),.cells (nq1 b),.cells (nq1 g),.cells (nq1 c)] true) (qI (n:=4) (by kernel_rfl) rfl rfl rfl rfl (cac rfl (cac nvc (cac rfl (cac nvc can)))) rfl)) az)) ?_)
  refine Goes.ret ?_
  obtain rfl:=si h
  exact(gw2 [.agg (nq1 g)] (FzW.agg (qd.cons (Ua tI) (qd.cons (Ua (qp (qa .u64) _ (nl rfl))) (qd.cons (Ua tI) (qd.cons (Ua (qp (qa .u64) _ (nl rfl))) qd.nil))))))
 refine Goes.skip ?_
 refine sq (gq fol [1] (kAU []) [.cells (nq1 a),.cells (nq1 b),.cells (nq1 c),.cells (nq1 c)] (ac (hs (.run [2] (qo ZT 108 (.ptr 2 0) (.agg (nq1 c))) (.cells (nq1 a):: .cells (nq1 b)::(kD [.cells (nq1 c)])) .undef [.cells (nq1 a),.cells (nq1 b),.cells (nq1 c),.cells (nq1 c)] true) (qI (n:=4) (by kernel_rfl) rfl rfl rfl rfl (cac rfl (cac nvc (cac rfl (cac nvc can)))) rfl)) az) ?_)
 refine Goes.ret ?_
 obtain rfl:=si h
 exact(gw2 [.agg (nq1 c)] (FzW.agg (qd.cons (Ua tI) (qd.cons (Ua (qp (qa .u64) _ (nl rfl))) (qd.cons (Ua tI) (qd.cons (Ua (qp (qa .u64) _ (nl rfl))) qd.nil))))))
def zG (N:Nat) (r:qm):Nat->Int->(List Int)->Int->(List Int)->Int->(List Int)->Int->(List Int)->Int->(List Int)->Int->(List Int)->Int->(List Int)->Int->(List Int)->Int->(List Int)->Int->(List Int)->Option ((Int×(List Int)×Int×(List Int)×Int×(List Int)×Int×(List Int)×Int×(List Int)×Int×(List Int)×Int×(List Int)×Int×(List Int))⊕(Str×Int))
 |0,_,_,_,_,_,_,_,_,_,_,_,_,_,_,_,_,_,_,_,_=>none
 |K+1,t,u,v,x,y,z,A,B,c,e,f,g,h,i,j,k,l,m,o,p=>
  (xk N (⟨(⟨l,m⟩:qf),(⟨o,p⟩:qf)⟩:qm)).bind fun q=>
  (kr N (⟨(⟨(⟨c,e⟩:qf),(⟨f,g⟩:qf)⟩:qm),(⟨(⟨h,i⟩:qf),(⟨j,k⟩:qf)⟩:qm)⟩:jk) q (⟨(⟨(⟨t,u⟩:qf),(⟨v,x⟩:qf)⟩:qm),(⟨(⟨y,z⟩:qf),(⟨A,B⟩:qf)⟩:qm)⟩:jk)).bind fun a=>
  (jI N a.d r).bind fun D=>
  if D>0 then
  some (.inl (t,u,v,x,y,z,A,B,c,e,f,g,h,i,j,k))
  else
  (jI N (⟨(⟨l,m⟩:qf),(⟨o,p⟩:qf)⟩:qm) q).bind fun E=>
  if E=0 then
  (jJ N a.n a.d).bind fun F=>
  (vJ N F).bind fun C=>
  some (.inr (C.1,C.2))
  else
  (vE N (⟨(⟨l,m⟩:qf),(⟨o,p⟩:qf)⟩:qm) q).bind fun G=>
  (qal N G).bind fun b=>
  zG N r K c e f g h i j k a.n.Num.s a.n.Num.w a.n.Den.s a.n.Den.w a.d.Num.s a.d.Num.w a.d.Den.s a.d.Den.w b.Num.s b.Num.w b.Den.s b.Den.w
def yS (N:Nat) (A:Str) (most:Int):Option (Str×Int):=
 ((qaQ N A).bind fun B=>
 if most<1 then
 (qX true 3).bind fun r3=>
 (jK N ([B,r3]:List Int)).bind fun r4=>
 some (B,r3,r4)
 else
 (qX (decide (most>999999999)) 3).bind fun r5=>
 (jK N ([B,r5]:List Int)).bind fun r6=>
 some (B,r5,r6):Option (Int×Int×Int)).bind fun(n7,n8,n9)=>
 if(!decide (n9=0))=true then
 some ([],n9)
 else
 (qfq most).bind fun o=>
 (qfq 0).bind fun c=>
 (qfq 1).bind fun e=>
 (qfq 1).bind fun f=>
 (qfq 0).bind fun g=>
 (qb6 N A).bind fun h=>
 (zG N o N c.Num.s c.Num.w c.Den.s c.Den.w e.Num.s e.Num.w e.Den.s e.Den.w f.Num.s f.Num.w f.Den.s f.Den.w g.Num.s g.Num.w g.Den.s g.Den.w h.Num.s h.Num.w h.Den.s h.Den.w).bind (fun
 |(.inl (C,D,E,F,p,q,r,t,u,v,x,y,i,j,k,l))=>
 (vE N o (⟨(⟨p,q⟩:qf),(⟨r,t⟩:qf)⟩:qm)).bind fun G=>
 (jJ N G (⟨(⟨i,j⟩:qf),(⟨k,l⟩:qf)⟩:qm)).bind fun H=>
 (xk N H).bind fun I=>
 (kr N (⟨(⟨(⟨u,v⟩:qf),(⟨x,y⟩:qf)⟩:qm),(⟨(⟨i,j⟩:qf),(⟨k,l⟩:qf)⟩:qm)⟩:jk) I (⟨(⟨(⟨C,D⟩:qf),(⟨E,F⟩:qf)⟩:qm),(⟨(⟨p,q⟩:qf),(⟨r,t⟩:qf)⟩:qm)⟩:jk)).bind fun m=>
 (jJ N (⟨(⟨u,v⟩:qf),(⟨x,y⟩:qf)⟩:qm) (⟨(⟨i,j⟩:qf),(⟨k,l⟩:qf)⟩:qm)).bind fun a=>
 (jJ N m.n m.d).bind fun b=>
 (qb6 N A).bind fun J=>
 (qbd N a J).bind fun K=>
 (qb6 N A).bind fun L=>
 (qbd N b L).bind fun M=>
 (jI N K M).bind fun O=>
 (jI N (⟨(⟨i,j⟩:qf),(⟨k,l⟩:qf)⟩:qm) m.d).bind fun P=>
 (jI N a b).bind fun Q=>
 (qb5 N ([O,P,Q]:List Int)).bind fun U=>
 ((if U>0 then
 some (b.Num.s,b.Num.w,b.Den.s,b.Den.w)
 else
 some (a.Num.s,a.Num.w,a.Den.s,a.Den.w):Option (Int×(List Int)×Int×(List Int)))).bind fun(V,X,Y,Z)=>
 (vJ N (⟨(⟨V,X⟩:qf),(⟨Y,Z⟩:qf)⟩:qm)).bind fun z=>
 some (z.1,z.2)
 |(.inr a0)=>
 some a0)
theorem qcw (N:Nat) (V:Str) (most:Int) {res:Str×Int} (h:yS N V most=some res):qb ZT (.fn 15) (kA9 V most) [] (.tuple (kA9 res.1 res.2)) []:=by
 unfold yS at h
 refine Ub Tryz.func15 rfl rfl (m:=117) rfl (rs:=[.tmp 4,.tmp 5]) rfl (l:=(kAQ V [(1,.i most)])) rfl ?_
 refine sh fol (kAQ V [(1,.i most)]) ?_
 refine sq ?_
 refine sq ?_
 obtain⟨⟨n7,n8,n9⟩,c,h⟩:=bnd h
 refine Goes.cut (s':=(ofG 117 (kAQ V ((1,.i most)::(kB4 n9))),(kAE n7 n8))) ?_ ?_
 ·obtain⟨r1,e_r1,c⟩:=bnd c
  rcases wyD c with⟨c2,c⟩|⟨c2,c⟩
  ·obtain⟨r3,e_r3,c⟩:=bnd c
   obtain⟨r4,e_r4,c⟩:=bnd c
   simp only[ZI,ZP]at c
   obtain⟨rfl,rfl,rfl⟩:=c
   exact xy.rq fol [1,4,8,10] (kAQ V ((1,.i most)::(kB4 r4))) (kAE r1 r3) (ac (cv (qdB N V e_r1)) (ac (gw c2) (ac (cv (vS true 3 e_r3)) (ac (hs (.call 79 [.slice 0 0 2 2 1] (kAE r1 r3) [0] [vl encI ([r1,r3]:List Int)] (.i r4)) (qfQ (FzL.cons (Fz.lit rfl rfl (Uf (AllST.cons tI (AllST.cons tI AllST.nil)))) FzL.nil) (qay N ([r1,r3]:List Int) e_r4) tI rfl)) az))))
  obtain⟨r5,e_r5,c⟩:=bnd c
  obtain⟨r6,e_r6,c⟩:=bnd c
  simp only[ZI,ZP]at c
  obtain⟨rfl,rfl,rfl⟩:=c
  exact xy.rq fol [1,4,8,10] (kAQ V ((1,.i most)::(kB4 r6))) (kAE r1 r5) (ac (cv (qdB N V e_r1)) (ac (gw c2) (ac (cv (vS (decide (most>999999999)) 3 e_r5)) (ac (hs (.call 79 [.slice 0 0 2 2 1] (kAE r1 r5) [0] [vl encI ([r1,r5]:List Int)] (.i r6)) (qfQ (FzL.cons (Fz.lit rfl rfl (Uf (AllST.cons tI (AllST.cons tI AllST.nil)))) FzL.nil) (qay N ([r1,r5]:List Int) e_r6) tI rfl)) az))))
 try dsimp only at h
 refine sh fol (kAQ V [(1,.i most),(6,.i n9),(29,.bool (!decide (n9=0)))]) ?_
 refine ihB h (fun c11 h=>?_) (fun c11 h=>?_)
 ·refine sh fol ((4,.str [])::(kA5 n9)) ?_
  refine Goes.ret ?_
  obtain rfl:=si h
  exact(gw2 [.str [],.i n9] (FzW.tuple (qd.cons (Ua tS) (qd.cons (Ua tI) qd.nil))))
 refine Goes.skip ?_
 obtain⟨a,e_r12,h⟩:=bnd h
 refine sq (gq fol [1,3] (kAQ V [(7,.ptr 1 0)]) (kBQ n7 n8 [.cells (nq1 a)]) (ac (cv (qd7 most e_r12)) (ac (hs (.run [1] (qo ZT 108 (.ptr 1 0) (.agg (nq1 a))) (kBQ n7 n8 (kD [])) .undef (kBQ n7 n8 [.cells (nq1 a)]) true) (qI (n:=4) (by kernel_rfl) rfl rfl rfl rfl (cac rfl (cac nvc (cac rfl (cac nvc can)))) rfl)) az)) ?_)
 obtain⟨a7,e_r13,h⟩:=bnd h
 obtain⟨a8,e_r14,h⟩:=bnd h
 obtain⟨a9,e_r15,h⟩:=bnd h
 obtain⟨b0,e_r16,h⟩:=bnd h
 refine sq (gq fol [0,1,3,4,8,9] (kAQ V [(7,.ptr 1 0),(8,.ptr 2 0),(9,.ptr 3 0)]) (kBQ n7 n8 [.cells (nq1 a),.cells (nq2 a7 a8),.cells (nq2 a9 b0)]) (ac (cv (qd7 0 e_r13)) (ac (cv (qd7 1 e_r14)) (ac (cv (qd7 1 e_r15)) (ac (cv (qd7 0 e_r16)) (ac (hs (.run [2] (qo ZT 113 (.ptr 2 0) (.agg (nq2 a7 a8))) (kBQ n7 n8 (.cells (nq1 a)::(kAI (kAI [])))) .undef (kBQ n7 n8 (.cells (nq1 a):: .cells (nq2 a7 a8)::(kAI []))) true) (qI (n:=8) (by kernel_rfl) rfl rfl rfl rfl (cac rfl (cac nvc (cac rfl (cac nvc (cac rfl (cac nvc (cac rfl (cac nvc can)))))))) rfl)) (ac (hs (.run [3] (qo ZT 113 (.ptr 3 0) (.agg (nq2 a9 b0))) (kBQ n7 n8 (.cells (nq1 a):: .cells (nq2 a7 a8)::(kAI []))) .undef (kBQ n7 n8 [.cells (nq1 a),.cells (nq2 a7 a8),.cells (nq2 a9 b0)]) true) (qI (n:=8) (by kernel_rfl) rfl rfl rfl rfl (cac rfl (cac nvc (cac rfl (cac nvc (cac rfl (cac nvc (cac rfl (cac nvc can)))))))) rfl)) az)))))) ?_)
 obtain⟨r17,e_r17,h⟩:=bnd h
 refine sq (gq fol [1,3] (kAQ V [(7,.ptr 1 0),(8,.ptr 2 0),(9,.ptr 3 0),(10,.ptr 4 0)]) (kBQ n7 n8 [.cells (nq1 a),.cells (nq2 a7 a8),.cells (nq2 a9 b0),.cells (nq1 r17)]) (ac (cv (qd8 N V e_r17)) (ac (hs (.run [4] (qo ZT 108 (.ptr 4 0) (.agg (nq1 r17))) (kBQ n7 n8 (.cells (nq1 a):: .cells (nq2 a7 a8):: .cells (nq2 a9 b0)::(kD []))) .undef (kBQ n7 n8 [.cells (nq1 a),.cells (nq2 a7 a8),.cells (nq2 a9 b0),.cells (nq1 r17)]) true) (qI (n:=4) (by kernel_rfl) rfl rfl rfl rfl (cac rfl (cac nvc (cac rfl (cac nvc can)))) rfl)) az)) ?_)
 refine sq (Goes.block ?_)
 obtain⟨r54,g54,h⟩:=bnd h
 refine Goes.imp (Q:=fun x s'=>(x= .exit 0/\ ∃K L O P y z A B C D E F t u v w,(.inl (K,L,O,P,y,z,A,B,C,D,E,F,t,u,v,w))=r54/\Sub s' (ofG 117 (kAQ V [(7,.ptr 0 0),(8,.ptr 1 0),(9,.ptr 2 0)]),[.cells (nq1 a),.cells (ni4 K L O P y z A B),.cells (ni4 C D E F t u v w)]))\/(x= .ret/\ ∃q55,(.inr q55)=r54/\jY ZT [.tmp 4,.tmp 5] (.tuple (kA9 q55.1 q55.2)) .ret s')) ?_ ?_
 ·refine Goes.sub (s':=(ofG 117 (kAG V []),[.cells (nq1 a),.cells (nq2 a7 a8),.cells (nq2 a9 b0),.cells (nq1 r17)])) (Sub.norm [] [some 1,some 2,some 3,some 4] rfl rfl (.keep (.same nS) (.kp (.kp (.kp (.kp .nil))))) (.kb rfl (.same sn) (.kb rfl (.same sn) (.kb rfl (.same sn) (.kb rfl (.same sn) .nil))))) ?_
  refine Uc (fun M s=> ∃(Y:Int) (Z:List Int) (a0:Int) (a1:List Int) (a2:Int) (a3:List Int) (a4:Int) (a5:List Int) (f:Int) (g:List Int) (j:Int) (k:List Int) (o:Int) (p:List Int) (q:Int) (r:List Int) (G:Int) (H:List Int) (I:Int) (J:List Int),s=(ofG 117 (kAG V []),[.cells (nq1 a),.cells (ni4 Y Z a0 a1 a2 a3 a4 a5),.cells (ni4 f g j k o p q r),.cells (ni2 G H I J)])/\zG N a M Y Z a0 a1 a2 a3 a4 a5 f g j k o p q r G H I J=some r54) ?_ (m:=N) ⟨_,_,_,_,_,_,_,_,_,_,_,_,_,_,_,_,_,_,_,_,rfl,g54⟩
  rintro M s ⟨Y,Z,a0,a1,a2,a3,a4,a5,f,g,j,k,o,p,q,r,G,H,I,J,rfl,g54⟩
  cases M with
  |zero=>simp only[zG]at g54;cases g54
  |succ M=>
   rw[zG]at g54
   refine Goes.block ?_
   obtain⟨U,e_r56,g54⟩:=bnd g54
   refine sq (gq fol [1,3] (kAG V [(11,.ptr 4 0)]) [.cells (nq1 a),.cells (ni4 Y Z a0 a1 a2 a3 a4 a5),.cells (ni4 f g j k o p q r),.cells (ni2 G H I J),.cells (nq1 U)] (ac (cv (qdz N (⟨(⟨G,H⟩:qf),(⟨I,J⟩:qf)⟩:qm) e_r56)) (ac (hs (.run [4] (qo ZT 108 (.ptr 4 0) (.agg (nq1 U))) (.cells (nq1 a):: .cells (ni4 Y Z a0 a1 a2 a3 a4 a5):: .cells (ni4 f g j k o p q r):: .cells (ni2 G H I J)::(kD [])) .undef [.cells (nq1 a),.cells (ni4 Y Z a0 a1 a2 a3 a4 a5),.cells (ni4 f g j k o p q r),.cells (ni2 G H I J),.cells (nq1 U)] true) (qI (n:=4) (by kernel_rfl) rfl rfl rfl rfl (cac rfl (cac nvc (cac rfl (cac nvc can)))) rfl)) az)) ?_)
   obtain⟨b,e_r57,g54⟩:=bnd g54
   refine sq (gq fol [3,5] (kAG V [(11,.ptr 4 0),(12,.ptr 5 0)]) [.cells (nq1 a),.cells (ni4 Y Z a0 a1 a2 a3 a4 a5),.cells (ni4 f g j k o p q r),.cells (ni2 G H I J),.cells (nq1 U),.cells (nq2 b.n b.d)] (ac (cv (qaH N (⟨(⟨(⟨f,g⟩:qf),(⟨j,k⟩:qf)⟩:qm),(⟨(⟨o,p⟩:qf),(⟨q,r⟩:qf)⟩:qm)⟩:jk) U (⟨(⟨(⟨Y,Z⟩:qf),(⟨a0,a1⟩:qf)⟩:qm),(⟨(⟨a2,a3⟩:qf),(⟨a4,a5⟩:qf)⟩:qm)⟩:jk) e_r57)) (ac (hs (.run [5] (qo ZT 113 (.ptr 5 0) (.agg (nq2 b.n b.d))) (.cells (nq1 a):: .cells (ni4 Y Z a0 a1 a2 a3 a4 a5):: .cells (ni4 f g j k o p q r):: .cells (ni2 G H I J):: .cells (nq1 U)::(kAI [])) .undef [.cells (nq1 a),.cells (ni4 Y Z a0 a1 a2 a3 a4 a5),.cells (ni4 f g j k o p q r),.cells (ni2 G H I J),.cells (nq1 U),.cells (nq2 b.n b.d)] true) (qI (n:=8) (by kernel_rfl) rfl rfl rfl rfl (cac rfl (cac nvc (cac rfl (cac nvc (cac rfl (cac nvc (cac rfl (cac nvc can)))))))) rfl)) az)) ?_)
   refine sq ?_
   obtain⟨r58,e_r58,g54⟩:=bnd g54
   refine sq (gr fol [3] (kAG V [(11,.ptr 4 0),(12,.ptr 5 0),(51,.bool (decide (r58>0)))]) (ac (cv (xw N b.d a e_r58)) az) ?_)
   refine ihD g54 (fun c59 g54=>?_) (fun c59 g54=>?_)
   ·refine Goes.exit ?_
    obtain rfl:=si g54
    exact Or.inl (⟨rfl,_,_,_,_,_,_,_,_,_,_,_,_,_,_,_,_,rfl,(Sub.norm [] [some 0,some 1,some 2] rfl rfl (.keep (.same nS) (.kp (.kp (.kp .nil)))) (.kb rfl (.same sn) (.kb rfl (.same sn) (.kb rfl (.same sn) .nil))))⟩)
   refine Goes.skip ?_
   refine sq (gq fol [2,3] (kAG V [(11,.ptr 4 0)]) [.cells (nq1 a),.cells (ni4 f g j k o p q r),.cells (nq2 b.n b.d),.cells (ni2 G H I J),.cells (nq1 U),.cells (nq2 b.n b.d)] (ac (hs (.run [1] (qo ZT 113 (.ptr 1 0) (.agg (ni4 f g j k o p q r))) [.cells (nq1 a),.cells (ni4 Y Z a0 a1 a2 a3 a4 a5),.cells (ni4 f g j k o p q r),.cells (ni2 G H I J),.cells (nq1 U),.cells (nq2 b.n b.d)] .undef [.cells (nq1 a),.cells (ni4 f g j k o p q r),.cells (ni4 f g j k o p q r),.cells (ni2 G H I J),.cells (nq1 U),.cells (nq2 b.n b.d)] true) (qI (n:=8) (by kernel_rfl) rfl rfl rfl rfl (cac rfl (cac nvc (cac rfl (cac nvc (cac rfl (cac nvc (cac rfl (cac nvc can)))))))) rfl)) (ac (hs (.run [2] (qo ZT 113 (.ptr 2 0) (.agg (nq2 b.n b.d))) [.cells (nq1 a),.cells (ni4 f g j k o p q r),.cells (ni4 f g j k o p q r),.cells (ni2 G H I J),.cells (nq1 U),.cells (nq2 b.n b.d)] .undef [.cells (nq1 a),.cells (ni4 f g j k o p q r),.cells (nq2 b.n b.d),.cells (ni2 G H I J),.cells (nq1 U),.cells (nq2 b.n b.d)] true) (qI (n:=8) (by kernel_rfl) rfl rfl rfl rfl (cac rfl (cac nvc (cac rfl (cac nvc (cac rfl (cac nvc (cac rfl (cac nvc can)))))))) rfl)) az)) ?_)
   refine sq ?_
   obtain⟨r60,e_r60,g54⟩:=bnd g54
   refine sq (gr fol [2] (kAG V [(11,.ptr 4 0),(57,.bool (decide (r60=0)))]) (ac (cv (xw N (⟨(⟨G,H⟩:qf),(⟨I,J⟩:qf)⟩:qm) U e_r60)) az) ?_)
   refine ihD g54 (fun c61 g54=>?_) (fun c61 g54=>?_)
   ·obtain⟨r62,e_r62,g54⟩:=bnd g54
    obtain⟨r63,e_r63,g54⟩:=bnd g54
    refine sq (gr fol [4,5] ((4,.str r63.1)::(kA5 r63.2)) (ac (cv (qax N b.n b.d e_r62)) (ac (cv (qcS N r62 e_r63)) az)) ?_)
    refine Goes.ret ?_
    obtain rfl:=si g54
    exact Or.inr (⟨rfl,_,rfl,(gw2 (kA9 r63.1 r63.2) (FzW.tuple (qd.cons (Ua tS) (qd.cons (Ua tI) qd.nil))))⟩)
   refine Goes.skip ?_
   obtain⟨r64,e_r64,g54⟩:=bnd g54
   obtain⟨r65,e_r65,g54⟩:=bnd g54
   refine gq fol [2,3,4] (kAG V []) [.cells (nq1 a),.cells (ni4 f g j k o p q r),.cells (nq2 b.n b.d),.cells (nq1 r65),.cells (nq1 U),.cells (nq2 b.n b.d)] (ac (cv (qaz N (⟨(⟨G,H⟩:qf),(⟨I,J⟩:qf)⟩:qm) U e_r64)) (ac (cv (qdx N r64 e_r65)) (ac (hs (.run [3] (qo ZT 108 (.ptr 3 0) (.agg (nq1 r65))) [.cells (nq1 a),.cells (ni4 f g j k o p q r),.cells (nq2 b.n b.d),.cells (ni2 G H I J),.cells (nq1 U),.cells (nq2 b.n b.d)] .undef [.cells (nq1 a),.cells (ni4 f g j k o p q r),.cells (nq2 b.n b.d),.cells (nq1 r65),.cells (nq1 U),.cells (nq2 b.n b.d)] true) (qI (n:=4) (by kernel_rfl) rfl rfl rfl rfl (cac rfl (cac nvc (cac rfl (cac nvc can)))) rfl)) az))) ?_
   exact⟨M,(ofG 117 (kAG V []),[.cells (nq1 a),.cells (ni4 f g j k o p q r),.cells (nq2 b.n b.d),.cells (nq1 r65)]),Nat.lt_succ_self _,(Sub.norm [] [some 0,some 1,some 2,some 3] rfl rfl (.keep (.same nS) (.kp (.kp (.kp (.kp .nil))))) (.kb rfl (.same sn) (.kb rfl (.same sn) (.kb rfl (.same sn) (.kb rfl (.same sn) .nil))))),_,_,_,_,_,_,_,_,_,_,_,_,_,_,_,_,_,_,_,_,rfl,g54⟩
 rintro x s' (⟨rfl,K,L,O,P,y,z,A,B,C,D,E,F,t,u,v,w,rfl,hsub⟩|⟨rfl,q87,rfl,hret⟩)
 ·try dsimp only at h
  refine Goes.sub hsub ?_
  obtain⟨r66,e_r66,h⟩:=bnd h
  obtain⟨r67,e_r67,h⟩:=bnd h
  obtain⟨r68,e_r68,h⟩:=bnd h
  obtain⟨e,e_r69,h⟩:=bnd h
  refine sq (gq fol [4,7,8,10,12] (kAQ V [(9,.ptr 2 0),(13,.ptr 3 0)]) [.cells (nq1 a),.cells (ni4 K L O P y z A B),.cells (ni4 C D E F t u v w),.cells (nq2 e.n e.d)] (ac (cv (qaz N a (⟨(⟨y,z⟩:qf),(⟨A,B⟩:qf)⟩:qm) e_r66)) (ac (cv (qax N r66 (⟨(⟨t,u⟩:qf),(⟨v,w⟩:qf)⟩:qm) e_r67)) (ac (cv (qdz N r67 e_r68)) (ac (cv (qaH N (⟨(⟨(⟨C,D⟩:qf),(⟨E,F⟩:qf)⟩:qm),(⟨(⟨t,u⟩:qf),(⟨v,w⟩:qf)⟩:qm)⟩:jk) r68 (⟨(⟨(⟨K,L⟩:qf),(⟨O,P⟩:qf)⟩:qm),(⟨(⟨y,z⟩:qf),(⟨A,B⟩:qf)⟩:qm)⟩:jk) e_r69)) (ac (hs (.run [3] (qo ZT 113 (.ptr 3 0) (.agg (nq2 e.n e.d))) (.cells (nq1 a):: .cells (ni4 K L O P y z A B):: .cells (ni4 C D E F t u v w)::(kAI [])) .undef [.cells (nq1 a),.cells (ni4 K L O P y z A B),.cells (ni4 C D E F t u v w),.cells (nq2 e.n e.d)] true) (qI (n:=8) (by kernel_rfl) rfl rfl rfl rfl (cac rfl (cac nvc (cac rfl (cac nvc (cac rfl (cac nvc (cac rfl (cac nvc can)))))))) rfl)) az))))) ?_)
  obtain⟨a6,e_r70,h⟩:=bnd h
  obtain⟨X,e_r71,h⟩:=bnd h
  refine sq (gq fol [4,9,12,13] (kAQ V ((9,.ptr 2 0)::(13,.ptr 3 0)::(kBW []))) [.cells (nq1 a),.cells (ni4 K L O P y z A B),.cells (ni4 C D E F t u v w),.cells (nq2 e.n e.d),.cells (nq1 a6),.cells (nq1 X)] (ac (cv (qax N (⟨(⟨C,D⟩:qf),(⟨E,F⟩:qf)⟩:qm) (⟨(⟨t,u⟩:qf),(⟨v,w⟩:qf)⟩:qm) e_r70)) (ac (cv (qax N e.n e.d e_r71)) (ac (hs (.run [4] (qo ZT 108 (.ptr 4 0) (.agg (nq1 a6))) (.cells (nq1 a):: .cells (ni4 K L O P y z A B):: .cells (ni4 C D E F t u v w):: .cells (nq2 e.n e.d)::(kD (kD []))) .undef (.cells (nq1 a):: .cells (ni4 K L O P y z A B):: .cells (ni4 C D E F t u v w):: .cells (nq2 e.n e.d):: .cells (nq1 a6)::(kD [])) true) (qI (n:=4) (by kernel_rfl) rfl rfl rfl rfl (cac rfl (cac nvc (cac rfl (cac nvc can)))) rfl)) (ac (hs (.run [5] (qo ZT 108 (.ptr 5 0) (.agg (nq1 X))) (.cells (nq1 a):: .cells (ni4 K L O P y z A B):: .cells (ni4 C D E F t u v w):: .cells (nq2 e.n e.d):: .cells (nq1 a6)::(kD [])) .undef [.cells (nq1 a),.cells (ni4 K L O P y z A B),.cells (ni4 C D E F t u v w),.cells (nq2 e.n e.d),.cells (nq1 a6),.cells (nq1 X)] true) (qI (n:=4) (by kernel_rfl) rfl rfl rfl rfl (cac rfl (cac nvc (cac rfl (cac nvc can)))) rfl)) az)))) ?_)
  obtain⟨r72,e_r72,h⟩:=bnd h
  obtain⟨r73,e_r73,h⟩:=bnd h
  obtain⟨r74,e_r74,h⟩:=bnd h
  obtain⟨r75,e_r75,h⟩:=bnd h
  obtain⟨b1,e_r76,h⟩:=bnd h
  obtain⟨b2,e_r77,h⟩:=bnd h
  obtain⟨b3,e_r78,h⟩:=bnd h
  obtain⟨r79,e_r79,h⟩:=bnd h
  refine sq (gq fol [2,3,6,7,8,13,16,18] (kBW [(16,.i r79)]) [.cells (nq1 a),.cells (ni4 K L O P y z A B),.cells (ni4 C D E F t u v w),.cells (nq2 e.n e.d),.cells (nq1 a6),.cells (nq1 X),.cells [.i b1,.i b2,.i b3]] (ac (cv (qd8 N V e_r72)) (ac (cv (qeG N a6 r72 e_r73)) (ac (cv (qd8 N V e_r74)) (ac (cv (qeG N X r74 e_r75)) (ac (cv (xw N r73 r75 e_r76)) (ac (cv (xw N (⟨(⟨t,u⟩:qf),(⟨v,w⟩:qf)⟩:qm) e.d e_r77)) (ac (cv (xw N a6 X e_r78)) (ac (hs (.call 91 [.slice 6 0 3 3 1] [.cells (nq1 a),.cells (ni4 K L O P y z A B),.cells (ni4 C D E F t u v w),.cells (nq2 e.n e.d),.cells (nq1 a6),.cells (nq1 X),.cells [.i b1,.i b2,.i b3]] [6] [vl encI ([b1,b2,b3]:List Int)] (.i r79)) (qfQ (FzL.cons (Fz.lit rfl rfl (Uf (AllST.cons tI (AllST.cons tI (AllST.cons tI AllST.nil))))) FzL.nil) (qh2 N ([b1,b2,b3]:List Int) e_r79) tI rfl)) az)))))))) ?_)
  refine sq ?_
  refine sh fol (kBW [(111,.bool (decide (r79>0)))]) ?_
  obtain⟨r84,g84,h⟩:=bnd h
  refine Goes.imp (Q:=fun x s'=>(x= .normal/\ ∃n80 l81 n82 l83,(n80,l81,n82,l83)=r84/\Sub s' (ofG 117 [(14,.ptr 0 0)],[.cells (ni2 n80 l81 n82 l83)]))) ?_ ?_
  ·refine ihD g84 (fun c85 g84=>?_) (fun c85 g84=>?_)
   ·refine gq fol [1] [(14,.ptr 4 0)] [.cells (nq1 a),.cells (ni4 K L O P y z A B),.cells (ni4 C D E F t u v w),.cells (nq2 e.n e.d),.cells (nq1 X),.cells (nq1 X),.cells [.i b1,.i b2,.i b3]] (ac (hs (.run [4] (qo ZT 108 (.ptr 4 0) (.agg (nq1 X))) [.cells (nq1 a),.cells (ni4 K L O P y z A B),.cells (ni4 C D E F t u v w),.cells (nq2 e.n e.d),.cells (nq1 a6),.cells (nq1 X),.cells [.i b1,.i b2,.i b3]] .undef [.cells (nq1 a),.cells (ni4 K L O P y z A B),.cells (ni4 C D E F t u v w),.cells (nq2 e.n e.d),.cells (nq1 X),.cells (nq1 X),.cells [.i b1,.i b2,.i b3]] true) (qI (n:=4) (by kernel_rfl) rfl rfl rfl rfl (cac rfl (cac nvc (cac rfl (cac nvc can)))) rfl)) az) ?_
    obtain rfl:=si g84
    exact⟨rfl,_,_,_,_,rfl,(Sub.norm [] [some 4] rfl rfl (.kp .nil) (.kb rfl (.same sn) .nil))⟩
   refine Goes.skip ?_
   obtain rfl:=si g84
   exact⟨rfl,_,_,_,_,rfl,(Sub.norm [] [some 4] rfl rfl (.kp .nil) (.kb rfl (.same sn) .nil))⟩
  rintro x s' ⟨rfl,n80,l81,n82,l83,rfl,hsub⟩
  try dsimp only at h
  refine Goes.sub hsub ?_
  obtain⟨r86,e_r86,h⟩:=bnd h
  refine sq (gr fol [1] ((4,.str r86.1)::(kA5 r86.2)) (ac (cv (qcS N (⟨(⟨n80,l81⟩:qf),(⟨n82,l83⟩:qf)⟩:qm) e_r86)) az) ?_)
  refine Goes.ret ?_
  obtain rfl:=si h
  exact(gw2 (kA9 r86.1 r86.2) (FzW.tuple (qd.cons (Ua tS) (qd.cons (Ua tI) qd.nil))))
 try dsimp only at h
 obtain rfl:=si h
 exact hret
def yz (N:Nat) (n:Int):Option Str:=
 (vK N n).bind fun a=>
 (xV N a).bind fun b=>
 some b
theorem qa9 (N:Nat) (n:Int) {res:Str} (h:yz N n=some res):qb ZT (.fn 34) [.i n] [] (.str res) []:=by
 unfold yz at h
 refine Ub Tryz.func34 rfl rfl (m:=6) rfl (rs:=[.tmp 2]) rfl (l:=[(0,.i n)]) rfl ?_
 refine sh fol [(0,.i n)] ?_
 obtain⟨d,a,h⟩:=bnd h
 obtain⟨c,b,h⟩:=bnd h
 refine sq (gr fol [1,2] (kBs c) (ac (cv (qaY N n a)) (ac (cv (qbi N d b)) az)) ?_)
 refine Goes.ret ?_
 obtain rfl:=si h
 exact(gw2 [.str c] (Ua tS))
def qcM (N:Nat) (a:Str) (digits:Int):Option Bool:=
 (if(a.length:Int)<=(w64 ((w64 (2*digits))+2))then
 (qad N a).bind fun b=>
 if b=0 then
 (qcU N a).bind fun c=>
 (xC c).bind fun d=>
 if(d.length:Int)<=digits then
 (qaj N a).bind fun e=>
 some (decide ((e.length:Int)<=digits))
 else
 some false
 else
 some false
 else
 some false:Option Bool).bind fun f=>
 some f
theorem qdn (N:Nat) (a:Str) (digits:Int) {res:Bool} (h:qcM N a digits=some res):qb ZT (.fn 22) (kA9 a digits) [] (.bool res) []:=by
 unfold qcM at h
 refine Ub Tryz.func22 rfl rfl (m:=31) rfl (rs:=[.tmp 4]) rfl (l:=(kAQ a [(1,.i digits)])) rfl ?_
 refine sh fol (kAQ a [(1,.i digits)]) ?_
 refine sq ?_
 obtain⟨n,b,h⟩:=bnd h
 refine Goes.cut (s':=(ofG 31 (kAl n),[])) ?_ ?_
 ·rcases wyD b with⟨f,b⟩|⟨f,b⟩
  ·obtain⟨q,c,b⟩:=bnd b
   rcases wyD b with⟨j,b⟩|⟨j,b⟩
   ·obtain⟨o,d,b⟩:=bnd b
    obtain⟨r,e,b⟩:=bnd b
    rcases wyD b with⟨k,b⟩|⟨k,b⟩
    ·obtain⟨p,g,b⟩:=bnd b
     obtain rfl:=si b
     exact tr fol [6,8,11,13,14,19,21] (kAl (decide ((p.length:Int)<=digits))) (ac (gw f) (ac (cv (yM N a c)) (ac (gw j) (ac (cv (qe4 N a d)) (ac (cv (qaR o e)) (ac (gw k) (ac (cv (qbI N a g)) az)))))))
    obtain rfl:=si b
    exact tr fol [6,8,11,13,14,19] kAT (ac (gw f) (ac (cv (yM N a c)) (ac (gw j) (ac (cv (qe4 N a d)) (ac (cv (qaR o e)) (ac (gw k) az))))))
   obtain rfl:=si b
   exact tr fol [6,8,11] kAT (ac (gw f) (ac (cv (yM N a c)) (ac (gw j) az)))
  obtain rfl:=si b
  exact tr fol [6] kAT (ac (gw f) az)
 refine Goes.ret ?_
 obtain rfl:=si h
 exact(gw2 [.bool n] (Ua tB))
def zQ (d:qB):Nat->Int->Int->Option (Int⊕(Int×Bool))
 |0,_,_=>none
 |K+1,b,e=>
  if e>=0 then
  (idx d.w e).bind fun c=>
  ((if d.neg=true then
  some (w64 (0-c))
  else
  some c:Option Int)).bind fun a=>
  (if b>9223372036 then
  some true
  else
  if b<(-9223372036)then
  some true
  else
  if b=9223372036 then
  if a>854775807 then
  some true
  else
  if b=(-9223372036)then
  some (decide (a<(-854775808)))
  else
  some false
  else
  if b=(-9223372036)then
  some (decide (a<(-854775808)))
  else
  some false:Option Bool).bind fun f=>
  if f=true then
  some (.inr (0,false))
  else
  zQ d K (w64 ((w64 (b*1000000000))+a)) (w64 (e-1))
  else
  some (.inl b)
def y7 (N:Nat) (a:Str):Option (Int×Bool):=
 ((vI N a).bind fun d=>
 if(!d)=true then
 some true
 else
 some (decide ((a.length:Int)>20)):Option Bool).bind fun e=>
 if e=true then
 some (0,false)
 else
 (yw N a).bind fun c=>
 (zQ c N 0 (w64 ((c.w.length:Int)-1))).bind (fun
 |(.inl f)=>
 some (f,true)
 |(.inr b)=>
 some b)
theorem qcl (N:Nat) (a:Str) {res:Int×Bool} (h:y7 N a=some res):qb ZT (.fn 31) [.str a] [] (.tuple [.i res.1,.bool res.2]) []:=by
 unfold y7 at h
 refine Ub Tryz.func31 rfl rfl (m:=62) rfl (rs:=[.tmp 2,.tmp 3]) rfl (l:=(kAQ a [])) rfl ?_
 refine sh fol (kAQ a []) ?_
 refine sq ?_
 refine sq ?_
 obtain⟨H,d,h⟩:=bnd h
 refine Goes.cut (s':=(ofG 62 (kAQ a (kBa H)),[])) ?_ ?_
 ·obtain⟨K,q,d⟩:=bnd d
  rcases wyB d with⟨B,d⟩|⟨B,d⟩
  ·obtain rfl:=si d
   exact tr fol [1,3] (kAQ a [(15,.bool true)]) (ac (cv (qbb N a q)) (ac (gw B) az))
  obtain rfl:=si d
  exact tr fol [1,3] (kAQ a (kBa (decide ((a.length:Int)>20)))) (ac (cv (qbb N a q)) (ac (gw B) az))
 refine ihB h (fun I h=>?_) (fun I h=>?_)
 ·refine sh fol [(2,.i 0),(3,.bool false)] ?_
  refine Goes.ret ?_
  obtain rfl:=si h
  exact(gw2 [.i 0,.bool false] (FzW.tuple (qd.cons (Ua tI) (qd.cons (Ua tB) qd.nil))))
 refine Goes.skip ?_
 obtain⟨k,z,h⟩:=bnd h
 refine sq (gq fol [1] (kY []) (kAW k.neg k.w []) (ac (cv (qaV N a z)) az) ?_)
 refine sh fol (kY [(5,.i 0)]) ?_
 refine sq ?_
 refine sh fol (kY ((5,.i 0)::(kB4 (w64 ((k.w.length:Int)-1))))) ?_
 refine Goes.block ?_
 obtain⟨r,g10,h⟩:=bnd h
 refine Goes.imp (Q:=fun x s'=>(x= .exit 0/\ ∃A,(.inl A)=r/\Sub s' (ofG 62 (kA5 A),[]))\/(x= .ret/\ ∃t,(.inr t)=r/\jY ZT [.tmp 2,.tmp 3] (.tuple [.i t.1,.bool t.2]) .ret s')) ?_ ?_
 ·refine Uc (fun M s=> ∃(f:Int) (e:Int),s=(ofG 62 (kY (kBf f e [])),(kAW k.neg k.w []))/\zQ k M f e=some r) ?_ (m:=N) ⟨_,_,rfl,g10⟩
  rintro M s ⟨f,e,rfl,g10⟩
  cases M with
  |zero=>simp only[zQ]at g10;cases g10
  |succ M=>
   rw[zQ]at g10
   refine sq ?_
   refine sh fol (kY (kBf f e [(23,.bool (decide (e>=0)))])) ?_
   refine ihD g10 (fun C g10=>?_) (fun C g10=>?_)
   ·refine Goes.skip ?_
    refine sq (Goes.block ?_)
    obtain⟨u,o,g10⟩:=bnd g10
    refine sq (gr fol [3,4] (kY ((5,.i f)::(kAV e u []))) (ac (iv jB encI o) (ac (lv 0 ce3 encI o rfl) az)) ?_)
    refine sq ?_
    refine sh fol (kY ((5,.i f)::(kAV e u [(32,.bool k.neg)]))) ?_
    obtain⟨D,g15,g10⟩:=bnd g10
    refine Goes.imp (Q:=fun x s'=>(x= .normal/\ ∃c,c=D/\Sub s' (ofG 62 (kY ((5,.i f)::(kAV e c []))),(kAW k.neg k.w [])))) ?_ ?_
    ·refine ihB g15 (fun E g15=>?_) (fun E g15=>?_)
     ·refine gh fol (kY ((5,.i f)::(kAV e (w64 (0-u)) []))) ?_
      obtain rfl:=si g15
      exact⟨rfl,_,rfl,(Sub.refl _)⟩
     refine Goes.skip ?_
     obtain rfl:=si g15
     exact⟨rfl,_,rfl,(Sub.keep [4,5,6,7] rfl rfl)⟩
    rintro x s' ⟨rfl,c,rfl,hsub⟩
    refine Goes.sub hsub ?_
    refine sq ?_
    refine sq ?_
    obtain⟨F,b,g10⟩:=bnd g10
    refine Goes.cut (s':=(ofG 62 (kY ((5,.i f)::(kAV e c [(56,.bool F)]))),(kAW k.neg k.w []))) ?_ ?_
    ·rcases wyD b with⟨g,b⟩|⟨g,b⟩
     ·obtain rfl:=si b
      exact tr fol [2] (kY ((5,.i f)::(kAV e c [(56,.bool true)]))) (ac (gw g) az)
     rcases wyD b with⟨j,b⟩|⟨j,b⟩
     ·obtain rfl:=si b
      exact tr fol [2,6] (kY ((5,.i f)::(kAV e c [(56,.bool true)]))) (ac (gw g) (ac (gw j) az))
     rcases wyD b with⟨n,b⟩|⟨n,b⟩
     ·rcases wyD b with⟨p,b⟩|⟨p,b⟩
      ·obtain rfl:=si b
       exact tr fol [2,6,9,14] (kY ((5,.i f)::(kAV e c [(56,.bool true)]))) (ac (gw g) (ac (gw j) (ac (gw n) (ac (gw p) az))))
      rcases wyD b with⟨v,b⟩|⟨v,b⟩
      ·obtain rfl:=si b
       exact tr fol [2,6,9,14,17] (kY ((5,.i f)::(kAV e c [(56,.bool (decide (c<(-854775808))))]))) (ac (gw g) (ac (gw j) (ac (gw n) (ac (gw p) (ac (gw v) az)))))
      obtain rfl:=si b
      exact tr fol [2,6,9,14,17] (kY ((5,.i f)::(kAV e c [(56,.bool false)]))) (ac (gw g) (ac (gw j) (ac (gw n) (ac (gw p) (ac (gw v) az)))))
     rcases wyD b with⟨y,b⟩|⟨y,b⟩
     ·obtain rfl:=si b
      exact tr fol [2,6,9,17] (kY ((5,.i f)::(kAV e c [(56,.bool (decide (c<(-854775808))))]))) (ac (gw g) (ac (gw j) (ac (gw n) (ac (gw y) az))))
     obtain rfl:=si b
     exact tr fol [2,6,9,17] (kY ((5,.i f)::(kAV e c [(56,.bool false)]))) (ac (gw g) (ac (gw j) (ac (gw n) (ac (gw y) az))))
    refine ihB g10 (fun G g10=>?_) (fun G g10=>?_)
    ·refine sh fol [(2,.i 0),(3,.bool false)] ?_
     refine Goes.ret ?_
     obtain rfl:=si g10
     exact Or.inr (⟨rfl,_,rfl,(gw2 [.i 0,.bool false] (FzW.tuple (qd.cons (Ua tI) (qd.cons (Ua tB) qd.nil))))⟩)
    refine Goes.skip ?_
    refine gh fol (kY (kBf (w64 ((w64 (f*1000000000))+c)) e [])) ?_
    refine gh fol (kY (kBf (w64 ((w64 (f*1000000000))+c)) (w64 (e-1)) [])) ?_
    exact⟨M,(ofG 62 (kY (kBf (w64 ((w64 (f*1000000000))+c)) (w64 (e-1)) [])),(kAW k.neg k.w [])),Nat.lt_succ_self _,(Sub.refl _),_,_,rfl,g10⟩
   refine Goes.exit ?_
   obtain rfl:=si g10
   exact Or.inl (⟨rfl,_,rfl,(Sub.norm [] [] rfl rfl (.drop (.keep (.same nI) .nil)) .nil)⟩)
 rintro x s' (⟨rfl,A,rfl,hsub⟩|⟨rfl,J,rfl,hret⟩)
 ·try dsimp only at h
  refine Goes.sub hsub ?_
  refine sh fol [(2,.i A),(3,.bool true)] ?_
  refine Goes.ret ?_
  obtain rfl:=si h
  exact(gw2 [.i A,.bool true] (FzW.tuple (qd.cons (Ua tI) (qd.cons (Ua tB) qd.nil))))
 try dsimp only at h
 obtain rfl:=si h
 exact hret
end Go.Av
