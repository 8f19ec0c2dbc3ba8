/-
  Walks of functions: what each computes, as a plain function.
-/
import Derived.Test.YtmjcpcnaaolliaaGreatDoorQGenH2
noncomputable section
namespace Go.Av
open Go.Proofs Go.RowKit
set_option linter.unusedSectionVars false
set_option linter.unusedVariables false
set_option linter.unusedSimpArgs false
set_option maxRecDepth 100000
def qar (N:Nat) (a:qj) (b:qj):Option Int:=
 (if a.w.isEmpty=true then
 some b.w.isEmpty
 else
 some false:Option Bool).bind fun c=>
 if c=true then
 if a.s<b.s then
 some (-1)
 else
 if a.s>b.s then
 some 1
 else
 some 0
 else
 (yO N a b).bind fun d=>
 (qV d).bind fun e=>
 some e
theorem qdb (N:Nat) (a:qj) (b:qj) {res:Int} (h:qar N a b=some res):qb ZT (.fn 167) [.agg (nz1 a),.agg (nz1 b)] [] (.i res) []:=by
 unfold qar at h
 refine Ub Tryz.func167 rfl rfl (m:=29) rfl (rs:=[.tmp 4]) rfl (l:=[(0,.agg (nz1 a)),(1,.agg (nz1 b))]) rfl ?_
 refine sg fol (kV (kAz [])) [.cells (nz1 a),.cells (nz1 b)] ?_
 refine sq ?_
 refine sq ?_
 obtain⟨j,c,h⟩:=bnd h
 refine Goes.cut (s':=(ofG 29 (kV (kAz (kAq j))),[.cells (nz1 a),.cells (nz1 b)])) ?_ ?_
 ·rcases wyB c with⟨f,c⟩|⟨f,c⟩
  ·obtain rfl:=si c
   exact tr fol [2,3,6] (kV (kAz (kAq b.w.isEmpty))) (ac (hs (.done (.opt (zy ZT .eql 93 (.tmp 6) (.const (.slice none 0 0)) (nvl (qa .u64) a.w) .nilslice)) (.bool a.w.isEmpty)) (qab xY)) (ac (gw f) (ac (hs (.done (.opt (zy ZT .eql 93 (.tmp 10) (.const (.slice none 0 0)) (nvl (qa .u64) b.w) .nilslice)) (.bool b.w.isEmpty)) (qab xY)) az)))
  obtain rfl:=si c
  exact tr fol [2,3] (kV (kAz [(12,.bool false)])) (ac (hs (.done (.opt (zy ZT .eql 93 (.tmp 6) (.const (.slice none 0 0)) (nvl (qa .u64) a.w) .nilslice)) (.bool a.w.isEmpty)) (qab xY)) (ac (gw f) az))
 refine ihB h (fun k h=>?_) (fun k h=>?_)
 ·refine sq (Goes.block ?_)
  refine sh fol (kV (kAz [(13,.bool (decide (a.s<b.s)))])) ?_
  refine ihD h (fun n h=>?_) (fun n h=>?_)
  ·refine sh fol [(4,.i (-1))] ?_
   refine Goes.ret ?_
   obtain rfl:=si h
   exact(gw2 [.i (-1)] (Ua tI))
  refine sh fol [(19,.bool (decide (a.s>b.s)))] ?_
  refine ihD h (fun o h=>?_) (fun o h=>?_)
  ·refine sh fol [(4,.i 1)] ?_
   refine Goes.ret ?_
   obtain rfl:=si h
   exact(gw2 [.i 1] (Ua tI))
  refine Goes.skip ?_
  refine sh fol [(4,.i 0)] ?_
  refine Goes.ret ?_
  obtain rfl:=si h
  exact(gw2 [.i 0] (Ua tI))
 refine Goes.skip ?_
 obtain⟨p,d,h⟩:=bnd h
 obtain⟨g,e,h⟩:=bnd h
 refine sq (gr fol [2,3] [(4,.i g)] (ac (cv (qdw N a b d)) (ac (cv (vQ p e)) az)) ?_)
 refine Goes.ret ?_
 obtain rfl:=si h
 exact(gw2 [.i g] (Ua tI))
def yR (N:Nat) (a:Str):Option Int:=
 (strings_CutPrefix a [45]).bind fun r=>
 (strings_Cut r.1 [47]).bind fun b=>
 ((jm b.1).bind fun t=>
 if t=true then
 if(!r.2)=true then
 some true
 else
 some (!(b.1==[48]))
 else
 some false:Option Bool).bind fun s=>
 ((if b.2.2=true then
 (if s=true then
 (jm b.2.1).bind fun g=>
 if g=true then
 if(!(b.2.1==[48]))=true then
 some (!(b.2.1==[49]))
 else
 some false
 else
 some false
 else
 some false:Option Bool).bind fun h=>
 some h
 else
 some s:Option Bool)).bind fun u=>
 ((qZ (!u) 1).bind fun c=>
 if(b.1.length:Int)>600 then
 (qZ true 4).bind fun d=>
 (jZ N ([c,d]:List Int)).bind fun i=>
 some (c,d,i)
 else
 (qZ (decide ((b.2.1.length:Int)>600)) 4).bind fun e=>
 (jZ N ([c,e]:List Int)).bind fun j=>
 some (c,e,j):Option (Int×Int×Int)).bind fun(v,w,f)=>
 if(!decide (f=0))=true then
 some f
 else
 (if b.2.2=true then
 (qaF N b.1).bind fun k=>
 (qaF N b.2.1).bind fun l=>
 (qbU N k l).bind fun m=>
 (qbH 1).bind fun n=>
 (qar N m n).bind fun o=>
 some (!decide (o=0))
 else
 some false:Option Bool).bind fun p=>
 (qZ p 1).bind fun q=>
 some q
theorem qbd (N:Nat) (a:Str) {res:Int} (h:yR N a=some res):qb ZT (.fn 80) [.str a] [] (.i res) []:=by
 unfold yR at h
 refine Ub Tryz.func80 rfl rfl (m:=76) rfl (rs:=[.tmp 2]) rfl (l:=(kAI a)) rfl ?_
 refine sh fol (kAI a) ?_
 obtain⟨V,H,h⟩:=bnd h
 refine sq (gr fol [1] ((3,.str V.1)::(kAv V.2)) (ac (cv (qdK a [45] H)) az) ?_)
 obtain⟨e,I,h⟩:=bnd h
 refine sq (gr fol [1] ((4,.bool V.2)::(kAC e.1 e.2.1 e.2.2 [])) (ac (cv (qdI V.1 [47] I)) az) ?_)
 refine sq ?_
 obtain⟨b6,f,h⟩:=bnd h
 refine Goes.cut (s':=(ofG 76 (kAC e.1 e.2.1 e.2.2 [(8,.bool b6)]),[])) ?_ ?_
 ·obtain⟨r3,k,f⟩:=bnd f
  rcases wyB f with⟨X,f⟩|⟨X,f⟩
  ·rcases wyB f with⟨Y,f⟩|⟨Y,f⟩
   ·obtain rfl:=si f
    exact tr fol [1,2,5] (kAC e.1 e.2.1 e.2.2 [(8,.bool true)]) (ac (cv (ja e.1 k)) (ac (gw X) (ac (gw Y) az)))
   obtain rfl:=si f
   exact tr fol [1,2,5] (kAC e.1 e.2.1 e.2.2 [(8,.bool (!(e.1==[48])))]) (ac (cv (ja e.1 k)) (ac (gw X) (ac (gw Y) az)))
  obtain rfl:=si f
  exact tr fol [1,2] (kAC e.1 e.2.1 e.2.2 [(8,.bool false)]) (ac (cv (ja e.1 k)) (ac (gw X) az))
 refine sq ?_
 refine sh fol (kAC e.1 e.2.1 e.2.2 [(8,.bool b6),(32,.bool e.2.2)]) ?_
 obtain⟨r9,g9,h⟩:=bnd h
 refine Goes.imp (Q:=fun x s'=>(x= .normal/\ ∃J,J=r9/\Sub s' (ofG 76 (kAC e.1 e.2.1 e.2.2 [(8,.bool J)]),[]))) ?_ ?_
 ·refine ihB g9 (fun Z g9=>?_) (fun Z g9=>?_)
  ·obtain⟨a0,c,g9⟩:=bnd g9
   refine Goes.cut (s':=(ofG 76 (kAC e.1 e.2.1 e.2.2 [(8,.bool a0)]),[])) ?_ ?_
   ·rcases wyB c with⟨n,c⟩|⟨n,c⟩
    ·obtain⟨r12,j,c⟩:=bnd c
     rcases wyB c with⟨q,c⟩|⟨q,c⟩
     ·rcases wyB c with⟨t,c⟩|⟨t,c⟩
      ·obtain rfl:=si c
       exact tr fol [1,3,5,9] (kAC e.1 e.2.1 e.2.2 [(8,.bool (!(e.2.1==[49])))]) (ac (gw n) (ac (cv (ja e.2.1 j)) (ac (gw q) (ac (gw t) az))))
      obtain rfl:=si c
      exact tr fol [1,3,5,9] (kAC e.1 e.2.1 e.2.2 [(8,.bool false)]) (ac (gw n) (ac (cv (ja e.2.1 j)) (ac (gw q) (ac (gw t) az))))
     obtain rfl:=si c
     exact tr fol [1,3,5] (kAC e.1 e.2.1 e.2.2 [(8,.bool false)]) (ac (gw n) (ac (cv (ja e.2.1 j)) (ac (gw q) az)))
    obtain rfl:=si c
    exact tr fol [1] (kAC e.1 e.2.1 e.2.2 [(8,.bool false)]) (ac (gw n) az)
   obtain rfl:=si g9
   exact⟨rfl,_,rfl,(Sub.refl _)⟩
  refine Goes.skip ?_
  obtain rfl:=si g9
  exact⟨rfl,_,rfl,(Sub.keep [5,6,7,8] rfl rfl)⟩
 rintro x s' ⟨rfl,J,rfl,hsub⟩
 refine Goes.sub hsub ?_
 refine sq ?_
 refine sq ?_
 obtain⟨⟨K,L,o⟩,b,h⟩:=bnd h
 refine Goes.cut (s':=(ofG 76 (kAC e.1 e.2.1 e.2.2 [(9,.i o)]),(kAb K L))) ?_ ?_
 ·obtain⟨g,p,b⟩:=bnd b
  rcases wyD b with⟨u,b⟩|⟨u,b⟩
  ·obtain⟨r,v,b⟩:=bnd b
   obtain⟨M,w,b⟩:=bnd b
   simp only[ZI,ZP]at b
   obtain⟨rfl,rfl,rfl⟩:=b
   exact vL.rq fol [2,6,11,13] (kAC e.1 e.2.1 e.2.2 [(9,.i M)]) (kAb g r) (ac (cv (yu (!J) 1 p)) (ac (gw u) (ac (cv (yu true 4 v)) (ac (hs (.call 79 [.slice 0 0 2 2 1] (kAb g r) [0] [vl encI ([g,r]:List Int)] (.i M)) (qbc (FzL.cons (Fz.lit rfl rfl (Ue (AllST.cons tI (AllST.cons tI AllST.nil)))) FzL.nil) (qbg N ([g,r]:List Int) w) tI rfl)) az))))
  obtain⟨s,y,b⟩:=bnd b
  obtain⟨O,z,b⟩:=bnd b
  simp only[ZI,ZP]at b
  obtain⟨rfl,rfl,rfl⟩:=b
  exact vL.rq fol [2,6,11,13] (kAC e.1 e.2.1 e.2.2 [(9,.i O)]) (kAb g s) (ac (cv (yu (!J) 1 p)) (ac (gw u) (ac (cv (yu (decide ((e.2.1.length:Int)>600)) 4 y)) (ac (hs (.call 79 [.slice 0 0 2 2 1] (kAb g s) [0] [vl encI ([g,s]:List Int)] (.i O)) (qbc (FzL.cons (Fz.lit rfl rfl (Ue (AllST.cons tI (AllST.cons tI AllST.nil)))) FzL.nil) (qbg N ([g,s]:List Int) z) tI rfl)) az))))
 try dsimp only at h
 refine sh fol (kAC e.1 e.2.1 e.2.2 [(9,.i o),(61,.bool (!decide (o=0)))]) ?_
 refine ihB h (fun a1 h=>?_) (fun a1 h=>?_)
 ·refine sh fol (kAi o) ?_
  refine Goes.ret ?_
  obtain rfl:=si h
  exact(gw2 [.i o] (Ua tI))
 refine Goes.skip ?_
 refine sq ?_
 obtain⟨P,d,h⟩:=bnd h
 refine Goes.cut (s':=(ofG 76 [(10,.bool P)],(kAb K L))) ?_ ?_
 ·rcases wyB d with⟨A,d⟩|⟨A,d⟩
  ·obtain⟨a2,B,d⟩:=bnd d
   obtain⟨a3,C,d⟩:=bnd d
   obtain⟨a4,D,d⟩:=bnd d
   obtain⟨a5,E,d⟩:=bnd d
   obtain⟨a6,F,d⟩:=bnd d
   obtain rfl:=si d
   exact tr fol [1,3,5,6,7,8] [(10,.bool (!decide (a6=0)))] (ac (gw A) (ac (cv (qa4 N e.1 B)) (ac (cv (qa4 N e.2.1 C)) (ac (cv (qgP N a2 a3 D)) (ac (cv (qaQ 1 E)) (ac (cv (qdb N a4 a5 F)) az))))))
  obtain rfl:=si d
  exact tr fol [1] [(10,.bool false)] (ac (gw A) az)
 obtain⟨U,G,h⟩:=bnd h
 refine sq (gr fol [1] (kAi U) (ac (cv (yu P 1 G)) az) ?_)
 refine Goes.ret ?_
 obtain rfl:=si h
 exact(gw2 [.i U] (Ua tI))
def qac (a:qG):Option Int:=
 (qV a.Num).bind fun b=>
 some b
theorem qfc (a:qG) {res:Int} (h:qac a=some res):qb ZT (.fn 123) [.agg (nq1 a)] [] (.i res) []:=by
 unfold qac at h
 refine Ub Tryz.func123 rfl rfl (m:=6) rfl (rs:=[.tmp 2]) rfl (l:=[(0,.agg (nq1 a))]) rfl ?_
 refine sg fol (kAY []) [.cells (nq1 a)] ?_
 obtain⟨c,b,h⟩:=bnd h
 refine sq (gr fol [2] (kAi c) (ac (cv (vQ a.Num b)) az) ?_)
 refine Goes.ret ?_
 obtain rfl:=si h
 exact(gw2 [.i c] (Ua tI))
def qao (N:Nat) (a:Str) (sign:Int):Option Int:=
 (yR N a).bind fun b=>
 if(!decide (b=0))=true then
 some b
 else
 (yE N a).bind fun c=>
 (qac c).bind fun d=>
 (jv (decide (d<sign)) 3).bind fun e=>
 some e
theorem qd7 (N:Nat) (a:Str) (sign:Int) {res:Int} (h:qao N a sign=some res):qb ZT (.fn 191) [.str a,.i sign] [] (.i res) []:=by
 unfold qao at h
 refine Ub Tryz.func191 rfl rfl (m:=17) rfl (rs:=[.tmp 4]) rfl (l:=[(0,.str a),(1,.i sign)]) rfl ?_
 refine sh fol [(0,.str a),(1,.i sign)] ?_
 refine sq ?_
 obtain⟨b,c,h⟩:=bnd h
 refine sq (gr fol [1] ((0,.str a)::(1,.i sign)::(kAo b)) (ac (cv (qbd N a c)) az) ?_)
 refine sh fol [(0,.str a),(1,.i sign),(5,.i b),(9,.bool (!decide (b=0)))] ?_
 refine ihB h (fun j h=>?_) (fun j h=>?_)
 ·refine sh fol [(4,.i b)] ?_
  refine Goes.ret ?_
  obtain rfl:=si h
  exact(gw2 [.i b] (Ua tI))
 refine Goes.skip ?_
 obtain⟨k,d,h⟩:=bnd h
 obtain⟨n,e,h⟩:=bnd h
 obtain⟨g,f,h⟩:=bnd h
 refine sq (gr fol [1,2,5] [(4,.i g)] (ac (cv (vY N a d)) (ac (cv (qfc k e)) (ac (cv (vW (decide (n<sign)) 3 f)) az))) ?_)
 refine Goes.ret ?_
 obtain rfl:=si h
 exact(gw2 [.i g] (Ua tI))
def jD (N:Nat) (a:Str):Option Int:=
 (qao N a 1).bind fun b=>
 some b
theorem qaP (N:Nat) (a:Str) {res:Int} (h:jD N a=some res):qb ZT (.fn 112) [.str a] [] (.i res) []:=by
 unfold jD at h
 refine Ub Tryz.func112 rfl rfl (m:=5) rfl (rs:=[.tmp 2]) rfl (l:=(kAI a)) rfl ?_
 refine sh fol (kAI a) ?_
 obtain⟨c,b,h⟩:=bnd h
 refine sq (gr fol [1] (kAi c) (ac (cv (qd7 N a 1 b)) az) ?_)
 refine Goes.ret ?_
 obtain rfl:=si h
 exact(gw2 [.i c] (Ua tI))
def qaE (a:qj):Option Int:=
 (qF a).bind fun b=>
 if(b.2.length:Int)=0 then
 some 0
 else
 (idx b.2 (w64 ((b.2.length:Int)-1))).bind fun c=>
 (bits_Len64 c).bind fun d=>
 some (w64 ((w64 (64*(w64 ((b.2.length:Int)-1))))+d))
theorem qc0 (a:qj) {res:Int} (h:qaE a=some res):qb ZT (.fn 200) [.agg (nz1 a)] [] (.i res) []:=by
 unfold qaE at h
 refine Ub Tryz.func200 rfl rfl (m:=25) rfl (rs:=[.tmp 2]) rfl (l:=[(0,.agg (nz1 a))]) rfl ?_
 refine sg fol (kAY []) [.cells (nz1 a)] ?_
 obtain⟨c,d,h⟩:=bnd h
 refine sq (gr fol [1] [(4,vl (qa .u64) c.2)] (ac (cv (zw a d)) az) ?_)
 refine sq ?_
 refine sh fol ((4,vl (qa .u64) c.2)::(kAq (decide ((c.2.length:Int)=0)))) ?_
 refine ihD h (fun g h=>?_) (fun g h=>?_)
 ·refine sh fol [(2,.i 0)] ?_
  refine Goes.ret ?_
  obtain rfl:=si h
  exact(gw2 [.i 0] (Ua tI))
 refine Goes.skip ?_
 obtain⟨j,b,h⟩:=bnd h
 obtain⟨f,e,h⟩:=bnd h
 refine sq (gr fol [8,9,10] (kAi (w64 ((w64 (64*(w64 ((c.2.length:Int)-1))))+f))) (ac (iv zA (qa .u64) b) (ac (lv 0 zK (qa .u64) b rfl) (ac (cv (qea j e)) az))) ?_)
 refine Goes.ret ?_
 obtain rfl:=si h
 exact(gw2 [.i (w64 ((w64 (64*(w64 ((c.2.length:Int)-1))))+f))] (Ua tI))
def zT (N:Nat):Nat->(List Str)->(List Int)->Option (List Str)
 |0,_,_=>none
 |K+1,i,j=>
  if(j.length:Int)>0 then
  (qam N j ([1000000000000000000]:List Int)).bind fun b=>
  ((if(b.2.length:Int)>0 then
  (idx b.2 0).bind fun c=>
  (qgT c 10).bind fun d=>
  some d
  else
  some [48]:Option Str)).bind fun a=>
  ((if(b.1.length:Int)>0 then
  (qd0 [48] (w64 (18-(a.length:Int)))).bind fun e=>
  (cat e a).bind fun f=>
  some f
  else
  some a:Option Str)).bind fun g=>
  (app 16 i [g]).bind fun h=>
  zT N K h b.1
  else
  some i
def zg (e:List Str):Nat->Bool->(Option (List Int))->Int->Option (Bool×(Option (List Int)))
 |0,_,_,_=>none
 |K+1,ok27,b,a=>
  if a>=0 then
  (idx e a).bind fun c=>
  (bWr ok27 b c).bind fun d=>
  zg e K true (some d) (w64 (a-1))
  else
  some (ok27,b)
def jJ (N:Nat) (a:qj):Option Str:=
 if a.w.isEmpty=true then
 (qlo a.s).bind fun h=>
 some h
 else
 (qF a).bind fun f=>
 (zT N N ([]:List Str) f.2).bind fun g=>
 ((if f.1=true then
 (bWr false (none:Option (List Int)) [45]).bind fun b=>
 some (true,(some b))
 else
 some (false,(none:Option (List Int))):Option (Bool×(Option (List Int))))).bind fun(ok21,c)=>
 (zg g N ok21 c (w64 ((g.length:Int)-1))).bind fun(ok30,d)=>
 (qlv ok30 d).bind fun e=>
 some e
theorem xx (N:Nat) (a:qj) {res:Str} (h:jJ N a=some res):qb ZT (.fn 222) [.agg (nz1 a)] [] (.str res) []:=by
 unfold jJ at h
 refine Ub Tryz.func222 rfl rfl (m:=69) rfl (rs:=[.tmp 2]) rfl (l:=[(0,.agg (nz1 a))]) rfl ?_
 refine sg fol (kAY []) [.cells (nz1 a)] ?_
 refine sq ?_
 refine sq (gr fol [2] (kAY [(14,.bool a.w.isEmpty)]) (ac (hs (.done (.opt (zy ZT .eql 93 (.tmp 13) (.const (.slice none 0 0)) (nvl (qa .u64) a.w) .nilslice)) (.bool a.w.isEmpty)) (qab xY)) az) ?_)
 refine ihB h (fun c1 h=>?_) (fun c1 h=>?_)
 ·obtain⟨r2,K,h⟩:=bnd h
  refine sq (gr fol [2] [(2,.str r2)] (ac (cv (qnc a.s K)) az) ?_)
  refine Goes.ret ?_
  obtain rfl:=si h
  exact(gw2 [.str r2] (Ua tS))
 refine Goes.skip ?_
 obtain⟨e,L,h⟩:=bnd h
 refine sq (gr fol [1] [(3,.bool e.1),(4,vl (qa .u64) e.2)] (ac (cv (zw a L)) az) ?_)
 refine sg fol [(3,.bool e.1),(4,vl (qa .u64) e.2),(5,.slice 1 0 1 1 1)] [.cells (nz1 a),.cells [.int .u64 1000000000000000000]] ?_
 refine sh fol [(3,.bool e.1),(4,vl (qa .u64) e.2),(5,.slice 1 0 1 1 1),(6,.nilslice)] ?_
 refine sq (Goes.block ?_)
 obtain⟨r7,g7,h⟩:=bnd h
 refine Goes.imp (Q:=fun x s'=>(x= .exit 0/\ ∃b,b=r7/\Sub s' (ofG 69 ((3,.bool e.1)::(kAB b [])),(kAD b [])))) ?_ ?_
 ·refine Goes.sub (s':=(ofG 69 [(3,.bool e.1),(4,vl (qa .u64) e.2),(5,vl (qa .u64) ([1000000000000000000]:List Int)),(6,.gslice 0 ([]:List Str).length 1)],[.cells (([]:List Str).flatMap encS.c)])) (Sub.norm [1] [none] rfl rfl (.keep (.same nB) (.keep (.same (qg (qa .u64) _)) (.keep (.frz (Fz.lit rfl rfl (Ue (AllST.cons tI AllST.nil))) (qg (qa .u64) _)) (.keep .nil .nil)))) (.fresh .nil)) ?_
  refine Uc (fun M s=> ∃(j:List Str) (J:List Int),s=(ofG 69 ((3,.bool e.1)::(4,vl (qa .u64) J)::(5,vl (qa .u64) ([1000000000000000000]:List Int))::(kAB j [])),(kAD j []))/\zT N M j J=some r7) ?_ (m:=N) ⟨_,_,rfl,g7⟩
  rintro M s ⟨j,J,rfl,g7⟩
  cases M with
  |zero=>simp only[zT]at g7;cases g7
  |succ M=>
   rw[zT]at g7
   refine sq ?_
   refine sh fol ((3,.bool e.1)::(4,vl (qa .u64) J)::(5,vl (qa .u64) ([1000000000000000000]:List Int))::(kAB j [(26,.bool (decide ((J.length:Int)>0)))])) ?_
   refine ihD g7 (fun c8 g7=>?_) (fun c8 g7=>?_)
   ·refine Goes.skip ?_
    refine Goes.block ?_
    obtain⟨k,O,g7⟩:=bnd g7
    refine sq (gr fol [2] ((3,.bool e.1)::(5,vl (qa .u64) ([1000000000000000000]:List Int))::(kAB j [(7,vl (qa .u64) k.1),(8,vl (qa .u64) k.2)])) (ac (cv (qd5 N J ([1000000000000000000]:List Int) O)) az) ?_)
    refine sh fol ((3,.bool e.1)::(5,vl (qa .u64) ([1000000000000000000]:List Int))::(kAB j [(7,vl (qa .u64) k.1),(8,vl (qa .u64) k.2),(9,.str [48])])) ?_
    refine sq ?_
    refine sh fol ((3,.bool e.1)::(5,vl (qa .u64) ([1000000000000000000]:List Int))::(kAB j [(7,vl (qa .u64) k.1),(8,vl (qa .u64) k.2),(9,.str [48]),(35,.bool (decide ((k.2.length:Int)>0)))])) ?_
    obtain⟨V,g11,g7⟩:=bnd g7
    refine Goes.imp (Q:=fun x s'=>(x= .normal/\ ∃q,q=V/\Sub s' (ofG 69 ((3,.bool e.1)::(5,vl (qa .u64) ([1000000000000000000]:List Int))::(kAB j [(7,vl (qa .u64) k.1),(9,.str q)])),(kAD j [])))) ?_ ?_
    ·refine ihD g11 (fun X g11=>?_) (fun X g11=>?_)
     ·obtain⟨Y,t,g11⟩:=bnd g11
      obtain⟨Z,A,g11⟩:=bnd g11
      refine gr fol [1,2,3] ((3,.bool e.1)::(5,vl (qa .u64) ([1000000000000000000]:List Int))::(kAB j [(7,vl (qa .u64) k.1),(9,.str Z)])) (ac (iv zA (qa .u64) t) (ac (lv 0 zK (qa .u64) t rfl) (ac (cv (qnf Y 10 A)) az))) ?_
      obtain rfl:=si g11
      exact⟨rfl,_,rfl,(Sub.refl _)⟩
     refine Goes.skip ?_
     obtain rfl:=si g11
     exact⟨rfl,_,rfl,(Sub.keep [3,5,6,7,9] rfl rfl)⟩
    rintro x s' ⟨rfl,q,rfl,hsub⟩
    refine Goes.sub hsub ?_
    refine sq ?_
    refine sh fol ((3,.bool e.1)::(5,vl (qa .u64) ([1000000000000000000]:List Int))::(kAB j [(7,vl (qa .u64) k.1),(9,.str q),(42,.bool (decide ((k.1.length:Int)>0)))])) ?_
    obtain⟨a0,g16,g7⟩:=bnd g7
    refine Goes.imp (Q:=fun x s'=>(x= .normal/\ ∃n,n=a0/\Sub s' (ofG 69 ((3,.bool e.1)::(5,vl (qa .u64) ([1000000000000000000]:List Int))::(kAB j [(7,vl (qa .u64) k.1),(9,.str n)])),(kAD j [])))) ?_ ?_
    ·refine ihD g16 (fun a1 g16=>?_) (fun a1 g16=>?_)
     ·obtain⟨a2,B,g16⟩:=bnd g16
      obtain⟨P,C,g16⟩:=bnd g16
      refine gr fol [3,5] ((3,.bool e.1)::(5,vl (qa .u64) ([1000000000000000000]:List Int))::(kAB j [(7,vl (qa .u64) k.1),(9,.str P)])) (ac (cv (qj0 [48] (w64 (18-(q.length:Int))) B)) (ac (hs (.done (.opt (zy ZT .add 9 (.tmp 46) (.tmp 47) (.str a2) (.str q))) (.str P)) (qia C)) az)) ?_
      obtain rfl:=si g16
      exact⟨rfl,_,rfl,(Sub.refl _)⟩
     refine Goes.skip ?_
     obtain rfl:=si g16
     exact⟨rfl,_,rfl,(Sub.keep [3,5,6,7,9] rfl rfl)⟩
    rintro x s' ⟨rfl,n,rfl,hsub⟩
    refine Goes.sub hsub ?_
    obtain⟨o,D,g7⟩:=bnd g7
    refine sq (gq fol [3] [(3,.bool e.1),(5,vl (qa .u64) ([1000000000000000000]:List Int)),(6,.gslice 2 o.length 1),(7,vl (qa .u64) k.1)] (.dead:: .cells [.str n]::(kAD o [])) (ac (hs (.run [0,1] (qah ZT [284,284] (.gslice 0 j.length 1) (.slice 1 0 1 1 1)) (kAD j [.cells [.str n]]) (.gslice 2 o.length 1) (.dead:: .cells [.str n]::(kAD o [])) true) (qd1 qo5 (E:=encS) rfl (qiI (E:=encS) (ys:=[n]) rfl rfl rfl rfl) (qlh (E:=encS) (l:=j) rfl rfl rfl D rfl))) az) ?_)
    refine gh fol [(3,.bool e.1),(4,vl (qa .u64) k.1),(5,vl (qa .u64) ([1000000000000000000]:List Int)),(6,.gslice 2 o.length 1)] ?_
    exact⟨M,(ofG 69 ((3,.bool e.1)::(4,vl (qa .u64) k.1)::(5,vl (qa .u64) ([1000000000000000000]:List Int))::(kAB o [])),(kAD o [])),Nat.lt_succ_self _,(Sub.norm [] [some 2] rfl rfl (.keep (.same nB) (.keep (.same (qg (qa .u64) _)) (.keep (.same (qg (qa .u64) _)) (.keep (.gslice rfl) .nil)))) (.ks .nil)),_,_,rfl,g7⟩
   refine Goes.exit ?_
   obtain rfl:=si g7
   exact⟨rfl,_,rfl,(Sub.keep [3,6] rfl rfl)⟩
 rintro x s' ⟨rfl,b,rfl,hsub⟩
 refine Goes.sub hsub ?_
 refine sg fol ((3,.bool e.1)::(kAB b (kA0 []))) (kAD b [.bld 189 5 [.nilptr,.nilslice]]) ?_
 refine sq ?_
 refine sh fol (kAB b (kA0 [(54,.bool e.1)])) ?_
 obtain⟨a3,g23,h⟩:=bnd h
 refine Goes.imp (Q:=fun x s'=>(x= .normal/\ ∃ok21 v,(ok21,v)=a3/\Sub s' (ofG 69 (kAB b (kA0 [])),(kAD b [.bld 189 5 [pz ok21 1 0,hsl 2 1 v],.cells ((hof v).flatMap (qa .u8).c)])))) ?_ ?_
 ·refine ihB g23 (fun a4 g23=>?_) (fun a4 g23=>?_)
  ·refine Goes.sub (s':=(ofG 69 (kAB b (kA0 [(54,.bool e.1)])),(kAD b [.bld 189 5 [pz false 1 0,.nilslice]]))) (Sub.norm [] [some 0,some 1] rfl rfl (.keep (.gslice rfl) (.kp (.keep (.same nB) .nil))) (.ks (.kb rfl (.bld (rc (zP.pz0) (rc (.same (qC.nilslice)) rn))) .nil))) ?_
   refine Goes.sub (s':=(ofG 69 (kAB b (kA0 [(54,.bool e.1)])),(kAD b [.bld 189 5 [pz false 1 0,hsl 2 1 (none:Option (List Int))],.cells ((hof (none:Option (List Int))).flatMap (qa .u8).c)]))) (Sub.norm [] [some 0,some 1,none] rfl rfl (.keep (.gslice rfl) (.kp (.keep (.same nB) .nil))) (.ks (.kb rfl (.bld (rc (zP.pz0) (rc .hs0 rn))) (.fresh .nil)))) ?_
   obtain⟨y,F,g23⟩:=bnd g23
   refine gq fol [0] (kAB b (kA0 [])) (kAD b [.bld 189 5 [pz true 1 0,hsl 3 1 (some y)],.dead,.cells ((hof (some y)).flatMap (qa .u8).c)]) (ac (hs (.callH 150 [.ptr 1 0,.str [45]] (kAD b [.bld 189 5 [pz false 1 0,hsl 2 1 (none:Option (List Int))],.cells ((hof (none:Option (List Int))).flatMap (qa .u8).c)]) [1,2] (.tuple [.i (([45].length:Nat):Int),.niliface]) (kAD b [.bld 189 5 [pz true 1 0,hsl 3 1 (some y)],.dead,.cells ((hof (some y)).flatMap (qa .u8).c)])) (qfg [some 1,some 2] [none,some 0,none,some 2] (qmm false (none:Option (List Int)) [45] F) (.kb rfl (.bld (rc (zP.pz0) (rc .hs0 rn))) (.ks .nil)) rfl rfl (.old rfl rfl (.back rfl rfl (.bld (rc ((zP.pz rfl)) (rc (.hs rfl) rn))) rfl (.dead (.new rfl rfl (.same fa) rfl .nil)))) (rc (.ptr rfl) (rc (.same nS) rn)) (.same (qC.tuple sn)) rfl)) az) ?_
   obtain rfl:=si g23
   exact⟨rfl,_,_,rfl,(Sub.norm [] [some 0,some 1,some 3] rfl rfl (.keep (.gslice rfl) (.kp .nil)) (.ks (.kb rfl (.bld (rc ((zP.pz rfl)) (rc (.hs rfl) rn))) (.ks .nil))))⟩
  refine Goes.skip ?_
  obtain rfl:=si g23
  exact⟨rfl,_,_,rfl,(Sub.norm [] [some 0,some 1,none] rfl rfl (.keep (.gslice rfl) (.kp .nil)) (.ks (.kb rfl (.bld (rc (zP.pz0) (rc .hs0 rn))) (.fresh .nil))))⟩
 rintro x s' ⟨rfl,ok21,v,rfl,hsub⟩
 try dsimp only at h
 refine Goes.sub hsub ?_
 refine sq ?_
 refine sh fol (kAB b (kA0 [(11,.i (w64 ((b.length:Int)-1)))])) ?_
 refine Goes.block ?_
 obtain⟨U,d,h⟩:=bnd h
 refine Goes.imp (Q:=fun x s'=>(x= .exit 2/\ ∃ok30 p,(ok30,p)=U/\Sub s' (ofG 69 [(10,.ptr 0 0)],[.bld 189 5 [pz ok30 0 0,hsl 1 1 p],.cells ((hof p).flatMap (qa .u8).c)]))) ?_ ?_
 ·refine Uc (fun M s=> ∃(ok27:Bool) (f:Option (List Int)) (g:Int),s=(ofG 69 (kAB b (kA0 [(11,.i g)])),(kAD b [.bld 189 5 [pz ok27 1 0,hsl 2 1 f],.cells ((hof f).flatMap (qa .u8).c)]))/\zg b M ok27 f g=some U) ?_ (m:=N) ⟨_,_,_,rfl,d⟩
  rintro M s ⟨ok27,f,g,rfl,d⟩
  cases M with
  |zero=>simp only[zg]at d;cases d
  |succ M=>
   rw[zg]at d
   refine sq ?_
   refine sh fol (kAB b (kA0 [(11,.i g),(60,.bool (decide (g>=0)))])) ?_
   refine ihD d (fun a5 d=>?_) (fun a5 d=>?_)
   ·refine Goes.skip ?_
    refine sq (Goes.block ?_)
    obtain⟨z,u,d⟩:=bnd d
    obtain⟨r,G,d⟩:=bnd d
    refine gq fol [2,3,4] (kAB b (kA0 [(11,.i g)])) (kAD b [.bld 189 5 [pz true 1 0,hsl 3 1 (some r)],.dead,.cells ((hof (some r)).flatMap (qa .u8).c)]) (ac (hs (.done (.opt (qd ZT 284 (.gslice 0 b.length 1) (.i g))) (.ptr 0 ((g:Int).toNat*1+0))) (ix_gs qo5 u)) (ac (hs (.run [0] (zR ZT 9 (.ptr 0 ((g:Int).toNat*1+0))) (kAD b [.bld 189 5 [pz ok27 1 0,hsl 2 1 f],.cells ((hof f).flatMap (qa .u8).c)]) (.str z) (kAD b [.bld 189 5 [pz ok27 1 0,hsl 2 1 f],.cells ((hof f).flatMap (qa .u8).c)]) false) (qbR ce9 (E:=encS) (l:=b) rfl rfl u (nl rfl) rfl)) (ac (hs (.callH 150 [.ptr 1 0,.str z] (kAD b [.bld 189 5 [pz ok27 1 0,hsl 2 1 f],.cells ((hof f).flatMap (qa .u8).c)]) [1,2] (.tuple [.i ((z.length:Nat):Int),.niliface]) (kAD b [.bld 189 5 [pz true 1 0,hsl 3 1 (some r)],.dead,.cells ((hof (some r)).flatMap (qa .u8).c)])) (qfg [some 1,some 2] [none,some 0,none,some 2] (qmm ok27 f z G) (.kb rfl (.bld (rc ((zP.pz rfl)) (rc (.hs rfl) rn))) (.ks .nil)) rfl rfl (.old rfl rfl (.back rfl rfl (.bld (rc ((zP.pz rfl)) (rc (.hs rfl) rn))) rfl (.dead (.new rfl rfl (.same fa) rfl .nil)))) (rc (.ptr rfl) (rc (.same nS) rn)) (.same (qC.tuple sn)) rfl)) az))) ?_
    refine gh fol (kAB b (kA0 [(11,.i (w64 (g-1)))])) ?_
    exact⟨M,(ofG 69 (kAB b (kA0 [(11,.i (w64 (g-1)))])),(kAD b [.bld 189 5 [pz true 1 0,hsl 2 1 (some r)],.cells ((hof (some r)).flatMap (qa .u8).c)])),Nat.lt_succ_self _,(Sub.norm [] [some 0,some 1,some 3] rfl rfl (.keep (.gslice rfl) (.kp (.keep (.same nI) .nil))) (.ks (.kb rfl (.bld (rc ((zP.pz rfl)) (rc (.hs rfl) rn))) (.ks .nil)))),_,_,_,rfl,d⟩
   refine Goes.exit ?_
   obtain rfl:=si d
   exact⟨rfl,_,_,rfl,(Sub.norm [] [some 1,some 2] rfl rfl (.drop (.kp .nil)) (.kb rfl (.bld (rc ((zP.pz rfl)) (rc (.hs rfl) rn))) (.ks .nil)))⟩
 rintro x s' ⟨rfl,ok30,p,rfl,hsub⟩
 try dsimp only at h
 refine Goes.sub hsub ?_
 obtain⟨H,I,h⟩:=bnd h
 refine sq (gq fol [0] [(2,.str H)] [.dead,.dead] (ac (hs (.callH 152 [.ptr 0 0] [.bld 189 5 [pz ok30 0 0,hsl 1 1 p],.cells ((hof p).flatMap (qa .u8).c)] [0,1] (.str H) [.dead,.dead]) (qfg [some 0,some 1] [none,none] (qoS ok30 p I) (.kb rfl (.bld (rc ((zP.pz rfl)) (rc (.hs rfl) rn))) (.ks .nil)) rfl rfl (.dead (.dead .nil)) (rc (.ptr rfl) rn) (.same nS) rfl)) az) ?_)
 refine Goes.ret ?_
 obtain rfl:=si h
 exact(gw2 [.str H] (Ua tS))
def qcr (N:Nat) (n:qj):Option Bool:=
 ((qaE n).bind fun a=>
 if a>1800 then
 (jJ N n).bind fun b=>
 (strings_TrimPrefix b [45]).bind fun c=>
 some (decide ((c.length:Int)>600))
 else
 some false:Option Bool).bind fun d=>
 some d
theorem qdN (N:Nat) (n:qj) {res:Bool} (h:qcr N n=some res):qb ZT (.fn 221) [.agg (nz1 n)] [] (.bool res) []:=by
 unfold qcr at h
 refine Ub Tryz.func221 rfl rfl (m:=13) rfl (rs:=[.tmp 2]) rfl (l:=[(0,.agg (nz1 n))]) rfl ?_
 refine sg fol (kAY []) [.cells (nz1 n)] ?_
 refine sq ?_
 obtain⟨f,a,h⟩:=bnd h
 refine Goes.cut (s':=(ofG 13 (kAy f),[.cells (nz1 n)])) ?_ ?_
 ·obtain⟨j,b,a⟩:=bnd a
  rcases wyD a with⟨e,a⟩|⟨e,a⟩
  ·obtain⟨g,c,a⟩:=bnd a
   obtain⟨i,d,a⟩:=bnd a
   obtain rfl:=si a
   exact tr fol [1,3,5,6] (kAy (decide ((i.length:Int)>600))) (ac (cv (qc0 n b)) (ac (gw e) (ac (cv (xx N n c)) (ac (cv (qaM g [45] d)) az))))
  obtain rfl:=si a
  exact tr fol [1,3] kAl (ac (cv (qc0 n b)) (ac (gw e) az))
 refine Goes.ret ?_
 obtain rfl:=si h
 exact(gw2 [.bool f] (Ua tB))
def yw (N:Nat) (a:qG):Option Bool:=
 ((qcr N a.Num).bind fun b=>
 if b=true then
 some true
 else
 (qcr N a.Den).bind fun c=>
 some c:Option Bool).bind fun d=>
 some d
theorem qbX (N:Nat) (a:qG) {res:Bool} (h:yw N a=some res):qb ZT (.fn 153) [.agg (nq1 a)] [] (.bool res) []:=by
 unfold yw at h
 refine Ub Tryz.func153 rfl rfl (m:=11) rfl (rs:=[.tmp 2]) rfl (l:=[(0,.agg (nq1 a))]) rfl ?_
 refine sg fol (kAY []) [.cells (nq1 a)] ?_
 refine sq ?_
 obtain⟨f,b,h⟩:=bnd h
 refine Goes.cut (s':=(ofG 11 (kAy f),[.cells (nq1 a)])) ?_ ?_
 ·obtain⟨i,c,b⟩:=bnd b
  rcases wyB b with⟨e,b⟩|⟨e,b⟩
  ·obtain rfl:=si b
   exact tr fol [2,3] [(2,.bool true)] (ac (cv (qdN N a.Num c)) (ac (gw e) az))
  obtain⟨g,d,b⟩:=bnd b
  obtain rfl:=si b
  exact tr fol [2,3,6] (kAy g) (ac (cv (qdN N a.Num c)) (ac (gw e) (ac (cv (qdN N a.Den d)) az)))
 refine Goes.ret ?_
 obtain rfl:=si h
 exact(gw2 [.bool f] (Ua tB))
def yC (a:qG):Option Bool:=
 (if a.Den.w.isEmpty=true then
 some (decide (a.Den.s=1))
 else
 some false:Option Bool).bind fun b=>
 some b
theorem qd3 (a:qG) {res:Bool} (h:yC a=some res):qb ZT (.fn 163) [.agg (nq1 a)] [] (.bool res) []:=by
 unfold yC at h
 refine Ub Tryz.func163 rfl rfl (m:=13) rfl (rs:=[.tmp 2]) rfl (l:=[(0,.agg (nq1 a))]) rfl ?_
 refine sg fol (kAY []) [.cells (nq1 a)] ?_
 refine sq ?_
 obtain⟨d,b,h⟩:=bnd h
 refine Goes.cut (s':=(ofG 13 (kAy d),[.cells (nq1 a)])) ?_ ?_
 ·rcases wyB b with⟨c,b⟩|⟨c,b⟩
  ·obtain rfl:=si b
   exact tr fol [3,4] (kAy (decide (a.Den.s=1))) (ac (hs (.done (.opt (zy ZT .eql 93 (.tmp 5) (.const (.slice none 0 0)) (nvl (qa .u64) a.Den.w) .nilslice)) (.bool a.Den.w.isEmpty)) (qab xY)) (ac (gw c) az))
  obtain rfl:=si b
  exact tr fol [3,4] kAl (ac (hs (.done (.opt (zy ZT .eql 93 (.tmp 5) (.const (.slice none 0 0)) (nvl (qa .u64) a.Den.w) .nilslice)) (.bool a.Den.w.isEmpty)) (qab xY)) (ac (gw c) az))
 refine Goes.ret ?_
 obtain rfl:=si h
 exact(gw2 [.bool d] (Ua tB))
def xu (N:Nat) (a:qG):Option Str:=
 (yC a).bind fun b=>
 if b=true then
 (jJ N a.Num).bind fun c=>
 some c
 else
 (jJ N a.Num).bind fun d=>
 (cat d [47]).bind fun e=>
 (jJ N a.Den).bind fun f=>
 (cat e f).bind fun g=>
 some g
theorem qcf (N:Nat) (a:qG) {res:Str} (h:xu N a=some res):qb ZT (.fn 154) [.agg (nq1 a)] [] (.str res) []:=by
 unfold xu at h
 refine Ub Tryz.func154 rfl rfl (m:=16) rfl (rs:=[.tmp 2]) rfl (l:=[(0,.agg (nq1 a))]) rfl ?_
 refine sg fol (kAY []) [.cells (nq1 a)] ?_
 refine sq ?_
 obtain⟨n,b,h⟩:=bnd h
 refine sq (gr fol [1] (kAY (kAv n)) (ac (cv (qd3 a b)) az) ?_)
 refine ihB h (fun o h=>?_) (fun o h=>?_)
 ·obtain⟨j,c,h⟩:=bnd h
  refine sq (gr fol [2] [(2,.str j)] (ac (cv (xx N a.Num c)) az) ?_)
  refine Goes.ret ?_
  obtain rfl:=si h
  exact(gw2 [.str j] (Ua tS))
 refine Goes.skip ?_
 obtain⟨p,d,h⟩:=bnd h
 obtain⟨k,e,h⟩:=bnd h
 obtain⟨q,f,h⟩:=bnd h
 obtain⟨i,g,h⟩:=bnd h
 refine sq (gr fol [2,3,6,7] [(2,.str i)] (ac (cv (xx N a.Num d)) (ac (hs (.done (.opt (zy ZT .add 9 (.tmp 10) (.const (.string ⟨#[47]⟩)) (.str p) (.str [47]))) (.str k)) (qia e)) (ac (cv (xx N a.Den f)) (ac (hs (.done (.opt (zy ZT .add 9 (.tmp 11) (.tmp 14) (.str k) (.str q))) (.str i)) (qia g)) az)))) ?_)
 refine Goes.ret ?_
 obtain rfl:=si h
 exact(gw2 [.str i] (Ua tS))
def xK (N:Nat) (a:qG):Option (Str×Int):=
 (yw N a).bind fun b=>
 if b=true then
 some ([],4)
 else
 (xu N a).bind fun c=>
 some (c,0)
theorem qbP (N:Nat) (a:qG) {res:Str×Int} (h:xK N a=some res):qb ZT (.fn 113) [.agg (nq1 a)] [] (.tuple [.str res.1,.i res.2]) []:=by
 unfold xK at h
 refine Ub Tryz.func113 rfl rfl (m:=8) rfl (rs:=[.tmp 2,.tmp 3]) rfl (l:=[(0,.agg (nq1 a))]) rfl ?_
 refine sg fol (kAY []) [.cells (nq1 a)] ?_
 refine sq ?_
 obtain⟨e,b,h⟩:=bnd h
 refine sq (gr fol [1] (kAY [(5,.bool e)]) (ac (cv (qbX N a b)) az) ?_)
 refine ihB h (fun f h=>?_) (fun f h=>?_)
 ·refine sh fol [(2,.str []),(3,.i 4)] ?_
  refine Goes.ret ?_
  obtain rfl:=si h
  exact(gw2 [.str [],.i 4] (FzW.tuple (qc.cons (Ua tS) (qc.cons (Ua tI) qc.nil))))
 refine Goes.skip ?_
 obtain⟨d,c,h⟩:=bnd h
 refine sq (gr fol [1] [(2,.str d),(3,.i 0)] (ac (cv (qcf N a c)) az) ?_)
 refine Goes.ret ?_
 obtain rfl:=si h
 exact(gw2 [.str d,.i 0] (FzW.tuple (qc.cons (Ua tS) (qc.cons (Ua tI) qc.nil))))
def ve (N:Nat) (a:qj) (b:qj):Option qj:=
 (qV b).bind fun f=>
 ((if f<0 then
 (zD a).bind fun d=>
 (zD b).bind fun e=>
 some (d.s,d.w,e.s,e.w)
 else
 some (a.s,a.w,b.s,b.w):Option (Int×(List Int)×Int×(List Int)))).bind fun(g,h,i,j)=>
 (zZ N (⟨g,h⟩:qj) (⟨i,j⟩:qj)).bind fun c=>
 some c.1
theorem qdm (N:Nat) (a:qj) (b:qj) {res:qj} (h:ve N a b=some res):qb ZT (.fn 157) [.agg (nz1 a),.agg (nz1 b)] [] (.agg (nz1 res)) []:=by
 unfold ve at h
 refine Ub Tryz.func157 rfl rfl (m:=21) rfl (rs:=[.cell 4 95]) rfl (l:=[(0,.agg (nz1 a)),(1,.agg (nz1 b))]) rfl ?_
 refine sg fol (kE []) [.cells (nz1 a),.cells (nz1 b),bZ] ?_
 refine sq ?_
 obtain⟨r,j,h⟩:=bnd h
 refine sq (gr fol [1] (kE [(9,.bool (decide (r<0)))]) (ac (cv (vQ b j)) az) ?_)
 obtain⟨s,g6,h⟩:=bnd h
 refine Goes.imp (Q:=fun x s'=>(x= .normal/\ ∃d e f g,(d,e,f,g)=s/\Sub s' (ofG 21 (kE []),[.cells (ni1 d e),.cells (ni1 f g),bZ]))) ?_ ?_
 ·refine ihD g6 (fun t g6=>?_) (fun t g6=>?_)
  ·obtain⟨k,o,g6⟩:=bnd g6
   obtain⟨q,p,g6⟩:=bnd g6
   refine gq fol [1,3,4,5] (kE []) [.cells (nz1 k),.cells (nz1 q),bZ] (ac (cv (vJ a o)) (ac (cv (vJ b p)) (ac (hs (.run [0] (qp ZT 95 (.ptr 0 0) (.agg (nz1 k))) [.cells (nz1 a),.cells (nz1 b),bZ] .undef [.cells (nz1 k),.cells (nz1 b),bZ] true) (zf (n:=2) (by kernel_rfl) rfl rfl rfl rfl (cac rfl (cac nvc can)) rfl)) (ac (hs (.run [1] (qp ZT 95 (.ptr 1 0) (.agg (nz1 q))) [.cells (nz1 k),.cells (nz1 b),bZ] .undef [.cells (nz1 k),.cells (nz1 q),bZ] true) (zf (n:=2) (by kernel_rfl) rfl rfl rfl rfl (cac rfl (cac nvc can)) rfl)) az)))) ?_
   obtain rfl:=si g6
   exact⟨rfl,_,_,_,_,rfl,(Sub.refl _)⟩
  refine Goes.skip ?_
  obtain rfl:=si g6
  exact⟨rfl,_,_,_,_,rfl,(Sub.keep [2,3,4] rfl rfl)⟩
 rintro x s' ⟨rfl,d,e,f,g,rfl,hsub⟩
 try dsimp only at h
 refine Goes.sub hsub ?_
 obtain⟨c,i,h⟩:=bnd h
 refine sq (gq fol [2,8,9] [(4,.ptr 2 0),(5,.ptr 3 0)] [.cells (ni1 d e),.cells (ni1 f g),bZ,.cells (nz1 c.1),.cells (nz1 c.2)] (ac (cv (qbY N (⟨d,e⟩:qj) (⟨f,g⟩:qj) i)) (ac (hs (.run [3] (qp ZT 95 (.ptr 3 0) (.agg (nz1 c.1))) [.cells (ni1 d e),.cells (ni1 f g),bZ,bZ,bZ] .undef [.cells (ni1 d e),.cells (ni1 f g),bZ,.cells (nz1 c.1),bZ] true) (zf (n:=2) (by kernel_rfl) rfl rfl rfl rfl (cac rfl (cac nvc can)) rfl)) (ac (hs (.run [4] (qp ZT 95 (.ptr 4 0) (.agg (nz1 c.2))) [.cells (ni1 d e),.cells (ni1 f g),bZ,.cells (nz1 c.1),bZ] .undef [.cells (ni1 d e),.cells (ni1 f g),bZ,.cells (nz1 c.1),.cells (nz1 c.2)] true) (zf (n:=2) (by kernel_rfl) rfl rfl rfl rfl (cac rfl (cac nvc can)) rfl)) az))) ?_)
 refine sq (gq fol [1] kAa [.cells (ni1 d e),.cells (ni1 f g),.cells (nz1 c.1),.cells (nz1 c.1),.cells (nz1 c.2)] (ac (hs (.run [2] (qp ZT 95 (.ptr 2 0) (.agg (nz1 c.1))) [.cells (ni1 d e),.cells (ni1 f g),bZ,.cells (nz1 c.1),.cells (nz1 c.2)] .undef [.cells (ni1 d e),.cells (ni1 f g),.cells (nz1 c.1),.cells (nz1 c.1),.cells (nz1 c.2)] true) (zf (n:=2) (by kernel_rfl) rfl rfl rfl rfl (cac rfl (cac nvc can)) rfl)) az) ?_)
 refine Goes.ret ?_
 obtain rfl:=si h
 exact(gw2 [.agg (nz1 c.1)] (FzW.agg (qc.cons (Ua tI) (qc.cons (Ua (qw (qa .u64) _ (nl rfl))) qc.nil))))
def qcs (N:Nat) (num:qj) (den:qj):Option qG:=
 (qV den).bind fun k=>
 ((if k<0 then
 (zD num).bind fun i=>
 (zD den).bind fun j=>
 some (i.s,i.w,j.s,j.w)
 else
 some (num.s,num.w,den.s,den.w):Option (Int×(List Int)×Int×(List Int)))).bind fun(d,e,b,c)=>
 (if c.isEmpty=true then
 some (decide (b=1))
 else
 some false:Option Bool).bind fun f=>
 if f=true then
 some (⟨(⟨d,e⟩:qj),(⟨b,c⟩:qj)⟩:qG)
 else
 (qbU N (⟨d,e⟩:qj) (⟨b,c⟩:qj)).bind fun a=>
 (ve N (⟨d,e⟩:qj) a).bind fun g=>
 (ve N (⟨b,c⟩:qj) a).bind fun h=>
 some (⟨g,h⟩:qG)
theorem qfB (N:Nat) (num:qj) (den:qj) {res:qG} (h:qcs N num den=some res):qb ZT (.fn 64) [.agg (nz1 num),.agg (nz1 den)] [] (.agg (nq1 res)) []:=by
 unfold qcs at h
 refine Ub Tryz.func64 rfl rfl (m:=34) rfl (rs:=[.cell 4 100]) rfl (l:=[(0,.agg (nz1 num)),(1,.agg (nz1 den))]) rfl ?_
 refine sg fol (kE []) (.cells (nz1 num):: .cells (nz1 den)::(kI [])) ?_
 refine sq ?_
 obtain⟨A,q,h⟩:=bnd h
 refine sq (gr fol [1] (kE [(8,.bool (decide (A<0)))]) (ac (cv (vQ den q)) az) ?_)
 obtain⟨B,g6,h⟩:=bnd h
 refine Goes.imp (Q:=fun x s'=>(x= .normal/\ ∃d e c a,(d,e,c,a)=B/\Sub s' (ofG 34 (kE []),(.cells (ni1 d e):: .cells (ni1 c a)::(kI []))))) ?_ ?_
 ·refine ihD g6 (fun C g6=>?_) (fun C g6=>?_)
  ·obtain⟨r,t,g6⟩:=bnd g6
   obtain⟨v,u,g6⟩:=bnd g6
   refine gq fol [1,3,4,5] (kE []) (.cells (nz1 r):: .cells (nz1 v)::(kI [])) (ac (cv (vJ num t)) (ac (cv (vJ den u)) (ac (hs (.run [0] (qp ZT 95 (.ptr 0 0) (.agg (nz1 r))) (.cells (nz1 num):: .cells (nz1 den)::(kI [])) .undef (.cells (nz1 r):: .cells (nz1 den)::(kI [])) true) (zf (n:=2) (by kernel_rfl) rfl rfl rfl rfl (cac rfl (cac nvc can)) rfl)) (ac (hs (.run [1] (qp ZT 95 (.ptr 1 0) (.agg (nz1 v))) (.cells (nz1 r):: .cells (nz1 den)::(kI [])) .undef (.cells (nz1 r):: .cells (nz1 v)::(kI [])) true) (zf (n:=2) (by kernel_rfl) rfl rfl rfl rfl (cac rfl (cac nvc can)) rfl)) az)))) ?_
   obtain rfl:=si g6
   exact⟨rfl,_,_,_,_,rfl,(Sub.refl _)⟩
  refine Goes.skip ?_
  obtain rfl:=si g6
  exact⟨rfl,_,_,_,_,rfl,(Sub.keep [2,3,4] rfl rfl)⟩
 rintro x s' ⟨rfl,d,e,c,a,rfl,hsub⟩
 try dsimp only at h
 refine Goes.sub hsub ?_
 refine sq ?_
 refine sq ?_
 obtain⟨y,b,h⟩:=bnd h
 refine Goes.cut (s':=(ofG 34 (kE [(20,.bool y)]),(.cells (ni1 d e):: .cells (ni1 c a)::(kI [])))) ?_ ?_
 ·rcases wyB b with⟨j,b⟩|⟨j,b⟩
  ·obtain rfl:=si b
   exact tr fol [2,3] (kE [(20,.bool (decide (c=1)))]) (ac (hs (.done (.opt (zy ZT .eql 93 (.tmp 14) (.const (.slice none 0 0)) (nvl (qa .u64) a) .nilslice)) (.bool a.isEmpty)) (qab xY)) (ac (gw j) az))
  obtain rfl:=si b
  exact tr fol [2,3] (kE [(20,.bool false)]) (ac (hs (.done (.opt (zy ZT .eql 93 (.tmp 14) (.const (.slice none 0 0)) (nvl (qa .u64) a) .nilslice)) (.bool a.isEmpty)) (qab xY)) (ac (gw j) az))
 refine ihB h (fun z h=>?_) (fun z h=>?_)
 ·refine sq (gq fol [3] kAa [.cells (ni1 d e),.cells (ni1 c a),.cells (ni2 d e c a)] (ac (hs (.run [2] (qp ZT 100 (.ptr 2 0) (.agg (ni2 d e c a))) (.cells (ni1 d e):: .cells (ni1 c a)::(kI [])) .undef [.cells (ni1 d e),.cells (ni1 c a),.cells (ni2 d e c a)] true) (zf (n:=4) (by kernel_rfl) rfl rfl rfl rfl (cac rfl (cac nvc (cac rfl (cac nvc can)))) rfl)) az) ?_)
  refine Goes.ret ?_
  obtain rfl:=si h
  exact(gw2 [.agg (ni2 d e c a)] (FzW.agg (qc.cons (Ua tI) (qc.cons (Ua (qw (qa .u64) _ (nl rfl))) (qc.cons (Ua tI) (qc.cons (Ua (qw (qa .u64) _ (nl rfl))) qc.nil))))))
 refine Goes.skip ?_
 obtain⟨f,k,h⟩:=bnd h
 refine sq (gq fol [2,4] (kE [(5,.ptr 3 0)]) (.cells (ni1 d e):: .cells (ni1 c a)::(kI [.cells (nz1 f)])) (ac (cv (qgP N (⟨d,e⟩:qj) (⟨c,a⟩:qj) k)) (ac (hs (.run [3] (qp ZT 95 (.ptr 3 0) (.agg (nz1 f))) (.cells (ni1 d e):: .cells (ni1 c a)::(kI [bZ])) .undef (.cells (ni1 d e):: .cells (ni1 c a)::(kI [.cells (nz1 f)])) true) (zf (n:=2) (by kernel_rfl) rfl rfl rfl rfl (cac rfl (cac nvc can)) rfl)) az)) ?_)
 obtain⟨g,o,h⟩:=bnd h
 obtain⟨i,p,h⟩:=bnd h
 refine sq (gq fol [2,5,7] kAa [.cells (ni1 d e),.cells (ni1 c a),.cells (ni2 g.s g.w i.s i.w),.cells (nz1 f)] (ac (cv (qdm N (⟨d,e⟩:qj) f o)) (ac (cv (qdm N (⟨c,a⟩:qj) f p)) (ac (hs (.run [2] (qp ZT 100 (.ptr 2 0) (.agg (ni2 g.s g.w i.s i.w))) (.cells (ni1 d e):: .cells (ni1 c a)::(kI [.cells (nz1 f)])) .undef [.cells (ni1 d e),.cells (ni1 c a),.cells (ni2 g.s g.w i.s i.w),.cells (nz1 f)] true) (zf (n:=4) (by kernel_rfl) rfl rfl rfl rfl (cac rfl (cac nvc (cac rfl (cac nvc can)))) rfl)) az))) ?_)
 refine Goes.ret ?_
 obtain rfl:=si h
 exact(gw2 [.agg (ni2 g.s g.w i.s i.w)] (FzW.agg (qc.cons (Ua tI) (qc.cons (Ua (qw (qa .u64) _ (nl rfl))) (qc.cons (Ua tI) (qc.cons (Ua (qw (qa .u64) _ (nl rfl))) qc.nil))))))
def yV (N:Nat) (a:qG) (b:qG):Option qG:=
 (qU N a.Num b.Num).bind fun c=>
 (qU N a.Den b.Den).bind fun d=>
 (qcs N c d).bind fun e=>
 some e
theorem qbh (N:Nat) (a:qG) (b:qG) {res:qG} (h:yV N a b=some res):qb ZT (.fn 75) [.agg (nq1 a),.agg (nq1 b)] [] (.agg (nq1 res)) []:=by
 unfold yV at h
 refine Ub Tryz.func75 rfl rfl (m:=16) rfl (rs:=[.cell 4 100]) rfl (l:=[(0,.agg (nq1 a)),(1,.agg (nq1 b))]) rfl ?_
 refine sg fol (kE []) (.cells (nq1 a):: .cells (nq1 b)::(kI [])) ?_
 obtain⟨g,c,h⟩:=bnd h
 obtain⟨i,d,h⟩:=bnd h
 obtain⟨f,e,h⟩:=bnd h
 refine sq (gq fol [4,9,10,11] kAa [.cells (nq1 a),.cells (nq1 b),.cells (nq1 f)] (ac (cv (vD N a.Num b.Num c)) (ac (cv (vD N a.Den b.Den d)) (ac (cv (qfB N g i e)) (ac (hs (.run [2] (qp ZT 100 (.ptr 2 0) (.agg (nq1 f))) (.cells (nq1 a):: .cells (nq1 b)::(kI [])) .undef [.cells (nq1 a),.cells (nq1 b),.cells (nq1 f)] true) (zf (n:=4) (by kernel_rfl) rfl rfl rfl rfl (cac rfl (cac nvc (cac rfl (cac nvc can)))) rfl)) az)))) ?_)
 refine Goes.ret ?_
 obtain rfl:=si h
 exact(gw2 [.agg (nq1 f)] (FzW.agg (qc.cons (Ua tI) (qc.cons (Ua (qw (qa .u64) _ (nl rfl))) (qc.cons (Ua tI) (qc.cons (Ua (qw (qa .u64) _ (nl rfl))) qc.nil))))))
def qaD (N:Nat) (a:qG):Option qG:=
 (qcs N a.Den a.Num).bind fun b=>
 some b
theorem qfJ (N:Nat) (a:qG) {res:qG} (h:qaD N a=some res):qb ZT (.fn 90) [.agg (nq1 a)] [] (.agg (nq1 res)) []:=by
 unfold qaD at h
 refine Ub Tryz.func90 rfl rfl (m:=8) rfl (rs:=[.cell 2 100]) rfl (l:=[(0,.agg (nq1 a))]) rfl ?_
 refine sg fol (kAY kAp) (.cells (nq1 a)::(kI [])) ?_
 obtain⟨c,b,h⟩:=bnd h
 refine sq (gq fol [4,5] kAp [.cells (nq1 a),.cells (nq1 c)] (ac (cv (qfB N a.Den a.Num b)) (ac (hs (.run [1] (qp ZT 100 (.ptr 1 0) (.agg (nq1 c))) (.cells (nq1 a)::(kI [])) .undef [.cells (nq1 a),.cells (nq1 c)] true) (zf (n:=4) (by kernel_rfl) rfl rfl rfl rfl (cac rfl (cac nvc (cac rfl (cac nvc can)))) rfl)) az)) ?_)
 refine Goes.ret ?_
 obtain rfl:=si h
 exact(gw2 [.agg (nq1 c)] (FzW.agg (qc.cons (Ua tI) (qc.cons (Ua (qw (qa .u64) _ (nl rfl))) (qc.cons (Ua tI) (qc.cons (Ua (qw (qa .u64) _ (nl rfl))) qc.nil))))))
def jX (N:Nat) (a:qG) (b:qG):Option qG:=
 (qaD N b).bind fun c=>
 (yV N a c).bind fun d=>
 some d
theorem y8 (N:Nat) (a:qG) (b:qG) {res:qG} (h:jX N a b=some res):qb ZT (.fn 88) [.agg (nq1 a),.agg (nq1 b)] [] (.agg (nq1 res)) []:=by
 unfold jX at h
 refine Ub Tryz.func88 rfl rfl (m:=9) rfl (rs:=[.cell 4 100]) rfl (l:=[(0,.agg (nq1 a)),(1,.agg (nq1 b))]) rfl ?_
 refine sg fol (kE []) (.cells (nq1 a):: .cells (nq1 b)::(kI [])) ?_
 obtain⟨f,c,h⟩:=bnd h
 obtain⟨e,d,h⟩:=bnd h
 refine sq (gq fol [2,3,4] kAa [.cells (nq1 a),.cells (nq1 b),.cells (nq1 e)] (ac (cv (qfJ N b c)) (ac (cv (qbh N a f d)) (ac (hs (.run [2] (qp ZT 100 (.ptr 2 0) (.agg (nq1 e))) (.cells (nq1 a):: .cells (nq1 b)::(kI [])) .undef [.cells (nq1 a),.cells (nq1 b),.cells (nq1 e)] true) (zf (n:=4) (by kernel_rfl) rfl rfl rfl rfl (cac rfl (cac nvc (cac rfl (cac nvc can)))) rfl)) az))) ?_)
 refine Goes.ret ?_
 obtain rfl:=si h
 exact(gw2 [.agg (nq1 e)] (FzW.agg (qc.cons (Ua tI) (qc.cons (Ua (qw (qa .u64) _ (nl rfl))) (qc.cons (Ua tI) (qc.cons (Ua (qw (qa .u64) _ (nl rfl))) qc.nil))))))
def qhN (n:Int):Option qG:=
 (qbH n).bind fun a=>
 (qbx a).bind fun b=>
 some b
theorem qjj (n:Int) {res:qG} (h:qhN n=some res):qb ZT (.fn 82) [.i n] [] (.agg (nq1 res)) []:=by
 unfold qhN at h
 refine Ub Tryz.func82 rfl rfl (m:=6) rfl (rs:=[.cell 2 100]) rfl (l:=[(0,.i n)]) rfl ?_
 refine sg fol ((0,.i n)::(kV [])) (kI []) ?_
 obtain⟨d,a,h⟩:=bnd h
 obtain⟨c,b,h⟩:=bnd h
 refine sq (gq fol [1,2,3] (kV []) [.cells (nq1 c)] (ac (cv (qaQ n a)) (ac (cv (qeJ d b)) (ac (hs (.run [0] (qp ZT 100 (.ptr 0 0) (.agg (nq1 c))) (kI []) .undef [.cells (nq1 c)] true) (zf (n:=4) (by kernel_rfl) rfl rfl rfl rfl (cac rfl (cac nvc (cac rfl (cac nvc can)))) rfl)) az))) ?_)
 refine Goes.ret ?_
 obtain rfl:=si h
 exact(gw2 [.agg (nq1 c)] (FzW.agg (qc.cons (Ua tI) (qc.cons (Ua (qw (qa .u64) _ (nl rfl))) (qc.cons (Ua tI) (qc.cons (Ua (qw (qa .u64) _ (nl rfl))) qc.nil))))))
def zC (N:Nat) (a:qz):Option qG:=
 (qhN a.Mass).bind fun b=>
 (qhN a.Length).bind fun c=>
 (jX N b c).bind fun d=>
 some d
theorem yc (N:Nat) (a:qz) {res:qG} (h:zC N a=some res):qb ZT (.fn 192) [.agg [.i a.Length,.i a.Mass,.bool a.Direct]] [] (.agg (nq1 res)) []:=by
 unfold zC at h
 refine Ub Tryz.func192 rfl rfl (m:=10) rfl (rs:=[.cell 2 100]) rfl (l:=[(0,.agg [.i a.Length,.i a.Mass,.bool a.Direct])]) rfl ?_
 refine sg fol (kAY kAp) (kT a.Length a.Mass a.Direct (kI [])) ?_
 obtain⟨f,b,h⟩:=bnd h
 obtain⟨g,c,h⟩:=bnd h
 obtain⟨e,d,h⟩:=bnd h
 refine sq (gq fol [2,5,6,7] kAp (kT a.Length a.Mass a.Direct [.cells (nq1 e)]) (ac (cv (qjj a.Mass b)) (ac (cv (qjj a.Length c)) (ac (cv (y8 N f g d)) (ac (hs (.run [1] (qp ZT 100 (.ptr 1 0) (.agg (nq1 e))) (kT a.Length a.Mass a.Direct (kI [])) .undef (kT a.Length a.Mass a.Direct [.cells (nq1 e)]) true) (zf (n:=4) (by kernel_rfl) rfl rfl rfl rfl (cac rfl (cac nvc (cac rfl (cac nvc can)))) rfl)) az)))) ?_)
 refine Goes.ret ?_
 obtain rfl:=si h
 exact(gw2 [.agg (nq1 e)] (FzW.agg (qc.cons (Ua tI) (qc.cons (Ua (qw (qa .u64) _ (nl rfl))) (qc.cons (Ua tI) (qc.cons (Ua (qw (qa .u64) _ (nl rfl))) qc.nil))))))
def vZ (N:Nat) (a:qz) (density:qG):Option qG:=
 if a.Direct=true then
 (zC N a).bind fun b=>
 (jX N density b).bind fun c=>
 some c
 else
 (zC N a).bind fun d=>
 (jX N d density).bind fun e=>
 some e
theorem qdh (N:Nat) (a:qz) (density:qG) {res:qG} (h:vZ N a density=some res):qb ZT (.fn 114) [.agg [.i a.Length,.i a.Mass,.bool a.Direct],.agg (nq1 density)] [] (.agg (nq1 res)) []:=by
 unfold vZ at h
 refine Ub Tryz.func114 rfl rfl (m:=15) rfl (rs:=[.cell 4 100]) rfl (l:=[(0,.agg [.i a.Length,.i a.Mass,.bool a.Direct]),(1,.agg (nq1 density))]) rfl ?_
 refine sg fol (kE []) (kT a.Length a.Mass a.Direct (.cells (nq1 density)::(kI []))) ?_
 refine sq ?_
 refine sh fol (kE [(6,.bool a.Direct)]) ?_
 refine ihB h (fun j h=>?_) (fun j h=>?_)
 ·obtain⟨k,b,h⟩:=bnd h
  obtain⟨f,c,h⟩:=bnd h
  refine sq (gq fol [2,3,4] kAa (kT a.Length a.Mass a.Direct [.cells (nq1 density),.cells (nq1 f)]) (ac (cv (yc N a b)) (ac (cv (y8 N density k c)) (ac (hs (.run [2] (qp ZT 100 (.ptr 2 0) (.agg (nq1 f))) (kT a.Length a.Mass a.Direct (.cells (nq1 density)::(kI []))) .undef (kT a.Length a.Mass a.Direct [.cells (nq1 density),.cells (nq1 f)]) true) (zf (n:=4) (by kernel_rfl) rfl rfl rfl rfl (cac rfl (cac nvc (cac rfl (cac nvc can)))) rfl)) az))) ?_)
  refine Goes.ret ?_
  obtain rfl:=si h
  exact(gw2 [.agg (nq1 f)] (FzW.agg (qc.cons (Ua tI) (qc.cons (Ua (qw (qa .u64) _ (nl rfl))) (qc.cons (Ua tI) (qc.cons (Ua (qw (qa .u64) _ (nl rfl))) qc.nil))))))
 refine Goes.skip ?_
 obtain⟨o,d,h⟩:=bnd h
 obtain⟨g,e,h⟩:=bnd h
 refine sq (gq fol [1,3,4] kAa (kT a.Length a.Mass a.Direct [.cells (nq1 density),.cells (nq1 g)]) (ac (cv (yc N a d)) (ac (cv (y8 N o density e)) (ac (hs (.run [2] (qp ZT 100 (.ptr 2 0) (.agg (nq1 g))) (kT a.Length a.Mass a.Direct (.cells (nq1 density)::(kI []))) .undef (kT a.Length a.Mass a.Direct [.cells (nq1 density),.cells (nq1 g)]) true) (zf (n:=4) (by kernel_rfl) rfl rfl rfl rfl (cac rfl (cac nvc (cac rfl (cac nvc can)))) rfl)) az))) ?_)
 refine Goes.ret ?_
 obtain rfl:=si h
 exact(gw2 [.agg (nq1 g)] (FzW.agg (qc.cons (Ua tI) (qc.cons (Ua (qw (qa .u64) _ (nl rfl))) (qc.cons (Ua tI) (qc.cons (Ua (qw (qa .u64) _ (nl rfl))) qc.nil))))))
def jb (N:Nat) (a:qz) (count:qG):Option qG:=
 if a.Direct=true then
 (zC N a).bind fun b=>
 (yV N count b).bind fun c=>
 some c
 else
 (zC N a).bind fun d=>
 (jX N d count).bind fun e=>
 some e
theorem qav (N:Nat) (a:qz) (count:qG) {res:qG} (h:jb N a count=some res):qb ZT (.fn 115) [.agg [.i a.Length,.i a.Mass,.bool a.Direct],.agg (nq1 count)] [] (.agg (nq1 res)) []:=by
 unfold jb at h
 refine Ub Tryz.func115 rfl rfl (m:=15) rfl (rs:=[.cell 4 100]) rfl (l:=[(0,.agg [.i a.Length,.i a.Mass,.bool a.Direct]),(1,.agg (nq1 count))]) rfl ?_
 refine sg fol (kE []) (kT a.Length a.Mass a.Direct (.cells (nq1 count)::(kI []))) ?_
 refine sq ?_
 refine sh fol (kE [(6,.bool a.Direct)]) ?_
 refine ihB h (fun j h=>?_) (fun j h=>?_)
 ·obtain⟨k,b,h⟩:=bnd h
  obtain⟨f,c,h⟩:=bnd h
  refine sq (gq fol [2,3,4] kAa (kT a.Length a.Mass a.Direct [.cells (nq1 count),.cells (nq1 f)]) (ac (cv (yc N a b)) (ac (cv (qbh N count k c)) (ac (hs (.run [2] (qp ZT 100 (.ptr 2 0) (.agg (nq1 f))) (kT a.Length a.Mass a.Direct (.cells (nq1 count)::(kI []))) .undef (kT a.Length a.Mass a.Direct [.cells (nq1 count),.cells (nq1 f)]) true) (zf (n:=4) (by kernel_rfl) rfl rfl rfl rfl (cac rfl (cac nvc (cac rfl (cac nvc can)))) rfl)) az))) ?_)
  refine Goes.ret ?_
  obtain rfl:=si h
  exact(gw2 [.agg (nq1 f)] (FzW.agg (qc.cons (Ua tI) (qc.cons (Ua (qw (qa .u64) _ (nl rfl))) (qc.cons (Ua tI) (qc.cons (Ua (qw (qa .u64) _ (nl rfl))) qc.nil))))))
 refine Goes.skip ?_
 obtain⟨o,d,h⟩:=bnd h
 obtain⟨g,e,h⟩:=bnd h
 refine sq (gq fol [1,3,4] kAa (kT a.Length a.Mass a.Direct [.cells (nq1 count),.cells (nq1 g)]) (ac (cv (yc N a d)) (ac (cv (y8 N o count e)) (ac (hs (.run [2] (qp ZT 100 (.ptr 2 0) (.agg (nq1 g))) (kT a.Length a.Mass a.Direct (.cells (nq1 count)::(kI []))) .undef (kT a.Length a.Mass a.Direct [.cells (nq1 count),.cells (nq1 g)]) true) (zf (n:=4) (by kernel_rfl) rfl rfl rfl rfl (cac rfl (cac nvc (cac rfl (cac nvc can)))) rfl)) az))) ?_)
 refine Goes.ret ?_
 obtain rfl:=si h
 exact(gw2 [.agg (nq1 g)] (FzW.agg (qc.cons (Ua tI) (qc.cons (Ua (qw (qa .u64) _ (nl rfl))) (qc.cons (Ua tI) (qc.cons (Ua (qw (qa .u64) _ (nl rfl))) qc.nil))))))
def vT (N:Nat) (a:qz) (b:qz) (count:Str):Option (Str×Int):=
 (jk N a).bind fun e=>
 (jk N b).bind fun f=>
 (jD N count).bind fun g=>
 (zX N ([e,f,g]:List Int)).bind fun c=>
 if(!decide (c=0))=true then
 some ([],c)
 else
 (yE N count).bind fun h=>
 (jb N a h).bind fun i=>
 (vZ N b i).bind fun j=>
 (xK N j).bind fun d=>
 some (d.1,d.2)
theorem qag (N:Nat) (a:qz) (b:qz) (count:Str) {res:Str×Int} (h:vT N a b count=some res):qb ZT (.fn 36) [.agg [.i a.Length,.i a.Mass,.bool a.Direct],.agg [.i b.Length,.i b.Mass,.bool b.Direct],.str count] [] (.tuple [.str res.1,.i res.2]) []:=by
 unfold vT at h
 refine Ub Tryz.func36 rfl rfl (m:=29) rfl (rs:=[.tmp 6,.tmp 7]) rfl (l:=[(0,.agg [.i a.Length,.i a.Mass,.bool a.Direct]),(1,.agg [.i b.Length,.i b.Mass,.bool b.Direct]),(2,.str count)]) rfl ?_
 refine sg fol (kG count []) (kT a.Length a.Mass a.Direct (kT b.Length b.Mass b.Direct [])) ?_
 refine sq ?_
 obtain⟨p,d,h⟩:=bnd h
 obtain⟨q,e,h⟩:=bnd h
 obtain⟨r,f,h⟩:=bnd h
 obtain⟨c,g,h⟩:=bnd h
 refine sq (gq fol [1,3,5,7] (kG count [(8,.i c)]) (kT a.Length a.Mass a.Direct (kT b.Length b.Mass b.Direct [.cells [.i p,.i q,.i r]])) (ac (cv (xZ N a d)) (ac (cv (xZ N b e)) (ac (cv (qaP N count f)) (ac (hs (.call 110 [.slice 2 0 3 3 1] (kT a.Length a.Mass a.Direct (kT b.Length b.Mass b.Direct [.cells [.i p,.i q,.i r]])) [2] [vl encI ([p,q,r]:List Int)] (.i c)) (qbc (FzL.cons (Fz.lit rfl rfl (Ue (AllST.cons tI (AllST.cons tI (AllST.cons tI AllST.nil))))) FzL.nil) (xw N ([p,q,r]:List Int) g) tI rfl)) az)))) ?_)
 refine sh fol (kG count [(8,.i c),(18,.bool (!decide (c=0)))]) ?_
 refine ihB h (fun t h=>?_) (fun t h=>?_)
 ·refine sh fol [(6,.str []),(7,.i c)] ?_
  refine Goes.ret ?_
  obtain rfl:=si h
  exact(gw2 [.str [],.i c] (FzW.tuple (qc.cons (Ua tS) (qc.cons (Ua tI) qc.nil))))
 refine Goes.skip ?_
 obtain⟨u,j,h⟩:=bnd h
 obtain⟨v,k,h⟩:=bnd h
 obtain⟨w,n,h⟩:=bnd h
 obtain⟨s,o,h⟩:=bnd h
 refine sq (gr fol [3,4,5,6] [(6,.str s.1),(7,.i s.2)] (ac (cv (vY N count j)) (ac (cv (qav N a u k)) (ac (cv (qdh N b v n)) (ac (cv (qbP N w o)) az)))) ?_)
 refine Goes.ret ?_
 obtain rfl:=si h
 exact(gw2 [.str s.1,.i s.2] (FzW.tuple (qc.cons (Ua tS) (qc.cons (Ua tI) qc.nil))))
def qQ (N:Nat) (l:List Str):Nat->Int->Option (Unit⊕Int)
 |0,_=>none
 |K+1,a=>
  if a<(l.length:Int)then
  (idx l a).bind fun c=>
  (yR N c).bind fun b=>
  if(!decide (b=0))=true then
  some (.inr b)
  else
  qQ N l K (w64 (a+1))
  else
  some (.inl ())
def jR (N:Nat) (l:List Str):Option Int:=
 (qQ N l N 0).bind (fun
 |(.inl ())=>
 some 0
 |(.inr a)=>
 some a)
theorem qbL (N:Nat) (l:List Str) {res:Int} (h:jR N l=some res):qb ZT (.fn 116) [vl encS l] [] (.i res) []:=by
 unfold jR at h
 refine Ub Tryz.func116 rfl rfl (m:=18) rfl (rs:=[.tmp 2]) rfl (l:=[(0,vl encS l)]) rfl ?_
 refine sh fol [(0,vl encS l)] ?_
 refine sq ?_
 refine sh fol [(6,vl encS l),(7,.i (l.length:Int)),(8,.i 0)] ?_
 refine Goes.block ?_
 obtain⟨e,g2,h⟩:=bnd h
 refine Goes.imp (Q:=fun x s'=>(x= .exit 0/\(.inl ())=e/\Sub s' (ofG 18 [],[]))\/(x= .ret/\ ∃f,(.inr f)=e/\jh ZT [.tmp 2] (.i f) .ret s')) ?_ ?_
 ·refine Uc (fun M s=> ∃(a:Int),s=(ofG 18 ((6,vl encS l)::(kAf (l.length:Int) a)),[])/\qQ N l M a=some e) ?_ (m:=N) ⟨_,rfl,g2⟩
  rintro M s ⟨a,rfl,g2⟩
  cases M with
  |zero=>simp only[qQ]at g2;cases g2
  |succ M=>
   rw[qQ]at g2
   refine sh fol [(6,vl encS l),(7,.i (l.length:Int)),(8,.i a),(9,.bool (decide (a<(l.length:Int))))] ?_
   refine sq ?_
   refine ihD g2 (fun j g2=>?_) (fun j g2=>?_)
   ·refine Goes.skip ?_
    refine sq (Goes.block ?_)
    obtain⟨g,b,g2⟩:=bnd g2
    refine sq (gr fol [0,1] ((4,.str g)::(6,vl encS l)::(kAf (l.length:Int) a)) (ac (iv sl58 encS b) (ac (lv 0 ce22 encS b rfl) az)) ?_)
    obtain⟨c,d,g2⟩:=bnd g2
    refine sq (gr fol [1] ((5,.i c)::(6,vl encS l)::(kAf (l.length:Int) a)) (ac (cv (qbd N g d)) az) ?_)
    refine sh fol [(5,.i c),(6,vl encS l),(7,.i (l.length:Int)),(8,.i a),(15,.bool (!decide (c=0)))] ?_
    refine ihB g2 (fun k g2=>?_) (fun k g2=>?_)
    ·refine sh fol (kAi c) ?_
     refine Goes.ret ?_
     obtain rfl:=si g2
     exact Or.inr (⟨rfl,_,rfl,(gw2 [.i c] (Ua tI))⟩)
    refine Goes.skip ?_
    refine gh fol ((6,vl encS l)::(kAf (l.length:Int) (w64 (a+1)))) ?_
    exact⟨M,(ofG 18 ((6,vl encS l)::(kAf (l.length:Int) (w64 (a+1)))),[]),Nat.lt_succ_self _,(Sub.refl _),_,rfl,g2⟩
   refine Goes.exit ?_
   obtain rfl:=si g2
   exact Or.inl (⟨rfl,rfl,(Sub.keep [] rfl rfl)⟩)
 rintro x s' (⟨rfl,rfl,hsub⟩|⟨rfl,n,rfl,hret⟩)
 ·try dsimp only at h
  refine Goes.sub hsub ?_
  refine sh fol [(2,.i 0)] ?_
  refine Goes.ret ?_
  obtain rfl:=si h
  exact(gw2 [.i 0] (Ua tI))
 try dsimp only at h
 obtain rfl:=si h
 exact hret
def qae (N:Nat) (a:qG):Option (Str×Int):=
 (yw N a).bind fun b=>
 if b=true then
 some ([],4)
 else
 (xu N a).bind fun c=>
 some (c,0)
theorem qfq (N:Nat) (a:qG) {res:Str×Int} (h:qae N a=some res):qb ZT (.fn 87) [.agg (nq1 a)] [] (.tuple [.str res.1,.i res.2]) []:=by
 unfold qae at h
 refine Ub Tryz.func87 rfl rfl (m:=8) rfl (rs:=[.tmp 2,.tmp 3]) rfl (l:=[(0,.agg (nq1 a))]) rfl ?_
 refine sg fol (kAY []) [.cells (nq1 a)] ?_
 refine sq ?_
 obtain⟨e,b,h⟩:=bnd h
 refine sq (gr fol [1] (kAY [(5,.bool e)]) (ac (cv (qbX N a b)) az) ?_)
 refine ihB h (fun f h=>?_) (fun f h=>?_)
 ·refine sh fol [(2,.str []),(3,.i 4)] ?_
  refine Goes.ret ?_
  obtain rfl:=si h
  exact(gw2 [.str [],.i 4] (FzW.tuple (qc.cons (Ua tS) (qc.cons (Ua tI) qc.nil))))
 refine Goes.skip ?_
 obtain⟨d,c,h⟩:=bnd h
 refine sq (gr fol [1] [(2,.str d),(3,.i 0)] (ac (cv (qcf N a c)) az) ?_)
 refine Goes.ret ?_
 obtain rfl:=si h
 exact(gw2 [.str d,.i 0] (FzW.tuple (qc.cons (Ua tS) (qc.cons (Ua tI) qc.nil))))
def xA (N:Nat) (a:Str) (b:Str):Option (Str×Int):=
 (jR N ([a,b]:List Str)).bind fun c=>
 if(!decide (c=0))=true then
 some ([],c)
 else
 (yE N a).bind fun e=>
 (yE N b).bind fun f=>
 (jX N e f).bind fun g=>
 (qae N g).bind fun d=>
 some (d.1,d.2)
theorem qdl (N:Nat) (a:Str) (b:Str) {res:Str×Int} (h:xA N a b=some res):qb ZT (.fn 117) [.str a,.str b,.func (.func 88) [] []] [] (.tuple [.str res.1,.i res.2]) []:=by
 unfold xA at h
 refine Ub Tryz.func117 rfl rfl (m:=25) rfl (rs:=[.tmp 6,.tmp 7]) rfl (l:=(kS a b [(2,.func (.func 88) [] [])])) rfl ?_
 refine sh fol (kS a b [(2,.func (.func 88) [] [])]) ?_
 refine sq ?_
 obtain⟨c,d,h⟩:=bnd h
 refine sq (gq fol [3] (kS a b [(2,.func (.func 88) [] []),(8,.i c)]) (kAJ a b []) (ac (hs (.call 116 [.slice 0 0 2 2 1] (kAJ a b []) [0] [vl encS ([a,b]:List Str)] (.i c)) (qbc (FzL.cons (Fz.lit rfl rfl (Ue (AllST.cons tS (AllST.cons tS AllST.nil)))) FzL.nil) (qbL N ([a,b]:List Str) d) tI rfl)) az) ?_)
 refine sh fol (kS a b [(2,.func (.func 88) [] []),(8,.i c),(14,.bool (!decide (c=0)))]) ?_
 refine ihB h (fun n h=>?_) (fun n h=>?_)
 ·refine sh fol [(6,.str []),(7,.i c)] ?_
  refine Goes.ret ?_
  obtain rfl:=si h
  exact(gw2 [.str [],.i c] (FzW.tuple (qc.cons (Ua tS) (qc.cons (Ua tI) qc.nil))))
 refine Goes.skip ?_
 obtain⟨o,e,h⟩:=bnd h
 obtain⟨p,f,h⟩:=bnd h
 obtain⟨q,g,h⟩:=bnd h
 obtain⟨k,j,h⟩:=bnd h
 refine sq (gr fol [2,4,5,6] [(6,.str k.1),(7,.i k.2)] (ac (cv (vY N a e)) (ac (cv (vY N b f)) (ac (cv (y8 N o p g)) (ac (cv (qfq N q j)) az)))) ?_)
 refine Goes.ret ?_
 obtain rfl:=si h
 exact(gw2 [.str k.1,.i k.2] (FzW.tuple (qc.cons (Ua tS) (qc.cons (Ua tI) qc.nil))))
def qal (N:Nat) (a:Str) (b:Str):Option (Str×Int):=
 (jR N ([a,b]:List Str)).bind fun e=>
 (qZ (b==[48]) 6).bind fun f=>
 (jZ N ([e,f]:List Int)).bind fun c=>
 if(!decide (c=0))=true then
 some ([],c)
 else
 (xA N a b).bind fun d=>
 some (d.1,d.2)
theorem qb9 (N:Nat) (a:Str) (b:Str) {res:Str×Int} (h:qal N a b=some res):qb ZT (.fn 37) [.str a,.str b] [] (.tuple [.str res.1,.i res.2]) []:=by
 unfold qal at h
 refine Ub Tryz.func37 rfl rfl (m:=24) rfl (rs:=[.tmp 4,.tmp 5]) rfl (l:=(kS a b [])) rfl ?_
 refine sh fol (kS a b []) ?_
 refine sq ?_
 obtain⟨e,f,h⟩:=bnd h
 obtain⟨n,g,h⟩:=bnd h
 obtain⟨c,j,h⟩:=bnd h
 refine sq (gq fol [3,6,8] (kS a b [(6,.i c)]) (kAJ a b (kAb e n)) (ac (hs (.call 116 [.slice 0 0 2 2 1] (kAJ a b []) [0] [vl encS ([a,b]:List Str)] (.i e)) (qbc (FzL.cons (Fz.lit rfl rfl (Ue (AllST.cons tS (AllST.cons tS AllST.nil)))) FzL.nil) (qbL N ([a,b]:List Str) f) tI rfl)) (ac (cv (yu (b==[48]) 6 g)) (ac (hs (.call 79 [.slice 1 0 2 2 1] (kAJ a b (kAb e n)) [1] [vl encI ([e,n]:List Int)] (.i c)) (qbc (FzL.cons (Fz.lit rfl rfl (Ue (AllST.cons tI (AllST.cons tI AllST.nil)))) FzL.nil) (qbg N ([e,n]:List Int) j) tI rfl)) az))) ?_)
 refine sh fol (kS a b [(6,.i c),(17,.bool (!decide (c=0)))]) ?_
 refine ihB h (fun o h=>?_) (fun o h=>?_)
 ·refine sh fol ((4,.str [])::(kAo c)) ?_
  refine Goes.ret ?_
  obtain rfl:=si h
  exact(gw2 [.str [],.i c] (FzW.tuple (qc.cons (Ua tS) (qc.cons (Ua tI) qc.nil))))
 refine Goes.skip ?_
 obtain⟨d,k,h⟩:=bnd h
 refine sq (gr fol [2] ((4,.str d.1)::(kAo d.2)) (ac (hs (.call 117 [.str a,.str b,.func (.func 88) [] []] [] [] [.str a,.str b,.func (.func 88) [] []] (.tuple [.str d.1,.i d.2])) (qmV (FzL.cons (Ul tS) (FzL.cons (Ul tS) (FzL.cons (Fz.func FzL.nil FzL.nil) FzL.nil))) (qdl N a b k) (Still.tuple (AllST.cons tS (AllST.cons tI AllST.nil))))) az) ?_)
 refine Goes.ret ?_
 obtain rfl:=si h
 exact(gw2 [.str d.1,.i d.2] (FzW.tuple (qc.cons (Ua tS) (qc.cons (Ua tI) qc.nil))))
def yY (N:Nat) (a:qz) (count:Str):Option (Str×Int):=
 (jk N a).bind fun d=>
 (jD N count).bind fun e=>
 (zX N ([d,e]:List Int)).bind fun b=>
 if(!decide (b=0))=true then
 some ([],b)
 else
 (yE N count).bind fun f=>
 (jb N a f).bind fun g=>
 (xK N g).bind fun c=>
 some (c.1,c.2)
theorem qbf (N:Nat) (a:qz) (count:Str) {res:Str×Int} (h:yY N a count=some res):qb ZT (.fn 38) [.agg [.i a.Length,.i a.Mass,.bool a.Direct],.str count] [] (.tuple [.str res.1,.i res.2]) []:=by
 unfold yY at h
 refine Ub Tryz.func38 rfl rfl (m:=23) rfl (rs:=[.tmp 4,.tmp 5]) rfl (l:=[(0,.agg [.i a.Length,.i a.Mass,.bool a.Direct]),(1,.str count)]) rfl ?_
 refine sg fol ((1,.str count)::(kV [])) (kT a.Length a.Mass a.Direct []) ?_
 refine sq ?_
 obtain⟨k,c,h⟩:=bnd h
 obtain⟨n,d,h⟩:=bnd h
 obtain⟨b,e,h⟩:=bnd h
 refine sq (gq fol [1,3,5] ((1,.str count)::(kV [(6,.i b)])) (kT a.Length a.Mass a.Direct (kAb k n)) (ac (cv (xZ N a c)) (ac (cv (qaP N count d)) (ac (hs (.call 110 [.slice 1 0 2 2 1] (kT a.Length a.Mass a.Direct (kAb k n)) [1] [vl encI ([k,n]:List Int)] (.i b)) (qbc (FzL.cons (Fz.lit rfl rfl (Ue (AllST.cons tI (AllST.cons tI AllST.nil)))) FzL.nil) (xw N ([k,n]:List Int) e) tI rfl)) az))) ?_)
 refine sh fol ((1,.str count)::(kV [(6,.i b),(14,.bool (!decide (b=0)))])) ?_
 refine ihB h (fun p h=>?_) (fun p h=>?_)
 ·refine sh fol ((4,.str [])::(kAo b)) ?_
  refine Goes.ret ?_
  obtain rfl:=si h
  exact(gw2 [.str [],.i b] (FzW.tuple (qc.cons (Ua tS) (qc.cons (Ua tI) qc.nil))))
 refine Goes.skip ?_
 obtain⟨q,f,h⟩:=bnd h
 obtain⟨r,g,h⟩:=bnd h
 obtain⟨o,j,h⟩:=bnd h
 refine sq (gr fol [2,3,4] ((4,.str o.1)::(kAo o.2)) (ac (cv (vY N count f)) (ac (cv (qav N a q g)) (ac (cv (qbP N r j)) az))) ?_)
 refine Goes.ret ?_
 obtain rfl:=si h
 exact(gw2 [.str o.1,.i o.2] (FzW.tuple (qc.cons (Ua tS) (qc.cons (Ua tI) qc.nil))))
def jP (name:Str):Option qcd:=
 some (⟨name,[49,47,50,48],[49,48],[(⟨[48],[52]⟩:qI),(⟨[53,48],[55]⟩:qI)],[]⟩:qcd)
theorem qbC (name:Str) {res:qcd} (h:jP name=some res):qb ZT (.fn 39) [.str name] [] (.agg [.str res.Name,.str res.Density,.str res.Twist,vl qE res.Strength,.str res.Dye]) []:=by
 unfold jP at h
 refine Ub Tryz.func39 rfl rfl (m:=8) rfl (rs:=[.cell 2 62]) rfl (l:=(kAI name)) rfl ?_
 refine sg fol ((0,.str name)::(kV [])) [.cells [.str [],.str [],.str [],.nilslice,.str []]] ?_
 refine sg fol (kV []) [.cells [.str name,.str [49,47,50,48],.str [49,48],.slice 1 0 2 2 2,.str []],.cells [.str [48],.str [52],.str [53,48],.str [55]]] ?_
 refine Goes.ret ?_
 obtain rfl:=si h
 exact(gw2 [.agg [.str name,.str [49,47,50,48],.str [49,48],.slice 1 0 2 2 2,.str []]] (FzW.agg (qc.cons (Ua tS) (qc.cons (Ua tS) (qc.cons (Ua tS) (qc.cons (FzW.fz (Fz.lit rfl rfl (Ue (AllST.cons tS (AllST.cons tS (AllST.cons tS (AllST.cons tS AllST.nil))))))) (qc.cons (Ua tS) qc.nil)))))))
def yZ (c:Int):Option Bool:=
 (if c>=97 then
 if c<=122 then
 some true
 else
 if c>=65 then
 some (decide (c<=90))
 else
 some false
 else
 if c>=65 then
 some (decide (c<=90))
 else
 some false:Option Bool).bind fun a=>
 some a
theorem vM (c:Int) {res:Bool} (h:yZ c=some res):qb ZT (.fn 266) [.int .i32 c] [] (.bool res) []:=by
 unfold yZ at h
 refine Ub Tryz.func266 rfl rfl (m:=17) rfl (rs:=[.tmp 2]) rfl (l:=[(0,.int .i32 c)]) rfl ?_
 refine sh fol [(0,.int .i32 c)] ?_
 refine sq ?_
 obtain⟨g,a,h⟩:=bnd h
 refine Goes.cut (s':=(ofG 17 (kAy g),[])) ?_ ?_
 ·rcases wyD a with⟨b,a⟩|⟨b,a⟩
  ·rcases wyD a with⟨d,a⟩|⟨d,a⟩
   ·obtain rfl:=si a
    exact tr fol [2,6] [(2,.bool true)] (ac (gw b) (ac (gw d) az))
   rcases wyD a with⟨e,a⟩|⟨e,a⟩
   ·obtain rfl:=si a
    exact tr fol [2,6,9] (kAy (decide (c<=90))) (ac (gw b) (ac (gw d) (ac (gw e) az)))
   obtain rfl:=si a
   exact tr fol [2,6,9] kAl (ac (gw b) (ac (gw d) (ac (gw e) az)))
  rcases wyD a with⟨f,a⟩|⟨f,a⟩
  ·obtain rfl:=si a
   exact tr fol [2,9] (kAy (decide (c<=90))) (ac (gw b) (ac (gw f) az))
  obtain rfl:=si a
  exact tr fol [2,9] kAl (ac (gw b) (ac (gw f) az))
 refine Goes.ret ?_
 obtain rfl:=si h
 exact(gw2 [.bool g] (Ua tB))
def jl (b:Str):Nat->Nat->Option (Unit⊕Bool)
 |0,_=>none
 |K+1,a=>
  if a<b.length then
  ((yZ (vP b a)).bind fun d=>
  if(!d)=true then
  if(a:Int)=0 then
  some true
  else
  if(!decide ((vP b a)=95))=true then
  if(vP b a)<48 then
  some true
  else
  some (decide ((vP b a)>57))
  else
  some false
  else
  some false:Option Bool).bind fun c=>
  if c=true then
  some (.inr false)
  else
  jl b K (a+runeLen b a)
  else
  some (.inl ())
def xn (N:Nat) (a:Str):Option Bool:=
 (jl a N 0).bind (fun
 |(.inl ())=>
 (if(!(a==[]))=true then
 some (decide ((a.length:Int)<=24))
 else
 some false:Option Bool).bind fun b=>
 some b
 |(.inr c)=>
 some c)
theorem qce (N:Nat) (d:Str) {res:Bool} (h:xn N d=some res):qb ZT (.fn 235) [.str d] [] (.bool res) []:=by
 unfold xn at h
 refine Ub Tryz.func235 rfl rfl (m:=37) rfl (rs:=[.tmp 2]) rfl (l:=(kAI d)) rfl ?_
 refine sh fol (kAI d) ?_
 refine sq ?_
 refine sg fol (kAW d []) [.iter d 0] ?_
 refine Goes.block ?_
 obtain⟨r,g2,h⟩:=bnd h
 refine Goes.imp (Q:=fun x s'=>(x= .exit 0/\(.inl ())=r/\Sub s' (ofG 37 (kAI d),[]))\/(x= .ret/\ ∃w,(.inr w)=r/\jh ZT [.tmp 2] (.bool w) .ret s')) ?_ ?_
 ·refine Goes.sub (s':=(ofG 37 (kAW d []),[.iter d 0])) (Sub.keep [0,6] rfl rfl) ?_
  refine Uc (fun M s=> ∃(e:Nat),s=(ofG 37 (kAW d []),[.iter d e])/\jl d M e=some r) ?_ (m:=N) ⟨_,rfl,g2⟩
  rintro M s ⟨e,rfl,g2⟩
  cases M with
  |zero=>simp only[jl]at g2;cases g2
  |succ M=>
   rw[jl]at g2
   refine sq ?_
   rcases Classical.em (e<d.length)with n|n
   ·rw[if_pos n]at g2
    refine gq fol [0] (kAW d [(7,.tuple [.bool true,.i (e:Int),.int .i32 (vP d e)]),(8,.bool true)]) [.iter d (e+runeLen d e)] (ac (hs (.run [0] (qeL (.ptr 0 0) true) [.iter d e] (.tuple [.bool true,.i (e:Int),.int .i32 (vP d e)]) [.iter d (e+runeLen d e)] true) (qlD rfl n rfl)) az) ?_
    refine sq ?_
    refine Goes.ifB (b:=true) (by kernel_rfl) (fun _=>?_) (fun c=>(by cases c))
    refine Goes.skip ?_
    refine Goes.block ?_
    refine sh fol (kAS d (e:Int) [(4,.int .i32 (vP d e)),(6,.ptr 0 0)]) ?_
    refine sq ?_
    obtain⟨t,a,g2⟩:=bnd g2
    refine Goes.cut (s':=(ofG 37 (kAW d [(29,.bool t)]),[.iter d (e+runeLen d e)])) ?_ ?_
    ·obtain⟨z,g,a⟩:=bnd a
     rcases wyB a with⟨k,a⟩|⟨k,a⟩
     ·rcases wyD a with⟨o,a⟩|⟨o,a⟩
      ·obtain rfl:=si a
       exact tr fol [1,3,6] (kAW d [(29,.bool true)]) (ac (cv (vM (vP d e) g)) (ac (gw k) (ac (gw o) az)))
      rcases wyB a with⟨q,a⟩|⟨q,a⟩
      ·rcases wyD a with⟨u,a⟩|⟨u,a⟩
       ·obtain rfl:=si a
        exact tr fol [1,3,6,9,12] (kAW d [(29,.bool true)]) (ac (cv (vM (vP d e) g)) (ac (gw k) (ac (gw o) (ac (gw q) (ac (gw u) az)))))
       obtain rfl:=si a
       exact tr fol [1,3,6,9,12] (kAW d [(29,.bool (decide ((vP d e)>57)))]) (ac (cv (vM (vP d e) g)) (ac (gw k) (ac (gw o) (ac (gw q) (ac (gw u) az)))))
      obtain rfl:=si a
      exact tr fol [1,3,6,9] (kAW d [(29,.bool false)]) (ac (cv (vM (vP d e) g)) (ac (gw k) (ac (gw o) (ac (gw q) az))))
     obtain rfl:=si a
     exact tr fol [1,3] (kAW d [(29,.bool false)]) (ac (cv (vM (vP d e) g)) (ac (gw k) az))
    refine ihB g2 (fun v g2=>?_) (fun v g2=>?_)
    ·refine sh fol kAl ?_
     refine Goes.ret ?_
     obtain rfl:=si g2
     exact Or.inr (⟨rfl,_,rfl,(gw2 [.bool false] (Ua tB))⟩)
    refine Goes.skip ?_
    exact⟨M,(ofG 37 (kAW d []),[.iter d (e+runeLen d e)]),Nat.lt_succ_self _,(Sub.keep [0,6] rfl rfl),_,rfl,g2⟩
   rw[if_neg n]at g2
   refine gr fol [0] (kAW d [(7,.tuple [.bool false]),(8,.bool false)]) (ac (hs (.run [0] (qeL (.ptr 0 0) true) [.iter d e] (.tuple [.bool false]) [.iter d e] false) (qlS rfl n)) az) ?_
   refine sq ?_
   refine Goes.ifB (b:=false) (by kernel_rfl) (fun c=>(by cases c)) (fun _=>?_)
   refine Goes.exit ?_
   obtain rfl:=si g2
   exact Or.inl (⟨rfl,rfl,(Sub.norm [] [] rfl rfl (.keep (.same nS) .nil) .nil)⟩)
 rintro x s' (⟨rfl,rfl,hsub⟩|⟨rfl,y,rfl,hret⟩)
 ·try dsimp only at h
  refine Goes.sub hsub ?_
  refine sq ?_
  obtain⟨p,f,h⟩:=bnd h
  refine Goes.cut (s':=(ofG 37 (kAy p),[])) ?_ ?_
  ·rcases wyB f with⟨j,f⟩|⟨j,f⟩
   ·obtain rfl:=si f
    exact tr fol [2] (kAy (decide ((d.length:Int)<=24))) (ac (gw j) az)
   obtain rfl:=si f
   exact tr fol [2] kAl (ac (gw j) az)
  refine Goes.ret ?_
  obtain rfl:=si h
  exact(gw2 [.bool p] (Ua tB))
 try dsimp only at h
 obtain rfl:=si h
 exact hret
def qcB (N:Nat) (a:Str):Option Int:=
 (xn N a).bind fun b=>
 (jv (!b) 8).bind fun c=>
 some c
theorem qho (N:Nat) (a:Str) {res:Int} (h:qcB N a=some res):qb ZT (.fn 179) [.str a] [] (.i res) []:=by
 unfold qcB at h
 refine Ub Tryz.func179 rfl rfl (m:=7) rfl (rs:=[.tmp 2]) rfl (l:=(kAI a)) rfl ?_
 refine sh fol (kAI a) ?_
 obtain⟨e,b,h⟩:=bnd h
 obtain⟨d,c,h⟩:=bnd h
 refine sq (gr fol [1,3] (kAi d) (ac (cv (qce N a b)) (ac (cv (vW (!e) 8 c)) az)) ?_)
 refine Goes.ret ?_
 obtain rfl:=si h
 exact(gw2 [.i d] (Ua tI))
def qay (N:Nat) (a:qG) (b:qG):Option Int:=
 (qU N a.Num b.Den).bind fun c=>
 (qU N b.Num a.Den).bind fun d=>
 (qar N c d).bind fun e=>
 some e
theorem qfF (N:Nat) (a:qG) (b:qG) {res:Int} (h:qay N a b=some res):qb ZT (.fn 86) [.agg (nq1 a),.agg (nq1 b)] [] (.i res) []:=by
 unfold qay at h
 refine Ub Tryz.func86 rfl rfl (m:=16) rfl (rs:=[.tmp 4]) rfl (l:=[(0,.agg (nq1 a)),(1,.agg (nq1 b))]) rfl ?_
 refine sg fol (kV (kAz [])) [.cells (nq1 a),.cells (nq1 b)] ?_
 obtain⟨g,c,h⟩:=bnd h
 obtain⟨j,d,h⟩:=bnd h
 obtain⟨f,e,h⟩:=bnd h
 refine sq (gr fol [4,9,10] [(4,.i f)] (ac (cv (vD N a.Num b.Den c)) (ac (cv (vD N b.Num a.Den d)) (ac (cv (qdb N g j e)) az))) ?_)
 refine Goes.ret ?_
 obtain rfl:=si h
 exact(gw2 [.i f] (Ua tI))
def jA (N:Nat) (a:Str):Option Int:=
 (qao N a 0).bind fun b=>
 some b
theorem qbe (N:Nat) (a:Str) {res:Int} (h:jA N a=some res):qb ZT (.fn 119) [.str a] [] (.i res) []:=by
 unfold jA at h
 refine Ub Tryz.func119 rfl rfl (m:=5) rfl (rs:=[.tmp 2]) rfl (l:=(kAI a)) rfl ?_
 refine sh fol (kAI a) ?_
 obtain⟨c,b,h⟩:=bnd h
 refine sq (gr fol [1] (kAi c) (ac (cv (qd7 N a 0 b)) az) ?_)
 refine Goes.ret ?_
 obtain rfl:=si h
 exact(gw2 [.i c] (Ua tI))
def jS (N:Nat) (p:qI) (before:List qI):Option Int:=
 (jA N p.X).bind fun e=>
 (jA N p.Y).bind fun f=>
 (zX N ([e,f]:List Int)).bind fun d=>
 (if(!decide (d=0))=true then
 some true
 else
 some (decide ((before.length:Int)=0)):Option Bool).bind fun g=>
 if g=true then
 some d
 else
 (idx before (w64 ((before.length:Int)-1))).bind fun h=>
 (yE N p.X).bind fun i=>
 (yE N h.X).bind fun a=>
 (qay N i a).bind fun b=>
 (jv (decide (b<=0)) 11).bind fun c=>
 some c
theorem qem (N:Nat) (p:qI) (before:List qI) {res:Int} (h:jS N p before=some res):qb ZT (.fn 194) [.agg [.str p.X,.str p.Y],vl qE before] [] (.i res) []:=by
 unfold jS at h
 refine Ub Tryz.func194 rfl rfl (m:=38) rfl (rs:=[.tmp 4]) rfl (l:=[(0,.agg [.str p.X,.str p.Y]),(1,vl qE before)]) rfl ?_
 refine sg fol ((1,vl qE before)::(kV [])) (kAJ p.X p.Y []) ?_
 refine sq ?_
 obtain⟨g,j,h⟩:=bnd h
 obtain⟨k,n,h⟩:=bnd h
 obtain⟨c,o,h⟩:=bnd h
 refine sq (gq fol [2,5,7] ((1,vl qE before)::(kV (kAo c))) (kAJ p.X p.Y (kAb g k)) (ac (cv (qbe N p.X j)) (ac (cv (qbe N p.Y n)) (ac (hs (.call 110 [.slice 1 0 2 2 1] (kAJ p.X p.Y (kAb g k)) [1] [vl encI ([g,k]:List Int)] (.i c)) (qbc (FzL.cons (Fz.lit rfl rfl (Ue (AllST.cons tI (AllST.cons tI AllST.nil)))) FzL.nil) (xw N ([g,k]:List Int) o) tI rfl)) az))) ?_)
 refine sq ?_
 obtain⟨w,a,h⟩:=bnd h
 refine Goes.cut (s':=(ofG 38 ((1,vl qE before)::(kV [(5,.i c),(21,.bool w)])),(kAJ p.X p.Y (kAb g k)))) ?_ ?_
 ·rcases wyB a with⟨s,a⟩|⟨s,a⟩
  ·obtain rfl:=si a
   exact tr fol [2] ((1,vl qE before)::(kV [(5,.i c),(21,.bool true)])) (ac (gw s) az)
  obtain rfl:=si a
  exact tr fol [2] ((1,vl qE before)::(kV [(5,.i c),(21,.bool (decide ((before.length:Int)=0)))])) (ac (gw s) az)
 refine ihB h (fun x h=>?_) (fun x h=>?_)
 ·refine sh fol [(4,.i c)] ?_
  refine Goes.ret ?_
  obtain rfl:=si h
  exact(gw2 [.i c] (Ua tI))
 refine Goes.skip ?_
 obtain⟨v,b,h⟩:=bnd h
 refine sq (gr fol [4,6] (kV [(6,.str v.X)]) (ac (iv sl60 qE b) (ac (lv 0 ce22 qE b rfl) az)) ?_)
 obtain⟨y,q,h⟩:=bnd h
 obtain⟨t,d,h⟩:=bnd h
 obtain⟨u,e,h⟩:=bnd h
 obtain⟨r,f,h⟩:=bnd h
 refine sq (gr fol [2,4,5,7] [(4,.i r)] (ac (cv (vY N p.X q)) (ac (cv (vY N v.X d)) (ac (cv (qfF N y t e)) (ac (cv (vW (decide (u<=0)) 11 f)) az)))) ?_)
 refine Goes.ret ?_
 obtain rfl:=si h
 exact(gw2 [.i r] (Ua tI))
def qaZ (N:Nat) (a:Str):Option Int:=
 (if(!(a==[]))=true then
 (xn N a).bind fun b=>
 (jv (!b) 8).bind fun c=>
 some c
 else
 (jv false 8).bind fun d=>
 some d:Option Int).bind fun e=>
 some e
theorem qft (N:Nat) (b:Str) {res:Int} (h:qaZ N b=some res):qb ZT (.fn 195) [.str b] [] (.i res) []:=by
 unfold qaZ at h
 refine Ub Tryz.func195 rfl rfl (m:=11) rfl (rs:=[.tmp 2]) rfl (l:=(kAI b)) rfl ?_
 refine sh fol (kAI b) ?_
 refine sq ?_
 obtain⟨g,a,h⟩:=bnd h
 refine Goes.cut (s':=(ofG 11 (kAi g),[])) ?_ ?_
 ·rcases wyB a with⟨f,a⟩|⟨f,a⟩
  ·obtain⟨j,c,a⟩:=bnd a
   obtain⟨k,d,a⟩:=bnd a
   obtain rfl:=si a
   exact tr fol [2,4,7] (kAi k) (ac (gw f) (ac (cv (qce N b c)) (ac (cv (vW (!j) 8 d)) az)))
  obtain⟨n,e,a⟩:=bnd a
  obtain rfl:=si a
  exact tr fol [2,7] (kAi n) (ac (gw f) (ac (cv (vW false 8 e)) az))
 refine Goes.ret ?_
 obtain rfl:=si h
 exact(gw2 [.i g] (Ua tI))
def qD (N:Nat) (a:List qI):Nat->Int->Option (Unit⊕Int)
 |0,_=>none
 |K+1,b=>
  if b<(a.length:Int)then
  (idx a b).bind fun d=>
  (cut a 0 b).bind fun e=>
  (jS N d e).bind fun c=>
  if(!decide (c=0))=true then
  some (.inr c)
  else
  qD N a K (w64 (b+1))
  else
  some (.inl ())
def vK (N:Nat) (a:List qI) (b:Int):Option Int:=
 if(a.length:Int)>b then
 some 5
 else
 (qD N a N 0).bind (fun
 |(.inl ())=>
 some 0
 |(.inr c)=>
 some c)
theorem qc9 (N:Nat) (a:List qI) (c:Int) {res:Int} (h:vK N a c=some res):qb ZT (.fn 193) [vl qE a,.i c,.func (.func 194) [] []] [] (.i res) []:=by
 unfold vK at h
 refine Ub Tryz.func193 rfl rfl (m:=31) rfl (rs:=[.tmp 6]) rfl (l:=(kAw a [(1,.i c),(2,.func (.func 194) [] [])])) rfl ?_
 refine sh fol (kAw a [(1,.i c),(2,.func (.func 194) [] [])]) ?_
 refine sq ?_
 refine sh fol (kAw a [(2,.func (.func 194) [] []),(13,.bool (decide ((a.length:Int)>c)))]) ?_
 refine ihD h (fun p h=>?_) (fun p h=>?_)
 ·refine sh fol [(6,.i 5)] ?_
  refine Goes.ret ?_
  obtain rfl:=si h
  exact(gw2 [.i 5] (Ua tI))
 refine Goes.skip ?_
 refine sq ?_
 refine sh fol (kAw a [(2,.func (.func 194) [] []),(14,vl qE a),(15,.i (a.length:Int)),(16,.i 0)]) ?_
 refine Goes.block ?_
 obtain⟨j,g3,h⟩:=bnd h
 refine Goes.imp (Q:=fun x s'=>(x= .exit 0/\(.inl ())=j/\Sub s' (ofG 31 [],[]))\/(x= .ret/\ ∃n,(.inr n)=j/\jh ZT [.tmp 6] (.i n) .ret s')) ?_ ?_
 ·refine Uc (fun M s=> ∃(b:Int),s=(ofG 31 (kAw a ((2,.func (.func 194) [] [])::(kAg a (a.length:Int) b []))),[])/\qD N a M b=some j) ?_ (m:=N) ⟨_,rfl,g3⟩
  rintro M s ⟨b,rfl,g3⟩
  cases M with
  |zero=>simp only[qD]at g3;cases g3
  |succ M=>
   rw[qD]at g3
   refine sh fol (kAw a ((2,.func (.func 194) [] [])::(kAg a (a.length:Int) b [(17,.bool (decide (b<(a.length:Int))))]))) ?_
   refine sq ?_
   refine ihD g3 (fun q g3=>?_) (fun q g3=>?_)
   ·refine Goes.skip ?_
    refine sq (Goes.block ?_)
    obtain⟨k,d,g3⟩:=bnd g3
    refine sq (gq fol [1,2] (kAw a ((2,.func (.func 194) [] [])::(7,.i b)::(8,.ptr 0 0)::(kAg a (a.length:Int) b []))) (kAJ k.X k.Y []) (ac (iv sl60 qE d) (ac (la ag83 qE d) az)) ?_)
    obtain⟨o,e,g3⟩:=bnd g3
    obtain⟨f,g,g3⟩:=bnd g3
    refine sq (gr fol [4,5] (kAw a ((2,.func (.func 194) [] [])::(9,.i f)::(kAg a (a.length:Int) b []))) (ac (hs (.done (.opt (qW ZT 60 (vl qE a) none (some (.i b)) none)) (vl qE o)) (qiB sl60 (E:=qE) rfl none (some b) e)) (ac (cv (qem N k o g)) az)) ?_)
    refine sh fol (kAw a ((2,.func (.func 194) [] [])::(9,.i f)::(kAg a (a.length:Int) b [(28,.bool (!decide (f=0)))]))) ?_
    refine ihB g3 (fun r g3=>?_) (fun r g3=>?_)
    ·refine sh fol [(6,.i f)] ?_
     refine Goes.ret ?_
     obtain rfl:=si g3
     exact Or.inr (⟨rfl,_,rfl,(gw2 [.i f] (Ua tI))⟩)
    refine Goes.skip ?_
    refine gh fol (kAw a ((2,.func (.func 194) [] [])::(kAg a (a.length:Int) (w64 (b+1)) []))) ?_
    exact⟨M,(ofG 31 (kAw a ((2,.func (.func 194) [] [])::(kAg a (a.length:Int) (w64 (b+1)) []))),[]),Nat.lt_succ_self _,(Sub.norm [] [] rfl rfl (.keep (.same (qg qE _)) (.keep (.same (qC.func sn sn)) (.keep (.same (qg qE _)) (.keep (.same nI) (.keep (.same nI) .nil))))) .nil),_,rfl,g3⟩
   refine Goes.exit ?_
   obtain rfl:=si g3
   exact Or.inl (⟨rfl,rfl,(Sub.keep [] rfl rfl)⟩)
 rintro x s' (⟨rfl,rfl,hsub⟩|⟨rfl,t,rfl,hret⟩)
 ·try dsimp only at h
  refine Goes.sub hsub ?_
  refine sh fol [(6,.i 0)] ?_
  refine Goes.ret ?_
  obtain rfl:=si h
  exact(gw2 [.i 0] (Ua tI))
 try dsimp only at h
 obtain rfl:=si h
 exact hret
def yx (N:Nat) (y:qcd):Option Int:=
 (qcB N y.Name).bind fun a=>
 (jD N y.Density).bind fun b=>
 (yR N y.Twist).bind fun c=>
 (jv (decide ((y.Strength.length:Int)=0)) 12).bind fun d=>
 (vK N y.Strength 256).bind fun e=>
 (qaZ N y.Dye).bind fun f=>
 (zX N ([a,b,c,d,e,f]:List Int)).bind fun g=>
 some g
theorem qeQ (N:Nat) (y:qcd) {res:Int} (h:yx N y=some res):qb ZT (.fn 118) [.agg [.str y.Name,.str y.Density,.str y.Twist,vl qE y.Strength,.str y.Dye]] [] (.i res) []:=by
 unfold yx at h
 refine Ub Tryz.func118 rfl rfl (m:=25) rfl (rs:=[.tmp 2]) rfl (l:=[(0,.agg [.str y.Name,.str y.Density,.str y.Twist,vl qE y.Strength,.str y.Dye])]) rfl ?_
 refine sg fol (kAY []) (kZ y.Name y.Density y.Twist y.Strength y.Dye []) ?_
 obtain⟨k,a,h⟩:=bnd h
 obtain⟨n,b,h⟩:=bnd h
 obtain⟨o,c,h⟩:=bnd h
 obtain⟨p,d,h⟩:=bnd h
 obtain⟨e,f,h⟩:=bnd h
 obtain⟨q,g,h⟩:=bnd h
 obtain⟨r,j,h⟩:=bnd h
 refine sq (gq fol [2,5,8,13,16,19,21] (kAi r) (kZ y.Name y.Density y.Twist y.Strength y.Dye [.cells [.i k,.i n,.i o,.i p,.i e,.i q]]) (ac (cv (qho N y.Name a)) (ac (cv (qaP N y.Density b)) (ac (cv (qbd N y.Twist c)) (ac (cv (vW (decide ((y.Strength.length:Int)=0)) 12 d)) (ac (hs (.call 193 [vl qE y.Strength,.i 256,.func (.func 194) [] []] [] [] [vl qE y.Strength,.i 256,.func (.func 194) [] []] (.i e)) (qmV (FzL.cons (Ul (qx qE _ (nl rfl))) (FzL.cons (Ul tI) (FzL.cons (Fz.func FzL.nil FzL.nil) FzL.nil))) (qc9 N y.Strength 256 f) tI)) (ac (cv (qft N y.Dye g)) (ac (hs (.call 110 [.slice 1 0 6 6 1] (kZ y.Name y.Density y.Twist y.Strength y.Dye [.cells [.i k,.i n,.i o,.i p,.i e,.i q]]) [1] [vl encI ([k,n,o,p,e,q]:List Int)] (.i r)) (qbc (FzL.cons (Fz.lit rfl rfl (Ue (AllST.cons tI (AllST.cons tI (AllST.cons tI (AllST.cons tI (AllST.cons tI (AllST.cons tI AllST.nil)))))))) FzL.nil) (xw N ([k,n,o,p,e,q]:List Int) j) tI rfl)) az))))))) ?_)
 refine Goes.ret ?_
 obtain rfl:=si h
 exact(gw2 [.i r] (Ua tI))
def qck (N:Nat) (y:qcd) (length:Str):Option (Str×Int):=
 (yx N y).bind fun c=>
 (jA N length).bind fun d=>
 (zX N ([c,d]:List Int)).bind fun a=>
 if(!decide (a=0))=true then
 some ([],a)
 else
 (yE N y.Density).bind fun e=>
 (yE N length).bind fun f=>
 (yV N e f).bind fun g=>
 (xK N g).bind fun b=>
 some (b.1,b.2)
theorem qid (N:Nat) (y:qcd) (length:Str) {res:Str×Int} (h:qck N y length=some res):qb ZT (.fn 40) [.agg [.str y.Name,.str y.Density,.str y.Twist,vl qE y.Strength,.str y.Dye],.str length] [] (.tuple [.str res.1,.i res.2]) []:=by
 unfold qck at h
 refine Ub Tryz.func40 rfl rfl (m:=25) rfl (rs:=[.tmp 4,.tmp 5]) rfl (l:=[(0,.agg [.str y.Name,.str y.Density,.str y.Twist,vl qE y.Strength,.str y.Dye]),(1,.str length)]) rfl ?_
 refine sg fol ((1,.str length)::(kV [])) (kZ y.Name y.Density y.Twist y.Strength y.Dye []) ?_
 refine sq ?_
 obtain⟨k,b,h⟩:=bnd h
 obtain⟨n,c,h⟩:=bnd h
 obtain⟨a,d,h⟩:=bnd h
 refine sq (gq fol [1,3,5] ((1,.str length)::(kV [(6,.i a)])) (kZ y.Name y.Density y.Twist y.Strength y.Dye (kAb k n)) (ac (cv (qeQ N y b)) (ac (cv (qbe N length c)) (ac (hs (.call 110 [.slice 1 0 2 2 1] (kZ y.Name y.Density y.Twist y.Strength y.Dye (kAb k n)) [1] [vl encI ([k,n]:List Int)] (.i a)) (qbc (FzL.cons (Fz.lit rfl rfl (Ue (AllST.cons tI (AllST.cons tI AllST.nil)))) FzL.nil) (xw N ([k,n]:List Int) d) tI rfl)) az))) ?_)
 refine sh fol ((1,.str length)::(kV [(6,.i a),(14,.bool (!decide (a=0)))])) ?_
 refine ihB h (fun p h=>?_) (fun p h=>?_)
 ·refine sh fol ((4,.str [])::(kAo a)) ?_
  refine Goes.ret ?_
  obtain rfl:=si h
  exact(gw2 [.str [],.i a] (FzW.tuple (qc.cons (Ua tS) (qc.cons (Ua tI) qc.nil))))
 refine Goes.skip ?_
 obtain⟨q,e,h⟩:=bnd h
 obtain⟨r,f,h⟩:=bnd h
 obtain⟨s,g,h⟩:=bnd h
 obtain⟨o,j,h⟩:=bnd h
 refine sq (gr fol [2,4,5,6] ((4,.str o.1)::(kAo o.2)) (ac (cv (vY N y.Density e)) (ac (cv (vY N length f)) (ac (cv (qbh N q r g)) (ac (cv (qbP N s j)) az)))) ?_)
 refine Goes.ret ?_
 obtain rfl:=si h
 exact(gw2 [.str o.1,.i o.2] (FzW.tuple (qc.cons (Ua tS) (qc.cons (Ua tI) qc.nil))))
end Go.Av
