/-
  Walks of functions: what each computes, as a plain function.
-/
import Derived.Test.YtjecjkbpopmhjaaGreatDoorQGenV3
noncomputable section
namespace Go.Av
open Go.Proofs Go.RowKit
set_option linter.unusedSectionVars false
set_option linter.unusedVariables false
set_option linter.unusedSimpArgs false
set_option maxRecDepth 100000
def y9 (N:Nat) (a:qI):Option qI:=
 (zJ N (!a.neg) a.w).bind fun b=>
 some b
theorem qd5 (N:Nat) (a:qI) {res:qI} (h:y9 N a=some res):qb ZT (.fn 87) [.agg (kAg a.neg a.w)] [] (.agg (kAg res.neg res.w)) []:=by
 unfold y9 at h
 refine Ub Tryz.func87 rfl rfl (m:=9) rfl (rs:=[.cell 2 72]) rfl (l:=[(0,.agg [.bool a.neg,vl encI a.w])]) rfl ?_
 refine sg fol (kAY kAo) (kAV a.neg a.w (kQ [])) ?_
 obtain⟨c,b,h⟩:=bnd h
 refine sq (gq fol [5] kAo (kN a.neg a.w c.neg c.w []) (ac (cv (z8 N (!a.neg) a.w b)) az) ?_)
 refine Goes.ret ?_
 obtain rfl:=si h
 exact(gw2 [.agg (kAg c.neg c.w)] (FzW.agg (qc.cons (Ua tB) (qc.cons (Ua (qx encI _ (nl rfl))) qc.nil))))
def vV (N:Nat) (n:qI) (d:qI):Option Str:=
 ((if d.neg=true then
 (y9 N n).bind fun l=>
 (y9 N d).bind fun m=>
 some (l.neg,l.w,m.neg,m.w)
 else
 some (n.neg,n.w,d.neg,d.w):Option (Bool×(List Int)×Bool×(List Int)))).bind fun(r,o,s,p)=>
 (qao N o p).bind fun q=>
 (jG N o q).bind fun c=>
 (jG N p q).bind fun a=>
 (zJ N r c.1).bind fun e=>
 (qbh N e).bind fun b=>
 (if(a.1.length:Int)=1 then
 (idx a.1 0).bind fun f=>
 some (decide (f=1))
 else
 some false:Option Bool).bind fun g=>
 if g=true then
 some b
 else
 (cat b [47]).bind fun h=>
 (zJ N false a.1).bind fun i=>
 (qbh N i).bind fun j=>
 (cat h j).bind fun k=>
 some k
theorem qa3 (N:Nat) (n:qI) (d:qI) {res:Str} (h:vV N n d=some res):qb ZT (.fn 47) (kAm n.neg n.w d.neg d.w) [] (.str res) []:=by
 unfold vV at h
 refine Ub Tryz.func47 rfl rfl (m:=57) rfl (rs:=[.tmp 4]) rfl (l:=(kBL n.neg n.w d.neg d.w)) rfl ?_
 refine sg fol (kU (kAj [])) (kN n.neg n.w d.neg d.w []) ?_
 refine sq ?_
 refine sh fol (kU (kAj (kBM d.neg))) ?_
 obtain⟨O,g5,h⟩:=bnd h
 refine Goes.imp (Q:=fun x s'=>(x= .normal/\ ∃y u D v,(y,u,D,v)=O/\Sub s' (ofG 57 (kU (kAj [])),(kN y u D v [])))) ?_ ?_
 ·refine ihB g5 (fun P g5=>?_) (fun P g5=>?_)
  ·obtain⟨L,z,g5⟩:=bnd g5
   obtain⟨M,A,g5⟩:=bnd g5
   refine gq fol [1,3] (kU (kAj [])) (kN L.neg L.w M.neg M.w []) (ac (cv (qd5 N n z)) (ac (cv (qd5 N d A)) az)) ?_
   obtain rfl:=si g5
   exact⟨rfl,_,_,_,_,rfl,(Sub.refl _)⟩
  refine Goes.skip ?_
  obtain rfl:=si g5
  exact⟨rfl,_,_,_,_,rfl,(Sub.keep [2,3] rfl rfl)⟩
 rintro x s' ⟨rfl,y,u,D,v,rfl,hsub⟩
 try dsimp only at h
 refine Goes.sub hsub ?_
 obtain⟨E,B,h⟩:=bnd h
 refine sq (gr fol [4] (kU (kAj (kBJ E []))) (ac (cv (qdC N u v B)) az) ?_)
 obtain⟨f,g,h⟩:=bnd h
 refine sq (gr fol [3] (kU (kAj (kBJ E [(6,vl encI f.1)]))) (ac (cv (qaH N u E g)) az) ?_)
 obtain⟨c,i,h⟩:=bnd h
 refine sq (gr fol [3] (kU [(6,vl encI f.1),(8,vl encI c.1)]) (ac (cv (qaH N v E i)) az) ?_)
 obtain⟨F,j,h⟩:=bnd h
 obtain⟨b,k,h⟩:=bnd h
 refine sq (gr fol [3,4] [(8,vl encI c.1),(10,.str b)] (ac (cv (z8 N y f.1 j)) (ac (cv (qeF N F k)) az)) ?_)
 refine sq ?_
 refine sq ?_
 obtain⟨G,a,h⟩:=bnd h
 refine Goes.cut (s':=(ofG 57 [(8,vl encI c.1),(10,.str b),(49,.bool G)],(kN y u D v []))) ?_ ?_
 ·rcases wyD a with⟨o,a⟩|⟨o,a⟩
  ·obtain⟨H,e,a⟩:=bnd a
   obtain rfl:=si a
   exact tr fol [3,5,6] [(8,vl encI c.1),(10,.str b),(49,.bool (decide (H=1)))] (ac (gw o) (ac (iv jW encI e) (ac (lv 0 ce3 encI e rfl) az)))
  obtain rfl:=si a
  exact tr fol [3] [(8,vl encI c.1),(10,.str b),(49,.bool false)] (ac (gw o) az)
 refine ihB h (fun I h=>?_) (fun I h=>?_)
 ·refine sh fol [(4,.str b)] ?_
  refine Goes.ret ?_
  obtain rfl:=si h
  exact(gw2 [.str b] (Ua tS))
 refine Goes.skip ?_
 obtain⟨C,p,h⟩:=bnd h
 obtain⟨J,q,h⟩:=bnd h
 obtain⟨K,r,h⟩:=bnd h
 obtain⟨s,t,h⟩:=bnd h
 refine sq (gr fol [1,3,4,5] [(4,.str s)] (ac (hs (.done (.opt (ko ZT .add 9 (.tmp 51) (.const (.string ⟨#[47]⟩)) (.str b) (.str [47]))) (.str C)) (qap p)) (ac (cv (z8 N false c.1 q)) (ac (cv (qeF N J r)) (ac (hs (.done (.opt (ko ZT .add 9 (.tmp 52) (.tmp 55) (.str C) (.str K))) (.str s)) (qap t)) az)))) ?_)
 refine Goes.ret ?_
 obtain rfl:=si h
 exact(gw2 [.str s] (Ua tS))
def jQ:Nat->Int->Int->Option Int
 |0,_,_=>none
 |K+1,b,a=>
  if a>0 then
  (qd2 .i64 b a).bind fun c=>
  jQ K a c
  else
  some b
def qcY (N:Nat) (a:Int) (b:Int):Option Int:=
 (jQ N a b).bind fun c=>
 some c
theorem qiP (N:Nat) (a:Int) (b:Int) {res:Int} (h:qcY N a b=some res):qb ZT (.fn 57) [.i a,.i b] [] (.i res) []:=by
 unfold qcY at h
 refine Ub Tryz.func57 rfl rfl (m:=12) rfl (rs:=[.tmp 4]) rfl (l:=(kAU a b [])) rfl ?_
 refine sh fol (kAU a b []) ?_
 refine sq (Goes.block ?_)
 obtain⟨j,g4,h⟩:=bnd h
 refine Goes.imp (Q:=fun x s'=>(x= .exit 0/\ ∃d,d=j/\Sub s' (ofG 12 [(0,.i d)],[]))) ?_ ?_
 ·refine Uc (fun M s=> ∃(e:Int) (c:Int),s=(ofG 12 (kAU e c []),[])/\jQ M e c=some j) ?_ (m:=N) ⟨_,_,rfl,g4⟩
  rintro M s ⟨e,c,rfl,g4⟩
  cases M with
  |zero=>simp only[jQ]at g4;cases g4
  |succ M=>
   rw[jQ]at g4
   refine sq ?_
   refine sh fol (kAU e c [(6,.bool (decide (c>0)))]) ?_
   refine ihD g4 (fun k g4=>?_) (fun k g4=>?_)
   ·refine Goes.skip ?_
    refine Goes.block ?_
    obtain⟨g,f,g4⟩:=bnd g4
    refine gr fol [3] (kAU c g []) (ac (hs (.done (.opt (ko ZT .rem 3 (.tmp 8) (.tmp 9) (.i e) (.i c))) (.i g)) (qfn f)) az) ?_
    exact⟨M,(ofG 12 (kAU c g []),[]),Nat.lt_succ_self _,(Sub.refl _),_,_,rfl,g4⟩
   refine Goes.exit ?_
   obtain rfl:=si g4
   exact⟨rfl,_,rfl,(Sub.keep [0] rfl rfl)⟩
 rintro x s' ⟨rfl,d,rfl,hsub⟩
 refine Goes.sub hsub ?_
 refine sh fol [(4,.i d)] ?_
 refine Goes.ret ?_
 obtain rfl:=si h
 exact(gw2 [.i d] (Ua tI))
def qcQ (N:Nat) (num:Int) (den:Int):Option Str:=
 (if num<(-4000000000000000000)then
 some true
 else
 if num>4000000000000000000 then
 some true
 else
 if den<(-4000000000000000000)then
 some true
 else
 some (decide (den>4000000000000000000)):Option Bool).bind fun m=>
 if m=true then
 (xU N num).bind fun n=>
 (xU N den).bind fun o=>
 (vV N n o).bind fun p=>
 some p
 else
 ((if den<0 then
 some (w64 (0-num),w64 (0-den))
 else
 some (num,den):Option (Int×Int))).bind fun(a,c)=>
 (qcY N (if(w64 (0-a))>a then(w64 (0-a))else a) c).bind fun d=>
 (qb2 .i64 a d).bind fun b=>
 (qb2 .i64 c d).bind fun e=>
 ((if b<0 then
 some [45]
 else
 some []:Option Str)).bind fun g=>
 (zI N (if(w64 (0-b))>b then(w64 (0-b))else b) 1).bind fun h=>
 (cat g h).bind fun f=>
 ((if e>1 then
 (cat f [47]).bind fun i=>
 (zI N e 1).bind fun j=>
 (cat i j).bind fun k=>
 some k
 else
 some f:Option Str)).bind fun l=>
 some l
theorem qf3 (N:Nat) (num:Int) (den:Int) {res:Str} (h:qcQ N num den=some res):qb ZT (.fn 16) [.i num,.i den] [] (.str res) []:=by
 unfold qcQ at h
 refine Ub Tryz.func16 rfl rfl (m:=61) rfl (rs:=[.tmp 4]) rfl (l:=(kAU num den [])) rfl ?_
 refine sh fol (kAU num den []) ?_
 refine sq ?_
 refine sq ?_
 obtain⟨O,a,h⟩:=bnd h
 refine Goes.cut (s':=(ofG 61 (kAU num den [(20,.bool O)]),[])) ?_ ?_
 ·rcases wyD a with⟨v,a⟩|⟨v,a⟩
  ·obtain rfl:=si a
   exact tr fol [2] (kAU num den [(20,.bool true)]) (ac (gw v) az)
  rcases wyD a with⟨C,a⟩|⟨C,a⟩
  ·obtain rfl:=si a
   exact tr fol [2,6] (kAU num den [(20,.bool true)]) (ac (gw v) (ac (gw C) az))
  rcases wyD a with⟨D,a⟩|⟨D,a⟩
  ·obtain rfl:=si a
   exact tr fol [2,6,10] (kAU num den [(20,.bool true)]) (ac (gw v) (ac (gw C) (ac (gw D) az)))
  obtain rfl:=si a
  exact tr fol [2,6,10] (kAU num den [(20,.bool (decide (den>4000000000000000000)))]) (ac (gw v) (ac (gw C) (ac (gw D) az)))
 refine ihB h (fun P h=>?_) (fun P h=>?_)
 ·obtain⟨U,w,h⟩:=bnd h
  obtain⟨V,y,h⟩:=bnd h
  obtain⟨M,z,h⟩:=bnd h
  refine sq (gr fol [1,3,4] [(4,.str M)] (ac (cv (qcb N num w)) (ac (cv (qcb N den y)) (ac (cv (qa3 N U V z)) az))) ?_)
  refine Goes.ret ?_
  obtain rfl:=si h
  exact(gw2 [.str M] (Ua tS))
 refine Goes.skip ?_
 refine sq ?_
 refine sh fol (kAU num den [(27,.bool (decide (den<0)))]) ?_
 obtain⟨E,g12,h⟩:=bnd h
 refine Goes.imp (Q:=fun x s'=>(x= .normal/\ ∃d e,(d,e)=E/\Sub s' (ofG 61 (kAU d e []),[]))) ?_ ?_
 ·refine ihD g12 (fun F g12=>?_) (fun F g12=>?_)
  ·refine gh fol (kAU (w64 (0-num)) (w64 (0-den)) []) ?_
   obtain rfl:=si g12
   exact⟨rfl,_,_,rfl,(Sub.refl _)⟩
  refine Goes.skip ?_
  obtain rfl:=si g12
  exact⟨rfl,_,_,rfl,(Sub.keep [0,1] rfl rfl)⟩
 rintro x s' ⟨rfl,d,e,rfl,hsub⟩
 try dsimp only at h
 refine Goes.sub hsub ?_
 obtain⟨k,n,h⟩:=bnd h
 refine sq (gr fol [5] (kAU d e (kA4 k)) (ac (cv (qiP N (if(w64 (0-d))>d then(w64 (0-d))else d) e n)) az) ?_)
 obtain⟨b,o,h⟩:=bnd h
 obtain⟨c,p,h⟩:=bnd h
 refine sq (gr fol [2,5] (kAU b c []) (ac (hs (.done (.opt (ko ZT .quo 3 (.tmp 38) (.tmp 39) (.i d) (.i k))) (.i b)) (qbJ o)) (ac (hs (.done (.opt (ko ZT .quo 3 (.tmp 41) (.tmp 42) (.i e) (.i k))) (.i c)) (qbJ p)) az)) ?_)
 refine sh fol (kAU b c [(6,.str [])]) ?_
 refine sq ?_
 refine sh fol (kAU b c [(6,.str []),(45,.bool (decide (b<0)))]) ?_
 obtain⟨G,g18,h⟩:=bnd h
 refine Goes.imp (Q:=fun x s'=>(x= .normal/\ ∃g,g=G/\Sub s' (ofG 61 (kAU b c [(6,.str g)]),[]))) ?_ ?_
 ·refine ihD g18 (fun H g18=>?_) (fun H g18=>?_)
  ·refine gh fol (kAU b c [(6,.str [45])]) ?_
   obtain rfl:=si g18
   exact⟨rfl,_,rfl,(Sub.refl _)⟩
  refine Goes.skip ?_
  obtain rfl:=si g18
  exact⟨rfl,_,rfl,(Sub.keep [0,1,6] rfl rfl)⟩
 rintro x s' ⟨rfl,g,rfl,hsub⟩
 refine Goes.sub hsub ?_
 obtain⟨I,q,h⟩:=bnd h
 obtain⟨j,r,h⟩:=bnd h
 refine sq (gr fol [5,6] [(1,.i c),(6,.str j)] (ac (cv (qaq N (if(w64 (0-b))>b then(w64 (0-b))else b) 1 q)) (ac (hs (.done (.opt (ko ZT .add 9 (.tmp 46) (.tmp 51) (.str g) (.str I))) (.str j)) (qap r)) az)) ?_)
 refine sq ?_
 refine sh fol [(1,.i c),(6,.str j),(54,.bool (decide (c>1)))] ?_
 obtain⟨J,g23,h⟩:=bnd h
 refine Goes.imp (Q:=fun x s'=>(x= .normal/\ ∃f,f=J/\Sub s' (ofG 61 [(6,.str f)],[]))) ?_ ?_
 ·refine ihD g23 (fun K g23=>?_) (fun K g23=>?_)
  ·obtain⟨A,s,g23⟩:=bnd g23
   obtain⟨L,t,g23⟩:=bnd g23
   obtain⟨B,u,g23⟩:=bnd g23
   refine gr fol [1,3,4] [(6,.str B)] (ac (hs (.done (.opt (ko ZT .add 9 (.tmp 55) (.const (.string ⟨#[47]⟩)) (.str j) (.str [47]))) (.str A)) (qap s)) (ac (cv (qaq N c 1 t)) (ac (hs (.done (.opt (ko ZT .add 9 (.tmp 56) (.tmp 58) (.str A) (.str L))) (.str B)) (qap u)) az))) ?_
   obtain rfl:=si g23
   exact⟨rfl,_,rfl,(Sub.refl _)⟩
  refine Goes.skip ?_
  obtain rfl:=si g23
  exact⟨rfl,_,rfl,(Sub.keep [6] rfl rfl)⟩
 rintro x s' ⟨rfl,f,rfl,hsub⟩
 refine Goes.sub hsub ?_
 refine sh fol [(4,.str f)] ?_
 refine Goes.ret ?_
 obtain rfl:=si h
 exact(gw2 [.str f] (Ua tS))
def jU (N:Nat) (a:Str):Option (Int×Int×Bool):=
 if(a.length:Int)>20 then
 some (0,0,false)
 else
 (if(a.length:Int)>0 then
 (idx a 0).bind fun l=>
 some (decide ((l.toNat:Int)=45))
 else
 some false:Option Bool).bind fun k=>
 ((if k=true then
 (cut a 1 (a.length:Int)).bind fun m=>
 some m
 else
 some a:Option Str)).bind fun c=>
 (yF N c).bind fun b=>
 (if b>9 then
 some true
 else
 some (decide ((w64 ((c.length:Int)-b))>10)):Option Bool).bind fun e=>
 if e=true then
 some (0,0,false)
 else
 (cut c 0 b).bind fun f=>
 (xg N f).bind fun d=>
 ((if b<(c.length:Int)then
 (cut c (w64 (b+1)) (c.length:Int)).bind fun g=>
 (xg N g).bind fun h=>
 some h
 else
 some 1:Option Int)).bind fun i=>
 ((if k=true then
 some (w64 (0-d))
 else
 some d:Option Int)).bind fun j=>
 some (j,i,true)
theorem qaU (N:Nat) (a:Str) {res:Int×Int×Bool} (h:jU N a=some res):qb ZT (.fn 45) [.str a] [] (.tuple [.i res.1,.i res.2.1,.bool res.2.2]) []:=by
 unfold jU at h
 refine Ub Tryz.func45 rfl rfl (m:=54) rfl (rs:=[.tmp 2,.tmp 3,.tmp 4]) rfl (l:=(kAQ a [])) rfl ?_
 refine sh fol (kAQ a []) ?_
 refine sh fol [(5,.str a)] ?_
 refine sq ?_
 refine sh fol ((5,.str a)::(kBU (decide ((a.length:Int)>20)))) ?_
 refine ihD h (fun I h=>?_) (fun I h=>?_)
 ·refine sh fol ((2,.i 0)::(3,.i 0)::kBK) ?_
  refine Goes.ret ?_
  obtain rfl:=si h
  exact(gw2 [.i 0,.i 0,.bool false] (FzW.tuple (qc.cons (Ua tI) (qc.cons (Ua tI) (qc.cons (Ua tB) qc.nil)))))
 refine Goes.skip ?_
 refine sq ?_
 obtain⟨f,c,h⟩:=bnd h
 refine Goes.cut (s':=(ofG 54 (kAz a f []),[])) ?_ ?_
 ·rcases wyD c with⟨y,c⟩|⟨y,c⟩
  ·obtain⟨G,t,c⟩:=bnd c
   obtain rfl:=si c
   exact tr fol [3,5] (kAz a (decide ((G.toNat:Int)=45)) []) (ac (gw y) (ac (hs (.done (.opt (yo ZT 9 (.str a) (.i 0))) (.int .u8 (G.toNat:Int))) (qaz st9 t)) az))
  obtain rfl:=si c
  exact tr fol [3] ((5,.str a)::kBC) (ac (gw y) az)
 refine sq ?_
 refine sh fol (kAz a f [(22,.bool f)]) ?_
 obtain⟨J,g7,h⟩:=bnd h
 refine Goes.imp (Q:=fun x s'=>(x= .normal/\ ∃g,g=J/\Sub s' (ofG 54 (kAz g f []),[]))) ?_ ?_
 ·refine ihB g7 (fun K g7=>?_) (fun K g7=>?_)
  ·obtain⟨H,u,g7⟩:=bnd g7
   refine gr fol [1] (kAz H f []) (ac (hs (.done (.opt (qV ZT 9 (.str a) (some (.i 1)) none none)) (.str H)) (zT st9 (some 1) none u)) az) ?_
   obtain rfl:=si g7
   exact⟨rfl,_,rfl,(Sub.refl _)⟩
  refine Goes.skip ?_
  obtain rfl:=si g7
  exact⟨rfl,_,rfl,(Sub.keep [5,6] rfl rfl)⟩
 rintro x s' ⟨rfl,g,rfl,hsub⟩
 refine Goes.sub hsub ?_
 obtain⟨b,n,h⟩:=bnd h
 refine sq (gr fol [1] (kAz g f [(7,.i b)]) (ac (cv (xY N g n)) az) ?_)
 refine sq ?_
 refine sq ?_
 obtain⟨z,d,h⟩:=bnd h
 refine Goes.cut (s':=(ofG 54 (kAz g f [(7,.i b),(35,.bool z)]),[])) ?_ ?_
 ·rcases wyD d with⟨o,d⟩|⟨o,d⟩
  ·obtain rfl:=si d
   exact tr fol [2] (kAz g f [(7,.i b),(35,.bool true)]) (ac (gw o) az)
  obtain rfl:=si d
  exact tr fol [2] (kAz g f [(7,.i b),(35,.bool (decide ((w64 ((g.length:Int)-b))>10)))]) (ac (gw o) az)
 refine ihB h (fun A h=>?_) (fun A h=>?_)
 ·refine sh fol ((2,.i 0)::(3,.i 0)::kBK) ?_
  refine Goes.ret ?_
  obtain rfl:=si h
  exact(gw2 [.i 0,.i 0,.bool false] (FzW.tuple (qc.cons (Ua tI) (qc.cons (Ua tI) (qc.cons (Ua tB) qc.nil)))))
 refine Goes.skip ?_
 obtain⟨v,p,h⟩:=bnd h
 obtain⟨j,q,h⟩:=bnd h
 refine sq (gr fol [2,3] (kAz g f [(7,.i b),(8,.i j),(9,.i 1)]) (ac (hs (.done (.opt (qV ZT 9 (.str g) none (some (.i b)) none)) (.str v)) (zT st9 none (some b) p)) (ac (cv (qaW N v q)) az)) ?_)
 refine sq ?_
 refine sh fol (kAz g f [(7,.i b),(8,.i j),(9,.i 1),(43,.bool (decide (b<(g.length:Int))))]) ?_
 obtain⟨B,g18,h⟩:=bnd h
 refine Goes.imp (Q:=fun x s'=>(x= .normal/\ ∃e,e=B/\Sub s' (ofG 54 ((6,.bool f)::(kAt j e [])),[]))) ?_ ?_
 ·refine ihD g18 (fun C g18=>?_) (fun C g18=>?_)
  ·obtain⟨w,r,g18⟩:=bnd g18
   obtain⟨D,s,g18⟩:=bnd g18
   refine gr fol [3,4] ((6,.bool f)::(kAt j D [])) (ac (hs (.done (.opt (qV ZT 9 (.str g) (some (.i (w64 (b+1)))) none none)) (.str w)) (zT st9 (some (w64 (b+1))) none r)) (ac (cv (qaW N w s)) az)) ?_
   obtain rfl:=si g18
   exact⟨rfl,_,rfl,(Sub.refl _)⟩
  refine Goes.skip ?_
  obtain rfl:=si g18
  exact⟨rfl,_,rfl,(Sub.keep [6,8,9] rfl rfl)⟩
 rintro x s' ⟨rfl,e,rfl,hsub⟩
 refine Goes.sub hsub ?_
 refine sq ?_
 refine sh fol (kAt j e [(49,.bool f)]) ?_
 obtain⟨E,g23,h⟩:=bnd h
 refine Goes.imp (Q:=fun x s'=>(x= .normal/\ ∃k,k=E/\Sub s' (ofG 54 (kAt k e []),[]))) ?_ ?_
 ·refine ihB g23 (fun F g23=>?_) (fun F g23=>?_)
  ·refine gh fol (kAt (w64 (0-j)) e []) ?_
   obtain rfl:=si g23
   exact⟨rfl,_,rfl,(Sub.refl _)⟩
  refine Goes.skip ?_
  obtain rfl:=si g23
  exact⟨rfl,_,rfl,(Sub.keep [8,9] rfl rfl)⟩
 rintro x s' ⟨rfl,k,rfl,hsub⟩
 refine Goes.sub hsub ?_
 refine sh fol [(2,.i k),(3,.i e),(4,.bool true)] ?_
 refine Goes.ret ?_
 obtain rfl:=si h
 exact(gw2 [.i k,.i e,.bool true] (FzW.tuple (qc.cons (Ua tI) (qc.cons (Ua tI) (qc.cons (Ua tB) qc.nil)))))
def qah (a:List Int) (i:Int):Option Int:=
 if i<(a.length:Int)then
 (idx a i).bind fun b=>
 some b
 else
 some 0
theorem qbV (a:List Int) (i:Int) {res:Int} (h:qah a i=some res):qb ZT (.fn 132) [vl encI a,.i i] [] (.i res) []:=by
 unfold qah at h
 refine Ub Tryz.func132 rfl rfl (m:=13) rfl (rs:=[.tmp 4]) rfl (l:=(kAl a i [])) rfl ?_
 refine sh fol (kAl a i []) ?_
 refine sq ?_
 refine sh fol (kAl a i (kBX (decide (i<(a.length:Int))))) ?_
 refine ihD h (fun d h=>?_) (fun d h=>?_)
 ·obtain⟨c,b,h⟩:=bnd h
  refine sq (gr fol [2,3] [(4,.i c)] (ac (iv jW encI b) (ac (lv 0 ce3 encI b rfl) az)) ?_)
  refine Goes.ret ?_
  obtain rfl:=si h
  exact(gw2 [.i c] (Ua tI))
 refine Goes.skip ?_
 refine sh fol [(4,.i 0)] ?_
 refine Goes.ret ?_
 obtain rfl:=si h
 exact(gw2 [.i 0] (Ua tI))
def zG (a:List Int) (b:List Int):Nat->(List Int)->Int->Int->Option (List Int)
 |0,_,_,_=>none
 |K+1,h,f,c=>
  (if c<(a.length:Int)then
  some true
  else
  if c<(b.length:Int)then
  some true
  else
  some (decide (f>0)):Option Bool).bind fun i=>
  if i=true then
  (qah a c).bind fun d=>
  (qah b c).bind fun e=>
  (app 8 h [(w64 ((w64 (d+e))+f)).tmod 1000000000]).bind fun g=>
  zG a b K g (w64 ((w64 ((w64 (d+e))+f)).tdiv 1000000000)) (w64 (c+1))
  else
  some h
def xz (N:Nat) (a:List Int) (b:List Int):Option (List Int):=
 (zG a b N ([]:List Int) 0 0).bind fun c=>
 some c
theorem qeV (N:Nat) (a:List Int) (b:List Int) {res:List Int} (h:xz N a b=some res):qb ZT (.fn 90) (kBG a b) [] (vl encI res) []:=by
 unfold xz at h
 refine Ub Tryz.func90 rfl rfl (m:=42) rfl (rs:=[.tmp 4]) rfl (l:=(kJ a b [])) rfl ?_
 refine sh fol (kJ a b []) ?_
 refine sh fol (kJ a b [(5,.nilslice)]) ?_
 refine sh fol (kJ a b [(5,.nilslice),(6,.i 0)]) ?_
 refine sq ?_
 refine sh fol (kJ a b [(5,.nilslice),(6,.i 0),(7,.i 0)]) ?_
 refine Goes.block ?_
 obtain⟨v,g5,h⟩:=bnd h
 refine Goes.imp (Q:=fun x s'=>(x= .exit 0/\ ∃q,q=v/\Sub s' (ofG 42 (kAW q []),(kD q [])))) ?_ ?_
 ·refine Goes.sub (s':=(ofG 42 (kJ a b [(5,.gslice 0 ([]:List Int).length 1),(6,.i 0),(7,.i 0)]),kA8)) (Sub.norm [] [none] rfl rfl (.keep (.same (qd encI _)) (.keep (.same (qd encI _)) (.keep .nil (.keep (.same nI) (.keep (.same nI) .nil))))) (.fresh .nil)) ?_
  refine Uc (fun M s=> ∃(k:List Int) (f:Int) (j:Int),s=(ofG 42 (kJ a b (kAW k (kAn f j []))),(kD k []))/\zG a b M k f j=some v) ?_ (m:=N) ⟨_,_,_,rfl,g5⟩
  rintro M s ⟨k,f,j,rfl,g5⟩
  cases M with
  |zero=>simp only[zG]at g5;cases g5
  |succ M=>
   rw[zG]at g5
   refine sq ?_
   refine sq ?_
   obtain⟨w,c,g5⟩:=bnd g5
   refine Goes.cut (s':=(ofG 42 (kJ a b (kAW k (kAn f j [(22,.bool w)]))),(kD k []))) ?_ ?_
   ·rcases wyD c with⟨r,c⟩|⟨r,c⟩
    ·obtain rfl:=si c
     exact tr fol [4] (kJ a b (kAW k (kAn f j [(22,.bool true)]))) (ac (gw r) az)
    rcases wyD c with⟨t,c⟩|⟨t,c⟩
    ·obtain rfl:=si c
     exact tr fol [4,10] (kJ a b (kAW k (kAn f j [(22,.bool true)]))) (ac (gw r) (ac (gw t) az))
    obtain rfl:=si c
    exact tr fol [4,10] (kJ a b (kAW k (kAn f j [(22,.bool (decide (f>0)))]))) (ac (gw r) (ac (gw t) az))
   refine ihB g5 (fun u g5=>?_) (fun u g5=>?_)
   ·refine Goes.skip ?_
    refine sq (Goes.block ?_)
    obtain⟨d,n,g5⟩:=bnd g5
    obtain⟨e,o,g5⟩:=bnd g5
    refine sq (gr fol [2,5] (kJ a b (kAW k (kAO j (w64 ((w64 (d+e))+f))))) (ac (cv (qbV a j n)) (ac (cv (qbV b j o)) az)) ?_)
    obtain⟨g,p,g5⟩:=bnd g5
    refine sq (gq fol [4] (kJ a b ((5,.gslice 2 g.length 1)::(kAO j (w64 ((w64 (d+e))+f))))) (kBE ((w64 ((w64 (d+e))+f)).tmod 1000000000) (kD g [])) (ac (hs (.run [0,1] (yQ ZT [49,49] (.gslice 0 k.length 1) (.slice 1 0 1 1 1)) (kD k [.cells [.i ((w64 ((w64 (d+e))+f)).tmod 1000000000)]]) (.gslice 2 g.length 1) (kBE ((w64 ((w64 (d+e))+f)).tmod 1000000000) (kD g [])) true) (qbs jW (E:=encI) rfl (qfb (E:=encI) (ys:=[(w64 ((w64 (d+e))+f)).tmod 1000000000]) rfl rfl rfl rfl) (qf8 (E:=encI) (l:=k) rfl rfl rfl p rfl))) az) ?_)
    refine gh fol (kJ a b ((5,.gslice 2 g.length 1)::(kAn (w64 ((w64 ((w64 (d+e))+f)).tdiv 1000000000)) j []))) ?_
    refine gh fol (kJ a b ((5,.gslice 2 g.length 1)::(kAn (w64 ((w64 ((w64 (d+e))+f)).tdiv 1000000000)) (w64 (j+1)) []))) ?_
    exact⟨M,(ofG 42 (kJ a b (kAW g (kAn (w64 ((w64 ((w64 (d+e))+f)).tdiv 1000000000)) (w64 (j+1)) []))),(kD g [])),Nat.lt_succ_self _,(Sub.norm [] [some 2] rfl rfl (.keep (.same (qd encI _)) (.keep (.same (qd encI _)) (.keep (.gslice rfl) (.keep (.same nI) (.keep (.same nI) .nil))))) (.ks .nil)),_,_,_,rfl,g5⟩
   refine Goes.exit ?_
   obtain rfl:=si g5
   exact⟨rfl,_,rfl,(Sub.keep [5] rfl rfl)⟩
 rintro x s' ⟨rfl,q,rfl,hsub⟩
 refine Goes.sub hsub ?_
 refine sh fol [(4,.gslice 0 q.length 1)] ?_
 refine Goes.ret ?_
 obtain rfl:=si h
 exact(gw2 [.gslice 0 q.length 1] (FzW.fz (Fz.gs (E:=encI) rfl rfl (nl rfl))))
def zf (a:List Int) (b:List Int):Nat->(List Int)->Int->Int->Option (List Int)
 |0,_,_,_=>none
 |K+1,i,d,c=>
  if c<(a.length:Int)then
  (idx a c).bind fun e=>
  (qah b c).bind fun f=>
  ((if(w64 ((w64 (e-f))-d))<0 then
  some (1,w64 ((w64 ((w64 (e-f))-d))+1000000000))
  else
  some (0,w64 ((w64 (e-f))-d)):Option (Int×Int))).bind fun(j,g)=>
  (app 8 i [g]).bind fun h=>
  zf a b K h j (w64 (c+1))
  else
  some i
def yz (N:Nat) (a:List Int) (b:List Int):Option (List Int):=
 (zf a b N ([]:List Int) 0 0).bind fun d=>
 (ym N d).bind fun c=>
 some c
theorem qb7 (N:Nat) (a:List Int) (b:List Int) {res:List Int} (h:yz N a b=some res):qb ZT (.fn 92) (kBG a b) [] (vl encI res) []:=by
 unfold yz at h
 refine Ub Tryz.func92 rfl rfl (m:=35) rfl (rs:=[.tmp 4]) rfl (l:=(kJ a b [])) rfl ?_
 refine sh fol (kJ a b []) ?_
 refine sh fol (kJ a b [(5,.nilslice)]) ?_
 refine sh fol (kJ a b [(5,.nilslice),(6,.i 0)]) ?_
 refine sq ?_
 refine sh fol (kJ a b [(5,.nilslice),(6,.i 0),(7,.i 0)]) ?_
 refine Goes.block ?_
 obtain⟨y,g5,h⟩:=bnd h
 refine Goes.imp (Q:=fun x s'=>(x= .exit 0/\ ∃j,j=y/\Sub s' (ofG 35 (kAW j []),(kD j [])))) ?_ ?_
 ·refine Goes.sub (s':=(ofG 35 (kJ a b [(5,.gslice 0 ([]:List Int).length 1),(6,.i 0),(7,.i 0)]),kA8)) (Sub.norm [] [none] rfl rfl (.keep (.same (qd encI _)) (.keep (.same (qd encI _)) (.keep .nil (.keep (.same nI) (.keep (.same nI) .nil))))) (.fresh .nil)) ?_
  refine Uc (fun M s=> ∃(c:List Int) (k:Int) (d:Int),s=(ofG 35 (kJ a b (kAW c (kAn k d []))),(kD c []))/\zf a b M c k d=some y) ?_ (m:=N) ⟨_,_,_,rfl,g5⟩
  rintro M s ⟨c,k,d,rfl,g5⟩
  cases M with
  |zero=>simp only[zf]at g5;cases g5
  |succ M=>
   rw[zf]at g5
   refine sq ?_
   refine sh fol (kJ a b (kAW c (kAn k d (kBM (decide (d<(a.length:Int))))))) ?_
   refine ihD g5 (fun z g5=>?_) (fun z g5=>?_)
   ·refine Goes.skip ?_
    refine sq (Goes.block ?_)
    obtain⟨q,n,g5⟩:=bnd g5
    obtain⟨r,u,g5⟩:=bnd g5
    refine sq (gr fol [2,3,6] (kJ a b (kAW c (kAO d (w64 ((w64 (q-r))-k))))) (ac (iv jW encI n) (ac (lv 0 ce3 encI n rfl) (ac (cv (qbV b d u)) az))) ?_)
    refine sh fol (kJ a b (kAW c ((6,.i 0)::(kAO d (w64 ((w64 (q-r))-k)))))) ?_
    refine sq ?_
    refine sh fol (kJ a b (kAW c [(6,.i 0),(7,.i d),(8,.i (w64 ((w64 (q-r))-k))),(26,.bool (decide ((w64 ((w64 (q-r))-k))<0)))])) ?_
    obtain⟨v,g11,g5⟩:=bnd g5
    refine Goes.imp (Q:=fun x s'=>(x= .normal/\ ∃t e,(t,e)=v/\Sub s' (ofG 35 (kJ a b (kAW c ((6,.i t)::(kAO d e)))),(kD c [])))) ?_ ?_
    ·refine ihD g11 (fun w g11=>?_) (fun w g11=>?_)
     ·refine sh fol (kJ a b (kAW c (kAO d (w64 ((w64 ((w64 (q-r))-k))+1000000000))))) ?_
      refine gh fol (kJ a b (kAW c ((6,.i 1)::(kAO d (w64 ((w64 ((w64 (q-r))-k))+1000000000)))))) ?_
      obtain rfl:=si g11
      exact⟨rfl,_,_,rfl,(Sub.refl _)⟩
     refine Goes.skip ?_
     obtain rfl:=si g11
     exact⟨rfl,_,_,rfl,(Sub.keep [0,1,5,6,7,8] rfl rfl)⟩
    rintro x s' ⟨rfl,t,e,rfl,hsub⟩
    try dsimp only at g5
    refine Goes.sub hsub ?_
    obtain⟨f,o,g5⟩:=bnd g5
    refine gq fol [3] (kJ a b ((5,.gslice 2 f.length 1)::(kAn t d []))) (kBE e (kD f [])) (ac (hs (.run [0,1] (yQ ZT [49,49] (.gslice 0 c.length 1) (.slice 1 0 1 1 1)) (kD c [.cells [.i e]]) (.gslice 2 f.length 1) (kBE e (kD f [])) true) (qbs jW (E:=encI) rfl (qfb (E:=encI) (ys:=[e]) rfl rfl rfl rfl) (qf8 (E:=encI) (l:=c) rfl rfl rfl o rfl))) az) ?_
    refine gh fol (kJ a b ((5,.gslice 2 f.length 1)::(kAn t (w64 (d+1)) []))) ?_
    exact⟨M,(ofG 35 (kJ a b (kAW f (kAn t (w64 (d+1)) []))),(kD f [])),Nat.lt_succ_self _,(Sub.norm [] [some 2] rfl rfl (.keep (.same (qd encI _)) (.keep (.same (qd encI _)) (.keep (.gslice rfl) (.keep (.same nI) (.keep (.same nI) .nil))))) (.ks .nil)),_,_,_,rfl,g5⟩
   refine Goes.exit ?_
   obtain rfl:=si g5
   exact⟨rfl,_,rfl,(Sub.keep [5] rfl rfl)⟩
 rintro x s' ⟨rfl,j,rfl,hsub⟩
 refine Goes.sub hsub ?_
 obtain⟨g,p,h⟩:=bnd h
 refine sq (gq fol [1] [(4,vl encI g)] (kAb j) (ac (hs (.callF 130 [.gslice 0 j.length 1] (kD j []) [0] [vl encI j] (vl encI g)) (vZ (FzL.cons (Fz.gs (E:=encI) rfl rfl (nl rfl)) FzL.nil) (yO N j p) (qx encI _ (nl rfl)))) az) ?_)
 refine Goes.sub (show Sub (ofG 35 [(4,vl encI g)],(kAb j)) (ofG 35 [(4,vl encI g)],[])from(Sub.norm [] [] rfl rfl (.keep (.same (qd encI _)) .nil) .nil)) ?_
 refine Goes.ret ?_
 obtain rfl:=si h
 exact(gw2 [vl encI g] (Ua (qx encI _ (nl rfl))))
def qb4 (N:Nat) (a:qI) (b:qI):Option qI:=
 if(a.neg==b.neg)=true then
 (xz N a.w b.w).bind fun c=>
 (zJ N a.neg c).bind fun d=>
 some d
 else
 (jC N a.w b.w).bind fun e=>
 if e>=0 then
 (yz N a.w b.w).bind fun f=>
 (zJ N a.neg f).bind fun g=>
 some g
 else
 (yz N b.w a.w).bind fun h=>
 (zJ N b.neg h).bind fun i=>
 some i
theorem qh8 (N:Nat) (a:qI) (b:qI) {res:qI} (h:qb4 N a b=some res):qb ZT (.fn 48) (kAm a.neg a.w b.neg b.w) [] (.agg (kAg res.neg res.w)) []:=by
 unfold qb4 at h
 refine Ub Tryz.func48 rfl rfl (m:=40) rfl (rs:=[.cell 4 72]) rfl (l:=(kBL a.neg a.w b.neg b.w)) rfl ?_
 refine sg fol (kG []) (kN a.neg a.w b.neg b.w (kQ [])) ?_
 refine sq ?_
 refine sh fol (kG [(9,.bool (a.neg==b.neg))]) ?_
 refine ihB h (fun p h=>?_) (fun p h=>?_)
 ·obtain⟨q,c,h⟩:=bnd h
  obtain⟨k,d,h⟩:=bnd h
  refine sq (gq fol [6,7] (kAM []) (kN a.neg a.w b.neg b.w (kAV k.neg k.w [])) (ac (cv (qeV N a.w b.w c)) (ac (cv (z8 N a.neg q d)) az)) ?_)
  refine Goes.ret ?_
  obtain rfl:=si h
  exact(gw2 [.agg (kAg k.neg k.w)] (FzW.agg (qc.cons (Ua tB) (qc.cons (Ua (qx encI _ (nl rfl))) qc.nil))))
 refine Goes.skip ?_
 refine sq ?_
 obtain⟨r,e,h⟩:=bnd h
 refine sq (gr fol [4] (kG [(23,.bool (decide (r>=0)))]) (ac (cv (qa0 N a.w b.w e)) az) ?_)
 refine ihD h (fun s h=>?_) (fun s h=>?_)
 ·obtain⟨t,f,h⟩:=bnd h
  obtain⟨n,g,h⟩:=bnd h
  refine sq (gq fol [6,7] (kAM []) (kN a.neg a.w b.neg b.w (kAV n.neg n.w [])) (ac (cv (qb7 N a.w b.w f)) (ac (cv (z8 N a.neg t g)) az)) ?_)
  refine Goes.ret ?_
  obtain rfl:=si h
  exact(gw2 [.agg (kAg n.neg n.w)] (FzW.agg (qc.cons (Ua tB) (qc.cons (Ua (qx encI _ (nl rfl))) qc.nil))))
 refine Goes.skip ?_
 obtain⟨u,i,h⟩:=bnd h
 obtain⟨o,j,h⟩:=bnd h
 refine sq (gq fol [6,7] (kAM []) (kN a.neg a.w b.neg b.w (kAV o.neg o.w [])) (ac (cv (qb7 N b.w a.w i)) (ac (cv (z8 N b.neg u j)) az)) ?_)
 refine Goes.ret ?_
 obtain rfl:=si h
 exact(gw2 [.agg (kAg o.neg o.w)] (FzW.agg (qc.cons (Ua tB) (qc.cons (Ua (qx encI _ (nl rfl))) qc.nil))))
def yE (N:Nat) (a:qI) (b:qI):Option qI:=
 (vI N a.w b.w).bind fun c=>
 (zJ N (!(a.neg==b.neg)) c).bind fun d=>
 some d
theorem qae (N:Nat) (a:qI) (b:qI) {res:qI} (h:yE N a b=some res):qb ZT (.fn 49) (kAm a.neg a.w b.neg b.w) [] (.agg (kAg res.neg res.w)) []:=by
 unfold yE at h
 refine Ub Tryz.func49 rfl rfl (m:=16) rfl (rs:=[.cell 4 72]) rfl (l:=(kBL a.neg a.w b.neg b.w)) rfl ?_
 refine sg fol (kG []) (kN a.neg a.w b.neg b.w (kQ [])) ?_
 obtain⟨f,c,h⟩:=bnd h
 obtain⟨e,d,h⟩:=bnd h
 refine sq (gq fol [9,10] (kAM []) (kN a.neg a.w b.neg b.w (kAV e.neg e.w [])) (ac (cv (qaI N a.w b.w c)) (ac (cv (z8 N (!(a.neg==b.neg)) f d)) az)) ?_)
 refine Goes.ret ?_
 obtain rfl:=si h
 exact(gw2 [.agg (kAg e.neg e.w)] (FzW.agg (qc.cons (Ua tB) (qc.cons (Ua (qx encI _ (nl rfl))) qc.nil))))
def qcJ (N:Nat) (a:Str) (b:Str):Option Str:=
 (jU N a).bind fun c=>
 (jU N b).bind fun d=>
 (if c.2.2=true then
 some d.2.2
 else
 some false:Option Bool).bind fun l=>
 if l=true then
 (qcQ N (w64 ((w64 (c.1*d.2.1))+(w64 (d.1*c.2.1)))) (w64 (c.2.1*d.2.1))).bind fun m=>
 some m
 else
 (vD N a).bind fun e=>
 (vD N b).bind fun f=>
 (yE N e.1 f.2).bind fun g=>
 (yE N f.1 e.2).bind fun h=>
 (qb4 N g h).bind fun i=>
 (yE N e.2 f.2).bind fun j=>
 (vV N i j).bind fun k=>
 some k
theorem qjl (N:Nat) (a:Str) (b:Str) {res:Str} (h:qcJ N a b=some res):qb ZT (.fn 9) (kA9 a b) [] (.str res) []:=by
 unfold qcJ at h
 refine Ub Tryz.func9 rfl rfl (m:=63) rfl (rs:=[.tmp 4]) rfl (l:=(kR a b [])) rfl ?_
 refine sh fol (kR a b []) ?_
 obtain⟨d,q,h⟩:=bnd h
 refine sq (gr fol [1] (kR a b [(5,.i d.1),(6,.i d.2.1),(7,.bool d.2.2)]) (ac (cv (qaU N a q)) az) ?_)
 obtain⟨e,r,h⟩:=bnd h
 refine sq (gr fol [1] (kR a b ((5,.i d.1)::(6,.i d.2.1)::(7,.bool d.2.2)::(kAt e.1 e.2.1 [(10,.bool e.2.2)]))) (ac (cv (qaU N b r)) az) ?_)
 refine sq ?_
 refine sq ?_
 obtain⟨D,c,h⟩:=bnd h
 refine Goes.cut (s':=(ofG 63 (kR a b ((5,.i d.1)::(6,.i d.2.1)::(kAt e.1 e.2.1 [(30,.bool D)]))),[])) ?_ ?_
 ·rcases wyB c with⟨x,c⟩|⟨x,c⟩
  ·obtain rfl:=si c
   exact tr fol [1] (kR a b ((5,.i d.1)::(6,.i d.2.1)::(kAt e.1 e.2.1 [(30,.bool e.2.2)]))) (ac (gw x) az)
  obtain rfl:=si c
  exact tr fol [1] (kR a b ((5,.i d.1)::(6,.i d.2.1)::(kAt e.1 e.2.1 [(30,.bool false)]))) (ac (gw x) az)
 refine ihB h (fun E h=>?_) (fun E h=>?_)
 ·obtain⟨C,s,h⟩:=bnd h
  refine sq (gr fol [10] [(4,.str C)] (ac (cv (qf3 N (w64 ((w64 (d.1*e.2.1))+(w64 (e.1*d.2.1)))) (w64 (d.2.1*e.2.1)) s)) az) ?_)
  refine Goes.ret ?_
  obtain rfl:=si h
  exact(gw2 [.str C] (Ua tS))
 refine Goes.skip ?_
 obtain⟨f,t,h⟩:=bnd h
 refine sq (gq fol [1] [(1,.str b),(11,.ptr 0 0),(12,.ptr 1 0)] (kN f.1.neg f.1.w f.2.neg f.2.w []) (ac (cv (qak N a t)) az) ?_)
 obtain⟨g,u,h⟩:=bnd h
 refine sq (gq fol [1] [(11,.ptr 0 0),(12,.ptr 1 0),(13,.ptr 2 0),(14,.ptr 3 0)] (kN f.1.neg f.1.w f.2.neg f.2.w (kN g.1.neg g.1.w g.2.neg g.2.w [])) (ac (cv (qak N b u)) az) ?_)
 obtain⟨y,j,h⟩:=bnd h
 obtain⟨z,k,h⟩:=bnd h
 obtain⟨A,n,h⟩:=bnd h
 obtain⟨B,o,h⟩:=bnd h
 obtain⟨v,p,h⟩:=bnd h
 refine sq (gr fol [2,5,6,9,10] [(4,.str v)] (ac (cv (qae N f.1 g.2 j)) (ac (cv (qae N g.1 f.2 k)) (ac (cv (qh8 N y z n)) (ac (cv (qae N f.2 g.2 o)) (ac (cv (qa3 N A B p)) az))))) ?_)
 refine Goes.ret ?_
 obtain rfl:=si h
 exact(gw2 [.str v] (Ua tS))
def qcO (N:Nat) (a:Str) (b:Str):Option Str:=
 (qbT b).bind fun c=>
 (qcJ N a c).bind fun d=>
 some d
theorem qiK (N:Nat) (a:Str) (b:Str) {res:Str} (h:qcO N a b=some res):qb ZT (.fn 13) (kA9 a b) [] (.str res) []:=by
 unfold qcO at h
 refine Ub Tryz.func13 rfl rfl (m:=9) rfl (rs:=[.tmp 4]) rfl (l:=(kR a b [])) rfl ?_
 refine sh fol (kR a b []) ?_
 obtain⟨f,c,h⟩:=bnd h
 obtain⟨e,d,h⟩:=bnd h
 refine sq (gr fol [2,3] [(4,.str e)] (ac (cv (qi6 b c)) (ac (cv (qjl N a f d)) az)) ?_)
 refine Goes.ret ?_
 obtain rfl:=si h
 exact(gw2 [.str e] (Ua tS))
def vT (N:Nat) (a:Str) (b:Str):Option Int:=
 (qcO N a b).bind fun c=>
 (yg c).bind fun d=>
 some d
theorem jr (N:Nat) (a:Str) (b:Str) {res:Int} (h:vT N a b=some res):qb ZT (.fn 17) (kA9 a b) [] (.i res) []:=by
 unfold vT at h
 refine Ub Tryz.func17 rfl rfl (m:=9) rfl (rs:=[.tmp 4]) rfl (l:=(kR a b [])) rfl ?_
 refine sh fol (kR a b []) ?_
 obtain⟨f,c,h⟩:=bnd h
 obtain⟨e,d,h⟩:=bnd h
 refine sq (gr fol [2,3] [(4,.i e)] (ac (cv (qiK N a b c)) (ac (cv (zV f d)) az)) ?_)
 refine Goes.ret ?_
 obtain rfl:=si h
 exact(gw2 [.i e] (Ua tI))
def qaj (N:Nat) (low:ql) (high:ql):Option (qJ×Int):=
 ((yX N low).bind fun a=>
 if a=true then
 some true
 else
 (yX N high).bind fun b=>
 some b:Option Bool).bind fun c=>
 if c=true then
 some ((⟨[],[]⟩:qJ),4)
 else
 (xK N low).bind fun d=>
 (xK N high).bind fun e=>
 some ((⟨d,e⟩:qJ),0)
theorem qb5 (N:Nat) (low:ql) (high:ql) {res:qJ×Int} (h:qaj N low high=some res):qb ZT (.fn 61) [.agg (nq1 low),.agg (nq1 high)] [] (.tuple (kAF res.1.Low res.1.High [.i res.2])) []:=by
 unfold qaj at h
 refine Ub Tryz.func61 rfl rfl (m:=18) rfl (rs:=[.cell 4 37,.tmp 5]) rfl (l:=[(0,.agg (nq1 low)),(1,.agg (nq1 high))]) rfl ?_
 refine sg fol (kG []) (.cells (nq1 low):: .cells (nq1 high)::(kS [])) ?_
 refine sq ?_
 refine sq ?_
 obtain⟨k,a,h⟩:=bnd h
 refine Goes.cut (s':=(ofG 18 (kG [(11,.bool k)]),(.cells (nq1 low):: .cells (nq1 high)::(kS [])))) ?_ ?_
 ·obtain⟨p,b,a⟩:=bnd a
  rcases wyB a with⟨f,a⟩|⟨f,a⟩
  ·obtain rfl:=si a
   exact tr fol [1,2] (kG [(11,.bool true)]) (ac (cv (qaT N low b)) (ac (gw f) az))
  obtain⟨n,c,a⟩:=bnd a
  obtain rfl:=si a
  exact tr fol [1,2,4] (kG [(11,.bool n)]) (ac (cv (qaT N low b)) (ac (gw f) (ac (cv (qaT N high c)) az)))
 refine ihB h (fun o h=>?_) (fun o h=>?_)
 ·refine sh fol (kAM [(5,.i 4)]) ?_
  refine Goes.ret ?_
  obtain rfl:=si h
  exact(gw2 [.agg [.str [],.str []],.i 4] (FzW.tuple (qc.cons (FzW.agg (qc.cons (Ua tS) (qc.cons (Ua tS) qc.nil))) (qc.cons (Ua tI) qc.nil))))
 refine Goes.skip ?_
 obtain⟨g,d,h⟩:=bnd h
 obtain⟨j,e,h⟩:=bnd h
 refine sq (gq fol [1,3] (kAM [(5,.i 0)]) (.cells (nq1 low):: .cells (nq1 high)::(kZ g j [])) (ac (cv (qcX N low d)) (ac (cv (qcX N high e)) az)) ?_)
 refine Goes.ret ?_
 obtain rfl:=si h
 exact(gw2 (kAF g j [.i 0]) (FzW.tuple (qc.cons (FzW.agg (qc.cons (Ua tS) (qc.cons (Ua tS) qc.nil))) (qc.cons (Ua tI) qc.nil))))
def qbP (N:Nat) (k:Int):Option (qJ×Int):=
 (if k<1 then
 some true
 else
 some (decide (k>30)):Option Bool).bind fun h=>
 if h=true then
 some ((⟨[],[]⟩:qJ),3)
 else
 (cut [51,49,52,49,53,57,50,54,53,51,53,56,57,55,57,51,50,51,56,52,54,50,54,52,51,51,56,51,50,55,57] 0 (w64 (k+1))).bind fun i=>
 (qac N i).bind fun f=>
 (qbL [48] k).bind fun j=>
 (cat [49] j).bind fun l=>
 (qac N l).bind fun g=>
 (qbB N f g).bind fun b=>
 (qbX 1).bind fun c=>
 (yH N f c).bind fun d=>
 (qbB N d g).bind fun e=>
 (qaj N b e).bind fun a=>
 some (a.1,a.2)
theorem qji (N:Nat) (k:Int) {res:qJ×Int} (h:qbP N k=some res):qb ZT (.fn 19) [.i k] [] (.tuple (kAF res.1.Low res.1.High [.i res.2])) []:=by
 unfold qbP at h
 refine Ub Tryz.func19 rfl rfl (m:=32) rfl (rs:=[.cell 2 37,.tmp 3]) rfl (l:=[(0,.i k)]) rfl ?_
 refine sg fol ((0,.i k)::(kU [])) (kS []) ?_
 refine sq ?_
 refine sq ?_
 obtain⟨B,a,h⟩:=bnd h
 refine Goes.cut (s':=(ofG 32 ((0,.i k)::(kU [(11,.bool B)])),(kS []))) ?_ ?_
 ·rcases wyD a with⟨u,a⟩|⟨u,a⟩
  ·obtain rfl:=si a
   exact tr fol [2] ((0,.i k)::(kU [(11,.bool true)])) (ac (gw u) az)
  obtain rfl:=si a
  exact tr fol [2] ((0,.i k)::(kU [(11,.bool (decide (k>30)))])) (ac (gw u) az)
 refine ihB h (fun C h=>?_) (fun C h=>?_)
 ·refine sh fol (kU [(3,.i 3)]) ?_
  refine Goes.ret ?_
  obtain rfl:=si h
  exact(gw2 [.agg [.str [],.str []],.i 3] (FzW.tuple (qc.cons (FzW.agg (qc.cons (Ua tS) (qc.cons (Ua tS) qc.nil))) (qc.cons (Ua tI) qc.nil))))
 refine Goes.skip ?_
 obtain⟨z,p,h⟩:=bnd h
 obtain⟨c,q,h⟩:=bnd h
 refine sq (gq fol [2,3,5] ((0,.i k)::(kU (kBZ []))) (kS [.cells (nz1 c)]) (ac (hs (.done (.opt (qV ZT 9 (.str [51,49,52,49,53,57,50,54,53,51,53,56,57,55,57,51,50,51,56,52,54,50,54,52,51,51,56,51,50,55,57]) none (some (.i (w64 (k+1)))) none)) (.str z)) (zT st9 none (some (w64 (k+1))) p)) (ac (cv (qaa N z q)) (ac (hs (.run [1] (qp ZT 55 (.ptr 1 0) (.agg (nz1 c))) (kS [bZ]) .undef (kS [.cells (nz1 c)]) true) (ku (n:=2) (by kernel_rfl) rfl rfl rfl rfl (cac rfl (cac nvc can)) rfl)) az))) ?_)
 obtain⟨D,r,h⟩:=bnd h
 obtain⟨A,s,h⟩:=bnd h
 obtain⟨o,t,h⟩:=bnd h
 refine sq (gq fol [1,2,3,5] (kU (kAX [])) (kS [.cells (nz1 c),.cells (nz1 o)]) (ac (cv (qhC [48] k r)) (ac (hs (.done (.opt (ko ZT .add 9 (.const (.string ⟨#[49]⟩)) (.tmp 18) (.str [49]) (.str D))) (.str A)) (qap s)) (ac (cv (qaa N A t)) (ac (hs (.run [2] (qp ZT 55 (.ptr 2 0) (.agg (nz1 o))) (kS [.cells (nz1 c),bZ]) .undef (kS [.cells (nz1 c),.cells (nz1 o)]) true) (ku (n:=2) (by kernel_rfl) rfl rfl rfl rfl (cac rfl (cac nvc can)) rfl)) az)))) ?_)
 obtain⟨v,d,h⟩:=bnd h
 obtain⟨w,e,h⟩:=bnd h
 obtain⟨x,f,h⟩:=bnd h
 obtain⟨y,g,h⟩:=bnd h
 obtain⟨b,j,h⟩:=bnd h
 refine sq (gq fol [2,4,5,7,8] (kU [(3,.i b.2)]) (kZ b.1.Low b.1.High [.cells (nz1 c),.cells (nz1 o)]) (ac (cv (qck N c o d)) (ac (cv (qbp 1 e)) (ac (cv (qa5 N c w f)) (ac (cv (qck N x o g)) (ac (cv (qb5 N v y j)) az))))) ?_)
 refine Goes.ret ?_
 obtain rfl:=si h
 exact(gw2 (kAF b.1.Low b.1.High [.i b.2]) (FzW.tuple (qc.cons (FzW.agg (qc.cons (Ua tS) (qc.cons (Ua tS) qc.nil))) (qc.cons (Ua tI) qc.nil))))
def qP (N:Nat) (l:List Str):Nat->Int->Option (Unit⊕Int)
 |0,_=>none
 |K+1,a=>
  if a<(l.length:Int)then
  (idx l a).bind fun c=>
  (qaS N c).bind fun b=>
  if(!decide (b=0))=true then
  some (.inr b)
  else
  qP N l K (w64 (a+1))
  else
  some (.inl ())
def xD (N:Nat) (l:List Str):Option Int:=
 (qP N l N 0).bind (fun
 |(.inl ())=>
 some 0
 |(.inr a)=>
 some a)
theorem qe0 (N:Nat) (l:List Str) {res:Int} (h:xD N l=some res):qb ZT (.fn 112) [vl encS l] [] (.i res) []:=by
 unfold xD at h
 refine Ub Tryz.func112 rfl rfl (m:=18) rfl (rs:=[.tmp 2]) rfl (l:=[(0,vl encS l)]) rfl ?_
 refine sh fol [(0,vl encS l)] ?_
 refine sq ?_
 refine sh fol [(6,vl encS l),(7,.i (l.length:Int)),(8,.i 0)] ?_
 refine Goes.block ?_
 obtain⟨e,g2,h⟩:=bnd h
 refine Goes.imp (Q:=fun x s'=>(x= .exit 0/\(.inl ())=e/\Sub s' (ofG 18 [],[]))\/(x= .ret/\ ∃f,(.inr f)=e/\yj ZT [.tmp 2] (.i f) .ret s')) ?_ ?_
 ·refine Uc (fun M s=> ∃(a:Int),s=(ofG 18 ((6,vl encS l)::(kAO (l.length:Int) a)),[])/\qP N l M a=some e) ?_ (m:=N) ⟨_,rfl,g2⟩
  rintro M s ⟨a,rfl,g2⟩
  cases M with
  |zero=>simp only[qP]at g2;cases g2
  |succ M=>
   rw[qP]at g2
   refine sh fol [(6,vl encS l),(7,.i (l.length:Int)),(8,.i a),(9,.bool (decide (a<(l.length:Int))))] ?_
   refine sq ?_
   refine ihD g2 (fun j g2=>?_) (fun j g2=>?_)
   ·refine Goes.skip ?_
    refine sq (Goes.block ?_)
    obtain⟨g,b,g2⟩:=bnd g2
    refine sq (gr fol [0,1] ((4,.str g)::(6,vl encS l)::(kAO (l.length:Int) a)) (ac (iv sl94 encS b) (ac (lv 0 ce22 encS b rfl) az)) ?_)
    obtain⟨c,d,g2⟩:=bnd g2
    refine sq (gr fol [1] ((5,.i c)::(6,vl encS l)::(kAO (l.length:Int) a)) (ac (cv (qgc N g d)) az) ?_)
    refine sh fol [(5,.i c),(6,vl encS l),(7,.i (l.length:Int)),(8,.i a),(15,.bool (!decide (c=0)))] ?_
    refine ihB g2 (fun k g2=>?_) (fun k g2=>?_)
    ·refine sh fol (kBB c) ?_
     refine Goes.ret ?_
     obtain rfl:=si g2
     exact Or.inr (⟨rfl,_,rfl,(gw2 [.i c] (Ua tI))⟩)
    refine Goes.skip ?_
    refine gh fol ((6,vl encS l)::(kAO (l.length:Int) (w64 (a+1)))) ?_
    exact⟨M,(ofG 18 ((6,vl encS l)::(kAO (l.length:Int) (w64 (a+1)))),[]),Nat.lt_succ_self _,(Sub.refl _),_,rfl,g2⟩
   refine Goes.exit ?_
   obtain rfl:=si g2
   exact Or.inl (⟨rfl,rfl,(Sub.keep [] rfl rfl)⟩)
 rintro x s' (⟨rfl,rfl,hsub⟩|⟨rfl,n,rfl,hret⟩)
 ·try dsimp only at h
  refine Goes.sub hsub ?_
  refine sh fol [(2,.i 0)] ?_
  refine Goes.ret ?_
  obtain rfl:=si h
  exact(gw2 [.i 0] (Ua tI))
 try dsimp only at h
 obtain rfl:=si h
 exact hret
def qY (N:Nat) (a:qJ):Option Int:=
 (xD N ([a.Low,a.High]:List Str)).bind fun b=>
 if(!decide (b=0))=true then
 some b
 else
 (yl N a.Low).bind fun c=>
 (yl N a.High).bind fun d=>
 (ja N c d).bind fun e=>
 (kL (decide (e>0)) 11).bind fun f=>
 some f
theorem jB (N:Nat) (a:qJ) {res:Int} (h:qY N a=some res):qb ZT (.fn 67) [.agg (kA9 a.Low a.High)] [] (.i res) []:=by
 unfold qY at h
 refine Ub Tryz.func67 rfl rfl (m:=22) rfl (rs:=[.tmp 2]) rfl (l:=[(0,.agg [.str a.Low,.str a.High])]) rfl ?_
 refine sg fol (kAY []) (kZ a.Low a.High []) ?_
 refine sq ?_
 obtain⟨b,c,h⟩:=bnd h
 refine sq (gq fol [5] (kAY [(3,.i b)]) (kZ a.Low a.High (kZ a.Low a.High [])) (ac (hs (.call 112 [.slice 1 0 2 2 1] (kZ a.Low a.High (kZ a.Low a.High [])) [1] [vl encS ([a.Low,a.High]:List Str)] (.i b)) (qdM (FzL.cons (Fz.lit rfl rfl (Ue (AllST.cons tS (AllST.cons tS AllST.nil)))) FzL.nil) (qe0 N ([a.Low,a.High]:List Str) c) tI rfl)) az) ?_)
 refine sh fol (kAY [(3,.i b),(11,.bool (!decide (b=0)))]) ?_
 refine ihB h (fun k h=>?_) (fun k h=>?_)
 ·refine sh fol (kBB b) ?_
  refine Goes.ret ?_
  obtain rfl:=si h
  exact(gw2 [.i b] (Ua tI))
 refine Goes.skip ?_
 obtain⟨n,d,h⟩:=bnd h
 obtain⟨o,e,h⟩:=bnd h
 obtain⟨p,f,h⟩:=bnd h
 obtain⟨j,g,h⟩:=bnd h
 refine sq (gr fol [2,5,6,8] (kBB j) (ac (cv (vO N a.Low d)) (ac (cv (vO N a.High e)) (ac (cv (xB N n o f)) (ac (cv (y8 (decide (p>0)) 11 g)) az)))) ?_)
 refine Goes.ret ?_
 obtain rfl:=si h
 exact(gw2 [.i j] (Ua tI))
def zF (N:Nat) (l:List Str):Nat->(List ql)->Int->Option (List ql)
 |0,_,_=>none
 |K+1,b,a=>
  if a<(l.length:Int)then
  (idx l a).bind fun d=>
  (yl N d).bind fun e=>
  (idx b a).bind fun f=>
  (put b a e).bind fun c=>
  zF N l K c (w64 (a+1))
  else
  some b
def xk (N:Nat) (l:List Str):Option (List ql):=
 (mk 64 (l.length:Int) (⟨(⟨0,[]⟩:qj),(⟨0,[]⟩:qj)⟩:ql)).bind fun a=>
 (zF N l N a 0).bind fun b=>
 some b
theorem qaX (N:Nat) (l:List Str) {res:List ql} (h:xk N l=some res):qb ZT (.fn 113) [vl encS l] [] (vl qf res) []:=by
 unfold xk at h
 refine Ub Tryz.func113 rfl rfl (m:=23) rfl (rs:=[.tmp 2]) rfl (l:=[(0,vl encS l)]) rfl ?_
 refine sh fol [(0,vl encS l)] ?_
 obtain⟨j,k,h⟩:=bnd h
 refine sq (gq fol [2] [(0,vl encS l),(3,.slice 0 0 j.length j.length 4)] (kAG j) (ac (hs (.run [] (jd ZT 135 (.i (l.length:Int)) (.i (l.length:Int))) [] (.slice 0 0 j.length j.length 4) (kAG j) false) (qcB qco (E:=qf) (z:=(⟨(⟨0,[]⟩:qj),(⟨0,[]⟩:qj)⟩:ql)) rfl (by kernel_rfl) k rfl)) az) ?_)
 refine sq ?_
 refine sh fol (kAL j l (l.length:Int) [(11,.i 0)]) ?_
 refine Goes.block ?_
 obtain⟨o,g5,h⟩:=bnd h
 refine Goes.imp (Q:=fun x s'=>(x= .exit 0/\ ∃e,e=o/\Sub s' (ofG 23 [(3,.slice 0 0 e.length e.length 4)],(kAG e)))) ?_ ?_
 ·refine Uc (fun M s=> ∃(c:List ql) (b:Int),s=(ofG 23 (kAL c l (l.length:Int) [(11,.i b)]),(kAG c))/\zF N l M c b=some o) ?_ (m:=N) ⟨_,_,rfl,g5⟩
  rintro M s ⟨c,b,rfl,g5⟩
  cases M with
  |zero=>simp only[zF]at g5;cases g5
  |succ M=>
   rw[zF]at g5
   refine sh fol (kAL c l (l.length:Int) ((11,.i b)::(kBM (decide (b<(l.length:Int)))))) ?_
   refine sq ?_
   refine ihD g5 (fun r g5=>?_) (fun r g5=>?_)
   ·refine Goes.skip ?_
    refine sq (Goes.block ?_)
    obtain⟨p,f,g5⟩:=bnd g5
    refine sq (gr fol [1,2] [(3,.slice 0 0 c.length c.length 4),(4,.i b),(5,.str p),(9,vl encS l),(10,.i (l.length:Int)),(11,.i b)] (ac (iv sl94 encS f) (ac (lv 0 ce22 encS f rfl) az)) ?_)
    obtain⟨q,n,g5⟩:=bnd g5
    obtain⟨t,g,g5⟩:=bnd g5
    obtain⟨a,d,g5⟩:=bnd g5
    refine gq fol [3,4,5] (kAL c l (l.length:Int) [(11,.i b)]) (kAG a) (ac (cv (vO N p n)) (ac (hs (.done (.opt (qg ZT 135 (.slice 0 0 c.length c.length 4) (.i b))) (.ptr 0 ((b:Int).toNat*4+0))) (qaf qco g)) (ac (hs (.run [0] (qp ZT 57 (.ptr 0 ((b:Int).toNat*4+0)) (.agg (nq1 q))) (kAG c) .undef (kAG a) true) (xP (E:=qf) (l:=c) (y:=q) rfl (show _=some 4 by kernel_rfl) rfl g rfl rfl rfl (cac rfl (cac nvc (cac rfl (cac nvc can)))) rfl d rfl)) az))) ?_
    refine Goes.sub (show Sub (ofG 23 (kAL c l (l.length:Int) [(11,.i b)]),(kAG a)) (ofG 23 (kAL a l (l.length:Int) [(11,.i b)]),(kAG a))from(Sub.norm [] [some 0] rfl rfl (.keep (.sliceE rfl (vG d)) (.keep (.same (qd encS _)) (.keep (.same nI) (.keep (.same nI) .nil)))) (.ks .nil))) ?_
    refine gh fol (kAL a l (l.length:Int) [(11,.i (w64 (b+1)))]) ?_
    exact⟨M,(ofG 23 (kAL a l (l.length:Int) [(11,.i (w64 (b+1)))]),(kAG a)),Nat.lt_succ_self _,(Sub.refl _),_,_,rfl,g5⟩
   refine Goes.exit ?_
   obtain rfl:=si g5
   exact⟨rfl,_,rfl,(Sub.keep [3] rfl rfl)⟩
 rintro x s' ⟨rfl,e,rfl,hsub⟩
 refine Goes.sub hsub ?_
 refine sh fol [(2,.slice 0 0 e.length e.length 4)] ?_
 refine Goes.ret ?_
 obtain rfl:=si h
 exact(gw2 [.slice 0 0 e.length e.length 4] (FzW.fz (Fz.sl (E:=qf) rfl rfl (nl rfl))))
def qX (N:Nat) (b:List ql):Nat->Int->(List Int)->Int->(List Int)->Int->Option (Int×(List Int)×Int×(List Int))
 |0,_,_,_,_,_=>none
 |K+1,c,d,e,f,g=>
  if g<(b.length:Int)then
  (((idx b g).bind fun a=>
  (ja N a (⟨(⟨c,d⟩:qj),(⟨e,f⟩:qj)⟩:ql)).bind fun h=>
  if h<0 then
  some (a.Num.s,a.Num.w,a.Den.s,a.Den.w)
  else
  some (c,d,e,f):Option (Int×(List Int)×Int×(List Int)))).bind fun(i,j,k,l)=>
  qX N b K i j k l (w64 (g+1))
  else
  some (c,d,e,f)
def zL (N:Nat) (a:List ql):Option ql:=
 ((if(a.length:Int)<1 then
 none
 else
 some ():Option Unit)).bind fun _=>
 (idx a 0).bind fun b=>
 (qX N a N b.Num.s b.Num.w b.Den.s b.Den.w 1).bind fun(f,c,d,e)=>
 some (⟨(⟨f,c⟩:qj),(⟨d,e⟩:qj)⟩:ql)
theorem qav (N:Nat) (a:List ql) {res:ql} (h:zL N a=some res):qb ZT (.fn 114) [vl qf a,.func (.func 38) [] []] [] (.agg (nq1 res)) []:=by
 unfold zL at h
 refine Ub Tryz.func114 rfl rfl (m:=33) rfl (rs:=[.cell 4 57]) rfl (l:=(kAi a [(1,.func (.func 38) [] [])])) rfl ?_
 refine sg fol (kAi a ((1,.func (.func 38) [] [])::(kAd []))) (kE []) ?_
 refine sq ?_
 refine sh fol (kAi a ((1,.func (.func 38) [] [])::(kAd [(9,.bool (decide ((a.length:Int)<1)))]))) ?_
 obtain⟨F,g1,h⟩:=bnd h
 refine Goes.imp (Q:=fun x s'=>(x= .normal/\()=F/\Sub s' (ofG 33 (kAi a ((1,.func (.func 38) [] [])::(kAd []))),(kE [])))) ?_ ?_
 ·refine ihD g1 (fun G g1=>?_) (fun G g1=>?_)
  ·cases g1
  refine Goes.skip ?_
  obtain rfl:=si g1
  exact⟨rfl,rfl,(Sub.keep [0,1,4] rfl rfl)⟩
 rintro x s' ⟨rfl,rfl,hsub⟩
 refine Goes.sub hsub ?_
 obtain⟨A,r,h⟩:=bnd h
 refine sq (gq fol [1,2,4] (kAi a ((1,.func (.func 38) [] [])::(kY []))) (kE [.cells (nq1 A)]) (ac (iv qco qf r) (ac (la qh7 qf r) (ac (hs (.run [1] (qp ZT 57 (.ptr 1 0) (.agg (nq1 A))) (kE (kE [])) .undef (kE [.cells (nq1 A)]) true) (ku (n:=4) (by kernel_rfl) rfl rfl rfl rfl (cac rfl (cac nvc (cac rfl (cac nvc can)))) rfl)) az))) ?_)
 refine sq ?_
 refine sh fol (kAi a ((1,.func (.func 38) [] [])::(kY [(6,.i 1)]))) ?_
 refine Goes.block ?_
 obtain⟨u,g13,h⟩:=bnd h
 refine Goes.imp (Q:=fun x s'=>(x= .exit 0/\ ∃f b c d,(f,b,c,d)=u/\Sub s' (ofG 33 (kY []),(kE [.cells (ni2 f b c d)])))) ?_ ?_
 ·refine Uc (fun M s=> ∃(v:Int) (w:List Int) (y:Int) (z:List Int) (g:Int),s=(ofG 33 (kAi a ((1,.func (.func 38) [] [])::(kY (kBR g)))),(kE [.cells (ni2 v w y z)]))/\qX N a M v w y z g=some u) ?_ (m:=N) ⟨_,_,_,_,_,rfl,g13⟩
  rintro M s ⟨v,w,y,z,g,rfl,g13⟩
  cases M with
  |zero=>simp only[qX]at g13;cases g13
  |succ M=>
   rw[qX]at g13
   refine sq ?_
   refine sh fol (kAi a ((1,.func (.func 38) [] [])::(kY [(6,.i g),(17,.bool (decide (g<(a.length:Int))))]))) ?_
   refine ihD g13 (fun B g13=>?_) (fun B g13=>?_)
   ·refine Goes.skip ?_
    refine sq ?_
    obtain⟨C,g19,g13⟩:=bnd g13
    refine Goes.imp (Q:=fun x s'=>(x= .normal/\ ∃j k o p,(j,k,o,p)=C/\Sub s' (ofG 33 (kAi a ((1,.func (.func 38) [] [])::(kY (kBR g)))),(kE [.cells (ni2 j k o p)])))) ?_ ?_
    ·refine Goes.block ?_
     obtain⟨q,e,g19⟩:=bnd g19
     obtain⟨D,t,g19⟩:=bnd g19
     refine sq (gr fol [3,4,6] (kAi a ((1,.func (.func 38) [] [])::(kY [(6,.i g),(27,.bool (decide (D<0)))]))) (ac (iv qco qf e) (ac (la qh7 qf e) (ac (cv (xB N q (⟨(⟨v,w⟩:qj),(⟨y,z⟩:qj)⟩:ql) t)) az))) ?_)
     refine ihD g19 (fun E g19=>?_) (fun E g19=>?_)
     ·refine gq fol [2,3,4] (kAi a ((1,.func (.func 38) [] [])::(kY (kBR g)))) (kE [.cells (nq1 q)]) (ac (iv qco qf e) (ac (la qh7 qf e) (ac (hs (.run [1] (qp ZT 57 (.ptr 1 0) (.agg (nq1 q))) (kE [.cells (ni2 v w y z)]) .undef (kE [.cells (nq1 q)]) true) (ku (n:=4) (by kernel_rfl) rfl rfl rfl rfl (cac rfl (cac nvc (cac rfl (cac nvc can)))) rfl)) az))) ?_
      obtain rfl:=si g19
      exact⟨rfl,_,_,_,_,rfl,(Sub.refl _)⟩
     refine Goes.skip ?_
     obtain rfl:=si g19
     exact⟨rfl,_,_,_,_,rfl,(Sub.keep [0,1,4,5,6] rfl rfl)⟩
    rintro x s' ⟨rfl,j,k,o,p,rfl,hsub⟩
    try dsimp only at g13
    refine Goes.sub hsub ?_
    refine gh fol (kAi a ((1,.func (.func 38) [] [])::(kY (kBR (w64 (g+1)))))) ?_
    exact⟨M,(ofG 33 (kAi a ((1,.func (.func 38) [] [])::(kY (kBR (w64 (g+1)))))),(kE [.cells (ni2 j k o p)])),Nat.lt_succ_self _,(Sub.refl _),_,_,_,_,_,rfl,g13⟩
   refine Goes.exit ?_
   obtain rfl:=si g13
   exact⟨rfl,_,_,_,_,rfl,(Sub.keep [4,5] rfl rfl)⟩
 rintro x s' ⟨rfl,f,b,c,d,rfl,hsub⟩
 try dsimp only at h
 refine Goes.sub hsub ?_
 refine sq (gq fol [1] (kAd []) [.cells (ni2 f b c d),.cells (ni2 f b c d)] (ac (hs (.run [0] (qp ZT 57 (.ptr 0 0) (.agg (ni2 f b c d))) (kE [.cells (ni2 f b c d)]) .undef [.cells (ni2 f b c d),.cells (ni2 f b c d)] true) (ku (n:=4) (by kernel_rfl) rfl rfl rfl rfl (cac rfl (cac nvc (cac rfl (cac nvc can)))) rfl)) az) ?_)
 refine Goes.ret ?_
 obtain rfl:=si h
 exact(gw2 [.agg (ni2 f b c d)] (FzW.agg (qc.cons (Ua tI) (qc.cons (Ua (qz (qa .u64) _ (nl rfl))) (qc.cons (Ua tI) (qc.cons (Ua (qz (qa .u64) _ (nl rfl))) qc.nil))))))
def qW (N:Nat) (b:List ql):Nat->Int->(List Int)->Int->(List Int)->Int->Option (Int×(List Int)×Int×(List Int))
 |0,_,_,_,_,_=>none
 |K+1,c,d,e,f,g=>
  if g<(b.length:Int)then
  (((idx b g).bind fun a=>
  (ja N a (⟨(⟨c,d⟩:qj),(⟨e,f⟩:qj)⟩:ql)).bind fun h=>
  if h>0 then
  some (a.Num.s,a.Num.w,a.Den.s,a.Den.w)
  else
  some (c,d,e,f):Option (Int×(List Int)×Int×(List Int)))).bind fun(i,j,k,l)=>
  qW N b K i j k l (w64 (g+1))
  else
  some (c,d,e,f)
def zK (N:Nat) (a:List ql):Option ql:=
 ((if(a.length:Int)<1 then
 none
 else
 some ():Option Unit)).bind fun _=>
 (idx a 0).bind fun b=>
 (qW N a N b.Num.s b.Num.w b.Den.s b.Den.w 1).bind fun(f,c,d,e)=>
 some (⟨(⟨f,c⟩:qj),(⟨d,e⟩:qj)⟩:ql)
theorem qax (N:Nat) (a:List ql) {res:ql} (h:zK N a=some res):qb ZT (.fn 115) [vl qf a,.func (.func 38) [] []] [] (.agg (nq1 res)) []:=by
 unfold zK at h
 refine Ub Tryz.func115 rfl rfl (m:=33) rfl (rs:=[.cell 4 57]) rfl (l:=(kAi a [(1,.func (.func 38) [] [])])) rfl ?_
 refine sg fol (kAi a ((1,.func (.func 38) [] [])::(kAd []))) (kE []) ?_
 refine sq ?_
 refine sh fol (kAi a ((1,.func (.func 38) [] [])::(kAd [(9,.bool (decide ((a.length:Int)<1)))]))) ?_
 obtain⟨F,g1,h⟩:=bnd h
 refine Goes.imp (Q:=fun x s'=>(x= .normal/\()=F/\Sub s' (ofG 33 (kAi a ((1,.func (.func 38) [] [])::(kAd []))),(kE [])))) ?_ ?_
 ·refine ihD g1 (fun G g1=>?_) (fun G g1=>?_)
  ·cases g1
  refine Goes.skip ?_
  obtain rfl:=si g1
  exact⟨rfl,rfl,(Sub.keep [0,1,4] rfl rfl)⟩
 rintro x s' ⟨rfl,rfl,hsub⟩
 refine Goes.sub hsub ?_
 obtain⟨A,r,h⟩:=bnd h
 refine sq (gq fol [1,2,4] (kAi a ((1,.func (.func 38) [] [])::(kY []))) (kE [.cells (nq1 A)]) (ac (iv qco qf r) (ac (la qh7 qf r) (ac (hs (.run [1] (qp ZT 57 (.ptr 1 0) (.agg (nq1 A))) (kE (kE [])) .undef (kE [.cells (nq1 A)]) true) (ku (n:=4) (by kernel_rfl) rfl rfl rfl rfl (cac rfl (cac nvc (cac rfl (cac nvc can)))) rfl)) az))) ?_)
 refine sq ?_
 refine sh fol (kAi a ((1,.func (.func 38) [] [])::(kY [(6,.i 1)]))) ?_
 refine Goes.block ?_
 obtain⟨u,g13,h⟩:=bnd h
 refine Goes.imp (Q:=fun x s'=>(x= .exit 0/\ ∃f b c d,(f,b,c,d)=u/\Sub s' (ofG 33 (kY []),(kE [.cells (ni2 f b c d)])))) ?_ ?_
 ·refine Uc (fun M s=> ∃(v:Int) (w:List Int) (y:Int) (z:List Int) (g:Int),s=(ofG 33 (kAi a ((1,.func (.func 38) [] [])::(kY (kBR g)))),(kE [.cells (ni2 v w y z)]))/\qW N a M v w y z g=some u) ?_ (m:=N) ⟨_,_,_,_,_,rfl,g13⟩
  rintro M s ⟨v,w,y,z,g,rfl,g13⟩
  cases M with
  |zero=>simp only[qW]at g13;cases g13
  |succ M=>
   rw[qW]at g13
   refine sq ?_
   refine sh fol (kAi a ((1,.func (.func 38) [] [])::(kY [(6,.i g),(17,.bool (decide (g<(a.length:Int))))]))) ?_
   refine ihD g13 (fun B g13=>?_) (fun B g13=>?_)
   ·refine Goes.skip ?_
    refine sq ?_
    obtain⟨C,g19,g13⟩:=bnd g13
    refine Goes.imp (Q:=fun x s'=>(x= .normal/\ ∃j k o p,(j,k,o,p)=C/\Sub s' (ofG 33 (kAi a ((1,.func (.func 38) [] [])::(kY (kBR g)))),(kE [.cells (ni2 j k o p)])))) ?_ ?_
    ·refine Goes.block ?_
     obtain⟨q,e,g19⟩:=bnd g19
     obtain⟨D,t,g19⟩:=bnd g19
     refine sq (gr fol [3,4,6] (kAi a ((1,.func (.func 38) [] [])::(kY [(6,.i g),(27,.bool (decide (D>0)))]))) (ac (iv qco qf e) (ac (la qh7 qf e) (ac (cv (xB N q (⟨(⟨v,w⟩:qj),(⟨y,z⟩:qj)⟩:ql) t)) az))) ?_)
     refine ihD g19 (fun E g19=>?_) (fun E g19=>?_)
     ·refine gq fol [2,3,4] (kAi a ((1,.func (.func 38) [] [])::(kY (kBR g)))) (kE [.cells (nq1 q)]) (ac (iv qco qf e) (ac (la qh7 qf e) (ac (hs (.run [1] (qp ZT 57 (.ptr 1 0) (.agg (nq1 q))) (kE [.cells (ni2 v w y z)]) .undef (kE [.cells (nq1 q)]) true) (ku (n:=4) (by kernel_rfl) rfl rfl rfl rfl (cac rfl (cac nvc (cac rfl (cac nvc can)))) rfl)) az))) ?_
      obtain rfl:=si g19
      exact⟨rfl,_,_,_,_,rfl,(Sub.refl _)⟩
     refine Goes.skip ?_
     obtain rfl:=si g19
     exact⟨rfl,_,_,_,_,rfl,(Sub.keep [0,1,4,5,6] rfl rfl)⟩
    rintro x s' ⟨rfl,j,k,o,p,rfl,hsub⟩
    try dsimp only at g13
    refine Goes.sub hsub ?_
    refine gh fol (kAi a ((1,.func (.func 38) [] [])::(kY (kBR (w64 (g+1)))))) ?_
    exact⟨M,(ofG 33 (kAi a ((1,.func (.func 38) [] [])::(kY (kBR (w64 (g+1)))))),(kE [.cells (ni2 j k o p)])),Nat.lt_succ_self _,(Sub.refl _),_,_,_,_,_,rfl,g13⟩
   refine Goes.exit ?_
   obtain rfl:=si g13
   exact⟨rfl,_,_,_,_,rfl,(Sub.keep [4,5] rfl rfl)⟩
 rintro x s' ⟨rfl,f,b,c,d,rfl,hsub⟩
 try dsimp only at h
 refine Goes.sub hsub ?_
 refine sq (gq fol [1] (kAd []) [.cells (ni2 f b c d),.cells (ni2 f b c d)] (ac (hs (.run [0] (qp ZT 57 (.ptr 0 0) (.agg (ni2 f b c d))) (kE [.cells (ni2 f b c d)]) .undef [.cells (ni2 f b c d),.cells (ni2 f b c d)] true) (ku (n:=4) (by kernel_rfl) rfl rfl rfl rfl (cac rfl (cac nvc (cac rfl (cac nvc can)))) rfl)) az) ?_)
 refine Goes.ret ?_
 obtain rfl:=si h
 exact(gw2 [.agg (ni2 f b c d)] (FzW.agg (qc.cons (Ua tI) (qc.cons (Ua (qz (qa .u64) _ (nl rfl))) (qc.cons (Ua tI) (qc.cons (Ua (qz (qa .u64) _ (nl rfl))) qc.nil))))))
def qH (N:Nat) (f:ql) (b:List ql):Nat->(List ql)->Int->Option (List ql)
 |0,_,_=>none
 |K+1,g,a=>
  if a<(b.length:Int)then
  (idx b a).bind fun c=>
  (yC N f c).bind fun d=>
  (app 64 g [d]).bind fun e=>
  qH N f b K e (w64 (a+1))
  else
  some g
def qG (N:Nat) (a:qJ) (b:List ql):Nat->(List ql)->Int->Option (List ql)
 |0,_,_=>none
 |K+1,e,c=>
  if c<(b.length:Int)then
  (idx b c).bind fun f=>
  (xk N ([a.Low,a.High]:List Str)).bind fun g=>
  (qH N f g N e 0).bind fun d=>
  qG N a b K d (w64 (c+1))
  else
  some e
def yA (N:Nat) (a:qJ) (c:qJ):Option (qJ×Int):=
 (xk N ([a.Low,a.High]:List Str)).bind fun g=>
 (qG N c g N ([]:List ql) 0).bind fun f=>
 (zL N f).bind fun d=>
 (zK N f).bind fun e=>
 (qaj N d e).bind fun b=>
 some (b.1,b.2)
theorem qd4 (N:Nat) (b:qJ) (a:qJ) {res:qJ×Int} (h:yA N b a=some res):qb ZT (.fn 69) (kAF b.Low b.High (kAF a.Low a.High [.func (.func 66) [] []])) [] (.tuple (kAF res.1.Low res.1.High [.i res.2])) []:=by
 unfold yA at h
 refine Ub Tryz.func69 rfl rfl (m:=51) rfl (rs:=[.cell 6 37,.tmp 7]) rfl (l:=(kAp b.Low b.High a.Low a.High [(2,.func (.func 66) [] [])])) rfl ?_
 refine sg fol ((2,.func (.func 66) [] [])::(kAf [])) (kB b.Low b.High a.Low a.High (kS [])) ?_
 refine sh fol ((2,.func (.func 66) [] [])::(kAf [(8,.nilslice)])) ?_
 refine sq ?_
 obtain⟨d,F,h⟩:=bnd h
 refine sq (gq fol [5] ((2,.func (.func 66) [] [])::(kBZ ((6,.ptr 2 0)::(kAa d (d.length:Int))))) (kB b.Low b.High a.Low a.High (kS (kBN b.Low b.High))) (ac (hs (.callF 113 [.slice 3 0 2 2 1] (kB b.Low b.High a.Low a.High (kS (kZ b.Low b.High []))) [3] [vl encS ([b.Low,b.High]:List Str)] (vl qf d)) (vZ (FzL.cons (Fz.lit rfl rfl (Ue (AllST.cons tS (AllST.cons tS AllST.nil)))) FzL.nil) (qaX N ([b.Low,b.High]:List Str) F) (qx qf _ (nl rfl)))) az) ?_)
 refine Goes.sub (show Sub (ofG 51 ((2,.func (.func 66) [] [])::(kBZ ((6,.ptr 2 0)::(kAa d (d.length:Int))))),(kB b.Low b.High a.Low a.High (kS (kBN b.Low b.High)))) (ofG 51 ((2,.func (.func 66) [] [])::(kAd ((6,.ptr 1 0)::(kAa d (d.length:Int))))),(kZ a.Low a.High (kS [])))from(Sub.norm [] [some 1,some 2] rfl rfl (.keep (.same (qC.func sn sn)) (.kp (.kp (.keep (.same (qC.nilslice)) (.keep (.same (qd qf _)) (.keep (.same nI) (.keep (.same nI) .nil))))))) (.kb rfl (.same sn) (.kb rfl (.same sn) .nil)))) ?_
 refine Goes.block ?_
 obtain⟨L,g5,h⟩:=bnd h
 refine Goes.imp (Q:=fun x s'=>(x= .exit 0/\ ∃t,t=L/\Sub s' (ofG 51 [(6,.ptr 0 0),(8,.gslice 1 t.length 4)],(kS (kAG t))))) ?_ ?_
 ·refine Goes.sub (s':=(ofG 51 ((2,.func (.func 66) [] [])::(kAd [(6,.ptr 1 0),(8,.gslice 2 ([]:List ql).length 4),(18,vl qf d),(19,.i (d.length:Int)),(20,.i 0)])),(kZ a.Low a.High (kS [.cells (([]:List ql).flatMap qf.c)])))) (Sub.norm [] [some 0,some 1,none] rfl rfl (.keep (.same (qC.func sn sn)) (.kp (.kp (.keep .nil (.keep (.same (qd qf _)) (.keep (.same nI) (.keep (.same nI) .nil))))))) (.kb rfl (.same sn) (.kb rfl (.same sn) (.fresh .nil)))) ?_
  refine Uc (fun M s=> ∃(o:List ql) (j:Int),s=(ofG 51 ((2,.func (.func 66) [] [])::(kV o d (d.length:Int) j [])),(kH a.Low a.High o []))/\qG N a d M o j=some L) ?_ (m:=N) ⟨_,_,rfl,g5⟩
  rintro M s ⟨o,j,rfl,g5⟩
  cases M with
  |zero=>simp only[qG]at g5;cases g5
  |succ M=>
   rw[qG]at g5
   refine sh fol ((2,.func (.func 66) [] [])::(kV o d (d.length:Int) j [(21,.bool (decide (j<(d.length:Int))))])) ?_
   refine sq ?_
   refine ihD g5 (fun O g5=>?_) (fun O g5=>?_)
   ·refine Goes.skip ?_
    refine sq (Goes.block ?_)
    obtain⟨k,y,g5⟩:=bnd g5
    refine sq (gq fol [0,1,3] ((2,.func (.func 66) [] [])::(kAd (kAy o [(18,vl qf d),(19,.i (d.length:Int)),(20,.i j)]))) (kH a.Low a.High o [.cells (nq1 k)]) (ac (iv qco qf y) (ac (la qh7 qf y) (ac (hs (.run [3] (qp ZT 57 (.ptr 3 0) (.agg (nq1 k))) (kH a.Low a.High o (kE [])) .undef (kH a.Low a.High o [.cells (nq1 k)]) true) (ku (n:=4) (by kernel_rfl) rfl rfl rfl rfl (cac rfl (cac nvc (cac rfl (cac nvc can)))) rfl)) az))) ?_)
    obtain⟨f,G,g5⟩:=bnd g5
    refine sq (gq fol [5] ((2,.func (.func 66) [] [])::(kM o d (d.length:Int) j f (f.length:Int) [(31,.i 0)])) (kH a.Low a.High o (.cells (nq1 k)::(kBN a.Low a.High))) (ac (hs (.callF 113 [.slice 4 0 2 2 1] (kH a.Low a.High o (.cells (nq1 k)::(kZ a.Low a.High []))) [4] [vl encS ([a.Low,a.High]:List Str)] (vl qf f)) (vZ (FzL.cons (Fz.lit rfl rfl (Ue (AllST.cons tS (AllST.cons tS AllST.nil)))) FzL.nil) (qaX N ([a.Low,a.High]:List Str) G) (qx qf _ (nl rfl)))) az) ?_)
    refine Goes.sub (show Sub (ofG 51 ((2,.func (.func 66) [] [])::(kM o d (d.length:Int) j f (f.length:Int) [(31,.i 0)])),(kH a.Low a.High o (.cells (nq1 k)::(kBN a.Low a.High)))) (ofG 51 ((2,.func (.func 66) [] [])::(kM o d (d.length:Int) j f (f.length:Int) [(31,.i 0)])),(kH a.Low a.High o [.cells (nq1 k)]))from(Sub.norm [] [some 0,some 1,some 2,some 3] rfl rfl (.keep (.same (qC.func sn sn)) (.kp (.kp (.keep (.gslice rfl) (.kp (.keep (.same (qd qf _)) (.keep (.same nI) (.keep (.same nI) (.keep (.same (qd qf _)) (.keep (.same nI) (.keep (.same nI) .nil))))))))))) (.kb rfl (.same sn) (.kb rfl (.same sn) (.ks (.kb rfl (.same sn) .nil)))))) ?_
    refine Goes.block ?_
    obtain⟨H,g12,g5⟩:=bnd g5
    refine Goes.imp (Q:=fun x s'=>(x= .exit 2/\ ∃p,p=H/\Sub s' (ofG 51 ((2,.func (.func 66) [] [])::(kV p d (d.length:Int) j [])),(kH a.Low a.High p [])))) ?_ ?_
    ·refine Uc (fun M s=> ∃(u:List ql) (g:Int),s=(ofG 51 ((2,.func (.func 66) [] [])::(kM u d (d.length:Int) j f (f.length:Int) [(31,.i g)])),(kH a.Low a.High u [.cells (nq1 k)]))/\qH N k f M u g=some H) ?_ (m:=N) ⟨_,_,rfl,g12⟩
     rintro M s ⟨u,g,rfl,g12⟩
     cases M with
     |zero=>simp only[qH]at g12;cases g12
     |succ M=>
      rw[qH]at g12
      refine sh fol ((2,.func (.func 66) [] [])::(kM u d (d.length:Int) j f (f.length:Int) [(31,.i g),(32,.bool (decide (g<(f.length:Int))))])) ?_
      refine sq ?_
      refine ihD g12 (fun K g12=>?_) (fun K g12=>?_)
      ·refine Goes.skip ?_
       refine sq (Goes.block ?_)
       obtain⟨q,v,g12⟩:=bnd g12
       refine sq (gq fol [0,1,3] ((2,.func (.func 66) [] [])::(kAd (kAy u [(12,.ptr 4 0),(18,vl qf d),(19,.i (d.length:Int)),(20,.i j),(29,vl qf f),(30,.i (f.length:Int)),(31,.i g)]))) (kH a.Low a.High u [.cells (nq1 k),.cells (nq1 q)]) (ac (iv qco qf v) (ac (la qh7 qf v) (ac (hs (.run [4] (qp ZT 57 (.ptr 4 0) (.agg (nq1 q))) (kH a.Low a.High u (.cells (nq1 k)::(kE []))) .undef (kH a.Low a.High u [.cells (nq1 k),.cells (nq1 q)]) true) (ku (n:=4) (by kernel_rfl) rfl rfl rfl rfl (cac rfl (cac nvc (cac rfl (cac nvc can)))) rfl)) az))) ?_)
       obtain⟨w,z,g12⟩:=bnd g12
       obtain⟨r,A,g12⟩:=bnd g12
       refine gq fol [4,6] ((2,.func (.func 66) [] [])::(kAN r d (d.length:Int) j f (f.length:Int) [(31,.i g)])) (kZ a.Low a.High (kS (.dead:: .cells (nq1 k):: .cells (nq1 q):: .cells (nq1 w)::(kAG r)))) (ac (cv (qdA N k q z)) (ac (hs (.run [2,5] (yQ ZT [135,135] (.gslice 2 u.length 4) (.slice 5 0 1 1 4)) (kH a.Low a.High u [.cells (nq1 k),.cells (nq1 q),.cells (nq1 w)]) (.gslice 6 r.length 4) (kZ a.Low a.High (kS (.dead:: .cells (nq1 k):: .cells (nq1 q):: .cells (nq1 w)::(kAG r)))) true) (qbs qco (E:=qf) rfl (qfb (E:=qf) (ys:=[w]) rfl rfl rfl rfl) (qf8 (E:=qf) (l:=u) rfl rfl rfl A rfl))) az)) ?_
       refine gh fol ((2,.func (.func 66) [] [])::(kAN r d (d.length:Int) j f (f.length:Int) [(31,.i (w64 (g+1)))])) ?_
       exact⟨M,(ofG 51 ((2,.func (.func 66) [] [])::(kM r d (d.length:Int) j f (f.length:Int) [(31,.i (w64 (g+1)))])),(kH a.Low a.High r [.cells (nq1 k)])),Nat.lt_succ_self _,(Sub.norm [] [some 0,some 1,some 6,some 3] rfl rfl (.keep (.same (qC.func sn sn)) (.kp (.kp (.keep (.gslice rfl) (.kp (.keep (.same (qd qf _)) (.keep (.same nI) (.keep (.same nI) (.keep (.same (qd qf _)) (.keep (.same nI) (.keep (.same nI) .nil))))))))))) (.kb rfl (.same sn) (.kb rfl (.same sn) (.ks (.kb rfl (.same sn) .nil))))),_,_,rfl,g12⟩
      refine Goes.exit ?_
      obtain rfl:=si g12
      exact⟨rfl,_,rfl,(Sub.norm [] [some 0,some 1,some 2] rfl rfl (.keep (.same (qC.func sn sn)) (.kp (.kp (.keep (.gslice rfl) (.drop (.keep (.same (qd qf _)) (.keep (.same nI) (.keep (.same nI) .nil)))))))) (.kb rfl (.same sn) (.kb rfl (.same sn) (.ks .nil))))⟩
    rintro x s' ⟨rfl,p,rfl,hsub⟩
    refine Goes.sub hsub ?_
    refine gh fol ((2,.func (.func 66) [] [])::(kV p d (d.length:Int) (w64 (j+1)) [])) ?_
    exact⟨M,(ofG 51 ((2,.func (.func 66) [] [])::(kV p d (d.length:Int) (w64 (j+1)) [])),(kH a.Low a.High p [])),Nat.lt_succ_self _,(Sub.refl _),_,_,rfl,g5⟩
   refine Goes.exit ?_
   obtain rfl:=si g5
   exact⟨rfl,_,rfl,(Sub.norm [] [some 1,some 2] rfl rfl (.drop (.drop (.kp (.keep (.gslice rfl) .nil)))) (.kb rfl (.same sn) (.ks .nil)))⟩
 rintro x s' ⟨rfl,t,rfl,hsub⟩
 refine Goes.sub hsub ?_
 obtain⟨I,B,h⟩:=bnd h
 obtain⟨J,C,h⟩:=bnd h
 obtain⟨e,D,h⟩:=bnd h
 refine sq (gq fol [1,3,4] (kBQ e.2) (kZ e.1.Low e.1.High (kA7 t)) (ac (hs (.callF 114 [.gslice 1 t.length 4,.func (.func 38) [] []] (kS (kAG t)) [1] [vl qf t,.func (.func 38) [] []] (.agg (nq1 I))) (vZ (FzL.cons (Fz.gs (E:=qf) rfl rfl (nl rfl)) (FzL.cons (Fz.func FzL.nil FzL.nil) FzL.nil)) (qav N t B) (Still.agg (AllST.cons tI (AllST.cons (qz (qa .u64) _ (nl rfl)) (AllST.cons tI (AllST.cons (qz (qa .u64) _ (nl rfl)) AllST.nil))))))) (ac (hs (.callF 115 [.gslice 1 t.length 4,.func (.func 38) [] []] (kS (kA7 t)) [1] [vl qf t,.func (.func 38) [] []] (.agg (nq1 J))) (vZ (FzL.cons (Fz.gsF (E:=qf) rfl rfl (nl rfl)) (FzL.cons (Fz.func FzL.nil FzL.nil) FzL.nil)) (qax N t C) (Still.agg (AllST.cons tI (AllST.cons (qz (qa .u64) _ (nl rfl)) (AllST.cons tI (AllST.cons (qz (qa .u64) _ (nl rfl)) AllST.nil))))))) (ac (cv (qb5 N I J D)) az))) ?_)
 refine Goes.sub (show Sub (ofG 51 (kBQ e.2),(kZ e.1.Low e.1.High (kA7 t))) (ofG 51 (kBQ e.2),(kZ e.1.Low e.1.High []))from(Sub.norm [] [some 0] rfl rfl (.kp (.keep (.same nI) .nil)) (.kb rfl (.same sn) .nil))) ?_
 refine Goes.ret ?_
 obtain rfl:=si h
 exact(gw2 (kAF e.1.Low e.1.High [.i e.2]) (FzW.tuple (qc.cons (FzW.agg (qc.cons (Ua tS) (qc.cons (Ua tS) qc.nil))) (qc.cons (Ua tI) qc.nil))))
def vK (N:Nat) (a:qJ) (b:qJ):Option (qJ×Int):=
 (qY N a).bind fun e=>
 (qY N b).bind fun f=>
 (jm N ([e,f]:List Int)).bind fun c=>
 if(!decide (c=0))=true then
 some ((⟨[],[]⟩:qJ),c)
 else
 (yA N a b).bind fun d=>
 some (d.1,d.2)
theorem qcf (N:Nat) (a:qJ) (b:qJ) {res:qJ×Int} (h:vK N a b=some res):qb ZT (.fn 65) (kAF a.Low a.High (kAF b.Low b.High [.func (.func 66) [] []])) [] (.tuple (kAF res.1.Low res.1.High [.i res.2])) []:=by
 unfold vK at h
 refine Ub Tryz.func65 rfl rfl (m:=25) rfl (rs:=[.cell 6 37,.tmp 7]) rfl (l:=(kAp a.Low a.High b.Low b.High [(2,.func (.func 66) [] [])])) rfl ?_
 refine sg fol ((2,.func (.func 66) [] [])::(kAf [])) (kB a.Low a.High b.Low b.High (kS [])) ?_
 refine sq ?_
 obtain⟨e,f,h⟩:=bnd h
 obtain⟨g,j,h⟩:=bnd h
 obtain⟨d,k,h⟩:=bnd h
 refine sq (gq fol [1,3,5] ((2,.func (.func 66) [] [])::(kAf [(8,.i d)])) (kB a.Low a.High b.Low b.High (kS (kAe e g []))) (ac (cv (jB N a f)) (ac (cv (jB N b j)) (ac (hs (.call 31 [.slice 3 0 2 2 1] (kB a.Low a.High b.Low b.High (kS (kAe e g []))) [3] [vl encI ([e,g]:List Int)] (.i d)) (qdM (FzL.cons (Fz.lit rfl rfl (Ue (AllST.cons tI (AllST.cons tI AllST.nil)))) FzL.nil) (xy N ([e,g]:List Int) k) tI rfl)) az))) ?_)
 refine sh fol ((2,.func (.func 66) [] [])::(kAf [(8,.i d),(16,.bool (!decide (d=0)))])) ?_
 refine ihB h (fun o h=>?_) (fun o h=>?_)
 ·refine sh fol [(6,.ptr 2 0),(7,.i d)] ?_
  refine Goes.ret ?_
  obtain rfl:=si h
  exact(gw2 [.agg [.str [],.str []],.i d] (FzW.tuple (qc.cons (FzW.agg (qc.cons (Ua tS) (qc.cons (Ua tS) qc.nil))) (qc.cons (Ua tI) qc.nil))))
 refine Goes.skip ?_
 obtain⟨c,n,h⟩:=bnd h
 refine sq (gq fol [3] [(6,.ptr 2 0),(7,.i c.2)] (kB a.Low a.High b.Low b.High (kZ c.1.Low c.1.High (kAe e g []))) (ac (hs (.call 69 (kAF a.Low a.High (kAF b.Low b.High [.func (.func 66) [] []])) [] [] (kAF a.Low a.High (kAF b.Low b.High [.func (.func 66) [] []])) (.tuple (kAF c.1.Low c.1.High [.i c.2]))) (qli (FzL.cons (Ui (Still.agg (AllST.cons tS (AllST.cons tS AllST.nil)))) (FzL.cons (Ui (Still.agg (AllST.cons tS (AllST.cons tS AllST.nil)))) (FzL.cons (Fz.func FzL.nil FzL.nil) FzL.nil))) (qd4 N a b n) (Still.tuple (AllST.cons (Still.agg (AllST.cons tS (AllST.cons tS AllST.nil))) (AllST.cons tI AllST.nil))))) az) ?_)
 refine Goes.ret ?_
 obtain rfl:=si h
 exact(gw2 (kAF c.1.Low c.1.High [.i c.2]) (FzW.tuple (qc.cons (FzW.agg (qc.cons (Ua tS) (qc.cons (Ua tS) qc.nil))) (qc.cons (Ua tI) qc.nil))))
def vM (N:Nat) (a:qJ) (b:qJ):Option (qJ×Int):=
 (vK N a b).bind fun c=>
 some (c.1,c.2)
theorem qaD (N:Nat) (a:qJ) (b:qJ) {res:qJ×Int} (h:vM N a b=some res):qb ZT (.fn 20) (kAF a.Low a.High (kAF b.Low b.High [])) [] (.tuple (kAF res.1.Low res.1.High [.i res.2])) []:=by
 unfold vM at h
 refine Ub Tryz.func20 rfl rfl (m:=11) rfl (rs:=[.cell 4 37,.tmp 5]) rfl (l:=(kAp a.Low a.High b.Low b.High [])) rfl ?_
 refine sg fol (kG []) (kB a.Low a.High b.Low b.High (kS [])) ?_
 obtain⟨c,d,h⟩:=bnd h
 refine sq (gq fol [2] (kAM (kA4 c.2)) (kB a.Low a.High b.Low b.High (kZ c.1.Low c.1.High [])) (ac (hs (.call 65 (kAF a.Low a.High (kAF b.Low b.High [.func (.func 66) [] []])) [] [] (kAF a.Low a.High (kAF b.Low b.High [.func (.func 66) [] []])) (.tuple (kAF c.1.Low c.1.High [.i c.2]))) (qli (FzL.cons (Ui (Still.agg (AllST.cons tS (AllST.cons tS AllST.nil)))) (FzL.cons (Ui (Still.agg (AllST.cons tS (AllST.cons tS AllST.nil)))) (FzL.cons (Fz.func FzL.nil FzL.nil) FzL.nil))) (qcf N a b d) (Still.tuple (AllST.cons (Still.agg (AllST.cons tS (AllST.cons tS AllST.nil))) (AllST.cons tI AllST.nil))))) az) ?_)
 refine Goes.ret ?_
 obtain rfl:=si h
 exact(gw2 (kAF c.1.Low c.1.High [.i c.2]) (FzW.tuple (qc.cons (FzW.agg (qc.cons (Ua tS) (qc.cons (Ua tS) qc.nil))) (qc.cons (Ua tI) qc.nil))))
def xV (a:Str):Option qJ:=
 some (⟨a,a⟩:qJ)
theorem qa6 (a:Str) {res:qJ} (h:xV a=some res):qb ZT (.fn 21) [.str a] [] (.agg (kA9 res.Low res.High)) []:=by
 unfold xV at h
 refine Ub Tryz.func21 rfl rfl (m:=6) rfl (rs:=[.cell 2 37]) rfl (l:=(kAQ a [])) rfl ?_
 refine sg fol (kAQ a (kU [])) (kS []) ?_
 refine sg fol (kU []) [.cells [.str a,.str a]] ?_
 refine Goes.ret ?_
 obtain rfl:=si h
 exact(gw2 [.agg [.str a,.str a]] (FzW.agg (qc.cons (Ua tS) (qc.cons (Ua tS) qc.nil))))
def qbg (N:Nat) (a:Str) (b:Str):Option Str:=
 (jU N a).bind fun c=>
 (jU N b).bind fun d=>
 (if c.2.2=true then
 some d.2.2
 else
 some false:Option Bool).bind fun j=>
 if j=true then
 (qcQ N (w64 (c.1*d.1)) (w64 (c.2.1*d.2.1))).bind fun k=>
 some k
 else
 (vD N a).bind fun h=>
 (vD N b).bind fun i=>
 (yE N h.1 i.1).bind fun e=>
 (yE N h.2 i.2).bind fun f=>
 (vV N e f).bind fun g=>
 some g
theorem qdp (N:Nat) (a:Str) (b:Str) {res:Str} (h:qbg N a b=some res):qb ZT (.fn 22) (kA9 a b) [] (.str res) []:=by
 unfold qbg at h
 refine Ub Tryz.func22 rfl rfl (m:=55) rfl (rs:=[.tmp 4]) rfl (l:=(kR a b [])) rfl ?_
 refine sh fol (kR a b []) ?_
 obtain⟨d,o,h⟩:=bnd h
 refine sq (gr fol [1] (kR a b [(5,.i d.1),(6,.i d.2.1),(7,.bool d.2.2)]) (ac (cv (qaU N a o)) az) ?_)
 obtain⟨e,p,h⟩:=bnd h
 refine sq (gr fol [1] (kR a b ((5,.i d.1)::(6,.i d.2.1)::(7,.bool d.2.2)::(kAt e.1 e.2.1 [(10,.bool e.2.2)]))) (ac (cv (qaU N b p)) az) ?_)
 refine sq ?_
 refine sq ?_
 obtain⟨z,c,h⟩:=bnd h
 refine Goes.cut (s':=(ofG 55 (kR a b ((5,.i d.1)::(6,.i d.2.1)::(kAt e.1 e.2.1 [(30,.bool z)]))),[])) ?_ ?_
 ·rcases wyB c with⟨u,c⟩|⟨u,c⟩
  ·obtain rfl:=si c
   exact tr fol [1] (kR a b ((5,.i d.1)::(6,.i d.2.1)::(kAt e.1 e.2.1 [(30,.bool e.2.2)]))) (ac (gw u) az)
  obtain rfl:=si c
  exact tr fol [1] (kR a b ((5,.i d.1)::(6,.i d.2.1)::(kAt e.1 e.2.1 [(30,.bool false)]))) (ac (gw u) az)
 refine ihB h (fun A h=>?_) (fun A h=>?_)
 ·obtain⟨y,q,h⟩:=bnd h
  refine sq (gr fol [6] [(4,.str y)] (ac (cv (qf3 N (w64 (d.1*e.1)) (w64 (d.2.1*e.2.1)) q)) az) ?_)
  refine Goes.ret ?_
  obtain rfl:=si h
  exact(gw2 [.str y] (Ua tS))
 refine Goes.skip ?_
 obtain⟨f,r,h⟩:=bnd h
 refine sq (gq fol [1] [(1,.str b),(11,.ptr 0 0),(12,.ptr 1 0)] (kN f.1.neg f.1.w f.2.neg f.2.w []) (ac (cv (qak N a r)) az) ?_)
 obtain⟨n,s,h⟩:=bnd h
 refine sq (gq fol [1] [(11,.ptr 0 0),(12,.ptr 1 0),(13,.ptr 2 0),(14,.ptr 3 0)] (kN f.1.neg f.1.w f.2.neg f.2.w (kN n.1.neg n.1.w n.2.neg n.2.w [])) (ac (cv (qak N b s)) az) ?_)
 obtain⟨v,g,h⟩:=bnd h
 obtain⟨x,j,h⟩:=bnd h
 obtain⟨t,k,h⟩:=bnd h
 refine sq (gr fol [2,5,6] [(4,.str t)] (ac (cv (qae N f.1 n.1 g)) (ac (cv (qae N f.2 n.2 j)) (ac (cv (qa3 N v x k)) az))) ?_)
 refine Goes.ret ?_
 obtain rfl:=si h
 exact(gw2 [.str t] (Ua tS))
def qF (N:Nat) (f:ql) (b:List ql):Nat->(List ql)->Int->Option (List ql)
 |0,_,_=>none
 |K+1,g,a=>
  if a<(b.length:Int)then
  (idx b a).bind fun c=>
  (xw N f c).bind fun d=>
  (app 64 g [d]).bind fun e=>
  qF N f b K e (w64 (a+1))
  else
  some g
def qE (N:Nat) (a:qJ) (b:List ql):Nat->(List ql)->Int->Option (List ql)
 |0,_,_=>none
 |K+1,e,c=>
  if c<(b.length:Int)then
  (idx b c).bind fun f=>
  (xk N ([a.Low,a.High]:List Str)).bind fun g=>
  (qF N f g N e 0).bind fun d=>
  qE N a b K d (w64 (c+1))
  else
  some e
def yD (N:Nat) (a:qJ) (c:qJ):Option (qJ×Int):=
 (xk N ([a.Low,a.High]:List Str)).bind fun g=>
 (qE N c g N ([]:List ql) 0).bind fun f=>
 (zL N f).bind fun d=>
 (zK N f).bind fun e=>
 (qaj N d e).bind fun b=>
 some (b.1,b.2)
theorem qdX (N:Nat) (b:qJ) (a:qJ) {res:qJ×Int} (h:yD N b a=some res):qb ZT (.fn 69) (kAF b.Low b.High (kAF a.Low a.High [.func (.func 40) [] []])) [] (.tuple (kAF res.1.Low res.1.High [.i res.2])) []:=by
 unfold yD at h
 refine Ub Tryz.func69 rfl rfl (m:=51) rfl (rs:=[.cell 6 37,.tmp 7]) rfl (l:=(kAp b.Low b.High a.Low a.High [(2,.func (.func 40) [] [])])) rfl ?_
 refine sg fol ((2,.func (.func 40) [] [])::(kAf [])) (kB b.Low b.High a.Low a.High (kS [])) ?_
 refine sh fol ((2,.func (.func 40) [] [])::(kAf [(8,.nilslice)])) ?_
 refine sq ?_
 obtain⟨d,F,h⟩:=bnd h
 refine sq (gq fol [5] ((2,.func (.func 40) [] [])::(kBZ ((6,.ptr 2 0)::(kAa d (d.length:Int))))) (kB b.Low b.High a.Low a.High (kS (kBN b.Low b.High))) (ac (hs (.callF 113 [.slice 3 0 2 2 1] (kB b.Low b.High a.Low a.High (kS (kZ b.Low b.High []))) [3] [vl encS ([b.Low,b.High]:List Str)] (vl qf d)) (vZ (FzL.cons (Fz.lit rfl rfl (Ue (AllST.cons tS (AllST.cons tS AllST.nil)))) FzL.nil) (qaX N ([b.Low,b.High]:List Str) F) (qx qf _ (nl rfl)))) az) ?_)
 refine Goes.sub (show Sub (ofG 51 ((2,.func (.func 40) [] [])::(kBZ ((6,.ptr 2 0)::(kAa d (d.length:Int))))),(kB b.Low b.High a.Low a.High (kS (kBN b.Low b.High)))) (ofG 51 ((2,.func (.func 40) [] [])::(kAd ((6,.ptr 1 0)::(kAa d (d.length:Int))))),(kZ a.Low a.High (kS [])))from(Sub.norm [] [some 1,some 2] rfl rfl (.keep (.same (qC.func sn sn)) (.kp (.kp (.keep (.same (qC.nilslice)) (.keep (.same (qd qf _)) (.keep (.same nI) (.keep (.same nI) .nil))))))) (.kb rfl (.same sn) (.kb rfl (.same sn) .nil)))) ?_
 refine Goes.block ?_
 obtain⟨L,g5,h⟩:=bnd h
 refine Goes.imp (Q:=fun x s'=>(x= .exit 0/\ ∃t,t=L/\Sub s' (ofG 51 [(6,.ptr 0 0),(8,.gslice 1 t.length 4)],(kS (kAG t))))) ?_ ?_
 ·refine Goes.sub (s':=(ofG 51 ((2,.func (.func 40) [] [])::(kAd [(6,.ptr 1 0),(8,.gslice 2 ([]:List ql).length 4),(18,vl qf d),(19,.i (d.length:Int)),(20,.i 0)])),(kZ a.Low a.High (kS [.cells (([]:List ql).flatMap qf.c)])))) (Sub.norm [] [some 0,some 1,none] rfl rfl (.keep (.same (qC.func sn sn)) (.kp (.kp (.keep .nil (.keep (.same (qd qf _)) (.keep (.same nI) (.keep (.same nI) .nil))))))) (.kb rfl (.same sn) (.kb rfl (.same sn) (.fresh .nil)))) ?_
  refine Uc (fun M s=> ∃(o:List ql) (j:Int),s=(ofG 51 ((2,.func (.func 40) [] [])::(kV o d (d.length:Int) j [])),(kH a.Low a.High o []))/\qE N a d M o j=some L) ?_ (m:=N) ⟨_,_,rfl,g5⟩
  rintro M s ⟨o,j,rfl,g5⟩
  cases M with
  |zero=>simp only[qE]at g5;cases g5
  |succ M=>
   rw[qE]at g5
   refine sh fol ((2,.func (.func 40) [] [])::(kV o d (d.length:Int) j [(21,.bool (decide (j<(d.length:Int))))])) ?_
   refine sq ?_
   refine ihD g5 (fun O g5=>?_) (fun O g5=>?_)
   ·refine Goes.skip ?_
    refine sq (Goes.block ?_)
    obtain⟨k,y,g5⟩:=bnd g5
    refine sq (gq fol [0,1,3] ((2,.func (.func 40) [] [])::(kAd (kAy o [(18,vl qf d),(19,.i (d.length:Int)),(20,.i j)]))) (kH a.Low a.High o [.cells (nq1 k)]) (ac (iv qco qf y) (ac (la qh7 qf y) (ac (hs (.run [3] (qp ZT 57 (.ptr 3 0) (.agg (nq1 k))) (kH a.Low a.High o (kE [])) .undef (kH a.Low a.High o [.cells (nq1 k)]) true) (ku (n:=4) (by kernel_rfl) rfl rfl rfl rfl (cac rfl (cac nvc (cac rfl (cac nvc can)))) rfl)) az))) ?_)
    obtain⟨f,G,g5⟩:=bnd g5
    refine sq (gq fol [5] ((2,.func (.func 40) [] [])::(kM o d (d.length:Int) j f (f.length:Int) [(31,.i 0)])) (kH a.Low a.High o (.cells (nq1 k)::(kBN a.Low a.High))) (ac (hs (.callF 113 [.slice 4 0 2 2 1] (kH a.Low a.High o (.cells (nq1 k)::(kZ a.Low a.High []))) [4] [vl encS ([a.Low,a.High]:List Str)] (vl qf f)) (vZ (FzL.cons (Fz.lit rfl rfl (Ue (AllST.cons tS (AllST.cons tS AllST.nil)))) FzL.nil) (qaX N ([a.Low,a.High]:List Str) G) (qx qf _ (nl rfl)))) az) ?_)
    refine Goes.sub (show Sub (ofG 51 ((2,.func (.func 40) [] [])::(kM o d (d.length:Int) j f (f.length:Int) [(31,.i 0)])),(kH a.Low a.High o (.cells (nq1 k)::(kBN a.Low a.High)))) (ofG 51 ((2,.func (.func 40) [] [])::(kM o d (d.length:Int) j f (f.length:Int) [(31,.i 0)])),(kH a.Low a.High o [.cells (nq1 k)]))from(Sub.norm [] [some 0,some 1,some 2,some 3] rfl rfl (.keep (.same (qC.func sn sn)) (.kp (.kp (.keep (.gslice rfl) (.kp (.keep (.same (qd qf _)) (.keep (.same nI) (.keep (.same nI) (.keep (.same (qd qf _)) (.keep (.same nI) (.keep (.same nI) .nil))))))))))) (.kb rfl (.same sn) (.kb rfl (.same sn) (.ks (.kb rfl (.same sn) .nil)))))) ?_
    refine Goes.block ?_
    obtain⟨H,g12,g5⟩:=bnd g5
    refine Goes.imp (Q:=fun x s'=>(x= .exit 2/\ ∃p,p=H/\Sub s' (ofG 51 ((2,.func (.func 40) [] [])::(kV p d (d.length:Int) j [])),(kH a.Low a.High p [])))) ?_ ?_
    ·refine Uc (fun M s=> ∃(u:List ql) (g:Int),s=(ofG 51 ((2,.func (.func 40) [] [])::(kM u d (d.length:Int) j f (f.length:Int) [(31,.i g)])),(kH a.Low a.High u [.cells (nq1 k)]))/\qF N k f M u g=some H) ?_ (m:=N) ⟨_,_,rfl,g12⟩
     rintro M s ⟨u,g,rfl,g12⟩
     cases M with
     |zero=>simp only[qF]at g12;cases g12
     |succ M=>
      rw[qF]at g12
      refine sh fol ((2,.func (.func 40) [] [])::(kM u d (d.length:Int) j f (f.length:Int) [(31,.i g),(32,.bool (decide (g<(f.length:Int))))])) ?_
      refine sq ?_
      refine ihD g12 (fun K g12=>?_) (fun K g12=>?_)
      ·refine Goes.skip ?_
       refine sq (Goes.block ?_)
       obtain⟨q,v,g12⟩:=bnd g12
       refine sq (gq fol [0,1,3] ((2,.func (.func 40) [] [])::(kAd (kAy u [(12,.ptr 4 0),(18,vl qf d),(19,.i (d.length:Int)),(20,.i j),(29,vl qf f),(30,.i (f.length:Int)),(31,.i g)]))) (kH a.Low a.High u [.cells (nq1 k),.cells (nq1 q)]) (ac (iv qco qf v) (ac (la qh7 qf v) (ac (hs (.run [4] (qp ZT 57 (.ptr 4 0) (.agg (nq1 q))) (kH a.Low a.High u (.cells (nq1 k)::(kE []))) .undef (kH a.Low a.High u [.cells (nq1 k),.cells (nq1 q)]) true) (ku (n:=4) (by kernel_rfl) rfl rfl rfl rfl (cac rfl (cac nvc (cac rfl (cac nvc can)))) rfl)) az))) ?_)
       obtain⟨w,z,g12⟩:=bnd g12
       obtain⟨r,A,g12⟩:=bnd g12
       refine gq fol [4,6] ((2,.func (.func 40) [] [])::(kAN r d (d.length:Int) j f (f.length:Int) [(31,.i g)])) (kZ a.Low a.High (kS (.dead:: .cells (nq1 k):: .cells (nq1 q):: .cells (nq1 w)::(kAG r)))) (ac (cv (qgj N k q z)) (ac (hs (.run [2,5] (yQ ZT [135,135] (.gslice 2 u.length 4) (.slice 5 0 1 1 4)) (kH a.Low a.High u [.cells (nq1 k),.cells (nq1 q),.cells (nq1 w)]) (.gslice 6 r.length 4) (kZ a.Low a.High (kS (.dead:: .cells (nq1 k):: .cells (nq1 q):: .cells (nq1 w)::(kAG r)))) true) (qbs qco (E:=qf) rfl (qfb (E:=qf) (ys:=[w]) rfl rfl rfl rfl) (qf8 (E:=qf) (l:=u) rfl rfl rfl A rfl))) az)) ?_
       refine gh fol ((2,.func (.func 40) [] [])::(kAN r d (d.length:Int) j f (f.length:Int) [(31,.i (w64 (g+1)))])) ?_
       exact⟨M,(ofG 51 ((2,.func (.func 40) [] [])::(kM r d (d.length:Int) j f (f.length:Int) [(31,.i (w64 (g+1)))])),(kH a.Low a.High r [.cells (nq1 k)])),Nat.lt_succ_self _,(Sub.norm [] [some 0,some 1,some 6,some 3] rfl rfl (.keep (.same (qC.func sn sn)) (.kp (.kp (.keep (.gslice rfl) (.kp (.keep (.same (qd qf _)) (.keep (.same nI) (.keep (.same nI) (.keep (.same (qd qf _)) (.keep (.same nI) (.keep (.same nI) .nil))))))))))) (.kb rfl (.same sn) (.kb rfl (.same sn) (.ks (.kb rfl (.same sn) .nil))))),_,_,rfl,g12⟩
      refine Goes.exit ?_
      obtain rfl:=si g12
      exact⟨rfl,_,rfl,(Sub.norm [] [some 0,some 1,some 2] rfl rfl (.keep (.same (qC.func sn sn)) (.kp (.kp (.keep (.gslice rfl) (.drop (.keep (.same (qd qf _)) (.keep (.same nI) (.keep (.same nI) .nil)))))))) (.kb rfl (.same sn) (.kb rfl (.same sn) (.ks .nil))))⟩
    rintro x s' ⟨rfl,p,rfl,hsub⟩
    refine Goes.sub hsub ?_
    refine gh fol ((2,.func (.func 40) [] [])::(kV p d (d.length:Int) (w64 (j+1)) [])) ?_
    exact⟨M,(ofG 51 ((2,.func (.func 40) [] [])::(kV p d (d.length:Int) (w64 (j+1)) [])),(kH a.Low a.High p [])),Nat.lt_succ_self _,(Sub.refl _),_,_,rfl,g5⟩
   refine Goes.exit ?_
   obtain rfl:=si g5
   exact⟨rfl,_,rfl,(Sub.norm [] [some 1,some 2] rfl rfl (.drop (.drop (.kp (.keep (.gslice rfl) .nil)))) (.kb rfl (.same sn) (.ks .nil)))⟩
 rintro x s' ⟨rfl,t,rfl,hsub⟩
 refine Goes.sub hsub ?_
 obtain⟨I,B,h⟩:=bnd h
 obtain⟨J,C,h⟩:=bnd h
 obtain⟨e,D,h⟩:=bnd h
 refine sq (gq fol [1,3,4] (kBQ e.2) (kZ e.1.Low e.1.High (kA7 t)) (ac (hs (.callF 114 [.gslice 1 t.length 4,.func (.func 38) [] []] (kS (kAG t)) [1] [vl qf t,.func (.func 38) [] []] (.agg (nq1 I))) (vZ (FzL.cons (Fz.gs (E:=qf) rfl rfl (nl rfl)) (FzL.cons (Fz.func FzL.nil FzL.nil) FzL.nil)) (qav N t B) (Still.agg (AllST.cons tI (AllST.cons (qz (qa .u64) _ (nl rfl)) (AllST.cons tI (AllST.cons (qz (qa .u64) _ (nl rfl)) AllST.nil))))))) (ac (hs (.callF 115 [.gslice 1 t.length 4,.func (.func 38) [] []] (kS (kA7 t)) [1] [vl qf t,.func (.func 38) [] []] (.agg (nq1 J))) (vZ (FzL.cons (Fz.gsF (E:=qf) rfl rfl (nl rfl)) (FzL.cons (Fz.func FzL.nil FzL.nil) FzL.nil)) (qax N t C) (Still.agg (AllST.cons tI (AllST.cons (qz (qa .u64) _ (nl rfl)) (AllST.cons tI (AllST.cons (qz (qa .u64) _ (nl rfl)) AllST.nil))))))) (ac (cv (qb5 N I J D)) az))) ?_)
 refine Goes.sub (show Sub (ofG 51 (kBQ e.2),(kZ e.1.Low e.1.High (kA7 t))) (ofG 51 (kBQ e.2),(kZ e.1.Low e.1.High []))from(Sub.norm [] [some 0] rfl rfl (.kp (.keep (.same nI) .nil)) (.kb rfl (.same sn) .nil))) ?_
 refine Goes.ret ?_
 obtain rfl:=si h
 exact(gw2 (kAF e.1.Low e.1.High [.i e.2]) (FzW.tuple (qc.cons (FzW.agg (qc.cons (Ua tS) (qc.cons (Ua tS) qc.nil))) (qc.cons (Ua tI) qc.nil))))
def qbA (N:Nat) (a:qJ) (b:qJ):Option (qJ×Int):=
 (qY N a).bind fun f=>
 (qY N b).bind fun g=>
 (jm N ([f,g]:List Int)).bind fun e=>
 if(!decide (e=0))=true then
 some ((⟨[],[]⟩:qJ),e)
 else
 ((yl N b.Low).bind fun h=>
 (xL h).bind fun i=>
 if i<=0 then
 (yl N b.High).bind fun j=>
 (xL j).bind fun k=>
 some (decide (k>=0))
 else
 some false:Option Bool).bind fun d=>
 if d=true then
 some ((⟨[],[]⟩:qJ),6)
 else
 (yD N a b).bind fun c=>
 some (c.1,c.2)
theorem qgX (N:Nat) (a:qJ) (b:qJ) {res:qJ×Int} (h:qbA N a b=some res):qb ZT (.fn 23) (kAF a.Low a.High (kAF b.Low b.High [])) [] (.tuple (kAF res.1.Low res.1.High [.i res.2])) []:=by
 unfold qbA at h
 refine Ub Tryz.func23 rfl rfl (m:=35) rfl (rs:=[.cell 4 37,.tmp 5]) rfl (l:=(kAp a.Low a.High b.Low b.High [])) rfl ?_
 refine sg fol (kG []) (kB a.Low a.High b.Low b.High (kS [])) ?_
 refine sq ?_
 obtain⟨j,o,h⟩:=bnd h
 obtain⟨k,p,h⟩:=bnd h
 obtain⟨n,q,h⟩:=bnd h
 refine sq (gq fol [1,3,5] (kG (kBR n)) (kB a.Low a.High b.Low b.High (kS (kAe j k []))) (ac (cv (jB N a o)) (ac (cv (jB N b p)) (ac (hs (.call 31 [.slice 3 0 2 2 1] (kB a.Low a.High b.Low b.High (kS (kAe j k []))) [3] [vl encI ([j,k]:List Int)] (.i n)) (qdM (FzL.cons (Fz.lit rfl rfl (Ue (AllST.cons tI (AllST.cons tI AllST.nil)))) FzL.nil) (xy N ([j,k]:List Int) q) tI rfl)) az))) ?_)
 refine sh fol (kG [(6,.i n),(14,.bool (!decide (n=0)))]) ?_
 refine ihB h (fun x h=>?_) (fun x h=>?_)
 ·refine sh fol (kAM (kA4 n)) ?_
  refine Goes.ret ?_
  obtain rfl:=si h
  exact(gw2 [.agg [.str [],.str []],.i n] (FzW.tuple (qc.cons (FzW.agg (qc.cons (Ua tS) (qc.cons (Ua tS) qc.nil))) (qc.cons (Ua tI) qc.nil))))
 refine Goes.skip ?_
 refine sq ?_
 refine sq ?_
 obtain⟨t,c,h⟩:=bnd h
 refine Goes.cut (s':=(ofG 35 (kG [(28,.bool t)]),(kB a.Low a.High b.Low b.High (kS (kAe j k []))))) ?_ ?_
 ·obtain⟨w,e,c⟩:=bnd c
  obtain⟨A,f,c⟩:=bnd c
  rcases wyD c with⟨u,c⟩|⟨u,c⟩
  ·obtain⟨y,r,c⟩:=bnd c
   obtain⟨z,s,c⟩:=bnd c
   obtain rfl:=si c
   exact tr fol [2,3,5,8,9] (kG [(28,.bool (decide (z>=0)))]) (ac (cv (vO N b.Low e)) (ac (cv (qbl w f)) (ac (gw u) (ac (cv (vO N b.High r)) (ac (cv (qbl y s)) az)))))
  obtain rfl:=si c
  exact tr fol [2,3,5] (kG [(28,.bool false)]) (ac (cv (vO N b.Low e)) (ac (cv (qbl w f)) (ac (gw u) az)))
 refine ihB h (fun v h=>?_) (fun v h=>?_)
 ·refine sh fol (kAM [(5,.i 6)]) ?_
  refine Goes.ret ?_
  obtain rfl:=si h
  exact(gw2 [.agg [.str [],.str []],.i 6] (FzW.tuple (qc.cons (FzW.agg (qc.cons (Ua tS) (qc.cons (Ua tS) qc.nil))) (qc.cons (Ua tI) qc.nil))))
 refine Goes.skip ?_
 obtain⟨d,g,h⟩:=bnd h
 refine sq (gq fol [2] (kAM (kA4 d.2)) (kB a.Low a.High b.Low b.High (kZ d.1.Low d.1.High (kAe j k []))) (ac (hs (.call 69 (kAF a.Low a.High (kAF b.Low b.High [.func (.func 40) [] []])) [] [] (kAF a.Low a.High (kAF b.Low b.High [.func (.func 40) [] []])) (.tuple (kAF d.1.Low d.1.High [.i d.2]))) (qli (FzL.cons (Ui (Still.agg (AllST.cons tS (AllST.cons tS AllST.nil)))) (FzL.cons (Ui (Still.agg (AllST.cons tS (AllST.cons tS AllST.nil)))) (FzL.cons (Fz.func FzL.nil FzL.nil) FzL.nil))) (qdX N a b g) (Still.tuple (AllST.cons (Still.agg (AllST.cons tS (AllST.cons tS AllST.nil))) (AllST.cons tI AllST.nil))))) az) ?_)
 refine Goes.ret ?_
 obtain rfl:=si h
 exact(gw2 (kAF d.1.Low d.1.High [.i d.2]) (FzW.tuple (qc.cons (FzW.agg (qc.cons (Ua tS) (qc.cons (Ua tS) qc.nil))) (qc.cons (Ua tI) qc.nil))))
def kg (N:Nat) (v:List Str):Nat->Int->Option (Unit⊕Int)
 |0,_=>none
 |K+1,a=>
  if a<(v.length:Int)then
  (idx v a).bind fun c=>
  (qaO N c).bind fun b=>
  if(!decide (b=0))=true then
  some (.inr b)
  else
  kg N v K (w64 (a+1))
  else
  some (.inl ())
def xX (N:Nat) (v:List Str):Option Int:=
 (kg N v N 0).bind (fun
 |(.inl ())=>
 some 0
 |(.inr a)=>
 some a)
theorem qfi (N:Nat) (v:List Str) {res:Int} (h:xX N v=some res):qb ZT (.fn 70) [vl encS v] [] (.i res) []:=by
 unfold xX at h
 refine Ub Tryz.func70 rfl rfl (m:=19) rfl (rs:=[.tmp 2]) rfl (l:=[(0,vl encS v)]) rfl ?_
 refine sh fol [(0,vl encS v)] ?_
 refine sq ?_
 refine sh fol [(0,vl encS v),(3,.i 0)] ?_
 refine Goes.block ?_
 obtain⟨e,g2,h⟩:=bnd h
 refine Goes.imp (Q:=fun x s'=>(x= .exit 0/\(.inl ())=e/\Sub s' (ofG 19 [],[]))\/(x= .ret/\ ∃f,(.inr f)=e/\yj ZT [.tmp 2] (.i f) .ret s')) ?_ ?_
 ·refine Uc (fun M s=> ∃(a:Int),s=(ofG 19 [(0,vl encS v),(3,.i a)],[])/\kg N v M a=some e) ?_ (m:=N) ⟨_,rfl,g2⟩
  rintro M s ⟨a,rfl,g2⟩
  cases M with
  |zero=>simp only[kg]at g2;cases g2
  |succ M=>
   rw[kg]at g2
   refine sq ?_
   refine sh fol ((0,vl encS v)::(3,.i a)::(kBX (decide (a<(v.length:Int))))) ?_
   refine ihD g2 (fun g g2=>?_) (fun g g2=>?_)
   ·refine Goes.skip ?_
    refine sq (Goes.block ?_)
    obtain⟨j,b,g2⟩:=bnd g2
    obtain⟨c,d,g2⟩:=bnd g2
    refine sq (gr fol [2,3,4] [(0,vl encS v),(3,.i a),(4,.i c)] (ac (iv sl94 encS b) (ac (lv 0 ce22 encS b rfl) (ac (cv (qa8 N j d)) az))) ?_)
    refine sh fol [(0,vl encS v),(3,.i a),(4,.i c),(17,.bool (!decide (c=0)))] ?_
    refine ihB g2 (fun k g2=>?_) (fun k g2=>?_)
    ·refine sh fol (kBB c) ?_
     refine Goes.ret ?_
     obtain rfl:=si g2
     exact Or.inr (⟨rfl,_,rfl,(gw2 [.i c] (Ua tI))⟩)
    refine Goes.skip ?_
    refine gh fol [(0,vl encS v),(3,.i (w64 (a+1)))] ?_
    exact⟨M,(ofG 19 [(0,vl encS v),(3,.i (w64 (a+1)))],[]),Nat.lt_succ_self _,(Sub.refl _),_,rfl,g2⟩
   refine Goes.exit ?_
   obtain rfl:=si g2
   exact Or.inl (⟨rfl,rfl,(Sub.keep [] rfl rfl)⟩)
 rintro x s' (⟨rfl,rfl,hsub⟩|⟨rfl,n,rfl,hret⟩)
 ·try dsimp only at h
  refine Goes.sub hsub ?_
  refine sh fol [(2,.i 0)] ?_
  refine Goes.ret ?_
  obtain rfl:=si h
  exact(gw2 [.i 0] (Ua tI))
 try dsimp only at h
 obtain rfl:=si h
 exact hret
def zZ (N:Nat) (a:qJ):Option Int:=
 (xX N ([a.Low,a.High]:List Str)).bind fun b=>
 (if b=0 then
 (vT N a.Low a.High).bind fun c=>
 some (decide (c>0))
 else
 some false:Option Bool).bind fun d=>
 ((if d=true then
 some 11
 else
 some b:Option Int)).bind fun e=>
 some e
theorem zA (N:Nat) (a:qJ) {res:Int} (h:zZ N a=some res):qb ZT (.fn 24) [.agg (kA9 a.Low a.High)] [] (.i res) []:=by
 unfold zZ at h
 refine Ub Tryz.func24 rfl rfl (m:=21) rfl (rs:=[.tmp 2]) rfl (l:=[(0,.agg [.str a.Low,.str a.High])]) rfl ?_
 refine sg fol (kAY []) (kZ a.Low a.High []) ?_
 obtain⟨c,d,h⟩:=bnd h
 refine sq (gq fol [5] (kAY [(3,.i c)]) (kZ a.Low a.High (kZ a.Low a.High [])) (ac (hs (.call 70 [.slice 1 0 2 2 1] (kZ a.Low a.High (kZ a.Low a.High [])) [1] [vl encS ([a.Low,a.High]:List Str)] (.i c)) (qdM (FzL.cons (Fz.lit rfl rfl (Ue (AllST.cons tS (AllST.cons tS AllST.nil)))) FzL.nil) (qfi N ([a.Low,a.High]:List Str) d) tI rfl)) az) ?_)
 refine sq ?_
 refine sq ?_
 obtain⟨j,b,h⟩:=bnd h
 refine Goes.cut (s':=(ofG 21 [(3,.i c),(19,.bool j)],(kZ a.Low a.High (kZ a.Low a.High [])))) ?_ ?_
 ·rcases wyD b with⟨g,b⟩|⟨g,b⟩
  ·obtain⟨k,e,b⟩:=bnd b
   obtain rfl:=si b
   exact tr fol [2,7] [(3,.i c),(19,.bool (decide (k>0)))] (ac (gw g) (ac (cv (jr N a.Low a.High e)) az))
  obtain rfl:=si b
  exact tr fol [2] [(3,.i c),(19,.bool false)] (ac (gw g) az)
 obtain⟨n,g7,h⟩:=bnd h
 refine Goes.imp (Q:=fun x s'=>(x= .normal/\ ∃f,f=n/\Sub s' (ofG 21 [(3,.i f)],[]))) ?_ ?_
 ·refine ihB g7 (fun o g7=>?_) (fun o g7=>?_)
  ·refine gh fol [(3,.i 11)] ?_
   obtain rfl:=si g7
   exact⟨rfl,_,rfl,(Sub.norm [] [] rfl rfl (.keep (.same nI) .nil) .nil)⟩
  refine Goes.skip ?_
  obtain rfl:=si g7
  exact⟨rfl,_,rfl,(Sub.norm [] [] rfl rfl (.keep (.same nI) .nil) .nil)⟩
 rintro x s' ⟨rfl,f,rfl,hsub⟩
 refine Goes.sub hsub ?_
 refine sh fol (kBB f) ?_
 refine Goes.ret ?_
 obtain rfl:=si h
 exact(gw2 [.i f] (Ua tI))
def qcR (N:Nat) (a:qJ) (b:Str):Option Bool:=
 ((vT N a.Low b).bind fun c=>
 if c<=0 then
 (vT N b a.High).bind fun d=>
 some (decide (d<=0))
 else
 some false:Option Bool).bind fun e=>
 some e
theorem qiI (N:Nat) (b:qJ) (d:Str) {res:Bool} (h:qcR N b d=some res):qb ZT (.fn 25) (kAF b.Low b.High [.str d]) [] (.bool res) []:=by
 unfold qcR at h
 refine Ub Tryz.func25 rfl rfl (m:=17) rfl (rs:=[.tmp 4]) rfl (l:=[(0,.agg [.str b.Low,.str b.High]),(1,.str d)]) rfl ?_
 refine sg fol ((1,.str d)::(kU [])) (kZ b.Low b.High []) ?_
 refine sq ?_
 obtain⟨g,a,h⟩:=bnd h
 refine Goes.cut (s':=(ofG 17 (kA6 g),(kZ b.Low b.High []))) ?_ ?_
 ·obtain⟨j,c,a⟩:=bnd a
  rcases wyD a with⟨f,a⟩|⟨f,a⟩
  ·obtain⟨i,e,a⟩:=bnd a
   obtain rfl:=si a
   exact tr fol [3,5,9] (kA6 (decide (i<=0))) (ac (cv (jr N b.Low d c)) (ac (gw f) (ac (cv (jr N d b.High e)) az)))
  obtain rfl:=si a
  exact tr fol [3,5] kBK (ac (cv (jr N b.Low d c)) (ac (gw f) az))
 refine Goes.ret ?_
 obtain rfl:=si h
 exact(gw2 [.bool g] (Ua tB))
def jS (N:Nat) (a:qJ) (b:qJ):Option Bool:=
 ((vT N b.Low a.Low).bind fun c=>
 if c<=0 then
 (vT N a.High b.High).bind fun d=>
 some (decide (d<=0))
 else
 some false:Option Bool).bind fun e=>
 some e
theorem yx (N:Nat) (a:qJ) (b:qJ) {res:Bool} (h:jS N a b=some res):qb ZT (.fn 26) (kAF a.Low a.High (kAF b.Low b.High [])) [] (.bool res) []:=by
 unfold jS at h
 refine Ub Tryz.func26 rfl rfl (m:=19) rfl (rs:=[.tmp 4]) rfl (l:=(kAp a.Low a.High b.Low b.High [])) rfl ?_
 refine sg fol (kU (kAj [])) (kB a.Low a.High b.Low b.High []) ?_
 refine sq ?_
 obtain⟨g,c,h⟩:=bnd h
 refine Goes.cut (s':=(ofG 19 (kA6 g),(kB a.Low a.High b.Low b.High []))) ?_ ?_
 ·obtain⟨j,d,c⟩:=bnd c
  rcases wyD c with⟨f,c⟩|⟨f,c⟩
  ·obtain⟨i,e,c⟩:=bnd c
   obtain rfl:=si c
   exact tr fol [4,6,11] (kA6 (decide (i<=0))) (ac (cv (jr N b.Low a.Low d)) (ac (gw f) (ac (cv (jr N a.High b.High e)) az)))
  obtain rfl:=si c
  exact tr fol [4,6] kBK (ac (cv (jr N b.Low a.Low d)) (ac (gw f) az))
 refine Goes.ret ?_
 obtain rfl:=si h
 exact(gw2 [.bool g] (Ua tB))
def xZ (N:Nat) (a:qJ) (b:qJ):Option (Int×Int):=
 (qY N a).bind fun i=>
 (qY N b).bind fun j=>
 (jm N ([i,j]:List Int)).bind fun h=>
 if(!decide (h=0))=true then
 some (0,h)
 else
 (if((a.Low==b.Low)&&((a.High==b.High)&&true))=true then
 some (a.Low==a.High)
 else
 some false:Option Bool).bind fun k=>
 if k=true then
 some (0,0)
 else
 (yl N a.High).bind fun l=>
 (yl N b.Low).bind fun c=>
 (ja N l c).bind fun d=>
 if d<0 then
 some ((-1),0)
 else
 (yl N b.High).bind fun e=>
 (yl N a.Low).bind fun f=>
 (ja N e f).bind fun g=>
 if g<0 then
 some (1,0)
 else
 some (0,24)
theorem qfp (N:Nat) (a:qJ) (b:qJ) {res:Int×Int} (h:xZ N a b=some res):qb ZT (.fn 27) (kAF a.Low a.High (kAF b.Low b.High [])) [] (.tuple [.i res.1,.i res.2]) []:=by
 unfold xZ at h
 refine Ub Tryz.func27 rfl rfl (m:=45) rfl (rs:=[.tmp 4,.tmp 5]) rfl (l:=(kAp a.Low a.High b.Low b.High [])) rfl ?_
 refine sg fol (kU (kAj [])) (kB a.Low a.High b.Low b.High []) ?_
 refine sq ?_
 obtain⟨o,p,h⟩:=bnd h
 obtain⟨q,r,h⟩:=bnd h
 obtain⟨n,s,h⟩:=bnd h
 refine sq (gq fol [1,3,5] (kU (kAj (kBR n))) (kB a.Low a.High b.Low b.High (kAe o q [])) (ac (cv (jB N a p)) (ac (cv (jB N b r)) (ac (hs (.call 31 [.slice 2 0 2 2 1] (kB a.Low a.High b.Low b.High (kAe o q [])) [2] [vl encI ([o,q]:List Int)] (.i n)) (qdM (FzL.cons (Fz.lit rfl rfl (Ue (AllST.cons tI (AllST.cons tI AllST.nil)))) FzL.nil) (xy N ([o,q]:List Int) s) tI rfl)) az))) ?_)
 refine sh fol (kU (kAj [(6,.i n),(14,.bool (!decide (n=0)))])) ?_
 refine ihB h (fun C h=>?_) (fun C h=>?_)
 ·refine sh fol ((4,.i 0)::(kA4 n)) ?_
  refine Goes.ret ?_
  obtain rfl:=si h
  exact(gw2 [.i 0,.i n] (FzW.tuple (qc.cons (Ua tI) (qc.cons (Ua tI) qc.nil))))
 refine Goes.skip ?_
 refine sq (Goes.block ?_)
 refine sq ?_
 obtain⟨D,c,h⟩:=bnd h
 refine Goes.cut (s':=(ofG 45 (kU (kAj [(16,.bool D)])),(kB a.Low a.High b.Low b.High (kAe o q [])))) ?_ ?_
 ·rcases wyB c with⟨u,c⟩|⟨u,c⟩
  ·obtain rfl:=si c
   exact tr fol [2,3] (kU (kAj [(16,.bool (a.Low==a.High))])) (ac (hs (.done (.opt (ko ZT .eql 37 (.tmp 17) (.tmp 18) (.agg (kA9 a.Low a.High)) (.agg (kA9 b.Low b.High)))) (.bool ((a.Low==b.Low)&&((a.High==b.High)&&true)))) (qpS qpY (e:=((a.Low==b.Low)&&((a.High==b.High)&&true))) (.cons (a:= .str a.Low) (b:= .str b.Low) rfl (by kernel_rfl) (by kernel_rfl) (by kernel_rfl) (.cons (a:= .str a.High) (b:= .str b.High) rfl (by kernel_rfl) (by kernel_rfl) (by kernel_rfl) .nil)))) (ac (gw u) az))
  obtain rfl:=si c
  exact tr fol [2,3] (kU (kAj [(16,.bool false)])) (ac (hs (.done (.opt (ko ZT .eql 37 (.tmp 17) (.tmp 18) (.agg (kA9 a.Low a.High)) (.agg (kA9 b.Low b.High)))) (.bool ((a.Low==b.Low)&&((a.High==b.High)&&true)))) (qpS qpY (e:=((a.Low==b.Low)&&((a.High==b.High)&&true))) (.cons (a:= .str a.Low) (b:= .str b.Low) rfl (by kernel_rfl) (by kernel_rfl) (by kernel_rfl) (.cons (a:= .str a.High) (b:= .str b.High) rfl (by kernel_rfl) (by kernel_rfl) (by kernel_rfl) .nil)))) (ac (gw u) az))
 refine ihB h (fun E h=>?_) (fun E h=>?_)
 ·refine sh fol [(4,.i 0),(5,.i 0)] ?_
  refine Goes.ret ?_
  obtain rfl:=si h
  exact(gw2 [.i 0,.i 0] (FzW.tuple (qc.cons (Ua tI) (qc.cons (Ua tI) qc.nil))))
 obtain⟨F,t,h⟩:=bnd h
 obtain⟨v,d,h⟩:=bnd h
 obtain⟨w,f,h⟩:=bnd h
 refine sq (gr fol [2,5,6] (kU (kAj [(27,.bool (decide (w<0)))])) (ac (cv (vO N a.High t)) (ac (cv (vO N b.Low d)) (ac (cv (xB N F v f)) az))) ?_)
 refine ihD h (fun x h=>?_) (fun x h=>?_)
 ·refine sh fol [(4,.i (-1)),(5,.i 0)] ?_
  refine Goes.ret ?_
  obtain rfl:=si h
  exact(gw2 [.i (-1),.i 0] (FzW.tuple (qc.cons (Ua tI) (qc.cons (Ua tI) qc.nil))))
 obtain⟨y,g,h⟩:=bnd h
 obtain⟨z,j,h⟩:=bnd h
 obtain⟨A,k,h⟩:=bnd h
 refine sq (gr fol [2,5,6] [(36,.bool (decide (A<0)))] (ac (cv (vO N b.High g)) (ac (cv (vO N a.Low j)) (ac (cv (xB N y z k)) az))) ?_)
 refine ihD h (fun B h=>?_) (fun B h=>?_)
 ·refine sh fol [(4,.i 1),(5,.i 0)] ?_
  refine Goes.ret ?_
  obtain rfl:=si h
  exact(gw2 [.i 1,.i 0] (FzW.tuple (qc.cons (Ua tI) (qc.cons (Ua tI) qc.nil))))
 refine Goes.skip ?_
 refine sh fol [(4,.i 0),(5,.i 24)] ?_
 refine Goes.ret ?_
 obtain rfl:=si h
 exact(gw2 [.i 0,.i 24] (FzW.tuple (qc.cons (Ua tI) (qc.cons (Ua tI) qc.nil))))
end Go.Av
