/-
  Walks of functions: what each computes, as a plain function.
-/
import Derived.Test.YtcgpgmdcfcncpaaGreatDoorQGenJ3
noncomputable section
namespace Go.Av
open Go.Proofs Go.RowKit
set_option linter.unusedSectionVars false
set_option linter.unusedVariables false
set_option linter.unusedSimpArgs false
set_option maxRecDepth 100000
def qis (N:Nat) (num:Int) (den:Int):Option Str:=
 (if num<(-4000000000000000000)then
 some true
 else
 if num>4000000000000000000 then
 some true
 else
 if den<(-4000000000000000000)then
 some true
 else
 some (decide (den>4000000000000000000)):Option Bool).bind fun m=>
 if m=true then
 (qbI N num).bind fun n=>
 (qbI N den).bind fun o=>
 (qaG N n o).bind fun p=>
 some p
 else
 ((if den<0 then
 some (w64 (0-num),w64 (0-den))
 else
 some (num,den):Option (Int×Int))).bind fun(a,c)=>
 (qhl N (if(w64 (0-a))>a then(w64 (0-a))else a) c).bind fun d=>
 (qfV .i64 a d).bind fun b=>
 (qfV .i64 c d).bind fun e=>
 ((if b<0 then
 some [45]
 else
 some []:Option Str)).bind fun g=>
 (qam N (if(w64 (0-b))>b then(w64 (0-b))else b) 1).bind fun h=>
 (cat g h).bind fun f=>
 ((if e>1 then
 (cat f [47]).bind fun i=>
 (qam N e 1).bind fun j=>
 (cat i j).bind fun k=>
 some k
 else
 some f:Option Str)).bind fun l=>
 some l
theorem qlf (N:Nat) (num:Int) (den:Int) {res:Str} (h:qis N num den=some res):qb ZT (.fn 94) [.i num,.i den] [] (.str res) []:=by
 unfold qis at h
 refine Ub Tryz.func94 rfl rfl (m:=61) rfl (rs:=[.tmp 4]) rfl (l:=(kAL num den [])) rfl ?_
 refine sh fol (kAL num den []) ?_
 refine sq ?_
 refine sq ?_
 obtain⟨U,a,h⟩:=bnd h
 refine Goes.cut (s':=(ofG 61 (kAL num den [(20,.bool U)]),[])) ?_ ?_
 ·rcases wyD a with⟨z,a⟩|⟨z,a⟩
  ·obtain rfl:=si a
   exact tr fol [2] (kAL num den [(20,.bool true)]) (ac (gw z) az)
  rcases wyD a with⟨F,a⟩|⟨F,a⟩
  ·obtain rfl:=si a
   exact tr fol [2,6] (kAL num den [(20,.bool true)]) (ac (gw z) (ac (gw F) az))
  rcases wyD a with⟨G,a⟩|⟨G,a⟩
  ·obtain rfl:=si a
   exact tr fol [2,6,10] (kAL num den [(20,.bool true)]) (ac (gw z) (ac (gw F) (ac (gw G) az)))
  obtain rfl:=si a
  exact tr fol [2,6,10] (kAL num den [(20,.bool (decide (den>4000000000000000000)))]) (ac (gw z) (ac (gw F) (ac (gw G) az)))
 refine ihB h (fun V h=>?_) (fun V h=>?_)
 ·obtain⟨W,A,h⟩:=bnd h
  obtain⟨X,B,h⟩:=bnd h
  obtain⟨T,C,h⟩:=bnd h
  refine sq (gr fol [1,3,4] [(4,.str T)] (ac (cv (qb0 N num A)) (ac (cv (qb0 N den B)) (ac (cv (qce N W X C)) az))) ?_)
  refine Goes.ret ?_
  obtain rfl:=si h
  exact(gw2 [.str T] (Ua tS))
 refine Goes.skip ?_
 refine sq ?_
 refine sh fol (kAL num den [(27,.bool (decide (den<0)))]) ?_
 obtain⟨H,g,h⟩:=bnd h
 refine Goes.imp (Q:=fun x s'=>(x= .normal/\ ∃e f,(e,f)=H/\Sub s' (ofG 61 (kAL e f []),[]))) ?_ ?_
 ·refine ihD g (fun I g=>?_) (fun I g=>?_)
  ·refine gh fol (kAL (w64 (0-num)) (w64 (0-den)) []) ?_
   obtain rfl:=si g
   exact⟨rfl,_,_,rfl,(Sub.refl _)⟩
  refine Goes.skip ?_
  obtain rfl:=si g
  exact⟨rfl,_,_,rfl,(Sub.keep [0,1] rfl rfl)⟩
 rintro x s' ⟨rfl,e,f,rfl,hsub⟩
 try dsimp only at h
 refine Goes.sub hsub ?_
 obtain⟨p,q,h⟩:=bnd h
 refine sq (gr fol [5] (kAL e f (kA7 p)) (ac (cv (qjV N (if(w64 (0-e))>e then(w64 (0-e))else e) f q)) az) ?_)
 obtain⟨b,r,h⟩:=bnd h
 obtain⟨d,s,h⟩:=bnd h
 refine sq (gr fol [2,5] (kAL b d []) (ac (hs (.done (.opt (zx ZT .quo 3 (.tmp 38) (.tmp 39) (.i e) (.i p))) (.i b)) (qbY r)) (ac (hs (.done (.opt (zx ZT .quo 3 (.tmp 41) (.tmp 42) (.i f) (.i p))) (.i d)) (qbY s)) az)) ?_)
 refine sh fol (kAL b d [(6,.str [])]) ?_
 refine sq ?_
 refine sh fol (kAL b d [(6,.str []),(45,.bool (decide (b<0)))]) ?_
 obtain⟨J,j,h⟩:=bnd h
 refine Goes.imp (Q:=fun x s'=>(x= .normal/\ ∃n,n=J/\Sub s' (ofG 61 (kAL b d [(6,.str n)]),[]))) ?_ ?_
 ·refine ihD j (fun K j=>?_) (fun K j=>?_)
  ·refine gh fol (kAL b d [(6,.str [45])]) ?_
   obtain rfl:=si j
   exact⟨rfl,_,rfl,(Sub.refl _)⟩
  refine Goes.skip ?_
  obtain rfl:=si j
  exact⟨rfl,_,rfl,(Sub.keep [0,1,6] rfl rfl)⟩
 rintro x s' ⟨rfl,n,rfl,hsub⟩
 refine Goes.sub hsub ?_
 obtain⟨L,t,h⟩:=bnd h
 obtain⟨o,u,h⟩:=bnd h
 refine sq (gr fol [5,6] [(1,.i d),(6,.str o)] (ac (cv (qa2 N (if(w64 (0-b))>b then(w64 (0-b))else b) 1 t)) (ac (hs (.done (.opt (zx ZT .add 9 (.tmp 46) (.tmp 51) (.str n) (.str L))) (.str o)) (qcd u)) az)) ?_)
 refine sq ?_
 refine sh fol [(1,.i d),(6,.str o),(54,.bool (decide (d>1)))] ?_
 obtain⟨M,c,h⟩:=bnd h
 refine Goes.imp (Q:=fun x s'=>(x= .normal/\ ∃k,k=M/\Sub s' (ofG 61 [(6,.str k)],[]))) ?_ ?_
 ·refine ihD c (fun O c=>?_) (fun O c=>?_)
  ·obtain⟨D,v,c⟩:=bnd c
   obtain⟨P,w,c⟩:=bnd c
   obtain⟨E,y,c⟩:=bnd c
   refine gr fol [1,3,4] [(6,.str E)] (ac (hs (.done (.opt (zx ZT .add 9 (.tmp 55) (.const (.string ⟨#[47]⟩)) (.str o) (.str [47]))) (.str D)) (qcd v)) (ac (cv (qa2 N d 1 w)) (ac (hs (.done (.opt (zx ZT .add 9 (.tmp 56) (.tmp 58) (.str D) (.str P))) (.str E)) (qcd y)) az))) ?_
   obtain rfl:=si c
   exact⟨rfl,_,rfl,(Sub.refl _)⟩
  refine Goes.skip ?_
  obtain rfl:=si c
  exact⟨rfl,_,rfl,(Sub.keep [6] rfl rfl)⟩
 rintro x s' ⟨rfl,k,rfl,hsub⟩
 refine Goes.sub hsub ?_
 refine sh fol [(4,.str k)] ?_
 refine Goes.ret ?_
 obtain rfl:=si h
 exact(gw2 [.str k] (Ua tS))
def qdQ (N:Nat) (a:ky) (b:ky):Option ky:=
 (qai N a.w b.w).bind fun c=>
 (xm N (!(a.neg==b.neg)) c).bind fun d=>
 some d
theorem qff (N:Nat) (a:ky) (b:ky) {res:ky} (h:qdQ N a b=some res):qb ZT (.fn 96) (kBj a.neg a.w b.neg b.w) [] (.agg (.bool res.neg::(kA1 res.w))) []:=by
 unfold qdQ at h
 refine Ub Tryz.func96 rfl rfl (m:=16) rfl (rs:=[.cell 4 76]) rfl (l:=[(0,.agg [.bool a.neg,vl encI a.w]),(1,.agg [.bool b.neg,vl encI b.w])]) rfl ?_
 refine sg fol (kH []) (kU a.neg a.w (kU b.neg b.w (kV []))) ?_
 obtain⟨f,c,h⟩:=bnd h
 obtain⟨e,d,h⟩:=bnd h
 refine sq (gq fol [9,10] (kBK []) (kU a.neg a.w (kU b.neg b.w (kU e.neg e.w []))) (ac (cv (qbA N a.w b.w c)) (ac (cv (xe N (!(a.neg==b.neg)) f d)) az)) ?_)
 refine Goes.ret ?_
 obtain rfl:=si h
 exact(gw2 [.agg (.bool e.neg::(kA1 e.w))] (FzW.agg (qh.cons (Ua tB) (qh.cons (Ua (ql encI _ (nl rfl))) qh.nil))))
def qhd (N:Nat) (a:Str) (b:Str):Option Str:=
 (qdW N a).bind fun c=>
 (qdW N b).bind fun d=>
 (if c.2.2=true then
 some d.2.2
 else
 some false:Option Bool).bind fun j=>
 if j=true then
 (qis N (w64 (c.1*d.1)) (w64 (c.2.1*d.2.1))).bind fun k=>
 some k
 else
 (qbG N a).bind fun h=>
 (qbG N b).bind fun i=>
 (qdQ N h.1 i.1).bind fun e=>
 (qdQ N h.2 i.2).bind fun f=>
 (qaG N e f).bind fun g=>
 some g
theorem qjT (N:Nat) (a:Str) (b:Str) {res:Str} (h:qhd N a b=some res):qb ZT (.fn 42) [.str a,.str b] [] (.str res) []:=by
 unfold qhd at h
 refine Ub Tryz.func42 rfl rfl (m:=55) rfl (rs:=[.tmp 4]) rfl (l:=(kAz a b [])) rfl ?_
 refine sh fol (kAz a b []) ?_
 obtain⟨d,o,h⟩:=bnd h
 refine sq (gr fol [1] (kAz a b (kBE d.1 d.2.1 [(7,.bool d.2.2)])) (ac (cv (qfb N a o)) az) ?_)
 obtain⟨e,p,h⟩:=bnd h
 refine sq (gr fol [1] (kAz a b (kBE d.1 d.2.1 ((7,.bool d.2.2)::(8,.i e.1)::(9,.i e.2.1)::(kB5 e.2.2)))) (ac (cv (qfb N b p)) az) ?_)
 refine sq ?_
 refine sq ?_
 obtain⟨z,c,h⟩:=bnd h
 refine Goes.cut (s':=(ofG 55 (kAz a b (kBE d.1 d.2.1 [(8,.i e.1),(9,.i e.2.1),(30,.bool z)])),[])) ?_ ?_
 ·rcases wyB c with⟨u,c⟩|⟨u,c⟩
  ·obtain rfl:=si c
   exact tr fol [1] (kAz a b (kBE d.1 d.2.1 [(8,.i e.1),(9,.i e.2.1),(30,.bool e.2.2)])) (ac (gw u) az)
  obtain rfl:=si c
  exact tr fol [1] (kAz a b (kBE d.1 d.2.1 [(8,.i e.1),(9,.i e.2.1),(30,.bool false)])) (ac (gw u) az)
 refine ihB h (fun A h=>?_) (fun A h=>?_)
 ·obtain⟨y,q,h⟩:=bnd h
  refine sq (gr fol [6] [(4,.str y)] (ac (cv (qlf N (w64 (d.1*e.1)) (w64 (d.2.1*e.2.1)) q)) az) ?_)
  refine Goes.ret ?_
  obtain rfl:=si h
  exact(gw2 [.str y] (Ua tS))
 refine Goes.skip ?_
 obtain⟨f,r,h⟩:=bnd h
 refine sq (gq fol [1] [(1,.str b),(11,.ptr 0 0),(12,.ptr 1 0)] (kU f.1.neg f.1.w (kU f.2.neg f.2.w [])) (ac (cv (qb4 N a r)) az) ?_)
 obtain⟨n,s,h⟩:=bnd h
 refine sq (gq fol [1] [(11,.ptr 0 0),(12,.ptr 1 0),(13,.ptr 2 0),(14,.ptr 3 0)] (kU f.1.neg f.1.w (kU f.2.neg f.2.w (kU n.1.neg n.1.w (kU n.2.neg n.2.w [])))) (ac (cv (qb4 N b s)) az) ?_)
 obtain⟨v,g,h⟩:=bnd h
 obtain⟨x,j,h⟩:=bnd h
 obtain⟨t,k,h⟩:=bnd h
 refine sq (gr fol [2,5,6] [(4,.str t)] (ac (cv (qff N f.1 n.1 g)) (ac (cv (qff N f.2 n.2 j)) (ac (cv (qce N v x k)) az))) ?_)
 refine Goes.ret ?_
 obtain rfl:=si h
 exact(gw2 [.str t] (Ua tS))
def qco (N:Nat) (a:Str):Option Str:=
 (qbG N a).bind fun b=>
 (qaG N b.2 b.1).bind fun c=>
 some c
theorem qfZ (N:Nat) (a:Str) {res:Str} (h:qco N a=some res):qb ZT (.fn 43) [.str a] [] (.str res) []:=by
 unfold qco at h
 refine Ub Tryz.func43 rfl rfl (m:=13) rfl (rs:=[.tmp 2]) rfl (l:=(kBn a)) rfl ?_
 refine sh fol (kBn a) ?_
 obtain⟨b,c,h⟩:=bnd h
 refine sq (gq fol [1] ((3,.ptr 0 0)::(kB3 [])) (kU b.1.neg b.1.w (kU b.2.neg b.2.w [])) (ac (cv (qb4 N a c)) az) ?_)
 obtain⟨e,d,h⟩:=bnd h
 refine sq (gr fol [2] [(2,.str e)] (ac (cv (qce N b.2 b.1 d)) az) ?_)
 refine Goes.ret ?_
 obtain rfl:=si h
 exact(gw2 [.str e] (Ua tS))
def qdi (N:Nat) (a:Str) (b:Str):Option Str:=
 (qco N b).bind fun c=>
 (qhd N a c).bind fun d=>
 some d
theorem qjR (N:Nat) (a:Str) (b:Str) {res:Str} (h:qdi N a b=some res):qb ZT (.fn 14) [.str a,.str b] [] (.str res) []:=by
 unfold qdi at h
 refine Ub Tryz.func14 rfl rfl (m:=9) rfl (rs:=[.tmp 4]) rfl (l:=(kAz a b [])) rfl ?_
 refine sh fol (kAz a b []) ?_
 obtain⟨f,c,h⟩:=bnd h
 obtain⟨e,d,h⟩:=bnd h
 refine sq (gr fol [2,3] [(4,.str e)] (ac (cv (qfZ N b c)) (ac (cv (qjT N a f d)) az)) ?_)
 refine Goes.ret ?_
 obtain rfl:=si h
 exact(gw2 [.str e] (Ua tS))
def qar (N:Nat) (n:Int):Option Str:=
 (qbI N n).bind fun a=>
 (qdo N a).bind fun b=>
 some b
theorem qhu (N:Nat) (n:Int) {res:Str} (h:qar N n=some res):qb ZT (.fn 15) [.i n] [] (.str res) []:=by
 unfold qar at h
 refine Ub Tryz.func15 rfl rfl (m:=6) rfl (rs:=[.tmp 2]) rfl (l:=(kBi n)) rfl ?_
 refine sh fol (kBi n) ?_
 obtain⟨d,a,h⟩:=bnd h
 obtain⟨c,b,h⟩:=bnd h
 refine sq (gr fol [1,2] [(2,.str c)] (ac (cv (qb0 N n a)) (ac (cv (qeb N d b)) az)) ?_)
 refine Goes.ret ?_
 obtain rfl:=si h
 exact(gw2 [.str c] (Ua tS))
def qcw (a:Int):Option Int:=
 some (w64 (0-a))
theorem qhi (a:Int) {res:Int} (h:qcw a=some res):qb ZT (.fn 47) [.i a] [] (.i res) []:=by
 unfold qcw at h
 refine Ub Tryz.func47 rfl rfl (m:=5) rfl (rs:=[.tmp 2]) rfl (l:=(kBi a)) rfl ?_
 refine sh fol (kBi a) ?_
 refine sh fol (kBR (w64 (0-a))) ?_
 refine Goes.ret ?_
 obtain rfl:=si h
 exact(gw2 [.i (w64 (0-a))] (Ua tI))
def zz (a:List Int):Nat->(List Int)->Int->Option (List Int)
 |0,_,_=>none
 |K+1,c,b=>
  if b<(a.length:Int)then
  (idx a b).bind fun d=>
  (qcw d).bind fun e=>
  (app 8 c [e]).bind fun f=>
  zz a K f (w64 (b+1))
  else
  some c
def j5 (N:Nat) (a:List Int):Option (List Int):=
 (zz a N ([]:List Int) 0).bind fun b=>
 some b
theorem qbW (N:Nat) (a:List Int) {n:List Int} (h:j5 N a=some n):qb ZT (.fn 46) [vl encI a,.func (.func 47) [] []] [] (.gslice 0 n.length 1) (kA n []):=by
 unfold j5 at h
 refine Um Tryz.func46 rfl rfl (m:=22) rfl (rs:=[.tmp 4]) rfl (l:=(kP a [(1,.func (.func 47) [] [])])) rfl ?_
 intro B hB
 refine sh fol (kP a [(1,.func (.func 47) [] [])]) ?_
 refine sh fol (kP a [(1,.func (.func 47) [] []),(5,.nilslice)]) ?_
 refine sq ?_
 refine sh fol ((1,.func (.func 47) [] [])::(5,.nilslice)::(kBk a [(9,.i (a.length:Int)),(10,.i 0)])) ?_
 refine Goes.block ?_
 obtain⟨o,g5,h⟩:=bnd h
 refine Goes.imp (Q:=fun x s'=>(x= .exit 0/\ ∃f,f=o/\Sub s' (ofG 22 (kBa f []),(kA f [])))) ?_ ?_
 ·refine Goes.sub (s':=(ofG 22 ((1,.func (.func 47) [] [])::(5,.gslice 0 ([]:List Int).length 1)::(kBk a [(9,.i (a.length:Int)),(10,.i 0)])),(kAr []))) (Sub.norm [] [none] (by rw[hB];rfl) rfl (.keep (.same (qy.func sn sn)) (.keep .nil (.keep (.same (qf encI _)) (.keep (.same nI) (.keep (.same nI) .nil))))) (.fresh .nil)) ?_
  refine Uc (fun M s=> ∃(b:List Int) (c:Int),s=(ofG 22 ((1,.func (.func 47) [] [])::(kBa b (kBk a (kAl (a.length:Int) c [])))),(kA b []))/\zz a M b c=some o) ?_ (m:=N) ⟨_,_,rfl,g5⟩
  rintro M s ⟨b,c,rfl,g5⟩
  cases M with
  |zero=>simp only[zz]at g5;cases g5
  |succ M=>
   rw[zz]at g5
   refine sh fol ((1,.func (.func 47) [] [])::(kBa b (kBk a (kAl (a.length:Int) c [(11,.bool (decide (c<(a.length:Int))))])))) ?_
   refine sq ?_
   refine ihD g5 (fun q g5=>?_) (fun q g5=>?_)
   ·refine Goes.skip ?_
    refine sq (Goes.block ?_)
    obtain⟨p,d,g5⟩:=bnd g5
    refine sq (gr fol [0,1] ((1,.func (.func 47) [] [])::(kBa b ((7,.i p)::(kBk a (kAl (a.length:Int) c []))))) (ac (iv qo encI d) (ac (lv 0 ce3 encI d rfl) az)) ?_)
    obtain⟨k,g,g5⟩:=bnd g5
    obtain⟨e,j,g5⟩:=bnd g5
    refine gq fol [3,5] ((1,.func (.func 47) [] [])::(5,.gslice 2 e.length 1)::(kBk a (kAl (a.length:Int) c []))) (.dead::(kAJ k (kA e []))) (ac (cv (qhi p g)) (ac (hs (.run [0,1] (ja ZT [22,22] (.gslice 0 b.length 1) (.slice 1 0 1 1 1)) (kA b (kAJ k [])) (.gslice 2 e.length 1) (.dead::(kAJ k (kA e []))) true) (yF qo (E:=encI) rfl (qcB (E:=encI) (ys:=[k]) rfl rfl rfl rfl) (qdX (E:=encI) (l:=b) rfl rfl rfl j rfl))) az)) ?_
    refine gh fol ((1,.func (.func 47) [] [])::(5,.gslice 2 e.length 1)::(kBk a (kAl (a.length:Int) (w64 (c+1)) []))) ?_
    exact⟨M,(ofG 22 ((1,.func (.func 47) [] [])::(kBa e (kBk a (kAl (a.length:Int) (w64 (c+1)) [])))),(kA e [])),Nat.lt_succ_self _,(Sub.norm [] [some 2] (by rw[hB];rfl) rfl (.keep (.same (qy.func sn sn)) (.keep (.gslice rfl) (.keep (.same (qf encI _)) (.keep (.same nI) (.keep (.same nI) .nil))))) (.ks .nil)),_,_,rfl,g5⟩
   refine Goes.exit ?_
   obtain rfl:=si g5
   exact⟨rfl,_,rfl,(Sub.keep [5] rfl rfl)⟩
 rintro x s' ⟨rfl,f,rfl,hsub⟩
 refine Goes.sub hsub ?_
 refine sh fol [(4,.gslice 0 f.length 1)] ?_
 refine Goes.ret ?_
 obtain rfl:=si h
 exact(gh2 [.gslice 0 f.length 1] (qbQ.refl _ _))
def qbS (N:Nat) (n:Int) (w:List Int):Option ((List Int)×Int):=
 (yu N n w).bind fun a=>
 if(!decide (a=0))=true then
 some ([],a)
 else
 (j5 N w).bind fun b=>
 some (b,0)
theorem qhA (N:Nat) (n:Int) (w:List Int) {res:(List Int)×Int} (h:qbS N n w=some res):qb ZT (.fn 16) (.i n::(kA1 w)) [] (.tuple (kBF res.1 res.2)) []:=by
 unfold qbS at h
 refine Ub Tryz.func16 rfl rfl (m:=15) rfl (rs:=[.tmp 4,.tmp 5]) rfl (l:=(kE n w [])) rfl ?_
 refine sh fol (kE n w []) ?_
 refine sq ?_
 obtain⟨a,b,h⟩:=bnd h
 refine sq (gr fol [2] (kBG w [(6,.i a)]) (ac (cv (qby N n w b)) az) ?_)
 refine sh fol (kBG w [(6,.i a),(11,.bool (!decide (a=0)))]) ?_
 refine ihB h (fun e h=>?_) (fun e h=>?_)
 ·refine sh fol ((4,.nilslice)::(kA7 a)) ?_
  refine Goes.ret ?_
  obtain rfl:=si h
  exact(gw2 [.nilslice,.i a] (FzW.tuple (qh.cons (FzW.nilv (E:=encI)) (qh.cons (Ua tI) qh.nil))))
 refine Goes.skip ?_
 obtain⟨c,d,h⟩:=bnd h
 refine sq (gq fol [1] [(4,.gslice 0 c.length 1),(5,.i 0)] (kA c []) (ac (hs (.callH 46 [vl encI w,.func (.func 47) [] []] [] [] (.gslice 0 c.length 1) (kA c [])) (vv [] [some 0] (qbW N w d) .nil rfl rfl (.new rfl rfl (.same fa) rfl .nil) (rc (.same (qf encI _)) (rc (.same (qy.func sn sn)) rn)) (.gslice rfl) rfl)) az) ?_)
 refine Goes.ret ?_
 obtain rfl:=si h
 exact(gw2 [.gslice 0 c.length 1,.i 0] (FzW.tuple (qh.cons (Ux (Fz.gs (E:=encI) rfl rfl (nl rfl))) (qh.cons (Ua tI) qh.nil))))
def qaz (n:Int):Option Int:=
 (yT n 1 24).bind fun a=>
 some a
theorem qfe (n:Int) {res:Int} (h:qaz n=some res):qb ZT (.fn 49) [.i n] [] (.i res) []:=by
 unfold qaz at h
 refine Ub Tryz.func49 rfl rfl (m:=5) rfl (rs:=[.tmp 2]) rfl (l:=(kBi n)) rfl ?_
 refine sh fol (kBi n) ?_
 obtain⟨b,a,h⟩:=bnd h
 refine sq (gr fol [1] (kBR b) (ac (cv (qcb n 1 24 a)) az) ?_)
 refine Goes.ret ?_
 obtain rfl:=si h
 exact(gw2 [.i b] (Ua tI))
def yG (a:List Int) (b:List Int) (c:Int):Option Unit:=
 some ()
theorem qdH (a:List Int) (b:List Int) (c:Int) (h:yG a b c=some ()):qb ZT (.fn 100) (kB1 a b [.i c]) [] (.func (.func 147) [] kBq) (kF a b (kAJ c [])):=by
 unfold yG at h
 refine Um Tryz.func100 rfl rfl (m:=6) rfl (rs:=[.tmp 4]) rfl (l:=(kBs a b (kB7 c))) rfl ?_
 intro B hB
 refine sg fol (kX (kBm [])) (kF a b (kAJ c [])) ?_
 refine sh fol [(4,.func (.func 147) [] kBq)] ?_
 refine Goes.ret ?_
 exact(gh2 [.func (.func 147) [] kBq] (qbQ.refl _ _))
def vz (b:Option (List (List Int))) (c:Int) (a:List Int):Option (List (List Int)):=
 ((match b with
 |none=>
 some ([a]:List (List Int))
 |some d=>
 (app 24 d [a]).bind fun e=>
 some e):Option (List (List Int))).bind fun f=>
 some f
theorem qcO (d:Option (List (List Int))) (e:Int) (a:List Int) {k:List (List Int)} (h:vz d e a=some k):qb ZT (.rd 0) [.i e,.gslice 3 a.length 1] (.loop .ready none (ofG 18 [(5,.ptr 1 0)]) qg.xp qg.x1 qg.x2:: .cells [hsl 2 1 d]:: .cells ((hof d).flatMap (qd encI).c)::(kA a [])) (.bool true) (.loop .ready none (ofG 18 [(5,.ptr 1 0)]) qg.xp qg.x1 qg.x2::(kAF k [.dead,.dead,.cells (k.flatMap (qd encI).c)])):=by
 unfold vz at h
 refine Goes.round (m:=18) (l0:=(kBS [])) (l:=(kBS [(11,.i e),(12,.gslice 3 a.length 1)])) rfl rfl rfl ?_
 intro B hB
 refine Up ?_
 refine gh fol (kBS [(7,.gslice 3 a.length 1)]) ?_
 refine⟨_,Sub.refl _,?_⟩
 refine⟨_,_,_,_,_,rfl,?_⟩
 refine Up ?_
 refine Goes.block ?_
 refine Goes.sub (s':=(ofG 18 (kBS (kBd a [])),[.loop .busy none (ofG 18 [(5,.ptr 1 0)]) qg.xp qg.x1 qg.x2,.cells [hsl 2 1 d],.cells ((hof d).flatMap (qd encI).c),.dead])) (Sub.norm [3] [some 0,some 1,some 2,some 3] (by rw[hB];rfl) rfl (.kp (.keep (.frz (Fz.gs (E:=encI) rfl rfl (nl rfl)) (qf encI _)) .nil)) (.kb rfl (.loop rfl (.kp .nil)) (.kb rfl (.cells (rc (.hs rfl) rn)) (.ks (.lost .nil))))) ?_
 obtain⟨n,b,h⟩:=bnd h
 refine Goes.cutS (s':=(ofG 18 [],(.loop .busy none (ofG 18 [(5,.ptr 1 0)]) qg.xp qg.x1 qg.x2::(kAF n [.dead,.dead,.cells (n.flatMap (qd encI).c)])))) ?_ ?_
 ·rcases d with _|f
  ·try dsimp only at b
   obtain rfl:=si b
   exact yx.sub (yx.rg fol [] (.loop .busy none (ofG 18 [(5,.ptr 1 0)]) qg.xp qg.x1 qg.x2:: .cells [.oslice 5 1 1]:: .cells ((hof (none:Option (List (List Int)))).flatMap (qd encI).c):: .dead::(kBB a (kBB a [])))) (Sub.norm [] [some 0,some 1,some 2,some 3,some 5] (by rw[hB];rfl) rfl .nil (.kb rfl (.loop rfl (.kp .nil)) (.kb rfl (.cells (rc ((zQ.osliceE rfl rfl)) rn)) (.lost (.lost (.ks .nil))))))
  try dsimp only at b
  obtain⟨j,g,b⟩:=bnd b
  obtain rfl:=si b
  exact yx.sub (yx.rq fol [3] [] (.loop .busy none (ofG 18 [(5,.ptr 1 0)]) qg.xp qg.x1 qg.x2:: .cells [.oslice 5 j.length 1]:: .dead:: .dead::(kBB a [.cells (j.flatMap (qd encI).c)])) (ac (hs (.run [2,4] (ja ZT [39,39] (.oslice 2 f.length 1) (.slice 4 0 1 1 1)) (.loop .busy none (ofG 18 [(5,.ptr 1 0)]) qg.xp qg.x1 qg.x2:: .cells [.oslice 2 f.length 1]:: .cells (f.flatMap (qd encI).c):: .dead::(kBB a [])) (.oslice 5 j.length 1) (.loop .busy none (ofG 18 [(5,.ptr 1 0)]) qg.xp qg.x1 qg.x2:: .cells [.oslice 2 f.length 1]:: .dead:: .dead::(kBB a [.cells (j.flatMap (qd encI).c)])) true) (yF qdJ (E:=(qd encI)) rfl (qcB (E:=(qd encI)) (ys:=[a]) rfl rfl rfl rfl) (qm0 (E:=(qd encI)) (l:=f) rfl rfl rfl g rfl))) az)) (Sub.norm [] [some 0,some 1,some 2,some 3,some 5] (by rw[hB];rfl) rfl .nil (.kb rfl (.loop rfl (.kp .nil)) (.kb rfl (.cells (rc (.oslice rfl) rn)) (.lost (.lost (.ks .nil))))))
 intro _ hsub
 obtain rfl:=si h
 exact⟨_,hsub,⟨_,_,rfl,(Sub.keep [0] rfl rfl)⟩⟩
def qL (c:List Int):Nat->(List Int)->Int->Option (List Int)
 |0,_,_=>none
 |K+1,b,a=>
  if a<(c.length:Int)then
  (idx b a).bind fun e=>
  (put b a a).bind fun d=>
  qL c K d (w64 (a+1))
  else
  some b
def qJ (a:List Int) (c:List Int):Nat->(List Int)->Int->Option (List Int)
 |0,_,_=>none
 |K+1,d,b=>
  if b<(a.length:Int)then
  (idx a b).bind fun e=>
  (idx c e).bind fun f=>
  (app 8 d [f]).bind fun g=>
  qJ a c K g (w64 (b+1))
  else
  some d
def qK (b:List Int) (d:List Int):Nat->(List Int)->Int->Option (List Int)
 |0,_,_=>none
 |K+1,c,a=>
  if a<(b.length:Int)then
  (idx b a).bind fun e=>
  (idx d e).bind fun f=>
  (idx c a).bind fun h=>
  (put c a f).bind fun g=>
  qK b d K g (w64 (a+1))
  else
  some c
def qI (N:Nat) (c:List Int) (d:List Int) (e:Int):Nat->(List Int)->(Option (List (List Int)))->Int->Option (Option (List (List Int)))
 |0,_,_,_=>none
 |K+1,a,f,b=>
  if b<e then
  (qJ c a N ([]:List Int) 0).bind fun g=>
  (vz f b g).bind fun h=>
  (mk 8 (a.length:Int) 0).bind fun i=>
  (qK d a N i 0).bind fun j=>
  qI N c d e K j (some h) (w64 (b+1))
  else
  some f
def vw (N:Nat) (b:List Int) (a:List Int) (c:Int):Option (Option (List (List Int))):=
 (mk 8 (a.length:Int) 0).bind fun e=>
 (qL e N e 0).bind fun f=>
 (qI N b a c N f (none:Option (List (List Int))) 0).bind fun d=>
 some d
theorem qcQ (N:Nat) (e:List Int) (d:List Int) (a:Int) {o1:Option (List (List Int))} (h:vw N e d a=some o1):qb ZT (.fn 147) (.yld 0::kBr) (.loop .ready none (ofG 18 [(5,.ptr 1 0)]) qg.xp qg.x1 qg.x2::(kAW (kF e d (kAJ a [])))) (.tuple []) (.loop .ready none (ofG 18 [(5,.ptr 1 0)]) qg.xp qg.x1 qg.x2::(kBl o1 (kF e d (kAJ a [.cells ((hof o1).flatMap (qd encI).c)])))):=by
 unfold vw at h
 refine Um Tryz.func147 rfl rfl (m:=72) rfl (rs:=[]) rfl (l:=[(0,.yld 0),(1,.ptr 2 0),(2,.ptr 3 0)]) rfl ?_
 intro B hB
 refine Up ?_
 obtain⟨A,e_l2,h⟩:=bnd h
 refine sq (gq fol [3] ((0,.yld 0)::(kAA A [])) (.loop .ready none (ofG 18 [(5,.ptr 1 0)]) qg.xp qg.x1 qg.x2::(kAW (kF e d (kAJ a (kA A []))))) (ac (hs (.run [] (qR ZT 22 (.i (d.length:Int)) (.i (d.length:Int))) (.loop .ready none (ofG 18 [(5,.ptr 1 0)]) qg.xp qg.x1 qg.x2::(kAW (kF e d (kAJ a [])))) (.slice 4 0 A.length A.length 1) (.loop .ready none (ofG 18 [(5,.ptr 1 0)]) qg.xp qg.x1 qg.x2::(kAW (kF e d (kAJ a (kA A []))))) false) (xW qo (E:=encI) (z:=0) rfl (by kernel_rfl) e_l2 rfl)) az) ?_)
 refine sq ?_
 refine sh fol ((0,.yld 0)::(kAA A [(18,.i (A.length:Int)),(19,.i 0)])) ?_
 refine Goes.block ?_
 obtain⟨r6,H,h⟩:=bnd h
 refine Goes.imp (Q:=fun x s'=>(x= .exit 0/\ ∃Y,Y=r6/\Sub s' (ofG 72 ((0,.yld 0)::(kAA Y [])),(.loop .ready none (ofG 18 [(5,.ptr 1 0)]) qg.xp qg.x1 qg.x2::(kAW (kF e d (kAJ a (kA Y [])))))))) ?_ ?_
 ·refine Uc (fun M s=> ∃(I:List Int) (C:Int),s=(ofG 72 ((0,.yld 0)::(kAA I [(18,.i (A.length:Int)),(19,.i C)])),(.loop .ready none (ofG 18 [(5,.ptr 1 0)]) qg.xp qg.x1 qg.x2::(kAW (kF e d (kAJ a (kA I []))))))/\qL A M I C=some r6) ?_ (m:=N) ⟨_,_,rfl,H⟩
  rintro M s ⟨I,C,rfl,H⟩
  cases M with
  |zero=>simp only[qL]at H;cases H
  |succ M=>
   rw[qL]at H
   refine sh fol ((0,.yld 0)::(kAA I [(18,.i (A.length:Int)),(19,.i C),(20,.bool (decide (C<(A.length:Int))))])) ?_
   refine sq ?_
   refine ihD H (fun c7 H=>?_) (fun c7 H=>?_)
   ·refine Goes.skip ?_
    refine sq (Goes.block ?_)
    refine sh fol ((0,.yld 0)::(kAA I [(5,.i C),(18,.i (A.length:Int)),(19,.i C)])) ?_
    obtain⟨x8,Z,H⟩:=bnd H
    obtain⟨l9,e_l9,H⟩:=bnd H
    refine gq fol [3,4] ((0,.yld 0)::(kAA I [(18,.i (A.length:Int)),(19,.i C)])) (.loop .ready none (ofG 18 [(5,.ptr 1 0)]) qg.xp qg.x1 qg.x2::(kAW (kF e d (kAJ a (kA l9 []))))) (ac (hs (.done (.opt (qc ZT 22 (.slice 4 0 I.length I.length 1) (.i C))) (.ptr 4 ((C:Int).toNat*1+0))) (zI qo Z)) (ac (hs (.run [4] (qm ZT 3 (.ptr 4 ((C:Int).toNat*1+0)) (.i C)) (.loop .ready none (ofG 18 [(5,.ptr 1 0)]) qg.xp qg.x1 qg.x2::(kAW (kF e d (kAJ a (kA I []))))) .undef (.loop .ready none (ofG 18 [(5,.ptr 1 0)]) qg.xp qg.x1 qg.x2::(kAW (kF e d (kAJ a (kA l9 []))))) true) (zY (E:=encI) (l:=I) (y:=C) rfl (show _=some 1 by kernel_rfl) rfl Z rfl rfl rfl rfl rfl e_l9 rfl)) az)) ?_
    refine Goes.sub (show Sub (ofG 72 ((0,.yld 0)::(kAA I [(18,.i (A.length:Int)),(19,.i C)])),(.loop .ready none (ofG 18 [(5,.ptr 1 0)]) qg.xp qg.x1 qg.x2::(kAW (kF e d (kAJ a (kA l9 [])))))) (ofG 72 ((0,.yld 0)::(kAA l9 [(18,.i (A.length:Int)),(19,.i C)])),(.loop .ready none (ofG 18 [(5,.ptr 1 0)]) qg.xp qg.x1 qg.x2::(kAW (kF e d (kAJ a (kA l9 []))))))from(Sub.norm [] [some 0,some 1,some 2,some 3,some 4] (by rw[hB];rfl) rfl (.keep (.yld rfl) (.kp (.kp (.keep (.sliceE rfl (qH e_l9)) (.keep (.same nI) (.keep (.same nI) .nil)))))) (.kb rfl (.loop rfl (.kp .nil)) (.kb rfl (.same sn) (.kb rfl (.same sn) (.kb rfl (.same sn) (.ks .nil))))))) ?_
    refine gh fol ((0,.yld 0)::(kAA l9 [(18,.i (A.length:Int)),(19,.i (w64 (C+1)))])) ?_
    exact⟨M,(ofG 72 ((0,.yld 0)::(kAA l9 [(18,.i (A.length:Int)),(19,.i (w64 (C+1)))])),(.loop .ready none (ofG 18 [(5,.ptr 1 0)]) qg.xp qg.x1 qg.x2::(kAW (kF e d (kAJ a (kA l9 [])))))),Nat.lt_succ_self _,(Sub.refl _),_,_,rfl,H⟩
   refine Goes.exit ?_
   obtain rfl:=si H
   exact⟨rfl,_,rfl,(Sub.keep [0,1,2,4] rfl rfl)⟩
 rintro x s' ⟨rfl,Y,rfl,hsub⟩
 refine Goes.sub hsub ?_
 refine sh fol [(0,.yld 0),(1,.ptr 2 0),(4,.slice 4 0 Y.length Y.length 1),(27,.i a),(28,.i 0)] ?_
 refine Goes.block ?_
 obtain⟨r14,n,h⟩:=bnd h
 refine Goes.imp (Q:=fun x s'=>(x= .exit 2/\ ∃V,V=r14/\Sub s' (ofG 72 [],(.loop .ready none (ofG 18 [(5,.ptr 1 0)]) qg.xp qg.x1 qg.x2::(kBl V (kF e d (kAJ a [.cells ((hof V).flatMap (qd encI).c)]))))))) ?_ ?_
 ·refine Goes.sub (s':=(ofG 72 ((0,.yld 0)::(kM Y [(27,.i a),(28,.i 0)])),(.loop .ready none (ofG 18 [(5,.ptr 1 0)]) qg.xp qg.x1 qg.x2:: .cells [hsl 4 1 (none:Option (List (List Int)))]::(kF e d (kAJ a (.cells ((hof (none:Option (List (List Int)))).flatMap (qd encI).c)::(kA Y []))))))) (Sub.norm [] [some 0,some 1,some 2,some 3,none,some 4] (by rw[hB];rfl) rfl (.keep (.yld rfl) (.kp (.keep (.slice rfl) (.keep (.same nI) (.keep (.same nI) .nil))))) (.kb rfl (.loop rfl (.kp .nil)) (.kb rfl (.cells (rc .hs0 rn)) (.kb rfl (.same sn) (.kb rfl (.same sn) (.fresh (.ks .nil))))))) ?_
  refine Uc (fun M s=> ∃(f:List Int) (k:Option (List (List Int))) (g:Int),s=(ofG 72 ((0,.yld 0)::(kM f (kA2 a g []))),(.loop .ready none (ofG 18 [(5,.ptr 1 0)]) qg.xp qg.x1 qg.x2::(kBl k (kF e d (kAJ a (.cells ((hof k).flatMap (qd encI).c)::(kA f [])))))))/\qI N e d a M f k g=some r14) ?_ (m:=N) ⟨_,_,_,rfl,n⟩
  rintro M s ⟨f,k,g,rfl,n⟩
  cases M with
  |zero=>simp only[qI]at n;cases n
  |succ M=>
   rw[qI]at n
   refine sh fol ((0,.yld 0)::(kM f (kA2 a g [(29,.bool (decide (g<a)))]))) ?_
   refine sq ?_
   refine ihD n (fun c15 n=>?_) (fun c15 n=>?_)
   ·refine Goes.skip ?_
    refine sq (Goes.block ?_)
    refine sh fol ((0,.yld 0)::(kM f ((6,.i g)::(kA2 a g [])))) ?_
    refine sh fol ((0,.yld 0)::(kM f ((6,.i g)::(7,.nilslice)::(kA2 a g [])))) ?_
    refine sq ?_
    refine sh fol ((0,.yld 0)::(kM f ((6,.i g)::(7,.nilslice)::(kA2 a g [(32,vl encI e),(33,.i (e.length:Int)),(34,.i 0)])))) ?_
    refine Goes.block ?_
    obtain⟨r19,p,n⟩:=bnd n
    refine Goes.imp (Q:=fun x s'=>(x= .exit 4/\ ∃F,F=r19/\Sub s' (ofG 72 ((0,.yld 0)::(kM f ((6,.i g)::(7,.gslice 6 F.length 1)::(kA2 a g [])))),(.loop .ready none (ofG 18 [(5,.ptr 1 0)]) qg.xp qg.x1 qg.x2::(kBl k (kF e d (kAJ a (.cells ((hof k).flatMap (qd encI).c)::(kA f (kA F [])))))))))) ?_ ?_
    ·refine Goes.sub (s':=(ofG 72 ((0,.yld 0)::(kM f ((6,.i g)::(7,.gslice 6 ([]:List Int).length 1)::(kA2 a g [(32,vl encI e),(33,.i (e.length:Int)),(34,.i 0)])))),(.loop .ready none (ofG 18 [(5,.ptr 1 0)]) qg.xp qg.x1 qg.x2::(kBl k (kF e d (kAJ a (.cells ((hof k).flatMap (qd encI).c)::(kA f (kAr []))))))))) (Sub.norm [] [some 0,some 1,some 2,some 3,some 4,some 5,none] (by rw[hB];rfl) rfl (.keep (.yld rfl) (.kp (.keep (.slice rfl) (.keep (.same nI) (.keep .nil (.keep (.same nI) (.keep (.same nI) (.keep (.same (qf encI _)) (.keep (.same nI) (.keep (.same nI) .nil)))))))))) (.kb rfl (.loop rfl (.kp .nil)) (.kb rfl (.cells (rc (.hs rfl) rn)) (.kb rfl (.same sn) (.kb rfl (.same sn) (.ks (.ks (.fresh .nil)))))))) ?_
     refine Uc (fun M s=> ∃(t:List Int) (v:Int),s=(ofG 72 ((0,.yld 0)::(kM f ((6,.i g)::(7,.gslice 6 t.length 1)::(kA2 a g (kBz e (e.length:Int) v []))))),(.loop .ready none (ofG 18 [(5,.ptr 1 0)]) qg.xp qg.x1 qg.x2::(kBl k (kF e d (kAJ a (.cells ((hof k).flatMap (qd encI).c)::(kA f (kA t []))))))))/\qJ e f M t v=some r19) ?_ (m:=N) ⟨_,_,rfl,p⟩
     rintro M s ⟨t,v,rfl,p⟩
     cases M with
     |zero=>simp only[qJ]at p;cases p
     |succ M=>
      rw[qJ]at p
      refine sh fol ((0,.yld 0)::(kM f ((6,.i g)::(7,.gslice 6 t.length 1)::(kA2 a g (kBz e (e.length:Int) v [(35,.bool (decide (v<(e.length:Int))))]))))) ?_
      refine sq ?_
      refine ihD p (fun c20 p=>?_) (fun c20 p=>?_)
      ·refine Goes.skip ?_
       refine sq (Goes.block ?_)
       obtain⟨W,J,p⟩:=bnd p
       refine sq (gr fol [0,1] ((0,.yld 0)::(kM f ((6,.i g)::(7,.gslice 6 t.length 1)::(9,.i W)::(kA2 a g (kBz e (e.length:Int) v []))))) (ac (iv qo encI J) (ac (lv 0 ce3 encI J rfl) az)) ?_)
       obtain⟨K,L,p⟩:=bnd p
       obtain⟨G,e_l23,p⟩:=bnd p
       refine gq fol [3,4,6] ((0,.yld 0)::(kM f ((6,.i g)::(7,.gslice 8 G.length 1)::(kA2 a g (kBz e (e.length:Int) v []))))) (.loop .ready none (ofG 18 [(5,.ptr 1 0)]) qg.xp qg.x1 qg.x2::(kBl k (kF e d (kAJ a (.cells ((hof k).flatMap (qd encI).c)::(kA f (.dead::(kAJ K (kA G []))))))))) (ac (hs (.done (.opt (qc ZT 22 (.slice 5 0 f.length f.length 1) (.i W))) (.ptr 5 ((W:Int).toNat*1+0))) (zI qo L)) (ac (hs (.run [5] (qV ZT 3 (.ptr 5 ((W:Int).toNat*1+0))) (.loop .ready none (ofG 18 [(5,.ptr 1 0)]) qg.xp qg.x1 qg.x2::(kBl k (kF e d (kAJ a (.cells ((hof k).flatMap (qd encI).c)::(kA f (kA t []))))))) (.i K) (.loop .ready none (ofG 18 [(5,.ptr 1 0)]) qg.xp qg.x1 qg.x2::(kBl k (kF e d (kAJ a (.cells ((hof k).flatMap (qd encI).c)::(kA f (kA t []))))))) false) (yE ce3 (E:=encI) (l:=f) rfl rfl L (nl rfl) rfl)) (ac (hs (.run [6,7] (ja ZT [22,22] (.gslice 6 t.length 1) (.slice 7 0 1 1 1)) (.loop .ready none (ofG 18 [(5,.ptr 1 0)]) qg.xp qg.x1 qg.x2::(kBl k (kF e d (kAJ a (.cells ((hof k).flatMap (qd encI).c)::(kA f (kA t (kAJ K [])))))))) (.gslice 8 G.length 1) (.loop .ready none (ofG 18 [(5,.ptr 1 0)]) qg.xp qg.x1 qg.x2::(kBl k (kF e d (kAJ a (.cells ((hof k).flatMap (qd encI).c)::(kA f (.dead::(kAJ K (kA G []))))))))) true) (yF qo (E:=encI) rfl (qcB (E:=encI) (ys:=[K]) rfl rfl rfl rfl) (qdX (E:=encI) (l:=t) rfl rfl rfl e_l23 rfl))) az))) ?_
       refine gh fol ((0,.yld 0)::(kM f ((6,.i g)::(7,.gslice 8 G.length 1)::(kA2 a g (kBz e (e.length:Int) (w64 (v+1)) []))))) ?_
       exact⟨M,(ofG 72 ((0,.yld 0)::(kM f ((6,.i g)::(7,.gslice 6 G.length 1)::(kA2 a g (kBz e (e.length:Int) (w64 (v+1)) []))))),(.loop .ready none (ofG 18 [(5,.ptr 1 0)]) qg.xp qg.x1 qg.x2::(kBl k (kF e d (kAJ a (.cells ((hof k).flatMap (qd encI).c)::(kA f (kA G [])))))))),Nat.lt_succ_self _,(Sub.norm [] [some 0,some 1,some 2,some 3,some 4,some 5,some 8] (by rw[hB];rfl) rfl (.keep (.yld rfl) (.kp (.keep (.slice rfl) (.keep (.same nI) (.keep (.gslice rfl) (.keep (.same nI) (.keep (.same nI) (.keep (.same (qf encI _)) (.keep (.same nI) (.keep (.same nI) .nil)))))))))) (.kb rfl (.loop rfl (.kp .nil)) (.kb rfl (.cells (rc (.hs rfl) rn)) (.kb rfl (.same sn) (.kb rfl (.same sn) (.ks (.ks (.ks .nil)))))))),_,_,rfl,p⟩
      refine Goes.exit ?_
      obtain rfl:=si p
      exact⟨rfl,_,rfl,(Sub.keep [0,1,4,6,7,27,28] rfl rfl)⟩
    rintro x s' ⟨rfl,F,rfl,hsub⟩
    refine Goes.sub hsub ?_
    refine sq ?_
    obtain⟨j,e_r24,n⟩:=bnd n
    refine sq (gq fol [3] ((0,.yld 0)::(kM f (kA2 a g [(50,.bool false)]))) (.loop .ready none (ofG 18 [(5,.ptr 1 0)]) qg.xp qg.x1 qg.x2::(kA4 j (kF e d (kAJ a (.dead::(kA f [.dead,.cells (j.flatMap (qd encI).c)])))))) (ac (hs (.callH (.rd 0) [.i g,.gslice 6 F.length 1] (.loop .ready none (ofG 18 [(5,.ptr 1 0)]) qg.xp qg.x1 qg.x2::(kBl k (kF e d (kAJ a (.cells ((hof k).flatMap (qd encI).c)::(kA f (kA F []))))))) [0,1,4,6] (.bool true) (.loop .ready none (ofG 18 [(5,.ptr 1 0)]) qg.xp qg.x1 qg.x2::(kA4 j (kF e d (kAJ a (.dead::(kA f [.dead,.cells (j.flatMap (qd encI).c)]))))))) (qmz [some 0,some 1,some 4,some 6] [some 0,some 1,none,none,none,none,none,some 4] (qcO k g F e_r24) rfl (.kb rfl (.loop rfl (.kp .nil)) (.kb rfl (.cells (rc (.hs rfl) rn)) (.ks (.ks .nil)))) rfl rfl (.back rfl rfl (.loop rfl (.kp .nil)) rfl (.back rfl rfl (.cells (rc (.oslice rfl) rn)) rfl (.old rfl rfl (.old rfl rfl (.dead (.old rfl rfl (.dead (.new rfl rfl (.same fa) rfl .nil)))))))) (rc (.same nI) (rc (.gslice rfl) rn)) (.same nB) rfl)) az) ?_)
    refine Goes.ifB (b:=false) (by kernel_rfl) (fun c=>(by cases c)) (fun _=>?_)
    refine Goes.skip ?_
    obtain⟨u,e_l26,n⟩:=bnd n
    refine sq (gq fol [2] ((0,.yld 0)::(kM f ((10,.slice 8 0 u.length u.length 1)::(kA2 a g [])))) (.loop .ready none (ofG 18 [(5,.ptr 1 0)]) qg.xp qg.x1 qg.x2::(kA4 j (kF e d (kAJ a (.dead::(kA f (.dead:: .cells (j.flatMap (qd encI).c)::(kA u [])))))))) (ac (hs (.run [] (qR ZT 22 (.i (f.length:Int)) (.i (f.length:Int))) (.loop .ready none (ofG 18 [(5,.ptr 1 0)]) qg.xp qg.x1 qg.x2::(kA4 j (kF e d (kAJ a (.dead::(kA f [.dead,.cells (j.flatMap (qd encI).c)])))))) (.slice 8 0 u.length u.length 1) (.loop .ready none (ofG 18 [(5,.ptr 1 0)]) qg.xp qg.x1 qg.x2::(kA4 j (kF e d (kAJ a (.dead::(kA f (.dead:: .cells (j.flatMap (qd encI).c)::(kA u [])))))))) false) (xW qo (E:=encI) (z:=0) rfl (by kernel_rfl) e_l26 rfl)) az) ?_)
    refine sq ?_
    refine sh fol ((0,.yld 0)::(kM f ((10,.slice 8 0 u.length u.length 1)::(kA2 a g [(55,vl encI d),(56,.i (d.length:Int)),(57,.i 0)])))) ?_
    refine Goes.block ?_
    obtain⟨r30,o,n⟩:=bnd n
    refine Goes.imp (Q:=fun x s'=>(x= .exit 6/\ ∃w,w=r30/\Sub s' (ofG 72 ((0,.yld 0)::(1,.ptr 2 0)::(10,.slice 5 0 w.length w.length 1)::(kA2 a g [])),(.loop .ready none (ofG 18 [(5,.ptr 1 0)]) qg.xp qg.x1 qg.x2::(kAF j (kF e d (kAJ a (.cells (j.flatMap (qd encI).c)::(kA w []))))))))) ?_ ?_
    ·refine Goes.sub (s':=(ofG 72 ((0,.yld 0)::(kM f (kAK u a g d (d.length:Int) [(57,.i 0)]))),(.loop .ready none (ofG 18 [(5,.ptr 1 0)]) qg.xp qg.x1 qg.x2::(kAF j (kF e d (kAJ a (.cells (j.flatMap (qd encI).c)::(kA f (kA u []))))))))) (Sub.norm [] [some 0,some 1,some 2,some 3,some 7,some 5,some 8] (by rw[hB];rfl) rfl (.keep (.yld rfl) (.kp (.keep (.slice rfl) (.keep (.slice rfl) (.keep (.same nI) (.keep (.same nI) (.keep (.same (qf encI _)) (.keep (.same nI) (.keep (.same nI) .nil))))))))) (.kb rfl (.loop rfl (.kp .nil)) (.kb rfl (.cells (rc (.oslice rfl) rn)) (.kb rfl (.same sn) (.kb rfl (.same sn) (.ks (.ks (.ks .nil)))))))) ?_
     refine Uc (fun M s=> ∃(q:List Int) (r:Int),s=(ofG 72 ((0,.yld 0)::(kM f (kAK q a g d (d.length:Int) [(57,.i r)]))),(.loop .ready none (ofG 18 [(5,.ptr 1 0)]) qg.xp qg.x1 qg.x2::(kAF j (kF e d (kAJ a (.cells (j.flatMap (qd encI).c)::(kA f (kA q []))))))))/\qK d f M q r=some r30) ?_ (m:=N) ⟨_,_,rfl,o⟩
     rintro M s ⟨q,r,rfl,o⟩
     cases M with
     |zero=>simp only[qK]at o;cases o
     |succ M=>
      rw[qK]at o
      refine sh fol ((0,.yld 0)::(kM f (kAK q a g d (d.length:Int) [(57,.i r),(58,.bool (decide (r<(d.length:Int))))]))) ?_
      refine sq ?_
      refine ihD o (fun c31 o=>?_) (fun c31 o=>?_)
      ·refine Goes.skip ?_
       refine sq (Goes.block ?_)
       obtain⟨X,O,o⟩:=bnd o
       refine sq (gr fol [1,2] ((0,.yld 0)::(kM f ((10,.slice 6 0 q.length q.length 1)::(11,.i r)::(12,.i X)::(kA2 a g [(55,vl encI d),(56,.i (d.length:Int)),(57,.i r)])))) (ac (iv qo encI O) (ac (lv 0 ce3 encI O rfl) az)) ?_)
       obtain⟨x33,P,o⟩:=bnd o
       obtain⟨x34,T,o⟩:=bnd o
       obtain⟨D,U,o⟩:=bnd o
       refine gq fol [4,5,6,7] ((0,.yld 0)::(kM f (kAK q a g d (d.length:Int) [(57,.i r)]))) (.loop .ready none (ofG 18 [(5,.ptr 1 0)]) qg.xp qg.x1 qg.x2::(kAF j (kF e d (kAJ a (.cells (j.flatMap (qd encI).c)::(kA f (kA D []))))))) (ac (hs (.done (.opt (qc ZT 22 (.slice 5 0 f.length f.length 1) (.i X))) (.ptr 5 ((X:Int).toNat*1+0))) (zI qo P)) (ac (hs (.run [5] (qV ZT 3 (.ptr 5 ((X:Int).toNat*1+0))) (.loop .ready none (ofG 18 [(5,.ptr 1 0)]) qg.xp qg.x1 qg.x2::(kAF j (kF e d (kAJ a (.cells (j.flatMap (qd encI).c)::(kA f (kA q []))))))) (.i x33) (.loop .ready none (ofG 18 [(5,.ptr 1 0)]) qg.xp qg.x1 qg.x2::(kAF j (kF e d (kAJ a (.cells (j.flatMap (qd encI).c)::(kA f (kA q []))))))) false) (yE ce3 (E:=encI) (l:=f) rfl rfl P (nl rfl) rfl)) (ac (hs (.done (.opt (qc ZT 22 (.slice 6 0 q.length q.length 1) (.i r))) (.ptr 6 ((r:Int).toNat*1+0))) (zI qo T)) (ac (hs (.run [6] (qm ZT 3 (.ptr 6 ((r:Int).toNat*1+0)) (.i x33)) (.loop .ready none (ofG 18 [(5,.ptr 1 0)]) qg.xp qg.x1 qg.x2::(kAF j (kF e d (kAJ a (.cells (j.flatMap (qd encI).c)::(kA f (kA q []))))))) .undef (.loop .ready none (ofG 18 [(5,.ptr 1 0)]) qg.xp qg.x1 qg.x2::(kAF j (kF e d (kAJ a (.cells (j.flatMap (qd encI).c)::(kA f (kA D []))))))) true) (zY (E:=encI) (l:=q) (y:=x33) rfl (show _=some 1 by kernel_rfl) rfl T rfl rfl rfl rfl rfl U rfl)) az)))) ?_
       refine Goes.sub (show Sub (ofG 72 ((0,.yld 0)::(kM f (kAK q a g d (d.length:Int) [(57,.i r)]))),(.loop .ready none (ofG 18 [(5,.ptr 1 0)]) qg.xp qg.x1 qg.x2::(kAF j (kF e d (kAJ a (.cells (j.flatMap (qd encI).c)::(kA f (kA D [])))))))) (ofG 72 ((0,.yld 0)::(kM f (kAK D a g d (d.length:Int) [(57,.i r)]))),(.loop .ready none (ofG 18 [(5,.ptr 1 0)]) qg.xp qg.x1 qg.x2::(kAF j (kF e d (kAJ a (.cells (j.flatMap (qd encI).c)::(kA f (kA D []))))))))from(Sub.norm [] [some 0,some 1,some 2,some 3,some 4,some 5,some 6] (by rw[hB];rfl) rfl (.keep (.yld rfl) (.kp (.keep (.slice rfl) (.keep (.sliceE rfl (qH U)) (.keep (.same nI) (.keep (.same nI) (.keep (.same (qf encI _)) (.keep (.same nI) (.keep (.same nI) .nil))))))))) (.kb rfl (.loop rfl (.kp .nil)) (.kb rfl (.cells (rc (.oslice rfl) rn)) (.kb rfl (.same sn) (.kb rfl (.same sn) (.ks (.ks (.ks .nil))))))))) ?_
       refine gh fol ((0,.yld 0)::(kM f (kAK D a g d (d.length:Int) [(57,.i (w64 (r+1)))]))) ?_
       exact⟨M,(ofG 72 ((0,.yld 0)::(kM f (kAK D a g d (d.length:Int) [(57,.i (w64 (r+1)))]))),(.loop .ready none (ofG 18 [(5,.ptr 1 0)]) qg.xp qg.x1 qg.x2::(kAF j (kF e d (kAJ a (.cells (j.flatMap (qd encI).c)::(kA f (kA D [])))))))),Nat.lt_succ_self _,(Sub.refl _),_,_,rfl,o⟩
      refine Goes.exit ?_
      obtain rfl:=si o
      exact⟨rfl,_,rfl,(Sub.norm [] [some 0,some 1,some 2,some 3,some 4,some 6] (by rw[hB];rfl) rfl (.keep (.yld rfl) (.kp (.drop (.keep (.slice rfl) (.keep (.same nI) (.keep (.same nI) .nil)))))) (.kb rfl (.loop rfl (.kp .nil)) (.kb rfl (.cells (rc (.oslice rfl) rn)) (.kb rfl (.same sn) (.kb rfl (.same sn) (.ks (.ks .nil)))))))⟩
    rintro x s' ⟨rfl,w,rfl,hsub⟩
    refine Goes.sub hsub ?_
    refine gh fol ((0,.yld 0)::(kM w (kA2 a g []))) ?_
    refine gh fol ((0,.yld 0)::(kM w (kA2 a (w64 (g+1)) []))) ?_
    exact⟨M,(ofG 72 ((0,.yld 0)::(kM w (kA2 a (w64 (g+1)) []))),(.loop .ready none (ofG 18 [(5,.ptr 1 0)]) qg.xp qg.x1 qg.x2::(kBl (some j) (kF e d (kAJ a (.cells ((hof (some j)).flatMap (qd encI).c)::(kA w []))))))),Nat.lt_succ_self _,(Sub.norm [] [some 0,some 1,some 2,some 3,some 4,some 5] (by rw[hB];rfl) rfl (.keep (.yld rfl) (.kp (.keep (.slice rfl) (.keep (.same nI) (.keep (.same nI) .nil))))) (.kb rfl (.loop rfl (.kp .nil)) (.kb rfl (.cells (rc ((zQ.hs1 rfl)) rn)) (.kb rfl (.same sn) (.kb rfl (.same sn) (.ks (.ks .nil))))))),_,_,_,rfl,n⟩
   refine Goes.exit ?_
   obtain rfl:=si n
   exact⟨rfl,_,rfl,(Sub.norm [] [some 0,some 1,some 2,some 3,some 4] (by rw[hB];rfl) rfl .nil (.kb rfl (.loop rfl (.kp .nil)) (.kb rfl (.cells (rc (.hs rfl) rn)) (.kb rfl (.same sn) (.kb rfl (.same sn) (.ks .nil))))))⟩
 rintro x s' ⟨rfl,V,rfl,hsub⟩
 obtain rfl:=si h
 exact⟨_,hsub,(gh2 [] (qbQ.refl _ _))⟩
def jZ (N:Nat) (a:jy) (rows:Int):Option (List (List Int)):=
 (yG a.seen a.from_ rows).bind fun _=>
 (vw N a.seen a.from_ rows).bind fun b=>
 some (hof b)
theorem qdI (N:Nat) (a:jy) (rows:Int) {res:List (List Int)} (h:jZ N a rows=some res):qb ZT (.fn 50) (kB1 a.seen a.from_ [.i rows]) [] (vl (qd encI) res) []:=by
 unfold jZ at h
 refine Ub Tryz.func50 rfl rfl (m:=18) rfl (rs:=[.tmp 4]) rfl (l:=(kBs a.seen a.from_ (kB7 rows))) rfl ?_
 refine sg fol ((1,.i rows)::(kX [])) (kF a.seen a.from_ []) ?_
 refine sg fol ((1,.i rows)::(kX (kBS []))) (kF a.seen a.from_ (kAW [])) ?_
 refine sq ?_
 obtain⟨_,d,h⟩:=bnd h
 refine sq (gq fol [2] (kBS [(10,.func (.func 147) [] [.ptr 2 0,.ptr 3 0])]) (kF a.seen a.from_ (kAW (kF a.seen a.from_ (kAJ rows [])))) (ac (hs (.callH 100 (kB1 a.seen a.from_ [.i rows]) (kF a.seen a.from_ (kAW [])) [] (.func (.func 147) [] kBr) (kF a.seen a.from_ (kAW (kF a.seen a.from_ (kAJ rows []))))) (vv [] [none,none,some 0,some 1] (qdH a.seen a.from_ rows d) .nil rfl rfl (.old rfl rfl (.old rfl rfl (.new rfl rfl (.cells (rc (.same (qf encI _)) (rc (.same (qf encI _)) rn))) rfl (.new rfl rfl (.cells (rc (.same nI) rn)) rfl .nil)))) (rc (.same (qy.agg sn)) (rc (.same nI) rn)) (.funcL (sn) (rc (.ptr rfl) (rc (.ptr rfl) rn))) rfl)) az) ?_)
 refine Goes.block ?_
 obtain⟨b,e,h⟩:=bnd h
 refine Goes.range fol rfl (gf:=147) (first:=[]) (captured:=kBr) (v:= .tuple []) (A2:=(kF a.seen a.from_ (.cells [hsl 5 1 b]::(kF a.seen a.from_ (kAJ rows [.loop .ready none (ofG 18 [(5,.ptr 1 0)]) qg.xp qg.x1 qg.x2,.cells ((hof b).flatMap (qd encI).c)]))))) (s':=(ofG 18 (kBS [(10,.func (.func 147) [] [.ptr 2 0,.ptr 3 0])]),(kF a.seen a.from_ (.cells [hsl 5 1 b]::(kF a.seen a.from_ (kAJ rows [.loop .exhausted none (ofG 18 [(5,.ptr 1 0)]) qg.xp qg.x1 qg.x2,.cells ((hof b).flatMap (qd encI).c)])))))) (x:= .normal) (by kernel_rfl) (by kernel_rfl) (qid (show(Obl.callH 147 (.yld 4::kBr) (kF a.seen a.from_ (kAW (kF a.seen a.from_ (kAJ rows [.loop .ready none (ofG 18 [(5,.ptr 1 0),(10,.func (.func 147) [] [.ptr 2 0,.ptr 3 0])]) qg.xp qg.x1 qg.x2])))) [4,1,2,3] (.tuple []) (kF a.seen a.from_ (.cells [hsl 5 1 b]::(kF a.seen a.from_ (kAJ rows [.loop .ready none (ofG 18 [(5,.ptr 1 0)]) qg.xp qg.x1 qg.x2,.cells ((hof b).flatMap (qd encI).c)]))))).Holds ZT from vv [some 4,some 1,some 2,some 3] [none,some 1,some 2,some 3,some 0,some 4] (qcQ N a.seen a.from_ rows e) (.kb rfl (.loop rfl (.kp (.drop .nil))) (.kb rfl (.cells (rc (.same (qy.nilslice)) rn)) (.kb rfl (.cells (rc (.same (qf encI _)) (rc (.same (qf encI _)) rn))) (.kb rfl (.cells (rc (.same nI) rn)) .nil)))) rfl rfl (.old rfl rfl (.back rfl rfl (.cells (rc (.hs rfl) rn)) rfl (.back rfl rfl (.cells (rc (.same (qf encI _)) (rc (.same (qf encI _)) rn))) rfl (.back rfl rfl (.cells (rc (.same nI) rn)) rfl (.back rfl rfl (.loop rfl (.kp .nil)) rfl (.new rfl rfl (.same fa) rfl .nil)))))) (rc (.yld rfl) (rc (.ptr rfl) (rc (.ptr rfl) rn))) (.same (qy.tuple sn)) rfl)) (by kernel_rfl) ?_
 refine Goes.sub (show Sub (ofG 18 (kBS [(10,.func (.func 147) [] [.ptr 2 0,.ptr 3 0])]),(kF a.seen a.from_ (.cells [hsl 5 1 b]::(kF a.seen a.from_ (kAJ rows [.loop .exhausted none (ofG 18 [(5,.ptr 1 0)]) qg.xp qg.x1 qg.x2,.cells ((hof b).flatMap (qd encI).c)]))))) (ofG 18 [(5,.ptr 0 0),(10,.func (.func 147) [] [.ptr 2 0,.ptr 3 0])],(.cells [hsl 1 1 b]:: .cells ((hof b).flatMap (qd encI).c)::(kF a.seen a.from_ (kAJ rows []))))from(Sub.norm [] [some 1,some 5,some 2,some 3] rfl rfl (.kp (.keep (.funcL (sn) (rc (.ptr rfl) (rc (.ptr rfl) rn))) .nil)) (.kb rfl (.cells (rc (.hs rfl) rn)) (.ks (.kb rfl (.same sn) (.kb rfl (.same sn) .nil)))))) ?_
 refine sh fol [(4,hsl 1 1 b)] ?_
 refine Goes.ret ?_
 obtain rfl:=si h
 exact(gw2 [hsl 1 1 b] (FzW.hs (E:=(qd encI)) rfl rfl (nl rfl)))
def qa3 (N:Nat) (n:Int) (w:List Int) (rows:Int):Option ((List (List Int))×Int):=
 (zJ N n w).bind fun b=>
 (qaz rows).bind fun c=>
 (vP N ([b,c]:List Int)).bind fun a=>
 if(!decide (a=0))=true then
 some ([],a)
 else
 (xw N n w).bind fun d=>
 (jZ N d rows).bind fun e=>
 some (e,0)
theorem qeV (N:Nat) (n:Int) (w:List Int) (rows:Int) {res:(List (List Int))×Int} (h:qa3 N n w rows=some res):qb ZT (.fn 17) (.i n::(kBF w rows)) [] (.tuple [vl (qd encI) res.1,.i res.2]) []:=by
 unfold qa3 at h
 refine Ub Tryz.func17 rfl rfl (m:=24) rfl (rs:=[.tmp 6,.tmp 7]) rfl (l:=(kE n w (kBR rows))) rfl ?_
 refine sh fol (kE n w (kBR rows)) ?_
 refine sq ?_
 obtain⟨g,b,h⟩:=bnd h
 obtain⟨j,c,h⟩:=bnd h
 obtain⟨a,d,h⟩:=bnd h
 refine sq (gq fol [2,4,6] (kE n w [(2,.i rows),(8,.i a)]) (kAd g j) (ac (cv (yD N n w b)) (ac (cv (qfe rows c)) (ac (hs (.call 48 [.slice 0 0 2 2 1] (kAd g j) [0] [vl encI ([g,j]:List Int)] (.i a)) (qbx (FzL.cons (Fz.lit rfl rfl (Uj (AllST.cons tI (AllST.cons tI AllST.nil)))) FzL.nil) (xC N ([g,j]:List Int) d) tI rfl)) az))) ?_)
 refine sh fol (kE n w [(2,.i rows),(8,.i a),(17,.bool (!decide (a=0)))]) ?_
 refine ihB h (fun o h=>?_) (fun o h=>?_)
 ·refine sh fol [(6,.nilslice),(7,.i a)] ?_
  refine Goes.ret ?_
  obtain rfl:=si h
  exact(gw2 [.nilslice,.i a] (FzW.tuple (qh.cons (FzW.nilv (E:=(qd encI))) (qh.cons (Ua tI) qh.nil))))
 refine Goes.skip ?_
 obtain⟨p,e,h⟩:=bnd h
 obtain⟨k,f,h⟩:=bnd h
 refine sq (gr fol [2,4] [(6,vl (qd encI) k),(7,.i 0)] (ac (cv (qbs N n w e)) (ac (cv (qdI N p rows f)) az)) ?_)
 refine Goes.ret ?_
 obtain rfl:=si h
 exact(gw2 [vl (qd encI) k,.i 0] (FzW.tuple (qh.cons (Ua (ql (qd encI) _ (nl rfl))) (qh.cons (Ua tI) qh.nil))))
def zf:Nat->(List Int)->Int->Int->Option (List Int)
 |0,_,_,_=>none
 |K+1,c,d,a=>
  if d<a then
  (idx c a).bind fun f=>
  (idx c d).bind fun g=>
  (put c d f).bind fun b=>
  (idx b a).bind fun h=>
  (put b a g).bind fun e=>
  zf K e (w64 (d+1)) (w64 (a-1))
  else
  some c
def vF (N:Nat) (a:List Int):Option (List Int):=
 (zf N a 0 (w64 ((a.length:Int)-1))).bind fun b=>
 some b
theorem qd3 (N:Nat) (c:List Int) {u:List Int} (h:vF N c=some u):qb ZT (.fn 110) [.slice 0 0 c.length c.length 1] (kA c []) (.tuple []) (kA u []):=by
 unfold vF at h
 refine Um Tryz.func110 rfl rfl (m:=28) rfl (rs:=[]) rfl (l:=[(0,.slice 0 0 c.length c.length 1)]) rfl ?_
 intro B hB
 refine Up ?_
 refine sh fol ((0,.slice 0 0 c.length c.length 1)::(2,.i 0)::(kBZ (w64 ((c.length:Int)-1)))) ?_
 refine Goes.block ?_
 obtain⟨v,b,h⟩:=bnd h
 refine Goes.imp (Q:=fun x s'=>(x= .exit 0/\ ∃q,q=v/\Sub s' (ofG 28 [],(kA q [])))) ?_ ?_
 ·refine Uc (fun M s=> ∃(a:List Int) (e:Int) (f:Int),s=(ofG 28 (kAt a e f []),(kA a []))/\zf M a e f=some v) ?_ (m:=N) ⟨_,_,_,rfl,b⟩
  rintro M s ⟨a,e,f,rfl,b⟩
  cases M with
  |zero=>simp only[zf]at b;cases b
  |succ M=>
   rw[zf]at b
   refine sq ?_
   refine sh fol (kAt a e f [(9,.bool (decide (e<f)))]) ?_
   refine ihD b (fun w b=>?_) (fun w b=>?_)
   ·refine Goes.skip ?_
    refine sq (Goes.block ?_)
    obtain⟨r,j,b⟩:=bnd b
    obtain⟨t,g,b⟩:=bnd b
    obtain⟨o,k,b⟩:=bnd b
    obtain⟨z,p,b⟩:=bnd b
    obtain⟨d,n,b⟩:=bnd b
    refine gq fol [6,7,10,11,12,13,14,15] (kAt a e f []) (kA d []) (ac (hs (.done (.opt (qc ZT 90 (.slice 0 0 a.length a.length 1) (.i f))) (.ptr 0 ((f:Int).toNat*1+0))) (zI qei j)) (ac (hs (.run [0] (qV ZT 3 (.ptr 0 ((f:Int).toNat*1+0))) (kA a []) (.i r) (kA a []) false) (yE ce3 (E:=encI) (l:=a) rfl rfl j (nl rfl) rfl)) (ac (hs (.done (.opt (qc ZT 90 (.slice 0 0 a.length a.length 1) (.i e))) (.ptr 0 ((e:Int).toNat*1+0))) (zI qei g)) (ac (hs (.run [0] (qV ZT 3 (.ptr 0 ((e:Int).toNat*1+0))) (kA a []) (.i t) (kA a []) false) (yE ce3 (E:=encI) (l:=a) rfl rfl g (nl rfl) rfl)) (ac (hs (.done (.opt (qc ZT 90 (.slice 0 0 a.length a.length 1) (.i e))) (.ptr 0 ((e:Int).toNat*1+0))) (zI qei g)) (ac (hs (.run [0] (qm ZT 3 (.ptr 0 ((e:Int).toNat*1+0)) (.i r)) (kA a []) .undef (kA o []) true) (zY (E:=encI) (l:=a) (y:=r) rfl (show _=some 1 by kernel_rfl) rfl g rfl rfl rfl rfl rfl k rfl)) (ac (hs (.done (.opt (qc ZT 90 (.slice 0 0 a.length a.length 1) (.i f))) (.ptr 0 ((f:Int).toNat*1+0))) (zI qei j)) (ac (hs (.run [0] (qm ZT 3 (.ptr 0 ((f:Int).toNat*1+0)) (.i t)) (kA o []) .undef (kA d []) true) (zY (E:=encI) (l:=o) (y:=t) rfl (show _=some 1 by kernel_rfl) rfl p rfl rfl rfl rfl rfl n rfl)) az)))))))) ?_
    refine Goes.sub (show Sub (ofG 28 (kAt a e f []),(kA d [])) (ofG 28 (kAt d e f []),(kA d []))from(Sub.norm [] [some 0] (by rw[hB];rfl) rfl (.keep (.sliceE rfl ((qH k).trans (qH n))) (.keep (.same nI) (.keep (.same nI) .nil))) (.ks .nil))) ?_
    refine gh fol (kAt d (w64 (e+1)) (w64 (f-1)) []) ?_
    exact⟨M,(ofG 28 (kAt d (w64 (e+1)) (w64 (f-1)) []),(kA d [])),Nat.lt_succ_self _,(Sub.refl _),_,_,_,rfl,b⟩
   refine Goes.exit ?_
   obtain rfl:=si b
   exact⟨rfl,_,rfl,(Sub.keep [] rfl rfl)⟩
 rintro x s' ⟨rfl,q,rfl,hsub⟩
 obtain rfl:=si h
 exact⟨_,hsub,(gh2 [] (qbQ.refl _ _))⟩
def qaN (N:Nat) (n:Int):Option (List Int):=
 (jl N n).bind fun a=>
 (vF N a).bind fun b=>
 ((if a.length=b.length then some ()else none:Option Unit)).bind fun c=>
 some b
theorem qct (N:Nat) (n:Int) {res:List Int} (h:qaN N n=some res):qb ZT (.fn 53) [.i n] [] (vl encI res) []:=by
 unfold qaN at h
 refine Ub Tryz.func53 rfl rfl (m:=9) rfl (rs:=[.tmp 2]) rfl (l:=(kBi n)) rfl ?_
 refine sh fol (kBi n) ?_
 obtain⟨a,c,h⟩:=bnd h
 refine sq (gq fol [1] (kT a []) (kA a []) (ac (hs (.callH 75 [.i n] [] [] (.slice 0 0 a.length a.length 1) (kA a [])) (vv [] [some 0] (xx N n c) .nil rfl rfl (.new rfl rfl (.same fa) rfl .nil) (rc (.same nI) rn) (.slice rfl) rfl)) az) ?_)
 obtain⟨b,d,h⟩:=bnd h
 obtain⟨f,e,h⟩:=bnd h
 refine sq (gq fol [1] (kT a []) (kA b []) (ac (hs (.callH 110 [.slice 0 0 a.length a.length 1] (kA a []) [0] (.tuple []) (kA b [])) (vv [some 0] [some 0] (qd3 N a d) (.ks .nil) rfl rfl (.back rfl rfl (.same fa) rfl .nil) (rc (.slice rfl) rn) (.same (qy.tuple sn)) rfl)) az) ?_)
 refine Goes.sub (show Sub (ofG 9 (kT a []),(kA b [])) (ofG 9 (kT b []),(kA b []))from(Sub.norm [] [some 0] rfl rfl (.keep (.sliceE rfl (qh2 e)) .nil) (.ks .nil))) ?_
 refine sh fol (kB0 b) ?_
 refine Goes.ret ?_
 obtain rfl:=si h
 exact(gw2 [.slice 0 0 b.length b.length 1] (Ux (U0 (E:=encI) rfl rfl (nl rfl))))
def zw (p:List Int) (i:Int):Option (List Int):=
 (qfs p).bind fun _=>
 (idx p (w64 (i+1))).bind fun b=>
 (idx p i).bind fun c=>
 (put p i b).bind fun a=>
 (idx a (w64 (i+1))).bind fun e=>
 (put a (w64 (i+1)) c).bind fun d=>
 some d
theorem yf (p:List Int) (i:Int) {res:List Int} (h:zw p i=some res):qb ZT (.fn 101) (kBF p i) [] (vl encI res) []:=by
 unfold zw at h
 refine Ub Tryz.func101 rfl rfl (m:=25) rfl (rs:=[.tmp 4]) rfl (l:=(kP p (kB7 i))) rfl ?_
 refine sh fol (kP p (kB7 i)) ?_
 obtain⟨_,f,h⟩:=bnd h
 refine sq (gq fol [1] ((1,.i i)::(kBa p [])) (kA p []) (ac (hs (.callH 111 [vl encI p] [] [] (.gslice 0 p.length 1) (kA p [])) (vv [] [some 0] (qjI p f) .nil rfl rfl (.new rfl rfl (.same fa) rfl .nil) (rc (.same (qf encI _)) rn) (.gslice rfl) rfl)) az) ?_)
 obtain⟨j,b,h⟩:=bnd h
 obtain⟨k,a,h⟩:=bnd h
 obtain⟨n,c,h⟩:=bnd h
 obtain⟨o,g,h⟩:=bnd h
 obtain⟨e,d,h⟩:=bnd h
 refine sq (gq fol [8,9,12,13,14,15,16,17] (kBa p []) (kA e []) (ac (hs (.done (.opt (qc ZT 90 (.gslice 0 p.length 1) (.i (w64 (i+1))))) (.ptr 0 ((w64 (i+1):Int).toNat*1+0))) (qaP qei b)) (ac (hs (.run [0] (qV ZT 3 (.ptr 0 ((w64 (i+1):Int).toNat*1+0))) (kA p []) (.i j) (kA p []) false) (yE ce3 (E:=encI) (l:=p) rfl rfl b (nl rfl) rfl)) (ac (hs (.done (.opt (qc ZT 90 (.gslice 0 p.length 1) (.i i))) (.ptr 0 ((i:Int).toNat*1+0))) (qaP qei a)) (ac (hs (.run [0] (qV ZT 3 (.ptr 0 ((i:Int).toNat*1+0))) (kA p []) (.i k) (kA p []) false) (yE ce3 (E:=encI) (l:=p) rfl rfl a (nl rfl) rfl)) (ac (hs (.done (.opt (qc ZT 90 (.gslice 0 p.length 1) (.i i))) (.ptr 0 ((i:Int).toNat*1+0))) (qaP qei a)) (ac (hs (.run [0] (qm ZT 3 (.ptr 0 ((i:Int).toNat*1+0)) (.i j)) (kA p []) .undef (kA n []) true) (zY (E:=encI) (l:=p) (y:=j) rfl (show _=some 1 by kernel_rfl) rfl a rfl rfl rfl rfl rfl c rfl)) (ac (hs (.done (.opt (qc ZT 90 (.gslice 0 p.length 1) (.i (w64 (i+1))))) (.ptr 0 ((w64 (i+1):Int).toNat*1+0))) (qaP qei b)) (ac (hs (.run [0] (qm ZT 3 (.ptr 0 ((w64 (i+1):Int).toNat*1+0)) (.i k)) (kA n []) .undef (kA e []) true) (zY (E:=encI) (l:=n) (y:=k) rfl (show _=some 1 by kernel_rfl) rfl g rfl rfl rfl rfl rfl d rfl)) az)))))))) ?_)
 refine Goes.sub (show Sub (ofG 25 (kBa p []),(kA e [])) (ofG 25 (kBa e []),(kA e []))from(Sub.norm [] [some 0] rfl rfl (.keep (.gsliceE rfl ((qH c).trans (qH d))) .nil) (.ks .nil))) ?_
 refine sh fol [(4,.gslice 0 e.length 1)] ?_
 refine Goes.ret ?_
 obtain rfl:=si h
 exact(gw2 [.gslice 0 e.length 1] (Ux (Fz.gs (E:=encI) rfl rfl (nl rfl))))
def zm (p:List Int):Nat->(List Int)->Int->Option (List Int)
 |0,_,_=>none
 |K+1,b,a=>
  if a<(p.length:Int)then
  (idx p a).bind fun c=>
  (idx b (w64 ((w64 ((p.length:Int)-1))-a))).bind fun e=>
  (put b (w64 ((w64 ((p.length:Int)-1))-a)) (w64 ((w64 ((p.length:Int)-1))-c))).bind fun d=>
  zm p K d (w64 (a+1))
  else
  some b
def vU (N:Nat) (p:List Int):Option (List Int):=
 (mk 8 (p.length:Int) 0).bind fun a=>
 (zm p N a 0).bind fun b=>
 some b
theorem qek (N:Nat) (p:List Int) {res:List Int} (h:vU N p=some res):qb ZT (.fn 103) [vl encI p] [] (vl encI res) []:=by
 unfold vU at h
 refine Ub Tryz.func103 rfl rfl (m:=30) rfl (rs:=[.tmp 2]) rfl (l:=(kP p [])) rfl ?_
 refine sh fol (kP p []) ?_
 refine sh fol (kP p (kBZ (p.length:Int))) ?_
 obtain⟨j,k,h⟩:=bnd h
 refine sq (gq fol [1] (kP p ((3,.i (p.length:Int))::(kBT j []))) (kA j []) (ac (hs (.run [] (qR ZT 90 (.i (p.length:Int)) (.i (p.length:Int))) [] (.slice 0 0 j.length j.length 1) (kA j []) false) (xW qei (E:=encI) (z:=0) rfl (by kernel_rfl) k rfl)) az) ?_)
 refine sq ?_
 refine sh fol (kAE (p.length:Int) j p [(13,.i 0)]) ?_
 refine Goes.block ?_
 obtain⟨o,g5,h⟩:=bnd h
 refine Goes.imp (Q:=fun x s'=>(x= .exit 0/\ ∃g,g=o/\Sub s' (ofG 30 (kBT g []),(kA g [])))) ?_ ?_
 ·refine Uc (fun M s=> ∃(b:List Int) (a:Int),s=(ofG 30 (kAE (p.length:Int) b p [(13,.i a)]),(kA b []))/\zm p M b a=some o) ?_ (m:=N) ⟨_,_,rfl,g5⟩
  rintro M s ⟨b,a,rfl,g5⟩
  cases M with
  |zero=>simp only[zm]at g5;cases g5
  |succ M=>
   rw[zm]at g5
   refine sh fol (kAE (p.length:Int) b p ((13,.i a)::(kB6 (decide (a<(p.length:Int)))))) ?_
   refine sq ?_
   refine ihD g5 (fun q g5=>?_) (fun q g5=>?_)
   ·refine Goes.skip ?_
    refine sq (Goes.block ?_)
    obtain⟨n,c,g5⟩:=bnd g5
    refine sq (gr fol [1,2] ((3,.i (p.length:Int))::(kBT b (kBE a n ((11,vl encI p)::(kAR (p.length:Int) a []))))) (ac (iv qei encI c) (ac (lv 0 ce3 encI c rfl) az)) ?_)
    obtain⟨r,d,g5⟩:=bnd g5
    obtain⟨e,f,g5⟩:=bnd g5
    refine gq fol [9,10] (kAE (p.length:Int) b p [(13,.i a)]) (kA e []) (ac (hs (.done (.opt (qc ZT 90 (.slice 0 0 b.length b.length 1) (.i (w64 ((w64 ((p.length:Int)-1))-a))))) (.ptr 0 ((w64 ((w64 ((p.length:Int)-1))-a):Int).toNat*1+0))) (zI qei d)) (ac (hs (.run [0] (qm ZT 3 (.ptr 0 ((w64 ((w64 ((p.length:Int)-1))-a):Int).toNat*1+0)) (.i (w64 ((w64 ((p.length:Int)-1))-n)))) (kA b []) .undef (kA e []) true) (zY (E:=encI) (l:=b) (y:=w64 ((w64 ((p.length:Int)-1))-n)) rfl (show _=some 1 by kernel_rfl) rfl d rfl rfl rfl rfl rfl f rfl)) az)) ?_
    refine Goes.sub (show Sub (ofG 30 (kAE (p.length:Int) b p [(13,.i a)]),(kA e [])) (ofG 30 (kAE (p.length:Int) e p [(13,.i a)]),(kA e []))from(Sub.norm [] [some 0] rfl rfl (.keep (.same nI) (.keep (.sliceE rfl (qH f)) (.keep (.same (qf encI _)) (.keep (.same nI) (.keep (.same nI) .nil))))) (.ks .nil))) ?_
    refine gh fol (kAE (p.length:Int) e p [(13,.i (w64 (a+1)))]) ?_
    exact⟨M,(ofG 30 (kAE (p.length:Int) e p [(13,.i (w64 (a+1)))]),(kA e [])),Nat.lt_succ_self _,(Sub.refl _),_,_,rfl,g5⟩
   refine Goes.exit ?_
   obtain rfl:=si g5
   exact⟨rfl,_,rfl,(Sub.keep [4] rfl rfl)⟩
 rintro x s' ⟨rfl,g,rfl,hsub⟩
 refine Goes.sub hsub ?_
 refine sh fol (kB0 g) ?_
 refine Goes.ret ?_
 obtain rfl:=si h
 exact(gw2 [.slice 0 0 g.length g.length 1] (Ux (U0 (E:=encI) rfl rfl (nl rfl))))
def zK (p:List Int):Nat->(List Int)->Int->Option (List Int)
 |0,_,_=>none
 |K+1,b,a=>
  if a<(p.length:Int)then
  (idx p a).bind fun c=>
  (idx b c).bind fun e=>
  (put b c a).bind fun d=>
  zK p K d (w64 (a+1))
  else
  some b
def jD (N:Nat) (p:List Int):Option (List Int):=
 (mk 8 (p.length:Int) 0).bind fun a=>
 (zK p N a 0).bind fun b=>
 some b
theorem qau (N:Nat) (p:List Int) {res:List Int} (h:jD N p=some res):qb ZT (.fn 148) [vl encI p] [] (vl encI res) []:=by
 unfold jD at h
 refine Ub Tryz.func148 rfl rfl (m:=22) rfl (rs:=[.tmp 2]) rfl (l:=(kP p [])) rfl ?_
 refine sh fol (kP p []) ?_
 obtain⟨j,k,h⟩:=bnd h
 refine sq (gq fol [2] (kP p (kT j [])) (kA j []) (ac (hs (.run [] (qR ZT 90 (.i (p.length:Int)) (.i (p.length:Int))) [] (.slice 0 0 j.length j.length 1) (kA j []) false) (xW qei (E:=encI) (z:=0) rfl (by kernel_rfl) k rfl)) az) ?_)
 refine sq ?_
 refine sh fol (kT j (kAg p (p.length:Int) [(11,.i 0)])) ?_
 refine Goes.block ?_
 obtain⟨o,g5,h⟩:=bnd h
 refine Goes.imp (Q:=fun x s'=>(x= .exit 0/\ ∃g,g=o/\Sub s' (ofG 22 (kT g []),(kA g [])))) ?_ ?_
 ·refine Uc (fun M s=> ∃(b:List Int) (a:Int),s=(ofG 22 (kT b (kAg p (p.length:Int) [(11,.i a)])),(kA b []))/\zK p M b a=some o) ?_ (m:=N) ⟨_,_,rfl,g5⟩
  rintro M s ⟨b,a,rfl,g5⟩
  cases M with
  |zero=>simp only[zK]at g5;cases g5
  |succ M=>
   rw[zK]at g5
   refine sh fol (kT b (kAg p (p.length:Int) [(11,.i a),(12,.bool (decide (a<(p.length:Int))))])) ?_
   refine sq ?_
   refine ihD g5 (fun q g5=>?_) (fun q g5=>?_)
   ·refine Goes.skip ?_
    refine sq (Goes.block ?_)
    obtain⟨n,c,g5⟩:=bnd g5
    refine sq (gr fol [1,2] (kT b ((4,.i a)::(5,.i n)::(kAg p (p.length:Int) [(11,.i a)]))) (ac (iv qei encI c) (ac (lv 0 ce3 encI c rfl) az)) ?_)
    obtain⟨r,d,g5⟩:=bnd g5
    obtain⟨e,f,g5⟩:=bnd g5
    refine gq fol [3,4] (kT b (kAg p (p.length:Int) [(11,.i a)])) (kA e []) (ac (hs (.done (.opt (qc ZT 90 (.slice 0 0 b.length b.length 1) (.i n))) (.ptr 0 ((n:Int).toNat*1+0))) (zI qei d)) (ac (hs (.run [0] (qm ZT 3 (.ptr 0 ((n:Int).toNat*1+0)) (.i a)) (kA b []) .undef (kA e []) true) (zY (E:=encI) (l:=b) (y:=a) rfl (show _=some 1 by kernel_rfl) rfl d rfl rfl rfl rfl rfl f rfl)) az)) ?_
    refine Goes.sub (show Sub (ofG 22 (kT b (kAg p (p.length:Int) [(11,.i a)])),(kA e [])) (ofG 22 (kT e (kAg p (p.length:Int) [(11,.i a)])),(kA e []))from(Sub.norm [] [some 0] rfl rfl (.keep (.sliceE rfl (qH f)) (.keep (.same (qf encI _)) (.keep (.same nI) (.keep (.same nI) .nil)))) (.ks .nil))) ?_
    refine gh fol (kT e (kAg p (p.length:Int) [(11,.i (w64 (a+1)))])) ?_
    exact⟨M,(ofG 22 (kT e (kAg p (p.length:Int) [(11,.i (w64 (a+1)))])),(kA e [])),Nat.lt_succ_self _,(Sub.refl _),_,_,rfl,g5⟩
   refine Goes.exit ?_
   obtain rfl:=si g5
   exact⟨rfl,_,rfl,(Sub.keep [3] rfl rfl)⟩
 rintro x s' ⟨rfl,g,rfl,hsub⟩
 refine Goes.sub hsub ?_
 refine sh fol (kB0 g) ?_
 refine Goes.ret ?_
 obtain rfl:=si h
 exact(gw2 [.slice 0 0 g.length g.length 1] (Ux (U0 (E:=encI) rfl rfl (nl rfl))))
def j6 (N:Nat) (p:List Int) (i:Int):Option (List Int):=
 (jD N p).bind fun a=>
 (zw a i).bind fun b=>
 (jD N b).bind fun c=>
 some c
theorem qb2 (N:Nat) (p:List Int) (i:Int) {res:List Int} (h:j6 N p i=some res):qb ZT (.fn 104) (kBF p i) [] (vl encI res) []:=by
 unfold j6 at h
 refine Ub Tryz.func104 rfl rfl (m:=10) rfl (rs:=[.tmp 4]) rfl (l:=(kP p (kB7 i))) rfl ?_
 refine sh fol (kP p (kB7 i)) ?_
 obtain⟨e,a,h⟩:=bnd h
 obtain⟨f,b,h⟩:=bnd h
 obtain⟨d,c,h⟩:=bnd h
 refine sq (gr fol [1,3,4] [(4,vl encI d)] (ac (cv (qau N p a)) (ac (cv (yf e i b)) (ac (cv (qau N f c)) az))) ?_)
 refine Goes.ret ?_
 obtain rfl:=si h
 exact(gw2 [vl encI d] (Ua (ql encI _ (nl rfl))))
def jk (p:List Int) (i:Int):Option Bool:=
 (idx p i).bind fun a=>
 (idx p (w64 (i+1))).bind fun b=>
 some (decide (a>b))
theorem yC (p:List Int) (i:Int) {res:Bool} (h:jk p i=some res):qb ZT (.fn 112) (kBF p i) [] (.bool res) []:=by
 unfold jk at h
 refine Ub Tryz.func112 rfl rfl (m:=15) rfl (rs:=[.tmp 4]) rfl (l:=(kP p (kB7 i))) rfl ?_
 refine sh fol (kP p (kB7 i)) ?_
 obtain⟨c,a,h⟩:=bnd h
 obtain⟨d,b,h⟩:=bnd h
 refine sq (gr fol [2,3,7,8] (kBI (decide (c>d))) (ac (iv qei encI a) (ac (lv 0 ce3 encI a rfl) (ac (iv qei encI b) (ac (lv 0 ce3 encI b rfl) az)))) ?_)
 refine Goes.ret ?_
 obtain rfl:=si h
 exact(gw2 [.bool (decide (c>d))] (Ua tB))
def xy (N:Nat) (p:List Int) (i:Int):Option Bool:=
 (jD N p).bind fun a=>
 (jk a i).bind fun b=>
 some b
theorem qfv (N:Nat) (p:List Int) (i:Int) {res:Bool} (h:xy N p i=some res):qb ZT (.fn 151) (kBF p i) [] (.bool res) []:=by
 unfold xy at h
 refine Ub Tryz.func151 rfl rfl (m:=9) rfl (rs:=[.tmp 4]) rfl (l:=(kP p (kB7 i))) rfl ?_
 refine sh fol (kP p (kB7 i)) ?_
 obtain⟨d,a,h⟩:=bnd h
 obtain⟨c,b,h⟩:=bnd h
 refine sq (gr fol [1,3] (kBI c) (ac (cv (qau N p a)) (ac (cv (yC d i b)) az)) ?_)
 refine Goes.ret ?_
 obtain rfl:=si h
 exact(gw2 [.bool c] (Ua tB))
def jI (N:Nat) (a:List Int) (b:List Int):Nat->Int->Int->Option (Unit⊕(Int×Bool))
 |0,_,_=>none
 |K+1,c,d=>
  if c<d then
  ((jk b c).bind fun e=>
  if e=true then
  (xy N a c).bind fun f=>
  some (!f)
  else
  some false:Option Bool).bind fun g=>
  if g=true then
  some (.inr (c,true))
  else
  jI N a b K (w64 (c+1)) d
  else
  some (.inl ())
def yH (N:Nat) (a:List Int) (b:List Int):Option (Int×Bool):=
 (jI N a b N 0 (w64 ((a.length:Int)-1))).bind (fun
 |(.inl ())=>
 some (0,false)
 |(.inr c)=>
 some c)
theorem qer (N:Nat) (a:List Int) (b:List Int) {res:Int×Bool} (h:yH N a b=some res):qb ZT (.fn 109) (vl encI a::(kA1 b)) [] (.tuple [.i res.1,.bool res.2]) []:=by
 unfold yH at h
 refine Ub Tryz.func109 rfl rfl (m:=24) rfl (rs:=[.tmp 4,.tmp 5]) rfl (l:=(kI a b [])) rfl ?_
 refine sh fol (kI a b []) ?_
 refine sq ?_
 refine sh fol (kI a b [(9,.i (w64 ((a.length:Int)-1))),(10,.i 0)]) ?_
 refine Goes.block ?_
 obtain⟨j,g3,h⟩:=bnd h
 refine Goes.imp (Q:=fun x s'=>(x= .exit 0/\(.inl ())=j/\Sub s' (ofG 24 [],[]))\/(x= .ret/\ ∃k,(.inr k)=j/\kz ZT [.tmp 4,.tmp 5] (.tuple [.i k.1,.bool k.2]) .ret s')) ?_ ?_
 ·refine Uc (fun M s=> ∃(d:Int) (e:Int),s=(ofG 24 (kI a b (kAl e d [])),[])/\jI N a b M d e=some j) ?_ (m:=N) ⟨_,_,rfl,g3⟩
  rintro M s ⟨d,e,rfl,g3⟩
  cases M with
  |zero=>simp only[jI]at g3;cases g3
  |succ M=>
   rw[jI]at g3
   refine sh fol (kI a b (kAl e d [(11,.bool (decide (d<e)))])) ?_
   refine sq ?_
   refine ihD g3 (fun p g3=>?_) (fun p g3=>?_)
   ·refine Goes.skip ?_
    refine sq (Goes.block ?_)
    refine sh fol (kI a b ((6,.i d)::(kAl e d []))) ?_
    refine sq ?_
    obtain⟨q,c,g3⟩:=bnd g3
    refine Goes.cut (s':=(ofG 24 (kI a b ((6,.i d)::(kAl e d [(21,.bool q)]))),[])) ?_ ?_
    ·obtain⟨u,f,c⟩:=bnd c
     rcases wyB c with⟨n,c⟩|⟨n,c⟩
     ·obtain⟨r,g,c⟩:=bnd c
      obtain rfl:=si c
      exact tr fol [2,3,6] (kI a b ((6,.i d)::(kAl e d [(21,.bool (!r))]))) (ac (cv (yC b d f)) (ac (gw n) (ac (cv (qfv N a d g)) az)))
     obtain rfl:=si c
     exact tr fol [2,3] (kI a b ((6,.i d)::(kAl e d [(21,.bool false)]))) (ac (cv (yC b d f)) (ac (gw n) az))
    refine ihB g3 (fun o g3=>?_) (fun o g3=>?_)
    ·refine sh fol [(4,.i d),(5,.bool true)] ?_
     refine Goes.ret ?_
     obtain rfl:=si g3
     exact Or.inr (⟨rfl,_,rfl,(gw2 [.i d,.bool true] (FzW.tuple (qh.cons (Ua tI) (qh.cons (Ua tB) qh.nil))))⟩)
    refine Goes.skip ?_
    refine gh fol (kI a b (kAl e (w64 (d+1)) [])) ?_
    exact⟨M,(ofG 24 (kI a b (kAl e (w64 (d+1)) [])),[]),Nat.lt_succ_self _,(Sub.refl _),_,_,rfl,g3⟩
   refine Goes.exit ?_
   obtain rfl:=si g3
   exact Or.inl (⟨rfl,rfl,(Sub.keep [] rfl rfl)⟩)
 rintro x s' (⟨rfl,rfl,hsub⟩|⟨rfl,t,rfl,hret⟩)
 ·try dsimp only at h
  refine Goes.sub hsub ?_
  refine sh fol [(4,.i 0),(5,.bool false)] ?_
  refine Goes.ret ?_
  obtain rfl:=si h
  exact(gw2 [.i 0,.bool false] (FzW.tuple (qh.cons (Ua tI) (qh.cons (Ua tB) qh.nil))))
 try dsimp only at h
 obtain rfl:=si h
 exact hret
def cmp_isNaN_int (a:Int):Option Bool:=
 some (!decide (a=a))
theorem xK (a:Int) {res:Bool} (h:cmp_isNaN_int a=some res):qb ZT (.fn 194) [.i a] [] (.bool res) []:=by
 unfold cmp_isNaN_int at h
 refine Ub Tryz.func194 rfl rfl (m:=6) rfl (rs:=[.tmp 2]) rfl (l:=(kBi a)) rfl ?_
 refine sh fol (kBi a) ?_
 refine sh fol (kB2 (!decide (a=a))) ?_
 refine Goes.ret ?_
 obtain rfl:=si h
 exact(gw2 [.bool (!decide (a=a))] (Ua tB))
def cmp_Less_int (a:Int) (y:Int):Option Bool:=
 ((cmp_isNaN_int a).bind fun b=>
 if b=true then
 (cmp_isNaN_int y).bind fun c=>
 if(!c)=true then
 some true
 else
 some (decide (a<y))
 else
 some (decide (a<y)):Option Bool).bind fun d=>
 some d
theorem qhM (c:Int) (y:Int) {res:Bool} (h:cmp_Less_int c y=some res):qb ZT (.fn 175) [.i c,.i y] [] (.bool res) []:=by
 unfold cmp_Less_int at h
 refine Ub Tryz.func175 rfl rfl (m:=17) rfl (rs:=[.tmp 4]) rfl (l:=(kAL c y [])) rfl ?_
 refine sh fol (kAL c y []) ?_
 refine sq ?_
 obtain⟨g,a,h⟩:=bnd h
 refine Goes.cut (s':=(ofG 17 (kBI g),[])) ?_ ?_
 ·obtain⟨j,b,a⟩:=bnd a
  rcases wyB a with⟨e,a⟩|⟨e,a⟩
  ·obtain⟨k,d,a⟩:=bnd a
   rcases wyB a with⟨f,a⟩|⟨f,a⟩
   ·obtain rfl:=si a
    exact tr fol [1,2,4,7] kB8 (ac (cv (xK c b)) (ac (gw e) (ac (cv (xK y d)) (ac (gw f) az))))
   obtain rfl:=si a
   exact tr fol [1,2,4,7] (kBI (decide (c<y))) (ac (cv (xK c b)) (ac (gw e) (ac (cv (xK y d)) (ac (gw f) az))))
  obtain rfl:=si a
  exact tr fol [1,2] (kBI (decide (c<y))) (ac (cv (xK c b)) (ac (gw e) az))
 refine Goes.ret ?_
 obtain rfl:=si h
 exact(gw2 [.bool g] (Ua tB))
def zB (b:List Int):Nat->Int->Option (Unit⊕Bool)
 |0,_=>none
 |K+1,a=>
  if a>0 then
  (idx b a).bind fun c=>
  (idx b (w64 (a-1))).bind fun d=>
  (cmp_Less_int c d).bind fun e=>
  if e=true then
  some (.inr false)
  else
  zB b K (w64 (a-1))
  else
  some (.inl ())
def slices_IsSorted_int (N:Nat) (a:List Int):Option Bool:=
 (zB a N (w64 ((a.length:Int)-1))).bind (fun
 |(.inl ())=>
 some true
 |(.inr b)=>
 some b)
theorem qew (N:Nat) (a:List Int) {res:Bool} (h:slices_IsSorted_int N a=some res):qb ZT (.fn 150) [vl encI a] [] (.bool res) []:=by
 unfold slices_IsSorted_int at h
 refine Ub Tryz.func150 rfl rfl (m:=21) rfl (rs:=[.tmp 2]) rfl (l:=(kP a [])) rfl ?_
 refine sh fol (kP a []) ?_
 refine sq ?_
 refine sh fol (kP a (kBZ (w64 ((a.length:Int)-1)))) ?_
 refine Goes.block ?_
 obtain⟨f,g2,h⟩:=bnd h
 refine Goes.imp (Q:=fun x s'=>(x= .exit 0/\(.inl ())=f/\Sub s' (ofG 21 [],[]))\/(x= .ret/\ ∃g,(.inr g)=f/\kz ZT [.tmp 2] (.bool g) .ret s')) ?_ ?_
 ·refine Uc (fun M s=> ∃(b:Int),s=(ofG 21 (kP a (kBZ b)),[])/\zB a M b=some f) ?_ (m:=N) ⟨_,rfl,g2⟩
  rintro M s ⟨b,rfl,g2⟩
  cases M with
  |zero=>simp only[zB]at g2;cases g2
  |succ M=>
   rw[zB]at g2
   refine sq ?_
   refine sh fol (kP a [(3,.i b),(8,.bool (decide (b>0)))]) ?_
   refine ihD g2 (fun j g2=>?_) (fun j g2=>?_)
   ·refine Goes.skip ?_
    refine sq (Goes.block ?_)
    obtain⟨k,c,g2⟩:=bnd g2
    obtain⟨n,d,g2⟩:=bnd g2
    obtain⟨o,e,g2⟩:=bnd g2
    refine sq (gr fol [2,3,7,8,9] (kP a [(3,.i b),(20,.bool o)]) (ac (iv qei encI c) (ac (lv 0 ce3 encI c rfl) (ac (iv qei encI d) (ac (lv 0 ce3 encI d rfl) (ac (cv (qhM k n e)) az))))) ?_)
    refine ihB g2 (fun p g2=>?_) (fun p g2=>?_)
    ·refine sh fol [(2,.bool false)] ?_
     refine Goes.ret ?_
     obtain rfl:=si g2
     exact Or.inr (⟨rfl,_,rfl,(gw2 [.bool false] (Ua tB))⟩)
    refine Goes.skip ?_
    refine gh fol (kP a (kBZ (w64 (b-1)))) ?_
    exact⟨M,(ofG 21 (kP a (kBZ (w64 (b-1)))),[]),Nat.lt_succ_self _,(Sub.refl _),_,rfl,g2⟩
   refine Goes.exit ?_
   obtain rfl:=si g2
   exact Or.inl (⟨rfl,rfl,(Sub.keep [] rfl rfl)⟩)
 rintro x s' (⟨rfl,rfl,hsub⟩|⟨rfl,q,rfl,hret⟩)
 ·try dsimp only at h
  refine Goes.sub hsub ?_
  refine sh fol [(2,.bool true)] ?_
  refine Goes.ret ?_
  obtain rfl:=si h
  exact(gw2 [.bool true] (Ua tB))
 try dsimp only at h
 obtain rfl:=si h
 exact hret
def vM (N:Nat) (p:List Int):Option Bool:=
 (slices_IsSorted_int N p).bind fun a=>
 some a
theorem qav (N:Nat) (p:List Int) {res:Bool} (h:vM N p=some res):qb ZT (.fn 106) [vl encI p] [] (.bool res) []:=by
 unfold vM at h
 refine Ub Tryz.func106 rfl rfl (m:=5) rfl (rs:=[.tmp 2]) rfl (l:=(kP p [])) rfl ?_
 refine sh fol (kP p []) ?_
 obtain⟨b,a,h⟩:=bnd h
 refine sq (gr fol [1] (kB2 b) (ac (cv (qew N p a)) az) ?_)
 refine Goes.ret ?_
 obtain rfl:=si h
 exact(gw2 [.bool b] (Ua tB))
def ji (b:List Int) (c:List Int):Nat->Int->Option (Unit⊕Bool)
 |0,_=>none
 |K+1,a=>
  if a<(b.length:Int)then
  (idx b a).bind fun d=>
  (idx c a).bind fun e=>
  if(!decide (d=e))=true then
  some (.inr false)
  else
  ji b c K (w64 (a+1))
  else
  some (.inl ())
def slices_Equal_int (N:Nat) (a:List Int) (b:List Int):Option Bool:=
 if(!decide ((a.length:Int)=(b.length:Int)))=true then
 some false
 else
 (ji a b N 0).bind (fun
 |(.inl ())=>
 some true
 |(.inr c)=>
 some c)
theorem qcZ (N:Nat) (a:List Int) (b:List Int) {res:Bool} (h:slices_Equal_int N a b=some res):qb ZT (.fn 107) (vl encI a::(kA1 b)) [] (.bool res) []:=by
 unfold slices_Equal_int at h
 refine Ub Tryz.func107 rfl rfl (m:=26) rfl (rs:=[.tmp 4]) rfl (l:=(kI a b [])) rfl ?_
 refine sh fol (kI a b []) ?_
 refine sq ?_
 refine sh fol (kI a b (kB5 (!decide ((a.length:Int)=(b.length:Int))))) ?_
 refine ihB h (fun j h=>?_) (fun j h=>?_)
 ·refine sh fol [(4,.bool false)] ?_
  refine Goes.ret ?_
  obtain rfl:=si h
  exact(gw2 [.bool false] (Ua tB))
 refine Goes.skip ?_
 refine sq ?_
 refine sh fol (kI a b (kB9 (a.length:Int))) ?_
 refine Goes.block ?_
 obtain⟨f,g3,h⟩:=bnd h
 refine Goes.imp (Q:=fun x s'=>(x= .exit 0/\(.inl ())=f/\Sub s' (ofG 26 [],[]))\/(x= .ret/\ ∃g,(.inr g)=f/\kz ZT [.tmp 4] (.bool g) .ret s')) ?_ ?_
 ·refine Uc (fun M s=> ∃(c:Int),s=(ofG 26 (kI a b (kAR (a.length:Int) c [])),[])/\ji a b M c=some f) ?_ (m:=N) ⟨_,rfl,g3⟩
  rintro M s ⟨c,rfl,g3⟩
  cases M with
  |zero=>simp only[ji]at g3;cases g3
  |succ M=>
   rw[ji]at g3
   refine sh fol (kI a b (kAR (a.length:Int) c (kB6 (decide (c<(a.length:Int)))))) ?_
   refine sq ?_
   refine ihD g3 (fun k g3=>?_) (fun k g3=>?_)
   ·refine Goes.skip ?_
    refine sq (Goes.block ?_)
    refine sh fol (kI a b ((5,.i c)::(kAR (a.length:Int) c []))) ?_
    obtain⟨n,d,g3⟩:=bnd g3
    obtain⟨o,e,g3⟩:=bnd g3
    refine sq (gr fol [2,3,6,7] (kI a b (kAR (a.length:Int) c [(24,.bool (!decide (n=o)))])) (ac (iv qei encI d) (ac (lv 0 ce3 encI d rfl) (ac (iv qei encI e) (ac (lv 0 ce3 encI e rfl) az)))) ?_)
    refine ihB g3 (fun p g3=>?_) (fun p g3=>?_)
    ·refine sh fol [(4,.bool false)] ?_
     refine Goes.ret ?_
     obtain rfl:=si g3
     exact Or.inr (⟨rfl,_,rfl,(gw2 [.bool false] (Ua tB))⟩)
    refine Goes.skip ?_
    refine gh fol (kI a b (kAR (a.length:Int) (w64 (c+1)) [])) ?_
    exact⟨M,(ofG 26 (kI a b (kAR (a.length:Int) (w64 (c+1)) [])),[]),Nat.lt_succ_self _,(Sub.refl _),_,rfl,g3⟩
   refine Goes.exit ?_
   obtain rfl:=si g3
   exact Or.inl (⟨rfl,rfl,(Sub.keep [] rfl rfl)⟩)
 rintro x s' (⟨rfl,rfl,hsub⟩|⟨rfl,q,rfl,hret⟩)
 ·try dsimp only at h
  refine Goes.sub hsub ?_
  refine sh fol kB8 ?_
  refine Goes.ret ?_
  obtain rfl:=si h
  exact(gw2 [.bool true] (Ua tB))
 try dsimp only at h
 obtain rfl:=si h
 exact hret
def kw (N:Nat) (a:List (List Int)):Nat->(List (List Int))->Int->Option (List (List Int))
 |0,_,_=>none
 |K+1,c,b=>
  if b<(a.length:Int)then
  (idx a b).bind fun d=>
  (vU N d).bind fun e=>
  (app 24 c [e]).bind fun f=>
  kw N a K f (w64 (b+1))
  else
  some c
def jU (N:Nat) (a:List (List Int)):Option (List (List Int)):=
 (kw N a N ([]:List (List Int)) 0).bind fun b=>
 some b
theorem qdK (N:Nat) (a:List (List Int)) {o:List (List Int)} (h:jU N a=some o):qb ZT (.fn 102) [.gslice 0 a.length 1,.func (.func 103) [] []] [.cells (a.flatMap (qd encI).c)] (.gslice 1 o.length 1) [.cells (a.flatMap (qd encI).c),.cells (o.flatMap (qd encI).c)]:=by
 unfold jU at h
 refine Um Tryz.func102 rfl rfl (m:=22) rfl (rs:=[.tmp 4]) rfl (l:=(kA8 a [(1,.func (.func 103) [] [])])) rfl ?_
 intro B hB
 refine sh fol (kA8 a [(1,.func (.func 103) [] [])]) ?_
 refine sh fol (kA8 a [(1,.func (.func 103) [] []),(5,.nilslice)]) ?_
 refine sq ?_
 refine sh fol ((1,.func (.func 103) [] [])::(5,.nilslice)::(kBo a [(9,.i (a.length:Int)),(10,.i 0)])) ?_
 refine Goes.block ?_
 obtain⟨q,g5,h⟩:=bnd h
 refine Goes.imp (Q:=fun x s'=>(x= .exit 0/\ ∃g,g=q/\Sub s' (ofG 22 [(5,.gslice 1 g.length 1)],[.cells (a.flatMap (qd encI).c),.cells (g.flatMap (qd encI).c)]))) ?_ ?_
 ·refine Goes.sub (s':=(ofG 22 ((1,.func (.func 103) [] [])::(5,.gslice 1 ([]:List (List Int)).length 1)::(kBo a [(9,.i (a.length:Int)),(10,.i 0)])),[.cells (a.flatMap (qd encI).c),.cells (([]:List (List Int)).flatMap (qd encI).c)])) (Sub.norm [] [some 0,none] (by rw[hB];rfl) rfl (.keep (.same (qy.func sn sn)) (.keep .nil (.keep (.gslice rfl) (.keep (.same nI) (.keep (.same nI) .nil))))) (.ks (.fresh .nil))) ?_
  refine Uc (fun M s=> ∃(d:List (List Int)) (b:Int),s=(ofG 22 ((1,.func (.func 103) [] [])::(5,.gslice 1 d.length 1)::(kBo a (kAl (a.length:Int) b []))),[.cells (a.flatMap (qd encI).c),.cells (d.flatMap (qd encI).c)])/\kw N a M d b=some q) ?_ (m:=N) ⟨_,_,rfl,g5⟩
  rintro M s ⟨d,b,rfl,g5⟩
  cases M with
  |zero=>simp only[kw]at g5;cases g5
  |succ M=>
   rw[kw]at g5
   refine sh fol ((1,.func (.func 103) [] [])::(5,.gslice 1 d.length 1)::(kBo a (kAl (a.length:Int) b [(11,.bool (decide (b<(a.length:Int))))]))) ?_
   refine sq ?_
   refine ihD g5 (fun r g5=>?_) (fun r g5=>?_)
   ·refine Goes.skip ?_
    refine sq (Goes.block ?_)
    obtain⟨p,e,g5⟩:=bnd g5
    refine sq (gr fol [0,1] ((1,.func (.func 103) [] [])::(5,.gslice 1 d.length 1)::(kBd p (kBo a (kAl (a.length:Int) b [])))) (ac (hs (.done (.opt (qc ZT 139 (.gslice 0 a.length 1) (.i b))) (.ptr 0 ((b:Int).toNat*1+0))) (qaP qfa e)) (ac (hs (.run [0] (qV ZT 90 (.ptr 0 ((b:Int).toNat*1+0))) [.cells (a.flatMap (qd encI).c),.cells (d.flatMap (qd encI).c)] (vl encI p) [.cells (a.flatMap (qd encI).c),.cells (d.flatMap (qd encI).c)] false) (yE qnM (E:=(qd encI)) (l:=a) rfl rfl e (nl rfl) rfl)) az)) ?_)
    obtain⟨n,j,g5⟩:=bnd g5
    obtain⟨f,k,g5⟩:=bnd g5
    refine gq fol [3,5] ((1,.func (.func 103) [] [])::(5,.gslice 3 f.length 1)::(kBo a (kAl (a.length:Int) b []))) (.cells (a.flatMap (qd encI).c):: .dead::(kBB n [.cells (f.flatMap (qd encI).c)])) (ac (cv (qek N p j)) (ac (hs (.run [1,2] (ja ZT [139,139] (.gslice 1 d.length 1) (.slice 2 0 1 1 1)) (.cells (a.flatMap (qd encI).c):: .cells (d.flatMap (qd encI).c)::(kBB n [])) (.gslice 3 f.length 1) (.cells (a.flatMap (qd encI).c):: .dead::(kBB n [.cells (f.flatMap (qd encI).c)])) true) (yF qfa (E:=(qd encI)) rfl (qcB (E:=(qd encI)) (ys:=[n]) rfl rfl rfl rfl) (qdX (E:=(qd encI)) (l:=d) rfl rfl rfl k rfl))) az)) ?_
    refine gh fol ((1,.func (.func 103) [] [])::(5,.gslice 3 f.length 1)::(kBo a (kAl (a.length:Int) (w64 (b+1)) []))) ?_
    exact⟨M,(ofG 22 ((1,.func (.func 103) [] [])::(5,.gslice 1 f.length 1)::(kBo a (kAl (a.length:Int) (w64 (b+1)) []))),[.cells (a.flatMap (qd encI).c),.cells (f.flatMap (qd encI).c)]),Nat.lt_succ_self _,(Sub.norm [] [some 0,some 3] (by rw[hB];rfl) rfl (.keep (.same (qy.func sn sn)) (.keep (.gslice rfl) (.keep (.gslice rfl) (.keep (.same nI) (.keep (.same nI) .nil))))) (.ks (.ks .nil))),_,_,rfl,g5⟩
   refine Goes.exit ?_
   obtain rfl:=si g5
   exact⟨rfl,_,rfl,(Sub.keep [5] rfl rfl)⟩
 rintro x s' ⟨rfl,g,rfl,hsub⟩
 refine Goes.sub hsub ?_
 refine sh fol [(4,.gslice 1 g.length 1)] ?_
 refine Goes.ret ?_
 obtain rfl:=si h
 exact(gh2 [.gslice 1 g.length 1] (qbQ.refl _ _))
def yK (N:Nat) (a:Int) (b:List (List Int)):Option ((List (List Int))×Bool):=
 (idx b a).bind fun g=>
 (idx b (w64 (a+1))).bind fun h=>
 (yH N g h).bind fun d=>
 ((if d.2=true then
 (j6 N g d.1).bind fun i=>
 (zw h d.1).bind fun e=>
 (put b a i).bind fun c=>
 (idx c (w64 (a+1))).bind fun j=>
 (put c (w64 (a+1)) e).bind fun f=>
 some f
 else
 some b:Option (List (List Int)))).bind fun k=>
 some (k,d.2)
theorem qfX (N:Nat) (b:Int) (a:List (List Int)) {z:List (List Int)} {A:Bool} (h:yK N b a=some (z,A)):qb ZT (.fn 149) [.i b,.ptr 0 0] (kAS a [.cells (a.flatMap (qd encI).c)]) (.bool A) (kAS z [.cells (z.flatMap (qd encI).c)]):=by
 unfold yK at h
 refine Um Tryz.func149 rfl rfl (m:=41) rfl (rs:=[.tmp 3]) rfl (l:=((0,.i b)::(kAX []))) rfl ?_
 intro B hB
 refine sh fol ((0,.i b)::(kAX [])) ?_
 obtain⟨u,d,h⟩:=bnd h
 obtain⟨v,e,h⟩:=bnd h
 obtain⟨g,r,h⟩:=bnd h
 refine sq (gr fol [2,3,7,8,9] ((0,.i b)::(kAX [(4,.i g.1),(5,.bool g.2)])) (ac (hs (.done (.opt (qc ZT 139 (.gslice 1 a.length 1) (.i b))) (.ptr 1 ((b:Int).toNat*1+0))) (qaP qfa d)) (ac (hs (.run [1] (qV ZT 90 (.ptr 1 ((b:Int).toNat*1+0))) (kAS a [.cells (a.flatMap (qd encI).c)]) (vl encI u) (kAS a [.cells (a.flatMap (qd encI).c)]) false) (yE qnM (E:=(qd encI)) (l:=a) rfl rfl d (nl rfl) rfl)) (ac (hs (.done (.opt (qc ZT 139 (.gslice 1 a.length 1) (.i (w64 (b+1))))) (.ptr 1 ((w64 (b+1):Int).toNat*1+0))) (qaP qfa e)) (ac (hs (.run [1] (qV ZT 90 (.ptr 1 ((w64 (b+1):Int).toNat*1+0))) (kAS a [.cells (a.flatMap (qd encI).c)]) (vl encI v) (kAS a [.cells (a.flatMap (qd encI).c)]) false) (yE qnM (E:=(qd encI)) (l:=a) rfl rfl e (nl rfl) rfl)) (ac (cv (qer N u v r)) az))))) ?_)
 refine sq ?_
 refine sh fol ((0,.i b)::(kAX [(4,.i g.1),(5,.bool g.2),(19,.bool g.2)])) ?_
 obtain⟨D,f,h⟩:=bnd h
 refine Goes.imp (Q:=fun x s'=>(x= .normal/\ ∃w,w=D/\Sub s' (ofG 41 [(5,.bool g.2)],(kAS w [.cells (w.flatMap (qd encI).c)])))) ?_ ?_
 ·refine ihB f (fun F f=>?_) (fun F f=>?_)
  ·obtain⟨C,s,f⟩:=bnd f
   obtain⟨t,o,f⟩:=bnd f
   obtain⟨p,j,f⟩:=bnd f
   obtain⟨G,q,f⟩:=bnd f
   obtain⟨k,n,f⟩:=bnd f
   refine gq fol [7,8,10,14,15,17,18,19,20,21] [(5,.bool g.2)] (kAS a [.cells (k.flatMap (qd encI).c)]) (ac (hs (.done (.opt (qc ZT 139 (.gslice 1 a.length 1) (.i b))) (.ptr 1 ((b:Int).toNat*1+0))) (qaP qfa d)) (ac (hs (.run [1] (qV ZT 90 (.ptr 1 ((b:Int).toNat*1+0))) (kAS a [.cells (a.flatMap (qd encI).c)]) (vl encI u) (kAS a [.cells (a.flatMap (qd encI).c)]) false) (yE qnM (E:=(qd encI)) (l:=a) rfl rfl d (nl rfl) rfl)) (ac (cv (qb2 N u g.1 s)) (ac (hs (.done (.opt (qc ZT 139 (.gslice 1 a.length 1) (.i (w64 (b+1))))) (.ptr 1 ((w64 (b+1):Int).toNat*1+0))) (qaP qfa e)) (ac (hs (.run [1] (qV ZT 90 (.ptr 1 ((w64 (b+1):Int).toNat*1+0))) (kAS a [.cells (a.flatMap (qd encI).c)]) (vl encI v) (kAS a [.cells (a.flatMap (qd encI).c)]) false) (yE qnM (E:=(qd encI)) (l:=a) rfl rfl e (nl rfl) rfl)) (ac (cv (yf v g.1 o)) (ac (hs (.done (.opt (qc ZT 139 (.gslice 1 a.length 1) (.i b))) (.ptr 1 ((b:Int).toNat*1+0))) (qaP qfa d)) (ac (hs (.run [1] (qm ZT 90 (.ptr 1 ((b:Int).toNat*1+0)) (vl encI C)) (kAS a [.cells (a.flatMap (qd encI).c)]) .undef (kAS a [.cells (p.flatMap (qd encI).c)]) true) (zY (E:=(qd encI)) (l:=a) (y:=C) rfl (show _=some 1 by kernel_rfl) rfl d rfl rfl rfl rfl rfl j rfl)) (ac (hs (.done (.opt (qc ZT 139 (.gslice 1 a.length 1) (.i (w64 (b+1))))) (.ptr 1 ((w64 (b+1):Int).toNat*1+0))) (qaP qfa e)) (ac (hs (.run [1] (qm ZT 90 (.ptr 1 ((w64 (b+1):Int).toNat*1+0)) (vl encI t)) (kAS a [.cells (p.flatMap (qd encI).c)]) .undef (kAS a [.cells (k.flatMap (qd encI).c)]) true) (zY (E:=(qd encI)) (l:=p) (y:=t) rfl (show _=some 1 by kernel_rfl) rfl q rfl rfl rfl rfl rfl n rfl)) az)))))))))) ?_
   obtain rfl:=si f
   exact⟨rfl,_,rfl,((show Sub (ofG 41 [(5,.bool g.2)],(kAS a [.cells (k.flatMap (qd encI).c)])) (ofG 41 [(5,.bool g.2)],(kAS k [.cells (k.flatMap (qd encI).c)]))from(Sub.norm [] [some 0,some 1] (by rw[hB];rfl) rfl (.keep (.same nB) .nil) (.kb rfl (.cells (rc (.gsliceE rfl ((qH j).trans (qH n))) rn)) (.ks .nil)))).trans (Sub.refl _))⟩
  refine Goes.skip ?_
  obtain rfl:=si f
  exact⟨rfl,_,rfl,(Sub.keep [5] rfl rfl)⟩
 rintro x s' ⟨rfl,w,rfl,hsub⟩
 refine Goes.sub hsub ?_
 refine sh fol (kBt g.2 []) ?_
 refine Goes.ret ?_
 simp only[ZI,ZP]at h
 obtain⟨rfl,rfl⟩:=h
 exact(gh2 [.bool g.2] (qbQ.refl _ _))
def vJ (N:Nat) (e:Int):Nat->(List (List Int))->Bool->Option ((List (List Int))×Bool)
 |0,_,_=>none
 |K+1,b,c=>
  (yK N e b).bind fun(a,d)=>
  ((if b.length=a.length then some ()else none:Option Unit)).bind fun f=>
  if d=true then
  vJ N e K a true
  else
  some (a,c)
def vI (N:Nat):Nat->(List (List Int))->Int->Option (List (List Int))
 |0,_,_=>none
 |K+1,c,a=>
  if(w64 (a+1))<(c.length:Int)then
  (((vJ N a N c false).bind fun(b,d)=>
  (if d=true then
  some (decide (a>0))
  else
  some false:Option Bool).bind fun e=>
  if e=true then
  some (b,w64 (a-1))
  else
  some (b,w64 (a+1)):Option ((List (List Int))×Int))).bind fun(f,g)=>
  vI N K f g
  else
  some c
def qbg (N:Nat) (a:List (List Int)):Option (List (List Int)):=
 (vI N N a 0).bind fun b=>
 some b
theorem qhg (N:Nat) (g:List (List Int)) {E:List (List Int)} (h:qbg N g=some E):qb ZT (.fn 105) [.gslice 0 g.length 1] [.cells (g.flatMap (qd encI).c)] (.tuple []) [.cells (E.flatMap (qd encI).c)]:=by
 unfold qbg at h
 refine Um Tryz.func105 rfl rfl (m:=23) rfl (rs:=[]) rfl (l:=(kA8 g [])) rfl ?_
 intro B hB
 refine Up ?_
 refine sg fol (kBY []) (.cells (g.flatMap (qd encI).c)::(kAc g)) ?_
 refine Goes.scope ?_
 refine sh fol (kBY [(2,.func (.func 149) [] [.ptr 1 0])]) ?_
 refine sq (Goes.label ?_)
 refine sh fol (kBY [(2,.func (.func 149) [] [.ptr 1 0]),(3,.i 0)]) ?_
 refine Goes.block ?_
 obtain⟨F,g5,h⟩:=bnd h
 refine Goes.imp (Q:=fun x s'=>(x= .exit 0/\ ∃y,y=F/\Sub s' (ofG 23 [],[.cells (y.flatMap (qd encI).c)]))) ?_ ?_
 ·refine Uc (fun M s=> ∃(u:List (List Int)) (d:Int),s=(ofG 23 (kBY ((2,.func (.func 149) [] [.ptr 1 0])::(kBZ d))),(.cells (u.flatMap (qd encI).c)::(kAc u)))/\vI N M u d=some F) ?_ (m:=N) ⟨_,_,rfl,g5⟩
  rintro M s ⟨u,d,rfl,g5⟩
  cases M with
  |zero=>simp only[vI]at g5;cases g5
  |succ M=>
   rw[vI]at g5
   refine sq ?_
   refine sh fol (kBY ((2,.func (.func 149) [] [.ptr 1 0])::(3,.i d)::(kB5 (decide ((w64 (d+1))<(u.length:Int)))))) ?_
   refine ihD g5 (fun G g5=>?_) (fun G g5=>?_)
   ·refine Goes.skip ?_
    obtain⟨H,n,g5⟩:=bnd g5
    refine Goes.imp (Q:=fun x s'=>(x= .normal/\ ∃t w,(t,w)=H/\Sub s' (ofG 23 (kBY ((2,.func (.func 149) [] [.ptr 1 0])::(kBZ w))),(.cells (t.flatMap (qd encI).c)::(kAc t))))) ?_ ?_
    ·refine Goes.block ?_
     refine sh fol (kBY [(2,.func (.func 149) [] [.ptr 1 0]),(3,.i d),(4,.bool false)]) ?_
     refine sq (Goes.block ?_)
     obtain⟨v,a,n⟩:=bnd n
     refine Goes.imp (Q:=fun x s'=>(x= .exit 2/\ ∃j p,(j,p)=v/\Sub s' (ofG 23 (kBY ((2,.func (.func 149) [] [.ptr 1 0])::(3,.i d)::(kBI p))),(.cells (j.flatMap (qd encI).c)::(kAc j))))) ?_ ?_
     ·refine Uc (fun M s=> ∃(f:List (List Int)) (k:Bool),s=(ofG 23 (kBY ((2,.func (.func 149) [] [.ptr 1 0])::(3,.i d)::(kBI k))),(.cells (f.flatMap (qd encI).c)::(kAc f)))/\vJ N d M f k=some v) ?_ (m:=N) ⟨_,_,rfl,a⟩
      rintro M s ⟨f,k,rfl,a⟩
      cases M with
      |zero=>simp only[vJ]at a;cases a
      |succ M=>
       rw[vJ]at a
       refine sq ?_
       obtain⟨⟨e,o⟩,q,a⟩:=bnd a
       try dsimp only at a
       obtain⟨I,z,a⟩:=bnd a
       refine sq (gq fol [2] (kBY ((2,.func (.func 149) [] [.ptr 1 0])::(3,.i d)::(4,.bool k)::(kBe o))) (.cells (e.flatMap (qd encI).c)::(kAc e)) (ac (hs (.callH 149 [.i d,.ptr 1 0] (.cells (f.flatMap (qd encI).c)::(kAc f)) [1,0] (.bool o) (.cells (e.flatMap (qd encI).c)::(kAc e))) (vv [some 1,some 0] [some 1,some 0] (qfX N d f q) (.kb rfl (.cells (rc (.gslice rfl) rn)) (.ks .nil)) rfl rfl (.back rfl rfl (.same fa) rfl (.back rfl rfl (.cells (rc (.gslice rfl) rn)) rfl .nil)) (rc (.same nI) (rc (.ptr rfl) rn)) (.same nB) rfl)) az) ?_)
       refine Goes.sub (show Sub (ofG 23 (kBY ((2,.func (.func 149) [] [.ptr 1 0])::(3,.i d)::(4,.bool k)::(kBe o))),(.cells (e.flatMap (qd encI).c)::(kAc e))) (ofG 23 (kBY ((2,.func (.func 149) [] [.ptr 1 0])::(3,.i d)::(4,.bool k)::(kBe o))),(.cells (e.flatMap (qd encI).c)::(kAc e)))from(Sub.norm [] [some 0,some 1] (by rw[hB];rfl) rfl (.kp (.keep (.funcL (sn) (rc (.ptr rfl) rn)) (.keep (.same nI) (.keep (.same nB) (.keep (.same nB) .nil))))) (.ks (.kb rfl (.cells (rc (.gslice rfl) rn)) .nil)))) ?_
       refine ihB a (fun A a=>?_) (fun A a=>?_)
       ·refine Goes.skip ?_
        refine Goes.block ?_
        refine gh fol (kBY ((2,.func (.func 149) [] [.ptr 1 0])::(3,.i d)::kB8)) ?_
        exact⟨M,(ofG 23 (kBY ((2,.func (.func 149) [] [.ptr 1 0])::(3,.i d)::kB8)),(.cells (e.flatMap (qd encI).c)::(kAc e))),Nat.lt_succ_self _,(Sub.refl _),_,_,rfl,a⟩
       refine Goes.exit ?_
       obtain rfl:=si a
       exact⟨rfl,_,_,rfl,(Sub.keep [1,2,3,4] rfl rfl)⟩
     rintro x s' ⟨rfl,j,p,rfl,hsub⟩
     try dsimp only at n
     refine Goes.sub hsub ?_
     refine sq ?_
     refine sq ?_
     obtain⟨C,b,n⟩:=bnd n
     refine Goes.cut (s':=(ofG 23 (kBY [(2,.func (.func 149) [] [.ptr 1 0]),(3,.i d),(18,.bool C)]),(.cells (j.flatMap (qd encI).c)::(kAc j)))) ?_ ?_
     ·rcases wyB b with⟨r,b⟩|⟨r,b⟩
      ·obtain rfl:=si b
       exact tr fol [1] (kBY [(2,.func (.func 149) [] [.ptr 1 0]),(3,.i d),(18,.bool (decide (d>0)))]) (ac (gw r) az)
      obtain rfl:=si b
      exact tr fol [1] (kBY [(2,.func (.func 149) [] [.ptr 1 0]),(3,.i d),(18,.bool false)]) (ac (gw r) az)
     refine ihB n (fun D n=>?_) (fun D n=>?_)
     ·refine sh fol (kBY ((2,.func (.func 149) [] [.ptr 1 0])::(kBZ (w64 (d-1))))) ?_
      refine Goes.exit ?_
      obtain rfl:=si n
      exact⟨rfl,_,_,rfl,(Sub.refl _)⟩
     refine Goes.skip ?_
     refine gh fol (kBY ((2,.func (.func 149) [] [.ptr 1 0])::(kBZ (w64 (d+1))))) ?_
     obtain rfl:=si n
     exact⟨rfl,_,_,rfl,(Sub.refl _)⟩
    rintro x s' ⟨rfl,t,w,rfl,hsub⟩
    try dsimp only at g5
    exact⟨M,(ofG 23 (kBY ((2,.func (.func 149) [] [.ptr 1 0])::(kBZ w))),(.cells (t.flatMap (qd encI).c)::(kAc t))),Nat.lt_succ_self _,(hsub.trans (Sub.refl _)),_,_,rfl,g5⟩
   refine Goes.exit ?_
   obtain rfl:=si g5
   exact⟨rfl,_,rfl,(Sub.norm [] [some 0] (by rw[hB];rfl) rfl .nil (.ks .nil))⟩
 rintro x s' ⟨rfl,y,rfl,hsub⟩
 obtain rfl:=si h
 exact⟨_,hsub,(gh2 [] (qbQ.refl _ _))⟩
def yl (N:Nat) (n:Int) (w:List Int):Nat->Int->(List (List Int))->Int->Option (Int×(List (List Int)))
 |0,_,_,_=>none
 |K+1,c,d,e=>
  if e<(w.length:Int)then
  (((idx w e).bind fun a=>
  (qbF a).bind fun b=>
  if a>0 then
  (jl N n).bind fun f=>
  (zw f (w64 (b-1))).bind fun g=>
  (app 24 d [g]).bind fun h=>
  some (c,h)
  else
  (jU N d).bind fun i=>
  (qaN N n).bind fun j=>
  (j6 N j (w64 (b-1))).bind fun k=>
  (app 24 i [k]).bind fun l=>
  some (w64 (c-1),l):Option (Int×(List (List Int))))).bind fun(o,m)=>
  yl N n w K o m (w64 (e+1))
  else
  some (c,d)
def ym (N:Nat) (n:Int) (c:List (List Int)):Nat->Int->(List (List Int))->Int->Option (Int×(List (List Int)))
 |0,_,_,_=>none
 |K+1,a,b,d=>
  if d<(c.length:Int)then
  (((idx c d).bind fun e=>
  (vM N e).bind fun f=>
  if f=true then
  some (a,b)
  else
  (qaN N n).bind fun g=>
  (slices_Equal_int N e g).bind fun h=>
  if h=true then
  some (w64 (a+1),b)
  else
  (app 24 b [e]).bind fun i=>
  some (a,i):Option (Int×(List (List Int))))).bind fun(j,k)=>
  ym N n c K j k (w64 (d+1))
  else
  some (a,b)
def qa0 (N:Nat) (n:Int) (w:List Int):Option qb5:=
 if n=1 then
 some (⟨0,[]⟩:qb5)
 else
 (yl N n w N 0 ([]:List (List Int)) 0).bind fun(e,d)=>
 (qbg N d).bind fun a=>
 ((if d.length=a.length then some ()else none:Option Unit)).bind fun f=>
 (ym N n a N e ([]:List (List Int)) 0).bind fun(b,c)=>
 some (⟨b,c⟩:qb5)
theorem qhI (N:Nat) (n:Int) (w:List Int) {res:qb5} (h:qa0 N n w=some res):qb ZT (.fn 51) (.i n::(kA1 w)) [] (.agg [.i res.Half,vl (qd encI) res.Factors]) []:=by
 unfold qa0 at h
 refine Ub Tryz.func51 rfl rfl (m:=74) rfl (rs:=[.cell 4 43]) rfl (l:=(kE n w [])) rfl ?_
 refine sg fol (kE n w (kA9 [])) [bZ] ?_
 refine sg fol (kE n w (kK [])) [bZ,bZ] ?_
 refine sq ?_
 refine sh fol (kE n w (kK (kBe (decide (n=1))))) ?_
 refine ihD h (fun c1 h=>?_) (fun c1 h=>?_)
 ·refine sh fol (kA9 []) ?_
  refine Goes.ret ?_
  obtain rfl:=si h
  exact(gw2 [.agg [.i 0,.nilslice]] (FzW.agg (qh.cons (Ua tI) (qh.cons (FzW.nilv (E:=(qd encI))) qh.nil))))
 refine Goes.skip ?_
 refine sh fol (kE n w (kK [(6,.nilslice)])) ?_
 refine sq ?_
 refine sh fol ((0,.i n)::(kK [(6,.nilslice),(15,vl encI w),(16,.i (w.length:Int)),(17,.i 0)])) ?_
 refine Goes.block ?_
 obtain⟨r7,z,h⟩:=bnd h
 refine Goes.imp (Q:=fun x s'=>(x= .exit 0/\ ∃H I,(H,I)=r7/\Sub s' (ofG 74 ((0,.i n)::(kK (kAs I []))),(bZ::(kAG H [.cells (I.flatMap (qd encI).c)]))))) ?_ ?_
 ·refine Goes.sub (s':=(ofG 74 ((0,.i n)::(kK [(6,.gslice 2 ([]:List (List Int)).length 1),(15,vl encI w),(16,.i (w.length:Int)),(17,.i 0)])),[bZ,bZ,.cells (([]:List (List Int)).flatMap (qd encI).c)])) (Sub.norm [] [some 0,some 1,none] rfl rfl (.keep (.same nI) (.kp (.kp (.keep .nil (.keep (.same (qf encI _)) (.keep (.same nI) (.keep (.same nI) .nil))))))) (.kb rfl (.same sn) (.kb rfl (.same sn) (.fresh .nil)))) ?_
  refine Uc (fun M s=> ∃(q:Int) (k:List (List Int)) (u:Int),s=(ofG 74 ((0,.i n)::(kK (kAs k (kAi w (w.length:Int) u [])))),(bZ::(kAG q [.cells (k.flatMap (qd encI).c)])))/\yl N n w M q k u=some r7) ?_ (m:=N) ⟨_,_,_,rfl,z⟩
  rintro M s ⟨q,k,u,rfl,z⟩
  cases M with
  |zero=>simp only[yl]at z;cases z
  |succ M=>
   rw[yl]at z
   refine sh fol ((0,.i n)::(kK (kAs k (kAi w (w.length:Int) u [(18,.bool (decide (u<(w.length:Int))))])))) ?_
   refine sq ?_
   refine ihD z (fun c8 z=>?_) (fun c8 z=>?_)
   ·refine Goes.skip ?_
    refine sq ?_
    obtain⟨r11,b,z⟩:=bnd z
    refine Goes.imp (Q:=fun x s'=>(x= .normal/\ ∃n9 v,(n9,v)=r11/\Sub s' (ofG 74 ((0,.i n)::(kK (kAs v (kAi w (w.length:Int) u [])))),(bZ::(kAG n9 [.cells (v.flatMap (qd encI).c)]))))) ?_ ?_
    ·refine Goes.block ?_
     obtain⟨J,D,b⟩:=bnd b
     refine sq (gr fol [0,1] ((0,.i n)::(kK (kAs k ((8,.i J)::(kAi w (w.length:Int) u []))))) (ac (iv qo encI D) (ac (lv 0 ce3 encI D rfl) az)) ?_)
     obtain⟨y,T,b⟩:=bnd b
     refine sq (gr fol [1] ((0,.i n)::(kK (kAs k ((8,.i J)::(9,.i (w64 (y-1)))::(kAi w (w.length:Int) u []))))) (ac (cv (xV J T)) az) ?_)
     refine sq ?_
     refine sh fol ((0,.i n)::(kK (kAs k ((9,.i (w64 (y-1)))::(kAi w (w.length:Int) u [(25,.bool (decide (J>0)))]))))) ?_
     refine ihD b (fun c14 b=>?_) (fun c14 b=>?_)
     ·obtain⟨j,U,b⟩:=bnd b
      obtain⟨A,V,b⟩:=bnd b
      obtain⟨r,W,b⟩:=bnd b
      refine sq (gq fol [2,4,6] ((0,.i n)::(kK ((6,.gslice 5 r.length 1)::(kAi w (w.length:Int) u [])))) (bZ::(kAG q (.dead::(kAn j (kBB A [.cells (r.flatMap (qd encI).c)]))))) (ac (hs (.callH 75 [.i n] (bZ::(kAG q [.cells (k.flatMap (qd encI).c)])) [] (.slice 3 0 j.length j.length 1) (bZ::(kAG q (.cells (k.flatMap (qd encI).c)::(kA j []))))) (vv [] [none,none,none,some 0] (xx N n U) .nil rfl rfl (.old rfl rfl (.old rfl rfl (.old rfl rfl (.new rfl rfl (.same fa) rfl .nil)))) (rc (.same nI) rn) (.slice rfl) rfl)) (ac (hs (.callF 101 [.slice 3 0 j.length j.length 1,.i (w64 (y-1))] (bZ::(kAG q (.cells (k.flatMap (qd encI).c)::(kA j [])))) [3] (kBF j (w64 (y-1))) (vl encI A)) (qa6 (FzL.cons (U0 (E:=encI) rfl rfl (nl rfl)) (FzL.cons (Uh tI) FzL.nil)) (yf j (w64 (y-1)) V) (ql encI _ (nl rfl)))) (ac (hs (.run [2,4] (ja ZT [139,139] (.gslice 2 k.length 1) (.slice 4 0 1 1 1)) (bZ::(kAG q (.cells (k.flatMap (qd encI).c)::(kAn j (kBB A []))))) (.gslice 5 r.length 1) (bZ::(kAG q (.dead::(kAn j (kBB A [.cells (r.flatMap (qd encI).c)]))))) true) (yF qfa (E:=(qd encI)) rfl (qcB (E:=(qd encI)) (ys:=[A]) rfl rfl rfl rfl) (qdX (E:=(qd encI)) (l:=k) rfl rfl rfl W rfl))) az))) ?_)
      refine Goes.sub (show Sub (ofG 74 ((0,.i n)::(kK ((6,.gslice 5 r.length 1)::(kAi w (w.length:Int) u [])))),(bZ::(kAG q (.dead::(kAn j (kBB A [.cells (r.flatMap (qd encI).c)])))))) (ofG 74 ((0,.i n)::(kK (kAs r (kAi w (w.length:Int) u [])))),(bZ::(kAG q [.cells (r.flatMap (qd encI).c)])))from(Sub.norm [] [some 0,some 1,some 5] rfl rfl (.keep (.same nI) (.kp (.kp (.keep (.gslice rfl) (.keep (.same (qf encI _)) (.keep (.same nI) (.keep (.same nI) .nil))))))) (.kb rfl (.same sn) (.kb rfl (.same sn) (.ks .nil))))) ?_
      refine Goes.exit ?_
      obtain rfl:=si b
      exact⟨rfl,_,_,rfl,(Sub.refl _)⟩
     refine Goes.skip ?_
     refine sg fol ((0,.i n)::(kK (kAs k ((9,.i (w64 (y-1)))::(kAi w (w.length:Int) u []))))) (bZ::(kAG (w64 (q-1)) [.cells (k.flatMap (qd encI).c)])) ?_
     obtain⟨F,X,b⟩:=bnd b
     obtain⟨r21,Y,b⟩:=bnd b
     obtain⟨K,Z,b⟩:=bnd b
     obtain⟨L,a0,b⟩:=bnd b
     refine gq fol [1,3,5,7] ((0,.i n)::(kK ((6,.gslice 5 L.length 1)::(kAi w (w.length:Int) u [])))) (bZ::(kAG (w64 (q-1)) (.cells (k.flatMap (qd encI).c):: .dead::(kBB K [.cells (L.flatMap (qd encI).c)])))) (ac (hs (.callH 102 [.gslice 2 k.length 1,.func (.func 103) [] []] (bZ::(kAG (w64 (q-1)) [.cells (k.flatMap (qd encI).c)])) [2] (.gslice 3 F.length 1) (bZ::(kAG (w64 (q-1)) [.cells (k.flatMap (qd encI).c),.cells (F.flatMap (qd encI).c)]))) (vv [some 2] [none,none,some 0,some 1] (qdK N k X) (.ks .nil) rfl rfl (.old rfl rfl (.old rfl rfl (.back rfl rfl (.same fa) rfl (.new rfl rfl (.same fa) rfl .nil)))) (rc (.gslice rfl) (rc (.same (qy.func sn sn)) rn)) (.gslice rfl) rfl)) (ac (cv (qct N n Y)) (ac (cv (qb2 N r21 (w64 (y-1)) Z)) (ac (hs (.run [3,4] (ja ZT [139,139] (.gslice 3 F.length 1) (.slice 4 0 1 1 1)) (bZ::(kAG (w64 (q-1)) (.cells (k.flatMap (qd encI).c):: .cells (F.flatMap (qd encI).c)::(kBB K [])))) (.gslice 5 L.length 1) (bZ::(kAG (w64 (q-1)) (.cells (k.flatMap (qd encI).c):: .dead::(kBB K [.cells (L.flatMap (qd encI).c)])))) true) (yF qfa (E:=(qd encI)) rfl (qcB (E:=(qd encI)) (ys:=[K]) rfl rfl rfl rfl) (qdX (E:=(qd encI)) (l:=F) rfl rfl rfl a0 rfl))) az)))) ?_
     obtain rfl:=si b
     exact⟨rfl,_,_,rfl,(Sub.norm [] [some 0,some 1,some 5] rfl rfl (.keep (.same nI) (.kp (.kp (.keep (.gslice rfl) (.keep (.same (qf encI _)) (.keep (.same nI) (.keep (.same nI) .nil))))))) (.kb rfl (.same sn) (.kb rfl (.same sn) (.ks .nil))))⟩
    rintro x s' ⟨rfl,n9,v,rfl,hsub⟩
    try dsimp only at z
    refine Goes.sub hsub ?_
    refine gh fol ((0,.i n)::(kK (kAs v (kAi w (w.length:Int) (w64 (u+1)) [])))) ?_
    exact⟨M,(ofG 74 ((0,.i n)::(kK (kAs v (kAi w (w.length:Int) (w64 (u+1)) [])))),(bZ::(kAG n9 [.cells (v.flatMap (qd encI).c)]))),Nat.lt_succ_self _,(Sub.refl _),_,_,_,rfl,z⟩
   refine Goes.exit ?_
   obtain rfl:=si z
   exact⟨rfl,_,_,rfl,(Sub.keep [0,4,5,6] rfl rfl)⟩
 rintro x s' ⟨rfl,H,I,rfl,hsub⟩
 try dsimp only at h
 refine Goes.sub hsub ?_
 obtain⟨a,a1,h⟩:=bnd h
 obtain⟨u26,a2,h⟩:=bnd h
 refine sq (gq fol [1] ((0,.i n)::(kK (kAs I []))) (bZ::(kAG H [.cells (a.flatMap (qd encI).c)])) (ac (hs (.callH 105 [.gslice 2 I.length 1] (bZ::(kAG H [.cells (I.flatMap (qd encI).c)])) [2] (.tuple []) (bZ::(kAG H [.cells (a.flatMap (qd encI).c)]))) (vv [some 2] [none,none,some 0] (qhg N I a1) (.ks .nil) rfl rfl (.old rfl rfl (.old rfl rfl (.back rfl rfl (.same fa) rfl .nil))) (rc (.gslice rfl) rn) (.same (qy.tuple sn)) rfl)) az) ?_)
 refine Goes.sub (show Sub (ofG 74 ((0,.i n)::(kK (kAs I []))),(bZ::(kAG H [.cells (a.flatMap (qd encI).c)]))) (ofG 74 ((0,.i n)::(kK (kAs a []))),(bZ::(kAG H [.cells (a.flatMap (qd encI).c)])))from(Sub.norm [] [some 0,some 1,some 2] rfl rfl (.keep (.same nI) (.kp (.kp (.keep (.gsliceE rfl (qh2 a2)) .nil)))) (.kb rfl (.same sn) (.kb rfl (.same sn) (.ks .nil))))) ?_
 refine sq ?_
 refine sh fol ((0,.i n)::(kK [(48,.gslice 2 a.length 1),(49,.i (a.length:Int)),(50,.i 0)])) ?_
 refine Goes.block ?_
 obtain⟨a7,g,h⟩:=bnd h
 refine Goes.imp (Q:=fun x s'=>(x= .exit 2/\ ∃B t,(B,t)=a7/\Sub s' (ofG 74 (kK []),(bZ::(kAw B t [.cells (t.flatMap (qd encI).c)]))))) ?_ ?_
 ·refine Goes.sub (s':=(ofG 74 ((0,.i n)::(kK [(48,.gslice 3 a.length 1),(49,.i (a.length:Int)),(50,.i 0)])),[bZ,.cells [.i H,.gslice 2 ([]:List (List Int)).length 1],.cells (([]:List (List Int)).flatMap (qd encI).c),.cells (a.flatMap (qd encI).c)])) (Sub.norm [] [some 0,some 1,none,some 2] rfl rfl (.keep (.same nI) (.kp (.kp (.keep (.gslice rfl) (.keep (.same nI) (.keep (.same nI) .nil)))))) (.kb rfl (.same sn) (.kb rfl (.cells (rc (.same nI) (rc (.nil) rn))) (.fresh (.ks .nil))))) ?_
  refine Uc (fun M s=> ∃(p:Int) (f:List (List Int)) (e:Int),s=(ofG 74 ((0,.i n)::(kK (kAZ a (a.length:Int) e []))),(bZ::(kAw p f [.cells (f.flatMap (qd encI).c),.cells (a.flatMap (qd encI).c)])))/\ym N n a M p f e=some a7) ?_ (m:=N) ⟨_,_,_,rfl,g⟩
  rintro M s ⟨p,f,e,rfl,g⟩
  cases M with
  |zero=>simp only[ym]at g;cases g
  |succ M=>
   rw[ym]at g
   refine sh fol ((0,.i n)::(kK (kAZ a (a.length:Int) e [(51,.bool (decide (e<(a.length:Int))))]))) ?_
   refine sq ?_
   refine ihD g (fun c33 g=>?_) (fun c33 g=>?_)
   ·refine Goes.skip ?_
    refine sq ?_
    obtain⟨r36,d,g⟩:=bnd g
    refine Goes.imp (Q:=fun x s'=>(x= .normal/\ ∃O C,(O,C)=r36/\Sub s' (ofG 74 ((0,.i n)::(kK (kAZ a (a.length:Int) e []))),(bZ::(kAw O C [.cells (C.flatMap (qd encI).c),.cells (a.flatMap (qd encI).c)]))))) ?_ ?_
    ·refine Goes.block ?_
     obtain⟨o,G,d⟩:=bnd d
     refine sq (gr fol [0,1] ((0,.i n)::(kK ((11,vl encI o)::(kAZ a (a.length:Int) e [])))) (ac (hs (.done (.opt (qc ZT 139 (.gslice 3 a.length 1) (.i e))) (.ptr 3 ((e:Int).toNat*1+0))) (qaP qfa G)) (ac (hs (.run [3] (qV ZT 90 (.ptr 3 ((e:Int).toNat*1+0))) (bZ::(kAw p f [.cells (f.flatMap (qd encI).c),.cells (a.flatMap (qd encI).c)])) (vl encI o) (bZ::(kAw p f [.cells (f.flatMap (qd encI).c),.cells (a.flatMap (qd encI).c)])) false) (yE qnM (E:=(qd encI)) (l:=a) rfl rfl G (nl rfl) rfl)) az)) ?_)
     refine Goes.block ?_
     obtain⟨r38,a3,d⟩:=bnd d
     refine sq (gr fol [1] ((0,.i n)::(kK ((11,vl encI o)::(kAZ a (a.length:Int) e [(60,.bool r38)])))) (ac (cv (qav N o a3)) az) ?_)
     refine ihB d (fun c39 d=>?_) (fun c39 d=>?_)
     ·refine Goes.skip ?_
      obtain rfl:=si d
      exact⟨rfl,_,_,rfl,(Sub.keep [0,4,5,48,49,50] rfl rfl)⟩
     obtain⟨r40,a4,d⟩:=bnd d
     obtain⟨r41,a5,d⟩:=bnd d
     refine sq (gr fol [2,3] ((0,.i n)::(kK ((11,vl encI o)::(kAZ a (a.length:Int) e [(63,.bool r41)])))) (ac (cv (qct N n a4)) (ac (cv (qcZ N o r40 a5)) az)) ?_)
     refine ihB d (fun c42 d=>?_) (fun c42 d=>?_)
     ·refine Goes.rg fol ((0,.i n)::(kK (kAZ a (a.length:Int) e []))) (bZ::(kAw (w64 (p+1)) f [.cells (f.flatMap (qd encI).c),.cells (a.flatMap (qd encI).c)])) ?_
      obtain rfl:=si d
      exact⟨rfl,_,_,rfl,(Sub.refl _)⟩
     obtain⟨P,a6,d⟩:=bnd d
     refine gq fol [4] ((0,.i n)::(kK (kAZ a (a.length:Int) e []))) (bZ:: .cells [.i p,.gslice 5 P.length 1]:: .dead:: .cells (a.flatMap (qd encI).c)::(kBB o [.cells (P.flatMap (qd encI).c)])) (ac (hs (.run [2,4] (ja ZT [39,39] (.gslice 2 f.length 1) (.slice 4 0 1 1 1)) (bZ::(kAw p f (.cells (f.flatMap (qd encI).c):: .cells (a.flatMap (qd encI).c)::(kBB o [])))) (.gslice 5 P.length 1) (bZ::(kAw p f (.dead:: .cells (a.flatMap (qd encI).c)::(kBB o [.cells (P.flatMap (qd encI).c)])))) true) (yF qdJ (E:=(qd encI)) rfl (qcB (E:=(qd encI)) (ys:=[o]) rfl rfl rfl rfl) (qdX (E:=(qd encI)) (l:=f) rfl rfl rfl a6 rfl))) az) ?_
     obtain rfl:=si d
     exact⟨rfl,_,_,rfl,(Sub.norm [] [some 0,some 1,some 5,some 3] rfl rfl (.keep (.same nI) (.kp (.kp (.keep (.gslice rfl) (.keep (.same nI) (.keep (.same nI) .nil)))))) (.kb rfl (.same sn) (.kb rfl (.cells (rc (.same nI) (rc (.gslice rfl) rn))) (.ks (.ks .nil)))))⟩
    rintro x s' ⟨rfl,O,C,rfl,hsub⟩
    try dsimp only at g
    refine Goes.sub hsub ?_
    refine gh fol ((0,.i n)::(kK (kAZ a (a.length:Int) (w64 (e+1)) []))) ?_
    exact⟨M,(ofG 74 ((0,.i n)::(kK (kAZ a (a.length:Int) (w64 (e+1)) []))),(bZ::(kAw O C [.cells (C.flatMap (qd encI).c),.cells (a.flatMap (qd encI).c)]))),Nat.lt_succ_self _,(Sub.refl _),_,_,_,rfl,g⟩
   refine Goes.exit ?_
   obtain rfl:=si g
   exact⟨rfl,_,_,rfl,(Sub.norm [] [some 0,some 1,some 2] rfl rfl (.drop (.kp (.kp .nil))) (.kb rfl (.same sn) (.kb rfl (.cells (rc (.same nI) (rc (.gslice rfl) rn))) (.ks .nil))))⟩
 rintro x s' ⟨rfl,B,t,rfl,hsub⟩
 try dsimp only at h
 refine Goes.sub hsub ?_
 refine sg fol (kA9 []) (kAw B t (kAw B t [.cells (t.flatMap (qd encI).c)])) ?_
 refine Goes.ret ?_
 obtain rfl:=si h
 exact(gw2 [.agg [.i B,.gslice 2 t.length 1]] (FzW.agg (qh.cons (Ua tI) (qh.cons (Ux (Fz.gs (E:=(qd encI)) rfl rfl (nl rfl))) qh.nil))))
def qbZ (N:Nat) (n:Int) (w:List Int):Option (qb5×Int):=
 (yu N n w).bind fun a=>
 if(!decide (a=0))=true then
 some ((⟨0,[]⟩:qb5),a)
 else
 (qa0 N n w).bind fun b=>
 some (b,0)
theorem qhB (N:Nat) (n:Int) (w:List Int) {res:qb5×Int} (h:qbZ N n w=some res):qb ZT (.fn 18) (.i n::(kA1 w)) [] (.tuple [.agg [.i res.1.Half,vl (qd encI) res.1.Factors],.i res.2]) []:=by
 unfold qbZ at h
 refine Ub Tryz.func18 rfl rfl (m:=17) rfl (rs:=[.cell 4 43,.tmp 5]) rfl (l:=(kE n w [])) rfl ?_
 refine sg fol (kE n w (kA9 [])) [bZ] ?_
 refine sq ?_
 obtain⟨a,b,h⟩:=bnd h
 refine sq (gr fol [2] (kE n w (kA9 [(6,.i a)])) (ac (cv (qby N n w b)) az) ?_)
 refine sh fol (kE n w (kA9 [(6,.i a),(11,.bool (!decide (a=0)))])) ?_
 refine ihB h (fun e h=>?_) (fun e h=>?_)
 ·refine sh fol (kA9 (kA7 a)) ?_
  refine Goes.ret ?_
  obtain rfl:=si h
  exact(gw2 [.agg [.i 0,.nilslice],.i a] (FzW.tuple (qh.cons (FzW.agg (qh.cons (Ua tI) (qh.cons (FzW.nilv (E:=(qd encI))) qh.nil))) (qh.cons (Ua tI) qh.nil))))
 refine Goes.skip ?_
 obtain⟨d,c,h⟩:=bnd h
 refine sq (gq fol [2] (kA9 [(5,.i 0)]) [.cells [.i d.Half,vl (qd encI) d.Factors]] (ac (cv (qhI N n w c)) az) ?_)
 refine Goes.ret ?_
 obtain rfl:=si h
 exact(gw2 [.agg [.i d.Half,vl (qd encI) d.Factors],.i 0] (FzW.tuple (qh.cons (FzW.agg (qh.cons (Ua tI) (qh.cons (Ua (ql (qd encI) _ (nl rfl))) qh.nil))) (qh.cons (Ua tI) qh.nil))))
def qaa (N:Nat) (n:Int) (p:List Int):Option Int:=
 (zb (!decide ((p.length:Int)=n)) 2).bind fun a=>
 (jL N p).bind fun b=>
 (vo N ([a,b]:List Int)).bind fun c=>
 some c
theorem qgo (N:Nat) (n:Int) (p:List Int) {res:Int} (h:qaa N n p=some res):qb ZT (.fn 108) (.i n::(kA1 p)) [] (.i res) []:=by
 unfold qaa at h
 refine Ub Tryz.func108 rfl rfl (m:=14) rfl (rs:=[.tmp 4]) rfl (l:=(kE n p [])) rfl ?_
 refine sh fol (kE n p []) ?_
 obtain⟨d,a,h⟩:=bnd h
 obtain⟨e,b,h⟩:=bnd h
 obtain⟨f,c,h⟩:=bnd h
 refine sq (gq fol [4,6,8] (kBx f) (kAd d e) (ac (cv (zF (!decide ((p.length:Int)=n)) 2 a)) (ac (cv (qcW N p b)) (ac (hs (.call 69 [.slice 0 0 2 2 1] (kAd d e) [0] [vl encI ([d,e]:List Int)] (.i f)) (qbx (FzL.cons (Fz.lit rfl rfl (Uj (AllST.cons tI (AllST.cons tI AllST.nil)))) FzL.nil) (xN N ([d,e]:List Int) c) tI rfl)) az))) ?_)
 refine Goes.ret ?_
 obtain rfl:=si h
 exact(gw2 [.i f] (Ua tI))
def jE (N:Nat) (n:Int) (f:qb5):Nat->Int->Option (Unit⊕Int)
 |0,_=>none
 |K+1,a=>
  if a<(f.Factors.length:Int)then
  (idx f.Factors a).bind fun b=>
  (qaa N n b).bind fun c=>
  if(!decide (c=0))=true then
  some (.inr c)
  else
  ((if a>0 then
  (idx f.Factors (w64 (a-1))).bind fun d=>
  (yH N d b).bind fun e=>
  some e.2
  else
  some false:Option Bool)).bind fun g=>
  (if g=true then
  some true
  else
  (vM N b).bind fun h=>
  if h=true then
  some true
  else
  (qaN N n).bind fun i=>
  (slices_Equal_int N b i).bind fun j=>
  some j:Option Bool).bind fun k=>
  if k=true then
  some (.inr 1)
  else
  jE N n f K (w64 (a+1))
  else
  some (.inl ())
def xZ (N:Nat) (n:Int) (f:qb5):Option Int:=
 ((jF n).bind fun a=>
 (qbF f.Half).bind fun q=>
 if q>200 then
 (zb true 3).bind fun l=>
 (zb (decide ((f.Factors.length:Int)>200)) 5).bind fun m=>
 (vo N ([a,l,m]:List Int)).bind fun r=>
 some (a,l,m,r)
 else
 if f.Half<(-200)then
 (zb true 3).bind fun o=>
 (zb (decide ((f.Factors.length:Int)>200)) 5).bind fun p=>
 (vo N ([a,o,p]:List Int)).bind fun h=>
 some (a,o,p,h)
 else
 if n=1 then
 (zb (!decide (f.Half=0)) 3).bind fun b=>
 (zb (decide ((f.Factors.length:Int)>200)) 5).bind fun c=>
 (vo N ([a,b,c]:List Int)).bind fun i=>
 some (a,b,c,i)
 else
 (zb false 3).bind fun d=>
 (zb (decide ((f.Factors.length:Int)>200)) 5).bind fun e=>
 (vo N ([a,d,e]:List Int)).bind fun j=>
 some (a,d,e,j):Option (Int×Int×Int×Int)).bind fun(s,t,u,g)=>
 if(!decide (g=0))=true then
 some g
 else
 (jE N n f N 0).bind (fun
 |(.inl ())=>
 some 0
 |(.inr k)=>
 some k)
theorem qgj (N:Nat) (n:Int) (f:qb5) {res:Int} (h:xZ N n f=some res):qb ZT (.fn 52) [.i n,.agg [.i f.Half,vl (qd encI) f.Factors]] [] (.i res) []:=by
 unfold xZ at h
 refine Ub Tryz.func52 rfl rfl (m:=80) rfl (rs:=[.tmp 4]) rfl (l:=[(0,.i n),(1,.agg [.i f.Half,vl (qd encI) f.Factors])]) rfl ?_
 refine sg fol (kAN n []) [.cells [.i f.Half,vl (qd encI) f.Factors]] ?_
 refine sq ?_
 refine sq ?_
 obtain⟨⟨n18,n19,n20,p⟩,a,h⟩:=bnd h
 refine Goes.cut (s':=(ofG 80 (kAN n (kA7 p)),(.cells [.i f.Half,vl (qd encI) f.Factors]::(kBV n18 n19 n20)))) ?_ ?_
 ·obtain⟨j,k,a⟩:=bnd a
  obtain⟨r2,o,a⟩:=bnd a
  rcases wyD a with⟨V,a⟩|⟨V,a⟩
  ·obtain⟨r4,W,a⟩:=bnd a
   obtain⟨r5,X,a⟩:=bnd a
   obtain⟨r6,Y,a⟩:=bnd a
   simp only[ZI,ZP]at a
   obtain⟨rfl,rfl,rfl,rfl⟩:=a
   exact yx.rq fol [1,4,6,20,25,27] (kAN n (kA7 r6)) (.cells [.i f.Half,vl (qd encI) f.Factors]::(kBV j r4 r5)) (ac (cv (vH n k)) (ac (cv (xV f.Half o)) (ac (gw V) (ac (cv (zF true 3 W)) (ac (cv (zF (decide ((f.Factors.length:Int)>200)) 5 X)) (ac (hs (.call 69 [.slice 1 0 3 3 1] (.cells [.i f.Half,vl (qd encI) f.Factors]::(kBV j r4 r5)) [1] [vl encI ([j,r4,r5]:List Int)] (.i r6)) (qbx (FzL.cons (Fz.lit rfl rfl (Uj (AllST.cons tI (AllST.cons tI (AllST.cons tI AllST.nil))))) FzL.nil) (xN N ([j,r4,r5]:List Int) Y) tI rfl)) az))))))
  rcases wyD a with⟨c7,a⟩|⟨c7,a⟩
  ·obtain⟨r8,Z,a⟩:=bnd a
   obtain⟨r9,a0,a⟩:=bnd a
   obtain⟨a1,B,a⟩:=bnd a
   simp only[ZI,ZP]at a
   obtain⟨rfl,rfl,rfl,rfl⟩:=a
   exact yx.rq fol [1,4,6,11,20,25,27] (kAN n (kA7 a1)) (.cells [.i f.Half,vl (qd encI) f.Factors]::(kBV j r8 r9)) (ac (cv (vH n k)) (ac (cv (xV f.Half o)) (ac (gw V) (ac (gw c7) (ac (cv (zF true 3 Z)) (ac (cv (zF (decide ((f.Factors.length:Int)>200)) 5 a0)) (ac (hs (.call 69 [.slice 1 0 3 3 1] (.cells [.i f.Half,vl (qd encI) f.Factors]::(kBV j r8 r9)) [1] [vl encI ([j,r8,r9]:List Int)] (.i a1)) (qbx (FzL.cons (Fz.lit rfl rfl (Uj (AllST.cons tI (AllST.cons tI (AllST.cons tI AllST.nil))))) FzL.nil) (xN N ([j,r8,r9]:List Int) B) tI rfl)) az)))))))
  rcases wyD a with⟨C,a⟩|⟨C,a⟩
  ·obtain⟨v,D,a⟩:=bnd a
   obtain⟨w,E,a⟩:=bnd a
   obtain⟨a2,F,a⟩:=bnd a
   simp only[ZI,ZP]at a
   obtain⟨rfl,rfl,rfl,rfl⟩:=a
   exact yx.rq fol [1,4,6,11,14,20,25,27] (kAN n (kA7 a2)) (.cells [.i f.Half,vl (qd encI) f.Factors]::(kBV j v w)) (ac (cv (vH n k)) (ac (cv (xV f.Half o)) (ac (gw V) (ac (gw c7) (ac (gw C) (ac (cv (zF (!decide (f.Half=0)) 3 D)) (ac (cv (zF (decide ((f.Factors.length:Int)>200)) 5 E)) (ac (hs (.call 69 [.slice 1 0 3 3 1] (.cells [.i f.Half,vl (qd encI) f.Factors]::(kBV j v w)) [1] [vl encI ([j,v,w]:List Int)] (.i a2)) (qbx (FzL.cons (Fz.lit rfl rfl (Uj (AllST.cons tI (AllST.cons tI (AllST.cons tI AllST.nil))))) FzL.nil) (xN N ([j,v,w]:List Int) F) tI rfl)) az))))))))
  obtain⟨y,G,a⟩:=bnd a
  obtain⟨z,H,a⟩:=bnd a
  obtain⟨a3,I,a⟩:=bnd a
  simp only[ZI,ZP]at a
  obtain⟨rfl,rfl,rfl,rfl⟩:=a
  exact yx.rq fol [1,4,6,11,14,20,25,27] (kAN n (kA7 a3)) (.cells [.i f.Half,vl (qd encI) f.Factors]::(kBV j y z)) (ac (cv (vH n k)) (ac (cv (xV f.Half o)) (ac (gw V) (ac (gw c7) (ac (gw C) (ac (cv (zF false 3 G)) (ac (cv (zF (decide ((f.Factors.length:Int)>200)) 5 H)) (ac (hs (.call 69 [.slice 1 0 3 3 1] (.cells [.i f.Half,vl (qd encI) f.Factors]::(kBV j y z)) [1] [vl encI ([j,y,z]:List Int)] (.i a3)) (qbx (FzL.cons (Fz.lit rfl rfl (Uj (AllST.cons tI (AllST.cons tI (AllST.cons tI AllST.nil))))) FzL.nil) (xN N ([j,y,z]:List Int) I) tI rfl)) az))))))))
 try dsimp only at h
 refine sh fol (kAN n [(5,.i p),(39,.bool (!decide (p=0)))]) ?_
 refine ihB h (fun c23 h=>?_) (fun c23 h=>?_)
 ·refine sh fol (kBx p) ?_
  refine Goes.ret ?_
  obtain rfl:=si h
  exact(gw2 [.i p] (Ua tI))
 refine Goes.skip ?_
 refine sq ?_
 refine sh fol (kAN n [(42,vl (qd encI) f.Factors),(43,.i (f.Factors.length:Int)),(44,.i 0)]) ?_
 refine Goes.block ?_
 obtain⟨J,c,h⟩:=bnd h
 refine Goes.imp (Q:=fun x s'=>(x= .exit 0/\(.inl ())=J/\Sub s' (ofG 80 [],[]))\/(x= .ret/\ ∃a4,(.inr a4)=J/\kz ZT [.tmp 4] (.i a4) .ret s')) ?_ ?_
 ·refine Goes.sub (s':=(ofG 80 (kAN n [(42,vl (qd encI) f.Factors),(43,.i (f.Factors.length:Int)),(44,.i 0)]),[.cells [.i f.Half,vl (qd encI) f.Factors]])) (Sub.norm [] [some 0] rfl rfl (.keep (.same nI) (.kp (.keep (.same (qf (qd encI) _)) (.keep (.same nI) (.keep (.same nI) .nil))))) (.kb rfl (.same sn) .nil)) ?_
  refine Uc (fun M s=> ∃(d:Int),s=(ofG 80 (kAN n ((42,vl (qd encI) f.Factors)::(kBP (f.Factors.length:Int) d []))),[.cells [.i f.Half,vl (qd encI) f.Factors]])/\jE N n f M d=some J) ?_ (m:=N) ⟨_,rfl,c⟩
  rintro M s ⟨d,rfl,c⟩
  cases M with
  |zero=>simp only[jE]at c;cases c
  |succ M=>
   rw[jE]at c
   refine sh fol (kAN n ((42,vl (qd encI) f.Factors)::(kBP (f.Factors.length:Int) d [(45,.bool (decide (d<(f.Factors.length:Int))))]))) ?_
   refine sq ?_
   refine ihD c (fun c27 c=>?_) (fun c27 c=>?_)
   ·refine Goes.skip ?_
    refine sq (Goes.block ?_)
    obtain⟨e,q,c⟩:=bnd c
    refine sq (gr fol [1,2] (kAN n ((6,.i d)::(kBd e ((42,vl (qd encI) f.Factors)::(kBP (f.Factors.length:Int) d []))))) (ac (iv qdJ (qd encI) q) (ac (lv 0 qex (qd encI) q rfl) az)) ?_)
    refine sq ?_
    obtain⟨r,K,c⟩:=bnd c
    refine sq (gr fol [2] (kAN n ((6,.i d)::(kBd e ((8,.i r)::(42,vl (qd encI) f.Factors)::(kBP (f.Factors.length:Int) d []))))) (ac (cv (qgo N n e K)) az) ?_)
    refine sh fol (kAN n ((6,.i d)::(kBd e ((8,.i r)::(42,vl (qd encI) f.Factors)::(kBP (f.Factors.length:Int) d [(53,.bool (!decide (r=0)))]))))) ?_
    refine ihB c (fun c30 c=>?_) (fun c30 c=>?_)
    ·refine sh fol (kBx r) ?_
     refine Goes.ret ?_
     obtain rfl:=si c
     exact Or.inr (⟨rfl,_,rfl,(gw2 [.i r] (Ua tI))⟩)
    refine Goes.skip ?_
    refine sh fol (kAN n ((6,.i d)::(kBd e ((9,.bool false)::(42,vl (qd encI) f.Factors)::(kBP (f.Factors.length:Int) d []))))) ?_
    refine sq ?_
    refine sh fol (kAN n ((6,.i d)::(kBd e ((9,.bool false)::(42,vl (qd encI) f.Factors)::(kBP (f.Factors.length:Int) d [(56,.bool (decide (d>0)))]))))) ?_
    obtain⟨r32,g,c⟩:=bnd c
    refine Goes.imp (Q:=fun x s'=>(x= .normal/\ ∃L,L=r32/\Sub s' (ofG 80 (kAN n (kBd e ((9,.bool L)::(42,vl (qd encI) f.Factors)::(kBP (f.Factors.length:Int) d [])))),[.cells [.i f.Half,vl (qd encI) f.Factors]]))) ?_ ?_
    ·refine ihD g (fun c33 g=>?_) (fun c33 g=>?_)
     ·obtain⟨x34,t,g⟩:=bnd g
      obtain⟨r35,O,g⟩:=bnd g
      refine gr fol [4,5,7] (kAN n (kBd e ((9,.bool r35.2)::(42,vl (qd encI) f.Factors)::(kBP (f.Factors.length:Int) d [])))) (ac (iv qdJ (qd encI) t) (ac (lv 0 qex (qd encI) t rfl) (ac (cv (qer N x34 e O)) az))) ?_
      obtain rfl:=si g
      exact⟨rfl,_,rfl,(Sub.refl _)⟩
     refine Goes.skip ?_
     obtain rfl:=si g
     exact⟨rfl,_,rfl,(Sub.keep [0,3,7,9,42,43,44] rfl rfl)⟩
    rintro x s' ⟨rfl,L,rfl,hsub⟩
    refine Goes.sub hsub ?_
    refine sq ?_
    obtain⟨b41,b,c⟩:=bnd c
    refine Goes.cut (s':=(ofG 80 (kAN n ((42,vl (qd encI) f.Factors)::(kBP (f.Factors.length:Int) d [(78,.bool b41)]))),[.cells [.i f.Half,vl (qd encI) f.Factors]])) ?_ ?_
    ·rcases wyB b with⟨A,b⟩|⟨A,b⟩
     ·obtain rfl:=si b
      exact tr fol [1] (kAN n ((42,vl (qd encI) f.Factors)::(kBP (f.Factors.length:Int) d [(78,.bool true)]))) (ac (gw A) az)
     obtain⟨r37,u,b⟩:=bnd b
     rcases wyB b with⟨P,b⟩|⟨P,b⟩
     ·obtain rfl:=si b
      exact tr fol [1,3,5] (kAN n ((42,vl (qd encI) f.Factors)::(kBP (f.Factors.length:Int) d [(78,.bool true)]))) (ac (gw A) (ac (cv (qav N e u)) (ac (gw P) az)))
     obtain⟨r39,T,b⟩:=bnd b
     obtain⟨r40,U,b⟩:=bnd b
     obtain rfl:=si b
     exact tr fol [1,3,5,8,9] (kAN n ((42,vl (qd encI) f.Factors)::(kBP (f.Factors.length:Int) d [(78,.bool r40)]))) (ac (gw A) (ac (cv (qav N e u)) (ac (gw P) (ac (cv (qct N n T)) (ac (cv (qcZ N e r39 U)) az)))))
    refine ihB c (fun c43 c=>?_) (fun c43 c=>?_)
    ·refine sh fol [(4,.i 1)] ?_
     refine Goes.ret ?_
     obtain rfl:=si c
     exact Or.inr (⟨rfl,_,rfl,(gw2 [.i 1] (Ua tI))⟩)
    refine Goes.skip ?_
    refine gh fol (kAN n ((42,vl (qd encI) f.Factors)::(kBP (f.Factors.length:Int) (w64 (d+1)) []))) ?_
    exact⟨M,(ofG 80 (kAN n ((42,vl (qd encI) f.Factors)::(kBP (f.Factors.length:Int) (w64 (d+1)) []))),[.cells [.i f.Half,vl (qd encI) f.Factors]]),Nat.lt_succ_self _,(Sub.refl _),_,rfl,c⟩
   refine Goes.exit ?_
   obtain rfl:=si c
   exact Or.inl (⟨rfl,rfl,(Sub.norm [] [] rfl rfl .nil .nil)⟩)
 rintro x s' (⟨rfl,rfl,hsub⟩|⟨rfl,q44,rfl,hret⟩)
 ·try dsimp only at h
  refine Goes.sub hsub ?_
  refine sh fol [(4,.i 0)] ?_
  refine Goes.ret ?_
  obtain rfl:=si h
  exact(gw2 [.i 0] (Ua tI))
 try dsimp only at h
 obtain rfl:=si h
 exact hret
def zy (b:List Int):Nat->Int->Option Int
 |0,_=>none
 |K+1,a=>
  (if(w64 (a+1))<(b.length:Int)then
  (jk b a).bind fun c=>
  some (!c)
  else
  some false:Option Bool).bind fun d=>
  if d=true then
  zy b K (w64 (a+1))
  else
  some a
def zX (N:Nat):Nat->(List Int)->(List Int)->Option (List Int)
 |0,_,_=>none
 |K+1,e,a=>
  (zy a N 0).bind fun b=>
  if(w64 (b+1))>=(a.length:Int)then
  some e
  else
  (zw a b).bind fun c=>
  (app 8 e [w64 (b+1)]).bind fun d=>
  zX N K d c
def vX (N:Nat) (p:List Int):Option (List Int):=
 (qfs p).bind fun _=>
 (zX N N ([]:List Int) p).bind fun a=>
 some a
theorem qcD (N:Nat) (p:List Int) {res:List Int} (h:vX N p=some res):qb ZT (.fn 54) [vl encI p] [] (vl encI res) []:=by
 unfold vX at h
 refine Ub Tryz.func54 rfl rfl (m:=35) rfl (rs:=[.tmp 2]) rfl (l:=(kP p [])) rfl ?_
 refine sh fol (kP p []) ?_
 obtain⟨_,q,h⟩:=bnd h
 refine sq (gq fol [1] (kBf p) (kA p []) (ac (hs (.callH 111 [vl encI p] [] [] (.gslice 0 p.length 1) (kA p [])) (vv [] [some 0] (qjI p q) .nil rfl rfl (.new rfl rfl (.same fa) rfl .nil) (rc (.same (qf encI _)) rn) (.gslice rfl) rfl)) az) ?_)
 refine sh fol [(3,.gslice 0 p.length 1),(4,.nilslice)] ?_
 refine Goes.block ?_
 obtain⟨y,g4,h⟩:=bnd h
 refine Goes.imp (Q:=fun x s'=>(x= .ret/\ ∃z,z=y/\kz ZT [.tmp 2] (vl encI z) .ret s')) ?_ ?_
 ·refine Goes.sub (s':=(ofG 35 [(3,vl encI p),(4,.gslice 0 ([]:List Int).length 1)],(kAr []))) (Sub.norm [0] [none] rfl rfl (.keep (.frz (Fz.gs (E:=encI) rfl rfl (nl rfl)) (qf encI _)) (.keep .nil .nil)) (.fresh .nil)) ?_
  refine Uc (fun M s=> ∃(b:List Int) (c:List Int),s=(ofG 35 (kAY c b []),(kA b []))/\zX N M b c=some y) ?_ (m:=N) ⟨_,_,rfl,g4⟩
  rintro M s ⟨b,c,rfl,g4⟩
  cases M with
  |zero=>simp only[zX]at g4;cases g4
  |succ M=>
   rw[zX]at g4
   refine Goes.block ?_
   refine sh fol (kAY c b [(5,.i 0)]) ?_
   refine sq (Goes.block ?_)
   obtain⟨A,e,g4⟩:=bnd g4
   refine Goes.imp (Q:=fun x s'=>(x= .exit 2/\ ∃f,f=A/\Sub s' (ofG 35 (kAY c b (kA7 f)),(kA b [])))) ?_ ?_
   ·refine Uc (fun M s=> ∃(g:Int),s=(ofG 35 (kAY c b (kA7 g)),(kA b []))/\zy c M g=some A) ?_ (m:=N) ⟨_,rfl,e⟩
    rintro M s ⟨g,rfl,e⟩
    cases M with
    |zero=>simp only[zy]at e;cases e
    |succ M=>
     rw[zy]at e
     refine sq ?_
     refine sq ?_
     obtain⟨r,a,e⟩:=bnd e
     refine Goes.cut (s':=(ofG 35 (kAY c b [(5,.i g),(18,.bool r)]),(kA b []))) ?_ ?_
     ·rcases wyD a with⟨t,a⟩|⟨t,a⟩
      ·obtain⟨u,j,a⟩:=bnd a
       obtain rfl:=si a
       exact tr fol [5,8] (kAY c b [(5,.i g),(18,.bool (!u))]) (ac (gw t) (ac (cv (yC c g j)) az))
      obtain rfl:=si a
      exact tr fol [5] (kAY c b [(5,.i g),(18,.bool false)]) (ac (gw t) az)
     refine ihB e (fun v e=>?_) (fun v e=>?_)
     ·refine Goes.skip ?_
      refine Goes.block ?_
      refine gh fol (kAY c b (kA7 (w64 (g+1)))) ?_
      exact⟨M,(ofG 35 (kAY c b (kA7 (w64 (g+1)))),(kA b [])),Nat.lt_succ_self _,(Sub.refl _),_,rfl,e⟩
     refine Goes.exit ?_
     obtain rfl:=si e
     exact⟨rfl,_,rfl,(Sub.keep [3,4,5] rfl rfl)⟩
   rintro x s' ⟨rfl,f,rfl,hsub⟩
   refine Goes.sub hsub ?_
   refine sq ?_
   refine sh fol (kAY c b [(5,.i f),(25,.bool (decide ((w64 (f+1))>=(c.length:Int))))]) ?_
   refine ihD g4 (fun w g4=>?_) (fun w g4=>?_)
   ·refine sh fol [(2,.gslice 0 b.length 1)] ?_
    refine Goes.ret ?_
    obtain rfl:=si g4
    exact⟨rfl,_,rfl,(gw2 [.gslice 0 b.length 1] (Ux (Fz.gs (E:=encI) rfl rfl (nl rfl))))⟩
   refine Goes.skip ?_
   obtain⟨k,n,g4⟩:=bnd g4
   refine sq (gr fol [2] (kAY k b (kA7 f)) (ac (cv (yf c f n)) az) ?_)
   obtain⟨d,o,g4⟩:=bnd g4
   refine gq fol [4] [(3,vl encI k),(4,.gslice 2 d.length 1)] (.dead::(kAJ (w64 (f+1)) (kA d []))) (ac (hs (.run [0,1] (ja ZT [22,22] (.gslice 0 b.length 1) (.slice 1 0 1 1 1)) (kA b (kAJ (w64 (f+1)) [])) (.gslice 2 d.length 1) (.dead::(kAJ (w64 (f+1)) (kA d []))) true) (yF qo (E:=encI) rfl (qcB (E:=encI) (ys:=[w64 (f+1)]) rfl rfl rfl rfl) (qdX (E:=encI) (l:=b) rfl rfl rfl o rfl))) az) ?_
   exact⟨M,(ofG 35 (kAY k d []),(kA d [])),Nat.lt_succ_self _,(Sub.norm [] [some 2] rfl rfl (.keep (.same (qf encI _)) (.keep (.gslice rfl) .nil)) (.ks .nil)),_,_,rfl,g4⟩
 rintro x s' ⟨rfl,B,rfl,hret⟩
 obtain rfl:=si h
 exact hret
def bits_Mul (b:Int) (y:Int):Option (Int×Int):=
 (bits_Mul64 b y).bind fun a=>
 some (a.1,a.2)
theorem qk7 (d:Int) (y:Int) {res:Int×Int} (h:bits_Mul d y=some res):qb ZT (.fn 114) (kBN d y) [] (.tuple (kBN res.1 res.2)) []:=by
 unfold bits_Mul at h
 refine Ub Tryz.func114 rfl rfl (m:=30) rfl (rs:=[.tmp 4,.tmp 5]) rfl (l:=(kAC d y [])) rfl ?_
 refine sh fol (kAC d y []) ?_
 refine sq ?_
 refine Goes.ifB (b:=false) (by kernel_rfl) (fun c=>(by cases c)) (fun _=>?_)
 refine Goes.skip ?_
 obtain⟨a,e,h⟩:=bnd h
 refine sq (gr fol [2] [(8,.int .u64 a.1),(9,.int .u64 a.2)] (ac (cv (qbn d y e)) az) ?_)
 refine sh fol [(4,.int .u64 a.1),(5,.int .u64 a.2)] ?_
 refine Goes.ret ?_
 obtain rfl:=si h
 exact(gw2 (kBN a.1 a.2) (FzW.tuple (qh.cons (Ua tI) (qh.cons (Ua tI) qh.nil))))
def qbj (w:List Int):Option ((List Int)×Int):=
 if(w.length:Int)>200 then
 some ([],5)
 else
 some (w,0)
theorem qg6 (w:List Int) {res:(List Int)×Int} (h:qbj w=some res):qb ZT (.fn 58) [vl encI w] [] (.tuple (kBF res.1 res.2)) []:=by
 unfold qbj at h
 refine Ub Tryz.func58 rfl rfl (m:=8) rfl (rs:=[.tmp 2,.tmp 3]) rfl (l:=(kP w [])) rfl ?_
 refine sh fol (kP w []) ?_
 refine sq ?_
 refine sh fol (kP w [(6,.bool (decide ((w.length:Int)>200)))]) ?_
 refine ihD h (fun a h=>?_) (fun a h=>?_)
 ·refine sh fol [(2,.nilslice),(3,.i 5)] ?_
  refine Goes.ret ?_
  obtain rfl:=si h
  exact(gw2 [.nilslice,.i 5] (FzW.tuple (qh.cons (FzW.nilv (E:=encI)) (qh.cons (Ua tI) qh.nil))))
 refine Goes.skip ?_
 refine sh fol [(2,vl encI w),(3,.i 0)] ?_
 refine Goes.ret ?_
 obtain rfl:=si h
 exact(gw2 [vl encI w,.i 0] (FzW.tuple (qh.cons (Ua (ql encI _ (nl rfl))) (qh.cons (Ua tI) qh.nil))))
def za:Nat->(List Int)->Int->Int->Option (List Int)
 |0,_,_,_=>none
 |K+1,c,d,a=>
  if d<a then
  (idx c a).bind fun f=>
  (idx c d).bind fun g=>
  (put c d f).bind fun b=>
  (idx b a).bind fun h=>
  (put b a g).bind fun e=>
  za K e (w64 (d+1)) (w64 (a-1))
  else
  some c
def vG (N:Nat) (a:List Int):Option (List Int):=
 (za N a 0 (w64 ((a.length:Int)-1))).bind fun b=>
 some b
theorem qea (N:Nat) (g:List Int) {u:List Int} (h:vG N g=some u):qb ZT (.fn 113) [.gslice 0 g.length 1] (kA g []) (.tuple []) (kA u []):=by
 unfold vG at h
 refine Um Tryz.func113 rfl rfl (m:=28) rfl (rs:=[]) rfl (l:=(kA8 g [])) rfl ?_
 intro B hB
 refine Up ?_
 refine sh fol (kA8 g ((2,.i 0)::(kBZ (w64 ((g.length:Int)-1))))) ?_
 refine Goes.block ?_
 obtain⟨v,a,h⟩:=bnd h
 refine Goes.imp (Q:=fun x s'=>(x= .exit 0/\ ∃q,q=v/\Sub s' (ofG 28 [],(kA q [])))) ?_ ?_
 ·refine Uc (fun M s=> ∃(b:List Int) (d:Int) (e:Int),s=(ofG 28 (kA8 b ((2,.i d)::(kBZ e))),(kA b []))/\za M b d e=some v) ?_ (m:=N) ⟨_,_,_,rfl,a⟩
  rintro M s ⟨b,d,e,rfl,a⟩
  cases M with
  |zero=>simp only[za]at a;cases a
  |succ M=>
   rw[za]at a
   refine sq ?_
   refine sh fol (kA8 b [(2,.i d),(3,.i e),(9,.bool (decide (d<e)))]) ?_
   refine ihD a (fun w a=>?_) (fun w a=>?_)
   ·refine Goes.skip ?_
    refine sq (Goes.block ?_)
    obtain⟨r,j,a⟩:=bnd a
    obtain⟨t,f,a⟩:=bnd a
    obtain⟨o,k,a⟩:=bnd a
    obtain⟨z,p,a⟩:=bnd a
    obtain⟨c,n,a⟩:=bnd a
    refine gq fol [6,7,10,11,12,13,14,15] (kA8 b ((2,.i d)::(kBZ e))) (kA c []) (ac (hs (.done (.opt (qc ZT 22 (.gslice 0 b.length 1) (.i e))) (.ptr 0 ((e:Int).toNat*1+0))) (qaP qo j)) (ac (hs (.run [0] (qV ZT 3 (.ptr 0 ((e:Int).toNat*1+0))) (kA b []) (.i r) (kA b []) false) (yE ce3 (E:=encI) (l:=b) rfl rfl j (nl rfl) rfl)) (ac (hs (.done (.opt (qc ZT 22 (.gslice 0 b.length 1) (.i d))) (.ptr 0 ((d:Int).toNat*1+0))) (qaP qo f)) (ac (hs (.run [0] (qV ZT 3 (.ptr 0 ((d:Int).toNat*1+0))) (kA b []) (.i t) (kA b []) false) (yE ce3 (E:=encI) (l:=b) rfl rfl f (nl rfl) rfl)) (ac (hs (.done (.opt (qc ZT 22 (.gslice 0 b.length 1) (.i d))) (.ptr 0 ((d:Int).toNat*1+0))) (qaP qo f)) (ac (hs (.run [0] (qm ZT 3 (.ptr 0 ((d:Int).toNat*1+0)) (.i r)) (kA b []) .undef (kA o []) true) (zY (E:=encI) (l:=b) (y:=r) rfl (show _=some 1 by kernel_rfl) rfl f rfl rfl rfl rfl rfl k rfl)) (ac (hs (.done (.opt (qc ZT 22 (.gslice 0 b.length 1) (.i e))) (.ptr 0 ((e:Int).toNat*1+0))) (qaP qo j)) (ac (hs (.run [0] (qm ZT 3 (.ptr 0 ((e:Int).toNat*1+0)) (.i t)) (kA o []) .undef (kA c []) true) (zY (E:=encI) (l:=o) (y:=t) rfl (show _=some 1 by kernel_rfl) rfl p rfl rfl rfl rfl rfl n rfl)) az)))))))) ?_
    refine Goes.sub (show Sub (ofG 28 (kA8 b ((2,.i d)::(kBZ e))),(kA c [])) (ofG 28 (kA8 c ((2,.i d)::(kBZ e))),(kA c []))from(Sub.norm [] [some 0] (by rw[hB];rfl) rfl (.keep (.gsliceE rfl ((qH k).trans (qH n))) (.keep (.same nI) (.keep (.same nI) .nil))) (.ks .nil))) ?_
    refine gh fol (kA8 c ((2,.i (w64 (d+1)))::(kBZ (w64 (e-1))))) ?_
    exact⟨M,(ofG 28 (kA8 c ((2,.i (w64 (d+1)))::(kBZ (w64 (e-1))))),(kA c [])),Nat.lt_succ_self _,(Sub.refl _),_,_,_,rfl,a⟩
   refine Goes.exit ?_
   obtain rfl:=si a
   exact⟨rfl,_,rfl,(Sub.keep [] rfl rfl)⟩
 rintro x s' ⟨rfl,q,rfl,hsub⟩
 obtain rfl:=si h
 exact⟨_,hsub,(gh2 [] (qbQ.refl _ _))⟩
def yJ (N:Nat) (a:List Int):Option (List Int):=
 (j5 N a).bind fun b=>
 (vG N b).bind fun c=>
 ((if b.length=c.length then some ()else none:Option Unit)).bind fun d=>
 some c
theorem qf1 (N:Nat) (a:List Int) {g:List Int} (h:yJ N a=some g):qb ZT (.fn 55) [vl encI a] [] (.gslice 0 g.length 1) (kA g []):=by
 unfold yJ at h
 refine Um Tryz.func55 rfl rfl (m:=9) rfl (rs:=[.tmp 2]) rfl (l:=(kP a [])) rfl ?_
 intro B hB
 refine sh fol (kP a []) ?_
 obtain⟨b,d,h⟩:=bnd h
 refine sq (gq fol [1] (kBf b) (kA b []) (ac (hs (.callH 46 [vl encI a,.func (.func 47) [] []] [] [] (.gslice 0 b.length 1) (kA b [])) (vv [] [some 0] (qbW N a d) .nil rfl rfl (.new rfl rfl (.same fa) rfl .nil) (rc (.same (qf encI _)) (rc (.same (qy.func sn sn)) rn)) (.gslice rfl) rfl)) az) ?_)
 obtain⟨c,e,h⟩:=bnd h
 obtain⟨i,f,h⟩:=bnd h
 refine sq (gq fol [1] (kBf b) (kA c []) (ac (hs (.callH 113 [.gslice 0 b.length 1] (kA b []) [0] (.tuple []) (kA c [])) (vv [some 0] [some 0] (qea N b e) (.ks .nil) rfl rfl (.back rfl rfl (.same fa) rfl .nil) (rc (.gslice rfl) rn) (.same (qy.tuple sn)) rfl)) az) ?_)
 refine Goes.sub (show Sub (ofG 9 (kBf b),(kA c [])) (ofG 9 (kBf c),(kA c []))from(Sub.norm [] [some 0] (by rw[hB];rfl) rfl (.keep (.gsliceE rfl (qh2 f)) .nil) (.ks .nil))) ?_
 refine sh fol [(2,.gslice 0 c.length 1)] ?_
 refine Goes.ret ?_
 obtain rfl:=si h
 exact(gh2 [.gslice 0 c.length 1] (qbQ.refl _ _))
def zt:Nat->(List Int)->Int->Option (List Int)
 |0,_,_=>none
 |K+1,a,c=>
  if c<(a.length:Int)then
  (at' a c).bind fun b=>
  (some (qed a b (a.take b))).bind fun d=>
  zt K d (w64 (c+((Nat.min (a.take b).length (a.length-b):Nat):Int)))
  else
  some a
def vS (N:Nat) (a:List Int) (b:Int):Option (List Int):=
 ((if b<0 then
 none
 else
 some ():Option Unit)).bind fun _=>
 (bits_Mul (IntKind.wrap .u64 (a.length:Int)) (IntKind.wrap .u64 b)).bind fun d=>
 (if d.1>0 then
 some true
 else
 some (decide (d.2>9223372036854775807)):Option Bool).bind fun g=>
 ((if g=true then
 none
 else
 some ():Option Unit)).bind fun _=>
 (mk 8 (w64 d.2) 0).bind fun c=>
 (some (cpy c a)).bind fun e=>
 (zt N e ((Nat.min a.length c.length:Nat):Int)).bind fun f=>
 some f
theorem qeh (N:Nat) (b:List Int) (j:Int) {A:List Int} (h:vS N b j=some A):qb ZT (.fn 56) (kBF b j) [] (.slice 0 0 A.length A.length 1) (kA A []):=by
 unfold vS at h
 refine Um Tryz.func56 rfl rfl (m:=48) rfl (rs:=[.tmp 4]) rfl (l:=(kP b (kB7 j))) rfl ?_
 intro B hB
 refine sh fol (kP b (kB7 j)) ?_
 refine sq ?_
 refine sh fol (kP b ((1,.i j)::(kB5 (decide (j<0))))) ?_
 obtain⟨F,g2,h⟩:=bnd h
 refine Goes.imp (Q:=fun x s'=>(x= .normal/\()=F/\Sub s' (ofG 48 (kP b (kB7 j)),[]))) ?_ ?_
 ·refine ihD g2 (fun G g2=>?_) (fun G g2=>?_)
  ·cases g2
  refine Goes.skip ?_
  obtain rfl:=si g2
  exact⟨rfl,rfl,(Sub.keep [0,1] rfl rfl)⟩
 rintro x s' ⟨rfl,rfl,hsub⟩
 refine Goes.sub hsub ?_
 obtain⟨t,v,h⟩:=bnd h
 refine sq (gr fol [5] (kP b ((5,.int .u64 t.1)::(kAU t.2 []))) (ac (cv (qk7 (IntKind.wrap .u64 (b.length:Int)) (IntKind.wrap .u64 j) v)) az) ?_)
 refine sq ?_
 refine sq ?_
 obtain⟨H,k,h⟩:=bnd h
 refine Goes.cut (s':=(ofG 48 (kP b (kAU t.2 [(26,.bool H)])),[])) ?_ ?_
 ·rcases wyD k with⟨C,k⟩|⟨C,k⟩
  ·obtain rfl:=si k
   exact tr fol [2] (kP b (kAU t.2 [(26,.bool true)])) (ac (gw C) az)
  obtain rfl:=si k
  exact tr fol [2] (kP b (kAU t.2 [(26,.bool (decide (t.2>9223372036854775807)))])) (ac (gw C) az)
 obtain⟨I,w,h⟩:=bnd h
 refine Goes.imp (Q:=fun x s'=>(x= .normal/\()=I/\Sub s' (ofG 48 (kP b (kAU t.2 [])),[]))) ?_ ?_
 ·refine ihB w (fun J w=>?_) (fun J w=>?_)
  ·cases w
  refine Goes.skip ?_
  obtain rfl:=si w
  exact⟨rfl,rfl,(Sub.keep [0,6] rfl rfl)⟩
 rintro x s' ⟨rfl,rfl,hsub⟩
 refine Goes.sub hsub ?_
 obtain⟨c,u,h⟩:=bnd h
 refine sq (gq fol [2] (kP b (kAj c [])) (kA c []) (ac (hs (.run [] (qR ZT 22 (.i (w64 t.2)) (.i (w64 t.2))) [] (.slice 0 0 c.length c.length 1) (kA c []) false) (xW qo (E:=encI) (z:=0) rfl (by kernel_rfl) u rfl)) az) ?_)
 obtain⟨p,q,h⟩:=bnd h
 refine sq (gq fol [2] (kAj c [(8,.i ((Nat.min b.length c.length:Nat):Int))]) (kA p []) (ac (hs (.run [0] (qcy ZT [22,22] (.slice 0 0 c.length c.length 1) (vl encI b)) (kA c []) (.i ((Nat.min b.length c.length:Nat):Int)) (kA p []) true) (qrN qo (E:=encI) (l:=c) rfl (qpL (E:=encI) rfl _) (.inl rfl) rfl rfl q rfl)) az) ?_)
 refine Goes.sub (show Sub (ofG 48 (kAj c [(8,.i ((Nat.min b.length c.length:Nat):Int))]),(kA p [])) (ofG 48 (kAj p [(8,.i ((Nat.min b.length c.length:Nat):Int))]),(kA p []))from(Sub.norm [] [some 0] (by rw[hB];rfl) rfl (.keep (.sliceE rfl (qnq q)) (.keep (.same nI) .nil)) (.ks .nil))) ?_
 refine sq (Goes.block ?_)
 obtain⟨y,d,h⟩:=bnd h
 refine Goes.imp (Q:=fun x s'=>(x= .exit 0/\ ∃n,n=y/\Sub s' (ofG 48 (kAj n []),(kA n [])))) ?_ ?_
 ·refine Uc (fun M s=> ∃(a:List Int) (f:Int),s=(ofG 48 (kAj a [(8,.i f)]),(kA a []))/\zt M a f=some y) ?_ (m:=N) ⟨_,_,rfl,d⟩
  rintro M s ⟨a,f,rfl,d⟩
  cases M with
  |zero=>simp only[zt]at d;cases d
  |succ M=>
   rw[zt]at d
   refine sq ?_
   refine sh fol (kAj a [(8,.i f),(37,.bool (decide (f<(a.length:Int))))]) ?_
   refine ihD d (fun D d=>?_) (fun D d=>?_)
   ·refine Goes.skip ?_
    refine Goes.block ?_
    obtain⟨e,g,d⟩:=bnd d
    obtain⟨o,r,d⟩:=bnd d
    refine gq fol [3,6,7] (kAj a [(8,.i (w64 (f+((Nat.min (a.take e).length (a.length-e):Nat):Int))))]) (kA o []) (ac (hs (.done (.opt (zi ZT 22 (.slice 0 0 a.length a.length 1) (some (.i f)) none none)) (qgN 0 1 a.length e)) (qo8 qo g)) (ac (hs (.done (.opt (zi ZT 22 (.slice 0 0 a.length a.length 1) none (some (.i f)) none)) (.slice 0 0 e a.length 1)) (qrV qo g)) (ac (hs (.run [0,0] (qcy ZT [22,22] (qgN 0 1 a.length e) (.slice 0 0 e a.length 1)) (kA a []) (.i ((Nat.min (a.take e).length (a.length-e):Nat):Int)) (kA o []) true) (qoF qo (E:=encI) rfl (l:=a) (qq7 (E:=encI) rfl rfl rfl (qoi g)) (qoi g) rfl rfl r rfl)) az))) ?_
    exact⟨M,(ofG 48 (kAj o [(8,.i (w64 (f+((Nat.min (a.take e).length (a.length-e):Nat):Int))))]),(kA o [])),Nat.lt_succ_self _,((show Sub (ofG 48 (kAj a [(8,.i (w64 (f+((Nat.min (a.take e).length (a.length-e):Nat):Int))))]),(kA o [])) (ofG 48 (kAj o [(8,.i (w64 (f+((Nat.min (a.take e).length (a.length-e):Nat):Int))))]),(kA o []))from(Sub.norm [] [some 0] (by rw[hB];rfl) rfl (.keep (.sliceE rfl (qn2 (qoi g) r)) (.keep (.same nI) .nil)) (.ks .nil))).trans (Sub.refl _)),_,_,rfl,d⟩
   refine Goes.exit ?_
   obtain rfl:=si d
   exact⟨rfl,_,rfl,(Sub.keep [7] rfl rfl)⟩
 rintro x s' ⟨rfl,n,rfl,hsub⟩
 refine Goes.sub hsub ?_
 refine sh fol (kBT n []) ?_
 refine Goes.ret ?_
 obtain rfl:=si h
 exact(gh2 [.slice 0 0 n.length n.length 1] (qbQ.refl _ _))
def yP (N:Nat) (f:qb5):Nat->(List Int)->Int->Option (List Int)
 |0,_,_=>none
 |K+1,b,a=>
  if a<(f.Factors.length:Int)then
  (idx f.Factors a).bind fun c=>
  (vX N c).bind fun d=>
  (app 8 b d).bind fun e=>
  yP N f K e (w64 (a+1))
  else
  some b
def qaR (N:Nat) (n:Int) (f:qb5):Option ((List Int)×Int):=
 (xZ N n f).bind fun e=>
 if(!decide (e=0))=true then
 some ([],e)
 else
 (qaN N n).bind fun h=>
 (vX N h).bind fun g=>
 ((if f.Half<0 then
 (yJ N g).bind fun i=>
 some i
 else
 some g:Option (List Int))).bind fun j=>
 (qbF f.Half).bind fun c=>
 (vS N j c).bind fun a=>
 (if a.length<=1000000000 then some ()else none:Option Unit).bind fun k=>
 (yP N f N a 0).bind fun d=>
 (qbj d).bind fun b=>
 some (b.1,b.2)
theorem qiw (N:Nat) (n:Int) (f:qb5) {res:(List Int)×Int} (h:qaR N n f=some res):qb ZT (.fn 19) [.i n,.agg [.i f.Half,vl (qd encI) f.Factors]] [] (.tuple (kBF res.1 res.2)) []:=by
 unfold qaR at h
 refine Ub Tryz.func19 rfl rfl (m:=46) rfl (rs:=[.tmp 4,.tmp 5]) rfl (l:=[(0,.i n),(1,.agg [.i f.Half,vl (qd encI) f.Factors])]) rfl ?_
 refine sg fol (kAN n []) [.cells [.i f.Half,vl (qd encI) f.Factors]] ?_
 refine sq ?_
 obtain⟨w,y,h⟩:=bnd h
 refine sq (gr fol [2] (kAN n [(6,.i w)]) (ac (cv (qgj N n f y)) az) ?_)
 refine sh fol (kAN n ((6,.i w)::(kBy (!decide (w=0))))) ?_
 refine ihB h (fun L h=>?_) (fun L h=>?_)
 ·refine sh fol ((4,.nilslice)::(kA7 w)) ?_
  refine Goes.ret ?_
  obtain rfl:=si h
  exact(gw2 [.nilslice,.i w] (FzW.tuple (qh.cons (FzW.nilv (E:=encI)) (qh.cons (Ua tI) qh.nil))))
 refine Goes.skip ?_
 obtain⟨O,z,h⟩:=bnd h
 obtain⟨H,A,h⟩:=bnd h
 refine sq (gr fol [1,2] ((3,.ptr 0 0)::(kBd H [])) (ac (cv (qct N n z)) (ac (cv (qcD N O A)) az)) ?_)
 refine sq ?_
 refine sh fol ((3,.ptr 0 0)::(kBd H [(22,.bool (decide (f.Half<0)))])) ?_
 obtain⟨P,o,h⟩:=bnd h
 refine Goes.imp (Q:=fun x s'=>(x= .normal/\ ∃B,B=P/\Sub s' (ofG 46 ((3,.ptr 0 0)::(kBd B [])),[.cells [.i f.Half,vl (qd encI) f.Factors]]))) ?_ ?_
 ·refine ihD o (fun T o=>?_) (fun T o=>?_)
  ·obtain⟨I,C,o⟩:=bnd o
   refine gq fol [1] [(3,.ptr 0 0),(7,.gslice 1 I.length 1)] (.cells [.i f.Half,vl (qd encI) f.Factors]::(kA I [])) (ac (hs (.callH 55 [vl encI H] [.cells [.i f.Half,vl (qd encI) f.Factors]] [] (.gslice 1 I.length 1) (.cells [.i f.Half,vl (qd encI) f.Factors]::(kA I []))) (vv [] [none,some 0] (qf1 N H C) .nil rfl rfl (.old rfl rfl (.new rfl rfl (.same fa) rfl .nil)) (rc (.same (qf encI _)) rn) (.gslice rfl) rfl)) az) ?_
   obtain rfl:=si o
   exact⟨rfl,_,rfl,(Sub.norm [1] [some 0] rfl rfl (.kp (.keep (.frz (Fz.gs (E:=encI) rfl rfl (nl rfl)) (qf encI _)) .nil)) (.kb rfl (.same sn) .nil))⟩
  refine Goes.skip ?_
  obtain rfl:=si o
  exact⟨rfl,_,rfl,(Sub.keep [3,7] rfl rfl)⟩
 rintro x s' ⟨rfl,B,rfl,hsub⟩
 refine Goes.sub hsub ?_
 obtain⟨D,p,h⟩:=bnd h
 obtain⟨b,q,h⟩:=bnd h
 refine sq (gq fol [3,4] [(3,.ptr 0 0),(8,.slice 1 0 b.length b.length 1)] (.cells [.i f.Half,vl (qd encI) f.Factors]::(kA b [])) (ac (cv (xV f.Half p)) (ac (hs (.callH 56 (kBF B D) [.cells [.i f.Half,vl (qd encI) f.Factors]] [] (.slice 1 0 b.length b.length 1) (.cells [.i f.Half,vl (qd encI) f.Factors]::(kA b []))) (vv [] [none,some 0] (qeh N B D q) .nil rfl rfl (.old rfl rfl (.new rfl rfl (.same fa) rfl .nil)) (rc (.same (qf encI _)) (rc (.same nI) rn)) (.slice rfl) rfl)) az)) ?_)
 refine sq ?_
 refine sh fol [(8,.slice 1 0 b.length b.length 1),(31,vl (qd encI) f.Factors),(32,.i (f.Factors.length:Int)),(33,.i 0)] ?_
 refine Goes.block ?_
 obtain⟨U,r,h⟩:=bnd h
 obtain⟨F,a,h⟩:=bnd h
 refine Goes.imp (Q:=fun x s'=>(x= .exit 0/\ ∃c,c=F/\Sub s' (ofG 46 [(8,.oslice 0 c.length 1)],(kA c [])))) ?_ ?_
 ·refine Goes.sub (s':=(ofG 46 [(8,.oslice 0 b.length 1),(31,vl (qd encI) f.Factors),(32,.i (f.Factors.length:Int)),(33,.i 0)],(kA b []))) (Sub.norm [9999] [some 1] rfl rfl (.keep (zQ.ownL rfl rfl (qrh encI b) (qqE r) rfl rfl) (.keep (.same (qf (qd encI) _)) (.keep (.same nI) (.keep (.same nI) .nil)))) (.ks .nil)) ?_
  refine Uc (fun M s=> ∃(e:List Int) (g:Int),s=(ofG 46 [(8,.oslice 0 e.length 1),(31,vl (qd encI) f.Factors),(32,.i (f.Factors.length:Int)),(33,.i g)],(kA e []))/\yP N f M e g=some F) ?_ (m:=N) ⟨_,_,rfl,a⟩
  rintro M s ⟨e,g,rfl,a⟩
  cases M with
  |zero=>simp only[yP]at a;cases a
  |succ M=>
   rw[yP]at a
   refine sh fol [(8,.oslice 0 e.length 1),(31,vl (qd encI) f.Factors),(32,.i (f.Factors.length:Int)),(33,.i g),(34,.bool (decide (g<(f.Factors.length:Int))))] ?_
   refine sq ?_
   refine ihD a (fun J a=>?_) (fun J a=>?_)
   ·refine Goes.skip ?_
    refine sq (Goes.block ?_)
    obtain⟨G,k,a⟩:=bnd a
    refine sq (gr fol [0,1] [(8,.oslice 0 e.length 1),(10,vl encI G),(31,vl (qd encI) f.Factors),(32,.i (f.Factors.length:Int)),(33,.i g)] (ac (iv qdJ (qd encI) k) (ac (lv 0 qex (qd encI) k rfl) az)) ?_)
    obtain⟨K,t,a⟩:=bnd a
    obtain⟨j,u,a⟩:=bnd a
    refine gq fol [2,3] [(8,.oslice 1 j.length 1),(31,vl (qd encI) f.Factors),(32,.i (f.Factors.length:Int)),(33,.i g)] (.dead::(kA j [])) (ac (cv (qcD N G t)) (ac (hs (.run [0] (ja ZT [22,22] (.oslice 0 e.length 1) (vl encI K)) (kA e []) (.oslice 1 j.length 1) (.dead::(kA j [])) true) (yF qo (E:=encI) rfl (qpL (E:=encI) rfl _) (qm0 (E:=encI) (l:=e) rfl rfl rfl u rfl))) az)) ?_
    refine gh fol [(8,.oslice 1 j.length 1),(31,vl (qd encI) f.Factors),(32,.i (f.Factors.length:Int)),(33,.i (w64 (g+1)))] ?_
    exact⟨M,(ofG 46 [(8,.oslice 0 j.length 1),(31,vl (qd encI) f.Factors),(32,.i (f.Factors.length:Int)),(33,.i (w64 (g+1)))],(kA j [])),Nat.lt_succ_self _,(Sub.norm [] [some 1] rfl rfl (.keep (.oslice rfl) (.keep (.same (qf (qd encI) _)) (.keep (.same nI) (.keep (.same nI) .nil)))) (.ks .nil)),_,_,rfl,a⟩
   refine Goes.exit ?_
   obtain rfl:=si a
   exact⟨rfl,_,rfl,(Sub.keep [8] rfl rfl)⟩
 rintro x s' ⟨rfl,c,rfl,hsub⟩
 refine Goes.sub hsub ?_
 obtain⟨d,v,h⟩:=bnd h
 refine sq (gq fol [1] ((4,vl encI d.1)::(kA7 d.2)) (kAn c []) (ac (hs (.callF 58 [.oslice 0 c.length 1] (kA c []) [0] [vl encI c] (.tuple (kBF d.1 d.2))) (qa6 (FzL.cons (Fz.os (E:=encI) rfl rfl (nl rfl)) FzL.nil) (qg6 c v) (Still.tuple (AllST.cons (ql encI _ (nl rfl)) (AllST.cons tI AllST.nil))))) az) ?_)
 refine Goes.sub (show Sub (ofG 46 ((4,vl encI d.1)::(kA7 d.2)),(kAn c [])) (ofG 46 ((4,vl encI d.1)::(kA7 d.2)),[])from(Sub.norm [] [] rfl rfl (.keep (.same (qf encI _)) (.keep (.same nI) .nil)) .nil)) ?_
 refine Goes.ret ?_
 obtain rfl:=si h
 exact(gw2 (kBF d.1 d.2) (FzW.tuple (qh.cons (Ua (ql encI _ (nl rfl))) (qh.cons (Ua tI) qh.nil))))
def xn (n:Int):Option Int:=
 (yT n 1 8).bind fun a=>
 some a
theorem qel (n:Int) {res:Int} (h:xn n=some res):qb ZT (.fn 59) [.i n] [] (.i res) []:=by
 unfold xn at h
 refine Ub Tryz.func59 rfl rfl (m:=5) rfl (rs:=[.tmp 2]) rfl (l:=(kBi n)) rfl ?_
 refine sh fol (kBi n) ?_
 obtain⟨b,a,h⟩:=bnd h
 refine sq (gr fol [1] (kBR b) (ac (cv (qcb n 1 8 a)) az) ?_)
 refine Goes.ret ?_
 obtain rfl:=si h
 exact(gw2 [.i b] (Ua tI))
end Go.Av
