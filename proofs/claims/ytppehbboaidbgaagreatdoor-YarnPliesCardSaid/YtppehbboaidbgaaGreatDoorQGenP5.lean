/-
  Walks of functions: what each computes, as a plain function.
-/
import Derived.Test.YtppehbboaidbgaaGreatDoorQGenP4
noncomputable section
namespace Go.Av
open Go.Proofs Go.RowKit
set_option linter.unusedSectionVars false
set_option linter.unusedVariables false
set_option linter.unusedSimpArgs false
set_option maxRecDepth 100000
def qdn (N:Nat) (a:Str) (b:Str):Option Str:=
 (jX N a).bind fun c=>
 (jX N b).bind fun d=>
 (if c.2.2=true then
 some d.2.2
 else
 some false:Option Bool).bind fun j=>
 if j=true then
 (qdt N (w64 (c.1*d.1)) (w64 (c.2.1*d.2.1))).bind fun k=>
 some k
 else
 (jy N a).bind fun h=>
 (jy N b).bind fun i=>
 (yE N h.1 i.1).bind fun e=>
 (yE N h.2 i.2).bind fun f=>
 (jU N e f).bind fun g=>
 some g
theorem qjB (N:Nat) (a:Str) (b:Str) {res:Str} (h:qdn N a b=some res):qb ZT (.fn 24) (kBB a b) [] (.str res) []:=by
 unfold qdn at h;refine Ub Tryz.func24 rfl rfl (m:=55) rfl (rs:=[.tmp 4]) rfl (l:=(kT a b [])) rfl ?_;refine sh fol (kT a b []) ?_;obtain⟨d,n,h⟩:=bnd h;refine sq (gr fol [1] (kT a b (kBP d.1 d.2.1 [(7,.bool d.2.2)])) (ac (cv (qbp N a n)) az) ?_);obtain⟨e,o,h⟩:=bnd h;refine sq (gr fol [1] (kT a b (kBP d.1 d.2.1 ((7,.bool d.2.2)::(kA0 e.1 e.2.1 (kBh e.2.2))))) (ac (cv (qbp N b o)) az) ?_);refine sq ?_;refine sq ?_;obtain⟨y,c,h⟩:=bnd h;refine Ue (s':=(ofG 55 (kT a b (kBP d.1 d.2.1 (kA0 e.1 e.2.1 [(30,.bool y)]))),[])) ?_ ?_
 ·rcases wyB c with⟨t,c⟩|⟨t,c⟩
  ·obtain rfl:=si c;exact tr fol [1] (kT a b (kBP d.1 d.2.1 (kA0 e.1 e.2.1 [(30,.bool e.2.2)]))) (ac (gw t) az)
  obtain rfl:=si c;exact tr fol [1] (kT a b (kBP d.1 d.2.1 (kA0 e.1 e.2.1 [(30,.bool false)]))) (ac (gw t) az)
 refine ihB h (fun z h=>?_) (fun z h=>?_)
 ·obtain⟨x,p,h⟩:=bnd h;refine sq (gr fol [6] (kBY x) (ac (cv (qg5 N (w64 (d.1*e.1)) (w64 (d.2.1*e.2.1)) p)) az) ?_);refine Goes.ret ?_;obtain rfl:=si h;exact(gw2 [.str x] (Ua tS))
 refine Goes.skip ?_;obtain⟨f,q,h⟩:=bnd h;refine sq (gq fol [1] [(1,.str b),(11,.ptr 0 0),(12,.ptr 1 0)] (kN f.1.neg f.1.w f.2.neg f.2.w []) (ac (cv (y7 N a q)) az) ?_);obtain⟨k,r,h⟩:=bnd h;refine sq (gq fol [1] [(11,.ptr 0 0),(12,.ptr 1 0),(13,.ptr 2 0),(14,.ptr 3 0)] (kN f.1.neg f.1.w f.2.neg f.2.w (kN k.1.neg k.1.w k.2.neg k.2.w [])) (ac (cv (y7 N b r)) az) ?_);obtain⟨u,g,h⟩:=bnd h;obtain⟨v,i,h⟩:=bnd h;obtain⟨s,j,h⟩:=bnd h;refine sq (gr fol [2,5,6] (kBY s) (ac (cv (qao N f.1 k.1 g)) (ac (cv (qao N f.2 k.2 i)) (ac (cv (xX N u v j)) az))) ?_);refine Goes.ret ?_;obtain rfl:=si h;exact(gw2 [.str s] (Ua tS))
def yX (N:Nat) (a:Str):Option Str:=
 (jy N a).bind fun b=>
 (jU N b.2 b.1).bind fun c=>
 some c
theorem qfc (N:Nat) (a:Str) {res:Str} (h:yX N a=some res):qb ZT (.fn 81) [.str a] [] (.str res) []:=by
 unfold yX at h;refine Ub Tryz.func81 rfl rfl (m:=13) rfl (rs:=[.tmp 2]) rfl (l:=(kAM a)) rfl ?_;refine sh fol (kAM a) ?_;obtain⟨b,c,h⟩:=bnd h;refine sq (gq fol [1] ((3,.ptr 0 0)::(kAT [])) (kN b.1.neg b.1.w b.2.neg b.2.w []) (ac (cv (y7 N a c)) az) ?_);obtain⟨e,d,h⟩:=bnd h;refine sq (gr fol [2] [(2,.str e)] (ac (cv (xX N b.2 b.1 d)) az) ?_);refine Goes.ret ?_;obtain rfl:=si h;exact(gw2 [.str e] (Ua tS))
def qds (N:Nat) (a:Str) (b:Str):Option Str:=
 (yX N b).bind fun c=>
 (qdn N a c).bind fun d=>
 some d
theorem qjH (N:Nat) (a:Str) (b:Str) {res:Str} (h:qds N a b=some res):qb ZT (.fn 26) (kBB a b) [] (.str res) []:=by
 unfold qds at h;refine Ub Tryz.func26 rfl rfl (m:=9) rfl (rs:=[.tmp 4]) rfl (l:=(kT a b [])) rfl ?_;refine sh fol (kT a b []) ?_;obtain⟨f,c,h⟩:=bnd h;obtain⟨e,d,h⟩:=bnd h;refine sq (gr fol [2,3] (kBY e) (ac (cv (qfc N b c)) (ac (cv (qjB N a f d)) az)) ?_);refine Goes.ret ?_;obtain rfl:=si h;exact(gw2 [.str e] (Ua tS))
def qV (N:Nat) (y:ql) (e:Str):Nat->Int->Int->Option Int
 |0,_,_=>none
 |K+1,f,a=>
  if a<(y.Strength.length:Int)then
  (((idx y.Strength a).bind fun b=>
  (qa2 N b.X e).bind fun c=>
  if c<=0 then
  some a
  else
  some f:Option Int)).bind fun d=>
  qV N y e K d (w64 (a+1))
  else
  some f
def qam (N:Nat) (y:ql):Option (Str×Int):=
 (vJ y.Twist).bind fun c=>
 ((if c<0 then
 (qck N [48] y.Twist).bind fun d=>
 some d
 else
 some y.Twist:Option Str)).bind fun e=>
 (qV N y e N (-1) 0).bind fun b=>
 if b<0 then
 some ([],7)
 else
 (idx y.Strength b).bind fun a=>
 some (a.Y,0)
theorem qgo (N:Nat) (y:ql) {res:Str×Int} (h:qam N y=some res):qb ZT (.fn 61) [.agg (kAn y.Name y.Density y.Twist y.Strength y.Dye)] [] (.tuple [.str res.1,.i res.2]) []:=by
 unfold qam at h;refine Ub Tryz.func61 rfl rfl (m:=39) rfl (rs:=[.tmp 2,.tmp 3]) rfl (l:=(kAE y.Name y.Density y.Twist y.Strength y.Dye [])) rfl ?_;refine sg fol (kV []) (kA y.Name y.Density y.Twist y.Strength y.Dye []) ?_;refine sh fol (kV (kBY y.Twist)) ?_;refine sq ?_;obtain⟨z,g,h⟩:=bnd h;refine sq (gr fol [1] (kV [(4,.str y.Twist),(11,.bool (decide (z<0)))]) (ac (cv (yO y.Twist g)) az) ?_);obtain⟨A,g3,h⟩:=bnd h;refine Goes.imp (Q:=fun x s'=>(x= .normal/\ ∃a,a=A/\Sub s' (ofG 39 (kV (kBY a)),(kA y.Name y.Density y.Twist y.Strength y.Dye [])))) ?_ ?_
 ·refine ihD g3 (fun B g3=>?_) (fun B g3=>?_)
  ·obtain⟨C,j,g3⟩:=bnd g3;refine gr fol [1] (kV (kBY C)) (ac (cv (qfT N [48] y.Twist j)) az) ?_;obtain rfl:=si g3;exact⟨rfl,_,rfl,(Sub.refl _)⟩
  refine Goes.skip ?_;obtain rfl:=si g3;exact⟨rfl,_,rfl,(Sub.keep [1,4] rfl rfl)⟩
 rintro x s' ⟨rfl,a,rfl,hsub⟩;refine Goes.sub hsub ?_;refine sh fol (kV [(4,.str a),(5,.i (-1))]) ?_;refine sq ?_;refine sh fol (kV [(4,.str a),(5,.i (-1)),(6,.i 0)]) ?_;refine Goes.block ?_;obtain⟨w,g9,h⟩:=bnd h;refine Goes.imp (Q:=fun x s'=>(x= .exit 0/\ ∃k,k=w/\Sub s' (ofG 39 (kV (kA8 k)),(kA y.Name y.Density y.Twist y.Strength y.Dye [])))) ?_ ?_
 ·refine Ud (fun M s=> ∃(n:Int) (b:Int),s=(ofG 39 (kV ((4,.str a)::(kBP n b []))),(kA y.Name y.Density y.Twist y.Strength y.Dye []))/\qV N y a M n b=some w) ?_ (m:=N) ⟨_,_,rfl,g9⟩;rintro M s ⟨n,b,rfl,g9⟩
  cases M with
  |zero=>simp only[qV]at g9;cases g9
  |succ M=>
   rw[qV]at g9;refine sq ?_;refine sh fol (kV ((4,.str a)::(kBP n b [(18,.bool (decide (b<(y.Strength.length:Int))))]))) ?_;refine ihD g9 (fun p g9=>?_) (fun p g9=>?_)
   ·refine Goes.skip ?_;refine sq ?_;obtain⟨q,g12,g9⟩:=bnd g9;refine Goes.imp (Q:=fun x s'=>(x= .normal/\ ∃c,c=q/\Sub s' (ofG 39 (kV ((4,.str a)::(kBP c b []))),(kA y.Name y.Density y.Twist y.Strength y.Dye [])))) ?_ ?_
    ·refine Goes.block ?_;obtain⟨r,d,g12⟩:=bnd g12;obtain⟨t,f,g12⟩:=bnd g12;refine sq (gr fol [3,5,7] (kV ((4,.str a)::(kBP n b [(29,.bool (decide (t<=0)))]))) (ac (iv qem qg d) (ac (lv 0 qf3 qg d rfl) (ac (cv (qdy N r.X a f)) az))) ?_);refine ihD g12 (fun u g12=>?_) (fun u g12=>?_)
     ·refine gh fol (kV [(4,.str a),(5,.i b),(6,.i b)]) ?_;obtain rfl:=si g12;exact⟨rfl,_,rfl,(Sub.refl _)⟩
     refine Goes.skip ?_;obtain rfl:=si g12;exact⟨rfl,_,rfl,(Sub.keep [1,4,5,6] rfl rfl)⟩
    rintro x s' ⟨rfl,c,rfl,hsub⟩;refine Goes.sub hsub ?_;refine gh fol (kV ((4,.str a)::(kBP c (w64 (b+1)) []))) ?_;exact⟨M,(ofG 39 (kV ((4,.str a)::(kBP c (w64 (b+1)) []))),(kA y.Name y.Density y.Twist y.Strength y.Dye [])),Nat.lt_succ_self _,(Sub.refl _),_,_,rfl,g9⟩
   refine Goes.exit ?_;obtain rfl:=si g9;exact⟨rfl,_,rfl,(Sub.keep [1,5] rfl rfl)⟩
 rintro x s' ⟨rfl,k,rfl,hsub⟩;refine Goes.sub hsub ?_;refine sq ?_;refine sh fol (kV [(5,.i k),(32,.bool (decide (k<0)))]) ?_;refine ihD h (fun v h=>?_) (fun v h=>?_)
 ·refine sh fol [(2,.str []),(3,.i 7)] ?_;refine Goes.ret ?_;obtain rfl:=si h;exact(gw2 [.str [],.i 7] (FzW.tuple (qc.cons (Ua tS) (qc.cons (Ua tI) qc.nil))))
 refine Goes.skip ?_;obtain⟨o,e,h⟩:=bnd h;refine sq (gr fol [3,5] [(2,.str o.Y),(3,.i 0)] (ac (iv qem qg e) (ac (lv 1 qf3 qg e rfl) az)) ?_);refine Goes.ret ?_;obtain rfl:=si h;exact(gw2 [.str o.Y,.i 0] (FzW.tuple (qc.cons (Ua tS) (qc.cons (Ua tI) qc.nil))))
def qbI (N:Nat) (y:ql) (turns:Str):Option ql:=
 (qa3 N y.Twist turns).bind fun a=>
 some (⟨y.Name,y.Density,a,y.Strength,y.Dye⟩:ql)
theorem qgM (N:Nat) (y:ql) (turns:Str) {res:ql} (h:qbI N y turns=some res):qb ZT (.fn 62) (kAD y.Name y.Density y.Twist y.Strength y.Dye [.str turns]) [] (.agg (kAn res.Name res.Density res.Twist res.Strength res.Dye)) []:=by
 unfold qbI at h;refine Ub Tryz.func62 rfl rfl (m:=11) rfl (rs:=[.cell 4 37]) rfl (l:=(kAE y.Name y.Density y.Twist y.Strength y.Dye [(1,.str turns)])) rfl ?_;refine sg fol ((1,.str turns)::(kQ (kAT []))) (kA y.Name y.Density y.Twist y.Strength y.Dye (kF [])) ?_;obtain⟨b,a,h⟩:=bnd h;refine sq (gq fol [3] (kQ (kAT [])) (kA y.Name y.Density b y.Strength y.Dye (kF [])) (ac (cv (qcf N y.Twist turns a)) az) ?_);refine sg fol (kAT []) (kA y.Name y.Density b y.Strength y.Dye (kA y.Name y.Density b y.Strength y.Dye [])) ?_;refine Goes.ret ?_;obtain rfl:=si h;exact(gw2 [.agg (kAn y.Name y.Density b y.Strength y.Dye)] (FzW.agg (qc.cons (Ua tS) (qc.cons (Ua tS) (qc.cons (Ua tS) (qc.cons (Ua (qC qg _ (nl rfl))) (qc.cons (Ua tS) qc.nil)))))))
def xC (N:Nat) (l:List ql) (twist:Str):Nat->Str->Str->Str->Int->Option ((Str×Str×Str)⊕(ql×Int))
 |0,_,_,_,_=>none
 |K+1,m,n,e,f=>
  if f<(l.length:Int)then
  (((idx l f).bind fun a=>
  (qa3 N m a.Density).bind fun c=>
  (qbI N a twist).bind fun g=>
  (qam N g).bind fun b=>
  if(!decide (b.2=0))=true then
  some (.inr ((⟨[],[],[],[],[]⟩:ql),b.2))
  else
  (qa3 N n b.1).bind fun d=>
  if(!(a.Dye==e))=true then
  some (.inl (c,d,[]))
  else
  some (.inl (c,d,e)):Option ((Str×Str×Str)⊕(ql×Int)))).bind (fun
  |(.inl (h,i,j))=>
  xC N l twist K h i j (w64 (f+1))
  |(.inr k)=>
  some (.inr k))
  else
  some (.inl (m,n,e))
def qdp (N:Nat) (name:Str) (l:List ql) (twist:Str) (factor:Str):Option (ql×Int):=
 (idx l 0).bind fun c=>
 (xC N l twist N [48] [48] c.Dye 0).bind (fun
 |(.inl (d,e,f))=>
 (qds N d factor).bind fun a=>
 some ((⟨name,a,twist,[(⟨[48],e⟩:zZ)],f⟩:ql),0)
 |(.inr b)=>
 some b)
theorem qjC (N:Nat) (name:Str) (l:List ql) (twist:Str) (factor:Str) {res:ql×Int} (h:qdp N name l twist factor=some res):qb ZT (.fn 11) (.str name::vl qd l::(kBB twist factor)) [] (.tuple (kAD res.1.Name res.1.Density res.1.Twist res.1.Strength res.1.Dye [.i res.2])) []:=by
 unfold qdp at h;refine Ub Tryz.func11 rfl rfl (m:=67) rfl (rs:=[.cell 8 37,.tmp 9]) rfl (l:=(kM name l twist [(3,.str factor)])) rfl ?_;refine sg fol (kM name l twist ((3,.str factor)::(kAz []))) (kF []) ?_;refine sh fol (kM name l twist ((3,.str factor)::(kAz [(10,.str [48]),(11,.str [48])]))) ?_;obtain⟨L,o,h⟩:=bnd h;refine sq (gr fol [1,3] (kM name l twist ((3,.str factor)::(kAz [(10,.str [48]),(11,.str [48]),(12,.str L.Dye)]))) (ac (iv qlC qd o) (ac (lv 4 ce9 qd o rfl) az)) ?_);refine sq ?_;refine sh fol (kM name l twist ((3,.str factor)::(kAz [(10,.str [48]),(11,.str [48]),(12,.str L.Dye),(13,.i 0)]))) ?_;refine Goes.block ?_;obtain⟨G,g9,h⟩:=bnd h;refine Goes.imp (Q:=fun x s'=>(x= .exit 0/\ ∃D F z,(.inl (D,F,z))=G/\Sub s' (ofG 67 (kBG name ((2,.str twist)::(3,.str factor)::(kAz [(10,.str D),(11,.str F),(12,.str z)]))),(kF [])))\/(x= .ret/\ ∃c,(.inr c)=G/\zf ZT [.cell 8 37,.tmp 9] (.tuple (kAD c.1.Name c.1.Density c.1.Twist c.1.Strength c.1.Dye [.i c.2])) .ret s')) ?_ ?_
 ·refine Ud (fun M s=> ∃(A:Str) (p:Str) (n:Str) (e:Int),s=(ofG 67 (kM name l twist (kZ factor A p n e [])),(kF []))/\xC N l twist M A p n e=some G) ?_ (m:=N) ⟨_,_,_,_,rfl,g9⟩;rintro M s ⟨A,p,n,e,rfl,g9⟩
  cases M with
  |zero=>simp only[xC]at g9;cases g9
  |succ M=>
   rw[xC]at g9;refine sq ?_;refine sh fol (kM name l twist (kZ factor A p n e [(23,.bool (decide (e<(l.length:Int))))])) ?_;refine ihD g9 (fun H g9=>?_) (fun H g9=>?_)
   ·refine Goes.skip ?_;refine sq ?_;obtain⟨B,g15,g9⟩:=bnd g9;refine Goes.imp (Q:=fun x s'=>(x= .normal/\ ∃g j k,(.inl (g,j,k))=B/\Sub s' (ofG 67 (kM name l twist (kZ factor g j k e [])),(kF [])))\/(x= .ret/\ ∃d,(.inr d)=B/\zf ZT [.cell 8 37,.tmp 9] (.tuple (kAD d.1.Name d.1.Density d.1.Twist d.1.Strength d.1.Dye [.i d.2])) .ret s')) ?_ ?_
    ·refine Goes.block ?_;obtain⟨q,a,g15⟩:=bnd g15;obtain⟨f,r,g15⟩:=bnd g15;refine sq (gr fol [3,5,6] (kM name l twist (kZ factor f p n e [])) (ac (iv qlC qd a) (ac (lv 1 qf3 qd a rfl) (ac (cv (qcf N A q.Density r)) az))) ?_);obtain⟨I,t,g15⟩:=bnd g15;obtain⟨b,u,g15⟩:=bnd g15;refine sq (gr fol [2,3,5,6] (kM name l twist (kZ factor f p n e [(14,.str b.1),(15,.i b.2)])) (ac (iv qlC qd a) (ac (la ag37 qd a) (ac (cv (qgM N q twist t)) (ac (cv (qgo N I u)) az)))) ?_);refine sq ?_;refine sh fol (kM name l twist (kZ factor f p n e [(14,.str b.1),(15,.i b.2),(44,.bool (!decide (b.2=0)))])) ?_;refine ihB g15 (fun J g15=>?_) (fun J g15=>?_)
     ·refine sh fol (kAz [(9,.i b.2)]) ?_;refine Goes.ret ?_;obtain rfl:=si g15;exact Or.inr (⟨rfl,_,rfl,(gw2 (kAW b.2) (FzW.tuple (qc.cons (FzW.agg (qc.cons (Ua tS) (qc.cons (Ua tS) (qc.cons (Ua tS) (qc.cons (FzW.nilv (E:=qg)) (qc.cons (Ua tS) qc.nil)))))) (qc.cons (Ua tI) qc.nil))))⟩)
     refine Goes.skip ?_;obtain⟨v,w,g15⟩:=bnd g15;refine sq (gr fol [2] (kM name l twist (kZ factor f v n e [])) (ac (cv (qcf N p b.1 w)) az) ?_);refine sq (gr fol [2,4] (kM name l twist (kZ factor f v n e [(56,.bool (!(q.Dye==n)))])) (ac (iv qlC qd a) (ac (lv 4 ce9 qd a rfl) az)) ?_);refine ihB g15 (fun K g15=>?_) (fun K g15=>?_)
     ·refine gh fol (kM name l twist ((3,.str factor)::(kAz [(10,.str f),(11,.str v),(12,.str []),(13,.i e)]))) ?_;obtain rfl:=si g15;exact Or.inl (⟨rfl,_,_,_,rfl,(Sub.refl _)⟩)
     refine Goes.skip ?_;obtain rfl:=si g15;exact Or.inl (⟨rfl,_,_,_,rfl,(Sub.keep [0,1,2,3,8,10,11,12,13] rfl rfl)⟩)
    rintro x s' (⟨rfl,g,j,k,rfl,hsub⟩|⟨rfl,O,rfl,hret⟩)
    ·try dsimp only at g9
     refine Goes.sub hsub ?_;refine gh fol (kM name l twist (kZ factor g j k (w64 (e+1)) [])) ?_;exact⟨M,(ofG 67 (kM name l twist (kZ factor g j k (w64 (e+1)) [])),(kF [])),Nat.lt_succ_self _,(Sub.refl _),_,_,_,_,rfl,g9⟩
    try dsimp only at g9
    obtain rfl:=si g9;exact Or.inr (⟨rfl,_,rfl,hret⟩)
   refine Goes.exit ?_;obtain rfl:=si g9;exact Or.inl (⟨rfl,_,_,_,rfl,(Sub.keep [0,2,3,8,10,11,12] rfl rfl)⟩)
 rintro x s' (⟨rfl,D,F,z,rfl,hsub⟩|⟨rfl,P,rfl,hret⟩)
 ·try dsimp only at h
  refine Goes.sub hsub ?_;obtain⟨C,y,h⟩:=bnd h;refine sq (gq fol [3] (kAz [(9,.i 0)]) [.cells [.str name,.str C,.str twist,.slice 1 0 1 1 2,.str z],.cells [.str [48],.str F]] (ac (cv (qjH N D factor y)) az) ?_);refine Goes.ret ?_;obtain rfl:=si h;exact(gw2 [.agg [.str name,.str C,.str twist,.slice 1 0 1 1 2,.str z],.i 0] (FzW.tuple (qc.cons (FzW.agg (qc.cons (Ua tS) (qc.cons (Ua tS) (qc.cons (Ua tS) (qc.cons (FzW.fz (Fz.lit rfl rfl (Ug (AllST.cons tS (AllST.cons tS AllST.nil))))) (qc.cons (Ua tS) qc.nil)))))) (qc.cons (Ua tI) qc.nil))))
 try dsimp only at h
 obtain rfl:=si h;exact hret
def qde (a:Str):Option Str:=
 (vJ a).bind fun b=>
 if b<0 then
 (cut a 1 (a.length:Int)).bind fun c=>
 some c
 else
 some a
theorem qgt (a:Str) {res:Str} (h:qde a=some res):qb ZT (.fn 64) [.str a] [] (.str res) []:=by
 unfold qde at h;refine Ub Tryz.func64 rfl rfl (m:=9) rfl (rs:=[.tmp 2]) rfl (l:=(kAM a)) rfl ?_;refine sh fol (kAM a) ?_;refine sq ?_;obtain⟨e,b,h⟩:=bnd h;refine sq (gr fol [1] (kBG a [(5,.bool (decide (e<0)))]) (ac (cv (yO a b)) az) ?_);refine ihD h (fun f h=>?_) (fun f h=>?_)
 ·obtain⟨d,c,h⟩:=bnd h;refine sq (gr fol [1] [(2,.str d)] (ac (hs (.done (.opt (qY ZT 23 (.str a) (some (.i 1)) none none)) (.str d)) (zY qlL (some 1) none c)) az) ?_);refine Goes.ret ?_;obtain rfl:=si h;exact(gw2 [.str d] (Ua tS))
 refine Goes.skip ?_;refine sh fol [(2,.str a)] ?_;refine Goes.ret ?_;obtain rfl:=si h;exact(gw2 [.str a] (Ua tS))
def qdl (N:Nat) (a:Str):Option Str:=
 (yH N a).bind fun b=>
 (cut a 0 b).bind fun c=>
 some c
theorem qgu (N:Nat) (a:Str) {res:Str} (h:qdl N a=some res):qb ZT (.fn 65) [.str a] [] (.str res) []:=by
 unfold qdl at h;refine Ub Tryz.func65 rfl rfl (m:=7) rfl (rs:=[.tmp 2]) rfl (l:=(kAM a)) rfl ?_;refine sh fol (kAM a) ?_;obtain⟨e,b,h⟩:=bnd h;obtain⟨d,c,h⟩:=bnd h;refine sq (gr fol [2,3] [(2,.str d)] (ac (cv (qab N a b)) (ac (hs (.done (.opt (qY ZT 23 (.str a) none (some (.i e)) none)) (.str d)) (zY qlL none (some e) c)) az)) ?_);refine Goes.ret ?_;obtain rfl:=si h;exact(gw2 [.str d] (Ua tS))
def qdq (N:Nat) (a:Str):Option Str:=
 (yH N a).bind fun b=>
 if b=(a.length:Int)then
 some [49]
 else
 (cut a (w64 (b+1)) (a.length:Int)).bind fun c=>
 some c
theorem qjS (N:Nat) (a:Str) {res:Str} (h:qdq N a=some res):qb ZT (.fn 66) [.str a] [] (.str res) []:=by
 unfold qdq at h;refine Ub Tryz.func66 rfl rfl (m:=14) rfl (rs:=[.tmp 2]) rfl (l:=(kAM a)) rfl ?_;refine sh fol (kAM a) ?_;obtain⟨b,c,h⟩:=bnd h;refine sq (gr fol [1] (kAH a b []) (ac (cv (qab N a c)) az) ?_);refine sq ?_;refine sh fol (kAH a b [(9,.bool (decide (b=(a.length:Int))))]) ?_;refine ihD h (fun f h=>?_) (fun f h=>?_)
 ·refine sh fol [(2,.str [49])] ?_;refine Goes.ret ?_;obtain rfl:=si h;exact(gw2 [.str [49]] (Ua tS))
 refine Goes.skip ?_;obtain⟨e,d,h⟩:=bnd h;refine sq (gr fol [3] [(2,.str e)] (ac (hs (.done (.opt (qY ZT 23 (.str a) (some (.i (w64 (b+1)))) none none)) (.str e)) (zY qlL (some (w64 (b+1))) none d)) az) ?_);refine Goes.ret ?_;obtain rfl:=si h;exact(gw2 [.str e] (Ua tS))
def qb0 (N:Nat) (a:Str):Option Int:=
 ((qdl N a).bind fun b=>
 (qde b).bind fun c=>
 if(c.length:Int)>600 then
 some true
 else
 (qdq N a).bind fun d=>
 some (decide ((d.length:Int)>600)):Option Bool).bind fun e=>
 if e=true then
 some 4
 else
 some 0
theorem qiD (N:Nat) (a:Str) {res:Int} (h:qb0 N a=some res):qb ZT (.fn 131) [.str a] [] (.i res) []:=by
 unfold qb0 at h;refine Ub Tryz.func131 rfl rfl (m:=14) rfl (rs:=[.tmp 2]) rfl (l:=(kAM a)) rfl ?_;refine sh fol (kAM a) ?_;refine sq ?_;refine sq ?_;obtain⟨j,b,h⟩:=bnd h;refine Ue (s':=(ofG 14 (kBC j),[])) ?_ ?_
 ·obtain⟨g,c,b⟩:=bnd b;obtain⟨o,d,b⟩:=bnd b;rcases wyD b with⟨f,b⟩|⟨f,b⟩
  ·obtain rfl:=si b;exact tr fol [1,2,5] [(13,.bool true)] (ac (cv (qgu N a c)) (ac (cv (qgt g d)) (ac (gw f) az)))
  obtain⟨k,e,b⟩:=bnd b;obtain rfl:=si b;exact tr fol [1,2,5,7] (kBC (decide ((k.length:Int)>600))) (ac (cv (qgu N a c)) (ac (cv (qgt g d)) (ac (gw f) (ac (cv (qjS N a e)) az))))
 refine ihB h (fun n h=>?_) (fun n h=>?_)
 ·refine sh fol [(2,.i 4)] ?_;refine Goes.ret ?_;obtain rfl:=si h;exact(gw2 [.i 4] (Ua tI))
 refine Goes.skip ?_;refine sh fol [(2,.i 0)] ?_;refine Goes.ret ?_;obtain rfl:=si h;exact(gw2 [.i 0] (Ua tI))
def je (N:Nat) (l:List Str):Nat->Int->Option (Unit⊕Int)
 |0,_=>none
 |K+1,a=>
  if a<(l.length:Int)then
  (idx l a).bind fun b=>
  (qb0 N b).bind fun c=>
  if(!decide (c=0))=true then
  some (.inr 4)
  else
  je N l K (w64 (a+1))
  else
  some (.inl ())
def qbg (N:Nat) (l:List Str):Option Int:=
 (je N l N 0).bind (fun
 |(.inl ())=>
 some 0
 |(.inr a)=>
 some a)
theorem qgd (N:Nat) (l:List Str) {res:Int} (h:qbg N l=some res):qb ZT (.fn 63) [vl encS l] [] (.i res) []:=by
 unfold qbg at h;refine Ub Tryz.func63 rfl rfl (m:=16) rfl (rs:=[.tmp 2]) rfl (l:=[(0,vl encS l)]) rfl ?_;refine sh fol [(0,vl encS l)] ?_;refine sq ?_;refine sh fol [(0,vl encS l),(3,.i 0)] ?_;refine Goes.block ?_;obtain⟨d,g2,h⟩:=bnd h;refine Goes.imp (Q:=fun x s'=>(x= .exit 0/\(.inl ())=d/\Sub s' (ofG 16 [],[]))\/(x= .ret/\ ∃e,(.inr e)=d/\zf ZT [.tmp 2] (.i e) .ret s')) ?_ ?_
 ·refine Ud (fun M s=> ∃(a:Int),s=(ofG 16 [(0,vl encS l),(3,.i a)],[])/\je N l M a=some d) ?_ (m:=N) ⟨_,rfl,g2⟩;rintro M s ⟨a,rfl,g2⟩
  cases M with
  |zero=>simp only[je]at g2;cases g2
  |succ M=>
   rw[je]at g2;refine sq ?_;refine sh fol [(0,vl encS l),(3,.i a),(7,.bool (decide (a<(l.length:Int))))] ?_;refine ihD g2 (fun f g2=>?_) (fun f g2=>?_)
   ·refine Goes.skip ?_;refine sq (Goes.block ?_);obtain⟨g,b,g2⟩:=bnd g2;obtain⟨j,c,g2⟩:=bnd g2;refine sq (gr fol [2,3,4] [(0,vl encS l),(3,.i a),(15,.bool (!decide (j=0)))] (ac (iv qqQ encS b) (ac (lv 0 qf3 encS b rfl) (ac (cv (qiD N g c)) az))) ?_);refine ihB g2 (fun k g2=>?_) (fun k g2=>?_)
    ·refine sh fol [(2,.i 4)] ?_;refine Goes.ret ?_;obtain rfl:=si g2;exact Or.inr (⟨rfl,_,rfl,(gw2 [.i 4] (Ua tI))⟩)
    refine Goes.skip ?_;refine gh fol [(0,vl encS l),(3,.i (w64 (a+1)))] ?_;exact⟨M,(ofG 16 [(0,vl encS l),(3,.i (w64 (a+1)))],[]),Nat.lt_succ_self _,(Sub.refl _),_,rfl,g2⟩
   refine Goes.exit ?_;obtain rfl:=si g2;exact Or.inl (⟨rfl,rfl,(Sub.keep [] rfl rfl)⟩)
 rintro x s' (⟨rfl,rfl,hsub⟩|⟨rfl,n,rfl,hret⟩)
 ·try dsimp only at h
  refine Goes.sub hsub ?_;refine sh fol [(2,.i 0)] ?_;refine Goes.ret ?_;obtain rfl:=si h;exact(gw2 [.i 0] (Ua tI))
 try dsimp only at h
 obtain rfl:=si h;exact hret
def jY (y:ql):Nat->(List Str)->Int->Option (List Str)
 |0,_,_=>none
 |K+1,b,a=>
  if a<(y.Strength.length:Int)then
  (idx y.Strength a).bind fun c=>
  (app 16 b [c.X,c.Y]).bind fun d=>
  jY y K d (w64 (a+1))
  else
  some b
def qbO (N:Nat) (y:ql):Option Int:=
 (jY y N ([y.Density,y.Twist]:List Str) 0).bind fun a=>
 (qbg N a).bind fun b=>
 some b
theorem qiY (N:Nat) (y:ql) {res:Int} (h:qbO N y=some res):qb ZT (.fn 12) [.agg (kAn y.Name y.Density y.Twist y.Strength y.Dye)] [] (.i res) []:=by
 unfold qbO at h;refine Ub Tryz.func12 rfl rfl (m:=34) rfl (rs:=[.tmp 2]) rfl (l:=(kAE y.Name y.Density y.Twist y.Strength y.Dye [])) rfl ?_;refine sg fol (kV []) (kA y.Name y.Density y.Twist y.Strength y.Dye []) ?_;refine sg fol (kV [(3,.slice 1 0 2 2 1)]) (kA y.Name y.Density y.Twist y.Strength y.Dye (kA9 y.Density y.Twist [])) ?_;refine sq ?_;refine sh fol (kV [(3,.slice 1 0 2 2 1),(4,.i 0)]) ?_;refine Goes.block ?_;obtain⟨n,g4,h⟩:=bnd h;refine Goes.imp (Q:=fun x s'=>(x= .exit 0/\ ∃b,b=n/\Sub s' (ofG 34 [(3,.oslice 0 b.length 1)],(kAB b [])))) ?_ ?_
 ·refine Goes.sub (s':=(ofG 34 (kV [(3,.oslice 1 ([y.Density,y.Twist]:List Str).length 1),(4,.i 0)]),(kA y.Name y.Density y.Twist y.Strength y.Dye (kAB ([y.Density,y.Twist]:List Str) [])))) (Uc [9999] [some 0,some 1] rfl rfl (.kp (.keep (zX.own rfl rfl (by kernel_rfl) (by kernel_rfl) rfl rfl) (.keep (.same nI) .nil))) (.kb rfl (.same sn) (.ks .nil))) ?_;refine Ud (fun M s=> ∃(c:List Str) (d:Int),s=(ofG 34 (kV ((3,.oslice 1 c.length 1)::(kBW d))),(kA y.Name y.Density y.Twist y.Strength y.Dye (kAB c [])))/\jY y M c d=some n) ?_ (m:=N) ⟨_,_,rfl,g4⟩;rintro M s ⟨c,d,rfl,g4⟩
  cases M with
  |zero=>simp only[jY]at g4;cases g4
  |succ M=>
   rw[jY]at g4;refine sq ?_;refine sh fol (kV [(3,.oslice 1 c.length 1),(4,.i d),(14,.bool (decide (d<(y.Strength.length:Int))))]) ?_;refine ihD g4 (fun o g4=>?_) (fun o g4=>?_)
   ·refine Goes.skip ?_;refine sq (Goes.block ?_);obtain⟨e,a,g4⟩:=bnd g4;obtain⟨f,g,g4⟩:=bnd g4;refine gq fol [4,6,10,12,14] (kV ((3,.oslice 3 f.length 1)::(kBW d))) (kA y.Name y.Density y.Twist y.Strength y.Dye (.dead::(kA9 e.X e.Y (kAB f [])))) (ac (iv qem qg a) (ac (lv 0 qf3 qg a rfl) (ac (iv qem qg a) (ac (lv 1 qf3 qg a rfl) (ac (hs (.run [1,2] (yT ZT [118,118] (.oslice 1 c.length 1) (.slice 2 0 2 2 1)) (kA y.Name y.Density y.Twist y.Strength y.Dye (kAB c (kA9 e.X e.Y []))) (.oslice 3 f.length 1) (kA y.Name y.Density y.Twist y.Strength y.Dye (.dead::(kA9 e.X e.Y (kAB f [])))) true) (qbJ qqQ (E:=encS) rfl (qgr (E:=encS) (ys:=[e.X,e.Y]) rfl rfl rfl rfl) (qq4 (E:=encS) (l:=c) rfl rfl rfl g rfl))) az))))) ?_;refine gh fol (kV ((3,.oslice 3 f.length 1)::(kBW (w64 (d+1))))) ?_;exact⟨M,(ofG 34 (kV ((3,.oslice 1 f.length 1)::(kBW (w64 (d+1))))),(kA y.Name y.Density y.Twist y.Strength y.Dye (kAB f []))),Nat.lt_succ_self _,(Uc [] [some 0,some 3] rfl rfl (.kp (.keep (.oslice rfl) (.keep (.same nI) .nil))) (.kb rfl (.same sn) (.ks .nil))),_,_,rfl,g4⟩
   refine Goes.exit ?_;obtain rfl:=si g4;exact⟨rfl,_,rfl,(Uc [] [some 1] rfl rfl (.drop (.keep (.oslice rfl) .nil)) (.ks .nil))⟩
 rintro x s' ⟨rfl,b,rfl,hsub⟩;refine Goes.sub hsub ?_;obtain⟨k,j,h⟩:=bnd h;refine sq (gr fol [1] (kBL k) (ac (hs (.call 63 [.oslice 0 b.length 1] (kAB b []) [0] [vl encS b] (.i k)) (qdQ (FzL.cons (Fz.os (E:=encS) rfl rfl (nl rfl)) FzL.nil) (qgd N b j) tI rfl)) az) ?_);refine Goes.ret ?_;obtain rfl:=si h;exact(gw2 [.i k] (Ua tI))
def ji (a:ql) (b:ql):Nat->Int->Option (Unit⊕Bool)
 |0,_=>none
 |K+1,e=>
  if e<(a.Strength.length:Int)then
  (idx a.Strength e).bind fun c=>
  (idx b.Strength e).bind fun d=>
  if(!((c.X==d.X)&&((c.Y==d.Y)&&true)))=true then
  some (.inr false)
  else
  ji a b K (w64 (e+1))
  else
  some (.inl ())
def qaf (N:Nat) (a:ql) (b:ql):Option Bool:=
 (if(!(a.Name==b.Name))=true then
 some true
 else
 if(!(a.Density==b.Density))=true then
 some true
 else
 if(!(a.Twist==b.Twist))=true then
 some true
 else
 if(!(a.Dye==b.Dye))=true then
 some true
 else
 some (!decide ((a.Strength.length:Int)=(b.Strength.length:Int))):Option Bool).bind fun d=>
 if d=true then
 some false
 else
 (ji a b N 0).bind (fun
 |(.inl ())=>
 some true
 |(.inr c)=>
 some c)
theorem qcT (N:Nat) (a:ql) (b:ql) {res:Bool} (h:qaf N a b=some res):qb ZT (.fn 13) (kAD a.Name a.Density a.Twist a.Strength a.Dye (kAD b.Name b.Density b.Twist b.Strength b.Dye [])) [] (.bool res) []:=by
 unfold qaf at h;refine Ub Tryz.func13 rfl rfl (m:=59) rfl (rs:=[.tmp 4]) rfl (l:=(kAE a.Name a.Density a.Twist a.Strength a.Dye [(1,.agg [.str b.Name,.str b.Density,.str b.Twist,vl qg b.Strength,.str b.Dye])])) rfl ?_;refine sg fol (kQ (kAN [])) (kA a.Name a.Density a.Twist a.Strength a.Dye (kA b.Name b.Density b.Twist b.Strength b.Dye [])) ?_;refine sq ?_;refine sq ?_;obtain⟨w,c,h⟩:=bnd h;refine Ue (s':=(ofG 59 (kQ (kAN [(40,.bool w)])),(kA a.Name a.Density a.Twist a.Strength a.Dye (kA b.Name b.Density b.Twist b.Strength b.Dye [])))) ?_ ?_
 ·rcases wyB c with⟨n,c⟩|⟨n,c⟩
  ·obtain rfl:=si c;exact tr fol [5] (kQ (kAN [(40,.bool true)])) (ac (gw n) az)
  rcases wyB c with⟨o,c⟩|⟨o,c⟩
  ·obtain rfl:=si c;exact tr fol [5,12] (kQ (kAN [(40,.bool true)])) (ac (gw n) (ac (gw o) az))
  rcases wyB c with⟨q,c⟩|⟨q,c⟩
  ·obtain rfl:=si c;exact tr fol [5,12,19] (kQ (kAN [(40,.bool true)])) (ac (gw n) (ac (gw o) (ac (gw q) az)))
  rcases wyB c with⟨r,c⟩|⟨r,c⟩
  ·obtain rfl:=si c;exact tr fol [5,12,19,26] (kQ (kAN [(40,.bool true)])) (ac (gw n) (ac (gw o) (ac (gw q) (ac (gw r) az))))
  obtain rfl:=si c;exact tr fol [5,12,19,26] (kQ (kAN [(40,.bool (!decide ((a.Strength.length:Int)=(b.Strength.length:Int))))])) (ac (gw n) (ac (gw o) (ac (gw q) (ac (gw r) az))))
 refine ihB h (fun y h=>?_) (fun y h=>?_)
 ·refine sh fol kBA ?_;refine Goes.ret ?_;obtain rfl:=si h;exact(gw2 [.bool false] (Ua tB))
 refine Goes.skip ?_;refine sq ?_;refine sh fol (kQ (kAN [(5,.i 0)])) ?_;refine Goes.block ?_;obtain⟨t,g9,h⟩:=bnd h;refine Goes.imp (Q:=fun x s'=>(x= .exit 0/\(.inl ())=t/\Sub s' (ofG 59 [],[]))\/(x= .ret/\ ∃p,(.inr p)=t/\zf ZT [.tmp 4] (.bool p) .ret s')) ?_ ?_
 ·refine Ud (fun M s=> ∃(k:Int),s=(ofG 59 (kQ (kAN (kA8 k))),(kA a.Name a.Density a.Twist a.Strength a.Dye (kA b.Name b.Density b.Twist b.Strength b.Dye [])))/\ji a b M k=some t) ?_ (m:=N) ⟨_,rfl,g9⟩;rintro M s ⟨k,rfl,g9⟩
  cases M with
  |zero=>simp only[ji]at g9;cases g9
  |succ M=>
   rw[ji]at g9;refine sq ?_;refine sh fol (kQ (kAN [(5,.i k),(45,.bool (decide (k<(a.Strength.length:Int))))])) ?_;refine ihD g9 (fun u g9=>?_) (fun u g9=>?_)
   ·refine Goes.skip ?_;refine sq (Goes.block ?_);obtain⟨d,g,g9⟩:=bnd g9;obtain⟨f,j,g9⟩:=bnd g9;refine sq (gr fol [3,4,8,9,10] (kQ (kAN [(5,.i k),(58,.bool (!((d.X==f.X)&&((d.Y==f.Y)&&true))))])) (ac (iv qem qg g) (ac (la ag45 qg g) (ac (iv qem qg j) (ac (la ag45 qg j) (ac (hs (.done (.opt (ku ZT .neq 45 (.tmp 52) (.tmp 57) (.agg (kBB d.X d.Y)) (.agg (kBB f.X f.Y)))) (.bool (!((d.X==f.X)&&((d.Y==f.Y)&&true))))) (ne_ag eqt45 (e:=((d.X==f.X)&&((d.Y==f.Y)&&true))) (.cons (a:= .str d.X) (b:= .str f.X) rfl (by kernel_rfl) (by kernel_rfl) (by kernel_rfl) (.cons (a:= .str d.Y) (b:= .str f.Y) rfl (by kernel_rfl) (by kernel_rfl) (by kernel_rfl) .nil)))) az))))) ?_);refine ihB g9 (fun v g9=>?_) (fun v g9=>?_)
    ·refine sh fol kBA ?_;refine Goes.ret ?_;obtain rfl:=si g9;exact Or.inr (⟨rfl,_,rfl,(gw2 [.bool false] (Ua tB))⟩)
    refine Goes.skip ?_;refine gh fol (kQ (kAN (kA8 (w64 (k+1))))) ?_;exact⟨M,(ofG 59 (kQ (kAN (kA8 (w64 (k+1))))),(kA a.Name a.Density a.Twist a.Strength a.Dye (kA b.Name b.Density b.Twist b.Strength b.Dye []))),Nat.lt_succ_self _,(Sub.refl _),_,rfl,g9⟩
   refine Goes.exit ?_;obtain rfl:=si g9;exact Or.inl (⟨rfl,rfl,(Uc [] [] rfl rfl .nil .nil)⟩)
 rintro x s' (⟨rfl,rfl,hsub⟩|⟨rfl,z,rfl,hret⟩)
 ·try dsimp only at h
  refine Goes.sub hsub ?_;refine sh fol [(4,.bool true)] ?_;refine Goes.ret ?_;obtain rfl:=si h;exact(gw2 [.bool true] (Ua tB))
 try dsimp only at h
 obtain rfl:=si h;exact hret
end Go.Av
