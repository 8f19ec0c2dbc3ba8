/-
  Walks of functions: what each computes, as a plain function.
-/
import Derived.Test.YtppehbboaidbgaaGreatDoorQGenP4
noncomputable section
namespace Go.Av
open Go.Proofs Go.RowKit
set_option linter.unusedSectionVars false
set_option linter.unusedVariables false
set_option linter.unusedSimpArgs false
set_option maxRecDepth 100000
def zz (N:Nat) (y:qh) (e:Str):Nat->Int->Int->Option Int
 |0,_,_=>none
 |K+1,f,a=>
  if a<(y.Strength.length:Int)then
  (((idx y.Strength a).bind fun b=>
  (qad N b.X e).bind fun c=>
  if c<=0 then
  some a
  else
  some f:Option Int)).bind fun d=>
  zz N y e K d (w64 (a+1))
  else
  some f
def qe5 (N:Nat) (y:qh):Option (Str×Int):=
 (vV y.Twist).bind fun c=>
 ((if c<0 then
 (qcr N [48] y.Twist).bind fun d=>
 some d
 else
 some y.Twist:Option Str)).bind fun e=>
 (zz N y e N (-1) 0).bind fun b=>
 if b<0 then
 some ([],7)
 else
 (idx y.Strength b).bind fun a=>
 some (a.Y,0)
def qdx (a:Str):Option Str:=
 (vV a).bind fun b=>
 if b<0 then
 (cut a 1 (a.length:Int)).bind fun c=>
 some c
 else
 some a
theorem qga (a:Str) {res:Str} (h:qdx a=some res):qb ZT (.fn 64) [.str a] [] (.str res) []:=by
 unfold qdx at h;refine Ub Tryz.func64 rfl rfl (m:=9) rfl (rs:=[.tmp 2]) rfl (l:=(kAM a)) rfl ?_;refine sh fol (kAM a) ?_;refine sq ?_;obtain⟨e,b,h⟩:=bnd h;refine sq (gr fol [1] (kBG a [(5,.bool (decide (e<0)))]) (ac (cv (qah a b)) az) ?_);refine ihD h (fun f h=>?_) (fun f h=>?_)
 ·obtain⟨d,c,h⟩:=bnd h;refine sq (gr fol [1] [(2,.str d)] (ac (hs (.done (.opt (kg ZT 23 (.str a) (some (.i 1)) none none)) (.str d)) (jr ql0 (some 1) none c)) az) ?_);refine Goes.ret ?_;obtain rfl:=si h;exact(gw2 [.str d] (Ua tS))
 refine Goes.skip ?_;refine sh fol [(2,.str a)] ?_;refine Goes.ret ?_;obtain rfl:=si h;exact(gw2 [.str a] (Ua tS))
def qdp (N:Nat) (a:Str):Option Str:=
 (yO N a).bind fun b=>
 (cut a 0 b).bind fun c=>
 some c
theorem qgu (N:Nat) (a:Str) {res:Str} (h:qdp N a=some res):qb ZT (.fn 65) [.str a] [] (.str res) []:=by
 unfold qdp at h;refine Ub Tryz.func65 rfl rfl (m:=7) rfl (rs:=[.tmp 2]) rfl (l:=(kAM a)) rfl ?_;refine sh fol (kAM a) ?_;obtain⟨e,b,h⟩:=bnd h;obtain⟨d,c,h⟩:=bnd h;refine sq (gr fol [2,3] [(2,.str d)] (ac (cv (qaz N a b)) (ac (hs (.done (.opt (kg ZT 23 (.str a) none (some (.i e)) none)) (.str d)) (jr ql0 none (some e) c)) az)) ?_);refine Goes.ret ?_;obtain rfl:=si h;exact(gw2 [.str d] (Ua tS))
def qdq (N:Nat) (a:Str):Option Str:=
 (yO N a).bind fun b=>
 if b=(a.length:Int)then
 some [49]
 else
 (cut a (w64 (b+1)) (a.length:Int)).bind fun c=>
 some c
theorem qkj (N:Nat) (a:Str) {res:Str} (h:qdq N a=some res):qb ZT (.fn 66) [.str a] [] (.str res) []:=by
 unfold qdq at h;refine Ub Tryz.func66 rfl rfl (m:=14) rfl (rs:=[.tmp 2]) rfl (l:=(kAM a)) rfl ?_;refine sh fol (kAM a) ?_;obtain⟨b,c,h⟩:=bnd h;refine sq (gr fol [1] (kAH a b []) (ac (cv (qaz N a c)) az) ?_);refine sq ?_;refine sh fol (kAH a b [(9,.bool (decide (b=(a.length:Int))))]) ?_;refine ihD h (fun f h=>?_) (fun f h=>?_)
 ·refine sh fol [(2,.str [49])] ?_;refine Goes.ret ?_;obtain rfl:=si h;exact(gw2 [.str [49]] (Ua tS))
 refine Goes.skip ?_;obtain⟨e,d,h⟩:=bnd h;refine sq (gr fol [3] [(2,.str e)] (ac (hs (.done (.opt (kg ZT 23 (.str a) (some (.i (w64 (b+1)))) none none)) (.str e)) (jr ql0 (some (w64 (b+1))) none d)) az) ?_);refine Goes.ret ?_;obtain rfl:=si h;exact(gw2 [.str e] (Ua tS))
def jF (a:qh) (b:qh):Nat->Int->Option (Unit⊕Bool)
 |0,_=>none
 |K+1,e=>
  if e<(a.Strength.length:Int)then
  (idx a.Strength e).bind fun c=>
  (idx b.Strength e).bind fun d=>
  if(!((c.X==d.X)&&((c.Y==d.Y)&&true)))=true then
  some (.inr false)
  else
  jF a b K (w64 (e+1))
  else
  some (.inl ())
def qar (N:Nat) (a:qh) (b:qh):Option Bool:=
 (if(!(a.Name==b.Name))=true then
 some true
 else
 if(!(a.Density==b.Density))=true then
 some true
 else
 if(!(a.Twist==b.Twist))=true then
 some true
 else
 if(!(a.Dye==b.Dye))=true then
 some true
 else
 some (!decide ((a.Strength.length:Int)=(b.Strength.length:Int))):Option Bool).bind fun d=>
 if d=true then
 some false
 else
 (jF a b N 0).bind (fun
 |(.inl ())=>
 some true
 |(.inr c)=>
 some c)
theorem yL (N:Nat) (a:qh) (b:qh) {res:Bool} (h:qar N a b=some res):qb ZT (.fn 13) (kAD a.Name a.Density a.Twist a.Strength a.Dye (kAD b.Name b.Density b.Twist b.Strength b.Dye [])) [] (.bool res) []:=by
 unfold qar at h;refine Ub Tryz.func13 rfl rfl (m:=59) rfl (rs:=[.tmp 4]) rfl (l:=(kAE a.Name a.Density a.Twist a.Strength a.Dye [(1,.agg [.str b.Name,.str b.Density,.str b.Twist,vl qg b.Strength,.str b.Dye])])) rfl ?_;refine sg fol (kQ (kAN [])) (kA a.Name a.Density a.Twist a.Strength a.Dye (kA b.Name b.Density b.Twist b.Strength b.Dye [])) ?_;refine sq ?_;refine sq ?_;obtain⟨w,c,h⟩:=bnd h;refine Ue (s':=(ofG 59 (kQ (kAN [(40,.bool w)])),(kA a.Name a.Density a.Twist a.Strength a.Dye (kA b.Name b.Density b.Twist b.Strength b.Dye [])))) ?_ ?_
 ·rcases wyB c with⟨n,c⟩|⟨n,c⟩
  ·obtain rfl:=si c;exact tr fol [5] (kQ (kAN [(40,.bool true)])) (ac (gw n) az)
  rcases wyB c with⟨o,c⟩|⟨o,c⟩
  ·obtain rfl:=si c;exact tr fol [5,12] (kQ (kAN [(40,.bool true)])) (ac (gw n) (ac (gw o) az))
  rcases wyB c with⟨q,c⟩|⟨q,c⟩
  ·obtain rfl:=si c;exact tr fol [5,12,19] (kQ (kAN [(40,.bool true)])) (ac (gw n) (ac (gw o) (ac (gw q) az)))
  rcases wyB c with⟨r,c⟩|⟨r,c⟩
  ·obtain rfl:=si c;exact tr fol [5,12,19,26] (kQ (kAN [(40,.bool true)])) (ac (gw n) (ac (gw o) (ac (gw q) (ac (gw r) az))))
  obtain rfl:=si c;exact tr fol [5,12,19,26] (kQ (kAN [(40,.bool (!decide ((a.Strength.length:Int)=(b.Strength.length:Int))))])) (ac (gw n) (ac (gw o) (ac (gw q) (ac (gw r) az))))
 refine ihB h (fun y h=>?_) (fun y h=>?_)
 ·refine sh fol kBA ?_;refine Goes.ret ?_;obtain rfl:=si h;exact(gw2 [.bool false] (Ua tB))
 refine Goes.skip ?_;refine sq ?_;refine sh fol (kQ (kAN [(5,.i 0)])) ?_;refine Goes.block ?_;obtain⟨t,g9,h⟩:=bnd h;refine Goes.imp (Q:=fun x s'=>(x= .exit 0/\(.inl ())=t/\Sub s' (ofG 59 [],[]))\/(x= .ret/\ ∃p,(.inr p)=t/\zh ZT [.tmp 4] (.bool p) .ret s')) ?_ ?_
 ·refine Ud (fun M s=> ∃(k:Int),s=(ofG 59 (kQ (kAN (kA8 k))),(kA a.Name a.Density a.Twist a.Strength a.Dye (kA b.Name b.Density b.Twist b.Strength b.Dye [])))/\jF a b M k=some t) ?_ (m:=N) ⟨_,rfl,g9⟩;rintro M s ⟨k,rfl,g9⟩
  cases M with
  |zero=>simp only[jF]at g9;cases g9
  |succ M=>
   rw[jF]at g9;refine sq ?_;refine sh fol (kQ (kAN [(5,.i k),(45,.bool (decide (k<(a.Strength.length:Int))))])) ?_;refine ihD g9 (fun u g9=>?_) (fun u g9=>?_)
   ·refine Goes.skip ?_;refine sq (Goes.block ?_);obtain⟨d,g,g9⟩:=bnd g9;obtain⟨f,j,g9⟩:=bnd g9;refine sq (gr fol [3,4,8,9,10] (kQ (kAN [(5,.i k),(58,.bool (!((d.X==f.X)&&((d.Y==f.Y)&&true))))])) (ac (iv qeR qg g) (ac (la qnS qg g) (ac (iv qeR qg j) (ac (la qnS qg j) (ac (hs (.done (.opt (ku ZT .neq 45 (.tmp 52) (.tmp 57) (.agg (kBB d.X d.Y)) (.agg (kBB f.X f.Y)))) (.bool (!((d.X==f.X)&&((d.Y==f.Y)&&true))))) (qri qrv (e:=((d.X==f.X)&&((d.Y==f.Y)&&true))) (.cons (a:= .str d.X) (b:= .str f.X) rfl (by kernel_rfl) (by kernel_rfl) (by kernel_rfl) (.cons (a:= .str d.Y) (b:= .str f.Y) rfl (by kernel_rfl) (by kernel_rfl) (by kernel_rfl) .nil)))) az))))) ?_);refine ihB g9 (fun v g9=>?_) (fun v g9=>?_)
    ·refine sh fol kBA ?_;refine Goes.ret ?_;obtain rfl:=si g9;exact Or.inr (⟨rfl,_,rfl,(gw2 [.bool false] (Ua tB))⟩)
    refine Goes.skip ?_;refine gh fol (kQ (kAN (kA8 (w64 (k+1))))) ?_;exact⟨M,(ofG 59 (kQ (kAN (kA8 (w64 (k+1))))),(kA a.Name a.Density a.Twist a.Strength a.Dye (kA b.Name b.Density b.Twist b.Strength b.Dye []))),Nat.lt_succ_self _,(Sub.refl _),_,rfl,g9⟩
   refine Goes.exit ?_;obtain rfl:=si g9;exact Or.inl (⟨rfl,rfl,(Uc [] [] rfl rfl .nil .nil)⟩)
 rintro x s' (⟨rfl,rfl,hsub⟩|⟨rfl,z,rfl,hret⟩)
 ·try dsimp only at h
  refine Goes.sub hsub ?_;refine sh fol [(4,.bool true)] ?_;refine Goes.ret ?_;obtain rfl:=si h;exact(gw2 [.bool true] (Ua tB))
 try dsimp only at h
 obtain rfl:=si h;exact hret
def xy (N:Nat) (a:Str) (digits:Int):Option Bool:=
 (if(a.length:Int)<=(w64 ((w64 (2*digits))+2))then
 (yM N a).bind fun b=>
 if b=0 then
 (qdp N a).bind fun c=>
 (qdx c).bind fun d=>
 if(d.length:Int)<=digits then
 (qdq N a).bind fun e=>
 some (decide ((e.length:Int)<=digits))
 else
 some false
 else
 some false
 else
 some false:Option Bool).bind fun f=>
 some f
theorem jH (N:Nat) (a:Str) (digits:Int) {res:Bool} (h:xy N a digits=some res):qb ZT (.fn 14) [.str a,.i digits] [] (.bool res) []:=by
 unfold xy at h;refine Ub Tryz.func14 rfl rfl (m:=31) rfl (rs:=[.tmp 4]) rfl (l:=(kBG a [(1,.i digits)])) rfl ?_;refine sh fol (kBG a [(1,.i digits)]) ?_;refine sq ?_;obtain⟨n,b,h⟩:=bnd h;refine Ue (s':=(ofG 31 (kBR n),[])) ?_ ?_
 ·rcases wyD b with⟨f,b⟩|⟨f,b⟩
  ·obtain⟨q,c,b⟩:=bnd b;rcases wyD b with⟨j,b⟩|⟨j,b⟩
   ·obtain⟨o,d,b⟩:=bnd b;obtain⟨r,e,b⟩:=bnd b;rcases wyD b with⟨k,b⟩|⟨k,b⟩
    ·obtain⟨p,g,b⟩:=bnd b;obtain rfl:=si b;exact tr fol [6,8,11,13,14,19,21] (kBR (decide ((p.length:Int)<=digits))) (ac (gw f) (ac (cv (yo N a c)) (ac (gw j) (ac (cv (qgu N a d)) (ac (cv (qga o e)) (ac (gw k) (ac (cv (qkj N a g)) az)))))))
    obtain rfl:=si b;exact tr fol [6,8,11,13,14,19] kBA (ac (gw f) (ac (cv (yo N a c)) (ac (gw j) (ac (cv (qgu N a d)) (ac (cv (qga o e)) (ac (gw k) az))))))
   obtain rfl:=si b;exact tr fol [6,8,11] kBA (ac (gw f) (ac (cv (yo N a c)) (ac (gw j) az)))
  obtain rfl:=si b;exact tr fol [6] kBA (ac (gw f) az)
 refine Goes.ret ?_;obtain rfl:=si h;exact(gw2 [.bool n] (Ua tB))
def qaI:Option (List qL):=
 qqg (some []) ((app 32 ([]:List qL) ([]:List qL)).bind fun a=>
 some a)
theorem qdG {res:List qL} (h:qaI=some res):qb ZT (.fn 67) [vl qg ([]:List qL)] [] (vl qg res) []:=by
 unfold qaI at h;refine Ub Tryz.func67 rfl rfl (m:=8) rfl (rs:=[.tmp 2]) rfl (l:=[(0,vl qg ([]:List qL))]) rfl ?_;refine sh fol [(0,vl qg ([]:List qL))] ?_;refine sq ?_;refine sh fol [(0,vl qg ([]:List qL)),(4,.anyb)] ?_;refine Goes.condAny (by kernel_rfl) ?_ ?_
 ·replace h:=(qic h).1
  refine sh fol [(2,.nilslice)] ?_;refine Goes.ret ?_;obtain rfl:=si h;exact(gw2 [.nilslice] (FzW.nilv (E:=qg)))
 replace h:=(qic h).2
 refine Goes.skip ?_;obtain⟨a,b,h⟩:=bnd h;refine sq (gq fol [2] [(2,.oslice 1 a.length 2)] (kBc a) (ac (hs (.run [0] (yF ZT [30,30] (.slice 0 0 0 0 2) (vl qg ([]:List qL))) [.cells []] (.oslice 1 a.length 2) (kBc a) true) (qa4 qeR (E:=qg) rfl (qpq (E:=qg) rfl _) (qoQ (E:=qg) rfl rfl rfl b rfl))) az) ?_);refine Goes.ret ?_;obtain rfl:=si h;exact(gw2 [.oslice 1 a.length 2] (FzW.fz (Fz.os (E:=qg) rfl rfl (nl rfl))))
def vR (hd:qL) (tl:List qL):Option (List qL):=
 (app 32 ([]:List qL) (hd::tl)).bind fun a=>
 some a
theorem qdk (hd:qL) (tl:List qL) {res:List qL} (h:vR hd tl=some res):qb ZT (.fn 67) [vl qg (hd::tl)] [] (vl qg res) []:=by
 unfold vR at h;refine Ub Tryz.func67 rfl rfl (m:=8) rfl (rs:=[.tmp 2]) rfl (l:=(kBN (hd::tl) [])) rfl ?_;refine sh fol (kBN (hd::tl) []) ?_;refine sq ?_;refine sh fol (kBN (hd::tl) kBA) ?_;refine Ur (b:=false) (by kernel_rfl) (fun c=>(by cases c)) (fun _=>?_);refine Goes.skip ?_;obtain⟨a,d,h⟩:=bnd h;refine sq (gq fol [2] [(2,.oslice 1 a.length 2)] (kBc a) (ac (hs (.run [0] (yF ZT [30,30] (.slice 0 0 0 0 2) (vl qg (hd::tl))) [.cells []] (.oslice 1 a.length 2) (kBc a) true) (qa4 qeR (E:=qg) rfl (qpq (E:=qg) rfl _) (qoQ (E:=qg) rfl rfl rfl d rfl))) az) ?_);refine Goes.ret ?_;obtain rfl:=si h;exact(gw2 [.oslice 1 a.length 2] (FzW.fz (Fz.os (E:=qg) rfl rfl (nl rfl))))
def qba:(List qL)->Option (List qL)
 |[]=>qaI
 |hd::tl=>vR hd tl
theorem qem (l:List qL) {res:List qL} (h:qba l=some res):qb ZT (.fn 67) [vl qg l] [] (vl qg res) []:=by
 cases l with
 |nil=>exact qdG h
 |cons hd tl=>exact qdk hd tl h
def qbu (N:Nat) (y:qh) (turns:Str):Option (qh×Int):=
 (zl N y).bind fun d=>
 (zP N turns).bind fun e=>
 (ji N ([d,e]:List Int)).bind fun c=>
 if(!decide (c=0))=true then
 some ((⟨[],[],[],[],[]⟩:qh),c)
 else
 (je N y.Twist).bind fun f=>
 (je N turns).bind fun g=>
 (yP N f g).bind fun h=>
 (xH N h).bind fun a=>
 if(!decide (a.2=0))=true then
 some ((⟨[],[],[],[],[]⟩:qh),a.2)
 else
 (qba y.Strength).bind fun b=>
 some ((⟨y.Name,y.Density,a.1,b,y.Dye⟩:qh),0)
theorem qhj (N:Nat) (y:qh) (turns:Str) {res:qh×Int} (h:qbu N y turns=some res):qb ZT (.fn 15) (kAD y.Name y.Density y.Twist y.Strength y.Dye [.str turns]) [] (.tuple (kAD res.1.Name res.1.Density res.1.Twist res.1.Strength res.1.Dye [.i res.2])) []:=by
 unfold qbu at h;refine Ub Tryz.func15 rfl rfl (m:=42) rfl (rs:=[.cell 4 32,.tmp 5]) rfl (l:=(kAE y.Name y.Density y.Twist y.Strength y.Dye [(1,.str turns)])) rfl ?_;refine sg fol ((1,.str turns)::(kQ (kAT []))) (kA y.Name y.Density y.Twist y.Strength y.Dye (kF [])) ?_;refine sq ?_;obtain⟨c,g,h⟩:=bnd h;obtain⟨d,j,h⟩:=bnd h;obtain⟨f,k,h⟩:=bnd h;refine sq (gq fol [1,3,5] ((1,.str turns)::(kQ (kAT [(6,.i f)]))) (kA y.Name y.Density y.Twist y.Strength y.Dye (kF (kA5 c d))) (ac (cv (qbw N y g)) (ac (cv (qa6 N turns j)) (ac (hs (.call 41 [.slice 2 0 2 2 1] (kA y.Name y.Density y.Twist y.Strength y.Dye (kF (kA5 c d))) [2] [vl encI ([c,d]:List Int)] (.i f)) (qdN (FzL.cons (Fz.lit rfl rfl (Ug (AllST.cons tI (AllST.cons tI AllST.nil)))) FzL.nil) (qae N ([c,d]:List Int) k) tI rfl)) az))) ?_);refine sh fol ((1,.str turns)::(kQ (kAT [(6,.i f),(17,.bool (!decide (f=0)))]))) ?_;refine ihB h (fun r h=>?_) (fun r h=>?_)
 ·refine sh fol (kAT (kA8 f)) ?_;refine Goes.ret ?_;obtain rfl:=si h;exact(gw2 (kAW f) (FzW.tuple (qd.cons (FzW.agg (qd.cons (Ua tS) (qd.cons (Ua tS) (qd.cons (Ua tS) (qd.cons (FzW.nilv (E:=qg)) (qd.cons (Ua tS) qd.nil)))))) (qd.cons (Ua tI) qd.nil))))
 refine Goes.skip ?_;obtain⟨s,n,h⟩:=bnd h;obtain⟨t,o,h⟩:=bnd h;obtain⟨u,p,h⟩:=bnd h;obtain⟨a,q,h⟩:=bnd h;refine sq (gr fol [2,4,5,6] (kQ (kAT [(7,.str a.1),(8,.i a.2)])) (ac (cv (jA N y.Twist n)) (ac (cv (jA N turns o)) (ac (cv (qa5 N s t p)) (ac (cv (qbt N u q)) az)))) ?_);refine sq ?_;refine sh fol (kQ (kAT [(7,.str a.1),(8,.i a.2),(31,.bool (!decide (a.2=0)))])) ?_;refine ihB h (fun v h=>?_) (fun v h=>?_)
 ·refine sh fol (kAT (kA8 a.2)) ?_;refine Goes.ret ?_;obtain rfl:=si h;exact(gw2 (kAW a.2) (FzW.tuple (qd.cons (FzW.agg (qd.cons (Ua tS) (qd.cons (Ua tS) (qd.cons (Ua tS) (qd.cons (FzW.nilv (E:=qg)) (qd.cons (Ua tS) qd.nil)))))) (qd.cons (Ua tI) qd.nil))))
 refine Goes.skip ?_;refine sg fol (kQ (kAT [(7,.str a.1),(9,.ptr 3 0)])) (kA y.Name y.Density y.Twist y.Strength y.Dye (kF (.cells [.i c,.i d]::(kA y.Name y.Density y.Twist y.Strength y.Dye [])))) ?_;obtain⟨b,e,h⟩:=bnd h;refine sq (gq fol [3] (kAT [(9,.ptr 3 0)]) (kA y.Name y.Density y.Twist y.Strength y.Dye (kF (.cells [.i c,.i d]::(kA y.Name y.Density a.1 b y.Dye [])))) (ac (cv (qem y.Strength e)) az) ?_);refine sg fol (kAT [(5,.i 0)]) (kA y.Name y.Density y.Twist y.Strength y.Dye (kA y.Name y.Density a.1 b y.Dye (.cells [.i c,.i d]::(kA y.Name y.Density a.1 b y.Dye [])))) ?_;refine Goes.ret ?_;obtain rfl:=si h;exact(gw2 (kAD y.Name y.Density a.1 b y.Dye [.i 0]) (FzW.tuple (qd.cons (FzW.agg (qd.cons (Ua tS) (qd.cons (Ua tS) (qd.cons (Ua tS) (qd.cons (Ua (qB qg _ (nl rfl))) (qd.cons (Ua tS) qd.nil)))))) (qd.cons (Ua tI) qd.nil))))
def qaY (N:Nat) (y:qh):Option (Str×Int):=
 (zl N y).bind fun b=>
 if(!decide (b=0))=true then
 some ([],b)
 else
 (je N y.Twist).bind fun d=>
 (jm N y d).bind fun a=>
 if(!decide (a.2=0))=true then
 some ([],a.2)
 else
 (xH N a.1).bind fun c=>
 some (c.1,c.2)
theorem qgM (N:Nat) (y:qh) {res:Str×Int} (h:qaY N y=some res):qb ZT (.fn 16) [.agg (kAn y.Name y.Density y.Twist y.Strength y.Dye)] [] (.tuple [.str res.1,.i res.2]) []:=by
 unfold qaY at h;refine Ub Tryz.func16 rfl rfl (m:=27) rfl (rs:=[.tmp 2,.tmp 3]) rfl (l:=(kAE y.Name y.Density y.Twist y.Strength y.Dye [])) rfl ?_;refine sg fol (kV []) (kA y.Name y.Density y.Twist y.Strength y.Dye []) ?_;refine sq ?_;obtain⟨b,c,h⟩:=bnd h;refine sq (gr fol [1] (kV (kBW b)) (ac (cv (qbw N y c)) az) ?_);refine sh fol (kV ((4,.i b)::(kBh (!decide (b=0))))) ?_;refine ihB h (fun j h=>?_) (fun j h=>?_)
 ·refine sh fol [(2,.str []),(3,.i b)] ?_;refine Goes.ret ?_;obtain rfl:=si h;exact(gw2 [.str [],.i b] (FzW.tuple (qd.cons (Ua tS) (qd.cons (Ua tI) qd.nil))))
 refine Goes.skip ?_;obtain⟨k,d,h⟩:=bnd h;obtain⟨a,e,h⟩:=bnd h;refine sq (gq fol [3,4,9] [(5,.ptr 1 0),(6,.i a.2)] (kA y.Name y.Density y.Twist y.Strength y.Dye [.cells (nq1 a.1)]) (ac (cv (jA N y.Twist d)) (ac (cv (qai N y k e)) (ac (hs (.run [1] (qx ZT 100 (.ptr 1 0) (.agg (nq1 a.1))) (kA y.Name y.Density y.Twist y.Strength y.Dye (kC [])) .undef (kA y.Name y.Density y.Twist y.Strength y.Dye [.cells (nq1 a.1)]) true) (qV (n:=4) (by kernel_rfl) rfl rfl rfl rfl (cac rfl (cac nvc (cac rfl (cac nvc can)))) rfl)) az))) ?_);refine sq ?_;refine sh fol [(5,.ptr 1 0),(6,.i a.2),(21,.bool (!decide (a.2=0)))] ?_;refine ihB h (fun o h=>?_) (fun o h=>?_)
 ·refine sh fol [(2,.str []),(3,.i a.2)] ?_;refine Goes.ret ?_;obtain rfl:=si h;exact(gw2 [.str [],.i a.2] (FzW.tuple (qd.cons (Ua tS) (qd.cons (Ua tI) qd.nil))))
 refine Goes.skip ?_;obtain⟨g,f,h⟩:=bnd h;refine sq (gr fol [1] [(2,.str g.1),(3,.i g.2)] (ac (cv (qbt N a.1 f)) az) ?_);refine Goes.ret ?_;obtain rfl:=si h;exact(gw2 [.str g.1,.i g.2] (FzW.tuple (qd.cons (Ua tS) (qd.cons (Ua tI) qd.nil))))
end Go.Av
