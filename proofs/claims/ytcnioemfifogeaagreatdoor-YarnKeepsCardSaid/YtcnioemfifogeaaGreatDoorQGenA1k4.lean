/-
  Walks of functions: what each computes, as a plain function.
-/
import Derived.Test.YtcnioemfifogeaaGreatDoorQGenA1k3
noncomputable section
namespace Go.Av
open Go.Proofs Go.RowKit
set_option linter.unusedSectionVars false
set_option linter.unusedVariables false
set_option linter.unusedSimpArgs false
set_option maxRecDepth 100000
def qdG (N:Nat) (l:List qw):Nat->Int->(List qH)->(List qp)->(List zU)->Int->Option (Int×(List qH)×(List qp)×(List zU))
 |0,_,_,_,_,_=>none
 |K+1,d,e,f,h,g=>
  if g<(l.length:Int)then
  (((idx l g).bind fun b=>
  (qdz N (⟨d,e,f⟩:StateT) b).bind fun c=>
  if(!decide (c=0))=true then
  (app 16 h [(⟨w64 (g+1),c⟩:zU)]).bind fun i=>
  some (d,e,f,i)
  else
  (qbL N (⟨d,e,f⟩:StateT) b).bind fun a=>
  some (a.Day,a.Lots,a.Holds,h):Option (Int×(List qH)×(List qp)×(List zU)))).bind fun(j,k,m,n)=>
  qdG N l K j k m n (w64 (g+1))
  else
  some (d,e,f,h)
def qhG (N:Nat) (l:List qw):Option (StateT×(List zU)):=
 (qdG N l N 0 ([]:List qH) ([]:List qp) ([]:List zU) 0).bind fun(a,b,c,d)=>
 some ((⟨a,b,c⟩:StateT),d)
theorem qpZ (N:Nat) (l:List qw) {res:StateT×(List zU)} (h:qhG N l=some res):qE ZT (.fn 49) [vl qJ l] [] (.tuple (kY res.1.Day res.1.Lots res.1.Holds [vl ze res.2])) []:=by
 unfold qhG at h
 refine Uc Tryz.func49 rfl rfl (m:=34) rfl (rs:=[.cell 2 30,.tmp 3]) rfl (l:=(kS l [])) rfl ?_
 refine sg fol (kS l (kAC [])) (kF []) ?_
 refine sg fol (kS l (kQ [])) (kF (kF [])) ?_
 refine sh fol (kS l (kQ [(5,.nilslice)])) ?_
 refine sq ?_
 refine sh fol (kQ [(5,.nilslice),(9,vl qJ l),(10,.i (l.length:Int)),(11,.i 0)]) ?_
 refine Goes.block ?_
 obtain⟨C,g10,h⟩:=bnd h
 refine Goes.imp (Q:=fun x s'=>(x= .exit 0/\ ∃z A B t,(z,A,B,t)=C/\Sub s' (ofG 34 (kQ (kAh t [])),(kF (kD z A B (kO t [])))))) ?_ ?_
 ·refine Goes.sub (s':=(ofG 34 (kQ [(5,.gslice 2 ([]:List zU).length 2),(9,vl qJ l),(10,.i (l.length:Int)),(11,.i 0)]),(kF [.cells [.i 0,vl qo ([]:List qH),vl qg ([]:List qp)],.cells (([]:List zU).flatMap ze.c)]))) (Sub.norm [] [some 0,some 1,none] rfl rfl (.kp (.kp (.keep .nil (.keep (.same (zu qJ _)) (.keep (.same nI) (.keep (.same nI) .nil)))))) (.kb rfl (.same sn) (.kb rfl (.cells (rc (.same nI) (rc (.nilv) (rc (.nilv) rn)))) (.fresh .nil)))) ?_
  refine Ud (fun M s=> ∃(j:Int) (k:List qH) (n:List qp) (f:List zU) (b:Int),s=(ofG 34 (kQ (kAh f (kAR l (l.length:Int) b []))),(kF (kD j k n (kO f []))))/\qdG N l M j k n f b=some C) ?_ (m:=N) ⟨_,_,_,_,_,rfl,g10⟩
  rintro M s ⟨j,k,n,f,b,rfl,g10⟩
  cases M with
  |zero=>simp only[qdG]at g10;cases g10
  |succ M=>
   rw[qdG]at g10
   refine sh fol (kQ (kAh f (kAR l (l.length:Int) b [(12,.bool (decide (b<(l.length:Int))))]))) ?_
   refine sq ?_
   refine ihD g10 (fun D g10=>?_) (fun D g10=>?_)
   ·refine Goes.skip ?_
    refine sq ?_
    obtain⟨F,g16,g10⟩:=bnd g10
    refine Goes.imp (Q:=fun x s'=>(x= .normal/\ ∃o p q d,(o,p,q,d)=F/\Sub s' (ofG 34 (kQ (kAh d (kAR l (l.length:Int) b []))),(kF (kD o p q (kO d [])))))) ?_ ?_
    ·refine Goes.block ?_
     obtain⟨a,g,g16⟩:=bnd g16
     refine sq (gq fol [1,2] (kQ (kAh f ((6,.i b)::(7,.ptr 3 0)::(kAR l (l.length:Int) b [])))) (kF (kD j k n (kO f (kE a.Kind a.Day a.Lot a.Amount a.Yarn a.Dye a.Order [])))) (ac (iv quP qJ g) (ac (la ag56 qJ g) az)) ?_)
     refine sq ?_
     obtain⟨e,u,g16⟩:=bnd g16
     refine sq (gr fol [2] (kQ (kAh f ((6,.i b)::(7,.ptr 3 0)::(8,.i e)::(kAR l (l.length:Int) b [])))) (ac (cv (qhW N (⟨j,k,n⟩:StateT) a u)) az) ?_)
     refine sh fol (kQ (kAh f ((6,.i b)::(7,.ptr 3 0)::(8,.i e)::(kAR l (l.length:Int) b [(20,.bool (!decide (e=0)))])))) ?_
     refine ihB g16 (fun G g16=>?_) (fun G g16=>?_)
     ·obtain⟨r,v,g16⟩:=bnd g16
      refine sq (gq fol [6] (kQ ((5,.gslice 5 r.length 2)::(kAR l (l.length:Int) b []))) (kF (kD j k n (.dead::(kE a.Kind a.Day a.Lot a.Amount a.Yarn a.Dye a.Order (.cells [.i (w64 (b+1)),.i e]::(kO r [])))))) (ac (hs (.run [2,4] (qe9 ZT [31,31] (.gslice 2 f.length 2) (.slice 4 0 1 1 2)) (kF (kD j k n (kO f (kE a.Kind a.Day a.Lot a.Amount a.Yarn a.Dye a.Order (kAU (w64 (b+1)) e))))) (.gslice 5 r.length 2) (kF (kD j k n (.dead::(kE a.Kind a.Day a.Lot a.Amount a.Yarn a.Dye a.Order (.cells [.i (w64 (b+1)),.i e]::(kO r [])))))) true) (qjy sl31 (E:=ze) rfl (qo7 (E:=ze) (ys:=[(⟨w64 (b+1),e⟩:zU)]) rfl rfl rfl rfl) (qqc (E:=ze) (l:=f) rfl rfl rfl v rfl))) az) ?_)
      refine Goes.exit ?_
      obtain rfl:=si g16
      exact⟨rfl,_,_,_,_,rfl,(Sub.norm [] [some 0,some 1,some 5] rfl rfl (.kp (.kp (.keep (.gslice rfl) (.keep (.same (zu qJ _)) (.keep (.same nI) (.keep (.same nI) .nil)))))) (.kb rfl (.same sn) (.kb rfl (.same sn) (.ks .nil))))⟩
     refine Goes.skip ?_
     obtain⟨w,y,g16⟩:=bnd g16
     refine gq fol [2] (kQ (kAh f (kAR l (l.length:Int) b []))) (kF (kD w.Day w.Lots w.Holds (kO f (kE a.Kind a.Day a.Lot a.Amount a.Yarn a.Dye a.Order [])))) (ac (cv (qgl N (⟨j,k,n⟩:StateT) a y)) az) ?_
     obtain rfl:=si g16
     exact⟨rfl,_,_,_,_,rfl,(Sub.norm [] [some 0,some 1,some 2] rfl rfl (.kp (.kp (.keep (.gslice rfl) (.keep (.same (zu qJ _)) (.keep (.same nI) (.keep (.same nI) .nil)))))) (.kb rfl (.same sn) (.kb rfl (.same sn) (.ks .nil))))⟩
    rintro x s' ⟨rfl,o,p,q,d,rfl,hsub⟩
    try dsimp only at g10
    refine Goes.sub hsub ?_
    refine gh fol (kQ (kAh d (kAR l (l.length:Int) (w64 (b+1)) []))) ?_
    exact⟨M,(ofG 34 (kQ (kAh d (kAR l (l.length:Int) (w64 (b+1)) []))),(kF (kD o p q (kO d [])))),Nat.lt_succ_self _,(Sub.refl _),_,_,_,_,_,rfl,g10⟩
   refine Goes.exit ?_
   obtain rfl:=si g10
   exact⟨rfl,_,_,_,_,rfl,(Sub.keep [2,4,5] rfl rfl)⟩
 rintro x s' ⟨rfl,z,A,B,t,rfl,hsub⟩
 try dsimp only at h
 refine Goes.sub hsub ?_
 refine sg fol (kAC [(3,.gslice 2 t.length 2)]) (kD z A B (kD z A B (kO t []))) ?_
 refine Goes.ret ?_
 obtain rfl:=si h
 exact(gw2 (kY z A B [.gslice 2 t.length 2]) (FzW.tuple (ky.cons (FzW.agg (ky.cons (Ub tI) (ky.cons (Ub (qG qo _ (nl rfl))) (ky.cons (Ub (qG qg _ (nl rfl))) ky.nil)))) (ky.cons (FzW.fz (Fz.gs (E:=ze) rfl rfl (nl rfl))) ky.nil))))
def qgq (N:Nat) (l:List qw):Option (StateT×(List zU)×Int):=
 (qfS N l).bind fun a=>
 if(!decide (a=0))=true then
 some ((⟨0,[],[]⟩:StateT),[],a)
 else
 (qhG N l).bind fun b=>
 some (b.1,b.2,0)
theorem qlE (N:Nat) (l:List qw) {res:StateT×(List zU)×Int} (h:qgq N l=some res):qE ZT (.fn 11) [vl qJ l] [] (.tuple (kY res.1.Day res.1.Lots res.1.Holds [vl ze res.2.1,.i res.2.2])) []:=by
 unfold qgq at h
 refine Uc Tryz.func11 rfl rfl (m:=21) rfl (rs:=[.cell 2 30,.tmp 3,.tmp 4]) rfl (l:=(kS l [])) rfl ?_
 refine sg fol (kS l (kAC [])) (kF []) ?_
 refine sq ?_
 obtain⟨b,c,h⟩:=bnd h
 refine sq (gr fol [1] (kS l (kAC (kAd b))) (ac (cv (qo1 N l c)) az) ?_)
 refine sh fol (kS l (kAC [(5,.i b),(11,.bool (!decide (b=0)))])) ?_
 refine ihB h (fun e h=>?_) (fun e h=>?_)
 ·refine sh fol (kAC ((3,.nilslice)::(kAn b))) ?_
  refine Goes.ret ?_
  obtain rfl:=si h
  exact(gw2 [.agg [.i 0,.nilslice,.nilslice],.nilslice,.i b] (FzW.tuple (ky.cons (FzW.agg (ky.cons (Ub tI) (ky.cons (FzW.nilv (E:=qo)) (ky.cons (FzW.nilv (E:=qg)) ky.nil)))) (ky.cons (FzW.nilv (E:=ze)) (ky.cons (Ub tI) ky.nil)))))
 refine Goes.skip ?_
 obtain⟨a,d,h⟩:=bnd h
 refine sq (gq fol [1] (kAC [(6,.ptr 1 0),(7,vl ze a.2)]) (kF (kD a.1.Day a.1.Lots a.1.Holds [])) (ac (cv (qpZ N l d)) az) ?_)
 refine sg fol (kAC [(3,vl ze a.2),(4,.i 0)]) (kD a.1.Day a.1.Lots a.1.Holds (kD a.1.Day a.1.Lots a.1.Holds [])) ?_
 refine Goes.ret ?_
 obtain rfl:=si h
 exact(gw2 (kY a.1.Day a.1.Lots a.1.Holds [vl ze a.2,.i 0]) (FzW.tuple (ky.cons (FzW.agg (ky.cons (Ub tI) (ky.cons (Ub (qG qo _ (nl rfl))) (ky.cons (Ub (qG qg _ (nl rfl))) ky.nil)))) (ky.cons (Ub (qG ze _ (nl rfl))) (ky.cons (Ub tI) ky.nil)))))
def qeV (n:Int) (least:Int) (most:Int):Option Bool:=
 (if n<least then
 some true
 else
 some (decide (n>most)):Option Bool).bind fun a=>
 some a
theorem qdX (n:Int) (least:Int) (most:Int) {res:Bool} (h:qeV n least most=some res):qE ZT (.fn 60) [.i n,.i least,.i most] [] (.bool res) []:=by
 unfold qeV at h
 refine Uc Tryz.func60 rfl rfl (m:=15) rfl (rs:=[.tmp 6]) rfl (l:=((0,.i n)::(1,.i least)::(kAt most))) rfl ?_
 refine sh fol ((0,.i n)::(1,.i least)::(kAt most)) ?_
 refine sq ?_
 obtain⟨c,a,h⟩:=bnd h
 refine Goes.cut (s':=(ofG 15 [(6,.bool c)],[])) ?_ ?_
 ·rcases wyD a with⟨b,a⟩|⟨b,a⟩
  ·obtain rfl:=si a
   exact tr fol [3] [(6,.bool true)] (ac (gw b) az)
  obtain rfl:=si a
  exact tr fol [3] [(6,.bool (decide (n>most)))] (ac (gw b) az)
 refine Goes.ret ?_
 obtain rfl:=si h
 exact(gw2 [.bool c] (Ub tB))
def qdm (c:Str):Nat->Int->Option (Unit⊕Bool)
 |0,_=>none
 |K+1,b=>
  if b<(c.length:Int)then
  (idx c b).bind fun a=>
  (if(a.toNat:Int)>=97 then
  if(a.toNat:Int)<=122 then
  some true
  else
  if(a.toNat:Int)>=65 then
  some (decide ((a.toNat:Int)<=90))
  else
  some false
  else
  if(a.toNat:Int)>=65 then
  some (decide ((a.toNat:Int)<=90))
  else
  some false:Option Bool).bind fun d=>
  (if(!d)=true then
  if b=0 then
  some true
  else
  if(a.toNat:Int)>=48 then
  if(a.toNat:Int)<=57 then
  some false
  else
  some (!(decide ((a.toNat:Int)=95)))
  else
  some (!(decide ((a.toNat:Int)=95)))
  else
  some false:Option Bool).bind fun e=>
  if e=true then
  some (.inr false)
  else
  qdm c K (w64 (b+1))
  else
  some (.inl ())
def qbC (N:Nat) (a:Str):Option Bool:=
 (if(a.length:Int)<1 then
 some true
 else
 some (decide ((a.length:Int)>24)):Option Bool).bind fun c=>
 if c=true then
 some false
 else
 (qdm a N 0).bind (fun
 |(.inl ())=>
 some true
 |(.inr b)=>
 some b)
theorem xA (N:Nat) (c:Str) {res:Bool} (h:qbC N c=some res):qE ZT (.fn 61) [.str c] [] (.bool res) []:=by
 unfold qbC at h
 refine Uc Tryz.func61 rfl rfl (m:=56) rfl (rs:=[.tmp 2]) rfl (l:=[(0,.str c)]) rfl ?_
 refine sh fol [(0,.str c)] ?_
 refine sq ?_
 refine sq ?_
 obtain⟨B,e,h⟩:=bnd h
 refine Goes.cut (s':=(ofG 56 [(0,.str c),(13,.bool B)],[])) ?_ ?_
 ·rcases wyD e with⟨u,e⟩|⟨u,e⟩
  ·obtain rfl:=si e
   exact tr fol [3] [(0,.str c),(13,.bool true)] (ac (gw u) az)
  obtain rfl:=si e
  exact tr fol [3] [(0,.str c),(13,.bool (decide ((c.length:Int)>24)))] (ac (gw u) az)
 refine ihB h (fun C h=>?_) (fun C h=>?_)
 ·refine sh fol kAQ ?_
  refine Goes.ret ?_
  obtain rfl:=si h
  exact(gw2 [.bool false] (Ub tB))
 refine Goes.skip ?_
 refine sq ?_
 refine sh fol [(0,.str c),(3,.i 0)] ?_
 refine Goes.block ?_
 obtain⟨v,g6,h⟩:=bnd h
 refine Goes.imp (Q:=fun x s'=>(x= .exit 0/\(.inl ())=v/\Sub s' (ofG 56 [],[]))\/(x= .ret/\ ∃A,(.inr A)=v/\jT ZT [.tmp 2] (.bool A) .ret s')) ?_ ?_
 ·refine Ud (fun M s=> ∃(d:Int),s=(ofG 56 (kAc c d []),[])/\qdm c M d=some v) ?_ (m:=N) ⟨_,rfl,g6⟩
  rintro M s ⟨d,rfl,g6⟩
  cases M with
  |zero=>simp only[qdm]at g6;cases g6
  |succ M=>
   rw[qdm]at g6
   refine sq ?_
   refine sh fol (kAc c d [(17,.bool (decide (d<(c.length:Int))))]) ?_
   refine ihD g6 (fun D g6=>?_) (fun D g6=>?_)
   ·refine Goes.skip ?_
    refine sq (Goes.block ?_)
    obtain⟨j,t,g6⟩:=bnd g6
    refine sq (gr fol [2] (kAc c d [(4,.int .u8 (j.toNat:Int))]) (ac (hs (.done (.opt (qnz ZT 9 (.str c) (.i d))) (.int .u8 (j.toNat:Int))) (qyt st9 t)) az) ?_)
    refine sq ?_
    obtain⟨w,a,g6⟩:=bnd g6
    refine Goes.cut (s':=(ofG 56 (kAc c d [(4,.int .u8 (j.toNat:Int)),(5,.bool w)]),[])) ?_ ?_
    ·rcases wyD a with⟨f,a⟩|⟨f,a⟩
     ·rcases wyD a with⟨n,a⟩|⟨n,a⟩
      ·obtain rfl:=si a
       exact tr fol [2,6] (kAc c d [(4,.int .u8 (j.toNat:Int)),(5,.bool true)]) (ac (gw f) (ac (gw n) az))
      rcases wyD a with⟨p,a⟩|⟨p,a⟩
      ·obtain rfl:=si a
       exact tr fol [2,6,9] (kAc c d [(4,.int .u8 (j.toNat:Int)),(5,.bool (decide ((j.toNat:Int)<=90)))]) (ac (gw f) (ac (gw n) (ac (gw p) az)))
      obtain rfl:=si a
      exact tr fol [2,6,9] (kAc c d [(4,.int .u8 (j.toNat:Int)),(5,.bool false)]) (ac (gw f) (ac (gw n) (ac (gw p) az)))
     rcases wyD a with⟨q,a⟩|⟨q,a⟩
     ·obtain rfl:=si a
      exact tr fol [2,9] (kAc c d [(4,.int .u8 (j.toNat:Int)),(5,.bool (decide ((j.toNat:Int)<=90)))]) (ac (gw f) (ac (gw q) az))
     obtain rfl:=si a
     exact tr fol [2,9] (kAc c d [(4,.int .u8 (j.toNat:Int)),(5,.bool false)]) (ac (gw f) (ac (gw q) az))
    refine sq ?_
    obtain⟨y,b,g6⟩:=bnd g6
    refine Goes.cut (s':=(ofG 56 (kAc c d [(55,.bool y)]),[])) ?_ ?_
    ·rcases wyB b with⟨g,b⟩|⟨g,b⟩
     ·rcases wyD b with⟨k,b⟩|⟨k,b⟩
      ·obtain rfl:=si b
       exact tr fol [2,5] (kAc c d [(55,.bool true)]) (ac (gw g) (ac (gw k) az))
      rcases wyD b with⟨o,b⟩|⟨o,b⟩
      ·rcases wyD b with⟨r,b⟩|⟨r,b⟩
       ·obtain rfl:=si b
        exact tr fol [2,5,8,12] (kAc c d [(55,.bool false)]) (ac (gw g) (ac (gw k) (ac (gw o) (ac (gw r) az))))
       obtain rfl:=si b
       exact tr fol [2,5,8,12] (kAc c d [(55,.bool (!(decide ((j.toNat:Int)=95))))]) (ac (gw g) (ac (gw k) (ac (gw o) (ac (gw r) az))))
      obtain rfl:=si b
      exact tr fol [2,5,8] (kAc c d [(55,.bool (!(decide ((j.toNat:Int)=95))))]) (ac (gw g) (ac (gw k) (ac (gw o) az)))
     obtain rfl:=si b
     exact tr fol [2] (kAc c d [(55,.bool false)]) (ac (gw g) az)
    refine ihB g6 (fun z g6=>?_) (fun z g6=>?_)
    ·refine sh fol kAQ ?_
     refine Goes.ret ?_
     obtain rfl:=si g6
     exact Or.inr (⟨rfl,_,rfl,(gw2 [.bool false] (Ub tB))⟩)
    refine Goes.skip ?_
    refine gh fol (kAc c (w64 (d+1)) []) ?_
    exact⟨M,(ofG 56 (kAc c (w64 (d+1)) []),[]),Nat.lt_succ_self _,(Sub.refl _),_,rfl,g6⟩
   refine Goes.exit ?_
   obtain rfl:=si g6
   exact Or.inl (⟨rfl,rfl,(Sub.keep [] rfl rfl)⟩)
 rintro x s' (⟨rfl,rfl,hsub⟩|⟨rfl,E,rfl,hret⟩)
 ·try dsimp only at h
  refine Goes.sub hsub ?_
  refine sh fol [(2,.bool true)] ?_
  refine Goes.ret ?_
  obtain rfl:=si h
  exact(gw2 [.bool true] (Ub tB))
 try dsimp only at h
 obtain rfl:=si h
 exact hret
def qgs (N:Nat) (a:Str):Option Bool:=
 (if(a==[])=true then
 some true
 else
 (qbC N a).bind fun b=>
 some b:Option Bool).bind fun c=>
 some c
theorem ql6 (N:Nat) (b:Str) {res:Bool} (h:qgs N b=some res):qE ZT (.fn 62) [.str b] [] (.bool res) []:=by
 unfold qgs at h
 refine Uc Tryz.func62 rfl rfl (m:=9) rfl (rs:=[.tmp 2]) rfl (l:=[(0,.str b)]) rfl ?_
 refine sh fol [(0,.str b)] ?_
 refine sq ?_
 obtain⟨e,a,h⟩:=bnd h
 refine Goes.cut (s':=(ofG 9 (kAV e),[])) ?_ ?_
 ·rcases wyB a with⟨d,a⟩|⟨d,a⟩
  ·obtain rfl:=si a
   exact tr fol [2] [(2,.bool true)] (ac (gw d) az)
  obtain⟨f,c,a⟩:=bnd a
  obtain rfl:=si a
  exact tr fol [2,4] (kAV f) (ac (gw d) (ac (cv (xA N b c)) az))
 refine Goes.ret ?_
 obtain rfl:=si h
 exact(gw2 [.bool e] (Ub tB))
def qei (N:Nat) (e:qw):Option Int:=
 (if(!(e.Kind==[114,101,99,101,105,118,101]))=true then
 if(!(e.Kind==[114,101,115,101,114,118,101]))=true then
 if(!(e.Kind==[114,101,108,101,97,115,101]))=true then
 if(!(e.Kind==[116,97,107,101]))=true then
 some (!(e.Kind==[114,101,116,117,114,110]))
 else
 some false
 else
 some false
 else
 some false
 else
 some false:Option Bool).bind fun j=>
 if j=true then
 some 13
 else
 ((qeV e.Day 0 99999).bind fun k=>
 if k=true then
 some true
 else
 (qeV e.Amount 1 999999999).bind fun a=>
 some a:Option Bool).bind fun b=>
 if b=true then
 some 3
 else
 (qbC N e.Lot).bind fun c=>
 if(!c)=true then
 some 8
 else
 if(e.Kind==[114,101,99,101,105,118,101])=true then
 ((qbC N e.Yarn).bind fun d=>
 if(!d)=true then
 some true
 else
 (qgs N e.Dye).bind fun f=>
 some (!f):Option Bool).bind fun g=>
 if g=true then
 some 8
 else
 if(!(e.Order==[]))=true then
 some 1
 else
 some 0
 else
 (qbC N e.Order).bind fun h=>
 if(!h)=true then
 some 8
 else
 (if(!(e.Yarn==[]))=true then
 some true
 else
 some (!(e.Dye==[])):Option Bool).bind fun i=>
 if i=true then
 some 1
 else
 some 0
theorem qm4 (N:Nat) (e:qw) {res:Int} (h:qei N e=some res):qE ZT (.fn 26) [.agg (kA e.Kind e.Day e.Lot e.Amount e.Yarn e.Dye e.Order)] [] (.i res) []:=by
 unfold qei at h
 refine Uc Tryz.func26 rfl rfl (m:=63) rfl (rs:=[.tmp 2]) rfl (l:=[(0,.agg [.str e.Kind,.i e.Day,.str e.Lot,.i e.Amount,.str e.Yarn,.str e.Dye,.str e.Order])]) rfl ?_
 refine sg fol (kU []) (kE e.Kind e.Day e.Lot e.Amount e.Yarn e.Dye e.Order []) ?_
 refine sh fol (kU [(3,.str e.Kind)]) ?_
 refine sq ?_
 refine sq ?_
 obtain⟨K,a,h⟩:=bnd h
 refine Goes.cut (s':=(ofG 63 (kU [(3,.str e.Kind),(23,.bool K)]),(kE e.Kind e.Day e.Lot e.Amount e.Yarn e.Dye e.Order []))) ?_ ?_
 ·rcases wyB a with⟨r,a⟩|⟨r,a⟩
  ·rcases wyB a with⟨s,a⟩|⟨s,a⟩
   ·rcases wyB a with⟨t,a⟩|⟨t,a⟩
    ·rcases wyB a with⟨u,a⟩|⟨u,a⟩
     ·obtain rfl:=si a
      exact tr fol [2,6,10,14] (kU [(3,.str e.Kind),(23,.bool (!(e.Kind==[114,101,116,117,114,110])))]) (ac (gw r) (ac (gw s) (ac (gw t) (ac (gw u) az))))
     obtain rfl:=si a
     exact tr fol [2,6,10,14] (kU [(3,.str e.Kind),(23,.bool false)]) (ac (gw r) (ac (gw s) (ac (gw t) (ac (gw u) az))))
    obtain rfl:=si a
    exact tr fol [2,6,10] (kU [(3,.str e.Kind),(23,.bool false)]) (ac (gw r) (ac (gw s) (ac (gw t) az)))
   obtain rfl:=si a
   exact tr fol [2,6] (kU [(3,.str e.Kind),(23,.bool false)]) (ac (gw r) (ac (gw s) az))
  obtain rfl:=si a
  exact tr fol [2] (kU [(3,.str e.Kind),(23,.bool false)]) (ac (gw r) az)
 refine ihB h (fun L h=>?_) (fun L h=>?_)
 ·refine sh fol [(2,.i 13)] ?_
  refine Goes.ret ?_
  obtain rfl:=si h
  exact(gw2 [.i 13] (Ub tI))
 refine Goes.skip ?_
 refine sq ?_
 refine sq ?_
 obtain⟨v,b,h⟩:=bnd h
 refine Goes.cut (s':=(ofG 63 (kU [(3,.str e.Kind),(31,.bool v)]),(kE e.Kind e.Day e.Lot e.Amount e.Yarn e.Dye e.Order []))) ?_ ?_
 ·obtain⟨O,g,b⟩:=bnd b
  rcases wyB b with⟨w,b⟩|⟨w,b⟩
  ·obtain rfl:=si b
   exact tr fol [2,3] (kU [(3,.str e.Kind),(31,.bool true)]) (ac (cv (qdX e.Day 0 99999 g)) (ac (gw w) az))
  obtain⟨x,j,b⟩:=bnd b
  obtain rfl:=si b
  exact tr fol [2,3,6] (kU [(3,.str e.Kind),(31,.bool x)]) (ac (cv (qdX e.Day 0 99999 g)) (ac (gw w) (ac (cv (qdX e.Amount 1 999999999 j)) az)))
 refine ihB h (fun y h=>?_) (fun y h=>?_)
 ·refine sh fol [(2,.i 3)] ?_
  refine Goes.ret ?_
  obtain rfl:=si h
  exact(gw2 [.i 3] (Ub tI))
 refine Goes.skip ?_
 refine sq ?_
 obtain⟨z,k,h⟩:=bnd h
 refine sq (gr fol [2] (kU [(3,.str e.Kind),(35,.bool (!z))]) (ac (cv (xA N e.Lot k)) az) ?_)
 refine ihB h (fun A h=>?_) (fun A h=>?_)
 ·refine sh fol [(2,.i 8)] ?_
  refine Goes.ret ?_
  obtain rfl:=si h
  exact(gw2 [.i 8] (Ub tI))
 refine Goes.skip ?_
 refine sq ?_
 refine sh fol (kU [(37,.bool (e.Kind==[114,101,99,101,105,118,101]))]) ?_
 refine ihB h (fun B h=>?_) (fun B h=>?_)
 ·refine sq ?_
  refine sq ?_
  obtain⟨C,c,h⟩:=bnd h
  refine Goes.cut (s':=(ofG 63 (kU [(47,.bool C)]),(kE e.Kind e.Day e.Lot e.Amount e.Yarn e.Dye e.Order []))) ?_ ?_
  ·obtain⟨M,f,c⟩:=bnd c
   rcases wyB c with⟨n,c⟩|⟨n,c⟩
   ·obtain rfl:=si c
    exact tr fol [2,4] (kU [(47,.bool true)]) (ac (cv (xA N e.Yarn f)) (ac (gw n) az))
   obtain⟨D,o,c⟩:=bnd c
   obtain rfl:=si c
   exact tr fol [2,4,7] (kU [(47,.bool (!D))]) (ac (cv (xA N e.Yarn f)) (ac (gw n) (ac (cv (ql6 N e.Dye o)) az)))
  refine ihB h (fun E h=>?_) (fun E h=>?_)
  ·refine sh fol [(2,.i 8)] ?_
   refine Goes.ret ?_
   obtain rfl:=si h
   exact(gw2 [.i 8] (Ub tI))
  refine Goes.skip ?_
  refine sq ?_
  refine sh fol [(50,.bool (!(e.Order==[])))] ?_
  refine ihB h (fun F h=>?_) (fun F h=>?_)
  ·refine sh fol [(2,.i 1)] ?_
   refine Goes.ret ?_
   obtain rfl:=si h
   exact(gw2 [.i 1] (Ub tI))
  refine Goes.skip ?_
  refine sh fol [(2,.i 0)] ?_
  refine Goes.ret ?_
  obtain rfl:=si h
  exact(gw2 [.i 0] (Ub tI))
 refine Goes.skip ?_
 refine sq ?_
 obtain⟨G,p,h⟩:=bnd h
 refine sq (gr fol [2] (kU [(54,.bool (!G))]) (ac (cv (xA N e.Order p)) az) ?_)
 refine ihB h (fun H h=>?_) (fun H h=>?_)
 ·refine sh fol [(2,.i 8)] ?_
  refine Goes.ret ?_
  obtain rfl:=si h
  exact(gw2 [.i 8] (Ub tI))
 refine Goes.skip ?_
 refine sq ?_
 refine sq ?_
 obtain⟨I,d,h⟩:=bnd h
 refine Goes.cut (s':=(ofG 63 [(62,.bool I)],(kE e.Kind e.Day e.Lot e.Amount e.Yarn e.Dye e.Order []))) ?_ ?_
 ·rcases wyB d with⟨q,d⟩|⟨q,d⟩
  ·obtain rfl:=si d
   exact tr fol [3] [(62,.bool true)] (ac (gw q) az)
  obtain rfl:=si d
  exact tr fol [3] [(62,.bool (!(e.Dye==[])))] (ac (gw q) az)
 refine ihB h (fun J h=>?_) (fun J h=>?_)
 ·refine sh fol [(2,.i 1)] ?_
  refine Goes.ret ?_
  obtain rfl:=si h
  exact(gw2 [.i 1] (Ub tI))
 refine Goes.skip ?_
 refine sh fol [(2,.i 0)] ?_
 refine Goes.ret ?_
 obtain rfl:=si h
 exact(gw2 [.i 0] (Ub tI))
def qbF (N:Nat) (l:List qw):Nat->Int->Option (Unit⊕Int)
 |0,_=>none
 |K+1,a=>
  if a<(l.length:Int)then
  (idx l a).bind fun c=>
  (qei N c).bind fun b=>
  if(!decide (b=0))=true then
  some (.inr b)
  else
  qbF N l K (w64 (a+1))
  else
  some (.inl ())
def qft (N:Nat) (l:List qw):Option Int:=
 if(l.length:Int)>1000 then
 some 5
 else
 (qbF N l N 0).bind (fun
 |(.inl ())=>
 some 0
 |(.inr a)=>
 some a)
theorem qol (N:Nat) (l:List qw) {res:Int} (h:qft N l=some res):qE ZT (.fn 13) [vl qJ l] [] (.i res) []:=by
 unfold qft at h
 refine Uc Tryz.func13 rfl rfl (m:=22) rfl (rs:=[.tmp 2]) rfl (l:=(kS l [])) rfl ?_
 refine sh fol (kS l []) ?_
 refine sq ?_
 refine sh fol (kS l [(7,.bool (decide ((l.length:Int)>1000)))]) ?_
 refine ihD h (fun g h=>?_) (fun g h=>?_)
 ·refine sh fol [(2,.i 5)] ?_
  refine Goes.ret ?_
  obtain rfl:=si h
  exact(gw2 [.i 5] (Ub tI))
 refine Goes.skip ?_
 refine sq ?_
 refine sh fol (kS l [(3,.i 0)]) ?_
 refine Goes.block ?_
 obtain⟨e,g3,h⟩:=bnd h
 refine Goes.imp (Q:=fun x s'=>(x= .exit 0/\(.inl ())=e/\Sub s' (ofG 22 [],[]))\/(x= .ret/\ ∃f,(.inr f)=e/\jT ZT [.tmp 2] (.i f) .ret s')) ?_ ?_
 ·refine Ud (fun M s=> ∃(a:Int),s=(ofG 22 (kS l [(3,.i a)]),[])/\qbF N l M a=some e) ?_ (m:=N) ⟨_,rfl,g3⟩
  rintro M s ⟨a,rfl,g3⟩
  cases M with
  |zero=>simp only[qbF]at g3;cases g3
  |succ M=>
   rw[qbF]at g3
   refine sq ?_
   refine sh fol (kS l [(3,.i a),(11,.bool (decide (a<(l.length:Int))))]) ?_
   refine ihD g3 (fun j g3=>?_) (fun j g3=>?_)
   ·refine Goes.skip ?_
    refine sq (Goes.block ?_)
    obtain⟨k,b,g3⟩:=bnd g3
    obtain⟨c,d,g3⟩:=bnd g3
    refine sq (gr fol [2,3,4] (kS l ((3,.i a)::(kAn c))) (ac (iv sl23 qJ b) (ac (la ag57 qJ b) (ac (cv (qm4 N k d)) az))) ?_)
    refine sh fol (kS l [(3,.i a),(4,.i c),(20,.bool (!decide (c=0)))]) ?_
    refine ihB g3 (fun n g3=>?_) (fun n g3=>?_)
    ·refine sh fol (kAt c) ?_
     refine Goes.ret ?_
     obtain rfl:=si g3
     exact Or.inr (⟨rfl,_,rfl,(gw2 [.i c] (Ub tI))⟩)
    refine Goes.skip ?_
    refine gh fol (kS l [(3,.i (w64 (a+1)))]) ?_
    exact⟨M,(ofG 22 (kS l [(3,.i (w64 (a+1)))]),[]),Nat.lt_succ_self _,(Sub.refl _),_,rfl,g3⟩
   refine Goes.exit ?_
   obtain rfl:=si g3
   exact Or.inl (⟨rfl,rfl,(Sub.keep [] rfl rfl)⟩)
 rintro x s' (⟨rfl,rfl,hsub⟩|⟨rfl,o,rfl,hret⟩)
 ·try dsimp only at h
  refine Goes.sub hsub ?_
  refine sh fol [(2,.i 0)] ?_
  refine Goes.ret ?_
  obtain rfl:=si h
  exact(gw2 [.i 0] (Ub tI))
 try dsimp only at h
 obtain rfl:=si h
 exact hret
def qd5 (a:qa6) (b:qa6):Nat->Int->Option (Unit⊕Bool)
 |0,_=>none
 |K+1,e=>
  if e<(a.Lots.length:Int)then
  (idx a.Lots e).bind fun c=>
  (idx b.Lots e).bind fun d=>
  if(!((c.Name==d.Name)&&((c.Yarn==d.Yarn)&&((c.Dye==d.Dye)&&(decide (c.Stock=d.Stock)&&true)))))=true then
  some (.inr false)
  else
  qd5 a b K (w64 (e+1))
  else
  some (.inl ())
def qd6 (a:qa6) (b:qa6):Nat->Int->Option (Unit⊕Bool)
 |0,_=>none
 |K+1,c=>
  if c<(a.Holds.length:Int)then
  (idx a.Holds c).bind fun d=>
  (idx b.Holds c).bind fun e=>
  if(!((d.Lot==e.Lot)&&((d.Order==e.Order)&&(decide (d.Reserved=e.Reserved)&&(decide (d.Taken=e.Taken)&&true)))))=true then
  some (.inr false)
  else
  qd6 a b K (w64 (c+1))
  else
  some (.inl ())
def qgd (N:Nat) (a:qa6) (b:qa6):Option Bool:=
 (if(!decide (a.Day=b.Day))=true then
 some true
 else
 if(!decide ((a.Lots.length:Int)=(b.Lots.length:Int)))=true then
 some true
 else
 some (!decide ((a.Holds.length:Int)=(b.Holds.length:Int))):Option Bool).bind fun e=>
 if e=true then
 some false
 else
 (qd5 a b N 0).bind (fun
 |(.inl ())=>
 (qd6 a b N 0).bind (fun
 |(.inl ())=>
 some true
 |(.inr c)=>
 some c)
 |(.inr d)=>
 some d)
theorem qfK (N:Nat) (a:qa6) (b:qa6) {res:Bool} (h:qgd N a b=some res):qE ZT (.fn 19) (kY a.Day a.Lots a.Holds (kY b.Day b.Lots b.Holds [])) [] (.bool res) []:=by
 unfold qgd at h
 refine Uc Tryz.func19 rfl rfl (m:=66) rfl (rs:=[.tmp 4]) rfl (l:=(kAA a.Day a.Lots a.Holds [(1,.agg [.i b.Day,vl qo b.Lots,vl qg b.Holds])])) rfl ?_
 refine sg fol (kL []) (kD a.Day a.Lots a.Holds (kD b.Day b.Lots b.Holds [])) ?_
 refine sq ?_
 refine sq ?_
 obtain⟨D,j,h⟩:=bnd h
 refine Goes.cut (s':=(ofG 66 (kL [(29,.bool D)]),(kD a.Day a.Lots a.Holds (kD b.Day b.Lots b.Holds [])))) ?_ ?_
 ·rcases wyB j with⟨v,j⟩|⟨v,j⟩
  ·obtain rfl:=si j
   exact tr fol [5] (kL [(29,.bool true)]) (ac (gw v) az)
  rcases wyB j with⟨w,j⟩|⟨w,j⟩
  ·obtain rfl:=si j
   exact tr fol [5,14] (kL [(29,.bool true)]) (ac (gw v) (ac (gw w) az))
  obtain rfl:=si j
  exact tr fol [5,14] (kL [(29,.bool (!decide ((a.Holds.length:Int)=(b.Holds.length:Int))))]) (ac (gw v) (ac (gw w) az))
 refine ihB h (fun E h=>?_) (fun E h=>?_)
 ·refine sh fol kAr ?_
  refine Goes.ret ?_
  obtain rfl:=si h
  exact(gw2 [.bool false] (Ub tB))
 refine Goes.skip ?_
 refine sq ?_
 refine sh fol (kL [(5,.i 0)]) ?_
 refine Goes.block ?_
 obtain⟨y,g7,h⟩:=bnd h
 refine Goes.imp (Q:=fun x s'=>(x= .exit 0/\(.inl ())=y/\Sub s' (ofG 66 (kL []),(kD a.Day a.Lots a.Holds (kD b.Day b.Lots b.Holds []))))\/(x= .ret/\ ∃C,(.inr C)=y/\jT ZT [.tmp 4] (.bool C) .ret s')) ?_ ?_
 ·refine Ud (fun M s=> ∃(r:Int),s=(ofG 66 (kL (kAd r)),(kD a.Day a.Lots a.Holds (kD b.Day b.Lots b.Holds [])))/\qd5 a b M r=some y) ?_ (m:=N) ⟨_,rfl,g7⟩
  rintro M s ⟨r,rfl,g7⟩
  cases M with
  |zero=>simp only[qd5]at g7;cases g7
  |succ M=>
   rw[qd5]at g7
   refine sq ?_
   refine sh fol (kL [(5,.i r),(34,.bool (decide (r<(a.Lots.length:Int))))]) ?_
   refine ihD g7 (fun F g7=>?_) (fun F g7=>?_)
   ·refine Goes.skip ?_
    refine sq (Goes.block ?_)
    obtain⟨c,n,g7⟩:=bnd g7
    obtain⟨d,o,g7⟩:=bnd g7
    refine sq (gr fol [3,4,8,9,10] (kL [(5,.i r),(47,.bool (!((c.Name==d.Name)&&((c.Yarn==d.Yarn)&&((c.Dye==d.Dye)&&(decide (c.Stock=d.Stock)&&true))))))]) (ac (iv qsK qo n) (ac (la ag84 qo n) (ac (iv qsK qo o) (ac (la ag84 qo o) (ac (hs (.done (.opt (qlB ZT .neq 84 (.tmp 41) (.tmp 46) (.agg [.str c.Name,.str c.Yarn,.str c.Dye,.i c.Stock]) (.agg [.str d.Name,.str d.Yarn,.str d.Dye,.i d.Stock]))) (.bool (!((c.Name==d.Name)&&((c.Yarn==d.Yarn)&&((c.Dye==d.Dye)&&(decide (c.Stock=d.Stock)&&true))))))) (qwM eqt84 (e:=((c.Name==d.Name)&&((c.Yarn==d.Yarn)&&((c.Dye==d.Dye)&&(decide (c.Stock=d.Stock)&&true))))) (.cons (a:= .str c.Name) (b:= .str d.Name) rfl (by kernel_rfl) (by kernel_rfl) (by kernel_rfl) (.cons (a:= .str c.Yarn) (b:= .str d.Yarn) rfl (by kernel_rfl) (by kernel_rfl) (by kernel_rfl) (.cons (a:= .str c.Dye) (b:= .str d.Dye) rfl (by kernel_rfl) (by kernel_rfl) (by kernel_rfl) (.cons (a:= .i c.Stock) (b:= .i d.Stock) rfl (by kernel_rfl) (by kernel_rfl) (by kernel_rfl) .nil)))))) az))))) ?_)
    refine ihB g7 (fun z g7=>?_) (fun z g7=>?_)
    ·refine sh fol kAr ?_
     refine Goes.ret ?_
     obtain rfl:=si g7
     exact Or.inr (⟨rfl,_,rfl,(gw2 [.bool false] (Ub tB))⟩)
    refine Goes.skip ?_
    refine gh fol (kL (kAd (w64 (r+1)))) ?_
    exact⟨M,(ofG 66 (kL (kAd (w64 (r+1)))),(kD a.Day a.Lots a.Holds (kD b.Day b.Lots b.Holds []))),Nat.lt_succ_self _,(Sub.refl _),_,rfl,g7⟩
   refine Goes.exit ?_
   obtain rfl:=si g7
   exact Or.inl (⟨rfl,rfl,(Sub.keep [2,3] rfl rfl)⟩)
 rintro x s' (⟨rfl,rfl,hsub⟩|⟨rfl,G,rfl,hret⟩)
 ·try dsimp only at h
  refine Goes.sub hsub ?_
  refine sq ?_
  refine sh fol (kL [(6,.i 0)]) ?_
  refine Goes.block ?_
  obtain⟨t,g14,h⟩:=bnd h
  refine Goes.imp (Q:=fun x s'=>(x= .exit 2/\(.inl ())=t/\Sub s' (ofG 66 [],[]))\/(x= .ret/\ ∃u,(.inr u)=t/\jT ZT [.tmp 4] (.bool u) .ret s')) ?_ ?_
  ·refine Ud (fun M s=> ∃(k:Int),s=(ofG 66 (kL [(6,.i k)]),(kD a.Day a.Lots a.Holds (kD b.Day b.Lots b.Holds [])))/\qd6 a b M k=some t) ?_ (m:=N) ⟨_,rfl,g14⟩
   rintro M s ⟨k,rfl,g14⟩
   cases M with
   |zero=>simp only[qd6]at g14;cases g14
   |succ M=>
    rw[qd6]at g14
    refine sq ?_
    refine sh fol (kL [(6,.i k),(52,.bool (decide (k<(a.Holds.length:Int))))]) ?_
    refine ihD g14 (fun A g14=>?_) (fun A g14=>?_)
    ·refine Goes.skip ?_
     refine sq (Goes.block ?_)
     obtain⟨f,p,g14⟩:=bnd g14
     obtain⟨g,q,g14⟩:=bnd g14
     refine sq (gr fol [3,4,8,9,10] (kL [(6,.i k),(65,.bool (!((f.Lot==g.Lot)&&((f.Order==g.Order)&&(decide (f.Reserved=g.Reserved)&&(decide (f.Taken=g.Taken)&&true))))))]) (ac (iv qtA qg p) (ac (la quG qg p) (ac (iv qtA qg q) (ac (la quG qg q) (ac (hs (.done (.opt (qlB ZT .neq 118 (.tmp 59) (.tmp 64) (.agg [.str f.Lot,.str f.Order,.i f.Reserved,.i f.Taken]) (.agg [.str g.Lot,.str g.Order,.i g.Reserved,.i g.Taken]))) (.bool (!((f.Lot==g.Lot)&&((f.Order==g.Order)&&(decide (f.Reserved=g.Reserved)&&(decide (f.Taken=g.Taken)&&true))))))) (qwM qyo (e:=((f.Lot==g.Lot)&&((f.Order==g.Order)&&(decide (f.Reserved=g.Reserved)&&(decide (f.Taken=g.Taken)&&true))))) (.cons (a:= .str f.Lot) (b:= .str g.Lot) rfl (by kernel_rfl) (by kernel_rfl) (by kernel_rfl) (.cons (a:= .str f.Order) (b:= .str g.Order) rfl (by kernel_rfl) (by kernel_rfl) (by kernel_rfl) (.cons (a:= .i f.Reserved) (b:= .i g.Reserved) rfl (by kernel_rfl) (by kernel_rfl) (by kernel_rfl) (.cons (a:= .i f.Taken) (b:= .i g.Taken) rfl (by kernel_rfl) (by kernel_rfl) (by kernel_rfl) .nil)))))) az))))) ?_)
     refine ihB g14 (fun B g14=>?_) (fun B g14=>?_)
     ·refine sh fol kAr ?_
      refine Goes.ret ?_
      obtain rfl:=si g14
      exact Or.inr (⟨rfl,_,rfl,(gw2 [.bool false] (Ub tB))⟩)
     refine Goes.skip ?_
     refine gh fol (kL [(6,.i (w64 (k+1)))]) ?_
     exact⟨M,(ofG 66 (kL [(6,.i (w64 (k+1)))]),(kD a.Day a.Lots a.Holds (kD b.Day b.Lots b.Holds []))),Nat.lt_succ_self _,(Sub.refl _),_,rfl,g14⟩
    refine Goes.exit ?_
    obtain rfl:=si g14
    exact Or.inl (⟨rfl,rfl,(Sub.norm [] [] rfl rfl .nil .nil)⟩)
  rintro x s' (⟨rfl,rfl,hsub⟩|⟨rfl,H,rfl,hret⟩)
  ·try dsimp only at h
   refine Goes.sub hsub ?_
   refine sh fol kAk ?_
   refine Goes.ret ?_
   obtain rfl:=si h
   exact(gw2 [.bool true] (Ub tB))
  try dsimp only at h
  obtain rfl:=si h
  exact hret
 try dsimp only at h
 obtain rfl:=si h
 exact hret
def qdI (a:StateT):Nat->(List qH)->Int->Option (List qH)
 |0,_,_=>none
 |K+1,c,b=>
  if b<(a.Lots.length:Int)then
  (idx a.Lots b).bind fun d=>
  (app 56 c [d]).bind fun e=>
  qdI a K e (w64 (b+1))
  else
  some c
def qdB (a:StateT):Nat->(List qp)->Int->Option (List qp)
 |0,_,_=>none
 |K+1,e,b=>
  if b<(a.Holds.length:Int)then
  (idx a.Holds b).bind fun c=>
  (app 48 e [c]).bind fun d=>
  qdB a K d (w64 (b+1))
  else
  some e
def qbK (N:Nat) (a:StateT):Option qa6:=
 (qdI a N ([]:List qH) 0).bind fun c=>
 (qdB a N ([]:List qp) 0).bind fun b=>
 some (⟨a.Day,c,b⟩:qa6)
theorem xu (N:Nat) (a:StateT) {res:qa6} (h:qbK N a=some res):qE ZT (.fn 20) [.agg (kG a.Day a.Lots a.Holds)] [] (.agg (kG res.Day res.Lots res.Holds)) []:=by
 unfold qbK at h
 refine Uc Tryz.func20 rfl rfl (m:=40) rfl (rs:=[.cell 2 43]) rfl (l:=(kAA a.Day a.Lots a.Holds [])) rfl ?_
 refine sg fol (kU [(2,.ptr 1 0)]) (kD a.Day a.Lots a.Holds (kF [])) ?_
 refine sg fol (kU [(2,.ptr 1 0),(3,.ptr 2 0)]) (kD a.Day a.Lots a.Holds (kF [.cells [.i a.Day,.nilslice,.nilslice]])) ?_
 refine sq ?_
 refine sh fol (kU (kAI a.Lots (a.Lots.length:Int) [(14,.i 0)])) ?_
 refine Goes.block ?_
 obtain⟨y,g4,h⟩:=bnd h
 refine Goes.imp (Q:=fun x s'=>(x= .exit 0/\ ∃e,e=y/\Sub s' (ofG 40 (kU [(2,.ptr 1 0),(3,.ptr 2 0)]),(kD a.Day a.Lots a.Holds (kF (kAf a.Day e (kT e []))))))) ?_ ?_
 ·refine Goes.sub (s':=(ofG 40 (kU (kAI a.Lots (a.Lots.length:Int) [(14,.i 0)])),(kD a.Day a.Lots a.Holds (kF [.cells [.i a.Day,.gslice 3 ([]:List qH).length 4,.nilslice],.cells (([]:List qH).flatMap qo.c)])))) (Sub.norm [] [some 0,some 1,some 2,none] rfl rfl (.kp (.kp (.kp (.keep (.same (zu qo _)) (.keep (.same nI) (.keep (.same nI) .nil)))))) (.kb rfl (.same sn) (.kb rfl (.same sn) (.kb rfl (.cells (rc (.same nI) (rc (.nil) (rc (.same (zY.nilslice)) rn)))) (.fresh .nil))))) ?_
  refine Ud (fun M s=> ∃(j:List qH) (o:Int),s=(ofG 40 (kU (kAI a.Lots (a.Lots.length:Int) [(14,.i o)])),(kD a.Day a.Lots a.Holds (kF (kAf a.Day j (kT j [])))))/\qdI a M j o=some y) ?_ (m:=N) ⟨_,_,rfl,g4⟩
  rintro M s ⟨j,o,rfl,g4⟩
  cases M with
  |zero=>simp only[qdI]at g4;cases g4
  |succ M=>
   rw[qdI]at g4
   refine sh fol (kU (kAI a.Lots (a.Lots.length:Int) [(14,.i o),(15,.bool (decide (o<(a.Lots.length:Int))))])) ?_
   refine sq ?_
   refine ihD g4 (fun z g4=>?_) (fun z g4=>?_)
   ·refine Goes.skip ?_
    refine sq (Goes.block ?_)
    obtain⟨d,q,g4⟩:=bnd g4
    refine sq (gq fol [0,1] (kU [(2,.ptr 1 0),(3,.ptr 2 0),(5,.ptr 4 0),(12,vl qo a.Lots),(13,.i (a.Lots.length:Int)),(14,.i o)]) (kD a.Day a.Lots a.Holds (kF (kAf a.Day j (kT j (kX d.Name d.Yarn d.Dye d.Stock []))))) (ac (iv qps qo q) (ac (la qr9 qo q) az)) ?_)
    obtain⟨t,u,g4⟩:=bnd g4
    refine gq fol [4] (kU (kAI a.Lots (a.Lots.length:Int) [(14,.i o)])) (kD a.Day a.Lots a.Holds (kF (.cells [.i a.Day,.gslice 6 t.length 4,.nilslice]:: .dead::(kX d.Name d.Yarn d.Dye d.Stock (kX d.Name d.Yarn d.Dye d.Stock (kT t [])))))) (ac (hs (.run [3,5] (qe9 ZT [40,40] (.gslice 3 j.length 4) (.slice 5 0 1 1 4)) (kD a.Day a.Lots a.Holds (kF (kAf a.Day j (kT j (kX d.Name d.Yarn d.Dye d.Stock (kX d.Name d.Yarn d.Dye d.Stock [])))))) (.gslice 6 t.length 4) (kD a.Day a.Lots a.Holds (kF (kAf a.Day j (.dead::(kX d.Name d.Yarn d.Dye d.Stock (kX d.Name d.Yarn d.Dye d.Stock (kT t []))))))) true) (qjy qsK (E:=qo) rfl (qo7 (E:=qo) (ys:=[d]) rfl rfl rfl rfl) (qqc (E:=qo) (l:=j) rfl rfl rfl u rfl))) az) ?_
    refine gh fol (kU (kAI a.Lots (a.Lots.length:Int) [(14,.i (w64 (o+1)))])) ?_
    exact⟨M,(ofG 40 (kU (kAI a.Lots (a.Lots.length:Int) [(14,.i (w64 (o+1)))])),(kD a.Day a.Lots a.Holds (kF (kAf a.Day t (kT t []))))),Nat.lt_succ_self _,(Sub.norm [] [some 0,some 1,some 2,some 6] rfl rfl (.kp (.kp (.kp (.keep (.same (zu qo _)) (.keep (.same nI) (.keep (.same nI) .nil)))))) (.kb rfl (.same sn) (.kb rfl (.same sn) (.kb rfl (.cells (rc (.same nI) (rc (.gslice rfl) (rc (.same (zY.nilslice)) rn)))) (.ks .nil))))),_,_,rfl,g4⟩
   refine Goes.exit ?_
   obtain rfl:=si g4
   exact⟨rfl,_,rfl,(Sub.keep [1,2,3] rfl rfl)⟩
 rintro x s' ⟨rfl,e,rfl,hsub⟩
 refine Goes.sub hsub ?_
 refine sq ?_
 refine sh fol ((2,.ptr 1 0)::(3,.ptr 2 0)::(kAi a.Holds (a.Holds.length:Int) [(28,.i 0)])) ?_
 refine Goes.block ?_
 obtain⟨v,g11,h⟩:=bnd h
 refine Goes.imp (Q:=fun x s'=>(x= .exit 2/\ ∃f,f=v/\Sub s' (ofG 40 (kL []),(kF (kAK a.Day e f (kT e (kH f []))))))) ?_ ?_
 ·refine Goes.sub (s':=(ofG 40 (kL (kAi a.Holds (a.Holds.length:Int) [(28,.i 0)])),(kF (.cells [.i a.Day,.gslice 2 e.length 4,.gslice 3 ([]:List qp).length 4]::(kT e [.cells (([]:List qp).flatMap qg.c)]))))) (Sub.norm [] [some 1,some 2,some 3,none] rfl rfl (.kp (.kp (.keep (.same (zu qg _)) (.keep (.same nI) (.keep (.same nI) .nil))))) (.kb rfl (.same sn) (.kb rfl (.cells (rc (.same nI) (rc (.gslice rfl) (rc (.nil) rn)))) (.ks (.fresh .nil))))) ?_
  refine Ud (fun M s=> ∃(k:List qp) (p:Int),s=(ofG 40 (kL (kAi a.Holds (a.Holds.length:Int) [(28,.i p)])),(kF (kAK a.Day e k (kT e (kH k [])))))/\qdB a M k p=some v) ?_ (m:=N) ⟨_,_,rfl,g11⟩
  rintro M s ⟨k,p,rfl,g11⟩
  cases M with
  |zero=>simp only[qdB]at g11;cases g11
  |succ M=>
   rw[qdB]at g11
   refine sh fol (kL (kAi a.Holds (a.Holds.length:Int) [(28,.i p),(29,.bool (decide (p<(a.Holds.length:Int))))])) ?_
   refine sq ?_
   refine ihD g11 (fun w g11=>?_) (fun w g11=>?_)
   ·refine Goes.skip ?_
    refine sq (Goes.block ?_)
    obtain⟨b,n,g11⟩:=bnd g11
    refine sq (gq fol [0,1] (kL ((7,.ptr 4 0)::(kAi a.Holds (a.Holds.length:Int) [(28,.i p)]))) (kF (kAK a.Day e k (kT e (kH k (kM b.Lot b.Order b.Reserved b.Taken []))))) (ac (iv qhR qg n) (ac (la qqT qg n) az)) ?_)
    obtain⟨g,r,g11⟩:=bnd g11
    refine gq fol [4] (kL (kAi a.Holds (a.Holds.length:Int) [(28,.i p)])) (kF (.cells [.i a.Day,.gslice 2 e.length 4,.gslice 6 g.length 4]::(kT e (.dead::(kM b.Lot b.Order b.Reserved b.Taken (kM b.Lot b.Order b.Reserved b.Taken (kH g []))))))) (ac (hs (.run [3,5] (qe9 ZT [41,41] (.gslice 3 k.length 4) (.slice 5 0 1 1 4)) (kF (kAK a.Day e k (kT e (kH k (kM b.Lot b.Order b.Reserved b.Taken (kM b.Lot b.Order b.Reserved b.Taken [])))))) (.gslice 6 g.length 4) (kF (kAK a.Day e k (kT e (.dead::(kM b.Lot b.Order b.Reserved b.Taken (kM b.Lot b.Order b.Reserved b.Taken (kH g []))))))) true) (qjy qtA (E:=qg) rfl (qo7 (E:=qg) (ys:=[b]) rfl rfl rfl rfl) (qqc (E:=qg) (l:=k) rfl rfl rfl r rfl))) az) ?_
    refine gh fol (kL (kAi a.Holds (a.Holds.length:Int) [(28,.i (w64 (p+1)))])) ?_
    exact⟨M,(ofG 40 (kL (kAi a.Holds (a.Holds.length:Int) [(28,.i (w64 (p+1)))])),(kF (kAK a.Day e g (kT e (kH g []))))),Nat.lt_succ_self _,(Sub.norm [] [some 0,some 1,some 2,some 6] rfl rfl (.kp (.kp (.keep (.same (zu qg _)) (.keep (.same nI) (.keep (.same nI) .nil))))) (.kb rfl (.same sn) (.kb rfl (.cells (rc (.same nI) (rc (.gslice rfl) (rc (.gslice rfl) rn)))) (.ks (.ks .nil))))),_,_,rfl,g11⟩
   refine Goes.exit ?_
   obtain rfl:=si g11
   exact⟨rfl,_,rfl,(Sub.keep [2,3] rfl rfl)⟩
 rintro x s' ⟨rfl,f,rfl,hsub⟩
 refine Goes.sub hsub ?_
 refine sg fol (kAC []) (kAK a.Day e f (kAK a.Day e f (kT e (kH f [])))) ?_
 refine Goes.ret ?_
 obtain rfl:=si h
 exact(gw2 [.agg [.i a.Day,.gslice 2 e.length 4,.gslice 3 f.length 4]] (FzW.agg (ky.cons (Ub tI) (ky.cons (FzW.fz (Fz.gs (E:=qo) rfl rfl (nl rfl))) (ky.cons (FzW.fz (Fz.gs (E:=qg) rfl rfl (nl rfl))) ky.nil)))))
def qfY (N:Nat) (l:qH) (before:List qH):Option Int:=
 (if(before.length:Int)>0 then
 (idx before (w64 ((before.length:Int)-1))).bind fun b=>
 some (ltL l.Name b.Name||l.Name==b.Name)
 else
 some false:Option Bool).bind fun c=>
 (qd9 N l.Name).bind fun d=>
 (qd9 N l.Yarn).bind fun e=>
 (qeW N l.Dye).bind fun f=>
 (qak c 11).bind fun g=>
 (qdt l.Stock 0 999999999).bind fun h=>
 (qbt N ([d,e,f,g,h]:List Int)).bind fun a=>
 some a
theorem qoz (N:Nat) (l:qH) (before:List qH) {res:Int} (h:qfY N l before=some res):qE ZT (.fn 69) (kAm l.Name l.Yarn l.Dye l.Stock [vl qo before]) [] (.i res) []:=by
 unfold qfY at h
 refine Uc Tryz.func69 rfl rfl (m:=37) rfl (rs:=[.tmp 4]) rfl (l:=[(0,.agg [.str l.Name,.str l.Yarn,.str l.Dye,.i l.Stock]),(1,vl qo before)]) rfl ?_
 refine sg fol ((1,vl qo before)::(kAC [])) (kX l.Name l.Yarn l.Dye l.Stock []) ?_
 refine sq ?_
 obtain⟨t,a,h⟩:=bnd h
 refine Goes.cut (s':=(ofG 37 (kAC [(5,.bool t)]),(kX l.Name l.Yarn l.Dye l.Stock []))) ?_ ?_
 ·rcases wyD a with⟨s,a⟩|⟨s,a⟩
  ·obtain⟨u,b,a⟩:=bnd a
   obtain rfl:=si a
   exact tr fol [3,10,12] (kAC [(5,.bool (ltL l.Name u.Name||l.Name==u.Name))]) (ac (gw s) (ac (iv qps qo b) (ac (lv 0 ce9 qo b rfl) az)))
  obtain rfl:=si a
  exact tr fol [3] (kAC [(5,.bool false)]) (ac (gw s) az)
 obtain⟨n,e,h⟩:=bnd h
 obtain⟨o,f,h⟩:=bnd h
 obtain⟨p,g,h⟩:=bnd h
 obtain⟨q,j,h⟩:=bnd h
 obtain⟨r,k,h⟩:=bnd h
 obtain⟨c,d,h⟩:=bnd h
 refine sq (gq fol [2,5,8,10,13,15] (kAn c) (kX l.Name l.Yarn l.Dye l.Stock [.cells [.i n,.i o,.i p,.i q,.i r]]) (ac (cv (qdw N l.Name e)) (ac (cv (qdw N l.Yarn f)) (ac (cv (qks N l.Dye g)) (ac (cv (vF t 11 j)) (ac (cv (qcR l.Stock 0 999999999 k)) (ac (hs (.call 50 [.slice 1 0 5 5 1] (kX l.Name l.Yarn l.Dye l.Stock [.cells [.i n,.i o,.i p,.i q,.i r]]) [1] [vl encI ([n,o,p,q,r]:List Int)] (.i c)) (qcC (FzL.cons (Fz.lit rfl rfl (Uf (AllST.cons tI (AllST.cons tI (AllST.cons tI (AllST.cons tI (AllST.cons tI AllST.nil))))))) FzL.nil) (qbb N ([n,o,p,q,r]:List Int) d) tI rfl)) az)))))) ?_)
 refine Goes.ret ?_
 obtain rfl:=si h
 exact(gw2 [.i c] (Ub tI))
def qaS (N:Nat) (a:List qH):Nat->Int->Option (Unit⊕Int)
 |0,_=>none
 |K+1,b=>
  if b<(a.length:Int)then
  (idx a b).bind fun d=>
  (cut a 0 b).bind fun e=>
  (qfY N d e).bind fun c=>
  if(!decide (c=0))=true then
  some (.inr c)
  else
  qaS N a K (w64 (b+1))
  else
  some (.inl ())
def qfx (N:Nat) (a:List qH) (b:Int):Option Int:=
 if(a.length:Int)>b then
 some 5
 else
 (qaS N a N 0).bind (fun
 |(.inl ())=>
 some 0
 |(.inr c)=>
 some c)
theorem qna (N:Nat) (a:List qH) (c:Int) {res:Int} (h:qfx N a c=some res):qE ZT (.fn 68) [vl qo a,.i c,.func (.func 69) [] []] [] (.i res) []:=by
 unfold qfx at h
 refine Uc Tryz.func68 rfl rfl (m:=31) rfl (rs:=[.tmp 6]) rfl (l:=(kAB a [(1,.i c),(2,.func (.func 69) [] [])])) rfl ?_
 refine sh fol (kAB a [(1,.i c),(2,.func (.func 69) [] [])]) ?_
 refine sq ?_
 refine sh fol (kAB a [(2,.func (.func 69) [] []),(13,.bool (decide ((a.length:Int)>c)))]) ?_
 refine ihD h (fun p h=>?_) (fun p h=>?_)
 ·refine sh fol [(6,.i 5)] ?_
  refine Goes.ret ?_
  obtain rfl:=si h
  exact(gw2 [.i 5] (Ub tI))
 refine Goes.skip ?_
 refine sq ?_
 refine sh fol (kAB a [(2,.func (.func 69) [] []),(14,vl qo a),(15,.i (a.length:Int)),(16,.i 0)]) ?_
 refine Goes.block ?_
 obtain⟨k,g3,h⟩:=bnd h
 refine Goes.imp (Q:=fun x s'=>(x= .exit 0/\(.inl ())=k/\Sub s' (ofG 31 [],[]))\/(x= .ret/\ ∃n,(.inr n)=k/\jT ZT [.tmp 6] (.i n) .ret s')) ?_ ?_
 ·refine Ud (fun M s=> ∃(b:Int),s=(ofG 31 (kAB a ((2,.func (.func 69) [] [])::(14,vl qo a)::(kAW (a.length:Int) b []))),[])/\qaS N a M b=some k) ?_ (m:=N) ⟨_,rfl,g3⟩
  rintro M s ⟨b,rfl,g3⟩
  cases M with
  |zero=>simp only[qaS]at g3;cases g3
  |succ M=>
   rw[qaS]at g3
   refine sh fol (kAB a ((2,.func (.func 69) [] [])::(14,vl qo a)::(kAW (a.length:Int) b [(17,.bool (decide (b<(a.length:Int))))]))) ?_
   refine sq ?_
   refine ihD g3 (fun q g3=>?_) (fun q g3=>?_)
   ·refine Goes.skip ?_
    refine sq (Goes.block ?_)
    obtain⟨e,d,g3⟩:=bnd g3
    refine sq (gq fol [1,2] (kAB a ((2,.func (.func 69) [] [])::(7,.i b)::(8,.ptr 0 0)::(14,vl qo a)::(kAW (a.length:Int) b []))) (kX e.Name e.Yarn e.Dye e.Stock []) (ac (iv qps qo d) (ac (la qr9 qo d) az)) ?_)
    obtain⟨o,f,g3⟩:=bnd g3
    obtain⟨g,j,g3⟩:=bnd g3
    refine sq (gr fol [4,5] (kAB a ((2,.func (.func 69) [] [])::(9,.i g)::(14,vl qo a)::(kAW (a.length:Int) b []))) (ac (hs (.done (.opt (qeq ZT 27 (vl qo a) none (some (.i b)) none)) (vl qo o)) (qvZ qps (E:=qo) rfl none (some b) f)) (ac (cv (qoz N e o j)) az)) ?_)
    refine sh fol (kAB a ((2,.func (.func 69) [] [])::(9,.i g)::(14,vl qo a)::(kAW (a.length:Int) b [(28,.bool (!decide (g=0)))]))) ?_
    refine ihB g3 (fun r g3=>?_) (fun r g3=>?_)
    ·refine sh fol [(6,.i g)] ?_
     refine Goes.ret ?_
     obtain rfl:=si g3
     exact Or.inr (⟨rfl,_,rfl,(gw2 [.i g] (Ub tI))⟩)
    refine Goes.skip ?_
    refine gh fol (kAB a ((2,.func (.func 69) [] [])::(14,vl qo a)::(kAW (a.length:Int) (w64 (b+1)) []))) ?_
    exact⟨M,(ofG 31 (kAB a ((2,.func (.func 69) [] [])::(14,vl qo a)::(kAW (a.length:Int) (w64 (b+1)) []))),[]),Nat.lt_succ_self _,(Sub.norm [] [] rfl rfl (.keep (.same (zu qo _)) (.keep (.same (zY.func sn sn)) (.keep (.same (zu qo _)) (.keep (.same nI) (.keep (.same nI) .nil))))) .nil),_,rfl,g3⟩
   refine Goes.exit ?_
   obtain rfl:=si g3
   exact Or.inl (⟨rfl,rfl,(Sub.keep [] rfl rfl)⟩)
 rintro x s' (⟨rfl,rfl,hsub⟩|⟨rfl,t,rfl,hret⟩)
 ·try dsimp only at h
  refine Goes.sub hsub ?_
  refine sh fol [(6,.i 0)] ?_
  refine Goes.ret ?_
  obtain rfl:=si h
  exact(gw2 [.i 0] (Ub tI))
 try dsimp only at h
 obtain rfl:=si h
 exact hret
def qc9 (a:qH) (b:Str) (c:Str) (d:Int) (e:Int):Option Bool:=
 some (a.Name==b)
theorem qiX (a:qH) (b:Str) (c:Str) (d:Int) (e:Int) {res:Bool} (h:qc9 a b c d e=some res):qE ZT (.fn 73) (kAm a.Name a.Yarn a.Dye a.Stock [.fptr [.str b,.str c,.i d,.i e] 0]) [] (.bool res) []:=by
 unfold qc9 at h
 refine Uc Tryz.func73 rfl rfl (m:=9) rfl (rs:=[.tmp 3]) rfl (l:=[(0,.agg [.str a.Name,.str a.Yarn,.str a.Dye,.i a.Stock]),(1,.fptr [.str b,.str c,.i d,.i e] 0)]) rfl ?_
 refine sg fol ((1,.fptr [.str b,.str c,.i d,.i e] 0)::(kAC [])) (kX a.Name a.Yarn a.Dye a.Stock []) ?_
 refine sh fol (kAu (a.Name==b)) ?_
 refine Goes.ret ?_
 obtain rfl:=si h
 exact(gw2 [.bool (a.Name==b)] (Ub tB))
def jk (a:List qH) (b:Str) (c:Str) (d:Int) (e:Int):Nat->Int->Option (Unit⊕Int)
 |0,_=>none
 |K+1,f=>
  if f<(a.length:Int)then
  (idx a f).bind fun g=>
  (qc9 g b c d e).bind fun h=>
  if h=true then
  some (.inr f)
  else
  jk a b c d e K (w64 (f+1))
  else
  some (.inl ())
def qdb (N:Nat) (a:List qH) (b:Str) (c:Str) (d:Int) (e:Int):Option Int:=
 (jk a b c d e N 0).bind (fun
 |(.inl ())=>
 some (-1)
 |(.inr f)=>
 some f)
theorem qiF (N:Nat) (a:List qH) (b:Str) (c:Str) (d:Int) (e:Int) {res:Int} (h:qdb N a b c d e=some res):qE ZT (.fn 128) [vl qo a,.func (.func 73) [] [.fptr [.str b,.str c,.i d,.i e] 0]] [] (.i res) []:=by
 unfold qdb at h
 refine Uc Tryz.func128 rfl rfl (m:=19) rfl (rs:=[.tmp 4]) rfl (l:=(kAB a [(1,.func (.func 73) [] [.fptr [.str b,.str c,.i d,.i e] 0])])) rfl ?_
 refine sh fol (kAB a [(1,.func (.func 73) [] [.fptr [.str b,.str c,.i d,.i e] 0])]) ?_
 refine sq ?_
 refine sh fol (kAB a ((1,.func (.func 73) [] [.fptr [.str b,.str c,.i d,.i e] 0])::(kAv (a.length:Int)))) ?_
 refine Goes.block ?_
 obtain⟨n,g2,h⟩:=bnd h
 refine Goes.imp (Q:=fun x s'=>(x= .exit 0/\(.inl ())=n/\Sub s' (ofG 19 [],[]))\/(x= .ret/\ ∃o,(.inr o)=n/\jT ZT [.tmp 4] (.i o) .ret s')) ?_ ?_
 ·refine Ud (fun M s=> ∃(f:Int),s=(ofG 19 (kAB a ((1,.func (.func 73) [] [.fptr [.str b,.str c,.i d,.i e] 0])::(kAE (a.length:Int) f))),[])/\jk a b c d e M f=some n) ?_ (m:=N) ⟨_,rfl,g2⟩
  rintro M s ⟨f,rfl,g2⟩
  cases M with
  |zero=>simp only[jk]at g2;cases g2
  |succ M=>
   rw[jk]at g2
   refine sh fol (kAB a ((1,.func (.func 73) [] [.fptr [.str b,.str c,.i d,.i e] 0])::(7,.i (a.length:Int))::(kAg f (decide (f<(a.length:Int)))))) ?_
   refine sq ?_
   refine ihD g2 (fun q g2=>?_) (fun q g2=>?_)
   ·refine Goes.skip ?_
    refine sq (Goes.block ?_)
    refine sh fol (kAB a ((1,.func (.func 73) [] [.fptr [.str b,.str c,.i d,.i e] 0])::(5,.i f)::(kAE (a.length:Int) f))) ?_
    obtain⟨g,j,g2⟩:=bnd g2
    obtain⟨p,k,g2⟩:=bnd g2
    refine sq (gr fol [3,4,5] (kAB a [(1,.func (.func 73) [] [.fptr [.str b,.str c,.i d,.i e] 0]),(5,.i f),(7,.i (a.length:Int)),(8,.i f),(16,.bool p)]) (ac (iv qps qo j) (ac (la qr9 qo j) (ac (hs (.call 73 (kAm g.Name g.Yarn g.Dye g.Stock [.fptr [.str b,.str c,.i d,.i e] 0]) [] [] (kAm g.Name g.Yarn g.Dye g.Stock [.fptr [.str b,.str c,.i d,.i e] 0]) (.bool p)) (jf (FzL.cons (Ua (Still.agg (AllST.cons tS (AllST.cons tS (AllST.cons tS (AllST.cons tI AllST.nil)))))) (FzL.cons (Ua (Still.fptr (AllST.cons tS (AllST.cons tS (AllST.cons tI (AllST.cons tI AllST.nil)))))) FzL.nil)) (qiX g b c d e k) tB)) az))) ?_)
    refine ihB g2 (fun r g2=>?_) (fun r g2=>?_)
    ·refine sh fol (kAn f) ?_
     refine Goes.ret ?_
     obtain rfl:=si g2
     exact Or.inr (⟨rfl,_,rfl,(gw2 [.i f] (Ub tI))⟩)
    refine Goes.skip ?_
    refine gh fol (kAB a ((1,.func (.func 73) [] [.fptr [.str b,.str c,.i d,.i e] 0])::(kAE (a.length:Int) (w64 (f+1))))) ?_
    exact⟨M,(ofG 19 (kAB a ((1,.func (.func 73) [] [.fptr [.str b,.str c,.i d,.i e] 0])::(kAE (a.length:Int) (w64 (f+1))))),[]),Nat.lt_succ_self _,(Sub.refl _),_,rfl,g2⟩
   refine Goes.exit ?_
   obtain rfl:=si g2
   exact Or.inl (⟨rfl,rfl,(Sub.keep [] rfl rfl)⟩)
 rintro x s' (⟨rfl,rfl,hsub⟩|⟨rfl,t,rfl,hret⟩)
 ·try dsimp only at h
  refine Goes.sub hsub ?_
  refine sh fol kAq ?_
  refine Goes.ret ?_
  obtain rfl:=si h
  exact(gw2 [.i (-1)] (Ub tI))
 try dsimp only at h
 obtain rfl:=si h
 exact hret
def qay (N:Nat) (a:List qH) (b:Str) (c:Str) (d:Int) (e:Int):Option Bool:=
 (qdb N a b c d e).bind fun f=>
 some (decide (f>=0))
theorem qhA (N:Nat) (a:List qH) (b:Str) (c:Str) (d:Int) (e:Int) {res:Bool} (h:qay N a b c d e=some res):qE ZT (.fn 72) [vl qo a,.func (.func 73) [] [.fptr [.str b,.str c,.i d,.i e] 0]] [] (.bool res) []:=by
 unfold qay at h
 refine Uc Tryz.func72 rfl rfl (m:=9) rfl (rs:=[.tmp 4]) rfl (l:=(kAB a [(1,.func (.func 73) [] [.fptr [.str b,.str c,.i d,.i e] 0])])) rfl ?_
 refine sh fol (kAB a [(1,.func (.func 73) [] [.fptr [.str b,.str c,.i d,.i e] 0])]) ?_
 obtain⟨g,f,h⟩:=bnd h
 refine sq (gr fol [2] [(4,.bool (decide (g>=0)))] (ac (hs (.call 128 [vl qo a,.func (.func 73) [] [.fptr [.str b,.str c,.i d,.i e] 0]] [] [] [vl qo a,.func (.func 73) [] [.fptr [.str b,.str c,.i d,.i e] 0]] (.i g)) (jf (FzL.cons (Ua (qG qo _ (nl rfl))) (FzL.cons (Fz.func FzL.nil (FzL.cons (Ua (Still.fptr (AllST.cons tS (AllST.cons tS (AllST.cons tI (AllST.cons tI AllST.nil)))))) FzL.nil)) FzL.nil)) (qiF N a b c d e f) tI)) az) ?_)
 refine Goes.ret ?_
 obtain rfl:=si h
 exact(gw2 [.bool (decide (g>=0))] (Ub tB))
def qbT (N:Nat) (a:qp) (d:List qp) (n:Int) (j:List qH) (o:List qp):Option Int:=
 (qay N j a.Lot a.Order a.Reserved a.Taken).bind fun p=>
 (if(d.length:Int)>0 then
 (idx d (w64 ((d.length:Int)-1))).bind fun q=>
 (qcV N a q).bind fun r=>
 some (decide (r<=0))
 else
 some false:Option Bool).bind fun s=>
 ((qak (!p) 10).bind fun g=>
 (qd9 N a.Order).bind fun h=>
 (qak s 11).bind fun i=>
 (qdt a.Reserved 0 999999999).bind fun b=>
 (qdt a.Taken 0 999999999).bind fun c=>
 if a.Reserved=0 then
 (qak (decide (a.Taken=0)) 6).bind fun e=>
 (qbt N ([g,h,i,b,c,e]:List Int)).bind fun k=>
 some (g,h,i,b,c,e,k)
 else
 (qak false 6).bind fun f=>
 (qbt N ([g,h,i,b,c,f]:List Int)).bind fun l=>
 some (g,h,i,b,c,f,l):Option (Int×Int×Int×Int×Int×Int×Int)).bind fun(t,u,v,w,x,y,m)=>
 some m
theorem qjV (N:Nat) (a:qp) (g:List qp) (n:Int) (f:List qH) (o:List qp) {res:Int} (h:qbT N a g n f o=some res):qE ZT (.fn 71) (kAJ a.Lot a.Order a.Reserved a.Taken [vl qg g,.fptr [.i n,vl qo f,vl qg o] 0]) [] (.i res) []:=by
 unfold qbT at h
 refine Uc Tryz.func71 rfl rfl (m:=51) rfl (rs:=[.tmp 5]) rfl (l:=(kAw a.Lot a.Order a.Reserved a.Taken [(1,vl qg g),(2,.fptr [.i n,vl qo f,vl qg o] 0)])) rfl ?_
 refine sg fol [(1,vl qg g),(2,.fptr [.i n,vl qo f,vl qg o] 0),(3,.ptr 0 0)] (kM a.Lot a.Order a.Reserved a.Taken []) ?_
 obtain⟨y,E,h⟩:=bnd h
 refine sq (gr fol [3] [(1,vl qg g),(3,.ptr 0 0),(6,.bool y)] (ac (hs (.call 72 [vl qo f,.func (.func 73) [] [.ptr 0 0]] (kM a.Lot a.Order a.Reserved a.Taken []) [0] [vl qo f,.func (.func 73) [] [.fptr [.str a.Lot,.str a.Order,.i a.Reserved,.i a.Taken] 0]] (.bool y)) (qcC (FzL.cons (Ua (qG qo _ (nl rfl))) (FzL.cons (Fz.func FzL.nil (FzL.cons (Fz.ptr rfl rfl (FzL.cons (Ua tS) (FzL.cons (Ua tS) (FzL.cons (Ua tI) (FzL.cons (Ua tI) FzL.nil))))) FzL.nil)) FzL.nil)) (qhA N f a.Lot a.Order a.Reserved a.Taken E) tB rfl)) az) ?_)
 refine sq ?_
 obtain⟨J,c,h⟩:=bnd h
 refine Goes.cut (s':=(ofG 51 [(3,.ptr 0 0),(6,.bool y),(7,.bool J)],(kM a.Lot a.Order a.Reserved a.Taken []))) ?_ ?_
 ·rcases wyD c with⟨K,c⟩|⟨K,c⟩
  ·obtain⟨U,r,c⟩:=bnd c
   obtain⟨V,F,c⟩:=bnd c
   obtain rfl:=si c
   exact tr fol [3,9,10,11] [(3,.ptr 0 0),(6,.bool y),(7,.bool (decide (V<=0)))] (ac (gw K) (ac (iv qhR qg r) (ac (la qqT qg r) (ac (cv (qlA N a U F)) az))))
  obtain rfl:=si c
  exact tr fol [3] [(3,.ptr 0 0),(6,.bool y),(7,.bool false)] (ac (gw K) az)
 refine sq ?_
 obtain⟨⟨L,M,O,P,Q,T,G⟩,b,h⟩:=bnd h
 refine Goes.cut (s':=(ofG 51 (kAd G),(kM a.Lot a.Order a.Reserved a.Taken [.cells [.i L,.i M,.i O,.i P,.i Q,.i T]]))) ?_ ?_
 ·obtain⟨s,t,b⟩:=bnd b
  obtain⟨u,v,b⟩:=bnd b
  obtain⟨w,x,b⟩:=bnd b
  obtain⟨d,j,b⟩:=bnd b
  obtain⟨e,k,b⟩:=bnd b
  rcases wyD b with⟨z,b⟩|⟨z,b⟩
  ·obtain⟨p,A,b⟩:=bnd b
   obtain⟨H,B,b⟩:=bnd b
   simp only[ZI,ZP]at b
   obtain⟨rfl,rfl,rfl,rfl,rfl,rfl,rfl⟩:=b
   exact qae.rq fol [2,5,7,10,13,17,22,24] (kAd H) (kM a.Lot a.Order a.Reserved a.Taken [.cells [.i s,.i u,.i w,.i d,.i e,.i p]]) (ac (cv (vF (!y) 10 t)) (ac (cv (qdw N a.Order v)) (ac (cv (vF J 11 x)) (ac (cv (qcR a.Reserved 0 999999999 j)) (ac (cv (qcR a.Taken 0 999999999 k)) (ac (gw z) (ac (cv (vF (decide (a.Taken=0)) 6 A)) (ac (hs (.call 50 [.slice 1 0 6 6 1] (kM a.Lot a.Order a.Reserved a.Taken [.cells [.i s,.i u,.i w,.i d,.i e,.i p]]) [1] [vl encI ([s,u,w,d,e,p]:List Int)] (.i H)) (qcC (FzL.cons (Fz.lit rfl rfl (Uf (AllST.cons tI (AllST.cons tI (AllST.cons tI (AllST.cons tI (AllST.cons tI (AllST.cons tI AllST.nil)))))))) FzL.nil) (qbb N ([s,u,w,d,e,p]:List Int) B) tI rfl)) az))))))))
  obtain⟨q,C,b⟩:=bnd b
  obtain⟨I,D,b⟩:=bnd b
  simp only[ZI,ZP]at b
  obtain⟨rfl,rfl,rfl,rfl,rfl,rfl,rfl⟩:=b
  exact qae.rq fol [2,5,7,10,13,17,22,24] (kAd I) (kM a.Lot a.Order a.Reserved a.Taken [.cells [.i s,.i u,.i w,.i d,.i e,.i q]]) (ac (cv (vF (!y) 10 t)) (ac (cv (qdw N a.Order v)) (ac (cv (vF J 11 x)) (ac (cv (qcR a.Reserved 0 999999999 j)) (ac (cv (qcR a.Taken 0 999999999 k)) (ac (gw z) (ac (cv (vF false 6 C)) (ac (hs (.call 50 [.slice 1 0 6 6 1] (kM a.Lot a.Order a.Reserved a.Taken [.cells [.i s,.i u,.i w,.i d,.i e,.i q]]) [1] [vl encI ([s,u,w,d,e,q]:List Int)] (.i I)) (qcC (FzL.cons (Fz.lit rfl rfl (Uf (AllST.cons tI (AllST.cons tI (AllST.cons tI (AllST.cons tI (AllST.cons tI (AllST.cons tI AllST.nil)))))))) FzL.nil) (qbb N ([s,u,w,d,e,q]:List Int) D) tI rfl)) az))))))))
 try dsimp only at h
 refine Goes.ret ?_
 obtain rfl:=si h
 exact(gw2 [.i G] (Ub tI))
def qaB (N:Nat) (a:List qp) (b:Int) (c:List qH) (d:List qp):Nat->Int->Option (Unit⊕Int)
 |0,_=>none
 |K+1,e=>
  if e<(a.length:Int)then
  (idx a e).bind fun g=>
  (cut a 0 e).bind fun h=>
  (qbT N g h b c d).bind fun f=>
  if(!decide (f=0))=true then
  some (.inr f)
  else
  qaB N a b c d K (w64 (e+1))
  else
  some (.inl ())
def qe8 (N:Nat) (a:List qp) (b:Int) (c:Int) (d:List qH) (e:List qp):Option Int:=
 if(a.length:Int)>b then
 some 5
 else
 (qaB N a c d e N 0).bind (fun
 |(.inl ())=>
 some 0
 |(.inr f)=>
 some f)
theorem qlJ (N:Nat) (a:List qp) (g:Int) (b:Int) (c:List qH) (d:List qp) {res:Int} (h:qe8 N a g b c d=some res):qE ZT (.fn 70) [vl qg a,.i g,.func (.func 71) [] [.fptr [.i b,vl qo c,vl qg d] 0]] [] (.i res) []:=by
 unfold qe8 at h
 refine Uc Tryz.func70 rfl rfl (m:=31) rfl (rs:=[.tmp 6]) rfl (l:=(kAO a [(1,.i g),(2,.func (.func 71) [] [.fptr [.i b,vl qo c,vl qg d] 0])])) rfl ?_
 refine sh fol (kAO a [(1,.i g),(2,.func (.func 71) [] [.fptr [.i b,vl qo c,vl qg d] 0])]) ?_
 refine sq ?_
 refine sh fol (kAO a [(2,.func (.func 71) [] [.fptr [.i b,vl qo c,vl qg d] 0]),(13,.bool (decide ((a.length:Int)>g)))]) ?_
 refine ihD h (fun t h=>?_) (fun t h=>?_)
 ·refine sh fol [(6,.i 5)] ?_
  refine Goes.ret ?_
  obtain rfl:=si h
  exact(gw2 [.i 5] (Ub tI))
 refine Goes.skip ?_
 refine sq ?_
 refine sh fol (kAO a [(2,.func (.func 71) [] [.fptr [.i b,vl qo c,vl qg d] 0]),(14,vl qg a),(15,.i (a.length:Int)),(16,.i 0)]) ?_
 refine Goes.block ?_
 obtain⟨q,g3,h⟩:=bnd h
 refine Goes.imp (Q:=fun x s'=>(x= .exit 0/\(.inl ())=q/\Sub s' (ofG 31 [],[]))\/(x= .ret/\ ∃r,(.inr r)=q/\jT ZT [.tmp 6] (.i r) .ret s')) ?_ ?_
 ·refine Ud (fun M s=> ∃(e:Int),s=(ofG 31 (kAO a ((2,.func (.func 71) [] [.fptr [.i b,vl qo c,vl qg d] 0])::(14,vl qg a)::(kAW (a.length:Int) e []))),[])/\qaB N a b c d M e=some q) ?_ (m:=N) ⟨_,rfl,g3⟩
  rintro M s ⟨e,rfl,g3⟩
  cases M with
  |zero=>simp only[qaB]at g3;cases g3
  |succ M=>
   rw[qaB]at g3
   refine sh fol (kAO a ((2,.func (.func 71) [] [.fptr [.i b,vl qo c,vl qg d] 0])::(14,vl qg a)::(kAW (a.length:Int) e [(17,.bool (decide (e<(a.length:Int))))]))) ?_
   refine sq ?_
   refine ihD g3 (fun u g3=>?_) (fun u g3=>?_)
   ·refine Goes.skip ?_
    refine sq (Goes.block ?_)
    obtain⟨f,j,g3⟩:=bnd g3
    refine sq (gq fol [1,2] (kAO a ((2,.func (.func 71) [] [.fptr [.i b,vl qo c,vl qg d] 0])::(7,.i e)::(8,.ptr 0 0)::(14,vl qg a)::(kAW (a.length:Int) e []))) (kM f.Lot f.Order f.Reserved f.Taken []) (ac (iv qhR qg j) (ac (la qqT qg j) az)) ?_)
    obtain⟨p,n,g3⟩:=bnd g3
    obtain⟨k,o,g3⟩:=bnd g3
    refine sq (gr fol [4,5] (kAO a ((2,.func (.func 71) [] [.fptr [.i b,vl qo c,vl qg d] 0])::(9,.i k)::(14,vl qg a)::(kAW (a.length:Int) e []))) (ac (hs (.done (.opt (qeq ZT 28 (vl qg a) none (some (.i e)) none)) (vl qg p)) (qvZ qhR (E:=qg) rfl none (some e) n)) (ac (hs (.call 71 (kAJ f.Lot f.Order f.Reserved f.Taken [vl qg p,.fptr [.i b,vl qo c,vl qg d] 0]) [] [] (kAJ f.Lot f.Order f.Reserved f.Taken [vl qg p,.fptr [.i b,vl qo c,vl qg d] 0]) (.i k)) (jf (FzL.cons (Ua (Still.agg (AllST.cons tS (AllST.cons tS (AllST.cons tI (AllST.cons tI AllST.nil)))))) (FzL.cons (Ua (qG qg _ (nl rfl))) (FzL.cons (Ua (Still.fptr (AllST.cons tI (AllST.cons (qG qo _ (nl rfl)) (AllST.cons (qG qg _ (nl rfl)) AllST.nil))))) FzL.nil))) (qjV N f p b c d o) tI)) az)) ?_)
    refine sh fol (kAO a ((2,.func (.func 71) [] [.fptr [.i b,vl qo c,vl qg d] 0])::(9,.i k)::(14,vl qg a)::(kAW (a.length:Int) e [(28,.bool (!decide (k=0)))]))) ?_
    refine ihB g3 (fun v g3=>?_) (fun v g3=>?_)
    ·refine sh fol [(6,.i k)] ?_
     refine Goes.ret ?_
     obtain rfl:=si g3
     exact Or.inr (⟨rfl,_,rfl,(gw2 [.i k] (Ub tI))⟩)
    refine Goes.skip ?_
    refine gh fol (kAO a ((2,.func (.func 71) [] [.fptr [.i b,vl qo c,vl qg d] 0])::(14,vl qg a)::(kAW (a.length:Int) (w64 (e+1)) []))) ?_
    exact⟨M,(ofG 31 (kAO a ((2,.func (.func 71) [] [.fptr [.i b,vl qo c,vl qg d] 0])::(14,vl qg a)::(kAW (a.length:Int) (w64 (e+1)) []))),[]),Nat.lt_succ_self _,(Sub.norm [] [] rfl rfl (.keep (.same (zu qg _)) (.keep (.same (zY.func sn sn)) (.keep (.same (zu qg _)) (.keep (.same nI) (.keep (.same nI) .nil))))) .nil),_,rfl,g3⟩
   refine Goes.exit ?_
   obtain rfl:=si g3
   exact Or.inl (⟨rfl,rfl,(Sub.keep [] rfl rfl)⟩)
 rintro x s' (⟨rfl,rfl,hsub⟩|⟨rfl,w,rfl,hret⟩)
 ·try dsimp only at h
  refine Goes.sub hsub ?_
  refine sh fol [(6,.i 0)] ?_
  refine Goes.ret ?_
  obtain rfl:=si h
  exact(gw2 [.i 0] (Ub tI))
 try dsimp only at h
 obtain rfl:=si h
 exact hret
def qdK (N:Nat) (a:qH) (b:Int) (c:List qH) (d:List qp):Option Bool:=
 (qdi N (⟨b,c,d⟩:StateT) a).bind fun e=>
 some (decide (e<0))
theorem qjT (N:Nat) (a:qH) (b:Int) (c:List qH) (d:List qp) {res:Bool} (h:qdK N a b c d=some res):qE ZT (.fn 76) (kAm a.Name a.Yarn a.Dye a.Stock [.fptr [.i b,vl qo c,vl qg d] 0]) [] (.bool res) []:=by
 unfold qdK at h
 refine Uc Tryz.func76 rfl rfl (m:=8) rfl (rs:=[.tmp 3]) rfl (l:=[(0,.agg [.str a.Name,.str a.Yarn,.str a.Dye,.i a.Stock]),(1,.fptr [.i b,vl qo c,vl qg d] 0)]) rfl ?_
 refine sg fol ((1,.fptr [.i b,vl qo c,vl qg d] 0)::(kAC [])) (kX a.Name a.Yarn a.Dye a.Stock []) ?_
 obtain⟨f,e,h⟩:=bnd h
 refine sq (gr fol [2] (kAu (decide (f<0))) (ac (cv (qgf N (⟨b,c,d⟩:StateT) a e)) az) ?_)
 refine Goes.ret ?_
 obtain rfl:=si h
 exact(gw2 [.bool (decide (f<0))] (Ub tB))
def ji (N:Nat) (a:List qH) (b:Int) (c:List qH) (d:List qp):Nat->Int->Option (Unit⊕Int)
 |0,_=>none
 |K+1,e=>
  if e<(a.length:Int)then
  (idx a e).bind fun f=>
  (qdK N f b c d).bind fun g=>
  if g=true then
  some (.inr e)
  else
  ji N a b c d K (w64 (e+1))
  else
  some (.inl ())
def qc0 (N:Nat) (a:List qH) (b:Int) (c:List qH) (d:List qp):Option Int:=
 (ji N a b c d N 0).bind (fun
 |(.inl ())=>
 some (-1)
 |(.inr e)=>
 some e)
theorem qiK (N:Nat) (a:List qH) (b:Int) (c:List qH) (d:List qp) {res:Int} (h:qc0 N a b c d=some res):qE ZT (.fn 128) [vl qo a,.func (.func 76) [] [.fptr [.i b,vl qo c,vl qg d] 0]] [] (.i res) []:=by
 unfold qc0 at h
 refine Uc Tryz.func128 rfl rfl (m:=19) rfl (rs:=[.tmp 4]) rfl (l:=(kAB a [(1,.func (.func 76) [] [.fptr [.i b,vl qo c,vl qg d] 0])])) rfl ?_
 refine sh fol (kAB a [(1,.func (.func 76) [] [.fptr [.i b,vl qo c,vl qg d] 0])]) ?_
 refine sq ?_
 refine sh fol (kAB a ((1,.func (.func 76) [] [.fptr [.i b,vl qo c,vl qg d] 0])::(kAv (a.length:Int)))) ?_
 refine Goes.block ?_
 obtain⟨k,g2,h⟩:=bnd h
 refine Goes.imp (Q:=fun x s'=>(x= .exit 0/\(.inl ())=k/\Sub s' (ofG 19 [],[]))\/(x= .ret/\ ∃n,(.inr n)=k/\jT ZT [.tmp 4] (.i n) .ret s')) ?_ ?_
 ·refine Ud (fun M s=> ∃(e:Int),s=(ofG 19 (kAB a ((1,.func (.func 76) [] [.fptr [.i b,vl qo c,vl qg d] 0])::(kAE (a.length:Int) e))),[])/\ji N a b c d M e=some k) ?_ (m:=N) ⟨_,rfl,g2⟩
  rintro M s ⟨e,rfl,g2⟩
  cases M with
  |zero=>simp only[ji]at g2;cases g2
  |succ M=>
   rw[ji]at g2
   refine sh fol (kAB a ((1,.func (.func 76) [] [.fptr [.i b,vl qo c,vl qg d] 0])::(7,.i (a.length:Int))::(kAg e (decide (e<(a.length:Int)))))) ?_
   refine sq ?_
   refine ihD g2 (fun p g2=>?_) (fun p g2=>?_)
   ·refine Goes.skip ?_
    refine sq (Goes.block ?_)
    refine sh fol (kAB a ((1,.func (.func 76) [] [.fptr [.i b,vl qo c,vl qg d] 0])::(5,.i e)::(kAE (a.length:Int) e))) ?_
    obtain⟨f,g,g2⟩:=bnd g2
    obtain⟨o,j,g2⟩:=bnd g2
    refine sq (gr fol [3,4,5] (kAB a [(1,.func (.func 76) [] [.fptr [.i b,vl qo c,vl qg d] 0]),(5,.i e),(7,.i (a.length:Int)),(8,.i e),(16,.bool o)]) (ac (iv qps qo g) (ac (la qr9 qo g) (ac (hs (.call 76 (kAm f.Name f.Yarn f.Dye f.Stock [.fptr [.i b,vl qo c,vl qg d] 0]) [] [] (kAm f.Name f.Yarn f.Dye f.Stock [.fptr [.i b,vl qo c,vl qg d] 0]) (.bool o)) (jf (FzL.cons (Ua (Still.agg (AllST.cons tS (AllST.cons tS (AllST.cons tS (AllST.cons tI AllST.nil)))))) (FzL.cons (Ua (Still.fptr (AllST.cons tI (AllST.cons (qG qo _ (nl rfl)) (AllST.cons (qG qg _ (nl rfl)) AllST.nil))))) FzL.nil)) (qjT N f b c d j) tB)) az))) ?_)
    refine ihB g2 (fun q g2=>?_) (fun q g2=>?_)
    ·refine sh fol (kAn e) ?_
     refine Goes.ret ?_
     obtain rfl:=si g2
     exact Or.inr (⟨rfl,_,rfl,(gw2 [.i e] (Ub tI))⟩)
    refine Goes.skip ?_
    refine gh fol (kAB a ((1,.func (.func 76) [] [.fptr [.i b,vl qo c,vl qg d] 0])::(kAE (a.length:Int) (w64 (e+1))))) ?_
    exact⟨M,(ofG 19 (kAB a ((1,.func (.func 76) [] [.fptr [.i b,vl qo c,vl qg d] 0])::(kAE (a.length:Int) (w64 (e+1))))),[]),Nat.lt_succ_self _,(Sub.refl _),_,rfl,g2⟩
   refine Goes.exit ?_
   obtain rfl:=si g2
   exact Or.inl (⟨rfl,rfl,(Sub.keep [] rfl rfl)⟩)
 rintro x s' (⟨rfl,rfl,hsub⟩|⟨rfl,r,rfl,hret⟩)
 ·try dsimp only at h
  refine Goes.sub hsub ?_
  refine sh fol kAq ?_
  refine Goes.ret ?_
  obtain rfl:=si h
  exact(gw2 [.i (-1)] (Ub tI))
 try dsimp only at h
 obtain rfl:=si h
 exact hret
def qaA (N:Nat) (a:List qH) (b:Int) (c:List qH) (d:List qp):Option Bool:=
 (qc0 N a b c d).bind fun e=>
 some (decide (e>=0))
theorem qhJ (N:Nat) (a:List qH) (b:Int) (c:List qH) (d:List qp) {res:Bool} (h:qaA N a b c d=some res):qE ZT (.fn 72) [vl qo a,.func (.func 76) [] [.fptr [.i b,vl qo c,vl qg d] 0]] [] (.bool res) []:=by
 unfold qaA at h
 refine Uc Tryz.func72 rfl rfl (m:=9) rfl (rs:=[.tmp 4]) rfl (l:=(kAB a [(1,.func (.func 76) [] [.fptr [.i b,vl qo c,vl qg d] 0])])) rfl ?_
 refine sh fol (kAB a [(1,.func (.func 76) [] [.fptr [.i b,vl qo c,vl qg d] 0])]) ?_
 obtain⟨f,e,h⟩:=bnd h
 refine sq (gr fol [2] [(4,.bool (decide (f>=0)))] (ac (hs (.call 128 [vl qo a,.func (.func 76) [] [.fptr [.i b,vl qo c,vl qg d] 0]] [] [] [vl qo a,.func (.func 76) [] [.fptr [.i b,vl qo c,vl qg d] 0]] (.i f)) (jf (FzL.cons (Ua (qG qo _ (nl rfl))) (FzL.cons (Fz.func FzL.nil (FzL.cons (Ua (Still.fptr (AllST.cons tI (AllST.cons (qG qo _ (nl rfl)) (AllST.cons (qG qg _ (nl rfl)) AllST.nil))))) FzL.nil)) FzL.nil)) (qiK N a b c d e) tI)) az) ?_)
 refine Goes.ret ?_
 obtain rfl:=si h
 exact(gw2 [.bool (decide (f>=0))] (Ub tB))
def qdf (N:Nat) (a:StateT):Option Int:=
 (qdt a.Day 0 99999).bind fun c=>
 (qfx N a.Lots 64).bind fun d=>
 (qbt N ([c,d]:List Int)).bind fun b=>
 if(!decide (b=0))=true then
 some b
 else
 (qe8 N a.Holds 256 a.Day a.Lots a.Holds).bind fun e=>
 (qaA N a.Lots a.Day a.Lots a.Holds).bind fun f=>
 (qak f 32).bind fun g=>
 (qbt N ([e,g]:List Int)).bind fun h=>
 some h
theorem qiB (N:Nat) (a:StateT) {res:Int} (h:qdf N a=some res):qE ZT (.fn 29) [.agg (kG a.Day a.Lots a.Holds)] [] (.i res) []:=by
 unfold qdf at h
 refine Uc Tryz.func29 rfl rfl (m:=28) rfl (rs:=[.tmp 2]) rfl (l:=(kAA a.Day a.Lots a.Holds [])) rfl ?_
 refine sg fol (kU []) (kD a.Day a.Lots a.Holds []) ?_
 refine sq ?_
 obtain⟨c,f,h⟩:=bnd h
 obtain⟨b,g,h⟩:=bnd h
 obtain⟨d,j,h⟩:=bnd h
 refine sq (gq fol [2,5,7] (kU [(3,.i d)]) (kD a.Day a.Lots a.Holds (kAU c b)) (ac (cv (qcR a.Day 0 99999 f)) (ac (hs (.call 68 [vl qo a.Lots,.i 64,.func (.func 69) [] []] [] [] [vl qo a.Lots,.i 64,.func (.func 69) [] []] (.i b)) (jf (FzL.cons (Ua (qG qo _ (nl rfl))) (FzL.cons (Ua tI) (FzL.cons (Fz.func FzL.nil FzL.nil) FzL.nil))) (qna N a.Lots 64 g) tI)) (ac (hs (.call 50 [.slice 1 0 2 2 1] (kD a.Day a.Lots a.Holds (kAU c b)) [1] [vl encI ([c,b]:List Int)] (.i d)) (qcC (FzL.cons (Fz.lit rfl rfl (Uf (AllST.cons tI (AllST.cons tI AllST.nil)))) FzL.nil) (qbb N ([c,b]:List Int) j) tI rfl)) az))) ?_)
 refine sh fol (kU [(3,.i d),(14,.bool (!decide (d=0)))]) ?_
 refine ihB h (fun t h=>?_) (fun t h=>?_)
 ·refine sh fol (kAt d) ?_
  refine Goes.ret ?_
  obtain rfl:=si h
  exact(gw2 [.i d] (Ub tI))
 refine Goes.skip ?_
 obtain⟨e,k,h⟩:=bnd h
 refine sq (gr fol [3] (kU (kAn e)) (ac (hs (.call 70 [vl qg a.Holds,.i 256,.func (.func 71) [] [.ptr 0 0]] (kD a.Day a.Lots a.Holds (kAU c b)) [0] [vl qg a.Holds,.i 256,.func (.func 71) [] [.fptr [.i a.Day,vl qo a.Lots,vl qg a.Holds] 0]] (.i e)) (qcC (FzL.cons (Ua (qG qg _ (nl rfl))) (FzL.cons (Ua tI) (FzL.cons (Fz.func FzL.nil (FzL.cons (Fz.ptr rfl rfl (FzL.cons (Ua tI) (FzL.cons (Ua (qG qo _ (nl rfl))) (FzL.cons (Ua (qG qg _ (nl rfl))) FzL.nil)))) FzL.nil)) FzL.nil))) (qlJ N a.Holds 256 a.Day a.Lots a.Holds k) tI rfl)) az) ?_)
 obtain⟨s,n,h⟩:=bnd h
 obtain⟨q,o,h⟩:=bnd h
 obtain⟨r,p,h⟩:=bnd h
 refine sq (gq fol [4,5,7] (kAt r) (kD a.Day a.Lots a.Holds (.cells [.i c,.i b]::(kAU e q))) (ac (hs (.call 72 [vl qo a.Lots,.func (.func 76) [] [.ptr 0 0]] (kD a.Day a.Lots a.Holds (kAU c b)) [0] [vl qo a.Lots,.func (.func 76) [] [.fptr [.i a.Day,vl qo a.Lots,vl qg a.Holds] 0]] (.bool s)) (qcC (FzL.cons (Ua (qG qo _ (nl rfl))) (FzL.cons (Fz.func FzL.nil (FzL.cons (Fz.ptr rfl rfl (FzL.cons (Ua tI) (FzL.cons (Ua (qG qo _ (nl rfl))) (FzL.cons (Ua (qG qg _ (nl rfl))) FzL.nil)))) FzL.nil)) FzL.nil)) (qhJ N a.Lots a.Day a.Lots a.Holds n) tB rfl)) (ac (cv (vF s 32 o)) (ac (hs (.call 50 [.slice 2 0 2 2 1] (kD a.Day a.Lots a.Holds (.cells [.i c,.i b]::(kAU e q))) [2] [vl encI ([e,q]:List Int)] (.i r)) (qcC (FzL.cons (Fz.lit rfl rfl (Uf (AllST.cons tI (AllST.cons tI AllST.nil)))) FzL.nil) (qbb N ([e,q]:List Int) p) tI rfl)) az))) ?_)
 refine Goes.ret ?_
 obtain rfl:=si h
 exact(gw2 [.i r] (Ub tI))
def qg2 (N:Nat) (a:StateT) (e:qw):Option (Int×Int):=
 (qdf N a).bind fun c=>
 (qdV N e).bind fun d=>
 (qbt N ([c,d]:List Int)).bind fun b=>
 if(!decide (b=0))=true then
 some (0,b)
 else
 (qdz N a e).bind fun f=>
 some (f,0)
theorem qng (N:Nat) (a:StateT) (e:qw) {res:Int×Int} (h:qg2 N a e=some res):qE ZT (.fn 23) (kY a.Day a.Lots a.Holds [.agg [.str e.Kind,.i e.Day,.str e.Lot,.i e.Amount,.str e.Yarn,.str e.Dye,.str e.Order]]) [] (.tuple [.i res.1,.i res.2]) []:=by
 unfold qg2 at h
 refine Uc Tryz.func23 rfl rfl (m:=19) rfl (rs:=[.tmp 4,.tmp 5]) rfl (l:=(kAA a.Day a.Lots a.Holds (kAz e.Kind e.Day e.Lot e.Amount e.Yarn e.Dye e.Order))) rfl ?_
 refine sg fol (kL []) (kD a.Day a.Lots a.Holds (kE e.Kind e.Day e.Lot e.Amount e.Yarn e.Dye e.Order [])) ?_
 refine sq ?_
 obtain⟨j,c,h⟩:=bnd h
 obtain⟨k,d,h⟩:=bnd h
 obtain⟨b,f,h⟩:=bnd h
 refine sq (gq fol [1,3,5] (kL [(6,.i b)]) (kD a.Day a.Lots a.Holds (kE e.Kind e.Day e.Lot e.Amount e.Yarn e.Dye e.Order (kAU j k))) (ac (cv (qiB N a c)) (ac (cv (qiG N e d)) (ac (hs (.call 50 [.slice 2 0 2 2 1] (kD a.Day a.Lots a.Holds (kE e.Kind e.Day e.Lot e.Amount e.Yarn e.Dye e.Order (kAU j k))) [2] [vl encI ([j,k]:List Int)] (.i b)) (qcC (FzL.cons (Fz.lit rfl rfl (Uf (AllST.cons tI (AllST.cons tI AllST.nil)))) FzL.nil) (qbb N ([j,k]:List Int) f) tI rfl)) az))) ?_)
 refine sh fol (kL [(6,.i b),(14,.bool (!decide (b=0)))]) ?_
 refine ihB h (fun o h=>?_) (fun o h=>?_)
 ·refine sh fol ((4,.i 0)::(kAd b)) ?_
  refine Goes.ret ?_
  obtain rfl:=si h
  exact(gw2 [.i 0,.i b] (FzW.tuple (ky.cons (Ub tI) (ky.cons (Ub tI) ky.nil))))
 refine Goes.skip ?_
 obtain⟨n,g,h⟩:=bnd h
 refine sq (gr fol [2] [(4,.i n),(5,.i 0)] (ac (cv (qhW N a e g)) az) ?_)
 refine Goes.ret ?_
 obtain rfl:=si h
 exact(gw2 [.i n,.i 0] (FzW.tuple (ky.cons (Ub tI) (ky.cons (Ub tI) ky.nil))))
def qko (N:Nat) (a:StateT) (e:qw):Option (StateT×Int):=
 (qg2 N a e).bind fun b=>
 (qak (!decide (b.1=0)) 18).bind fun d=>
 (qbt N ([b.2,d]:List Int)).bind fun c=>
 if(!decide (c=0))=true then
 some ((⟨0,[],[]⟩:StateT),c)
 else
 (qbL N a e).bind fun f=>
 some (f,0)
theorem qrH (N:Nat) (a:StateT) (e:qw) {res:StateT×Int} (h:qko N a e=some res):qE ZT (.fn 24) (kY a.Day a.Lots a.Holds [.agg [.str e.Kind,.i e.Day,.str e.Lot,.i e.Amount,.str e.Yarn,.str e.Dye,.str e.Order]]) [] (.tuple (kY res.1.Day res.1.Lots res.1.Holds [.i res.2])) []:=by
 unfold qko at h
 refine Uc Tryz.func24 rfl rfl (m:=27) rfl (rs:=[.cell 4 30,.tmp 5]) rfl (l:=(kAA a.Day a.Lots a.Holds (kAz e.Kind e.Day e.Lot e.Amount e.Yarn e.Dye e.Order))) rfl ?_
 refine sg fol (kL (kA0 [])) (kD a.Day a.Lots a.Holds (kE e.Kind e.Day e.Lot e.Amount e.Yarn e.Dye e.Order (kF []))) ?_
 obtain⟨b,f,h⟩:=bnd h
 refine sq (gr fol [2] (kL (kA0 [(6,.i b.1),(7,.i b.2)])) (ac (cv (qng N a e f)) az) ?_)
 refine sq ?_
 obtain⟨g,j,h⟩:=bnd h
 obtain⟨c,k,h⟩:=bnd h
 refine sq (gq fol [3,5] (kL (kA0 [(7,.i c)])) (kD a.Day a.Lots a.Holds (kE e.Kind e.Day e.Lot e.Amount e.Yarn e.Dye e.Order (kF (kAU b.2 g)))) (ac (cv (vF (!decide (b.1=0)) 18 j)) (ac (hs (.call 50 [.slice 3 0 2 2 1] (kD a.Day a.Lots a.Holds (kE e.Kind e.Day e.Lot e.Amount e.Yarn e.Dye e.Order (kF (kAU b.2 g)))) [3] [vl encI ([b.2,g]:List Int)] (.i c)) (qcC (FzL.cons (Fz.lit rfl rfl (Uf (AllST.cons tI (AllST.cons tI AllST.nil)))) FzL.nil) (qbb N ([b.2,g]:List Int) k) tI rfl)) az)) ?_)
 refine sh fol (kL (kA0 [(7,.i c),(21,.bool (!decide (c=0)))])) ?_
 refine ihB h (fun o h=>?_) (fun o h=>?_)
 ·refine sh fol (kA0 (kAd c)) ?_
  refine Goes.ret ?_
  obtain rfl:=si h
  exact(gw2 [.agg [.i 0,.nilslice,.nilslice],.i c] (FzW.tuple (ky.cons (FzW.agg (ky.cons (Ub tI) (ky.cons (FzW.nilv (E:=qo)) (ky.cons (FzW.nilv (E:=qg)) ky.nil)))) (ky.cons (Ub tI) ky.nil))))
 refine Goes.skip ?_
 obtain⟨d,n,h⟩:=bnd h
 refine sq (gq fol [2] (kA0 [(5,.i 0)]) (kD a.Day a.Lots a.Holds (kE e.Kind e.Day e.Lot e.Amount e.Yarn e.Dye e.Order (kD d.Day d.Lots d.Holds (kAU b.2 g)))) (ac (cv (qgl N a e n)) az) ?_)
 refine Goes.ret ?_
 obtain rfl:=si h
 exact(gw2 (kY d.Day d.Lots d.Holds [.i 0]) (FzW.tuple (ky.cons (FzW.agg (ky.cons (Ub tI) (ky.cons (Ub (qG qo _ (nl rfl))) (ky.cons (Ub (qG qg _ (nl rfl))) ky.nil)))) (ky.cons (Ub tI) ky.nil))))
def qa5 (a:qa6) (i:Int):Nat->Int->Int->Option Int
 |0,_,_=>none
 |K+1,b,c=>
  if c<(a.Holds.length:Int)then
  (((idx a.Holds c).bind fun e=>
  (idx a.Lots i).bind fun d=>
  if(e.Lot==d.Name)=true then
  some (w64 (b-e.Reserved))
  else
  some b:Option Int)).bind fun f=>
  qa5 a i K f (w64 (c+1))
  else
  some b
def qes (N:Nat) (a:qa6) (i:Int):Option Int:=
 (idx a.Lots i).bind fun b=>
 (qa5 a i N b.Stock 0).bind fun c=>
 some c
theorem qm5 (N:Nat) (a:qa6) (i:Int) {res:Int} (h:qes N a i=some res):qE ZT (.fn 35) (kY a.Day a.Lots a.Holds [.i i]) [] (.i res) []:=by
 unfold qes at h
 refine Uc Tryz.func35 rfl rfl (m:=42) rfl (rs:=[.tmp 4]) rfl (l:=(kAA a.Day a.Lots a.Holds [(1,.i i)])) rfl ?_
 refine sg fol ((1,.i i)::(kAC [])) (kD a.Day a.Lots a.Holds []) ?_
 obtain⟨o,e,h⟩:=bnd h
 refine sq (gr fol [3,5] ((1,.i i)::(kAC (kAd o.Stock))) (ac (iv qsK qo e) (ac (lv 3 ce3 qo e rfl) az)) ?_)
 refine sq ?_
 refine sh fol ((1,.i i)::(kAC [(5,.i o.Stock),(6,.i 0)])) ?_
 refine Goes.block ?_
 obtain⟨p,g5,h⟩:=bnd h
 refine Goes.imp (Q:=fun x s'=>(x= .exit 0/\ ∃g,g=p/\Sub s' (ofG 42 (kAd g),[]))) ?_ ?_
 ·refine Ud (fun M s=> ∃(f:Int) (d:Int),s=(ofG 42 ((1,.i i)::(kAC (kAL f d))),(kD a.Day a.Lots a.Holds []))/\qa5 a i M f d=some p) ?_ (m:=N) ⟨_,_,rfl,g5⟩
  rintro M s ⟨f,d,rfl,g5⟩
  cases M with
  |zero=>simp only[qa5]at g5;cases g5
  |succ M=>
   rw[qa5]at g5
   refine sq ?_
   refine sh fol ((1,.i i)::(kAC [(5,.i f),(6,.i d),(17,.bool (decide (d<(a.Holds.length:Int))))])) ?_
   refine ihD g5 (fun r g5=>?_) (fun r g5=>?_)
   ·refine Goes.skip ?_
    refine sq ?_
    obtain⟨t,g8,g5⟩:=bnd g5
    refine Goes.imp (Q:=fun x s'=>(x= .normal/\ ∃j,j=t/\Sub s' (ofG 42 ((1,.i i)::(kAC (kAL j d))),(kD a.Day a.Lots a.Holds [])))) ?_ ?_
    ·refine Goes.block ?_
     obtain⟨q,b,g8⟩:=bnd g8
     obtain⟨k,c,g8⟩:=bnd g8
     refine sq (gr fol [3,5,9,11] ((1,.i i)::(kAC [(5,.i f),(6,.i d),(32,.bool (q.Lot==k.Name))])) (ac (iv qtA qg b) (ac (lv 0 ce9 qg b rfl) (ac (iv qsK qo c) (ac (lv 0 ce9 qo c rfl) az)))) ?_)
     refine ihB g8 (fun n g8=>?_) (fun n g8=>?_)
     ·refine gr fol [4,6] ((1,.i i)::(kAC (kAL (w64 (f-q.Reserved)) d))) (ac (iv qtA qg b) (ac (lv 2 ce3 qg b rfl) az)) ?_
      obtain rfl:=si g8
      exact⟨rfl,_,rfl,(Sub.refl _)⟩
     refine Goes.skip ?_
     obtain rfl:=si g8
     exact⟨rfl,_,rfl,(Sub.keep [1,2,5,6] rfl rfl)⟩
    rintro x s' ⟨rfl,j,rfl,hsub⟩
    refine Goes.sub hsub ?_
    refine gh fol ((1,.i i)::(kAC (kAL j (w64 (d+1))))) ?_
    exact⟨M,(ofG 42 ((1,.i i)::(kAC (kAL j (w64 (d+1))))),(kD a.Day a.Lots a.Holds [])),Nat.lt_succ_self _,(Sub.refl _),_,_,rfl,g5⟩
   refine Goes.exit ?_
   obtain rfl:=si g5
   exact⟨rfl,_,rfl,(Sub.norm [] [] rfl rfl (.drop (.drop (.keep (.same nI) .nil))) .nil)⟩
 rintro x s' ⟨rfl,g,rfl,hsub⟩
 refine Goes.sub hsub ?_
 refine sh fol (kAn g) ?_
 refine Goes.ret ?_
 obtain rfl:=si h
 exact(gw2 [.i g] (Ub tI))
def yQ (b:qa6) (name:Str):Nat->Int->Option (Unit⊕Int)
 |0,_=>none
 |K+1,a=>
  if a<(b.Lots.length:Int)then
  (idx b.Lots a).bind fun c=>
  if(c.Name==name)=true then
  some (.inr a)
  else
  yQ b name K (w64 (a+1))
  else
  some (.inl ())
def qdW (N:Nat) (a:qa6) (name:Str):Option Int:=
 (yQ a name N 0).bind (fun
 |(.inl ())=>
 some (-1)
 |(.inr b)=>
 some b)
theorem qmk (N:Nat) (a:qa6) (name:Str) {res:Int} (h:qdW N a name=some res):qE ZT (.fn 63) (kY a.Day a.Lots a.Holds [.str name]) [] (.i res) []:=by
 unfold qdW at h
 refine Uc Tryz.func63 rfl rfl (m:=22) rfl (rs:=[.tmp 4]) rfl (l:=(kAA a.Day a.Lots a.Holds [(1,.str name)])) rfl ?_
 refine sg fol ((1,.str name)::(kAC [])) (kD a.Day a.Lots a.Holds []) ?_
 refine sq ?_
 refine sh fol ((1,.str name)::(kAC [(5,.i 0)])) ?_
 refine Goes.block ?_
 obtain⟨d,g2,h⟩:=bnd h
 refine Goes.imp (Q:=fun x s'=>(x= .exit 0/\(.inl ())=d/\Sub s' (ofG 22 [],[]))\/(x= .ret/\ ∃e,(.inr e)=d/\jT ZT [.tmp 4] (.i e) .ret s')) ?_ ?_
 ·refine Ud (fun M s=> ∃(b:Int),s=(ofG 22 ((1,.str name)::(kAC (kAd b))),(kD a.Day a.Lots a.Holds []))/\yQ a name M b=some d) ?_ (m:=N) ⟨_,rfl,g2⟩
  rintro M s ⟨b,rfl,g2⟩
  cases M with
  |zero=>simp only[yQ]at g2;cases g2
  |succ M=>
   rw[yQ]at g2
   refine sq ?_
   refine sh fol ((1,.str name)::(kAC [(5,.i b),(10,.bool (decide (b<(a.Lots.length:Int))))])) ?_
   refine ihD g2 (fun f g2=>?_) (fun f g2=>?_)
   ·refine Goes.skip ?_
    refine sq (Goes.block ?_)
    obtain⟨g,c,g2⟩:=bnd g2
    refine sq (gr fol [3,5] ((1,.str name)::(kAC [(5,.i b),(20,.bool (g.Name==name))])) (ac (iv qsK qo c) (ac (lv 0 ce9 qo c rfl) az)) ?_)
    refine ihB g2 (fun j g2=>?_) (fun j g2=>?_)
    ·refine sh fol (kAn b) ?_
     refine Goes.ret ?_
     obtain rfl:=si g2
     exact Or.inr (⟨rfl,_,rfl,(gw2 [.i b] (Ub tI))⟩)
    refine Goes.skip ?_
    refine gh fol ((1,.str name)::(kAC (kAd (w64 (b+1))))) ?_
    exact⟨M,(ofG 22 ((1,.str name)::(kAC (kAd (w64 (b+1))))),(kD a.Day a.Lots a.Holds [])),Nat.lt_succ_self _,(Sub.refl _),_,rfl,g2⟩
   refine Goes.exit ?_
   obtain rfl:=si g2
   exact Or.inl (⟨rfl,rfl,(Sub.norm [] [] rfl rfl .nil .nil)⟩)
 rintro x s' (⟨rfl,rfl,hsub⟩|⟨rfl,k,rfl,hret⟩)
 ·try dsimp only at h
  refine Goes.sub hsub ?_
  refine sh fol kAq ?_
  refine Goes.ret ?_
  obtain rfl:=si h
  exact(gw2 [.i (-1)] (Ub tI))
 try dsimp only at h
 obtain rfl:=si h
 exact hret
def qgr (a:qp) (b:qp):Option Bool:=
 (if(!(ltL a.Lot b.Lot||a.Lot==b.Lot))=true then
 some true
 else
 if(a.Lot==b.Lot)=true then
 some (!(ltL a.Order b.Order||a.Order==b.Order))
 else
 some false:Option Bool).bind fun c=>
 some c
theorem qqM (a:qp) (b:qp) {res:Bool} (h:qgr a b=some res):qE ZT (.fn 64) (kAJ a.Lot a.Order a.Reserved a.Taken (kAJ b.Lot b.Order b.Reserved b.Taken [])) [] (.bool res) []:=by
 unfold qgr at h
 refine Uc Tryz.func64 rfl rfl (m:=24) rfl (rs:=[.tmp 4]) rfl (l:=(kAw a.Lot a.Order a.Reserved a.Taken [(1,.agg [.str b.Lot,.str b.Order,.i b.Reserved,.i b.Taken])])) rfl ?_
 refine sg fol (kL []) (kM a.Lot a.Order a.Reserved a.Taken (kM b.Lot b.Order b.Reserved b.Taken [])) ?_
 refine sq ?_
 obtain⟨f,c,h⟩:=bnd h
 refine Goes.cut (s':=(ofG 24 [(4,.bool f)],(kM a.Lot a.Order a.Reserved a.Taken (kM b.Lot b.Order b.Reserved b.Taken [])))) ?_ ?_
 ·rcases wyB c with⟨d,c⟩|⟨d,c⟩
  ·obtain rfl:=si c
   exact tr fol [5] kAk (ac (gw d) az)
  rcases wyB c with⟨e,c⟩|⟨e,c⟩
  ·obtain rfl:=si c
   exact tr fol [5,11] [(4,.bool (!(ltL a.Order b.Order||a.Order==b.Order)))] (ac (gw d) (ac (gw e) az))
  obtain rfl:=si c
  exact tr fol [5,11] kAr (ac (gw d) (ac (gw e) az))
 refine Goes.ret ?_
 obtain rfl:=si h
 exact(gw2 [.bool f] (Ub tB))
def qaY (N:Nat) (d:qa6):Nat->Int->Option (Unit⊕Int)
 |0,_=>none
 |K+1,b=>
  if b<(d.Lots.length:Int)then
  (idx d.Lots b).bind fun a=>
  ((qbC N a.Name).bind fun j=>
  if(!j)=true then
  some true
  else
  (qbC N a.Yarn).bind fun e=>
  if(!e)=true then
  some true
  else
  (qgs N a.Dye).bind fun f=>
  some (!f):Option Bool).bind fun g=>
  if g=true then
  some (.inr 8)
  else
  (if b>0 then
  (idx d.Lots (w64 (b-1))).bind fun c=>
  some (ltL a.Name c.Name||a.Name==c.Name)
  else
  some false:Option Bool).bind fun h=>
  if h=true then
  some (.inr 11)
  else
  (qeV a.Stock 0 999999999).bind fun i=>
  if i=true then
  some (.inr 3)
  else
  qaY N d K (w64 (b+1))
  else
  some (.inl ())
def qaU (N:Nat) (c:qa6):Nat->Int->Option (Unit⊕Int)
 |0,_=>none
 |K+1,b=>
  if b<(c.Holds.length:Int)then
  (idx c.Holds b).bind fun a=>
  (qdW N c a.Lot).bind fun d=>
  if d<0 then
  some (.inr 10)
  else
  (qbC N a.Order).bind fun e=>
  if(!e)=true then
  some (.inr 8)
  else
  (if b>0 then
  (idx c.Holds (w64 (b-1))).bind fun f=>
  (qgr a f).bind fun g=>
  some (!g)
  else
  some false:Option Bool).bind fun h=>
  if h=true then
  some (.inr 11)
  else
  ((qeV a.Reserved 0 999999999).bind fun i=>
  if i=true then
  some true
  else
  (qeV a.Taken 0 999999999).bind fun j=>
  some j:Option Bool).bind fun k=>
  if k=true then
  some (.inr 3)
  else
  (if a.Reserved=0 then
  some (decide (a.Taken=0))
  else
  some false:Option Bool).bind fun l=>
  if l=true then
  some (.inr 6)
  else
  qaU N c K (w64 (b+1))
  else
  some (.inl ())
def yH (N:Nat) (b:qa6):Nat->Int->Option (Unit⊕Int)
 |0,_=>none
 |K+1,a=>
  if a<(b.Lots.length:Int)then
  (qes N b a).bind fun c=>
  if c<0 then
  some (.inr 32)
  else
  yH N b K (w64 (a+1))
  else
  some (.inl ())
def qb9 (N:Nat) (a:qa6):Option Int:=
 (qeV a.Day 0 99999).bind fun e=>
 if e=true then
 some 3
 else
 if(a.Lots.length:Int)>64 then
 some 5
 else
 (qaY N a N 0).bind (fun
 |(.inl ())=>
 if(a.Holds.length:Int)>256 then
 some 5
 else
 (qaU N a N 0).bind (fun
 |(.inl ())=>
 (yH N a N 0).bind (fun
 |(.inl ())=>
 some 0
 |(.inr b)=>
 some b)
 |(.inr c)=>
 some c)
 |(.inr d)=>
 some d)
theorem qhU (N:Nat) (a:qa6) {res:Int} (h:qb9 N a=some res):qE ZT (.fn 25) [.agg (kG a.Day a.Lots a.Holds)] [] (.i res) []:=by
 unfold qb9 at h
 refine Uc Tryz.func25 rfl rfl (m:=125) rfl (rs:=[.tmp 2]) rfl (l:=(kAA a.Day a.Lots a.Holds [])) rfl ?_
 refine sg fol (kU []) (kD a.Day a.Lots a.Holds []) ?_
 refine sq ?_
 obtain⟨r1,P,h⟩:=bnd h
 refine sq (gr fol [2] (kU [(10,.bool r1)]) (ac (cv (qdX a.Day 0 99999 P)) az) ?_)
 refine ihB h (fun c2 h=>?_) (fun c2 h=>?_)
 ·refine sh fol [(2,.i 3)] ?_
  refine Goes.ret ?_
  obtain rfl:=si h
  exact(gw2 [.i 3] (Ub tI))
 refine Goes.skip ?_
 refine sq ?_
 refine sh fol (kU [(14,.bool (decide ((a.Lots.length:Int)>64)))]) ?_
 refine ihD h (fun c3 h=>?_) (fun c3 h=>?_)
 ·refine sh fol [(2,.i 5)] ?_
  refine Goes.ret ?_
  obtain rfl:=si h
  exact(gw2 [.i 5] (Ub tI))
 refine Goes.skip ?_
 refine sq ?_
 refine sh fol (kU [(3,.i 0)]) ?_
 refine Goes.block ?_
 obtain⟨W,g5,h⟩:=bnd h
 refine Goes.imp (Q:=fun x s'=>(x= .exit 0/\(.inl ())=W/\Sub s' (ofG 125 (kU []),(kD a.Day a.Lots a.Holds [])))\/(x= .ret/\ ∃q6,(.inr q6)=W/\jT ZT [.tmp 2] (.i q6) .ret s')) ?_ ?_
 ·refine Ud (fun M s=> ∃(o:Int),s=(ofG 125 (kU [(3,.i o)]),(kD a.Day a.Lots a.Holds []))/\qaY N a M o=some W) ?_ (m:=N) ⟨_,rfl,g5⟩
  rintro M s ⟨o,rfl,g5⟩
  cases M with
  |zero=>simp only[qaY]at g5;cases g5
  |succ M=>
   rw[qaY]at g5
   refine sq ?_
   refine sh fol (kU [(3,.i o),(19,.bool (decide (o<(a.Lots.length:Int))))]) ?_
   refine ihD g5 (fun c7 g5=>?_) (fun c7 g5=>?_)
   ·refine Goes.skip ?_
    refine sq (Goes.block ?_)
    obtain⟨k,y,g5⟩:=bnd g5
    refine sq (gq fol [3,4] (kU ((3,.i o)::(kAe []))) (kD a.Day a.Lots a.Holds (kX k.Name k.Yarn k.Dye k.Stock [])) (ac (iv qsK qo y) (ac (la ag84 qo y) az)) ?_)
    refine sq ?_
    refine sq ?_
    obtain⟨X,b,g5⟩:=bnd g5
    refine Goes.cut (s':=(ofG 125 (kU ((3,.i o)::(kAe [(42,.bool X)]))),(kD a.Day a.Lots a.Holds (kX k.Name k.Yarn k.Dye k.Stock [])))) ?_ ?_
    ·obtain⟨r9,p,b⟩:=bnd b
     rcases wyB b with⟨w,b⟩|⟨w,b⟩
     ·obtain rfl:=si b
      exact tr fol [2,4] (kU ((3,.i o)::(kAe [(42,.bool true)]))) (ac (cv (xA N k.Name p)) (ac (gw w) az))
     obtain⟨r11,q,b⟩:=bnd b
     rcases wyB b with⟨z,b⟩|⟨z,b⟩
     ·obtain rfl:=si b
      exact tr fol [2,4,7,10] (kU ((3,.i o)::(kAe [(42,.bool true)]))) (ac (cv (xA N k.Name p)) (ac (gw w) (ac (cv (xA N k.Yarn q)) (ac (gw z) az))))
     obtain⟨Y,A,b⟩:=bnd b
     obtain rfl:=si b
     exact tr fol [2,4,7,10,13] (kU ((3,.i o)::(kAe [(42,.bool (!Y))]))) (ac (cv (xA N k.Name p)) (ac (gw w) (ac (cv (xA N k.Yarn q)) (ac (gw z) (ac (cv (ql6 N k.Dye A)) az)))))
    refine ihB g5 (fun Z g5=>?_) (fun Z g5=>?_)
    ·refine sh fol [(2,.i 8)] ?_
     refine Goes.ret ?_
     obtain rfl:=si g5
     exact Or.inr (⟨rfl,_,rfl,(gw2 [.i 8] (Ub tI))⟩)
    refine Goes.skip ?_
    refine sq ?_
    refine sq ?_
    obtain⟨a0,g,g5⟩:=bnd g5
    refine Goes.cut (s':=(ofG 125 (kU ((3,.i o)::(kAe [(56,.bool a0)]))),(kD a.Day a.Lots a.Holds (kX k.Name k.Yarn k.Dye k.Stock [])))) ?_ ?_
    ·rcases wyD g with⟨B,g⟩|⟨B,g⟩
     ·obtain⟨T,r,g⟩:=bnd g
      obtain rfl:=si g
      exact tr fol [2,9,11] (kU ((3,.i o)::(kAe [(56,.bool (ltL k.Name T.Name||k.Name==T.Name))]))) (ac (gw B) (ac (iv qsK qo r) (ac (lv 0 ce9 qo r rfl) az)))
     obtain rfl:=si g
     exact tr fol [2] (kU ((3,.i o)::(kAe [(56,.bool false)]))) (ac (gw B) az)
    refine ihB g5 (fun a1 g5=>?_) (fun a1 g5=>?_)
    ·refine sh fol [(2,.i 11)] ?_
     refine Goes.ret ?_
     obtain rfl:=si g5
     exact Or.inr (⟨rfl,_,rfl,(gw2 [.i 11] (Ub tI))⟩)
    refine Goes.skip ?_
    obtain⟨a2,C,g5⟩:=bnd g5
    refine sq (gr fol [2] (kU [(3,.i o),(59,.bool a2)]) (ac (cv (qdX k.Stock 0 999999999 C)) az) ?_)
    refine ihB g5 (fun a3 g5=>?_) (fun a3 g5=>?_)
    ·refine sh fol [(2,.i 3)] ?_
     refine Goes.ret ?_
     obtain rfl:=si g5
     exact Or.inr (⟨rfl,_,rfl,(gw2 [.i 3] (Ub tI))⟩)
    refine Goes.skip ?_
    refine gh fol (kU [(3,.i (w64 (o+1)))]) ?_
    exact⟨M,(ofG 125 (kU [(3,.i (w64 (o+1)))]),(kD a.Day a.Lots a.Holds [])),Nat.lt_succ_self _,(Sub.norm [] [some 0] rfl rfl (.kp (.keep (.same nI) .nil)) (.kb rfl (.same sn) .nil)),_,rfl,g5⟩
   refine Goes.exit ?_
   obtain rfl:=si g5
   exact Or.inl (⟨rfl,rfl,(Sub.keep [1] rfl rfl)⟩)
 rintro x s' (⟨rfl,rfl,hsub⟩|⟨rfl,q58,rfl,hret⟩)
 ·try dsimp only at h
  refine Goes.sub hsub ?_
  refine sq ?_
  refine sh fol (kU [(63,.bool (decide ((a.Holds.length:Int)>256)))]) ?_
  refine ihD h (fun a4 h=>?_) (fun a4 h=>?_)
  ·refine sh fol [(2,.i 5)] ?_
   refine Goes.ret ?_
   obtain rfl:=si h
   exact(gw2 [.i 5] (Ub tI))
  refine Goes.skip ?_
  refine sq ?_
  refine sh fol (kU [(5,.i 0)]) ?_
  refine Goes.block ?_
  obtain⟨D,g26,h⟩:=bnd h
  refine Goes.imp (Q:=fun x s'=>(x= .exit 2/\(.inl ())=D/\Sub s' (ofG 125 (kU []),(kD a.Day a.Lots a.Holds [])))\/(x= .ret/\ ∃U,(.inr U)=D/\jT ZT [.tmp 2] (.i U) .ret s')) ?_ ?_
  ·refine Ud (fun M s=> ∃(d:Int),s=(ofG 125 (kU (kAd d)),(kD a.Day a.Lots a.Holds []))/\qaU N a M d=some D) ?_ (m:=N) ⟨_,rfl,g26⟩
   rintro M s ⟨d,rfl,g26⟩
   cases M with
   |zero=>simp only[qaU]at g26;cases g26
   |succ M=>
    rw[qaU]at g26
    refine sq ?_
    refine sh fol (kU [(5,.i d),(68,.bool (decide (d<(a.Holds.length:Int))))]) ?_
    refine ihD g26 (fun a5 g26=>?_) (fun a5 g26=>?_)
    ·refine Goes.skip ?_
     refine sq (Goes.block ?_)
     obtain⟨c,t,g26⟩:=bnd g26
     refine sq (gq fol [3,4] (kU (kAj d [])) (kD a.Day a.Lots a.Holds (kM c.Lot c.Order c.Reserved c.Taken [])) (ac (iv qtA qg t) (ac (la quG qg t) az)) ?_)
     refine sq ?_
     obtain⟨a6,E,g26⟩:=bnd g26
     refine sq (gr fol [3] (kU (kAj d [(80,.bool (decide (a6<0)))])) (ac (cv (qmk N a c.Lot E)) az) ?_)
     refine ihD g26 (fun a7 g26=>?_) (fun a7 g26=>?_)
     ·refine sh fol [(2,.i 10)] ?_
      refine Goes.ret ?_
      obtain rfl:=si g26
      exact Or.inr (⟨rfl,_,rfl,(gw2 [.i 10] (Ub tI))⟩)
     refine Goes.skip ?_
     refine sq ?_
     obtain⟨a8,F,g26⟩:=bnd g26
     refine sq (gr fol [2] (kU (kAj d [(84,.bool (!a8))])) (ac (cv (xA N c.Order F)) az) ?_)
     refine ihB g26 (fun a9 g26=>?_) (fun a9 g26=>?_)
     ·refine sh fol [(2,.i 8)] ?_
      refine Goes.ret ?_
      obtain rfl:=si g26
      exact Or.inr (⟨rfl,_,rfl,(gw2 [.i 8] (Ub tI))⟩)
     refine Goes.skip ?_
     refine sq ?_
     refine sq ?_
     obtain⟨b0,e,g26⟩:=bnd g26
     refine Goes.cut (s':=(ofG 125 (kU (kAj d [(97,.bool b0)])),(kD a.Day a.Lots a.Holds (kM c.Lot c.Order c.Reserved c.Taken [])))) ?_ ?_
     ·rcases wyD e with⟨G,e⟩|⟨G,e⟩
      ·obtain⟨b1,u,e⟩:=bnd e
       obtain⟨b2,H,e⟩:=bnd e
       obtain rfl:=si e
       exact tr fol [2,8,9,10] (kU (kAj d [(97,.bool (!b2))])) (ac (gw G) (ac (iv qtA qg u) (ac (la quG qg u) (ac (cv (qqM c b1 H)) az))))
      obtain rfl:=si e
      exact tr fol [2] (kU (kAj d [(97,.bool false)])) (ac (gw G) az)
     refine ihB g26 (fun b3 g26=>?_) (fun b3 g26=>?_)
     ·refine sh fol [(2,.i 11)] ?_
      refine Goes.ret ?_
      obtain rfl:=si g26
      exact Or.inr (⟨rfl,_,rfl,(gw2 [.i 11] (Ub tI))⟩)
     refine Goes.skip ?_
     refine sq ?_
     refine sq ?_
     obtain⟨b4,f,g26⟩:=bnd g26
     refine Goes.cut (s':=(ofG 125 (kU (kAj d [(105,.bool b4)])),(kD a.Day a.Lots a.Holds (kM c.Lot c.Order c.Reserved c.Taken [])))) ?_ ?_
     ·obtain⟨r40,v,f⟩:=bnd f
      rcases wyB f with⟨I,f⟩|⟨I,f⟩
      ·obtain rfl:=si f
       exact tr fol [2,3] (kU (kAj d [(105,.bool true)])) (ac (cv (qdX c.Reserved 0 999999999 v)) (ac (gw I) az))
      obtain⟨b5,J,f⟩:=bnd f
      obtain rfl:=si f
      exact tr fol [2,3,6] (kU (kAj d [(105,.bool b5)])) (ac (cv (qdX c.Reserved 0 999999999 v)) (ac (gw I) (ac (cv (qdX c.Taken 0 999999999 J)) az)))
     refine ihB g26 (fun b6 g26=>?_) (fun b6 g26=>?_)
     ·refine sh fol [(2,.i 3)] ?_
      refine Goes.ret ?_
      obtain rfl:=si g26
      exact Or.inr (⟨rfl,_,rfl,(gw2 [.i 3] (Ub tI))⟩)
     refine Goes.skip ?_
     refine sq ?_
     obtain⟨b7,j,g26⟩:=bnd g26
     refine Goes.cut (s':=(ofG 125 (kU [(5,.i d),(113,.bool b7)]),(kD a.Day a.Lots a.Holds (kM c.Lot c.Order c.Reserved c.Taken [])))) ?_ ?_
     ·rcases wyD j with⟨K,j⟩|⟨K,j⟩
      ·obtain rfl:=si j
       exact tr fol [3] (kU [(5,.i d),(113,.bool (decide (c.Taken=0)))]) (ac (gw K) az)
      obtain rfl:=si j
      exact tr fol [3] (kU [(5,.i d),(113,.bool false)]) (ac (gw K) az)
     refine ihB g26 (fun b8 g26=>?_) (fun b8 g26=>?_)
     ·refine sh fol [(2,.i 6)] ?_
      refine Goes.ret ?_
      obtain rfl:=si g26
      exact Or.inr (⟨rfl,_,rfl,(gw2 [.i 6] (Ub tI))⟩)
     refine Goes.skip ?_
     refine gh fol (kU (kAd (w64 (d+1)))) ?_
     exact⟨M,(ofG 125 (kU (kAd (w64 (d+1)))),(kD a.Day a.Lots a.Holds [])),Nat.lt_succ_self _,(Sub.norm [] [some 0] rfl rfl (.kp (.keep (.same nI) .nil)) (.kb rfl (.same sn) .nil)),_,rfl,g26⟩
    refine Goes.exit ?_
    obtain rfl:=si g26
    exact Or.inl (⟨rfl,rfl,(Sub.keep [1] rfl rfl)⟩)
  rintro x s' (⟨rfl,rfl,hsub⟩|⟨rfl,q57,rfl,hret⟩)
  ·try dsimp only at h
   refine Goes.sub hsub ?_
   refine sq ?_
   refine sh fol (kU [(7,.i 0)]) ?_
   refine Goes.block ?_
   obtain⟨L,g51,h⟩:=bnd h
   refine Goes.imp (Q:=fun x s'=>(x= .exit 4/\(.inl ())=L/\Sub s' (ofG 125 [],[]))\/(x= .ret/\ ∃V,(.inr V)=L/\jT ZT [.tmp 2] (.i V) .ret s')) ?_ ?_
   ·refine Ud (fun M s=> ∃(n:Int),s=(ofG 125 (kU [(7,.i n)]),(kD a.Day a.Lots a.Holds []))/\yH N a M n=some L) ?_ (m:=N) ⟨_,rfl,g51⟩
    rintro M s ⟨n,rfl,g51⟩
    cases M with
    |zero=>simp only[yH]at g51;cases g51
    |succ M=>
     rw[yH]at g51
     refine sq ?_
     refine sh fol (kU [(7,.i n),(118,.bool (decide (n<(a.Lots.length:Int))))]) ?_
     refine ihD g51 (fun b9 g51=>?_) (fun b9 g51=>?_)
     ·refine Goes.skip ?_
      refine sq (Goes.block ?_)
      obtain⟨c0,O,g51⟩:=bnd g51
      refine sq (gr fol [2] (kU [(7,.i n),(124,.bool (decide (c0<0)))]) (ac (cv (qm5 N a n O)) az) ?_)
      refine ihD g51 (fun c1 g51=>?_) (fun c1 g51=>?_)
      ·refine sh fol [(2,.i 32)] ?_
       refine Goes.ret ?_
       obtain rfl:=si g51
       exact Or.inr (⟨rfl,_,rfl,(gw2 [.i 32] (Ub tI))⟩)
      refine Goes.skip ?_
      refine gh fol (kU [(7,.i (w64 (n+1)))]) ?_
      exact⟨M,(ofG 125 (kU [(7,.i (w64 (n+1)))]),(kD a.Day a.Lots a.Holds [])),Nat.lt_succ_self _,(Sub.refl _),_,rfl,g51⟩
     refine Goes.exit ?_
     obtain rfl:=si g51
     exact Or.inl (⟨rfl,rfl,(Sub.norm [] [] rfl rfl .nil .nil)⟩)
   rintro x s' (⟨rfl,rfl,hsub⟩|⟨rfl,q56,rfl,hret⟩)
   ·try dsimp only at h
    refine Goes.sub hsub ?_
    refine sh fol [(2,.i 0)] ?_
    refine Goes.ret ?_
    obtain rfl:=si h
    exact(gw2 [.i 0] (Ub tI))
   try dsimp only at h
   obtain rfl:=si h
   exact hret
  try dsimp only at h
  obtain rfl:=si h
  exact hret
 try dsimp only at h
 obtain rfl:=si h
 exact hret
def qj5 (N:Nat) (a:StateT) (lot:Str):Option (Int×Int):=
 (qdf N a).bind fun b=>
 if(!decide (b=0))=true then
 some (0,b)
 else
 (qbG N a lot).bind fun c=>
 if(!c.2)=true then
 some (0,10)
 else
 (idx a.Lots c.1).bind fun d=>
 (qdi N a d).bind fun e=>
 some (e,0)
theorem qrB (N:Nat) (a:StateT) (lot:Str) {res:Int×Int} (h:qj5 N a lot=some res):qE ZT (.fn 31) (kY a.Day a.Lots a.Holds [.str lot]) [] (.tuple [.i res.1,.i res.2]) []:=by
 unfold qj5 at h
 refine Uc Tryz.func31 rfl rfl (m:=29) rfl (rs:=[.tmp 4,.tmp 5]) rfl (l:=(kAA a.Day a.Lots a.Holds [(1,.str lot)])) rfl ?_
 refine sg fol ((1,.str lot)::(kAC [])) (kD a.Day a.Lots a.Holds []) ?_
 refine sq ?_
 obtain⟨c,d,h⟩:=bnd h
 refine sq (gr fol [1] ((1,.str lot)::(kAC [(6,.i c)])) (ac (cv (qiB N a d)) az) ?_)
 refine sh fol ((1,.str lot)::(kAC [(6,.i c),(12,.bool (!decide (c=0)))])) ?_
 refine ihB h (fun k h=>?_) (fun k h=>?_)
 ·refine sh fol ((4,.i 0)::(kAd c)) ?_
  refine Goes.ret ?_
  obtain rfl:=si h
  exact(gw2 [.i 0,.i c] (FzW.tuple (ky.cons (Ub tI) (ky.cons (Ub tI) ky.nil))))
 refine Goes.skip ?_
 obtain⟨g,e,h⟩:=bnd h
 refine sq (gr fol [2] (kAC [(7,.i g.1),(8,.bool g.2)]) (ac (cv (qgS N a lot e)) az) ?_)
 refine sq ?_
 refine sh fol (kAC [(7,.i g.1),(21,.bool (!g.2))]) ?_
 refine ihB h (fun n h=>?_) (fun n h=>?_)
 ·refine sh fol [(4,.i 0),(5,.i 10)] ?_
  refine Goes.ret ?_
  obtain rfl:=si h
  exact(gw2 [.i 0,.i 10] (FzW.tuple (ky.cons (Ub tI) (ky.cons (Ub tI) ky.nil))))
 refine Goes.skip ?_
 obtain⟨o,b,h⟩:=bnd h
 obtain⟨j,f,h⟩:=bnd h
 refine sq (gr fol [4,5,6] [(4,.i j),(5,.i 0)] (ac (iv qps qo b) (ac (la qr9 qo b) (ac (cv (qgf N a o f)) az))) ?_)
 refine Goes.ret ?_
 obtain rfl:=si h
 exact(gw2 [.i j,.i 0] (FzW.tuple (ky.cons (Ub tI) (ky.cons (Ub tI) ky.nil))))
end Go.Av
