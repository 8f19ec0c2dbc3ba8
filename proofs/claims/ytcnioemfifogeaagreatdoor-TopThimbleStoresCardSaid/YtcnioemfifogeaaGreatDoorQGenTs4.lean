/-
  Walks of functions: what each computes, as a plain function.
-/
import Derived.Test.YtcnioemfifogeaaGreatDoorQGenTs3
noncomputable section
namespace Go.Av
open Go.Proofs Go.RowKit
set_option linter.unusedSectionVars false
set_option linter.unusedVariables false
set_option linter.unusedSimpArgs false
set_option maxRecDepth 100000
def qmB (N:Nat) (l:List zi):Nat->Int->(List zY)->(List qE)->(List qe6)->Int->Option (Int×(List zY)×(List qE)×(List qe6))
 |0,_,_,_,_,_=>none
 |K+1,d,e,f,h,g=>
  if g<(l.length:Int)then
  (((idx l g).bind fun b=>
  (qnx N (⟨d,e,f⟩:StateT) b).bind fun c=>
  if(!decide (c=0))=true then
  (app 16 h [(⟨w64 (g+1),c⟩:qe6)]).bind fun i=>
  some (d,e,f,i)
  else
  (qlJ N (⟨d,e,f⟩:StateT) b).bind fun a=>
  some (a.Day,a.Lots,a.Holds,h):Option (Int×(List zY)×(List qE)×(List qe6)))).bind fun(j,k,m,n)=>
  qmB N l K j k m n (w64 (g+1))
  else
  some (d,e,f,h)
def qr0 (N:Nat) (l:List zi):Option (StateT×(List qe6)):=
 (qmB N l N 0 ([]:List zY) ([]:List qE) ([]:List qe6) 0).bind fun(a,b,c,d)=>
 some ((⟨a,b,c⟩:StateT),d)
theorem qBb (N:Nat) (l:List zi) {res:StateT×(List qe6)} (h:qr0 N l=some res):zu ZT (.fn 49) [vl jT l] [] (.tuple (kAA res.1.Day res.1.Lots res.1.Holds [vl qbo res.2])) []:=by
 unfold qr0 at h
 refine Uc Tryz.func49 rfl rfl (m:=34) rfl (rs:=[.cell 2 30,.tmp 3]) rfl (l:=(kN l [])) rfl ?_
 refine sg fol (kN l (kAG [])) (kH []) ?_
 refine sg fol (kN l (kM [])) (kH (kH [])) ?_
 refine sh fol (kN l (kM [(5,.nilslice)])) ?_
 refine sq ?_
 refine sh fol (kM [(5,.nilslice),(9,vl jT l),(10,.i (l.length:Int)),(11,.i 0)]) ?_
 refine Goes.block ?_
 obtain⟨C,g10,h⟩:=bnd h
 refine Goes.imp (Q:=fun x s'=>(x= .exit 0/\ ∃z A B t,(z,A,B,t)=C/\Sub s' (ofG 34 (kM (kAc t [])),(kH (kE z A B (kAO t [])))))) ?_ ?_
 ·refine Goes.sub (s':=(ofG 34 (kM [(5,.gslice 2 ([]:List qe6).length 2),(9,vl jT l),(10,.i (l.length:Int)),(11,.i 0)]),(kH [.cells [.i 0,vl qN ([]:List zY),vl qJ ([]:List qE)],.cells (([]:List qe6).flatMap qbo.c)]))) (Sub.norm [] [some 0,some 1,none] rfl rfl (.kp (.kp (.keep .nil (.keep (.same (qbl jT _)) (.keep (.same nI) (.keep (.same nI) .nil)))))) (.kb rfl (.same sn) (.kb rfl (.cells (rc (.same nI) (rc (.nilv) (rc (.nilv) rn)))) (.fresh .nil)))) ?_
  refine Ud (fun M s=> ∃(j:Int) (k:List zY) (n:List qE) (f:List qe6) (b:Int),s=(ofG 34 (kM (kAc f (kAI l (l.length:Int) b []))),(kH (kE j k n (kAO f []))))/\qmB N l M j k n f b=some C) ?_ (m:=N) ⟨_,_,_,_,_,rfl,g10⟩
  rintro M s ⟨j,k,n,f,b,rfl,g10⟩
  cases M with
  |zero=>simp only[qmB]at g10;cases g10
  |succ M=>
   rw[qmB]at g10
   refine sh fol (kM (kAc f (kAI l (l.length:Int) b [(12,.bool (decide (b<(l.length:Int))))]))) ?_
   refine sq ?_
   refine ihD g10 (fun D g10=>?_) (fun D g10=>?_)
   ·refine Goes.skip ?_
    refine sq ?_
    obtain⟨F,g16,g10⟩:=bnd g10
    refine Goes.imp (Q:=fun x s'=>(x= .normal/\ ∃o p q d,(o,p,q,d)=F/\Sub s' (ofG 34 (kM (kAc d (kAI l (l.length:Int) b []))),(kH (kE o p q (kAO d [])))))) ?_ ?_
    ·refine Goes.block ?_
     obtain⟨a,g,g16⟩:=bnd g16
     refine sq (gq fol [1,2] (kM (kAc f ((6,.i b)::(7,.ptr 3 0)::(kAI l (l.length:Int) b [])))) (kH (kE j k n (kAO f (kD a.Kind a.Day a.Lot a.Amount a.Yarn a.Dye a.Order [])))) (ac (iv qFX jT g) (ac (la ag56 jT g) az)) ?_)
     refine sq ?_
     obtain⟨e,u,g16⟩:=bnd g16
     refine sq (gr fol [2] (kM (kAc f ((6,.i b)::(7,.ptr 3 0)::(8,.i e)::(kAI l (l.length:Int) b [])))) (ac (cv (qxW N (⟨j,k,n⟩:StateT) a u)) az) ?_)
     refine sh fol (kM (kAc f ((6,.i b)::(7,.ptr 3 0)::(8,.i e)::(kAI l (l.length:Int) b [(20,.bool (!decide (e=0)))])))) ?_
     refine ihB g16 (fun G g16=>?_) (fun G g16=>?_)
     ·obtain⟨r,v,g16⟩:=bnd g16
      refine sq (gq fol [6] (kM ((5,.gslice 5 r.length 2)::(kAI l (l.length:Int) b []))) (kH (kE j k n (.dead::(kD a.Kind a.Day a.Lot a.Amount a.Yarn a.Dye a.Order (.cells [.i (w64 (b+1)),.i e]::(kAO r [])))))) (ac (hs (.run [2,4] (qqW ZT [31,31] (.gslice 2 f.length 2) (.slice 4 0 1 1 2)) (kH (kE j k n (kAO f (kD a.Kind a.Day a.Lot a.Amount a.Yarn a.Dye a.Order (kAb (w64 (b+1)) e))))) (.gslice 5 r.length 2) (kH (kE j k n (.dead::(kD a.Kind a.Day a.Lot a.Amount a.Yarn a.Dye a.Order (.cells [.i (w64 (b+1)),.i e]::(kAO r [])))))) true) (qyQ sl31 (E:=qbo) rfl (qEj (E:=qbo) (ys:=[(⟨w64 (b+1),e⟩:qe6)]) rfl rfl rfl rfl) (qFg (E:=qbo) (l:=f) rfl rfl rfl v rfl))) az) ?_)
      refine Goes.exit ?_
      obtain rfl:=si g16
      exact⟨rfl,_,_,_,_,rfl,(Sub.norm [] [some 0,some 1,some 5] rfl rfl (.kp (.kp (.keep (.gslice rfl) (.keep (.same (qbl jT _)) (.keep (.same nI) (.keep (.same nI) .nil)))))) (.kb rfl (.same sn) (.kb rfl (.same sn) (.ks .nil))))⟩
     refine Goes.skip ?_
     obtain⟨w,y,g16⟩:=bnd g16
     refine gq fol [2] (kM (kAc f (kAI l (l.length:Int) b []))) (kH (kE w.Day w.Lots w.Holds (kAO f (kD a.Kind a.Day a.Lot a.Amount a.Yarn a.Dye a.Order [])))) (ac (cv (qts N (⟨j,k,n⟩:StateT) a y)) az) ?_
     obtain rfl:=si g16
     exact⟨rfl,_,_,_,_,rfl,(Sub.norm [] [some 0,some 1,some 2] rfl rfl (.kp (.kp (.keep (.gslice rfl) (.keep (.same (qbl jT _)) (.keep (.same nI) (.keep (.same nI) .nil)))))) (.kb rfl (.same sn) (.kb rfl (.same sn) (.ks .nil))))⟩
    rintro x s' ⟨rfl,o,p,q,d,rfl,hsub⟩
    try dsimp only at g10
    refine Goes.sub hsub ?_
    refine gh fol (kM (kAc d (kAI l (l.length:Int) (w64 (b+1)) []))) ?_
    exact⟨M,(ofG 34 (kM (kAc d (kAI l (l.length:Int) (w64 (b+1)) []))),(kH (kE o p q (kAO d [])))),Nat.lt_succ_self _,(Sub.refl _),_,_,_,_,_,rfl,g10⟩
   refine Goes.exit ?_
   obtain rfl:=si g10
   exact⟨rfl,_,_,_,_,rfl,(Sub.keep [2,4,5] rfl rfl)⟩
 rintro x s' ⟨rfl,z,A,B,t,rfl,hsub⟩
 try dsimp only at h
 refine Goes.sub hsub ?_
 refine sg fol (kAG [(3,.gslice 2 t.length 2)]) (kE z A B (kE z A B (kAO t []))) ?_
 refine Goes.ret ?_
 obtain rfl:=si h
 exact(gw2 (kAA z A B [.gslice 2 t.length 2]) (FzW.tuple (xI.cons (FzW.agg (xI.cons (Ub tI) (xI.cons (Ub (jo qN _ (nl rfl))) (xI.cons (Ub (jo qJ _ (nl rfl))) xI.nil)))) (xI.cons (FzW.fz (Fz.gs (E:=qbo) rfl rfl (nl rfl))) xI.nil))))
def qqv (N:Nat) (l:List zi):Option (StateT×(List qe6)×Int):=
 (qpL N l).bind fun a=>
 if(!decide (a=0))=true then
 some ((⟨0,[],[]⟩:StateT),[],a)
 else
 (qr0 N l).bind fun b=>
 some (b.1,b.2,0)
theorem qwx (N:Nat) (l:List zi) {res:StateT×(List qe6)×Int} (h:qqv N l=some res):zu ZT (.fn 11) [vl jT l] [] (.tuple (kAA res.1.Day res.1.Lots res.1.Holds [vl qbo res.2.1,.i res.2.2])) []:=by
 unfold qqv at h
 refine Uc Tryz.func11 rfl rfl (m:=21) rfl (rs:=[.cell 2 30,.tmp 3,.tmp 4]) rfl (l:=(kN l [])) rfl ?_
 refine sg fol (kN l (kAG [])) (kH []) ?_
 refine sq ?_
 obtain⟨b,c,h⟩:=bnd h
 refine sq (gr fol [1] (kN l (kAG (kAe b))) (ac (cv (qzu N l c)) az) ?_)
 refine sh fol (kN l (kAG [(5,.i b),(11,.bool (!decide (b=0)))])) ?_
 refine ihB h (fun e h=>?_) (fun e h=>?_)
 ·refine sh fol (kAG ((3,.nilslice)::(kAj b))) ?_
  refine Goes.ret ?_
  obtain rfl:=si h
  exact(gw2 [.agg [.i 0,.nilslice,.nilslice],.nilslice,.i b] (FzW.tuple (xI.cons (FzW.agg (xI.cons (Ub tI) (xI.cons (FzW.nilv (E:=qN)) (xI.cons (FzW.nilv (E:=qJ)) xI.nil)))) (xI.cons (FzW.nilv (E:=qbo)) (xI.cons (Ub tI) xI.nil)))))
 refine Goes.skip ?_
 obtain⟨a,d,h⟩:=bnd h
 refine sq (gq fol [1] (kAG [(6,.ptr 1 0),(7,vl qbo a.2)]) (kH (kE a.1.Day a.1.Lots a.1.Holds [])) (ac (cv (qBb N l d)) az) ?_)
 refine sg fol (kAG [(3,vl qbo a.2),(4,.i 0)]) (kE a.1.Day a.1.Lots a.1.Holds (kE a.1.Day a.1.Lots a.1.Holds [])) ?_
 refine Goes.ret ?_
 obtain rfl:=si h
 exact(gw2 (kAA a.1.Day a.1.Lots a.1.Holds [vl qbo a.2,.i 0]) (FzW.tuple (xI.cons (FzW.agg (xI.cons (Ub tI) (xI.cons (Ub (jo qN _ (nl rfl))) (xI.cons (Ub (jo qJ _ (nl rfl))) xI.nil)))) (xI.cons (Ub (jo qbo _ (nl rfl))) (xI.cons (Ub tI) xI.nil)))))
def qoN (n:Int) (least:Int) (most:Int):Option Bool:=
 (if n<least then
 some true
 else
 some (decide (n>most)):Option Bool).bind fun a=>
 some a
theorem qvm (n:Int) (least:Int) (most:Int) {res:Bool} (h:qoN n least most=some res):zu ZT (.fn 60) [.i n,.i least,.i most] [] (.bool res) []:=by
 unfold qoN at h
 refine Uc Tryz.func60 rfl rfl (m:=15) rfl (rs:=[.tmp 6]) rfl (l:=((0,.i n)::(1,.i least)::(kAl most))) rfl ?_
 refine sh fol ((0,.i n)::(1,.i least)::(kAl most)) ?_
 refine sq ?_
 obtain⟨c,a,h⟩:=bnd h
 refine Goes.cut (s':=(ofG 15 [(6,.bool c)],[])) ?_ ?_
 ·rcases wyD a with⟨b,a⟩|⟨b,a⟩
  ·obtain rfl:=si a
   exact tr fol [3] [(6,.bool true)] (ac (gw b) az)
  obtain rfl:=si a
  exact tr fol [3] [(6,.bool (decide (n>most)))] (ac (gw b) az)
 refine Goes.ret ?_
 obtain rfl:=si h
 exact(gw2 [.bool c] (Ub tB))
def qlB (c:Str):Nat->Int->Option (Unit⊕Bool)
 |0,_=>none
 |K+1,b=>
  if b<(c.length:Int)then
  (idx c b).bind fun a=>
  (if(a.toNat:Int)>=97 then
  if(a.toNat:Int)<=122 then
  some true
  else
  if(a.toNat:Int)>=65 then
  some (decide ((a.toNat:Int)<=90))
  else
  some false
  else
  if(a.toNat:Int)>=65 then
  some (decide ((a.toNat:Int)<=90))
  else
  some false:Option Bool).bind fun d=>
  (if(!d)=true then
  if b=0 then
  some true
  else
  if(a.toNat:Int)>=48 then
  if(a.toNat:Int)<=57 then
  some false
  else
  some (!(decide ((a.toNat:Int)=95)))
  else
  some (!(decide ((a.toNat:Int)=95)))
  else
  some false:Option Bool).bind fun e=>
  if e=true then
  some (.inr false)
  else
  qlB c K (w64 (b+1))
  else
  some (.inl ())
def qji (N:Nat) (a:Str):Option Bool:=
 (if(a.length:Int)<1 then
 some true
 else
 some (decide ((a.length:Int)>24)):Option Bool).bind fun c=>
 if c=true then
 some false
 else
 (qlB a N 0).bind (fun
 |(.inl ())=>
 some true
 |(.inr b)=>
 some b)
theorem qou (N:Nat) (c:Str) {res:Bool} (h:qji N c=some res):zu ZT (.fn 61) [.str c] [] (.bool res) []:=by
 unfold qji at h
 refine Uc Tryz.func61 rfl rfl (m:=56) rfl (rs:=[.tmp 2]) rfl (l:=[(0,.str c)]) rfl ?_
 refine sh fol [(0,.str c)] ?_
 refine sq ?_
 refine sq ?_
 obtain⟨B,e,h⟩:=bnd h
 refine Goes.cut (s':=(ofG 56 [(0,.str c),(13,.bool B)],[])) ?_ ?_
 ·rcases wyD e with⟨u,e⟩|⟨u,e⟩
  ·obtain rfl:=si e
   exact tr fol [3] [(0,.str c),(13,.bool true)] (ac (gw u) az)
  obtain rfl:=si e
  exact tr fol [3] [(0,.str c),(13,.bool (decide ((c.length:Int)>24)))] (ac (gw u) az)
 refine ihB h (fun C h=>?_) (fun C h=>?_)
 ·refine sh fol kAR ?_
  refine Goes.ret ?_
  obtain rfl:=si h
  exact(gw2 [.bool false] (Ub tB))
 refine Goes.skip ?_
 refine sq ?_
 refine sh fol [(0,.str c),(3,.i 0)] ?_
 refine Goes.block ?_
 obtain⟨v,g6,h⟩:=bnd h
 refine Goes.imp (Q:=fun x s'=>(x= .exit 0/\(.inl ())=v/\Sub s' (ofG 56 [],[]))\/(x= .ret/\ ∃A,(.inr A)=v/\qhA ZT [.tmp 2] (.bool A) .ret s')) ?_ ?_
 ·refine Ud (fun M s=> ∃(d:Int),s=(ofG 56 (kAZ c d []),[])/\qlB c M d=some v) ?_ (m:=N) ⟨_,rfl,g6⟩
  rintro M s ⟨d,rfl,g6⟩
  cases M with
  |zero=>simp only[qlB]at g6;cases g6
  |succ M=>
   rw[qlB]at g6
   refine sq ?_
   refine sh fol (kAZ c d [(17,.bool (decide (d<(c.length:Int))))]) ?_
   refine ihD g6 (fun D g6=>?_) (fun D g6=>?_)
   ·refine Goes.skip ?_
    refine sq (Goes.block ?_)
    obtain⟨j,t,g6⟩:=bnd g6
    refine sq (gr fol [2] (kAZ c d [(4,.int .u8 (j.toNat:Int))]) (ac (hs (.done (.opt (qyj ZT 9 (.str c) (.i d))) (.int .u8 (j.toNat:Int))) (qI8 st9 t)) az) ?_)
    refine sq ?_
    obtain⟨w,a,g6⟩:=bnd g6
    refine Goes.cut (s':=(ofG 56 (kAZ c d [(4,.int .u8 (j.toNat:Int)),(5,.bool w)]),[])) ?_ ?_
    ·rcases wyD a with⟨f,a⟩|⟨f,a⟩
     ·rcases wyD a with⟨n,a⟩|⟨n,a⟩
      ·obtain rfl:=si a
       exact tr fol [2,6] (kAZ c d [(4,.int .u8 (j.toNat:Int)),(5,.bool true)]) (ac (gw f) (ac (gw n) az))
      rcases wyD a with⟨p,a⟩|⟨p,a⟩
      ·obtain rfl:=si a
       exact tr fol [2,6,9] (kAZ c d [(4,.int .u8 (j.toNat:Int)),(5,.bool (decide ((j.toNat:Int)<=90)))]) (ac (gw f) (ac (gw n) (ac (gw p) az)))
      obtain rfl:=si a
      exact tr fol [2,6,9] (kAZ c d [(4,.int .u8 (j.toNat:Int)),(5,.bool false)]) (ac (gw f) (ac (gw n) (ac (gw p) az)))
     rcases wyD a with⟨q,a⟩|⟨q,a⟩
     ·obtain rfl:=si a
      exact tr fol [2,9] (kAZ c d [(4,.int .u8 (j.toNat:Int)),(5,.bool (decide ((j.toNat:Int)<=90)))]) (ac (gw f) (ac (gw q) az))
     obtain rfl:=si a
     exact tr fol [2,9] (kAZ c d [(4,.int .u8 (j.toNat:Int)),(5,.bool false)]) (ac (gw f) (ac (gw q) az))
    refine sq ?_
    obtain⟨y,b,g6⟩:=bnd g6
    refine Goes.cut (s':=(ofG 56 (kAZ c d [(55,.bool y)]),[])) ?_ ?_
    ·rcases wyB b with⟨g,b⟩|⟨g,b⟩
     ·rcases wyD b with⟨k,b⟩|⟨k,b⟩
      ·obtain rfl:=si b
       exact tr fol [2,5] (kAZ c d [(55,.bool true)]) (ac (gw g) (ac (gw k) az))
      rcases wyD b with⟨o,b⟩|⟨o,b⟩
      ·rcases wyD b with⟨r,b⟩|⟨r,b⟩
       ·obtain rfl:=si b
        exact tr fol [2,5,8,12] (kAZ c d [(55,.bool false)]) (ac (gw g) (ac (gw k) (ac (gw o) (ac (gw r) az))))
       obtain rfl:=si b
       exact tr fol [2,5,8,12] (kAZ c d [(55,.bool (!(decide ((j.toNat:Int)=95))))]) (ac (gw g) (ac (gw k) (ac (gw o) (ac (gw r) az))))
      obtain rfl:=si b
      exact tr fol [2,5,8] (kAZ c d [(55,.bool (!(decide ((j.toNat:Int)=95))))]) (ac (gw g) (ac (gw k) (ac (gw o) az)))
     obtain rfl:=si b
     exact tr fol [2] (kAZ c d [(55,.bool false)]) (ac (gw g) az)
    refine ihB g6 (fun z g6=>?_) (fun z g6=>?_)
    ·refine sh fol kAR ?_
     refine Goes.ret ?_
     obtain rfl:=si g6
     exact Or.inr (⟨rfl,_,rfl,(gw2 [.bool false] (Ub tB))⟩)
    refine Goes.skip ?_
    refine gh fol (kAZ c (w64 (d+1)) []) ?_
    exact⟨M,(ofG 56 (kAZ c (w64 (d+1)) []),[]),Nat.lt_succ_self _,(Sub.refl _),_,rfl,g6⟩
   refine Goes.exit ?_
   obtain rfl:=si g6
   exact Or.inl (⟨rfl,rfl,(Sub.keep [] rfl rfl)⟩)
 rintro x s' (⟨rfl,rfl,hsub⟩|⟨rfl,E,rfl,hret⟩)
 ·try dsimp only at h
  refine Goes.sub hsub ?_
  refine sh fol [(2,.bool true)] ?_
  refine Goes.ret ?_
  obtain rfl:=si h
  exact(gw2 [.bool true] (Ub tB))
 try dsimp only at h
 obtain rfl:=si h
 exact hret
def qqu (N:Nat) (a:Str):Option Bool:=
 (if(a==[])=true then
 some true
 else
 (qji N a).bind fun b=>
 some b:Option Bool).bind fun c=>
 some c
theorem qAf (N:Nat) (b:Str) {res:Bool} (h:qqu N b=some res):zu ZT (.fn 62) [.str b] [] (.bool res) []:=by
 unfold qqu at h
 refine Uc Tryz.func62 rfl rfl (m:=9) rfl (rs:=[.tmp 2]) rfl (l:=[(0,.str b)]) rfl ?_
 refine sh fol [(0,.str b)] ?_
 refine sq ?_
 obtain⟨e,a,h⟩:=bnd h
 refine Goes.cut (s':=(ofG 9 (kAJ e),[])) ?_ ?_
 ·rcases wyB a with⟨d,a⟩|⟨d,a⟩
  ·obtain rfl:=si a
   exact tr fol [2] [(2,.bool true)] (ac (gw d) az)
  obtain⟨f,c,a⟩:=bnd a
  obtain rfl:=si a
  exact tr fol [2,4] (kAJ f) (ac (gw d) (ac (cv (qou N b c)) az))
 refine Goes.ret ?_
 obtain rfl:=si h
 exact(gw2 [.bool e] (Ub tB))
def qnA (N:Nat) (e:zi):Option Int:=
 (if(!(e.Kind==[114,101,99,101,105,118,101]))=true then
 if(!(e.Kind==[114,101,115,101,114,118,101]))=true then
 if(!(e.Kind==[114,101,108,101,97,115,101]))=true then
 if(!(e.Kind==[116,97,107,101]))=true then
 some (!(e.Kind==[114,101,116,117,114,110]))
 else
 some false
 else
 some false
 else
 some false
 else
 some false:Option Bool).bind fun j=>
 if j=true then
 some 13
 else
 ((qoN e.Day 0 99999).bind fun k=>
 if k=true then
 some true
 else
 (qoN e.Amount 1 999999999).bind fun a=>
 some a:Option Bool).bind fun b=>
 if b=true then
 some 3
 else
 (qji N e.Lot).bind fun c=>
 if(!c)=true then
 some 8
 else
 if(e.Kind==[114,101,99,101,105,118,101])=true then
 ((qji N e.Yarn).bind fun d=>
 if(!d)=true then
 some true
 else
 (qqu N e.Dye).bind fun f=>
 some (!f):Option Bool).bind fun g=>
 if g=true then
 some 8
 else
 if(!(e.Order==[]))=true then
 some 1
 else
 some 0
 else
 (qji N e.Order).bind fun h=>
 if(!h)=true then
 some 8
 else
 (if(!(e.Yarn==[]))=true then
 some true
 else
 some (!(e.Dye==[])):Option Bool).bind fun i=>
 if i=true then
 some 1
 else
 some 0
theorem qxY (N:Nat) (e:zi) {res:Int} (h:qnA N e=some res):zu ZT (.fn 26) [.agg (kA e.Kind e.Day e.Lot e.Amount e.Yarn e.Dye e.Order)] [] (.i res) []:=by
 unfold qnA at h
 refine Uc Tryz.func26 rfl rfl (m:=63) rfl (rs:=[.tmp 2]) rfl (l:=[(0,.agg [.str e.Kind,.i e.Day,.str e.Lot,.i e.Amount,.str e.Yarn,.str e.Dye,.str e.Order])]) rfl ?_
 refine sg fol (kAM []) (kD e.Kind e.Day e.Lot e.Amount e.Yarn e.Dye e.Order []) ?_
 refine sh fol (kAM [(3,.str e.Kind)]) ?_
 refine sq ?_
 refine sq ?_
 obtain⟨K,a,h⟩:=bnd h
 refine Goes.cut (s':=(ofG 63 (kAM [(3,.str e.Kind),(23,.bool K)]),(kD e.Kind e.Day e.Lot e.Amount e.Yarn e.Dye e.Order []))) ?_ ?_
 ·rcases wyB a with⟨r,a⟩|⟨r,a⟩
  ·rcases wyB a with⟨s,a⟩|⟨s,a⟩
   ·rcases wyB a with⟨t,a⟩|⟨t,a⟩
    ·rcases wyB a with⟨u,a⟩|⟨u,a⟩
     ·obtain rfl:=si a
      exact tr fol [2,6,10,14] (kAM [(3,.str e.Kind),(23,.bool (!(e.Kind==[114,101,116,117,114,110])))]) (ac (gw r) (ac (gw s) (ac (gw t) (ac (gw u) az))))
     obtain rfl:=si a
     exact tr fol [2,6,10,14] (kAM [(3,.str e.Kind),(23,.bool false)]) (ac (gw r) (ac (gw s) (ac (gw t) (ac (gw u) az))))
    obtain rfl:=si a
    exact tr fol [2,6,10] (kAM [(3,.str e.Kind),(23,.bool false)]) (ac (gw r) (ac (gw s) (ac (gw t) az)))
   obtain rfl:=si a
   exact tr fol [2,6] (kAM [(3,.str e.Kind),(23,.bool false)]) (ac (gw r) (ac (gw s) az))
  obtain rfl:=si a
  exact tr fol [2] (kAM [(3,.str e.Kind),(23,.bool false)]) (ac (gw r) az)
 refine ihB h (fun L h=>?_) (fun L h=>?_)
 ·refine sh fol [(2,.i 13)] ?_
  refine Goes.ret ?_
  obtain rfl:=si h
  exact(gw2 [.i 13] (Ub tI))
 refine Goes.skip ?_
 refine sq ?_
 refine sq ?_
 obtain⟨v,b,h⟩:=bnd h
 refine Goes.cut (s':=(ofG 63 (kAM [(3,.str e.Kind),(31,.bool v)]),(kD e.Kind e.Day e.Lot e.Amount e.Yarn e.Dye e.Order []))) ?_ ?_
 ·obtain⟨O,g,b⟩:=bnd b
  rcases wyB b with⟨w,b⟩|⟨w,b⟩
  ·obtain rfl:=si b
   exact tr fol [2,3] (kAM [(3,.str e.Kind),(31,.bool true)]) (ac (cv (qvm e.Day 0 99999 g)) (ac (gw w) az))
  obtain⟨x,j,b⟩:=bnd b
  obtain rfl:=si b
  exact tr fol [2,3,6] (kAM [(3,.str e.Kind),(31,.bool x)]) (ac (cv (qvm e.Day 0 99999 g)) (ac (gw w) (ac (cv (qvm e.Amount 1 999999999 j)) az)))
 refine ihB h (fun y h=>?_) (fun y h=>?_)
 ·refine sh fol [(2,.i 3)] ?_
  refine Goes.ret ?_
  obtain rfl:=si h
  exact(gw2 [.i 3] (Ub tI))
 refine Goes.skip ?_
 refine sq ?_
 obtain⟨z,k,h⟩:=bnd h
 refine sq (gr fol [2] (kAM [(3,.str e.Kind),(35,.bool (!z))]) (ac (cv (qou N e.Lot k)) az) ?_)
 refine ihB h (fun A h=>?_) (fun A h=>?_)
 ·refine sh fol [(2,.i 8)] ?_
  refine Goes.ret ?_
  obtain rfl:=si h
  exact(gw2 [.i 8] (Ub tI))
 refine Goes.skip ?_
 refine sq ?_
 refine sh fol (kAM [(37,.bool (e.Kind==[114,101,99,101,105,118,101]))]) ?_
 refine ihB h (fun B h=>?_) (fun B h=>?_)
 ·refine sq ?_
  refine sq ?_
  obtain⟨C,c,h⟩:=bnd h
  refine Goes.cut (s':=(ofG 63 (kAM [(47,.bool C)]),(kD e.Kind e.Day e.Lot e.Amount e.Yarn e.Dye e.Order []))) ?_ ?_
  ·obtain⟨M,f,c⟩:=bnd c
   rcases wyB c with⟨n,c⟩|⟨n,c⟩
   ·obtain rfl:=si c
    exact tr fol [2,4] (kAM [(47,.bool true)]) (ac (cv (qou N e.Yarn f)) (ac (gw n) az))
   obtain⟨D,o,c⟩:=bnd c
   obtain rfl:=si c
   exact tr fol [2,4,7] (kAM [(47,.bool (!D))]) (ac (cv (qou N e.Yarn f)) (ac (gw n) (ac (cv (qAf N e.Dye o)) az)))
  refine ihB h (fun E h=>?_) (fun E h=>?_)
  ·refine sh fol [(2,.i 8)] ?_
   refine Goes.ret ?_
   obtain rfl:=si h
   exact(gw2 [.i 8] (Ub tI))
  refine Goes.skip ?_
  refine sq ?_
  refine sh fol [(50,.bool (!(e.Order==[])))] ?_
  refine ihB h (fun F h=>?_) (fun F h=>?_)
  ·refine sh fol [(2,.i 1)] ?_
   refine Goes.ret ?_
   obtain rfl:=si h
   exact(gw2 [.i 1] (Ub tI))
  refine Goes.skip ?_
  refine sh fol [(2,.i 0)] ?_
  refine Goes.ret ?_
  obtain rfl:=si h
  exact(gw2 [.i 0] (Ub tI))
 refine Goes.skip ?_
 refine sq ?_
 obtain⟨G,p,h⟩:=bnd h
 refine sq (gr fol [2] (kAM [(54,.bool (!G))]) (ac (cv (qou N e.Order p)) az) ?_)
 refine ihB h (fun H h=>?_) (fun H h=>?_)
 ·refine sh fol [(2,.i 8)] ?_
  refine Goes.ret ?_
  obtain rfl:=si h
  exact(gw2 [.i 8] (Ub tI))
 refine Goes.skip ?_
 refine sq ?_
 refine sq ?_
 obtain⟨I,d,h⟩:=bnd h
 refine Goes.cut (s':=(ofG 63 [(62,.bool I)],(kD e.Kind e.Day e.Lot e.Amount e.Yarn e.Dye e.Order []))) ?_ ?_
 ·rcases wyB d with⟨q,d⟩|⟨q,d⟩
  ·obtain rfl:=si d
   exact tr fol [3] [(62,.bool true)] (ac (gw q) az)
  obtain rfl:=si d
  exact tr fol [3] [(62,.bool (!(e.Dye==[])))] (ac (gw q) az)
 refine ihB h (fun J h=>?_) (fun J h=>?_)
 ·refine sh fol [(2,.i 1)] ?_
  refine Goes.ret ?_
  obtain rfl:=si h
  exact(gw2 [.i 1] (Ub tI))
 refine Goes.skip ?_
 refine sh fol [(2,.i 0)] ?_
 refine Goes.ret ?_
 obtain rfl:=si h
 exact(gw2 [.i 0] (Ub tI))
def qjc (N:Nat) (l:List zi):Nat->Int->Option (Unit⊕Int)
 |0,_=>none
 |K+1,a=>
  if a<(l.length:Int)then
  (idx l a).bind fun c=>
  (qnA N c).bind fun b=>
  if(!decide (b=0))=true then
  some (.inr b)
  else
  qjc N l K (w64 (a+1))
  else
  some (.inl ())
def qpk (N:Nat) (l:List zi):Option Int:=
 if(l.length:Int)>1000 then
 some 5
 else
 (qjc N l N 0).bind (fun
 |(.inl ())=>
 some 0
 |(.inr a)=>
 some a)
theorem qyM (N:Nat) (l:List zi) {res:Int} (h:qpk N l=some res):zu ZT (.fn 13) [vl jT l] [] (.i res) []:=by
 unfold qpk at h
 refine Uc Tryz.func13 rfl rfl (m:=22) rfl (rs:=[.tmp 2]) rfl (l:=(kN l [])) rfl ?_
 refine sh fol (kN l []) ?_
 refine sq ?_
 refine sh fol (kN l [(7,.bool (decide ((l.length:Int)>1000)))]) ?_
 refine ihD h (fun g h=>?_) (fun g h=>?_)
 ·refine sh fol [(2,.i 5)] ?_
  refine Goes.ret ?_
  obtain rfl:=si h
  exact(gw2 [.i 5] (Ub tI))
 refine Goes.skip ?_
 refine sq ?_
 refine sh fol (kN l [(3,.i 0)]) ?_
 refine Goes.block ?_
 obtain⟨e,g3,h⟩:=bnd h
 refine Goes.imp (Q:=fun x s'=>(x= .exit 0/\(.inl ())=e/\Sub s' (ofG 22 [],[]))\/(x= .ret/\ ∃f,(.inr f)=e/\qhA ZT [.tmp 2] (.i f) .ret s')) ?_ ?_
 ·refine Ud (fun M s=> ∃(a:Int),s=(ofG 22 (kN l [(3,.i a)]),[])/\qjc N l M a=some e) ?_ (m:=N) ⟨_,rfl,g3⟩
  rintro M s ⟨a,rfl,g3⟩
  cases M with
  |zero=>simp only[qjc]at g3;cases g3
  |succ M=>
   rw[qjc]at g3
   refine sq ?_
   refine sh fol (kN l [(3,.i a),(11,.bool (decide (a<(l.length:Int))))]) ?_
   refine ihD g3 (fun j g3=>?_) (fun j g3=>?_)
   ·refine Goes.skip ?_
    refine sq (Goes.block ?_)
    obtain⟨k,b,g3⟩:=bnd g3
    obtain⟨c,d,g3⟩:=bnd g3
    refine sq (gr fol [2,3,4] (kN l ((3,.i a)::(kAj c))) (ac (iv sl23 jT b) (ac (la ag57 jT b) (ac (cv (qxY N k d)) az))) ?_)
    refine sh fol (kN l [(3,.i a),(4,.i c),(20,.bool (!decide (c=0)))]) ?_
    refine ihB g3 (fun n g3=>?_) (fun n g3=>?_)
    ·refine sh fol (kAl c) ?_
     refine Goes.ret ?_
     obtain rfl:=si g3
     exact Or.inr (⟨rfl,_,rfl,(gw2 [.i c] (Ub tI))⟩)
    refine Goes.skip ?_
    refine gh fol (kN l [(3,.i (w64 (a+1)))]) ?_
    exact⟨M,(ofG 22 (kN l [(3,.i (w64 (a+1)))]),[]),Nat.lt_succ_self _,(Sub.refl _),_,rfl,g3⟩
   refine Goes.exit ?_
   obtain rfl:=si g3
   exact Or.inl (⟨rfl,rfl,(Sub.keep [] rfl rfl)⟩)
 rintro x s' (⟨rfl,rfl,hsub⟩|⟨rfl,o,rfl,hret⟩)
 ·try dsimp only at h
  refine Goes.sub hsub ?_
  refine sh fol [(2,.i 0)] ?_
  refine Goes.ret ?_
  obtain rfl:=si h
  exact(gw2 [.i 0] (Ub tI))
 try dsimp only at h
 obtain rfl:=si h
 exact hret
def qpE (N:Nat) (l:zY) (before:List zY):Option Int:=
 (if(before.length:Int)>0 then
 (idx before (w64 ((before.length:Int)-1))).bind fun b=>
 some (ltL l.Name b.Name||l.Name==b.Name)
 else
 some false:Option Bool).bind fun c=>
 (qnb N l.Name).bind fun d=>
 (qnb N l.Yarn).bind fun e=>
 (qoB N l.Dye).bind fun f=>
 (qhS c 11).bind fun g=>
 (qmg l.Stock 0 999999999).bind fun h=>
 (qjz N ([d,e,f,g,h]:List Int)).bind fun a=>
 some a
theorem qzw (N:Nat) (l:zY) (before:List zY) {res:Int} (h:qpE N l before=some res):zu ZT (.fn 69) (kAg l.Name l.Yarn l.Dye l.Stock [vl qN before]) [] (.i res) []:=by
 unfold qpE at h
 refine Uc Tryz.func69 rfl rfl (m:=37) rfl (rs:=[.tmp 4]) rfl (l:=[(0,.agg [.str l.Name,.str l.Yarn,.str l.Dye,.i l.Stock]),(1,vl qN before)]) rfl ?_
 refine sg fol ((1,vl qN before)::(kAG [])) (kX l.Name l.Yarn l.Dye l.Stock []) ?_
 refine sq ?_
 obtain⟨t,a,h⟩:=bnd h
 refine Goes.cut (s':=(ofG 37 (kAG [(5,.bool t)]),(kX l.Name l.Yarn l.Dye l.Stock []))) ?_ ?_
 ·rcases wyD a with⟨s,a⟩|⟨s,a⟩
  ·obtain⟨u,b,a⟩:=bnd a
   obtain rfl:=si a
   exact tr fol [3,10,12] (kAG [(5,.bool (ltL l.Name u.Name||l.Name==u.Name))]) (ac (gw s) (ac (iv qzZ qN b) (ac (lv 0 ce9 qN b rfl) az)))
  obtain rfl:=si a
  exact tr fol [3] (kAG [(5,.bool false)]) (ac (gw s) az)
 obtain⟨n,e,h⟩:=bnd h
 obtain⟨o,f,h⟩:=bnd h
 obtain⟨p,g,h⟩:=bnd h
 obtain⟨q,j,h⟩:=bnd h
 obtain⟨r,k,h⟩:=bnd h
 obtain⟨c,d,h⟩:=bnd h
 refine sq (gq fol [2,5,8,10,13,15] (kAj c) (kX l.Name l.Yarn l.Dye l.Stock [.cells [.i n,.i o,.i p,.i q,.i r]]) (ac (cv (qmj N l.Name e)) (ac (cv (qmj N l.Yarn f)) (ac (cv (qve N l.Dye g)) (ac (cv (qeL t 11 j)) (ac (cv (qkS l.Stock 0 999999999 k)) (ac (hs (.call 50 [.slice 1 0 5 5 1] (kX l.Name l.Yarn l.Dye l.Stock [.cells [.i n,.i o,.i p,.i q,.i r]]) [1] [vl encI ([n,o,p,q,r]:List Int)] (.i c)) (qma (FzL.cons (Fz.lit rfl rfl (Uh (AllST.cons tI (AllST.cons tI (AllST.cons tI (AllST.cons tI (AllST.cons tI AllST.nil))))))) FzL.nil) (qkd N ([n,o,p,q,r]:List Int) d) tI rfl)) az)))))) ?_)
 refine Goes.ret ?_
 obtain rfl:=si h
 exact(gw2 [.i c] (Ub tI))
def qh0 (N:Nat) (a:List zY):Nat->Int->Option (Unit⊕Int)
 |0,_=>none
 |K+1,b=>
  if b<(a.length:Int)then
  (idx a b).bind fun d=>
  (cut a 0 b).bind fun e=>
  (qpE N d e).bind fun c=>
  if(!decide (c=0))=true then
  some (.inr c)
  else
  qh0 N a K (w64 (b+1))
  else
  some (.inl ())
def qpv (N:Nat) (a:List zY) (b:Int):Option Int:=
 if(a.length:Int)>b then
 some 5
 else
 (qh0 N a N 0).bind (fun
 |(.inl ())=>
 some 0
 |(.inr c)=>
 some c)
theorem qxS (N:Nat) (a:List zY) (c:Int) {res:Int} (h:qpv N a c=some res):zu ZT (.fn 68) [vl qN a,.i c,.func (.func 69) [] []] [] (.i res) []:=by
 unfold qpv at h
 refine Uc Tryz.func68 rfl rfl (m:=31) rfl (rs:=[.tmp 6]) rfl (l:=(kU a [(1,.i c),(2,.func (.func 69) [] [])])) rfl ?_
 refine sh fol (kU a [(1,.i c),(2,.func (.func 69) [] [])]) ?_
 refine sq ?_
 refine sh fol (kU a [(2,.func (.func 69) [] []),(13,.bool (decide ((a.length:Int)>c)))]) ?_
 refine ihD h (fun p h=>?_) (fun p h=>?_)
 ·refine sh fol [(6,.i 5)] ?_
  refine Goes.ret ?_
  obtain rfl:=si h
  exact(gw2 [.i 5] (Ub tI))
 refine Goes.skip ?_
 refine sq ?_
 refine sh fol (kU a [(2,.func (.func 69) [] []),(14,vl qN a),(15,.i (a.length:Int)),(16,.i 0)]) ?_
 refine Goes.block ?_
 obtain⟨k,g3,h⟩:=bnd h
 refine Goes.imp (Q:=fun x s'=>(x= .exit 0/\(.inl ())=k/\Sub s' (ofG 31 [],[]))\/(x= .ret/\ ∃n,(.inr n)=k/\qhA ZT [.tmp 6] (.i n) .ret s')) ?_ ?_
 ·refine Ud (fun M s=> ∃(b:Int),s=(ofG 31 (kU a ((2,.func (.func 69) [] [])::(14,vl qN a)::(kAP (a.length:Int) b []))),[])/\qh0 N a M b=some k) ?_ (m:=N) ⟨_,rfl,g3⟩
  rintro M s ⟨b,rfl,g3⟩
  cases M with
  |zero=>simp only[qh0]at g3;cases g3
  |succ M=>
   rw[qh0]at g3
   refine sh fol (kU a ((2,.func (.func 69) [] [])::(14,vl qN a)::(kAP (a.length:Int) b [(17,.bool (decide (b<(a.length:Int))))]))) ?_
   refine sq ?_
   refine ihD g3 (fun q g3=>?_) (fun q g3=>?_)
   ·refine Goes.skip ?_
    refine sq (Goes.block ?_)
    obtain⟨e,d,g3⟩:=bnd g3
    refine sq (gq fol [1,2] (kU a ((2,.func (.func 69) [] [])::(7,.i b)::(8,.ptr 0 0)::(14,vl qN a)::(kAP (a.length:Int) b []))) (kX e.Name e.Yarn e.Dye e.Stock []) (ac (iv qzZ qN d) (ac (la qC3 qN d) az)) ?_)
    obtain⟨o,f,g3⟩:=bnd g3
    obtain⟨g,j,g3⟩:=bnd g3
    refine sq (gr fol [4,5] (kU a ((2,.func (.func 69) [] [])::(9,.i g)::(14,vl qN a)::(kAP (a.length:Int) b []))) (ac (hs (.done (.opt (qmA ZT 27 (vl qN a) none (some (.i b)) none)) (vl qN o)) (qGy qzZ (E:=qN) rfl none (some b) f)) (ac (cv (qzw N e o j)) az)) ?_)
    refine sh fol (kU a ((2,.func (.func 69) [] [])::(9,.i g)::(14,vl qN a)::(kAP (a.length:Int) b [(28,.bool (!decide (g=0)))]))) ?_
    refine ihB g3 (fun r g3=>?_) (fun r g3=>?_)
    ·refine sh fol [(6,.i g)] ?_
     refine Goes.ret ?_
     obtain rfl:=si g3
     exact Or.inr (⟨rfl,_,rfl,(gw2 [.i g] (Ub tI))⟩)
    refine Goes.skip ?_
    refine gh fol (kU a ((2,.func (.func 69) [] [])::(14,vl qN a)::(kAP (a.length:Int) (w64 (b+1)) []))) ?_
    exact⟨M,(ofG 31 (kU a ((2,.func (.func 69) [] [])::(14,vl qN a)::(kAP (a.length:Int) (w64 (b+1)) []))),[]),Nat.lt_succ_self _,(Sub.norm [] [] rfl rfl (.keep (.same (qbl qN _)) (.keep (.same (qbg.func sn sn)) (.keep (.same (qbl qN _)) (.keep (.same nI) (.keep (.same nI) .nil))))) .nil),_,rfl,g3⟩
   refine Goes.exit ?_
   obtain rfl:=si g3
   exact Or.inl (⟨rfl,rfl,(Sub.keep [] rfl rfl)⟩)
 rintro x s' (⟨rfl,rfl,hsub⟩|⟨rfl,t,rfl,hret⟩)
 ·try dsimp only at h
  refine Goes.sub hsub ?_
  refine sh fol [(6,.i 0)] ?_
  refine Goes.ret ?_
  obtain rfl:=si h
  exact(gw2 [.i 0] (Ub tI))
 try dsimp only at h
 obtain rfl:=si h
 exact hret
def qls (a:zY) (b:Str) (c:Str) (d:Int) (e:Int):Option Bool:=
 some (a.Name==b)
theorem qty (a:zY) (b:Str) (c:Str) (d:Int) (e:Int) {res:Bool} (h:qls a b c d e=some res):zu ZT (.fn 73) (kAg a.Name a.Yarn a.Dye a.Stock [.fptr [.str b,.str c,.i d,.i e] 0]) [] (.bool res) []:=by
 unfold qls at h
 refine Uc Tryz.func73 rfl rfl (m:=9) rfl (rs:=[.tmp 3]) rfl (l:=[(0,.agg [.str a.Name,.str a.Yarn,.str a.Dye,.i a.Stock]),(1,.fptr [.str b,.str c,.i d,.i e] 0)]) rfl ?_
 refine sg fol ((1,.fptr [.str b,.str c,.i d,.i e] 0)::(kAG [])) (kX a.Name a.Yarn a.Dye a.Stock []) ?_
 refine sh fol (kAm (a.Name==b)) ?_
 refine Goes.ret ?_
 obtain rfl:=si h
 exact(gw2 [.bool (a.Name==b)] (Ub tB))
def qcd (a:List zY) (b:Str) (c:Str) (d:Int) (e:Int):Nat->Int->Option (Unit⊕Int)
 |0,_=>none
 |K+1,f=>
  if f<(a.length:Int)then
  (idx a f).bind fun g=>
  (qls g b c d e).bind fun h=>
  if h=true then
  some (.inr f)
  else
  qcd a b c d e K (w64 (f+1))
  else
  some (.inl ())
def qlj (N:Nat) (a:List zY) (b:Str) (c:Str) (d:Int) (e:Int):Option Int:=
 (qcd a b c d e N 0).bind (fun
 |(.inl ())=>
 some (-1)
 |(.inr f)=>
 some f)
theorem qtA (N:Nat) (a:List zY) (b:Str) (c:Str) (d:Int) (e:Int) {res:Int} (h:qlj N a b c d e=some res):zu ZT (.fn 128) [vl qN a,.func (.func 73) [] [.fptr [.str b,.str c,.i d,.i e] 0]] [] (.i res) []:=by
 unfold qlj at h
 refine Uc Tryz.func128 rfl rfl (m:=19) rfl (rs:=[.tmp 4]) rfl (l:=(kU a [(1,.func (.func 73) [] [.fptr [.str b,.str c,.i d,.i e] 0])])) rfl ?_
 refine sh fol (kU a [(1,.func (.func 73) [] [.fptr [.str b,.str c,.i d,.i e] 0])]) ?_
 refine sq ?_
 refine sh fol (kU a ((1,.func (.func 73) [] [.fptr [.str b,.str c,.i d,.i e] 0])::(kAn (a.length:Int)))) ?_
 refine Goes.block ?_
 obtain⟨n,g2,h⟩:=bnd h
 refine Goes.imp (Q:=fun x s'=>(x= .exit 0/\(.inl ())=n/\Sub s' (ofG 19 [],[]))\/(x= .ret/\ ∃o,(.inr o)=n/\qhA ZT [.tmp 4] (.i o) .ret s')) ?_ ?_
 ·refine Ud (fun M s=> ∃(f:Int),s=(ofG 19 (kU a ((1,.func (.func 73) [] [.fptr [.str b,.str c,.i d,.i e] 0])::(kY (a.length:Int) f))),[])/\qcd a b c d e M f=some n) ?_ (m:=N) ⟨_,rfl,g2⟩
  rintro M s ⟨f,rfl,g2⟩
  cases M with
  |zero=>simp only[qcd]at g2;cases g2
  |succ M=>
   rw[qcd]at g2
   refine sh fol (kU a ((1,.func (.func 73) [] [.fptr [.str b,.str c,.i d,.i e] 0])::(7,.i (a.length:Int))::(kAa f (decide (f<(a.length:Int)))))) ?_
   refine sq ?_
   refine ihD g2 (fun q g2=>?_) (fun q g2=>?_)
   ·refine Goes.skip ?_
    refine sq (Goes.block ?_)
    refine sh fol (kU a ((1,.func (.func 73) [] [.fptr [.str b,.str c,.i d,.i e] 0])::(5,.i f)::(kY (a.length:Int) f))) ?_
    obtain⟨g,j,g2⟩:=bnd g2
    obtain⟨p,k,g2⟩:=bnd g2
    refine sq (gr fol [3,4,5] (kU a [(1,.func (.func 73) [] [.fptr [.str b,.str c,.i d,.i e] 0]),(5,.i f),(7,.i (a.length:Int)),(8,.i f),(16,.bool p)]) (ac (iv qzZ qN j) (ac (la qC3 qN j) (ac (hs (.call 73 (kAg g.Name g.Yarn g.Dye g.Stock [.fptr [.str b,.str c,.i d,.i e] 0]) [] [] (kAg g.Name g.Yarn g.Dye g.Stock [.fptr [.str b,.str c,.i d,.i e] 0]) (.bool p)) (qb4 (FzL.cons (Ua (Still.agg (AllST.cons tS (AllST.cons tS (AllST.cons tS (AllST.cons tI AllST.nil)))))) (FzL.cons (Ua (Still.fptr (AllST.cons tS (AllST.cons tS (AllST.cons tI (AllST.cons tI AllST.nil)))))) FzL.nil)) (qty g b c d e k) tB)) az))) ?_)
    refine ihB g2 (fun r g2=>?_) (fun r g2=>?_)
    ·refine sh fol (kAj f) ?_
     refine Goes.ret ?_
     obtain rfl:=si g2
     exact Or.inr (⟨rfl,_,rfl,(gw2 [.i f] (Ub tI))⟩)
    refine Goes.skip ?_
    refine gh fol (kU a ((1,.func (.func 73) [] [.fptr [.str b,.str c,.i d,.i e] 0])::(kY (a.length:Int) (w64 (f+1))))) ?_
    exact⟨M,(ofG 19 (kU a ((1,.func (.func 73) [] [.fptr [.str b,.str c,.i d,.i e] 0])::(kY (a.length:Int) (w64 (f+1))))),[]),Nat.lt_succ_self _,(Sub.refl _),_,rfl,g2⟩
   refine Goes.exit ?_
   obtain rfl:=si g2
   exact Or.inl (⟨rfl,rfl,(Sub.keep [] rfl rfl)⟩)
 rintro x s' (⟨rfl,rfl,hsub⟩|⟨rfl,t,rfl,hret⟩)
 ·try dsimp only at h
  refine Goes.sub hsub ?_
  refine sh fol kAp ?_
  refine Goes.ret ?_
  obtain rfl:=si h
  exact(gw2 [.i (-1)] (Ub tI))
 try dsimp only at h
 obtain rfl:=si h
 exact hret
def qhH (N:Nat) (a:List zY) (b:Str) (c:Str) (d:Int) (e:Int):Option Bool:=
 (qlj N a b c d e).bind fun f=>
 some (decide (f>=0))
theorem qsq (N:Nat) (a:List zY) (b:Str) (c:Str) (d:Int) (e:Int) {res:Bool} (h:qhH N a b c d e=some res):zu ZT (.fn 72) [vl qN a,.func (.func 73) [] [.fptr [.str b,.str c,.i d,.i e] 0]] [] (.bool res) []:=by
 unfold qhH at h
 refine Uc Tryz.func72 rfl rfl (m:=9) rfl (rs:=[.tmp 4]) rfl (l:=(kU a [(1,.func (.func 73) [] [.fptr [.str b,.str c,.i d,.i e] 0])])) rfl ?_
 refine sh fol (kU a [(1,.func (.func 73) [] [.fptr [.str b,.str c,.i d,.i e] 0])]) ?_
 obtain⟨g,f,h⟩:=bnd h
 refine sq (gr fol [2] [(4,.bool (decide (g>=0)))] (ac (hs (.call 128 [vl qN a,.func (.func 73) [] [.fptr [.str b,.str c,.i d,.i e] 0]] [] [] [vl qN a,.func (.func 73) [] [.fptr [.str b,.str c,.i d,.i e] 0]] (.i g)) (qb4 (FzL.cons (Ua (jo qN _ (nl rfl))) (FzL.cons (Fz.func FzL.nil (FzL.cons (Ua (Still.fptr (AllST.cons tS (AllST.cons tS (AllST.cons tI (AllST.cons tI AllST.nil)))))) FzL.nil)) FzL.nil)) (qtA N a b c d e f) tI)) az) ?_)
 refine Goes.ret ?_
 obtain rfl:=si h
 exact(gw2 [.bool (decide (g>=0))] (Ub tB))
def qjy (N:Nat) (a:qE) (d:List qE) (n:Int) (j:List zY) (o:List qE):Option Int:=
 (qhH N j a.Lot a.Order a.Reserved a.Taken).bind fun p=>
 (if(d.length:Int)>0 then
 (idx d (w64 ((d.length:Int)-1))).bind fun q=>
 (qlq N a q).bind fun r=>
 some (decide (r<=0))
 else
 some false:Option Bool).bind fun s=>
 ((qhS (!p) 10).bind fun g=>
 (qnb N a.Order).bind fun h=>
 (qhS s 11).bind fun i=>
 (qmg a.Reserved 0 999999999).bind fun b=>
 (qmg a.Taken 0 999999999).bind fun c=>
 if a.Reserved=0 then
 (qhS (decide (a.Taken=0)) 6).bind fun e=>
 (qjz N ([g,h,i,b,c,e]:List Int)).bind fun k=>
 some (g,h,i,b,c,e,k)
 else
 (qhS false 6).bind fun f=>
 (qjz N ([g,h,i,b,c,f]:List Int)).bind fun l=>
 some (g,h,i,b,c,f,l):Option (Int×Int×Int×Int×Int×Int×Int)).bind fun(t,u,v,w,x,y,m)=>
 some m
theorem quu (N:Nat) (a:qE) (g:List qE) (n:Int) (f:List zY) (o:List qE) {res:Int} (h:qjy N a g n f o=some res):zu ZT (.fn 71) (kAH a.Lot a.Order a.Reserved a.Taken [vl qJ g,.fptr [.i n,vl qN f,vl qJ o] 0]) [] (.i res) []:=by
 unfold qjy at h
 refine Uc Tryz.func71 rfl rfl (m:=51) rfl (rs:=[.tmp 5]) rfl (l:=[(0,.agg [.str a.Lot,.str a.Order,.i a.Reserved,.i a.Taken]),(1,vl qJ g),(2,.fptr [.i n,vl qN f,vl qJ o] 0)]) rfl ?_
 refine sg fol [(1,vl qJ g),(2,.fptr [.i n,vl qN f,vl qJ o] 0),(3,.ptr 0 0)] (kL a.Lot a.Order a.Reserved a.Taken []) ?_
 obtain⟨y,E,h⟩:=bnd h
 refine sq (gr fol [3] [(1,vl qJ g),(3,.ptr 0 0),(6,.bool y)] (ac (hs (.call 72 [vl qN f,.func (.func 73) [] [.ptr 0 0]] (kL a.Lot a.Order a.Reserved a.Taken []) [0] [vl qN f,.func (.func 73) [] [.fptr [.str a.Lot,.str a.Order,.i a.Reserved,.i a.Taken] 0]] (.bool y)) (qma (FzL.cons (Ua (jo qN _ (nl rfl))) (FzL.cons (Fz.func FzL.nil (FzL.cons (Fz.ptr rfl rfl (FzL.cons (Ua tS) (FzL.cons (Ua tS) (FzL.cons (Ua tI) (FzL.cons (Ua tI) FzL.nil))))) FzL.nil)) FzL.nil)) (qsq N f a.Lot a.Order a.Reserved a.Taken E) tB rfl)) az) ?_)
 refine sq ?_
 obtain⟨J,c,h⟩:=bnd h
 refine Goes.cut (s':=(ofG 51 [(3,.ptr 0 0),(6,.bool y),(7,.bool J)],(kL a.Lot a.Order a.Reserved a.Taken []))) ?_ ?_
 ·rcases wyD c with⟨K,c⟩|⟨K,c⟩
  ·obtain⟨U,r,c⟩:=bnd c
   obtain⟨V,F,c⟩:=bnd c
   obtain rfl:=si c
   exact tr fol [3,9,10,11] [(3,.ptr 0 0),(6,.bool y),(7,.bool (decide (V<=0)))] (ac (gw K) (ac (iv qtu qJ r) (ac (la qDy qJ r) (ac (cv (qwl N a U F)) az))))
  obtain rfl:=si c
  exact tr fol [3] [(3,.ptr 0 0),(6,.bool y),(7,.bool false)] (ac (gw K) az)
 refine sq ?_
 obtain⟨⟨L,M,O,P,Q,T,G⟩,b,h⟩:=bnd h
 refine Goes.cut (s':=(ofG 51 (kAe G),(kL a.Lot a.Order a.Reserved a.Taken [.cells [.i L,.i M,.i O,.i P,.i Q,.i T]]))) ?_ ?_
 ·obtain⟨s,t,b⟩:=bnd b
  obtain⟨u,v,b⟩:=bnd b
  obtain⟨w,x,b⟩:=bnd b
  obtain⟨d,j,b⟩:=bnd b
  obtain⟨e,k,b⟩:=bnd b
  rcases wyD b with⟨z,b⟩|⟨z,b⟩
  ·obtain⟨p,A,b⟩:=bnd b
   obtain⟨H,B,b⟩:=bnd b
   simp only[ZI,ZP]at b
   obtain⟨rfl,rfl,rfl,rfl,rfl,rfl,rfl⟩:=b
   exact qgY.rq fol [2,5,7,10,13,17,22,24] (kAe H) (kL a.Lot a.Order a.Reserved a.Taken [.cells [.i s,.i u,.i w,.i d,.i e,.i p]]) (ac (cv (qeL (!y) 10 t)) (ac (cv (qmj N a.Order v)) (ac (cv (qeL J 11 x)) (ac (cv (qkS a.Reserved 0 999999999 j)) (ac (cv (qkS a.Taken 0 999999999 k)) (ac (gw z) (ac (cv (qeL (decide (a.Taken=0)) 6 A)) (ac (hs (.call 50 [.slice 1 0 6 6 1] (kL a.Lot a.Order a.Reserved a.Taken [.cells [.i s,.i u,.i w,.i d,.i e,.i p]]) [1] [vl encI ([s,u,w,d,e,p]:List Int)] (.i H)) (qma (FzL.cons (Fz.lit rfl rfl (Uh (AllST.cons tI (AllST.cons tI (AllST.cons tI (AllST.cons tI (AllST.cons tI (AllST.cons tI AllST.nil)))))))) FzL.nil) (qkd N ([s,u,w,d,e,p]:List Int) B) tI rfl)) az))))))))
  obtain⟨q,C,b⟩:=bnd b
  obtain⟨I,D,b⟩:=bnd b
  simp only[ZI,ZP]at b
  obtain⟨rfl,rfl,rfl,rfl,rfl,rfl,rfl⟩:=b
  exact qgY.rq fol [2,5,7,10,13,17,22,24] (kAe I) (kL a.Lot a.Order a.Reserved a.Taken [.cells [.i s,.i u,.i w,.i d,.i e,.i q]]) (ac (cv (qeL (!y) 10 t)) (ac (cv (qmj N a.Order v)) (ac (cv (qeL J 11 x)) (ac (cv (qkS a.Reserved 0 999999999 j)) (ac (cv (qkS a.Taken 0 999999999 k)) (ac (gw z) (ac (cv (qeL false 6 C)) (ac (hs (.call 50 [.slice 1 0 6 6 1] (kL a.Lot a.Order a.Reserved a.Taken [.cells [.i s,.i u,.i w,.i d,.i e,.i q]]) [1] [vl encI ([s,u,w,d,e,q]:List Int)] (.i I)) (qma (FzL.cons (Fz.lit rfl rfl (Uh (AllST.cons tI (AllST.cons tI (AllST.cons tI (AllST.cons tI (AllST.cons tI (AllST.cons tI AllST.nil)))))))) FzL.nil) (qkd N ([s,u,w,d,e,q]:List Int) D) tI rfl)) az))))))))
 try dsimp only at h
 refine Goes.ret ?_
 obtain rfl:=si h
 exact(gw2 [.i G] (Ub tI))
def qhM (N:Nat) (a:List qE) (b:Int) (c:List zY) (d:List qE):Nat->Int->Option (Unit⊕Int)
 |0,_=>none
 |K+1,e=>
  if e<(a.length:Int)then
  (idx a e).bind fun g=>
  (cut a 0 e).bind fun h=>
  (qjy N g h b c d).bind fun f=>
  if(!decide (f=0))=true then
  some (.inr f)
  else
  qhM N a b c d K (w64 (e+1))
  else
  some (.inl ())
def qoX (N:Nat) (a:List qE) (b:Int) (c:Int) (d:List zY) (e:List qE):Option Int:=
 if(a.length:Int)>b then
 some 5
 else
 (qhM N a c d e N 0).bind (fun
 |(.inl ())=>
 some 0
 |(.inr f)=>
 some f)
theorem qwU (N:Nat) (a:List qE) (g:Int) (b:Int) (c:List zY) (d:List qE) {res:Int} (h:qoX N a g b c d=some res):zu ZT (.fn 70) [vl qJ a,.i g,.func (.func 71) [] [.fptr [.i b,vl qN c,vl qJ d] 0]] [] (.i res) []:=by
 unfold qoX at h
 refine Uc Tryz.func70 rfl rfl (m:=31) rfl (rs:=[.tmp 6]) rfl (l:=(kAD a [(1,.i g),(2,.func (.func 71) [] [.fptr [.i b,vl qN c,vl qJ d] 0])])) rfl ?_
 refine sh fol (kAD a [(1,.i g),(2,.func (.func 71) [] [.fptr [.i b,vl qN c,vl qJ d] 0])]) ?_
 refine sq ?_
 refine sh fol (kAD a [(2,.func (.func 71) [] [.fptr [.i b,vl qN c,vl qJ d] 0]),(13,.bool (decide ((a.length:Int)>g)))]) ?_
 refine ihD h (fun t h=>?_) (fun t h=>?_)
 ·refine sh fol [(6,.i 5)] ?_
  refine Goes.ret ?_
  obtain rfl:=si h
  exact(gw2 [.i 5] (Ub tI))
 refine Goes.skip ?_
 refine sq ?_
 refine sh fol (kAD a [(2,.func (.func 71) [] [.fptr [.i b,vl qN c,vl qJ d] 0]),(14,vl qJ a),(15,.i (a.length:Int)),(16,.i 0)]) ?_
 refine Goes.block ?_
 obtain⟨q,g3,h⟩:=bnd h
 refine Goes.imp (Q:=fun x s'=>(x= .exit 0/\(.inl ())=q/\Sub s' (ofG 31 [],[]))\/(x= .ret/\ ∃r,(.inr r)=q/\qhA ZT [.tmp 6] (.i r) .ret s')) ?_ ?_
 ·refine Ud (fun M s=> ∃(e:Int),s=(ofG 31 (kAD a ((2,.func (.func 71) [] [.fptr [.i b,vl qN c,vl qJ d] 0])::(14,vl qJ a)::(kAP (a.length:Int) e []))),[])/\qhM N a b c d M e=some q) ?_ (m:=N) ⟨_,rfl,g3⟩
  rintro M s ⟨e,rfl,g3⟩
  cases M with
  |zero=>simp only[qhM]at g3;cases g3
  |succ M=>
   rw[qhM]at g3
   refine sh fol (kAD a ((2,.func (.func 71) [] [.fptr [.i b,vl qN c,vl qJ d] 0])::(14,vl qJ a)::(kAP (a.length:Int) e [(17,.bool (decide (e<(a.length:Int))))]))) ?_
   refine sq ?_
   refine ihD g3 (fun u g3=>?_) (fun u g3=>?_)
   ·refine Goes.skip ?_
    refine sq (Goes.block ?_)
    obtain⟨f,j,g3⟩:=bnd g3
    refine sq (gq fol [1,2] (kAD a ((2,.func (.func 71) [] [.fptr [.i b,vl qN c,vl qJ d] 0])::(7,.i e)::(8,.ptr 0 0)::(14,vl qJ a)::(kAP (a.length:Int) e []))) (kL f.Lot f.Order f.Reserved f.Taken []) (ac (iv qtu qJ j) (ac (la qDy qJ j) az)) ?_)
    obtain⟨p,n,g3⟩:=bnd g3
    obtain⟨k,o,g3⟩:=bnd g3
    refine sq (gr fol [4,5] (kAD a ((2,.func (.func 71) [] [.fptr [.i b,vl qN c,vl qJ d] 0])::(9,.i k)::(14,vl qJ a)::(kAP (a.length:Int) e []))) (ac (hs (.done (.opt (qmA ZT 28 (vl qJ a) none (some (.i e)) none)) (vl qJ p)) (qGy qtu (E:=qJ) rfl none (some e) n)) (ac (hs (.call 71 (kAH f.Lot f.Order f.Reserved f.Taken [vl qJ p,.fptr [.i b,vl qN c,vl qJ d] 0]) [] [] (kAH f.Lot f.Order f.Reserved f.Taken [vl qJ p,.fptr [.i b,vl qN c,vl qJ d] 0]) (.i k)) (qb4 (FzL.cons (Ua (Still.agg (AllST.cons tS (AllST.cons tS (AllST.cons tI (AllST.cons tI AllST.nil)))))) (FzL.cons (Ua (jo qJ _ (nl rfl))) (FzL.cons (Ua (Still.fptr (AllST.cons tI (AllST.cons (jo qN _ (nl rfl)) (AllST.cons (jo qJ _ (nl rfl)) AllST.nil))))) FzL.nil))) (quu N f p b c d o) tI)) az)) ?_)
    refine sh fol (kAD a ((2,.func (.func 71) [] [.fptr [.i b,vl qN c,vl qJ d] 0])::(9,.i k)::(14,vl qJ a)::(kAP (a.length:Int) e [(28,.bool (!decide (k=0)))]))) ?_
    refine ihB g3 (fun v g3=>?_) (fun v g3=>?_)
    ·refine sh fol [(6,.i k)] ?_
     refine Goes.ret ?_
     obtain rfl:=si g3
     exact Or.inr (⟨rfl,_,rfl,(gw2 [.i k] (Ub tI))⟩)
    refine Goes.skip ?_
    refine gh fol (kAD a ((2,.func (.func 71) [] [.fptr [.i b,vl qN c,vl qJ d] 0])::(14,vl qJ a)::(kAP (a.length:Int) (w64 (e+1)) []))) ?_
    exact⟨M,(ofG 31 (kAD a ((2,.func (.func 71) [] [.fptr [.i b,vl qN c,vl qJ d] 0])::(14,vl qJ a)::(kAP (a.length:Int) (w64 (e+1)) []))),[]),Nat.lt_succ_self _,(Sub.norm [] [] rfl rfl (.keep (.same (qbl qJ _)) (.keep (.same (qbg.func sn sn)) (.keep (.same (qbl qJ _)) (.keep (.same nI) (.keep (.same nI) .nil))))) .nil),_,rfl,g3⟩
   refine Goes.exit ?_
   obtain rfl:=si g3
   exact Or.inl (⟨rfl,rfl,(Sub.keep [] rfl rfl)⟩)
 rintro x s' (⟨rfl,rfl,hsub⟩|⟨rfl,w,rfl,hret⟩)
 ·try dsimp only at h
  refine Goes.sub hsub ?_
  refine sh fol [(6,.i 0)] ?_
  refine Goes.ret ?_
  obtain rfl:=si h
  exact(gw2 [.i 0] (Ub tI))
 try dsimp only at h
 obtain rfl:=si h
 exact hret
def qmD (N:Nat) (a:zY) (b:Int) (c:List zY) (d:List qE):Option Bool:=
 (qlA N (⟨b,c,d⟩:StateT) a).bind fun e=>
 some (decide (e<0))
theorem quw (N:Nat) (a:zY) (b:Int) (c:List zY) (d:List qE) {res:Bool} (h:qmD N a b c d=some res):zu ZT (.fn 76) (kAg a.Name a.Yarn a.Dye a.Stock [.fptr [.i b,vl qN c,vl qJ d] 0]) [] (.bool res) []:=by
 unfold qmD at h
 refine Uc Tryz.func76 rfl rfl (m:=8) rfl (rs:=[.tmp 3]) rfl (l:=[(0,.agg [.str a.Name,.str a.Yarn,.str a.Dye,.i a.Stock]),(1,.fptr [.i b,vl qN c,vl qJ d] 0)]) rfl ?_
 refine sg fol ((1,.fptr [.i b,vl qN c,vl qJ d] 0)::(kAG [])) (kX a.Name a.Yarn a.Dye a.Stock []) ?_
 obtain⟨f,e,h⟩:=bnd h
 refine sq (gr fol [2] (kAm (decide (f<0))) (ac (cv (qqc N (⟨b,c,d⟩:StateT) a e)) az) ?_)
 refine Goes.ret ?_
 obtain rfl:=si h
 exact(gw2 [.bool (decide (f<0))] (Ub tB))
def qbN (N:Nat) (a:List zY) (b:Int) (c:List zY) (d:List qE):Nat->Int->Option (Unit⊕Int)
 |0,_=>none
 |K+1,e=>
  if e<(a.length:Int)then
  (idx a e).bind fun f=>
  (qmD N f b c d).bind fun g=>
  if g=true then
  some (.inr e)
  else
  qbN N a b c d K (w64 (e+1))
  else
  some (.inl ())
def qlr (N:Nat) (a:List zY) (b:Int) (c:List zY) (d:List qE):Option Int:=
 (qbN N a b c d N 0).bind (fun
 |(.inl ())=>
 some (-1)
 |(.inr e)=>
 some e)
theorem qtG (N:Nat) (a:List zY) (b:Int) (c:List zY) (d:List qE) {res:Int} (h:qlr N a b c d=some res):zu ZT (.fn 128) [vl qN a,.func (.func 76) [] [.fptr [.i b,vl qN c,vl qJ d] 0]] [] (.i res) []:=by
 unfold qlr at h
 refine Uc Tryz.func128 rfl rfl (m:=19) rfl (rs:=[.tmp 4]) rfl (l:=(kU a [(1,.func (.func 76) [] [.fptr [.i b,vl qN c,vl qJ d] 0])])) rfl ?_
 refine sh fol (kU a [(1,.func (.func 76) [] [.fptr [.i b,vl qN c,vl qJ d] 0])]) ?_
 refine sq ?_
 refine sh fol (kU a ((1,.func (.func 76) [] [.fptr [.i b,vl qN c,vl qJ d] 0])::(kAn (a.length:Int)))) ?_
 refine Goes.block ?_
 obtain⟨k,g2,h⟩:=bnd h
 refine Goes.imp (Q:=fun x s'=>(x= .exit 0/\(.inl ())=k/\Sub s' (ofG 19 [],[]))\/(x= .ret/\ ∃n,(.inr n)=k/\qhA ZT [.tmp 4] (.i n) .ret s')) ?_ ?_
 ·refine Ud (fun M s=> ∃(e:Int),s=(ofG 19 (kU a ((1,.func (.func 76) [] [.fptr [.i b,vl qN c,vl qJ d] 0])::(kY (a.length:Int) e))),[])/\qbN N a b c d M e=some k) ?_ (m:=N) ⟨_,rfl,g2⟩
  rintro M s ⟨e,rfl,g2⟩
  cases M with
  |zero=>simp only[qbN]at g2;cases g2
  |succ M=>
   rw[qbN]at g2
   refine sh fol (kU a ((1,.func (.func 76) [] [.fptr [.i b,vl qN c,vl qJ d] 0])::(7,.i (a.length:Int))::(kAa e (decide (e<(a.length:Int)))))) ?_
   refine sq ?_
   refine ihD g2 (fun p g2=>?_) (fun p g2=>?_)
   ·refine Goes.skip ?_
    refine sq (Goes.block ?_)
    refine sh fol (kU a ((1,.func (.func 76) [] [.fptr [.i b,vl qN c,vl qJ d] 0])::(5,.i e)::(kY (a.length:Int) e))) ?_
    obtain⟨f,g,g2⟩:=bnd g2
    obtain⟨o,j,g2⟩:=bnd g2
    refine sq (gr fol [3,4,5] (kU a [(1,.func (.func 76) [] [.fptr [.i b,vl qN c,vl qJ d] 0]),(5,.i e),(7,.i (a.length:Int)),(8,.i e),(16,.bool o)]) (ac (iv qzZ qN g) (ac (la qC3 qN g) (ac (hs (.call 76 (kAg f.Name f.Yarn f.Dye f.Stock [.fptr [.i b,vl qN c,vl qJ d] 0]) [] [] (kAg f.Name f.Yarn f.Dye f.Stock [.fptr [.i b,vl qN c,vl qJ d] 0]) (.bool o)) (qb4 (FzL.cons (Ua (Still.agg (AllST.cons tS (AllST.cons tS (AllST.cons tS (AllST.cons tI AllST.nil)))))) (FzL.cons (Ua (Still.fptr (AllST.cons tI (AllST.cons (jo qN _ (nl rfl)) (AllST.cons (jo qJ _ (nl rfl)) AllST.nil))))) FzL.nil)) (quw N f b c d j) tB)) az))) ?_)
    refine ihB g2 (fun q g2=>?_) (fun q g2=>?_)
    ·refine sh fol (kAj e) ?_
     refine Goes.ret ?_
     obtain rfl:=si g2
     exact Or.inr (⟨rfl,_,rfl,(gw2 [.i e] (Ub tI))⟩)
    refine Goes.skip ?_
    refine gh fol (kU a ((1,.func (.func 76) [] [.fptr [.i b,vl qN c,vl qJ d] 0])::(kY (a.length:Int) (w64 (e+1))))) ?_
    exact⟨M,(ofG 19 (kU a ((1,.func (.func 76) [] [.fptr [.i b,vl qN c,vl qJ d] 0])::(kY (a.length:Int) (w64 (e+1))))),[]),Nat.lt_succ_self _,(Sub.refl _),_,rfl,g2⟩
   refine Goes.exit ?_
   obtain rfl:=si g2
   exact Or.inl (⟨rfl,rfl,(Sub.keep [] rfl rfl)⟩)
 rintro x s' (⟨rfl,rfl,hsub⟩|⟨rfl,r,rfl,hret⟩)
 ·try dsimp only at h
  refine Goes.sub hsub ?_
  refine sh fol kAp ?_
  refine Goes.ret ?_
  obtain rfl:=si h
  exact(gw2 [.i (-1)] (Ub tI))
 try dsimp only at h
 obtain rfl:=si h
 exact hret
def qhu (N:Nat) (a:List zY) (b:Int) (c:List zY) (d:List qE):Option Bool:=
 (qlr N a b c d).bind fun e=>
 some (decide (e>=0))
theorem qr9 (N:Nat) (a:List zY) (b:Int) (c:List zY) (d:List qE) {res:Bool} (h:qhu N a b c d=some res):zu ZT (.fn 72) [vl qN a,.func (.func 76) [] [.fptr [.i b,vl qN c,vl qJ d] 0]] [] (.bool res) []:=by
 unfold qhu at h
 refine Uc Tryz.func72 rfl rfl (m:=9) rfl (rs:=[.tmp 4]) rfl (l:=(kU a [(1,.func (.func 76) [] [.fptr [.i b,vl qN c,vl qJ d] 0])])) rfl ?_
 refine sh fol (kU a [(1,.func (.func 76) [] [.fptr [.i b,vl qN c,vl qJ d] 0])]) ?_
 obtain⟨f,e,h⟩:=bnd h
 refine sq (gr fol [2] [(4,.bool (decide (f>=0)))] (ac (hs (.call 128 [vl qN a,.func (.func 76) [] [.fptr [.i b,vl qN c,vl qJ d] 0]] [] [] [vl qN a,.func (.func 76) [] [.fptr [.i b,vl qN c,vl qJ d] 0]] (.i f)) (qb4 (FzL.cons (Ua (jo qN _ (nl rfl))) (FzL.cons (Fz.func FzL.nil (FzL.cons (Ua (Still.fptr (AllST.cons tI (AllST.cons (jo qN _ (nl rfl)) (AllST.cons (jo qJ _ (nl rfl)) AllST.nil))))) FzL.nil)) FzL.nil)) (qtG N a b c d e) tI)) az) ?_)
 refine Goes.ret ?_
 obtain rfl:=si h
 exact(gw2 [.bool (decide (f>=0))] (Ub tB))
def qm3 (N:Nat) (a:StateT):Option Int:=
 (qmg a.Day 0 99999).bind fun c=>
 (qpv N a.Lots 64).bind fun d=>
 (qjz N ([c,d]:List Int)).bind fun b=>
 if(!decide (b=0))=true then
 some b
 else
 (qoX N a.Holds 256 a.Day a.Lots a.Holds).bind fun e=>
 (qhu N a.Lots a.Day a.Lots a.Holds).bind fun f=>
 (qhS f 32).bind fun g=>
 (qjz N ([e,g]:List Int)).bind fun h=>
 some h
theorem qyz (N:Nat) (a:StateT) {res:Int} (h:qm3 N a=some res):zu ZT (.fn 29) [.agg (kF a.Day a.Lots a.Holds)] [] (.i res) []:=by
 unfold qm3 at h
 refine Uc Tryz.func29 rfl rfl (m:=28) rfl (rs:=[.tmp 2]) rfl (l:=(kAV a.Day a.Lots a.Holds [])) rfl ?_
 refine sg fol (kAM []) (kE a.Day a.Lots a.Holds []) ?_
 refine sq ?_
 obtain⟨c,f,h⟩:=bnd h
 obtain⟨b,g,h⟩:=bnd h
 obtain⟨d,j,h⟩:=bnd h
 refine sq (gq fol [2,5,7] (kAM [(3,.i d)]) (kE a.Day a.Lots a.Holds (kAb c b)) (ac (cv (qkS a.Day 0 99999 f)) (ac (hs (.call 68 [vl qN a.Lots,.i 64,.func (.func 69) [] []] [] [] [vl qN a.Lots,.i 64,.func (.func 69) [] []] (.i b)) (qb4 (FzL.cons (Ua (jo qN _ (nl rfl))) (FzL.cons (Ua tI) (FzL.cons (Fz.func FzL.nil FzL.nil) FzL.nil))) (qxS N a.Lots 64 g) tI)) (ac (hs (.call 50 [.slice 1 0 2 2 1] (kE a.Day a.Lots a.Holds (kAb c b)) [1] [vl encI ([c,b]:List Int)] (.i d)) (qma (FzL.cons (Fz.lit rfl rfl (Uh (AllST.cons tI (AllST.cons tI AllST.nil)))) FzL.nil) (qkd N ([c,b]:List Int) j) tI rfl)) az))) ?_)
 refine sh fol (kAM [(3,.i d),(14,.bool (!decide (d=0)))]) ?_
 refine ihB h (fun t h=>?_) (fun t h=>?_)
 ·refine sh fol (kAl d) ?_
  refine Goes.ret ?_
  obtain rfl:=si h
  exact(gw2 [.i d] (Ub tI))
 refine Goes.skip ?_
 obtain⟨e,k,h⟩:=bnd h
 refine sq (gr fol [3] (kAM (kAj e)) (ac (hs (.call 70 [vl qJ a.Holds,.i 256,.func (.func 71) [] [.ptr 0 0]] (kE a.Day a.Lots a.Holds (kAb c b)) [0] [vl qJ a.Holds,.i 256,.func (.func 71) [] [.fptr [.i a.Day,vl qN a.Lots,vl qJ a.Holds] 0]] (.i e)) (qma (FzL.cons (Ua (jo qJ _ (nl rfl))) (FzL.cons (Ua tI) (FzL.cons (Fz.func FzL.nil (FzL.cons (Fz.ptr rfl rfl (FzL.cons (Ua tI) (FzL.cons (Ua (jo qN _ (nl rfl))) (FzL.cons (Ua (jo qJ _ (nl rfl))) FzL.nil)))) FzL.nil)) FzL.nil))) (qwU N a.Holds 256 a.Day a.Lots a.Holds k) tI rfl)) az) ?_)
 obtain⟨s,n,h⟩:=bnd h
 obtain⟨q,o,h⟩:=bnd h
 obtain⟨r,p,h⟩:=bnd h
 refine sq (gq fol [4,5,7] (kAl r) (kE a.Day a.Lots a.Holds (.cells [.i c,.i b]::(kAb e q))) (ac (hs (.call 72 [vl qN a.Lots,.func (.func 76) [] [.ptr 0 0]] (kE a.Day a.Lots a.Holds (kAb c b)) [0] [vl qN a.Lots,.func (.func 76) [] [.fptr [.i a.Day,vl qN a.Lots,vl qJ a.Holds] 0]] (.bool s)) (qma (FzL.cons (Ua (jo qN _ (nl rfl))) (FzL.cons (Fz.func FzL.nil (FzL.cons (Fz.ptr rfl rfl (FzL.cons (Ua tI) (FzL.cons (Ua (jo qN _ (nl rfl))) (FzL.cons (Ua (jo qJ _ (nl rfl))) FzL.nil)))) FzL.nil)) FzL.nil)) (qr9 N a.Lots a.Day a.Lots a.Holds n) tB rfl)) (ac (cv (qeL s 32 o)) (ac (hs (.call 50 [.slice 2 0 2 2 1] (kE a.Day a.Lots a.Holds (.cells [.i c,.i b]::(kAb e q))) [2] [vl encI ([e,q]:List Int)] (.i r)) (qma (FzL.cons (Fz.lit rfl rfl (Uh (AllST.cons tI (AllST.cons tI AllST.nil)))) FzL.nil) (qkd N ([e,q]:List Int) p) tI rfl)) az))) ?_)
 refine Goes.ret ?_
 obtain rfl:=si h
 exact(gw2 [.i r] (Ub tI))
def qpt (N:Nat) (a:StateT) (lot:Str):Option (Int×Int):=
 (qm3 N a).bind fun b=>
 if(!decide (b=0))=true then
 some (0,b)
 else
 (qjh N a lot).bind fun c=>
 if(!c.2)=true then
 some (0,10)
 else
 (idx a.Lots c.1).bind fun d=>
 (qlA N a d).bind fun e=>
 some (e,0)
theorem qvr (N:Nat) (a:StateT) (lot:Str) {res:Int×Int} (h:qpt N a lot=some res):zu ZT (.fn 31) (kAA a.Day a.Lots a.Holds [.str lot]) [] (.tuple [.i res.1,.i res.2]) []:=by
 unfold qpt at h
 refine Uc Tryz.func31 rfl rfl (m:=29) rfl (rs:=[.tmp 4,.tmp 5]) rfl (l:=(kAV a.Day a.Lots a.Holds [(1,.str lot)])) rfl ?_
 refine sg fol ((1,.str lot)::(kAG [])) (kE a.Day a.Lots a.Holds []) ?_
 refine sq ?_
 obtain⟨c,d,h⟩:=bnd h
 refine sq (gr fol [1] ((1,.str lot)::(kAG [(6,.i c)])) (ac (cv (qyz N a d)) az) ?_)
 refine sh fol ((1,.str lot)::(kAG [(6,.i c),(12,.bool (!decide (c=0)))])) ?_
 refine ihB h (fun k h=>?_) (fun k h=>?_)
 ·refine sh fol ((4,.i 0)::(kAe c)) ?_
  refine Goes.ret ?_
  obtain rfl:=si h
  exact(gw2 [.i 0,.i c] (FzW.tuple (xI.cons (Ub tI) (xI.cons (Ub tI) xI.nil))))
 refine Goes.skip ?_
 obtain⟨g,e,h⟩:=bnd h
 refine sq (gr fol [2] (kAG [(7,.i g.1),(8,.bool g.2)]) (ac (cv (qq0 N a lot e)) az) ?_)
 refine sq ?_
 refine sh fol (kAG [(7,.i g.1),(21,.bool (!g.2))]) ?_
 refine ihB h (fun n h=>?_) (fun n h=>?_)
 ·refine sh fol [(4,.i 0),(5,.i 10)] ?_
  refine Goes.ret ?_
  obtain rfl:=si h
  exact(gw2 [.i 0,.i 10] (FzW.tuple (xI.cons (Ub tI) (xI.cons (Ub tI) xI.nil))))
 refine Goes.skip ?_
 obtain⟨o,b,h⟩:=bnd h
 obtain⟨j,f,h⟩:=bnd h
 refine sq (gr fol [4,5,6] [(4,.i j),(5,.i 0)] (ac (iv qzZ qN b) (ac (la qC3 qN b) (ac (cv (qqc N a o f)) az))) ?_)
 refine Goes.ret ?_
 obtain rfl:=si h
 exact(gw2 [.i j,.i 0] (FzW.tuple (xI.cons (Ub tI) (xI.cons (Ub tI) xI.nil))))
def qdw (l:List zi):Nat->(List zi)->Int->Option (List zi)
 |0,_,_=>none
 |K+1,b,a=>
  if a<(l.length:Int)then
  (idx l a).bind fun c=>
  (app 96 b [c]).bind fun d=>
  qdw l K d (w64 (a+1))
  else
  some b
def qgj (N:Nat) (l:List zi):Option (List zi):=
 (qdw l N ([]:List zi) 0).bind fun a=>
 some a
theorem ql6 (N:Nat) (l:List zi) {res:List zi} (h:qgj N l=some res):zu ZT (.fn 36) [vl jT l] [] (vl jT res) []:=by
 unfold qgj at h
 refine Uc Tryz.func36 rfl rfl (m:=18) rfl (rs:=[.tmp 2]) rfl (l:=(kN l [])) rfl ?_
 refine sh fol (kN l []) ?_
 refine sh fol (kN l [(3,.nilslice)]) ?_
 refine sq ?_
 refine sh fol ((3,.nilslice)::(6,vl jT l)::(kAn (l.length:Int))) ?_
 refine Goes.block ?_
 obtain⟨k,g4,h⟩:=bnd h
 refine Goes.imp (Q:=fun x s'=>(x= .exit 0/\ ∃g,g=k/\Sub s' (ofG 18 (kAC g []),(kT g [])))) ?_ ?_
 ·refine Goes.sub (s':=(ofG 18 ((3,.gslice 0 ([]:List zi).length 7)::(6,vl jT l)::(kAn (l.length:Int))),[.cells (([]:List zi).flatMap jT.c)])) (Sub.norm [] [none] rfl rfl (.keep .nil (.keep (.same (qbl jT _)) (.keep (.same nI) (.keep (.same nI) .nil)))) (.fresh .nil)) ?_
  refine Ud (fun M s=> ∃(b:List zi) (d:Int),s=(ofG 18 (kAC b ((6,vl jT l)::(kY (l.length:Int) d))),(kT b []))/\qdw l M b d=some k) ?_ (m:=N) ⟨_,_,rfl,g4⟩
  rintro M s ⟨b,d,rfl,g4⟩
  cases M with
  |zero=>simp only[qdw]at g4;cases g4
  |succ M=>
   rw[qdw]at g4
   refine sh fol (kAC b ((6,vl jT l)::(7,.i (l.length:Int))::(kAa d (decide (d<(l.length:Int)))))) ?_
   refine sq ?_
   refine ihD g4 (fun n g4=>?_) (fun n g4=>?_)
   ·refine Goes.skip ?_
    refine sq (Goes.block ?_)
    obtain⟨a,e,g4⟩:=bnd g4
    refine sq (gq fol [0,1] (kAC b ((5,.ptr 1 0)::(6,vl jT l)::(kY (l.length:Int) d))) (kT b (kD a.Kind a.Day a.Lot a.Amount a.Yarn a.Dye a.Order [])) (ac (iv qFX jT e) (ac (la ag56 jT e) az)) ?_)
    obtain⟨f,j,g4⟩:=bnd g4
    refine gq fol [3] ((3,.gslice 3 f.length 7)::(6,vl jT l)::(kY (l.length:Int) d)) (.dead::(kD a.Kind a.Day a.Lot a.Amount a.Yarn a.Dye a.Order (kD a.Kind a.Day a.Lot a.Amount a.Yarn a.Dye a.Order (kT f [])))) (ac (hs (.run [0,2] (qqW ZT [23,23] (.gslice 0 b.length 7) (.slice 2 0 1 1 7)) (kT b (kD a.Kind a.Day a.Lot a.Amount a.Yarn a.Dye a.Order (kD a.Kind a.Day a.Lot a.Amount a.Yarn a.Dye a.Order []))) (.gslice 3 f.length 7) (.dead::(kD a.Kind a.Day a.Lot a.Amount a.Yarn a.Dye a.Order (kD a.Kind a.Day a.Lot a.Amount a.Yarn a.Dye a.Order (kT f [])))) true) (qyQ sl23 (E:=jT) rfl (qEj (E:=jT) (ys:=[a]) rfl rfl rfl rfl) (qFg (E:=jT) (l:=b) rfl rfl rfl j rfl))) az) ?_
    refine gh fol ((3,.gslice 3 f.length 7)::(6,vl jT l)::(kY (l.length:Int) (w64 (d+1)))) ?_
    exact⟨M,(ofG 18 (kAC f ((6,vl jT l)::(kY (l.length:Int) (w64 (d+1))))),(kT f [])),Nat.lt_succ_self _,(Sub.norm [] [some 3] rfl rfl (.keep (.gslice rfl) (.keep (.same (qbl jT _)) (.keep (.same nI) (.keep (.same nI) .nil)))) (.ks .nil)),_,_,rfl,g4⟩
   refine Goes.exit ?_
   obtain rfl:=si g4
   exact⟨rfl,_,rfl,(Sub.keep [3] rfl rfl)⟩
 rintro x s' ⟨rfl,g,rfl,hsub⟩
 refine Goes.sub hsub ?_
 refine sh fol [(2,.gslice 0 g.length 7)] ?_
 refine Goes.ret ?_
 obtain rfl:=si h
 exact(gw2 [.gslice 0 g.length 7] (FzW.fz (Fz.gs (E:=jT) rfl rfl (nl rfl))))
end Go.Av
