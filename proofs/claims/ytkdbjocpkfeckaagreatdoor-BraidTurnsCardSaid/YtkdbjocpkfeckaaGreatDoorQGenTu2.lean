/-
  Walks of functions: what each computes, as a plain function.
-/
import Derived.Test.YtkdbjocpkfeckaaGreatDoorQGenTu1
noncomputable section
namespace Go.Av
open Go.Proofs Go.RowKit
set_option linter.unusedSectionVars false
set_option linter.unusedVariables false
set_option linter.unusedSimpArgs false
set_option maxRecDepth 100000
def qa4 (N:Nat) (n:Int) (w:List Int):Option (qaF×Int):=
 (jS N n w).bind fun a=>
 if(!decide (a=0))=true then
 some ((⟨0,[]⟩:qaF),a)
 else
 (qa7 N n w).bind fun b=>
 some (b,0)
theorem qe7 (N:Nat) (n:Int) (w:List Int) {res:qaF×Int} (h:qa4 N n w=some res):qc ZT (.fn 12) (.i n::(kAq w)) [] (.tuple [.agg [.i res.1.Half,vl (qf encI) res.1.Factors],.i res.2]) []:=by
 unfold qa4 at h;refine Ub Tryz.func12 rfl rfl (m:=17) rfl (rs:=[.cell 4 35,.tmp 5]) rfl (l:=(kB n w [])) rfl ?_;refine sg fol (kB n w (kBM [])) [bZ] ?_;refine sq ?_;obtain⟨a,b,h⟩:=bnd h;refine sq (gr fol [2] (kB n w (kBM [(6,.i a)])) (ac (cv (qai N n w b)) az) ?_);refine sh fol (kB n w (kBM [(6,.i a),(11,.bool (!decide (a=0)))])) ?_;refine ihB h (fun e h=>?_) (fun e h=>?_)
 ·refine sh fol (kBM (kBA a)) ?_;refine Goes.ret ?_;obtain rfl:=si h;exact(gw2 [.agg [.i 0,.nilslice],.i a] (FzW.tuple (qm.cons (FzW.agg (qm.cons (Ua tI) (qm.cons (FzW.nilv (E:=(qf encI))) qm.nil))) (qm.cons (Ua tI) qm.nil))))
 refine Goes.skip ?_;obtain⟨d,c,h⟩:=bnd h;refine sq (gq fol [2] (kBM [(5,.i 0)]) [.cells [.i d.Half,vl (qf encI) d.Factors]] (ac (cv (qig N n w c)) az) ?_);refine Goes.ret ?_;obtain rfl:=si h;exact(gw2 [.agg [.i d.Half,vl (qf encI) d.Factors],.i 0] (FzW.tuple (qm.cons (FzW.agg (qm.cons (Ua tI) (qm.cons (Ua (qx (qf encI) _ (nl rfl))) qm.nil))) (qm.cons (Ua tI) qm.nil))))
def jG (a:List Int) (b:List Int):Nat->Int->Option (Unit⊕Bool)
 |0,_=>none
 |K+1,c=>
  if c<(a.length:Int)then
  (idx a c).bind fun d=>
  (idx b c).bind fun e=>
  if(!decide (d=e))=true then
  some (.inr false)
  else
  jG a b K (w64 (c+1))
  else
  some (.inl ())
def yA (N:Nat) (a:List Int) (b:List Int):Option Bool:=
 if(!decide ((a.length:Int)=(b.length:Int)))=true then
 some false
 else
 (jG a b N 0).bind (fun
 |(.inl ())=>
 some true
 |(.inr c)=>
 some c)
theorem qaJ (N:Nat) (a:List Int) (b:List Int) {res:Bool} (h:yA N a b=some res):qc ZT (.fn 19) (vl encI a::(kAq b)) [] (.bool res) []:=by
 unfold yA at h;refine Ub Tryz.func19 rfl rfl (m:=26) rfl (rs:=[.tmp 4]) rfl (l:=(kJ a b [])) rfl ?_;refine sh fol (kJ a b []) ?_;refine sq ?_;refine sh fol (kJ a b (kAv (!decide ((a.length:Int)=(b.length:Int))))) ?_;refine ihB h (fun j h=>?_) (fun j h=>?_)
 ·refine sh fol kAP ?_;refine Goes.ret ?_;obtain rfl:=si h;exact(gw2 [.bool false] (Ua tB))
 refine Goes.skip ?_;refine sq ?_;refine sh fol (kJ a b [(5,.i 0)]) ?_;refine Goes.block ?_;obtain⟨f,g3,h⟩:=bnd h;refine Goes.imp (Q:=fun x s'=>(x= .exit 0/\(.inl ())=f/\Sub s' (ofG 26 [],[]))\/(x= .ret/\ ∃g,(.inr g)=f/\zo ZT [.tmp 4] (.bool g) .ret s')) ?_ ?_
 ·refine Ud (fun M s=> ∃(c:Int),s=(ofG 26 (kJ a b (kBA c)),[])/\jG a b M c=some f) ?_ (m:=N) ⟨_,rfl,g3⟩;rintro M s ⟨c,rfl,g3⟩
  cases M with
  |zero=>simp only[jG]at g3;cases g3
  |succ M=>
   rw[jG]at g3;refine sq ?_;refine sh fol (kJ a b ((5,.i c)::(kBK (decide (c<(a.length:Int)))))) ?_;refine ihD g3 (fun k g3=>?_) (fun k g3=>?_)
   ·refine Goes.skip ?_;refine sq (Goes.block ?_);obtain⟨n,d,g3⟩:=bnd g3;obtain⟨o,e,g3⟩:=bnd g3;refine sq (gr fol [2,3,6,7] (kJ a b [(5,.i c),(25,.bool (!decide (n=o)))]) (ac (iv qO encI d) (ac (lv 0 ce3 encI d rfl) (ac (iv qO encI e) (ac (lv 0 ce3 encI e rfl) az)))) ?_);refine ihB g3 (fun p g3=>?_) (fun p g3=>?_)
    ·refine sh fol kAP ?_;refine Goes.ret ?_;obtain rfl:=si g3;exact Or.inr (⟨rfl,_,rfl,(gw2 [.bool false] (Ua tB))⟩)
    refine Goes.skip ?_;refine gh fol (kJ a b (kBA (w64 (c+1)))) ?_;exact⟨M,(ofG 26 (kJ a b (kBA (w64 (c+1)))),[]),Nat.lt_succ_self _,(Sub.refl _),_,rfl,g3⟩
   refine Goes.exit ?_;obtain rfl:=si g3;exact Or.inl (⟨rfl,rfl,(Sub.keep [] rfl rfl)⟩)
 rintro x s' (⟨rfl,rfl,hsub⟩|⟨rfl,q,rfl,hret⟩)
 ·try dsimp only at h
  refine Goes.sub hsub ?_;refine sh fol kAw ?_;refine Goes.ret ?_;obtain rfl:=si h;exact(gw2 [.bool true] (Ua tB))
 try dsimp only at h
 obtain rfl:=si h;exact hret
def zx (N:Nat) (a:List (List Int)) (b:List (List Int)):Nat->Int->Option (Unit⊕Bool)
 |0,_=>none
 |K+1,c=>
  if c<(a.length:Int)then
  (idx a c).bind fun d=>
  (idx b c).bind fun e=>
  (yA N d e).bind fun f=>
  if(!f)=true then
  some (.inr false)
  else
  zx N a b K (w64 (c+1))
  else
  some (.inl ())
def zU (N:Nat) (a:List (List Int)) (b:List (List Int)):Option Bool:=
 if(!decide ((a.length:Int)=(b.length:Int)))=true then
 some false
 else
 (zx N a b N 0).bind (fun
 |(.inl ())=>
 some true
 |(.inr c)=>
 some c)
theorem qbA (N:Nat) (a:List (List Int)) (b:List (List Int)) {res:Bool} (h:zU N a b=some res):qc ZT (.fn 17) [vl (qf encI) a,vl (qf encI) b] [] (.bool res) []:=by
 unfold zU at h;refine Ub Tryz.func17 rfl rfl (m:=27) rfl (rs:=[.tmp 4]) rfl (l:=[(0,vl (qf encI) a),(1,vl (qf encI) b)]) rfl ?_;refine sh fol [(0,vl (qf encI) a),(1,vl (qf encI) b)] ?_;refine sq ?_;refine sh fol ((0,vl (qf encI) a)::(1,vl (qf encI) b)::(kAv (!decide ((a.length:Int)=(b.length:Int))))) ?_;refine ihB h (fun k h=>?_) (fun k h=>?_)
 ·refine sh fol kAP ?_;refine Goes.ret ?_;obtain rfl:=si h;exact(gw2 [.bool false] (Ua tB))
 refine Goes.skip ?_;refine sq ?_;refine sh fol [(0,vl (qf encI) a),(1,vl (qf encI) b),(5,.i 0)] ?_;refine Goes.block ?_;obtain⟨g,g3,h⟩:=bnd h;refine Goes.imp (Q:=fun x s'=>(x= .exit 0/\(.inl ())=g/\Sub s' (ofG 27 [],[]))\/(x= .ret/\ ∃j,(.inr j)=g/\zo ZT [.tmp 4] (.bool j) .ret s')) ?_ ?_
 ·refine Ud (fun M s=> ∃(c:Int),s=(ofG 27 ((0,vl (qf encI) a)::(1,vl (qf encI) b)::(kBA c)),[])/\zx N a b M c=some g) ?_ (m:=N) ⟨_,rfl,g3⟩;rintro M s ⟨c,rfl,g3⟩
  cases M with
  |zero=>simp only[zx]at g3;cases g3
  |succ M=>
   rw[zx]at g3;refine sq ?_;refine sh fol ((0,vl (qf encI) a)::(1,vl (qf encI) b)::(5,.i c)::(kBK (decide (c<(a.length:Int))))) ?_;refine ihD g3 (fun n g3=>?_) (fun n g3=>?_)
   ·refine Goes.skip ?_;refine sq (Goes.block ?_);obtain⟨o,d,g3⟩:=bnd g3;obtain⟨p,e,g3⟩:=bnd g3;obtain⟨q,f,g3⟩:=bnd g3;refine sq (gr fol [2,3,6,7,8] [(0,vl (qf encI) a),(1,vl (qf encI) b),(5,.i c),(26,.bool (!q))] (ac (iv qd4 (qf encI) d) (ac (lv 0 qij (qf encI) d rfl) (ac (iv qd4 (qf encI) e) (ac (lv 0 qij (qf encI) e rfl) (ac (cv (qaJ N o p f)) az))))) ?_);refine ihB g3 (fun r g3=>?_) (fun r g3=>?_)
    ·refine sh fol kAP ?_;refine Goes.ret ?_;obtain rfl:=si g3;exact Or.inr (⟨rfl,_,rfl,(gw2 [.bool false] (Ua tB))⟩)
    refine Goes.skip ?_;refine gh fol ((0,vl (qf encI) a)::(1,vl (qf encI) b)::(kBA (w64 (c+1)))) ?_;exact⟨M,(ofG 27 ((0,vl (qf encI) a)::(1,vl (qf encI) b)::(kBA (w64 (c+1)))),[]),Nat.lt_succ_self _,(Sub.refl _),_,rfl,g3⟩
   refine Goes.exit ?_;obtain rfl:=si g3;exact Or.inl (⟨rfl,rfl,(Sub.keep [] rfl rfl)⟩)
 rintro x s' (⟨rfl,rfl,hsub⟩|⟨rfl,t,rfl,hret⟩)
 ·try dsimp only at h
  refine Goes.sub hsub ?_;refine sh fol kAw ?_;refine Goes.ret ?_;obtain rfl:=si h;exact(gw2 [.bool true] (Ua tB))
 try dsimp only at h
 obtain rfl:=si h;exact hret
def qaP (N:Nat) (a:qaF) (b:qaF):Option Bool:=
 (if a.Half=b.Half then
 (zU N a.Factors b.Factors).bind fun c=>
 some c
 else
 some false:Option Bool).bind fun d=>
 some d
theorem qgL (N:Nat) (a:qaF) (b:qaF) {res:Bool} (h:qaP N a b=some res):qc ZT (.fn 13) [.agg [.i a.Half,vl (qf encI) a.Factors],.agg [.i b.Half,vl (qf encI) b.Factors]] [] (.bool res) []:=by
 unfold qaP at h;refine Ub Tryz.func13 rfl rfl (m:=17) rfl (rs:=[.tmp 4]) rfl (l:=[(0,.agg [.i a.Half,vl (qf encI) a.Factors]),(1,.agg [.i b.Half,vl (qf encI) b.Factors])]) rfl ?_;refine sg fol (kAB []) [.cells [.i a.Half,vl (qf encI) a.Factors],.cells [.i b.Half,vl (qf encI) b.Factors]] ?_;refine sq ?_;obtain⟨f,c,h⟩:=bnd h;refine Goes.cut (s':=(ofG 17 (kAj f),[.cells [.i a.Half,vl (qf encI) a.Factors],.cells [.i b.Half,vl (qf encI) b.Factors]])) ?_ ?_
 ·rcases wyD c with⟨e,c⟩|⟨e,c⟩
  ·obtain⟨g,d,c⟩:=bnd c;obtain rfl:=si c;exact tr fol [5,10] (kAj g) (ac (gw e) (ac (cv (qbA N a.Factors b.Factors d)) az))
  obtain rfl:=si c;exact tr fol [5] kAP (ac (gw e) az)
 refine Goes.ret ?_;obtain rfl:=si h;exact(gw2 [.bool f] (Ua tB))
def qer (f:qaF):Option qaF:=
 some f
theorem qhf (f:qaF) {res:qaF} (h:qer f=some res):qc ZT (.fn 14) [.agg [.i f.Half,vl (qf encI) f.Factors]] [] (.agg [.i res.Half,vl (qf encI) res.Factors]) []:=by
 unfold qer at h;refine Ub Tryz.func14 rfl rfl (m:=8) rfl (rs:=[.cell 2 39]) rfl (l:=[(0,.agg [.i f.Half,vl (qf encI) f.Factors])]) rfl ?_;refine sg fol (kAc []) [.cells [.i f.Half,vl (qf encI) f.Factors],bZ] ?_;refine sg fol kBd [.cells [.i f.Half,vl (qf encI) f.Factors],.cells [.i f.Half,vl (qf encI) f.Factors]] ?_;refine Goes.ret ?_;obtain rfl:=si h;exact(gw2 [.agg [.i f.Half,vl (qf encI) f.Factors]] (FzW.agg (qm.cons (Ua tI) (qm.cons (Ua (qx (qf encI) _ (nl rfl))) qm.nil))))
def vw (a:List Str) (b:List Str):Nat->Int->Option (Unit⊕Bool)
 |0,_=>none
 |K+1,c=>
  if c<(a.length:Int)then
  (idx a c).bind fun d=>
  (idx b c).bind fun e=>
  if(!(d==e))=true then
  some (.inr false)
  else
  vw a b K (w64 (c+1))
  else
  some (.inl ())
def qbs (N:Nat) (a:List Str) (b:List Str):Option Bool:=
 if(!decide ((a.length:Int)=(b.length:Int)))=true then
 some false
 else
 (vw a b N 0).bind (fun
 |(.inl ())=>
 some true
 |(.inr c)=>
 some c)
theorem qhF (N:Nat) (a:List Str) (b:List Str) {res:Bool} (h:qbs N a b=some res):qc ZT (.fn 84) [vl encS a,vl encS b] [] (.bool res) []:=by
 unfold qbs at h;refine Ub Tryz.func84 rfl rfl (m:=26) rfl (rs:=[.tmp 4]) rfl (l:=(kBC a b [])) rfl ?_;refine sh fol (kBC a b []) ?_;refine sq ?_;refine sh fol (kBC a b (kAv (!decide ((a.length:Int)=(b.length:Int))))) ?_;refine ihB h (fun j h=>?_) (fun j h=>?_)
 ·refine sh fol kAP ?_;refine Goes.ret ?_;obtain rfl:=si h;exact(gw2 [.bool false] (Ua tB))
 refine Goes.skip ?_;refine sq ?_;refine sh fol (kBC a b [(5,.i 0)]) ?_;refine Goes.block ?_;obtain⟨f,g3,h⟩:=bnd h;refine Goes.imp (Q:=fun x s'=>(x= .exit 0/\(.inl ())=f/\Sub s' (ofG 26 [],[]))\/(x= .ret/\ ∃g,(.inr g)=f/\zo ZT [.tmp 4] (.bool g) .ret s')) ?_ ?_
 ·refine Ud (fun M s=> ∃(c:Int),s=(ofG 26 (kBC a b (kBA c)),[])/\vw a b M c=some f) ?_ (m:=N) ⟨_,rfl,g3⟩;rintro M s ⟨c,rfl,g3⟩
  cases M with
  |zero=>simp only[vw]at g3;cases g3
  |succ M=>
   rw[vw]at g3;refine sq ?_;refine sh fol (kBC a b ((5,.i c)::(kBK (decide (c<(a.length:Int)))))) ?_;refine ihD g3 (fun k g3=>?_) (fun k g3=>?_)
   ·refine Goes.skip ?_;refine sq (Goes.block ?_);obtain⟨n,d,g3⟩:=bnd g3;obtain⟨o,e,g3⟩:=bnd g3;refine sq (gr fol [2,3,6,7] (kBC a b [(5,.i c),(25,.bool (!(n==o)))]) (ac (iv qj0 encS d) (ac (lv 0 ce71 encS d rfl) (ac (iv qj0 encS e) (ac (lv 0 ce71 encS e rfl) az)))) ?_);refine ihB g3 (fun p g3=>?_) (fun p g3=>?_)
    ·refine sh fol kAP ?_;refine Goes.ret ?_;obtain rfl:=si g3;exact Or.inr (⟨rfl,_,rfl,(gw2 [.bool false] (Ua tB))⟩)
    refine Goes.skip ?_;refine gh fol (kBC a b (kBA (w64 (c+1)))) ?_;exact⟨M,(ofG 26 (kBC a b (kBA (w64 (c+1)))),[]),Nat.lt_succ_self _,(Sub.refl _),_,rfl,g3⟩
   refine Goes.exit ?_;obtain rfl:=si g3;exact Or.inl (⟨rfl,rfl,(Sub.keep [] rfl rfl)⟩)
 rintro x s' (⟨rfl,rfl,hsub⟩|⟨rfl,q,rfl,hret⟩)
 ·try dsimp only at h
  refine Goes.sub hsub ?_;refine sh fol kAw ?_;refine Goes.ret ?_;obtain rfl:=si h;exact(gw2 [.bool true] (Ua tB))
 try dsimp only at h
 obtain rfl:=si h;exact hret
def zX (N:Nat) (a:List (List Str)) (b:List (List Str)):Nat->Int->Option (Unit⊕Bool)
 |0,_=>none
 |K+1,c=>
  if c<(a.length:Int)then
  (idx a c).bind fun d=>
  (idx b c).bind fun e=>
  (qbs N d e).bind fun f=>
  if(!f)=true then
  some (.inr false)
  else
  zX N a b K (w64 (c+1))
  else
  some (.inl ())
def xS (N:Nat) (a:List (List Str)) (b:List (List Str)):Option Bool:=
 if(!decide ((a.length:Int)=(b.length:Int)))=true then
 some false
 else
 (zX N a b N 0).bind (fun
 |(.inl ())=>
 some true
 |(.inr c)=>
 some c)
theorem qgh (N:Nat) (a:List (List Str)) (b:List (List Str)) {res:Bool} (h:xS N a b=some res):qc ZT (.fn 34) [vl (qf encS) a,vl (qf encS) b] [] (.bool res) []:=by
 unfold xS at h;refine Ub Tryz.func34 rfl rfl (m:=27) rfl (rs:=[.tmp 4]) rfl (l:=[(0,vl (qf encS) a),(1,vl (qf encS) b)]) rfl ?_;refine sh fol [(0,vl (qf encS) a),(1,vl (qf encS) b)] ?_;refine sq ?_;refine sh fol ((0,vl (qf encS) a)::(1,vl (qf encS) b)::(kAv (!decide ((a.length:Int)=(b.length:Int))))) ?_;refine ihB h (fun k h=>?_) (fun k h=>?_)
 ·refine sh fol kAP ?_;refine Goes.ret ?_;obtain rfl:=si h;exact(gw2 [.bool false] (Ua tB))
 refine Goes.skip ?_;refine sq ?_;refine sh fol [(0,vl (qf encS) a),(1,vl (qf encS) b),(5,.i 0)] ?_;refine Goes.block ?_;obtain⟨g,g3,h⟩:=bnd h;refine Goes.imp (Q:=fun x s'=>(x= .exit 0/\(.inl ())=g/\Sub s' (ofG 27 [],[]))\/(x= .ret/\ ∃j,(.inr j)=g/\zo ZT [.tmp 4] (.bool j) .ret s')) ?_ ?_
 ·refine Ud (fun M s=> ∃(c:Int),s=(ofG 27 ((0,vl (qf encS) a)::(1,vl (qf encS) b)::(kBA c)),[])/\zX N a b M c=some g) ?_ (m:=N) ⟨_,rfl,g3⟩;rintro M s ⟨c,rfl,g3⟩
  cases M with
  |zero=>simp only[zX]at g3;cases g3
  |succ M=>
   rw[zX]at g3;refine sq ?_;refine sh fol ((0,vl (qf encS) a)::(1,vl (qf encS) b)::(5,.i c)::(kBK (decide (c<(a.length:Int))))) ?_;refine ihD g3 (fun n g3=>?_) (fun n g3=>?_)
   ·refine Goes.skip ?_;refine sq (Goes.block ?_);obtain⟨o,d,g3⟩:=bnd g3;obtain⟨p,e,g3⟩:=bnd g3;obtain⟨q,f,g3⟩:=bnd g3;refine sq (gr fol [2,3,6,7,8] [(0,vl (qf encS) a),(1,vl (qf encS) b),(5,.i c),(26,.bool (!q))] (ac (iv qlb (qf encS) d) (ac (lv 0 qlF (qf encS) d rfl) (ac (iv qlb (qf encS) e) (ac (lv 0 qlF (qf encS) e rfl) (ac (cv (qhF N o p f)) az))))) ?_);refine ihB g3 (fun r g3=>?_) (fun r g3=>?_)
    ·refine sh fol kAP ?_;refine Goes.ret ?_;obtain rfl:=si g3;exact Or.inr (⟨rfl,_,rfl,(gw2 [.bool false] (Ua tB))⟩)
    refine Goes.skip ?_;refine gh fol ((0,vl (qf encS) a)::(1,vl (qf encS) b)::(kBA (w64 (c+1)))) ?_;exact⟨M,(ofG 27 ((0,vl (qf encS) a)::(1,vl (qf encS) b)::(kBA (w64 (c+1)))),[]),Nat.lt_succ_self _,(Sub.refl _),_,rfl,g3⟩
   refine Goes.exit ?_;obtain rfl:=si g3;exact Or.inl (⟨rfl,rfl,(Sub.keep [] rfl rfl)⟩)
 rintro x s' (⟨rfl,rfl,hsub⟩|⟨rfl,t,rfl,hret⟩)
 ·try dsimp only at h
  refine Goes.sub hsub ?_;refine sh fol kAw ?_;refine Goes.ret ?_;obtain rfl:=si h;exact(gw2 [.bool true] (Ua tB))
 try dsimp only at h
 obtain rfl:=si h;exact hret
def xm (c:Int):Option Int:=
 if c<0 then
 some (-1)
 else
 some 1
theorem qdX (c:Int) {res:Int} (h:xm c=some res):qc ZT (.fn 114) [.i c] [] (.i res) []:=by
 unfold xm at h;refine Ub Tryz.func114 rfl rfl (m:=5) rfl (rs:=[.tmp 2]) rfl (l:=(kBW c)) rfl ?_;refine sh fol (kBW c) ?_;refine sq ?_;refine sh fol (kAj (decide (c<0))) ?_;refine ihD h (fun a h=>?_) (fun a h=>?_)
 ·refine sh fol [(2,.i (-1))] ?_;refine Goes.ret ?_;obtain rfl:=si h;exact(gw2 [.i (-1)] (Ua tI))
 refine Goes.skip ?_;refine sh fol [(2,.i 1)] ?_;refine Goes.ret ?_;obtain rfl:=si h;exact(gw2 [.i 1] (Ua tI))
def jL (w:List Int):Nat->Int->Int->Option Int
 |0,_,_=>none
 |K+1,b,a=>
  if a<(w.length:Int)then
  (idx w a).bind fun c=>
  (xm c).bind fun d=>
  jL w K (w64 (b+d)) (w64 (a+1))
  else
  some b
def xU (N:Nat) (w:List Int):Option Int:=
 (jL w N 0 0).bind fun a=>
 some a
theorem qdN (N:Nat) (w:List Int) {res:Int} (h:xU N w=some res):qc ZT (.fn 48) [vl encI w] [] (.i res) []:=by
 unfold xU at h;refine Ub Tryz.func48 rfl rfl (m:=19) rfl (rs:=[.tmp 2]) rfl (l:=(kX w [])) rfl ?_;refine sh fol (kX w []) ?_;refine sh fol (kX w [(3,.i 0)]) ?_;refine sq ?_;refine sh fol (kX w ((3,.i 0)::kBV)) ?_;refine Goes.block ?_;obtain⟨g,g4,h⟩:=bnd h;refine Goes.imp (Q:=fun x s'=>(x= .exit 0/\ ∃d,d=g/\Sub s' (ofG 19 [(3,.i d)],[]))) ?_ ?_
 ·refine Ud (fun M s=> ∃(c:Int) (a:Int),s=(ofG 19 (kX w ((3,.i c)::(kAd a))),[])/\jL w M c a=some g) ?_ (m:=N) ⟨_,_,rfl,g4⟩;rintro M s ⟨c,a,rfl,g4⟩
  cases M with
  |zero=>simp only[jL]at g4;cases g4
  |succ M=>
   rw[jL]at g4;refine sq ?_;refine sh fol (kX w ((3,.i c)::(4,.i a)::(kBb (decide (a<(w.length:Int)))))) ?_;refine ihD g4 (fun j g4=>?_) (fun j g4=>?_)
   ·refine Goes.skip ?_;refine sq (Goes.block ?_);obtain⟨k,b,g4⟩:=bnd g4;obtain⟨f,e,g4⟩:=bnd g4;refine gr fol [3,4,5] (kX w ((3,.i (w64 (c+f)))::(kAd a))) (ac (iv qO encI b) (ac (lv 0 ce3 encI b rfl) (ac (cv (qdX k e)) az))) ?_;refine gh fol (kX w ((3,.i (w64 (c+f)))::(kAd (w64 (a+1))))) ?_;exact⟨M,(ofG 19 (kX w ((3,.i (w64 (c+f)))::(kAd (w64 (a+1))))),[]),Nat.lt_succ_self _,(Sub.refl _),_,_,rfl,g4⟩
   refine Goes.exit ?_;obtain rfl:=si g4;exact⟨rfl,_,rfl,(Sub.keep [3] rfl rfl)⟩
 rintro x s' ⟨rfl,d,rfl,hsub⟩;refine Goes.sub hsub ?_;refine sh fol [(2,.i d)] ?_;refine Goes.ret ?_;obtain rfl:=si h;exact(gw2 [.i d] (Ua tI))
def jY (p:List Int):Nat->(List Int)->Int->Option (List Int)
 |0,_,_=>none
 |K+1,b,a=>
  if a<(p.length:Int)then
  (idx p a).bind fun c=>
  (idx b c).bind fun e=>
  (put b c a).bind fun d=>
  jY p K d (w64 (a+1))
  else
  some b
def qcv (N:Nat) (p:List Int):Option (List Int):=
 (mk 8 (p.length:Int) 0).bind fun a=>
 (jY p N a 0).bind fun b=>
 some b
theorem qhG (N:Nat) (p:List Int) {res:List Int} (h:qcv N p=some res):qc ZT (.fn 115) [vl encI p] [] (vl encI res) []:=by
 unfold qcv at h;refine Ub Tryz.func115 rfl rfl (m:=22) rfl (rs:=[.tmp 2]) rfl (l:=(kX p [])) rfl ?_;refine sh fol (kX p []) ?_;obtain⟨j,k,h⟩:=bnd h;refine sq (gq fol [2] (kX p (kQ j [])) (kA j []) (ac (hs (.run [] (jv ZT 22 (.i (p.length:Int)) (.i (p.length:Int))) [] (.slice 0 0 j.length j.length 1) (kA j []) false) (qd3 qO (E:=encI) (z:=0) rfl (by kernel_rfl) k rfl)) az) ?_);refine sq ?_;refine sh fol (kX p (kQ j kBV)) ?_;refine Goes.block ?_;obtain⟨o,g5,h⟩:=bnd h;refine Goes.imp (Q:=fun x s'=>(x= .exit 0/\ ∃g,g=o/\Sub s' (ofG 22 (kQ g []),(kA g [])))) ?_ ?_
 ·refine Ud (fun M s=> ∃(b:List Int) (a:Int),s=(ofG 22 (kX p (kQ b (kAd a))),(kA b []))/\jY p M b a=some o) ?_ (m:=N) ⟨_,_,rfl,g5⟩;rintro M s ⟨b,a,rfl,g5⟩
  cases M with
  |zero=>simp only[jY]at g5;cases g5
  |succ M=>
   rw[jY]at g5;refine sq ?_;refine sh fol (kX p (kQ b [(4,.i a),(11,.bool (decide (a<(p.length:Int))))])) ?_;refine ihD g5 (fun q g5=>?_) (fun q g5=>?_)
   ·refine Goes.skip ?_;refine sq (Goes.block ?_);obtain⟨n,c,g5⟩:=bnd g5;obtain⟨r,d,g5⟩:=bnd g5;obtain⟨e,f,g5⟩:=bnd g5;refine gq fol [3,4,6,7] (kX p (kQ b (kAd a))) (kA e []) (ac (iv qO encI c) (ac (lv 0 ce3 encI c rfl) (ac (hs (.done (.opt (qa ZT 22 (.slice 0 0 b.length b.length 1) (.i n))) (.ptr 0 ((n:Int).toNat*1+0))) (ym qO d)) (ac (hs (.run [0] (qC ZT 3 (.ptr 0 ((n:Int).toNat*1+0)) (.i a)) (kA b []) .undef (kA e []) true) (jX (E:=encI) (l:=b) (y:=a) rfl (show _=some 1 by kernel_rfl) rfl d rfl rfl rfl rfl rfl f rfl)) az)))) ?_;refine Goes.sub (show Sub (ofG 22 (kX p (kQ b (kAd a))),(kA e [])) (ofG 22 (kX p (kQ e (kAd a))),(kA e []))from(Uc [] [some 0] rfl rfl (.keep (.same (qg encI _)) (.keep (.sliceE rfl (qZ f)) (.keep (.same nI) .nil))) (.ks .nil))) ?_;refine gh fol (kX p (kQ e (kAd (w64 (a+1))))) ?_;exact⟨M,(ofG 22 (kX p (kQ e (kAd (w64 (a+1))))),(kA e [])),Nat.lt_succ_self _,(Sub.refl _),_,_,rfl,g5⟩
   refine Goes.exit ?_;obtain rfl:=si g5;exact⟨rfl,_,rfl,(Sub.keep [3] rfl rfl)⟩
 rintro x s' ⟨rfl,g,rfl,hsub⟩;refine Goes.sub hsub ?_;refine sh fol (kBH g) ?_;refine Goes.ret ?_;obtain rfl:=si h;exact(gw2 [.slice 0 0 g.length g.length 1] (Ut (Fz.sl (E:=encI) rfl rfl (nl rfl))))
def xu (c:Int):Option Int:=
 some (if(w64 (0-c))>c then(w64 (0-c))else c)
theorem qcw (c:Int) {res:Int} (h:xu c=some res):qc ZT (.fn 58) [.i c] [] (.i res) []:=by
 unfold xu at h;refine Ub Tryz.func58 rfl rfl (m:=7) rfl (rs:=[.tmp 2]) rfl (l:=(kBW c)) rfl ?_;refine sh fol (kBW c) ?_;refine sh fol [(2,.i (if(w64 (0-c))>c then(w64 (0-c))else c))] ?_;refine Goes.ret ?_;obtain rfl:=si h;exact(gw2 [.i (if(w64 (0-c))>c then(w64 (0-c))else c)] (Ua tI))
def zP (a:Int):Nat->(List Int)->Int->Option (List Int)
 |0,_,_=>none
 |K+1,c,b=>
  if b<a then
  (app 8 c [b]).bind fun d=>
  zP a K d (w64 (b+1))
  else
  some c
def vQ (N:Nat) (a:Int):Option (List Int):=
 (zP a N ([]:List Int) 0).bind fun b=>
 some b
theorem qcD (N:Nat) (a:Int) {g:List Int} (h:vQ N a=some g):qc ZT (.fn 117) [.i a] [] (.gslice 0 g.length 1) (kA g []):=by
 unfold vQ at h;refine Um Tryz.func117 rfl rfl (m:=15) rfl (rs:=[.tmp 2]) rfl (l:=(kBW a)) rfl ?_;intro B hB;refine sh fol (kBW a) ?_;refine sh fol ((0,.i a)::(kBR [])) ?_;refine sq ?_;refine sh fol ((0,.i a)::(kBR kBV)) ?_;refine Goes.block ?_;obtain⟨j,g5,h⟩:=bnd h;refine Goes.imp (Q:=fun x s'=>(x= .exit 0/\ ∃e,e=j/\Sub s' (ofG 15 (kAs e []),(kA e [])))) ?_ ?_
 ·refine Goes.sub (s':=(ofG 15 ((0,.i a)::(3,.gslice 0 ([]:List Int).length 1)::kBV),kBG)) (Uc [] [none] (by rw[hB];rfl) rfl (.keep (.same nI) (.keep .nil (.keep (.same nI) .nil))) (.fresh .nil)) ?_;refine Ud (fun M s=> ∃(c:List Int) (b:Int),s=(ofG 15 ((0,.i a)::(kAs c (kAd b))),(kA c []))/\zP a M c b=some j) ?_ (m:=N) ⟨_,_,rfl,g5⟩;rintro M s ⟨c,b,rfl,g5⟩
  cases M with
  |zero=>simp only[zP]at g5;cases g5
  |succ M=>
   rw[zP]at g5;refine sq ?_;refine sh fol ((0,.i a)::(kAs c [(4,.i b),(7,.bool (decide (b<a)))])) ?_;refine ihD g5 (fun k g5=>?_) (fun k g5=>?_)
   ·refine Goes.skip ?_;refine sq (Goes.block ?_);obtain⟨d,f,g5⟩:=bnd g5;refine gq fol [3] ((0,.i a)::(3,.gslice 2 d.length 1)::(kAd b)) (kAt b (kA d [])) (ac (hs (.run [0,1] (jd ZT [22,22] (.gslice 0 c.length 1) (.slice 1 0 1 1 1)) (kA c [.cells [.i b]]) (.gslice 2 d.length 1) (kAt b (kA d [])) true) (qao qO (E:=encI) rfl (qee (E:=encI) (ys:=[b]) rfl rfl rfl rfl) (qfm (E:=encI) (l:=c) rfl rfl rfl f rfl))) az) ?_;refine gh fol ((0,.i a)::(3,.gslice 2 d.length 1)::(kAd (w64 (b+1)))) ?_;exact⟨M,(ofG 15 ((0,.i a)::(kAs d (kAd (w64 (b+1))))),(kA d [])),Nat.lt_succ_self _,(Uc [] [some 2] (by rw[hB];rfl) rfl (.keep (.same nI) (.keep (.gslice rfl) (.keep (.same nI) .nil))) (.ks .nil)),_,_,rfl,g5⟩
   refine Goes.exit ?_;obtain rfl:=si g5;exact⟨rfl,_,rfl,(Sub.keep [3] rfl rfl)⟩
 rintro x s' ⟨rfl,e,rfl,hsub⟩;refine Goes.sub hsub ?_;refine sh fol [(2,.gslice 0 e.length 1)] ?_;refine Goes.ret ?_;obtain rfl:=si h;exact(gh2 [.gslice 0 e.length 1] (qdo.refl _ _))
def zZ (b:List Int):Nat->(List Int)->Int->Option (List Int)
 |0,_,_=>none
 |K+1,d,e=>
  if e<(b.length:Int)then
  (idx b e).bind fun i=>
  (xu i).bind fun a=>
  (idx d a).bind fun f=>
  (idx d (w64 (a-1))).bind fun g=>
  (put d (w64 (a-1)) f).bind fun c=>
  (idx c a).bind fun j=>
  (put c a g).bind fun h=>
  zZ b K h (w64 (e+1))
  else
  some d
def qba (N:Nat) (a:Int) (b:List Int):Option (List Int):=
 (vQ N a).bind fun c=>
 (zZ b N c 0).bind fun d=>
 some d
theorem qga (N:Nat) (g:Int) (a:List Int) {A:List Int} (h:qba N g a=some A):qc ZT (.fn 116) (.i g::(kAq a)) [] (.gslice 0 A.length 1) (kA A []):=by
 unfold qba at h;refine Um Tryz.func116 rfl rfl (m:=38) rfl (rs:=[.tmp 4]) rfl (l:=(kB g a [])) rfl ?_;intro B hB;refine sh fol (kB g a []) ?_;obtain⟨w,z,h⟩:=bnd h;refine sq (gq fol [1] (kH a w []) (kA w []) (ac (hs (.callH 117 [.i g] [] [] (.gslice 0 w.length 1) (kA w [])) (zQ [] [some 0] (qcD N g z) .nil rfl rfl (.new rfl rfl (.same fa) rfl .nil) (rc (.same nI) rn) (.gslice rfl) rfl)) az) ?_);refine sq ?_;refine sh fol (kH a w [(6,.i 0)]) ?_;refine Goes.block ?_;obtain⟨C,g7,h⟩:=bnd h;refine Goes.imp (Q:=fun x s'=>(x= .exit 0/\ ∃v,v=C/\Sub s' (ofG 38 (kAb v []),(kA v [])))) ?_ ?_
 ·refine Ud (fun M s=> ∃(c:List Int) (j:Int),s=(ofG 38 (kH a c [(6,.i j)]),(kA c []))/\zZ a M c j=some C) ?_ (m:=N) ⟨_,_,rfl,g7⟩;rintro M s ⟨c,j,rfl,g7⟩
  cases M with
  |zero=>simp only[zZ]at g7;cases g7
  |succ M=>
   rw[zZ]at g7;refine sq ?_;refine sh fol (kH a c ((6,.i j)::(kBL (decide (j<(a.length:Int)))))) ?_;refine ihD g7 (fun D g7=>?_) (fun D g7=>?_)
   ·refine Goes.skip ?_;refine sq (Goes.block ?_);obtain⟨F,o,g7⟩:=bnd g7;obtain⟨b,p,g7⟩:=bnd g7;refine sq (gr fol [2,3,4] (kH a c (kBS j b [])) (ac (iv qO encI o) (ac (lv 0 ce3 encI o rfl) (ac (cv (qcw F p)) az))) ?_);obtain⟨q,f,g7⟩:=bnd g7;obtain⟨r,d,g7⟩:=bnd g7;obtain⟨t,k,g7⟩:=bnd g7;obtain⟨G,u,g7⟩:=bnd g7;obtain⟨e,n,g7⟩:=bnd g7;refine gq fol [7,8,12,13,14,15,16,17] (kH a c [(6,.i j)]) (kA e []) (ac (hs (.done (.opt (qa ZT 22 (.gslice 0 c.length 1) (.i b))) (.ptr 0 ((b:Int).toNat*1+0))) (zh qO f)) (ac (hs (.run [0] (qQ ZT 3 (.ptr 0 ((b:Int).toNat*1+0))) (kA c []) (.i q) (kA c []) false) (qa6 ce3 (E:=encI) (l:=c) rfl rfl f (nl rfl) rfl)) (ac (hs (.done (.opt (qa ZT 22 (.gslice 0 c.length 1) (.i (w64 (b-1))))) (.ptr 0 ((w64 (b-1):Int).toNat*1+0))) (zh qO d)) (ac (hs (.run [0] (qQ ZT 3 (.ptr 0 ((w64 (b-1):Int).toNat*1+0))) (kA c []) (.i r) (kA c []) false) (qa6 ce3 (E:=encI) (l:=c) rfl rfl d (nl rfl) rfl)) (ac (hs (.done (.opt (qa ZT 22 (.gslice 0 c.length 1) (.i (w64 (b-1))))) (.ptr 0 ((w64 (b-1):Int).toNat*1+0))) (zh qO d)) (ac (hs (.run [0] (qC ZT 3 (.ptr 0 ((w64 (b-1):Int).toNat*1+0)) (.i q)) (kA c []) .undef (kA t []) true) (jX (E:=encI) (l:=c) (y:=q) rfl (show _=some 1 by kernel_rfl) rfl d rfl rfl rfl rfl rfl k rfl)) (ac (hs (.done (.opt (qa ZT 22 (.gslice 0 c.length 1) (.i b))) (.ptr 0 ((b:Int).toNat*1+0))) (zh qO f)) (ac (hs (.run [0] (qC ZT 3 (.ptr 0 ((b:Int).toNat*1+0)) (.i r)) (kA t []) .undef (kA e []) true) (jX (E:=encI) (l:=t) (y:=r) rfl (show _=some 1 by kernel_rfl) rfl u rfl rfl rfl rfl rfl n rfl)) az)))))))) ?_;refine Goes.sub (show Sub (ofG 38 (kH a c [(6,.i j)]),(kA e [])) (ofG 38 (kH a e [(6,.i j)]),(kA e []))from(Uc [] [some 0] (by rw[hB];rfl) rfl (.keep (.same (qg encI _)) (.keep (.gsliceE rfl ((qZ k).trans (qZ n))) (.keep (.same nI) .nil))) (.ks .nil))) ?_;refine gh fol (kH a e [(6,.i (w64 (j+1)))]) ?_;exact⟨M,(ofG 38 (kH a e [(6,.i (w64 (j+1)))]),(kA e [])),Nat.lt_succ_self _,(Sub.refl _),_,_,rfl,g7⟩
   refine Goes.exit ?_;obtain rfl:=si g7;exact⟨rfl,_,rfl,(Sub.keep [5] rfl rfl)⟩
 rintro x s' ⟨rfl,v,rfl,hsub⟩;refine Goes.sub hsub ?_;refine sh fol [(4,.gslice 0 v.length 1)] ?_;refine Goes.ret ?_;obtain rfl:=si h;exact(gh2 [.gslice 0 v.length 1] (qdo.refl _ _))
def qci (N:Nat) (n:Int) (w:List Int):Option (List Int):=
 (qba N n w).bind fun a=>
 (qcv N a).bind fun b=>
 some b
theorem qgx (N:Nat) (n:Int) (w:List Int) {res:List Int} (h:qci N n w=some res):qc ZT (.fn 49) (.i n::(kAq w)) [] (vl encI res) []:=by
 unfold qci at h;refine Ub Tryz.func49 rfl rfl (m:=9) rfl (rs:=[.tmp 4]) rfl (l:=(kB n w [])) rfl ?_;refine sh fol (kB n w []) ?_;obtain⟨a,b,h⟩:=bnd h;obtain⟨c,d,h⟩:=bnd h;refine sq (gq fol [2,3] [(4,vl encI c)] (kAn a []) (ac (hs (.callH 116 (.i n::(kAq w)) [] [] (.gslice 0 a.length 1) (kA a [])) (zQ [] [some 0] (qga N n w b) .nil rfl rfl (.new rfl rfl (.same fa) rfl .nil) (rc (.same nI) (rc (.same (qg encI _)) rn)) (.gslice rfl) rfl)) (ac (hs (.callF 115 [.gslice 0 a.length 1] (kA a []) [0] [vl encI a] (vl encI c)) (qhz (FzL.cons (Fz.gs (E:=encI) rfl rfl (nl rfl)) FzL.nil) (qhG N a d) (qx encI _ (nl rfl)))) az)) ?_);refine Goes.sub (show Sub (ofG 9 [(4,vl encI c)],(kAn a [])) (ofG 9 [(4,vl encI c)],[])from(Uc [] [] rfl rfl (.keep (.same (qg encI _)) .nil) .nil)) ?_;refine Goes.ret ?_;obtain rfl:=si h;exact(gw2 [vl encI c] (Ua (qx encI _ (nl rfl))))
def xq (n:Int):Nat->(List (List Int))->Int->Option (List (List Int))
 |0,_,_=>none
 |K+1,a,b=>
  if b<n then
  (mk 8 n 0).bind fun c=>
  (app 24 a [c]).bind fun d=>
  xq n K d (w64 (b+1))
  else
  some a
def xg (w:List Int):Nat->(List (List Int))->(List Int)->Int->Option (List (List Int))
 |0,_,_,_=>none
 |K+1,d,e,f=>
  if f<(w.length:Int)then
  (idx w f).bind fun g=>
  (xu g).bind fun b=>
  (idx e (w64 (b-1))).bind fun a=>
  (idx e b).bind fun c=>
  (idx d a).bind fun h=>
  (idx h c).bind fun l=>
  (xm g).bind fun m=>
  (put h c (w64 (l+m))).bind fun i=>
  (idx (qh d a i) c).bind fun j=>
  (idx j a).bind fun n=>
  (xm g).bind fun o=>
  (put j a (w64 (n+o))).bind fun p=>
  (put e (w64 (b-1)) c).bind fun k=>
  (idx k b).bind fun r=>
  (put k b a).bind fun q=>
  xg w K (qh (qh d a i) c p) q (w64 (f+1))
  else
  some d
def qcp (N:Nat) (n:Int) (w:List Int):Option (List (List Int)):=
 (xq n N ([]:List (List Int)) 0).bind fun b=>
 (vQ N n).bind fun c=>
 (xg w N b c 0).bind fun a=>
 some a
theorem qgs (N:Nat) (n:Int) (w:List Int) {res:List (List Int)} (h:qcp N n w=some res):qc ZT (.fn 50) (.i n::(kAq w)) [] (vl (qf encI) res) []:=by
 unfold qcp at h;refine Ub Tryz.func50 rfl rfl (m:=92) rfl (rs:=[.tmp 4]) rfl (l:=(kB n w [])) rfl ?_;refine sh fol (kB n w []) ?_;refine sh fol (kB n w [(5,.nilslice)]) ?_;refine sq ?_;refine sh fol (kB n w [(5,.nilslice),(6,.i 0)]) ?_;refine Goes.block ?_;obtain⟨r4,g4,h⟩:=bnd h;refine Goes.imp (Q:=fun x s'=>(x= .exit 0/\ ∃U,U=r4/\Sub s' (ofG 92 (kB n w (kAb U [])),[bg encI U]))) ?_ ?_
 ·refine Goes.sub (s':=(ofG 92 (kB n w [(5,.gslice 0 ([]:List (List Int)).length 1),(6,.i 0)]),[bg encI ([]:List (List Int))])) (Uc [] [none] rfl rfl (.keep (.same nI) (.keep (.same (qg encI _)) (.keep .nil (.keep (.same nI) .nil)))) (.fresh .nil)) ?_;refine Ud (fun M s=> ∃(I:List (List Int)) (P:Int),s=(ofG 92 (kB n w (kAb I [(6,.i P)])),[bg encI I])/\xq n M I P=some r4) ?_ (m:=N) ⟨_,_,rfl,g4⟩;rintro M s ⟨I,P,rfl,g4⟩
  cases M with
  |zero=>simp only[xq]at g4;cases g4
  |succ M=>
   rw[xq]at g4;refine sq ?_;refine sh fol (kB n w (kAb I ((6,.i P)::(kBK (decide (P<n)))))) ?_;refine ihD g4 (fun c5 g4=>?_) (fun c5 g4=>?_)
   ·refine Goes.skip ?_;refine sq (Goes.block ?_);obtain⟨A,V,g4⟩:=bnd g4;obtain⟨X,Y,g4⟩:=bnd g4;refine gq fol [2,4] (kB n w (kBE X P)) (.dead::(kA A (kS A [.bag (I.map (qF encI)++[.av (.slice 1 0 A.length A.length 1)])]))) (ac (hs (.run [] (jv ZT 22 (.i n) (.i n)) [bg encI I] (.slice 1 0 A.length A.length 1) (bg encI I::(kA A [])) false) (qd3 qO (E:=encI) (z:=0) rfl (by kernel_rfl) V rfl)) (ac (hs (.run [0,2] (jd ZT [33,33] (.gslice 0 I.length 1) (.slice 2 0 1 1 1)) (bg encI I::(kA A (kS A []))) (.gslice 3 X.length 1) (.dead::(kA A (kS A [.bag (I.map (qF encI)++[.av (.slice 1 0 A.length A.length 1)])]))) true) (qoD qd4 (E:=encI) (l:=I) (x:=A) rfl rfl rfl rfl rfl Y rfl)) az)) ?_;refine Goes.sub (show Sub (ofG 92 (kB n w (kBE X P)),(.dead::(kA A (kS A [.bag (I.map (qF encI)++[.av (.slice 1 0 A.length A.length 1)])])))) (ofG 92 (kB n w (kBE X P)),(.dead:: .dead::(kS A [bg encI X])))from(Sub.bagGiveA (E:=encI) (b:=3) (c:=1) (Nat.ne_of_beq_eq_false rfl) rfl rfl Y (.s (qtM V)) rfl)) ?_;refine gh fol (kB n w (kBE X (w64 (P+1)))) ?_;exact⟨M,(ofG 92 (kB n w (kAb X [(6,.i (w64 (P+1)))])),[bg encI X]),Nat.lt_succ_self _,(Uc [] [some 3] rfl rfl (.keep (.same nI) (.keep (.same (qg encI _)) (.keep (.gslice rfl) (.keep (.same nI) .nil)))) (.kb rfl jm.bgs .nil)),_,_,rfl,g4⟩
   refine Goes.exit ?_;obtain rfl:=si g4;exact⟨rfl,_,rfl,(Sub.keep [0,1,5] rfl rfl)⟩
 rintro x s' ⟨rfl,U,rfl,hsub⟩;refine Goes.sub hsub ?_;obtain⟨l9,e_r8,h⟩:=bnd h;refine sq (gq fol [1] (kH w U (kA6 l9 [])) (bg encI U::(kA l9 [])) (ac (hs (.callH 117 [.i n] [bg encI U] [] (.gslice 1 l9.length 1) (bg encI U::(kA l9 []))) (zQ [] [none,some 0] (qcD N n e_r8) .nil rfl rfl (.old rfl rfl (.new rfl rfl (.same fa) rfl .nil)) (rc (.same nI) rn) (.gslice rfl) rfl)) az) ?_);refine sq ?_;refine sh fol (kH w U (kA6 l9 [(8,.i 0)])) ?_;refine Goes.block ?_;obtain⟨r14,g14,h⟩:=bnd h;refine Goes.imp (Q:=fun x s'=>(x= .exit 2/\ ∃F,F=r14/\Sub s' (ofG 92 (kAb F []),[bg encI F]))) ?_ ?_
 ·refine Ud (fun M s=> ∃(d:List (List Int)) (e:List Int) (q:Int),s=(ofG 92 (kH w d (kA6 e (kAk q))),(bg encI d::(kA e [])))/\xg w M d e q=some r14) ?_ (m:=N) ⟨_,_,_,rfl,g14⟩;rintro M s ⟨d,e,q,rfl,g14⟩
  cases M with
  |zero=>simp only[xg]at g14;cases g14
  |succ M=>
   rw[xg]at g14;refine sq ?_;refine sh fol (kH w d (kA6 e [(8,.i q),(27,.bool (decide (q<(w.length:Int))))])) ?_;refine ihD g14 (fun c15 g14=>?_) (fun c15 g14=>?_)
   ·refine Goes.skip ?_;refine sq (Goes.block ?_);obtain⟨Z,t,g14⟩:=bnd g14;obtain⟨k,a0,g14⟩:=bnd g14;refine sq (gr fol [2,3,4] (kH w d (kA6 e (kAf q k []))) (ac (iv qO encI t) (ac (lv 0 ce3 encI t rfl) (ac (cv (qcw Z a0)) az))) ?_);obtain⟨a,B,g14⟩:=bnd g14;obtain⟨f,H,g14⟩:=bnd g14;refine sq (gr fol [3,4,7,8] (kH w d (kZ e q k a f)) (ac (hs (.done (.opt (qa ZT 22 (.gslice 1 e.length 1) (.i (w64 (k-1))))) (.ptr 1 ((w64 (k-1):Int).toNat*1+0))) (zh qO B)) (ac (hs (.run [1] (qQ ZT 3 (.ptr 1 ((w64 (k-1):Int).toNat*1+0))) (bg encI d::(kA e [])) (.i a) (bg encI d::(kA e [])) false) (qa6 ce3 (E:=encI) (l:=e) rfl rfl B (nl rfl) rfl)) (ac (hs (.done (.opt (qa ZT 22 (.gslice 1 e.length 1) (.i k))) (.ptr 1 ((k:Int).toNat*1+0))) (zh qO H)) (ac (hs (.run [1] (qQ ZT 3 (.ptr 1 ((k:Int).toNat*1+0))) (bg encI d::(kA e [])) (.i f) (bg encI d::(kA e [])) false) (qa6 ce3 (E:=encI) (l:=e) rfl rfl H (nl rfl) rfl)) az)))) ?_);obtain⟨o,u,g14⟩:=bnd g14;refine sq (Goes.sub (s':=(ofG 92 (kH w d (kZ e q k a f)),(.bag ((d.map (qF encI)).set (a:Int).toNat (.av (.gslice 2 o.length 1)))::(kA e (kA o []))))) (Uk (E:=encI) (b:=0) rfl u) ?_);obtain⟨a1,C,g14⟩:=bnd g14;obtain⟨r23,a2,g14⟩:=bnd g14;obtain⟨j,J,g14⟩:=bnd g14;refine gq fol [2,3,7,8,10,11,14,15,16,18,19] (kH w d (kZ e q k a f)) (.bag ((d.map (qF encI)).set (a:Int).toNat (.av (.gslice 2 o.length 1)))::(kA e (kA j []))) (ac (hs (.done (.opt (qa ZT 33 (.gslice 0 d.length 1) (.i a))) (.ptr 0 ((a:Int).toNat*1+0))) (zh qd4 u)) (ac (hs (.run [0] (qQ ZT 22 (.ptr 0 ((a:Int).toNat*1+0))) (.bag ((d.map (qF encI)).set (a:Int).toNat (.av (.gslice 2 o.length 1)))::(kA e (kA o []))) (.gslice 2 o.length 1) (.bag ((d.map (qF encI)).set (a:Int).toNat (.av (.gslice 2 o.length 1)))::(kA e (kA o []))) false) (qbV qij rfl (at_set u))) (ac (hs (.done (.opt (qa ZT 33 (.gslice 0 d.length 1) (.i a))) (.ptr 0 ((a:Int).toNat*1+0))) (zh qd4 u)) (ac (hs (.run [0] (qQ ZT 22 (.ptr 0 ((a:Int).toNat*1+0))) (.bag ((d.map (qF encI)).set (a:Int).toNat (.av (.gslice 2 o.length 1)))::(kA e (kA o []))) (.gslice 2 o.length 1) (.bag ((d.map (qF encI)).set (a:Int).toNat (.av (.gslice 2 o.length 1)))::(kA e (kA o []))) false) (qbV qij rfl (at_set u))) (ac (hs (.done (.opt (qa ZT 22 (.gslice 2 o.length 1) (.i f))) (.ptr 2 ((f:Int).toNat*1+0))) (zh qO C)) (ac (hs (.run [2] (qQ ZT 3 (.ptr 2 ((f:Int).toNat*1+0))) (.bag ((d.map (qF encI)).set (a:Int).toNat (.av (.gslice 2 o.length 1)))::(kA e (kA o []))) (.i a1) (.bag ((d.map (qF encI)).set (a:Int).toNat (.av (.gslice 2 o.length 1)))::(kA e (kA o []))) false) (qa6 ce3 (E:=encI) (l:=o) rfl rfl C (nl rfl) rfl)) (ac (iv qO encI t) (ac (lv 0 ce3 encI t rfl) (ac (cv (qdX Z a2)) (ac (hs (.done (.opt (qa ZT 22 (.gslice 2 o.length 1) (.i f))) (.ptr 2 ((f:Int).toNat*1+0))) (zh qO C)) (ac (hs (.run [2] (qC ZT 3 (.ptr 2 ((f:Int).toNat*1+0)) (.i (w64 (a1+r23)))) (.bag ((d.map (qF encI)).set (a:Int).toNat (.av (.gslice 2 o.length 1)))::(kA e (kA o []))) .undef (.bag ((d.map (qF encI)).set (a:Int).toNat (.av (.gslice 2 o.length 1)))::(kA e (kA j []))) true) (jX (E:=encI) (l:=o) (y:=w64 (a1+r23)) rfl (show _=some 1 by kernel_rfl) rfl C rfl rfl rfl rfl rfl J rfl)) az))))))))))) ?_;refine Goes.sub ((show Sub (ofG 92 (kH w d (kZ e q k a f)),(.bag ((d.map (qF encI)).set (a:Int).toNat (.av (.gslice 2 o.length 1)))::(kA e (kA j [])))) (ofG 92 (kH w d (kZ e q k a f)),(bg encI (qh d a j)::(kA e [.dead])))from(Ui (E:=encI) (b:=0) (c:=2) (Nat.ne_of_beq_eq_false rfl) rfl rfl u .g (qZ J))).trans (show Sub (ofG 92 (kH w d (kZ e q k a f)),(bg encI (qh d a j)::(kA e [.dead]))) (ofG 92 (kH w (qh d a j) (kZ e q k a f)),(bg encI (qh d a j)::(kA e [])))from(Uc [] [some 0,some 1] rfl rfl (.keep (.same (qg encI _)) (.keep (.gsliceE rfl (y7 _ _ _)) (.keep (.gslice rfl) (.keep (.same nI) (.keep (.same nI) (.keep (.same nI) (.keep (.same nI) .nil))))))) (.kb rfl jm.bgs (.ks .nil))))) ?_;obtain⟨p,v,g14⟩:=bnd g14;refine sq (Goes.sub (s':=(ofG 92 (kH w (qh d a j) (kZ e q k a f)),(.bag (((qh d a j).map (qF encI)).set (f:Int).toNat (.av (.gslice 2 p.length 1)))::(kA e (kA p []))))) (Uk (E:=encI) (b:=0) rfl v) ?_);obtain⟨a3,D,g14⟩:=bnd g14;obtain⟨r28,a4,g14⟩:=bnd g14;obtain⟨r,K,g14⟩:=bnd g14;refine gq fol [2,3,7,8,10,11,14,15,16,18,19] (kH w (qh d a j) (kZ e q k a f)) (.bag (((qh d a j).map (qF encI)).set (f:Int).toNat (.av (.gslice 2 p.length 1)))::(kA e (kA r []))) (ac (hs (.done (.opt (qa ZT 33 (.gslice 0 (qh d a j).length 1) (.i f))) (.ptr 0 ((f:Int).toNat*1+0))) (zh qd4 v)) (ac (hs (.run [0] (qQ ZT 22 (.ptr 0 ((f:Int).toNat*1+0))) (.bag (((qh d a j).map (qF encI)).set (f:Int).toNat (.av (.gslice 2 p.length 1)))::(kA e (kA p []))) (.gslice 2 p.length 1) (.bag (((qh d a j).map (qF encI)).set (f:Int).toNat (.av (.gslice 2 p.length 1)))::(kA e (kA p []))) false) (qbV qij rfl (at_set v))) (ac (hs (.done (.opt (qa ZT 33 (.gslice 0 (qh d a j).length 1) (.i f))) (.ptr 0 ((f:Int).toNat*1+0))) (zh qd4 v)) (ac (hs (.run [0] (qQ ZT 22 (.ptr 0 ((f:Int).toNat*1+0))) (.bag (((qh d a j).map (qF encI)).set (f:Int).toNat (.av (.gslice 2 p.length 1)))::(kA e (kA p []))) (.gslice 2 p.length 1) (.bag (((qh d a j).map (qF encI)).set (f:Int).toNat (.av (.gslice 2 p.length 1)))::(kA e (kA p []))) false) (qbV qij rfl (at_set v))) (ac (hs (.done (.opt (qa ZT 22 (.gslice 2 p.length 1) (.i a))) (.ptr 2 ((a:Int).toNat*1+0))) (zh qO D)) (ac (hs (.run [2] (qQ ZT 3 (.ptr 2 ((a:Int).toNat*1+0))) (.bag (((qh d a j).map (qF encI)).set (f:Int).toNat (.av (.gslice 2 p.length 1)))::(kA e (kA p []))) (.i a3) (.bag (((qh d a j).map (qF encI)).set (f:Int).toNat (.av (.gslice 2 p.length 1)))::(kA e (kA p []))) false) (qa6 ce3 (E:=encI) (l:=p) rfl rfl D (nl rfl) rfl)) (ac (iv qO encI t) (ac (lv 0 ce3 encI t rfl) (ac (cv (qdX Z a4)) (ac (hs (.done (.opt (qa ZT 22 (.gslice 2 p.length 1) (.i a))) (.ptr 2 ((a:Int).toNat*1+0))) (zh qO D)) (ac (hs (.run [2] (qC ZT 3 (.ptr 2 ((a:Int).toNat*1+0)) (.i (w64 (a3+r28)))) (.bag (((qh d a j).map (qF encI)).set (f:Int).toNat (.av (.gslice 2 p.length 1)))::(kA e (kA p []))) .undef (.bag (((qh d a j).map (qF encI)).set (f:Int).toNat (.av (.gslice 2 p.length 1)))::(kA e (kA r []))) true) (jX (E:=encI) (l:=p) (y:=w64 (a3+r28)) rfl (show _=some 1 by kernel_rfl) rfl D rfl rfl rfl rfl rfl K rfl)) az))))))))))) ?_;refine Goes.sub ((show Sub (ofG 92 (kH w (qh d a j) (kZ e q k a f)),(.bag (((qh d a j).map (qF encI)).set (f:Int).toNat (.av (.gslice 2 p.length 1)))::(kA e (kA r [])))) (ofG 92 (kH w (qh d a j) (kZ e q k a f)),(bg encI (qh (qh d a j) f r)::(kA e [.dead])))from(Ui (E:=encI) (b:=0) (c:=2) (Nat.ne_of_beq_eq_false rfl) rfl rfl v .g (qZ K))).trans (show Sub (ofG 92 (kH w (qh d a j) (kZ e q k a f)),(bg encI (qh (qh d a j) f r)::(kA e [.dead]))) (ofG 92 (kH w (qh (qh d a j) f r) (kZ e q k a f)),(bg encI (qh (qh d a j) f r)::(kA e [])))from(Uc [] [some 0,some 1] rfl rfl (.keep (.same (qg encI _)) (.keep (.gsliceE rfl (y7 _ _ _)) (.keep (.gslice rfl) (.keep (.same nI) (.keep (.same nI) (.keep (.same nI) (.keep (.same nI) .nil))))))) (.kb rfl jm.bgs (.ks .nil))))) ?_;obtain⟨a5,L,g14⟩:=bnd g14;obtain⟨x31,a6,g14⟩:=bnd g14;obtain⟨G,O,g14⟩:=bnd g14;refine gq fol [7,8,9,10] (kH w (qh (qh d a j) f r) (kA6 e (kAk q))) (bg encI (qh (qh d a j) f r)::(kA G [])) (ac (hs (.done (.opt (qa ZT 22 (.gslice 1 e.length 1) (.i (w64 (k-1))))) (.ptr 1 ((w64 (k-1):Int).toNat*1+0))) (zh qO B)) (ac (hs (.run [1] (qC ZT 3 (.ptr 1 ((w64 (k-1):Int).toNat*1+0)) (.i f)) (bg encI (qh (qh d a j) f r)::(kA e [])) .undef (bg encI (qh (qh d a j) f r)::(kA a5 [])) true) (jX (E:=encI) (l:=e) (y:=f) rfl (show _=some 1 by kernel_rfl) rfl B rfl rfl rfl rfl rfl L rfl)) (ac (hs (.done (.opt (qa ZT 22 (.gslice 1 e.length 1) (.i k))) (.ptr 1 ((k:Int).toNat*1+0))) (zh qO H)) (ac (hs (.run [1] (qC ZT 3 (.ptr 1 ((k:Int).toNat*1+0)) (.i a)) (bg encI (qh (qh d a j) f r)::(kA a5 [])) .undef (bg encI (qh (qh d a j) f r)::(kA G [])) true) (jX (E:=encI) (l:=a5) (y:=a) rfl (show _=some 1 by kernel_rfl) rfl a6 rfl rfl rfl rfl rfl O rfl)) az)))) ?_;refine Goes.sub (show Sub (ofG 92 (kH w (qh (qh d a j) f r) (kA6 e (kAk q))),(bg encI (qh (qh d a j) f r)::(kA G []))) (ofG 92 (kH w (qh (qh d a j) f r) (kA6 G (kAk q))),(bg encI (qh (qh d a j) f r)::(kA G [])))from(Uc [] [some 0,some 1] rfl rfl (.keep (.same (qg encI _)) (.keep (.gslice rfl) (.keep (.gsliceE rfl ((qZ L).trans (qZ O))) (.keep (.same nI) .nil)))) (.kb rfl jm.bgs (.ks .nil)))) ?_;refine gh fol (kH w (qh (qh d a j) f r) (kA6 G (kAk (w64 (q+1))))) ?_;exact⟨M,(ofG 92 (kH w (qh (qh d a j) f r) (kA6 G (kAk (w64 (q+1))))),(bg encI (qh (qh d a j) f r)::(kA G []))),Nat.lt_succ_self _,(Sub.refl _),_,_,_,rfl,g14⟩
   refine Goes.exit ?_;obtain rfl:=si g14;exact⟨rfl,_,rfl,(Uc [] [some 0] rfl rfl (.drop (.keep (.gslice rfl) .nil)) (.kb rfl jm.bgs .nil))⟩
 rintro x s' ⟨rfl,F,rfl,hsub⟩;refine Goes.sub hsub ?_;refine sh fol [(4,.gslice 0 F.length 1)] ?_;refine Goes.sub (s':=(ofG 92 [(4,.gslice 0 F.length 1)],[.frozen (F.flatMap (qf encI).c)])) (Uz (E:=encI) (b:=0) rfl) ?_;refine Goes.ret ?_;obtain rfl:=si h;exact(gw2 [.gslice 0 F.length 1] (Ut (Fz.gsF (E:=(qf encI)) rfl rfl (nl rfl))))
def vJ (b:Str):Nat->Int->Option (Unit⊕Int)
 |0,_=>none
 |K+1,a=>
  if a<(b.length:Int)then
  (idx b a).bind fun c=>
  if(c.toNat:Int)=47 then
  some (.inr a)
  else
  vJ b K (w64 (a+1))
  else
  some (.inl ())
def qbI (N:Nat) (a:Str):Option Int:=
 (vJ a N 0).bind (fun
 |(.inl ())=>
 some (a.length:Int)
 |(.inr b)=>
 some b)
theorem qfC (N:Nat) (a:Str) {res:Int} (h:qbI N a=some res):qc ZT (.fn 204) [.str a] [] (.i res) []:=by
 unfold qbI at h;refine Ub Tryz.func204 rfl rfl (m:=17) rfl (rs:=[.tmp 2]) rfl (l:=(kBf a)) rfl ?_;refine sh fol (kBf a) ?_;refine sq ?_;refine sh fol [(0,.str a),(3,.i 0)] ?_;refine Goes.block ?_;obtain⟨d,g2,h⟩:=bnd h;refine Goes.imp (Q:=fun x s'=>(x= .exit 0/\(.inl ())=d/\Sub s' (ofG 17 (kBf a),[]))\/(x= .ret/\ ∃e,(.inr e)=d/\zo ZT [.tmp 2] (.i e) .ret s')) ?_ ?_
 ·refine Ud (fun M s=> ∃(b:Int),s=(ofG 17 [(0,.str a),(3,.i b)],[])/\vJ a M b=some d) ?_ (m:=N) ⟨_,rfl,g2⟩;rintro M s ⟨b,rfl,g2⟩
  cases M with
  |zero=>simp only[vJ]at g2;cases g2
  |succ M=>
   rw[vJ]at g2;refine sq ?_;refine sh fol [(0,.str a),(3,.i b),(7,.bool (decide (b<(a.length:Int))))] ?_;refine ihD g2 (fun g g2=>?_) (fun g g2=>?_)
   ·refine Goes.skip ?_;refine sq (Goes.block ?_);obtain⟨f,c,g2⟩:=bnd g2;refine sq (gr fol [2] ((0,.str a)::(3,.i b)::(kBL (decide ((f.toNat:Int)=47)))) (ac (hs (.done (.opt (qdD ZT 9 (.str a) (.i b))) (.int .u8 (f.toNat:Int))) (qjB st9 c)) az) ?_);refine ihD g2 (fun j g2=>?_) (fun j g2=>?_)
    ·refine sh fol [(2,.i b)] ?_;refine Goes.ret ?_;obtain rfl:=si g2;exact Or.inr (⟨rfl,_,rfl,(gw2 [.i b] (Ua tI))⟩)
    refine Goes.skip ?_;refine gh fol [(0,.str a),(3,.i (w64 (b+1)))] ?_;exact⟨M,(ofG 17 [(0,.str a),(3,.i (w64 (b+1)))],[]),Nat.lt_succ_self _,(Sub.refl _),_,rfl,g2⟩
   refine Goes.exit ?_;obtain rfl:=si g2;exact Or.inl (⟨rfl,rfl,(Sub.keep [0] rfl rfl)⟩)
 rintro x s' (⟨rfl,rfl,hsub⟩|⟨rfl,k,rfl,hret⟩)
 ·try dsimp only at h
  refine Goes.sub hsub ?_;refine sh fol [(2,.i (a.length:Int))] ?_;refine Goes.ret ?_;obtain rfl:=si h;exact(gw2 [.i (a.length:Int)] (Ua tI))
 try dsimp only at h
 obtain rfl:=si h;exact hret
def vL (a:Str):Nat->Int->Int->Option Int
 |0,_,_=>none
 |K+1,c,b=>
  if b<(a.length:Int)then
  (idx a b).bind fun d=>
  vL a K (w64 ((w64 ((w64 (10*c))+(w64 (d.toNat:Int))))-48)) (w64 (b+1))
  else
  some c
def yZ (N:Nat) (a:Str):Option Int:=
 (vL a N 0 0).bind fun b=>
 some b
theorem qca (N:Nat) (a:Str) {res:Int} (h:yZ N a=some res):qc ZT (.fn 207) [.str a] [] (.i res) []:=by
 unfold yZ at h;refine Ub Tryz.func207 rfl rfl (m:=20) rfl (rs:=[.tmp 2]) rfl (l:=(kBf a)) rfl ?_;refine sh fol (kBf a) ?_;refine sh fol [(0,.str a),(3,.i 0)] ?_;refine sq ?_;refine sh fol ((0,.str a)::(3,.i 0)::kBV) ?_;refine Goes.block ?_;obtain⟨g,g4,h⟩:=bnd h;refine Goes.imp (Q:=fun x s'=>(x= .exit 0/\ ∃d,d=g/\Sub s' (ofG 20 [(3,.i d)],[]))) ?_ ?_
 ·refine Ud (fun M s=> ∃(c:Int) (b:Int),s=(ofG 20 ((0,.str a)::(3,.i c)::(kAd b)),[])/\vL a M c b=some g) ?_ (m:=N) ⟨_,_,rfl,g4⟩;rintro M s ⟨c,b,rfl,g4⟩
  cases M with
  |zero=>simp only[vL]at g4;cases g4
  |succ M=>
   rw[vL]at g4;refine sq ?_;refine sh fol ((0,.str a)::(3,.i c)::(4,.i b)::(kBb (decide (b<(a.length:Int))))) ?_;refine ihD g4 (fun j g4=>?_) (fun j g4=>?_)
   ·refine Goes.skip ?_;refine sq (Goes.block ?_);obtain⟨f,e,g4⟩:=bnd g4;refine gr fol [4] ((0,.str a)::(3,.i (w64 ((w64 ((w64 (10*c))+(w64 (f.toNat:Int))))-48)))::(kAd b)) (ac (hs (.done (.opt (qdD ZT 9 (.str a) (.i b))) (.int .u8 (f.toNat:Int))) (qjB st9 e)) az) ?_;refine gh fol ((0,.str a)::(3,.i (w64 ((w64 ((w64 (10*c))+(w64 (f.toNat:Int))))-48)))::(kAd (w64 (b+1)))) ?_;exact⟨M,(ofG 20 ((0,.str a)::(3,.i (w64 ((w64 ((w64 (10*c))+(w64 (f.toNat:Int))))-48)))::(kAd (w64 (b+1)))),[]),Nat.lt_succ_self _,(Sub.refl _),_,_,rfl,g4⟩
   refine Goes.exit ?_;obtain rfl:=si g4;exact⟨rfl,_,rfl,(Sub.keep [3] rfl rfl)⟩
 rintro x s' ⟨rfl,d,rfl,hsub⟩;refine Goes.sub hsub ?_;refine sh fol [(2,.i d)] ?_;refine Goes.ret ?_;obtain rfl:=si h;exact(gw2 [.i d] (Ua tI))
def vG (N:Nat) (a:Str):Option (Int×Int×Bool):=
 if(a.length:Int)>20 then
 some (0,0,false)
 else
 (if(a.length:Int)>0 then
 (idx a 0).bind fun l=>
 some (decide ((l.toNat:Int)=45))
 else
 some false:Option Bool).bind fun k=>
 ((if k=true then
 (cut a 1 (a.length:Int)).bind fun m=>
 some m
 else
 some a:Option Str)).bind fun c=>
 (qbI N c).bind fun b=>
 (if b>9 then
 some true
 else
 some (decide ((w64 ((c.length:Int)-b))>10)):Option Bool).bind fun e=>
 if e=true then
 some (0,0,false)
 else
 (cut c 0 b).bind fun f=>
 (yZ N f).bind fun d=>
 ((if b<(c.length:Int)then
 (cut c (w64 (b+1)) (c.length:Int)).bind fun g=>
 (yZ N g).bind fun h=>
 some h
 else
 some 1:Option Int)).bind fun i=>
 ((if k=true then
 some (w64 (0-d))
 else
 some d:Option Int)).bind fun j=>
 some (j,i,true)
theorem qbU (N:Nat) (a:Str) {res:Int×Int×Bool} (h:vG N a=some res):qc ZT (.fn 155) [.str a] [] (.tuple [.i res.1,.i res.2.1,.bool res.2.2]) []:=by
 unfold vG at h;refine Ub Tryz.func155 rfl rfl (m:=54) rfl (rs:=[.tmp 2,.tmp 3,.tmp 4]) rfl (l:=(kBf a)) rfl ?_;refine sh fol (kBf a) ?_;refine sh fol [(5,.str a)] ?_;refine sq ?_;refine sh fol ((5,.str a)::(kBL (decide ((a.length:Int)>20)))) ?_;refine ihD h (fun I h=>?_) (fun I h=>?_)
 ·refine sh fol ((2,.i 0)::(3,.i 0)::kAP) ?_;refine Goes.ret ?_;obtain rfl:=si h;exact(gw2 [.i 0,.i 0,.bool false] (FzW.tuple (qm.cons (Ua tI) (qm.cons (Ua tI) (qm.cons (Ua tB) qm.nil)))))
 refine Goes.skip ?_;refine sq ?_;obtain⟨f,c,h⟩:=bnd h;refine Goes.cut (s':=(ofG 54 (kBN a f []),[])) ?_ ?_
 ·rcases wyD c with⟨y,c⟩|⟨y,c⟩
  ·obtain⟨G,t,c⟩:=bnd c;obtain rfl:=si c;exact tr fol [3,5] (kBN a (decide ((G.toNat:Int)=45)) []) (ac (gw y) (ac (hs (.done (.opt (qdD ZT 9 (.str a) (.i 0))) (.int .u8 (G.toNat:Int))) (qjB st9 t)) az))
  obtain rfl:=si c;exact tr fol [3] ((5,.str a)::kAu) (ac (gw y) az)
 refine sq ?_;refine sh fol (kBN a f [(22,.bool f)]) ?_;obtain⟨J,g7,h⟩:=bnd h;refine Goes.imp (Q:=fun x s'=>(x= .normal/\ ∃g,g=J/\Sub s' (ofG 54 (kBN g f []),[]))) ?_ ?_
 ·refine ihB g7 (fun K g7=>?_) (fun K g7=>?_)
  ·obtain⟨H,u,g7⟩:=bnd g7;refine gr fol [1] (kBN H f []) (ac (hs (.done (.opt (zD ZT 9 (.str a) (some (.i 1)) none none)) (.str H)) (qdZ st9 (some 1) none u)) az) ?_;obtain rfl:=si g7;exact⟨rfl,_,rfl,(Sub.refl _)⟩
  refine Goes.skip ?_;obtain rfl:=si g7;exact⟨rfl,_,rfl,(Sub.keep [5,6] rfl rfl)⟩
 rintro x s' ⟨rfl,g,rfl,hsub⟩;refine Goes.sub hsub ?_;obtain⟨b,n,h⟩:=bnd h;refine sq (gr fol [1] (kBN g f [(7,.i b)]) (ac (cv (qfC N g n)) az) ?_);refine sq ?_;refine sq ?_;obtain⟨z,d,h⟩:=bnd h;refine Goes.cut (s':=(ofG 54 (kBN g f [(7,.i b),(35,.bool z)]),[])) ?_ ?_
 ·rcases wyD d with⟨o,d⟩|⟨o,d⟩
  ·obtain rfl:=si d;exact tr fol [2] (kBN g f [(7,.i b),(35,.bool true)]) (ac (gw o) az)
  obtain rfl:=si d;exact tr fol [2] (kBN g f [(7,.i b),(35,.bool (decide ((w64 ((g.length:Int)-b))>10)))]) (ac (gw o) az)
 refine ihB h (fun A h=>?_) (fun A h=>?_)
 ·refine sh fol ((2,.i 0)::(3,.i 0)::kAP) ?_;refine Goes.ret ?_;obtain rfl:=si h;exact(gw2 [.i 0,.i 0,.bool false] (FzW.tuple (qm.cons (Ua tI) (qm.cons (Ua tI) (qm.cons (Ua tB) qm.nil)))))
 refine Goes.skip ?_;obtain⟨v,p,h⟩:=bnd h;obtain⟨j,q,h⟩:=bnd h;refine sq (gr fol [2,3] (kBN g f [(7,.i b),(8,.i j),(9,.i 1)]) (ac (hs (.done (.opt (zD ZT 9 (.str g) none (some (.i b)) none)) (.str v)) (qdZ st9 none (some b) p)) (ac (cv (qca N v q)) az)) ?_);refine sq ?_;refine sh fol (kBN g f [(7,.i b),(8,.i j),(9,.i 1),(43,.bool (decide (b<(g.length:Int))))]) ?_;obtain⟨B,g18,h⟩:=bnd h;refine Goes.imp (Q:=fun x s'=>(x= .normal/\ ∃e,e=B/\Sub s' (ofG 54 ((6,.bool f)::(kAf j e [])),[]))) ?_ ?_
 ·refine ihD g18 (fun C g18=>?_) (fun C g18=>?_)
  ·obtain⟨w,r,g18⟩:=bnd g18;obtain⟨D,s,g18⟩:=bnd g18;refine gr fol [3,4] ((6,.bool f)::(kAf j D [])) (ac (hs (.done (.opt (zD ZT 9 (.str g) (some (.i (w64 (b+1)))) none none)) (.str w)) (qdZ st9 (some (w64 (b+1))) none r)) (ac (cv (qca N w s)) az)) ?_;obtain rfl:=si g18;exact⟨rfl,_,rfl,(Sub.refl _)⟩
  refine Goes.skip ?_;obtain rfl:=si g18;exact⟨rfl,_,rfl,(Sub.keep [6,8,9] rfl rfl)⟩
 rintro x s' ⟨rfl,e,rfl,hsub⟩;refine Goes.sub hsub ?_;refine sq ?_;refine sh fol (kAf j e [(49,.bool f)]) ?_;obtain⟨E,g23,h⟩:=bnd h;refine Goes.imp (Q:=fun x s'=>(x= .normal/\ ∃k,k=E/\Sub s' (ofG 54 (kAf k e []),[]))) ?_ ?_
 ·refine ihB g23 (fun F g23=>?_) (fun F g23=>?_)
  ·refine gh fol (kAf (w64 (0-j)) e []) ?_;obtain rfl:=si g23;exact⟨rfl,_,rfl,(Sub.refl _)⟩
  refine Goes.skip ?_;obtain rfl:=si g23;exact⟨rfl,_,rfl,(Sub.keep [8,9] rfl rfl)⟩
 rintro x s' ⟨rfl,k,rfl,hsub⟩;refine Goes.sub hsub ?_;refine sh fol ((2,.i k)::(3,.i e)::kAw) ?_;refine Goes.ret ?_;obtain rfl:=si h;exact(gw2 [.i k,.i e,.bool true] (FzW.tuple (qm.cons (Ua tI) (qm.cons (Ua tI) (qm.cons (Ua tB) qm.nil)))))
def jI (a:List Int) (b:List Int):Nat->Int->Option (Unit⊕Int)
 |0,_=>none
 |K+1,c=>
  if c>=0 then
  (idx a c).bind fun d=>
  (idx b c).bind fun e=>
  if d<e then
  some (.inr (-1))
  else
  if d>e then
  some (.inr 1)
  else
  jI a b K (w64 (c-1))
  else
  some (.inl ())
def qbj (N:Nat) (a:List Int) (b:List Int):Option Int:=
 if(!decide ((a.length:Int)=(b.length:Int)))=true then
 if(a.length:Int)<(b.length:Int)then
 some (-1)
 else
 some 1
 else
 (jI a b N (w64 ((a.length:Int)-1))).bind (fun
 |(.inl ())=>
 some 0
 |(.inr c)=>
 some c)
theorem qeV (N:Nat) (a:List Int) (b:List Int) {res:Int} (h:qbj N a b=some res):qc ZT (.fn 217) (vl encI a::(kAq b)) [] (.i res) []:=by
 unfold qbj at h;refine Ub Tryz.func217 rfl rfl (m:=41) rfl (rs:=[.tmp 4]) rfl (l:=(kJ a b [])) rfl ?_;refine sh fol (kJ a b []) ?_;refine sq ?_;refine sh fol (kJ a b (kAv (!decide ((a.length:Int)=(b.length:Int))))) ?_;refine ihB h (fun o h=>?_) (fun o h=>?_)
 ·refine sq ?_;refine sh fol [(15,.bool (decide ((a.length:Int)<(b.length:Int))))] ?_;refine ihD h (fun p h=>?_) (fun p h=>?_)
  ·refine sh fol [(4,.i (-1))] ?_;refine Goes.ret ?_;obtain rfl:=si h;exact(gw2 [.i (-1)] (Ua tI))
  refine Goes.skip ?_;refine sh fol [(4,.i 1)] ?_;refine Goes.ret ?_;obtain rfl:=si h;exact(gw2 [.i 1] (Ua tI))
 refine Goes.skip ?_;refine sq ?_;refine sh fol (kJ a b (kBA (w64 ((a.length:Int)-1)))) ?_;refine Goes.block ?_;obtain⟨f,g4,h⟩:=bnd h;refine Goes.imp (Q:=fun x s'=>(x= .exit 0/\(.inl ())=f/\Sub s' (ofG 41 [],[]))\/(x= .ret/\ ∃j,(.inr j)=f/\zo ZT [.tmp 4] (.i j) .ret s')) ?_ ?_
 ·refine Ud (fun M s=> ∃(e:Int),s=(ofG 41 (kJ a b (kBA e)),[])/\jI a b M e=some f) ?_ (m:=N) ⟨_,rfl,g4⟩;rintro M s ⟨e,rfl,g4⟩
  cases M with
  |zero=>simp only[jI]at g4;cases g4
  |succ M=>
   rw[jI]at g4;refine sq ?_;refine sh fol (kJ a b [(5,.i e),(20,.bool (decide (e>=0)))]) ?_;refine ihD g4 (fun q g4=>?_) (fun q g4=>?_)
   ·refine Goes.skip ?_;refine sq (Goes.block ?_);refine sq ?_;obtain⟨k,c,g4⟩:=bnd g4;obtain⟨n,d,g4⟩:=bnd g4;refine sq (gr fol [2,3,6,7] (kJ a b [(5,.i e),(31,.bool (decide (k<n)))]) (ac (iv qO encI c) (ac (lv 0 ce3 encI c rfl) (ac (iv qO encI d) (ac (lv 0 ce3 encI d rfl) az)))) ?_);refine ihD g4 (fun r g4=>?_) (fun r g4=>?_)
    ·refine sh fol [(4,.i (-1))] ?_;refine Goes.ret ?_;obtain rfl:=si g4;exact Or.inr (⟨rfl,_,rfl,(gw2 [.i (-1)] (Ua tI))⟩)
    refine Goes.skip ?_;refine sq (gr fol [2,3,6,7] (kJ a b [(5,.i e),(40,.bool (decide (k>n)))]) (ac (iv qO encI c) (ac (lv 0 ce3 encI c rfl) (ac (iv qO encI d) (ac (lv 0 ce3 encI d rfl) az)))) ?_);refine ihD g4 (fun g g4=>?_) (fun g g4=>?_)
    ·refine sh fol [(4,.i 1)] ?_;refine Goes.ret ?_;obtain rfl:=si g4;exact Or.inr (⟨rfl,_,rfl,(gw2 [.i 1] (Ua tI))⟩)
    refine Goes.skip ?_;refine gh fol (kJ a b (kBA (w64 (e-1)))) ?_;exact⟨M,(ofG 41 (kJ a b (kBA (w64 (e-1)))),[]),Nat.lt_succ_self _,(Sub.refl _),_,rfl,g4⟩
   refine Goes.exit ?_;obtain rfl:=si g4;exact Or.inl (⟨rfl,rfl,(Sub.keep [] rfl rfl)⟩)
 rintro x s' (⟨rfl,rfl,hsub⟩|⟨rfl,t,rfl,hret⟩)
 ·try dsimp only at h
  refine Goes.sub hsub ?_;refine sh fol kBV ?_;refine Goes.ret ?_;obtain rfl:=si h;exact(gw2 [.i 0] (Ua tI))
 try dsimp only at h
 obtain rfl:=si h;exact hret
def qbm:Nat->(List Int)->Option (List Int)
 |0,_=>none
 |K+1,a=>
  (if(a.length:Int)>0 then
  (idx a (w64 ((a.length:Int)-1))).bind fun b=>
  some (decide (b=0))
  else
  some false:Option Bool).bind fun c=>
  if c=true then
  (cut a 0 (w64 ((a.length:Int)-1))).bind fun d=>
  qbm K d
  else
  some a
def qdm (N:Nat) (w:List Int):Option (List Int):=
 (qbm N w).bind fun a=>
 some a
theorem qdY (N:Nat) (w:List Int) {res:List Int} (h:qdm N w=some res):qc ZT (.fn 270) [vl encI w] [] (vl encI res) []:=by
 unfold qdm at h;refine Ub Tryz.func270 rfl rfl (m:=21) rfl (rs:=[.tmp 2]) rfl (l:=(kX w [])) rfl ?_;refine sh fol (kX w []) ?_;refine sq (Goes.block ?_);obtain⟨j,g3,h⟩:=bnd h;refine Goes.imp (Q:=fun x s'=>(x= .exit 0/\ ∃d,d=j/\Sub s' (ofG 21 (kX d []),[]))) ?_ ?_
 ·refine Ud (fun M s=> ∃(b:List Int),s=(ofG 21 (kX b []),[])/\qbm M b=some j) ?_ (m:=N) ⟨_,rfl,g3⟩;rintro M s ⟨b,rfl,g3⟩
  cases M with
  |zero=>simp only[qbm]at g3;cases g3
  |succ M=>
   rw[qbm]at g3;refine sq ?_;refine sq ?_;obtain⟨k,a,g3⟩:=bnd g3;refine Goes.cut (s':=(ofG 21 (kX b (kBK k)),[])) ?_ ?_
   ·rcases wyD a with⟨f,a⟩|⟨f,a⟩
    ·obtain⟨n,c,a⟩:=bnd a;obtain rfl:=si a;exact tr fol [3,8,9] (kX b (kBK (decide (n=0)))) (ac (gw f) (ac (iv qO encI c) (ac (lv 0 ce3 encI c rfl) az)))
    obtain rfl:=si a;exact tr fol [3] (kX b [(14,.bool false)]) (ac (gw f) az)
   refine ihB g3 (fun o g3=>?_) (fun o g3=>?_)
   ·refine Goes.skip ?_;refine Goes.block ?_;obtain⟨g,e,g3⟩:=bnd g3;refine gr fol [4] (kX g []) (ac (hs (.done (.opt (zD ZT 22 (vl encI b) none (some (.i (w64 ((b.length:Int)-1)))) none)) (vl encI g)) (qh5 qO (E:=encI) rfl none (some (w64 ((b.length:Int)-1))) e)) az) ?_;exact⟨M,(ofG 21 (kX g []),[]),Nat.lt_succ_self _,(Sub.refl _),_,rfl,g3⟩
   refine Goes.exit ?_;obtain rfl:=si g3;exact⟨rfl,_,rfl,(Sub.keep [0] rfl rfl)⟩
 rintro x s' ⟨rfl,d,rfl,hsub⟩;refine Goes.sub hsub ?_;refine sh fol (kBT d []) ?_;refine Goes.ret ?_;obtain rfl:=si h;exact(gw2 [vl encI d] (Ua (qx encI _ (nl rfl))))
def yY (a:List Int) (d:Int):Nat->(List Int)->Int->Int->Option ((List Int)×Int)
 |0,_,_,_=>none
 |K+1,c,e,b=>
  if b>=0 then
  (idx a b).bind fun i=>
  (qjz .i64 (w64 ((w64 (e*1000000000))+i)) d).bind fun f=>
  (idx c b).bind fun j=>
  (put c b f).bind fun g=>
  (qlr .i64 (w64 ((w64 (e*1000000000))+i)) d).bind fun h=>
  yY a d K g h (w64 (b-1))
  else
  some (c,e)
def qdC (N:Nat) (a:List Int) (d:Int):Option ((List Int)×Int):=
 (mk 8 (a.length:Int) 0).bind fun c=>
 (yY a d N c 0 (w64 ((a.length:Int)-1))).bind fun(e,f)=>
 (qdm N e).bind fun b=>
 some (b,f)
theorem qha (N:Nat) (a:List Int) (d:Int) {res:(List Int)×Int} (h:qdC N a d=some res):qc ZT (.fn 269) (kBc a d) [] (.tuple (kBc res.1 res.2)) []:=by
 unfold qdC at h;refine Ub Tryz.func269 rfl rfl (m:=39) rfl (rs:=[.tmp 4,.tmp 5]) rfl (l:=(kX a [(1,.i d)])) rfl ?_;refine sh fol (kX a [(1,.i d)]) ?_;obtain⟨q,B,h⟩:=bnd h;refine sq (gq fol [2] (kX a (kAH d q [])) (kA q []) (ac (hs (.run [] (jv ZT 22 (.i (a.length:Int)) (.i (a.length:Int))) [] (.slice 0 0 q.length q.length 1) (kA q []) false) (qd3 qO (E:=encI) (z:=0) rfl (by kernel_rfl) B rfl)) az) ?_);refine sh fol (kX a (kAH d q [(7,.i 0)])) ?_;refine sq ?_;refine sh fol (kX a (kAH d q ((7,.i 0)::(kAk (w64 ((a.length:Int)-1)))))) ?_;refine Goes.block ?_;obtain⟨C,g7,h⟩:=bnd h;refine Goes.imp (Q:=fun x s'=>(x= .exit 0/\ ∃e r,(e,r)=C/\Sub s' (ofG 39 [(6,.slice 0 0 e.length e.length 1),(7,.i r)],(kA e [])))) ?_ ?_
 ·refine Ud (fun M s=> ∃(f:List Int) (n:Int) (c:Int),s=(ofG 39 (kX a (kAH d f ((7,.i n)::(kAk c)))),(kA f []))/\yY a d M f n c=some C) ?_ (m:=N) ⟨_,_,_,rfl,g7⟩;rintro M s ⟨f,n,c,rfl,g7⟩
  cases M with
  |zero=>simp only[yY]at g7;cases g7
  |succ M=>
   rw[yY]at g7;refine sq ?_;refine sh fol (kX a (kAH d f [(7,.i n),(8,.i c),(17,.bool (decide (c>=0)))])) ?_;refine ihD g7 (fun D g7=>?_) (fun D g7=>?_)
   ·refine Goes.skip ?_;refine sq (Goes.block ?_);obtain⟨A,p,g7⟩:=bnd g7;refine sq (gr fol [4,5] (kX a (kAH d f (kAf c (w64 ((w64 (n*1000000000))+A)) []))) (ac (iv qO encI p) (ac (lv 0 ce3 encI p rfl) az)) ?_);obtain⟨t,u,g7⟩:=bnd g7;obtain⟨F,g,g7⟩:=bnd g7;obtain⟨b,j,g7⟩:=bnd g7;refine sq (gq fol [4,5,6] (kX a (kAH d f (kAf c (w64 ((w64 (n*1000000000))+A)) []))) (kA b []) (ac (hs (.done (.opt (vE ZT .quo 3 (.tmp 29) (.tmp 30) (.i (w64 ((w64 (n*1000000000))+A))) (.i d))) (.i t)) (qhm u)) (ac (hs (.done (.opt (qa ZT 22 (.slice 0 0 f.length f.length 1) (.i c))) (.ptr 0 ((c:Int).toNat*1+0))) (ym qO g)) (ac (hs (.run [0] (qC ZT 3 (.ptr 0 ((c:Int).toNat*1+0)) (.i t)) (kA f []) .undef (kA b []) true) (jX (E:=encI) (l:=f) (y:=t) rfl (show _=some 1 by kernel_rfl) rfl g rfl rfl rfl rfl rfl j rfl)) az))) ?_);refine Goes.sub (show Sub (ofG 39 (kX a (kAH d f (kAf c (w64 ((w64 (n*1000000000))+A)) []))),(kA b [])) (ofG 39 (kX a (kAH d b (kAf c (w64 ((w64 (n*1000000000))+A)) []))),(kA b []))from(Uc [] [some 0] rfl rfl (.keep (.same (qg encI _)) (.keep (.same nI) (.keep (.sliceE rfl (qZ j)) (.keep (.same nI) (.keep (.same nI) .nil))))) (.ks .nil))) ?_;obtain⟨o,v,g7⟩:=bnd g7;refine gr fol [2] (kX a (kAH d b ((7,.i o)::(kAk c)))) (ac (hs (.done (.opt (vE ZT .rem 3 (.tmp 33) (.tmp 34) (.i (w64 ((w64 (n*1000000000))+A))) (.i d))) (.i o)) (qk8 v)) az) ?_;refine gh fol (kX a (kAH d b ((7,.i o)::(kAk (w64 (c-1)))))) ?_;exact⟨M,(ofG 39 (kX a (kAH d b ((7,.i o)::(kAk (w64 (c-1)))))),(kA b [])),Nat.lt_succ_self _,(Sub.refl _),_,_,_,rfl,g7⟩
   refine Goes.exit ?_;obtain rfl:=si g7;exact⟨rfl,_,_,rfl,(Sub.keep [6,7] rfl rfl)⟩
 rintro x s' ⟨rfl,e,r,rfl,hsub⟩
 try dsimp only at h
 refine Goes.sub hsub ?_;obtain⟨k,w,h⟩:=bnd h;refine sq (gq fol [1] ((4,vl encI k)::(kBA r)) (kAn e []) (ac (hs (.callF 270 [.slice 0 0 e.length e.length 1] (kA e []) [0] [vl encI e] (vl encI k)) (qhz (FzL.cons (Fz.sl (E:=encI) rfl rfl (nl rfl)) FzL.nil) (qdY N e w) (qx encI _ (nl rfl)))) az) ?_);refine Goes.sub (show Sub (ofG 39 ((4,vl encI k)::(kBA r)),(kAn e [])) (ofG 39 ((4,vl encI k)::(kBA r)),[])from(Uc [] [] rfl rfl (.keep (.same (qg encI _)) (.keep (.same nI) .nil)) .nil)) ?_;refine Goes.ret ?_;obtain rfl:=si h;exact(gw2 (kBc k r) (FzW.tuple (qm.cons (Ua (qx encI _ (nl rfl))) (qm.cons (Ua tI) qm.nil))))
def qar (N:Nat) (a:List Int) (b:List Int):Option ((List Int)×(List Int)):=
 (qbj N a b).bind fun d=>
 if d<0 then
 some ([],a)
 else
 if(b.length:Int)=1 then
 (idx b 0).bind fun e=>
 (qdC N a e).bind fun c=>
 (qdm N ([c.2]:List Int)).bind fun f=>
 some (c.1,f)
 else
 (idx b (w64 ((b.length:Int)-1))).bind fun g=>
 (qjz .i64 1000000000 (w64 (g+1))).bind fun h=>
 none
theorem qbz (N:Nat) (a:List Int) (b:List Int) {res:(List Int)×(List Int)} (h:qar N a b=some res):qc ZT (.fn 213) (vl encI a::(kAq b)) [] (.tuple (vl encI res.1::(kAq res.2))) []:=by
 unfold qar at h;refine Ub Tryz.func213 rfl rfl (m:=206) rfl (rs:=[.tmp 4,.tmp 5]) rfl (l:=(kJ a b [])) rfl ?_;refine sh fol (kJ a b []) ?_;refine sq ?_;obtain⟨p,f,h⟩:=bnd h;refine sq (gr fol [2] (kJ a b [(27,.bool (decide (p<0)))]) (ac (cv (qeV N a b f)) az) ?_);refine ihD h (fun q h=>?_) (fun q h=>?_)
 ·refine sh fol [(4,.nilslice),(5,vl encI a)] ?_;refine Goes.ret ?_;obtain rfl:=si h;exact(gw2 (.nilslice::(kAq a)) (FzW.tuple (qm.cons (FzW.nilv (E:=encI)) (qm.cons (Ua (qx encI _ (nl rfl))) qm.nil))))
 refine Goes.skip ?_;refine sq ?_;refine sh fol (kJ a b [(31,.bool (decide ((b.length:Int)=1)))]) ?_;refine ihD h (fun r h=>?_) (fun r h=>?_)
 ·obtain⟨s,d,h⟩:=bnd h;obtain⟨c,g,h⟩:=bnd h;refine sq (gr fol [2,3,4] (kBa c.1 c.2 []) (ac (iv qO encI d) (ac (lv 0 ce3 encI d rfl) (ac (cv (qha N a s g)) az))) ?_);obtain⟨j,k,h⟩:=bnd h;refine sq (gq fol [3] [(4,vl encI c.1),(5,vl encI j)] [.frozen [.i c.2]] (ac (hs (.callF 270 [.slice 0 0 1 1 1] [.cells [.i c.2]] [0] [vl encI ([c.2]:List Int)] (vl encI j)) (qhz (FzL.cons (Fz.lit rfl rfl (Uj (AllST.cons tI AllST.nil))) FzL.nil) (qdY N ([c.2]:List Int) k) (qx encI _ (nl rfl)))) az) ?_);refine Goes.sub (show Sub (ofG 206 [(4,vl encI c.1),(5,vl encI j)],[.frozen [.i c.2]]) (ofG 206 [(4,vl encI c.1),(5,vl encI j)],[])from(Uc [] [] rfl rfl (.keep (.same (qg encI _)) (.keep (.same (qg encI _)) .nil)) .nil)) ?_;refine Goes.ret ?_;obtain rfl:=si h;exact(gw2 (vl encI c.1::(kAq j)) (FzW.tuple (qm.cons (Ua (qx encI _ (nl rfl))) (qm.cons (Ua (qx encI _ (nl rfl))) qm.nil))))
 refine Goes.skip ?_;obtain⟨t,e,h⟩:=bnd h;obtain⟨o,n,h⟩:=bnd h;refine sq (gq fol [4,5,7] (kJ a b [(8,.slice 0 0 1 1 1)]) [.cells [.i o]] (ac (iv qO encI e) (ac (lv 0 ce3 encI e rfl) (ac (hs (.done (.opt (vE ZT .quo 3 (.const (.int .i64 1000000000)) (.tmp 50) (.i 1000000000) (.i (w64 (t+1))))) (.i o)) (qhm n)) az))) ?_);refine sq ?_;cases h
def qas (N:Nat):Nat->(List Int)->(List Int)->Option (List Int)
 |0,_,_=>none
 |K+1,b,a=>
  if(a.length:Int)>0 then
  (qar N b a).bind fun c=>
  qas N K a c.2
  else
  some b
def qeR (N:Nat) (a:List Int) (b:List Int):Option (List Int):=
 (qas N N a b).bind fun c=>
 some c
theorem qii (N:Nat) (a:List Int) (b:List Int) {res:List Int} (h:qeR N a b=some res):qc ZT (.fn 206) (vl encI a::(kAq b)) [] (vl encI res) []:=by
 unfold qeR at h;refine Ub Tryz.func206 rfl rfl (m:=19) rfl (rs:=[.tmp 4]) rfl (l:=(kJ a b [])) rfl ?_;refine sh fol (kJ a b []) ?_;refine sq (Goes.block ?_);obtain⟨i,g4,h⟩:=bnd h;refine Goes.imp (Q:=fun x s'=>(x= .exit 0/\ ∃d,d=i/\Sub s' (ofG 19 (kX d []),[]))) ?_ ?_
 ·refine Ud (fun M s=> ∃(e:List Int) (c:List Int),s=(ofG 19 (kJ e c []),[])/\qas N M e c=some i) ?_ (m:=N) ⟨_,_,rfl,g4⟩;rintro M s ⟨e,c,rfl,g4⟩
  cases M with
  |zero=>simp only[qas]at g4;cases g4
  |succ M=>
   rw[qas]at g4;refine sq ?_;refine sh fol (kJ e c [(9,.bool (decide ((c.length:Int)>0)))]) ?_;refine ihD g4 (fun j g4=>?_) (fun j g4=>?_)
   ·refine Goes.skip ?_;refine Goes.block ?_;obtain⟨g,f,g4⟩:=bnd g4;refine sq (gr fol [2] [(1,vl encI c),(6,vl encI g.2)] (ac (cv (qbz N e c f)) az) ?_);refine gh fol (kJ c g.2 []) ?_;exact⟨M,(ofG 19 (kJ c g.2 []),[]),Nat.lt_succ_self _,(Sub.refl _),_,_,rfl,g4⟩
   refine Goes.exit ?_;obtain rfl:=si g4;exact⟨rfl,_,rfl,(Sub.keep [0] rfl rfl)⟩
 rintro x s' ⟨rfl,d,rfl,hsub⟩;refine Goes.sub hsub ?_;refine sh fol [(4,vl encI d)] ?_;refine Goes.ret ?_;obtain rfl:=si h;exact(gw2 [vl encI d] (Ua (qx encI _ (nl rfl))))
def qaj (N:Nat) (neg:Bool) (w:List Int):Option zR:=
 (qdm N w).bind fun a=>
 (if neg=true then
 some (decide ((a.length:Int)>0))
 else
 some false:Option Bool).bind fun b=>
 some (⟨b,a⟩:zR)
theorem qau (N:Nat) (neg:Bool) (w:List Int) {res:zR} (h:qaj N neg w=some res):qc ZT (.fn 215) (.bool neg::(kAq w)) [] (.agg (.bool res.neg::(kAq res.w))) []:=by
 unfold qaj at h;refine Ub Tryz.func215 rfl rfl (m:=15) rfl (rs:=[.cell 4 184]) rfl (l:=[(0,.bool neg),(1,vl encI w)]) rfl ?_;refine sg fol ((0,.bool neg)::(1,vl encI w)::(kBM [])) (kY []) ?_;obtain⟨b,c,h⟩:=bnd h;refine sq (gr fol [1] ((0,.bool neg)::(1,vl encI b)::(kBM [])) (ac (cv (qdY N w c)) az) ?_);refine sq ?_;obtain⟨e,a,h⟩:=bnd h;refine Goes.cut (s':=(ofG 15 (kBM []),(kAF e b []))) ?_ ?_
 ·rcases wyB a with⟨d,a⟩|⟨d,a⟩
  ·obtain rfl:=si a;exact jQ.rq fol [1] (kBM []) (kAF (decide ((b.length:Int)>0)) b []) (ac (gw d) az)
  obtain rfl:=si a;exact jQ.rq fol [1] (kBM []) [.cells [.bool false,vl encI b]] (ac (gw d) az)
 refine Goes.ret ?_;obtain rfl:=si h;exact(gw2 [.agg (.bool e::(kAq b))] (FzW.agg (qm.cons (Ua tB) (qm.cons (Ua (qx encI _ (nl rfl))) qm.nil))))
def qdQ (N:Nat) (a:zR):Option zR:=
 (qaj N (!a.neg) a.w).bind fun b=>
 some b
theorem qfF (N:Nat) (a:zR) {res:zR} (h:qdQ N a=some res):qc ZT (.fn 212) [.agg (.bool a.neg::(kAq a.w))] [] (.agg (.bool res.neg::(kAq res.w))) []:=by
 unfold qdQ at h;refine Ub Tryz.func212 rfl rfl (m:=9) rfl (rs:=[.cell 2 184]) rfl (l:=[(0,.agg [.bool a.neg,vl encI a.w])]) rfl ?_;refine sg fol (kAc []) (kAF a.neg a.w (kY [])) ?_;obtain⟨c,b,h⟩:=bnd h;refine sq (gq fol [5] kBd (kAF a.neg a.w (kAF c.neg c.w [])) (ac (cv (qau N (!a.neg) a.w b)) az) ?_);refine Goes.ret ?_;obtain rfl:=si h;exact(gw2 [.agg (.bool c.neg::(kAq c.w))] (FzW.agg (qm.cons (Ua tB) (qm.cons (Ua (qx encI _ (nl rfl))) qm.nil))))
def kz (least:Int):Nat->Int->Str->Option Str
 |0,_,_=>none
 |K+1,a,b=>
  (if a>0 then
  some true
  else
  some (decide ((b.length:Int)<least)):Option Bool).bind fun d=>
  if d=true then
  (cut [48,49,50,51,52,53,54,55,56,57] (a.tmod 10) (w64 ((a.tmod 10)+1))).bind fun e=>
  (cat e b).bind fun c=>
  kz least K (w64 (a.tdiv 10)) c
  else
  some b
def yj (N:Nat) (n:Int) (least:Int):Option Str:=
 (kz least N n []).bind fun a=>
 some a
theorem qa5 (N:Nat) (n:Int) (least:Int) {res:Str} (h:yj N n least=some res):qc ZT (.fn 210) [.i n,.i least] [] (.str res) []:=by
 unfold yj at h;refine Ub Tryz.func210 rfl rfl (m:=25) rfl (rs:=[.tmp 4]) rfl (l:=(kAM n least [])) rfl ?_;refine sh fol (kAM n least []) ?_;refine sh fol (kAM n least [(5,.str [])]) ?_;refine sq (Goes.block ?_);obtain⟨k,g4,h⟩:=bnd h;refine Goes.imp (Q:=fun x s'=>(x= .exit 0/\ ∃f,f=k/\Sub s' (ofG 25 [(5,.str f)],[]))) ?_ ?_
 ·refine Ud (fun M s=> ∃(b:Int) (d:Str),s=(ofG 25 (kAM b least [(5,.str d)]),[])/\kz least M b d=some k) ?_ (m:=N) ⟨_,_,rfl,g4⟩;rintro M s ⟨b,d,rfl,g4⟩
  cases M with
  |zero=>simp only[kz]at g4;cases g4
  |succ M=>
   rw[kz]at g4;refine sq ?_;refine sq ?_;obtain⟨p,a,g4⟩:=bnd g4;refine Goes.cut (s':=(ofG 25 (kAM b least ((5,.str d)::(kBL p))),[])) ?_ ?_
   ·rcases wyD a with⟨j,a⟩|⟨j,a⟩
    ·obtain rfl:=si a;exact tr fol [2] (kAM b least [(5,.str d),(13,.bool true)]) (ac (gw j) az)
    obtain rfl:=si a;exact tr fol [2] (kAM b least ((5,.str d)::(kBL (decide ((d.length:Int)<least))))) (ac (gw j) az)
   refine ihB g4 (fun q g4=>?_) (fun q g4=>?_)
   ·refine Goes.skip ?_;refine Goes.block ?_;obtain⟨o,g,g4⟩:=bnd g4;obtain⟨c,e,g4⟩:=bnd g4;refine sq (gr fol [5,7] (kAM b least [(5,.str c)]) (ac (hs (.done (.opt (zD ZT 9 (.str [48,49,50,51,52,53,54,55,56,57]) (some (.i (b.tmod 10))) (some (.i (w64 ((b.tmod 10)+1)))) none)) (.str o)) (qdZ st9 (some (b.tmod 10)) (some (w64 ((b.tmod 10)+1))) g)) (ac (hs (.done (.opt (vE ZT .add 9 (.tmp 19) (.tmp 20) (.str o) (.str d))) (.str c)) (qcS e)) az)) ?_);refine gh fol (kAM (w64 (b.tdiv 10)) least [(5,.str c)]) ?_;exact⟨M,(ofG 25 (kAM (w64 (b.tdiv 10)) least [(5,.str c)]),[]),Nat.lt_succ_self _,(Sub.refl _),_,_,rfl,g4⟩
   refine Goes.exit ?_;obtain rfl:=si g4;exact⟨rfl,_,rfl,(Sub.keep [5] rfl rfl)⟩
 rintro x s' ⟨rfl,f,rfl,hsub⟩;refine Goes.sub hsub ?_;refine sh fol [(4,.str f)] ?_;refine Goes.ret ?_;obtain rfl:=si h;exact(gw2 [.str f] (Ua tS))
def qbo (N:Nat) (a:zR):Nat->Str->Int->Option Str
 |0,_,_=>none
 |K+1,e,b=>
  if b>=0 then
  (idx a.w b).bind fun f=>
  (yj N f 9).bind fun c=>
  (cat e c).bind fun d=>
  qbo N a K d (w64 (b-1))
  else
  some e
def qeT (N:Nat) (a:zR):Option Str:=
 if(a.w.length:Int)=0 then
 some [48]
 else
 (idx a.w (w64 ((a.w.length:Int)-1))).bind fun d=>
 (yj N d 1).bind fun e=>
 (qbo N a N e (w64 ((a.w.length:Int)-2))).bind fun c=>
 if a.neg=true then
 (cat [45] c).bind fun b=>
 some b
 else
 some c
theorem qgz (N:Nat) (a:zR) {res:Str} (h:qeT N a=some res):qc ZT (.fn 214) [.agg (.bool a.neg::(kAq a.w))] [] (.str res) []:=by
 unfold qeT at h;refine Ub Tryz.func214 rfl rfl (m:=39) rfl (rs:=[.tmp 2]) rfl (l:=[(0,.agg [.bool a.neg,vl encI a.w])]) rfl ?_;refine sg fol [(1,.ptr 0 0)] (kAF a.neg a.w []) ?_;refine sq ?_;refine sh fol ((1,.ptr 0 0)::(kBb (decide ((a.w.length:Int)=0)))) ?_;refine ihD h (fun v h=>?_) (fun v h=>?_)
 ·refine sh fol [(2,.str [48])] ?_;refine Goes.ret ?_;obtain rfl:=si h;exact(gw2 [.str [48]] (Ua tS))
 refine Goes.skip ?_;obtain⟨y,c,h⟩:=bnd h;obtain⟨t,o,h⟩:=bnd h;refine sq (gr fol [6,7,8] (kBQ t []) (ac (iv qO encI c) (ac (lv 0 ce3 encI c rfl) (ac (cv (qa5 N y 1 o)) az))) ?_);refine sq ?_;refine sh fol (kBQ t (kAd (w64 ((a.w.length:Int)-2)))) ?_;refine Goes.block ?_;obtain⟨u,g7,h⟩:=bnd h;refine Goes.imp (Q:=fun x s'=>(x= .exit 0/\ ∃f,f=u/\Sub s' (ofG 39 (kBQ f []),(kAF a.neg a.w [])))) ?_ ?_
 ·refine Ud (fun M s=> ∃(p:Str) (d:Int),s=(ofG 39 (kBQ p (kAd d)),(kAF a.neg a.w []))/\qbo N a M p d=some u) ?_ (m:=N) ⟨_,_,rfl,g7⟩;rintro M s ⟨p,d,rfl,g7⟩
  cases M with
  |zero=>simp only[qbo]at g7;cases g7
  |succ M=>
   rw[qbo]at g7;refine sq ?_;refine sh fol (kBQ p [(4,.i d),(23,.bool (decide (d>=0)))]) ?_;refine ihD g7 (fun z g7=>?_) (fun z g7=>?_)
   ·refine Goes.skip ?_;refine sq (Goes.block ?_);obtain⟨A,e,g7⟩:=bnd g7;obtain⟨q,g,g7⟩:=bnd g7;obtain⟨b,j,g7⟩:=bnd g7;refine gr fol [4,5,6,7] (kBQ b (kAd d)) (ac (iv qO encI e) (ac (lv 0 ce3 encI e rfl) (ac (cv (qa5 N A 9 g)) (ac (hs (.done (.opt (vE ZT .add 9 (.tmp 26) (.tmp 32) (.str p) (.str q))) (.str b)) (qcS j)) az)))) ?_;refine gh fol (kBQ b (kAd (w64 (d-1)))) ?_;exact⟨M,(ofG 39 (kBQ b (kAd (w64 (d-1)))),(kAF a.neg a.w [])),Nat.lt_succ_self _,(Sub.refl _),_,_,rfl,g7⟩
   refine Goes.exit ?_;obtain rfl:=si g7;exact⟨rfl,_,rfl,(Sub.keep [1,3] rfl rfl)⟩
 rintro x s' ⟨rfl,f,rfl,hsub⟩;refine Goes.sub hsub ?_;refine sq ?_;refine sh fol [(3,.str f),(35,.bool a.neg)] ?_;refine ihB h (fun r h=>?_) (fun r h=>?_)
 ·obtain⟨k,n,h⟩:=bnd h;refine sq (gr fol [1] [(2,.str k)] (ac (hs (.done (.opt (vE ZT .add 9 (.const (.string ⟨#[45]⟩)) (.tmp 36) (.str [45]) (.str f))) (.str k)) (qcS n)) az) ?_);refine Goes.ret ?_;obtain rfl:=si h;exact(gw2 [.str k] (Ua tS))
 refine Goes.skip ?_;refine sh fol [(2,.str f)] ?_;refine Goes.ret ?_;obtain rfl:=si h;exact(gw2 [.str f] (Ua tS))
def qds (N:Nat) (n:zR) (d:zR):Option Str:=
 ((if d.neg=true then
 (qdQ N n).bind fun l=>
 (qdQ N d).bind fun m=>
 some (l.neg,l.w,m.neg,m.w)
 else
 some (n.neg,n.w,d.neg,d.w):Option (Bool×(List Int)×Bool×(List Int)))).bind fun(r,o,s,p)=>
 (qeR N o p).bind fun q=>
 (qar N o q).bind fun c=>
 (qar N p q).bind fun a=>
 (qaj N r c.1).bind fun e=>
 (qeT N e).bind fun b=>
 (if(a.1.length:Int)=1 then
 (idx a.1 0).bind fun f=>
 some (decide (f=1))
 else
 some false:Option Bool).bind fun g=>
 if g=true then
 some b
 else
 (cat b [47]).bind fun h=>
 (qaj N false a.1).bind fun i=>
 (qeT N i).bind fun j=>
 (cat h j).bind fun k=>
 some k
theorem qg5 (N:Nat) (n:zR) (d:zR) {res:Str} (h:qds N n d=some res):qc ZT (.fn 158) [.agg [.bool n.neg,vl encI n.w],.agg [.bool d.neg,vl encI d.w]] [] (.str res) []:=by
 unfold qds at h;refine Ub Tryz.func158 rfl rfl (m:=57) rfl (rs:=[.tmp 4]) rfl (l:=[(0,.agg [.bool n.neg,vl encI n.w]),(1,.agg [.bool d.neg,vl encI d.w])]) rfl ?_;refine sg fol (kAB []) (kAF n.neg n.w (kAF d.neg d.w [])) ?_;refine sq ?_;refine sh fol (kAB [(12,.bool d.neg)]) ?_;obtain⟨O,g5,h⟩:=bnd h;refine Goes.imp (Q:=fun x s'=>(x= .normal/\ ∃y u D v,(y,u,D,v)=O/\Sub s' (ofG 57 (kAB []),(kAF y u (kAF D v []))))) ?_ ?_
 ·refine ihB g5 (fun P g5=>?_) (fun P g5=>?_)
  ·obtain⟨L,z,g5⟩:=bnd g5;obtain⟨M,A,g5⟩:=bnd g5;refine gq fol [1,3] (kAB []) (kAF L.neg L.w (kAF M.neg M.w [])) (ac (cv (qfF N n z)) (ac (cv (qfF N d A)) az)) ?_;obtain rfl:=si g5;exact⟨rfl,_,_,_,_,rfl,(Sub.refl _)⟩
  refine Goes.skip ?_;obtain rfl:=si g5;exact⟨rfl,_,_,_,_,rfl,(Sub.keep [2,3] rfl rfl)⟩
 rintro x s' ⟨rfl,y,u,D,v,rfl,hsub⟩
 try dsimp only at h
 refine Goes.sub hsub ?_;obtain⟨E,B,h⟩:=bnd h;refine sq (gr fol [4] (kAB [(5,vl encI E)]) (ac (cv (qii N u v B)) az) ?_);obtain⟨f,g,h⟩:=bnd h;refine sq (gr fol [3] (kAB [(5,vl encI E),(6,vl encI f.1)]) (ac (cv (qbz N u E g)) az) ?_);obtain⟨c,i,h⟩:=bnd h;refine sq (gr fol [3] [(2,.ptr 0 0),(6,vl encI f.1),(8,vl encI c.1)] (ac (cv (qbz N v E i)) az) ?_);obtain⟨F,j,h⟩:=bnd h;obtain⟨b,k,h⟩:=bnd h;refine sq (gr fol [3,4] [(8,vl encI c.1),(10,.str b)] (ac (cv (qau N y f.1 j)) (ac (cv (qgz N F k)) az)) ?_);refine sq ?_;refine sq ?_;obtain⟨G,a,h⟩:=bnd h;refine Goes.cut (s':=(ofG 57 [(8,vl encI c.1),(10,.str b),(49,.bool G)],(kAF y u (kAF D v [])))) ?_ ?_
 ·rcases wyD a with⟨o,a⟩|⟨o,a⟩
  ·obtain⟨H,e,a⟩:=bnd a;obtain rfl:=si a;exact tr fol [3,5,6] [(8,vl encI c.1),(10,.str b),(49,.bool (decide (H=1)))] (ac (gw o) (ac (iv qO encI e) (ac (lv 0 ce3 encI e rfl) az)))
  obtain rfl:=si a;exact tr fol [3] [(8,vl encI c.1),(10,.str b),(49,.bool false)] (ac (gw o) az)
 refine ihB h (fun I h=>?_) (fun I h=>?_)
 ·refine sh fol [(4,.str b)] ?_;refine Goes.ret ?_;obtain rfl:=si h;exact(gw2 [.str b] (Ua tS))
 refine Goes.skip ?_;obtain⟨C,p,h⟩:=bnd h;obtain⟨J,q,h⟩:=bnd h;obtain⟨K,r,h⟩:=bnd h;obtain⟨s,t,h⟩:=bnd h;refine sq (gr fol [1,3,4,5] [(4,.str s)] (ac (hs (.done (.opt (vE ZT .add 9 (.tmp 51) (.const (.string ⟨#[47]⟩)) (.str b) (.str [47]))) (.str C)) (qcS p)) (ac (cv (qau N false c.1 q)) (ac (cv (qgz N J r)) (ac (hs (.done (.opt (vE ZT .add 9 (.tmp 52) (.tmp 55) (.str C) (.str K))) (.str s)) (qcS t)) az)))) ?_);refine Goes.ret ?_;obtain rfl:=si h;exact(gw2 [.str s] (Ua tS))
def vD:Nat->Int->Int->Option Int
 |0,_,_=>none
 |K+1,b,a=>
  if a>0 then
  (qlr .i64 b a).bind fun c=>
  vD K a c
  else
  some b
def qeo (N:Nat) (a:Int) (b:Int):Option Int:=
 (vD N a b).bind fun c=>
 some c
theorem qk5 (N:Nat) (a:Int) (b:Int) {res:Int} (h:qeo N a b=some res):qc ZT (.fn 209) [.i a,.i b] [] (.i res) []:=by
 unfold qeo at h;refine Ub Tryz.func209 rfl rfl (m:=12) rfl (rs:=[.tmp 4]) rfl (l:=(kAM a b [])) rfl ?_;refine sh fol (kAM a b []) ?_;refine sq (Goes.block ?_);obtain⟨j,g4,h⟩:=bnd h;refine Goes.imp (Q:=fun x s'=>(x= .exit 0/\ ∃d,d=j/\Sub s' (ofG 12 (kBW d),[]))) ?_ ?_
 ·refine Ud (fun M s=> ∃(e:Int) (c:Int),s=(ofG 12 (kAM e c []),[])/\vD M e c=some j) ?_ (m:=N) ⟨_,_,rfl,g4⟩;rintro M s ⟨e,c,rfl,g4⟩
  cases M with
  |zero=>simp only[vD]at g4;cases g4
  |succ M=>
   rw[vD]at g4;refine sq ?_;refine sh fol (kAM e c [(6,.bool (decide (c>0)))]) ?_;refine ihD g4 (fun k g4=>?_) (fun k g4=>?_)
   ·refine Goes.skip ?_;refine Goes.block ?_;obtain⟨g,f,g4⟩:=bnd g4;refine gr fol [3] (kAM c g []) (ac (hs (.done (.opt (vE ZT .rem 3 (.tmp 8) (.tmp 9) (.i e) (.i c))) (.i g)) (qk8 f)) az) ?_;exact⟨M,(ofG 12 (kAM c g []),[]),Nat.lt_succ_self _,(Sub.refl _),_,_,rfl,g4⟩
   refine Goes.exit ?_;obtain rfl:=si g4;exact⟨rfl,_,rfl,(Sub.keep [0] rfl rfl)⟩
 rintro x s' ⟨rfl,d,rfl,hsub⟩;refine Goes.sub hsub ?_;refine sh fol (kAd d) ?_;refine Goes.ret ?_;obtain rfl:=si h;exact(gw2 [.i d] (Ua tI))
def qec (N:Nat) (num:Int) (den:Int):Option Str:=
 (if num<(-4000000000000000000)then
 some true
 else
 if num>4000000000000000000 then
 some true
 else
 if den<(-4000000000000000000)then
 some true
 else
 some (decide (den>4000000000000000000)):Option Bool).bind fun m=>
 if m=true then
 none
 else
 ((if den<0 then
 some (w64 (0-num),w64 (0-den))
 else
 some (num,den):Option (Int×Int))).bind fun(b,l)=>
 (qeo N (if(w64 (0-b))>b then(w64 (0-b))else b) l).bind fun c=>
 (qjz .i64 b c).bind fun a=>
 (qjz .i64 l c).bind fun d=>
 ((if a<0 then
 some [45]
 else
 some []:Option Str)).bind fun f=>
 (yj N (if(w64 (0-a))>a then(w64 (0-a))else a) 1).bind fun g=>
 (cat f g).bind fun e=>
 ((if d>1 then
 (cat e [47]).bind fun h=>
 (yj N d 1).bind fun i=>
 (cat h i).bind fun j=>
 some j
 else
 some e:Option Str)).bind fun k=>
 some k
theorem qib (N:Nat) (num:Int) (den:Int) {res:Str} (h:qec N num den=some res):qc ZT (.fn 156) [.i num,.i den] [] (.str res) []:=by
 unfold qec at h;refine Ub Tryz.func156 rfl rfl (m:=61) rfl (rs:=[.tmp 4]) rfl (l:=(kAM num den [])) rfl ?_;refine sh fol (kAM num den []) ?_;refine sq ?_;refine sq ?_;obtain⟨I,a,h⟩:=bnd h;refine Goes.cut (s':=(ofG 61 (kAM num den [(20,.bool I)]),[])) ?_ ?_
 ·rcases wyD a with⟨v,a⟩|⟨v,a⟩
  ·obtain rfl:=si a;exact tr fol [2] (kAM num den [(20,.bool true)]) (ac (gw v) az)
  rcases wyD a with⟨z,a⟩|⟨z,a⟩
  ·obtain rfl:=si a;exact tr fol [2,6] (kAM num den [(20,.bool true)]) (ac (gw v) (ac (gw z) az))
  rcases wyD a with⟨A,a⟩|⟨A,a⟩
  ·obtain rfl:=si a;exact tr fol [2,6,10] (kAM num den [(20,.bool true)]) (ac (gw v) (ac (gw z) (ac (gw A) az)))
  obtain rfl:=si a;exact tr fol [2,6,10] (kAM num den [(20,.bool (decide (den>4000000000000000000)))]) (ac (gw v) (ac (gw z) (ac (gw A) az)))
 refine ihB h (fun J h=>?_) (fun J h=>?_)
 ·refine sq ?_;cases h
 refine Goes.skip ?_;refine sq ?_;refine sh fol (kAM num den [(27,.bool (decide (den<0)))]) ?_;obtain⟨K,g9,h⟩:=bnd h;refine Goes.imp (Q:=fun x s'=>(x= .normal/\ ∃e u,(e,u)=K/\Sub s' (ofG 61 (kAM e u []),[]))) ?_ ?_
 ·refine ihD g9 (fun B g9=>?_) (fun B g9=>?_)
  ·refine gh fol (kAM (w64 (0-num)) (w64 (0-den)) []) ?_;obtain rfl:=si g9;exact⟨rfl,_,_,rfl,(Sub.refl _)⟩
  refine Goes.skip ?_;obtain rfl:=si g9;exact⟨rfl,_,_,rfl,(Sub.keep [0,1] rfl rfl)⟩
 rintro x s' ⟨rfl,e,u,rfl,hsub⟩
 try dsimp only at h
 refine Goes.sub hsub ?_;obtain⟨j,k,h⟩:=bnd h;refine sq (gr fol [5] (kAM e u (kBA j)) (ac (cv (qk5 N (if(w64 (0-e))>e then(w64 (0-e))else e) u k)) az) ?_);obtain⟨b,n,h⟩:=bnd h;obtain⟨c,o,h⟩:=bnd h;refine sq (gr fol [2,5] (kAM b c []) (ac (hs (.done (.opt (vE ZT .quo 3 (.tmp 38) (.tmp 39) (.i e) (.i j))) (.i b)) (qhm n)) (ac (hs (.done (.opt (vE ZT .quo 3 (.tmp 41) (.tmp 42) (.i u) (.i j))) (.i c)) (qhm o)) az)) ?_);refine sh fol (kAM b c [(6,.str [])]) ?_;refine sq ?_;refine sh fol (kAM b c [(6,.str []),(45,.bool (decide (b<0)))]) ?_;obtain⟨C,g15,h⟩:=bnd h;refine Goes.imp (Q:=fun x s'=>(x= .normal/\ ∃f,f=C/\Sub s' (ofG 61 (kAM b c [(6,.str f)]),[]))) ?_ ?_
 ·refine ihD g15 (fun D g15=>?_) (fun D g15=>?_)
  ·refine gh fol (kAM b c [(6,.str [45])]) ?_;obtain rfl:=si g15;exact⟨rfl,_,rfl,(Sub.refl _)⟩
  refine Goes.skip ?_;obtain rfl:=si g15;exact⟨rfl,_,rfl,(Sub.keep [0,1,6] rfl rfl)⟩
 rintro x s' ⟨rfl,f,rfl,hsub⟩;refine Goes.sub hsub ?_;obtain⟨E,p,h⟩:=bnd h;obtain⟨g,q,h⟩:=bnd h;refine sq (gr fol [5,6] [(1,.i c),(6,.str g)] (ac (cv (qa5 N (if(w64 (0-b))>b then(w64 (0-b))else b) 1 p)) (ac (hs (.done (.opt (vE ZT .add 9 (.tmp 46) (.tmp 51) (.str f) (.str E))) (.str g)) (qcS q)) az)) ?_);refine sq ?_;refine sh fol [(1,.i c),(6,.str g),(54,.bool (decide (c>1)))] ?_;obtain⟨F,g20,h⟩:=bnd h;refine Goes.imp (Q:=fun x s'=>(x= .normal/\ ∃d,d=F/\Sub s' (ofG 61 [(6,.str d)],[]))) ?_ ?_
 ·refine ihD g20 (fun G g20=>?_) (fun G g20=>?_)
  ·obtain⟨w,r,g20⟩:=bnd g20;obtain⟨H,s,g20⟩:=bnd g20;obtain⟨y,t,g20⟩:=bnd g20;refine gr fol [1,3,4] [(6,.str y)] (ac (hs (.done (.opt (vE ZT .add 9 (.tmp 55) (.const (.string ⟨#[47]⟩)) (.str g) (.str [47]))) (.str w)) (qcS r)) (ac (cv (qa5 N c 1 s)) (ac (hs (.done (.opt (vE ZT .add 9 (.tmp 56) (.tmp 58) (.str w) (.str H))) (.str y)) (qcS t)) az))) ?_;obtain rfl:=si g20;exact⟨rfl,_,rfl,(Sub.refl _)⟩
  refine Goes.skip ?_;obtain rfl:=si g20;exact⟨rfl,_,rfl,(Sub.keep [6] rfl rfl)⟩
 rintro x s' ⟨rfl,d,rfl,hsub⟩;refine Goes.sub hsub ?_;refine sh fol [(4,.str d)] ?_;refine Goes.ret ?_;obtain rfl:=si h;exact(gw2 [.str d] (Ua tS))
def qct (N:Nat) (a:Str) (b:Str):Option Str:=
 (vG N a).bind fun c=>
 (vG N b).bind fun d=>
 (if c.2.2=true then
 some d.2.2
 else
 some false:Option Bool).bind fun e=>
 if e=true then
 (qec N (w64 ((w64 (c.1*d.2.1))+(w64 (d.1*c.2.1)))) (w64 (c.2.1*d.2.1))).bind fun f=>
 some f
 else
 none
theorem qe2 (N:Nat) (a:Str) (b:Str) {res:Str} (h:qct N a b=some res):qc ZT (.fn 86) [.str a,.str b] [] (.str res) []:=by
 unfold qct at h;refine Ub Tryz.func86 rfl rfl (m:=63) rfl (rs:=[.tmp 4]) rfl (l:=(kAW a b [])) rfl ?_;refine sh fol (kAW a b []) ?_;obtain⟨d,f,h⟩:=bnd h;refine sq (gr fol [1] (kAW a b [(5,.i d.1),(6,.i d.2.1),(7,.bool d.2.2)]) (ac (cv (qbU N a f)) az) ?_);obtain⟨e,g,h⟩:=bnd h;refine sq (gr fol [1] (kAW a b ((5,.i d.1)::(6,.i d.2.1)::(7,.bool d.2.2)::(kAf e.1 e.2.1 (kAv e.2.2)))) (ac (cv (qbU N b g)) az) ?_);refine sq ?_;refine sq ?_;obtain⟨o,c,h⟩:=bnd h;refine Goes.cut (s':=(ofG 63 (kAW a b ((5,.i d.1)::(6,.i d.2.1)::(kAf e.1 e.2.1 [(30,.bool o)]))),[])) ?_ ?_
 ·rcases wyB c with⟨k,c⟩|⟨k,c⟩
  ·obtain rfl:=si c;exact tr fol [1] (kAW a b ((5,.i d.1)::(6,.i d.2.1)::(kAf e.1 e.2.1 [(30,.bool e.2.2)]))) (ac (gw k) az)
  obtain rfl:=si c;exact tr fol [1] (kAW a b ((5,.i d.1)::(6,.i d.2.1)::(kAf e.1 e.2.1 [(30,.bool false)]))) (ac (gw k) az)
 refine ihB h (fun p h=>?_) (fun p h=>?_)
 ·obtain⟨n,j,h⟩:=bnd h;refine sq (gr fol [10] [(4,.str n)] (ac (cv (qib N (w64 ((w64 (d.1*e.2.1))+(w64 (e.1*d.2.1)))) (w64 (d.2.1*e.2.1)) j)) az) ?_);refine Goes.ret ?_;obtain rfl:=si h;exact(gw2 [.str n] (Ua tS))
 refine Goes.skip ?_;refine sq ?_;cases h
def qbd (N:Nat) (a:Str) (b:Str):Option Str:=
 (vG N a).bind fun c=>
 (vG N b).bind fun d=>
 (if c.2.2=true then
 some d.2.2
 else
 some false:Option Bool).bind fun e=>
 if e=true then
 (qec N (w64 (c.1*d.1)) (w64 (c.2.1*d.2.1))).bind fun f=>
 some f
 else
 none
theorem qbX (N:Nat) (a:Str) (b:Str) {res:Str} (h:qbd N a b=some res):qc ZT (.fn 87) [.str a,.str b] [] (.str res) []:=by
 unfold qbd at h;refine Ub Tryz.func87 rfl rfl (m:=55) rfl (rs:=[.tmp 4]) rfl (l:=(kAW a b [])) rfl ?_;refine sh fol (kAW a b []) ?_;obtain⟨d,f,h⟩:=bnd h;refine sq (gr fol [1] (kAW a b [(5,.i d.1),(6,.i d.2.1),(7,.bool d.2.2)]) (ac (cv (qbU N a f)) az) ?_);obtain⟨e,g,h⟩:=bnd h;refine sq (gr fol [1] (kAW a b ((5,.i d.1)::(6,.i d.2.1)::(7,.bool d.2.2)::(kAf e.1 e.2.1 (kAv e.2.2)))) (ac (cv (qbU N b g)) az) ?_);refine sq ?_;refine sq ?_;obtain⟨o,c,h⟩:=bnd h;refine Goes.cut (s':=(ofG 55 (kAW a b ((5,.i d.1)::(6,.i d.2.1)::(kAf e.1 e.2.1 [(30,.bool o)]))),[])) ?_ ?_
 ·rcases wyB c with⟨k,c⟩|⟨k,c⟩
  ·obtain rfl:=si c;exact tr fol [1] (kAW a b ((5,.i d.1)::(6,.i d.2.1)::(kAf e.1 e.2.1 [(30,.bool e.2.2)]))) (ac (gw k) az)
  obtain rfl:=si c;exact tr fol [1] (kAW a b ((5,.i d.1)::(6,.i d.2.1)::(kAf e.1 e.2.1 [(30,.bool false)]))) (ac (gw k) az)
 refine ihB h (fun p h=>?_) (fun p h=>?_)
 ·obtain⟨n,j,h⟩:=bnd h;refine sq (gr fol [6] [(4,.str n)] (ac (cv (qib N (w64 (d.1*e.1)) (w64 (d.2.1*e.2.1)) j)) az) ?_);refine Goes.ret ?_;obtain rfl:=si h;exact(gw2 [.str n] (Ua tS))
 refine Goes.skip ?_;refine sq ?_;cases h
def qeJ (a:Str):Option Int:=
 if(a==[48])=true then
 some 0
 else
 (if(a.length:Int)>0 then
 (idx a 0).bind fun b=>
 some (decide ((b.toNat:Int)=45))
 else
 some false:Option Bool).bind fun c=>
 if c=true then
 some (-1)
 else
 some 1
theorem qgr (a:Str) {res:Int} (h:qeJ a=some res):qc ZT (.fn 237) [.str a] [] (.i res) []:=by
 unfold qeJ at h;refine Ub Tryz.func237 rfl rfl (m:=13) rfl (rs:=[.tmp 2]) rfl (l:=(kBf a)) rfl ?_;refine sh fol (kBf a) ?_;refine sq ?_;refine sh fol ((0,.str a)::(kAj (a==[48]))) ?_;refine ihB h (fun f h=>?_) (fun f h=>?_)
 ·refine sh fol [(2,.i 0)] ?_;refine Goes.ret ?_;obtain rfl:=si h;exact(gw2 [.i 0] (Ua tI))
 refine Goes.skip ?_;refine sq ?_;refine sq ?_;obtain⟨g,b,h⟩:=bnd h;refine Goes.cut (s':=(ofG 13 [(12,.bool g)],[])) ?_ ?_
 ·rcases wyD b with⟨d,b⟩|⟨d,b⟩
  ·obtain⟨e,c,b⟩:=bnd b;obtain rfl:=si b;exact tr fol [3,5] [(12,.bool (decide ((e.toNat:Int)=45)))] (ac (gw d) (ac (hs (.done (.opt (qdD ZT 71 (.str a) (.i 0))) (.int .u8 (e.toNat:Int))) (qjB st71 c)) az))
  obtain rfl:=si b;exact tr fol [3] [(12,.bool false)] (ac (gw d) az)
 refine ihB h (fun j h=>?_) (fun j h=>?_)
 ·refine sh fol [(2,.i (-1))] ?_;refine Goes.ret ?_;obtain rfl:=si h;exact(gw2 [.i (-1)] (Ua tI))
 refine Goes.skip ?_;refine sh fol [(2,.i 1)] ?_;refine Goes.ret ?_;obtain rfl:=si h;exact(gw2 [.i 1] (Ua tI))
def qhR (a:Str):Option Str:=
 (qeJ a).bind fun b=>
 if b<0 then
 (cut a 1 (a.length:Int)).bind fun c=>
 some c
 else
 (qeJ a).bind fun d=>
 if d=0 then
 some a
 else
 (cat [45] a).bind fun e=>
 some e
theorem qk9 (a:Str) {res:Str} (h:qhR a=some res):qc ZT (.fn 177) [.str a] [] (.str res) []:=by
 unfold qhR at h;refine Ub Tryz.func177 rfl rfl (m:=14) rfl (rs:=[.tmp 2]) rfl (l:=(kBf a)) rfl ?_;refine sh fol (kBf a) ?_;refine sq ?_;obtain⟨j,b,h⟩:=bnd h;refine sq (gr fol [1] [(0,.str a),(5,.bool (decide (j<0)))] (ac (cv (qgr a b)) az) ?_);refine ihD h (fun k h=>?_) (fun k h=>?_)
 ·obtain⟨f,c,h⟩:=bnd h;refine sq (gr fol [1] [(2,.str f)] (ac (hs (.done (.opt (zD ZT 71 (.str a) (some (.i 1)) none none)) (.str f)) (qdZ st71 (some 1) none c)) az) ?_);refine Goes.ret ?_;obtain rfl:=si h;exact(gw2 [.str f] (Ua tS))
 refine Goes.skip ?_;refine sq ?_;obtain⟨n,d,h⟩:=bnd h;refine sq (gr fol [1] ((0,.str a)::(kAv (decide (n=0)))) (ac (cv (qgr a d)) az) ?_);refine ihD h (fun o h=>?_) (fun o h=>?_)
 ·refine sh fol [(2,.str a)] ?_;refine Goes.ret ?_;obtain rfl:=si h;exact(gw2 [.str a] (Ua tS))
 refine Goes.skip ?_;obtain⟨g,e,h⟩:=bnd h;refine sq (gr fol [1] [(2,.str g)] (ac (hs (.done (.opt (vE ZT .add 71 (.const (.string ⟨#[45]⟩)) (.tmp 12) (.str [45]) (.str a))) (.str g)) (qcS e)) az) ?_);refine Goes.ret ?_;obtain rfl:=si h;exact(gw2 [.str g] (Ua tS))
def qdb (N:Nat) (a:Str) (b:Str):Option Str:=
 (qhR b).bind fun c=>
 (qct N a c).bind fun d=>
 some d
theorem qho (N:Nat) (a:Str) (b:Str) {res:Str} (h:qdb N a b=some res):qc ZT (.fn 118) [.str a,.str b] [] (.str res) []:=by
 unfold qdb at h;refine Ub Tryz.func118 rfl rfl (m:=9) rfl (rs:=[.tmp 4]) rfl (l:=(kAW a b [])) rfl ?_;refine sh fol (kAW a b []) ?_;obtain⟨f,c,h⟩:=bnd h;obtain⟨e,d,h⟩:=bnd h;refine sq (gr fol [2,3] [(4,.str e)] (ac (cv (qk9 b c)) (ac (cv (qe2 N a f d)) az)) ?_);refine Goes.ret ?_;obtain rfl:=si h;exact(gw2 [.str e] (Ua tS))
def qaS:Nat->(List Int)->Int->Option (List Int)
 |0,_,_=>none
 |K+1,b,a=>
  if(!decide (a=0))=true then
  ((if(a.tmod 1000000000)<0 then
  some (w64 (0-(a.tmod 1000000000)))
  else
  some (a.tmod 1000000000):Option Int)).bind fun c=>
  (app 8 b [c]).bind fun d=>
  qaS K d (w64 (a.tdiv 1000000000))
  else
  some b
def qfx (N:Nat) (n:Int):Option zR:=
 (qaS N ([]:List Int) n).bind fun b=>
 (qaj N (decide (n<0)) b).bind fun a=>
 some a
theorem qjH (N:Nat) (n:Int) {res:zR} (h:qfx N n=some res):qc ZT (.fn 208) [.i n] [] (.agg (.bool res.neg::(kAq res.w))) []:=by
 unfold qfx at h;refine Ub Tryz.func208 rfl rfl (m:=25) rfl (rs:=[.cell 2 184]) rfl (l:=(kBW n)) rfl ?_;refine sg fol ((0,.i n)::kAl) (kY []) ?_;refine sh fol ((0,.i n)::(2,.ptr 0 0)::(kBR [])) ?_;refine sh fol ((0,.i n)::(2,.ptr 0 0)::(kBR (kAj (decide (n<0))))) ?_;refine sq (Goes.block ?_);obtain⟨k,g4,h⟩:=bnd h;refine Goes.imp (Q:=fun x s'=>(x= .exit 0/\ ∃d,d=k/\Sub s' (ofG 25 (kAR d (decide (n<0)) []),(kY (kA d []))))) ?_ ?_
 ·refine Goes.sub (s':=(ofG 25 ((0,.i n)::(2,.ptr 0 0)::(3,.gslice 1 ([]:List Int).length 1)::(kAj (decide (n<0)))),(kY kBG))) (Uc [] [some 0,none] rfl rfl (.keep (.same nI) (.kp (.keep .nil (.keep (.same nB) .nil)))) (.kb rfl (.same sn) (.fresh .nil))) ?_;refine Ud (fun M s=> ∃(c:List Int) (b:Int),s=(ofG 25 ((0,.i b)::(kAR c (decide (n<0)) [])),(kY (kA c [])))/\qaS M c b=some k) ?_ (m:=N) ⟨_,_,rfl,g4⟩;rintro M s ⟨c,b,rfl,g4⟩
  cases M with
  |zero=>simp only[qaS]at g4;cases g4
  |succ M=>
   rw[qaS]at g4;refine sq ?_;refine sh fol ((0,.i b)::(kAR c (decide (n<0)) [(9,.bool (!decide (b=0)))])) ?_;refine ihB g4 (fun o g4=>?_) (fun o g4=>?_)
   ·refine Goes.skip ?_;refine Goes.block ?_;refine sh fol ((0,.i b)::(kAR c (decide (n<0)) (kBA (b.tmod 1000000000)))) ?_;refine sq ?_;refine sh fol ((0,.i b)::(kAR c (decide (n<0)) ((5,.i (b.tmod 1000000000))::(kBL (decide ((b.tmod 1000000000)<0)))))) ?_;obtain⟨p,g7,g4⟩:=bnd g4;refine Goes.imp (Q:=fun x s'=>(x= .normal/\ ∃e,e=p/\Sub s' (ofG 25 ((0,.i b)::(kAR c (decide (n<0)) (kBA e))),(kY (kA c []))))) ?_ ?_
    ·refine ihD g7 (fun q g7=>?_) (fun q g7=>?_)
     ·refine gh fol ((0,.i b)::(kAR c (decide (n<0)) (kBA (w64 (0-(b.tmod 1000000000)))))) ?_;obtain rfl:=si g7;exact⟨rfl,_,rfl,(Sub.refl _)⟩
     refine Goes.skip ?_;obtain rfl:=si g7;exact⟨rfl,_,rfl,(Sub.keep [0,2,3,4,5] rfl rfl)⟩
    rintro x s' ⟨rfl,e,rfl,hsub⟩;refine Goes.sub hsub ?_;obtain⟨f,j,g4⟩:=bnd g4;refine sq (gq fol [3] ((0,.i b)::(2,.ptr 0 0)::(3,.gslice 3 f.length 1)::(kAj (decide (n<0)))) (kY (kAt e (kA f []))) (ac (hs (.run [1,2] (jd ZT [22,22] (.gslice 1 c.length 1) (.slice 2 0 1 1 1)) (kY (kA c [.cells [.i e]])) (.gslice 3 f.length 1) (kY (kAt e (kA f []))) true) (qao qO (E:=encI) rfl (qee (E:=encI) (ys:=[e]) rfl rfl rfl rfl) (qfm (E:=encI) (l:=c) rfl rfl rfl j rfl))) az) ?_);refine gh fol ((0,.i (w64 (b.tdiv 1000000000)))::(2,.ptr 0 0)::(3,.gslice 3 f.length 1)::(kAj (decide (n<0)))) ?_;exact⟨M,(ofG 25 ((0,.i (w64 (b.tdiv 1000000000)))::(kAR f (decide (n<0)) [])),(kY (kA f []))),Nat.lt_succ_self _,(Uc [] [some 0,some 3] rfl rfl (.keep (.same nI) (.kp (.keep (.gslice rfl) (.keep (.same nB) .nil)))) (.kb rfl (.same sn) (.ks .nil))),_,_,rfl,g4⟩
   refine Goes.exit ?_;obtain rfl:=si g4;exact⟨rfl,_,rfl,(Sub.keep [2,3,4] rfl rfl)⟩
 rintro x s' ⟨rfl,d,rfl,hsub⟩;refine Goes.sub hsub ?_;obtain⟨a,g,h⟩:=bnd h;refine sq (gq fol [2] kAl (kAF a.neg a.w (kAn d [])) (ac (hs (.callF 215 [.bool (decide (n<0)),.gslice 1 d.length 1] (kY (kA d [])) [1] (.bool (decide (n<0))::(kAq d)) (.agg (.bool a.neg::(kAq a.w)))) (qhz (FzL.cons (Ue tB) (FzL.cons (Fz.gs (E:=encI) rfl rfl (nl rfl)) FzL.nil)) (qau N (decide (n<0)) d g) (Still.agg (AllST.cons tB (AllST.cons (qx encI _ (nl rfl)) AllST.nil))))) az) ?_);refine Goes.sub (show Sub (ofG 25 kAl,(kAF a.neg a.w (kAn d []))) (ofG 25 kAl,(kAF a.neg a.w []))from(Uc [] [some 0] rfl rfl (.kp .nil) (.kb rfl (.same sn) .nil))) ?_;refine Goes.ret ?_;obtain rfl:=si h;exact(gw2 [.agg (.bool a.neg::(kAq a.w))] (FzW.agg (qm.cons (Ua tB) (qm.cons (Ua (qx encI _ (nl rfl))) qm.nil))))
def qaU (N:Nat):Nat->(List Int)->Str->Option ((List Int)×Str)
 |0,_,_=>none
 |K+1,f,a=>
  if(a.length:Int)>9 then
  (cut a (w64 ((a.length:Int)-9)) (a.length:Int)).bind fun b=>
  (yZ N b).bind fun c=>
  (app 8 f [c]).bind fun d=>
  (cut a 0 (w64 ((a.length:Int)-9))).bind fun e=>
  qaU N K d e
  else
  some (f,a)
def qcC (N:Nat) (a:Str):Option zR:=
 (if(a.length:Int)>0 then
 (idx a 0).bind fun h=>
 some (decide ((h.toNat:Int)=45))
 else
 some false:Option Bool).bind fun g=>
 ((if g=true then
 (cut a 1 (a.length:Int)).bind fun i=>
 some i
 else
 some a:Option Str)).bind fun j=>
 (qaU N N ([]:List Int) j).bind fun(b,c)=>
 (yZ N c).bind fun d=>
 (app 8 b [d]).bind fun e=>
 (qaj N g e).bind fun f=>
 some f
theorem qdr (N:Nat) (k:Str) {res:zR} (h:qcC N k=some res):qc ZT (.fn 211) [.str k] [] (.agg (.bool res.neg::(kAq res.w))) []:=by
 unfold qcC at h;refine Ub Tryz.func211 rfl rfl (m:=40) rfl (rs:=[.cell 2 184]) rfl (l:=(kBf k)) rfl ?_;refine sg fol ((0,.str k)::kAl) (kY []) ?_;refine sq ?_;obtain⟨e,b,h⟩:=bnd h;refine Goes.cut (s':=(ofG 40 (kAK k e []),(kY []))) ?_ ?_
 ·rcases wyD b with⟨H,b⟩|⟨H,b⟩
  ·obtain⟨J,B,b⟩:=bnd b;obtain rfl:=si b;exact tr fol [3,5] (kAK k (decide ((J.toNat:Int)=45)) []) (ac (gw H) (ac (hs (.done (.opt (qdD ZT 9 (.str k) (.i 0))) (.int .u8 (J.toNat:Int))) (qjB st9 B)) az))
  obtain rfl:=si b;exact tr fol [3] [(0,.str k),(2,.ptr 0 0),(3,.bool false)] (ac (gw H) az)
 refine sq ?_;refine sh fol (kAK k e (kBL e)) ?_;obtain⟨L,g6,h⟩:=bnd h;refine Goes.imp (Q:=fun x s'=>(x= .normal/\ ∃C,C=L/\Sub s' (ofG 40 (kAK C e []),(kY [])))) ?_ ?_
 ·refine ihB g6 (fun O g6=>?_) (fun O g6=>?_)
  ·obtain⟨K,D,g6⟩:=bnd g6;refine gr fol [1] (kAK K e []) (ac (hs (.done (.opt (zD ZT 9 (.str k) (some (.i 1)) none none)) (.str K)) (qdZ st9 (some 1) none D)) az) ?_;obtain rfl:=si g6;exact⟨rfl,_,rfl,(Sub.refl _)⟩
  refine Goes.skip ?_;obtain rfl:=si g6;exact⟨rfl,_,rfl,(Sub.keep [0,2,3] rfl rfl)⟩
 rintro x s' ⟨rfl,C,rfl,hsub⟩;refine Goes.sub hsub ?_;refine sh fol (kAK C e [(4,.nilslice)]) ?_;refine sq (Goes.block ?_);obtain⟨F,g13,h⟩:=bnd h;refine Goes.imp (Q:=fun x s'=>(x= .exit 0/\ ∃f n,(f,n)=F/\Sub s' (ofG 40 (kAK n e [(4,.gslice 1 f.length 1)]),(kY (kA f []))))) ?_ ?_
 ·refine Goes.sub (s':=(ofG 40 (kAK C e [(4,.gslice 1 ([]:List Int).length 1)]),(kY kBG))) (Uc [] [some 0,none] rfl rfl (.keep (.same nS) (.kp (.keep (.same nB) (.keep .nil .nil)))) (.kb rfl (.same sn) (.fresh .nil))) ?_;refine Ud (fun M s=> ∃(p:List Int) (a:Str),s=(ofG 40 (kAK a e [(4,.gslice 1 p.length 1)]),(kY (kA p [])))/\qaU N M p a=some F) ?_ (m:=N) ⟨_,_,rfl,g13⟩;rintro M s ⟨p,a,rfl,g13⟩
  cases M with
  |zero=>simp only[qaU]at g13;cases g13
  |succ M=>
   rw[qaU]at g13;refine sq ?_;refine sh fol (kAK a e [(4,.gslice 1 p.length 1),(18,.bool (decide ((a.length:Int)>9)))]) ?_;refine ihD g13 (fun I g13=>?_) (fun I g13=>?_)
   ·refine Goes.skip ?_;refine Goes.block ?_;obtain⟨G,q,g13⟩:=bnd g13;obtain⟨o,r,g13⟩:=bnd g13;obtain⟨g,t,g13⟩:=bnd g13;refine sq (gq fol [5,6,8] (kAK a e [(4,.gslice 3 g.length 1)]) (kY (kAt o (kA g []))) (ac (hs (.done (.opt (zD ZT 9 (.str a) (some (.i (w64 ((a.length:Int)-9)))) none none)) (.str G)) (qdZ st9 (some (w64 ((a.length:Int)-9))) none q)) (ac (cv (qca N G r)) (ac (hs (.run [1,2] (jd ZT [22,22] (.gslice 1 p.length 1) (.slice 2 0 1 1 1)) (kY (kA p [.cells [.i o]])) (.gslice 3 g.length 1) (kY (kAt o (kA g []))) true) (qao qO (E:=encI) rfl (qee (E:=encI) (ys:=[o]) rfl rfl rfl rfl) (qfm (E:=encI) (l:=p) rfl rfl rfl t rfl))) az))) ?_);obtain⟨u,v,g13⟩:=bnd g13;refine gr fol [4] (kAK u e [(4,.gslice 3 g.length 1)]) (ac (hs (.done (.opt (zD ZT 9 (.str a) none (some (.i (w64 ((a.length:Int)-9)))) none)) (.str u)) (qdZ st9 none (some (w64 ((a.length:Int)-9))) v)) az) ?_;exact⟨M,(ofG 40 (kAK u e [(4,.gslice 1 g.length 1)]),(kY (kA g []))),Nat.lt_succ_self _,(Uc [] [some 0,some 3] rfl rfl (.keep (.same nS) (.kp (.keep (.same nB) (.keep (.gslice rfl) .nil)))) (.kb rfl (.same sn) (.ks .nil))),_,_,rfl,g13⟩
   refine Goes.exit ?_;obtain rfl:=si g13;exact⟨rfl,_,_,rfl,(Sub.keep [0,2,3,4] rfl rfl)⟩
 rintro x s' ⟨rfl,f,n,rfl,hsub⟩
 try dsimp only at h
 refine Goes.sub hsub ?_;obtain⟨j,y,h⟩:=bnd h;obtain⟨d,z,h⟩:=bnd h;obtain⟨c,A,h⟩:=bnd h;refine sq (gq fol [3,5,6] kAl (kAF c.neg c.w (kAt j (kAn d []))) (ac (cv (qca N n y)) (ac (hs (.run [1,2] (jd ZT [22,22] (.gslice 1 f.length 1) (.slice 2 0 1 1 1)) (kY (kA f [.cells [.i j]])) (.gslice 3 d.length 1) (kY (kAt j (kA d []))) true) (qao qO (E:=encI) rfl (qee (E:=encI) (ys:=[j]) rfl rfl rfl rfl) (qfm (E:=encI) (l:=f) rfl rfl rfl z rfl))) (ac (hs (.callF 215 [.bool e,.gslice 3 d.length 1] (kY (kAt j (kA d []))) [3] (.bool e::(kAq d)) (.agg (.bool c.neg::(kAq c.w)))) (qhz (FzL.cons (Ue tB) (FzL.cons (Fz.gs (E:=encI) rfl rfl (nl rfl)) FzL.nil)) (qau N e d A) (Still.agg (AllST.cons tB (AllST.cons (qx encI _ (nl rfl)) AllST.nil))))) az))) ?_);refine Goes.sub (show Sub (ofG 40 kAl,(kAF c.neg c.w (kAt j (kAn d [])))) (ofG 40 kAl,(kAF c.neg c.w []))from(Uc [] [some 0] rfl rfl (.kp .nil) (.kb rfl (.same sn) .nil))) ?_;refine Goes.ret ?_;obtain rfl:=si h;exact(gw2 [.agg (.bool c.neg::(kAq c.w))] (FzW.agg (qm.cons (Ua tB) (qm.cons (Ua (qx encI _ (nl rfl))) qm.nil))))
def qfJ (N:Nat) (a:Str):Option (zR×zR):=
 (qbI N a).bind fun b=>
 if b=(a.length:Int)then
 (qcC N a).bind fun c=>
 (qfx N 1).bind fun d=>
 some (c,d)
 else
 (cut a 0 b).bind fun e=>
 (qcC N e).bind fun f=>
 (cut a (w64 (b+1)) (a.length:Int)).bind fun g=>
 (qcC N g).bind fun h=>
 some (f,h)
theorem qjn (N:Nat) (a:Str) {res:zR×zR} (h:qfJ N a=some res):qc ZT (.fn 157) [.str a] [] (.tuple [.agg [.bool res.1.neg,vl encI res.1.w],.agg [.bool res.2.neg,vl encI res.2.w]]) []:=by
 unfold qfJ at h;refine Ub Tryz.func157 rfl rfl (m:=25) rfl (rs:=[.cell 2 184,.cell 3 184]) rfl (l:=(kBf a)) rfl ?_;refine sg fol ((0,.str a)::(kAB [])) (kY (kY [])) ?_;refine sh fol (kAB [(4,.str a)]) ?_;obtain⟨b,c,h⟩:=bnd h;refine sq (gr fol [1] (kAB ((4,.str a)::(kBA b))) (ac (cv (qfC N a c)) az) ?_);refine sq ?_;refine sh fol (kAB [(4,.str a),(5,.i b),(12,.bool (decide (b=(a.length:Int))))]) ?_;refine ihD h (fun t h=>?_) (fun t h=>?_)
 ·obtain⟨n,d,h⟩:=bnd h;obtain⟨o,e,h⟩:=bnd h;refine sq (gq fol [1,2] (kAB []) (kAF n.neg n.w (kAF o.neg o.w [])) (ac (cv (qdr N a d)) (ac (cv (qjH N 1 e)) az)) ?_);refine Goes.ret ?_;obtain rfl:=si h;exact(gw2 [.agg [.bool n.neg,vl encI n.w],.agg [.bool o.neg,vl encI o.w]] (FzW.tuple (qm.cons (FzW.agg (qm.cons (Ua tB) (qm.cons (Ua (qx encI _ (nl rfl))) qm.nil))) (qm.cons (FzW.agg (qm.cons (Ua tB) (qm.cons (Ua (qx encI _ (nl rfl))) qm.nil))) qm.nil))))
 refine Goes.skip ?_;obtain⟨r,f,h⟩:=bnd h;obtain⟨p,g,h⟩:=bnd h;obtain⟨s,j,h⟩:=bnd h;obtain⟨q,k,h⟩:=bnd h;refine sq (gq fol [2,3,7,8] (kAB []) (kAF p.neg p.w (kAF q.neg q.w [])) (ac (hs (.done (.opt (zD ZT 9 (.str a) none (some (.i b)) none)) (.str r)) (qdZ st9 none (some b) f)) (ac (cv (qdr N r g)) (ac (hs (.done (.opt (zD ZT 9 (.str a) (some (.i (w64 (b+1)))) none none)) (.str s)) (qdZ st9 (some (w64 (b+1))) none j)) (ac (cv (qdr N s k)) az)))) ?_);refine Goes.ret ?_;obtain rfl:=si h;exact(gw2 [.agg [.bool p.neg,vl encI p.w],.agg [.bool q.neg,vl encI q.w]] (FzW.tuple (qm.cons (FzW.agg (qm.cons (Ua tB) (qm.cons (Ua (qx encI _ (nl rfl))) qm.nil))) (qm.cons (FzW.agg (qm.cons (Ua tB) (qm.cons (Ua (qx encI _ (nl rfl))) qm.nil))) qm.nil))))
def qcn (N:Nat) (a:Str):Option Str:=
 (qfJ N a).bind fun b=>
 (qds N b.2 b.1).bind fun c=>
 some c
theorem qf9 (N:Nat) (a:Str) {res:Str} (h:qcn N a=some res):qc ZT (.fn 178) [.str a] [] (.str res) []:=by
 unfold qcn at h;refine Ub Tryz.func178 rfl rfl (m:=13) rfl (rs:=[.tmp 2]) rfl (l:=(kBf a)) rfl ?_;refine sh fol (kBf a) ?_;obtain⟨b,c,h⟩:=bnd h;refine sq (gq fol [1] (kBY []) (kAF b.1.neg b.1.w (kAF b.2.neg b.2.w [])) (ac (cv (qjn N a c)) az) ?_);obtain⟨e,d,h⟩:=bnd h;refine sq (gr fol [2] [(2,.str e)] (ac (cv (qg5 N b.2 b.1 d)) az) ?_);refine Goes.ret ?_;obtain rfl:=si h;exact(gw2 [.str e] (Ua tS))
def qf0 (N:Nat) (a:Str) (b:Str):Option Str:=
 (qcn N b).bind fun c=>
 (qbd N a c).bind fun d=>
 some d
theorem qlx (N:Nat) (a:Str) (b:Str) {res:Str} (h:qf0 N a b=some res):qc ZT (.fn 119) [.str a,.str b] [] (.str res) []:=by
 unfold qf0 at h;refine Ub Tryz.func119 rfl rfl (m:=9) rfl (rs:=[.tmp 4]) rfl (l:=(kAW a b [])) rfl ?_;refine sh fol (kAW a b []) ?_;obtain⟨f,c,h⟩:=bnd h;obtain⟨e,d,h⟩:=bnd h;refine sq (gr fol [2,3] [(4,.str e)] (ac (cv (qf9 N b c)) (ac (cv (qbX N a f d)) az)) ?_);refine Goes.ret ?_;obtain rfl:=si h;exact(gw2 [.str e] (Ua tS))
def jH (a:Int):Nat->(List Str)->Int->Option (List Str)
 |0,_,_=>none
 |K+1,b,c=>
  if c<a then
  (app 16 b [[48]]).bind fun d=>
  jH a K d (w64 (c+1))
  else
  some b
def qa3 (N:Nat) (a:Int):Option (List Str):=
 (jH a N ([]:List Str) 0).bind fun b=>
 some b
theorem qg8 (N:Nat) (a:Int) {j:List Str} (h:qa3 N a=some j):qc ZT (.fn 85) [.i a] [] (.gslice 0 j.length 1) (kM j):=by
 unfold qa3 at h;refine Um Tryz.func85 rfl rfl (m:=14) rfl (rs:=[.tmp 2]) rfl (l:=(kBW a)) rfl ?_;intro B hB;refine sh fol (kBW a) ?_;refine sh fol ((0,.i a)::(kBR [])) ?_;refine sq ?_;refine sh fol ((0,.i a)::(kBR kBV)) ?_;refine Goes.block ?_;obtain⟨k,g5,h⟩:=bnd h;refine Goes.imp (Q:=fun x s'=>(x= .exit 0/\ ∃f,f=k/\Sub s' (ofG 14 (kAs f []),(kM f)))) ?_ ?_
 ·refine Goes.sub (s':=(ofG 14 ((0,.i a)::(3,.gslice 0 ([]:List Str).length 1)::kBV),[.cells (([]:List Str).flatMap encS.c)])) (Uc [] [none] (by rw[hB];rfl) rfl (.keep (.same nI) (.keep .nil (.keep (.same nI) .nil))) (.fresh .nil)) ?_;refine Ud (fun M s=> ∃(b:List Str) (d:Int),s=(ofG 14 ((0,.i a)::(kAs b (kAd d))),(kM b))/\jH a M b d=some k) ?_ (m:=N) ⟨_,_,rfl,g5⟩;rintro M s ⟨b,d,rfl,g5⟩
  cases M with
  |zero=>simp only[jH]at g5;cases g5
  |succ M=>
   rw[jH]at g5;refine sq ?_;refine sh fol ((0,.i a)::(kAs b [(4,.i d),(7,.bool (decide (d<a)))])) ?_;refine ihD g5 (fun n g5=>?_) (fun n g5=>?_)
   ·refine Goes.skip ?_;refine sq (Goes.block ?_);obtain⟨e,g,g5⟩:=bnd g5;refine gq fol [2] ((0,.i a)::(3,.gslice 2 e.length 1)::(kAd d)) (.dead:: .cells [.str [48]]::(kM e)) (ac (hs (.run [0,1] (jd ZT [80,80] (.gslice 0 b.length 1) (.slice 1 0 1 1 1)) [.cells (b.flatMap encS.c),.cells [.str [48]]] (.gslice 2 e.length 1) (.dead:: .cells [.str [48]]::(kM e)) true) (qao qj0 (E:=encS) rfl (qee (E:=encS) (ys:=[[48]]) rfl rfl rfl rfl) (qfm (E:=encS) (l:=b) rfl rfl rfl g rfl))) az) ?_;refine gh fol ((0,.i a)::(3,.gslice 2 e.length 1)::(kAd (w64 (d+1)))) ?_;exact⟨M,(ofG 14 ((0,.i a)::(kAs e (kAd (w64 (d+1))))),(kM e)),Nat.lt_succ_self _,(Uc [] [some 2] (by rw[hB];rfl) rfl (.keep (.same nI) (.keep (.gslice rfl) (.keep (.same nI) .nil))) (.ks .nil)),_,_,rfl,g5⟩
   refine Goes.exit ?_;obtain rfl:=si g5;exact⟨rfl,_,rfl,(Sub.keep [3] rfl rfl)⟩
 rintro x s' ⟨rfl,f,rfl,hsub⟩;refine Goes.sub hsub ?_;refine sh fol [(2,.gslice 0 f.length 1)] ?_;refine Goes.ret ?_;obtain rfl:=si h;exact(gh2 [.gslice 0 f.length 1] (qdo.refl _ _))
def yD (N:Nat) (n:Int):Nat->(List (List Str))->Int->Option (List (List Str))
 |0,_,_=>none
 |K+1,c,a=>
  if a<n then
  (qa3 N n).bind fun d=>
  (idx d a).bind fun f=>
  (put d a [49]).bind fun e=>
  (app 24 c [e]).bind fun b=>
  yD N n K b (w64 (a+1))
  else
  some c
def vN (N:Nat) (n:Int) (w:List Int) (t:Str) (g:Int) (b:Int):Nat->(List (List Str))->Int->Option (List (List Str))
 |0,_,_=>none
 |K+1,c,a=>
  if a<n then
  (((idx c a).bind fun d=>
  (idx d (w64 (b-1))).bind fun e=>
  (idx d b).bind fun f=>
  (idx w g).bind fun p=>
  if p>0 then
  (idx (qh c a d) a).bind fun h=>
  (qdb N [49] t).bind fun q=>
  (qbd N e q).bind fun r=>
  (qct N r f).bind fun s=>
  (idx h (w64 (b-1))).bind fun D=>
  (put h (w64 (b-1)) s).bind fun i=>
  (idx (qh (qh c a d) a i) a).bind fun j=>
  (qbd N e t).bind fun u=>
  (idx j b).bind fun E=>
  (put j b u).bind fun v=>
  some (qh (qh (qh c a d) a i) a v)
  else
  (qf0 N [49] t).bind fun k=>
  (idx (qh c a d) a).bind fun l=>
  (qbd N f k).bind fun x=>
  (idx l (w64 (b-1))).bind fun F=>
  (put l (w64 (b-1)) x).bind fun m=>
  (idx (qh (qh c a d) a m) a).bind fun o=>
  (qdb N [49] k).bind fun y=>
  (qbd N f y).bind fun z=>
  (qct N e z).bind fun A=>
  (idx o b).bind fun G=>
  (put o b A).bind fun B=>
  some (qh (qh (qh c a d) a m) a B):Option (List (List Str)))).bind fun C=>
  vN N n w t g b K C (w64 (a+1))
  else
  some c
def yJ (N:Nat) (n:Int) (w:List Int) (t:Str):Nat->(List (List Str))->Int->Option (List (List Str))
 |0,_,_=>none
 |K+1,b,a=>
  if a<(w.length:Int)then
  (idx w a).bind fun c=>
  (xu c).bind fun d=>
  (vN N n w t a d N b 0).bind fun e=>
  yJ N n w t K e (w64 (a+1))
  else
  some b
def qbP (N:Nat) (n:Int) (w:List Int) (t:Str):Option (List (List Str)):=
 (yD N n N ([]:List (List Str)) 0).bind fun b=>
 (yJ N n w t N b 0).bind fun a=>
 some a
theorem qfe (N:Nat) (n:Int) (w:List Int) (t:Str) {res:List (List Str)} (h:qbP N n w t=some res):qc ZT (.fn 51) [.i n,vl encI w,.str t] [] (vl (qf encS) res) []:=by
 unfold qbP at h;refine Ub Tryz.func51 rfl rfl (m:=113) rfl (rs:=[.tmp 6]) rfl (l:=(kB n w [(2,.str t)])) rfl ?_;refine sh fol (kB n w [(2,.str t)]) ?_;refine sh fol (kB n w [(2,.str t),(7,.nilslice)]) ?_;refine sq ?_;refine sh fol (kB n w [(2,.str t),(7,.nilslice),(8,.i 0)]) ?_;refine Goes.block ?_;obtain⟨r4,g4,h⟩:=bnd h;refine Goes.imp (Q:=fun x s'=>(x= .exit 0/\ ∃l3,l3=r4/\Sub s' (ofG 113 (kB n w (kAG t l3 [])),[bg encS l3]))) ?_ ?_
 ·refine Goes.sub (s':=(ofG 113 (kB n w [(2,.str t),(7,.gslice 0 ([]:List (List Str)).length 1),(8,.i 0)]),[bg encS ([]:List (List Str))])) (Uc [] [none] rfl rfl (.keep (.same nI) (.keep (.same (qg encI _)) (.keep (.same nS) (.keep .nil (.keep (.same nI) .nil))))) (.fresh .nil)) ?_;refine Ud (fun M s=> ∃(B:List (List Str)) (J:Int),s=(ofG 113 (kB n w (kAG t B (kAk J))),[bg encS B])/\yD N n M B J=some r4) ?_ (m:=N) ⟨_,_,rfl,g4⟩;rintro M s ⟨B,J,rfl,g4⟩
  cases M with
  |zero=>simp only[yD]at g4;cases g4
  |succ M=>
   rw[yD]at g4;refine sq ?_;refine sh fol (kB n w (kAG t B [(8,.i J),(18,.bool (decide (J<n)))])) ?_;refine ihD g4 (fun c5 g4=>?_) (fun c5 g4=>?_)
   ·refine Goes.skip ?_;refine sq (Goes.block ?_);obtain⟨l7,e_r6,g4⟩:=bnd g4;refine sq (gq fol [1] (kB n w (kAG t B [(8,.i J),(9,.gslice 1 l7.length 1)])) (bg encS B::(kM l7)) (ac (hs (.callH 85 [.i n] [bg encS B] [] (.gslice 1 l7.length 1) (bg encS B::(kM l7))) (zQ [] [none,some 0] (qg8 N n e_r6) .nil rfl rfl (.old rfl rfl (.new rfl rfl (.same fa) rfl .nil)) (rc (.same nI) rn) (.gslice rfl) rfl)) az) ?_);obtain⟨x8,e_x8,g4⟩:=bnd g4;obtain⟨I,e_l9,g4⟩:=bnd g4;refine sq (gq fol [2,3] (kB n w (kAG t B [(8,.i J),(9,.gslice 1 l7.length 1)])) (bg encS B::(kM I)) (ac (hs (.done (.opt (qa ZT 80 (.gslice 1 l7.length 1) (.i J))) (.ptr 1 ((J:Int).toNat*1+0))) (zh qj0 e_x8)) (ac (hs (.run [1] (qC ZT 71 (.ptr 1 ((J:Int).toNat*1+0)) (.str [49])) (bg encS B::(kM l7)) .undef (bg encS B::(kM I)) true) (jX (E:=encS) (l:=l7) (y:=[49]) rfl (show _=some 1 by kernel_rfl) rfl e_x8 rfl rfl rfl rfl rfl e_l9 rfl)) az)) ?_);refine Goes.sub (show Sub (ofG 113 (kB n w (kAG t B [(8,.i J),(9,.gslice 1 l7.length 1)])),(bg encS B::(kM I))) (ofG 113 (kB n w (kAG t B [(8,.i J),(9,.gslice 1 I.length 1)])),(bg encS B::(kM I)))from(Uc [] [some 0,some 1] rfl rfl (.keep (.same nI) (.keep (.same (qg encI _)) (.keep (.same nS) (.keep (.gslice rfl) (.keep (.same nI) (.keep (.gsliceE rfl (qZ e_l9)) .nil)))))) (.kb rfl jm.bgs (.ks .nil)))) ?_;obtain⟨K,Y,g4⟩:=bnd g4;refine gq fol [3] (kB n w ((2,.str t)::(7,.gslice 3 K.length 1)::(kAk J))) (.dead:: .cells (I.flatMap encS.c)::(kAC I [.bag (B.map (qF encS)++[.av (.gslice 1 I.length 1)])])) (ac (hs (.run [0,2] (jd ZT [68,68] (.gslice 0 B.length 1) (.slice 2 0 1 1 1)) (bg encS B:: .cells (I.flatMap encS.c)::(kAC I [])) (.gslice 3 K.length 1) (.dead:: .cells (I.flatMap encS.c)::(kAC I [.bag (B.map (qF encS)++[.av (.gslice 1 I.length 1)])])) true) (qoD qlb (E:=encS) (l:=B) (x:=I) rfl rfl rfl rfl rfl Y rfl)) az) ?_;refine Goes.sub (show Sub (ofG 113 (kB n w ((2,.str t)::(7,.gslice 3 K.length 1)::(kAk J))),(.dead:: .cells (I.flatMap encS.c)::(kAC I [.bag (B.map (qF encS)++[.av (.gslice 1 I.length 1)])]))) (ofG 113 (kB n w ((2,.str t)::(7,.gslice 3 K.length 1)::(kAk J))),(.dead:: .dead::(kAC I [bg encS K])))from(Sub.bagGiveA (E:=encS) (b:=3) (c:=1) (Nat.ne_of_beq_eq_false rfl) rfl rfl Y .g rfl)) ?_;refine gh fol (kB n w ((2,.str t)::(7,.gslice 3 K.length 1)::(kAk (w64 (J+1))))) ?_;exact⟨M,(ofG 113 (kB n w (kAG t K (kAk (w64 (J+1))))),[bg encS K]),Nat.lt_succ_self _,(Uc [] [some 3] rfl rfl (.keep (.same nI) (.keep (.same (qg encI _)) (.keep (.same nS) (.keep (.gslice rfl) (.keep (.same nI) .nil))))) (.kb rfl jm.bgs .nil)),_,_,rfl,g4⟩
   refine Goes.exit ?_;obtain rfl:=si g4;exact⟨rfl,_,rfl,(Sub.keep [0,1,2,7] rfl rfl)⟩
 rintro x s' ⟨rfl,l3,rfl,hsub⟩;refine Goes.sub hsub ?_;refine sq ?_;refine sh fol (kB n w (kAG t l3 [(10,.i 0)])) ?_;refine Goes.block ?_;obtain⟨r14,g14,h⟩:=bnd h;refine Goes.imp (Q:=fun x s'=>(x= .exit 2/\ ∃L,L=r14/\Sub s' (ofG 113 [(7,.gslice 0 L.length 1)],[bg encS L]))) ?_ ?_
 ·refine Ud (fun M s=> ∃(O:List (List Str)) (j:Int),s=(ofG 113 (kB n w (kAG t O [(10,.i j)])),[bg encS O])/\yJ N n w t M O j=some r14) ?_ (m:=N) ⟨_,_,rfl,g14⟩;rintro M s ⟨O,j,rfl,g14⟩
  cases M with
  |zero=>simp only[yJ]at g14;cases g14
  |succ M=>
   rw[yJ]at g14;refine sq ?_;refine sh fol (kB n w (kAG t O [(10,.i j),(33,.bool (decide (j<(w.length:Int))))])) ?_;refine ihD g14 (fun c15 g14=>?_) (fun c15 g14=>?_)
   ·refine Goes.skip ?_;refine sq (Goes.block ?_);obtain⟨x16,Z,g14⟩:=bnd g14;obtain⟨f,e_r17,g14⟩:=bnd g14;refine sq (gr fol [2,3,4] (kB n w (kAG t O ((10,.i j)::(kBP f)))) (ac (iv qO encI Z) (ac (lv 0 ce3 encI Z rfl) (ac (cv (qcw x16 e_r17)) az))) ?_);refine sh fol (kB n w (kAG t O [(10,.i j),(11,.i f),(12,.i 0)])) ?_;refine Goes.block ?_;obtain⟨r21,g21,g14⟩:=bnd g14;refine Goes.imp (Q:=fun x s'=>(x= .exit 4/\ ∃P,P=r21/\Sub s' (ofG 113 (kB n w (kAG t P [(10,.i j)])),[bg encS P]))) ?_ ?_
    ·refine Ud (fun M s=> ∃(e:List (List Str)) (a:Int),s=(ofG 113 (kB n w (kE t e j f a [])),[bg encS e])/\vN N n w t j f M e a=some r21) ?_ (m:=N) ⟨_,_,rfl,g21⟩;rintro M s ⟨e,a,rfl,g21⟩
     cases M with
     |zero=>simp only[vN]at g21;cases g21
     |succ M=>
      rw[vN]at g21;refine sq ?_;refine sh fol (kB n w (kE t e j f a [(43,.bool (decide (a<n)))])) ?_;refine ihD g21 (fun c22 g21=>?_) (fun c22 g21=>?_)
      ·refine Goes.skip ?_;refine sq ?_;obtain⟨r24,g24,g21⟩:=bnd g21;refine Goes.imp (Q:=fun x s'=>(x= .normal/\ ∃U,U=r24/\Sub s' (ofG 113 (kB n w (kE t U j f a [])),[bg encS U]))) ?_ ?_
       ·refine Goes.block ?_;obtain⟨d,A,g24⟩:=bnd g24;refine sq (Goes.sub (s':=(ofG 113 (kB n w (kE t e j f a [(43,.bool (decide (a<n)))])),(.bag ((e.map (qF encS)).set (a:Int).toNat (.av (.gslice 1 d.length 1)))::(kM d)))) (Uk (E:=encS) (b:=0) rfl A) ?_);obtain⟨k,a0,g24⟩:=bnd g24;obtain⟨q,a1,g24⟩:=bnd g24;refine gr fol [2,3,6,7,10,11,13,14] (kB n w (kE t e j f a (kAi k q []))) (ac (hs (.done (.opt (qa ZT 68 (.gslice 0 e.length 1) (.i a))) (.ptr 0 ((a:Int).toNat*1+0))) (zh qlb A)) (ac (hs (.run [0] (qQ ZT 80 (.ptr 0 ((a:Int).toNat*1+0))) (.bag ((e.map (qF encS)).set (a:Int).toNat (.av (.gslice 1 d.length 1)))::(kM d)) (.gslice 1 d.length 1) (.bag ((e.map (qF encS)).set (a:Int).toNat (.av (.gslice 1 d.length 1)))::(kM d)) false) (qbV qlF rfl (at_set A))) (ac (hs (.done (.opt (qa ZT 80 (.gslice 1 d.length 1) (.i (w64 (f-1))))) (.ptr 1 ((w64 (f-1):Int).toNat*1+0))) (zh qj0 a0)) (ac (hs (.run [1] (qQ ZT 71 (.ptr 1 ((w64 (f-1):Int).toNat*1+0))) (.bag ((e.map (qF encS)).set (a:Int).toNat (.av (.gslice 1 d.length 1)))::(kM d)) (.str k) (.bag ((e.map (qF encS)).set (a:Int).toNat (.av (.gslice 1 d.length 1)))::(kM d)) false) (qa6 ce71 (E:=encS) (l:=d) rfl rfl a0 (nl rfl) rfl)) (ac (hs (.done (.opt (qa ZT 68 (.gslice 0 e.length 1) (.i a))) (.ptr 0 ((a:Int).toNat*1+0))) (zh qlb A)) (ac (hs (.run [0] (qQ ZT 80 (.ptr 0 ((a:Int).toNat*1+0))) (.bag ((e.map (qF encS)).set (a:Int).toNat (.av (.gslice 1 d.length 1)))::(kM d)) (.gslice 1 d.length 1) (.bag ((e.map (qF encS)).set (a:Int).toNat (.av (.gslice 1 d.length 1)))::(kM d)) false) (qbV qlF rfl (at_set A))) (ac (hs (.done (.opt (qa ZT 80 (.gslice 1 d.length 1) (.i f))) (.ptr 1 ((f:Int).toNat*1+0))) (zh qj0 a1)) (ac (hs (.run [1] (qQ ZT 71 (.ptr 1 ((f:Int).toNat*1+0))) (.bag ((e.map (qF encS)).set (a:Int).toNat (.av (.gslice 1 d.length 1)))::(kM d)) (.str q) (.bag ((e.map (qF encS)).set (a:Int).toNat (.av (.gslice 1 d.length 1)))::(kM d)) false) (qa6 ce71 (E:=encS) (l:=d) rfl rfl a1 (nl rfl) rfl)) az)))))))) ?_;refine Goes.sub ((show Sub (ofG 113 (kB n w (kE t e j f a (kAi k q []))),(.bag ((e.map (qF encS)).set (a:Int).toNat (.av (.gslice 1 d.length 1)))::(kM d))) (ofG 113 (kB n w (kE t e j f a (kAi k q []))),[bg encS (qh e a d),.dead])from(Ui (E:=encS) (b:=0) (c:=1) (Nat.ne_of_beq_eq_false rfl) rfl rfl A .g rfl)).trans (show Sub (ofG 113 (kB n w (kE t e j f a (kAi k q []))),[bg encS (qh e a d),.dead]) (ofG 113 (kB n w (kE t (qh e a d) j f a (kAi k q []))),[bg encS (qh e a d)])from(Uc [] [some 0] rfl rfl (.keep (.same nI) (.keep (.same (qg encI _)) (.keep (.same nS) (.keep (.gsliceE rfl (y7 _ _ _)) (.keep (.same nI) (.keep (.same nI) (.keep (.same nI) (.keep (.same nS) (.keep (.same nS) .nil))))))))) (.kb rfl jm.bgs .nil)))) ?_;obtain⟨x29,a2,g24⟩:=bnd g24;refine sq (gr fol [2,3] (kB n w (kE t (qh e a d) j f a (kAi k q [(65,.bool (decide (x29>0)))]))) (ac (iv qO encI a2) (ac (lv 0 ce3 encI a2 rfl) az)) ?_);refine ihD g24 (fun c30 g24=>?_) (fun c30 g24=>?_)
        ·obtain⟨r,D,g24⟩:=bnd g24;refine sq (Goes.sub (s':=(ofG 113 (kB n w (kE t (qh e a d) j f a (kAi k q [(65,.bool (decide (x29>0)))]))),(.bag (((qh e a d).map (qF encS)).set (a:Int).toNat (.av (.gslice 1 r.length 1)))::(kM r)))) (Uk (E:=encS) (b:=0) rfl D) ?_);obtain⟨r33,e_r33,g24⟩:=bnd g24;obtain⟨r34,e_r34,g24⟩:=bnd g24;obtain⟨r35,e_r35,g24⟩:=bnd g24;obtain⟨x36,a3,g24⟩:=bnd g24;obtain⟨o,a4,g24⟩:=bnd g24;refine gq fol [2,3,8,9,11,12,13] (kB n w (kE t (qh e a d) j f a [(13,.str k)])) (.bag (((qh e a d).map (qF encS)).set (a:Int).toNat (.av (.gslice 1 r.length 1)))::(kM o)) (ac (hs (.done (.opt (qa ZT 68 (.gslice 0 (qh e a d).length 1) (.i a))) (.ptr 0 ((a:Int).toNat*1+0))) (zh qlb D)) (ac (hs (.run [0] (qQ ZT 80 (.ptr 0 ((a:Int).toNat*1+0))) (.bag (((qh e a d).map (qF encS)).set (a:Int).toNat (.av (.gslice 1 r.length 1)))::(kM r)) (.gslice 1 r.length 1) (.bag (((qh e a d).map (qF encS)).set (a:Int).toNat (.av (.gslice 1 r.length 1)))::(kM r)) false) (qbV qlF rfl (at_set D))) (ac (cv (qho N [49] t e_r33)) (ac (cv (qbX N k r33 e_r34)) (ac (cv (qe2 N r34 q e_r35)) (ac (hs (.done (.opt (qa ZT 80 (.gslice 1 r.length 1) (.i (w64 (f-1))))) (.ptr 1 ((w64 (f-1):Int).toNat*1+0))) (zh qj0 a3)) (ac (hs (.run [1] (qC ZT 71 (.ptr 1 ((w64 (f-1):Int).toNat*1+0)) (.str r35)) (.bag (((qh e a d).map (qF encS)).set (a:Int).toNat (.av (.gslice 1 r.length 1)))::(kM r)) .undef (.bag (((qh e a d).map (qF encS)).set (a:Int).toNat (.av (.gslice 1 r.length 1)))::(kM o)) true) (jX (E:=encS) (l:=r) (y:=r35) rfl (show _=some 1 by kernel_rfl) rfl a3 rfl rfl rfl rfl rfl a4 rfl)) az))))))) ?_;refine Goes.sub ((show Sub (ofG 113 (kB n w (kE t (qh e a d) j f a [(13,.str k)])),(.bag (((qh e a d).map (qF encS)).set (a:Int).toNat (.av (.gslice 1 r.length 1)))::(kM o))) (ofG 113 (kB n w (kE t (qh e a d) j f a [(13,.str k)])),[bg encS (qh (qh e a d) a o),.dead])from(Ui (E:=encS) (b:=0) (c:=1) (Nat.ne_of_beq_eq_false rfl) rfl rfl D .g (qZ a4))).trans (show Sub (ofG 113 (kB n w (kE t (qh e a d) j f a [(13,.str k)])),[bg encS (qh (qh e a d) a o),.dead]) (ofG 113 (kB n w (kE t (qh (qh e a d) a o) j f a [(13,.str k)])),[bg encS (qh (qh e a d) a o)])from(Uc [] [some 0] rfl rfl (.keep (.same nI) (.keep (.same (qg encI _)) (.keep (.same nS) (.keep (.gsliceE rfl (y7 _ _ _)) (.keep (.same nI) (.keep (.same nI) (.keep (.same nI) (.keep (.same nS) .nil)))))))) (.kb rfl jm.bgs .nil)))) ?_;obtain⟨u,F,g24⟩:=bnd g24;refine Goes.sub (s':=(ofG 113 (kB n w (kE t (qh (qh e a d) a o) j f a [(13,.str k)])),(.bag (((qh (qh e a d) a o).map (qF encS)).set (a:Int).toNat (.av (.gslice 1 u.length 1)))::(kM u)))) (Uk (E:=encS) (b:=0) rfl F) ?_;obtain⟨r40,e_r40,g24⟩:=bnd g24;obtain⟨x41,a5,g24⟩:=bnd g24;obtain⟨V,a6,g24⟩:=bnd g24;refine gq fol [2,3,7,8,9] (kB n w (kE t (qh (qh e a d) a o) j f a [])) (.bag (((qh (qh e a d) a o).map (qF encS)).set (a:Int).toNat (.av (.gslice 1 u.length 1)))::(kM V)) (ac (hs (.done (.opt (qa ZT 68 (.gslice 0 (qh (qh e a d) a o).length 1) (.i a))) (.ptr 0 ((a:Int).toNat*1+0))) (zh qlb F)) (ac (hs (.run [0] (qQ ZT 80 (.ptr 0 ((a:Int).toNat*1+0))) (.bag (((qh (qh e a d) a o).map (qF encS)).set (a:Int).toNat (.av (.gslice 1 u.length 1)))::(kM u)) (.gslice 1 u.length 1) (.bag (((qh (qh e a d) a o).map (qF encS)).set (a:Int).toNat (.av (.gslice 1 u.length 1)))::(kM u)) false) (qbV qlF rfl (at_set F))) (ac (cv (qbX N k t e_r40)) (ac (hs (.done (.opt (qa ZT 80 (.gslice 1 u.length 1) (.i f))) (.ptr 1 ((f:Int).toNat*1+0))) (zh qj0 a5)) (ac (hs (.run [1] (qC ZT 71 (.ptr 1 ((f:Int).toNat*1+0)) (.str r40)) (.bag (((qh (qh e a d) a o).map (qF encS)).set (a:Int).toNat (.av (.gslice 1 u.length 1)))::(kM u)) .undef (.bag (((qh (qh e a d) a o).map (qF encS)).set (a:Int).toNat (.av (.gslice 1 u.length 1)))::(kM V)) true) (jX (E:=encS) (l:=u) (y:=r40) rfl (show _=some 1 by kernel_rfl) rfl a5 rfl rfl rfl rfl rfl a6 rfl)) az))))) ?_;obtain rfl:=si g24;exact⟨rfl,_,rfl,(((show Sub (ofG 113 (kB n w (kE t (qh (qh e a d) a o) j f a [])),(.bag (((qh (qh e a d) a o).map (qF encS)).set (a:Int).toNat (.av (.gslice 1 u.length 1)))::(kM V))) (ofG 113 (kB n w (kE t (qh (qh e a d) a o) j f a [])),[bg encS (qh (qh (qh e a d) a o) a V),.dead])from(Ui (E:=encS) (b:=0) (c:=1) (Nat.ne_of_beq_eq_false rfl) rfl rfl F .g (qZ a6))).trans (show Sub (ofG 113 (kB n w (kE t (qh (qh e a d) a o) j f a [])),[bg encS (qh (qh (qh e a d) a o) a V),.dead]) (ofG 113 (kB n w (kE t (qh (qh (qh e a d) a o) a V) j f a [])),[bg encS (qh (qh (qh e a d) a o) a V)])from(Uc [] [some 0] rfl rfl (.keep (.same nI) (.keep (.same (qg encI _)) (.keep (.same nS) (.keep (.gsliceE rfl (y7 _ _ _)) (.keep (.same nI) (.keep (.same nI) (.keep (.same nI) .nil))))))) (.kb rfl jm.bgs .nil)))).trans (Sub.refl _))⟩
        obtain⟨C,e_r43,g24⟩:=bnd g24;refine sq (gr fol [1] (kB n w (kE t (qh e a d) j f a (kAi k q [(15,.str C)]))) (ac (cv (qlx N [49] t e_r43)) az) ?_);obtain⟨v,G,g24⟩:=bnd g24;refine sq (Goes.sub (s':=(ofG 113 (kB n w (kE t (qh e a d) j f a (kAi k q [(15,.str C)]))),(.bag (((qh e a d).map (qF encS)).set (a:Int).toNat (.av (.gslice 1 v.length 1)))::(kM v)))) (Uk (E:=encS) (b:=0) rfl G) ?_);obtain⟨r46,e_r46,g24⟩:=bnd g24;obtain⟨x47,a7,g24⟩:=bnd g24;obtain⟨p,a8,g24⟩:=bnd g24;refine gq fol [2,3,8,9,10] (kB n w (kE t (qh e a d) j f a (kAi k q [(15,.str C)]))) (.bag (((qh e a d).map (qF encS)).set (a:Int).toNat (.av (.gslice 1 v.length 1)))::(kM p)) (ac (hs (.done (.opt (qa ZT 68 (.gslice 0 (qh e a d).length 1) (.i a))) (.ptr 0 ((a:Int).toNat*1+0))) (zh qlb G)) (ac (hs (.run [0] (qQ ZT 80 (.ptr 0 ((a:Int).toNat*1+0))) (.bag (((qh e a d).map (qF encS)).set (a:Int).toNat (.av (.gslice 1 v.length 1)))::(kM v)) (.gslice 1 v.length 1) (.bag (((qh e a d).map (qF encS)).set (a:Int).toNat (.av (.gslice 1 v.length 1)))::(kM v)) false) (qbV qlF rfl (at_set G))) (ac (cv (qbX N q C e_r46)) (ac (hs (.done (.opt (qa ZT 80 (.gslice 1 v.length 1) (.i (w64 (f-1))))) (.ptr 1 ((w64 (f-1):Int).toNat*1+0))) (zh qj0 a7)) (ac (hs (.run [1] (qC ZT 71 (.ptr 1 ((w64 (f-1):Int).toNat*1+0)) (.str r46)) (.bag (((qh e a d).map (qF encS)).set (a:Int).toNat (.av (.gslice 1 v.length 1)))::(kM v)) .undef (.bag (((qh e a d).map (qF encS)).set (a:Int).toNat (.av (.gslice 1 v.length 1)))::(kM p)) true) (jX (E:=encS) (l:=v) (y:=r46) rfl (show _=some 1 by kernel_rfl) rfl a7 rfl rfl rfl rfl rfl a8 rfl)) az))))) ?_;refine Goes.sub ((show Sub (ofG 113 (kB n w (kE t (qh e a d) j f a (kAi k q [(15,.str C)]))),(.bag (((qh e a d).map (qF encS)).set (a:Int).toNat (.av (.gslice 1 v.length 1)))::(kM p))) (ofG 113 (kB n w (kE t (qh e a d) j f a (kAi k q [(15,.str C)]))),[bg encS (qh (qh e a d) a p),.dead])from(Ui (E:=encS) (b:=0) (c:=1) (Nat.ne_of_beq_eq_false rfl) rfl rfl G .g (qZ a8))).trans (show Sub (ofG 113 (kB n w (kE t (qh e a d) j f a (kAi k q [(15,.str C)]))),[bg encS (qh (qh e a d) a p),.dead]) (ofG 113 (kB n w (kE t (qh (qh e a d) a p) j f a (kAi k q [(15,.str C)]))),[bg encS (qh (qh e a d) a p)])from(Uc [] [some 0] rfl rfl (.keep (.same nI) (.keep (.same (qg encI _)) (.keep (.same nS) (.keep (.gsliceE rfl (y7 _ _ _)) (.keep (.same nI) (.keep (.same nI) (.keep (.same nI) (.keep (.same nS) (.keep (.same nS) (.keep (.same nS) .nil)))))))))) (.kb rfl jm.bgs .nil)))) ?_;obtain⟨z,H,g24⟩:=bnd g24;refine Goes.sub (s':=(ofG 113 (kB n w (kE t (qh (qh e a d) a p) j f a (kAi k q [(15,.str C)]))),(.bag (((qh (qh e a d) a p).map (qF encS)).set (a:Int).toNat (.av (.gslice 1 z.length 1)))::(kM z)))) (Uk (E:=encS) (b:=0) rfl H) ?_;obtain⟨r51,e_r51,g24⟩:=bnd g24;obtain⟨r52,e_r52,g24⟩:=bnd g24;obtain⟨r53,e_r53,g24⟩:=bnd g24;obtain⟨x54,a9,g24⟩:=bnd g24;obtain⟨X,b0,g24⟩:=bnd g24;refine gq fol [2,3,8,9,10,11,12] (kB n w (kE t (qh (qh e a d) a p) j f a [])) (.bag (((qh (qh e a d) a p).map (qF encS)).set (a:Int).toNat (.av (.gslice 1 z.length 1)))::(kM X)) (ac (hs (.done (.opt (qa ZT 68 (.gslice 0 (qh (qh e a d) a p).length 1) (.i a))) (.ptr 0 ((a:Int).toNat*1+0))) (zh qlb H)) (ac (hs (.run [0] (qQ ZT 80 (.ptr 0 ((a:Int).toNat*1+0))) (.bag (((qh (qh e a d) a p).map (qF encS)).set (a:Int).toNat (.av (.gslice 1 z.length 1)))::(kM z)) (.gslice 1 z.length 1) (.bag (((qh (qh e a d) a p).map (qF encS)).set (a:Int).toNat (.av (.gslice 1 z.length 1)))::(kM z)) false) (qbV qlF rfl (at_set H))) (ac (cv (qho N [49] C e_r51)) (ac (cv (qbX N q r51 e_r52)) (ac (cv (qe2 N k r52 e_r53)) (ac (hs (.done (.opt (qa ZT 80 (.gslice 1 z.length 1) (.i f))) (.ptr 1 ((f:Int).toNat*1+0))) (zh qj0 a9)) (ac (hs (.run [1] (qC ZT 71 (.ptr 1 ((f:Int).toNat*1+0)) (.str r53)) (.bag (((qh (qh e a d) a p).map (qF encS)).set (a:Int).toNat (.av (.gslice 1 z.length 1)))::(kM z)) .undef (.bag (((qh (qh e a d) a p).map (qF encS)).set (a:Int).toNat (.av (.gslice 1 z.length 1)))::(kM X)) true) (jX (E:=encS) (l:=z) (y:=r53) rfl (show _=some 1 by kernel_rfl) rfl a9 rfl rfl rfl rfl rfl b0 rfl)) az))))))) ?_;obtain rfl:=si g24;exact⟨rfl,_,rfl,(((show Sub (ofG 113 (kB n w (kE t (qh (qh e a d) a p) j f a [])),(.bag (((qh (qh e a d) a p).map (qF encS)).set (a:Int).toNat (.av (.gslice 1 z.length 1)))::(kM X))) (ofG 113 (kB n w (kE t (qh (qh e a d) a p) j f a [])),[bg encS (qh (qh (qh e a d) a p) a X),.dead])from(Ui (E:=encS) (b:=0) (c:=1) (Nat.ne_of_beq_eq_false rfl) rfl rfl H .g (qZ b0))).trans (show Sub (ofG 113 (kB n w (kE t (qh (qh e a d) a p) j f a [])),[bg encS (qh (qh (qh e a d) a p) a X),.dead]) (ofG 113 (kB n w (kE t (qh (qh (qh e a d) a p) a X) j f a [])),[bg encS (qh (qh (qh e a d) a p) a X)])from(Uc [] [some 0] rfl rfl (.keep (.same nI) (.keep (.same (qg encI _)) (.keep (.same nS) (.keep (.gsliceE rfl (y7 _ _ _)) (.keep (.same nI) (.keep (.same nI) (.keep (.same nI) .nil))))))) (.kb rfl jm.bgs .nil)))).trans (Sub.refl _))⟩
       rintro x s' ⟨rfl,U,rfl,hsub⟩;refine Goes.sub hsub ?_;refine gh fol (kB n w (kE t U j f (w64 (a+1)) [])) ?_;exact⟨M,(ofG 113 (kB n w (kE t U j f (w64 (a+1)) [])),[bg encS U]),Nat.lt_succ_self _,(Sub.refl _),_,_,rfl,g21⟩
      refine Goes.exit ?_;obtain rfl:=si g21;exact⟨rfl,_,rfl,(Sub.keep [0,1,2,7,10] rfl rfl)⟩
    rintro x s' ⟨rfl,P,rfl,hsub⟩;refine Goes.sub hsub ?_;refine gh fol (kB n w (kAG t P [(10,.i (w64 (j+1)))])) ?_;exact⟨M,(ofG 113 (kB n w (kAG t P [(10,.i (w64 (j+1)))])),[bg encS P]),Nat.lt_succ_self _,(Sub.refl _),_,_,rfl,g14⟩
   refine Goes.exit ?_;obtain rfl:=si g14;exact⟨rfl,_,rfl,(Sub.keep [7] rfl rfl)⟩
 rintro x s' ⟨rfl,L,rfl,hsub⟩;refine Goes.sub hsub ?_;refine sh fol [(6,.gslice 0 L.length 1)] ?_;refine Goes.sub (s':=(ofG 113 [(6,.gslice 0 L.length 1)],[.frozen (L.flatMap (qf encS).c)])) (Uz (E:=encS) (b:=0) rfl) ?_;refine Goes.ret ?_;obtain rfl:=si h;exact(gw2 [.gslice 0 L.length 1] (Ut (Fz.gsF (E:=(qf encS)) rfl rfl (nl rfl))))
def qbY (N:Nat) (n:Int) (a:List Int) (b:List Int) (kind:Str):Option Bool:=
 if(kind==[101,120,112,111,110,101,110,116])=true then
 (xU N a).bind fun h=>
 (xU N b).bind fun i=>
 some (!decide (h=i))
 else
 if(kind==[112,101,114,109])=true then
 (qci N n a).bind fun j=>
 (qci N n b).bind fun k=>
 (yA N j k).bind fun l=>
 some (!l)
 else
 if(kind==[108,105,110,107])=true then
 (qcp N n a).bind fun m=>
 (qcp N n b).bind fun c=>
 (zU N m c).bind fun d=>
 some (!d)
 else
 if(kind==[98,117,114,97,117])=true then
 (qbP N n a [50]).bind fun e=>
 (qbP N n b [50]).bind fun f=>
 (xS N e f).bind fun g=>
 some (!g)
 else
 none
theorem qe4 (N:Nat) (n:Int) (a:List Int) (b:List Int) (kind:Str) {res:Bool} (h:qbY N n a b kind=some res):qc ZT (.fn 15) [.i n,vl encI a,vl encI b,.str kind] [] (.bool res) []:=by
 unfold qbY at h;refine Ub Tryz.func15 rfl rfl (m:=52) rfl (rs:=[.tmp 8]) rfl (l:=(kB n a (kBT b [(3,.str kind)]))) rfl ?_;refine sh fol (kB n a (kBT b [(3,.str kind)])) ?_;refine sq ?_;refine sh fol (kB n a (kBT b [(9,.str kind)])) ?_;refine Goes.block ?_;refine sh fol (kB n a (kBT b ((9,.str kind)::(kAv (kind==[101,120,112,111,110,101,110,116]))))) ?_;refine ihB h (fun B h=>?_) (fun B h=>?_)
 ·obtain⟨y,j,h⟩:=bnd h;obtain⟨z,k,h⟩:=bnd h;refine sq (gr fol [1,3] (kBb (!decide (y=z))) (ac (cv (qdN N a j)) (ac (cv (qdN N b k)) az)) ?_);refine Goes.ret ?_;obtain rfl:=si h;exact(gw2 [.bool (!decide (y=z))] (Ua tB))
 refine sh fol (kB n a (kBT b [(9,.str kind),(17,.bool (kind==[112,101,114,109]))])) ?_;refine ihB h (fun C h=>?_) (fun C h=>?_)
 ·obtain⟨D,o,h⟩:=bnd h;obtain⟨E,p,h⟩:=bnd h;obtain⟨A,q,h⟩:=bnd h;refine sq (gr fol [2,5,6] (kBb (!A)) (ac (cv (qgx N n a o)) (ac (cv (qgx N n b p)) (ac (cv (qaJ N D E q)) az))) ?_);refine Goes.ret ?_;obtain rfl:=si h;exact(gw2 [.bool (!A)] (Ua tB))
 refine sh fol (kB n a (kBT b [(9,.str kind),(27,.bool (kind==[108,105,110,107]))])) ?_;refine ihB h (fun F h=>?_) (fun F h=>?_)
 ·obtain⟨G,r,h⟩:=bnd h;obtain⟨u,c,h⟩:=bnd h;obtain⟨s,d,h⟩:=bnd h;refine sq (gr fol [2,5,6] (kBb (!s)) (ac (cv (qgs N n a r)) (ac (cv (qgs N n b c)) (ac (cv (qbA N G u d)) az))) ?_);refine Goes.ret ?_;obtain rfl:=si h;exact(gw2 [.bool (!s)] (Ua tB))
 refine sh fol (kB n a (kBT b [(37,.bool (kind==[98,117,114,97,117]))])) ?_;refine ihB h (fun v h=>?_) (fun v h=>?_)
 ·obtain⟨w,e,h⟩:=bnd h;obtain⟨x,f,h⟩:=bnd h;obtain⟨t,g,h⟩:=bnd h;refine sq (gr fol [2,5,6] (kBb (!t)) (ac (cv (qfe N n a [50] e)) (ac (cv (qfe N n b [50] f)) (ac (cv (qgh N w x g)) az))) ?_);refine Goes.ret ?_;obtain rfl:=si h;exact(gw2 [.bool (!t)] (Ua tB))
 refine Goes.skip ?_;refine sq ?_;cases h
def yR (N:Nat) (n:Int) (a:List Int) (b:List Int):Option Int:=
 (jS N n a).bind fun c=>
 (jS N n b).bind fun d=>
 (ku N ([c,d]:List Int)).bind fun e=>
 some e
theorem qdf (N:Nat) (n:Int) (a:List Int) (b:List Int) {res:Int} (h:yR N n a b=some res):qc ZT (.fn 53) (.i n::vl encI a::(kAq b)) [] (.i res) []:=by
 unfold yR at h;refine Ub Tryz.func53 rfl rfl (m:=15) rfl (rs:=[.tmp 6]) rfl (l:=(kB n a (kBT b []))) rfl ?_;refine sh fol (kB n a (kBT b [])) ?_;obtain⟨f,c,h⟩:=bnd h;obtain⟨g,d,h⟩:=bnd h;obtain⟨j,e,h⟩:=bnd h;refine sq (gq fol [2,5,7] [(6,.i j)] (kAE f g []) (ac (cv (qai N n a c)) (ac (cv (qai N n b d)) (ac (hs (.call 62 [.slice 0 0 2 2 1] (kAE f g []) [0] [vl encI ([f,g]:List Int)] (.i j)) (qal (FzL.cons (Fz.lit rfl rfl (Uj (AllST.cons tI (AllST.cons tI AllST.nil)))) FzL.nil) (zm N ([f,g]:List Int) e) tI rfl)) az))) ?_);refine Goes.ret ?_;obtain rfl:=si h;exact(gw2 [.i j] (Ua tI))
def zH (w:List Int):Nat->Int->Int->Option Int
 |0,_,_=>none
 |K+1,b,a=>
  if a<(w.length:Int)then
  (idx w a).bind fun c=>
  (zi c).bind fun d=>
  zH w K (w64 (b+d)) (w64 (a+1))
  else
  some b
def xy (N:Nat) (w:List Int):Option Int:=
 (zH w N 0 0).bind fun a=>
 some a
theorem qdM (N:Nat) (w:List Int) {res:Int} (h:xy N w=some res):qc ZT (.fn 73) [vl encI w] [] (.i res) []:=by
 unfold xy at h;refine Ub Tryz.func73 rfl rfl (m:=18) rfl (rs:=[.tmp 2]) rfl (l:=(kX w [])) rfl ?_;refine sh fol (kX w []) ?_;refine sh fol (kX w [(3,.i 0)]) ?_;refine sq ?_;refine sh fol ((3,.i 0)::(kBa w (w.length:Int) [(8,.i 0)])) ?_;refine Goes.block ?_;obtain⟨g,g4,h⟩:=bnd h;refine Goes.imp (Q:=fun x s'=>(x= .exit 0/\ ∃d,d=g/\Sub s' (ofG 18 [(3,.i d)],[]))) ?_ ?_
 ·refine Ud (fun M s=> ∃(b:Int) (a:Int),s=(ofG 18 ((3,.i b)::(kBa w (w.length:Int) (kAk a))),[])/\zH w M b a=some g) ?_ (m:=N) ⟨_,_,rfl,g4⟩;rintro M s ⟨b,a,rfl,g4⟩
  cases M with
  |zero=>simp only[zH]at g4;cases g4
  |succ M=>
   rw[zH]at g4;refine sh fol ((3,.i b)::(kBa w (w.length:Int) [(8,.i a),(9,.bool (decide (a<(w.length:Int))))])) ?_;refine sq ?_;refine ihD g4 (fun k g4=>?_) (fun k g4=>?_)
   ·refine Goes.skip ?_;refine sq (Goes.block ?_);obtain⟨j,c,g4⟩:=bnd g4;refine sq (gr fol [0,1] ((3,.i b)::(5,.i j)::(kBa w (w.length:Int) (kAk a))) (ac (iv qO encI c) (ac (lv 0 ce3 encI c rfl) az)) ?_);obtain⟨f,e,g4⟩:=bnd g4;refine gr fol [2] ((3,.i (w64 (b+f)))::(kBa w (w.length:Int) (kAk a))) (ac (cv (zz j e)) az) ?_;refine gh fol ((3,.i (w64 (b+f)))::(kBa w (w.length:Int) (kAk (w64 (a+1))))) ?_;exact⟨M,(ofG 18 ((3,.i (w64 (b+f)))::(kBa w (w.length:Int) (kAk (w64 (a+1))))),[]),Nat.lt_succ_self _,(Sub.refl _),_,_,rfl,g4⟩
   refine Goes.exit ?_;obtain rfl:=si g4;exact⟨rfl,_,rfl,(Sub.keep [3] rfl rfl)⟩
 rintro x s' ⟨rfl,d,rfl,hsub⟩;refine Goes.sub hsub ?_;refine sh fol [(2,.i d)] ?_;refine Goes.ret ?_;obtain rfl:=si h;exact(gw2 [.i d] (Ua tI))
def zG (b:List Int) (c:List Int):Nat->Int->Option (Unit⊕Bool)
 |0,_=>none
 |K+1,a=>
  if a<(b.length:Int)then
  (idx b a).bind fun d=>
  (idx c a).bind fun e=>
  if(!decide (d=e))=true then
  some (.inr false)
  else
  zG b c K (w64 (a+1))
  else
  some (.inl ())
def jr (N:Nat) (a:List Int) (b:List Int):Option Bool:=
 if(!decide ((a.length:Int)=(b.length:Int)))=true then
 some false
 else
 (zG a b N 0).bind (fun
 |(.inl ())=>
 some true
 |(.inr c)=>
 some c)
theorem qaC (N:Nat) (a:List Int) (b:List Int) {res:Bool} (h:jr N a b=some res):qc ZT (.fn 63) (vl encI a::(kAq b)) [] (.bool res) []:=by
 unfold jr at h;refine Ub Tryz.func63 rfl rfl (m:=26) rfl (rs:=[.tmp 4]) rfl (l:=(kJ a b [])) rfl ?_;refine sh fol (kJ a b []) ?_;refine sq ?_;refine sh fol (kJ a b (kAv (!decide ((a.length:Int)=(b.length:Int))))) ?_;refine ihB h (fun j h=>?_) (fun j h=>?_)
 ·refine sh fol kAP ?_;refine Goes.ret ?_;obtain rfl:=si h;exact(gw2 [.bool false] (Ua tB))
 refine Goes.skip ?_;refine sq ?_;refine sh fol (kJ a b [(12,.i (a.length:Int)),(13,.i 0)]) ?_;refine Goes.block ?_;obtain⟨f,g3,h⟩:=bnd h;refine Goes.imp (Q:=fun x s'=>(x= .exit 0/\(.inl ())=f/\Sub s' (ofG 26 [],[]))\/(x= .ret/\ ∃g,(.inr g)=f/\zo ZT [.tmp 4] (.bool g) .ret s')) ?_ ?_
 ·refine Ud (fun M s=> ∃(c:Int),s=(ofG 26 (kJ a b (kAX (a.length:Int) c)),[])/\zG a b M c=some f) ?_ (m:=N) ⟨_,rfl,g3⟩;rintro M s ⟨c,rfl,g3⟩
  cases M with
  |zero=>simp only[zG]at g3;cases g3
  |succ M=>
   rw[zG]at g3;refine sh fol (kJ a b ((12,.i (a.length:Int))::(13,.i c)::(kBK (decide (c<(a.length:Int)))))) ?_;refine sq ?_;refine ihD g3 (fun k g3=>?_) (fun k g3=>?_)
   ·refine Goes.skip ?_;refine sq (Goes.block ?_);refine sh fol (kJ a b ((5,.i c)::(kAX (a.length:Int) c))) ?_;obtain⟨n,d,g3⟩:=bnd g3;obtain⟨o,e,g3⟩:=bnd g3;refine sq (gr fol [2,3,6,7] (kJ a b [(12,.i (a.length:Int)),(13,.i c),(24,.bool (!decide (n=o)))]) (ac (iv qO encI d) (ac (lv 0 ce3 encI d rfl) (ac (iv qO encI e) (ac (lv 0 ce3 encI e rfl) az)))) ?_);refine ihB g3 (fun p g3=>?_) (fun p g3=>?_)
    ·refine sh fol kAP ?_;refine Goes.ret ?_;obtain rfl:=si g3;exact Or.inr (⟨rfl,_,rfl,(gw2 [.bool false] (Ua tB))⟩)
    refine Goes.skip ?_;refine gh fol (kJ a b (kAX (a.length:Int) (w64 (c+1)))) ?_;exact⟨M,(ofG 26 (kJ a b (kAX (a.length:Int) (w64 (c+1)))),[]),Nat.lt_succ_self _,(Sub.refl _),_,rfl,g3⟩
   refine Goes.exit ?_;obtain rfl:=si g3;exact Or.inl (⟨rfl,rfl,(Sub.keep [] rfl rfl)⟩)
 rintro x s' (⟨rfl,rfl,hsub⟩|⟨rfl,q,rfl,hret⟩)
 ·try dsimp only at h
  refine Goes.sub hsub ?_;refine sh fol kAw ?_;refine Goes.ret ?_;obtain rfl:=si h;exact(gw2 [.bool true] (Ua tB))
 try dsimp only at h
 obtain rfl:=si h;exact hret
end Go.Av
