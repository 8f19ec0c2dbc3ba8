/-
  Walks of functions: what each computes, as a plain function.
-/
import Derived.Test.YtbpkolibdibmeaaGreatQGenAc4
noncomputable section
namespace Go.Av
open Go.Proofs Go.RowKit
set_option linter.unusedSectionVars false
set_option linter.unusedVariables false
set_option linter.unusedSimpArgs false
set_option maxRecDepth 100000
def qau (n:Int) (w:List Int) (m:qx):Option ((List Int)×Int):=
 (qba m.Kind).bind fun a=>
 if a<0 then
 some ([],13)
 else
 (if a>0 then
 some (!decide (m.Letter=0))
 else
 some false:Option Bool).bind fun v=>
 if v=true then
 some ([],1)
 else
 (if a=0 then
 (qbg n m.Letter).bind fun x=>
 if(!x)=true then
 some true
 else
 if m.At<0 then
 some true
 else
 some (decide (m.At>(w64 ((w.length:Int)-a))))
 else
 if m.At<0 then
 some true
 else
 some (decide (m.At>(w64 ((w.length:Int)-a)))):Option Bool).bind fun e=>
 if e=true then
 some ([],3)
 else
 (cut w 0 m.At).bind fun f=>
 (cut w (w64 (m.At+a)) (w.length:Int)).bind fun g=>
 ((if(m.Kind==[105,110,115,101,114,116])=true then
 some (.inl ([m.Letter,w64 (0-m.Letter)]:List Int))
 else
 if(m.Kind==[99,97,110,99,101,108])=true then
 (idx w m.At).bind fun h=>
 (idx w (w64 (m.At+1))).bind fun i=>
 if(!decide (h=(w64 (0-i))))=true then
 some (.inr ([],18))
 else
 some (.inl [])
 else
 if(m.Kind==[115,119,97,112])=true then
 (idx w m.At).bind fun b=>
 (idx w (w64 (m.At+1))).bind fun c=>
 (jN b).bind fun j=>
 (jN c).bind fun k=>
 (jN (w64 (j-k))).bind fun l=>
 if l<2 then
 some (.inr ([],18))
 else
 some (.inl ([c,b]:List Int))
 else
 if(m.Kind==[116,117,114,110])=true then
 (idx w m.At).bind fun o=>
 (idx w (w64 (m.At+1))).bind fun p=>
 (idx w (w64 (m.At+2))).bind fun q=>
 (qds o p q).bind fun d=>
 if(!d.2)=true then
 some (.inr ([],18))
 else
 some (.inl d.1)
 else
 some (.inl []):Option ((List Int)⊕((List Int)×Int)))).bind (fun
 |(.inl r)=>
 (jJ f r).bind fun s=>
 (jJ s g).bind fun t=>
 some (t,0)
 |(.inr u)=>
 some u)
theorem qlU (n:Int) (w:List Int) (m:qx) {res:(List Int)×Int} (h:qau n w m=some res):qc ZT (.fn 34) (.i n::vl encI w::(kAW m.Kind m.At m.Letter)) [] (.tuple (kBk res.1 res.2)) []:=by
 unfold qau at h;refine Ub Tryz.func34 rfl rfl (m:=140) rfl (rs:=[.tmp 6,.tmp 7]) rfl (l:=(kC n w [(2,.agg [.str m.Kind,.i m.At,.i m.Letter])])) rfl ?_;refine sg fol (kC n w (kAO [])) (kF m.Kind m.At m.Letter []) ?_;obtain⟨e,L,h⟩:=bnd h;refine sq (gr fol [2] (kC n w (kAO (kAx e))) (ac (cv (qj1 m.Kind L)) az) ?_);refine sq ?_;refine sh fol (kC n w (kAO [(8,.i e),(20,.bool (decide (e<0)))])) ?_;refine ihD h (fun c2 h=>?_) (fun c2 h=>?_)
 ·refine sh fol (kAm [(7,.i 13)]) ?_;refine Goes.ret ?_;obtain rfl:=si h;exact(gw2 [.nilslice,.i 13] (FzW.tuple (ql.cons (FzW.nilv (E:=encI)) (ql.cons (Ua tI) ql.nil))))
 refine Goes.skip ?_;refine sq ?_;refine sq ?_;obtain⟨b4,d,h⟩:=bnd h;refine Goes.cut (s':=(ofG 140 (kC n w (kAO [(8,.i e),(27,.bool b4)])),(kF m.Kind m.At m.Letter []))) ?_ ?_
 ·rcases wyD d with⟨P,d⟩|⟨P,d⟩
  ·obtain rfl:=si d;exact tr fol [2] (kC n w (kAO [(8,.i e),(27,.bool (!decide (m.Letter=0)))])) (ac (gw P) az)
  obtain rfl:=si d;exact tr fol [2] (kC n w (kAO [(8,.i e),(27,.bool false)])) (ac (gw P) az)
 refine ihB h (fun c6 h=>?_) (fun c6 h=>?_)
 ·refine sh fol (kAm [(7,.i 1)]) ?_;refine Goes.ret ?_;obtain rfl:=si h;exact(gw2 [.nilslice,.i 1] (FzW.tuple (ql.cons (FzW.nilv (E:=encI)) (ql.cons (Ua tI) ql.nil))))
 refine Goes.skip ?_;refine sq ?_;refine sq ?_;obtain⟨T,a,h⟩:=bnd h;refine Goes.cut (s':=(ofG 140 (kBP w (kAO [(8,.i e),(50,.bool T)])),(kF m.Kind m.At m.Letter []))) ?_ ?_
 ·rcases wyD a with⟨K,a⟩|⟨K,a⟩
  ·obtain⟨r8,f,a⟩:=bnd a;rcases wyB a with⟨O,a⟩|⟨O,a⟩
   ·obtain rfl:=si a;exact tr fol [2,6,9] (kBP w (kAO [(8,.i e),(50,.bool true)])) (ac (gw K) (ac (cv (qbx n m.Letter f)) (ac (gw O) az)))
   rcases wyD a with⟨y,a⟩|⟨y,a⟩
   ·obtain rfl:=si a;exact tr fol [2,6,9,14] (kBP w (kAO [(8,.i e),(50,.bool true)])) (ac (gw K) (ac (cv (qbx n m.Letter f)) (ac (gw O) (ac (gw y) az))))
   obtain rfl:=si a;exact tr fol [2,6,9,14] (kBP w (kAO [(8,.i e),(50,.bool (decide (m.At>(w64 ((w.length:Int)-e)))))])) (ac (gw K) (ac (cv (qbx n m.Letter f)) (ac (gw O) (ac (gw y) az))))
  rcases wyD a with⟨z,a⟩|⟨z,a⟩
  ·obtain rfl:=si a;exact tr fol [2,14] (kBP w (kAO [(8,.i e),(50,.bool true)])) (ac (gw K) (ac (gw z) az))
  obtain rfl:=si a;exact tr fol [2,14] (kBP w (kAO [(8,.i e),(50,.bool (decide (m.At>(w64 ((w.length:Int)-e)))))])) (ac (gw K) (ac (gw z) az))
 refine ihB h (fun U h=>?_) (fun U h=>?_)
 ·refine sh fol (kAm [(7,.i 3)]) ?_;refine Goes.ret ?_;obtain rfl:=si h;exact(gw2 [.nilslice,.i 3] (FzW.tuple (ql.cons (FzW.nilv (E:=encI)) (ql.cons (Ua tI) ql.nil))))
 refine Goes.skip ?_;obtain⟨b,A,h⟩:=bnd h;obtain⟨c,B,h⟩:=bnd h;refine sq (gr fol [3,9] (kBP w (kAO (kAL b c []))) (ac (hs (.done (.opt (yM ZT 22 (vl encI w) none (some (.i m.At)) none)) (vl encI b)) (qjM zO (E:=encI) rfl none (some m.At) A)) (ac (hs (.done (.opt (yM ZT 22 (vl encI w) (some (.i (w64 (m.At+e)))) none none)) (vl encI c)) (qjM zO (E:=encI) rfl (some (w64 (m.At+e))) none B)) az)) ?_);refine sh fol (kBP w (kAO (kAL b c [(11,.nilslice)]))) ?_;refine sq ?_;refine sh fol (kBP w (kAO (kAL b c [(11,.nilslice),(62,.str m.Kind)]))) ?_;obtain⟨M,g18,h⟩:=bnd h;refine Goes.imp (Q:=fun x s'=>(x= .normal/\ ∃t,(.inl t)=M/\Sub s' (ofG 140 (kAL b c [(11,vl encI t)]),[]))\/(x= .ret/\ ∃C,(.inr C)=M/\jw ZT [.tmp 6,.tmp 7] (.tuple (kBk C.1 C.2)) .ret s')) ?_ ?_
 ·refine Goes.block ?_;refine sh fol (kBP w (kAO (kAL b c [(11,.nilslice),(62,.str m.Kind),(63,.bool (m.Kind==[105,110,115,101,114,116]))]))) ?_;refine ihB g18 (fun V g18=>?_) (fun V g18=>?_)
  ·refine Goes.rg fol (kAL b c [(11,.slice 1 0 2 2 1)]) (kF m.Kind m.At m.Letter (kW m.Letter (w64 (0-m.Letter)) [])) ?_;obtain rfl:=si g18;exact Or.inl (⟨rfl,_,rfl,(Uc [1] [] rfl rfl (.keep (.same (qa encI _)) (.keep (.same (qa encI _)) (.keep (.frz (Fz.lit rfl rfl (Uh (AllST.cons tI (AllST.cons tI AllST.nil)))) (qa encI _)) .nil))) .nil)⟩)
  refine sh fol (kBP w (kAO (kAL b c [(11,.nilslice),(62,.str m.Kind),(71,.bool (m.Kind==[99,97,110,99,101,108]))]))) ?_;refine ihB g18 (fun X g18=>?_) (fun X g18=>?_)
  ·obtain⟨Y,g,g18⟩:=bnd g18;obtain⟨Z,j,g18⟩:=bnd g18;refine sq (gr fol [3,4,9,10] (kAL b c [(11,.nilslice),(85,.bool (!decide (Y=(w64 (0-Z)))))]) (ac (iv zO encI g) (ac (lv 0 ce3 encI g rfl) (ac (iv zO encI j) (ac (lv 0 ce3 encI j rfl) az)))) ?_);refine ihB g18 (fun a0 g18=>?_) (fun a0 g18=>?_)
   ·refine sh fol (kAm [(7,.i 18)]) ?_;refine Goes.ret ?_;obtain rfl:=si g18;exact Or.inr (⟨rfl,_,rfl,(gw2 kBK (FzW.tuple (ql.cons (FzW.nilv (E:=encI)) (ql.cons (Ua tI) ql.nil))))⟩)
   refine Goes.skip ?_;obtain rfl:=si g18;exact Or.inl (⟨rfl,_,rfl,(Uc [] [] rfl rfl (.keep (.same (qa encI _)) (.keep (.same (qa encI _)) (.keep .nilv .nil))) .nil)⟩)
  refine sh fol (kBP w (kAO (kAL b c [(11,.nilslice),(62,.str m.Kind),(86,.bool (m.Kind==[115,119,97,112]))]))) ?_;refine ihB g18 (fun a1 g18=>?_) (fun a1 g18=>?_)
  ·obtain⟨u,k,g18⟩:=bnd g18;obtain⟨v,o,g18⟩:=bnd g18;refine sq (gr fol [3,4,9,10] (kAL b c (kAM u v [])) (ac (iv zO encI k) (ac (lv 0 ce3 encI k rfl) (ac (iv zO encI o) (ac (lv 0 ce3 encI o rfl) az)))) ?_);refine sq ?_;obtain⟨a2,D,g18⟩:=bnd g18;obtain⟨a3,F,g18⟩:=bnd g18;obtain⟨a4,G,g18⟩:=bnd g18;refine sq (gr fol [1,3,5] (kAL b c (kAM u v [(105,.bool (decide (a4<2)))])) (ac (cv (ja u D)) (ac (cv (ja v F)) (ac (cv (ja (w64 (a2-a3)) G)) az))) ?_);refine ihD g18 (fun a5 g18=>?_) (fun a5 g18=>?_)
   ·refine sh fol (kAm [(7,.i 18)]) ?_;refine Goes.ret ?_;obtain rfl:=si g18;exact Or.inr (⟨rfl,_,rfl,(gw2 kBK (FzW.tuple (ql.cons (FzW.nilv (E:=encI)) (ql.cons (Ua tI) ql.nil))))⟩)
   refine Goes.skip ?_;refine Goes.rg fol (kAL b c [(11,.slice 1 0 2 2 1)]) (kF m.Kind m.At m.Letter (kW v u [])) ?_;obtain rfl:=si g18;exact Or.inl (⟨rfl,_,rfl,(Uc [1] [] rfl rfl (.keep (.same (qa encI _)) (.keep (.same (qa encI _)) (.keep (.frz (Fz.lit rfl rfl (Uh (AllST.cons tI (AllST.cons tI AllST.nil)))) (qa encI _)) .nil))) .nil)⟩)
  refine sh fol (kBP w (kAO (kAL b c [(11,.nilslice),(109,.bool (m.Kind==[116,117,114,110]))]))) ?_;refine ihB g18 (fun a6 g18=>?_) (fun a6 g18=>?_)
  ·obtain⟨a7,p,g18⟩:=bnd g18;obtain⟨a8,q,g18⟩:=bnd g18;obtain⟨a9,r,g18⟩:=bnd g18;obtain⟨s,H,g18⟩:=bnd g18;refine sq (gr fol [3,4,9,10,15,16,17] (kAL b c [(14,vl encI s.1),(15,.bool s.2)]) (ac (iv zO encI p) (ac (lv 0 ce3 encI p rfl) (ac (iv zO encI q) (ac (lv 0 ce3 encI q rfl) (ac (iv zO encI r) (ac (lv 0 ce3 encI r rfl) (ac (cv (qjX a7 a8 a9 H)) az))))))) ?_);refine sq ?_;refine sh fol (kAL b c [(14,vl encI s.1),(133,.bool (!s.2))]) ?_;refine ihB g18 (fun b0 g18=>?_) (fun b0 g18=>?_)
   ·refine sh fol (kAm [(7,.i 18)]) ?_;refine Goes.ret ?_;obtain rfl:=si g18;exact Or.inr (⟨rfl,_,rfl,(gw2 kBK (FzW.tuple (ql.cons (FzW.nilv (E:=encI)) (ql.cons (Ua tI) ql.nil))))⟩)
   refine Goes.skip ?_;refine gh fol (kAL b c [(11,vl encI s.1)]) ?_;obtain rfl:=si g18;exact Or.inl (⟨rfl,_,rfl,(Uc [] [] rfl rfl (.keep (.same (qa encI _)) (.keep (.same (qa encI _)) (.keep (.same (qa encI _)) .nil))) .nil)⟩)
  refine Goes.skip ?_;obtain rfl:=si g18;exact Or.inl (⟨rfl,_,rfl,(Uc [] [] rfl rfl (.drop (.drop (.keep (.same (qa encI _)) (.keep (.same (qa encI _)) (.keep .nilv .nil))))) .nil)⟩)
 rintro x s' (⟨rfl,t,rfl,hsub⟩|⟨rfl,q40,rfl,hret⟩)
 ·try dsimp only at h
  refine Goes.sub hsub ?_;obtain⟨b1,I,h⟩:=bnd h;obtain⟨N,J,h⟩:=bnd h;refine sq (gr fol [2,4] ((6,vl encI N)::kBH) (ac (cv (xE b t I)) (ac (cv (xE b1 c J)) az)) ?_);refine Goes.ret ?_;obtain rfl:=si h;exact(gw2 [vl encI N,.i 0] (FzW.tuple (ql.cons (Ua (qC encI _ (nl rfl))) (ql.cons (Ua tI) ql.nil))))
 try dsimp only at h
 obtain rfl:=si h;exact hret
def zS (n:Int) (l:List qx):Nat->(List Int)->Int->(List qx)->Option ((List qx)⊕((List qx)×Bool))
 |0,_,_,_=>none
 |K+1,i,d,j=>
  if d<(l.length:Int)then
  (idx l d).bind fun a=>
  (qau n i a).bind fun k=>
  if(!decide (k.2=0))=true then
  some (.inr ([],false))
  else
  ((if(a.Kind==[105,110,115,101,114,116])=true then
  some ([99,97,110,99,101,108],0)
  else
  if(a.Kind==[99,97,110,99,101,108])=true then
  (idx i a.At).bind fun e=>
  some ([105,110,115,101,114,116],e)
  else
  some (a.Kind,a.Letter):Option (Str×Int))).bind fun(b,c)=>
  ((match j with
  |[]=>
  some ([(⟨b,a.At,c⟩:qx)]:List qx)
  |f::xs18=>
  (app 32 ([(⟨b,a.At,c⟩:qx)]:List qx) (f::xs18)).bind fun g=>
  some g):Option (List qx)).bind fun h=>
  zS n l K k.1 (w64 (d+1)) h
  else
  some (.inl j)
def yH (N:Nat) (n:Int) (w:List Int) (l:List qx):Option ((List qx)×Bool):=
 (zS n l N w 0 ([]:List qx)).bind (fun
 |(.inl b)=>
 some (b,true)
 |(.inr a)=>
 some a)
theorem qel (N:Nat) (n:Int) (w:List Int) (l:List qx) {res:(List qx)×Bool} (h:yH N n w l=some res):qc ZT (.fn 12) [.i n,vl encI w,vl qy l] [] (.tuple [vl qy res.1,.bool res.2]) []:=by
 unfold yH at h;refine Ub Tryz.func12 rfl rfl (m:=53) rfl (rs:=[.tmp 6,.tmp 7]) rfl (l:=(kC n w (kBU l []))) rfl ?_;refine sh fol (kC n w (kBU l [])) ?_;refine sh fol (kC n w (kBU l [(8,.nilslice)])) ?_;refine sq ?_;refine sh fol (kC n w (kBU l [(8,.nilslice),(14,.i (l.length:Int)),(15,.i 0)])) ?_;refine Goes.block ?_;obtain⟨v,g5,h⟩:=bnd h;refine Goes.imp (Q:=fun x s'=>(x= .exit 0/\ ∃t,(.inl t)=v/\Sub s' (ofG 53 [(8,vl qy t)],[]))\/(x= .ret/\ ∃y,(.inr y)=v/\jw ZT [.tmp 6,.tmp 7] (.tuple [vl qy y.1,.bool y.2]) .ret s')) ?_ ?_
 ·refine Goes.sub (s':=(ofG 53 (kC n w (kBU l [(8,vl qy ([]:List qx)),(14,.i (l.length:Int)),(15,.i 0)])),[])) (Uc [] [] rfl rfl (.keep (.same nI) (.keep (.same (qa encI _)) (.keep (.same (qa qy _)) (.keep .nilv (.keep (.same nI) (.keep (.same nI) .nil)))))) .nil) ?_;refine Ue (fun M s=> ∃(j:List Int) (e:Int) (g:List qx),s=(ofG 53 (kC n j (kAe l g (kA6 (l.length:Int) e))),[])/\zS n l M j e g=some v) ?_ (m:=N) ⟨_,_,_,rfl,g5⟩;rintro M s ⟨j,e,g,rfl,g5⟩
  cases M with
  |zero=>simp only[zS]at g5;cases g5
  |succ M=>
   rw[zS]at g5;refine sh fol (kC n j (kAe l g [(14,.i (l.length:Int)),(15,.i e),(16,.bool (decide (e<(l.length:Int))))])) ?_;refine sq ?_;refine ihD g5 (fun G g5=>?_) (fun G g5=>?_)
   ·refine Goes.skip ?_;refine sq (Goes.block ?_);refine sh fol (kC n j (kAe l g ((9,.i e)::(kA6 (l.length:Int) e)))) ?_;obtain⟨d,q,g5⟩:=bnd g5;refine sq (gq fol [2,3] (kC n j (kAe l g ((10,.ptr 0 0)::(kA6 (l.length:Int) e)))) (kF d.Kind d.At d.Letter []) (ac (iv qpT qy q) (ac (la ag60 qy q) az)) ?_);obtain⟨f,u,g5⟩:=bnd g5;refine sq (gr fol [3] (kC n j (kAe l g ((10,.ptr 0 0)::(11,vl encI f.1)::(12,.i f.2)::(kA6 (l.length:Int) e)))) (ac (cv (qlU n j d u)) az) ?_);refine sq ?_;refine sh fol (kC n j (kAF l g f.1 (l.length:Int) e [(30,.bool (!decide (f.2=0)))])) ?_;refine ihB g5 (fun z g5=>?_) (fun z g5=>?_)
    ·refine sh fol (kAm [(7,.bool false)]) ?_;refine Goes.ret ?_;obtain rfl:=si g5;exact Or.inr (⟨rfl,_,rfl,(gw2 [.nilslice,.bool false] (FzW.tuple (ql.cons (FzW.nilv (E:=qy)) (ql.cons (Ua tB) ql.nil))))⟩)
    refine Goes.skip ?_;refine sq ?_;refine sh fol (kC n j (kAF l g f.1 (l.length:Int) e [(32,.str d.Kind)])) ?_;obtain⟨A,g13,g5⟩:=bnd g5;refine Goes.imp (Q:=fun x s'=>(x= .normal/\ ∃a b,(a,b)=A/\Sub s' (ofG 53 ((0,.i n)::(kAF l g f.1 (l.length:Int) e [])),(kF a d.At b [])))) ?_ ?_
    ·refine Goes.block ?_;refine sh fol (kC n j (kAF l g f.1 (l.length:Int) e [(32,.str d.Kind),(33,.bool (d.Kind==[105,110,115,101,114,116]))])) ?_;refine ihB g13 (fun B g13=>?_) (fun B g13=>?_)
     ·refine Goes.rg fol ((0,.i n)::(kAF l g f.1 (l.length:Int) e [])) [.cells [.str [99,97,110,99,101,108],.i d.At,.i 0]] ?_;obtain rfl:=si g13;exact⟨rfl,_,_,rfl,(Sub.refl _)⟩
     refine sh fol (kC n j (kAF l g f.1 (l.length:Int) e [(37,.bool (d.Kind==[99,97,110,99,101,108]))])) ?_;refine ihB g13 (fun C g13=>?_) (fun C g13=>?_)
     ·obtain⟨D,k,g13⟩:=bnd g13;refine gq fol [3,4] ((0,.i n)::(kAF l g f.1 (l.length:Int) e [])) (kBY d.At D) (ac (iv zO encI k) (ac (lv 0 ce3 encI k rfl) az)) ?_;obtain rfl:=si g13;exact⟨rfl,_,_,rfl,(Sub.refl _)⟩
     refine Goes.skip ?_;obtain rfl:=si g13;exact⟨rfl,_,_,rfl,(Sub.keep [0,2,8,10,11,14,15] rfl rfl)⟩
    rintro x s' ⟨rfl,a,b,rfl,hsub⟩
    try dsimp only at g5
    refine Goes.sub hsub ?_;refine sq ?_;obtain⟨o,c,g5⟩:=bnd g5;refine Goes.cutS (s':=(ofG 53 ((0,.i n)::(kAe l o ((11,vl encI f.1)::(kA6 (l.length:Int) e)))),[])) ?_ ?_
    ·rcases g with _|⟨F,xs18⟩
     ·try dsimp only at c
      obtain rfl:=si c;exact jf.sub (jf.rq fol [3] ((0,.i n)::(kBU l ((8,.slice 1 0 1 1 3)::(11,vl encI f.1)::(kA6 (l.length:Int) e)))) (kF a d.At b (kF a d.At b [])) (ac (hs (.run [1] (vM ZT [31,31] (.slice 1 0 1 1 3) (vl qy ([]:List qx))) (kF a d.At b (kF a d.At b [])) (.slice 1 0 1 1 3) (kF a d.At b (kF a d.At b [])) true) (qut qpT (E:=qy) (l:=([(⟨a,d.At,b⟩:qx)]:List qx)) rfl rfl rfl rfl)) az)) (Uc [1] [] rfl rfl (.keep (.same nI) (.keep (.same (qa qy _)) (.keep (.frz (Fz.lit rfl rfl (Uh (AllST.cons tS (AllST.cons tI (AllST.cons tI AllST.nil))))) (qa qy _)) (.keep (.same (qa encI _)) (.keep (.same nI) (.keep (.same nI) .nil)))))) .nil)
     try dsimp only at c
     obtain⟨p,r,c⟩:=bnd c;obtain rfl:=si c;exact jf.sub (jf.rq fol [3] ((0,.i n)::(kBU l ((8,.oslice 2 p.length 3)::(11,vl encI f.1)::(kA6 (l.length:Int) e)))) (kF a d.At b (kF a d.At b (kJ p))) (ac (hs (.run [1] (vM ZT [31,31] (.slice 1 0 1 1 3) (vl qy (F::xs18))) (kF a d.At b (kF a d.At b [])) (.oslice 2 p.length 3) (kF a d.At b (kF a d.At b (kJ p))) false) (quh qpT (E:=qy) (l:=([(⟨a,d.At,b⟩:qx)]:List qx)) rfl rfl rfl rfl (Nat.succ_pos _) r rfl)) az)) (Uc [2] [] rfl rfl (.keep (.same nI) (.keep (.same (qa qy _)) (.keep (.frz (Fz.os (E:=qy) rfl rfl (nl rfl)) (qa qy _)) (.keep (.same (qa encI _)) (.keep (.same nI) (.keep (.same nI) .nil)))))) .nil)
    intro _ hsub;refine Goes.sub hsub ?_;refine gh fol (kC n f.1 (kAe l o (kA6 (l.length:Int) e))) ?_;refine gh fol (kC n f.1 (kAe l o (kA6 (l.length:Int) (w64 (e+1))))) ?_;exact⟨M,(ofG 53 (kC n f.1 (kAe l o (kA6 (l.length:Int) (w64 (e+1))))),[]),Nat.lt_succ_self _,(Sub.refl _),_,_,_,rfl,g5⟩
   refine Goes.exit ?_;obtain rfl:=si g5;exact Or.inl (⟨rfl,_,rfl,(Sub.keep [8] rfl rfl)⟩)
 rintro x s' (⟨rfl,t,rfl,hsub⟩|⟨rfl,H,rfl,hret⟩)
 ·try dsimp only at h
  refine Goes.sub hsub ?_;refine sh fol [(6,vl qy t),(7,.bool true)] ?_;refine Goes.ret ?_;obtain rfl:=si h;exact(gw2 (vl qy t::kBd) (FzW.tuple (ql.cons (Ua (qC qy _ (nl rfl))) (ql.cons (Ua tB) ql.nil))))
 try dsimp only at h
 obtain rfl:=si h;exact hret
def xc (N:Nat) (n:Int) (l:List qx):Nat->(List Int)->Int->Option ((List Int)⊕((List Int)×Int))
 |0,_,_=>none
 |K+1,c,b=>
  if b<(l.length:Int)then
  (idx l b).bind fun d=>
  (qJ N n c d).bind fun a=>
  if(!decide (a.2=0))=true then
  some (.inr ([],a.2))
  else
  xc N n l K a.1 (w64 (b+1))
  else
  some (.inl c)
def qdJ (N:Nat) (n:Int) (w:List Int) (l:List qx):Option ((List Int)×Int):=
 if(l.length:Int)>100000 then
 some ([],5)
 else
 (qdW w).bind fun _=>
 (xc N n l N w 0).bind (fun
 |(.inl b)=>
 some (b,0)
 |(.inr a)=>
 some a)
theorem qjD (N:Nat) (n:Int) (w:List Int) (l:List qx) {res:(List Int)×Int} (h:qdJ N n w l=some res):qc ZT (.fn 35) [.i n,vl encI w,vl qy l] [] (.tuple (kBk res.1 res.2)) []:=by
 unfold qdJ at h;refine Ub Tryz.func35 rfl rfl (m:=36) rfl (rs:=[.tmp 6,.tmp 7]) rfl (l:=(kC n w (kBU l []))) rfl ?_;refine sh fol (kC n w (kBU l [])) ?_;refine sq ?_;refine sh fol (kC n w (kBU l (kBR (decide ((l.length:Int)>100000))))) ?_;refine ihD h (fun q h=>?_) (fun q h=>?_)
 ·refine sh fol (kAm [(7,.i 5)]) ?_;refine Goes.ret ?_;obtain rfl:=si h;exact(gw2 [.nilslice,.i 5] (FzW.tuple (ql.cons (FzW.nilv (E:=encI)) (ql.cons (Ua tI) ql.nil))))
 refine Goes.skip ?_;obtain⟨_,f,h⟩:=bnd h;refine sq (gq fol [1] ((0,.i n)::(1,.gslice 0 w.length 1)::(kBU l [])) (kA w []) (ac (hs (.callH 26 [vl encI w] [] [] (.gslice 0 w.length 1) (kA w [])) (zH [] [some 0] (qda w f) .nil rfl rfl (.new rfl rfl (.same fa) rfl .nil) (rc (.same (qa encI _)) rn) (.gslice rfl) rfl)) az) ?_);refine sq ?_;refine sh fol [(0,.i n),(1,.gslice 0 w.length 1),(17,vl qy l),(18,.i (l.length:Int)),(19,.i 0)] ?_;refine Goes.block ?_;obtain⟨k,g6,h⟩:=bnd h;refine Goes.imp (Q:=fun x s'=>(x= .exit 0/\ ∃g,(.inl g)=k/\Sub s' (ofG 36 (kBP g []),[]))\/(x= .ret/\ ∃o,(.inr o)=k/\jw ZT [.tmp 6,.tmp 7] (.tuple (kBk o.1 o.2)) .ret s')) ?_ ?_
 ·refine Goes.sub (s':=(ofG 36 (kC n w [(17,vl qy l),(18,.i (l.length:Int)),(19,.i 0)]),[])) (Uc [0] [] rfl rfl (.keep (.same nI) (.keep (.frz (Fz.gs (E:=encI) rfl rfl (nl rfl)) (qa encI _)) (.keep (.same (qa qy _)) (.keep (.same nI) (.keep (.same nI) .nil))))) .nil) ?_;refine Ue (fun M s=> ∃(e:List Int) (b:Int),s=(ofG 36 (kC n e (kAl l (l.length:Int) b [])),[])/\xc N n l M e b=some k) ?_ (m:=N) ⟨_,_,rfl,g6⟩;rintro M s ⟨e,b,rfl,g6⟩
  cases M with
  |zero=>simp only[xc]at g6;cases g6
  |succ M=>
   rw[xc]at g6;refine sh fol (kC n e (kAl l (l.length:Int) b [(20,.bool (decide (b<(l.length:Int))))])) ?_;refine sq ?_;refine ihD g6 (fun r g6=>?_) (fun r g6=>?_)
   ·refine Goes.skip ?_;refine sq (Goes.block ?_);obtain⟨j,c,g6⟩:=bnd g6;refine sq (gq fol [0,1] (kC n e ((9,.ptr 0 0)::(kAl l (l.length:Int) b []))) (kF j.Kind j.At j.Letter []) (ac (iv qpT qy c) (ac (la ag60 qy c) az)) ?_);obtain⟨a,d,g6⟩:=bnd g6;refine sq (gr fol [3] ((0,.i n)::(10,vl encI a.1)::(11,.i a.2)::(kAl l (l.length:Int) b [])) (ac (cv (qdo N n e j d)) az) ?_);refine sq ?_;refine sh fol ((0,.i n)::(10,vl encI a.1)::(11,.i a.2)::(kAl l (l.length:Int) b [(31,.bool (!decide (a.2=0)))])) ?_;refine ihB g6 (fun p g6=>?_) (fun p g6=>?_)
    ·refine sh fol (kAm [(7,.i a.2)]) ?_;refine Goes.ret ?_;obtain rfl:=si g6;exact Or.inr (⟨rfl,_,rfl,(gw2 [.nilslice,.i a.2] (FzW.tuple (ql.cons (FzW.nilv (E:=encI)) (ql.cons (Ua tI) ql.nil))))⟩)
    refine Goes.skip ?_;refine gh fol (kC n a.1 (kAl l (l.length:Int) b [])) ?_;refine gh fol (kC n a.1 (kAl l (l.length:Int) (w64 (b+1)) [])) ?_;exact⟨M,(ofG 36 (kC n a.1 (kAl l (l.length:Int) (w64 (b+1)) [])),[]),Nat.lt_succ_self _,(Uc [] [] rfl rfl (.keep (.same nI) (.keep (.same (qa encI _)) (.keep (.same (qa qy _)) (.keep (.same nI) (.keep (.same nI) .nil))))) .nil),_,_,rfl,g6⟩
   refine Goes.exit ?_;obtain rfl:=si g6;exact Or.inl (⟨rfl,_,rfl,(Sub.keep [1] rfl rfl)⟩)
 rintro x s' (⟨rfl,g,rfl,hsub⟩|⟨rfl,t,rfl,hret⟩)
 ·try dsimp only at h
  refine Goes.sub hsub ?_;refine sh fol ((6,vl encI g)::kBH) ?_;refine Goes.ret ?_;obtain rfl:=si h;exact(gw2 [vl encI g,.i 0] (FzW.tuple (ql.cons (Ua (qC encI _ (nl rfl))) (ql.cons (Ua tI) ql.nil))))
 try dsimp only at h
 obtain rfl:=si h;exact hret
def yR (N:Nat) (n:Int) (a:List Int) (b:List Int) (l:List qx):Option Int:=
 (jK N n a b).bind fun c=>
 if(!decide (c=0))=true then
 some c
 else
 (qdJ N n a l).bind fun d=>
 (zG N d.1 b).bind fun e=>
 (qB (!e) 21).bind fun f=>
 (qO N ([d.2,f]:List Int)).bind fun g=>
 some g
theorem yG (N:Nat) (n:Int) (a:List Int) (b:List Int) (l:List qx) {res:Int} (h:yR N n a b l=some res):qc ZT (.fn 13) [.i n,vl encI a,vl encI b,vl qy l] [] (.i res) []:=by
 unfold yR at h;refine Ub Tryz.func13 rfl rfl (m:=34) rfl (rs:=[.tmp 8]) rfl (l:=(kC n a (kAp b [(3,vl qy l)]))) rfl ?_;refine sh fol (kC n a (kAp b [(3,vl qy l)])) ?_;refine sq ?_;obtain⟨d,e,h⟩:=bnd h;refine sq (gr fol [3] (kC n a (kAp b ((3,vl qy l)::(kBg d)))) (ac (cv (xq N n a b e)) az) ?_);refine sh fol (kC n a (kAp b [(3,vl qy l),(9,.i d),(17,.bool (!decide (d=0)))])) ?_;refine ihB h (fun q h=>?_) (fun q h=>?_)
 ·refine sh fol (kAx d) ?_;refine Goes.ret ?_;obtain rfl:=si h;exact(gw2 [.i d] (Ua tI))
 refine Goes.skip ?_;obtain⟨c,f,h⟩:=bnd h;refine sq (gr fol [3] (kAp b ((10,vl encI c.1)::(kBI c.2))) (ac (cv (qjD N n a l f)) az) ?_);obtain⟨r,g,h⟩:=bnd h;obtain⟨o,j,h⟩:=bnd h;obtain⟨p,k,h⟩:=bnd h;refine sq (gq fol [3,5,7] (kAx p) (kW c.2 o []) (ac (cv (qaS N c.1 b g)) (ac (cv (qh (!r) 21 j)) (ac (hs (.call 24 [.slice 0 0 2 2 1] (kW c.2 o []) [0] [vl encI ([c.2,o]:List Int)] (.i p)) (vZ (FzL.cons (Fz.lit rfl rfl (Uh (AllST.cons tI (AllST.cons tI AllST.nil)))) FzL.nil) (zy N ([c.2,o]:List Int) k) tI rfl)) az))) ?_);refine Goes.ret ?_;obtain rfl:=si h;exact(gw2 [.i p] (Ua tI))
end Go.Av
