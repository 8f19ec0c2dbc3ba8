/-
  The walk of the law.
-/
import Derived.Test.YtmffnhniejfgpaaGreatDoorQGenB4
import Derived.Test.YtmffnhniejfgpaaGreatDoorAvAwkB5
noncomputable section
namespace Go.Av
open Go.Proofs Go.RowKit
set_option linter.unusedSectionVars false
set_option linter.unusedVariables false
set_option linter.unusedSimpArgs false
set_option maxRecDepth 100000
def awk:Option Bool:=some true
theorem qbj {res:Bool} (h:awk=some res):qf ZT (.fn 8) [] [] (.bool res) []:=by
 obtain rfl:=si h
 exact qgq
def jm (N:Nat) (n:Int) (a:qcJ) (l:List qW):Option Bool:=
 ((awk).bind fun w=>
 if(!w)=true then
 some true
 else
 if(a.A.length:Int)>220 then
 some true
 else
 if(a.B.length:Int)>220 then
 some true
 else
 (jN N l).bind fun x=>
 (zG N x 30).bind fun y=>
 some (!y):Option Bool).bind fun z=>
 if z=true then
 (awk).bind fun h=>
 some h
 else
 (yg N n a.A l).bind fun d=>
 (jr N n a.A a.B l).bind fun i=>
 (zz N n a.A).bind fun c=>
 (zz N n a.B).bind fun j=>
 (jd N ([c,j]:List Int)).bind fun e=>
 ((if c=0 then
 (jN N l).bind fun k=>
 (vB N n a.A k).bind fun b=>
 (j4 (decide ((b.1.length:Int)>200)) 5).bind fun m=>
 (jd N ([b.2,m]:List Int)).bind fun o=>
 some (o,b.1,b.2)
 else
 some (c,[],0):Option (Int×(List Int)×Int))).bind fun(p,f,q)=>
 ((if e=0 then
 some q
 else
 some e:Option Int)).bind fun g=>
 ((if g=0 then
 (zx N f a.B).bind fun r=>
 (j4 (!r) 21).bind fun s=>
 some s
 else
 some g:Option Int)).bind fun t=>
 ((jI N d.1 d.2 p f).bind fun u=>
 if u=true then
 some (decide (i=t))
 else
 some false:Option Bool).bind fun v=>
 some v
theorem xR (N:Nat) (n:Int) (c:qcJ) (l:List qW) {res:Bool} (h:jm N n c l=some res):qf ZT (.fn 5) [.i n,.agg [vl encI c.A,vl encI c.B,.i c.K],vl qm l] [] (.bool res) []:=by
 unfold jm at h
 refine Uc Tryz.func5 rfl rfl (m:=100) rfl (rs:=[.tmp 6]) rfl (l:=((0,.i n)::(1,.agg [vl encI c.A,vl encI c.B,.i c.K])::(kAf l []))) rfl ?_
 refine sg fol (kAB n l []) (kAU c.A c.B c.K []) ?_
 refine sq ?_
 refine sq ?_
 obtain⟨b7,b,h⟩:=bnd h
 refine Goes.cut (s':=(ofG 100 (kAB n l [(33,.bool b7)]),(kAU c.A c.B c.K []))) ?_ ?_
 ·obtain⟨r1,p,b⟩:=bnd b
  rcases wyB b with⟨O,b⟩|⟨O,b⟩
  ·obtain rfl:=si b
   exact tr fol [0,2] (kAB n l [(33,.bool true)]) (ac (cv (qbj p)) (ac (gw O) az))
  rcases wyD b with⟨X,b⟩|⟨X,b⟩
  ·obtain rfl:=si b
   exact tr fol [0,2,8] (kAB n l [(33,.bool true)]) (ac (cv (qbj p)) (ac (gw O) (ac (gw X) az)))
  rcases wyD b with⟨Y,b⟩|⟨Y,b⟩
  ·obtain rfl:=si b
   exact tr fol [0,2,8,14] (kAB n l [(33,.bool true)]) (ac (cv (qbj p)) (ac (gw O) (ac (gw X) (ac (gw Y) az))))
  obtain⟨r5,P,b⟩:=bnd b
  obtain⟨r6,T,b⟩:=bnd b
  obtain rfl:=si b
  exact tr fol [0,2,8,14,16,17] (kAB n l [(33,.bool (!r6))]) (ac (cv (qbj p)) (ac (gw O) (ac (gw X) (ac (gw Y) (ac (cv (xn N l P)) (ac (cv (xQ N r5 30 T)) az))))))
 refine ihB h (fun c9 h=>?_) (fun c9 h=>?_)
 ·obtain⟨U,w,h⟩:=bnd h
  refine sq (gr fol [0] (kBG U) (ac (cv (qbj w)) az) ?_)
  refine Goes.ret ?_
  obtain rfl:=si h
  exact(gw2 [.bool U] (Ua tB))
 refine Goes.skip ?_
 obtain⟨a,y,h⟩:=bnd h
 refine sq (gr fol [4] (kAB n l ((7,vl encI a.1)::(kA2 a.2))) (ac (cv (qbv N n c.A l y)) az) ?_)
 obtain⟨d,z,h⟩:=bnd h
 refine sq (gr fol [6] (kAB n l (kN a.1 a.2 d [])) (ac (cv (xS N n c.A c.B l z)) az) ?_)
 obtain⟨f,C,h⟩:=bnd h
 refine sq (gr fol [3] (kAB n l (kN a.1 a.2 d (kBF f))) (ac (cv (vY N n c.A C)) az) ?_)
 obtain⟨q,D,h⟩:=bnd h
 obtain⟨k,E,h⟩:=bnd h
 refine sq (gq fol [4,6] (kAB n l (kN a.1 a.2 d (kAQ f k []))) (kAU c.A c.B c.K (kV f q)) (ac (cv (vY N n c.B D)) (ac (hs (.call 10 [.slice 1 0 2 2 1] (kAU c.A c.B c.K (kV f q)) [1] [vl encI ([f,q]:List Int)] (.i k)) (qD (FzL.cons (Fz.lit rfl rfl (Ub (AllST.cons tI (AllST.cons tI AllST.nil)))) FzL.nil) (y7 N ([f,q]:List Int) E) tI rfl)) az)) ?_)
 refine sh fol (kAB n l (kN a.1 a.2 d (kAQ f k [(12,.nilslice)]))) ?_
 refine sh fol (kAB n l (kN a.1 a.2 d (kAQ f k [(12,.nilslice),(13,.i 0)]))) ?_
 refine sq ?_
 refine sh fol (kAB n l (kN a.1 a.2 d (kAQ f k [(12,.nilslice),(13,.i 0),(62,.bool (decide (f=0)))]))) ?_
 obtain⟨Z,g19,h⟩:=bnd h
 refine Goes.imp (Q:=fun x s'=>(x= .normal/\ ∃j g r,(j,g,r)=Z/\Sub s' (ofG 100 (kA8 (kN a.1 a.2 d (kAQ j k [(12,vl encI g),(13,.i r)]))),(kAU c.A c.B c.K [])))) ?_ ?_
 ·refine ihD g19 (fun a0 g19=>?_) (fun a0 g19=>?_)
  ·obtain⟨a1,F,g19⟩:=bnd g19
   obtain⟨o,G,g19⟩:=bnd g19
   refine sq (gr fol [4,5] (kA8 (kN a.1 a.2 d [(11,.i k),(12,vl encI o.1),(13,.i o.2)])) (ac (cv (xn N l F)) (ac (cv (qbr N n c.A a1 G)) az)) ?_)
   obtain⟨u,H,g19⟩:=bnd g19
   obtain⟨V,I,g19⟩:=bnd g19
   refine gq fol [4,6] (kA8 (kN a.1 a.2 d (kAQ V k [(12,vl encI o.1),(13,.i o.2)]))) (kAU c.A c.B c.K (.cells [.i f,.i q]::(kV o.2 u))) (ac (cv (xW (decide ((o.1.length:Int)>200)) 5 H)) (ac (hs (.call 10 [.slice 2 0 2 2 1] (kAU c.A c.B c.K (.cells [.i f,.i q]::(kV o.2 u))) [2] [vl encI ([o.2,u]:List Int)] (.i V)) (qD (FzL.cons (Fz.lit rfl rfl (Ub (AllST.cons tI (AllST.cons tI AllST.nil)))) FzL.nil) (y7 N ([o.2,u]:List Int) I) tI rfl)) az)) ?_
   obtain rfl:=si g19
   exact⟨rfl,_,_,_,rfl,(Sub.norm [] [some 0] rfl rfl (.kp (.keep (.same (ql encI _)) (.keep (.same nI) (.keep (.same nI) (.keep (.same nI) (.keep (.same nI) (.keep (.same (ql encI _)) (.keep (.same nI) .nil)))))))) (.kb rfl (.same sn) .nil))⟩
  refine Goes.skip ?_
  obtain rfl:=si g19
  exact⟨rfl,_,_,_,rfl,(Sub.norm [] [some 0] rfl rfl (.drop (.drop (.kp (.keep (.same (ql encI _)) (.keep (.same nI) (.keep (.same nI) (.keep (.same nI) (.keep (.same nI) (.keep .nilv (.keep (.same nI) .nil)))))))))) (.kb rfl (.same sn) .nil))⟩
 rintro x s' ⟨rfl,j,g,r,rfl,hsub⟩
 try dsimp only at h
 refine Goes.sub hsub ?_
 refine sq ?_
 refine sh fol (kA8 (kN a.1 a.2 d (kAQ j k [(12,vl encI g),(13,.i r),(80,.bool (decide (k=0)))]))) ?_
 obtain⟨a2,g26,h⟩:=bnd h
 refine Goes.imp (Q:=fun x s'=>(x= .normal/\ ∃s,s=a2/\Sub s' (ofG 100 (kA8 (kN a.1 a.2 d (kAQ j s [(12,vl encI g)]))),(kAU c.A c.B c.K [])))) ?_ ?_
 ·refine ihD g26 (fun a3 g26=>?_) (fun a3 g26=>?_)
  ·refine gh fol (kA8 (kN a.1 a.2 d (kAQ j r [(12,vl encI g)]))) ?_
   obtain rfl:=si g26
   exact⟨rfl,_,rfl,(Sub.refl _)⟩
  refine Goes.skip ?_
  obtain rfl:=si g26
  exact⟨rfl,_,rfl,(Sub.keep [4,7,8,9,10,11,12] rfl rfl)⟩
 rintro x s' ⟨rfl,s,rfl,hsub⟩
 refine Goes.sub hsub ?_
 refine sq ?_
 refine sh fol (kA8 (kN a.1 a.2 d (kAQ j s [(12,vl encI g),(83,.bool (decide (s=0)))]))) ?_
 obtain⟨a4,g29,h⟩:=bnd h
 refine Goes.imp (Q:=fun x s'=>(x= .normal/\ ∃v,v=a4/\Sub s' (ofG 100 (kN a.1 a.2 d (kAQ j v [(12,vl encI g)])),[]))) ?_ ?_
 ·refine ihD g29 (fun a5 g29=>?_) (fun a5 g29=>?_)
  ·obtain⟨a6,J,g29⟩:=bnd g29
   obtain⟨a7,L,g29⟩:=bnd g29
   refine gr fol [3,5] (kN a.1 a.2 d (kAQ j a7 [(12,vl encI g)])) (ac (cv (yh N g c.B J)) (ac (cv (xW (!a6) 21 L)) az)) ?_
   obtain rfl:=si g29
   exact⟨rfl,_,rfl,(Sub.norm [] [] rfl rfl (.keep (.same (ql encI _)) (.keep (.same nI) (.keep (.same nI) (.keep (.same nI) (.keep (.same nI) (.keep (.same (ql encI _)) .nil)))))) .nil)⟩
  refine Goes.skip ?_
  obtain rfl:=si g29
  exact⟨rfl,_,rfl,(Sub.norm [] [] rfl rfl (.drop (.keep (.same (ql encI _)) (.keep (.same nI) (.keep (.same nI) (.keep (.same nI) (.keep (.same nI) (.keep (.same (ql encI _)) .nil))))))) .nil)⟩
 rintro x s' ⟨rfl,v,rfl,hsub⟩
 refine Goes.sub hsub ?_
 refine sq ?_
 obtain⟨W,e,h⟩:=bnd h
 refine Goes.cut (s':=(ofG 100 (kBG W),[])) ?_ ?_
 ·obtain⟨r33,t,e⟩:=bnd e
  rcases wyB e with⟨M,e⟩|⟨M,e⟩
  ·obtain rfl:=si e
   exact tr fol [4,5] (kBG (decide (d=v))) (ac (cv (qaa N a.1 a.2 j g t)) (ac (gw M) az))
  obtain rfl:=si e
  exact tr fol [4,5] [(6,.bool false)] (ac (cv (qaa N a.1 a.2 j g t)) (ac (gw M) az))
 refine Goes.ret ?_
 obtain rfl:=si h
 exact(gw2 [.bool W] (Ua tB))
end Go.Av
