/-
  Walks of functions: what each computes, as a plain function.
-/
import Derived.Test.YtmjcpcnaaolliaaGreatDoorQGenM2
noncomputable section
namespace Go.Av
open Go.Proofs Go.RowKit
set_option linter.unusedSectionVars false
set_option linter.unusedVariables false
set_option linter.unusedSimpArgs false
set_option maxRecDepth 100000
def jr (N:Nat):Nat->(List Str)->(List Int)->Option (List Str)
 |0,_,_=>none
 |K+1,i,j=>
  if(j.length:Int)>0 then
  (qaR N j ([1000000000000000000]:List Int)).bind fun b=>
  ((if(b.2.length:Int)>0 then
  (idx b.2 0).bind fun c=>
  (qhW c 10).bind fun d=>
  some d
  else
  some [48]:Option Str)).bind fun a=>
  ((if(b.1.length:Int)>0 then
  (qbV [48] (w64 (18-(a.length:Int)))).bind fun e=>
  (cat e a).bind fun f=>
  some f
  else
  some a:Option Str)).bind fun g=>
  (app 16 i [g]).bind fun h=>
  jr N K h b.1
  else
  some i
def zA (e:List Str):Nat->Bool->(Option (List Int))->Int->Option (Bool×(Option (List Int)))
 |0,_,_,_=>none
 |K+1,ok27,b,a=>
  if a>=0 then
  (idx e a).bind fun c=>
  (bWr ok27 b c).bind fun d=>
  zA e K true (some d) (w64 (a-1))
  else
  some (ok27,b)
def jZ (N:Nat) (a:qm):Option Str:=
 if a.w.isEmpty=true then
 (qmd a.s).bind fun h=>
 some h
 else
 (qL a).bind fun f=>
 (jr N N ([]:List Str) f.2).bind fun g=>
 ((if f.1=true then
 (bWr false (none:Option (List Int)) [45]).bind fun b=>
 some (true,(some b))
 else
 some (false,(none:Option (List Int))):Option (Bool×(Option (List Int))))).bind fun(ok21,c)=>
 (zA g N ok21 c (w64 ((g.length:Int)-1))).bind fun(ok30,d)=>
 (qnv ok30 d).bind fun e=>
 some e
theorem qac (N:Nat) (a:qm) {res:Str} (h:jZ N a=some res):qb ZT (.fn 222) [.agg (nz1 a)] [] (.str res) []:=by
 unfold jZ at h
 refine Ub Tryz.func222 rfl rfl (m:=69) rfl (rs:=[.tmp 2]) rfl (l:=[(0,.agg (nz1 a))]) rfl ?_
 refine sg fol (kAe []) [.cells (nz1 a)] ?_
 refine sq ?_
 refine sq (gr fol [2] (kAe [(14,.bool a.w.isEmpty)]) (ac (hs (.done (.opt (kL ZT .eql 93 (.tmp 13) (.const (.slice none 0 0)) (nvl (qa .u64) a.w) .nilslice)) (.bool a.w.isEmpty)) (qaL qaI)) az) ?_)
 refine ihB h (fun c1 h=>?_) (fun c1 h=>?_)
 ·obtain⟨r2,J,h⟩:=bnd h
  refine sq (gr fol [2] (kBP r2) (ac (cv (qnU a.s J)) az) ?_)
  refine Goes.ret ?_
  obtain rfl:=si h
  exact(gw2 [.str r2] (Ua tS))
 refine Goes.skip ?_
 obtain⟨d,K,h⟩:=bnd h
 refine sq (gr fol [1] (kBJ d.1 [(4,vl (qa .u64) d.2)]) (ac (cv (zP a K)) az) ?_)
 refine sg fol (kBJ d.1 [(4,vl (qa .u64) d.2),(5,.slice 1 0 1 1 1)]) [.cells (nz1 a),.cells [.int .u64 1000000000000000000]] ?_
 refine sh fol (kBJ d.1 [(4,vl (qa .u64) d.2),(5,.slice 1 0 1 1 1),(6,.nilslice)]) ?_
 refine sq (Goes.block ?_)
 obtain⟨r7,g7,h⟩:=bnd h
 refine Goes.imp (Q:=fun x s'=>(x= .exit 0/\ ∃b,b=r7/\Sub s' (ofG 69 (kBJ d.1 (kAF b [])),(kAI b [])))) ?_ ?_
 ·refine Goes.sub (s':=(ofG 69 (kBJ d.1 [(4,vl (qa .u64) d.2),(5,vl (qa .u64) ([1000000000000000000]:List Int)),(6,.gslice 0 ([]:List Str).length 1)]),[.cells (([]:List Str).flatMap encS.c)])) (Sub.norm [1] [none] rfl rfl (.keep (.same nB) (.keep (.same (qf (qa .u64) _)) (.keep (.frz (Fz.lit rfl rfl (Ue (AllST.cons tI AllST.nil))) (qf (qa .u64) _)) (.keep .nil .nil)))) (.fresh .nil)) ?_
  refine Uc (fun M s=> ∃(g:List Str) (I:List Int),s=(ofG 69 (kBJ d.1 ((4,vl (qa .u64) I)::(5,vl (qa .u64) ([1000000000000000000]:List Int))::(kAF g []))),(kAI g []))/\jr N M g I=some r7) ?_ (m:=N) ⟨_,_,rfl,g7⟩
  rintro M s ⟨g,I,rfl,g7⟩
  cases M with
  |zero=>simp only[jr]at g7;cases g7
  |succ M=>
   rw[jr]at g7
   refine sq ?_
   refine sh fol (kBJ d.1 ((4,vl (qa .u64) I)::(5,vl (qa .u64) ([1000000000000000000]:List Int))::(kAF g [(26,.bool (decide ((I.length:Int)>0)))]))) ?_
   refine ihD g7 (fun c8 g7=>?_) (fun c8 g7=>?_)
   ·refine Goes.skip ?_
    refine Goes.block ?_
    obtain⟨j,L,g7⟩:=bnd g7
    refine sq (gr fol [2] (kBJ d.1 ((5,vl (qa .u64) ([1000000000000000000]:List Int))::(kAF g [(7,vl (qa .u64) j.1),(8,vl (qa .u64) j.2)]))) (ac (cv (qfl N I ([1000000000000000000]:List Int) L)) az) ?_)
    refine sh fol (kBJ d.1 ((5,vl (qa .u64) ([1000000000000000000]:List Int))::(kAF g [(7,vl (qa .u64) j.1),(8,vl (qa .u64) j.2),(9,.str [48])]))) ?_
    refine sq ?_
    refine sh fol (kBJ d.1 ((5,vl (qa .u64) ([1000000000000000000]:List Int))::(kAF g [(7,vl (qa .u64) j.1),(8,vl (qa .u64) j.2),(9,.str [48]),(35,.bool (decide ((j.2.length:Int)>0)))]))) ?_
    obtain⟨U,g11,g7⟩:=bnd g7
    refine Goes.imp (Q:=fun x s'=>(x= .normal/\ ∃p,p=U/\Sub s' (ofG 69 (kBJ d.1 ((5,vl (qa .u64) ([1000000000000000000]:List Int))::(kAF g [(7,vl (qa .u64) j.1),(9,.str p)]))),(kAI g [])))) ?_ ?_
    ·refine ihD g11 (fun V g11=>?_) (fun V g11=>?_)
     ·obtain⟨X,r,g11⟩:=bnd g11
      obtain⟨Y,z,g11⟩:=bnd g11
      refine gr fol [1,2,3] (kBJ d.1 ((5,vl (qa .u64) ([1000000000000000000]:List Int))::(kAF g [(7,vl (qa .u64) j.1),(9,.str Y)]))) (ac (iv zS (qa .u64) r) (ac (lv 0 z8 (qa .u64) r rfl) (ac (cv (qoZ X 10 z)) az))) ?_
      obtain rfl:=si g11
      exact⟨rfl,_,rfl,(Sub.refl _)⟩
     refine Goes.skip ?_
     obtain rfl:=si g11
     exact⟨rfl,_,rfl,(Sub.keep [3,5,6,7,9] rfl rfl)⟩
    rintro x s' ⟨rfl,p,rfl,hsub⟩
    refine Goes.sub hsub ?_
    refine sq ?_
    refine sh fol (kBJ d.1 ((5,vl (qa .u64) ([1000000000000000000]:List Int))::(kAF g [(7,vl (qa .u64) j.1),(9,.str p),(42,.bool (decide ((j.1.length:Int)>0)))]))) ?_
    obtain⟨Z,g16,g7⟩:=bnd g7
    refine Goes.imp (Q:=fun x s'=>(x= .normal/\ ∃k,k=Z/\Sub s' (ofG 69 (kBJ d.1 ((5,vl (qa .u64) ([1000000000000000000]:List Int))::(kAF g [(7,vl (qa .u64) j.1),(9,.str k)]))),(kAI g [])))) ?_ ?_
    ·refine ihD g16 (fun a0 g16=>?_) (fun a0 g16=>?_)
     ·obtain⟨a1,A,g16⟩:=bnd g16
      obtain⟨O,B,g16⟩:=bnd g16
      refine gr fol [3,5] (kBJ d.1 ((5,vl (qa .u64) ([1000000000000000000]:List Int))::(kAF g [(7,vl (qa .u64) j.1),(9,.str O)]))) (ac (cv (qhY [48] (w64 (18-(p.length:Int))) A)) (ac (hs (.done (.opt (kL ZT .add 9 (.tmp 46) (.tmp 47) (.str a1) (.str p))) (.str O)) (qaC B)) az)) ?_
      obtain rfl:=si g16
      exact⟨rfl,_,rfl,(Sub.refl _)⟩
     refine Goes.skip ?_
     obtain rfl:=si g16
     exact⟨rfl,_,rfl,(Sub.keep [3,5,6,7,9] rfl rfl)⟩
    rintro x s' ⟨rfl,k,rfl,hsub⟩
    refine Goes.sub hsub ?_
    obtain⟨n,C,g7⟩:=bnd g7
    refine sq (gq fol [3] (kBJ d.1 [(5,vl (qa .u64) ([1000000000000000000]:List Int)),(6,.gslice 2 n.length 1),(7,vl (qa .u64) j.1)]) (.dead:: .cells [.str k]::(kAI n [])) (ac (hs (.run [0,1] (yM ZT [284,284] (.gslice 0 g.length 1) (.slice 1 0 1 1 1)) (kAI g [.cells [.str k]]) (.gslice 2 n.length 1) (.dead:: .cells [.str k]::(kAI n [])) true) (qbC qqH (E:=encS) rfl (qfN (E:=encS) (ys:=[k]) rfl rfl rfl rfl) (qgC (E:=encS) (l:=g) rfl rfl rfl C rfl))) az) ?_)
    refine gh fol (kBJ d.1 [(4,vl (qa .u64) j.1),(5,vl (qa .u64) ([1000000000000000000]:List Int)),(6,.gslice 2 n.length 1)]) ?_
    exact⟨M,(ofG 69 (kBJ d.1 ((4,vl (qa .u64) j.1)::(5,vl (qa .u64) ([1000000000000000000]:List Int))::(kAF n []))),(kAI n [])),Nat.lt_succ_self _,(Sub.norm [] [some 2] rfl rfl (.keep (.same nB) (.keep (.same (qf (qa .u64) _)) (.keep (.same (qf (qa .u64) _)) (.keep (.gslice rfl) .nil)))) (.ks .nil)),_,_,rfl,g7⟩
   refine Goes.exit ?_
   obtain rfl:=si g7
   exact⟨rfl,_,rfl,(Sub.keep [3,6] rfl rfl)⟩
 rintro x s' ⟨rfl,b,rfl,hsub⟩
 refine Goes.sub hsub ?_
 refine sg fol (kBJ d.1 (kAF b (kBL []))) (kAI b [.bld 189 5 [.nilptr,.nilslice]]) ?_
 refine sq ?_
 refine sh fol (kAF b (kBL [(54,.bool d.1)])) ?_
 obtain⟨a2,g23,h⟩:=bnd h
 refine Goes.imp (Q:=fun x s'=>(x= .normal/\ ∃ok21 u,(ok21,u)=a2/\Sub s' (ofG 69 (kAF b (kBL [])),(kAI b [.bld 189 5 [pz ok21 1 0,hsl 2 1 u],.cells ((hof u).flatMap (qa .u8).c)])))) ?_ ?_
 ·refine ihB g23 (fun a3 g23=>?_) (fun a3 g23=>?_)
  ·refine Goes.sub (s':=(ofG 69 (kAF b (kBL [(54,.bool d.1)])),(kAI b [.bld 189 5 [pz false 1 0,.nilslice]]))) (Sub.norm [] [some 0,some 1] rfl rfl (.keep (.gslice rfl) (.kp (.keep (.same nB) .nil))) (.ks (.kb rfl (.bld (rc (ji.pz0) (rc (.same (qD.nilslice)) rn))) .nil))) ?_
   refine Goes.sub (s':=(ofG 69 (kAF b (kBL [(54,.bool d.1)])),(kAI b [.bld 189 5 [pz false 1 0,hsl 2 1 (none:Option (List Int))],.cells ((hof (none:Option (List Int))).flatMap (qa .u8).c)]))) (Sub.norm [] [some 0,some 1,none] rfl rfl (.keep (.gslice rfl) (.kp (.keep (.same nB) .nil))) (.ks (.kb rfl (.bld (rc (ji.pz0) (rc .hs0 rn))) (.fresh .nil)))) ?_
   obtain⟨v,D,g23⟩:=bnd g23
   refine gq fol [0] (kAF b (kBL [])) (kAI b [.bld 189 5 [pz true 1 0,hsl 3 1 (some v)],.dead,.cells ((hof (some v)).flatMap (qa .u8).c)]) (ac (hs (.callH 150 [.ptr 1 0,.str [45]] (kAI b [.bld 189 5 [pz false 1 0,hsl 2 1 (none:Option (List Int))],.cells ((hof (none:Option (List Int))).flatMap (qa .u8).c)]) [1,2] (.tuple [.i (([45].length:Nat):Int),.niliface]) (kAI b [.bld 189 5 [pz true 1 0,hsl 3 1 (some v)],.dead,.cells ((hof (some v)).flatMap (qa .u8).c)])) (qgw [some 1,some 2] [none,some 0,none,some 2] (qoL false (none:Option (List Int)) [45] D) (.kb rfl (.bld (rc (ji.pz0) (rc .hs0 rn))) (.ks .nil)) rfl rfl (.old rfl rfl (.back rfl rfl (.bld (rc ((ji.pz rfl)) (rc (.hs rfl) rn))) rfl (.dead (.new rfl rfl (.same fa) rfl .nil)))) (rc (.ptr rfl) (rc (.same nS) rn)) (.same (qD.tuple sn)) rfl)) az) ?_
   obtain rfl:=si g23
   exact⟨rfl,_,_,rfl,(Sub.norm [] [some 0,some 1,some 3] rfl rfl (.keep (.gslice rfl) (.kp .nil)) (.ks (.kb rfl (.bld (rc ((ji.pz rfl)) (rc (.hs rfl) rn))) (.ks .nil))))⟩
  refine Goes.skip ?_
  obtain rfl:=si g23
  exact⟨rfl,_,_,rfl,(Sub.norm [] [some 0,some 1,none] rfl rfl (.keep (.gslice rfl) (.kp .nil)) (.ks (.kb rfl (.bld (rc (ji.pz0) (rc .hs0 rn))) (.fresh .nil))))⟩
 rintro x s' ⟨rfl,ok21,u,rfl,hsub⟩
 try dsimp only at h
 refine Goes.sub hsub ?_
 refine sq ?_
 refine sh fol (kAF b (kBL [(11,.i (w64 ((b.length:Int)-1)))])) ?_
 refine Goes.block ?_
 obtain⟨P,g32,h⟩:=bnd h
 refine Goes.imp (Q:=fun x s'=>(x= .exit 2/\ ∃ok30 o,(ok30,o)=P/\Sub s' (ofG 69 [(10,.ptr 0 0)],[.bld 189 5 [pz ok30 0 0,hsl 1 1 o],.cells ((hof o).flatMap (qa .u8).c)]))) ?_ ?_
 ·refine Uc (fun M s=> ∃(ok27:Bool) (e:Option (List Int)) (f:Int),s=(ofG 69 (kAF b (kBL [(11,.i f)])),(kAI b [.bld 189 5 [pz ok27 1 0,hsl 2 1 e],.cells ((hof e).flatMap (qa .u8).c)]))/\zA b M ok27 e f=some P) ?_ (m:=N) ⟨_,_,_,rfl,g32⟩
  rintro M s ⟨ok27,e,f,rfl,g32⟩
  cases M with
  |zero=>simp only[zA]at g32;cases g32
  |succ M=>
   rw[zA]at g32
   refine sq ?_
   refine sh fol (kAF b (kBL [(11,.i f),(60,.bool (decide (f>=0)))])) ?_
   refine ihD g32 (fun a4 g32=>?_) (fun a4 g32=>?_)
   ·refine Goes.skip ?_
    refine sq (Goes.block ?_)
    obtain⟨y,t,g32⟩:=bnd g32
    obtain⟨q,F,g32⟩:=bnd g32
    refine gq fol [2,3,4] (kAF b (kBL [(11,.i f)])) (kAI b [.bld 189 5 [pz true 1 0,hsl 3 1 (some q)],.dead,.cells ((hof (some q)).flatMap (qa .u8).c)]) (ac (hs (.done (.opt (qj ZT 284 (.gslice 0 b.length 1) (.i f))) (.ptr 0 ((f:Int).toNat*1+0))) (ix_gs qqH t)) (ac (hs (.run [0] (jo ZT 9 (.ptr 0 ((f:Int).toNat*1+0))) (kAI b [.bld 189 5 [pz ok27 1 0,hsl 2 1 e],.cells ((hof e).flatMap (qa .u8).c)]) (.str y) (kAI b [.bld 189 5 [pz ok27 1 0,hsl 2 1 e],.cells ((hof e).flatMap (qa .u8).c)]) false) (qcC ce9 (E:=encS) (l:=b) rfl rfl t (nl rfl) rfl)) (ac (hs (.callH 150 [.ptr 1 0,.str y] (kAI b [.bld 189 5 [pz ok27 1 0,hsl 2 1 e],.cells ((hof e).flatMap (qa .u8).c)]) [1,2] (.tuple [.i ((y.length:Nat):Int),.niliface]) (kAI b [.bld 189 5 [pz true 1 0,hsl 3 1 (some q)],.dead,.cells ((hof (some q)).flatMap (qa .u8).c)])) (qgw [some 1,some 2] [none,some 0,none,some 2] (qoL ok27 e y F) (.kb rfl (.bld (rc ((ji.pz rfl)) (rc (.hs rfl) rn))) (.ks .nil)) rfl rfl (.old rfl rfl (.back rfl rfl (.bld (rc ((ji.pz rfl)) (rc (.hs rfl) rn))) rfl (.dead (.new rfl rfl (.same fa) rfl .nil)))) (rc (.ptr rfl) (rc (.same nS) rn)) (.same (qD.tuple sn)) rfl)) az))) ?_
    refine gh fol (kAF b (kBL [(11,.i (w64 (f-1)))])) ?_
    exact⟨M,(ofG 69 (kAF b (kBL [(11,.i (w64 (f-1)))])),(kAI b [.bld 189 5 [pz true 1 0,hsl 2 1 (some q)],.cells ((hof (some q)).flatMap (qa .u8).c)])),Nat.lt_succ_self _,(Sub.norm [] [some 0,some 1,some 3] rfl rfl (.keep (.gslice rfl) (.kp (.keep (.same nI) .nil))) (.ks (.kb rfl (.bld (rc ((ji.pz rfl)) (rc (.hs rfl) rn))) (.ks .nil)))),_,_,_,rfl,g32⟩
   refine Goes.exit ?_
   obtain rfl:=si g32
   exact⟨rfl,_,_,rfl,(Sub.norm [] [some 1,some 2] rfl rfl (.drop (.kp .nil)) (.kb rfl (.bld (rc ((ji.pz rfl)) (rc (.hs rfl) rn))) (.ks .nil)))⟩
 rintro x s' ⟨rfl,ok30,o,rfl,hsub⟩
 try dsimp only at h
 refine Goes.sub hsub ?_
 obtain⟨G,H,h⟩:=bnd h
 refine sq (gq fol [0] (kBP G) [.dead,.dead] (ac (hs (.callH 152 [.ptr 0 0] [.bld 189 5 [pz ok30 0 0,hsl 1 1 o],.cells ((hof o).flatMap (qa .u8).c)] [0,1] (.str G) [.dead,.dead]) (qgw [some 0,some 1] [none,none] (qqz ok30 o H) (.kb rfl (.bld (rc ((ji.pz rfl)) (rc (.hs rfl) rn))) (.ks .nil)) rfl rfl (.dead (.dead .nil)) (rc (.ptr rfl) rn) (.same nS) rfl)) az) ?_)
 refine Goes.ret ?_
 obtain rfl:=si h
 exact(gw2 [.str G] (Ua tS))
def qdn (N:Nat) (n:qm):Option Bool:=
 ((qbc n).bind fun a=>
 if a>1800 then
 (jZ N n).bind fun b=>
 (strings_TrimPrefix b [45]).bind fun c=>
 some (decide ((c.length:Int)>600))
 else
 some false:Option Bool).bind fun d=>
 some d
theorem qet (N:Nat) (n:qm) {res:Bool} (h:qdn N n=some res):qb ZT (.fn 221) [.agg (nz1 n)] [] (.bool res) []:=by
 unfold qdn at h
 refine Ub Tryz.func221 rfl rfl (m:=13) rfl (rs:=[.tmp 2]) rfl (l:=[(0,.agg (nz1 n))]) rfl ?_
 refine sg fol (kAe []) [.cells (nz1 n)] ?_
 refine sq ?_
 obtain⟨f,a,h⟩:=bnd h
 refine Goes.cut (s':=(ofG 13 [(2,.bool f)],[.cells (nz1 n)])) ?_ ?_
 ·obtain⟨j,b,a⟩:=bnd a
  rcases wyD a with⟨e,a⟩|⟨e,a⟩
  ·obtain⟨g,c,a⟩:=bnd a
   obtain⟨i,d,a⟩:=bnd a
   obtain rfl:=si a
   exact tr fol [1,3,5,6] [(2,.bool (decide ((i.length:Int)>600)))] (ac (cv (qd8 n b)) (ac (gw e) (ac (cv (qac N n c)) (ac (cv (qbt g [45] d)) az))))
  obtain rfl:=si a
  exact tr fol [1,3] [(2,.bool false)] (ac (cv (qd8 n b)) (ac (gw e) az))
 refine Goes.ret ?_
 obtain rfl:=si h
 exact(gw2 [.bool f] (Ua tB))
def yS (N:Nat) (a:qo):Option Bool:=
 ((qdn N a.Num).bind fun b=>
 if b=true then
 some true
 else
 (qdn N a.Den).bind fun c=>
 some c:Option Bool).bind fun d=>
 some d
theorem qba (N:Nat) (a:qo) {res:Bool} (h:yS N a=some res):qb ZT (.fn 153) [.agg (nq1 a)] [] (.bool res) []:=by
 unfold yS at h
 refine Ub Tryz.func153 rfl rfl (m:=11) rfl (rs:=[.tmp 2]) rfl (l:=[(0,.agg (nq1 a))]) rfl ?_
 refine sg fol (kAe []) [.cells (nq1 a)] ?_
 refine sq ?_
 obtain⟨f,b,h⟩:=bnd h
 refine Goes.cut (s':=(ofG 11 [(2,.bool f)],[.cells (nq1 a)])) ?_ ?_
 ·obtain⟨i,c,b⟩:=bnd b
  rcases wyB b with⟨e,b⟩|⟨e,b⟩
  ·obtain rfl:=si b
   exact tr fol [2,3] [(2,.bool true)] (ac (cv (qet N a.Num c)) (ac (gw e) az))
  obtain⟨g,d,b⟩:=bnd b
  obtain rfl:=si b
  exact tr fol [2,3,6] [(2,.bool g)] (ac (cv (qet N a.Num c)) (ac (gw e) (ac (cv (qet N a.Den d)) az)))
 refine Goes.ret ?_
 obtain rfl:=si h
 exact(gw2 [.bool f] (Ua tB))
def jQ (a:qo):Option Bool:=
 (if a.Den.w.isEmpty=true then
 some (decide (a.Den.s=1))
 else
 some false:Option Bool).bind fun b=>
 some b
theorem yL (a:qo) {res:Bool} (h:jQ a=some res):qb ZT (.fn 163) [.agg (nq1 a)] [] (.bool res) []:=by
 unfold jQ at h
 refine Ub Tryz.func163 rfl rfl (m:=13) rfl (rs:=[.tmp 2]) rfl (l:=[(0,.agg (nq1 a))]) rfl ?_
 refine sg fol (kAe []) [.cells (nq1 a)] ?_
 refine sq ?_
 obtain⟨d,b,h⟩:=bnd h
 refine Goes.cut (s':=(ofG 13 [(2,.bool d)],[.cells (nq1 a)])) ?_ ?_
 ·rcases wyB b with⟨c,b⟩|⟨c,b⟩
  ·obtain rfl:=si b
   exact tr fol [3,4] [(2,.bool (decide (a.Den.s=1)))] (ac (hs (.done (.opt (kL ZT .eql 93 (.tmp 5) (.const (.slice none 0 0)) (nvl (qa .u64) a.Den.w) .nilslice)) (.bool a.Den.w.isEmpty)) (qaL qaI)) (ac (gw c) az))
  obtain rfl:=si b
  exact tr fol [3,4] [(2,.bool false)] (ac (hs (.done (.opt (kL ZT .eql 93 (.tmp 5) (.const (.slice none 0 0)) (nvl (qa .u64) a.Den.w) .nilslice)) (.bool a.Den.w.isEmpty)) (qaL qaI)) (ac (gw c) az))
 refine Goes.ret ?_
 obtain rfl:=si h
 exact(gw2 [.bool d] (Ua tB))
def xV (N:Nat) (a:qo):Option Str:=
 (jQ a).bind fun b=>
 if b=true then
 (jZ N a.Num).bind fun c=>
 some c
 else
 (jZ N a.Num).bind fun d=>
 (cat d [47]).bind fun e=>
 (jZ N a.Den).bind fun f=>
 (cat e f).bind fun g=>
 some g
theorem qdv (N:Nat) (a:qo) {res:Str} (h:xV N a=some res):qb ZT (.fn 154) [.agg (nq1 a)] [] (.str res) []:=by
 unfold xV at h
 refine Ub Tryz.func154 rfl rfl (m:=16) rfl (rs:=[.tmp 2]) rfl (l:=[(0,.agg (nq1 a))]) rfl ?_
 refine sg fol (kAe []) [.cells (nq1 a)] ?_
 refine sq ?_
 obtain⟨n,b,h⟩:=bnd h
 refine sq (gr fol [1] (kAe (kAs n)) (ac (cv (yL a b)) az) ?_)
 refine ihB h (fun o h=>?_) (fun o h=>?_)
 ·obtain⟨j,c,h⟩:=bnd h
  refine sq (gr fol [2] (kBP j) (ac (cv (qac N a.Num c)) az) ?_)
  refine Goes.ret ?_
  obtain rfl:=si h
  exact(gw2 [.str j] (Ua tS))
 refine Goes.skip ?_
 obtain⟨p,d,h⟩:=bnd h
 obtain⟨k,e,h⟩:=bnd h
 obtain⟨q,f,h⟩:=bnd h
 obtain⟨i,g,h⟩:=bnd h
 refine sq (gr fol [2,3,6,7] (kBP i) (ac (cv (qac N a.Num d)) (ac (hs (.done (.opt (kL ZT .add 9 (.tmp 10) (.const (.string ⟨#[47]⟩)) (.str p) (.str [47]))) (.str k)) (qaC e)) (ac (cv (qac N a.Den f)) (ac (hs (.done (.opt (kL ZT .add 9 (.tmp 11) (.tmp 14) (.str k) (.str q))) (.str i)) (qaC g)) az)))) ?_)
 refine Goes.ret ?_
 obtain rfl:=si h
 exact(gw2 [.str i] (Ua tS))
def qal (N:Nat) (low:qo) (high:qo):Option (qC×Int):=
 ((yS N low).bind fun a=>
 if a=true then
 some true
 else
 (yS N high).bind fun b=>
 some b:Option Bool).bind fun c=>
 if c=true then
 some ((⟨[],[]⟩:qC),4)
 else
 (xV N low).bind fun d=>
 (xV N high).bind fun e=>
 some ((⟨d,e⟩:qC),0)
theorem qcw (N:Nat) (low:qo) (high:qo) {res:qC×Int} (h:qal N low high=some res):qb ZT (.fn 63) [.agg (nq1 low),.agg (nq1 high)] [] (.tuple (kW res.1.Low res.1.High [.i res.2])) []:=by
 unfold qal at h
 refine Ub Tryz.func63 rfl rfl (m:=18) rfl (rs:=[.cell 4 24,.tmp 5]) rfl (l:=[(0,.agg (nq1 low)),(1,.agg (nq1 high))]) rfl ?_
 refine sg fol (kF []) (.cells (nq1 low):: .cells (nq1 high)::(kN [])) ?_
 refine sq ?_
 refine sq ?_
 obtain⟨k,a,h⟩:=bnd h
 refine Goes.cut (s':=(ofG 18 (kF [(11,.bool k)]),(.cells (nq1 low):: .cells (nq1 high)::(kN [])))) ?_ ?_
 ·obtain⟨p,b,a⟩:=bnd a
  rcases wyB a with⟨f,a⟩|⟨f,a⟩
  ·obtain rfl:=si a
   exact tr fol [1,2] (kF [(11,.bool true)]) (ac (cv (qba N low b)) (ac (gw f) az))
  obtain⟨n,c,a⟩:=bnd a
  obtain rfl:=si a
  exact tr fol [1,2,4] (kF [(11,.bool n)]) (ac (cv (qba N low b)) (ac (gw f) (ac (cv (qba N high c)) az)))
 refine ihB h (fun o h=>?_) (fun o h=>?_)
 ·refine sh fol (kAR [(5,.i 4)]) ?_
  refine Goes.ret ?_
  obtain rfl:=si h
  exact(gw2 [.agg [.str [],.str []],.i 4] (FzW.tuple (qc.cons (FzW.agg (qc.cons (Ua tS) (qc.cons (Ua tS) qc.nil))) (qc.cons (Ua tI) qc.nil))))
 refine Goes.skip ?_
 obtain⟨g,d,h⟩:=bnd h
 obtain⟨j,e,h⟩:=bnd h
 refine sq (gq fol [1,3] (kAR [(5,.i 0)]) (.cells (nq1 low):: .cells (nq1 high)::(kV g j [])) (ac (cv (qdv N low d)) (ac (cv (qdv N high e)) az)) ?_)
 refine Goes.ret ?_
 obtain rfl:=si h
 exact(gw2 (kW g j [.i 0]) (FzW.tuple (qc.cons (FzW.agg (qc.cons (Ua tS) (qc.cons (Ua tS) qc.nil))) (qc.cons (Ua tI) qc.nil))))
def zi (a:qm):Option Int:=
 some (if(if a.s<1 then a.s else 1)>(-1)then(if a.s<1 then a.s else 1)else(-1))
theorem xQ (a:qm) {res:Int} (h:zi a=some res):qb ZT (.fn 155) [.agg (nz1 a)] [] (.i res) []:=by
 unfold zi at h
 refine Ub Tryz.func155 rfl rfl (m:=7) rfl (rs:=[.tmp 2]) rfl (l:=[(0,.agg (nz1 a))]) rfl ?_
 refine sg fol (kAe []) [.cells (nz1 a)] ?_
 refine sh fol [(2,.i (if(if a.s<1 then a.s else 1)>(-1)then(if a.s<1 then a.s else 1)else(-1)))] ?_
 refine Goes.ret ?_
 obtain rfl:=si h
 exact(gw2 [.i (if(if a.s<1 then a.s else 1)>(-1)then(if a.s<1 then a.s else 1)else(-1))] (Ua tI))
def xe (N:Nat) (a:qm) (b:qm):Option qm:=
 (zU b).bind fun c=>
 (jF N a c).bind fun d=>
 some d
theorem qew (N:Nat) (a:qm) (b:qm) {res:qm} (h:xe N a b=some res):qb ZT (.fn 230) [.agg (nz1 a),.agg (nz1 b)] [] (.agg (nz1 res)) []:=by
 unfold xe at h
 refine Ub Tryz.func230 rfl rfl (m:=9) rfl (rs:=[.cell 4 95]) rfl (l:=[(0,.agg (nz1 a)),(1,.agg (nz1 b))]) rfl ?_
 refine sg fol (kF []) [.cells (nz1 a),.cells (nz1 b),bZ] ?_
 obtain⟨f,c,h⟩:=bnd h
 obtain⟨e,d,h⟩:=bnd h
 refine sq (gq fol [2,3,4] (kAR []) [.cells (nz1 a),.cells (nz1 b),.cells (nz1 e)] (ac (cv (vZ b c)) (ac (cv (yY N a f d)) (ac (hs (.run [2] (qw ZT 95 (.ptr 2 0) (.agg (nz1 e))) [.cells (nz1 a),.cells (nz1 b),bZ] .undef [.cells (nz1 a),.cells (nz1 b),.cells (nz1 e)] true) (kw (n:=2) (by kernel_rfl) rfl rfl rfl rfl (cac rfl (cac nvc can)) rfl)) az))) ?_)
 refine Goes.ret ?_
 obtain rfl:=si h
 exact(gw2 [.agg (nz1 e)] (FzW.agg (qc.cons (Ua tI) (qc.cons (Ua (qA (qa .u64) _ (nl rfl))) qc.nil))))
def jv (N:Nat) (a:qm) (b:qm):Option (qm×qm):=
 (if a.w.isEmpty=true then
 if b.w.isEmpty=true then
 some (!decide (a.s=(-9223372036854775808)))
 else
 some false
 else
 some false:Option Bool).bind fun r=>
 if r=true then
 (qcf .i64 a.s b.s).bind fun q=>
 (qeA .i64 a.s b.s).bind fun i=>
 ((if i<0 then
 some (w64 (q-1),w64 (i+b.s))
 else
 some (q,i):Option (Int×Int))).bind fun(t,u)=>
 some ((⟨t,[]⟩:qm),(⟨u,[]⟩:qm))
 else
 (qL a).bind fun d=>
 (qL b).bind fun j=>
 (qaR N d.2 j.2).bind fun f=>
 (j6 d.1 f.1).bind fun e=>
 (j6 d.1 f.2).bind fun c=>
 (zi c).bind fun k=>
 ((if k<0 then
 (qcx 1).bind fun l=>
 (xe N e l).bind fun g=>
 (jF N c b).bind fun h=>
 some (g.s,g.w,h.s,h.w)
 else
 some (e.s,e.w,c.s,c.w):Option (Int×(List Int)×Int×(List Int)))).bind fun(m,n,o,p)=>
 some ((⟨m,n⟩:qm),(⟨o,p⟩:qm))
theorem qcM (N:Nat) (a:qm) (b:qm) {res:qm×qm} (h:jv N a b=some res):qb ZT (.fn 196) [.agg (nz1 a),.agg (nz1 b)] [] (.tuple [.agg (nz1 res.1),.agg (nz1 res.2)]) []:=by
 unfold jv at h
 refine Ub Tryz.func196 rfl rfl (m:=84) rfl (rs:=[.cell 4 95,.cell 5 95]) rfl (l:=[(0,.agg (nz1 a)),(1,.agg (nz1 b))]) rfl ?_
 refine sg fol (kF (kBD [])) [.cells (nz1 a),.cells (nz1 b),bZ,bZ] ?_
 refine sq ?_
 refine sq ?_
 obtain⟨b3,c,h⟩:=bnd h
 refine Goes.cut (s':=(ofG 84 (kF (kBD [(28,.bool b3)])),[.cells (nz1 a),.cells (nz1 b),bZ,bZ])) ?_ ?_
 ·rcases wyB c with⟨L,c⟩|⟨L,c⟩
  ·rcases wyB c with⟨O,c⟩|⟨O,c⟩
   ·obtain rfl:=si c
    exact tr fol [2,3,6,8] (kF (kBD [(28,.bool (!decide (a.s=(-9223372036854775808))))])) (ac (hs (.done (.opt (kL ZT .eql 93 (.tmp 17) (.const (.slice none 0 0)) (nvl (qa .u64) a.w) .nilslice)) (.bool a.w.isEmpty)) (qaL qaI)) (ac (gw L) (ac (hs (.done (.opt (kL ZT .eql 93 (.tmp 21) (.const (.slice none 0 0)) (nvl (qa .u64) b.w) .nilslice)) (.bool b.w.isEmpty)) (qaL qaI)) (ac (gw O) az))))
   obtain rfl:=si c
   exact tr fol [2,3,6,8] (kF (kBD [(28,.bool false)])) (ac (hs (.done (.opt (kL ZT .eql 93 (.tmp 17) (.const (.slice none 0 0)) (nvl (qa .u64) a.w) .nilslice)) (.bool a.w.isEmpty)) (qaL qaI)) (ac (gw L) (ac (hs (.done (.opt (kL ZT .eql 93 (.tmp 21) (.const (.slice none 0 0)) (nvl (qa .u64) b.w) .nilslice)) (.bool b.w.isEmpty)) (qaL qaI)) (ac (gw O) az))))
  obtain rfl:=si c
  exact tr fol [2,3] (kF (kBD [(28,.bool false)])) (ac (hs (.done (.opt (kL ZT .eql 93 (.tmp 17) (.const (.slice none 0 0)) (nvl (qa .u64) a.w) .nilslice)) (.bool a.w.isEmpty)) (qaL qaI)) (ac (gw L) az))
 refine ihB h (fun c5 h=>?_) (fun c5 h=>?_)
 ·obtain⟨M,F,h⟩:=bnd h
  obtain⟨G,H,h⟩:=bnd h
  refine sq (gr fol [4,9] (kAc (kAR (kBD (kA5 M G)))) (ac (hs (.done (.opt (kL ZT .quo 3 (.tmp 30) (.tmp 32) (.i a.s) (.i b.s))) (.i M)) (qbY F)) (ac (hs (.done (.opt (kL ZT .rem 3 (.tmp 35) (.tmp 37) (.i a.s) (.i b.s))) (.i G)) (qfU H)) az)) ?_)
  refine sq ?_
  refine sh fol (kAc (kAR (kBD [(6,.i M),(7,.i G),(40,.bool (decide (G<0)))]))) ?_
  obtain⟨P,g10,h⟩:=bnd h
  refine Goes.imp (Q:=fun x s'=>(x= .normal/\ ∃I J,(I,J)=P/\Sub s' (ofG 84 (kX (kAW I [(7,.i J)])),[bZ,bZ]))) ?_ ?_
  ·refine ihD g10 (fun U g10=>?_) (fun U g10=>?_)
   ·refine gh fol (kAR (kBD (kA5 (w64 (M-1)) (w64 (G+b.s))))) ?_
    obtain rfl:=si g10
    exact⟨rfl,_,_,rfl,(Sub.norm [] [some 2,some 3] rfl rfl (.kp (.kp (.keep (.same nI) (.keep (.same nI) .nil)))) (.kb rfl (.same sn) (.kb rfl (.same sn) .nil)))⟩
   refine Goes.skip ?_
   obtain rfl:=si g10
   exact⟨rfl,_,_,rfl,(Sub.norm [] [some 2,some 3] rfl rfl (.drop (.kp (.kp (.keep (.same nI) (.keep (.same nI) .nil))))) (.kb rfl (.same sn) (.kb rfl (.same sn) .nil)))⟩
  rintro x s' ⟨rfl,I,J,rfl,hsub⟩
  try dsimp only at h
  refine Goes.sub hsub ?_
  refine sg fol (kX [(5,.ptr 1 0)]) (.cells [.i I,.nilslice]::(kAy J)) ?_
  refine Goes.ret ?_
  obtain rfl:=si h
  exact(gw2 [.agg [.i I,.nilslice],.agg [.i J,.nilslice]] (FzW.tuple (qc.cons (FzW.agg (qc.cons (Ua tI) (qc.cons (FzW.nv0 (E:=(qa .u64))) qc.nil))) (qc.cons (FzW.agg (qc.cons (Ua tI) (qc.cons (FzW.nv0 (E:=(qa .u64))) qc.nil))) qc.nil))))
 refine Goes.skip ?_
 obtain⟨j,r,h⟩:=bnd h
 refine sq (gr fol [1] (kAc (kAR (kBD [(8,.bool j.1),(9,vl (qa .u64) j.2)]))) (ac (cv (zP a r)) az) ?_)
 obtain⟨K,t,h⟩:=bnd h
 refine sq (gr fol [1] (kAc (kAR (kBD [(8,.bool j.1),(9,vl (qa .u64) j.2),(11,vl (qa .u64) K.2)]))) (ac (cv (zP b t)) az) ?_)
 obtain⟨q,u,h⟩:=bnd h
 refine sq (gr fol [2] (kAc (kAR (kBD [(8,.bool j.1),(12,vl (qa .u64) q.1),(13,vl (qa .u64) q.2)]))) (ac (cv (qfl N j.2 K.2 u)) az) ?_)
 obtain⟨o,v,h⟩:=bnd h
 obtain⟨k,y,h⟩:=bnd h
 refine sq (gq fol [2,5,8,9] (kAc (kAR (kBD [(14,.ptr 4 0),(15,.ptr 5 0)]))) [.cells (nz1 a),.cells (nz1 b),bZ,bZ,.cells (nz1 o),.cells (nz1 k)] (ac (cv (qat j.1 q.1 v)) (ac (cv (qat j.1 q.2 y)) (ac (hs (.run [4] (qw ZT 95 (.ptr 4 0) (.agg (nz1 o))) [.cells (nz1 a),.cells (nz1 b),bZ,bZ,bZ,bZ] .undef [.cells (nz1 a),.cells (nz1 b),bZ,bZ,.cells (nz1 o),bZ] true) (kw (n:=2) (by kernel_rfl) rfl rfl rfl rfl (cac rfl (cac nvc can)) rfl)) (ac (hs (.run [5] (qw ZT 95 (.ptr 5 0) (.agg (nz1 k))) [.cells (nz1 a),.cells (nz1 b),bZ,bZ,.cells (nz1 o),bZ] .undef [.cells (nz1 a),.cells (nz1 b),bZ,bZ,.cells (nz1 o),.cells (nz1 k)] true) (kw (n:=2) (by kernel_rfl) rfl rfl rfl rfl (cac rfl (cac nvc can)) rfl)) az)))) ?_)
 refine sq ?_
 obtain⟨V,z,h⟩:=bnd h
 refine sq (gr fol [1] (kAc (kAR (kBD [(14,.ptr 4 0),(15,.ptr 5 0),(75,.bool (decide (V<0)))]))) (ac (cv (xQ k z)) az) ?_)
 obtain⟨X,g22,h⟩:=bnd h
 refine Goes.imp (Q:=fun x s'=>(x= .normal/\ ∃d e f g,(d,e,f,g)=X/\Sub s' (ofG 84 (kX [(5,.ptr 1 0),(14,.ptr 2 0),(15,.ptr 3 0)]),[bZ,bZ,.cells (ni1 d e),.cells (ni1 f g)]))) ?_ ?_
 ·refine ihD g22 (fun Y g22=>?_) (fun Y g22=>?_)
  ·obtain⟨Z,A,g22⟩:=bnd g22
   obtain⟨p,B,g22⟩:=bnd g22
   obtain⟨C,D,g22⟩:=bnd g22
   refine gq fol [1,2,5,6,7] (kAR (kBD [(14,.ptr 4 0),(15,.ptr 5 0)])) [.cells (nz1 a),.cells (nz1 b),bZ,bZ,.cells (nz1 p),.cells (nz1 C)] (ac (cv (qbv 1 A)) (ac (cv (qew N o Z B)) (ac (cv (yY N k b D)) (ac (hs (.run [4] (qw ZT 95 (.ptr 4 0) (.agg (nz1 p))) [.cells (nz1 a),.cells (nz1 b),bZ,bZ,.cells (nz1 o),.cells (nz1 k)] .undef [.cells (nz1 a),.cells (nz1 b),bZ,bZ,.cells (nz1 p),.cells (nz1 k)] true) (kw (n:=2) (by kernel_rfl) rfl rfl rfl rfl (cac rfl (cac nvc can)) rfl)) (ac (hs (.run [5] (qw ZT 95 (.ptr 5 0) (.agg (nz1 C))) [.cells (nz1 a),.cells (nz1 b),bZ,bZ,.cells (nz1 p),.cells (nz1 k)] .undef [.cells (nz1 a),.cells (nz1 b),bZ,bZ,.cells (nz1 p),.cells (nz1 C)] true) (kw (n:=2) (by kernel_rfl) rfl rfl rfl rfl (cac rfl (cac nvc can)) rfl)) az))))) ?_
   obtain rfl:=si g22
   exact⟨rfl,_,_,_,_,rfl,(Sub.norm [] [some 2,some 3,some 4,some 5] rfl rfl (.kp (.kp (.kp (.kp .nil)))) (.kb rfl (.same sn) (.kb rfl (.same sn) (.kb rfl (.same sn) (.kb rfl (.same sn) .nil)))))⟩
  refine Goes.skip ?_
  obtain rfl:=si g22
  exact⟨rfl,_,_,_,_,rfl,(Sub.norm [] [some 2,some 3,some 4,some 5] rfl rfl (.drop (.kp (.kp (.kp (.kp .nil))))) (.kb rfl (.same sn) (.kb rfl (.same sn) (.kb rfl (.same sn) (.kb rfl (.same sn) .nil)))))⟩
 rintro x s' ⟨rfl,d,e,f,g,rfl,hsub⟩
 try dsimp only at h
 refine Goes.sub hsub ?_
 refine sq (gq fol [2,3] (kX [(5,.ptr 1 0)]) [.cells (ni1 d e),.cells (ni1 f g),.cells (ni1 d e),.cells (ni1 f g)] (ac (hs (.run [0] (qw ZT 95 (.ptr 0 0) (.agg (ni1 d e))) [bZ,bZ,.cells (ni1 d e),.cells (ni1 f g)] .undef [.cells (ni1 d e),bZ,.cells (ni1 d e),.cells (ni1 f g)] true) (kw (n:=2) (by kernel_rfl) rfl rfl rfl rfl (cac rfl (cac nvc can)) rfl)) (ac (hs (.run [1] (qw ZT 95 (.ptr 1 0) (.agg (ni1 f g))) [.cells (ni1 d e),bZ,.cells (ni1 d e),.cells (ni1 f g)] .undef [.cells (ni1 d e),.cells (ni1 f g),.cells (ni1 d e),.cells (ni1 f g)] true) (kw (n:=2) (by kernel_rfl) rfl rfl rfl rfl (cac rfl (cac nvc can)) rfl)) az)) ?_)
 refine Goes.ret ?_
 obtain rfl:=si h
 exact(gw2 [.agg (ni1 d e),.agg (ni1 f g)] (FzW.tuple (qc.cons (FzW.agg (qc.cons (Ua tI) (qc.cons (Ua (qA (qa .u64) _ (nl rfl))) qc.nil))) (qc.cons (FzW.agg (qc.cons (Ua tI) (qc.cons (Ua (qA (qa .u64) _ (nl rfl))) qc.nil))) qc.nil))))
def qa4 (a:qm):Option qm:=
 if a.s<0 then
 (zU a).bind fun b=>
 some b
 else
 some a
theorem qes (a:qm) {res:qm} (h:qa4 a=some res):qb ZT (.fn 223) [.agg (nz1 a)] [] (.agg (nz1 res)) []:=by
 unfold qa4 at h
 refine Ub Tryz.func223 rfl rfl (m:=9) rfl (rs:=[.cell 2 95]) rfl (l:=[(0,.agg (nz1 a))]) rfl ?_
 refine sg fol (kAe kA9) [.cells (nz1 a),bZ] ?_
 refine sq ?_
 refine sh fol (kAe [(2,.ptr 1 0),(5,.bool (decide (a.s<0)))]) ?_
 refine ihD h (fun d h=>?_) (fun d h=>?_)
 ·obtain⟨c,b,h⟩:=bnd h
  refine sq (gq fol [1,2] kA9 [.cells (nz1 a),.cells (nz1 c)] (ac (cv (vZ a b)) (ac (hs (.run [1] (qw ZT 95 (.ptr 1 0) (.agg (nz1 c))) [.cells (nz1 a),bZ] .undef [.cells (nz1 a),.cells (nz1 c)] true) (kw (n:=2) (by kernel_rfl) rfl rfl rfl rfl (cac rfl (cac nvc can)) rfl)) az)) ?_)
  refine Goes.ret ?_
  obtain rfl:=si h
  exact(gw2 [.agg (nz1 c)] (FzW.agg (qc.cons (Ua tI) (qc.cons (Ua (qA (qa .u64) _ (nl rfl))) qc.nil))))
 refine Goes.skip ?_
 refine sq (gq fol [1] kA9 [.cells (nz1 a),.cells (nz1 a)] (ac (hs (.run [1] (qw ZT 95 (.ptr 1 0) (.agg (nz1 a))) [.cells (nz1 a),bZ] .undef [.cells (nz1 a),.cells (nz1 a)] true) (kw (n:=2) (by kernel_rfl) rfl rfl rfl rfl (cac rfl (cac nvc can)) rfl)) az) ?_)
 refine Goes.ret ?_
 obtain rfl:=si h
 exact(gw2 [.agg (nz1 a)] (FzW.agg (qc.cons (Ua tI) (qc.cons (Ua (qA (qa .u64) _ (nl rfl))) qc.nil))))
def yg (N:Nat):Nat->Int->(List Int)->Int->(List Int)->Option (Int×(List Int))
 |0,_,_,_,_=>none
 |K+1,e,f,b,c=>
  (zi (⟨b,c⟩:qm)).bind fun d=>
  if(!decide (d=0))=true then
  (jv N (⟨e,f⟩:qm) (⟨b,c⟩:qm)).bind fun a=>
  yg N K b c a.2.s a.2.w
  else
  some (e,f)
def qcU (N:Nat) (a:qm) (b:qm):Option qm:=
 (qa4 a).bind fun c=>
 (qa4 b).bind fun d=>
 (yg N N c.s c.w d.s d.w).bind fun(e,f)=>
 some (⟨e,f⟩:qm)
theorem qhe (N:Nat) (a:qm) (b:qm) {res:qm} (h:qcU N a b=some res):qb ZT (.fn 156) [.agg (nz1 a),.agg (nz1 b)] [] (.agg (nz1 res)) []:=by
 unfold qcU at h
 refine Ub Tryz.func156 rfl rfl (m:=23) rfl (rs:=[.cell 4 95]) rfl (l:=[(0,.agg (nz1 a)),(1,.agg (nz1 b))]) rfl ?_
 refine sg fol (kF []) [.cells (nz1 a),.cells (nz1 b),bZ] ?_
 obtain⟨p,q,h⟩:=bnd h
 obtain⟨t,r,h⟩:=bnd h
 refine sq (gq fol [1,3,4,5] (kF []) [.cells (nz1 p),.cells (nz1 t),bZ] (ac (cv (qes a q)) (ac (cv (qes b r)) (ac (hs (.run [0] (qw ZT 95 (.ptr 0 0) (.agg (nz1 p))) [.cells (nz1 a),.cells (nz1 b),bZ] .undef [.cells (nz1 p),.cells (nz1 b),bZ] true) (kw (n:=2) (by kernel_rfl) rfl rfl rfl rfl (cac rfl (cac nvc can)) rfl)) (ac (hs (.run [1] (qw ZT 95 (.ptr 1 0) (.agg (nz1 t))) [.cells (nz1 p),.cells (nz1 b),bZ] .undef [.cells (nz1 p),.cells (nz1 t),bZ] true) (kw (n:=2) (by kernel_rfl) rfl rfl rfl rfl (cac rfl (cac nvc can)) rfl)) az)))) ?_)
 refine sq (Goes.block ?_)
 obtain⟨w,g9,h⟩:=bnd h
 refine Goes.imp (Q:=fun x s'=>(x= .exit 0/\ ∃f g,(f,g)=w/\Sub s' (ofG 23 (kS [(4,.ptr 1 0)]),[.cells (ni1 f g),bZ]))) ?_ ?_
 ·refine Uc (fun M s=> ∃(i:Int) (j:List Int) (d:Int) (e:List Int),s=(ofG 23 (kF []),[.cells (ni1 i j),.cells (ni1 d e),bZ])/\yg N M i j d e=some w) ?_ (m:=N) ⟨_,_,_,_,rfl,g9⟩
  rintro M s ⟨i,j,d,e,rfl,g9⟩
  cases M with
  |zero=>simp only[yg]at g9;cases g9
  |succ M=>
   rw[yg]at g9
   refine sq ?_
   obtain⟨u,k,g9⟩:=bnd g9
   refine sq (gr fol [1] (kF (kBM (!decide (u=0)))) (ac (cv (xQ (⟨d,e⟩:qm) k)) az) ?_)
   refine ihB g9 (fun v g9=>?_) (fun v g9=>?_)
   ·refine Goes.skip ?_
    refine Goes.block ?_
    obtain⟨c,o,g9⟩:=bnd g9
    refine sq (gq fol [2,8,9] (kF [(6,.ptr 4 0)]) [.cells (ni1 i j),.cells (ni1 d e),bZ,.cells (nz1 c.1),.cells (nz1 c.2)] (ac (cv (qcM N (⟨i,j⟩:qm) (⟨d,e⟩:qm) o)) (ac (hs (.run [3] (qw ZT 95 (.ptr 3 0) (.agg (nz1 c.1))) [.cells (ni1 i j),.cells (ni1 d e),bZ,bZ,bZ] .undef [.cells (ni1 i j),.cells (ni1 d e),bZ,.cells (nz1 c.1),bZ] true) (kw (n:=2) (by kernel_rfl) rfl rfl rfl rfl (cac rfl (cac nvc can)) rfl)) (ac (hs (.run [4] (qw ZT 95 (.ptr 4 0) (.agg (nz1 c.2))) [.cells (ni1 i j),.cells (ni1 d e),bZ,.cells (nz1 c.1),bZ] .undef [.cells (ni1 i j),.cells (ni1 d e),bZ,.cells (nz1 c.1),.cells (nz1 c.2)] true) (kw (n:=2) (by kernel_rfl) rfl rfl rfl rfl (cac rfl (cac nvc can)) rfl)) az))) ?_)
    refine gq fol [2,3] (kF []) [.cells (ni1 d e),.cells (nz1 c.2),bZ,.cells (nz1 c.1),.cells (nz1 c.2)] (ac (hs (.run [0] (qw ZT 95 (.ptr 0 0) (.agg (ni1 d e))) [.cells (ni1 i j),.cells (ni1 d e),bZ,.cells (nz1 c.1),.cells (nz1 c.2)] .undef [.cells (ni1 d e),.cells (ni1 d e),bZ,.cells (nz1 c.1),.cells (nz1 c.2)] true) (kw (n:=2) (by kernel_rfl) rfl rfl rfl rfl (cac rfl (cac nvc can)) rfl)) (ac (hs (.run [1] (qw ZT 95 (.ptr 1 0) (.agg (nz1 c.2))) [.cells (ni1 d e),.cells (ni1 d e),bZ,.cells (nz1 c.1),.cells (nz1 c.2)] .undef [.cells (ni1 d e),.cells (nz1 c.2),bZ,.cells (nz1 c.1),.cells (nz1 c.2)] true) (kw (n:=2) (by kernel_rfl) rfl rfl rfl rfl (cac rfl (cac nvc can)) rfl)) az)) ?_
    exact⟨M,(ofG 23 (kF []),[.cells (ni1 d e),.cells (nz1 c.2),bZ]),Nat.lt_succ_self _,(Sub.norm [] [some 0,some 1,some 2] rfl rfl (.kp (.kp (.kp .nil))) (.kb rfl (.same sn) (.kb rfl (.same sn) (.kb rfl (.same sn) .nil)))),_,_,_,_,rfl,g9⟩
   refine Goes.exit ?_
   obtain rfl:=si g9
   exact⟨rfl,_,_,rfl,(Sub.norm [] [some 0,some 2] rfl rfl (.kp (.drop (.kp .nil))) (.kb rfl (.same sn) (.kb rfl (.same sn) .nil)))⟩
 rintro x s' ⟨rfl,f,g,rfl,hsub⟩
 try dsimp only at h
 refine Goes.sub hsub ?_
 refine sq (gq fol [1] [(4,.ptr 1 0)] [.cells (ni1 f g),.cells (ni1 f g)] (ac (hs (.run [1] (qw ZT 95 (.ptr 1 0) (.agg (ni1 f g))) [.cells (ni1 f g),bZ] .undef [.cells (ni1 f g),.cells (ni1 f g)] true) (kw (n:=2) (by kernel_rfl) rfl rfl rfl rfl (cac rfl (cac nvc can)) rfl)) az) ?_)
 refine Goes.ret ?_
 obtain rfl:=si h
 exact(gw2 [.agg (ni1 f g)] (FzW.agg (qc.cons (Ua tI) (qc.cons (Ua (qA (qa .u64) _ (nl rfl))) qc.nil))))
def vQ (N:Nat) (a:qm) (b:qm):Option qm:=
 (zi b).bind fun f=>
 ((if f<0 then
 (zU a).bind fun d=>
 (zU b).bind fun e=>
 some (d.s,d.w,e.s,e.w)
 else
 some (a.s,a.w,b.s,b.w):Option (Int×(List Int)×Int×(List Int)))).bind fun(g,h,i,j)=>
 (jv N (⟨g,h⟩:qm) (⟨i,j⟩:qm)).bind fun c=>
 some c.1
theorem qen (N:Nat) (a:qm) (b:qm) {res:qm} (h:vQ N a b=some res):qb ZT (.fn 157) [.agg (nz1 a),.agg (nz1 b)] [] (.agg (nz1 res)) []:=by
 unfold vQ at h
 refine Ub Tryz.func157 rfl rfl (m:=21) rfl (rs:=[.cell 4 95]) rfl (l:=[(0,.agg (nz1 a)),(1,.agg (nz1 b))]) rfl ?_
 refine sg fol (kF []) [.cells (nz1 a),.cells (nz1 b),bZ] ?_
 refine sq ?_
 obtain⟨r,j,h⟩:=bnd h
 refine sq (gr fol [1] (kF [(9,.bool (decide (r<0)))]) (ac (cv (xQ b j)) az) ?_)
 obtain⟨s,g6,h⟩:=bnd h
 refine Goes.imp (Q:=fun x s'=>(x= .normal/\ ∃d e f g,(d,e,f,g)=s/\Sub s' (ofG 21 (kF []),[.cells (ni1 d e),.cells (ni1 f g),bZ]))) ?_ ?_
 ·refine ihD g6 (fun t g6=>?_) (fun t g6=>?_)
  ·obtain⟨k,o,g6⟩:=bnd g6
   obtain⟨q,p,g6⟩:=bnd g6
   refine gq fol [1,3,4,5] (kF []) [.cells (nz1 k),.cells (nz1 q),bZ] (ac (cv (vZ a o)) (ac (cv (vZ b p)) (ac (hs (.run [0] (qw ZT 95 (.ptr 0 0) (.agg (nz1 k))) [.cells (nz1 a),.cells (nz1 b),bZ] .undef [.cells (nz1 k),.cells (nz1 b),bZ] true) (kw (n:=2) (by kernel_rfl) rfl rfl rfl rfl (cac rfl (cac nvc can)) rfl)) (ac (hs (.run [1] (qw ZT 95 (.ptr 1 0) (.agg (nz1 q))) [.cells (nz1 k),.cells (nz1 b),bZ] .undef [.cells (nz1 k),.cells (nz1 q),bZ] true) (kw (n:=2) (by kernel_rfl) rfl rfl rfl rfl (cac rfl (cac nvc can)) rfl)) az)))) ?_
   obtain rfl:=si g6
   exact⟨rfl,_,_,_,_,rfl,(Sub.refl _)⟩
  refine Goes.skip ?_
  obtain rfl:=si g6
  exact⟨rfl,_,_,_,_,rfl,(Sub.keep [2,3,4] rfl rfl)⟩
 rintro x s' ⟨rfl,d,e,f,g,rfl,hsub⟩
 try dsimp only at h
 refine Goes.sub hsub ?_
 obtain⟨c,i,h⟩:=bnd h
 refine sq (gq fol [2,8,9] (kAR (kBD [])) [.cells (ni1 d e),.cells (ni1 f g),bZ,.cells (nz1 c.1),.cells (nz1 c.2)] (ac (cv (qcM N (⟨d,e⟩:qm) (⟨f,g⟩:qm) i)) (ac (hs (.run [3] (qw ZT 95 (.ptr 3 0) (.agg (nz1 c.1))) [.cells (ni1 d e),.cells (ni1 f g),bZ,bZ,bZ] .undef [.cells (ni1 d e),.cells (ni1 f g),bZ,.cells (nz1 c.1),bZ] true) (kw (n:=2) (by kernel_rfl) rfl rfl rfl rfl (cac rfl (cac nvc can)) rfl)) (ac (hs (.run [4] (qw ZT 95 (.ptr 4 0) (.agg (nz1 c.2))) [.cells (ni1 d e),.cells (ni1 f g),bZ,.cells (nz1 c.1),bZ] .undef [.cells (ni1 d e),.cells (ni1 f g),bZ,.cells (nz1 c.1),.cells (nz1 c.2)] true) (kw (n:=2) (by kernel_rfl) rfl rfl rfl rfl (cac rfl (cac nvc can)) rfl)) az))) ?_)
 refine sq (gq fol [1] (kAR []) [.cells (ni1 d e),.cells (ni1 f g),.cells (nz1 c.1),.cells (nz1 c.1),.cells (nz1 c.2)] (ac (hs (.run [2] (qw ZT 95 (.ptr 2 0) (.agg (nz1 c.1))) [.cells (ni1 d e),.cells (ni1 f g),bZ,.cells (nz1 c.1),.cells (nz1 c.2)] .undef [.cells (ni1 d e),.cells (ni1 f g),.cells (nz1 c.1),.cells (nz1 c.1),.cells (nz1 c.2)] true) (kw (n:=2) (by kernel_rfl) rfl rfl rfl rfl (cac rfl (cac nvc can)) rfl)) az) ?_)
 refine Goes.ret ?_
 obtain rfl:=si h
 exact(gw2 [.agg (nz1 c.1)] (FzW.agg (qc.cons (Ua tI) (qc.cons (Ua (qA (qa .u64) _ (nl rfl))) qc.nil))))
def qbd (N:Nat) (num:qm) (den:qm):Option qo:=
 (zi den).bind fun k=>
 ((if k<0 then
 (zU num).bind fun i=>
 (zU den).bind fun j=>
 some (i.s,i.w,j.s,j.w)
 else
 some (num.s,num.w,den.s,den.w):Option (Int×(List Int)×Int×(List Int)))).bind fun(d,e,b,c)=>
 (if c.isEmpty=true then
 some (decide (b=1))
 else
 some false:Option Bool).bind fun f=>
 if f=true then
 some (⟨(⟨d,e⟩:qm),(⟨b,c⟩:qm)⟩:qo)
 else
 (qcU N (⟨d,e⟩:qm) (⟨b,c⟩:qm)).bind fun a=>
 (vQ N (⟨d,e⟩:qm) a).bind fun g=>
 (vQ N (⟨b,c⟩:qm) a).bind fun h=>
 some (⟨g,h⟩:qo)
theorem qcS (N:Nat) (num:qm) (den:qm) {res:qo} (h:qbd N num den=some res):qb ZT (.fn 64) [.agg (nz1 num),.agg (nz1 den)] [] (.agg (nq1 res)) []:=by
 unfold qbd at h
 refine Ub Tryz.func64 rfl rfl (m:=34) rfl (rs:=[.cell 4 100]) rfl (l:=[(0,.agg (nz1 num)),(1,.agg (nz1 den))]) rfl ?_
 refine sg fol (kF []) (.cells (nz1 num):: .cells (nz1 den)::(kH [])) ?_
 refine sq ?_
 obtain⟨A,q,h⟩:=bnd h
 refine sq (gr fol [1] (kF (kBI (decide (A<0)))) (ac (cv (xQ den q)) az) ?_)
 obtain⟨B,g6,h⟩:=bnd h
 refine Goes.imp (Q:=fun x s'=>(x= .normal/\ ∃d e c a,(d,e,c,a)=B/\Sub s' (ofG 34 (kF []),(.cells (ni1 d e):: .cells (ni1 c a)::(kH []))))) ?_ ?_
 ·refine ihD g6 (fun C g6=>?_) (fun C g6=>?_)
  ·obtain⟨r,t,g6⟩:=bnd g6
   obtain⟨v,u,g6⟩:=bnd g6
   refine gq fol [1,3,4,5] (kF []) (.cells (nz1 r):: .cells (nz1 v)::(kH [])) (ac (cv (vZ num t)) (ac (cv (vZ den u)) (ac (hs (.run [0] (qw ZT 95 (.ptr 0 0) (.agg (nz1 r))) (.cells (nz1 num):: .cells (nz1 den)::(kH [])) .undef (.cells (nz1 r):: .cells (nz1 den)::(kH [])) true) (kw (n:=2) (by kernel_rfl) rfl rfl rfl rfl (cac rfl (cac nvc can)) rfl)) (ac (hs (.run [1] (qw ZT 95 (.ptr 1 0) (.agg (nz1 v))) (.cells (nz1 r):: .cells (nz1 den)::(kH [])) .undef (.cells (nz1 r):: .cells (nz1 v)::(kH [])) true) (kw (n:=2) (by kernel_rfl) rfl rfl rfl rfl (cac rfl (cac nvc can)) rfl)) az)))) ?_
   obtain rfl:=si g6
   exact⟨rfl,_,_,_,_,rfl,(Sub.refl _)⟩
  refine Goes.skip ?_
  obtain rfl:=si g6
  exact⟨rfl,_,_,_,_,rfl,(Sub.keep [2,3,4] rfl rfl)⟩
 rintro x s' ⟨rfl,d,e,c,a,rfl,hsub⟩
 try dsimp only at h
 refine Goes.sub hsub ?_
 refine sq ?_
 refine sq ?_
 obtain⟨y,b,h⟩:=bnd h
 refine Goes.cut (s':=(ofG 34 (kF [(20,.bool y)]),(.cells (ni1 d e):: .cells (ni1 c a)::(kH [])))) ?_ ?_
 ·rcases wyB b with⟨j,b⟩|⟨j,b⟩
  ·obtain rfl:=si b
   exact tr fol [2,3] (kF [(20,.bool (decide (c=1)))]) (ac (hs (.done (.opt (kL ZT .eql 93 (.tmp 14) (.const (.slice none 0 0)) (nvl (qa .u64) a) .nilslice)) (.bool a.isEmpty)) (qaL qaI)) (ac (gw j) az))
  obtain rfl:=si b
  exact tr fol [2,3] (kF [(20,.bool false)]) (ac (hs (.done (.opt (kL ZT .eql 93 (.tmp 14) (.const (.slice none 0 0)) (nvl (qa .u64) a) .nilslice)) (.bool a.isEmpty)) (qaL qaI)) (ac (gw j) az))
 refine ihB h (fun z h=>?_) (fun z h=>?_)
 ·refine sq (gq fol [3] (kAR []) [.cells (ni1 d e),.cells (ni1 c a),.cells (ni2 d e c a)] (ac (hs (.run [2] (qw ZT 100 (.ptr 2 0) (.agg (ni2 d e c a))) (.cells (ni1 d e):: .cells (ni1 c a)::(kH [])) .undef [.cells (ni1 d e),.cells (ni1 c a),.cells (ni2 d e c a)] true) (kw (n:=4) (by kernel_rfl) rfl rfl rfl rfl (cac rfl (cac nvc (cac rfl (cac nvc can)))) rfl)) az) ?_)
  refine Goes.ret ?_
  obtain rfl:=si h
  exact(gw2 [.agg (ni2 d e c a)] (FzW.agg (qc.cons (Ua tI) (qc.cons (Ua (qA (qa .u64) _ (nl rfl))) (qc.cons (Ua tI) (qc.cons (Ua (qA (qa .u64) _ (nl rfl))) qc.nil))))))
 refine Goes.skip ?_
 obtain⟨f,k,h⟩:=bnd h
 refine sq (gq fol [2,4] (kF (kBD [])) (.cells (ni1 d e):: .cells (ni1 c a)::(kH [.cells (nz1 f)])) (ac (cv (qhe N (⟨d,e⟩:qm) (⟨c,a⟩:qm) k)) (ac (hs (.run [3] (qw ZT 95 (.ptr 3 0) (.agg (nz1 f))) (.cells (ni1 d e):: .cells (ni1 c a)::(kH [bZ])) .undef (.cells (ni1 d e):: .cells (ni1 c a)::(kH [.cells (nz1 f)])) true) (kw (n:=2) (by kernel_rfl) rfl rfl rfl rfl (cac rfl (cac nvc can)) rfl)) az)) ?_)
 obtain⟨g,o,h⟩:=bnd h
 obtain⟨i,p,h⟩:=bnd h
 refine sq (gq fol [2,5,7] (kAR []) [.cells (ni1 d e),.cells (ni1 c a),.cells (ni2 g.s g.w i.s i.w),.cells (nz1 f)] (ac (cv (qen N (⟨d,e⟩:qm) f o)) (ac (cv (qen N (⟨c,a⟩:qm) f p)) (ac (hs (.run [2] (qw ZT 100 (.ptr 2 0) (.agg (ni2 g.s g.w i.s i.w))) (.cells (ni1 d e):: .cells (ni1 c a)::(kH [.cells (nz1 f)])) .undef [.cells (ni1 d e),.cells (ni1 c a),.cells (ni2 g.s g.w i.s i.w),.cells (nz1 f)] true) (kw (n:=4) (by kernel_rfl) rfl rfl rfl rfl (cac rfl (cac nvc (cac rfl (cac nvc can)))) rfl)) az))) ?_)
 refine Goes.ret ?_
 obtain rfl:=si h
 exact(gw2 [.agg (ni2 g.s g.w i.s i.w)] (FzW.agg (qc.cons (Ua tI) (qc.cons (Ua (qA (qa .u64) _ (nl rfl))) (qc.cons (Ua tI) (qc.cons (Ua (qA (qa .u64) _ (nl rfl))) qc.nil))))))
def qcd (N:Nat) (k:Int):Option (qC×Int):=
 (if k<1 then
 some true
 else
 some (decide (k>30)):Option Bool).bind fun h=>
 if h=true then
 some ((⟨[],[]⟩:qC),3)
 else
 (cut [51,49,52,49,53,57,50,54,53,51,53,56,57,55,57,51,50,51,56,52,54,50,54,52,51,51,56,51,50,55,57] 0 (w64 (k+1))).bind fun i=>
 (qaf N i).bind fun f=>
 (qbV [48] k).bind fun j=>
 (cat [49] j).bind fun l=>
 (qaf N l).bind fun g=>
 (qbd N f g).bind fun b=>
 (qcx 1).bind fun c=>
 (jF N f c).bind fun d=>
 (qbd N d g).bind fun e=>
 (qal N b e).bind fun a=>
 some (a.1,a.2)
theorem qfG (N:Nat) (k:Int) {res:qC×Int} (h:qcd N k=some res):qb ZT (.fn 8) [.i k] [] (.tuple (kW res.1.Low res.1.High [.i res.2])) []:=by
 unfold qcd at h
 refine Ub Tryz.func8 rfl rfl (m:=32) rfl (rs:=[.cell 2 24,.tmp 3]) rfl (l:=[(0,.i k)]) rfl ?_
 refine sg fol ((0,.i k)::(kS [])) (kN []) ?_
 refine sq ?_
 refine sq ?_
 obtain⟨B,a,h⟩:=bnd h
 refine Goes.cut (s':=(ofG 32 ((0,.i k)::(kS [(11,.bool B)])),(kN []))) ?_ ?_
 ·rcases wyD a with⟨u,a⟩|⟨u,a⟩
  ·obtain rfl:=si a
   exact tr fol [2] ((0,.i k)::(kS [(11,.bool true)])) (ac (gw u) az)
  obtain rfl:=si a
  exact tr fol [2] ((0,.i k)::(kS [(11,.bool (decide (k>30)))])) (ac (gw u) az)
 refine ihB h (fun C h=>?_) (fun C h=>?_)
 ·refine sh fol (kS [(3,.i 3)]) ?_
  refine Goes.ret ?_
  obtain rfl:=si h
  exact(gw2 [.agg [.str [],.str []],.i 3] (FzW.tuple (qc.cons (FzW.agg (qc.cons (Ua tS) (qc.cons (Ua tS) qc.nil))) (qc.cons (Ua tI) qc.nil))))
 refine Goes.skip ?_
 obtain⟨z,p,h⟩:=bnd h
 obtain⟨c,q,h⟩:=bnd h
 refine sq (gq fol [2,3,5] ((0,.i k)::(kS [(4,.ptr 1 0)])) (kN [.cells (nz1 c)]) (ac (hs (.done (.opt (qY ZT 9 (.str [51,49,52,49,53,57,50,54,53,51,53,56,57,55,57,51,50,51,56,52,54,50,54,52,51,51,56,51,50,55,57]) none (some (.i (w64 (k+1)))) none)) (.str z)) (zX st9 none (some (w64 (k+1))) p)) (ac (cv (qan N z q)) (ac (hs (.run [1] (qw ZT 95 (.ptr 1 0) (.agg (nz1 c))) (kN [bZ]) .undef (kN [.cells (nz1 c)]) true) (kw (n:=2) (by kernel_rfl) rfl rfl rfl rfl (cac rfl (cac nvc can)) rfl)) az))) ?_)
 obtain⟨D,r,h⟩:=bnd h
 obtain⟨A,s,h⟩:=bnd h
 obtain⟨o,t,h⟩:=bnd h
 refine sq (gq fol [1,2,3,5] (kS (kAU [])) (kN [.cells (nz1 c),.cells (nz1 o)]) (ac (cv (qhY [48] k r)) (ac (hs (.done (.opt (kL ZT .add 9 (.const (.string ⟨#[49]⟩)) (.tmp 18) (.str [49]) (.str D))) (.str A)) (qaC s)) (ac (cv (qan N A t)) (ac (hs (.run [2] (qw ZT 95 (.ptr 2 0) (.agg (nz1 o))) (kN [.cells (nz1 c),bZ]) .undef (kN [.cells (nz1 c),.cells (nz1 o)]) true) (kw (n:=2) (by kernel_rfl) rfl rfl rfl rfl (cac rfl (cac nvc can)) rfl)) az)))) ?_)
 obtain⟨v,d,h⟩:=bnd h
 obtain⟨w,e,h⟩:=bnd h
 obtain⟨x,f,h⟩:=bnd h
 obtain⟨y,g,h⟩:=bnd h
 obtain⟨b,j,h⟩:=bnd h
 refine sq (gq fol [2,4,5,7,8] (kS [(3,.i b.2)]) (kV b.1.Low b.1.High [.cells (nz1 c),.cells (nz1 o)]) (ac (cv (qcS N c o d)) (ac (cv (qbv 1 e)) (ac (cv (yY N c w f)) (ac (cv (qcS N x o g)) (ac (cv (qcw N v y j)) az))))) ?_)
 refine Goes.ret ?_
 obtain rfl:=si h
 exact(gw2 (kW b.1.Low b.1.High [.i b.2]) (FzW.tuple (qc.cons (FzW.agg (qc.cons (Ua tS) (qc.cons (Ua tS) qc.nil))) (qc.cons (Ua tI) qc.nil))))
def xB (N:Nat) (a:qC) (b:qC):Option Bool:=
 ((ym N b.Low a.Low).bind fun c=>
 if c<=0 then
 (ym N a.High b.High).bind fun d=>
 some (decide (d<=0))
 else
 some false:Option Bool).bind fun e=>
 some e
theorem xL (N:Nat) (a:qC) (b:qC) {res:Bool} (h:xB N a b=some res):qb ZT (.fn 10) (kW a.Low a.High (kW b.Low b.High [])) [] (.bool res) []:=by
 unfold xB at h
 refine Ub Tryz.func10 rfl rfl (m:=19) rfl (rs:=[.tmp 4]) rfl (l:=(kAP a.Low a.High b.Low b.High [])) rfl ?_
 refine sg fol (kS (kAc [])) (kD a.Low a.High b.Low b.High []) ?_
 refine sq ?_
 obtain⟨g,c,h⟩:=bnd h
 refine Goes.cut (s':=(ofG 19 (kAs g),(kD a.Low a.High b.Low b.High []))) ?_ ?_
 ·obtain⟨j,d,c⟩:=bnd c
  rcases wyD c with⟨f,c⟩|⟨f,c⟩
  ·obtain⟨i,e,c⟩:=bnd c
   obtain rfl:=si c
   exact tr fol [4,6,11] (kAs (decide (i<=0))) (ac (cv (jd N b.Low a.Low d)) (ac (gw f) (ac (cv (jd N a.High b.High e)) az)))
  obtain rfl:=si c
  exact tr fol [4,6] kAa (ac (cv (jd N b.Low a.Low d)) (ac (gw f) az))
 refine Goes.ret ?_
 obtain rfl:=si h
 exact(gw2 [.bool g] (Ua tB))
def yU (N:Nat) (a:Str) (b:Str):Option Str:=
 (ve N a).bind fun c=>
 (ve N b).bind fun d=>
 (if c.2.2=true then
 some d.2.2
 else
 some false:Option Bool).bind fun j=>
 if j=true then
 (qcj N (w64 (c.1*d.1)) (w64 (c.2.1*d.2.1))).bind fun k=>
 some k
 else
 (jK N a).bind fun h=>
 (jK N b).bind fun i=>
 (yC N h.1 i.1).bind fun e=>
 (yC N h.2 i.2).bind fun f=>
 (vD N e f).bind fun g=>
 some g
theorem xw (N:Nat) (a:Str) (b:Str) {res:Str} (h:yU N a b=some res):qb ZT (.fn 68) (kAi a b) [] (.str res) []:=by
 unfold yU at h
 refine Ub Tryz.func68 rfl rfl (m:=55) rfl (rs:=[.tmp 4]) rfl (l:=(kO a b [])) rfl ?_
 refine sh fol (kO a b []) ?_
 obtain⟨d,o,h⟩:=bnd h
 refine sq (gr fol [1] (kO a b [(5,.i d.1),(6,.i d.2.1),(7,.bool d.2.2)]) (ac (cv (qbj N a o)) az) ?_)
 obtain⟨e,p,h⟩:=bnd h
 refine sq (gr fol [1] (kO a b ((5,.i d.1)::(6,.i d.2.1)::(7,.bool d.2.2)::(kAo e.1 e.2.1 [(10,.bool e.2.2)]))) (ac (cv (qbj N b p)) az) ?_)
 refine sq ?_
 refine sq ?_
 obtain⟨z,c,h⟩:=bnd h
 refine Goes.cut (s':=(ofG 55 (kO a b ((5,.i d.1)::(6,.i d.2.1)::(kAo e.1 e.2.1 [(30,.bool z)]))),[])) ?_ ?_
 ·rcases wyB c with⟨u,c⟩|⟨u,c⟩
  ·obtain rfl:=si c
   exact tr fol [1] (kO a b ((5,.i d.1)::(6,.i d.2.1)::(kAo e.1 e.2.1 [(30,.bool e.2.2)]))) (ac (gw u) az)
  obtain rfl:=si c
  exact tr fol [1] (kO a b ((5,.i d.1)::(6,.i d.2.1)::(kAo e.1 e.2.1 [(30,.bool false)]))) (ac (gw u) az)
 refine ihB h (fun A h=>?_) (fun A h=>?_)
 ·obtain⟨y,q,h⟩:=bnd h
  refine sq (gr fol [6] (kA4 y) (ac (cv (qeL N (w64 (d.1*e.1)) (w64 (d.2.1*e.2.1)) q)) az) ?_)
  refine Goes.ret ?_
  obtain rfl:=si h
  exact(gw2 [.str y] (Ua tS))
 refine Goes.skip ?_
 obtain⟨f,r,h⟩:=bnd h
 refine sq (gq fol [1] [(1,.str b),(11,.ptr 0 0),(12,.ptr 1 0)] (kM f.1.neg f.1.w f.2.neg f.2.w []) (ac (cv (yV N a r)) az) ?_)
 obtain⟨n,s,h⟩:=bnd h
 refine sq (gq fol [1] [(11,.ptr 0 0),(12,.ptr 1 0),(13,.ptr 2 0),(14,.ptr 3 0)] (kM f.1.neg f.1.w f.2.neg f.2.w (kM n.1.neg n.1.w n.2.neg n.2.w [])) (ac (cv (yV N b s)) az) ?_)
 obtain⟨v,g,h⟩:=bnd h
 obtain⟨x,j,h⟩:=bnd h
 obtain⟨t,k,h⟩:=bnd h
 refine sq (gr fol [2,5,6] (kA4 t) (ac (cv (qak N f.1 n.1 g)) (ac (cv (qak N f.2 n.2 j)) (ac (cv (qad N v x k)) az))) ?_)
 refine Goes.ret ?_
 obtain rfl:=si h
 exact(gw2 [.str t] (Ua tS))
def yQ (N:Nat) (a:Str):Option Str:=
 (jK N a).bind fun b=>
 (vD N b.2 b.1).bind fun c=>
 some c
theorem qe8 (N:Nat) (a:Str) {res:Str} (h:yQ N a=some res):qb ZT (.fn 69) [.str a] [] (.str res) []:=by
 unfold yQ at h
 refine Ub Tryz.func69 rfl rfl (m:=13) rfl (rs:=[.tmp 2]) rfl (l:=(kAS a [])) rfl ?_
 refine sh fol (kAS a []) ?_
 obtain⟨b,c,h⟩:=bnd h
 refine sq (gq fol [1] [(3,.ptr 0 0),(4,.ptr 1 0)] (kM b.1.neg b.1.w b.2.neg b.2.w []) (ac (cv (yV N a c)) az) ?_)
 obtain⟨e,d,h⟩:=bnd h
 refine sq (gr fol [2] (kBP e) (ac (cv (qad N b.2 b.1 d)) az) ?_)
 refine Goes.ret ?_
 obtain rfl:=si h
 exact(gw2 [.str e] (Ua tS))
def qbB (N:Nat) (a:Str) (b:Str):Option Str:=
 (yQ N b).bind fun c=>
 (yU N a c).bind fun d=>
 some d
theorem qdJ (N:Nat) (a:Str) (b:Str) {res:Str} (h:qbB N a b=some res):qb ZT (.fn 12) (kAi a b) [] (.str res) []:=by
 unfold qbB at h
 refine Ub Tryz.func12 rfl rfl (m:=9) rfl (rs:=[.tmp 4]) rfl (l:=(kO a b [])) rfl ?_
 refine sh fol (kO a b []) ?_
 obtain⟨f,c,h⟩:=bnd h
 obtain⟨e,d,h⟩:=bnd h
 refine sq (gr fol [2,3] (kA4 e) (ac (cv (qe8 N b c)) (ac (cv (xw N a f d)) az)) ?_)
 refine Goes.ret ?_
 obtain rfl:=si h
 exact(gw2 [.str e] (Ua tS))
def xC (N:Nat):Nat->Str->Int->Str->Option Str
 |0,_,_,_=>none
 |K+1,a,b,c=>
  if b>0 then
  ((if(b.tmod 2)=1 then
  (yU N c a).bind fun d=>
  some d
  else
  some c:Option Str)).bind fun f=>
  (yU N a a).bind fun e=>
  xC N K e (w64 (b.tdiv 2)) f
  else
  some c
def qds (N:Nat) (a:Str) (k:Int):Option Str:=
 if k<0 then
 none
 else
 (xC N N a k [49]).bind fun b=>
 some b
theorem qjT (N:Nat) (a:Str) (k:Int) {res:Str} (h:qds N a k=some res):qb ZT (.fn 13) [.str a,.i k] [] (.str res) []:=by
 unfold qds at h
 refine Ub Tryz.func13 rfl rfl (m:=27) rfl (rs:=[.tmp 4]) rfl (l:=(kAS a [(1,.i k)])) rfl ?_
 refine sh fol (kAS a [(1,.i k)]) ?_
 refine sq ?_
 refine sh fol (kAS a [(1,.i k),(7,.bool (decide (k<0)))]) ?_
 refine ihD h (fun t h=>?_) (fun t h=>?_)
 ·refine sq ?_
  cases h
 refine Goes.skip ?_
 refine sh fol (kAS a [(1,.i k),(5,.str [49])]) ?_
 refine sq (Goes.block ?_)
 obtain⟨r,g7,h⟩:=bnd h
 refine Goes.imp (Q:=fun x s'=>(x= .exit 0/\ ∃n,n=r/\Sub s' (ofG 27 [(5,.str n)],[]))) ?_ ?_
 ·refine Uc (fun M s=> ∃(c:Str) (b:Int) (g:Str),s=(ofG 27 (kAS c [(1,.i b),(5,.str g)]),[])/\xC N M c b g=some r) ?_ (m:=N) ⟨_,_,_,rfl,g7⟩
  rintro M s ⟨c,b,g,rfl,g7⟩
  cases M with
  |zero=>simp only[xC]at g7;cases g7
  |succ M=>
   rw[xC]at g7
   refine sq ?_
   refine sh fol (kAS c [(1,.i b),(5,.str g),(14,.bool (decide (b>0)))]) ?_
   refine ihD g7 (fun u g7=>?_) (fun u g7=>?_)
   ·refine Goes.skip ?_
    refine Goes.block ?_
    refine sq ?_
    refine sh fol (kAS c [(1,.i b),(5,.str g),(17,.bool (decide ((b.tmod 2)=1)))]) ?_
    obtain⟨o,g10,g7⟩:=bnd g7
    refine Goes.imp (Q:=fun x s'=>(x= .normal/\ ∃j,j=o/\Sub s' (ofG 27 (kAS c [(1,.i b),(5,.str j)]),[]))) ?_ ?_
    ·refine ihD g10 (fun p g10=>?_) (fun p g10=>?_)
     ·obtain⟨q,d,g10⟩:=bnd g10
      refine gr fol [2] (kAS c [(1,.i b),(5,.str q)]) (ac (cv (xw N g c d)) az) ?_
      obtain rfl:=si g10
      exact⟨rfl,_,rfl,(Sub.refl _)⟩
     refine Goes.skip ?_
     obtain rfl:=si g10
     exact⟨rfl,_,rfl,(Sub.keep [0,1,5] rfl rfl)⟩
    rintro x s' ⟨rfl,j,rfl,hsub⟩
    refine Goes.sub hsub ?_
    obtain⟨e,f,g7⟩:=bnd g7
    refine sq (gr fol [2] (kAS e [(1,.i b),(5,.str j)]) (ac (cv (xw N c c f)) az) ?_)
    refine gh fol (kAS e [(1,.i (w64 (b.tdiv 2))),(5,.str j)]) ?_
    exact⟨M,(ofG 27 (kAS e [(1,.i (w64 (b.tdiv 2))),(5,.str j)]),[]),Nat.lt_succ_self _,(Sub.refl _),_,_,_,rfl,g7⟩
   refine Goes.exit ?_
   obtain rfl:=si g7
   exact⟨rfl,_,rfl,(Sub.keep [5] rfl rfl)⟩
 rintro x s' ⟨rfl,n,rfl,hsub⟩
 refine Goes.sub hsub ?_
 refine sh fol (kA4 n) ?_
 refine Goes.ret ?_
 obtain rfl:=si h
 exact(gw2 [.str n] (Ua tS))
def qcO (N:Nat) (a:qC) (b:qC):Option qC:=
 (xY N a.Low b.High).bind fun c=>
 (xY N a.High b.Low).bind fun d=>
 some (⟨c,d⟩:qC)
theorem qhp (N:Nat) (a:qC) (b:qC) {res:qC} (h:qcO N a b=some res):qb ZT (.fn 14) (kW a.Low a.High (kW b.Low b.High [])) [] (.agg (kAi res.Low res.High)) []:=by
 unfold qcO at h
 refine Ub Tryz.func14 rfl rfl (m:=16) rfl (rs:=[.cell 4 24]) rfl (l:=(kAP a.Low a.High b.Low b.High [])) rfl ?_
 refine sg fol (kF []) (kD a.Low a.High b.Low b.High (kN [])) ?_
 obtain⟨e,c,h⟩:=bnd h
 obtain⟨f,d,h⟩:=bnd h
 refine sq (gq fol [4,9] (kAR []) (kD a.Low a.High b.Low b.High (kV e f [])) (ac (cv (qaA N a.Low b.High c)) (ac (cv (qaA N a.High b.Low d)) az)) ?_)
 refine Goes.ret ?_
 obtain rfl:=si h
 exact(gw2 [.agg (kAi e f)] (FzW.agg (qc.cons (Ua tS) (qc.cons (Ua tS) qc.nil))))
def qcc (N:Nat) (a:Str) (b:Str):Option Str:=
 (ym N a b).bind fun c=>
 if c<=0 then
 some a
 else
 some b
theorem qfQ (N:Nat) (a:Str) (b:Str) {res:Str} (h:qcc N a b=some res):qb ZT (.fn 71) (kAi a b) [] (.str res) []:=by
 unfold qcc at h
 refine Ub Tryz.func71 rfl rfl (m:=11) rfl (rs:=[.tmp 4]) rfl (l:=(kO a b [])) rfl ?_
 refine sh fol (kO a b []) ?_
 refine sq ?_
 obtain⟨d,c,h⟩:=bnd h
 refine sq (gr fol [2] (kO a b (kBI (decide (d<=0)))) (ac (cv (jd N a b c)) az) ?_)
 refine ihD h (fun e h=>?_) (fun e h=>?_)
 ·refine sh fol (kA4 a) ?_
  refine Goes.ret ?_
  obtain rfl:=si h
  exact(gw2 [.str a] (Ua tS))
 refine Goes.skip ?_
 refine sh fol (kA4 b) ?_
 refine Goes.ret ?_
 obtain rfl:=si h
 exact(gw2 [.str b] (Ua tS))
def qb6 (N:Nat) (a:Str) (b:Str):Option Str:=
 (ym N a b).bind fun c=>
 if c>=0 then
 some a
 else
 some b
theorem qfR (N:Nat) (a:Str) (b:Str) {res:Str} (h:qb6 N a b=some res):qb ZT (.fn 72) (kAi a b) [] (.str res) []:=by
 unfold qb6 at h
 refine Ub Tryz.func72 rfl rfl (m:=11) rfl (rs:=[.tmp 4]) rfl (l:=(kO a b [])) rfl ?_
 refine sh fol (kO a b []) ?_
 refine sq ?_
 obtain⟨d,c,h⟩:=bnd h
 refine sq (gr fol [2] (kO a b (kBI (decide (d>=0)))) (ac (cv (jd N a b c)) az) ?_)
 refine ihD h (fun e h=>?_) (fun e h=>?_)
 ·refine sh fol (kA4 a) ?_
  refine Goes.ret ?_
  obtain rfl:=si h
  exact(gw2 [.str a] (Ua tS))
 refine Goes.skip ?_
 refine sh fol (kA4 b) ?_
 refine Goes.ret ?_
 obtain rfl:=si h
 exact(gw2 [.str b] (Ua tS))
def yF (N:Nat) (l:List Str):Nat->Str->Str->Int->Option (Str×Str)
 |0,_,_,_=>none
 |K+1,d,e,a=>
  if a<(l.length:Int)then
  (idx l a).bind fun f=>
  (qcc N d f).bind fun b=>
  (qb6 N e f).bind fun c=>
  yF N l K b c (w64 (a+1))
  else
  some (d,e)
def qco (N:Nat) (l:List Str):Option qC:=
 (idx l 0).bind fun a=>
 (yF N l N a a 1).bind fun(b,c)=>
 some (⟨b,c⟩:qC)
theorem qiB (N:Nat) (l:List Str) {res:qC} (h:qco N l=some res):qb ZT (.fn 70) [vl encS l] [] (.agg (kAi res.Low res.High)) []:=by
 unfold qco at h
 refine Ub Tryz.func70 rfl rfl (m:=35) rfl (rs:=[.cell 2 24]) rfl (l:=(kBA l [])) rfl ?_
 refine sg fol (kBA l (kS [])) (kN []) ?_
 obtain⟨p,a,h⟩:=bnd h
 refine sq (gq fol [1,2,4,5] (kBA l (kS (kAc []))) (kN [.cells [.str p,.str p]]) (ac (iv qlj encS a) (ac (lv 0 qlT encS a rfl) (ac (iv qlj encS a) (ac (lv 0 qlT encS a rfl) az)))) ?_)
 refine sq ?_
 refine sh fol (kBA l (kS (kAc [(4,.i 1)]))) ?_
 refine Goes.block ?_
 obtain⟨q,g7,h⟩:=bnd h
 refine Goes.imp (Q:=fun x s'=>(x= .exit 0/\ ∃f g,(f,g)=q/\Sub s' (ofG 35 (kS (kAc [])),(kN (kV f g []))))) ?_ ?_
 ·refine Uc (fun M s=> ∃(n:Str) (o:Str) (c:Int),s=(ofG 35 (kBA l (kS (kAc [(4,.i c)]))),(kN (kV n o [])))/\yF N l M n o c=some q) ?_ (m:=N) ⟨_,_,_,rfl,g7⟩
  rintro M s ⟨n,o,c,rfl,g7⟩
  cases M with
  |zero=>simp only[yF]at g7;cases g7
  |succ M=>
   rw[yF]at g7
   refine sq ?_
   refine sh fol (kBA l (kS (kAc ((4,.i c)::(kBN (decide (c<(l.length:Int)))))))) ?_
   refine ihD g7 (fun t g7=>?_) (fun t g7=>?_)
   ·refine Goes.skip ?_
    refine sq (Goes.block ?_)
    obtain⟨r,b,g7⟩:=bnd g7
    obtain⟨j,d,g7⟩:=bnd g7
    obtain⟨k,e,g7⟩:=bnd g7
    refine gq fol [4,5,6,11,12,13] (kBA l (kS (kAc [(4,.i c)]))) (kN (kV j k [])) (ac (iv qlj encS b) (ac (lv 0 qlT encS b rfl) (ac (cv (qfQ N n r d)) (ac (iv qlj encS b) (ac (lv 0 qlT encS b rfl) (ac (cv (qfR N o r e)) az)))))) ?_
    refine gh fol (kBA l (kS (kAc [(4,.i (w64 (c+1)))]))) ?_
    exact⟨M,(ofG 35 (kBA l (kS (kAc [(4,.i (w64 (c+1)))]))),(kN (kV j k []))),Nat.lt_succ_self _,(Sub.refl _),_,_,_,rfl,g7⟩
   refine Goes.exit ?_
   obtain rfl:=si g7
   exact⟨rfl,_,_,rfl,(Sub.keep [2,3] rfl rfl)⟩
 rintro x s' ⟨rfl,f,g,rfl,hsub⟩
 try dsimp only at h
 refine Goes.sub hsub ?_
 refine sg fol (kS []) (kV f g (kV f g [])) ?_
 refine Goes.ret ?_
 obtain rfl:=si h
 exact(gw2 [.agg (kAi f g)] (FzW.agg (qc.cons (Ua tS) (qc.cons (Ua tS) qc.nil))))
def qa1 (N:Nat) (a:qC) (b:qC):Option qC:=
 (yU N a.Low b.Low).bind fun c=>
 (yU N a.Low b.High).bind fun d=>
 (yU N a.High b.Low).bind fun e=>
 (yU N a.High b.High).bind fun f=>
 (qco N ([c,d,e,f]:List Str)).bind fun g=>
 some g
theorem qeh (N:Nat) (a:qC) (b:qC) {res:qC} (h:qa1 N a b=some res):qb ZT (.fn 15) (kW a.Low a.High (kW b.Low b.High [])) [] (.agg (kAi res.Low res.High)) []:=by
 unfold qa1 at h
 refine Ub Tryz.func15 rfl rfl (m:=27) rfl (rs:=[.cell 4 24]) rfl (l:=(kAP a.Low a.High b.Low b.High [])) rfl ?_
 refine sg fol (kF []) (kD a.Low a.High b.Low b.High (kN [])) ?_
 obtain⟨j,d,h⟩:=bnd h
 obtain⟨k,e,h⟩:=bnd h
 obtain⟨n,f,h⟩:=bnd h
 obtain⟨o,g,h⟩:=bnd h
 obtain⟨c,i,h⟩:=bnd h
 refine sq (gq fol [4,9,14,19,21] (kAR []) (kD a.Low a.High b.Low b.High (kV c.Low c.High [.cells [.str j,.str k,.str n,.str o]])) (ac (cv (xw N a.Low b.Low d)) (ac (cv (xw N a.Low b.High e)) (ac (cv (xw N a.High b.Low f)) (ac (cv (xw N a.High b.High g)) (ac (hs (.call 70 [.slice 3 0 4 4 1] (kD a.Low a.High b.Low b.High (kN [.cells [.str j,.str k,.str n,.str o]])) [3] [vl encS ([j,k,n,o]:List Str)] (.agg (kAi c.Low c.High))) (qey (FzL.cons (Fz.lit rfl rfl (Ue (AllST.cons tS (AllST.cons tS (AllST.cons tS (AllST.cons tS AllST.nil)))))) FzL.nil) (qiB N ([j,k,n,o]:List Str) i) (Still.agg (AllST.cons tS (AllST.cons tS AllST.nil))) rfl)) az))))) ?_)
 refine Goes.ret ?_
 obtain rfl:=si h
 exact(gw2 [.agg (kAi c.Low c.High)] (FzW.agg (qc.cons (Ua tS) (qc.cons (Ua tS) qc.nil))))
def qbO (a:Str):Option qC:=
 some (⟨a,a⟩:qC)
theorem qeP (a:Str) {res:qC} (h:qbO a=some res):qb ZT (.fn 16) [.str a] [] (.agg (kAi res.Low res.High)) []:=by
 unfold qbO at h
 refine Ub Tryz.func16 rfl rfl (m:=6) rfl (rs:=[.cell 2 24]) rfl (l:=(kAS a [])) rfl ?_
 refine sg fol (kAS a (kS [])) (kN []) ?_
 refine sg fol (kS []) [.cells [.str a,.str a]] ?_
 refine Goes.ret ?_
 obtain rfl:=si h
 exact(gw2 [.agg [.str a,.str a]] (FzW.agg (qc.cons (Ua tS) (qc.cons (Ua tS) qc.nil))))
def xZ (N:Nat) (n:Int):Option Str:=
 (vR N n).bind fun a=>
 (qaV N a).bind fun b=>
 some b
theorem qdr (N:Nat) (n:Int) {res:Str} (h:xZ N n=some res):qb ZT (.fn 26) [.i n] [] (.str res) []:=by
 unfold xZ at h
 refine Ub Tryz.func26 rfl rfl (m:=6) rfl (rs:=[.tmp 2]) rfl (l:=[(0,.i n)]) rfl ?_
 refine sh fol [(0,.i n)] ?_
 obtain⟨d,a,h⟩:=bnd h
 obtain⟨c,b,h⟩:=bnd h
 refine sq (gr fol [1,2] (kBP c) (ac (cv (qa7 N n a)) (ac (cv (qcZ N d b)) az)) ?_)
 refine Goes.ret ?_
 obtain rfl:=si h
 exact(gw2 [.str c] (Ua tS))
def qdQ (low:Str) (high:Str):Option qC:=
 some (⟨low,high⟩:qC)
theorem qiG (low:Str) (high:Str) {res:qC} (h:qdQ low high=some res):qb ZT (.fn 43) (kAi low high) [] (.agg (kAi res.Low res.High)) []:=by
 unfold qdQ at h
 refine Ub Tryz.func43 rfl rfl (m:=8) rfl (rs:=[.cell 4 24]) rfl (l:=(kO low high [])) rfl ?_
 refine sg fol (kO low high (kX [])) (kN []) ?_
 refine sg fol (kX []) (kV low high []) ?_
 refine Goes.ret ?_
 obtain rfl:=si h
 exact(gw2 [.agg (kAi low high)] (FzW.agg (qc.cons (Ua tS) (qc.cons (Ua tS) qc.nil))))
def jI (N:Nat) (k:Int) (n:Int):Nat->Str->Str->Str->Int->Option (Str×Str)
 |0,_,_,_,_=>none
 |K+1,c,j,l,b=>
  if b<=n then
  (xZ N (w64 ((w64 (2*b))+1))).bind fun d=>
  (qbB N j d).bind fun a=>
  ((if(b.tmod 2)=1 then
  (qbx a).bind fun e=>
  some e
  else
  some a:Option Str)).bind fun f=>
  (qb7 N c f).bind fun g=>
  (xZ N (w64 (k*k))).bind fun h=>
  (qbB N j h).bind fun i=>
  jI N k n K g i c (w64 (b+1))
  else
  some (c,l)
def qaF (N:Nat) (k:Int) (n:Int):Option qC:=
 (qcj N 1 k).bind fun f=>
 (jI N k n N [48] f [48] 0).bind fun(d,e)=>
 (qcc N e d).bind fun a=>
 (qb6 N e d).bind fun b=>
 (qdQ a b).bind fun c=>
 some c
theorem qd2 (N:Nat) (k:Int) (n:Int) {res:qC} (h:qaF N k n=some res):qb ZT (.fn 17) [.i k,.i n] [] (.agg (kAi res.Low res.High)) []:=by
 unfold qaF at h
 refine Ub Tryz.func17 rfl rfl (m:=46) rfl (rs:=[.cell 4 24]) rfl (l:=(kAD k n [])) rfl ?_
 refine sg fol (kAD k n (kX [])) (kN []) ?_
 obtain⟨D,z,h⟩:=bnd h
 refine sq (gr fol [1] (kAD k n (kX [(5,.str [48]),(6,.str D)])) (ac (cv (qeL N 1 k z)) az) ?_)
 refine sh fol (kAD k n (kX [(5,.str [48]),(6,.str D),(7,.str [48])])) ?_
 refine sq ?_
 refine sh fol (kAD k n (kX [(5,.str [48]),(6,.str D),(7,.str [48]),(8,.i 0)])) ?_
 refine Goes.block ?_
 obtain⟨L,g8,h⟩:=bnd h
 refine Goes.imp (Q:=fun x s'=>(x= .exit 0/\ ∃A B,(A,B)=L/\Sub s' (ofG 46 (kX [(5,.str A),(7,.str B)]),(kN [])))) ?_ ?_
 ·refine Uc (fun M s=> ∃(a:Str) (c:Str) (C:Str) (b:Int),s=(ofG 46 (kAD k n (kX ((5,.str a)::(kAk c C b [])))),(kN []))/\jI N k n M a c C b=some L) ?_ (m:=N) ⟨_,_,_,_,rfl,g8⟩
  rintro M s ⟨a,c,C,b,rfl,g8⟩
  cases M with
  |zero=>simp only[jI]at g8;cases g8
  |succ M=>
   rw[jI]at g8
   refine sq ?_
   refine sh fol (kAD k n (kX ((5,.str a)::(kAk c C b (kBN (decide (b<=n))))))) ?_
   refine ihD g8 (fun O g8=>?_) (fun O g8=>?_)
   ·refine Goes.skip ?_
    refine sq (Goes.block ?_)
    refine sh fol (kAD k n (kX ((5,.str a)::(kAk c a b [])))) ?_
    obtain⟨E,g,g8⟩:=bnd g8
    obtain⟨j,o,g8⟩:=bnd g8
    refine sq (gr fol [4,5] (kAD k n (kX ((5,.str a)::(kAk c a b [(9,.str j)])))) (ac (cv (qdr N (w64 ((w64 (2*b))+1)) g)) (ac (cv (qdJ N c E o)) az)) ?_)
    refine sq ?_
    refine sh fol (kAD k n (kX ((5,.str a)::(kAk c a b [(9,.str j),(27,.bool (decide ((b.tmod 2)=1)))])))) ?_
    obtain⟨F,g13,g8⟩:=bnd g8
    refine Goes.imp (Q:=fun x s'=>(x= .normal/\ ∃d,d=F/\Sub s' (ofG 46 (kAD k n (kX ((5,.str a)::(kAk c a b [(9,.str d)])))),(kN [])))) ?_ ?_
    ·refine ihD g13 (fun G g13=>?_) (fun G g13=>?_)
     ·obtain⟨H,p,g13⟩:=bnd g13
      refine gr fol [1] (kAD k n (kX ((5,.str a)::(kAk c a b [(9,.str H)])))) (ac (cv (qfF j p)) az) ?_
      obtain rfl:=si g13
      exact⟨rfl,_,rfl,(Sub.refl _)⟩
     refine Goes.skip ?_
     obtain rfl:=si g13
     exact⟨rfl,_,rfl,(Sub.keep [0,1,4,5,6,7,8,9] rfl rfl)⟩
    rintro x s' ⟨rfl,d,rfl,hsub⟩
    refine Goes.sub hsub ?_
    obtain⟨e,q,g8⟩:=bnd g8
    refine sq (gr fol [2] (kAD k n (kX ((5,.str e)::(kAk c a b [])))) (ac (cv (qfS N a d q)) az) ?_)
    obtain⟨I,r,g8⟩:=bnd g8
    obtain⟨t,u,g8⟩:=bnd g8
    refine gr fol [4,5] (kAD k n (kX ((5,.str e)::(kAk t a b [])))) (ac (cv (qdr N (w64 (k*k)) r)) (ac (cv (qdJ N c I u)) az)) ?_
    refine gh fol (kAD k n (kX ((5,.str e)::(kAk t a (w64 (b+1)) [])))) ?_
    exact⟨M,(ofG 46 (kAD k n (kX ((5,.str e)::(kAk t a (w64 (b+1)) [])))),(kN [])),Nat.lt_succ_self _,(Sub.refl _),_,_,_,_,rfl,g8⟩
   refine Goes.exit ?_
   obtain rfl:=si g8
   exact⟨rfl,_,_,rfl,(Sub.keep [4,5,7] rfl rfl)⟩
 rintro x s' ⟨rfl,A,B,rfl,hsub⟩
 try dsimp only at h
 refine Goes.sub hsub ?_
 obtain⟨J,v,h⟩:=bnd h
 obtain⟨K,w,h⟩:=bnd h
 obtain⟨f,y,h⟩:=bnd h
 refine sq (gq fol [2,5,6] (kX []) (kV f.Low f.High []) (ac (cv (qfQ N B A v)) (ac (cv (qfR N B A w)) (ac (cv (qiG J K y)) az))) ?_)
 refine Goes.ret ?_
 obtain rfl:=si h
 exact(gw2 [.agg (kAi f.Low f.High)] (FzW.agg (qc.cons (Ua tS) (qc.cons (Ua tS) qc.nil))))
def zL (l:List Int):Nat->Int->Option (Unit⊕Int)
 |0,_=>none
 |K+1,a=>
  if a<(l.length:Int)then
  (idx l a).bind fun b=>
  if(!decide (b=0))=true then
  some (.inr b)
  else
  zL l K (w64 (a+1))
  else
  some (.inl ())
def jV (N:Nat) (l:List Int):Option Int:=
 (zL l N 0).bind (fun
 |(.inl ())=>
 some 0
 |(.inr a)=>
 some a)
theorem qaO (N:Nat) (l:List Int) {res:Int} (h:jV N l=some res):qb ZT (.fn 79) [vl encI l] [] (.i res) []:=by
 unfold jV at h
 refine Ub Tryz.func79 rfl rfl (m:=15) rfl (rs:=[.tmp 2]) rfl (l:=(kBF l [])) rfl ?_
 refine sh fol (kBF l []) ?_
 refine sq ?_
 refine sh fol [(5,vl encI l),(6,.i (l.length:Int)),(7,.i 0)] ?_
 refine Goes.block ?_
 obtain⟨d,g2,h⟩:=bnd h
 refine Goes.imp (Q:=fun x s'=>(x= .exit 0/\(.inl ())=d/\Sub s' (ofG 15 [],[]))\/(x= .ret/\ ∃e,(.inr e)=d/\yB ZT [.tmp 2] (.i e) .ret s')) ?_ ?_
 ·refine Uc (fun M s=> ∃(a:Int),s=(ofG 15 ((5,vl encI l)::(kA5 (l.length:Int) a)),[])/\zL l M a=some d) ?_ (m:=N) ⟨_,rfl,g2⟩
  rintro M s ⟨a,rfl,g2⟩
  cases M with
  |zero=>simp only[zL]at g2;cases g2
  |succ M=>
   rw[zL]at g2
   refine sh fol ((5,vl encI l)::(6,.i (l.length:Int))::(7,.i a)::(kBI (decide (a<(l.length:Int))))) ?_
   refine sq ?_
   refine ihD g2 (fun f g2=>?_) (fun f g2=>?_)
   ·refine Goes.skip ?_
    refine sq (Goes.block ?_)
    obtain⟨c,b,g2⟩:=bnd g2
    refine sq (gr fol [0,1] ((4,.i c)::(5,vl encI l)::(kA5 (l.length:Int) a)) (ac (iv sl199 encI b) (ac (lv 0 ce27 encI b rfl) az)) ?_)
    refine sh fol ((4,.i c)::(5,vl encI l)::(6,.i (l.length:Int))::(7,.i a)::(kBB (!decide (c=0)))) ?_
    refine ihB g2 (fun g g2=>?_) (fun g g2=>?_)
    ·refine sh fol [(2,.i c)] ?_
     refine Goes.ret ?_
     obtain rfl:=si g2
     exact Or.inr (⟨rfl,_,rfl,(gw2 [.i c] (Ua tI))⟩)
    refine Goes.skip ?_
    refine gh fol ((5,vl encI l)::(kA5 (l.length:Int) (w64 (a+1)))) ?_
    exact⟨M,(ofG 15 ((5,vl encI l)::(kA5 (l.length:Int) (w64 (a+1)))),[]),Nat.lt_succ_self _,(Sub.refl _),_,rfl,g2⟩
   refine Goes.exit ?_
   obtain rfl:=si g2
   exact Or.inl (⟨rfl,rfl,(Sub.keep [] rfl rfl)⟩)
 rintro x s' (⟨rfl,rfl,hsub⟩|⟨rfl,j,rfl,hret⟩)
 ·try dsimp only at h
  refine Goes.sub hsub ?_
  refine sh fol [(2,.i 0)] ?_
  refine Goes.ret ?_
  obtain rfl:=si h
  exact(gw2 [.i 0] (Ua tI))
 try dsimp only at h
 obtain rfl:=si h
 exact hret
def ze (holds:Bool) (e:Int):Option Int:=
 if holds=true then
 some e
 else
 some 0
theorem yO (holds:Bool) (e:Int) {res:Int} (h:ze holds e=some res):qb ZT (.fn 81) [.bool holds,.i e] [] (.i res) []:=by
 unfold ze at h
 refine Ub Tryz.func81 rfl rfl (m:=7) rfl (rs:=[.tmp 4]) rfl (l:=[(0,.bool holds),(1,.i e)]) rfl ?_
 refine sh fol [(0,.bool holds),(1,.i e)] ?_
 refine sq ?_
 refine sh fol [(1,.i e),(5,.bool holds)] ?_
 refine ihB h (fun a h=>?_) (fun a h=>?_)
 ·refine sh fol [(4,.i e)] ?_
  refine Goes.ret ?_
  obtain rfl:=si h
  exact(gw2 [.i e] (Ua tI))
 refine Goes.skip ?_
 refine sh fol [(4,.i 0)] ?_
 refine Goes.ret ?_
 obtain rfl:=si h
 exact(gw2 [.i 0] (Ua tI))
def qb8 (n:qm):Option qo:=
 (qcx 1).bind fun a=>
 some (⟨n,a⟩:qo)
theorem qfJ (n:qm) {res:qo} (h:qb8 n=some res):qb ZT (.fn 120) [.agg (nz1 n)] [] (.agg (nq1 res)) []:=by
 unfold qb8 at h
 refine Ub Tryz.func120 rfl rfl (m:=6) rfl (rs:=[.cell 2 100]) rfl (l:=[(0,.agg (nz1 n))]) rfl ?_
 refine sg fol (kAe kA9) (.cells (nz1 n)::(kH [])) ?_
 obtain⟨a,b,h⟩:=bnd h
 refine sq (gq fol [1,3] kA9 [.cells (nz1 n),.cells (ni2 n.s n.w a.s a.w)] (ac (cv (qbv 1 b)) (ac (hs (.run [1] (qw ZT 100 (.ptr 1 0) (.agg (ni2 n.s n.w a.s a.w))) (.cells (nz1 n)::(kH [])) .undef [.cells (nz1 n),.cells (ni2 n.s n.w a.s a.w)] true) (kw (n:=4) (by kernel_rfl) rfl rfl rfl rfl (cac rfl (cac nvc (cac rfl (cac nvc can)))) rfl)) az)) ?_)
 refine Goes.ret ?_
 obtain rfl:=si h
 exact(gw2 [.agg (ni2 n.s n.w a.s a.w)] (FzW.agg (qc.cons (Ua tI) (qc.cons (Ua (qA (qa .u64) _ (nl rfl))) (qc.cons (Ua tI) (qc.cons (Ua (qA (qa .u64) _ (nl rfl))) qc.nil))))))
def stringslite_IndexByte (a:Str) (c:Int):Option Int:=
 (qjA a c).bind fun b=>
 some b
theorem qda (a:Str) (c:Int) {res:Int} (h:stringslite_IndexByte a c=some res):qb ZT (.fn 296) [.str a,.int .u8 c] [] (.i res) []:=by
 unfold stringslite_IndexByte at h
 refine Ub Tryz.func296 rfl rfl (m:=8) rfl (rs:=[.tmp 4]) rfl (l:=(kAS a [(1,.int .u8 c)])) rfl ?_
 refine sh fol (kAS a [(1,.int .u8 c)]) ?_
 obtain⟨d,b,h⟩:=bnd h
 refine sq (gr fol [2] [(4,.i d)] (ac (cv (qnk a c b)) az) ?_)
 refine Goes.ret ?_
 obtain rfl:=si h
 exact(gw2 [.i d] (Ua tI))
def stringslite_Index (a:Str) (substr:Str):Option Int:=
 (if(substr.length:Int)=0 then
 some true
 else
 some (substr==a):Option Bool).bind fun b=>
 if b=true then
 some 0
 else
 if(substr.length:Int)=1 then
 (idx substr 0).bind fun c=>
 (stringslite_IndexByte a (c.toNat:Int)).bind fun d=>
 some d
 else
 if(substr.length:Int)>=(a.length:Int)then
 some (-1)
 else
 none
theorem qeg (b:Str) (substr:Str) {res:Int} (h:stringslite_Index b substr=some res):qb ZT (.fn 258) (kAi b substr) [] (.i res) []:=by
 unfold stringslite_Index at h
 refine Ub Tryz.func258 rfl rfl (m:=143) rfl (rs:=[.tmp 4]) rfl (l:=(kO b substr [])) rfl ?_
 refine sh fol (kO b substr []) ?_
 refine sh fol (kO b substr (kA6 (substr.length:Int))) ?_
 refine sq (Goes.block ?_)
 refine sq ?_
 obtain⟨j,a,h⟩:=bnd h
 refine Goes.cut (s':=(ofG 143 (kO b substr [(5,.i (substr.length:Int)),(16,.bool j)]),[])) ?_ ?_
 ·rcases wyD a with⟨e,a⟩|⟨e,a⟩
  ·obtain rfl:=si a
   exact tr fol [2] (kO b substr [(5,.i (substr.length:Int)),(16,.bool true)]) (ac (gw e) az)
  obtain rfl:=si a
  exact tr fol [2] (kO b substr [(5,.i (substr.length:Int)),(16,.bool (substr==b))]) (ac (gw e) az)
 refine ihB h (fun k h=>?_) (fun k h=>?_)
 ·refine sh fol [(4,.i 0)] ?_
  refine Goes.ret ?_
  obtain rfl:=si h
  exact(gw2 [.i 0] (Ua tI))
 refine sh fol (kO b substr [(5,.i (substr.length:Int)),(24,.bool (decide ((substr.length:Int)=1)))]) ?_
 refine ihD h (fun n h=>?_) (fun n h=>?_)
 ·obtain⟨f,c,h⟩:=bnd h
  obtain⟨g,d,h⟩:=bnd h
  refine sq (gr fol [2,3] [(4,.i g)] (ac (hs (.done (.opt (yl ZT 9 (.str substr) (.i 0))) (.int .u8 (f.toNat:Int))) (qaJ st9 c)) (ac (cv (qda b (f.toNat:Int) d)) az)) ?_)
  refine Goes.ret ?_
  obtain rfl:=si h
  exact(gw2 [.i g] (Ua tI))
 refine sh fol (kO b substr [(5,.i (substr.length:Int)),(31,.bool (decide ((substr.length:Int)>=(b.length:Int))))]) ?_
 refine ihD h (fun o h=>?_) (fun o h=>?_)
 ·refine sh fol [(4,.i (-1))] ?_
  refine Goes.ret ?_
  obtain rfl:=si h
  exact(gw2 [.i (-1)] (Ua tI))
 cases h
def stringslite_Cut (a:Str) (sep:Str):Option (Str×Str×Bool):=
 (stringslite_Index a sep).bind fun b=>
 if b>=0 then
 (cut a 0 b).bind fun c=>
 (cut a (w64 (b+(sep.length:Int))) (a.length:Int)).bind fun d=>
 some (c,d,true)
 else
 some (a,[],false)
theorem qfo (a:Str) (sep:Str) {res:Str×Str×Bool} (h:stringslite_Cut a sep=some res):qb ZT (.fn 228) (kAi a sep) [] (.tuple [.str res.1,.str res.2.1,.bool res.2.2]) []:=by
 unfold stringslite_Cut at h
 refine Ub Tryz.func228 rfl rfl (m:=23) rfl (rs:=[.tmp 4,.tmp 5,.tmp 6]) rfl (l:=(kO a sep [])) rfl ?_
 refine sh fol (kO a sep []) ?_
 refine sq ?_
 obtain⟨b,c,h⟩:=bnd h
 refine sq (gr fol [2] (kO a sep [(7,.i b)]) (ac (cv (qeg a sep c)) az) ?_)
 refine sh fol (kO a sep ((7,.i b)::(kBB (decide (b>=0))))) ?_
 refine ihD h (fun j h=>?_) (fun j h=>?_)
 ·obtain⟨f,d,h⟩:=bnd h
  obtain⟨g,e,h⟩:=bnd h
  refine sq (gr fol [2,8] [(4,.str f),(5,.str g),(6,.bool true)] (ac (hs (.done (.opt (qY ZT 9 (.str a) none (some (.i b)) none)) (.str f)) (zX st9 none (some b) d)) (ac (hs (.done (.opt (qY ZT 9 (.str a) (some (.i (w64 (b+(sep.length:Int))))) none none)) (.str g)) (zX st9 (some (w64 (b+(sep.length:Int)))) none e)) az)) ?_)
  refine Goes.ret ?_
  obtain rfl:=si h
  exact(gw2 [.str f,.str g,.bool true] (FzW.tuple (qc.cons (Ua tS) (qc.cons (Ua tS) (qc.cons (Ua tB) qc.nil)))))
 refine Goes.skip ?_
 refine sh fol [(4,.str a),(5,.str []),(6,.bool false)] ?_
 refine Goes.ret ?_
 obtain rfl:=si h
 exact(gw2 [.str a,.str [],.bool false] (FzW.tuple (qc.cons (Ua tS) (qc.cons (Ua tS) (qc.cons (Ua tB) qc.nil)))))
def strings_Cut (b:Str) (sep:Str):Option (Str×Str×Bool):=
 (stringslite_Cut b sep).bind fun a=>
 some (a.1,a.2.1,a.2.2)
theorem qeH (b:Str) (sep:Str) {res:Str×Str×Bool} (h:strings_Cut b sep=some res):qb ZT (.fn 165) (kAi b sep) [] (.tuple [.str res.1,.str res.2.1,.bool res.2.2]) []:=by
 unfold strings_Cut at h
 refine Ub Tryz.func165 rfl rfl (m:=13) rfl (rs:=[.tmp 4,.tmp 5,.tmp 6]) rfl (l:=(kO b sep [])) rfl ?_
 refine sh fol (kO b sep []) ?_
 obtain⟨a,c,h⟩:=bnd h
 refine sq (gr fol [2] ((4,.str a.1)::(kAw a.2.1 a.2.2 [])) (ac (cv (qfo b sep c)) az) ?_)
 refine Goes.ret ?_
 obtain rfl:=si h
 exact(gw2 [.str a.1,.str a.2.1,.bool a.2.2] (FzW.tuple (qc.cons (Ua tS) (qc.cons (Ua tS) (qc.cons (Ua tB) qc.nil)))))
def qbb (N:Nat) (a:Str):Option qo:=
 (strings_Cut a [47]).bind fun b=>
 if(!b.2.2)=true then
 (qaf N b.1).bind fun c=>
 (qb8 c).bind fun d=>
 some d
 else
 (qaf N b.1).bind fun e=>
 (qaf N b.2.1).bind fun f=>
 some (⟨e,f⟩:qo)
theorem qeS (N:Nat) (a:Str) {res:qo} (h:qbb N a=some res):qb ZT (.fn 83) [.str a] [] (.agg (nq1 res)) []:=by
 unfold qbb at h
 refine Ub Tryz.func83 rfl rfl (m:=22) rfl (rs:=[.cell 2 100]) rfl (l:=(kAS a [])) rfl ?_
 refine sg fol (kAS a (kS [])) (kH []) ?_
 obtain⟨b,e,h⟩:=bnd h
 refine sq (gr fol [1] (kS [(3,.str b.1),(4,.str b.2.1),(5,.bool b.2.2)]) (ac (cv (qeH a [47] e)) az) ?_)
 refine sq ?_
 refine sh fol (kS ((3,.str b.1)::(4,.str b.2.1)::(kBM (!b.2.2)))) ?_
 refine ihB h (fun o h=>?_) (fun o h=>?_)
 ·obtain⟨p,f,h⟩:=bnd h
  obtain⟨k,g,h⟩:=bnd h
  refine sq (gq fol [1,2,3] (kS []) [.cells (nq1 k)] (ac (cv (qan N b.1 f)) (ac (cv (qfJ p g)) (ac (hs (.run [0] (qw ZT 100 (.ptr 0 0) (.agg (nq1 k))) (kH []) .undef [.cells (nq1 k)] true) (kw (n:=4) (by kernel_rfl) rfl rfl rfl rfl (cac rfl (cac nvc (cac rfl (cac nvc can)))) rfl)) az))) ?_)
  refine Goes.ret ?_
  obtain rfl:=si h
  exact(gw2 [.agg (nq1 k)] (FzW.agg (qc.cons (Ua tI) (qc.cons (Ua (qA (qa .u64) _ (nl rfl))) (qc.cons (Ua tI) (qc.cons (Ua (qA (qa .u64) _ (nl rfl))) qc.nil))))))
 refine Goes.skip ?_
 obtain⟨c,i,h⟩:=bnd h
 obtain⟨d,j,h⟩:=bnd h
 refine sq (gq fol [1,3,5] (kS []) [.cells (ni2 c.s c.w d.s d.w)] (ac (cv (qan N b.1 i)) (ac (cv (qan N b.2.1 j)) (ac (hs (.run [0] (qw ZT 100 (.ptr 0 0) (.agg (ni2 c.s c.w d.s d.w))) (kH []) .undef [.cells (ni2 c.s c.w d.s d.w)] true) (kw (n:=4) (by kernel_rfl) rfl rfl rfl rfl (cac rfl (cac nvc (cac rfl (cac nvc can)))) rfl)) az))) ?_)
 refine Goes.ret ?_
 obtain rfl:=si h
 exact(gw2 [.agg (ni2 c.s c.w d.s d.w)] (FzW.agg (qc.cons (Ua tI) (qc.cons (Ua (qA (qa .u64) _ (nl rfl))) (qc.cons (Ua tI) (qc.cons (Ua (qA (qa .u64) _ (nl rfl))) qc.nil))))))
def qa2 (N:Nat) (a:qm) (b:qm):Option Int:=
 (if a.w.isEmpty=true then
 some b.w.isEmpty
 else
 some false:Option Bool).bind fun c=>
 if c=true then
 if a.s<b.s then
 some (-1)
 else
 if a.s>b.s then
 some 1
 else
 some 0
 else
 (xe N a b).bind fun d=>
 (zi d).bind fun e=>
 some e
theorem qej (N:Nat) (a:qm) (b:qm) {res:Int} (h:qa2 N a b=some res):qb ZT (.fn 167) [.agg (nz1 a),.agg (nz1 b)] [] (.i res) []:=by
 unfold qa2 at h
 refine Ub Tryz.func167 rfl rfl (m:=29) rfl (rs:=[.tmp 4]) rfl (l:=[(0,.agg (nz1 a)),(1,.agg (nz1 b))]) rfl ?_
 refine sg fol (kS (kAc [])) [.cells (nz1 a),.cells (nz1 b)] ?_
 refine sq ?_
 refine sq ?_
 obtain⟨j,c,h⟩:=bnd h
 refine Goes.cut (s':=(ofG 29 (kS (kAc (kBB j))),[.cells (nz1 a),.cells (nz1 b)])) ?_ ?_
 ·rcases wyB c with⟨f,c⟩|⟨f,c⟩
  ·obtain rfl:=si c
   exact tr fol [2,3,6] (kS (kAc (kBB b.w.isEmpty))) (ac (hs (.done (.opt (kL ZT .eql 93 (.tmp 6) (.const (.slice none 0 0)) (nvl (qa .u64) a.w) .nilslice)) (.bool a.w.isEmpty)) (qaL qaI)) (ac (gw f) (ac (hs (.done (.opt (kL ZT .eql 93 (.tmp 10) (.const (.slice none 0 0)) (nvl (qa .u64) b.w) .nilslice)) (.bool b.w.isEmpty)) (qaL qaI)) az)))
  obtain rfl:=si c
  exact tr fol [2,3] (kS (kAc [(12,.bool false)])) (ac (hs (.done (.opt (kL ZT .eql 93 (.tmp 6) (.const (.slice none 0 0)) (nvl (qa .u64) a.w) .nilslice)) (.bool a.w.isEmpty)) (qaL qaI)) (ac (gw f) az))
 refine ihB h (fun k h=>?_) (fun k h=>?_)
 ·refine sq (Goes.block ?_)
  refine sh fol (kS (kAc (kBM (decide (a.s<b.s))))) ?_
  refine ihD h (fun n h=>?_) (fun n h=>?_)
  ·refine sh fol [(4,.i (-1))] ?_
   refine Goes.ret ?_
   obtain rfl:=si h
   exact(gw2 [.i (-1)] (Ua tI))
  refine sh fol [(19,.bool (decide (a.s>b.s)))] ?_
  refine ihD h (fun o h=>?_) (fun o h=>?_)
  ·refine sh fol [(4,.i 1)] ?_
   refine Goes.ret ?_
   obtain rfl:=si h
   exact(gw2 [.i 1] (Ua tI))
  refine Goes.skip ?_
  refine sh fol [(4,.i 0)] ?_
  refine Goes.ret ?_
  obtain rfl:=si h
  exact(gw2 [.i 0] (Ua tI))
 refine Goes.skip ?_
 obtain⟨p,d,h⟩:=bnd h
 obtain⟨g,e,h⟩:=bnd h
 refine sq (gr fol [2,3] [(4,.i g)] (ac (cv (qew N a b d)) (ac (cv (xQ p e)) az)) ?_)
 refine Goes.ret ?_
 obtain rfl:=si h
 exact(gw2 [.i g] (Ua tI))
def jR (N:Nat) (a:qo) (b:qo):Option Int:=
 (qK N a.Num b.Den).bind fun c=>
 (qK N b.Num a.Den).bind fun d=>
 (qa2 N c d).bind fun e=>
 some e
theorem qbR (N:Nat) (a:qo) (b:qo) {res:Int} (h:jR N a b=some res):qb ZT (.fn 86) [.agg (nq1 a),.agg (nq1 b)] [] (.i res) []:=by
 unfold jR at h
 refine Ub Tryz.func86 rfl rfl (m:=16) rfl (rs:=[.tmp 4]) rfl (l:=[(0,.agg (nq1 a)),(1,.agg (nq1 b))]) rfl ?_
 refine sg fol (kS (kAc [])) [.cells (nq1 a),.cells (nq1 b)] ?_
 obtain⟨g,c,h⟩:=bnd h
 obtain⟨j,d,h⟩:=bnd h
 obtain⟨f,e,h⟩:=bnd h
 refine sq (gr fol [4,9,10] [(4,.i f)] (ac (cv (zW N a.Num b.Den c)) (ac (cv (zW N b.Num a.Den d)) (ac (cv (qej N g j e)) az))) ?_)
 refine Goes.ret ?_
 obtain rfl:=si h
 exact(gw2 [.i f] (Ua tI))
def stringslite_CutPrefix (b:Str) (a:Str):Option (Str×Bool):=
 (stringslite_HasPrefix b a).bind fun c=>
 if(!c)=true then
 some (b,false)
 else
 (cut b (a.length:Int) (b.length:Int)).bind fun d=>
 some (d,true)
theorem qcW (b:Str) (a:Str) {res:Str×Bool} (h:stringslite_CutPrefix b a=some res):qb ZT (.fn 227) (kAi b a) [] (.tuple [.str res.1,.bool res.2]) []:=by
 unfold stringslite_CutPrefix at h
 refine Ub Tryz.func227 rfl rfl (m:=15) rfl (rs:=[.tmp 4,.tmp 5]) rfl (l:=(kO b a [])) rfl ?_
 refine sh fol (kO b a []) ?_
 refine sq ?_
 obtain⟨f,c,h⟩:=bnd h
 refine sq (gr fol [2] (kO b a [(9,.bool (!f))]) (ac (cv (yD b a c)) az) ?_)
 refine ihB h (fun g h=>?_) (fun g h=>?_)
 ·refine sh fol [(4,.str b),(5,.bool false)] ?_
  refine Goes.ret ?_
  obtain rfl:=si h
  exact(gw2 [.str b,.bool false] (FzW.tuple (qc.cons (Ua tS) (qc.cons (Ua tB) qc.nil))))
 refine Goes.skip ?_
 obtain⟨e,d,h⟩:=bnd h
 refine sq (gr fol [3] [(4,.str e),(5,.bool true)] (ac (hs (.done (.opt (qY ZT 9 (.str b) (some (.i (a.length:Int))) none none)) (.str e)) (zX st9 (some (a.length:Int)) none d)) az) ?_)
 refine Goes.ret ?_
 obtain rfl:=si h
 exact(gw2 [.str e,.bool true] (FzW.tuple (qc.cons (Ua tS) (qc.cons (Ua tB) qc.nil))))
def strings_CutPrefix (c:Str) (a:Str):Option (Str×Bool):=
 (stringslite_CutPrefix c a).bind fun b=>
 some (b.1,b.2)
theorem qeB (b:Str) (a:Str) {res:Str×Bool} (h:strings_CutPrefix b a=some res):qb ZT (.fn 164) (kAi b a) [] (.tuple [.str res.1,.bool res.2]) []:=by
 unfold strings_CutPrefix at h
 refine Ub Tryz.func164 rfl rfl (m:=11) rfl (rs:=[.tmp 4,.tmp 5]) rfl (l:=(kO b a [])) rfl ?_
 refine sh fol (kO b a []) ?_
 obtain⟨d,c,h⟩:=bnd h
 refine sq (gr fol [2] [(4,.str d.1),(5,.bool d.2)] (ac (cv (qcW b a c)) az) ?_)
 refine Goes.ret ?_
 obtain rfl:=si h
 exact(gw2 [.str d.1,.bool d.2] (FzW.tuple (qc.cons (Ua tS) (qc.cons (Ua tB) qc.nil))))
def jP (a:Str):Option Bool:=
 (if(!(a==[]))=true then
 (qkk a [48,49,50,51,52,53,54,55,56,57]).bind fun b=>
 if(b==[])=true then
 (idx a 0).bind fun c=>
 if(!decide ((c.toNat:Int)=48))=true then
 some true
 else
 some (a==[48])
 else
 some false
 else
 some false:Option Bool).bind fun d=>
 some d
theorem jB (c:Str) {res:Bool} (h:jP c=some res):qb ZT (.fn 166) [.str c] [] (.bool res) []:=by
 unfold jP at h
 refine Ub Tryz.func166 rfl rfl (m:=19) rfl (rs:=[.tmp 2]) rfl (l:=(kAS c [])) rfl ?_
 refine sh fol (kAS c []) ?_
 refine sq ?_
 obtain⟨j,a,h⟩:=bnd h
 refine Goes.cut (s':=(ofG 19 [(2,.bool j)],[])) ?_ ?_
 ·rcases wyB a with⟨e,a⟩|⟨e,a⟩
  ·obtain⟨n,b,a⟩:=bnd a
   rcases wyB a with⟨f,a⟩|⟨f,a⟩
   ·obtain⟨k,d,a⟩:=bnd a
    rcases wyB a with⟨g,a⟩|⟨g,a⟩
    ·obtain rfl:=si a
     exact tr fol [2,4,7,9,11] [(2,.bool true)] (ac (gw e) (ac (cv (qhF c [48,49,50,51,52,53,54,55,56,57] b)) (ac (gw f) (ac (hs (.done (.opt (yl ZT 9 (.str c) (.i 0))) (.int .u8 (k.toNat:Int))) (qaJ st9 d)) (ac (gw g) az)))))
    obtain rfl:=si a
    exact tr fol [2,4,7,9,11] [(2,.bool (c==[48]))] (ac (gw e) (ac (cv (qhF c [48,49,50,51,52,53,54,55,56,57] b)) (ac (gw f) (ac (hs (.done (.opt (yl ZT 9 (.str c) (.i 0))) (.int .u8 (k.toNat:Int))) (qaJ st9 d)) (ac (gw g) az)))))
   obtain rfl:=si a
   exact tr fol [2,4,7] [(2,.bool false)] (ac (gw e) (ac (cv (qhF c [48,49,50,51,52,53,54,55,56,57] b)) (ac (gw f) az)))
  obtain rfl:=si a
  exact tr fol [2] [(2,.bool false)] (ac (gw e) az)
 refine Goes.ret ?_
 obtain rfl:=si h
 exact(gw2 [.bool j] (Ua tB))
def qbi (N:Nat) (a:Str):Option Int:=
 (strings_CutPrefix a [45]).bind fun r=>
 (strings_Cut r.1 [47]).bind fun b=>
 ((jP b.1).bind fun t=>
 if t=true then
 if(!r.2)=true then
 some true
 else
 some (!(b.1==[48]))
 else
 some false:Option Bool).bind fun s=>
 ((if b.2.2=true then
 (if s=true then
 (jP b.2.1).bind fun g=>
 if g=true then
 if(!(b.2.1==[48]))=true then
 some (!(b.2.1==[49]))
 else
 some false
 else
 some false
 else
 some false:Option Bool).bind fun h=>
 some h
 else
 some s:Option Bool)).bind fun u=>
 ((ze (!u) 1).bind fun c=>
 if(b.1.length:Int)>600 then
 (ze true 4).bind fun d=>
 (jV N ([c,d]:List Int)).bind fun i=>
 some (c,d,i)
 else
 (ze (decide ((b.2.1.length:Int)>600)) 4).bind fun e=>
 (jV N ([c,e]:List Int)).bind fun j=>
 some (c,e,j):Option (Int×Int×Int)).bind fun(v,w,f)=>
 if(!decide (f=0))=true then
 some f
 else
 (if b.2.2=true then
 (qaf N b.1).bind fun k=>
 (qaf N b.2.1).bind fun l=>
 (qcU N k l).bind fun m=>
 (qcx 1).bind fun n=>
 (qa2 N m n).bind fun o=>
 some (!decide (o=0))
 else
 some false:Option Bool).bind fun p=>
 (ze p 1).bind fun q=>
 some q
theorem qgH (N:Nat) (a:Str) {res:Int} (h:qbi N a=some res):qb ZT (.fn 80) [.str a] [] (.i res) []:=by
 unfold qbi at h
 refine Ub Tryz.func80 rfl rfl (m:=76) rfl (rs:=[.tmp 2]) rfl (l:=(kAS a [])) rfl ?_
 refine sh fol (kAS a []) ?_
 obtain⟨V,H,h⟩:=bnd h
 refine sq (gr fol [1] ((3,.str V.1)::(kAs V.2)) (ac (cv (qeB a [45] H)) az) ?_)
 obtain⟨e,I,h⟩:=bnd h
 refine sq (gr fol [1] ((4,.bool V.2)::(kAG e.1 e.2.1 e.2.2 [])) (ac (cv (qeH V.1 [47] I)) az) ?_)
 refine sq ?_
 obtain⟨b6,f,h⟩:=bnd h
 refine Goes.cut (s':=(ofG 76 (kAG e.1 e.2.1 e.2.2 (kBI b6)),[])) ?_ ?_
 ·obtain⟨r3,k,f⟩:=bnd f
  rcases wyB f with⟨X,f⟩|⟨X,f⟩
  ·rcases wyB f with⟨Y,f⟩|⟨Y,f⟩
   ·obtain rfl:=si f
    exact tr fol [1,2,5] (kAG e.1 e.2.1 e.2.2 [(8,.bool true)]) (ac (cv (jB e.1 k)) (ac (gw X) (ac (gw Y) az)))
   obtain rfl:=si f
   exact tr fol [1,2,5] (kAG e.1 e.2.1 e.2.2 (kBI (!(e.1==[48])))) (ac (cv (jB e.1 k)) (ac (gw X) (ac (gw Y) az)))
  obtain rfl:=si f
  exact tr fol [1,2] (kAG e.1 e.2.1 e.2.2 [(8,.bool false)]) (ac (cv (jB e.1 k)) (ac (gw X) az))
 refine sq ?_
 refine sh fol (kAG e.1 e.2.1 e.2.2 [(8,.bool b6),(32,.bool e.2.2)]) ?_
 obtain⟨r9,g9,h⟩:=bnd h
 refine Goes.imp (Q:=fun x s'=>(x= .normal/\ ∃J,J=r9/\Sub s' (ofG 76 (kAG e.1 e.2.1 e.2.2 (kBI J)),[]))) ?_ ?_
 ·refine ihB g9 (fun Z g9=>?_) (fun Z g9=>?_)
  ·obtain⟨a0,c,g9⟩:=bnd g9
   refine Goes.cut (s':=(ofG 76 (kAG e.1 e.2.1 e.2.2 (kBI a0)),[])) ?_ ?_
   ·rcases wyB c with⟨n,c⟩|⟨n,c⟩
    ·obtain⟨r12,j,c⟩:=bnd c
     rcases wyB c with⟨q,c⟩|⟨q,c⟩
     ·rcases wyB c with⟨t,c⟩|⟨t,c⟩
      ·obtain rfl:=si c
       exact tr fol [1,3,5,9] (kAG e.1 e.2.1 e.2.2 (kBI (!(e.2.1==[49])))) (ac (gw n) (ac (cv (jB e.2.1 j)) (ac (gw q) (ac (gw t) az))))
      obtain rfl:=si c
      exact tr fol [1,3,5,9] (kAG e.1 e.2.1 e.2.2 [(8,.bool false)]) (ac (gw n) (ac (cv (jB e.2.1 j)) (ac (gw q) (ac (gw t) az))))
     obtain rfl:=si c
     exact tr fol [1,3,5] (kAG e.1 e.2.1 e.2.2 [(8,.bool false)]) (ac (gw n) (ac (cv (jB e.2.1 j)) (ac (gw q) az)))
    obtain rfl:=si c
    exact tr fol [1] (kAG e.1 e.2.1 e.2.2 [(8,.bool false)]) (ac (gw n) az)
   obtain rfl:=si g9
   exact⟨rfl,_,rfl,(Sub.refl _)⟩
  refine Goes.skip ?_
  obtain rfl:=si g9
  exact⟨rfl,_,rfl,(Sub.keep [5,6,7,8] rfl rfl)⟩
 rintro x s' ⟨rfl,J,rfl,hsub⟩
 refine Goes.sub hsub ?_
 refine sq ?_
 refine sq ?_
 obtain⟨⟨K,L,o⟩,b,h⟩:=bnd h
 refine Goes.cut (s':=(ofG 76 (kAG e.1 e.2.1 e.2.2 [(9,.i o)]),(kA3 K L))) ?_ ?_
 ·obtain⟨g,p,b⟩:=bnd b
  rcases wyD b with⟨u,b⟩|⟨u,b⟩
  ·obtain⟨r,v,b⟩:=bnd b
   obtain⟨M,w,b⟩:=bnd b
   simp only[ZI,ZP]at b
   obtain⟨rfl,rfl,rfl⟩:=b
   exact qaj.rq fol [2,6,11,13] (kAG e.1 e.2.1 e.2.2 [(9,.i M)]) (kA3 g r) (ac (cv (yO (!J) 1 p)) (ac (gw u) (ac (cv (yO true 4 v)) (ac (hs (.call 79 [.slice 0 0 2 2 1] (kA3 g r) [0] [vl encI ([g,r]:List Int)] (.i M)) (qey (FzL.cons (Fz.lit rfl rfl (Ue (AllST.cons tI (AllST.cons tI AllST.nil)))) FzL.nil) (qaO N ([g,r]:List Int) w) tI rfl)) az))))
  obtain⟨s,y,b⟩:=bnd b
  obtain⟨O,z,b⟩:=bnd b
  simp only[ZI,ZP]at b
  obtain⟨rfl,rfl,rfl⟩:=b
  exact qaj.rq fol [2,6,11,13] (kAG e.1 e.2.1 e.2.2 [(9,.i O)]) (kA3 g s) (ac (cv (yO (!J) 1 p)) (ac (gw u) (ac (cv (yO (decide ((e.2.1.length:Int)>600)) 4 y)) (ac (hs (.call 79 [.slice 0 0 2 2 1] (kA3 g s) [0] [vl encI ([g,s]:List Int)] (.i O)) (qey (FzL.cons (Fz.lit rfl rfl (Ue (AllST.cons tI (AllST.cons tI AllST.nil)))) FzL.nil) (qaO N ([g,s]:List Int) z) tI rfl)) az))))
 try dsimp only at h
 refine sh fol (kAG e.1 e.2.1 e.2.2 [(9,.i o),(61,.bool (!decide (o=0)))]) ?_
 refine ihB h (fun a1 h=>?_) (fun a1 h=>?_)
 ·refine sh fol [(2,.i o)] ?_
  refine Goes.ret ?_
  obtain rfl:=si h
  exact(gw2 [.i o] (Ua tI))
 refine Goes.skip ?_
 refine sq ?_
 obtain⟨P,d,h⟩:=bnd h
 refine Goes.cut (s':=(ofG 76 [(10,.bool P)],(kA3 K L))) ?_ ?_
 ·rcases wyB d with⟨A,d⟩|⟨A,d⟩
  ·obtain⟨a2,B,d⟩:=bnd d
   obtain⟨a3,C,d⟩:=bnd d
   obtain⟨a4,D,d⟩:=bnd d
   obtain⟨a5,E,d⟩:=bnd d
   obtain⟨a6,F,d⟩:=bnd d
   obtain rfl:=si d
   exact tr fol [1,3,5,6,7,8] [(10,.bool (!decide (a6=0)))] (ac (gw A) (ac (cv (qan N e.1 B)) (ac (cv (qan N e.2.1 C)) (ac (cv (qhe N a2 a3 D)) (ac (cv (qbv 1 E)) (ac (cv (qej N a4 a5 F)) az))))))
  obtain rfl:=si d
  exact tr fol [1] [(10,.bool false)] (ac (gw A) az)
 obtain⟨U,G,h⟩:=bnd h
 refine sq (gr fol [1] [(2,.i U)] (ac (cv (yO P 1 G)) az) ?_)
 refine Goes.ret ?_
 obtain rfl:=si h
 exact(gw2 [.i U] (Ua tI))
def qW (N:Nat) (l:List Str):Nat->Int->Option (Unit⊕Int)
 |0,_=>none
 |K+1,a=>
  if a<(l.length:Int)then
  (idx l a).bind fun c=>
  (qbi N c).bind fun b=>
  if(!decide (b=0))=true then
  some (.inr b)
  else
  qW N l K (w64 (a+1))
  else
  some (.inl ())
def xS (N:Nat) (l:List Str):Option Int:=
 (qW N l N 0).bind (fun
 |(.inl ())=>
 some 0
 |(.inr a)=>
 some a)
theorem qfn (N:Nat) (l:List Str) {res:Int} (h:xS N l=some res):qb ZT (.fn 116) [vl encS l] [] (.i res) []:=by
 unfold xS at h
 refine Ub Tryz.func116 rfl rfl (m:=18) rfl (rs:=[.tmp 2]) rfl (l:=(kBA l [])) rfl ?_
 refine sh fol (kBA l []) ?_
 refine sq ?_
 refine sh fol [(6,vl encS l),(7,.i (l.length:Int)),(8,.i 0)] ?_
 refine Goes.block ?_
 obtain⟨e,g2,h⟩:=bnd h
 refine Goes.imp (Q:=fun x s'=>(x= .exit 0/\(.inl ())=e/\Sub s' (ofG 18 [],[]))\/(x= .ret/\ ∃f,(.inr f)=e/\yB ZT [.tmp 2] (.i f) .ret s')) ?_ ?_
 ·refine Uc (fun M s=> ∃(a:Int),s=(ofG 18 ((6,vl encS l)::(kAX (l.length:Int) a)),[])/\qW N l M a=some e) ?_ (m:=N) ⟨_,rfl,g2⟩
  rintro M s ⟨a,rfl,g2⟩
  cases M with
  |zero=>simp only[qW]at g2;cases g2
  |succ M=>
   rw[qW]at g2
   refine sh fol [(6,vl encS l),(7,.i (l.length:Int)),(8,.i a),(9,.bool (decide (a<(l.length:Int))))] ?_
   refine sq ?_
   refine ihD g2 (fun j g2=>?_) (fun j g2=>?_)
   ·refine Goes.skip ?_
    refine sq (Goes.block ?_)
    obtain⟨g,b,g2⟩:=bnd g2
    refine sq (gr fol [0,1] ((4,.str g)::(6,vl encS l)::(kAX (l.length:Int) a)) (ac (iv qlj encS b) (ac (lv 0 qlT encS b rfl) az)) ?_)
    obtain⟨c,d,g2⟩:=bnd g2
    refine sq (gr fol [1] ((5,.i c)::(6,vl encS l)::(kAX (l.length:Int) a)) (ac (cv (qgH N g d)) az) ?_)
    refine sh fol ((5,.i c)::(6,vl encS l)::(7,.i (l.length:Int))::(8,.i a)::(kBN (!decide (c=0)))) ?_
    refine ihB g2 (fun k g2=>?_) (fun k g2=>?_)
    ·refine sh fol [(2,.i c)] ?_
     refine Goes.ret ?_
     obtain rfl:=si g2
     exact Or.inr (⟨rfl,_,rfl,(gw2 [.i c] (Ua tI))⟩)
    refine Goes.skip ?_
    refine gh fol ((6,vl encS l)::(kAX (l.length:Int) (w64 (a+1)))) ?_
    exact⟨M,(ofG 18 ((6,vl encS l)::(kAX (l.length:Int) (w64 (a+1)))),[]),Nat.lt_succ_self _,(Sub.refl _),_,rfl,g2⟩
   refine Goes.exit ?_
   obtain rfl:=si g2
   exact Or.inl (⟨rfl,rfl,(Sub.keep [] rfl rfl)⟩)
 rintro x s' (⟨rfl,rfl,hsub⟩|⟨rfl,n,rfl,hret⟩)
 ·try dsimp only at h
  refine Goes.sub hsub ?_
  refine sh fol [(2,.i 0)] ?_
  refine Goes.ret ?_
  obtain rfl:=si h
  exact(gw2 [.i 0] (Ua tI))
 try dsimp only at h
 obtain rfl:=si h
 exact hret
def zt (N:Nat) (a:qC):Option Int:=
 (xS N ([a.Low,a.High]:List Str)).bind fun b=>
 if(!decide (b=0))=true then
 some b
 else
 (qbb N a.Low).bind fun c=>
 (qbb N a.High).bind fun d=>
 (jR N c d).bind fun e=>
 (ze (decide (e>0)) 11).bind fun f=>
 some f
theorem yK (N:Nat) (a:qC) {res:Int} (h:zt N a=some res):qb ZT (.fn 122) [.agg (kAi a.Low a.High)] [] (.i res) []:=by
 unfold zt at h
 refine Ub Tryz.func122 rfl rfl (m:=22) rfl (rs:=[.tmp 2]) rfl (l:=[(0,.agg [.str a.Low,.str a.High])]) rfl ?_
 refine sg fol (kAe []) (kV a.Low a.High []) ?_
 refine sq ?_
 obtain⟨b,c,h⟩:=bnd h
 refine sq (gq fol [5] (kAe [(3,.i b)]) (kV a.Low a.High (kV a.Low a.High [])) (ac (hs (.call 116 [.slice 1 0 2 2 1] (kV a.Low a.High (kV a.Low a.High [])) [1] [vl encS ([a.Low,a.High]:List Str)] (.i b)) (qey (FzL.cons (Fz.lit rfl rfl (Ue (AllST.cons tS (AllST.cons tS AllST.nil)))) FzL.nil) (qfn N ([a.Low,a.High]:List Str) c) tI rfl)) az) ?_)
 refine sh fol (kAe [(3,.i b),(11,.bool (!decide (b=0)))]) ?_
 refine ihB h (fun k h=>?_) (fun k h=>?_)
 ·refine sh fol [(2,.i b)] ?_
  refine Goes.ret ?_
  obtain rfl:=si h
  exact(gw2 [.i b] (Ua tI))
 refine Goes.skip ?_
 obtain⟨n,d,h⟩:=bnd h
 obtain⟨o,e,h⟩:=bnd h
 obtain⟨p,f,h⟩:=bnd h
 obtain⟨j,g,h⟩:=bnd h
 refine sq (gr fol [2,5,6,8] [(2,.i j)] (ac (cv (qeS N a.Low d)) (ac (cv (qeS N a.High e)) (ac (cv (qbR N n o f)) (ac (cv (yO (decide (p>0)) 11 g)) az)))) ?_)
 refine Goes.ret ?_
 obtain rfl:=si h
 exact(gw2 [.i j] (Ua tI))
def zK (N:Nat) (l:List Str):Nat->(List qo)->Int->Option (List qo)
 |0,_,_=>none
 |K+1,b,a=>
  if a<(l.length:Int)then
  (idx l a).bind fun d=>
  (qbb N d).bind fun e=>
  (idx b a).bind fun f=>
  (put b a e).bind fun c=>
  zK N l K c (w64 (a+1))
  else
  some b
def xc (N:Nat) (l:List Str):Option (List qo):=
 (mk 64 (l.length:Int) (⟨(⟨0,[]⟩:qm),(⟨0,[]⟩:qm)⟩:qo)).bind fun a=>
 (zK N l N a 0).bind fun b=>
 some b
theorem qbk (N:Nat) (l:List Str) {res:List qo} (h:xc N l=some res):qb ZT (.fn 197) [vl encS l] [] (vl qh res) []:=by
 unfold xc at h
 refine Ub Tryz.func197 rfl rfl (m:=23) rfl (rs:=[.tmp 2]) rfl (l:=(kBA l [])) rfl ?_
 refine sh fol (kBA l []) ?_
 obtain⟨j,k,h⟩:=bnd h
 refine sq (gq fol [2] (kBA l [(3,.slice 0 0 j.length j.length 4)]) (kAB j) (ac (hs (.run [] (jf ZT 169 (.i (l.length:Int)) (.i (l.length:Int))) [] (.slice 0 0 j.length j.length 4) (kAB j) false) (qcX qcQ (E:=qh) (z:=(⟨(⟨0,[]⟩:qm),(⟨0,[]⟩:qm)⟩:qo)) rfl (by kernel_rfl) k rfl)) az) ?_)
 refine sq ?_
 refine sh fol (kAJ j l (l.length:Int) [(11,.i 0)]) ?_
 refine Goes.block ?_
 obtain⟨o,g5,h⟩:=bnd h
 refine Goes.imp (Q:=fun x s'=>(x= .exit 0/\ ∃e,e=o/\Sub s' (ofG 23 [(3,.slice 0 0 e.length e.length 4)],(kAB e)))) ?_ ?_
 ·refine Uc (fun M s=> ∃(c:List qo) (b:Int),s=(ofG 23 (kAJ c l (l.length:Int) [(11,.i b)]),(kAB c))/\zK N l M c b=some o) ?_ (m:=N) ⟨_,_,rfl,g5⟩
  rintro M s ⟨c,b,rfl,g5⟩
  cases M with
  |zero=>simp only[zK]at g5;cases g5
  |succ M=>
   rw[zK]at g5
   refine sh fol (kAJ c l (l.length:Int) ((11,.i b)::(kBB (decide (b<(l.length:Int)))))) ?_
   refine sq ?_
   refine ihD g5 (fun r g5=>?_) (fun r g5=>?_)
   ·refine Goes.skip ?_
    refine sq (Goes.block ?_)
    obtain⟨p,f,g5⟩:=bnd g5
    refine sq (gr fol [1,2] [(3,.slice 0 0 c.length c.length 4),(4,.i b),(5,.str p),(9,vl encS l),(10,.i (l.length:Int)),(11,.i b)] (ac (iv qlj encS f) (ac (lv 0 qlT encS f rfl) az)) ?_)
    obtain⟨q,n,g5⟩:=bnd g5
    obtain⟨t,g,g5⟩:=bnd g5
    obtain⟨a,d,g5⟩:=bnd g5
    refine gq fol [3,4,5] (kAJ c l (l.length:Int) [(11,.i b)]) (kAB a) (ac (cv (qeS N p n)) (ac (hs (.done (.opt (qj ZT 169 (.slice 0 0 c.length c.length 4) (.i b))) (.ptr 0 ((b:Int).toNat*4+0))) (qao qcQ g)) (ac (hs (.run [0] (qw ZT 100 (.ptr 0 ((b:Int).toNat*4+0)) (.agg (nq1 q))) (kAB c) .undef (kAB a) true) (qae (E:=qh) (l:=c) (y:=q) rfl (show _=some 4 by kernel_rfl) rfl g rfl rfl rfl (cac rfl (cac nvc (cac rfl (cac nvc can)))) rfl d rfl)) az))) ?_
    refine Goes.sub (show Sub (ofG 23 (kAJ c l (l.length:Int) [(11,.i b)]),(kAB a)) (ofG 23 (kAJ a l (l.length:Int) [(11,.i b)]),(kAB a))from(Sub.norm [] [some 0] rfl rfl (.keep (.sliceE rfl (vI d)) (.keep (.same (qf encS _)) (.keep (.same nI) (.keep (.same nI) .nil)))) (.ks .nil))) ?_
    refine gh fol (kAJ a l (l.length:Int) [(11,.i (w64 (b+1)))]) ?_
    exact⟨M,(ofG 23 (kAJ a l (l.length:Int) [(11,.i (w64 (b+1)))]),(kAB a)),Nat.lt_succ_self _,(Sub.refl _),_,_,rfl,g5⟩
   refine Goes.exit ?_
   obtain rfl:=si g5
   exact⟨rfl,_,rfl,(Sub.keep [3] rfl rfl)⟩
 rintro x s' ⟨rfl,e,rfl,hsub⟩
 refine Goes.sub hsub ?_
 refine sh fol [(2,.slice 0 0 e.length e.length 4)] ?_
 refine Goes.ret ?_
 obtain rfl:=si h
 exact(gw2 [.slice 0 0 e.length e.length 4] (FzW.fz (Fz.sl (E:=qh) rfl rfl (nl rfl))))
def xI (N:Nat) (a:qo) (b:qo):Option qo:=
 (qK N a.Num b.Num).bind fun c=>
 (qK N a.Den b.Den).bind fun d=>
 (qbd N c d).bind fun e=>
 some e
theorem qgL (N:Nat) (a:qo) (b:qo) {res:qo} (h:xI N a b=some res):qb ZT (.fn 75) [.agg (nq1 a),.agg (nq1 b)] [] (.agg (nq1 res)) []:=by
 unfold xI at h
 refine Ub Tryz.func75 rfl rfl (m:=16) rfl (rs:=[.cell 4 100]) rfl (l:=[(0,.agg (nq1 a)),(1,.agg (nq1 b))]) rfl ?_
 refine sg fol (kF []) (.cells (nq1 a):: .cells (nq1 b)::(kH [])) ?_
 obtain⟨g,c,h⟩:=bnd h
 obtain⟨i,d,h⟩:=bnd h
 obtain⟨f,e,h⟩:=bnd h
 refine sq (gq fol [4,9,10,11] (kAR []) [.cells (nq1 a),.cells (nq1 b),.cells (nq1 f)] (ac (cv (zW N a.Num b.Num c)) (ac (cv (zW N a.Den b.Den d)) (ac (cv (qcS N g i e)) (ac (hs (.run [2] (qw ZT 100 (.ptr 2 0) (.agg (nq1 f))) (.cells (nq1 a):: .cells (nq1 b)::(kH [])) .undef [.cells (nq1 a),.cells (nq1 b),.cells (nq1 f)] true) (kw (n:=4) (by kernel_rfl) rfl rfl rfl rfl (cac rfl (cac nvc (cac rfl (cac nvc can)))) rfl)) az)))) ?_)
 refine Goes.ret ?_
 obtain rfl:=si h
 exact(gw2 [.agg (nq1 f)] (FzW.agg (qc.cons (Ua tI) (qc.cons (Ua (qA (qa .u64) _ (nl rfl))) (qc.cons (Ua tI) (qc.cons (Ua (qA (qa .u64) _ (nl rfl))) qc.nil))))))
end Go.Av
