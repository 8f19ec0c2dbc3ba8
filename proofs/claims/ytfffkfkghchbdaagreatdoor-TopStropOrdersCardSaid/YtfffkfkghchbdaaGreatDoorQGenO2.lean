/-
  Walks of functions: what each computes, as a plain function.
-/
import Derived.Test.YtfffkfkghchbdaaGreatDoorQGenO1
noncomputable section
namespace Go.Av
open Go.Proofs Go.RowKit
set_option linter.unusedSectionVars false
set_option linter.unusedVariables false
set_option linter.unusedSimpArgs false
set_option maxRecDepth 100000
def jT (N:Nat) (a:qw) (b:qw):Option qw:=
 (zu b).bind fun f=>
 ((if f<0 then
 (je a).bind fun d=>
 (je b).bind fun e=>
 some (d.s,d.w,e.s,e.w)
 else
 some (a.s,a.w,b.s,b.w):Option (Int×(List Int)×Int×(List Int)))).bind fun(g,h,i,j)=>
 (zX N (⟨g,h⟩:qw) (⟨i,j⟩:qw)).bind fun c=>
 some c.1
theorem qcu (N:Nat) (a:qw) (b:qw) {res:qw} (h:jT N a b=some res):qc ZT (.fn 182) [.agg (nz1 a),.agg (nz1 b)] [] (.agg (nz1 res)) []:=by
 unfold jT at h
 refine Ub Tryz.func182 rfl rfl (m:=21) rfl (rs:=[.cell 4 128]) rfl (l:=[(0,.agg (nz1 a)),(1,.agg (nz1 b))]) rfl ?_
 refine sg fol (kF []) [.cells (nz1 a),.cells (nz1 b),bZ] ?_
 refine sq ?_
 obtain⟨r,j,h⟩:=bnd h
 refine sq (gr fol [1] (kF [(9,.bool (decide (r<0)))]) (ac (cv (xq b j)) az) ?_)
 obtain⟨s,g6,h⟩:=bnd h
 refine Goes.imp (Q:=fun x s'=>(x= .normal/\ ∃d e f g,(d,e,f,g)=s/\Sub s' (ofG 21 (kF []),[.cells (ni1 d e),.cells (ni1 f g),bZ]))) ?_ ?_
 ·refine ihD g6 (fun t g6=>?_) (fun t g6=>?_)
  ·obtain⟨k,o,g6⟩:=bnd g6
   obtain⟨q,p,g6⟩:=bnd g6
   refine gq fol [1,3,4,5] (kF []) [.cells (nz1 k),.cells (nz1 q),bZ] (ac (cv (vT a o)) (ac (cv (vT b p)) (ac (hs (.run [0] (qx ZT 128 (.ptr 0 0) (.agg (nz1 k))) [.cells (nz1 a),.cells (nz1 b),bZ] .undef [.cells (nz1 k),.cells (nz1 b),bZ] true) (zW (n:=2) (by kernel_rfl) rfl rfl rfl rfl (cac rfl (cac nvc can)) rfl)) (ac (hs (.run [1] (qx ZT 128 (.ptr 1 0) (.agg (nz1 q))) [.cells (nz1 k),.cells (nz1 b),bZ] .undef [.cells (nz1 k),.cells (nz1 q),bZ] true) (zW (n:=2) (by kernel_rfl) rfl rfl rfl rfl (cac rfl (cac nvc can)) rfl)) az)))) ?_
   obtain rfl:=si g6
   exact⟨rfl,_,_,_,_,rfl,(Sub.refl _)⟩
  refine Goes.skip ?_
  obtain rfl:=si g6
  exact⟨rfl,_,_,_,_,rfl,(Sub.keep [2,3,4] rfl rfl)⟩
 rintro x s' ⟨rfl,d,e,f,g,rfl,hsub⟩
 try dsimp only at h
 refine Goes.sub hsub ?_
 obtain⟨c,i,h⟩:=bnd h
 refine sq (gq fol [2,8,9] (kAd [(5,.ptr 3 0)]) [.cells (ni1 d e),.cells (ni1 f g),bZ,.cells (nz1 c.1),.cells (nz1 c.2)] (ac (cv (qbc N (⟨d,e⟩:qw) (⟨f,g⟩:qw) i)) (ac (hs (.run [3] (qx ZT 128 (.ptr 3 0) (.agg (nz1 c.1))) [.cells (ni1 d e),.cells (ni1 f g),bZ,bZ,bZ] .undef [.cells (ni1 d e),.cells (ni1 f g),bZ,.cells (nz1 c.1),bZ] true) (zW (n:=2) (by kernel_rfl) rfl rfl rfl rfl (cac rfl (cac nvc can)) rfl)) (ac (hs (.run [4] (qx ZT 128 (.ptr 4 0) (.agg (nz1 c.2))) [.cells (ni1 d e),.cells (ni1 f g),bZ,.cells (nz1 c.1),bZ] .undef [.cells (ni1 d e),.cells (ni1 f g),bZ,.cells (nz1 c.1),.cells (nz1 c.2)] true) (zW (n:=2) (by kernel_rfl) rfl rfl rfl rfl (cac rfl (cac nvc can)) rfl)) az))) ?_)
 refine sq (gq fol [1] (kAd []) [.cells (ni1 d e),.cells (ni1 f g),.cells (nz1 c.1),.cells (nz1 c.1),.cells (nz1 c.2)] (ac (hs (.run [2] (qx ZT 128 (.ptr 2 0) (.agg (nz1 c.1))) [.cells (ni1 d e),.cells (ni1 f g),bZ,.cells (nz1 c.1),.cells (nz1 c.2)] .undef [.cells (ni1 d e),.cells (ni1 f g),.cells (nz1 c.1),.cells (nz1 c.1),.cells (nz1 c.2)] true) (zW (n:=2) (by kernel_rfl) rfl rfl rfl rfl (cac rfl (cac nvc can)) rfl)) az) ?_)
 refine Goes.ret ?_
 obtain rfl:=si h
 exact(gw2 [.agg (nz1 c.1)] (FzW.agg (qg.cons (Ua tI) (qg.cons (Ua (qF (qa .u64) _ (nl rfl))) qg.nil))))
def qbk (N:Nat) (num:qw) (den:qw):Option qQ:=
 (zu den).bind fun k=>
 ((if k<0 then
 (je num).bind fun i=>
 (je den).bind fun j=>
 some (i.s,i.w,j.s,j.w)
 else
 some (num.s,num.w,den.s,den.w):Option (Int×(List Int)×Int×(List Int)))).bind fun(d,e,b,c)=>
 (if c.isEmpty=true then
 some (decide (b=1))
 else
 some false:Option Bool).bind fun f=>
 if f=true then
 some (⟨(⟨d,e⟩:qw),(⟨b,c⟩:qw)⟩:qQ)
 else
 (qbN N (⟨d,e⟩:qw) (⟨b,c⟩:qw)).bind fun a=>
 (jT N (⟨d,e⟩:qw) a).bind fun g=>
 (jT N (⟨b,c⟩:qw) a).bind fun h=>
 some (⟨g,h⟩:qQ)
theorem qej (N:Nat) (num:qw) (den:qw) {res:qQ} (h:qbk N num den=some res):qc ZT (.fn 124) [.agg (nz1 num),.agg (nz1 den)] [] (.agg (nq1 res)) []:=by
 unfold qbk at h
 refine Ub Tryz.func124 rfl rfl (m:=34) rfl (rs:=[.cell 4 130]) rfl (l:=[(0,.agg (nz1 num)),(1,.agg (nz1 den))]) rfl ?_
 refine sg fol (kF []) (.cells (nz1 num):: .cells (nz1 den)::(kM [])) ?_
 refine sq ?_
 obtain⟨A,q,h⟩:=bnd h
 refine sq (gr fol [1] (kF [(8,.bool (decide (A<0)))]) (ac (cv (xq den q)) az) ?_)
 obtain⟨B,g6,h⟩:=bnd h
 refine Goes.imp (Q:=fun x s'=>(x= .normal/\ ∃d e c a,(d,e,c,a)=B/\Sub s' (ofG 34 (kF []),(.cells (ni1 d e):: .cells (ni1 c a)::(kM []))))) ?_ ?_
 ·refine ihD g6 (fun C g6=>?_) (fun C g6=>?_)
  ·obtain⟨r,t,g6⟩:=bnd g6
   obtain⟨v,u,g6⟩:=bnd g6
   refine gq fol [1,3,4,5] (kF []) (.cells (nz1 r):: .cells (nz1 v)::(kM [])) (ac (cv (vT num t)) (ac (cv (vT den u)) (ac (hs (.run [0] (qx ZT 128 (.ptr 0 0) (.agg (nz1 r))) (.cells (nz1 num):: .cells (nz1 den)::(kM [])) .undef (.cells (nz1 r):: .cells (nz1 den)::(kM [])) true) (zW (n:=2) (by kernel_rfl) rfl rfl rfl rfl (cac rfl (cac nvc can)) rfl)) (ac (hs (.run [1] (qx ZT 128 (.ptr 1 0) (.agg (nz1 v))) (.cells (nz1 r):: .cells (nz1 den)::(kM [])) .undef (.cells (nz1 r):: .cells (nz1 v)::(kM [])) true) (zW (n:=2) (by kernel_rfl) rfl rfl rfl rfl (cac rfl (cac nvc can)) rfl)) az)))) ?_
   obtain rfl:=si g6
   exact⟨rfl,_,_,_,_,rfl,(Sub.refl _)⟩
  refine Goes.skip ?_
  obtain rfl:=si g6
  exact⟨rfl,_,_,_,_,rfl,(Sub.keep [2,3,4] rfl rfl)⟩
 rintro x s' ⟨rfl,d,e,c,a,rfl,hsub⟩
 try dsimp only at h
 refine Goes.sub hsub ?_
 refine sq ?_
 refine sq ?_
 obtain⟨y,b,h⟩:=bnd h
 refine Goes.cut (s':=(ofG 34 (kF [(20,.bool y)]),(.cells (ni1 d e):: .cells (ni1 c a)::(kM [])))) ?_ ?_
 ·rcases wyB b with⟨j,b⟩|⟨j,b⟩
  ·obtain rfl:=si b
   exact tr fol [2,3] (kF [(20,.bool (decide (c=1)))]) (ac (hs (.done (.opt (zb ZT .eql 126 (.tmp 14) (.const (.slice none 0 0)) (nvl (qa .u64) a) .nilslice)) (.bool a.isEmpty)) (qac yl)) (ac (gw j) az))
  obtain rfl:=si b
  exact tr fol [2,3] (kF [(20,.bool false)]) (ac (hs (.done (.opt (zb ZT .eql 126 (.tmp 14) (.const (.slice none 0 0)) (nvl (qa .u64) a) .nilslice)) (.bool a.isEmpty)) (qac yl)) (ac (gw j) az))
 refine ihB h (fun z h=>?_) (fun z h=>?_)
 ·refine sq (gq fol [3] (kAd []) [.cells (ni1 d e),.cells (ni1 c a),.cells (ni2 d e c a)] (ac (hs (.run [2] (qx ZT 130 (.ptr 2 0) (.agg (ni2 d e c a))) (.cells (ni1 d e):: .cells (ni1 c a)::(kM [])) .undef [.cells (ni1 d e),.cells (ni1 c a),.cells (ni2 d e c a)] true) (zW (n:=4) (by kernel_rfl) rfl rfl rfl rfl (cac rfl (cac nvc (cac rfl (cac nvc can)))) rfl)) az) ?_)
  refine Goes.ret ?_
  obtain rfl:=si h
  exact(gw2 [.agg (ni2 d e c a)] (FzW.agg (qg.cons (Ua tI) (qg.cons (Ua (qF (qa .u64) _ (nl rfl))) (qg.cons (Ua tI) (qg.cons (Ua (qF (qa .u64) _ (nl rfl))) qg.nil))))))
 refine Goes.skip ?_
 obtain⟨f,k,h⟩:=bnd h
 refine sq (gq fol [2,4] (kF [(5,.ptr 3 0)]) (.cells (ni1 d e):: .cells (ni1 c a)::(kM [.cells (nz1 f)])) (ac (cv (qis N (⟨d,e⟩:qw) (⟨c,a⟩:qw) k)) (ac (hs (.run [3] (qx ZT 128 (.ptr 3 0) (.agg (nz1 f))) (.cells (ni1 d e):: .cells (ni1 c a)::(kM [bZ])) .undef (.cells (ni1 d e):: .cells (ni1 c a)::(kM [.cells (nz1 f)])) true) (zW (n:=2) (by kernel_rfl) rfl rfl rfl rfl (cac rfl (cac nvc can)) rfl)) az)) ?_)
 obtain⟨g,o,h⟩:=bnd h
 obtain⟨i,p,h⟩:=bnd h
 refine sq (gq fol [2,5,7] (kAd []) [.cells (ni1 d e),.cells (ni1 c a),.cells (ni2 g.s g.w i.s i.w),.cells (nz1 f)] (ac (cv (qcu N (⟨d,e⟩:qw) f o)) (ac (cv (qcu N (⟨c,a⟩:qw) f p)) (ac (hs (.run [2] (qx ZT 130 (.ptr 2 0) (.agg (ni2 g.s g.w i.s i.w))) (.cells (ni1 d e):: .cells (ni1 c a)::(kM [.cells (nz1 f)])) .undef [.cells (ni1 d e),.cells (ni1 c a),.cells (ni2 g.s g.w i.s i.w),.cells (nz1 f)] true) (zW (n:=4) (by kernel_rfl) rfl rfl rfl rfl (cac rfl (cac nvc (cac rfl (cac nvc can)))) rfl)) az))) ?_)
 refine Goes.ret ?_
 obtain rfl:=si h
 exact(gw2 [.agg (ni2 g.s g.w i.s i.w)] (FzW.agg (qg.cons (Ua tI) (qg.cons (Ua (qF (qa .u64) _ (nl rfl))) (qg.cons (Ua tI) (qg.cons (Ua (qF (qa .u64) _ (nl rfl))) qg.nil))))))
def jd (b:List Int) (l:Int) (g:Int):Nat->(List Int)->Int->Int->Option ((List Int)×Int)
 |0,_,_,_=>none
 |K+1,h,a,c=>
  if a<(b.length:Int)then
  (idx b a).bind fun i=>
  (bits_Mul64 l i).bind fun d=>
  (idx h (w64 (g+a))).bind fun j=>
  (yH d.2 j 0).bind fun e=>
  (yH e.1 c 0).bind fun f=>
  (put h (w64 (g+a)) f.1).bind fun k=>
  jd b l g K k (w64 (a+1)) (IntKind.wrap .u64 ((IntKind.wrap .u64 (d.1+e.2))+f.2))
  else
  some (h,c)
def jc (N:Nat) (a:List Int) (b:List Int):Nat->(List Int)->Int->Option (List Int)
 |0,_,_=>none
 |K+1,g,c=>
  if c<(a.length:Int)then
  (idx a c).bind fun h=>
  (jd b h c N g 0 0).bind fun(d,e)=>
  (idx d (w64 (c+(b.length:Int)))).bind fun i=>
  (put d (w64 (c+(b.length:Int))) e).bind fun f=>
  jc N a b K f (w64 (c+1))
  else
  some g
def yZ (N:Nat) (a:List Int) (b:List Int):Option (List Int):=
 (mk 8 (w64 ((a.length:Int)+(b.length:Int))) 0).bind fun d=>
 (jc N a b N d 0).bind fun e=>
 (vS N e).bind fun c=>
 some c
theorem qep (N:Nat) (a:List Int) (b:List Int) {res:List Int} (h:yZ N a b=some res):qc ZT (.fn 193) [vl (qa .u64) a,vl (qa .u64) b] [] (vl (qa .u64) res) []:=by
 unfold yZ at h
 refine Ub Tryz.func193 rfl rfl (m:=80) rfl (rs:=[.tmp 4]) rfl (l:=[(0,vl (qa .u64) a),(1,vl (qa .u64) b)]) rfl ?_
 refine sh fol [(0,vl (qa .u64) a),(1,vl (qa .u64) b)] ?_
 obtain⟨L,O,h⟩:=bnd h
 refine sq (gq fol [5] ((0,vl (qa .u64) a)::(1,vl (qa .u64) b)::(kC L [])) [.cells (L.flatMap (qa .u64).c)] (ac (hs (.run [] (zt ZT 126 (.i (w64 ((a.length:Int)+(b.length:Int)))) (.i (w64 ((a.length:Int)+(b.length:Int))))) [] (.slice 0 0 L.length L.length 1) [.cells (L.flatMap (qa .u64).c)] false) (qaA qD (E:=(qa .u64)) (z:=0) rfl (by kernel_rfl) O rfl)) az) ?_)
 refine sq ?_
 refine sh fol ((1,vl (qa .u64) b)::(kC L [(20,vl (qa .u64) a),(21,.i (a.length:Int)),(22,.i 0)])) ?_
 refine Goes.block ?_
 obtain⟨Y,g5,h⟩:=bnd h
 refine Goes.imp (Q:=fun x s'=>(x= .exit 0/\ ∃u,u=Y/\Sub s' (ofG 80 (kC u []),[.cells (u.flatMap (qa .u64).c)]))) ?_ ?_
 ·refine Uc (fun M s=> ∃(F:List Int) (d:Int),s=(ofG 80 ((1,vl (qa .u64) b)::(kC F ((20,vl (qa .u64) a)::(kY (a.length:Int) d [])))),[.cells (F.flatMap (qa .u64).c)])/\jc N a b M F d=some Y) ?_ (m:=N) ⟨_,_,rfl,g5⟩
  rintro M s ⟨F,d,rfl,g5⟩
  cases M with
  |zero=>simp only[jc]at g5;cases g5
  |succ M=>
   rw[jc]at g5
   refine sh fol ((1,vl (qa .u64) b)::(kC F ((20,vl (qa .u64) a)::(kY (a.length:Int) d [(23,.bool (decide (d<(a.length:Int))))])))) ?_
   refine sq ?_
   refine ihD g5 (fun Z g5=>?_) (fun Z g5=>?_)
   ·refine Goes.skip ?_
    refine sq (Goes.block ?_)
    obtain⟨q,G,g5⟩:=bnd g5
    refine sq (gr fol [1,2] ((1,vl (qa .u64) b)::(kC F ((6,.i d)::(kAO q ((20,vl (qa .u64) a)::(kY (a.length:Int) d [])))))) (ac (iv qD (qa .u64) G) (ac (lv 0 zH (qa .u64) G rfl) az)) ?_)
    refine sh fol ((1,vl (qa .u64) b)::(kC F ((6,.i d)::(kAO q (kA4 ((20,vl (qa .u64) a)::(kY (a.length:Int) d []))))))) ?_
    refine sq ?_
    refine sh fol ((1,vl (qa .u64) b)::(kC F ((6,.i d)::(kAO q (kA4 ((20,vl (qa .u64) a)::(kY (a.length:Int) d [(27,vl (qa .u64) b),(28,.i (b.length:Int)),(29,.i 0)]))))))) ?_
    refine Goes.block ?_
    obtain⟨P,g13,g5⟩:=bnd g5
    refine Goes.imp (Q:=fun x s'=>(x= .exit 2/\ ∃k v,(k,v)=P/\Sub s' (ofG 80 ((1,vl (qa .u64) b)::(kC k ((6,.i d)::(8,.int .u64 v)::(20,vl (qa .u64) a)::(kY (a.length:Int) d [])))),[.cells (k.flatMap (qa .u64).c)]))) ?_ ?_
    ·refine Uc (fun M s=> ∃(j:List Int) (e:Int) (n:Int),s=(ofG 80 ((1,vl (qa .u64) b)::(kC j ((6,.i d)::(kW q n ((20,vl (qa .u64) a)::(kY (a.length:Int) d ((27,vl (qa .u64) b)::(kAa (b.length:Int) e)))))))),[.cells (j.flatMap (qa .u64).c)])/\jd b q d M j e n=some P) ?_ (m:=N) ⟨_,_,_,rfl,g13⟩
     rintro M s ⟨j,e,n,rfl,g13⟩
     cases M with
     |zero=>simp only[jd]at g13;cases g13
     |succ M=>
      rw[jd]at g13
      refine sh fol ((1,vl (qa .u64) b)::(kC j ((6,.i d)::(kW q n ((20,vl (qa .u64) a)::(kY (a.length:Int) d [(27,vl (qa .u64) b),(28,.i (b.length:Int)),(29,.i e),(30,.bool (decide (e<(b.length:Int))))])))))) ?_
      refine sq ?_
      refine ihD g13 (fun X g13=>?_) (fun X g13=>?_)
      ·refine Goes.skip ?_
       refine sq (Goes.block ?_)
       obtain⟨U,w,g13⟩:=bnd g13
       refine sq (gr fol [1,2] ((1,vl (qa .u64) b)::(kC j ((6,.i d)::(kW q n ((9,.i e)::(10,.int .u64 U)::(20,vl (qa .u64) a)::(kY (a.length:Int) d ((27,vl (qa .u64) b)::(kAa (b.length:Int) e)))))))) (ac (iv qD (qa .u64) w) (ac (lv 0 zH (qa .u64) w rfl) az)) ?_)
       obtain⟨f,H,g13⟩:=bnd g13
       refine sq (gr fol [2] ((1,vl (qa .u64) b)::(kC j ((6,.i d)::(kW q n ((9,.i e)::(kU f.1 f.2 ((20,vl (qa .u64) a)::(kY (a.length:Int) d ((27,vl (qa .u64) b)::(kAa (b.length:Int) e)))))))))) (ac (cv (qam q U H)) az) ?_)
       refine sh fol ((1,vl (qa .u64) b)::(kC j ((6,.i d)::(kW q n ((9,.i e)::(kU f.1 f.2 ((20,vl (qa .u64) a)::(kY (a.length:Int) d ((27,vl (qa .u64) b)::(kAa (b.length:Int) e)))))))))) ?_
       obtain⟨V,o,g13⟩:=bnd g13
       obtain⟨g,I,g13⟩:=bnd g13
       refine sq (gr fol [5,6,7] ((1,vl (qa .u64) b)::(kC j ((6,.i d)::(kW q n ((9,.i e)::(kU f.1 g.1 ((13,.int .u64 g.2)::(20,vl (qa .u64) a)::(kY (a.length:Int) d ((27,vl (qa .u64) b)::(kAa (b.length:Int) e)))))))))) (ac (hs (.done (.opt (qb ZT 126 (.slice 0 0 j.length j.length 1) (.i (w64 (d+e))))) (.ptr 0 ((w64 (d+e):Int).toNat*1+0))) (vZ qD o)) (ac (hs (.run [0] (zJ ZT 252 (.ptr 0 ((w64 (d+e):Int).toNat*1+0))) [.cells (j.flatMap (qa .u64).c)] (.int .u64 V) [.cells (j.flatMap (qa .u64).c)] false) (qaC zH (E:=(qa .u64)) (l:=j) rfl rfl o (nl rfl) rfl)) (ac (cv (qaY f.2 V 0 I)) az))) ?_)
       refine sh fol ((1,vl (qa .u64) b)::(kC j ((6,.i d)::(kW q n ((9,.i e)::(kU (IntKind.wrap .u64 (f.1+g.2)) g.1 ((20,vl (qa .u64) a)::(kY (a.length:Int) d ((27,vl (qa .u64) b)::(kAa (b.length:Int) e)))))))))) ?_
       obtain⟨p,J,g13⟩:=bnd g13
       refine sq (gr fol [2] ((1,vl (qa .u64) b)::(kC j ((6,.i d)::(kAO q ((9,.i e)::(kU (IntKind.wrap .u64 (f.1+g.2)) p.1 ((13,.int .u64 p.2)::(20,vl (qa .u64) a)::(kY (a.length:Int) d ((27,vl (qa .u64) b)::(kAa (b.length:Int) e)))))))))) (ac (cv (qaY g.1 n 0 J)) az) ?_)
       obtain⟨r,A,g13⟩:=bnd g13
       refine gq fol [8,9] ((1,vl (qa .u64) b)::(kC j ((6,.i d)::(kW q (IntKind.wrap .u64 ((IntKind.wrap .u64 (f.1+g.2))+p.2)) ((20,vl (qa .u64) a)::(kY (a.length:Int) d ((27,vl (qa .u64) b)::(kAa (b.length:Int) e)))))))) [.cells (r.flatMap (qa .u64).c)] (ac (hs (.done (.opt (qb ZT 126 (.slice 0 0 j.length j.length 1) (.i (w64 (d+e))))) (.ptr 0 ((w64 (d+e):Int).toNat*1+0))) (vZ qD o)) (ac (hs (.run [0] (qx ZT 252 (.ptr 0 ((w64 (d+e):Int).toNat*1+0)) (.int .u64 p.1)) [.cells (j.flatMap (qa .u64).c)] .undef [.cells (r.flatMap (qa .u64).c)] true) (yc (E:=(qa .u64)) (l:=j) (y:=p.1) rfl (show _=some 1 by kernel_rfl) rfl o rfl rfl rfl rfl rfl A rfl)) az)) ?_
       refine Goes.sub (show Sub (ofG 80 ((1,vl (qa .u64) b)::(kC j ((6,.i d)::(kW q (IntKind.wrap .u64 ((IntKind.wrap .u64 (f.1+g.2))+p.2)) ((20,vl (qa .u64) a)::(kY (a.length:Int) d ((27,vl (qa .u64) b)::(kAa (b.length:Int) e)))))))),[.cells (r.flatMap (qa .u64).c)]) (ofG 80 ((1,vl (qa .u64) b)::(kC r ((6,.i d)::(kW q (IntKind.wrap .u64 ((IntKind.wrap .u64 (f.1+g.2))+p.2)) ((20,vl (qa .u64) a)::(kY (a.length:Int) d ((27,vl (qa .u64) b)::(kAa (b.length:Int) e)))))))),[.cells (r.flatMap (qa .u64).c)])from(Sub.norm [] [some 0] rfl rfl (.keep (.same (qd (qa .u64) _)) (.keep (.sliceE rfl (jg A)) (.keep (.same nI) (.keep (.same nI) (.keep (.same nI) (.keep (.same (qd (qa .u64) _)) (.keep (.same nI) (.keep (.same nI) (.keep (.same (qd (qa .u64) _)) (.keep (.same nI) (.keep (.same nI) .nil))))))))))) (.ks .nil))) ?_
       refine gh fol ((1,vl (qa .u64) b)::(kC r ((6,.i d)::(kW q (IntKind.wrap .u64 ((IntKind.wrap .u64 (f.1+g.2))+p.2)) ((20,vl (qa .u64) a)::(kY (a.length:Int) d ((27,vl (qa .u64) b)::(kAa (b.length:Int) (w64 (e+1)))))))))) ?_
       exact⟨M,(ofG 80 ((1,vl (qa .u64) b)::(kC r ((6,.i d)::(kW q (IntKind.wrap .u64 ((IntKind.wrap .u64 (f.1+g.2))+p.2)) ((20,vl (qa .u64) a)::(kY (a.length:Int) d ((27,vl (qa .u64) b)::(kAa (b.length:Int) (w64 (e+1)))))))))),[.cells (r.flatMap (qa .u64).c)]),Nat.lt_succ_self _,(Sub.refl _),_,_,_,rfl,g13⟩
      refine Goes.exit ?_
      obtain rfl:=si g13
      exact⟨rfl,_,_,rfl,(Sub.keep [1,5,6,8,20,21,22] rfl rfl)⟩
    rintro x s' ⟨rfl,k,v,rfl,hsub⟩
    try dsimp only at g5
    refine Goes.sub hsub ?_
    obtain⟨a0,B,g5⟩:=bnd g5
    obtain⟨t,C,g5⟩:=bnd g5
    refine gq fol [6,7] ((1,vl (qa .u64) b)::(kC k ((20,vl (qa .u64) a)::(kY (a.length:Int) d [])))) [.cells (t.flatMap (qa .u64).c)] (ac (hs (.done (.opt (qb ZT 126 (.slice 0 0 k.length k.length 1) (.i (w64 (d+(b.length:Int)))))) (.ptr 0 ((w64 (d+(b.length:Int)):Int).toNat*1+0))) (vZ qD B)) (ac (hs (.run [0] (qx ZT 252 (.ptr 0 ((w64 (d+(b.length:Int)):Int).toNat*1+0)) (.int .u64 v)) [.cells (k.flatMap (qa .u64).c)] .undef [.cells (t.flatMap (qa .u64).c)] true) (yc (E:=(qa .u64)) (l:=k) (y:=v) rfl (show _=some 1 by kernel_rfl) rfl B rfl rfl rfl rfl rfl C rfl)) az)) ?_
    refine Goes.sub (show Sub (ofG 80 ((1,vl (qa .u64) b)::(kC k ((20,vl (qa .u64) a)::(kY (a.length:Int) d [])))),[.cells (t.flatMap (qa .u64).c)]) (ofG 80 ((1,vl (qa .u64) b)::(kC t ((20,vl (qa .u64) a)::(kY (a.length:Int) d [])))),[.cells (t.flatMap (qa .u64).c)])from(Sub.norm [] [some 0] rfl rfl (.keep (.same (qd (qa .u64) _)) (.keep (.sliceE rfl (jg C)) (.keep (.same (qd (qa .u64) _)) (.keep (.same nI) (.keep (.same nI) .nil))))) (.ks .nil))) ?_
    refine gh fol ((1,vl (qa .u64) b)::(kC t ((20,vl (qa .u64) a)::(kY (a.length:Int) (w64 (d+1)) [])))) ?_
    exact⟨M,(ofG 80 ((1,vl (qa .u64) b)::(kC t ((20,vl (qa .u64) a)::(kY (a.length:Int) (w64 (d+1)) [])))),[.cells (t.flatMap (qa .u64).c)]),Nat.lt_succ_self _,(Sub.refl _),_,_,rfl,g5⟩
   refine Goes.exit ?_
   obtain rfl:=si g5
   exact⟨rfl,_,rfl,(Sub.keep [5] rfl rfl)⟩
 rintro x s' ⟨rfl,u,rfl,hsub⟩
 refine Goes.sub hsub ?_
 obtain⟨D,K,h⟩:=bnd h
 refine sq (gq fol [1] [(4,vl (qa .u64) D)] [.frozen (u.flatMap (qa .u64).c)] (ac (hs (.callF 240 [.slice 0 0 u.length u.length 1] [.cells (u.flatMap (qa .u64).c)] [0] [vl (qa .u64) u] (vl (qa .u64) D)) (xU (FzL.cons (Fz.sl (E:=(qa .u64)) rfl rfl (nl rfl)) FzL.nil) (vY N u K) (qy (qa .u64) _ (nl rfl)))) az) ?_)
 refine Goes.sub (show Sub (ofG 80 [(4,vl (qa .u64) D)],[.frozen (u.flatMap (qa .u64).c)]) (ofG 80 [(4,vl (qa .u64) D)],[])from(Sub.norm [] [] rfl rfl (.keep (.same (qd (qa .u64) _)) .nil) .nil)) ?_
 refine Goes.ret ?_
 obtain rfl:=si h
 exact(gw2 [vl (qa .u64) D] (Ua (qy (qa .u64) _ (nl rfl))))
def xI (N:Nat) (a:qw) (b:qw):Option qw:=
 (if a.w.isEmpty=true then
 some b.w.isEmpty
 else
 some false:Option Bool).bind fun j=>
 ((if j=true then
 (qa1 a.s).bind fun k=>
 (qa1 b.s).bind fun l=>
 (bits_Mul64 k l).bind fun e=>
 (if e.1=0 then
 some (decide (e.2<=9223372036854775807))
 else
 some false:Option Bool).bind fun f=>
 if f=true then
 if(!((decide (a.s<0))==(decide (b.s<0))))=true then
 some (.inr (⟨w64 (0-(w64 e.2)),[]⟩:qw))
 else
 some (.inr (⟨w64 e.2,[]⟩:qw))
 else
 some (.inl ())
 else
 some (.inl ()):Option (Unit⊕qw))).bind (fun
 |(.inl ())=>
 (qC a).bind fun c=>
 (qC b).bind fun d=>
 (yZ N c.2 d.2).bind fun g=>
 (jF (!(c.1==d.1)) g).bind fun h=>
 some h
 |(.inr i)=>
 some i)
theorem qcy (N:Nat) (a:qw) (b:qw) {res:qw} (h:xI N a b=some res):qc ZT (.fn 134) [.agg (nz1 a),.agg (nz1 b)] [] (.agg (nz1 res)) []:=by
 unfold xI at h
 refine Ub Tryz.func134 rfl rfl (m:=66) rfl (rs:=[.cell 4 128]) rfl (l:=[(0,.agg (nz1 a)),(1,.agg (nz1 b))]) rfl ?_
 refine sg fol (kF []) [.cells (nz1 a),.cells (nz1 b),bZ] ?_
 refine sq ?_
 refine sq ?_
 obtain⟨G,d,h⟩:=bnd h
 refine Goes.cut (s':=(ofG 66 (kF [(18,.bool G)]),[.cells (nz1 a),.cells (nz1 b),bZ])) ?_ ?_
 ·rcases wyB d with⟨y,d⟩|⟨y,d⟩
  ·obtain rfl:=si d
   exact tr fol [2,3,6] (kF [(18,.bool b.w.isEmpty)]) (ac (hs (.done (.opt (zb ZT .eql 126 (.tmp 12) (.const (.slice none 0 0)) (nvl (qa .u64) a.w) .nilslice)) (.bool a.w.isEmpty)) (qac yl)) (ac (gw y) (ac (hs (.done (.opt (zb ZT .eql 126 (.tmp 16) (.const (.slice none 0 0)) (nvl (qa .u64) b.w) .nilslice)) (.bool b.w.isEmpty)) (qac yl)) az)))
  obtain rfl:=si d
  exact tr fol [2,3] (kF [(18,.bool false)]) (ac (hs (.done (.opt (zb ZT .eql 126 (.tmp 12) (.const (.slice none 0 0)) (nvl (qa .u64) a.w) .nilslice)) (.bool a.w.isEmpty)) (qac yl)) (ac (gw y) az))
 obtain⟨D,g4,h⟩:=bnd h
 refine Goes.imp (Q:=fun x s'=>(x= .normal/\(.inl ())=D/\Sub s' (ofG 66 (kF []),[.cells (nz1 a),.cells (nz1 b),bZ]))\/(x= .ret/\ ∃F,(.inr F)=D/\zU ZT [.cell 4 128] (.agg (nz1 F)) .ret s')) ?_ ?_
 ·refine ihB g4 (fun H g4=>?_) (fun H g4=>?_)
  ·obtain⟨I,t,g4⟩:=bnd g4
   obtain⟨J,u,g4⟩:=bnd g4
   obtain⟨f,v,g4⟩:=bnd g4
   refine sq (gr fol [2,5,6] (kF ((5,.int .u64 f.1)::(kAF f.2 []))) (ac (cv (qcg a.s t)) (ac (cv (qcg b.s u)) (ac (cv (qam I J v)) az))) ?_)
   refine sq ?_
   obtain⟨z,c,g4⟩:=bnd g4
   refine Goes.cut (s':=(ofG 66 (kF (kAF f.2 [(34,.bool z)])),[.cells (nz1 a),.cells (nz1 b),bZ])) ?_ ?_
   ·rcases wyD c with⟨k,c⟩|⟨k,c⟩
    ·obtain rfl:=si c
     exact tr fol [2] (kF (kAF f.2 [(34,.bool (decide (f.2<=9223372036854775807)))])) (ac (gw k) az)
    obtain rfl:=si c
    exact tr fol [2] (kF (kAF f.2 [(34,.bool false)])) (ac (gw k) az)
   refine ihB g4 (fun A g4=>?_) (fun A g4=>?_)
   ·refine sq ?_
    refine sh fol (kAd (kAF f.2 [(41,.bool (!((decide (a.s<0))==(decide (b.s<0)))))])) ?_
    refine ihB g4 (fun B g4=>?_) (fun B g4=>?_)
    ·refine sg fol (kAd []) (.cells (nz1 a):: .cells (nz1 b)::(kAh (w64 (0-(w64 f.2))))) ?_
     refine Goes.ret ?_
     obtain rfl:=si g4
     exact Or.inr (⟨rfl,_,rfl,(gw2 [.agg [.i (w64 (0-(w64 f.2))),.nilslice]] (FzW.agg (qg.cons (Ua tI) (qg.cons (FzW.nv0 (E:=(qa .u64))) qg.nil))))⟩)
    refine Goes.skip ?_
    refine sg fol (kAd []) (.cells (nz1 a):: .cells (nz1 b)::(kAh (w64 f.2))) ?_
    refine Goes.ret ?_
    obtain rfl:=si g4
    exact Or.inr (⟨rfl,_,rfl,(gw2 [.agg [.i (w64 f.2),.nilslice]] (FzW.agg (qg.cons (Ua tI) (qg.cons (FzW.nv0 (E:=(qa .u64))) qg.nil))))⟩)
   refine Goes.skip ?_
   obtain rfl:=si g4
   exact Or.inl (⟨rfl,rfl,(Sub.keep [2,3,4] rfl rfl)⟩)
  refine Goes.skip ?_
  obtain rfl:=si g4
  exact Or.inl (⟨rfl,rfl,(Sub.keep [2,3,4] rfl rfl)⟩)
 rintro x s' (⟨rfl,rfl,hsub⟩|⟨rfl,K,rfl,hret⟩)
 ·try dsimp only at h
  refine Goes.sub hsub ?_
  obtain⟨e,o,h⟩:=bnd h
  refine sq (gr fol [1] ((3,.ptr 1 0)::(kAd [(7,.bool e.1),(8,vl (qa .u64) e.2)])) (ac (cv (zx a o)) az) ?_)
  obtain⟨g,p,h⟩:=bnd h
  refine sq (gr fol [1] (kAd [(7,.bool e.1),(8,vl (qa .u64) e.2),(9,.bool g.1),(10,vl (qa .u64) g.2)]) (ac (cv (zx b p)) az) ?_)
  obtain⟨C,q,h⟩:=bnd h
  obtain⟨j,r,h⟩:=bnd h
  refine sq (gq fol [5,6,7] (kAd []) [.cells (nz1 a),.cells (nz1 b),.cells (nz1 j)] (ac (cv (qep N e.2 g.2 q)) (ac (cv (yK (!(e.1==g.1)) C r)) (ac (hs (.run [2] (qx ZT 128 (.ptr 2 0) (.agg (nz1 j))) [.cells (nz1 a),.cells (nz1 b),bZ] .undef [.cells (nz1 a),.cells (nz1 b),.cells (nz1 j)] true) (zW (n:=2) (by kernel_rfl) rfl rfl rfl rfl (cac rfl (cac nvc can)) rfl)) az))) ?_)
  refine Goes.ret ?_
  obtain rfl:=si h
  exact(gw2 [.agg (nz1 j)] (FzW.agg (qg.cons (Ua tI) (qg.cons (Ua (qF (qa .u64) _ (nl rfl))) qg.nil))))
 try dsimp only at h
 obtain rfl:=si h
 exact hret
def y8 (N:Nat) (a:qQ) (b:qQ):Option qQ:=
 (xI N a.Num b.Num).bind fun c=>
 (xI N a.Den b.Den).bind fun d=>
 (qbk N c d).bind fun e=>
 some e
theorem qbZ (N:Nat) (a:qQ) (b:qQ) {res:qQ} (h:y8 N a b=some res):qc ZT (.fn 68) [.agg (nq1 a),.agg (nq1 b)] [] (.agg (nq1 res)) []:=by
 unfold y8 at h
 refine Ub Tryz.func68 rfl rfl (m:=16) rfl (rs:=[.cell 4 130]) rfl (l:=[(0,.agg (nq1 a)),(1,.agg (nq1 b))]) rfl ?_
 refine sg fol (kF []) (.cells (nq1 a):: .cells (nq1 b)::(kM [])) ?_
 obtain⟨g,c,h⟩:=bnd h
 obtain⟨i,d,h⟩:=bnd h
 obtain⟨f,e,h⟩:=bnd h
 refine sq (gq fol [4,9,10,11] (kAd []) [.cells (nq1 a),.cells (nq1 b),.cells (nq1 f)] (ac (cv (qcy N a.Num b.Num c)) (ac (cv (qcy N a.Den b.Den d)) (ac (cv (qej N g i e)) (ac (hs (.run [2] (qx ZT 130 (.ptr 2 0) (.agg (nq1 f))) (.cells (nq1 a):: .cells (nq1 b)::(kM [])) .undef [.cells (nq1 a),.cells (nq1 b),.cells (nq1 f)] true) (zW (n:=4) (by kernel_rfl) rfl rfl rfl rfl (cac rfl (cac nvc (cac rfl (cac nvc can)))) rfl)) az)))) ?_)
 refine Goes.ret ?_
 obtain rfl:=si h
 exact(gw2 [.agg (nq1 f)] (FzW.agg (qg.cons (Ua tI) (qg.cons (Ua (qF (qa .u64) _ (nl rfl))) (qg.cons (Ua tI) (qg.cons (Ua (qF (qa .u64) _ (nl rfl))) qg.nil))))))
def xN (N:Nat) (a:qQ):Option qQ:=
 (qbk N a.Den a.Num).bind fun b=>
 some b
theorem qeq (N:Nat) (a:qQ) {res:qQ} (h:xN N a=some res):qc ZT (.fn 131) [.agg (nq1 a)] [] (.agg (nq1 res)) []:=by
 unfold xN at h
 refine Ub Tryz.func131 rfl rfl (m:=8) rfl (rs:=[.cell 2 130]) rfl (l:=[(0,.agg (nq1 a))]) rfl ?_
 refine sg fol (kAX []) (.cells (nq1 a)::(kM [])) ?_
 obtain⟨c,b,h⟩:=bnd h
 refine sq (gq fol [4,5] [(2,.ptr 1 0)] [.cells (nq1 a),.cells (nq1 c)] (ac (cv (qej N a.Den a.Num b)) (ac (hs (.run [1] (qx ZT 130 (.ptr 1 0) (.agg (nq1 c))) (.cells (nq1 a)::(kM [])) .undef [.cells (nq1 a),.cells (nq1 c)] true) (zW (n:=4) (by kernel_rfl) rfl rfl rfl rfl (cac rfl (cac nvc (cac rfl (cac nvc can)))) rfl)) az)) ?_)
 refine Goes.ret ?_
 obtain rfl:=si h
 exact(gw2 [.agg (nq1 c)] (FzW.agg (qg.cons (Ua tI) (qg.cons (Ua (qF (qa .u64) _ (nl rfl))) (qg.cons (Ua tI) (qg.cons (Ua (qF (qa .u64) _ (nl rfl))) qg.nil))))))
def xQ (N:Nat) (a:qQ) (b:qQ):Option qQ:=
 (xN N b).bind fun c=>
 (y8 N a c).bind fun d=>
 some d
theorem qeo (N:Nat) (a:qQ) (b:qQ) {res:qQ} (h:xQ N a b=some res):qc ZT (.fn 67) [.agg (nq1 a),.agg (nq1 b)] [] (.agg (nq1 res)) []:=by
 unfold xQ at h
 refine Ub Tryz.func67 rfl rfl (m:=9) rfl (rs:=[.cell 4 130]) rfl (l:=[(0,.agg (nq1 a)),(1,.agg (nq1 b))]) rfl ?_
 refine sg fol (kF []) (.cells (nq1 a):: .cells (nq1 b)::(kM [])) ?_
 obtain⟨f,c,h⟩:=bnd h
 obtain⟨e,d,h⟩:=bnd h
 refine sq (gq fol [2,3,4] (kAd []) [.cells (nq1 a),.cells (nq1 b),.cells (nq1 e)] (ac (cv (qeq N b c)) (ac (cv (qbZ N a f d)) (ac (hs (.run [2] (qx ZT 130 (.ptr 2 0) (.agg (nq1 e))) (.cells (nq1 a):: .cells (nq1 b)::(kM [])) .undef [.cells (nq1 a),.cells (nq1 b),.cells (nq1 e)] true) (zW (n:=4) (by kernel_rfl) rfl rfl rfl rfl (cac rfl (cac nvc (cac rfl (cac nvc can)))) rfl)) az))) ?_)
 refine Goes.ret ?_
 obtain rfl:=si h
 exact(gw2 [.agg (nq1 e)] (FzW.agg (qg.cons (Ua tI) (qg.cons (Ua (qF (qa .u64) _ (nl rfl))) (qg.cons (Ua tI) (qg.cons (Ua (qF (qa .u64) _ (nl rfl))) qg.nil))))))
def stringslite_HasPrefix (b:Str) (a:Str):Option Bool:=
 (if(b.length:Int)>=(a.length:Int)then
 (cut b 0 (a.length:Int)).bind fun c=>
 some (c==a)
 else
 some false:Option Bool).bind fun d=>
 some d
theorem qbi (c:Str) (a:Str) {res:Bool} (h:stringslite_HasPrefix c a=some res):qc ZT (.fn 232) [.str c,.str a] [] (.bool res) []:=by
 unfold stringslite_HasPrefix at h
 refine Ub Tryz.func232 rfl rfl (m:=18) rfl (rs:=[.tmp 4]) rfl (l:=(kAr c a)) rfl ?_
 refine sh fol (kAr c a) ?_
 refine sq ?_
 obtain⟨f,b,h⟩:=bnd h
 refine Goes.cut (s':=(ofG 18 [(4,.bool f)],[])) ?_ ?_
 ·rcases wyD b with⟨e,b⟩|⟨e,b⟩
  ·obtain⟨g,d,b⟩:=bnd b
   obtain rfl:=si b
   exact tr fol [5,9] [(4,.bool (g==a))] (ac (gw e) (ac (hs (.done (.opt (zI ZT 9 (.str c) none (some (.i (a.length:Int))) none)) (.str g)) (yG st9 none (some (a.length:Int)) d)) az))
  obtain rfl:=si b
  exact tr fol [5] [(4,.bool false)] (ac (gw e) az)
 refine Goes.ret ?_
 obtain rfl:=si h
 exact(gw2 [.bool f] (Ua tB))
def stringslite_TrimPrefix (b:Str) (a:Str):Option Str:=
 (stringslite_HasPrefix b a).bind fun c=>
 if c=true then
 (cut b (a.length:Int) (b.length:Int)).bind fun d=>
 some d
 else
 some b
theorem qa4 (b:Str) (a:Str) {res:Str} (h:stringslite_TrimPrefix b a=some res):qc ZT (.fn 233) [.str b,.str a] [] (.str res) []:=by
 unfold stringslite_TrimPrefix at h
 refine Ub Tryz.func233 rfl rfl (m:=13) rfl (rs:=[.tmp 4]) rfl (l:=(kAr b a)) rfl ?_
 refine sh fol (kAr b a) ?_
 refine sq ?_
 obtain⟨f,c,h⟩:=bnd h
 refine sq (gr fol [2] [(0,.str b),(1,.str a),(7,.bool f)] (ac (cv (qbi b a c)) az) ?_)
 refine ihB h (fun g h=>?_) (fun g h=>?_)
 ·obtain⟨e,d,h⟩:=bnd h
  refine sq (gr fol [3] [(4,.str e)] (ac (hs (.done (.opt (zI ZT 9 (.str b) (some (.i (a.length:Int))) none none)) (.str e)) (yG st9 (some (a.length:Int)) none d)) az) ?_)
  refine Goes.ret ?_
  obtain rfl:=si h
  exact(gw2 [.str e] (Ua tS))
 refine Goes.skip ?_
 refine sh fol [(4,.str b)] ?_
 refine Goes.ret ?_
 obtain rfl:=si h
 exact(gw2 [.str b] (Ua tS))
def strings_TrimPrefix (b:Str) (a:Str):Option Str:=
 (stringslite_TrimPrefix b a).bind fun c=>
 some c
theorem qb4 (b:Str) (a:Str) {res:Str} (h:strings_TrimPrefix b a=some res):qc ZT (.fn 173) [.str b,.str a] [] (.str res) []:=by
 unfold strings_TrimPrefix at h
 refine Ub Tryz.func173 rfl rfl (m:=8) rfl (rs:=[.tmp 4]) rfl (l:=(kAr b a)) rfl ?_
 refine sh fol (kAr b a) ?_
 obtain⟨d,c,h⟩:=bnd h
 refine sq (gr fol [2] [(4,.str d)] (ac (cv (qa4 b a c)) az) ?_)
 refine Goes.ret ?_
 obtain rfl:=si h
 exact(gw2 [.str d] (Ua tS))
def zR (N:Nat):Nat->(List Str)->(List Int)->Option (List Str)
 |0,_,_=>none
 |K+1,i,j=>
  if(j.length:Int)>0 then
  (xB N j ([1000000000000000000]:List Int)).bind fun b=>
  ((if(b.2.length:Int)>0 then
  (idx b.2 0).bind fun c=>
  (qfU c 10).bind fun d=>
  some d
  else
  some [48]:Option Str)).bind fun a=>
  ((if(b.1.length:Int)>0 then
  (qcM [48] (w64 (18-(a.length:Int)))).bind fun e=>
  (cat e a).bind fun f=>
  some f
  else
  some a:Option Str)).bind fun g=>
  (app 16 i [g]).bind fun h=>
  zR N K h b.1
  else
  some i
def zg (e:List Str):Nat->Bool->(Option (List Int))->Int->Option (Bool×(Option (List Int)))
 |0,_,_,_=>none
 |K+1,ok27,b,a=>
  if a>=0 then
  (idx e a).bind fun c=>
  (bWr ok27 b c).bind fun d=>
  zg e K true (some d) (w64 (a-1))
  else
  some (ok27,b)
def jC (N:Nat) (a:qw):Option Str:=
 if a.w.isEmpty=true then
 (qi9 a.s).bind fun h=>
 some h
 else
 (qC a).bind fun f=>
 (zR N N ([]:List Str) f.2).bind fun g=>
 ((if f.1=true then
 (bWr false (none:Option (List Int)) [45]).bind fun b=>
 some (true,(some b))
 else
 some (false,(none:Option (List Int))):Option (Bool×(Option (List Int))))).bind fun(ok21,c)=>
 (zg g N ok21 c (w64 ((g.length:Int)-1))).bind fun(ok30,d)=>
 (qj6 ok30 d).bind fun e=>
 some e
theorem yJ (N:Nat) (a:qw) {res:Str} (h:jC N a=some res):qc ZT (.fn 195) [.agg (nz1 a)] [] (.str res) []:=by
 unfold jC at h
 refine Ub Tryz.func195 rfl rfl (m:=69) rfl (rs:=[.tmp 2]) rfl (l:=[(0,.agg (nz1 a))]) rfl ?_
 refine sg fol kAu [.cells (nz1 a)] ?_
 refine sq ?_
 refine sq (gr fol [2] [(1,.ptr 0 0),(14,.bool a.w.isEmpty)] (ac (hs (.done (.opt (zb ZT .eql 126 (.tmp 13) (.const (.slice none 0 0)) (nvl (qa .u64) a.w) .nilslice)) (.bool a.w.isEmpty)) (qac yl)) az) ?_)
 refine ihB h (fun c1 h=>?_) (fun c1 h=>?_)
 ·obtain⟨r2,J,h⟩:=bnd h
  refine sq (gr fol [2] [(2,.str r2)] (ac (cv (qmk a.s J)) az) ?_)
  refine Goes.ret ?_
  obtain rfl:=si h
  exact(gw2 [.str r2] (Ua tS))
 refine Goes.skip ?_
 obtain⟨d,K,h⟩:=bnd h
 refine sq (gr fol [1] [(3,.bool d.1),(4,vl (qa .u64) d.2)] (ac (cv (zx a K)) az) ?_)
 refine sg fol [(3,.bool d.1),(4,vl (qa .u64) d.2),(5,.slice 1 0 1 1 1)] [.cells (nz1 a),.cells [.int .u64 1000000000000000000]] ?_
 refine sh fol [(3,.bool d.1),(4,vl (qa .u64) d.2),(5,.slice 1 0 1 1 1),(6,.nilslice)] ?_
 refine sq (Goes.block ?_)
 obtain⟨r7,g7,h⟩:=bnd h
 refine Goes.imp (Q:=fun x s'=>(x= .exit 0/\ ∃b,b=r7/\Sub s' (ofG 69 ((3,.bool d.1)::(kZ b [])),(kAB b [])))) ?_ ?_
 ·refine Goes.sub (s':=(ofG 69 [(3,.bool d.1),(4,vl (qa .u64) d.2),(5,vl (qa .u64) ([1000000000000000000]:List Int)),(6,.gslice 0 ([]:List Str).length 1)],[.cells (([]:List Str).flatMap encS.c)])) (Sub.norm [1] [none] rfl rfl (.keep (.same nB) (.keep (.same (qd (qa .u64) _)) (.keep (.frz (Fz.lit rfl rfl (Ul (AllST.cons tI AllST.nil))) (qd (qa .u64) _)) (.keep .nil .nil)))) (.fresh .nil)) ?_
  refine Uc (fun M s=> ∃(g:List Str) (I:List Int),s=(ofG 69 ((3,.bool d.1)::(4,vl (qa .u64) I)::(5,vl (qa .u64) ([1000000000000000000]:List Int))::(kZ g [])),(kAB g []))/\zR N M g I=some r7) ?_ (m:=N) ⟨_,_,rfl,g7⟩
  rintro M s ⟨g,I,rfl,g7⟩
  cases M with
  |zero=>simp only[zR]at g7;cases g7
  |succ M=>
   rw[zR]at g7
   refine sq ?_
   refine sh fol ((3,.bool d.1)::(4,vl (qa .u64) I)::(5,vl (qa .u64) ([1000000000000000000]:List Int))::(kZ g [(26,.bool (decide ((I.length:Int)>0)))])) ?_
   refine ihD g7 (fun c8 g7=>?_) (fun c8 g7=>?_)
   ·refine Goes.skip ?_
    refine Goes.block ?_
    obtain⟨j,L,g7⟩:=bnd g7
    refine sq (gr fol [2] ((3,.bool d.1)::(5,vl (qa .u64) ([1000000000000000000]:List Int))::(kZ g [(7,vl (qa .u64) j.1),(8,vl (qa .u64) j.2)])) (ac (cv (qc9 N I ([1000000000000000000]:List Int) L)) az) ?_)
    refine sh fol ((3,.bool d.1)::(5,vl (qa .u64) ([1000000000000000000]:List Int))::(kZ g [(7,vl (qa .u64) j.1),(8,vl (qa .u64) j.2),(9,.str [48])])) ?_
    refine sq ?_
    refine sh fol ((3,.bool d.1)::(5,vl (qa .u64) ([1000000000000000000]:List Int))::(kZ g [(7,vl (qa .u64) j.1),(8,vl (qa .u64) j.2),(9,.str [48]),(35,.bool (decide ((j.2.length:Int)>0)))])) ?_
    obtain⟨U,g11,g7⟩:=bnd g7
    refine Goes.imp (Q:=fun x s'=>(x= .normal/\ ∃p,p=U/\Sub s' (ofG 69 ((3,.bool d.1)::(5,vl (qa .u64) ([1000000000000000000]:List Int))::(kZ g [(7,vl (qa .u64) j.1),(9,.str p)])),(kAB g [])))) ?_ ?_
    ·refine ihD g11 (fun V g11=>?_) (fun V g11=>?_)
     ·obtain⟨X,r,g11⟩:=bnd g11
      obtain⟨Y,z,g11⟩:=bnd g11
      refine gr fol [1,2,3] ((3,.bool d.1)::(5,vl (qa .u64) ([1000000000000000000]:List Int))::(kZ g [(7,vl (qa .u64) j.1),(9,.str Y)])) (ac (iv qD (qa .u64) r) (ac (lv 0 zH (qa .u64) r rfl) (ac (cv (qmx X 10 z)) az))) ?_
      obtain rfl:=si g11
      exact⟨rfl,_,rfl,(Sub.refl _)⟩
     refine Goes.skip ?_
     obtain rfl:=si g11
     exact⟨rfl,_,rfl,(Sub.keep [3,5,6,7,9] rfl rfl)⟩
    rintro x s' ⟨rfl,p,rfl,hsub⟩
    refine Goes.sub hsub ?_
    refine sq ?_
    refine sh fol ((3,.bool d.1)::(5,vl (qa .u64) ([1000000000000000000]:List Int))::(kZ g [(7,vl (qa .u64) j.1),(9,.str p),(42,.bool (decide ((j.1.length:Int)>0)))])) ?_
    obtain⟨Z,g16,g7⟩:=bnd g7
    refine Goes.imp (Q:=fun x s'=>(x= .normal/\ ∃k,k=Z/\Sub s' (ofG 69 ((3,.bool d.1)::(5,vl (qa .u64) ([1000000000000000000]:List Int))::(kZ g [(7,vl (qa .u64) j.1),(9,.str k)])),(kAB g [])))) ?_ ?_
    ·refine ihD g16 (fun a0 g16=>?_) (fun a0 g16=>?_)
     ·obtain⟨a1,A,g16⟩:=bnd g16
      obtain⟨O,B,g16⟩:=bnd g16
      refine gr fol [3,5] ((3,.bool d.1)::(5,vl (qa .u64) ([1000000000000000000]:List Int))::(kZ g [(7,vl (qa .u64) j.1),(9,.str O)])) (ac (cv (qiJ [48] (w64 (18-(p.length:Int))) A)) (ac (hs (.done (.opt (zb ZT .add 9 (.tmp 46) (.tmp 47) (.str a1) (.str p))) (.str O)) (qgU B)) az)) ?_
      obtain rfl:=si g16
      exact⟨rfl,_,rfl,(Sub.refl _)⟩
     refine Goes.skip ?_
     obtain rfl:=si g16
     exact⟨rfl,_,rfl,(Sub.keep [3,5,6,7,9] rfl rfl)⟩
    rintro x s' ⟨rfl,k,rfl,hsub⟩
    refine Goes.sub hsub ?_
    obtain⟨n,C,g7⟩:=bnd g7
    refine sq (gq fol [3] [(3,.bool d.1),(5,vl (qa .u64) ([1000000000000000000]:List Int)),(6,.gslice 2 n.length 1),(7,vl (qa .u64) j.1)] (.dead:: .cells [.str k]::(kAB n [])) (ac (hs (.run [0,1] (vI ZT [291,291] (.gslice 0 g.length 1) (.slice 1 0 1 1 1)) (kAB g [.cells [.str k]]) (.gslice 2 n.length 1) (.dead:: .cells [.str k]::(kAB n [])) true) (qal qnw (E:=encS) rfl (qdC (E:=encS) (ys:=[k]) rfl rfl rfl rfl) (qfk (E:=encS) (l:=g) rfl rfl rfl C rfl))) az) ?_)
    refine gh fol [(3,.bool d.1),(4,vl (qa .u64) j.1),(5,vl (qa .u64) ([1000000000000000000]:List Int)),(6,.gslice 2 n.length 1)] ?_
    exact⟨M,(ofG 69 ((3,.bool d.1)::(4,vl (qa .u64) j.1)::(5,vl (qa .u64) ([1000000000000000000]:List Int))::(kZ n [])),(kAB n [])),Nat.lt_succ_self _,(Sub.norm [] [some 2] rfl rfl (.keep (.same nB) (.keep (.same (qd (qa .u64) _)) (.keep (.same (qd (qa .u64) _)) (.keep (.gslice rfl) .nil)))) (.ks .nil)),_,_,rfl,g7⟩
   refine Goes.exit ?_
   obtain rfl:=si g7
   exact⟨rfl,_,rfl,(Sub.keep [3,6] rfl rfl)⟩
 rintro x s' ⟨rfl,b,rfl,hsub⟩
 refine Goes.sub hsub ?_
 refine sg fol ((3,.bool d.1)::(kZ b (kA1 []))) (kAB b [.bld 243 5 [.nilptr,.nilslice]]) ?_
 refine sq ?_
 refine sh fol (kZ b (kA1 [(54,.bool d.1)])) ?_
 obtain⟨a2,g23,h⟩:=bnd h
 refine Goes.imp (Q:=fun x s'=>(x= .normal/\ ∃ok21 u,(ok21,u)=a2/\Sub s' (ofG 69 (kZ b (kA1 [])),(kAB b [.bld 243 5 [pz ok21 1 0,hsl 2 1 u],.cells ((hof u).flatMap (qa .u8).c)])))) ?_ ?_
 ·refine ihB g23 (fun a3 g23=>?_) (fun a3 g23=>?_)
  ·refine Goes.sub (s':=(ofG 69 (kZ b (kA1 [(54,.bool d.1)])),(kAB b [.bld 243 5 [pz false 1 0,.nilslice]]))) (Sub.norm [] [some 0,some 1] rfl rfl (.keep (.gslice rfl) (.kp (.keep (.same nB) .nil))) (.ks (.kb rfl (.bld (rc (zq.pz0) (rc (.same (qB.nilslice)) rn))) .nil))) ?_
   refine Goes.sub (s':=(ofG 69 (kZ b (kA1 [(54,.bool d.1)])),(kAB b [.bld 243 5 [pz false 1 0,hsl 2 1 (none:Option (List Int))],.cells ((hof (none:Option (List Int))).flatMap (qa .u8).c)]))) (Sub.norm [] [some 0,some 1,none] rfl rfl (.keep (.gslice rfl) (.kp (.keep (.same nB) .nil))) (.ks (.kb rfl (.bld (rc (zq.pz0) (rc .hs0 rn))) (.fresh .nil)))) ?_
   obtain⟨v,D,g23⟩:=bnd g23
   refine gq fol [0] (kZ b (kA1 [])) (kAB b [.bld 243 5 [pz true 1 0,hsl 3 1 (some v)],.dead,.cells ((hof (some v)).flatMap (qa .u8).c)]) (ac (hs (.callH 178 [.ptr 1 0,.str [45]] (kAB b [.bld 243 5 [pz false 1 0,hsl 2 1 (none:Option (List Int))],.cells ((hof (none:Option (List Int))).flatMap (qa .u8).c)]) [1,2] (.tuple [.i (([45].length:Nat):Int),.niliface]) (kAB b [.bld 243 5 [pz true 1 0,hsl 3 1 (some v)],.dead,.cells ((hof (some v)).flatMap (qa .u8).c)])) (qaS [some 1,some 2] [none,some 0,none,some 2] (qlg false (none:Option (List Int)) [45] D) (.kb rfl (.bld (rc (zq.pz0) (rc .hs0 rn))) (.ks .nil)) rfl rfl (.old rfl rfl (.back rfl rfl (.bld (rc ((zq.pz rfl)) (rc (.hs rfl) rn))) rfl (.dead (.new rfl rfl (.same fa) rfl .nil)))) (rc (.ptr rfl) (rc (.same nS) rn)) (.same (qB.tuple sn)) rfl)) az) ?_
   obtain rfl:=si g23
   exact⟨rfl,_,_,rfl,(Sub.norm [] [some 0,some 1,some 3] rfl rfl (.keep (.gslice rfl) (.kp .nil)) (.ks (.kb rfl (.bld (rc ((zq.pz rfl)) (rc (.hs rfl) rn))) (.ks .nil))))⟩
  refine Goes.skip ?_
  obtain rfl:=si g23
  exact⟨rfl,_,_,rfl,(Sub.norm [] [some 0,some 1,none] rfl rfl (.keep (.gslice rfl) (.kp .nil)) (.ks (.kb rfl (.bld (rc (zq.pz0) (rc .hs0 rn))) (.fresh .nil))))⟩
 rintro x s' ⟨rfl,ok21,u,rfl,hsub⟩
 try dsimp only at h
 refine Goes.sub hsub ?_
 refine sq ?_
 refine sh fol (kZ b (kA1 [(11,.i (w64 ((b.length:Int)-1)))])) ?_
 refine Goes.block ?_
 obtain⟨P,g32,h⟩:=bnd h
 refine Goes.imp (Q:=fun x s'=>(x= .exit 2/\ ∃ok30 o,(ok30,o)=P/\Sub s' (ofG 69 [(10,.ptr 0 0)],[.bld 243 5 [pz ok30 0 0,hsl 1 1 o],.cells ((hof o).flatMap (qa .u8).c)]))) ?_ ?_
 ·refine Uc (fun M s=> ∃(ok27:Bool) (e:Option (List Int)) (f:Int),s=(ofG 69 (kZ b (kA1 [(11,.i f)])),(kAB b [.bld 243 5 [pz ok27 1 0,hsl 2 1 e],.cells ((hof e).flatMap (qa .u8).c)]))/\zg b M ok27 e f=some P) ?_ (m:=N) ⟨_,_,_,rfl,g32⟩
  rintro M s ⟨ok27,e,f,rfl,g32⟩
  cases M with
  |zero=>simp only[zg]at g32;cases g32
  |succ M=>
   rw[zg]at g32
   refine sq ?_
   refine sh fol (kZ b (kA1 [(11,.i f),(60,.bool (decide (f>=0)))])) ?_
   refine ihD g32 (fun a4 g32=>?_) (fun a4 g32=>?_)
   ·refine Goes.skip ?_
    refine sq (Goes.block ?_)
    obtain⟨y,t,g32⟩:=bnd g32
    obtain⟨q,F,g32⟩:=bnd g32
    refine gq fol [2,3,4] (kZ b (kA1 [(11,.i f)])) (kAB b [.bld 243 5 [pz true 1 0,hsl 3 1 (some q)],.dead,.cells ((hof (some q)).flatMap (qa .u8).c)]) (ac (hs (.done (.opt (qb ZT 291 (.gslice 0 b.length 1) (.i f))) (.ptr 0 ((f:Int).toNat*1+0))) (ql2 qnw t)) (ac (hs (.run [0] (zJ ZT 9 (.ptr 0 ((f:Int).toNat*1+0))) (kAB b [.bld 243 5 [pz ok27 1 0,hsl 2 1 e],.cells ((hof e).flatMap (qa .u8).c)]) (.str y) (kAB b [.bld 243 5 [pz ok27 1 0,hsl 2 1 e],.cells ((hof e).flatMap (qa .u8).c)]) false) (qaC ce9 (E:=encS) (l:=b) rfl rfl t (nl rfl) rfl)) (ac (hs (.callH 178 [.ptr 1 0,.str y] (kAB b [.bld 243 5 [pz ok27 1 0,hsl 2 1 e],.cells ((hof e).flatMap (qa .u8).c)]) [1,2] (.tuple [.i ((y.length:Nat):Int),.niliface]) (kAB b [.bld 243 5 [pz true 1 0,hsl 3 1 (some q)],.dead,.cells ((hof (some q)).flatMap (qa .u8).c)])) (qaS [some 1,some 2] [none,some 0,none,some 2] (qlg ok27 e y F) (.kb rfl (.bld (rc ((zq.pz rfl)) (rc (.hs rfl) rn))) (.ks .nil)) rfl rfl (.old rfl rfl (.back rfl rfl (.bld (rc ((zq.pz rfl)) (rc (.hs rfl) rn))) rfl (.dead (.new rfl rfl (.same fa) rfl .nil)))) (rc (.ptr rfl) (rc (.same nS) rn)) (.same (qB.tuple sn)) rfl)) az))) ?_
    refine gh fol (kZ b (kA1 [(11,.i (w64 (f-1)))])) ?_
    exact⟨M,(ofG 69 (kZ b (kA1 [(11,.i (w64 (f-1)))])),(kAB b [.bld 243 5 [pz true 1 0,hsl 2 1 (some q)],.cells ((hof (some q)).flatMap (qa .u8).c)])),Nat.lt_succ_self _,(Sub.norm [] [some 0,some 1,some 3] rfl rfl (.keep (.gslice rfl) (.kp (.keep (.same nI) .nil))) (.ks (.kb rfl (.bld (rc ((zq.pz rfl)) (rc (.hs rfl) rn))) (.ks .nil)))),_,_,_,rfl,g32⟩
   refine Goes.exit ?_
   obtain rfl:=si g32
   exact⟨rfl,_,_,rfl,(Sub.norm [] [some 1,some 2] rfl rfl (.drop (.kp .nil)) (.kb rfl (.bld (rc ((zq.pz rfl)) (rc (.hs rfl) rn))) (.ks .nil)))⟩
 rintro x s' ⟨rfl,ok30,o,rfl,hsub⟩
 try dsimp only at h
 refine Goes.sub hsub ?_
 obtain⟨G,H,h⟩:=bnd h
 refine sq (gq fol [0] [(2,.str G)] [.dead,.dead] (ac (hs (.callH 180 [.ptr 0 0] [.bld 243 5 [pz ok30 0 0,hsl 1 1 o],.cells ((hof o).flatMap (qa .u8).c)] [0,1] (.str G) [.dead,.dead]) (qaS [some 0,some 1] [none,none] (qnm ok30 o H) (.kb rfl (.bld (rc ((zq.pz rfl)) (rc (.hs rfl) rn))) (.ks .nil)) rfl rfl (.dead (.dead .nil)) (rc (.ptr rfl) rn) (.same nS) rfl)) az) ?_)
 refine Goes.ret ?_
 obtain rfl:=si h
 exact(gw2 [.str G] (Ua tS))
def xY (a:qw):Option Int:=
 (qC a).bind fun b=>
 if(b.2.length:Int)=0 then
 some 0
 else
 (idx b.2 (w64 ((b.2.length:Int)-1))).bind fun c=>
 (bits_Len64 c).bind fun d=>
 some (w64 ((w64 (64*(w64 ((b.2.length:Int)-1))))+d))
theorem qb0 (a:qw) {res:Int} (h:xY a=some res):qc ZT (.fn 246) [.agg (nz1 a)] [] (.i res) []:=by
 unfold xY at h
 refine Ub Tryz.func246 rfl rfl (m:=25) rfl (rs:=[.tmp 2]) rfl (l:=[(0,.agg (nz1 a))]) rfl ?_
 refine sg fol kAu [.cells (nz1 a)] ?_
 obtain⟨c,d,h⟩:=bnd h
 refine sq (gr fol [1] [(4,vl (qa .u64) c.2)] (ac (cv (zx a d)) az) ?_)
 refine sq ?_
 refine sh fol [(4,vl (qa .u64) c.2),(12,.bool (decide ((c.2.length:Int)=0)))] ?_
 refine ihD h (fun g h=>?_) (fun g h=>?_)
 ·refine sh fol [(2,.i 0)] ?_
  refine Goes.ret ?_
  obtain rfl:=si h
  exact(gw2 [.i 0] (Ua tI))
 refine Goes.skip ?_
 obtain⟨j,b,h⟩:=bnd h
 obtain⟨f,e,h⟩:=bnd h
 refine sq (gr fol [8,9,10] [(2,.i (w64 ((w64 (64*(w64 ((c.2.length:Int)-1))))+f)))] (ac (iv qD (qa .u64) b) (ac (lv 0 zH (qa .u64) b rfl) (ac (cv (qc8 j e)) az))) ?_)
 refine Goes.ret ?_
 obtain rfl:=si h
 exact(gw2 [.i (w64 ((w64 (64*(w64 ((c.2.length:Int)-1))))+f))] (Ua tI))
def qby (N:Nat) (n:qw):Option Bool:=
 ((xY n).bind fun a=>
 if a>1800 then
 (jC N n).bind fun b=>
 (strings_TrimPrefix b [45]).bind fun c=>
 some (decide ((c.length:Int)>600))
 else
 some false:Option Bool).bind fun d=>
 some d
theorem qcA (N:Nat) (n:qw) {res:Bool} (h:qby N n=some res):qc ZT (.fn 194) [.agg (nz1 n)] [] (.bool res) []:=by
 unfold qby at h
 refine Ub Tryz.func194 rfl rfl (m:=13) rfl (rs:=[.tmp 2]) rfl (l:=[(0,.agg (nz1 n))]) rfl ?_
 refine sg fol kAu [.cells (nz1 n)] ?_
 refine sq ?_
 obtain⟨f,a,h⟩:=bnd h
 refine Goes.cut (s':=(ofG 13 [(2,.bool f)],[.cells (nz1 n)])) ?_ ?_
 ·obtain⟨j,b,a⟩:=bnd a
  rcases wyD a with⟨e,a⟩|⟨e,a⟩
  ·obtain⟨g,c,a⟩:=bnd a
   obtain⟨i,d,a⟩:=bnd a
   obtain rfl:=si a
   exact tr fol [1,3,5,6] [(2,.bool (decide ((i.length:Int)>600)))] (ac (cv (qb0 n b)) (ac (gw e) (ac (cv (yJ N n c)) (ac (cv (qb4 g [45] d)) az))))
  obtain rfl:=si a
  exact tr fol [1,3] [(2,.bool false)] (ac (cv (qb0 n b)) (ac (gw e) az))
 refine Goes.ret ?_
 obtain rfl:=si h
 exact(gw2 [.bool f] (Ua tB))
def yS (N:Nat) (a:qQ):Option Bool:=
 ((qby N a.Num).bind fun b=>
 if b=true then
 some true
 else
 (qby N a.Den).bind fun c=>
 some c:Option Bool).bind fun d=>
 some d
theorem qdI (N:Nat) (a:qQ) {res:Bool} (h:yS N a=some res):qc ZT (.fn 135) [.agg (nq1 a)] [] (.bool res) []:=by
 unfold yS at h
 refine Ub Tryz.func135 rfl rfl (m:=11) rfl (rs:=[.tmp 2]) rfl (l:=[(0,.agg (nq1 a))]) rfl ?_
 refine sg fol kAu [.cells (nq1 a)] ?_
 refine sq ?_
 obtain⟨f,b,h⟩:=bnd h
 refine Goes.cut (s':=(ofG 11 [(2,.bool f)],[.cells (nq1 a)])) ?_ ?_
 ·obtain⟨i,c,b⟩:=bnd b
  rcases wyB b with⟨e,b⟩|⟨e,b⟩
  ·obtain rfl:=si b
   exact tr fol [2,3] [(2,.bool true)] (ac (cv (qcA N a.Num c)) (ac (gw e) az))
  obtain⟨g,d,b⟩:=bnd b
  obtain rfl:=si b
  exact tr fol [2,3,6] [(2,.bool g)] (ac (cv (qcA N a.Num c)) (ac (gw e) (ac (cv (qcA N a.Den d)) az)))
 refine Goes.ret ?_
 obtain rfl:=si h
 exact(gw2 [.bool f] (Ua tB))
def vV (a:qQ):Option Bool:=
 (if a.Den.w.isEmpty=true then
 some (decide (a.Den.s=1))
 else
 some false:Option Bool).bind fun b=>
 some b
theorem qcW (a:qQ) {res:Bool} (h:vV a=some res):qc ZT (.fn 153) [.agg (nq1 a)] [] (.bool res) []:=by
 unfold vV at h
 refine Ub Tryz.func153 rfl rfl (m:=13) rfl (rs:=[.tmp 2]) rfl (l:=[(0,.agg (nq1 a))]) rfl ?_
 refine sg fol kAu [.cells (nq1 a)] ?_
 refine sq ?_
 obtain⟨d,b,h⟩:=bnd h
 refine Goes.cut (s':=(ofG 13 [(2,.bool d)],[.cells (nq1 a)])) ?_ ?_
 ·rcases wyB b with⟨c,b⟩|⟨c,b⟩
  ·obtain rfl:=si b
   exact tr fol [3,4] [(2,.bool (decide (a.Den.s=1)))] (ac (hs (.done (.opt (zb ZT .eql 126 (.tmp 5) (.const (.slice none 0 0)) (nvl (qa .u64) a.Den.w) .nilslice)) (.bool a.Den.w.isEmpty)) (qac yl)) (ac (gw c) az))
  obtain rfl:=si b
  exact tr fol [3,4] [(2,.bool false)] (ac (hs (.done (.opt (zb ZT .eql 126 (.tmp 5) (.const (.slice none 0 0)) (nvl (qa .u64) a.Den.w) .nilslice)) (.bool a.Den.w.isEmpty)) (qac yl)) (ac (gw c) az))
 refine Goes.ret ?_
 obtain rfl:=si h
 exact(gw2 [.bool d] (Ua tB))
def xe (N:Nat) (a:qQ):Option Str:=
 (vV a).bind fun b=>
 if b=true then
 (jC N a.Num).bind fun c=>
 some c
 else
 (jC N a.Num).bind fun d=>
 (cat d [47]).bind fun e=>
 (jC N a.Den).bind fun f=>
 (cat e f).bind fun g=>
 some g
theorem qd8 (N:Nat) (a:qQ) {res:Str} (h:xe N a=some res):qc ZT (.fn 136) [.agg (nq1 a)] [] (.str res) []:=by
 unfold xe at h
 refine Ub Tryz.func136 rfl rfl (m:=16) rfl (rs:=[.tmp 2]) rfl (l:=[(0,.agg (nq1 a))]) rfl ?_
 refine sg fol kAu [.cells (nq1 a)] ?_
 refine sq ?_
 obtain⟨n,b,h⟩:=bnd h
 refine sq (gr fol [1] [(1,.ptr 0 0),(4,.bool n)] (ac (cv (qcW a b)) az) ?_)
 refine ihB h (fun o h=>?_) (fun o h=>?_)
 ·obtain⟨j,c,h⟩:=bnd h
  refine sq (gr fol [2] [(2,.str j)] (ac (cv (yJ N a.Num c)) az) ?_)
  refine Goes.ret ?_
  obtain rfl:=si h
  exact(gw2 [.str j] (Ua tS))
 refine Goes.skip ?_
 obtain⟨p,d,h⟩:=bnd h
 obtain⟨k,e,h⟩:=bnd h
 obtain⟨q,f,h⟩:=bnd h
 obtain⟨i,g,h⟩:=bnd h
 refine sq (gr fol [2,3,6,7] [(2,.str i)] (ac (cv (yJ N a.Num d)) (ac (hs (.done (.opt (zb ZT .add 9 (.tmp 10) (.const (.string ⟨#[47]⟩)) (.str p) (.str [47]))) (.str k)) (qgU e)) (ac (cv (yJ N a.Den f)) (ac (hs (.done (.opt (zb ZT .add 9 (.tmp 11) (.tmp 14) (.str k) (.str q))) (.str i)) (qgU g)) az)))) ?_)
 refine Goes.ret ?_
 obtain rfl:=si h
 exact(gw2 [.str i] (Ua tS))
def yB (N:Nat) (a:qQ):Option (Str×Int):=
 (yS N a).bind fun b=>
 if b=true then
 some ([],4)
 else
 (xe N a).bind fun c=>
 some (c,0)
theorem qee (N:Nat) (a:qQ) {res:Str×Int} (h:yB N a=some res):qc ZT (.fn 69) [.agg (nq1 a)] [] (.tuple [.str res.1,.i res.2]) []:=by
 unfold yB at h
 refine Ub Tryz.func69 rfl rfl (m:=8) rfl (rs:=[.tmp 2,.tmp 3]) rfl (l:=[(0,.agg (nq1 a))]) rfl ?_
 refine sg fol kAu [.cells (nq1 a)] ?_
 refine sq ?_
 obtain⟨e,b,h⟩:=bnd h
 refine sq (gr fol [1] [(1,.ptr 0 0),(5,.bool e)] (ac (cv (qdI N a b)) az) ?_)
 refine ihB h (fun f h=>?_) (fun f h=>?_)
 ·refine sh fol [(2,.str []),(3,.i 4)] ?_
  refine Goes.ret ?_
  obtain rfl:=si h
  exact(gw2 [.str [],.i 4] (FzW.tuple (qg.cons (Ua tS) (qg.cons (Ua tI) qg.nil))))
 refine Goes.skip ?_
 obtain⟨d,c,h⟩:=bnd h
 refine sq (gr fol [1] [(2,.str d),(3,.i 0)] (ac (cv (qd8 N a c)) az) ?_)
 refine Goes.ret ?_
 obtain rfl:=si h
 exact(gw2 [.str d,.i 0] (FzW.tuple (qg.cons (Ua tS) (qg.cons (Ua tI) qg.nil))))
def xm (a:List Int) (b:Int):Option Unit:=
 some ()
theorem qdm (a:List Int) (b:Int) (h:xm a b=some ()):qc ZT (.fn 133) [vl encI a,.i b] [] (.func (.func 190) [] [.ptr 0 0,.ptr 1 0]) (kV b a []):=by
 unfold xm at h
 refine Goes.fnH Tryz.func133 rfl rfl (m:=6) rfl (rs:=[.tmp 4]) rfl (l:=(kS a [(1,.i b)])) rfl ?_
 intro B hB
 refine sg fol (kAW [(3,.ptr 1 0)]) (.cells [vl encI a]::(kA2 b)) ?_
 refine sh fol [(4,.func (.func 190) [] [.ptr 1 0,.ptr 0 0])] ?_
 refine Goes.ret ?_
 exact(gh2 [.func (.func 190) [] [.ptr 1 0,.ptr 0 0]] (Sub.norm [] [some 1,some 0] (by rw[hB];rfl) rfl (.keep (.funcL (sn) (rc (.ptr rfl) (rc (.ptr rfl) rn))) .nil) (.kb rfl (.same sn) (.kb rfl (.same sn) .nil))))
def vN (b:List Bool) (c:Option (List Int)) (a:Int):Option ((List Bool)×(List Int)):=
 (idx b a).bind fun h=>
 (put b a true).bind fun d=>
 ((match c with
 |none=>
 some ([a]:List Int)
 |some e=>
 (app 8 e [a]).bind fun f=>
 some f):Option (List Int)).bind fun g=>
 some (d,g)
theorem qcV (d:List Bool) (e:Option (List Int)) (a:Int) {q:List Bool} {p:List Int} (h:vN d e a=some (q,p)):qc ZT (.rd 0) [.i a] (.loop .ready none (ofG 37 [(4,.ptr 1 0),(6,.ptr 3 0)]) qp.xp qp.x1 qp.x2::(kD d (kAK e))) (.bool true) (.loop .ready none (ofG 37 [(4,.ptr 1 0),(6,.ptr 3 0)]) qp.xp qp.x1 qp.x2::(kD q (.cells [.oslice 5 p.length 1]:: .dead::(kB p [])))):=by
 unfold vN at h
 refine Goes.round (m:=37) (l0:=[(4,.ptr 1 0),(6,.ptr 3 0)]) (l:=[(4,.ptr 1 0),(6,.ptr 3 0),(23,.i a)]) rfl rfl rfl ?_
 intro B hB
 refine Goes.subQ ?_
 refine gh fol ((4,.ptr 1 0)::(kAj a)) ?_
 refine⟨_,Sub.refl _,?_⟩
 refine⟨_,_,_,_,_,rfl,?_⟩
 refine Goes.subQ ?_
 refine Goes.block ?_
 obtain⟨s,g,h⟩:=bnd h
 obtain⟨f,j,h⟩:=bnd h
 refine sq (gq fol [2,3] (kAj a) (.loop .busy none (ofG 37 [(4,.ptr 1 0),(6,.ptr 3 0)]) qp.xp qp.x1 qp.x2::(kAI d f (kAK e))) (ac (hs (.done (.opt (qb ZT 194 (.slice 2 0 d.length d.length 1) (.i a))) (.ptr 2 ((a:Int).toNat*1+0))) (vZ qmD g)) (ac (hs (.run [2] (qx ZT 4 (.ptr 2 ((a:Int).toNat*1+0)) (.bool true)) (.loop .busy none (ofG 37 [(4,.ptr 1 0),(6,.ptr 3 0)]) qp.xp qp.x1 qp.x2::(kD d (kAK e))) .undef (.loop .busy none (ofG 37 [(4,.ptr 1 0),(6,.ptr 3 0)]) qp.xp qp.x1 qp.x2::(kAI d f (kAK e))) true) (yc (E:=qfw) (l:=d) (y:=true) rfl (show _=some 1 by kernel_rfl) rfl g rfl rfl rfl rfl rfl j rfl)) az)) ?_)
 refine Goes.sub (show Sub (ofG 37 (kAj a),(.loop .busy none (ofG 37 [(4,.ptr 1 0),(6,.ptr 3 0)]) qp.xp qp.x1 qp.x2::(kAI d f (kAK e)))) (ofG 37 (kAj a),(.loop .busy none (ofG 37 [(4,.ptr 1 0),(6,.ptr 3 0)]) qp.xp qp.x1 qp.x2::(kD f (kAK e))))from(Sub.norm [] [some 0,some 1,some 2,some 3,some 4] (by rw[hB];rfl) rfl (.kp (.keep (.same nI) .nil)) (.kb rfl (.loop rfl (.kp (.kp .nil))) (.kb rfl (.cells (rc (.sliceE rfl (jg j)) rn)) (.ks (.kb rfl (.cells (rc (.hs rfl) rn)) (.ks .nil))))))) ?_
 obtain⟨r,b,h⟩:=bnd h
 refine Goes.cutS (s':=(ofG 37 [],(.loop .busy none (ofG 37 [(4,.ptr 1 0),(6,.ptr 3 0)]) qp.xp qp.x1 qp.x2::(kD f (.cells [.oslice 5 r.length 1]:: .dead::(kB r [])))))) ?_ ?_
 ·rcases e with _|k
  ·try dsimp only at b
   obtain rfl:=si b
   exact zo.sub (zo.rg fol [] (.loop .busy none (ofG 37 [(4,.ptr 1 0),(6,.ptr 3 0)]) qp.xp qp.x1 qp.x2::(kD f (.cells [.oslice 6 1 1]:: .cells ((hof (none:Option (List Int))).flatMap encI.c):: .cells [.i a]::(kA2 a))))) (Sub.norm [] [some 0,some 1,some 2,some 3,some 4,some 6] (by rw[hB];rfl) rfl .nil (.kb rfl (.loop rfl (.kp (.kp .nil))) (.kb rfl (.cells (rc (.slice rfl) rn)) (.ks (.kb rfl (.cells (rc ((zq.osliceE rfl rfl)) rn)) (.lost (.ks .nil)))))))
  try dsimp only at b
  obtain⟨o,n,b⟩:=bnd b
  obtain rfl:=si b
  exact zo.sub (zo.rq fol [3] [] (.loop .busy none (ofG 37 [(4,.ptr 1 0),(6,.ptr 3 0)]) qp.xp qp.x1 qp.x2::(kD f (.cells [.oslice 6 o.length 1]::(kAf a (kB o []))))) (ac (hs (.run [4,5] (vI ZT [40,40] (.oslice 4 k.length 1) (.slice 5 0 1 1 1)) (.loop .busy none (ofG 37 [(4,.ptr 1 0),(6,.ptr 3 0)]) qp.xp qp.x1 qp.x2::(kD f (.cells [.oslice 4 k.length 1]::(kB k (kA2 a))))) (.oslice 6 o.length 1) (.loop .busy none (ofG 37 [(4,.ptr 1 0),(6,.ptr 3 0)]) qp.xp qp.x1 qp.x2::(kD f (.cells [.oslice 4 k.length 1]::(kAf a (kB o []))))) true) (qal zy (E:=encI) rfl (qdC (E:=encI) (ys:=[a]) rfl rfl rfl rfl) (qnt (E:=encI) (l:=k) rfl rfl rfl n rfl))) az)) (Sub.norm [] [some 0,some 1,some 2,some 3,some 4,some 6] (by rw[hB];rfl) rfl .nil (.kb rfl (.loop rfl (.kp (.kp .nil))) (.kb rfl (.cells (rc (.slice rfl) rn)) (.ks (.kb rfl (.cells (rc (.oslice rfl) rn)) (.lost (.ks .nil)))))))
 intro _ hsub
 simp only[ZI,ZP]at h
 obtain⟨rfl,rfl⟩:=h
 exact⟨_,hsub,⟨_,_,rfl,(Sub.keep [0] rfl rfl)⟩⟩
def zf (a:Int) (b:List Int):Nat->(List Bool)->(Option (List Int))->Int->Option ((List Bool)×(List Int))
 |0,_,_,_=>none
 |K+1,g,h,e=>
  (vN g h e).bind fun(f,c)=>
  (idx b e).bind fun d=>
  if d=a then
  some (f,c)
  else
  zf a b K f (some c) d
def jX (N:Nat) (b:List Bool) (a:Int) (c:List Int):Option ((List Bool)×(List Int)):=
 (zf a c N b (none:Option (List Int)) a).bind fun d=>
 some d
theorem qb6 (N:Nat) (j:List Bool) (a:Int) (d:List Int) {v:List Bool} {r:List Int} (h:jX N j a d=some (v,r)):qc ZT (.fn 190) [.yld 0,.ptr 4 0,.ptr 5 0] (.loop .ready none (ofG 37 [(4,.ptr 1 0),(6,.ptr 3 0)]) qp.xp qp.x1 qp.x2::(kD j (kAi (kV a d [])))) (.tuple []) (.loop .ready none (ofG 37 [(4,.ptr 1 0),(6,.ptr 3 0)]) qp.xp qp.x1 qp.x2::(kD v (.cells [.oslice 6 r.length 1]::(kV a d (kB r []))))):=by
 unfold jX at h
 refine Goes.fnH Tryz.func190 rfl rfl (m:=16) rfl (rs:=[]) rfl (l:=[(0,.yld 0),(1,.ptr 4 0),(2,.ptr 5 0)]) rfl ?_
 intro B hB
 refine Goes.subQ ?_
 refine sh fol ((0,.yld 0)::(kAT a [])) ?_
 refine Goes.block ?_
 obtain⟨w,g6,h⟩:=bnd h
 refine Goes.imp (Q:=fun x s'=>(x= .ret/\ ∃q,q=w/\qcc ZT [] (.tuple []) (.loop .ready none (ofG 37 [(4,.ptr 1 0),(6,.ptr 3 0)]) qp.xp qp.x1 qp.x2::(kD q.1 (.cells [.oslice 6 q.2.length 1]::(kV a d (kB q.2 []))))) .ret s')) ?_ ?_
 ·refine Goes.sub (s':=(ofG 16 ((0,.yld 0)::(kAT a [])),(.loop .ready none (ofG 37 [(4,.ptr 1 0),(6,.ptr 3 0)]) qp.xp qp.x1 qp.x2::(kD j (.cells [hsl 6 1 (none:Option (List Int))]::(kV a d [.cells ((hof (none:Option (List Int))).flatMap encI.c)])))))) (Sub.norm [] [some 0,some 1,some 2,some 3,some 4,some 5,none] (by rw[hB];rfl) rfl (.keep (.yld rfl) (.kp (.kp (.keep (.same nI) .nil)))) (.kb rfl (.loop rfl (.kp (.kp .nil))) (.kb rfl (.cells (rc (.slice rfl) rn)) (.ks (.kb rfl (.cells (rc .hs0 rn)) (.kb rfl (.same sn) (.kb rfl (.same sn) (.fresh .nil)))))))) ?_
  refine Uc (fun M s=> ∃(o:List Bool) (k:Option (List Int)) (n:Int),s=(ofG 16 ((0,.yld 0)::(kAT n [])),(.loop .ready none (ofG 37 [(4,.ptr 1 0),(6,.ptr 3 0)]) qp.xp qp.x1 qp.x2::(kD o (.cells [hsl 6 1 k]::(kV a d [.cells ((hof k).flatMap encI.c)])))))/\zf a d M o k n=some w) ?_ (m:=N) ⟨_,_,_,rfl,g6⟩
  rintro M s ⟨o,k,n,rfl,g6⟩
  cases M with
  |zero=>simp only[zf]at g6;cases g6
  |succ M=>
   rw[zf]at g6
   refine sq ?_
   obtain⟨⟨t,e⟩,p,g6⟩:=bnd g6
   try dsimp only at g6
   refine sq (gq fol [2] ((0,.yld 0)::(kAT n [(8,.bool true)])) (.loop .ready none (ofG 37 [(4,.ptr 1 0),(6,.ptr 3 0)]) qp.xp qp.x1 qp.x2::(kD t (kAv e (kV a d (.dead::(kB e [])))))) (ac (hs (.callH (.rd 0) [.i n] (.loop .ready none (ofG 37 [(4,.ptr 1 0),(6,.ptr 3 0)]) qp.xp qp.x1 qp.x2::(kD o (.cells [hsl 6 1 k]::(kV a d [.cells ((hof k).flatMap encI.c)])))) [0,1,2,3,6] (.bool true) (.loop .ready none (ofG 37 [(4,.ptr 1 0),(6,.ptr 3 0)]) qp.xp qp.x1 qp.x2::(kD t (kAv e (kV a d (.dead::(kB e []))))))) (qnW [some 0,some 1,some 2,some 3,some 6] [some 0,some 1,some 2,some 3,none,none,none,some 5] (qcV o k n p) rfl (.kb rfl (.loop rfl (.kp (.kp .nil))) (.kb rfl (.cells (rc (.slice rfl) rn)) (.ks (.kb rfl (.cells (rc (.hs rfl) rn)) (.ks .nil))))) rfl rfl (.back rfl rfl (.loop rfl (.kp (.kp .nil))) rfl (.back rfl rfl (.cells (rc (.slice rfl) rn)) rfl (.back rfl rfl (.same fa) rfl (.back rfl rfl (.cells (rc (.oslice rfl) rn)) rfl (.old rfl rfl (.old rfl rfl (.dead (.new rfl rfl (.same fa) rfl .nil)))))))) (rc (.same nI) rn) (.same nB) rfl)) az) ?_)
   refine Goes.ifB (b:=true) (by kernel_rfl) (fun _=>?_) (fun c=>(by cases c))
   refine Goes.skip ?_
   refine Goes.block ?_
   obtain⟨g,f,g6⟩:=bnd g6
   refine sq (gr fol [2,3] ((0,.yld 0)::(kAT g [])) (ac (iv zy encI f) (ac (lv 0 ce3 encI f rfl) az)) ?_)
   refine sh fol ((0,.yld 0)::(kAT g [(15,.bool (decide (g=a)))])) ?_
   refine ihD g6 (fun u g6=>?_) (fun u g6=>?_)
   ·refine Goes.ret ?_
    obtain rfl:=si g6
    exact⟨rfl,_,rfl,(gh2 [] (Sub.norm [] [some 0,some 1,some 2,some 3,some 4,some 5,some 7] (by rw[hB];rfl) rfl (.keep (.same (qB.tuple sn)) .nil) (.kb rfl (.loop rfl (.kp (.kp .nil))) (.kb rfl (.cells (rc (.slice rfl) rn)) (.ks (.kb rfl (.cells (rc (.oslice rfl) rn)) (.kb rfl (.same sn) (.kb rfl (.same sn) (.ks .nil)))))))))⟩
   refine Goes.skip ?_
   exact⟨M,(ofG 16 ((0,.yld 0)::(kAT g [])),(.loop .ready none (ofG 37 [(4,.ptr 1 0),(6,.ptr 3 0)]) qp.xp qp.x1 qp.x2::(kD t (.cells [hsl 6 1 (some e)]::(kV a d [.cells ((hof (some e)).flatMap encI.c)]))))),Nat.lt_succ_self _,(Sub.norm [] [some 0,some 1,some 2,some 3,some 4,some 5,some 7] (by rw[hB];rfl) rfl (.keep (.yld rfl) (.kp (.kp (.keep (.same nI) .nil)))) (.kb rfl (.loop rfl (.kp (.kp .nil))) (.kb rfl (.cells (rc (.slice rfl) rn)) (.ks (.kb rfl (.cells (rc ((zq.hs1 rfl)) rn)) (.kb rfl (.same sn) (.kb rfl (.same sn) (.ks .nil)))))))),_,_,_,rfl,g6⟩
 rintro x s' ⟨rfl,y,rfl,hret⟩
 obtain rfl:=si h
 exact⟨_,Sub.refl _,hret⟩
def zB (N:Nat) (a:List Int):Nat->(List (List Int))->(List Bool)->Int->Option (List (List Int))
 |0,_,_,_=>none
 |K+1,c,d,b=>
  if b<(a.length:Int)then
  (((idx d b).bind fun e=>
  if e=true then
  some (c,d)
  else
  (xm a b).bind fun _=>
  (jX N d b a).bind fun(f,g)=>
  (app 24 c [g]).bind fun h=>
  some (h,f):Option ((List (List Int))×(List Bool)))).bind fun(j,i)=>
  zB N a K j i (w64 (b+1))
  else
  some c
def kr (N:Nat) (a:List Int):Option (List (List Int)):=
 (mk 1 (a.length:Int) false).bind fun b=>
 (zB N a N ([]:List (List Int)) b 0).bind fun c=>
 some c
theorem xc (N:Nat) (a:List Int) {A:List (List Int)} (h:kr N a=some A):qc ZT (.fn 65) [vl encI a] [] (.gslice 0 A.length 1) [.cells (A.flatMap (qf encI).c)]:=by
 unfold kr at h
 refine Goes.fnHr Tryz.func65 rfl rfl (m:=37) rfl (rs:=[.tmp 2]) rfl (l:=(kS a [])) rfl ?_
 intro B hB hR
 refine sh fol (kS a []) ?_
 refine sh fol (kS a [(3,.nilslice)]) ?_
 obtain⟨o,w,h⟩:=bnd h
 refine sq (gq fol [2] (kS a [(3,.nilslice),(4,.ptr 1 0)]) [.cells (o.flatMap qfw.c),.cells [.slice 0 0 o.length o.length 1]] (ac (hs (.run [] (zt ZT 194 (.i (a.length:Int)) (.i (a.length:Int))) [] (.slice 0 0 o.length o.length 1) [.cells (o.flatMap qfw.c)] false) (qaA qmD (E:=qfw) (z:=false) rfl (by kernel_rfl) w rfl)) az) ?_)
 refine sq ?_
 refine sh fol (kS a [(3,.nilslice),(4,.ptr 1 0),(12,.i (a.length:Int)),(13,.i 0)]) ?_
 refine Goes.block ?_
 obtain⟨F,g7,h⟩:=bnd h
 refine Goes.imp (Q:=fun x s'=>(x= .exit 0/\ ∃u,u=F/\Sub s' (ofG 37 [(3,.gslice 0 u.length 1)],[.cells (u.flatMap (qf encI).c)]))) ?_ ?_
 ·refine Goes.sub (s':=(ofG 37 (kS a [(3,.gslice 0 ([]:List (List Int)).length 1),(4,.ptr 1 0),(12,.i (a.length:Int)),(13,.i 0)]),(.cells (([]:List (List Int)).flatMap (qf encI).c)::(kD o [])))) (Sub.norm [] [none,some 1,some 0] (by rw[hB];rfl) rfl (.keep (.same (qd encI _)) (.keep .nil (.kp (.keep (.same nI) (.keep (.same nI) .nil))))) (.fresh (.kb rfl (.cells (rc (.slice rfl) rn)) (.ks .nil)))) ?_
  refine Uc (fun M s=> ∃(e:List (List Int)) (g:List Bool) (b:Int),s=(ofG 37 (kS a (kX e (kAn (a.length:Int) b []))),(.cells (e.flatMap (qf encI).c)::(kD g [])))/\zB N a M e g b=some F) ?_ (m:=N) ⟨_,_,_,rfl,g7⟩
  rintro M s ⟨e,g,b,rfl,g7⟩
  cases M with
  |zero=>simp only[zB]at g7;cases g7
  |succ M=>
   rw[zB]at g7
   refine sh fol (kS a (kX e (kAn (a.length:Int) b [(14,.bool (decide (b<(a.length:Int))))]))) ?_
   refine sq ?_
   refine ihD g7 (fun G g7=>?_) (fun G g7=>?_)
   ·refine Goes.skip ?_
    refine sq ?_
    obtain⟨C,g11,g7⟩:=bnd g7
    refine Goes.imp (Q:=fun x s'=>(x= .normal/\ ∃p k,(p,k)=C/\Sub s' (ofG 37 (kS a (kX p (kAn (a.length:Int) b []))),(.cells (p.flatMap (qf encI).c)::(kD k []))))) ?_ ?_
    ·refine Goes.block ?_
     refine sh fol (kS a (kX e ((5,.i b)::(kAn (a.length:Int) b [])))) ?_
     refine sq ?_
     obtain⟨y,j,g11⟩:=bnd g11
     refine sq (gr fol [2,3] (kS a (kX e ((5,.i b)::(kAn (a.length:Int) b [(19,.bool y)])))) (ac (hs (.done (.opt (qb ZT 194 (.slice 2 0 g.length g.length 1) (.i b))) (.ptr 2 ((b:Int).toNat*1+0))) (vZ qmD j)) (ac (hs (.run [2] (zJ ZT 4 (.ptr 2 ((b:Int).toNat*1+0))) (.cells (e.flatMap (qf encI).c)::(kD g [])) (.bool y) (.cells (e.flatMap (qf encI).c)::(kD g [])) false) (qaC ce4 (E:=qfw) (l:=g) rfl rfl j (nl rfl) rfl)) az)) ?_)
     refine ihB g11 (fun D g11=>?_) (fun D g11=>?_)
     ·refine Goes.exit ?_
      obtain rfl:=si g11
      exact⟨rfl,_,_,rfl,(Sub.keep [0,3,4,12,13] rfl rfl)⟩
     refine Goes.skip ?_
     refine sg fol (kS a (kX e ((5,.i b)::(6,.ptr 3 0)::(kAn (a.length:Int) b [])))) (.cells (e.flatMap (qf encI).c)::(kD g (kAi []))) ?_
     refine sq ?_
     obtain⟨_,q,g11⟩:=bnd g11
     refine sq (gq fol [2] (kS a (kX e ((6,.ptr 3 0)::(kAn (a.length:Int) b [(22,.func (.func 190) [] [.ptr 4 0,.ptr 5 0])])))) (.cells (e.flatMap (qf encI).c)::(kD g (kAi (kV b a [])))) (ac (hs (.callH 133 [vl encI a,.i b] (.cells (e.flatMap (qf encI).c)::(kD g (kAi []))) [] (.func (.func 190) [] [.ptr 4 0,.ptr 5 0]) (.cells (e.flatMap (qf encI).c)::(kD g (kAi (kV b a []))))) (qaS [] [none,none,none,none,some 0,some 1] (qdm a b q) .nil rfl rfl (.old rfl rfl (.old rfl rfl (.old rfl rfl (.old rfl rfl (.new rfl rfl (.cells (rc (.same nI) rn)) rfl (.new rfl rfl (.cells (rc (.same (qd encI _)) rn)) rfl .nil)))))) (rc (.same (qd encI _)) (rc (.same nI) rn)) (.funcL (sn) (rc (.ptr rfl) (rc (.ptr rfl) rn))) rfl)) az) ?_)
     refine Goes.block ?_
     obtain⟨⟨f,d⟩,r,g11⟩:=bnd g11
     try dsimp only at g11
     refine Goes.range fol hR (gf:=190) (first:=[]) (captured:=[.ptr 4 0,.ptr 5 0]) (v:= .tuple []) (A2:=(.cells (e.flatMap (qf encI).c)::(kD f (kAv d (kV b a (.loop .ready none (ofG 37 [(4,.ptr 1 0),(6,.ptr 3 0)]) qp.xp qp.x1 qp.x2::(kB d []))))))) (s':=(ofG 37 (kS a (kX e ((6,.ptr 3 0)::(kAn (a.length:Int) b [(22,.func (.func 190) [] [.ptr 4 0,.ptr 5 0])])))),(.cells (e.flatMap (qf encI).c)::(kD f (kAv d (kV b a (.loop .exhausted none (ofG 37 [(4,.ptr 1 0),(6,.ptr 3 0)]) qp.xp qp.x1 qp.x2::(kB d [])))))))) (x:= .normal) (by kernel_rfl) (by kernel_rfl) (qmr (show(Obl.callH 190 [.yld 6,.ptr 4 0,.ptr 5 0] (.cells (e.flatMap (qf encI).c)::(kD g (kAi (kV b a [.loop .ready none (ofG 37 [(0,vl encI a),(3,.gslice 0 e.length 1),(4,.ptr 1 0),(6,.ptr 3 0),(12,.i (a.length:Int)),(13,.i b),(22,.func (.func 190) [] [.ptr 4 0,.ptr 5 0])]) qp.xp qp.x1 qp.x2])))) [6,1,2,3,4,5] (.tuple []) (.cells (e.flatMap (qf encI).c)::(kD f (kAv d (kV b a (.loop .ready none (ofG 37 [(4,.ptr 1 0),(6,.ptr 3 0)]) qp.xp qp.x1 qp.x2::(kB d []))))))).Holds ZT from qaS [some 6,some 1,some 2,some 3,some 4,some 5] [none,some 1,some 2,some 3,some 4,some 5,some 0,some 6] (qb6 N g b a r) (.kb rfl (.loop rfl (.drop (.drop (.kp (.kp (.drop (.drop (.drop .nil)))))))) (.kb rfl (.cells (rc (.slice rfl) rn)) (.ks (.kb rfl (.cells (rc (.same (qB.nilslice)) rn)) (.kb rfl (.cells (rc (.same nI) rn)) (.kb rfl (.cells (rc (.same (qd encI _)) rn)) .nil)))))) rfl rfl (.old rfl rfl (.back rfl rfl (.cells (rc (.slice rfl) rn)) rfl (.back rfl rfl (.same fa) rfl (.back rfl rfl (.cells (rc (.oslice rfl) rn)) rfl (.back rfl rfl (.cells (rc (.same nI) rn)) rfl (.back rfl rfl (.cells (rc (.same (qd encI _)) rn)) rfl (.back rfl rfl (.loop rfl (.kp (.kp .nil))) rfl (.new rfl rfl (.same fa) rfl .nil)))))))) (rc (.yld rfl) (rc (.ptr rfl) (rc (.ptr rfl) rn))) (.same (qB.tuple sn)) rfl)) (by kernel_rfl) ?_
     refine Goes.sub (show Sub (ofG 37 (kS a (kX e ((6,.ptr 3 0)::(kAn (a.length:Int) b [(22,.func (.func 190) [] [.ptr 4 0,.ptr 5 0])])))),(.cells (e.flatMap (qf encI).c)::(kD f (kAv d (kV b a (.loop .exhausted none (ofG 37 [(4,.ptr 1 0),(6,.ptr 3 0)]) qp.xp qp.x1 qp.x2::(kB d []))))))) (ofG 37 (kS a (kX e ((6,.ptr 3 0)::(kAn (a.length:Int) b [(22,.func (.func 190) [] [.ptr 5 0,.ptr 6 0])])))),(.cells (e.flatMap (qf encI).c)::(kD f (.cells [.oslice 4 d.length 1]::(kB d (kV b a []))))))from(Sub.norm [] [some 0,some 1,some 2,some 3,some 7,some 4,some 5] (by rw[hB];rfl) rfl (.keep (.same (qd encI _)) (.keep (.gslice rfl) (.kp (.kp (.keep (.same nI) (.keep (.same nI) (.keep (.funcL (sn) (rc (.ptr rfl) (rc (.ptr rfl) rn))) .nil))))))) (.ks (.kb rfl (.cells (rc (.slice rfl) rn)) (.ks (.kb rfl (.cells (rc (.oslice rfl) rn)) (.ks (.kb rfl (.same sn) (.kb rfl (.same sn) .nil))))))))) ?_
     refine Goes.sub (s':=(ofG 37 (kS a (kX e ((6,.ptr 3 0)::(kAn (a.length:Int) b [(22,.func (.func 190) [] [.ptr 4 0,.ptr 5 0])])))),(.cells (e.flatMap (qf encI).c)::(kD f (.cells [vl encI d]::(kV b a [])))))) (Sub.norm [4] [some 0,some 1,some 2,some 3,some 5,some 6] (by rw[hB];rfl) rfl (.keep (.same (qd encI _)) (.keep (.gslice rfl) (.kp (.kp (.keep (.same nI) (.keep (.same nI) (.keep (.funcL (sn) (rc (.ptr rfl) (rc (.ptr rfl) rn))) .nil))))))) (.ks (.kb rfl (.cells (rc (.slice rfl) rn)) (.ks (.kb rfl (.cells (rc (.frz (Fz.os (E:=encI) rfl rfl (nl rfl)) (qd encI _)) rn)) (.kb rfl (.same sn) (.kb rfl (.same sn) .nil))))))) ?_
     obtain⟨n,t,g11⟩:=bnd g11
     refine gq fol [3] (kS a ((3,.gslice 7 n.length 1)::(4,.ptr 1 0)::(kAn (a.length:Int) b []))) (.dead::(kD f (.cells [vl encI d]::(kV b a [.cells [vl encI d],.cells (n.flatMap (qf encI).c)])))) (ac (hs (.run [0,6] (vI ZT [61,61] (.gslice 0 e.length 1) (.slice 6 0 1 1 1)) (.cells (e.flatMap (qf encI).c)::(kD f (.cells [vl encI d]::(kV b a [.cells [vl encI d]])))) (.gslice 7 n.length 1) (.dead::(kD f (.cells [vl encI d]::(kV b a [.cells [vl encI d],.cells (n.flatMap (qf encI).c)])))) true) (qal vW (E:=(qf encI)) rfl (qdC (E:=(qf encI)) (ys:=[d]) rfl rfl rfl rfl) (qfk (E:=(qf encI)) (l:=e) rfl rfl rfl t rfl))) az) ?_
     obtain rfl:=si g11
     exact⟨rfl,_,_,rfl,(Sub.norm [] [some 7,some 1,some 2] (by rw[hB];rfl) rfl (.keep (.same (qd encI _)) (.keep (.gslice rfl) (.kp (.keep (.same nI) (.keep (.same nI) .nil))))) (.ks (.kb rfl (.cells (rc (.slice rfl) rn)) (.ks .nil))))⟩
    rintro x s' ⟨rfl,p,k,rfl,hsub⟩
    try dsimp only at g7
    refine Goes.sub hsub ?_
    refine gh fol (kS a (kX p (kAn (a.length:Int) (w64 (b+1)) []))) ?_
    exact⟨M,(ofG 37 (kS a (kX p (kAn (a.length:Int) (w64 (b+1)) []))),(.cells (p.flatMap (qf encI).c)::(kD k []))),Nat.lt_succ_self _,(Sub.refl _),_,_,_,rfl,g7⟩
   refine Goes.exit ?_
   obtain rfl:=si g7
   exact⟨rfl,_,rfl,(Sub.norm [] [some 0] (by rw[hB];rfl) rfl (.drop (.keep (.gslice rfl) .nil)) (.ks .nil))⟩
 rintro x s' ⟨rfl,u,rfl,hsub⟩
 refine Goes.sub hsub ?_
 refine sh fol [(2,.gslice 0 u.length 1)] ?_
 refine Goes.ret ?_
 obtain rfl:=si h
 exact(gh2 [.gslice 0 u.length 1] (qcU.refl _ _))
def jl (N:Nat) (d:List (List Int)):Nat->Int->(List Int)->Int->(List Int)->Int->Option (Int×(List Int)×Int×(List Int))
 |0,_,_,_,_,_=>none
 |K+1,h,i,j,k,b=>
  if b<(d.length:Int)then
  (idx d b).bind fun e=>
  (qgc (e.length:Int)).bind fun c=>
  (xQ N (⟨(⟨h,i⟩:qw),(⟨j,k⟩:qw)⟩:qQ) c).bind fun f=>
  (qaR f.Num).bind fun g=>
  (y8 N g c).bind fun a=>
  jl N d K a.Num.s a.Num.w a.Den.s a.Den.w (w64 (b+1))
  else
  some (h,i,j,k)
def yE (N:Nat) (p:List Int):Option (Str×Int):=
 (qO N p).bind fun g=>
 if(!decide (g=0))=true then
 some ([],g)
 else
 (qgc 1).bind fun b=>
 (kr N p).bind fun h=>
 (jl N h N b.Num.s b.Num.w b.Den.s b.Den.w 0).bind fun(c,d,e,f)=>
 (yB N (⟨(⟨c,d⟩:qw),(⟨e,f⟩:qw)⟩:qQ)).bind fun a=>
 some (a.1,a.2)
theorem qbv (N:Nat) (p:List Int) {res:Str×Int} (h:yE N p=some res):qc ZT (.fn 22) [vl encI p] [] (.tuple [.str res.1,.i res.2]) []:=by
 unfold yE at h
 refine Ub Tryz.func22 rfl rfl (m:=37) rfl (rs:=[.tmp 2,.tmp 3]) rfl (l:=(kS p [])) rfl ?_
 refine sh fol (kS p []) ?_
 refine sq ?_
 obtain⟨F,G,h⟩:=bnd h
 refine sq (gr fol [1] (kS p [(4,.i F)]) (ac (cv (zZ N p G)) az) ?_)
 refine sh fol (kS p [(4,.i F),(12,.bool (!decide (F=0)))]) ?_
 refine ihB h (fun P h=>?_) (fun P h=>?_)
 ·refine sh fol [(2,.str []),(3,.i F)] ?_
  refine Goes.ret ?_
  obtain rfl:=si h
  exact(gw2 [.str [],.i F] (FzW.tuple (qg.cons (Ua tS) (qg.cons (Ua tI) qg.nil))))
 refine Goes.skip ?_
 obtain⟨D,H,h⟩:=bnd h
 refine sq (gq fol [0,2] (kS p [(5,.ptr 0 0)]) [.cells (nq1 D)] (ac (cv (qhj 1 H)) (ac (hs (.run [0] (qx ZT 130 (.ptr 0 0) (.agg (nq1 D))) (kM []) .undef [.cells (nq1 D)] true) (zW (n:=4) (by kernel_rfl) rfl rfl rfl rfl (cac rfl (cac nvc (cac rfl (cac nvc can)))) rfl)) az)) ?_)
 refine sq ?_
 obtain⟨a,I,h⟩:=bnd h
 refine sq (gq fol [1] (kAR a (a.length:Int) [(18,.i 0)]) [.cells (nq1 D),.cells (a.flatMap (qf encI).c)] (ac (hs (.callH 65 [vl encI p] [.cells (nq1 D)] [] (.gslice 1 a.length 1) [.cells (nq1 D),.cells (a.flatMap (qf encI).c)]) (qaS [] [none,some 0] (xc N p I) .nil rfl rfl (.old rfl rfl (.new rfl rfl (.same fa) rfl .nil)) (rc (.same (qd encI _)) rn) (.gslice rfl) rfl)) az) ?_)
 refine Goes.block ?_
 obtain⟨J,g15,h⟩:=bnd h
 refine Goes.imp (Q:=fun x s'=>(x= .exit 0/\ ∃o q r t,(o,q,r,t)=J/\Sub s' (ofG 37 [(5,.ptr 0 0)],[.cells (ni2 o q r t)]))) ?_ ?_
 ·refine Uc (fun M s=> ∃(f:Int) (g:List Int) (j:Int) (k:List Int) (b:Int),s=(ofG 37 (kAR a (a.length:Int) [(18,.i b)]),[.cells (ni2 f g j k),.cells (a.flatMap (qf encI).c)])/\jl N a M f g j k b=some J) ?_ (m:=N) ⟨_,_,_,_,_,rfl,g15⟩
  rintro M s ⟨f,g,j,k,b,rfl,g15⟩
  cases M with
  |zero=>simp only[jl]at g15;cases g15
  |succ M=>
   rw[jl]at g15
   refine sh fol (kAR a (a.length:Int) [(18,.i b),(19,.bool (decide (b<(a.length:Int))))]) ?_
   refine sq ?_
   refine ihD g15 (fun K g15=>?_) (fun K g15=>?_)
   ·refine Goes.skip ?_
    refine sq (Goes.block ?_)
    obtain⟨w,e,g15⟩:=bnd g15
    refine sq (gr fol [0,1] [(5,.ptr 0 0),(7,vl encI w),(16,.gslice 1 a.length 1),(17,.i (a.length:Int)),(18,.i b)] (ac (hs (.done (.opt (qb ZT 61 (.gslice 1 a.length 1) (.i b))) (.ptr 1 ((b:Int).toNat*1+0))) (ql2 vW e)) (ac (hs (.run [1] (zJ ZT 40 (.ptr 1 ((b:Int).toNat*1+0))) [.cells (ni2 f g j k),.cells (a.flatMap (qf encI).c)] (vl encI w) [.cells (ni2 f g j k),.cells (a.flatMap (qf encI).c)] false) (qaC yn (E:=(qf encI)) (l:=a) rfl rfl e (nl rfl) rfl)) az)) ?_)
    obtain⟨d,y,g15⟩:=bnd g15
    refine sq (gq fol [2,4] [(5,.ptr 0 0),(8,.ptr 2 0),(16,.gslice 1 a.length 1),(17,.i (a.length:Int)),(18,.i b)] [.cells (ni2 f g j k),.cells (a.flatMap (qf encI).c),.cells (nq1 d)] (ac (cv (qhj (w.length:Int) y)) (ac (hs (.run [2] (qx ZT 130 (.ptr 2 0) (.agg (nq1 d))) (.cells (ni2 f g j k):: .cells (a.flatMap (qf encI).c)::(kM [])) .undef [.cells (ni2 f g j k),.cells (a.flatMap (qf encI).c),.cells (nq1 d)] true) (zW (n:=4) (by kernel_rfl) rfl rfl rfl rfl (cac rfl (cac nvc (cac rfl (cac nvc can)))) rfl)) az)) ?_)
    obtain⟨L,z,g15⟩:=bnd g15
    obtain⟨O,A,g15⟩:=bnd g15
    obtain⟨u,B,g15⟩:=bnd g15
    refine gq fol [2,4,6,7] (kAR a (a.length:Int) [(18,.i b)]) [.cells (nq1 u),.cells (a.flatMap (qf encI).c),.cells (nq1 d)] (ac (cv (qeo N (⟨(⟨f,g⟩:qw),(⟨j,k⟩:qw)⟩:qQ) d z)) (ac (cv (qdD L.Num A)) (ac (cv (qbZ N O d B)) (ac (hs (.run [0] (qx ZT 130 (.ptr 0 0) (.agg (nq1 u))) [.cells (ni2 f g j k),.cells (a.flatMap (qf encI).c),.cells (nq1 d)] .undef [.cells (nq1 u),.cells (a.flatMap (qf encI).c),.cells (nq1 d)] true) (zW (n:=4) (by kernel_rfl) rfl rfl rfl rfl (cac rfl (cac nvc (cac rfl (cac nvc can)))) rfl)) az)))) ?_
    refine gh fol (kAR a (a.length:Int) [(18,.i (w64 (b+1)))]) ?_
    exact⟨M,(ofG 37 (kAR a (a.length:Int) [(18,.i (w64 (b+1)))]),[.cells (nq1 u),.cells (a.flatMap (qf encI).c)]),Nat.lt_succ_self _,(Sub.norm [] [some 0,some 1] rfl rfl (.kp (.keep (.gslice rfl) (.keep (.same nI) (.keep (.same nI) .nil)))) (.kb rfl (.same sn) (.ks .nil))),_,_,_,_,_,rfl,g15⟩
   refine Goes.exit ?_
   obtain rfl:=si g15
   exact⟨rfl,_,_,_,_,rfl,(Sub.norm [] [some 0] rfl rfl (.kp .nil) (.kb rfl (.same sn) .nil))⟩
 rintro x s' ⟨rfl,o,q,r,t,rfl,hsub⟩
 try dsimp only at h
 refine Goes.sub hsub ?_
 obtain⟨v,C,h⟩:=bnd h
 refine sq (gr fol [1] [(2,.str v.1),(3,.i v.2)] (ac (cv (qee N (⟨(⟨o,q⟩:qw),(⟨r,t⟩:qw)⟩:qQ) C)) az) ?_)
 refine Goes.ret ?_
 obtain rfl:=si h
 exact(gw2 [.str v.1,.i v.2] (FzW.tuple (qg.cons (Ua tS) (qg.cons (Ua tI) qg.nil))))
def zV (p:List Int):Nat->(List Int)->Int->Option (List Int)
 |0,_,_=>none
 |K+1,b,a=>
  if a<(p.length:Int)then
  (idx p a).bind fun d=>
  (idx b d).bind fun e=>
  (put b d a).bind fun c=>
  zV p K c (w64 (a+1))
  else
  some b
def yO (N:Nat) (p:List Int):Option ((List Int)×Int):=
 (qO N p).bind fun a=>
 if(!decide (a=0))=true then
 some ([],a)
 else
 (mk 8 (p.length:Int) 0).bind fun b=>
 (zV p N b 0).bind fun c=>
 some (c,0)
theorem qdT (N:Nat) (p:List Int) {res:(List Int)×Int} (h:yO N p=some res):qc ZT (.fn 23) [vl encI p] [] (.tuple [vl encI res.1,.i res.2]) []:=by
 unfold yO at h
 refine Ub Tryz.func23 rfl rfl (m:=29) rfl (rs:=[.tmp 2,.tmp 3]) rfl (l:=(kS p [])) rfl ?_
 refine sh fol (kS p []) ?_
 refine sq ?_
 obtain⟨k,n,h⟩:=bnd h
 refine sq (gr fol [1] (kS p [(4,.i k)]) (ac (cv (zZ N p n)) az) ?_)
 refine sh fol (kS p [(4,.i k),(11,.bool (!decide (k=0)))]) ?_
 refine ihB h (fun t h=>?_) (fun t h=>?_)
 ·refine sh fol [(2,.nilslice),(3,.i k)] ?_
  refine Goes.ret ?_
  obtain rfl:=si h
  exact(gw2 [.nilslice,.i k] (FzW.tuple (qg.cons (FzW.nilv (E:=encI)) (qg.cons (Ua tI) qg.nil))))
 refine Goes.skip ?_
 obtain⟨j,o,h⟩:=bnd h
 refine sq (gq fol [2] (kS p (kC j [])) (kB j []) (ac (hs (.run [] (zt ZT 40 (.i (p.length:Int)) (.i (p.length:Int))) [] (.slice 0 0 j.length j.length 1) (kB j []) false) (qaA zy (E:=encI) (z:=0) rfl (by kernel_rfl) o rfl)) az) ?_)
 refine sq ?_
 refine sh fol (kC j [(16,vl encI p),(17,.i (p.length:Int)),(18,.i 0)]) ?_
 refine Goes.block ?_
 obtain⟨r,g7,h⟩:=bnd h
 refine Goes.imp (Q:=fun x s'=>(x= .exit 0/\ ∃f,f=r/\Sub s' (ofG 29 (kC f []),(kB f [])))) ?_ ?_
 ·refine Uc (fun M s=> ∃(c:List Int) (b:Int),s=(ofG 29 (kC c (kAb p (p.length:Int) b)),(kB c []))/\zV p M c b=some r) ?_ (m:=N) ⟨_,_,rfl,g7⟩
  rintro M s ⟨c,b,rfl,g7⟩
  cases M with
  |zero=>simp only[zV]at g7;cases g7
  |succ M=>
   rw[zV]at g7
   refine sh fol (kC c [(16,vl encI p),(17,.i (p.length:Int)),(18,.i b),(19,.bool (decide (b<(p.length:Int))))]) ?_
   refine sq ?_
   refine ihD g7 (fun u g7=>?_) (fun u g7=>?_)
   ·refine Goes.skip ?_
    refine sq (Goes.block ?_)
    obtain⟨q,g,g7⟩:=bnd g7
    refine sq (gr fol [1,2] (kC c (kAl b q (kAb p (p.length:Int) b))) (ac (iv zy encI g) (ac (lv 0 ce3 encI g rfl) az)) ?_)
    obtain⟨v,d,g7⟩:=bnd g7
    obtain⟨a,e,g7⟩:=bnd g7
    refine gq fol [3,4] (kC c (kAb p (p.length:Int) b)) (kB a []) (ac (hs (.done (.opt (qb ZT 40 (.slice 0 0 c.length c.length 1) (.i q))) (.ptr 0 ((q:Int).toNat*1+0))) (vZ zy d)) (ac (hs (.run [0] (qx ZT 3 (.ptr 0 ((q:Int).toNat*1+0)) (.i b)) (kB c []) .undef (kB a []) true) (yc (E:=encI) (l:=c) (y:=b) rfl (show _=some 1 by kernel_rfl) rfl d rfl rfl rfl rfl rfl e rfl)) az)) ?_
    refine Goes.sub (show Sub (ofG 29 (kC c (kAb p (p.length:Int) b)),(kB a [])) (ofG 29 (kC a (kAb p (p.length:Int) b)),(kB a []))from(Sub.norm [] [some 0] rfl rfl (.keep (.sliceE rfl (jg e)) (.keep (.same (qd encI _)) (.keep (.same nI) (.keep (.same nI) .nil)))) (.ks .nil))) ?_
    refine gh fol (kC a (kAb p (p.length:Int) (w64 (b+1)))) ?_
    exact⟨M,(ofG 29 (kC a (kAb p (p.length:Int) (w64 (b+1)))),(kB a [])),Nat.lt_succ_self _,(Sub.refl _),_,_,rfl,g7⟩
   refine Goes.exit ?_
   obtain rfl:=si g7
   exact⟨rfl,_,rfl,(Sub.keep [5] rfl rfl)⟩
 rintro x s' ⟨rfl,f,rfl,hsub⟩
 refine Goes.sub hsub ?_
 refine sh fol [(2,.slice 0 0 f.length f.length 1),(3,.i 0)] ?_
 refine Goes.ret ?_
 obtain rfl:=si h
 exact(gw2 [.slice 0 0 f.length f.length 1,.i 0] (FzW.tuple (qg.cons (FzW.fz (Fz.sl (E:=encI) rfl rfl (nl rfl))) (qg.cons (Ua tI) qg.nil))))
def yz (l:List Int):Nat->Int->Option (Unit⊕Int)
 |0,_=>none
 |K+1,a=>
  if a<(l.length:Int)then
  (idx l a).bind fun b=>
  if(!decide (b=0))=true then
  some (.inr b)
  else
  yz l K (w64 (a+1))
  else
  some (.inl ())
def qaJ (N:Nat) (l:List Int):Option Int:=
 (yz l N 0).bind (fun
 |(.inl ())=>
 some 0
 |(.inr a)=>
 some a)
theorem qes (N:Nat) (l:List Int) {res:Int} (h:qaJ N l=some res):qc ZT (.fn 70) [vl encI l] [] (.i res) []:=by
 unfold qaJ at h
 refine Ub Tryz.func70 rfl rfl (m:=15) rfl (rs:=[.tmp 2]) rfl (l:=(kS l [])) rfl ?_
 refine sh fol (kS l []) ?_
 refine sq ?_
 refine sh fol [(5,vl encI l),(6,.i (l.length:Int)),(7,.i 0)] ?_
 refine Goes.block ?_
 obtain⟨d,g2,h⟩:=bnd h
 refine Goes.imp (Q:=fun x s'=>(x= .exit 0/\(.inl ())=d/\Sub s' (ofG 15 [],[]))\/(x= .ret/\ ∃e,(.inr e)=d/\zU ZT [.tmp 2] (.i e) .ret s')) ?_ ?_
 ·refine Uc (fun M s=> ∃(a:Int),s=(ofG 15 ((5,vl encI l)::(kAl (l.length:Int) a [])),[])/\yz l M a=some d) ?_ (m:=N) ⟨_,rfl,g2⟩
  rintro M s ⟨a,rfl,g2⟩
  cases M with
  |zero=>simp only[yz]at g2;cases g2
  |succ M=>
   rw[yz]at g2
   refine sh fol ((5,vl encI l)::(kAl (l.length:Int) a [(8,.bool (decide (a<(l.length:Int))))])) ?_
   refine sq ?_
   refine ihD g2 (fun f g2=>?_) (fun f g2=>?_)
   ·refine Goes.skip ?_
    refine sq (Goes.block ?_)
    obtain⟨c,b,g2⟩:=bnd g2
    refine sq (gr fol [0,1] ((4,.i c)::(5,vl encI l)::(kAl (l.length:Int) a [])) (ac (iv sl180 encI b) (ac (lv 0 ce35 encI b rfl) az)) ?_)
    refine sh fol ((4,.i c)::(5,vl encI l)::(kAl (l.length:Int) a [(12,.bool (!decide (c=0)))])) ?_
    refine ihB g2 (fun g g2=>?_) (fun g g2=>?_)
    ·refine sh fol [(2,.i c)] ?_
     refine Goes.ret ?_
     obtain rfl:=si g2
     exact Or.inr (⟨rfl,_,rfl,(gw2 [.i c] (Ua tI))⟩)
    refine Goes.skip ?_
    refine gh fol ((5,vl encI l)::(kAl (l.length:Int) (w64 (a+1)) [])) ?_
    exact⟨M,(ofG 15 ((5,vl encI l)::(kAl (l.length:Int) (w64 (a+1)) [])),[]),Nat.lt_succ_self _,(Sub.refl _),_,rfl,g2⟩
   refine Goes.exit ?_
   obtain rfl:=si g2
   exact Or.inl (⟨rfl,rfl,(Sub.keep [] rfl rfl)⟩)
 rintro x s' (⟨rfl,rfl,hsub⟩|⟨rfl,j,rfl,hret⟩)
 ·try dsimp only at h
  refine Goes.sub hsub ?_
  refine sh fol [(2,.i 0)] ?_
  refine Goes.ret ?_
  obtain rfl:=si h
  exact(gw2 [.i 0] (Ua tI))
 try dsimp only at h
 obtain rfl:=si h
 exact hret
def qat (holds:Bool) (e:Int):Option Int:=
 if holds=true then
 some e
 else
 some 0
theorem qfe (holds:Bool) (e:Int) {res:Int} (h:qat holds e=some res):qc ZT (.fn 71) [.bool holds,.i e] [] (.i res) []:=by
 unfold qat at h
 refine Ub Tryz.func71 rfl rfl (m:=7) rfl (rs:=[.tmp 4]) rfl (l:=[(0,.bool holds),(1,.i e)]) rfl ?_
 refine sh fol [(0,.bool holds),(1,.i e)] ?_
 refine sq ?_
 refine sh fol [(1,.i e),(5,.bool holds)] ?_
 refine ihB h (fun a h=>?_) (fun a h=>?_)
 ·refine sh fol [(4,.i e)] ?_
  refine Goes.ret ?_
  obtain rfl:=si h
  exact(gw2 [.i e] (Ua tI))
 refine Goes.skip ?_
 refine sh fol [(4,.i 0)] ?_
 refine Goes.ret ?_
 obtain rfl:=si h
 exact(gw2 [.i 0] (Ua tI))
def zY (p:List Int) (q:List Int):Nat->(List Int)->Int->Option (List Int)
 |0,_,_=>none
 |K+1,e,a=>
  if a<(p.length:Int)then
  (idx p a).bind fun b=>
  (idx q b).bind fun c=>
  (app 8 e [c]).bind fun d=>
  zY p q K d (w64 (a+1))
  else
  some e
def vL (N:Nat) (p:List Int) (q:List Int):Option ((List Int)×Int):=
 (qO N p).bind fun b=>
 (qO N q).bind fun c=>
 (qat (!decide ((p.length:Int)=(q.length:Int))) 2).bind fun d=>
 (qaJ N ([b,c,d]:List Int)).bind fun a=>
 if(!decide (a=0))=true then
 some ([],a)
 else
 (zY p q N ([]:List Int) 0).bind fun e=>
 some (e,0)
theorem qa6 (N:Nat) (p:List Int) (q:List Int) {res:(List Int)×Int} (h:vL N p q=some res):qc ZT (.fn 24) (kAs p q) [] (.tuple [vl encI res.1,.i res.2]) []:=by
 unfold vL at h
 refine Ub Tryz.func24 rfl rfl (m:=40) rfl (rs:=[.tmp 4,.tmp 5]) rfl (l:=(kG p q [])) rfl ?_
 refine sh fol (kG p q []) ?_
 refine sq ?_
 obtain⟨u,n,h⟩:=bnd h
 obtain⟨v,o,h⟩:=bnd h
 obtain⟨w,r,h⟩:=bnd h
 obtain⟨j,t,h⟩:=bnd h
 refine sq (gq fol [1,3,9,11] (kG p q [(6,.i j)]) [.cells [.i u,.i v,.i w]] (ac (cv (zZ N p n)) (ac (cv (zZ N q o)) (ac (cv (qfe (!decide ((p.length:Int)=(q.length:Int))) 2 r)) (ac (hs (.call 70 [.slice 0 0 3 3 1] [.cells [.i u,.i v,.i w]] [0] [vl encI ([u,v,w]:List Int)] (.i j)) (qkK (FzL.cons (Fz.lit rfl rfl (Ul (AllST.cons tI (AllST.cons tI (AllST.cons tI AllST.nil))))) FzL.nil) (qes N ([u,v,w]:List Int) t) tI rfl)) az)))) ?_)
 refine sh fol (kG p q [(6,.i j),(23,.bool (!decide (j=0)))]) ?_
 refine ihB h (fun B h=>?_) (fun B h=>?_)
 ·refine sh fol ((4,.nilslice)::(kA0 j)) ?_
  refine Goes.ret ?_
  obtain rfl:=si h
  exact(gw2 [.nilslice,.i j] (FzW.tuple (qg.cons (FzW.nilv (E:=encI)) (qg.cons (Ua tI) qg.nil))))
 refine Goes.skip ?_
 refine sh fol (kG p q [(7,.nilslice)]) ?_
 refine sq ?_
 refine sh fol [(1,vl encI q),(7,.nilslice),(25,vl encI p),(26,.i (p.length:Int)),(27,.i 0)] ?_
 refine Goes.block ?_
 obtain⟨A,g9,h⟩:=bnd h
 refine Goes.imp (Q:=fun x s'=>(x= .exit 0/\ ∃k,k=A/\Sub s' (ofG 40 [(7,.gslice 0 k.length 1)],(kB k [])))) ?_ ?_
 ·refine Goes.sub (s':=(ofG 40 [(1,vl encI q),(7,.gslice 0 ([]:List Int).length 1),(25,vl encI p),(26,.i (p.length:Int)),(27,.i 0)],kAm)) (Sub.norm [] [none] rfl rfl (.keep (.same (qd encI _)) (.keep .nil (.keep (.same (qd encI _)) (.keep (.same nI) (.keep (.same nI) .nil))))) (.fresh .nil)) ?_
  refine Uc (fun M s=> ∃(d:List Int) (e:Int),s=(ofG 40 ((1,vl encI q)::(7,.gslice 0 d.length 1)::(kAx p (p.length:Int) e [])),(kB d []))/\zY p q M d e=some A) ?_ (m:=N) ⟨_,_,rfl,g9⟩
  rintro M s ⟨d,e,rfl,g9⟩
  cases M with
  |zero=>simp only[zY]at g9;cases g9
  |succ M=>
   rw[zY]at g9
   refine sh fol ((1,vl encI q)::(7,.gslice 0 d.length 1)::(kAx p (p.length:Int) e [(28,.bool (decide (e<(p.length:Int))))])) ?_
   refine sq ?_
   refine ihD g9 (fun y g9=>?_) (fun y g9=>?_)
   ·refine Goes.skip ?_
    refine sq (Goes.block ?_)
    obtain⟨z,b,g9⟩:=bnd g9
    refine sq (gr fol [0,1] ((1,vl encI q)::(7,.gslice 0 d.length 1)::(9,.i z)::(kAx p (p.length:Int) e [])) (ac (iv zy encI b) (ac (lv 0 ce3 encI b rfl) az)) ?_)
    obtain⟨f,c,g9⟩:=bnd g9
    obtain⟨a,g,g9⟩:=bnd g9
    refine gq fol [3,4,6] ((1,vl encI q)::(7,.gslice 2 a.length 1)::(kAx p (p.length:Int) e [])) (kAf f (kB a [])) (ac (iv zy encI c) (ac (lv 0 ce3 encI c rfl) (ac (hs (.run [0,1] (vI ZT [40,40] (.gslice 0 d.length 1) (.slice 1 0 1 1 1)) (kB d (kA2 f)) (.gslice 2 a.length 1) (kAf f (kB a [])) true) (qal zy (E:=encI) rfl (qdC (E:=encI) (ys:=[f]) rfl rfl rfl rfl) (qfk (E:=encI) (l:=d) rfl rfl rfl g rfl))) az))) ?_
    refine gh fol ((1,vl encI q)::(7,.gslice 2 a.length 1)::(kAx p (p.length:Int) (w64 (e+1)) [])) ?_
    exact⟨M,(ofG 40 ((1,vl encI q)::(7,.gslice 0 a.length 1)::(kAx p (p.length:Int) (w64 (e+1)) [])),(kB a [])),Nat.lt_succ_self _,(Sub.norm [] [some 2] rfl rfl (.keep (.same (qd encI _)) (.keep (.gslice rfl) (.keep (.same (qd encI _)) (.keep (.same nI) (.keep (.same nI) .nil))))) (.ks .nil)),_,_,rfl,g9⟩
   refine Goes.exit ?_
   obtain rfl:=si g9
   exact⟨rfl,_,rfl,(Sub.keep [7] rfl rfl)⟩
 rintro x s' ⟨rfl,k,rfl,hsub⟩
 refine Goes.sub hsub ?_
 refine sh fol [(4,.gslice 0 k.length 1),(5,.i 0)] ?_
 refine Goes.ret ?_
 obtain rfl:=si h
 exact(gw2 [.gslice 0 k.length 1,.i 0] (FzW.tuple (qg.cons (FzW.fz (Fz.gs (E:=encI) rfl rfl (nl rfl))) (qg.cons (Ua tI) qg.nil))))
def jU (N:Nat) (p:List Int):Option ((List (List Int))×Int):=
 (qO N p).bind fun a=>
 if(!decide (a=0))=true then
 some ([],a)
 else
 (kr N p).bind fun b=>
 some (b,0)
theorem qbp (N:Nat) (p:List Int) {res:(List (List Int))×Int} (h:jU N p=some res):qc ZT (.fn 25) [vl encI p] [] (.tuple [vl (qf encI) res.1,.i res.2]) []:=by
 unfold jU at h
 refine Ub Tryz.func25 rfl rfl (m:=12) rfl (rs:=[.tmp 2,.tmp 3]) rfl (l:=(kS p [])) rfl ?_
 refine sh fol (kS p []) ?_
 refine sq ?_
 obtain⟨a,b,h⟩:=bnd h
 refine sq (gr fol [1] (kS p [(4,.i a)]) (ac (cv (zZ N p b)) az) ?_)
 refine sh fol (kS p [(4,.i a),(8,.bool (!decide (a=0)))]) ?_
 refine ihB h (fun f h=>?_) (fun f h=>?_)
 ·refine sh fol [(2,.nilslice),(3,.i a)] ?_
  refine Goes.ret ?_
  obtain rfl:=si h
  exact(gw2 [.nilslice,.i a] (FzW.tuple (qg.cons (FzW.nilv (E:=(qf encI))) (qg.cons (Ua tI) qg.nil))))
 refine Goes.skip ?_
 obtain⟨d,e,h⟩:=bnd h
 refine sq (gq fol [1] [(2,.gslice 0 d.length 1),(3,.i 0)] [.cells (d.flatMap (qf encI).c)] (ac (hs (.callH 65 [vl encI p] [] [] (.gslice 0 d.length 1) [.cells (d.flatMap (qf encI).c)]) (qaS [] [some 0] (xc N p e) .nil rfl rfl (.new rfl rfl (.same fa) rfl .nil) (rc (.same (qd encI _)) rn) (.gslice rfl) rfl)) az) ?_)
 refine Goes.ret ?_
 obtain rfl:=si h
 exact(gw2 [.gslice 0 d.length 1,.i 0] (FzW.tuple (qg.cons (FzW.fz (Fz.gs (E:=(qf encI)) rfl rfl (nl rfl))) (qg.cons (Ua tI) qg.nil))))
def jH (b:Str):Nat->Int->Option (Unit⊕Int)
 |0,_=>none
 |K+1,a=>
  if a<(b.length:Int)then
  (idx b a).bind fun c=>
  if(c.toNat:Int)=47 then
  some (.inr a)
  else
  jH b K (w64 (a+1))
  else
  some (.inl ())
def yM (N:Nat) (a:Str):Option Int:=
 (jH a N 0).bind (fun
 |(.inl ())=>
 some (a.length:Int)
 |(.inr b)=>
 some b)
theorem qa2 (N:Nat) (a:Str) {res:Int} (h:yM N a=some res):qc ZT (.fn 74) [.str a] [] (.i res) []:=by
 unfold yM at h
 refine Ub Tryz.func74 rfl rfl (m:=17) rfl (rs:=[.tmp 2]) rfl (l:=(kAw a)) rfl ?_
 refine sh fol (kAw a) ?_
 refine sq ?_
 refine sh fol [(0,.str a),(3,.i 0)] ?_
 refine Goes.block ?_
 obtain⟨d,g2,h⟩:=bnd h
 refine Goes.imp (Q:=fun x s'=>(x= .exit 0/\(.inl ())=d/\Sub s' (ofG 17 (kAw a),[]))\/(x= .ret/\ ∃e,(.inr e)=d/\zU ZT [.tmp 2] (.i e) .ret s')) ?_ ?_
 ·refine Uc (fun M s=> ∃(b:Int),s=(ofG 17 (kAY a b []),[])/\jH a M b=some d) ?_ (m:=N) ⟨_,rfl,g2⟩
  rintro M s ⟨b,rfl,g2⟩
  cases M with
  |zero=>simp only[jH]at g2;cases g2
  |succ M=>
   rw[jH]at g2
   refine sq ?_
   refine sh fol (kAY a b [(7,.bool (decide (b<(a.length:Int))))]) ?_
   refine ihD g2 (fun g g2=>?_) (fun g g2=>?_)
   ·refine Goes.skip ?_
    refine sq (Goes.block ?_)
    obtain⟨f,c,g2⟩:=bnd g2
    refine sq (gr fol [2] (kAY a b [(13,.bool (decide ((f.toNat:Int)=47)))]) (ac (hs (.done (.opt (yP ZT 9 (.str a) (.i b))) (.int .u8 (f.toNat:Int))) (qaX st9 c)) az) ?_)
    refine ihD g2 (fun j g2=>?_) (fun j g2=>?_)
    ·refine sh fol [(2,.i b)] ?_
     refine Goes.ret ?_
     obtain rfl:=si g2
     exact Or.inr (⟨rfl,_,rfl,(gw2 [.i b] (Ua tI))⟩)
    refine Goes.skip ?_
    refine gh fol (kAY a (w64 (b+1)) []) ?_
    exact⟨M,(ofG 17 (kAY a (w64 (b+1)) []),[]),Nat.lt_succ_self _,(Sub.refl _),_,rfl,g2⟩
   refine Goes.exit ?_
   obtain rfl:=si g2
   exact Or.inl (⟨rfl,rfl,(Sub.keep [0] rfl rfl)⟩)
 rintro x s' (⟨rfl,rfl,hsub⟩|⟨rfl,k,rfl,hret⟩)
 ·try dsimp only at h
  refine Goes.sub hsub ?_
  refine sh fol [(2,.i (a.length:Int))] ?_
  refine Goes.ret ?_
  obtain rfl:=si h
  exact(gw2 [.i (a.length:Int)] (Ua tI))
 try dsimp only at h
 obtain rfl:=si h
 exact hret
def xh (N:Nat) (a:Str):Option Bool:=
 (yM N a).bind fun b=>
 some (decide (b=(a.length:Int)))
theorem qbl (N:Nat) (a:Str) {res:Bool} (h:xh N a=some res):qc ZT (.fn 72) [.str a] [] (.bool res) []:=by
 unfold xh at h
 refine Ub Tryz.func72 rfl rfl (m:=8) rfl (rs:=[.tmp 2]) rfl (l:=(kAw a)) rfl ?_
 refine sh fol (kAw a) ?_
 obtain⟨c,b,h⟩:=bnd h
 refine sq (gr fol [1] [(2,.bool (decide (c=(a.length:Int))))] (ac (cv (qa2 N a b)) az) ?_)
 refine Goes.ret ?_
 obtain rfl:=si h
 exact(gw2 [.bool (decide (c=(a.length:Int)))] (Ua tB))
def jE (a:Str):Nat->Int->Int->Option Int
 |0,_,_=>none
 |K+1,c,b=>
  if b<(a.length:Int)then
  (idx a b).bind fun d=>
  jE a K (w64 ((w64 ((w64 (10*c))+(w64 (d.toNat:Int))))-48)) (w64 (b+1))
  else
  some c
def xE (N:Nat) (a:Str):Option Int:=
 (jE a N 0 0).bind fun b=>
 some b
theorem qci (N:Nat) (a:Str) {res:Int} (h:xE N a=some res):qc ZT (.fn 137) [.str a] [] (.i res) []:=by
 unfold xE at h
 refine Ub Tryz.func137 rfl rfl (m:=20) rfl (rs:=[.tmp 2]) rfl (l:=(kAw a)) rfl ?_
 refine sh fol (kAw a) ?_
 refine sh fol [(0,.str a),(3,.i 0)] ?_
 refine sq ?_
 refine sh fol [(0,.str a),(3,.i 0),(4,.i 0)] ?_
 refine Goes.block ?_
 obtain⟨g,g4,h⟩:=bnd h
 refine Goes.imp (Q:=fun x s'=>(x= .exit 0/\ ∃d,d=g/\Sub s' (ofG 20 [(3,.i d)],[]))) ?_ ?_
 ·refine Uc (fun M s=> ∃(c:Int) (b:Int),s=(ofG 20 (kAY a c [(4,.i b)]),[])/\jE a M c b=some g) ?_ (m:=N) ⟨_,_,rfl,g4⟩
  rintro M s ⟨c,b,rfl,g4⟩
  cases M with
  |zero=>simp only[jE]at g4;cases g4
  |succ M=>
   rw[jE]at g4
   refine sq ?_
   refine sh fol (kAY a c [(4,.i b),(8,.bool (decide (b<(a.length:Int))))]) ?_
   refine ihD g4 (fun j g4=>?_) (fun j g4=>?_)
   ·refine Goes.skip ?_
    refine sq (Goes.block ?_)
    obtain⟨f,e,g4⟩:=bnd g4
    refine gr fol [4] (kAY a (w64 ((w64 ((w64 (10*c))+(w64 (f.toNat:Int))))-48)) [(4,.i b)]) (ac (hs (.done (.opt (yP ZT 9 (.str a) (.i b))) (.int .u8 (f.toNat:Int))) (qaX st9 e)) az) ?_
    refine gh fol (kAY a (w64 ((w64 ((w64 (10*c))+(w64 (f.toNat:Int))))-48)) [(4,.i (w64 (b+1)))]) ?_
    exact⟨M,(ofG 20 (kAY a (w64 ((w64 ((w64 (10*c))+(w64 (f.toNat:Int))))-48)) [(4,.i (w64 (b+1)))]),[]),Nat.lt_succ_self _,(Sub.refl _),_,_,rfl,g4⟩
   refine Goes.exit ?_
   obtain rfl:=si g4
   exact⟨rfl,_,rfl,(Sub.keep [3] rfl rfl)⟩
 rintro x s' ⟨rfl,d,rfl,hsub⟩
 refine Goes.sub hsub ?_
 refine sh fol [(2,.i d)] ?_
 refine Goes.ret ?_
 obtain rfl:=si h
 exact(gw2 [.i d] (Ua tI))
def vF:Nat->(List Int)->Option (List Int)
 |0,_=>none
 |K+1,a=>
  (if(a.length:Int)>0 then
  (idx a (w64 ((a.length:Int)-1))).bind fun b=>
  some (decide (b=0))
  else
  some false:Option Bool).bind fun c=>
  if c=true then
  (cut a 0 (w64 ((a.length:Int)-1))).bind fun d=>
  vF K d
  else
  some a
def vG (N:Nat) (w:List Int):Option (List Int):=
 (vF N w).bind fun a=>
 some a
theorem yC (N:Nat) (w:List Int) {res:List Int} (h:vG N w=some res):qc ZT (.fn 196) [vl encI w] [] (vl encI res) []:=by
 unfold vG at h
 refine Ub Tryz.func196 rfl rfl (m:=21) rfl (rs:=[.tmp 2]) rfl (l:=(kS w [])) rfl ?_
 refine sh fol (kS w []) ?_
 refine sq (Goes.block ?_)
 obtain⟨j,g3,h⟩:=bnd h
 refine Goes.imp (Q:=fun x s'=>(x= .exit 0/\ ∃d,d=j/\Sub s' (ofG 21 (kS d []),[]))) ?_ ?_
 ·refine Uc (fun M s=> ∃(b:List Int),s=(ofG 21 (kS b []),[])/\vF M b=some j) ?_ (m:=N) ⟨_,rfl,g3⟩
  rintro M s ⟨b,rfl,g3⟩
  cases M with
  |zero=>simp only[vF]at g3;cases g3
  |succ M=>
   rw[vF]at g3
   refine sq ?_
   refine sq ?_
   obtain⟨k,a,g3⟩:=bnd g3
   refine Goes.cut (s':=(ofG 21 (kS b [(14,.bool k)]),[])) ?_ ?_
   ·rcases wyD a with⟨f,a⟩|⟨f,a⟩
    ·obtain⟨n,c,a⟩:=bnd a
     obtain rfl:=si a
     exact tr fol [3,8,9] (kS b [(14,.bool (decide (n=0)))]) (ac (gw f) (ac (iv zy encI c) (ac (lv 0 ce3 encI c rfl) az)))
    obtain rfl:=si a
    exact tr fol [3] (kS b [(14,.bool false)]) (ac (gw f) az)
   refine ihB g3 (fun o g3=>?_) (fun o g3=>?_)
   ·refine Goes.skip ?_
    refine Goes.block ?_
    obtain⟨g,e,g3⟩:=bnd g3
    refine gr fol [4] (kS g []) (ac (hs (.done (.opt (zI ZT 40 (vl encI b) none (some (.i (w64 ((b.length:Int)-1)))) none)) (vl encI g)) (qje zy (E:=encI) rfl none (some (w64 ((b.length:Int)-1))) e)) az) ?_
    exact⟨M,(ofG 21 (kS g []),[]),Nat.lt_succ_self _,(Sub.refl _),_,rfl,g3⟩
   refine Goes.exit ?_
   obtain rfl:=si g3
   exact⟨rfl,_,rfl,(Sub.keep [0] rfl rfl)⟩
 rintro x s' ⟨rfl,d,rfl,hsub⟩
 refine Goes.sub hsub ?_
 refine sh fol [(2,vl encI d)] ?_
 refine Goes.ret ?_
 obtain rfl:=si h
 exact(gw2 [vl encI d] (Ua (qy encI _ (nl rfl))))
def y9 (N:Nat) (neg:Bool) (w:List Int):Option vD:=
 (vG N w).bind fun a=>
 (if neg=true then
 some (decide ((a.length:Int)>0))
 else
 some false:Option Bool).bind fun b=>
 some (⟨b,a⟩:vD)
theorem qb1 (N:Nat) (neg:Bool) (w:List Int) {res:vD} (h:y9 N neg w=some res):qc ZT (.fn 138) (kAy neg w) [] (.agg (kAy res.neg res.w)) []:=by
 unfold y9 at h
 refine Ub Tryz.func138 rfl rfl (m:=15) rfl (rs:=[.cell 4 138]) rfl (l:=[(0,.bool neg),(1,vl encI w)]) rfl ?_
 refine sg fol ((0,.bool neg)::(1,vl encI w)::(kAV [])) (kQ []) ?_
 obtain⟨b,c,h⟩:=bnd h
 refine sq (gr fol [1] ((0,.bool neg)::(1,vl encI b)::(kAV [])) (ac (cv (yC N w c)) az) ?_)
 refine sq ?_
 obtain⟨e,a,h⟩:=bnd h
 refine Goes.cut (s':=(ofG 15 (kAV []),(kAE e b []))) ?_ ?_
 ·rcases wyB a with⟨d,a⟩|⟨d,a⟩
  ·obtain rfl:=si a
   exact zo.rq fol [1] (kAV []) (kAE (decide ((b.length:Int)>0)) b []) (ac (gw d) az)
  obtain rfl:=si a
  exact zo.rq fol [1] (kAV []) [.cells [.bool false,vl encI b]] (ac (gw d) az)
 refine Goes.ret ?_
 obtain rfl:=si h
 exact(gw2 [.agg (kAy e b)] (FzW.agg (qg.cons (Ua tB) (qg.cons (Ua (qy encI _ (nl rfl))) qg.nil))))
def vg (N:Nat):Nat->(List Int)->Str->Option ((List Int)×Str)
 |0,_,_=>none
 |K+1,f,a=>
  if(a.length:Int)>9 then
  (cut a (w64 ((a.length:Int)-9)) (a.length:Int)).bind fun b=>
  (xE N b).bind fun c=>
  (app 8 f [c]).bind fun d=>
  (cut a 0 (w64 ((a.length:Int)-9))).bind fun e=>
  vg N K d e
  else
  some (f,a)
def vC (N:Nat) (a:Str):Option vD:=
 (if(a.length:Int)>0 then
 (idx a 0).bind fun h=>
 some (decide ((h.toNat:Int)=45))
 else
 some false:Option Bool).bind fun g=>
 ((if g=true then
 (cut a 1 (a.length:Int)).bind fun i=>
 some i
 else
 some a:Option Str)).bind fun j=>
 (vg N N ([]:List Int) j).bind fun(b,c)=>
 (xE N c).bind fun d=>
 (app 8 b [d]).bind fun e=>
 (y9 N g e).bind fun f=>
 some f
theorem xV (N:Nat) (k:Str) {res:vD} (h:vC N k=some res):qc ZT (.fn 73) [.str k] [] (.agg (kAy res.neg res.w)) []:=by
 unfold vC at h
 refine Ub Tryz.func73 rfl rfl (m:=40) rfl (rs:=[.cell 2 138]) rfl (l:=(kAw k)) rfl ?_
 refine sg fol ((0,.str k)::(kAW [])) (kQ []) ?_
 refine sq ?_
 obtain⟨e,b,h⟩:=bnd h
 refine Goes.cut (s':=(ofG 40 (kAC k e []),(kQ []))) ?_ ?_
 ·rcases wyD b with⟨H,b⟩|⟨H,b⟩
  ·obtain⟨J,B,b⟩:=bnd b
   obtain rfl:=si b
   exact tr fol [3,5] (kAC k (decide ((J.toNat:Int)=45)) []) (ac (gw H) (ac (hs (.done (.opt (yP ZT 9 (.str k) (.i 0))) (.int .u8 (J.toNat:Int))) (qaX st9 B)) az))
  obtain rfl:=si b
  exact tr fol [3] ((0,.str k)::(kAW [(3,.bool false)])) (ac (gw H) az)
 refine sq ?_
 refine sh fol (kAC k e [(13,.bool e)]) ?_
 obtain⟨L,g6,h⟩:=bnd h
 refine Goes.imp (Q:=fun x s'=>(x= .normal/\ ∃C,C=L/\Sub s' (ofG 40 (kAC C e []),(kQ [])))) ?_ ?_
 ·refine ihB g6 (fun O g6=>?_) (fun O g6=>?_)
  ·obtain⟨K,D,g6⟩:=bnd g6
   refine gr fol [1] (kAC K e []) (ac (hs (.done (.opt (zI ZT 9 (.str k) (some (.i 1)) none none)) (.str K)) (yG st9 (some 1) none D)) az) ?_
   obtain rfl:=si g6
   exact⟨rfl,_,rfl,(Sub.refl _)⟩
  refine Goes.skip ?_
  obtain rfl:=si g6
  exact⟨rfl,_,rfl,(Sub.keep [0,2,3] rfl rfl)⟩
 rintro x s' ⟨rfl,C,rfl,hsub⟩
 refine Goes.sub hsub ?_
 refine sh fol (kAC C e [(4,.nilslice)]) ?_
 refine sq (Goes.block ?_)
 obtain⟨F,g13,h⟩:=bnd h
 refine Goes.imp (Q:=fun x s'=>(x= .exit 0/\ ∃f n,(f,n)=F/\Sub s' (ofG 40 (kAC n e [(4,.gslice 1 f.length 1)]),(kQ (kB f []))))) ?_ ?_
 ·refine Goes.sub (s':=(ofG 40 (kAC C e [(4,.gslice 1 ([]:List Int).length 1)]),(kQ kAm))) (Sub.norm [] [some 0,none] rfl rfl (.keep (.same nS) (.kp (.keep (.same nB) (.keep .nil .nil)))) (.kb rfl (.same sn) (.fresh .nil))) ?_
  refine Uc (fun M s=> ∃(p:List Int) (a:Str),s=(ofG 40 (kAC a e [(4,.gslice 1 p.length 1)]),(kQ (kB p [])))/\vg N M p a=some F) ?_ (m:=N) ⟨_,_,rfl,g13⟩
  rintro M s ⟨p,a,rfl,g13⟩
  cases M with
  |zero=>simp only[vg]at g13;cases g13
  |succ M=>
   rw[vg]at g13
   refine sq ?_
   refine sh fol (kAC a e [(4,.gslice 1 p.length 1),(18,.bool (decide ((a.length:Int)>9)))]) ?_
   refine ihD g13 (fun I g13=>?_) (fun I g13=>?_)
   ·refine Goes.skip ?_
    refine Goes.block ?_
    obtain⟨G,q,g13⟩:=bnd g13
    obtain⟨o,r,g13⟩:=bnd g13
    obtain⟨g,t,g13⟩:=bnd g13
    refine sq (gq fol [5,6,8] (kAC a e [(4,.gslice 3 g.length 1)]) (kQ (kAf o (kB g []))) (ac (hs (.done (.opt (zI ZT 9 (.str a) (some (.i (w64 ((a.length:Int)-9)))) none none)) (.str G)) (yG st9 (some (w64 ((a.length:Int)-9))) none q)) (ac (cv (qci N G r)) (ac (hs (.run [1,2] (vI ZT [40,40] (.gslice 1 p.length 1) (.slice 2 0 1 1 1)) (kQ (kB p (kA2 o))) (.gslice 3 g.length 1) (kQ (kAf o (kB g []))) true) (qal zy (E:=encI) rfl (qdC (E:=encI) (ys:=[o]) rfl rfl rfl rfl) (qfk (E:=encI) (l:=p) rfl rfl rfl t rfl))) az))) ?_)
    obtain⟨u,v,g13⟩:=bnd g13
    refine gr fol [4] (kAC u e [(4,.gslice 3 g.length 1)]) (ac (hs (.done (.opt (zI ZT 9 (.str a) none (some (.i (w64 ((a.length:Int)-9)))) none)) (.str u)) (yG st9 none (some (w64 ((a.length:Int)-9))) v)) az) ?_
    exact⟨M,(ofG 40 (kAC u e [(4,.gslice 1 g.length 1)]),(kQ (kB g []))),Nat.lt_succ_self _,(Sub.norm [] [some 0,some 3] rfl rfl (.keep (.same nS) (.kp (.keep (.same nB) (.keep (.gslice rfl) .nil)))) (.kb rfl (.same sn) (.ks .nil))),_,_,rfl,g13⟩
   refine Goes.exit ?_
   obtain rfl:=si g13
   exact⟨rfl,_,_,rfl,(Sub.keep [0,2,3,4] rfl rfl)⟩
 rintro x s' ⟨rfl,f,n,rfl,hsub⟩
 try dsimp only at h
 refine Goes.sub hsub ?_
 obtain⟨j,y,h⟩:=bnd h
 obtain⟨d,z,h⟩:=bnd h
 obtain⟨c,A,h⟩:=bnd h
 refine sq (gq fol [3,5,6] (kAW []) (kAE c.neg c.w (kAf j (kAS d))) (ac (cv (qci N n y)) (ac (hs (.run [1,2] (vI ZT [40,40] (.gslice 1 f.length 1) (.slice 2 0 1 1 1)) (kQ (kB f (kA2 j))) (.gslice 3 d.length 1) (kQ (kAf j (kB d []))) true) (qal zy (E:=encI) rfl (qdC (E:=encI) (ys:=[j]) rfl rfl rfl rfl) (qfk (E:=encI) (l:=f) rfl rfl rfl z rfl))) (ac (hs (.callF 138 [.bool e,.gslice 3 d.length 1] (kQ (kAf j (kB d []))) [3] (kAy e d) (.agg (kAy c.neg c.w))) (xU (FzL.cons (Fz.still tB) (FzL.cons (Fz.gs (E:=encI) rfl rfl (nl rfl)) FzL.nil)) (qb1 N e d A) (Still.agg (AllST.cons tB (AllST.cons (qy encI _ (nl rfl)) AllST.nil))))) az))) ?_)
 refine Goes.sub (show Sub (ofG 40 (kAW []),(kAE c.neg c.w (kAf j (kAS d)))) (ofG 40 (kAW []),(kAE c.neg c.w []))from(Sub.norm [] [some 0] rfl rfl (.kp .nil) (.kb rfl (.same sn) .nil))) ?_
 refine Goes.ret ?_
 obtain rfl:=si h
 exact(gw2 [.agg (kAy c.neg c.w)] (FzW.agg (qg.cons (Ua tB) (qg.cons (Ua (qy encI _ (nl rfl))) qg.nil))))
def zK (d:vD):Nat->Int->Int->Option (Int⊕(Int×Bool))
 |0,_,_=>none
 |K+1,b,e=>
  if e>=0 then
  (idx d.w e).bind fun c=>
  ((if d.neg=true then
  some (w64 (0-c))
  else
  some c:Option Int)).bind fun a=>
  (if b>9223372036 then
  some true
  else
  if b<(-9223372036)then
  some true
  else
  if b=9223372036 then
  if a>854775807 then
  some true
  else
  if b=(-9223372036)then
  some (decide (a<(-854775808)))
  else
  some false
  else
  if b=(-9223372036)then
  some (decide (a<(-854775808)))
  else
  some false:Option Bool).bind fun f=>
  if f=true then
  some (.inr (0,false))
  else
  zK d K (w64 ((w64 (b*1000000000))+a)) (w64 (e-1))
  else
  some (.inl b)
def xG (N:Nat) (a:Str):Option (Int×Bool):=
 ((xh N a).bind fun d=>
 if(!d)=true then
 some true
 else
 some (decide ((a.length:Int)>20)):Option Bool).bind fun e=>
 if e=true then
 some (0,false)
 else
 (vC N a).bind fun c=>
 (zK c N 0 (w64 ((c.w.length:Int)-1))).bind (fun
 |(.inl f)=>
 some (f,true)
 |(.inr b)=>
 some b)
theorem qfI (N:Nat) (a:Str) {res:Int×Bool} (h:xG N a=some res):qc ZT (.fn 26) [.str a] [] (.tuple [.i res.1,.bool res.2]) []:=by
 unfold xG at h
 refine Ub Tryz.func26 rfl rfl (m:=62) rfl (rs:=[.tmp 2,.tmp 3]) rfl (l:=(kAw a)) rfl ?_
 refine sh fol (kAw a) ?_
 refine sq ?_
 refine sq ?_
 obtain⟨H,d,h⟩:=bnd h
 refine Goes.cut (s':=(ofG 62 [(0,.str a),(15,.bool H)],[])) ?_ ?_
 ·obtain⟨K,q,d⟩:=bnd d
  rcases wyB d with⟨B,d⟩|⟨B,d⟩
  ·obtain rfl:=si d
   exact tr fol [1,3] [(0,.str a),(15,.bool true)] (ac (cv (qbl N a q)) (ac (gw B) az))
  obtain rfl:=si d
  exact tr fol [1,3] [(0,.str a),(15,.bool (decide ((a.length:Int)>20)))] (ac (cv (qbl N a q)) (ac (gw B) az))
 refine ihB h (fun I h=>?_) (fun I h=>?_)
 ·refine sh fol [(2,.i 0),(3,.bool false)] ?_
  refine Goes.ret ?_
  obtain rfl:=si h
  exact(gw2 [.i 0,.bool false] (FzW.tuple (qg.cons (Ua tI) (qg.cons (Ua tB) qg.nil))))
 refine Goes.skip ?_
 obtain⟨k,z,h⟩:=bnd h
 refine sq (gq fol [1] (kAV []) (kAE k.neg k.w []) (ac (cv (xV N a z)) az) ?_)
 refine sh fol (kAV [(5,.i 0)]) ?_
 refine sq ?_
 refine sh fol (kAV [(5,.i 0),(6,.i (w64 ((k.w.length:Int)-1)))]) ?_
 refine Goes.block ?_
 obtain⟨r,g10,h⟩:=bnd h
 refine Goes.imp (Q:=fun x s'=>(x= .exit 0/\ ∃A,(.inl A)=r/\Sub s' (ofG 62 (kA0 A),[]))\/(x= .ret/\ ∃t,(.inr t)=r/\zU ZT [.tmp 2,.tmp 3] (.tuple [.i t.1,.bool t.2]) .ret s')) ?_ ?_
 ·refine Uc (fun M s=> ∃(f:Int) (e:Int),s=(ofG 62 (kAA f e []),(kAE k.neg k.w []))/\zK k M f e=some r) ?_ (m:=N) ⟨_,_,rfl,g10⟩
  rintro M s ⟨f,e,rfl,g10⟩
  cases M with
  |zero=>simp only[zK]at g10;cases g10
  |succ M=>
   rw[zK]at g10
   refine sq ?_
   refine sh fol (kAA f e [(23,.bool (decide (e>=0)))]) ?_
   refine ihD g10 (fun C g10=>?_) (fun C g10=>?_)
   ·refine Goes.skip ?_
    refine sq (Goes.block ?_)
    obtain⟨u,o,g10⟩:=bnd g10
    refine sq (gr fol [3,4] (kAA f e [(7,.i u)]) (ac (iv zy encI o) (ac (lv 0 ce3 encI o rfl) az)) ?_)
    refine sq ?_
    refine sh fol (kAA f e [(7,.i u),(32,.bool k.neg)]) ?_
    obtain⟨D,g15,g10⟩:=bnd g10
    refine Goes.imp (Q:=fun x s'=>(x= .normal/\ ∃c,c=D/\Sub s' (ofG 62 (kAA f e [(7,.i c)]),(kAE k.neg k.w [])))) ?_ ?_
    ·refine ihB g15 (fun E g15=>?_) (fun E g15=>?_)
     ·refine gh fol (kAA f e [(7,.i (w64 (0-u)))]) ?_
      obtain rfl:=si g15
      exact⟨rfl,_,rfl,(Sub.refl _)⟩
     refine Goes.skip ?_
     obtain rfl:=si g15
     exact⟨rfl,_,rfl,(Sub.keep [4,5,6,7] rfl rfl)⟩
    rintro x s' ⟨rfl,c,rfl,hsub⟩
    refine Goes.sub hsub ?_
    refine sq ?_
    refine sq ?_
    obtain⟨F,b,g10⟩:=bnd g10
    refine Goes.cut (s':=(ofG 62 (kAA f e [(7,.i c),(56,.bool F)]),(kAE k.neg k.w []))) ?_ ?_
    ·rcases wyD b with⟨g,b⟩|⟨g,b⟩
     ·obtain rfl:=si b
      exact tr fol [2] (kAA f e [(7,.i c),(56,.bool true)]) (ac (gw g) az)
     rcases wyD b with⟨j,b⟩|⟨j,b⟩
     ·obtain rfl:=si b
      exact tr fol [2,6] (kAA f e [(7,.i c),(56,.bool true)]) (ac (gw g) (ac (gw j) az))
     rcases wyD b with⟨n,b⟩|⟨n,b⟩
     ·rcases wyD b with⟨p,b⟩|⟨p,b⟩
      ·obtain rfl:=si b
       exact tr fol [2,6,9,14] (kAA f e [(7,.i c),(56,.bool true)]) (ac (gw g) (ac (gw j) (ac (gw n) (ac (gw p) az))))
      rcases wyD b with⟨v,b⟩|⟨v,b⟩
      ·obtain rfl:=si b
       exact tr fol [2,6,9,14,17] (kAA f e [(7,.i c),(56,.bool (decide (c<(-854775808))))]) (ac (gw g) (ac (gw j) (ac (gw n) (ac (gw p) (ac (gw v) az)))))
      obtain rfl:=si b
      exact tr fol [2,6,9,14,17] (kAA f e [(7,.i c),(56,.bool false)]) (ac (gw g) (ac (gw j) (ac (gw n) (ac (gw p) (ac (gw v) az)))))
     rcases wyD b with⟨y,b⟩|⟨y,b⟩
     ·obtain rfl:=si b
      exact tr fol [2,6,9,17] (kAA f e [(7,.i c),(56,.bool (decide (c<(-854775808))))]) (ac (gw g) (ac (gw j) (ac (gw n) (ac (gw y) az))))
     obtain rfl:=si b
     exact tr fol [2,6,9,17] (kAA f e [(7,.i c),(56,.bool false)]) (ac (gw g) (ac (gw j) (ac (gw n) (ac (gw y) az))))
    refine ihB g10 (fun G g10=>?_) (fun G g10=>?_)
    ·refine sh fol [(2,.i 0),(3,.bool false)] ?_
     refine Goes.ret ?_
     obtain rfl:=si g10
     exact Or.inr (⟨rfl,_,rfl,(gw2 [.i 0,.bool false] (FzW.tuple (qg.cons (Ua tI) (qg.cons (Ua tB) qg.nil))))⟩)
    refine Goes.skip ?_
    refine gh fol (kAA (w64 ((w64 (f*1000000000))+c)) e []) ?_
    refine gh fol (kAA (w64 ((w64 (f*1000000000))+c)) (w64 (e-1)) []) ?_
    exact⟨M,(ofG 62 (kAA (w64 ((w64 (f*1000000000))+c)) (w64 (e-1)) []),(kAE k.neg k.w [])),Nat.lt_succ_self _,(Sub.refl _),_,_,rfl,g10⟩
   refine Goes.exit ?_
   obtain rfl:=si g10
   exact Or.inl (⟨rfl,_,rfl,(Sub.norm [] [] rfl rfl (.drop (.keep (.same nI) .nil)) .nil)⟩)
 rintro x s' (⟨rfl,A,rfl,hsub⟩|⟨rfl,J,rfl,hret⟩)
 ·try dsimp only at h
  refine Goes.sub hsub ?_
  refine sh fol [(2,.i A),(3,.bool true)] ?_
  refine Goes.ret ?_
  obtain rfl:=si h
  exact(gw2 [.i A,.bool true] (FzW.tuple (qg.cons (Ua tI) (qg.cons (Ua tB) qg.nil))))
 try dsimp only at h
 obtain rfl:=si h
 exact hret
def ja (a:Str):Nat->Int->Option (Unit⊕Bool)
 |0,_=>none
 |K+1,b=>
  if b<(a.length:Int)then
  ((idx a b).bind fun c=>
  if(c.toNat:Int)<48 then
  some true
  else
  some (decide ((c.toNat:Int)>57)):Option Bool).bind fun d=>
  if d=true then
  some (.inr false)
  else
  ja a K (w64 (b+1))
  else
  some (.inl ())
def xP (N:Nat) (b:Str):Option Bool:=
 (ja b N 0).bind (fun
 |(.inl ())=>
 some true
 |(.inr a)=>
 some a)
theorem qeu (N:Nat) (b:Str) {res:Bool} (h:xP N b=some res):qc ZT (.fn 139) [.str b] [] (.bool res) []:=by
 unfold xP at h
 refine Ub Tryz.func139 rfl rfl (m:=20) rfl (rs:=[.tmp 2]) rfl (l:=(kAw b)) rfl ?_
 refine sh fol (kAw b) ?_
 refine sq ?_
 refine sh fol [(0,.str b),(3,.i 0)] ?_
 refine Goes.block ?_
 obtain⟨f,g2,h⟩:=bnd h
 refine Goes.imp (Q:=fun x s'=>(x= .exit 0/\(.inl ())=f/\Sub s' (ofG 20 [],[]))\/(x= .ret/\ ∃j,(.inr j)=f/\zU ZT [.tmp 2] (.bool j) .ret s')) ?_ ?_
 ·refine Uc (fun M s=> ∃(c:Int),s=(ofG 20 (kAY b c []),[])/\ja b M c=some f) ?_ (m:=N) ⟨_,rfl,g2⟩
  rintro M s ⟨c,rfl,g2⟩
  cases M with
  |zero=>simp only[ja]at g2;cases g2
  |succ M=>
   rw[ja]at g2
   refine sq ?_
   refine sh fol (kAY b c [(7,.bool (decide (c<(b.length:Int))))]) ?_
   refine ihD g2 (fun k g2=>?_) (fun k g2=>?_)
   ·refine Goes.skip ?_
    refine sq (Goes.block ?_)
    refine sq ?_
    obtain⟨n,a,g2⟩:=bnd g2
    refine Goes.cut (s':=(ofG 20 (kAY b c [(19,.bool n)]),[])) ?_ ?_
    ·obtain⟨e,d,a⟩:=bnd a
     rcases wyD a with⟨g,a⟩|⟨g,a⟩
     ·obtain rfl:=si a
      exact tr fol [2,4] (kAY b c [(19,.bool true)]) (ac (hs (.done (.opt (yP ZT 9 (.str b) (.i c))) (.int .u8 (e.toNat:Int))) (qaX st9 d)) (ac (gw g) az))
     obtain rfl:=si a
     exact tr fol [2,4,7] (kAY b c [(19,.bool (decide ((e.toNat:Int)>57)))]) (ac (hs (.done (.opt (yP ZT 9 (.str b) (.i c))) (.int .u8 (e.toNat:Int))) (qaX st9 d)) (ac (gw g) (ac (hs (.done (.opt (yP ZT 9 (.str b) (.i c))) (.int .u8 (e.toNat:Int))) (qaX st9 d)) az)))
    refine ihB g2 (fun o g2=>?_) (fun o g2=>?_)
    ·refine sh fol [(2,.bool false)] ?_
     refine Goes.ret ?_
     obtain rfl:=si g2
     exact Or.inr (⟨rfl,_,rfl,(gw2 [.bool false] (Ua tB))⟩)
    refine Goes.skip ?_
    refine gh fol (kAY b (w64 (c+1)) []) ?_
    exact⟨M,(ofG 20 (kAY b (w64 (c+1)) []),[]),Nat.lt_succ_self _,(Sub.refl _),_,rfl,g2⟩
   refine Goes.exit ?_
   obtain rfl:=si g2
   exact Or.inl (⟨rfl,rfl,(Sub.keep [] rfl rfl)⟩)
 rintro x s' (⟨rfl,rfl,hsub⟩|⟨rfl,p,rfl,hret⟩)
 ·try dsimp only at h
  refine Goes.sub hsub ?_
  refine sh fol [(2,.bool true)] ?_
  refine Goes.ret ?_
  obtain rfl:=si h
  exact(gw2 [.bool true] (Ua tB))
 try dsimp only at h
 obtain rfl:=si h
 exact hret
def zS (N:Nat) (a:Str):Option Bool:=
 (if(a.length:Int)=0 then
 some true
 else
 if(a.length:Int)>1 then
 (idx a 0).bind fun b=>
 some (decide ((b.toNat:Int)=48))
 else
 some false:Option Bool).bind fun c=>
 if c=true then
 some false
 else
 (xP N a).bind fun d=>
 some d
theorem zQ (N:Nat) (b:Str) {res:Bool} (h:zS N b=some res):qc ZT (.fn 75) [.str b] [] (.bool res) []:=by
 unfold zS at h
 refine Ub Tryz.func75 rfl rfl (m:=18) rfl (rs:=[.tmp 2]) rfl (l:=(kAw b)) rfl ?_
 refine sh fol (kAw b) ?_
 refine sq ?_
 refine sq ?_
 obtain⟨k,a,h⟩:=bnd h
 refine Goes.cut (s':=(ofG 18 [(0,.str b),(15,.bool k)],[])) ?_ ?_
 ·rcases wyD a with⟨e,a⟩|⟨e,a⟩
  ·obtain rfl:=si a
   exact tr fol [3] [(0,.str b),(15,.bool true)] (ac (gw e) az)
  rcases wyD a with⟨f,a⟩|⟨f,a⟩
  ·obtain⟨g,c,a⟩:=bnd a
   obtain rfl:=si a
   exact tr fol [3,7,9] [(0,.str b),(15,.bool (decide ((g.toNat:Int)=48)))] (ac (gw e) (ac (gw f) (ac (hs (.done (.opt (yP ZT 9 (.str b) (.i 0))) (.int .u8 (g.toNat:Int))) (qaX st9 c)) az)))
  obtain rfl:=si a
  exact tr fol [3,7] [(0,.str b),(15,.bool false)] (ac (gw e) (ac (gw f) az))
 refine ihB h (fun n h=>?_) (fun n h=>?_)
 ·refine sh fol [(2,.bool false)] ?_
  refine Goes.ret ?_
  obtain rfl:=si h
  exact(gw2 [.bool false] (Ua tB))
 refine Goes.skip ?_
 obtain⟨j,d,h⟩:=bnd h
 refine sq (gr fol [1] [(2,.bool j)] (ac (cv (qeu N b d)) az) ?_)
 refine Goes.ret ?_
 obtain rfl:=si h
 exact(gw2 [.bool j] (Ua tB))
def yN:Nat->(List Int)->Int->Option (List Int)
 |0,_,_=>none
 |K+1,b,a=>
  if(!decide (a=0))=true then
  ((if(a.tmod 1000000000)<0 then
  some (w64 (0-(a.tmod 1000000000)))
  else
  some (a.tmod 1000000000):Option Int)).bind fun c=>
  (app 8 b [c]).bind fun d=>
  yN K d (w64 (a.tdiv 1000000000))
  else
  some b
def qcn (N:Nat) (n:Int):Option vD:=
 (yN N ([]:List Int) n).bind fun b=>
 (y9 N (decide (n<0)) b).bind fun a=>
 some a
theorem qfc (N:Nat) (n:Int) {res:vD} (h:qcn N n=some res):qc ZT (.fn 140) [.i n] [] (.agg (kAy res.neg res.w)) []:=by
 unfold qcn at h
 refine Ub Tryz.func140 rfl rfl (m:=25) rfl (rs:=[.cell 2 138]) rfl (l:=[(0,.i n)]) rfl ?_
 refine sg fol ((0,.i n)::(kAW [])) (kQ []) ?_
 refine sh fol ((0,.i n)::(kAW [(3,.nilslice)])) ?_
 refine sh fol ((0,.i n)::(kAW [(3,.nilslice),(4,.bool (decide (n<0)))])) ?_
 refine sq (Goes.block ?_)
 obtain⟨k,g4,h⟩:=bnd h
 refine Goes.imp (Q:=fun x s'=>(x= .exit 0/\ ∃d,d=k/\Sub s' (ofG 25 (kAH d (decide (n<0)) []),(kQ (kB d []))))) ?_ ?_
 ·refine Goes.sub (s':=(ofG 25 ((0,.i n)::(kAW [(3,.gslice 1 ([]:List Int).length 1),(4,.bool (decide (n<0)))])),(kQ kAm))) (Sub.norm [] [some 0,none] rfl rfl (.keep (.same nI) (.kp (.keep .nil (.keep (.same nB) .nil)))) (.kb rfl (.same sn) (.fresh .nil))) ?_
  refine Uc (fun M s=> ∃(c:List Int) (b:Int),s=(ofG 25 ((0,.i b)::(kAH c (decide (n<0)) [])),(kQ (kB c [])))/\yN M c b=some k) ?_ (m:=N) ⟨_,_,rfl,g4⟩
  rintro M s ⟨c,b,rfl,g4⟩
  cases M with
  |zero=>simp only[yN]at g4;cases g4
  |succ M=>
   rw[yN]at g4
   refine sq ?_
   refine sh fol ((0,.i b)::(kAH c (decide (n<0)) [(9,.bool (!decide (b=0)))])) ?_
   refine ihB g4 (fun o g4=>?_) (fun o g4=>?_)
   ·refine Goes.skip ?_
    refine Goes.block ?_
    refine sh fol ((0,.i b)::(kAH c (decide (n<0)) (kA0 (b.tmod 1000000000)))) ?_
    refine sq ?_
    refine sh fol ((0,.i b)::(kAH c (decide (n<0)) [(5,.i (b.tmod 1000000000)),(13,.bool (decide ((b.tmod 1000000000)<0)))])) ?_
    obtain⟨p,g7,g4⟩:=bnd g4
    refine Goes.imp (Q:=fun x s'=>(x= .normal/\ ∃e,e=p/\Sub s' (ofG 25 ((0,.i b)::(kAH c (decide (n<0)) (kA0 e))),(kQ (kB c []))))) ?_ ?_
    ·refine ihD g7 (fun q g7=>?_) (fun q g7=>?_)
     ·refine gh fol ((0,.i b)::(kAH c (decide (n<0)) (kA0 (w64 (0-(b.tmod 1000000000)))))) ?_
      obtain rfl:=si g7
      exact⟨rfl,_,rfl,(Sub.refl _)⟩
     refine Goes.skip ?_
     obtain rfl:=si g7
     exact⟨rfl,_,rfl,(Sub.keep [0,2,3,4,5] rfl rfl)⟩
    rintro x s' ⟨rfl,e,rfl,hsub⟩
    refine Goes.sub hsub ?_
    obtain⟨f,j,g4⟩:=bnd g4
    refine sq (gq fol [3] ((0,.i b)::(kAW [(3,.gslice 3 f.length 1),(4,.bool (decide (n<0)))])) (kQ (kAf e (kB f []))) (ac (hs (.run [1,2] (vI ZT [40,40] (.gslice 1 c.length 1) (.slice 2 0 1 1 1)) (kQ (kB c (kA2 e))) (.gslice 3 f.length 1) (kQ (kAf e (kB f []))) true) (qal zy (E:=encI) rfl (qdC (E:=encI) (ys:=[e]) rfl rfl rfl rfl) (qfk (E:=encI) (l:=c) rfl rfl rfl j rfl))) az) ?_)
    refine gh fol ((0,.i (w64 (b.tdiv 1000000000)))::(kAW [(3,.gslice 3 f.length 1),(4,.bool (decide (n<0)))])) ?_
    exact⟨M,(ofG 25 ((0,.i (w64 (b.tdiv 1000000000)))::(kAH f (decide (n<0)) [])),(kQ (kB f []))),Nat.lt_succ_self _,(Sub.norm [] [some 0,some 3] rfl rfl (.keep (.same nI) (.kp (.keep (.gslice rfl) (.keep (.same nB) .nil)))) (.kb rfl (.same sn) (.ks .nil))),_,_,rfl,g4⟩
   refine Goes.exit ?_
   obtain rfl:=si g4
   exact⟨rfl,_,rfl,(Sub.keep [2,3,4] rfl rfl)⟩
 rintro x s' ⟨rfl,d,rfl,hsub⟩
 refine Goes.sub hsub ?_
 obtain⟨a,g,h⟩:=bnd h
 refine sq (gq fol [2] (kAW []) (kAE a.neg a.w (kAS d)) (ac (hs (.callF 138 [.bool (decide (n<0)),.gslice 1 d.length 1] (kQ (kB d [])) [1] (kAy (decide (n<0)) d) (.agg (kAy a.neg a.w))) (xU (FzL.cons (Fz.still tB) (FzL.cons (Fz.gs (E:=encI) rfl rfl (nl rfl)) FzL.nil)) (qb1 N (decide (n<0)) d g) (Still.agg (AllST.cons tB (AllST.cons (qy encI _ (nl rfl)) AllST.nil))))) az) ?_)
 refine Goes.sub (show Sub (ofG 25 (kAW []),(kAE a.neg a.w (kAS d))) (ofG 25 (kAW []),(kAE a.neg a.w []))from(Sub.norm [] [some 0] rfl rfl (.kp .nil) (.kb rfl (.same sn) .nil))) ?_
 refine Goes.ret ?_
 obtain rfl:=si h
 exact(gw2 [.agg (kAy a.neg a.w)] (FzW.agg (qg.cons (Ua tB) (qg.cons (Ua (qy encI _ (nl rfl))) qg.nil))))
def qap (N:Nat) (a:Str):Option (vD×vD):=
 (yM N a).bind fun b=>
 if b=(a.length:Int)then
 (vC N a).bind fun c=>
 (qcn N 1).bind fun d=>
 some (c,d)
 else
 (cut a 0 b).bind fun e=>
 (vC N e).bind fun f=>
 (cut a (w64 (b+1)) (a.length:Int)).bind fun g=>
 (vC N g).bind fun h=>
 some (f,h)
theorem qeU (N:Nat) (a:Str) {res:vD×vD} (h:qap N a=some res):qc ZT (.fn 76) [.str a] [] (.tuple [.agg [.bool res.1.neg,vl encI res.1.w],.agg [.bool res.2.neg,vl encI res.2.w]]) []:=by
 unfold qap at h
 refine Ub Tryz.func76 rfl rfl (m:=25) rfl (rs:=[.cell 2 138,.cell 3 138]) rfl (l:=(kAw a)) rfl ?_
 refine sg fol ((0,.str a)::(kAW [(3,.ptr 1 0)])) (kQ (kQ [])) ?_
 refine sh fol (kAW [(3,.ptr 1 0),(4,.str a)]) ?_
 obtain⟨b,c,h⟩:=bnd h
 refine sq (gr fol [1] (kAW ((3,.ptr 1 0)::(4,.str a)::(kA0 b))) (ac (cv (qa2 N a c)) az) ?_)
 refine sq ?_
 refine sh fol (kAW [(3,.ptr 1 0),(4,.str a),(5,.i b),(12,.bool (decide (b=(a.length:Int))))]) ?_
 refine ihD h (fun t h=>?_) (fun t h=>?_)
 ·obtain⟨n,d,h⟩:=bnd h
  obtain⟨o,e,h⟩:=bnd h
  refine sq (gq fol [1,2] (kAW [(3,.ptr 1 0)]) (kAE n.neg n.w (kAE o.neg o.w [])) (ac (cv (xV N a d)) (ac (cv (qfc N 1 e)) az)) ?_)
  refine Goes.ret ?_
  obtain rfl:=si h
  exact(gw2 [.agg [.bool n.neg,vl encI n.w],.agg [.bool o.neg,vl encI o.w]] (FzW.tuple (qg.cons (FzW.agg (qg.cons (Ua tB) (qg.cons (Ua (qy encI _ (nl rfl))) qg.nil))) (qg.cons (FzW.agg (qg.cons (Ua tB) (qg.cons (Ua (qy encI _ (nl rfl))) qg.nil))) qg.nil))))
 refine Goes.skip ?_
 obtain⟨r,f,h⟩:=bnd h
 obtain⟨p,g,h⟩:=bnd h
 obtain⟨s,j,h⟩:=bnd h
 obtain⟨q,k,h⟩:=bnd h
 refine sq (gq fol [2,3,7,8] (kAW [(3,.ptr 1 0)]) (kAE p.neg p.w (kAE q.neg q.w [])) (ac (hs (.done (.opt (zI ZT 9 (.str a) none (some (.i b)) none)) (.str r)) (yG st9 none (some b) f)) (ac (cv (xV N r g)) (ac (hs (.done (.opt (zI ZT 9 (.str a) (some (.i (w64 (b+1)))) none none)) (.str s)) (yG st9 (some (w64 (b+1))) none j)) (ac (cv (xV N s k)) az)))) ?_)
 refine Goes.ret ?_
 obtain rfl:=si h
 exact(gw2 [.agg [.bool p.neg,vl encI p.w],.agg [.bool q.neg,vl encI q.w]] (FzW.tuple (qg.cons (FzW.agg (qg.cons (Ua tB) (qg.cons (Ua (qy encI _ (nl rfl))) qg.nil))) (qg.cons (FzW.agg (qg.cons (Ua tB) (qg.cons (Ua (qy encI _ (nl rfl))) qg.nil))) qg.nil))))
def qM (a:List Int) (b:List Int):Nat->Int->Option (Unit⊕Int)
 |0,_=>none
 |K+1,c=>
  if c>=0 then
  (idx a c).bind fun d=>
  (idx b c).bind fun e=>
  if d<e then
  some (.inr (-1))
  else
  if d>e then
  some (.inr 1)
  else
  qM a b K (w64 (c-1))
  else
  some (.inl ())
def jQ (N:Nat) (a:List Int) (b:List Int):Option Int:=
 if(!decide ((a.length:Int)=(b.length:Int)))=true then
 if(a.length:Int)<(b.length:Int)then
 some (-1)
 else
 some 1
 else
 (qM a b N (w64 ((a.length:Int)-1))).bind (fun
 |(.inl ())=>
 some 0
 |(.inr c)=>
 some c)
theorem qbS (N:Nat) (a:List Int) (b:List Int) {res:Int} (h:jQ N a b=some res):qc ZT (.fn 197) (kAs a b) [] (.i res) []:=by
 unfold jQ at h
 refine Ub Tryz.func197 rfl rfl (m:=41) rfl (rs:=[.tmp 4]) rfl (l:=(kG a b [])) rfl ?_
 refine sh fol (kG a b []) ?_
 refine sq ?_
 refine sh fol (kG a b [(10,.bool (!decide ((a.length:Int)=(b.length:Int))))]) ?_
 refine ihB h (fun o h=>?_) (fun o h=>?_)
 ·refine sq ?_
  refine sh fol [(15,.bool (decide ((a.length:Int)<(b.length:Int))))] ?_
  refine ihD h (fun p h=>?_) (fun p h=>?_)
  ·refine sh fol [(4,.i (-1))] ?_
   refine Goes.ret ?_
   obtain rfl:=si h
   exact(gw2 [.i (-1)] (Ua tI))
  refine Goes.skip ?_
  refine sh fol [(4,.i 1)] ?_
  refine Goes.ret ?_
  obtain rfl:=si h
  exact(gw2 [.i 1] (Ua tI))
 refine Goes.skip ?_
 refine sq ?_
 refine sh fol (kG a b (kA0 (w64 ((a.length:Int)-1)))) ?_
 refine Goes.block ?_
 obtain⟨f,g4,h⟩:=bnd h
 refine Goes.imp (Q:=fun x s'=>(x= .exit 0/\(.inl ())=f/\Sub s' (ofG 41 [],[]))\/(x= .ret/\ ∃j,(.inr j)=f/\zU ZT [.tmp 4] (.i j) .ret s')) ?_ ?_
 ·refine Uc (fun M s=> ∃(e:Int),s=(ofG 41 (kG a b (kA0 e)),[])/\qM a b M e=some f) ?_ (m:=N) ⟨_,rfl,g4⟩
  rintro M s ⟨e,rfl,g4⟩
  cases M with
  |zero=>simp only[qM]at g4;cases g4
  |succ M=>
   rw[qM]at g4
   refine sq ?_
   refine sh fol (kG a b [(5,.i e),(20,.bool (decide (e>=0)))]) ?_
   refine ihD g4 (fun q g4=>?_) (fun q g4=>?_)
   ·refine Goes.skip ?_
    refine sq (Goes.block ?_)
    refine sq ?_
    obtain⟨k,c,g4⟩:=bnd g4
    obtain⟨n,d,g4⟩:=bnd g4
    refine sq (gr fol [2,3,6,7] (kG a b [(5,.i e),(31,.bool (decide (k<n)))]) (ac (iv zy encI c) (ac (lv 0 ce3 encI c rfl) (ac (iv zy encI d) (ac (lv 0 ce3 encI d rfl) az)))) ?_)
    refine ihD g4 (fun r g4=>?_) (fun r g4=>?_)
    ·refine sh fol [(4,.i (-1))] ?_
     refine Goes.ret ?_
     obtain rfl:=si g4
     exact Or.inr (⟨rfl,_,rfl,(gw2 [.i (-1)] (Ua tI))⟩)
    refine Goes.skip ?_
    refine sq (gr fol [2,3,6,7] (kG a b [(5,.i e),(40,.bool (decide (k>n)))]) (ac (iv zy encI c) (ac (lv 0 ce3 encI c rfl) (ac (iv zy encI d) (ac (lv 0 ce3 encI d rfl) az)))) ?_)
    refine ihD g4 (fun g g4=>?_) (fun g g4=>?_)
    ·refine sh fol [(4,.i 1)] ?_
     refine Goes.ret ?_
     obtain rfl:=si g4
     exact Or.inr (⟨rfl,_,rfl,(gw2 [.i 1] (Ua tI))⟩)
    refine Goes.skip ?_
    refine gh fol (kG a b (kA0 (w64 (e-1)))) ?_
    exact⟨M,(ofG 41 (kG a b (kA0 (w64 (e-1)))),[]),Nat.lt_succ_self _,(Sub.refl _),_,rfl,g4⟩
   refine Goes.exit ?_
   obtain rfl:=si g4
   exact Or.inl (⟨rfl,rfl,(Sub.keep [] rfl rfl)⟩)
 rintro x s' (⟨rfl,rfl,hsub⟩|⟨rfl,t,rfl,hret⟩)
 ·try dsimp only at h
  refine Goes.sub hsub ?_
  refine sh fol [(4,.i 0)] ?_
  refine Goes.ret ?_
  obtain rfl:=si h
  exact(gw2 [.i 0] (Ua tI))
 try dsimp only at h
 obtain rfl:=si h
 exact hret
def zF (a:List Int) (d:Int):Nat->(List Int)->Int->Int->Option ((List Int)×Int)
 |0,_,_,_=>none
 |K+1,c,e,b=>
  if b>=0 then
  (idx a b).bind fun i=>
  (qbO .i64 (w64 ((w64 (e*1000000000))+i)) d).bind fun f=>
  (idx c b).bind fun j=>
  (put c b f).bind fun g=>
  (xk .i64 (w64 ((w64 (e*1000000000))+i)) d).bind fun h=>
  zF a d K g h (w64 (b-1))
  else
  some (c,e)
def vQ (N:Nat) (a:List Int) (d:Int):Option ((List Int)×Int):=
 (mk 8 (a.length:Int) 0).bind fun c=>
 (zF a d N c 0 (w64 ((a.length:Int)-1))).bind fun(e,f)=>
 (vG N e).bind fun b=>
 some (b,f)
theorem qa7 (N:Nat) (a:List Int) (d:Int) {res:(List Int)×Int} (h:vQ N a d=some res):qc ZT (.fn 198) [vl encI a,.i d] [] (.tuple [vl encI res.1,.i res.2]) []:=by
 unfold vQ at h
 refine Ub Tryz.func198 rfl rfl (m:=39) rfl (rs:=[.tmp 4,.tmp 5]) rfl (l:=(kS a [(1,.i d)])) rfl ?_
 refine sh fol (kS a [(1,.i d)]) ?_
 obtain⟨q,B,h⟩:=bnd h
 refine sq (gq fol [2] (kS a ((1,.i d)::(kP q []))) (kB q []) (ac (hs (.run [] (zt ZT 40 (.i (a.length:Int)) (.i (a.length:Int))) [] (.slice 0 0 q.length q.length 1) (kB q []) false) (qaA zy (E:=encI) (z:=0) rfl (by kernel_rfl) B rfl)) az) ?_)
 refine sh fol (kS a ((1,.i d)::(kP q [(7,.i 0)]))) ?_
 refine sq ?_
 refine sh fol (kS a ((1,.i d)::(kP q [(7,.i 0),(8,.i (w64 ((a.length:Int)-1)))]))) ?_
 refine Goes.block ?_
 obtain⟨C,g7,h⟩:=bnd h
 refine Goes.imp (Q:=fun x s'=>(x= .exit 0/\ ∃f r,(f,r)=C/\Sub s' (ofG 39 (kP f [(7,.i r)]),(kB f [])))) ?_ ?_
 ·refine Uc (fun M s=> ∃(e:List Int) (n:Int) (c:Int),s=(ofG 39 (kS a ((1,.i d)::(kP e [(7,.i n),(8,.i c)]))),(kB e []))/\zF a d M e n c=some C) ?_ (m:=N) ⟨_,_,_,rfl,g7⟩
  rintro M s ⟨e,n,c,rfl,g7⟩
  cases M with
  |zero=>simp only[zF]at g7;cases g7
  |succ M=>
   rw[zF]at g7
   refine sq ?_
   refine sh fol (kS a ((1,.i d)::(kP e [(7,.i n),(8,.i c),(17,.bool (decide (c>=0)))]))) ?_
   refine ihD g7 (fun D g7=>?_) (fun D g7=>?_)
   ·refine Goes.skip ?_
    refine sq (Goes.block ?_)
    obtain⟨A,p,g7⟩:=bnd g7
    refine sq (gr fol [4,5] (kS a ((1,.i d)::(kP e [(8,.i c),(9,.i (w64 ((w64 (n*1000000000))+A)))]))) (ac (iv zy encI p) (ac (lv 0 ce3 encI p rfl) az)) ?_)
    obtain⟨t,u,g7⟩:=bnd g7
    obtain⟨F,g,g7⟩:=bnd g7
    obtain⟨b,j,g7⟩:=bnd g7
    refine sq (gq fol [4,5,6] (kS a ((1,.i d)::(kP e [(8,.i c),(9,.i (w64 ((w64 (n*1000000000))+A)))]))) (kB b []) (ac (hs (.done (.opt (zb ZT .quo 3 (.tmp 29) (.tmp 30) (.i (w64 ((w64 (n*1000000000))+A))) (.i d))) (.i t)) (qbP u)) (ac (hs (.done (.opt (qb ZT 40 (.slice 0 0 e.length e.length 1) (.i c))) (.ptr 0 ((c:Int).toNat*1+0))) (vZ zy g)) (ac (hs (.run [0] (qx ZT 3 (.ptr 0 ((c:Int).toNat*1+0)) (.i t)) (kB e []) .undef (kB b []) true) (yc (E:=encI) (l:=e) (y:=t) rfl (show _=some 1 by kernel_rfl) rfl g rfl rfl rfl rfl rfl j rfl)) az))) ?_)
    refine Goes.sub (show Sub (ofG 39 (kS a ((1,.i d)::(kP e [(8,.i c),(9,.i (w64 ((w64 (n*1000000000))+A)))]))),(kB b [])) (ofG 39 (kS a ((1,.i d)::(kP b [(8,.i c),(9,.i (w64 ((w64 (n*1000000000))+A)))]))),(kB b []))from(Sub.norm [] [some 0] rfl rfl (.keep (.same (qd encI _)) (.keep (.same nI) (.keep (.sliceE rfl (jg j)) (.keep (.same nI) (.keep (.same nI) .nil))))) (.ks .nil))) ?_
    obtain⟨o,v,g7⟩:=bnd g7
    refine gr fol [2] (kS a ((1,.i d)::(kP b [(7,.i o),(8,.i c)]))) (ac (hs (.done (.opt (zb ZT .rem 3 (.tmp 33) (.tmp 34) (.i (w64 ((w64 (n*1000000000))+A))) (.i d))) (.i o)) (qan v)) az) ?_
    refine gh fol (kS a ((1,.i d)::(kP b [(7,.i o),(8,.i (w64 (c-1)))]))) ?_
    exact⟨M,(ofG 39 (kS a ((1,.i d)::(kP b [(7,.i o),(8,.i (w64 (c-1)))]))),(kB b [])),Nat.lt_succ_self _,(Sub.refl _),_,_,_,rfl,g7⟩
   refine Goes.exit ?_
   obtain rfl:=si g7
   exact⟨rfl,_,_,rfl,(Sub.keep [6,7] rfl rfl)⟩
 rintro x s' ⟨rfl,f,r,rfl,hsub⟩
 try dsimp only at h
 refine Goes.sub hsub ?_
 obtain⟨k,w,h⟩:=bnd h
 refine sq (gq fol [1] ((4,vl encI k)::(kA0 r)) (kAS f) (ac (hs (.callF 196 [.slice 0 0 f.length f.length 1] (kB f []) [0] [vl encI f] (vl encI k)) (xU (FzL.cons (Fz.sl (E:=encI) rfl rfl (nl rfl)) FzL.nil) (yC N f w) (qy encI _ (nl rfl)))) az) ?_)
 refine Goes.sub (show Sub (ofG 39 ((4,vl encI k)::(kA0 r)),(kAS f)) (ofG 39 ((4,vl encI k)::(kA0 r)),[])from(Sub.norm [] [] rfl rfl (.keep (.same (qd encI _)) (.keep (.same nI) .nil)) .nil)) ?_
 refine Goes.ret ?_
 obtain rfl:=si h
 exact(gw2 [vl encI k,.i r] (FzW.tuple (qg.cons (Ua (qy encI _ (nl rfl))) (qg.cons (Ua tI) qg.nil))))
end Go.Av
