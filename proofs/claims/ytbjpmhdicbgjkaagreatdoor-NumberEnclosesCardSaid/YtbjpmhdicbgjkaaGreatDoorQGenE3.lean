/-
  Walks of functions: what each computes, as a plain function.
-/
import Derived.Test.YtbjpmhdicbgjkaaGreatDoorQGenE2
open Go.IntKind(wrap)
noncomputable section
namespace Go.Av
open Go.Proofs Go.RowKit
set_option linter.unusedSectionVars false
set_option linter.unusedVariables false
set_option linter.unusedSimpArgs false
set_option maxRecDepth 100000
def qaZ (a:qo):Option qo:=
 if a.s<0 then
 (zI a).bind fun b=>
 some b
 else
 some a
theorem qet (a:qo) {res:qo} (h:qaZ a=some res):qc ZT (.fn 184) [.agg (nz1 a)] [] (.agg (nz1 res)) []:=by
 unfold qaZ at h
 refine Ub Tryz.func184 rfl rfl (m:=9) rfl (rs:=[.cell 2 106]) rfl (l:=[(0,.agg (nz1 a))]) rfl ?_
 refine sg fol (kAH []) [.cells (nz1 a),bZ] ?_
 refine sq ?_
 refine sh fol (kAH [(5,.bool (decide (a.s<0)))]) ?_
 refine ihD h (fun d h=>?_) (fun d h=>?_)
 ·obtain⟨c,b,h⟩:=bnd h
  refine sq (gq fol [1,2] kBX [.cells (nz1 a),.cells (nz1 c)] (ac (cv (vH a b)) (ac (hs (.run [1] (qp ZT 106 (.ptr 1 0) (.agg (nz1 c))) [.cells (nz1 a),bZ] .undef [.cells (nz1 a),.cells (nz1 c)] true) (kw (n:=2) (by kernel_rfl) rfl rfl rfl rfl (cac rfl (cac nvc can)) rfl)) az)) ?_)
  refine Goes.ret ?_
  obtain rfl:=si h
  exact(gw2 [.agg (nz1 c)] (FzW.agg (qb.cons (Ua tI) (qb.cons (Ua (qm (qa .u64) _ (nl rfl))) qb.nil))))
 refine Goes.skip ?_
 refine sq (gq fol [1] kBX [.cells (nz1 a),.cells (nz1 a)] (ac (hs (.run [1] (qp ZT 106 (.ptr 1 0) (.agg (nz1 a))) [.cells (nz1 a),bZ] .undef [.cells (nz1 a),.cells (nz1 a)] true) (kw (n:=2) (by kernel_rfl) rfl rfl rfl rfl (cac rfl (cac nvc can)) rfl)) az) ?_)
 refine Goes.ret ?_
 obtain rfl:=si h
 exact(gw2 [.agg (nz1 a)] (FzW.agg (qb.cons (Ua tI) (qb.cons (Ua (qm (qa .u64) _ (nl rfl))) qb.nil))))
def yx (N:Nat):Nat->Int->(List Int)->Int->(List Int)->Option (Int×(List Int))
 |0,_,_,_,_=>none
 |K+1,e,f,b,c=>
  (zg (⟨b,c⟩:qo)).bind fun d=>
  if(!decide (d=0))=true then
  (jy N (⟨e,f⟩:qo) (⟨b,c⟩:qo)).bind fun a=>
  yx N K b c a.2.s a.2.w
  else
  some (e,f)
def qcI (N:Nat) (a:qo) (b:qo):Option qo:=
 (qaZ a).bind fun c=>
 (qaZ b).bind fun d=>
 (yx N N c.s c.w d.s d.w).bind fun(e,f)=>
 some (⟨e,f⟩:qo)
theorem qh0 (N:Nat) (a:qo) (b:qo) {res:qo} (h:qcI N a b=some res):qc ZT (.fn 131) [.agg (nz1 a),.agg (nz1 b)] [] (.agg (nz1 res)) []:=by
 unfold qcI at h
 refine Ub Tryz.func131 rfl rfl (m:=23) rfl (rs:=[.cell 4 106]) rfl (l:=[(0,.agg (nz1 a)),(1,.agg (nz1 b))]) rfl ?_
 refine sg fol (kH []) [.cells (nz1 a),.cells (nz1 b),bZ] ?_
 obtain⟨p,q,h⟩:=bnd h
 obtain⟨t,r,h⟩:=bnd h
 refine sq (gq fol [1,3,4,5] (kH []) [.cells (nz1 p),.cells (nz1 t),bZ] (ac (cv (qet a q)) (ac (cv (qet b r)) (ac (hs (.run [0] (qp ZT 106 (.ptr 0 0) (.agg (nz1 p))) [.cells (nz1 a),.cells (nz1 b),bZ] .undef [.cells (nz1 p),.cells (nz1 b),bZ] true) (kw (n:=2) (by kernel_rfl) rfl rfl rfl rfl (cac rfl (cac nvc can)) rfl)) (ac (hs (.run [1] (qp ZT 106 (.ptr 1 0) (.agg (nz1 t))) [.cells (nz1 p),.cells (nz1 b),bZ] .undef [.cells (nz1 p),.cells (nz1 t),bZ] true) (kw (n:=2) (by kernel_rfl) rfl rfl rfl rfl (cac rfl (cac nvc can)) rfl)) az)))) ?_)
 refine sq (Goes.block ?_)
 obtain⟨w,g9,h⟩:=bnd h
 refine Goes.imp (Q:=fun x s'=>(x= .exit 0/\ ∃f g,(f,g)=w/\Sub s' (ofG 23 (kAM (kBm [])),[.cells (ni1 f g),bZ]))) ?_ ?_
 ·refine Uc (fun M s=> ∃(i:Int) (j:List Int) (d:Int) (e:List Int),s=(ofG 23 (kH []),[.cells (ni1 i j),.cells (ni1 d e),bZ])/\yx N M i j d e=some w) ?_ (m:=N) ⟨_,_,_,_,rfl,g9⟩
  rintro M s ⟨i,j,d,e,rfl,g9⟩
  cases M with
  |zero=>simp only[yx]at g9;cases g9
  |succ M=>
   rw[yx]at g9
   refine sq ?_
   obtain⟨u,k,g9⟩:=bnd g9
   refine sq (gr fol [1] (kH (kBT (!decide (u=0)))) (ac (cv (yD (⟨d,e⟩:qo) k)) az) ?_)
   refine ihB g9 (fun v g9=>?_) (fun v g9=>?_)
   ·refine Goes.skip ?_
    refine Goes.block ?_
    obtain⟨c,o,g9⟩:=bnd g9
    refine sq (gq fol [2,8,9] (kH [(6,.ptr 4 0)]) [.cells (ni1 i j),.cells (ni1 d e),bZ,.cells (nz1 c.1),.cells (nz1 c.2)] (ac (cv (qcH N (⟨i,j⟩:qo) (⟨d,e⟩:qo) o)) (ac (hs (.run [3] (qp ZT 106 (.ptr 3 0) (.agg (nz1 c.1))) [.cells (ni1 i j),.cells (ni1 d e),bZ,bZ,bZ] .undef [.cells (ni1 i j),.cells (ni1 d e),bZ,.cells (nz1 c.1),bZ] true) (kw (n:=2) (by kernel_rfl) rfl rfl rfl rfl (cac rfl (cac nvc can)) rfl)) (ac (hs (.run [4] (qp ZT 106 (.ptr 4 0) (.agg (nz1 c.2))) [.cells (ni1 i j),.cells (ni1 d e),bZ,.cells (nz1 c.1),bZ] .undef [.cells (ni1 i j),.cells (ni1 d e),bZ,.cells (nz1 c.1),.cells (nz1 c.2)] true) (kw (n:=2) (by kernel_rfl) rfl rfl rfl rfl (cac rfl (cac nvc can)) rfl)) az))) ?_)
    refine gq fol [2,3] (kH []) [.cells (ni1 d e),.cells (nz1 c.2),bZ,.cells (nz1 c.1),.cells (nz1 c.2)] (ac (hs (.run [0] (qp ZT 106 (.ptr 0 0) (.agg (ni1 d e))) [.cells (ni1 i j),.cells (ni1 d e),bZ,.cells (nz1 c.1),.cells (nz1 c.2)] .undef [.cells (ni1 d e),.cells (ni1 d e),bZ,.cells (nz1 c.1),.cells (nz1 c.2)] true) (kw (n:=2) (by kernel_rfl) rfl rfl rfl rfl (cac rfl (cac nvc can)) rfl)) (ac (hs (.run [1] (qp ZT 106 (.ptr 1 0) (.agg (nz1 c.2))) [.cells (ni1 d e),.cells (ni1 d e),bZ,.cells (nz1 c.1),.cells (nz1 c.2)] .undef [.cells (ni1 d e),.cells (nz1 c.2),bZ,.cells (nz1 c.1),.cells (nz1 c.2)] true) (kw (n:=2) (by kernel_rfl) rfl rfl rfl rfl (cac rfl (cac nvc can)) rfl)) az)) ?_
    exact⟨M,(ofG 23 (kH []),[.cells (ni1 d e),.cells (nz1 c.2),bZ]),Nat.lt_succ_self _,(Sub.norm [] [some 0,some 1,some 2] rfl rfl (.kp (.kp (.kp .nil))) (.kb rfl (.same sn) (.kb rfl (.same sn) (.kb rfl (.same sn) .nil)))),_,_,_,_,rfl,g9⟩
   refine Goes.exit ?_
   obtain rfl:=si g9
   exact⟨rfl,_,_,rfl,(Sub.norm [] [some 0,some 2] rfl rfl (.kp (.drop (.kp .nil))) (.kb rfl (.same sn) (.kb rfl (.same sn) .nil)))⟩
 rintro x s' ⟨rfl,f,g,rfl,hsub⟩
 try dsimp only at h
 refine Goes.sub hsub ?_
 refine sq (gq fol [1] (kBm []) [.cells (ni1 f g),.cells (ni1 f g)] (ac (hs (.run [1] (qp ZT 106 (.ptr 1 0) (.agg (ni1 f g))) [.cells (ni1 f g),bZ] .undef [.cells (ni1 f g),.cells (ni1 f g)] true) (kw (n:=2) (by kernel_rfl) rfl rfl rfl rfl (cac rfl (cac nvc can)) rfl)) az) ?_)
 refine Goes.ret ?_
 obtain rfl:=si h
 exact(gw2 [.agg (ni1 f g)] (FzW.agg (qb.cons (Ua tI) (qb.cons (Ua (qm (qa .u64) _ (nl rfl))) qb.nil))))
def jF (b:List Int) (l:Int) (g:Int):Nat->(List Int)->Int->Int->Option ((List Int)×Int)
 |0,_,_,_=>none
 |K+1,h,a,c=>
  if a<(b.length:Int)then
  (idx b a).bind fun i=>
  (bits_Mul64 l i).bind fun d=>
  (idx h (w64 (g+a))).bind fun j=>
  (qag d.2 j 0).bind fun e=>
  (qag e.1 c 0).bind fun f=>
  (put h (w64 (g+a)) f.1).bind fun k=>
  jF b l g K k (w64 (a+1)) (wrap .u64 ((wrap .u64 (d.1+e.2))+f.2))
  else
  some (h,c)
def jL (N:Nat) (a:List Int) (b:List Int):Nat->(List Int)->Int->Option (List Int)
 |0,_,_=>none
 |K+1,g,c=>
  if c<(a.length:Int)then
  (idx a c).bind fun h=>
  (jF b h c N g 0 0).bind fun(d,e)=>
  (idx d (w64 (c+(b.length:Int)))).bind fun i=>
  (put d (w64 (c+(b.length:Int))) e).bind fun f=>
  jL N a b K f (w64 (c+1))
  else
  some g
def qaD (N:Nat) (a:List Int) (b:List Int):Option (List Int):=
 (mk 8 (w64 ((a.length:Int)+(b.length:Int))) 0).bind fun d=>
 (jL N a b N d 0).bind fun e=>
 (xc N e).bind fun c=>
 some c
theorem qgQ (N:Nat) (a:List Int) (b:List Int) {res:List Int} (h:qaD N a b=some res):qc ZT (.fn 206) [vl (qa .u64) a,vl (qa .u64) b] [] (vl (qa .u64) res) []:=by
 unfold qaD at h
 refine Ub Tryz.func206 rfl rfl (m:=80) rfl (rs:=[.tmp 4]) rfl (l:=[(0,vl (qa .u64) a),(1,vl (qa .u64) b)]) rfl ?_
 refine sh fol [(0,vl (qa .u64) a),(1,vl (qa .u64) b)] ?_
 obtain⟨L,O,h⟩:=bnd h
 refine sq (gq fol [5] ((0,vl (qa .u64) a)::(1,vl (qa .u64) b)::(kG L [])) [.cells (L.flatMap (qa .u64).c)] (ac (hs (.run [] (jh ZT 104 (.i (w64 ((a.length:Int)+(b.length:Int)))) (.i (w64 ((a.length:Int)+(b.length:Int))))) [] (.slice 0 0 L.length L.length 1) [.cells (L.flatMap (qa .u64).c)] false) (qcQ qV (E:=(qa .u64)) (z:=0) rfl (by kernel_rfl) O rfl)) az) ?_)
 refine sq ?_
 refine sh fol ((1,vl (qa .u64) b)::(kG L [(20,vl (qa .u64) a),(21,.i (a.length:Int)),(22,.i 0)])) ?_
 refine Goes.block ?_
 obtain⟨Y,g5,h⟩:=bnd h
 refine Goes.imp (Q:=fun x s'=>(x= .exit 0/\ ∃u,u=Y/\Sub s' (ofG 80 (kG u []),[.cells (u.flatMap (qa .u64).c)]))) ?_ ?_
 ·refine Uc (fun M s=> ∃(F:List Int) (d:Int),s=(ofG 80 ((1,vl (qa .u64) b)::(kG F ((20,vl (qa .u64) a)::(kAL (a.length:Int) d [])))),[.cells (F.flatMap (qa .u64).c)])/\jL N a b M F d=some Y) ?_ (m:=N) ⟨_,_,rfl,g5⟩
  rintro M s ⟨F,d,rfl,g5⟩
  cases M with
  |zero=>simp only[jL]at g5;cases g5
  |succ M=>
   rw[jL]at g5
   refine sh fol ((1,vl (qa .u64) b)::(kG F ((20,vl (qa .u64) a)::(kAL (a.length:Int) d [(23,.bool (decide (d<(a.length:Int))))])))) ?_
   refine sq ?_
   refine ihD g5 (fun Z g5=>?_) (fun Z g5=>?_)
   ·refine Goes.skip ?_
    refine sq (Goes.block ?_)
    obtain⟨q,G,g5⟩:=bnd g5
    refine sq (gr fol [1,2] ((1,vl (qa .u64) b)::(kG F ((6,.i d)::(kAv q ((20,vl (qa .u64) a)::(kAL (a.length:Int) d [])))))) (ac (iv qV (qa .u64) G) (ac (lv 0 z8 (qa .u64) G rfl) az)) ?_)
    refine sh fol ((1,vl (qa .u64) b)::(kG F ((6,.i d)::(kAv q (kB8 ((20,vl (qa .u64) a)::(kAL (a.length:Int) d []))))))) ?_
    refine sq ?_
    refine sh fol ((1,vl (qa .u64) b)::(kG F ((6,.i d)::(kAv q (kB8 ((20,vl (qa .u64) a)::(kAL (a.length:Int) d [(27,vl (qa .u64) b),(28,.i (b.length:Int)),(29,.i 0)]))))))) ?_
    refine Goes.block ?_
    obtain⟨P,g13,g5⟩:=bnd g5
    refine Goes.imp (Q:=fun x s'=>(x= .exit 2/\ ∃k v,(k,v)=P/\Sub s' (ofG 80 ((1,vl (qa .u64) b)::(kG k ((6,.i d)::(8,.int .u64 v)::(20,vl (qa .u64) a)::(kAL (a.length:Int) d [])))),[.cells (k.flatMap (qa .u64).c)]))) ?_ ?_
    ·refine Uc (fun M s=> ∃(j:List Int) (e:Int) (n:Int),s=(ofG 80 ((1,vl (qa .u64) b)::(kG j ((6,.i d)::(kAO q n ((20,vl (qa .u64) a)::(kAL (a.length:Int) d ((27,vl (qa .u64) b)::(kBH (b.length:Int) e)))))))),[.cells (j.flatMap (qa .u64).c)])/\jF b q d M j e n=some P) ?_ (m:=N) ⟨_,_,_,rfl,g13⟩
     rintro M s ⟨j,e,n,rfl,g13⟩
     cases M with
     |zero=>simp only[jF]at g13;cases g13
     |succ M=>
      rw[jF]at g13
      refine sh fol ((1,vl (qa .u64) b)::(kG j ((6,.i d)::(kAO q n ((20,vl (qa .u64) a)::(kAL (a.length:Int) d [(27,vl (qa .u64) b),(28,.i (b.length:Int)),(29,.i e),(30,.bool (decide (e<(b.length:Int))))])))))) ?_
      refine sq ?_
      refine ihD g13 (fun X g13=>?_) (fun X g13=>?_)
      ·refine Goes.skip ?_
       refine sq (Goes.block ?_)
       obtain⟨U,w,g13⟩:=bnd g13
       refine sq (gr fol [1,2] ((1,vl (qa .u64) b)::(kG j ((6,.i d)::(kAO q n ((9,.i e)::(10,.int .u64 U)::(20,vl (qa .u64) a)::(kAL (a.length:Int) d ((27,vl (qa .u64) b)::(kBH (b.length:Int) e)))))))) (ac (iv qV (qa .u64) w) (ac (lv 0 z8 (qa .u64) w rfl) az)) ?_)
       obtain⟨f,H,g13⟩:=bnd g13
       refine sq (gr fol [2] ((1,vl (qa .u64) b)::(kG j ((6,.i d)::(kAO q n ((9,.i e)::(kAN f.1 f.2 ((20,vl (qa .u64) a)::(kAL (a.length:Int) d ((27,vl (qa .u64) b)::(kBH (b.length:Int) e)))))))))) (ac (cv (qbI q U H)) az) ?_)
       refine sh fol ((1,vl (qa .u64) b)::(kG j ((6,.i d)::(kAO q n ((9,.i e)::(kAN f.1 f.2 ((20,vl (qa .u64) a)::(kAL (a.length:Int) d ((27,vl (qa .u64) b)::(kBH (b.length:Int) e)))))))))) ?_
       obtain⟨V,o,g13⟩:=bnd g13
       obtain⟨g,I,g13⟩:=bnd g13
       refine sq (gr fol [5,6,7] ((1,vl (qa .u64) b)::(kG j ((6,.i d)::(kAO q n ((9,.i e)::(kAN f.1 g.1 ((13,.int .u64 g.2)::(20,vl (qa .u64) a)::(kAL (a.length:Int) d ((27,vl (qa .u64) b)::(kBH (b.length:Int) e)))))))))) (ac (hs (.done (.opt (qj ZT 104 (.slice 0 0 j.length j.length 1) (.i (w64 (d+e))))) (.ptr 0 ((w64 (d+e):Int).toNat*1+0))) (qal qV o)) (ac (hs (.run [0] (jr ZT 212 (.ptr 0 ((w64 (d+e):Int).toNat*1+0))) [.cells (j.flatMap (qa .u64).c)] (.int .u64 V) [.cells (j.flatMap (qa .u64).c)] false) (qcB z8 (E:=(qa .u64)) (l:=j) rfl rfl o (nl rfl) rfl)) (ac (cv (qcr f.2 V 0 I)) az))) ?_)
       refine sh fol ((1,vl (qa .u64) b)::(kG j ((6,.i d)::(kAO q n ((9,.i e)::(kAN (wrap .u64 (f.1+g.2)) g.1 ((20,vl (qa .u64) a)::(kAL (a.length:Int) d ((27,vl (qa .u64) b)::(kBH (b.length:Int) e)))))))))) ?_
       obtain⟨p,J,g13⟩:=bnd g13
       refine sq (gr fol [2] ((1,vl (qa .u64) b)::(kG j ((6,.i d)::(kAv q ((9,.i e)::(kAN (wrap .u64 (f.1+g.2)) p.1 ((13,.int .u64 p.2)::(20,vl (qa .u64) a)::(kAL (a.length:Int) d ((27,vl (qa .u64) b)::(kBH (b.length:Int) e)))))))))) (ac (cv (qcr g.1 n 0 J)) az) ?_)
       obtain⟨r,A,g13⟩:=bnd g13
       refine gq fol [8,9] ((1,vl (qa .u64) b)::(kG j ((6,.i d)::(kAO q (wrap .u64 ((wrap .u64 (f.1+g.2))+p.2)) ((20,vl (qa .u64) a)::(kAL (a.length:Int) d ((27,vl (qa .u64) b)::(kBH (b.length:Int) e)))))))) [.cells (r.flatMap (qa .u64).c)] (ac (hs (.done (.opt (qj ZT 104 (.slice 0 0 j.length j.length 1) (.i (w64 (d+e))))) (.ptr 0 ((w64 (d+e):Int).toNat*1+0))) (qal qV o)) (ac (hs (.run [0] (qp ZT 212 (.ptr 0 ((w64 (d+e):Int).toNat*1+0)) (.int .u64 p.1)) [.cells (j.flatMap (qa .u64).c)] .undef [.cells (r.flatMap (qa .u64).c)] true) (qae (E:=(qa .u64)) (l:=j) (y:=p.1) rfl (show _=some 1 by kernel_rfl) rfl o rfl rfl rfl rfl rfl A rfl)) az)) ?_
       refine Goes.sub (show Sub (ofG 80 ((1,vl (qa .u64) b)::(kG j ((6,.i d)::(kAO q (wrap .u64 ((wrap .u64 (f.1+g.2))+p.2)) ((20,vl (qa .u64) a)::(kAL (a.length:Int) d ((27,vl (qa .u64) b)::(kBH (b.length:Int) e)))))))),[.cells (r.flatMap (qa .u64).c)]) (ofG 80 ((1,vl (qa .u64) b)::(kG r ((6,.i d)::(kAO q (wrap .u64 ((wrap .u64 (f.1+g.2))+p.2)) ((20,vl (qa .u64) a)::(kAL (a.length:Int) d ((27,vl (qa .u64) b)::(kBH (b.length:Int) e)))))))),[.cells (r.flatMap (qa .u64).c)])from(Sub.norm [] [some 0] rfl rfl (.keep (.same (qg (qa .u64) _)) (.keep (.sliceE rfl (vM A)) (.keep (.same nI) (.keep (.same nI) (.keep (.same nI) (.keep (.same (qg (qa .u64) _)) (.keep (.same nI) (.keep (.same nI) (.keep (.same (qg (qa .u64) _)) (.keep (.same nI) (.keep (.same nI) .nil))))))))))) (.ks .nil))) ?_
       refine gh fol ((1,vl (qa .u64) b)::(kG r ((6,.i d)::(kAO q (wrap .u64 ((wrap .u64 (f.1+g.2))+p.2)) ((20,vl (qa .u64) a)::(kAL (a.length:Int) d ((27,vl (qa .u64) b)::(kBH (b.length:Int) (w64 (e+1)))))))))) ?_
       exact⟨M,(ofG 80 ((1,vl (qa .u64) b)::(kG r ((6,.i d)::(kAO q (wrap .u64 ((wrap .u64 (f.1+g.2))+p.2)) ((20,vl (qa .u64) a)::(kAL (a.length:Int) d ((27,vl (qa .u64) b)::(kBH (b.length:Int) (w64 (e+1)))))))))),[.cells (r.flatMap (qa .u64).c)]),Nat.lt_succ_self _,(Sub.refl _),_,_,_,rfl,g13⟩
      refine Goes.exit ?_
      obtain rfl:=si g13
      exact⟨rfl,_,_,rfl,(Sub.keep [1,5,6,8,20,21,22] rfl rfl)⟩
    rintro x s' ⟨rfl,k,v,rfl,hsub⟩
    try dsimp only at g5
    refine Goes.sub hsub ?_
    obtain⟨a0,B,g5⟩:=bnd g5
    obtain⟨t,C,g5⟩:=bnd g5
    refine gq fol [6,7] ((1,vl (qa .u64) b)::(kG k ((20,vl (qa .u64) a)::(kAL (a.length:Int) d [])))) [.cells (t.flatMap (qa .u64).c)] (ac (hs (.done (.opt (qj ZT 104 (.slice 0 0 k.length k.length 1) (.i (w64 (d+(b.length:Int)))))) (.ptr 0 ((w64 (d+(b.length:Int)):Int).toNat*1+0))) (qal qV B)) (ac (hs (.run [0] (qp ZT 212 (.ptr 0 ((w64 (d+(b.length:Int)):Int).toNat*1+0)) (.int .u64 v)) [.cells (k.flatMap (qa .u64).c)] .undef [.cells (t.flatMap (qa .u64).c)] true) (qae (E:=(qa .u64)) (l:=k) (y:=v) rfl (show _=some 1 by kernel_rfl) rfl B rfl rfl rfl rfl rfl C rfl)) az)) ?_
    refine Goes.sub (show Sub (ofG 80 ((1,vl (qa .u64) b)::(kG k ((20,vl (qa .u64) a)::(kAL (a.length:Int) d [])))),[.cells (t.flatMap (qa .u64).c)]) (ofG 80 ((1,vl (qa .u64) b)::(kG t ((20,vl (qa .u64) a)::(kAL (a.length:Int) d [])))),[.cells (t.flatMap (qa .u64).c)])from(Sub.norm [] [some 0] rfl rfl (.keep (.same (qg (qa .u64) _)) (.keep (.sliceE rfl (vM C)) (.keep (.same (qg (qa .u64) _)) (.keep (.same nI) (.keep (.same nI) .nil))))) (.ks .nil))) ?_
    refine gh fol ((1,vl (qa .u64) b)::(kG t ((20,vl (qa .u64) a)::(kAL (a.length:Int) (w64 (d+1)) [])))) ?_
    exact⟨M,(ofG 80 ((1,vl (qa .u64) b)::(kG t ((20,vl (qa .u64) a)::(kAL (a.length:Int) (w64 (d+1)) [])))),[.cells (t.flatMap (qa .u64).c)]),Nat.lt_succ_self _,(Sub.refl _),_,_,rfl,g5⟩
   refine Goes.exit ?_
   obtain rfl:=si g5
   exact⟨rfl,_,rfl,(Sub.keep [5] rfl rfl)⟩
 rintro x s' ⟨rfl,u,rfl,hsub⟩
 refine Goes.sub hsub ?_
 obtain⟨D,K,h⟩:=bnd h
 refine sq (gq fol [1] [(4,vl (qa .u64) D)] [.frozen (u.flatMap (qa .u64).c)] (ac (hs (.callF 215 [.slice 0 0 u.length u.length 1] [.cells (u.flatMap (qa .u64).c)] [0] [vl (qa .u64) u] (vl (qa .u64) D)) (je (FzL.cons (Fz.sl (E:=(qa .u64)) rfl rfl (nl rfl)) FzL.nil) (xC N u K) (qw (qa .u64) _ (nl rfl)))) az) ?_)
 refine Goes.sub (show Sub (ofG 80 [(4,vl (qa .u64) D)],[.frozen (u.flatMap (qa .u64).c)]) (ofG 80 [(4,vl (qa .u64) D)],[])from(Sub.norm [] [] rfl rfl (.keep (.same (qg (qa .u64) _)) .nil) .nil)) ?_
 refine Goes.ret ?_
 obtain rfl:=si h
 exact(gw2 [vl (qa .u64) D] (Ua (qw (qa .u64) _ (nl rfl))))
def qP (N:Nat) (a:qo) (b:qo):Option qo:=
 (if a.w.isEmpty=true then
 some b.w.isEmpty
 else
 some false:Option Bool).bind fun j=>
 ((if j=true then
 (qcq a.s).bind fun k=>
 (qcq b.s).bind fun l=>
 (bits_Mul64 k l).bind fun e=>
 (if e.1=0 then
 some (decide (e.2<=9223372036854775807))
 else
 some false:Option Bool).bind fun f=>
 if f=true then
 if(!((decide (a.s<0))==(decide (b.s<0))))=true then
 some (.inr (⟨w64 (0-(w64 e.2)),[]⟩:qo))
 else
 some (.inr (⟨w64 e.2,[]⟩:qo))
 else
 some (.inl ())
 else
 some (.inl ()):Option (Unit⊕qo))).bind (fun
 |(.inl ())=>
 (qQ a).bind fun c=>
 (qQ b).bind fun d=>
 (qaD N c.2 d.2).bind fun g=>
 (vI (!(c.1==d.1)) g).bind fun h=>
 some h
 |(.inr i)=>
 some i)
theorem zZ (N:Nat) (a:qo) (b:qo) {res:qo} (h:qP N a b=some res):qc ZT (.fn 150) [.agg (nz1 a),.agg (nz1 b)] [] (.agg (nz1 res)) []:=by
 unfold qP at h
 refine Ub Tryz.func150 rfl rfl (m:=66) rfl (rs:=[.cell 4 106]) rfl (l:=[(0,.agg (nz1 a)),(1,.agg (nz1 b))]) rfl ?_
 refine sg fol (kH []) [.cells (nz1 a),.cells (nz1 b),bZ] ?_
 refine sq ?_
 refine sq ?_
 obtain⟨G,d,h⟩:=bnd h
 refine Goes.cut (s':=(ofG 66 (kH [(18,.bool G)]),[.cells (nz1 a),.cells (nz1 b),bZ])) ?_ ?_
 ·rcases wyB d with⟨y,d⟩|⟨y,d⟩
  ·obtain rfl:=si d
   exact tr fol [2,3,6] (kH [(18,.bool b.w.isEmpty)]) (ac (hs (.done (.opt (zf ZT .eql 104 (.tmp 12) (.const (.slice none 0 0)) (nvl (qa .u64) a.w) .nilslice)) (.bool a.w.isEmpty)) (qaO yA)) (ac (gw y) (ac (hs (.done (.opt (zf ZT .eql 104 (.tmp 16) (.const (.slice none 0 0)) (nvl (qa .u64) b.w) .nilslice)) (.bool b.w.isEmpty)) (qaO yA)) az)))
  obtain rfl:=si d
  exact tr fol [2,3] (kH [(18,.bool false)]) (ac (hs (.done (.opt (zf ZT .eql 104 (.tmp 12) (.const (.slice none 0 0)) (nvl (qa .u64) a.w) .nilslice)) (.bool a.w.isEmpty)) (qaO yA)) (ac (gw y) az))
 obtain⟨D,g4,h⟩:=bnd h
 refine Goes.imp (Q:=fun x s'=>(x= .normal/\(.inl ())=D/\Sub s' (ofG 66 (kH []),[.cells (nz1 a),.cells (nz1 b),bZ]))\/(x= .ret/\ ∃F,(.inr F)=D/\yP ZT [.cell 4 106] (.agg (nz1 F)) .ret s')) ?_ ?_
 ·refine ihB g4 (fun H g4=>?_) (fun H g4=>?_)
  ·obtain⟨I,t,g4⟩:=bnd g4
   obtain⟨J,u,g4⟩:=bnd g4
   obtain⟨f,v,g4⟩:=bnd g4
   refine sq (gr fol [2,5,6] (kH ((5,.int .u64 f.1)::(kAe f.2 []))) (ac (cv (qek a.s t)) (ac (cv (qek b.s u)) (ac (cv (qbI I J v)) az))) ?_)
   refine sq ?_
   obtain⟨z,c,g4⟩:=bnd g4
   refine Goes.cut (s':=(ofG 66 (kH (kAe f.2 [(34,.bool z)])),[.cells (nz1 a),.cells (nz1 b),bZ])) ?_ ?_
   ·rcases wyD c with⟨k,c⟩|⟨k,c⟩
    ·obtain rfl:=si c
     exact tr fol [2] (kH (kAe f.2 [(34,.bool (decide (f.2<=9223372036854775807)))])) (ac (gw k) az)
    obtain rfl:=si c
    exact tr fol [2] (kH (kAe f.2 [(34,.bool false)])) (ac (gw k) az)
   refine ihB g4 (fun A g4=>?_) (fun A g4=>?_)
   ·refine sq ?_
    refine sh fol (kAU (kAe f.2 [(41,.bool (!((decide (a.s<0))==(decide (b.s<0)))))])) ?_
    refine ihB g4 (fun B g4=>?_) (fun B g4=>?_)
    ·refine sg fol (kAU []) (.cells (nz1 a):: .cells (nz1 b)::(kBP (w64 (0-(w64 f.2))))) ?_
     refine Goes.ret ?_
     obtain rfl:=si g4
     exact Or.inr (⟨rfl,_,rfl,(gw2 [.agg [.i (w64 (0-(w64 f.2))),.nilslice]] (FzW.agg (qb.cons (Ua tI) (qb.cons (FzW.nv0 (E:=(qa .u64))) qb.nil))))⟩)
    refine Goes.skip ?_
    refine sg fol (kAU []) (.cells (nz1 a):: .cells (nz1 b)::(kBP (w64 f.2))) ?_
    refine Goes.ret ?_
    obtain rfl:=si g4
    exact Or.inr (⟨rfl,_,rfl,(gw2 [.agg [.i (w64 f.2),.nilslice]] (FzW.agg (qb.cons (Ua tI) (qb.cons (FzW.nv0 (E:=(qa .u64))) qb.nil))))⟩)
   refine Goes.skip ?_
   obtain rfl:=si g4
   exact Or.inl (⟨rfl,rfl,(Sub.keep [2,3,4] rfl rfl)⟩)
  refine Goes.skip ?_
  obtain rfl:=si g4
  exact Or.inl (⟨rfl,rfl,(Sub.keep [2,3,4] rfl rfl)⟩)
 rintro x s' (⟨rfl,rfl,hsub⟩|⟨rfl,K,rfl,hret⟩)
 ·try dsimp only at h
  refine Goes.sub hsub ?_
  obtain⟨e,o,h⟩:=bnd h
  refine sq (gr fol [1] ((3,.ptr 1 0)::(kAU [(7,.bool e.1),(8,vl (qa .u64) e.2)])) (ac (cv (zP a o)) az) ?_)
  obtain⟨g,p,h⟩:=bnd h
  refine sq (gr fol [1] (kAU [(7,.bool e.1),(8,vl (qa .u64) e.2),(9,.bool g.1),(10,vl (qa .u64) g.2)]) (ac (cv (zP b p)) az) ?_)
  obtain⟨C,q,h⟩:=bnd h
  obtain⟨j,r,h⟩:=bnd h
  refine sq (gq fol [5,6,7] (kAU []) [.cells (nz1 a),.cells (nz1 b),.cells (nz1 j)] (ac (cv (qgQ N e.2 g.2 q)) (ac (cv (qam (!(e.1==g.1)) C r)) (ac (hs (.run [2] (qp ZT 106 (.ptr 2 0) (.agg (nz1 j))) [.cells (nz1 a),.cells (nz1 b),bZ] .undef [.cells (nz1 a),.cells (nz1 b),.cells (nz1 j)] true) (kw (n:=2) (by kernel_rfl) rfl rfl rfl rfl (cac rfl (cac nvc can)) rfl)) az))) ?_)
  refine Goes.ret ?_
  obtain rfl:=si h
  exact(gw2 [.agg (nz1 j)] (FzW.agg (qb.cons (Ua tI) (qb.cons (Ua (qm (qa .u64) _ (nl rfl))) qb.nil))))
 try dsimp only at h
 obtain rfl:=si h
 exact hret
def vC (N:Nat):Nat->Int->(List Int)->Int->(List Int)->Int->Option (Int×(List Int))
 |0,_,_,_,_,_=>none
 |K+1,e,f,h,i,g=>
  if g>0 then
  ((((if(qD .i64 g 1)=1 then
  (qP N (⟨h,i⟩:qo) (⟨e,f⟩:qo)).bind fun a=>
  some (a.s,a.w)
  else
  some (h,i):Option (Int×(List Int)))).bind fun(b,c)=>
  if g>1 then
  (qP N (⟨e,f⟩:qo) (⟨e,f⟩:qo)).bind fun d=>
  some (d.s,d.w,b,c)
  else
  some (e,f,b,c):Option (Int×(List Int)×Int×(List Int)))).bind fun(j,k,l,m)=>
  vC N K j k l m (qz .i64 g 1)
  else
  some (h,i)
def qbQ (N:Nat) (a:qo) (k:Int):Option qo:=
 (qcS 1).bind fun b=>
 (vC N N a.s a.w b.s b.w k).bind fun(c,d)=>
 some (⟨c,d⟩:qo)
theorem qhV (N:Nat) (a:qo) (k:Int) {res:qo} (h:qbQ N a k=some res):qc ZT (.fn 158) [.agg (nz1 a),.i k] [] (.agg (nz1 res)) []:=by
 unfold qbQ at h
 refine Ub Tryz.func158 rfl rfl (m:=23) rfl (rs:=[.cell 4 106]) rfl (l:=[(0,.agg (nz1 a)),(1,.i k)]) rfl ?_
 refine sg fol ((1,.i k)::(kAM (kBm []))) [.cells (nz1 a),bZ] ?_
 obtain⟨B,y,h⟩:=bnd h
 refine sq (gq fol [0,2] ((1,.i k)::(kAM (kAt []))) [.cells (nz1 a),bZ,.cells (nz1 B)] (ac (cv (qcd 1 y)) (ac (hs (.run [2] (qp ZT 106 (.ptr 2 0) (.agg (nz1 B))) [.cells (nz1 a),bZ,bZ] .undef [.cells (nz1 a),bZ,.cells (nz1 B)] true) (kw (n:=2) (by kernel_rfl) rfl rfl rfl rfl (cac rfl (cac nvc can)) rfl)) az)) ?_)
 refine sq (Goes.block ?_)
 obtain⟨H,g9,h⟩:=bnd h
 refine Goes.imp (Q:=fun x s'=>(x= .exit 0/\ ∃g j,(g,j)=H/\Sub s' (ofG 23 (kY (kBx [])),[bZ,.cells (ni1 g j)]))) ?_ ?_
 ·refine Uc (fun M s=> ∃(e:Int) (f:List Int) (z:Int) (A:List Int) (b:Int),s=(ofG 23 ((1,.i b)::(kAM (kAt []))),[.cells (ni1 e f),bZ,.cells (ni1 z A)])/\vC N M e f z A b=some H) ?_ (m:=N) ⟨_,_,_,_,_,rfl,g9⟩
  rintro M s ⟨e,f,z,A,b,rfl,g9⟩
  cases M with
  |zero=>simp only[vC]at g9;cases g9
  |succ M=>
   rw[vC]at g9
   refine sq ?_
   refine sh fol ((1,.i b)::(kAM (kAt (kAz (decide (b>0)))))) ?_
   refine ihD g9 (fun C g9=>?_) (fun C g9=>?_)
   ·refine Goes.skip ?_
    refine sq ?_
    obtain⟨D,g15,g9⟩:=bnd g9
    refine Goes.imp (Q:=fun x s'=>(x= .normal/\ ∃o p q r,(o,p,q,r)=D/\Sub s' (ofG 23 ((1,.i b)::(kAM (kAt []))),[.cells (ni1 o p),bZ,.cells (ni1 q r)]))) ?_ ?_
    ·refine Goes.block ?_
     refine sq ?_
     refine sh fol ((1,.i b)::(kAM (kAt (kBT (decide ((qD .i64 b 1)=1)))))) ?_
     obtain⟨E,g18,g15⟩:=bnd g15
     refine Goes.imp (Q:=fun x s'=>(x= .normal/\ ∃c d,(c,d)=E/\Sub s' (ofG 23 ((1,.i b)::(kAM (kAt []))),[.cells (ni1 e f),bZ,.cells (ni1 c d)]))) ?_ ?_
     ·refine ihD g18 (fun F g18=>?_) (fun F g18=>?_)
      ·obtain⟨t,u,g18⟩:=bnd g18
       refine gq fol [2,3] ((1,.i b)::(kAM (kAt []))) [.cells (ni1 e f),bZ,.cells (nz1 t)] (ac (cv (zZ N (⟨z,A⟩:qo) (⟨e,f⟩:qo) u)) (ac (hs (.run [2] (qp ZT 106 (.ptr 2 0) (.agg (nz1 t))) [.cells (ni1 e f),bZ,.cells (ni1 z A)] .undef [.cells (ni1 e f),bZ,.cells (nz1 t)] true) (kw (n:=2) (by kernel_rfl) rfl rfl rfl rfl (cac rfl (cac nvc can)) rfl)) az)) ?_
       obtain rfl:=si g18
       exact⟨rfl,_,_,rfl,(Sub.refl _)⟩
      refine Goes.skip ?_
      obtain rfl:=si g18
      exact⟨rfl,_,_,rfl,(Sub.keep [1,2,4,5] rfl rfl)⟩
     rintro x s' ⟨rfl,c,d,rfl,hsub⟩
     try dsimp only at g15
     refine Goes.sub hsub ?_
     refine sh fol ((1,.i b)::(kAM (kAt [(18,.bool (decide (b>1)))]))) ?_
     refine ihD g15 (fun G g15=>?_) (fun G g15=>?_)
     ·obtain⟨v,w,g15⟩:=bnd g15
      refine gq fol [2,3] ((1,.i b)::(kAM (kAt []))) [.cells (nz1 v),bZ,.cells (ni1 c d)] (ac (cv (zZ N (⟨e,f⟩:qo) (⟨e,f⟩:qo) w)) (ac (hs (.run [0] (qp ZT 106 (.ptr 0 0) (.agg (nz1 v))) [.cells (ni1 e f),bZ,.cells (ni1 c d)] .undef [.cells (nz1 v),bZ,.cells (ni1 c d)] true) (kw (n:=2) (by kernel_rfl) rfl rfl rfl rfl (cac rfl (cac nvc can)) rfl)) az)) ?_
      obtain rfl:=si g15
      exact⟨rfl,_,_,_,_,rfl,(Sub.refl _)⟩
     refine Goes.skip ?_
     obtain rfl:=si g15
     exact⟨rfl,_,_,_,_,rfl,(Sub.keep [1,2,4,5] rfl rfl)⟩
    rintro x s' ⟨rfl,o,p,q,r,rfl,hsub⟩
    try dsimp only at g9
    refine Goes.sub hsub ?_
    refine gh fol ((1,.i (qz .i64 b 1))::(kAM (kAt []))) ?_
    exact⟨M,(ofG 23 ((1,.i (qz .i64 b 1))::(kAM (kAt []))),[.cells (ni1 o p),bZ,.cells (ni1 q r)]),Nat.lt_succ_self _,(Sub.refl _),_,_,_,_,_,rfl,g9⟩
   refine Goes.exit ?_
   obtain rfl:=si g9
   exact⟨rfl,_,_,rfl,(Sub.norm [] [some 1,some 2] rfl rfl (.drop (.drop (.kp (.kp .nil)))) (.kb rfl (.same sn) (.kb rfl (.same sn) .nil)))⟩
 rintro x s' ⟨rfl,g,j,rfl,hsub⟩
 try dsimp only at h
 refine Goes.sub hsub ?_
 refine sq (gq fol [1] (kY []) [.cells (ni1 g j),.cells (ni1 g j)] (ac (hs (.run [0] (qp ZT 106 (.ptr 0 0) (.agg (ni1 g j))) [bZ,.cells (ni1 g j)] .undef [.cells (ni1 g j),.cells (ni1 g j)] true) (kw (n:=2) (by kernel_rfl) rfl rfl rfl rfl (cac rfl (cac nvc can)) rfl)) az) ?_)
 refine Goes.ret ?_
 obtain rfl:=si h
 exact(gw2 [.agg (ni1 g j)] (FzW.agg (qb.cons (Ua tI) (qb.cons (Ua (qm (qa .u64) _ (nl rfl))) qb.nil))))
def strings_HasPrefix (b:Str) (a:Str):Option Bool:=
 (stringslite_HasPrefix b a).bind fun c=>
 some c
theorem qec (b:Str) (a:Str) {res:Bool} (h:strings_HasPrefix b a=some res):qc ZT (.fn 185) (kAR b a) [] (.bool res) []:=by
 unfold strings_HasPrefix at h
 refine Ub Tryz.func185 rfl rfl (m:=8) rfl (rs:=[.tmp 4]) rfl (l:=(kJ b a [])) rfl ?_
 refine sh fol (kJ b a []) ?_
 obtain⟨d,c,h⟩:=bnd h
 refine sq (gr fol [2] (kAl d) (ac (cv (yU b a c)) az) ?_)
 refine Goes.ret ?_
 obtain rfl:=si h
 exact(gw2 [.bool d] (Ua tB))
def stringslite_TrimPrefix (b:Str) (a:Str):Option Str:=
 (stringslite_HasPrefix b a).bind fun c=>
 if c=true then
 (cut b (a.length:Int) (b.length:Int)).bind fun d=>
 some d
 else
 some b
theorem qcF (b:Str) (a:Str) {res:Str} (h:stringslite_TrimPrefix b a=some res):qc ZT (.fn 227) (kAR b a) [] (.str res) []:=by
 unfold stringslite_TrimPrefix at h
 refine Ub Tryz.func227 rfl rfl (m:=13) rfl (rs:=[.tmp 4]) rfl (l:=(kJ b a [])) rfl ?_
 refine sh fol (kJ b a []) ?_
 refine sq ?_
 obtain⟨f,c,h⟩:=bnd h
 refine sq (gr fol [2] (kJ b a [(7,.bool f)]) (ac (cv (yU b a c)) az) ?_)
 refine ihB h (fun g h=>?_) (fun g h=>?_)
 ·obtain⟨e,d,h⟩:=bnd h
  refine sq (gr fol [3] (kBb e) (ac (hs (.done (.opt (kT ZT 9 (.str b) (some (.i (a.length:Int))) none none)) (.str e)) (jg st9 (some (a.length:Int)) none d)) az) ?_)
  refine Goes.ret ?_
  obtain rfl:=si h
  exact(gw2 [.str e] (Ua tS))
 refine Goes.skip ?_
 refine sh fol (kBb b) ?_
 refine Goes.ret ?_
 obtain rfl:=si h
 exact(gw2 [.str b] (Ua tS))
def strings_TrimPrefix (b:Str) (a:Str):Option Str:=
 (stringslite_TrimPrefix b a).bind fun c=>
 some c
theorem qbt (b:Str) (a:Str) {res:Str} (h:strings_TrimPrefix b a=some res):qc ZT (.fn 186) (kAR b a) [] (.str res) []:=by
 unfold strings_TrimPrefix at h
 refine Ub Tryz.func186 rfl rfl (m:=8) rfl (rs:=[.tmp 4]) rfl (l:=(kJ b a [])) rfl ?_
 refine sh fol (kJ b a []) ?_
 obtain⟨d,c,h⟩:=bnd h
 refine sq (gr fol [2] (kBb d) (ac (cv (qcF b a c)) az) ?_)
 refine Goes.ret ?_
 obtain rfl:=si h
 exact(gw2 [.str d] (Ua tS))
def xA (N:Nat):Nat->Int->(List Int)->Str->Option (Int×(List Int))
 |0,_,_,_=>none
 |K+1,j,k,a=>
  if(a.length:Int)>0 then
  (cut a 0 (if(a.length:Int)<18 then(a.length:Int)else 18)).bind fun c=>
  (qk6 c).bind fun d=>
  (qcS 10).bind fun e=>
  (qbQ N e (if(a.length:Int)<18 then(a.length:Int)else 18)).bind fun f=>
  (qP N (⟨j,k⟩:qo) f).bind fun g=>
  (qcS d.1).bind fun h=>
  (vw N g h).bind fun b=>
  (cut a (if(a.length:Int)<18 then(a.length:Int)else 18) (a.length:Int)).bind fun i=>
  xA N K b.s b.w i
  else
  some (j,k)
def qa3 (N:Nat) (b:Str):Option qo:=
 (strings_HasPrefix b [45]).bind fun e=>
 (strings_TrimPrefix b [45]).bind fun f=>
 (xA N N 0 [] f).bind fun(c,d)=>
 if e=true then
 (zI (⟨c,d⟩:qo)).bind fun a=>
 some a
 else
 some (⟨c,d⟩:qo)
theorem qbP (N:Nat) (g:Str) {res:qo} (h:qa3 N g=some res):qc ZT (.fn 132) [.str g] [] (.agg (nz1 res)) []:=by
 unfold qa3 at h
 refine Ub Tryz.func132 rfl rfl (m:=41) rfl (rs:=[.cell 2 106]) rfl (l:=(kAQ g [])) rfl ?_
 refine sg fol (kAQ g (kAM [])) [bZ] ?_
 obtain⟨d,y,h⟩:=bnd h
 refine sq (gr fol [1] (kAB g d []) (ac (cv (qec g [45] y)) az) ?_)
 obtain⟨J,z,h⟩:=bnd h
 refine sq (gr fol [1] (kAB J d []) (ac (cv (qbt g [45] z)) az) ?_)
 refine sg fol (kAB J d (kBm [])) [bZ,bZ] ?_
 refine sq (Goes.block ?_)
 obtain⟨K,g8,h⟩:=bnd h
 refine Goes.imp (Q:=fun x s'=>(x= .exit 0/\ ∃b c,(b,c)=K/\Sub s' (ofG 41 (kAM ((3,.bool d)::(kBm []))),[bZ,.cells (ni1 b c)]))) ?_ ?_
 ·refine Uc (fun M s=> ∃(A:Int) (B:List Int) (a:Str),s=(ofG 41 (kAB a d (kBm [])),[bZ,.cells (ni1 A B)])/\xA N M A B a=some K) ?_ (m:=N) ⟨_,_,_,rfl,g8⟩
  rintro M s ⟨A,B,a,rfl,g8⟩
  cases M with
  |zero=>simp only[xA]at g8;cases g8
  |succ M=>
   rw[xA]at g8
   refine sq ?_
   refine sh fol (kAB a d (kBm (kBa (decide ((a.length:Int)>0))))) ?_
   refine ihD g8 (fun L g8=>?_) (fun L g8=>?_)
   ·refine Goes.skip ?_
    refine Goes.block ?_
    refine sh fol (kAB a d (kBm (kA5 (if(a.length:Int)<18 then(a.length:Int)else 18)))) ?_
    obtain⟨C,j,g8⟩:=bnd g8
    obtain⟨D,k,g8⟩:=bnd g8
    refine sq (gr fol [2,3] (kAB a d (kBm (kBf (if(a.length:Int)<18 then(a.length:Int)else 18) D.1 []))) (ac (hs (.done (.opt (kT ZT 9 (.str a) none (some (.i (if(a.length:Int)<18 then(a.length:Int)else 18))) none)) (.str C)) (jg st9 none (some (if(a.length:Int)<18 then(a.length:Int)else 18)) j)) (ac (cv (qnF C k)) az)) ?_)
    obtain⟨E,o,g8⟩:=bnd g8
    obtain⟨F,p,g8⟩:=bnd g8
    obtain⟨G,q,g8⟩:=bnd g8
    obtain⟨H,r,g8⟩:=bnd g8
    obtain⟨e,t,g8⟩:=bnd g8
    refine sq (gq fol [1,3,4,6,7,8] (kAB a d (kBm (kA5 (if(a.length:Int)<18 then(a.length:Int)else 18)))) [bZ,.cells (nz1 e)] (ac (cv (qcd 10 o)) (ac (cv (qhV N E (if(a.length:Int)<18 then(a.length:Int)else 18) p)) (ac (cv (zZ N (⟨A,B⟩:qo) F q)) (ac (cv (qcd D.1 r)) (ac (cv (qaw N G H t)) (ac (hs (.run [1] (qp ZT 106 (.ptr 1 0) (.agg (nz1 e))) [bZ,.cells (ni1 A B)] .undef [bZ,.cells (nz1 e)] true) (kw (n:=2) (by kernel_rfl) rfl rfl rfl rfl (cac rfl (cac nvc can)) rfl)) az)))))) ?_)
    obtain⟨u,v,g8⟩:=bnd g8
    refine gr fol [2] (kAB u d (kBm [])) (ac (hs (.done (.opt (kT ZT 9 (.str a) (some (.i (if(a.length:Int)<18 then(a.length:Int)else 18))) none none)) (.str u)) (jg st9 (some (if(a.length:Int)<18 then(a.length:Int)else 18)) none v)) az) ?_
    exact⟨M,(ofG 41 (kAB u d (kBm [])),[bZ,.cells (nz1 e)]),Nat.lt_succ_self _,(Sub.refl _),_,_,_,rfl,g8⟩
   refine Goes.exit ?_
   obtain rfl:=si g8
   exact⟨rfl,_,_,rfl,(Sub.keep [2,3,4] rfl rfl)⟩
 rintro x s' ⟨rfl,b,c,rfl,hsub⟩
 try dsimp only at h
 refine Goes.sub hsub ?_
 refine sq ?_
 refine sh fol (kAM (kBm [(37,.bool d)])) ?_
 refine ihB h (fun I h=>?_) (fun I h=>?_)
 ·obtain⟨f,w,h⟩:=bnd h
  refine sq (gq fol [1,2] (kAM []) [.cells (nz1 f),.cells (ni1 b c)] (ac (cv (vH (⟨b,c⟩:qo) w)) (ac (hs (.run [0] (qp ZT 106 (.ptr 0 0) (.agg (nz1 f))) [bZ,.cells (ni1 b c)] .undef [.cells (nz1 f),.cells (ni1 b c)] true) (kw (n:=2) (by kernel_rfl) rfl rfl rfl rfl (cac rfl (cac nvc can)) rfl)) az)) ?_)
  refine Goes.ret ?_
  obtain rfl:=si h
  exact(gw2 [.agg (nz1 f)] (FzW.agg (qb.cons (Ua tI) (qb.cons (Ua (qm (qa .u64) _ (nl rfl))) qb.nil))))
 refine Goes.skip ?_
 refine sq (gq fol [1] (kAM []) [.cells (ni1 b c),.cells (ni1 b c)] (ac (hs (.run [0] (qp ZT 106 (.ptr 0 0) (.agg (ni1 b c))) [bZ,.cells (ni1 b c)] .undef [.cells (ni1 b c),.cells (ni1 b c)] true) (kw (n:=2) (by kernel_rfl) rfl rfl rfl rfl (cac rfl (cac nvc can)) rfl)) az) ?_)
 refine Goes.ret ?_
 obtain rfl:=si h
 exact(gw2 [.agg (ni1 b c)] (FzW.agg (qb.cons (Ua tI) (qb.cons (Ua (qm (qa .u64) _ (nl rfl))) qb.nil))))
def qa2 (N:Nat) (a:qo) (b:qo):Option Int:=
 (if a.w.isEmpty=true then
 some b.w.isEmpty
 else
 some false:Option Bool).bind fun c=>
 if c=true then
 if a.s<b.s then
 some (-1)
 else
 if a.s>b.s then
 some 1
 else
 some 0
 else
 (xD N a b).bind fun d=>
 (zg d).bind fun e=>
 some e
theorem qeS (N:Nat) (a:qo) (b:qo) {res:Int} (h:qa2 N a b=some res):qc ZT (.fn 133) [.agg (nz1 a),.agg (nz1 b)] [] (.i res) []:=by
 unfold qa2 at h
 refine Ub Tryz.func133 rfl rfl (m:=29) rfl (rs:=[.tmp 4]) rfl (l:=[(0,.agg (nz1 a)),(1,.agg (nz1 b))]) rfl ?_
 refine sg fol (kR []) [.cells (nz1 a),.cells (nz1 b)] ?_
 refine sq ?_
 refine sq ?_
 obtain⟨j,c,h⟩:=bnd h
 refine Goes.cut (s':=(ofG 29 (kR (kBU j)),[.cells (nz1 a),.cells (nz1 b)])) ?_ ?_
 ·rcases wyB c with⟨f,c⟩|⟨f,c⟩
  ·obtain rfl:=si c
   exact tr fol [2,3,6] (kR (kBU b.w.isEmpty)) (ac (hs (.done (.opt (zf ZT .eql 104 (.tmp 6) (.const (.slice none 0 0)) (nvl (qa .u64) a.w) .nilslice)) (.bool a.w.isEmpty)) (qaO yA)) (ac (gw f) (ac (hs (.done (.opt (zf ZT .eql 104 (.tmp 10) (.const (.slice none 0 0)) (nvl (qa .u64) b.w) .nilslice)) (.bool b.w.isEmpty)) (qaO yA)) az)))
  obtain rfl:=si c
  exact tr fol [2,3] (kR [(12,.bool false)]) (ac (hs (.done (.opt (zf ZT .eql 104 (.tmp 6) (.const (.slice none 0 0)) (nvl (qa .u64) a.w) .nilslice)) (.bool a.w.isEmpty)) (qaO yA)) (ac (gw f) az))
 refine ihB h (fun k h=>?_) (fun k h=>?_)
 ·refine sq (Goes.block ?_)
  refine sh fol (kR (kBT (decide (a.s<b.s)))) ?_
  refine ihD h (fun n h=>?_) (fun n h=>?_)
  ·refine sh fol [(4,.i (-1))] ?_
   refine Goes.ret ?_
   obtain rfl:=si h
   exact(gw2 [.i (-1)] (Ua tI))
  refine sh fol [(19,.bool (decide (a.s>b.s)))] ?_
  refine ihD h (fun o h=>?_) (fun o h=>?_)
  ·refine sh fol [(4,.i 1)] ?_
   refine Goes.ret ?_
   obtain rfl:=si h
   exact(gw2 [.i 1] (Ua tI))
  refine Goes.skip ?_
  refine sh fol [(4,.i 0)] ?_
  refine Goes.ret ?_
  obtain rfl:=si h
  exact(gw2 [.i 0] (Ua tI))
 refine Goes.skip ?_
 obtain⟨p,d,h⟩:=bnd h
 obtain⟨g,e,h⟩:=bnd h
 refine sq (gr fol [2,3] (kB7 g) (ac (cv (qey N a b d)) (ac (cv (yD p e)) az)) ?_)
 refine Goes.ret ?_
 obtain rfl:=si h
 exact(gw2 [.i g] (Ua tI))
def qbo (N:Nat) (a:Str):Option Int:=
 (strings_CutPrefix a [45]).bind fun r=>
 (strings_Cut r.1 [47]).bind fun b=>
 ((jR b.1).bind fun t=>
 if t=true then
 if(!r.2)=true then
 some true
 else
 some (!(b.1==[48]))
 else
 some false:Option Bool).bind fun s=>
 ((if b.2.2=true then
 (if s=true then
 (jR b.2.1).bind fun g=>
 if g=true then
 if(!(b.2.1==[48]))=true then
 some (!(b.2.1==[49]))
 else
 some false
 else
 some false
 else
 some false:Option Bool).bind fun h=>
 some h
 else
 some s:Option Bool)).bind fun u=>
 ((zk (!u) 1).bind fun c=>
 if(b.1.length:Int)>600 then
 (zk true 4).bind fun d=>
 (zQ N ([c,d]:List Int)).bind fun i=>
 some (c,d,i)
 else
 (zk (decide ((b.2.1.length:Int)>600)) 4).bind fun e=>
 (zQ N ([c,e]:List Int)).bind fun j=>
 some (c,e,j):Option (Int×Int×Int)).bind fun(v,w,f)=>
 if(!decide (f=0))=true then
 some f
 else
 (if b.2.2=true then
 (qa3 N b.1).bind fun k=>
 (qa3 N b.2.1).bind fun l=>
 (qcI N k l).bind fun m=>
 (qcS 1).bind fun n=>
 (qa2 N m n).bind fun o=>
 some (!decide (o=0))
 else
 some false:Option Bool).bind fun p=>
 (zk p 1).bind fun q=>
 some q
theorem qgM (N:Nat) (a:Str) {res:Int} (h:qbo N a=some res):qc ZT (.fn 56) [.str a] [] (.i res) []:=by
 unfold qbo at h
 refine Ub Tryz.func56 rfl rfl (m:=76) rfl (rs:=[.tmp 2]) rfl (l:=(kAQ a [])) rfl ?_
 refine sh fol (kAQ a []) ?_
 obtain⟨V,H,h⟩:=bnd h
 refine sq (gr fol [1] ((3,.str V.1)::(kAl V.2)) (ac (cv (qeO a [45] H)) az) ?_)
 obtain⟨e,I,h⟩:=bnd h
 refine sq (gr fol [1] ((4,.bool V.2)::(kAX e.1 e.2.1 e.2.2 [])) (ac (cv (qew V.1 [47] I)) az) ?_)
 refine sq ?_
 obtain⟨b6,f,h⟩:=bnd h
 refine Goes.cut (s':=(ofG 76 (kAX e.1 e.2.1 e.2.2 (kAz b6)),[])) ?_ ?_
 ·obtain⟨r3,k,f⟩:=bnd f
  rcases wyB f with⟨X,f⟩|⟨X,f⟩
  ·rcases wyB f with⟨Y,f⟩|⟨Y,f⟩
   ·obtain rfl:=si f
    exact tr fol [1,2,5] (kAX e.1 e.2.1 e.2.2 [(8,.bool true)]) (ac (cv (jD e.1 k)) (ac (gw X) (ac (gw Y) az)))
   obtain rfl:=si f
   exact tr fol [1,2,5] (kAX e.1 e.2.1 e.2.2 (kAz (!(e.1==[48])))) (ac (cv (jD e.1 k)) (ac (gw X) (ac (gw Y) az)))
  obtain rfl:=si f
  exact tr fol [1,2] (kAX e.1 e.2.1 e.2.2 kBI) (ac (cv (jD e.1 k)) (ac (gw X) az))
 refine sq ?_
 refine sh fol (kAX e.1 e.2.1 e.2.2 [(8,.bool b6),(32,.bool e.2.2)]) ?_
 obtain⟨r9,g9,h⟩:=bnd h
 refine Goes.imp (Q:=fun x s'=>(x= .normal/\ ∃J,J=r9/\Sub s' (ofG 76 (kAX e.1 e.2.1 e.2.2 (kAz J)),[]))) ?_ ?_
 ·refine ihB g9 (fun Z g9=>?_) (fun Z g9=>?_)
  ·obtain⟨a0,c,g9⟩:=bnd g9
   refine Goes.cut (s':=(ofG 76 (kAX e.1 e.2.1 e.2.2 (kAz a0)),[])) ?_ ?_
   ·rcases wyB c with⟨n,c⟩|⟨n,c⟩
    ·obtain⟨r12,j,c⟩:=bnd c
     rcases wyB c with⟨q,c⟩|⟨q,c⟩
     ·rcases wyB c with⟨t,c⟩|⟨t,c⟩
      ·obtain rfl:=si c
       exact tr fol [1,3,5,9] (kAX e.1 e.2.1 e.2.2 (kAz (!(e.2.1==[49])))) (ac (gw n) (ac (cv (jD e.2.1 j)) (ac (gw q) (ac (gw t) az))))
      obtain rfl:=si c
      exact tr fol [1,3,5,9] (kAX e.1 e.2.1 e.2.2 kBI) (ac (gw n) (ac (cv (jD e.2.1 j)) (ac (gw q) (ac (gw t) az))))
     obtain rfl:=si c
     exact tr fol [1,3,5] (kAX e.1 e.2.1 e.2.2 kBI) (ac (gw n) (ac (cv (jD e.2.1 j)) (ac (gw q) az)))
    obtain rfl:=si c
    exact tr fol [1] (kAX e.1 e.2.1 e.2.2 kBI) (ac (gw n) az)
   obtain rfl:=si g9
   exact⟨rfl,_,rfl,(Sub.refl _)⟩
  refine Goes.skip ?_
  obtain rfl:=si g9
  exact⟨rfl,_,rfl,(Sub.keep [5,6,7,8] rfl rfl)⟩
 rintro x s' ⟨rfl,J,rfl,hsub⟩
 refine Goes.sub hsub ?_
 refine sq ?_
 refine sq ?_
 obtain⟨⟨K,L,o⟩,b,h⟩:=bnd h
 refine Goes.cut (s':=(ofG 76 (kAX e.1 e.2.1 e.2.2 [(9,.i o)]),(kAE K L))) ?_ ?_
 ·obtain⟨g,p,b⟩:=bnd b
  rcases wyD b with⟨u,b⟩|⟨u,b⟩
  ·obtain⟨r,v,b⟩:=bnd b
   obtain⟨M,w,b⟩:=bnd b
   simp only[ZI,ZP]at b
   obtain⟨rfl,rfl,rfl⟩:=b
   exact qaj.rq fol [2,6,11,13] (kAX e.1 e.2.1 e.2.2 [(9,.i M)]) (kAE g r) (ac (cv (y7 (!J) 1 p)) (ac (gw u) (ac (cv (y7 true 4 v)) (ac (hs (.call 79 [.slice 0 0 2 2 1] (kAE g r) [0] [vl encI ([g,r]:List Int)] (.i M)) (qcW (FzL.cons (Fz.lit rfl rfl (Ud (AllST.cons tI (AllST.cons tI AllST.nil)))) FzL.nil) (vO N ([g,r]:List Int) w) tI rfl)) az))))
  obtain⟨s,y,b⟩:=bnd b
  obtain⟨O,z,b⟩:=bnd b
  simp only[ZI,ZP]at b
  obtain⟨rfl,rfl,rfl⟩:=b
  exact qaj.rq fol [2,6,11,13] (kAX e.1 e.2.1 e.2.2 [(9,.i O)]) (kAE g s) (ac (cv (y7 (!J) 1 p)) (ac (gw u) (ac (cv (y7 (decide ((e.2.1.length:Int)>600)) 4 y)) (ac (hs (.call 79 [.slice 0 0 2 2 1] (kAE g s) [0] [vl encI ([g,s]:List Int)] (.i O)) (qcW (FzL.cons (Fz.lit rfl rfl (Ud (AllST.cons tI (AllST.cons tI AllST.nil)))) FzL.nil) (vO N ([g,s]:List Int) z) tI rfl)) az))))
 try dsimp only at h
 refine sh fol (kAX e.1 e.2.1 e.2.2 [(9,.i o),(61,.bool (!decide (o=0)))]) ?_
 refine ihB h (fun a1 h=>?_) (fun a1 h=>?_)
 ·refine sh fol (kBM o) ?_
  refine Goes.ret ?_
  obtain rfl:=si h
  exact(gw2 [.i o] (Ua tI))
 refine Goes.skip ?_
 refine sq ?_
 obtain⟨P,d,h⟩:=bnd h
 refine Goes.cut (s':=(ofG 76 (kBV P),(kAE K L))) ?_ ?_
 ·rcases wyB d with⟨A,d⟩|⟨A,d⟩
  ·obtain⟨a2,B,d⟩:=bnd d
   obtain⟨a3,C,d⟩:=bnd d
   obtain⟨a4,D,d⟩:=bnd d
   obtain⟨a5,E,d⟩:=bnd d
   obtain⟨a6,F,d⟩:=bnd d
   obtain rfl:=si d
   exact tr fol [1,3,5,6,7,8] (kBV (!decide (a6=0))) (ac (gw A) (ac (cv (qbP N e.1 B)) (ac (cv (qbP N e.2.1 C)) (ac (cv (qh0 N a2 a3 D)) (ac (cv (qcd 1 E)) (ac (cv (qeS N a4 a5 F)) az))))))
  obtain rfl:=si d
  exact tr fol [1] [(10,.bool false)] (ac (gw A) az)
 obtain⟨U,G,h⟩:=bnd h
 refine sq (gr fol [1] (kBM U) (ac (cv (y7 P 1 G)) az) ?_)
 refine Goes.ret ?_
 obtain rfl:=si h
 exact(gw2 [.i U] (Ua tI))
def vW (N:Nat) (a:qo) (b:qo):Option qo:=
 (zg b).bind fun f=>
 ((if f<0 then
 (zI a).bind fun d=>
 (zI b).bind fun e=>
 some (d.s,d.w,e.s,e.w)
 else
 some (a.s,a.w,b.s,b.w):Option (Int×(List Int)×Int×(List Int)))).bind fun(g,h,i,j)=>
 (jy N (⟨g,h⟩:qo) (⟨i,j⟩:qo)).bind fun c=>
 some c.1
theorem qeu (N:Nat) (a:qo) (b:qo) {res:qo} (h:vW N a b=some res):qc ZT (.fn 161) [.agg (nz1 a),.agg (nz1 b)] [] (.agg (nz1 res)) []:=by
 unfold vW at h
 refine Ub Tryz.func161 rfl rfl (m:=21) rfl (rs:=[.cell 4 106]) rfl (l:=[(0,.agg (nz1 a)),(1,.agg (nz1 b))]) rfl ?_
 refine sg fol (kH []) [.cells (nz1 a),.cells (nz1 b),bZ] ?_
 refine sq ?_
 obtain⟨r,j,h⟩:=bnd h
 refine sq (gr fol [1] (kH [(9,.bool (decide (r<0)))]) (ac (cv (yD b j)) az) ?_)
 obtain⟨s,g6,h⟩:=bnd h
 refine Goes.imp (Q:=fun x s'=>(x= .normal/\ ∃d e f g,(d,e,f,g)=s/\Sub s' (ofG 21 (kH []),[.cells (ni1 d e),.cells (ni1 f g),bZ]))) ?_ ?_
 ·refine ihD g6 (fun t g6=>?_) (fun t g6=>?_)
  ·obtain⟨k,o,g6⟩:=bnd g6
   obtain⟨q,p,g6⟩:=bnd g6
   refine gq fol [1,3,4,5] (kH []) [.cells (nz1 k),.cells (nz1 q),bZ] (ac (cv (vH a o)) (ac (cv (vH b p)) (ac (hs (.run [0] (qp ZT 106 (.ptr 0 0) (.agg (nz1 k))) [.cells (nz1 a),.cells (nz1 b),bZ] .undef [.cells (nz1 k),.cells (nz1 b),bZ] true) (kw (n:=2) (by kernel_rfl) rfl rfl rfl rfl (cac rfl (cac nvc can)) rfl)) (ac (hs (.run [1] (qp ZT 106 (.ptr 1 0) (.agg (nz1 q))) [.cells (nz1 k),.cells (nz1 b),bZ] .undef [.cells (nz1 k),.cells (nz1 q),bZ] true) (kw (n:=2) (by kernel_rfl) rfl rfl rfl rfl (cac rfl (cac nvc can)) rfl)) az)))) ?_
   obtain rfl:=si g6
   exact⟨rfl,_,_,_,_,rfl,(Sub.refl _)⟩
  refine Goes.skip ?_
  obtain rfl:=si g6
  exact⟨rfl,_,_,_,_,rfl,(Sub.keep [2,3,4] rfl rfl)⟩
 rintro x s' ⟨rfl,d,e,f,g,rfl,hsub⟩
 try dsimp only at h
 refine Goes.sub hsub ?_
 obtain⟨c,i,h⟩:=bnd h
 refine sq (gq fol [2,8,9] (kAU (kBc [])) [.cells (ni1 d e),.cells (ni1 f g),bZ,.cells (nz1 c.1),.cells (nz1 c.2)] (ac (cv (qcH N (⟨d,e⟩:qo) (⟨f,g⟩:qo) i)) (ac (hs (.run [3] (qp ZT 106 (.ptr 3 0) (.agg (nz1 c.1))) [.cells (ni1 d e),.cells (ni1 f g),bZ,bZ,bZ] .undef [.cells (ni1 d e),.cells (ni1 f g),bZ,.cells (nz1 c.1),bZ] true) (kw (n:=2) (by kernel_rfl) rfl rfl rfl rfl (cac rfl (cac nvc can)) rfl)) (ac (hs (.run [4] (qp ZT 106 (.ptr 4 0) (.agg (nz1 c.2))) [.cells (ni1 d e),.cells (ni1 f g),bZ,.cells (nz1 c.1),bZ] .undef [.cells (ni1 d e),.cells (ni1 f g),bZ,.cells (nz1 c.1),.cells (nz1 c.2)] true) (kw (n:=2) (by kernel_rfl) rfl rfl rfl rfl (cac rfl (cac nvc can)) rfl)) az))) ?_)
 refine sq (gq fol [1] (kAU []) [.cells (ni1 d e),.cells (ni1 f g),.cells (nz1 c.1),.cells (nz1 c.1),.cells (nz1 c.2)] (ac (hs (.run [2] (qp ZT 106 (.ptr 2 0) (.agg (nz1 c.1))) [.cells (ni1 d e),.cells (ni1 f g),bZ,.cells (nz1 c.1),.cells (nz1 c.2)] .undef [.cells (ni1 d e),.cells (ni1 f g),.cells (nz1 c.1),.cells (nz1 c.1),.cells (nz1 c.2)] true) (kw (n:=2) (by kernel_rfl) rfl rfl rfl rfl (cac rfl (cac nvc can)) rfl)) az) ?_)
 refine Goes.ret ?_
 obtain rfl:=si h
 exact(gw2 [.agg (nz1 c.1)] (FzW.agg (qb.cons (Ua tI) (qb.cons (Ua (qm (qa .u64) _ (nl rfl))) qb.nil))))
def qbW (N:Nat) (num:qo) (den:qo):Option qh:=
 (zg den).bind fun k=>
 ((if k<0 then
 (zI num).bind fun i=>
 (zI den).bind fun j=>
 some (i.s,i.w,j.s,j.w)
 else
 some (num.s,num.w,den.s,den.w):Option (Int×(List Int)×Int×(List Int)))).bind fun(d,e,b,c)=>
 (if c.isEmpty=true then
 some (decide (b=1))
 else
 some false:Option Bool).bind fun f=>
 if f=true then
 some (⟨(⟨d,e⟩:qo),(⟨b,c⟩:qo)⟩:qh)
 else
 (qcI N (⟨d,e⟩:qo) (⟨b,c⟩:qo)).bind fun a=>
 (vW N (⟨d,e⟩:qo) a).bind fun g=>
 (vW N (⟨b,c⟩:qo) a).bind fun h=>
 some (⟨g,h⟩:qh)
theorem qeq (N:Nat) (num:qo) (den:qo) {res:qh} (h:qbW N num den=some res):qc ZT (.fn 105) [.agg (nz1 num),.agg (nz1 den)] [] (.agg (nq1 res)) []:=by
 unfold qbW at h
 refine Ub Tryz.func105 rfl rfl (m:=34) rfl (rs:=[.cell 4 108]) rfl (l:=[(0,.agg (nz1 num)),(1,.agg (nz1 den))]) rfl ?_
 refine sg fol (kH []) (.cells (nz1 num):: .cells (nz1 den)::(kD [])) ?_
 refine sq ?_
 obtain⟨A,q,h⟩:=bnd h
 refine sq (gr fol [1] (kH (kAz (decide (A<0)))) (ac (cv (yD den q)) az) ?_)
 obtain⟨B,g6,h⟩:=bnd h
 refine Goes.imp (Q:=fun x s'=>(x= .normal/\ ∃d e c a,(d,e,c,a)=B/\Sub s' (ofG 34 (kH []),(.cells (ni1 d e):: .cells (ni1 c a)::(kD []))))) ?_ ?_
 ·refine ihD g6 (fun C g6=>?_) (fun C g6=>?_)
  ·obtain⟨r,t,g6⟩:=bnd g6
   obtain⟨v,u,g6⟩:=bnd g6
   refine gq fol [1,3,4,5] (kH []) (.cells (nz1 r):: .cells (nz1 v)::(kD [])) (ac (cv (vH num t)) (ac (cv (vH den u)) (ac (hs (.run [0] (qp ZT 106 (.ptr 0 0) (.agg (nz1 r))) (.cells (nz1 num):: .cells (nz1 den)::(kD [])) .undef (.cells (nz1 r):: .cells (nz1 den)::(kD [])) true) (kw (n:=2) (by kernel_rfl) rfl rfl rfl rfl (cac rfl (cac nvc can)) rfl)) (ac (hs (.run [1] (qp ZT 106 (.ptr 1 0) (.agg (nz1 v))) (.cells (nz1 r):: .cells (nz1 den)::(kD [])) .undef (.cells (nz1 r):: .cells (nz1 v)::(kD [])) true) (kw (n:=2) (by kernel_rfl) rfl rfl rfl rfl (cac rfl (cac nvc can)) rfl)) az)))) ?_
   obtain rfl:=si g6
   exact⟨rfl,_,_,_,_,rfl,(Sub.refl _)⟩
  refine Goes.skip ?_
  obtain rfl:=si g6
  exact⟨rfl,_,_,_,_,rfl,(Sub.keep [2,3,4] rfl rfl)⟩
 rintro x s' ⟨rfl,d,e,c,a,rfl,hsub⟩
 try dsimp only at h
 refine Goes.sub hsub ?_
 refine sq ?_
 refine sq ?_
 obtain⟨y,b,h⟩:=bnd h
 refine Goes.cut (s':=(ofG 34 (kH [(20,.bool y)]),(.cells (ni1 d e):: .cells (ni1 c a)::(kD [])))) ?_ ?_
 ·rcases wyB b with⟨j,b⟩|⟨j,b⟩
  ·obtain rfl:=si b
   exact tr fol [2,3] (kH [(20,.bool (decide (c=1)))]) (ac (hs (.done (.opt (zf ZT .eql 104 (.tmp 14) (.const (.slice none 0 0)) (nvl (qa .u64) a) .nilslice)) (.bool a.isEmpty)) (qaO yA)) (ac (gw j) az))
  obtain rfl:=si b
  exact tr fol [2,3] (kH [(20,.bool false)]) (ac (hs (.done (.opt (zf ZT .eql 104 (.tmp 14) (.const (.slice none 0 0)) (nvl (qa .u64) a) .nilslice)) (.bool a.isEmpty)) (qaO yA)) (ac (gw j) az))
 refine ihB h (fun z h=>?_) (fun z h=>?_)
 ·refine sq (gq fol [3] (kAU []) [.cells (ni1 d e),.cells (ni1 c a),.cells (ni2 d e c a)] (ac (hs (.run [2] (qp ZT 108 (.ptr 2 0) (.agg (ni2 d e c a))) (.cells (ni1 d e):: .cells (ni1 c a)::(kD [])) .undef [.cells (ni1 d e),.cells (ni1 c a),.cells (ni2 d e c a)] true) (kw (n:=4) (by kernel_rfl) rfl rfl rfl rfl (cac rfl (cac nvc (cac rfl (cac nvc can)))) rfl)) az) ?_)
  refine Goes.ret ?_
  obtain rfl:=si h
  exact(gw2 [.agg (ni2 d e c a)] (FzW.agg (qb.cons (Ua tI) (qb.cons (Ua (qm (qa .u64) _ (nl rfl))) (qb.cons (Ua tI) (qb.cons (Ua (qm (qa .u64) _ (nl rfl))) qb.nil))))))
 refine Goes.skip ?_
 obtain⟨f,k,h⟩:=bnd h
 refine sq (gq fol [2,4] (kH (kBc [])) (.cells (ni1 d e):: .cells (ni1 c a)::(kD [.cells (nz1 f)])) (ac (cv (qh0 N (⟨d,e⟩:qo) (⟨c,a⟩:qo) k)) (ac (hs (.run [3] (qp ZT 106 (.ptr 3 0) (.agg (nz1 f))) (.cells (ni1 d e):: .cells (ni1 c a)::(kD [bZ])) .undef (.cells (ni1 d e):: .cells (ni1 c a)::(kD [.cells (nz1 f)])) true) (kw (n:=2) (by kernel_rfl) rfl rfl rfl rfl (cac rfl (cac nvc can)) rfl)) az)) ?_)
 obtain⟨g,o,h⟩:=bnd h
 obtain⟨i,p,h⟩:=bnd h
 refine sq (gq fol [2,5,7] (kAU []) [.cells (ni1 d e),.cells (ni1 c a),.cells (ni2 g.s g.w i.s i.w),.cells (nz1 f)] (ac (cv (qeu N (⟨d,e⟩:qo) f o)) (ac (cv (qeu N (⟨c,a⟩:qo) f p)) (ac (hs (.run [2] (qp ZT 108 (.ptr 2 0) (.agg (ni2 g.s g.w i.s i.w))) (.cells (ni1 d e):: .cells (ni1 c a)::(kD [.cells (nz1 f)])) .undef [.cells (ni1 d e),.cells (ni1 c a),.cells (ni2 g.s g.w i.s i.w),.cells (nz1 f)] true) (kw (n:=4) (by kernel_rfl) rfl rfl rfl rfl (cac rfl (cac nvc (cac rfl (cac nvc can)))) rfl)) az))) ?_)
 refine Goes.ret ?_
 obtain rfl:=si h
 exact(gw2 [.agg (ni2 g.s g.w i.s i.w)] (FzW.agg (qb.cons (Ua tI) (qb.cons (Ua (qm (qa .u64) _ (nl rfl))) (qb.cons (Ua tI) (qb.cons (Ua (qm (qa .u64) _ (nl rfl))) qb.nil))))))
def qcb (n:qo):Option qh:=
 (qcS 1).bind fun a=>
 some (⟨n,a⟩:qh)
theorem qf7 (n:qo) {res:qh} (h:qcb n=some res):qc ZT (.fn 124) [.agg (nz1 n)] [] (.agg (nq1 res)) []:=by
 unfold qcb at h
 refine Ub Tryz.func124 rfl rfl (m:=6) rfl (rs:=[.cell 2 108]) rfl (l:=[(0,.agg (nz1 n))]) rfl ?_
 refine sg fol (kAH []) (.cells (nz1 n)::(kD [])) ?_
 obtain⟨a,b,h⟩:=bnd h
 refine sq (gq fol [1,3] kBX [.cells (nz1 n),.cells (ni2 n.s n.w a.s a.w)] (ac (cv (qcd 1 b)) (ac (hs (.run [1] (qp ZT 108 (.ptr 1 0) (.agg (ni2 n.s n.w a.s a.w))) (.cells (nz1 n)::(kD [])) .undef [.cells (nz1 n),.cells (ni2 n.s n.w a.s a.w)] true) (kw (n:=4) (by kernel_rfl) rfl rfl rfl rfl (cac rfl (cac nvc (cac rfl (cac nvc can)))) rfl)) az)) ?_)
 refine Goes.ret ?_
 obtain rfl:=si h
 exact(gw2 [.agg (ni2 n.s n.w a.s a.w)] (FzW.agg (qb.cons (Ua tI) (qb.cons (Ua (qm (qa .u64) _ (nl rfl))) (qb.cons (Ua tI) (qb.cons (Ua (qm (qa .u64) _ (nl rfl))) qb.nil))))))
def jS (a:qh):Option Bool:=
 (if a.Den.w.isEmpty=true then
 some (decide (a.Den.s=1))
 else
 some false:Option Bool).bind fun b=>
 some b
theorem yZ (a:qh) {res:Bool} (h:jS a=some res):qc ZT (.fn 174) [.agg (nq1 a)] [] (.bool res) []:=by
 unfold jS at h
 refine Ub Tryz.func174 rfl rfl (m:=13) rfl (rs:=[.tmp 2]) rfl (l:=[(0,.agg (nq1 a))]) rfl ?_
 refine sg fol (kA2 []) [.cells (nq1 a)] ?_
 refine sq ?_
 obtain⟨d,b,h⟩:=bnd h
 refine Goes.cut (s':=(ofG 13 (kBq d),[.cells (nq1 a)])) ?_ ?_
 ·rcases wyB b with⟨c,b⟩|⟨c,b⟩
  ·obtain rfl:=si b
   exact tr fol [3,4] (kBq (decide (a.Den.s=1))) (ac (hs (.done (.opt (zf ZT .eql 104 (.tmp 5) (.const (.slice none 0 0)) (nvl (qa .u64) a.Den.w) .nilslice)) (.bool a.Den.w.isEmpty)) (qaO yA)) (ac (gw c) az))
  obtain rfl:=si b
  exact tr fol [3,4] kA7 (ac (hs (.done (.opt (zf ZT .eql 104 (.tmp 5) (.const (.slice none 0 0)) (nvl (qa .u64) a.Den.w) .nilslice)) (.bool a.Den.w.isEmpty)) (qaO yA)) (ac (gw c) az))
 refine Goes.ret ?_
 obtain rfl:=si h
 exact(gw2 [.bool d] (Ua tB))
def yG (N:Nat) (a:qh) (b:qh):Option qh:=
 ((jS a).bind fun g=>
 if g=true then
 (jS b).bind fun h=>
 some h
 else
 some false:Option Bool).bind fun i=>
 if i=true then
 (vw N a.Num b.Num).bind fun j=>
 (qcb j).bind fun k=>
 some k
 else
 (qP N a.Num b.Den).bind fun l=>
 (qP N b.Num a.Den).bind fun c=>
 (vw N l c).bind fun d=>
 (qP N a.Den b.Den).bind fun e=>
 (qbW N d e).bind fun f=>
 some f
theorem qd9 (N:Nat) (a:qh) (b:qh) {res:qh} (h:yG N a b=some res):qc ZT (.fn 120) [.agg (nq1 a),.agg (nq1 b)] [] (.agg (nq1 res)) []:=by
 unfold yG at h
 refine Ub Tryz.func120 rfl rfl (m:=34) rfl (rs:=[.cell 4 108]) rfl (l:=[(0,.agg (nq1 a)),(1,.agg (nq1 b))]) rfl ?_
 refine sg fol (kH []) (.cells (nq1 a):: .cells (nq1 b)::(kD [])) ?_
 refine sq ?_
 refine sq ?_
 obtain⟨w,c,h⟩:=bnd h
 refine Goes.cut (s':=(ofG 34 (kH (kBV w)),(.cells (nq1 a):: .cells (nq1 b)::(kD [])))) ?_ ?_
 ·obtain⟨B,e,c⟩:=bnd c
  rcases wyB c with⟨s,c⟩|⟨s,c⟩
  ·obtain⟨x,k,c⟩:=bnd c
   obtain rfl:=si c
   exact tr fol [1,2,4] (kH (kBV x)) (ac (cv (yZ a e)) (ac (gw s) (ac (cv (yZ b k)) az)))
  obtain rfl:=si c
  exact tr fol [1,2] (kH [(10,.bool false)]) (ac (cv (yZ a e)) (ac (gw s) az))
 refine ihB h (fun y h=>?_) (fun y h=>?_)
 ·obtain⟨z,o,h⟩:=bnd h
  obtain⟨r,p,h⟩:=bnd h
  refine sq (gq fol [4,5,6] (kAU []) [.cells (nq1 a),.cells (nq1 b),.cells (nq1 r)] (ac (cv (qaw N a.Num b.Num o)) (ac (cv (qf7 z p)) (ac (hs (.run [2] (qp ZT 108 (.ptr 2 0) (.agg (nq1 r))) (.cells (nq1 a):: .cells (nq1 b)::(kD [])) .undef [.cells (nq1 a),.cells (nq1 b),.cells (nq1 r)] true) (kw (n:=4) (by kernel_rfl) rfl rfl rfl rfl (cac rfl (cac nvc (cac rfl (cac nvc can)))) rfl)) az))) ?_)
  refine Goes.ret ?_
  obtain rfl:=si h
  exact(gw2 [.agg (nq1 r)] (FzW.agg (qb.cons (Ua tI) (qb.cons (Ua (qm (qa .u64) _ (nl rfl))) (qb.cons (Ua tI) (qb.cons (Ua (qm (qa .u64) _ (nl rfl))) qb.nil))))))
 refine Goes.skip ?_
 obtain⟨A,q,h⟩:=bnd h
 obtain⟨t,f,h⟩:=bnd h
 obtain⟨u,g,h⟩:=bnd h
 obtain⟨v,i,h⟩:=bnd h
 obtain⟨d,j,h⟩:=bnd h
 refine sq (gq fol [4,9,10,15,16,17] (kAU []) [.cells (nq1 a),.cells (nq1 b),.cells (nq1 d)] (ac (cv (zZ N a.Num b.Den q)) (ac (cv (zZ N b.Num a.Den f)) (ac (cv (qaw N A t g)) (ac (cv (zZ N a.Den b.Den i)) (ac (cv (qeq N u v j)) (ac (hs (.run [2] (qp ZT 108 (.ptr 2 0) (.agg (nq1 d))) (.cells (nq1 a):: .cells (nq1 b)::(kD [])) .undef [.cells (nq1 a),.cells (nq1 b),.cells (nq1 d)] true) (kw (n:=4) (by kernel_rfl) rfl rfl rfl rfl (cac rfl (cac nvc (cac rfl (cac nvc can)))) rfl)) az)))))) ?_)
 refine Goes.ret ?_
 obtain rfl:=si h
 exact(gw2 [.agg (nq1 d)] (FzW.agg (qb.cons (Ua tI) (qb.cons (Ua (qm (qa .u64) _ (nl rfl))) (qb.cons (Ua tI) (qb.cons (Ua (qm (qa .u64) _ (nl rfl))) qb.nil))))))
def kr (N:Nat) (l:List Str):Nat->Int->Option (Unit⊕Int)
 |0,_=>none
 |K+1,a=>
  if a<(l.length:Int)then
  (idx l a).bind fun c=>
  (qbo N c).bind fun b=>
  if(!decide (b=0))=true then
  some (.inr b)
  else
  kr N l K (w64 (a+1))
  else
  some (.inl ())
def xW (N:Nat) (l:List Str):Option Int:=
 (kr N l N 0).bind (fun
 |(.inl ())=>
 some 0
 |(.inr a)=>
 some a)
theorem qfu (N:Nat) (l:List Str) {res:Int} (h:xW N l=some res):qc ZT (.fn 81) [vl encS l] [] (.i res) []:=by
 unfold xW at h
 refine Ub Tryz.func81 rfl rfl (m:=18) rfl (rs:=[.tmp 2]) rfl (l:=(kBp l [])) rfl ?_
 refine sh fol (kBp l []) ?_
 refine sq ?_
 refine sh fol [(6,vl encS l),(7,.i (l.length:Int)),(8,.i 0)] ?_
 refine Goes.block ?_
 obtain⟨e,g2,h⟩:=bnd h
 refine Goes.imp (Q:=fun x s'=>(x= .exit 0/\(.inl ())=e/\Sub s' (ofG 18 [],[]))\/(x= .ret/\ ∃f,(.inr f)=e/\yP ZT [.tmp 2] (.i f) .ret s')) ?_ ?_
 ·refine Uc (fun M s=> ∃(a:Int),s=(ofG 18 ((6,vl encS l)::(kAh (l.length:Int) a)),[])/\kr N l M a=some e) ?_ (m:=N) ⟨_,rfl,g2⟩
  rintro M s ⟨a,rfl,g2⟩
  cases M with
  |zero=>simp only[kr]at g2;cases g2
  |succ M=>
   rw[kr]at g2
   refine sh fol [(6,vl encS l),(7,.i (l.length:Int)),(8,.i a),(9,.bool (decide (a<(l.length:Int))))] ?_
   refine sq ?_
   refine ihD g2 (fun j g2=>?_) (fun j g2=>?_)
   ·refine Goes.skip ?_
    refine sq (Goes.block ?_)
    obtain⟨g,b,g2⟩:=bnd g2
    refine sq (gr fol [0,1] ((4,.str g)::(6,vl encS l)::(kAh (l.length:Int) a)) (ac (iv sl56 encS b) (ac (lv 0 ce23 encS b rfl) az)) ?_)
    obtain⟨c,d,g2⟩:=bnd g2
    refine sq (gr fol [1] ((5,.i c)::(6,vl encS l)::(kAh (l.length:Int) a)) (ac (cv (qgM N g d)) az) ?_)
    refine sh fol ((5,.i c)::(6,vl encS l)::(7,.i (l.length:Int))::(8,.i a)::(kBa (!decide (c=0)))) ?_
    refine ihB g2 (fun k g2=>?_) (fun k g2=>?_)
    ·refine sh fol (kBM c) ?_
     refine Goes.ret ?_
     obtain rfl:=si g2
     exact Or.inr (⟨rfl,_,rfl,(gw2 [.i c] (Ua tI))⟩)
    refine Goes.skip ?_
    refine gh fol ((6,vl encS l)::(kAh (l.length:Int) (w64 (a+1)))) ?_
    exact⟨M,(ofG 18 ((6,vl encS l)::(kAh (l.length:Int) (w64 (a+1)))),[]),Nat.lt_succ_self _,(Sub.refl _),_,rfl,g2⟩
   refine Goes.exit ?_
   obtain rfl:=si g2
   exact Or.inl (⟨rfl,rfl,(Sub.keep [] rfl rfl)⟩)
 rintro x s' (⟨rfl,rfl,hsub⟩|⟨rfl,n,rfl,hret⟩)
 ·try dsimp only at h
  refine Goes.sub hsub ?_
  refine sh fol kB3 ?_
  refine Goes.ret ?_
  obtain rfl:=si h
  exact(gw2 [.i 0] (Ua tI))
 try dsimp only at h
 obtain rfl:=si h
 exact hret
def yw (N:Nat) (a:Str):Option qh:=
 (strings_Cut a [47]).bind fun b=>
 if(!b.2.2)=true then
 (qa3 N b.1).bind fun c=>
 (qcb c).bind fun d=>
 some d
 else
 (qa3 N b.1).bind fun e=>
 (qa3 N b.2.1).bind fun f=>
 some (⟨e,f⟩:qh)
theorem vX (N:Nat) (a:Str) {res:qh} (h:yw N a=some res):qc ZT (.fn 82) [.str a] [] (.agg (nq1 res)) []:=by
 unfold yw at h
 refine Ub Tryz.func82 rfl rfl (m:=22) rfl (rs:=[.cell 2 108]) rfl (l:=(kAQ a [])) rfl ?_
 refine sg fol (kAQ a (kAM [])) (kD []) ?_
 obtain⟨b,e,h⟩:=bnd h
 refine sq (gr fol [1] (kAM [(3,.str b.1),(4,.str b.2.1),(5,.bool b.2.2)]) (ac (cv (qew a [47] e)) az) ?_)
 refine sq ?_
 refine sh fol (kAM ((3,.str b.1)::(4,.str b.2.1)::(kBT (!b.2.2)))) ?_
 refine ihB h (fun o h=>?_) (fun o h=>?_)
 ·obtain⟨p,f,h⟩:=bnd h
  obtain⟨k,g,h⟩:=bnd h
  refine sq (gq fol [1,2,3] (kAM []) [.cells (nq1 k)] (ac (cv (qbP N b.1 f)) (ac (cv (qf7 p g)) (ac (hs (.run [0] (qp ZT 108 (.ptr 0 0) (.agg (nq1 k))) (kD []) .undef [.cells (nq1 k)] true) (kw (n:=4) (by kernel_rfl) rfl rfl rfl rfl (cac rfl (cac nvc (cac rfl (cac nvc can)))) rfl)) az))) ?_)
  refine Goes.ret ?_
  obtain rfl:=si h
  exact(gw2 [.agg (nq1 k)] (FzW.agg (qb.cons (Ua tI) (qb.cons (Ua (qm (qa .u64) _ (nl rfl))) (qb.cons (Ua tI) (qb.cons (Ua (qm (qa .u64) _ (nl rfl))) qb.nil))))))
 refine Goes.skip ?_
 obtain⟨c,i,h⟩:=bnd h
 obtain⟨d,j,h⟩:=bnd h
 refine sq (gq fol [1,3,5] (kAM []) [.cells (ni2 c.s c.w d.s d.w)] (ac (cv (qbP N b.1 i)) (ac (cv (qbP N b.2.1 j)) (ac (hs (.run [0] (qp ZT 108 (.ptr 0 0) (.agg (ni2 c.s c.w d.s d.w))) (kD []) .undef [.cells (ni2 c.s c.w d.s d.w)] true) (kw (n:=4) (by kernel_rfl) rfl rfl rfl rfl (cac rfl (cac nvc (cac rfl (cac nvc can)))) rfl)) az))) ?_)
 refine Goes.ret ?_
 obtain rfl:=si h
 exact(gw2 [.agg (ni2 c.s c.w d.s d.w)] (FzW.agg (qb.cons (Ua tI) (qb.cons (Ua (qm (qa .u64) _ (nl rfl))) (qb.cons (Ua tI) (qb.cons (Ua (qm (qa .u64) _ (nl rfl))) qb.nil))))))
def qa5 (a:qo):Option Int:=
 (qQ a).bind fun b=>
 if(b.2.length:Int)=0 then
 some 0
 else
 (idx b.2 (w64 ((b.2.length:Int)-1))).bind fun c=>
 (bits_Len64 c).bind fun d=>
 some (w64 ((w64 (64*(w64 ((b.2.length:Int)-1))))+d))
theorem qd3 (a:qo) {res:Int} (h:qa5 a=some res):qc ZT (.fn 159) [.agg (nz1 a)] [] (.i res) []:=by
 unfold qa5 at h
 refine Ub Tryz.func159 rfl rfl (m:=25) rfl (rs:=[.tmp 2]) rfl (l:=[(0,.agg (nz1 a))]) rfl ?_
 refine sg fol (kA2 []) [.cells (nz1 a)] ?_
 obtain⟨c,d,h⟩:=bnd h
 refine sq (gr fol [1] [(4,vl (qa .u64) c.2)] (ac (cv (zP a d)) az) ?_)
 refine sq ?_
 refine sh fol ((4,vl (qa .u64) c.2)::(kBU (decide ((c.2.length:Int)=0)))) ?_
 refine ihD h (fun g h=>?_) (fun g h=>?_)
 ·refine sh fol kB3 ?_
  refine Goes.ret ?_
  obtain rfl:=si h
  exact(gw2 [.i 0] (Ua tI))
 refine Goes.skip ?_
 obtain⟨j,b,h⟩:=bnd h
 obtain⟨f,e,h⟩:=bnd h
 refine sq (gr fol [8,9,10] (kBM (w64 ((w64 (64*(w64 ((c.2.length:Int)-1))))+f))) (ac (iv qV (qa .u64) b) (ac (lv 0 z8 (qa .u64) b rfl) (ac (cv (qfo j e)) az))) ?_)
 refine Goes.ret ?_
 obtain rfl:=si h
 exact(gw2 [.i (w64 ((w64 (64*(w64 ((c.2.length:Int)-1))))+f))] (Ua tI))
def jw (N:Nat):Nat->(List Str)->(List Int)->Option (List Str)
 |0,_,_=>none
 |K+1,i,j=>
  if(j.length:Int)>0 then
  (qaW N j ([1000000000000000000]:List Int)).bind fun b=>
  ((if(b.2.length:Int)>0 then
  (idx b.2 0).bind fun c=>
  (qif c 10).bind fun d=>
  some d
  else
  some [48]:Option Str)).bind fun a=>
  ((if(b.1.length:Int)>0 then
  (qe5 [48] (w64 (18-(a.length:Int)))).bind fun e=>
  (cat e a).bind fun f=>
  some f
  else
  some a:Option Str)).bind fun g=>
  (app 16 i [g]).bind fun h=>
  jw N K h b.1
  else
  some i
def zA (e:List Str):Nat->Bool->(Option (List Int))->Int->Option (Bool×(Option (List Int)))
 |0,_,_,_=>none
 |K+1,ok27,b,a=>
  if a>=0 then
  (idx e a).bind fun c=>
  (bWr ok27 b c).bind fun d=>
  zA e K true (some d) (w64 (a-1))
  else
  some (ok27,b)
def vz (N:Nat) (a:qo):Option Str:=
 if a.w.isEmpty=true then
 (qmB a.s).bind fun h=>
 some h
 else
 (qQ a).bind fun f=>
 (jw N N ([]:List Str) f.2).bind fun g=>
 ((if f.1=true then
 (bWr false (none:Option (List Int)) [45]).bind fun b=>
 some (true,(some b))
 else
 some (false,(none:Option (List Int))):Option (Bool×(Option (List Int))))).bind fun(ok21,c)=>
 (zA g N ok21 c (w64 ((g.length:Int)-1))).bind fun(ok30,d)=>
 (qm0 ok30 d).bind fun e=>
 some e
theorem qah (N:Nat) (a:qo) {res:Str} (h:vz N a=some res):qc ZT (.fn 208) [.agg (nz1 a)] [] (.str res) []:=by
 unfold vz at h
 refine Ub Tryz.func208 rfl rfl (m:=69) rfl (rs:=[.tmp 2]) rfl (l:=[(0,.agg (nz1 a))]) rfl ?_
 refine sg fol (kA2 []) [.cells (nz1 a)] ?_
 refine sq ?_
 refine sq (gr fol [2] (kA2 (kBh a.w.isEmpty)) (ac (hs (.done (.opt (zf ZT .eql 104 (.tmp 13) (.const (.slice none 0 0)) (nvl (qa .u64) a.w) .nilslice)) (.bool a.w.isEmpty)) (qaO yA)) az) ?_)
 refine ihB h (fun c1 h=>?_) (fun c1 h=>?_)
 ·obtain⟨r2,J,h⟩:=bnd h
  refine sq (gr fol [2] (kBs r2) (ac (cv (qo9 a.s J)) az) ?_)
  refine Goes.ret ?_
  obtain rfl:=si h
  exact(gw2 [.str r2] (Ua tS))
 refine Goes.skip ?_
 obtain⟨d,K,h⟩:=bnd h
 refine sq (gr fol [1] [(3,.bool d.1),(4,vl (qa .u64) d.2)] (ac (cv (zP a K)) az) ?_)
 refine sg fol [(3,.bool d.1),(4,vl (qa .u64) d.2),(5,.slice 1 0 1 1 1)] [.cells (nz1 a),.cells [.int .u64 1000000000000000000]] ?_
 refine sh fol [(3,.bool d.1),(4,vl (qa .u64) d.2),(5,.slice 1 0 1 1 1),(6,.nilslice)] ?_
 refine sq (Goes.block ?_)
 obtain⟨r7,g7,h⟩:=bnd h
 refine Goes.imp (Q:=fun x s'=>(x= .exit 0/\ ∃b,b=r7/\Sub s' (ofG 69 ((3,.bool d.1)::(kAS b [])),(kAY b [])))) ?_ ?_
 ·refine Goes.sub (s':=(ofG 69 [(3,.bool d.1),(4,vl (qa .u64) d.2),(5,vl (qa .u64) ([1000000000000000000]:List Int)),(6,.gslice 0 ([]:List Str).length 1)],[.cells (([]:List Str).flatMap encS.c)])) (Sub.norm [1] [none] rfl rfl (.keep (.same nB) (.keep (.same (qg (qa .u64) _)) (.keep (.frz (Fz.lit rfl rfl (Ud (AllST.cons tI AllST.nil))) (qg (qa .u64) _)) (.keep .nil .nil)))) (.fresh .nil)) ?_
  refine Uc (fun M s=> ∃(g:List Str) (I:List Int),s=(ofG 69 ((3,.bool d.1)::(4,vl (qa .u64) I)::(5,vl (qa .u64) ([1000000000000000000]:List Int))::(kAS g [])),(kAY g []))/\jw N M g I=some r7) ?_ (m:=N) ⟨_,_,rfl,g7⟩
  rintro M s ⟨g,I,rfl,g7⟩
  cases M with
  |zero=>simp only[jw]at g7;cases g7
  |succ M=>
   rw[jw]at g7
   refine sq ?_
   refine sh fol ((3,.bool d.1)::(4,vl (qa .u64) I)::(5,vl (qa .u64) ([1000000000000000000]:List Int))::(kAS g [(26,.bool (decide ((I.length:Int)>0)))])) ?_
   refine ihD g7 (fun c8 g7=>?_) (fun c8 g7=>?_)
   ·refine Goes.skip ?_
    refine Goes.block ?_
    obtain⟨j,L,g7⟩:=bnd g7
    refine sq (gr fol [2] ((3,.bool d.1)::(5,vl (qa .u64) ([1000000000000000000]:List Int))::(kAS g [(7,vl (qa .u64) j.1),(8,vl (qa .u64) j.2)])) (ac (cv (qfc N I ([1000000000000000000]:List Int) L)) az) ?_)
    refine sh fol ((3,.bool d.1)::(5,vl (qa .u64) ([1000000000000000000]:List Int))::(kAS g [(7,vl (qa .u64) j.1),(8,vl (qa .u64) j.2),(9,.str [48])])) ?_
    refine sq ?_
    refine sh fol ((3,.bool d.1)::(5,vl (qa .u64) ([1000000000000000000]:List Int))::(kAS g [(7,vl (qa .u64) j.1),(8,vl (qa .u64) j.2),(9,.str [48]),(35,.bool (decide ((j.2.length:Int)>0)))])) ?_
    obtain⟨U,g11,g7⟩:=bnd g7
    refine Goes.imp (Q:=fun x s'=>(x= .normal/\ ∃p,p=U/\Sub s' (ofG 69 ((3,.bool d.1)::(5,vl (qa .u64) ([1000000000000000000]:List Int))::(kAS g [(7,vl (qa .u64) j.1),(9,.str p)])),(kAY g [])))) ?_ ?_
    ·refine ihD g11 (fun V g11=>?_) (fun V g11=>?_)
     ·obtain⟨X,r,g11⟩:=bnd g11
      obtain⟨Y,z,g11⟩:=bnd g11
      refine gr fol [1,2,3] ((3,.bool d.1)::(5,vl (qa .u64) ([1000000000000000000]:List Int))::(kAS g [(7,vl (qa .u64) j.1),(9,.str Y)])) (ac (iv qV (qa .u64) r) (ac (lv 0 z8 (qa .u64) r rfl) (ac (cv (qpg X 10 z)) az))) ?_
      obtain rfl:=si g11
      exact⟨rfl,_,rfl,(Sub.refl _)⟩
     refine Goes.skip ?_
     obtain rfl:=si g11
     exact⟨rfl,_,rfl,(Sub.keep [3,5,6,7,9] rfl rfl)⟩
    rintro x s' ⟨rfl,p,rfl,hsub⟩
    refine Goes.sub hsub ?_
    refine sq ?_
    refine sh fol ((3,.bool d.1)::(5,vl (qa .u64) ([1000000000000000000]:List Int))::(kAS g [(7,vl (qa .u64) j.1),(9,.str p),(42,.bool (decide ((j.1.length:Int)>0)))])) ?_
    obtain⟨Z,g16,g7⟩:=bnd g7
    refine Goes.imp (Q:=fun x s'=>(x= .normal/\ ∃k,k=Z/\Sub s' (ofG 69 ((3,.bool d.1)::(5,vl (qa .u64) ([1000000000000000000]:List Int))::(kAS g [(7,vl (qa .u64) j.1),(9,.str k)])),(kAY g [])))) ?_ ?_
    ·refine ihD g16 (fun a0 g16=>?_) (fun a0 g16=>?_)
     ·obtain⟨a1,A,g16⟩:=bnd g16
      obtain⟨O,B,g16⟩:=bnd g16
      refine gr fol [3,5] ((3,.bool d.1)::(5,vl (qa .u64) ([1000000000000000000]:List Int))::(kAS g [(7,vl (qa .u64) j.1),(9,.str O)])) (ac (cv (qlM [48] (w64 (18-(p.length:Int))) A)) (ac (hs (.done (.opt (zf ZT .add 9 (.tmp 46) (.tmp 47) (.str a1) (.str p))) (.str O)) (qaR B)) az)) ?_
      obtain rfl:=si g16
      exact⟨rfl,_,rfl,(Sub.refl _)⟩
     refine Goes.skip ?_
     obtain rfl:=si g16
     exact⟨rfl,_,rfl,(Sub.keep [3,5,6,7,9] rfl rfl)⟩
    rintro x s' ⟨rfl,k,rfl,hsub⟩
    refine Goes.sub hsub ?_
    obtain⟨n,C,g7⟩:=bnd g7
    refine sq (gq fol [3] [(3,.bool d.1),(5,vl (qa .u64) ([1000000000000000000]:List Int)),(6,.gslice 2 n.length 1),(7,vl (qa .u64) j.1)] (.dead:: .cells [.str k]::(kAY n [])) (ac (hs (.run [0,1] (yz ZT [244,244] (.gslice 0 g.length 1) (.slice 1 0 1 1 1)) (kAY g [.cells [.str k]]) (.gslice 2 n.length 1) (.dead:: .cells [.str k]::(kAY n [])) true) (qaQ qqh (E:=encS) rfl (qen (E:=encS) (ys:=[k]) rfl rfl rfl rfl) (qff (E:=encS) (l:=g) rfl rfl rfl C rfl))) az) ?_)
    refine gh fol [(3,.bool d.1),(4,vl (qa .u64) j.1),(5,vl (qa .u64) ([1000000000000000000]:List Int)),(6,.gslice 2 n.length 1)] ?_
    exact⟨M,(ofG 69 ((3,.bool d.1)::(4,vl (qa .u64) j.1)::(5,vl (qa .u64) ([1000000000000000000]:List Int))::(kAS n [])),(kAY n [])),Nat.lt_succ_self _,(Sub.norm [] [some 2] rfl rfl (.keep (.same nB) (.keep (.same (qg (qa .u64) _)) (.keep (.same (qg (qa .u64) _)) (.keep (.gslice rfl) .nil)))) (.ks .nil)),_,_,rfl,g7⟩
   refine Goes.exit ?_
   obtain rfl:=si g7
   exact⟨rfl,_,rfl,(Sub.keep [3,6] rfl rfl)⟩
 rintro x s' ⟨rfl,b,rfl,hsub⟩
 refine Goes.sub hsub ?_
 refine sg fol ((3,.bool d.1)::(kAS b (kB2 []))) (kAY b [.bld 197 5 [.nilptr,.nilslice]]) ?_
 refine sq ?_
 refine sh fol (kAS b (kB2 [(54,.bool d.1)])) ?_
 obtain⟨a2,g23,h⟩:=bnd h
 refine Goes.imp (Q:=fun x s'=>(x= .normal/\ ∃ok21 u,(ok21,u)=a2/\Sub s' (ofG 69 (kAS b (kB2 [])),(kAY b [.bld 197 5 [pz ok21 1 0,hsl 2 1 u],.cells ((hof u).flatMap (qa .u8).c)])))) ?_ ?_
 ·refine ihB g23 (fun a3 g23=>?_) (fun a3 g23=>?_)
  ·refine Goes.sub (s':=(ofG 69 (kAS b (kB2 [(54,.bool d.1)])),(kAY b [.bld 197 5 [pz false 1 0,.nilslice]]))) (Sub.norm [] [some 0,some 1] rfl rfl (.keep (.gslice rfl) (.kp (.keep (.same nB) .nil))) (.ks (.kb rfl (.bld (rc (jm.pz0) (rc (.same (qC.nilslice)) rn))) .nil))) ?_
   refine Goes.sub (s':=(ofG 69 (kAS b (kB2 [(54,.bool d.1)])),(kAY b [.bld 197 5 [pz false 1 0,hsl 2 1 (none:Option (List Int))],.cells ((hof (none:Option (List Int))).flatMap (qa .u8).c)]))) (Sub.norm [] [some 0,some 1,none] rfl rfl (.keep (.gslice rfl) (.kp (.keep (.same nB) .nil))) (.ks (.kb rfl (.bld (rc (jm.pz0) (rc .hs0 rn))) (.fresh .nil)))) ?_
   obtain⟨v,D,g23⟩:=bnd g23
   refine gq fol [0] (kAS b (kB2 [])) (kAY b [.bld 197 5 [pz true 1 0,hsl 3 1 (some v)],.dead,.cells ((hof (some v)).flatMap (qa .u8).c)]) (ac (hs (.callH 191 [.ptr 1 0,.str [45]] (kAY b [.bld 197 5 [pz false 1 0,hsl 2 1 (none:Option (List Int))],.cells ((hof (none:Option (List Int))).flatMap (qa .u8).c)]) [1,2] (.tuple [.i (([45].length:Nat):Int),.niliface]) (kAY b [.bld 197 5 [pz true 1 0,hsl 3 1 (some v)],.dead,.cells ((hof (some v)).flatMap (qa .u8).c)])) (qgj [some 1,some 2] [none,some 0,none,some 2] (qog false (none:Option (List Int)) [45] D) (.kb rfl (.bld (rc (jm.pz0) (rc .hs0 rn))) (.ks .nil)) rfl rfl (.old rfl rfl (.back rfl rfl (.bld (rc ((jm.pz rfl)) (rc (.hs rfl) rn))) rfl (.dead (.new rfl rfl (.same fa) rfl .nil)))) (rc (.ptr rfl) (rc (.same nS) rn)) (.same (qC.tuple sn)) rfl)) az) ?_
   obtain rfl:=si g23
   exact⟨rfl,_,_,rfl,(Sub.norm [] [some 0,some 1,some 3] rfl rfl (.keep (.gslice rfl) (.kp .nil)) (.ks (.kb rfl (.bld (rc ((jm.pz rfl)) (rc (.hs rfl) rn))) (.ks .nil))))⟩
  refine Goes.skip ?_
  obtain rfl:=si g23
  exact⟨rfl,_,_,rfl,(Sub.norm [] [some 0,some 1,none] rfl rfl (.keep (.gslice rfl) (.kp .nil)) (.ks (.kb rfl (.bld (rc (jm.pz0) (rc .hs0 rn))) (.fresh .nil))))⟩
 rintro x s' ⟨rfl,ok21,u,rfl,hsub⟩
 try dsimp only at h
 refine Goes.sub hsub ?_
 refine sq ?_
 refine sh fol (kAS b (kB2 [(11,.i (w64 ((b.length:Int)-1)))])) ?_
 refine Goes.block ?_
 obtain⟨P,g32,h⟩:=bnd h
 refine Goes.imp (Q:=fun x s'=>(x= .exit 2/\ ∃ok30 o,(ok30,o)=P/\Sub s' (ofG 69 [(10,.ptr 0 0)],[.bld 197 5 [pz ok30 0 0,hsl 1 1 o],.cells ((hof o).flatMap (qa .u8).c)]))) ?_ ?_
 ·refine Uc (fun M s=> ∃(ok27:Bool) (e:Option (List Int)) (f:Int),s=(ofG 69 (kAS b (kB2 [(11,.i f)])),(kAY b [.bld 197 5 [pz ok27 1 0,hsl 2 1 e],.cells ((hof e).flatMap (qa .u8).c)]))/\zA b M ok27 e f=some P) ?_ (m:=N) ⟨_,_,_,rfl,g32⟩
  rintro M s ⟨ok27,e,f,rfl,g32⟩
  cases M with
  |zero=>simp only[zA]at g32;cases g32
  |succ M=>
   rw[zA]at g32
   refine sq ?_
   refine sh fol (kAS b (kB2 [(11,.i f),(60,.bool (decide (f>=0)))])) ?_
   refine ihD g32 (fun a4 g32=>?_) (fun a4 g32=>?_)
   ·refine Goes.skip ?_
    refine sq (Goes.block ?_)
    obtain⟨y,t,g32⟩:=bnd g32
    obtain⟨q,F,g32⟩:=bnd g32
    refine gq fol [2,3,4] (kAS b (kB2 [(11,.i f)])) (kAY b [.bld 197 5 [pz true 1 0,hsl 3 1 (some q)],.dead,.cells ((hof (some q)).flatMap (qa .u8).c)]) (ac (hs (.done (.opt (qj ZT 244 (.gslice 0 b.length 1) (.i f))) (.ptr 0 ((f:Int).toNat*1+0))) (ix_gs qqh t)) (ac (hs (.run [0] (jr ZT 9 (.ptr 0 ((f:Int).toNat*1+0))) (kAY b [.bld 197 5 [pz ok27 1 0,hsl 2 1 e],.cells ((hof e).flatMap (qa .u8).c)]) (.str y) (kAY b [.bld 197 5 [pz ok27 1 0,hsl 2 1 e],.cells ((hof e).flatMap (qa .u8).c)]) false) (qcB ce9 (E:=encS) (l:=b) rfl rfl t (nl rfl) rfl)) (ac (hs (.callH 191 [.ptr 1 0,.str y] (kAY b [.bld 197 5 [pz ok27 1 0,hsl 2 1 e],.cells ((hof e).flatMap (qa .u8).c)]) [1,2] (.tuple [.i ((y.length:Nat):Int),.niliface]) (kAY b [.bld 197 5 [pz true 1 0,hsl 3 1 (some q)],.dead,.cells ((hof (some q)).flatMap (qa .u8).c)])) (qgj [some 1,some 2] [none,some 0,none,some 2] (qog ok27 e y F) (.kb rfl (.bld (rc ((jm.pz rfl)) (rc (.hs rfl) rn))) (.ks .nil)) rfl rfl (.old rfl rfl (.back rfl rfl (.bld (rc ((jm.pz rfl)) (rc (.hs rfl) rn))) rfl (.dead (.new rfl rfl (.same fa) rfl .nil)))) (rc (.ptr rfl) (rc (.same nS) rn)) (.same (qC.tuple sn)) rfl)) az))) ?_
    refine gh fol (kAS b (kB2 [(11,.i (w64 (f-1)))])) ?_
    exact⟨M,(ofG 69 (kAS b (kB2 [(11,.i (w64 (f-1)))])),(kAY b [.bld 197 5 [pz true 1 0,hsl 2 1 (some q)],.cells ((hof (some q)).flatMap (qa .u8).c)])),Nat.lt_succ_self _,(Sub.norm [] [some 0,some 1,some 3] rfl rfl (.keep (.gslice rfl) (.kp (.keep (.same nI) .nil))) (.ks (.kb rfl (.bld (rc ((jm.pz rfl)) (rc (.hs rfl) rn))) (.ks .nil)))),_,_,_,rfl,g32⟩
   refine Goes.exit ?_
   obtain rfl:=si g32
   exact⟨rfl,_,_,rfl,(Sub.norm [] [some 1,some 2] rfl rfl (.drop (.kp .nil)) (.kb rfl (.bld (rc ((jm.pz rfl)) (rc (.hs rfl) rn))) (.ks .nil)))⟩
 rintro x s' ⟨rfl,ok30,o,rfl,hsub⟩
 try dsimp only at h
 refine Goes.sub hsub ?_
 obtain⟨G,H,h⟩:=bnd h
 refine sq (gq fol [0] (kBs G) [.dead,.dead] (ac (hs (.callH 193 [.ptr 0 0] [.bld 197 5 [pz ok30 0 0,hsl 1 1 o],.cells ((hof o).flatMap (qa .u8).c)] [0,1] (.str G) [.dead,.dead]) (qgj [some 0,some 1] [none,none] (qpw ok30 o H) (.kb rfl (.bld (rc ((jm.pz rfl)) (rc (.hs rfl) rn))) (.ks .nil)) rfl rfl (.dead (.dead .nil)) (rc (.ptr rfl) rn) (.same nS) rfl)) az) ?_)
 refine Goes.ret ?_
 obtain rfl:=si h
 exact(gw2 [.str G] (Ua tS))
def qda (N:Nat) (n:qo):Option Bool:=
 ((qa5 n).bind fun a=>
 if a>1800 then
 (vz N n).bind fun b=>
 (strings_TrimPrefix b [45]).bind fun c=>
 some (decide ((c.length:Int)>600))
 else
 some false:Option Bool).bind fun d=>
 some d
theorem qed (N:Nat) (n:qo) {res:Bool} (h:qda N n=some res):qc ZT (.fn 207) [.agg (nz1 n)] [] (.bool res) []:=by
 unfold qda at h
 refine Ub Tryz.func207 rfl rfl (m:=13) rfl (rs:=[.tmp 2]) rfl (l:=[(0,.agg (nz1 n))]) rfl ?_
 refine sg fol (kA2 []) [.cells (nz1 n)] ?_
 refine sq ?_
 obtain⟨f,a,h⟩:=bnd h
 refine Goes.cut (s':=(ofG 13 (kBq f),[.cells (nz1 n)])) ?_ ?_
 ·obtain⟨j,b,a⟩:=bnd a
  rcases wyD a with⟨e,a⟩|⟨e,a⟩
  ·obtain⟨g,c,a⟩:=bnd a
   obtain⟨i,d,a⟩:=bnd a
   obtain rfl:=si a
   exact tr fol [1,3,5,6] (kBq (decide ((i.length:Int)>600))) (ac (cv (qd3 n b)) (ac (gw e) (ac (cv (qah N n c)) (ac (cv (qbt g [45] d)) az))))
  obtain rfl:=si a
  exact tr fol [1,3] kA7 (ac (cv (qd3 n b)) (ac (gw e) az))
 refine Goes.ret ?_
 obtain rfl:=si h
 exact(gw2 [.bool f] (Ua tB))
def xk (N:Nat) (a:qh):Option Bool:=
 ((qda N a.Num).bind fun b=>
 if b=true then
 some true
 else
 (qda N a.Den).bind fun c=>
 some c:Option Bool).bind fun d=>
 some d
theorem qbe (N:Nat) (a:qh) {res:Bool} (h:xk N a=some res):qc ZT (.fn 151) [.agg (nq1 a)] [] (.bool res) []:=by
 unfold xk at h
 refine Ub Tryz.func151 rfl rfl (m:=11) rfl (rs:=[.tmp 2]) rfl (l:=[(0,.agg (nq1 a))]) rfl ?_
 refine sg fol (kA2 []) [.cells (nq1 a)] ?_
 refine sq ?_
 obtain⟨f,b,h⟩:=bnd h
 refine Goes.cut (s':=(ofG 11 (kBq f),[.cells (nq1 a)])) ?_ ?_
 ·obtain⟨i,c,b⟩:=bnd b
  rcases wyB b with⟨e,b⟩|⟨e,b⟩
  ·obtain rfl:=si b
   exact tr fol [2,3] [(2,.bool true)] (ac (cv (qed N a.Num c)) (ac (gw e) az))
  obtain⟨g,d,b⟩:=bnd b
  obtain rfl:=si b
  exact tr fol [2,3,6] (kBq g) (ac (cv (qed N a.Num c)) (ac (gw e) (ac (cv (qed N a.Den d)) az)))
 refine Goes.ret ?_
 obtain rfl:=si h
 exact(gw2 [.bool f] (Ua tB))
def xX (N:Nat) (a:qh):Option Str:=
 (jS a).bind fun b=>
 if b=true then
 (vz N a.Num).bind fun c=>
 some c
 else
 (vz N a.Num).bind fun d=>
 (cat d [47]).bind fun e=>
 (vz N a.Den).bind fun f=>
 (cat e f).bind fun g=>
 some g
theorem qdk (N:Nat) (a:qh) {res:Str} (h:xX N a=some res):qc ZT (.fn 152) [.agg (nq1 a)] [] (.str res) []:=by
 unfold xX at h
 refine Ub Tryz.func152 rfl rfl (m:=16) rfl (rs:=[.tmp 2]) rfl (l:=[(0,.agg (nq1 a))]) rfl ?_
 refine sg fol (kA2 []) [.cells (nq1 a)] ?_
 refine sq ?_
 obtain⟨n,b,h⟩:=bnd h
 refine sq (gr fol [1] (kA2 (kAl n)) (ac (cv (yZ a b)) az) ?_)
 refine ihB h (fun o h=>?_) (fun o h=>?_)
 ·obtain⟨j,c,h⟩:=bnd h
  refine sq (gr fol [2] (kBs j) (ac (cv (qah N a.Num c)) az) ?_)
  refine Goes.ret ?_
  obtain rfl:=si h
  exact(gw2 [.str j] (Ua tS))
 refine Goes.skip ?_
 obtain⟨p,d,h⟩:=bnd h
 obtain⟨k,e,h⟩:=bnd h
 obtain⟨q,f,h⟩:=bnd h
 obtain⟨i,g,h⟩:=bnd h
 refine sq (gr fol [2,3,6,7] (kBs i) (ac (cv (qah N a.Num d)) (ac (hs (.done (.opt (zf ZT .add 9 (.tmp 10) (.const (.string ⟨#[47]⟩)) (.str p) (.str [47]))) (.str k)) (qaR e)) (ac (cv (qah N a.Den f)) (ac (hs (.done (.opt (zf ZT .add 9 (.tmp 11) (.tmp 14) (.str k) (.str q))) (.str i)) (qaR g)) az)))) ?_)
 refine Goes.ret ?_
 obtain rfl:=si h
 exact(gw2 [.str i] (Ua tS))
def qbh (a:qh):Option qh:=
 (zI a.Num).bind fun b=>
 some (⟨b,a.Den⟩:qh)
theorem qgR (a:qh) {res:qh} (h:qbh a=some res):qc ZT (.fn 153) [.agg (nq1 a)] [] (.agg (nq1 res)) []:=by
 unfold qbh at h
 refine Ub Tryz.func153 rfl rfl (m:=9) rfl (rs:=[.cell 2 108]) rfl (l:=[(0,.agg (nq1 a))]) rfl ?_
 refine sg fol (kAH []) (.cells (nq1 a)::(kD [])) ?_
 obtain⟨b,c,h⟩:=bnd h
 refine sq (gq fol [2,6] kBX [.cells (nq1 a),.cells (ni2 b.s b.w a.Den.s a.Den.w)] (ac (cv (vH a.Num c)) (ac (hs (.run [1] (qp ZT 108 (.ptr 1 0) (.agg (ni2 b.s b.w a.Den.s a.Den.w))) (.cells (nq1 a)::(kD [])) .undef [.cells (nq1 a),.cells (ni2 b.s b.w a.Den.s a.Den.w)] true) (kw (n:=4) (by kernel_rfl) rfl rfl rfl rfl (cac rfl (cac nvc (cac rfl (cac nvc can)))) rfl)) az)) ?_)
 refine Goes.ret ?_
 obtain rfl:=si h
 exact(gw2 [.agg (ni2 b.s b.w a.Den.s a.Den.w)] (FzW.agg (qb.cons (Ua tI) (qb.cons (Ua (qm (qa .u64) _ (nl rfl))) (qb.cons (Ua tI) (qb.cons (Ua (qm (qa .u64) _ (nl rfl))) qb.nil))))))
def xG (N:Nat) (a:qh) (b:qh):Option qh:=
 (qbh b).bind fun c=>
 (yG N a c).bind fun d=>
 some d
theorem qgS (N:Nat) (a:qh) (b:qh) {res:qh} (h:xG N a b=some res):qc ZT (.fn 89) [.agg (nq1 a),.agg (nq1 b)] [] (.agg (nq1 res)) []:=by
 unfold xG at h
 refine Ub Tryz.func89 rfl rfl (m:=9) rfl (rs:=[.cell 4 108]) rfl (l:=[(0,.agg (nq1 a)),(1,.agg (nq1 b))]) rfl ?_
 refine sg fol (kH []) (.cells (nq1 a):: .cells (nq1 b)::(kD [])) ?_
 obtain⟨f,c,h⟩:=bnd h
 obtain⟨e,d,h⟩:=bnd h
 refine sq (gq fol [2,3,4] (kAU []) [.cells (nq1 a),.cells (nq1 b),.cells (nq1 e)] (ac (cv (qgR b c)) (ac (cv (qd9 N a f d)) (ac (hs (.run [2] (qp ZT 108 (.ptr 2 0) (.agg (nq1 e))) (.cells (nq1 a):: .cells (nq1 b)::(kD [])) .undef [.cells (nq1 a),.cells (nq1 b),.cells (nq1 e)] true) (kw (n:=4) (by kernel_rfl) rfl rfl rfl rfl (cac rfl (cac nvc (cac rfl (cac nvc can)))) rfl)) az))) ?_)
 refine Goes.ret ?_
 obtain rfl:=si h
 exact(gw2 [.agg (nq1 e)] (FzW.agg (qb.cons (Ua tI) (qb.cons (Ua (qm (qa .u64) _ (nl rfl))) (qb.cons (Ua tI) (qb.cons (Ua (qm (qa .u64) _ (nl rfl))) qb.nil))))))
def yI (N:Nat) (a:qh) (b:qh):Option qh:=
 (qP N a.Num b.Num).bind fun c=>
 (qP N a.Den b.Den).bind fun d=>
 (qbW N c d).bind fun e=>
 some e
theorem qd8 (N:Nat) (a:qh) (b:qh) {res:qh} (h:yI N a b=some res):qc ZT (.fn 102) [.agg (nq1 a),.agg (nq1 b)] [] (.agg (nq1 res)) []:=by
 unfold yI at h
 refine Ub Tryz.func102 rfl rfl (m:=16) rfl (rs:=[.cell 4 108]) rfl (l:=[(0,.agg (nq1 a)),(1,.agg (nq1 b))]) rfl ?_
 refine sg fol (kH []) (.cells (nq1 a):: .cells (nq1 b)::(kD [])) ?_
 obtain⟨g,c,h⟩:=bnd h
 obtain⟨i,d,h⟩:=bnd h
 obtain⟨f,e,h⟩:=bnd h
 refine sq (gq fol [4,9,10,11] (kAU []) [.cells (nq1 a),.cells (nq1 b),.cells (nq1 f)] (ac (cv (zZ N a.Num b.Num c)) (ac (cv (zZ N a.Den b.Den d)) (ac (cv (qeq N g i e)) (ac (hs (.run [2] (qp ZT 108 (.ptr 2 0) (.agg (nq1 f))) (.cells (nq1 a):: .cells (nq1 b)::(kD [])) .undef [.cells (nq1 a),.cells (nq1 b),.cells (nq1 f)] true) (kw (n:=4) (by kernel_rfl) rfl rfl rfl rfl (cac rfl (cac nvc (cac rfl (cac nvc can)))) rfl)) az)))) ?_)
 refine Goes.ret ?_
 obtain rfl:=si h
 exact(gw2 [.agg (nq1 f)] (FzW.agg (qb.cons (Ua tI) (qb.cons (Ua (qm (qa .u64) _ (nl rfl))) (qb.cons (Ua tI) (qb.cons (Ua (qm (qa .u64) _ (nl rfl))) qb.nil))))))
def qbd (N:Nat) (a:qh):Option qh:=
 (qbW N a.Den a.Num).bind fun b=>
 some b
theorem qgI (N:Nat) (a:qh) {res:qh} (h:qbd N a=some res):qc ZT (.fn 90) [.agg (nq1 a)] [] (.agg (nq1 res)) []:=by
 unfold qbd at h
 refine Ub Tryz.func90 rfl rfl (m:=8) rfl (rs:=[.cell 2 108]) rfl (l:=[(0,.agg (nq1 a))]) rfl ?_
 refine sg fol (kAH []) (.cells (nq1 a)::(kD [])) ?_
 obtain⟨c,b,h⟩:=bnd h
 refine sq (gq fol [4,5] kBX [.cells (nq1 a),.cells (nq1 c)] (ac (cv (qeq N a.Den a.Num b)) (ac (hs (.run [1] (qp ZT 108 (.ptr 1 0) (.agg (nq1 c))) (.cells (nq1 a)::(kD [])) .undef [.cells (nq1 a),.cells (nq1 c)] true) (kw (n:=4) (by kernel_rfl) rfl rfl rfl rfl (cac rfl (cac nvc (cac rfl (cac nvc can)))) rfl)) az)) ?_)
 refine Goes.ret ?_
 obtain rfl:=si h
 exact(gw2 [.agg (nq1 c)] (FzW.agg (qb.cons (Ua tI) (qb.cons (Ua (qm (qa .u64) _ (nl rfl))) (qb.cons (Ua tI) (qb.cons (Ua (qm (qa .u64) _ (nl rfl))) qb.nil))))))
def xK (N:Nat) (a:qh) (b:qh):Option qh:=
 (qbd N b).bind fun c=>
 (yI N a c).bind fun d=>
 some d
theorem qgN (N:Nat) (a:qh) (b:qh) {res:qh} (h:xK N a b=some res):qc ZT (.fn 88) [.agg (nq1 a),.agg (nq1 b)] [] (.agg (nq1 res)) []:=by
 unfold xK at h
 refine Ub Tryz.func88 rfl rfl (m:=9) rfl (rs:=[.cell 4 108]) rfl (l:=[(0,.agg (nq1 a)),(1,.agg (nq1 b))]) rfl ?_
 refine sg fol (kH []) (.cells (nq1 a):: .cells (nq1 b)::(kD [])) ?_
 obtain⟨f,c,h⟩:=bnd h
 obtain⟨e,d,h⟩:=bnd h
 refine sq (gq fol [2,3,4] (kAU []) [.cells (nq1 a),.cells (nq1 b),.cells (nq1 e)] (ac (cv (qgI N b c)) (ac (cv (qd8 N a f d)) (ac (hs (.run [2] (qp ZT 108 (.ptr 2 0) (.agg (nq1 e))) (.cells (nq1 a):: .cells (nq1 b)::(kD [])) .undef [.cells (nq1 a),.cells (nq1 b),.cells (nq1 e)] true) (kw (n:=4) (by kernel_rfl) rfl rfl rfl rfl (cac rfl (cac nvc (cac rfl (cac nvc can)))) rfl)) az))) ?_)
 refine Goes.ret ?_
 obtain rfl:=si h
 exact(gw2 [.agg (nq1 e)] (FzW.agg (qb.cons (Ua tI) (qb.cons (Ua (qm (qa .u64) _ (nl rfl))) (qb.cons (Ua tI) (qb.cons (Ua (qm (qa .u64) _ (nl rfl))) qb.nil))))))
def ja (N:Nat) (a:qh) (b:qh):Option Int:=
 (qP N a.Num b.Den).bind fun c=>
 (qP N b.Num a.Den).bind fun d=>
 (qa2 N c d).bind fun e=>
 some e
theorem xS (N:Nat) (a:qh) (b:qh) {res:Int} (h:ja N a b=some res):qc ZT (.fn 83) [.agg (nq1 a),.agg (nq1 b)] [] (.i res) []:=by
 unfold ja at h
 refine Ub Tryz.func83 rfl rfl (m:=16) rfl (rs:=[.tmp 4]) rfl (l:=[(0,.agg (nq1 a)),(1,.agg (nq1 b))]) rfl ?_
 refine sg fol (kR []) [.cells (nq1 a),.cells (nq1 b)] ?_
 obtain⟨g,c,h⟩:=bnd h
 obtain⟨j,d,h⟩:=bnd h
 obtain⟨f,e,h⟩:=bnd h
 refine sq (gr fol [4,9,10] (kB7 f) (ac (cv (zZ N a.Num b.Den c)) (ac (cv (zZ N b.Num a.Den d)) (ac (cv (qeS N g j e)) az))) ?_)
 refine Goes.ret ?_
 obtain rfl:=si h
 exact(gw2 [.i f] (Ua tI))
end Go.Av
