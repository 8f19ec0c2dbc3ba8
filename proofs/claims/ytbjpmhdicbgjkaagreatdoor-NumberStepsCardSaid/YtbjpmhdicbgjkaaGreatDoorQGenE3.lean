/-
  Walks of functions: what each computes, as a plain function.
-/
import Derived.Test.YtbjpmhdicbgjkaaGreatDoorQGenE2
noncomputable section
namespace Go.Av
open Go.Proofs Go.RowKit
set_option linter.unusedSectionVars false
set_option linter.unusedVariables false
set_option linter.unusedSimpArgs false
set_option maxRecDepth 100000
def qa3 (a:qg):Option qg:=
 if a.s<0 then
 (zI a).bind fun b=>
 some b
 else
 some a
theorem qel (a:qg) {res:qg} (h:qa3 a=some res):qb ZT (.fn 184) [.agg (nz1 a)] [] (.agg (nz1 res)) []:=by
 unfold qa3 at h
 refine Ub Tryz.func184 rfl rfl (m:=9) rfl (rs:=[.cell 2 106]) rfl (l:=[(0,.agg (nz1 a))]) rfl ?_
 refine sg fol (kAH []) [.cells (nz1 a),bZ] ?_
 refine sq ?_
 refine sh fol (kAH [(5,.bool (decide (a.s<0)))]) ?_
 refine ihD h (fun d h=>?_) (fun d h=>?_)
 ·obtain⟨c,b,h⟩:=bnd h
  refine sq (gq fol [1,2] kBX [.cells (nz1 a),.cells (nz1 c)] (ac (cv (vE a b)) (ac (hs (.run [1] (qo ZT 106 (.ptr 1 0) (.agg (nz1 c))) [.cells (nz1 a),bZ] .undef [.cells (nz1 a),.cells (nz1 c)] true) (qH (n:=2) (by kernel_rfl) rfl rfl rfl rfl (cac rfl (cac nvc can)) rfl)) az)) ?_)
  refine Goes.ret ?_
  obtain rfl:=si h
  exact(gw2 [.agg (nz1 c)] (FzW.agg (qd.cons (Ua tI) (qd.cons (Ua (qp (qa .u64) _ (nl rfl))) qd.nil))))
 refine Goes.skip ?_
 refine sq (gq fol [1] kBX [.cells (nz1 a),.cells (nz1 a)] (ac (hs (.run [1] (qo ZT 106 (.ptr 1 0) (.agg (nz1 a))) [.cells (nz1 a),bZ] .undef [.cells (nz1 a),.cells (nz1 a)] true) (qH (n:=2) (by kernel_rfl) rfl rfl rfl rfl (cac rfl (cac nvc can)) rfl)) az) ?_)
 refine Goes.ret ?_
 obtain rfl:=si h
 exact(gw2 [.agg (nz1 a)] (FzW.agg (qd.cons (Ua tI) (qd.cons (Ua (qp (qa .u64) _ (nl rfl))) qd.nil))))
def yn (N:Nat):Nat->Int->(List Int)->Int->(List Int)->Option (Int×(List Int))
 |0,_,_,_,_=>none
 |K+1,e,f,b,c=>
  (ko (⟨b,c⟩:qg)).bind fun d=>
  if(!decide (d=0))=true then
  (zU N (⟨e,f⟩:qg) (⟨b,c⟩:qg)).bind fun a=>
  yn N K b c a.2.s a.2.w
  else
  some (e,f)
def qcL (N:Nat) (a:qg) (b:qg):Option qg:=
 (qa3 a).bind fun c=>
 (qa3 b).bind fun d=>
 (yn N N c.s c.w d.s d.w).bind fun(e,f)=>
 some (⟨e,f⟩:qg)
theorem qhT (N:Nat) (a:qg) (b:qg) {res:qg} (h:qcL N a b=some res):qb ZT (.fn 131) [.agg (nz1 a),.agg (nz1 b)] [] (.agg (nz1 res)) []:=by
 unfold qcL at h
 refine Ub Tryz.func131 rfl rfl (m:=23) rfl (rs:=[.cell 4 106]) rfl (l:=[(0,.agg (nz1 a)),(1,.agg (nz1 b))]) rfl ?_
 refine sg fol (kH []) [.cells (nz1 a),.cells (nz1 b),bZ] ?_
 obtain⟨p,q,h⟩:=bnd h
 obtain⟨t,r,h⟩:=bnd h
 refine sq (gq fol [1,3,4,5] (kH []) [.cells (nz1 p),.cells (nz1 t),bZ] (ac (cv (qel a q)) (ac (cv (qel b r)) (ac (hs (.run [0] (qo ZT 106 (.ptr 0 0) (.agg (nz1 p))) [.cells (nz1 a),.cells (nz1 b),bZ] .undef [.cells (nz1 p),.cells (nz1 b),bZ] true) (qH (n:=2) (by kernel_rfl) rfl rfl rfl rfl (cac rfl (cac nvc can)) rfl)) (ac (hs (.run [1] (qo ZT 106 (.ptr 1 0) (.agg (nz1 t))) [.cells (nz1 p),.cells (nz1 b),bZ] .undef [.cells (nz1 p),.cells (nz1 t),bZ] true) (qH (n:=2) (by kernel_rfl) rfl rfl rfl rfl (cac rfl (cac nvc can)) rfl)) az)))) ?_)
 refine sq (Goes.block ?_)
 obtain⟨w,g9,h⟩:=bnd h
 refine Goes.imp (Q:=fun x s'=>(x= .exit 0/\ ∃f g,(f,g)=w/\Sub s' (ofG 23 (kAM (kBm [])),[.cells (ni1 f g),bZ]))) ?_ ?_
 ·refine Uc (fun M s=> ∃(i:Int) (j:List Int) (d:Int) (e:List Int),s=(ofG 23 (kH []),[.cells (ni1 i j),.cells (ni1 d e),bZ])/\yn N M i j d e=some w) ?_ (m:=N) ⟨_,_,_,_,rfl,g9⟩
  rintro M s ⟨i,j,d,e,rfl,g9⟩
  cases M with
  |zero=>simp only[yn]at g9;cases g9
  |succ M=>
   rw[yn]at g9
   refine sq ?_
   obtain⟨u,k,g9⟩:=bnd g9
   refine sq (gr fol [1] (kH (kBT (!decide (u=0)))) (ac (cv (yH (⟨d,e⟩:qg) k)) az) ?_)
   refine ihB g9 (fun v g9=>?_) (fun v g9=>?_)
   ·refine Goes.skip ?_
    refine Goes.block ?_
    obtain⟨c,o,g9⟩:=bnd g9
    refine sq (gq fol [2,8,9] (kH [(6,.ptr 4 0)]) [.cells (ni1 i j),.cells (ni1 d e),bZ,.cells (nz1 c.1),.cells (nz1 c.2)] (ac (cv (qbf N (⟨i,j⟩:qg) (⟨d,e⟩:qg) o)) (ac (hs (.run [3] (qo ZT 106 (.ptr 3 0) (.agg (nz1 c.1))) [.cells (ni1 i j),.cells (ni1 d e),bZ,bZ,bZ] .undef [.cells (ni1 i j),.cells (ni1 d e),bZ,.cells (nz1 c.1),bZ] true) (qH (n:=2) (by kernel_rfl) rfl rfl rfl rfl (cac rfl (cac nvc can)) rfl)) (ac (hs (.run [4] (qo ZT 106 (.ptr 4 0) (.agg (nz1 c.2))) [.cells (ni1 i j),.cells (ni1 d e),bZ,.cells (nz1 c.1),bZ] .undef [.cells (ni1 i j),.cells (ni1 d e),bZ,.cells (nz1 c.1),.cells (nz1 c.2)] true) (qH (n:=2) (by kernel_rfl) rfl rfl rfl rfl (cac rfl (cac nvc can)) rfl)) az))) ?_)
    refine gq fol [2,3] (kH []) [.cells (ni1 d e),.cells (nz1 c.2),bZ,.cells (nz1 c.1),.cells (nz1 c.2)] (ac (hs (.run [0] (qo ZT 106 (.ptr 0 0) (.agg (ni1 d e))) [.cells (ni1 i j),.cells (ni1 d e),bZ,.cells (nz1 c.1),.cells (nz1 c.2)] .undef [.cells (ni1 d e),.cells (ni1 d e),bZ,.cells (nz1 c.1),.cells (nz1 c.2)] true) (qH (n:=2) (by kernel_rfl) rfl rfl rfl rfl (cac rfl (cac nvc can)) rfl)) (ac (hs (.run [1] (qo ZT 106 (.ptr 1 0) (.agg (nz1 c.2))) [.cells (ni1 d e),.cells (ni1 d e),bZ,.cells (nz1 c.1),.cells (nz1 c.2)] .undef [.cells (ni1 d e),.cells (nz1 c.2),bZ,.cells (nz1 c.1),.cells (nz1 c.2)] true) (qH (n:=2) (by kernel_rfl) rfl rfl rfl rfl (cac rfl (cac nvc can)) rfl)) az)) ?_
    exact⟨M,(ofG 23 (kH []),[.cells (ni1 d e),.cells (nz1 c.2),bZ]),Nat.lt_succ_self _,(Sub.norm [] [some 0,some 1,some 2] rfl rfl (.kp (.kp (.kp .nil))) (.kb rfl (.same sn) (.kb rfl (.same sn) (.kb rfl (.same sn) .nil)))),_,_,_,_,rfl,g9⟩
   refine Goes.exit ?_
   obtain rfl:=si g9
   exact⟨rfl,_,_,rfl,(Sub.norm [] [some 0,some 2] rfl rfl (.kp (.drop (.kp .nil))) (.kb rfl (.same sn) (.kb rfl (.same sn) .nil)))⟩
 rintro x s' ⟨rfl,f,g,rfl,hsub⟩
 try dsimp only at h
 refine Goes.sub hsub ?_
 refine sq (gq fol [1] (kBm []) [.cells (ni1 f g),.cells (ni1 f g)] (ac (hs (.run [1] (qo ZT 106 (.ptr 1 0) (.agg (ni1 f g))) [.cells (ni1 f g),bZ] .undef [.cells (ni1 f g),.cells (ni1 f g)] true) (qH (n:=2) (by kernel_rfl) rfl rfl rfl rfl (cac rfl (cac nvc can)) rfl)) az) ?_)
 refine Goes.ret ?_
 obtain rfl:=si h
 exact(gw2 [.agg (ni1 f g)] (FzW.agg (qd.cons (Ua tI) (qd.cons (Ua (qp (qa .u64) _ (nl rfl))) qd.nil))))
def jE (b:List Int) (l:Int) (g:Int):Nat->(List Int)->Int->Int->Option ((List Int)×Int)
 |0,_,_,_=>none
 |K+1,h,a,c=>
  if a<(b.length:Int)then
  (idx b a).bind fun i=>
  (bits_Mul64 l i).bind fun d=>
  (idx h (w64 (g+a))).bind fun j=>
  (qad d.2 j 0).bind fun e=>
  (qad e.1 c 0).bind fun f=>
  (put h (w64 (g+a)) f.1).bind fun k=>
  jE b l g K k (w64 (a+1)) (IntKind.wrap .u64 ((IntKind.wrap .u64 (d.1+e.2))+f.2))
  else
  some (h,c)
def jD (N:Nat) (a:List Int) (b:List Int):Nat->(List Int)->Int->Option (List Int)
 |0,_,_=>none
 |K+1,g,c=>
  if c<(a.length:Int)then
  (idx a c).bind fun h=>
  (jE b h c N g 0 0).bind fun(d,e)=>
  (idx d (w64 (c+(b.length:Int)))).bind fun i=>
  (put d (w64 (c+(b.length:Int))) e).bind fun f=>
  jD N a b K f (w64 (c+1))
  else
  some g
def qaA (N:Nat) (a:List Int) (b:List Int):Option (List Int):=
 (mk 8 (w64 ((a.length:Int)+(b.length:Int))) 0).bind fun d=>
 (jD N a b N d 0).bind fun e=>
 (xu N e).bind fun c=>
 some c
theorem qgQ (N:Nat) (a:List Int) (b:List Int) {res:List Int} (h:qaA N a b=some res):qb ZT (.fn 206) [vl (qa .u64) a,vl (qa .u64) b] [] (vl (qa .u64) res) []:=by
 unfold qaA at h
 refine Ub Tryz.func206 rfl rfl (m:=80) rfl (rs:=[.tmp 4]) rfl (l:=[(0,vl (qa .u64) a),(1,vl (qa .u64) b)]) rfl ?_
 refine sh fol [(0,vl (qa .u64) a),(1,vl (qa .u64) b)] ?_
 obtain⟨L,O,h⟩:=bnd h
 refine sq (gq fol [5] ((0,vl (qa .u64) a)::(1,vl (qa .u64) b)::(kG L [])) [.cells (L.flatMap (qa .u64).c)] (ac (hs (.run [] (jl ZT 104 (.i (w64 ((a.length:Int)+(b.length:Int)))) (.i (w64 ((a.length:Int)+(b.length:Int))))) [] (.slice 0 0 L.length L.length 1) [.cells (L.flatMap (qa .u64).c)] false) (qdL qL (E:=(qa .u64)) (z:=0) rfl (by kernel_rfl) O rfl)) az) ?_)
 refine sq ?_
 refine sh fol ((1,vl (qa .u64) b)::(kG L [(20,vl (qa .u64) a),(21,.i (a.length:Int)),(22,.i 0)])) ?_
 refine Goes.block ?_
 obtain⟨Y,g5,h⟩:=bnd h
 refine Goes.imp (Q:=fun x s'=>(x= .exit 0/\ ∃u,u=Y/\Sub s' (ofG 80 (kG u []),[.cells (u.flatMap (qa .u64).c)]))) ?_ ?_
 ·refine Uc (fun M s=> ∃(F:List Int) (d:Int),s=(ofG 80 ((1,vl (qa .u64) b)::(kG F ((20,vl (qa .u64) a)::(kAL (a.length:Int) d [])))),[.cells (F.flatMap (qa .u64).c)])/\jD N a b M F d=some Y) ?_ (m:=N) ⟨_,_,rfl,g5⟩
  rintro M s ⟨F,d,rfl,g5⟩
  cases M with
  |zero=>simp only[jD]at g5;cases g5
  |succ M=>
   rw[jD]at g5
   refine sh fol ((1,vl (qa .u64) b)::(kG F ((20,vl (qa .u64) a)::(kAL (a.length:Int) d [(23,.bool (decide (d<(a.length:Int))))])))) ?_
   refine sq ?_
   refine ihD g5 (fun Z g5=>?_) (fun Z g5=>?_)
   ·refine Goes.skip ?_
    refine sq (Goes.block ?_)
    obtain⟨q,G,g5⟩:=bnd g5
    refine sq (gr fol [1,2] ((1,vl (qa .u64) b)::(kG F ((6,.i d)::(kAv q ((20,vl (qa .u64) a)::(kAL (a.length:Int) d [])))))) (ac (iv qL (qa .u64) G) (ac (lv 0 zX (qa .u64) G rfl) az)) ?_)
    refine sh fol ((1,vl (qa .u64) b)::(kG F ((6,.i d)::(kAv q (kB8 ((20,vl (qa .u64) a)::(kAL (a.length:Int) d []))))))) ?_
    refine sq ?_
    refine sh fol ((1,vl (qa .u64) b)::(kG F ((6,.i d)::(kAv q (kB8 ((20,vl (qa .u64) a)::(kAL (a.length:Int) d [(27,vl (qa .u64) b),(28,.i (b.length:Int)),(29,.i 0)]))))))) ?_
    refine Goes.block ?_
    obtain⟨P,g13,g5⟩:=bnd g5
    refine Goes.imp (Q:=fun x s'=>(x= .exit 2/\ ∃k v,(k,v)=P/\Sub s' (ofG 80 ((1,vl (qa .u64) b)::(kG k ((6,.i d)::(8,.int .u64 v)::(20,vl (qa .u64) a)::(kAL (a.length:Int) d [])))),[.cells (k.flatMap (qa .u64).c)]))) ?_ ?_
    ·refine Uc (fun M s=> ∃(j:List Int) (e:Int) (n:Int),s=(ofG 80 ((1,vl (qa .u64) b)::(kG j ((6,.i d)::(kAO q n ((20,vl (qa .u64) a)::(kAL (a.length:Int) d ((27,vl (qa .u64) b)::(kBH (b.length:Int) e)))))))),[.cells (j.flatMap (qa .u64).c)])/\jE b q d M j e n=some P) ?_ (m:=N) ⟨_,_,_,rfl,g13⟩
     rintro M s ⟨j,e,n,rfl,g13⟩
     cases M with
     |zero=>simp only[jE]at g13;cases g13
     |succ M=>
      rw[jE]at g13
      refine sh fol ((1,vl (qa .u64) b)::(kG j ((6,.i d)::(kAO q n ((20,vl (qa .u64) a)::(kAL (a.length:Int) d [(27,vl (qa .u64) b),(28,.i (b.length:Int)),(29,.i e),(30,.bool (decide (e<(b.length:Int))))])))))) ?_
      refine sq ?_
      refine ihD g13 (fun X g13=>?_) (fun X g13=>?_)
      ·refine Goes.skip ?_
       refine sq (Goes.block ?_)
       obtain⟨U,w,g13⟩:=bnd g13
       refine sq (gr fol [1,2] ((1,vl (qa .u64) b)::(kG j ((6,.i d)::(kAO q n ((9,.i e)::(10,.int .u64 U)::(20,vl (qa .u64) a)::(kAL (a.length:Int) d ((27,vl (qa .u64) b)::(kBH (b.length:Int) e)))))))) (ac (iv qL (qa .u64) w) (ac (lv 0 zX (qa .u64) w rfl) az)) ?_)
       obtain⟨f,H,g13⟩:=bnd g13
       refine sq (gr fol [2] ((1,vl (qa .u64) b)::(kG j ((6,.i d)::(kAO q n ((9,.i e)::(kAN f.1 f.2 ((20,vl (qa .u64) a)::(kAL (a.length:Int) d ((27,vl (qa .u64) b)::(kBH (b.length:Int) e)))))))))) (ac (cv (qbI q U H)) az) ?_)
       refine sh fol ((1,vl (qa .u64) b)::(kG j ((6,.i d)::(kAO q n ((9,.i e)::(kAN f.1 f.2 ((20,vl (qa .u64) a)::(kAL (a.length:Int) d ((27,vl (qa .u64) b)::(kBH (b.length:Int) e)))))))))) ?_
       obtain⟨V,o,g13⟩:=bnd g13
       obtain⟨g,I,g13⟩:=bnd g13
       refine sq (gr fol [5,6,7] ((1,vl (qa .u64) b)::(kG j ((6,.i d)::(kAO q n ((9,.i e)::(kAN f.1 g.1 ((13,.int .u64 g.2)::(20,vl (qa .u64) a)::(kAL (a.length:Int) d ((27,vl (qa .u64) b)::(kBH (b.length:Int) e)))))))))) (ac (hs (.done (.opt (qj ZT 104 (.slice 0 0 j.length j.length 1) (.i (w64 (d+e))))) (.ptr 0 ((w64 (d+e):Int).toNat*1+0))) (qaI qL o)) (ac (hs (.run [0] (jh ZT 212 (.ptr 0 ((w64 (d+e):Int).toNat*1+0))) [.cells (j.flatMap (qa .u64).c)] (.int .u64 V) [.cells (j.flatMap (qa .u64).c)] false) (qcI zX (E:=(qa .u64)) (l:=j) rfl rfl o (nl rfl) rfl)) (ac (cv (qcH f.2 V 0 I)) az))) ?_)
       refine sh fol ((1,vl (qa .u64) b)::(kG j ((6,.i d)::(kAO q n ((9,.i e)::(kAN (IntKind.wrap .u64 (f.1+g.2)) g.1 ((20,vl (qa .u64) a)::(kAL (a.length:Int) d ((27,vl (qa .u64) b)::(kBH (b.length:Int) e)))))))))) ?_
       obtain⟨p,J,g13⟩:=bnd g13
       refine sq (gr fol [2] ((1,vl (qa .u64) b)::(kG j ((6,.i d)::(kAv q ((9,.i e)::(kAN (IntKind.wrap .u64 (f.1+g.2)) p.1 ((13,.int .u64 p.2)::(20,vl (qa .u64) a)::(kAL (a.length:Int) d ((27,vl (qa .u64) b)::(kBH (b.length:Int) e)))))))))) (ac (cv (qcH g.1 n 0 J)) az) ?_)
       obtain⟨r,A,g13⟩:=bnd g13
       refine gq fol [8,9] ((1,vl (qa .u64) b)::(kG j ((6,.i d)::(kAO q (IntKind.wrap .u64 ((IntKind.wrap .u64 (f.1+g.2))+p.2)) ((20,vl (qa .u64) a)::(kAL (a.length:Int) d ((27,vl (qa .u64) b)::(kBH (b.length:Int) e)))))))) [.cells (r.flatMap (qa .u64).c)] (ac (hs (.done (.opt (qj ZT 104 (.slice 0 0 j.length j.length 1) (.i (w64 (d+e))))) (.ptr 0 ((w64 (d+e):Int).toNat*1+0))) (qaI qL o)) (ac (hs (.run [0] (qo ZT 212 (.ptr 0 ((w64 (d+e):Int).toNat*1+0)) (.int .u64 p.1)) [.cells (j.flatMap (qa .u64).c)] .undef [.cells (r.flatMap (qa .u64).c)] true) (qax (E:=(qa .u64)) (l:=j) (y:=p.1) rfl (show _=some 1 by kernel_rfl) rfl o rfl rfl rfl rfl rfl A rfl)) az)) ?_
       refine Goes.sub (show Sub (ofG 80 ((1,vl (qa .u64) b)::(kG j ((6,.i d)::(kAO q (IntKind.wrap .u64 ((IntKind.wrap .u64 (f.1+g.2))+p.2)) ((20,vl (qa .u64) a)::(kAL (a.length:Int) d ((27,vl (qa .u64) b)::(kBH (b.length:Int) e)))))))),[.cells (r.flatMap (qa .u64).c)]) (ofG 80 ((1,vl (qa .u64) b)::(kG r ((6,.i d)::(kAO q (IntKind.wrap .u64 ((IntKind.wrap .u64 (f.1+g.2))+p.2)) ((20,vl (qa .u64) a)::(kAL (a.length:Int) d ((27,vl (qa .u64) b)::(kBH (b.length:Int) e)))))))),[.cells (r.flatMap (qa .u64).c)])from(Sub.norm [] [some 0] rfl rfl (.keep (.same (qf (qa .u64) _)) (.keep (.sliceE rfl (vS A)) (.keep (.same nI) (.keep (.same nI) (.keep (.same nI) (.keep (.same (qf (qa .u64) _)) (.keep (.same nI) (.keep (.same nI) (.keep (.same (qf (qa .u64) _)) (.keep (.same nI) (.keep (.same nI) .nil))))))))))) (.ks .nil))) ?_
       refine gh fol ((1,vl (qa .u64) b)::(kG r ((6,.i d)::(kAO q (IntKind.wrap .u64 ((IntKind.wrap .u64 (f.1+g.2))+p.2)) ((20,vl (qa .u64) a)::(kAL (a.length:Int) d ((27,vl (qa .u64) b)::(kBH (b.length:Int) (w64 (e+1)))))))))) ?_
       exact⟨M,(ofG 80 ((1,vl (qa .u64) b)::(kG r ((6,.i d)::(kAO q (IntKind.wrap .u64 ((IntKind.wrap .u64 (f.1+g.2))+p.2)) ((20,vl (qa .u64) a)::(kAL (a.length:Int) d ((27,vl (qa .u64) b)::(kBH (b.length:Int) (w64 (e+1)))))))))),[.cells (r.flatMap (qa .u64).c)]),Nat.lt_succ_self _,(Sub.refl _),_,_,_,rfl,g13⟩
      refine Goes.exit ?_
      obtain rfl:=si g13
      exact⟨rfl,_,_,rfl,(Sub.keep [1,5,6,8,20,21,22] rfl rfl)⟩
    rintro x s' ⟨rfl,k,v,rfl,hsub⟩
    try dsimp only at g5
    refine Goes.sub hsub ?_
    obtain⟨a0,B,g5⟩:=bnd g5
    obtain⟨t,C,g5⟩:=bnd g5
    refine gq fol [6,7] ((1,vl (qa .u64) b)::(kG k ((20,vl (qa .u64) a)::(kAL (a.length:Int) d [])))) [.cells (t.flatMap (qa .u64).c)] (ac (hs (.done (.opt (qj ZT 104 (.slice 0 0 k.length k.length 1) (.i (w64 (d+(b.length:Int)))))) (.ptr 0 ((w64 (d+(b.length:Int)):Int).toNat*1+0))) (qaI qL B)) (ac (hs (.run [0] (qo ZT 212 (.ptr 0 ((w64 (d+(b.length:Int)):Int).toNat*1+0)) (.int .u64 v)) [.cells (k.flatMap (qa .u64).c)] .undef [.cells (t.flatMap (qa .u64).c)] true) (qax (E:=(qa .u64)) (l:=k) (y:=v) rfl (show _=some 1 by kernel_rfl) rfl B rfl rfl rfl rfl rfl C rfl)) az)) ?_
    refine Goes.sub (show Sub (ofG 80 ((1,vl (qa .u64) b)::(kG k ((20,vl (qa .u64) a)::(kAL (a.length:Int) d [])))),[.cells (t.flatMap (qa .u64).c)]) (ofG 80 ((1,vl (qa .u64) b)::(kG t ((20,vl (qa .u64) a)::(kAL (a.length:Int) d [])))),[.cells (t.flatMap (qa .u64).c)])from(Sub.norm [] [some 0] rfl rfl (.keep (.same (qf (qa .u64) _)) (.keep (.sliceE rfl (vS C)) (.keep (.same (qf (qa .u64) _)) (.keep (.same nI) (.keep (.same nI) .nil))))) (.ks .nil))) ?_
    refine gh fol ((1,vl (qa .u64) b)::(kG t ((20,vl (qa .u64) a)::(kAL (a.length:Int) (w64 (d+1)) [])))) ?_
    exact⟨M,(ofG 80 ((1,vl (qa .u64) b)::(kG t ((20,vl (qa .u64) a)::(kAL (a.length:Int) (w64 (d+1)) [])))),[.cells (t.flatMap (qa .u64).c)]),Nat.lt_succ_self _,(Sub.refl _),_,_,rfl,g5⟩
   refine Goes.exit ?_
   obtain rfl:=si g5
   exact⟨rfl,_,rfl,(Sub.keep [5] rfl rfl)⟩
 rintro x s' ⟨rfl,u,rfl,hsub⟩
 refine Goes.sub hsub ?_
 obtain⟨D,K,h⟩:=bnd h
 refine sq (gq fol [1] [(4,vl (qa .u64) D)] [.frozen (u.flatMap (qa .u64).c)] (ac (hs (.callF 215 [.slice 0 0 u.length u.length 1] [.cells (u.flatMap (qa .u64).c)] [0] [vl (qa .u64) u] (vl (qa .u64) D)) (qaK (FzL.cons (Fz.sl (E:=(qa .u64)) rfl rfl (nl rfl)) FzL.nil) (xx N u K) (qz (qa .u64) _ (nl rfl)))) az) ?_)
 refine Goes.sub (show Sub (ofG 80 [(4,vl (qa .u64) D)],[.frozen (u.flatMap (qa .u64).c)]) (ofG 80 [(4,vl (qa .u64) D)],[])from(Sub.norm [] [] rfl rfl (.keep (.same (qf (qa .u64) _)) .nil) .nil)) ?_
 refine Goes.ret ?_
 obtain rfl:=si h
 exact(gw2 [vl (qa .u64) D] (Ua (qz (qa .u64) _ (nl rfl))))
def qE (N:Nat) (a:qg) (b:qg):Option qg:=
 (if a.w.isEmpty=true then
 some b.w.isEmpty
 else
 some false:Option Bool).bind fun j=>
 ((if j=true then
 (qcm a.s).bind fun k=>
 (qcm b.s).bind fun l=>
 (bits_Mul64 k l).bind fun e=>
 (if e.1=0 then
 some (decide (e.2<=9223372036854775807))
 else
 some false:Option Bool).bind fun f=>
 if f=true then
 if(!((decide (a.s<0))==(decide (b.s<0))))=true then
 some (.inr (⟨w64 (0-(w64 e.2)),[]⟩:qg))
 else
 some (.inr (⟨w64 e.2,[]⟩:qg))
 else
 some (.inl ())
 else
 some (.inl ()):Option (Unit⊕qg))).bind (fun
 |(.inl ())=>
 (qG a).bind fun c=>
 (qG b).bind fun d=>
 (qaA N c.2 d.2).bind fun g=>
 (jW (!(c.1==d.1)) g).bind fun h=>
 some h
 |(.inr i)=>
 some i)
theorem zT (N:Nat) (a:qg) (b:qg) {res:qg} (h:qE N a b=some res):qb ZT (.fn 150) [.agg (nz1 a),.agg (nz1 b)] [] (.agg (nz1 res)) []:=by
 unfold qE at h
 refine Ub Tryz.func150 rfl rfl (m:=66) rfl (rs:=[.cell 4 106]) rfl (l:=[(0,.agg (nz1 a)),(1,.agg (nz1 b))]) rfl ?_
 refine sg fol (kH []) [.cells (nz1 a),.cells (nz1 b),bZ] ?_
 refine sq ?_
 refine sq ?_
 obtain⟨G,d,h⟩:=bnd h
 refine Goes.cut (s':=(ofG 66 (kH [(18,.bool G)]),[.cells (nz1 a),.cells (nz1 b),bZ])) ?_ ?_
 ·rcases wyB d with⟨y,d⟩|⟨y,d⟩
  ·obtain rfl:=si d
   exact tr fol [2,3,6] (kH [(18,.bool b.w.isEmpty)]) (ac (hs (.done (.opt (kw ZT .eql 104 (.tmp 12) (.const (.slice none 0 0)) (nvl (qa .u64) a.w) .nilslice)) (.bool a.w.isEmpty)) (qaP yC)) (ac (gw y) (ac (hs (.done (.opt (kw ZT .eql 104 (.tmp 16) (.const (.slice none 0 0)) (nvl (qa .u64) b.w) .nilslice)) (.bool b.w.isEmpty)) (qaP yC)) az)))
  obtain rfl:=si d
  exact tr fol [2,3] (kH [(18,.bool false)]) (ac (hs (.done (.opt (kw ZT .eql 104 (.tmp 12) (.const (.slice none 0 0)) (nvl (qa .u64) a.w) .nilslice)) (.bool a.w.isEmpty)) (qaP yC)) (ac (gw y) az))
 obtain⟨D,g4,h⟩:=bnd h
 refine Goes.imp (Q:=fun x s'=>(x= .normal/\(.inl ())=D/\Sub s' (ofG 66 (kH []),[.cells (nz1 a),.cells (nz1 b),bZ]))\/(x= .ret/\ ∃F,(.inr F)=D/\zV ZT [.cell 4 106] (.agg (nz1 F)) .ret s')) ?_ ?_
 ·refine ihB g4 (fun H g4=>?_) (fun H g4=>?_)
  ·obtain⟨I,t,g4⟩:=bnd g4
   obtain⟨J,u,g4⟩:=bnd g4
   obtain⟨f,v,g4⟩:=bnd g4
   refine sq (gr fol [2,5,6] (kH ((5,.int .u64 f.1)::(kAe f.2 []))) (ac (cv (qea a.s t)) (ac (cv (qea b.s u)) (ac (cv (qbI I J v)) az))) ?_)
   refine sq ?_
   obtain⟨z,c,g4⟩:=bnd g4
   refine Goes.cut (s':=(ofG 66 (kH (kAe f.2 [(34,.bool z)])),[.cells (nz1 a),.cells (nz1 b),bZ])) ?_ ?_
   ·rcases wyD c with⟨k,c⟩|⟨k,c⟩
    ·obtain rfl:=si c
     exact tr fol [2] (kH (kAe f.2 [(34,.bool (decide (f.2<=9223372036854775807)))])) (ac (gw k) az)
    obtain rfl:=si c
    exact tr fol [2] (kH (kAe f.2 [(34,.bool false)])) (ac (gw k) az)
   refine ihB g4 (fun A g4=>?_) (fun A g4=>?_)
   ·refine sq ?_
    refine sh fol (kAU (kAe f.2 [(41,.bool (!((decide (a.s<0))==(decide (b.s<0)))))])) ?_
    refine ihB g4 (fun B g4=>?_) (fun B g4=>?_)
    ·refine sg fol (kAU []) (.cells (nz1 a):: .cells (nz1 b)::(kBP (w64 (0-(w64 f.2))))) ?_
     refine Goes.ret ?_
     obtain rfl:=si g4
     exact Or.inr (⟨rfl,_,rfl,(gw2 [.agg [.i (w64 (0-(w64 f.2))),.nilslice]] (FzW.agg (qd.cons (Ua tI) (qd.cons (FzW.nv0 (E:=(qa .u64))) qd.nil))))⟩)
    refine Goes.skip ?_
    refine sg fol (kAU []) (.cells (nz1 a):: .cells (nz1 b)::(kBP (w64 f.2))) ?_
    refine Goes.ret ?_
    obtain rfl:=si g4
    exact Or.inr (⟨rfl,_,rfl,(gw2 [.agg [.i (w64 f.2),.nilslice]] (FzW.agg (qd.cons (Ua tI) (qd.cons (FzW.nv0 (E:=(qa .u64))) qd.nil))))⟩)
   refine Goes.skip ?_
   obtain rfl:=si g4
   exact Or.inl (⟨rfl,rfl,(Sub.keep [2,3,4] rfl rfl)⟩)
  refine Goes.skip ?_
  obtain rfl:=si g4
  exact Or.inl (⟨rfl,rfl,(Sub.keep [2,3,4] rfl rfl)⟩)
 rintro x s' (⟨rfl,rfl,hsub⟩|⟨rfl,K,rfl,hret⟩)
 ·try dsimp only at h
  refine Goes.sub hsub ?_
  obtain⟨e,o,h⟩:=bnd h
  refine sq (gr fol [1] ((3,.ptr 1 0)::(kAU [(7,.bool e.1),(8,vl (qa .u64) e.2)])) (ac (cv (zM a o)) az) ?_)
  obtain⟨g,p,h⟩:=bnd h
  refine sq (gr fol [1] (kAU [(7,.bool e.1),(8,vl (qa .u64) e.2),(9,.bool g.1),(10,vl (qa .u64) g.2)]) (ac (cv (zM b p)) az) ?_)
  obtain⟨C,q,h⟩:=bnd h
  obtain⟨j,r,h⟩:=bnd h
  refine sq (gq fol [5,6,7] (kAU []) [.cells (nz1 a),.cells (nz1 b),.cells (nz1 j)] (ac (cv (qgQ N e.2 g.2 q)) (ac (cv (qaw (!(e.1==g.1)) C r)) (ac (hs (.run [2] (qo ZT 106 (.ptr 2 0) (.agg (nz1 j))) [.cells (nz1 a),.cells (nz1 b),bZ] .undef [.cells (nz1 a),.cells (nz1 b),.cells (nz1 j)] true) (qH (n:=2) (by kernel_rfl) rfl rfl rfl rfl (cac rfl (cac nvc can)) rfl)) az))) ?_)
  refine Goes.ret ?_
  obtain rfl:=si h
  exact(gw2 [.agg (nz1 j)] (FzW.agg (qd.cons (Ua tI) (qd.cons (Ua (qp (qa .u64) _ (nl rfl))) qd.nil))))
 try dsimp only at h
 obtain rfl:=si h
 exact hret
def vw (N:Nat):Nat->Int->(List Int)->Int->(List Int)->Int->Option (Int×(List Int))
 |0,_,_,_,_,_=>none
 |K+1,e,f,h,i,g=>
  if g>0 then
  ((((if(qB .i64 g 1)=1 then
  (qE N (⟨h,i⟩:qg) (⟨e,f⟩:qg)).bind fun a=>
  some (a.s,a.w)
  else
  some (h,i):Option (Int×(List Int)))).bind fun(b,c)=>
  if g>1 then
  (qE N (⟨e,f⟩:qg) (⟨e,f⟩:qg)).bind fun d=>
  some (d.s,d.w,b,c)
  else
  some (e,f,b,c):Option (Int×(List Int)×Int×(List Int)))).bind fun(j,k,l,m)=>
  vw N K j k l m (qy .i64 g 1)
  else
  some (h,i)
def qbQ (N:Nat) (a:qg) (k:Int):Option qg:=
 (qcy 1).bind fun b=>
 (vw N N a.s a.w b.s b.w k).bind fun(c,d)=>
 some (⟨c,d⟩:qg)
theorem qh2 (N:Nat) (a:qg) (k:Int) {res:qg} (h:qbQ N a k=some res):qb ZT (.fn 158) [.agg (nz1 a),.i k] [] (.agg (nz1 res)) []:=by
 unfold qbQ at h
 refine Ub Tryz.func158 rfl rfl (m:=23) rfl (rs:=[.cell 4 106]) rfl (l:=[(0,.agg (nz1 a)),(1,.i k)]) rfl ?_
 refine sg fol ((1,.i k)::(kAM (kBm []))) [.cells (nz1 a),bZ] ?_
 obtain⟨B,y,h⟩:=bnd h
 refine sq (gq fol [0,2] ((1,.i k)::(kAM (kAt []))) [.cells (nz1 a),bZ,.cells (nz1 B)] (ac (cv (qby 1 y)) (ac (hs (.run [2] (qo ZT 106 (.ptr 2 0) (.agg (nz1 B))) [.cells (nz1 a),bZ,bZ] .undef [.cells (nz1 a),bZ,.cells (nz1 B)] true) (qH (n:=2) (by kernel_rfl) rfl rfl rfl rfl (cac rfl (cac nvc can)) rfl)) az)) ?_)
 refine sq (Goes.block ?_)
 obtain⟨H,g9,h⟩:=bnd h
 refine Goes.imp (Q:=fun x s'=>(x= .exit 0/\ ∃g j,(g,j)=H/\Sub s' (ofG 23 (kY (kBx [])),[bZ,.cells (ni1 g j)]))) ?_ ?_
 ·refine Uc (fun M s=> ∃(e:Int) (f:List Int) (z:Int) (A:List Int) (b:Int),s=(ofG 23 ((1,.i b)::(kAM (kAt []))),[.cells (ni1 e f),bZ,.cells (ni1 z A)])/\vw N M e f z A b=some H) ?_ (m:=N) ⟨_,_,_,_,_,rfl,g9⟩
  rintro M s ⟨e,f,z,A,b,rfl,g9⟩
  cases M with
  |zero=>simp only[vw]at g9;cases g9
  |succ M=>
   rw[vw]at g9
   refine sq ?_
   refine sh fol ((1,.i b)::(kAM (kAt (kAz (decide (b>0)))))) ?_
   refine ihD g9 (fun C g9=>?_) (fun C g9=>?_)
   ·refine Goes.skip ?_
    refine sq ?_
    obtain⟨D,g15,g9⟩:=bnd g9
    refine Goes.imp (Q:=fun x s'=>(x= .normal/\ ∃o p q r,(o,p,q,r)=D/\Sub s' (ofG 23 ((1,.i b)::(kAM (kAt []))),[.cells (ni1 o p),bZ,.cells (ni1 q r)]))) ?_ ?_
    ·refine Goes.block ?_
     refine sq ?_
     refine sh fol ((1,.i b)::(kAM (kAt (kBT (decide ((qB .i64 b 1)=1)))))) ?_
     obtain⟨E,g18,g15⟩:=bnd g15
     refine Goes.imp (Q:=fun x s'=>(x= .normal/\ ∃c d,(c,d)=E/\Sub s' (ofG 23 ((1,.i b)::(kAM (kAt []))),[.cells (ni1 e f),bZ,.cells (ni1 c d)]))) ?_ ?_
     ·refine ihD g18 (fun F g18=>?_) (fun F g18=>?_)
      ·obtain⟨t,u,g18⟩:=bnd g18
       refine gq fol [2,3] ((1,.i b)::(kAM (kAt []))) [.cells (ni1 e f),bZ,.cells (nz1 t)] (ac (cv (zT N (⟨z,A⟩:qg) (⟨e,f⟩:qg) u)) (ac (hs (.run [2] (qo ZT 106 (.ptr 2 0) (.agg (nz1 t))) [.cells (ni1 e f),bZ,.cells (ni1 z A)] .undef [.cells (ni1 e f),bZ,.cells (nz1 t)] true) (qH (n:=2) (by kernel_rfl) rfl rfl rfl rfl (cac rfl (cac nvc can)) rfl)) az)) ?_
       obtain rfl:=si g18
       exact⟨rfl,_,_,rfl,(Sub.refl _)⟩
      refine Goes.skip ?_
      obtain rfl:=si g18
      exact⟨rfl,_,_,rfl,(Sub.keep [1,2,4,5] rfl rfl)⟩
     rintro x s' ⟨rfl,c,d,rfl,hsub⟩
     try dsimp only at g15
     refine Goes.sub hsub ?_
     refine sh fol ((1,.i b)::(kAM (kAt [(18,.bool (decide (b>1)))]))) ?_
     refine ihD g15 (fun G g15=>?_) (fun G g15=>?_)
     ·obtain⟨v,w,g15⟩:=bnd g15
      refine gq fol [2,3] ((1,.i b)::(kAM (kAt []))) [.cells (nz1 v),bZ,.cells (ni1 c d)] (ac (cv (zT N (⟨e,f⟩:qg) (⟨e,f⟩:qg) w)) (ac (hs (.run [0] (qo ZT 106 (.ptr 0 0) (.agg (nz1 v))) [.cells (ni1 e f),bZ,.cells (ni1 c d)] .undef [.cells (nz1 v),bZ,.cells (ni1 c d)] true) (qH (n:=2) (by kernel_rfl) rfl rfl rfl rfl (cac rfl (cac nvc can)) rfl)) az)) ?_
      obtain rfl:=si g15
      exact⟨rfl,_,_,_,_,rfl,(Sub.refl _)⟩
     refine Goes.skip ?_
     obtain rfl:=si g15
     exact⟨rfl,_,_,_,_,rfl,(Sub.keep [1,2,4,5] rfl rfl)⟩
    rintro x s' ⟨rfl,o,p,q,r,rfl,hsub⟩
    try dsimp only at g9
    refine Goes.sub hsub ?_
    refine gh fol ((1,.i (qy .i64 b 1))::(kAM (kAt []))) ?_
    exact⟨M,(ofG 23 ((1,.i (qy .i64 b 1))::(kAM (kAt []))),[.cells (ni1 o p),bZ,.cells (ni1 q r)]),Nat.lt_succ_self _,(Sub.refl _),_,_,_,_,_,rfl,g9⟩
   refine Goes.exit ?_
   obtain rfl:=si g9
   exact⟨rfl,_,_,rfl,(Sub.norm [] [some 1,some 2] rfl rfl (.drop (.drop (.kp (.kp .nil)))) (.kb rfl (.same sn) (.kb rfl (.same sn) .nil)))⟩
 rintro x s' ⟨rfl,g,j,rfl,hsub⟩
 try dsimp only at h
 refine Goes.sub hsub ?_
 refine sq (gq fol [1] (kY []) [.cells (ni1 g j),.cells (ni1 g j)] (ac (hs (.run [0] (qo ZT 106 (.ptr 0 0) (.agg (ni1 g j))) [bZ,.cells (ni1 g j)] .undef [.cells (ni1 g j),.cells (ni1 g j)] true) (qH (n:=2) (by kernel_rfl) rfl rfl rfl rfl (cac rfl (cac nvc can)) rfl)) az) ?_)
 refine Goes.ret ?_
 obtain rfl:=si h
 exact(gw2 [.agg (ni1 g j)] (FzW.agg (qd.cons (Ua tI) (qd.cons (Ua (qp (qa .u64) _ (nl rfl))) qd.nil))))
def strings_HasPrefix (b:Str) (a:Str):Option Bool:=
 (stringslite_HasPrefix b a).bind fun c=>
 some c
theorem qd7 (b:Str) (a:Str) {res:Bool} (h:strings_HasPrefix b a=some res):qb ZT (.fn 185) (kAR b a) [] (.bool res) []:=by
 unfold strings_HasPrefix at h
 refine Ub Tryz.func185 rfl rfl (m:=8) rfl (rs:=[.tmp 4]) rfl (l:=(kJ b a [])) rfl ?_
 refine sh fol (kJ b a []) ?_
 obtain⟨d,c,h⟩:=bnd h
 refine sq (gr fol [2] (kAl d) (ac (cv (yU b a c)) az) ?_)
 refine Goes.ret ?_
 obtain rfl:=si h
 exact(gw2 [.bool d] (Ua tB))
def stringslite_TrimPrefix (b:Str) (a:Str):Option Str:=
 (stringslite_HasPrefix b a).bind fun c=>
 if c=true then
 (cut b (a.length:Int) (b.length:Int)).bind fun d=>
 some d
 else
 some b
theorem qcJ (b:Str) (a:Str) {res:Str} (h:stringslite_TrimPrefix b a=some res):qb ZT (.fn 227) (kAR b a) [] (.str res) []:=by
 unfold stringslite_TrimPrefix at h
 refine Ub Tryz.func227 rfl rfl (m:=13) rfl (rs:=[.tmp 4]) rfl (l:=(kJ b a [])) rfl ?_
 refine sh fol (kJ b a []) ?_
 refine sq ?_
 obtain⟨f,c,h⟩:=bnd h
 refine sq (gr fol [2] (kJ b a [(7,.bool f)]) (ac (cv (yU b a c)) az) ?_)
 refine ihB h (fun g h=>?_) (fun g h=>?_)
 ·obtain⟨e,d,h⟩:=bnd h
  refine sq (gr fol [3] (kBb e) (ac (hs (.done (.opt (qX ZT 9 (.str b) (some (.i (a.length:Int))) none none)) (.str e)) (jc st9 (some (a.length:Int)) none d)) az) ?_)
  refine Goes.ret ?_
  obtain rfl:=si h
  exact(gw2 [.str e] (Ua tS))
 refine Goes.skip ?_
 refine sh fol (kBb b) ?_
 refine Goes.ret ?_
 obtain rfl:=si h
 exact(gw2 [.str b] (Ua tS))
def strings_TrimPrefix (b:Str) (a:Str):Option Str:=
 (stringslite_TrimPrefix b a).bind fun c=>
 some c
theorem qbq (b:Str) (a:Str) {res:Str} (h:strings_TrimPrefix b a=some res):qb ZT (.fn 186) (kAR b a) [] (.str res) []:=by
 unfold strings_TrimPrefix at h
 refine Ub Tryz.func186 rfl rfl (m:=8) rfl (rs:=[.tmp 4]) rfl (l:=(kJ b a [])) rfl ?_
 refine sh fol (kJ b a []) ?_
 obtain⟨d,c,h⟩:=bnd h
 refine sq (gr fol [2] (kBb d) (ac (cv (qcJ b a c)) az) ?_)
 refine Goes.ret ?_
 obtain rfl:=si h
 exact(gw2 [.str d] (Ua tS))
def xA (N:Nat):Nat->Int->(List Int)->Str->Option (Int×(List Int))
 |0,_,_,_=>none
 |K+1,j,k,a=>
  if(a.length:Int)>0 then
  (cut a 0 (if(a.length:Int)<18 then(a.length:Int)else 18)).bind fun c=>
  (qkP c).bind fun d=>
  (qcy 10).bind fun e=>
  (qbQ N e (if(a.length:Int)<18 then(a.length:Int)else 18)).bind fun f=>
  (qE N (⟨j,k⟩:qg) f).bind fun g=>
  (qcy d.1).bind fun h=>
  (vC N g h).bind fun b=>
  (cut a (if(a.length:Int)<18 then(a.length:Int)else 18) (a.length:Int)).bind fun i=>
  xA N K b.s b.w i
  else
  some (j,k)
def qa8 (N:Nat) (b:Str):Option qg:=
 (strings_HasPrefix b [45]).bind fun e=>
 (strings_TrimPrefix b [45]).bind fun f=>
 (xA N N 0 [] f).bind fun(c,d)=>
 if e=true then
 (zI (⟨c,d⟩:qg)).bind fun a=>
 some a
 else
 some (⟨c,d⟩:qg)
theorem qbP (N:Nat) (g:Str) {res:qg} (h:qa8 N g=some res):qb ZT (.fn 132) [.str g] [] (.agg (nz1 res)) []:=by
 unfold qa8 at h
 refine Ub Tryz.func132 rfl rfl (m:=41) rfl (rs:=[.cell 2 106]) rfl (l:=(kAQ g [])) rfl ?_
 refine sg fol (kAQ g (kAM [])) [bZ] ?_
 obtain⟨d,y,h⟩:=bnd h
 refine sq (gr fol [1] (kAB g d []) (ac (cv (qd7 g [45] y)) az) ?_)
 obtain⟨J,z,h⟩:=bnd h
 refine sq (gr fol [1] (kAB J d []) (ac (cv (qbq g [45] z)) az) ?_)
 refine sg fol (kAB J d (kBm [])) [bZ,bZ] ?_
 refine sq (Goes.block ?_)
 obtain⟨K,g8,h⟩:=bnd h
 refine Goes.imp (Q:=fun x s'=>(x= .exit 0/\ ∃b c,(b,c)=K/\Sub s' (ofG 41 (kAM ((3,.bool d)::(kBm []))),[bZ,.cells (ni1 b c)]))) ?_ ?_
 ·refine Uc (fun M s=> ∃(A:Int) (B:List Int) (a:Str),s=(ofG 41 (kAB a d (kBm [])),[bZ,.cells (ni1 A B)])/\xA N M A B a=some K) ?_ (m:=N) ⟨_,_,_,rfl,g8⟩
  rintro M s ⟨A,B,a,rfl,g8⟩
  cases M with
  |zero=>simp only[xA]at g8;cases g8
  |succ M=>
   rw[xA]at g8
   refine sq ?_
   refine sh fol (kAB a d (kBm (kBa (decide ((a.length:Int)>0))))) ?_
   refine ihD g8 (fun L g8=>?_) (fun L g8=>?_)
   ·refine Goes.skip ?_
    refine Goes.block ?_
    refine sh fol (kAB a d (kBm (kA5 (if(a.length:Int)<18 then(a.length:Int)else 18)))) ?_
    obtain⟨C,j,g8⟩:=bnd g8
    obtain⟨D,k,g8⟩:=bnd g8
    refine sq (gr fol [2,3] (kAB a d (kBm (kBf (if(a.length:Int)<18 then(a.length:Int)else 18) D.1 []))) (ac (hs (.done (.opt (qX ZT 9 (.str a) none (some (.i (if(a.length:Int)<18 then(a.length:Int)else 18))) none)) (.str C)) (jc st9 none (some (if(a.length:Int)<18 then(a.length:Int)else 18)) j)) (ac (cv (qoX C k)) az)) ?_)
    obtain⟨E,o,g8⟩:=bnd g8
    obtain⟨F,p,g8⟩:=bnd g8
    obtain⟨G,q,g8⟩:=bnd g8
    obtain⟨H,r,g8⟩:=bnd g8
    obtain⟨e,t,g8⟩:=bnd g8
    refine sq (gq fol [1,3,4,6,7,8] (kAB a d (kBm (kA5 (if(a.length:Int)<18 then(a.length:Int)else 18)))) [bZ,.cells (nz1 e)] (ac (cv (qby 10 o)) (ac (cv (qh2 N E (if(a.length:Int)<18 then(a.length:Int)else 18) p)) (ac (cv (zT N (⟨A,B⟩:qg) F q)) (ac (cv (qby D.1 r)) (ac (cv (qav N G H t)) (ac (hs (.run [1] (qo ZT 106 (.ptr 1 0) (.agg (nz1 e))) [bZ,.cells (ni1 A B)] .undef [bZ,.cells (nz1 e)] true) (qH (n:=2) (by kernel_rfl) rfl rfl rfl rfl (cac rfl (cac nvc can)) rfl)) az)))))) ?_)
    obtain⟨u,v,g8⟩:=bnd g8
    refine gr fol [2] (kAB u d (kBm [])) (ac (hs (.done (.opt (qX ZT 9 (.str a) (some (.i (if(a.length:Int)<18 then(a.length:Int)else 18))) none none)) (.str u)) (jc st9 (some (if(a.length:Int)<18 then(a.length:Int)else 18)) none v)) az) ?_
    exact⟨M,(ofG 41 (kAB u d (kBm [])),[bZ,.cells (nz1 e)]),Nat.lt_succ_self _,(Sub.refl _),_,_,_,rfl,g8⟩
   refine Goes.exit ?_
   obtain rfl:=si g8
   exact⟨rfl,_,_,rfl,(Sub.keep [2,3,4] rfl rfl)⟩
 rintro x s' ⟨rfl,b,c,rfl,hsub⟩
 try dsimp only at h
 refine Goes.sub hsub ?_
 refine sq ?_
 refine sh fol (kAM (kBm [(37,.bool d)])) ?_
 refine ihB h (fun I h=>?_) (fun I h=>?_)
 ·obtain⟨f,w,h⟩:=bnd h
  refine sq (gq fol [1,2] (kAM []) [.cells (nz1 f),.cells (ni1 b c)] (ac (cv (vE (⟨b,c⟩:qg) w)) (ac (hs (.run [0] (qo ZT 106 (.ptr 0 0) (.agg (nz1 f))) [bZ,.cells (ni1 b c)] .undef [.cells (nz1 f),.cells (ni1 b c)] true) (qH (n:=2) (by kernel_rfl) rfl rfl rfl rfl (cac rfl (cac nvc can)) rfl)) az)) ?_)
  refine Goes.ret ?_
  obtain rfl:=si h
  exact(gw2 [.agg (nz1 f)] (FzW.agg (qd.cons (Ua tI) (qd.cons (Ua (qp (qa .u64) _ (nl rfl))) qd.nil))))
 refine Goes.skip ?_
 refine sq (gq fol [1] (kAM []) [.cells (ni1 b c),.cells (ni1 b c)] (ac (hs (.run [0] (qo ZT 106 (.ptr 0 0) (.agg (ni1 b c))) [bZ,.cells (ni1 b c)] .undef [.cells (ni1 b c),.cells (ni1 b c)] true) (qH (n:=2) (by kernel_rfl) rfl rfl rfl rfl (cac rfl (cac nvc can)) rfl)) az) ?_)
 refine Goes.ret ?_
 obtain rfl:=si h
 exact(gw2 [.agg (ni1 b c)] (FzW.agg (qd.cons (Ua tI) (qd.cons (Ua (qp (qa .u64) _ (nl rfl))) qd.nil))))
def qa1 (N:Nat) (a:qg) (b:qg):Option Int:=
 (if a.w.isEmpty=true then
 some b.w.isEmpty
 else
 some false:Option Bool).bind fun c=>
 if c=true then
 if a.s<b.s then
 some (-1)
 else
 if a.s>b.s then
 some 1
 else
 some 0
 else
 (xB N a b).bind fun d=>
 (ko d).bind fun e=>
 some e
theorem qeq (N:Nat) (a:qg) (b:qg) {res:Int} (h:qa1 N a b=some res):qb ZT (.fn 133) [.agg (nz1 a),.agg (nz1 b)] [] (.i res) []:=by
 unfold qa1 at h
 refine Ub Tryz.func133 rfl rfl (m:=29) rfl (rs:=[.tmp 4]) rfl (l:=[(0,.agg (nz1 a)),(1,.agg (nz1 b))]) rfl ?_
 refine sg fol (kR []) [.cells (nz1 a),.cells (nz1 b)] ?_
 refine sq ?_
 refine sq ?_
 obtain⟨j,c,h⟩:=bnd h
 refine Goes.cut (s':=(ofG 29 (kR (kBU j)),[.cells (nz1 a),.cells (nz1 b)])) ?_ ?_
 ·rcases wyB c with⟨f,c⟩|⟨f,c⟩
  ·obtain rfl:=si c
   exact tr fol [2,3,6] (kR (kBU b.w.isEmpty)) (ac (hs (.done (.opt (kw ZT .eql 104 (.tmp 6) (.const (.slice none 0 0)) (nvl (qa .u64) a.w) .nilslice)) (.bool a.w.isEmpty)) (qaP yC)) (ac (gw f) (ac (hs (.done (.opt (kw ZT .eql 104 (.tmp 10) (.const (.slice none 0 0)) (nvl (qa .u64) b.w) .nilslice)) (.bool b.w.isEmpty)) (qaP yC)) az)))
  obtain rfl:=si c
  exact tr fol [2,3] (kR [(12,.bool false)]) (ac (hs (.done (.opt (kw ZT .eql 104 (.tmp 6) (.const (.slice none 0 0)) (nvl (qa .u64) a.w) .nilslice)) (.bool a.w.isEmpty)) (qaP yC)) (ac (gw f) az))
 refine ihB h (fun k h=>?_) (fun k h=>?_)
 ·refine sq (Goes.block ?_)
  refine sh fol (kR (kBT (decide (a.s<b.s)))) ?_
  refine ihD h (fun n h=>?_) (fun n h=>?_)
  ·refine sh fol [(4,.i (-1))] ?_
   refine Goes.ret ?_
   obtain rfl:=si h
   exact(gw2 [.i (-1)] (Ua tI))
  refine sh fol [(19,.bool (decide (a.s>b.s)))] ?_
  refine ihD h (fun o h=>?_) (fun o h=>?_)
  ·refine sh fol [(4,.i 1)] ?_
   refine Goes.ret ?_
   obtain rfl:=si h
   exact(gw2 [.i 1] (Ua tI))
  refine Goes.skip ?_
  refine sh fol [(4,.i 0)] ?_
  refine Goes.ret ?_
  obtain rfl:=si h
  exact(gw2 [.i 0] (Ua tI))
 refine Goes.skip ?_
 obtain⟨p,d,h⟩:=bnd h
 obtain⟨g,e,h⟩:=bnd h
 refine sq (gr fol [2,3] (kB7 g) (ac (cv (qd5 N a b d)) (ac (cv (yH p e)) az)) ?_)
 refine Goes.ret ?_
 obtain rfl:=si h
 exact(gw2 [.i g] (Ua tI))
def xD (N:Nat) (a:Str):Option Int:=
 (strings_CutPrefix a [45]).bind fun r=>
 (strings_Cut r.1 [47]).bind fun b=>
 ((jJ b.1).bind fun t=>
 if t=true then
 if(!r.2)=true then
 some true
 else
 some (!(b.1==[48]))
 else
 some false:Option Bool).bind fun s=>
 ((if b.2.2=true then
 (if s=true then
 (jJ b.2.1).bind fun g=>
 if g=true then
 if(!(b.2.1==[48]))=true then
 some (!(b.2.1==[49]))
 else
 some false
 else
 some false
 else
 some false:Option Bool).bind fun h=>
 some h
 else
 some s:Option Bool)).bind fun u=>
 ((qK (!u) 1).bind fun c=>
 if(b.1.length:Int)>600 then
 (qK true 4).bind fun d=>
 (kN N ([c,d]:List Int)).bind fun i=>
 some (c,d,i)
 else
 (qK (decide ((b.2.1.length:Int)>600)) 4).bind fun e=>
 (kN N ([c,e]:List Int)).bind fun j=>
 some (c,e,j):Option (Int×Int×Int)).bind fun(v,w,f)=>
 if(!decide (f=0))=true then
 some f
 else
 (if b.2.2=true then
 (qa8 N b.1).bind fun k=>
 (qa8 N b.2.1).bind fun l=>
 (qcL N k l).bind fun m=>
 (qcy 1).bind fun n=>
 (qa1 N m n).bind fun o=>
 some (!decide (o=0))
 else
 some false:Option Bool).bind fun p=>
 (qK p 1).bind fun q=>
 some q
theorem qaS (N:Nat) (a:Str) {res:Int} (h:xD N a=some res):qb ZT (.fn 56) [.str a] [] (.i res) []:=by
 unfold xD at h
 refine Ub Tryz.func56 rfl rfl (m:=76) rfl (rs:=[.tmp 2]) rfl (l:=(kAQ a [])) rfl ?_
 refine sh fol (kAQ a []) ?_
 obtain⟨V,H,h⟩:=bnd h
 refine sq (gr fol [1] ((3,.str V.1)::(kAl V.2)) (ac (cv (qeB a [45] H)) az) ?_)
 obtain⟨e,I,h⟩:=bnd h
 refine sq (gr fol [1] ((4,.bool V.2)::(kAX e.1 e.2.1 e.2.2 [])) (ac (cv (qei V.1 [47] I)) az) ?_)
 refine sq ?_
 obtain⟨b6,f,h⟩:=bnd h
 refine Goes.cut (s':=(ofG 76 (kAX e.1 e.2.1 e.2.2 (kAz b6)),[])) ?_ ?_
 ·obtain⟨r3,k,f⟩:=bnd f
  rcases wyB f with⟨X,f⟩|⟨X,f⟩
  ·rcases wyB f with⟨Y,f⟩|⟨Y,f⟩
   ·obtain rfl:=si f
    exact tr fol [1,2,5] (kAX e.1 e.2.1 e.2.2 [(8,.bool true)]) (ac (cv (jA e.1 k)) (ac (gw X) (ac (gw Y) az)))
   obtain rfl:=si f
   exact tr fol [1,2,5] (kAX e.1 e.2.1 e.2.2 (kAz (!(e.1==[48])))) (ac (cv (jA e.1 k)) (ac (gw X) (ac (gw Y) az)))
  obtain rfl:=si f
  exact tr fol [1,2] (kAX e.1 e.2.1 e.2.2 kBI) (ac (cv (jA e.1 k)) (ac (gw X) az))
 refine sq ?_
 refine sh fol (kAX e.1 e.2.1 e.2.2 [(8,.bool b6),(32,.bool e.2.2)]) ?_
 obtain⟨r9,g9,h⟩:=bnd h
 refine Goes.imp (Q:=fun x s'=>(x= .normal/\ ∃J,J=r9/\Sub s' (ofG 76 (kAX e.1 e.2.1 e.2.2 (kAz J)),[]))) ?_ ?_
 ·refine ihB g9 (fun Z g9=>?_) (fun Z g9=>?_)
  ·obtain⟨a0,c,g9⟩:=bnd g9
   refine Goes.cut (s':=(ofG 76 (kAX e.1 e.2.1 e.2.2 (kAz a0)),[])) ?_ ?_
   ·rcases wyB c with⟨n,c⟩|⟨n,c⟩
    ·obtain⟨r12,j,c⟩:=bnd c
     rcases wyB c with⟨q,c⟩|⟨q,c⟩
     ·rcases wyB c with⟨t,c⟩|⟨t,c⟩
      ·obtain rfl:=si c
       exact tr fol [1,3,5,9] (kAX e.1 e.2.1 e.2.2 (kAz (!(e.2.1==[49])))) (ac (gw n) (ac (cv (jA e.2.1 j)) (ac (gw q) (ac (gw t) az))))
      obtain rfl:=si c
      exact tr fol [1,3,5,9] (kAX e.1 e.2.1 e.2.2 kBI) (ac (gw n) (ac (cv (jA e.2.1 j)) (ac (gw q) (ac (gw t) az))))
     obtain rfl:=si c
     exact tr fol [1,3,5] (kAX e.1 e.2.1 e.2.2 kBI) (ac (gw n) (ac (cv (jA e.2.1 j)) (ac (gw q) az)))
    obtain rfl:=si c
    exact tr fol [1] (kAX e.1 e.2.1 e.2.2 kBI) (ac (gw n) az)
   obtain rfl:=si g9
   exact⟨rfl,_,rfl,(Sub.refl _)⟩
  refine Goes.skip ?_
  obtain rfl:=si g9
  exact⟨rfl,_,rfl,(Sub.keep [5,6,7,8] rfl rfl)⟩
 rintro x s' ⟨rfl,J,rfl,hsub⟩
 refine Goes.sub hsub ?_
 refine sq ?_
 refine sq ?_
 obtain⟨⟨K,L,o⟩,b,h⟩:=bnd h
 refine Goes.cut (s':=(ofG 76 (kAX e.1 e.2.1 e.2.2 [(9,.i o)]),(kAE K L))) ?_ ?_
 ·obtain⟨g,p,b⟩:=bnd b
  rcases wyD b with⟨u,b⟩|⟨u,b⟩
  ·obtain⟨r,v,b⟩:=bnd b
   obtain⟨M,w,b⟩:=bnd b
   simp only[ZI,ZP]at b
   obtain⟨rfl,rfl,rfl⟩:=b
   exact jY.rq fol [2,6,11,13] (kAX e.1 e.2.1 e.2.2 [(9,.i M)]) (kAE g r) (ac (cv (ji (!J) 1 p)) (ac (gw u) (ac (cv (ji true 4 v)) (ac (hs (.call 79 [.slice 0 0 2 2 1] (kAE g r) [0] [vl encI ([g,r]:List Int)] (.i M)) (qas (FzL.cons (Fz.lit rfl rfl (Ud (AllST.cons tI (AllST.cons tI AllST.nil)))) FzL.nil) (yG N ([g,r]:List Int) w) tI rfl)) az))))
  obtain⟨s,y,b⟩:=bnd b
  obtain⟨O,z,b⟩:=bnd b
  simp only[ZI,ZP]at b
  obtain⟨rfl,rfl,rfl⟩:=b
  exact jY.rq fol [2,6,11,13] (kAX e.1 e.2.1 e.2.2 [(9,.i O)]) (kAE g s) (ac (cv (ji (!J) 1 p)) (ac (gw u) (ac (cv (ji (decide ((e.2.1.length:Int)>600)) 4 y)) (ac (hs (.call 79 [.slice 0 0 2 2 1] (kAE g s) [0] [vl encI ([g,s]:List Int)] (.i O)) (qas (FzL.cons (Fz.lit rfl rfl (Ud (AllST.cons tI (AllST.cons tI AllST.nil)))) FzL.nil) (yG N ([g,s]:List Int) z) tI rfl)) az))))
 try dsimp only at h
 refine sh fol (kAX e.1 e.2.1 e.2.2 [(9,.i o),(61,.bool (!decide (o=0)))]) ?_
 refine ihB h (fun a1 h=>?_) (fun a1 h=>?_)
 ·refine sh fol (kBM o) ?_
  refine Goes.ret ?_
  obtain rfl:=si h
  exact(gw2 [.i o] (Ua tI))
 refine Goes.skip ?_
 refine sq ?_
 obtain⟨P,d,h⟩:=bnd h
 refine Goes.cut (s':=(ofG 76 (kBV P),(kAE K L))) ?_ ?_
 ·rcases wyB d with⟨A,d⟩|⟨A,d⟩
  ·obtain⟨a2,B,d⟩:=bnd d
   obtain⟨a3,C,d⟩:=bnd d
   obtain⟨a4,D,d⟩:=bnd d
   obtain⟨a5,E,d⟩:=bnd d
   obtain⟨a6,F,d⟩:=bnd d
   obtain rfl:=si d
   exact tr fol [1,3,5,6,7,8] (kBV (!decide (a6=0))) (ac (gw A) (ac (cv (qbP N e.1 B)) (ac (cv (qbP N e.2.1 C)) (ac (cv (qhT N a2 a3 D)) (ac (cv (qby 1 E)) (ac (cv (qeq N a4 a5 F)) az))))))
  obtain rfl:=si d
  exact tr fol [1] [(10,.bool false)] (ac (gw A) az)
 obtain⟨U,G,h⟩:=bnd h
 refine sq (gr fol [1] (kBM U) (ac (cv (ji P 1 G)) az) ?_)
 refine Goes.ret ?_
 obtain rfl:=si h
 exact(gw2 [.i U] (Ua tI))
def vZ (N:Nat) (a:qg) (b:qg):Option qg:=
 (ko b).bind fun f=>
 ((if f<0 then
 (zI a).bind fun d=>
 (zI b).bind fun e=>
 some (d.s,d.w,e.s,e.w)
 else
 some (a.s,a.w,b.s,b.w):Option (Int×(List Int)×Int×(List Int)))).bind fun(g,h,i,j)=>
 (zU N (⟨g,h⟩:qg) (⟨i,j⟩:qg)).bind fun c=>
 some c.1
theorem qey (N:Nat) (a:qg) (b:qg) {res:qg} (h:vZ N a b=some res):qb ZT (.fn 161) [.agg (nz1 a),.agg (nz1 b)] [] (.agg (nz1 res)) []:=by
 unfold vZ at h
 refine Ub Tryz.func161 rfl rfl (m:=21) rfl (rs:=[.cell 4 106]) rfl (l:=[(0,.agg (nz1 a)),(1,.agg (nz1 b))]) rfl ?_
 refine sg fol (kH []) [.cells (nz1 a),.cells (nz1 b),bZ] ?_
 refine sq ?_
 obtain⟨r,j,h⟩:=bnd h
 refine sq (gr fol [1] (kH [(9,.bool (decide (r<0)))]) (ac (cv (yH b j)) az) ?_)
 obtain⟨s,g6,h⟩:=bnd h
 refine Goes.imp (Q:=fun x s'=>(x= .normal/\ ∃d e f g,(d,e,f,g)=s/\Sub s' (ofG 21 (kH []),[.cells (ni1 d e),.cells (ni1 f g),bZ]))) ?_ ?_
 ·refine ihD g6 (fun t g6=>?_) (fun t g6=>?_)
  ·obtain⟨k,o,g6⟩:=bnd g6
   obtain⟨q,p,g6⟩:=bnd g6
   refine gq fol [1,3,4,5] (kH []) [.cells (nz1 k),.cells (nz1 q),bZ] (ac (cv (vE a o)) (ac (cv (vE b p)) (ac (hs (.run [0] (qo ZT 106 (.ptr 0 0) (.agg (nz1 k))) [.cells (nz1 a),.cells (nz1 b),bZ] .undef [.cells (nz1 k),.cells (nz1 b),bZ] true) (qH (n:=2) (by kernel_rfl) rfl rfl rfl rfl (cac rfl (cac nvc can)) rfl)) (ac (hs (.run [1] (qo ZT 106 (.ptr 1 0) (.agg (nz1 q))) [.cells (nz1 k),.cells (nz1 b),bZ] .undef [.cells (nz1 k),.cells (nz1 q),bZ] true) (qH (n:=2) (by kernel_rfl) rfl rfl rfl rfl (cac rfl (cac nvc can)) rfl)) az)))) ?_
   obtain rfl:=si g6
   exact⟨rfl,_,_,_,_,rfl,(Sub.refl _)⟩
  refine Goes.skip ?_
  obtain rfl:=si g6
  exact⟨rfl,_,_,_,_,rfl,(Sub.keep [2,3,4] rfl rfl)⟩
 rintro x s' ⟨rfl,d,e,f,g,rfl,hsub⟩
 try dsimp only at h
 refine Goes.sub hsub ?_
 obtain⟨c,i,h⟩:=bnd h
 refine sq (gq fol [2,8,9] (kAU (kBc [])) [.cells (ni1 d e),.cells (ni1 f g),bZ,.cells (nz1 c.1),.cells (nz1 c.2)] (ac (cv (qbf N (⟨d,e⟩:qg) (⟨f,g⟩:qg) i)) (ac (hs (.run [3] (qo ZT 106 (.ptr 3 0) (.agg (nz1 c.1))) [.cells (ni1 d e),.cells (ni1 f g),bZ,bZ,bZ] .undef [.cells (ni1 d e),.cells (ni1 f g),bZ,.cells (nz1 c.1),bZ] true) (qH (n:=2) (by kernel_rfl) rfl rfl rfl rfl (cac rfl (cac nvc can)) rfl)) (ac (hs (.run [4] (qo ZT 106 (.ptr 4 0) (.agg (nz1 c.2))) [.cells (ni1 d e),.cells (ni1 f g),bZ,.cells (nz1 c.1),bZ] .undef [.cells (ni1 d e),.cells (ni1 f g),bZ,.cells (nz1 c.1),.cells (nz1 c.2)] true) (qH (n:=2) (by kernel_rfl) rfl rfl rfl rfl (cac rfl (cac nvc can)) rfl)) az))) ?_)
 refine sq (gq fol [1] (kAU []) [.cells (ni1 d e),.cells (ni1 f g),.cells (nz1 c.1),.cells (nz1 c.1),.cells (nz1 c.2)] (ac (hs (.run [2] (qo ZT 106 (.ptr 2 0) (.agg (nz1 c.1))) [.cells (ni1 d e),.cells (ni1 f g),bZ,.cells (nz1 c.1),.cells (nz1 c.2)] .undef [.cells (ni1 d e),.cells (ni1 f g),.cells (nz1 c.1),.cells (nz1 c.1),.cells (nz1 c.2)] true) (qH (n:=2) (by kernel_rfl) rfl rfl rfl rfl (cac rfl (cac nvc can)) rfl)) az) ?_)
 refine Goes.ret ?_
 obtain rfl:=si h
 exact(gw2 [.agg (nz1 c.1)] (FzW.agg (qd.cons (Ua tI) (qd.cons (Ua (qp (qa .u64) _ (nl rfl))) qd.nil))))
def qbO (N:Nat) (num:qg) (den:qg):Option qm:=
 (ko den).bind fun k=>
 ((if k<0 then
 (zI num).bind fun i=>
 (zI den).bind fun j=>
 some (i.s,i.w,j.s,j.w)
 else
 some (num.s,num.w,den.s,den.w):Option (Int×(List Int)×Int×(List Int)))).bind fun(d,e,b,c)=>
 (if c.isEmpty=true then
 some (decide (b=1))
 else
 some false:Option Bool).bind fun f=>
 if f=true then
 some (⟨(⟨d,e⟩:qg),(⟨b,c⟩:qg)⟩:qm)
 else
 (qcL N (⟨d,e⟩:qg) (⟨b,c⟩:qg)).bind fun a=>
 (vZ N (⟨d,e⟩:qg) a).bind fun g=>
 (vZ N (⟨b,c⟩:qg) a).bind fun h=>
 some (⟨g,h⟩:qm)
theorem qeu (N:Nat) (num:qg) (den:qg) {res:qm} (h:qbO N num den=some res):qb ZT (.fn 105) [.agg (nz1 num),.agg (nz1 den)] [] (.agg (nq1 res)) []:=by
 unfold qbO at h
 refine Ub Tryz.func105 rfl rfl (m:=34) rfl (rs:=[.cell 4 108]) rfl (l:=[(0,.agg (nz1 num)),(1,.agg (nz1 den))]) rfl ?_
 refine sg fol (kH []) (.cells (nz1 num):: .cells (nz1 den)::(kD [])) ?_
 refine sq ?_
 obtain⟨A,q,h⟩:=bnd h
 refine sq (gr fol [1] (kH (kAz (decide (A<0)))) (ac (cv (yH den q)) az) ?_)
 obtain⟨B,g6,h⟩:=bnd h
 refine Goes.imp (Q:=fun x s'=>(x= .normal/\ ∃d e c a,(d,e,c,a)=B/\Sub s' (ofG 34 (kH []),(.cells (ni1 d e):: .cells (ni1 c a)::(kD []))))) ?_ ?_
 ·refine ihD g6 (fun C g6=>?_) (fun C g6=>?_)
  ·obtain⟨r,t,g6⟩:=bnd g6
   obtain⟨v,u,g6⟩:=bnd g6
   refine gq fol [1,3,4,5] (kH []) (.cells (nz1 r):: .cells (nz1 v)::(kD [])) (ac (cv (vE num t)) (ac (cv (vE den u)) (ac (hs (.run [0] (qo ZT 106 (.ptr 0 0) (.agg (nz1 r))) (.cells (nz1 num):: .cells (nz1 den)::(kD [])) .undef (.cells (nz1 r):: .cells (nz1 den)::(kD [])) true) (qH (n:=2) (by kernel_rfl) rfl rfl rfl rfl (cac rfl (cac nvc can)) rfl)) (ac (hs (.run [1] (qo ZT 106 (.ptr 1 0) (.agg (nz1 v))) (.cells (nz1 r):: .cells (nz1 den)::(kD [])) .undef (.cells (nz1 r):: .cells (nz1 v)::(kD [])) true) (qH (n:=2) (by kernel_rfl) rfl rfl rfl rfl (cac rfl (cac nvc can)) rfl)) az)))) ?_
   obtain rfl:=si g6
   exact⟨rfl,_,_,_,_,rfl,(Sub.refl _)⟩
  refine Goes.skip ?_
  obtain rfl:=si g6
  exact⟨rfl,_,_,_,_,rfl,(Sub.keep [2,3,4] rfl rfl)⟩
 rintro x s' ⟨rfl,d,e,c,a,rfl,hsub⟩
 try dsimp only at h
 refine Goes.sub hsub ?_
 refine sq ?_
 refine sq ?_
 obtain⟨y,b,h⟩:=bnd h
 refine Goes.cut (s':=(ofG 34 (kH [(20,.bool y)]),(.cells (ni1 d e):: .cells (ni1 c a)::(kD [])))) ?_ ?_
 ·rcases wyB b with⟨j,b⟩|⟨j,b⟩
  ·obtain rfl:=si b
   exact tr fol [2,3] (kH [(20,.bool (decide (c=1)))]) (ac (hs (.done (.opt (kw ZT .eql 104 (.tmp 14) (.const (.slice none 0 0)) (nvl (qa .u64) a) .nilslice)) (.bool a.isEmpty)) (qaP yC)) (ac (gw j) az))
  obtain rfl:=si b
  exact tr fol [2,3] (kH [(20,.bool false)]) (ac (hs (.done (.opt (kw ZT .eql 104 (.tmp 14) (.const (.slice none 0 0)) (nvl (qa .u64) a) .nilslice)) (.bool a.isEmpty)) (qaP yC)) (ac (gw j) az))
 refine ihB h (fun z h=>?_) (fun z h=>?_)
 ·refine sq (gq fol [3] (kAU []) [.cells (ni1 d e),.cells (ni1 c a),.cells (ni2 d e c a)] (ac (hs (.run [2] (qo ZT 108 (.ptr 2 0) (.agg (ni2 d e c a))) (.cells (ni1 d e):: .cells (ni1 c a)::(kD [])) .undef [.cells (ni1 d e),.cells (ni1 c a),.cells (ni2 d e c a)] true) (qH (n:=4) (by kernel_rfl) rfl rfl rfl rfl (cac rfl (cac nvc (cac rfl (cac nvc can)))) rfl)) az) ?_)
  refine Goes.ret ?_
  obtain rfl:=si h
  exact(gw2 [.agg (ni2 d e c a)] (FzW.agg (qd.cons (Ua tI) (qd.cons (Ua (qp (qa .u64) _ (nl rfl))) (qd.cons (Ua tI) (qd.cons (Ua (qp (qa .u64) _ (nl rfl))) qd.nil))))))
 refine Goes.skip ?_
 obtain⟨f,k,h⟩:=bnd h
 refine sq (gq fol [2,4] (kH (kBc [])) (.cells (ni1 d e):: .cells (ni1 c a)::(kD [.cells (nz1 f)])) (ac (cv (qhT N (⟨d,e⟩:qg) (⟨c,a⟩:qg) k)) (ac (hs (.run [3] (qo ZT 106 (.ptr 3 0) (.agg (nz1 f))) (.cells (ni1 d e):: .cells (ni1 c a)::(kD [bZ])) .undef (.cells (ni1 d e):: .cells (ni1 c a)::(kD [.cells (nz1 f)])) true) (qH (n:=2) (by kernel_rfl) rfl rfl rfl rfl (cac rfl (cac nvc can)) rfl)) az)) ?_)
 obtain⟨g,o,h⟩:=bnd h
 obtain⟨i,p,h⟩:=bnd h
 refine sq (gq fol [2,5,7] (kAU []) [.cells (ni1 d e),.cells (ni1 c a),.cells (ni2 g.s g.w i.s i.w),.cells (nz1 f)] (ac (cv (qey N (⟨d,e⟩:qg) f o)) (ac (cv (qey N (⟨c,a⟩:qg) f p)) (ac (hs (.run [2] (qo ZT 108 (.ptr 2 0) (.agg (ni2 g.s g.w i.s i.w))) (.cells (ni1 d e):: .cells (ni1 c a)::(kD [.cells (nz1 f)])) .undef [.cells (ni1 d e),.cells (ni1 c a),.cells (ni2 g.s g.w i.s i.w),.cells (nz1 f)] true) (qH (n:=4) (by kernel_rfl) rfl rfl rfl rfl (cac rfl (cac nvc (cac rfl (cac nvc can)))) rfl)) az))) ?_)
 refine Goes.ret ?_
 obtain rfl:=si h
 exact(gw2 [.agg (ni2 g.s g.w i.s i.w)] (FzW.agg (qd.cons (Ua tI) (qd.cons (Ua (qp (qa .u64) _ (nl rfl))) (qd.cons (Ua tI) (qd.cons (Ua (qp (qa .u64) _ (nl rfl))) qd.nil))))))
def qa2 (n:qg):Option qm:=
 (qcy 1).bind fun a=>
 some (⟨n,a⟩:qm)
theorem qb4 (n:qg) {res:qm} (h:qa2 n=some res):qb ZT (.fn 124) [.agg (nz1 n)] [] (.agg (nq1 res)) []:=by
 unfold qa2 at h
 refine Ub Tryz.func124 rfl rfl (m:=6) rfl (rs:=[.cell 2 108]) rfl (l:=[(0,.agg (nz1 n))]) rfl ?_
 refine sg fol (kAH []) (.cells (nz1 n)::(kD [])) ?_
 obtain⟨a,b,h⟩:=bnd h
 refine sq (gq fol [1,3] kBX [.cells (nz1 n),.cells (ni2 n.s n.w a.s a.w)] (ac (cv (qby 1 b)) (ac (hs (.run [1] (qo ZT 108 (.ptr 1 0) (.agg (ni2 n.s n.w a.s a.w))) (.cells (nz1 n)::(kD [])) .undef [.cells (nz1 n),.cells (ni2 n.s n.w a.s a.w)] true) (qH (n:=4) (by kernel_rfl) rfl rfl rfl rfl (cac rfl (cac nvc (cac rfl (cac nvc can)))) rfl)) az)) ?_)
 refine Goes.ret ?_
 obtain rfl:=si h
 exact(gw2 [.agg (ni2 n.s n.w a.s a.w)] (FzW.agg (qd.cons (Ua tI) (qd.cons (Ua (qp (qa .u64) _ (nl rfl))) (qd.cons (Ua tI) (qd.cons (Ua (qp (qa .u64) _ (nl rfl))) qd.nil))))))
def jL (a:qm):Option Bool:=
 (if a.Den.w.isEmpty=true then
 some (decide (a.Den.s=1))
 else
 some false:Option Bool).bind fun b=>
 some b
theorem yZ (a:qm) {res:Bool} (h:jL a=some res):qb ZT (.fn 174) [.agg (nq1 a)] [] (.bool res) []:=by
 unfold jL at h
 refine Ub Tryz.func174 rfl rfl (m:=13) rfl (rs:=[.tmp 2]) rfl (l:=[(0,.agg (nq1 a))]) rfl ?_
 refine sg fol (kA2 []) [.cells (nq1 a)] ?_
 refine sq ?_
 obtain⟨d,b,h⟩:=bnd h
 refine Goes.cut (s':=(ofG 13 (kBq d),[.cells (nq1 a)])) ?_ ?_
 ·rcases wyB b with⟨c,b⟩|⟨c,b⟩
  ·obtain rfl:=si b
   exact tr fol [3,4] (kBq (decide (a.Den.s=1))) (ac (hs (.done (.opt (kw ZT .eql 104 (.tmp 5) (.const (.slice none 0 0)) (nvl (qa .u64) a.Den.w) .nilslice)) (.bool a.Den.w.isEmpty)) (qaP yC)) (ac (gw c) az))
  obtain rfl:=si b
  exact tr fol [3,4] kA7 (ac (hs (.done (.opt (kw ZT .eql 104 (.tmp 5) (.const (.slice none 0 0)) (nvl (qa .u64) a.Den.w) .nilslice)) (.bool a.Den.w.isEmpty)) (qaP yC)) (ac (gw c) az))
 refine Goes.ret ?_
 obtain rfl:=si h
 exact(gw2 [.bool d] (Ua tB))
def xJ (N:Nat) (a:qm) (b:qm):Option qm:=
 ((jL a).bind fun g=>
 if g=true then
 (jL b).bind fun h=>
 some h
 else
 some false:Option Bool).bind fun i=>
 if i=true then
 (vC N a.Num b.Num).bind fun j=>
 (qa2 j).bind fun k=>
 some k
 else
 (qE N a.Num b.Den).bind fun l=>
 (qE N b.Num a.Den).bind fun c=>
 (vC N l c).bind fun d=>
 (qE N a.Den b.Den).bind fun e=>
 (qbO N d e).bind fun f=>
 some f
theorem qbZ (N:Nat) (a:qm) (b:qm) {res:qm} (h:xJ N a b=some res):qb ZT (.fn 120) [.agg (nq1 a),.agg (nq1 b)] [] (.agg (nq1 res)) []:=by
 unfold xJ at h
 refine Ub Tryz.func120 rfl rfl (m:=34) rfl (rs:=[.cell 4 108]) rfl (l:=[(0,.agg (nq1 a)),(1,.agg (nq1 b))]) rfl ?_
 refine sg fol (kH []) (.cells (nq1 a):: .cells (nq1 b)::(kD [])) ?_
 refine sq ?_
 refine sq ?_
 obtain⟨w,c,h⟩:=bnd h
 refine Goes.cut (s':=(ofG 34 (kH (kBV w)),(.cells (nq1 a):: .cells (nq1 b)::(kD [])))) ?_ ?_
 ·obtain⟨B,e,c⟩:=bnd c
  rcases wyB c with⟨s,c⟩|⟨s,c⟩
  ·obtain⟨x,k,c⟩:=bnd c
   obtain rfl:=si c
   exact tr fol [1,2,4] (kH (kBV x)) (ac (cv (yZ a e)) (ac (gw s) (ac (cv (yZ b k)) az)))
  obtain rfl:=si c
  exact tr fol [1,2] (kH [(10,.bool false)]) (ac (cv (yZ a e)) (ac (gw s) az))
 refine ihB h (fun y h=>?_) (fun y h=>?_)
 ·obtain⟨z,o,h⟩:=bnd h
  obtain⟨r,p,h⟩:=bnd h
  refine sq (gq fol [4,5,6] (kAU []) [.cells (nq1 a),.cells (nq1 b),.cells (nq1 r)] (ac (cv (qav N a.Num b.Num o)) (ac (cv (qb4 z p)) (ac (hs (.run [2] (qo ZT 108 (.ptr 2 0) (.agg (nq1 r))) (.cells (nq1 a):: .cells (nq1 b)::(kD [])) .undef [.cells (nq1 a),.cells (nq1 b),.cells (nq1 r)] true) (qH (n:=4) (by kernel_rfl) rfl rfl rfl rfl (cac rfl (cac nvc (cac rfl (cac nvc can)))) rfl)) az))) ?_)
  refine Goes.ret ?_
  obtain rfl:=si h
  exact(gw2 [.agg (nq1 r)] (FzW.agg (qd.cons (Ua tI) (qd.cons (Ua (qp (qa .u64) _ (nl rfl))) (qd.cons (Ua tI) (qd.cons (Ua (qp (qa .u64) _ (nl rfl))) qd.nil))))))
 refine Goes.skip ?_
 obtain⟨A,q,h⟩:=bnd h
 obtain⟨t,f,h⟩:=bnd h
 obtain⟨u,g,h⟩:=bnd h
 obtain⟨v,i,h⟩:=bnd h
 obtain⟨d,j,h⟩:=bnd h
 refine sq (gq fol [4,9,10,15,16,17] (kAU []) [.cells (nq1 a),.cells (nq1 b),.cells (nq1 d)] (ac (cv (zT N a.Num b.Den q)) (ac (cv (zT N b.Num a.Den f)) (ac (cv (qav N A t g)) (ac (cv (zT N a.Den b.Den i)) (ac (cv (qeu N u v j)) (ac (hs (.run [2] (qo ZT 108 (.ptr 2 0) (.agg (nq1 d))) (.cells (nq1 a):: .cells (nq1 b)::(kD [])) .undef [.cells (nq1 a),.cells (nq1 b),.cells (nq1 d)] true) (qH (n:=4) (by kernel_rfl) rfl rfl rfl rfl (cac rfl (cac nvc (cac rfl (cac nvc can)))) rfl)) az)))))) ?_)
 refine Goes.ret ?_
 obtain rfl:=si h
 exact(gw2 [.agg (nq1 d)] (FzW.agg (qd.cons (Ua tI) (qd.cons (Ua (qp (qa .u64) _ (nl rfl))) (qd.cons (Ua tI) (qd.cons (Ua (qp (qa .u64) _ (nl rfl))) qd.nil))))))
def qR (N:Nat) (l:List Str):Nat->Int->Option (Unit⊕Int)
 |0,_=>none
 |K+1,a=>
  if a<(l.length:Int)then
  (idx l a).bind fun c=>
  (xD N c).bind fun b=>
  if(!decide (b=0))=true then
  some (.inr b)
  else
  qR N l K (w64 (a+1))
  else
  some (.inl ())
def xS (N:Nat) (l:List Str):Option Int:=
 (qR N l N 0).bind (fun
 |(.inl ())=>
 some 0
 |(.inr a)=>
 some a)
theorem qfi (N:Nat) (l:List Str) {res:Int} (h:xS N l=some res):qb ZT (.fn 81) [vl encS l] [] (.i res) []:=by
 unfold xS at h
 refine Ub Tryz.func81 rfl rfl (m:=18) rfl (rs:=[.tmp 2]) rfl (l:=(kBp l [])) rfl ?_
 refine sh fol (kBp l []) ?_
 refine sq ?_
 refine sh fol [(6,vl encS l),(7,.i (l.length:Int)),(8,.i 0)] ?_
 refine Goes.block ?_
 obtain⟨e,g2,h⟩:=bnd h
 refine Goes.imp (Q:=fun x s'=>(x= .exit 0/\(.inl ())=e/\Sub s' (ofG 18 [],[]))\/(x= .ret/\ ∃f,(.inr f)=e/\zV ZT [.tmp 2] (.i f) .ret s')) ?_ ?_
 ·refine Uc (fun M s=> ∃(a:Int),s=(ofG 18 ((6,vl encS l)::(kAh (l.length:Int) a)),[])/\qR N l M a=some e) ?_ (m:=N) ⟨_,rfl,g2⟩
  rintro M s ⟨a,rfl,g2⟩
  cases M with
  |zero=>simp only[qR]at g2;cases g2
  |succ M=>
   rw[qR]at g2
   refine sh fol [(6,vl encS l),(7,.i (l.length:Int)),(8,.i a),(9,.bool (decide (a<(l.length:Int))))] ?_
   refine sq ?_
   refine ihD g2 (fun j g2=>?_) (fun j g2=>?_)
   ·refine Goes.skip ?_
    refine sq (Goes.block ?_)
    obtain⟨g,b,g2⟩:=bnd g2
    refine sq (gr fol [0,1] ((4,.str g)::(6,vl encS l)::(kAh (l.length:Int) a)) (ac (iv sl56 encS b) (ac (lv 0 qgP encS b rfl) az)) ?_)
    obtain⟨c,d,g2⟩:=bnd g2
    refine sq (gr fol [1] ((5,.i c)::(6,vl encS l)::(kAh (l.length:Int) a)) (ac (cv (qaS N g d)) az) ?_)
    refine sh fol ((5,.i c)::(6,vl encS l)::(7,.i (l.length:Int))::(8,.i a)::(kBa (!decide (c=0)))) ?_
    refine ihB g2 (fun k g2=>?_) (fun k g2=>?_)
    ·refine sh fol (kBM c) ?_
     refine Goes.ret ?_
     obtain rfl:=si g2
     exact Or.inr (⟨rfl,_,rfl,(gw2 [.i c] (Ua tI))⟩)
    refine Goes.skip ?_
    refine gh fol ((6,vl encS l)::(kAh (l.length:Int) (w64 (a+1)))) ?_
    exact⟨M,(ofG 18 ((6,vl encS l)::(kAh (l.length:Int) (w64 (a+1)))),[]),Nat.lt_succ_self _,(Sub.refl _),_,rfl,g2⟩
   refine Goes.exit ?_
   obtain rfl:=si g2
   exact Or.inl (⟨rfl,rfl,(Sub.keep [] rfl rfl)⟩)
 rintro x s' (⟨rfl,rfl,hsub⟩|⟨rfl,n,rfl,hret⟩)
 ·try dsimp only at h
  refine Goes.sub hsub ?_
  refine sh fol kB3 ?_
  refine Goes.ret ?_
  obtain rfl:=si h
  exact(gw2 [.i 0] (Ua tI))
 try dsimp only at h
 obtain rfl:=si h
 exact hret
def vz (N:Nat) (a:Str):Option qm:=
 (strings_Cut a [47]).bind fun b=>
 if(!b.2.2)=true then
 (qa8 N b.1).bind fun c=>
 (qa2 c).bind fun d=>
 some d
 else
 (qa8 N b.1).bind fun e=>
 (qa8 N b.2.1).bind fun f=>
 some (⟨e,f⟩:qm)
theorem qaz (N:Nat) (a:Str) {res:qm} (h:vz N a=some res):qb ZT (.fn 82) [.str a] [] (.agg (nq1 res)) []:=by
 unfold vz at h
 refine Ub Tryz.func82 rfl rfl (m:=22) rfl (rs:=[.cell 2 108]) rfl (l:=(kAQ a [])) rfl ?_
 refine sg fol (kAQ a (kAM [])) (kD []) ?_
 obtain⟨b,e,h⟩:=bnd h
 refine sq (gr fol [1] (kAM [(3,.str b.1),(4,.str b.2.1),(5,.bool b.2.2)]) (ac (cv (qei a [47] e)) az) ?_)
 refine sq ?_
 refine sh fol (kAM ((3,.str b.1)::(4,.str b.2.1)::(kBT (!b.2.2)))) ?_
 refine ihB h (fun o h=>?_) (fun o h=>?_)
 ·obtain⟨p,f,h⟩:=bnd h
  obtain⟨k,g,h⟩:=bnd h
  refine sq (gq fol [1,2,3] (kAM []) [.cells (nq1 k)] (ac (cv (qbP N b.1 f)) (ac (cv (qb4 p g)) (ac (hs (.run [0] (qo ZT 108 (.ptr 0 0) (.agg (nq1 k))) (kD []) .undef [.cells (nq1 k)] true) (qH (n:=4) (by kernel_rfl) rfl rfl rfl rfl (cac rfl (cac nvc (cac rfl (cac nvc can)))) rfl)) az))) ?_)
  refine Goes.ret ?_
  obtain rfl:=si h
  exact(gw2 [.agg (nq1 k)] (FzW.agg (qd.cons (Ua tI) (qd.cons (Ua (qp (qa .u64) _ (nl rfl))) (qd.cons (Ua tI) (qd.cons (Ua (qp (qa .u64) _ (nl rfl))) qd.nil))))))
 refine Goes.skip ?_
 obtain⟨c,i,h⟩:=bnd h
 obtain⟨d,j,h⟩:=bnd h
 refine sq (gq fol [1,3,5] (kAM []) [.cells (ni2 c.s c.w d.s d.w)] (ac (cv (qbP N b.1 i)) (ac (cv (qbP N b.2.1 j)) (ac (hs (.run [0] (qo ZT 108 (.ptr 0 0) (.agg (ni2 c.s c.w d.s d.w))) (kD []) .undef [.cells (ni2 c.s c.w d.s d.w)] true) (qH (n:=4) (by kernel_rfl) rfl rfl rfl rfl (cac rfl (cac nvc (cac rfl (cac nvc can)))) rfl)) az))) ?_)
 refine Goes.ret ?_
 obtain rfl:=si h
 exact(gw2 [.agg (ni2 c.s c.w d.s d.w)] (FzW.agg (qd.cons (Ua tI) (qd.cons (Ua (qp (qa .u64) _ (nl rfl))) (qd.cons (Ua tI) (qd.cons (Ua (qp (qa .u64) _ (nl rfl))) qd.nil))))))
def qbe (a:qg):Option Int:=
 (qG a).bind fun b=>
 if(b.2.length:Int)=0 then
 some 0
 else
 (idx b.2 (w64 ((b.2.length:Int)-1))).bind fun c=>
 (bits_Len64 c).bind fun d=>
 some (w64 ((w64 (64*(w64 ((b.2.length:Int)-1))))+d))
theorem qdZ (a:qg) {res:Int} (h:qbe a=some res):qb ZT (.fn 159) [.agg (nz1 a)] [] (.i res) []:=by
 unfold qbe at h
 refine Ub Tryz.func159 rfl rfl (m:=25) rfl (rs:=[.tmp 2]) rfl (l:=[(0,.agg (nz1 a))]) rfl ?_
 refine sg fol (kA2 []) [.cells (nz1 a)] ?_
 obtain⟨c,d,h⟩:=bnd h
 refine sq (gr fol [1] [(4,vl (qa .u64) c.2)] (ac (cv (zM a d)) az) ?_)
 refine sq ?_
 refine sh fol ((4,vl (qa .u64) c.2)::(kBU (decide ((c.2.length:Int)=0)))) ?_
 refine ihD h (fun g h=>?_) (fun g h=>?_)
 ·refine sh fol kB3 ?_
  refine Goes.ret ?_
  obtain rfl:=si h
  exact(gw2 [.i 0] (Ua tI))
 refine Goes.skip ?_
 obtain⟨j,b,h⟩:=bnd h
 obtain⟨f,e,h⟩:=bnd h
 refine sq (gr fol [8,9,10] (kBM (w64 ((w64 (64*(w64 ((c.2.length:Int)-1))))+f))) (ac (iv qL (qa .u64) b) (ac (lv 0 zX (qa .u64) b rfl) (ac (cv (qeY j e)) az))) ?_)
 refine Goes.ret ?_
 obtain rfl:=si h
 exact(gw2 [.i (w64 ((w64 (64*(w64 ((c.2.length:Int)-1))))+f))] (Ua tI))
def jm (N:Nat):Nat->(List Str)->(List Int)->Option (List Str)
 |0,_,_=>none
 |K+1,i,j=>
  if(j.length:Int)>0 then
  (qaY N j ([1000000000000000000]:List Int)).bind fun b=>
  ((if(b.2.length:Int)>0 then
  (idx b.2 0).bind fun c=>
  (qhp c 10).bind fun d=>
  some d
  else
  some [48]:Option Str)).bind fun a=>
  ((if(b.1.length:Int)>0 then
  (qeQ [48] (w64 (18-(a.length:Int)))).bind fun e=>
  (cat e a).bind fun f=>
  some f
  else
  some a:Option Str)).bind fun g=>
  (app 16 i [g]).bind fun h=>
  jm N K h b.1
  else
  some i
def zA (e:List Str):Nat->Bool->(Option (List Int))->Int->Option (Bool×(Option (List Int)))
 |0,_,_,_=>none
 |K+1,ok27,b,a=>
  if a>=0 then
  (idx e a).bind fun c=>
  (bWr ok27 b c).bind fun d=>
  zA e K true (some d) (w64 (a-1))
  else
  some (ok27,b)
def vK (N:Nat) (a:qg):Option Str:=
 if a.w.isEmpty=true then
 (ql8 a.s).bind fun h=>
 some h
 else
 (qG a).bind fun f=>
 (jm N N ([]:List Str) f.2).bind fun g=>
 ((if f.1=true then
 (bWr false (none:Option (List Int)) [45]).bind fun b=>
 some (true,(some b))
 else
 some (false,(none:Option (List Int))):Option (Bool×(Option (List Int))))).bind fun(ok21,c)=>
 (zA g N ok21 c (w64 ((g.length:Int)-1))).bind fun(ok30,d)=>
 (qnd ok30 d).bind fun e=>
 some e
theorem qab (N:Nat) (a:qg) {res:Str} (h:vK N a=some res):qb ZT (.fn 208) [.agg (nz1 a)] [] (.str res) []:=by
 unfold vK at h
 refine Ub Tryz.func208 rfl rfl (m:=69) rfl (rs:=[.tmp 2]) rfl (l:=[(0,.agg (nz1 a))]) rfl ?_
 refine sg fol (kA2 []) [.cells (nz1 a)] ?_
 refine sq ?_
 refine sq (gr fol [2] (kA2 (kBh a.w.isEmpty)) (ac (hs (.done (.opt (kw ZT .eql 104 (.tmp 13) (.const (.slice none 0 0)) (nvl (qa .u64) a.w) .nilslice)) (.bool a.w.isEmpty)) (qaP yC)) az) ?_)
 refine ihB h (fun c1 h=>?_) (fun c1 h=>?_)
 ·obtain⟨r2,J,h⟩:=bnd h
  refine sq (gr fol [2] (kBs r2) (ac (cv (qpg a.s J)) az) ?_)
  refine Goes.ret ?_
  obtain rfl:=si h
  exact(gw2 [.str r2] (Ua tS))
 refine Goes.skip ?_
 obtain⟨d,K,h⟩:=bnd h
 refine sq (gr fol [1] [(3,.bool d.1),(4,vl (qa .u64) d.2)] (ac (cv (zM a K)) az) ?_)
 refine sg fol [(3,.bool d.1),(4,vl (qa .u64) d.2),(5,.slice 1 0 1 1 1)] [.cells (nz1 a),.cells [.int .u64 1000000000000000000]] ?_
 refine sh fol [(3,.bool d.1),(4,vl (qa .u64) d.2),(5,.slice 1 0 1 1 1),(6,.nilslice)] ?_
 refine sq (Goes.block ?_)
 obtain⟨r7,g7,h⟩:=bnd h
 refine Goes.imp (Q:=fun x s'=>(x= .exit 0/\ ∃b,b=r7/\Sub s' (ofG 69 ((3,.bool d.1)::(kAS b [])),(kAY b [])))) ?_ ?_
 ·refine Goes.sub (s':=(ofG 69 [(3,.bool d.1),(4,vl (qa .u64) d.2),(5,vl (qa .u64) ([1000000000000000000]:List Int)),(6,.gslice 0 ([]:List Str).length 1)],[.cells (([]:List Str).flatMap encS.c)])) (Sub.norm [1] [none] rfl rfl (.keep (.same nB) (.keep (.same (qf (qa .u64) _)) (.keep (.frz (Fz.lit rfl rfl (Ud (AllST.cons tI AllST.nil))) (qf (qa .u64) _)) (.keep .nil .nil)))) (.fresh .nil)) ?_
  refine Uc (fun M s=> ∃(g:List Str) (I:List Int),s=(ofG 69 ((3,.bool d.1)::(4,vl (qa .u64) I)::(5,vl (qa .u64) ([1000000000000000000]:List Int))::(kAS g [])),(kAY g []))/\jm N M g I=some r7) ?_ (m:=N) ⟨_,_,rfl,g7⟩
  rintro M s ⟨g,I,rfl,g7⟩
  cases M with
  |zero=>simp only[jm]at g7;cases g7
  |succ M=>
   rw[jm]at g7
   refine sq ?_
   refine sh fol ((3,.bool d.1)::(4,vl (qa .u64) I)::(5,vl (qa .u64) ([1000000000000000000]:List Int))::(kAS g [(26,.bool (decide ((I.length:Int)>0)))])) ?_
   refine ihD g7 (fun c8 g7=>?_) (fun c8 g7=>?_)
   ·refine Goes.skip ?_
    refine Goes.block ?_
    obtain⟨j,L,g7⟩:=bnd g7
    refine sq (gr fol [2] ((3,.bool d.1)::(5,vl (qa .u64) ([1000000000000000000]:List Int))::(kAS g [(7,vl (qa .u64) j.1),(8,vl (qa .u64) j.2)])) (ac (cv (qe2 N I ([1000000000000000000]:List Int) L)) az) ?_)
    refine sh fol ((3,.bool d.1)::(5,vl (qa .u64) ([1000000000000000000]:List Int))::(kAS g [(7,vl (qa .u64) j.1),(8,vl (qa .u64) j.2),(9,.str [48])])) ?_
    refine sq ?_
    refine sh fol ((3,.bool d.1)::(5,vl (qa .u64) ([1000000000000000000]:List Int))::(kAS g [(7,vl (qa .u64) j.1),(8,vl (qa .u64) j.2),(9,.str [48]),(35,.bool (decide ((j.2.length:Int)>0)))])) ?_
    obtain⟨U,g11,g7⟩:=bnd g7
    refine Goes.imp (Q:=fun x s'=>(x= .normal/\ ∃p,p=U/\Sub s' (ofG 69 ((3,.bool d.1)::(5,vl (qa .u64) ([1000000000000000000]:List Int))::(kAS g [(7,vl (qa .u64) j.1),(9,.str p)])),(kAY g [])))) ?_ ?_
    ·refine ihD g11 (fun V g11=>?_) (fun V g11=>?_)
     ·obtain⟨X,r,g11⟩:=bnd g11
      obtain⟨Y,z,g11⟩:=bnd g11
      refine gr fol [1,2,3] ((3,.bool d.1)::(5,vl (qa .u64) ([1000000000000000000]:List Int))::(kAS g [(7,vl (qa .u64) j.1),(9,.str Y)])) (ac (iv qL (qa .u64) r) (ac (lv 0 zX (qa .u64) r rfl) (ac (cv (qnY X 10 z)) az))) ?_
      obtain rfl:=si g11
      exact⟨rfl,_,rfl,(Sub.refl _)⟩
     refine Goes.skip ?_
     obtain rfl:=si g11
     exact⟨rfl,_,rfl,(Sub.keep [3,5,6,7,9] rfl rfl)⟩
    rintro x s' ⟨rfl,p,rfl,hsub⟩
    refine Goes.sub hsub ?_
    refine sq ?_
    refine sh fol ((3,.bool d.1)::(5,vl (qa .u64) ([1000000000000000000]:List Int))::(kAS g [(7,vl (qa .u64) j.1),(9,.str p),(42,.bool (decide ((j.1.length:Int)>0)))])) ?_
    obtain⟨Z,g16,g7⟩:=bnd g7
    refine Goes.imp (Q:=fun x s'=>(x= .normal/\ ∃k,k=Z/\Sub s' (ofG 69 ((3,.bool d.1)::(5,vl (qa .u64) ([1000000000000000000]:List Int))::(kAS g [(7,vl (qa .u64) j.1),(9,.str k)])),(kAY g [])))) ?_ ?_
    ·refine ihD g16 (fun a0 g16=>?_) (fun a0 g16=>?_)
     ·obtain⟨a1,A,g16⟩:=bnd g16
      obtain⟨O,B,g16⟩:=bnd g16
      refine gr fol [3,5] ((3,.bool d.1)::(5,vl (qa .u64) ([1000000000000000000]:List Int))::(kAS g [(7,vl (qa .u64) j.1),(9,.str O)])) (ac (cv (qlo [48] (w64 (18-(p.length:Int))) A)) (ac (hs (.done (.opt (kw ZT .add 9 (.tmp 46) (.tmp 47) (.str a1) (.str p))) (.str O)) (qaR B)) az)) ?_
      obtain rfl:=si g16
      exact⟨rfl,_,rfl,(Sub.refl _)⟩
     refine Goes.skip ?_
     obtain rfl:=si g16
     exact⟨rfl,_,rfl,(Sub.keep [3,5,6,7,9] rfl rfl)⟩
    rintro x s' ⟨rfl,k,rfl,hsub⟩
    refine Goes.sub hsub ?_
    obtain⟨n,C,g7⟩:=bnd g7
    refine sq (gq fol [3] [(3,.bool d.1),(5,vl (qa .u64) ([1000000000000000000]:List Int)),(6,.gslice 2 n.length 1),(7,vl (qa .u64) j.1)] (.dead:: .cells [.str k]::(kAY n [])) (ac (hs (.run [0,1] (qae ZT [244,244] (.gslice 0 g.length 1) (.slice 1 0 1 1 1)) (kAY g [.cells [.str k]]) (.gslice 2 n.length 1) (.dead:: .cells [.str k]::(kAY n [])) true) (qcR qqz (E:=encS) rfl (qhU (E:=encS) (ys:=[k]) rfl rfl rfl rfl) (qi8 (E:=encS) (l:=g) rfl rfl rfl C rfl))) az) ?_)
    refine gh fol [(3,.bool d.1),(4,vl (qa .u64) j.1),(5,vl (qa .u64) ([1000000000000000000]:List Int)),(6,.gslice 2 n.length 1)] ?_
    exact⟨M,(ofG 69 ((3,.bool d.1)::(4,vl (qa .u64) j.1)::(5,vl (qa .u64) ([1000000000000000000]:List Int))::(kAS n [])),(kAY n [])),Nat.lt_succ_self _,(Sub.norm [] [some 2] rfl rfl (.keep (.same nB) (.keep (.same (qf (qa .u64) _)) (.keep (.same (qf (qa .u64) _)) (.keep (.gslice rfl) .nil)))) (.ks .nil)),_,_,rfl,g7⟩
   refine Goes.exit ?_
   obtain rfl:=si g7
   exact⟨rfl,_,rfl,(Sub.keep [3,6] rfl rfl)⟩
 rintro x s' ⟨rfl,b,rfl,hsub⟩
 refine Goes.sub hsub ?_
 refine sg fol ((3,.bool d.1)::(kAS b (kB2 []))) (kAY b [.bld 197 5 [.nilptr,.nilslice]]) ?_
 refine sq ?_
 refine sh fol (kAS b (kB2 [(54,.bool d.1)])) ?_
 obtain⟨a2,g23,h⟩:=bnd h
 refine Goes.imp (Q:=fun x s'=>(x= .normal/\ ∃ok21 u,(ok21,u)=a2/\Sub s' (ofG 69 (kAS b (kB2 [])),(kAY b [.bld 197 5 [pz ok21 1 0,hsl 2 1 u],.cells ((hof u).flatMap (qa .u8).c)])))) ?_ ?_
 ·refine ihB g23 (fun a3 g23=>?_) (fun a3 g23=>?_)
  ·refine Goes.sub (s':=(ofG 69 (kAS b (kB2 [(54,.bool d.1)])),(kAY b [.bld 197 5 [pz false 1 0,.nilslice]]))) (Sub.norm [] [some 0,some 1] rfl rfl (.keep (.gslice rfl) (.kp (.keep (.same nB) .nil))) (.ks (.kb rfl (.bld (rc (je.pz0) (rc (.same (qF.nilslice)) rn))) .nil))) ?_
   refine Goes.sub (s':=(ofG 69 (kAS b (kB2 [(54,.bool d.1)])),(kAY b [.bld 197 5 [pz false 1 0,hsl 2 1 (none:Option (List Int))],.cells ((hof (none:Option (List Int))).flatMap (qa .u8).c)]))) (Sub.norm [] [some 0,some 1,none] rfl rfl (.keep (.gslice rfl) (.kp (.keep (.same nB) .nil))) (.ks (.kb rfl (.bld (rc (je.pz0) (rc .hs0 rn))) (.fresh .nil)))) ?_
   obtain⟨v,D,g23⟩:=bnd g23
   refine gq fol [0] (kAS b (kB2 [])) (kAY b [.bld 197 5 [pz true 1 0,hsl 3 1 (some v)],.dead,.cells ((hof (some v)).flatMap (qa .u8).c)]) (ac (hs (.callH 191 [.ptr 1 0,.str [45]] (kAY b [.bld 197 5 [pz false 1 0,hsl 2 1 (none:Option (List Int))],.cells ((hof (none:Option (List Int))).flatMap (qa .u8).c)]) [1,2] (.tuple [.i (([45].length:Nat):Int),.niliface]) (kAY b [.bld 197 5 [pz true 1 0,hsl 3 1 (some v)],.dead,.cells ((hof (some v)).flatMap (qa .u8).c)])) (qgn [some 1,some 2] [none,some 0,none,some 2] (qpy false (none:Option (List Int)) [45] D) (.kb rfl (.bld (rc (je.pz0) (rc .hs0 rn))) (.ks .nil)) rfl rfl (.old rfl rfl (.back rfl rfl (.bld (rc ((je.pz rfl)) (rc (.hs rfl) rn))) rfl (.dead (.new rfl rfl (.same fa) rfl .nil)))) (rc (.ptr rfl) (rc (.same nS) rn)) (.same (qF.tuple sn)) rfl)) az) ?_
   obtain rfl:=si g23
   exact⟨rfl,_,_,rfl,(Sub.norm [] [some 0,some 1,some 3] rfl rfl (.keep (.gslice rfl) (.kp .nil)) (.ks (.kb rfl (.bld (rc ((je.pz rfl)) (rc (.hs rfl) rn))) (.ks .nil))))⟩
  refine Goes.skip ?_
  obtain rfl:=si g23
  exact⟨rfl,_,_,rfl,(Sub.norm [] [some 0,some 1,none] rfl rfl (.keep (.gslice rfl) (.kp .nil)) (.ks (.kb rfl (.bld (rc (je.pz0) (rc .hs0 rn))) (.fresh .nil))))⟩
 rintro x s' ⟨rfl,ok21,u,rfl,hsub⟩
 try dsimp only at h
 refine Goes.sub hsub ?_
 refine sq ?_
 refine sh fol (kAS b (kB2 [(11,.i (w64 ((b.length:Int)-1)))])) ?_
 refine Goes.block ?_
 obtain⟨P,g32,h⟩:=bnd h
 refine Goes.imp (Q:=fun x s'=>(x= .exit 2/\ ∃ok30 o,(ok30,o)=P/\Sub s' (ofG 69 [(10,.ptr 0 0)],[.bld 197 5 [pz ok30 0 0,hsl 1 1 o],.cells ((hof o).flatMap (qa .u8).c)]))) ?_ ?_
 ·refine Uc (fun M s=> ∃(ok27:Bool) (e:Option (List Int)) (f:Int),s=(ofG 69 (kAS b (kB2 [(11,.i f)])),(kAY b [.bld 197 5 [pz ok27 1 0,hsl 2 1 e],.cells ((hof e).flatMap (qa .u8).c)]))/\zA b M ok27 e f=some P) ?_ (m:=N) ⟨_,_,_,rfl,g32⟩
  rintro M s ⟨ok27,e,f,rfl,g32⟩
  cases M with
  |zero=>simp only[zA]at g32;cases g32
  |succ M=>
   rw[zA]at g32
   refine sq ?_
   refine sh fol (kAS b (kB2 [(11,.i f),(60,.bool (decide (f>=0)))])) ?_
   refine ihD g32 (fun a4 g32=>?_) (fun a4 g32=>?_)
   ·refine Goes.skip ?_
    refine sq (Goes.block ?_)
    obtain⟨y,t,g32⟩:=bnd g32
    obtain⟨q,F,g32⟩:=bnd g32
    refine gq fol [2,3,4] (kAS b (kB2 [(11,.i f)])) (kAY b [.bld 197 5 [pz true 1 0,hsl 3 1 (some q)],.dead,.cells ((hof (some q)).flatMap (qa .u8).c)]) (ac (hs (.done (.opt (qj ZT 244 (.gslice 0 b.length 1) (.i f))) (.ptr 0 ((f:Int).toNat*1+0))) (ix_gs qqz t)) (ac (hs (.run [0] (jh ZT 9 (.ptr 0 ((f:Int).toNat*1+0))) (kAY b [.bld 197 5 [pz ok27 1 0,hsl 2 1 e],.cells ((hof e).flatMap (qa .u8).c)]) (.str y) (kAY b [.bld 197 5 [pz ok27 1 0,hsl 2 1 e],.cells ((hof e).flatMap (qa .u8).c)]) false) (qcI ce9 (E:=encS) (l:=b) rfl rfl t (nl rfl) rfl)) (ac (hs (.callH 191 [.ptr 1 0,.str y] (kAY b [.bld 197 5 [pz ok27 1 0,hsl 2 1 e],.cells ((hof e).flatMap (qa .u8).c)]) [1,2] (.tuple [.i ((y.length:Nat):Int),.niliface]) (kAY b [.bld 197 5 [pz true 1 0,hsl 3 1 (some q)],.dead,.cells ((hof (some q)).flatMap (qa .u8).c)])) (qgn [some 1,some 2] [none,some 0,none,some 2] (qpy ok27 e y F) (.kb rfl (.bld (rc ((je.pz rfl)) (rc (.hs rfl) rn))) (.ks .nil)) rfl rfl (.old rfl rfl (.back rfl rfl (.bld (rc ((je.pz rfl)) (rc (.hs rfl) rn))) rfl (.dead (.new rfl rfl (.same fa) rfl .nil)))) (rc (.ptr rfl) (rc (.same nS) rn)) (.same (qF.tuple sn)) rfl)) az))) ?_
    refine gh fol (kAS b (kB2 [(11,.i (w64 (f-1)))])) ?_
    exact⟨M,(ofG 69 (kAS b (kB2 [(11,.i (w64 (f-1)))])),(kAY b [.bld 197 5 [pz true 1 0,hsl 2 1 (some q)],.cells ((hof (some q)).flatMap (qa .u8).c)])),Nat.lt_succ_self _,(Sub.norm [] [some 0,some 1,some 3] rfl rfl (.keep (.gslice rfl) (.kp (.keep (.same nI) .nil))) (.ks (.kb rfl (.bld (rc ((je.pz rfl)) (rc (.hs rfl) rn))) (.ks .nil)))),_,_,_,rfl,g32⟩
   refine Goes.exit ?_
   obtain rfl:=si g32
   exact⟨rfl,_,_,rfl,(Sub.norm [] [some 1,some 2] rfl rfl (.drop (.kp .nil)) (.kb rfl (.bld (rc ((je.pz rfl)) (rc (.hs rfl) rn))) (.ks .nil)))⟩
 rintro x s' ⟨rfl,ok30,o,rfl,hsub⟩
 try dsimp only at h
 refine Goes.sub hsub ?_
 obtain⟨G,H,h⟩:=bnd h
 refine sq (gq fol [0] (kBs G) [.dead,.dead] (ac (hs (.callH 193 [.ptr 0 0] [.bld 197 5 [pz ok30 0 0,hsl 1 1 o],.cells ((hof o).flatMap (qa .u8).c)] [0,1] (.str G) [.dead,.dead]) (qgn [some 0,some 1] [none,none] (qqo ok30 o H) (.kb rfl (.bld (rc ((je.pz rfl)) (rc (.hs rfl) rn))) (.ks .nil)) rfl rfl (.dead (.dead .nil)) (rc (.ptr rfl) rn) (.same nS) rfl)) az) ?_)
 refine Goes.ret ?_
 obtain rfl:=si h
 exact(gw2 [.str G] (Ua tS))
def qc8 (N:Nat) (n:qg):Option Bool:=
 ((qbe n).bind fun a=>
 if a>1800 then
 (vK N n).bind fun b=>
 (strings_TrimPrefix b [45]).bind fun c=>
 some (decide ((c.length:Int)>600))
 else
 some false:Option Bool).bind fun d=>
 some d
theorem qeA (N:Nat) (n:qg) {res:Bool} (h:qc8 N n=some res):qb ZT (.fn 207) [.agg (nz1 n)] [] (.bool res) []:=by
 unfold qc8 at h
 refine Ub Tryz.func207 rfl rfl (m:=13) rfl (rs:=[.tmp 2]) rfl (l:=[(0,.agg (nz1 n))]) rfl ?_
 refine sg fol (kA2 []) [.cells (nz1 n)] ?_
 refine sq ?_
 obtain⟨f,a,h⟩:=bnd h
 refine Goes.cut (s':=(ofG 13 (kBq f),[.cells (nz1 n)])) ?_ ?_
 ·obtain⟨j,b,a⟩:=bnd a
  rcases wyD a with⟨e,a⟩|⟨e,a⟩
  ·obtain⟨g,c,a⟩:=bnd a
   obtain⟨i,d,a⟩:=bnd a
   obtain rfl:=si a
   exact tr fol [1,3,5,6] (kBq (decide ((i.length:Int)>600))) (ac (cv (qdZ n b)) (ac (gw e) (ac (cv (qab N n c)) (ac (cv (qbq g [45] d)) az))))
  obtain rfl:=si a
  exact tr fol [1,3] kA7 (ac (cv (qdZ n b)) (ac (gw e) az))
 refine Goes.ret ?_
 obtain rfl:=si h
 exact(gw2 [.bool f] (Ua tB))
def qam (N:Nat) (a:qm):Option Bool:=
 ((qc8 N a.Num).bind fun b=>
 if b=true then
 some true
 else
 (qc8 N a.Den).bind fun c=>
 some c:Option Bool).bind fun d=>
 some d
theorem qfG (N:Nat) (a:qm) {res:Bool} (h:qam N a=some res):qb ZT (.fn 151) [.agg (nq1 a)] [] (.bool res) []:=by
 unfold qam at h
 refine Ub Tryz.func151 rfl rfl (m:=11) rfl (rs:=[.tmp 2]) rfl (l:=[(0,.agg (nq1 a))]) rfl ?_
 refine sg fol (kA2 []) [.cells (nq1 a)] ?_
 refine sq ?_
 obtain⟨f,b,h⟩:=bnd h
 refine Goes.cut (s':=(ofG 11 (kBq f),[.cells (nq1 a)])) ?_ ?_
 ·obtain⟨i,c,b⟩:=bnd b
  rcases wyB b with⟨e,b⟩|⟨e,b⟩
  ·obtain rfl:=si b
   exact tr fol [2,3] [(2,.bool true)] (ac (cv (qeA N a.Num c)) (ac (gw e) az))
  obtain⟨g,d,b⟩:=bnd b
  obtain rfl:=si b
  exact tr fol [2,3,6] (kBq g) (ac (cv (qeA N a.Num c)) (ac (gw e) (ac (cv (qeA N a.Den d)) az)))
 refine Goes.ret ?_
 obtain rfl:=si h
 exact(gw2 [.bool f] (Ua tB))
def qaL (N:Nat) (a:qm):Option Str:=
 (jL a).bind fun b=>
 if b=true then
 (vK N a.Num).bind fun c=>
 some c
 else
 (vK N a.Num).bind fun d=>
 (cat d [47]).bind fun e=>
 (vK N a.Den).bind fun f=>
 (cat e f).bind fun g=>
 some g
theorem qgt (N:Nat) (a:qm) {res:Str} (h:qaL N a=some res):qb ZT (.fn 152) [.agg (nq1 a)] [] (.str res) []:=by
 unfold qaL at h
 refine Ub Tryz.func152 rfl rfl (m:=16) rfl (rs:=[.tmp 2]) rfl (l:=[(0,.agg (nq1 a))]) rfl ?_
 refine sg fol (kA2 []) [.cells (nq1 a)] ?_
 refine sq ?_
 obtain⟨n,b,h⟩:=bnd h
 refine sq (gr fol [1] (kA2 (kAl n)) (ac (cv (yZ a b)) az) ?_)
 refine ihB h (fun o h=>?_) (fun o h=>?_)
 ·obtain⟨j,c,h⟩:=bnd h
  refine sq (gr fol [2] (kBs j) (ac (cv (qab N a.Num c)) az) ?_)
  refine Goes.ret ?_
  obtain rfl:=si h
  exact(gw2 [.str j] (Ua tS))
 refine Goes.skip ?_
 obtain⟨p,d,h⟩:=bnd h
 obtain⟨k,e,h⟩:=bnd h
 obtain⟨q,f,h⟩:=bnd h
 obtain⟨i,g,h⟩:=bnd h
 refine sq (gr fol [2,3,6,7] (kBs i) (ac (cv (qab N a.Num d)) (ac (hs (.done (.opt (kw ZT .add 9 (.tmp 10) (.const (.string ⟨#[47]⟩)) (.str p) (.str [47]))) (.str k)) (qaR e)) (ac (cv (qab N a.Den f)) (ac (hs (.done (.opt (kw ZT .add 9 (.tmp 11) (.tmp 14) (.str k) (.str q))) (.str i)) (qaR g)) az)))) ?_)
 refine Goes.ret ?_
 obtain rfl:=si h
 exact(gw2 [.str i] (Ua tS))
def vY (N:Nat) (a:qm):Option (Str×Int):=
 (qam N a).bind fun b=>
 if b=true then
 some ([],4)
 else
 (qaL N a).bind fun c=>
 some (c,0)
theorem qdg (N:Nat) (a:qm) {res:Str×Int} (h:vY N a=some res):qb ZT (.fn 87) [.agg (nq1 a)] [] (.tuple (kA9 res.1 res.2)) []:=by
 unfold vY at h
 refine Ub Tryz.func87 rfl rfl (m:=8) rfl (rs:=[.tmp 2,.tmp 3]) rfl (l:=[(0,.agg (nq1 a))]) rfl ?_
 refine sg fol (kA2 []) [.cells (nq1 a)] ?_
 refine sq ?_
 obtain⟨e,b,h⟩:=bnd h
 refine sq (gr fol [1] (kA2 [(5,.bool e)]) (ac (cv (qfG N a b)) az) ?_)
 refine ihB h (fun f h=>?_) (fun f h=>?_)
 ·refine sh fol [(2,.str []),(3,.i 4)] ?_
  refine Goes.ret ?_
  obtain rfl:=si h
  exact(gw2 [.str [],.i 4] (FzW.tuple (qd.cons (Ua tS) (qd.cons (Ua tI) qd.nil))))
 refine Goes.skip ?_
 obtain⟨d,c,h⟩:=bnd h
 refine sq (gr fol [1] [(2,.str d),(3,.i 0)] (ac (cv (qgt N a c)) az) ?_)
 refine Goes.ret ?_
 obtain rfl:=si h
 exact(gw2 [.str d,.i 0] (FzW.tuple (qd.cons (Ua tS) (qd.cons (Ua tI) qd.nil))))
def qbb (a:qm):Option qm:=
 (zI a.Num).bind fun b=>
 some (⟨b,a.Den⟩:qm)
theorem qgR (a:qm) {res:qm} (h:qbb a=some res):qb ZT (.fn 153) [.agg (nq1 a)] [] (.agg (nq1 res)) []:=by
 unfold qbb at h
 refine Ub Tryz.func153 rfl rfl (m:=9) rfl (rs:=[.cell 2 108]) rfl (l:=[(0,.agg (nq1 a))]) rfl ?_
 refine sg fol (kAH []) (.cells (nq1 a)::(kD [])) ?_
 obtain⟨b,c,h⟩:=bnd h
 refine sq (gq fol [2,6] kBX [.cells (nq1 a),.cells (ni2 b.s b.w a.Den.s a.Den.w)] (ac (cv (vE a.Num c)) (ac (hs (.run [1] (qo ZT 108 (.ptr 1 0) (.agg (ni2 b.s b.w a.Den.s a.Den.w))) (.cells (nq1 a)::(kD [])) .undef [.cells (nq1 a),.cells (ni2 b.s b.w a.Den.s a.Den.w)] true) (qH (n:=4) (by kernel_rfl) rfl rfl rfl rfl (cac rfl (cac nvc (cac rfl (cac nvc can)))) rfl)) az)) ?_)
 refine Goes.ret ?_
 obtain rfl:=si h
 exact(gw2 [.agg (ni2 b.s b.w a.Den.s a.Den.w)] (FzW.agg (qd.cons (Ua tI) (qd.cons (Ua (qp (qa .u64) _ (nl rfl))) (qd.cons (Ua tI) (qd.cons (Ua (qp (qa .u64) _ (nl rfl))) qd.nil))))))
def vT (N:Nat) (a:qm) (b:qm):Option qm:=
 (qbb b).bind fun c=>
 (xJ N a c).bind fun d=>
 some d
theorem qaT (N:Nat) (a:qm) (b:qm) {res:qm} (h:vT N a b=some res):qb ZT (.fn 89) [.agg (nq1 a),.agg (nq1 b)] [] (.agg (nq1 res)) []:=by
 unfold vT at h
 refine Ub Tryz.func89 rfl rfl (m:=9) rfl (rs:=[.cell 4 108]) rfl (l:=[(0,.agg (nq1 a)),(1,.agg (nq1 b))]) rfl ?_
 refine sg fol (kH []) (.cells (nq1 a):: .cells (nq1 b)::(kD [])) ?_
 obtain⟨f,c,h⟩:=bnd h
 obtain⟨e,d,h⟩:=bnd h
 refine sq (gq fol [2,3,4] (kAU []) [.cells (nq1 a),.cells (nq1 b),.cells (nq1 e)] (ac (cv (qgR b c)) (ac (cv (qbZ N a f d)) (ac (hs (.run [2] (qo ZT 108 (.ptr 2 0) (.agg (nq1 e))) (.cells (nq1 a):: .cells (nq1 b)::(kD [])) .undef [.cells (nq1 a),.cells (nq1 b),.cells (nq1 e)] true) (qH (n:=4) (by kernel_rfl) rfl rfl rfl rfl (cac rfl (cac nvc (cac rfl (cac nvc can)))) rfl)) az))) ?_)
 refine Goes.ret ?_
 obtain rfl:=si h
 exact(gw2 [.agg (nq1 e)] (FzW.agg (qd.cons (Ua tI) (qd.cons (Ua (qp (qa .u64) _ (nl rfl))) (qd.cons (Ua tI) (qd.cons (Ua (qp (qa .u64) _ (nl rfl))) qd.nil))))))
def xL (N:Nat) (a:qm) (b:qm):Option qm:=
 (qE N a.Num b.Num).bind fun c=>
 (qE N a.Den b.Den).bind fun d=>
 (qbO N c d).bind fun e=>
 some e
theorem qbW (N:Nat) (a:qm) (b:qm) {res:qm} (h:xL N a b=some res):qb ZT (.fn 102) [.agg (nq1 a),.agg (nq1 b)] [] (.agg (nq1 res)) []:=by
 unfold xL at h
 refine Ub Tryz.func102 rfl rfl (m:=16) rfl (rs:=[.cell 4 108]) rfl (l:=[(0,.agg (nq1 a)),(1,.agg (nq1 b))]) rfl ?_
 refine sg fol (kH []) (.cells (nq1 a):: .cells (nq1 b)::(kD [])) ?_
 obtain⟨g,c,h⟩:=bnd h
 obtain⟨i,d,h⟩:=bnd h
 obtain⟨f,e,h⟩:=bnd h
 refine sq (gq fol [4,9,10,11] (kAU []) [.cells (nq1 a),.cells (nq1 b),.cells (nq1 f)] (ac (cv (zT N a.Num b.Num c)) (ac (cv (zT N a.Den b.Den d)) (ac (cv (qeu N g i e)) (ac (hs (.run [2] (qo ZT 108 (.ptr 2 0) (.agg (nq1 f))) (.cells (nq1 a):: .cells (nq1 b)::(kD [])) .undef [.cells (nq1 a),.cells (nq1 b),.cells (nq1 f)] true) (qH (n:=4) (by kernel_rfl) rfl rfl rfl rfl (cac rfl (cac nvc (cac rfl (cac nvc can)))) rfl)) az)))) ?_)
 refine Goes.ret ?_
 obtain rfl:=si h
 exact(gw2 [.agg (nq1 f)] (FzW.agg (qd.cons (Ua tI) (qd.cons (Ua (qp (qa .u64) _ (nl rfl))) (qd.cons (Ua tI) (qd.cons (Ua (qp (qa .u64) _ (nl rfl))) qd.nil))))))
def qaB (N:Nat) (a:qm):Option qm:=
 (qbO N a.Den a.Num).bind fun b=>
 some b
theorem qdV (N:Nat) (a:qm) {res:qm} (h:qaB N a=some res):qb ZT (.fn 90) [.agg (nq1 a)] [] (.agg (nq1 res)) []:=by
 unfold qaB at h
 refine Ub Tryz.func90 rfl rfl (m:=8) rfl (rs:=[.cell 2 108]) rfl (l:=[(0,.agg (nq1 a))]) rfl ?_
 refine sg fol (kAH []) (.cells (nq1 a)::(kD [])) ?_
 obtain⟨c,b,h⟩:=bnd h
 refine sq (gq fol [4,5] kBX [.cells (nq1 a),.cells (nq1 c)] (ac (cv (qeu N a.Den a.Num b)) (ac (hs (.run [1] (qo ZT 108 (.ptr 1 0) (.agg (nq1 c))) (.cells (nq1 a)::(kD [])) .undef [.cells (nq1 a),.cells (nq1 c)] true) (qH (n:=4) (by kernel_rfl) rfl rfl rfl rfl (cac rfl (cac nvc (cac rfl (cac nvc can)))) rfl)) az)) ?_)
 refine Goes.ret ?_
 obtain rfl:=si h
 exact(gw2 [.agg (nq1 c)] (FzW.agg (qd.cons (Ua tI) (qd.cons (Ua (qp (qa .u64) _ (nl rfl))) (qd.cons (Ua tI) (qd.cons (Ua (qp (qa .u64) _ (nl rfl))) qd.nil))))))
def jQ (N:Nat) (a:qm) (b:qm):Option qm:=
 (qaB N b).bind fun c=>
 (xL N a c).bind fun d=>
 some d
theorem qaU (N:Nat) (a:qm) (b:qm) {res:qm} (h:jQ N a b=some res):qb ZT (.fn 88) [.agg (nq1 a),.agg (nq1 b)] [] (.agg (nq1 res)) []:=by
 unfold jQ at h
 refine Ub Tryz.func88 rfl rfl (m:=9) rfl (rs:=[.cell 4 108]) rfl (l:=[(0,.agg (nq1 a)),(1,.agg (nq1 b))]) rfl ?_
 refine sg fol (kH []) (.cells (nq1 a):: .cells (nq1 b)::(kD [])) ?_
 obtain⟨f,c,h⟩:=bnd h
 obtain⟨e,d,h⟩:=bnd h
 refine sq (gq fol [2,3,4] (kAU []) [.cells (nq1 a),.cells (nq1 b),.cells (nq1 e)] (ac (cv (qdV N b c)) (ac (cv (qbW N a f d)) (ac (hs (.run [2] (qo ZT 108 (.ptr 2 0) (.agg (nq1 e))) (.cells (nq1 a):: .cells (nq1 b)::(kD [])) .undef [.cells (nq1 a),.cells (nq1 b),.cells (nq1 e)] true) (qH (n:=4) (by kernel_rfl) rfl rfl rfl rfl (cac rfl (cac nvc (cac rfl (cac nvc can)))) rfl)) az))) ?_)
 refine Goes.ret ?_
 obtain rfl:=si h
 exact(gw2 [.agg (nq1 e)] (FzW.agg (qd.cons (Ua tI) (qd.cons (Ua (qp (qa .u64) _ (nl rfl))) (qd.cons (Ua tI) (qd.cons (Ua (qp (qa .u64) _ (nl rfl))) qd.nil))))))
def zx (N:Nat) (a:qm) (b:qm):Option Int:=
 (qE N a.Num b.Den).bind fun c=>
 (qE N b.Num a.Den).bind fun d=>
 (qa1 N c d).bind fun e=>
 some e
theorem vO (N:Nat) (a:qm) (b:qm) {res:Int} (h:zx N a b=some res):qb ZT (.fn 83) [.agg (nq1 a),.agg (nq1 b)] [] (.i res) []:=by
 unfold zx at h
 refine Ub Tryz.func83 rfl rfl (m:=16) rfl (rs:=[.tmp 4]) rfl (l:=[(0,.agg (nq1 a)),(1,.agg (nq1 b))]) rfl ?_
 refine sg fol (kR []) [.cells (nq1 a),.cells (nq1 b)] ?_
 obtain⟨g,c,h⟩:=bnd h
 obtain⟨j,d,h⟩:=bnd h
 obtain⟨f,e,h⟩:=bnd h
 refine sq (gr fol [4,9,10] (kB7 f) (ac (cv (zT N a.Num b.Den c)) (ac (cv (zT N b.Num a.Den d)) (ac (cv (qeq N g j e)) az))) ?_)
 refine Goes.ret ?_
 obtain rfl:=si h
 exact(gw2 [.i f] (Ua tI))
def qaN (N:Nat) (a:Str):Option Bool:=
 (vW N a).bind fun b=>
 some (decide (b=(a.length:Int)))
theorem qgf (N:Nat) (a:Str) {res:Bool} (h:qaN N a=some res):qb ZT (.fn 112) [.str a] [] (.bool res) []:=by
 unfold qaN at h
 refine Ub Tryz.func112 rfl rfl (m:=8) rfl (rs:=[.tmp 2]) rfl (l:=(kAQ a [])) rfl ?_
 refine sh fol (kAQ a []) ?_
 obtain⟨c,b,h⟩:=bnd h
 refine sq (gr fol [1] (kBq (decide (c=(a.length:Int)))) (ac (cv (xg N a b)) az) ?_)
 refine Goes.ret ?_
 obtain rfl:=si h
 exact(gw2 [.bool (decide (c=(a.length:Int)))] (Ua tB))
def qak (N:Nat) (a:qC) (b:qC):Option qC:=
 (ja N a.w b.w).bind fun c=>
 (if a.neg=true then
 some (decide ((c.2.length:Int)>0))
 else
 some false:Option Bool).bind fun d=>
 ((if d=true then
 (yF N c.1 ([1]:List Int)).bind fun e=>
 some e
 else
 some c.1:Option (List Int))).bind fun f=>
 (zy N a.neg f).bind fun g=>
 some g
theorem qfU (N:Nat) (a:qC) (b:qC) {res:qC} (h:qak N a b=some res):qb ZT (.fn 115) (kAy a.neg a.w b.neg b.w) [] (.agg (kAr res.neg res.w)) []:=by
 unfold qak at h
 refine Ub Tryz.func115 rfl rfl (m:=29) rfl (rs:=[.cell 4 121]) rfl (l:=(kBr a.neg a.w b.neg b.w)) rfl ?_
 refine sg fol (kH []) (kO a.neg a.w b.neg b.w (kU [])) ?_
 obtain⟨d,e,h⟩:=bnd h
 refine sq (gr fol [4] (kAM (kAU (kBj d.1 [(6,vl encI d.2)]))) (ac (cv (xK N a.w b.w e)) az) ?_)
 refine sq ?_
 refine sq ?_
 obtain⟨p,c,h⟩:=bnd h
 refine Goes.cut (s':=(ofG 29 (kAM (kAU (kBj d.1 [(21,.bool p)]))),(kO a.neg a.w b.neg b.w (kU [])))) ?_ ?_
 ·rcases wyB c with⟨o,c⟩|⟨o,c⟩
  ·obtain rfl:=si c
   exact tr fol [2] (kAM (kAU (kBj d.1 [(21,.bool (decide ((d.2.length:Int)>0)))]))) (ac (gw o) az)
  obtain rfl:=si c
  exact tr fol [2] (kAM (kAU (kBj d.1 [(21,.bool false)]))) (ac (gw o) az)
 obtain⟨q,g6,h⟩:=bnd h
 refine Goes.imp (Q:=fun x s'=>(x= .normal/\ ∃j,j=q/\Sub s' (ofG 29 (kAM (kBm (kBj j []))),(kAW a.neg a.w (kU []))))) ?_ ?_
 ·refine ihB g6 (fun r g6=>?_) (fun r g6=>?_)
  ·obtain⟨k,f,g6⟩:=bnd g6
   refine gq fol [2] (kAM (kAU (kBj k []))) (kO a.neg a.w b.neg b.w (kU [.frozen [.i 1]])) (ac (hs (.callF 171 [vl encI d.1,.slice 3 0 1 1 1] (kO a.neg a.w b.neg b.w (kU [.cells [.i 1]])) [3] (kBg d.1 ([1]:List Int)) (vl encI k)) (qaK (FzL.cons (Fz.still (qz encI _ (nl rfl))) (FzL.cons (Fz.lit rfl rfl (Ud (AllST.cons tI AllST.nil))) FzL.nil)) (qcn N d.1 ([1]:List Int) f) (qz encI _ (nl rfl)))) az) ?_
   obtain rfl:=si g6
   exact⟨rfl,_,rfl,((show Sub (ofG 29 (kAM (kAU (kBj k []))),(kO a.neg a.w b.neg b.w (kU [.frozen [.i 1]]))) (ofG 29 (kAM (kBm (kBj k []))),(kAW a.neg a.w (kU [])))from(Sub.norm [] [some 0,some 2] rfl rfl (.kp (.kp (.keep (.same (qf encI _)) .nil))) (.kb rfl (.same sn) (.kb rfl (.same sn) .nil)))).trans (Sub.refl _))⟩
  refine Goes.skip ?_
  obtain rfl:=si g6
  exact⟨rfl,_,rfl,(Sub.norm [] [some 0,some 2] rfl rfl (.kp (.kp (.keep (.same (qf encI _)) .nil))) (.kb rfl (.same sn) (.kb rfl (.same sn) .nil)))⟩
 rintro x s' ⟨rfl,j,rfl,hsub⟩
 refine Goes.sub hsub ?_
 obtain⟨n,g,h⟩:=bnd h
 refine sq (gq fol [3] (kBm []) (kO a.neg a.w n.neg n.w []) (ac (cv (zL N a.neg j g)) az) ?_)
 refine Goes.ret ?_
 obtain rfl:=si h
 exact(gw2 [.agg (kAr n.neg n.w)] (FzW.agg (qd.cons (Ua tB) (qd.cons (Ua (qz encI _ (nl rfl))) qd.nil))))
end Go.Av
