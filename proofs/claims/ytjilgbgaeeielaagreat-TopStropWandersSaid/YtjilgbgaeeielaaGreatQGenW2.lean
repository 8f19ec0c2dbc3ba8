/-
  Walks of functions: what each computes, as a plain function.
-/
import Derived.Test.YtjilgbgaeeielaaGreatQGenW1
noncomputable section
namespace Go.Av
open Go.Proofs Go.RowKit
set_option linter.unusedSectionVars false
set_option linter.unusedVariables false
set_option linter.unusedSimpArgs false
set_option maxRecDepth 100000
def yU (b:List Int) (c:Str) (d:Int) (a:Int):Option Int:=
 some (w64 (0-a))
theorem qcw (d:List Int) (b:Str) (c:Int) (a:Int) {e:Int} (h:yU d b c a=some e):qf ZT (.fn 116) (kAL d b c a) [] (.slice 0 0 2 2 1) (kT a e):=by
 unfold yU at h
 refine Un Tryz.func116 rfl rfl (m:=11) rfl (rs:=[.tmp 4]) rfl (l:=(kQ d [(1,.agg [.str b,.i c,.i a])])) rfl ?_
 intro B hB
 refine sg fol [(3,.ptr 0 0)] (kD b c a []) ?_
 refine sg fol [(4,.slice 1 0 2 2 1)] (kD b c a (kT a (w64 (0-a)))) ?_
 refine Goes.ret ?_
 obtain rfl:=si h
 exact(gh2 [.slice 1 0 2 2 1] (Sub.norm [] [some 1] (by rw[hB];rfl) rfl (.keep (.slice rfl) .nil) (.kb rfl (.same sn) .nil)))
def yS (a:List Int) (b:Str) (c:Int) (d:Int):Option Unit:=
 some ()
theorem qcI (d:List Int) (a:Str) (b:Int) (c:Int) (h:yS d a b c=some ()):qf ZT (.fn 118) (kAL d a b c) [] (.nilslice) []:=by
 unfold yS at h
 refine Un Tryz.func118 rfl rfl (m:=5) rfl (rs:=[.tmp 4]) rfl (l:=(kQ d [(1,.agg [.str a,.i b,.i c])])) rfl ?_
 intro B hB
 refine sg fol [] (kD a b c []) ?_
 refine sh fol [(4,.nilslice)] ?_
 refine Goes.ret ?_
 exact(gh2 [.nilslice] (Sub.norm [] [] (by rw[hB];rfl) rfl (.keep (.same (qy.nilslice)) .nil) .nil))
def yR (a:List Int) (b:Str) (c:Int) (d:Int):Option (Int×Int):=
 (idx a 1).bind fun e=>
 (idx a 0).bind fun f=>
 some (e,f)
theorem qcM (d:List Int) (a:Str) (b:Int) (c:Int) {g:Int} {j:Int} (h:yR d a b c=some (g,j)):qf ZT (.fn 120) (kAL d a b c) [] (.slice 0 0 2 2 1) (kT g j):=by
 unfold yR at h
 refine Un Tryz.func120 rfl rfl (m:=12) rfl (rs:=[.tmp 4]) rfl (l:=(kQ d [(1,.agg [.str a,.i b,.i c])])) rfl ?_
 intro B hB
 refine sg fol (kQ d []) (kD a b c []) ?_
 obtain⟨k,e,h⟩:=bnd h
 obtain⟨n,f,h⟩:=bnd h
 refine sq (gq fol [1,2,4,5] [(4,.slice 1 0 2 2 1)] (kD a b c (kT k n)) (ac (iv ja encI e) (ac (lv 0 ce3 encI e rfl) (ac (iv ja encI f) (ac (lv 0 ce3 encI f rfl) az)))) ?_)
 refine Goes.ret ?_
 simp only[ZI,ZP]at h
 obtain⟨rfl,rfl⟩:=h
 exact(gh2 [.slice 1 0 2 2 1] (Sub.norm [] [some 1] (by rw[hB];rfl) rfl (.keep (.slice rfl) .nil) (.kb rfl (.same sn) .nil)))
def yH (a:List Int) (g:Str) (h:Int) (i:Int):Option (List Int):=
 (idx a 0).bind fun c=>
 (idx a 1).bind fun b=>
 (idx a 2).bind fun f=>
 (zS c).bind fun j=>
 (zS b).bind fun k=>
 if j=k then
 (zS f).bind fun l=>
 (jk b).bind fun m=>
 some ([w64 (l*m),c,b]:List Int)
 else
 (zS c).bind fun d=>
 (jk b).bind fun e=>
 some ([b,f,w64 (d*e)]:List Int)
theorem qdr (d:List Int) (a:Str) (b:Int) (c:Int) {w:List Int} (h:yH d a b c=some w):qf ZT (.fn 122) (kAL d a b c) [] (vl encI w) []:=by
 unfold yH at h
 refine Un Tryz.func122 rfl rfl (m:=38) rfl (rs:=[.tmp 4]) rfl (l:=(kQ d [(1,.agg [.str a,.i b,.i c])])) rfl ?_
 intro B hB
 refine sg fol (kQ d []) (kD a b c []) ?_
 obtain⟨o,e,h⟩:=bnd h
 obtain⟨j,f,h⟩:=bnd h
 obtain⟨t,g,h⟩:=bnd h
 refine sq (gr fol [1,2,4,5,7,8] ((5,.i o)::(kAf j t [])) (ac (iv ja encI e) (ac (lv 0 ce3 encI e rfl) (ac (iv ja encI f) (ac (lv 0 ce3 encI f rfl) (ac (iv ja encI g) (ac (lv 0 ce3 encI g rfl) az)))))) ?_)
 refine sq ?_
 obtain⟨x,p,h⟩:=bnd h
 obtain⟨y,q,h⟩:=bnd h
 refine sq (gr fol [1,3] ((5,.i o)::(kAf j t [(21,.bool (decide (x=y)))])) (ac (cv (zK o p)) (ac (cv (zK j q)) az)) ?_)
 refine ihD h (fun z h=>?_) (fun z h=>?_)
 ·obtain⟨A,r,h⟩:=bnd h
  obtain⟨C,s,h⟩:=bnd h
  refine sq (gq fol [1,3] [(4,.slice 1 0 3 3 1)] (kD a b c [.cells [.i (w64 (A*C)),.i o,.i j]]) (ac (cv (zK t r)) (ac (cv (qA j s)) az)) ?_)
  refine Goes.ret ?_
  obtain rfl:=si h
  exact(gh2 [.slice 1 0 3 3 1] (Sub.norm [1] [] (by rw[hB];rfl) rfl (.keep (.frz (Fz.lit rfl rfl (Uc (AllST.cons tI (AllST.cons tI (AllST.cons tI AllST.nil))))) (qj encI _)) .nil) .nil))
 refine Goes.skip ?_
 obtain⟨u,k,h⟩:=bnd h
 obtain⟨v,n,h⟩:=bnd h
 refine sq (gq fol [3,5] [(4,.slice 1 0 3 3 1)] (kD a b c [.cells [.i j,.i t,.i (w64 (u*v))]]) (ac (cv (zK o k)) (ac (cv (qA j n)) az)) ?_)
 refine Goes.ret ?_
 obtain rfl:=si h
 exact(gh2 [.slice 1 0 3 3 1] (Sub.norm [1] [] (by rw[hB];rfl) rfl (.keep (.frz (Fz.lit rfl rfl (Uc (AllST.cons tI (AllST.cons tI (AllST.cons tI AllST.nil))))) (qj encI _)) .nil) .nil))
def zJ (N:Nat) (n:Int) (w:List Int) (m:zw):Option ((List Int)×Int):=
 (yw).bind fun r1=>
 if(m.Kind==[105,110,115,101,114,116])=true then
 ((qb false 13).bind fun p=>
 if(!(m.Kind==[105,110,115,101,114,116]))=true then
 (qb (!decide (m.Letter=0)) 1).bind fun L=>
 if(m.Kind==[105,110,115,101,114,116])=true then
 (qR n m.Letter).bind fun i5=>
 (qb i5 3).bind fun D=>
 if m.At<0 then
 (qb true 3).bind fun b8=>
 (qh N ([p,L,D,b8]:List Int)).bind fun i6=>
 some (p,L,D,b8,i6)
 else
 (qb (decide (m.At>(w64 ((w.length:Int)-0)))) 3).bind fun b9=>
 (qh N ([p,L,D,b9]:List Int)).bind fun i7=>
 some (p,L,D,b9,i7)
 else
 (qb false 3).bind fun E=>
 if m.At<0 then
 (qb true 3).bind fun c0=>
 (qh N ([p,L,E,c0]:List Int)).bind fun i8=>
 some (p,L,E,c0,i8)
 else
 (qb (decide (m.At>(w64 ((w.length:Int)-0)))) 3).bind fun c1=>
 (qh N ([p,L,E,c1]:List Int)).bind fun i9=>
 some (p,L,E,c1,i9)
 else
 (qb false 1).bind fun k=>
 if(m.Kind==[105,110,115,101,114,116])=true then
 (qR n m.Letter).bind fun j0=>
 (qb j0 3).bind fun F=>
 if m.At<0 then
 (qb true 3).bind fun c2=>
 (qh N ([p,k,F,c2]:List Int)).bind fun j1=>
 some (p,k,F,c2,j1)
 else
 (qb (decide (m.At>(w64 ((w.length:Int)-0)))) 3).bind fun c3=>
 (qh N ([p,k,F,c3]:List Int)).bind fun j2=>
 some (p,k,F,c3,j2)
 else
 (qb false 3).bind fun G=>
 if m.At<0 then
 (qb true 3).bind fun c4=>
 (qh N ([p,k,G,c4]:List Int)).bind fun j3=>
 some (p,k,G,c4,j3)
 else
 (qb (decide (m.At>(w64 ((w.length:Int)-0)))) 3).bind fun c5=>
 (qh N ([p,k,G,c5]:List Int)).bind fun j4=>
 some (p,k,G,c5,j4):Option (Int×Int×Int×Int×Int)).bind fun(m5,m6,m7,m8,c6)=>
 if(!decide (c6=0))=true then
 some ([],c6)
 else
 (cut w m.At (w64 (m.At+0))).bind fun c7=>
 (qae c7).bind fun j7=>
 if(!j7)=true then
 some ([],18)
 else
 (qbZ w).bind fun _=>
 (yU c7 m.Kind m.At m.Letter).bind fun j8=>
 (qeB w m.At (w64 (m.At+0)) m.Letter j8).bind fun j9=>
 some (j9,0)
 else
 if(m.Kind==[99,97,110,99,101,108])=true then
 ((qb false 13).bind fun c=>
 if(!(m.Kind==[105,110,115,101,114,116]))=true then
 (qb (!decide (m.Letter=0)) 1).bind fun l=>
 if(m.Kind==[105,110,115,101,114,116])=true then
 (qR n m.Letter).bind fun k0=>
 (qb k0 3).bind fun H=>
 if m.At<0 then
 (qb true 3).bind fun c8=>
 (qh N ([c,l,H,c8]:List Int)).bind fun k1=>
 some (c,l,H,c8,k1)
 else
 (qb (decide (m.At>(w64 ((w.length:Int)-2)))) 3).bind fun c9=>
 (qh N ([c,l,H,c9]:List Int)).bind fun k2=>
 some (c,l,H,c9,k2)
 else
 (qb false 3).bind fun I=>
 if m.At<0 then
 (qb true 3).bind fun d0=>
 (qh N ([c,l,I,d0]:List Int)).bind fun k3=>
 some (c,l,I,d0,k3)
 else
 (qb (decide (m.At>(w64 ((w.length:Int)-2)))) 3).bind fun d1=>
 (qh N ([c,l,I,d1]:List Int)).bind fun k4=>
 some (c,l,I,d1,k4)
 else
 (qb false 1).bind fun o=>
 if(m.Kind==[105,110,115,101,114,116])=true then
 (qR n m.Letter).bind fun k5=>
 (qb k5 3).bind fun J=>
 if m.At<0 then
 (qb true 3).bind fun d2=>
 (qh N ([c,o,J,d2]:List Int)).bind fun k6=>
 some (c,o,J,d2,k6)
 else
 (qb (decide (m.At>(w64 ((w.length:Int)-2)))) 3).bind fun d3=>
 (qh N ([c,o,J,d3]:List Int)).bind fun k7=>
 some (c,o,J,d3,k7)
 else
 (qb false 3).bind fun K=>
 if m.At<0 then
 (qb true 3).bind fun d4=>
 (qh N ([c,o,K,d4]:List Int)).bind fun k8=>
 some (c,o,K,d4,k8)
 else
 (qb (decide (m.At>(w64 ((w.length:Int)-2)))) 3).bind fun d5=>
 (qh N ([c,o,K,d5]:List Int)).bind fun k9=>
 some (c,o,K,d5,k9):Option (Int×Int×Int×Int×Int)).bind fun(m9,n0,n1,n2,d6)=>
 if(!decide (d6=0))=true then
 some ([],d6)
 else
 (cut w m.At (w64 (m.At+2))).bind fun d7=>
 (qaf d7).bind fun l0=>
 if(!l0)=true then
 some ([],18)
 else
 (qbZ w).bind fun _=>
 (yS d7 m.Kind m.At m.Letter).bind fun _=>
 (qg9 w m.At (w64 (m.At+2))).bind fun l1=>
 some (l1,0)
 else
 if(m.Kind==[115,119,97,112])=true then
 ((qb false 13).bind fun d=>
 if(!(m.Kind==[105,110,115,101,114,116]))=true then
 (qb (!decide (m.Letter=0)) 1).bind fun e=>
 if(m.Kind==[105,110,115,101,114,116])=true then
 (qR n m.Letter).bind fun d8=>
 (qb d8 3).bind fun q=>
 if m.At<0 then
 (qb true 3).bind fun M=>
 (qh N ([d,e,q,M]:List Int)).bind fun d9=>
 some (d,e,q,M,d9)
 else
 (qb (decide (m.At>(w64 ((w.length:Int)-2)))) 3).bind fun O=>
 (qh N ([d,e,q,O]:List Int)).bind fun e0=>
 some (d,e,q,O,e0)
 else
 (qb false 3).bind fun r=>
 if m.At<0 then
 (qb true 3).bind fun P=>
 (qh N ([d,e,r,P]:List Int)).bind fun e1=>
 some (d,e,r,P,e1)
 else
 (qb (decide (m.At>(w64 ((w.length:Int)-2)))) 3).bind fun Q=>
 (qh N ([d,e,r,Q]:List Int)).bind fun e2=>
 some (d,e,r,Q,e2)
 else
 (qb false 1).bind fun f=>
 if(m.Kind==[105,110,115,101,114,116])=true then
 (qR n m.Letter).bind fun e3=>
 (qb e3 3).bind fun s=>
 if m.At<0 then
 (qb true 3).bind fun T=>
 (qh N ([d,f,s,T]:List Int)).bind fun e4=>
 some (d,f,s,T,e4)
 else
 (qb (decide (m.At>(w64 ((w.length:Int)-2)))) 3).bind fun U=>
 (qh N ([d,f,s,U]:List Int)).bind fun e5=>
 some (d,f,s,U,e5)
 else
 (qb false 3).bind fun t=>
 if m.At<0 then
 (qb true 3).bind fun V=>
 (qh N ([d,f,t,V]:List Int)).bind fun e6=>
 some (d,f,t,V,e6)
 else
 (qb (decide (m.At>(w64 ((w.length:Int)-2)))) 3).bind fun W=>
 (qh N ([d,f,t,W]:List Int)).bind fun e7=>
 some (d,f,t,W,e7):Option (Int×Int×Int×Int×Int)).bind fun(l2,l3,l4,l5,X)=>
 if(!decide (X=0))=true then
 some ([],X)
 else
 (cut w m.At (w64 (m.At+2))).bind fun Y=>
 (y9 Y).bind fun e8=>
 if(!e8)=true then
 some ([],18)
 else
 (qbZ w).bind fun _=>
 (yR Y m.Kind m.At m.Letter).bind fun(e9,f0)=>
 (qeB w m.At (w64 (m.At+2)) e9 f0).bind fun f1=>
 some (f1,0)
 else
 if(m.Kind==[116,117,114,110])=true then
 ((qb false 13).bind fun a=>
 if(!(m.Kind==[105,110,115,101,114,116]))=true then
 (qb (!decide (m.Letter=0)) 1).bind fun g=>
 if(m.Kind==[105,110,115,101,114,116])=true then
 (qR n m.Letter).bind fun f2=>
 (qb f2 3).bind fun u=>
 if m.At<0 then
 (qb true 3).bind fun Z=>
 (qh N ([a,g,u,Z]:List Int)).bind fun f3=>
 some (a,g,u,Z,f3)
 else
 (qb (decide (m.At>(w64 ((w.length:Int)-3)))) 3).bind fun a0=>
 (qh N ([a,g,u,a0]:List Int)).bind fun f4=>
 some (a,g,u,a0,f4)
 else
 (qb false 3).bind fun v=>
 if m.At<0 then
 (qb true 3).bind fun a1=>
 (qh N ([a,g,v,a1]:List Int)).bind fun f5=>
 some (a,g,v,a1,f5)
 else
 (qb (decide (m.At>(w64 ((w.length:Int)-3)))) 3).bind fun a2=>
 (qh N ([a,g,v,a2]:List Int)).bind fun f6=>
 some (a,g,v,a2,f6)
 else
 (qb false 1).bind fun h=>
 if(m.Kind==[105,110,115,101,114,116])=true then
 (qR n m.Letter).bind fun f7=>
 (qb f7 3).bind fun x=>
 if m.At<0 then
 (qb true 3).bind fun a3=>
 (qh N ([a,h,x,a3]:List Int)).bind fun f8=>
 some (a,h,x,a3,f8)
 else
 (qb (decide (m.At>(w64 ((w.length:Int)-3)))) 3).bind fun a4=>
 (qh N ([a,h,x,a4]:List Int)).bind fun f9=>
 some (a,h,x,a4,f9)
 else
 (qb false 3).bind fun y=>
 if m.At<0 then
 (qb true 3).bind fun a5=>
 (qh N ([a,h,y,a5]:List Int)).bind fun h0=>
 some (a,h,y,a5,h0)
 else
 (qb (decide (m.At>(w64 ((w.length:Int)-3)))) 3).bind fun a6=>
 (qh N ([a,h,y,a6]:List Int)).bind fun h1=>
 some (a,h,y,a6,h1):Option (Int×Int×Int×Int×Int)).bind fun(l6,l7,l8,l9,a7)=>
 if(!decide (a7=0))=true then
 some ([],a7)
 else
 (cut w m.At (w64 (m.At+3))).bind fun a8=>
 (qaB a8).bind fun h2=>
 if(!h2)=true then
 some ([],18)
 else
 (qbZ w).bind fun _=>
 (yH a8 m.Kind m.At m.Letter).bind fun h3=>
 (qih w m.At (w64 (m.At+3)) h3).bind fun h4=>
 some (h4,0)
 else
 ((qb true 13).bind fun b=>
 if(!(m.Kind==[105,110,115,101,114,116]))=true then
 (qb (!decide (m.Letter=0)) 1).bind fun i=>
 if(m.Kind==[105,110,115,101,114,116])=true then
 (qR n m.Letter).bind fun h5=>
 (qb h5 3).bind fun z=>
 if m.At<0 then
 (qb true 3).bind fun a9=>
 (qh N ([b,i,z,a9]:List Int)).bind fun h6=>
 some (b,i,z,a9,h6)
 else
 (qb (decide (m.At>(w64 ((w.length:Int)-0)))) 3).bind fun b0=>
 (qh N ([b,i,z,b0]:List Int)).bind fun h7=>
 some (b,i,z,b0,h7)
 else
 (qb false 3).bind fun A=>
 if m.At<0 then
 (qb true 3).bind fun b1=>
 (qh N ([b,i,A,b1]:List Int)).bind fun h8=>
 some (b,i,A,b1,h8)
 else
 (qb (decide (m.At>(w64 ((w.length:Int)-0)))) 3).bind fun b2=>
 (qh N ([b,i,A,b2]:List Int)).bind fun h9=>
 some (b,i,A,b2,h9)
 else
 (qb false 1).bind fun j=>
 if(m.Kind==[105,110,115,101,114,116])=true then
 (qR n m.Letter).bind fun i0=>
 (qb i0 3).bind fun B=>
 if m.At<0 then
 (qb true 3).bind fun b3=>
 (qh N ([b,j,B,b3]:List Int)).bind fun i1=>
 some (b,j,B,b3,i1)
 else
 (qb (decide (m.At>(w64 ((w.length:Int)-0)))) 3).bind fun b4=>
 (qh N ([b,j,B,b4]:List Int)).bind fun i2=>
 some (b,j,B,b4,i2)
 else
 (qb false 3).bind fun C=>
 if m.At<0 then
 (qb true 3).bind fun b5=>
 (qh N ([b,j,C,b5]:List Int)).bind fun i3=>
 some (b,j,C,b5,i3)
 else
 (qb (decide (m.At>(w64 ((w.length:Int)-0)))) 3).bind fun b6=>
 (qh N ([b,j,C,b6]:List Int)).bind fun i4=>
 some (b,j,C,b6,i4):Option (Int×Int×Int×Int×Int)).bind fun(m0,m1,m2,m3,b7)=>
 if(!decide (b7=0))=true then
 some ([],b7)
 else
 (cut w m.At (w64 (m.At+0))).bind fun m4=>
 none
theorem qe3 (N:Nat) (n:Int) (w:List Int) (m:zw) {res:(List Int)×Int} (h:zJ N n w m=some res):qf ZT (.fn 58) (.i n::(kAL w m.Kind m.At m.Letter)) [] (.tuple (kAU res.1 res.2)) []:=by
 unfold zJ at h
 refine Ub Tryz.func58 rfl rfl (m:=90) rfl (rs:=[.tmp 6,.tmp 7]) rfl (l:=(kG n w [(2,.agg [.str m.Kind,.i m.At,.i m.Letter])])) rfl ?_
 refine sg fol (kG n w [(5,.ptr 0 0)]) (kD m.Kind m.At m.Letter []) ?_
 refine sq ?_
 obtain⟨r1,b7,h⟩:=bnd h
 rcases wyB h with⟨c2,h⟩|⟨c2,h⟩
 ·refine gq fol [0,3] ((0,.i n)::(kC w [(9,.bool true)])) (kD m.Kind m.At m.Letter [.cells [.i 0,.func (.func 115) [] [],.func (.func 116) [] []]]) (ac (cv (xg b7)) (ac (hs (.done (vG ZT 145 (fm1) (.str m.Kind) true) (.tuple [.agg [.i 0,.func (.func 115) [] [],.func (.func 116) [] []],.bool true])) (qgE qhy [[105,110,115,101,114,116],[99,97,110,99,101,108],[115,119,97,112],[116,117,114,110]] (qc7 c2) rfl)) az)) ?_
  refine sh fol ((0,.i n)::(kC w [(9,.bool true),(10,.bool (m.Kind==[105,110,115,101,114,116]))])) ?_
  refine sq ?_
  refine sq ?_
  obtain⟨⟨b8,b9,c0,c1,n42⟩,d,h⟩:=bnd h
  refine Goes.cut (s':=(ofG 90 (kC w (kAA n42)),(kD m.Kind m.At m.Letter (.cells [.i 0,.func (.func 115) [] [],.func (.func 116) [] []]::(kE b8 b9 c0 c1 []))))) ?_ ?_
  ·obtain⟨C,H,d⟩:=bnd d
   rcases wyB d with⟨c7,d⟩|⟨c7,d⟩
   ·obtain⟨r8,e_r8,d⟩:=bnd d
    rcases wyB d with⟨c9,d⟩|⟨c9,d⟩
    ·obtain⟨r10,e_r10,d⟩:=bnd d
     obtain⟨c6,e_r11,d⟩:=bnd d
     rcases wyD d with⟨c12,d⟩|⟨c12,d⟩
     ·obtain⟨r13,e_r13,d⟩:=bnd d
      obtain⟨r14,e_r14,d⟩:=bnd d
      simp only[ZI,ZP]at d
      obtain⟨rfl,rfl,rfl,rfl,rfl⟩:=d
      exact qG.rq fol [2,5,10,12,16,18,22,32,34] (kC w (kAA r14)) (kD m.Kind m.At m.Letter (.cells [.i 0,.func (.func 115) [] [],.func (.func 116) [] []]::(kE C r8 c6 r13 []))) (ac (cv (qa false 13 H)) (ac (gw c7) (ac (cv (qa (!decide (m.Letter=0)) 1 e_r8)) (ac (gw c9) (ac (cv (qw n m.Letter e_r10)) (ac (cv (qa r10 3 e_r11)) (ac (gw c12) (ac (cv (qa true 3 e_r13)) (ac (hs (.call 33 [.slice 2 0 4 4 1] (kD m.Kind m.At m.Letter (.cells [.i 0,.func (.func 115) [] [],.func (.func 116) [] []]::(kE C r8 c6 r13 []))) [2] [vl encI ([C,r8,c6,r13]:List Int)] (.i r14)) (qM (FzL.cons (Fz.lit rfl rfl (Uc (AllST.cons tI (AllST.cons tI (AllST.cons tI (AllST.cons tI AllST.nil)))))) FzL.nil) (qg N ([C,r8,c6,r13]:List Int) e_r14) tI rfl)) az)))))))))
     obtain⟨r15,e_r15,d⟩:=bnd d
     obtain⟨r16,e_r16,d⟩:=bnd d
     simp only[ZI,ZP]at d
     obtain⟨rfl,rfl,rfl,rfl,rfl⟩:=d
     exact qG.rq fol [2,5,10,12,16,18,22,32,34] (kC w (kAA r16)) (kD m.Kind m.At m.Letter (.cells [.i 0,.func (.func 115) [] [],.func (.func 116) [] []]::(kE C r8 c6 r15 []))) (ac (cv (qa false 13 H)) (ac (gw c7) (ac (cv (qa (!decide (m.Letter=0)) 1 e_r8)) (ac (gw c9) (ac (cv (qw n m.Letter e_r10)) (ac (cv (qa r10 3 e_r11)) (ac (gw c12) (ac (cv (qa (decide (m.At>(w64 ((w.length:Int)-0)))) 3 e_r15)) (ac (hs (.call 33 [.slice 2 0 4 4 1] (kD m.Kind m.At m.Letter (.cells [.i 0,.func (.func 115) [] [],.func (.func 116) [] []]::(kE C r8 c6 r15 []))) [2] [vl encI ([C,r8,c6,r15]:List Int)] (.i r16)) (qM (FzL.cons (Fz.lit rfl rfl (Uc (AllST.cons tI (AllST.cons tI (AllST.cons tI (AllST.cons tI AllST.nil)))))) FzL.nil) (qg N ([C,r8,c6,r15]:List Int) e_r16) tI rfl)) az)))))))))
    obtain⟨c8,e_r17,d⟩:=bnd d
    rcases wyD d with⟨c18,d⟩|⟨c18,d⟩
    ·obtain⟨r19,e_r19,d⟩:=bnd d
     obtain⟨r20,e_r20,d⟩:=bnd d
     simp only[ZI,ZP]at d
     obtain⟨rfl,rfl,rfl,rfl,rfl⟩:=d
     exact qG.rq fol [2,5,10,12,18,22,32,34] (kC w (kAA r20)) (kD m.Kind m.At m.Letter (.cells [.i 0,.func (.func 115) [] [],.func (.func 116) [] []]::(kE C r8 c8 r19 []))) (ac (cv (qa false 13 H)) (ac (gw c7) (ac (cv (qa (!decide (m.Letter=0)) 1 e_r8)) (ac (gw c9) (ac (cv (qa false 3 e_r17)) (ac (gw c18) (ac (cv (qa true 3 e_r19)) (ac (hs (.call 33 [.slice 2 0 4 4 1] (kD m.Kind m.At m.Letter (.cells [.i 0,.func (.func 115) [] [],.func (.func 116) [] []]::(kE C r8 c8 r19 []))) [2] [vl encI ([C,r8,c8,r19]:List Int)] (.i r20)) (qM (FzL.cons (Fz.lit rfl rfl (Uc (AllST.cons tI (AllST.cons tI (AllST.cons tI (AllST.cons tI AllST.nil)))))) FzL.nil) (qg N ([C,r8,c8,r19]:List Int) e_r20) tI rfl)) az))))))))
    obtain⟨r21,e_r21,d⟩:=bnd d
    obtain⟨r22,e_r22,d⟩:=bnd d
    simp only[ZI,ZP]at d
    obtain⟨rfl,rfl,rfl,rfl,rfl⟩:=d
    exact qG.rq fol [2,5,10,12,18,22,32,34] (kC w (kAA r22)) (kD m.Kind m.At m.Letter (.cells [.i 0,.func (.func 115) [] [],.func (.func 116) [] []]::(kE C r8 c8 r21 []))) (ac (cv (qa false 13 H)) (ac (gw c7) (ac (cv (qa (!decide (m.Letter=0)) 1 e_r8)) (ac (gw c9) (ac (cv (qa false 3 e_r17)) (ac (gw c18) (ac (cv (qa (decide (m.At>(w64 ((w.length:Int)-0)))) 3 e_r21)) (ac (hs (.call 33 [.slice 2 0 4 4 1] (kD m.Kind m.At m.Letter (.cells [.i 0,.func (.func 115) [] [],.func (.func 116) [] []]::(kE C r8 c8 r21 []))) [2] [vl encI ([C,r8,c8,r21]:List Int)] (.i r22)) (qM (FzL.cons (Fz.lit rfl rfl (Uc (AllST.cons tI (AllST.cons tI (AllST.cons tI (AllST.cons tI AllST.nil)))))) FzL.nil) (qg N ([C,r8,c8,r21]:List Int) e_r22) tI rfl)) az))))))))
   obtain⟨z,b3,d⟩:=bnd d
   rcases wyB d with⟨c24,d⟩|⟨c24,d⟩
   ·obtain⟨r25,e_r25,d⟩:=bnd d
    obtain⟨d0,e_r26,d⟩:=bnd d
    rcases wyD d with⟨c27,d⟩|⟨c27,d⟩
    ·obtain⟨r28,e_r28,d⟩:=bnd d
     obtain⟨r29,e_r29,d⟩:=bnd d
     simp only[ZI,ZP]at d
     obtain⟨rfl,rfl,rfl,rfl,rfl⟩:=d
     exact qG.rq fol [2,5,10,12,16,18,22,32,34] (kC w (kAA r29)) (kD m.Kind m.At m.Letter (.cells [.i 0,.func (.func 115) [] [],.func (.func 116) [] []]::(kE C z d0 r28 []))) (ac (cv (qa false 13 H)) (ac (gw c7) (ac (cv (qa false 1 b3)) (ac (gw c24) (ac (cv (qw n m.Letter e_r25)) (ac (cv (qa r25 3 e_r26)) (ac (gw c27) (ac (cv (qa true 3 e_r28)) (ac (hs (.call 33 [.slice 2 0 4 4 1] (kD m.Kind m.At m.Letter (.cells [.i 0,.func (.func 115) [] [],.func (.func 116) [] []]::(kE C z d0 r28 []))) [2] [vl encI ([C,z,d0,r28]:List Int)] (.i r29)) (qM (FzL.cons (Fz.lit rfl rfl (Uc (AllST.cons tI (AllST.cons tI (AllST.cons tI (AllST.cons tI AllST.nil)))))) FzL.nil) (qg N ([C,z,d0,r28]:List Int) e_r29) tI rfl)) az)))))))))
    obtain⟨r30,e_r30,d⟩:=bnd d
    obtain⟨r31,e_r31,d⟩:=bnd d
    simp only[ZI,ZP]at d
    obtain⟨rfl,rfl,rfl,rfl,rfl⟩:=d
    exact qG.rq fol [2,5,10,12,16,18,22,32,34] (kC w (kAA r31)) (kD m.Kind m.At m.Letter (.cells [.i 0,.func (.func 115) [] [],.func (.func 116) [] []]::(kE C z d0 r30 []))) (ac (cv (qa false 13 H)) (ac (gw c7) (ac (cv (qa false 1 b3)) (ac (gw c24) (ac (cv (qw n m.Letter e_r25)) (ac (cv (qa r25 3 e_r26)) (ac (gw c27) (ac (cv (qa (decide (m.At>(w64 ((w.length:Int)-0)))) 3 e_r30)) (ac (hs (.call 33 [.slice 2 0 4 4 1] (kD m.Kind m.At m.Letter (.cells [.i 0,.func (.func 115) [] [],.func (.func 116) [] []]::(kE C z d0 r30 []))) [2] [vl encI ([C,z,d0,r30]:List Int)] (.i r31)) (qM (FzL.cons (Fz.lit rfl rfl (Uc (AllST.cons tI (AllST.cons tI (AllST.cons tI (AllST.cons tI AllST.nil)))))) FzL.nil) (qg N ([C,z,d0,r30]:List Int) e_r31) tI rfl)) az)))))))))
   obtain⟨d1,e_r32,d⟩:=bnd d
   rcases wyD d with⟨c33,d⟩|⟨c33,d⟩
   ·obtain⟨r34,e_r34,d⟩:=bnd d
    obtain⟨r35,e_r35,d⟩:=bnd d
    simp only[ZI,ZP]at d
    obtain⟨rfl,rfl,rfl,rfl,rfl⟩:=d
    exact qG.rq fol [2,5,10,12,18,22,32,34] (kC w (kAA r35)) (kD m.Kind m.At m.Letter (.cells [.i 0,.func (.func 115) [] [],.func (.func 116) [] []]::(kE C z d1 r34 []))) (ac (cv (qa false 13 H)) (ac (gw c7) (ac (cv (qa false 1 b3)) (ac (gw c24) (ac (cv (qa false 3 e_r32)) (ac (gw c33) (ac (cv (qa true 3 e_r34)) (ac (hs (.call 33 [.slice 2 0 4 4 1] (kD m.Kind m.At m.Letter (.cells [.i 0,.func (.func 115) [] [],.func (.func 116) [] []]::(kE C z d1 r34 []))) [2] [vl encI ([C,z,d1,r34]:List Int)] (.i r35)) (qM (FzL.cons (Fz.lit rfl rfl (Uc (AllST.cons tI (AllST.cons tI (AllST.cons tI (AllST.cons tI AllST.nil)))))) FzL.nil) (qg N ([C,z,d1,r34]:List Int) e_r35) tI rfl)) az))))))))
   obtain⟨r36,e_r36,d⟩:=bnd d
   obtain⟨r37,e_r37,d⟩:=bnd d
   simp only[ZI,ZP]at d
   obtain⟨rfl,rfl,rfl,rfl,rfl⟩:=d
   exact qG.rq fol [2,5,10,12,18,22,32,34] (kC w (kAA r37)) (kD m.Kind m.At m.Letter (.cells [.i 0,.func (.func 115) [] [],.func (.func 116) [] []]::(kE C z d1 r36 []))) (ac (cv (qa false 13 H)) (ac (gw c7) (ac (cv (qa false 1 b3)) (ac (gw c24) (ac (cv (qa false 3 e_r32)) (ac (gw c33) (ac (cv (qa (decide (m.At>(w64 ((w.length:Int)-0)))) 3 e_r36)) (ac (hs (.call 33 [.slice 2 0 4 4 1] (kD m.Kind m.At m.Letter (.cells [.i 0,.func (.func 115) [] [],.func (.func 116) [] []]::(kE C z d1 r36 []))) [2] [vl encI ([C,z,d1,r36]:List Int)] (.i r37)) (qM (FzL.cons (Fz.lit rfl rfl (Uc (AllST.cons tI (AllST.cons tI (AllST.cons tI (AllST.cons tI AllST.nil)))))) FzL.nil) (qg N ([C,z,d1,r36]:List Int) e_r37) tI rfl)) az))))))))
  try dsimp only at h
  refine sh fol (kC w [(11,.i n42),(59,.bool (!decide (n42=0)))]) ?_
  refine ihB h (fun c44 h=>?_) (fun c44 h=>?_)
  ·refine sh fol (kAJ [(7,.i n42)]) ?_
   refine Goes.ret ?_
   obtain rfl:=si h
   exact(gw2 (kAY n42) (FzW.tuple (qo.cons (FzW.nilv (E:=encI)) (qo.cons (Ua tI) qo.nil))))
  refine Goes.skip ?_
  obtain⟨s45,e_s45,h⟩:=bnd h
  refine sq (gr fol [8] (kC w [(12,vl encI s45)]) (ac (hs (.done (.opt (yf ZT 22 (vl encI w) (some (.i m.At)) (some (.i (w64 (m.At+0)))) none)) (vl encI s45)) (qdX ja (E:=encI) rfl (some m.At) (some (w64 (m.At+0))) e_s45)) az) ?_)
  refine sq ?_
  obtain⟨r46,e_r46,h⟩:=bnd h
  refine sq (gr fol [3] (kC w [(12,vl encI s45),(74,.bool (!r46))]) (ac (cv (qdN s45 e_r46)) az) ?_)
  refine ihB h (fun c47 h=>?_) (fun c47 h=>?_)
  ·refine sh fol (kAJ [(7,.i 18)]) ?_
   refine Goes.ret ?_
   obtain rfl:=si h
   exact(gw2 kAk (FzW.tuple (qo.cons (FzW.nilv (E:=encI)) (qo.cons (Ua tI) qo.nil))))
  refine Goes.skip ?_
  obtain⟨_,e_r48,h⟩:=bnd h
  obtain⟨n50,e_r49,h⟩:=bnd h
  obtain⟨l52,e_r51,h⟩:=bnd h
  refine sq (gq fol [1,13,14] [(6,.oslice 5 l52.length 1),(7,.i 0)] (kD m.Kind m.At m.Letter (.cells [.i 0,.func (.func 115) [] [],.func (.func 116) [] []]::(kE b8 b9 c0 c1 (.dead:: .cells [.i m.Letter,.i n50]::(kA l52 []))))) (ac (hs (.callH 46 [vl encI w] (kD m.Kind m.At m.Letter (.cells [.i 0,.func (.func 115) [] [],.func (.func 116) [] []]::(kE b8 b9 c0 c1 []))) [] (.gslice 3 w.length 1) (kD m.Kind m.At m.Letter (.cells [.i 0,.func (.func 115) [] [],.func (.func 116) [] []]::(kE b8 b9 c0 c1 (kA w []))))) (jc [] [none,none,none,some 0] (qbB w e_r48) .nil rfl rfl (.old rfl rfl (.old rfl rfl (.old rfl rfl (.new rfl rfl (.same fa) rfl .nil)))) (rc (.same (qj encI _)) rn) (.gslice rfl) rfl)) (ac (hs (.callH 116 (kAL s45 m.Kind m.At m.Letter) (kD m.Kind m.At m.Letter (.cells [.i 0,.func (.func 115) [] [],.func (.func 116) [] []]::(kE b8 b9 c0 c1 (kA w [])))) [] (.slice 4 0 2 2 1) (kD m.Kind m.At m.Letter (.cells [.i 0,.func (.func 115) [] [],.func (.func 116) [] []]::(kE b8 b9 c0 c1 (kA w (kT m.Letter n50)))))) (jc [] [none,none,none,none,some 0] (qcw s45 m.Kind m.At m.Letter e_r49) .nil rfl rfl (.old rfl rfl (.old rfl rfl (.old rfl rfl (.old rfl rfl (.new rfl rfl (.cells (rc (.same nI) (rc (.same nI) rn))) rfl .nil))))) (rc (.same (qj encI _)) (rc (.same (qy.agg sn)) rn)) (.slice rfl) rfl)) (ac (hs (.callH 98 [.gslice 3 w.length 1,.i m.At,.i (w64 (m.At+0)),.slice 4 0 2 2 1] (kD m.Kind m.At m.Letter (.cells [.i 0,.func (.func 115) [] [],.func (.func 116) [] []]::(kE b8 b9 c0 c1 (kA w (kT m.Letter n50))))) [3,4] (.oslice 5 l52.length 1) (kD m.Kind m.At m.Letter (.cells [.i 0,.func (.func 115) [] [],.func (.func 116) [] []]::(kE b8 b9 c0 c1 (.dead:: .cells [.i m.Letter,.i n50]::(kA l52 [])))))) (jc [some 3,some 4] [none,none,none,none,some 1,some 2] (qhB w m.At (w64 (m.At+0)) m.Letter n50 e_r51) (.ks (.kb rfl (.cells (rc (.same nI) (rc (.same nI) rn))) .nil)) rfl rfl (.old rfl rfl (.old rfl rfl (.old rfl rfl (.dead (.back rfl rfl (.cells (rc (.same nI) (rc (.same nI) rn))) rfl (.new rfl rfl (.same fa) rfl .nil)))))) (rc (.gslice rfl) (rc (.same nI) (rc (.same nI) (rc (.slice rfl) rn)))) (.oslice rfl) rfl)) az))) ?_)
  refine Goes.ret ?_
  obtain rfl:=si h
  exact(gw2 [.oslice 5 l52.length 1,.i 0] (FzW.tuple (qo.cons (Ur (Fz.os (E:=encI) rfl rfl (nl rfl))) (qo.cons (Ua tI) qo.nil))))
 rcases wyB h with⟨c3,h⟩|⟨c3,h⟩
 ·refine gq fol [0,3] ((0,.i n)::(kC w [(9,.bool true)])) (kD m.Kind m.At m.Letter [.cells [.i 2,.func (.func 117) [] [],.func (.func 118) [] []]]) (ac (cv (xg b7)) (ac (hs (.done (vG ZT 145 (fm1) (.str m.Kind) true) (.tuple [.agg [.i 2,.func (.func 117) [] [],.func (.func 118) [] []],.bool true])) (qgE qhy [[105,110,115,101,114,116],[99,97,110,99,101,108],[115,119,97,112],[116,117,114,110]] (vX c2 (qc7 c3)) rfl)) az)) ?_
  refine sh fol ((0,.i n)::(kC w [(9,.bool true),(10,.bool (m.Kind==[105,110,115,101,114,116]))])) ?_
  refine sq ?_
  refine sq ?_
  obtain⟨⟨d2,d3,d4,d5,n89⟩,e,h⟩:=bnd h
  refine Goes.cut (s':=(ofG 90 (kC w (kAA n89)),(kD m.Kind m.At m.Letter (.cells [.i 2,.func (.func 117) [] [],.func (.func 118) [] []]::(kE d2 d3 d4 d5 []))))) ?_ ?_
  ·obtain⟨j,x,e⟩:=bnd e
   rcases wyB e with⟨b4,e⟩|⟨b4,e⟩
   ·obtain⟨A,b5,e⟩:=bnd e
    rcases wyB e with⟨c56,e⟩|⟨c56,e⟩
    ·obtain⟨r57,e_r57,e⟩:=bnd e
     obtain⟨d6,e_r58,e⟩:=bnd e
     rcases wyD e with⟨c59,e⟩|⟨c59,e⟩
     ·obtain⟨r60,e_r60,e⟩:=bnd e
      obtain⟨r61,e_r61,e⟩:=bnd e
      simp only[ZI,ZP]at e
      obtain⟨rfl,rfl,rfl,rfl,rfl⟩:=e
      exact qG.rq fol [2,5,10,12,16,18,22,32,34] (kC w (kAA r61)) (kD m.Kind m.At m.Letter (.cells [.i 2,.func (.func 117) [] [],.func (.func 118) [] []]::(kE j A d6 r60 []))) (ac (cv (qa false 13 x)) (ac (gw b4) (ac (cv (qa (!decide (m.Letter=0)) 1 b5)) (ac (gw c56) (ac (cv (qw n m.Letter e_r57)) (ac (cv (qa r57 3 e_r58)) (ac (gw c59) (ac (cv (qa true 3 e_r60)) (ac (hs (.call 33 [.slice 2 0 4 4 1] (kD m.Kind m.At m.Letter (.cells [.i 2,.func (.func 117) [] [],.func (.func 118) [] []]::(kE j A d6 r60 []))) [2] [vl encI ([j,A,d6,r60]:List Int)] (.i r61)) (qM (FzL.cons (Fz.lit rfl rfl (Uc (AllST.cons tI (AllST.cons tI (AllST.cons tI (AllST.cons tI AllST.nil)))))) FzL.nil) (qg N ([j,A,d6,r60]:List Int) e_r61) tI rfl)) az)))))))))
     obtain⟨r62,e_r62,e⟩:=bnd e
     obtain⟨r63,e_r63,e⟩:=bnd e
     simp only[ZI,ZP]at e
     obtain⟨rfl,rfl,rfl,rfl,rfl⟩:=e
     exact qG.rq fol [2,5,10,12,16,18,22,32,34] (kC w (kAA r63)) (kD m.Kind m.At m.Letter (.cells [.i 2,.func (.func 117) [] [],.func (.func 118) [] []]::(kE j A d6 r62 []))) (ac (cv (qa false 13 x)) (ac (gw b4) (ac (cv (qa (!decide (m.Letter=0)) 1 b5)) (ac (gw c56) (ac (cv (qw n m.Letter e_r57)) (ac (cv (qa r57 3 e_r58)) (ac (gw c59) (ac (cv (qa (decide (m.At>(w64 ((w.length:Int)-2)))) 3 e_r62)) (ac (hs (.call 33 [.slice 2 0 4 4 1] (kD m.Kind m.At m.Letter (.cells [.i 2,.func (.func 117) [] [],.func (.func 118) [] []]::(kE j A d6 r62 []))) [2] [vl encI ([j,A,d6,r62]:List Int)] (.i r63)) (qM (FzL.cons (Fz.lit rfl rfl (Uc (AllST.cons tI (AllST.cons tI (AllST.cons tI (AllST.cons tI AllST.nil)))))) FzL.nil) (qg N ([j,A,d6,r62]:List Int) e_r63) tI rfl)) az)))))))))
    obtain⟨d7,e_r64,e⟩:=bnd e
    rcases wyD e with⟨c65,e⟩|⟨c65,e⟩
    ·obtain⟨r66,e_r66,e⟩:=bnd e
     obtain⟨r67,e_r67,e⟩:=bnd e
     simp only[ZI,ZP]at e
     obtain⟨rfl,rfl,rfl,rfl,rfl⟩:=e
     exact qG.rq fol [2,5,10,12,18,22,32,34] (kC w (kAA r67)) (kD m.Kind m.At m.Letter (.cells [.i 2,.func (.func 117) [] [],.func (.func 118) [] []]::(kE j A d7 r66 []))) (ac (cv (qa false 13 x)) (ac (gw b4) (ac (cv (qa (!decide (m.Letter=0)) 1 b5)) (ac (gw c56) (ac (cv (qa false 3 e_r64)) (ac (gw c65) (ac (cv (qa true 3 e_r66)) (ac (hs (.call 33 [.slice 2 0 4 4 1] (kD m.Kind m.At m.Letter (.cells [.i 2,.func (.func 117) [] [],.func (.func 118) [] []]::(kE j A d7 r66 []))) [2] [vl encI ([j,A,d7,r66]:List Int)] (.i r67)) (qM (FzL.cons (Fz.lit rfl rfl (Uc (AllST.cons tI (AllST.cons tI (AllST.cons tI (AllST.cons tI AllST.nil)))))) FzL.nil) (qg N ([j,A,d7,r66]:List Int) e_r67) tI rfl)) az))))))))
    obtain⟨r68,e_r68,e⟩:=bnd e
    obtain⟨r69,e_r69,e⟩:=bnd e
    simp only[ZI,ZP]at e
    obtain⟨rfl,rfl,rfl,rfl,rfl⟩:=e
    exact qG.rq fol [2,5,10,12,18,22,32,34] (kC w (kAA r69)) (kD m.Kind m.At m.Letter (.cells [.i 2,.func (.func 117) [] [],.func (.func 118) [] []]::(kE j A d7 r68 []))) (ac (cv (qa false 13 x)) (ac (gw b4) (ac (cv (qa (!decide (m.Letter=0)) 1 b5)) (ac (gw c56) (ac (cv (qa false 3 e_r64)) (ac (gw c65) (ac (cv (qa (decide (m.At>(w64 ((w.length:Int)-2)))) 3 e_r68)) (ac (hs (.call 33 [.slice 2 0 4 4 1] (kD m.Kind m.At m.Letter (.cells [.i 2,.func (.func 117) [] [],.func (.func 118) [] []]::(kE j A d7 r68 []))) [2] [vl encI ([j,A,d7,r68]:List Int)] (.i r69)) (qM (FzL.cons (Fz.lit rfl rfl (Uc (AllST.cons tI (AllST.cons tI (AllST.cons tI (AllST.cons tI AllST.nil)))))) FzL.nil) (qg N ([j,A,d7,r68]:List Int) e_r69) tI rfl)) az))))))))
   obtain⟨B,b6,e⟩:=bnd e
   rcases wyB e with⟨c71,e⟩|⟨c71,e⟩
   ·obtain⟨r72,e_r72,e⟩:=bnd e
    obtain⟨d8,e_r73,e⟩:=bnd e
    rcases wyD e with⟨c74,e⟩|⟨c74,e⟩
    ·obtain⟨r75,e_r75,e⟩:=bnd e
     obtain⟨r76,e_r76,e⟩:=bnd e
     simp only[ZI,ZP]at e
     obtain⟨rfl,rfl,rfl,rfl,rfl⟩:=e
     exact qG.rq fol [2,5,10,12,16,18,22,32,34] (kC w (kAA r76)) (kD m.Kind m.At m.Letter (.cells [.i 2,.func (.func 117) [] [],.func (.func 118) [] []]::(kE j B d8 r75 []))) (ac (cv (qa false 13 x)) (ac (gw b4) (ac (cv (qa false 1 b6)) (ac (gw c71) (ac (cv (qw n m.Letter e_r72)) (ac (cv (qa r72 3 e_r73)) (ac (gw c74) (ac (cv (qa true 3 e_r75)) (ac (hs (.call 33 [.slice 2 0 4 4 1] (kD m.Kind m.At m.Letter (.cells [.i 2,.func (.func 117) [] [],.func (.func 118) [] []]::(kE j B d8 r75 []))) [2] [vl encI ([j,B,d8,r75]:List Int)] (.i r76)) (qM (FzL.cons (Fz.lit rfl rfl (Uc (AllST.cons tI (AllST.cons tI (AllST.cons tI (AllST.cons tI AllST.nil)))))) FzL.nil) (qg N ([j,B,d8,r75]:List Int) e_r76) tI rfl)) az)))))))))
    obtain⟨r77,e_r77,e⟩:=bnd e
    obtain⟨r78,e_r78,e⟩:=bnd e
    simp only[ZI,ZP]at e
    obtain⟨rfl,rfl,rfl,rfl,rfl⟩:=e
    exact qG.rq fol [2,5,10,12,16,18,22,32,34] (kC w (kAA r78)) (kD m.Kind m.At m.Letter (.cells [.i 2,.func (.func 117) [] [],.func (.func 118) [] []]::(kE j B d8 r77 []))) (ac (cv (qa false 13 x)) (ac (gw b4) (ac (cv (qa false 1 b6)) (ac (gw c71) (ac (cv (qw n m.Letter e_r72)) (ac (cv (qa r72 3 e_r73)) (ac (gw c74) (ac (cv (qa (decide (m.At>(w64 ((w.length:Int)-2)))) 3 e_r77)) (ac (hs (.call 33 [.slice 2 0 4 4 1] (kD m.Kind m.At m.Letter (.cells [.i 2,.func (.func 117) [] [],.func (.func 118) [] []]::(kE j B d8 r77 []))) [2] [vl encI ([j,B,d8,r77]:List Int)] (.i r78)) (qM (FzL.cons (Fz.lit rfl rfl (Uc (AllST.cons tI (AllST.cons tI (AllST.cons tI (AllST.cons tI AllST.nil)))))) FzL.nil) (qg N ([j,B,d8,r77]:List Int) e_r78) tI rfl)) az)))))))))
   obtain⟨d9,e_r79,e⟩:=bnd e
   rcases wyD e with⟨c80,e⟩|⟨c80,e⟩
   ·obtain⟨r81,e_r81,e⟩:=bnd e
    obtain⟨r82,e_r82,e⟩:=bnd e
    simp only[ZI,ZP]at e
    obtain⟨rfl,rfl,rfl,rfl,rfl⟩:=e
    exact qG.rq fol [2,5,10,12,18,22,32,34] (kC w (kAA r82)) (kD m.Kind m.At m.Letter (.cells [.i 2,.func (.func 117) [] [],.func (.func 118) [] []]::(kE j B d9 r81 []))) (ac (cv (qa false 13 x)) (ac (gw b4) (ac (cv (qa false 1 b6)) (ac (gw c71) (ac (cv (qa false 3 e_r79)) (ac (gw c80) (ac (cv (qa true 3 e_r81)) (ac (hs (.call 33 [.slice 2 0 4 4 1] (kD m.Kind m.At m.Letter (.cells [.i 2,.func (.func 117) [] [],.func (.func 118) [] []]::(kE j B d9 r81 []))) [2] [vl encI ([j,B,d9,r81]:List Int)] (.i r82)) (qM (FzL.cons (Fz.lit rfl rfl (Uc (AllST.cons tI (AllST.cons tI (AllST.cons tI (AllST.cons tI AllST.nil)))))) FzL.nil) (qg N ([j,B,d9,r81]:List Int) e_r82) tI rfl)) az))))))))
   obtain⟨r83,e_r83,e⟩:=bnd e
   obtain⟨r84,e_r84,e⟩:=bnd e
   simp only[ZI,ZP]at e
   obtain⟨rfl,rfl,rfl,rfl,rfl⟩:=e
   exact qG.rq fol [2,5,10,12,18,22,32,34] (kC w (kAA r84)) (kD m.Kind m.At m.Letter (.cells [.i 2,.func (.func 117) [] [],.func (.func 118) [] []]::(kE j B d9 r83 []))) (ac (cv (qa false 13 x)) (ac (gw b4) (ac (cv (qa false 1 b6)) (ac (gw c71) (ac (cv (qa false 3 e_r79)) (ac (gw c80) (ac (cv (qa (decide (m.At>(w64 ((w.length:Int)-2)))) 3 e_r83)) (ac (hs (.call 33 [.slice 2 0 4 4 1] (kD m.Kind m.At m.Letter (.cells [.i 2,.func (.func 117) [] [],.func (.func 118) [] []]::(kE j B d9 r83 []))) [2] [vl encI ([j,B,d9,r83]:List Int)] (.i r84)) (qM (FzL.cons (Fz.lit rfl rfl (Uc (AllST.cons tI (AllST.cons tI (AllST.cons tI (AllST.cons tI AllST.nil)))))) FzL.nil) (qg N ([j,B,d9,r83]:List Int) e_r84) tI rfl)) az))))))))
  try dsimp only at h
  refine sh fol (kC w [(11,.i n89),(59,.bool (!decide (n89=0)))]) ?_
  refine ihB h (fun c91 h=>?_) (fun c91 h=>?_)
  ·refine sh fol (kAJ [(7,.i n89)]) ?_
   refine Goes.ret ?_
   obtain rfl:=si h
   exact(gw2 (kAY n89) (FzW.tuple (qo.cons (FzW.nilv (E:=encI)) (qo.cons (Ua tI) qo.nil))))
  refine Goes.skip ?_
  obtain⟨s92,e_s92,h⟩:=bnd h
  refine sq (gr fol [8] (kC w [(12,vl encI s92)]) (ac (hs (.done (.opt (yf ZT 22 (vl encI w) (some (.i m.At)) (some (.i (w64 (m.At+2)))) none)) (vl encI s92)) (qdX ja (E:=encI) rfl (some m.At) (some (w64 (m.At+2))) e_s92)) az) ?_)
  refine sq ?_
  obtain⟨r93,e_r93,h⟩:=bnd h
  refine sq (gr fol [3] (kC w [(12,vl encI s92),(74,.bool (!r93))]) (ac (cv (qd3 s92 e_r93)) az) ?_)
  refine ihB h (fun c94 h=>?_) (fun c94 h=>?_)
  ·refine sh fol (kAJ [(7,.i 18)]) ?_
   refine Goes.ret ?_
   obtain rfl:=si h
   exact(gw2 kAk (FzW.tuple (qo.cons (FzW.nilv (E:=encI)) (qo.cons (Ua tI) qo.nil))))
  refine Goes.skip ?_
  obtain⟨_,e_r95,h⟩:=bnd h
  obtain⟨_,e_r96,h⟩:=bnd h
  obtain⟨l98,e_r97,h⟩:=bnd h
  refine sq (gq fol [1,13,14] [(6,.oslice 4 l98.length 1),(7,.i 0)] (kD m.Kind m.At m.Letter (.cells [.i 2,.func (.func 117) [] [],.func (.func 118) [] []]::(kE d2 d3 d4 d5 (.dead::(kA l98 []))))) (ac (hs (.callH 46 [vl encI w] (kD m.Kind m.At m.Letter (.cells [.i 2,.func (.func 117) [] [],.func (.func 118) [] []]::(kE d2 d3 d4 d5 []))) [] (.gslice 3 w.length 1) (kD m.Kind m.At m.Letter (.cells [.i 2,.func (.func 117) [] [],.func (.func 118) [] []]::(kE d2 d3 d4 d5 (kA w []))))) (jc [] [none,none,none,some 0] (qbB w e_r95) .nil rfl rfl (.old rfl rfl (.old rfl rfl (.old rfl rfl (.new rfl rfl (.same fa) rfl .nil)))) (rc (.same (qj encI _)) rn) (.gslice rfl) rfl)) (ac (hs (.callH 118 (kAL s92 m.Kind m.At m.Letter) (kD m.Kind m.At m.Letter (.cells [.i 2,.func (.func 117) [] [],.func (.func 118) [] []]::(kE d2 d3 d4 d5 (kA w [])))) [] .nilslice (kD m.Kind m.At m.Letter (.cells [.i 2,.func (.func 117) [] [],.func (.func 118) [] []]::(kE d2 d3 d4 d5 (kA w []))))) (jc [] [none,none,none,none] (qcI s92 m.Kind m.At m.Letter e_r96) .nil rfl rfl (.old rfl rfl (.old rfl rfl (.old rfl rfl (.old rfl rfl .nil)))) (rc (.same (qj encI _)) (rc (.same (qy.agg sn)) rn)) (.same (qy.nilslice)) rfl)) (ac (hs (.callH 98 [.gslice 3 w.length 1,.i m.At,.i (w64 (m.At+2)),.nilslice] (kD m.Kind m.At m.Letter (.cells [.i 2,.func (.func 117) [] [],.func (.func 118) [] []]::(kE d2 d3 d4 d5 (kA w [])))) [3] (.oslice 4 l98.length 1) (kD m.Kind m.At m.Letter (.cells [.i 2,.func (.func 117) [] [],.func (.func 118) [] []]::(kE d2 d3 d4 d5 (.dead::(kA l98 [])))))) (jc [some 3] [none,none,none,none,some 1] (qlT w m.At (w64 (m.At+2)) e_r97) (.ks .nil) rfl rfl (.old rfl rfl (.old rfl rfl (.old rfl rfl (.dead (.new rfl rfl (.same fa) rfl .nil))))) (rc (.gslice rfl) (rc (.same nI) (rc (.same nI) (rc (.same (qy.nilslice)) rn)))) (.oslice rfl) rfl)) az))) ?_)
  refine Goes.ret ?_
  obtain rfl:=si h
  exact(gw2 [.oslice 4 l98.length 1,.i 0] (FzW.tuple (qo.cons (Ur (Fz.os (E:=encI) rfl rfl (nl rfl))) (qo.cons (Ua tI) qo.nil))))
 rcases wyB h with⟨c4,h⟩|⟨c4,h⟩
 ·refine gq fol [0,3] ((0,.i n)::(kC w [(9,.bool true)])) (kD m.Kind m.At m.Letter [.cells [.i 2,.func (.func 119) [] [],.func (.func 120) [] []]]) (ac (cv (xg b7)) (ac (hs (.done (vG ZT 145 (fm1) (.str m.Kind) true) (.tuple [.agg [.i 2,.func (.func 119) [] [],.func (.func 120) [] []],.bool true])) (qgE qhy [[105,110,115,101,114,116],[99,97,110,99,101,108],[115,119,97,112],[116,117,114,110]] (vX c2 (vX c3 (qc7 c4))) rfl)) az)) ?_
  refine sh fol ((0,.i n)::(kC w [(9,.bool true),(10,.bool (m.Kind==[105,110,115,101,114,116]))])) ?_
  refine sq ?_
  refine sq ?_
  obtain⟨⟨I,J,K,L,e0⟩,a,h⟩:=bnd h
  refine Goes.cut (s':=(ofG 90 (kC w (kAA e0)),(kD m.Kind m.At m.Letter (.cells [.i 2,.func (.func 119) [] [],.func (.func 120) [] []]::(kE I J K L []))))) ?_ ?_
  ·obtain⟨k,y,a⟩:=bnd a
   rcases wyB a with⟨D,a⟩|⟨D,a⟩
   ·obtain⟨o,a5,a⟩:=bnd a
    rcases wyB a with⟨e1,a⟩|⟨e1,a⟩
    ·obtain⟨r103,e_r103,a⟩:=bnd a
     obtain⟨M,e_r104,a⟩:=bnd a
     rcases wyD a with⟨c105,a⟩|⟨c105,a⟩
     ·obtain⟨r106,e_r106,a⟩:=bnd a
      obtain⟨r107,e_r107,a⟩:=bnd a
      simp only[ZI,ZP]at a
      obtain⟨rfl,rfl,rfl,rfl,rfl⟩:=a
      exact qG.rq fol [2,5,10,12,16,18,22,32,34] (kC w (kAA r107)) (kD m.Kind m.At m.Letter (.cells [.i 2,.func (.func 119) [] [],.func (.func 120) [] []]::(kE k o M r106 []))) (ac (cv (qa false 13 y)) (ac (gw D) (ac (cv (qa (!decide (m.Letter=0)) 1 a5)) (ac (gw e1) (ac (cv (qw n m.Letter e_r103)) (ac (cv (qa r103 3 e_r104)) (ac (gw c105) (ac (cv (qa true 3 e_r106)) (ac (hs (.call 33 [.slice 2 0 4 4 1] (kD m.Kind m.At m.Letter (.cells [.i 2,.func (.func 119) [] [],.func (.func 120) [] []]::(kE k o M r106 []))) [2] [vl encI ([k,o,M,r106]:List Int)] (.i r107)) (qM (FzL.cons (Fz.lit rfl rfl (Uc (AllST.cons tI (AllST.cons tI (AllST.cons tI (AllST.cons tI AllST.nil)))))) FzL.nil) (qg N ([k,o,M,r106]:List Int) e_r107) tI rfl)) az)))))))))
     obtain⟨r108,e_r108,a⟩:=bnd a
     obtain⟨r109,e_r109,a⟩:=bnd a
     simp only[ZI,ZP]at a
     obtain⟨rfl,rfl,rfl,rfl,rfl⟩:=a
     exact qG.rq fol [2,5,10,12,16,18,22,32,34] (kC w (kAA r109)) (kD m.Kind m.At m.Letter (.cells [.i 2,.func (.func 119) [] [],.func (.func 120) [] []]::(kE k o M r108 []))) (ac (cv (qa false 13 y)) (ac (gw D) (ac (cv (qa (!decide (m.Letter=0)) 1 a5)) (ac (gw e1) (ac (cv (qw n m.Letter e_r103)) (ac (cv (qa r103 3 e_r104)) (ac (gw c105) (ac (cv (qa (decide (m.At>(w64 ((w.length:Int)-2)))) 3 e_r108)) (ac (hs (.call 33 [.slice 2 0 4 4 1] (kD m.Kind m.At m.Letter (.cells [.i 2,.func (.func 119) [] [],.func (.func 120) [] []]::(kE k o M r108 []))) [2] [vl encI ([k,o,M,r108]:List Int)] (.i r109)) (qM (FzL.cons (Fz.lit rfl rfl (Uc (AllST.cons tI (AllST.cons tI (AllST.cons tI (AllST.cons tI AllST.nil)))))) FzL.nil) (qg N ([k,o,M,r108]:List Int) e_r109) tI rfl)) az)))))))))
    obtain⟨O,e_r110,a⟩:=bnd a
    rcases wyD a with⟨c111,a⟩|⟨c111,a⟩
    ·obtain⟨r112,e_r112,a⟩:=bnd a
     obtain⟨r113,e_r113,a⟩:=bnd a
     simp only[ZI,ZP]at a
     obtain⟨rfl,rfl,rfl,rfl,rfl⟩:=a
     exact qG.rq fol [2,5,10,12,18,22,32,34] (kC w (kAA r113)) (kD m.Kind m.At m.Letter (.cells [.i 2,.func (.func 119) [] [],.func (.func 120) [] []]::(kE k o O r112 []))) (ac (cv (qa false 13 y)) (ac (gw D) (ac (cv (qa (!decide (m.Letter=0)) 1 a5)) (ac (gw e1) (ac (cv (qa false 3 e_r110)) (ac (gw c111) (ac (cv (qa true 3 e_r112)) (ac (hs (.call 33 [.slice 2 0 4 4 1] (kD m.Kind m.At m.Letter (.cells [.i 2,.func (.func 119) [] [],.func (.func 120) [] []]::(kE k o O r112 []))) [2] [vl encI ([k,o,O,r112]:List Int)] (.i r113)) (qM (FzL.cons (Fz.lit rfl rfl (Uc (AllST.cons tI (AllST.cons tI (AllST.cons tI (AllST.cons tI AllST.nil)))))) FzL.nil) (qg N ([k,o,O,r112]:List Int) e_r113) tI rfl)) az))))))))
    obtain⟨r114,e_r114,a⟩:=bnd a
    obtain⟨r115,e_r115,a⟩:=bnd a
    simp only[ZI,ZP]at a
    obtain⟨rfl,rfl,rfl,rfl,rfl⟩:=a
    exact qG.rq fol [2,5,10,12,18,22,32,34] (kC w (kAA r115)) (kD m.Kind m.At m.Letter (.cells [.i 2,.func (.func 119) [] [],.func (.func 120) [] []]::(kE k o O r114 []))) (ac (cv (qa false 13 y)) (ac (gw D) (ac (cv (qa (!decide (m.Letter=0)) 1 a5)) (ac (gw e1) (ac (cv (qa false 3 e_r110)) (ac (gw c111) (ac (cv (qa (decide (m.At>(w64 ((w.length:Int)-2)))) 3 e_r114)) (ac (hs (.call 33 [.slice 2 0 4 4 1] (kD m.Kind m.At m.Letter (.cells [.i 2,.func (.func 119) [] [],.func (.func 120) [] []]::(kE k o O r114 []))) [2] [vl encI ([k,o,O,r114]:List Int)] (.i r115)) (qM (FzL.cons (Fz.lit rfl rfl (Uc (AllST.cons tI (AllST.cons tI (AllST.cons tI (AllST.cons tI AllST.nil)))))) FzL.nil) (qg N ([k,o,O,r114]:List Int) e_r115) tI rfl)) az))))))))
   obtain⟨p,a6,a⟩:=bnd a
   rcases wyB a with⟨e2,a⟩|⟨e2,a⟩
   ·obtain⟨r118,e_r118,a⟩:=bnd a
    obtain⟨P,e_r119,a⟩:=bnd a
    rcases wyD a with⟨c120,a⟩|⟨c120,a⟩
    ·obtain⟨r121,e_r121,a⟩:=bnd a
     obtain⟨r122,e_r122,a⟩:=bnd a
     simp only[ZI,ZP]at a
     obtain⟨rfl,rfl,rfl,rfl,rfl⟩:=a
     exact qG.rq fol [2,5,10,12,16,18,22,32,34] (kC w (kAA r122)) (kD m.Kind m.At m.Letter (.cells [.i 2,.func (.func 119) [] [],.func (.func 120) [] []]::(kE k p P r121 []))) (ac (cv (qa false 13 y)) (ac (gw D) (ac (cv (qa false 1 a6)) (ac (gw e2) (ac (cv (qw n m.Letter e_r118)) (ac (cv (qa r118 3 e_r119)) (ac (gw c120) (ac (cv (qa true 3 e_r121)) (ac (hs (.call 33 [.slice 2 0 4 4 1] (kD m.Kind m.At m.Letter (.cells [.i 2,.func (.func 119) [] [],.func (.func 120) [] []]::(kE k p P r121 []))) [2] [vl encI ([k,p,P,r121]:List Int)] (.i r122)) (qM (FzL.cons (Fz.lit rfl rfl (Uc (AllST.cons tI (AllST.cons tI (AllST.cons tI (AllST.cons tI AllST.nil)))))) FzL.nil) (qg N ([k,p,P,r121]:List Int) e_r122) tI rfl)) az)))))))))
    obtain⟨r123,e_r123,a⟩:=bnd a
    obtain⟨r124,e_r124,a⟩:=bnd a
    simp only[ZI,ZP]at a
    obtain⟨rfl,rfl,rfl,rfl,rfl⟩:=a
    exact qG.rq fol [2,5,10,12,16,18,22,32,34] (kC w (kAA r124)) (kD m.Kind m.At m.Letter (.cells [.i 2,.func (.func 119) [] [],.func (.func 120) [] []]::(kE k p P r123 []))) (ac (cv (qa false 13 y)) (ac (gw D) (ac (cv (qa false 1 a6)) (ac (gw e2) (ac (cv (qw n m.Letter e_r118)) (ac (cv (qa r118 3 e_r119)) (ac (gw c120) (ac (cv (qa (decide (m.At>(w64 ((w.length:Int)-2)))) 3 e_r123)) (ac (hs (.call 33 [.slice 2 0 4 4 1] (kD m.Kind m.At m.Letter (.cells [.i 2,.func (.func 119) [] [],.func (.func 120) [] []]::(kE k p P r123 []))) [2] [vl encI ([k,p,P,r123]:List Int)] (.i r124)) (qM (FzL.cons (Fz.lit rfl rfl (Uc (AllST.cons tI (AllST.cons tI (AllST.cons tI (AllST.cons tI AllST.nil)))))) FzL.nil) (qg N ([k,p,P,r123]:List Int) e_r124) tI rfl)) az)))))))))
   obtain⟨Q,e_r125,a⟩:=bnd a
   rcases wyD a with⟨c126,a⟩|⟨c126,a⟩
   ·obtain⟨r127,e_r127,a⟩:=bnd a
    obtain⟨r128,e_r128,a⟩:=bnd a
    simp only[ZI,ZP]at a
    obtain⟨rfl,rfl,rfl,rfl,rfl⟩:=a
    exact qG.rq fol [2,5,10,12,18,22,32,34] (kC w (kAA r128)) (kD m.Kind m.At m.Letter (.cells [.i 2,.func (.func 119) [] [],.func (.func 120) [] []]::(kE k p Q r127 []))) (ac (cv (qa false 13 y)) (ac (gw D) (ac (cv (qa false 1 a6)) (ac (gw e2) (ac (cv (qa false 3 e_r125)) (ac (gw c126) (ac (cv (qa true 3 e_r127)) (ac (hs (.call 33 [.slice 2 0 4 4 1] (kD m.Kind m.At m.Letter (.cells [.i 2,.func (.func 119) [] [],.func (.func 120) [] []]::(kE k p Q r127 []))) [2] [vl encI ([k,p,Q,r127]:List Int)] (.i r128)) (qM (FzL.cons (Fz.lit rfl rfl (Uc (AllST.cons tI (AllST.cons tI (AllST.cons tI (AllST.cons tI AllST.nil)))))) FzL.nil) (qg N ([k,p,Q,r127]:List Int) e_r128) tI rfl)) az))))))))
   obtain⟨r129,e_r129,a⟩:=bnd a
   obtain⟨r130,e_r130,a⟩:=bnd a
   simp only[ZI,ZP]at a
   obtain⟨rfl,rfl,rfl,rfl,rfl⟩:=a
   exact qG.rq fol [2,5,10,12,18,22,32,34] (kC w (kAA r130)) (kD m.Kind m.At m.Letter (.cells [.i 2,.func (.func 119) [] [],.func (.func 120) [] []]::(kE k p Q r129 []))) (ac (cv (qa false 13 y)) (ac (gw D) (ac (cv (qa false 1 a6)) (ac (gw e2) (ac (cv (qa false 3 e_r125)) (ac (gw c126) (ac (cv (qa (decide (m.At>(w64 ((w.length:Int)-2)))) 3 e_r129)) (ac (hs (.call 33 [.slice 2 0 4 4 1] (kD m.Kind m.At m.Letter (.cells [.i 2,.func (.func 119) [] [],.func (.func 120) [] []]::(kE k p Q r129 []))) [2] [vl encI ([k,p,Q,r129]:List Int)] (.i r130)) (qM (FzL.cons (Fz.lit rfl rfl (Uc (AllST.cons tI (AllST.cons tI (AllST.cons tI (AllST.cons tI AllST.nil)))))) FzL.nil) (qg N ([k,p,Q,r129]:List Int) e_r130) tI rfl)) az))))))))
  try dsimp only at h
  refine sh fol (kC w [(11,.i e0),(59,.bool (!decide (e0=0)))]) ?_
  refine ihB h (fun c137 h=>?_) (fun c137 h=>?_)
  ·refine sh fol (kAJ [(7,.i e0)]) ?_
   refine Goes.ret ?_
   obtain rfl:=si h
   exact(gw2 (kAY e0) (FzW.tuple (qo.cons (FzW.nilv (E:=encI)) (qo.cons (Ua tI) qo.nil))))
  refine Goes.skip ?_
  obtain⟨b1,e_s138,h⟩:=bnd h
  refine sq (gr fol [8] (kC w [(12,vl encI b1)]) (ac (hs (.done (.opt (yf ZT 22 (vl encI w) (some (.i m.At)) (some (.i (w64 (m.At+2)))) none)) (vl encI b1)) (qdX ja (E:=encI) rfl (some m.At) (some (w64 (m.At+2))) e_s138)) az) ?_)
  refine sq ?_
  obtain⟨r139,e_r139,h⟩:=bnd h
  refine sq (gr fol [3] (kC w [(12,vl encI b1),(74,.bool (!r139))]) (ac (cv (qdJ b1 e_r139)) az) ?_)
  refine ihB h (fun c140 h=>?_) (fun c140 h=>?_)
  ·refine sh fol (kAJ [(7,.i 18)]) ?_
   refine Goes.ret ?_
   obtain rfl:=si h
   exact(gw2 kAk (FzW.tuple (qo.cons (FzW.nilv (E:=encI)) (qo.cons (Ua tI) qo.nil))))
  refine Goes.skip ?_
  obtain⟨_,e_r141,h⟩:=bnd h
  obtain⟨⟨e3,e4⟩,e_r142,h⟩:=bnd h
  try dsimp only at h
  obtain⟨e5,e_r145,h⟩:=bnd h
  refine sq (gq fol [1,13,14] [(6,.oslice 5 e5.length 1),(7,.i 0)] (kD m.Kind m.At m.Letter (.cells [.i 2,.func (.func 119) [] [],.func (.func 120) [] []]::(kE I J K L (.dead:: .cells [.i e3,.i e4]::(kA e5 []))))) (ac (hs (.callH 46 [vl encI w] (kD m.Kind m.At m.Letter (.cells [.i 2,.func (.func 119) [] [],.func (.func 120) [] []]::(kE I J K L []))) [] (.gslice 3 w.length 1) (kD m.Kind m.At m.Letter (.cells [.i 2,.func (.func 119) [] [],.func (.func 120) [] []]::(kE I J K L (kA w []))))) (jc [] [none,none,none,some 0] (qbB w e_r141) .nil rfl rfl (.old rfl rfl (.old rfl rfl (.old rfl rfl (.new rfl rfl (.same fa) rfl .nil)))) (rc (.same (qj encI _)) rn) (.gslice rfl) rfl)) (ac (hs (.callH 120 (kAL b1 m.Kind m.At m.Letter) (kD m.Kind m.At m.Letter (.cells [.i 2,.func (.func 119) [] [],.func (.func 120) [] []]::(kE I J K L (kA w [])))) [] (.slice 4 0 2 2 1) (kD m.Kind m.At m.Letter (.cells [.i 2,.func (.func 119) [] [],.func (.func 120) [] []]::(kE I J K L (kA w (kT e3 e4)))))) (jc [] [none,none,none,none,some 0] (qcM b1 m.Kind m.At m.Letter e_r142) .nil rfl rfl (.old rfl rfl (.old rfl rfl (.old rfl rfl (.old rfl rfl (.new rfl rfl (.cells (rc (.same nI) (rc (.same nI) rn))) rfl .nil))))) (rc (.same (qj encI _)) (rc (.same (qy.agg sn)) rn)) (.slice rfl) rfl)) (ac (hs (.callH 98 [.gslice 3 w.length 1,.i m.At,.i (w64 (m.At+2)),.slice 4 0 2 2 1] (kD m.Kind m.At m.Letter (.cells [.i 2,.func (.func 119) [] [],.func (.func 120) [] []]::(kE I J K L (kA w (kT e3 e4))))) [3,4] (.oslice 5 e5.length 1) (kD m.Kind m.At m.Letter (.cells [.i 2,.func (.func 119) [] [],.func (.func 120) [] []]::(kE I J K L (.dead:: .cells [.i e3,.i e4]::(kA e5 [])))))) (jc [some 3,some 4] [none,none,none,none,some 1,some 2] (qhB w m.At (w64 (m.At+2)) e3 e4 e_r145) (.ks (.kb rfl (.cells (rc (.same nI) (rc (.same nI) rn))) .nil)) rfl rfl (.old rfl rfl (.old rfl rfl (.old rfl rfl (.dead (.back rfl rfl (.cells (rc (.same nI) (rc (.same nI) rn))) rfl (.new rfl rfl (.same fa) rfl .nil)))))) (rc (.gslice rfl) (rc (.same nI) (rc (.same nI) (rc (.slice rfl) rn)))) (.oslice rfl) rfl)) az))) ?_)
  refine Goes.ret ?_
  obtain rfl:=si h
  exact(gw2 [.oslice 5 e5.length 1,.i 0] (FzW.tuple (qo.cons (Ur (Fz.os (E:=encI) rfl rfl (nl rfl))) (qo.cons (Ua tI) qo.nil))))
 rcases wyB h with⟨c5,h⟩|⟨c5,h⟩
 ·refine gq fol [0,3] ((0,.i n)::(kC w [(9,.bool true)])) (kD m.Kind m.At m.Letter [.cells [.i 3,.func (.func 121) [] [],.func (.func 122) [] []]]) (ac (cv (xg b7)) (ac (hs (.done (vG ZT 145 (fm1) (.str m.Kind) true) (.tuple [.agg [.i 3,.func (.func 121) [] [],.func (.func 122) [] []],.bool true])) (qgE qhy [[105,110,115,101,114,116],[99,97,110,99,101,108],[115,119,97,112],[116,117,114,110]] (vX c2 (vX c3 (vX c4 (qc7 c5)))) rfl)) az)) ?_
  refine sh fol ((0,.i n)::(kC w [(9,.bool true),(10,.bool (m.Kind==[105,110,115,101,114,116]))])) ?_
  refine sq ?_
  refine sq ?_
  obtain⟨⟨T,U,V,W,e6⟩,b,h⟩:=bnd h
  refine Goes.cut (s':=(ofG 90 (kC w (kAA e6)),(kD m.Kind m.At m.Letter (.cells [.i 3,.func (.func 121) [] [],.func (.func 122) [] []]::(kE T U V W []))))) ?_ ?_
  ·obtain⟨f,u,b⟩:=bnd b
   rcases wyB b with⟨F,b⟩|⟨F,b⟩
   ·obtain⟨q,a7,b⟩:=bnd b
    rcases wyB b with⟨e7,b⟩|⟨e7,b⟩
    ·obtain⟨r151,e_r151,b⟩:=bnd b
     obtain⟨X,e_r152,b⟩:=bnd b
     rcases wyD b with⟨c153,b⟩|⟨c153,b⟩
     ·obtain⟨r154,e_r154,b⟩:=bnd b
      obtain⟨r155,e_r155,b⟩:=bnd b
      simp only[ZI,ZP]at b
      obtain⟨rfl,rfl,rfl,rfl,rfl⟩:=b
      exact qG.rq fol [2,5,10,12,16,18,22,32,34] (kC w (kAA r155)) (kD m.Kind m.At m.Letter (.cells [.i 3,.func (.func 121) [] [],.func (.func 122) [] []]::(kE f q X r154 []))) (ac (cv (qa false 13 u)) (ac (gw F) (ac (cv (qa (!decide (m.Letter=0)) 1 a7)) (ac (gw e7) (ac (cv (qw n m.Letter e_r151)) (ac (cv (qa r151 3 e_r152)) (ac (gw c153) (ac (cv (qa true 3 e_r154)) (ac (hs (.call 33 [.slice 2 0 4 4 1] (kD m.Kind m.At m.Letter (.cells [.i 3,.func (.func 121) [] [],.func (.func 122) [] []]::(kE f q X r154 []))) [2] [vl encI ([f,q,X,r154]:List Int)] (.i r155)) (qM (FzL.cons (Fz.lit rfl rfl (Uc (AllST.cons tI (AllST.cons tI (AllST.cons tI (AllST.cons tI AllST.nil)))))) FzL.nil) (qg N ([f,q,X,r154]:List Int) e_r155) tI rfl)) az)))))))))
     obtain⟨r156,e_r156,b⟩:=bnd b
     obtain⟨r157,e_r157,b⟩:=bnd b
     simp only[ZI,ZP]at b
     obtain⟨rfl,rfl,rfl,rfl,rfl⟩:=b
     exact qG.rq fol [2,5,10,12,16,18,22,32,34] (kC w (kAA r157)) (kD m.Kind m.At m.Letter (.cells [.i 3,.func (.func 121) [] [],.func (.func 122) [] []]::(kE f q X r156 []))) (ac (cv (qa false 13 u)) (ac (gw F) (ac (cv (qa (!decide (m.Letter=0)) 1 a7)) (ac (gw e7) (ac (cv (qw n m.Letter e_r151)) (ac (cv (qa r151 3 e_r152)) (ac (gw c153) (ac (cv (qa (decide (m.At>(w64 ((w.length:Int)-3)))) 3 e_r156)) (ac (hs (.call 33 [.slice 2 0 4 4 1] (kD m.Kind m.At m.Letter (.cells [.i 3,.func (.func 121) [] [],.func (.func 122) [] []]::(kE f q X r156 []))) [2] [vl encI ([f,q,X,r156]:List Int)] (.i r157)) (qM (FzL.cons (Fz.lit rfl rfl (Uc (AllST.cons tI (AllST.cons tI (AllST.cons tI (AllST.cons tI AllST.nil)))))) FzL.nil) (qg N ([f,q,X,r156]:List Int) e_r157) tI rfl)) az)))))))))
    obtain⟨Y,e_r158,b⟩:=bnd b
    rcases wyD b with⟨c159,b⟩|⟨c159,b⟩
    ·obtain⟨r160,e_r160,b⟩:=bnd b
     obtain⟨r161,e_r161,b⟩:=bnd b
     simp only[ZI,ZP]at b
     obtain⟨rfl,rfl,rfl,rfl,rfl⟩:=b
     exact qG.rq fol [2,5,10,12,18,22,32,34] (kC w (kAA r161)) (kD m.Kind m.At m.Letter (.cells [.i 3,.func (.func 121) [] [],.func (.func 122) [] []]::(kE f q Y r160 []))) (ac (cv (qa false 13 u)) (ac (gw F) (ac (cv (qa (!decide (m.Letter=0)) 1 a7)) (ac (gw e7) (ac (cv (qa false 3 e_r158)) (ac (gw c159) (ac (cv (qa true 3 e_r160)) (ac (hs (.call 33 [.slice 2 0 4 4 1] (kD m.Kind m.At m.Letter (.cells [.i 3,.func (.func 121) [] [],.func (.func 122) [] []]::(kE f q Y r160 []))) [2] [vl encI ([f,q,Y,r160]:List Int)] (.i r161)) (qM (FzL.cons (Fz.lit rfl rfl (Uc (AllST.cons tI (AllST.cons tI (AllST.cons tI (AllST.cons tI AllST.nil)))))) FzL.nil) (qg N ([f,q,Y,r160]:List Int) e_r161) tI rfl)) az))))))))
    obtain⟨r162,e_r162,b⟩:=bnd b
    obtain⟨r163,e_r163,b⟩:=bnd b
    simp only[ZI,ZP]at b
    obtain⟨rfl,rfl,rfl,rfl,rfl⟩:=b
    exact qG.rq fol [2,5,10,12,18,22,32,34] (kC w (kAA r163)) (kD m.Kind m.At m.Letter (.cells [.i 3,.func (.func 121) [] [],.func (.func 122) [] []]::(kE f q Y r162 []))) (ac (cv (qa false 13 u)) (ac (gw F) (ac (cv (qa (!decide (m.Letter=0)) 1 a7)) (ac (gw e7) (ac (cv (qa false 3 e_r158)) (ac (gw c159) (ac (cv (qa (decide (m.At>(w64 ((w.length:Int)-3)))) 3 e_r162)) (ac (hs (.call 33 [.slice 2 0 4 4 1] (kD m.Kind m.At m.Letter (.cells [.i 3,.func (.func 121) [] [],.func (.func 122) [] []]::(kE f q Y r162 []))) [2] [vl encI ([f,q,Y,r162]:List Int)] (.i r163)) (qM (FzL.cons (Fz.lit rfl rfl (Uc (AllST.cons tI (AllST.cons tI (AllST.cons tI (AllST.cons tI AllST.nil)))))) FzL.nil) (qg N ([f,q,Y,r162]:List Int) e_r163) tI rfl)) az))))))))
   obtain⟨r,a8,b⟩:=bnd b
   rcases wyB b with⟨e8,b⟩|⟨e8,b⟩
   ·obtain⟨r166,e_r166,b⟩:=bnd b
    obtain⟨Z,e_r167,b⟩:=bnd b
    rcases wyD b with⟨c168,b⟩|⟨c168,b⟩
    ·obtain⟨r169,e_r169,b⟩:=bnd b
     obtain⟨r170,e_r170,b⟩:=bnd b
     simp only[ZI,ZP]at b
     obtain⟨rfl,rfl,rfl,rfl,rfl⟩:=b
     exact qG.rq fol [2,5,10,12,16,18,22,32,34] (kC w (kAA r170)) (kD m.Kind m.At m.Letter (.cells [.i 3,.func (.func 121) [] [],.func (.func 122) [] []]::(kE f r Z r169 []))) (ac (cv (qa false 13 u)) (ac (gw F) (ac (cv (qa false 1 a8)) (ac (gw e8) (ac (cv (qw n m.Letter e_r166)) (ac (cv (qa r166 3 e_r167)) (ac (gw c168) (ac (cv (qa true 3 e_r169)) (ac (hs (.call 33 [.slice 2 0 4 4 1] (kD m.Kind m.At m.Letter (.cells [.i 3,.func (.func 121) [] [],.func (.func 122) [] []]::(kE f r Z r169 []))) [2] [vl encI ([f,r,Z,r169]:List Int)] (.i r170)) (qM (FzL.cons (Fz.lit rfl rfl (Uc (AllST.cons tI (AllST.cons tI (AllST.cons tI (AllST.cons tI AllST.nil)))))) FzL.nil) (qg N ([f,r,Z,r169]:List Int) e_r170) tI rfl)) az)))))))))
    obtain⟨r171,e_r171,b⟩:=bnd b
    obtain⟨r172,e_r172,b⟩:=bnd b
    simp only[ZI,ZP]at b
    obtain⟨rfl,rfl,rfl,rfl,rfl⟩:=b
    exact qG.rq fol [2,5,10,12,16,18,22,32,34] (kC w (kAA r172)) (kD m.Kind m.At m.Letter (.cells [.i 3,.func (.func 121) [] [],.func (.func 122) [] []]::(kE f r Z r171 []))) (ac (cv (qa false 13 u)) (ac (gw F) (ac (cv (qa false 1 a8)) (ac (gw e8) (ac (cv (qw n m.Letter e_r166)) (ac (cv (qa r166 3 e_r167)) (ac (gw c168) (ac (cv (qa (decide (m.At>(w64 ((w.length:Int)-3)))) 3 e_r171)) (ac (hs (.call 33 [.slice 2 0 4 4 1] (kD m.Kind m.At m.Letter (.cells [.i 3,.func (.func 121) [] [],.func (.func 122) [] []]::(kE f r Z r171 []))) [2] [vl encI ([f,r,Z,r171]:List Int)] (.i r172)) (qM (FzL.cons (Fz.lit rfl rfl (Uc (AllST.cons tI (AllST.cons tI (AllST.cons tI (AllST.cons tI AllST.nil)))))) FzL.nil) (qg N ([f,r,Z,r171]:List Int) e_r172) tI rfl)) az)))))))))
   obtain⟨a0,e_r173,b⟩:=bnd b
   rcases wyD b with⟨c174,b⟩|⟨c174,b⟩
   ·obtain⟨r175,e_r175,b⟩:=bnd b
    obtain⟨r176,e_r176,b⟩:=bnd b
    simp only[ZI,ZP]at b
    obtain⟨rfl,rfl,rfl,rfl,rfl⟩:=b
    exact qG.rq fol [2,5,10,12,18,22,32,34] (kC w (kAA r176)) (kD m.Kind m.At m.Letter (.cells [.i 3,.func (.func 121) [] [],.func (.func 122) [] []]::(kE f r a0 r175 []))) (ac (cv (qa false 13 u)) (ac (gw F) (ac (cv (qa false 1 a8)) (ac (gw e8) (ac (cv (qa false 3 e_r173)) (ac (gw c174) (ac (cv (qa true 3 e_r175)) (ac (hs (.call 33 [.slice 2 0 4 4 1] (kD m.Kind m.At m.Letter (.cells [.i 3,.func (.func 121) [] [],.func (.func 122) [] []]::(kE f r a0 r175 []))) [2] [vl encI ([f,r,a0,r175]:List Int)] (.i r176)) (qM (FzL.cons (Fz.lit rfl rfl (Uc (AllST.cons tI (AllST.cons tI (AllST.cons tI (AllST.cons tI AllST.nil)))))) FzL.nil) (qg N ([f,r,a0,r175]:List Int) e_r176) tI rfl)) az))))))))
   obtain⟨r177,e_r177,b⟩:=bnd b
   obtain⟨r178,e_r178,b⟩:=bnd b
   simp only[ZI,ZP]at b
   obtain⟨rfl,rfl,rfl,rfl,rfl⟩:=b
   exact qG.rq fol [2,5,10,12,18,22,32,34] (kC w (kAA r178)) (kD m.Kind m.At m.Letter (.cells [.i 3,.func (.func 121) [] [],.func (.func 122) [] []]::(kE f r a0 r177 []))) (ac (cv (qa false 13 u)) (ac (gw F) (ac (cv (qa false 1 a8)) (ac (gw e8) (ac (cv (qa false 3 e_r173)) (ac (gw c174) (ac (cv (qa (decide (m.At>(w64 ((w.length:Int)-3)))) 3 e_r177)) (ac (hs (.call 33 [.slice 2 0 4 4 1] (kD m.Kind m.At m.Letter (.cells [.i 3,.func (.func 121) [] [],.func (.func 122) [] []]::(kE f r a0 r177 []))) [2] [vl encI ([f,r,a0,r177]:List Int)] (.i r178)) (qM (FzL.cons (Fz.lit rfl rfl (Uc (AllST.cons tI (AllST.cons tI (AllST.cons tI (AllST.cons tI AllST.nil)))))) FzL.nil) (qg N ([f,r,a0,r177]:List Int) e_r178) tI rfl)) az))))))))
  try dsimp only at h
  refine sh fol (kC w [(11,.i e6),(59,.bool (!decide (e6=0)))]) ?_
  refine ihB h (fun c185 h=>?_) (fun c185 h=>?_)
  ·refine sh fol (kAJ [(7,.i e6)]) ?_
   refine Goes.ret ?_
   obtain rfl:=si h
   exact(gw2 (kAY e6) (FzW.tuple (qo.cons (FzW.nilv (E:=encI)) (qo.cons (Ua tI) qo.nil))))
  refine Goes.skip ?_
  obtain⟨b2,e_s186,h⟩:=bnd h
  refine sq (gr fol [8] (kC w [(12,vl encI b2)]) (ac (hs (.done (.opt (yf ZT 22 (vl encI w) (some (.i m.At)) (some (.i (w64 (m.At+3)))) none)) (vl encI b2)) (qdX ja (E:=encI) rfl (some m.At) (some (w64 (m.At+3))) e_s186)) az) ?_)
  refine sq ?_
  obtain⟨r187,e_r187,h⟩:=bnd h
  refine sq (gr fol [3] (kC w [(12,vl encI b2),(74,.bool (!r187))]) (ac (cv (qfD b2 e_r187)) az) ?_)
  refine ihB h (fun c188 h=>?_) (fun c188 h=>?_)
  ·refine sh fol (kAJ [(7,.i 18)]) ?_
   refine Goes.ret ?_
   obtain rfl:=si h
   exact(gw2 kAk (FzW.tuple (qo.cons (FzW.nilv (E:=encI)) (qo.cons (Ua tI) qo.nil))))
  refine Goes.skip ?_
  obtain⟨_,e_r189,h⟩:=bnd h
  obtain⟨l191,e_r190,h⟩:=bnd h
  obtain⟨e9,e_r192,h⟩:=bnd h
  refine sq (gq fol [1,13,14] [(6,.oslice 4 e9.length 1),(7,.i 0)] (kD m.Kind m.At m.Letter (.cells [.i 3,.func (.func 121) [] [],.func (.func 122) [] []]::(kE T U V W (.dead::(kA e9 []))))) (ac (hs (.callH 46 [vl encI w] (kD m.Kind m.At m.Letter (.cells [.i 3,.func (.func 121) [] [],.func (.func 122) [] []]::(kE T U V W []))) [] (.gslice 3 w.length 1) (kD m.Kind m.At m.Letter (.cells [.i 3,.func (.func 121) [] [],.func (.func 122) [] []]::(kE T U V W (kA w []))))) (jc [] [none,none,none,some 0] (qbB w e_r189) .nil rfl rfl (.old rfl rfl (.old rfl rfl (.old rfl rfl (.new rfl rfl (.same fa) rfl .nil)))) (rc (.same (qj encI _)) rn) (.gslice rfl) rfl)) (ac (hs (.callH 122 (kAL b2 m.Kind m.At m.Letter) (kD m.Kind m.At m.Letter (.cells [.i 3,.func (.func 121) [] [],.func (.func 122) [] []]::(kE T U V W (kA w [])))) [] (vl encI l191) (kD m.Kind m.At m.Letter (.cells [.i 3,.func (.func 121) [] [],.func (.func 122) [] []]::(kE T U V W (kA w []))))) (jc [] [none,none,none,none] (qdr b2 m.Kind m.At m.Letter e_r190) .nil rfl rfl (.old rfl rfl (.old rfl rfl (.old rfl rfl (.old rfl rfl .nil)))) (rc (.same (qj encI _)) (rc (.same (qy.agg sn)) rn)) (.same (qj encI _)) rfl)) (ac (hs (.callH 98 [.gslice 3 w.length 1,.i m.At,.i (w64 (m.At+3)),vl encI l191] (kD m.Kind m.At m.Letter (.cells [.i 3,.func (.func 121) [] [],.func (.func 122) [] []]::(kE T U V W (kA w [])))) [3] (.oslice 4 e9.length 1) (kD m.Kind m.At m.Letter (.cells [.i 3,.func (.func 121) [] [],.func (.func 122) [] []]::(kE T U V W (.dead::(kA e9 [])))))) (jc [some 3] [none,none,none,none,some 1] (qkS w m.At (w64 (m.At+3)) l191 e_r192) (.ks .nil) rfl rfl (.old rfl rfl (.old rfl rfl (.old rfl rfl (.dead (.new rfl rfl (.same fa) rfl .nil))))) (rc (.gslice rfl) (rc (.same nI) (rc (.same nI) (rc (.same (qj encI _)) rn)))) (.oslice rfl) rfl)) az))) ?_)
  refine Goes.ret ?_
  obtain rfl:=si h
  exact(gw2 [.oslice 4 e9.length 1,.i 0] (FzW.tuple (qo.cons (Ur (Fz.os (E:=encI) rfl rfl (nl rfl))) (qo.cons (Ua tI) qo.nil))))
 refine gq fol [0,3] ((0,.i n)::(kC w [(9,.bool false)])) (kD m.Kind m.At m.Letter (kP [])) (ac (cv (xg b7)) (ac (hs (.done (vG ZT 145 (fm1) (.str m.Kind) true) (.tuple [.agg [.i 0,.nilfunc,.nilfunc],.bool false])) (qmL qhy [[105,110,115,101,114,116],[99,97,110,99,101,108],[115,119,97,112],[116,117,114,110]] (vX c2 (vX c3 (vX c4 (vX c5 (rfl))))))) az)) ?_
 refine sh fol ((0,.i n)::(kC w [(9,.bool false),(10,.bool (m.Kind==[105,110,115,101,114,116]))])) ?_
 refine sq ?_
 refine sq ?_
 obtain⟨⟨n226,n227,n228,n229,f0⟩,c,h⟩:=bnd h
 refine Goes.cut (s':=(ofG 90 (kC w (kAA f0)),(kD m.Kind m.At m.Letter (kP (kE n226 n227 n228 n229 []))))) ?_ ?_
 ·obtain⟨g,v,c⟩:=bnd c
  rcases wyB c with⟨G,c⟩|⟨G,c⟩
  ·obtain⟨s,a9,c⟩:=bnd c
   rcases wyB c with⟨f1,c⟩|⟨f1,c⟩
   ·obtain⟨r198,e_r198,c⟩:=bnd c
    obtain⟨a1,e_r199,c⟩:=bnd c
    rcases wyD c with⟨c200,c⟩|⟨c200,c⟩
    ·obtain⟨r201,e_r201,c⟩:=bnd c
     obtain⟨r202,e_r202,c⟩:=bnd c
     simp only[ZI,ZP]at c
     obtain⟨rfl,rfl,rfl,rfl,rfl⟩:=c
     exact qG.rq fol [2,5,10,12,16,18,22,32,34] (kC w (kAA r202)) (kD m.Kind m.At m.Letter (kP (kE g s a1 r201 []))) (ac (cv (qa true 13 v)) (ac (gw G) (ac (cv (qa (!decide (m.Letter=0)) 1 a9)) (ac (gw f1) (ac (cv (qw n m.Letter e_r198)) (ac (cv (qa r198 3 e_r199)) (ac (gw c200) (ac (cv (qa true 3 e_r201)) (ac (hs (.call 33 [.slice 2 0 4 4 1] (kD m.Kind m.At m.Letter (kP (kE g s a1 r201 []))) [2] [vl encI ([g,s,a1,r201]:List Int)] (.i r202)) (qM (FzL.cons (Fz.lit rfl rfl (Uc (AllST.cons tI (AllST.cons tI (AllST.cons tI (AllST.cons tI AllST.nil)))))) FzL.nil) (qg N ([g,s,a1,r201]:List Int) e_r202) tI rfl)) az)))))))))
    obtain⟨r203,e_r203,c⟩:=bnd c
    obtain⟨r204,e_r204,c⟩:=bnd c
    simp only[ZI,ZP]at c
    obtain⟨rfl,rfl,rfl,rfl,rfl⟩:=c
    exact qG.rq fol [2,5,10,12,16,18,22,32,34] (kC w (kAA r204)) (kD m.Kind m.At m.Letter (kP (kE g s a1 r203 []))) (ac (cv (qa true 13 v)) (ac (gw G) (ac (cv (qa (!decide (m.Letter=0)) 1 a9)) (ac (gw f1) (ac (cv (qw n m.Letter e_r198)) (ac (cv (qa r198 3 e_r199)) (ac (gw c200) (ac (cv (qa (decide (m.At>(w64 ((w.length:Int)-0)))) 3 e_r203)) (ac (hs (.call 33 [.slice 2 0 4 4 1] (kD m.Kind m.At m.Letter (kP (kE g s a1 r203 []))) [2] [vl encI ([g,s,a1,r203]:List Int)] (.i r204)) (qM (FzL.cons (Fz.lit rfl rfl (Uc (AllST.cons tI (AllST.cons tI (AllST.cons tI (AllST.cons tI AllST.nil)))))) FzL.nil) (qg N ([g,s,a1,r203]:List Int) e_r204) tI rfl)) az)))))))))
   obtain⟨a2,e_r205,c⟩:=bnd c
   rcases wyD c with⟨c206,c⟩|⟨c206,c⟩
   ·obtain⟨r207,e_r207,c⟩:=bnd c
    obtain⟨r208,e_r208,c⟩:=bnd c
    simp only[ZI,ZP]at c
    obtain⟨rfl,rfl,rfl,rfl,rfl⟩:=c
    exact qG.rq fol [2,5,10,12,18,22,32,34] (kC w (kAA r208)) (kD m.Kind m.At m.Letter (kP (kE g s a2 r207 []))) (ac (cv (qa true 13 v)) (ac (gw G) (ac (cv (qa (!decide (m.Letter=0)) 1 a9)) (ac (gw f1) (ac (cv (qa false 3 e_r205)) (ac (gw c206) (ac (cv (qa true 3 e_r207)) (ac (hs (.call 33 [.slice 2 0 4 4 1] (kD m.Kind m.At m.Letter (kP (kE g s a2 r207 []))) [2] [vl encI ([g,s,a2,r207]:List Int)] (.i r208)) (qM (FzL.cons (Fz.lit rfl rfl (Uc (AllST.cons tI (AllST.cons tI (AllST.cons tI (AllST.cons tI AllST.nil)))))) FzL.nil) (qg N ([g,s,a2,r207]:List Int) e_r208) tI rfl)) az))))))))
   obtain⟨r209,e_r209,c⟩:=bnd c
   obtain⟨r210,e_r210,c⟩:=bnd c
   simp only[ZI,ZP]at c
   obtain⟨rfl,rfl,rfl,rfl,rfl⟩:=c
   exact qG.rq fol [2,5,10,12,18,22,32,34] (kC w (kAA r210)) (kD m.Kind m.At m.Letter (kP (kE g s a2 r209 []))) (ac (cv (qa true 13 v)) (ac (gw G) (ac (cv (qa (!decide (m.Letter=0)) 1 a9)) (ac (gw f1) (ac (cv (qa false 3 e_r205)) (ac (gw c206) (ac (cv (qa (decide (m.At>(w64 ((w.length:Int)-0)))) 3 e_r209)) (ac (hs (.call 33 [.slice 2 0 4 4 1] (kD m.Kind m.At m.Letter (kP (kE g s a2 r209 []))) [2] [vl encI ([g,s,a2,r209]:List Int)] (.i r210)) (qM (FzL.cons (Fz.lit rfl rfl (Uc (AllST.cons tI (AllST.cons tI (AllST.cons tI (AllST.cons tI AllST.nil)))))) FzL.nil) (qg N ([g,s,a2,r209]:List Int) e_r210) tI rfl)) az))))))))
  obtain⟨t,b0,c⟩:=bnd c
  rcases wyB c with⟨f2,c⟩|⟨f2,c⟩
  ·obtain⟨r213,e_r213,c⟩:=bnd c
   obtain⟨a3,e_r214,c⟩:=bnd c
   rcases wyD c with⟨c215,c⟩|⟨c215,c⟩
   ·obtain⟨r216,e_r216,c⟩:=bnd c
    obtain⟨r217,e_r217,c⟩:=bnd c
    simp only[ZI,ZP]at c
    obtain⟨rfl,rfl,rfl,rfl,rfl⟩:=c
    exact qG.rq fol [2,5,10,12,16,18,22,32,34] (kC w (kAA r217)) (kD m.Kind m.At m.Letter (kP (kE g t a3 r216 []))) (ac (cv (qa true 13 v)) (ac (gw G) (ac (cv (qa false 1 b0)) (ac (gw f2) (ac (cv (qw n m.Letter e_r213)) (ac (cv (qa r213 3 e_r214)) (ac (gw c215) (ac (cv (qa true 3 e_r216)) (ac (hs (.call 33 [.slice 2 0 4 4 1] (kD m.Kind m.At m.Letter (kP (kE g t a3 r216 []))) [2] [vl encI ([g,t,a3,r216]:List Int)] (.i r217)) (qM (FzL.cons (Fz.lit rfl rfl (Uc (AllST.cons tI (AllST.cons tI (AllST.cons tI (AllST.cons tI AllST.nil)))))) FzL.nil) (qg N ([g,t,a3,r216]:List Int) e_r217) tI rfl)) az)))))))))
   obtain⟨r218,e_r218,c⟩:=bnd c
   obtain⟨r219,e_r219,c⟩:=bnd c
   simp only[ZI,ZP]at c
   obtain⟨rfl,rfl,rfl,rfl,rfl⟩:=c
   exact qG.rq fol [2,5,10,12,16,18,22,32,34] (kC w (kAA r219)) (kD m.Kind m.At m.Letter (kP (kE g t a3 r218 []))) (ac (cv (qa true 13 v)) (ac (gw G) (ac (cv (qa false 1 b0)) (ac (gw f2) (ac (cv (qw n m.Letter e_r213)) (ac (cv (qa r213 3 e_r214)) (ac (gw c215) (ac (cv (qa (decide (m.At>(w64 ((w.length:Int)-0)))) 3 e_r218)) (ac (hs (.call 33 [.slice 2 0 4 4 1] (kD m.Kind m.At m.Letter (kP (kE g t a3 r218 []))) [2] [vl encI ([g,t,a3,r218]:List Int)] (.i r219)) (qM (FzL.cons (Fz.lit rfl rfl (Uc (AllST.cons tI (AllST.cons tI (AllST.cons tI (AllST.cons tI AllST.nil)))))) FzL.nil) (qg N ([g,t,a3,r218]:List Int) e_r219) tI rfl)) az)))))))))
  obtain⟨a4,e_r220,c⟩:=bnd c
  rcases wyD c with⟨c221,c⟩|⟨c221,c⟩
  ·obtain⟨r222,e_r222,c⟩:=bnd c
   obtain⟨r223,e_r223,c⟩:=bnd c
   simp only[ZI,ZP]at c
   obtain⟨rfl,rfl,rfl,rfl,rfl⟩:=c
   exact qG.rq fol [2,5,10,12,18,22,32,34] (kC w (kAA r223)) (kD m.Kind m.At m.Letter (kP (kE g t a4 r222 []))) (ac (cv (qa true 13 v)) (ac (gw G) (ac (cv (qa false 1 b0)) (ac (gw f2) (ac (cv (qa false 3 e_r220)) (ac (gw c221) (ac (cv (qa true 3 e_r222)) (ac (hs (.call 33 [.slice 2 0 4 4 1] (kD m.Kind m.At m.Letter (kP (kE g t a4 r222 []))) [2] [vl encI ([g,t,a4,r222]:List Int)] (.i r223)) (qM (FzL.cons (Fz.lit rfl rfl (Uc (AllST.cons tI (AllST.cons tI (AllST.cons tI (AllST.cons tI AllST.nil)))))) FzL.nil) (qg N ([g,t,a4,r222]:List Int) e_r223) tI rfl)) az))))))))
  obtain⟨r224,e_r224,c⟩:=bnd c
  obtain⟨r225,e_r225,c⟩:=bnd c
  simp only[ZI,ZP]at c
  obtain⟨rfl,rfl,rfl,rfl,rfl⟩:=c
  exact qG.rq fol [2,5,10,12,18,22,32,34] (kC w (kAA r225)) (kD m.Kind m.At m.Letter (kP (kE g t a4 r224 []))) (ac (cv (qa true 13 v)) (ac (gw G) (ac (cv (qa false 1 b0)) (ac (gw f2) (ac (cv (qa false 3 e_r220)) (ac (gw c221) (ac (cv (qa (decide (m.At>(w64 ((w.length:Int)-0)))) 3 e_r224)) (ac (hs (.call 33 [.slice 2 0 4 4 1] (kD m.Kind m.At m.Letter (kP (kE g t a4 r224 []))) [2] [vl encI ([g,t,a4,r224]:List Int)] (.i r225)) (qM (FzL.cons (Fz.lit rfl rfl (Uc (AllST.cons tI (AllST.cons tI (AllST.cons tI (AllST.cons tI AllST.nil)))))) FzL.nil) (qg N ([g,t,a4,r224]:List Int) e_r225) tI rfl)) az))))))))
 try dsimp only at h
 refine sh fol (kC w [(11,.i f0),(59,.bool (!decide (f0=0)))]) ?_
 refine ihB h (fun c232 h=>?_) (fun c232 h=>?_)
 ·refine sh fol (kAJ [(7,.i f0)]) ?_
  refine Goes.ret ?_
  obtain rfl:=si h
  exact(gw2 (kAY f0) (FzW.tuple (qo.cons (FzW.nilv (E:=encI)) (qo.cons (Ua tI) qo.nil))))
 refine Goes.skip ?_
 obtain⟨s233,e_s233,h⟩:=bnd h
 refine sq (gr fol [8] (kC w [(12,vl encI s233)]) (ac (hs (.done (.opt (yf ZT 22 (vl encI w) (some (.i m.At)) (some (.i (w64 (m.At+0)))) none)) (vl encI s233)) (qdX ja (E:=encI) rfl (some m.At) (some (w64 (m.At+0))) e_s233)) az) ?_)
 refine sq ?_
 refine sq ?_
 cases h
def vC (N:Nat) (n:Int) (l:List zw):Nat->(List Int)->Int->Option ((List Int)⊕((List Int)×Int))
 |0,_,_=>none
 |K+1,c,b=>
  if b<(l.length:Int)then
  (idx l b).bind fun d=>
  (zJ N n c d).bind fun a=>
  if(!decide (a.2=0))=true then
  some (.inr ([],a.2))
  else
  vC N n l K a.1 (w64 (b+1))
  else
  some (.inl c)
def qaz (N:Nat) (n:Int) (w:List Int) (l:List zw):Option ((List Int)×Int):=
 if(l.length:Int)>100000 then
 some ([],5)
 else
 (qbZ w).bind fun _=>
 (vC N n l N w 0).bind (fun
 |(.inl b)=>
 some (b,0)
 |(.inr a)=>
 some a)
theorem qfg (N:Nat) (n:Int) (w:List Int) (l:List zw) {res:(List Int)×Int} (h:qaz N n w l=some res):qf ZT (.fn 28) [.i n,vl encI w,vl qx l] [] (.tuple (kAU res.1 res.2)) []:=by
 unfold qaz at h
 refine Ub Tryz.func28 rfl rfl (m:=36) rfl (rs:=[.tmp 6,.tmp 7]) rfl (l:=(kG n w (kAO l []))) rfl ?_
 refine sh fol (kG n w (kAO l [])) ?_
 refine sq ?_
 refine sh fol (kG n w (kAO l [(14,.bool (decide ((l.length:Int)>100000)))])) ?_
 refine ihD h (fun q h=>?_) (fun q h=>?_)
 ·refine sh fol (kAJ [(7,.i 5)]) ?_
  refine Goes.ret ?_
  obtain rfl:=si h
  exact(gw2 [.nilslice,.i 5] (FzW.tuple (qo.cons (FzW.nilv (E:=encI)) (qo.cons (Ua tI) qo.nil))))
 refine Goes.skip ?_
 obtain⟨_,f,h⟩:=bnd h
 refine sq (gq fol [1] ((0,.i n)::(1,.gslice 0 w.length 1)::(kAO l [])) (kA w []) (ac (hs (.callH 46 [vl encI w] [] [] (.gslice 0 w.length 1) (kA w [])) (jc [] [some 0] (qbB w f) .nil rfl rfl (.new rfl rfl (.same fa) rfl .nil) (rc (.same (qj encI _)) rn) (.gslice rfl) rfl)) az) ?_)
 refine sq ?_
 refine sh fol [(0,.i n),(1,.gslice 0 w.length 1),(17,vl qx l),(18,.i (l.length:Int)),(19,.i 0)] ?_
 refine Goes.block ?_
 obtain⟨k,g6,h⟩:=bnd h
 refine Goes.imp (Q:=fun x s'=>(x= .exit 0/\ ∃g,(.inl g)=k/\Sub s' (ofG 36 [(1,vl encI g)],[]))\/(x= .ret/\ ∃o,(.inr o)=k/\jw ZT [.tmp 6,.tmp 7] (.tuple (kAU o.1 o.2)) .ret s')) ?_ ?_
 ·refine Goes.sub (s':=(ofG 36 (kG n w [(17,vl qx l),(18,.i (l.length:Int)),(19,.i 0)]),[])) (Sub.norm [0] [] rfl rfl (.keep (.same nI) (.keep (.frz (Fz.gs (E:=encI) rfl rfl (nl rfl)) (qj encI _)) (.keep (.same (qj qx _)) (.keep (.same nI) (.keep (.same nI) .nil))))) .nil) ?_
  refine Uf (fun M s=> ∃(e:List Int) (b:Int),s=(ofG 36 (kG n e (kAN l (l.length:Int) b [])),[])/\vC N n l M e b=some k) ?_ (m:=N) ⟨_,_,rfl,g6⟩
  rintro M s ⟨e,b,rfl,g6⟩
  cases M with
  |zero=>simp only[vC]at g6;cases g6
  |succ M=>
   rw[vC]at g6
   refine sh fol (kG n e (kAN l (l.length:Int) b [(20,.bool (decide (b<(l.length:Int))))])) ?_
   refine sq ?_
   refine ihD g6 (fun r g6=>?_) (fun r g6=>?_)
   ·refine Goes.skip ?_
    refine sq (Goes.block ?_)
    obtain⟨j,c,g6⟩:=bnd g6
    refine sq (gq fol [0,1] (kG n e ((9,.ptr 0 0)::(kAN l (l.length:Int) b []))) (kD j.Kind j.At j.Letter []) (ac (iv sl23 qx c) (ac (la ag57 qx c) az)) ?_)
    obtain⟨a,d,g6⟩:=bnd g6
    refine sq (gr fol [3] ((0,.i n)::(10,vl encI a.1)::(11,.i a.2)::(kAN l (l.length:Int) b [])) (ac (cv (qe3 N n e j d)) az) ?_)
    refine sq ?_
    refine sh fol ((0,.i n)::(10,vl encI a.1)::(11,.i a.2)::(kAN l (l.length:Int) b [(31,.bool (!decide (a.2=0)))])) ?_
    refine ihB g6 (fun p g6=>?_) (fun p g6=>?_)
    ·refine sh fol (kAJ [(7,.i a.2)]) ?_
     refine Goes.ret ?_
     obtain rfl:=si g6
     exact Or.inr (⟨rfl,_,rfl,(gw2 (kAY a.2) (FzW.tuple (qo.cons (FzW.nilv (E:=encI)) (qo.cons (Ua tI) qo.nil))))⟩)
    refine Goes.skip ?_
    refine gh fol (kG n a.1 (kAN l (l.length:Int) b [])) ?_
    refine gh fol (kG n a.1 (kAN l (l.length:Int) (w64 (b+1)) [])) ?_
    exact⟨M,(ofG 36 (kG n a.1 (kAN l (l.length:Int) (w64 (b+1)) [])),[]),Nat.lt_succ_self _,(Sub.norm [] [] rfl rfl (.keep (.same nI) (.keep (.same (qj encI _)) (.keep (.same (qj qx _)) (.keep (.same nI) (.keep (.same nI) .nil))))) .nil),_,_,rfl,g6⟩
   refine Goes.exit ?_
   obtain rfl:=si g6
   exact Or.inl (⟨rfl,_,rfl,(Sub.keep [1] rfl rfl)⟩)
 rintro x s' (⟨rfl,g,rfl,hsub⟩|⟨rfl,t,rfl,hret⟩)
 ·try dsimp only at h
  refine Goes.sub hsub ?_
  refine sh fol [(6,vl encI g),(7,.i 0)] ?_
  refine Goes.ret ?_
  obtain rfl:=si h
  exact(gw2 [vl encI g,.i 0] (FzW.tuple (qo.cons (Ua (zq encI _ (nl rfl))) (qo.cons (Ua tI) qo.nil))))
 try dsimp only at h
 obtain rfl:=si h
 exact hret
def yK (w:List Int):Option ((List Int)×Int):=
 if(w.length:Int)>200 then
 some ([],5)
 else
 some (w,0)
theorem qbz (w:List Int) {res:(List Int)×Int} (h:yK w=some res):qf ZT (.fn 29) [vl encI w] [] (.tuple (kAU res.1 res.2)) []:=by
 unfold yK at h
 refine Ub Tryz.func29 rfl rfl (m:=8) rfl (rs:=[.tmp 2,.tmp 3]) rfl (l:=(kQ w [])) rfl ?_
 refine sh fol (kQ w []) ?_
 refine sq ?_
 refine sh fol (kQ w [(6,.bool (decide ((w.length:Int)>200)))]) ?_
 refine ihD h (fun a h=>?_) (fun a h=>?_)
 ·refine sh fol [(2,.nilslice),(3,.i 5)] ?_
  refine Goes.ret ?_
  obtain rfl:=si h
  exact(gw2 [.nilslice,.i 5] (FzW.tuple (qo.cons (FzW.nilv (E:=encI)) (qo.cons (Ua tI) qo.nil))))
 refine Goes.skip ?_
 refine sh fol [(2,vl encI w),(3,.i 0)] ?_
 refine Goes.ret ?_
 obtain rfl:=si h
 exact(gw2 [vl encI w,.i 0] (FzW.tuple (qo.cons (Ua (zq encI _ (nl rfl))) (qo.cons (Ua tI) qo.nil))))
def qaG (N:Nat) (n:Int) (w:List Int) (l:List zw):Option ((List Int)×Int):=
 (zt N n w).bind fun b=>
 if(!decide (b=0))=true then
 some ([],b)
 else
 (qaz N n w l).bind fun a=>
 if(!decide (a.2=0))=true then
 some ([],a.2)
 else
 (yK a.1).bind fun c=>
 some (c.1,c.2)
theorem qfq (N:Nat) (n:Int) (w:List Int) (l:List zw) {res:(List Int)×Int} (h:qaG N n w l=some res):qf ZT (.fn 9) [.i n,vl encI w,vl qx l] [] (.tuple (kAU res.1 res.2)) []:=by
 unfold qaG at h
 refine Ub Tryz.func9 rfl rfl (m:=31) rfl (rs:=[.tmp 6,.tmp 7]) rfl (l:=(kG n w (kAO l []))) rfl ?_
 refine sh fol (kG n w (kAO l [])) ?_
 refine sq ?_
 obtain⟨b,c,h⟩:=bnd h
 refine sq (gr fol [2] (kG n w (kAO l [(8,.i b)])) (ac (cv (jG N n w c)) az) ?_)
 refine sh fol (kG n w (kAO l [(8,.i b),(15,.bool (!decide (b=0)))])) ?_
 refine ihB h (fun g h=>?_) (fun g h=>?_)
 ·refine sh fol (kAJ [(7,.i b)]) ?_
  refine Goes.ret ?_
  obtain rfl:=si h
  exact(gw2 (kAY b) (FzW.tuple (qo.cons (FzW.nilv (E:=encI)) (qo.cons (Ua tI) qo.nil))))
 refine Goes.skip ?_
 obtain⟨a,d,h⟩:=bnd h
 refine sq (gr fol [3] (kAZ a.1 a.2 []) (ac (cv (qfg N n w l d)) az) ?_)
 refine sq ?_
 refine sh fol (kAZ a.1 a.2 [(25,.bool (!decide (a.2=0)))]) ?_
 refine ihB h (fun j h=>?_) (fun j h=>?_)
 ·refine sh fol (kAJ [(7,.i a.2)]) ?_
  refine Goes.ret ?_
  obtain rfl:=si h
  exact(gw2 (kAY a.2) (FzW.tuple (qo.cons (FzW.nilv (E:=encI)) (qo.cons (Ua tI) qo.nil))))
 refine Goes.skip ?_
 obtain⟨f,e,h⟩:=bnd h
 refine sq (gr fol [1] (kAS f.1 f.2 []) (ac (cv (qbz a.1 e)) az) ?_)
 refine Goes.ret ?_
 obtain rfl:=si h
 exact(gw2 (kAU f.1 f.2) (FzW.tuple (qo.cons (Ua (zq encI _ (nl rfl))) (qo.cons (Ua tI) qo.nil))))
def ku (p:List Int) (i:Int):Option (List Int):=
 (qcs p).bind fun _=>
 (idx p (w64 (i+1))).bind fun b=>
 (idx p i).bind fun c=>
 (put p i b).bind fun a=>
 (idx a (w64 (i+1))).bind fun e=>
 (put a (w64 (i+1)) c).bind fun d=>
 some d
theorem jN (p:List Int) (i:Int) {res:List Int} (h:ku p i=some res):qf ZT (.fn 61) (kAU p i) [] (vl encI res) []:=by
 unfold ku at h
 refine Ub Tryz.func61 rfl rfl (m:=25) rfl (rs:=[.tmp 4]) rfl (l:=(kQ p [(1,.i i)])) rfl ?_
 refine sh fol (kQ p [(1,.i i)]) ?_
 obtain⟨_,f,h⟩:=bnd h
 refine sq (gq fol [1] [(1,.i i),(5,.gslice 0 p.length 1)] (kA p []) (ac (hs (.callH 72 [vl encI p] [] [] (.gslice 0 p.length 1) (kA p [])) (jc [] [some 0] (qgy p f) .nil rfl rfl (.new rfl rfl (.same fa) rfl .nil) (rc (.same (qj encI _)) rn) (.gslice rfl) rfl)) az) ?_)
 obtain⟨j,b,h⟩:=bnd h
 obtain⟨k,a,h⟩:=bnd h
 obtain⟨n,c,h⟩:=bnd h
 obtain⟨o,g,h⟩:=bnd h
 obtain⟨e,d,h⟩:=bnd h
 refine sq (gq fol [8,9,12,13,14,15,16,17] [(5,.gslice 0 p.length 1)] (kA e []) (ac (hs (.done (.opt (qm ZT 72 (.gslice 0 p.length 1) (.i (w64 (i+1))))) (.ptr 0 ((w64 (i+1):Int).toNat*1+0))) (qb8 qbF b)) (ac (hs (.run [0] (jK ZT 3 (.ptr 0 ((w64 (i+1):Int).toNat*1+0))) (kA p []) (.i j) (kA p []) false) (qcE ce3 (E:=encI) (l:=p) rfl rfl b (nl rfl) rfl)) (ac (hs (.done (.opt (qm ZT 72 (.gslice 0 p.length 1) (.i i))) (.ptr 0 ((i:Int).toNat*1+0))) (qb8 qbF a)) (ac (hs (.run [0] (jK ZT 3 (.ptr 0 ((i:Int).toNat*1+0))) (kA p []) (.i k) (kA p []) false) (qcE ce3 (E:=encI) (l:=p) rfl rfl a (nl rfl) rfl)) (ac (hs (.done (.opt (qm ZT 72 (.gslice 0 p.length 1) (.i i))) (.ptr 0 ((i:Int).toNat*1+0))) (qb8 qbF a)) (ac (hs (.run [0] (yz ZT 3 (.ptr 0 ((i:Int).toNat*1+0)) (.i j)) (kA p []) .undef (kA n []) true) (qbp (E:=encI) (l:=p) (y:=j) rfl (show _=some 1 by kernel_rfl) rfl a rfl rfl rfl rfl rfl c rfl)) (ac (hs (.done (.opt (qm ZT 72 (.gslice 0 p.length 1) (.i (w64 (i+1))))) (.ptr 0 ((w64 (i+1):Int).toNat*1+0))) (qb8 qbF b)) (ac (hs (.run [0] (yz ZT 3 (.ptr 0 ((w64 (i+1):Int).toNat*1+0)) (.i k)) (kA n []) .undef (kA e []) true) (qbp (E:=encI) (l:=n) (y:=k) rfl (show _=some 1 by kernel_rfl) rfl g rfl rfl rfl rfl rfl d rfl)) az)))))))) ?_)
 refine Goes.sub (show Sub (ofG 25 [(5,.gslice 0 p.length 1)],(kA e [])) (ofG 25 [(5,.gslice 0 e.length 1)],(kA e []))from(Sub.norm [] [some 0] rfl rfl (.keep (.gsliceE rfl ((yV c).trans (yV d))) .nil) (.ks .nil))) ?_
 refine sh fol [(4,.gslice 0 e.length 1)] ?_
 refine Goes.ret ?_
 obtain rfl:=si h
 exact(gw2 [.gslice 0 e.length 1] (Ur (Fz.gs (E:=encI) rfl rfl (nl rfl))))
def ko (p:List Int):Nat->(List Int)->Int->Option (List Int)
 |0,_,_=>none
 |K+1,b,a=>
  if a<(p.length:Int)then
  (idx p a).bind fun c=>
  (idx b (w64 ((w64 ((p.length:Int)-1))-a))).bind fun e=>
  (put b (w64 ((w64 ((p.length:Int)-1))-a)) (w64 ((w64 ((p.length:Int)-1))-c))).bind fun d=>
  ko p K d (w64 (a+1))
  else
  some b
def jM (N:Nat) (p:List Int):Option (List Int):=
 (mk 8 (p.length:Int) 0).bind fun a=>
 (ko p N a 0).bind fun b=>
 some b
theorem qbD (N:Nat) (p:List Int) {res:List Int} (h:jM N p=some res):qf ZT (.fn 63) [vl encI p] [] (vl encI res) []:=by
 unfold jM at h
 refine Ub Tryz.func63 rfl rfl (m:=30) rfl (rs:=[.tmp 2]) rfl (l:=(kQ p [])) rfl ?_
 refine sh fol (kQ p []) ?_
 refine sh fol (kQ p [(3,.i (p.length:Int))]) ?_
 obtain⟨j,k,h⟩:=bnd h
 refine sq (gq fol [1] (kQ p [(3,.i (p.length:Int)),(4,.slice 0 0 j.length j.length 1)]) (kA j []) (ac (hs (.run [] (yB ZT 72 (.i (p.length:Int)) (.i (p.length:Int))) [] (.slice 0 0 j.length j.length 1) (kA j []) false) (qgQ qbF (E:=encI) (z:=0) rfl (by kernel_rfl) k rfl)) az) ?_)
 refine sq ?_
 refine sh fol (kM (p.length:Int) j p [(13,.i 0)]) ?_
 refine Goes.block ?_
 obtain⟨o,g5,h⟩:=bnd h
 refine Goes.imp (Q:=fun x s'=>(x= .exit 0/\ ∃c,c=o/\Sub s' (ofG 30 [(4,.slice 0 0 c.length c.length 1)],(kA c [])))) ?_ ?_
 ·refine Uf (fun M s=> ∃(b:List Int) (a:Int),s=(ofG 30 (kM (p.length:Int) b p [(13,.i a)]),(kA b []))/\ko p M b a=some o) ?_ (m:=N) ⟨_,_,rfl,g5⟩
  rintro M s ⟨b,a,rfl,g5⟩
  cases M with
  |zero=>simp only[ko]at g5;cases g5
  |succ M=>
   rw[ko]at g5
   refine sh fol (kM (p.length:Int) b p [(13,.i a),(14,.bool (decide (a<(p.length:Int))))]) ?_
   refine sq ?_
   refine ihD g5 (fun q g5=>?_) (fun q g5=>?_)
   ·refine Goes.skip ?_
    refine sq (Goes.block ?_)
    obtain⟨n,d,g5⟩:=bnd g5
    refine sq (gr fol [1,2] ((3,.i (p.length:Int))::(4,.slice 0 0 b.length b.length 1)::(5,.i a)::(6,.i n)::(11,vl encI p)::(kW (p.length:Int) a [])) (ac (iv qbF encI d) (ac (lv 0 ce3 encI d rfl) az)) ?_)
    obtain⟨r,e,g5⟩:=bnd g5
    obtain⟨f,g,g5⟩:=bnd g5
    refine gq fol [9,10] (kM (p.length:Int) b p [(13,.i a)]) (kA f []) (ac (hs (.done (.opt (qm ZT 72 (.slice 0 0 b.length b.length 1) (.i (w64 ((w64 ((p.length:Int)-1))-a))))) (.ptr 0 ((w64 ((w64 ((p.length:Int)-1))-a):Int).toNat*1+0))) (qag qbF e)) (ac (hs (.run [0] (yz ZT 3 (.ptr 0 ((w64 ((w64 ((p.length:Int)-1))-a):Int).toNat*1+0)) (.i (w64 ((w64 ((p.length:Int)-1))-n)))) (kA b []) .undef (kA f []) true) (qbp (E:=encI) (l:=b) (y:=w64 ((w64 ((p.length:Int)-1))-n)) rfl (show _=some 1 by kernel_rfl) rfl e rfl rfl rfl rfl rfl g rfl)) az)) ?_
    refine Goes.sub (show Sub (ofG 30 (kM (p.length:Int) b p [(13,.i a)]),(kA f [])) (ofG 30 (kM (p.length:Int) f p [(13,.i a)]),(kA f []))from(Sub.norm [] [some 0] rfl rfl (.keep (.same nI) (.keep (.sliceE rfl (yV g)) (.keep (.same (qj encI _)) (.keep (.same nI) (.keep (.same nI) .nil))))) (.ks .nil))) ?_
    refine gh fol (kM (p.length:Int) f p [(13,.i (w64 (a+1)))]) ?_
    exact⟨M,(ofG 30 (kM (p.length:Int) f p [(13,.i (w64 (a+1)))]),(kA f [])),Nat.lt_succ_self _,(Sub.refl _),_,_,rfl,g5⟩
   refine Goes.exit ?_
   obtain rfl:=si g5
   exact⟨rfl,_,rfl,(Sub.keep [4] rfl rfl)⟩
 rintro x s' ⟨rfl,c,rfl,hsub⟩
 refine Goes.sub hsub ?_
 refine sh fol (kAm c) ?_
 refine Goes.ret ?_
 obtain rfl:=si h
 exact(gw2 [.slice 0 0 c.length c.length 1] (Ur (Fz.sl (E:=encI) rfl rfl (nl rfl))))
def zo (c:List Int):Nat->(List Int)->Int->Option (List Int)
 |0,_,_=>none
 |K+1,b,a=>
  if a<(c.length:Int)then
  (idx b a).bind fun e=>
  (put b a a).bind fun d=>
  zo c K d (w64 (a+1))
  else
  some b
def zH (N:Nat) (a:Int):Option (List Int):=
 (mk 8 a 0).bind fun b=>
 (zo b N b 0).bind fun c=>
 some c
theorem vV (N:Nat) (c:Int) {n:List Int} (h:zH N c=some n):qf ZT (.fn 60) [.i c] [] (.slice 0 0 n.length n.length 1) (kA n []):=by
 unfold zH at h
 refine Un Tryz.func60 rfl rfl (m:=18) rfl (rs:=[.tmp 2]) rfl (l:=[(0,.i c)]) rfl ?_
 intro B hB
 refine sh fol [(0,.i c)] ?_
 obtain⟨a,k,h⟩:=bnd h
 refine sq (gq fol [1] (kL a []) (kA a []) (ac (hs (.run [] (yB ZT 22 (.i c) (.i c)) [] (.slice 0 0 a.length a.length 1) (kA a []) false) (qgQ ja (E:=encI) (z:=0) rfl (by kernel_rfl) k rfl)) az) ?_)
 refine sq ?_
 refine sh fol (kL a [(8,.i (a.length:Int)),(9,.i 0)]) ?_
 refine Goes.block ?_
 obtain⟨o,g6,h⟩:=bnd h
 refine Goes.imp (Q:=fun x s'=>(x= .exit 0/\ ∃j,j=o/\Sub s' (ofG 18 (kL j []),(kA j [])))) ?_ ?_
 ·refine Uf (fun M s=> ∃(d:List Int) (b:Int),s=(ofG 18 (kL d (kAc (a.length:Int) b [])),(kA d []))/\zo a M d b=some o) ?_ (m:=N) ⟨_,_,rfl,g6⟩
  rintro M s ⟨d,b,rfl,g6⟩
  cases M with
  |zero=>simp only[zo]at g6;cases g6
  |succ M=>
   rw[zo]at g6
   refine sh fol (kL d (kAc (a.length:Int) b [(10,.bool (decide (b<(a.length:Int))))])) ?_
   refine sq ?_
   refine ihD g6 (fun p g6=>?_) (fun p g6=>?_)
   ·refine Goes.skip ?_
    refine sq (Goes.block ?_)
    refine sh fol (kL d ((4,.i b)::(kAc (a.length:Int) b []))) ?_
    obtain⟨q,e,g6⟩:=bnd g6
    obtain⟨f,g,g6⟩:=bnd g6
    refine gq fol [3,4] (kL d (kAc (a.length:Int) b [])) (kA f []) (ac (hs (.done (.opt (qm ZT 22 (.slice 0 0 d.length d.length 1) (.i b))) (.ptr 0 ((b:Int).toNat*1+0))) (qag ja e)) (ac (hs (.run [0] (yz ZT 3 (.ptr 0 ((b:Int).toNat*1+0)) (.i b)) (kA d []) .undef (kA f []) true) (qbp (E:=encI) (l:=d) (y:=b) rfl (show _=some 1 by kernel_rfl) rfl e rfl rfl rfl rfl rfl g rfl)) az)) ?_
    refine Goes.sub (show Sub (ofG 18 (kL d (kAc (a.length:Int) b [])),(kA f [])) (ofG 18 (kL f (kAc (a.length:Int) b [])),(kA f []))from(Sub.norm [] [some 0] (by rw[hB];rfl) rfl (.keep (.sliceE rfl (yV g)) (.keep (.same nI) (.keep (.same nI) .nil))) (.ks .nil))) ?_
    refine gh fol (kL f (kAc (a.length:Int) (w64 (b+1)) [])) ?_
    exact⟨M,(ofG 18 (kL f (kAc (a.length:Int) (w64 (b+1)) [])),(kA f [])),Nat.lt_succ_self _,(Sub.refl _),_,_,rfl,g6⟩
   refine Goes.exit ?_
   obtain rfl:=si g6
   exact⟨rfl,_,rfl,(Sub.keep [3] rfl rfl)⟩
 rintro x s' ⟨rfl,j,rfl,hsub⟩
 refine Goes.sub hsub ?_
 refine sh fol (kAm j) ?_
 refine Goes.ret ?_
 obtain rfl:=si h
 exact(gh2 [.slice 0 0 j.length j.length 1] (qbh.refl _ _))
def qU:Nat->(List Int)->Int->Int->Option (List Int)
 |0,_,_,_=>none
 |K+1,c,d,a=>
  if d<a then
  (idx c a).bind fun f=>
  (idx c d).bind fun g=>
  (put c d f).bind fun b=>
  (idx b a).bind fun h=>
  (put b a g).bind fun e=>
  qU K e (w64 (d+1)) (w64 (a-1))
  else
  some c
def jr (N:Nat) (a:List Int):Option (List Int):=
 (qU N a 0 (w64 ((a.length:Int)-1))).bind fun b=>
 some b
theorem qbs (N:Nat) (b:List Int) {t:List Int} (h:jr N b=some t):qf ZT (.fn 99) [.slice 0 0 b.length b.length 1] (kA b []) (.tuple []) (kA t []):=by
 unfold jr at h
 refine Un Tryz.func99 rfl rfl (m:=28) rfl (rs:=[]) rfl (l:=[(0,.slice 0 0 b.length b.length 1)]) rfl ?_
 intro B hB
 refine Us ?_
 refine sh fol [(0,.slice 0 0 b.length b.length 1),(2,.i 0),(3,.i (w64 ((b.length:Int)-1)))] ?_
 refine Goes.block ?_
 obtain⟨u,g6,h⟩:=bnd h
 refine Goes.imp (Q:=fun x s'=>(x= .exit 0/\ ∃p,p=u/\Sub s' (ofG 28 [],(kA p [])))) ?_ ?_
 ·refine Uf (fun M s=> ∃(a:List Int) (d:Int) (e:Int),s=(ofG 28 (kAE a d e []),(kA a []))/\qU M a d e=some u) ?_ (m:=N) ⟨_,_,_,rfl,g6⟩
  rintro M s ⟨a,d,e,rfl,g6⟩
  cases M with
  |zero=>simp only[qU]at g6;cases g6
  |succ M=>
   rw[qU]at g6
   refine sq ?_
   refine sh fol (kAE a d e [(9,.bool (decide (d<e)))]) ?_
   refine ihD g6 (fun v g6=>?_) (fun v g6=>?_)
   ·refine Goes.skip ?_
    refine sq (Goes.block ?_)
    obtain⟨q,g,g6⟩:=bnd g6
    obtain⟨r,f,g6⟩:=bnd g6
    obtain⟨n,j,g6⟩:=bnd g6
    obtain⟨w,o,g6⟩:=bnd g6
    obtain⟨c,k,g6⟩:=bnd g6
    refine gq fol [6,7,10,11,12,13,14,15] (kAE a d e []) (kA c []) (ac (hs (.done (.opt (qm ZT 72 (.slice 0 0 a.length a.length 1) (.i e))) (.ptr 0 ((e:Int).toNat*1+0))) (qag qbF g)) (ac (hs (.run [0] (jK ZT 3 (.ptr 0 ((e:Int).toNat*1+0))) (kA a []) (.i q) (kA a []) false) (qcE ce3 (E:=encI) (l:=a) rfl rfl g (nl rfl) rfl)) (ac (hs (.done (.opt (qm ZT 72 (.slice 0 0 a.length a.length 1) (.i d))) (.ptr 0 ((d:Int).toNat*1+0))) (qag qbF f)) (ac (hs (.run [0] (jK ZT 3 (.ptr 0 ((d:Int).toNat*1+0))) (kA a []) (.i r) (kA a []) false) (qcE ce3 (E:=encI) (l:=a) rfl rfl f (nl rfl) rfl)) (ac (hs (.done (.opt (qm ZT 72 (.slice 0 0 a.length a.length 1) (.i d))) (.ptr 0 ((d:Int).toNat*1+0))) (qag qbF f)) (ac (hs (.run [0] (yz ZT 3 (.ptr 0 ((d:Int).toNat*1+0)) (.i q)) (kA a []) .undef (kA n []) true) (qbp (E:=encI) (l:=a) (y:=q) rfl (show _=some 1 by kernel_rfl) rfl f rfl rfl rfl rfl rfl j rfl)) (ac (hs (.done (.opt (qm ZT 72 (.slice 0 0 a.length a.length 1) (.i e))) (.ptr 0 ((e:Int).toNat*1+0))) (qag qbF g)) (ac (hs (.run [0] (yz ZT 3 (.ptr 0 ((e:Int).toNat*1+0)) (.i r)) (kA n []) .undef (kA c []) true) (qbp (E:=encI) (l:=n) (y:=r) rfl (show _=some 1 by kernel_rfl) rfl o rfl rfl rfl rfl rfl k rfl)) az)))))))) ?_
    refine Goes.sub (show Sub (ofG 28 (kAE a d e []),(kA c [])) (ofG 28 (kAE c d e []),(kA c []))from(Sub.norm [] [some 0] (by rw[hB];rfl) rfl (.keep (.sliceE rfl ((yV j).trans (yV k))) (.keep (.same nI) (.keep (.same nI) .nil))) (.ks .nil))) ?_
    refine gh fol (kAE c (w64 (d+1)) (w64 (e-1)) []) ?_
    exact⟨M,(ofG 28 (kAE c (w64 (d+1)) (w64 (e-1)) []),(kA c [])),Nat.lt_succ_self _,(Sub.refl _),_,_,_,rfl,g6⟩
   refine Goes.exit ?_
   obtain rfl:=si g6
   exact⟨rfl,_,rfl,(Sub.keep [] rfl rfl)⟩
 rintro x s' ⟨rfl,p,rfl,hsub⟩
 obtain rfl:=si h
 exact⟨_,hsub,(gh2 [] (qbh.refl _ _))⟩
def qav (N:Nat) (n:Int):Option (List Int):=
 (zH N n).bind fun a=>
 (jr N a).bind fun b=>
 ((if a.length=b.length then some ()else none:Option Unit)).bind fun c=>
 some b
theorem qdh (N:Nat) (n:Int) {res:List Int} (h:qav N n=some res):qf ZT (.fn 64) [.i n] [] (vl encI res) []:=by
 unfold qav at h
 refine Ub Tryz.func64 rfl rfl (m:=9) rfl (rs:=[.tmp 2]) rfl (l:=[(0,.i n)]) rfl ?_
 refine sh fol [(0,.i n)] ?_
 obtain⟨a,c,h⟩:=bnd h
 refine sq (gq fol [1] (kL a []) (kA a []) (ac (hs (.callH 60 [.i n] [] [] (.slice 0 0 a.length a.length 1) (kA a [])) (jc [] [some 0] (vV N n c) .nil rfl rfl (.new rfl rfl (.same fa) rfl .nil) (rc (.same nI) rn) (.slice rfl) rfl)) az) ?_)
 obtain⟨b,d,h⟩:=bnd h
 obtain⟨f,e,h⟩:=bnd h
 refine sq (gq fol [1] (kL a []) (kA b []) (ac (hs (.callH 99 [.slice 0 0 a.length a.length 1] (kA a []) [0] (.tuple []) (kA b [])) (jc [some 0] [some 0] (qbs N a d) (.ks .nil) rfl rfl (.back rfl rfl (.same fa) rfl .nil) (rc (.slice rfl) rn) (.same (qy.tuple sn)) rfl)) az) ?_)
 refine Goes.sub (show Sub (ofG 9 (kL a []),(kA b [])) (ofG 9 (kL b []),(kA b []))from(Sub.norm [] [some 0] rfl rfl (.keep (.sliceE rfl (qi5 e)) .nil) (.ks .nil))) ?_
 refine sh fol (kAm b) ?_
 refine Goes.ret ?_
 obtain rfl:=si h
 exact(gw2 [.slice 0 0 b.length b.length 1] (Ur (Fz.sl (E:=encI) rfl rfl (nl rfl))))
def zi (p:List Int):Nat->(List Int)->Int->Option (List Int)
 |0,_,_=>none
 |K+1,b,a=>
  if a<(p.length:Int)then
  (idx p a).bind fun c=>
  (idx b c).bind fun e=>
  (put b c a).bind fun d=>
  zi p K d (w64 (a+1))
  else
  some b
def zP (N:Nat) (p:List Int):Option (List Int):=
 (mk 8 (p.length:Int) 0).bind fun a=>
 (zi p N a 0).bind fun b=>
 some b
theorem yO (N:Nat) (p:List Int) {res:List Int} (h:zP N p=some res):qf ZT (.fn 100) [vl encI p] [] (vl encI res) []:=by
 unfold zP at h
 refine Ub Tryz.func100 rfl rfl (m:=22) rfl (rs:=[.tmp 2]) rfl (l:=(kQ p [])) rfl ?_
 refine sh fol (kQ p []) ?_
 obtain⟨j,k,h⟩:=bnd h
 refine sq (gq fol [2] (kQ p (kL j [])) (kA j []) (ac (hs (.run [] (yB ZT 72 (.i (p.length:Int)) (.i (p.length:Int))) [] (.slice 0 0 j.length j.length 1) (kA j []) false) (qgQ qbF (E:=encI) (z:=0) rfl (by kernel_rfl) k rfl)) az) ?_)
 refine sq ?_
 refine sh fol (kL j (kAZ p (p.length:Int) [(11,.i 0)])) ?_
 refine Goes.block ?_
 obtain⟨o,g5,h⟩:=bnd h
 refine Goes.imp (Q:=fun x s'=>(x= .exit 0/\ ∃g,g=o/\Sub s' (ofG 22 (kL g []),(kA g [])))) ?_ ?_
 ·refine Uf (fun M s=> ∃(b:List Int) (a:Int),s=(ofG 22 (kL b (kAZ p (p.length:Int) (kAA a))),(kA b []))/\zi p M b a=some o) ?_ (m:=N) ⟨_,_,rfl,g5⟩
  rintro M s ⟨b,a,rfl,g5⟩
  cases M with
  |zero=>simp only[zi]at g5;cases g5
  |succ M=>
   rw[zi]at g5
   refine sh fol (kL b (kAZ p (p.length:Int) [(11,.i a),(12,.bool (decide (a<(p.length:Int))))])) ?_
   refine sq ?_
   refine ihD g5 (fun q g5=>?_) (fun q g5=>?_)
   ·refine Goes.skip ?_
    refine sq (Goes.block ?_)
    obtain⟨n,c,g5⟩:=bnd g5
    refine sq (gr fol [1,2] (kL b ((4,.i a)::(5,.i n)::(kAZ p (p.length:Int) (kAA a)))) (ac (iv qbF encI c) (ac (lv 0 ce3 encI c rfl) az)) ?_)
    obtain⟨r,d,g5⟩:=bnd g5
    obtain⟨e,f,g5⟩:=bnd g5
    refine gq fol [3,4] (kL b (kAZ p (p.length:Int) (kAA a))) (kA e []) (ac (hs (.done (.opt (qm ZT 72 (.slice 0 0 b.length b.length 1) (.i n))) (.ptr 0 ((n:Int).toNat*1+0))) (qag qbF d)) (ac (hs (.run [0] (yz ZT 3 (.ptr 0 ((n:Int).toNat*1+0)) (.i a)) (kA b []) .undef (kA e []) true) (qbp (E:=encI) (l:=b) (y:=a) rfl (show _=some 1 by kernel_rfl) rfl d rfl rfl rfl rfl rfl f rfl)) az)) ?_
    refine Goes.sub (show Sub (ofG 22 (kL b (kAZ p (p.length:Int) (kAA a))),(kA e [])) (ofG 22 (kL e (kAZ p (p.length:Int) (kAA a))),(kA e []))from(Sub.norm [] [some 0] rfl rfl (.keep (.sliceE rfl (yV f)) (.keep (.same (qj encI _)) (.keep (.same nI) (.keep (.same nI) .nil)))) (.ks .nil))) ?_
    refine gh fol (kL e (kAZ p (p.length:Int) (kAA (w64 (a+1))))) ?_
    exact⟨M,(ofG 22 (kL e (kAZ p (p.length:Int) (kAA (w64 (a+1))))),(kA e [])),Nat.lt_succ_self _,(Sub.refl _),_,_,rfl,g5⟩
   refine Goes.exit ?_
   obtain rfl:=si g5
   exact⟨rfl,_,rfl,(Sub.keep [3] rfl rfl)⟩
 rintro x s' ⟨rfl,g,rfl,hsub⟩
 refine Goes.sub hsub ?_
 refine sh fol (kAm g) ?_
 refine Goes.ret ?_
 obtain rfl:=si h
 exact(gw2 [.slice 0 0 g.length g.length 1] (Ur (Fz.sl (E:=encI) rfl rfl (nl rfl))))
def ji (N:Nat) (p:List Int) (i:Int):Option (List Int):=
 (zP N p).bind fun a=>
 (ku a i).bind fun b=>
 (zP N b).bind fun c=>
 some c
theorem qaj (N:Nat) (p:List Int) (i:Int) {res:List Int} (h:ji N p i=some res):qf ZT (.fn 65) (kAU p i) [] (vl encI res) []:=by
 unfold ji at h
 refine Ub Tryz.func65 rfl rfl (m:=10) rfl (rs:=[.tmp 4]) rfl (l:=(kQ p [(1,.i i)])) rfl ?_
 refine sh fol (kQ p [(1,.i i)]) ?_
 obtain⟨e,a,h⟩:=bnd h
 obtain⟨f,b,h⟩:=bnd h
 obtain⟨d,c,h⟩:=bnd h
 refine sq (gr fol [1,3,4] [(4,vl encI d)] (ac (cv (yO N p a)) (ac (cv (jN e i b)) (ac (cv (yO N f c)) az))) ?_)
 refine Goes.ret ?_
 obtain rfl:=si h
 exact(gw2 [vl encI d] (Ua (zq encI _ (nl rfl))))
def zF (p:List Int) (i:Int):Option Bool:=
 (idx p i).bind fun a=>
 (idx p (w64 (i+1))).bind fun b=>
 some (decide (a>b))
theorem jZ (p:List Int) (i:Int) {res:Bool} (h:zF p i=some res):qf ZT (.fn 73) (kAU p i) [] (.bool res) []:=by
 unfold zF at h
 refine Ub Tryz.func73 rfl rfl (m:=15) rfl (rs:=[.tmp 4]) rfl (l:=(kQ p [(1,.i i)])) rfl ?_
 refine sh fol (kQ p [(1,.i i)]) ?_
 obtain⟨c,a,h⟩:=bnd h
 obtain⟨d,b,h⟩:=bnd h
 refine sq (gr fol [2,3,7,8] (kAg (decide (c>d))) (ac (iv qbF encI a) (ac (lv 0 ce3 encI a rfl) (ac (iv qbF encI b) (ac (lv 0 ce3 encI b rfl) az)))) ?_)
 refine Goes.ret ?_
 obtain rfl:=si h
 exact(gw2 [.bool (decide (c>d))] (Ua tB))
def vU (N:Nat) (p:List Int) (i:Int):Option Bool:=
 (zP N p).bind fun a=>
 (zF a i).bind fun b=>
 some b
theorem qcC (N:Nat) (p:List Int) (i:Int) {res:Bool} (h:vU N p i=some res):qf ZT (.fn 127) (kAU p i) [] (.bool res) []:=by
 unfold vU at h
 refine Ub Tryz.func127 rfl rfl (m:=9) rfl (rs:=[.tmp 4]) rfl (l:=(kQ p [(1,.i i)])) rfl ?_
 refine sh fol (kQ p [(1,.i i)]) ?_
 obtain⟨d,a,h⟩:=bnd h
 obtain⟨c,b,h⟩:=bnd h
 refine sq (gr fol [1,3] (kAg c) (ac (cv (yO N p a)) (ac (cv (jZ d i b)) az)) ?_)
 refine Goes.ret ?_
 obtain rfl:=si h
 exact(gw2 [.bool c] (Ua tB))
def zW (N:Nat) (a:List Int) (b:List Int):Nat->Int->Int->Option (Unit⊕(Int×Bool))
 |0,_,_=>none
 |K+1,c,d=>
  if c<d then
  ((zF b c).bind fun e=>
  if e=true then
  (vU N a c).bind fun f=>
  some (!f)
  else
  some false:Option Bool).bind fun g=>
  if g=true then
  some (.inr (c,true))
  else
  zW N a b K (w64 (c+1)) d
  else
  some (.inl ())
def yJ (N:Nat) (a:List Int) (b:List Int):Option (Int×Bool):=
 (zW N a b N 0 (w64 ((a.length:Int)-1))).bind (fun
 |(.inl ())=>
 some (0,false)
 |(.inr c)=>
 some c)
theorem qec (N:Nat) (a:List Int) (b:List Int) {res:Int×Bool} (h:yJ N a b=some res):qf ZT (.fn 102) (kAq a b) [] (.tuple [.i res.1,.bool res.2]) []:=by
 unfold yJ at h
 refine Ub Tryz.func102 rfl rfl (m:=24) rfl (rs:=[.tmp 4,.tmp 5]) rfl (l:=(kK a b [])) rfl ?_
 refine sh fol (kK a b []) ?_
 refine sq ?_
 refine sh fol (kK a b [(9,.i (w64 ((a.length:Int)-1))),(10,.i 0)]) ?_
 refine Goes.block ?_
 obtain⟨j,g3,h⟩:=bnd h
 refine Goes.imp (Q:=fun x s'=>(x= .exit 0/\(.inl ())=j/\Sub s' (ofG 24 [],[]))\/(x= .ret/\ ∃k,(.inr k)=j/\jw ZT [.tmp 4,.tmp 5] (.tuple [.i k.1,.bool k.2]) .ret s')) ?_ ?_
 ·refine Uf (fun M s=> ∃(d:Int) (e:Int),s=(ofG 24 (kK a b [(9,.i e),(10,.i d)]),[])/\zW N a b M d e=some j) ?_ (m:=N) ⟨_,_,rfl,g3⟩
  rintro M s ⟨d,e,rfl,g3⟩
  cases M with
  |zero=>simp only[zW]at g3;cases g3
  |succ M=>
   rw[zW]at g3
   refine sh fol (kK a b [(9,.i e),(10,.i d),(11,.bool (decide (d<e)))]) ?_
   refine sq ?_
   refine ihD g3 (fun p g3=>?_) (fun p g3=>?_)
   ·refine Goes.skip ?_
    refine sq (Goes.block ?_)
    refine sh fol (kK a b [(6,.i d),(9,.i e),(10,.i d)]) ?_
    refine sq ?_
    obtain⟨q,c,g3⟩:=bnd g3
    refine Goes.cut (s':=(ofG 24 (kK a b [(6,.i d),(9,.i e),(10,.i d),(21,.bool q)]),[])) ?_ ?_
    ·obtain⟨u,f,c⟩:=bnd c
     rcases wyB c with⟨n,c⟩|⟨n,c⟩
     ·obtain⟨r,g,c⟩:=bnd c
      obtain rfl:=si c
      exact tr fol [2,3,6] (kK a b [(6,.i d),(9,.i e),(10,.i d),(21,.bool (!r))]) (ac (cv (jZ b d f)) (ac (gw n) (ac (cv (qcC N a d g)) az)))
     obtain rfl:=si c
     exact tr fol [2,3] (kK a b [(6,.i d),(9,.i e),(10,.i d),(21,.bool false)]) (ac (cv (jZ b d f)) (ac (gw n) az))
    refine ihB g3 (fun o g3=>?_) (fun o g3=>?_)
    ·refine sh fol [(4,.i d),(5,.bool true)] ?_
     refine Goes.ret ?_
     obtain rfl:=si g3
     exact Or.inr (⟨rfl,_,rfl,(gw2 [.i d,.bool true] (FzW.tuple (qo.cons (Ua tI) (qo.cons (Ua tB) qo.nil))))⟩)
    refine Goes.skip ?_
    refine gh fol (kK a b [(9,.i e),(10,.i (w64 (d+1)))]) ?_
    exact⟨M,(ofG 24 (kK a b [(9,.i e),(10,.i (w64 (d+1)))]),[]),Nat.lt_succ_self _,(Sub.refl _),_,_,rfl,g3⟩
   refine Goes.exit ?_
   obtain rfl:=si g3
   exact Or.inl (⟨rfl,rfl,(Sub.keep [] rfl rfl)⟩)
 rintro x s' (⟨rfl,rfl,hsub⟩|⟨rfl,t,rfl,hret⟩)
 ·try dsimp only at h
  refine Goes.sub hsub ?_
  refine sh fol [(4,.i 0),(5,.bool false)] ?_
  refine Goes.ret ?_
  obtain rfl:=si h
  exact(gw2 [.i 0,.bool false] (FzW.tuple (qo.cons (Ua tI) (qo.cons (Ua tB) qo.nil))))
 try dsimp only at h
 obtain rfl:=si h
 exact hret
def cmp_isNaN_int (a:Int):Option Bool:=
 some (!decide (a=a))
theorem yl (a:Int) {res:Bool} (h:cmp_isNaN_int a=some res):qf ZT (.fn 138) [.i a] [] (.bool res) []:=by
 unfold cmp_isNaN_int at h
 refine Ub Tryz.func138 rfl rfl (m:=6) rfl (rs:=[.tmp 2]) rfl (l:=[(0,.i a)]) rfl ?_
 refine sh fol [(0,.i a)] ?_
 refine sh fol [(2,.bool (!decide (a=a)))] ?_
 refine Goes.ret ?_
 obtain rfl:=si h
 exact(gw2 [.bool (!decide (a=a))] (Ua tB))
def cmp_Less_int (a:Int) (y:Int):Option Bool:=
 ((cmp_isNaN_int a).bind fun b=>
 if b=true then
 (cmp_isNaN_int y).bind fun c=>
 if(!c)=true then
 some true
 else
 some (decide (a<y))
 else
 some (decide (a<y)):Option Bool).bind fun d=>
 some d
theorem qeC (c:Int) (y:Int) {res:Bool} (h:cmp_Less_int c y=some res):qf ZT (.fn 128) [.i c,.i y] [] (.bool res) []:=by
 unfold cmp_Less_int at h
 refine Ub Tryz.func128 rfl rfl (m:=17) rfl (rs:=[.tmp 4]) rfl (l:=(kAp c y [])) rfl ?_
 refine sh fol (kAp c y []) ?_
 refine sq ?_
 obtain⟨g,a,h⟩:=bnd h
 refine Goes.cut (s':=(ofG 17 (kAg g),[])) ?_ ?_
 ·obtain⟨j,b,a⟩:=bnd a
  rcases wyB a with⟨e,a⟩|⟨e,a⟩
  ·obtain⟨k,d,a⟩:=bnd a
   rcases wyB a with⟨f,a⟩|⟨f,a⟩
   ·obtain rfl:=si a
    exact tr fol [1,2,4,7] kAb (ac (cv (yl c b)) (ac (gw e) (ac (cv (yl y d)) (ac (gw f) az))))
   obtain rfl:=si a
   exact tr fol [1,2,4,7] (kAg (decide (c<y))) (ac (cv (yl c b)) (ac (gw e) (ac (cv (yl y d)) (ac (gw f) az))))
  obtain rfl:=si a
  exact tr fol [1,2] (kAg (decide (c<y))) (ac (cv (yl c b)) (ac (gw e) az))
 refine Goes.ret ?_
 obtain rfl:=si h
 exact(gw2 [.bool g] (Ua tB))
def ky (b:List Int):Nat->Int->Option (Unit⊕Bool)
 |0,_=>none
 |K+1,a=>
  if a>0 then
  (idx b a).bind fun c=>
  (idx b (w64 (a-1))).bind fun d=>
  (cmp_Less_int c d).bind fun e=>
  if e=true then
  some (.inr false)
  else
  ky b K (w64 (a-1))
  else
  some (.inl ())
def slices_IsSorted_int (N:Nat) (a:List Int):Option Bool:=
 (ky a N (w64 ((a.length:Int)-1))).bind (fun
 |(.inl ())=>
 some true
 |(.inr b)=>
 some b)
theorem qbL (N:Nat) (a:List Int) {res:Bool} (h:slices_IsSorted_int N a=some res):qf ZT (.fn 103) [vl encI a] [] (.bool res) []:=by
 unfold slices_IsSorted_int at h
 refine Ub Tryz.func103 rfl rfl (m:=21) rfl (rs:=[.tmp 2]) rfl (l:=(kQ a [])) rfl ?_
 refine sh fol (kQ a []) ?_
 refine sq ?_
 refine sh fol (kQ a [(3,.i (w64 ((a.length:Int)-1)))]) ?_
 refine Goes.block ?_
 obtain⟨f,g2,h⟩:=bnd h
 refine Goes.imp (Q:=fun x s'=>(x= .exit 0/\(.inl ())=f/\Sub s' (ofG 21 [],[]))\/(x= .ret/\ ∃g,(.inr g)=f/\jw ZT [.tmp 2] (.bool g) .ret s')) ?_ ?_
 ·refine Uf (fun M s=> ∃(b:Int),s=(ofG 21 (kQ a [(3,.i b)]),[])/\ky a M b=some f) ?_ (m:=N) ⟨_,rfl,g2⟩
  rintro M s ⟨b,rfl,g2⟩
  cases M with
  |zero=>simp only[ky]at g2;cases g2
  |succ M=>
   rw[ky]at g2
   refine sq ?_
   refine sh fol (kQ a [(3,.i b),(8,.bool (decide (b>0)))]) ?_
   refine ihD g2 (fun j g2=>?_) (fun j g2=>?_)
   ·refine Goes.skip ?_
    refine sq (Goes.block ?_)
    obtain⟨k,c,g2⟩:=bnd g2
    obtain⟨n,d,g2⟩:=bnd g2
    obtain⟨o,e,g2⟩:=bnd g2
    refine sq (gr fol [2,3,7,8,9] (kQ a [(3,.i b),(20,.bool o)]) (ac (iv qbF encI c) (ac (lv 0 ce3 encI c rfl) (ac (iv qbF encI d) (ac (lv 0 ce3 encI d rfl) (ac (cv (qeC k n e)) az))))) ?_)
    refine ihB g2 (fun p g2=>?_) (fun p g2=>?_)
    ·refine sh fol kAe ?_
     refine Goes.ret ?_
     obtain rfl:=si g2
     exact Or.inr (⟨rfl,_,rfl,(gw2 [.bool false] (Ua tB))⟩)
    refine Goes.skip ?_
    refine gh fol (kQ a [(3,.i (w64 (b-1)))]) ?_
    exact⟨M,(ofG 21 (kQ a [(3,.i (w64 (b-1)))]),[]),Nat.lt_succ_self _,(Sub.refl _),_,rfl,g2⟩
   refine Goes.exit ?_
   obtain rfl:=si g2
   exact Or.inl (⟨rfl,rfl,(Sub.keep [] rfl rfl)⟩)
 rintro x s' (⟨rfl,rfl,hsub⟩|⟨rfl,q,rfl,hret⟩)
 ·try dsimp only at h
  refine Goes.sub hsub ?_
  refine sh fol [(2,.bool true)] ?_
  refine Goes.ret ?_
  obtain rfl:=si h
  exact(gw2 [.bool true] (Ua tB))
 try dsimp only at h
 obtain rfl:=si h
 exact hret
def vz (N:Nat) (p:List Int):Option Bool:=
 (slices_IsSorted_int N p).bind fun a=>
 some a
theorem qce (N:Nat) (p:List Int) {res:Bool} (h:vz N p=some res):qf ZT (.fn 67) [vl encI p] [] (.bool res) []:=by
 unfold vz at h
 refine Ub Tryz.func67 rfl rfl (m:=5) rfl (rs:=[.tmp 2]) rfl (l:=(kQ p [])) rfl ?_
 refine sh fol (kQ p []) ?_
 obtain⟨b,a,h⟩:=bnd h
 refine sq (gr fol [1] [(2,.bool b)] (ac (cv (qbL N p a)) az) ?_)
 refine Goes.ret ?_
 obtain rfl:=si h
 exact(gw2 [.bool b] (Ua tB))
def zC (b:List Int) (c:List Int):Nat->Int->Option (Unit⊕Bool)
 |0,_=>none
 |K+1,a=>
  if a<(b.length:Int)then
  (idx b a).bind fun d=>
  (idx c a).bind fun e=>
  if(!decide (d=e))=true then
  some (.inr false)
  else
  zC b c K (w64 (a+1))
  else
  some (.inl ())
def slices_Equal_int (N:Nat) (a:List Int) (b:List Int):Option Bool:=
 if(!decide ((a.length:Int)=(b.length:Int)))=true then
 some false
 else
 (zC a b N 0).bind (fun
 |(.inl ())=>
 some true
 |(.inr c)=>
 some c)
theorem qdc (N:Nat) (a:List Int) (b:List Int) {res:Bool} (h:slices_Equal_int N a b=some res):qf ZT (.fn 68) (kAq a b) [] (.bool res) []:=by
 unfold slices_Equal_int at h
 refine Ub Tryz.func68 rfl rfl (m:=26) rfl (rs:=[.tmp 4]) rfl (l:=(kK a b [])) rfl ?_
 refine sh fol (kK a b []) ?_
 refine sq ?_
 refine sh fol (kK a b [(10,.bool (!decide ((a.length:Int)=(b.length:Int))))]) ?_
 refine ihB h (fun j h=>?_) (fun j h=>?_)
 ·refine sh fol kAK ?_
  refine Goes.ret ?_
  obtain rfl:=si h
  exact(gw2 [.bool false] (Ua tB))
 refine Goes.skip ?_
 refine sq ?_
 refine sh fol (kK a b [(12,.i (a.length:Int)),(13,.i 0)]) ?_
 refine Goes.block ?_
 obtain⟨f,g3,h⟩:=bnd h
 refine Goes.imp (Q:=fun x s'=>(x= .exit 0/\(.inl ())=f/\Sub s' (ofG 26 [],[]))\/(x= .ret/\ ∃g,(.inr g)=f/\jw ZT [.tmp 4] (.bool g) .ret s')) ?_ ?_
 ·refine Uf (fun M s=> ∃(c:Int),s=(ofG 26 (kK a b (kW (a.length:Int) c [])),[])/\zC a b M c=some f) ?_ (m:=N) ⟨_,rfl,g3⟩
  rintro M s ⟨c,rfl,g3⟩
  cases M with
  |zero=>simp only[zC]at g3;cases g3
  |succ M=>
   rw[zC]at g3
   refine sh fol (kK a b (kW (a.length:Int) c [(14,.bool (decide (c<(a.length:Int))))])) ?_
   refine sq ?_
   refine ihD g3 (fun k g3=>?_) (fun k g3=>?_)
   ·refine Goes.skip ?_
    refine sq (Goes.block ?_)
    refine sh fol (kK a b ((5,.i c)::(kW (a.length:Int) c []))) ?_
    obtain⟨n,d,g3⟩:=bnd g3
    obtain⟨o,e,g3⟩:=bnd g3
    refine sq (gr fol [2,3,6,7] (kK a b (kW (a.length:Int) c [(24,.bool (!decide (n=o)))])) (ac (iv qbF encI d) (ac (lv 0 ce3 encI d rfl) (ac (iv qbF encI e) (ac (lv 0 ce3 encI e rfl) az)))) ?_)
    refine ihB g3 (fun p g3=>?_) (fun p g3=>?_)
    ·refine sh fol kAK ?_
     refine Goes.ret ?_
     obtain rfl:=si g3
     exact Or.inr (⟨rfl,_,rfl,(gw2 [.bool false] (Ua tB))⟩)
    refine Goes.skip ?_
    refine gh fol (kK a b (kW (a.length:Int) (w64 (c+1)) [])) ?_
    exact⟨M,(ofG 26 (kK a b (kW (a.length:Int) (w64 (c+1)) [])),[]),Nat.lt_succ_self _,(Sub.refl _),_,rfl,g3⟩
   refine Goes.exit ?_
   obtain rfl:=si g3
   exact Or.inl (⟨rfl,rfl,(Sub.keep [] rfl rfl)⟩)
 rintro x s' (⟨rfl,rfl,hsub⟩|⟨rfl,q,rfl,hret⟩)
 ·try dsimp only at h
  refine Goes.sub hsub ?_
  refine sh fol kAb ?_
  refine Goes.ret ?_
  obtain rfl:=si h
  exact(gw2 [.bool true] (Ua tB))
 try dsimp only at h
 obtain rfl:=si h
 exact hret
end Go.Av
