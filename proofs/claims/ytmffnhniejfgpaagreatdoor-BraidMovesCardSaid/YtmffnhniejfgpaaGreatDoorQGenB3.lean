/-
  Walks of functions: what each computes, as a plain function.
-/
import Derived.Test.YtmffnhniejfgpaaGreatDoorQGenB2
noncomputable section
namespace Go.Av
open Go.Proofs Go.RowKit
set_option linter.unusedSectionVars false
set_option linter.unusedVariables false
set_option linter.unusedSimpArgs false
set_option maxRecDepth 100000
def z8 (b:List Int) (c:Str) (d:Int) (a:Int):Option Int:=
 some (w64 (0-a))
theorem xz (d:List Int) (b:Str) (c:Int) (a:Int) {e:Int} (h:z8 d b c a=some e):qf ZT (.fn 210) (kAe d b c a) [] (.slice 0 0 2 2 1) (kV a e):=by
 unfold z8 at h
 refine Goes.fnH Tryz.func210 rfl rfl (m:=11) rfl (rs:=[.tmp 4]) rfl (l:=(kH d [(1,.agg [.str b,.i c,.i a])])) rfl ?_
 intro B hB
 refine sg fol (kBU []) (kE b c a []) ?_
 refine sg fol [(4,.slice 1 0 2 2 1)] (kE b c a (kV a (w64 (0-a)))) ?_
 refine Goes.ret ?_
 obtain rfl:=si h
 exact(gh2 [.slice 1 0 2 2 1] (Sub.norm [] [some 1] (by rw[hB];rfl) rfl (.keep (.slice rfl) .nil) (.kb rfl (.same sn) .nil)))
def zZ (a:List Int) (b:Str) (c:Int) (d:Int):Option Unit:=
 some ()
theorem xD (d:List Int) (a:Str) (b:Int) (c:Int) (h:zZ d a b c=some ()):qf ZT (.fn 212) (kAe d a b c) [] (.nilslice) []:=by
 unfold zZ at h
 refine Goes.fnH Tryz.func212 rfl rfl (m:=5) rfl (rs:=[.tmp 4]) rfl (l:=(kH d [(1,.agg [.str a,.i b,.i c])])) rfl ?_
 intro B hB
 refine sg fol [] (kE a b c []) ?_
 refine sh fol (kBM []) ?_
 refine Goes.ret ?_
 exact(gh2 [.nilslice] (Sub.norm [] [] (by rw[hB];rfl) rfl (.keep (.same (qo.nilslice)) .nil) .nil))
def zY (a:List Int) (b:Str) (c:Int) (d:Int):Option (Int×Int):=
 (idx a 1).bind fun e=>
 (idx a 0).bind fun f=>
 some (e,f)
theorem y9 (d:List Int) (a:Str) (b:Int) (c:Int) {g:Int} {j:Int} (h:zY d a b c=some (g,j)):qf ZT (.fn 214) (kAe d a b c) [] (.slice 0 0 2 2 1) (kV g j):=by
 unfold zY at h
 refine Goes.fnH Tryz.func214 rfl rfl (m:=12) rfl (rs:=[.tmp 4]) rfl (l:=(kH d [(1,.agg [.str a,.i b,.i c])])) rfl ?_
 intro B hB
 refine sg fol (kH d []) (kE a b c []) ?_
 obtain⟨k,e,h⟩:=bnd h
 obtain⟨n,f,h⟩:=bnd h
 refine sq (gq fol [1,2,4,5] [(4,.slice 1 0 2 2 1)] (kE a b c (kV k n)) (ac (iv ja encI e) (ac (lv 0 ce3 encI e rfl) (ac (iv ja encI f) (ac (lv 0 ce3 encI f rfl) az)))) ?_)
 refine Goes.ret ?_
 simp only[ZI,ZP]at h
 obtain⟨rfl,rfl⟩:=h
 exact(gh2 [.slice 1 0 2 2 1] (Sub.norm [] [some 1] (by rw[hB];rfl) rfl (.keep (.slice rfl) .nil) (.kb rfl (.same sn) .nil)))
def zQ (a:List Int) (g:Str) (h:Int) (i:Int):Option (List Int):=
 (idx a 0).bind fun c=>
 (idx a 1).bind fun b=>
 (idx a 2).bind fun f=>
 (zh c).bind fun j=>
 (zh b).bind fun k=>
 if j=k then
 (zh f).bind fun l=>
 (zf b).bind fun m=>
 some ([w64 (l*m),c,b]:List Int)
 else
 (zh c).bind fun d=>
 (zf b).bind fun e=>
 some ([b,f,w64 (d*e)]:List Int)
theorem qaf (d:List Int) (a:Str) (b:Int) (c:Int) {w:List Int} (h:zQ d a b c=some w):qf ZT (.fn 216) (kAe d a b c) [] (vl encI w) []:=by
 unfold zQ at h
 refine Goes.fnH Tryz.func216 rfl rfl (m:=38) rfl (rs:=[.tmp 4]) rfl (l:=(kH d [(1,.agg [.str a,.i b,.i c])])) rfl ?_
 intro B hB
 refine sg fol (kH d []) (kE a b c []) ?_
 obtain⟨o,e,h⟩:=bnd h
 obtain⟨j,f,h⟩:=bnd h
 obtain⟨t,g,h⟩:=bnd h
 refine sq (gr fol [1,2,4,5,7,8] ((5,.i o)::(6,.i j)::(kBK t)) (ac (iv ja encI e) (ac (lv 0 ce3 encI e rfl) (ac (iv ja encI f) (ac (lv 0 ce3 encI f rfl) (ac (iv ja encI g) (ac (lv 0 ce3 encI g rfl) az)))))) ?_)
 refine sq ?_
 obtain⟨x,p,h⟩:=bnd h
 obtain⟨y,q,h⟩:=bnd h
 refine sq (gr fol [1,3] [(5,.i o),(6,.i j),(7,.i t),(21,.bool (decide (x=y)))] (ac (cv (kz o p)) (ac (cv (kz j q)) az)) ?_)
 refine ihD h (fun z h=>?_) (fun z h=>?_)
 ·obtain⟨A,r,h⟩:=bnd h
  obtain⟨C,s,h⟩:=bnd h
  refine sq (gq fol [1,3] [(4,.slice 1 0 3 3 1)] (kE a b c (kAM (w64 (A*C)) o j)) (ac (cv (kz t r)) (ac (cv (qp j s)) az)) ?_)
  refine Goes.ret ?_
  obtain rfl:=si h
  exact(gh2 [.slice 1 0 3 3 1] (Sub.norm [1] [] (by rw[hB];rfl) rfl (.keep (.frz (Fz.lit rfl rfl (Ub (AllST.cons tI (AllST.cons tI (AllST.cons tI AllST.nil))))) (ql encI _)) .nil) .nil))
 refine Goes.skip ?_
 obtain⟨u,k,h⟩:=bnd h
 obtain⟨v,n,h⟩:=bnd h
 refine sq (gq fol [3,5] [(4,.slice 1 0 3 3 1)] (kE a b c (kAM j t (w64 (u*v)))) (ac (cv (kz o k)) (ac (cv (qp j n)) az)) ?_)
 refine Goes.ret ?_
 obtain rfl:=si h
 exact(gh2 [.slice 1 0 3 3 1] (Sub.norm [1] [] (by rw[hB];rfl) rfl (.keep (.frz (Fz.lit rfl rfl (Ub (AllST.cons tI (AllST.cons tI (AllST.cons tI AllST.nil))))) (ql encI _)) .nil) .nil))
def ky (N:Nat) (n:Int) (w:List Int) (m:qW):Option ((List Int)×Int):=
 (zI).bind fun r1=>
 if(m.Kind==[105,110,115,101,114,116])=true then
 ((qb false 13).bind fun p=>
 if(!(m.Kind==[105,110,115,101,114,116]))=true then
 (qb (!decide (m.Letter=0)) 1).bind fun L=>
 if(m.Kind==[105,110,115,101,114,116])=true then
 (qF n m.Letter).bind fun i5=>
 (qb i5 3).bind fun D=>
 if m.At<0 then
 (qb true 3).bind fun b8=>
 (qd N ([p,L,D,b8]:List Int)).bind fun i6=>
 some (p,L,D,b8,i6)
 else
 (qb (decide (m.At>(w64 ((w.length:Int)-0)))) 3).bind fun b9=>
 (qd N ([p,L,D,b9]:List Int)).bind fun i7=>
 some (p,L,D,b9,i7)
 else
 (qb false 3).bind fun E=>
 if m.At<0 then
 (qb true 3).bind fun c0=>
 (qd N ([p,L,E,c0]:List Int)).bind fun i8=>
 some (p,L,E,c0,i8)
 else
 (qb (decide (m.At>(w64 ((w.length:Int)-0)))) 3).bind fun c1=>
 (qd N ([p,L,E,c1]:List Int)).bind fun i9=>
 some (p,L,E,c1,i9)
 else
 (qb false 1).bind fun k=>
 if(m.Kind==[105,110,115,101,114,116])=true then
 (qF n m.Letter).bind fun j0=>
 (qb j0 3).bind fun F=>
 if m.At<0 then
 (qb true 3).bind fun c2=>
 (qd N ([p,k,F,c2]:List Int)).bind fun j1=>
 some (p,k,F,c2,j1)
 else
 (qb (decide (m.At>(w64 ((w.length:Int)-0)))) 3).bind fun c3=>
 (qd N ([p,k,F,c3]:List Int)).bind fun j2=>
 some (p,k,F,c3,j2)
 else
 (qb false 3).bind fun G=>
 if m.At<0 then
 (qb true 3).bind fun c4=>
 (qd N ([p,k,G,c4]:List Int)).bind fun j7=>
 some (p,k,G,c4,j7)
 else
 (qb (decide (m.At>(w64 ((w.length:Int)-0)))) 3).bind fun c5=>
 (qd N ([p,k,G,c5]:List Int)).bind fun j8=>
 some (p,k,G,c5,j8):Option (Int×Int×Int×Int×Int)).bind fun(m7,m8,m9,n0,c6)=>
 if(!decide (c6=0))=true then
 some ([],c6)
 else
 (cut w m.At (w64 (m.At+0))).bind fun c7=>
 (jQ c7).bind fun j9=>
 if(!j9)=true then
 some ([],18)
 else
 (yS w).bind fun _=>
 (z8 c7 m.Kind m.At m.Letter).bind fun k0=>
 (qaV w m.At (w64 (m.At+0)) m.Letter k0).bind fun k1=>
 some (k1,0)
 else
 if(m.Kind==[99,97,110,99,101,108])=true then
 ((qb false 13).bind fun c=>
 if(!(m.Kind==[105,110,115,101,114,116]))=true then
 (qb (!decide (m.Letter=0)) 1).bind fun l=>
 if(m.Kind==[105,110,115,101,114,116])=true then
 (qF n m.Letter).bind fun k2=>
 (qb k2 3).bind fun H=>
 if m.At<0 then
 (qb true 3).bind fun c8=>
 (qd N ([c,l,H,c8]:List Int)).bind fun k3=>
 some (c,l,H,c8,k3)
 else
 (qb (decide (m.At>(w64 ((w.length:Int)-2)))) 3).bind fun c9=>
 (qd N ([c,l,H,c9]:List Int)).bind fun k4=>
 some (c,l,H,c9,k4)
 else
 (qb false 3).bind fun I=>
 if m.At<0 then
 (qb true 3).bind fun d0=>
 (qd N ([c,l,I,d0]:List Int)).bind fun k5=>
 some (c,l,I,d0,k5)
 else
 (qb (decide (m.At>(w64 ((w.length:Int)-2)))) 3).bind fun d1=>
 (qd N ([c,l,I,d1]:List Int)).bind fun k6=>
 some (c,l,I,d1,k6)
 else
 (qb false 1).bind fun o=>
 if(m.Kind==[105,110,115,101,114,116])=true then
 (qF n m.Letter).bind fun k7=>
 (qb k7 3).bind fun J=>
 if m.At<0 then
 (qb true 3).bind fun d2=>
 (qd N ([c,o,J,d2]:List Int)).bind fun k8=>
 some (c,o,J,d2,k8)
 else
 (qb (decide (m.At>(w64 ((w.length:Int)-2)))) 3).bind fun d3=>
 (qd N ([c,o,J,d3]:List Int)).bind fun k9=>
 some (c,o,J,d3,k9)
 else
 (qb false 3).bind fun K=>
 if m.At<0 then
 (qb true 3).bind fun d4=>
 (qd N ([c,o,K,d4]:List Int)).bind fun l0=>
 some (c,o,K,d4,l0)
 else
 (qb (decide (m.At>(w64 ((w.length:Int)-2)))) 3).bind fun d5=>
 (qd N ([c,o,K,d5]:List Int)).bind fun l1=>
 some (c,o,K,d5,l1):Option (Int×Int×Int×Int×Int)).bind fun(n1,n2,n3,n4,d6)=>
 if(!decide (d6=0))=true then
 some ([],d6)
 else
 (cut w m.At (w64 (m.At+2))).bind fun d7=>
 (jR d7).bind fun l2=>
 if(!l2)=true then
 some ([],18)
 else
 (yS w).bind fun _=>
 (zZ d7 m.Kind m.At m.Letter).bind fun _=>
 (qdl w m.At (w64 (m.At+2))).bind fun l3=>
 some (l3,0)
 else
 if(m.Kind==[115,119,97,112])=true then
 ((qb false 13).bind fun d=>
 if(!(m.Kind==[105,110,115,101,114,116]))=true then
 (qb (!decide (m.Letter=0)) 1).bind fun e=>
 if(m.Kind==[105,110,115,101,114,116])=true then
 (qF n m.Letter).bind fun d8=>
 (qb d8 3).bind fun q=>
 if m.At<0 then
 (qb true 3).bind fun M=>
 (qd N ([d,e,q,M]:List Int)).bind fun d9=>
 some (d,e,q,M,d9)
 else
 (qb (decide (m.At>(w64 ((w.length:Int)-2)))) 3).bind fun O=>
 (qd N ([d,e,q,O]:List Int)).bind fun e0=>
 some (d,e,q,O,e0)
 else
 (qb false 3).bind fun r=>
 if m.At<0 then
 (qb true 3).bind fun P=>
 (qd N ([d,e,r,P]:List Int)).bind fun e1=>
 some (d,e,r,P,e1)
 else
 (qb (decide (m.At>(w64 ((w.length:Int)-2)))) 3).bind fun Q=>
 (qd N ([d,e,r,Q]:List Int)).bind fun e2=>
 some (d,e,r,Q,e2)
 else
 (qb false 1).bind fun f=>
 if(m.Kind==[105,110,115,101,114,116])=true then
 (qF n m.Letter).bind fun e3=>
 (qb e3 3).bind fun s=>
 if m.At<0 then
 (qb true 3).bind fun T=>
 (qd N ([d,f,s,T]:List Int)).bind fun e4=>
 some (d,f,s,T,e4)
 else
 (qb (decide (m.At>(w64 ((w.length:Int)-2)))) 3).bind fun U=>
 (qd N ([d,f,s,U]:List Int)).bind fun e5=>
 some (d,f,s,U,e5)
 else
 (qb false 3).bind fun t=>
 if m.At<0 then
 (qb true 3).bind fun V=>
 (qd N ([d,f,t,V]:List Int)).bind fun e6=>
 some (d,f,t,V,e6)
 else
 (qb (decide (m.At>(w64 ((w.length:Int)-2)))) 3).bind fun W=>
 (qd N ([d,f,t,W]:List Int)).bind fun e7=>
 some (d,f,t,W,e7):Option (Int×Int×Int×Int×Int)).bind fun(l4,l5,l6,l7,X)=>
 if(!decide (X=0))=true then
 some ([],X)
 else
 (cut w m.At (w64 (m.At+2))).bind fun Y=>
 (ji Y).bind fun e8=>
 if(!e8)=true then
 some ([],18)
 else
 (yS w).bind fun _=>
 (zY Y m.Kind m.At m.Letter).bind fun(e9,f0)=>
 (qaV w m.At (w64 (m.At+2)) e9 f0).bind fun f1=>
 some (f1,0)
 else
 if(m.Kind==[116,117,114,110])=true then
 ((qb false 13).bind fun a=>
 if(!(m.Kind==[105,110,115,101,114,116]))=true then
 (qb (!decide (m.Letter=0)) 1).bind fun g=>
 if(m.Kind==[105,110,115,101,114,116])=true then
 (qF n m.Letter).bind fun f2=>
 (qb f2 3).bind fun u=>
 if m.At<0 then
 (qb true 3).bind fun Z=>
 (qd N ([a,g,u,Z]:List Int)).bind fun f3=>
 some (a,g,u,Z,f3)
 else
 (qb (decide (m.At>(w64 ((w.length:Int)-3)))) 3).bind fun a0=>
 (qd N ([a,g,u,a0]:List Int)).bind fun f4=>
 some (a,g,u,a0,f4)
 else
 (qb false 3).bind fun v=>
 if m.At<0 then
 (qb true 3).bind fun a1=>
 (qd N ([a,g,v,a1]:List Int)).bind fun f5=>
 some (a,g,v,a1,f5)
 else
 (qb (decide (m.At>(w64 ((w.length:Int)-3)))) 3).bind fun a2=>
 (qd N ([a,g,v,a2]:List Int)).bind fun f6=>
 some (a,g,v,a2,f6)
 else
 (qb false 1).bind fun h=>
 if(m.Kind==[105,110,115,101,114,116])=true then
 (qF n m.Letter).bind fun f7=>
 (qb f7 3).bind fun x=>
 if m.At<0 then
 (qb true 3).bind fun a3=>
 (qd N ([a,h,x,a3]:List Int)).bind fun f8=>
 some (a,h,x,a3,f8)
 else
 (qb (decide (m.At>(w64 ((w.length:Int)-3)))) 3).bind fun a4=>
 (qd N ([a,h,x,a4]:List Int)).bind fun f9=>
 some (a,h,x,a4,f9)
 else
 (qb false 3).bind fun y=>
 if m.At<0 then
 (qb true 3).bind fun a5=>
 (qd N ([a,h,y,a5]:List Int)).bind fun h0=>
 some (a,h,y,a5,h0)
 else
 (qb (decide (m.At>(w64 ((w.length:Int)-3)))) 3).bind fun a6=>
 (qd N ([a,h,y,a6]:List Int)).bind fun h1=>
 some (a,h,y,a6,h1):Option (Int×Int×Int×Int×Int)).bind fun(l8,l9,m0,m1,a7)=>
 if(!decide (a7=0))=true then
 some ([],a7)
 else
 (cut w m.At (w64 (m.At+3))).bind fun a8=>
 (vz a8).bind fun h2=>
 if(!h2)=true then
 some ([],18)
 else
 (yS w).bind fun _=>
 (zQ a8 m.Kind m.At m.Letter).bind fun h3=>
 (qc9 w m.At (w64 (m.At+3)) h3).bind fun h4=>
 some (h4,0)
 else
 ((qb true 13).bind fun b=>
 if(!(m.Kind==[105,110,115,101,114,116]))=true then
 (qb (!decide (m.Letter=0)) 1).bind fun i=>
 if(m.Kind==[105,110,115,101,114,116])=true then
 (qF n m.Letter).bind fun h5=>
 (qb h5 3).bind fun z=>
 if m.At<0 then
 (qb true 3).bind fun a9=>
 (qd N ([b,i,z,a9]:List Int)).bind fun h6=>
 some (b,i,z,a9,h6)
 else
 (qb (decide (m.At>(w64 ((w.length:Int)-0)))) 3).bind fun b0=>
 (qd N ([b,i,z,b0]:List Int)).bind fun h7=>
 some (b,i,z,b0,h7)
 else
 (qb false 3).bind fun A=>
 if m.At<0 then
 (qb true 3).bind fun b1=>
 (qd N ([b,i,A,b1]:List Int)).bind fun h8=>
 some (b,i,A,b1,h8)
 else
 (qb (decide (m.At>(w64 ((w.length:Int)-0)))) 3).bind fun b2=>
 (qd N ([b,i,A,b2]:List Int)).bind fun h9=>
 some (b,i,A,b2,h9)
 else
 (qb false 1).bind fun j=>
 if(m.Kind==[105,110,115,101,114,116])=true then
 (qF n m.Letter).bind fun i0=>
 (qb i0 3).bind fun B=>
 if m.At<0 then
 (qb true 3).bind fun b3=>
 (qd N ([b,j,B,b3]:List Int)).bind fun i1=>
 some (b,j,B,b3,i1)
 else
 (qb (decide (m.At>(w64 ((w.length:Int)-0)))) 3).bind fun b4=>
 (qd N ([b,j,B,b4]:List Int)).bind fun i2=>
 some (b,j,B,b4,i2)
 else
 (qb false 3).bind fun C=>
 if m.At<0 then
 (qb true 3).bind fun b5=>
 (qd N ([b,j,C,b5]:List Int)).bind fun i3=>
 some (b,j,C,b5,i3)
 else
 (qb (decide (m.At>(w64 ((w.length:Int)-0)))) 3).bind fun b6=>
 (qd N ([b,j,C,b6]:List Int)).bind fun i4=>
 some (b,j,C,b6,i4):Option (Int×Int×Int×Int×Int)).bind fun(m2,m3,m4,m5,b7)=>
 if(!decide (b7=0))=true then
 some ([],b7)
 else
 (cut w m.At (w64 (m.At+0))).bind fun m6=>
 none
theorem qbO (N:Nat) (n:Int) (w:List Int) (m:qW) {res:(List Int)×Int} (h:ky N n w m=some res):qf ZT (.fn 140) (.i n::(kAe w m.Kind m.At m.Letter)) [] (.tuple (kAT res.1 res.2)) []:=by
 unfold ky at h
 refine Uc Tryz.func140 rfl rfl (m:=90) rfl (rs:=[.tmp 6,.tmp 7]) rfl (l:=(kB n w [(2,.agg [.str m.Kind,.i m.At,.i m.Letter])])) rfl ?_
 refine sg fol (kB n w (kX [])) (kE m.Kind m.At m.Letter []) ?_
 refine sq ?_
 obtain⟨r1,b7,h⟩:=bnd h
 rcases wyB h with⟨c2,h⟩|⟨c2,h⟩
 ·refine gq fol [0,3] (kB n w (kX (kAh []))) (kE m.Kind m.At m.Letter [.cells [.i 0,.func (.func 209) [] [],.func (.func 210) [] []]]) (ac (cv (jg b7)) (ac (hs (.done (jF ZT 213 (fm1) (.str m.Kind) true) (.tuple [.agg [.i 0,.func (.func 209) [] [],.func (.func 210) [] []],.bool true])) (qcu qcO [[105,110,115,101,114,116],[99,97,110,99,101,108],[115,119,97,112],[116,117,114,110]] (xI c2) rfl)) az)) ?_
  refine sh fol (kB n w (kX (kAh (kAq (m.Kind==[105,110,115,101,114,116]))))) ?_
  refine sq ?_
  refine sq ?_
  obtain⟨⟨b8,b9,c0,c1,n42⟩,d,h⟩:=bnd h
  refine Goes.cut (s':=(ofG 90 (kD w n42 []),(kE m.Kind m.At m.Letter (.cells [.i 0,.func (.func 209) [] [],.func (.func 210) [] []]::(kF b8 b9 c0 c1 []))))) ?_ ?_
  ·obtain⟨C,H,d⟩:=bnd d
   rcases wyB d with⟨c7,d⟩|⟨c7,d⟩
   ·obtain⟨r8,e_r8,d⟩:=bnd d
    rcases wyB d with⟨c9,d⟩|⟨c9,d⟩
    ·obtain⟨r10,e_r10,d⟩:=bnd d
     obtain⟨c6,e_r11,d⟩:=bnd d
     rcases wyD d with⟨c12,d⟩|⟨c12,d⟩
     ·obtain⟨r13,e_r13,d⟩:=bnd d
      obtain⟨r14,e_r14,d⟩:=bnd d
      simp only[ZI,ZP]at d
      obtain⟨rfl,rfl,rfl,rfl,rfl⟩:=d
      exact qE.rq fol [2,5,10,12,16,18,22,32,34] (kD w r14 []) (kE m.Kind m.At m.Letter (.cells [.i 0,.func (.func 209) [] [],.func (.func 210) [] []]::(kF C r8 c6 r13 []))) (ac (cv (qa false 13 H)) (ac (gw c7) (ac (cv (qa (!decide (m.Letter=0)) 1 e_r8)) (ac (gw c9) (ac (cv (qj n m.Letter e_r10)) (ac (cv (qa r10 3 e_r11)) (ac (gw c12) (ac (cv (qa true 3 e_r13)) (ac (hs (.call 60 [.slice 2 0 4 4 1] (kE m.Kind m.At m.Letter (.cells [.i 0,.func (.func 209) [] [],.func (.func 210) [] []]::(kF C r8 c6 r13 []))) [2] [vl encI ([C,r8,c6,r13]:List Int)] (.i r14)) (qD (FzL.cons (Fz.lit rfl rfl (Ub (AllST.cons tI (AllST.cons tI (AllST.cons tI (AllST.cons tI AllST.nil)))))) FzL.nil) (qc N ([C,r8,c6,r13]:List Int) e_r14) tI rfl)) az)))))))))
     obtain⟨r15,e_r15,d⟩:=bnd d
     obtain⟨r16,e_r16,d⟩:=bnd d
     simp only[ZI,ZP]at d
     obtain⟨rfl,rfl,rfl,rfl,rfl⟩:=d
     exact qE.rq fol [2,5,10,12,16,18,22,32,34] (kD w r16 []) (kE m.Kind m.At m.Letter (.cells [.i 0,.func (.func 209) [] [],.func (.func 210) [] []]::(kF C r8 c6 r15 []))) (ac (cv (qa false 13 H)) (ac (gw c7) (ac (cv (qa (!decide (m.Letter=0)) 1 e_r8)) (ac (gw c9) (ac (cv (qj n m.Letter e_r10)) (ac (cv (qa r10 3 e_r11)) (ac (gw c12) (ac (cv (qa (decide (m.At>(w64 ((w.length:Int)-0)))) 3 e_r15)) (ac (hs (.call 60 [.slice 2 0 4 4 1] (kE m.Kind m.At m.Letter (.cells [.i 0,.func (.func 209) [] [],.func (.func 210) [] []]::(kF C r8 c6 r15 []))) [2] [vl encI ([C,r8,c6,r15]:List Int)] (.i r16)) (qD (FzL.cons (Fz.lit rfl rfl (Ub (AllST.cons tI (AllST.cons tI (AllST.cons tI (AllST.cons tI AllST.nil)))))) FzL.nil) (qc N ([C,r8,c6,r15]:List Int) e_r16) tI rfl)) az)))))))))
    obtain⟨c8,e_r17,d⟩:=bnd d
    rcases wyD d with⟨c18,d⟩|⟨c18,d⟩
    ·obtain⟨r19,e_r19,d⟩:=bnd d
     obtain⟨r20,e_r20,d⟩:=bnd d
     simp only[ZI,ZP]at d
     obtain⟨rfl,rfl,rfl,rfl,rfl⟩:=d
     exact qE.rq fol [2,5,10,12,18,22,32,34] (kD w r20 []) (kE m.Kind m.At m.Letter (.cells [.i 0,.func (.func 209) [] [],.func (.func 210) [] []]::(kF C r8 c8 r19 []))) (ac (cv (qa false 13 H)) (ac (gw c7) (ac (cv (qa (!decide (m.Letter=0)) 1 e_r8)) (ac (gw c9) (ac (cv (qa false 3 e_r17)) (ac (gw c18) (ac (cv (qa true 3 e_r19)) (ac (hs (.call 60 [.slice 2 0 4 4 1] (kE m.Kind m.At m.Letter (.cells [.i 0,.func (.func 209) [] [],.func (.func 210) [] []]::(kF C r8 c8 r19 []))) [2] [vl encI ([C,r8,c8,r19]:List Int)] (.i r20)) (qD (FzL.cons (Fz.lit rfl rfl (Ub (AllST.cons tI (AllST.cons tI (AllST.cons tI (AllST.cons tI AllST.nil)))))) FzL.nil) (qc N ([C,r8,c8,r19]:List Int) e_r20) tI rfl)) az))))))))
    obtain⟨r21,e_r21,d⟩:=bnd d
    obtain⟨r22,e_r22,d⟩:=bnd d
    simp only[ZI,ZP]at d
    obtain⟨rfl,rfl,rfl,rfl,rfl⟩:=d
    exact qE.rq fol [2,5,10,12,18,22,32,34] (kD w r22 []) (kE m.Kind m.At m.Letter (.cells [.i 0,.func (.func 209) [] [],.func (.func 210) [] []]::(kF C r8 c8 r21 []))) (ac (cv (qa false 13 H)) (ac (gw c7) (ac (cv (qa (!decide (m.Letter=0)) 1 e_r8)) (ac (gw c9) (ac (cv (qa false 3 e_r17)) (ac (gw c18) (ac (cv (qa (decide (m.At>(w64 ((w.length:Int)-0)))) 3 e_r21)) (ac (hs (.call 60 [.slice 2 0 4 4 1] (kE m.Kind m.At m.Letter (.cells [.i 0,.func (.func 209) [] [],.func (.func 210) [] []]::(kF C r8 c8 r21 []))) [2] [vl encI ([C,r8,c8,r21]:List Int)] (.i r22)) (qD (FzL.cons (Fz.lit rfl rfl (Ub (AllST.cons tI (AllST.cons tI (AllST.cons tI (AllST.cons tI AllST.nil)))))) FzL.nil) (qc N ([C,r8,c8,r21]:List Int) e_r22) tI rfl)) az))))))))
   obtain⟨z,b3,d⟩:=bnd d
   rcases wyB d with⟨c24,d⟩|⟨c24,d⟩
   ·obtain⟨r25,e_r25,d⟩:=bnd d
    obtain⟨d0,e_r26,d⟩:=bnd d
    rcases wyD d with⟨c27,d⟩|⟨c27,d⟩
    ·obtain⟨r28,e_r28,d⟩:=bnd d
     obtain⟨r29,e_r29,d⟩:=bnd d
     simp only[ZI,ZP]at d
     obtain⟨rfl,rfl,rfl,rfl,rfl⟩:=d
     exact qE.rq fol [2,5,10,12,16,18,22,32,34] (kD w r29 []) (kE m.Kind m.At m.Letter (.cells [.i 0,.func (.func 209) [] [],.func (.func 210) [] []]::(kF C z d0 r28 []))) (ac (cv (qa false 13 H)) (ac (gw c7) (ac (cv (qa false 1 b3)) (ac (gw c24) (ac (cv (qj n m.Letter e_r25)) (ac (cv (qa r25 3 e_r26)) (ac (gw c27) (ac (cv (qa true 3 e_r28)) (ac (hs (.call 60 [.slice 2 0 4 4 1] (kE m.Kind m.At m.Letter (.cells [.i 0,.func (.func 209) [] [],.func (.func 210) [] []]::(kF C z d0 r28 []))) [2] [vl encI ([C,z,d0,r28]:List Int)] (.i r29)) (qD (FzL.cons (Fz.lit rfl rfl (Ub (AllST.cons tI (AllST.cons tI (AllST.cons tI (AllST.cons tI AllST.nil)))))) FzL.nil) (qc N ([C,z,d0,r28]:List Int) e_r29) tI rfl)) az)))))))))
    obtain⟨r30,e_r30,d⟩:=bnd d
    obtain⟨r31,e_r31,d⟩:=bnd d
    simp only[ZI,ZP]at d
    obtain⟨rfl,rfl,rfl,rfl,rfl⟩:=d
    exact qE.rq fol [2,5,10,12,16,18,22,32,34] (kD w r31 []) (kE m.Kind m.At m.Letter (.cells [.i 0,.func (.func 209) [] [],.func (.func 210) [] []]::(kF C z d0 r30 []))) (ac (cv (qa false 13 H)) (ac (gw c7) (ac (cv (qa false 1 b3)) (ac (gw c24) (ac (cv (qj n m.Letter e_r25)) (ac (cv (qa r25 3 e_r26)) (ac (gw c27) (ac (cv (qa (decide (m.At>(w64 ((w.length:Int)-0)))) 3 e_r30)) (ac (hs (.call 60 [.slice 2 0 4 4 1] (kE m.Kind m.At m.Letter (.cells [.i 0,.func (.func 209) [] [],.func (.func 210) [] []]::(kF C z d0 r30 []))) [2] [vl encI ([C,z,d0,r30]:List Int)] (.i r31)) (qD (FzL.cons (Fz.lit rfl rfl (Ub (AllST.cons tI (AllST.cons tI (AllST.cons tI (AllST.cons tI AllST.nil)))))) FzL.nil) (qc N ([C,z,d0,r30]:List Int) e_r31) tI rfl)) az)))))))))
   obtain⟨d1,e_r32,d⟩:=bnd d
   rcases wyD d with⟨c33,d⟩|⟨c33,d⟩
   ·obtain⟨r34,e_r34,d⟩:=bnd d
    obtain⟨r35,e_r35,d⟩:=bnd d
    simp only[ZI,ZP]at d
    obtain⟨rfl,rfl,rfl,rfl,rfl⟩:=d
    exact qE.rq fol [2,5,10,12,18,22,32,34] (kD w r35 []) (kE m.Kind m.At m.Letter (.cells [.i 0,.func (.func 209) [] [],.func (.func 210) [] []]::(kF C z d1 r34 []))) (ac (cv (qa false 13 H)) (ac (gw c7) (ac (cv (qa false 1 b3)) (ac (gw c24) (ac (cv (qa false 3 e_r32)) (ac (gw c33) (ac (cv (qa true 3 e_r34)) (ac (hs (.call 60 [.slice 2 0 4 4 1] (kE m.Kind m.At m.Letter (.cells [.i 0,.func (.func 209) [] [],.func (.func 210) [] []]::(kF C z d1 r34 []))) [2] [vl encI ([C,z,d1,r34]:List Int)] (.i r35)) (qD (FzL.cons (Fz.lit rfl rfl (Ub (AllST.cons tI (AllST.cons tI (AllST.cons tI (AllST.cons tI AllST.nil)))))) FzL.nil) (qc N ([C,z,d1,r34]:List Int) e_r35) tI rfl)) az))))))))
   obtain⟨r36,e_r36,d⟩:=bnd d
   obtain⟨r37,e_r37,d⟩:=bnd d
   simp only[ZI,ZP]at d
   obtain⟨rfl,rfl,rfl,rfl,rfl⟩:=d
   exact qE.rq fol [2,5,10,12,18,22,32,34] (kD w r37 []) (kE m.Kind m.At m.Letter (.cells [.i 0,.func (.func 209) [] [],.func (.func 210) [] []]::(kF C z d1 r36 []))) (ac (cv (qa false 13 H)) (ac (gw c7) (ac (cv (qa false 1 b3)) (ac (gw c24) (ac (cv (qa false 3 e_r32)) (ac (gw c33) (ac (cv (qa (decide (m.At>(w64 ((w.length:Int)-0)))) 3 e_r36)) (ac (hs (.call 60 [.slice 2 0 4 4 1] (kE m.Kind m.At m.Letter (.cells [.i 0,.func (.func 209) [] [],.func (.func 210) [] []]::(kF C z d1 r36 []))) [2] [vl encI ([C,z,d1,r36]:List Int)] (.i r37)) (qD (FzL.cons (Fz.lit rfl rfl (Ub (AllST.cons tI (AllST.cons tI (AllST.cons tI (AllST.cons tI AllST.nil)))))) FzL.nil) (qc N ([C,z,d1,r36]:List Int) e_r37) tI rfl)) az))))))))
  try dsimp only at h
  refine sh fol (kD w n42 [(59,.bool (!decide (n42=0)))]) ?_
  refine ihB h (fun c44 h=>?_) (fun c44 h=>?_)
  ·refine sh fol (kAL (kBK n42)) ?_
   refine Goes.ret ?_
   obtain rfl:=si h
   exact(gw2 (kAd n42) (FzW.tuple (qw.cons (FzW.nilv (E:=encI)) (qw.cons (Ua tI) qw.nil))))
  refine Goes.skip ?_
  obtain⟨s45,e_s45,h⟩:=bnd h
  refine sq (gr fol [8] (kQ w (kX (kAj s45 []))) (ac (hs (.done (.opt (vE ZT 22 (vl encI w) (some (.i m.At)) (some (.i (w64 (m.At+0)))) none)) (vl encI s45)) (qbB ja (E:=encI) rfl (some m.At) (some (w64 (m.At+0))) e_s45)) az) ?_)
  refine sq ?_
  obtain⟨r46,e_r46,h⟩:=bnd h
  refine sq (gr fol [3] (kQ w (kX (kAj s45 [(74,.bool (!r46))]))) (ac (cv (qaA s45 e_r46)) az) ?_)
  refine ihB h (fun c47 h=>?_) (fun c47 h=>?_)
  ·refine sh fol (kAL [(7,.i 18)]) ?_
   refine Goes.ret ?_
   obtain rfl:=si h
   exact(gw2 kBP (FzW.tuple (qw.cons (FzW.nilv (E:=encI)) (qw.cons (Ua tI) qw.nil))))
  refine Goes.skip ?_
  obtain⟨_,e_r48,h⟩:=bnd h
  obtain⟨n50,e_r49,h⟩:=bnd h
  obtain⟨l52,e_r51,h⟩:=bnd h
  refine sq (gq fol [1,13,14] ((6,.oslice 5 l52.length 1)::kBJ) (kE m.Kind m.At m.Letter (.cells [.i 0,.func (.func 209) [] [],.func (.func 210) [] []]::(kF b8 b9 c0 c1 (.dead:: .cells [.i m.Letter,.i n50]::(kA l52))))) (ac (hs (.callH 117 [vl encI w] (kE m.Kind m.At m.Letter (.cells [.i 0,.func (.func 209) [] [],.func (.func 210) [] []]::(kF b8 b9 c0 c1 []))) [] (.gslice 3 w.length 1) (kE m.Kind m.At m.Letter (.cells [.i 0,.func (.func 209) [] [],.func (.func 210) [] []]::(kF b8 b9 c0 c1 (kA w))))) (j3 [] [none,none,none,some 0] (yz w e_r48) .nil rfl rfl (.old rfl rfl (.old rfl rfl (.old rfl rfl (.new rfl rfl (.same fa) rfl .nil)))) (rc (.same (ql encI _)) rn) (.gslice rfl) rfl)) (ac (hs (.callH 210 (kAe s45 m.Kind m.At m.Letter) (kE m.Kind m.At m.Letter (.cells [.i 0,.func (.func 209) [] [],.func (.func 210) [] []]::(kF b8 b9 c0 c1 (kA w)))) [] (.slice 4 0 2 2 1) (kE m.Kind m.At m.Letter (.cells [.i 0,.func (.func 209) [] [],.func (.func 210) [] []]::(kF b8 b9 c0 c1 (kJ w (kV m.Letter n50)))))) (j3 [] [none,none,none,none,some 0] (xz s45 m.Kind m.At m.Letter e_r49) .nil rfl rfl (.old rfl rfl (.old rfl rfl (.old rfl rfl (.old rfl rfl (.new rfl rfl (.cells (rc (.same nI) (rc (.same nI) rn))) rfl .nil))))) (rc (.same (ql encI _)) (rc (.same (qo.agg sn)) rn)) (.slice rfl) rfl)) (ac (hs (.callH 184 [.gslice 3 w.length 1,.i m.At,.i (w64 (m.At+0)),.slice 4 0 2 2 1] (kE m.Kind m.At m.Letter (.cells [.i 0,.func (.func 209) [] [],.func (.func 210) [] []]::(kF b8 b9 c0 c1 (kJ w (kV m.Letter n50))))) [3,4] (.oslice 5 l52.length 1) (kE m.Kind m.At m.Letter (.cells [.i 0,.func (.func 209) [] [],.func (.func 210) [] []]::(kF b8 b9 c0 c1 (.dead:: .cells [.i m.Letter,.i n50]::(kA l52)))))) (j3 [some 3,some 4] [none,none,none,none,some 1,some 2] (qcZ w m.At (w64 (m.At+0)) m.Letter n50 e_r51) (.ks (.kb rfl (.cells (rc (.same nI) (rc (.same nI) rn))) .nil)) rfl rfl (.old rfl rfl (.old rfl rfl (.old rfl rfl (.dead (.back rfl rfl (.cells (rc (.same nI) (rc (.same nI) rn))) rfl (.new rfl rfl (.same fa) rfl .nil)))))) (rc (.gslice rfl) (rc (.same nI) (rc (.same nI) (rc (.slice rfl) rn)))) (.oslice rfl) rfl)) az))) ?_)
  refine Goes.ret ?_
  obtain rfl:=si h
  exact(gw2 [.oslice 5 l52.length 1,.i 0] (FzW.tuple (qw.cons (FzW.fz (Fz.os (E:=encI) rfl rfl (nl rfl))) (qw.cons (Ua tI) qw.nil))))
 rcases wyB h with⟨c3,h⟩|⟨c3,h⟩
 ·refine gq fol [0,3] (kB n w (kX (kAh []))) (kE m.Kind m.At m.Letter [.cells [.i 2,.func (.func 211) [] [],.func (.func 212) [] []]]) (ac (cv (jg b7)) (ac (hs (.done (jF ZT 213 (fm1) (.str m.Kind) true) (.tuple [.agg [.i 2,.func (.func 211) [] [],.func (.func 212) [] []],.bool true])) (qcu qcO [[105,110,115,101,114,116],[99,97,110,99,101,108],[115,119,97,112],[116,117,114,110]] (zD c2 (xI c3)) rfl)) az)) ?_
  refine sh fol (kB n w (kX (kAh (kAq (m.Kind==[105,110,115,101,114,116]))))) ?_
  refine sq ?_
  refine sq ?_
  obtain⟨⟨d2,d3,d4,d5,n89⟩,e,h⟩:=bnd h
  refine Goes.cut (s':=(ofG 90 (kD w n89 []),(kE m.Kind m.At m.Letter (.cells [.i 2,.func (.func 211) [] [],.func (.func 212) [] []]::(kF d2 d3 d4 d5 []))))) ?_ ?_
  ·obtain⟨j,x,e⟩:=bnd e
   rcases wyB e with⟨b4,e⟩|⟨b4,e⟩
   ·obtain⟨A,b5,e⟩:=bnd e
    rcases wyB e with⟨c56,e⟩|⟨c56,e⟩
    ·obtain⟨r57,e_r57,e⟩:=bnd e
     obtain⟨d6,e_r58,e⟩:=bnd e
     rcases wyD e with⟨c59,e⟩|⟨c59,e⟩
     ·obtain⟨r60,e_r60,e⟩:=bnd e
      obtain⟨r61,e_r61,e⟩:=bnd e
      simp only[ZI,ZP]at e
      obtain⟨rfl,rfl,rfl,rfl,rfl⟩:=e
      exact qE.rq fol [2,5,10,12,16,18,22,32,34] (kD w r61 []) (kE m.Kind m.At m.Letter (.cells [.i 2,.func (.func 211) [] [],.func (.func 212) [] []]::(kF j A d6 r60 []))) (ac (cv (qa false 13 x)) (ac (gw b4) (ac (cv (qa (!decide (m.Letter=0)) 1 b5)) (ac (gw c56) (ac (cv (qj n m.Letter e_r57)) (ac (cv (qa r57 3 e_r58)) (ac (gw c59) (ac (cv (qa true 3 e_r60)) (ac (hs (.call 60 [.slice 2 0 4 4 1] (kE m.Kind m.At m.Letter (.cells [.i 2,.func (.func 211) [] [],.func (.func 212) [] []]::(kF j A d6 r60 []))) [2] [vl encI ([j,A,d6,r60]:List Int)] (.i r61)) (qD (FzL.cons (Fz.lit rfl rfl (Ub (AllST.cons tI (AllST.cons tI (AllST.cons tI (AllST.cons tI AllST.nil)))))) FzL.nil) (qc N ([j,A,d6,r60]:List Int) e_r61) tI rfl)) az)))))))))
     obtain⟨r62,e_r62,e⟩:=bnd e
     obtain⟨r63,e_r63,e⟩:=bnd e
     simp only[ZI,ZP]at e
     obtain⟨rfl,rfl,rfl,rfl,rfl⟩:=e
     exact qE.rq fol [2,5,10,12,16,18,22,32,34] (kD w r63 []) (kE m.Kind m.At m.Letter (.cells [.i 2,.func (.func 211) [] [],.func (.func 212) [] []]::(kF j A d6 r62 []))) (ac (cv (qa false 13 x)) (ac (gw b4) (ac (cv (qa (!decide (m.Letter=0)) 1 b5)) (ac (gw c56) (ac (cv (qj n m.Letter e_r57)) (ac (cv (qa r57 3 e_r58)) (ac (gw c59) (ac (cv (qa (decide (m.At>(w64 ((w.length:Int)-2)))) 3 e_r62)) (ac (hs (.call 60 [.slice 2 0 4 4 1] (kE m.Kind m.At m.Letter (.cells [.i 2,.func (.func 211) [] [],.func (.func 212) [] []]::(kF j A d6 r62 []))) [2] [vl encI ([j,A,d6,r62]:List Int)] (.i r63)) (qD (FzL.cons (Fz.lit rfl rfl (Ub (AllST.cons tI (AllST.cons tI (AllST.cons tI (AllST.cons tI AllST.nil)))))) FzL.nil) (qc N ([j,A,d6,r62]:List Int) e_r63) tI rfl)) az)))))))))
    obtain⟨d7,e_r64,e⟩:=bnd e
    rcases wyD e with⟨c65,e⟩|⟨c65,e⟩
    ·obtain⟨r66,e_r66,e⟩:=bnd e
     obtain⟨r67,e_r67,e⟩:=bnd e
     simp only[ZI,ZP]at e
     obtain⟨rfl,rfl,rfl,rfl,rfl⟩:=e
     exact qE.rq fol [2,5,10,12,18,22,32,34] (kD w r67 []) (kE m.Kind m.At m.Letter (.cells [.i 2,.func (.func 211) [] [],.func (.func 212) [] []]::(kF j A d7 r66 []))) (ac (cv (qa false 13 x)) (ac (gw b4) (ac (cv (qa (!decide (m.Letter=0)) 1 b5)) (ac (gw c56) (ac (cv (qa false 3 e_r64)) (ac (gw c65) (ac (cv (qa true 3 e_r66)) (ac (hs (.call 60 [.slice 2 0 4 4 1] (kE m.Kind m.At m.Letter (.cells [.i 2,.func (.func 211) [] [],.func (.func 212) [] []]::(kF j A d7 r66 []))) [2] [vl encI ([j,A,d7,r66]:List Int)] (.i r67)) (qD (FzL.cons (Fz.lit rfl rfl (Ub (AllST.cons tI (AllST.cons tI (AllST.cons tI (AllST.cons tI AllST.nil)))))) FzL.nil) (qc N ([j,A,d7,r66]:List Int) e_r67) tI rfl)) az))))))))
    obtain⟨r68,e_r68,e⟩:=bnd e
    obtain⟨r69,e_r69,e⟩:=bnd e
    simp only[ZI,ZP]at e
    obtain⟨rfl,rfl,rfl,rfl,rfl⟩:=e
    exact qE.rq fol [2,5,10,12,18,22,32,34] (kD w r69 []) (kE m.Kind m.At m.Letter (.cells [.i 2,.func (.func 211) [] [],.func (.func 212) [] []]::(kF j A d7 r68 []))) (ac (cv (qa false 13 x)) (ac (gw b4) (ac (cv (qa (!decide (m.Letter=0)) 1 b5)) (ac (gw c56) (ac (cv (qa false 3 e_r64)) (ac (gw c65) (ac (cv (qa (decide (m.At>(w64 ((w.length:Int)-2)))) 3 e_r68)) (ac (hs (.call 60 [.slice 2 0 4 4 1] (kE m.Kind m.At m.Letter (.cells [.i 2,.func (.func 211) [] [],.func (.func 212) [] []]::(kF j A d7 r68 []))) [2] [vl encI ([j,A,d7,r68]:List Int)] (.i r69)) (qD (FzL.cons (Fz.lit rfl rfl (Ub (AllST.cons tI (AllST.cons tI (AllST.cons tI (AllST.cons tI AllST.nil)))))) FzL.nil) (qc N ([j,A,d7,r68]:List Int) e_r69) tI rfl)) az))))))))
   obtain⟨B,b6,e⟩:=bnd e
   rcases wyB e with⟨c71,e⟩|⟨c71,e⟩
   ·obtain⟨r72,e_r72,e⟩:=bnd e
    obtain⟨d8,e_r73,e⟩:=bnd e
    rcases wyD e with⟨c74,e⟩|⟨c74,e⟩
    ·obtain⟨r75,e_r75,e⟩:=bnd e
     obtain⟨r76,e_r76,e⟩:=bnd e
     simp only[ZI,ZP]at e
     obtain⟨rfl,rfl,rfl,rfl,rfl⟩:=e
     exact qE.rq fol [2,5,10,12,16,18,22,32,34] (kD w r76 []) (kE m.Kind m.At m.Letter (.cells [.i 2,.func (.func 211) [] [],.func (.func 212) [] []]::(kF j B d8 r75 []))) (ac (cv (qa false 13 x)) (ac (gw b4) (ac (cv (qa false 1 b6)) (ac (gw c71) (ac (cv (qj n m.Letter e_r72)) (ac (cv (qa r72 3 e_r73)) (ac (gw c74) (ac (cv (qa true 3 e_r75)) (ac (hs (.call 60 [.slice 2 0 4 4 1] (kE m.Kind m.At m.Letter (.cells [.i 2,.func (.func 211) [] [],.func (.func 212) [] []]::(kF j B d8 r75 []))) [2] [vl encI ([j,B,d8,r75]:List Int)] (.i r76)) (qD (FzL.cons (Fz.lit rfl rfl (Ub (AllST.cons tI (AllST.cons tI (AllST.cons tI (AllST.cons tI AllST.nil)))))) FzL.nil) (qc N ([j,B,d8,r75]:List Int) e_r76) tI rfl)) az)))))))))
    obtain⟨r77,e_r77,e⟩:=bnd e
    obtain⟨r78,e_r78,e⟩:=bnd e
    simp only[ZI,ZP]at e
    obtain⟨rfl,rfl,rfl,rfl,rfl⟩:=e
    exact qE.rq fol [2,5,10,12,16,18,22,32,34] (kD w r78 []) (kE m.Kind m.At m.Letter (.cells [.i 2,.func (.func 211) [] [],.func (.func 212) [] []]::(kF j B d8 r77 []))) (ac (cv (qa false 13 x)) (ac (gw b4) (ac (cv (qa false 1 b6)) (ac (gw c71) (ac (cv (qj n m.Letter e_r72)) (ac (cv (qa r72 3 e_r73)) (ac (gw c74) (ac (cv (qa (decide (m.At>(w64 ((w.length:Int)-2)))) 3 e_r77)) (ac (hs (.call 60 [.slice 2 0 4 4 1] (kE m.Kind m.At m.Letter (.cells [.i 2,.func (.func 211) [] [],.func (.func 212) [] []]::(kF j B d8 r77 []))) [2] [vl encI ([j,B,d8,r77]:List Int)] (.i r78)) (qD (FzL.cons (Fz.lit rfl rfl (Ub (AllST.cons tI (AllST.cons tI (AllST.cons tI (AllST.cons tI AllST.nil)))))) FzL.nil) (qc N ([j,B,d8,r77]:List Int) e_r78) tI rfl)) az)))))))))
   obtain⟨d9,e_r79,e⟩:=bnd e
   rcases wyD e with⟨c80,e⟩|⟨c80,e⟩
   ·obtain⟨r81,e_r81,e⟩:=bnd e
    obtain⟨r82,e_r82,e⟩:=bnd e
    simp only[ZI,ZP]at e
    obtain⟨rfl,rfl,rfl,rfl,rfl⟩:=e
    exact qE.rq fol [2,5,10,12,18,22,32,34] (kD w r82 []) (kE m.Kind m.At m.Letter (.cells [.i 2,.func (.func 211) [] [],.func (.func 212) [] []]::(kF j B d9 r81 []))) (ac (cv (qa false 13 x)) (ac (gw b4) (ac (cv (qa false 1 b6)) (ac (gw c71) (ac (cv (qa false 3 e_r79)) (ac (gw c80) (ac (cv (qa true 3 e_r81)) (ac (hs (.call 60 [.slice 2 0 4 4 1] (kE m.Kind m.At m.Letter (.cells [.i 2,.func (.func 211) [] [],.func (.func 212) [] []]::(kF j B d9 r81 []))) [2] [vl encI ([j,B,d9,r81]:List Int)] (.i r82)) (qD (FzL.cons (Fz.lit rfl rfl (Ub (AllST.cons tI (AllST.cons tI (AllST.cons tI (AllST.cons tI AllST.nil)))))) FzL.nil) (qc N ([j,B,d9,r81]:List Int) e_r82) tI rfl)) az))))))))
   obtain⟨r83,e_r83,e⟩:=bnd e
   obtain⟨r84,e_r84,e⟩:=bnd e
   simp only[ZI,ZP]at e
   obtain⟨rfl,rfl,rfl,rfl,rfl⟩:=e
   exact qE.rq fol [2,5,10,12,18,22,32,34] (kD w r84 []) (kE m.Kind m.At m.Letter (.cells [.i 2,.func (.func 211) [] [],.func (.func 212) [] []]::(kF j B d9 r83 []))) (ac (cv (qa false 13 x)) (ac (gw b4) (ac (cv (qa false 1 b6)) (ac (gw c71) (ac (cv (qa false 3 e_r79)) (ac (gw c80) (ac (cv (qa (decide (m.At>(w64 ((w.length:Int)-2)))) 3 e_r83)) (ac (hs (.call 60 [.slice 2 0 4 4 1] (kE m.Kind m.At m.Letter (.cells [.i 2,.func (.func 211) [] [],.func (.func 212) [] []]::(kF j B d9 r83 []))) [2] [vl encI ([j,B,d9,r83]:List Int)] (.i r84)) (qD (FzL.cons (Fz.lit rfl rfl (Ub (AllST.cons tI (AllST.cons tI (AllST.cons tI (AllST.cons tI AllST.nil)))))) FzL.nil) (qc N ([j,B,d9,r83]:List Int) e_r84) tI rfl)) az))))))))
  try dsimp only at h
  refine sh fol (kD w n89 [(59,.bool (!decide (n89=0)))]) ?_
  refine ihB h (fun c91 h=>?_) (fun c91 h=>?_)
  ·refine sh fol (kAL (kBK n89)) ?_
   refine Goes.ret ?_
   obtain rfl:=si h
   exact(gw2 (kAd n89) (FzW.tuple (qw.cons (FzW.nilv (E:=encI)) (qw.cons (Ua tI) qw.nil))))
  refine Goes.skip ?_
  obtain⟨s92,e_s92,h⟩:=bnd h
  refine sq (gr fol [8] (kQ w (kX (kAj s92 []))) (ac (hs (.done (.opt (vE ZT 22 (vl encI w) (some (.i m.At)) (some (.i (w64 (m.At+2)))) none)) (vl encI s92)) (qbB ja (E:=encI) rfl (some m.At) (some (w64 (m.At+2))) e_s92)) az) ?_)
  refine sq ?_
  obtain⟨r93,e_r93,h⟩:=bnd h
  refine sq (gr fol [3] (kQ w (kX (kAj s92 [(74,.bool (!r93))]))) (ac (cv (qaJ s92 e_r93)) az) ?_)
  refine ihB h (fun c94 h=>?_) (fun c94 h=>?_)
  ·refine sh fol (kAL [(7,.i 18)]) ?_
   refine Goes.ret ?_
   obtain rfl:=si h
   exact(gw2 kBP (FzW.tuple (qw.cons (FzW.nilv (E:=encI)) (qw.cons (Ua tI) qw.nil))))
  refine Goes.skip ?_
  obtain⟨_,e_r95,h⟩:=bnd h
  obtain⟨_,e_r96,h⟩:=bnd h
  obtain⟨l98,e_r97,h⟩:=bnd h
  refine sq (gq fol [1,13,14] ((6,.oslice 4 l98.length 1)::kBJ) (kE m.Kind m.At m.Letter (.cells [.i 2,.func (.func 211) [] [],.func (.func 212) [] []]::(kF d2 d3 d4 d5 (.dead::(kA l98))))) (ac (hs (.callH 117 [vl encI w] (kE m.Kind m.At m.Letter (.cells [.i 2,.func (.func 211) [] [],.func (.func 212) [] []]::(kF d2 d3 d4 d5 []))) [] (.gslice 3 w.length 1) (kE m.Kind m.At m.Letter (.cells [.i 2,.func (.func 211) [] [],.func (.func 212) [] []]::(kF d2 d3 d4 d5 (kA w))))) (j3 [] [none,none,none,some 0] (yz w e_r95) .nil rfl rfl (.old rfl rfl (.old rfl rfl (.old rfl rfl (.new rfl rfl (.same fa) rfl .nil)))) (rc (.same (ql encI _)) rn) (.gslice rfl) rfl)) (ac (hs (.callH 212 (kAe s92 m.Kind m.At m.Letter) (kE m.Kind m.At m.Letter (.cells [.i 2,.func (.func 211) [] [],.func (.func 212) [] []]::(kF d2 d3 d4 d5 (kA w)))) [] .nilslice (kE m.Kind m.At m.Letter (.cells [.i 2,.func (.func 211) [] [],.func (.func 212) [] []]::(kF d2 d3 d4 d5 (kA w))))) (j3 [] [none,none,none,none] (xD s92 m.Kind m.At m.Letter e_r96) .nil rfl rfl (.old rfl rfl (.old rfl rfl (.old rfl rfl (.old rfl rfl .nil)))) (rc (.same (ql encI _)) (rc (.same (qo.agg sn)) rn)) (.same (qo.nilslice)) rfl)) (ac (hs (.callH 184 [.gslice 3 w.length 1,.i m.At,.i (w64 (m.At+2)),.nilslice] (kE m.Kind m.At m.Letter (.cells [.i 2,.func (.func 211) [] [],.func (.func 212) [] []]::(kF d2 d3 d4 d5 (kA w)))) [3] (.oslice 4 l98.length 1) (kE m.Kind m.At m.Letter (.cells [.i 2,.func (.func 211) [] [],.func (.func 212) [] []]::(kF d2 d3 d4 d5 (.dead::(kA l98)))))) (j3 [some 3] [none,none,none,none,some 1] (qf5 w m.At (w64 (m.At+2)) e_r97) (.ks .nil) rfl rfl (.old rfl rfl (.old rfl rfl (.old rfl rfl (.dead (.new rfl rfl (.same fa) rfl .nil))))) (rc (.gslice rfl) (rc (.same nI) (rc (.same nI) (rc (.same (qo.nilslice)) rn)))) (.oslice rfl) rfl)) az))) ?_)
  refine Goes.ret ?_
  obtain rfl:=si h
  exact(gw2 [.oslice 4 l98.length 1,.i 0] (FzW.tuple (qw.cons (FzW.fz (Fz.os (E:=encI) rfl rfl (nl rfl))) (qw.cons (Ua tI) qw.nil))))
 rcases wyB h with⟨c4,h⟩|⟨c4,h⟩
 ·refine gq fol [0,3] (kB n w (kX (kAh []))) (kE m.Kind m.At m.Letter [.cells [.i 2,.func (.func 213) [] [],.func (.func 214) [] []]]) (ac (cv (jg b7)) (ac (hs (.done (jF ZT 213 (fm1) (.str m.Kind) true) (.tuple [.agg [.i 2,.func (.func 213) [] [],.func (.func 214) [] []],.bool true])) (qcu qcO [[105,110,115,101,114,116],[99,97,110,99,101,108],[115,119,97,112],[116,117,114,110]] (zD c2 (zD c3 (xI c4))) rfl)) az)) ?_
  refine sh fol (kB n w (kX (kAh (kAq (m.Kind==[105,110,115,101,114,116]))))) ?_
  refine sq ?_
  refine sq ?_
  obtain⟨⟨I,J,K,L,e0⟩,a,h⟩:=bnd h
  refine Goes.cut (s':=(ofG 90 (kD w e0 []),(kE m.Kind m.At m.Letter (.cells [.i 2,.func (.func 213) [] [],.func (.func 214) [] []]::(kF I J K L []))))) ?_ ?_
  ·obtain⟨k,y,a⟩:=bnd a
   rcases wyB a with⟨D,a⟩|⟨D,a⟩
   ·obtain⟨o,a5,a⟩:=bnd a
    rcases wyB a with⟨e1,a⟩|⟨e1,a⟩
    ·obtain⟨r103,e_r103,a⟩:=bnd a
     obtain⟨M,e_r104,a⟩:=bnd a
     rcases wyD a with⟨c105,a⟩|⟨c105,a⟩
     ·obtain⟨r106,e_r106,a⟩:=bnd a
      obtain⟨r107,e_r107,a⟩:=bnd a
      simp only[ZI,ZP]at a
      obtain⟨rfl,rfl,rfl,rfl,rfl⟩:=a
      exact qE.rq fol [2,5,10,12,16,18,22,32,34] (kD w r107 []) (kE m.Kind m.At m.Letter (.cells [.i 2,.func (.func 213) [] [],.func (.func 214) [] []]::(kF k o M r106 []))) (ac (cv (qa false 13 y)) (ac (gw D) (ac (cv (qa (!decide (m.Letter=0)) 1 a5)) (ac (gw e1) (ac (cv (qj n m.Letter e_r103)) (ac (cv (qa r103 3 e_r104)) (ac (gw c105) (ac (cv (qa true 3 e_r106)) (ac (hs (.call 60 [.slice 2 0 4 4 1] (kE m.Kind m.At m.Letter (.cells [.i 2,.func (.func 213) [] [],.func (.func 214) [] []]::(kF k o M r106 []))) [2] [vl encI ([k,o,M,r106]:List Int)] (.i r107)) (qD (FzL.cons (Fz.lit rfl rfl (Ub (AllST.cons tI (AllST.cons tI (AllST.cons tI (AllST.cons tI AllST.nil)))))) FzL.nil) (qc N ([k,o,M,r106]:List Int) e_r107) tI rfl)) az)))))))))
     obtain⟨r108,e_r108,a⟩:=bnd a
     obtain⟨r109,e_r109,a⟩:=bnd a
     simp only[ZI,ZP]at a
     obtain⟨rfl,rfl,rfl,rfl,rfl⟩:=a
     exact qE.rq fol [2,5,10,12,16,18,22,32,34] (kD w r109 []) (kE m.Kind m.At m.Letter (.cells [.i 2,.func (.func 213) [] [],.func (.func 214) [] []]::(kF k o M r108 []))) (ac (cv (qa false 13 y)) (ac (gw D) (ac (cv (qa (!decide (m.Letter=0)) 1 a5)) (ac (gw e1) (ac (cv (qj n m.Letter e_r103)) (ac (cv (qa r103 3 e_r104)) (ac (gw c105) (ac (cv (qa (decide (m.At>(w64 ((w.length:Int)-2)))) 3 e_r108)) (ac (hs (.call 60 [.slice 2 0 4 4 1] (kE m.Kind m.At m.Letter (.cells [.i 2,.func (.func 213) [] [],.func (.func 214) [] []]::(kF k o M r108 []))) [2] [vl encI ([k,o,M,r108]:List Int)] (.i r109)) (qD (FzL.cons (Fz.lit rfl rfl (Ub (AllST.cons tI (AllST.cons tI (AllST.cons tI (AllST.cons tI AllST.nil)))))) FzL.nil) (qc N ([k,o,M,r108]:List Int) e_r109) tI rfl)) az)))))))))
    obtain⟨O,e_r110,a⟩:=bnd a
    rcases wyD a with⟨c111,a⟩|⟨c111,a⟩
    ·obtain⟨r112,e_r112,a⟩:=bnd a
     obtain⟨r113,e_r113,a⟩:=bnd a
     simp only[ZI,ZP]at a
     obtain⟨rfl,rfl,rfl,rfl,rfl⟩:=a
     exact qE.rq fol [2,5,10,12,18,22,32,34] (kD w r113 []) (kE m.Kind m.At m.Letter (.cells [.i 2,.func (.func 213) [] [],.func (.func 214) [] []]::(kF k o O r112 []))) (ac (cv (qa false 13 y)) (ac (gw D) (ac (cv (qa (!decide (m.Letter=0)) 1 a5)) (ac (gw e1) (ac (cv (qa false 3 e_r110)) (ac (gw c111) (ac (cv (qa true 3 e_r112)) (ac (hs (.call 60 [.slice 2 0 4 4 1] (kE m.Kind m.At m.Letter (.cells [.i 2,.func (.func 213) [] [],.func (.func 214) [] []]::(kF k o O r112 []))) [2] [vl encI ([k,o,O,r112]:List Int)] (.i r113)) (qD (FzL.cons (Fz.lit rfl rfl (Ub (AllST.cons tI (AllST.cons tI (AllST.cons tI (AllST.cons tI AllST.nil)))))) FzL.nil) (qc N ([k,o,O,r112]:List Int) e_r113) tI rfl)) az))))))))
    obtain⟨r114,e_r114,a⟩:=bnd a
    obtain⟨r115,e_r115,a⟩:=bnd a
    simp only[ZI,ZP]at a
    obtain⟨rfl,rfl,rfl,rfl,rfl⟩:=a
    exact qE.rq fol [2,5,10,12,18,22,32,34] (kD w r115 []) (kE m.Kind m.At m.Letter (.cells [.i 2,.func (.func 213) [] [],.func (.func 214) [] []]::(kF k o O r114 []))) (ac (cv (qa false 13 y)) (ac (gw D) (ac (cv (qa (!decide (m.Letter=0)) 1 a5)) (ac (gw e1) (ac (cv (qa false 3 e_r110)) (ac (gw c111) (ac (cv (qa (decide (m.At>(w64 ((w.length:Int)-2)))) 3 e_r114)) (ac (hs (.call 60 [.slice 2 0 4 4 1] (kE m.Kind m.At m.Letter (.cells [.i 2,.func (.func 213) [] [],.func (.func 214) [] []]::(kF k o O r114 []))) [2] [vl encI ([k,o,O,r114]:List Int)] (.i r115)) (qD (FzL.cons (Fz.lit rfl rfl (Ub (AllST.cons tI (AllST.cons tI (AllST.cons tI (AllST.cons tI AllST.nil)))))) FzL.nil) (qc N ([k,o,O,r114]:List Int) e_r115) tI rfl)) az))))))))
   obtain⟨p,a6,a⟩:=bnd a
   rcases wyB a with⟨e2,a⟩|⟨e2,a⟩
   ·obtain⟨r118,e_r118,a⟩:=bnd a
    obtain⟨P,e_r119,a⟩:=bnd a
    rcases wyD a with⟨c120,a⟩|⟨c120,a⟩
    ·obtain⟨r121,e_r121,a⟩:=bnd a
     obtain⟨r122,e_r122,a⟩:=bnd a
     simp only[ZI,ZP]at a
     obtain⟨rfl,rfl,rfl,rfl,rfl⟩:=a
     exact qE.rq fol [2,5,10,12,16,18,22,32,34] (kD w r122 []) (kE m.Kind m.At m.Letter (.cells [.i 2,.func (.func 213) [] [],.func (.func 214) [] []]::(kF k p P r121 []))) (ac (cv (qa false 13 y)) (ac (gw D) (ac (cv (qa false 1 a6)) (ac (gw e2) (ac (cv (qj n m.Letter e_r118)) (ac (cv (qa r118 3 e_r119)) (ac (gw c120) (ac (cv (qa true 3 e_r121)) (ac (hs (.call 60 [.slice 2 0 4 4 1] (kE m.Kind m.At m.Letter (.cells [.i 2,.func (.func 213) [] [],.func (.func 214) [] []]::(kF k p P r121 []))) [2] [vl encI ([k,p,P,r121]:List Int)] (.i r122)) (qD (FzL.cons (Fz.lit rfl rfl (Ub (AllST.cons tI (AllST.cons tI (AllST.cons tI (AllST.cons tI AllST.nil)))))) FzL.nil) (qc N ([k,p,P,r121]:List Int) e_r122) tI rfl)) az)))))))))
    obtain⟨r123,e_r123,a⟩:=bnd a
    obtain⟨r124,e_r124,a⟩:=bnd a
    simp only[ZI,ZP]at a
    obtain⟨rfl,rfl,rfl,rfl,rfl⟩:=a
    exact qE.rq fol [2,5,10,12,16,18,22,32,34] (kD w r124 []) (kE m.Kind m.At m.Letter (.cells [.i 2,.func (.func 213) [] [],.func (.func 214) [] []]::(kF k p P r123 []))) (ac (cv (qa false 13 y)) (ac (gw D) (ac (cv (qa false 1 a6)) (ac (gw e2) (ac (cv (qj n m.Letter e_r118)) (ac (cv (qa r118 3 e_r119)) (ac (gw c120) (ac (cv (qa (decide (m.At>(w64 ((w.length:Int)-2)))) 3 e_r123)) (ac (hs (.call 60 [.slice 2 0 4 4 1] (kE m.Kind m.At m.Letter (.cells [.i 2,.func (.func 213) [] [],.func (.func 214) [] []]::(kF k p P r123 []))) [2] [vl encI ([k,p,P,r123]:List Int)] (.i r124)) (qD (FzL.cons (Fz.lit rfl rfl (Ub (AllST.cons tI (AllST.cons tI (AllST.cons tI (AllST.cons tI AllST.nil)))))) FzL.nil) (qc N ([k,p,P,r123]:List Int) e_r124) tI rfl)) az)))))))))
   obtain⟨Q,e_r125,a⟩:=bnd a
   rcases wyD a with⟨c126,a⟩|⟨c126,a⟩
   ·obtain⟨r127,e_r127,a⟩:=bnd a
    obtain⟨r128,e_r128,a⟩:=bnd a
    simp only[ZI,ZP]at a
    obtain⟨rfl,rfl,rfl,rfl,rfl⟩:=a
    exact qE.rq fol [2,5,10,12,18,22,32,34] (kD w r128 []) (kE m.Kind m.At m.Letter (.cells [.i 2,.func (.func 213) [] [],.func (.func 214) [] []]::(kF k p Q r127 []))) (ac (cv (qa false 13 y)) (ac (gw D) (ac (cv (qa false 1 a6)) (ac (gw e2) (ac (cv (qa false 3 e_r125)) (ac (gw c126) (ac (cv (qa true 3 e_r127)) (ac (hs (.call 60 [.slice 2 0 4 4 1] (kE m.Kind m.At m.Letter (.cells [.i 2,.func (.func 213) [] [],.func (.func 214) [] []]::(kF k p Q r127 []))) [2] [vl encI ([k,p,Q,r127]:List Int)] (.i r128)) (qD (FzL.cons (Fz.lit rfl rfl (Ub (AllST.cons tI (AllST.cons tI (AllST.cons tI (AllST.cons tI AllST.nil)))))) FzL.nil) (qc N ([k,p,Q,r127]:List Int) e_r128) tI rfl)) az))))))))
   obtain⟨r129,e_r129,a⟩:=bnd a
   obtain⟨r130,e_r130,a⟩:=bnd a
   simp only[ZI,ZP]at a
   obtain⟨rfl,rfl,rfl,rfl,rfl⟩:=a
   exact qE.rq fol [2,5,10,12,18,22,32,34] (kD w r130 []) (kE m.Kind m.At m.Letter (.cells [.i 2,.func (.func 213) [] [],.func (.func 214) [] []]::(kF k p Q r129 []))) (ac (cv (qa false 13 y)) (ac (gw D) (ac (cv (qa false 1 a6)) (ac (gw e2) (ac (cv (qa false 3 e_r125)) (ac (gw c126) (ac (cv (qa (decide (m.At>(w64 ((w.length:Int)-2)))) 3 e_r129)) (ac (hs (.call 60 [.slice 2 0 4 4 1] (kE m.Kind m.At m.Letter (.cells [.i 2,.func (.func 213) [] [],.func (.func 214) [] []]::(kF k p Q r129 []))) [2] [vl encI ([k,p,Q,r129]:List Int)] (.i r130)) (qD (FzL.cons (Fz.lit rfl rfl (Ub (AllST.cons tI (AllST.cons tI (AllST.cons tI (AllST.cons tI AllST.nil)))))) FzL.nil) (qc N ([k,p,Q,r129]:List Int) e_r130) tI rfl)) az))))))))
  try dsimp only at h
  refine sh fol (kD w e0 [(59,.bool (!decide (e0=0)))]) ?_
  refine ihB h (fun c137 h=>?_) (fun c137 h=>?_)
  ·refine sh fol (kAL (kBK e0)) ?_
   refine Goes.ret ?_
   obtain rfl:=si h
   exact(gw2 (kAd e0) (FzW.tuple (qw.cons (FzW.nilv (E:=encI)) (qw.cons (Ua tI) qw.nil))))
  refine Goes.skip ?_
  obtain⟨b1,e_s138,h⟩:=bnd h
  refine sq (gr fol [8] (kQ w (kX (kAj b1 []))) (ac (hs (.done (.opt (vE ZT 22 (vl encI w) (some (.i m.At)) (some (.i (w64 (m.At+2)))) none)) (vl encI b1)) (qbB ja (E:=encI) rfl (some m.At) (some (w64 (m.At+2))) e_s138)) az) ?_)
  refine sq ?_
  obtain⟨r139,e_r139,h⟩:=bnd h
  refine sq (gr fol [3] (kQ w (kX (kAj b1 [(74,.bool (!r139))]))) (ac (cv (qaF b1 e_r139)) az) ?_)
  refine ihB h (fun c140 h=>?_) (fun c140 h=>?_)
  ·refine sh fol (kAL [(7,.i 18)]) ?_
   refine Goes.ret ?_
   obtain rfl:=si h
   exact(gw2 kBP (FzW.tuple (qw.cons (FzW.nilv (E:=encI)) (qw.cons (Ua tI) qw.nil))))
  refine Goes.skip ?_
  obtain⟨_,e_r141,h⟩:=bnd h
  obtain⟨⟨e3,e4⟩,e_r142,h⟩:=bnd h
  try dsimp only at h
  obtain⟨e5,e_r145,h⟩:=bnd h
  refine sq (gq fol [1,13,14] ((6,.oslice 5 e5.length 1)::kBJ) (kE m.Kind m.At m.Letter (.cells [.i 2,.func (.func 213) [] [],.func (.func 214) [] []]::(kF I J K L (.dead:: .cells [.i e3,.i e4]::(kA e5))))) (ac (hs (.callH 117 [vl encI w] (kE m.Kind m.At m.Letter (.cells [.i 2,.func (.func 213) [] [],.func (.func 214) [] []]::(kF I J K L []))) [] (.gslice 3 w.length 1) (kE m.Kind m.At m.Letter (.cells [.i 2,.func (.func 213) [] [],.func (.func 214) [] []]::(kF I J K L (kA w))))) (j3 [] [none,none,none,some 0] (yz w e_r141) .nil rfl rfl (.old rfl rfl (.old rfl rfl (.old rfl rfl (.new rfl rfl (.same fa) rfl .nil)))) (rc (.same (ql encI _)) rn) (.gslice rfl) rfl)) (ac (hs (.callH 214 (kAe b1 m.Kind m.At m.Letter) (kE m.Kind m.At m.Letter (.cells [.i 2,.func (.func 213) [] [],.func (.func 214) [] []]::(kF I J K L (kA w)))) [] (.slice 4 0 2 2 1) (kE m.Kind m.At m.Letter (.cells [.i 2,.func (.func 213) [] [],.func (.func 214) [] []]::(kF I J K L (kJ w (kV e3 e4)))))) (j3 [] [none,none,none,none,some 0] (y9 b1 m.Kind m.At m.Letter e_r142) .nil rfl rfl (.old rfl rfl (.old rfl rfl (.old rfl rfl (.old rfl rfl (.new rfl rfl (.cells (rc (.same nI) (rc (.same nI) rn))) rfl .nil))))) (rc (.same (ql encI _)) (rc (.same (qo.agg sn)) rn)) (.slice rfl) rfl)) (ac (hs (.callH 184 [.gslice 3 w.length 1,.i m.At,.i (w64 (m.At+2)),.slice 4 0 2 2 1] (kE m.Kind m.At m.Letter (.cells [.i 2,.func (.func 213) [] [],.func (.func 214) [] []]::(kF I J K L (kJ w (kV e3 e4))))) [3,4] (.oslice 5 e5.length 1) (kE m.Kind m.At m.Letter (.cells [.i 2,.func (.func 213) [] [],.func (.func 214) [] []]::(kF I J K L (.dead:: .cells [.i e3,.i e4]::(kA e5)))))) (j3 [some 3,some 4] [none,none,none,none,some 1,some 2] (qcZ w m.At (w64 (m.At+2)) e3 e4 e_r145) (.ks (.kb rfl (.cells (rc (.same nI) (rc (.same nI) rn))) .nil)) rfl rfl (.old rfl rfl (.old rfl rfl (.old rfl rfl (.dead (.back rfl rfl (.cells (rc (.same nI) (rc (.same nI) rn))) rfl (.new rfl rfl (.same fa) rfl .nil)))))) (rc (.gslice rfl) (rc (.same nI) (rc (.same nI) (rc (.slice rfl) rn)))) (.oslice rfl) rfl)) az))) ?_)
  refine Goes.ret ?_
  obtain rfl:=si h
  exact(gw2 [.oslice 5 e5.length 1,.i 0] (FzW.tuple (qw.cons (FzW.fz (Fz.os (E:=encI) rfl rfl (nl rfl))) (qw.cons (Ua tI) qw.nil))))
 rcases wyB h with⟨c5,h⟩|⟨c5,h⟩
 ·refine gq fol [0,3] (kB n w (kX (kAh []))) (kE m.Kind m.At m.Letter [.cells [.i 3,.func (.func 215) [] [],.func (.func 216) [] []]]) (ac (cv (jg b7)) (ac (hs (.done (jF ZT 213 (fm1) (.str m.Kind) true) (.tuple [.agg [.i 3,.func (.func 215) [] [],.func (.func 216) [] []],.bool true])) (qcu qcO [[105,110,115,101,114,116],[99,97,110,99,101,108],[115,119,97,112],[116,117,114,110]] (zD c2 (zD c3 (zD c4 (xI c5)))) rfl)) az)) ?_
  refine sh fol (kB n w (kX (kAh (kAq (m.Kind==[105,110,115,101,114,116]))))) ?_
  refine sq ?_
  refine sq ?_
  obtain⟨⟨T,U,V,W,e6⟩,b,h⟩:=bnd h
  refine Goes.cut (s':=(ofG 90 (kD w e6 []),(kE m.Kind m.At m.Letter (.cells [.i 3,.func (.func 215) [] [],.func (.func 216) [] []]::(kF T U V W []))))) ?_ ?_
  ·obtain⟨f,u,b⟩:=bnd b
   rcases wyB b with⟨F,b⟩|⟨F,b⟩
   ·obtain⟨q,a7,b⟩:=bnd b
    rcases wyB b with⟨e7,b⟩|⟨e7,b⟩
    ·obtain⟨r151,e_r151,b⟩:=bnd b
     obtain⟨X,e_r152,b⟩:=bnd b
     rcases wyD b with⟨c153,b⟩|⟨c153,b⟩
     ·obtain⟨r154,e_r154,b⟩:=bnd b
      obtain⟨r155,e_r155,b⟩:=bnd b
      simp only[ZI,ZP]at b
      obtain⟨rfl,rfl,rfl,rfl,rfl⟩:=b
      exact qE.rq fol [2,5,10,12,16,18,22,32,34] (kD w r155 []) (kE m.Kind m.At m.Letter (.cells [.i 3,.func (.func 215) [] [],.func (.func 216) [] []]::(kF f q X r154 []))) (ac (cv (qa false 13 u)) (ac (gw F) (ac (cv (qa (!decide (m.Letter=0)) 1 a7)) (ac (gw e7) (ac (cv (qj n m.Letter e_r151)) (ac (cv (qa r151 3 e_r152)) (ac (gw c153) (ac (cv (qa true 3 e_r154)) (ac (hs (.call 60 [.slice 2 0 4 4 1] (kE m.Kind m.At m.Letter (.cells [.i 3,.func (.func 215) [] [],.func (.func 216) [] []]::(kF f q X r154 []))) [2] [vl encI ([f,q,X,r154]:List Int)] (.i r155)) (qD (FzL.cons (Fz.lit rfl rfl (Ub (AllST.cons tI (AllST.cons tI (AllST.cons tI (AllST.cons tI AllST.nil)))))) FzL.nil) (qc N ([f,q,X,r154]:List Int) e_r155) tI rfl)) az)))))))))
     obtain⟨r156,e_r156,b⟩:=bnd b
     obtain⟨r157,e_r157,b⟩:=bnd b
     simp only[ZI,ZP]at b
     obtain⟨rfl,rfl,rfl,rfl,rfl⟩:=b
     exact qE.rq fol [2,5,10,12,16,18,22,32,34] (kD w r157 []) (kE m.Kind m.At m.Letter (.cells [.i 3,.func (.func 215) [] [],.func (.func 216) [] []]::(kF f q X r156 []))) (ac (cv (qa false 13 u)) (ac (gw F) (ac (cv (qa (!decide (m.Letter=0)) 1 a7)) (ac (gw e7) (ac (cv (qj n m.Letter e_r151)) (ac (cv (qa r151 3 e_r152)) (ac (gw c153) (ac (cv (qa (decide (m.At>(w64 ((w.length:Int)-3)))) 3 e_r156)) (ac (hs (.call 60 [.slice 2 0 4 4 1] (kE m.Kind m.At m.Letter (.cells [.i 3,.func (.func 215) [] [],.func (.func 216) [] []]::(kF f q X r156 []))) [2] [vl encI ([f,q,X,r156]:List Int)] (.i r157)) (qD (FzL.cons (Fz.lit rfl rfl (Ub (AllST.cons tI (AllST.cons tI (AllST.cons tI (AllST.cons tI AllST.nil)))))) FzL.nil) (qc N ([f,q,X,r156]:List Int) e_r157) tI rfl)) az)))))))))
    obtain⟨Y,e_r158,b⟩:=bnd b
    rcases wyD b with⟨c159,b⟩|⟨c159,b⟩
    ·obtain⟨r160,e_r160,b⟩:=bnd b
     obtain⟨r161,e_r161,b⟩:=bnd b
     simp only[ZI,ZP]at b
     obtain⟨rfl,rfl,rfl,rfl,rfl⟩:=b
     exact qE.rq fol [2,5,10,12,18,22,32,34] (kD w r161 []) (kE m.Kind m.At m.Letter (.cells [.i 3,.func (.func 215) [] [],.func (.func 216) [] []]::(kF f q Y r160 []))) (ac (cv (qa false 13 u)) (ac (gw F) (ac (cv (qa (!decide (m.Letter=0)) 1 a7)) (ac (gw e7) (ac (cv (qa false 3 e_r158)) (ac (gw c159) (ac (cv (qa true 3 e_r160)) (ac (hs (.call 60 [.slice 2 0 4 4 1] (kE m.Kind m.At m.Letter (.cells [.i 3,.func (.func 215) [] [],.func (.func 216) [] []]::(kF f q Y r160 []))) [2] [vl encI ([f,q,Y,r160]:List Int)] (.i r161)) (qD (FzL.cons (Fz.lit rfl rfl (Ub (AllST.cons tI (AllST.cons tI (AllST.cons tI (AllST.cons tI AllST.nil)))))) FzL.nil) (qc N ([f,q,Y,r160]:List Int) e_r161) tI rfl)) az))))))))
    obtain⟨r162,e_r162,b⟩:=bnd b
    obtain⟨r163,e_r163,b⟩:=bnd b
    simp only[ZI,ZP]at b
    obtain⟨rfl,rfl,rfl,rfl,rfl⟩:=b
    exact qE.rq fol [2,5,10,12,18,22,32,34] (kD w r163 []) (kE m.Kind m.At m.Letter (.cells [.i 3,.func (.func 215) [] [],.func (.func 216) [] []]::(kF f q Y r162 []))) (ac (cv (qa false 13 u)) (ac (gw F) (ac (cv (qa (!decide (m.Letter=0)) 1 a7)) (ac (gw e7) (ac (cv (qa false 3 e_r158)) (ac (gw c159) (ac (cv (qa (decide (m.At>(w64 ((w.length:Int)-3)))) 3 e_r162)) (ac (hs (.call 60 [.slice 2 0 4 4 1] (kE m.Kind m.At m.Letter (.cells [.i 3,.func (.func 215) [] [],.func (.func 216) [] []]::(kF f q Y r162 []))) [2] [vl encI ([f,q,Y,r162]:List Int)] (.i r163)) (qD (FzL.cons (Fz.lit rfl rfl (Ub (AllST.cons tI (AllST.cons tI (AllST.cons tI (AllST.cons tI AllST.nil)))))) FzL.nil) (qc N ([f,q,Y,r162]:List Int) e_r163) tI rfl)) az))))))))
   obtain⟨r,a8,b⟩:=bnd b
   rcases wyB b with⟨e8,b⟩|⟨e8,b⟩
   ·obtain⟨r166,e_r166,b⟩:=bnd b
    obtain⟨Z,e_r167,b⟩:=bnd b
    rcases wyD b with⟨c168,b⟩|⟨c168,b⟩
    ·obtain⟨r169,e_r169,b⟩:=bnd b
     obtain⟨r170,e_r170,b⟩:=bnd b
     simp only[ZI,ZP]at b
     obtain⟨rfl,rfl,rfl,rfl,rfl⟩:=b
     exact qE.rq fol [2,5,10,12,16,18,22,32,34] (kD w r170 []) (kE m.Kind m.At m.Letter (.cells [.i 3,.func (.func 215) [] [],.func (.func 216) [] []]::(kF f r Z r169 []))) (ac (cv (qa false 13 u)) (ac (gw F) (ac (cv (qa false 1 a8)) (ac (gw e8) (ac (cv (qj n m.Letter e_r166)) (ac (cv (qa r166 3 e_r167)) (ac (gw c168) (ac (cv (qa true 3 e_r169)) (ac (hs (.call 60 [.slice 2 0 4 4 1] (kE m.Kind m.At m.Letter (.cells [.i 3,.func (.func 215) [] [],.func (.func 216) [] []]::(kF f r Z r169 []))) [2] [vl encI ([f,r,Z,r169]:List Int)] (.i r170)) (qD (FzL.cons (Fz.lit rfl rfl (Ub (AllST.cons tI (AllST.cons tI (AllST.cons tI (AllST.cons tI AllST.nil)))))) FzL.nil) (qc N ([f,r,Z,r169]:List Int) e_r170) tI rfl)) az)))))))))
    obtain⟨r171,e_r171,b⟩:=bnd b
    obtain⟨r172,e_r172,b⟩:=bnd b
    simp only[ZI,ZP]at b
    obtain⟨rfl,rfl,rfl,rfl,rfl⟩:=b
    exact qE.rq fol [2,5,10,12,16,18,22,32,34] (kD w r172 []) (kE m.Kind m.At m.Letter (.cells [.i 3,.func (.func 215) [] [],.func (.func 216) [] []]::(kF f r Z r171 []))) (ac (cv (qa false 13 u)) (ac (gw F) (ac (cv (qa false 1 a8)) (ac (gw e8) (ac (cv (qj n m.Letter e_r166)) (ac (cv (qa r166 3 e_r167)) (ac (gw c168) (ac (cv (qa (decide (m.At>(w64 ((w.length:Int)-3)))) 3 e_r171)) (ac (hs (.call 60 [.slice 2 0 4 4 1] (kE m.Kind m.At m.Letter (.cells [.i 3,.func (.func 215) [] [],.func (.func 216) [] []]::(kF f r Z r171 []))) [2] [vl encI ([f,r,Z,r171]:List Int)] (.i r172)) (qD (FzL.cons (Fz.lit rfl rfl (Ub (AllST.cons tI (AllST.cons tI (AllST.cons tI (AllST.cons tI AllST.nil)))))) FzL.nil) (qc N ([f,r,Z,r171]:List Int) e_r172) tI rfl)) az)))))))))
   obtain⟨a0,e_r173,b⟩:=bnd b
   rcases wyD b with⟨c174,b⟩|⟨c174,b⟩
   ·obtain⟨r175,e_r175,b⟩:=bnd b
    obtain⟨r176,e_r176,b⟩:=bnd b
    simp only[ZI,ZP]at b
    obtain⟨rfl,rfl,rfl,rfl,rfl⟩:=b
    exact qE.rq fol [2,5,10,12,18,22,32,34] (kD w r176 []) (kE m.Kind m.At m.Letter (.cells [.i 3,.func (.func 215) [] [],.func (.func 216) [] []]::(kF f r a0 r175 []))) (ac (cv (qa false 13 u)) (ac (gw F) (ac (cv (qa false 1 a8)) (ac (gw e8) (ac (cv (qa false 3 e_r173)) (ac (gw c174) (ac (cv (qa true 3 e_r175)) (ac (hs (.call 60 [.slice 2 0 4 4 1] (kE m.Kind m.At m.Letter (.cells [.i 3,.func (.func 215) [] [],.func (.func 216) [] []]::(kF f r a0 r175 []))) [2] [vl encI ([f,r,a0,r175]:List Int)] (.i r176)) (qD (FzL.cons (Fz.lit rfl rfl (Ub (AllST.cons tI (AllST.cons tI (AllST.cons tI (AllST.cons tI AllST.nil)))))) FzL.nil) (qc N ([f,r,a0,r175]:List Int) e_r176) tI rfl)) az))))))))
   obtain⟨r177,e_r177,b⟩:=bnd b
   obtain⟨r178,e_r178,b⟩:=bnd b
   simp only[ZI,ZP]at b
   obtain⟨rfl,rfl,rfl,rfl,rfl⟩:=b
   exact qE.rq fol [2,5,10,12,18,22,32,34] (kD w r178 []) (kE m.Kind m.At m.Letter (.cells [.i 3,.func (.func 215) [] [],.func (.func 216) [] []]::(kF f r a0 r177 []))) (ac (cv (qa false 13 u)) (ac (gw F) (ac (cv (qa false 1 a8)) (ac (gw e8) (ac (cv (qa false 3 e_r173)) (ac (gw c174) (ac (cv (qa (decide (m.At>(w64 ((w.length:Int)-3)))) 3 e_r177)) (ac (hs (.call 60 [.slice 2 0 4 4 1] (kE m.Kind m.At m.Letter (.cells [.i 3,.func (.func 215) [] [],.func (.func 216) [] []]::(kF f r a0 r177 []))) [2] [vl encI ([f,r,a0,r177]:List Int)] (.i r178)) (qD (FzL.cons (Fz.lit rfl rfl (Ub (AllST.cons tI (AllST.cons tI (AllST.cons tI (AllST.cons tI AllST.nil)))))) FzL.nil) (qc N ([f,r,a0,r177]:List Int) e_r178) tI rfl)) az))))))))
  try dsimp only at h
  refine sh fol (kD w e6 [(59,.bool (!decide (e6=0)))]) ?_
  refine ihB h (fun c185 h=>?_) (fun c185 h=>?_)
  ·refine sh fol (kAL (kBK e6)) ?_
   refine Goes.ret ?_
   obtain rfl:=si h
   exact(gw2 (kAd e6) (FzW.tuple (qw.cons (FzW.nilv (E:=encI)) (qw.cons (Ua tI) qw.nil))))
  refine Goes.skip ?_
  obtain⟨b2,e_s186,h⟩:=bnd h
  refine sq (gr fol [8] (kQ w (kX (kAj b2 []))) (ac (hs (.done (.opt (vE ZT 22 (vl encI w) (some (.i m.At)) (some (.i (w64 (m.At+3)))) none)) (vl encI b2)) (qbB ja (E:=encI) rfl (some m.At) (some (w64 (m.At+3))) e_s186)) az) ?_)
  refine sq ?_
  obtain⟨r187,e_r187,h⟩:=bnd h
  refine sq (gr fol [3] (kQ w (kX (kAj b2 [(74,.bool (!r187))]))) (ac (cv (qby b2 e_r187)) az) ?_)
  refine ihB h (fun c188 h=>?_) (fun c188 h=>?_)
  ·refine sh fol (kAL [(7,.i 18)]) ?_
   refine Goes.ret ?_
   obtain rfl:=si h
   exact(gw2 kBP (FzW.tuple (qw.cons (FzW.nilv (E:=encI)) (qw.cons (Ua tI) qw.nil))))
  refine Goes.skip ?_
  obtain⟨_,e_r189,h⟩:=bnd h
  obtain⟨l191,e_r190,h⟩:=bnd h
  obtain⟨e9,e_r192,h⟩:=bnd h
  refine sq (gq fol [1,13,14] ((6,.oslice 4 e9.length 1)::kBJ) (kE m.Kind m.At m.Letter (.cells [.i 3,.func (.func 215) [] [],.func (.func 216) [] []]::(kF T U V W (.dead::(kA e9))))) (ac (hs (.callH 117 [vl encI w] (kE m.Kind m.At m.Letter (.cells [.i 3,.func (.func 215) [] [],.func (.func 216) [] []]::(kF T U V W []))) [] (.gslice 3 w.length 1) (kE m.Kind m.At m.Letter (.cells [.i 3,.func (.func 215) [] [],.func (.func 216) [] []]::(kF T U V W (kA w))))) (j3 [] [none,none,none,some 0] (yz w e_r189) .nil rfl rfl (.old rfl rfl (.old rfl rfl (.old rfl rfl (.new rfl rfl (.same fa) rfl .nil)))) (rc (.same (ql encI _)) rn) (.gslice rfl) rfl)) (ac (hs (.callH 216 (kAe b2 m.Kind m.At m.Letter) (kE m.Kind m.At m.Letter (.cells [.i 3,.func (.func 215) [] [],.func (.func 216) [] []]::(kF T U V W (kA w)))) [] (vl encI l191) (kE m.Kind m.At m.Letter (.cells [.i 3,.func (.func 215) [] [],.func (.func 216) [] []]::(kF T U V W (kA w))))) (j3 [] [none,none,none,none] (qaf b2 m.Kind m.At m.Letter e_r190) .nil rfl rfl (.old rfl rfl (.old rfl rfl (.old rfl rfl (.old rfl rfl .nil)))) (rc (.same (ql encI _)) (rc (.same (qo.agg sn)) rn)) (.same (ql encI _)) rfl)) (ac (hs (.callH 184 (.gslice 3 w.length 1:: .i m.At::(kAk (w64 (m.At+3)) l191)) (kE m.Kind m.At m.Letter (.cells [.i 3,.func (.func 215) [] [],.func (.func 216) [] []]::(kF T U V W (kA w)))) [3] (.oslice 4 e9.length 1) (kE m.Kind m.At m.Letter (.cells [.i 3,.func (.func 215) [] [],.func (.func 216) [] []]::(kF T U V W (.dead::(kA e9)))))) (j3 [some 3] [none,none,none,none,some 1] (qfp w m.At (w64 (m.At+3)) l191 e_r192) (.ks .nil) rfl rfl (.old rfl rfl (.old rfl rfl (.old rfl rfl (.dead (.new rfl rfl (.same fa) rfl .nil))))) (rc (.gslice rfl) (rc (.same nI) (rc (.same nI) (rc (.same (ql encI _)) rn)))) (.oslice rfl) rfl)) az))) ?_)
  refine Goes.ret ?_
  obtain rfl:=si h
  exact(gw2 [.oslice 4 e9.length 1,.i 0] (FzW.tuple (qw.cons (FzW.fz (Fz.os (E:=encI) rfl rfl (nl rfl))) (qw.cons (Ua tI) qw.nil))))
 refine gq fol [0,3] (kB n w (kX [(8,.ptr 1 0),(9,.bool false)])) (kE m.Kind m.At m.Letter (kW [])) (ac (cv (jg b7)) (ac (hs (.done (jF ZT 213 (fm1) (.str m.Kind) true) (.tuple [.agg [.i 0,.nilfunc,.nilfunc],.bool false])) (qgI qcO [[105,110,115,101,114,116],[99,97,110,99,101,108],[115,119,97,112],[116,117,114,110]] (zD c2 (zD c3 (zD c4 (zD c5 (rfl))))))) az)) ?_
 refine sh fol (kB n w (kX ((8,.ptr 1 0)::(9,.bool false)::(kAq (m.Kind==[105,110,115,101,114,116]))))) ?_
 refine sq ?_
 refine sq ?_
 obtain⟨⟨n226,n227,n228,n229,f0⟩,c,h⟩:=bnd h
 refine Goes.cut (s':=(ofG 90 (kD w f0 []),(kE m.Kind m.At m.Letter (kW (kF n226 n227 n228 n229 []))))) ?_ ?_
 ·obtain⟨g,v,c⟩:=bnd c
  rcases wyB c with⟨G,c⟩|⟨G,c⟩
  ·obtain⟨s,a9,c⟩:=bnd c
   rcases wyB c with⟨f1,c⟩|⟨f1,c⟩
   ·obtain⟨r198,e_r198,c⟩:=bnd c
    obtain⟨a1,e_r199,c⟩:=bnd c
    rcases wyD c with⟨c200,c⟩|⟨c200,c⟩
    ·obtain⟨r201,e_r201,c⟩:=bnd c
     obtain⟨r202,e_r202,c⟩:=bnd c
     simp only[ZI,ZP]at c
     obtain⟨rfl,rfl,rfl,rfl,rfl⟩:=c
     exact qE.rq fol [2,5,10,12,16,18,22,32,34] (kD w r202 []) (kE m.Kind m.At m.Letter (kW (kF g s a1 r201 []))) (ac (cv (qa true 13 v)) (ac (gw G) (ac (cv (qa (!decide (m.Letter=0)) 1 a9)) (ac (gw f1) (ac (cv (qj n m.Letter e_r198)) (ac (cv (qa r198 3 e_r199)) (ac (gw c200) (ac (cv (qa true 3 e_r201)) (ac (hs (.call 60 [.slice 2 0 4 4 1] (kE m.Kind m.At m.Letter (kW (kF g s a1 r201 []))) [2] [vl encI ([g,s,a1,r201]:List Int)] (.i r202)) (qD (FzL.cons (Fz.lit rfl rfl (Ub (AllST.cons tI (AllST.cons tI (AllST.cons tI (AllST.cons tI AllST.nil)))))) FzL.nil) (qc N ([g,s,a1,r201]:List Int) e_r202) tI rfl)) az)))))))))
    obtain⟨r203,e_r203,c⟩:=bnd c
    obtain⟨r204,e_r204,c⟩:=bnd c
    simp only[ZI,ZP]at c
    obtain⟨rfl,rfl,rfl,rfl,rfl⟩:=c
    exact qE.rq fol [2,5,10,12,16,18,22,32,34] (kD w r204 []) (kE m.Kind m.At m.Letter (kW (kF g s a1 r203 []))) (ac (cv (qa true 13 v)) (ac (gw G) (ac (cv (qa (!decide (m.Letter=0)) 1 a9)) (ac (gw f1) (ac (cv (qj n m.Letter e_r198)) (ac (cv (qa r198 3 e_r199)) (ac (gw c200) (ac (cv (qa (decide (m.At>(w64 ((w.length:Int)-0)))) 3 e_r203)) (ac (hs (.call 60 [.slice 2 0 4 4 1] (kE m.Kind m.At m.Letter (kW (kF g s a1 r203 []))) [2] [vl encI ([g,s,a1,r203]:List Int)] (.i r204)) (qD (FzL.cons (Fz.lit rfl rfl (Ub (AllST.cons tI (AllST.cons tI (AllST.cons tI (AllST.cons tI AllST.nil)))))) FzL.nil) (qc N ([g,s,a1,r203]:List Int) e_r204) tI rfl)) az)))))))))
   obtain⟨a2,e_r205,c⟩:=bnd c
   rcases wyD c with⟨c206,c⟩|⟨c206,c⟩
   ·obtain⟨r207,e_r207,c⟩:=bnd c
    obtain⟨r208,e_r208,c⟩:=bnd c
    simp only[ZI,ZP]at c
    obtain⟨rfl,rfl,rfl,rfl,rfl⟩:=c
    exact qE.rq fol [2,5,10,12,18,22,32,34] (kD w r208 []) (kE m.Kind m.At m.Letter (kW (kF g s a2 r207 []))) (ac (cv (qa true 13 v)) (ac (gw G) (ac (cv (qa (!decide (m.Letter=0)) 1 a9)) (ac (gw f1) (ac (cv (qa false 3 e_r205)) (ac (gw c206) (ac (cv (qa true 3 e_r207)) (ac (hs (.call 60 [.slice 2 0 4 4 1] (kE m.Kind m.At m.Letter (kW (kF g s a2 r207 []))) [2] [vl encI ([g,s,a2,r207]:List Int)] (.i r208)) (qD (FzL.cons (Fz.lit rfl rfl (Ub (AllST.cons tI (AllST.cons tI (AllST.cons tI (AllST.cons tI AllST.nil)))))) FzL.nil) (qc N ([g,s,a2,r207]:List Int) e_r208) tI rfl)) az))))))))
   obtain⟨r209,e_r209,c⟩:=bnd c
   obtain⟨r210,e_r210,c⟩:=bnd c
   simp only[ZI,ZP]at c
   obtain⟨rfl,rfl,rfl,rfl,rfl⟩:=c
   exact qE.rq fol [2,5,10,12,18,22,32,34] (kD w r210 []) (kE m.Kind m.At m.Letter (kW (kF g s a2 r209 []))) (ac (cv (qa true 13 v)) (ac (gw G) (ac (cv (qa (!decide (m.Letter=0)) 1 a9)) (ac (gw f1) (ac (cv (qa false 3 e_r205)) (ac (gw c206) (ac (cv (qa (decide (m.At>(w64 ((w.length:Int)-0)))) 3 e_r209)) (ac (hs (.call 60 [.slice 2 0 4 4 1] (kE m.Kind m.At m.Letter (kW (kF g s a2 r209 []))) [2] [vl encI ([g,s,a2,r209]:List Int)] (.i r210)) (qD (FzL.cons (Fz.lit rfl rfl (Ub (AllST.cons tI (AllST.cons tI (AllST.cons tI (AllST.cons tI AllST.nil)))))) FzL.nil) (qc N ([g,s,a2,r209]:List Int) e_r210) tI rfl)) az))))))))
  obtain⟨t,b0,c⟩:=bnd c
  rcases wyB c with⟨f2,c⟩|⟨f2,c⟩
  ·obtain⟨r213,e_r213,c⟩:=bnd c
   obtain⟨a3,e_r214,c⟩:=bnd c
   rcases wyD c with⟨c215,c⟩|⟨c215,c⟩
   ·obtain⟨r216,e_r216,c⟩:=bnd c
    obtain⟨r217,e_r217,c⟩:=bnd c
    simp only[ZI,ZP]at c
    obtain⟨rfl,rfl,rfl,rfl,rfl⟩:=c
    exact qE.rq fol [2,5,10,12,16,18,22,32,34] (kD w r217 []) (kE m.Kind m.At m.Letter (kW (kF g t a3 r216 []))) (ac (cv (qa true 13 v)) (ac (gw G) (ac (cv (qa false 1 b0)) (ac (gw f2) (ac (cv (qj n m.Letter e_r213)) (ac (cv (qa r213 3 e_r214)) (ac (gw c215) (ac (cv (qa true 3 e_r216)) (ac (hs (.call 60 [.slice 2 0 4 4 1] (kE m.Kind m.At m.Letter (kW (kF g t a3 r216 []))) [2] [vl encI ([g,t,a3,r216]:List Int)] (.i r217)) (qD (FzL.cons (Fz.lit rfl rfl (Ub (AllST.cons tI (AllST.cons tI (AllST.cons tI (AllST.cons tI AllST.nil)))))) FzL.nil) (qc N ([g,t,a3,r216]:List Int) e_r217) tI rfl)) az)))))))))
   obtain⟨r218,e_r218,c⟩:=bnd c
   obtain⟨r219,e_r219,c⟩:=bnd c
   simp only[ZI,ZP]at c
   obtain⟨rfl,rfl,rfl,rfl,rfl⟩:=c
   exact qE.rq fol [2,5,10,12,16,18,22,32,34] (kD w r219 []) (kE m.Kind m.At m.Letter (kW (kF g t a3 r218 []))) (ac (cv (qa true 13 v)) (ac (gw G) (ac (cv (qa false 1 b0)) (ac (gw f2) (ac (cv (qj n m.Letter e_r213)) (ac (cv (qa r213 3 e_r214)) (ac (gw c215) (ac (cv (qa (decide (m.At>(w64 ((w.length:Int)-0)))) 3 e_r218)) (ac (hs (.call 60 [.slice 2 0 4 4 1] (kE m.Kind m.At m.Letter (kW (kF g t a3 r218 []))) [2] [vl encI ([g,t,a3,r218]:List Int)] (.i r219)) (qD (FzL.cons (Fz.lit rfl rfl (Ub (AllST.cons tI (AllST.cons tI (AllST.cons tI (AllST.cons tI AllST.nil)))))) FzL.nil) (qc N ([g,t,a3,r218]:List Int) e_r219) tI rfl)) az)))))))))
  obtain⟨a4,e_r220,c⟩:=bnd c
  rcases wyD c with⟨c221,c⟩|⟨c221,c⟩
  ·obtain⟨r222,e_r222,c⟩:=bnd c
   obtain⟨r223,e_r223,c⟩:=bnd c
   simp only[ZI,ZP]at c
   obtain⟨rfl,rfl,rfl,rfl,rfl⟩:=c
   exact qE.rq fol [2,5,10,12,18,22,32,34] (kD w r223 []) (kE m.Kind m.At m.Letter (kW (kF g t a4 r222 []))) (ac (cv (qa true 13 v)) (ac (gw G) (ac (cv (qa false 1 b0)) (ac (gw f2) (ac (cv (qa false 3 e_r220)) (ac (gw c221) (ac (cv (qa true 3 e_r222)) (ac (hs (.call 60 [.slice 2 0 4 4 1] (kE m.Kind m.At m.Letter (kW (kF g t a4 r222 []))) [2] [vl encI ([g,t,a4,r222]:List Int)] (.i r223)) (qD (FzL.cons (Fz.lit rfl rfl (Ub (AllST.cons tI (AllST.cons tI (AllST.cons tI (AllST.cons tI AllST.nil)))))) FzL.nil) (qc N ([g,t,a4,r222]:List Int) e_r223) tI rfl)) az))))))))
  obtain⟨r224,e_r224,c⟩:=bnd c
  obtain⟨r225,e_r225,c⟩:=bnd c
  simp only[ZI,ZP]at c
  obtain⟨rfl,rfl,rfl,rfl,rfl⟩:=c
  exact qE.rq fol [2,5,10,12,18,22,32,34] (kD w r225 []) (kE m.Kind m.At m.Letter (kW (kF g t a4 r224 []))) (ac (cv (qa true 13 v)) (ac (gw G) (ac (cv (qa false 1 b0)) (ac (gw f2) (ac (cv (qa false 3 e_r220)) (ac (gw c221) (ac (cv (qa (decide (m.At>(w64 ((w.length:Int)-0)))) 3 e_r224)) (ac (hs (.call 60 [.slice 2 0 4 4 1] (kE m.Kind m.At m.Letter (kW (kF g t a4 r224 []))) [2] [vl encI ([g,t,a4,r224]:List Int)] (.i r225)) (qD (FzL.cons (Fz.lit rfl rfl (Ub (AllST.cons tI (AllST.cons tI (AllST.cons tI (AllST.cons tI AllST.nil)))))) FzL.nil) (qc N ([g,t,a4,r224]:List Int) e_r225) tI rfl)) az))))))))
 try dsimp only at h
 refine sh fol (kD w f0 [(59,.bool (!decide (f0=0)))]) ?_
 refine ihB h (fun c232 h=>?_) (fun c232 h=>?_)
 ·refine sh fol (kAL (kBK f0)) ?_
  refine Goes.ret ?_
  obtain rfl:=si h
  exact(gw2 (kAd f0) (FzW.tuple (qw.cons (FzW.nilv (E:=encI)) (qw.cons (Ua tI) qw.nil))))
 refine Goes.skip ?_
 obtain⟨s233,e_s233,h⟩:=bnd h
 refine sq (gr fol [8] (kQ w (kX (kAj s233 []))) (ac (hs (.done (.opt (vE ZT 22 (vl encI w) (some (.i m.At)) (some (.i (w64 (m.At+0)))) none)) (vl encI s233)) (qbB ja (E:=encI) rfl (some m.At) (some (w64 (m.At+0))) e_s233)) az) ?_)
 refine sq ?_
 refine sq ?_
 cases h
def zt (N:Nat) (n:Int) (l:List qW):Nat->(List Int)->Int->Option ((List Int)⊕((List Int)×Int))
 |0,_,_=>none
 |K+1,c,b=>
  if b<(l.length:Int)then
  (idx l b).bind fun d=>
  (ky N n c d).bind fun a=>
  if(!decide (a.2=0))=true then
  some (.inr ([],a.2))
  else
  zt N n l K a.1 (w64 (b+1))
  else
  some (.inl c)
def jO (N:Nat) (n:Int) (w:List Int) (l:List qW):Option ((List Int)×Int):=
 if(l.length:Int)>100000 then
 some ([],5)
 else
 (yS w).bind fun _=>
 (zt N n l N w 0).bind (fun
 |(.inl b)=>
 some (b,0)
 |(.inr a)=>
 some a)
theorem xH (N:Nat) (n:Int) (w:List Int) (l:List qW) {res:(List Int)×Int} (h:jO N n w l=some res):qf ZT (.fn 87) [.i n,vl encI w,vl qm l] [] (.tuple (kAT res.1 res.2)) []:=by
 unfold jO at h
 refine Uc Tryz.func87 rfl rfl (m:=36) rfl (rs:=[.tmp 6,.tmp 7]) rfl (l:=(kB n w (kAf l []))) rfl ?_
 refine sh fol (kB n w (kAf l [])) ?_
 refine sq ?_
 refine sh fol (kB n w (kAf l (kBL (decide ((l.length:Int)>100000))))) ?_
 refine ihD h (fun q h=>?_) (fun q h=>?_)
 ·refine sh fol (kAL [(7,.i 5)]) ?_
  refine Goes.ret ?_
  obtain rfl:=si h
  exact(gw2 [.nilslice,.i 5] (FzW.tuple (qw.cons (FzW.nilv (E:=encI)) (qw.cons (Ua tI) qw.nil))))
 refine Goes.skip ?_
 obtain⟨_,f,h⟩:=bnd h
 refine sq (gq fol [1] ((0,.i n)::(1,.gslice 0 w.length 1)::(kAf l [])) (kA w) (ac (hs (.callH 117 [vl encI w] [] [] (.gslice 0 w.length 1) (kA w)) (j3 [] [some 0] (yz w f) .nil rfl rfl (.new rfl rfl (.same fa) rfl .nil) (rc (.same (ql encI _)) rn) (.gslice rfl) rfl)) az) ?_)
 refine sq ?_
 refine sh fol [(0,.i n),(1,.gslice 0 w.length 1),(17,vl qm l),(18,.i (l.length:Int)),(19,.i 0)] ?_
 refine Goes.block ?_
 obtain⟨k,g6,h⟩:=bnd h
 refine Goes.imp (Q:=fun x s'=>(x= .exit 0/\ ∃g,(.inl g)=k/\Sub s' (ofG 36 (kQ g []),[]))\/(x= .ret/\ ∃o,(.inr o)=k/\zP ZT [.tmp 6,.tmp 7] (.tuple (kAT o.1 o.2)) .ret s')) ?_ ?_
 ·refine Goes.sub (s':=(ofG 36 (kB n w [(17,vl qm l),(18,.i (l.length:Int)),(19,.i 0)]),[])) (Sub.norm [0] [] rfl rfl (.keep (.same nI) (.keep (.frz (Fz.gs (E:=encI) rfl rfl (nl rfl)) (ql encI _)) (.keep (.same (ql qm _)) (.keep (.same nI) (.keep (.same nI) .nil))))) .nil) ?_
  refine Ue (fun M s=> ∃(e:List Int) (b:Int),s=(ofG 36 (kB n e (kAg l (l.length:Int) b [])),[])/\zt N n l M e b=some k) ?_ (m:=N) ⟨_,_,rfl,g6⟩
  rintro M s ⟨e,b,rfl,g6⟩
  cases M with
  |zero=>simp only[zt]at g6;cases g6
  |succ M=>
   rw[zt]at g6
   refine sh fol (kB n e (kAg l (l.length:Int) b [(20,.bool (decide (b<(l.length:Int))))])) ?_
   refine sq ?_
   refine ihD g6 (fun r g6=>?_) (fun r g6=>?_)
   ·refine Goes.skip ?_
    refine sq (Goes.block ?_)
    obtain⟨j,c,g6⟩:=bnd g6
    refine sq (gq fol [0,1] (kB n e ((9,.ptr 0 0)::(kAg l (l.length:Int) b []))) (kE j.Kind j.At j.Letter []) (ac (iv sl53 qm c) (ac (la ag84 qm c) az)) ?_)
    obtain⟨a,d,g6⟩:=bnd g6
    refine sq (gr fol [3] ((0,.i n)::(kP a.1 a.2 (kAg l (l.length:Int) b []))) (ac (cv (qbO N n e j d)) az) ?_)
    refine sq ?_
    refine sh fol ((0,.i n)::(kP a.1 a.2 (kAg l (l.length:Int) b [(31,.bool (!decide (a.2=0)))]))) ?_
    refine ihB g6 (fun p g6=>?_) (fun p g6=>?_)
    ·refine sh fol (kAL (kBK a.2)) ?_
     refine Goes.ret ?_
     obtain rfl:=si g6
     exact Or.inr (⟨rfl,_,rfl,(gw2 (kAd a.2) (FzW.tuple (qw.cons (FzW.nilv (E:=encI)) (qw.cons (Ua tI) qw.nil))))⟩)
    refine Goes.skip ?_
    refine gh fol (kB n a.1 (kAg l (l.length:Int) b [])) ?_
    refine gh fol (kB n a.1 (kAg l (l.length:Int) (w64 (b+1)) [])) ?_
    exact⟨M,(ofG 36 (kB n a.1 (kAg l (l.length:Int) (w64 (b+1)) [])),[]),Nat.lt_succ_self _,(Sub.norm [] [] rfl rfl (.keep (.same nI) (.keep (.same (ql encI _)) (.keep (.same (ql qm _)) (.keep (.same nI) (.keep (.same nI) .nil))))) .nil),_,_,rfl,g6⟩
   refine Goes.exit ?_
   obtain rfl:=si g6
   exact Or.inl (⟨rfl,_,rfl,(Sub.keep [1] rfl rfl)⟩)
 rintro x s' (⟨rfl,g,rfl,hsub⟩|⟨rfl,t,rfl,hret⟩)
 ·try dsimp only at h
  refine Goes.sub hsub ?_
  refine sh fol (kBB g kBJ) ?_
  refine Goes.ret ?_
  obtain rfl:=si h
  exact(gw2 [vl encI g,.i 0] (FzW.tuple (qw.cons (Ua (zN encI _ (nl rfl))) (qw.cons (Ua tI) qw.nil))))
 try dsimp only at h
 obtain rfl:=si h
 exact hret
def yg (N:Nat) (n:Int) (w:List Int) (l:List qW):Option ((List Int)×Int):=
 (zl N n w).bind fun b=>
 if(!decide (b=0))=true then
 some ([],b)
 else
 (jO N n w l).bind fun a=>
 if(!decide (a.2=0))=true then
 some ([],a.2)
 else
 (jB a.1).bind fun c=>
 some (c.1,c.2)
theorem qbv (N:Nat) (n:Int) (w:List Int) (l:List qW) {res:(List Int)×Int} (h:yg N n w l=some res):qf ZT (.fn 29) [.i n,vl encI w,vl qm l] [] (.tuple (kAT res.1 res.2)) []:=by
 unfold yg at h
 refine Uc Tryz.func29 rfl rfl (m:=31) rfl (rs:=[.tmp 6,.tmp 7]) rfl (l:=(kB n w (kAf l []))) rfl ?_
 refine sh fol (kB n w (kAf l [])) ?_
 refine sq ?_
 obtain⟨b,c,h⟩:=bnd h
 refine sq (gr fol [2] (kB n w (kAf l (kA2 b))) (ac (cv (jM N n w c)) az) ?_)
 refine sh fol (kB n w (kAf l [(8,.i b),(15,.bool (!decide (b=0)))])) ?_
 refine ihB h (fun g h=>?_) (fun g h=>?_)
 ·refine sh fol (kAL (kBK b)) ?_
  refine Goes.ret ?_
  obtain rfl:=si h
  exact(gw2 (kAd b) (FzW.tuple (qw.cons (FzW.nilv (E:=encI)) (qw.cons (Ua tI) qw.nil))))
 refine Goes.skip ?_
 obtain⟨a,d,h⟩:=bnd h
 refine sq (gr fol [3] ((9,vl encI a.1)::(kBF a.2)) (ac (cv (xH N n w l d)) az) ?_)
 refine sq ?_
 refine sh fol [(9,vl encI a.1),(10,.i a.2),(25,.bool (!decide (a.2=0)))] ?_
 refine ihB h (fun j h=>?_) (fun j h=>?_)
 ·refine sh fol (kAL (kBK a.2)) ?_
  refine Goes.ret ?_
  obtain rfl:=si h
  exact(gw2 (kAd a.2) (FzW.tuple (qw.cons (FzW.nilv (E:=encI)) (qw.cons (Ua tI) qw.nil))))
 refine Goes.skip ?_
 obtain⟨f,e,h⟩:=bnd h
 refine sq (gr fol [1] (kM f.1 f.2 []) (ac (cv (qaM a.1 e)) az) ?_)
 refine Goes.ret ?_
 obtain rfl:=si h
 exact(gw2 (kAT f.1 f.2) (FzW.tuple (qw.cons (Ua (zN encI _ (nl rfl))) (qw.cons (Ua tI) qw.nil))))
def qO (b:List Int) (c:List Int):Nat->Int->Option (Unit⊕Bool)
 |0,_=>none
 |K+1,a=>
  if a<(b.length:Int)then
  (idx b a).bind fun d=>
  (idx c a).bind fun e=>
  if(!decide (d=e))=true then
  some (.inr false)
  else
  qO b c K (w64 (a+1))
  else
  some (.inl ())
def zo (N:Nat) (a:List Int) (b:List Int):Option Bool:=
 if(!decide ((a.length:Int)=(b.length:Int)))=true then
 some false
 else
 (qO a b N 0).bind (fun
 |(.inl ())=>
 some true
 |(.inr c)=>
 some c)
theorem yX (N:Nat) (a:List Int) (b:List Int) {res:Bool} (h:zo N a b=some res):qf ZT (.fn 88) (kAi a b) [] (.bool res) []:=by
 unfold zo at h
 refine Uc Tryz.func88 rfl rfl (m:=26) rfl (rs:=[.tmp 4]) rfl (l:=(kH a (kQ b []))) rfl ?_
 refine sh fol (kH a (kQ b [])) ?_
 refine sq ?_
 refine sh fol (kH a (kQ b (kAq (!decide ((a.length:Int)=(b.length:Int)))))) ?_
 refine ihB h (fun j h=>?_) (fun j h=>?_)
 ·refine sh fol kAA ?_
  refine Goes.ret ?_
  obtain rfl:=si h
  exact(gw2 [.bool false] (Ua tB))
 refine Goes.skip ?_
 refine sq ?_
 refine sh fol (kH a (kQ b [(12,.i (a.length:Int)),(13,.i 0)])) ?_
 refine Goes.block ?_
 obtain⟨f,g3,h⟩:=bnd h
 refine Goes.imp (Q:=fun x s'=>(x= .exit 0/\(.inl ())=f/\Sub s' (ofG 26 [],[]))\/(x= .ret/\ ∃g,(.inr g)=f/\zP ZT [.tmp 4] (.bool g) .ret s')) ?_ ?_
 ·refine Ue (fun M s=> ∃(c:Int),s=(ofG 26 (kH a (kQ b (kA0 (a.length:Int) c []))),[])/\qO a b M c=some f) ?_ (m:=N) ⟨_,rfl,g3⟩
  rintro M s ⟨c,rfl,g3⟩
  cases M with
  |zero=>simp only[qO]at g3;cases g3
  |succ M=>
   rw[qO]at g3
   refine sh fol (kH a (kQ b (kA0 (a.length:Int) c (kBL (decide (c<(a.length:Int))))))) ?_
   refine sq ?_
   refine ihD g3 (fun k g3=>?_) (fun k g3=>?_)
   ·refine Goes.skip ?_
    refine sq (Goes.block ?_)
    refine sh fol (kH a (kQ b ((5,.i c)::(kA0 (a.length:Int) c [])))) ?_
    obtain⟨n,d,g3⟩:=bnd g3
    obtain⟨o,e,g3⟩:=bnd g3
    refine sq (gr fol [2,3,6,7] (kH a (kQ b (kA0 (a.length:Int) c [(24,.bool (!decide (n=o)))]))) (ac (iv ja encI d) (ac (lv 0 ce3 encI d rfl) (ac (iv ja encI e) (ac (lv 0 ce3 encI e rfl) az)))) ?_)
    refine ihB g3 (fun p g3=>?_) (fun p g3=>?_)
    ·refine sh fol kAA ?_
     refine Goes.ret ?_
     obtain rfl:=si g3
     exact Or.inr (⟨rfl,_,rfl,(gw2 [.bool false] (Ua tB))⟩)
    refine Goes.skip ?_
    refine gh fol (kH a (kQ b (kA0 (a.length:Int) (w64 (c+1)) []))) ?_
    exact⟨M,(ofG 26 (kH a (kQ b (kA0 (a.length:Int) (w64 (c+1)) []))),[]),Nat.lt_succ_self _,(Sub.refl _),_,rfl,g3⟩
   refine Goes.exit ?_
   obtain rfl:=si g3
   exact Or.inl (⟨rfl,rfl,(Sub.keep [] rfl rfl)⟩)
 rintro x s' (⟨rfl,rfl,hsub⟩|⟨rfl,q,rfl,hret⟩)
 ·try dsimp only at h
  refine Goes.sub hsub ?_
  refine sh fol kA4 ?_
  refine Goes.ret ?_
  obtain rfl:=si h
  exact(gw2 [.bool true] (Ua tB))
 try dsimp only at h
 obtain rfl:=si h
 exact hret
def jr (N:Nat) (n:Int) (a:List Int) (b:List Int) (l:List qW):Option Int:=
 (jD N n a b).bind fun c=>
 if(!decide (c=0))=true then
 some c
 else
 (jO N n a l).bind fun d=>
 (zo N d.1 b).bind fun e=>
 (qb (!e) 21).bind fun f=>
 (qd N ([d.2,f]:List Int)).bind fun g=>
 some g
theorem xS (N:Nat) (n:Int) (a:List Int) (b:List Int) (l:List qW) {res:Int} (h:jr N n a b l=some res):qf ZT (.fn 30) [.i n,vl encI a,vl encI b,vl qm l] [] (.i res) []:=by
 unfold jr at h
 refine Uc Tryz.func30 rfl rfl (m:=34) rfl (rs:=[.tmp 8]) rfl (l:=(kB n a (kAZ b [(3,vl qm l)]))) rfl ?_
 refine sh fol (kB n a (kAZ b [(3,vl qm l)])) ?_
 refine sq ?_
 obtain⟨d,e,h⟩:=bnd h
 refine sq (gr fol [3] (kB n a (kAZ b [(3,vl qm l),(9,.i d)])) (ac (cv (qaj N n a b e)) az) ?_)
 refine sh fol (kB n a (kAZ b [(3,vl qm l),(9,.i d),(17,.bool (!decide (d=0)))])) ?_
 refine ihB h (fun q h=>?_) (fun q h=>?_)
 ·refine sh fol (kA2 d) ?_
  refine Goes.ret ?_
  obtain rfl:=si h
  exact(gw2 [.i d] (Ua tI))
 refine Goes.skip ?_
 obtain⟨c,f,h⟩:=bnd h
 refine sq (gr fol [3] (kAZ b (kP c.1 c.2 [])) (ac (cv (xH N n a l f)) az) ?_)
 obtain⟨r,g,h⟩:=bnd h
 obtain⟨o,j,h⟩:=bnd h
 obtain⟨p,k,h⟩:=bnd h
 refine sq (gq fol [3,5,7] (kA2 p) (kV c.2 o) (ac (cv (yX N c.1 b g)) (ac (cv (qa (!r) 21 j)) (ac (hs (.call 60 [.slice 0 0 2 2 1] (kV c.2 o) [0] [vl encI ([c.2,o]:List Int)] (.i p)) (qD (FzL.cons (Fz.lit rfl rfl (Ub (AllST.cons tI (AllST.cons tI AllST.nil)))) FzL.nil) (qc N ([c.2,o]:List Int) k) tI rfl)) az))) ?_)
 refine Goes.ret ?_
 obtain rfl:=si h
 exact(gw2 [.i p] (Ua tI))
def je (kind:Str):Option Int:=
 if(kind==[105,110,115,101,114,116])=true then
 some 0
 else
 ((if(kind==[99,97,110,99,101,108])=true then
 some (kind==[99,97,110,99,101,108])
 else
 some (kind==[115,119,97,112]):Option Bool)).bind fun a=>
 if a=true then
 some 2
 else
 if(kind==[116,117,114,110])=true then
 some 3
 else
 some (-1)
theorem qbU (kind:Str) {res:Int} (h:je kind=some res):qf ZT (.fn 141) [.str kind] [] (.i res) []:=by
 unfold je at h
 refine Uc Tryz.func141 rfl rfl (m:=11) rfl (rs:=[.tmp 2]) rfl (l:=[(0,.str kind)]) rfl ?_
 refine sh fol [(0,.str kind)] ?_
 refine sq ?_
 refine sh fol [(3,.str kind)] ?_
 refine Goes.block ?_
 refine sh fol ((3,.str kind)::(kAa (kind==[105,110,115,101,114,116]))) ?_
 refine ihB h (fun b h=>?_) (fun b h=>?_)
 ·refine sh fol [(2,.i 0)] ?_
  refine Goes.ret ?_
  obtain rfl:=si h
  exact(gw2 [.i 0] (Ua tI))
 refine sq ?_
 refine sh fol ((3,.str kind)::(kBG (kind==[99,97,110,99,101,108]))) ?_
 obtain⟨c,g3,h⟩:=bnd h
 refine Goes.imp (Q:=fun x s'=>(x= .normal/\ ∃a,a=c/\Sub s' (ofG 11 ((3,.str kind)::(kBG a)),[]))) ?_ ?_
 ·refine ihB g3 (fun d g3=>?_) (fun d g3=>?_)
  ·refine Goes.skip ?_
   obtain rfl:=si g3
   exact⟨rfl,_,rfl,(Sub.refl _)⟩
  refine gh fol ((3,.str kind)::(kBG (kind==[115,119,97,112]))) ?_
  obtain rfl:=si g3
  exact⟨rfl,_,rfl,(Sub.refl _)⟩
 rintro x s' ⟨rfl,a,rfl,hsub⟩
 refine Goes.sub hsub ?_
 refine ihB h (fun e h=>?_) (fun e h=>?_)
 ·refine sh fol [(2,.i 2)] ?_
  refine Goes.ret ?_
  obtain rfl:=si h
  exact(gw2 [.i 2] (Ua tI))
 refine sh fol [(9,.bool (kind==[116,117,114,110]))] ?_
 refine ihB h (fun f h=>?_) (fun f h=>?_)
 ·refine sh fol [(2,.i 3)] ?_
  refine Goes.ret ?_
  obtain rfl:=si h
  exact(gw2 [.i 3] (Ua tI))
 refine Goes.skip ?_
 refine sh fol [(2,.i (-1))] ?_
 refine Goes.ret ?_
 obtain rfl:=si h
 exact(gw2 [.i (-1)] (Ua tI))
def vT (a:Int) (y:Int) (z:Int):Option ((List Int)×Bool):=
 ((kL a).bind fun j=>
 (kL z).bind fun k=>
 if(!decide (j=k))=true then
 some true
 else
 (kL a).bind fun l=>
 (kL y).bind fun m=>
 (kL (w64 (l-m))).bind fun n=>
 some (!decide (n=1)):Option Bool).bind fun o=>
 if o=true then
 some ([],false)
 else
 (zi a).bind fun b=>
 (zi y).bind fun c=>
 if b=c then
 (zi z).bind fun d=>
 (kL y).bind fun e=>
 some ([w64 (d*e),a,y],true)
 else
 (zi y).bind fun f=>
 (zi z).bind fun g=>
 if f=g then
 (zi a).bind fun h=>
 (kL y).bind fun i=>
 some ([y,z,w64 (h*i)],true)
 else
 some ([],false)
theorem qbY (b:Int) (y:Int) (z:Int) {res:(List Int)×Bool} (h:vT b y z=some res):qf ZT (.fn 142) [.i b,.i y,.i z] [] (.tuple [vl encI res.1,.bool res.2]) []:=by
 unfold vT at h
 refine Uc Tryz.func142 rfl rfl (m:=48) rfl (rs:=[.tmp 6,.tmp 7]) rfl (l:=((0,.i b)::(kAt y z []))) rfl ?_
 refine sh fol ((0,.i b)::(kAt y z [])) ?_
 refine sq ?_
 refine sq ?_
 obtain⟨H,a,h⟩:=bnd h
 refine Goes.cut (s':=(ofG 48 ((0,.i b)::(kAt y z [(21,.bool H)])),[])) ?_ ?_
 ·obtain⟨M,c,a⟩:=bnd a
  obtain⟨N,d,a⟩:=bnd a
  rcases wyB a with⟨t,a⟩|⟨t,a⟩
  ·obtain rfl:=si a
   exact tr fol [1,3,5] ((0,.i b)::(kAt y z [(21,.bool true)])) (ac (cv (qV b c)) (ac (cv (qV z d)) (ac (gw t) az)))
  obtain⟨I,q,a⟩:=bnd a
  obtain⟨J,r,a⟩:=bnd a
  obtain⟨K,s,a⟩:=bnd a
  obtain rfl:=si a
  exact tr fol [1,3,5,7,9,11] ((0,.i b)::(kAt y z [(21,.bool (!decide (K=1)))])) (ac (cv (qV b c)) (ac (cv (qV z d)) (ac (gw t) (ac (cv (qV b q)) (ac (cv (qV y r)) (ac (cv (qV (w64 (I-J)) s)) az))))))
 refine ihB h (fun L h=>?_) (fun L h=>?_)
 ·refine sh fol (kAL [(7,.bool false)]) ?_
  refine Goes.ret ?_
  obtain rfl:=si h
  exact(gw2 [.nilslice,.bool false] (FzW.tuple (qw.cons (FzW.nilv (E:=encI)) (qw.cons (Ua tB) qw.nil))))
 refine Goes.skip ?_
 refine sq ?_
 obtain⟨u,e,h⟩:=bnd h
 obtain⟨v,f,h⟩:=bnd h
 refine sq (gr fol [1,3] ((0,.i b)::(kAt y z [(26,.bool (decide (u=v)))])) (ac (cv (zX b e)) (ac (cv (zX y f)) az)) ?_)
 refine ihD h (fun w h=>?_) (fun w h=>?_)
 ·obtain⟨x,g,h⟩:=bnd h
  obtain⟨A,j,h⟩:=bnd h
  refine sq (gq fol [1,3] [(6,.slice 0 0 3 3 1),(7,.bool true)] (kAM (w64 (x*A)) b y) (ac (cv (zX z g)) (ac (cv (qV y j)) az)) ?_)
  refine Goes.ret ?_
  obtain rfl:=si h
  exact(gw2 [.slice 0 0 3 3 1,.bool true] (FzW.tuple (qw.cons (FzW.fz (Fz.lit rfl rfl (Ub (AllST.cons tI (AllST.cons tI (AllST.cons tI AllST.nil)))))) (qw.cons (Ua tB) qw.nil))))
 refine Goes.skip ?_
 refine sq ?_
 obtain⟨B,k,h⟩:=bnd h
 obtain⟨C,n,h⟩:=bnd h
 refine sq (gr fol [1,3] ((0,.i b)::(kAt y z [(39,.bool (decide (B=C)))])) (ac (cv (zX y k)) (ac (cv (zX z n)) az)) ?_)
 refine ihD h (fun D h=>?_) (fun D h=>?_)
 ·obtain⟨F,o,h⟩:=bnd h
  obtain⟨G,p,h⟩:=bnd h
  refine sq (gq fol [3,5] [(6,.slice 0 0 3 3 1),(7,.bool true)] (kAM y z (w64 (F*G))) (ac (cv (zX b o)) (ac (cv (qV y p)) az)) ?_)
  refine Goes.ret ?_
  obtain rfl:=si h
  exact(gw2 [.slice 0 0 3 3 1,.bool true] (FzW.tuple (qw.cons (FzW.fz (Fz.lit rfl rfl (Ub (AllST.cons tI (AllST.cons tI (AllST.cons tI AllST.nil)))))) (qw.cons (Ua tB) qw.nil))))
 refine Goes.skip ?_
 refine sh fol (kAL [(7,.bool false)]) ?_
 refine Goes.ret ?_
 obtain rfl:=si h
 exact(gw2 [.nilslice,.bool false] (FzW.tuple (qw.cons (FzW.nilv (E:=encI)) (qw.cons (Ua tB) qw.nil))))
def zC (n:Int) (w:List Int) (m:qW):Option ((List Int)×Int):=
 (je m.Kind).bind fun a=>
 if a<0 then
 some ([],13)
 else
 (if a>0 then
 some (!decide (m.Letter=0))
 else
 some false:Option Bool).bind fun v=>
 if v=true then
 some ([],1)
 else
 (if a=0 then
 (jo n m.Letter).bind fun x=>
 if(!x)=true then
 some true
 else
 if m.At<0 then
 some true
 else
 some (decide (m.At>(w64 ((w.length:Int)-a))))
 else
 if m.At<0 then
 some true
 else
 some (decide (m.At>(w64 ((w.length:Int)-a)))):Option Bool).bind fun e=>
 if e=true then
 some ([],3)
 else
 (cut w 0 m.At).bind fun f=>
 (cut w (w64 (m.At+a)) (w.length:Int)).bind fun g=>
 ((if(m.Kind==[105,110,115,101,114,116])=true then
 some (.inl ([m.Letter,w64 (0-m.Letter)]:List Int))
 else
 if(m.Kind==[99,97,110,99,101,108])=true then
 (idx w m.At).bind fun h=>
 (idx w (w64 (m.At+1))).bind fun i=>
 if(!decide (h=(w64 (0-i))))=true then
 some (.inr ([],18))
 else
 some (.inl [])
 else
 if(m.Kind==[115,119,97,112])=true then
 (idx w m.At).bind fun b=>
 (idx w (w64 (m.At+1))).bind fun c=>
 (kL b).bind fun j=>
 (kL c).bind fun k=>
 (kL (w64 (j-k))).bind fun l=>
 if l<2 then
 some (.inr ([],18))
 else
 some (.inl ([c,b]:List Int))
 else
 if(m.Kind==[116,117,114,110])=true then
 (idx w m.At).bind fun o=>
 (idx w (w64 (m.At+1))).bind fun p=>
 (idx w (w64 (m.At+2))).bind fun q=>
 (vT o p q).bind fun d=>
 if(!d.2)=true then
 some (.inr ([],18))
 else
 some (.inl d.1)
 else
 some (.inl []):Option ((List Int)⊕((List Int)×Int)))).bind (fun
 |(.inl r)=>
 (jv f r).bind fun s=>
 (jv s g).bind fun t=>
 some (t,0)
 |(.inr u)=>
 some u)
theorem qdt (n:Int) (w:List Int) (m:qW) {res:(List Int)×Int} (h:zC n w m=some res):qf ZT (.fn 89) (.i n::(kAe w m.Kind m.At m.Letter)) [] (.tuple (kAT res.1 res.2)) []:=by
 unfold zC at h
 refine Uc Tryz.func89 rfl rfl (m:=140) rfl (rs:=[.tmp 6,.tmp 7]) rfl (l:=(kB n w [(2,.agg [.str m.Kind,.i m.At,.i m.Letter])])) rfl ?_
 refine sg fol (kB n w (kX [])) (kE m.Kind m.At m.Letter []) ?_
 obtain⟨e,L,h⟩:=bnd h
 refine sq (gr fol [2] (kB n w (kX (kA2 e))) (ac (cv (qbU m.Kind L)) az) ?_)
 refine sq ?_
 refine sh fol (kB n w (kX [(8,.i e),(20,.bool (decide (e<0)))])) ?_
 refine ihD h (fun c2 h=>?_) (fun c2 h=>?_)
 ·refine sh fol (kAL [(7,.i 13)]) ?_
  refine Goes.ret ?_
  obtain rfl:=si h
  exact(gw2 [.nilslice,.i 13] (FzW.tuple (qw.cons (FzW.nilv (E:=encI)) (qw.cons (Ua tI) qw.nil))))
 refine Goes.skip ?_
 refine sq ?_
 refine sq ?_
 obtain⟨b4,d,h⟩:=bnd h
 refine Goes.cut (s':=(ofG 140 (kB n w (kX [(8,.i e),(27,.bool b4)])),(kE m.Kind m.At m.Letter []))) ?_ ?_
 ·rcases wyD d with⟨P,d⟩|⟨P,d⟩
  ·obtain rfl:=si d
   exact tr fol [2] (kB n w (kX [(8,.i e),(27,.bool (!decide (m.Letter=0)))])) (ac (gw P) az)
  obtain rfl:=si d
  exact tr fol [2] (kB n w (kX [(8,.i e),(27,.bool false)])) (ac (gw P) az)
 refine ihB h (fun c6 h=>?_) (fun c6 h=>?_)
 ·refine sh fol (kAL [(7,.i 1)]) ?_
  refine Goes.ret ?_
  obtain rfl:=si h
  exact(gw2 [.nilslice,.i 1] (FzW.tuple (qw.cons (FzW.nilv (E:=encI)) (qw.cons (Ua tI) qw.nil))))
 refine Goes.skip ?_
 refine sq ?_
 refine sq ?_
 obtain⟨T,a,h⟩:=bnd h
 refine Goes.cut (s':=(ofG 140 (kQ w (kX [(8,.i e),(50,.bool T)])),(kE m.Kind m.At m.Letter []))) ?_ ?_
 ·rcases wyD a with⟨K,a⟩|⟨K,a⟩
  ·obtain⟨r8,f,a⟩:=bnd a
   rcases wyB a with⟨O,a⟩|⟨O,a⟩
   ·obtain rfl:=si a
    exact tr fol [2,6,9] (kQ w (kX [(8,.i e),(50,.bool true)])) (ac (gw K) (ac (cv (jC n m.Letter f)) (ac (gw O) az)))
   rcases wyD a with⟨y,a⟩|⟨y,a⟩
   ·obtain rfl:=si a
    exact tr fol [2,6,9,14] (kQ w (kX [(8,.i e),(50,.bool true)])) (ac (gw K) (ac (cv (jC n m.Letter f)) (ac (gw O) (ac (gw y) az))))
   obtain rfl:=si a
   exact tr fol [2,6,9,14] (kQ w (kX [(8,.i e),(50,.bool (decide (m.At>(w64 ((w.length:Int)-e)))))])) (ac (gw K) (ac (cv (jC n m.Letter f)) (ac (gw O) (ac (gw y) az))))
  rcases wyD a with⟨z,a⟩|⟨z,a⟩
  ·obtain rfl:=si a
   exact tr fol [2,14] (kQ w (kX [(8,.i e),(50,.bool true)])) (ac (gw K) (ac (gw z) az))
  obtain rfl:=si a
  exact tr fol [2,14] (kQ w (kX [(8,.i e),(50,.bool (decide (m.At>(w64 ((w.length:Int)-e)))))])) (ac (gw K) (ac (gw z) az))
 refine ihB h (fun U h=>?_) (fun U h=>?_)
 ·refine sh fol (kAL [(7,.i 3)]) ?_
  refine Goes.ret ?_
  obtain rfl:=si h
  exact(gw2 [.nilslice,.i 3] (FzW.tuple (qw.cons (FzW.nilv (E:=encI)) (qw.cons (Ua tI) qw.nil))))
 refine Goes.skip ?_
 obtain⟨b,A,h⟩:=bnd h
 obtain⟨c,B,h⟩:=bnd h
 refine sq (gr fol [3,9] (kQ w (kX (kAO b c []))) (ac (hs (.done (.opt (vE ZT 22 (vl encI w) none (some (.i m.At)) none)) (vl encI b)) (qbB ja (E:=encI) rfl none (some m.At) A)) (ac (hs (.done (.opt (vE ZT 22 (vl encI w) (some (.i (w64 (m.At+e)))) none none)) (vl encI c)) (qbB ja (E:=encI) rfl (some (w64 (m.At+e))) none B)) az)) ?_)
 refine sh fol (kQ w (kX (kAO b c [(11,.nilslice)]))) ?_
 refine sq ?_
 refine sh fol (kQ w (kX (kAO b c [(11,.nilslice),(62,.str m.Kind)]))) ?_
 obtain⟨M,g18,h⟩:=bnd h
 refine Goes.imp (Q:=fun x s'=>(x= .normal/\ ∃t,(.inl t)=M/\Sub s' (ofG 140 (kAO b c [(11,vl encI t)]),[]))\/(x= .ret/\ ∃C,(.inr C)=M/\zP ZT [.tmp 6,.tmp 7] (.tuple (kAT C.1 C.2)) .ret s')) ?_ ?_
 ·refine Goes.block ?_
  refine sh fol (kQ w (kX (kAO b c [(11,.nilslice),(62,.str m.Kind),(63,.bool (m.Kind==[105,110,115,101,114,116]))]))) ?_
  refine ihB g18 (fun V g18=>?_) (fun V g18=>?_)
  ·refine Goes.rg fol (kAO b c [(11,.slice 1 0 2 2 1)]) (kE m.Kind m.At m.Letter (kV m.Letter (w64 (0-m.Letter)))) ?_
   obtain rfl:=si g18
   exact Or.inl (⟨rfl,_,rfl,(Sub.norm [1] [] rfl rfl (.keep (.same (ql encI _)) (.keep (.same (ql encI _)) (.keep (.frz (Fz.lit rfl rfl (Ub (AllST.cons tI (AllST.cons tI AllST.nil)))) (ql encI _)) .nil))) .nil)⟩)
  refine sh fol (kQ w (kX (kAO b c [(11,.nilslice),(62,.str m.Kind),(71,.bool (m.Kind==[99,97,110,99,101,108]))]))) ?_
  refine ihB g18 (fun W g18=>?_) (fun W g18=>?_)
  ·obtain⟨X,g,g18⟩:=bnd g18
   obtain⟨Y,j,g18⟩:=bnd g18
   refine sq (gr fol [3,4,9,10] (kAO b c [(11,.nilslice),(85,.bool (!decide (X=(w64 (0-Y)))))]) (ac (iv ja encI g) (ac (lv 0 ce3 encI g rfl) (ac (iv ja encI j) (ac (lv 0 ce3 encI j rfl) az)))) ?_)
   refine ihB g18 (fun Z g18=>?_) (fun Z g18=>?_)
   ·refine sh fol (kAL [(7,.i 18)]) ?_
    refine Goes.ret ?_
    obtain rfl:=si g18
    exact Or.inr (⟨rfl,_,rfl,(gw2 kBP (FzW.tuple (qw.cons (FzW.nilv (E:=encI)) (qw.cons (Ua tI) qw.nil))))⟩)
   refine Goes.skip ?_
   obtain rfl:=si g18
   exact Or.inl (⟨rfl,_,rfl,(Sub.norm [] [] rfl rfl (.keep (.same (ql encI _)) (.keep (.same (ql encI _)) (.keep .nilv .nil))) .nil)⟩)
  refine sh fol (kQ w (kX (kAO b c [(11,.nilslice),(62,.str m.Kind),(86,.bool (m.Kind==[115,119,97,112]))]))) ?_
  refine ihB g18 (fun a0 g18=>?_) (fun a0 g18=>?_)
  ·obtain⟨u,k,g18⟩:=bnd g18
   obtain⟨v,o,g18⟩:=bnd g18
   refine sq (gr fol [3,4,9,10] (kAO b c (kA0 u v [])) (ac (iv ja encI k) (ac (lv 0 ce3 encI k rfl) (ac (iv ja encI o) (ac (lv 0 ce3 encI o rfl) az)))) ?_)
   refine sq ?_
   obtain⟨a1,D,g18⟩:=bnd g18
   obtain⟨a2,F,g18⟩:=bnd g18
   obtain⟨a3,G,g18⟩:=bnd g18
   refine sq (gr fol [1,3,5] (kAO b c (kA0 u v [(105,.bool (decide (a3<2)))])) (ac (cv (qV u D)) (ac (cv (qV v F)) (ac (cv (qV (w64 (a1-a2)) G)) az))) ?_)
   refine ihD g18 (fun a4 g18=>?_) (fun a4 g18=>?_)
   ·refine sh fol (kAL [(7,.i 18)]) ?_
    refine Goes.ret ?_
    obtain rfl:=si g18
    exact Or.inr (⟨rfl,_,rfl,(gw2 kBP (FzW.tuple (qw.cons (FzW.nilv (E:=encI)) (qw.cons (Ua tI) qw.nil))))⟩)
   refine Goes.skip ?_
   refine Goes.rg fol (kAO b c [(11,.slice 1 0 2 2 1)]) (kE m.Kind m.At m.Letter (kV v u)) ?_
   obtain rfl:=si g18
   exact Or.inl (⟨rfl,_,rfl,(Sub.norm [1] [] rfl rfl (.keep (.same (ql encI _)) (.keep (.same (ql encI _)) (.keep (.frz (Fz.lit rfl rfl (Ub (AllST.cons tI (AllST.cons tI AllST.nil)))) (ql encI _)) .nil))) .nil)⟩)
  refine sh fol (kQ w (kX (kAO b c [(11,.nilslice),(109,.bool (m.Kind==[116,117,114,110]))]))) ?_
  refine ihB g18 (fun a5 g18=>?_) (fun a5 g18=>?_)
  ·obtain⟨a6,p,g18⟩:=bnd g18
   obtain⟨a7,q,g18⟩:=bnd g18
   obtain⟨a8,r,g18⟩:=bnd g18
   obtain⟨s,H,g18⟩:=bnd g18
   refine sq (gr fol [3,4,9,10,15,16,17] (kAO b c [(14,vl encI s.1),(15,.bool s.2)]) (ac (iv ja encI p) (ac (lv 0 ce3 encI p rfl) (ac (iv ja encI q) (ac (lv 0 ce3 encI q rfl) (ac (iv ja encI r) (ac (lv 0 ce3 encI r rfl) (ac (cv (qbY a6 a7 a8 H)) az))))))) ?_)
   refine sq ?_
   refine sh fol (kAO b c [(14,vl encI s.1),(133,.bool (!s.2))]) ?_
   refine ihB g18 (fun a9 g18=>?_) (fun a9 g18=>?_)
   ·refine sh fol (kAL [(7,.i 18)]) ?_
    refine Goes.ret ?_
    obtain rfl:=si g18
    exact Or.inr (⟨rfl,_,rfl,(gw2 kBP (FzW.tuple (qw.cons (FzW.nilv (E:=encI)) (qw.cons (Ua tI) qw.nil))))⟩)
   refine Goes.skip ?_
   refine gh fol (kAO b c [(11,vl encI s.1)]) ?_
   obtain rfl:=si g18
   exact Or.inl (⟨rfl,_,rfl,(Sub.norm [] [] rfl rfl (.keep (.same (ql encI _)) (.keep (.same (ql encI _)) (.keep (.same (ql encI _)) .nil))) .nil)⟩)
  refine Goes.skip ?_
  obtain rfl:=si g18
  exact Or.inl (⟨rfl,_,rfl,(Sub.norm [] [] rfl rfl (.drop (.drop (.keep (.same (ql encI _)) (.keep (.same (ql encI _)) (.keep .nilv .nil))))) .nil)⟩)
 rintro x s' (⟨rfl,t,rfl,hsub⟩|⟨rfl,q40,rfl,hret⟩)
 ·try dsimp only at h
  refine Goes.sub hsub ?_
  obtain⟨b0,I,h⟩:=bnd h
  obtain⟨N,J,h⟩:=bnd h
  refine sq (gr fol [2,4] (kBB N kBJ) (ac (cv (yU b t I)) (ac (cv (yU b0 c J)) az)) ?_)
  refine Goes.ret ?_
  obtain rfl:=si h
  exact(gw2 [vl encI N,.i 0] (FzW.tuple (qw.cons (Ua (zN encI _ (nl rfl))) (qw.cons (Ua tI) qw.nil))))
 try dsimp only at h
 obtain rfl:=si h
 exact hret
def kI (n:Int) (l:List qW):Nat->(List Int)->Int->Int->Option ((List Int)×Int)
 |0,_,_,_=>none
 |K+1,d,e,b=>
  (if b<(l.length:Int)then
  some (decide (e=0))
  else
  some false:Option Bool).bind fun f=>
  if f=true then
  (idx l b).bind fun c=>
  (zC n d c).bind fun a=>
  kI n l K a.1 a.2 (w64 (b+1))
  else
  some (d,e)
def vB (N:Nat) (n:Int) (w:List Int) (l:List qW):Option ((List Int)×Int):=
 if(l.length:Int)>100000 then
 some ([],5)
 else
 (kI n l N w 0 0).bind fun(a,b)=>
 some (a,b)
theorem qbr (N:Nat) (n:Int) (w:List Int) (l:List qW) {res:(List Int)×Int} (h:vB N n w l=some res):qf ZT (.fn 31) [.i n,vl encI w,vl qm l] [] (.tuple (kAT res.1 res.2)) []:=by
 unfold vB at h
 refine Uc Tryz.func31 rfl rfl (m:=35) rfl (rs:=[.tmp 6,.tmp 7]) rfl (l:=(kB n w (kAf l []))) rfl ?_
 refine sh fol (kB n w (kAf l [])) ?_
 refine sq ?_
 refine sh fol (kB n w (kAf l [(12,.bool (decide ((l.length:Int)>100000)))])) ?_
 refine ihD h (fun t h=>?_) (fun t h=>?_)
 ·refine sh fol (kAL [(7,.i 5)]) ?_
  refine Goes.ret ?_
  obtain rfl:=si h
  exact(gw2 [.nilslice,.i 5] (FzW.tuple (qw.cons (FzW.nilv (E:=encI)) (qw.cons (Ua tI) qw.nil))))
 refine Goes.skip ?_
 refine sh fol (kB n w (kAf l [(8,.i 0)])) ?_
 refine sq ?_
 refine sh fol (kB n w (kAf l [(8,.i 0),(9,.i 0)])) ?_
 refine Goes.block ?_
 obtain⟨r,g7,h⟩:=bnd h
 refine Goes.imp (Q:=fun x s'=>(x= .exit 0/\ ∃j k,(j,k)=r/\Sub s' (ofG 35 (kQ j (kA2 k)),[]))) ?_ ?_
 ·refine Ue (fun M s=> ∃(e:List Int) (f:Int) (d:Int),s=(ofG 35 (kB n e (kAf l (kAl f d []))),[])/\kI n l M e f d=some r) ?_ (m:=N) ⟨_,_,_,rfl,g7⟩
  rintro M s ⟨e,f,d,rfl,g7⟩
  cases M with
  |zero=>simp only[kI]at g7;cases g7
  |succ M=>
   rw[kI]at g7
   refine sq ?_
   refine sq ?_
   obtain⟨u,a,g7⟩:=bnd g7
   refine Goes.cut (s':=(ofG 35 (kB n e (kAf l (kAl f d [(20,.bool u)]))),[])) ?_ ?_
   ·rcases wyD a with⟨o,a⟩|⟨o,a⟩
    ·obtain rfl:=si a
     exact tr fol [4] (kB n e (kAf l (kAl f d [(20,.bool (decide (f=0)))]))) (ac (gw o) az)
    obtain rfl:=si a
    exact tr fol [4] (kB n e (kAf l (kAl f d [(20,.bool false)]))) (ac (gw o) az)
   refine ihB g7 (fun p g7=>?_) (fun p g7=>?_)
   ·refine Goes.skip ?_
    refine sq (Goes.block ?_)
    obtain⟨q,c,g7⟩:=bnd g7
    obtain⟨b,g,g7⟩:=bnd g7
    refine gr fol [4,5,6] (kB n b.1 (kAf l (kAl b.2 d []))) (ac (iv sl55 qm c) (ac (la ag112 qm c) (ac (cv (qdt n e q g)) az))) ?_
    refine gh fol (kB n b.1 (kAf l (kAl b.2 (w64 (d+1)) []))) ?_
    exact⟨M,(ofG 35 (kB n b.1 (kAf l (kAl b.2 (w64 (d+1)) []))),[]),Nat.lt_succ_self _,(Sub.refl _),_,_,_,rfl,g7⟩
   refine Goes.exit ?_
   obtain rfl:=si g7
   exact⟨rfl,_,_,rfl,(Sub.keep [1,8] rfl rfl)⟩
 rintro x s' ⟨rfl,j,k,rfl,hsub⟩
 try dsimp only at h
 refine Goes.sub hsub ?_
 refine sh fol (kM j k []) ?_
 refine Goes.ret ?_
 obtain rfl:=si h
 exact(gw2 (kAT j k) (FzW.tuple (qw.cons (Ua (zN encI _ (nl rfl))) (qw.cons (Ua tI) qw.nil))))
end Go.Av
