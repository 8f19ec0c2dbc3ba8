/-
  Walks of functions: what each computes, as a plain function.
-/
import Derived.Test.YtfffkfkghchbdaaGreatDoorQGenO2
noncomputable section
namespace Go.Av
open Go.Proofs Go.RowKit
set_option linter.unusedSectionVars false
set_option linter.unusedVariables false
set_option linter.unusedSimpArgs false
set_option maxRecDepth 100000
def zm (a:List Int) (b:List Int) (g:Int):Nat->(List Int)->Int->Int->Option ((List Int)×Int)
 |0,_,_,_=>none
 |K+1,h,i,c=>
  if c<(b.length:Int)then
  (idx h (w64 (g+c))).bind fun d=>
  (idx a g).bind fun e=>
  (idx b c).bind fun f=>
  (put h (w64 (g+c)) ((w64 ((w64 (d+(w64 (e*f))))+i)).tmod 1000000000)).bind fun j=>
  zm a b g K j (w64 ((w64 ((w64 (d+(w64 (e*f))))+i)).tdiv 1000000000)) (w64 (c+1))
  else
  some (h,i)
def zl (N:Nat) (a:List Int) (b:List Int):Nat->(List Int)->Int->Option (List Int)
 |0,_,_=>none
 |K+1,h,c=>
  if c<(a.length:Int)then
  (zm a b c N h 0 0).bind fun(d,e)=>
  (idx d (w64 (c+(b.length:Int)))).bind fun f=>
  (put d (w64 (c+(b.length:Int))) (w64 (f+e))).bind fun g=>
  zl N a b K g (w64 (c+1))
  else
  some h
def vo (N:Nat) (a:List Int) (b:List Int):Option (List Int):=
 (mk 8 (w64 ((a.length:Int)+(b.length:Int))) 0).bind fun d=>
 (zl N a b N d 0).bind fun e=>
 (vG N e).bind fun c=>
 some c
theorem qaW (N:Nat) (a:List Int) (b:List Int) {res:List Int} (h:vo N a b=some res):qc ZT (.fn 199) (kAs a b) [] (vl encI res) []:=by
 unfold vo at h
 refine Ub Tryz.func199 rfl rfl (m:=72) rfl (rs:=[.tmp 4]) rfl (l:=(kG a b [])) rfl ?_
 refine sh fol (kG a b []) ?_
 obtain⟨H,I,h⟩:=bnd h
 refine sq (gq fol [5] (kG a b (kC H [])) (kB H []) (ac (hs (.run [] (zt ZT 40 (.i (w64 ((a.length:Int)+(b.length:Int)))) (.i (w64 ((a.length:Int)+(b.length:Int))))) [] (.slice 0 0 H.length H.length 1) (kB H []) false) (qaA zy (E:=encI) (z:=0) rfl (by kernel_rfl) I rfl)) az) ?_)
 refine sq ?_
 refine sh fol (kG a b (kC H [(6,.i 0)])) ?_
 refine Goes.block ?_
 obtain⟨L,g5,h⟩:=bnd h
 refine Goes.imp (Q:=fun x s'=>(x= .exit 0/\ ∃t,t=L/\Sub s' (ofG 72 (kC t []),(kB t [])))) ?_ ?_
 ·refine Uc (fun M s=> ∃(D:List Int) (c:Int),s=(ofG 72 (kG a b (kC D [(6,.i c)])),(kB D []))/\zl N a b M D c=some L) ?_ (m:=N) ⟨_,_,rfl,g5⟩
  rintro M s ⟨D,c,rfl,g5⟩
  cases M with
  |zero=>simp only[zl]at g5;cases g5
  |succ M=>
   rw[zl]at g5
   refine sq ?_
   refine sh fol (kG a b (kC D [(6,.i c),(19,.bool (decide (c<(a.length:Int))))])) ?_
   refine ihD g5 (fun O g5=>?_) (fun O g5=>?_)
   ·refine Goes.skip ?_
    refine sq (Goes.block ?_)
    refine sh fol (kG a b (kC D [(6,.i c),(7,.i 0)])) ?_
    refine sq ?_
    refine sh fol (kG a b (kC D [(6,.i c),(7,.i 0),(8,.i 0)])) ?_
    refine Goes.block ?_
    obtain⟨J,g12,g5⟩:=bnd g5
    refine Goes.imp (Q:=fun x s'=>(x= .exit 2/\ ∃d u,(d,u)=J/\Sub s' (ofG 72 (kG a b (kC d (kAl c u []))),(kB d [])))) ?_ ?_
    ·refine Uc (fun M s=> ∃(p:List Int) (r:Int) (o:Int),s=(ofG 72 (kG a b (kC p (kAl c r [(8,.i o)]))),(kB p []))/\zm a b c M p r o=some J) ?_ (m:=N) ⟨_,_,_,rfl,g12⟩
     rintro M s ⟨p,r,o,rfl,g12⟩
     cases M with
     |zero=>simp only[zm]at g12;cases g12
     |succ M=>
      rw[zm]at g12
      refine sq ?_
      refine sh fol (kG a b (kC p (kAl c r [(8,.i o),(25,.bool (decide (o<(b.length:Int))))]))) ?_
      refine ihD g12 (fun K g12=>?_) (fun K g12=>?_)
      ·refine Goes.skip ?_
       refine sq (Goes.block ?_)
       obtain⟨e,f,g12⟩:=bnd g12
       obtain⟨g,v,g12⟩:=bnd g12
       obtain⟨j,w,g12⟩:=bnd g12
       refine sq (gr fol [4,5,8,9,12,13] (kG a b (kC p [(6,.i c),(8,.i o),(9,.i (w64 ((w64 (e+(w64 (g*j))))+r)))])) (ac (hs (.done (.opt (qb ZT 40 (.slice 0 0 p.length p.length 1) (.i (w64 (c+o))))) (.ptr 0 ((w64 (c+o):Int).toNat*1+0))) (vZ zy f)) (ac (hs (.run [0] (zJ ZT 3 (.ptr 0 ((w64 (c+o):Int).toNat*1+0))) (kB p []) (.i e) (kB p []) false) (qaC ce3 (E:=encI) (l:=p) rfl rfl f (nl rfl) rfl)) (ac (iv zy encI v) (ac (lv 0 ce3 encI v rfl) (ac (iv zy encI w) (ac (lv 0 ce3 encI w rfl) az)))))) ?_)
       obtain⟨k,A,g12⟩:=bnd g12
       refine sq (gq fol [6,7] (kG a b (kC p [(6,.i c),(8,.i o),(9,.i (w64 ((w64 (e+(w64 (g*j))))+r)))])) (kB k []) (ac (hs (.done (.opt (qb ZT 40 (.slice 0 0 p.length p.length 1) (.i (w64 (c+o))))) (.ptr 0 ((w64 (c+o):Int).toNat*1+0))) (vZ zy f)) (ac (hs (.run [0] (qx ZT 3 (.ptr 0 ((w64 (c+o):Int).toNat*1+0)) (.i ((w64 ((w64 (e+(w64 (g*j))))+r)).tmod 1000000000))) (kB p []) .undef (kB k []) true) (yc (E:=encI) (l:=p) (y:=(w64 ((w64 (e+(w64 (g*j))))+r)).tmod 1000000000) rfl (show _=some 1 by kernel_rfl) rfl f rfl rfl rfl rfl rfl A rfl)) az)) ?_)
       refine Goes.sub (show Sub (ofG 72 (kG a b (kC p [(6,.i c),(8,.i o),(9,.i (w64 ((w64 (e+(w64 (g*j))))+r)))])),(kB k [])) (ofG 72 (kG a b (kC k [(6,.i c),(8,.i o),(9,.i (w64 ((w64 (e+(w64 (g*j))))+r)))])),(kB k []))from(Sub.norm [] [some 0] rfl rfl (.keep (.same (qd encI _)) (.keep (.same (qd encI _)) (.keep (.sliceE rfl (jg A)) (.keep (.same nI) (.keep (.same nI) (.keep (.same nI) .nil)))))) (.ks .nil))) ?_
       refine gh fol (kG a b (kC k (kAl c (w64 ((w64 ((w64 (e+(w64 (g*j))))+r)).tdiv 1000000000)) [(8,.i o)]))) ?_
       refine gh fol (kG a b (kC k (kAl c (w64 ((w64 ((w64 (e+(w64 (g*j))))+r)).tdiv 1000000000)) [(8,.i (w64 (o+1)))]))) ?_
       exact⟨M,(ofG 72 (kG a b (kC k (kAl c (w64 ((w64 ((w64 (e+(w64 (g*j))))+r)).tdiv 1000000000)) [(8,.i (w64 (o+1)))]))),(kB k [])),Nat.lt_succ_self _,(Sub.refl _),_,_,_,rfl,g12⟩
      refine Goes.exit ?_
      obtain rfl:=si g12
      exact⟨rfl,_,_,rfl,(Sub.keep [0,1,5,6,7] rfl rfl)⟩
    rintro x s' ⟨rfl,d,u,rfl,hsub⟩
    try dsimp only at g5
    refine Goes.sub hsub ?_
    obtain⟨F,n,g5⟩:=bnd g5
    obtain⟨q,B,g5⟩:=bnd g5
    refine gq fol [10,11,14,15] (kG a b (kC d [(6,.i c)])) (kB q []) (ac (hs (.done (.opt (qb ZT 40 (.slice 0 0 d.length d.length 1) (.i (w64 (c+(b.length:Int)))))) (.ptr 0 ((w64 (c+(b.length:Int)):Int).toNat*1+0))) (vZ zy n)) (ac (hs (.run [0] (zJ ZT 3 (.ptr 0 ((w64 (c+(b.length:Int)):Int).toNat*1+0))) (kB d []) (.i F) (kB d []) false) (qaC ce3 (E:=encI) (l:=d) rfl rfl n (nl rfl) rfl)) (ac (hs (.done (.opt (qb ZT 40 (.slice 0 0 d.length d.length 1) (.i (w64 (c+(b.length:Int)))))) (.ptr 0 ((w64 (c+(b.length:Int)):Int).toNat*1+0))) (vZ zy n)) (ac (hs (.run [0] (qx ZT 3 (.ptr 0 ((w64 (c+(b.length:Int)):Int).toNat*1+0)) (.i (w64 (F+u)))) (kB d []) .undef (kB q []) true) (yc (E:=encI) (l:=d) (y:=w64 (F+u)) rfl (show _=some 1 by kernel_rfl) rfl n rfl rfl rfl rfl rfl B rfl)) az)))) ?_
    refine Goes.sub (show Sub (ofG 72 (kG a b (kC d [(6,.i c)])),(kB q [])) (ofG 72 (kG a b (kC q [(6,.i c)])),(kB q []))from(Sub.norm [] [some 0] rfl rfl (.keep (.same (qd encI _)) (.keep (.same (qd encI _)) (.keep (.sliceE rfl (jg B)) (.keep (.same nI) .nil)))) (.ks .nil))) ?_
    refine gh fol (kG a b (kC q [(6,.i (w64 (c+1)))])) ?_
    exact⟨M,(ofG 72 (kG a b (kC q [(6,.i (w64 (c+1)))])),(kB q [])),Nat.lt_succ_self _,(Sub.refl _),_,_,rfl,g5⟩
   refine Goes.exit ?_
   obtain rfl:=si g5
   exact⟨rfl,_,rfl,(Sub.keep [5] rfl rfl)⟩
 rintro x s' ⟨rfl,t,rfl,hsub⟩
 refine Goes.sub hsub ?_
 obtain⟨C,G,h⟩:=bnd h
 refine sq (gq fol [1] [(4,vl encI C)] (kAS t) (ac (hs (.callF 196 [.slice 0 0 t.length t.length 1] (kB t []) [0] [vl encI t] (vl encI C)) (xU (FzL.cons (Fz.sl (E:=encI) rfl rfl (nl rfl)) FzL.nil) (yC N t G) (qy encI _ (nl rfl)))) az) ?_)
 refine Goes.sub (show Sub (ofG 72 [(4,vl encI C)],(kAS t)) (ofG 72 [(4,vl encI C)],[])from(Sub.norm [] [] rfl rfl (.keep (.same (qd encI _)) .nil) .nil)) ?_
 refine Goes.ret ?_
 obtain rfl:=si h
 exact(gw2 [vl encI C] (Ua (qy encI _ (nl rfl))))
def jD (u:List Int) (v:List Int) (j:Int):Nat->Int->Int->Option (Int⊕Int)
 |0,_,_=>none
 |K+1,c,a=>
  (if a>=1000000000 then
  some true
  else
  (idx v (w64 ((v.length:Int)-2))).bind fun d=>
  (idx u (w64 ((w64 (j+(v.length:Int)))-2))).bind fun e=>
  some (decide ((w64 (a*d))>(w64 ((w64 (c*1000000000))+e)))):Option Bool).bind fun f=>
  if f=true then
  (idx v (w64 ((v.length:Int)-1))).bind fun b=>
  if(w64 (c+b))>=1000000000 then
  some (.inr (w64 (a-1)))
  else
  jD u v j K (w64 (c+b)) (w64 (a-1))
  else
  some (.inl a)
def yV (N:Nat) (u:List Int) (v:List Int) (j:Int):Option Int:=
 (idx u (w64 (j+(v.length:Int)))).bind fun b=>
 (idx u (w64 ((w64 (j+(v.length:Int)))-1))).bind fun c=>
 (idx v (w64 ((v.length:Int)-1))).bind fun d=>
 (qbO .i64 (w64 ((w64 (b*1000000000))+c)) d).bind fun e=>
 (xk .i64 (w64 ((w64 (b*1000000000))+c)) d).bind fun f=>
 (jD u v j N f e).bind (fun
 |(.inl g)=>
 some g
 |(.inr a)=>
 some a)
theorem qfK (N:Nat) (u:List Int) (v:List Int) (j:Int) {res:Int} (h:yV N u v j=some res):qc ZT (.fn 200) [vl encI u,vl encI v,.i j] [] (.i res) []:=by
 unfold yV at h
 refine Ub Tryz.func200 rfl rfl (m:=77) rfl (rs:=[.tmp 6]) rfl (l:=(kG u v [(2,.i j)])) rfl ?_
 refine sh fol (kG u v [(2,.i j)]) ?_
 refine sh fol (kG u v [(2,.i j),(7,.i (v.length:Int))]) ?_
 obtain⟨y,n,h⟩:=bnd h
 obtain⟨z,o,h⟩:=bnd h
 refine sq (gr fol [4,5,12,13] (kG u v [(2,.i j),(7,.i (v.length:Int)),(8,.i (w64 ((w64 (y*1000000000))+z)))]) (ac (iv zy encI n) (ac (lv 0 ce3 encI n rfl) (ac (iv zy encI o) (ac (lv 0 ce3 encI o rfl) az)))) ?_)
 obtain⟨G,b,h⟩:=bnd h
 obtain⟨H,q,h⟩:=bnd h
 obtain⟨I,r,h⟩:=bnd h
 refine sq (gr fol [4,5,6,11,12,13] (kG u v (kAU j (v.length:Int) H I [])) (ac (iv zy encI b) (ac (lv 0 ce3 encI b rfl) (ac (hs (.done (.opt (zb ZT .quo 3 (.tmp 28) (.tmp 33) (.i (w64 ((w64 (y*1000000000))+z))) (.i G))) (.i H)) (qbP q)) (ac (iv zy encI b) (ac (lv 0 ce3 encI b rfl) (ac (hs (.done (.opt (zb ZT .rem 3 (.tmp 35) (.tmp 40) (.i (w64 ((w64 (y*1000000000))+z))) (.i G))) (.i I)) (qan r)) az)))))) ?_)
 refine sq (Goes.block ?_)
 obtain⟨A,g9,h⟩:=bnd h
 refine Goes.imp (Q:=fun x s'=>(x= .exit 0/\ ∃t,(.inl t)=A/\Sub s' (ofG 77 [(9,.i t)],[]))\/(x= .ret/\ ∃w,(.inr w)=A/\zU ZT [.tmp 6] (.i w) .ret s')) ?_ ?_
 ·refine Uc (fun M s=> ∃(d:Int) (c:Int),s=(ofG 77 (kG u v (kAU j (v.length:Int) c d [])),[])/\jD u v j M d c=some A) ?_ (m:=N) ⟨_,_,rfl,g9⟩
  rintro M s ⟨d,c,rfl,g9⟩
  cases M with
  |zero=>simp only[jD]at g9;cases g9
  |succ M=>
   rw[jD]at g9
   refine sq ?_
   refine sq ?_
   obtain⟨B,a,g9⟩:=bnd g9
   refine Goes.cut (s':=(ofG 77 (kG u v (kAU j (v.length:Int) c d [(63,.bool B)])),[])) ?_ ?_
   ·rcases wyD a with⟨p,a⟩|⟨p,a⟩
    ·obtain rfl:=si a
     exact tr fol [2] (kG u v (kAU j (v.length:Int) c d [(63,.bool true)])) (ac (gw p) az)
    obtain⟨C,e,a⟩:=bnd a
    obtain⟨D,f,a⟩:=bnd a
    obtain rfl:=si a
    exact tr fol [2,7,8,17,18] (kG u v (kAU j (v.length:Int) c d [(63,.bool (decide ((w64 (c*C))>(w64 ((w64 (d*1000000000))+D)))))])) (ac (gw p) (ac (iv zy encI e) (ac (lv 0 ce3 encI e rfl) (ac (iv zy encI f) (ac (lv 0 ce3 encI f rfl) az)))))
   refine ihB g9 (fun E g9=>?_) (fun E g9=>?_)
   ·refine Goes.skip ?_
    refine Goes.block ?_
    refine sh fol (kG u v (kAU j (v.length:Int) (w64 (c-1)) d [])) ?_
    obtain⟨k,g,g9⟩:=bnd g9
    refine sq (gr fol [4,5] (kG u v (kAU j (v.length:Int) (w64 (c-1)) (w64 (d+k)) [])) (ac (iv zy encI g) (ac (lv 0 ce3 encI g rfl) az)) ?_)
    refine sh fol (kG u v (kAU j (v.length:Int) (w64 (c-1)) (w64 (d+k)) [(74,.bool (decide ((w64 (d+k))>=1000000000)))])) ?_
    refine ihD g9 (fun F g9=>?_) (fun F g9=>?_)
    ·refine sh fol [(6,.i (w64 (c-1)))] ?_
     refine Goes.ret ?_
     obtain rfl:=si g9
     exact Or.inr (⟨rfl,_,rfl,(gw2 [.i (w64 (c-1))] (Ua tI))⟩)
    refine Goes.skip ?_
    exact⟨M,(ofG 77 (kG u v (kAU j (v.length:Int) (w64 (c-1)) (w64 (d+k)) [])),[]),Nat.lt_succ_self _,(Sub.keep [0,1,2,7,9,10] rfl rfl),_,_,rfl,g9⟩
   refine Goes.exit ?_
   obtain rfl:=si g9
   exact Or.inl (⟨rfl,_,rfl,(Sub.keep [9] rfl rfl)⟩)
 rintro x s' (⟨rfl,t,rfl,hsub⟩|⟨rfl,J,rfl,hret⟩)
 ·try dsimp only at h
  refine Goes.sub hsub ?_
  refine sh fol [(6,.i t)] ?_
  refine Goes.ret ?_
  obtain rfl:=si h
  exact(gw2 [.i t] (Ua tI))
 try dsimp only at h
 obtain rfl:=si h
 exact hret
def zP (a:List Int):Nat->(List Int)->Option (List Int)
 |0,_=>none
 |K+1,b=>
  if(b.length:Int)<(w64 ((a.length:Int)+1))then
  (app 8 b [0]).bind fun c=>
  zP a K c
  else
  some b
def qL (h:List Int) (e:Int) (a:Int):Nat->(List Int)->Int->Int->Option ((List Int)×Int)
 |0,_,_,_=>none
 |K+1,f,b,c=>
  if c<(h.length:Int)then
  (idx h c).bind fun d=>
  (idx f (w64 (c+e))).bind fun g=>
  ((if(w64 (g-((w64 ((w64 (a*d))+b)).tmod 1000000000)))<0 then
  some (w64 ((w64 ((w64 ((w64 (a*d))+b)).tdiv 1000000000))+1),w64 ((w64 (g-((w64 ((w64 (a*d))+b)).tmod 1000000000)))+1000000000))
  else
  some (w64 ((w64 ((w64 (a*d))+b)).tdiv 1000000000),w64 (g-((w64 ((w64 (a*d))+b)).tmod 1000000000))):Option (Int×Int))).bind fun(i,j)=>
  (put f (w64 (c+e)) j).bind fun k=>
  qL h e a K k i (w64 (c+1))
  else
  some (f,b)
def qR (h:List Int) (b:Int) (e:Int):Nat->(List Int)->Int->Int->Option ((List Int)×Int×Int)
 |0,_,_,_=>none
 |K+1,c,d,a=>
  if a<(h.length:Int)then
  (idx c (w64 (a+b))).bind fun f=>
  (idx h a).bind fun g=>
  (put c (w64 (a+b)) ((w64 ((w64 (f+g))+d)).tmod 1000000000)).bind fun i=>
  qR h b e K i (w64 ((w64 ((w64 (f+g))+d)).tdiv 1000000000)) (w64 (a+1))
  else
  some (c,w64 (e-1),d)
def zn (N:Nat) (b:List Int):Nat->(List Int)->(List Int)->Int->Option ((List Int)×(List Int))
 |0,_,_,_=>none
 |K+1,c,d,a=>
  if a>=0 then
  (yV N c b a).bind fun e=>
  (qL b a e N c 0 0).bind fun(g,i)=>
  (idx g (w64 (a+(b.length:Int)))).bind fun j=>
  (put g (w64 (a+(b.length:Int))) (w64 (j-i))).bind fun f=>
  (idx f (w64 (a+(b.length:Int)))).bind fun k=>
  ((if k<0 then
  (qR b a e N f 0 0).bind fun(h,l,m)=>
  (idx h (w64 (a+(b.length:Int)))).bind fun n=>
  (put h (w64 (a+(b.length:Int))) (w64 (n+m))).bind fun o=>
  some (o,l)
  else
  some (f,e):Option ((List Int)×Int))).bind fun(p,q)=>
  (idx d a).bind fun s=>
  (put d a q).bind fun r=>
  zn N b K p r (w64 (a-1))
  else
  some (c,d)
def yw (N:Nat) (a:List Int) (b:List Int):Option ((List Int)×(List Int)):=
 (jQ N a b).bind fun q=>
 if q<0 then
 some ([],a)
 else
 if(b.length:Int)=1 then
 (idx b 0).bind fun r=>
 (vQ N a r).bind fun p=>
 (vG N ([p.2]:List Int)).bind fun s=>
 some (p.1,s)
 else
 (idx b (w64 ((b.length:Int)-1))).bind fun t=>
 (qbO .i64 1000000000 (w64 (t+1))).bind fun e=>
 (vo N b ([e]:List Int)).bind fun d=>
 (vo N a ([e]:List Int)).bind fun f=>
 (app 8 ([]:List Int) f).bind fun g=>
 (zP a N g).bind fun c=>
 (mk 8 (w64 ((c.length:Int)-(d.length:Int))) 0).bind fun h=>
 (zn N d N c h (w64 ((w64 ((c.length:Int)-(d.length:Int)))-1))).bind fun(i,j)=>
 (cut i 0 (d.length:Int)).bind fun k=>
 (vG N k).bind fun l=>
 (idx ([e]:List Int) 0).bind fun m=>
 (vQ N l m).bind fun n=>
 (vG N j).bind fun o=>
 some (o,n.1)
theorem qdn (N:Nat) (a:List Int) (b:List Int) {res:(List Int)×(List Int)} (h:yw N a b=some res):qc ZT (.fn 141) (kAs a b) [] (.tuple (kAs res.1 res.2)) []:=by
 unfold yw at h
 refine Ub Tryz.func141 rfl rfl (m:=206) rfl (rs:=[.tmp 4,.tmp 5]) rfl (l:=(kG a b [])) rfl ?_
 refine sh fol (kG a b []) ?_
 refine sq ?_
 obtain⟨r1,e_r1,h⟩:=bnd h
 refine sq (gr fol [2] (kG a b [(27,.bool (decide (r1<0)))]) (ac (cv (qbS N a b e_r1)) az) ?_)
 refine ihD h (fun c2 h=>?_) (fun c2 h=>?_)
 ·refine sh fol [(4,.nilslice),(5,vl encI a)] ?_
  refine Goes.ret ?_
  obtain rfl:=si h
  exact(gw2 [.nilslice,vl encI a] (FzW.tuple (qg.cons (FzW.nilv (E:=encI)) (qg.cons (Ua (qy encI _ (nl rfl))) qg.nil))))
 refine Goes.skip ?_
 refine sq ?_
 refine sh fol (kG a b [(31,.bool (decide ((b.length:Int)=1)))]) ?_
 refine ihD h (fun c3 h=>?_) (fun c3 h=>?_)
 ·obtain⟨x4,e_x4,h⟩:=bnd h
  obtain⟨r5,e_r5,h⟩:=bnd h
  refine sq (gr fol [2,3,4] [(6,vl encI r5.1),(7,.i r5.2)] (ac (iv zy encI e_x4) (ac (lv 0 ce3 encI e_x4 rfl) (ac (cv (qa7 N a x4 e_r5)) az))) ?_)
  obtain⟨r6,e_r6,h⟩:=bnd h
  refine sq (gq fol [3] (kAt r5.1 r6) [.frozen [.i r5.2]] (ac (hs (.callF 196 [.slice 0 0 1 1 1] (kA2 r5.2) [0] [vl encI ([r5.2]:List Int)] (vl encI r6)) (xU (FzL.cons (Fz.lit rfl rfl (Ul (AllST.cons tI AllST.nil))) FzL.nil) (yC N ([r5.2]:List Int) e_r6) (qy encI _ (nl rfl)))) az) ?_)
  refine Goes.sub (show Sub (ofG 206 (kAt r5.1 r6),[.frozen [.i r5.2]]) (ofG 206 (kAt r5.1 r6),[])from(Sub.norm [] [] rfl rfl (.keep (.same (qd encI _)) (.keep (.same (qd encI _)) .nil)) .nil)) ?_
  refine Goes.ret ?_
  obtain rfl:=si h
  exact(gw2 (kAs r5.1 r6) (FzW.tuple (qg.cons (Ua (qy encI _ (nl rfl))) (qg.cons (Ua (qy encI _ (nl rfl))) qg.nil))))
 refine Goes.skip ?_
 obtain⟨x7,e_x7,h⟩:=bnd h
 obtain⟨g,e_q8,h⟩:=bnd h
 refine sq (gq fol [4,5,7] (kG a b [(8,.slice 0 0 1 1 1)]) (kA2 g) (ac (iv zy encI e_x7) (ac (lv 0 ce3 encI e_x7 rfl) (ac (hs (.done (.opt (zb ZT .quo 3 (.const (.int .i64 1000000000)) (.tmp 50) (.i 1000000000) (.i (w64 (x7+1))))) (.i g)) (qbP e_q8)) az))) ?_)
 obtain⟨e,e_r9,h⟩:=bnd h
 refine sq (gq fol [2] (kS a [(8,.slice 0 0 1 1 1),(9,vl encI e)]) [.frozen [.i g]] (ac (hs (.callF 199 [vl encI b,.slice 0 0 1 1 1] (kA2 g) [0] (kAs b ([g]:List Int)) (vl encI e)) (xU (FzL.cons (Fz.still (qy encI _ (nl rfl))) (FzL.cons (Fz.lit rfl rfl (Ul (AllST.cons tI AllST.nil))) FzL.nil)) (qaW N b ([g]:List Int) e_r9) (qy encI _ (nl rfl)))) az) ?_)
 refine Goes.sub (show Sub (ofG 206 (kS a [(8,.slice 0 0 1 1 1),(9,vl encI e)]),[.frozen [.i g]]) (ofG 206 (kS a [(8,vl encI ([g]:List Int)),(9,vl encI e)]),[])from(Sub.norm [0] [] rfl rfl (.keep (.same (qd encI _)) (.keep (.frz (Fz.litF rfl rfl (Ul (AllST.cons tI AllST.nil))) (qd encI _)) (.keep (.same (qd encI _)) .nil))) .nil)) ?_
 refine sh fol (kS a [(8,vl encI ([g]:List Int)),(9,vl encI e),(10,.i (e.length:Int))]) ?_
 obtain⟨r10,e_r10,h⟩:=bnd h
 obtain⟨Z,e_l11,h⟩:=bnd h
 refine sq (gq fol [3,4] (kS a [(8,vl encI ([g]:List Int)),(9,vl encI e),(10,.i (e.length:Int)),(11,.oslice 1 Z.length 1)]) (.dead::(kB Z [])) (ac (cv (qaW N a ([g]:List Int) e_r10)) (ac (hs (.run [0] (vI ZT [40,40] (.slice 0 0 0 0 1) (vl encI r10)) [.cells []] (.oslice 1 Z.length 1) (.dead::(kB Z [])) true) (qal zy (E:=encI) rfl (src_v (E:=encI) rfl _) (dst_z (E:=encI) rfl rfl rfl e_l11 rfl))) az)) ?_)
 refine sq (Goes.block ?_)
 obtain⟨r14,g14,h⟩:=bnd h
 refine Goes.imp (Q:=fun x s'=>(x= .exit 0/\ ∃B,B=r14/\Sub s' (ofG 206 (kAN ([g]:List Int) e (e.length:Int) B []),(kB B [])))) ?_ ?_
 ·refine Goes.sub (s':=(ofG 206 (kS a (kAN ([g]:List Int) e (e.length:Int) Z [])),(kB Z []))) (Sub.norm [] [some 1] rfl rfl (.keep (.same (qd encI _)) (.keep (.same (qd encI _)) (.keep (.same (qd encI _)) (.keep (.same nI) (.keep (.oslice rfl) .nil))))) (.ks .nil)) ?_
  refine Uc (fun M s=> ∃(G:List Int),s=(ofG 206 (kS a (kAN ([g]:List Int) e (e.length:Int) G [])),(kB G []))/\zP a M G=some r14) ?_ (m:=N) ⟨_,rfl,g14⟩
  rintro M s ⟨G,rfl,g14⟩
  cases M with
  |zero=>simp only[zP]at g14;cases g14
  |succ M=>
   rw[zP]at g14
   refine sq ?_
   refine sh fol (kS a (kAN ([g]:List Int) e (e.length:Int) G [(68,.bool (decide ((G.length:Int)<(w64 ((a.length:Int)+1)))))])) ?_
   refine ihD g14 (fun c15 g14=>?_) (fun c15 g14=>?_)
   ·refine Goes.skip ?_
    refine Goes.block ?_
    obtain⟨a0,e_l16,g14⟩:=bnd g14
    refine gq fol [2] (kS a [(8,vl encI ([g]:List Int)),(9,vl encI e),(10,.i (e.length:Int)),(11,.oslice 2 a0.length 1)]) (.dead:: .cells [.i 0]::(kB a0 [])) (ac (hs (.run [0,1] (vI ZT [40,40] (.oslice 0 G.length 1) (.slice 1 0 1 1 1)) (kB G [.cells [.i 0]]) (.oslice 2 a0.length 1) (.dead:: .cells [.i 0]::(kB a0 [])) true) (qal zy (E:=encI) rfl (qdC (E:=encI) (ys:=[0]) rfl rfl rfl rfl) (qnt (E:=encI) (l:=G) rfl rfl rfl e_l16 rfl))) az) ?_
    exact⟨M,(ofG 206 (kS a (kAN ([g]:List Int) e (e.length:Int) a0 [])),(kB a0 [])),Nat.lt_succ_self _,(Sub.norm [] [some 2] rfl rfl (.keep (.same (qd encI _)) (.keep (.same (qd encI _)) (.keep (.same (qd encI _)) (.keep (.same nI) (.keep (.oslice rfl) .nil))))) (.ks .nil)),_,rfl,g14⟩
   refine Goes.exit ?_
   obtain rfl:=si g14
   exact⟨rfl,_,rfl,(Sub.keep [8,9,10,11] rfl rfl)⟩
 rintro x s' ⟨rfl,B,rfl,hsub⟩
 refine Goes.sub hsub ?_
 obtain⟨X,e_l17,h⟩:=bnd h
 refine sq (gq fol [4] (kAN ([g]:List Int) e (e.length:Int) B [(12,.slice 1 0 X.length X.length 1)]) (kB B (kB X [])) (ac (hs (.run [] (zt ZT 40 (.i (w64 ((B.length:Int)-(e.length:Int)))) (.i (w64 ((B.length:Int)-(e.length:Int))))) (kB B []) (.slice 1 0 X.length X.length 1) (kB B (kB X [])) false) (qaA zy (E:=encI) (z:=0) rfl (by kernel_rfl) e_l17 rfl)) az) ?_)
 refine sq ?_
 refine sh fol (kA ([g]:List Int) e (e.length:Int) B X (w64 ((w64 ((B.length:Int)-(e.length:Int)))-1)) []) ?_
 refine Goes.block ?_
 obtain⟨r23,g23,h⟩:=bnd h
 refine Goes.imp (Q:=fun x s'=>(x= .exit 2/\ ∃a1 o,(a1,o)=r23/\Sub s' (ofG 206 [(8,vl encI ([g]:List Int)),(10,.i (e.length:Int)),(11,.oslice 0 a1.length 1),(12,.slice 1 0 o.length o.length 1)],(kB a1 (kB o []))))) ?_ ?_
 ·refine Uc (fun M s=> ∃(C:List Int) (c:List Int) (d:Int),s=(ofG 206 (kA ([g]:List Int) e (e.length:Int) C c d []),(kB C (kB c [])))/\zn N e M C c d=some r23) ?_ (m:=N) ⟨_,_,_,rfl,g23⟩
  rintro M s ⟨C,c,d,rfl,g23⟩
  cases M with
  |zero=>simp only[zn]at g23;cases g23
  |succ M=>
   rw[zn]at g23
   refine sq ?_
   refine sh fol (kA ([g]:List Int) e (e.length:Int) C c d [(83,.bool (decide (d>=0)))]) ?_
   refine ihD g23 (fun c24 g23=>?_) (fun c24 g23=>?_)
   ·refine Goes.skip ?_
    refine sq (Goes.block ?_)
    obtain⟨f,e_r25,g23⟩:=bnd g23
    refine sq (gr fol [3] (kA ([g]:List Int) e (e.length:Int) C c d [(14,.i f)]) (ac (hs (.call 200 [.oslice 0 C.length 1,vl encI e,.i d] (kB C (kB c [])) [0] [vl encI C,vl encI e,.i d] (.i f)) (qkK (FzL.cons (Fz.os (E:=encI) rfl rfl (nl rfl)) (FzL.cons (Fz.still (qy encI _ (nl rfl))) (FzL.cons (Fz.still tI) FzL.nil))) (qfK N C e d e_r25) tI rfl)) az) ?_)
    refine sh fol (kA ([g]:List Int) e (e.length:Int) C c d [(14,.i f),(15,.i 0)]) ?_
    refine sq ?_
    refine sh fol (kA ([g]:List Int) e (e.length:Int) C c d [(14,.i f),(15,.i 0),(16,.i 0)]) ?_
    refine Goes.block ?_
    obtain⟨r31,g31,g23⟩:=bnd g23
    refine Goes.imp (Q:=fun x s'=>(x= .exit 4/\ ∃u n30,(u,n30)=r31/\Sub s' (ofG 206 (kA ([g]:List Int) e (e.length:Int) u c d [(14,.i f),(15,.i n30)]),(kB u (kB c []))))) ?_ ?_
    ·refine Uc (fun M s=> ∃(k:List Int) (p:Int) (j:Int),s=(ofG 206 (kA ([g]:List Int) e (e.length:Int) k c d (kAQ f p j [])),(kB k (kB c [])))/\qL e d f M k p j=some r31) ?_ (m:=N) ⟨_,_,_,rfl,g31⟩
     rintro M s ⟨k,p,j,rfl,g31⟩
     cases M with
     |zero=>simp only[qL]at g31;cases g31
     |succ M=>
      rw[qL]at g31
      refine sq ?_
      refine sh fol (kA ([g]:List Int) e (e.length:Int) k c d (kAQ f p j [(92,.bool (decide (j<(e.length:Int))))])) ?_
      refine ihD g31 (fun c32 g31=>?_) (fun c32 g31=>?_)
      ·refine Goes.skip ?_
       refine sq (Goes.block ?_)
       obtain⟨D,e_x33,g31⟩:=bnd g31
       refine sq (gr fol [3,4] (kA ([g]:List Int) e (e.length:Int) k c d [(14,.i f),(16,.i j),(17,.i (w64 ((w64 (f*D))+p)))]) (ac (iv zy encI e_x33) (ac (lv 0 ce3 encI e_x33 rfl) az)) ?_)
       obtain⟨Y,H,g31⟩:=bnd g31
       refine sq (gr fol [4,5] (kA ([g]:List Int) e (e.length:Int) k c d [(14,.i f),(16,.i j),(17,.i (w64 ((w64 (f*D))+p))),(18,.i (w64 (Y-((w64 ((w64 (f*D))+p)).tmod 1000000000))))]) (ac (hs (.done (.opt (qb ZT 40 (.oslice 0 k.length 1) (.i (w64 (j+d))))) (.ptr 0 ((w64 (j+d):Int).toNat*1+0))) (qdr zy H)) (ac (hs (.run [0] (zJ ZT 3 (.ptr 0 ((w64 (j+d):Int).toNat*1+0))) (kB k (kB c [])) (.i Y) (kB k (kB c [])) false) (qaC ce3 (E:=encI) (l:=k) rfl rfl H (nl rfl) rfl)) az)) ?_)
       refine sh fol (kA ([g]:List Int) e (e.length:Int) k c d (kAQ f (w64 ((w64 ((w64 (f*D))+p)).tdiv 1000000000)) j [(18,.i (w64 (Y-((w64 ((w64 (f*D))+p)).tmod 1000000000))))])) ?_
       refine sq ?_
       refine sh fol (kA ([g]:List Int) e (e.length:Int) k c d (kAQ f (w64 ((w64 ((w64 (f*D))+p)).tdiv 1000000000)) j [(18,.i (w64 (Y-((w64 ((w64 (f*D))+p)).tmod 1000000000)))),(115,.bool (decide ((w64 (Y-((w64 ((w64 (f*D))+p)).tmod 1000000000)))<0)))])) ?_
       obtain⟨r37,g37,g31⟩:=bnd g31
       refine Goes.imp (Q:=fun x s'=>(x= .normal/\ ∃P n36,(P,n36)=r37/\Sub s' (ofG 206 (kA ([g]:List Int) e (e.length:Int) k c d (kAQ f P j [(18,.i n36)])),(kB k (kB c []))))) ?_ ?_
       ·refine ihD g37 (fun c38 g37=>?_) (fun c38 g37=>?_)
        ·refine sh fol (kA ([g]:List Int) e (e.length:Int) k c d (kAQ f (w64 ((w64 ((w64 (f*D))+p)).tdiv 1000000000)) j [(18,.i (w64 ((w64 (Y-((w64 ((w64 (f*D))+p)).tmod 1000000000)))+1000000000)))])) ?_
         refine gh fol (kA ([g]:List Int) e (e.length:Int) k c d (kAQ f (w64 ((w64 ((w64 ((w64 (f*D))+p)).tdiv 1000000000))+1)) j [(18,.i (w64 ((w64 (Y-((w64 ((w64 (f*D))+p)).tmod 1000000000)))+1000000000)))])) ?_
         obtain rfl:=si g37
         exact⟨rfl,_,_,rfl,(Sub.refl _)⟩
        refine Goes.skip ?_
        obtain rfl:=si g37
        exact⟨rfl,_,_,rfl,(Sub.keep [8,9,10,11,12,13,14,15,16,18] rfl rfl)⟩
       rintro x s' ⟨rfl,P,n36,rfl,hsub⟩
       try dsimp only at g31
       refine Goes.sub hsub ?_
       obtain⟨U,e_l39,g31⟩:=bnd g31
       refine gq fol [5,6] (kA ([g]:List Int) e (e.length:Int) k c d (kAQ f P j [])) (kB U (kB c [])) (ac (hs (.done (.opt (qb ZT 40 (.oslice 0 k.length 1) (.i (w64 (j+d))))) (.ptr 0 ((w64 (j+d):Int).toNat*1+0))) (qdr zy H)) (ac (hs (.run [0] (qx ZT 3 (.ptr 0 ((w64 (j+d):Int).toNat*1+0)) (.i n36)) (kB k (kB c [])) .undef (kB U (kB c [])) true) (yc (E:=encI) (l:=k) (y:=n36) rfl (show _=some 1 by kernel_rfl) rfl H rfl rfl rfl rfl rfl e_l39 rfl)) az)) ?_
       refine Goes.sub (show Sub (ofG 206 (kA ([g]:List Int) e (e.length:Int) k c d (kAQ f P j [])),(kB U (kB c []))) (ofG 206 (kA ([g]:List Int) e (e.length:Int) U c d (kAQ f P j [])),(kB U (kB c [])))from(Sub.norm [] [some 0,some 1] rfl rfl (.keep (.same (qd encI _)) (.keep (.same (qd encI _)) (.keep (.same nI) (.keep (.osliceE rfl (jg e_l39)) (.keep (.slice rfl) (.keep (.same nI) (.keep (.same nI) (.keep (.same nI) (.keep (.same nI) .nil))))))))) (.ks (.ks .nil)))) ?_
       refine gh fol (kA ([g]:List Int) e (e.length:Int) U c d (kAQ f P (w64 (j+1)) [])) ?_
       exact⟨M,(ofG 206 (kA ([g]:List Int) e (e.length:Int) U c d (kAQ f P (w64 (j+1)) [])),(kB U (kB c []))),Nat.lt_succ_self _,(Sub.refl _),_,_,_,rfl,g31⟩
      refine Goes.exit ?_
      obtain rfl:=si g31
      exact⟨rfl,_,_,rfl,(Sub.keep [8,9,10,11,12,13,14,15] rfl rfl)⟩
    rintro x s' ⟨rfl,u,n30,rfl,hsub⟩
    try dsimp only at g23
    refine Goes.sub hsub ?_
    obtain⟨x40,I,g23⟩:=bnd g23
    obtain⟨v,e_l41,g23⟩:=bnd g23
    refine sq (gq fol [8,9,12,13] (kA ([g]:List Int) e (e.length:Int) u c d [(14,.i f)]) (kB v (kB c [])) (ac (hs (.done (.opt (qb ZT 40 (.oslice 0 u.length 1) (.i (w64 (d+(e.length:Int)))))) (.ptr 0 ((w64 (d+(e.length:Int)):Int).toNat*1+0))) (qdr zy I)) (ac (hs (.run [0] (zJ ZT 3 (.ptr 0 ((w64 (d+(e.length:Int)):Int).toNat*1+0))) (kB u (kB c [])) (.i x40) (kB u (kB c [])) false) (qaC ce3 (E:=encI) (l:=u) rfl rfl I (nl rfl) rfl)) (ac (hs (.done (.opt (qb ZT 40 (.oslice 0 u.length 1) (.i (w64 (d+(e.length:Int)))))) (.ptr 0 ((w64 (d+(e.length:Int)):Int).toNat*1+0))) (qdr zy I)) (ac (hs (.run [0] (qx ZT 3 (.ptr 0 ((w64 (d+(e.length:Int)):Int).toNat*1+0)) (.i (w64 (x40-n30)))) (kB u (kB c [])) .undef (kB v (kB c [])) true) (yc (E:=encI) (l:=u) (y:=w64 (x40-n30)) rfl (show _=some 1 by kernel_rfl) rfl I rfl rfl rfl rfl rfl e_l41 rfl)) az)))) ?_)
    refine Goes.sub (show Sub (ofG 206 (kA ([g]:List Int) e (e.length:Int) u c d [(14,.i f)]),(kB v (kB c []))) (ofG 206 (kA ([g]:List Int) e (e.length:Int) v c d [(14,.i f)]),(kB v (kB c [])))from(Sub.norm [] [some 0,some 1] rfl rfl (.keep (.same (qd encI _)) (.keep (.same (qd encI _)) (.keep (.same nI) (.keep (.osliceE rfl (jg e_l41)) (.keep (.slice rfl) (.keep (.same nI) (.keep (.same nI) .nil))))))) (.ks (.ks .nil)))) ?_
    refine sq ?_
    obtain⟨x42,e_x42,g23⟩:=bnd g23
    refine sq (gr fol [4,5] (kA ([g]:List Int) e (e.length:Int) v c d [(14,.i f),(145,.bool (decide (x42<0)))]) (ac (hs (.done (.opt (qb ZT 40 (.oslice 0 v.length 1) (.i (w64 (d+(e.length:Int)))))) (.ptr 0 ((w64 (d+(e.length:Int)):Int).toNat*1+0))) (qdr zy e_x42)) (ac (hs (.run [0] (zJ ZT 3 (.ptr 0 ((w64 (d+(e.length:Int)):Int).toNat*1+0))) (kB v (kB c [])) (.i x42) (kB v (kB c [])) false) (qaC ce3 (E:=encI) (l:=v) rfl rfl e_x42 (nl rfl) rfl)) az)) ?_)
    obtain⟨r45,g45,g23⟩:=bnd g23
    refine Goes.imp (Q:=fun x s'=>(x= .normal/\ ∃r n44,(r,n44)=r45/\Sub s' (ofG 206 (kA ([g]:List Int) e (e.length:Int) r c d [(14,.i n44)]),(kB r (kB c []))))) ?_ ?_
    ·refine ihD g45 (fun c46 g45=>?_) (fun c46 g45=>?_)
     ·refine sh fol (kA ([g]:List Int) e (e.length:Int) v c d [(14,.i (w64 (f-1)))]) ?_
      refine sh fol (kA ([g]:List Int) e (e.length:Int) v c d [(14,.i (w64 (f-1))),(19,.i 0)]) ?_
      refine sq ?_
      refine sh fol (kA ([g]:List Int) e (e.length:Int) v c d [(14,.i (w64 (f-1))),(19,.i 0),(20,.i 0)]) ?_
      refine Goes.block ?_
      obtain⟨r53,q,g45⟩:=bnd g45
      refine Goes.imp (Q:=fun x s'=>(x= .exit 6/\ ∃w a2 n52,(w,a2,n52)=r53/\Sub s' (ofG 206 (kA ([g]:List Int) e (e.length:Int) w c d [(14,.i a2),(19,.i n52)]),(kB w (kB c []))))) ?_ ?_
      ·refine Uc (fun M s=> ∃(t:List Int) (A:Int) (n:Int),s=(ofG 206 (kA ([g]:List Int) e (e.length:Int) t c d [(14,.i (w64 (f-1))),(19,.i A),(20,.i n)]),(kB t (kB c [])))/\qR e d f M t A n=some r53) ?_ (m:=N) ⟨_,_,_,rfl,q⟩
       rintro M s ⟨t,A,n,rfl,q⟩
       cases M with
       |zero=>simp only[qR]at q;cases q
       |succ M=>
        rw[qR]at q
        refine sq ?_
        refine sh fol (kA ([g]:List Int) e (e.length:Int) t c d [(14,.i (w64 (f-1))),(19,.i A),(20,.i n),(150,.bool (decide (n<(e.length:Int))))]) ?_
        refine ihD q (fun c54 q=>?_) (fun c54 q=>?_)
        ·refine Goes.skip ?_
         refine sq (Goes.block ?_)
         obtain⟨F,J,q⟩:=bnd q
         obtain⟨K,e_x56,q⟩:=bnd q
         refine sq (gr fol [4,5,8,9] (kA ([g]:List Int) e (e.length:Int) t c d [(14,.i (w64 (f-1))),(20,.i n),(21,.i (w64 ((w64 (F+K))+A)))]) (ac (hs (.done (.opt (qb ZT 40 (.oslice 0 t.length 1) (.i (w64 (n+d))))) (.ptr 0 ((w64 (n+d):Int).toNat*1+0))) (qdr zy J)) (ac (hs (.run [0] (zJ ZT 3 (.ptr 0 ((w64 (n+d):Int).toNat*1+0))) (kB t (kB c [])) (.i F) (kB t (kB c [])) false) (qaC ce3 (E:=encI) (l:=t) rfl rfl J (nl rfl) rfl)) (ac (iv zy encI e_x56) (ac (lv 0 ce3 encI e_x56 rfl) az)))) ?_)
         obtain⟨L,e_l57,q⟩:=bnd q
         refine sq (gq fol [6,7] (kA ([g]:List Int) e (e.length:Int) t c d [(14,.i (w64 (f-1))),(20,.i n),(21,.i (w64 ((w64 (F+K))+A)))]) (kB L (kB c [])) (ac (hs (.done (.opt (qb ZT 40 (.oslice 0 t.length 1) (.i (w64 (n+d))))) (.ptr 0 ((w64 (n+d):Int).toNat*1+0))) (qdr zy J)) (ac (hs (.run [0] (qx ZT 3 (.ptr 0 ((w64 (n+d):Int).toNat*1+0)) (.i ((w64 ((w64 (F+K))+A)).tmod 1000000000))) (kB t (kB c [])) .undef (kB L (kB c [])) true) (yc (E:=encI) (l:=t) (y:=(w64 ((w64 (F+K))+A)).tmod 1000000000) rfl (show _=some 1 by kernel_rfl) rfl J rfl rfl rfl rfl rfl e_l57 rfl)) az)) ?_)
         refine Goes.sub (show Sub (ofG 206 (kA ([g]:List Int) e (e.length:Int) t c d [(14,.i (w64 (f-1))),(20,.i n),(21,.i (w64 ((w64 (F+K))+A)))]),(kB L (kB c []))) (ofG 206 (kA ([g]:List Int) e (e.length:Int) L c d [(14,.i (w64 (f-1))),(20,.i n),(21,.i (w64 ((w64 (F+K))+A)))]),(kB L (kB c [])))from(Sub.norm [] [some 0,some 1] rfl rfl (.keep (.same (qd encI _)) (.keep (.same (qd encI _)) (.keep (.same nI) (.keep (.osliceE rfl (jg e_l57)) (.keep (.slice rfl) (.keep (.same nI) (.keep (.same nI) (.keep (.same nI) (.keep (.same nI) .nil))))))))) (.ks (.ks .nil)))) ?_
         refine gh fol (kA ([g]:List Int) e (e.length:Int) L c d [(14,.i (w64 (f-1))),(19,.i (w64 ((w64 ((w64 (F+K))+A)).tdiv 1000000000))),(20,.i n)]) ?_
         refine gh fol (kA ([g]:List Int) e (e.length:Int) L c d [(14,.i (w64 (f-1))),(19,.i (w64 ((w64 ((w64 (F+K))+A)).tdiv 1000000000))),(20,.i (w64 (n+1)))]) ?_
         exact⟨M,(ofG 206 (kA ([g]:List Int) e (e.length:Int) L c d [(14,.i (w64 (f-1))),(19,.i (w64 ((w64 ((w64 (F+K))+A)).tdiv 1000000000))),(20,.i (w64 (n+1)))]),(kB L (kB c []))),Nat.lt_succ_self _,(Sub.refl _),_,_,_,rfl,q⟩
        refine Goes.exit ?_
        obtain rfl:=si q
        exact⟨rfl,_,_,_,rfl,(Sub.keep [8,9,10,11,12,13,14,19] rfl rfl)⟩
      rintro x s' ⟨rfl,w,a2,n52,rfl,hsub⟩
      try dsimp only at g45
      refine Goes.sub hsub ?_
      obtain⟨x58,O,g45⟩:=bnd g45
      obtain⟨l59,e_l59,g45⟩:=bnd g45
      refine gq fol [8,9,12,13] (kA ([g]:List Int) e (e.length:Int) w c d [(14,.i a2)]) (kB l59 (kB c [])) (ac (hs (.done (.opt (qb ZT 40 (.oslice 0 w.length 1) (.i (w64 (d+(e.length:Int)))))) (.ptr 0 ((w64 (d+(e.length:Int)):Int).toNat*1+0))) (qdr zy O)) (ac (hs (.run [0] (zJ ZT 3 (.ptr 0 ((w64 (d+(e.length:Int)):Int).toNat*1+0))) (kB w (kB c [])) (.i x58) (kB w (kB c [])) false) (qaC ce3 (E:=encI) (l:=w) rfl rfl O (nl rfl) rfl)) (ac (hs (.done (.opt (qb ZT 40 (.oslice 0 w.length 1) (.i (w64 (d+(e.length:Int)))))) (.ptr 0 ((w64 (d+(e.length:Int)):Int).toNat*1+0))) (qdr zy O)) (ac (hs (.run [0] (qx ZT 3 (.ptr 0 ((w64 (d+(e.length:Int)):Int).toNat*1+0)) (.i (w64 (x58+n52)))) (kB w (kB c [])) .undef (kB l59 (kB c [])) true) (yc (E:=encI) (l:=w) (y:=w64 (x58+n52)) rfl (show _=some 1 by kernel_rfl) rfl O rfl rfl rfl rfl rfl e_l59 rfl)) az)))) ?_
      obtain rfl:=si g45
      exact⟨rfl,_,_,rfl,((show Sub (ofG 206 (kA ([g]:List Int) e (e.length:Int) w c d [(14,.i a2)]),(kB l59 (kB c []))) (ofG 206 (kA ([g]:List Int) e (e.length:Int) l59 c d [(14,.i a2)]),(kB l59 (kB c [])))from(Sub.norm [] [some 0,some 1] rfl rfl (.keep (.same (qd encI _)) (.keep (.same (qd encI _)) (.keep (.same nI) (.keep (.osliceE rfl (jg e_l59)) (.keep (.slice rfl) (.keep (.same nI) (.keep (.same nI) .nil))))))) (.ks (.ks .nil)))).trans (Sub.refl _))⟩
     refine Goes.skip ?_
     obtain rfl:=si g45
     exact⟨rfl,_,_,rfl,(Sub.keep [8,9,10,11,12,13,14] rfl rfl)⟩
    rintro x s' ⟨rfl,r,n44,rfl,hsub⟩
    try dsimp only at g23
    refine Goes.sub hsub ?_
    obtain⟨x60,e_x60,g23⟩:=bnd g23
    obtain⟨V,e_l61,g23⟩:=bnd g23
    refine gq fol [3,4] (kA ([g]:List Int) e (e.length:Int) r c d []) (kB r (kB V [])) (ac (hs (.done (.opt (qb ZT 40 (.slice 1 0 c.length c.length 1) (.i d))) (.ptr 1 ((d:Int).toNat*1+0))) (vZ zy e_x60)) (ac (hs (.run [1] (qx ZT 3 (.ptr 1 ((d:Int).toNat*1+0)) (.i n44)) (kB r (kB c [])) .undef (kB r (kB V [])) true) (yc (E:=encI) (l:=c) (y:=n44) rfl (show _=some 1 by kernel_rfl) rfl e_x60 rfl rfl rfl rfl rfl e_l61 rfl)) az)) ?_
    refine Goes.sub (show Sub (ofG 206 (kA ([g]:List Int) e (e.length:Int) r c d []),(kB r (kB V []))) (ofG 206 (kA ([g]:List Int) e (e.length:Int) r V d []),(kB r (kB V [])))from(Sub.norm [] [some 0,some 1] rfl rfl (.keep (.same (qd encI _)) (.keep (.same (qd encI _)) (.keep (.same nI) (.keep (.oslice rfl) (.keep (.sliceE rfl (jg e_l61)) (.keep (.same nI) .nil)))))) (.ks (.ks .nil)))) ?_
    refine gh fol (kA ([g]:List Int) e (e.length:Int) r V (w64 (d-1)) []) ?_
    exact⟨M,(ofG 206 (kA ([g]:List Int) e (e.length:Int) r V (w64 (d-1)) []),(kB r (kB V []))),Nat.lt_succ_self _,(Sub.refl _),_,_,_,rfl,g23⟩
   refine Goes.exit ?_
   obtain rfl:=si g23
   exact⟨rfl,_,_,rfl,(Sub.keep [8,10,11,12] rfl rfl)⟩
 rintro x s' ⟨rfl,a1,o,rfl,hsub⟩
 try dsimp only at h
 refine Goes.sub hsub ?_
 refine sq (Goes.sub (s':=(ofG 206 [(8,vl encI ([g]:List Int)),(10,.i (e.length:Int)),(11,vl encI a1),(12,.slice 0 0 o.length o.length 1)],(kB o []))) (Sub.norm [0] [some 1] rfl rfl (.keep (.same (qd encI _)) (.keep (.same nI) (.keep (.frz (Fz.os (E:=encI) rfl rfl (nl rfl)) (qd encI _)) (.keep (.slice rfl) .nil)))) (.ks .nil)) ?_)
 obtain⟨s62,e_s62,h⟩:=bnd h
 obtain⟨r63,e_r63,h⟩:=bnd h
 obtain⟨x64,e_x64,h⟩:=bnd h
 obtain⟨r65,e_r65,h⟩:=bnd h
 refine gr fol [2,3,5,6,7] [(12,.slice 0 0 o.length o.length 1),(22,vl encI r65.1)] (ac (hs (.done (.opt (zI ZT 40 (vl encI a1) none (some (.i (e.length:Int))) none)) (vl encI s62)) (qje zy (E:=encI) rfl none (some (e.length:Int)) e_s62)) (ac (cv (yC N s62 e_r63)) (ac (iv zy encI e_x64) (ac (lv 0 ce3 encI e_x64 rfl) (ac (cv (qa7 N r63 x64 e_r65)) az))))) ?_
 obtain⟨r66,e_r66,h⟩:=bnd h
 refine sq (gq fol [1] (kAt r66 r65.1) (kAS o) (ac (hs (.callF 196 [.slice 0 0 o.length o.length 1] (kB o []) [0] [vl encI o] (vl encI r66)) (xU (FzL.cons (Fz.sl (E:=encI) rfl rfl (nl rfl)) FzL.nil) (yC N o e_r66) (qy encI _ (nl rfl)))) az) ?_)
 refine Goes.sub (show Sub (ofG 206 (kAt r66 r65.1),(kAS o)) (ofG 206 (kAt r66 r65.1),[])from(Sub.norm [] [] rfl rfl (.keep (.same (qd encI _)) (.keep (.same (qd encI _)) .nil)) .nil)) ?_
 refine Goes.ret ?_
 obtain rfl:=si h
 exact(gw2 (kAs r66 r65.1) (FzW.tuple (qg.cons (Ua (qy encI _ (nl rfl))) (qg.cons (Ua (qy encI _ (nl rfl))) qg.nil))))
def qY (N:Nat):Nat->(List Int)->(List Int)->Option (List Int)
 |0,_,_=>none
 |K+1,b,a=>
  if(a.length:Int)>0 then
  (yw N b a).bind fun c=>
  qY N K a c.2
  else
  some b
def xR (N:Nat) (a:List Int) (b:List Int):Option (List Int):=
 (qY N N a b).bind fun c=>
 some c
theorem qen (N:Nat) (a:List Int) (b:List Int) {res:List Int} (h:xR N a b=some res):qc ZT (.fn 77) (kAs a b) [] (vl encI res) []:=by
 unfold xR at h
 refine Ub Tryz.func77 rfl rfl (m:=19) rfl (rs:=[.tmp 4]) rfl (l:=(kG a b [])) rfl ?_
 refine sh fol (kG a b []) ?_
 refine sq (Goes.block ?_)
 obtain⟨i,g4,h⟩:=bnd h
 refine Goes.imp (Q:=fun x s'=>(x= .exit 0/\ ∃d,d=i/\Sub s' (ofG 19 (kS d []),[]))) ?_ ?_
 ·refine Uc (fun M s=> ∃(e:List Int) (c:List Int),s=(ofG 19 (kG e c []),[])/\qY N M e c=some i) ?_ (m:=N) ⟨_,_,rfl,g4⟩
  rintro M s ⟨e,c,rfl,g4⟩
  cases M with
  |zero=>simp only[qY]at g4;cases g4
  |succ M=>
   rw[qY]at g4
   refine sq ?_
   refine sh fol (kG e c [(9,.bool (decide ((c.length:Int)>0)))]) ?_
   refine ihD g4 (fun j g4=>?_) (fun j g4=>?_)
   ·refine Goes.skip ?_
    refine Goes.block ?_
    obtain⟨g,f,g4⟩:=bnd g4
    refine sq (gr fol [2] [(1,vl encI c),(6,vl encI g.2)] (ac (cv (qdn N e c f)) az) ?_)
    refine gh fol (kG c g.2 []) ?_
    exact⟨M,(ofG 19 (kG c g.2 []),[]),Nat.lt_succ_self _,(Sub.refl _),_,_,rfl,g4⟩
   refine Goes.exit ?_
   obtain rfl:=si g4
   exact⟨rfl,_,rfl,(Sub.keep [0] rfl rfl)⟩
 rintro x s' ⟨rfl,d,rfl,hsub⟩
 refine Goes.sub hsub ?_
 refine sh fol [(4,vl encI d)] ?_
 refine Goes.ret ?_
 obtain rfl:=si h
 exact(gw2 [vl encI d] (Ua (qy encI _ (nl rfl))))
def xK (N:Nat) (a:Str):Option Int:=
 (if(a.length:Int)>0 then
 (idx a 0).bind fun t=>
 some (decide ((t.toNat:Int)=45))
 else
 some false:Option Bool).bind fun u=>
 ((if u=true then
 (cut a 1 (a.length:Int)).bind fun v=>
 some v
 else
 some a:Option Str)).bind fun b=>
 (yM N b).bind fun c=>
 ((cut b 0 c).bind fun f=>
 (zS N f).bind fun g=>
 if(!g)=true then
 some true
 else
 (idx a 0).bind fun h=>
 if(h.toNat:Int)=45 then
 (cut b 0 c).bind fun i=>
 some (i==[48])
 else
 some false:Option Bool).bind fun j=>
 if j=true then
 some 1
 else
 (if c<(b.length:Int)then
 (cut b (w64 (c+1)) (b.length:Int)).bind fun k=>
 (zS N k).bind fun l=>
 if(!l)=true then
 some true
 else
 (cut b (w64 (c+1)) (b.length:Int)).bind fun m=>
 if(m==[48])=true then
 some true
 else
 (cut b (w64 (c+1)) (b.length:Int)).bind fun n=>
 some (n==[49])
 else
 some false:Option Bool).bind fun o=>
 if o=true then
 some 1
 else
 (if c>600 then
 some true
 else
 some (decide ((w64 ((w64 ((b.length:Int)-c))-1))>600)):Option Bool).bind fun p=>
 if p=true then
 some 4
 else
 ((if c<(b.length:Int)then
 (qap N b).bind fun d=>
 (xR N d.1.w d.2.w).bind fun e=>
 (if(!decide ((e.length:Int)=1))=true then
 some true
 else
 (idx e 0).bind fun q=>
 some (!decide (q=1)):Option Bool).bind fun r=>
 if r=true then
 some (.inr 1)
 else
 some (.inl ())
 else
 some (.inl ()):Option (Unit⊕Int))).bind (fun
 |(.inl ())=>
 some 0
 |(.inr s)=>
 some s)
theorem xL (N:Nat) (a:Str) {res:Int} (h:xK N a=some res):qc ZT (.fn 27) [.str a] [] (.i res) []:=by
 unfold xK at h
 refine Ub Tryz.func27 rfl rfl (m:=96) rfl (rs:=[.tmp 2]) rfl (l:=(kAw a)) rfl ?_
 refine sh fol (kAw a) ?_
 refine sh fol [(0,.str a),(3,.str a)] ?_
 refine sq ?_
 refine sq ?_
 obtain⟨b3,g,h⟩:=bnd h
 refine Goes.cut (s':=(ofG 96 [(0,.str a),(3,.str a),(16,.bool b3)],[])) ?_ ?_
 ·rcases wyD g with⟨Y,g⟩|⟨Y,g⟩
  ·obtain⟨c2,J,g⟩:=bnd g
   obtain rfl:=si g
   exact tr fol [3,5] [(0,.str a),(3,.str a),(16,.bool (decide ((c2.toNat:Int)=45)))] (ac (gw Y) (ac (hs (.done (.opt (yP ZT 9 (.str a) (.i 0))) (.int .u8 (c2.toNat:Int))) (qaX st9 J)) az))
  obtain rfl:=si g
  exact tr fol [3] [(0,.str a),(3,.str a),(16,.bool false)] (ac (gw Y) az)
 obtain⟨r6,g6,h⟩:=bnd h
 refine Goes.imp (Q:=fun x s'=>(x= .normal/\ ∃e,e=r6/\Sub s' (ofG 96 [(0,.str a),(3,.str e)],[]))) ?_ ?_
 ·refine ihB g6 (fun c7 g6=>?_) (fun c7 g6=>?_)
  ·obtain⟨s8,K,g6⟩:=bnd g6
   refine gr fol [1] [(0,.str a),(3,.str s8)] (ac (hs (.done (.opt (zI ZT 9 (.str a) (some (.i 1)) none none)) (.str s8)) (yG st9 (some 1) none K)) az) ?_
   obtain rfl:=si g6
   exact⟨rfl,_,rfl,(Sub.refl _)⟩
  refine Goes.skip ?_
  obtain rfl:=si g6
  exact⟨rfl,_,rfl,(Sub.keep [0,3] rfl rfl)⟩
 rintro x s' ⟨rfl,e,rfl,hsub⟩
 refine Goes.sub hsub ?_
 obtain⟨d,L,h⟩:=bnd h
 refine sq (gr fol [1] ((0,.str a)::(kAo e d [])) (ac (cv (qa2 N e L)) az) ?_)
 refine sq ?_
 refine sq ?_
 obtain⟨Z,c,h⟩:=bnd h
 refine Goes.cut (s':=(ofG 96 (kAo e d [(36,.bool Z)]),[])) ?_ ?_
 ·obtain⟨r,n,c⟩:=bnd c
  obtain⟨r11,o,c⟩:=bnd c
  rcases wyB c with⟨z,c⟩|⟨z,c⟩
  ·obtain rfl:=si c
   exact tr fol [2,3,5] (kAo e d [(36,.bool true)]) (ac (hs (.done (.opt (zI ZT 9 (.str e) none (some (.i d)) none)) (.str r)) (yG st9 none (some d) n)) (ac (cv (zQ N r o)) (ac (gw z) az)))
  obtain⟨M,t,c⟩:=bnd c
  rcases wyD c with⟨B,c⟩|⟨B,c⟩
  ·obtain⟨O,C,c⟩:=bnd c
   obtain rfl:=si c
   exact tr fol [2,3,5,7,9,12] (kAo e d [(36,.bool (O==[48]))]) (ac (hs (.done (.opt (zI ZT 9 (.str e) none (some (.i d)) none)) (.str r)) (yG st9 none (some d) n)) (ac (cv (zQ N r o)) (ac (gw z) (ac (hs (.done (.opt (yP ZT 56 (.str a) (.i 0))) (.int .u8 (M.toNat:Int))) (qaX st56 t)) (ac (gw B) (ac (hs (.done (.opt (zI ZT 9 (.str e) none (some (.i d)) none)) (.str O)) (yG st9 none (some d) C)) az))))))
  obtain rfl:=si c
  exact tr fol [2,3,5,7,9] (kAo e d [(36,.bool false)]) (ac (hs (.done (.opt (zI ZT 9 (.str e) none (some (.i d)) none)) (.str r)) (yG st9 none (some d) n)) (ac (cv (zQ N r o)) (ac (gw z) (ac (hs (.done (.opt (yP ZT 56 (.str a) (.i 0))) (.int .u8 (M.toNat:Int))) (qaX st56 t)) (ac (gw B) az)))))
 refine ihB h (fun a0 h=>?_) (fun a0 h=>?_)
 ·refine sh fol [(2,.i 1)] ?_
  refine Goes.ret ?_
  obtain rfl:=si h
  exact(gw2 [.i 1] (Ua tI))
 refine Goes.skip ?_
 refine sq ?_
 refine sq ?_
 obtain⟨a1,b,h⟩:=bnd h
 refine Goes.cut (s':=(ofG 96 (kAo e d [(62,.bool a1)]),[])) ?_ ?_
 ·rcases wyD b with⟨u,b⟩|⟨u,b⟩
  ·obtain⟨s,p,b⟩:=bnd b
   obtain⟨r21,q,b⟩:=bnd b
   rcases wyB b with⟨A,b⟩|⟨A,b⟩
   ·obtain rfl:=si b
    exact tr fol [4,8,9,11] (kAo e d [(62,.bool true)]) (ac (gw u) (ac (hs (.done (.opt (zI ZT 9 (.str e) (some (.i (w64 (d+1)))) none none)) (.str s)) (yG st9 (some (w64 (d+1))) none p)) (ac (cv (zQ N s q)) (ac (gw A) az))))
   obtain⟨P,v,b⟩:=bnd b
   rcases wyB b with⟨D,b⟩|⟨D,b⟩
   ·obtain rfl:=si b
    exact tr fol [4,8,9,11,15,18] (kAo e d [(62,.bool true)]) (ac (gw u) (ac (hs (.done (.opt (zI ZT 9 (.str e) (some (.i (w64 (d+1)))) none none)) (.str s)) (yG st9 (some (w64 (d+1))) none p)) (ac (cv (zQ N s q)) (ac (gw A) (ac (hs (.done (.opt (zI ZT 9 (.str e) (some (.i (w64 (d+1)))) none none)) (.str P)) (yG st9 (some (w64 (d+1))) none v)) (ac (gw D) az))))))
   obtain⟨U,E,b⟩:=bnd b
   obtain rfl:=si b
   exact tr fol [4,8,9,11,15,18,22] (kAo e d [(62,.bool (U==[49]))]) (ac (gw u) (ac (hs (.done (.opt (zI ZT 9 (.str e) (some (.i (w64 (d+1)))) none none)) (.str s)) (yG st9 (some (w64 (d+1))) none p)) (ac (cv (zQ N s q)) (ac (gw A) (ac (hs (.done (.opt (zI ZT 9 (.str e) (some (.i (w64 (d+1)))) none none)) (.str P)) (yG st9 (some (w64 (d+1))) none v)) (ac (gw D) (ac (hs (.done (.opt (zI ZT 9 (.str e) (some (.i (w64 (d+1)))) none none)) (.str U)) (yG st9 (some (w64 (d+1))) none E)) az)))))))
  obtain rfl:=si b
  exact tr fol [4] (kAo e d [(62,.bool false)]) (ac (gw u) az)
 refine ihB h (fun a2 h=>?_) (fun a2 h=>?_)
 ·refine sh fol [(2,.i 1)] ?_
  refine Goes.ret ?_
  obtain rfl:=si h
  exact(gw2 [.i 1] (Ua tI))
 refine Goes.skip ?_
 refine sq ?_
 refine sq ?_
 obtain⟨a3,j,h⟩:=bnd h
 refine Goes.cut (s':=(ofG 96 (kAo e d [(72,.bool a3)]),[])) ?_ ?_
 ·rcases wyD j with⟨F,j⟩|⟨F,j⟩
  ·obtain rfl:=si j
   exact tr fol [2] (kAo e d [(72,.bool true)]) (ac (gw F) az)
  obtain rfl:=si j
  exact tr fol [2] (kAo e d [(72,.bool (decide ((w64 ((w64 ((e.length:Int)-d))-1))>600)))]) (ac (gw F) az)
 refine ihB h (fun a4 h=>?_) (fun a4 h=>?_)
 ·refine sh fol [(2,.i 4)] ?_
  refine Goes.ret ?_
  obtain rfl:=si h
  exact(gw2 [.i 4] (Ua tI))
 refine Goes.skip ?_
 refine sq ?_
 refine sh fol [(3,.str e),(76,.bool (decide (d<(e.length:Int))))] ?_
 obtain⟨V,g33,h⟩:=bnd h
 refine Goes.imp (Q:=fun x s'=>(x= .normal/\(.inl ())=V/\Sub s' (ofG 96 [],[]))\/(x= .ret/\ ∃X,(.inr X)=V/\zU ZT [.tmp 2] (.i X) .ret s')) ?_ ?_
 ·refine ihD g33 (fun a5 g33=>?_) (fun a5 g33=>?_)
  ·obtain⟨k,G,g33⟩:=bnd g33
   refine sq (gq fol [1] [(5,.ptr 0 0),(6,.ptr 1 0)] (kAE k.1.neg k.1.w (kAE k.2.neg k.2.w [])) (ac (cv (qeU N e G)) az) ?_)
   obtain⟨a6,H,g33⟩:=bnd g33
   refine sq (gr fol [4] [(7,vl encI a6)] (ac (cv (qen N k.1.w k.2.w H)) az) ?_)
   refine sq ?_
   obtain⟨a7,f,g33⟩:=bnd g33
   refine Goes.cut (s':=(ofG 96 [(95,.bool a7)],(kAE k.1.neg k.1.w (kAE k.2.neg k.2.w [])))) ?_ ?_
   ·rcases wyB f with⟨I,f⟩|⟨I,f⟩
    ·obtain rfl:=si f
     exact tr fol [3] [(95,.bool true)] (ac (gw I) az)
    obtain⟨a8,y,f⟩:=bnd f
    obtain rfl:=si f
    exact tr fol [3,5,6] [(95,.bool (!decide (a8=1)))] (ac (gw I) (ac (iv zy encI y) (ac (lv 0 ce3 encI y rfl) az)))
   refine ihB g33 (fun a9 g33=>?_) (fun a9 g33=>?_)
   ·refine sh fol [(2,.i 1)] ?_
    refine Goes.ret ?_
    obtain rfl:=si g33
    exact Or.inr (⟨rfl,_,rfl,(gw2 [.i 1] (Ua tI))⟩)
   refine Goes.skip ?_
   obtain rfl:=si g33
   exact Or.inl (⟨rfl,rfl,(Sub.norm [] [] rfl rfl .nil .nil)⟩)
  refine Goes.skip ?_
  obtain rfl:=si g33
  exact Or.inl (⟨rfl,rfl,(Sub.keep [] rfl rfl)⟩)
 rintro x s' (⟨rfl,rfl,hsub⟩|⟨rfl,q43,rfl,hret⟩)
 ·try dsimp only at h
  refine Goes.sub hsub ?_
  refine sh fol [(2,.i 0)] ?_
  refine Goes.ret ?_
  obtain rfl:=si h
  exact(gw2 [.i 0] (Ua tI))
 try dsimp only at h
 obtain rfl:=si h
 exact hret
def jN (a:List Int) (d:Int):Nat->(List Int)->Int->Option (List Int)
 |0,_,_=>none
 |K+1,c,b=>
  if b<(a.length:Int)then
  (idx a b).bind fun e=>
  (xk .i64 (w64 (b+d)) (a.length:Int)).bind fun f=>
  (idx a f).bind fun g=>
  (idx c e).bind fun i=>
  (put c e g).bind fun h=>
  jN a d K h (w64 (b+1))
  else
  some c
def jP (N:Nat) (k:Int) (b:List (List Int)):Nat->(List Int)->Int->Option (List Int)
 |0,_,_=>none
 |K+1,g,c=>
  if c<(b.length:Int)then
  (idx b c).bind fun a=>
  (xk .i64 k (a.length:Int)).bind fun d=>
  (xk .i64 (w64 (d+(a.length:Int))) (a.length:Int)).bind fun e=>
  (jN a e N g 0).bind fun f=>
  jP N k b K f (w64 (c+1))
  else
  some g
def yh (N:Nat) (p:List Int) (k:Int):Option ((List Int)×Int):=
 (qO N p).bind fun a=>
 if(!decide (a=0))=true then
 some ([],a)
 else
 (mk 8 (p.length:Int) 0).bind fun b=>
 (kr N p).bind fun c=>
 (jP N k c N b 0).bind fun d=>
 some (d,0)
theorem qaB (N:Nat) (p:List Int) (k:Int) {res:(List Int)×Int} (h:yh N p k=some res):qc ZT (.fn 28) [vl encI p,.i k] [] (.tuple [vl encI res.1,.i res.2]) []:=by
 unfold yh at h
 refine Ub Tryz.func28 rfl rfl (m:=60) rfl (rs:=[.tmp 4,.tmp 5]) rfl (l:=(kS p [(1,.i k)])) rfl ?_
 refine sh fol (kS p [(1,.i k)]) ?_
 refine sq ?_
 obtain⟨G,H,h⟩:=bnd h
 refine sq (gr fol [1] (kS p [(1,.i k),(6,.i G)]) (ac (cv (zZ N p H)) az) ?_)
 refine sh fol (kS p [(1,.i k),(6,.i G),(16,.bool (!decide (G=0)))]) ?_
 refine ihB h (fun Y h=>?_) (fun Y h=>?_)
 ·refine sh fol ((4,.nilslice)::(kA0 G)) ?_
  refine Goes.ret ?_
  obtain rfl:=si h
  exact(gw2 [.nilslice,.i G] (FzW.tuple (qg.cons (FzW.nilv (E:=encI)) (qg.cons (Ua tI) qg.nil))))
 refine Goes.skip ?_
 obtain⟨w,I,h⟩:=bnd h
 refine sq (gq fol [2] (kS p ((1,.i k)::(kAq w []))) (kB w []) (ac (hs (.run [] (zt ZT 40 (.i (p.length:Int)) (.i (p.length:Int))) [] (.slice 0 0 w.length w.length 1) (kB w []) false) (qaA zy (E:=encI) (z:=0) rfl (by kernel_rfl) I rfl)) az) ?_)
 refine sq ?_
 obtain⟨b,J,h⟩:=bnd h
 refine sq (gq fol [1] (kAD k w b (b.length:Int) [(24,.i 0)]) (kB w [.cells (b.flatMap (qf encI).c)]) (ac (hs (.callH 65 [vl encI p] (kB w []) [] (.gslice 1 b.length 1) (kB w [.cells (b.flatMap (qf encI).c)])) (qaS [] [none,some 0] (xc N p J) .nil rfl rfl (.old rfl rfl (.new rfl rfl (.same fa) rfl .nil)) (rc (.same (qd encI _)) rn) (.gslice rfl) rfl)) az) ?_)
 refine Goes.block ?_
 obtain⟨X,g9,h⟩:=bnd h
 refine Goes.imp (Q:=fun x s'=>(x= .exit 0/\ ∃B,B=X/\Sub s' (ofG 60 (kAq B []),(kB B [])))) ?_ ?_
 ·refine Uc (fun M s=> ∃(v:List Int) (g:Int),s=(ofG 60 (kAD k v b (b.length:Int) [(24,.i g)]),(kB v [.cells (b.flatMap (qf encI).c)]))/\jP N k b M v g=some X) ?_ (m:=N) ⟨_,_,rfl,g9⟩
  rintro M s ⟨v,g,rfl,g9⟩
  cases M with
  |zero=>simp only[jP]at g9;cases g9
  |succ M=>
   rw[jP]at g9
   refine sh fol (kAD k v b (b.length:Int) [(24,.i g),(25,.bool (decide (g<(b.length:Int))))]) ?_
   refine sq ?_
   refine ihD g9 (fun P g9=>?_) (fun P g9=>?_)
   ·refine Goes.skip ?_
    refine sq (Goes.block ?_)
    obtain⟨a,o,g9⟩:=bnd g9
    refine sq (gr fol [0,1] ((1,.i k)::(kAq v [(9,vl encI a),(22,.gslice 1 b.length 1),(23,.i (b.length:Int)),(24,.i g)])) (ac (hs (.done (.opt (qb ZT 61 (.gslice 1 b.length 1) (.i g))) (.ptr 1 ((g:Int).toNat*1+0))) (ql2 vW o)) (ac (hs (.run [1] (zJ ZT 40 (.ptr 1 ((g:Int).toNat*1+0))) (kB v [.cells (b.flatMap (qf encI).c)]) (vl encI a) (kB v [.cells (b.flatMap (qf encI).c)]) false) (qaC yn (E:=(qf encI)) (l:=b) rfl rfl o (nl rfl) rfl)) az)) ?_)
    obtain⟨K,C,g9⟩:=bnd g9
    obtain⟨d,D,g9⟩:=bnd g9
    refine sq (gr fol [3,9] ((1,.i k)::(kAq v [(9,vl encI a),(10,.i d),(22,.gslice 1 b.length 1),(23,.i (b.length:Int)),(24,.i g)])) (ac (hs (.done (.opt (zb ZT .rem 3 (.tmp 28) (.tmp 30) (.i k) (.i (a.length:Int)))) (.i K)) (qan C)) (ac (hs (.done (.opt (zb ZT .rem 3 (.tmp 34) (.tmp 36) (.i (w64 (K+(a.length:Int)))) (.i (a.length:Int)))) (.i d)) (qan D)) az)) ?_)
    refine sh fol (kL k v a d b (b.length:Int) g (a.length:Int) [(40,.i 0)]) ?_
    refine Goes.block ?_
    obtain⟨L,g17,g9⟩:=bnd g9
    refine Goes.imp (Q:=fun x s'=>(x= .exit 2/\ ∃n,n=L/\Sub s' (ofG 60 (kAD k n b (b.length:Int) [(24,.i g)]),(kB n [.cells (b.flatMap (qf encI).c)])))) ?_ ?_
    ·refine Uc (fun M s=> ∃(f:List Int) (e:Int),s=(ofG 60 (kL k f a d b (b.length:Int) g (a.length:Int) [(40,.i e)]),(kB f [.cells (b.flatMap (qf encI).c)]))/\jN a d M f e=some L) ?_ (m:=N) ⟨_,_,rfl,g17⟩
     rintro M s ⟨f,e,rfl,g17⟩
     cases M with
     |zero=>simp only[jN]at g17;cases g17
     |succ M=>
      rw[jN]at g17
      refine sh fol (kL k f a d b (b.length:Int) g (a.length:Int) [(40,.i e),(41,.bool (decide (e<(a.length:Int))))]) ?_
      refine sq ?_
      refine ihD g17 (fun U g17=>?_) (fun U g17=>?_)
      ·refine Goes.skip ?_
       refine sq (Goes.block ?_)
       obtain⟨A,q,g17⟩:=bnd g17
       refine sq (gr fol [1,2] ((1,.i k)::(kAq f [(9,vl encI a),(10,.i d),(11,.i e),(12,.i A),(22,.gslice 1 b.length 1),(23,.i (b.length:Int)),(24,.i g),(38,vl encI a),(39,.i (a.length:Int)),(40,.i e)])) (ac (iv zy encI q) (ac (lv 0 ce3 encI q rfl) az)) ?_)
       obtain⟨V,F,g17⟩:=bnd g17
       obtain⟨O,r,g17⟩:=bnd g17
       obtain⟨Z,t,g17⟩:=bnd g17
       obtain⟨j,u,g17⟩:=bnd g17
       refine gq fol [8,9,10,11,12] (kL k f a d b (b.length:Int) g (a.length:Int) [(40,.i e)]) (kB j [.cells (b.flatMap (qf encI).c)]) (ac (hs (.done (.opt (zb ZT .rem 3 (.tmp 50) (.tmp 52) (.i (w64 (e+d))) (.i (a.length:Int)))) (.i V)) (qan F)) (ac (iv zy encI r) (ac (lv 0 ce3 encI r rfl) (ac (hs (.done (.opt (qb ZT 40 (.slice 0 0 f.length f.length 1) (.i A))) (.ptr 0 ((A:Int).toNat*1+0))) (vZ zy t)) (ac (hs (.run [0] (qx ZT 3 (.ptr 0 ((A:Int).toNat*1+0)) (.i O)) (kB f [.cells (b.flatMap (qf encI).c)]) .undef (kB j [.cells (b.flatMap (qf encI).c)]) true) (yc (E:=encI) (l:=f) (y:=O) rfl (show _=some 1 by kernel_rfl) rfl t rfl rfl rfl rfl rfl u rfl)) az))))) ?_
       refine Goes.sub (show Sub (ofG 60 (kL k f a d b (b.length:Int) g (a.length:Int) [(40,.i e)]),(kB j [.cells (b.flatMap (qf encI).c)])) (ofG 60 (kL k j a d b (b.length:Int) g (a.length:Int) [(40,.i e)]),(kB j [.cells (b.flatMap (qf encI).c)]))from(Sub.norm [] [some 0,some 1] rfl rfl (.keep (.same nI) (.keep (.sliceE rfl (jg u)) (.keep (.same (qd encI _)) (.keep (.same nI) (.keep (.gslice rfl) (.keep (.same nI) (.keep (.same nI) (.keep (.same (qd encI _)) (.keep (.same nI) (.keep (.same nI) .nil)))))))))) (.ks (.ks .nil)))) ?_
       refine gh fol (kL k j a d b (b.length:Int) g (a.length:Int) [(40,.i (w64 (e+1)))]) ?_
       exact⟨M,(ofG 60 (kL k j a d b (b.length:Int) g (a.length:Int) [(40,.i (w64 (e+1)))]),(kB j [.cells (b.flatMap (qf encI).c)])),Nat.lt_succ_self _,(Sub.refl _),_,_,rfl,g17⟩
      refine Goes.exit ?_
      obtain rfl:=si g17
      exact⟨rfl,_,rfl,(Sub.keep [1,7,22,23,24] rfl rfl)⟩
    rintro x s' ⟨rfl,n,rfl,hsub⟩
    refine Goes.sub hsub ?_
    refine gh fol (kAD k n b (b.length:Int) [(24,.i (w64 (g+1)))]) ?_
    exact⟨M,(ofG 60 (kAD k n b (b.length:Int) [(24,.i (w64 (g+1)))]),(kB n [.cells (b.flatMap (qf encI).c)])),Nat.lt_succ_self _,(Sub.refl _),_,_,rfl,g9⟩
   refine Goes.exit ?_
   obtain rfl:=si g9
   exact⟨rfl,_,rfl,(Sub.norm [] [some 0] rfl rfl (.drop (.keep (.slice rfl) .nil)) (.ks .nil))⟩
 rintro x s' ⟨rfl,B,rfl,hsub⟩
 refine Goes.sub hsub ?_
 refine sh fol [(4,.slice 0 0 B.length B.length 1),(5,.i 0)] ?_
 refine Goes.ret ?_
 obtain rfl:=si h
 exact(gw2 [.slice 0 0 B.length B.length 1,.i 0] (FzW.tuple (qg.cons (FzW.fz (Fz.sl (E:=encI) rfl rfl (nl rfl))) (qg.cons (Ua tI) qg.nil))))
def zT (n:Int):Nat->(List Int)->Int->Option (List Int)
 |0,_,_=>none
 |K+1,b,a=>
  if a<n then
  (app 8 b [a]).bind fun c=>
  zT n K c (w64 (a+1))
  else
  some b
def yQ (N:Nat) (n:Int):Option (List Int):=
 (zT n N ([]:List Int) 0).bind fun a=>
 some a
theorem qdw (N:Nat) (n:Int) {res:List Int} (h:yQ N n=some res):qc ZT (.fn 29) [.i n] [] (vl encI res) []:=by
 unfold yQ at h
 refine Ub Tryz.func29 rfl rfl (m:=15) rfl (rs:=[.tmp 2]) rfl (l:=[(0,.i n)]) rfl ?_
 refine sh fol [(0,.i n)] ?_
 refine sh fol [(0,.i n),(3,.nilslice)] ?_
 refine sq ?_
 refine sh fol [(0,.i n),(3,.nilslice),(4,.i 0)] ?_
 refine Goes.block ?_
 obtain⟨f,g4,h⟩:=bnd h
 refine Goes.imp (Q:=fun x s'=>(x= .exit 0/\ ∃d,d=f/\Sub s' (ofG 15 [(3,.gslice 0 d.length 1)],(kB d [])))) ?_ ?_
 ·refine Goes.sub (s':=(ofG 15 [(0,.i n),(3,.gslice 0 ([]:List Int).length 1),(4,.i 0)],kAm)) (Sub.norm [] [none] rfl rfl (.keep (.same nI) (.keep .nil (.keep (.same nI) .nil))) (.fresh .nil)) ?_
  refine Uc (fun M s=> ∃(b:List Int) (a:Int),s=(ofG 15 [(0,.i n),(3,.gslice 0 b.length 1),(4,.i a)],(kB b []))/\zT n M b a=some f) ?_ (m:=N) ⟨_,_,rfl,g4⟩
  rintro M s ⟨b,a,rfl,g4⟩
  cases M with
  |zero=>simp only[zT]at g4;cases g4
  |succ M=>
   rw[zT]at g4
   refine sq ?_
   refine sh fol [(0,.i n),(3,.gslice 0 b.length 1),(4,.i a),(7,.bool (decide (a<n)))] ?_
   refine ihD g4 (fun g g4=>?_) (fun g g4=>?_)
   ·refine Goes.skip ?_
    refine sq (Goes.block ?_)
    obtain⟨c,e,g4⟩:=bnd g4
    refine gq fol [3] [(0,.i n),(3,.gslice 2 c.length 1),(4,.i a)] (kAf a (kB c [])) (ac (hs (.run [0,1] (vI ZT [40,40] (.gslice 0 b.length 1) (.slice 1 0 1 1 1)) (kB b (kA2 a)) (.gslice 2 c.length 1) (kAf a (kB c [])) true) (qal zy (E:=encI) rfl (qdC (E:=encI) (ys:=[a]) rfl rfl rfl rfl) (qfk (E:=encI) (l:=b) rfl rfl rfl e rfl))) az) ?_
    refine gh fol [(0,.i n),(3,.gslice 2 c.length 1),(4,.i (w64 (a+1)))] ?_
    exact⟨M,(ofG 15 [(0,.i n),(3,.gslice 0 c.length 1),(4,.i (w64 (a+1)))],(kB c [])),Nat.lt_succ_self _,(Sub.norm [] [some 2] rfl rfl (.keep (.same nI) (.keep (.gslice rfl) (.keep (.same nI) .nil))) (.ks .nil)),_,_,rfl,g4⟩
   refine Goes.exit ?_
   obtain rfl:=si g4
   exact⟨rfl,_,rfl,(Sub.keep [3] rfl rfl)⟩
 rintro x s' ⟨rfl,d,rfl,hsub⟩
 refine Goes.sub hsub ?_
 refine sh fol [(2,.gslice 0 d.length 1)] ?_
 refine Goes.ret ?_
 obtain rfl:=si h
 exact(gw2 [.gslice 0 d.length 1] (FzW.fz (Fz.gs (E:=encI) rfl rfl (nl rfl))))
def strings_HasPrefix (b:Str) (a:Str):Option Bool:=
 (stringslite_HasPrefix b a).bind fun c=>
 some c
end Go.Av
