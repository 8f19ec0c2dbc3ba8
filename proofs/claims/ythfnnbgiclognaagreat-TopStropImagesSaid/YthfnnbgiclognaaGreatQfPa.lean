/-
  Words in a free group: letters that are opposite and neighbours are taken out.
-/
import Derived.Test.YthfnnbgiclognaaGreatAvPt
import Derived.Test.YthfnnbgiclognaaGreatQGenI
noncomputable section
set_option linter.unusedVariables false
set_option linter.unusedSimpArgs false
set_option maxRecDepth 100000
section
namespace Go.Av
def vC (s:List Int) (x:Int):List Int:=match s with
 |[]=>[x]
 |y::t=>if y= -x then t else x::y::t
theorem qc0 (x:Int):vC [] x=[x]:=rfl
theorem yY {x y:Int} (t:List Int) (h:y= -x):vC (y::t) x=t:=if_pos h
theorem yN {x y:Int} (t:List Int) (h: ¬y= -x):vC (y::t) x=x::y::t:=if_neg h
def fact (s w:List Int):List Int:=w.foldl vC s
def fred (w:List Int):List Int:=(fact [] w).reverse
def qN (w:List Int):List Int:=(w.map fun x=> -x).reverse
def jN:List Int->Prop
 |[]=>True
 |x::t=>x≠0/\(∀y∈t.head?,y≠ -x)/\jN t
def Nz (w:List Int):Prop:= ∀x∈w,x≠0
theorem Nz.app {u v:List Int} (h:Nz u) (k:Nz v):Nz (u++v):=fun x hx=>(List.mem_append.1 hx).elim (h x) (k x)
theorem Nz.left {u v:List Int} (h:Nz (u++v)):Nz u:=fun x hx=>h x (List.mem_append_left _ hx)
theorem Nz.right {u v:List Int} (h:Nz (u++v)):Nz v:=fun x hx=>h x (List.mem_append_right _ hx)
theorem Nz.inv {u:List Int} (h:Nz u):Nz (qN u):=fun x hx=>by
 simp only[qN,List.mem_reverse,List.mem_map]at hx
 obtain⟨y,hy,rfl⟩:=hx
 have:=h y hy
 omega
theorem qcL:qN []=[]:=rfl
theorem qgF (u v:List Int):qN (u++v)=qN v++qN u:=by simp[qN]
theorem qgz (x:Int):qN [x]=[-x]:=rfl
theorem vT (x:Int) (u:List Int):qN (x::u)=qN u++[-x]:=by simp[qN]
theorem qbA (u:List Int):qN (qN u)=u:=by simp[qN,List.map_reverse,Function.comp_def]
theorem jh (u:List Int):(qN u).length=u.length:=by simp[qN]
theorem j3 (s u v:List Int):fact s (u++v)=fact (fact s u) v:=by simp[fact]
theorem yj (s:List Int) (x:Int):fact s [x]=vC s x:=rfl
theorem qfI (s:List Int) (x:Int) (w:List Int):fact s (x::w)=fact (vC s x) w:=rfl
theorem qf1 {s:List Int} {x:Int} (h:jN s) (hx:x≠0):jN (vC s x):=by
 cases s with
 |nil=>exact⟨hx,by simp,trivial⟩
 |cons y t=>
  unfold vC
  dsimp only
  split
  ·exact h.2.2
  rename_i n
  exact⟨hx,by intro z hz;simp at hz;subst hz;exact n,h⟩
theorem qcj {s w:List Int} (h:jN s) (hw:Nz w):jN (fact s w):=by
 induction w generalizing s with
 |nil=>exact h
 |cons x w ih=>exact ih (qf1 h (hw x (List.mem_cons_self ..))) (fun y hy=>hw y (List.mem_cons_of_mem _ hy))
theorem qcE {s:List Int} {x:Int} (h:jN s) (hx:x≠0):vC (vC s x) (-x)=s:=by
 cases s with
 |nil=>rw[qc0,yY _ (by omega)]
 |cons y t=>
  by_cases n:y= -x
  ·rw[yY t n]
   cases t with
   |nil=>rw[qc0,n]
   |cons z t=>
    have:=h.2.1 z (by simp)
    rw[yN _ (by omega),n]
  rw[yN t n,yY _ (by omega)]
theorem qgj {s w:List Int} {x:Int} (h:x∈fact s w):x∈s\/x∈w:=by
 induction w generalizing s with
 |nil=>exact .inl h
 |cons y w ih=>
  rcases ih h with h|h
  ·cases s with
   |nil=>simp[vC]at h;exact .inr (by simp[h])
   |cons z t=>
    unfold vC at h
    dsimp only at h
    split at h
    ·exact .inl (List.mem_cons_of_mem _ h)
    rcases List.mem_cons.1 h with h|h
    ·exact .inr (by simp[h])
    exact .inl h
  exact .inr (List.mem_cons_of_mem _ h)
theorem qcF {w:List Int} {x:Int} (h:x∈fred w):x∈w:=by
 rcases qgj (List.mem_reverse.1 h)with h|h
 ·cases h
 exact h
theorem qbT {w:List Int} (h:Nz w):Nz (fred w):=fun x hx=>h x (qcF hx)
theorem qb9 (s w:List Int):(fact s w).length<=s.length+w.length:=by
 induction w generalizing s with
 |nil=>simp[fact]
 |cons x w ih=>
  have:=ih (vC s x)
  have h:(vC s x).length<=s.length+1:=by
   cases s with
   |nil=>simp[vC]
   |cons y t=>
    unfold vC
    dsimp only
    split
    ·simp;omega
    simp
  rw[qfI]
  simp only[Yr]
  omega
theorem qek (w:List Int):(fred w).length<=w.length:=by
 have:=qb9 [] w
 simpa[fred]using this
theorem qfV {w:List Int} (hw:Nz w): ∀{s:List Int},jN s->fact s (fred w)=fact s w:=by
 suffices∀(r:List Int),Nz r-> ∀{s:List Int},jN s->fact s (fred r.reverse)=fact s r.reverse by
  intro s hs
  have:=this w.reverse (fun x hx=>hw x (List.mem_reverse.1 hx)) hs
  simpa using this
 intro r
 induction r with
 |nil=>intro _ s _;rfl
 |cons x r ih=>
  intro hr s hs
  have hx:x≠0:=hr x (List.mem_cons_self ..)
  have hr':Nz r:=fun y hy=>hr y (List.mem_cons_of_mem _ hy)
  have hrr:Nz r.reverse:=fun y hy=>hr' y (List.mem_reverse.1 hy)
  have e:=ih hr' hs
  have hR:jN (fact [] r.reverse):=qcj trivial hrr
  rw[List.reverse_cons,j3,<-e,yj]
  have g:fred (r.reverse++[x])=(vC (fact [] r.reverse) x).reverse:=by
   unfold fred
   rw[j3,yj]
  rw[g]
  have f:fred r.reverse=(fact [] r.reverse).reverse:=rfl
  rw[f]
  cases c:fact [] r.reverse with
  |nil=>rfl
  |cons y t=>
   rw[c]at hR
   by_cases n:y= -x
   ·rw[yY t n,List.reverse_cons,j3,yj]
    have hS:jN (fact s t.reverse):=by
     refine qcj hs (fun z hz=>?_)
     refine qbT hrr z ?_
     rw[f,c,List.reverse_cons]
     exact List.mem_append_left _ hz
    have:=qcE hS (x:= -x) (by omega)
    rw[Int.neg_neg]at this
    rw[n,this]
   rw[yN t n,List.reverse_cons,j3,yj]
end Go.Av
end
section
namespace Go.Av
def Feq (u v:List Int):Prop:= ∀s,jN s->fact s u=fact s v
theorem Feq.rfl_ {u:List Int}:Feq u u:=fun s _=>rfl
theorem Feq.symm {u v:List Int} (h:Feq u v):Feq v u:=fun s hs=>(h s hs).symm
theorem Feq.trans {u v w:List Int} (h:Feq u v) (k:Feq v w):Feq u w:=fun s hs=>(h s hs).trans (k s hs)
theorem Feq.app {u v x y:List Int} (hu:Nz u) (h:Feq u v) (k:Feq x y):Feq (u++x) (v++y):=fun s hs=>by
 rw[j3,j3,<-h s hs,k _ (qcj hs hu)]
theorem Feq.red {u:List Int} (h:Nz u):Feq (fred u) u:=fun s hs=>qfV h hs
theorem Feq.fred {u v:List Int} (h:Feq u v):fred u=fred v:=by
 unfold Go.Av.fred
 rw[h [] trivial]
theorem qfG {s:List Int} (h:jN s):fact [] s.reverse=s:=by
 induction s with
 |nil=>rfl
 |cons x t ih=>
  rw[List.reverse_cons,j3,ih h.2.2,yj]
  cases t with
  |nil=>rfl
  |cons y t=>exact yN _ (h.2.1 y (by simp))
def FR (w:List Int):Prop:=jN w.reverse
theorem FR.fix {w:List Int} (h:FR w):fred w=w:=by
 have:=qfG h
 rw[List.reverse_reverse]at this
 unfold fred
 rw[this,List.reverse_reverse]
theorem Feq.uniq {u v:List Int} (hv:FR v) (h:Feq u v):Go.Av.fred u=v:=by rw[h.fred,hv.fix]
theorem qaG (x:Int) (hx:x≠0):Feq [x,-x] []:=fun s hs=>qcE hs hx
theorem qdQ {u:List Int} (h:Nz u):Feq (u++qN u) []:=by
 induction u with
 |nil=>exact .rfl_
 |cons x u ih=>
  have hx:=h x (List.mem_cons_self ..)
  have hu:Nz u:=fun y hy=>h y (List.mem_cons_of_mem _ hy)
  rw[vT,show x::u++(qN u++[-x])=[x]++((u++qN u)++[-x])by simp]
  refine Feq.trans (Feq.app (fun y hy=>?_) .rfl_ (Feq.app (hu.app hu.inv) (ih hu) .rfl_)) (qaG x hx)
  simp at hy
  omega
theorem qco {u:List Int} (h:Nz u):Feq (qN u++u) []:=by
 have:=qdQ h.inv
 rwa [qbA]at this
def qbs (x:List (List Int)) (g:Int):List Int:=if 0<g then x.getD (g-1).toNat []else qN (x.getD (-g-1).toNat [])
def jM (x:List (List Int)) (w:List Int):List Int:=w.flatMap (qbs x)
theorem vH (x:List (List Int)) (u v:List Int):jM x (u++v)=jM x u++jM x v:=List.flatMap_append
theorem qht (x:List (List Int)):jM x []=[]:=rfl
theorem qau (x:List (List Int)) (g:Int):jM x [g]=qbs x g:=by simp[jM]
theorem qdq (x:List (List Int)) (g:Int) (w:List Int):jM x (g::w)=qbs x g++jM x w:=by simp[jM]
theorem qeu (x:List (List Int)) {g:Int} (h:g≠0):qbs x (-g)=qN (qbs x g):=by
 unfold qbs
 by_cases p:0<g
 ·rw[if_neg (by omega),if_pos p,Int.neg_neg]
 rw[if_pos (by omega),if_neg p,qbA]
theorem qhn (x:List (List Int)) {w:List Int} (h:Nz w):jM x (qN w)=qN (jM x w):=by
 induction w with
 |nil=>rfl
 |cons g w ih=>
  rw[vT,vH,ih (fun y hy=>h y (List.mem_cons_of_mem _ hy)),qau,qeu x (h g (List.mem_cons_self ..)),qdq,qgF]
def Nzs (x:List (List Int)):Prop:= ∀w∈x,Nz w
theorem Nzs.getD {x:List (List Int)} (h:Nzs x) (k:Nat):Nz (x.getD k []):=by
 rw[Yy]
 cases c:x[k]? with
 |none=>intro y hy;simp at hy
 |some w=>exact h w (Yn c)
theorem qfw {x:List (List Int)} (h:Nzs x) (g:Int):Nz (qbs x g):=by
 unfold qbs
 split
 ·exact h.getD _
 exact(h.getD _).inv
theorem yE {x:List (List Int)} (h:Nzs x) (w:List Int):Nz (jM x w):=fun y hy=>by
 simp only[jM,List.mem_flatMap]at hy
 obtain⟨g,_,hg⟩:=hy
 exact qfw h g y hg
theorem qdh {x:List (List Int)} (hx:Nzs x) {w:List Int} (hw:Nz w):Feq (jM x (fred w)) (jM x w):=by
 suffices∀(r:List Int),Nz r->Feq (jM x (fred r.reverse)) (jM x r.reverse)by
  have:=this w.reverse (fun y hy=>hw y (List.mem_reverse.1 hy))
  simpa using this
 intro r
 induction r with
 |nil=>intro _;exact .rfl_
 |cons g r ih=>
  intro hr
  have hg:g≠0:=hr g (List.mem_cons_self ..)
  have hr':Nz r:=fun y hy=>hr y (List.mem_cons_of_mem _ hy)
  have hrr:Nz r.reverse:=fun y hy=>hr' y (List.mem_reverse.1 hy)
  have e:=ih hr'
  have k:fred (r.reverse++[g])=(vC (fact [] r.reverse) g).reverse:=by
   unfold fred
   rw[j3,yj]
  have f:fred r.reverse=(fact [] r.reverse).reverse:=rfl
  rw[List.reverse_cons,k,vH]
  refine Feq.trans ?_ (Feq.app (yE hx _) e .rfl_)
  rw[f]
  cases c:fact [] r.reverse with
  |nil=>exact .rfl_
  |cons y t=>
   by_cases n:y= -g
   ·rw[yY t n,List.reverse_cons,vH,qau,n,qeu x hg,qau,Yz]
    refine Feq.symm ?_
    have:=Feq.app (yE hx t.reverse) .rfl_ (qco (qfw hx g))
    rwa [List.append_nil]at this
   rw[yN t n,List.reverse_cons,vH]
   exact .rfl_
theorem jN.app {s t:List Int}:jN (s++t)↔jN s/\jN t/\ ∀x∈s.getLast?,∀y∈t.head?,y≠ -x:=by
 induction s with
 |nil=>simp[jN]
 |cons a s ih=>
  cases s with
  |nil=>
   simp only[List.singleton_append,jN,List.head?_nil,List.getLast?_singleton]
   constructor
   ·rintro⟨h1,h2,h3⟩
    exact⟨⟨h1,by simp,trivial⟩,h3,fun x hx y hy=>by simp at hx;subst hx;exact h2 y hy⟩
   rintro⟨⟨h1,_,_⟩,h3,h4⟩
   exact⟨h1,fun y hy=>h4 a (by simp) y hy,h3⟩
  |cons b s=>
   have e:(a::b::s).getLast? =(b::s).getLast? :=by simp[List.getLast?_cons_cons]
   rw[List.cons_append,e]
   simp only[jN]at ih⊢
   rw[ih]
   simp only[List.cons_append,List.head?_cons]
   constructor
   ·rintro⟨h1,h2,h3,h4,h5⟩;exact⟨⟨h1,h2,h3⟩,h4,h5⟩
   rintro⟨⟨h1,h2,h3⟩,h4,h5⟩;exact⟨h1,h2,h3,h4,h5⟩
structure qdn (w:List Int) (u:List Int) (g:Int):Prop where
 eq_:w=u++[g]++qN u
 pos:0<g
 red:FR w
end Go.Av
end
section
namespace Go.Av
theorem jN.rev {w:List Int} (h:jN w):jN w.reverse:=by
 induction w with
 |nil=>trivial
 |cons x t ih=>
  rw[List.reverse_cons,jN.app]
  refine⟨ih h.2.2,⟨h.1,by simp,trivial⟩,fun a ha y hy=>?_⟩
  simp only[List.getLast?_reverse]at ha
  simp at hy
  have:=h.2.1 a ha
  omega
theorem FR.of {w:List Int} (h:jN w):FR w:=h.rev
theorem FR.to {w:List Int} (h:FR w):jN w:=by
 have:=jN.rev h
 rwa [List.reverse_reverse]at this
theorem jN.nz {w:List Int} (h:jN w):Nz w:=by
 induction w with
 |nil=>intro x hx;simp at hx
 |cons y t ih=>
  intro x hx
  rcases List.mem_cons.1 hx with e|e
  ·rw[e];exact h.1
  exact ih h.2.2 x e
theorem conj1 {w u:List Int} {g x:Int} (h:qdn w u g) (hx:x≠0): ∃u',Feq ([x]++w++[-x]) (u'++[g]++qN u')/\FR (u'++[g]++qN u'):=by
 have hg:=h.pos
 have nx: ∀{y:Int},y≠0->Nz [y]:=fun hy z hz=>by simp at hz;omega
 have hr:=h.red.to
 have he:=h.eq_
 subst he
 cases u with
 |nil=>
  simp only[qcL,List.nil_append,List.append_nil]at hr⊢
  by_cases e:x=g
  ·subst e
   exact⟨[],by simpa[qcL]using Feq.app (nx hx) (.rfl_ (u:=[x])) (qaG x hx),.of hr⟩
  by_cases e':x= -g
  ·subst e'
   refine⟨[],?_,.of hr⟩
   have:=Feq.app ((nx hx).app (nx (by omega:g≠0))) (by have:=qaG (-g) hx;rwa [Int.neg_neg]at this:Feq ([-g]++[g]) []) (.rfl_ (u:=[g]))
   simpa[qcL]using this
  refine⟨[x],by simpa[qN]using Feq.rfl_,.of ?_⟩
  simp only[qgz,List.singleton_append,List.cons_append,List.nil_append,jN,List.head?_cons,List.head?_nil]
  refine⟨hx,?_,by omega,?_,by omega,by simp,trivial⟩
  ·intro y hy;simp at hy;omega
  intro y hy;simp at hy;omega
 |cons y t=>
  have hy:y≠0:=hr.1
  rw[vT]at hr⊢
  have e1:y::t++[g]++(qN t++[-y])=[y]++((t++[g]++qN t)++[-y]):=by simp
  have hm:jN (t++[g]++qN t):=by
   rw[e1,jN.app]at hr
   exact(jN.app.1 hr.2.1).1
  by_cases e:y= -x
  ·refine⟨t,?_,.of hm⟩
   rw[e1,e,Int.neg_neg]
   have a1:=Feq.app (Nz.app (nx hx) (nx (by omega: -x≠0))) (qaG x hx) (Feq.app hm.nz .rfl_ (qaG x hx))
   simpa using a1
  refine⟨x::y::t,?_,.of ?_⟩
  ·rw[vT,vT]
   simpa using Feq.rfl_
  have e2:x::y::t++[g]++qN (x::y::t)=[x]++(((y::t++[g]++qN t)++[-y])++[-x]):=by simp[vT]
  have e3:y::t++[g]++(qN t++[-y])=((y::t++[g]++qN t)++[-y]):=by simp
  rw[e3]at hr
  rw[e2,jN.app]
  refine⟨⟨hx,by simp,trivial⟩,?_,?_⟩
  ·rw[jN.app]
   refine⟨hr,⟨by omega,by simp,trivial⟩,fun a ha b hb=>?_⟩
   rw[List.getLast?_append,List.getLast?_singleton,Option.some_or]at ha
   simp at ha hb
   omega
  intro a ha b hb
  simp at ha hb
  omega
theorem qh7 {w u:List Int} {g:Int} (h:qdn w u g) {a:List Int} (ha:Nz a): ∃u',qdn (fred (a++w++qN a)) u' g:=by
 suffices∃u',Feq (a++w++qN a) (u'++[g]++qN u')/\FR (u'++[g]++qN u')by
  obtain⟨u',h1,h2⟩:=this
  exact⟨u',h1.uniq h2,h.pos,by rw[h1.uniq h2];exact h2⟩
 induction a with
 |nil=>exact⟨u,by rw[h.eq_];simpa[qN]using Feq.rfl_,by rw[<-h.eq_];exact h.red⟩
 |cons x a ih=>
  have hx:=ha x (List.mem_cons_self ..)
  obtain⟨u1,h1,h2⟩:=ih (fun y hy=>ha y (List.mem_cons_of_mem _ hy))
  obtain⟨u2,h3,h4⟩:=conj1 (x:=x) ⟨rfl,h.pos,h2⟩ hx
  refine⟨u2,?_,h4⟩
  have nx:Nz [x]:=fun z hz=>by simp at hz;omega
  have hn:Nz (a++w++qN a):=by
   have:Nz a:=fun y hy=>ha y (List.mem_cons_of_mem _ hy)
   exact(this.app h.red.to.nz).app this.inv
  have:=(Feq.app (nx.app hn) (Feq.app nx (.rfl_ (u:=[x])) h1) (.rfl_ (u:=[-x]))).trans h3
  rw[vT]
  simpa using this
def je (im:List (List Int)) (c:Int):List (List Int):=
 let i:=c.natAbs-1
 let a:=im.getD i []
 let b:=im.getD (i+1) []
 if 0<c then(im.set i (fred (a++b++qN a))).set (i+1) a else(im.set i b).set (i+1) (fred (qN b++a++b))
theorem xw (im:List (List Int)) (c:Int):(je im c).length=im.length:=by
 unfold je
 dsimp only
 split<;>simp
theorem qhg {im:List (List Int)} {i:Nat} (h:i+1<im.length): ∃p a b q,im=p++a::b::q/\p.length=i:=by
 refine⟨im.take i,im[i],im[i+1],im.drop (i+2),?_,by simp;omega⟩
 rw[<-List.drop_eq_getElem_cons h,<-List.drop_eq_getElem_cons (by omega),List.take_append_drop]
theorem set2 (p:List (List Int)) (a b A B:List Int) (q:List (List Int)):((p++a::b::q).set p.length A).set (p.length+1) B=p++A::B::q:=by
 induction p with
 |nil=>rfl
 |cons x p ih=>
  simp only[List.cons_append,Yr,List.set_cons_succ]
  rw[ih]
theorem qea (p:List (List Int)) (a b:List Int) (q:List (List Int)):(p++a::b::q).getD p.length []=a:=by
 simp[List.getD_eq_getElem?_getD]
theorem qec (p:List (List Int)) (a b:List Int) (q:List (List Int)):(p++a::b::q).getD (p.length+1) []=b:=by
 rw[Yy,Yo (by omega)]
 simp
theorem qet {p:List (List Int)} {a b:List Int} {q:List (List Int)} {c:Int} (h:c.natAbs-1=p.length):
 je (p++a::b::q) c=if 0<c then p++fred (a++b++qN a)::a::q else p++b::fred (qN b++a++b)::q:=by
 unfold je
 dsimp only
 rw[h,qea,qec,set2,set2]
def qai (n:Nat):List Int:=(List.range n).map fun k:Nat=>((k:Nat):Int)+1
def fid (n:Nat):List (List Int):=(List.range n).map fun k:Nat=>[((k:Nat):Int)+1]
theorem vG (n:Nat):(fid n).length=n:=by simp[fid]
theorem qfs {n k:Nat} (h:k<n):(fid n).getD k []=[(k:Int)+1]:=by
 rw[Yy]
 simp[fid,List.getElem?_map,List.getElem?_range h]
structure FOK (n:Nat) (im:List (List Int)) (row:List Int):Prop where
 len:im.length=n
 at_: ∀k,k<n-> ∃(u:List Int) (v:Nat),v<n/\row[k]? =some (v:Int)/\qdn (im.getD k []) u ((v:Int)+1)
 let_: ∀w∈im,∀y∈w,y≠0/\ -(n:Int)<=y/\y<=n
 prod:Feq im.flatten (qai n)
theorem FOK.nz {n:Nat} {im:List (List Int)} {row:List Int} (h:FOK n im row):Nzs im:=fun w hw y hy=>(h.let_ w hw y hy).1
theorem qgg (n:Nat):(fid n).flatten=qai n:=by
 induction n with
 |zero=>rfl
 |succ n ih=>
  unfold fid qai at*
  rw[List.range_succ,List.map_append,List.map_append,List.flatten_append,ih]
  rfl
theorem FOK.start (n:Nat) {row:List Int} (h: ∀k,k<n->row[k]? =some (k:Int)):FOK n (fid n) row:=by
 refine⟨vG n,fun k hk=>⟨[],k,hk,h k hk,?_⟩,fun w hw y hy=>?_,by rw[qgg];exact .rfl_⟩
 ·rw[qfs hk]
  refine⟨rfl,by omega,.of ⟨by omega,by simp,trivial⟩⟩
 simp only[fid,List.mem_map,List.mem_range]at hw
 obtain⟨k,hk,rfl⟩:=hw
 simp at hy
 omega
theorem FOK.step {n:Nat} {im:List (List Int)} {row:List Int} (h:FOK n im row) {c:Int} (hc:c≠0/\ -(n:Int)<c/\c<n) {x y:Int}
 (hx:row[c.natAbs-1]? =some x) (hy:row[c.natAbs]? =some y) (hr:row.length=n):FOK n (je im c) ((row.set (c.natAbs-1) y).set c.natAbs x):=by
 obtain⟨i,hi⟩: ∃i,c.natAbs=i+1:=⟨c.natAbs-1,by omega⟩
 have hin:i+1<n:=by omega
 rw[hi]at hx hy⊢
 rw[Nat.add_sub_cancel]at hx⊢
 obtain⟨p,a,b,q,e,hp⟩:=qhg (im:=im) (i:=i) (by rw[h.len];exact hin)
 have hs:=qet (p:=p) (a:=a) (b:=b) (q:=q) (c:=c) (by omega)
 have h0:=h.at_ i (by omega)
 have h1:=h.at_ (i+1) hin
 have hnz:=h.nz
 subst e hp
 rw[qea]at h0
 rw[qec]at h1
 have ha:Nz a:=hnz a (by simp)
 have hb:Nz b:=hnz b (by simp)
 obtain⟨u0,v0,l0,r0,c0⟩:=h0
 obtain⟨u1,v1,l1,r1,c1⟩:=h1
 have ex:x=(v0:Int):=by rw[hx]at r0;exact Ye r0
 have ey:y=(v1:Int):=by rw[hy]at r1;exact Ye r1
 subst ex ey
 have la:=h.let_ a (by simp)
 have lb:=h.let_ b (by simp)
 have linv: ∀{w:List Int},(∀y∈w,y≠0/\ -(n:Int)<=y/\y<=n)-> ∀y∈qN w,y≠0/\ -(n:Int)<=y/\y<=n:=fun hw y hy=>by
  simp only[qN,List.mem_reverse,List.mem_map]at hy
  obtain⟨z,hz,rfl⟩:=hy
  have:=hw z hz
  omega
 have lapp: ∀{u w:List Int},(∀y∈u,y≠0/\ -(n:Int)<=y/\y<=n)->(∀y∈w,y≠0/\ -(n:Int)<=y/\y<=n)-> ∀y∈u++w,y≠0/\ -(n:Int)<=y/\y<=n:=fun hu hw y hy=>(List.mem_append.1 hy).elim (hu y) (hw y)
 have key: ∃A B,je (p++a::b::q) c=p++A::B::q/\(∃u,qdn A u ((v1:Int)+1))/\(∃u,qdn B u ((v0:Int)+1))/\(∀y∈A,y≠0/\ -(n:Int)<=y/\y<=n)/\(∀y∈B,y≠0/\ -(n:Int)<=y/\y<=n)/\Feq (A++B) (a++b):=by
  rw[hs]
  by_cases hpos:0<c
  ·rw[if_pos hpos]
   refine⟨_,_,rfl,qh7 c1 ha,⟨u0,c0⟩,fun y hy=>lapp (lapp la lb) (linv la) y (qcF hy),la,?_⟩
   have hN:Nz (a++b++qN a):=(ha.app hb).app ha.inv
   refine Feq.trans (Feq.app (qbT hN) (Feq.red hN) .rfl_) ?_
   have:=Feq.app (ha.app hb) (.rfl_ (u:=a++b)) (qco ha)
   simpa using this
  rw[if_neg hpos]
  have cb:=qh7 c0 hb.inv
  rw[qbA]at cb
  refine⟨_,_,rfl,⟨u1,c1⟩,cb,lb,fun y hy=>lapp (lapp (linv lb) la) lb y (qcF hy),?_⟩
  have hN:Nz (qN b++a++b):=(hb.inv.app ha).app hb
  refine Feq.trans (Feq.app hb .rfl_ (Feq.red hN)) ?_
  have:=Feq.app (hb.app hb.inv) (qdQ hb) (.rfl_ (u:=a++b))
  simpa using this
 obtain⟨A,B,e1,cA,cB,lA,lB,hAB⟩:=key
 rw[e1]
 have hlen:(p++A::B::q).length=n:=by
  have:=h.len
  simp at this⊢
  omega
 refine⟨hlen,fun k hk=>?_,fun w hw y hy=>?_,?_⟩
 ·by_cases k0:k=p.length
  ·subst k0
   rw[qea,Yw (by omega),List.getElem?_set_self (by omega)]
   obtain⟨u,hu⟩:=cA
   exact⟨u,v1,l1,rfl,hu⟩
  by_cases k1:k=p.length+1
  ·subst k1
   rw[qec,List.getElem?_set_self (by simp;omega)]
   obtain⟨u,hu⟩:=cB
   exact⟨u,v0,l0,rfl,hu⟩
  rw[Yw (fun e=>k1 e.symm),Yw (fun e=>k0 e.symm)]
  have:=h.at_ k hk
  have e2:(p++A::B::q).getD k []=(p++a::b::q).getD k []:=by
   rw[Yy,Yy]
   rcases Nat.lt_or_ge k p.length with hlt|hge
   ·rw[Yf hlt,Yf hlt]
   obtain⟨j,rfl⟩: ∃j,k=p.length+(j+2):=⟨k-p.length-2,by omega⟩
   rw[Yo (by omega),Yo (by omega),Nat.add_sub_cancel_left]
   rfl
  rw[e2]
  exact this
 ·simp only[List.mem_append,List.mem_cons]at hw
  rcases hw with hw|rfl|rfl|hw
  ·exact h.let_ w (by simp[hw]) y hy
  ·exact lA y hy
  ·exact lB y hy
  exact h.let_ w (by simp[hw]) y hy
 refine Feq.trans ?_ h.prod
 have np:Nz p.flatten:=fun y hy=>by
  obtain⟨w,hw,hyw⟩:=List.mem_flatten.1 hy
  exact hnz w (by simp[hw]) y hyw
 have nA:Nz A:=fun y hy=>(lA y hy).1
 have nB:Nz B:=fun y hy=>(lB y hy).1
 have:=Feq.app np (.rfl_ (u:=p.flatten)) (Feq.app (nA.app nB) hAB (.rfl_ (u:=q.flatten)))
 simpa using this
end Go.Av
end
section
namespace Go.Av
theorem getDo {p:List (List Int)} {a b A B:List Int} {q:List (List Int)} {k:Nat} (h0:k≠p.length) (h1:k≠p.length+1):(p++A::B::q).getD k []=(p++a::b::q).getD k []:=by
 rw[Yy,Yy]
 rcases Nat.lt_or_ge k p.length with hlt|hge
 ·rw[Yf hlt,Yf hlt]
 obtain⟨j,rfl⟩: ∃j,k=p.length+(j+2):=⟨k-p.length-2,by omega⟩
 rw[Yo (by omega),Yo (by omega),Nat.add_sub_cancel_left]
 rfl
theorem qaM {im:List (List Int)} {c:Int} {i:Nat} (hi:c.natAbs=i+1) (hl:i+1<im.length) (k:Nat):
 (je im c).getD k []=if k=i then(if 0<c then fred (im.getD i []++im.getD (i+1) []++qN (im.getD i []))else im.getD (i+1) [])
  else if k=i+1 then(if 0<c then im.getD i []else fred (qN (im.getD (i+1) [])++im.getD i []++im.getD (i+1) []))else im.getD k []:=by
 obtain⟨p,a,b,q,e,hp⟩:=qhg (im:=im) (i:=i) hl
 subst e hp
 rw[qet (by omega),qea,qec]
 by_cases k0:k=p.length
 ·rw[if_pos k0,k0]
  split<;>rw[qea]
 rw[if_neg k0]
 by_cases k1:k=p.length+1
 ·rw[if_pos k1,k1]
  split<;>rw[qec]
 rw[if_neg k1]
 split<;>exact getDo k0 k1
theorem qb6 {im:List (List Int)} (h:Nzs im) {c:Int} {i:Nat} (hi:c.natAbs=i+1) (hl:i+1<im.length):Nzs (je im c):=by
 intro w hw
 obtain⟨k,hk,rfl⟩:=List.getElem_of_mem hw
 have e:(je im c)[k]=(je im c).getD k []:=by rw[Yy,Ya hk];rfl
 rw[e,qaM hi hl]
 have ha:=h.getD i
 have hb:=h.getD (i+1)
 split
 ·split
  ·exact qbT ((ha.app hb).app ha.inv)
  exact hb
 split
 ·split
  ·exact ha
  exact qbT ((hb.inv.app ha).app hb)
 exact h.getD k
structure qcS (n:Nat) (x Y Z:List (List Int)):Prop where
 yl:Y.length=n
 zl:Z.length=n
 yn:Nzs Y
 zn:Nzs Z
 eq_: ∀k,k<n->Feq (jM x (Y.getD k [])) (Z.getD k [])
theorem qcS.step {n:Nat} {x Y Z:List (List Int)} (hx:Nzs x) (h:qcS n x Y Z) {c:Int} (hc:c≠0/\ -(n:Int)<c/\c<n):qcS n x (je Y c) (je Z c):=by
 obtain⟨i,hi⟩: ∃i,c.natAbs=i+1:=⟨c.natAbs-1,by omega⟩
 have hin:i+1<n:=by omega
 have yl:=h.yl
 have zl:=h.zl
 refine⟨by rw[xw,yl],by rw[xw,zl],qb6 h.yn hi (by omega),qb6 h.zn hi (by omega),fun k hk=>?_⟩
 rw[qaM hi (by omega),qaM hi (by omega)]
 have ya:=h.yn.getD i
 have yb:=h.yn.getD (i+1)
 have za:=h.zn.getD i
 have zb:=h.zn.getD (i+1)
 have ea:=h.eq_ i (by omega)
 have eb:=h.eq_ (i+1) hin
 have inv: ∀{y z:List Int},Nz y->Nz z->Feq (jM x y) z->Feq (jM x (qN y)) (qN z):=fun {y z} hy hz e=>by
  rw[qhn x hy]
  have hs:=yE hx y
  have t1:Feq (qN (jM x y)) (qN (jM x y)++(z++qN z)):=by
   have:=(Feq.app hs.inv .rfl_ (qdQ hz)).symm
   simpa using this
  have t2:Feq (qN (jM x y)++(z++qN z)) (qN (jM x y)++(jM x y++qN z)):=Feq.app hs.inv .rfl_ (Feq.app hz e.symm .rfl_)
  have t3:Feq (qN (jM x y)++(jM x y++qN z)) (qN z):=by
   have:=Feq.app (hs.inv.app hs) (qco hs) (.rfl_ (u:=qN z))
   simpa using this
  exact(t1.trans t2).trans t3
 by_cases k0:k=i
 ·rw[if_pos k0,if_pos k0]
  by_cases hp:0<c
  ·rw[if_pos hp,if_pos hp]
   have hN:=(ya.app yb).app ya.inv
   have hM:=(za.app zb).app za.inv
   refine(qdh hx hN).trans (Feq.trans ?_ (Feq.red hM).symm)
   rw[vH,vH]
   exact Feq.app ((yE hx _).app (yE hx _)) (Feq.app (yE hx _) ea eb) (inv ya za ea)
  rw[if_neg hp,if_neg hp]
  exact eb
 rw[if_neg k0,if_neg k0]
 by_cases k1:k=i+1
 ·rw[if_pos k1,if_pos k1]
  by_cases hp:0<c
  ·rw[if_pos hp,if_pos hp]
   exact ea
  rw[if_neg hp,if_neg hp]
  have hN:=(yb.inv.app ya).app yb
  have hM:=(zb.inv.app za).app zb
  refine(qdh hx hN).trans (Feq.trans ?_ (Feq.red hM).symm)
  rw[vH,vH]
  exact Feq.app ((yE hx _).app (yE hx _)) (Feq.app (yE hx _) (inv yb zb eb) ea) eb
 rw[if_neg k1,if_neg k1]
 exact h.eq_ k hk
def yz (n:Nat) (w:List Int):List (List Int):=w.foldl je (fid n)
theorem qfN (n:Nat) (a b:List Int):yz n (a++b)=b.foldl je (yz n a):=by simp[yz]
theorem qg5 (n:Nat):Nzs (fid n):=fun w hw y hy=>by
 simp only[fid,List.mem_map,List.mem_range]at hw
 obtain⟨k,hk,rfl⟩:=hw
 simp at hy
 omega
def qfS (n:Nat) (w:List Int):Prop:= ∀c∈w,c≠0/\ -(n:Int)<c/\c<n
theorem qcS.fold {n:Nat} {x:List (List Int)} (hx:Nzs x): ∀{w:List Int} {Y Z:List (List Int)},qfS n w->qcS n x Y Z->qcS n x (w.foldl je Y) (w.foldl je Z)
 |[],Y,Z,hw,h=>h
 |c::w,Y,Z,hw,h=>by
  rw[List.foldl_cons,List.foldl_cons]
  exact qcS.fold hx (w:=w) (fun d hd=>hw d (List.mem_cons_of_mem _ hd)) (h.step hx (hw c (List.mem_cons_self ..)))
theorem xy (n:Nat): ∀(w:List Int) (im:List (List Int)),(w.foldl je im).length=im.length
 |[],im=>rfl
 |c::w,im=>by rw[List.foldl_cons,xy n w,xw]
theorem qfb {n:Nat}: ∀{w:List Int} {im:List (List Int)},qfS n w->im.length=n->Nzs im->Nzs (w.foldl je im)
 |[],im,hw,hl,h=>h
 |c::w,im,hw,hl,h=>by
  have hc:=hw c (List.mem_cons_self ..)
  obtain⟨i,hi⟩: ∃i,c.natAbs=i+1:=⟨c.natAbs-1,by omega⟩
  rw[List.foldl_cons]
  exact qfb (w:=w) (fun d hd=>hw d (List.mem_cons_of_mem _ hd)) (by rw[xw,hl]) (qb6 h hi (by omega))
theorem qfR {n:Nat} {a b:List Int} (ha:qfS n a) (hb:qfS n b):qcS n (yz n a) (yz n b) (yz n (a++b)):=by
 rw[qfN]
 have hn:=qfb ha (vG n) (qg5 n)
 have hl:(yz n a).length=n:=by unfold yz;rw[xy n,vG]
 refine qcS.fold hn hb ⟨vG n,hl,qg5 n,hn,fun k hk=>?_⟩
 rw[qfs hk,qau]
 unfold qbs
 rw[if_pos (by omega),show(((k:Int)+1)-1).toNat=k by omega]
 exact .rfl_
theorem qcw {im:List (List Int)} {M:Nat} (h: ∀w∈im,w.length<=M) {c:Int} {i:Nat} (hi:c.natAbs=i+1) (hl:i+1<im.length): ∀w∈je im c,w.length<=3*M:=by
 have g: ∀k,(im.getD k []).length<=M:=fun k=>by
  rw[Yy]
  cases e:im[k]? with
  |none=>simp
  |some w=>exact h w (Yn e)
 intro w hw
 obtain⟨k,hk,rfl⟩:=List.getElem_of_mem hw
 have e:(je im c)[k]=(je im c).getD k []:=by rw[Yy,Ya hk];rfl
 rw[e,qaM hi hl]
 have g0:=g i
 have g1:=g (i+1)
 have gk:=g k
 split
 ·split
  ·refine Nat.le_trans (qek _) ?_
   rw[Yq,Yq,jh]
   omega
  omega
 split
 ·split
  ·omega
  refine Nat.le_trans (qek _) ?_
  rw[Yq,Yq,jh]
  omega
 omega
theorem qbF {n:Nat}: ∀{w:List Int} {im:List (List Int)} {M:Nat},qfS n w->im.length=n->(∀v∈im,v.length<=M)-> ∀v∈w.foldl je im,v.length<=3^w.length*M
 |[],im,M,hw,hl,h=>by simpa using h
 |c::w,im,M,hw,hl,h=>by
  have hc:=hw c (List.mem_cons_self ..)
  obtain⟨i,hi⟩: ∃i,c.natAbs=i+1:=⟨c.natAbs-1,by omega⟩
  have:=qbF (w:=w) (fun d hd=>hw d (List.mem_cons_of_mem _ hd)) (by rw[xw,hl]) (qcw h hi (by omega))
  intro v hv
  have:=this v hv
  rw[Yr,Nat.pow_succ,Nat.mul_assoc]
  exact this
end Go.Av
end
section
namespace Go.Av
def yA (n c:Int):Bool:=decide (c≠0)&&decide (-n<c)&&decide (c<n)
def qaf (n:Int) (w:List Int):Int:=if n<1\/12<n then 3 else if 200<w.length then 5 else if w.all (yA n)=true then 0 else 3
theorem letter_eq {n:Int} (h1:1<=n) (h2:n<=12) (c:Int):vJ n c=some (yA n c):=by
 unfold vJ yA
 have hw:w64 (0-n)= -n:=by rw[zz (by omega) (by omega)];omega
 rw[hw]
 by_cases a:c=0
 ·simp[a]
 by_cases b: -n<c
 ·simp[a,b]
 simp[a,b]
theorem qeX {n:Int} (h1:1<=n) (h2:n<=12) (c:Int):jZ n c=some (!yA n c):=by
 unfold jZ yA
 have hw:w64 (0-n)= -n:=by rw[zz (by omega) (by omega)];omega
 rw[hw]
 by_cases a:c=0
 ·simp[a]
 by_cases b: -n<c
 ·rw[if_neg a,if_neg (by omega)]
  by_cases d:c<n
  ·simp[a,b,d]
  simp[a,b,d];omega
 rw[if_neg a,if_pos (by omega)]
 simp[a,b]
theorem qep {n:Int} {w:List Int} {i:Nat} (h:i<w.length):(w.drop i).all (yA n)=(yA n w[i]&&(w.drop (i+1)).all (yA n)):=by
 rw[List.drop_eq_getElem_cons h,List.all_cons]
theorem qhl {n:Int} (h1:1<=n) (h2:n<=12) {w:List Int} (hl:w.length<=300): ∀(K i:Nat),i<=w.length->w.length<K+i->zk n w K (i:Int)=some (if(w.drop i).all (yA n)=true then .inl ()else .inr 3)
 |0,i,h,hK=>by omega
 |K+1,i,h,hK=>by
  unfold zk
  by_cases hi:i<w.length
  ·rw[if_pos (by omega),qB,Ya hi,ZB,letter_eq h1 h2,ZB,qep hi]
   cases c:yA n w[i]with
   |false=>rfl
   |true=>
    rw[if_neg (by decide),zu (by omega),qhl h1 h2 hl K (i+1) (by omega) (by omega),Bool.true_and]
  rw[if_neg (by omega),List.drop_eq_nil_of_le (by omega)]
  rfl
theorem qeC {N:Nat} (hN:2000<N) {n:Int} {w:List Int} (hl:w.length<=300):jD N n w=some (qaf n w):=by
 unfold jD qaf
 by_cases a:n<1
 ·rw[if_pos a,ZB,if_pos rfl,if_pos (.inl a)]
 by_cases b:12<n
 ·rw[if_neg a,decide_eq_true (by omega),ZB,if_pos rfl,if_pos (.inr b)]
 rw[if_neg a,decide_eq_false (by omega),ZB,if_neg (by decide),if_neg (show¬(n<1\/12<n)by omega)]
 by_cases c:200<w.length
 ·rw[if_pos (by omega),if_pos c]
 rw[if_neg (by omega),if_neg c,show(0:Int)=((0:Nat):Int)from rfl,qhl (by omega) (by omega) hl N 0 (by omega) (by omega),List.drop_zero]
 cases w.all (yA n)<;>rfl
theorem qhh {n:Int} (h1:1<=n) (h2:n<=12) {w:List Int} (hl:w.length<=300): ∀(K i:Nat),i<=w.length->w.length<K+i->((w.drop i).all (yA n)=true/\qo w n K (i:Int)=some (.inl ()))\/((w.drop i).all (yA n)=false/\ ∃j:Nat,qo w n K (i:Int)=some (.inr (j:Int)))
 |0,i,h,hK=>by omega
 |K+1,i,h,hK=>by
  unfold qo zX
  by_cases hi:i<w.length
  ·rw[if_pos (by omega),qB,Ya hi,ZB,qeX h1 h2,ZB,ZB,qep hi]
   cases c:yA n w[i]with
   |false=>exact .inr ⟨rfl,i,rfl⟩
   |true=>
    rw[if_neg (by decide),zu (by omega),Bool.true_and]
    exact qhh h1 h2 hl K (i+1) (by omega) (by omega)
  rw[if_neg (by omega),List.drop_eq_nil_of_le (by omega)]
  exact .inl ⟨rfl,rfl⟩
theorem qbX {N:Nat} (hN:10<N) (a b:Int):jO N [a,b]=some (if a=0 then b else a):=by
 obtain⟨K,rfl⟩: ∃K,N=K+1+1+1:=⟨N-3,by omega⟩
 have w1:w64 1=1:=rfl
 have w2:w64 2=2:=rfl
 have i0: ∀a b:Int,idx [a,b] 0=some a:=fun _ _=>rfl
 have i1: ∀a b:Int,idx [a,b] 1=some b:=fun _ _=>rfl
 unfold jO
 by_cases ha:a=0
 ·by_cases hb:b=0
  ·simp[zM,i0,i1,ha,hb,w1,w2]
  simp[zM,i0,i1,ha,hb,w1,w2]
 simp[zM,i0,ha]
theorem qbq (b:Bool) (e:Int):zI b e=some (if b=true then e else 0):=by
 unfold zI
 cases b<;>rfl
theorem qaQ {N:Nat} (hN:2000<N) {n:Int} {w:List Int} (hl:w.length<=300):zx N n w=some (qaf n w):=by
 unfold zx jo qaf
 by_cases a:n<1\/12<n
 ·have:(Option.bind (if n<1 then(zI true 3).bind fun r2=>some r2 else(zI (decide (n>12)) 3).bind fun r3=>some r3:Option Int) fun n4=>some n4)=some 3:=by
   by_cases b:n<1
   ·rw[if_pos b];rfl
   rw[if_neg b,decide_eq_true (by omega)];rfl
  rw[this,ZB,qbq,ZB,qbX (by omega),if_neg (by decide),ZB,if_pos (by decide),if_pos a]
 have:(Option.bind (if n<1 then(zI true 3).bind fun r2=>some r2 else(zI (decide (n>12)) 3).bind fun r3=>some r3:Option Int) fun n4=>some n4)=some 0:=by
  rw[if_neg (by omega),decide_eq_false (by omega)];rfl
 rw[this,ZB,qbq,ZB,qbX (by omega),if_pos rfl,ZB,if_neg a]
 by_cases c:200<w.length
 ·rw[decide_eq_true (show(w.length:Int)>200 by omega),if_pos rfl,if_pos (by decide),if_pos c]
 rw[decide_eq_false (show¬(w.length:Int)>200 by omega),if_neg Bool.false_ne_true,if_neg (show¬(!decide ((0:Int)=0))=true by decide),if_neg c]
 unfold zw zO
 rcases qhh (n:=n) (by omega) (by omega) hl N 0 (by omega) (by omega)with⟨g1,g2⟩|⟨g1,j,g2⟩<;>rw[show((0:Nat):Int)=0 from rfl]at g2
 ·rw[g2,<-List.drop_zero (l:=w),g1]
  rfl
 rw[g2,<-List.drop_zero (l:=w),g1]
 simp only[ZB]
 rw[decide_eq_true (show(j:Int)>=0 by omega),qbq]
 rfl
structure qar (n:Nat) (w:List Int):Prop where
 n1:1<=n
 n2:n<=12
 len:w.length<=200
 let_: ∀c∈w,c≠0/\ -(n:Int)<c/\c<n
theorem qdP {n:Int} {w:List Int} (h:qaf n w=0): ∃k:Nat,n=k/\qar k w:=by
 unfold qaf at h
 split at h
 ·omega
 rename_i a
 split at h
 ·omega
 rename_i b
 split at h
 ·rename_i c
  refine⟨n.toNat,by omega,by omega,by omega,by omega,fun x hx=>?_⟩
  have:=Yp.1 c x hx
  simp only[yA,Bool.and_eq_true,decide_eq_true_eq]at this
  omega
 omega
theorem qh3 {w:List Int} (hl:w.length<=2000000): ∀(K i:Nat),i<=w.length->w.length<K+i->qK w K ((w.take i).map fun x=>w64 (0-x)) (i:Int)=some (w.map fun x=>w64 (0-x))
 |0,i,h,hK=>by omega
 |K+1,i,h,hK=>by
  unfold qK vY
  by_cases hi:i<w.length
  ·rw[if_pos (by omega),qB,Ya hi,ZB,ZB,jI (by simp;omega) (by simp;omega),ZB,zu (by omega)]
   have e:(w.take i).map (fun x=>w64 (0-x))++[w64 (0-w[i])]=(w.take (i+1)).map fun x=>w64 (0-x):=by
    rw[List.take_succ_eq_append_getElem hi,List.map_append]
    rfl
   rw[e]
   exact qh3 hl K (i+1) (by omega) (by omega)
  rw[if_neg (by omega),List.take_of_length_le (by omega)]
theorem qfJ {N:Nat} {w:List Int} (hN:w.length+2<N) (hl:w.length<=2000000):zS N w=some (w.map fun x=>w64 (0-x)):=by
 unfold zS
 have:=qh3 hl N 0 (by omega) (by omega)
 rw[List.take_zero,List.map_nil]at this
 rw[show(0:Int)=((0:Nat):Int)from rfl,this]
 rfl
theorem qgD {w:List Int} (hl:w.length<=2000000): ∀(K i:Nat) (l:List Int),i<=w.length->i<K->l.length+i=w.length->zH w K l ((i:Int)-1)=some (l++((w.take i).reverse.map fun x=>w64 (0-x)))
 |0,i,l,h,hK,hs=>by omega
 |K+1,i,l,h,hK,hs=>by
  unfold zH
  cases i with
  |zero=>rw[if_neg (by omega),List.take_zero];simp
  |succ i=>
   have hi:i<w.length:=by omega
   rw[show((i+1:Nat):Int)-1=(i:Int)by omega,if_pos (by omega),qB,Ya hi,ZB,jI (by simp only[Yr,List.length_nil];omega) (by simp only[Yr,List.length_nil];omega),ZB,show w64 ((i:Int)-1)=(i:Int)-1 from zz (by omega) (by omega),
    qgD hl K i _ (by omega) (by omega) (by simp;omega),List.take_succ_eq_append_getElem hi,List.reverse_append,List.map_append,Yz]
   rfl
theorem qbJ {N:Nat} {w:List Int} (hN:w.length+2<N) (hl:w.length<=2000000):jH N w=some ((w.map fun x=>w64 (0-x)).reverse):=by
 unfold jH
 rw[zz (by omega) (by omega),qgD hl N w.length [] (by omega) (by omega) (by simp),List.take_length]
 simp
theorem qh1 {l0:List Int} {n:Nat} (hn:l0.length=n) (hb:n<=2000000): ∀(K i:Nat) (l:List Int),l.length=n->2*i<=n+1->n+1<K+2*i->(∀k:Nat,k<n->l[k]? =if k<i\/n<=k+i then l0[n-1-k]? else l0[k]?)->qF K l (i:Int) ((n:Int)-1-i)=some l0.reverse
 |0,i,l,hl,h2,hK,hk=>by omega
 |K+1,i,l,hl,h2,hK,hk=>by
  unfold qF
  by_cases hi:(i:Int)<(n:Int)-1-i
  ·have e1:(n:Int)-1-i=((n-1-i:Nat):Int):=by omega
   have e2:w64 (((n-1-i:Nat):Int)-1)=(n:Int)-1-((i+1:Nat):Int):=by rw[zz (by omega) (by omega)];omega
   have q1:=hk (n-1-i) (by omega)
   have q2:=hk i (by omega)
   rw[if_neg (by omega)]at q1 q2
   have g1:l0[n-1-i]? =some l0[n-1-i]:=Ya (by omega)
   have g2:l0[i]? =some l0[i]:=Ya (by omega)
   rw[g1]at q1
   rw[g2]at q2
   rw[if_pos hi,e1,qB,q1,ZB,qB,q2,ZB,vM (by omega),ZB,qB,Yw (by omega),q1,ZB,vM (by simp;omega),ZB,zu (by omega),e2]
   refine qh1 hn hb K (i+1) _ (by simp;omega) (by omega) (by omega) (fun k hkn=>?_)
   by_cases c1:k=n-1-i
   ·subst c1
    rw[List.getElem?_set_self (by simp;omega),if_pos (by omega),show n-1-(n-1-i)=i by omega,g2]
   rw[Yw (fun e=>c1 e.symm)]
   by_cases c2:k=i
   ·subst c2
    rw[List.getElem?_set_self (by omega),if_pos (by omega),g1]
   rw[Yw (fun e=>c2 e.symm),hk k hkn]
   by_cases c3:k<i\/n<=k+i
   ·rw[if_pos c3,if_pos (by omega)]
   rw[if_neg c3,if_neg (by omega)]
  rw[if_neg hi]
  congr 1
  apply List.ext_getElem?
  intro k
  by_cases hkn:k<n
  ·rw[hk k hkn,List.getElem?_reverse (by omega),hn]
   by_cases c3:k<i\/n<=k+i
   ·rw[if_pos c3]
   rw[if_neg c3,show n-1-k=k by omega]
  rw[Yg (by omega),Yg (by simp;omega)]
theorem qeB {N:Nat} {l:List Int} (hN:l.length+1<N) (hb:l.length<=2000000):zD N l=some l.reverse:=by
 unfold zD
 have:=qh1 (l0:=l) rfl hb N 0 l rfl (by omega) (by omega) (fun k hk=>by rw[if_neg (by omega)])
 rw[zz (by omega) (by omega),show((l.length:Int)-1)=(l.length:Int)-1-((0:Nat):Int)by omega,show(0:Int)=((0:Nat):Int)from rfl]
 rw[this]
 rfl
theorem qcf {N:Nat} {w:List Int} (hN:w.length+2<N) (hl:w.length<=2000000):zT N w=some ((w.map fun x=>w64 (0-x)).reverse):=by
 unfold zT
 rw[qfJ hN hl,ZB,qeB (by simp;omega) (by simp;omega),ZB,if_pos (by simp),ZB]
def xA (n:Nat):List Int:=(List.range n).map fun k:Nat=>(k:Int)
theorem xG (n:Nat):(xA n).length=n:=by simp[xA]
theorem vW {n k:Nat} (h:k<n):(xA n)[k]? =some (k:Int):=by
 simp[xA,List.getElem?_map,List.getElem?_range h]
theorem qfn {c:Int} (h: -1000<c/\c<1000):yI c=some ((c.natAbs:Nat):Int):=by
 unfold yI
 rw[zz (by omega) (by omega)]
 by_cases a:0-c>c
 ·rw[if_pos a];congr 1;omega
 rw[if_neg a];congr 1;omega
theorem qfo {n:Nat} (hn:n<=1000) {l2:List Int} (h2:l2.length=n): ∀(K i:Nat) (l:List Int),l.length=n->i<=n->n<K+i->(∀k,k<i->l[k]? =some (k:Int))->qX l2 K l (i:Int)=some (xA n)
 |0,i,l,hl,h,hK,hk=>by omega
 |K+1,i,l,hl,h,hK,hk=>by
  unfold qX
  by_cases hi:i<n
  ·rw[if_pos (by omega),qB,Ya (by omega),ZB,vM (by omega),ZB,zu (by omega)]
   refine qfo hn h2 K (i+1) _ (by simpa using hl) (by omega) (by omega) (fun k hki=>?_)
   by_cases e:k=i
   ·subst e;rw[List.getElem?_set_self (by omega)]
   rw[Yw (fun c=>e c.symm)];exact hk k (by omega)
  rw[if_neg (by omega)]
  congr 1
  apply List.ext_getElem?
  intro k
  by_cases hkn:k<n
  ·rw[hk k (by omega),vW hkn]
  rw[Yg (by omega),Yg (by rw[xG];omega)]
theorem qiy {n:Nat} (hn:n<=1000):mk 8 (n:Int) (0:Int)=some (List.replicate n 0):=by
 unfold mk
 rw[if_pos (by omega)]
 simp
theorem qhp {N n:Nat} (hN:2000<N) (hn:n<=1000):zP N (n:Int)=some (xA n):=by
 unfold zP
 rw[qiy hn,ZB,show(0:Int)=((0:Nat):Int)from rfl,qfo hn (by simp) N 0 _ (by simp) (by omega) (by omega) (fun k hk=>by omega),ZB]
structure qaD (n:Nat) (row p:List Int):Prop where
 rl:row.length=n
 pl:p.length=n
 at_: ∀k,k<n-> ∃v:Nat,v<n/\row[k]? =some (v:Int)/\p[v]? =some (k:Int)
 all: ∀v,v<n-> ∃k,k<n/\row[k]? =some (v:Int)
theorem qaD.iota (n:Nat):qaD n (xA n) (xA n):=
 ⟨xG n,xG n,fun k hk=>⟨k,hk,vW hk,vW hk⟩,fun v hv=>⟨v,hv,vW hv⟩⟩
theorem qaD.back {n:Nat} {row p:List Int} (h:qaD n row p) {k v:Nat} (hk:k<n) (e:row[k]? =some (v:Int)):v<n/\p[v]? =some (k:Int):=by
 obtain⟨u,hu,e1,e2⟩:=h.at_ k hk
 rw[e]at e1
 have:v=u:=by have:=Ye e1;omega
 subst this
 exact⟨hu,e2⟩
theorem qaD.inj {n:Nat} {row p:List Int} (h:qaD n row p) {k k' v:Nat} (hk:k<n) (hk':k'<n) (e:row[k]? =some (v:Int)) (e':row[k']? =some (v:Int)):k=k':=by
 have h1:=(h.back hk e).2
 have h2:=(h.back hk' e').2
 rw[h1]at h2
 have:=Ye h2
 omega
theorem qaD.swap {n:Nat} {row p:List Int} (h:qaD n row p) {i a b:Nat} (hi:i+1<n) (ea:row[i]? =some (a:Int)) (eb:row[i+1]? =some (b:Int)):
 a≠b/\qaD n ((row.set i (b:Int)).set (i+1) (a:Int)) ((p.set a ((i+1:Nat):Int)).set b (i:Int)):=by
 have rl:=h.rl
 have pl:=h.pl
 obtain⟨ha,pa⟩:=h.back (by omega) ea
 obtain⟨hb,pb⟩:=h.back hi eb
 have ne:a≠b:=fun e=>by
  subst e
  have:=h.inj (by omega) hi ea eb
  omega
 refine⟨ne,by simpa using rl,by simpa using pl,fun k hk=>?_,fun v hv=>?_⟩
 ·by_cases k1:k=i+1
  ·subst k1
   refine⟨a,ha,by rw[List.getElem?_set_self (by simp;omega)],?_⟩
   rw[Yw (fun e=>ne e.symm),List.getElem?_set_self (by omega)]
  by_cases k2:k=i
  ·subst k2
   refine⟨b,hb,by rw[Yw (by omega),List.getElem?_set_self (by omega)],?_⟩
   rw[List.getElem?_set_self (by simp;omega)]
  obtain⟨v,hv,e1,e2⟩:=h.at_ k hk
  have va:v≠a:=fun e=>by
   subst e
   have:=h.inj hk (by omega) e1 ea
   omega
  have vb:v≠b:=fun e=>by
   subst e
   have:=h.inj hk hi e1 eb
   omega
  refine⟨v,hv,by rw[Yw (fun e=>k1 e.symm),Yw (fun e=>k2 e.symm)];exact e1,?_⟩
  rw[Yw (fun e=>vb e.symm),Yw (fun e=>va e.symm)]
  exact e2
 obtain⟨k,hk,e⟩:=h.all v hv
 by_cases k1:k=i+1
 ·subst k1
  rw[eb]at e
  have:v=b:=by have:=Ye e;omega
  subst this
  exact⟨i,by omega,by rw[Yw (by omega),List.getElem?_set_self (by omega)]⟩
 by_cases k2:k=i
 ·subst k2
  rw[ea]at e
  have:v=a:=by have:=Ye e;omega
  subst this
  exact⟨k+1,hi,by rw[List.getElem?_set_self (by simp;omega)]⟩
 exact⟨k,hk,by rw[Yw (fun e=>k1 e.symm),Yw (fun e=>k2 e.symm)];exact e⟩
theorem qeN (w:List Int):jX w=some (if 200<w.length then([],5)else(w,0)):=by
 unfold jX
 by_cases c:200<w.length
 ·rw[if_pos (by omega),if_pos c]
 rw[if_neg (by omega),if_neg c]
theorem qfL {N:Nat} (hN:2000<N) {a b:List Int} (ha:a.length<=300) (hb:b.length<=300):qV N [a,b]=some (a++b):=by
 obtain⟨K,rfl⟩: ∃K,N=K+1+1+1:=⟨N-3,by omega⟩
 have w1:w64 (0+1)=1:=rfl
 have w2:w64 (1+1)=2:=rfl
 have i0:idx [a,b] 0=some a:=rfl
 have i1:idx [a,b] 1=some b:=rfl
 have s1:w64 (0+(a.length:Int))=(a.length:Int):=by rw[zz (by omega) (by omega)];omega
 have s2:w64 ((a.length:Int)+(b.length:Int))=((a.length+b.length:Nat):Int):=by rw[zz (by omega) (by omega)];omega
 have len:(([a,b]:List (List Int)).length:Int)=2:=rfl
 have L0:qj [a,b] (K+1+1+1) 0 0=some ((a.length+b.length:Nat):Int):=by
  rw[qj,len,if_pos (by decide),i0,ZB,s1,if_neg (by omega),ZB,w1,qj,len,if_pos (by decide),i1,ZB,s2,if_neg (by omega),ZB,w2,qj,len,if_neg (by decide)]
 have G: ∀m:Nat,m<=600-> ∃o:Option (List Int),zg (m:Int)=some o/\((m=0/\o=none)\/o=some []):=by
  intro m hm
  unfold zg
  rw[if_neg (by omega),ZB]
  have e:w64 ((m:Int)-w64 (0-0))=(m:Int):=by
   rw[show w64 (0-0)=0 from rfl,zz (by omega) (by omega)]
   omega
  rw[e]
  by_cases h:(m:Int)>0
  ·rw[if_pos h,show cut ([]:List Int) 0 0=some []from rfl,ZB]
   have z:qca 8 (m:Int) (0:Int)=some (List.replicate m 0):=by
    unfold qca
    rw[if_pos (by omega)]
    simp
   have hct:cut (List.replicate m (0:Int)) 0 0=some []:=by
    have:=qaq (l:=List.replicate m (0:Int)) (k:=0) (Nat.zero_le _)
    rw[List.take_zero]at this
    exact this
   rw[z,ZB,hct,ZB,ZB]
   exact⟨some [],rfl,.inr rfl⟩
  rw[if_neg h]
  exact⟨none,rfl,.inl ⟨by omega,rfl⟩⟩
 unfold qV
 rw[L0,ZB]
 obtain⟨o,g1,g2⟩:=G (a.length+b.length) (by omega)
 rw[g1,ZB]
 rcases g2 with⟨h0,rfl⟩|rfl
 ·have ea:a=[]:=YL.1 (by omega)
  have eb:b=[]:=YL.1 (by omega)
  subst ea eb
  rw[qf,len,if_pos (by decide),i0,ZB]
  simp only[ZB]
  rw[w1,qf,len,if_pos (by decide),i1,ZB]
  simp only[ZB]
  rw[w2,qf,len,if_neg (by decide)]
  rfl
 rw[qf,len,if_pos (by decide),i0,ZB]
 simp only
 rw[jI (by simp;omega) (by simp;omega)]
 simp only[ZB,List.nil_append]
 rw[w1,qf,len,if_pos (by decide),i1,ZB]
 simp only
 rw[jI (by omega) (by omega)]
 simp only[ZB]
 rw[w2,qf,len,if_neg (by decide)]
 rfl
theorem qeH {N:Nat} (hN:2000<N) {n:Int} {a b:List Int} (ha:a.length<=300) (hb:b.length<=300): ∃l e,vF N n a b=some (l,e)/\e=(if qaf n a=0 then(if qaf n b=0 then(if 200<a.length+b.length then 5 else 0)else qaf n b)else qaf n a)/\(e≠0->l=[])/\(e=0->l=a++b/\l.length<=200):=by
 unfold vF j5
 rw[qaQ hN ha,ZB,qaQ hN hb,ZB,qbX (by omega),ZB,ZB]
 by_cases h1:qaf n a=0
 ·by_cases h2:qaf n b=0
  ·rw[if_pos h1,h2,if_neg (by decide),qfL hN ha hb,ZB,qeN,Yq,ZB,if_pos h1,if_pos rfl]
   by_cases h3:200<a.length+b.length
   ·rw[if_pos h3]
    exact⟨[],5,rfl,by rw[if_pos h3],fun _=>rfl,fun h=>absurd h (by decide)⟩
   rw[if_neg h3]
   exact⟨a++b,0,rfl,by rw[if_neg h3],fun h=>absurd rfl h,fun _=>⟨rfl,by rw[Yq];omega⟩⟩
  rw[if_pos h1,if_pos (by simp[h2])]
  exact⟨[],_,rfl,by rw[if_pos h1,if_neg h2],fun _=>rfl,fun h=>absurd h h2⟩
 rw[if_neg h1,if_pos (by simp[h1])]
 exact⟨[],_,rfl,by rw[if_neg h1],fun _=>rfl,fun h=>absurd h h1⟩
theorem qcq {a b:List Int} (ha:a.length<=2000000) (hb:b.length<=2000000):jT a b=some (a++b):=by
 unfold jT
 rw[jI (by simp;omega) (by simp;omega),ZB,jI (by simp;omega) (by simp;omega),ZB,List.nil_append]
end Go.Av
end
section
namespace Go.Av
theorem qbt {w:List Int} (h: ∀y∈w,-1000<y/\y<1000):(w.map fun x=>w64 (0-x)).reverse=qN w:=by
 unfold qN
 congr 1
 refine List.map_congr_left (fun y hy=>?_)
 have:=h y hy
 rw[zz (by omega) (by omega)]
 omega
theorem qe9 {N:Nat} (hN:2000<N) {a b c:List Int} (ha:a.length<=2000000) (hb:b.length<=2000000) (hc:c.length<=2000000):qV N [a,b,c]=some (a++b++c):=by
 obtain⟨K,rfl⟩: ∃K,N=K+1+1+1+1:=⟨N-4,by omega⟩
 have w1:w64 (0+1)=1:=rfl
 have w2:w64 (1+1)=2:=rfl
 have w3:w64 (2+1)=3:=rfl
 have i0:idx [a,b,c] 0=some a:=rfl
 have i1:idx [a,b,c] 1=some b:=rfl
 have i2:idx [a,b,c] 2=some c:=rfl
 have s1:w64 (0+(a.length:Int))=(a.length:Int):=by rw[zz (by omega) (by omega)];omega
 have s2:w64 ((a.length:Int)+(b.length:Int))=((a.length+b.length:Nat):Int):=by rw[zz (by omega) (by omega)];omega
 have s3:w64 (((a.length+b.length:Nat):Int)+(c.length:Int))=((a.length+b.length+c.length:Nat):Int):=by rw[zz (by omega) (by omega)];omega
 have len:(([a,b,c]:List (List Int)).length:Int)=3:=rfl
 have L0:qj [a,b,c] (K+1+1+1+1) 0 0=some ((a.length+b.length+c.length:Nat):Int):=by
  rw[qj,len,if_pos (by decide),i0,ZB,s1,if_neg (by omega),ZB,w1,qj,len,if_pos (by decide),i1,ZB,s2,if_neg (by omega),ZB,w2,qj,len,if_pos (by decide),i2,ZB,s3,if_neg (by omega),ZB,w3,qj,len,if_neg (by decide)]
 have G: ∀m:Nat,m<=6000000-> ∃o:Option (List Int),zg (m:Int)=some o/\((m=0/\o=none)\/o=some []):=by
  intro m hm
  unfold zg
  rw[if_neg (by omega),ZB]
  have e:w64 ((m:Int)-w64 (0-0))=(m:Int):=by
   rw[show w64 (0-0)=0 from rfl,zz (by omega) (by omega)]
   omega
  rw[e]
  by_cases h:(m:Int)>0
  ·rw[if_pos h,show cut ([]:List Int) 0 0=some []from rfl,ZB]
   have z:qca 8 (m:Int) (0:Int)=some (List.replicate m 0):=by
    unfold qca
    rw[if_pos (by omega)]
    simp
   have hct:cut (List.replicate m (0:Int)) 0 0=some []:=by
    have:=qaq (l:=List.replicate m (0:Int)) (k:=0) (Nat.zero_le _)
    rw[List.take_zero]at this
    exact this
   rw[z,ZB,hct,ZB,ZB]
   exact⟨some [],rfl,.inr rfl⟩
  rw[if_neg h]
  exact⟨none,rfl,.inl ⟨by omega,rfl⟩⟩
 unfold qV
 rw[L0,ZB]
 obtain⟨o,g1,g2⟩:=G (a.length+b.length+c.length) (by omega)
 rw[g1,ZB]
 rcases g2 with⟨h0,rfl⟩|rfl
 ·have ea:a=[]:=YL.1 (by omega)
  have eb:b=[]:=YL.1 (by omega)
  have ec:c=[]:=YL.1 (by omega)
  subst ea eb ec
  rw[qf,len,if_pos (by decide),i0,ZB]
  simp only[ZB]
  rw[w1,qf,len,if_pos (by decide),i1,ZB]
  simp only[ZB]
  rw[w2,qf,len,if_pos (by decide),i2,ZB]
  simp only[ZB]
  rw[w3,qf,len,if_neg (by decide)]
  rfl
 rw[qf,len,if_pos (by decide),i0,ZB]
 simp only
 rw[jI (by simp;omega) (by simp;omega)]
 simp only[ZB,List.nil_append]
 rw[w1,qf,len,if_pos (by decide),i1,ZB]
 simp only
 rw[jI (by omega) (by omega)]
 simp only[ZB]
 rw[w2,qf,len,if_pos (by decide),i2,ZB]
 simp only
 rw[jI (by simp;omega) (by simp;omega)]
 simp only[ZB]
 rw[w3,qf,len,if_neg (by decide)]
 rfl
theorem qah {w:List Int} (hl:w.length<=2000000) (hw: ∀y∈w,-1000<y/\y<1000): ∀(K i:Nat) (o:Option (List Int)),hof o=(fact [] (w.take i)).reverse->i<=w.length->w.length<K+i-> ∃r,kr w K o (i:Int)=some r/\hof r=fred w
 |0,i,o,ho,h,hK=>by omega
 |K+1,i,o,ho,h,hK=>by
  unfold kr
  by_cases hi:i<w.length
  ·have hx:w[i]? =some w[i]:=Ya hi
   have hs:fact [] (w.take (i+1))=vC (fact [] (w.take i)) w[i]:=by
    rw[List.take_succ_eq_append_getElem hi,j3,yj]
   have hb:=hw w[i] (List.getElem_mem hi)
   have hlen:=qb9 [] (w.take i)
   simp only[List.length_nil,Nat.zero_add,List.length_take]at hlen
   rw[if_pos (by omega),qB,hx]
   generalize w[i]=x at*
   have wx:w64 (0-x)= -x:=by rw[zz (by omega) (by omega)];omega
   generalize fact [] (w.take i)=s at*
   cases o with
   |none=>
    have:s=[]:=by
     have:s.reverse=[]:=ho.symm
     simpa using this
    subst this
    simp only[ZB]
    rw[if_neg (by decide)]
    simp only[ZB,ZF,if_false]
    rw[zu (by omega)]
    exact qah hl hw K (i+1) (some [x]) (by rw[hs];rfl) (by omega) (by omega)
   |some l=>
    have hls:l=s.reverse:=ho
    subst hls
    simp only[ZB]
    cases s with
    |nil=>
     rw[if_neg (by simp)]
     simp only[ZB,ZF,if_false]
     rw[jI (by simp) (by simp)]
     simp only[ZB]
     rw[zu (by omega)]
     exact qah hl hw K (i+1) _ (by rw[hs];rfl) (by omega) (by omega)
    |cons y t=>
     simp only[Yr]at hlen
     have e1:w64 (((y::t).reverse.length:Int)-1)=((t.length:Nat):Int):=by
      rw[List.length_reverse,Yr,zz (by omega) (by omega)];omega
     have hy:(y::t).reverse[t.length]? =some y:=by simp
     rw[if_pos (by rw[List.length_reverse,Yr];omega),e1,qB,hy]
     simp only[ZB,wx]
     by_cases hc:y= -x
     ·rw[decide_eq_true hc]
      simp only[if_true]
      have hct:cut (y::t).reverse 0 (t.length:Int)=some t.reverse:=by
       rw[qaq (by simp),List.reverse_cons,List.take_left' (by simp)]
      simp only[hct,ZB]
      rw[zu (by omega)]
      exact qah hl hw K (i+1) _ (by rw[hs,yY t hc];rfl) (by omega) (by omega)
     rw[decide_eq_false hc]
     simp only[ZF,if_false]
     rw[jI (by simp;omega) (by simp;omega)]
     simp only[ZB]
     rw[zu (by omega)]
     exact qah hl hw K (i+1) _ (by rw[hs,yN t hc];simp[hof]) (by omega) (by omega)
  rw[if_neg (by omega)]
  refine⟨o,rfl,?_⟩
  rw[ho,List.take_of_length_le (by omega)]
  rfl
theorem qcx {N:Nat} {w:List Int} (hN:w.length<N) (hl:w.length<=2000000) (hw: ∀y∈w,-1000<y/\y<1000):zU N w=some (fred w):=by
 unfold zU
 obtain⟨r,h1,h2⟩:=qah hl hw N 0 none (by rfl) (by omega) (by omega)
 rw[show(0:Int)=((0:Nat):Int)from rfl,h1,ZB,h2]
end Go.Av
end
section
namespace Go.Av
theorem qgm (n:Nat):fid (n+1)=fid n++[[((n:Nat):Int)+1]]:=by simp[fid,List.range_succ]
theorem qfj {n:Nat} (hn:n<=12): ∀(K i:Nat),i<=n->n<K+i->jb (n:Int) K (fid i) (i:Int)=some (fid n)
 |0,i,h,hK=>by omega
 |K+1,i,h,hK=>by
  unfold jb
  by_cases hi:i<n
  ·rw[if_pos (by omega),jI (by rw[vG];simp only[Yr,List.length_nil];omega) (by rw[vG];simp only[Yr,List.length_nil];omega),ZB,zu (by omega)]
   have:=qfj hn K (i+1) (by omega) (by omega)
   rw[qgm]at this
   exact this
  rw[if_neg (by omega),show i=n by omega]
theorem qbI {im:List (List Int)} {k:Nat} (h:k<im.length):im[k]? =some (im.getD k []):=by
 rw[Yy,Ya h]
 rfl
theorem pow3: ∀{i j:Nat},i<=j->3^i<=3^j:=fun h=>Nat.pow_le_pow_right (by omega) h
theorem qe7 {N n:Nat} (hN:600000<N) {w:List Int} (W:qar n w) (hl:w.length<=12): ∀(K i:Nat) (im:List (List Int)) (row:List Int),FOK n im row->row.length=n->(∀v∈im,v.length<=3^i)->i<=w.length->w.length<K+i->jc N w K im (i:Int)=some ((w.drop i).foldl je im)
 |0,i,im,row,hF,hr,hlong,h,hK=>by omega
 |K+1,i,im,row,hF,hr,hlong,h,hK=>by
  have n2:=W.n2
  unfold jc
  by_cases hi:i<w.length
  ·have hx:w[i]? =some w[i]:=Ya hi
   have hc:=W.let_ _ (List.getElem_mem hi)
   rw[List.drop_eq_getElem_cons hi,List.foldl_cons]
   generalize w[i]=c at*
   obtain⟨m,hm⟩: ∃m:Nat,c.natAbs=m+1:=⟨c.natAbs-1,by omega⟩
   have hm2:m+1<n:=by omega
   have hlen:=hF.len
   have q1:w64 (((m+1:Nat):Int)-1)=(m:Int):=by rw[zz (by omega) (by omega)];omega
   have q2:w64 ((m:Int)+1)=((m+1:Nat):Int):=zu (by omega)
   have hF':=hF.step hc (x:=row[m]'(by omega)) (y:=row[m+1]'(by omega)) (by rw[hm,Nat.add_sub_cancel];exact Ya _) (by rw[hm];exact Ya _) hr
   have hlong':=qcw hlong (c:=c) hm (by omega)
   have e3:3*3^i=3^(i+1):=by rw[Nat.pow_succ,Nat.mul_comm]
   rw[e3]at hlong'
   have hrec:=qe7 hN W hl K (i+1) _ _ hF' (by simpa using hr) hlong' (by omega) (by omega)
   have hp:3^i<=177147:=pow3 (show i<=11 by omega)
   have memD: ∀k,k<n->im.getD k []∈im:=fun k hk=>Yn (qbI (by omega))
   have la:=hlong _ (memD m (by omega))
   have lb:=hlong _ (memD (m+1) hm2)
   have ba:=hF.let_ _ (memD m (by omega))
   have bb:=hF.let_ _ (memD (m+1) hm2)
   have gd: ∀k,k<n->im[k]? =some (im.getD k []):=fun k hk=>qbI (by omega)
   have hst:je im c=if 0<c then(im.set m (fred (im.getD m []++im.getD (m+1) []++qN (im.getD m [])))).set (m+1) (im.getD m [])else(im.set m (im.getD (m+1) [])).set (m+1) (fred (qN (im.getD (m+1) [])++im.getD m []++im.getD (m+1) [])):=by
    unfold je
    dsimp only
    rw[hm,Nat.add_sub_cancel]
   rw[if_pos (by omega),qB,hx,ZB,qfn (by omega),hm,ZB,q1,q2,qB,gd m (by omega),ZB,qB,gd (m+1) hm2,ZB]
   generalize im.getD m []=a at*
   generalize im.getD (m+1) []=b at*
   have bnd: ∀{l:List Int},(∀y∈l,y≠0/\ -(n:Int)<=y/\y<=n)-> ∀y∈l,-1000<y/\y<1000:=fun hl' y hy=>by
    have:=hl' y hy
    omega
   have binv: ∀{l:List Int},(∀y∈l,-1000<y/\y<1000)-> ∀y∈qN l,-1000<y/\y<1000:=fun hl' y hy=>by
    simp only[qN,List.mem_reverse,List.mem_map]at hy
    obtain⟨z,hz,rfl⟩:=hy
    have:=hl' z hz
    omega
   have bapp: ∀{l k:List Int},(∀y∈l,-1000<y/\y<1000)->(∀y∈k,-1000<y/\y<1000)-> ∀y∈l++k,-1000<y/\y<1000:=fun h1 h2 y hy=>(List.mem_append.1 hy).elim (h1 y) (h2 y)
   have ba:=bnd ba
   have bb:=bnd bb
   by_cases hpos:0<c
   ·rw[if_pos hpos]at hst
    rw[if_pos (show c>0 by omega),qcf (by omega) (by omega),qbt ba,ZB,qe9 (by omega) (by omega) (by omega) (by rw[jh];omega),ZB,
     qcx (by simp only[Yq,jh];omega) (by simp only[Yq,jh];omega) (bapp (bapp ba bb) (binv ba)),ZB,vM (by omega),ZB,qB,Yw (by omega),gd (m+1) hm2,ZB,vM (by simp;omega),ZB,ZB,zu (by omega),<-hst]
    exact hrec
   rw[if_neg hpos]at hst
   rw[if_neg (show¬c>0 by omega),qcf (by omega) (by omega),qbt bb,ZB,qe9 (by omega) (by rw[jh];omega) (by omega) (by omega),ZB,
    qcx (by simp only[Yq,jh];omega) (by simp only[Yq,jh];omega) (bapp (bapp (binv bb) ba) bb),ZB,vM (by omega),ZB,qB,Yw (by omega),gd (m+1) hm2,ZB,vM (by simp;omega),ZB,ZB,zu (by omega),<-hst]
   exact hrec
  rw[if_neg (by omega),List.drop_eq_nil_of_le (by omega)]
  rfl
theorem qfv {im:List (List Int)} (hl:im.length<=12) (hb: ∀v∈im,v.length<=1000000): ∀(K i:Nat),i<=im.length->im.length<K+i->qM im K (im.take i) (i:Int)=some im
 |0,i,h,hK=>by omega
 |K+1,i,h,hK=>by
  unfold qM
  by_cases hi:i<im.length
  ·have:=hb _ (List.getElem_mem hi)
   rw[if_pos (by omega),qB,Ya hi,ZB]
   unfold qdz
   rw[if_pos this,ZB,jI (by simp;omega) (by simp;omega),ZB,zu (by omega),<-List.take_succ_eq_append_getElem hi]
   exact qfv hl hb K (i+1) (by omega) (by omega)
  rw[if_neg (by omega),List.take_of_length_le (by omega)]
theorem qd5 {n:Nat}: ∀{w:List Int} {im:List (List Int)} {row:List Int},qfS n w->FOK n im row->row.length=n-> ∃row',FOK n (w.foldl je im) row'/\row'.length=n
 |[],im,row,hw,h,hr=>⟨row,h,hr⟩
 |c::w,im,row,hw,h,hr=>by
  have hc:=hw c (List.mem_cons_self ..)
  rw[List.foldl_cons]
  exact qd5 (w:=w) (fun d hd=>hw d (List.mem_cons_of_mem _ hd)) (h.step hc (x:=row[c.natAbs-1]'(by omega)) (y:=row[c.natAbs]'(by omega)) (Ya _) (Ya _) hr) (by simpa using hr)
theorem free_eq {N n:Nat} (hN:600000<N) {w:List Int} (W:qar n w) (hl:w.length<=12):yS N (n:Int) w=some (yz n w):=by
 have n2:=W.n2
 unfold yS
 have a:=qfj n2 N 0 (by omega) (by omega)
 have f0:FOK n (fid n) (xA n):=FOK.start n (fun k hk=>vW hk)
 have hlong: ∀v∈fid n,v.length<=3^0:=fun v hv=>by
  simp only[fid,List.mem_map]at hv
  obtain⟨k,_,rfl⟩:=hv
  simp
 have b:=qe7 hN W hl N 0 (fid n) (xA n) f0 (xG n) hlong (by omega) (by omega)
 rw[show fid 0=([]:List (List Int))from rfl]at a
 rw[show(0:Int)=((0:Nat):Int)from rfl,a,ZB,b,ZB,List.drop_zero]
 have hll:=qbF (n:=n) (w:=w) (im:=fid n) (M:=1) W.let_ (vG n) hlong
 have h12:3^w.length<=531441:=pow3 hl
 have c:=qfv (im:=w.foldl je (fid n)) (by rw[xy n,vG];exact n2) (fun v hv=>by have:=hll v hv;omega) N 0 (by omega) (by rw[xy n,vG];omega)
 unfold jf
 rw[List.take_zero]at c
 rw[show(0:Int)=((0:Nat):Int)from rfl,c,ZB,ZB]
 rfl
theorem qdv {N n:Nat} (hN:600000<N) {w:List Int} (W:qar n w) (hl:w.length<=12) (hc:qaf n w=0):vo N (n:Int) w=some (yz n w,0):=by
 unfold vo
 rw[qaQ (by omega) (by omega),ZB,qbq,decide_eq_false (by omega),if_neg Bool.false_ne_true,ZB,qbX (by omega),hc,if_pos rfl,ZB,if_neg (by decide),free_eq hN W hl,ZB]
theorem qhw {n:Nat} {w:List Int} (W:qar n w): ∀(K i:Nat) (p row:List Int) (im:List (List Int)),qaD n row p->FOK n im row->i<=w.length->w.length<K+i->
 ∃p' row',qE w K p row (i:Int)=some p'/\qaD n row' p'/\FOK n ((w.drop i).foldl je im) row'
 |0,i,p,row,im,hp,hF,h,hK=>by omega
 |K+1,i,p,row,im,hp,hF,h,hK=>by
  have n1:=W.n1
  have n2:=W.n2
  have wl:=W.len
  unfold qE
  by_cases hi:i<w.length
  ·have hx:w[i]? =some w[i]:=Ya hi
   have hc:=W.let_ _ (List.getElem_mem hi)
   rw[List.drop_eq_getElem_cons hi,List.foldl_cons]
   generalize w[i]=c at*
   obtain⟨m,hm⟩: ∃m:Nat,c.natAbs=m+1:=⟨c.natAbs-1,by omega⟩
   have hm2:m+1<n:=by omega
   have q1:w64 (((m+1:Nat):Int)-1)=(m:Int):=by rw[zz (by omega) (by omega)];omega
   have q2:w64 ((m:Int)+1)=((m+1:Nat):Int):=zu (by omega)
   obtain⟨a,ha,ea,pa⟩:=hp.at_ m (by omega)
   obtain⟨b,hb,eb,pb⟩:=hp.at_ (m+1) hm2
   obtain⟨ne,hp'⟩:=hp.swap hm2 ea eb
   have rl:=hp.rl
   have pl:=hp.pl
   have hF':=hF.step hc (x:=(a:Int)) (y:=(b:Int)) (by rw[hm,Nat.add_sub_cancel];exact ea) (by rw[hm];exact eb) rl
   rw[hm,Nat.add_sub_cancel]at hF'
   rw[if_pos (by omega),qB,hx,ZB,qfn (by omega),hm,ZB,q1,q2,qB,ea,qB,eb,ZB,ZB]
   have hr:jW p c (a:Int) (b:Int)=some ((p.set a ((m+1:Nat):Int)).set b (m:Int)):=by
    unfold jW
    rw[qB,pa,ZB,q2,vM (by omega),ZB,qB,Yw ne,pb,ZB,q1,vM (by simp;omega),ZB]
   rw[hr,ZB,vM (by omega),ZB,qB,Yw (by omega),eb,ZB,vM (by simp;omega),ZB,zu (by omega)]
   exact qhw W K (i+1) _ _ _ hp' hF' (by omega) (by omega)
  rw[if_neg (by omega),List.drop_eq_nil_of_le (by omega)]
  exact⟨p,row,rfl,hp,hF⟩
theorem qh0 {N n:Nat} (hN:2000<N) {w:List Int} (W:qar n w): ∃p row,yX N (n:Int) w=some p/\qaD n row p/\FOK n (yz n w) row:=by
 have n2:=W.n2
 have wl:=W.len
 obtain⟨p,row,h1,h2,h3⟩:=qhw W N 0 (xA n) (xA n) (fid n) (qaD.iota n) (FOK.start n (fun k hk=>vW hk)) (by omega) (by omega)
 refine⟨p,row,?_,h2,h3⟩
 unfold yX jr zW
 rw[qhp hN (by omega),ZB,ZB,ZB,show(0:Int)=((0:Nat):Int)from rfl,h1]
 rfl
end Go.Av
end
section
namespace Go.Av
theorem qgH {N:Nat} (hN:2000<N) (n:Int) (w:List Int):yL N n w 5 6=some (decide (n<=5/\w.length<=6/\qaf n w=0)):=by
 unfold yL
 by_cases h1:n<=5
 ·by_cases h2:w.length<=6
  ·rw[if_pos h1,if_pos (by omega),qeC hN (by omega)]
   simp only[ZB]
   congr 1
   simp[h1,h2]
  rw[if_pos h1,if_neg (by omega)]
  simp[h2]
 rw[if_neg h1]
 simp[h1]
theorem qgw {a:List Int} (hl:a.length<=2000000): ∀(K i:Nat),i<=a.length->a.length<K+i->zq a a K (i:Int)=some (.inl ())
 |0,i,h,hK=>by omega
 |K+1,i,h,hK=>by
  unfold zq
  by_cases hi:i<a.length
  ·rw[if_pos (by omega),qB,Ya hi,ZB,ZB,if_neg (by simp),zu (by omega)]
   exact qgw hl K (i+1) (by omega) (by omega)
  rw[if_neg (by omega)]
theorem same_eq {N:Nat} {a:List Int} (hN:a.length<N) (hl:a.length<=2000000):jg N a a=some true:=by
 unfold jg
 rw[if_neg (by simp),show(0:Int)=((0:Nat):Int)from rfl,qgw hl N 0 (by omega) (by omega)]
 rfl
theorem xu {w:List Int} (hl:w.length<=2000000) (hw: ∀y∈w,-1000<y/\y<1000): ∀(K i:Nat) (o:Option (List Int)),hof o=(fact [] (w.take i)).reverse->i<=w.length->w.length<K+i-> ∃r,zi w K o (i:Int)=some r/\hof r=fred w
 |0,i,o,ho,h,hK=>by omega
 |K+1,i,o,ho,h,hK=>by
  unfold zi
  by_cases hi:i<w.length
  ·have hx:w[i]? =some w[i]:=Ya hi
   have hs:fact [] (w.take (i+1))=vC (fact [] (w.take i)) w[i]:=by
    rw[List.take_succ_eq_append_getElem hi,j3,yj]
   have hb:=hw w[i] (List.getElem_mem hi)
   have hlen:=qb9 [] (w.take i)
   simp only[List.length_nil,Nat.zero_add,List.length_take]at hlen
   rw[if_pos (by omega),qB,hx]
   generalize w[i]=x at*
   have wx:w64 (0-x)= -x:=by rw[zz (by omega) (by omega)];omega
   generalize fact [] (w.take i)=s at*
   cases o with
   |none=>
    have:s=[]:=by
     have:s.reverse=[]:=ho.symm
     simpa using this
    subst this
    simp only[ZB]
    rw[if_neg (by decide)]
    simp only[ZB,ZF,if_false]
    rw[zu (by omega)]
    exact xu hl hw K (i+1) (some [x]) (by rw[hs];rfl) (by omega) (by omega)
   |some l=>
    have hls:l=s.reverse:=ho
    subst hls
    simp only[ZB]
    cases s with
    |nil=>
     rw[if_neg (by simp)]
     simp only[ZB,ZF,if_false]
     rw[jI (by simp) (by simp)]
     simp only[ZB]
     rw[zu (by omega)]
     exact xu hl hw K (i+1) _ (by rw[hs];rfl) (by omega) (by omega)
    |cons y t=>
     simp only[Yr]at hlen
     have e1:w64 (((y::t).reverse.length:Int)-1)=((t.length:Nat):Int):=by
      rw[List.length_reverse,Yr,zz (by omega) (by omega)];omega
     have hy:(y::t).reverse[t.length]? =some y:=by simp
     rw[if_pos (by rw[List.length_reverse,Yr];omega),e1,qB,hy]
     simp only[ZB,wx]
     by_cases hc:y= -x
     ·rw[decide_eq_true hc]
      simp only[if_true]
      have hct:cut (y::t).reverse 0 (t.length:Int)=some t.reverse:=by
       rw[qaq (by simp),List.reverse_cons,List.take_left' (by simp)]
      simp only[e1,hct,ZB]
      rw[zu (by omega)]
      exact xu hl hw K (i+1) _ (by rw[hs,yY t hc];rfl) (by omega) (by omega)
     rw[decide_eq_false hc]
     simp only[ZF,if_false]
     rw[jI (by simp;omega) (by simp;omega)]
     simp only[ZB]
     rw[zu (by omega)]
     exact xu hl hw K (i+1) _ (by rw[hs,yN t hc];simp[hof]) (by omega) (by omega)
  rw[if_neg (by omega)]
  refine⟨o,rfl,?_⟩
  rw[ho,List.take_of_length_le (by omega)]
  rfl
theorem qb4 {N:Nat} {w:List Int} (hN:w.length<N) (hl:w.length<=2000000) (hw: ∀y∈w,-1000<y/\y<1000):zZ N w=some (fred w):=by
 unfold zZ
 obtain⟨r,h1,h2⟩:=xu hl hw N 0 none (by rfl) (by omega) (by omega)
 rw[show(0:Int)=((0:Nat):Int)from rfl,h1,ZB,h2]
def qbn (n:Nat) (w:List Int):Prop:= ∀y∈w,y≠0/\ -(n:Int)<=y/\y<=n
theorem qdl {n:Nat} (hn:n<=12) {w:List Int} (hl:w.length<=2000000) (hw:qbn n w): ∀(K i:Nat),i<=w.length->w.length<K+i->qD (n:Int) w K (i:Int)=some (.inl ())
 |0,i,h,hK=>by omega
 |K+1,i,h,hK=>by
  unfold qD
  by_cases hi:i<w.length
  ·have:=hw _ (List.getElem_mem hi)
   have e:w64 (0-(n:Int))= -(n:Int):=by rw[zz (by omega) (by omega)];omega
   rw[if_pos (by omega),qB,Ya hi,ZB,if_neg this.1,if_neg (by omega),e,decide_eq_false (by omega),ZB,if_neg Bool.false_ne_true,zu (by omega)]
   exact qdl hn hl hw K (i+1) (by omega) (by omega)
  rw[if_neg (by omega)]
theorem qb7 {N n:Nat} (hn:n<=12) {w:List Int} (hN:100000<N) (hl:w.length<100000) (hw:qbn n w):kg N (n:Int) w=some true:=by
 unfold kg
 rw[show(0:Int)=((0:Nat):Int)from rfl,qdl hn (by omega) hw N 0 (by omega) (by omega),ZB,decide_eq_true (by omega)]
theorem ginv {n:Nat} {w:List Int} (h:qbn n w):qbn n (qN w):=fun y hy=>by
 simp only[qN,List.mem_reverse,List.mem_map]at hy
 obtain⟨z,hz,rfl⟩:=hy
 have:=h z hz
 omega
theorem gbnd {n:Nat} (hn:n<=12) {w:List Int} (h:qbn n w): ∀y∈w,-1000<y/\y<1000:=fun y hy=>by
 have:=h y hy
 omega
theorem qee {n:Nat} {im:List (List Int)} (h: ∀w∈im,qbn n w) (k:Nat):qbn n (im.getD k []):=by
 rw[Yy]
 cases e:im[k]? with
 |none=>intro y hy;simp at hy
 |some w=>exact h w (Yn e)
theorem qcB {M:Nat} {im:List (List Int)} (h: ∀w∈im,w.length<=M) (k:Nat):(im.getD k []).length<=M:=by
 rw[Yy]
 cases e:im[k]? with
 |none=>simp
 |some w=>exact h w (Yn e)
theorem gsub {n:Nat} {im:List (List Int)} (h: ∀w∈im,qbn n w) (w:List Int):qbn n (jM im w):=fun y hy=>by
 simp only[jM,List.mem_flatMap]at hy
 obtain⟨g,_,hg⟩:=hy
 unfold qbs at hg
 split at hg
 ·exact qee h _ y hg
 exact ginv (qee h _) y hg
theorem lsub {M:Nat} {im:List (List Int)} (h: ∀w∈im,w.length<=M): ∀(w:List Int),(jM im w).length<=w.length*M
 |[]=>by simp[jM]
 |g::w=>by
  rw[qdq,Yq,Yr,Nat.add_mul,Nat.one_mul]
  have:=lsub h w
  have:(qbs im g).length<=M:=by
   unfold qbs
   split
   ·exact qcB h _
   rw[jh];exact qcB h _
  omega
theorem qh4 {N n:Nat} (hn:n<=12) (hN:600000<N) {r9:List (List Int)×Int} (hlen:r9.1.length=n) (hg: ∀w∈r9.1,qbn n w) (hm: ∀w∈r9.1,w.length<=729) {y:List Int} (hy:qbn n y) (hyl:y.length<=729):
 ∀(K i:Nat),i<=y.length->y.length<K+i->qx N r9 y K (jM r9.1 (y.take i)) (i:Int)=some (jM r9.1 y)
 |0,i,h,hK=>by omega
 |K+1,i,h,hK=>by
  unfold qx
  by_cases hi:i<y.length
  ·have hx:=hy _ (List.getElem_mem hi)
   have e:jM r9.1 (y.take (i+1))=jM r9.1 (y.take i)++qbs r9.1 y[i]:=by
    rw[List.take_succ_eq_append_getElem hi,vH,qau]
   have hrec:=qh4 hn hN hlen hg hm hy hyl K (i+1) (by omega) (by omega)
   rw[e]at hrec
   have hb:=lsub hm (y.take i)
   have hb2:(y.take i).length*729<=729*729:=Nat.mul_le_mul_right _ (by rw[List.length_take];omega)
   rw[if_pos (by omega),qB,Ya hi,ZB]
   generalize y[i]=g at*
   unfold qbs at hrec
   by_cases hp:0<g
   ·rw[if_pos hp]at hrec
    have h1:=qcB hm (g-1).toNat
    rw[if_pos (show g>0 from hp),show w64 (g-1)=(((g-1).toNat:Nat):Int)by rw[zz (by omega) (by omega)];omega,qB,qbI (by omega),ZB,jI (by omega) (by omega),ZB,ZB,zu (by omega)]
    exact hrec
   rw[if_neg hp]at hrec
   have h1:=qcB hm (-g-1).toNat
   have h2:=gbnd hn (qee hg (-g-1).toNat)
   have e1:w64 (w64 (0-g)-1)=(((-g-1).toNat:Nat):Int):=by
    rw[zz (n:=0-g) (by omega) (by omega),zz (by omega) (by omega)];omega
   rw[if_neg (show¬g>0 from hp),e1,qB,qbI (by omega),ZB,qbJ (by omega) (by omega),qbt h2,ZB,jI (by rw[jh];omega) (by rw[jh];omega),ZB,ZB,zu (by omega)]
   exact hrec
  rw[if_neg (by omega),List.take_of_length_le (by omega)]
end Go.Av
end
section
namespace Go.Av
theorem qce {M:Nat}: ∀{im:List (List Int)},(∀w∈im,w.length<=M)->im.flatten.length<=im.length*M
 |[],h=>by simp
 |w::im,h=>by
  have:=qce (M:=M) (im:=im) (fun v hv=>h v (List.mem_cons_of_mem _ hv))
  have h1:=h w (List.mem_cons_self ..)
  rw[List.flatten_cons,Yq,Yr,Nat.add_mul,Nat.one_mul]
  omega
theorem qhX {u v:List Int} {g:Int} (h:u.length<=2000000):cut (u++[g]++v) (u.length:Int) (w64 ((u.length:Int)+1))=some [g]:=by
 rw[zu (by omega)]
 unfold cut
 rw[if_pos ⟨by omega,by omega,by simp;omega⟩]
 congr 1
 rw[Yz,List.drop_left' (by omega),show(((u.length+1:Nat):Int).toNat-(u.length:Int).toNat)=1 by omega]
 rfl
theorem qd8 {N n:Nat} (hN:600000<N) (hn:n<=5) {A B C:List (List Int)} {p row:List Int}
 (hA:FOK n A row) (hp:qaD n row p) (hB: ∃r,FOK n B r) (hC: ∃r,FOK n C r) (lA: ∀w∈A,w.length<=729) (lB: ∀w∈B,w.length<=729) (lC: ∀w∈C,w.length<=531441) (hR:qcS n A B C):
 ∀(K i:Nat),i<=n->n<K+i->qw N (n:Int) (A,0) (B,0) (C,0) (p,0) K (A.take i).flatten (i:Int)=some (.inl A.flatten)
 |0,i,h,hK=>by omega
 |K+1,i,h,hK=>by
  have aL:=hA.len
  have bL:=hR.yl
  have cL:=hR.zl
  unfold qw
  by_cases hi:i<n
  ·obtain⟨rB,hB'⟩:=hB
   obtain⟨rC,hC'⟩:=hC
   have gA:qbn n (A.getD i []):=qee hA.let_ i
   have gB:qbn n (B.getD i []):=qee hB'.let_ i
   have l1:=qcB lA i
   have l2:=qcB lB i
   have l3:=qcB lC i
   obtain⟨u,v,hv,rv,cv⟩:=hA.at_ i hi
   obtain⟨u',v',_,_,cv'⟩:=hC'.at_ i hi
   have eC:fred (jM A (B.getD i []))=C.getD i []:=(hR.eq_ i hi).uniq cv'.red
   have hfl:(A.take i).flatten.length<=12*729:=by
    have:=qce (M:=729) (im:=A.take i) (fun w hw=>lA w (List.mem_of_mem_take hw))
    have:(A.take i).length*729<=12*729:=Nat.mul_le_mul_right _ (by rw[List.length_take];omega)
    omega
   have gS:=gsub hA.let_ (B.getD i [])
   have lS:=lsub lA (B.getD i [])
   have lS2:(B.getD i []).length*729<=729*729:=Nat.mul_le_mul_right _ l2
   have hsub:=qh4 (N:=N) (r9:=(A,0)) (by omega) hN aL hA.let_ lA gB l2 N 0 (by omega) (by omega)
   rw[List.take_zero,qht,show((0:Nat):Int)=0 from rfl]at hsub
   have e58:=cv.eq_
   have eTake:(A.take (i+1)).flatten=(A.take i).flatten++A.getD i []:=by
    have:A.take (i+1)=A.take i++[A.getD i []]:=by
     rw[List.take_add_one,qbI (by omega)]
     rfl
    rw[this,List.flatten_append]
    simp
   have hrec:=qd8 hN hn hA hp ⟨rB,hB'⟩ ⟨rC,hC'⟩ lA lB lC hR K (i+1) (by omega) (by omega)
   rw[eTake]at hrec
   have hpv:=(hp.back hi rv).2
   have pl:=hp.pl
   rw[if_pos (by omega)]
   simp only[qB,qbI (show i<A.length by omega),qbI (show i<B.length by omega),qbI (show i<C.length by omega),ZB]
   rw[qb7 (by omega) (by omega) (by omega) gA,ZB,if_neg (by decide),qb7 (by omega) (by omega) (by omega) gB,ZB,ZB,if_neg (by decide),
    jI (by omega) (by omega),ZB,hsub,ZB,qb4 (by omega) (by omega) (gbnd (by omega) gS),ZB,eC,same_eq (by omega) (by omega),ZB,if_neg (by decide)]
   generalize A.getD i []=x at*
   subst e58
   have hul:(u++[(v:Int)+1]++qN u).length=2*u.length+1:=by
    simp only[Yq,jh,Yr,List.length_nil]
    omega
   have e1:w64 (((u++[(v:Int)+1]++qN u).length:Int).tdiv 2)=(u.length:Int):=by
    rw[hul,Int.tdiv_eq_ediv_of_nonneg (by omega),zz (by omega) (by omega)]
    omega
   have e2:((u++[(v:Int)+1]++qN u).length:Int).tmod 2=1:=by
    rw[hul,Int.tmod_eq_emod_of_nonneg (by omega)]
    omega
   have e3:(u++[(v:Int)+1]++qN u)[u.length]? =some ((v:Int)+1):=by simp
   have gu:qbn n u:=fun y hy=>gA y (by simp[hy])
   have e4:cut (u++[(v:Int)+1]++qN u) 0 (u.length:Int)=some u:=by
    rw[qaq (by omega),Yz,List.take_left' rfl]
   have e5:=qhX (u:=u) (v:=qN u) (g:=(v:Int)+1) (by omega)
   rw[e1,e2,qB,e3,decide_eq_true rfl,if_neg (by decide),ZB,if_neg (by omega),e4,ZB,e5,ZB,qcq (by omega) (by simp),ZB,ZB,qbJ (by omega) (by omega),qbt (gbnd (by omega) gu),ZB,qcq (by simp;omega) (by rw[jh];omega),ZB,same_eq (by omega) (by omega),ZB,ZB]
   dsimp only
   rw[if_neg (by decide),qB,e3,ZB,show w64 ((v:Int)+1-1)=(v:Int)by rw[zz (by omega) (by omega)];omega,qB,hpv,ZB,decide_eq_true rfl,if_neg (by decide),zu (by omega)]
   exact hrec
  rw[if_neg (by omega),List.take_of_length_le (by omega)]
theorem qfc {n:Nat} (hn:n<=12): ∀(K i:Nat),i<=n->n<K+i->qy (qai n) K (i:Int)=some (.inl ())
 |0,i,h,hK=>by omega
 |K+1,i,h,hK=>by
  have hl:(qai n).length=n:=by simp[qai]
  unfold qy
  by_cases hi:i<n
  ·have:(qai n)[i]? =some ((i:Int)+1):=by simp[qai,List.getElem?_map,List.getElem?_range hi]
   rw[if_pos (by omega),qB,this,ZB,zu (by omega),if_neg (by simp)]
   exact qfc hn K (i+1) (by omega) (by omega)
  rw[if_neg (by omega)]
theorem qfO (n:Nat):FR (qai n):=by
 refine .of ?_
 suffices∀(l:List Int),(∀y∈l,0<y)->jN l from this _ (fun y hy=>by
  simp only[qai,List.mem_map]at hy
  obtain⟨k,_,rfl⟩:=hy
  omega)
 intro l
 induction l with
 |nil=>intro _;trivial
 |cons x t ih=>
  intro h
  have hx:=h x (List.mem_cons_self ..)
  refine⟨by omega,fun y hy=>?_,ih (fun y hy=>h y (List.mem_cons_of_mem _ hy))⟩
  have:=h y (List.mem_cons_of_mem _ (List.mem_of_mem_head? hy))
  omega
theorem qdp {n:Nat} (hn:n<=12) {row p:List Int} (hp:qaD n row p) {i:Nat} (hi:i<n): ∀(K j:Nat),j<=i->i<K+j->zh p (i:Int) K (j:Int)=some (.inl ())
 |0,j,h,hK=>by omega
 |K+1,j,h,hK=>by
  unfold zh
  by_cases hj:j<i
  ·obtain⟨k,hk,ek⟩:=hp.all j (by omega)
   obtain⟨m,hm,em⟩:=hp.all i hi
   have e1:=(hp.back hk ek).2
   have e2:=(hp.back hm em).2
   have ne: ¬(k:Int)=(m:Int):=fun e=>by
    have:k=m:=by omega
    subst this
    rw[ek]at em
    have:=Ye em
    omega
   rw[if_pos (by omega),qB,e1,ZB,qB,e2,ZB,if_neg ne,zu (by omega)]
   exact qdp hn hp hi K (j+1) (by omega) (by omega)
  rw[if_neg (by omega)]
theorem qdf {N n:Nat} (hN:100<N) (hn:n<=12) {row p:List Int} (hp:qaD n row p): ∀(K i:Nat),i<=n->n<K+i->zm N p K (i:Int)=some (.inl ())
 |0,i,h,hK=>by omega
 |K+1,i,h,hK=>by
  have pl:=hp.pl
  unfold zm
  by_cases hi:i<n
  ·obtain⟨m,hm,em⟩:=hp.all i hi
   have e2:=(hp.back hm em).2
   rw[if_pos (by omega),qB,e2,ZB,if_neg (by omega),decide_eq_false (by omega),ZB,if_neg (by decide),show(0:Int)=((0:Nat):Int)from rfl,qdp hn hp hi N 0 (by omega) (by omega),ZB]
   dsimp only
   rw[zu (by omega)]
   exact qdf hN hn hp K (i+1) (by omega) (by omega)
  rw[if_neg (by omega)]
theorem qfC {N n:Nat} (hN:100<N) (hn:n<=12) {row p:List Int} (hp:qaD n row p):jC N p=some 0:=by
 have pl:=hp.pl
 unfold jC
 rw[if_neg (by omega),show(0:Int)=((0:Nat):Int)from rfl,qdf hN hn hp N 0 (by omega) (by omega),ZB]
theorem qaE {N:Nat} (hN:600000<N) (n:Int) (a b:List Int):zK N n a b=some true:=by
 unfold zK awk
 rw[qgH (by omega),qgH (by omega),ZB]
 by_cases fa:n<=5/\a.length<=6/\qaf n a=0
 ·rw[decide_eq_true fa,if_neg (by decide),ZB]
  by_cases fb:n<=5/\b.length<=6/\qaf n b=0
  ·rw[decide_eq_true fb,ZB,if_neg (by decide)]
   obtain⟨f1,f2,f3⟩:=fa
   obtain⟨_,f4,f5⟩:=fb
   obtain⟨k,rfl,Wa⟩:=qdP f3
   obtain⟨k',hk',Wb⟩:=qdP f5
   have:k'=k:=by omega
   subst this
   have hc:qaf (k':Int) (a++b)=0:=by
    have n1:=Wa.n1
    have n2:=Wa.n2
    unfold qaf
    rw[if_neg (by omega),if_neg (by simp;omega),if_pos]
    refine Yp.2 (fun x hx=>?_)
    have h:=(List.mem_append.1 hx).elim (Wa.let_ x) (Wb.let_ x)
    simp only[yA,Bool.and_eq_true,decide_eq_true_eq]
    exact⟨⟨h.1,h.2.1⟩,h.2.2⟩
   obtain⟨k2,hk2,Wc⟩:=qdP hc
   have:k2=k':=by omega
   subst this
   obtain⟨l,e,g1,g2,_,g4⟩:=qeH (N:=N) (by omega) (n:=(k2:Int)) (a:=a) (b:=b) (by omega) (by omega)
   have he:e=0:=by rw[g2,if_pos f3,if_pos f5,if_neg (by omega)]
   subst he
   obtain⟨rfl,_⟩:=g4 rfl
   obtain⟨p,row,p1,p2,p3⟩:=qh0 (N:=N) (by omega) Wa
   have lst: ∀v∈fid k2,v.length<=1:=fun v hv=>by
    simp only[fid,List.mem_map]at hv
    obtain⟨k,_,rfl⟩:=hv
    simp
   have ll: ∀{w:List Int},qar k2 w-> ∀(m:Nat),w.length<=m-> ∀v∈yz k2 w,v.length<=3^m:=fun W m hm v hv=>by
    have h1:=qbF W.let_ (vG k2) lst v hv
    have h2:=pow3 hm
    omega
   have fk: ∀{w:List Int},qar k2 w-> ∃r,FOK k2 (yz k2 w) r:=fun W=>by
    obtain⟨r,h,_⟩:=qd5 W.let_ (FOK.start k2 (row:=xA k2) (fun k hk=>vW hk)) (xG k2)
    exact⟨r,h⟩
   have fl: ∀w,(yz k2 w).length=k2:=fun w=>by unfold yz;rw[xy k2,vG]
   have lA:=ll Wa 6 f2
   have lB:=ll Wb 6 f4
   have lC:=ll Wc 12 (by simp;omega)
   have main:=qd8 hN (by omega) p3 p2 (fk Wb) (fk Wc) lA lB lC (qfR Wa.let_ Wb.let_) N 0 (by omega) (by omega)
   rw[List.take_zero,List.flatten_nil,show((0:Nat):Int)=0 from rfl]at main
   have hP:yP N (k2:Int) a=some (p,0):=by
    unfold yP
    rw[qaQ (by omega) (by omega),ZB,f3,if_neg (by decide),p1,ZB]
   rw[g1,ZB,qdv hN Wa (by omega) f3,ZB,qdv hN Wb (by omega) f5,ZB,qdv hN Wc (by simp;omega) hc,ZB,hP,ZB]
   have z:decide (w64 (w64 (w64 (w64 ((0:Int)+0)+0)+0)+0)=0)=true:=by rfl
   simp only[fl,p2.pl,z,decide_true,Bool.not_true,ZF,if_false]
   rw[qfC (by omega) (by omega) p2]
   simp only[ZB,decide_true,Bool.not_true,ZF,if_false]
   rw[main,ZB]
   dsimp only
   have hflat:=qce lA
   rw[fl]at hflat
   have hf2:k2*3^6<=5*729:=Nat.mul_le_mul (by omega) (by decide)
   have hlet: ∀y∈(yz k2 a).flatten,-1000<y/\y<1000:=fun y hy=>by
    obtain⟨w,hw,hyw⟩:=List.mem_flatten.1 hy
    have:=p3.let_ w hw y hyw
    omega
   rw[qb4 (by omega) (by omega) hlet,ZB,p3.prod.uniq (qfO k2),show(0:Int)=((0:Nat):Int)from rfl,qfc (n:=k2) (by omega) N 0 (by omega) (by omega),ZB]
   dsimp only
   rw[if_pos (by simp[qai])]
   rfl
  rw[decide_eq_false fb]
  rfl
 rw[decide_eq_false fa]
 rfl
end Go.Av
end
