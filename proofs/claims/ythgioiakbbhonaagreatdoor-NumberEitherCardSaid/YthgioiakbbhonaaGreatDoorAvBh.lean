/-
  Two rows taken out of rows of rows at a time, and given back.
-/
import Derived.Test.YthgioiakbbhonaaGreatDoorAvWa
noncomputable section
namespace Go.Av
set_option linter.unusedSectionVars false
set_option linter.unusedVariables false
set_option maxRecDepth 100000
theorem bn2 {α β ρ:Type} {f0:Option α} {f1:α->Option β} {F:α->β->Option ρ} {r:ρ} (h:((f0).bind λa=>(f1 a).bind λb=>F a b)=some r): ∃a,f0=some a/\ ∃b,f1 a=some b/\F a b=some r:=
 let⟨a,g,h⟩:=aG.1 h;⟨a,g,aG.1 h⟩
theorem bn3 {α β γ ρ:Type} {f0:Option α} {f1:α->Option β} {f2:α->β->Option γ} {F:α->β->γ->Option ρ} {r:ρ} (h:((f0).bind λa=>(f1 a).bind λb=>(f2 a b).bind λc=>F a b c)=some r): ∃a,f0=some a/\ ∃b,f1 a=some b/\ ∃c,f2 a b=some c/\F a b c=some r:=
 let⟨a,g,h⟩:=aG.1 h;⟨a,g,bn2 h⟩
theorem bn4 {α β γ δ ρ:Type} {f0:Option α} {f1:α->Option β} {f2:α->β->Option γ} {f3:α->β->γ->Option δ} {F:α->β->γ->δ->Option ρ} {r:ρ} (h:((f0).bind λa=>(f1 a).bind λb=>(f2 a b).bind λc=>(f3 a b c).bind λd=>F a b c d)=some r): ∃a,f0=some a/\ ∃b,f1 a=some b/\ ∃c,f2 a b=some c/\ ∃d,f3 a b c=some d/\F a b c d=some r:=
 let⟨a,g,h⟩:=aG.1 h;⟨a,g,bn3 h⟩
theorem bn5 {α β γ δ ε ρ:Type} {f0:Option α} {f1:α->Option β} {f2:α->β->Option γ} {f3:α->β->γ->Option δ} {f4:α->β->γ->δ->Option ε} {F:α->β->γ->δ->ε->Option ρ} {r:ρ} (h:((f0).bind λa=>(f1 a).bind λb=>(f2 a b).bind λc=>(f3 a b c).bind λd=>(f4 a b c d).bind λe=>F a b c d e)=some r): ∃a,f0=some a/\ ∃b,f1 a=some b/\ ∃c,f2 a b=some c/\ ∃d,f3 a b c=some d/\ ∃e,f4 a b c d=some e/\F a b c d e=some r:=
 let⟨a,g,h⟩:=aG.1 h;⟨a,g,bn4 h⟩
theorem bn6 {α β γ δ ε ζ ρ:Type} {f0:Option α} {f1:α->Option β} {f2:α->β->Option γ} {f3:α->β->γ->Option δ} {f4:α->β->γ->δ->Option ε} {f5:α->β->γ->δ->ε->Option ζ} {F:α->β->γ->δ->ε->ζ->Option ρ} {r:ρ} (h:((f0).bind λa=>(f1 a).bind λb=>(f2 a b).bind λc=>(f3 a b c).bind λd=>(f4 a b c d).bind λe=>(f5 a b c d e).bind λi=>F a b c d e i)=some r): ∃a,f0=some a/\ ∃b,f1 a=some b/\ ∃c,f2 a b=some c/\ ∃d,f3 a b c=some d/\ ∃e,f4 a b c d=some e/\ ∃i,f5 a b c d e=some i/\F a b c d e i=some r:=
 let⟨a,g,h⟩:=aG.1 h;⟨a,g,bn5 h⟩
theorem bn7 {α β γ δ ε ζ η ρ:Type} {f0:Option α} {f1:α->Option β} {f2:α->β->Option γ} {f3:α->β->γ->Option δ} {f4:α->β->γ->δ->Option ε} {f5:α->β->γ->δ->ε->Option ζ} {f6:α->β->γ->δ->ε->ζ->Option η} {F:α->β->γ->δ->ε->ζ->η->Option ρ} {r:ρ} (h:((f0).bind λa=>(f1 a).bind λb=>(f2 a b).bind λc=>(f3 a b c).bind λd=>(f4 a b c d).bind λe=>(f5 a b c d e).bind λi=>(f6 a b c d e i).bind λj=>F a b c d e i j)=some r): ∃a,f0=some a/\ ∃b,f1 a=some b/\ ∃c,f2 a b=some c/\ ∃d,f3 a b c=some d/\ ∃e,f4 a b c d=some e/\ ∃i,f5 a b c d e=some i/\ ∃j,f6 a b c d e i=some j/\F a b c d e i j=some r:=
 let⟨a,g,h⟩:=aG.1 h;⟨a,g,bn6 h⟩
theorem bn8 {α β γ δ ε ζ η θ ρ:Type} {f0:Option α} {f1:α->Option β} {f2:α->β->Option γ} {f3:α->β->γ->Option δ} {f4:α->β->γ->δ->Option ε} {f5:α->β->γ->δ->ε->Option ζ} {f6:α->β->γ->δ->ε->ζ->Option η} {f7:α->β->γ->δ->ε->ζ->η->Option θ} {F:α->β->γ->δ->ε->ζ->η->θ->Option ρ} {r:ρ} (h:((f0).bind λa=>(f1 a).bind λb=>(f2 a b).bind λc=>(f3 a b c).bind λd=>(f4 a b c d).bind λe=>(f5 a b c d e).bind λi=>(f6 a b c d e i).bind λj=>(f7 a b c d e i j).bind λk=>F a b c d e i j k)=some r): ∃a,f0=some a/\ ∃b,f1 a=some b/\ ∃c,f2 a b=some c/\ ∃d,f3 a b c=some d/\ ∃e,f4 a b c d=some e/\ ∃i,f5 a b c d e=some i/\ ∃j,f6 a b c d e i=some j/\ ∃k,f7 a b c d e i j=some k/\F a b c d e i j k=some r:=
 let⟨a,g,h⟩:=aG.1 h;⟨a,g,bn7 h⟩
theorem bs1 {α ρ:Type} {f0:Option α} {F:α->ρ} {r:ρ} (h:((f0).bind λa=>some (F a))=some r): ∃a,f0=some a/\F a=r:=
 let⟨a,g,h⟩:=aG.1 h;⟨a,g,Ye h⟩
theorem bs2 {α β ρ:Type} {f0:Option α} {f1:α->Option β} {F:α->β->ρ} {r:ρ} (h:((f0).bind λa=>(f1 a).bind λb=>some (F a b))=some r): ∃a,f0=some a/\ ∃b,f1 a=some b/\F a b=r:=
 let⟨a,g,h⟩:=aG.1 h;⟨a,g,bs1 h⟩
theorem bs3 {α β γ ρ:Type} {f0:Option α} {f1:α->Option β} {f2:α->β->Option γ} {F:α->β->γ->ρ} {r:ρ} (h:((f0).bind λa=>(f1 a).bind λb=>(f2 a b).bind λc=>some (F a b c))=some r): ∃a,f0=some a/\ ∃b,f1 a=some b/\ ∃c,f2 a b=some c/\F a b c=r:=
 let⟨a,g,h⟩:=aG.1 h;⟨a,g,bs2 h⟩
theorem bs4 {α β γ δ ρ:Type} {f0:Option α} {f1:α->Option β} {f2:α->β->Option γ} {f3:α->β->γ->Option δ} {F:α->β->γ->δ->ρ} {r:ρ} (h:((f0).bind λa=>(f1 a).bind λb=>(f2 a b).bind λc=>(f3 a b c).bind λd=>some (F a b c d))=some r): ∃a,f0=some a/\ ∃b,f1 a=some b/\ ∃c,f2 a b=some c/\ ∃d,f3 a b c=some d/\F a b c d=r:=
 let⟨a,g,h⟩:=aG.1 h;⟨a,g,bs3 h⟩
theorem bs5 {α β γ δ ε ρ:Type} {f0:Option α} {f1:α->Option β} {f2:α->β->Option γ} {f3:α->β->γ->Option δ} {f4:α->β->γ->δ->Option ε} {F:α->β->γ->δ->ε->ρ} {r:ρ} (h:((f0).bind λa=>(f1 a).bind λb=>(f2 a b).bind λc=>(f3 a b c).bind λd=>(f4 a b c d).bind λe=>some (F a b c d e))=some r): ∃a,f0=some a/\ ∃b,f1 a=some b/\ ∃c,f2 a b=some c/\ ∃d,f3 a b c=some d/\ ∃e,f4 a b c d=some e/\F a b c d e=r:=
 let⟨a,g,h⟩:=aG.1 h;⟨a,g,bs4 h⟩
theorem bs6 {α β γ δ ε ζ ρ:Type} {f0:Option α} {f1:α->Option β} {f2:α->β->Option γ} {f3:α->β->γ->Option δ} {f4:α->β->γ->δ->Option ε} {f5:α->β->γ->δ->ε->Option ζ} {F:α->β->γ->δ->ε->ζ->ρ} {r:ρ} (h:((f0).bind λa=>(f1 a).bind λb=>(f2 a b).bind λc=>(f3 a b c).bind λd=>(f4 a b c d).bind λe=>(f5 a b c d e).bind λi=>some (F a b c d e i))=some r): ∃a,f0=some a/\ ∃b,f1 a=some b/\ ∃c,f2 a b=some c/\ ∃d,f3 a b c=some d/\ ∃e,f4 a b c d=some e/\ ∃i,f5 a b c d e=some i/\F a b c d e i=r:=
 let⟨a,g,h⟩:=aG.1 h;⟨a,g,bs5 h⟩
theorem bs7 {α β γ δ ε ζ η ρ:Type} {f0:Option α} {f1:α->Option β} {f2:α->β->Option γ} {f3:α->β->γ->Option δ} {f4:α->β->γ->δ->Option ε} {f5:α->β->γ->δ->ε->Option ζ} {f6:α->β->γ->δ->ε->ζ->Option η} {F:α->β->γ->δ->ε->ζ->η->ρ} {r:ρ} (h:((f0).bind λa=>(f1 a).bind λb=>(f2 a b).bind λc=>(f3 a b c).bind λd=>(f4 a b c d).bind λe=>(f5 a b c d e).bind λi=>(f6 a b c d e i).bind λj=>some (F a b c d e i j))=some r): ∃a,f0=some a/\ ∃b,f1 a=some b/\ ∃c,f2 a b=some c/\ ∃d,f3 a b c=some d/\ ∃e,f4 a b c d=some e/\ ∃i,f5 a b c d e=some i/\ ∃j,f6 a b c d e i=some j/\F a b c d e i j=r:=
 let⟨a,g,h⟩:=aG.1 h;⟨a,g,bs6 h⟩
section
variable [Glob] {P:Program} {o p q r s t u v:Obl}
theorem qh (o1:o.Holds P):qb2 P [o]:=⟨o1,trivial⟩
theorem qA (o1:o.Holds P) (p1:p.Holds P):qb2 P [o,p]:=⟨o1,p1,trivial⟩
theorem qI (o1:o.Holds P) (p1:p.Holds P) (q1:q.Holds P):qb2 P [o,p,q]:=⟨o1,p1,q1,trivial⟩
theorem zM (o1:o.Holds P) (p1:p.Holds P) (q1:q.Holds P) (r1:r.Holds P):qb2 P [o,p,q,r]:=⟨o1,p1,q1,r1,trivial⟩
theorem qbj (o1:o.Holds P) (p1:p.Holds P) (q1:q.Holds P) (r1:r.Holds P) (s1:s.Holds P):qb2 P [o,p,q,r,s]:=⟨o1,p1,q1,r1,s1,trivial⟩
theorem qcE (o1:o.Holds P) (p1:p.Holds P) (q1:q.Holds P) (r1:r.Holds P) (s1:s.Holds P) (t1:t.Holds P):qb2 P [o,p,q,r,s,t]:=⟨o1,p1,q1,r1,s1,t1,trivial⟩
theorem qhi (o1:o.Holds P) (p1:p.Holds P) (q1:q.Holds P) (r1:r.Holds P) (s1:s.Holds P) (t1:t.Holds P) (u1:u.Holds P):qb2 P [o,p,q,r,s,t,u]:=⟨o1,p1,q1,r1,s1,t1,u1,trivial⟩
theorem qkW (o1:o.Holds P) (p1:p.Holds P) (q1:q.Holds P) (r1:r.Holds P) (s1:s.Holds P) (t1:t.Holds P) (u1:u.Holds P) (v1:v.Holds P):qb2 P [o,p,q,r,s,t,u,v]:=⟨o1,p1,q1,r1,s1,t1,u1,v1,trivial⟩
theorem qie (o1:o.Holds P) (p1:p.Holds P) (q1:q.Holds P) (r1:r.Holds P) (s1:s.Holds P) (t1:t.Holds P) (u1:u.Holds P) (v1:v.Holds P) {l:List Obl} (h:qb2 P l):qb2 P (o::p::q::r::s::t::u::v::l):=⟨o1,p1,q1,r1,s1,t1,u1,v1,h⟩
theorem zo [Base] {C:Nat->St->Prop} {m:Nat} {s:St} (h:C m s): ∃m' s',m'<m+1/\Sub s s'/\C m' s':=⟨m,s,aQ _,Sub.refl _,h⟩
end
section
variable [Glob] [Base] {P:Program} {α:Type}
theorem qkz {β:Type} {rows:List β} {i j:Int} {x y:β} (hi:idx rows i=some x) (hj:idx rows j=some y) (h: ¬i=j):i.toNat≠j.toNat:=by
 obtain⟨a1,_,_⟩:=xI hi;obtain⟨b1,_,_⟩:=xI hj;omega
theorem Sub.bagTake2 {E:Enc α} {fr:Fr} {A:Heap} {b:Nat} {rows:List (List α)} {i j:Int} {x y:List α} {a:AV} (hA:A[b]? =some (.bag ((rows.map (xu E)).set i.toNat (.av a)))) (hi:idx rows i=some x) (hj:idx rows j=some y) (hn: ¬i=j):
 Sub (fr,A) (fr,A.set b (.bag (((rows.map (xu E)).set i.toNat (.av a)).set j.toNat (.av (.gslice A.length y.length E.k))))++[.cells (y.flatMap E.c)]):=
 Sub.bagTake hA (by rw[Yw (qkz hi hj hn)];exact qmn hj)
theorem Sub.bagGive2 {E:Enc α} {fr:Fr} {A:Heap} {b c n:Nat} {rows:List (List α)} {i j:Int} {x y l:List α} {a a2:AV} (hne:b≠c) (hA:A[b]? =some (.bag (((rows.map (xu E)).set i.toNat (.av a)).set j.toNat (.av a2)))) (hC:A[c]? =some (.cells (l.flatMap E.c)))
 (hi:idx rows i=some x) (hj:idx rows j=some y) (hn: ¬i=j) (ha:qg7 c n E.k a2) (hl:n=l.length):Sub (fr,A) (fr,(A.set b (.bag (((qaw rows j l).map (xu E)).set i.toNat (.av a)))).set c .dead):=by
 subst hl
 have e:Blk.bag (((qaw rows j l).map (xu E)).set i.toNat (.av a))= .bag ((((rows.map (xu E)).set i.toNat (.av a)).set j.toNat (.av a2)).set j.toNat (xu E l)):=by
  unfold qaw;rw[bx,ef,cg _ _ (qkz hi hj hn)]
 rw[e];refine Us hne hA hC ?_ ha;rw[List.getElem?_set,ae rfl,ae (by rw[Yk];exact qgr hj)]
theorem ihF {β:Type} {p:Prop} [Decidable p] {x y r:β} {G:Prop} (h:(if p then x else y)=r) (ht:decide p=true->x=r->G) (hf:decide p=false->y=r->G):G:=by
 by_cases c:p
 ·rw[ae c]at h;exact ht (ai c) h
 rw[aa c]at h;exact hf (ah c) h
theorem qcH {es:List Ent} {k j:Nat} {y:Ent} (h:k<es.length):k<(es.set j y).length:=by rw[Yk];exact h
theorem qq9 {E:Enc α} {rows:List (List α)} {i j:Int} {x y:List α} (hi:idx rows i=some x) (hj:idx rows j=some y) (hn: ¬i=j) {a c:Ent}:(((rows.map (xu E)).set i.toNat a).set j.toNat c)[i.toNat]? =some a:=by
 rw[Yw (Ne.symm (qkz hi hj hn))];exact at_set hi
theorem qny {E:Enc α} {rows:List (List α)} {i j:Int} {x y:List α} (hi:idx rows i=some x) (hj:idx rows j=some y) (hn: ¬i=j) {a c:Ent}:(((rows.map (xu E)).set i.toNat a).set j.toNat c)[j.toNat]? =some c:=by
 rw[List.getElem?_set_self (qcH (qgr hj))]
theorem qk5 {β:Type} {rows:List β} {i:Int} {x:β} (h:idx rows i=some x):rows.set i.toNat x=rows:=by
 obtain⟨_,_,g⟩:=xI h;obtain⟨h1,h2⟩:=Yb.1 g;rw[<-h2];exact List.set_getElem_self h1
theorem Uj {E:Enc α} {fr:Fr} {A:Heap} {b c n:Nat} {rows:List (List α)} {i:Int} {x:List α} {a:AV} (hne:b≠c) (hA:A[b]? =some (.bag ((rows.map (xu E)).set i.toNat (.av a)))) (hC:A[c]? =some (.cells (x.flatMap E.c)))
 (h:idx rows i=some x) (ha:qg7 c n E.k a) (hn:n=x.length):Sub (fr,A) (fr,(A.set b (bg E rows)).set c .dead):=by
 have:=Sub.bagGive1 (fr:=fr) hne hA hC h ha hn
 rwa [show qaw rows i x=rows from qk5 h]at this
theorem Sub.bagBack2 {E:Enc α} {fr:Fr} {A:Heap} {b c n:Nat} {rows:List (List α)} {i j:Int} {x y:List α} {a a2:AV} (hne:b≠c) (hA:A[b]? =some (.bag (((rows.map (xu E)).set i.toNat (.av a)).set j.toNat (.av a2)))) (hC:A[c]? =some (.cells (y.flatMap E.c)))
 (hi:idx rows i=some x) (hj:idx rows j=some y) (hn: ¬i=j) (ha:qg7 c n E.k a2) (hl:n=y.length):Sub (fr,A) (fr,(A.set b (.bag ((rows.map (xu E)).set i.toNat (.av a)))).set c .dead):=by
 have:=Sub.bagGive2 (fr:=fr) hne hA hC hi hj hn ha hl
 rwa [show qaw rows j y=rows from qk5 hj]at this
theorem Sub.bagSwap {E:Enc α} {fr:Fr} {A:Heap} {b c d n m:Nat} {rows:List (List α)} {i j:Int} {x y:List α} {a a2:AV} (hbc:b≠c) (hbd:b≠d) (hcd:c≠d)
 (hA:A[b]? =some (.bag (((((rows.map (xu E)).set i.toNat (.av a)).set j.toNat (.av a2)).set j.toNat (.av a)).set i.toNat (.av a2)))) (hC:A[c]? =some (.cells (x.flatMap E.c))) (hD:A[d]? =some (.cells (y.flatMap E.c)))
 (hi:idx rows i=some x) (hj:idx rows j=some y) (hn: ¬i=j) (ha:qg7 c n E.k a) (ha2:qg7 d m E.k a2) (h1:n=x.length) (h2:m=y.length):
 Sub (fr,A) (fr,(((A.set b (bg E (qaw (qaw rows j x) i y))).set d .dead).set c .dead)):=by
 subst h1 h2;have hne:=qkz hi hj hn;have li:=qgr (E:=E) hi;have lj:=qgr (E:=E) hj;generalize he:(((((rows.map (xu E)).set i.toNat (.av a)).set j.toNat (.av a2)).set j.toNat (.av a)).set i.toNat (.av a2))=es at hA
 have ej:es[j.toNat]? =some (.av a):=by
  rw[<-he,Yw hne,List.getElem?_set_self (by simpa using lj)]
 have ei:es[i.toNat]? =some (.av a2):=by
  rw[<-he,List.getElem?_set_self (by simpa using li)]
 have s1:=Us (fr:=fr) hbc hA hC ej ha
 have hb:((A.set b (.bag (es.set j.toNat (xu E x)))).set c .dead)[b]? =some (.bag (es.set j.toNat (xu E x))):=by
  rw[Yw (Ne.symm hbc),List.getElem?_set_self (qde hA)]
 have hd:((A.set b (.bag (es.set j.toNat (xu E x)))).set c .dead)[d]? =some (.cells (y.flatMap E.c)):=by
  rw[Yw hcd,Yw hbd,hD]
 have s2:=Us (fr:=fr) hbd hb hd (by rw[Yw (Ne.symm hne)];exact ei) ha2;refine(s1.trans s2).trans ?_
 have e:Blk.bag ((es.set j.toNat (xu E x)).set i.toNat (xu E y))=bg E (qaw (qaw rows j x) i y):=by
  unfold bg qaw;rw[<-he,ef,ef];congr 1;rw[cg _ _ (Ne.symm hne),bx,cg _ _ hne,bx,cg _ _ (Ne.symm hne),cg _ _ hne,bx,cg _ _ (Ne.symm hne),bx,cg _ _ hne]
 have e3:(((A.set b (.bag (es.set j.toNat (xu E x)))).set c .dead).set b (bg E (qaw (qaw rows j x) i y))).set d .dead=((A.set b (bg E (qaw (qaw rows j x) i y))).set d .dead).set c .dead:=by
  rw[cg Blk.dead (bg E (qaw (qaw rows j x) i y)) (Ne.symm hbc),bx,cg Blk.dead Blk.dead hcd]
 rw[e,e3];exact Sub.refl _
theorem Sub.bagSame {E:Enc α} {fr:Fr} {A:Heap} {b c n:Nat} {rows:List (List α)} {i:Int} {x:List α} {a:AV} (hne:b≠c) (hA:A[b]? =some (.bag ((((rows.map (xu E)).set i.toNat (.av a)).set i.toNat (.av a)).set i.toNat (.av a)))) (hC:A[c]? =some (.cells (x.flatMap E.c)))
 (h:idx rows i=some x) (ha:qg7 c n E.k a) (hn:n=x.length):Sub (fr,A) (fr,(A.set b (bg E rows)).set c .dead):=by
 rw[bx,bx]at hA;exact Uj hne hA hC h ha hn
def qbZ (b n j k:Nat):AV:=if j=n then .fslice 0 []else if j=0 then .oslice b n k else .wslice b (j*k) (n-j) k
theorem qpH {t e:TypeId} {k b:Nat} (T:SlT P t e k b) {l:List α} {o j:Nat} {i:Int} (h:at' l i=some j):(Obl.done (.opt (qC P t (.gslice o l.length k) (some (.int .i64 i)) none none)) (qbZ o l.length j k)).Holds P:=by
 obtain⟨inf,z,g1,g2,_⟩:=T.info;obtain⟨h1,h2,rfl⟩:=qhN h;have hb:=qhS (n:=l.length) (cap:=l.length) (lo:=some i) (hi:=none) rfl rfl (ag _) ⟨h1,by simpa using h2,by simp⟩;show Pg.opt _=_;simp only[opI,bO,YN,aL]at hb;unfold qbZ;by_cases e0:i.toNat=l.length
 ·have e1:i.toNat=l.length/\(0<i.toNat\/l.length=0):=⟨e0,by omega⟩;simp only[qC,T.und,g1,aW,ZF,aU,hb,g2,Pg.opt,ae e1,ae e0]
 have e1: ¬(i.toNat=l.length/\(0<i.toNat\/l.length=0)):=λh=>e0 h.1
 by_cases e2:i.toNat=0
 ·simp only[qC,T.und,g1,aW,ZF,aU,hb,g2,Pg.opt,aa e1,aa e0,ae e2,aJ]
 simp only[qC,T.und,g1,aW,ZF,aU,hb,g2,Pg.opt,aa e1,aa e0,aa e2,aJ]
theorem qnS {n:Nat} {l:List α} (hn:n=l.length) {t e:TypeId} {k b:Nat} (T:SlT P t e k b) {o j:Nat} {i:Int} (h:at' l i=some j):(Obl.done (.opt (qC P t (.gslice o n k) (some (.int .i64 i)) none none)) (qbZ o l.length j k)).Holds P:=by
 subst hn;exact qpH T h
theorem len_X {t e:TypeId} {k b:Nat} (T:SlT P t e k b) {l:List α} {o j:Nat} (h:j<=l.length):(Obl.done (yE P .len [t] [qbZ o l.length j k]) (.int .i64 ((l.drop j).length:Int))).Holds P:=by
 show yE P .len [t] _=_;simp only[yE,T.und,YJ];unfold qbZ;by_cases e0:j=l.length
 ·rw[ae e0,e0,bR];rfl
 rw[aa e0];by_cases e1:j=0
 ·rw[ae e1,e1,cR];rfl
 rw[aa e1];rfl
theorem qq2 (b n j k:Nat):qbZ b n j k= .fslice 0 []\/qbZ b n j k= .oslice b n k\/qbZ b n j k= .wslice b (j*k) (n-j) k:=by
 unfold qbZ;by_cases e0:j=n
 ·exact .inl (ae e0)
 rw[aa e0];by_cases e1:j=0
 ·exact .inr (.inl (ae e1))
 exact .inr (.inr (aa e1))
theorem qsr {A:Heap} {t e:TypeId} {k b:Nat} (T:SlT P t e k b) {l:List α} {o j:Nat} (h:j<=l.length):(Obl.run (refsOf (qbZ o l.length j k)) (yE P .len [t] [qbZ o l.length j k]) A (.int .i64 ((l.drop j).length:Int)) A false).Holds P:=by
 have e:yE P .len [t] [qbZ o l.length j k]= .done (.int .i64 ((l.drop j).length:Int)):=len_X T h;rw[e];exact⟨[],rfl,rfl⟩
theorem Fz.fxF {A:Heap} {S:List Nat} {d:Nat} {E:Enc α} {l:List α} {b j:Nat} (hS:S.contains b=true) (hA:A[b]? =some (.frozen (l.flatMap E.c))) (hj:j<=l.length) (hd:E.dep<=d):Fz A S (d+1) (qbZ b l.length j E.k) (vl E (l.drop j)):=by
 have ed:(l.flatMap E.c).drop (j*E.k)=(l.drop j).flatMap E.c:=by
  have:l.flatMap E.c=(l.take j).flatMap E.c++(l.drop j).flatMap E.c:=by rw[<-List.flatMap_append,YS]
  rw[this,cx (by rw[E.flat_len,Ym,aP hj];exact ag _),aA (by rw[E.flat_len,Ym,aP hj];exact ag _),bn]
 have et: ∀m:List α,(m.flatMap E.c).take (m.length*E.k)=m.flatMap E.c:=λm=>by rw[<-E.flat_len,bJ]
 unfold qbZ;by_cases e0:j=l.length
 ·rw[ae e0,e0,List.drop_length];rfl
 rw[aa e0];by_cases e1:j=0
 ·rw[ae e1,e1,YR];exact Fz.osF hS hA hd
 rw[aa e1]
 have el:l.length-j=(l.drop j).length:=by rw[YJ]
 unfold Fz
 conv=>lhs;unfold frz
 simp only[hS,aJ,hA,ed,el,et,zX (E.flat_still (l.drop j) hd),ZM];rfl
end
end Go.Av
