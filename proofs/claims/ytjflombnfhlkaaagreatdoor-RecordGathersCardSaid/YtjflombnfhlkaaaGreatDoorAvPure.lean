/-
  Calls that see their arguments by value: the callee runs on an empty heap, its results are handed over by value.
-/
import Derived.Test.YtjflombnfhlkaaaGreatDoorAvFun
noncomputable section
namespace Go.Av
set_option linter.unusedSectionVars false
variable [Glob]
open Go.RowKit
def frz (A:Heap) (S:List Nat):Nat→AV→Option AV
 |0,_=>none
 |d+1,a=>match a with
  | .ptr b off=>if S.contains b then match A[b]? with
   |some (.cells cs)=>(cs.mapM (frz A S d)).map fun cs=> .fptr cs off
   |some (.frozen cs)=>(cs.mapM (frz A S d)).map fun cs=> .fptr cs off
   |_=>none
   else none
  | .slice b off n _ esz=>if S.contains b then match A[b]? with
   |some (.cells cs)=>(((cs.drop off).take (n*esz)).mapM (frz A S d)).map fun cs=> .fslice n cs
   |some (.frozen cs)=>(((cs.drop off).take (n*esz)).mapM (frz A S d)).map fun cs=> .fslice n cs
   |_=>none
   else none
  | .oslice b n esz=>if S.contains b then match A[b]? with
   |some (.cells cs)=>((cs.take (n*esz)).mapM (frz A S d)).map fun cs=> .fslice n cs
   |some (.frozen cs)=>((cs.take (n*esz)).mapM (frz A S d)).map fun cs=> .fslice n cs
   |_=>none
   else none
  | .gslice b n esz=>if S.contains b then match A[b]? with
   |some (.cells cs)=>((cs.take (n*esz)).mapM (frz A S d)).map fun cs=> .fslice n cs
   |some (.frozen cs)=>((cs.take (n*esz)).mapM (frz A S d)).map fun cs=> .fslice n cs
   |_=>none
   else none
  | .wslice b off n esz=>if S.contains b then match A[b]? with
   |some (.cells cs)=>(((cs.drop off).take (n*esz)).mapM (frz A S d)).map fun cs=> .fslice n cs
   |some (.frozen cs)=>(((cs.drop off).take (n*esz)).mapM (frz A S d)).map fun cs=> .fslice n cs
   |_=>none
   else none
  | .map b=>if S.contains b then match A[b]? with
   |some (.map ks vs)=>match ks.mapM (frz A S d),vs.mapM (frz A S d)with
    |some ks,some vs=>some (.fmap ks vs)
    |_,_=>none
   |_=>none
   else none
  | .fptr cs off=>(cs.mapM (frz A S d)).map fun cs=> .fptr cs off
  | .fslice n cs=>(cs.mapM (frz A S d)).map fun cs=> .fslice n cs
  | .fmap ks vs=>match ks.mapM (frz A S d),vs.mapM (frz A S d)with
    |some ks,some vs=>some (.fmap ks vs)
    |_,_=>none
  | .func fn fs cs=>match fs.mapM (frz A S d),cs.mapM (frz A S d)with
    |some fs,some cs=>some (.func fn fs cs)
    |_,_=>none
  | .iface t v=>(frz A S d v).map (.iface t)
  | .agg cs=>(cs.mapM (frz A S d)).map .agg
  | .tuple cs=>(cs.mapM (frz A S d)).map .tuple
  | .yld _=>none
  |a=>some a
def flat:Nat→AV→Bool
 |0,_=>false
 |d+1,a=>match a with
  | .undef=>true
  | .bool _=>true
  | .int _ _=>true
  | .str _=>true
  | .nilptr=>true
  | .nilslice=>true
  | .nilmap=>true
  | .nilfunc=>true
  | .niliface=>true
  | .fslice n cs=>decide (n=0)&&cs.isEmpty
  | .iface _ v=>flat d v
  | .agg cs=>cs.all (flat d)
  | .tuple cs=>cs.all (flat d)
  |_=>false
def qdV:Blk→Blk
 | .cells cs=> .frozen cs
 | .frozen cs=> .frozen cs
 |_=> .dead
def kz (S:List Nat) (A:Heap):Heap:=S.foldl (fun A b=>match A[b]? with
 |some k=>A.set b (qdV k)
 |none=>A) A
def qhS (call:zM) (pl:FuncId→Bool):zM:=fun c args A=>
 match c with
 | .fn f=>if pl f then
  let S:=qbD A 20 (qer [] (args.flatMap (j4 4)))
  match args.mapM (frz A S 12)with
  |some args'=>match call c args' []with
   |some (v,Al)=>match frz Al (List.range Al.length) 12 v with
    |some v'=>if flat 6 v' then some (v',A)else some (v',kz S A)
    |none=>none
   |none=>none
  |none=>none
  else call c args A
 | .rd _=>call c args A
 | .mt _ _=>call c args A
theorem mapM_some {f:AV→Option AV}: ∀{xs ys:List AV},xs.mapM f=some ys→ys.length=xs.length∧ ∀(i:Nat) (y:AV),ys[i]? =some y→ ∃x,xs[i]? =some x∧f x=some y:=by
 intro xs
 induction xs with
 |nil=>intro ys h;simp at h;subst h;exact⟨rfl,by simp⟩
 |cons x xs ih=>
  intro ys h
  rw[List.mapM_cons]at h
  cases hx:f x with
  |none=>simp[hx]at h
  |some y=>
   cases hxs:xs.mapM f with
   |none=>simp[hx,hxs]at h
   |some zs=>
    simp only[hx,hxs,Option.pure_def,Option.bind_eq_bind,Option.bind_some,Option.some.injEq]at h
    subst h
    obtain⟨h1,h2⟩:=ih hxs
    refine⟨by simp[h1],fun i z hz=>?_⟩
    cases i with
    |zero=>simp at hz;subst hz;exact⟨x,rfl,hx⟩
    |succ i=>exact h2 i z (by simpa using hz)
section
variable {F:Nat→Prop} {nu:Nat→Option Nat} {A:Heap} {w:World}
def FS (F:Nat→Prop) (nu:Nat→Option Nat) (A:Heap) (S:List Nat):Nat→Prop:=fun rb=>F rb∨ ∃b x,b∈S∧nu b=some rb∧A[b]? =some x∧x.owned=true
theorem cell_of_heap {rb off i:Nat} {vs:Array Value} {e:TypeId} {fr:Nat×Nat} {v:Value} (h:w.heap[rb]? =some (.cells vs e fr)) (hv:vs[off+i]? =some v):w.cell? ((⟨rb,off,none⟩:Addr).add i)=some v:=by
 rw[jR]
 simp[World.cell?,h,hv]
theorem qeY (i:Inv F nu A w) {S:List Nat}: ∀(d:Nat) {a a':AV} {v:Value},frz A S d a=some a'→R F nu w a v→R (FS F nu A S) (fun _=>none) w a' v:=by
 intro d
 induction d with
 |zero=>intro a a' v h;simp[frz]at h
 |succ d ih=>
  intro a a' v h hR
  have hF: ∀rb,F rb→FS F nu A S rb:=fun rb h=> .inl h
  have hlist: ∀{cs cs':List AV} {vs:List Value},cs.mapM (frz A S d)=some cs'→vs.length=cs.length→(∀(j:Nat) (a:AV) (v:Value),cs[j]? =some a→vs[j]? =some v→R F nu w a v)→
   vs.length=cs'.length∧ ∀(j:Nat) (a:AV) (v:Value),cs'[j]? =some a→vs[j]? =some v→R (FS F nu A S) (fun _=>none) w a v:=by
   intro cs cs' vs hm hl hr
   obtain⟨h1,h2⟩:=mapM_some hm
   refine⟨by omega,fun j a v ha hv=>?_⟩
   obtain⟨x,hx1,hx2⟩:=h2 j a ha
   exact ih hx2 (hr j x v hx1 hv)
  have hrow: ∀{b rb off:Nat} {k:Blk} {cs cs':List AV},nu b=some rb→S.contains b=true→A[b]? =some k→(k= .cells cs∨k= .frozen cs)→ ∀(sub:List AV),(∀(j:Nat) (a:AV),sub[j]? =some a→cs[off+j]? =some a)→sub.mapM (frz A S d)=some cs'→
   FS F nu A S rb∧ ∃vs:List Value,vs.length=cs'.length∧(∀(j:Nat) (v:Value),vs[j]? =some v→w.cell? ((⟨rb,off,none⟩:Addr).add j)=some v)∧ ∀(j:Nat) (a:AV) (v:Value),cs'[j]? =some a→vs[j]? =some v→R (FS F nu A S) (fun _=>none) w a v:=by
   intro b rb off k cs cs' hb hS hA hk sub hsub hm
   have hRB:=i.blk b rb k hb hA
   have hFS:FS F nu A S rb:=by
    rcases hk with rfl|rfl
    ·exact .inr ⟨b,_,by simpa using hS,hb,hA,rfl⟩
    ·exact .inl hRB.1
   have hrowv: ∃vs e fr,w.heap[rb]? =some (.cells vs e fr)∧cs.length≤vs.size∧ ∀(j:Nat) (a:AV) (v:Value),cs[j]? =some a→vs[j]? =some v→R F nu w a v:=by
    rcases hk with rfl|rfl
    ·obtain⟨_,vs,e,h1,h2,h3⟩:=hRB;exact⟨vs,e,_,h1,h2,h3⟩
    ·obtain⟨_,vs,e,fr,h1,h2,h3⟩:=hRB;exact⟨vs,e,fr,h1,h2,h3⟩
   obtain⟨vs,e,fr,h1,h2,h3⟩:=hrowv
   obtain⟨g1,g2⟩:=mapM_some hm
   have hin: ∀j,j<sub.length→off+j<vs.size:=by
    intro j hj
    have:=hsub j _ (List.getElem?_eq_getElem hj)
    have:=(List.getElem?_eq_some_iff.1 this).1
    omega
   refine⟨hFS,(List.range sub.length).map fun j=>vs.getD (off+j) undef,by simp[g1],fun j v hv=>?_,fun j a v ha hv=>?_⟩
   ·rw[List.getElem?_map]at hv
    rcases Nat.lt_or_ge j sub.length with hj|hj
    ·rw[List.getElem?_range hj]at hv
     simp only[Option.map_some,Option.some.injEq]at hv
     refine cell_of_heap h1 ?_
     have:=hin j hj
     rw[←hv]
     simp[Array.getD,this]
    ·rw[List.getElem?_eq_none (by simpa using hj)]at hv
     simp at hv
   ·obtain⟨x,hx1,hx2⟩:=g2 j a ha
    have hj:j<sub.length:=(List.getElem?_eq_some_iff.1 hx1).1
    rw[List.getElem?_map,List.getElem?_range hj]at hv
    simp only[Option.map_some,Option.some.injEq]at hv
    have hlt:=hin j hj
    refine ih hx2 (h3 (off+j) x v (hsub j x hx1) ?_)
    rw[←hv]
    simp[Array.getD,hlt]
  cases hR with
  |undef v=>simp only[frz,Option.some.injEq]at h;subst h;exact .undef _
  |bool b=>simp only[frz,Option.some.injEq]at h;subst h;exact .bool _
  |anyb b=>simp only[frz,Option.some.injEq]at h;subst h;exact .anyb _
  |int k n=>simp only[frz,Option.some.injEq]at h;subst h;exact .int _ _
  |str s l hl=>simp only[frz,Option.some.injEq]at h;subst h;exact .str _ _ hl
  |nilptr=>simp only[frz,Option.some.injEq]at h;subst h;exact .nilptr
  |nilslice=>simp only[frz,Option.some.injEq]at h;subst h;exact .nilslice
  |nilmap=>simp only[frz,Option.some.injEq]at h;subst h;exact .nilmap
  |nilfunc=>simp only[frz,Option.some.injEq]at h;subst h;exact .nilfunc
  |niliface=>simp only[frz,Option.some.injEq]at h;subst h;exact .niliface
  |yld b rb hb=>simp[frz]at h
  |ptr b off rb hb=>
   simp only[frz]at h
   split at h
   ·rename_i hS
    split at h
    ·rename_i cs hA
     obtain⟨cs',hm,rfl⟩:=Option.map_eq_some_iff.1 h
     obtain⟨g1,vs,g2,g3,g4⟩:=hrow (off:=0) hb hS hA (.inl rfl) cs (fun j a ha=>by simpa using ha) hm
     have:=R.fptr cs' off ⟨rb,0,none⟩ vs g1 g2 g3 g4
     rwa [jR,Nat.zero_add]at this
    ·rename_i cs hA
     obtain⟨cs',hm,rfl⟩:=Option.map_eq_some_iff.1 h
     obtain⟨g1,vs,g2,g3,g4⟩:=hrow (off:=0) hb hS hA (.inr rfl) cs (fun j a ha=>by simpa using ha) hm
     have:=R.fptr cs' off ⟨rb,0,none⟩ vs g1 g2 g3 g4
     rwa [jR,Nat.zero_add]at this
    ·cases h
   ·cases h
  |slice b off n cap esz rb hb hcap=>
   simp only[frz]at h
   split at h
   ·rename_i hS
    have hsub: ∀cs:List AV,∀(j:Nat) (a:AV),((cs.drop off).take (n*esz))[j]? =some a→cs[off+j]? =some a:=by
     intro cs j a ha
     rw[List.getElem?_take]at ha
     split at ha
     ·rwa [List.getElem?_drop]at ha
     ·cases ha
    split at h
    ·rename_i cs hA
     obtain⟨cs',hm,rfl⟩:=Option.map_eq_some_iff.1 h
     obtain⟨g1,vs,g2,g3,g4⟩:=hrow (off:=off) hb hS hA (.inl rfl) _ (hsub cs) hm
     exact .fslice n cs' _ cap vs hcap g1 g2 g3 g4
    ·rename_i cs hA
     obtain⟨cs',hm,rfl⟩:=Option.map_eq_some_iff.1 h
     obtain⟨g1,vs,g2,g3,g4⟩:=hrow (off:=off) hb hS hA (.inr rfl) _ (hsub cs) hm
     exact .fslice n cs' _ cap vs hcap g1 g2 g3 g4
    ·cases h
   ·cases h
  |wslice b off n esz rb cap hb hcap=>
   simp only[frz]at h
   split at h
   ·rename_i hS
    have hsub: ∀cs:List AV,∀(j:Nat) (a:AV),((cs.drop off).take (n*esz))[j]? =some a→cs[off+j]? =some a:=by
     intro cs j a ha
     rw[List.getElem?_take]at ha
     split at ha
     ·rwa [List.getElem?_drop]at ha
     ·cases ha
    split at h
    ·rename_i cs hA
     obtain⟨cs',hm,rfl⟩:=Option.map_eq_some_iff.1 h
     obtain⟨g1,vs,g2,g3,g4⟩:=hrow (off:=off) hb hS hA (.inl rfl) _ (hsub cs) hm
     exact .fslice n cs' _ cap vs hcap g1 g2 g3 g4
    ·rename_i cs hA
     obtain⟨cs',hm,rfl⟩:=Option.map_eq_some_iff.1 h
     obtain⟨g1,vs,g2,g3,g4⟩:=hrow (off:=off) hb hS hA (.inr rfl) _ (hsub cs) hm
     exact .fslice n cs' _ cap vs hcap g1 g2 g3 g4
    ·cases h
   ·cases h
  |oslice b n esz rb cap e m hb hcap hs hm0=>
   simp only[frz]at h
   split at h
   ·rename_i hS
    have hsub: ∀cs:List AV,∀(j:Nat) (a:AV),(cs.take (n*esz))[j]? =some a→cs[0+j]? =some a:=by
     intro cs j a ha
     rw[List.getElem?_take]at ha
     split at ha
     ·rwa [Nat.zero_add]
     ·cases ha
    split at h
    ·rename_i cs hA
     obtain⟨cs',hm,rfl⟩:=Option.map_eq_some_iff.1 h
     obtain⟨g1,vs,g2,g3,g4⟩:=hrow (off:=0) hb hS hA (.inl rfl) _ (hsub cs) hm
     exact .fslice n cs' _ cap vs hcap g1 g2 g3 g4
    ·rename_i cs hA
     obtain⟨cs',hm,rfl⟩:=Option.map_eq_some_iff.1 h
     obtain⟨g1,vs,g2,g3,g4⟩:=hrow (off:=0) hb hS hA (.inr rfl) _ (hsub cs) hm
     exact .fslice n cs' _ cap vs hcap g1 g2 g3 g4
    ·cases h
   ·cases h
  |gslice0 b esz p=>
   simp only[frz]at h
   have hfin: ∀cs:List AV,((cs.take (0*esz)).mapM (frz A S d)).map (fun cs=>AV.fslice 0 cs)=some a'→R (FS F nu A S) (fun _=>none) w a' (.slice p 0 0):=by
    intro cs h
    rw[Nat.zero_mul,List.take_zero]at h
    simp only[List.mapM_nil,Option.pure_def,Option.map_some,Option.some.injEq]at h
    subst h
    exact .fslice0 _ _
   split at h
   ·split at h
    ·exact hfin _ h
    ·exact hfin _ h
    ·cases h
   ·cases h
  |gslice b n esz rb cap e m hp hb hcap hs hm0=>
   simp only[frz]at h
   split at h
   ·rename_i hS
    have hsub: ∀cs:List AV,∀(j:Nat) (a:AV),(cs.take (n*esz))[j]? =some a→cs[0+j]? =some a:=by
     intro cs j a ha
     rw[List.getElem?_take]at ha
     split at ha
     ·rwa [Nat.zero_add]
     ·cases ha
    split at h
    ·rename_i cs hA
     obtain⟨cs',hm,rfl⟩:=Option.map_eq_some_iff.1 h
     obtain⟨g1,vs,g2,g3,g4⟩:=hrow (off:=0) hb hS hA (.inl rfl) _ (hsub cs) hm
     exact .fslice n cs' _ cap vs hcap g1 g2 g3 g4
    ·rename_i cs hA
     obtain⟨cs',hm,rfl⟩:=Option.map_eq_some_iff.1 h
     obtain⟨g1,vs,g2,g3,g4⟩:=hrow (off:=0) hb hS hA (.inr rfl) _ (hsub cs) hm
     exact .fslice n cs' _ cap vs hcap g1 g2 g3 g4
    ·cases h
   ·cases h
  |map b rb hb=>
   simp only[frz]at h
   split at h
   ·rename_i hS
    split at h
    ·rename_i ks xs hA
     split at h
     ·rename_i ks' xs' hk hx
      simp only[Option.some.injEq]at h
      subst h
      obtain⟨hnF,es,c,h1,h2,h3,h4,h5,_⟩:=i.blk b rb _ hb hA
      obtain⟨k1,k2⟩:=mapM_some hk
      obtain⟨x1,x2⟩:=mapM_some hx
      refine .fmap _ _ rb es c (.inr ⟨b,_,by simpa using hS,hb,hA,rfl⟩) h1 (by omega) (by omega) (fun j a e ha he=>?_) (fun j a e ha he=>?_)
      ·obtain⟨y,hy1,hy2⟩:=k2 j a ha
       exact ih hy2 (h4 j y e hy1 he)
      ·obtain⟨y,hy1,hy2⟩:=x2 j a ha
       exact ih hy2 (h5 j y e hy1 he)
     ·cases h
    ·cases h
   ·cases h
  |fptr cs off ad vs hFb hl hc hRc=>
   simp only[frz]at h
   obtain⟨cs',hm,rfl⟩:=Option.map_eq_some_iff.1 h
   obtain⟨g1,g2⟩:=hlist hm hl hRc
   exact .fptr cs' off ad vs (hF _ hFb) g1 hc g2
  |fslice0 Ad cap=>
   simp only[frz]at h
   obtain⟨cs',hm,rfl⟩:=Option.map_eq_some_iff.1 h
   simp at hm
   subst hm
   exact .fslice0 _ _
  |fslice n cs ad cap vs hn hFb hl hc hRc=>
   simp only[frz]at h
   obtain⟨cs',hm,rfl⟩:=Option.map_eq_some_iff.1 h
   obtain⟨g1,g2⟩:=hlist hm hl hRc
   exact .fslice n cs' ad cap vs hn (hF _ hFb) g1 hc g2
  |fmap ks xs rb es c hFb hh hk hv hRk hRv=>
   simp only[frz]at h
   split at h
   ·rename_i ks' xs' hk' hx'
    simp only[Option.some.injEq]at h
    subst h
    obtain⟨k1,k2⟩:=mapM_some hk'
    obtain⟨x1,x2⟩:=mapM_some hx'
    refine .fmap _ _ rb es c (hF _ hFb) hh (by omega) (by omega) (fun j a e ha he=>?_) (fun j a e ha he=>?_)
    ·obtain⟨y,hy1,hy2⟩:=k2 j a ha
     exact ih hy2 (hRk j y e hy1 he)
    ·obtain⟨y,hy1,hy2⟩:=x2 j a ha
     exact ih hy2 (hRv j y e hy1 he)
   ·cases h
  |func fn fs cs vf vc h1 h2 hRf hRc=>
   simp only[frz]at h
   split at h
   ·rename_i fs' cs' hf' hc'
    simp only[Option.some.injEq]at h
    subst h
    obtain⟨k1,k2⟩:=mapM_some hf'
    obtain⟨x1,x2⟩:=mapM_some hc'
    refine .func _ _ _ _ _ (by omega) (by omega) (fun j a v ha hv=>?_) (fun j a v ha hv=>?_)
    ·obtain⟨y,hy1,hy2⟩:=k2 j a ha
     exact ih hy2 (hRf j y v hy1 hv)
    ·obtain⟨y,hy1,hy2⟩:=x2 j a ha
     exact ih hy2 (hRc j y v hy1 hv)
   ·cases h
  |iface t a v hv=>
   simp only[frz]at h
   obtain⟨x,hx,rfl⟩:=Option.map_eq_some_iff.1 h
   exact .iface _ _ _ (ih hx hv)
  |agg cs vs hl hRc=>
   simp only[frz]at h
   obtain⟨cs',hm,rfl⟩:=Option.map_eq_some_iff.1 h
   obtain⟨k1,k2⟩:=mapM_some hm
   refine .agg _ _ (by omega) (fun j a v ha hv=>?_)
   obtain⟨y,hy1,hy2⟩:=k2 j a ha
   exact ih hy2 (hRc j y v hy1 hv)
  |tuple cs vs hl hRc=>
   simp only[frz]at h
   obtain⟨cs',hm,rfl⟩:=Option.map_eq_some_iff.1 h
   obtain⟨k1,k2⟩:=mapM_some hm
   refine .tuple _ _ (by omega) (fun j a v ha hv=>?_)
   obtain⟨y,hy1,hy2⟩:=k2 j a ha
   exact ih hy2 (hRc j y v hy1 hv)
theorem qnT {F':Nat→Prop} {nu':Nat→Option Nat} {w':World}: ∀(d:Nat) {a:AV} {v:Value},flat d a=true→R F nu w a v→R F' nu' w' a v:=by
 intro d
 induction d with
 |zero=>intro a v h;simp[flat]at h
 |succ d ih=>
  intro a v h hR
  cases hR with
  |undef v=>exact .undef _
  |bool b=>exact .bool _
  |int k n=>exact .int _ _
  |str s l hl=>exact .str _ _ hl
  |nilptr=>exact .nilptr
  |nilslice=>exact .nilslice
  |nilmap=>exact .nilmap
  |nilfunc=>exact .nilfunc
  |niliface=>exact .niliface
  |fslice0 A cap=>exact .fslice0 _ _
  |fslice n cs ad cap vs hn hFb hl hc hRc=>
   simp only[flat,Bool.and_eq_true,decide_eq_true_eq,List.isEmpty_iff]at h
   obtain⟨rfl,rfl⟩:=h
   exact .fslice0 _ _
  |iface t a v hv=>exact .iface _ _ _ (ih (by simpa[flat]using h) hv)
  |agg cs vs hl hRc=>
   simp only[flat]at h
   exact .agg _ _ hl (fun j a v ha hv=>ih (List.all_eq_true.1 h a (List.mem_of_getElem? ha)) (hRc j a v ha hv))
  |tuple cs vs hl hRc=>
   simp only[flat]at h
   exact .tuple _ _ hl (fun j a v ha hv=>ih (List.all_eq_true.1 h a (List.mem_of_getElem? ha)) (hRc j a v ha hv))
  |_=>simp[flat]at h
theorem vB: ∀(S:List Nat) (A:Heap) (b:Nat) (y:Blk),(kz S A)[b]? =some y→(y= .dead)∨(b∉S∧A[b]? =some y)∨(b∈S∧ ∃cs,y= .frozen cs∧(A[b]? =some (.cells cs)∨A[b]? =some (.frozen cs))):=by
 intro S
 induction S with
 |nil=>intro A b y h;exact .inr (.inl ⟨by simp,h⟩)
 |cons c S ih=>
  intro A b y h
  simp only[kz,List.foldl_cons]at h
  have h':=ih _ b y h
  cases hc:A[c]? with
  |none=>
   simp only[hc]at h'
   rcases h' with h1|⟨h1,h2⟩|⟨h1,cs,h2,h3⟩
   ·exact .inl h1
   ·refine .inr (.inl ⟨?_,h2⟩)
    intro hm
    rcases List.mem_cons.1 hm with rfl|hm
    ·rw[hc]at h2;cases h2
    ·exact h1 hm
   ·exact .inr (.inr ⟨by simp[h1],cs,h2,h3⟩)
  |some k=>
   simp only[hc]at h'
   have key: ∀z,(A.set c (qdV k))[b]? =some z→(b=c∧z=qdV k)∨(b≠c∧A[b]? =some z):=by
    intro z hz
    rcases getElem?_set' hz with⟨h1,h2⟩|⟨h1,h2⟩
    ·exact .inl ⟨h1.symm,h2⟩
    ·exact .inr ⟨fun e=>h1 e.symm,h2⟩
   have hfk: ∀z,z=qdV k→z= .dead∨ ∃cs,z= .frozen cs∧(k= .cells cs∨k= .frozen cs):=by
    intro z hz
    subst hz
    cases k<;>simp[qdV]
   rcases h' with h1|⟨h1,h2⟩|⟨h1,cs,h2,h3⟩
   ·exact .inl h1
   ·rcases key y h2 with⟨rfl,hz⟩|⟨hne,hz⟩
    ·rcases hfk y hz with h3|⟨cs,h3,h4⟩
     ·exact .inl h3
     ·exact .inr (.inr ⟨by simp,cs,h3,by rcases h4 with rfl|rfl<;>simp[hc]⟩)
    ·exact .inr (.inl ⟨by simp[hne,h1],hz⟩)
   ·refine .inr (.inr ⟨by simp[h1],cs,h2,?_⟩)
    rcases h3 with h3|h3
    ·rcases key _ h3 with⟨rfl,hz⟩|⟨_,hz⟩
     ·rcases hfk _ hz with h4|⟨cs',h4,_⟩<;>cases h4
     ·exact .inl hz
    ·rcases key _ h3 with⟨rfl,hz⟩|⟨_,hz⟩
     ·rcases hfk _ hz with h4|⟨cs',h4,h5⟩
      ·cases h4
      ·cases h4
       rcases h5 with rfl|rfl
       ·exact .inl hc
       ·exact .inr hc
     ·exact .inr hz
theorem zP: ∀(S:List Nat) (A:Heap),(kz S A).length=A.length:=by
 intro S
 induction S with
 |nil=>intro A;rfl
 |cons c S ih=>
  intro A
  simp only[kz,List.foldl_cons]at ih⊢
  rw[ih]
  split<;>simp
end
end Go.Av
