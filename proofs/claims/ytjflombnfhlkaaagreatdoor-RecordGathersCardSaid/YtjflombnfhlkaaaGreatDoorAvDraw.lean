/-
  Operations whose order is open: run in the order of the text, each on the blocks that it may look at; if operations that the edges leave
  unordered share no temporary and turn no block of each other, every order does the same.
-/
import Derived.Test.YtjflombnfhlkaaaGreatDoorAvCall
noncomputable section
namespace Go.Av
set_option linter.unusedSectionVars false
variable [Glob]
open Go.RowKit
def Dom (nu:Nat→Option Nat) (b:Nat):Prop:=nu b≠none
def WF (G:Nat→Prop) (a:AV):Prop:= ∃F nu w v,(∀b,Dom nu b→G b)∧R F nu w a v
open Classical in
noncomputable def restr (nu:Nat→Option Nat) (G:Nat→Prop):Nat→Option Nat:=fun b=>if G b then nu b else none
theorem yl {nu:Nat→Option Nat} {G:Nat→Prop} {b r:Nat} (h:restr nu G b=some r):nu b=some r∧G b:=by
 unfold restr at h
 split at h
 ·rename_i hg;exact⟨h,hg⟩
 ·cases h
theorem qaQ {nu:Nat→Option Nat} {G:Nat→Prop} {b r:Nat} (h:nu b=some r) (hg:G b):restr nu G b=some r:=by
 unfold restr
 rw[if_pos hg]
 exact h
section
variable {F:Nat→Prop} {nu:Nat→Option Nat} {w:World}
theorem WF.mono {G G':Nat→Prop} {a:AV} (h:WF G a) (hg: ∀b,G b→G' b):WF G' a:=by
 obtain⟨F,nu,w,v,h1,h2⟩:=h
 exact⟨F,nu,w,v,fun b hb=>hg b (h1 b hb),h2⟩
theorem WF.list {G:Nat→Prop} {nu:Nat→Option Nat} {F:Nat→Prop} {w:World} (hd: ∀b,Dom nu b→G b) {cs:List AV} {vs:List Value} (hl:vs.length=cs.length) (hR: ∀(j:Nat) (a:AV) (v:Value),cs[j]? =some a→vs[j]? =some v→R F nu w a v):
 ∀(j:Nat) (a:AV),cs[j]? =some a→WF G a:=by
 intro j a ha
 have hlt:j<cs.length:=(List.getElem?_eq_some_iff.1 ha).1
 exact⟨F,nu,w,vs[j]'(by omega),hd,hR j a _ ha (List.getElem?_eq_getElem (by omega))⟩
theorem R.restr {G:Nat→Prop} {a:AV} {v:Value} (h:R F nu w a v) (hw:WF G a):R F (restr nu G) w a v:=by
 induction h with
 |undef v=>exact .undef v
 |anyb b=>exact .anyb b
 |bool b=>exact .bool b
 |int k n=>exact .int k n
 |str s l h=>exact .str s l h
 |nilptr=>exact .nilptr
 |ptr b off rb h=>
  obtain⟨F0,n0,w0,v0,hd,hr⟩:=hw
  cases hr with
  |ptr _ _ r0 h0=>exact .ptr b off rb (qaQ h (hd b (by simp[Dom,h0])))
 |fptr cs off ad vs hF hl hc hR ih=>
  obtain⟨F0,n0,w0,v0,hd,hr⟩:=hw
  cases hr with
  |fptr _ _ ad0 vs0 hF0 hl0 hc0 hR0=>exact .fptr cs off ad vs hF hl hc (fun j a v ha hv=>ih j a v ha hv (WF.list hd hl0 hR0 j a ha))
 |nilslice=>exact .nilslice
 |slice b off n cap esz rb h hc=>
  obtain⟨F0,n0,w0,v0,hd,hr⟩:=hw
  cases hr with
  |slice _ _ _ _ _ r0 h0 hc0=>exact .slice b off n cap esz rb (qaQ h (hd b (by simp[Dom,h0]))) hc
 |oslice b n esz rb cap e m h hc hs hm hx=>
  obtain⟨F0,n0,w0,v0,hd,hr⟩:=hw
  cases hr with
  |oslice _ _ _ r0 cap0 e0 m0 h0 hc0 hs0 hm0=>exact .oslice b n esz rb cap e m (qaQ h (hd b (by simp[Dom,h0]))) hc hs hm hx
 |gslice0 b esz p=>exact .gslice0 b esz p
 |gslice b n esz rb cap e m hp h hc hs hm hx=>
  obtain⟨F0,n0,w0,v0,hd,hr⟩:=hw
  cases hr with
  |gslice0=>exact absurd hp (Nat.lt_irrefl _)
  |gslice _ _ _ r0 cap0 e0 m0 hp0 h0 hc0 hs0 hm0=>exact .gslice b n esz rb cap e m hp (qaQ h (hd b (by simp[Dom,h0]))) hc hs hm hx
 |wslice b off n esz rb cap h hc=>
  obtain⟨F0,n0,w0,v0,hd,hr⟩:=hw
  cases hr with
  |wslice _ _ _ _ r0 cap0 h0 hc0=>exact .wslice b off n esz rb cap (qaQ h (hd b (by simp[Dom,h0]))) hc
 |fslice0 A cap=>exact .fslice0 A cap
 |fslice n cs ad cap vs hn hF hl hc hR ih=>
  obtain⟨F0,n0,w0,v0,hd,hr⟩:=hw
  cases hr with
  |fslice0=>exact .fslice 0 [] ad cap vs hn hF hl hc (fun j a v ha _=>by simp at ha)
  |fslice _ _ ad0 cap0 vs0 hn0 hF0 hl0 hc0 hR0=>exact .fslice n cs ad cap vs hn hF hl hc (fun j a v ha hv=>ih j a v ha hv (WF.list hd hl0 hR0 j a ha))
 |nilmap=>exact .nilmap
 |map b rb h=>
  obtain⟨F0,n0,w0,v0,hd,hr⟩:=hw
  cases hr with
  |map _ r0 h0=>exact .map b rb (qaQ h (hd b (by simp[Dom,h0])))
 |fmap ks vs rb es clock hF hh hk hv hRk hRv ihk ihv=>
  obtain⟨F0,n0,w0,v0,hd,hr⟩:=hw
  cases hr with
  |fmap _ _ rb0 es0 c0 hF0 hh0 hk0 hv0 hRk0 hRv0=>
   refine .fmap ks vs rb es clock hF hh hk hv (fun j a e ha he=>ihk j a e ha he ?_) (fun j a e ha he=>ihv j a e ha he ?_)
   ·have hlt:j<ks.length:=(List.getElem?_eq_some_iff.1 ha).1
    exact⟨F0,n0,w0,_,hd,hRk0 j a _ ha (Array.getElem?_eq_getElem (by omega))⟩
   ·have hlt:j<vs.length:=(List.getElem?_eq_some_iff.1 ha).1
    exact⟨F0,n0,w0,_,hd,hRv0 j a _ ha (Array.getElem?_eq_getElem (by omega))⟩
 |func fn fs cs vf vc h1 h2 hf hc ihf ihc=>
  obtain⟨F0,n0,w0,v0,hd,hr⟩:=hw
  cases hr with
  |func _ _ _ vf0 vc0 g1 g2 hf0 hc0=>
   refine .func fn fs cs vf vc h1 h2 (fun j a v ha hv=>ihf j a v ha hv ?_) (fun j a v ha hv=>ihc j a v ha hv ?_)
   ·have hlt:j<fs.length:=(List.getElem?_eq_some_iff.1 ha).1
    exact⟨F0,n0,w0,_,hd,hf0 j a _ ha (Array.getElem?_eq_getElem (by omega))⟩
   ·have hlt:j<cs.length:=(List.getElem?_eq_some_iff.1 ha).1
    exact⟨F0,n0,w0,_,hd,hc0 j a _ ha (Array.getElem?_eq_getElem (by omega))⟩
 |nilfunc=>exact .nilfunc
 |yld b rb h=>
  obtain⟨F0,n0,w0,v0,hd,hr⟩:=hw
  cases hr with
  |yld _ r0 h0=>exact .yld b rb (qaQ h (hd b (by simp[Dom,h0])))
 |iface t a v h ih=>
  obtain⟨F0,n0,w0,v0,hd,hr⟩:=hw
  cases hr with
  |iface _ _ v1 h1=>exact .iface t a v (ih ⟨F0,n0,w0,v1,hd,h1⟩)
 |niliface=>exact .niliface
 |agg cs vs hl hR ih=>
  obtain⟨F0,n0,w0,v0,hd,hr⟩:=hw
  cases hr with
  |agg _ vs0 hl0 hR0=>
   refine .agg cs vs hl (fun j a v ha hv=>ih j a v ha hv ?_)
   have hlt:j<cs.length:=(List.getElem?_eq_some_iff.1 ha).1
   exact⟨F0,n0,w0,_,hd,hR0 j a _ ha (Array.getElem?_eq_getElem (by omega))⟩
 |tuple cs vs hl hR ih=>
  obtain⟨F0,n0,w0,v0,hd,hr⟩:=hw
  cases hr with
  |tuple _ vs0 hl0 hR0=>
   refine .tuple cs vs hl (fun j a v ha hv=>ih j a v ha hv ?_)
   have hlt:j<cs.length:=(List.getElem?_eq_some_iff.1 ha).1
   exact⟨F0,n0,w0,_,hd,hR0 j a _ ha (Array.getElem?_eq_getElem (by omega))⟩
def WFB (G:Nat→Prop):Blk→Prop
 | .cells cs=> ∀(j:Nat) (a:AV),cs[j]? =some a→WF G a
 | .frozen cs=> ∀(j:Nat) (a:AV),cs[j]? =some a→WF G a
 | .map ks vs=>(∀(j:Nat) (a:AV),ks[j]? =some a→WF G a)∧ ∀(j:Nat) (a:AV),vs[j]? =some a→WF G a
 | .loop _ _ fr _ _ _=> ∀(j:Nat),WF G (fr.get j)
 |_=>True
theorem RB.wf {G:Nat→Prop} (hd: ∀b,Dom nu b→G b) {rb:Nat} {x:Blk} (h:RB F nu w rb x):WFB G x:=by
 cases x with
 |cells cs=>
  obtain⟨_,vs,e,_,hl,hR⟩:=h
  intro j a ha
  have hlt:j<cs.length:=(List.getElem?_eq_some_iff.1 ha).1
  exact⟨F,nu,w,_,hd,hR j a _ ha (Array.getElem?_eq_getElem (by omega))⟩
 |frozen cs=>
  obtain⟨_,vs,e,fr,_,hl,hR⟩:=h
  intro j a ha
  have hlt:j<cs.length:=(List.getElem?_eq_some_iff.1 ha).1
  exact⟨F,nu,w,_,hd,hR j a _ ha (Array.getElem?_eq_getElem (by omega))⟩
 |map ks xs=>
  obtain⟨_,es,c,_,h1,h2,h3,h4,_⟩:=h
  refine⟨fun j a ha=>?_,fun j a ha=>?_⟩
  ·have hlt:j<ks.length:=(List.getElem?_eq_some_iff.1 ha).1
   exact⟨F,nu,w,_,hd,h3 j a _ ha (Array.getElem?_eq_getElem (by omega))⟩
  ·have hlt:j<xs.length:=(List.getElem?_eq_some_iff.1 ha).1
   exact⟨F,nu,w,_,hd,h4 j a _ ha (Array.getElem?_eq_getElem (by omega))⟩
 |loop st pend fr ps asg body=>
  obtain⟨_,fn,tmps,dd,_,hfr⟩:=h
  intro j
  exact⟨F,nu,w,_,hd,hfr.getD j⟩
 |_=>trivial
theorem RB.restr {G:Nat→Prop} {rb:Nat} {x:Blk} (h:RB F nu w rb x) (hw:WFB G x):RB F (restr nu G) w rb x:=by
 cases x with
 |dead=>trivial
 |cells cs=>
  obtain⟨h0,vs,e,h1,h2,h3⟩:=h
  exact⟨h0,vs,e,h1,h2,fun j a v ha hv=>(h3 j a v ha hv).restr (hw j a ha)⟩
 |frozen cs=>
  obtain⟨h0,vs,e,fr,h1,h2,h3⟩:=h
  exact⟨h0,vs,e,fr,h1,h2,fun j a v ha hv=>(h3 j a v ha hv).restr (hw j a ha)⟩
 |map ks xs=>
  obtain⟨h0,es,c,h1,h2,h3,h4,h5,h6⟩:=h
  exact⟨h0,es,c,h1,h2,h3,fun j a e ha he=>(h4 j a e ha he).restr (hw.1 j a ha),fun j a e ha he=>(h5 j a e ha he).restr (hw.2 j a ha),h6⟩
 |iter s pos=>exact h
 |loop st pend fr ps asg body=>
  obtain⟨h0,fn,tmps,dd,h1,h2⟩:=h
  exact⟨h0,fn,tmps,dd,h1,h2.size,fun j v hv=>(h2.at_ j v hv).restr (hw j),h2.out⟩
end
def mask (S:List Nat) (A:Heap):Heap:=A.zipIdx.map fun p=>if S.contains p.2 then p.1 else .dead
def merge (S:List Nat) (A B:Heap):Heap:=B.zipIdx.map fun p=>if p.2<A.length&&!S.contains p.2 then A.getD p.2 .dead else p.1
theorem jX (S:List Nat) (A:Heap):(mask S A).length=A.length:=by simp[mask]
theorem qbL (S:List Nat) (A:Heap) (b:Nat):(mask S A)[b]? =(A[b]?).map fun x=>if S.contains b then x else .dead:=by
 simp only[mask,List.getElem?_map,List.getElem?_zipIdx,Option.map_map,Nat.zero_add]
 rfl
theorem xg (S:List Nat) (A B:Heap):(merge S A B).length=B.length:=by simp[merge]
theorem qaZ (S:List Nat) (A B:Heap) (b:Nat):(merge S A B)[b]? =(B[b]?).map fun x=>if b<A.length&&!S.contains b then A.getD b .dead else x:=by
 simp only[merge,List.getElem?_map,List.getElem?_zipIdx,Option.map_map,Nat.zero_add]
 rfl
section
variable {F F':Nat→Prop} {nu nu':Nat→Option Nat} {w w':World}
structure Mov (F:Nat→Prop) (nu:Nat→Option Nat) (A:Heap) (w:World) (F':Nat→Prop) (nu':Nat→Option Nat) (A':Heap) (w':World):Prop where
 f: ∀b,F b→F' b
 n: ∀b r,nu b=some r→nu' b=some r
 shape: ∀rb s,w.shape? rb=some s→w'.shape? rb=some s
 inv:Inv F' nu' A' w'
 keep: ∀rb,rb<w.heap.size→ ¬qa9 nu A rb→w'.heap[rb]? =w.heap[rb]?
 own: ∀rb,rb<w.heap.size→qa9 nu' A' rb→qa9 nu A rb
 size:w.heap.size≤w'.heap.size
 os:w'.os=w.os
 tape:w'.tape=w.tape
 output:w'.output=w.output
 newF: ∀rb,F' rb→F rb∨w.heap.size≤rb∨qa9 nu A rb
theorem Mov.refl {A:Heap} (i:Inv F nu A w):Mov F nu A w F nu A w:=
 ⟨fun _ h=>h,fun _ _ h=>h,fun _ _ h=>h,i,fun _ _ _=>rfl,fun _ _ h=>h,Nat.le_refl _,rfl,rfl,rfl,fun _ h=> .inl h⟩
theorem Mov.ext {A A':Heap} (h:Mov F nu A w F' nu' A' w') (i:Inv F nu A w):Ext F nu w F' nu' w':=
 ⟨h.f,h.n,fun rb hF=>h.keep rb (i.ltF rb hF) (i.notOwns hF),h.shape⟩
theorem Mov.trans {F'':Nat→Prop} {nu'':Nat→Option Nat} {A A' A'':Heap} {w'':World}
 (h:Mov F nu A w F' nu' A' w') (k:Mov F' nu' A' w' F'' nu'' A'' w''):Mov F nu A w F'' nu'' A'' w'' where
 f b hb:=k.f b (h.f b hb)
 n b r hb:=k.n b r (h.n b r hb)
 shape rb s hs:=k.shape rb s (h.shape rb s hs)
 inv:=k.inv
 keep rb hlt hno:=by
  rw[k.keep rb (by have:=h.size;omega) (fun ho=>hno (h.own rb hlt ho)),h.keep rb hlt hno]
 own rb hlt ho:=h.own rb hlt (k.own rb (by have:=h.size;omega) ho)
 size:=Nat.le_trans h.size k.size
 os:=k.os.trans h.os
 tape:=k.tape.trans h.tape
 output:=k.output.trans h.output
 newF rb hF:=by
  rcases k.newF rb hF with h1|h1|h1
  ·exact h.newF rb h1
  ·exact .inr (.inl (Nat.le_trans h.size h1))
  ·rcases Nat.lt_or_ge rb w.heap.size with h2|h2
   ·exact .inr (.inr (h.own rb h2 h1))
   ·exact .inr (.inl h2)
open Classical in
noncomputable def xc (nu nu':Nat→Option Nat) (lo hi:Nat) (G:Nat→Prop):Nat→Option Nat:=fun b=>if lo≤b∧b<hi then(if G b then nu' b else none)else nu b
theorem Stp.part {C C' B B':Heap} {S:List Nat} {G G':Nat→Prop} {lo hi:Nat} (i:Inv F nu C w) (hB:B.length=lo) (hB':B'.length=hi) (hC:hi≤C.length) (hC':C'.length=C.length) (hnone: ∀b,lo≤b→b<hi→nu b=none)
 (hS: ∀b∈S,b<lo)
 (hBin: ∀b,b∈S→B[b]? =C[b]?) (hBout: ∀b y,b∉S→B[b]? =some y→y= .dead)
 (hdom: ∀b,Dom nu b→b<lo→G b) (hGlo: ∀b,G b→b<lo)
 (hwfB: ∀b y,b∈S→Dom nu b→C[b]? =some y→WFB G y)
 (hst:Inv F (restr nu G) B w→Stp F (restr nu G) B w F' nu' B' w')
 (hwfB': ∀b y,(b∈S∧Dom nu b∨lo≤b∧G' b)→B'[b]? =some y→WFB G' y) (hG': ∀b,G' b→b<hi)
 (hCin: ∀b,b<hi→(b∈S∨lo≤b)→C'[b]? =B'[b]?) (hCout: ∀b,b∉S→(b<lo∨hi≤b)→C'[b]? =C[b]?):
 Mov F nu C w F' (xc nu nu' lo hi G') C' w'∧ ∀a v,WF G' a→R F' nu' w' a v→R F' (xc nu nu' lo hi G') w' a v:=by
 have iB:Inv F (restr nu G) B w:=by
  refine⟨fun b rb x hb hx=>?_,fun b b' rb x x' hb hb' hx hx' ho ho'=>?_,fun b hb=>?_,i.ltF,fun b rb h=>i.ltN b rb (yl h).1,i.glob⟩
  ·obtain⟨h1,h2⟩:=yl hb
   by_cases hs:b∈S
   ·rw[hBin b hs]at hx
    exact(i.blk b rb x h1 hx).restr (hwfB b x hs (by simp[Dom,h1]) hx)
   ·rw[hBout b x hs hx];trivial
  ·have hs:b∈S:=by
    by_cases hs:b∈S
    ·exact hs
    ·rw[hBout b x hs hx]at ho;cases ho
   have hs':b'∈S:=by
    by_cases hs':b'∈S
    ·exact hs'
    ·rw[hBout b' x' hs' hx']at ho';cases ho'
   rw[hBin b hs]at hx
   rw[hBin b' hs']at hx'
   exact i.inj b b' rb x x' (yl hb).1 (yl hb').1 hx hx' ho ho'
  ·unfold restr
   split
   ·rename_i hg;have:=hGlo b hg;omega
   ·rfl
 have st:=hst iB
 have hsz:=st.size
 have ownB: ∀rb,qa9 (restr nu G) B rb→ ∃b x,b∈S∧nu b=some rb∧C[b]? =some x∧x.owned=true:=by
  rintro rb ⟨b,x,hb,hx,ho⟩
  have hs:b∈S:=by
   by_cases hs:b∈S
   ·exact hs
   ·rw[hBout b x hs hx]at ho;cases ho
  rw[hBin b hs]at hx
  exact⟨b,x,hs,(yl hb).1,hx,ho⟩
 have hnu': ∀b rb,b<lo→nu b=some rb→nu' b=some rb:=fun b rb hb h=>st.n b rb (qaQ h (hdom b (by simp[Dom,h]) hb))
 have hnu'r: ∀b rb,b<lo→nu' b=some rb→nu b=some rb:=by
  intro b rb hb h
  rw[st.old b (by omega)]at h
  exact(yl h).1
 have hsub: ∀b rb,restr nu' G' b=some rb→xc nu nu' lo hi G' b=some rb:=by
  intro b rb h
  obtain⟨h1,h2⟩:=yl h
  unfold xc
  by_cases hb:lo≤b∧b<hi
  ·rw[if_pos hb,if_pos h2];exact h1
  ·rw[if_neg hb]
   have:=hG' b h2
   exact hnu'r b rb (by omega) h1
 have hn: ∀b r,nu b=some r→xc nu nu' lo hi G' b=some r:=by
  intro b r h
  unfold xc
  rw[if_neg (fun hb=>by rw[hnone b hb.1 hb.2]at h;cases h)]
  exact h
 have keepF: ∀rb,F rb→w'.heap[rb]? =w.heap[rb]? :=fun rb hF=>st.keep rb (i.ltF rb hF) (iB.notOwns hF)
 have x0:Ext F nu w F' (xc nu nu' lo hi G') w':=⟨st.f,hn,keepF,st.shape⟩
 have x1:Ext F' (restr nu' G') w' F' (xc nu nu' lo hi G') w':=⟨fun _ h=>h,hsub,fun _ _=>rfl,fun _ _ h=>h⟩
 have join_cases: ∀b rb,xc nu nu' lo hi G' b=some rb→(lo≤b∧b<hi∧G' b∧nu' b=some rb)∨(¬(lo≤b∧b<hi)∧nu b=some rb):=by
  intro b rb h
  unfold xc at h
  split at h
  ·rename_i hb
   split at h
   ·rename_i hg;exact .inl ⟨hb.1,hb.2,hg,h⟩
   ·cases h
  ·rename_i hb;exact .inr ⟨hb,h⟩
 have inv:Inv F' (xc nu nu' lo hi G') C' w':=by
  have fromB': ∀b rb y,(b∈S∧Dom nu b∨lo≤b∧G' b)→nu' b=some rb→B'[b]? =some y→RB F' (xc nu nu' lo hi G') w' rb y:=
   fun b rb y hc hb hy=>((st.inv.blk b rb y hb hy).restr (hwfB' b y hc hy)).mono x1 rfl id
  refine⟨fun b rb y hb hy=>?_,fun b b' rb y y' hb hb' hy hy' ho ho'=>?_,fun b hb=>?_,fun rb h=>st.inv.ltF rb h,fun b rb h=>?_,st.inv.glob⟩
  ·rcases join_cases b rb hb with⟨h1,h2,h3,h4⟩|⟨h1,h2⟩
   ·rw[hCin b h2 (.inr h1)]at hy
    exact fromB' b rb y (.inr ⟨h1,h3⟩) h4 hy
   ·by_cases hs:b∈S
    ·have hlt:=hS b hs
     rw[hCin b (by have:=st.len;omega) (.inl hs)]at hy
     exact fromB' b rb y (.inl ⟨hs,by simp[Dom,h2]⟩) (hnu' b rb hlt h2) hy
    ·rw[hCout b hs (by omega)]at hy
     have h0:=i.blk b rb y h2 hy
     by_cases hyo:y.owned=true
     ·have hno: ¬qa9 (restr nu G) B rb:=fun hO=>by
       obtain⟨c,z,hcs,hc1,hc2,hc3⟩:=ownB rb hO
       exact hs (i.inj b c rb y z h2 hc1 hy hc2 hyo hc3▸hcs)
      have hheap:=st.keep rb (i.ltN b rb h2) hno
      refine h0.mono x0 hheap (fun hF'=>?_)
      cases Classical.em (F rb)with
      |inl h=>exact h
      |inr h=>
       rcases st.newF rb hF' with h3|h3|h3
       ·exact h3
       ·have:=i.ltN b rb h2;omega
       ·exact absurd h3 hno
     ·cases y with
      |dead=>trivial
      |frozen cs=>exact h0.mono x0 (keepF rb h0.1) (fun _=>h0.1)
      |_=>simp[Blk.owned]at hyo
  ·
   have origin: ∀b rb y,xc nu nu' lo hi G' b=some rb→C'[b]? =some y→y.owned=true→(b<hi∧nu' b=some rb∧B'[b]? =some y)∨(b∉S∧(b<lo∨hi≤b)∧nu b=some rb∧C[b]? =some y):=by
    intro b rb y hb hy _
    rcases join_cases b rb hb with⟨h1,h2,h3,h4⟩|⟨h1,h2⟩
    ·rw[hCin b h2 (.inr h1)]at hy
     exact .inl ⟨h2,h4,hy⟩
    ·by_cases hs:b∈S
     ·have hlt:=hS b hs
      rw[hCin b (by have:=st.len;omega) (.inl hs)]at hy
      exact .inl ⟨by have:=st.len;omega,hnu' b rb hlt h2,hy⟩
     ·have h1':b<lo∨hi≤b:=by omega
      rw[hCout b hs h1']at hy
      exact .inr ⟨hs,h1',h2,hy⟩
   have cross: ∀b c rb y z,nu' b=some rb→B'[b]? =some y→y.owned=true→c∉S→nu c=some rb→C[c]? =some z→z.owned=true→False:=by
    intro b c rb y z hb hy ho hcs hc hz hoz
    obtain⟨d,u,hds,hd1,hd2,hd3⟩:=ownB rb (st.own rb (i.ltN c rb hc) ⟨b,y,hb,hy,ho⟩)
    exact hcs (i.inj c d rb z u hc hd1 hz hd2 hoz hd3▸hds)
   rcases origin b rb y hb hy ho with⟨_,h2,h3⟩|⟨h1,_,h2,h3⟩
   ·rcases origin b' rb y' hb' hy' ho' with⟨_,k2,k3⟩|⟨k1,_,k2,k3⟩
    ·exact st.inv.inj b b' rb y y' h2 k2 h3 k3 ho ho'
    ·exact(cross b b' rb y y' h2 h3 ho k1 k2 k3 ho').elim
   ·rcases origin b' rb y' hb' hy' ho' with⟨_,k2,k3⟩|⟨k1,_,k2,k3⟩
    ·exact(cross b' b rb y' y k2 k3 ho' h1 h2 h3 ho).elim
    ·exact i.inj b b' rb y y' h2 k2 h3 k3 ho ho'
  ·unfold xc
   rw[if_neg (by omega)]
   exact i.fresh b (by omega)
  ·rcases join_cases b rb h with⟨_,_,_,h4⟩|⟨_,h2⟩
   ·exact st.inv.ltN b rb h4
   ·have:=i.ltN b rb h2;omega
 refine⟨⟨st.f,hn,st.shape,inv,fun rb hlt hno=>?_,fun rb hlt hO=>?_,hsz,st.os,st.tape,st.output,fun rb hF'=>?_⟩,fun a v hw hR=>(hR.restr hw).mono x1⟩
 ·refine st.keep rb hlt (fun hO=>hno ?_)
  obtain⟨b,x,_,h1,h2,h3⟩:=ownB rb hO
  exact⟨b,x,h1,h2,h3⟩
 ·obtain⟨b,y,hb,hy,ho⟩:=hO
  rcases join_cases b rb hb with⟨h1,h2,h3,h4⟩|⟨h1,h2⟩
  ·rw[hCin b h2 (.inr h1)]at hy
   obtain⟨c,z,_,hc1,hc2,hc3⟩:=ownB rb (st.own rb hlt ⟨b,y,h4,hy,ho⟩)
   exact⟨c,z,hc1,hc2,hc3⟩
  ·by_cases hs:b∈S
   ·have hl:=hS b hs
    rw[hCin b (by have:=st.len;omega) (.inl hs)]at hy
    obtain⟨c,z,_,hc1,hc2,hc3⟩:=ownB rb (st.own rb hlt ⟨b,y,hnu' b rb hl h2,hy,ho⟩)
    exact⟨c,z,hc1,hc2,hc3⟩
   ·rw[hCout b hs (by omega)]at hy
    exact⟨b,y,h2,hy,ho⟩
 ·rcases st.newF rb hF' with h1|h1|h1
  ·exact .inl h1
  ·exact .inr (.inl h1)
  ·obtain⟨b,x,_,h2,h3,h4⟩:=ownB rb h1
   exact .inr (.inr ⟨b,x,h2,h3,h4⟩)
end
end Go.Av
