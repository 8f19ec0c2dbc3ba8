/-
  A region whose order is open: every order does what the order of the text does.
-/
import Derived.Test.YtjflombnfhlkaaaGreatDoorAvDrawB
noncomputable section
namespace Go.Av
set_option linter.unusedSectionVars false
variable [Glob]
open Go.RowKit
section
variable {F:Nat→Prop} {nu:Nat→Option Nat} {w:World}
theorem qjb {C B:Heap} {S:List Nat} {G:Nat→Prop} {lo:Nat} (i:Inv F nu C w) (hB:B.length=lo)
 (hBin: ∀b,b∈S→B[b]? =C[b]?) (hBout: ∀b y,b∉S→B[b]? =some y→y= .dead) (hGlo: ∀b,G b→b<lo)
 (hwfB: ∀b y,b∈S→Dom nu b→C[b]? =some y→WFB G y):Inv F (restr nu G) B w:=by
 refine⟨fun b rb x hb hx=>?_,fun b b' rb x x' hb hb' hx hx' ho ho'=>?_,fun b hb=>?_,i.ltF,fun b rb h=>i.ltN b rb (yl h).1,i.glob⟩
 ·obtain⟨h1,h2⟩:=yl hb
  by_cases hs:b∈S
  ·rw[hBin b hs]at hx
   exact(i.blk b rb x h1 hx).restr (hwfB b x hs (by simp[Dom,h1]) hx)
  ·rw[hBout b x hs hx];trivial
 ·have hs:b∈S:=by
   by_cases hs:b∈S
   ·exact hs
   ·rw[hBout b x hs hx]at ho;cases ho
  have hs':b'∈S:=by
   by_cases hs':b'∈S
   ·exact hs'
   ·rw[hBout b' x' hs' hx']at ho';cases ho'
  rw[hBin b hs]at hx
  rw[hBin b' hs']at hx'
  exact i.inj b b' rb x x' (yl hb).1 (yl hb').1 hx hx' ho ho'
 ·unfold restr
  split
  ·rename_i hg;have:=hGlo b hg;omega
  ·rfl
theorem WFB.mono {G G':Nat→Prop} {x:Blk} (h:WFB G x) (hg: ∀b,G b→G' b):WFB G' x:=by
 cases x with
 |cells cs=>exact fun j a ha=>(h j a ha).mono hg
 |frozen cs=>exact fun j a ha=>(h j a ha).mono hg
 |map ks vs=>exact⟨fun j a ha=>(h.1 j a ha).mono hg,fun j a ha=>(h.2 j a ha).mono hg⟩
 |loop st pend fr ps asg body=>exact fun j=>(h j).mono hg
 |_=>trivial
theorem Inv.domLt {A:Heap} (i:Inv F nu A w) {b:Nat} (h:Dom nu b):b<A.length:=by
 rcases Nat.lt_or_ge b A.length with h1|h1
 ·exact h1
 ·exact absurd (i.fresh b h1) h
def pad (A:Heap) (N:Nat):Heap:=A++List.replicate (N-A.length) .dead
theorem qbF {A:Heap} {N:Nat} (h:A.length≤N):(pad A N).length=N:=by simp[pad];omega
theorem qdR {A:Heap} {N:Nat} {b:Nat} (h:b<A.length):(pad A N)[b]? =A[b]? :=by simp[pad,List.getElem?_append_left h]
theorem qoh {A:Heap} {N:Nat} {b:Nat} {y:Blk} (h:A.length≤b) (hy:(pad A N)[b]? =some y):y= .dead:=by
 simp only[pad]at hy
 rw[List.getElem?_append_right h,List.getElem?_replicate]at hy
 split at hy
 ·injection hy with hy;exact hy.symm
 ·cases hy
theorem Inv.pad {A:Heap} (i:Inv F nu A w) {N:Nat} (h:A.length≤N):Inv F nu (pad A N) w:=by
 have key: ∀b rb y,nu b=some rb→(Go.Av.pad A N)[b]? =some y→A[b]? =some y:=by
  intro b rb y hb hy
  have:=i.domLt (b:=b) (by simp[Dom,hb])
  rwa [qdR this]at hy
 refine⟨fun b rb x hb hx=>i.blk b rb x hb (key b rb x hb hx),fun b b' rb x x' hb hb' hx hx'=>i.inj b b' rb x x' hb hb' (key _ _ _ hb hx) (key _ _ _ hb' hx'),fun b hb=>i.fresh b (by rw[qbF h]at hb;omega),i.ltF,i.ltN,i.glob⟩
theorem RF.maskF {fr:Fr} {tmps:Array Value} (ts:List Tmp) (h:RF F nu w fr tmps):RF F nu w (maskF ts fr) tmps:=by
 refine⟨by rw[h.size,qge],fun t v hv=>?_,fun t ht=>?_⟩
 ·rcases qci ts fr t with e|⟨e,_⟩
  ·rw[e];exact .undef v
  ·rw[e];exact h.at_ t v hv
 ·rcases qci ts fr t with e|⟨e,_⟩
  ·exact e
  ·rw[e];exact h.out t (by rwa [qge]at ht)
theorem RF.restr {G:Nat→Prop} {fr:Fr} {tmps:Array Value} (h:RF F nu w fr tmps) (hw: ∀t,WF G (fr.get t)):RF F (restr nu G) w fr tmps:=
 ⟨h.size,fun t v hv=>(h.at_ t v hv).restr (hw t),h.out⟩
end
structure SF (P:Program) (ops:Array Oper) (k:Nat) (s s':Fr×Heap) (r:Rec) (o:Oper) (v:AV):Prop where
 ho:ops[k]? =some o
 fr:s'.1=qaM s.1 o.dst v
 lo:r.lo=s.2.length
 hi:r.hi=s'.2.length
 le:s.2.length≤s'.2.length
 fp: ∀b∈r.fp,b<s.2.length
 quiet: ∀b,b<s.2.length→(b∈r.fp→r.wr=false)→s'.2[b]? =s.2[b]?
 run:(vC ops o (maskF (zN ops o) s.1)=some false∧v= .tuple []∧s'.2=s.2∧r.fp=[]∧r.wr=false)∨
  (vC ops o (maskF (zN ops o) s.1)=some true∧ ∃B,(∃call f,zg P call∧yV P call o (maskF (zN ops o) s.1) (mask r.fp s.2)=some (v,B,f))∧B.length=s'.2.length∧
   ∀b,(b∈r.fp∨s.2.length≤b)→s'.2[b]? =B[b]?)
theorem SF.of {P:Program} {call:zM} (hc:zg P call) {ops:Array Oper} {k:Nat} {s s':Fr×Heap} {r:Rec} (h:qcY P call ops k s=some (s',r)): ∃o v,SF P ops k s s' r o v:=by
 obtain⟨o,ho,⟨hw,rfl,rfl⟩|⟨hw,v,B,f,hst,rfl,hfp,hle,hlo,hhi,hwr⟩⟩:=qke h
 ·exact⟨o,.tuple [],ho,rfl,rfl,rfl,Nat.le_refl _,by simp,fun _ _ _=>rfl,.inl ⟨hw,rfl,rfl,rfl,rfl⟩⟩
 ·refine⟨o,v,ho,rfl,hlo,by simp[xg,hhi],by simpa[xg]using hle,hfp,fun b hb hq=>?_,.inr ⟨hw,B,⟨call,f,hc,hst⟩,by simp[xg],fun b hb=>?_⟩⟩
  ·simp only[qaZ]
   have hlt:b<B.length:=by omega
   rw[List.getElem?_eq_getElem hlt,List.getElem?_eq_getElem hb]
   simp only[Option.map_some,Option.some.injEq,hb,decide_true,Bool.true_and,Bool.not_eq_true']
   split
   ·simp[List.getD_eq_getElem?_getD,List.getElem?_eq_getElem hb]
   ·rename_i hc
    have hin:b∈r.fp:=by simpa using hc
    have h1:=hwr (hq hin) b hin
    rw[qbL,List.getElem?_eq_getElem hb,List.getElem?_eq_getElem hlt]at h1
    simpa[hin]using h1
  ·simp only[qaZ]
   rcases Nat.lt_or_ge b B.length with hlt|hge
   ·rw[List.getElem?_eq_getElem hlt]
    simp only[Option.map_some,Option.some.injEq]
    rw[if_neg]
    rcases hb with hb|hb
    ·simp[hb]
    ·simp;omega
   ·rw[List.getElem?_eq_none hge];rfl
structure Txt (P:Program) (ops:Array Oper) (S:Nat→Fr×Heap) (rk:Nat→Rec) (ok:Nat→Oper) (vk:Nat→AV):Prop where
 sf: ∀k,k<ops.size→SF P ops k (S k) (S (k+1)) (rk k) (ok k) (vk k)
section
variable {P:Program} {call:zM} {ops:Array Oper} {S:Nat→Fr×Heap} {rk:Nat→Rec} {ok:Nat→Oper} {vk:Nat→AV}
theorem Txt.mono (T:Txt P ops S rk ok vk) {m:Nat}: ∀(d:Nat),m+d≤ops.size→(S m).2.length≤(S (m+d)).2.length:=by
 intro d
 induction d with
 |zero=>intro _;exact Nat.le_refl _
 |succ d ih=>intro h;exact Nat.le_trans (ih (by omega)) (T.sf (m+d) (by omega)).le
theorem Txt.le (T:Txt P ops S rk ok vk) {m m':Nat} (h:m≤m') (h':m'≤ops.size):(S m).2.length≤(S m').2.length:=by
 have:=T.mono (m:=m) (m'-m) (by omega)
 rwa [show m+(m'-m)=m' by omega]at this
theorem Txt.heap (T:Txt P ops S rk ok vk) {m b:Nat} (hb:b<(S m).2.length): ∀(d:Nat),m+d≤ops.size→(∀k,m≤k→k<m+d→b∈(rk k).fp→(rk k).wr=false)→(S (m+d)).2[b]? =(S m).2[b]? :=by
 intro d
 induction d with
 |zero=>intro _ _;rfl
 |succ d ih=>
  intro h hq
  rw[←ih (by omega) (fun k h1 h2=>hq k h1 (by omega))]
  exact(T.sf (m+d) (by omega)).quiet b (by have:=T.mono (m:=m) d (by omega);omega) (hq (m+d) (by omega) (by omega))
theorem qjR {fr:Fr} {dst:Option Tmp} {v:AV} {t:Nat} (h:dst≠some t):(qaM fr dst v).get t=fr.get t:=by
 cases dst with
 |none=>rfl
 |some d=>exact Fr.get_set_other (fun e=>h (by rw[e]))
theorem qpm {fr:Fr} {dst:Option Tmp} {v:AV}:(qaM fr dst v).n=fr.n:=by
 cases dst<;>simp[qaM]
theorem qnH {fr:Fr} {dst:Option Tmp} {v:AV} {t:Nat} (h:fr.n≤t):(qaM fr dst v).get t=fr.get t:=by
 cases dst with
 |none=>rfl
 |some d=>
  by_cases e:d=t
  ·subst e
   exact Fr.get_set_out h
  ·exact Fr.get_set_other e
theorem Txt.frame (T:Txt P ops S rk ok vk) {m t:Nat}: ∀(d:Nat),m+d≤ops.size→(∀k,m≤k→k<m+d→(ok k).dst≠some t)→(S (m+d)).1.get t=(S m).1.get t:=by
 intro d
 induction d with
 |zero=>intro _ _;rfl
 |succ d ih=>
  intro h hq
  rw[←ih (by omega) (fun k h1 h2=>hq k h1 (by omega))]
  have:=(T.sf (m+d) (by omega)).fr
  rw[show m+(d+1)=m+d+1 by omega,this]
  exact qjR (hq (m+d) (by omega) (by omega))
theorem Txt.flen (T:Txt P ops S rk ok vk): ∀(d:Nat),d≤ops.size→(S d).1.n=(S 0).1.n:=by
 intro d
 induction d with
 |zero=>intro _;rfl
 |succ d ih=>
  intro h
  rw[(T.sf d (by omega)).fr,qpm,ih (by omega)]
theorem Txt.fout (T:Txt P ops S rk ok vk) {t:Nat} (ht:(S 0).1.n≤t): ∀(d:Nat),d≤ops.size→(S d).1.get t=(S 0).1.get t:=by
 intro d
 induction d with
 |zero=>intro _;rfl
 |succ d ih=>
  intro h
  rw[(T.sf d (by omega)).fr,qnH (by rw[T.flen d (by omega)];exact ht),ih (by omega)]
theorem Txt.place (S:Nat→Fr×Heap) {b:Nat}: ∀(d:Nat),b<(S d).2.length→b<(S 0).2.length∨ ∃k,k<d∧(S k).2.length≤b∧b<(S (k+1)).2.length:=by
 intro d
 induction d with
 |zero=>intro h;exact .inl h
 |succ d ih=>
  intro hb
  rcases Nat.lt_or_ge b (S d).2.length with h1|h1
  ·rcases ih h1 with h2|⟨k,h2,h3⟩
   ·exact .inl h2
   ·exact .inr ⟨k,by omega,h3⟩
  ·exact .inr ⟨d,by omega,h1,hb⟩
theorem WF.sub {F:Nat→Prop} {nu:Nat→Option Nat} {w:World} {a:AV} {v:Value} (h:R F nu w a v) {G:Nat→Prop} (hG: ∀b,Dom nu b→G b):WF G a:=⟨F,nu,w,v,hG,h⟩
theorem Txt.ghost (T:Txt P ops S rk ok vk) {F0:Nat→Prop} {nu0:Nat→Option Nat} {w0:World} {t0:Array Value} (i0:Inv F0 nu0 (S 0).2 w0) (h0:RF F0 nu0 w0 (S 0).1 t0):
 ∀m,m≤ops.size→ ∃F nu w tmps,Inv F nu (S m).2 w∧RF F nu w (S m).1 tmps∧(∀b,Dom nu0 b→Dom nu b)∧
  ∀k,k≤m→(∀(t:Nat),WF (fun b=>Dom nu b∧b<(S k).2.length) ((S k).1.get t))∧ ∀(b:Nat) (y:Blk),Dom nu b→(S k).2[b]? =some y→WFB (fun b=>Dom nu b∧b<(S k).2.length) y:=by
 intro m
 induction m with
 |zero=>
  intro _
  refine⟨F0,nu0,w0,t0,i0,h0,fun _ h=>h,fun k hk=>?_⟩
  obtain rfl:k=0:=by omega
  refine⟨fun t=>?_,fun b y hb hy=>?_⟩
  ·exact WF.sub (h0.getD t) (fun b hb=>⟨hb,i0.domLt hb⟩)
  ·cases hn:nu0 b with
   |none=>exact absurd hn hb
   |some rb=>exact(i0.blk b rb y hn hy).wf (fun b hb=>⟨hb,i0.domLt hb⟩)
 |succ m ih=>
  intro hm
  obtain⟨F,nu,w,tmps,i,h,hd,hg⟩:=ih (by omega)
  have sf:=T.sf m (by omega)
  have fin: ∀(F':Nat→Prop) (nu':Nat→Option Nat) (w':World) (x:Value),Inv F' nu' (S (m+1)).2 w'→RF F' nu' w' (S (m+1)).1 (Act.put ⟨tmps,[]⟩ (ok m).dst x).tmps→(∀b,Dom nu b→Dom nu' b)→(∀b,b<(S m).2.length→Dom nu' b→Dom nu b)→
   ∃F nu w tmps,Inv F nu (S (m+1)).2 w∧RF F nu w (S (m+1)).1 tmps∧(∀b,Dom nu0 b→Dom nu b)∧
    ∀k,k≤m+1→(∀(t:Nat),WF (fun b=>Dom nu b∧b<(S k).2.length) ((S k).1.get t))∧ ∀(b:Nat) (y:Blk),Dom nu b→(S k).2[b]? =some y→WFB (fun b=>Dom nu b∧b<(S k).2.length) y:=by
   intro F' nu' w' x i' h' hd1 hd2
   refine⟨F',nu',w',_,i',h',fun b hb=>hd1 b (hd b hb),fun k hk=>?_⟩
   rcases Nat.lt_or_ge m k with hk2|hk2
   ·obtain rfl:k=m+1:=by omega
    refine⟨fun t=>?_,fun b y hb hy=>?_⟩
    ·exact WF.sub (h'.getD t) (fun b hb=>⟨hb,i'.domLt hb⟩)
    ·cases hn:nu' b with
     |none=>exact absurd hn hb
     |some rb=>exact(i'.blk b rb y hn hy).wf (fun b hb=>⟨hb,i'.domLt hb⟩)
   ·have hle:=T.le hk2 (by omega)
    obtain⟨g1,g2⟩:=hg k hk2
    refine⟨fun t=>(g1 t).mono fun b hb=>⟨hd1 b hb.1,hb.2⟩,fun b y hb hy=>?_⟩
    have hlt:b<(S k).2.length:=(List.getElem?_eq_some_iff.1 hy).1
    have:=g2 b y (hd2 b (by omega) hb) hy
    exact WFB.mono this fun b hb=>⟨hd1 b hb.1,hb.2⟩
  rcases sf.run with⟨_,hv,hA,_,_⟩|⟨_,B,⟨call,f,hc,hst⟩,hBl,hBs⟩
  ·refine fin F nu w undef (by rw[hA];exact i) ?_ (fun _ h=>h) (fun _ _ h=>h)
   rw[sf.fr,hv]
   exact h.setDst (a:=⟨tmps,[]⟩) _ qgg
  ·have gm:=hg m (Nat.le_refl _)
   have hle:=sf.le
   have iC:=i.pad (N:=(S (m+1)).2.length) hle
   have hmask: ∀b,b∈(rk m).fp→(mask (rk m).fp (S m).2)[b]? =(pad (S m).2 (S (m+1)).2.length)[b]? :=by
    intro b hb
    rw[qdR (sf.fp b hb),qbL,List.getElem?_eq_getElem (sf.fp b hb)]
    simp[hb]
   have hmaskO: ∀b y,b∉(rk m).fp→(mask (rk m).fp (S m).2)[b]? =some y→y= .dead:=by
    intro b y hb hy
    rw[qbL]at hy
    cases hz:(S m).2[b]? with
    |none=>simp[hz]at hy
    |some z=>simp[hz,hb]at hy;exact hy.symm
   have hwfB: ∀b y,b∈(rk m).fp→Dom nu b→(pad (S m).2 (S (m+1)).2.length)[b]? =some y→WFB (fun b=>Dom nu b∧b<(S m).2.length) y:=by
    intro b y hb hdb hy
    rw[qdR (sf.fp b hb)]at hy
    exact gm.2 b y hdb hy
   have iB:=qjb iC (B:=mask (rk m).fp (S m).2) (lo:=(S m).2.length) (jX _ _) hmask hmaskO (fun b hb=>hb.2) hwfB
   have hB:RF F (restr nu fun b=>Dom nu b∧b<(S m).2.length) w (S m).1 tmps:=h.restr gm.1
   obtain⟨x,F',nu',w',st,hR⟩:=qmU hc iB (hB.maskF (zN ops (ok m))) hst
   have hdn: ∀b,b<(S m).2.length→Dom nu b→Dom nu' b:=by
    intro b hb hdb
    cases hn:nu b with
    |none=>exact absurd hn hdb
    |some rb=>simp[Dom,st.n b rb (qaQ hn ⟨hdb,hb⟩)]
   obtain⟨mv,hR2⟩:=Stp.part (S:=(rk m).fp) (G:=fun b=>Dom nu b∧b<(S m).2.length) (G':=fun b=>Dom nu' b∧b<(S (m+1)).2.length) (lo:=(S m).2.length) (hi:=(S (m+1)).2.length) (C:=pad (S m).2 (S (m+1)).2.length) (C':=(S (m+1)).2) (B:=mask (rk m).fp (S m).2) (B':=B)
    iC (jX _ _) hBl (by rw[qbF hle];exact Nat.le_refl _) (by rw[qbF hle]) (fun b hb _=>i.fresh b hb) sf.fp hmask hmaskO (fun b h1 h2=>⟨h1,h2⟩) (fun b hb=>hb.2) hwfB (fun _=>st)
    (fun b y hb hy=>by
     have hbd:Dom nu' b:=by
      rcases hb with⟨h1,h2⟩|⟨_,h2⟩
      ·exact hdn b (sf.fp b h1) h2
      ·exact h2.1
     cases hn:nu' b with
     |none=>exact absurd hn hbd
     |some rb=>exact(st.inv.blk b rb y hn hy).wf (fun b hb=>⟨hb,by have:=st.inv.domLt hb;omega⟩))
    (fun b hb=>hb.2) (fun b _ hb=>hBs b hb)
    (fun b hb hb2=>by
     rcases hb2 with hb2|hb2
     ·rw[qdR hb2];exact sf.quiet b hb2 (fun h=>absurd h hb)
     ·rw[List.getElem?_eq_none hb2,List.getElem?_eq_none (by rw[qbF hle];exact hb2)])
   have hvR:R F' (xc nu nu' (S m).2.length (S (m+1)).2.length fun b=>Dom nu' b∧b<(S (m+1)).2.length) w' (vk m) x:=
    hR2 (vk m) x (WF.sub hR fun b hb=>⟨hb,by have:=st.inv.domLt hb;omega⟩) hR
   refine fin F' _ w' x mv.inv ?_ (fun b hb=>?_) (fun b hb hdb=>?_)
   ·rw[sf.fr]
    exact(h.mono (mv.ext iC)).setDst (a:=⟨tmps,[]⟩) _ hvR
   ·cases hn:nu b with
    |none=>exact absurd hn hb
    |some rb=>intro e;rw[mv.n b rb hn]at e;cases e
   ·simp only[Dom,xc]at hdb
    rwa [if_neg (by omega)]at hdb
structure DI (ops:Array Oper) (S:Nat→Fr×Heap) (rk:Nat→Rec) (ok:Nat→Oper) (G:Nat→Prop) (F0:Nat→Prop) (nu0:Nat→Option Nat) (w0:World) (D:Nat→Prop) (C:Heap) (F:Nat→Prop) (nu:Nat→Option Nat) (w:World) (tmps:Array Value):Prop where
 len:C.length=(S ops.size).2.length
 mov:Mov F0 nu0 (pad (S 0).2 (S ops.size).2.length) w0 F nu C w
 dom: ∀b,Dom nu b→G b
 made: ∀b,Dom nu b→b<(S 0).2.length∨ ∃k,k<ops.size∧D k∧(S k).2.length≤b∧b<(S (k+1)).2.length
 nold: ∀b,b<(S 0).2.length→nu b=nu0 b
 cells: ∀m,m≤ops.size→ ∀b,b<(S m).2.length→(b<(S 0).2.length∨ ∃k,k<ops.size∧D k∧(S k).2.length≤b∧b<(S (k+1)).2.length)→
  (∀k,k<ops.size→b∈(rk k).fp→(rk k).wr=true→(k<m↔D k))→C[b]? =(S m).2[b]?
 size:tmps.size=(S 0).1.n
 out: ∀t,(S 0).1.n≤t→(S 0).1.get t= .undef
 temps: ∀m,m≤ops.size→ ∀(t:Nat) (v:Value),(∀k,k<ops.size→(ok k).dst=some t→(k<m↔D k))→tmps[t]? =some v→R F nu w ((S m).1.get t) v
structure qfS (ops:Array Oper) (rk:Nat→Rec) (ok:Nat→Oper) (ord:Nat→Nat→Prop):Prop where
 tmp: ∀i j,i<j→j<ops.size→ ¬ord i j→ ∀t,(ok i).dst=some t→t∉zN ops (ok j)∧(ok j).dst≠some t
 tmp': ∀i j,i<j→j<ops.size→ ¬ord i j→ ∀t,(ok j).dst=some t→t∉zN ops (ok i)
 mem: ∀i j,i<j→j<ops.size→ ¬ord i j→((rk i).wr=true∨(rk j).wr=true)→ ∀b,b∈(rk i).fp→b∉(rk j).fp
 new: ∀i j,i<j→j<ops.size→ ¬ord i j→ ∀b,b∈(rk j).fp→ ¬((rk i).lo≤b∧b<(rk i).hi)
def next (fp:List Nat) (C A':Heap) (lo hi:Nat):Heap:=C.zipIdx.map fun p=>if(fp.contains p.2||decide (lo≤p.2))&&decide (p.2<hi)then A'.getD p.2 .dead else p.1
theorem qfN (fp:List Nat) (C A':Heap) (lo hi:Nat):(next fp C A' lo hi).length=C.length:=by simp[next]
theorem qit {fp:List Nat} {C A':Heap} {lo hi b:Nat} (hA:A'.length=hi) (hC:hi≤C.length) (hb:b<hi) (h:b∈fp∨lo≤b):(next fp C A' lo hi)[b]? =A'[b]? :=by
 simp only[next,List.getElem?_map,List.getElem?_zipIdx,Option.map_map,Nat.zero_add]
 rw[List.getElem?_eq_getElem (show b<C.length by omega),List.getElem?_eq_getElem (show b<A'.length by omega)]
 have:(fp.contains b||decide (lo≤b))=true:=by
  rcases h with h|h<;>simp[h]
 simp only[Option.map_some,Function.comp,this,hb,decide_true,Bool.and_self,if_true,Option.some.injEq]
 rw[List.getD_eq_getElem?_getD,List.getElem?_eq_getElem (show b<A'.length by omega)]
 rfl
theorem qi2 {fp:List Nat} {C A':Heap} {lo hi b:Nat} (h1:b∉fp) (h2:b<lo∨hi≤b):(next fp C A' lo hi)[b]? =C[b]? :=by
 simp only[next,List.getElem?_map,List.getElem?_zipIdx,Option.map_map,Nat.zero_add]
 cases h:C[b]? with
 |none=>rfl
 |some x=>
  have:((fp.contains b||decide (lo≤b))&&decide (b<hi))=false:=by
   have:fp.contains b=false:=by simpa using h1
   simp only[this,Bool.false_or,Bool.and_eq_false_iff,decide_eq_false_iff_not]
   omega
  simp only[Option.map_some,Function.comp,this,Bool.false_eq_true,if_false]
theorem qgO (tmps:Array Value) (df:List Deferred) (dst:Option Tmp) (x:Value):(Act.put ⟨tmps,df⟩ dst x).tmps.size=tmps.size:=by
 cases dst<;>simp[Act.put]
theorem qlj {tmps:Array Value} {df:List Deferred} {dst:Option Tmp} {x:Value} {t:Nat} (h:dst≠some t):(Act.put ⟨tmps,df⟩ dst x).tmps[t]? =tmps[t]? :=by
 cases dst with
 |none=>rfl
 |some d=>
  simp only[Act.put]
  rw[Array.getElem?_setIfInBounds_ne (fun e=>h (by rw[e]))]
theorem qmq {tmps:Array Value} {df:List Deferred} {x v:Value} {t:Nat} (h:(Act.put ⟨tmps,df⟩ (some t) x).tmps[t]? =some v):v=x:=by
 simp only[Act.put]at h
 rw[Array.getElem?_setIfInBounds]at h
 simp only[if_true]at h
 split at h
 ·injection h with h;exact h.symm
 ·cases h
section
variable {G:Nat→Prop} {F0:Nat→Prop} {nu0:Nat→Option Nat} {w0:World} {D:Nat→Prop} {C:Heap} {F:Nat→Prop} {nu:Nat→Option Nat} {w:World} {tmps:Array Value} {ord:Nat→Nat→Prop}
theorem DI.cut (K:qfS ops rk ok ord) (hcl: ∀i k,ord i k→D k→D i) {j:Nat} (hj:j<ops.size) (hnj: ¬D j) (hord: ∀i,i<j→ord i j→D i) {b:Nat} (hb:b∈(rk j).fp):
 ∀k,k<ops.size→b∈(rk k).fp→(rk k).wr=true→(k<j↔D k):=by
 intro k hk hbk hwk
 rcases Nat.lt_trichotomy k j with h|h|h
 ·refine⟨fun _=>?_,fun _=>h⟩
  cases Classical.em (ord k j)with
  |inl ho=>exact hord k (by omega) ho
  |inr ho=>exact absurd hb (K.mem k j h hj ho (.inl hwk) b hbk)
 ·subst h
  exact⟨fun h=>by omega,fun h=>absurd h hnj⟩
 ·refine⟨fun h'=>by omega,fun hD=>?_⟩
  cases Classical.em (ord j k)with
  |inl ho=>exact absurd (hcl j k ho hD) hnj
  |inr ho=>exact absurd hbk (K.mem j k h hk ho (.inr hwk) b hb)
theorem DI.cutT (K:qfS ops rk ok ord) (hcl: ∀i k,ord i k→D k→D i) {j:Nat} (hj:j<ops.size) (hnj: ¬D j) (hord: ∀i,i<j→ord i j→D i) {t:Nat} (ht:t∈zN ops (ok j)):
 ∀k,k<ops.size→(ok k).dst=some t→(k<j↔D k):=by
 intro k hk hd
 rcases Nat.lt_trichotomy k j with h|h|h
 ·refine⟨fun _=>?_,fun _=>h⟩
  cases Classical.em (ord k j)with
  |inl ho=>exact hord k (by omega) ho
  |inr ho=>exact absurd ht (K.tmp k j h hj ho t hd).1
 ·subst h
  exact⟨fun h=>by omega,fun h=>absurd h hnj⟩
 ·refine⟨fun h'=>by omega,fun hD=>?_⟩
  cases Classical.em (ord j k)with
  |inl ho=>exact absurd (hcl j k ho hD) hnj
  |inr ho=>exact absurd ht (K.tmp' j k h hk ho t hd)
theorem DI.reads (I:DI ops S rk ok G F0 nu0 w0 D C F nu w tmps) (T:Txt P ops S rk ok vk) (K:qfS ops rk ok ord) (hcl: ∀i k,ord i k→D k→D i) {j:Nat} (hj:j<ops.size) (hnj: ¬D j) (hord: ∀i,i<j→ord i j→D i):
 RF F nu w (maskF (zN ops (ok j)) (S j).1) tmps:=by
 refine⟨by rw[qge,I.size,T.flen j (by omega)],fun t v hv=>?_,fun t ht=>?_⟩
 ·rcases qci (zN ops (ok j)) (S j).1 t with e|⟨e,hc⟩
  ·rw[e];exact .undef v
  ·rw[e];exact I.temps j (by omega) t v (DI.cutT K hcl hj hnj hord hc) hv
 ·rcases qci (zN ops (ok j)) (S j).1 t with e|⟨e,_⟩
  ·exact e
  ·rw[qge,T.flen j (by omega)]at ht
   rw[e,T.fout ht j (by omega)]
   exact I.out t ht
theorem DI.nextT (I:DI ops S rk ok G F0 nu0 w0 D C F nu w tmps) (T:Txt P ops S rk ok vk) (K:qfS ops rk ok ord) (hcl: ∀i k,ord i k→D k→D i) {j:Nat} (hj:j<ops.size) (hnj: ¬D j)
 {D':Nat→Prop} (hD': ∀k,D' k↔D k∨k=j) {F':Nat→Prop} {nu':Nat→Option Nat} {w':World} (x1:Ext F nu w F' nu' w') {x:Value} (hx:(∃t:Nat,(ok j).dst=some t∧(S (j+1)).1.get t=vk j)→R F' nu' w' (vk j) x) (df:List Deferred):
 ∀m,m≤ops.size→ ∀(t:Nat) (v:Value),(∀k,k<ops.size→(ok k).dst=some t→(k<m↔D' k))→(Act.put ⟨tmps,df⟩ (ok j).dst x).tmps[t]? =some v→R F' nu' w' ((S m).1.get t) v:=by
 intro m hm t v hcut hv
 by_cases hd:(ok j).dst=some t
 ·have hjm:j<m:=(hcut j hj hd).2 ((hD' j).2 (.inr rfl))
  have hlt:t<tmps.size:=by
   have:=(Array.getElem?_eq_some_iff.1 hv).1
   rwa [qgO]at this
  rw[hd]at hv
  obtain rfl:=qmq hv
  have hq: ∀k,j+1≤k→k<(j+1)+(m-(j+1))→(ok k).dst≠some t:=by
   intro k h1 h2 hdk
   have hDk:D' k:=(hcut k (by omega) hdk).1 (by omega)
   rcases(hD' k).1 hDk with hDk|hDk
   ·cases Classical.em (ord j k)with
    |inl ho=>exact hnj (hcl j k ho hDk)
    |inr ho=>exact(K.tmp j k (by omega) (by omega) ho t hd).2 hdk
   ·omega
  have h1:=T.frame (m:=j+1) (t:=t) (m-(j+1)) (by omega) hq
  rw[show j+1+(m-(j+1))=m by omega]at h1
  rw[h1]
  have h2:(S (j+1)).1=(S j).1.set t (vk j):=by rw[(T.sf j hj).fr,hd];rfl
  rcases(S j).1.get_set_same t (vk j)with e|e|⟨hge,_⟩
  ·rw[←h2]at e
   rw[e]
   exact hx ⟨t,hd,e⟩
  ·rw[←h2]at e
   rw[e]
   exact .undef _
  ·rw[T.flen j (by omega),←I.size]at hge
   omega
 ·rw[qlj hd]at hv
  refine(I.temps m hm t v (fun k hk hdk=>?_) hv).mono x1
  rw[hcut k hk hdk,hD' k]
  refine⟨fun h=>h.elim id fun e=>?_,.inl⟩
  subst e
  exact absurd hdk hd
set_option maxHeartbeats 1000000 in
theorem DI.step (I:DI ops S rk ok G F0 nu0 w0 D C F nu w tmps) (T:Txt P ops S rk ok vk) (K:qfS ops rk ok ord) (hcl: ∀i k,ord i k→D k→D i) {j:Nat} (hj:j<ops.size) (hnj: ¬D j) (hord: ∀i,i<j→ord i j→D i)
 (hG: ∀k,k≤ops.size→(∀(t:Nat),WF (fun b=>G b∧b<(S k).2.length) ((S k).1.get t))∧ ∀(b:Nat) (y:Blk),G b→(S k).2[b]? =some y→WFB (fun b=>G b∧b<(S k).2.length) y)
 {D':Nat→Prop} (hD': ∀k,D' k↔D k∨k=j) {df:List Deferred} {rr:Option Nat} {n:Nat} {Kn:Act→World→Prop} {Q:Exit→Act→World→Prop}
 (hk: ∀C' F' nu' w' tmps',DI ops S rk ok G F0 nu0 w0 D' C' F' nu' w' tmps'→Kn ⟨tmps',df⟩ w'):wpOpIn (fz rr) n P ops Q j Kn ⟨tmps,df⟩ w:=by
 have sf:=T.sf j hj
 have hreads:=I.reads T K hcl hj hnj hord
 have hle:=sf.le
 have hleN:(S (j+1)).2.length≤(S ops.size).2.length:=T.le (by omega) (Nat.le_refl _)
 have madeUp: ∀b,(b<(S 0).2.length∨ ∃k,k<ops.size∧D k∧(S k).2.length≤b∧b<(S (k+1)).2.length)→(b<(S 0).2.length∨ ∃k,k<ops.size∧D' k∧(S k).2.length≤b∧b<(S (k+1)).2.length):=by
  rintro b (h|⟨k,h1,h2,h3⟩)
  ·exact .inl h
  ·exact .inr ⟨k,h1,(hD' k).2 (.inl h2),h3⟩
 have sepK: ∀k b,k<ops.size→(S k).2.length≤b→b<(S (k+1)).2.length→(S j).2.length≤b→b<(S (j+1)).2.length→k=j:=by
  intro k b hk h1 h2 h3 h4
  rcases Nat.lt_trichotomy k j with h|h|h
  ·have:=T.le (m:=k+1) (m':=j) (by omega) (by omega);omega
  ·exact h
  ·have:=T.le (m:=j+1) (m':=k) (by omega) (by omega);omega
 have hnone: ∀b,(S j).2.length≤b→b<(S (j+1)).2.length→nu b=none:=by
  intro b h1 h2
  cases hn:nu b with
  |none=>rfl
  |some r=>
   rcases I.made b (by simp[Dom,hn])with h|⟨k,hk1,hk2,hk3,hk4⟩
   ·have:=T.le (m:=0) (m':=j) (by omega) (by omega);omega
   ·obtain rfl:=sepK k b hk1 hk3 hk4 h1 h2
    exact absurd hk2 hnj
 have hfpm: ∀b,b∈(rk j).fp→b<(S 0).2.length∨ ∃k,k<ops.size∧D k∧(S k).2.length≤b∧b<(S (k+1)).2.length:=by
  intro b hb
  rcases Txt.place S j (sf.fp b hb)with h|⟨k,h1,h2,h3⟩
  ·exact .inl h
  ·refine .inr ⟨k,by omega,?_,h2,h3⟩
   cases Classical.em (ord k j)with
   |inl ho=>exact hord k (by omega) ho
   |inr ho=>exact absurd ⟨by rw[(T.sf k (by omega)).lo];exact h2,by rw[(T.sf k (by omega)).hi];exact h3⟩ (K.new k j h1 hj ho b hb)
 have hfpC: ∀b,b∈(rk j).fp→C[b]? =(S j).2[b]? :=fun b hb=>I.cells j (by omega) b (sf.fp b hb) (hfpm b hb) (DI.cut K hcl hj hnj hord hb)
 unfold wpOpIn
 rw[sf.ho]
 simp only
 rcases sf.run with⟨hw,hv,hA,hfp,hwr⟩|⟨hw,B,⟨call,f,hc,hst⟩,hBl,hBs⟩
 ·rw[qa4 hreads hw]
  simp only[Bool.false_eq_true,if_false]
  have:Act.put ⟨tmps,df⟩ (ok j).dst undef=⟨(Act.put ⟨tmps,df⟩ (ok j).dst undef).tmps,df⟩:=by cases(ok j).dst<;>rfl
  rw[this]
  refine⟨fun _ _=>trivial,?_⟩
  refine hk C F nu w _ ⟨I.len,I.mov,I.dom,fun b hb=>madeUp b (I.made b hb),I.nold,fun m hm b hb hmd hcut=>?_,by rw[qgO];exact I.size,I.out,I.nextT T K hcl hj hnj hD' (Ext.refl _ _ _) (fun _=>by rw[hv];exact qgg) df⟩
  refine I.cells m hm b hb ?_ (fun k hk1 hk2 hk3=>?_)
  ·rcases hmd with h|⟨k,h1,h2,h3,h4⟩
   ·exact .inl h
   ·rcases(hD' k).1 h2 with h2|rfl
    ·exact .inr ⟨k,h1,h2,h3,h4⟩
    ·rw[hA]at h4;omega
  ·rw[hcut k hk1 hk2 hk3,hD' k]
   refine⟨fun h=>h.elim id fun e=>?_,.inl⟩
   subst e
   rw[hfp]at hk2;cases hk2
 ·rw[qa4 hreads hw]
  simp only[if_true]
  have iC:=I.mov.inv
  obtain⟨gj1,gj2⟩:=hG j (by omega)
  obtain⟨gn1,gn2⟩:=hG (j+1) (by omega)
  have hmask: ∀b,b∈(rk j).fp→(mask (rk j).fp (S j).2)[b]? =C[b]? :=by
   intro b hb
   rw[hfpC b hb,qbL,List.getElem?_eq_getElem (sf.fp b hb)]
   simp[hb]
  have hmaskO: ∀b y,b∉(rk j).fp→(mask (rk j).fp (S j).2)[b]? =some y→y= .dead:=by
   intro b y hb hy
   rw[qbL]at hy
   cases hz:(S j).2[b]? with
   |none=>simp[hz]at hy
   |some z=>simp[hz,hb]at hy;exact hy.symm
  have hwfB: ∀b y,b∈(rk j).fp→Dom nu b→C[b]? =some y→WFB (fun b=>G b∧b<(S j).2.length) y:=by
   intro b y hb hdb hy
   rw[hfpC b hb]at hy
   exact gj2 b y (I.dom b hdb) hy
  have iB:=qjb iC (B:=mask (rk j).fp (S j).2) (lo:=(S j).2.length) (jX _ _) hmask hmaskO (fun b hb=>hb.2) hwfB
  have hB:RF F (restr nu fun b=>G b∧b<(S j).2.length) w (maskF (zN ops (ok j)) (S j).1) tmps:=by
   refine hreads.restr fun t=>?_
   rcases qci (zN ops (ok j)) (S j).1 t with e|⟨e,_⟩
   ·rw[e];exact⟨F,fun _=>none,w,.nilIface,fun b hb=>absurd rfl hb,.undef _⟩
   ·rw[e];exact gj1 t
  refine qgH hc iB hB hst (fun x F' nu' w' st hR _=>?_)
  obtain⟨mv,hR2⟩:=Stp.part (S:=(rk j).fp) (G:=fun b=>G b∧b<(S j).2.length) (G':=fun b=>G b∧b<(S (j+1)).2.length) (lo:=(S j).2.length) (hi:=(S (j+1)).2.length) (C:=C)
   (C':=next (rk j).fp C (S (j+1)).2 (S j).2.length (S (j+1)).2.length) (B:=mask (rk j).fp (S j).2) (B':=B)
   iC (jX _ _) hBl (by rw[I.len];exact hleN) (qfN _ _ _ _ _) hnone sf.fp hmask hmaskO (fun b h1 h2=>⟨I.dom b h1,h2⟩) (fun b hb=>hb.2) hwfB (fun _=>st)
   (fun b y hb hy=>by
    rcases hb with⟨h1,h2⟩|⟨h1,h2⟩
    ·rw[←hBs b (.inl h1)]at hy
     exact gn2 b y (I.dom b h2) hy
    ·rw[←hBs b (.inr h1)]at hy
     exact gn2 b y h2.1 hy)
   (fun b hb=>hb.2) (fun b hb hb2=>by rw[qit rfl (by rw[I.len];exact hleN) hb hb2];exact hBs b hb2)
   (fun b hb hb2=>qi2 hb hb2)
  have:Act.put ⟨tmps,df⟩ (ok j).dst x=⟨(Act.put ⟨tmps,df⟩ (ok j).dst x).tmps,df⟩:=by cases(ok j).dst<;>rfl
  rw[this]
  have jn: ∀b,Dom (xc nu nu' (S j).2.length (S (j+1)).2.length fun b=>G b∧b<(S (j+1)).2.length) b→((S j).2.length≤b∧b<(S (j+1)).2.length∧G b)∨Dom nu b:=by
   intro b hb
   simp only[Dom,xc]at hb
   split at hb
   ·rename_i h
    split at hb
    ·rename_i h2;exact .inl ⟨h.1,h.2,h2.1⟩
    ·exact absurd rfl hb
   ·exact .inr hb
  refine hk (next (rk j).fp C (S (j+1)).2 (S j).2.length (S (j+1)).2.length) F' _ w' _ ⟨by rw[qfN];exact I.len,I.mov.trans mv,fun b hb=>?_,fun b hb=>?_,fun b hb=>?_,fun m hm b hb hmd hcut=>?_,by rw[qgO];exact I.size,I.out,?_⟩
  ·rcases jn b hb with h|h
   ·exact h.2.2
   ·exact I.dom b h
  ·rcases jn b hb with h|h
   ·exact .inr ⟨j,hj,(hD' j).2 (.inr rfl),h.1,h.2.1⟩
   ·exact madeUp b (I.made b h)
  ·have:=T.le (m:=0) (m':=j) (by omega) (by omega)
   simp only[xc]
   rw[if_neg (by omega)]
   exact I.nold b hb
  ·
   have later:(b∈(rk j).fp∧(rk j).wr=true∨(S j).2.length≤b∧b<(S (j+1)).2.length)→j<m→(S (j+1)).2[b]? =(S m).2[b]? :=by
    intro hcase hjm
    have hbl:b<(S (j+1)).2.length:=by
     rcases hcase with h|h
     ·have:=sf.fp b h.1;omega
     ·exact h.2
    have:=T.heap (m:=j+1) hbl (m-(j+1)) (by omega) (fun k h1 h2 hbk=>by
     cases hwk:(rk k).wr with
     |false=>rfl
     |true=>
      have hDk:=(hD' k).1 ((hcut k (by omega) hbk hwk).1 (by omega))
      rcases hDk with hDk|hDk
      ·cases Classical.em (ord j k)with
       |inl ho=>exact absurd (hcl j k ho hDk) hnj
       |inr ho=>
        rcases hcase with h|h
        ·exact absurd hbk (K.mem j k (by omega) (by omega) ho (.inl h.2) b h.1)
        ·exact absurd ⟨by rw[sf.lo];exact h.1,by rw[sf.hi];exact h.2⟩ (K.new j k (by omega) (by omega) ho b hbk)
      ·omega)
    rw[show j+1+(m-(j+1))=m by omega]at this
    exact this.symm
   by_cases hin:b∈(rk j).fp
   ·have hbl:=sf.fp b hin
    rw[qit rfl (by rw[I.len];exact hleN) (by omega) (.inl hin)]
    cases hwj:(rk j).wr with
    |true=>exact later (.inl ⟨hin,hwj⟩) ((hcut j hj hin hwj).2 ((hD' j).2 (.inr rfl)))
    |false=>
     rw[sf.quiet b hbl (fun _=>hwj),←hfpC b hin]
     refine I.cells m hm b hb (hfpm b hin) (fun k hk1 hk2 hk3=>?_)
     rw[hcut k hk1 hk2 hk3,hD' k]
     refine⟨fun h=>h.elim id fun e=>?_,.inl⟩
     subst e
     rw[hwj]at hk3;cases hk3
   ·by_cases hnew:(S j).2.length≤b∧b<(S (j+1)).2.length
    ·rw[qit rfl (by rw[I.len];exact hleN) hnew.2 (.inr hnew.1)]
     refine later (.inr hnew) ?_
     rcases Nat.lt_or_ge j m with h|h
     ·exact h
     ·have:=T.le h (by omega);omega
    ·rw[qi2 hin (by omega)]
     refine I.cells m hm b hb ?_ (fun k hk1 hk2 hk3=>?_)
     ·rcases hmd with h|⟨k,h1,h2,h3,h4⟩
      ·exact .inl h
      ·rcases(hD' k).1 h2 with h2|rfl
       ·exact .inr ⟨k,h1,h2,h3,h4⟩
       ·exact absurd ⟨h3,h4⟩ hnew
     ·rw[hcut k hk1 hk2 hk3,hD' k]
      refine⟨fun h=>h.elim id fun e=>?_,.inl⟩
      subst e
      exact absurd hk2 hin
  ·refine I.nextT T K hcl hj hnj hD' (mv.ext iC) (fun⟨t,_,e⟩=>hR2 _ x (e▸gn1 t) hR) df
end
theorem qgF {nu:Nat→Option Nat} {A:Heap} {N rb:Nat} (h:qa9 nu (pad A N) rb):qa9 nu A rb:=by
 obtain⟨b,x,h1,h2,h3⟩:=h
 rcases Nat.lt_or_ge b A.length with hb|hb
 ·rw[qdR hb]at h2;exact⟨b,x,h1,h2,h3⟩
 ·rw[qoh hb h2]at h3;cases h3
theorem qfS.of {rs:List Rec} (h:qdH ops rs=true) (hr: ∀k,k<ops.size→rs[k]? =some (rk k)) (ho: ∀k,k<ops.size→ops[k]? =some (ok k)):
 qfS ops rk ok fun i j=>((masks ops.toList).getD j 0).testBit i=true:=by
 have key: ∀i j,i<j→j<ops.size→ ¬((masks ops.toList).getD j 0).testBit i=true→qeT ops i j=false∧qdu (rk i) (rk j)=false:=by
  intro i j hij hj hno
  simp only[qdH,qgG,qmD,Bool.and_eq_true]at h
  simp only[Bool.not_eq_true]at hno
  have h1:=List.all_eq_true.1 (List.all_eq_true.1 h.1.2 j (List.mem_range.2 hj)) i (List.mem_range.2 hij)
  rw[hno]at h1
  have hi':(rk i,i)∈rs.zipIdx:=List.mem_zipIdx_iff_getElem?.2 (hr i (by omega))
  have hj':(rk j,j)∈rs.zipIdx:=List.mem_zipIdx_iff_getElem?.2 (hr j hj)
  have h2:=List.all_eq_true.1 h.2 (rk j,j) hj'
  refine⟨by simpa using h1,?_⟩
  simp only[Bool.or_eq_true]at h2
  rcases h2 with h2|h2
  ·have e:(rk j).fp=[]:=List.isEmpty_iff.1 h2
   simp[qdu,e]
  ·have h3:=List.all_eq_true.1 h2 (rk i,i) hi'
   have hb:Nat.ble j i=false:=by
    cases hb:Nat.ble j i with
    |false=>rfl
    |true=>have:=Nat.le_of_ble_eq_true hb;omega
   simp only[hno,hb,Bool.false_or]at h3
   simpa using h3
 refine⟨fun i j hij hj hno t ht=>?_,fun i j hij hj hno t ht=>?_,fun i j hij hj hno hw b hb hb2=>?_,fun i j hij hj hno b hb hb2=>?_⟩
 ·have:=(key i j hij hj hno).1
  simp only[qeT,ho i (by omega),ho j hj,ht]at this
  simp only[Bool.or_eq_false_iff]at this
  refine⟨by simpa using this.1.1,fun e=>?_⟩
  have h2:=this.1.2
  rw[e]at h2
  simp at h2
 ·have:=(key i j hij hj hno).1
  simp only[qeT,ho i (by omega),ho j hj,ht]at this
  simp only[Bool.or_eq_false_iff]at this
  simpa using this.2
 ·have:=(key i j hij hj hno).2
  simp only[qdu,Bool.or_eq_false_iff,Bool.and_eq_false_iff]at this
  rcases this.1 with h1|h1
  ·have h2:((rk i).fp.any fun b=>(rk j).fp.contains b)=true:=List.any_eq_true.2 ⟨b,hb,by simpa using hb2⟩
   rw[h1]at h2;cases h2
  ·rcases hw with hw|hw
   ·rw[h1.1]at hw;cases hw
   ·rw[h1.2]at hw;cases hw
 ·have:=(key i j hij hj hno).2
  simp only[qdu,Bool.or_eq_false_iff]at this
  have h2:((rk j).fp.any fun b=>decide ((rk i).lo≤b)&&decide (b<(rk i).hi))=true:=List.any_eq_true.2 ⟨b,hb,by simp[hb2.1,hb2.2]⟩
  rw[this.2]at h2;cases h2
theorem qmz {p q:Nat→Bool} {i:Nat}: ∀(l:List Nat),i∈l→(∀k,q k=true→p k=true)→p i=true→q i=false→(l.filter q).length<(l.filter p).length:=by
 intro l
 induction l with
 |nil=>intro h;cases h
 |cons x l ih=>
  intro hi hpq hp hq
  have hle: ∀l:List Nat,(l.filter q).length≤(l.filter p).length:=by
   intro l
   induction l with
   |nil=>exact Nat.le_refl _
   |cons y l ihl=>
    simp only[List.filter_cons]
    cases hy:q y with
    |true=>simp[hpq y hy,ihl]
    |false=>
     cases p y<;>simp<;>omega
  rcases List.mem_cons.1 hi with rfl|h
  ·simp only[List.filter_cons,hp,hq]
   have:=hle l
   simp;omega
  ·have:=ih h hpq hp hq
   simp only[List.filter_cons]
   cases hx:q x with
   |true=>simp[hpq x hx,this]
   |false=>cases p x<;>simp<;>omega
theorem qcD {listed:Array Bool} {j k:Nat} (hj:j<listed.size):(listed.setIfInBounds j true).getD k false=true↔listed.getD k false=true∨k=j:=by
 simp only[Array.getD_eq_getD_getElem?,Array.getElem?_setIfInBounds]
 by_cases e:j=k
 ·subst e;simp[hj]
 ·have e': ¬k=j:=fun h=>e h.symm
  simp[e,e']
theorem mem_ready {ops:Array Oper} {listed:Array Bool} {i:Nat}:i∈Region.ready .any ops listed↔i<ops.size∧listed.getD i true=false∧ ∃o,ops[i]? =some o∧ ∀e∈o.after.toList,Region.binds .any e=true→listed.getD e.on false=true:=by
 simp only[Region.ready,List.mem_filter,List.mem_range,Bool.and_eq_true,Bool.not_eq_true']
 refine and_congr Iff.rfl (and_congr Iff.rfl ?_)
 cases h:ops[i]? with
 |none=>simp
 |some o=>
  simp only[Option.map_some,Option.getD_some,Option.some.injEq,exists_eq_left']
  rw[←Array.all_toList,List.all_eq_true]
  refine forall_congr' fun e=>forall_congr' fun he=>?_
  cases Region.binds .any e<;>simp
section
variable {F:Nat→Prop} {nu:Nat→Option Nat} {w:World} {A:Heap}
theorem qjq (i:Inv F nu A w) {fr:Fr} {a:Act} (h:RF F nu w fr a.tmps) {fr':Fr} {A':Heap} {S:Nat→Fr×Heap} {rk:Nat→Rec} {rs:List Rec} (hS0:S 0=(fr,A)) (hSn:S ops.size=(fr',A')) (hex: ∀k,∃o v,k<ops.size→SF P ops k (S k) (S (k+1)) (rk k) o v)
 (hok:qdH ops rs=true) (hrs: ∀k,k<ops.size→rs[k]? =some (rk k)) {rr:Option Nat} {n:Nat} {Q:Exit→Act→World→Prop}
 (hq: ∀F' nu' w' a',a'.defers=a.defers→Stp F nu A w F' nu' A' w'→RF F' nu' w' fr' a'.tmps→Q .normal a' w'):wpAnyIn (fz rr) n P .any ops Q ops.size (Array.replicate ops.size false) a w:=by
 have he:(S ops.size)=(fr',A'):=hSn
 obtain⟨ok,hok2⟩:=Classical.axiomOfChoice hex
 obtain⟨vk,hvk⟩:=Classical.axiomOfChoice hok2
 have T:Txt P ops S rk ok vk:=⟨fun k hk=>hvk k hk⟩
 have K:=qfS.of hok (fun k hk=>hrs k hk) (fun k hk=>(T.sf k hk).ho)
 have hA0:(S 0).2=A:=by rw[hS0]
 have hf0:(S 0).1=fr:=by rw[hS0]
 have hAn:(S ops.size).2=A':=by rw[hSn]
 have hfn:(S ops.size).1=fr':=by rw[hSn]
 have i0:Inv F nu (S 0).2 w:=by rw[hA0];exact i
 have h0:RF F nu w (S 0).1 a.tmps:=by rw[hf0];exact h
 obtain⟨Fg,nug,wg,tg,_,_,hd0,hG⟩:=T.ghost i0 h0 ops.size (Nat.le_refl _)
 have hle:=T.le (Nat.zero_le ops.size) (Nat.le_refl _)
 have hedge: ∀k o,ops[k]? =some o→ ∀e∈o.after.toList,Region.binds .any e=true→e.on<k:=by
  intro k o ho e he hb
  simp only[qdH,qgG,Bool.and_eq_true]at hok
  have hmem:(o,k)∈ops.toList.zipIdx:=by
   rw[List.mem_zipIdx_iff_getElem?]
   simpa using ho
  have h1:=List.all_eq_true.1 (List.all_eq_true.1 hok.1.1 (o,k) hmem) e he
  simpa[hb]using h1
 have fin: ∀(D:Nat→Prop) C F' nu' w' tmps,(∀k,k<ops.size→D k)→DI ops S rk ok (fun b=>Dom nug b) F nu w D C F' nu' w' tmps→Q .normal ⟨tmps,a.defers⟩ w':=by
  intro D C F' nu' w' tmps hD I
  have hC:C=A':=by
   rw[←hAn]
   refine List.ext_getElem? fun b=>?_
   rcases Nat.lt_or_ge b (S ops.size).2.length with hb|hb
   ·refine I.cells ops.size (Nat.le_refl _) b hb ?_ (fun k hk _ _=>⟨fun _=>hD k hk,fun _=>hk⟩)
    rcases Txt.place S ops.size hb with h1|⟨k,h1,h2,h3⟩
    ·exact .inl h1
    ·exact .inr ⟨k,h1,hD k h1,h2,h3⟩
   ·rw[List.getElem?_eq_none hb,List.getElem?_eq_none (by rw[I.len];exact hb)]
  subst hC
  refine hq F' nu' w' _ rfl ?_ ⟨?_,fun t v hv=>?_,fun t ht=>?_⟩
  ·have mv:=I.mov
   rw[hA0]at mv
   have hlen:=I.len
   rw[hA0]at hle
   refine⟨mv.f,mv.n,mv.shape,mv.inv,fun rb hlt hno=>mv.keep rb hlt fun hO=>hno (qgF hO),fun rb hlt hO=>qgF (mv.own rb hlt hO),mv.size,mv.os,mv.tape,mv.output,fun b hb=>I.nold b (by rw[hA0];exact hb),by rw[hlen];exact hle,fun rb hF=>?_⟩
   rcases mv.newF rb hF with h1|h1|h1
   ·exact .inl h1
   ·exact .inr (.inl h1)
   ·exact .inr (.inr (qgF h1))
  ·rw[I.size,←hfn,T.flen ops.size (Nat.le_refl _)]
  ·rw[←hfn]
   exact I.temps ops.size (Nat.le_refl _) t v (fun k hk _=>⟨fun _=>hD k hk,fun _=>hk⟩) hv
  ·rw[←hfn]at ht⊢
   rw[T.flen ops.size (Nat.le_refl _)]at ht
   rw[T.fout ht ops.size (Nat.le_refl _)]
   exact I.out t ht
 have go: ∀(fuel:Nat) (listed:Array Bool) C F' nu' w' tmps,listed.size=ops.size→((List.range ops.size).filter fun k=>!listed.getD k true).length≤fuel→
  (∀k o,listed.getD k false=true→ops[k]? =some o→ ∀e∈o.after.toList,Region.binds .any e=true→listed.getD e.on false=true)→
  DI ops S rk ok (fun b=>Dom nug b) F nu w (fun k=>listed.getD k false=true) C F' nu' w' tmps→wpAnyIn (fz rr) n P .any ops Q fuel listed ⟨tmps,a.defers⟩ w':=by
  have tf: ∀(listed:Array Bool) k,k<listed.size→listed.getD k true=listed.getD k false:=by
   intro listed k hk
   simp[Array.getD,hk]
  intro fuel
  induction fuel with
  |zero=>
   intro listed C F' nu' w' tmps hsz hcount _ I
   have hall: ∀k,k<ops.size→listed.getD k false=true:=by
    intro k hk
    cases hl:listed.getD k false with
    |true=>rfl
    |false=>
     have hm:k∈(List.range ops.size).filter fun k=>!listed.getD k true:=by
      simp only[List.mem_filter,List.mem_range,hk,true_and]
      rw[tf listed k (by omega),hl];rfl
     have:=List.length_pos_of_mem hm
     omega
   refine⟨?_,fin _ C F' nu' w' tmps hall I⟩
   refine List.eq_nil_iff_forall_not_mem.2 fun k hk=>?_
   obtain⟨h1,h2,_⟩:=mem_ready.1 hk
   rw[tf listed k (by omega),hall k h1]at h2
   cases h2
  |succ fuel ih=>
   intro listed C F' nu' w' tmps hsz hcount hclo I
   refine⟨fun hnil=>fin _ C F' nu' w' tmps (fun k=>?_) I,fun j hj=>?_⟩
   ·induction k using Nat.strongRecOn with
    |_ k ihk=>
     intro hk
     cases hl:listed.getD k false with
     |true=>rfl
     |false=>
      have:k∈Region.ready .any ops listed:=by
       refine mem_ready.2 ⟨hk,by rw[tf listed k (by omega),hl],ok k,(T.sf k hk).ho,fun e he hb=>?_⟩
       have:=hedge k (ok k) (T.sf k hk).ho e he hb
       exact ihk e.on this (by omega)
      rw[hnil]at this
      cases this
   ·obtain⟨hj1,hj2,o,hj3,hj4⟩:=mem_ready.1 hj
    have hjs:j<listed.size:=by omega
    have hnj: ¬listed.getD j false=true:=by rw[←tf listed j hjs,hj2];simp
    have hclo': ∀k o,(listed.setIfInBounds j true).getD k false=true→ops[k]? =some o→ ∀e∈o.after.toList,Region.binds .any e=true→(listed.setIfInBounds j true).getD e.on false=true:=by
     intro k o' hk ho' e he hb
     rw[qcD hjs]at hk⊢
     rcases hk with hk|rfl
     ·exact .inl (hclo k o' hk ho' e he hb)
     ·rw[hj3]at ho';injection ho' with ho';subst ho'
      exact .inl (hj4 e he hb)
    have hcl: ∀i k,((masks ops.toList).getD k 0).testBit i=true→listed.getD k false=true→listed.getD i false=true:=by
     intro i k hb hk
     exact qeU (fun k=>listed.getD k false=true) ops.toList [] 0 rfl (fun k _ hD o' _ ho' e he hbb=>hclo k o' hD (by simpa using ho') e he hbb) (fun k i hk=>by omega) k i hb hk
    have hord: ∀i,i<j→((masks ops.toList).getD j 0).testBit i=true→listed.getD i false=true:=by
     intro i hij hb
     have:=qeU (fun k=>(listed.setIfInBounds j true).getD k false=true) ops.toList [] 0 rfl (fun k _ hD o' _ ho' e he hbb=>hclo' k o' hD (by simpa using ho') e he hbb) (fun k i hk=>by omega) j i hb ((qcD hjs).2 (.inr rfl))
     rcases(qcD hjs).1 this with h1|h1
     ·exact h1
     ·omega
    refine I.step T K hcl hj1 hnj hord hG (D':=fun k=>(listed.setIfInBounds j true).getD k false=true) (fun k=>qcD hjs) (fun C2 F2 nu2 w2 tmps2 I2=>?_)
    refine ih _ C2 F2 nu2 w2 tmps2 (by simpa using hsz) ?_ hclo' I2
    have:=qmz (p:=fun k=>!listed.getD k true) (q:=fun k=>!(listed.setIfInBounds j true).getD k true) (i:=j) (List.range ops.size) (List.mem_range.2 hj1) (fun k hk=>?_) (by simp only[hj2,Bool.not_false]) ?_
    ·omega
    ·simp only[Array.getD_eq_getD_getElem?,Array.getElem?_setIfInBounds]at hk⊢
     by_cases e:j=k
     ·subst e;simp[hjs]at hk
     ·simpa[e]using hk
    ·simp[Array.getD_eq_getD_getElem?,hjs]
 have:=go ops.size (Array.replicate ops.size false) (pad (S 0).2 (S ops.size).2.length) F nu w a.tmps (by simp) (by
  refine Nat.le_trans (List.length_filter_le _ _) ?_
  simp) (fun k o hk=>by
  simp[Array.getD_eq_getD_getElem?,Array.getElem?_replicate]at hk
  split at hk<;>simp at hk) ?_
 ·exact this
 ·refine⟨qbF hle,.refl (i0.pad hle),hd0,fun b hb=> .inl (i0.domLt hb),fun _ _=>rfl,fun m hm b hb hmd hcut=>?_,h0.size,h0.out,fun m hm t v hcut hv=>?_⟩
  ·have hno: ∀k,¬((Array.replicate ops.size false).getD k false=true):=by
    intro k
    simp only[Array.getD_eq_getD_getElem?,Array.getElem?_replicate]
    split<;>simp
   rcases hmd with h1|⟨k,_,h2,_⟩
   ·rw[qdR h1]
    have:=T.heap (m:=0) h1 m (by omega) (fun k _ hk hbk=>by
     cases hwk:(rk k).wr with
     |false=>rfl
     |true=>exact absurd ((hcut k (by omega) hbk hwk).1 (by omega)) (hno k))
    rw[Nat.zero_add]at this
    exact this.symm
   ·exact absurd h2 (hno k)
  ·have hno: ∀k,¬((Array.replicate ops.size false).getD k false=true):=by
    intro k
    simp only[Array.getD_eq_getD_getElem?,Array.getElem?_replicate]
    split<;>simp
   have:=T.frame (m:=0) (t:=t) m (by omega) (fun k _ hk hd=>hno k ((hcut k (by omega) hd).1 (by omega)))
   rw[Nat.zero_add]at this
   rw[this]
   exact h0.at_ t v hv
theorem qmY (hc:zg P call) (i:Inv F nu A w) {fr:Fr} {a:Act} (h:RF F nu w fr a.tmps) {fr':Fr} {A':Heap} (he:qbG P call ops fr A=some (fr',A')) {rr:Option Nat} {n:Nat} {Q:Exit→Act→World→Prop}
 (hq: ∀F' nu' w' a',a'.defers=a.defers→Stp F nu A w F' nu' A' w'→RF F' nu' w' fr' a'.tmps→Q .normal a' w'):wpAnyIn (fz rr) n P .any ops Q ops.size (Array.replicate ops.size false) a w:=by
 unfold qbG at he
 split at he
 ·rename_i s rs hrun
  split at he
  ·rename_i hok
   injection he with he
   obtain⟨S,rk,hS0,hSn,hstep,hrs⟩:=qlk _ _ _ _ _ hrun
   refine qjq i h hS0 (hSn.trans he) (fun k=>?_) hok hrs hq
   by_cases hk:k<ops.size
   ·have:=hstep k hk
    rw[Nat.zero_add]at this
    obtain⟨o,v,sf⟩:=SF.of hc this
    exact⟨o,v,fun _=>sf⟩
   ·exact⟨default,default,fun h=>absurd h hk⟩
  ·cases he
 ·cases he
end
end
end Go.Av
