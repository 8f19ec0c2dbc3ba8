/-
  Frames told by lists; blocks renamed, frozen, forgotten; values without references.
-/
import Derived.Test.YthgioiakbbhonaaGreatDoorAvOrc
noncomputable section
namespace Go.Av
set_option linter.unusedSectionVars false
variable [Glob]
open Go.RowKit
def qhs (g:Nat->AV) (l:List (Nat×AV)):Nat->AV:=l.foldl (λg p=>qgG g p.1 p.2) g
def ofG (n:Nat) (l:List (Nat×AV)):Fr:= .fn n (qhs (λ_=> .undef) l)
theorem ql9 {g:Nat->AV} {l:List (Nat×AV)} {t:Nat} (h: ∀p∈l,p.1≠t):qhs g l t=g t:=by
 induction l generalizing g with
 |nil=>rfl
 |cons p l ih=>
  have:=ih (g:=qgG g p.1 p.2) λq hq=>h q (by simp[hq])
  unfold qhs at this⊢;rw[bp,this,qgm,aa λe=>h p (by simp) e.symm]
theorem qju {g:Nat->AV} {l:List (Nat×AV)} {t:Nat}:qhs g l t=g t\/ ∃a,(t,a)∈l/\qhs g l t=a:=by
 induction l generalizing g with
 |nil=>exact .inl rfl
 |cons p l ih=>
  rcases ih (g:=qgG g p.1 p.2)with h|⟨a,ha,h⟩
  ·unfold qhs at h⊢;rw[bp,h,qgm];by_cases e:t=p.1
   ·subst e;rw[ae rfl];exact .inr ⟨p.2,by simp,rfl⟩
   rw[aa e];exact .inl rfl
  unfold qhs at h⊢;rw[bp];exact .inr ⟨a,by simp[ha],h⟩
def asc:List (Nat×AV)->Bool
 |[]=>true
 |[_]=>true
 |p::q::l=>Nat.blt p.1 q.1&&asc (q::l)
theorem qsb: ∀{l:List (Nat×AV)} {p:Nat×AV},asc (p::l)=true-> ∀q∈l,p.1<q.1:=by
 intro l
 induction l with
 |nil=>intro p _ q hq;cases hq
 |cons r l ih=>
  intro p h q hq;simp only[asc,aI]at h;have h1:p.1<r.1:=Ys h.1;rcases bK.1 hq with rfl|hq
  ·exact h1
  exact Nat.lt_trans h1 (ih h.2 q hq)
theorem qoD {l:List (Nat×AV)} {p:Nat×AV} (h:asc (p::l)=true):asc l=true:=by
 cases l with
 |nil=>rfl
 |cons q l=>simp only[asc,aI]at h;exact h.2
theorem qlx {g:Nat->AV} {l:List (Nat×AV)} (h:asc l=true) {t:Nat} {a:AV} (hm:(t,a)∈l):qhs g l t=a:=by
 induction l generalizing g with
 |nil=>cases hm
 |cons p l ih=>
  unfold qhs;rw[bp];rcases bK.1 hm with e|hm
  ·subst e
   have:=ql9 (g:=qgG g t a) (l:=l) (t:=t) λq hq e=>by
    have:=qsb h q hq;simp only at this;omega
   unfold qhs at this;rw[this,qgm,ae rfl]
  exact ih (g:=qgG g p.1 p.2) (qoD h) hm
def qO (a:AV):Prop:= ∀(F:Nat->Prop) (nu nu':Nat->Option Nat) (w:World) (v:Value),R F nu w a v->R F nu' w a v
theorem qO.int (k:IntKind) (n:Int):qO (.int k n):=by intro F nu nu' w v h;cases h;exact .int _ _
theorem qO.bool (b:Bool):qO (.bool b):=by intro F nu nu' w v h;cases h;exact .bool _
theorem qO.str (s:List UInt8):qO (.str s):=by intro F nu nu' w v h;cases h with|str _ _ h=>exact .str _ _ h
theorem qO.nilslice:qO .nilslice:=by intro F nu nu' w v h;cases h;exact .nilslice
theorem qO.nilptr:qO .nilptr:=by intro F nu nu' w v h;cases h;exact .nilptr
theorem qO.nilmap:qO .nilmap:=by intro F nu nu' w v h;cases h;exact .nilmap
theorem qO.nilfunc:qO .nilfunc:=by intro F nu nu' w v h;cases h;exact .nilfunc
theorem qO.niliface:qO .niliface:=by intro F nu nu' w v h;cases h;exact .niliface
theorem qO.fslice {n:Nat} {cs:List AV} (h: ∀c∈cs,qO c):qO (.fslice n cs):=by
 intro F nu nu' w v hv
 cases hv with
 |fslice0 A cap=>exact .fslice0 A cap
 |fslice _ _ ad cap vs hn hF hl hc hR=>exact .fslice _ _ ad cap vs hn hF hl hc λi a v ha hv=>h a (Yn ha) F nu nu' w v (hR i a v ha hv)
theorem qO.fptr {off:Nat} {cs:List AV} (h: ∀c∈cs,qO c):qO (.fptr cs off):=by
 intro F nu nu' w v hv
 cases hv with
 |fptr _ _ ad vs hF hl hc hR=>exact .fptr _ _ ad vs hF hl hc λi a v ha hv=>h a (Yn ha) F nu nu' w v (hR i a v ha hv)
theorem qO.agg {cs:List AV} (h: ∀c∈cs,qO c):qO (.agg cs):=by
 intro F nu nu' w v hv
 cases hv with
 |agg _ vs hl hR=>exact .agg _ vs hl λi a v ha hv=>h a (Yn ha) F nu nu' w v (hR i a v ha hv)
theorem qO.tuple {cs:List AV} (h: ∀c∈cs,qO c):qO (.tuple cs):=by
 intro F nu nu' w v hv
 cases hv with
 |tuple _ vs hl hR=>exact .tuple _ vs hl λi a v ha hv=>h a (Yn ha) F nu nu' w v (hR i a v ha hv)
theorem qO.func {fn:Fn} {fs cs:List AV} (h1: ∀c∈fs,qO c) (h2: ∀c∈cs,qO c):qO (.func fn fs cs):=by
 intro F nu nu' w v hv
 cases hv with
 |func _ _ _ vf vc g1 g2 hf hc=>exact .func _ _ _ vf vc g1 g2 (λi a v ha hv=>h1 a (Yn ha) F nu nu' w v (hf i a v ha hv)) (λi a v ha hv=>h2 a (Yn ha) F nu nu' w v (hc i a v ha hv))
theorem qO.fmap {ks xs:List AV} (h1: ∀c∈ks,qO c) (h2: ∀c∈xs,qO c):qO (.fmap ks xs):=by
 intro F nu nu' w v hv
 cases hv with
 |fmap _ _ rb es clock hF hh hk hv hRk hRv=>exact .fmap _ _ rb es clock hF hh hk hv (λi a e ha he=>h1 a (Yn ha) F nu nu' w _ (hRk i a e ha he)) (λi a e ha he=>h2 a (Yn ha) F nu nu' w _ (hRv i a e ha he))
def qcL (cs:List AV):Prop:= ∀c∈cs,qO c
theorem qcL.nil:qcL []:=by intro c h;cases h
theorem qcL.cons {c:AV} {cs:List AV} (h:qO c) (hs:qcL cs):qcL (c::cs):=by
 intro d hd;rcases bK.1 hd with rfl|hd
 ·exact h
 exact hs d hd
theorem qcL.append {cs ds:List AV} (h:qcL cs) (hs:qcL ds):qcL (cs++ds):=by
 intro d hd;rcases cz.1 hd with hd|hd
 ·exact h d hd
 exact hs d hd
def qkD:Ent->Prop
 | .av a=>qO a
 | .own _ cs=>qcL cs
theorem qkD.re {x:Ent} (h:qkD x) {F:Nat->Prop} {nu:Nat->Option Nat} (nu':Nat->Option Nat) {w:World} {v:Value} (hR:RE F nu w x v):RE F nu' w x v:=by
 cases x with
 |av a=>exact h F nu nu' w v hR
 |own k cs=>
  obtain h|⟨g,n,cap,vs,e,rfl,h0,h1,h2,h3,h4,h5,h6,h7⟩:=hR
  ·exact .inl h
  exact .inr ⟨g,n,cap,vs,e,rfl,h0,h1,h2,h3,h4,h5,h6,λi a v ha hv=>h a (Yn ha) F nu nu' w v (h7 i a v ha hv)⟩
section
variable (A:Heap) (S:List Nat) (m:List (Option Nat))
inductive jm:AV->AV->Prop
 |same {a:AV} (h:qO a):jm a a
 |undef {a:AV}:jm .undef a
 |ptr {i b off:Nat} (h:m[i]? =some (some b)):jm (.ptr i off) (.ptr b off)
 |slice {i b off n cap k:Nat} (h:m[i]? =some (some b)):jm (.slice i off n cap k) (.slice b off n cap k)
 |oslice {i b n k:Nat} (h:m[i]? =some (some b)):jm (.oslice i n k) (.oslice b n k)
 |gslice {i b n k:Nat} (h:m[i]? =some (some b)):jm (.gslice i n k) (.gslice b n k)
 |gsliceE {i b n n' k:Nat} (h:m[i]? =some (some b)) (e:n=n'):jm (.gslice i n' k) (.gslice b n k)
 |osliceE {i b n n' k:Nat} (h:m[i]? =some (some b)) (e:n=n'):jm (.oslice i n' k) (.oslice b n k)
 |sliceE {i b n n' k:Nat} (h:m[i]? =some (some b)) (e:n=n'):jm (.slice i 0 n' n' k) (.slice b 0 n n k)
 |wslice {i b off n k:Nat} (h:m[i]? =some (some b)):jm (.wslice i off n k) (.wslice b off n k)
 |map {i b:Nat} (h:m[i]? =some (some b)):jm (.map i) (.map b)
 |yld {i b:Nat} (h:m[i]? =some (some b)):jm (.yld i) (.yld b)
 |grow {i b n k:Nat} (h:m[i]? =some (some b)) (hp:0<n):jm (.gslice i n k) (.oslice b n k)
 |own {i b n n' k:Nat} {cs:List AV} (h:m[i]? =some (some b)) (hA:A[b]? =some (.cells cs)) (hc:Nat.ble (n*k) cs.length=true) (hx:Nat.ble n 9223372036854775807=true) (hn:n'=n) (hs:S.isEmpty=false):jm (.oslice i n' k) (.slice b 0 n n k)
 |ownL {i b n n' cap k:Nat} {cs:List AV} (h:m[i]? =some (some b)) (hA:A[b]? =some (.cells cs)) (hc:cap*k<=cs.length) (hx:cap<=9223372036854775807) (hn:n'=n) (hs:S.isEmpty=false):jm (.oslice i n' k) (.slice b 0 n cap k)
 |nil {i k:Nat}:jm (.gslice i 0 k) .nilslice
 |nilv:jm (.fslice 0 []) .nilslice
 |frz {a a':AV} (h:frz A S 12 a=some a') (hr:qO a'):jm a' a
 |agg {cs' cs:List AV} (hl:cs'.length=cs.length) (h: ∀(j:Nat) (c' c:AV),cs'[j]? =some c'->cs[j]? =some c->jm c' c):jm (.agg cs') (.agg cs)
 |tuple {cs' cs:List AV} (hl:cs'.length=cs.length) (h: ∀(j:Nat) (c' c:AV),cs'[j]? =some c'->cs[j]? =some c->jm c' c):jm (.tuple cs') (.tuple cs)
 |func {fn:Fn} {fs cs' cs:List AV} (hf:qcL fs) (hl:cs'.length=cs.length) (h: ∀(j:Nat) (c' c:AV),cs'[j]? =some c'->cs[j]? =some c->jm c' c):jm (.func fn fs cs') (.func fn fs cs)
def qga (cs' cs:List AV):Prop:=cs'.length=cs.length/\ ∀(j:Nat) (c' c:AV),cs'[j]? =some c'->cs[j]? =some c->jm A S m c' c
theorem qoL {cs' cs:List AV} (he:cs.take cs'.length=cs') {q:Nat} {c:AV} (h:cs'[q]? =some c):cs[q]? =some c:=by
 have hq:=(Yb.1 h).1;rw[<-he,Yt,ae hq]at h;exact h
inductive qma:Ent->Ent->Prop
 |av {a' a:AV} (h:jm A S m a' a):qma (.av a') (.av a)
 |own {k:Nat} {cs:List AV} (h:qcL cs):qma (.own k cs) (.own k cs)
inductive qcs:List (Nat×AV)->List (Nat×AV)->Prop
 |nil {l:List (Nat×AV)}:qcs l []
 |keep {t:Nat} {a a':AV} {l l':List (Nat×AV)} (h:jm A S m a' a) (hl:qcs l l'):qcs ((t,a)::l) ((t,a')::l')
 |drop {p:Nat×AV} {l l':List (Nat×AV)} (hl:qcs l l'):qcs (p::l) l'
inductive vS:Blk->Blk->Prop
 |bag {es' es:List Ent} (hl:es'.length=es.length) (h: ∀(j:Nat) (x' x:Ent),es'[j]? =some x'->es[j]? =some x->qma A S m x' x):vS (.bag es') (.bag es)
 |cells {cs' cs:List AV} (h:qga A S m cs' cs):vS (.cells cs') (.cells cs)
 |same {cs:List AV} (h:qcL cs):vS (.cells cs) (.cells cs)
 |pre {cs' cs:List AV} (h:qcL cs') (hl:cs'.length<=cs.length) (he:cs.take cs'.length=cs'):vS (.cells cs') (.cells cs)
 |map {ks vs:List AV} (h1:qcL ks) (h2:qcL vs):vS (.map ks vs) (.map ks vs)
 |iter {s:List UInt8} {pos:Nat}:vS (.iter s pos) (.iter s pos)
 |bld {T e:TypeId} {cs' cs:List AV} (h:qga A S m cs' cs):vS (.bld T e cs') (.bld T e cs)
 |loop {st:LoopState} {p:Option Code} {k:Nat} {l l':List (Nat×AV)} {ps:Array Tmp} {a b:Code} (hs:asc l=true) (h:qcs A S m l l'):vS (.loop st p (ofG k l') ps a b) (.loop st p (ofG k l) ps a b)
inductive qdq:List (Option Nat)->Heap->Prop
 |nil:qdq [] []
 |fresh {x:Blk} {l:List (Option Nat)} {H:Heap} (h:qdq l H):qdq (none::l) (x::H)
 |keep {b:Nat} {x y:Blk} {l:List (Option Nat)} {H:Heap} (hA:A[b]? =some y) (hb:vS A S m x y) (hS:S.contains b=false) (hl:l.contains (some b)=false) (h:qdq l H):qdq (some b::l) (x::H)
 |lost {b:Nat} {l:List (Option Nat)} {H:Heap} (h:qdq l H):qdq (some b::l) (.dead::H)
end
section
variable {A:Heap} {S:List Nat} {m:List (Option Nat)}
theorem qga.nil:qga A S m [] []:=⟨rfl,by simp⟩
theorem qga.cons {c' c:AV} {cs' cs:List AV} (h:jm A S m c' c) (hs:qga A S m cs' cs):qga A S m (c'::cs') (c::cs):=by
 refine⟨by simp[hs.1],λj d' d h' hd=>?_⟩
 cases j with
 |zero=>simp at h' hd;subst h' hd;exact h
 |succ j=>exact hs.2 j d' d (by simpa using h') (by simpa using hd)
def nuM (m:List (Option Nat)) (nu:Nat->Option Nat) (i:Nat):Option Nat:=match m[i]? with
 |some (some b)=>nu b
 |_=>none
theorem yj {nu:Nat->Option Nat} {i b:Nat} (h:m[i]? =some (some b)):nuM m nu i=nu b:=by simp[nuM,h]
theorem qbt {nu:Nat->Option Nat} {i rb:Nat} (h:nuM m nu i=some rb): ∃b,m[i]? =some (some b)/\nu b=some rb:=by
 unfold nuM at h;split at h
 ·rename_i b hb;exact⟨b,hb,h⟩
 cases h
theorem R.growF {F F':Nat->Prop} {nu:Nat->Option Nat} {w:World} {a:AV} {v:Value} (hF: ∀b,F b->F' b) (h:R F nu w a v):R F' nu w a v:=
 h.mono ⟨hF,λ_ _ h=>h,λ_ _=>rfl,λ_ _ h=>h⟩
theorem jm.R {F:Nat->Prop} {nu:Nat->Option Nat} {w:World} (i:Inv F nu A w) {a' a:AV} (h:jm A S m a' a): ∀{v:Value},R F nu w a v->R (FS F nu A S) (nuM m nu) w a' v:=by
 have g: ∀b,F b->FS F nu A S b:=λb h=> .inl h
 induction h with
 |same h=>intro v hv;exact(h F nu (nuM m nu) w v hv).growF g
 |undef=>intro v _;exact .undef v
 |ptr h=>intro v hv;cases hv with|ptr _ _ rb hb=>exact .ptr _ _ rb (by rw[yj h];exact hb)
 |slice h=>intro v hv;cases hv with|slice _ _ _ _ _ rb hb hc=>exact .slice _ _ _ _ _ rb (by rw[yj h];exact hb) hc
 |oslice h=>intro v hv;cases hv with|oslice _ _ _ rb cap e m' hb hc hs hm hx=>exact .oslice _ _ _ rb cap e m' (by rw[yj h];exact hb) hc hs hm hx
 |gslice h=>
  intro v hv
  cases hv with
  |gslice0=>exact .gslice0 _ _ _
  |gslice _ _ _ rb cap e m' hp hb hc hs hm hx=>exact .gslice _ _ _ rb cap e m' hp (by rw[yj h];exact hb) hc hs hm hx
 |gsliceE h e=>
  intro v hv;subst e
  cases hv with
  |gslice0=>exact .gslice0 _ _ _
  |gslice _ _ _ rb cap e m' hp hb hc hs hm hx=>exact .gslice _ _ _ rb cap e m' hp (by rw[yj h];exact hb) hc hs hm hx
 |osliceE h e=>intro v hv;subst e;cases hv with|oslice _ _ _ rb cap e m' hb hc hs hm hx=>exact .oslice _ _ _ rb cap e m' (by rw[yj h];exact hb) hc hs hm hx
 |sliceE h e=>intro v hv;subst e;cases hv with|slice _ _ _ _ _ rb hb hc=>exact .slice _ _ _ _ _ rb (by rw[yj h];exact hb) hc
 |wslice h=>intro v hv;cases hv with|wslice _ _ _ _ rb cap hb hc=>exact .wslice _ _ _ _ rb cap (by rw[yj h];exact hb) hc
 |map h=>intro v hv;cases hv with|map _ rb hb=>exact .map _ rb (by rw[yj h];exact hb)
 |yld h=>intro v hv;cases hv with|yld _ rb hb=>exact .yld _ rb (by rw[yj h];exact hb)
 |grow h hp=>intro v hv;cases hv with|oslice _ _ _ rb cap e m' hb hc hs hm hx=>exact .gslice _ _ _ rb cap e m' hp (by rw[yj h];exact hb) hc hs hm hx
 |own h hA hc hx hn _=>
  intro v hv;subst hn
  cases hv with
  |slice _ _ _ _ _ rb hb _=>
   obtain⟨_,vs,e,h1,h2,_⟩:=i.blk _ rb _ hb hA;have hc:=Ys hc;exact .oslice _ _ _ rb _ e vs.size (by rw[yj h];exact hb) (ag _) (by unfold World.shape?;rw[h1]) (by omega) (Ys hx)
 |ownL h hA hc hx hn _=>
  intro v hv;subst hn
  cases hv with
  |slice _ _ _ _ _ rb hb hnc=>
   obtain⟨_,vs,e,h1,h2,_⟩:=i.blk _ rb _ hb hA;exact .oslice _ _ _ rb _ e vs.size (by rw[yj h];exact hb) hnc (by unfold World.shape?;rw[h1]) (by omega) hx
 |nil=>intro v hv;cases hv;exact .gslice0 _ _ _
 |nilv=>intro v hv;cases hv;exact .fslice0 _ _
 |frz h hr=>intro v hv;exact hr _ _ _ _ _ (qhg i 12 h hv)
 |agg hl h ih=>
  intro v hv
  cases hv with
  |agg _ vs hl2 hR=>
   refine .agg _ vs (by omega) λj c' y hc' hy=>?_
   have hlt:=(Yb.1 hc').1;rw[hl]at hlt;exact ih j c' _ hc' (Ya hlt) (hR j _ y (Ya hlt) hy)
 |tuple hl h ih=>
  intro v hv
  cases hv with
  |tuple _ vs hl2 hR=>
   refine .tuple _ vs (by omega) λj c' y hc' hy=>?_
   have hlt:=(Yb.1 hc').1;rw[hl]at hlt;exact ih j c' _ hc' (Ya hlt) (hR j _ y (Ya hlt) hy)
 |func hf hl h ih=>
  intro v hv
  cases hv with
  |func _ _ _ vf vc g1 g2 hf2 hc2=>
   refine .func _ _ _ vf vc g1 (by omega) (λj a y ha hy=>(hf a (Yn ha) F nu (nuM m nu) w y (hf2 j a y ha hy)).growF g) λj c' y hc' hy=>?_
   have hlt:=(Yb.1 hc').1;rw[hl]at hlt;exact ih j c' _ hc' (Ya hlt) (hc2 j _ y (Ya hlt) hy)
theorem qdq.len {l:List (Option Nat)} {H:Heap} (h:qdq A S m l H):l.length=H.length:=by
 induction h with
 |nil=>rfl
 |fresh _ ih=>simp[ih]
 |keep _ _ _ _ _ ih=>simp[ih]
 |lost _ ih=>simp[ih]
theorem qdq.at_ {l:List (Option Nat)} {H:Heap} (h:qdq A S m l H): ∀{i b:Nat} {x:Blk},l[i]? =some (some b)->H[i]? =some x->x= .dead\/b∉S/\ ∃y,A[b]? =some y/\vS A S m x y:=by
 induction h with
 |nil=>intro i b x h;simp at h
 |fresh h ih=>
  intro i b x hb hx
  cases i with
  |zero=>simp at hb
  |succ i=>exact ih (by simpa using hb) (by simpa using hx)
 |keep hA hB hS hl h ih=>
  intro i b x hb hx
  cases i with
  |zero=>
   simp at hb hx;subst hb hx;exact .inr ⟨λhm=>by simp[hm]at hS,_,hA,hB⟩
  |succ i=>exact ih (by simpa using hb) (by simpa using hx)
 |lost h ih=>
  intro i b x hb hx
  cases i with
  |zero=>simp at hx;exact .inl hx.symm
  |succ i=>exact ih (by simpa using hb) (by simpa using hx)
theorem qdq.inj {l:List (Option Nat)} {H:Heap} (h:qdq A S m l H): ∀{i j b:Nat} {x x':Blk},l[i]? =some (some b)->l[j]? =some (some b)->H[i]? =some x->H[j]? =some x'->x≠ .dead->x'≠ .dead->i=j:=by
 induction h with
 |nil=>intro i j b x x' h;simp at h
 |fresh h ih=>
  intro i j b x x' hi hj hx hx' hn hn'
  cases i with
  |zero=>simp at hi
  |succ i=>
   cases j with
   |zero=>simp at hj
   |succ j=>exact ap (· +1) (ih (by simpa using hi) (by simpa using hj) (by simpa using hx) (by simpa using hx') hn hn')
 |keep hA hB hS hl h ih=>
  intro i j b x x' hi hj hx hx' hn hn'
  cases i with
  |zero=>
   cases j with
   |zero=>rfl
   |succ j=>
    simp at hi hj;subst hi;have:=Yn hj;simp[this]at hl
  |succ i=>
   cases j with
   |zero=>
    simp at hi hj;subst hj;have:=Yn hi;simp[this]at hl
   |succ j=>exact ap (· +1) (ih (by simpa using hi) (by simpa using hj) (by simpa using hx) (by simpa using hx') hn hn')
 |lost h ih=>
  intro i j b x x' hi hj hx hx' hn hn'
  cases i with
  |zero=>simp at hx;exact absurd hx.symm hn
  |succ i=>
   cases j with
   |zero=>simp at hx';exact absurd hx'.symm hn'
   |succ j=>exact ap (· +1) (ih (by simpa using hi) (by simpa using hj) (by simpa using hx) (by simpa using hx') hn hn')
theorem qcd {es' es:List Ent} (hl:es'.length=es.length) (h: ∀(j:Nat) (x' x:Ent),es'[j]? =some x'->es[j]? =some x->qma A S m x' x) {vs:Array Value} {i r:Nat} (o:OwnAt es' vs i r):OwnAt es vs i r:=by
 obtain⟨k,cs,n,cap,h1,h2,h3⟩:=o;have hlt:=(Yb.1 h1).1;have e:=h i _ _ h1 (Ya (show i<es.length by omega));generalize he:es[i]'(by omega)=x at e
 cases e with
 |own _=>exact⟨k,cs,n,cap,by rw[Ya (show i<es.length by omega),he],h2,h3⟩
theorem vS.owned {x y:Blk} (h:vS A S m x y):y.owned=true:=by cases h<;>rfl
theorem vS.ft {x y:Blk} (h:vS A S m x y) {w:World} {rb r:Nat} (hf:Ft w rb x r):Ft w rb y r:=by
 cases h with
 |bag hl he=>
  rcases hf with hf|⟨vs,e,i,h1,h2⟩
  ·exact .inl hf
  exact .inr ⟨vs,e,i,h1,qcd hl he h2⟩
 |_=>exact .inl (Ft.one (by intro es e;cases e) hf)
theorem qcs.mem {l l':List (Nat×AV)} (h:qcs A S m l l'): ∀{t:Nat} {a':AV},(t,a')∈l'-> ∃a,(t,a)∈l/\jm A S m a' a:=by
 induction h with
 |nil=>intro t a' h;cases h
 |keep hv hl ih=>
  intro t a' h;rcases bK.1 h with e|h
  ·simp only[ZP]at e;obtain⟨rfl,rfl⟩:=e;exact⟨_,by simp,hv⟩
  obtain⟨a,ha,hr⟩:=ih h;exact⟨a,by simp[ha],hr⟩
 |drop hl ih=>
  intro t a' h;obtain⟨a,ha,hr⟩:=ih h;exact⟨a,by simp[ha],hr⟩
theorem qcs.RF {F:Nat->Prop} {nu:Nat->Option Nat} {w:World} (i:Inv F nu A w) {n:Nat} {l l':List (Nat×AV)} (hl:asc l=true) (hf:qcs A S m l l') {tmps:Array Value} (hfr:RF F nu w (ofG n l) tmps):RF (FS F nu A S) (nuM m nu) w (ofG n l') tmps:=by
 refine⟨hfr.size,λt v hv=>?_,λt ht=>?_⟩
 ·have h0:=hfr.at_ t v hv
  have hlt:t<n:=by
   have:=(YB.1 hv).1;have h1:=hfr.size;simp only[ofG,Fr.n]at h1;omega
  simp only[ofG,Up,ae hlt]at h0⊢;rcases qju (g:=λ_=>AV.undef) (l:=l') (t:=t)with e|⟨a',ha',e⟩
  ·rw[e];exact .undef v
  rw[e];obtain⟨a0,ha0,hr⟩:=hf.mem ha';rw[qlx hl ha0]at h0;exact hr.R i h0
 simp only[ofG,Fr.n]at ht;simp only[ofG,Up,aa (show¬t<n by omega)]
def kept (m:List (Option Nat)) (n:Nat):Bool:=(List.range n).all λb=>decide (m[b]? =some (some b))
def Sub [Base] (s s':St):Prop:= ∀(F0:Nat->Prop) (w0:World) (F:Nat->Prop) (nu:Nat->Option Nat) (a:Act) (w:World),Stp F0 Base.nu Base.A w0 F nu s.2 w->RF F nu w s.1 a.tmps->Dfr w0.heap.size F nu s.2 w a.defers->
 ∃F' nu',Stp F0 Base.nu Base.A w0 F' nu' s'.2 w/\RF F' nu' w s'.1 a.tmps/\Dfr w0.heap.size F' nu' s'.2 w a.defers
theorem Sub.refl [Base] (s:St):Sub s s:=λ_ _ F nu _ _ st hf hd=>⟨F,nu,st,hf,hd⟩
theorem Sub.trans [Base] {s s' s'':St} (h:Sub s s') (k:Sub s' s''):Sub s s'':=λF0 w0 F nu a w st hf hd=>by
 obtain⟨F',nu',st',hf',hd'⟩:=h F0 w0 F nu a w st hf hd;exact k F0 w0 F' nu' a w st' hf' hd'
theorem Goes.sub [Base] {P:Program} {c:Code} {s s':St} {Q:XA->St->Prop} (h:Sub s s') (hg:Goes P c s' Q):Goes P c s Q:=λF0 w0 n F nu a w st hf hd K hK=>by
 obtain⟨F',nu',st',hf',hd'⟩:=h F0 w0 F nu a w st hf hd;exact hg F0 w0 n F' nu' a w st' hf' hd' K hK
theorem Uc [Base] {n:Nat} {l l':List (Nat×AV)} {A':Heap} (S:List Nat) (m:List (Option Nat)) (hkp:kept m Base.A.length=true) (hl:asc l=true) (hf:qcs A S m l l') (hA:qdq A S m m A'):Sub (ofG n l,A) (ofG n l',A'):=by
 intro F0 w0 F nu a w st hfr hd;have i:=st.inv
 have hkp2: ∀b,b<Base.A.length->m[b]? =some (some b):=λb hb=>by
  have:=Yp.1 hkp b (cn.2 hb);exact aK this
 have hlen:Base.A.length<=A'.length:=by
  rw[<-hA.len];rcases ak m.length Base.A.length with h|h
  ·have:=hkp2 m.length h;simp at this
  exact h
 have hown: ∀r,qaO (nuM m nu) A' w r->qaO nu A w r:=by
  rintro r ⟨j,x,rb,hj,hx,ho,hf⟩;obtain⟨b,hb,hn⟩:=qbt hj;rcases hA.at_ hb hx with rfl|⟨_,y,hy,hB⟩
  ·cases ho
  exact⟨b,y,rb,hn,hy,hB.owned,hB.ft hf⟩
 have hFS: ∀rb,FS F nu A S rb->F rb\/qaO nu A w rb:=by
  rintro rb (h|⟨b,x,_,h1,h2,h3⟩)
  ·exact .inl h
  exact .inr (.of h1 h2 h3)
 have hinv:Inv (FS F nu A S) (nuM m nu) A' w:=by
  refine⟨λj rb x hj hx=>?_,λj j' rb rb' x x' r hj hj' hx hx' ho ho' hr hr'=>?_,λj hj=>?_,λrb h=>?_,λj rb hj=>?_,Glob.mono i.glob (λ_ h=> .inl h) λ_ _=>rfl⟩
  ·obtain⟨b,hb,hn⟩:=qbt hj;rcases hA.at_ hb hx with rfl|⟨hnS,y,hy,hB⟩
   ·trivial
   have h0:=i.blk b rb y hn hy;have hnF:F rb\/ ¬F rb:=Classical.em _
   have notF2: ∀r,Ft w rb y r-> ¬F r-> ¬FS F nu A S r:=by
    rintro r hr hn0 (h|⟨b',x',h1,h2,h3,h4⟩)
    ·exact hn0 h
    exact hnS (i.injF b b' rb r y x' r hn h2 hy h3 hB.owned h4 hr (.inl rfl)▸h1)
   have notF:=notF2 rb (.inl rfl)
   cases hB with
   |bag hl he=>
    obtain⟨hF,vs,e,h1,h2,h3,h4,h5⟩:=h0;refine⟨notF hF,vs,e,h1,by rw[hl];exact h2,λq c' v hc' hv=>?_,λq r o=>h4 q r (qcd hl he o),λq q' r o o'=>h5 q q' r (qcd hl he o) (qcd hl he o')⟩;have hlt:=(Yb.1 hc').1;rw[hl]at hlt;obtain⟨c,hc⟩:=(⟨_,Ya hlt⟩: ∃c,_=some c);have hE:=he q c' c hc' hc;have hR:=h3 q c v hc hv
    cases hE with
    |av hV=>exact hV.R i hR
    |@own k cs hN=>
     have hR2:RE F (nuM m nu) w (.own k cs) v:=qkD.re (x:= .own k cs) hN (nuM m nu) hR;refine hR2.mono (F':=FS F nu A S) ⟨λ_ h=> .inl h,λ_ _ h=>h,λ_ _=>rfl,λ_ _ h=>h⟩ ?_;rintro g n cap rfl hn ⟨k',cs',hk⟩;refine⟨rfl,λhf=>?_⟩;have hft:Ft w rb (.bag _) g:= .inr ⟨vs,e,q,h1,k,cs,n,cap,hc,hv,hn⟩
     exact Classical.byContradiction λhn0=>notF2 g hft hn0 hf
   |cells hL=>
    obtain⟨hF,vs,e,h1,h2,h3⟩:=h0;refine⟨notF hF,vs,e,h1,by rw[hL.1];exact h2,λq c' v hc' hv=>?_⟩;have hlt:=(Yb.1 hc').1;rw[hL.1]at hlt;exact(hL.2 q c' _ hc' (Ya hlt)).R i (h3 q _ v (Ya hlt) hv)
   |same hN=>
    obtain⟨hF,vs,e,h1,h2,h3⟩:=h0;exact⟨notF hF,vs,e,h1,h2,λq c v hc hv=>(hN c (Yn hc) F nu (nuM m nu) w v (h3 q c v hc hv)).growF λ_ h=> .inl h⟩
   |pre hN hl he=>
    obtain⟨hF,vs,e,h1,h2,h3⟩:=h0;exact⟨notF hF,vs,e,h1,aX hl h2,λq c v hc hv=>(hN c (Yn hc) F nu (nuM m nu) w v (h3 q c v (qoL he hc) hv)).growF λ_ h=> .inl h⟩
   |map hk hv2=>
    obtain⟨hF,es,ck,h1,h2,h3,h4,h5,h6⟩:=h0;exact⟨notF hF,es,ck,h1,h2,h3,λq c e hc he=>(hk c (Yn hc) F nu (nuM m nu) w _ (h4 q c e hc he)).growF λ_ h=> .inl h,λq c e hc he=>(hv2 c (Yn hc) F nu (nuM m nu) w _ (h5 q c e hc he)).growF λ_ h=> .inl h,h6⟩
   |iter=>
    obtain⟨hF,h1⟩:=h0;exact⟨notF hF,h1⟩
   |bld hL=>
    obtain⟨hF,vs,h1,h2,h3,h4⟩:=h0;refine⟨notF hF,vs,h1,by rw[hL.1];exact h2,λq c' v hc' hv=>?_,h4⟩;have hlt:=(Yb.1 hc').1;rw[hL.1]at hlt;exact(hL.2 q c' _ hc' (Ya hlt)).R i (h3 q _ v (Ya hlt) hv)
   |loop hs hfl=>
    obtain⟨hF,fn,tmps,dd,h1,h2⟩:=h0;exact⟨notF hF,fn,tmps,dd,h1,hfl.RF i hs h2⟩
  ·obtain⟨b,hb,hn⟩:=qbt hj;obtain⟨b',hb',hn'⟩:=qbt hj';obtain⟨_,y,hy,hB⟩:=(hA.at_ hb hx).resolve_left (λe=>by subst e;cases ho);obtain⟨_,y',hy',hB'⟩:=(hA.at_ hb' hx').resolve_left (λe=>by subst e;cases ho');have:=i.injF b b' rb rb' y y' r hn hn' hy hy' hB.owned hB'.owned (hB.ft hr) (hB'.ft hr');subst this;exact hA.inj hb hb' hx hx' (λe=>by subst e;cases ho) (λe=>by subst e;cases ho')
  ·have:=hA.len;have e:m[j]? =none:=Yg (by omega);simp[nuM,e]
  ·rcases hFS rb h with h|⟨b,x,rc,h1,h2,h3,h4⟩
   ·exact i.ltF rb h
   exact(i.ftF h1 h2 h3 h4).2
  obtain⟨b,_,hn⟩:=qbt hj;exact i.ltN b rb hn
 have st':Stp F0 Base.nu Base.A w0 (FS F nu A S) (nuM m nu) A' w:=by
  refine⟨λb h=> .inl (st.f b h),λb r h=>?_,st.shape,hinv,st.keep,λrb hlt ho=>st.own rb hlt (hown rb ho),st.size,st.os,st.tape,st.output,λb hb=>?_,hlen,λrb h=>?_⟩
  ·have hb:b<Base.A.length\/Base.A.length<=b:=ak _ _;rcases hb with hb|hb
   ·rw[yj (hkp2 b hb)];exact st.n b r h
   rw[Base.fresh b hb]at h;cases h
  ·rw[yj (hkp2 b hb)];exact st.old b hb
  rcases hFS rb h with h|h
  ·exact st.newF rb h
  rcases ak rb w0.heap.size with hlt|hge
  ·exact .inr (.inr (st.own rb hlt h))
  exact .inr (.inl hge)
 refine⟨FS F nu A S,nuM m nu,st',hf.RF i hl hfr,⟨λd hd2=>?_,hd.apart⟩⟩
 ·obtain⟨r,h1,h2,h3,h4,h5⟩:=hd.each d hd2;refine⟨r,h1,h2,h3,λho=>h4 (hown r ho),λhF=>?_⟩;rcases hFS r hF with h|h
  ·exact h5 h
  exact h4 h
end
theorem Ud [Base] {P:Program} {c:Code} {s:St} {Q:XA->St->Prop} (I:Nat->St->Prop) (hstep: ∀m s,I m s->Goes P c s (andThen (λs'=> ∃m' s'',m'<m/\Sub s' s''/\I m' s'') Q)) {m:Nat} (h0:I m s):Goes P (.loop c) s Q:=by
 have key: ∀m s,(∃s',Sub s s'/\I m s')->Goes P c s (andThen (λs'=> ∃m',m'<m/\ ∃s'',Sub s' s''/\I m' s'') Q):=by
  rintro m s ⟨s',hs,hI⟩;refine Goes.sub hs ((hstep m s' hI).imp λx t ht=>?_)
  cases x with
  |normal=>
   obtain⟨m',s'',h1,h2,h3⟩:=ht;exact⟨m',h1,s'',h2,h3⟩
  |exit id=>exact ht
  |ret=>exact ht
 exact Goes.loop (λm s=> ∃s',Sub s s'/\I m s') key ⟨s,.refl s,h0⟩
theorem Goes.ifB [Base] {P:Program} {c1 c2:Code} {s:St} {Q:XA->St->Prop} {co:Operand} {b:Bool} (hv:yJ s.1 co= .bool b) (ht:b=true->Goes P c1 s Q) (hf:b=false->Goes P c2 s Q):Goes P (.cond co c1 c2) s Q:=Goes.cond hv ht hf
def qbg [Base] (P:Program) (id:Nat) (ops:Array Oper) (draw:Bool) (s s':St):Prop:= ∀Q:XA->St->Prop,Q .normal s'->Goes P (.region id ops draw) s Q
theorem Goes.cut [Base] {P:Program} {id:Nat} {ops:Array Oper} {draw:Bool} {s s':St} {Q:XA->St->Prop} (h:qbg P id ops draw s s') (hq:Q .normal s'):Goes P (.region id ops draw) s Q:=h Q hq
def qoG [Base] (P:Program) (id:Nat) (ops:Array Oper) (draw:Bool) (s s':St):Prop:= ∀Q:XA->St->Prop,(∀t,Sub t s'->Q .normal t)->Goes P (.region id ops draw) s Q
theorem Goes.cutS [Base] {P:Program} {id:Nat} {ops:Array Oper} {draw:Bool} {s s':St} {Q:XA->St->Prop} (h:qoG P id ops draw s s') (hq: ∀t,Sub t s'->Q .normal t):Goes P (.region id ops draw) s Q:=h Q hq
theorem qbg.sub [Base] {P:Program} {id:Nat} {ops:Array Oper} {draw:Bool} {s t s':St} (h:qbg P id ops draw s t) (hs:Sub t s'):qoG P id ops draw s s':=λQ hq=>h Q (hq t hs)
theorem qbg.reg [Base] {P:Program} {id:Nat} {ops:Array Oper} {draw:Bool} {s:St} (hm:P.follows .mixedOrders=true) (orc:List (Nat×Orc)) (live:List Tmp) {fr':Fr} {A':Heap} {obls:List Obl} (h:qhA P ops draw orc live s=some (fr',A',obls)) (ho:qb2 P obls):qbg P id ops draw s (fr',A'):=λ_ hq=>Goes.reg hm orc live h ho hq
theorem Sub.keep [Base] {n:Nat} {l l':List (Nat×AV)} {A:Heap} (ks:List Nat) (hl:asc l=true) (h:l.filter (λp=>ks.contains p.1)=l'):Sub (ofG n l,A) (ofG n l',A):=by
 intro F0 w0 F nu a w st hfr hd;refine⟨F,nu,st,⟨hfr.size,λt v hv=>?_,λt ht=>?_⟩,hd⟩
 ·have h0:=hfr.at_ t v hv
  have hlt:t<n:=by
   have:=(YB.1 hv).1;have h1:=hfr.size;simp only[ofG,Fr.n]at h1;omega
  simp only[ofG,Up,ae hlt]at h0⊢;rcases qju (g:=λ_=>AV.undef) (l:=l') (t:=t)with e|⟨a',ha',e⟩
  ·rw[e];exact .undef v
  rw[e];rw[<-h]at ha';have hm:=(eP.1 ha').1;rw[qlx hl hm]at h0;exact h0
 simp only[ofG,Fr.n]at ht;simp only[ofG,Up,aa (show¬t<n by omega)]
def Wk (a b:AV):Prop:= ∀(F:Nat->Prop) (nu:Nat->Option Nat) (w:World) (v:Value),R F nu w a v->R F nu w b v
theorem Wk.refl (a:AV):Wk a a:=λ_ _ _ _ h=>h
theorem Wk.nil:Wk .nilslice (.fslice 0 []):=by intro F nu w v h;cases h;exact .fslice0 _ _
def WkL (as bs:List AV):Prop:=as.length=bs.length/\ ∀(j:Nat) (a b:AV),as[j]? =some a->bs[j]? =some b->Wk a b
theorem WkL.nil:WkL [] []:=⟨rfl,by simp⟩
theorem WkL.cons {a b:AV} {as bs:List AV} (h:Wk a b) (hs:WkL as bs):WkL (a::as) (b::bs):=by
 refine⟨by simp[hs.1],λj x y hx hy=>?_⟩
 cases j with
 |zero=>simp at hx hy;subst hx hy;exact h
 |succ j=>exact hs.2 j x y (by simpa using hx) (by simpa using hy)
theorem WkL.list {as bs:List AV} (h:WkL as bs) {F:Nat->Prop} {nu:Nat->Option Nat} {w:World} {vs:Array Value} (hl:vs.size=as.length) (hR: ∀(i:Nat) (a:AV) (v:Value),as[i]? =some a->vs[i]? =some v->R F nu w a v):
 vs.size=bs.length/\ ∀(i:Nat) (b:AV) (v:Value),bs[i]? =some b->vs[i]? =some v->R F nu w b v:=by
 refine⟨by rw[hl,h.1],λj b v hb hv=>?_⟩;have hlt:=(Yb.1 hb).1;rw[<-h.1]at hlt;exact h.2 j _ b (Ya hlt) hb F nu w v (hR j _ v (Ya hlt) hv)
theorem Wk.tuple {as bs:List AV} (h:WkL as bs):Wk (.tuple as) (.tuple bs):=by
 intro F nu w v hv
 cases hv with
 |tuple _ vs hl hR=>obtain⟨h1,h2⟩:=h.list hl hR;exact .tuple _ vs h1 h2
theorem Wk.agg {as bs:List AV} (h:WkL as bs):Wk (.agg as) (.agg bs):=by
 intro F nu w v hv
 cases hv with
 |agg _ vs hl hR=>obtain⟨h1,h2⟩:=h.list hl hR;exact .agg _ vs h1 h2
def zm (P:Program) (rs:List ResultVar) (v:AV):XA->St->Prop
 | .exit _,_=>False
 |_,s=> ∃xs v0,jJ P s.1 s.2 rs=some xs/\frz s.2 (List.range s.2.length) 12 (qgP xs)=some v0/\Wk v0 v
theorem Ub {P:Program} {c:Code} {f:FuncId} {fn:Func} {args:List AV} {v:AV} {m:Nat} {l:List (Nat×AV)} {rs:List ResultVar} (hf:P.funcs[f]? =some fn) (hn:(fn.name== "runtime.NumGoroutine")=false) (hb:fn.body=some c) (hm:args.length+(fn.ntmps-args.length)=m) (hr:fn.results.toList=rs)
 (hl:frFn m args=ofG m l) (h:Goes P c (ofG m l,[]) (zm P rs v)):qf P (.fn f) args [] v []:=by
 intro F nu w vs i hargs
 have hnu:nu=λ_=>none:=funext λb=>i.fresh b (aF _)
 subst hnu;subst hr;rw[<-hl]at h;refine .inl ⟨⟨fn,hf,hn,by rw[hb];rfl⟩,?_⟩;refine(callsIn_wide (n:=0)).1 ?_;refine callsIn_of_wp_marks hf hb trivial ?_;refine h F w 0 F (λ_=>none) _ w (.refl i) (RF.frFn hm hargs) .nil _ (λx s' F' nu' a' w' q st hfr hd=>?_);have post: ∀xs v0,jJ P s'.1 s'.2 fn.results.toList=some xs->frz s'.2 (List.range s'.2.length) 12 (qgP xs)=some v0->Wk v0 v->
  LeavesInM (fz none) 0 P fn a'.tmps (λe w'=> ∃x F' nu',e= .returned x/\Stp F (λ_=>none) [] w F' nu' [] w'/\R F' nu' w' v x) a'.defers .returning w':=by
  intro xs v0 hrs hv hw;refine qgU hrs a'.defers st hfr hd (λF2 nu2 w2 y st2 hR=>?_);exact⟨y,_,_,rfl,st2.hand,hw _ _ _ _ (qhg st2.inv 12 hv hR)⟩
 cases x with
 |normal=>obtain⟨xs,v0,h1,h2,h3⟩:=q;exact post xs v0 h1 h2 h3
 |ret=>obtain⟨xs,v0,h1,h2,h3⟩:=q;exact post xs v0 h1 h2 h3
 |exit k=>exact q.elim
def FzW (A:Heap) (S:List Nat) (d:Nat) (a b:AV):Prop:= ∃a0,frz A S d a=some a0/\Wk a0 b
def qj (A:Heap) (S:List Nat) (d:Nat) (as bs:List AV):Prop:= ∃l,as.mapM (frz A S d)=some l/\WkL l bs
section
variable {A:Heap} {S:List Nat} {d:Nat}
theorem FzW.of {a b:AV} (h:frz A S d a=some b):FzW A S d a b:=⟨b,h,Wk.refl b⟩
theorem FzW.nil:FzW A S (d+1) .nilslice (.fslice 0 []):=⟨_,rfl,Wk.nil⟩
theorem qj.nil:qj A S d [] []:=⟨[],rfl,WkL.nil⟩
theorem qj.cons {a b:AV} {as bs:List AV} (h:FzW A S d a b) (hs:qj A S d as bs):qj A S d (a::as) (b::bs):=by
 obtain⟨x,h1,h2⟩:=h;obtain⟨l,g1,g2⟩:=hs;exact⟨x::l,by rw[bV,h1,g1];rfl,WkL.cons h2 g2⟩
theorem FzW.tuple {as bs:List AV} (h:qj A S d as bs):FzW A S (d+1) (.tuple as) (.tuple bs):=by
 obtain⟨l,g1,g2⟩:=h;exact⟨.tuple l,by simp only[frz,g1,ZM],Wk.tuple g2⟩
theorem FzW.agg {as bs:List AV} (h:qj A S d as bs):FzW A S (d+1) (.agg as) (.agg bs):=by
 obtain⟨l,g1,g2⟩:=h;exact⟨.agg l,by simp only[frz,g1,ZM],Wk.agg g2⟩
end
theorem Goes.retW {P:Program} {s:St} {rs:List ResultVar} {xs:List AV} {v:AV} (hx:jJ P s.1 s.2 rs=some xs) (hf:FzW s.2 (List.range s.2.length) 12 (qgP xs) v):zm P rs v .ret s:=by
 obtain⟨v0,h1,h2⟩:=hf;exact⟨xs,v0,hx,h1,h2⟩
end Go.Av
