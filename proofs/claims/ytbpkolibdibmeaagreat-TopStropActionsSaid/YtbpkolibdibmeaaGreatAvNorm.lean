/-
  Frames told by lists; blocks renamed, frozen, forgotten; values without references.
-/
import Derived.Test.YtbpkolibdibmeaaGreatAvOrc
noncomputable section
namespace Go.Av
set_option linter.unusedSectionVars false
variable [Glob]
open Go.RowKit
def qib (g:Nat->AV) (l:List (Nat×AV)):Nat->AV:=l.foldl (fun g p=>qhd g p.1 p.2) g
def ofG (n:Nat) (l:List (Nat×AV)):Fr:= .fn n (qib (fun _=> .undef) l)
theorem qnH {g:Nat->AV} {l:List (Nat×AV)} {t:Nat} (h: ∀p∈l,p.1≠t):qib g l t=g t:=by
 induction l generalizing g with
 |nil=>rfl
 |cons p l ih=>
  have:=ih (g:=qhd g p.1 p.2) fun q hq=>h q (by simp[hq])
  unfold qib at this⊢;rw[List.foldl_cons,this,qgP,if_neg fun e=>h p (by simp) e.symm]
theorem qj5 {g:Nat->AV} {l:List (Nat×AV)} {t:Nat}:qib g l t=g t\/ ∃a,(t,a)∈l/\qib g l t=a:=by
 induction l generalizing g with
 |nil=>exact .inl rfl
 |cons p l ih=>
  rcases ih (g:=qhd g p.1 p.2)with h|⟨a,ha,h⟩
  ·unfold qib at h⊢;rw[List.foldl_cons,h,qgP];by_cases e:t=p.1
   ·subst e;rw[if_pos rfl];exact .inr ⟨p.2,by simp,rfl⟩
   rw[if_neg e];exact .inl rfl
  unfold qib at h⊢;rw[List.foldl_cons];exact .inr ⟨a,by simp[ha],h⟩
def asc:List (Nat×AV)->Bool
 |[]=>true
 |[_]=>true
 |p::q::l=>Nat.blt p.1 q.1&&asc (q::l)
theorem qvn: ∀{l:List (Nat×AV)} {p:Nat×AV},asc (p::l)=true-> ∀q∈l,p.1<q.1:=by
 intro l
 induction l with
 |nil=>intro p _ q hq;cases hq
 |cons r l ih=>
  intro p h q hq;simp only[asc,Bool.and_eq_true]at h;have h1:p.1<r.1:=Ys h.1;rcases List.mem_cons.1 hq with rfl|hq
  ·exact h1
  exact Nat.lt_trans h1 (ih h.2 q hq)
theorem qsh {l:List (Nat×AV)} {p:Nat×AV} (h:asc (p::l)=true):asc l=true:=by
 cases l with
 |nil=>rfl
 |cons q l=>simp only[asc,Bool.and_eq_true]at h;exact h.2
theorem qmC {g:Nat->AV} {l:List (Nat×AV)} (h:asc l=true) {t:Nat} {a:AV} (hm:(t,a)∈l):qib g l t=a:=by
 induction l generalizing g with
 |nil=>cases hm
 |cons p l ih=>
  unfold qib;rw[List.foldl_cons];rcases List.mem_cons.1 hm with e|hm
  ·subst e
   have:=qnH (g:=qhd g t a) (l:=l) (t:=t) fun q hq e=>by
    have:=qvn h q hq;simp only at this;omega
   unfold qib at this;rw[this,qgP,if_pos rfl]
  exact ih (g:=qhd g p.1 p.2) (qsh h) hm
def qH (a:AV):Prop:= ∀(F:Nat->Prop) (nu nu':Nat->Option Nat) (w:World) (v:Value),R F nu w a v->R F nu' w a v
theorem qH.int (k:IntKind) (n:Int):qH (.int k n):=by intro F nu nu' w v h;cases h;exact .int _ _
theorem qH.bool (b:Bool):qH (.bool b):=by intro F nu nu' w v h;cases h;exact .bool _
theorem qH.str (s:List UInt8):qH (.str s):=by intro F nu nu' w v h;cases h with|str _ _ h=>exact .str _ _ h
theorem qH.nilslice:qH .nilslice:=by intro F nu nu' w v h;cases h;exact .nilslice
theorem qH.nilptr:qH .nilptr:=by intro F nu nu' w v h;cases h;exact .nilptr
theorem qH.nilmap:qH .nilmap:=by intro F nu nu' w v h;cases h;exact .nilmap
theorem qH.nilfunc:qH .nilfunc:=by intro F nu nu' w v h;cases h;exact .nilfunc
theorem qH.niliface:qH .niliface:=by intro F nu nu' w v h;cases h;exact .niliface
theorem qH.fslice {n:Nat} {cs:List AV} (h: ∀c∈cs,qH c):qH (.fslice n cs):=by
 intro F nu nu' w v hv
 cases hv with
 |fslice0 A cap=>exact .fslice0 A cap
 |fslice _ _ ad cap vs hn hF hl hc hR=>exact .fslice _ _ ad cap vs hn hF hl hc fun i a v ha hv=>h a (Yn ha) F nu nu' w v (hR i a v ha hv)
theorem qH.fptr {off:Nat} {cs:List AV} (h: ∀c∈cs,qH c):qH (.fptr cs off):=by
 intro F nu nu' w v hv
 cases hv with
 |fptr _ _ ad vs hF hl hc hR=>exact .fptr _ _ ad vs hF hl hc fun i a v ha hv=>h a (Yn ha) F nu nu' w v (hR i a v ha hv)
theorem qH.agg {cs:List AV} (h: ∀c∈cs,qH c):qH (.agg cs):=by
 intro F nu nu' w v hv
 cases hv with
 |agg _ vs hl hR=>exact .agg _ vs hl fun i a v ha hv=>h a (Yn ha) F nu nu' w v (hR i a v ha hv)
theorem qH.tuple {cs:List AV} (h: ∀c∈cs,qH c):qH (.tuple cs):=by
 intro F nu nu' w v hv
 cases hv with
 |tuple _ vs hl hR=>exact .tuple _ vs hl fun i a v ha hv=>h a (Yn ha) F nu nu' w v (hR i a v ha hv)
theorem qH.func {fn:Fn} {fs cs:List AV} (h1: ∀c∈fs,qH c) (h2: ∀c∈cs,qH c):qH (.func fn fs cs):=by
 intro F nu nu' w v hv
 cases hv with
 |func _ _ _ vf vc g1 g2 hf hc=>exact .func _ _ _ vf vc g1 g2 (fun i a v ha hv=>h1 a (Yn ha) F nu nu' w v (hf i a v ha hv)) (fun i a v ha hv=>h2 a (Yn ha) F nu nu' w v (hc i a v ha hv))
theorem qH.fmap {ks xs:List AV} (h1: ∀c∈ks,qH c) (h2: ∀c∈xs,qH c):qH (.fmap ks xs):=by
 intro F nu nu' w v hv
 cases hv with
 |fmap _ _ rb es clock hF hh hk hv hRk hRv=>exact .fmap _ _ rb es clock hF hh hk hv (fun i a e ha he=>h1 a (Yn ha) F nu nu' w _ (hRk i a e ha he)) (fun i a e ha he=>h2 a (Yn ha) F nu nu' w _ (hRv i a e ha he))
def qcI (cs:List AV):Prop:= ∀c∈cs,qH c
theorem qcI.nil:qcI []:=by intro c h;cases h
theorem qcI.cons {c:AV} {cs:List AV} (h:qH c) (hs:qcI cs):qcI (c::cs):=by
 intro d hd;rcases List.mem_cons.1 hd with rfl|hd
 ·exact h
 exact hs d hd
theorem qcI.append {cs ds:List AV} (h:qcI cs) (hs:qcI ds):qcI (cs++ds):=by
 intro d hd;rcases List.mem_append.1 hd with hd|hd
 ·exact h d hd
 exact hs d hd
def qlg:Ent->Prop
 | .av a=>qH a
 | .own _ cs=>qcI cs
theorem qlg.re {x:Ent} (h:qlg x) {F:Nat->Prop} {nu:Nat->Option Nat} (nu':Nat->Option Nat) {w:World} {v:Value} (hR:RE F nu w x v):RE F nu' w x v:=by
 cases x with
 |av a=>exact h F nu nu' w v hR
 |own k cs=>
  obtain h|⟨g,n,cap,vs,e,rfl,h0,h1,h2,h3,h4,h5,h6,h7⟩:=hR
  ·exact .inl h
  exact .inr ⟨g,n,cap,vs,e,rfl,h0,h1,h2,h3,h4,h5,h6,fun i a v ha hv=>h a (Yn ha) F nu nu' w v (h7 i a v ha hv)⟩
section
variable (A:Heap) (S:List Nat) (m:List (Option Nat))
inductive jD:AV->AV->Prop
 |same {a:AV} (h:qH a):jD a a
 |undef {a:AV}:jD .undef a
 |ptr {i b off:Nat} (h:m[i]? =some (some b)):jD (.ptr i off) (.ptr b off)
 |slice {i b off n cap k:Nat} (h:m[i]? =some (some b)):jD (.slice i off n cap k) (.slice b off n cap k)
 |oslice {i b n k:Nat} (h:m[i]? =some (some b)):jD (.oslice i n k) (.oslice b n k)
 |gslice {i b n k:Nat} (h:m[i]? =some (some b)):jD (.gslice i n k) (.gslice b n k)
 |gsliceE {i b n n' k:Nat} (h:m[i]? =some (some b)) (e:n=n'):jD (.gslice i n' k) (.gslice b n k)
 |osliceE {i b n n' k:Nat} (h:m[i]? =some (some b)) (e:n=n'):jD (.oslice i n' k) (.oslice b n k)
 |sliceE {i b n n' k:Nat} (h:m[i]? =some (some b)) (e:n=n'):jD (.slice i 0 n' n' k) (.slice b 0 n n k)
 |wslice {i b off n k:Nat} (h:m[i]? =some (some b)):jD (.wslice i off n k) (.wslice b off n k)
 |map {i b:Nat} (h:m[i]? =some (some b)):jD (.map i) (.map b)
 |yld {i b:Nat} (h:m[i]? =some (some b)):jD (.yld i) (.yld b)
 |grow {i b n k:Nat} (h:m[i]? =some (some b)) (hp:0<n):jD (.gslice i n k) (.oslice b n k)
 |own {i b n n' k:Nat} {cs:List AV} (h:m[i]? =some (some b)) (hA:A[b]? =some (.cells cs)) (hc:Nat.ble (n*k) cs.length=true) (hx:Nat.ble n 9223372036854775807=true) (hn:n'=n) (hs:S.isEmpty=false):jD (.oslice i n' k) (.slice b 0 n n k)
 |ownL {i b n n' cap k:Nat} {cs:List AV} (h:m[i]? =some (some b)) (hA:A[b]? =some (.cells cs)) (hc:cap*k<=cs.length) (hx:cap<=9223372036854775807) (hn:n'=n) (hs:S.isEmpty=false):jD (.oslice i n' k) (.slice b 0 n cap k)
 |nil {i k:Nat}:jD (.gslice i 0 k) .nilslice
 |nilv:jD (.fslice 0 []) .nilslice
 |frz {a a':AV} (h:frz A S 12 a=some a') (hr:qH a'):jD a' a
 |agg {cs' cs:List AV} (hl:cs'.length=cs.length) (h: ∀(j:Nat) (c' c:AV),cs'[j]? =some c'->cs[j]? =some c->jD c' c):jD (.agg cs') (.agg cs)
 |tuple {cs' cs:List AV} (hl:cs'.length=cs.length) (h: ∀(j:Nat) (c' c:AV),cs'[j]? =some c'->cs[j]? =some c->jD c' c):jD (.tuple cs') (.tuple cs)
 |func {fn:Fn} {fs cs' cs:List AV} (hf:qcI fs) (hl:cs'.length=cs.length) (h: ∀(j:Nat) (c' c:AV),cs'[j]? =some c'->cs[j]? =some c->jD c' c):jD (.func fn fs cs') (.func fn fs cs)
def qcR (cs' cs:List AV):Prop:=cs'.length=cs.length/\ ∀(j:Nat) (c' c:AV),cs'[j]? =some c'->cs[j]? =some c->jD A S m c' c
theorem qqH {cs' cs:List AV} (he:cs.take cs'.length=cs') {q:Nat} {c:AV} (h:cs'[q]? =some c):cs[q]? =some c:=by
 have hq:=(Yb.1 h).1;rw[<-he,Yt,if_pos hq]at h;exact h
inductive qnU:Ent->Ent->Prop
 |av {a' a:AV} (h:jD A S m a' a):qnU (.av a') (.av a)
 |own {k:Nat} {cs:List AV} (h:qcI cs):qnU (.own k cs) (.own k cs)
inductive qcB:List (Nat×AV)->List (Nat×AV)->Prop
 |nil {l:List (Nat×AV)}:qcB l []
 |keep {t:Nat} {a a':AV} {l l':List (Nat×AV)} (h:jD A S m a' a) (hl:qcB l l'):qcB ((t,a)::l) ((t,a')::l')
 |drop {p:Nat×AV} {l l':List (Nat×AV)} (hl:qcB l l'):qcB (p::l) l'
inductive yj:Blk->Blk->Prop
 |bag {es' es:List Ent} (hl:es'.length=es.length) (h: ∀(j:Nat) (x' x:Ent),es'[j]? =some x'->es[j]? =some x->qnU A S m x' x):yj (.bag es') (.bag es)
 |cells {cs' cs:List AV} (h:qcR A S m cs' cs):yj (.cells cs') (.cells cs)
 |same {cs:List AV} (h:qcI cs):yj (.cells cs) (.cells cs)
 |pre {cs' cs:List AV} (h:qcI cs') (hl:cs'.length<=cs.length) (he:cs.take cs'.length=cs'):yj (.cells cs') (.cells cs)
 |map {ks vs:List AV} (h1:qcI ks) (h2:qcI vs):yj (.map ks vs) (.map ks vs)
 |iter {s:List UInt8} {pos:Nat}:yj (.iter s pos) (.iter s pos)
 |bld {T e:TypeId} {cs' cs:List AV} (h:qcR A S m cs' cs):yj (.bld T e cs') (.bld T e cs)
 |loop {st:LoopState} {p:Option Code} {k:Nat} {l l':List (Nat×AV)} {ps:Array Tmp} {a b:Code} (hs:asc l=true) (h:qcB A S m l l'):yj (.loop st p (ofG k l') ps a b) (.loop st p (ofG k l) ps a b)
inductive qcW:List (Option Nat)->Heap->Prop
 |nil:qcW [] []
 |fresh {x:Blk} {l:List (Option Nat)} {H:Heap} (h:qcW l H):qcW (none::l) (x::H)
 |keep {b:Nat} {x y:Blk} {l:List (Option Nat)} {H:Heap} (hA:A[b]? =some y) (hb:yj A S m x y) (hS:S.contains b=false) (hl:l.contains (some b)=false) (h:qcW l H):qcW (some b::l) (x::H)
 |lost {b:Nat} {l:List (Option Nat)} {H:Heap} (h:qcW l H):qcW (some b::l) (.dead::H)
end
section
variable {A:Heap} {S:List Nat} {m:List (Option Nat)}
theorem qcR.nil:qcR A S m [] []:=⟨rfl,by simp⟩
theorem qcR.cons {c' c:AV} {cs' cs:List AV} (h:jD A S m c' c) (hs:qcR A S m cs' cs):qcR A S m (c'::cs') (c::cs):=by
 refine⟨by simp[hs.1],fun j d' d h' hd=>?_⟩
 cases j with
 |zero=>simp at h' hd;subst h' hd;exact h
 |succ j=>exact hs.2 j d' d (by simpa using h') (by simpa using hd)
theorem jD.funcL {fn:Fn} {fs cs' cs:List AV} (hf:qcI fs) (h:qcR A S m cs' cs):jD A S m (.func fn fs cs') (.func fn fs cs):= .func hf h.1 h.2
def nuM (m:List (Option Nat)) (nu:Nat->Option Nat) (i:Nat):Option Nat:=match m[i]? with
 |some (some b)=>nu b
 |_=>none
theorem vN {nu:Nat->Option Nat} {i b:Nat} (h:m[i]? =some (some b)):nuM m nu i=nu b:=by simp[nuM,h]
theorem qbB {nu:Nat->Option Nat} {i rb:Nat} (h:nuM m nu i=some rb): ∃b,m[i]? =some (some b)/\nu b=some rb:=by
 unfold nuM at h;split at h
 ·rename_i b hb;exact⟨b,hb,h⟩
 cases h
theorem R.growF {F F':Nat->Prop} {nu:Nat->Option Nat} {w:World} {a:AV} {v:Value} (hF: ∀b,F b->F' b) (h:R F nu w a v):R F' nu w a v:=
 h.mono ⟨hF,fun _ _ h=>h,fun _ _=>rfl,fun _ _ h=>h⟩
theorem jD.R {F:Nat->Prop} {nu:Nat->Option Nat} {w:World} (i:Inv F nu A w) {a' a:AV} (h:jD A S m a' a): ∀{v:Value},R F nu w a v->R (FS F nu A S) (nuM m nu) w a' v:=by
 have g: ∀b,F b->FS F nu A S b:=fun b h=> .inl h
 induction h with
 |same h=>intro v hv;exact(h F nu (nuM m nu) w v hv).growF g
 |undef=>intro v _;exact .undef v
 |ptr h=>intro v hv;cases hv with|ptr _ _ rb hb=>exact .ptr _ _ rb (by rw[vN h];exact hb)
 |slice h=>intro v hv;cases hv with|slice _ _ _ _ _ rb hb hc=>exact .slice _ _ _ _ _ rb (by rw[vN h];exact hb) hc
 |oslice h=>intro v hv;cases hv with|oslice _ _ _ rb cap e m' hb hc hs hm hx=>exact .oslice _ _ _ rb cap e m' (by rw[vN h];exact hb) hc hs hm hx
 |gslice h=>
  intro v hv
  cases hv with
  |gslice0=>exact .gslice0 _ _ _
  |gslice _ _ _ rb cap e m' hp hb hc hs hm hx=>exact .gslice _ _ _ rb cap e m' hp (by rw[vN h];exact hb) hc hs hm hx
 |gsliceE h e=>
  intro v hv;subst e
  cases hv with
  |gslice0=>exact .gslice0 _ _ _
  |gslice _ _ _ rb cap e m' hp hb hc hs hm hx=>exact .gslice _ _ _ rb cap e m' hp (by rw[vN h];exact hb) hc hs hm hx
 |osliceE h e=>intro v hv;subst e;cases hv with|oslice _ _ _ rb cap e m' hb hc hs hm hx=>exact .oslice _ _ _ rb cap e m' (by rw[vN h];exact hb) hc hs hm hx
 |sliceE h e=>intro v hv;subst e;cases hv with|slice _ _ _ _ _ rb hb hc=>exact .slice _ _ _ _ _ rb (by rw[vN h];exact hb) hc
 |wslice h=>intro v hv;cases hv with|wslice _ _ _ _ rb cap hb hc=>exact .wslice _ _ _ _ rb cap (by rw[vN h];exact hb) hc
 |map h=>intro v hv;cases hv with|map _ rb hb=>exact .map _ rb (by rw[vN h];exact hb)
 |yld h=>intro v hv;cases hv with|yld _ rb hb=>exact .yld _ rb (by rw[vN h];exact hb)
 |grow h hp=>intro v hv;cases hv with|oslice _ _ _ rb cap e m' hb hc hs hm hx=>exact .gslice _ _ _ rb cap e m' hp (by rw[vN h];exact hb) hc hs hm hx
 |own h hA hc hx hn _=>
  intro v hv;subst hn
  cases hv with
  |slice _ _ _ _ _ rb hb _=>
   obtain⟨_,vs,e,h1,h2,_⟩:=i.blk _ rb _ hb hA;have hc:=Ys hc;exact .oslice _ _ _ rb _ e vs.size (by rw[vN h];exact hb) (Nat.le_refl _) (by unfold World.shape?;rw[h1]) (by omega) (Ys hx)
 |ownL h hA hc hx hn _=>
  intro v hv;subst hn
  cases hv with
  |slice _ _ _ _ _ rb hb hnc=>
   obtain⟨_,vs,e,h1,h2,_⟩:=i.blk _ rb _ hb hA;exact .oslice _ _ _ rb _ e vs.size (by rw[vN h];exact hb) hnc (by unfold World.shape?;rw[h1]) (by omega) hx
 |nil=>intro v hv;cases hv;exact .gslice0 _ _ _
 |nilv=>intro v hv;cases hv;exact .fslice0 _ _
 |frz h hr=>intro v hv;exact hr _ _ _ _ _ (qhV i 12 h hv)
 |agg hl h ih=>
  intro v hv
  cases hv with
  |agg _ vs hl2 hR=>
   refine .agg _ vs (by omega) fun j c' y hc' hy=>?_
   have hlt:=(Yb.1 hc').1;rw[hl]at hlt;exact ih j c' _ hc' (Ya hlt) (hR j _ y (Ya hlt) hy)
 |tuple hl h ih=>
  intro v hv
  cases hv with
  |tuple _ vs hl2 hR=>
   refine .tuple _ vs (by omega) fun j c' y hc' hy=>?_
   have hlt:=(Yb.1 hc').1;rw[hl]at hlt;exact ih j c' _ hc' (Ya hlt) (hR j _ y (Ya hlt) hy)
 |func hf hl h ih=>
  intro v hv
  cases hv with
  |func _ _ _ vf vc g1 g2 hf2 hc2=>
   refine .func _ _ _ vf vc g1 (by omega) (fun j a y ha hy=>(hf a (Yn ha) F nu (nuM m nu) w y (hf2 j a y ha hy)).growF g) fun j c' y hc' hy=>?_
   have hlt:=(Yb.1 hc').1;rw[hl]at hlt;exact ih j c' _ hc' (Ya hlt) (hc2 j _ y (Ya hlt) hy)
theorem qcW.len {l:List (Option Nat)} {H:Heap} (h:qcW A S m l H):l.length=H.length:=by
 induction h with
 |nil=>rfl
 |fresh _ ih=>simp[ih]
 |keep _ _ _ _ _ ih=>simp[ih]
 |lost _ ih=>simp[ih]
theorem qcW.at_ {l:List (Option Nat)} {H:Heap} (h:qcW A S m l H): ∀{i b:Nat} {x:Blk},l[i]? =some (some b)->H[i]? =some x->x= .dead\/b∉S/\ ∃y,A[b]? =some y/\yj A S m x y:=by
 induction h with
 |nil=>intro i b x h;simp at h
 |fresh h ih=>
  intro i b x hb hx
  cases i with
  |zero=>simp at hb
  |succ i=>exact ih (by simpa using hb) (by simpa using hx)
 |keep hA hB hS hl h ih=>
  intro i b x hb hx
  cases i with
  |zero=>
   simp at hb hx;subst hb hx;exact .inr ⟨fun hm=>by simp[hm]at hS,_,hA,hB⟩
  |succ i=>exact ih (by simpa using hb) (by simpa using hx)
 |lost h ih=>
  intro i b x hb hx
  cases i with
  |zero=>simp at hx;exact .inl hx.symm
  |succ i=>exact ih (by simpa using hb) (by simpa using hx)
theorem qcW.inj {l:List (Option Nat)} {H:Heap} (h:qcW A S m l H): ∀{i j b:Nat} {x x':Blk},l[i]? =some (some b)->l[j]? =some (some b)->H[i]? =some x->H[j]? =some x'->x≠ .dead->x'≠ .dead->i=j:=by
 induction h with
 |nil=>intro i j b x x' h;simp at h
 |fresh h ih=>
  intro i j b x x' hi hj hx hx' hn hn'
  cases i with
  |zero=>simp at hi
  |succ i=>
   cases j with
   |zero=>simp at hj
   |succ j=>exact congrArg (· +1) (ih (by simpa using hi) (by simpa using hj) (by simpa using hx) (by simpa using hx') hn hn')
 |keep hA hB hS hl h ih=>
  intro i j b x x' hi hj hx hx' hn hn'
  cases i with
  |zero=>
   cases j with
   |zero=>rfl
   |succ j=>
    simp at hi hj;subst hi;have:=Yn hj;simp[this]at hl
  |succ i=>
   cases j with
   |zero=>
    simp at hi hj;subst hj;have:=Yn hi;simp[this]at hl
   |succ j=>exact congrArg (· +1) (ih (by simpa using hi) (by simpa using hj) (by simpa using hx) (by simpa using hx') hn hn')
 |lost h ih=>
  intro i j b x x' hi hj hx hx' hn hn'
  cases i with
  |zero=>simp at hx;exact absurd hx.symm hn
  |succ i=>
   cases j with
   |zero=>simp at hx';exact absurd hx'.symm hn'
   |succ j=>exact congrArg (· +1) (ih (by simpa using hi) (by simpa using hj) (by simpa using hx) (by simpa using hx') hn hn')
theorem qcb {es' es:List Ent} (hl:es'.length=es.length) (h: ∀(j:Nat) (x' x:Ent),es'[j]? =some x'->es[j]? =some x->qnU A S m x' x) {vs:Array Value} {i r:Nat} (o:OwnAt es' vs i r):OwnAt es vs i r:=by
 obtain⟨k,cs,n,cap,h1,h2,h3⟩:=o;have hlt:=(Yb.1 h1).1;have e:=h i _ _ h1 (Ya (show i<es.length by omega));generalize he:es[i]'(by omega)=x at e
 cases e with
 |own _=>exact⟨k,cs,n,cap,by rw[Ya (show i<es.length by omega),he],h2,h3⟩
theorem yj.owned {x y:Blk} (h:yj A S m x y):y.owned=true:=by cases h<;>rfl
theorem yj.ft {x y:Blk} (h:yj A S m x y) {w:World} {rb r:Nat} (hf:Ft w rb x r):Ft w rb y r:=by
 cases h with
 |bag hl he=>
  rcases hf with hf|⟨vs,e,i,h1,h2⟩
  ·exact .inl hf
  exact .inr ⟨vs,e,i,h1,qcb hl he h2⟩
 |_=>exact .inl (Ft.one (by intro es e;cases e) hf)
theorem qcB.mem {l l':List (Nat×AV)} (h:qcB A S m l l'): ∀{t:Nat} {a':AV},(t,a')∈l'-> ∃a,(t,a)∈l/\jD A S m a' a:=by
 induction h with
 |nil=>intro t a' h;cases h
 |keep hv hl ih=>
  intro t a' h;rcases List.mem_cons.1 h with e|h
  ·simp only[ZP]at e;obtain⟨rfl,rfl⟩:=e;exact⟨_,by simp,hv⟩
  obtain⟨a,ha,hr⟩:=ih h;exact⟨a,by simp[ha],hr⟩
 |drop hl ih=>
  intro t a' h;obtain⟨a,ha,hr⟩:=ih h;exact⟨a,by simp[ha],hr⟩
theorem qcB.RF {F:Nat->Prop} {nu:Nat->Option Nat} {w:World} (i:Inv F nu A w) {n:Nat} {l l':List (Nat×AV)} (hl:asc l=true) (hf:qcB A S m l l') {tmps:Array Value} (hfr:RF F nu w (ofG n l) tmps):RF (FS F nu A S) (nuM m nu) w (ofG n l') tmps:=by
 refine⟨hfr.size,fun t v hv=>?_,fun t ht=>?_⟩
 ·have h0:=hfr.at_ t v hv
  have hlt:t<n:=by
   have:=(YB.1 hv).1;have h1:=hfr.size;simp only[ofG,Fr.n]at h1;omega
  simp only[ofG,Uw,if_pos hlt]at h0⊢;rcases qj5 (g:=fun _=>AV.undef) (l:=l') (t:=t)with e|⟨a',ha',e⟩
  ·rw[e];exact .undef v
  rw[e];obtain⟨a0,ha0,hr⟩:=hf.mem ha';rw[qmC hl ha0]at h0;exact hr.R i h0
 simp only[ofG,Fr.n]at ht;simp only[ofG,Uw,if_neg (show¬t<n by omega)]
def kept (m:List (Option Nat)) (n:Nat):Bool:=(List.range n).all fun b=>decide (m[b]? =some (some b))
def Sub [Base] (s s':St):Prop:= ∀(F0:Nat->Prop) (w0:World) (F:Nat->Prop) (nu:Nat->Option Nat) (a:Act) (w:World),Stp F0 Base.nu Base.A w0 F nu s.2 w->RF F nu w s.1 a.tmps->Dfr w0.heap.size F nu s.2 w a.defers->
 ∃F' nu',Stp F0 Base.nu Base.A w0 F' nu' s'.2 w/\RF F' nu' w s'.1 a.tmps/\Dfr w0.heap.size F' nu' s'.2 w a.defers
theorem Sub.refl [Base] (s:St):Sub s s:=fun _ _ F nu _ _ st hf hd=>⟨F,nu,st,hf,hd⟩
theorem Sub.trans [Base] {s s' s'':St} (h:Sub s s') (k:Sub s' s''):Sub s s'':=fun F0 w0 F nu a w st hf hd=>by
 obtain⟨F',nu',st',hf',hd'⟩:=h F0 w0 F nu a w st hf hd;exact k F0 w0 F' nu' a w st' hf' hd'
theorem Goes.sub [Base] {P:Program} {c:Code} {s s':St} {Q:XA->St->Prop} (h:Sub s s') (hg:Goes P c s' Q):Goes P c s Q:=fun F0 w0 n F nu a w st hf hd K hK=>by
 obtain⟨F',nu',st',hf',hd'⟩:=h F0 w0 F nu a w st hf hd;exact hg F0 w0 n F' nu' a w st' hf' hd' K hK
theorem Uc [Base] {n:Nat} {l l':List (Nat×AV)} {A':Heap} (S:List Nat) (m:List (Option Nat)) (hkp:kept m Base.A.length=true) (hl:asc l=true) (hf:qcB A S m l l') (hA:qcW A S m m A'):Sub (ofG n l,A) (ofG n l',A'):=by
 intro F0 w0 F nu a w st hfr hd;have i:=st.inv
 have hkp2: ∀b,b<Base.A.length->m[b]? =some (some b):=fun b hb=>by
  have:=Yp.1 hkp b (List.mem_range.2 hb);exact of_decide_eq_true this
 have hlen:Base.A.length<=A'.length:=by
  rw[<-hA.len];rcases Nat.lt_or_ge m.length Base.A.length with h|h
  ·have:=hkp2 m.length h;simp at this
  exact h
 have hown: ∀r,qaZ (nuM m nu) A' w r->qaZ nu A w r:=by
  rintro r ⟨j,x,rb,hj,hx,ho,hf⟩;obtain⟨b,hb,hn⟩:=qbB hj;rcases hA.at_ hb hx with rfl|⟨_,y,hy,hB⟩
  ·cases ho
  exact⟨b,y,rb,hn,hy,hB.owned,hB.ft hf⟩
 have hFS: ∀rb,FS F nu A S rb->F rb\/qaZ nu A w rb:=by
  rintro rb (h|⟨b,x,_,h1,h2,h3⟩)
  ·exact .inl h
  exact .inr (.of h1 h2 h3)
 have hinv:Inv (FS F nu A S) (nuM m nu) A' w:=by
  refine⟨fun j rb x hj hx=>?_,fun j j' rb rb' x x' r hj hj' hx hx' ho ho' hr hr'=>?_,fun j hj=>?_,fun rb h=>?_,fun j rb hj=>?_,Glob.mono i.glob (fun _ h=> .inl h) fun _ _=>rfl⟩
  ·obtain⟨b,hb,hn⟩:=qbB hj;rcases hA.at_ hb hx with rfl|⟨hnS,y,hy,hB⟩
   ·trivial
   have h0:=i.blk b rb y hn hy;have hnF:F rb\/ ¬F rb:=Classical.em _
   have notF2: ∀r,Ft w rb y r-> ¬F r-> ¬FS F nu A S r:=by
    rintro r hr hn0 (h|⟨b',x',h1,h2,h3,h4⟩)
    ·exact hn0 h
    exact hnS (i.injF b b' rb r y x' r hn h2 hy h3 hB.owned h4 hr (.inl rfl)▸h1)
   have notF:=notF2 rb (.inl rfl)
   cases hB with
   |bag hl he=>
    obtain⟨hF,vs,e,h1,h2,h3,h4,h5⟩:=h0;refine⟨notF hF,vs,e,h1,by rw[hl];exact h2,fun q c' v hc' hv=>?_,fun q r o=>h4 q r (qcb hl he o),fun q q' r o o'=>h5 q q' r (qcb hl he o) (qcb hl he o')⟩;have hlt:=(Yb.1 hc').1;rw[hl]at hlt;obtain⟨c,hc⟩:=(⟨_,Ya hlt⟩: ∃c,_=some c);have hE:=he q c' c hc' hc;have hR:=h3 q c v hc hv
    cases hE with
    |av hV=>exact hV.R i hR
    |@own k cs hN=>
     have hR2:RE F (nuM m nu) w (.own k cs) v:=qlg.re (x:= .own k cs) hN (nuM m nu) hR;refine hR2.mono (F':=FS F nu A S) ⟨fun _ h=> .inl h,fun _ _ h=>h,fun _ _=>rfl,fun _ _ h=>h⟩ ?_;rintro g n cap rfl hn ⟨k',cs',hk⟩;refine⟨rfl,fun hf=>?_⟩;have hft:Ft w rb (.bag _) g:= .inr ⟨vs,e,q,h1,k,cs,n,cap,hc,hv,hn⟩
     exact Classical.byContradiction fun hn0=>notF2 g hft hn0 hf
   |cells hL=>
    obtain⟨hF,vs,e,h1,h2,h3⟩:=h0;refine⟨notF hF,vs,e,h1,by rw[hL.1];exact h2,fun q c' v hc' hv=>?_⟩;have hlt:=(Yb.1 hc').1;rw[hL.1]at hlt;exact(hL.2 q c' _ hc' (Ya hlt)).R i (h3 q _ v (Ya hlt) hv)
   |same hN=>
    obtain⟨hF,vs,e,h1,h2,h3⟩:=h0;exact⟨notF hF,vs,e,h1,h2,fun q c v hc hv=>(hN c (Yn hc) F nu (nuM m nu) w v (h3 q c v hc hv)).growF fun _ h=> .inl h⟩
   |pre hN hl he=>
    obtain⟨hF,vs,e,h1,h2,h3⟩:=h0;exact⟨notF hF,vs,e,h1,Nat.le_trans hl h2,fun q c v hc hv=>(hN c (Yn hc) F nu (nuM m nu) w v (h3 q c v (qqH he hc) hv)).growF fun _ h=> .inl h⟩
   |map hk hv2=>
    obtain⟨hF,es,ck,h1,h2,h3,h4,h5,h6⟩:=h0;exact⟨notF hF,es,ck,h1,h2,h3,fun q c e hc he=>(hk c (Yn hc) F nu (nuM m nu) w _ (h4 q c e hc he)).growF fun _ h=> .inl h,fun q c e hc he=>(hv2 c (Yn hc) F nu (nuM m nu) w _ (h5 q c e hc he)).growF fun _ h=> .inl h,h6⟩
   |iter=>
    obtain⟨hF,h1⟩:=h0;exact⟨notF hF,h1⟩
   |bld hL=>
    obtain⟨hF,vs,h1,h2,h3,h4⟩:=h0;refine⟨notF hF,vs,h1,by rw[hL.1];exact h2,fun q c' v hc' hv=>?_,h4⟩;have hlt:=(Yb.1 hc').1;rw[hL.1]at hlt;exact(hL.2 q c' _ hc' (Ya hlt)).R i (h3 q _ v (Ya hlt) hv)
   |loop hs hfl=>
    obtain⟨hF,fn,tmps,dd,h1,h2⟩:=h0;exact⟨notF hF,fn,tmps,dd,h1,hfl.RF i hs h2⟩
  ·obtain⟨b,hb,hn⟩:=qbB hj;obtain⟨b',hb',hn'⟩:=qbB hj';obtain⟨_,y,hy,hB⟩:=(hA.at_ hb hx).resolve_left (fun e=>by subst e;cases ho);obtain⟨_,y',hy',hB'⟩:=(hA.at_ hb' hx').resolve_left (fun e=>by subst e;cases ho');have:=i.injF b b' rb rb' y y' r hn hn' hy hy' hB.owned hB'.owned (hB.ft hr) (hB'.ft hr');subst this;exact hA.inj hb hb' hx hx' (fun e=>by subst e;cases ho) (fun e=>by subst e;cases ho')
  ·have:=hA.len;have e:m[j]? =none:=Yg (by omega);simp[nuM,e]
  ·rcases hFS rb h with h|⟨b,x,rc,h1,h2,h3,h4⟩
   ·exact i.ltF rb h
   exact(i.ftF h1 h2 h3 h4).2
  obtain⟨b,_,hn⟩:=qbB hj;exact i.ltN b rb hn
 have st':Stp F0 Base.nu Base.A w0 (FS F nu A S) (nuM m nu) A' w:=by
  refine⟨fun b h=> .inl (st.f b h),fun b r h=>?_,st.shape,hinv,st.keep,fun rb hlt ho=>st.own rb hlt (hown rb ho),st.size,st.os,st.tape,st.output,fun b hb=>?_,hlen,fun rb h=>?_⟩
  ·have hb:b<Base.A.length\/Base.A.length<=b:=Nat.lt_or_ge _ _;rcases hb with hb|hb
   ·rw[vN (hkp2 b hb)];exact st.n b r h
   rw[Base.fresh b hb]at h;cases h
  ·rw[vN (hkp2 b hb)];exact st.old b hb
  rcases hFS rb h with h|h
  ·exact st.newF rb h
  rcases Nat.lt_or_ge rb w0.heap.size with hlt|hge
  ·exact .inr (.inr (st.own rb hlt h))
  exact .inr (.inl hge)
 refine⟨FS F nu A S,nuM m nu,st',hf.RF i hl hfr,⟨fun d hd2=>?_,hd.apart⟩⟩
 ·obtain⟨r,h1,h2,h3,h4,h5⟩:=hd.each d hd2;refine⟨r,h1,h2,h3,fun ho=>h4 (hown r ho),fun hF=>?_⟩;rcases hFS r hF with h|h
  ·exact h5 h
  exact h4 h
end
theorem Ue [Base] {P:Program} {c:Code} {s:St} {Q:XA->St->Prop} (I:Nat->St->Prop) (hstep: ∀m s,I m s->Goes P c s (andThen (fun s'=> ∃m' s'',m'<m/\Sub s' s''/\I m' s'') Q)) {m:Nat} (h0:I m s):Goes P (.loop c) s Q:=by
 have key: ∀m s,(∃s',Sub s s'/\I m s')->Goes P c s (andThen (fun s'=> ∃m',m'<m/\ ∃s'',Sub s' s''/\I m' s'') Q):=by
  rintro m s ⟨s',hs,hI⟩;refine Goes.sub hs ((hstep m s' hI).imp fun x t ht=>?_)
  cases x with
  |normal=>
   obtain⟨m',s'',h1,h2,h3⟩:=ht;exact⟨m',h1,s'',h2,h3⟩
  |exit id=>exact ht
  |ret=>exact ht
 exact Goes.loop (fun m s=> ∃s',Sub s s'/\I m s') key ⟨s,.refl s,h0⟩
theorem U7 [Base] {P:Program} {c1 c2:Code} {s:St} {Q:XA->St->Prop} {co:Operand} {b:Bool} (hv:yh s.1 co= .bool b) (ht:b=true->Goes P c1 s Q) (hf:b=false->Goes P c2 s Q):Goes P (.cond co c1 c2) s Q:=Goes.cond hv ht hf
def jf [Base] (P:Program) (id:Nat) (ops:Array Oper) (draw:Bool) (s s':St):Prop:= ∀Q:XA->St->Prop,Q .normal s'->Goes P (.region id ops draw) s Q
theorem Goes.cut [Base] {P:Program} {id:Nat} {ops:Array Oper} {draw:Bool} {s s':St} {Q:XA->St->Prop} (h:jf P id ops draw s s') (hq:Q .normal s'):Goes P (.region id ops draw) s Q:=h Q hq
def qsZ [Base] (P:Program) (id:Nat) (ops:Array Oper) (draw:Bool) (s s':St):Prop:= ∀Q:XA->St->Prop,(∀t,Sub t s'->Q .normal t)->Goes P (.region id ops draw) s Q
theorem Goes.cutS [Base] {P:Program} {id:Nat} {ops:Array Oper} {draw:Bool} {s s':St} {Q:XA->St->Prop} (h:qsZ P id ops draw s s') (hq: ∀t,Sub t s'->Q .normal t):Goes P (.region id ops draw) s Q:=h Q hq
theorem jf.sub [Base] {P:Program} {id:Nat} {ops:Array Oper} {draw:Bool} {s t s':St} (h:jf P id ops draw s t) (hs:Sub t s'):qsZ P id ops draw s s':=fun Q hq=>h Q (hq t hs)
theorem jf.reg [Base] {P:Program} {id:Nat} {ops:Array Oper} {draw:Bool} {s:St} (hm:P.follows .mixedOrders=true) (orc:List (Nat×Orc)) (live:List Tmp) {fr':Fr} {A':Heap} {obls:List Obl} (h:qhQ P ops draw orc live s=some (fr',A',obls)) (ho:qdT P obls):jf P id ops draw s (fr',A'):=fun _ hq=>Goes.reg hm orc live h ho hq
theorem Sub.keep [Base] {n:Nat} {l l':List (Nat×AV)} {A:Heap} (ks:List Nat) (hl:asc l=true) (h:l.filter (fun p=>ks.contains p.1)=l'):Sub (ofG n l,A) (ofG n l',A):=by
 intro F0 w0 F nu a w st hfr hd;refine⟨F,nu,st,⟨hfr.size,fun t v hv=>?_,fun t ht=>?_⟩,hd⟩
 ·have h0:=hfr.at_ t v hv
  have hlt:t<n:=by
   have:=(YB.1 hv).1;have h1:=hfr.size;simp only[ofG,Fr.n]at h1;omega
  simp only[ofG,Uw,if_pos hlt]at h0⊢;rcases qj5 (g:=fun _=>AV.undef) (l:=l') (t:=t)with e|⟨a',ha',e⟩
  ·rw[e];exact .undef v
  rw[e];rw[<-h]at ha';have hm:=(List.mem_filter.1 ha').1;rw[qmC hl hm]at h0;exact h0
 simp only[ofG,Fr.n]at ht;simp only[ofG,Uw,if_neg (show¬t<n by omega)]
def Wk (a b:AV):Prop:= ∀(F:Nat->Prop) (nu:Nat->Option Nat) (w:World) (v:Value),R F nu w a v->R F nu w b v
theorem Wk.refl (a:AV):Wk a a:=fun _ _ _ _ h=>h
theorem Wk.nil:Wk .nilslice (.fslice 0 []):=by intro F nu w v h;cases h;exact .fslice0 _ _
def WkL (as bs:List AV):Prop:=as.length=bs.length/\ ∀(j:Nat) (a b:AV),as[j]? =some a->bs[j]? =some b->Wk a b
theorem WkL.nil:WkL [] []:=⟨rfl,by simp⟩
theorem WkL.cons {a b:AV} {as bs:List AV} (h:Wk a b) (hs:WkL as bs):WkL (a::as) (b::bs):=by
 refine⟨by simp[hs.1],fun j x y hx hy=>?_⟩
 cases j with
 |zero=>simp at hx hy;subst hx hy;exact h
 |succ j=>exact hs.2 j x y (by simpa using hx) (by simpa using hy)
theorem WkL.list {as bs:List AV} (h:WkL as bs) {F:Nat->Prop} {nu:Nat->Option Nat} {w:World} {vs:Array Value} (hl:vs.size=as.length) (hR: ∀(i:Nat) (a:AV) (v:Value),as[i]? =some a->vs[i]? =some v->R F nu w a v):
 vs.size=bs.length/\ ∀(i:Nat) (b:AV) (v:Value),bs[i]? =some b->vs[i]? =some v->R F nu w b v:=by
 refine⟨by rw[hl,h.1],fun j b v hb hv=>?_⟩;have hlt:=(Yb.1 hb).1;rw[<-h.1]at hlt;exact h.2 j _ b (Ya hlt) hb F nu w v (hR j _ v (Ya hlt) hv)
theorem Wk.tuple {as bs:List AV} (h:WkL as bs):Wk (.tuple as) (.tuple bs):=by
 intro F nu w v hv
 cases hv with
 |tuple _ vs hl hR=>obtain⟨h1,h2⟩:=h.list hl hR;exact .tuple _ vs h1 h2
theorem Wk.agg {as bs:List AV} (h:WkL as bs):Wk (.agg as) (.agg bs):=by
 intro F nu w v hv
 cases hv with
 |agg _ vs hl hR=>obtain⟨h1,h2⟩:=h.list hl hR;exact .agg _ vs h1 h2
def jw (P:Program) (rs:List ResultVar) (v:AV):XA->St->Prop
 | .exit _,_=>False
 |_,s=> ∃xs v0,jU P s.1 s.2 rs=some xs/\frz s.2 (List.range s.2.length) 12 (qgz xs)=some v0/\Wk v0 v
theorem Ub {P:Program} {c:Code} {f:FuncId} {fn:Func} {args:List AV} {v:AV} {m:Nat} {l:List (Nat×AV)} {rs:List ResultVar} (hf:P.funcs[f]? =some fn) (hn:(fn.name== "runtime.NumGoroutine")=false) (hb:fn.body=some c) (hm:args.length+(fn.ntmps-args.length)=m) (hr:fn.results.toList=rs)
 (hl:frFn m args=ofG m l) (h:Goes P c (ofG m l,[]) (jw P rs v)):qc P (.fn f) args [] v []:=by
 intro F nu w vs i hargs
 have hnu:nu=fun _=>none:=funext fun b=>i.fresh b (Nat.zero_le _)
 subst hnu;subst hr;rw[<-hl]at h;refine .inl ⟨⟨fn,hf,hn,by rw[hb];rfl⟩,?_⟩;refine(callsIn_wide (n:=0)).1 ?_;refine callsIn_of_wp_marks hf hb trivial ?_;refine h F w 0 F (fun _=>none) _ w (.refl i) (RF.frFn hm hargs) .nil _ (fun x s' F' nu' a' w' q st hfr hd=>?_);have post: ∀xs v0,jU P s'.1 s'.2 fn.results.toList=some xs->frz s'.2 (List.range s'.2.length) 12 (qgz xs)=some v0->Wk v0 v->
  LeavesInM (fz none) 0 P fn a'.tmps (fun e w'=> ∃x F' nu',e= .returned x/\Stp F (fun _=>none) [] w F' nu' [] w'/\R F' nu' w' v x) a'.defers .returning w':=by
  intro xs v0 hrs hv hw;refine qhv hrs a'.defers st hfr hd (fun F2 nu2 w2 y st2 hR=>?_);exact⟨y,_,_,rfl,st2.hand,hw _ _ _ _ (qhV st2.inv 12 hv hR)⟩
 cases x with
 |normal=>obtain⟨xs,v0,h1,h2,h3⟩:=q;exact post xs v0 h1 h2 h3
 |ret=>obtain⟨xs,v0,h1,h2,h3⟩:=q;exact post xs v0 h1 h2 h3
 |exit k=>exact q.elim
def FzW (A:Heap) (S:List Nat) (d:Nat) (a b:AV):Prop:= ∃a0,frz A S d a=some a0/\Wk a0 b
def ql (A:Heap) (S:List Nat) (d:Nat) (as bs:List AV):Prop:= ∃l,as.mapM (frz A S d)=some l/\WkL l bs
section
variable {A:Heap} {S:List Nat} {d:Nat}
theorem FzW.of {a b:AV} (h:frz A S d a=some b):FzW A S d a b:=⟨b,h,Wk.refl b⟩
theorem FzW.nil:FzW A S (d+1) .nilslice (.fslice 0 []):=⟨_,rfl,Wk.nil⟩
theorem ql.nil:ql A S d [] []:=⟨[],rfl,WkL.nil⟩
theorem ql.cons {a b:AV} {as bs:List AV} (h:FzW A S d a b) (hs:ql A S d as bs):ql A S d (a::as) (b::bs):=by
 obtain⟨x,h1,h2⟩:=h;obtain⟨l,g1,g2⟩:=hs;exact⟨x::l,by rw[List.mapM_cons,h1,g1];rfl,WkL.cons h2 g2⟩
theorem FzW.tuple {as bs:List AV} (h:ql A S d as bs):FzW A S (d+1) (.tuple as) (.tuple bs):=by
 obtain⟨l,g1,g2⟩:=h;exact⟨.tuple l,by simp only[frz,g1,ZM],Wk.tuple g2⟩
theorem FzW.agg {as bs:List AV} (h:ql A S d as bs):FzW A S (d+1) (.agg as) (.agg bs):=by
 obtain⟨l,g1,g2⟩:=h;exact⟨.agg l,by simp only[frz,g1,ZM],Wk.agg g2⟩
end
theorem Goes.retW {P:Program} {s:St} {rs:List ResultVar} {xs:List AV} {v:AV} (hx:jU P s.1 s.2 rs=some xs) (hf:FzW s.2 (List.range s.2.length) 12 (qgz xs) v):jw P rs v .ret s:=by
 obtain⟨v0,h1,h2⟩:=hf;exact⟨xs,v0,hx,h1,h2⟩
end Go.Av
