/-
  Contracts: tables of calls whose results are known; the bridge from the machine's contracts on scalars.
-/
import Derived.Test.YtjflombnfhlkaaaGreatDoorAvPureB
noncomputable section
namespace Go.Av
set_option linter.unusedSectionVars false
variable [Glob]
open Go.RowKit
def orElse (a b:zM):zM:=fun c args A=>match a c args A with
 |some r=>some r
 |none=>b c args A
def only(f:FuncId) (spec:List AV→Option AV):zM:=fun c args A=>match c with
 | .fn g=>if g=f then(spec args).map fun v=>(v,A)else none
 | .rd _=>none
 | .mt _ _=>none
def qdS:zM:=fun _ _ _=>none
section
variable {P:Program}
theorem qep:zg P qdS:=fun _ _ _ _ _ h=>by cases h
theorem qlB {a b:zM} (ha:zg P a) (hb:zg P b):zg P (orElse a b):=by
 intro c args A v A' h
 unfold orElse at h
 split at h
 ·rename_i r hr
  injection h with h
  subst h
  exact ha _ _ _ _ _ hr
 ·exact hb _ _ _ _ _ h
section
variable {F:Nat→Prop} {nu:Nat→Option Nat} {A:Heap} {w:World}
theorem Stp.kept (i:Inv F nu A w) {w':World} (hk: ∀rb,rb<w.heap.size→w'.heap[rb]? =w.heap[rb]?) (hs:w.heap.size≤w'.heap.size) (ho:w'.os=w.os) (ht:w'.tape=w.tape) (hp:w'.output=w.output):Stp F nu A w F nu A w':=by
 have shape: ∀rb s,w.shape? rb=some s→w'.shape? rb=some s:=by
  intro rb s h
  have hlt:rb<w.heap.size:=by
   rcases Nat.lt_or_ge rb w.heap.size with h1|h1
   ·exact h1
   ·simp[World.shape?,Array.getElem?_eq_none h1]at h
  rw[←h]
  simp only[World.shape?,hk rb hlt]
 have x:Ext F nu w F nu w':=⟨fun _ h=>h,fun _ _ h=>h,fun rb h=>hk rb (i.ltF rb h),shape⟩
 exact⟨x.f,x.n,x.shape,⟨fun b rb k hb hA=>(i.blk b rb k hb hA).mono x (hk rb (i.ltN b rb hb)) id,i.inj,i.fresh,fun rb h=>Nat.lt_of_lt_of_le (i.ltF rb h) hs,fun b rb h=>Nat.lt_of_lt_of_le (i.ltN b rb h) hs,Glob.ext i.glob x⟩,
  fun rb hlt _=>hk rb hlt,fun _ _ h=>h,hs,ho,ht,hp,fun _ _=>rfl,Nat.le_refl _,fun _ h=> .inl h⟩
end
structure Kept (w w':World):Prop where
 heap: ∀rb,rb<w.heap.size→w'.heap[rb]? =w.heap[rb]?
 size:w.heap.size≤w'.heap.size
 os:w'.os=w.os
 tape:w'.tape=w.tape
 output:w'.output=w.output
theorem Kept.refl (w:World):Kept w w:=⟨fun _ _=>rfl,Nat.le_refl _,rfl,rfl,rfl⟩
theorem Kept.trans {a b c:World} (h:Kept a b) (k:Kept b c):Kept a c:=
 ⟨fun rb hlt=>(k.heap rb (Nat.lt_of_lt_of_le hlt h.size)).trans (h.heap rb hlt),Nat.le_trans h.size k.size,k.os.trans h.os,k.tape.trans h.tape,k.output.trans h.output⟩
theorem Kept.alloc {w w1:World} (h:Kept w w1) (o:Obj):Kept w (w1.alloc o):=
 h.trans ⟨fun rb hlt=>Go.heap_alloc_old w1 o rb hlt,by simp,rfl,rfl,rfl⟩
theorem Kept.drew {w w1:World} (h:Kept w w1):Kept w w1.drew:=h.trans ⟨fun _ _=>rfl,Nat.le_refl _,rfl,rfl,rfl⟩
inductive qmi:AV→Value→Prop
 |int (k:IntKind) (n:Int):qmi (.int k n) (.int k n)
 |bool (b:Bool):qmi (.bool b) (.bool b)
 |str (s:ByteArray):qmi (.str s.data.toList) (.string s)
theorem qmi.R {F:Nat→Prop} {nu:Nat→Option Nat} {w:World} {a:AV} {v:Value} (h:qmi a v):R F nu w a v:=by
 cases h with
 |int k n=>exact .int _ _
 |bool b=>exact .bool _
 |str s=>exact .str _ _ rfl
theorem qf.ofCalls {f:FuncId} {args:List AV} {v:AV} (he:Enters P f)
 (h: ∀F nu w (vs:Array Value),Glob.G F w→RL F nu w args vs→ ∃x,R (fun _=>False) (fun _=>none) w v x∧Calls P f vs w fun e w'=>e= .returned x∧Kept w w') (A:Heap):qf P (.fn f) args A v A:=by
 intro F nu w vs i hargs
 obtain⟨x,hR,hc⟩:=h F nu w vs i.glob hargs
 refine .inl ⟨he,hc.mono ?_⟩
 rintro e w' ⟨rfl,hk⟩
 have st:=Stp.kept i hk.heap hk.size hk.os hk.tape hk.output
 exact⟨x,F,nu,rfl,st,hR.mono ⟨fun _ h=>h.elim,by simp,fun _ h=>h.elim,st.shape⟩⟩
end
theorem RL.cons_inv {F:Nat→Prop} {nu:Nat→Option Nat} {w:World} {a:AV} {as:List AV} {vs:Array Value} (h:RL F nu w (a::as) vs): ∃(v:Value) (ws:List Value),vs=(v::ws).toArray∧R F nu w a v∧RL F nu w as ws.toArray:=by
 obtain⟨h1,h2⟩:=h
 obtain⟨l⟩:=vs
 cases l with
 |nil=>simp at h1
 |cons v ws=>
  refine⟨v,ws,rfl,h2 0 a v rfl rfl,by simpa using h1,fun i b y hb hy=>h2 (i+1) b y (by simpa using hb) (by simpa using hy)⟩
theorem RL.nil_inv {F:Nat→Prop} {nu:Nat→Option Nat} {w:World} {ws:List Value} (h:RL F nu w [] ws.toArray):ws=[]:=by
 have:=h.1
 simpa using this
theorem R.int_inv {F:Nat→Prop} {nu:Nat→Option Nat} {w:World} {k:IntKind} {n:Int} {v:Value} (h:R F nu w (.int k n) v):v= .int k n:=by cases h;rfl
theorem R.bool_inv {F:Nat→Prop} {nu:Nat→Option Nat} {w:World} {b:Bool} {v:Value} (h:R F nu w (.bool b) v):v= .bool b:=by cases h;rfl
theorem R.str_inv {F:Nat→Prop} {nu:Nat→Option Nat} {w:World} {s:List UInt8} {v:Value} (h:R F nu w (.str s) v): ∃b:ByteArray,v= .string b∧b.data.toList=s:=by
 cases h with
 |str b l hl=>exact⟨b,rfl,hl⟩
end Go.Av
