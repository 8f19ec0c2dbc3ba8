/-
  What the operations do, told one by one, for walks by simp.
-/
import Derived.Test.YtjflombnfhlkaaaGreatDoorAvOk
import Derived.IntWalk
noncomputable section
namespace Go.Av
set_option linter.unusedSectionVars false
variable [Glob]
def pickGo (c a b:AV):Pg:=match c with
 | .bool t=> .done (if t then a else b)
 |_=> .fail
def wantGo (w:Bool) (v:AV):Option Bool:=match v with
 | .bool b=>some (b==w)
 | .tuple _=>some false
 |_=>none
def extGo (v:AV) (i:Nat):Pg:=match v with
 | .tuple vs=> .opt vs[i]?
 |_=> .fail
section
variable {P:Program} {call:zM} {fr:Fr} {A:Heap} {d:Option Tmp} {ty:TypeId} {ps:String} {af:Array Edge} {g:Option (Nat×Bool)}
end
section
variable {P:Program} {call:zM} {ops:Array Oper} {l:List Oper} {fr:Fr} {A:Heap} {s:St} {Q:XA→St→Prop}
def qjo (P:Program) (o:Oper) (ρ:Operand→AV):Option AV:=
 match zX o ρ with
 |some _=>none
 |none=>match vO o ρ []with
  |[]=>match aop P o ρ with
   | .done v=>some v
   |_=>none
  |_=>none
theorem qjT {o:Oper} {ρ:Operand→AV} (h:zX o ρ=none) (A:Heap):vO o ρ A=vO o ρ []:=by
 unfold vO
 rw[h]
theorem qkv {o:Oper} {ρ:Operand→AV} {v:AV} (h:qjo P o ρ=some v):zX o ρ=none∧(∀A,vO o ρ A=[])∧aop P o ρ= .done v:=by
 unfold qjo at h
 split at h
 ·cases h
 ·rename_i hn
  split at h
  ·rename_i hf
   split at h
   ·rename_i hv
    injection h with h
    subst h
    exact⟨hn,fun A=>(qjT hn A).trans hf,hv⟩
   ·cases h
  ·cases h
def qk6 (o:Oper) (fr:Fr) (k:Fr→Prop):Option Bool→Option AV→Prop
 |some true,some v=>k (qaM fr o.dst v)
 |some false,_=>k (qaM fr o.dst (.tuple []))
 |_,_=>False
def Looks (P:Program) (ops:Array Oper):List Oper→Fr→(Fr→Prop)→Prop
 |[],fr,K=>K fr
 |o::l,fr,K=>qk6 o fr (fun fr'=>Looks P ops l fr' K) (vC ops o (maskF (zN ops o) fr)) (qjo P o (jv (maskF (zN ops o) fr)))
theorem Looks.look: ∀(l:List Oper) {fr:Fr} {K:Fr→Prop},Looks P ops l fr K→qjN P ops l fr K:=by
 intro l
 induction l with
 |nil=>intro fr K h;exact h
 |cons o l ih=>
  intro fr K h
  have h:qk6 o fr (fun fr'=>Looks P ops l fr' K) (vC ops o (maskF (zN ops o) fr)) (qjo P o (jv (maskF (zN ops o) fr))):=h
  cases hw:vC ops o (maskF (zN ops o) fr)with
  |none=>rw[hw]at h;exact h.elim
  |some w=>
   rw[hw]at h
   cases w with
   |false=>exact .inl ⟨hw,ih h⟩
   |true=>
    cases hv:qjo P o (jv (maskF (zN ops o) fr))with
    |none=>rw[hv]at h;exact h.elim
    |some v=>
     rw[hv]at h
     obtain⟨h1,h2,h3⟩:=qkv hv
     exact .inr ⟨hw,h1,h2,v,h3,ih h⟩
theorem Goes.looks (hm:P.follows .mixedOrders=true) {id:Nat} (hs:qgG ops=true) (h:Looks P ops ops.toList s.1 fun fr=>Q .normal (fr,s.2)):Goes P (.region id ops true) s Q:=
 Goes.look hm hs (Looks.look _ h)
def maskG (n:Nat) (ts:List Tmp) (g:Nat→AV) (t:Nat):AV:=if t∈ts then(if t<n then g t else .undef)else .undef
end
section
variable {P:Program} {d:Option Tmp} {ty:TypeId} {ps:String} {af:Array Edge} {g:Option (Nat×Bool)} {ρ:Operand→AV}
def lookP (r:List Nat) (p:Pg):Option AV:=match r with
 |[]=>match p with
  | .done v=>some v
  |_=>none
 |_=>none
end
def qni (tbl:FuncId→List AV→Option AV):zM:=fun c args A=>match c with
 | .fn f=>match A with
   |[]=>(tbl f args).map fun v=>(v,[])
   |_::_=>none
 | .rd _=>none
 | .mt _ _=>none
theorem qnC {P:Program} {tbl:FuncId→List AV→Option AV} (h: ∀f args v,tbl f args=some v→qf P (.fn f) args [] v []):zg P (qni tbl):=by
 intro c args A v A' he
 cases c with
 |rd b=>cases he
 |mt t m=>cases he
 |fn f=>
  cases A with
  |cons x A=>cases he
  |nil=>
   obtain⟨x,hx,hr⟩:=Option.map_eq_some_iff.1 he
   simp only[Prod.mk.injEq]at hr
   obtain⟨rfl,rfl⟩:=hr
   exact h f args _ hx
def callT (tbl:FuncId→List AV→Option AV):zM:=qhS (qni tbl) fun _=>true
def Still (d:Nat) (a:AV):Prop:= ∀(A:Heap) (S:List Nat),frz A S d a=some a
theorem jT {A:Heap} {S:List Nat} {d:Nat}: ∀{cs:List AV},(∀c∈cs,Still d c)→cs.mapM (frz A S d)=some cs:=by
 intro cs
 induction cs with
 |nil=>intro _;rfl
 |cons c cs ih=>
  intro h
  rw[List.mapM_cons,h c (by simp) A S,ih fun x hx=>h x (by simp[hx])]
  rfl
theorem Still.int (d:Nat) (k:IntKind) (n:Int):Still (d+1) (.int k n):=fun _ _=>rfl
theorem Still.bool (d:Nat) (b:Bool):Still (d+1) (.bool b):=fun _ _=>rfl
theorem Still.str (d:Nat) (b:List UInt8):Still (d+1) (.str b):=fun _ _=>rfl
theorem Still.nilslice (d:Nat):Still (d+1) .nilslice:=fun _ _=>rfl
theorem Still.fslice {d n:Nat} {cs:List AV} (h: ∀c∈cs,Still d c):Still (d+1) (.fslice n cs):=fun A S=>by
 simp only[frz,jT h,Option.map_some]
theorem Still.agg {d:Nat} {cs:List AV} (h: ∀c∈cs,Still d c):Still (d+1) (.agg cs):=fun A S=>by
 simp only[frz,jT h,Option.map_some]
theorem Still.tuple {d:Nat} {cs:List AV} (h: ∀c∈cs,Still d c):Still (d+1) (.tuple cs):=fun A S=>by
 simp only[frz,jT h,Option.map_some]
end Go.Av
