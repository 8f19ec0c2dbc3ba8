/-
  Abstract values: a value language without addresses of the machine, and what it means that a value of the machine
  is told by an abstract one. Parametric in the program.
-/
import Derived.Calls
import Derived.Orders
import Derived.Below
import Derived.Laws.World
import Derived.RangeFuncRecord
noncomputable section
namespace Go.Av
abbrev aa:=@if_neg
abbrev ae:=@if_pos
abbrev ag:=@Nat.le_refl
abbrev ah:=@decide_eq_false
abbrev ai:=@decide_eq_true
abbrev aj:=@List.take_of_length_le
abbrev ak:=@Nat.lt_or_ge
abbrev ap:=@congrArg
abbrev aq:=@Int.le_of_lt
abbrev ar:=@Int.emod_lt_of_pos
abbrev aw:=@Int.mul_ediv_add_emod
abbrev az:=@Nat.zero_add
abbrev aA:=@List.drop_of_length_le
abbrev aB:=@Int.mul_le_mul_of_nonneg_right
abbrev aC:=@Int.emod_nonneg
abbrev aD:=@Int.mul_comm
abbrev aE:=@Int.pow_succ
abbrev aF:=@Nat.zero_le
abbrev aG:=@Option.bind_eq_some_iff
abbrev aH:=@decide_eq_true_eq
abbrev aI:=@Bool.and_eq_true
abbrev aJ:=@if_true
abbrev aK:=@of_decide_eq_true
abbrev aL:=@Int.toNat_natCast
abbrev aM:=@Int.ediv_nonneg
abbrev aN:=@Nat.mul_le_mul_right
abbrev aO:=@Int.mul_zero
abbrev aP:=@Nat.min_eq_left
abbrev aQ:=@Nat.lt_succ_self
abbrev aR:=@Nat.ne_of_beq_eq_false
abbrev aS:=@Int.natAbs_natCast
abbrev aT:=@Int.add_zero
abbrev aU:=@if_false
abbrev aV:=@Int.add_mul
abbrev aW:=@Option.isSome_none
abbrev aX:=@Nat.le_trans
abbrev aY:=@Nat.add_zero
abbrev aZ:=@Int.natCast_mul
abbrev ba:=@Int.tmod_eq_emod_of_nonneg
abbrev bc:=@Int.eq_ofNat_of_zero_le
abbrev be:=@List.length_nil
abbrev bf:=@Nat.zero_mul
abbrev bh:=@List.take_zero
abbrev bi:=@Int.add_mul_emod_self_left
abbrev bj:=@Nat.eq_zero_or_pos
abbrev bm:=@Int.natAbs_mul
abbrev bn:=@List.nil_append
abbrev bo:=@List.length_map
abbrev bp:=@List.foldl_cons
abbrev bq:=@List.getElem_mem
abbrev bu:=@Int.one_mul
abbrev bw:=@List.length_singleton
abbrev bx:=@List.set_set
abbrev bz:=@List.flatMap_cons
abbrev bA:=@Int.emod_eq_of_lt
abbrev bB:=@Int.mul_le_mul
abbrev bC:=@Nat.pow_le_pow_right
abbrev bE:=@List.set_append_left
abbrev bG:=@beq_iff_eq
abbrev bH:=@Nat.ble_eq_true_of_le
abbrev bI:=@Rat.intCast_mul
abbrev bJ:=@List.take_length
abbrev bK:=@List.mem_cons
abbrev bL:=@Nat.pow_succ
abbrev bM:=@Int.le_ediv_iff_mul_le
abbrev bN:=@Int.mul_one
abbrev bO:=@Option.getD_none
abbrev bP:=@List.all_cons
abbrev bQ:=@Bool.eq_iff_iff
abbrev bR:=@Nat.sub_self
abbrev bS:=@Int.lt_or_le
abbrev bT:=@Int.gcd_pos_of_ne_zero_left
abbrev bU:=@Int.le_refl
abbrev bV:=@List.mapM_cons
abbrev bW:=@Nat.lt_of_lt_of_le
abbrev bX:=@List.length_replicate
abbrev bY:=@and_self
abbrev cd:=@Nat.mul_comm
abbrev ce:=@Int.pow_zero
abbrev cf:=@List.take_succ_eq_append_getElem
abbrev cg:=@List.set_comm
abbrev ci:=@Nat.exists_eq_add_of_le'
abbrev cj:=@List.length_pos_iff
abbrev cm:=@Array.length_toList
abbrev cn:=@List.mem_range
abbrev cr:=@Int.mul_emod_mul_of_pos
abbrev cw:=@List.eq_nil_of_length_eq_zero
abbrev cx:=@List.drop_append_of_le_length
abbrev cy:=@Int.le_trans
abbrev cz:=@List.mem_append
abbrev cA:=@Int.natCast_pow
abbrev cC:=@Int.natCast_add
abbrev cD:=@List.set_append_right
abbrev cE:=@Int.add_mul_ediv_left
abbrev cF:=@Nat.mul_one
abbrev cG:=@Int.mul_pos
abbrev cH:=@Int.ofNat_eq_natCast
abbrev cI:=@Bool.or_eq_false_iff
abbrev cJ:=@Int.natAbs_sign_of_ne_zero
abbrev cK:=@List.cons_append
abbrev cL:=@Int.natCast_ediv
abbrev cM:=@Int.lt_of_mul_lt_mul_left
abbrev cN:=@Bool.true_and
abbrev cO:=@of_decide_eq_false
abbrev cP:=@decide_eq_false_iff_not
abbrev cQ:=@Rat.zero_mul
abbrev cR:=@Nat.sub_zero
abbrev cS:=@Rat.num_divInt
abbrev cT:=@Rat.den_divInt
abbrev cU:=@Nat.mul_le_mul
abbrev cV:=@Bool.not_eq_true'
abbrev cW:=@Array.size_append
abbrev cX:=@List.length_eq_one_iff
abbrev cY:=@Int.sign_eq_one_of_pos
abbrev cZ:=@Int.ediv_eq_zero_of_lt
abbrev da:=@Nat.eq_of_beq_eq_true
abbrev db:=@List.drop_append
abbrev dc:=@Bool.not_eq_true
abbrev de:=@Nat.one_mul
abbrev dh:=@List.mem_of_mem_take
abbrev di:=@Array.size_replicate
abbrev dj:=@List.take_append_of_le_length
abbrev dl:=@Bool.or_eq_true
abbrev dn:=@List.take_succ_cons
abbrev dp:=@List.drop_succ_cons
abbrev dq:=@Int.zero_add
abbrev dr:=@Int.sub_zero
abbrev dw:=@Int.ofNat_lt
abbrev dx:=@Int.gcd_zero
abbrev dy:=@Int.negSucc_eq
abbrev dz:=@Int.natAbs_neg
abbrev dA:=@Int.lt_of_lt_of_le
abbrev dB:=@Int.sign_eq_neg_one_of_neg
abbrev dC:=@Int.lt_of_mul_lt_mul_right
abbrev dD:=@Int.fdiv_eq_ediv_of_nonneg
abbrev dE:=@Nat.lt_trichotomy
abbrev dF:=@Option.isSome_iff_exists
abbrev dG:=@List.isEmpty_iff
abbrev dH:=@Nat.add_sub_cancel_left
abbrev dI:=@Nat.succ_mul
abbrev dJ:=@List.getElem_replicate
abbrev dK:=@Rat.num_intCast
abbrev dL:=@List.map_append
abbrev dM:=@Int.ediv_mul_le
abbrev dN:=@List.getElem_set_self
abbrev dO:=@Int.pow_one
abbrev dP:=@Option.map_map
abbrev dQ:=@List.replicate_succ
abbrev dR:=@List.flatten_append
abbrev dS:=@Array.toList_append
abbrev dT:=@Nat.mod_lt
abbrev dV:=@UInt8.toNat_ofNat'
abbrev dW:=@Option.isSome_some
abbrev dX:=@List.pairwise_cons
abbrev dY:=@List.mem_cons_self
abbrev dZ:=@Int.mul_nonpos_of_nonpos_of_nonneg
abbrev ee:=@Int.mul_nonpos_of_nonneg_of_nonpos
abbrev ef:=@List.map_set
abbrev eh:=@List.all_nil
abbrev eo:=@Int.emod_def
abbrev eA:=@List.size_toArray
abbrev eB:=@Nat.mod_eq_of_lt
abbrev eC:=@Nat.min_le_right
abbrev eE:=@Nat.div_eq_of_lt
abbrev eF:=@List.take_append
abbrev eG:=@List.filter_cons
abbrev eH:=@List.any_eq_true
abbrev eI:=@Int.ediv_le_self
abbrev eJ:=@Rat.one_mul
abbrev eL:=@Rat.den_intCast
abbrev eM:=@Option.pure_def
abbrev eO:=@List.range_succ
abbrev eP:=@List.mem_filter
abbrev eR:=@Int.lt_ediv_add_one_mul_self
abbrev eS:=@and_true
abbrev eT:=@List.foldl_nil
abbrev eW:=@List.drop_drop
abbrev eX:=@Bool.false_and
abbrev eY:=@Nat.eq_of_mul_eq_mul_right
theorem Ya.{u_1} : ∀ {α : Type u_1} {l : List α} {i : Nat} (h : i < l.length), l[i]? = some l[i] := @List.getElem?_eq_getElem
theorem Yb.{u_1} : ∀ {α : Type u_1} {i : Nat} {a : α} {l : List α}, l[i]? = some a ↔ ∃ h, l[i] = a := @List.getElem?_eq_some_iff
theorem Yc : ∀ {a b c : Int}, a ≤ b → 0 ≤ c → c * a ≤ c * b := @Int.mul_le_mul_of_nonneg_left
theorem Yd.{u_1, u_2} : ∀ {α : Type u_1} {b : α} {α_1 : Type u_2} {x : Option α_1} {f : α_1 → α}, Option.map f x = some b ↔ ∃ a, x = some a ∧ f a = b := @Option.map_eq_some_iff
theorem Ye.{u_1} : ∀ {α : Type u_1} {val val_1 : α}, some val = some val_1 → val = val_1 := @Option.some.inj
theorem Yf.{u_1} : ∀ {α : Type u_1} {l₁ l₂ : List α} {i : Nat}, i < l₁.length → (l₁ ++ l₂)[i]? = l₁[i]? := @List.getElem?_append_left
theorem Yg.{u_1} : ∀ {α : Type u_1} {l : List α} {i : Nat}, l.length ≤ i → l[i]? = none := @List.getElem?_eq_none
theorem Yi.{u_1} : ∀ {α : Type u_1} {xs : Array α} {i : Nat} (h : i < xs.size), xs[i]? = some xs[i] := @Array.getElem?_eq_getElem
theorem Yj.{u_1} : ∀ {α : Type u_1} {a : α} {l : List α}, (a :: l)[0]? = some a := @List.getElem?_cons_zero
theorem Yk.{u_1} : ∀ {α : Type u_1} {«as» : List α} {i : Nat} {a : α}, («as».set i a).length = «as».length := @List.length_set
theorem Ym.{u_1} : ∀ {α : Type u_1} {i : Nat} {l : List α}, (List.take i l).length = min i l.length := @List.length_take
theorem Yn.{u_1} : ∀ {α : Type u_1} {l : List α} {i : Nat} {a : α}, l[i]? = some a → a ∈ l := @List.mem_of_getElem?
theorem Yo.{u_1} : ∀ {α : Type u_1} {l₁ l₂ : List α} {i : Nat}, l₁.length ≤ i → (l₁ ++ l₂)[i]? = l₂[i - l₁.length]? := @List.getElem?_append_right
theorem Yp.{u_1} : ∀ {α : Type u_1} {p : α → Bool} {l : List α}, l.all p = true ↔ ∀ (x : α), x ∈ l → p x = true := @List.all_eq_true
theorem Yq.{u_1} : ∀ {α : Type u_1} {«as» bs : List α}, («as» ++ bs).length = «as».length + bs.length := @List.length_append
theorem Yr.{u_1} : ∀ {α : Type u_1} {a : α} {«as» : List α}, (a :: «as»).length = «as».length + 1 := @List.length_cons
theorem Ys : ∀ {n m : Nat}, n.ble m = true → n ≤ m := @Nat.le_of_ble_eq_true
theorem Yt.{u_1} : ∀ {α : Type u_1} {l : List α} {i j : Nat}, (List.take i l)[j]? = if j < i then l[j]? else none := @List.getElem?_take
theorem Yu : ∀ {a b c : Int}, 0 < c → (a / c < b ↔ a < b * c) := @Int.ediv_lt_iff_lt_mul
theorem Yv : ∀ {a b : Int}, 0 ≤ a → 0 ≤ b → 0 ≤ a * b := @Int.mul_nonneg
theorem Yw.{u_1} : ∀ {α : Type u_1} {l : List α} {i j : Nat}, i ≠ j → ∀ {a : α}, (l.set i a)[j]? = l[j]? := @List.getElem?_set_ne
theorem Yy.{u_1} : ∀ {α : Type u_1} {l : List α} {i : Nat} {a : α}, l.getD i a = l[i]?.getD a := @List.getD_eq_getElem?_getD
theorem Yz.{u_1} : ∀ {α : Type u_1} («as» bs cs : List α), «as» ++ bs ++ cs = «as» ++ (bs ++ cs) := @List.append_assoc
theorem YA.{u_1, u_2} : ∀ {α : Type u_1} {β : Type u_2} {f : α → β} {l : List α} {i : Nat}, (List.map f l)[i]? = Option.map f l[i]? := @List.getElem?_map
theorem YB.{u_1} : ∀ {α : Type u_1} {i : Nat} {b : α} {xs : Array α}, xs[i]? = some b ↔ ∃ h, xs[i] = b := @Array.getElem?_eq_some_iff
theorem YC.{u_1} : ∀ {α : Type u_1} {xs ys : Array α} {i : Nat}, i < xs.size → (xs ++ ys)[i]? = xs[i]? := @Array.getElem?_append_left
theorem YD.{u_1} : ∀ {α : Type u_1} {xs : Array α} {i : Nat} {f : α → α} {j : Nat}, (xs.modify i f)[j]? = if i = j then Option.map f xs[j]? else xs[j]? := @Array.getElem?_modify
theorem YF : ∀ {a b : Int}, 0 ≤ a → a.tdiv b = a / b := @Int.tdiv_eq_ediv_of_nonneg
theorem YG.{u_1} : ∀ {α : Type u_1} {i : Nat} {l : List α} (h : i < l.length), List.drop i l = l[i] :: List.drop (i + 1) l := @List.drop_eq_getElem_cons
theorem YH : ∀ {a b c : Int}, a < b → 0 < c → a * c < b * c := @Int.mul_lt_mul_of_pos_right
theorem YI.{u_1} : ∀ {α : Type u_1} {xs : List α} {i j : Nat}, (List.drop i xs)[j]? = xs[i + j]? := @List.getElem?_drop
theorem YJ.{u_1} : ∀ {α : Type u_1} {i : Nat} {l : List α}, (List.drop i l).length = l.length - i := @List.length_drop
theorem YL.{u_1} : ∀ {α : Type u_1} {l : List α}, l.length = 0 ↔ l = [] := @List.length_eq_zero_iff
theorem YN.{u_1} : ∀ {α : Type u_1} {a b : α}, (some a).getD b = a := @Option.getD_some
theorem YQ.{u_1} : ∀ {α : Type u_1} («as» : List α), «as» ++ [] = «as» := @List.append_nil
theorem YR.{u_1} : ∀ {α : Type u_1} {l : List α}, List.drop 0 l = l := @List.drop_zero
theorem YS.{u_1} : ∀ {α : Type u_1} (i : Nat) (l : List α), List.take i l ++ List.drop i l = l := @List.take_append_drop
theorem YT.{u_1} : ∀ {α : Type u_1} {xs : Array α} {i : Nat}, xs.toList[i]? = xs[i]? := @Array.getElem?_toList
theorem ZB {α β : Type _} {a : α} {f : α -> Option β} : (some a).bind f = f a := rfl
theorem ZI {α : Type _} {a b : α} : (some a = some b) = (a = b) := propext ⟨Ye, ap some⟩
theorem ZP {α β : Type _} {a c : α} {b d : β} : ((a, b) = (c, d)) = (a = c /\ b = d) := propext ⟨λh => ⟨ap Prod.fst h, ap Prod.snd h⟩, λh => by rw [h.1, h.2]⟩
theorem ZM {α β : Type _} {a : α} {f : α -> β} : (some a).map f = some (f a) := rfl
theorem ZF : (false = true) = False := propext ⟨λh => (nomatch h), False.elim⟩
set_option linter.unusedSectionVars false
open Go.RowKit
inductive AV where
 |undef
 |bool (b:Bool)
 |int (k:IntKind) (n:Int)
 |str (s:List UInt8)
 |nilptr
 |ptr (b off:Nat)
 |fptr (cells:List AV) (off:Nat)
 |nilslice
 |slice (b off len cap esz:Nat)
 |oslice (b len esz:Nat)
 |gslice (b len esz:Nat)
 |wslice (b off len esz:Nat)
 |fslice (len:Nat) (cells:List AV)
 |nilmap
 |map (b:Nat)
 |fmap (keys vals:List AV)
 |func (fn:Fn) (first captured:List AV)
 |yld (b:Nat)
 |nilfunc
 |iface (t:TypeId) (v:AV)
 |niliface
 |agg (cells:List AV)
 |tuple (vs:List AV)
 |anyb
 deriving Inhabited
inductive Tr where
 |leaf (v:AV)
 |node (a b c d:Tr)
 deriving Inhabited
def Tr.get (x:Tr):Nat->AV:=
 Tr.rec (motive:=λ_=>Nat->AV) (λv t=>Bool.rec (motive:=λ_=>AV) .undef v (Nat.beq t 0))
  (λ_ _ _ _ ga gb gc gd t=>Bool.rec (motive:=λ_=>Nat->AV) (Bool.rec (motive:=λ_=>Nat->AV) ga gb (Nat.beq (Nat.mod t 2) 1)) (Bool.rec (motive:=λ_=>Nat->AV) gc gd (Nat.beq (Nat.mod t 2) 1)) (Nat.ble 2 (Nat.mod t 4)) (Nat.div t 4)) x
def Tr.set (x:Tr):Nat->AV->Tr:=
 Tr.rec (motive:=λ_=>Nat->AV->Tr) (λv t a=>Bool.rec (motive:=λ_=>Tr) (.leaf v) (.leaf a) (Nat.beq t 0))
  (λa b c d ga gb gc gd t v=>Bool.rec (motive:=λ_=>Tr)
   (Bool.rec (motive:=λ_=>Tr) (.node (ga (Nat.div t 4) v) b c d) (.node a (gb (Nat.div t 4) v) c d) (Nat.beq (Nat.mod t 2) 1))
   (Bool.rec (motive:=λ_=>Tr) (.node a b (gc (Nat.div t 4) v) d) (.node a b c (gd (Nat.div t 4) v)) (Nat.beq (Nat.mod t 2) 1)) (Nat.ble 2 (Nat.mod t 4))) x
def Uk:Nat->Tr
 |0=> .leaf .undef
 |d+1=> .node (Uk d) (Uk d) (Uk d) (Uk d)
def Ux (n:Nat):Nat:=cond (Nat.ble n 16) 2 (cond (Nat.ble n 64) 3 (cond (Nat.ble n 256) 4 6))
inductive Fr where
 |tree (n:Nat) (tr:Tr)
 |fn (n:Nat) (g:Nat->AV)
 deriving Inhabited
def Fr.n:Fr->Nat
 | .tree n _=>n
 | .fn n _=>n
def Fr.get:Fr->Nat->AV
 | .tree _ tr,t=>tr.get t
 | .fn n g,t=>cond (Nat.blt t n) (g t) .undef
def qgG (g:Nat->AV) (t:Nat) (a:AV) (u:Nat):AV:=cond (Nat.beq u t) a (g u)
def Fr.set:Fr->Nat->AV->Fr
 | .tree n tr,t,a=>cond (Nat.blt t n) (.tree n (tr.set t a)) (.tree n tr)
 | .fn n g,t,a=> .fn n (qgG g t a)
def Fr.blank:Fr->Fr
 | .tree n _=> .tree n (Uk (Ux n))
 | .fn n _=> .fn n λ_=> .undef
theorem qdz {a b:Nat} (h:a≠b):Nat.beq a b=false:=by
 cases e:Nat.beq a b with
 |false=>rfl
 |true=>exact absurd (da e) h
theorem qfu {a b:Nat} (h:a=b):Nat.beq a b=true:=by
 subst h;exact Nat.beq_refl a
theorem Uw (v:AV) (t:Nat):(Tr.leaf v).get t=cond (Nat.beq t 0) v .undef:=by
 unfold Tr.get;cases h:Nat.beq t 0<;>simp only[h,cond_true,cond_false]
theorem Tr.set_leaf (v:AV) (t:Nat) (a:AV):(Tr.leaf v).set t a=cond (Nat.beq t 0) (.leaf a) (.leaf v):=by
 unfold Tr.set;cases h:Nat.beq t 0<;>simp only[h,cond_true,cond_false]
def Tr.kid:Tr->Nat->Tr
 | .leaf v,_=> .leaf v
 | .node a b c d,r=>if r=0 then a else if r=1 then b else if r=2 then c else d
def Tr.turn:Tr->Nat->(Tr->Tr)->Tr
 | .leaf v,_,_=> .leaf v
 | .node a b c d,r,f=>if r=0 then .node (f a) b c d else if r=1 then .node a (f b) c d else if r=2 then .node a b (f c) d else .node a b c (f d)
theorem digits (t:Nat):(Nat.mod t 4=0/\Nat.ble 2 (Nat.mod t 4)=false/\Nat.beq (Nat.mod t 2) 1=false)\/(Nat.mod t 4=1/\Nat.ble 2 (Nat.mod t 4)=false/\Nat.beq (Nat.mod t 2) 1=true)\/
 (Nat.mod t 4=2/\Nat.ble 2 (Nat.mod t 4)=true/\Nat.beq (Nat.mod t 2) 1=false)\/(Nat.mod t 4=3/\Nat.ble 2 (Nat.mod t 4)=true/\Nat.beq (Nat.mod t 2) 1=true):=by
 have e4:Nat.mod t 4=t%4:=rfl;have e2:Nat.mod t 2=t%2:=rfl;rw[e4,e2]
 have h:t%4=0\/t%4=1\/t%4=2\/t%4=3:=by omega
 rcases h with h|h|h|h
 ·have:t%2=0:=by omega
  rw[h,this];exact .inl ⟨rfl,rfl,rfl⟩
 ·have:t%2=1:=by omega
  rw[h,this];exact .inr (.inl ⟨rfl,rfl,rfl⟩)
 ·have:t%2=0:=by omega
  rw[h,this];exact .inr (.inr (.inl ⟨rfl,rfl,rfl⟩))
 have:t%2=1:=by omega
 rw[h,this];exact .inr (.inr (.inr ⟨rfl,rfl,rfl⟩))
theorem Uy (a b c d:Tr) (t:Nat):(Tr.node a b c d).get t=((Tr.node a b c d).kid (Nat.mod t 4)).get (Nat.div t 4):=by
 conv=>lhs;unfold Tr.get
 simp only;rcases digits t with⟨h,h1,h2⟩|⟨h,h1,h2⟩|⟨h,h1,h2⟩|⟨h,h1,h2⟩<;>simp only[h1,h2]<;>rw[h]<;>rfl
theorem Tr.set_node (a b c d:Tr) (t:Nat) (v:AV):(Tr.node a b c d).set t v=(Tr.node a b c d).turn (Nat.mod t 4) λx=>x.set (Nat.div t 4) v:=by
 conv=>lhs;unfold Tr.set
 simp only;rcases digits t with⟨h,h1,h2⟩|⟨h,h1,h2⟩|⟨h,h1,h2⟩|⟨h,h1,h2⟩<;>simp only[h1,h2]<;>rw[h]<;>rfl
theorem Tr.get_set_other: ∀(x:Tr) (t u:Nat) (a:AV),t≠u->(x.set t a).get u=x.get u:=by
 intro x
 induction x with
 |leaf v=>
  intro t u a h;rw[Tr.set_leaf]
  cases ht:Nat.beq t 0 with
  |false=>rfl
  |true=>
   have e:=da ht;have hu:Nat.beq u 0=false:=qdz (by omega);simp only[cond_true,Uw,hu,cond_false]
 |node x0 x1 x2 x3 ih0 ih1 ih2 ih3=>
  intro t u a h;rw[Tr.set_node,Uy];have et:Nat.mod t 4=t%4:=rfl;have eu:Nat.mod u 4=u%4:=rfl;have dt:Nat.div t 4=t/4:=rfl;have du:Nat.div u 4=u/4:=rfl
  have ht:t%4=0\/t%4=1\/t%4=2\/t%4=3:=by omega
  have hu:u%4=0\/u%4=1\/u%4=2\/u%4=3:=by omega
  rw[et,dt];rcases ht with ht|ht|ht|ht<;>rcases hu with hu|hu|hu|hu<;>
   simp only[ht,hu,eu,du,Tr.turn,Tr.kid,Uy,aJ,aU,Nat.reduceEqDiff]<;>
   first
    |rfl
    |exact ih0 _ _ _ (by omega)
    |exact ih1 _ _ _ (by omega)
    |exact ih2 _ _ _ (by omega)
    |exact ih3 _ _ _ (by omega)
theorem Tr.get_set_same: ∀(x:Tr) (t:Nat) (a:AV),(x.set t a).get t=a\/(x.set t a).get t= .undef:=by
 intro x
 induction x with
 |leaf v=>
  intro t a;rw[Tr.set_leaf]
  cases ht:Nat.beq t 0 with
  |false=>right;simp only[cond_false,Uw,ht]
  |true=>left;simp only[cond_true,Uw,ht]
 |node x0 x1 x2 x3 ih0 ih1 ih2 ih3=>
  intro t a;rw[Tr.set_node];have et:Nat.mod t 4=t%4:=rfl
  have ht:t%4=0\/t%4=1\/t%4=2\/t%4=3:=by omega
  rw[et];rcases ht with ht|ht|ht|ht<;>
   simp only[ht,et,Tr.turn,Tr.kid,Uy,aJ,aU,Nat.reduceEqDiff]<;>
   first
    |exact ih0 _ _
    |exact ih1 _ _
    |exact ih2 _ _
    |exact ih3 _ _
theorem Tr.get_full: ∀(d t:Nat),(Uk d).get t= .undef:=by
 intro d
 induction d with
 |zero=>
  intro t;simp only[Uk,Uw];cases Nat.beq t 0<;>rfl
 |succ d ih=>
  intro t;simp only[Uk,Uy,Tr.kid];split
  ·exact ih _
  split
  ·exact ih _
  split<;>exact ih _
theorem qci {t n:Nat} (h:n<=t):Nat.blt t n=false:=by
 cases hb:Nat.blt t n with
 |false=>rfl
 |true=>have:=Ys hb;omega
theorem qrc {t n:Nat} (h:Nat.blt t n=false):n<=t:=by
 rcases ak t n with hlt|hge
 ·have:Nat.blt t n=true:=bH hlt;rw[h]at this;cases this
 exact hge
@[simp] theorem Fr.set_n (f:Fr) (t:Nat) (a:AV):(f.set t a).n=f.n:=by
  cases f with
  |tree n tr=>simp only[Fr.set];cases Nat.blt t n<;>rfl
  |fn n g=>rfl
@[simp] theorem Fr.blank_n (f:Fr):f.blank.n=f.n:=by cases f<;>rfl
theorem Ui {f:Fr} {t u:Nat} {a:AV} (h:t≠u):(f.set t a).get u=f.get u:=by
 cases f with
 |tree n tr=>
  simp only[Fr.set]
  cases Nat.blt t n with
  |false=>rfl
  |true=>exact Tr.get_set_other tr t u a h
 |fn n g=>simp only[Fr.set,Fr.get,qgG,qdz (show u≠t from λe=>h e.symm),cond_false]
theorem Fr.get_set_same (f:Fr) (t:Nat) (a:AV):(f.set t a).get t=a\/(f.set t a).get t= .undef\/(f.n<=t/\(f.set t a).get t=f.get t):=by
 cases f with
 |tree n tr=>
  simp only[Fr.set]
  cases h:Nat.blt t n with
  |false=>exact .inr (.inr ⟨qrc h,rfl⟩)
  |true=>exact(Tr.get_set_same tr t a).elim .inl λh=> .inr (.inl h)
 |fn n g=>
  simp only[Fr.set,Fr.get,qgG,qfu rfl,cond_true]
  cases Nat.blt t n with
  |false=>exact .inr (.inl rfl)
  |true=>exact .inl rfl
theorem Fr.get_set_out {f:Fr} {t:Nat} {a:AV} (h:f.n<=t):(f.set t a).get t=f.get t:=by
 cases f with
 |tree n tr=>simp only[Fr.set,qci (show n<=t from h),cond_false]
 |fn n g=>simp only[Fr.set,Fr.get,qci (show n<=t from h),cond_false]
theorem Fr.get_blank (f:Fr) (t:Nat):f.blank.get t= .undef:=by
 cases f with
 |tree n tr=>exact Tr.get_full _ t
 |fn n g=>simp only[Fr.blank,Fr.get];cases Nat.blt t n<;>rfl
inductive Ent where
 |av (a:AV)
 |own (k:Nat) (cs:List AV)
 deriving Inhabited
inductive Blk where
 |dead
 |bag (es:List Ent)
 |cells (cs:List AV)
 |frozen (cs:List AV)
 |map (keys vals:List AV)
 |iter (s:List UInt8) (pos:Nat)
 |bld (T e:TypeId) (cs:List AV)
 |loop (st:LoopState) (pend:Option Code) (fr:Fr) (ps:Array Tmp) (asg body:Code)
 deriving Inhabited
abbrev Heap:=List Blk
def Blk.owned:Blk->Bool
 | .dead| .frozen _=>false
 |_=>true
inductive R (F:Nat->Prop) (nu:Nat->Option Nat) (w:World):AV->Value->Prop
 |undef (v:Value):R F nu w .undef v
 |anyb (b:Bool):R F nu w .anyb (.bool b)
 |bool (b:Bool):R F nu w (.bool b) (.bool b)
 |int (k:IntKind) (n:Int):R F nu w (.int k n) (.int k n)
 |str (s:ByteArray) (l:List UInt8) (h:s.data.toList=l):R F nu w (.str l) (.string s)
 |nilptr:R F nu w .nilptr (.pointer none)
 |ptr (b off rb:Nat) (h:nu b=some rb):R F nu w (.ptr b off) (.pointer (some ⟨rb,off,none⟩))
 |fptr (cs:List AV) (off:Nat) (ad:Addr) (vs:List Value) (hF:F ad.block) (hl:vs.length=cs.length)
  (hc: ∀(i:Nat) (v:Value),vs[i]? =some v->w.cell? (ad.add i)=some v) (hR: ∀(i:Nat) (a:AV) (v:Value),cs[i]? =some a->vs[i]? =some v->R F nu w a v):
  R F nu w (.fptr cs off) (.pointer (some (ad.add off)))
 |nilslice:R F nu w .nilslice (.slice none 0 0)
 |slice (b off n cap esz rb:Nat) (h:nu b=some rb) (hc:n<=cap):R F nu w (.slice b off n cap esz) (.slice (some ⟨rb,off,none⟩) n cap)
 |oslice (b n esz rb cap:Nat) (e:TypeId) (m:Nat) (h:nu b=some rb) (hc:n<=cap) (hs:w.shape? rb=some (e,m)) (hm:cap*esz<=m) (hx:cap<=9223372036854775807):
  R F nu w (.oslice b n esz) (.slice (some ⟨rb,0,none⟩) n cap)
 |gslice0 (b esz:Nat) (p:Option Addr):R F nu w (.gslice b 0 esz) (.slice p 0 0)
 |gslice (b n esz rb cap:Nat) (e:TypeId) (m:Nat) (hp:0<n) (h:nu b=some rb) (hc:n<=cap) (hs:w.shape? rb=some (e,m)) (hm:cap*esz<=m) (hx:cap<=9223372036854775807):
  R F nu w (.gslice b n esz) (.slice (some ⟨rb,0,none⟩) n cap)
 |wslice (b off n esz rb cap:Nat) (h:nu b=some rb) (hc:n<=cap):R F nu w (.wslice b off n esz) (.slice (some ⟨rb,off,none⟩) n cap)
 |fslice0 (A:Option Addr) (cap:Nat):R F nu w (.fslice 0 []) (.slice A 0 cap)
 |fslice (n:Nat) (cs:List AV) (ad:Addr) (cap:Nat) (vs:List Value) (hn:n<=cap) (hF:F ad.block) (hl:vs.length=cs.length)
  (hc: ∀(i:Nat) (v:Value),vs[i]? =some v->w.cell? (ad.add i)=some v) (hR: ∀(i:Nat) (a:AV) (v:Value),cs[i]? =some a->vs[i]? =some v->R F nu w a v):
  R F nu w (.fslice n cs) (.slice (some ad) n cap)
 |nilmap:R F nu w .nilmap (.map none)
 |map (b rb:Nat) (h:nu b=some rb):R F nu w (.map b) (.map (some rb))
 |fmap (ks vs:List AV) (rb:Nat) (es:Array MapEntry) (clock:Nat) (hF:F rb) (hh:w.heap[rb]? =some (.map es clock))
  (hk:es.size=ks.length) (hv:es.size=vs.length) (hRk: ∀(i:Nat) (a:AV) (e:MapEntry),ks[i]? =some a->es[i]? =some e->R F nu w a e.key)
  (hRv: ∀(i:Nat) (a:AV) (e:MapEntry),vs[i]? =some a->es[i]? =some e->R F nu w a e.val):R F nu w (.fmap ks vs) (.map (some rb))
 |func (fn:Fn) (fs cs:List AV) (vf vc:Array Value) (h1:vf.size=fs.length) (h2:vc.size=cs.length)
  (hf: ∀(i:Nat) (a:AV) (v:Value),fs[i]? =some a->vf[i]? =some v->R F nu w a v) (hc: ∀(i:Nat) (a:AV) (v:Value),cs[i]? =some a->vc[i]? =some v->R F nu w a v):
  R F nu w (.func fn fs cs) (.func fn vf vc)
 |nilfunc:R F nu w .nilfunc .nilFunc
 |yld (b rb:Nat) (h:nu b=some rb):R F nu w (.yld b) (.func (.yield rb) #[] #[])
 |iface (t:TypeId) (a:AV) (v:Value) (h:R F nu w a v):R F nu w (.iface t a) (.iface t v)
 |niliface:R F nu w .niliface .nilIface
 |agg (cs:List AV) (vs:Array Value) (hl:vs.size=cs.length) (hR: ∀(i:Nat) (a:AV) (v:Value),cs[i]? =some a->vs[i]? =some v->R F nu w a v):
  R F nu w (.agg cs) (.agg vs)
 |tuple (cs:List AV) (vs:Array Value) (hl:vs.size=cs.length) (hR: ∀(i:Nat) (a:AV) (v:Value),cs[i]? =some a->vs[i]? =some v->R F nu w a v):
  R F nu w (.tuple cs) (.tuple vs)
def RL (F:Nat->Prop) (nu:Nat->Option Nat) (w:World) (cs:List AV) (vs:Array Value):Prop:=
 vs.size=cs.length/\ ∀(i:Nat) (a:AV) (v:Value),cs[i]? =some a->vs[i]? =some v->R F nu w a v
structure RF (F:Nat->Prop) (nu:Nat->Option Nat) (w:World) (fr:Fr) (tmps:Array Value):Prop where
 size:tmps.size=fr.n
 at_: ∀(t:Nat) (v:Value),tmps[t]? =some v->R F nu w (fr.get t) v
 out: ∀t,fr.n<=t->fr.get t= .undef
structure Ext (F:Nat->Prop) (nu:Nat->Option Nat) (w:World) (F':Nat->Prop) (nu':Nat->Option Nat) (w':World):Prop where
 f: ∀b,F b->F' b
 n: ∀b r,nu b=some r->nu' b=some r
 keep: ∀rb,F rb->w'.heap[rb]? =w.heap[rb]?
 shape: ∀rb s,w.shape? rb=some s->w'.shape? rb=some s
theorem Ext.refl (F:Nat->Prop) (nu:Nat->Option Nat) (w:World):Ext F nu w F nu w:=⟨λ_ h=>h,λ_ _ h=>h,λ_ _=>rfl,λ_ _ h=>h⟩
theorem add_block (a:Addr) (n:Nat):(a.add n).block=a.block:=by unfold Addr.add;split<;>rfl
theorem add_add (a:Addr) (i j:Nat):(a.add i).add j=a.add (i+j):=by
 unfold Addr.add;by_cases hi:i=0<;>by_cases hj:j=0<;>simp[hi,hj,Nat.add_assoc]
@[simp] theorem add_zero' (a:Addr):a.add 0=a:=by simp[Addr.add]
theorem jB (rb off n:Nat):(⟨rb,off,none⟩:Addr).add n=⟨rb,off+n,none⟩:=by
 unfold Addr.add;by_cases h:n=0<;>simp[h]
theorem R.mono {F F':Nat->Prop} {nu nu':Nat->Option Nat} {w w':World} (x:Ext F nu w F' nu' w') {a:AV} {v:Value} (h:R F nu w a v):R F' nu' w' a v:=by
 induction h with
 |undef v=>exact .undef v
 |anyb b=>exact .anyb b
 |bool b=>exact .bool b
 |int k n=>exact .int k n
 |str s l h=>exact .str s l h
 |nilptr=>exact .nilptr
 |ptr b off rb h=>exact .ptr b off rb (x.n _ _ h)
 |fptr cs off ad vs hF hl hc hR ih=>
  exact .fptr cs off ad vs (x.f _ hF) hl (λi v hv=>(World.cell?_of_block (w:=w) (a:=ad.add i) (by rw[add_block];exact x.keep _ hF)).trans (hc i v hv)) ih
 |nilslice=>exact .nilslice
 |slice b off n cap esz rb h hc=>exact .slice b off n cap esz rb (x.n _ _ h) hc
 |oslice b n esz rb cap e m h hc hs hm hx=>exact .oslice b n esz rb cap e m (x.n _ _ h) hc (x.shape _ _ hs) hm hx
 |gslice0 b esz p=>exact .gslice0 b esz p
 |gslice b n esz rb cap e m hp h hc hs hm hx=>exact .gslice b n esz rb cap e m hp (x.n _ _ h) hc (x.shape _ _ hs) hm hx
 |wslice b off n esz rb cap h hc=>exact .wslice b off n esz rb cap (x.n _ _ h) hc
 |fslice0 A cap=>exact .fslice0 A cap
 |fslice n cs ad cap vs hn hF hl hc hR ih=>
  exact .fslice n cs ad cap vs hn (x.f _ hF) hl (λi v hv=>(World.cell?_of_block (w:=w) (a:=ad.add i) (by rw[add_block];exact x.keep _ hF)).trans (hc i v hv)) ih
 |nilmap=>exact .nilmap
 |map b rb h=>exact .map b rb (x.n _ _ h)
 |fmap ks vs rb es clock hF hh hk hv hRk hRv ihk ihv=>exact .fmap ks vs rb es clock (x.f _ hF) ((x.keep _ hF).trans hh) hk hv ihk ihv
 |func fn fs cs vf vc h1 h2 hf hc ihf ihc=>exact .func fn fs cs vf vc h1 h2 ihf ihc
 |nilfunc=>exact .nilfunc
 |yld b rb h=>exact .yld b rb (x.n _ _ h)
 |iface t a v h ih=>exact .iface t a v ih
 |niliface=>exact .niliface
 |agg cs vs hl hR ih=>exact .agg cs vs hl ih
 |tuple cs vs hl hR ih=>exact .tuple cs vs hl ih
theorem RL.mono {F F':Nat->Prop} {nu nu':Nat->Option Nat} {w w':World} (x:Ext F nu w F' nu' w') {cs:List AV} {vs:Array Value} (h:RL F nu w cs vs):RL F' nu' w' cs vs:=
 ⟨h.1,λi a v ha hv=>(h.2 i a v ha hv).mono x⟩
theorem RF.mono {F F':Nat->Prop} {nu nu':Nat->Option Nat} {w w':World} (x:Ext F nu w F' nu' w') {fr:Fr} {vs:Array Value} (h:RF F nu w fr vs):RF F' nu' w' fr vs:=
 ⟨h.size,λt v hv=>(h.at_ t v hv).mono x,h.out⟩
def qmo (es:Array MapEntry) (clock:Nat):Prop:=clock=es.size/\ ∀(i:Nat) (e:MapEntry),es[i]? =some e->e.born=i
theorem qmo.push {es:Array MapEntry} {clock:Nat} (h:qmo es clock) {e:MapEntry} (he:e.born=clock):qmo (es.push e) (clock+1):=by
 obtain⟨h1,h2⟩:=h;refine⟨by simp[h1],λi x hx=>?_⟩;rw[Array.getElem?_push]at hx;split at hx
 ·rename_i hi;injection hx with hx;rw[<-hx,he,hi,h1]
 exact h2 i x hx
theorem qmo.mod {es:Array MapEntry} {clock n:Nat} (h:qmo es clock) {f:MapEntry->MapEntry} (hf: ∀e,(f e).born=e.born):qmo (es.modify n f) clock:=by
 obtain⟨h1,h2⟩:=h;refine⟨by simp[h1],λi x hx=>?_⟩;rw[YD]at hx;split at hx
 ·obtain⟨e,he,rfl⟩:=Yd.1 hx;rw[hf];exact h2 i e he
 exact h2 i x hx
def RE (F:Nat->Prop) (nu:Nat->Option Nat) (w:World):Ent->Value->Prop
 | .av a,v=>R F nu w a v
 | .own k cs,v=>(cs=[]/\ ∃p,v= .slice p 0 0)\/ ∃(g n cap:Nat) (vs:Array Value) (e:TypeId),v= .slice (some ⟨g,0,none⟩) n cap/\0<n/\n*k=cs.length/\n<=cap/\cap<=9223372036854775807/\ ¬F g/\w.heap[g]? =some (.cells vs e (0,0))/\cap*k<=vs.size/\
  ∀(i:Nat) (a:AV) (v:Value),cs[i]? =some a->vs[i]? =some v->R F nu w a v
def OwnAt (es:List Ent) (vs:Array Value) (i r:Nat):Prop:= ∃(k:Nat) (cs:List AV) (n cap:Nat),es[i]? =some (.own k cs)/\vs[i]? =some (.slice (some ⟨r,0,none⟩) n cap)/\0<n
def Hid (w:World) (rb:Nat):Blk->Nat->Prop
 | .bag es,r=> ∃vs e i,w.heap[rb]? =some (.cells vs e (0,0))/\OwnAt es vs i r
 |_,_=>False
def Ft (w:World) (rb:Nat) (x:Blk) (r:Nat):Prop:=r=rb\/Hid w rb x r
theorem Hid.same {w w':World} {rb:Nat} (h:w'.heap[rb]? =w.heap[rb]?) {x:Blk} {r:Nat} (hh:Hid w' rb x r):Hid w rb x r:=by
 cases x with
 |bag es=>
  obtain⟨vs,e,i,h1,h2⟩:=hh;exact⟨vs,e,i,h▸h1,h2⟩
 |_=>exact hh.elim
theorem Ft.same {w w':World} {rb:Nat} (h:w'.heap[rb]? =w.heap[rb]?) {x:Blk} {r:Nat} (hh:Ft w' rb x r):Ft w rb x r:=hh.imp id (·.same h)
def RB (F:Nat->Prop) (nu:Nat->Option Nat) (w:World) (rb:Nat):Blk->Prop
 | .dead=>True
 | .cells cs=> ¬F rb/\ ∃vs e,w.heap[rb]? =some (.cells vs e (0,0))/\cs.length<=vs.size/\ ∀(i:Nat) (a:AV) (v:Value),cs[i]? =some a->vs[i]? =some v->R F nu w a v
 | .frozen cs=>F rb/\ ∃vs e fr,w.heap[rb]? =some (.cells vs e fr)/\cs.length<=vs.size/\ ∀(i:Nat) (a:AV) (v:Value),cs[i]? =some a->vs[i]? =some v->R F nu w a v
 | .map ks xs=> ¬F rb/\ ∃es clock,w.heap[rb]? =some (.map es clock)/\es.size=ks.length/\es.size=xs.length/\
  (∀(i:Nat) (a:AV) (e:MapEntry),ks[i]? =some a->es[i]? =some e->R F nu w a e.key)/\(∀(i:Nat) (a:AV) (e:MapEntry),xs[i]? =some a->es[i]? =some e->R F nu w a e.val)/\qmo es clock
 | .loop st pend fr ps asg body=> ¬F rb/\ ∃fn tmps dd,w.heap[rb]? =some (.loop {state:=st,pending:=pend,fn:=fn,tmps:=tmps,params:=ps,assign:=asg,body:=body,defers:=dd})/\RF F nu w fr tmps
 | .bag es=> ¬F rb/\ ∃vs e,w.heap[rb]? =some (.cells vs e (0,0))/\es.length<=vs.size/\(∀(i:Nat) (x:Ent) (v:Value),es[i]? =some x->vs[i]? =some v->RE F nu w x v)/\
  (∀i r,OwnAt es vs i r->r≠rb)/\(∀i j r,OwnAt es vs i r->OwnAt es vs j r->i=j)
 | .iter s pos=> ¬F rb/\ ∃bs,w.heap[rb]? =some (.stringIter bs pos)/\bs.data.toList=s
 | .bld T e cs=> ¬F rb/\ ∃vs:Array Value,w.heap[rb]? =some (.cells vs T (0,0))/\vs.size=cs.length/\(∀(i:Nat) (a:AV) (v:Value),cs[i]? =some a->vs[i]? =some v->R F nu w a v)/\
  ∀(i g n cap:Nat),vs[i]? =some (.slice (some ⟨g,0,none⟩) n cap)->w.shape? g=some (e,cap)
class Glob where
 G:(Nat->Prop)->World->Prop
 gl:Nat->AV
 bt:TypeId->Option TypeId:=λ_=>none
 mono: ∀{F F':Nat->Prop} {w w':World},G F w->(∀b,F b->F' b)->(∀rb,F rb->w'.heap[rb]? =w.heap[rb]?)->G F' w'
 val: ∀{F:Nat->Prop} {w:World} (g:Nat),G F w->R F (λ_=>none) w (gl g) (.pointer (some ⟨g,0,none⟩))
variable [Glob]
structure Inv (F:Nat->Prop) (nu:Nat->Option Nat) (A:Heap) (w:World):Prop where
 blk: ∀b rb x,nu b=some rb->A[b]? =some x->RB F nu w rb x
 injF: ∀b b' rb rb' x x' r,nu b=some rb->nu b'=some rb'->A[b]? =some x->A[b']? =some x'->x.owned=true->x'.owned=true->Ft w rb x r->Ft w rb' x' r->b=b'
 fresh: ∀b,A.length<=b->nu b=none
 ltF: ∀rb,F rb->rb<w.heap.size
 ltN: ∀b rb,nu b=some rb->rb<w.heap.size
 glob:Glob.G F w
theorem Inv.inj {F:Nat->Prop} {nu:Nat->Option Nat} {A:Heap} {w:World} (i:Inv F nu A w): ∀b b' rb x x',nu b=some rb->nu b'=some rb->A[b]? =some x->A[b']? =some x'->x.owned=true->x'.owned=true->b=b':=
 λb b' rb x x' h1 h2 h3 h4 h5 h6=>i.injF b b' rb rb x x' rb h1 h2 h3 h4 h5 h6 (.inl rfl) (.inl rfl)
theorem Glob.ext {F F':Nat->Prop} {nu nu':Nat->Option Nat} {w w':World} (h:Glob.G F w) (x:Ext F nu w F' nu' w'):Glob.G F' w':=Glob.mono h x.f x.keep
def qaO (nu:Nat->Option Nat) (A:Heap) (w:World) (r:Nat):Prop:= ∃b x rb,nu b=some rb/\A[b]? =some x/\x.owned=true/\Ft w rb x r
theorem qaO.of {nu:Nat->Option Nat} {A:Heap} {w:World} {b rb:Nat} {x:Blk} (h1:nu b=some rb) (h2:A[b]? =some x) (h3:x.owned=true):qaO nu A w rb:=⟨b,x,rb,h1,h2,h3,.inl rfl⟩
structure Stp (F:Nat->Prop) (nu:Nat->Option Nat) (A:Heap) (w:World) (F':Nat->Prop) (nu':Nat->Option Nat) (A':Heap) (w':World):Prop where
 f: ∀b,F b->F' b
 n: ∀b r,nu b=some r->nu' b=some r
 shape: ∀rb s,w.shape? rb=some s->w'.shape? rb=some s
 inv:Inv F' nu' A' w'
 keep: ∀rb,rb<w.heap.size-> ¬qaO nu A w rb->w'.heap[rb]? =w.heap[rb]?
 own: ∀rb,rb<w.heap.size->qaO nu' A' w' rb->qaO nu A w rb
 size:w.heap.size<=w'.heap.size
 os:w'.os=w.os
 tape:w'.tape=w.tape
 output:w'.output=w.output
 old: ∀b,b<A.length->nu' b=nu b
 len:A.length<=A'.length
 newF: ∀rb,F' rb->F rb\/w.heap.size<=rb\/qaO nu A w rb
theorem RB.hidF {F:Nat->Prop} {nu:Nat->Option Nat} {w:World} {rb:Nat} {x:Blk} (h:RB F nu w rb x) {r:Nat} (hh:Hid w rb x r): ¬F r/\r<w.heap.size/\r≠rb:=by
 cases x with
 |bag es=>
  obtain⟨_,vs,e,h1,h2,h3,h4,_⟩:=h;obtain⟨vs',e',i,g1,g2⟩:=hh;rw[h1]at g1;simp only[ZI,Obj.cells.injEq]at g1;obtain⟨rfl,rfl,_⟩:=g1;have hne:=h4 i r g2;obtain⟨k,cs,n,cap,q1,q2,q3⟩:=g2;obtain⟨_,p,u1⟩|⟨g,n',cap',vs2,e2,u1,_,_,_,_,u2,u3,_⟩:=h3 i _ _ q1 q2
  ·simp only[Value.slice.injEq]at u1;omega
  simp only[Value.slice.injEq,ZI,Addr.mk.injEq]at u1;obtain⟨⟨rfl,_⟩,_⟩:=u1;refine⟨u2,?_,hne⟩;rcases ak r w.heap.size with hl|hl
  ·exact hl
  rw[Array.getElem?_eq_none hl]at u3;cases u3
 |_=>exact hh.elim
theorem Inv.ftF {F:Nat->Prop} {nu:Nat->Option Nat} {A:Heap} {w:World} (h:Inv F nu A w) {b rb:Nat} {x:Blk} (hb:nu b=some rb) (hx:A[b]? =some x) (ho:x.owned=true) {r:Nat} (hr:Ft w rb x r): ¬F r/\r<w.heap.size:=by
 have h0:=h.blk b rb x hb hx;rcases hr with rfl|hr
 ·refine⟨?_,h.ltN b _ hb⟩;cases x<;>simp_all [RB,Blk.owned]
 have:=h0.hidF hr;exact⟨this.1,this.2.1⟩
theorem Inv.notOwns {F:Nat->Prop} {nu:Nat->Option Nat} {A:Heap} {w:World} (h:Inv F nu A w) {rb:Nat} (hF:F rb): ¬qaO nu A w rb:=by
 rintro⟨b,x,r,hb,hx,ho,hf⟩;exact(h.ftF hb hx ho hf).1 hF
theorem Ft.one {w:World} {rb:Nat} {x:Blk} (h: ∀es,x≠ .bag es) {r:Nat} (hf:Ft w rb x r):r=rb:=by
 rcases hf with h1|h1
 ·exact h1
 cases x with
 |bag es=>exact absurd rfl (h es)
 |_=>exact h1.elim
theorem Stp.ext {F F':Nat->Prop} {nu nu':Nat->Option Nat} {A A':Heap} {w w':World} (h:Stp F nu A w F' nu' A' w') (i:Inv F nu A w):Ext F nu w F' nu' w':=
 ⟨h.f,h.n,λrb hF=>h.keep rb (i.ltF rb hF) (i.notOwns hF),h.shape⟩
theorem Stp.refl {F:Nat->Prop} {nu:Nat->Option Nat} {A:Heap} {w:World} (i:Inv F nu A w):Stp F nu A w F nu A w:=
 ⟨λ_ h=>h,λ_ _ h=>h,λ_ _ h=>h,i,λ_ _ _=>rfl,λ_ _ h=>h,ag _,rfl,rfl,rfl,λ_ _=>rfl,ag _,λ_ h=> .inl h⟩
theorem Stp.trans {F F' F'':Nat->Prop} {nu nu' nu'':Nat->Option Nat} {A A' A'':Heap} {w w' w'':World}
 (h:Stp F nu A w F' nu' A' w') (k:Stp F' nu' A' w' F'' nu'' A'' w''):Stp F nu A w F'' nu'' A'' w'' where
 f b hb:=k.f b (h.f b hb)
 n b r hb:=k.n b r (h.n b r hb)
 shape rb s hs:=k.shape rb s (h.shape rb s hs)
 inv:=k.inv
 keep rb hlt hno:=by
  rw[k.keep rb (by have:=h.size;omega) (λho=>hno (h.own rb hlt ho)),h.keep rb hlt hno]
 own rb hlt ho:=h.own rb hlt (k.own rb (by have:=h.size;omega) ho)
 size:=aX h.size k.size
 os:=k.os.trans h.os
 tape:=k.tape.trans h.tape
 output:=k.output.trans h.output
 old b hb:=(k.old b (by have:=h.len;omega)).trans (h.old b hb)
 len:=aX h.len k.len
 newF rb hF:=by
  rcases k.newF rb hF with h1|h1|h1
  ·exact h.newF rb h1
  ·exact .inr (.inl (aX h.size h1))
  rcases ak rb w.heap.size with h2|h2
  ·exact .inr (.inr (h.own rb h2 h1))
  exact .inr (.inl h2)
end Go.Av
