/-
  Abstract values: a value language without addresses of the machine, and what it means that a value of the machine
  is told by an abstract one. Parametric in the program.
-/
import Derived.Calls
import Derived.Orders
import Derived.Below
import Derived.Laws.World
import Derived.RangeFuncRecord
import Derived.Laws.Tables
import Derived.Laws.Rows
import Derived.Deep.Draws
import Derived.Laws.Cells
import Derived.Laws.CopyRow
import Derived.Laws.AppendOwn
import Derived.Deep.AppendSrc
import Derived.Laws.BytesString
import Derived.Laws.StructEq
import Derived.ChangeKeysEq
import Derived.Scope
set_option linter.all false
noncomputable section
namespace Go.Av
abbrev aa:=@if_neg
abbrev ae:=@if_pos
abbrev ai:=@Nat.le_refl
abbrev ak:=@decide_eq_false
abbrev ap:=@decide_eq_true
abbrev ar:=@List.take_of_length_le
abbrev aw:=@Nat.lt_or_ge
abbrev az:=@congrArg
abbrev aB:=@List.drop_of_length_le
abbrev aC:=@Int.le_of_lt
abbrev aD:=@Nat.zero_le
abbrev aE:=@Int.emod_lt_of_pos
abbrev aF:=@Nat.ne_of_beq_eq_false
abbrev aG:=@Nat.zero_add
abbrev aH:=@Int.mul_ediv_add_emod
abbrev aI:=@Int.mul_le_mul_of_nonneg_right
abbrev aJ:=@Int.emod_nonneg
abbrev aK:=@Int.mul_comm
abbrev aL:=@Int.pow_succ
abbrev aM:=@Option.bind_eq_some_iff
abbrev aN:=@List.length_nil
abbrev aO:=@decide_eq_true_eq
abbrev aP:=@of_decide_eq_true
abbrev aR:=@Bool.and_eq_true
abbrev aS:=@Int.natAbs_natCast
abbrev aT:=@if_true
abbrev aU:=@Int.toNat_natCast
abbrev aV:=@Int.ediv_nonneg
abbrev aW:=@Nat.mul_le_mul_right
abbrev aX:=@Nat.min_eq_left
abbrev aY:=@Nat.lt_succ_self
abbrev aZ:=@Int.mul_zero
abbrev bc:=@Int.add_zero
abbrev be:=@Option.isSome_none
abbrev bf:=@Int.add_mul
abbrev bh:=@if_false
abbrev bj:=@List.take_zero
abbrev bo:=@List.getElem_mem
abbrev bp:=@List.nil_append
abbrev bq:=@List.length_map
abbrev bu:=@Int.natCast_mul
abbrev bw:=@Int.tmod_eq_emod_of_nonneg
abbrev bx:=@Nat.le_trans
abbrev bz:=@Nat.add_zero
abbrev bA:=@Int.eq_ofNat_of_zero_le
abbrev bC:=@Nat.zero_mul
abbrev bD:=@Nat.ble_eq_true_of_le
abbrev bE:=@List.length_singleton
abbrev bF:=@Int.add_mul_emod_self_left
abbrev bG:=@Nat.eq_zero_or_pos
abbrev bH:=@Int.natAbs_mul
abbrev bI:=@List.foldl_cons
abbrev bJ:=@Int.one_mul
abbrev bK:=@List.set_set
abbrev bL:=@List.flatMap_cons
abbrev bM:=@Int.emod_eq_of_lt
abbrev bN:=@Nat.pow_le_pow_right
abbrev bO:=@List.set_append_left
abbrev bP:=@Nat.mul_comm
abbrev bR:=@beq_iff_eq
abbrev bS:=@List.length_replicate
abbrev bT:=@List.mem_cons
abbrev bU:=@Int.mul_le_mul
abbrev bV:=@Option.getD_none
abbrev bW:=@List.take_length
abbrev bX:=@Int.le_ediv_iff_mul_le
abbrev bY:=@Int.mul_one
abbrev cd:=@Nat.sub_self
abbrev cg:=@List.all_cons
abbrev cm:=@Rat.intCast_mul
abbrev cr:=@Bool.eq_iff_iff
abbrev cw:=@Int.lt_or_le
abbrev cx:=@Int.gcd_pos_of_ne_zero_left
abbrev cy:=@Nat.one_mul
abbrev cz:=@Int.le_refl
abbrev cA:=@List.mapM_cons
abbrev cC:=@Int.natAbs_neg
abbrev cD:=@Nat.lt_of_lt_of_le
abbrev cE:=@Int.natAbs_sign_of_ne_zero
abbrev cG:=@List.mem_append
abbrev cH:=@and_self
abbrev cI:=@Int.pow_zero
abbrev cJ:=@List.take_succ_eq_append_getElem
abbrev cK:=@List.set_comm
abbrev cL:=@Nat.exists_eq_add_of_le'
abbrev cN:=@List.length_pos_iff
abbrev cO:=@Array.length_toList
abbrev cP:=@List.mem_range
abbrev cQ:=@Int.mul_emod_mul_of_pos
abbrev cR:=@Nat.mul_one
abbrev cS:=@List.eq_nil_of_length_eq_zero
abbrev cT:=@List.drop_append_of_le_length
abbrev cU:=@Rat.zero_mul
abbrev cV:=@Int.le_trans
abbrev cW:=@Int.natCast_pow
abbrev cX:=@Int.natCast_add
abbrev cY:=@List.set_append_right
abbrev cZ:=@Int.add_mul_ediv_left
abbrev da:=@Int.ofNat_eq_natCast
abbrev db:=@Bool.or_eq_false_iff
abbrev dc:=@List.cons_append
abbrev de:=@Int.natCast_ediv
abbrev dh:=@Int.lt_of_mul_lt_mul_left
abbrev dj:=@Bool.true_and
abbrev dl:=@Rat.intCast_neg
abbrev dn:=@Nat.not_lt_zero
abbrev dp:=@of_decide_eq_false
abbrev dq:=@Bool.false_ne_true
abbrev dr:=@decide_eq_false_iff_not
abbrev dx:=@Nat.sub_zero
abbrev dy:=@Rat.num_divInt
abbrev dz:=@Rat.den_divInt
abbrev dA:=@Bool.not_eq_true'
abbrev dB:=@Array.size_append
abbrev dC:=@List.length_eq_one_iff
abbrev dD:=@List.getElem_replicate
abbrev dE:=@Int.sign_eq_one_of_pos
abbrev dF:=@Int.ediv_eq_zero_of_lt
abbrev dG:=@Nat.eq_of_beq_eq_true
abbrev dH:=@Nat.div_eq_of_lt
abbrev dI:=@List.drop_append
abbrev dJ:=@Bool.not_eq_true
abbrev dL:=@Int.mul_pos
abbrev dM:=@List.mem_of_mem_take
abbrev dN:=@Array.size_replicate
abbrev dO:=@List.take_append_of_le_length
abbrev dP:=@Bool.or_eq_true
abbrev dQ:=@List.take_succ_cons
abbrev dR:=@List.drop_succ_cons
abbrev dS:=@Int.zero_add
abbrev dT:=@Int.sub_zero
abbrev dV:=@Int.ofNat_lt
abbrev dW:=@Int.gcd_zero
abbrev dY:=@Nat.mul_le_mul
abbrev dZ:=@Int.negSucc_eq
abbrev d5:=@List.mem_cons_self
abbrev d6:=@Int.lt_of_lt_of_le
abbrev d7:=@Int.sign_eq_neg_one_of_neg
abbrev d8:=@Int.lt_of_mul_lt_mul_right
abbrev d9:=@Int.fdiv_eq_ediv_of_nonneg
abbrev ee:=@Nat.lt_trichotomy
abbrev ef:=@Option.isSome_iff_exists
abbrev eo:=@List.isEmpty_iff
abbrev eA:=@Nat.add_sub_cancel_left
abbrev eC:=@Nat.mod_lt
abbrev eE:=@Nat.div_div_eq_div_mul
abbrev eF:=@Rat.num_intCast
abbrev eG:=@Rat.mul_eq_zero
abbrev eH:=@List.map_append
abbrev eI:=@Int.ediv_mul_le
abbrev eJ:=@List.getElem_set_self
abbrev eP:=@Int.pow_one
abbrev eR:=@Option.map_map
abbrev eS:=@Nat.div_lt_of_lt_mul
abbrev eT:=@List.mem_cons_of_mem
abbrev eW:=@List.replicate_succ
abbrev eX:=@List.flatten_append
abbrev eY:=@Array.toList_append
abbrev eZ:=@Bool.false_or
abbrev ff:=@UInt8.toNat_ofNat'
abbrev fh:=@Rat.mul_inv_cancel
abbrev fj:=@Option.isSome_some
abbrev fk:=@List.pairwise_cons
abbrev fl:=@Int.mul_nonpos_of_nonpos_of_nonneg
abbrev fw:=@Int.mul_nonpos_of_nonneg_of_nonpos
abbrev fC:=@Nat.succ_mul
abbrev fD:=@Nat.pow_zero
abbrev fE:=@List.map_set
abbrev fG:=@List.all_nil
abbrev fI:=@Int.emod_def
abbrev fJ:=@List.size_toArray
abbrev fK:=@Nat.mod_eq_of_lt
abbrev fL:=@Nat.min_le_right
abbrev fM:=@List.take_append
abbrev fN:=@List.filter_cons
abbrev fO:=@List.any_eq_true
abbrev fP:=@Int.ediv_le_self
abbrev fQ:=@Rat.neg_num
abbrev fR:=@Rat.neg_den
abbrev fT:=@Nat.pow_pos
abbrev fU:=@Rat.den_intCast
abbrev fV:=@Option.pure_def
abbrev fX:=@Nat.div_add_mod
abbrev fY:=@List.range_succ
abbrev fZ:=@List.mem_filter
abbrev gg:=@Int.lt_ediv_add_one_mul_self
abbrev gk:=@and_true
abbrev gn:=@List.foldl_nil
abbrev gp:=@List.drop_drop
abbrev gt:=@Int.toNat_zero
abbrev gu:=@Bool.false_and
abbrev gv:=@Nat.eq_of_mul_eq_mul_right
section
abbrev Ya:=@List.getElem?_eq_getElem
abbrev Yb:=@List.getElem?_eq_some_iff
abbrev Yc:=@Int.mul_le_mul_of_nonneg_left
abbrev Yd:=@Option.map_eq_some_iff
abbrev Ye:=@Option.some.inj
abbrev Yf:=@List.getElem?_append_left
abbrev Yg:=@List.getElem?_eq_none
abbrev Yi:=@Array.getElem?_eq_getElem
abbrev Yj:=@List.getElem?_cons_zero
abbrev Yk:=@List.length_set
abbrev Ym:=@List.length_take
abbrev Yn:=@List.mem_of_getElem?
abbrev Yo:=@List.getElem?_append_right
abbrev Yp:=@List.all_eq_true
abbrev Yq:=@List.length_append
abbrev Yr:=@List.length_cons
abbrev Ys:=@Nat.le_of_ble_eq_true
abbrev Yt:=@List.getElem?_take
abbrev Yu:=@Int.ediv_lt_iff_lt_mul
abbrev Yv:=@Int.mul_nonneg
abbrev Yw:=@List.getElem?_set_ne
abbrev Yy:=@List.getD_eq_getElem?_getD
abbrev Yz:=@List.append_assoc
abbrev YA:=@List.getElem?_map
abbrev YB:=@Array.getElem?_eq_some_iff
abbrev YC:=@Array.getElem?_append_left
abbrev YD:=@Array.getElem?_modify
abbrev YF:=@Int.tdiv_eq_ediv_of_nonneg
abbrev YG:=@List.drop_eq_getElem_cons
abbrev YH:=@Int.mul_lt_mul_of_pos_right
abbrev YI:=@List.getElem?_drop
abbrev YJ:=@List.length_drop
abbrev YK:=@List.getElem?_cons_succ
abbrev YL:=@List.length_eq_zero_iff
abbrev YN:=@Option.getD_some
abbrev YQ:=@List.append_nil
abbrev YR:=@List.drop_zero
abbrev YS:=@List.take_append_drop
abbrev YT:=@Array.getElem?_toList
def ZB {α β : Type _}{a : α}{f : α -> Option β} : (some a).bind f = f a := rfl
def ZI {α : Type _}{a b : α} : (some a = some b) = (a = b) := propext ⟨Ye, az some⟩
def ZP {α β : Type _}{a c : α}{b d : β} : ((a, b) = (c, d)) = (a = c /\ b = d) := propext ⟨λh => ⟨az Prod.fst h, az Prod.snd h⟩, λh => by rw [h.1, h.2]⟩
def ZM {α β : Type _}{a : α}{f : α -> β} : (some a).map f = some (f a) := rfl
def ZF : (false = true) = False := propext ⟨λh => (nomatch h), False.elim⟩
open Go.RowKit
inductive AV where
 |undef
 |bool (b:Bool)
 |int (k:IntKind) (n:Int)
 |str (s:List UInt8)
 |nilptr
 |ptr (b off:Nat)
 |fptr (cells:List AV) (off:Nat)
 |nilslice
 |slice (b off len cap esz:Nat)
 |oslice (b len esz:Nat)
 |gslice (b len esz:Nat)
 |wslice (b off len esz:Nat)
 |fslice (len:Nat) (cells:List AV)
 |nilmap
 |map (b:Nat)
 |fmap (keys vals:List AV)
 |func (fn:Fn) (first captured:List AV)
 |yld (b:Nat)
 |nilfunc
 |iface (t:TypeId) (v:AV)
 |niliface
 |agg (cells:List AV)
 |tuple (vs:List AV)
 |anyb
 deriving Inhabited
inductive Tr where
 |leaf (v:AV)
 |node (a b c d:Tr)
 deriving Inhabited
def Tr.get (x:Tr):Nat->AV:=
 Tr.rec (motive:=λ_=>Nat->AV) (λv t=>Bool.rec (motive:=λ_=>AV) .undef v (Nat.beq t 0))
  (λ_ _ _ _ ga gb gc gd t=>Bool.rec (motive:=λ_=>Nat->AV) (Bool.rec (motive:=λ_=>Nat->AV) ga gb (Nat.beq (Nat.mod t 2) 1)) (Bool.rec (motive:=λ_=>Nat->AV) gc gd (Nat.beq (Nat.mod t 2) 1)) (Nat.ble 2 (Nat.mod t 4)) (Nat.div t 4)) x
def Tr.set (x:Tr):Nat->AV->Tr:=
 Tr.rec (motive:=λ_=>Nat->AV->Tr) (λv t a=>Bool.rec (motive:=λ_=>Tr) (.leaf v) (.leaf a) (Nat.beq t 0))
  (λa b c d ga gb gc gd t v=>Bool.rec (motive:=λ_=>Tr)
   (Bool.rec (motive:=λ_=>Tr) (.node (ga (Nat.div t 4) v) b c d) (.node a (gb (Nat.div t 4) v) c d) (Nat.beq (Nat.mod t 2) 1))
   (Bool.rec (motive:=λ_=>Tr) (.node a b (gc (Nat.div t 4) v) d) (.node a b c (gd (Nat.div t 4) v)) (Nat.beq (Nat.mod t 2) 1)) (Nat.ble 2 (Nat.mod t 4))) x
def Ui:Nat->Tr
 |0=> .leaf .undef
 |d+1=> .node (Ui d) (Ui d) (Ui d) (Ui d)
def U1 (n:Nat):Nat:=cond (Nat.ble n 16) 2 (cond (Nat.ble n 64) 3 (cond (Nat.ble n 256) 4 6))
inductive Fr where
 |tree (n:Nat) (tr:Tr)
 |fn (n:Nat) (g:Nat->AV)
 deriving Inhabited
def Fr.n:Fr->Nat
 | .tree n _=>n
 | .fn n _=>n
def Fr.get:Fr->Nat->AV
 | .tree _ tr,t=>tr.get t
 | .fn n g,t=>cond (Nat.blt t n) (g t) .undef
def qg7 (g:Nat->AV) (t:Nat) (a:AV) (u:Nat):AV:=cond (Nat.beq u t) a (g u)
def Fr.set:Fr->Nat->AV->Fr
 | .tree n tr,t,a=>cond (Nat.blt t n) (.tree n (tr.set t a)) (.tree n tr)
 | .fn n g,t,a=> .fn n (qg7 g t a)
def Fr.blank:Fr->Fr
 | .tree n _=> .tree n (Ui (U1 n))
 | .fn n _=> .fn n λ_=> .undef
def qeb {a b:Nat}(h:a≠b):Nat.beq a b=false:=by
 cases e:Nat.beq a b with
 |false=>rfl
 |true=>exact absurd (dG e) h
def qge {a b:Nat}(h:a=b):Nat.beq a b=true:=by
 subst h;exact Nat.beq_refl a
def Uz (v:AV) (t:Nat):(Tr.leaf v).get t=cond (Nat.beq t 0) v .undef:=by
 unfold Tr.get;cases h:Nat.beq t 0<;>simp only[h,cond_true,cond_false]
def Tr.set_leaf (v:AV) (t:Nat) (a:AV):(Tr.leaf v).set t a=cond (Nat.beq t 0) (.leaf a) (.leaf v):=by
 unfold Tr.set;cases h:Nat.beq t 0<;>simp only[h,cond_true,cond_false]
def Tr.kid:Tr->Nat->Tr
 | .leaf v,_=> .leaf v
 | .node a b c d,r=>if r=0 then a else if r=1 then b else if r=2 then c else d
def Tr.turn:Tr->Nat->(Tr->Tr)->Tr
 | .leaf v,_,_=> .leaf v
 | .node a b c d,r,f=>if r=0 then .node (f a) b c d else if r=1 then .node a (f b) c d else if r=2 then .node a b (f c) d else .node a b c (f d)
def digits (t:Nat):(Nat.mod t 4=0/\Nat.ble 2 (Nat.mod t 4)=false/\Nat.beq (Nat.mod t 2) 1=false)\/(Nat.mod t 4=1/\Nat.ble 2 (Nat.mod t 4)=false/\Nat.beq (Nat.mod t 2) 1=true)\/
 (Nat.mod t 4=2/\Nat.ble 2 (Nat.mod t 4)=true/\Nat.beq (Nat.mod t 2) 1=false)\/(Nat.mod t 4=3/\Nat.ble 2 (Nat.mod t 4)=true/\Nat.beq (Nat.mod t 2) 1=true):=by
 have e4:Nat.mod t 4=t%4:=rfl;have e2:Nat.mod t 2=t%2:=rfl;rw[e4,e2]
 have h:t%4=0\/t%4=1\/t%4=2\/t%4=3:=by omega
 rcases h with h|h|h|h
 ·have:t%2=0:=by omega
  rw[h,this];exact .inl ⟨rfl,rfl,rfl⟩
 ·have:t%2=1:=by omega
  rw[h,this];exact .inr (.inl ⟨rfl,rfl,rfl⟩)
 ·have:t%2=0:=by omega
  rw[h,this];exact .inr (.inr (.inl ⟨rfl,rfl,rfl⟩))
 have:t%2=1:=by omega
 rw[h,this];exact .inr (.inr (.inr ⟨rfl,rfl,rfl⟩))
def Ux (a b c d:Tr) (t:Nat):(Tr.node a b c d).get t=((Tr.node a b c d).kid (Nat.mod t 4)).get (Nat.div t 4):=by
 conv=>lhs;unfold Tr.get
 simp only;rcases digits t with⟨h,h1,h2⟩|⟨h,h1,h2⟩|⟨h,h1,h2⟩|⟨h,h1,h2⟩<;>simp only[h1,h2]<;>rw[h]<;>rfl
def Tr.set_node (a b c d:Tr) (t:Nat) (v:AV):(Tr.node a b c d).set t v=(Tr.node a b c d).turn (Nat.mod t 4) λx=>x.set (Nat.div t 4) v:=by
 conv=>lhs;unfold Tr.set
 simp only;rcases digits t with⟨h,h1,h2⟩|⟨h,h1,h2⟩|⟨h,h1,h2⟩|⟨h,h1,h2⟩<;>simp only[h1,h2]<;>rw[h]<;>rfl
def Tr.get_set_other:∀(x:Tr) (t u:Nat) (a:AV),t≠u->(x.set t a).get u=x.get u:=by
 intro x
 induction x with
 |leaf v=>
  intro t u a h;rw[Tr.set_leaf]
  cases ht:Nat.beq t 0 with
  |false=>rfl
  |true=>
   have e:=dG ht;have hu:Nat.beq u 0=false:=qeb (by omega);simp only[cond_true,Uz,hu,cond_false]
 |node x0 x1 x2 x3 ih0 ih1 ih2 ih3=>
  intro t u a h;rw[Tr.set_node,Ux];have et:Nat.mod t 4=t%4:=rfl;have eu:Nat.mod u 4=u%4:=rfl;have dt:Nat.div t 4=t/4:=rfl;have du:Nat.div u 4=u/4:=rfl
  have ht:t%4=0\/t%4=1\/t%4=2\/t%4=3:=by omega
  have hu:u%4=0\/u%4=1\/u%4=2\/u%4=3:=by omega
  rw[et,dt];rcases ht with ht|ht|ht|ht<;>rcases hu with hu|hu|hu|hu<;>
   simp only[ht,hu,eu,du,Tr.turn,Tr.kid,Ux,aT,bh,Nat.reduceEqDiff]<;>
   first
    |rfl
    |exact ih0 _ _ _ (by omega)
    |exact ih1 _ _ _ (by omega)
    |exact ih2 _ _ _ (by omega)
    |exact ih3 _ _ _ (by omega)
def Tr.get_set_same:∀(x:Tr) (t:Nat) (a:AV),(x.set t a).get t=a\/(x.set t a).get t= .undef:=by
 intro x
 induction x with
 |leaf v=>
  intro t a;rw[Tr.set_leaf]
  cases ht:Nat.beq t 0 with
  |false=>right;simp only[cond_false,Uz,ht]
  |true=>left;simp only[cond_true,Uz,ht]
 |node x0 x1 x2 x3 ih0 ih1 ih2 ih3=>
  intro t a;rw[Tr.set_node];have et:Nat.mod t 4=t%4:=rfl
  have ht:t%4=0\/t%4=1\/t%4=2\/t%4=3:=by omega
  rw[et];rcases ht with ht|ht|ht|ht<;>
   simp only[ht,et,Tr.turn,Tr.kid,Ux,aT,bh,Nat.reduceEqDiff]<;>
   first
    |exact ih0 _ _
    |exact ih1 _ _
    |exact ih2 _ _
    |exact ih3 _ _
def Tr.get_full:∀(d t:Nat),(Ui d).get t= .undef:=by
 intro d
 induction d with
 |zero=>
  intro t;simp only[Ui,Uz];cases Nat.beq t 0<;>rfl
 |succ d ih=>
  intro t;simp only[Ui,Ux,Tr.kid];split
  ·exact ih _
  split
  ·exact ih _
  split<;>exact ih _
def qcE {t n:Nat}(h:n<=t):Nat.blt t n=false:=by
 cases hb:Nat.blt t n with
 |false=>rfl
 |true=>have:=Ys hb;omega
def qsW {t n:Nat}(h:Nat.blt t n=false):n<=t:=by
 rcases aw t n with hlt|hge
 ·have:Nat.blt t n=true:=bD hlt;rw[h]at this;cases this
 exact hge
@[simp] def Fr.set_n (f:Fr) (t:Nat) (a:AV):(f.set t a).n=f.n:=by
  cases f with
  |tree n tr=>simp only[Fr.set];cases Nat.blt t n<;>rfl
  |fn n g=>rfl
@[simp] def Fr.blank_n (f:Fr):f.blank.n=f.n:=by cases f<;>rfl
def Uh {f:Fr}{t u:Nat}{a:AV}(h:t≠u):(f.set t a).get u=f.get u:=by
 cases f with
 |tree n tr=>
  simp only[Fr.set]
  cases Nat.blt t n with
  |false=>rfl
  |true=>exact Tr.get_set_other tr t u a h
 |fn n g=>simp only[Fr.set,Fr.get,qg7,qeb (show u≠t from λe=>h e.symm),cond_false]
def Fr.get_set_same (f:Fr) (t:Nat) (a:AV):(f.set t a).get t=a\/(f.set t a).get t= .undef\/(f.n<=t/\(f.set t a).get t=f.get t):=by
 cases f with
 |tree n tr=>
  simp only[Fr.set]
  cases h:Nat.blt t n with
  |false=>exact .inr (.inr ⟨qsW h,rfl⟩)
  |true=>exact(Tr.get_set_same tr t a).elim .inl λh=> .inr (.inl h)
 |fn n g=>
  simp only[Fr.set,Fr.get,qg7,qge rfl,cond_true]
  cases Nat.blt t n with
  |false=>exact .inr (.inl rfl)
  |true=>exact .inl rfl
def Fr.get_set_out {f:Fr}{t:Nat}{a:AV}(h:f.n<=t):(f.set t a).get t=f.get t:=by
 cases f with
 |tree n tr=>simp only[Fr.set,qcE (show n<=t from h),cond_false]
 |fn n g=>simp only[Fr.set,Fr.get,qcE (show n<=t from h),cond_false]
def Fr.get_blank (f:Fr) (t:Nat):f.blank.get t= .undef:=by
 cases f with
 |tree n tr=>exact Tr.get_full _ t
 |fn n g=>simp only[Fr.blank,Fr.get];cases Nat.blt t n<;>rfl
inductive Ent where
 |av (a:AV)
 |own (k:Nat) (cs:List AV)
 deriving Inhabited
inductive Blk where
 |dead
 |bag (es:List Ent)
 |cells (cs:List AV)
 |frozen (cs:List AV)
 |map (keys vals:List AV)
 |iter (s:List UInt8) (pos:Nat)
 |bld (T e:TypeId) (cs:List AV)
 |loop (st:LoopState) (pend:Option Code) (fr:Fr) (ps:Array Tmp) (asg body:Code)
 deriving Inhabited
abbrev Heap:=List Blk
def Blk.owned:Blk->Bool
 | .dead| .frozen _=>false
 |_=>true
inductive R (F:Nat->Prop) (nu:Nat->Option Nat) (w:World):AV->Value->Prop
 |undef (v:Value):R F nu w .undef v
 |anyb (b:Bool):R F nu w .anyb (.bool b)
 |bool (b:Bool):R F nu w (.bool b) (.bool b)
 |int (k:IntKind) (n:Int):R F nu w (.int k n) (.int k n)
 |str (s:ByteArray) (l:List UInt8) (h:s.data.toList=l):R F nu w (.str l) (.string s)
 |nilptr:R F nu w .nilptr (.pointer none)
 |ptr (b off rb:Nat) (h:nu b=some rb):R F nu w (.ptr b off) (.pointer (some ⟨rb,off,none⟩))
 |fptr (cs:List AV) (off:Nat) (ad:Addr) (vs:List Value) (hF:F ad.block) (hl:vs.length=cs.length)
  (hc:∀(i:Nat) (v:Value),vs[i]? =some v->w.cell? (ad.add i)=some v) (hR:∀(i:Nat) (a:AV) (v:Value),cs[i]? =some a->vs[i]? =some v->R F nu w a v):
  R F nu w (.fptr cs off) (.pointer (some (ad.add off)))
 |nilslice:R F nu w .nilslice (.slice none 0 0)
 |slice (b off n cap esz rb:Nat) (h:nu b=some rb) (hc:n<=cap):R F nu w (.slice b off n cap esz) (.slice (some ⟨rb,off,none⟩) n cap)
 |oslice (b n esz rb cap:Nat) (e:TypeId) (m:Nat) (h:nu b=some rb) (hc:n<=cap) (hs:w.shape? rb=some (e,m)) (hm:cap*esz<=m) (hx:cap<=9223372036854775807):
  R F nu w (.oslice b n esz) (.slice (some ⟨rb,0,none⟩) n cap)
 |gslice0 (b esz:Nat) (p:Option Addr):R F nu w (.gslice b 0 esz) (.slice p 0 0)
 |gslice (b n esz rb cap:Nat) (e:TypeId) (m:Nat) (hp:0<n) (h:nu b=some rb) (hc:n<=cap) (hs:w.shape? rb=some (e,m)) (hm:cap*esz<=m) (hx:cap<=9223372036854775807):
  R F nu w (.gslice b n esz) (.slice (some ⟨rb,0,none⟩) n cap)
 |wslice (b off n esz rb cap:Nat) (h:nu b=some rb) (hc:n<=cap):R F nu w (.wslice b off n esz) (.slice (some ⟨rb,off,none⟩) n cap)
 |fslice0 (A:Option Addr) (cap:Nat):R F nu w (.fslice 0 []) (.slice A 0 cap)
 |fslice (n:Nat) (cs:List AV) (ad:Addr) (cap:Nat) (vs:List Value) (hn:n<=cap) (hF:F ad.block) (hl:vs.length=cs.length)
  (hc:∀(i:Nat) (v:Value),vs[i]? =some v->w.cell? (ad.add i)=some v) (hR:∀(i:Nat) (a:AV) (v:Value),cs[i]? =some a->vs[i]? =some v->R F nu w a v):
  R F nu w (.fslice n cs) (.slice (some ad) n cap)
 |nilmap:R F nu w .nilmap (.map none)
 |map (b rb:Nat) (h:nu b=some rb):R F nu w (.map b) (.map (some rb))
 |fmap (ks vs:List AV) (rb:Nat) (es:Array MapEntry) (clock:Nat) (hF:F rb) (hh:w.heap[rb]? =some (.map es clock))
  (hk:es.size=ks.length) (hv:es.size=vs.length) (hRk:∀(i:Nat) (a:AV) (e:MapEntry),ks[i]? =some a->es[i]? =some e->R F nu w a e.key)
  (hRv:∀(i:Nat) (a:AV) (e:MapEntry),vs[i]? =some a->es[i]? =some e->R F nu w a e.val):R F nu w (.fmap ks vs) (.map (some rb))
 |func (fn:Fn) (fs cs:List AV) (vf vc:Array Value) (h1:vf.size=fs.length) (h2:vc.size=cs.length)
  (hf:∀(i:Nat) (a:AV) (v:Value),fs[i]? =some a->vf[i]? =some v->R F nu w a v) (hc:∀(i:Nat) (a:AV) (v:Value),cs[i]? =some a->vc[i]? =some v->R F nu w a v):
  R F nu w (.func fn fs cs) (.func fn vf vc)
 |nilfunc:R F nu w .nilfunc .nilFunc
 |yld (b rb:Nat) (h:nu b=some rb):R F nu w (.yld b) (.func (.yield rb) #[] #[])
 |iface (t:TypeId) (a:AV) (v:Value) (h:R F nu w a v):R F nu w (.iface t a) (.iface t v)
 |niliface:R F nu w .niliface .nilIface
 |agg (cs:List AV) (vs:Array Value) (hl:vs.size=cs.length) (hR:∀(i:Nat) (a:AV) (v:Value),cs[i]? =some a->vs[i]? =some v->R F nu w a v):
  R F nu w (.agg cs) (.agg vs)
 |tuple (cs:List AV) (vs:Array Value) (hl:vs.size=cs.length) (hR:∀(i:Nat) (a:AV) (v:Value),cs[i]? =some a->vs[i]? =some v->R F nu w a v):
  R F nu w (.tuple cs) (.tuple vs)
def RL (F:Nat->Prop) (nu:Nat->Option Nat) (w:World) (cs:List AV) (vs:Array Value):Prop:=
 vs.size=cs.length/\∀(i:Nat) (a:AV) (v:Value),cs[i]? =some a->vs[i]? =some v->R F nu w a v
structure RF (F:Nat->Prop) (nu:Nat->Option Nat) (w:World) (fr:Fr) (tmps:Array Value):Prop where
 size:tmps.size=fr.n
 at_:∀(t:Nat) (v:Value),tmps[t]? =some v->R F nu w (fr.get t) v
 out:∀t,fr.n<=t->fr.get t= .undef
structure Ext (F:Nat->Prop) (nu:Nat->Option Nat) (w:World) (F':Nat->Prop) (nu':Nat->Option Nat) (w':World):Prop where
 f:∀b,F b->F' b
 n:∀b r,nu b=some r->nu' b=some r
 keep:∀rb,F rb->w'.heap[rb]? =w.heap[rb]?
 shape:∀rb s,w.shape? rb=some s->w'.shape? rb=some s
def Ext.refl (F:Nat->Prop) (nu:Nat->Option Nat) (w:World):Ext F nu w F nu w:=⟨λ_ h=>h,λ_ _ h=>h,λ_ _=>rfl,λ_ _ h=>h⟩
def add_block (a:Addr) (n:Nat):(a.add n).block=a.block:=by unfold Addr.add;split<;>rfl
def add_add (a:Addr) (i j:Nat):(a.add i).add j=a.add (i+j):=by
 unfold Addr.add;by_cases hi:i=0<;>by_cases hj:j=0<;>simp[hi,hj,Nat.add_assoc]
@[simp] def add_zero' (a:Addr):a.add 0=a:=by simp[Addr.add]
def jB (rb off n:Nat):(⟨rb,off,none⟩:Addr).add n=⟨rb,off+n,none⟩:=by
 unfold Addr.add;by_cases h:n=0<;>simp[h]
def R.mono {F F':Nat->Prop}{nu nu':Nat->Option Nat}{w w':World}(x:Ext F nu w F' nu' w') {a:AV}{v:Value}(h:R F nu w a v):R F' nu' w' a v:=by
 induction h with
 |undef v=>exact .undef v
 |anyb b=>exact .anyb b
 |bool b=>exact .bool b
 |int k n=>exact .int k n
 |str s l h=>exact .str s l h
 |nilptr=>exact .nilptr
 |ptr b off rb h=>exact .ptr b off rb (x.n _ _ h)
 |fptr cs off ad vs hF hl hc hR ih=>
  exact .fptr cs off ad vs (x.f _ hF) hl (λi v hv=>(World.cell?_of_block (w:=w) (a:=ad.add i) (by rw[add_block];exact x.keep _ hF)).trans (hc i v hv)) ih
 |nilslice=>exact .nilslice
 |slice b off n cap esz rb h hc=>exact .slice b off n cap esz rb (x.n _ _ h) hc
 |oslice b n esz rb cap e m h hc hs hm hx=>exact .oslice b n esz rb cap e m (x.n _ _ h) hc (x.shape _ _ hs) hm hx
 |gslice0 b esz p=>exact .gslice0 b esz p
 |gslice b n esz rb cap e m hp h hc hs hm hx=>exact .gslice b n esz rb cap e m hp (x.n _ _ h) hc (x.shape _ _ hs) hm hx
 |wslice b off n esz rb cap h hc=>exact .wslice b off n esz rb cap (x.n _ _ h) hc
 |fslice0 A cap=>exact .fslice0 A cap
 |fslice n cs ad cap vs hn hF hl hc hR ih=>
  exact .fslice n cs ad cap vs hn (x.f _ hF) hl (λi v hv=>(World.cell?_of_block (w:=w) (a:=ad.add i) (by rw[add_block];exact x.keep _ hF)).trans (hc i v hv)) ih
 |nilmap=>exact .nilmap
 |map b rb h=>exact .map b rb (x.n _ _ h)
 |fmap ks vs rb es clock hF hh hk hv hRk hRv ihk ihv=>exact .fmap ks vs rb es clock (x.f _ hF) ((x.keep _ hF).trans hh) hk hv ihk ihv
 |func fn fs cs vf vc h1 h2 hf hc ihf ihc=>exact .func fn fs cs vf vc h1 h2 ihf ihc
 |nilfunc=>exact .nilfunc
 |yld b rb h=>exact .yld b rb (x.n _ _ h)
 |iface t a v h ih=>exact .iface t a v ih
 |niliface=>exact .niliface
 |agg cs vs hl hR ih=>exact .agg cs vs hl ih
 |tuple cs vs hl hR ih=>exact .tuple cs vs hl ih
def RL.mono {F F':Nat->Prop}{nu nu':Nat->Option Nat}{w w':World}(x:Ext F nu w F' nu' w') {cs:List AV}{vs:Array Value}(h:RL F nu w cs vs):RL F' nu' w' cs vs:=
 ⟨h.1,λi a v ha hv=>(h.2 i a v ha hv).mono x⟩
def RF.mono {F F':Nat->Prop}{nu nu':Nat->Option Nat}{w w':World}(x:Ext F nu w F' nu' w') {fr:Fr}{vs:Array Value}(h:RF F nu w fr vs):RF F' nu' w' fr vs:=
 ⟨h.size,λt v hv=>(h.at_ t v hv).mono x,h.out⟩
def qm9 (es:Array MapEntry) (clock:Nat):Prop:=clock=es.size/\∀(i:Nat) (e:MapEntry),es[i]? =some e->e.born=i
def qm9.push {es:Array MapEntry}{clock:Nat}(h:qm9 es clock) {e:MapEntry}(he:e.born=clock):qm9 (es.push e) (clock+1):=by
 obtain⟨h1,h2⟩:=h;refine⟨by simp[h1],λi x hx=>?_⟩;rw[Array.getElem?_push]at hx;split at hx
 ·rename_i hi;injection hx with hx;rw[<-hx,he,hi,h1]
 exact h2 i x hx
def qm9.mod {es:Array MapEntry}{clock n:Nat}(h:qm9 es clock) {f:MapEntry->MapEntry}(hf:∀e,(f e).born=e.born):qm9 (es.modify n f) clock:=by
 obtain⟨h1,h2⟩:=h;refine⟨by simp[h1],λi x hx=>?_⟩;rw[YD]at hx;split at hx
 ·obtain⟨e,he,rfl⟩:=Yd.1 hx;rw[hf];exact h2 i e he
 exact h2 i x hx
def RE (F:Nat->Prop) (nu:Nat->Option Nat) (w:World):Ent->Value->Prop
 | .av a,v=>R F nu w a v
 | .own k cs,v=>(cs=[]/\∃p,v= .slice p 0 0)\/ ∃(g n cap:Nat) (vs:Array Value) (e:TypeId),v= .slice (some ⟨g,0,none⟩) n cap/\0<n/\n*k=cs.length/\n<=cap/\cap<=9223372036854775807/\¬F g/\w.heap[g]? =some (.cells vs e (0,0))/\cap*k<=vs.size/\
  ∀(i:Nat) (a:AV) (v:Value),cs[i]? =some a->vs[i]? =some v->R F nu w a v
def OwnAt (es:List Ent) (vs:Array Value) (i r:Nat):Prop:= ∃(k:Nat) (cs:List AV) (n cap:Nat),es[i]? =some (.own k cs)/\vs[i]? =some (.slice (some ⟨r,0,none⟩) n cap)/\0<n
def Hid (w:World) (rb:Nat):Blk->Nat->Prop
 | .bag es,r=>∃vs e i,w.heap[rb]? =some (.cells vs e (0,0))/\OwnAt es vs i r
 |_,_=>False
def Ft (w:World) (rb:Nat) (x:Blk) (r:Nat):Prop:=r=rb\/Hid w rb x r
def Hid.same {w w':World}{rb:Nat}(h:w'.heap[rb]? =w.heap[rb]?) {x:Blk}{r:Nat}(hh:Hid w' rb x r):Hid w rb x r:=by
 cases x with
 |bag es=>
  obtain⟨vs,e,i,h1,h2⟩:=hh;exact⟨vs,e,i,h▸h1,h2⟩
 |_=>exact hh.elim
def Ft.same {w w':World}{rb:Nat}(h:w'.heap[rb]? =w.heap[rb]?) {x:Blk}{r:Nat}(hh:Ft w' rb x r):Ft w rb x r:=hh.imp id (·.same h)
def RB (F:Nat->Prop) (nu:Nat->Option Nat) (w:World) (rb:Nat):Blk->Prop
 | .dead=>True
 | .cells cs=>¬F rb/\∃vs e,w.heap[rb]? =some (.cells vs e (0,0))/\cs.length<=vs.size/\∀(i:Nat) (a:AV) (v:Value),cs[i]? =some a->vs[i]? =some v->R F nu w a v
 | .frozen cs=>F rb/\∃vs e fr,w.heap[rb]? =some (.cells vs e fr)/\cs.length<=vs.size/\∀(i:Nat) (a:AV) (v:Value),cs[i]? =some a->vs[i]? =some v->R F nu w a v
 | .map ks xs=>¬F rb/\∃es clock,w.heap[rb]? =some (.map es clock)/\es.size=ks.length/\es.size=xs.length/\
  (∀(i:Nat) (a:AV) (e:MapEntry),ks[i]? =some a->es[i]? =some e->R F nu w a e.key)/\(∀(i:Nat) (a:AV) (e:MapEntry),xs[i]? =some a->es[i]? =some e->R F nu w a e.val)/\qm9 es clock
 | .loop st pend fr ps asg body=>¬F rb/\∃fn tmps dd,w.heap[rb]? =some (.loop {state:=st,pending:=pend,fn:=fn,tmps:=tmps,params:=ps,assign:=asg,body:=body,defers:=dd})/\RF F nu w fr tmps
 | .bag es=>¬F rb/\∃vs e,w.heap[rb]? =some (.cells vs e (0,0))/\es.length<=vs.size/\(∀(i:Nat) (x:Ent) (v:Value),es[i]? =some x->vs[i]? =some v->RE F nu w x v)/\
  (∀i r,OwnAt es vs i r->r≠rb)/\(∀i j r,OwnAt es vs i r->OwnAt es vs j r->i=j)
 | .iter s pos=>¬F rb/\∃bs,w.heap[rb]? =some (.stringIter bs pos)/\bs.data.toList=s
 | .bld T e cs=>¬F rb/\∃vs:Array Value,w.heap[rb]? =some (.cells vs T (0,0))/\vs.size=cs.length/\(∀(i:Nat) (a:AV) (v:Value),cs[i]? =some a->vs[i]? =some v->R F nu w a v)/\
  ∀(i g n cap:Nat),vs[i]? =some (.slice (some ⟨g,0,none⟩) n cap)->w.shape? g=some (e,cap)
class Glob where
 G:(Nat->Prop)->World->Prop
 gl:Nat->AV
 bt:TypeId->Option TypeId:=λ_=>none
 mono:∀{F F':Nat->Prop}{w w':World},G F w->(∀b,F b->F' b)->(∀rb,F rb->w'.heap[rb]? =w.heap[rb]?)->G F' w'
 val:∀{F:Nat->Prop}{w:World}(g:Nat),G F w->R F (λ_=>none) w (gl g) (.pointer (some ⟨g,0,none⟩))
variable [Glob]
structure Inv (F:Nat->Prop) (nu:Nat->Option Nat) (A:Heap) (w:World):Prop where
 blk:∀b rb x,nu b=some rb->A[b]? =some x->RB F nu w rb x
 injF:∀b b' rb rb' x x' r,nu b=some rb->nu b'=some rb'->A[b]? =some x->A[b']? =some x'->x.owned=true->x'.owned=true->Ft w rb x r->Ft w rb' x' r->b=b'
 fresh:∀b,A.length<=b->nu b=none
 ltF:∀rb,F rb->rb<w.heap.size
 ltN:∀b rb,nu b=some rb->rb<w.heap.size
 glob:Glob.G F w
def Inv.inj {F:Nat->Prop}{nu:Nat->Option Nat}{A:Heap}{w:World}(i:Inv F nu A w):∀b b' rb x x',nu b=some rb->nu b'=some rb->A[b]? =some x->A[b']? =some x'->x.owned=true->x'.owned=true->b=b':=
 λb b' rb x x' h1 h2 h3 h4 h5 h6=>i.injF b b' rb rb x x' rb h1 h2 h3 h4 h5 h6 (.inl rfl) (.inl rfl)
def Glob.ext {F F':Nat->Prop}{nu nu':Nat->Option Nat}{w w':World}(h:Glob.G F w) (x:Ext F nu w F' nu' w'):Glob.G F' w':=Glob.mono h x.f x.keep
def qa5 (nu:Nat->Option Nat) (A:Heap) (w:World) (r:Nat):Prop:= ∃b x rb,nu b=some rb/\A[b]? =some x/\x.owned=true/\Ft w rb x r
def qa5.of {nu:Nat->Option Nat}{A:Heap}{w:World}{b rb:Nat}{x:Blk}(h1:nu b=some rb) (h2:A[b]? =some x) (h3:x.owned=true):qa5 nu A w rb:=⟨b,x,rb,h1,h2,h3,.inl rfl⟩
structure Stp (F:Nat->Prop) (nu:Nat->Option Nat) (A:Heap) (w:World) (F':Nat->Prop) (nu':Nat->Option Nat) (A':Heap) (w':World):Prop where
 f:∀b,F b->F' b
 n:∀b r,nu b=some r->nu' b=some r
 shape:∀rb s,w.shape? rb=some s->w'.shape? rb=some s
 inv:Inv F' nu' A' w'
 keep:∀rb,rb<w.heap.size->¬qa5 nu A w rb->w'.heap[rb]? =w.heap[rb]?
 own:∀rb,rb<w.heap.size->qa5 nu' A' w' rb->qa5 nu A w rb
 size:w.heap.size<=w'.heap.size
 os:w'.os=w.os
 tape:w'.tape=w.tape
 output:w'.output=w.output
 old:∀b,b<A.length->nu' b=nu b
 len:A.length<=A'.length
 newF:∀rb,F' rb->F rb\/w.heap.size<=rb\/qa5 nu A w rb
def RB.hidF {F:Nat->Prop}{nu:Nat->Option Nat}{w:World}{rb:Nat}{x:Blk}(h:RB F nu w rb x) {r:Nat}(hh:Hid w rb x r):¬F r/\r<w.heap.size/\r≠rb:=by
 cases x with
 |bag es=>
  obtain⟨_,vs,e,h1,h2,h3,h4,_⟩:=h;obtain⟨vs',e',i,g1,g2⟩:=hh;rw[h1]at g1;simp only[ZI,Obj.cells.injEq]at g1;obtain⟨rfl,rfl,_⟩:=g1;have hne:=h4 i r g2;obtain⟨k,cs,n,cap,q1,q2,q3⟩:=g2;obtain⟨_,p,u1⟩|⟨g,n',cap',vs2,e2,u1,_,_,_,_,u2,u3,_⟩:=h3 i _ _ q1 q2
  ·simp only[Value.slice.injEq]at u1;omega
  simp only[Value.slice.injEq,ZI,Addr.mk.injEq]at u1;obtain⟨⟨rfl,_⟩,_⟩:=u1;refine⟨u2,?_,hne⟩;rcases aw r w.heap.size with hl|hl
  ·exact hl
  rw[Array.getElem?_eq_none hl]at u3;cases u3
 |_=>exact hh.elim
def Inv.ftF {F:Nat->Prop}{nu:Nat->Option Nat}{A:Heap}{w:World}(h:Inv F nu A w) {b rb:Nat}{x:Blk}(hb:nu b=some rb) (hx:A[b]? =some x) (ho:x.owned=true) {r:Nat}(hr:Ft w rb x r):¬F r/\r<w.heap.size:=by
 have h0:=h.blk b rb x hb hx;rcases hr with rfl|hr
 ·refine⟨?_,h.ltN b _ hb⟩;cases x<;>simp_all [RB,Blk.owned]
 have:=h0.hidF hr;exact⟨this.1,this.2.1⟩
def Inv.notOwns {F:Nat->Prop}{nu:Nat->Option Nat}{A:Heap}{w:World}(h:Inv F nu A w) {rb:Nat}(hF:F rb):¬qa5 nu A w rb:=by
 rintro⟨b,x,r,hb,hx,ho,hf⟩;exact(h.ftF hb hx ho hf).1 hF
def Ft.one {w:World}{rb:Nat}{x:Blk}(h:∀es,x≠ .bag es) {r:Nat}(hf:Ft w rb x r):r=rb:=by
 rcases hf with h1|h1
 ·exact h1
 cases x with
 |bag es=>exact absurd rfl (h es)
 |_=>exact h1.elim
def Stp.ext {F F':Nat->Prop}{nu nu':Nat->Option Nat}{A A':Heap}{w w':World}(h:Stp F nu A w F' nu' A' w') (i:Inv F nu A w):Ext F nu w F' nu' w':=
 ⟨h.f,h.n,λrb hF=>h.keep rb (i.ltF rb hF) (i.notOwns hF),h.shape⟩
def Stp.refl {F:Nat->Prop}{nu:Nat->Option Nat}{A:Heap}{w:World}(i:Inv F nu A w):Stp F nu A w F nu A w:=
 ⟨λ_ h=>h,λ_ _ h=>h,λ_ _ h=>h,i,λ_ _ _=>rfl,λ_ _ h=>h,ai _,rfl,rfl,rfl,λ_ _=>rfl,ai _,λ_ h=> .inl h⟩
def Stp.trans {F F' F'':Nat->Prop}{nu nu' nu'':Nat->Option Nat}{A A' A'':Heap}{w w' w'':World}
 (h:Stp F nu A w F' nu' A' w') (k:Stp F' nu' A' w' F'' nu'' A'' w''):Stp F nu A w F'' nu'' A'' w'' where
 f b hb:=k.f b (h.f b hb)
 n b r hb:=k.n b r (h.n b r hb)
 shape rb s hs:=k.shape rb s (h.shape rb s hs)
 inv:=k.inv
 keep rb hlt hno:=by
  rw[k.keep rb (by have:=h.size;omega) (λho=>hno (h.own rb hlt ho)),h.keep rb hlt hno]
 own rb hlt ho:=h.own rb hlt (k.own rb (by have:=h.size;omega) ho)
 size:=bx h.size k.size
 os:=k.os.trans h.os
 tape:=k.tape.trans h.tape
 output:=k.output.trans h.output
 old b hb:=(k.old b (by have:=h.len;omega)).trans (h.old b hb)
 len:=bx h.len k.len
 newF rb hF:=by
  rcases k.newF rb hF with h1|h1|h1
  ·exact h.newF rb h1
  ·exact .inr (.inl (bx h.size h1))
  rcases aw rb w.heap.size with h2|h2
  ·exact .inr (.inr (h.own rb h2 h1))
  exact .inr (.inl h2)
end
section
open Go.RowKit
section
variable [Glob]{F:Nat->Prop}{nu:Nat->Option Nat}{A:Heap}{w:World}
def upd (nu:Nat->Option Nat) (b rb:Nat):Nat->Option Nat:=λk=>if k=b then some rb else nu k
def upd_same (b rb:Nat):upd nu b rb b=some rb:=by simp[upd]
def qec (i:Inv F nu A w) (rb:Nat):∀b r,nu b=some r->upd nu A.length rb b=some r:=by
 intro b r h
 have:b≠A.length:=λe=>by rw[i.fresh b (by omega)]at h;cases h
 simp[upd,this,h]
def RE.mono {F':Nat->Prop}{nu':Nat->Option Nat}{w':World}(x:Ext F nu w F' nu' w') {y:Ent}{v:Value}(hh:∀g n cap,v= .slice (some ⟨g,0,none⟩) n cap->0<n->(∃k cs,y= .own k cs)->w'.heap[g]? =w.heap[g]? /\(F' g->F g)) (h:RE F nu w y v):RE F' nu' w' y v:=by
 cases y with
 |av a=>exact R.mono x h
 |own k cs=>
  obtain h|⟨g,n,cap,vs,e,rfl,h0,h1,h2,h3,h4,h5,h6,h7⟩:=h
  ·exact .inl h
  obtain⟨q1,q2⟩:=hh g n cap rfl h0 ⟨k,cs,rfl⟩;exact .inr ⟨g,n,cap,vs,e,rfl,h0,h1,h2,h3,λhf=>h4 (q2 hf),q1.trans h5,h6,λi a v ha hv=>(h7 i a v ha hv).mono x⟩
def RB.monoF {F':Nat->Prop}{nu':Nat->Option Nat}{w':World}(x:Ext F nu w F' nu' w') {rb:Nat}{k:Blk}(hh:∀r,Ft w rb k r->w'.heap[r]? =w.heap[r]?) (hF:∀r,Ft w rb k r->F' r->F r) (h:RB F nu w rb k):RB F' nu' w' rb k:=by
 have hrb:=hh rb (.inl rfl);have hFrb:=hF rb (.inl rfl)
 cases k with
 |dead=>trivial
 |cells cs=>
  obtain⟨h0,vs,e,h1,h2,h3⟩:=h;exact⟨λhf=>h0 (hFrb hf),vs,e,hrb.trans h1,h2,λi a v ha hv=>(h3 i a v ha hv).mono x⟩
 |bag es=>
  obtain⟨h0,vs,e,h1,h2,h3,h4,h5⟩:=h;refine⟨λhf=>h0 (hFrb hf),vs,e,hrb.trans h1,h2,λi a v ha hv=>(h3 i a v ha hv).mono x ?_,h4,h5⟩;rintro g n cap rfl hn ⟨k,cs,rfl⟩;have:Ft w rb (.bag es) g:= .inr ⟨vs,e,i,h1,k,cs,n,cap,ha,hv,hn⟩;exact⟨hh g this,hF g this⟩
 |frozen cs=>
  obtain⟨h0,vs,e,fr,h1,h2,h3⟩:=h;exact⟨x.f _ h0,vs,e,fr,hrb.trans h1,h2,λi a v ha hv=>(h3 i a v ha hv).mono x⟩
 |map ks xs=>
  obtain⟨h0,es,c,h1,h2,h3,h4,h5,h6⟩:=h;exact⟨λhf=>h0 (hFrb hf),es,c,hrb.trans h1,h2,h3,λi a v ha hv=>(h4 i a v ha hv).mono x,λi a v ha hv=>(h5 i a v ha hv).mono x,h6⟩
 |iter s pos=>
  obtain⟨h0,bs,h1,h2⟩:=h;exact⟨λhf=>h0 (hFrb hf),bs,hrb.trans h1,h2⟩
 |bld T e cs=>
  obtain⟨h0,vs,h1,h2,h3,h4⟩:=h;exact⟨λhf=>h0 (hFrb hf),vs,hrb.trans h1,h2,λi a v ha hv=>(h3 i a v ha hv).mono x,λi g n cap hv=>x.shape _ _ (h4 i g n cap hv)⟩
 |loop st pend fr ps asg body=>
  obtain⟨h0,fn,tmps,dd,h1,h2⟩:=h;exact⟨λhf=>h0 (hFrb hf),fn,tmps,dd,hrb.trans h1,h2.mono x⟩
def Inv.keepB (i:Inv F nu A w) {F':Nat->Prop}{nu':Nat->Option Nat}{w':World}(x:Ext F nu w F' nu' w') {b rb:Nat}{k:Blk}(hb:nu b=some rb) (hk:A[b]? =some k) (hh:k.owned=true->∀r,Ft w rb k r->w'.heap[r]? =w.heap[r]? /\(F' r->F r)):RB F' nu' w' rb k:=by
 have h0:=i.blk b rb k hb hk;by_cases ho:k.owned=true
 ·exact h0.monoF x (λr hr=>(hh ho r hr).1) (λr hr=>(hh ho r hr).2)
 cases k with
 |dead=>trivial
 |frozen cs=>
  refine h0.monoF x (λr hr=>?_) (λr hr=>?_)
  ·have e:=Ft.one (by intro es e;cases e) hr;subst e;exact x.keep _ h0.1
  have e:=Ft.one (by intro es e;cases e) hr
  subst e;exact λ_=>h0.1
 |_=>simp[Blk.owned]at ho
def Stp.same (i:Inv F nu A w) {w':World}(hh:w'.heap=w.heap) (ho:w'.os=w.os) (ht:w'.tape=w.tape) (hp:w'.output=w.output):Stp F nu A w F nu A w':=by
 have x:Ext F nu w F nu w':=⟨λ_ h=>h,λ_ _ h=>h,λ_ _=>by rw[hh],λrb s hs=>by rw[<-hs];simp[World.shape?,hh]⟩
 exact⟨x.f,x.n,x.shape,⟨λb rb k hb hk=>i.keepB x hb hk λ_ r _=>⟨by rw[hh],id⟩,λb b' rb rb' y y' r hb hb' hy hy' ho ho' hr hr'=>i.injF b b' rb rb' y y' r hb hb' hy hy' ho ho' (hr.same (by rw[hh])) (hr'.same (by rw[hh])),i.fresh,λrb h=>by rw[hh];exact i.ltF rb h,λb rb h=>by rw[hh];exact i.ltN b rb h,Glob.ext i.glob x⟩,
  λ_ _ _=>by rw[hh],λrb _ ⟨b,y,r,h1,h2,h3,h4⟩=>⟨b,y,r,h1,h2,h3,h4.same (by rw[hh])⟩,by rw[hh];exact ai _,ho,ht,hp,λ_ _=>rfl,ai _,λ_ h=> .inl h⟩
def Stp.drew (i:Inv F nu A w):Stp F nu A w F nu A w.drew:=Stp.same i rfl rfl rfl rfl
def qb7 (o:Obj) (rb:Nat) (s:TypeId×Nat) (h:w.shape? rb=some s):(w.alloc o).shape? rb=some s:=by
 have hlt:rb<w.heap.size:=by
  rcases aw rb w.heap.size with h1|h1
  ·exact h1
  simp[World.shape?,Array.getElem?_eq_none h1]at h
 rw[<-h];simp only[World.shape?,Go.heap_alloc_old w o rb hlt]
def Stp.alloc (i:Inv F nu A w) (o:Obj) (k:Blk) (hk:RB F (upd nu A.length w.heap.size) (w.alloc o) w.heap.size k) (hnb:∀es,k≠ .bag es:=by intro es e;cases e):Stp F nu A w F (upd nu A.length w.heap.size) (A++[k]) (w.alloc o):=by
 have x:Ext F nu w F (upd nu A.length w.heap.size) (w.alloc o):=
  ⟨λ_ h=>h,qec i _,λrb h=>Go.heap_alloc_old w o rb (i.ltF rb h),λrb s hs=>qb7 o rb s hs⟩
 have split:∀b rb,upd nu A.length w.heap.size b=some rb->(b=A.length/\rb=w.heap.size)\/(nu b=some rb/\b≠A.length):=by
  intro b rb h;simp only[upd]at h;split at h
  ·rename_i e;injection h with h;exact .inl ⟨e,h.symm⟩
  rename_i e;exact .inr ⟨h,e⟩
 have atOld:∀b y,b≠A.length->(A++[k])[b]? =some y->A[b]? =some y:=by
  intro b y hb hy;rcases aw b A.length with h|h
  ·rwa [Yf h]at hy
  have:(A++[k]).length<=b:=by simp;omega
  rw[Yg this]at hy;cases hy
 have atNew:∀y,(A++[k])[A.length]? =some y->y=k:=by
  intro y hy;simp at hy;exact hy.symm
 have ftOld:∀{b rb y r},nu b=some rb->Ft (w.alloc o) rb y r->Ft w rb y r:=λhb hf=>hf.same (Go.heap_alloc_old w o _ (i.ltN _ _ hb))
 have inv:Inv F (upd nu A.length w.heap.size) (A++[k]) (w.alloc o):=by
  refine⟨λb rb y hb hy=>?_,λb b' rb rb' y y' r hb hb' hy hy' ho ho' hr hr'=>?_,λb hb=>?_,λrb h=>?_,λb rb h=>?_,Glob.ext i.glob x⟩
  ·rcases split b rb hb with⟨rfl,rfl⟩|⟨h1,h2⟩
   ·rw[atNew y hy];exact hk
   exact i.keepB x h1 (atOld b y h2 hy) λho r hr=>⟨Go.heap_alloc_old w o r (i.ftF h1 (atOld b y h2 hy) ho hr).2,id⟩
  ·rcases split b rb hb with⟨rfl,rfl⟩|⟨h1,h2⟩
   ·rcases split b' rb' hb' with⟨rfl,_⟩|⟨h1',h2'⟩
    ·rfl
    rw[atNew y hy]at hr;have e:=Ft.one hnb hr;have:=(i.ftF h1' (atOld b' y' h2' hy') ho' (ftOld h1' hr')).2;omega
   rcases split b' rb' hb' with⟨rfl,rfl⟩|⟨h1',h2'⟩
   ·rw[atNew y' hy']at hr';have e:=Ft.one hnb hr';have:=(i.ftF h1 (atOld b y h2 hy) ho (ftOld h1 hr)).2;omega
   exact i.injF b b' rb rb' y y' r h1 h1' (atOld b y h2 hy) (atOld b' y' h2' hy') ho ho' (ftOld h1 hr) (ftOld h1' hr')
  ·have h1:A.length+1<=b:=by simpa using hb
   simp only[upd];rw[aa (by omega)];exact i.fresh b (by omega)
  ·have:=i.ltF rb h;simp;omega
  rcases split b rb h with⟨_,rfl⟩|⟨h1,_⟩
  ·simp
  have:=i.ltN b rb h1;simp;omega
 refine⟨x.f,x.n,x.shape,inv,λrb hlt _=>Go.heap_alloc_old w o rb hlt,?_,by simp,rfl,rfl,rfl,λb hb=>by simp only[upd];rw[aa (by omega)],by simp,λ_ h=> .inl h⟩;rintro r hlt ⟨b,y,rb,hb,hy,ho,hf⟩;rcases split b rb hb with⟨rfl,rfl⟩|⟨h1,h2⟩
 ·rw[atNew y hy]at hf;have e:=Ft.one hnb hf;omega
 exact⟨b,y,rb,h1,atOld b y h2 hy,ho,ftOld h1 hf⟩
def Ug (i:Inv F nu A w) (vs:Array Value) (e:TypeId) (cs:List AV) (hl:cs.length<=vs.size) (hR:∀(j:Nat) (a:AV) (v:Value),cs[j]? =some a->vs[j]? =some v->R F nu w a v):
 Stp F nu A w F (upd nu A.length w.heap.size) (A++[.cells cs]) (w.alloc (.cells vs e)):=by
 have x:Ext F nu w F (upd nu A.length w.heap.size) (w.alloc (.cells vs e)):=
  ⟨λ_ h=>h,qec i _,λrb h=>Go.heap_alloc_old w _ rb (i.ltF rb h),λrb s hs=>qb7 _ rb s hs⟩
 exact Stp.alloc i _ _ ⟨λh=>absurd (i.ltF _ h) (by omega),vs,e,Go.heap_alloc_new w _,hl,λj a v ha hv=>(hR j a v ha hv).mono x⟩
def getElem?_set' {A:Heap}{b c:Nat}{k y:Blk}(h:(A.set b k)[c]? =some y):(b=c/\y=k)\/(b≠c/\A[c]? =some y):=by
 rw[List.getElem?_set]at h;split at h
 ·rename_i e;split at h
  ·injection h with h;exact .inl ⟨e,h.symm⟩
  cases h
 rename_i e;exact .inr ⟨e,h⟩
def Stp.writeF (i:Inv F nu A w) {b rb:Nat}{k0 k:Blk}{w':World}(hb:nu b=some rb) (hA:A[b]? =some k0) (ho0:k0.owned=true)
 (hoth:∀r,¬Ft w rb k0 r->w'.heap[r]? =w.heap[r]?) (hsz:w'.heap.size=w.heap.size) (hsh:∀r,Ft w rb k0 r->∀s,w.shape? r=some s->w'.shape? r=some s)
 (hos:w'.os=w.os) (ht:w'.tape=w.tape) (hp:w'.output=w.output) (hft:∀r,Ft w' rb k r->Ft w rb k0 r) (hk:(∀r,Ft w rb k0 r->¬F r)->RB F nu w' rb k):Stp F nu A w F nu (A.set b k) w':=by
 have hnF:∀r,Ft w rb k0 r->¬F r:=λr hr=>(i.ftF hb hA ho0 hr).1
 have x:Ext F nu w F nu w':=⟨λ_ h=>h,λ_ _ h=>h,λr h=>hoth r (λe=>hnF r e h),λr s hs=>by
  by_cases e:Ft w rb k0 r
  ·exact hsh r e s hs
  rw[<-hs];simp only[World.shape?,hoth r e]⟩
 have ftOld:∀{c rc y r},b≠c->nu c=some rc->A[c]? =some y->y.owned=true->Ft w' rc y r->Ft w rc y r:=λhne hc hy ho hf=>
  hf.same (hoth _ λe=>hne (i.injF b _ rb _ k0 _ _ hb hc hA hy ho0 ho e (.inl rfl)))
 refine⟨x.f,x.n,x.shape,⟨λc r y hc hy=>?_,λc c' rc rc' y y' r hc hc' hy hy' ho ho' hr hr'=>?_,λc hc=>i.fresh c (by simpa using hc),λr h=>by rw[hsz];exact i.ltF r h,λc r h=>by rw[hsz];exact i.ltN c r h,Glob.ext i.glob x⟩,
  λr hlt hno=>hoth r (λe=>hno ⟨b,k0,rb,hb,hA,ho0,e⟩),?_,by omega,hos,ht,hp,λ_ _=>rfl,by simp,λ_ h=> .inl h⟩
 ·rcases getElem?_set' hy with⟨rfl,rfl⟩|⟨hne,hy⟩
  ·rw[hb]at hc;injection hc with hc;subst hc;exact hk hnF
  exact i.keepB x hc hy λhyo q hq=>⟨hoth q λe=>hne (i.injF b c rb r k0 y q hb hc hA hy ho0 hyo e hq),id⟩
 ·rcases getElem?_set' hy with⟨e1,e1'⟩|⟨hne,hy1⟩
  ·rcases getElem?_set' hy' with⟨e2,_⟩|⟨hne',hy2⟩
   ·exact e1.symm.trans e2
   subst e1 e1';rw[hb]at hc;injection hc with hc;subst hc;exact i.injF b c' rb rc' k0 y' r hb hc' hA hy2 ho0 ho' (hft r hr) (ftOld hne' hc' hy2 ho' hr')
  rcases getElem?_set' hy' with⟨e2,e2'⟩|⟨hne',hy2⟩
  ·subst e2 e2';rw[hb]at hc';injection hc' with hc';subst hc';exact i.injF c b rc rb y k0 r hc hb hy1 hA ho ho0 (ftOld hne hc hy1 ho hr) (hft r hr')
  exact i.injF c c' rc rc' y y' r hc hc' hy1 hy2 ho ho' (ftOld hne hc hy1 ho hr) (ftOld hne' hc' hy2 ho' hr')
 rintro r hlt ⟨c,y,rc,hc,hy,ho,hf⟩;rcases getElem?_set' hy with⟨rfl,rfl⟩|⟨hne,hy⟩
 ·rw[hb]at hc;injection hc with hc;subst hc;exact⟨b,k0,rb,hb,hA,ho0,hft r hf⟩
 exact⟨c,y,rc,hc,hy,ho,ftOld hne hc hy ho hf⟩
def U2 (i:Inv F nu A w) {b rb:Nat}{k0 k:Blk}{w':World}(hb:nu b=some rb) (hA:A[b]? =some k0) (ho0:k0.owned=true) (_hok:k.owned=true)
 (hoth:∀r,r≠rb->w'.heap[r]? =w.heap[r]?) (hsz:w'.heap.size=w.heap.size) (hsh:∀s,w.shape? rb=some s->w'.shape? rb=some s)
 (hos:w'.os=w.os) (ht:w'.tape=w.tape) (hp:w'.output=w.output) (hk:¬F rb->RB F nu w' rb k) (hnb:∀es,k≠ .bag es:=by intro es e;cases e):Stp F nu A w F nu (A.set b k) w':=by
 refine Stp.writeF i hb hA ho0 (λr hr=>hoth r λe=>hr (.inl e)) hsz (λr hr s hs=>?_) hos ht hp (λr hr=> .inl (Ft.one hnb hr)) λh=>hk (h rb (.inl rfl))
 by_cases e:r=rb
 ·subst e;exact hsh s hs
 rw[<-hs];simp only[World.shape?,hoth r e]
def Stp.setRow (i:Inv F nu A w) {b rb:Nat}{cs0 cs:List AV}{vs0 vs:Array Value}{e:TypeId}(hb:nu b=some rb) (hA:A[b]? =some (.cells cs0)) (hw:w.heap[rb]? =some (.cells vs0 e (0,0)))
 (hs:vs.size=vs0.size) (hl:cs.length<=vs.size) (hR:∀(j:Nat) (a:AV) (v:Value),cs[j]? =some a->vs[j]? =some v->R F nu w a v):Stp F nu A w F nu (A.set b (.cells cs)) (w.setRow rb vs):=by
 have hoth:∀r,r≠rb->(w.setRow rb vs).heap[r]? =w.heap[r]? :=λr h=>setRow_other w rb r vs h
 have hsh:∀r s,w.shape? r=some s->(w.setRow rb vs).shape? r=some s:=by
  intro r s h;by_cases e1:r=rb
  ·subst e1;rw[<-h];simp only[World.shape?,hw,setRow_heap w r vs0 vs e (0,0) hw,hs]
  rw[<-h];simp only[World.shape?,hoth r e1]
 refine U2 i hb hA rfl rfl hoth (by simp[World.setRow]) (λs h=>hsh rb s h) rfl rfl rfl (λhnF=>?_);refine⟨hnF,vs,e,setRow_heap w rb vs0 vs e (0,0) hw,hl,λj a v ha hv=>(hR j a v ha hv).mono ⟨λ_ h=>h,λ_ _ h=>h,λr h=>hoth r (λe2=>hnF (e2▸h)),hsh⟩⟩
def Stp.setBag (i:Inv F nu A w) {b rb off:Nat}{es:List Ent}{a:AV}{vs0 vs:Array Value}{e:TypeId}(hb:nu b=some rb) (hA:A[b]? =some (.bag es)) (hw:w.heap[rb]? =some (.cells vs0 e (0,0)))
 (hs:vs.size=vs0.size) (ho:off<es.length) (hsame:∀j,j≠off->vs[j]? =vs0[j]?) (hR:∀v,vs[off]? =some v->R F nu w a v):Stp F nu A w F nu (A.set b (.bag (es.set off (.av a)))) (w.setRow rb vs):=by
 have hoth:∀r,r≠rb->(w.setRow rb vs).heap[r]? =w.heap[r]? :=λr h=>setRow_other w rb r vs h
 have hsh:∀r s,w.shape? r=some s->(w.setRow rb vs).shape? r=some s:=by
  intro r s h;by_cases e1:r=rb
  ·subst e1;rw[<-h];simp only[World.shape?,hw,setRow_heap w r vs0 vs e (0,0) hw,hs]
  rw[<-h];simp only[World.shape?,hoth r e1]
 obtain⟨h0,vs1,e1,h1,h2,h3,h4,h5⟩:=i.blk b rb _ hb hA;rw[hw]at h1;simp only[ZI,Obj.cells.injEq]at h1;obtain⟨rfl,rfl,_⟩:=h1
 have own:∀j r,OwnAt (es.set off (.av a)) vs j r->OwnAt es vs0 j r:=by
  rintro j r ⟨k,cs,n,cap,g1,g2,g3⟩;rw[List.getElem?_set]at g1;split at g1
  ·simp at g1
  rename_i hne;exact⟨k,cs,n,cap,g1,(hsame j (λe=>hne e.symm))▸g2,g3⟩
 have hh:=setRow_heap w rb vs0 vs e (0,0) hw;have x:Ext F nu w F nu (w.setRow rb vs):=⟨λ_ h=>h,λ_ _ h=>h,λr h=>hoth r (λe2=>h0 (e2▸h)),hsh⟩;refine Stp.writeF i hb hA rfl (λr hr=>hoth r λe=>hr (.inl e)) (by simp[World.setRow]) (λr _=>hsh r) rfl rfl rfl (λr hr=>?_) (λ_=>⟨h0,vs,e,hh,by simp only[Yk];omega,λj y v hy hv=>?_,λj r hj=>h4 j r (own j r hj),λj j' r hj hj'=>h5 j j' r (own j r hj) (own j' r hj')⟩)
 ·rcases hr with hr|⟨vs',e',j,g1,g2⟩
  ·exact .inl hr
  rw[hh]at g1;simp only[ZI,Obj.cells.injEq]at g1;obtain⟨rfl,rfl,_⟩:=g1;exact .inr ⟨vs0,e,j,hw,own j r g2⟩
 rw[List.getElem?_set]at hy;split at hy
 ·rename_i ej;subst ej;simp only[ZI]at hy;subst hy;exact(hR v hv).mono x
 rename_i hne;rw[hsame j (λe=>hne e.symm)]at hv;refine(h3 j y v hy hv).mono x ?_;rintro g n cap rfl hn ⟨k,cs,rfl⟩;exact⟨hoth g (h4 j g ⟨k,cs,n,cap,hy,hv,hn⟩),id⟩
def Uv (i:Inv F nu A w) (b:Nat):Stp F nu A w F nu (A.set b .dead) w:=by
 refine⟨λ_ h=>h,λ_ _ h=>h,λ_ _ h=>h,⟨λc r y hc hy=>?_,λc c' rc rc' y y' r hc hc' hy hy' ho ho' hr hr'=>?_,λc hc=>i.fresh c (by simpa using hc),i.ltF,i.ltN,i.glob⟩,λ_ _ _=>rfl,?_,ai _,rfl,rfl,rfl,λ_ _=>rfl,by simp,λ_ h=> .inl h⟩
 ·rcases getElem?_set' hy with⟨_,rfl⟩|⟨_,hy⟩
  ·trivial
  exact i.blk c r y hc hy
 ·rcases getElem?_set' hy with⟨_,rfl⟩|⟨_,hy⟩
  ·cases ho
  rcases getElem?_set' hy' with⟨_,rfl⟩|⟨_,hy'⟩
  ·cases ho'
  exact i.injF c c' rc rc' y y' r hc hc' hy hy' ho ho' hr hr'
 rintro r _ ⟨c,y,rc,hc,hy,ho,hf⟩;rcases getElem?_set' hy with⟨_,rfl⟩|⟨_,hy⟩
 ·cases ho
 exact⟨c,y,rc,hc,hy,ho,hf⟩
def Uw (i:Inv F nu A w) {b rb:Nat}{k:Blk}(hb:nu b=some rb) (hA:A[b]? =some k) (ho0:k.owned=true):Stp F nu A w F (upd nu A.length rb) (A.set b .dead++[k]) w:=by
 have x:Ext F nu w F (upd nu A.length rb) w:=⟨λ_ h=>h,qec i _,λ_ _=>rfl,λ_ _ h=>h⟩;have hlt:rb<w.heap.size:=i.ltN b rb hb;have hbl:b<A.length:=(Yb.1 hA).1
 have split:∀c r y,upd nu A.length rb c=some r->(A.set b .dead++[k])[c]? =some y->(c=A.length/\r=rb/\y=k)\/(c≠A.length/\nu c=some r/\((c=b/\y= .dead)\/(c≠b/\A[c]? =some y))):=by
  intro c r y hc hy;by_cases e:c=A.length
  ·subst e;simp only[upd,aT,ZI]at hc
   have:(A.set b .dead++[k])[A.length]? =some k:=by
    simp
   rw[this]at hy;injection hy with hy;exact .inl ⟨rfl,hc.symm,hy.symm⟩
  simp only[upd,aa e]at hc;refine .inr ⟨e,hc,?_⟩;rcases aw c A.length with h|h
  ·rw[Yf (by simpa using h)]at hy;rcases getElem?_set' hy with⟨h1,h2⟩|⟨h1,h2⟩
   ·exact .inl ⟨h1.symm,h2⟩
   exact .inr ⟨λe=>h1 e.symm,h2⟩
  rw[Yg (by simp;omega)]at hy;cases hy
 refine⟨x.f,x.n,x.shape,⟨λc r y hc hy=>?_,λc c' r r' y y' q hc hc' hy hy' ho ho' hq hq'=>?_,λc hc=>?_,i.ltF,λc r h=>?_,Glob.ext i.glob x⟩,λ_ _ _=>rfl,?_,ai _,rfl,rfl,rfl,λc hc=>by simp only[upd];rw[aa (by omega)],by simp,λ_ h=> .inl h⟩
 ·rcases split c r y hc hy with⟨_,rfl,rfl⟩|⟨_,h1,⟨_,rfl⟩|⟨_,h2⟩⟩
  ·exact i.keepB x hb hA λ_ _ _=>⟨rfl,id⟩
  ·trivial
  exact i.keepB x h1 h2 λ_ _ _=>⟨rfl,id⟩
 ·rcases split c r y hc hy with⟨e1,e2,e3⟩|⟨e0,h1,⟨_,e3⟩|⟨h3,h2⟩⟩
  ·rcases split c' r' y' hc' hy' with⟨e1',_,_⟩|⟨_,h1',⟨_,e3'⟩|⟨h3',h2'⟩⟩
   ·rw[e1,e1']
   ·subst e3';cases ho'
   subst e2 e3;exact absurd (i.injF b c' _ r' _ y' q hb h1' hA h2' ho0 ho' hq hq').symm h3'
  ·subst e3;cases ho
  rcases split c' r' y' hc' hy' with⟨e1',e2',e3'⟩|⟨_,h1',⟨_,e3'⟩|⟨h3',h2'⟩⟩
  ·subst e2' e3';exact absurd (i.injF b c _ r _ y q hb h1 hA h2 ho0 ho hq' hq).symm h3
  ·subst e3';cases ho'
  exact i.injF c c' r r' y y' q h1 h1' h2 h2' ho ho' hq hq'
 ·have h1:A.length+1<=c:=by simpa using hc
  simp only[upd];rw[aa (by omega)];exact i.fresh c (by omega)
 ·simp only[upd]at h;split at h
  ·injection h with h;omega
  exact i.ltN c r h
 rintro q _ ⟨c,y,r,hc,hy,ho,hf⟩;rcases split c r y hc hy with⟨_,e2,e3⟩|⟨_,h1,⟨_,e3⟩|⟨_,h2⟩⟩
 ·subst e2 e3;exact⟨b,_,_,hb,hA,ho0,hf⟩
 ·subst e3;cases ho
 exact⟨c,y,r,h1,h2,ho,hf⟩
def Stp.hidden (i:Inv F nu A w) (o:Obj):Stp F nu A w F nu A (w.alloc o):=by
 have x:Ext F nu w F nu (w.alloc o):=⟨λ_ h=>h,λ_ _ h=>h,λrb h=>Go.heap_alloc_old w o rb (i.ltF rb h),λrb s hs=>qb7 o rb s hs⟩
 have ftOld:∀{b rb y r},nu b=some rb->Ft (w.alloc o) rb y r->Ft w rb y r:=λhb hf=>hf.same (Go.heap_alloc_old w o _ (i.ltN _ _ hb))
 refine⟨x.f,x.n,x.shape,⟨λb rb k hb hk=>i.keepB x hb hk λho r hr=>⟨Go.heap_alloc_old w o r (i.ftF hb hk ho hr).2,id⟩,
  λb b' rb rb' y y' r hb hb' hy hy' ho ho' hr hr'=>i.injF b b' rb rb' y y' r hb hb' hy hy' ho ho' (ftOld hb hr) (ftOld hb' hr'),i.fresh,λrb h=>?_,λb rb h=>?_,Glob.ext i.glob x⟩,
  λrb hlt _=>Go.heap_alloc_old w o rb hlt,λr _ ⟨b,y,rb,h1,h2,h3,h4⟩=>⟨b,y,rb,h1,h2,h3,ftOld h1 h4⟩,by simp,rfl,rfl,rfl,λ_ _=>rfl,ai _,λ_ h=> .inl h⟩
 ·have:=i.ltF rb h;simp;omega
 have:=i.ltN b rb h;simp;omega
def Stp.touch {F':Nat->Prop}{nu':Nat->Option Nat}{A':Heap}{w':World}(st:Stp F nu A w F' nu' A' w') {r:Nat}{o:Obj}(hr:w.heap.size<=r) (hno:¬qa5 nu' A' w' r) (hF:¬F' r) (hs:w'.shape? r=none):Stp F nu A w F' nu' A' (w'.putObj r o)/\Ext F' nu' w' F' nu' (w'.putObj r o):=by
 have hoth:∀k,k≠r->(w'.putObj r o).heap[k]? =w'.heap[k]? :=λk hk=>World.putObj_heap_other hk
 have x:Ext F' nu' w' F' nu' (w'.putObj r o):=⟨λ_ h=>h,λ_ _ h=>h,λk hk=>hoth k (λe=>hF (e▸hk)),λk s hk=>by
  have:k≠r:=λe=>by rw[e,hs]at hk;cases hk
  rw[<-hk];simp only[World.shape?,hoth k this]⟩
 have ftOld:∀{b rb y q},nu' b=some rb->A'[b]? =some y->y.owned=true->Ft (w'.putObj r o) rb y q->Ft w' rb y q:=λhb hy ho hf=>
  hf.same (hoth _ λe=>hno (e▸qa5.of hb hy ho))
 refine⟨⟨st.f,st.n,λrb s h=>x.shape rb s (st.shape rb s h),⟨λb rb k hb hk=>st.inv.keepB x hb hk λho q hq=>⟨hoth q λe=>hno (e▸⟨b,k,rb,hb,hk,ho,hq⟩),id⟩,
  λb b' rb rb' y y' q hb hb' hy hy' ho ho' hq hq'=>st.inv.injF b b' rb rb' y y' q hb hb' hy hy' ho ho' (ftOld hb hy ho hq) (ftOld hb' hy' ho' hq'),st.inv.fresh,λrb h=>by simpa using st.inv.ltF rb h,λb rb h=>by simpa using st.inv.ltN b rb h,Glob.ext st.inv.glob x⟩,
  λrb hlt hn=>(hoth rb (by omega)).trans (st.keep rb hlt hn),λq hlt ⟨b,y,rb,h1,h2,h3,h4⟩=>st.own q hlt ⟨b,y,rb,h1,h2,h3,ftOld h1 h2 h3 h4⟩,by simpa using st.size,st.os,st.tape,st.output,st.old,st.len,st.newF⟩,x⟩
def Stp.setLoop (i:Inv F nu A w) {b rb:Nat}{k0:Blk}{r0:Loop}{st:LoopState}{pend:Option Code}{fr:Fr}{ps:Array Tmp}{asg body:Code}{r:Loop}(hb:nu b=some rb) (hA:A[b]? =some k0) (ho0:k0.owned=true)
 (hw:w.heap[rb]? =some (.loop r0)) (hr:r={state:=st,pending:=pend,fn:=r.fn,tmps:=r.tmps,params:=ps,assign:=asg,body:=body,defers:=r.defers}) (hfr:RF F nu w fr r.tmps):Stp F nu A w F nu (A.set b (.loop st pend fr ps asg body)) (w.putObj rb (.loop r)):=by
 have hlt:rb<w.heap.size:=i.ltN b rb hb
 have hoth:∀k,k≠rb->(w.putObj rb (.loop r)).heap[k]? =w.heap[k]? :=λk hk=>World.putObj_heap_other hk
 have hsh:∀s,w.shape? rb=some s->(w.putObj rb (.loop r)).shape? rb=some s:=by
  intro s h;simp[World.shape?,hw]at h
 refine U2 i hb hA ho0 rfl hoth (by simp) hsh rfl rfl rfl (λhnF=>⟨hnF,r.fn,r.tmps,r.defers,?_,hfr.mono ?_⟩)
 ·rw[World.putObj_heap_same hlt];exact az (λr=>some (Obj.loop r)) hr
 refine⟨λ_ h=>h,λ_ _ h=>h,λk hk=>hoth k (λe=>hnF (e▸hk)),λk s hk=>?_⟩;by_cases e:k=rb
 ·subst e;exact hsh s hk
 rw[<-hk];simp only[World.shape?,hoth k e]
def Stp.still (i:Inv F nu A w) {A':Heap}(hl:A'.length=A.length) (hblk:∀b rb x,nu b=some rb->A'[b]? =some x->RB F nu w rb x)
 (hft:∀b rb x r,nu b=some rb->A'[b]? =some x->x.owned=true->Ft w rb x r->qa5 nu A w r)
 (hinj:∀b b' rb rb' x x' r,nu b=some rb->nu b'=some rb'->A'[b]? =some x->A'[b']? =some x'->x.owned=true->x'.owned=true->Ft w rb x r->Ft w rb' x' r->b=b'):Stp F nu A w F nu A' w:=
 ⟨λ_ h=>h,λ_ _ h=>h,λ_ _ h=>h,⟨hblk,hinj,λb hb=>i.fresh b (by omega),i.ltF,i.ltN,i.glob⟩,λ_ _ _=>rfl,λr _ ⟨b,x,rb,h1,h2,h3,h4⟩=>hft b rb x r h1 h2 h3 h4,ai _,rfl,rfl,rfl,λ_ _=>rfl,by omega,λ_ h=> .inl h⟩
def OwnAt.pre {es:List Ent}{vs0 vs:Array Value}{a:AV}(hsame:∀j,j<es.length->vs[j]? =vs0[j]?) {j r:Nat}(h:OwnAt (es++[.av a]) vs j r):OwnAt es vs0 j r:=by
 obtain⟨k,cs,n,cap,h1,h2,h3⟩:=h;rcases aw j es.length with hj|hj
 ·rw[Yf hj]at h1;exact⟨k,cs,n,cap,h1,hsame j hj▸h2,h3⟩
 rw[Yo hj]at h1
 cases e:j-es.length with
 |zero=>rw[e]at h1;simp at h1
 |succ q=>rw[e]at h1;simp at h1
def Stp.bagGrow (i:Inv F nu A w) {b:Nat}{es:List Ent}(hA:A[b]? =some (.bag es)) (hroom:∀rb vs e,nu b=some rb->w.heap[rb]? =some (.cells vs e (0,0))->es.length+1<=vs.size):Stp F nu A w F nu (A.set b (.bag (es++[.av .undef]))) w:=by
 have ft:∀{rb r:Nat},Ft w rb (.bag (es++[.av .undef])) r->Ft w rb (.bag es) r:=by
  rintro rb r (h|⟨vs,e,j,h1,h2⟩)
  ·exact .inl h
  exact .inr ⟨vs,e,j,h1,h2.pre λ_ _=>rfl⟩
 refine Stp.still i (by simp) (λc rb x hc hx=>?_) (λc rb x r hc hx ho hf=>?_) (λc c' rb rb' x x' r hc hc' hx hx' ho ho' hr hr'=>?_)
 ·rcases getElem?_set' hx with⟨rfl,rfl⟩|⟨_,hx⟩
  ·obtain⟨h0,vs,e,h1,h2,h3,h4,h5⟩:=i.blk _ rb _ hc hA;refine⟨h0,vs,e,h1,by have:=hroom rb vs e hc h1;simpa using this,λz y v hy hz=>?_,λz r hz=>h4 z r (hz.pre λ_ _=>rfl),λz z' r hz hz'=>h5 z z' r (hz.pre λ_ _=>rfl) (hz'.pre λ_ _=>rfl)⟩;rcases aw z es.length with hj|hj
   ·rw[Yf hj]at hy;exact h3 z y v hy hz
   rw[Yo hj]at hy;have:=Yn hy;simp at this;subst this;exact .undef v
  exact i.blk c rb x hc hx
 ·rcases getElem?_set' hx with⟨rfl,rfl⟩|⟨_,hx⟩
  ·exact⟨_,_,rb,hc,hA,rfl,ft hf⟩
  exact⟨c,x,rb,hc,hx,ho,hf⟩
 rcases getElem?_set' hx with⟨e1,e1'⟩|⟨_,kx⟩
 ·rcases getElem?_set' hx' with⟨e2,_⟩|⟨_,kx'⟩
  ·exact e1.symm.trans e2
  subst e1 e1';exact i.injF b c' rb rb' _ x' r hc hc' hA kx' rfl ho' (ft hr) hr'
 rcases getElem?_set' hx' with⟨e2,e2'⟩|⟨_,kx'⟩
 ·subst e2 e2';exact i.injF c b rb rb' x _ r hc hc' kx hA ho rfl hr (ft hr')
 exact i.injF c c' rb rb' x x' r hc hc' kx kx' ho ho' hr hr'
def Stp.bagMove (i:Inv F nu A w) {b rb:Nat}{es:List Ent}{vs0 vs:Array Value}{e0 e:TypeId}{a:AV}(hb:nu b=some rb) (hA:A[b]? =some (.bag es)) (hh:w.heap[rb]? =some (.cells vs0 e0 (0,0)))
 (hsame:∀j,j<es.length->vs[j]? =vs0[j]?) (hlen:es.length+1<=vs.size) (hR:∀v,vs[es.length]? =some v->R F nu w a v):
 Stp F nu A w F (upd nu A.length w.heap.size) (A.set b .dead++[.bag (es++[.av a])]) (w.alloc (.cells vs e)):=by
 have x:Ext F nu w F (upd nu A.length w.heap.size) (w.alloc (.cells vs e)):=
  ⟨λ_ h=>h,qec i _,λrb h=>Go.heap_alloc_old w _ rb (i.ltF rb h),λrb s hs=>qb7 _ rb s hs⟩
 have hnew:=Go.heap_alloc_new w (.cells vs e);obtain⟨h0,vs1,e1,h1,h2,h3,h4,h5⟩:=i.blk b rb _ hb hA;rw[hh]at h1;simp only[ZI,Obj.cells.injEq]at h1;obtain⟨rfl,rfl,_⟩:=h1;have split:∀c r y,upd nu A.length w.heap.size c=some r->(A.set b .dead++[.bag (es++[.av a])])[c]? =some y->y.owned=true\/True->
  (c=A.length/\r=w.heap.size/\y= .bag (es++[.av a]))\/(c=b/\y= .dead)\/(c≠A.length/\c≠b/\nu c=some r/\A[c]? =some y):=by
  intro c r y hc hy _;by_cases ec:c=A.length
  ·subst ec;simp only[upd,aT,ZI]at hc;rw[Yo (by simp)]at hy;simp at hy;exact .inl ⟨rfl,hc.symm,hy.symm⟩
  simp only[upd,aa ec]at hc;rcases aw c A.length with h|h
  ·rw[Yf (by simpa using h)]at hy;rcases getElem?_set' hy with⟨rfl,rfl⟩|⟨h6,h7⟩
   ·exact .inr (.inl ⟨rfl,rfl⟩)
   exact .inr (.inr ⟨ec,λe=>h6 e.symm,hc,h7⟩)
  rw[i.fresh c h]at hc;cases hc
 have ftN:∀{r:Nat},Ft (w.alloc (.cells vs e)) w.heap.size (.bag (es++[.av a])) r->r=w.heap.size\/Ft w rb (.bag es) r:=by
  rintro r (h|⟨vs',e',j,g1,g2⟩)
  ·exact .inl h
  rw[hnew]at g1;simp only[ZI,Obj.cells.injEq]at g1;obtain⟨rfl,rfl,_⟩:=g1;exact .inr (.inr ⟨vs0,e0,j,hh,g2.pre hsame⟩)
 have ftOld:∀{c rc:Nat}{y:Blk}{r:Nat},nu c=some rc->Ft (w.alloc (.cells vs e)) rc y r->Ft w rc y r:=λhc hf=>hf.same (Go.heap_alloc_old w _ _ (i.ltN _ _ hc))
 have ownLt:∀j r,OwnAt es vs0 j r->r<w.heap.size:=λj r h=>(i.ftF hb hA rfl (.inr ⟨vs0,e0,j,hh,h⟩)).2
 refine⟨x.f,x.n,x.shape,⟨λc r y hc hy=>?_,λc c' r r' y y' z hc hc' hy hy' ho ho' hz hz'=>?_,λc hc=>?_,λr h=>?_,λc r hc=>?_,Glob.ext i.glob x⟩,λr hlt _=>Go.heap_alloc_old w _ r hlt,?_,by simp,rfl,rfl,rfl,λc hc=>by simp only[upd];rw[aa (by omega)],by simp,λ_ h=> .inl h⟩
 ·rcases split c r y hc hy (.inr trivial)with⟨_,rfl,rfl⟩|⟨_,rfl⟩|⟨_,_,h6,h7⟩
  ·refine⟨λh=>absurd (i.ltF _ h) (by omega),vs,e,hnew,by simpa using hlen,λz y v hy hz=>?_,λz r hz=>?_,λz z' r hz hz'=>h5 z z' r (hz.pre hsame) (hz'.pre hsame)⟩
   ·rcases aw z es.length with hj|hj
    ·rw[Yf hj]at hy;rw[hsame z hj]at hz;refine(h3 z y v hy hz).mono x ?_;rintro g n cap rfl hn ⟨k,cs,rfl⟩;exact⟨Go.heap_alloc_old w _ g (ownLt z g ⟨k,cs,n,cap,hy,hz,hn⟩),id⟩
    have hzl:z=es.length:=by
     have:=(Yb.1 hy).1;simp at this;omega
    subst hzl;rw[Yo (ai _)]at hy;simp at hy;subst hy;exact(hR v hz).mono x
   have:=ownLt z r (hz.pre hsame);omega
  ·trivial
  exact i.keepB x h6 h7 λho z hz=>⟨Go.heap_alloc_old w _ z (i.ftF h6 h7 ho hz).2,id⟩
 ·rcases split c r y hc hy (.inr trivial)with⟨e1,e2,e3⟩|⟨_,e3⟩|⟨g1,g2,h6,h7⟩
  ·rcases split c' r' y' hc' hy' (.inr trivial)with⟨e1',_,_⟩|⟨_,e3'⟩|⟨_,g2',h6',h7'⟩
   ·exact e1.trans e1'.symm
   ·subst e3';cases ho'
   subst e2 e3;have hz2:=ftOld h6' hz';rcases ftN hz with h|h
   ·have:=(i.ftF h6' h7' ho' hz2).2;omega
   exact absurd (i.injF b c' rb r' _ y' z hb h6' hA h7' rfl ho' h hz2).symm g2'
  ·subst e3;cases ho
  rcases split c' r' y' hc' hy' (.inr trivial)with⟨_,e2',e3'⟩|⟨_,e3'⟩|⟨_,g2',h6',h7'⟩
  ·subst e2' e3';have hz2:=ftOld h6 hz;rcases ftN hz' with h|h
   ·have:=(i.ftF h6 h7 ho hz2).2;omega
   exact absurd (i.injF b c rb r _ y z hb h6 hA h7 rfl ho h hz2).symm g2
  ·subst e3';cases ho'
  exact i.injF c c' r r' y y' z h6 h6' h7 h7' ho ho' (ftOld h6 hz) (ftOld h6' hz')
 ·have h6:A.length+1<=c:=by simpa using hc
  simp only[upd];rw[aa (by omega)];exact i.fresh c (by omega)
 ·have:=i.ltF r h;simp;omega
 ·simp only[upd]at hc;split at hc
  ·injection hc with hc;simp;omega
  have:=i.ltN c r hc;simp;omega
 rintro z hlt ⟨c,y,r,hc,hy,ho,hz⟩;rcases split c r y hc hy (.inr trivial)with⟨_,e2,e3⟩|⟨_,e3⟩|⟨_,_,h6,h7⟩
 ·subst e2 e3;rcases ftN hz with h|h
  ·omega
  exact⟨b,_,rb,hb,hA,rfl,h⟩
 ·subst e3;cases ho
 exact⟨c,y,r,h6,h7,ho,ftOld h6 hz⟩
def Stp.toBag (i:Inv F nu A w) {b:Nat}{cs:List AV}(hA:A[b]? =some (.cells cs)):Stp F nu A w F nu (A.set b (.bag (cs.map .av))) w:=by
 have noOwn:∀(vs:Array Value) (j r:Nat),¬OwnAt (cs.map .av) vs j r:=by
  rintro vs j r ⟨k,ds,n,cap,h1,_⟩;rw[YA]at h1;obtain⟨a,_,h2⟩:=Yd.1 h1;cases h2
 have ft:∀{rb r:Nat},Ft w rb (.bag (cs.map .av)) r->r=rb:=by
  rintro rb r (h|⟨vs,e,j,_,h⟩)
  ·exact h
  exact absurd h (noOwn vs j r)
 refine Stp.still i (by simp) (λc rb x hc hx=>?_) (λc rb x r hc hx ho hf=>?_) (λc c' rb rb' x x' r hc hc' hx hx' ho ho' hr hr'=>?_)
 ·rcases getElem?_set' hx with⟨rfl,rfl⟩|⟨_,hx⟩
  ·obtain⟨h0,vs,e,h1,h2,h3⟩:=i.blk _ rb _ hc hA;refine⟨h0,vs,e,h1,by simpa using h2,λj y v hy hv=>?_,λj r hj=>absurd hj (noOwn vs j r),λj j' r hj=>absurd hj (noOwn vs j r)⟩;rw[YA]at hy;obtain⟨a,ha,rfl⟩:=Yd.1 hy;exact h3 j a v ha hv
  exact i.blk c rb x hc hx
 ·rcases getElem?_set' hx with⟨rfl,rfl⟩|⟨_,hx⟩
  ·exact⟨_,_,rb,hc,hA,rfl,.inl (ft hf)⟩
  exact⟨c,x,rb,hc,hx,ho,hf⟩
 rcases getElem?_set' hx with⟨e1,e1'⟩|⟨_,hx⟩
 ·rcases getElem?_set' hx' with⟨e2,_⟩|⟨_,hx'⟩
  ·exact e1.symm.trans e2
  subst e1 e1';exact i.injF b c' rb rb' _ x' r hc hc' hA hx' rfl ho' (.inl (ft hr)) hr'
 rcases getElem?_set' hx' with⟨e2,e2'⟩|⟨_,hx'⟩
 ·subst e2 e2';exact i.injF c b rb rb' x _ r hc hc' hx hA ho rfl hr (.inl (ft hr'))
 exact i.injF c c' rb rb' x x' r hc hc' hx hx' ho ho' hr hr'
end
end
def cellsOf:AV->Option (List AV)
 | .undef=>none
 | .tuple _=>none
 | .agg cs=>some cs
 |v=>some [v]
def zX:AV->Bool
 | .undef=>false
 | .tuple _=>false
 | .agg _=>false
 |_=>true
def qcz:Nat->Value->AV
 |_,.bool b=> .bool b
 |_,.int k n=> .int k n
 |_,.string s=> .str s.data.toList
 |_,.pointer none=> .nilptr
 |_,.slice none 0 0=> .nilslice
 |_,.map none=> .nilmap
 |_,.nilFunc=> .nilfunc
 |_,.nilIface=> .niliface
 |_,.func fn ⟨[]⟩ ⟨[]⟩=> .func fn [] []
 |d+1,.agg cs=> .agg (cs.toList.map (qcz d))
 |_,_=> .undef
abbrev zx:=List (Nat×Bool)
inductive Pg where
 |fail
 |done (v:AV)
 |get (b:Nat) (k:Blk->Pg)
 |set (b:Nat) (x:Blk) (k:Pg)
 |new (x:Blk) (k:Nat->Pg)
abbrev Res:=Option (AV×Heap×zx)
def exec:Pg->Heap->zx->Res
 | .fail,_,_=>none
 | .done v,A,f=>some (v,A,f)
 | .get b k,A,f=>match A[b]? with
   |some x=>exec (k x) A ((b,false)::f)
   |none=>none
 | .set b x k,A,f=>if b<A.length then exec k (A.set b x) ((b,true)::f)else none
 | .new x k,A,f=>exec (k A.length) (A++[x]) f
def Pg.opt (x:Option AV):Pg:=match x with
 |some v=> .done v
 |none=> .fail
def Pg.box (x:Option (List AV)):Pg:=match x with
 |some cs=> .new (.cells cs) λid=> .done (.ptr id 0)
 |none=> .fail
def qjY:TypeDesc->Bool
 | .struct _=>true
 | .array _ _=>true
 |_=>false
def vI (x:Blk) (off n:Nat):Option (List AV):=
 match x with
 | .cells cs=>if off+n<=cs.length then some ((cs.drop off).take n)else none
 | .frozen cs=>if off+n<=cs.length then some ((cs.drop off).take n)else none
 | .bag es=>match n,es[off]? with
   |1,some (.av a)=>some [a]
   |_,_=>none
 |_=>none
def qaH (b off n:Nat) (k:List AV->Pg):Pg:= .get b λx=>match vI x off n with
 |some cs=>k cs
 |none=> .fail
def yT (p:AV) (n:Nat) (k:List AV->Pg):Pg:=
 match p with
 | .ptr b off=>qaH b off n k
 | .fptr cs off=>if off+n<=cs.length then k ((cs.drop off).take n)else .fail
 |_=> .fail
section
variable (P:Program)
def qa1 (t:TypeId) (p:AV):Pg:=
 match P.underlying t,P.info? t with
 |some d,some i=>
  if qjY d then yT p i.size λcs=> .done (.agg cs)
  else yT p 1 λcs=>match cs with
   |[c]=> .done c
   |_=> .fail
 |_,_=> .fail
def splice (cs:List AV) (off:Nat) (xs:List AV):List AV:=cs.take off++xs++cs.drop (off+xs.length)
def qaq (t:TypeId) (p x:AV):Pg:=
 match P.info? t,cellsOf x,p with
 |some i,some xs,.ptr b off=> .get b λk=>match k with
  | .cells cs=>if xs.length=i.size/\off+xs.length<=cs.length/\xs.all zX=true then .set b (.cells (splice cs off xs)) (.done .undef)else .fail
  | .bag es=>match xs with
    |[a]=>if i.size=1/\off<es.length/\zX a=true then .set b (.bag (es.set off (.av a))) (.done .undef)else .fail
    |_=> .fail
  |_=> .fail
 |_,_,_=> .fail
def qfb (t:TypeId):Option (List AV):=
 match P.info? t with
 |some i=>match i.zero with
  |some z=>cellsOf (qcz 3 z)
  |none=>none
 |none=>none
def qhN:List AV->Bool
 |[]=>true
 | .nilptr::l=>qhN l
 | .nilslice::l=>qhN l
 |_=>false
def qnu [Glob] (e:TypeId):Pg:=match Glob.bt e with
 |none=> .box (qfb P e)
 |some t=>match qfb P e with
  |some cs=>bif qhN cs then .new (.bld e t cs) λid=> .done (.ptr id 0)else .fail
  |none=> .fail
def aBox (x:AV):Pg:= .box (cellsOf x)
def qjH (place:Nat->Option (Nat×Nat)):List AV->List (Nat×AV)->Option (List AV)
 |cells,[]=>some cells
 |cells,(i,v)::rest=>
  match place i,cellsOf v with
  |some (off,size),some cs=>if cs.length=size/\off+cs.length<=cells.length then qjH place (splice cells off cs) rest else none
  |_,_=>none
def qji (fields:Array Field) (i:Nat):Option (Nat×Nat):=
 match fields[i]? with
 |some f=>(P.info? f.type).map λinf=>(f.offset,inf.size)
 |none=>none
def qnG (t:TypeId) (parts:List (Nat×AV)):Option AV:=
 match qfb P t,P.underlying t with
 |some z,some (.struct fields)=>
  if fields.all (λf=>(P.info? f.type).isSome)then(qjH (qji P fields) z parts).map .agg else none
 |some z,some (.array _ e)=>
  match P.info? e with
  |some i=>(qjH (λk=>some (k*i.size,i.size)) z parts).map .agg
  |none=>none
 |_,_=>none
def zeros (z:List AV) (n:Nat):List AV:=(List.range n).map λk=>z.getD (k%z.length) .undef
def qfN (t:TypeId) (len:Nat) (parts:List (Nat×AV)):Pg:=
 match P.underlying t with
 |some (.slice e)=>
  match P.info? e,qfb P e with
  |some i,some z=>
   if len*i.size<=16777216/\z.length=i.size then
    match qjH (λk=>some (k*i.size,i.size)) (zeros z (len*i.size)) parts with
    |some cs=> .new (.cells cs) λid=> .done (.slice id 0 len len i.size)
    |none=> .fail
   else .fail
  |_,_=> .fail
 |_=> .fail
def qgG (s:TypeId) (x:AV) (f:Nat):Option AV:=
 match P.underlying s with
 |some (.struct fields)=>
  match fields[f]? with
  |some fd=>match P.info? fd.type with
   |some i=>if i.size=0 then none else match x with
    | .ptr b off=>some (.ptr b (off+fd.offset))
    | .fptr cs off=>some (.fptr cs (off+fd.offset))
    |_=>none
   |none=>none
  |none=>none
 |_=>none
def qgy (t:TypeId) (cs:List AV) (off:Nat):Option AV:=
 match P.underlying t,P.info? t with
 |some d,some i=>if qjY d then some (.agg ((cs.drop off).take i.size))else cs[off]?
 |_,_=>none
def qns (t:TypeId) (x:AV) (f:Nat):Option AV:=
 match P.underlying t,x with
 |some (.struct fields),.agg cs=>
  match fields[f]? with
  |some fd=>qgy P fd.type cs fd.offset
  |none=>none
 |_,_=>none
def jb (t:TypeId) (x ix:AV):Option AV:=
 match P.underlying t,ix with
 |some (.slice e),.int _ i=>
  match P.info? e with
  |some inf=>
   match x with
   | .fslice n cs=>if 0<=i/\i<n then some (.fptr cs (i.toNat*inf.size))else none
   | .slice b off n _ _=>if 0<=i/\i<n then some (.ptr b (off+i.toNat*inf.size))else none
   | .oslice b n _=>if 0<=i/\i<n then some (.ptr b (i.toNat*inf.size))else none
   | .wslice b off n _=>if 0<=i/\i<n then some (.ptr b (off+i.toNat*inf.size))else none
   | .gslice b n _=>if 0<=i/\i<n then some (.ptr b (i.toNat*inf.size))else none
   |_=>none
  |none=>none
 |some (.array n e),.int _ i=>
  match P.info? e with
  |some inf=>
   if 0<=i/\i<n then
    match x with
    | .ptr b off=>some (.ptr b (off+i.toNat*inf.size))
    | .fptr cs off=>some (.fptr cs (off+i.toNat*inf.size))
    |_=>none
   else none
  |none=>none
 |_,_=>none
def qfQ (t:TypeId) (x ix:AV):Option AV:=
 match P.underlying t,x,ix with
 |some .string,.str s,.int _ i=>
  if 0<=i then match s[i.toNat]? with
   |some c=>some (.int .u8 c.toNat)
   |none=>none
  else none
 |some (.array n e),.agg cs,.int _ i=>
  match P.info? e with
  |some inf=>if 0<=i/\i<n then qgy P e cs (i.toNat*inf.size)else none
  |none=>none
 |_,_,_=>none
def vY (x:Option AV) (dflt most:Nat):Option Nat:=
 match x with
 |none=>some dflt
 |some (.int _ i)=>if 0<=i/\i<=most then some i.toNat else none
 |some _=>none
def qaW (low high max:Option AV) (len cap:Nat):Option (Nat×Nat×Nat):=
 if max.isSome/\high.isNone then none else
 match vY max cap cap with
 |some m=>match vY high (if max.isSome then m else len) (if max.isSome then m else cap)with
  |some h=>match vY low 0 h with
   |some l=>some (l,h,m)
   |none=>none
  |none=>none
 |none=>none
def zV (t:TypeId) (x:AV) (low high max:Option AV):Option AV:=
 match P.underlying t with
 |some .string=>
  match x with
  | .str s=>if max.isSome then none else match qaW low high none s.length s.length with
    |some (l,h,_)=>some (.str ((s.drop l).take (h-l)))
    |none=>none
  |_=>none
 |some (.slice e)=>
  match P.info? e with
  |none=>none
  |some inf=>
   match x with
   | .fslice n cs=>if max.isSome then none else match qaW low high none n n with
     |some (l,h,_)=>if cs.length=n*inf.size then some (.fslice (h-l) ((cs.drop (l*inf.size)).take ((h-l)*inf.size)))else none
     |none=>none
   | .nilslice=>match qaW low high max 0 0 with
     |some _=>some .nilslice
     |none=>none
   | .slice b off n cap esz=>match qaW low high max n cap with
     |some (l,h,m)=>if esz=inf.size then some (.slice b (if m=l then off else off+l*inf.size) (h-l) (m-l) esz)else none
     |none=>none
   | .oslice b n esz=>match max with
     |none=>match qaW low high none n n with
      |some (l,h,_)=>if l=0/\esz=inf.size then some (.oslice b h esz)else if l=h then some (.fslice 0 [])else if esz=inf.size then some (.wslice b (l*inf.size) (h-l) esz)else none
      |none=>none
     |some m=>match qaW low high (some m) n n with
      |some (l,h,m)=>if esz=inf.size then some (.slice b (if m=l then 0 else l*inf.size) (h-l) (m-l) esz)else none
      |none=>none
   | .gslice b n esz=>if max.isSome then none else match qaW low high none n n with
     |some (l,h,_)=>if l=h/\(0<l\/n=0)then some (.fslice 0 [])else if esz=inf.size then(if l=0 then some (.oslice b h esz)else some (.wslice b (l*inf.size) (h-l) esz))else none
     |none=>none
   | .wslice b off n esz=>if max.isSome then none else match qaW low high none n n with
     |some (l,h,_)=>if l=h then some (.fslice 0 [])else if esz=inf.size then some (.wslice b (off+l*inf.size) (h-l) esz)else none
     |none=>none
   |_=>none
 |_=>none
def aLen (d:TypeDesc) (x:AV):Pg:=
 match d with
 | .string=>match x with
   | .str s=> .done (.int .i64 s.length)
   |_=> .fail
 | .slice _=>match x with
   | .fslice n _=> .done (.int .i64 n)
   | .slice _ _ n _ _=> .done (.int .i64 n)
   | .oslice _ n _=> .done (.int .i64 n)
   | .gslice _ n _=> .done (.int .i64 n)
   | .wslice _ _ n _=> .done (.int .i64 n)
   | .nilslice=> .done (.int .i64 0)
   |_=> .fail
 | .map _ _=>match x with
   | .nilmap=> .done (.int .i64 0)
   | .map b=> .get b λk=>match k with
     | .map ks _=> .done (.int .i64 ks.length)
     |_=> .fail
   | .fmap ks _=> .done (.int .i64 ks.length)
   |_=> .fail
 | .array n _=> .done (.int .i64 n)
 |_=> .fail
def aCap (x:AV):Option AV:=
 match x with
 | .slice _ _ _ cap _=>some (.int .i64 cap)
 | .nilslice=>some (.int .i64 0)
 |_=>none
def qW (size:Nat) (x:AV) (k:Nat->List AV->Pg):Pg:=
 match x with
 | .str s=>if size=1 then k s.length (s.map (λc=> .int .u8 c.toNat))else .fail
 | .fslice n cs=>if cs.length=n*size/\cs.all zX=true then k n cs else .fail
 | .nilslice=>k 0 []
 | .slice b off n _ _=>qaH b off (n*size) λcs=>if cs.all zX=true then k n cs else .fail
 | .oslice b n _=>qaH b 0 (n*size) λcs=>if cs.all zX=true then k n cs else .fail
 | .gslice b n _=>qaH b 0 (n*size) λcs=>if cs.all zX=true then k n cs else .fail
 | .wslice b off n _=>qaH b off (n*size) λcs=>if cs.all zX=true then k n cs else .fail
 |_=> .fail
def xk (size bytes:Nat) (s:AV) (n:Nat) (news:List AV):Pg:=
 match s with
 | .nilslice=>
   if n=0 then .done .nilslice
   else if n*bytes<=140737488355328/\n<=140737488355328 then .new (.cells news) λid=> .done (.oslice id n size)else .fail
 | .slice b off len cap esz=>
   if cap=0/\off=0 then
    .get b λx=>match x with
    | .cells _=>if len=0/\esz=size/\n*bytes<=140737488355328/\n<=140737488355328 then .set b .dead (.new (.cells news) λid=> .done (.gslice id n size))else .fail
    |_=> .fail
   else if len+n<=cap then
    .get b λx=>match x with
    | .cells cs=>
      if esz=size/\off+len*size+news.length<=cs.length then
       .set b (.cells (splice cs (off+len*size) news)) (.done (.slice b off (len+n) cap esz))
      else .fail
    |_=> .fail
   else
    qaH b off (len*size) λolds=>
     if(len+n)*bytes<=140737488355328/\len+n<=140737488355328 then .new (.cells (olds++news)) λid=> .done (.oslice id (len+n) size)else .fail
 | .oslice b len esz=>
   .get b λx=>match x with
    | .cells cs=>
      if esz=size/\len*size<=cs.length/\(len+n)*bytes<=140737488355328/\len+n<=140737488355328 then
       .set b .dead (.new (.cells (cs.take (len*size)++news)) λid=> .done (.oslice id (len+n) size))
      else .fail
    | .bag es=>match news with
      |[a]=>
       if esz=size/\size=1/\n=1/\len=es.length/\(len+n)*bytes<=140737488355328/\len+n<=140737488355328 then
        .set b .dead (.new (.bag (es++[.av a])) λid=> .done (.oslice id (len+n) size))
       else .fail
      |_=> .fail
    |_=> .fail
 | .gslice b len esz=>
   .get b λx=>match x with
    | .cells cs=>
      if esz=size/\len*size<=cs.length/\(len+n)*bytes<=140737488355328/\len+n<=140737488355328 then
       .set b .dead (.new (.cells (cs.take (len*size)++news)) λid=> .done (.gslice id (len+n) size))
      else .fail
    | .bag es=>match news with
      |[a]=>
       if esz=size/\size=1/\n=1/\len=es.length/\(len+n)*bytes<=140737488355328/\len+n<=140737488355328 then
        .set b .dead (.new (.bag (es++[.av a])) λid=> .done (.gslice id (len+n) size))
       else .fail
      |_=> .fail
    |_=> .fail
 | .fslice k cs=>if n=0 then .done (.fslice k cs)else .fail
 |_=> .fail
def yo (argTypes:List TypeId) (s x:AV):Pg:=
 match argTypes with
 |[t,u]=>
  match P.underlying t,P.underlying u with
  |some (.slice e),some du=>
   match P.info? e with
   |none=> .fail
   |some inf=>
    match inf.zero with
    |none=> .fail
    |some z=>
     if z.cells.size=inf.size/\0<inf.size then
      match du with
      | .int _=>match x with
        | .int .i64 n=>match cellsOf (qcz 3 z)with
          |some zc=>if 0<=n/\n<=140737488355328/\n*inf.bytes<=140737488355328/\zc.all zX=true then xk inf.size inf.bytes s n.toNat (zeros zc (n.toNat*inf.size))else .fail
          |none=> .fail
        |_=> .fail
      | .slice _=>match x with
        | .str _=> .fail
        |x=>qW inf.size x λn news=>xk inf.size inf.bytes s n news
      | .string=>qW inf.size x λn news=>xk inf.size inf.bytes s n news
      |_=> .fail
     else .fail
  |_,_=> .fail
 |_=> .fail
def qbG (size b off len n:Nat) (cs:List AV):Pg:=
 .get b λx=>match x with
  | .cells old=>
    if off+(cs.take (Nat.min n len*size)).length<=old.length then
     .set b (.cells (splice old off (cs.take (Nat.min n len*size)))) (.done (.int .i64 (Nat.min n len:Nat)))
    else .fail
  |_=> .fail
def qcR (argTypes:List TypeId) (d x:AV):Pg:=
 match argTypes with
 |t::_=>
  match P.underlying t with
  |some (.slice e)=>
   match P.info? e with
   |none=> .fail
   |some inf=>
    match d with
    | .slice b off len _ esz=>if esz=inf.size then qW inf.size x λn cs=>qbG inf.size b off len n cs else .fail
    | .oslice b len esz=>if esz=inf.size then qW inf.size x λn cs=>qbG inf.size b 0 len n cs else .fail
    | .gslice b len esz=>if 0<len/\esz=inf.size then qW inf.size x λn cs=>qbG inf.size b 0 len n cs else .fail
    | .wslice b off len esz=>if esz=inf.size then qW inf.size x λn cs=>qbG inf.size b off len n cs else .fail
    |_=> .fail
  |_=> .fail
 |_=> .fail
def qow:AV->AV->Option Bool
 | .int k a,.int k' b=>if k=k' then some (a==b)else none
 | .str a,.str b=>some (a==b)
 | .bool a,.bool b=>some (a==b)
 |_,_=>none
def qjq (k:AV):List AV->Nat->Option (Option Nat)
 |[],_=>some none
 |e::es,i=>
  match qow k e with
  |some true=>some (some i)
  |some false=>qjq k es (i+1)
  |none=>none
def plainKey:TypeDesc->AV->Bool
 | .int _,.int _ _=>true
 | .string,.str _=>true
 | .bool,.bool _=>true
 |_,_=>false
def entriesOf (x:AV) (k:List AV->List AV->Pg):Pg:=
 match x with
 | .nilmap=>k [] []
 | .fmap ks vs=>k ks vs
 | .map b=> .get b λy=>match y with
   | .map ks vs=>k ks vs
   |_=> .fail
 |_=> .fail
def qk2 (t:TypeId) (x k:AV) (ok:Bool):Pg:=
 match P.underlying t with
 |some (.map kt et)=>
  match P.underlying kt,(P.info? et).bind (·.zero)with
  |some d,some z=>
   if plainKey d k then entriesOf x λks vs=>
    match qjq k ks 0 with
    |some (some i)=>match vs[i]? with
     |some v=> .done (if ok then .tuple [v,.bool true]else v)
     |none=> .fail
    |some none=> .done (if ok then .tuple [qcz 3 z,.bool false]else qcz 3 z)
    |none=> .fail
   else .fail
  |_,_=> .fail
 |_=> .fail
def qeV (t:TypeId) (x k v:AV):Pg:=
 match P.underlying t,x with
 |some (.map kt _),.map b=>
  match P.underlying kt with
  |some d=>
   if plainKey d k then .get b λy=>match y with
    | .map ks vs=>
      match qjq k ks 0 with
      |some (some i)=> .set b (.map ks (vs.set i v)) (.done .undef)
      |some none=> .set b (.map (ks++[k]) (vs++[v])) (.done .undef)
      |none=> .fail
    |_=> .fail
   else .fail
  |none=> .fail
 |_,_=> .fail
def qhO (t:TypeId) (x k:AV):Pg:=
 match P.underlying t,x with
 |some (.map kt et),.map b=>
  match P.underlying kt,(P.info? et).bind (·.zero)with
  |some d,some z=>
   if plainKey d k then .get b λy=>match y with
    | .map ks vs=>
      match qjq k ks 0 with
      |some (some i)=>match vs[i]? with
       |some v=> .set b (.map ks vs) (.done (.tuple [v,.int .i64 i]))
       |none=> .fail
      |some none=> .set b (.map (ks++[k]) (vs++[qcz 3 z])) (.done (.tuple [qcz 3 z,.int .i64 ks.length]))
      |none=> .fail
    |_=> .fail
   else .fail
  |_,_=> .fail
 |_,_=> .fail
def qfH (x s v:AV):Pg:=
 match x,s with
 | .map b,.int .i64 n=> .get b λy=>match y with
   | .map ks vs=>if 0<=n/\n<ks.length then .set b (.map ks (vs.set n.toNat v)) (.done .undef)else .fail
   |_=> .fail
 |_,_=> .fail
def qi1 (t:TypeId) (r:Option AV):Pg:=
 match r with
 |none=> .new (.map [] []) λid=> .done (.map id)
 |some (.int _ _)=>match P.underlying t with
  |some (.map _ _)=> .new (.map [] []) λid=> .done (.map id)
  |_=> .fail
 |_=> .fail
def qcB (t:TypeId) (l c:AV):Pg:=
 match P.underlying t,l,c with
 |some (.slice e),.int .i64 l,.int .i64 c=>
  match P.info? e,qfb P e with
  |some inf,some z=>
   if 0<=l/\l<=c/\c<=140737488355328/\c*inf.bytes<=140737488355328/\z.length=inf.size then
    .new (.cells (zeros z (c.toNat*inf.size))) λid=> .done (.slice id 0 l.toNat c.toNat inf.size)
   else .fail
  |_,_=> .fail
 |_,_,_=> .fail
def qm2 (t:TypeId) (x:AV):Pg:=
 match P.underlying t,x with
 |some .string,.str s=> .new (.iter s 0) λid=> .done (.ptr id 0)
 |_,_=> .fail
def qqs (x:AV) (isString:Bool):Pg:=
 match x,isString with
 | .ptr b 0,true=> .get b λy=>match y with
   | .iter s pos=>
     if pos<s.length then
      .set b (.iter s (pos+(Utf8.decode ⟨s.toArray⟩ pos).2)) (.done (.tuple [.bool true,.int .i64 pos,.int .i32 (Utf8.decode ⟨s.toArray⟩ pos).1]))
     else .done (.tuple [.bool false])
   |_=> .fail
 |_,_=> .fail
def isByte:AV->Bool
 | .int .u8 _=>true
 |_=>false
def byteOf:AV->UInt8
 | .int _ n=>UInt8.ofNat n.toNat
 |_=>0
def qjn (src dst:TypeId) (x:AV):Pg:=
 match P.underlying src,P.underlying dst with
 |some (.int _),some (.int k)=>match x with
  | .int _ n=> .done (.int k (k.wrap n))
  |_=> .fail
 |some .string,some .string=>match x with
  | .str s=> .done (.str s)
  |_=> .fail
 |some (.int _),some .string=>match x with
  | .int _ n=> .done (.str (Utf8.encode n).data.toList)
  |_=> .fail
 |some (.slice e),some .string=>
  match P.underlying e with
  |some (.int .u8)=>match x with
   | .str _=> .fail
   |x=>qW 1 x λ_ cs=>if cs.all isByte then .done (.str (cs.map byteOf))else .fail
  |_=> .fail
 |_,_=> .fail
def qp8 (eq:TypeId->AV->AV->Option Bool) (xs ys:List AV):List Field->Option Bool
 |[]=>some true
 |f::fs=>
  if f.name≠ "_" then
   match qgy P f.type xs f.offset,qgy P f.type ys f.offset with
   |some a,some b=>match eq f.type a b with
    |some true=>qp8 eq xs ys fs
    |some false=>some false
    |none=>none
   |_,_=>none
  else qp8 eq xs ys fs
def eqIs (eq:TypeId->AV->AV->Option Bool) (e:TypeId) (c:Nat) (xs ys:List AV):List Nat->Option Bool
 |[]=>some true
 |i::is=>
  match qgy P e xs (i*c),qgy P e ys (i*c)with
  |some a,some b=>match eq e a b with
   |some true=>eqIs eq e c xs ys is
   |some false=>some false
   |none=>none
  |_,_=>none
def eqA:Nat->TypeId->AV->AV->Option Bool
 |0,_,_,_=>none
 |d+1,t,x,y=>
  match P.underlying t,x,y with
  |some .bool,.bool a,.bool b=>some (a==b)
  |some (.int _),.int k a,.int k' b=>if k=k' then some (a==b)else none
  |some .string,.str a,.str b=>some (a==b)
  |some (.struct fields),.agg xs,.agg ys=>if P.stoodInHeld t then none else qp8 P (eqA d) xs ys fields.toList
  |some (.array n e),.agg xs,.agg ys=>if(P.info? e).isSome then eqIs P (eqA d) e (P.cellsOf e) xs ys (List.range n)else none
  |_,_,_=>none
def ltL:List UInt8->List UInt8->Bool
 |_,[]=>false
 |[],_::_=>true
 |a::x,b::y=>a<b||(a==b&&ltL x y)
def qgq (d:TypeDesc) (x y:AV):Option Bool:=
 match d,x,y with
 | .pointer _,.nilptr,y=>match y with| .nilptr=>some true| .ptr _ _=>some false| .fptr _ _=>some false|_=>none
 | .pointer _,.ptr _ _,.nilptr=>some false
 | .pointer _,.fptr _ _,.nilptr=>some false
 | .slice _,.nilslice,.nilslice=>some true
 | .slice _,.slice _ _ _ _ _,.nilslice=>some false
 | .slice _,.oslice _ _ _,.nilslice=>some false
 | .slice _,.gslice _ n _,.nilslice=>if n=0 then none else some false
 | .slice _,.fslice (_+1) _,.nilslice=>some false
 | .map _ _,.nilmap,.nilmap=>some true
 | .map _ _,.map _,.nilmap=>some false
 | .func _ _ _,.nilfunc,.nilfunc=>some true
 | .func _ _ _,.func _ _ _,.nilfunc=>some false
 | .interface _,.iface _ _,.niliface=>some false
 |_,_,_=>none
def qhI (op:BinOp) (k:IntKind) (a b:Int):Option AV:=
 match op with
 | .add=>some (.int k (k.wrap (a+b)))
 | .sub=>some (.int k (k.wrap (a-b)))
 | .mul=>some (.int k (k.wrap (a*b)))
 | .quo=>if b=0 then none else some (.int k (k.wrap (a.tdiv b)))
 | .rem=>if b=0 then none else some (.int k (a.tmod b))
 | .and=>some (.int k (k.wrap (BitVec.ofInt k.bits a&&&BitVec.ofInt k.bits b).toNat))
 | .or=>some (.int k (k.wrap (BitVec.ofInt k.bits a|||BitVec.ofInt k.bits b).toNat))
 | .xor=>some (.int k (k.wrap (BitVec.ofInt k.bits a^^^BitVec.ofInt k.bits b).toNat))
 | .andNot=>some (.int k (k.wrap (BitVec.ofInt k.bits a&&& ~~~BitVec.ofInt k.bits b).toNat))
 | .eql=>some (.bool (a==b))
 | .neq=>some (.bool (a !=b))
 | .lss=>some (.bool (decide (a<b)))
 | .leq=>some (.bool (decide (a<=b)))
 | .gtr=>some (.bool (decide (a>b)))
 | .geq=>some (.bool (decide (a>=b)))
 |_=>none
def qfX (op:BinOp) (k:IntKind) (a b:Int):Option AV:=
 if b<0 then none else
 match op with
 | .shl=>some (.int k (k.wrap (a*2^(min b.toNat k.bits))))
 | .shr=>some (.int k (a.fdiv (2^(min b.toNat k.bits))))
 |_=>none
def qjm (op:BinOp) (a b:List UInt8):Option AV:=
 match op with
 | .add=>if a.length+b.length<=9223372036854775807 then some (.str (a++b))else none
 | .eql=>some (.bool (a==b))
 | .neq=>some (.bool (!(a==b)))
 | .lss=>some (.bool (ltL a b))
 | .leq=>some (.bool (ltL a b||a==b))
 | .gtr=>some (.bool (!(ltL a b||a==b)))
 | .geq=>some (.bool (!(ltL a b)))
 |_=>none
def qdg:BinOp->Bool
 | .shl=>true
 | .shr=>true
 |_=>false
def qf2:Operand->Bool
 | .const _=>true
 |_=>false
def qbI (op:BinOp) (t:TypeId) (ox oy:Operand) (x y:AV):Option AV:=
 match x,y with
 | .niliface,.niliface=>
   if qf2 ox||qf2 oy then
    match P.underlying t,op with
    |some (.interface _),.eql=>some (.bool true)
    |some (.interface _),.neq=>some (.bool false)
    |_,_=>none
   else none
 | .int k a,.int k' b=>
   if qdg op then qfX op k a b
   else if k=k' then qhI op k a b else none
 | .str a,.str b=>qjm op a b
 | .bool a,.bool b=>
   match P.underlying t,op with
   |some .bool,.eql=>some (.bool (a==b))
   |some .bool,.neq=>some (.bool (!(a==b)))
   |_,_=>none
 | .agg xs,.agg ys=>
   if P.eqGuardType P.depth t then none else
   match op,eqA P 100 t (.agg xs) (.agg ys)with
   | .eql,some r=>some (.bool r)
   | .neq,some r=>some (.bool (!r))
   |_,_=>none
 | .fslice 0 _,.nilslice=>
   match P.underlying t,op with
   |some (.slice _),.eql=>some .anyb
   |_,_=>none
 |x,y=>
  match P.underlying t,op with
  |some d,.eql=>(qgq d x y).map .bool
  |some d,.neq=>(qgq d x y).map λr=> .bool (!r)
  |_,_=>none
def aUn (op:UnOp) (x:AV):Option AV:=
 match op,x with
 | .not,.bool b=>some (.bool (!b))
 | .neg,.int k n=>some (.int k (k.wrap (0-n)))
 | .xor,.int k n=>some (.int k (k.wrap (BitVec.ofInt k.bits (if k.signed then-1 else k.max)^^^BitVec.ofInt k.bits n).toNat))
 |_,_=>none
def minA:AV->AV->Option AV
 | .int k x,.int _ y=>some (.int k (if y<x then y else x))
 |_,_=>none
def maxA:AV->AV->Option AV
 | .int k x,.int _ y=>some (.int k (if y>x then y else x))
 |_,_=>none
def qhl (b off n:Nat) (z:List AV):Pg:=
 if n=0 then .done (.tuple [])else .get b λx=>match x with
  | .cells cs=>if off+n*z.length<=cs.length/\z.all zX=true then .set b (.cells (splice cs off (zeros z (n*z.length)))) (.done (.tuple []))else .fail
  |_=> .fail
def qnd (argTypes:List TypeId) (x:AV):Pg:=
 match argTypes with
 |[t]=>match P.underlying t with
  |some (.slice e)=>match qfb P e with
   |some z=>match x with
    | .nilslice=> .done (.tuple [])
    | .fslice 0 _=> .done (.tuple [])
    | .slice b off n _ _=>qhl b off n z
    | .oslice b n _=>qhl b 0 n z
    | .wslice b off n _=>qhl b off n z
    |_=> .fail
   |none=> .fail
  |_=> .fail
 |_=> .fail
def vP (b:Builtin) (argTypes:List TypeId) (args:List AV):Pg:=
 match b,args with
 | .append,[s,x]=>yo P argTypes s x
 | .copy,[d,x]=>qcR P argTypes d x
 | .clear,[x]=>qnd P argTypes x
 | .len,[x]=>match argTypes with
   |[t]=>match P.underlying t with
    |some d=>aLen d x
    |none=> .fail
   |_=> .fail
 | .cap,[x]=>match argTypes with
   |[t]=>match P.underlying t with
    |some (.slice _)=> .opt (aCap x)
    |_=> .fail
   |_=> .fail
 | .min,x::rest=> .opt (rest.foldlM minA x)
 | .max,x::rest=> .opt (rest.foldlM maxA x)
 |_,_=> .fail
def qkC (x:AV):Option AV:=
 match x with
 | .ptr b off=>some (.ptr b off)
 | .fptr cs off=>some (.fptr cs off)
 | .func (.func f) fs cs=>some (.func (.func f) fs cs)
 |_=>none
def zk [Glob] (o:Oper) (ρ:Operand->AV):Pg:=
 match o.op with
 | .move x=> .done (ρ x)
 | .assign x=> .done (ρ x)
 | .pick c a b=>match ρ c with
   | .bool t=> .done (if t then ρ a else ρ b)
   |_=> .fail
 | .alloc e=>qnu P e
 | .box _ x=>aBox (ρ x)
 | .build t parts=> .opt (qnG P t (parts.toList.map λp=>(p.1,ρ p.2)))
 | .buildSlice t len parts=>qfN P t len (parts.toList.map λp=>(p.1,ρ p.2))
 | .load t p=>qa1 P t (ρ p)
 | .store t p x=>qaq P t (ρ p) (ρ x)
 | .nilCheck x=> .opt (qkC (ρ x))
 | .binOp op t x y _=> .opt (qbI P op t x y (ρ x) (ρ y))
 | .unOp op _ x=> .opt (aUn op (ρ x))
 | .convert s d x=>qjn P s d (ρ x)
 | .makeFunc fn first captured=> .done (.func fn (first.toList.map ρ) (captured.toList.map ρ))
 | .makeMap t r=>qi1 P t (r.map ρ)
 | .makeSlice t l c=>qcB P t (ρ l) (ρ c)
 | .slice t x l h m=> .opt (zV P t (ρ x) (l.map ρ) (h.map ρ) (m.map ρ))
 | .fieldAddr s x f=> .opt (qgG P s (ρ x) f)
 | .field t x f=> .opt (qns P t (ρ x) f)
 | .indexAddr t x i=> .opt (jb P t (ρ x) (ρ i))
 | .index t x i=> .opt (qfQ P t (ρ x) (ρ i))
 | .lookup t x k ok=>qk2 P t (ρ x) (ρ k) ok
 | .insert t m k v=>qeV P t (ρ m) (ρ k) (ρ v)
 | .mapUpdate t m k v=>qeV P t (ρ m) (ρ k) (ρ v)
 | .mapEntry t m k=>qhO P t (ρ m) (ρ k)
 | .entryStore _ m s v=>qfH (ρ m) (ρ s) (ρ v)
 | .range t x=>qm2 P t (ρ x)
 | .next x s=>qqs (ρ x) s
 | .extract t i=>match ρ t with
   | .tuple vs=> .opt vs[i]?
   |_=> .fail
 | .makeInterface t x=>match P.underlying t with
   |some (.interface _)=> .fail
   |some _=> .done (.iface t (ρ x))
   |none=> .fail
 | .call c=>match c.callee with
   | .builtin b=>vP P b c.argTypes.toList (c.args.toList.map ρ)
   |_=> .fail
 |_=> .fail
def aop [Glob] (o:Oper) (ρ:Operand->AV):Pg:=
 match o.op with
 | .move x=> .done (ρ x)
 | .assign x=> .done (ρ x)
 | .binOp op t x y _=> .opt (qbI P op t x y (ρ x) (ρ y))
 | .load t p=>qa1 P t (ρ p)
 | .index t x i=> .opt (qfQ P t (ρ x) (ρ i))
 | .indexAddr t x i=> .opt (jb P t (ρ x) (ρ i))
 |_=>zk P o ρ
end
section
variable [Glob]
open Go.RowKit
def Ok (P:Program) (F:Nat->Prop) (nu:Nat->Option Nat) (A:Heap) (w:World) (s:Sem Value) (r:Res):Prop:=
 ∀v A' f,r=some (v,A',f)->∃x w' nu',s.run P w= .ok x w'/\Stp F nu A w F nu' A' w'/\R F nu' w' v x
section
variable {P:Program}{F:Nat->Prop}{nu:Nat->Option Nat}{A:Heap}{w:World}
def Ok.none_ {s:Sem Value}:Ok P F nu A w s none:=λ_ _ _ h=>by cases h
def Ok.pure (i:Inv F nu A w) {s:Sem Value}{v:AV}{x:Value}{f:zx}(h:s.run P w= .ok x w) (hR:R F nu w v x):Ok P F nu A w s (some (v,A,f)):=by
 intro v' A' f' he;simp only[ZI,ZP]at he;obtain⟨rfl,rfl,rfl⟩:=he;exact⟨x,w,nu,h,.refl i,hR⟩
def Ok.opt (i:Inv F nu A w) {s:Sem Value}{o:Option AV}{f:zx}(h:∀v,o=some v->∃x,s.run P w= .ok x w/\R F nu w v x):Ok P F nu A w s (exec (.opt o) A f):=by
 cases o with
 |none=>exact Ok.none_
 |some v=>
  obtain⟨x,h1,h2⟩:=h v rfl;exact Ok.pure i h1 h2
def qeT:∀(d:Nat) (v:Value),R F nu w (qcz d v) v:=by
 intro d
 induction d with
 |zero=>
  intro v;unfold qcz;split<;>first|exact .undef _|exact .bool _|exact .int _ _|exact .str _ _ rfl|exact .nilptr|exact .nilslice|exact .nilmap|exact .nilfunc|exact .niliface|(exact .func _ [] [] _ _ rfl rfl (by simp) (by simp))|contradiction
 |succ d ih=>
  intro v;unfold qcz;split<;>first|exact .undef _|exact .bool _|exact .int _ _|exact .str _ _ rfl|exact .nilptr|exact .nilslice|exact .nilmap|exact .nilfunc|exact .niliface|(exact .func _ [] [] _ _ rfl rfl (by simp) (by simp))|skip
  all_goals
   rename_i cs h;injection h with h;subst h;refine .agg _ _ (by simp) (λj a x ha hx=>?_);simp only[YA,Yd]at ha;obtain⟨y,hy,rfl⟩:=ha
   have:y=x:=by
    rw[YT]at hy;rw[hy]at hx;injection hx
   subst this;exact ih y
def R.cells {a:AV}{v:Value}(h:R F nu w a v) {cs:List AV}(hc:cellsOf a=some cs):RL F nu w cs v.cells:=by
 cases h<;>simp only[cellsOf,ZI,reduceCtorEq]at hc<;>subst hc<;>first
  |(refine⟨by simp[Value.cells],λi a v ha hv=>?_⟩
    rcases i with _|i<;>simp[Value.cells]at ha hv
    subst ha;subst hv
    first
     |exact .bool _
     |exact .anyb _
     |exact .int _ _
     |exact .str _ _ ‹_›
     |exact .nilptr
     |exact .ptr _ _ _ ‹_›
     |exact .nilslice
     |exact .slice _ _ _ _ _ _ ‹_› ‹_›
     |exact .oslice _ _ _ _ _ _ _ ‹_› ‹_› ‹_› ‹_› ‹_›
     |exact .gslice0 _ _ _
     |exact .gslice _ _ _ _ _ _ _ ‹_› ‹_› ‹_› ‹_› ‹_› ‹_›
     |exact .wslice _ _ _ _ _ _ ‹_› ‹_›
     |exact .fslice0 _ _
     |exact .nilmap
     |exact .map _ _ ‹_›
     |exact .nilfunc
     |exact .yld _ _ ‹_›
     |exact .niliface
     |exact .fptr _ _ _ _ ‹_› ‹_› ‹_› ‹_›
     |exact .fslice _ _ _ _ _ ‹_› ‹_› ‹_› ‹_› ‹_›
     |exact .fmap _ _ _ _ _ ‹_› ‹_› ‹_› ‹_› ‹_› ‹_›
     |exact .func _ _ _ _ _ ‹_› ‹_› ‹_› ‹_›
     |exact .iface _ _ _ ‹_›)
  |(rename_i hl hR;exact⟨hl,hR⟩)
def R.oneCell {a:AV}{v:Value}(h:R F nu w a v) (hc:zX a=true):v.oneCell'=true:=by
 cases h<;>first|rfl|simp[zX]at hc
def qdt {t:TypeId}{d:TypeDesc}(h:P.underlying t=some d) (w:World):(isAgg t).run P w= .ok (qjY d) w:=by
 simp only[isAgg,Sem.run_bind,run_underlying h,Result.andThen_ok];cases d<;>rfl
def qP {t:TypeId}{i:TypeInfo}(h:P.info? t=some i) (w:World):(sizeOf t).run P w= .ok i.size w:=by
 simp[sizeOf,typeInfo,h]
def qgs {t:TypeId}{i:TypeInfo}(h:P.info? t=some i) (w:World):(typeInfo t).run P w= .ok i w:=by
 simp[typeInfo,h]
def qR {t:TypeId}{i:TypeInfo}{z:Value}(h:P.info? t=some i) (hz:i.zero=some z) (w:World):(zeroValue t).run P w= .ok z w:=by
 simp[zeroValue,typeInfo,h,hz]
def qaQ (i:Inv F nu A w) {b rb off n:Nat}{x:Blk}{cs:List AV}(hb:nu b=some rb) (hA:A[b]? =some x) (hc:vI x off n=some cs):
 ∃vs:List Value,vs.length=n/\cs.length=n/\(∀(j:Nat) (v:Value),vs[j]? =some v->w.cell? ⟨rb,off+j,none⟩=some v)/\∀(j:Nat) (a:AV) (v:Value),cs[j]? =some a->vs[j]? =some v->R F nu w a v:=by
 have key:∀(all:List AV) (vs:Array Value) (e:TypeId) (fr:Nat×Nat),w.heap[rb]? =some (.cells vs e fr)->all.length<=vs.size->(∀(j:Nat) (a:AV) (v:Value),all[j]? =some a->vs[j]? =some v->R F nu w a v)->off+n<=all.length->(all.drop off).take n=cs->
  ∃vs:List Value,vs.length=n/\cs.length=n/\(∀(j:Nat) (v:Value),vs[j]? =some v->w.cell? ⟨rb,off+j,none⟩=some v)/\∀(j:Nat) (a:AV) (v:Value),cs[j]? =some a->vs[j]? =some v->R F nu w a v:=by
  intro all vs e fr hh hl hR hn hcs;subst hcs;refine⟨(vs.toList.drop off).take n,by simp;omega,by simp;omega,λj v hv=>?_,λj a v ha hv=>?_⟩
  ·rw[Yt]at hv;split at hv
   ·rw[YI]at hv;simp only[World.cell?,hh,be,ZF,bh];simpa using hv
   cases hv
  rw[Yt]at ha hv;split at ha
  ·rename_i hj;rw[ae hj]at hv;rw[YI]at ha hv;exact hR (off+j) a v ha (by simpa using hv)
  cases ha
 have hr:=i.blk b rb x hb hA;cases x<;>simp only[vI]at hc<;>try (cases hc;done)
 ·obtain⟨_,vs,e,h1,h2,h3,_⟩:=hr;split at hc
  ·rename_i es _ _ a hn;injection hc with hc;subst hc;have ho:=(Yb.1 hn).1;refine⟨[vs[off]'(by omega)],rfl,rfl,λj v hv=>?_,λj a v ha hv=>?_⟩
   ·cases j with
    |zero=>
     simp at hv;subst hv;simp[World.cell?,h1]
    |succ j=>simp at hv
   cases j with
   |zero=>
    simp at ha hv;subst ha hv;exact h3 off _ _ hn (by simp)
   |succ j=>simp at hv
  cases hc
 ·obtain⟨_,vs,e,h1,h2,h3⟩:=hr;split at hc
  ·rename_i hn;injection hc with hc;exact key _ vs e _ h1 h2 h3 hn hc
  cases hc
 obtain⟨_,vs,e,fr,h1,h2,h3⟩:=hr;split at hc
 ·rename_i hn;injection hc with hc;exact key _ vs e fr h1 h2 h3 hn hc
 cases hc
def jv {b off n:Nat}{k:List AV->Pg}{f:zx}{r:AV×Heap×zx}(h:exec (qaH b off n k) A f=some r):∃x cs,A[b]? =some x/\vI x off n=some cs/\exec (k cs) A ((b,false)::f)=some r:=by
 unfold qaH exec at h;split at h
 ·rename_i x hx
  cases hc:vI x off n with
  |none=>simp[hc,exec]at h
  |some cs=>exact⟨x,cs,hx,hc,by simpa[hc]using h⟩
 cases h
def qe9 (i:Inv F nu A w) {p:AV}{x:Value}(hp:R F nu w p x) {n:Nat}{k:List AV->Pg}{f:zx}{r:AV×Heap×zx}(h:exec (yT p n k) A f=some r):
 ∃(ad:Addr) (cs:List AV) (vs:List Value) (f':zx),x= .pointer (some ad)/\vs.length=n/\cs.length=n/\(∀(j:Nat) (v:Value),vs[j]? =some v->w.cell? (ad.add j)=some v)/\
  (∀(j:Nat) (a:AV) (v:Value),cs[j]? =some a->vs[j]? =some v->R F nu w a v)/\exec (k cs) A f'=some r:=by
 cases hp with
 |ptr b off rb hb=>
  obtain⟨y,cs,hA,hc,hk⟩:=jv (by simpa[yT]using h);obtain⟨vs,h1,h2,h3,h4⟩:=qaQ i hb hA hc;exact⟨_,cs,vs,_,rfl,h1,h2,λj v hv=>by rw[jB];exact h3 j v hv,h4,hk⟩
 |fptr cs off ad vs hF hl hc hR=>
  simp only[yT]at h;split at h
  ·rename_i hn;refine⟨_,_,(vs.drop off).take n,_,rfl,by simp;omega,by simp;omega,λj v hv=>?_,λj a v ha hv=>?_,h⟩
   ·rw[Yt]at hv;split at hv
    ·rw[YI]at hv;rw[add_add];exact hc _ v hv
    cases hv
   rw[Yt]at ha hv;split at ha
   ·rename_i hj;rw[ae hj]at hv;rw[YI]at ha hv;exact hR _ a v ha hv
   cases ha
  simp[exec]at h
 |_=>simp[yT,exec]at h
def qs3 (i:Inv F nu A w) {t:TypeId}{p:AV}{x:Value}(hp:R F nu w p x) {f:zx}:Ok P F nu A w (Instr.loadAt t x) (exec (qa1 P t p) A f):=by
 intro v A' f' h;unfold qa1 at h;split at h
 ·rename_i d inf hd hi;split at h
  ·rename_i ha;obtain⟨ad,cs,vs,f2,rfl,h1,h2,h3,h4,h5⟩:=qe9 i hp h;simp only[exec,ZI,ZP]at h5;obtain⟨rfl,rfl,rfl⟩:=h5;refine⟨.agg vs.toArray,w,nu,?_,.refl i,.agg _ _ (by simp;omega) (λj a v ha hv=>h4 j a v ha (by simpa using hv))⟩;have:=run_loadCells_list (P:=P) w ad vs h3;rw[h1]at this;simp[Instr.loadAt,Instr.sureAddr,loadVar,qdt hd,ha,qP hi,this]
  rename_i ha;obtain⟨ad,cs,vs,f2,rfl,h1,h2,h3,h4,h5⟩:=qe9 i hp h
  match cs,h2 with
  |[c],_=>
   match vs,h1 with
   |[y],_=>
    simp only[exec,ZI,ZP]at h5;obtain⟨rfl,rfl,rfl⟩:=h5;have hc:=h3 0 y rfl;rw[add_zero']at hc;refine⟨y,w,nu,?_,.refl i,h4 0 c y rfl rfl⟩;simp[Instr.loadAt,Instr.sureAddr,loadVar,qdt hd,ha,hc]
 simp[exec]at h
def qgt {cs xs:List AV}{off:Nat}(h:off+xs.length<=cs.length):(splice cs off xs).length=cs.length:=by
 simp[splice];omega
def qrb {cs xs:List AV}{vs0 ys:List Value}{off:Nat}(hlen:cs.length<=vs0.length) (hx:ys.length=xs.length) (ho:off+xs.length<=cs.length)
 (h1:∀(j:Nat) (a:AV) (v:Value),cs[j]? =some a->vs0[j]? =some v->R F nu w a v) (h2:∀(j:Nat) (a:AV) (v:Value),xs[j]? =some a->ys[j]? =some v->R F nu w a v):
 ∀(j:Nat) (a:AV) (v:Value),(splice cs off xs)[j]? =some a->(vs0.take off++ys++vs0.drop (off+ys.length))[j]? =some v->R F nu w a v:=by
 intro j a v ha hv;unfold splice at ha;rcases aw j off with hj|hj
 ·rw[Yz,Yf (by simp;omega),Yt,ae hj]at ha hv;exact h1 j a v ha hv
 rw[Yz,Yo (by simp;omega)]at ha hv;simp only[Ym]at ha hv;rw[aX (by omega)]at ha hv;rcases aw (j-off) xs.length with hk|hk
 ·rw[Yf (by omega)]at ha hv;exact h2 _ a v ha hv
 rw[Yo (by omega),YI]at ha hv;rw[hx]at hv;exact h1 _ a v ha hv
def RL.cells_one {xs:List AV}{ys:Array Value}(h:RL F nu w xs ys) (hc:xs.all zX=true):∀v∈ys.toList,v.oneCell'=true:=by
 intro v hv;obtain⟨j,hj⟩:=List.mem_iff_getElem?.1 hv
 have hlt:j<ys.size:=by simpa using(Yb.1 hj).1
 have hl:j<xs.length:=by have:=h.1;omega
 have ha:xs[j]? =some xs[j]:=Ya hl;exact(h.2 j _ v ha (by simpa using hj)).oneCell (Yp.1 hc _ (bo hl))
def qe5 (i:Inv F nu A w) {b rb off:Nat}{cs xs:List AV}{ys:List Value}(hb:nu b=some rb) (hA:A[b]? =some (.cells cs)) (ho:off+xs.length<=cs.length) (hl:ys.length=xs.length)
 (h1:∀v∈ys,v.oneCell'=true) (hR:∀(j:Nat) (a:AV) (v:Value),xs[j]? =some a->ys[j]? =some v->R F nu w a v):
 ∃w',(storeCells ⟨rb,off,none⟩ ys).run P w= .ok () w'/\Stp F nu A w F nu (A.set b (.cells (splice cs off xs))) w':=by
 obtain⟨_,vs0,e,hh,hlen,hR0⟩:=i.blk b rb _ hb hA;refine⟨_,run_storeCells_at P rb off e ys 0 vs0 w hh (by omega) h1,?_⟩;simp only[bz];refine Stp.setRow i hb hA hh (by simp;omega) (by rw[qgt ho];simp;omega) (λj a v ha hv=>?_);exact qrb (vs0:=vs0.toList) (by simpa using hlen) hl ho (λj a v ha hv=>hR0 j a v ha (by simpa using hv)) hR j a v ha (by simpa using hv)
def qnZ (i:Inv F nu A w) {b rb off:Nat}{es:List Ent}{a:AV}{y:Value}(hb:nu b=some rb) (hA:A[b]? =some (.bag es)) (ho:off<es.length) (h1:y.oneCell'=true) (hR:R F nu w a y):
 ∃w',(storeCells ⟨rb,off,none⟩ [y]).run P w= .ok () w'/\Stp F nu A w F nu (A.set b (.bag (es.set off (.av a)))) w':=by
 obtain⟨_,vs0,e,hh,hlen,_⟩:=i.blk b rb _ hb hA;refine⟨_,run_storeCells_at P rb off e [y] 0 vs0 w hh (by simp;omega) (by simpa using h1),?_⟩;simp only[bz];refine Stp.setBag i hb hA hh (by simp;omega) ho (λj hj=>?_) (λv hv=>?_)
 ·simp only[<-YT];rcases aw j off with h|h
  ·rw[Yz,Yf (by simp;omega),Yt,ae h]
  rw[Yo (by simp;omega),YI];congr 1;simp;omega
 have:v=y:=by
  simp only[List.getElem?_toArray]at hv;rw[Yz,Yo (by simp;omega)]at hv
  have e0:off-(vs0.toList.take off).length=0:=by simp;omega
  rw[e0]at hv;simpa using hv.symm
 rw[this];exact hR
def qq3 (i:Inv F nu A w) {t:TypeId}{p x:AV}{pv xv:Value}(hp:R F nu w p pv) (hx:R F nu w x xv) {f:zx}{v:AV}{A':Heap}{f':zx}(h:exec (qaq P t p x) A f=some (v,A',f')):
 v= .undef/\∃w',(Instr.storeAt t pv xv).run P w= .ok () w'/\Stp F nu A w F nu A' w':=by
 unfold qaq at h;split at h
 ·rename_i inf xs b off hi hxs
  cases hp with
  |ptr _ _ rb hb=>
   simp only[exec]at h;split at h
   ·rename_i k hk;split at h
    ·rename_i cs;split at h
     ·rename_i hc;obtain⟨hc1,hc2,hc3⟩:=hc;simp only[exec]at h;split at h
      ·simp only[ZI,ZP]at h;obtain⟨rfl,rfl,_⟩:=h;have hl:=hx.cells hxs;obtain⟨w',h1,h2⟩:=qe5 (P:=P) i hb hk hc2 (ys:=xv.cells.toList) (by simpa using hl.1) (hl.cells_one hc3) (λj a v ha hv=>hl.2 j a v ha (by simpa using hv));refine⟨rfl,w',?_,h2⟩;have hsz:xv.cells.size=inf.size:=hl.1.trans hc1;simp[Instr.storeAt,Instr.sureAddr,storeVar,qP hi,hsz,h1]
      cases h
     simp[exec]at h
    ·rename_i es;split at h
     ·rename_i a;split at h
      ·rename_i hc;obtain⟨hc1,hc2,hc3⟩:=hc;simp only[exec]at h;split at h
       ·simp only[ZI,ZP]at h;obtain⟨rfl,rfl,_⟩:=h;have hl:=hx.cells hxs;have hy:xv.cells.size=1:=hl.1
        obtain⟨y,he⟩:∃y,xv.cells=#[y]:=by
         refine⟨xv.cells[0]'(by omega),?_⟩;apply Array.ext
         ·simp[hy]
         intro q h1 h2;simp at h2;subst h2;rfl
        have h1c:=hl.cells_one (by simpa using hc3);rw[he]at h1c hl;obtain⟨w',h1,h2⟩:=qnZ (P:=P) i hb hk hc2 (a:=a) (y:=y) (h1c y (by simp)) (hl.2 0 a y rfl (by simp));refine⟨rfl,w',?_,h2⟩;simp[Instr.storeAt,Instr.sureAddr,storeVar,qP hi,he,hc1,h1]
       cases h
      simp[exec]at h
     simp[exec]at h
    simp[exec]at h
   cases h
 simp[exec]at h
def qtO (i:Inv F nu A w) {e:TypeId}{x:AV}{xv:Value}(hx:R F nu w x xv) {f:zx}:Ok P F nu A w (Instr.box e xv) (exec (aBox x) A f):=by
 intro v A' f' h;unfold aBox Pg.box at h;split at h
 ·rename_i cs hcs;simp only[exec,ZI,ZP]at h;obtain⟨rfl,rfl,_⟩:=h;have hl:=hx.cells hcs;refine⟨_,_,_,rfl,Ug i xv.cells e cs (by have:=hl.1;omega) hl.2,.ptr _ _ _ (upd_same _ _)⟩
 simp[exec]at h
def qbX {e:TypeId}{cs:List AV}(h:qfb P e=some cs):∃i z,P.info? e=some i/\i.zero=some z/\cellsOf (qcz 3 z)=some cs/\RL F nu w cs z.cells:=by
 unfold qfb at h;split at h
 ·rename_i i hi;split at h
  ·rename_i z hz;exact⟨i,z,hi,hz,h,(qeT 3 z).cells h⟩
  cases h
 cases h
def qiI:∀{cs:List AV},qhN cs=true->∀{a:AV},a∈cs->a= .nilptr\/a= .nilslice
 |[],_,a,h=>by cases h
 |c::cs,hp,a,h=>by
  cases c<;>simp only[qhN,ZF]at hp
  all_goals (rcases bT.1 h with e|e)
  all_goals first
   |exact .inl e
   |exact .inr e
   |exact qiI hp e
def qrP (i:Inv F nu A w) {e:TypeId}{f:zx}:Ok P F nu A w (Instr.alloc e true (.tuple #[])) (exec (qnu P e) A f):=by
 intro v A' f' h;unfold qnu at h;split at h
 ·unfold Pg.box at h;split at h
  ·rename_i cs hcs;simp only[exec,ZI,ZP]at h;obtain⟨rfl,rfl,_⟩:=h;obtain⟨inf,z,hi,hz,_,hl⟩:=qbX (F:=F) (nu:=nu) (w:=w) hcs;refine⟨.pointer (some ⟨w.heap.size,0,none⟩),w.alloc (.cells z.cells e),_,?_,Ug i z.cells e cs (by have:=hl.1;omega) hl.2,.ptr _ _ _ (upd_same _ _)⟩;simp[Instr.alloc,qR hi hz,newVar,newRow]
  simp[exec]at h
 rename_i t _;split at h
 ·rename_i cs hcs
  cases hp:qhN cs with
  |false=>rw[hp]at h;simp[exec]at h
  |true=>
   rw[hp]at h;simp only[cond_true,exec,ZI,ZP]at h;obtain⟨rfl,rfl,_⟩:=h;obtain⟨inf,z,hi,hz,_,hl⟩:=qbX (F:=F) (nu:=nu) (w:=w) hcs
   have x:Ext F nu w F (upd nu A.length w.heap.size) (w.alloc (.cells z.cells e)):=
    ⟨λ_ h=>h,qec i _,λrb h=>Go.heap_alloc_old w _ rb (i.ltF rb h),λrb s hs=>qb7 _ rb s hs⟩
   refine⟨.pointer (some ⟨w.heap.size,0,none⟩),w.alloc (.cells z.cells e),_,?_,Stp.alloc i _ _ ⟨λh=>absurd (i.ltF _ h) (by omega),z.cells,Go.heap_alloc_new w _,hl.1,λj a v ha hv=>(hl.2 j a v ha hv).mono x,λj g n cap hv=>?_⟩,.ptr _ _ _ (upd_same _ _)⟩
   ·simp[Instr.alloc,qR hi hz,newVar,newRow]
   exfalso;have hj:j<z.cells.size:=(YB.1 hv).1
   have hj2:j<cs.length:=by rw[<-hl.1];exact hj
   have ha:cs[j]? =some cs[j]:=Ya hj2;have hR:=hl.2 j _ _ ha hv;rcases qiI hp (bo hj2)with e1|e1
   ·rw[e1]at hR;cases hR
   rw[e1]at hR;cases hR
 simp[exec]at h
end
end
section
variable [Glob]
open Go.RowKit
section
variable {P:Program}{F:Nat->Prop}{nu:Nat->Option Nat}{A:Heap}{w:World}
def qsD (xs:List Value):∀(k off:Nat) (cells:Array Value) (j:Nat),
 ((xs.zipIdx k).foldl (λcs (c,j)=>cs.setIfInBounds (off+j) c) cells)[j]? =
   if off+k<=j/\j<off+k+xs.length/\j<cells.size then xs[j-(off+k)]? else cells[j]? :=by
 induction xs with
 |nil=>intro k off cells j;simp;omega
 |cons x xs ih=>
  intro k off cells j;simp only[List.zipIdx_cons,bI,ih,Array.size_setIfInBounds,Yr];by_cases hj:j<cells.size
  ·by_cases h1:off+(k+1)<=j
   ·by_cases h2:j<off+(k+1)+xs.length
    ·rw[ae ⟨h1,h2,hj⟩,ae ⟨by omega,by omega,hj⟩];rw[show j-(off+k)=(j-(off+(k+1)))+1 by omega];rfl
    rw[aa (by omega),aa (by omega),Array.getElem?_setIfInBounds,aa (by omega)]
   by_cases h3:j=off+k
   ·subst h3;rw[aa (by omega),ae ⟨by omega,by omega,hj⟩,Array.getElem?_setIfInBounds,ae rfl,ae hj];simp
   rw[aa (by omega),aa (by omega),Array.getElem?_setIfInBounds,aa (by omega)]
  rw[aa (by omega),aa (by omega),Array.getElem?_setIfInBounds];by_cases h3:off+k=j
  ·rw[ae h3,aa (by omega),Array.getElem?_eq_none (by omega)]
  rw[aa h3]
def qqf (xs:List (Value×Nat)) (off:Nat):∀cells:Array Value,(xs.foldl (λcs (c,j)=>cs.setIfInBounds (off+j) c) cells).size=cells.size:=by
 induction xs with
 |nil=>intro c;rfl
 |cons x xs ih=>intro c;simp[ih]
def RL.put {cs xs:List AV}{vs ys:Array Value}{off:Nat}(h:RL F nu w cs vs) (hx:RL F nu w xs ys) (ho:off+xs.length<=cs.length):
 RL F nu w (splice cs off xs) (ys.zipIdx.foldl (λcs (c,j)=>cs.setIfInBounds (off+j) c) vs):=by
 have e:ys.zipIdx.foldl (λcs (c,j)=>cs.setIfInBounds (off+j) c) vs=(ys.toList.zipIdx 0).foldl (λcs (c,j)=>cs.setIfInBounds (off+j) c) vs:=by
  rw[<-Array.foldl_toList,Array.toList_zipIdx]
 rw[e];refine⟨by rw[qqf,qgt ho];exact h.1,λj a v ha hv=>?_⟩;rw[qsD]at hv;have h0:=h.1;have h00:=hx.1;simp only[bz,cO]at hv;unfold splice at ha;rcases aw j off with hj|hj
 ·rw[aa (by omega)]at hv;rw[Yz,Yf (by simp;omega),Yt,ae hj]at ha;exact h.2 j a v ha hv
 rw[Yz,Yo (by simp;omega)]at ha;simp only[Ym]at ha;rw[aX (by omega)]at ha;rcases aw (j-off) xs.length with hk|hk
 ·rw[Yf hk]at ha;rw[ae ⟨hj,by omega,by omega⟩]at hv;exact hx.2 _ a v ha (by simpa using hv)
 rw[Yo (by omega),YI]at ha;rw[aa (by omega)]at hv
 have:off+xs.length+(j-off-xs.length)=j:=by omega
 rw[this]at ha;exact h.2 j a v ha hv
def RP (F:Nat->Prop) (nu:Nat->Option Nat) (w:World):List (Nat×AV)->List (Nat×Value)->Prop
 |[],[]=>True
 |a::AZ,v::vs=>a.1=v.1/\R F nu w a.2 v.2/\RP F nu w AZ vs
 |_,_=>False
def qiF (place:Nat->Option (Nat×Nat)):∀(ps:List (Nat×AV)) (qs:List (Nat×Value)) (cs:List AV) (vs:Array Value) (out:List AV),RP F nu w ps qs->RL F nu w cs vs->qjH place cs ps=some out->
 ∃res,Instr.fill place vs qs=some res/\RL F nu w out res:=by
 intro ps
 induction ps with
 |nil=>
  intro qs cs vs out hp hl h
  cases qs with
  |nil=>simp only[qjH,ZI]at h;subst h;exact⟨vs,rfl,hl⟩
  |cons q qs=>exact hp.elim
 |cons p ps ih=>
  intro qs cs vs out hp hl h
  cases qs with
  |nil=>exact hp.elim
  |cons q qs=>
   obtain⟨pi,pa⟩:=p;obtain⟨qi,qv⟩:=q;obtain⟨h1,h2,h3⟩:=hp;simp only at h1 h2;subst h1;simp only[qjH]at h;split at h
   ·rename_i off size xs hpl hxs;split at h
    ·rename_i hc;have hx:=h2.cells hxs;have h4:=hx.1;have h5:=hl.1;obtain⟨res,hr,hrl⟩:=ih qs _ _ out h3 (hl.put hx hc.2) h;refine⟨res,?_,hrl⟩;simp only[Instr.fill,hpl];rw[aa (by simp;omega)];exact hr
    cases h
   cases h
def qlP (fields:Array Field) (h:fields.all (λf=>(P.info? f.type).isSome)=true) (w:World):
 ∃pl:Array (Nat×Nat),(fields.mapM λf=>do pure (f.offset,<-sizeOf f.type):Sem (Array (Nat×Nat))).run P w= .ok pl w/\∀i,pl[i]? =qji P fields i:=by
 have hall:∀f∈fields.toList,(P.info? f.type).isSome=true:=by
  intro f hf;exact(Array.all_eq_true'.1 h) f (by simpa using hf)
 have key:∀(fs:List Field),(∀f∈fs,(P.info? f.type).isSome=true)->(fs.mapM λf=>do pure (f.offset,<-sizeOf f.type):Sem (List (Nat×Nat))).run P w= .ok (fs.map λf=>(f.offset,P.cellsOf f.type)) w:=by
  intro fs
  induction fs with
  |nil=>intro _;simp
  |cons f fs ih=>
   intro hf;obtain⟨inf,hi⟩:=ef.1 (hf f (by simp));rw[cA];simp only[Sem.run_bind,Sem.run_pure,qP hi,Result.andThen_ok,ih (λg hg=>hf g (by simp[hg])),List.map_cons];simp[Program.cellsOf,hi]
 refine⟨(fields.toList.map λf=>(f.offset,P.cellsOf f.type)).toArray,?_,λi=>?_⟩
 ·have:=key fields.toList hall;rw[Array.mapM_eq_mapM_toList];simp only[Sem.run_map,this,Result.andThen_ok]
 simp only[qji];rw[List.getElem?_toArray,YA,YT]
 cases hf:fields[i]? with
 |none=>rfl
 |some f=>
  obtain⟨inf,hi⟩:=ef.1 (hall f (by
   obtain⟨hlt,he⟩:=YB.1 hf
   rw[<-he];simp))
  simp[Program.cellsOf,hi]
def qqr (i:Inv F nu A w) {t:TypeId}{ps:List (Nat×AV)}{qs:Array (Nat×Value)}(hp:RP F nu w ps qs.toList) {f:zx}:Ok P F nu A w (Instr.build t qs) (exec (.opt (qnG P t ps)) A f):=by
 refine Ok.opt i (λv hv=>?_);unfold qnG at hv;split at hv
 ·rename_i z fields hz ht;obtain⟨inf,zv,hi,hzv,_,hl⟩:=qbX (F:=F) (nu:=nu) (w:=w) hz;split at hv
  ·rename_i hall;obtain⟨cs,hcs,rfl⟩:=Yd.1 hv;obtain⟨pl,hrun,hpl⟩:=qlP fields hall w;obtain⟨res,hres,hrl⟩:=qiF (qji P fields) ps qs.toList z zv.cells cs hp hl hcs;refine⟨.agg res,?_,.agg _ _ hrl.1 hrl.2⟩
   have hf:Instr.fill (pl[·]?) zv.cells qs.toList=some res:=by
    rw[show(λx=>pl[x]?)=qji P fields from funext hpl];exact hres
   simp only[Instr.build,Sem.run_bind,qR hi hzv,Result.andThen_ok,run_underlying ht,hrun,hf];rfl
  cases hv
 ·rename_i z n e hz ht;obtain⟨inf,zv,hi,hzv,_,hl⟩:=qbX (F:=F) (nu:=nu) (w:=w) hz;split at hv
  ·rename_i ie hie;obtain⟨cs,hcs,rfl⟩:=Yd.1 hv;obtain⟨res,hres,hrl⟩:=qiF _ ps qs.toList z zv.cells cs hp hl hcs;refine⟨.agg res,?_,.agg _ _ hrl.1 hrl.2⟩;simp only[Instr.build,Sem.run_bind,qR hi hzv,Result.andThen_ok,run_underlying ht,qP hie,hres];rfl
  cases hv
 cases hv
def qiB {z:List AV}{zv:Array Value}(h:RL F nu w z zv) (n:Nat):RL F nu w (zeros z n) ((Array.range n).map (zv[· %zv.size]!)):=by
 refine⟨by simp[zeros],λj a v ha hv=>?_⟩;simp only[zeros,YA]at ha;rcases aw j n with hj|hj
 ·rw[List.getElem?_range hj]at ha;simp only[ZM,ZI]at ha;simp only[Array.getElem?_map,Array.getElem?_range,ae hj,ZM,ZI]at hv;have h0:=h.1;rcases bG z.length with hz|hz
  ·have:z=[]:=cS hz;subst this;simp at ha;subst ha;exact .undef _
  have hlt:j%z.length<z.length:=eC _ hz;rw[Yy,Ya hlt]at ha;rw[h0]at hv
  have hlt2:j%z.length<zv.size:=by omega
  rw[getElem!_pos zv _ hlt2]at hv;simp only[YN]at ha;subst ha;subst hv;exact h.2 _ _ _ (Ya hlt) (Yi hlt2)
 rw[Yg (by simpa using hj)]at ha;cases ha
def qka (i:Inv F nu A w) {t:TypeId}{len:Nat}{ps:List (Nat×AV)}{qs:Array (Nat×Value)}(hp:RP F nu w ps qs.toList) {f:zx}:Ok P F nu A w (Instr.buildSlice t len qs) (exec (qfN P t len ps) A f):=by
 intro v A' f' h;unfold qfN at h;split at h
 ·rename_i e ht;split at h
  ·rename_i inf z hi hz;obtain⟨inf',zv,hi',hzv,_,hl⟩:=qbX (F:=F) (nu:=nu) (w:=w) hz;rw[hi]at hi';injection hi' with hi';subst hi';split at h
   ·rename_i hc;split at h
    ·rename_i cs hcs;simp only[exec,ZI,ZP]at h;obtain⟨rfl,rfl,_⟩:=h
     have hlen:¬len*inf.size>2^24:=by have:=hc.1;omega
     by_cases h0:len*inf.size=0
     ·have hzr:RL F nu w (zeros z (len*inf.size)) ((Array.range 0).map ((#[]:Array Value)[· %(#[]:Array Value).size]!)):=
       ⟨by simp[zeros,h0],λj a v ha _=>by simp[zeros,h0]at ha⟩
      obtain⟨res,hres,hrl⟩:=qiF _ ps qs.toList _ _ cs hp hzr hcs;refine⟨.slice (some ⟨w.heap.size,0,none⟩) len len,w.alloc (.cells res e),_,?_,Ug i res e cs (by have:=hrl.1;omega) hrl.2,.slice _ _ _ _ _ _ (upd_same _ _) (ai _)⟩;simp[Instr.buildSlice,run_underlying ht,qP hi,h0,newRow];simp at hres;rw[hres];simp
     obtain⟨res,hres,hrl⟩:=qiF _ ps qs.toList _ _ cs hp (qiB hl _) hcs;refine⟨.slice (some ⟨w.heap.size,0,none⟩) len len,w.alloc (.cells res e),_,?_,Ug i res e cs (by have:=hrl.1;omega) hrl.2,.slice _ _ _ _ _ _ (upd_same _ _) (ai _)⟩;simp only[Instr.buildSlice,Sem.run_bind,run_underlying ht,Result.andThen_ok,qP hi];rw[aa hlen];simp only[Sem.run_bind,Result.andThen_ok,aa h0,qR hi hzv,Sem.run_pure,hres,newRow,run_newObj,World.alloc_eq]
    simp[exec]at h
   simp[exec]at h
  simp[exec]at h
 simp[exec]at h
def qfr {a:Addr}{fd:Field}{inf:TypeInfo}(h:P.info? fd.type=some inf) (hs:inf.size≠0) (w:World):(fieldPlace a fd).run P w= .ok (a.add fd.offset) w:=by
 simp[fieldPlace,qP h,hs]
def R.addPtr {p:AV}{x:Value}{b off k:Nat}(h:R F nu w p x) (hp:p= .ptr b off):∃ad,x= .pointer (some ad)/\R F nu w (.ptr b (off+k)) (.pointer (some (ad.add k))):=by
 subst hp
 cases h with
 |ptr _ _ rb hb=>exact⟨_,rfl,by rw[jB];exact .ptr _ _ _ hb⟩
def R.addFptr {x:Value}{cs:List AV}{off k:Nat}(h:R F nu w (.fptr cs off) x):∃ad,x= .pointer (some ad)/\R F nu w (.fptr cs (off+k)) (.pointer (some (ad.add k))):=by
 cases h with
 |fptr _ _ ad vs hF hl hc hR=>exact⟨_,rfl,by rw[add_add];exact .fptr _ _ _ vs hF hl hc hR⟩
def qlp (i:Inv F nu A w) {s:TypeId}{x:AV}{xv:Value}{fi:Nat}(hx:R F nu w x xv) {f:zx}:Ok P F nu A w (Instr.fieldAt s xv fi) (exec (.opt (qgG P s x fi)) A f):=by
 refine Ok.opt i (λv hv=>?_);unfold qgG at hv;split at hv
 ·rename_i fields ht;split at hv
  ·rename_i fd hfd;split at hv
   ·rename_i inf hi;split at hv
    ·cases hv
    rename_i hs;split at hv
    ·rename_i b off;injection hv with hv;subst hv;obtain⟨ad,rfl,hr⟩:=hx.addPtr (k:=fd.offset) rfl;refine⟨_,?_,hr⟩;simp[Instr.fieldAt,run_underlying ht,hfd,Instr.sureAddr,qfr hi hs]
    ·rename_i cs off;injection hv with hv;subst hv;obtain⟨ad,rfl,hr⟩:=hx.addFptr (k:=fd.offset);refine⟨_,?_,hr⟩;simp[Instr.fieldAt,run_underlying ht,hfd,Instr.sureAddr,qfr hi hs]
    cases hv
   cases hv
  cases hv
 cases hv
def qgj {t:TypeId}{cs:List AV}{vs:Array Value}(h:RL F nu w cs vs) {off:Nat}{a:AV}(ha:qgy P t cs off=some a):∃x,(part t vs off).run P w= .ok x w/\R F nu w a x:=by
 unfold qgy at ha;split at ha
 ·rename_i d inf hd hi;split at ha
  ·rename_i hg;injection ha with ha;subst ha;refine⟨.agg (vs.extract off (off+inf.size)),by simp[part,qdt hd,hg,qP hi],.agg _ _ (by simp;have:=h.1;omega) (λj a v ha hv=>?_)⟩;rw[Yt]at ha;split at ha
   ·rename_i hj;rw[YI]at ha;rw[Array.getElem?_extract]at hv;split at hv
    ·exact h.2 _ a v ha hv
    cases hv
   cases ha
  rename_i hg;have hlt:off<cs.length:=(Yb.1 ha).1
  have hlt2:off<vs.size:=by have:=h.1;omega
  refine⟨vs[off],?_,h.2 off a _ ha (Yi hlt2)⟩;simp[part,qdt hd,hg,hlt2]
 cases ha
def qqB (i:Inv F nu A w) {t:TypeId}{x:AV}{xv:Value}{fi:Nat}(hx:R F nu w x xv) {f:zx}:Ok P F nu A w (Instr.field t xv fi) (exec (.opt (qns P t x fi)) A f):=by
 refine Ok.opt i (λv hv=>?_);unfold qns at hv;split at hv
 ·rename_i fields cs ht
  cases hx with
  |agg _ vs hl hR=>
   split at hv
   ·rename_i fd hfd;obtain⟨y,h1,h2⟩:=qgj ⟨hl,hR⟩ hv;exact⟨y,by simp[Instr.field,run_underlying ht,hfd,asAgg,h1],h2⟩
   cases hv
 cases hv
def qlC (i:Inv F nu A w) {t:TypeId}{x ix:AV}{xv iv:Value}(hx:R F nu w x xv) (hi:R F nu w ix iv) {f:zx}:Ok P F nu A w (Instr.indexAt t xv iv) (exec (.opt (jb P t x ix)) A f):=by
 refine Ok.opt i (λv hv=>?_);unfold jb at hv;split at hv
 ·rename_i e k j ht;cases hi
  split at hv
  ·rename_i inf hinf;split at hv
   ·rename_i n cs;split at hv
    ·rename_i hb;injection hv with hv;subst hv
     cases hx with
     |fslice0 B cap=>exact absurd hb.2 (by omega)
     |fslice _ _ ad cap vs hn hF hl hc hR=>
      refine⟨.pointer (some (ad.add (j.toNat*inf.size))),?_,.fptr _ _ ad vs hF hl hc hR⟩;simp[Instr.indexAt,asIntOf,run_underlying ht,qP hinf,hb.1,hb.2]
    cases hv
   ·rename_i b off n cap esz;split at hv
    ·rename_i hb;injection hv with hv;subst hv
     cases hx with
     |slice _ _ _ _ _ rb h hc=>
      refine⟨.pointer (some ((⟨rb,off,none⟩:Addr).add (j.toNat*inf.size))),?_,by rw[jB];exact .ptr _ _ _ h⟩;simp[Instr.indexAt,asIntOf,run_underlying ht,qP hinf,hb.1,hb.2]
    cases hv
   ·rename_i b n esz;split at hv
    ·rename_i hb;injection hv with hv;subst hv
     cases hx with
     |oslice _ _ _ rb cap e m h hc hs hm=>
      refine⟨.pointer (some ((⟨rb,0,none⟩:Addr).add (j.toNat*inf.size))),?_,by rw[jB,aG];exact .ptr _ _ _ h⟩;simp[Instr.indexAt,asIntOf,run_underlying ht,qP hinf,hb.1,hb.2]
    cases hv
   ·rename_i b off n esz;split at hv
    ·rename_i hb;injection hv with hv;subst hv
     cases hx with
     |wslice _ _ _ _ rb cap h hc=>
      refine⟨.pointer (some ((⟨rb,off,none⟩:Addr).add (j.toNat*inf.size))),?_,by rw[jB];exact .ptr _ _ _ h⟩;simp[Instr.indexAt,asIntOf,run_underlying ht,qP hinf,hb.1,hb.2]
    cases hv
   ·rename_i b n esz;split at hv
    ·rename_i hb;injection hv with hv;subst hv
     cases hx with
     |gslice _ _ _ rb cap e m hp h hc hs hm=>
      refine⟨.pointer (some ((⟨rb,0,none⟩:Addr).add (j.toNat*inf.size))),?_,by rw[jB,aG];exact .ptr _ _ _ h⟩;simp[Instr.indexAt,asIntOf,run_underlying ht,qP hinf,hb.1,hb.2]
     |gslice0=>exact absurd hb.2 (by have:=hb.1;omega)
    cases hv
   cases hv
  cases hv
 ·rename_i n e k j ht;cases hi
  split at hv
  ·rename_i inf hinf;split at hv
   ·rename_i hb;split at hv
    ·rename_i b off;injection hv with hv;subst hv;obtain⟨ad,rfl,hr⟩:=hx.addPtr (k:=j.toNat*inf.size) rfl;exact⟨_,by simp[Instr.indexAt,asIntOf,run_underlying ht,Instr.sureAddr,qP hinf,hb.1,hb.2],hr⟩
    ·rename_i cs off;injection hv with hv;subst hv;obtain⟨ad,rfl,hr⟩:=hx.addFptr (k:=j.toNat*inf.size);exact⟨_,by simp[Instr.indexAt,asIntOf,run_underlying ht,Instr.sureAddr,qP hinf,hb.1,hb.2],hr⟩
    cases hv
   cases hv
  cases hv
 cases hv
def qqR (i:Inv F nu A w) {t:TypeId}{x ix:AV}{xv iv:Value}(hx:R F nu w x xv) (hi:R F nu w ix iv) {f:zx}:Ok P F nu A w (Instr.index t xv iv) (exec (.opt (qfQ P t x ix)) A f):=by
 refine Ok.opt i (λv hv=>?_);unfold qfQ at hv;split at hv
 ·rename_i s k j ht;cases hi
  cases hx with
  |str bs _ hs=>
   split at hv
   ·rename_i h0;split at hv
    ·rename_i c hc;injection hv with hv;subst hv;subst hs;refine⟨.int .u8 c.toNat,?_,.int _ _⟩
     have hb:bs[j.toNat]? =some c:=by
      obtain⟨hlt,he⟩:=Yb.1 hc
      have hlt':j.toNat<bs.size:=by simpa using hlt
      rw[getElem?_pos bs j.toNat hlt'];exact az some (by rw[<-he];rfl)
     simp[Instr.index,asIntOf,run_underlying ht,h0,hb]
    cases hv
   cases hv
 ·rename_i n e cs k j ht;cases hi
  cases hx with
  |agg _ vs hl hR=>
   split at hv
   ·rename_i inf hinf;split at hv
    ·rename_i hb;obtain⟨y,h1,h2⟩:=qgj ⟨hl,hR⟩ hv;exact⟨y,by simp[Instr.index,asIntOf,run_underlying ht,hb.1,hb.2,qP hinf,h1],h2⟩
    cases hv
   cases hv
 cases hv
end
end
section
variable [Glob]
open Go.RowKit
section
variable {P:Program}{F:Nat->Prop}{nu:Nat->Option Nat}{A:Heap}{w:World}
def RO (F:Nat->Prop) (nu:Nat->Option Nat) (w:World):Option AV->Option Value->Prop
 |none,none=>True
 |some a,some v=>R F nu w a v
 |_,_=>False
def qdW {x:Option AV}{xv:Option Value}(h:RO F nu w x xv) {d most r:Nat}(code:BoundsCode) (hb:vY x d most=some r):
 (match xv with|some v=>Instr.sliceBound v most code|none=>pure d:Sem Nat).run P w= .ok r w/\(d<=most->r<=most):=by
 cases x with
 |none=>
  cases xv with
  |none=>simp only[vY,ZI]at hb;subst hb;exact⟨rfl,id⟩
  |some v=>exact h.elim
 |some a=>
  cases xv with
  |none=>exact h.elim
  |some v=>
   cases h<;>simp only[vY,reduceCtorEq]at hb
   split at hb
   ·rename_i hh;injection hb with hb;subst hb;exact⟨by simp[Instr.sliceBound,asIntOf,hh.1,hh.2],λ_=>by omega⟩
   cases hb
def qaT {lo hi mx:Option AV}{lv hv mv:Option Value}(hl:RO F nu w lo lv) (hh:RO F nu w hi hv) (hm:RO F nu w mx mv) (isSlice:Bool) {len cap cap2 l h m:Nat}(hlc:len<=cap) (hc:cap<=cap2)
 (hb:qaW lo hi mx len cap=some (l,h,m)):∃m2,(Instr.sliceBounds isSlice len cap2 lv hv mv).run P w= .ok (l,h,m2) w/\l<=h/\h<=m/\m<=cap/\(mx.isSome=true->m2=m)/\(mx=none->m2=cap2/\m=cap):=by
 unfold qaW at hb;split at hb
 ·cases hb
 rename_i hns;split at hb
 ·rename_i m' hbm;split at hb
  ·rename_i h' hbh;split at hb
   ·rename_i l' hbl;simp only[ZI,ZP]at hb;obtain⟨rfl,rfl,rfl⟩:=hb
    cases mx with
    |none=>
     cases mv with
     |some _=>exact hm.elim
     |none=>
      simp only[vY,ZI]at hbm;subst hbm;simp only[be,ZF,bh]at hbh
      have hbh2:vY hi len cap2=some h':=by
       cases hi with
       |none=>simpa[vY]using hbh
       |some a=>cases a<;>simp only[vY,reduceCtorEq]at hbh⊢;split at hbh<;>simp_all;omega
      have e1:=qdW (P:=P) hh (if isSlice then .sliceAcap else .sliceAlen) hbh2;have e1':=(qdW (P:=P) hh .sliceAcap hbh).2 hlc;have e2:=qdW (P:=P) hl .sliceB hbl;refine⟨cap2,?_,e2.2 (aD _),e1',ai _,by simp,by simp⟩;unfold Instr.sliceBounds
      cases hv with
      |none=>
       simp only[Sem.run_pure]at e1;simp only[Result.ok.injEq,gk]at e1;have:=e1.1;subst this;simp only[Sem.run_bind,Sem.run_pure,Result.andThen_ok,be,ZF,bh];cases lv<;>simp_all
      |some v=>
       simp only[Sem.run_bind,Sem.run_pure,Result.andThen_ok,be,ZF,bh];simp only[e1.1,Result.andThen_ok];cases lv<;>simp_all
    |some ma=>
     cases mv with
     |none=>exact hm.elim
     |some mw=>
      cases hi with
      |none=>simp at hns
      |some ha=>
       cases hv with
       |none=>exact hh.elim
       |some hw=>
        simp only[fj,aT]at hbh
        have hbm2:vY (some ma) cap2 cap2=some m':=by
         cases ma<;>simp only[vY,reduceCtorEq]at hbm⊢;split at hbm<;>simp_all;omega
        have e0:=qdW (P:=P) (x:=some ma) (xv:=some mw) hm (if isSlice then .slice3Acap else .slice3Alen) hbm2;have e0':=(qdW (P:=P) (x:=some ma) (xv:=some mw) hm .slice3Acap hbm).2 (ai _);have e1:=qdW (P:=P) (x:=some ha) (xv:=some hw) hh .slice3B hbh;have e2:=qdW (P:=P) hl .slice3C hbl;refine⟨m',?_,e2.2 (aD _),e1.2 (ai _),e0',by simp,by simp⟩;unfold Instr.sliceBounds;simp only[Sem.run_bind,e0.1,Result.andThen_ok,e1.1,fj,aT];cases lv<;>simp_all
   cases hb
  cases hb
 cases hb
def RO.none_of {x:Option AV}{xv:Option Value}(h:RO F nu w x xv) (hx:x=none):xv=none:=by
 subst hx
 cases xv with
 |none=>rfl
 |some _=>exact h.elim
def ok_slice (i:Inv F nu A w) {t:TypeId}{x:AV}{xv:Value}{lo hi mx:Option AV}{lv hv mv:Option Value}(hx:R F nu w x xv) (hl:RO F nu w lo lv) (hh:RO F nu w hi hv) (hm:RO F nu w mx mv) {f:zx}:
 Ok P F nu A w (Instr.sliceAt t xv lv hv mv) (exec (.opt (zV P t x lo hi mx)) A f):=by
 refine Ok.opt i (λv hv'=>?_);unfold zV at hv';split at hv'
 ·rename_i ht;split at hv'
  ·rename_i s
   cases hx with
   |str bs _ hs=>
    split at hv'
    ·cases hv'
    rename_i hns;split at hv'
    ·rename_i l h m hb;injection hv' with hv';subst hv'
     have hmn:mx=none:=by cases mx<;>simp_all
     have hmv:=hm.none_of hmn;subst hmn;subst hmv
     have hsz:s.length=bs.size:=by subst hs;simp
     obtain⟨m2,hrun,h1,h2,h3,_,_⟩:=qaT (P:=P) hl hh hm false (ai _) (ai _) hb;rw[hsz]at hrun;refine⟨.string (bs.extract l h),?_,.str _ _ ?_⟩
     ·simp only[Instr.sliceAt,Sem.run_bind,run_underlying ht,Result.andThen_ok,Instr.slice];simp[hrun]
     subst hs;simp[ByteArray.data_extract,Array.toList_extract]
    cases hv'
  cases hv'
 ·rename_i e ht;split at hv'
  ·cases hv'
  rename_i inf hinf;have hrun0:∀(a:Option Addr) (len cap l h m:Nat),(Instr.sliceBounds true len cap lv hv mv).run P w= .ok (l,h,m) w->
   (Instr.sliceAt t (.slice a len cap) lv hv mv).run P w= .ok (.slice (if m=l then a else a.map (·.add (l*inf.size))) (h-l) (m-l)) w:=by
   intro a len cap l h m hr;simp only[Instr.sliceAt,Sem.run_bind,run_underlying ht,Result.andThen_ok,Instr.slice,hr,qP hinf];rfl
  split at hv'
  ·rename_i n cs;split at hv'
   ·cases hv'
   rename_i hns
   have hmn:mx=none:=by cases mx<;>simp_all
   have hmv:=hm.none_of hmn;subst hmn;subst hmv;split at hv'
   ·rename_i l h m hb;split at hv'
    ·rename_i hcl;injection hv' with hv';subst hv'
     have done:∀(a:Option Addr) (cap:Nat),n<=cap->(∀h2:0<n,∃(ad:Addr) (vs:List Value),a=some ad/\F ad.block/\vs.length=cs.length/\(∀(j:Nat) (v:Value),vs[j]? =some v->w.cell? (ad.add j)=some v)/\
      ∀(j:Nat) (a:AV) (v:Value),cs[j]? =some a->vs[j]? =some v->R F nu w a v)->
      ∃x,(Instr.sliceAt t (.slice a n cap) lv hv none).run P w= .ok x w/\R F nu w (.fslice (h-l) ((cs.drop (l*inf.size)).take ((h-l)*inf.size))) x:=by
      intro a cap hcap hgo;obtain⟨m2,hrun,h1,h2,h3,_,h5⟩:=qaT (P:=P) (cap2:=cap) hl hh hm true (ai _) hcap hb;obtain⟨rfl,rfl⟩:=h5 rfl;refine⟨_,hrun0 _ _ _ _ _ _ hrun,?_⟩;rcases bG (h-l)with h0|h0
      ·rw[h0,bC,bj];exact .fslice0 _ _
      rw[aa (by omega)];obtain⟨ad,vs,rfl,hF,hlen,hc,hR⟩:=hgo (by omega);refine .fslice _ _ (ad.add (l*inf.size)) _ ((vs.drop (l*inf.size)).take ((h-l)*inf.size)) (by omega) (by rw[add_block];exact hF) (by simp[hlen]) (λj v hv=>?_) (λj a v ha hv=>?_)
      ·rw[Yt]at hv;split at hv
       ·rw[YI]at hv;rw[add_add];exact hc _ v hv
       cases hv
      rw[Yt]at ha hv;split at ha
      ·rename_i hj;rw[ae hj]at hv;rw[YI]at ha hv;exact hR _ a v ha hv
      cases ha
     cases hx with
     |fslice0 B cap=>exact done B cap (aD _) (λh=>absurd h (by omega))
     |fslice _ _ ad cap vs hn hF hlen hc hR=>exact done _ cap hn (λ_=>⟨ad,vs,rfl,hF,hlen,hc,hR⟩)
    cases hv'
   cases hv'
  ·split at hv'
   ·rename_i r hb;injection hv' with hv';subst hv';obtain⟨l,h,m⟩:=r;cases hx
    obtain⟨m2,hrun,h1,h2,h3,h4,h5⟩:=qaT (P:=P) hl hh hm true (ai _) (ai _) hb
    have e1:l=0:=by omega
    have e2:h=0:=by omega
    have e3:m2=0:=by
     cases mx with
     |none=>exact(h5 rfl).1
     |some _=>have:=h4 rfl;omega
    subst e1 e2 e3;exact⟨_,hrun0 _ _ _ _ _ _ hrun,by simpa using R.nilslice⟩
   cases hv'
  ·rename_i b off n cap esz;split at hv'
   ·rename_i l h m hb;split at hv'
    ·injection hv' with hv';subst hv'
     cases hx with
     |slice _ _ _ _ _ rb hr hc=>
      obtain⟨m2,hrun,h1,h2,h3,h4,h5⟩:=qaT (P:=P) hl hh hm true hc (ai _) hb
      have e3:m2=m:=by
       cases mx with
       |none=>have:=h5 rfl;omega
       |some _=>exact h4 rfl
      subst e3;refine⟨_,hrun0 _ _ _ _ _ _ hrun,?_⟩;by_cases hml:m2=l
      ·rw[ae hml,ae hml];exact .slice _ _ _ _ _ _ hr (by omega)
      rw[aa hml,aa hml];simp only[ZM,jB];exact .slice _ _ _ _ _ _ hr (by omega)
    cases hv'
   cases hv'
  ·rename_i b n esz;split at hv'
   ·split at hv'
    ·rename_i l h m hb;split at hv'
     ·rename_i hc0;injection hv' with hv';subst hv'
      cases hx with
      |oslice _ _ _ rb cap e' m' hr hc hs hm' hxx=>
       have hmv:=hm.none_of rfl;subst hmv;obtain⟨m2,hrun,h1,h2,h3,_,h5⟩:=qaT (P:=P) (cap2:=cap) hl hh hm true (ai _) hc hb;obtain⟨rfl,rfl⟩:=h5 rfl;obtain⟨rfl,_⟩:=hc0;refine⟨_,hrun0 _ _ _ _ _ _ hrun,?_⟩;by_cases hml:m2=0
       ·rw[ae hml];exact .oslice _ _ _ _ _ _ _ hr (by omega) hs (by simpa using hm') (by omega)
       rw[aa hml];simp only[ZM,bC,add_zero',dx];exact .oslice _ _ _ _ _ _ _ hr (by omega) hs hm' (by omega)
     cases hx with
     |oslice _ _ _ rb cap e' m' hr hc hs hm' hxx=>
      have hmv:=hm.none_of rfl;subst hmv;obtain⟨m2,hrun,h1,h2,h3,_,h5⟩:=qaT (P:=P) (cap2:=cap) hl hh hm true (ai _) hc hb;obtain⟨rfl,rfl⟩:=h5 rfl;refine⟨_,hrun0 _ _ _ _ _ _ hrun,?_⟩;split at hv'
      ·rename_i hlh;injection hv' with hv';subst hv';subst hlh;rw[cd];exact .fslice0 _ _
      rename_i hlh;split at hv'
      ·injection hv' with hv';subst hv'
       have hml:¬m2=l:=by omega
       rw[aa hml];simp only[ZM,jB,aG];exact .wslice _ _ _ _ _ _ hr (by omega)
      cases hv'
    cases hv'
   rename_i ma;split at hv'
   ·rename_i l h m hb;split at hv'
    ·injection hv' with hv';subst hv'
     cases hx with
     |oslice _ _ _ rb cap e' m' hr hc hs hm' hxx=>
      obtain⟨m2,hrun,h1,h2,h3,h4,_⟩:=qaT (P:=P) (cap2:=cap) hl hh hm true (ai _) hc hb;have:=h4 rfl;subst this;refine⟨_,hrun0 _ _ _ _ _ _ hrun,?_⟩;by_cases hml:m2=l
      ·rw[ae hml,ae hml];exact .slice _ _ _ _ _ _ hr (by omega)
      rw[aa hml,aa hml];simp only[ZM,jB,aG];exact .slice _ _ _ _ _ _ hr (by omega)
    cases hv'
   cases hv'
  ·rename_i b n esz;split at hv'
   ·cases hv'
   rename_i hmx
   have hmv0:mx=none:=by
    cases mx with
    |none=>rfl
    |some _=>simp at hmx
   subst hmv0;have hmv:=hm.none_of rfl;subst hmv;split at hv'
   ·rename_i l h m hb
    cases hx with
    |gslice0=>
     obtain⟨m2,hrun,h1,h2,h3,_,h5⟩:=qaT (P:=P) (cap2:=0) hl hh hm true (ai _) (ai _) hb;obtain⟨rfl,rfl⟩:=h5 rfl
     have e2:h=0:=by omega
     have e1:l=0:=by omega
     subst e2 e1;rw[ae ⟨rfl,.inr rfl⟩]at hv';injection hv' with hv';subst hv';exact⟨_,hrun0 _ _ _ _ _ _ hrun,.fslice0 _ _⟩
    |gslice _ _ _ rb cap e' m' hp hr hc hs hm' hxx=>
     obtain⟨m2,hrun,h1,h2,h3,_,h5⟩:=qaT (P:=P) (cap2:=cap) hl hh hm true (ai _) hc hb;obtain⟨rfl,rfl⟩:=h5 rfl;refine⟨_,hrun0 _ _ _ _ _ _ hrun,?_⟩;split at hv'
     ·rename_i hlh;injection hv' with hv';subst hv';rw[hlh.1,cd];exact .fslice0 _ _
     rename_i hlh;split at hv'
     ·split at hv'
      ·rename_i hl0;injection hv' with hv';subst hv';subst hl0;by_cases hml:m2=0
       ·rw[ae hml];exact .oslice _ _ _ _ _ _ _ hr (by omega) hs (by simpa using hm') (by omega)
       rw[aa hml];simp only[ZM,bC,add_zero',dx];exact .oslice _ _ _ _ _ _ _ hr (by omega) hs hm' (by omega)
      rename_i hl0;injection hv' with hv';subst hv'
      have hml:¬m2=l:=by omega
      rw[aa hml];simp only[ZM,jB,aG];exact .wslice _ _ _ _ _ _ hr (by omega)
     cases hv'
   cases hv'
  ·rename_i b off n esz;split at hv'
   ·cases hv'
   rename_i hmx;split at hv'
   ·rename_i l h m hb
    cases hx with
    |wslice _ _ _ _ rb cap hr hc=>
     have hmv0:mx=none:=by
      cases mx with
      |none=>rfl
      |some _=>simp at hmx
     subst hmv0;have hmv:=hm.none_of rfl;subst hmv;obtain⟨m2,hrun,h1,h2,h3,_,h5⟩:=qaT (P:=P) (cap2:=cap) hl hh hm true (ai _) hc hb;obtain⟨rfl,rfl⟩:=h5 rfl;refine⟨_,hrun0 _ _ _ _ _ _ hrun,?_⟩;split at hv'
     ·rename_i hlh;injection hv' with hv';subst hv';subst hlh;rw[cd];exact .fslice0 _ _
     rename_i hlh;split at hv'
     ·injection hv' with hv';subst hv'
      have hml:¬m2=l:=by omega
      rw[aa hml];simp only[ZM,jB];exact .wslice _ _ _ _ _ _ hr (by omega)
     cases hv'
   cases hv'
  cases hv'
 cases hv'
def zt {v v':AV}{A':Heap}{f f':zx}(h:exec (.done v) A f=some (v',A',f')):v'=v/\A'=A:=by
 simp only[exec,ZI,ZP]at h;exact⟨h.1.symm,h.2.1.symm⟩
def qnF {t e:TypeId}(ht:P.underlying t=some (.slice e)) (ty:TypeId) (a:Option Addr) (n c:Nat):(Builtin.len_ #[t] ty #[.slice a n c]).run P w= .ok (.int .i64 n) w:=by
 simp[Builtin.len_,run_underlying ht,goInt]
def qng {t e:TypeId}(ht:P.underlying t=some (.slice e)) (ty:TypeId) (a:Option Addr) (n c:Nat):(Builtin.cap_ #[t] ty #[.slice a n c]).run P w= .ok (.int .i64 c) w:=by
 simp[Builtin.cap_,run_underlying ht,goInt]
def qtK (i:Inv F nu A w) {t:TypeId}{d:TypeDesc}{x:AV}{xv:Value}(ht:P.underlying t=some d) (ty:TypeId) (hx:R F nu w x xv) {f:zx}:Ok P F nu A w (Builtin.len_ #[t] ty #[xv]) (exec (aLen d x) A f):=by
 intro v A' f' h;unfold aLen at h;split at h
 ·cases hx<;>try (simp[exec]at h;done)
  rename_i s l hs;obtain⟨rfl,rfl⟩:=zt h;subst hs;exact⟨.int .i64 s.size,w,nu,by simp[Builtin.len_,run_underlying ht,goInt],.refl i,by simpa using R.int .i64 _⟩
 ·cases hx<;>try (simp[exec]at h;done)
  all_goals
   obtain⟨rfl,rfl⟩:=zt h;exact⟨_,w,nu,qnF ht ty _ _ _,.refl i,.int .i64 _⟩
 ·cases hx<;>try (simp[exec]at h;done)
  ·obtain⟨rfl,rfl⟩:=zt h;exact⟨.int .i64 0,w,nu,by simp[Builtin.len_,run_underlying ht,goInt],.refl i,.int .i64 _⟩
  ·rename_i b rb hb;simp only[exec]at h;split at h
   ·rename_i y hy;split at h
    ·rename_i ks vs;obtain⟨rfl,rfl⟩:=zt h;obtain⟨_,es,c,h1,h2,_,_,_⟩:=i.blk b rb _ hb hy;exact⟨.int .i64 es.size,w,nu,by simp[Builtin.len_,run_underlying ht,goInt,getObj,Sem.run,h1],.refl i,by rw[<-h2];exact R.int .i64 _⟩
    simp[exec]at h
   cases h
  rename_i ks vs rb es c hF hh hk hv hRk hRv;obtain⟨rfl,rfl⟩:=zt h;exact⟨.int .i64 es.size,w,nu,by simp[Builtin.len_,run_underlying ht,goInt,getObj,Sem.run,hh],.refl i,by rw[<-hk];exact R.int .i64 _⟩
 ·obtain⟨rfl,rfl⟩:=zt h;exact⟨_,w,nu,by simp[Builtin.len_,run_underlying ht,goInt],.refl i,.int .i64 _⟩
 simp[exec]at h
def qup (i:Inv F nu A w) {t e:TypeId}{x:AV}{xv:Value}(ht:P.underlying t=some (.slice e)) (ty:TypeId) (hx:R F nu w x xv) {f:zx}:Ok P F nu A w (Builtin.cap_ #[t] ty #[xv]) (exec (.opt (aCap x)) A f):=by
 refine Ok.opt i (λv hv=>?_);cases hx<;>simp only[aCap,ZI,reduceCtorEq]at hv<;>subst hv
 all_goals exact⟨_,qng ht ty _ _ _,.int .i64 _⟩
end
end
section
variable [Glob]
open Go.RowKit
structure qfL (P:Program) (t tx ty e:TypeId) (inf:TypeInfo) (z x:Value) (n:Nat) (news:List Value) (w:World):Prop where
 len:news.length=n*inf.size
 room:∀(a:Addr) (sLen sCap:Nat) (w':World),sLen+n<=sCap->(storeCells (a.add (sLen*inf.size)) news).run P w= .ok () w'->
  (Builtin.append_ #[t,tx] ty #[.slice (some a) sLen sCap,x]).run P w= .ok (.slice (some a) (sLen+n) sCap) w'
 nil:n=0->∀(base:Option Addr) (sLen sCap:Nat),sLen<=sCap->(Builtin.append_ #[t,tx] ty #[.slice base sLen sCap,x]).run P w= .ok (.slice base sLen sCap) w
 grow:∀(base:Option Addr) (sLen sCap:Nat) (olds:List Value),(Builtin.firstCells inf.size sLen (.slice base sLen sCap)).run P w.drew= .ok olds.toArray w.drew->sCap<sLen+n->sLen+n<=140737488355328->(sLen+n)*inf.bytes<=140737488355328->
  (Builtin.append_ #[t,tx] ty #[.slice base sLen sCap,x]).run P w= .ok (.slice (some ⟨w.heap.size,0,none⟩) (sLen+n) (grownCap w (sLen+n) sCap e))
   (w.drew.alloc (.cells ((olds++news).toArray++Builtin.zeroCells z.cells (grownCap w (sLen+n) sCap e-(sLen+n))) e))
section
variable {P:Program}{F:Nat->Prop}{nu:Nat->Option Nat}{A:Heap}{w:World}
def qfL.ofSrc {t tx ty e:TypeId}{inf:TypeInfo}{z:Value}(ht:P.underlying t=some (.slice e)) (hi:P.info? e=some inf) (hz:inf.zero=some z) {x:Value}{n:Nat}{news:List Value}(hs:Src P inf.size tx x n news w):
 qfL P t tx ty e inf z x n news w where
 len:=hs.newsLen
 room a sLen sCap w' hroom hst:=by
  rcases hs.kind with⟨e',hk⟩|hk<;>simp[Builtin.append_,run_underlying ht,run_underlying hk,sizeOf,typeInfo,hi,hs.len,hroom,hs.cells,hst]
 nil h0 base sLen sCap hc:=by
  have hn:news=[]:=cS (by rw[hs.newsLen,h0,bC]);subst hn;subst h0;rcases hs.kind with⟨e',hk⟩|hk<;>cases base<;>simp[Builtin.append_,run_underlying ht,run_underlying hk,sizeOf,typeInfo,hi,hs.len,hc,hs.cells,storeCells]
 grow base sLen sCap olds hold hg h1 h2:=run_append_grow_src w t tx ty e inf z ht hi hz base sLen sCap olds hold x n news hs hg (by omega) (growslice_fits hg h2)
def wrap_small {n:Int}(h0:0<=n) (h1:n<=9223372036854775807):IntKind.i64.wrap n=n:=by
 have e:n%(2^IntKind.i64.bits:Int)=n:=bM h0 (by simp[IntKind.bits];omega)
 have e2:¬n>=(2^(IntKind.i64.bits-1):Int):=by simp[IntKind.bits];omega
 simp only[IntKind.wrap,e,e2,decide_false,Bool.and_false,ZF,bh]
def qfL.ofZeros {t tx ty e:TypeId}{inf:TypeInfo}{z:Value}{ik:IntKind}(ht:P.underlying t=some (.slice e)) (hu:P.underlying tx=some (.int ik)) (hi:P.info? e=some inf) (hz:inf.zero=some z) (hzs:z.cells.size=inf.size)
 {n:Int}(h0:0<=n) (hn:n<=140737488355328) (hb:n*inf.bytes<=140737488355328):qfL P t tx ty e inf z (.int .i64 n) n.toNat (Builtin.zeroCells z.cells n.toNat).toList w:=by
 obtain⟨k,rfl⟩:=bA h0;simp only[aU];have hw:IntKind.i64.wrap (k:Int)=k:=wrap_small h0 (by omega)
 have hneg:¬(k:Int)<0:=by omega
 have hbig':¬(281474976710656:Int)<(k:Int)*(inf.bytes:Int):=by omega
 have hlen:(Builtin.zeroCells z.cells k).toList.length=k*inf.size:=by rw[cO,size_zeroCells,hzs]
 have hemp:k*inf.size=0->Builtin.zeroCells z.cells k=#[]:=λhh=>Array.eq_empty_of_size_eq_zero (by rw[size_zeroCells,hzs,hh])
 have hhead:∀(base:Option Addr) (sLen sCap:Nat) (w':World),(Builtin.append_ #[t,tx] ty #[.slice base sLen sCap,.int .i64 k]).run P w'=
  if sLen+k<=sCap then
   (match base with
    |some a=>(storeCells (a.add (sLen*inf.size)) (Builtin.zeroCells z.cells k).toList).run P w'
    |none=> .ok () w').andThen λ_ w2=> .ok (.slice base (sLen+k) sCap) w2
  else(do
   if((sLen+k:Nat):Int)>IntKind.i64.max/\True then runtimePanic (.error "growslice: len out of range")
   if Builtin.nextslicecap (sLen+k) sCap*inf.bytes>2^48 then runtimePanic (.error "growslice: len out of range")
   let newCap<-choose (.appendCap (sLen+k) sCap e)
   askRoom (newCap*inf.bytes)
   let old<-Builtin.firstCells inf.size sLen (.slice base sLen sCap);let new<-(if k*inf.size=0 then pure #[]else do pure (Builtin.zeroCells (<-zeroValue e).cells k):Sem (Array Value))
   pure (.slice (some (<-newRow e (old++new++Builtin.zeroCells (<-zeroValue e).cells (newCap-(sLen+k))))) (sLen+k) newCap):Sem Value).run P w':=by
  intro base sLen sCap w';simp only[Builtin.append_,Sem.run_bind,List.getElem?_toArray,Yj,YK,run_underlying ht,Result.andThen_ok,qP hi,run_underlying hu,Sem.run_pure,aT,asInt,asIntOf,hw,qgs hi,Sem.run_ite,aa hneg,aU];by_cases hroom:sLen+k<=sCap
  ·simp only[ae hroom];by_cases hh:k*inf.size=0
   ·rw[hemp hh];cases base<;>simp[hbig',hh]
   cases base<;>simp[hbig',hh,qR hi hz]
  simp only[aa hroom];simp[hbig']
 refine⟨hlen,?_,?_,?_⟩
 ·intro a sLen sCap w' hroom hst;rw[hhead,ae hroom];simp[hst]
 ·intro hk base sLen sCap hc;subst hk;rw[hhead,ae (by omega),hemp (by simp)];cases base<;>simp[storeCells]
 intro base sLen sCap olds hold hg hl1 hl2;have hfit:=growslice_fits hg hl2
 have h48:¬(281474976710656<Builtin.nextslicecap (sLen+k) sCap*inf.bytes):=by omega
 rw[hhead,aa (by omega)]
 have h63:¬(9223372036854775807<(sLen:Int)+(k:Int)):=by omega
 by_cases hh:k*inf.size=0
 ·rw[hemp hh];simp[h63,h48,hh,Question.forced,hold,qR hi hz,newRow,grownCap]
 simp[h63,h48,hh,Question.forced,hold,qR hi hz,newRow,grownCap];congr 2;apply Array.ext';simp
def qhT (i:Inv F nu A w) {size:Nat}{x:AV}{xv:Value}{tx:TypeId}(hsz:0<size) (hk:(∃e',P.underlying tx=some (.slice e'))\/P.underlying tx=some .string) (hx:R F nu w x xv) (hd:(∃e',P.underlying tx=some (.slice e'))->∀s,x≠ .str s)
 {k:Nat->List AV->Pg}{f:zx}{r:AV×Heap×zx}(h:exec (qW size x k) A f=some r):
 ∃(n:Nat) (news:List AV) (vs:List Value) (f':zx),Src P size tx xv n vs w/\news.length=vs.length/\(∀(j:Nat) (a:AV) (v:Value),news[j]? =some a->vs[j]? =some v->R F nu w a v)/\exec (k n news) A f'=some r/\(∀a n' c,xv= .slice a n' c->n'=n):=by
 have sl:∀(a:Addr) (n c:Nat) (news:List AV) (vs:List Value),(∃e',P.underlying tx=some (.slice e'))\/P.underlying tx=some .string->vs.length=n*size->news.length=n*size->news.all zX=true->(∀(j:Nat) (v:Value),vs[j]? =some v->w.cell? (a.add j)=some v)->
  (∀(j:Nat) (a:AV) (v:Value),news[j]? =some a->vs[j]? =some v->R F nu w a v)->Src P size tx (.slice (some a) n c) n vs w:=by
  intro a n c news vs hk h1 h2 h3 h4 h5
  have h6:∀u∈vs,u.oneCell'=true:=by
   intro u hu;have:RL F nu w news vs.toArray:=⟨by simp;omega,λj a v ha hv=>h5 j a v ha (by simpa using hv)⟩;exact this.cells_one h3 u (by simpa using hu)
  have hf:∀w':World,(∀(j:Nat) (v:Value),vs[j]? =some v->w'.cell? (a.add j)=some v)->(Builtin.firstCells size n (.slice (some a) n c)).run P w'= .ok vs.toArray w':=λw' h=>run_firstCells_some (P:=P) w' size n a n c vs h1 h
  exact⟨hk,λ_=>rfl,hf w h4,hf w.drew h4,h1,h6⟩
 unfold qW at h;split at h
 ·rename_i s
  cases hx with
  |str bs _ hs=>
   split at h
   ·rename_i h1;subst h1;rcases hk with hk|hk
    ·exact absurd rfl (hd hk s)
    subst hs;have hb:=Src.ofString (w:=w) hk bs;refine⟨_,_,byteCells bs,f,by simpa using hb,by simp[byteCells_length],λj a v ha hv=>?_,h,λ_ _ _ e=>by cases e⟩
    have hb2:byteCells bs=bs.data.toList.map λc=>Value.int .u8 c.toNat:=by simp[byteCells]
    rw[hb2,YA]at hv;rw[YA]at ha
    cases hc:bs.data.toList[j]? with
    |none=>simp[hc]at ha
    |some c=>
     simp only[hc,ZM,ZI]at ha hv;subst ha;subst hv;exact .int _ _
   simp[exec]at h
 ·rename_i n cs;split at h
  ·rename_i hc
   cases hx with
   |fslice0 B cap=>
    refine⟨0,[],[],f,?_,rfl,by simp,h,λ_ _ _ e=>by injection e with _ e;exact e.symm⟩
    cases B with
    |none=>
     rcases hk with⟨e',hk⟩|hk
     ·exact Src.ofNil w hk cap
     exact⟨.inr hk,λ_=>rfl,rfl,rfl,by simp,by simp⟩
    |some a=>exact sl a 0 cap [] [] hk (by simp) (by simp) rfl (by simp) (by simp)
   |fslice _ _ ad cap vs hn hF hl hcc hR=>exact⟨n,cs,vs,f,sl ad n cap cs vs hk (hl.trans hc.1) hc.1 hc.2 hcc hR,hl.symm,hR,h,λ_ _ _ e=>by injection e with _ e;exact e.symm⟩
  simp[exec]at h
 ·cases hx
  refine⟨0,[],[],f,?_,rfl,by simp,h,λ_ _ _ e=>by injection e with _ e;exact e.symm⟩;rcases hk with⟨e',hk⟩|hk
  ·exact Src.ofNil w hk 0
  exact⟨.inr hk,λ_=>rfl,rfl,rfl,by simp,by simp⟩
 ·rename_i b off n cap esz
  cases hx with
  |slice _ _ _ _ _ rb hb hc=>
   obtain⟨y,cs,hA,hcs,hk2⟩:=jv h;obtain⟨vs,h1,h2,h3,h4⟩:=qaQ i hb hA hcs;split at hk2
   ·rename_i hone;exact⟨n,cs,vs,_,sl ⟨rb,off,none⟩ n cap cs vs hk h1 h2 hone (λj v hv=>by rw[jB];exact h3 j v hv) h4,by omega,h4,hk2,λ_ _ _ e=>by injection e with _ e;exact e.symm⟩
   simp[exec]at hk2
 ·rename_i b n esz
  cases hx with
  |oslice _ _ _ rb cap e m hb hc hs hm=>
   obtain⟨y,cs,hA,hcs,hk2⟩:=jv h;obtain⟨vs,h1,h2,h3,h4⟩:=qaQ i hb hA hcs;split at hk2
   ·rename_i hone;exact⟨n,cs,vs,_,sl ⟨rb,0,none⟩ n cap cs vs hk h1 h2 hone (λj v hv=>by rw[jB];exact h3 j v hv) h4,by omega,h4,hk2,λ_ _ _ e=>by injection e with _ e;exact e.symm⟩
   simp[exec]at hk2
 ·rename_i b n esz
  cases hx with
  |gslice0=>
   obtain⟨y,cs,hA,hcs,hk2⟩:=jv h
   have hcs0:cs=[]:=by
    rw[bC]at hcs;unfold vI at hcs;split at hcs
    ·split at hcs
     ·injection hcs with hcs;simpa using hcs.symm
     cases hcs
    ·split at hcs
     ·injection hcs with hcs;simpa using hcs.symm
     cases hcs
    ·split at hcs
     ·simp at*
     cases hcs
    cases hcs
   subst hcs0;simp only[fG,aT]at hk2;refine⟨0,[],[],_,?_,rfl,by simp,hk2,λ_ _ _ e=>by injection e with _ e;exact e.symm⟩;rename_i p
   cases p with
   |none=>
    rcases hk with⟨e',hk⟩|hk
    ·exact Src.ofNil w hk 0
    exact⟨.inr hk,λ_=>rfl,rfl,rfl,by simp,by simp⟩
   |some a=>exact sl a 0 0 [] [] hk (by simp) (by simp) rfl (by simp) (by simp)
  |gslice _ _ _ rb cap e m hp hb hc hs hm=>
   obtain⟨y,cs,hA,hcs,hk2⟩:=jv h;obtain⟨vs,h1,h2,h3,h4⟩:=qaQ i hb hA hcs;split at hk2
   ·rename_i hone;exact⟨n,cs,vs,_,sl ⟨rb,0,none⟩ n cap cs vs hk h1 h2 hone (λj v hv=>by rw[jB];exact h3 j v hv) h4,by omega,h4,hk2,λ_ _ _ e=>by injection e with _ e;exact e.symm⟩
   simp[exec]at hk2
 ·rename_i b off n esz
  cases hx with
  |wslice _ _ _ _ rb cap hb hc=>
   obtain⟨y,cs,hA,hcs,hk2⟩:=jv h;obtain⟨vs,h1,h2,h3,h4⟩:=qaQ i hb hA hcs;split at hk2
   ·rename_i hone;exact⟨n,cs,vs,_,sl ⟨rb,off,none⟩ n cap cs vs hk h1 h2 hone (λj v hv=>by rw[jB];exact h3 j v hv) h4,by omega,h4,hk2,λ_ _ _ e=>by injection e with _ e;exact e.symm⟩
   simp[exec]at hk2
 simp[exec]at h
def qlb {old news:List AV}{ov nv rest:List Value}(hl:ov.length=old.length) (h1:∀(j:Nat) (a:AV) (v:Value),old[j]? =some a->ov[j]? =some v->R F nu w a v)
 (h2:∀(j:Nat) (a:AV) (v:Value),news[j]? =some a->nv[j]? =some v->R F nu w a v) (hl2:news.length<=nv.length):∀(j:Nat) (a:AV) (v:Value),(old++news)[j]? =some a->(ov++nv++rest)[j]? =some v->R F nu w a v:=by
 intro j a v ha hv;rcases aw j old.length with hj|hj
 ·rw[Yf hj]at ha;rw[Yz,Yf (by omega)]at hv;exact h1 j a v ha hv
 rw[Yo hj]at ha;have hlt:j-old.length<news.length:=(Yb.1 ha).1;rw[Yz,Yo (by omega),Yf (by omega),hl]at hv;exact h2 _ a v ha hv
def Stp.more (i:Inv F nu A w) (x:Blk):Stp F nu A w F nu (A++[x]) w:=by
 have old:∀b rb y,nu b=some rb->(A++[x])[b]? =some y->A[b]? =some y:=by
  intro b rb y hb hy;rcases aw b A.length with h|h
  ·rwa [Yf h]at hy
  rw[i.fresh b h]at hb;cases hb
 refine⟨λ_ h=>h,λ_ _ h=>h,λ_ _ h=>h,⟨λb rb y hb hy=>i.blk b rb y hb (old b rb y hb hy),λb b' rb rb' y y' r hb hb' hy hy' ho ho' hr hr'=>i.injF b b' rb rb' y y' r hb hb' (old b rb y hb hy) (old b' rb' y' hb' hy') ho ho' hr hr',λb hb=>i.fresh b (by simp at hb;omega),i.ltF,i.ltN,i.glob⟩,λ_ _ _=>rfl,?_,ai _,rfl,rfl,rfl,λ_ _=>rfl,by simp,λ_ h=> .inl h⟩;rintro r _ ⟨b,y,rb,hb,hy,ho⟩;exact⟨b,y,rb,hb,old b rb y hb hy,ho⟩
def Stp.renameTo (i:Inv F nu A w) {b rb m:Nat}{cs:List AV}(hb:nu b=some rb) (hA:A[b]? =some (.cells cs)):Stp F nu A w F (upd nu A.length rb) (A.set b .dead++[.cells (cs.take m)]) w:=by
 have hblt:b<A.length:=(Yb.1 hA).1
 have s1:=U2 i hb hA rfl (k:= .cells (cs.take m)) rfl (w':=w) (λ_ _=>rfl) rfl (λ_ h=>h) rfl rfl rfl (λ_=>by
  obtain⟨h1,vs,e,h2,h3,h4⟩:=i.blk b rb _ hb hA;refine⟨h1,vs,e,h2,bx (by rw[Ym];exact fL _ _) h3,λj a v ha hv=>?_⟩;rw[Yt]at ha;split at ha
  ·exact h4 j a v ha hv
  cases ha)
 have s2:=Uw s1.inv (b:=b) hb (k:= .cells (cs.take m)) (by simp[hblt]) rfl;simp only[bK,Yk]at s2;exact s1.trans s2
def R.toG {b n esz:Nat}{x:Value}(h:R F nu w (.oslice b n esz) x) (hp:0<n):R F nu w (.gslice b n esz) x:=by
 cases h with
 |oslice _ _ _ rb cap e m hb hc hs hm hx=>exact .gslice _ _ _ rb cap e m hp hb hc hs hm hx
def qfF (i:Inv F nu A w) {t tx ty e:TypeId}{inf:TypeInfo}{z:Value}{s:AV}{sv xv:Value}{n:Nat}{news:List AV}{vs:List Value}(hs:R F nu w s sv) (hr:qfL P t tx ty e inf z xv n vs w) (hzs:z.cells.size=inf.size)
 (hl:news.length=vs.length) (hR:∀(j:Nat) (a:AV) (v:Value),news[j]? =some a->vs[j]? =some v->R F nu w a v) (h1:∀u∈vs,u.oneCell'=true) {f:zx}:
 Ok P F nu A w (Builtin.append_ #[t,tx] ty #[sv,xv]) (exec (xk inf.size inf.bytes s n news) A f):=by
 intro v A' f' h;have hge:=grownCap_ge w;have hlen:=hr.len;have fresh:∀(base:Option Addr) (sLen sCap:Nat) (old:List AV) (ov:List Value),(Builtin.firstCells inf.size sLen (.slice base sLen sCap)).run P w.drew= .ok ov.toArray w.drew->sCap<sLen+n->sLen+n<=140737488355328->(sLen+n)*inf.bytes<=140737488355328->
  ov.length=old.length->old.length=sLen*inf.size->(∀(j:Nat) (a:AV) (v:Value),old[j]? =some a->ov[j]? =some v->R F nu w a v)->
  ∃x w' nu',(Builtin.append_ #[t,tx] ty #[.slice base sLen sCap,xv]).run P w= .ok x w'/\Stp F nu A w F nu' (A++[.cells (old++news)]) w'/\R F nu' w' (.oslice A.length (sLen+n) inf.size) x:=by
  intro base sLen sCap old ov hold hg hb1 hb2 hlo hlo2 hRo;have hrun:=hr.grow base sLen sCap ov hold hg hb1 hb2;have s1:=Stp.drew (w:=w) i;have s2:=Ug s1.inv ((ov++vs).toArray++Builtin.zeroCells z.cells (grownCap w (sLen+n) sCap e-(sLen+n))) e (old++news) (by simp;omega)
   (λj a v ha hv=>by
    refine(qlb (rest:=(Builtin.zeroCells z.cells (grownCap w (sLen+n) sCap e-(sLen+n))).toList) hlo hRo hR (by omega) j a v ha ?_).mono (s1.ext i);rw[<-YT]at hv
    simpa using hv)
  refine⟨_,_,_,hrun,s1.trans s2,?_⟩;have hcap:=hge (sLen+n) sCap e;refine .oslice _ _ _ _ _ e (((ov++vs).toArray++Builtin.zeroCells z.cells (grownCap w (sLen+n) sCap e-(sLen+n))).size) (upd_same _ _) hcap ?_ ?_ (Go.grownCap_le_maxLen w (sLen+n) sCap e (by unfold maxLen;omega))
  ·simp only[World.shape?];have:=Go.heap_alloc_new w.drew (.cells ((ov++vs).toArray++Builtin.zeroCells z.cells (grownCap w (sLen+n) sCap e-(sLen+n))) e);simp only[World.size_drew]at this;rw[this]
  simp only[dB,fJ,Yq,size_zeroCells,hzs,hlo,hlo2,hlen];rw[<-Nat.add_mul,<-Nat.add_mul];exact aW _ (by omega)
 have bagApp:∀{b rb cap len m:Nat}{e':TypeId}{es:List Ent}{a:AV},nu b=some rb->A[b]? =some (.bag es)->w.shape? rb=some (e',m)->cap*inf.size<=m->len<=cap->cap<=9223372036854775807->news=[a]->inf.size=1->n=1->len=es.length->
  (len+n)*inf.bytes<=140737488355328->len+n<=140737488355328->
  ∃x w' nu',(Builtin.append_ #[t,tx] ty #[.slice (some ⟨rb,0,none⟩) len cap,xv]).run P w= .ok x w'/\Stp F nu A w F nu' (A.set b .dead++[.bag (es++[.av a])]) w'/\R F nu' w' (.oslice A.length (len+n) inf.size) x:=by
  intro b rb cap len m e' es a hb hA hsh hm hc hxx hne hsz hn hle hb1 hb2;subst hne hn hle;obtain⟨_,vs0,e0,hh,hl0,hR0⟩:=i.blk b rb _ hb hA
  have he:e'=e0/\m=vs0.size:=by
   simp only[World.shape?,hh,ZI,ZP]at hsh;exact⟨hsh.1.symm,hsh.2.symm⟩
  have hblt:b<A.length:=(Yb.1 hA).1
  obtain⟨y,rfl⟩:∃y,vs=[y]:=by
   cases vs with
   |nil=>simp at hl
   |cons y ys=>cases ys with
    |nil=>exact⟨y,rfl⟩
    |cons q r=>simp at hl
  have hRy:R F nu w a y:=hR 0 a y rfl rfl;by_cases hroom:es.length+1<=cap
  ·have s0:=Stp.bagGrow i hA (λrb' vs' e'' hb' hh'=>by
    rw[hb]at hb';injection hb' with hb';subst hb';rw[hh]at hh';simp only[ZI,Obj.cells.injEq]at hh';obtain⟨rfl,_⟩:=hh'
    rw[hsz]at hm;omega)
   obtain⟨w',hst,s1⟩:=qnZ (P:=P) s0.inv (off:=es.length) (es:=es++[.av .undef]) (a:=a) (y:=y) hb (by simp[hblt]) (by simp) (h1 y (by simp)) hRy
   have e3:(es++[Ent.av .undef]).set es.length (.av a)=es++[.av a]:=by simp
   rw[bK,e3]at s1;have s2:=Uw s1.inv (b:=b) hb (k:= .bag (es++[.av a])) (by simp[hblt]) rfl;simp only[bK,Yk]at s2;refine⟨_,_,_,hr.room ⟨rb,0,none⟩ es.length cap _ hroom (by rw[jB,aG,hsz,cR];exact hst),(s0.trans s1).trans s2,?_⟩;exact .oslice _ _ _ _ _ e' m (upd_same _ _) hroom (s1.shape _ _ (s0.shape _ _ hsh)) hm hxx
  have hold:(Builtin.firstCells inf.size es.length (.slice (some ⟨rb,0,none⟩) es.length cap)).run P w.drew= .ok (vs0.toList.take es.length).toArray w.drew:=by
   refine run_firstCells_some (P:=P) w.drew inf.size es.length ⟨rb,0,none⟩ es.length cap _ (by simp[hsz];omega) (λj v hv=>?_);rw[Yt]at hv;split at hv
   ·rw[jB,aG];show w.cell? _=_;simp only[World.cell?,hh,be,ZF,bh];simpa using hv
   cases hv
  have hrun:=hr.grow (some ⟨rb,0,none⟩) es.length cap _ hold (by omega) hb2 hb1;have s1:=Stp.drew (w:=w) i;have s2:=Stp.bagMove s1.inv (b:=b) (es:=es) (a:=a) (e:=e) (vs:=(vs0.toList.take es.length++[y]).toArray++Builtin.zeroCells z.cells (grownCap w (es.length+1) cap e-(es.length+1))) hb hA (vs0:=vs0) (e0:=e0) hh
   (λj hj=>by
    rw[<-YT,eY,Yf (by simp;omega)];rw[Yf (by simp;omega),Yt,ae hj]
    simp)
   (by simp;omega) (λv hv=>by
    rw[<-YT,eY,Yf (by simp;omega)]at hv;rw[Yo (by simp;omega)]at hv
    have e0:es.length-(vs0.toList.take es.length).length=0:=by simp;omega
    rw[e0]at hv;simp at hv;subst hv
    exact hRy.mono (s1.ext i))
  refine⟨_,_,_,hrun,s1.trans s2,?_⟩;have hcap:=hge (es.length+1) cap e;refine .oslice _ _ _ _ _ e (((vs0.toList.take es.length++[y]).toArray++Builtin.zeroCells z.cells (grownCap w (es.length+1) cap e-(es.length+1))).size) (upd_same _ _) hcap ?_ ?_ (Go.grownCap_le_maxLen w (es.length+1) cap e (by unfold maxLen;omega))
  ·simp only[World.shape?];have:=Go.heap_alloc_new w.drew (.cells ((vs0.toList.take es.length++[y]).toArray++Builtin.zeroCells z.cells (grownCap w (es.length+1) cap e-(es.length+1))) e);simp only[World.size_drew]at this;rw[this]
  simp only[dB,fJ,Yq,size_zeroCells,hzs,hsz,Ym,Yr,aN]
  have:min es.length vs0.toList.length=es.length:=by simp;omega
  rw[this];omega
 unfold xk at h;split at h
 ·cases hs
  split at h
  ·rename_i h0;obtain⟨rfl,rfl⟩:=zt h;exact⟨_,w,nu,hr.nil h0 none 0 0 (ai _),.refl i,.nilslice⟩
  rename_i h0;split at h
  ·rename_i hb;simp only[exec,ZI,ZP]at h;obtain⟨rfl,rfl,_⟩:=h;have:=fresh none 0 0 [] [] (by simp[Builtin.firstCells]) (by omega) (by omega) (by simpa using hb.1) rfl (by simp) (by simp);simpa using this
  simp[exec]at h
 ·rename_i b off len cap esz
  cases hs with
  |slice _ _ _ _ _ rb hb hc=>
   split at h
   ·rename_i hz;obtain⟨rfl,rfl⟩:=hz;simp only[exec]at h;split at h
    ·rename_i y hy;split at h
     ·rename_i cs;split at h
      ·rename_i hcond;obtain⟨rfl,rfl,hb1,hb2⟩:=hcond;simp only[exec,Yk]at h;split at h
       ·simp only[ZI,ZP]at h;obtain⟨rfl,rfl,_⟩:=h;by_cases h0:n=0
        ·subst h0
         have hn0:news=[]:=by
          rw[<-YL,hl,hlen,bC]
         subst hn0;have s2:=Stp.renameTo (m:=0) i hb hy;refine⟨_,w,_,hr.nil rfl (some ⟨rb,0,none⟩) 0 0 (ai _),by simpa using s2,.gslice0 _ _ _⟩
        have:=fresh (some ⟨rb,0,none⟩) 0 0 [] [] (by simp[Builtin.firstCells,loadCells,loadCellsFrom]) (by omega) (by omega) (by simpa using hb1) rfl (by simp) (by simp);obtain⟨x,w',nu',hrun,hstp,hRx⟩:=this;have hblt:b<A.length:=(Yb.1 hy).1;have s2:=Uv hstp.inv b;rw[bO _ _ hblt]at s2;exact⟨x,w',nu',hrun,by simpa using hstp.trans s2,R.toG (by simpa using hRx) (by omega)⟩
       cases h
      simp[exec]at h
     simp[exec]at h
    cases h
   rename_i hz0;split at h
   ·rename_i hroom;simp only[exec]at h;split at h
    ·rename_i y hy;split at h
     ·rename_i cs;split at h
      ·rename_i hcond;simp only[exec]at h;split at h
       ·simp only[ZI,ZP]at h;obtain⟨rfl,rfl,_⟩:=h;obtain⟨w',hst,hstp⟩:=qe5 (P:=P) (off:=off+len*inf.size) (xs:=news) i hb hy hcond.2 (ys:=vs) hl.symm h1 hR;refine⟨_,w',nu,hr.room ⟨rb,off,none⟩ len cap w' hroom (by rw[jB];exact hst),hstp,.slice _ _ _ _ _ _ (hstp.n _ _ hb) hroom⟩
       cases h
      simp[exec]at h
     simp[exec]at h
    cases h
   rename_i hroom;obtain⟨y,cs,hA,hcs,hk⟩:=jv h;obtain⟨ov,g1,g2,g3,g4⟩:=qaQ i hb hA hcs;split at hk
   ·rename_i hcond;simp only[exec,ZI,ZP]at hk;obtain⟨rfl,rfl,_⟩:=hk;exact fresh (some ⟨rb,off,none⟩) len cap cs ov (run_firstCells_some (P:=P) w.drew inf.size len ⟨rb,off,none⟩ len cap ov g1 (λj v hv=>by rw[jB];exact g3 j v hv)) (by omega) hcond.2 hcond.1 (by omega) g2 g4
   simp[exec]at hk
 ·rename_i b len esz
  cases hs with
  |oslice _ _ _ rb cap e' m hb hc hsh hm hxx=>
   simp only[exec]at h;split at h
   ·rename_i y hy;split at h
    ·rename_i cs;split at h
     ·rename_i hcond;obtain⟨hc1,hc2,hc3,hc4⟩:=hcond;subst hc1;simp only[exec,Yk]at h;split at h
      ·simp only[ZI,ZP]at h;obtain⟨rfl,rfl,_⟩:=h;by_cases h0:n=0
       ·subst h0
        have hn0:news=[]:=by
         rw[<-YL,hl,hlen,bC]
        subst hn0;have s2:=Stp.renameTo (m:=len*inf.size) i hb hy;exact⟨_,w,_,hr.nil rfl _ _ _ hc,by simpa using s2,.oslice _ _ _ _ _ e' m (upd_same _ _) hc hsh hm hxx⟩
       obtain⟨hnF,vs0,e0,hh,hlen0,hR0⟩:=i.blk b rb _ hb hy
       have he:e'=e0/\m=vs0.size:=by
        simp only[World.shape?,hh,ZI,ZP]at hsh;exact⟨hsh.1.symm,hsh.2.symm⟩
       by_cases hroom:len+n<=cap
       ·
        have hfit:len*inf.size+vs.length<=vs0.size:=by
         have:=aW inf.size hroom;rw[Nat.add_mul,<-hlen]at this;omega
        have hst:=run_storeCells_at P rb (len*inf.size) e0 vs 0 vs0 w hh (by omega) h1;simp only[bz]at hst
        have hRn:∀(j:Nat) (a:AV) (v:Value),(cs.take (len*inf.size)++news)[j]? =some a->(vs0.toList.take (len*inf.size)++vs++vs0.toList.drop (len*inf.size+vs.length))[j]? =some v->R F nu w a v:=by
         refine qlb (by simp;omega) (λj a v ha hv=>?_) hR (by omega);rw[Yt]at ha hv;split at ha
         ·rename_i hj;rw[ae hj]at hv;exact hR0 j a v ha (by simpa using hv)
         cases ha
        have s1:=Stp.setRow i hb hy hh (vs:=(vs0.toList.take (len*inf.size)++vs++vs0.toList.drop (len*inf.size+vs.length)).toArray) (cs:=cs.take (len*inf.size)++news) (by simp;omega) (by simp;omega) (λj a v ha hv=>hRn j a v ha (by simpa using hv));have hblt:b<A.length:=(Yb.1 hy).1;have s2:=Uw s1.inv (b:=b) hb (k:= .cells (cs.take (len*inf.size)++news)) (by simp[hblt]) rfl;simp only[bK,Yk]at s2;refine⟨_,_,_,hr.room ⟨rb,0,none⟩ len cap _ hroom (by rw[jB,aG];exact hst),s1.trans s2,?_⟩;exact .oslice _ _ _ _ _ e' m (upd_same _ _) hroom (s1.shape _ _ hsh) hm hxx
       
       have:=fresh (some ⟨rb,0,none⟩) len cap (cs.take (len*inf.size)) (vs0.toList.take (len*inf.size)) ?_ (by omega) hc4 hc3 (by simp;omega) (by simp;omega) ?_
       ·obtain⟨x,w',nu',hrun,hstp,hRx⟩:=this;have hblt:b<A.length:=(Yb.1 hy).1;have s2:=Uv hstp.inv b;rw[bO _ _ hblt]at s2;exact⟨x,w',nu',hrun,hstp.trans s2,hRx⟩
       ·refine run_firstCells_some (P:=P) w.drew inf.size len ⟨rb,0,none⟩ len cap _ (by simp;omega) (λj v hv=>?_);rw[Yt]at hv;split at hv
        ·rw[jB,aG];show w.cell? _=_;simp only[World.cell?,hh,be,ZF,bh];simpa using hv
        cases hv
       intro j a v ha hv;rw[Yt]at ha hv;split at ha
       ·rename_i hj;rw[ae hj]at hv;exact hR0 j a v ha (by simpa using hv)
       cases ha
      cases h
     simp[exec]at h
    ·rename_i es;split at h
     ·rename_i a;split at h
      ·rename_i hcond;obtain⟨hc1,hc2,hc3,hc4,hc5,hc6⟩:=hcond;simp only[exec,Yk]at h;split at h
       ·simp only[ZI,ZP]at h;obtain⟨rfl,rfl,_⟩:=h;obtain⟨x,w',nu',q1,q2,q3⟩:=bagApp hb hy hsh (by rw[<-hc1];exact hm) hc hxx rfl hc2 hc3 hc4 hc5 hc6;exact⟨x,w',nu',q1,q2,q3⟩
       cases h
      simp[exec]at h
     simp[exec]at h
    simp[exec]at h
   cases h
 ·rename_i b len esz
  cases hs with
  |gslice0 _ _ p0=>
   simp only[exec]at h;split at h
   ·rename_i y hy;split at h
    ·rename_i cs;split at h
     ·rename_i hcond;obtain⟨hc1,hc2,hc3,hc4⟩:=hcond;subst hc1;simp only[exec,Yk]at h;split at h
      ·simp only[ZI,ZP]at h;obtain⟨rfl,rfl,_⟩:=h
       have e0:cs.take (0*inf.size)=[]:=by simp
       rw[e0];by_cases h0:n=0
       ·subst h0
        have hn0:news=[]:=by
         rw[<-YL,hl,hlen,bC]
        subst hn0;have s1:=Uv i b;have s2:=Stp.more s1.inv (.cells []);exact⟨_,w,nu,hr.nil rfl p0 0 0 (ai _),by simpa using s1.trans s2,.gslice0 _ _ _⟩
       have:=fresh p0 0 0 [] [] (by
        cases p0 with
        |none=>simp[Builtin.firstCells]
        |some a=>exact run_firstCells_some (P:=P) w.drew inf.size 0 a 0 0 [] (by simp) (λj v hv=>by simp at hv)) (by omega) hc4 hc3 rfl (by simp) (by simp)
       obtain⟨x,w',nu',hrun,hstp,hRx⟩:=this;have hblt:b<A.length:=(Yb.1 hy).1;have s2:=Uv hstp.inv b;rw[bO _ _ hblt]at s2;exact⟨x,w',nu',hrun,hstp.trans s2,by have:=hRx.toG (by omega);simpa using this⟩
      cases h
     simp[exec]at h
    ·rename_i es;split at h
     ·rename_i a;split at h
      ·rename_i hcond;obtain⟨hc1,hc2,hc3,hc4,hc5,hc6⟩:=hcond;simp only[exec,Yk]at h;split at h
       ·simp only[ZI,ZP]at h;obtain⟨rfl,rfl,_⟩:=h;obtain rfl:es=[]:=YL.1 hc4.symm
        obtain⟨x,w',nu',hrun,hstp,hRx⟩:=fresh p0 0 0 [] [] (by
         cases p0 with
         |none=>simp[Builtin.firstCells]
         |some a=>exact run_firstCells_some (P:=P) w.drew inf.size 0 a 0 0 [] (by simp) (λj v hv=>by simp at hv)) (by omega) hc6 hc5 rfl (by simp) (by simp)
        have hblt:b<A.length:=(Yb.1 hy).1;have s2:=Uv hstp.inv b;rw[bO _ _ hblt]at s2;have s3:=Stp.toBag s2.inv (b:=A.length) (cs:=[a]) (by simp)
        have e3:(A.set b .dead++[Blk.cells ([]++[a])]).set A.length (.bag ([a].map .av))=A.set b .dead++[.bag ([]++[.av a])]:=by
         rw[cY (h:=by simp)];simp
        rw[e3]at s3;exact⟨x,w',nu',hrun,(hstp.trans s2).trans s3,by have:=hRx.toG (by omega);simpa using this⟩
       cases h
      simp[exec]at h
     simp[exec]at h
    simp[exec]at h
   cases h
  |gslice _ _ _ rb cap e' m hp hb hc hsh hm hxx=>
   simp only[exec]at h;split at h
   ·rename_i y hy;split at h
    ·rename_i cs;split at h
     ·rename_i hcond;obtain⟨hc1,hc2,hc3,hc4⟩:=hcond;subst hc1;simp only[exec,Yk]at h;split at h
      ·simp only[ZI,ZP]at h;obtain⟨rfl,rfl,_⟩:=h;by_cases h0:n=0
       ·subst h0
        have hn0:news=[]:=by
         rw[<-YL,hl,hlen,bC]
        subst hn0;have s2:=Stp.renameTo (m:=len*inf.size) i hb hy;exact⟨_,w,_,hr.nil rfl _ _ _ hc,by simpa using s2,.gslice _ _ _ _ _ e' m hp (upd_same _ _) hc hsh hm hxx⟩
       obtain⟨hnF,vs0,e0,hh,hlen0,hR0⟩:=i.blk b rb _ hb hy
       have he:e'=e0/\m=vs0.size:=by
        simp only[World.shape?,hh,ZI,ZP]at hsh;exact⟨hsh.1.symm,hsh.2.symm⟩
       by_cases hroom:len+n<=cap
       ·
        have hfit:len*inf.size+vs.length<=vs0.size:=by
         have:=aW inf.size hroom;rw[Nat.add_mul,<-hlen]at this;omega
        have hst:=run_storeCells_at P rb (len*inf.size) e0 vs 0 vs0 w hh (by omega) h1;simp only[bz]at hst
        have hRn:∀(j:Nat) (a:AV) (v:Value),(cs.take (len*inf.size)++news)[j]? =some a->(vs0.toList.take (len*inf.size)++vs++vs0.toList.drop (len*inf.size+vs.length))[j]? =some v->R F nu w a v:=by
         refine qlb (by simp;omega) (λj a v ha hv=>?_) hR (by omega);rw[Yt]at ha hv;split at ha
         ·rename_i hj;rw[ae hj]at hv;exact hR0 j a v ha (by simpa using hv)
         cases ha
        have s1:=Stp.setRow i hb hy hh (vs:=(vs0.toList.take (len*inf.size)++vs++vs0.toList.drop (len*inf.size+vs.length)).toArray) (cs:=cs.take (len*inf.size)++news) (by simp;omega) (by simp;omega) (λj a v ha hv=>hRn j a v ha (by simpa using hv));have hblt:b<A.length:=(Yb.1 hy).1;have s2:=Uw s1.inv (b:=b) hb (k:= .cells (cs.take (len*inf.size)++news)) (by simp[hblt]) rfl;simp only[bK,Yk]at s2;refine⟨_,_,_,hr.room ⟨rb,0,none⟩ len cap _ hroom (by rw[jB,aG];exact hst),s1.trans s2,?_⟩;exact .gslice _ _ _ _ _ e' m (by omega) (upd_same _ _) hroom (s1.shape _ _ hsh) hm hxx
       
       have:=fresh (some ⟨rb,0,none⟩) len cap (cs.take (len*inf.size)) (vs0.toList.take (len*inf.size)) ?_ (by omega) hc4 hc3 (by simp;omega) (by simp;omega) ?_
       ·obtain⟨x,w',nu',hrun,hstp,hRx⟩:=this;have hblt:b<A.length:=(Yb.1 hy).1;have s2:=Uv hstp.inv b;rw[bO _ _ hblt]at s2;exact⟨x,w',nu',hrun,hstp.trans s2,hRx.toG (by omega)⟩
       ·refine run_firstCells_some (P:=P) w.drew inf.size len ⟨rb,0,none⟩ len cap _ (by simp;omega) (λj v hv=>?_);rw[Yt]at hv;split at hv
        ·rw[jB,aG];show w.cell? _=_;simp only[World.cell?,hh,be,ZF,bh];simpa using hv
        cases hv
       intro j a v ha hv;rw[Yt]at ha hv;split at ha
       ·rename_i hj;rw[ae hj]at hv;exact hR0 j a v ha (by simpa using hv)
       cases ha
      cases h
     simp[exec]at h
    ·rename_i es;split at h
     ·rename_i a;split at h
      ·rename_i hcond;obtain⟨hc1,hc2,hc3,hc4,hc5,hc6⟩:=hcond;simp only[exec,Yk]at h;split at h
       ·simp only[ZI,ZP]at h;obtain⟨rfl,rfl,_⟩:=h;obtain⟨x,w',nu',q1,q2,q3⟩:=bagApp hb hy hsh (by rw[<-hc1];exact hm) hc hxx rfl hc2 hc3 hc4 hc5 hc6;exact⟨x,w',nu',q1,q2,q3.toG (by omega)⟩
       cases h
      simp[exec]at h
     simp[exec]at h
    simp[exec]at h
   cases h
 ·rename_i k cs;split at h
  ·rename_i h0;obtain⟨rfl,rfl⟩:=zt h
   cases hs with
   |fslice0 B cap=>exact⟨_,w,nu,hr.nil h0 _ _ _ (aD _),.refl i,.fslice0 _ _⟩
   |fslice _ _ ad cap vs2 hn hF hl2 hc hR2=>exact⟨_,w,nu,hr.nil h0 _ _ _ hn,.refl i,.fslice _ _ _ _ _ hn hF hl2 hc hR2⟩
  simp[exec]at h
 simp[exec]at h
def qo9 (i:Inv F nu A w) {types:List TypeId}{ty:TypeId}{s x:AV}{sv xv:Value}(hs:R F nu w s sv) (hx:R F nu w x xv) {f:zx}:Ok P F nu A w (Builtin.append_ types.toArray ty #[sv,xv]) (exec (yo P types s x) A f):=by
 intro v A' f' h;unfold yo at h;split at h
 ·rename_i t u;split at h
  ·rename_i e du ht hu;split at h
   ·simp[exec]at h
   rename_i inf hi;split at h
   ·simp[exec]at h
   rename_i z hz;split at h
   ·rename_i hcond;split at h
    ·rename_i ik;split at h
     ·rename_i n;split at h
      ·rename_i zc hzc;split at h
       ·rename_i hc;cases hx
        have hl:=(qeT (F:=F) (nu:=nu) (w:=w) 3 z).cells hzc;have hzr:=qiB hl (n.toNat*inf.size);have hone:=hl.cells_one hc.2.2.2;have hrun:=qfL.ofZeros (P:=P) (w:=w) (ty:=ty) ht hu hi hz hcond.1 hc.1 hc.2.1 hc.2.2.1
        have he:((Array.range (n.toNat*inf.size)).map (z.cells[· %z.cells.size]!))=Builtin.zeroCells z.cells n.toNat:=by
         simp[Builtin.zeroCells,hcond.1]
        rw[he]at hzr;refine qfF i hs hrun hcond.1 (by rw[cO];exact hzr.1.symm) (λj a v ha hv=>hzr.2 j a v ha (by rw[YT]at hv;exact hv)) (λy hy=>?_) v A' f' h;simp only[Builtin.zeroCells,Array.toList_map,List.mem_map]at hy;obtain⟨q,hq,rfl⟩:=hy
        have hlt:q%z.cells.size<z.cells.size:=by
         refine eC _ ?_;rw[hcond.1];exact hcond.2
        rw[getElem!_pos z.cells _ hlt];exact hone _ (by simp)
       simp[exec]at h
      simp[exec]at h
     simp[exec]at h
    ·rename_i e';split at h
     ·simp[exec]at h
     rename_i hns;obtain⟨n,news,vs,f2,hsrc,h1,h2,h3,_⟩:=qhT i hcond.2 (.inl ⟨e',hu⟩) hx (λ_ s hs=>hns s hs) h;exact qfF i hs (qfL.ofSrc ht hi hz hsrc) hcond.1 h1 h2 hsrc.one v A' f' h3
    ·obtain⟨n,news,vs,f2,hsrc,h1,h2,h3,_⟩:=qhT i hcond.2 (.inr hu) hx (λ⟨e',he'⟩=>by rw[hu]at he';cases he') h;exact qfF i hs (qfL.ofSrc ht hi hz hsrc) hcond.1 h1 h2 hsrc.one v A' f' h3
    simp[exec]at h
   simp[exec]at h
  simp[exec]at h
 simp[exec]at h
end
end
section
variable [Glob]
open Go.RowKit
section
variable {P:Program}{F:Nat->Prop}{nu:Nat->Option Nat}{A:Heap}{w:World}
def qsL (i:Inv F nu A w) {types:List TypeId}{ty:TypeId}{d x:AV}{dv xv:Value}(hd:R F nu w d dv) (hx:R F nu w x xv) {f:zx}:Ok P F nu A w (Builtin.copy_ types.toArray ty #[dv,xv]) (exec (qcR P types d x) A f):=by
 intro v A' f' h;unfold qcR at h;split at h
 ·rename_i t ts;split at h
  ·rename_i e ht;split at h
   ·simp[exec]at h
   rename_i inf hi;have go:∀(b off len cap rb:Nat),nu b=some rb->exec (qW inf.size x λn cs=>qbG inf.size b off len n cs) A f=some (v,A',f')->
    ∃y w' nu',(Builtin.copy_ (t::ts).toArray ty #[.slice (some ⟨rb,off,none⟩) len cap,xv]).run P w= .ok y w'/\Stp F nu A w F nu' A' w'/\R F nu' w' v y:=by
    intro b off len cap rb hb h;have fin:∀(n:Nat) (news:List AV) (vs:List Value) (f2:zx),(Builtin.lenOf xv).run P w= .ok n w->(∀m,m<=n->∃ws:List Value,ws=vs.take (m*inf.size)/\(Builtin.firstCells inf.size m xv).run P w= .ok ws.toArray w)->news.length=vs.length->
     (∀(j:Nat) (a:AV) (v:Value),news[j]? =some a->vs[j]? =some v->R F nu w a v)->(∀u∈vs,u.oneCell'=true)->exec (qbG inf.size b off len n news) A f2=some (v,A',f')->
     ∃y w' nu',(Builtin.copy_ (t::ts).toArray ty #[.slice (some ⟨rb,off,none⟩) len cap,xv]).run P w= .ok y w'/\Stp F nu A w F nu' A' w'/\R F nu' w' v y:=by
     intro n news vs f2 hlen hfirst hl hR h1 h;simp only[qbG,exec]at h;split at h
     ·rename_i y hy;split at h
      ·rename_i old;split at h
       ·rename_i hc;simp only[exec]at h;split at h
        ·simp only[ZI,ZP]at h;obtain⟨rfl,rfl,_⟩:=h;obtain⟨ws,rfl,hws⟩:=hfirst (Nat.min n len) (Nat.min_le_left _ _)
         obtain⟨w',hst,hstp⟩:=qe5 (P:=P) (off:=off) (xs:=news.take (Nat.min n len*inf.size)) i hb hy hc (ys:=vs.take (Nat.min n len*inf.size)) (by simp;omega) (λu hu=>h1 u (dM hu)) (λj a v ha hv=>by
          rw[Yt]at ha hv;split at ha
          ·rename_i hj;rw[ae hj]at hv;exact hR j a v ha hv
          cases ha)
         refine⟨.int .i64 (Nat.min n len:Nat),w',nu,?_,hstp,.int _ _⟩;simp[Builtin.copy_,run_underlying ht,hlen,qP hi,hws,hst,goInt]
        cases h
       simp[exec]at h
      simp[exec]at h
     cases h
    have fc:∀(ad:Addr) (n c:Nat) (vs:List Value),vs.length=n*inf.size->(∀(j:Nat) (v:Value),vs[j]? =some v->w.cell? (ad.add j)=some v)->∀m,m<=n->∃ws:List Value,ws=vs.take (m*inf.size)/\(Builtin.firstCells inf.size m (.slice (some ad) n c)).run P w= .ok ws.toArray w:=by
     intro ad n c vs hl hc m hm;refine⟨_,rfl,run_firstCells_some (P:=P) w inf.size m ad n c _ ?_ (λj v hv=>?_)⟩
     ·have:=aW inf.size hm;simp;omega
     rw[Yt]at hv;split at hv
     ·exact hc j v hv
     cases hv
    cases hx with
    |str bs l hs=>
     simp only[qW]at h;split at h
     ·rename_i hsz;subst hs;refine fin bs.data.toList.length _ (byteCells bs) f (by simp[Builtin.lenOf]) (λm hm=>⟨_,rfl,?_⟩) (by simp[byteCells]) (λj a v ha hv=>?_) ?_ h
      ·rw[hsz,cR];simp only[Builtin.firstCells,Sem.run_pure];congr 1;apply Array.ext';simp[byteCells,ByteArray.data_extract]
      ·have hb2:byteCells bs=bs.data.toList.map λc=>Value.int .u8 c.toNat:=by simp[byteCells]
       rw[hb2,YA]at hv;rw[YA]at ha
       cases hc:bs.data.toList[j]? with
       |none=>simp[hc]at ha
       |some c=>
        simp only[hc,ZM,ZI]at ha hv;subst ha;subst hv;exact .int _ _
      intro u hu;simp only[byteCells,List.mem_map]at hu;obtain⟨c,_,rfl⟩:=hu;rfl
     simp[exec]at h
    |nilslice=>exact fin 0 [] [] f rfl (λm hm=>⟨[],by simp,rfl⟩) rfl (by simp) (by simp) (by simpa[qW]using h)
    |fslice0 B cap2=>
     simp only[qW]at h;split at h
     ·refine fin 0 [] [] f rfl (λm hm=>⟨[],by simp,?_⟩) rfl (by simp) (by simp) h
      have:m=0:=by omega
      subst this;cases B<;>simp[Builtin.firstCells,loadCells,loadCellsFrom]
     simp[exec]at h
    |fslice n cs ad cap2 vs hn hF hl hc hR=>
     simp only[qW]at h;split at h
     ·rename_i hcc;have:RL F nu w cs vs.toArray:=⟨by simp[hl],λj a v ha hv=>hR j a v ha (by simpa using hv)⟩;exact fin n cs vs f rfl (fc ad n cap2 vs (hl.trans hcc.1) hc) hl.symm hR (λu hu=>this.cells_one hcc.2 u (by simpa using hu)) h
     simp[exec]at h
    |slice b2 off2 n cap2 esz2 rb2 hb2 hc2=>
     obtain⟨y,cs,hA,hcs,hk2⟩:=jv (by simpa only[qW]using h);obtain⟨vs,h1,h2,h3,h4⟩:=qaQ i hb2 hA hcs;split at hk2
     ·rename_i hone;have:RL F nu w cs vs.toArray:=⟨by simp;omega,λj a v ha hv=>h4 j a v ha (by simpa using hv)⟩;exact fin n cs vs _ rfl (fc ⟨rb2,off2,none⟩ n cap2 vs h1 (λj v hv=>by rw[jB];exact h3 j v hv)) (by omega) h4 (λu hu=>this.cells_one hone u (by simpa using hu)) hk2
     simp[exec]at hk2
    |oslice b2 n esz2 rb2 cap2 e2 m2 hb2 hc2 hs2 hm2=>
     obtain⟨y,cs,hA,hcs,hk2⟩:=jv (by simpa only[qW]using h);obtain⟨vs,h1,h2,h3,h4⟩:=qaQ i hb2 hA hcs;split at hk2
     ·rename_i hone;have:RL F nu w cs vs.toArray:=⟨by simp;omega,λj a v ha hv=>h4 j a v ha (by simpa using hv)⟩;exact fin n cs vs _ rfl (fc ⟨rb2,0,none⟩ n cap2 vs h1 (λj v hv=>by rw[jB];exact h3 j v hv)) (by omega) h4 (λu hu=>this.cells_one hone u (by simpa using hu)) hk2
     simp[exec]at hk2
    |gslice b2 n esz2 rb2 cap2 e2 m2 hp2 hb2 hc2 hs2 hm2=>
     obtain⟨y,cs,hA,hcs,hk2⟩:=jv (by simpa only[qW]using h);obtain⟨vs,h1,h2,h3,h4⟩:=qaQ i hb2 hA hcs;split at hk2
     ·rename_i hone;have:RL F nu w cs vs.toArray:=⟨by simp;omega,λj a v ha hv=>h4 j a v ha (by simpa using hv)⟩;exact fin n cs vs _ rfl (fc ⟨rb2,0,none⟩ n cap2 vs h1 (λj v hv=>by rw[jB];exact h3 j v hv)) (by omega) h4 (λu hu=>this.cells_one hone u (by simpa using hu)) hk2
     simp[exec]at hk2
    |gslice0 b2 esz2 p2=>
     obtain⟨y,cs,hA,hcs,hk2⟩:=jv (by simpa only[qW]using h)
     have hcs0:cs=[]:=by
      rw[bC]at hcs;unfold vI at hcs;split at hcs
      ·split at hcs
       ·injection hcs with hcs;simpa using hcs.symm
       cases hcs
      ·split at hcs
       ·injection hcs with hcs;simpa using hcs.symm
       cases hcs
      ·split at hcs
       ·simp at*
       cases hcs
      cases hcs
     subst hcs0;simp only[fG,aT]at hk2
     exact fin 0 [] [] _ rfl (λm hm=>⟨[],by simp,by
      have:m=0:=by omega
      subst this
      cases p2 with
      |none=>simp[Builtin.firstCells]
      |some a=>exact run_firstCells_some (P:=P) w inf.size 0 a 0 0 [] (by simp) (λj v hv=>by simp at hv)⟩) rfl (by simp) (by simp) hk2
    |wslice b2 off2 n esz2 rb2 cap2 hb2 hc2=>
     obtain⟨y,cs,hA,hcs,hk2⟩:=jv (by simpa only[qW]using h);obtain⟨vs,h1,h2,h3,h4⟩:=qaQ i hb2 hA hcs;split at hk2
     ·rename_i hone;have:RL F nu w cs vs.toArray:=⟨by simp;omega,λj a v ha hv=>h4 j a v ha (by simpa using hv)⟩;exact fin n cs vs _ rfl (fc ⟨rb2,off2,none⟩ n cap2 vs h1 (λj v hv=>by rw[jB];exact h3 j v hv)) (by omega) h4 (λu hu=>this.cells_one hone u (by simpa using hu)) hk2
     simp[exec]at hk2
    |_=>simp[qW,exec]at h
   split at h
   ·split at h
    ·cases hd with
     |slice _ _ _ _ _ rb hb hc=>exact go _ _ _ _ rb hb h
    simp[exec]at h
   ·split at h
    ·cases hd with
     |oslice _ _ _ rb cap e m hb hc hs hm=>exact go _ _ _ _ rb hb h
    simp[exec]at h
   ·split at h
    ·rename_i hpos
     cases hd with
     |gslice0=>exact absurd hpos.1 (Nat.lt_irrefl _)
     |gslice _ _ _ rb cap e m hp hb hc hs hm=>exact go _ _ _ _ rb hb h
    simp[exec]at h
   ·split at h
    ·cases hd with
     |wslice _ _ _ _ rb cap hb hc=>exact go _ _ _ _ rb hb h
    simp[exec]at h
   simp[exec]at h
  simp[exec]at h
 simp[exec]at h
def qqV (i:Inv F nu A w) {types:List TypeId}{ty:TypeId}{x:AV}{xv:Value}(hx:R F nu w x xv) {f:zx}:Ok P F nu A w (Builtin.clear_ types.toArray ty #[xv]) (exec (qnd P types x) A f):=by
 intro v A' f' h;unfold qnd at h;split at h
 ·rename_i t;split at h
  ·rename_i e ht;split at h
   ·rename_i z hz;obtain⟨inf,zv,hi,hzv,_,hr⟩:=qbX (F:=F) (nu:=nu) (w:=w) hz
    have same:∀(p:Option Addr) (c:Nat),v= .tuple []->A'=A->∃y w' nu',(Builtin.clear_ [t].toArray ty #[.slice p 0 c]).run P w= .ok y w'/\Stp F nu A w F nu' A' w'/\R F nu' w' v y:=by
     rintro p c rfl rfl;refine⟨.tuple #[],w,nu,?_,Stp.refl i,.tuple [] #[] rfl (λj a v ha _=>by simp at ha)⟩;cases p<;>simp[Builtin.clear_,run_underlying ht]
    have go:∀(b off n cap rb:Nat),nu b=some rb->exec (qhl b off n z) A f=some (v,A',f')->
     ∃y w' nu',(Builtin.clear_ [t].toArray ty #[.slice (some ⟨rb,off,none⟩) n cap]).run P w= .ok y w'/\Stp F nu A w F nu' A' w'/\R F nu' w' v y:=by
     intro b off n cap rb hb h;unfold qhl at h;split at h
     ·rename_i h0;subst h0;simp only[exec,ZI,ZP]at h;exact same _ _ h.1.symm h.2.1.symm
     rename_i h0;simp only[exec]at h;split at h
     ·rename_i y hy;split at h
      ·rename_i cs;split at h
       ·rename_i hc;simp only[exec]at h;split at h
        ·simp only[ZI,ZP]at h;obtain⟨rfl,rfl,_⟩:=h;have hzr:=qiB hr (n*z.length);have hsz:zv.cells.size=z.length:=hr.1
         have hzc:Builtin.zeroCells zv.cells n=(Array.range (n*z.length)).map (zv.cells[· %zv.cells.size]!):=by
          unfold Builtin.zeroCells;rw[hsz]
         have hall:(zeros z (n*z.length)).all zX=true:=by
          simp only[zeros,List.all_map,Yp,cP,Function.comp];intro k hk
          have hp:0<z.length:=by
           rcases bG z.length with h|h
           ·rw[h]at hk;omega
           exact h
          have hm:k%z.length<z.length:=eC _ hp;rw[Yy,Ya hm];exact Yp.1 hc.2 _ (bo hm)
         have hzl:(zeros z (n*z.length)).length=n*z.length:=by simp[zeros]
         obtain⟨w',hst,hstp⟩:=qe5 (P:=P) (off:=off) (xs:=zeros z (n*z.length)) i hb hy (by rw[hzl];exact hc.1) (ys:=(Builtin.zeroCells zv.cells n).toList)
          (by rw[hzc,hzl];simp) (λu hu=>by
           rw[hzc]at hu
           exact hzr.cells_one hall u hu) (λj a v ha hv=>hzr.2 j a v ha (by rw[hzc,YT]at hv;exact hv))
         refine⟨.tuple #[],w',nu,?_,hstp,.tuple [] #[] rfl (λj a v ha _=>by simp at ha)⟩;obtain⟨k,rfl⟩:∃k,n=k+1:=⟨n-1,by omega⟩;simp[Builtin.clear_,run_underlying ht,qR hi hzv,hst]
        cases h
       simp[exec]at h
      simp[exec]at h
     cases h
    cases hx with
    |nilslice=>
     simp only[exec,ZI,ZP]at h;exact same _ _ h.1.symm h.2.1.symm
    |fslice0 B c=>
     simp only[exec,ZI,ZP]at h;exact same _ _ h.1.symm h.2.1.symm
    |fslice n cs ad cap vs hn hF hl hc hR=>
     cases n with
     |zero=>
      simp only[exec,ZI,ZP]at h;refine⟨.tuple #[],w,nu,?_,by rw[<-h.2.1];exact Stp.refl i,by rw[<-h.1];exact .tuple [] #[] rfl (λj a v ha _=>by simp at ha)⟩;simp[Builtin.clear_,run_underlying ht]
     |succ n=>simp[exec]at h
    |slice b off n cap esz rb hb hc=>exact go _ _ _ _ rb hb h
    |oslice b n esz rb cap e' m hb hc hs hm hx=>exact go _ _ _ _ rb hb h
    |wslice b off n esz rb cap hb hc=>exact go _ _ _ _ rb hb h
    |_=>simp[exec]at h
   simp[exec]at h
  simp[exec]at h
 simp[exec]at h
def qk5 (i:Inv F nu A w) {t:TypeId}{l c:AV}{lv cv:Value}(hl:R F nu w l lv) (hc:R F nu w c cv) {f:zx}:Ok P F nu A w (Instr.makeSlice t lv cv) (exec (qcB P t l c) A f):=by
 intro v A' f' h;unfold qcB at h;split at h
 ·rename_i e l c ht;cases hl
  cases hc
  split at h
  ·rename_i inf z hi hz;obtain⟨inf',zv,hi',hzv,_,hr⟩:=qbX (F:=F) (nu:=nu) (w:=w) hz;rw[hi]at hi';injection hi' with hi';subst hi';split at h
   ·rename_i hcnd;obtain⟨h1,h2,h3,h4,h5⟩:=hcnd;simp only[exec,ZI,ZP]at h;obtain⟨rfl,rfl,_⟩:=h;obtain⟨a,rfl⟩:=bA h1;obtain⟨b,rfl⟩:=bA (show 0<=c by omega);have hwl:IntKind.i64.wrap (a:Int)=a:=wrap_small (by omega) (by omega);have hwc:IntKind.i64.wrap (b:Int)=b:=wrap_small (by omega) (by omega)
    have hbig:¬(281474976710656:Int)<inf.bytes*(b:Int):=by rw[aK];omega
    have hab:¬b<a:=by omega
    simp only[aU]
    have hzz:∃zc:Array Value,(if b*inf.size=0 then pure #[]else do pure (<-zeroValue e).cells:Sem (Array Value)).run P w= .ok zc w/\RL F nu w (zeros z (b*inf.size)) ((Array.range (b*inf.size)).map (zc[· %zc.size]!)):=by
     by_cases h0:b*inf.size=0
     ·exact⟨#[],by simp[h0],⟨by simp[zeros],λj a v ha _=>by simp[zeros,h0]at ha⟩⟩
     exact⟨zv.cells,by simp[h0,qR hi hzv],qiB hr _⟩
    obtain⟨zc,hzc,hrl⟩:=hzz;refine⟨.slice (some ⟨w.heap.size,0,none⟩) a b,w.alloc (.cells _ e),_,?_,Ug i _ e _ (by have:=hrl.1;omega) hrl.2,.slice _ _ _ _ _ _ (upd_same _ _) (by omega)⟩;simp only[Instr.makeSlice,Sem.run_bind,run_underlying ht,Result.andThen_ok,asInt,asIntOf,Sem.run_pure,qgs hi,hwl,hwc];rw[aa (by simp;omega)];simp only[Sem.run_bind,run_askRoom,Result.andThen_ok,qP hi,aU];by_cases h0:b*inf.size=0
    ·simp only[h0,aT,Sem.run_pure,Result.ok.injEq,gk]at hzc;subst hzc;simp[h0,newRow]
    simp only[aa h0,Sem.run_bind,qR hi hzv,Result.andThen_ok,Sem.run_pure,Result.ok.injEq,gk]at hzc;subst hzc;simp[h0,newRow,qR hi hzv]
   simp[exec]at h
  simp[exec]at h
 simp[exec]at h
def qqK (a b:ByteArray):(a==b)=(a.data.toList==b.data.toList):=by
 cases a
 cases b
 rename_i a b;show(a==b)=(a.toList==b.toList);rw[cr];simp
def qiQ {k e:AV}{kv ev:Value}{d:TypeDesc}{b:Bool}(hd:plainKey d k=true) (hk:R F nu w k kv) (he:R F nu w e ev) (h:qow k e=some b):
 Instr.sameNow d kv ev=some b/\(b=true->e=k/\Instr.sameBits 10000 ev kv=true):=by
 unfold qow at h;split at h
 ·cases hk
  cases he
  split at h
  ·rename_i hkk;subst hkk;injection h with h;subst h;cases d<;>simp only[plainKey,ZF]at hd
   refine⟨by simp[Instr.sameNow],λhb=>?_⟩;have:=aP hb;subst this;exact⟨rfl,by simp[Instr.sameBits]⟩
  cases h
 ·cases hk with
  |str bs _ hs=>
   cases he with
   |str bs2 _ hs2=>
    injection h with h;subst h;cases d<;>simp only[plainKey,ZF]at hd
    subst hs hs2;refine⟨by simp only[Instr.sameNow,qqK],λhb=>?_⟩;have h3:=(bR.1 hb)
    have h4:bs=bs2:=by
     cases bs;cases bs2
     congr 1;exact Array.ext' h3
    subst h4;exact⟨rfl,by simp[Instr.sameBits,qqK]⟩
 ·cases hk
  cases he
  injection h with h;subst h;cases d<;>simp only[plainKey,ZF]at hd
  refine⟨by simp[Instr.sameNow],λhb=>?_⟩;have:=bR.1 hb;subst this;exact⟨rfl,by simp[Instr.sameBits]⟩
 cases h
def qeL {k:AV}{kv:Value}{d:TypeDesc}(hd:plainKey d k=true) (hk:R F nu w k kv):∀(ks:List AV) (es:List MapEntry) (j:Nat) (r:Option Nat),es.length=ks.length->(∀(i:Nat) (a:AV) (e:MapEntry),ks[i]? =some a->es[i]? =some e->R F nu w a e.key)->qjq k ks j=some r->
 match r with
 |none=>Instr.findNow d kv es j=some none
 |some n=>∃e,j<=n/\es[n-j]? =some e/\Instr.findNow d kv es j=some (some (n,e.val))/\ks[n-j]? =some k/\Instr.sameBits 10000 e.key kv=true:=by
 intro ks
 induction ks with
 |nil=>
  intro es j r hl hR h;simp only[qjq,ZI]at h;subst h
  cases es with
  |nil=>rfl
  |cons e es=>simp at hl
 |cons a ks ih=>
  intro es j r hl hR h
  cases es with
  |nil=>simp at hl
  |cons e es=>
   simp only[qjq]at h;have he:=hR 0 a e rfl rfl;split at h
   ·rename_i hkk;injection h with h;subst h;obtain⟨h1,h2⟩:=qiQ hd hk he hkk;obtain⟨h3,h4⟩:=h2 rfl;exact⟨e,ai _,by simp,by simp[Instr.findNow,h1],by simp[h3],h4⟩
   ·rename_i hkk;obtain⟨h1,_⟩:=qiQ hd hk he hkk;have:=ih es (j+1) r (by simpa using hl) (λi a' e' ha he'=>hR (i+1) a' e' (by simpa using ha) (by simpa using he')) h
    cases r with
    |none=>simpa[Instr.findNow,h1]using this
    |some n=>
     obtain⟨e',g1,g2,g3,g4,g5⟩:=this
     have hn:n-j=(n-(j+1))+1:=by omega
     exact⟨e',by omega,by rw[hn];simpa using g2,by simpa[Instr.findNow,h1]using g3,by rw[hn];simpa using g4,g5⟩
   cases h
def run_checkKey {kt:TypeId}{d:TypeDesc}{k:AV}{kv:Value}{b:Bool}(hk:P.underlying kt=some d) (hd:plainKey d k=true):(Instr.checkKey b 10000 kt kv).run P w= .ok () w:=by
 cases d<;>simp only[plainKey,ZF]at hd<;>(unfold Instr.checkKey;simp[run_underlying hk])
def run_findKey {kt:TypeId}{d:TypeDesc}{kv:Value}{es:List MapEntry}{r:Option (Nat×Value)}(hk:P.underlying kt=some d) (h:Instr.findNow d kv es 0=some r):(Instr.findKey kt kv es).run P w= .ok r w:=by
 simp[Instr.findKey,run_underlying hk,h]
def qnx (i:Inv F nu A w) {x:AV}{xv:Value}(hx:R F nu w x xv) {k:List AV->List AV->Pg}{f:zx}{r:AV×Heap×zx}(h:exec (entriesOf x k) A f=some r):
 ∃(ks vs:List AV) (es:Array MapEntry) (f':zx),((xv= .map none/\es=#[])\/ ∃rb clock,xv= .map (some rb)/\w.heap[rb]? =some (.map es clock))/\
  es.size=ks.length/\es.size=vs.length/\(∀(i:Nat) (a:AV) (e:MapEntry),ks[i]? =some a->es[i]? =some e->R F nu w a e.key)/\(∀(i:Nat) (a:AV) (e:MapEntry),vs[i]? =some a->es[i]? =some e->R F nu w a e.val)/\exec (k ks vs) A f'=some r:=by
 unfold entriesOf at h;split at h
 ·cases hx
  exact⟨[],[],#[],f,.inl ⟨rfl,rfl⟩,rfl,rfl,by simp,by simp,h⟩
 ·cases hx with
  |fmap ks vs rb es clock hF hh hk hv hRk hRv=>exact⟨_,_,es,f,.inr ⟨rb,clock,rfl,hh⟩,hk,hv,hRk,hRv,h⟩
 ·rename_i b
  cases hx with
  |map _ rb hb=>
   simp only[exec]at h;split at h
   ·rename_i y hy;split at h
    ·rename_i ks vs;obtain⟨_,es,c,h1,h2,h3,h4,h5,_⟩:=i.blk b rb _ hb hy;exact⟨ks,vs,es,_,.inr ⟨rb,c,rfl,h1⟩,h2,h3,h4,h5,h⟩
    simp[exec]at h
   cases h
 simp[exec]at h
def qpp (i:Inv F nu A w) {t:TypeId}{x k:AV}{xv kv:Value}{ok:Bool}(hx:R F nu w x xv) (hk:R F nu w k kv) {f:zx}:Ok P F nu A w (Instr.lookup t xv kv ok) (exec (qk2 P t x k ok) A f):=by
 intro v A' f' h;unfold qk2 at h;split at h
 ·rename_i kt et ht;split at h
  ·rename_i d z hkt hz;obtain⟨inf,hi,hzi⟩:=aM.1 hz;split at h
   ·rename_i hd;obtain⟨ks,vs,es,f2,hes,h1,h2,h3,h4,h5⟩:=qnx i hx h;have hbase:∀(r:Option (Nat×Value)),Instr.findNow d kv es.toList 0=some r->(Instr.lookup t xv kv ok).run P w=
     ((match r with|some (_,v)=>pure (v,true)|none=>(do pure (<-zeroValue et,false)):Sem (Value×Bool)).run P w).andThen λp w'=> .ok (if ok then .tuple #[p.1,.bool p.2]else p.1) w':=by
     intro r hr;rcases hes with⟨rfl,rfl⟩|⟨rb,clock,rfl,hh⟩
     ·simp only[Instr.lookup,Sem.run_bind,run_underlying ht,Result.andThen_ok,Sem.run_pure,run_checkKey hkt hd,run_findKey hkt hr];cases r<;>simp[qR hi hzi]
     simp only[Instr.lookup,Sem.run_bind,run_underlying ht,Result.andThen_ok,getObj,Sem.run,hh,Sem.run_pure,run_checkKey hkt hd,run_findKey hkt hr];cases r<;>simp[qR hi hzi]
    split at h5
    ·rename_i n hn;have:=qeL hd hk ks es.toList 0 (some n) (by simpa using h1) (λj a e ha he=>h3 j a e ha (by simpa using he)) hn;obtain⟨e,_,g2,g3,_,_⟩:=this;rw[dx]at g2;split at h5
     ·rename_i y hy;obtain⟨rfl,rfl⟩:=zt h5;have hRy:=h4 n y e hy (by simpa using g2);refine⟨_,w,nu,by rw[hbase _ g3];rfl,.refl i,?_⟩;cases ok
      ·exact hRy
      refine .tuple _ _ rfl (λj a v ha hv=>?_);rcases j with _|_|j<;>simp at ha hv
      ·subst ha;subst hv;exact hRy
      subst ha;subst hv;exact .bool _
     simp[exec]at h5
    ·rename_i hn;have g3:=qeL hd hk ks es.toList 0 none (by simpa using h1) (λj a e ha he=>h3 j a e ha (by simpa using he)) hn;obtain⟨rfl,rfl⟩:=zt h5;refine⟨_,w,nu,by rw[hbase _ g3];simp only[Sem.run_bind,qR hi hzi,Result.andThen_ok,Sem.run_pure];rfl,.refl i,?_⟩;cases ok
     ·exact qeT 3 z
     refine .tuple _ _ rfl (λj a v ha hv=>?_);rcases j with _|_|j<;>simp at ha hv
     ·subst ha;subst hv;exact qeT 3 z
     subst ha;subst hv;exact .bool _
    simp[exec]at h5
   simp[exec]at h
  simp[exec]at h
 simp[exec]at h
def qmF (rb:Nat) (o:Obj):({w with heap:=w.heap.setIfInBounds rb o}:World).heap.size=w.heap.size:=by simp
def qeY (rb:Nat) (o:Obj) (r:Nat) (h:r≠rb):({w with heap:=w.heap.setIfInBounds rb o}:World).heap[r]? =w.heap[r]? :=by
 simp[Ne.symm h]
def ql8 (rb:Nat) (o:Obj) (h:rb<w.heap.size):({w with heap:=w.heap.setIfInBounds rb o}:World).heap[rb]? =some o:=by
 simp[h]
def Uo (i:Inv F nu A w) {b rb:Nat}{k0 k:Blk}{o0 o:Obj}(hb:nu b=some rb) (hA:A[b]? =some k0) (ho0:k0.owned=true) (hok:k.owned=true) (hw:w.heap[rb]? =some o0) (hno:∀c e fr,o0≠ .cells c e fr)
 (hk:∀w':World,Ext F nu w F nu w'->w'.heap[rb]? =some o->¬F rb->RB F nu w' rb k) (hnb:∀es,k≠ .bag es:=by intro es e;cases e):Stp F nu A w F nu (A.set b k) {w with heap:=w.heap.setIfInBounds rb o}:=by
 have hlt:rb<w.heap.size:=i.ltN b rb hb
 have hsh:∀s,w.shape? rb=some s->({w with heap:=w.heap.setIfInBounds rb o}:World).shape? rb=some s:=by
  intro s hs;simp only[World.shape?,hw]at hs;split at hs
  ·rename_i c e fr he;injection he with he;exact absurd he (hno _ _ _)
  cases hs
 refine U2 i hb hA ho0 hok (λr hr=>qeY rb o r hr) (qmF rb o) hsh rfl rfl rfl (λhnF=>hk _ ?_ (ql8 rb o hlt) hnF) hnb;refine⟨λ_ h=>h,λ_ _ h=>h,λr h=>qeY rb o r (λe=>hnF (e▸h)),λr s hs=>?_⟩;by_cases e:r=rb
 ·subst e;exact hsh s hs
 rw[<-hs];simp only[World.shape?,qeY rb o r e]
def qgU (i:Inv F nu A w) {t:TypeId}{x k y:AV}{xv kv yv:Value}(hx:R F nu w x xv) (hk:R F nu w k kv) (hy:R F nu w y yv) {f:zx}{v:AV}{A':Heap}{f':zx}(h:exec (qeV P t x k y) A f=some (v,A',f')):
 v= .undef/\∃w',(Instr.mapUpdate t xv kv yv).run P w= .ok () w'/\Stp F nu A w F nu A' w':=by
 unfold qeV at h;split at h
 ·rename_i kt et b ht
  cases hx with
  |map _ rb hb=>
   split at h
   ·rename_i d hkt;split at h
    ·rename_i hd;simp only[exec]at h;split at h
     ·rename_i bk hbk;split at h
      ·rename_i ks vs;obtain⟨hnF,es,clock,h1,h2,h3,h4,h5,h6⟩:=i.blk b rb _ hb hbk
       have hfind:=λr=>qeL hd hk ks es.toList 0 r (by simpa using h2) (λj a e ha he=>h4 j a e ha (by simpa using he))
       split at h
       ·rename_i n hn;obtain⟨e,_,g2,g3,g4,g5⟩:=hfind _ hn;rw[dx]at g2 g4;simp only[exec]at h;split at h
        ·simp only[ZI,ZP]at h;obtain⟨rfl,rfl,_⟩:=h;refine⟨rfl,{w with heap:=w.heap.setIfInBounds rb (.map (es.modify n λe=>{e with key:=kv,val:=yv}) clock)},?_,?_⟩
         ·have he:es[n]? =some e:=by simpa using g2
          simp[Instr.mapUpdate,run_underlying ht,getObj,Sem.run,h1,run_checkKey hkt hd,run_findKey hkt g3,he,Instr.keyThatStays,g5,setObj]
         refine Uo i hb hbk rfl rfl h1 (λ_ _ _ h=>by cases h) (λw' x' hw' hnF=>⟨hnF,_,_,hw',by simpa using h2,by simpa using h3,λj a e' ha he'=>?_,λj a e' ha he'=>?_,h6.mod λ_=>rfl⟩)
         ·rw[YD]at he';split at he'
          ·rename_i hj;subst hj;rw[g4]at ha;injection ha with ha;subst ha;obtain⟨e0,_,rfl⟩:=Yd.1 he';exact hk.mono x'
          exact(h4 j a e' ha he').mono x'
         rw[List.getElem?_set]at ha;rw[YD]at he';split at he'
         ·rename_i hj;subst hj;rw[ae rfl]at ha;split at ha
          ·injection ha with ha;subst ha;obtain⟨e0,_,rfl⟩:=Yd.1 he';exact hy.mono x'
          cases ha
         rename_i hj;rw[aa hj]at ha;exact(h5 j a e' ha he').mono x'
        cases h
       ·rename_i hn;have g3:=hfind _ hn;simp only[exec]at h;split at h
        ·simp only[ZI,ZP]at h;obtain⟨rfl,rfl,_⟩:=h;refine⟨rfl,{w with heap:=w.heap.setIfInBounds rb (.map (es.push {key:=kv,val:=yv,born:=clock}) (clock+1))},?_,?_⟩
         ·simp[Instr.mapUpdate,run_underlying ht,getObj,Sem.run,h1,run_checkKey hkt hd,run_findKey hkt g3,setObj]
         refine Uo i hb hbk rfl rfl h1 (λ_ _ _ h=>by cases h) (λw' x' hw' hnF=>⟨hnF,_,_,hw',by simp[h2],by simp[h3],λj a e' ha he'=>?_,λj a e' ha he'=>?_,h6.push rfl⟩)
         ·rw[Array.getElem?_push]at he';split at he'
          ·rename_i hj;injection he' with he';subst he';rw[hj,h2]at ha;simp at ha;subst ha;exact hk.mono x'
          rename_i hj;have hlt:j<es.size:=(YB.1 he').1;rw[Yf (by omega)]at ha;exact(h4 j a e' ha he').mono x'
         rw[Array.getElem?_push]at he';split at he'
         ·rename_i hj;injection he' with he';subst he';rw[hj,h3]at ha;simp at ha;subst ha;exact hy.mono x'
         rename_i hj;have hlt:j<es.size:=(YB.1 he').1;rw[Yf (by omega)]at ha;exact(h5 j a e' ha he').mono x'
        cases h
       simp[exec]at h
      simp[exec]at h
     cases h
    simp[exec]at h
   simp[exec]at h
 simp[exec]at h
def qmy (i:Inv F nu A w) {t:TypeId}{x k:AV}{xv kv:Value}(hx:R F nu w x xv) (hk:R F nu w k kv) {f:zx}:Ok P F nu A w (Instr.mapEntry t xv kv) (exec (qhO P t x k) A f):=by
 intro v A' f' h;unfold qhO at h;split at h
 ·rename_i kt et b ht
  cases hx with
  |map _ rb hb=>
   split at h
   ·rename_i d z hkt hz;obtain⟨inf,hi,hzi⟩:=aM.1 hz;split at h
    ·rename_i hd;simp only[exec]at h;split at h
     ·rename_i bk hbk;split at h
      ·rename_i ks vs;obtain⟨hnF,es,clock,h1,h2,h3,h4,h5,h6⟩:=i.blk b rb _ hb hbk
       have hfind:=λr=>qeL hd hk ks es.toList 0 r (by simpa using h2) (λj a e ha he=>h4 j a e ha (by simpa using he))
       split at h
       ·rename_i n hn;obtain⟨e,_,g2,g3,g4,g5⟩:=hfind _ hn;rw[dx]at g2 g4
        have he:es[n]? =some e:=by simpa using g2
        split at h
        ·rename_i y hy;simp only[exec]at h;split at h
         ·simp only[ZI,ZP]at h;obtain⟨rfl,rfl,_⟩:=h
          have hst:Stp F nu A w F nu (A.set b (.map ks vs)) {w with heap:=w.heap.setIfInBounds rb (.map (es.modify n λe=>{e with key:=kv}) clock)}:=by
           refine Uo i hb hbk rfl rfl h1 (λ_ _ _ h=>by cases h) (λw' x' hw' hnF=>⟨hnF,_,_,hw',by simpa using h2,by simpa using h3,λj a e' ha he'=>?_,λj a e' ha he'=>?_,h6.mod λ_=>rfl⟩)
           ·rw[YD]at he';split at he'
            ·rename_i hj;subst hj;rw[g4]at ha;injection ha with ha;subst ha;obtain⟨e0,_,rfl⟩:=Yd.1 he';exact hk.mono x'
            exact(h4 j a e' ha he').mono x'
           rw[YD]at he';split at he'
           ·obtain⟨e0,he0,rfl⟩:=Yd.1 he';exact(h5 j a e0 ha he0).mono x'
           exact(h5 j a e' ha he').mono x'
          refine⟨.tuple #[e.val,goInt e.born],_,nu,?_,hst,.tuple _ _ rfl (λj a v ha hv=>?_)⟩
          ·simp[Instr.mapEntry,run_underlying ht,getObj,Sem.run,h1,run_checkKey hkt hd,run_findKey hkt g3,he,Instr.keyThatStays,g5,setObj]
          rcases j with _|_|j<;>simp at ha hv
          ·subst ha;subst hv;exact(h5 n y e hy he).mono (hst.ext i)
          subst ha;subst hv;rw[h6.2 n e he];exact .int _ _
         cases h
        simp[exec]at h
       ·rename_i hn;have g3:=hfind _ hn;simp only[exec]at h;split at h
        ·simp only[ZI,ZP]at h;obtain⟨rfl,rfl,_⟩:=h
         have hst:Stp F nu A w F nu (A.set b (.map (ks++[k]) (vs++[qcz 3 z]))) {w with heap:=w.heap.setIfInBounds rb (.map (es.push {key:=kv,val:=z,born:=clock}) (clock+1))}:=by
          refine Uo i hb hbk rfl rfl h1 (λ_ _ _ h=>by cases h) (λw' x' hw' hnF=>⟨hnF,_,_,hw',by simp[h2],by simp[h3],λj a e' ha he'=>?_,λj a e' ha he'=>?_,h6.push rfl⟩)
          ·rw[Array.getElem?_push]at he';split at he'
           ·rename_i hj;injection he' with he';subst he';rw[hj,h2]at ha;simp at ha;subst ha;exact hk.mono x'
           rename_i hj;have hlt:j<es.size:=(YB.1 he').1;rw[Yf (by omega)]at ha;exact(h4 j a e' ha he').mono x'
          rw[Array.getElem?_push]at he';split at he'
          ·rename_i hj;injection he' with he';subst he';rw[hj,h3]at ha;simp at ha;subst ha;exact qeT 3 z
          rename_i hj;have hlt:j<es.size:=(YB.1 he').1;rw[Yf (by omega)]at ha;exact(h5 j a e' ha he').mono x'
         refine⟨.tuple #[z,goInt clock],_,nu,?_,hst,.tuple _ _ rfl (λj a v ha hv=>?_)⟩
         ·simp[Instr.mapEntry,run_underlying ht,getObj,Sem.run,h1,run_checkKey hkt hd,run_findKey hkt g3,qR hi hzi,setObj]
         rcases j with _|_|j<;>simp at ha hv
         ·subst ha;subst hv;exact qeT 3 z
         subst ha;subst hv;rw[h6.1,h2];exact .int _ _
        cases h
       simp[exec]at h
      simp[exec]at h
     cases h
    simp[exec]at h
   simp[exec]at h
 simp[exec]at h
def qj9 (i:Inv F nu A w) {t:TypeId}{x k y:AV}{xv kv yv:Value}(hx:R F nu w x xv) (hk:R F nu w k kv) (hy:R F nu w y yv) {f:zx}{v:AV}{A':Heap}{f':zx}(h:exec (qfH x k y) A f=some (v,A',f')):
 v= .undef/\∃w',(Instr.entryStore t xv kv yv).run P w= .ok () w'/\Stp F nu A w F nu A' w':=by
 unfold qfH at h;split at h
 ·rename_i b n
  cases hx with
  |map _ rb hb=>
   cases hk with
   |int=>
    simp only[exec]at h;split at h
    ·rename_i bk hbk;split at h
     ·rename_i ks vs;obtain⟨hnF,es,clock,h1,h2,h3,h4,h5,h6⟩:=i.blk b rb _ hb hbk;split at h
      ·rename_i hn;simp only[exec]at h;split at h
       ·simp only[ZI,ZP]at h;obtain⟨rfl,rfl,_⟩:=h
        have hlt:n.toNat<es.size:=by omega
        have hfi:es.findIdx? (λe=>(e.born:Int)==n)=some n.toNat:=by
         rw[Array.findIdx?_eq_some_iff_getElem];refine⟨hlt,?_,λj hj=>?_⟩
         ·rw[h6.2 _ _ (Yi hlt)];simp;omega
         rw[h6.2 _ _ (Yi (show j<es.size by omega))];simp;omega
        refine⟨rfl,{w with heap:=w.heap.setIfInBounds rb (.map (es.modify n.toNat λe=>{e with val:=yv}) clock)},?_,?_⟩
        ·simp[Instr.entryStore,getObj,Sem.run,h1,asInt,asIntOf,hfi,setObj]
        refine Uo i hb hbk rfl rfl h1 (λ_ _ _ h=>by cases h) (λw' x' hw' hnF=>⟨hnF,_,_,hw',by simpa using h2,by simpa using h3,λj a e' ha he'=>?_,λj a e' ha he'=>?_,h6.mod λ_=>rfl⟩)
        ·rw[YD]at he';split at he'
         ·obtain⟨e0,he0,rfl⟩:=Yd.1 he';exact(h4 j a e0 ha he0).mono x'
         exact(h4 j a e' ha he').mono x'
        rw[List.getElem?_set]at ha;rw[YD]at he';split at he'
        ·rename_i hj;rw[ae hj]at ha;split at ha
         ·injection ha with ha;subst ha;obtain⟨e0,_,rfl⟩:=Yd.1 he';exact hy.mono x'
         cases ha
        rename_i hj;rw[aa hj]at ha;exact(h5 j a e' ha he').mono x'
       cases h
      simp[exec]at h
     simp[exec]at h
    cases h
 simp[exec]at h
def qny (i:Inv F nu A w) {t:TypeId}{r:Option AV}{rv:Option Value}(hr:RO F nu w r rv) {f:zx}:Ok P F nu A w (Instr.makeMap t rv) (exec (qi1 P t r) A f):=by
 intro v A' f' h;have key:exec (.new (.map [] []) λid=> .done (.map id)) A f=some (v,A',f')->(Instr.makeMap t rv).run P w= .ok (.map (some w.heap.size)) (w.alloc (.map #[] 0))->
  ∃x w' nu',(Instr.makeMap t rv).run P w= .ok x w'/\Stp F nu A w F nu' A' w'/\R F nu' w' v x:=by
  intro h hrun;simp only[exec,ZI,ZP]at h;obtain⟨rfl,rfl,_⟩:=h;exact⟨_,_,_,hrun,Stp.alloc i _ _ ⟨λhF=>absurd (i.ltF _ hF) (by omega),#[],0,Go.heap_alloc_new w _,rfl,rfl,by simp,by simp,rfl,by simp⟩,.map _ _ (upd_same _ _)⟩
 unfold qi1 at h;split at h
 ·cases rv with
  |none=>exact key h (by simp[Instr.makeMap])
  |some _=>exact hr.elim
 ·cases rv with
  |none=>exact hr.elim
  |some y=>
   cases hr
   split at h
   ·rename_i kt et ht;exact key h (by simp[Instr.makeMap,run_underlying ht,asInt,asIntOf])
   simp[exec]at h
 simp[exec]at h
def qqg (i:Inv F nu A w) {t:TypeId}{x:AV}{xv:Value}(hx:R F nu w x xv) {f:zx}:Ok P F nu A w (Instr.range t xv) (exec (qm2 P t x) A f):=by
 intro v A' f' h;unfold qm2 at h;split at h
 ·rename_i s ht
  cases hx with
  |str bs _ hs=>
   simp only[exec,ZI,ZP]at h;obtain⟨rfl,rfl,_⟩:=h;exact⟨.pointer (some ⟨w.heap.size,0,none⟩),w.alloc (.stringIter bs 0),_,by simp[Instr.range,run_underlying ht],Stp.alloc i _ _ ⟨λhF=>absurd (i.ltF _ hF) (by omega),bs,Go.heap_alloc_new w _,hs⟩,.ptr _ _ _ (upd_same _ _)⟩
 simp[exec]at h
def qsC (i:Inv F nu A w) {x:AV}{xv:Value}{b:Bool}{ty:TypeId}(hx:R F nu w x xv) {f:zx}:Ok P F nu A w (Instr.next xv b ty) (exec (qqs x b) A f):=by
 intro v A' f' h;unfold qqs at h;split at h
 ·rename_i bb
  cases hx with
  |ptr _ _ rb hb=>
   simp only[exec]at h;split at h
   ·rename_i y hy;split at h
    ·rename_i s pos;obtain⟨hnF,bs,h1,h2⟩:=i.blk bb rb _ hb hy
     have hbs:(⟨s.toArray⟩:ByteArray)=bs:=by subst h2;cases bs;simp
     have hsz:s.length=bs.size:=by subst h2;simp
     rw[hbs]at h;split at h
     ·rename_i hlt;simp only[exec]at h;split at h
      ·simp only[ZI,ZP]at h;obtain⟨rfl,rfl,_⟩:=h;refine⟨.tuple #[.bool true,.int .i64 pos,.int .i32 (Utf8.decode bs pos).1],{w with heap:=w.heap.setIfInBounds rb (.stringIter bs (pos+(Utf8.decode bs pos).2))},nu,?_,?_,?_⟩
       ·have:pos<bs.size:=by omega
        simp[Instr.next,getObj,Sem.run,h1,this,setObj,goInt]
       ·exact Uo i hb hy rfl rfl h1 (λ_ _ _ h=>by cases h) (λw' x' hw' hnF=>⟨hnF,bs,hw',h2⟩)
       refine .tuple _ _ rfl (λj a v ha hv=>?_);rcases j with _|_|_|j<;>simp at ha hv<;>(subst ha;subst hv)
       ·exact .bool _
       ·exact .int _ _
       exact .int _ _
      cases h
     rename_i hge;obtain⟨rfl,rfl⟩:=zt h;refine⟨.tuple #[.bool false],w,nu,?_,.refl i,?_⟩
     ·have:¬pos<bs.size:=by omega
      simp[Instr.next,getObj,Sem.run,h1,this]
     refine .tuple _ _ rfl (λj a v ha hv=>?_);rcases j with _|j<;>simp at ha hv
     subst ha;subst hv;exact .bool _
    simp[exec]at h
   cases h
 simp[exec]at h
end
end
section
variable [Glob]
open Go.RowKit
section
variable {P:Program}{F:Nat->Prop}{nu:Nat->Option Nat}{A:Heap}{w:World}
def qrM:∀(cs:List AV) (vs:List Value),cs.length=vs.length->(∀(j:Nat) (a:AV) (v:Value),cs[j]? =some a->vs[j]? =some v->R F nu w a v)->cs.all isByte=true->
 ∃ns:List Int,vs=ns.map (Value.int .u8)/\cs.map byteOf=ns.map λn=>UInt8.ofNat n.toNat:=by
 intro cs
 induction cs with
 |nil=>intro vs hl _ _;cases vs with
  |nil=>exact⟨[],rfl,rfl⟩
  |cons v vs=>simp at hl
 |cons c cs ih=>
  intro vs hl hR hb
  cases vs with
  |nil=>simp at hl
  |cons v vs=>
   simp only[cg,aR]at hb;have h0:=hR 0 c v rfl rfl;cases h0<;>try (simp[isByte]at hb;done)
   rename_i k n;cases k<;>try (simp[isByte]at hb;done)
   obtain⟨ns,h1,h2⟩:=ih vs (by simpa using hl) (λj a v ha hv=>hR (j+1) a v (by simpa using ha) (by simpa using hv)) hb.2;exact⟨n::ns,by simp[h1],by simp[h2,byteOf]⟩
def qpV (ns:List Int):∀s:ByteArray,(ns.foldl (λr n=>r.push (UInt8.ofNat n.toNat)) s).data.toList=s.data.toList++ns.map λn=>UInt8.ofNat n.toNat:=by
 induction ns with
 |nil=>intro s;simp
 |cons n ns ih=>intro s;rw[bI,ih];simp[ByteArray.push]
def qnA (i:Inv F nu A w) {src dst:TypeId}{x:AV}{xv:Value}(hx:R F nu w x xv) {f:zx}:Ok P F nu A w (convert src dst xv) (exec (qjn P src dst x) A f):=by
 intro v A' f' h;unfold qjn at h;split at h
 ·rename_i k1 k2 hs hd;cases hx<;>try (simp[exec]at h;done)
  obtain⟨rfl,rfl⟩:=zt h;exact⟨_,w,nu,by simp[convert,run_underlying hs,run_underlying hd,Conv.intToInt],.refl i,.int _ _⟩
 ·rename_i hs hd;cases hx<;>try (simp[exec]at h;done)
  rename_i bs l hl;obtain⟨rfl,rfl⟩:=zt h;exact⟨_,w,nu,by simp[convert,run_underlying hs,run_underlying hd],.refl i,.str _ _ hl⟩
 ·rename_i k1 hs hd;cases hx<;>try (simp[exec]at h;done)
  obtain⟨rfl,rfl⟩:=zt h;exact⟨_,w,nu,by simp[convert,run_underlying hs,run_underlying hd,Conv.intToString],.refl i,.str _ _ rfl⟩
 ·rename_i e hs hd;split at h
  ·rename_i he;split at h
   ·simp[exec]at h
   rename_i hns;obtain⟨n,news,vs,f2,hsrc,h1,h2,h3,hn⟩:=qhT (tx:=src) i (by omega) (.inl ⟨e,hs⟩) hx (λ_ s hs=>hns s hs) h;split at h3
   ·rename_i hb;obtain⟨rfl,rfl⟩:=zt h3;obtain⟨ns,hvs,hbs⟩:=qrM news vs h1 h2 hb
    have hval:∃a n' c,xv= .slice a n' c:=by
     cases hx<;>first|exact⟨_,_,_,rfl⟩|exact(hns _ rfl).elim|(simp[qW,exec]at h;done)
    obtain⟨a,n',c,rfl⟩:=hval;have hnn:=hn _ _ _ rfl;subst hnn;have hrun:=run_convert_bytes_string (P:=P) w src dst e a n' c hs he hd
    cases a with
    |none=>
     have hv0:vs=[]:=by
      have:=hsrc.cells;simp only[Builtin.firstCells,Sem.run_pure,Result.ok.injEq,gk]at this;have:=az Array.toList this;simpa using this.symm
     subst hv0;have:news=[]:=cS (by simpa using h1);subst this;exact⟨.string .empty,w,nu,by rw[hrun];simp[Conv.bytesToString],.refl i,.str _ _ (by simp)⟩
    |some ad=>
     have hc:=hsrc.cells;simp only[Builtin.firstCells,cR]at hc;rw[hvs]at hc;refine⟨_,w,nu,hrun.trans (run_bytesToString w ad n' c ns hc),.refl i,.str _ _ ?_⟩;rw[qpV,hbs];simp
   simp[exec]at h3
  simp[exec]at h
 simp[exec]at h
def quy:∀a b:List UInt8,Op.bytesLess a b=ltL a b:=by
 intro a
 induction a with
 |nil=>intro b;cases b<;>rfl
 |cons x a ih=>intro b;cases b with
  |nil=>rfl
  |cons y b=>simp only[Op.bytesLess,ltL,ih]
def qpl {op:BinOp}{a b:List UInt8}{x y:ByteArray}(ha:x.data.toList=a) (hb:y.data.toList=b) {v:AV}(h:qjm op a b=some v):∃r,(Op.stringOp op x y).run P w= .ok r w/\R F nu w v r:=by
 have hx:x.toList=a:=by rw[ByteArray.toList_eq];exact ha
 have hy:y.toList=b:=by rw[ByteArray.toList_eq];exact hb
 have hxs:x.size=a.length:=by subst ha;simp
 have hys:y.size=b.length:=by subst hb;simp
 unfold qjm at h;split at h
 ·split at h
  ·rename_i hl;injection h with h;subst h;refine⟨.string (x++y),?_,.str _ _ ?_⟩
   ·simp[Op.stringOp,hxs,hys,IntKind.max,IntKind.signed,IntKind.bits];omega
   subst ha hb;simp[ByteArray.data_append]
  cases h
 all_goals first|(cases h;done)|(injection h with h;subst h;exact⟨_,by simp only[Op.stringOp,hx,hy,quy];rfl,.bool _⟩)
def qo7 {op:BinOp}{k:IntKind}{a b:Int}(hop:qdg op=false) {t:TypeId}{v:AV}(h:qhI op k a b=some v):∃r,(binOp op t (.int k a) (.int k b)).run P w= .ok r w/\R F nu w v r:=by
 cases op<;>simp only[qhI,qdg,reduceCtorEq]at h hop<;>first
  |(injection h with h
    subst h
    exact⟨_,by simp only[binOp,ne_eq,not_true_eq_false,bh,Op.intArith,Op.intBits,Op.intCmp];rfl,by first|exact .int _ _|exact .bool _⟩)
  |(split at h
    ·cases h
    rename_i hb0;injection h with h;subst h
    exact⟨_,by simp only[binOp,ne_eq,not_true_eq_false,bh,Op.intDiv,hb0];rfl,.int _ _⟩)
def qmC {op:BinOp}{k k':IntKind}{a b:Int}(hop:qdg op=true) {t:TypeId}{v:AV}(h:qfX op k a b=some v):∃r,(binOp op t (.int k a) (.int k' b)).run P w= .ok r w/\R F nu w v r:=by
 unfold qfX at h;split at h
 ·cases h
 rename_i hb;split at h
 ·injection h with h;subst h;exact⟨_,by simp only[binOp,Op.shift,hb,bh];rfl,.int _ _⟩
 ·injection h with h;subst h;exact⟨_,by simp only[binOp,Op.shift,hb,bh];rfl,.int _ _⟩
 cases h
def qqo:∀(d D:Nat),d<=D->∀(t:TypeId) (x y:AV) (xv yv:Value) (b:Bool),R F nu w x xv->R F nu w y yv->eqA P d t x y=some b->(Op.equalIn D t xv yv).run P w= .ok b w:=by
 intro d
 induction d with
 |zero=>intro D _ t x y xv yv b _ _ h;cases h
 |succ d ih=>
  intro D hD t x y xv yv b hx hy h;obtain⟨D,rfl⟩:∃D',D=D'+1:=⟨D-1,by omega⟩;unfold eqA at h;split at h
  ·rename_i ht;cases hx;cases hy
   injection h with h;subst h;exact run_equalIn_bool' w D t _ _ ht
  ·rename_i ik k a k' b' ht;cases hx;cases hy
   split at h
   ·rename_i hk;subst hk;injection h with h;subst h;exact run_equalIn_int w D t k ik _ _ ht
   cases h
  ·rename_i a b' ht
   cases hx with
   |str s1 _ h1=>
    cases hy with
    |str s2 _ h2=>
     injection h with h;subst h;rw[run_equalIn_string w D t _ _ ht,ByteArray.toList_eq,ByteArray.toList_eq,h1,h2]
  ·rename_i fields xs ys ht
   cases hx with
   |agg _ vx hlx hRx=>
    cases hy with
    |agg _ vy hly hRy=>
     split at h
     ·cases h
     rename_i hst
     have hf:P.fieldsOf t=fields:=by simp[Program.fieldsOf,ht]
     rw[run_equalIn_struct w D t vx vy (by rw[hf];exact ht) (by simpa using hst),hf];generalize fields.toList=fs at h
     induction fs with
     |nil=>simp only[qp8,ZI]at h;subst h;rfl
     |cons g fs ihf=>
      simp only[qp8]at h;simp only[Op.eqFields];by_cases hn:g.name= "_"
      ·simp only[hn,ne_eq,not_true_eq_false,bh]at h⊢;exact ihf h
      simp only[ne_eq,hn,not_false_eq_true,aT]at h⊢;split at h
      ·rename_i p q hp hq;obtain⟨p',hp1,hp2⟩:=qgj (P:=P) ⟨hlx,hRx⟩ hp;obtain⟨q',hq1,hq2⟩:=qgj (P:=P) ⟨hly,hRy⟩ hq;split at h
       ·rename_i he;have:=ih D (by omega) _ _ _ _ _ _ hp2 hq2 he;simp only[Sem.run_bind,hp1,hq1,this,Result.andThen_ok,Bool.not_true,ZF,bh];exact ihf h
       ·rename_i he;injection h with h;subst h;have:=ih D (by omega) _ _ _ _ _ _ hp2 hq2 he;simp[hp1,hq1,this]
       cases h
      cases h
  ·rename_i len e xs ys ht
   cases hx with
   |agg _ vx hlx hRx=>
    cases hy with
    |agg _ vy hly hRy=>
     split at h
     ·rename_i hi;obtain⟨inf,hinf⟩:=ef.1 hi;rw[run_equalIn_array w D vx vy ht hinf];generalize List.range len=is at h
      induction is with
      |nil=>simp only[eqIs,ZI]at h;subst h;rfl
      |cons j is ihf=>
       simp only[eqIs]at h;simp only[Op.eqItems];split at h
       ·rename_i p q hp hq;obtain⟨p',hp1,hp2⟩:=qgj (P:=P) ⟨hlx,hRx⟩ hp;obtain⟨q',hq1,hq2⟩:=qgj (P:=P) ⟨hly,hRy⟩ hq;split at h
        ·rename_i he;have:=ih D (by omega) _ _ _ _ _ _ hp2 hq2 he;simp only[Sem.run_bind,hp1,hq1,this,Result.andThen_ok,Bool.not_true,ZF,bh];exact ihf h
        ·rename_i he;injection h with h;subst h;have:=ih D (by omega) _ _ _ _ _ _ hp2 hq2 he;simp[hp1,hq1,this]
        cases h
       cases h
     cases h
  cases h
def qpF {e t:TypeId}(ht:P.underlying t=some (.slice e)) {cs:List AV}{xv yv:Value}(hx:R F nu w (.fslice 0 cs) xv) (hy:R F nu w .nilslice yv):∃b,(Op.equalIn Op.maxDepth t xv yv).run P w= .ok b w:=by
 obtain⟨D,hd⟩:∃D,Op.maxDepth=D+1:=⟨9999,rfl⟩;rw[hd];cases hy
 cases hx with
 |fslice0 A cap=>
  cases A with
  |none=>exact⟨true,by simp[Op.equalIn,run_underlying ht]⟩
  |some A=>exact⟨false,by simp[Op.equalIn,run_underlying ht]⟩
 |fslice n cs ad cap vs=>exact⟨false,by simp[Op.equalIn,run_underlying ht]⟩
def qmP {d:TypeDesc}{t:TypeId}(ht:P.underlying t=some d) {x y:AV}{xv yv:Value}(hx:R F nu w x xv) (hy:R F nu w y yv) {b:Bool}(h:qgq d x y=some b):(Op.equalIn Op.maxDepth t xv yv).run P w= .ok b w:=by
 obtain⟨D,hd⟩:∃D,Op.maxDepth=D+1:=⟨9999,rfl⟩;rw[hd];unfold qgq at h;split at h
 ·cases hx
  split at h
  ·cases hy;injection h with h;subst h;simp[Op.equalIn,run_underlying ht]
  ·cases hy;injection h with h;subst h;simp[Op.equalIn,run_underlying ht]
  ·cases hy;injection h with h;subst h;simp[Op.equalIn,run_underlying ht]
  cases h
 all_goals first
  |(cases h;done)
  |(cases hx<;>cases hy<;>(injection h with h;subst h;simp[Op.equalIn,run_underlying ht];done))
  |(cases hy
    split at h
    ·cases h
    rename_i hne;injection h with h;subst h
    cases hx with
    |gslice0=>exact absurd rfl hne
    |gslice _ _ _ rb cap e m hp hb hc hs hm=>
     simp[Op.equalIn,run_underlying ht])
  |skip
end
end
section
variable [Glob]
open Go.RowKit
section
variable {P:Program}{F:Nat->Prop}{nu:Nat->Option Nat}{A:Heap}{w:World}
def qaw {op:BinOp}{t:TypeId}{ox oy:Operand}{xv yv:Value}(h1:¬(xv= .nilIface/\yv= .nilIface)) (h2:∀a b,xv= .agg a->yv= .agg b->P.eqGuardType P.depth t=false):(eqGuard op t ox oy xv yv).run P w= .ok () w:=by
 by_cases ho:(op matches .eql| .neq)=true
 ·unfold eqGuard;cases xv<;>cases yv<;>first
   |(simp at h1;done)
   |(have:=h2 _ _ rfl rfl;cases op<;>simp[this]at ho⊢;done)
   |(cases op<;>simp at ho⊢)
 cases op<;>simp[eqGuard]at ho⊢
def qib {op:BinOp}{t:TypeId}{ox oy:Operand}(h:(qf2 ox||qf2 oy)=true):(eqGuard op t ox oy .nilIface .nilIface).run P w= .ok () w:=by
 cases op<;>cases ox<;>cases oy<;>first|rfl|(simp[qf2]at h;done)
def qt9 (i:Inv F nu A w) {op:BinOp}{t:TypeId}{ox oy:Operand}{x y:AV}{xv yv:Value}(hx:R F nu w x xv) (hy:R F nu w y yv) {f:zx}:
 Ok P F nu A w (do eqGuard op t ox oy xv yv;binOp op t xv yv) (exec (.opt (qbI P op t ox oy x y)) A f):=by
 refine Ok.opt i (λv hv=>?_)
 have fin:∀r,(eqGuard op t ox oy xv yv).run P w= .ok () w->(binOp op t xv yv).run P w= .ok r w->R F nu w v r->∃r,((do eqGuard op t ox oy xv yv;binOp op t xv yv):Sem Value).run P w= .ok r w/\R F nu w v r:=by
  intro r h1 h2 h3;exact⟨r,by simp only[Sem.run_bind,h1,Result.andThen_ok,h2],h3⟩
 unfold qbI at hv;split at hv
 ·split at hv
  ·rename_i hc;cases hx;cases hy
   obtain⟨D,hD⟩:∃D,Op.maxDepth=D+1:=⟨9999,rfl⟩;have hg:=qib (P:=P) (w:=w) (op:=op) (t:=t) hc;split at hv
   ·rename_i ms ht;injection hv with hv;subst hv
    have h0:(Op.equalIn Op.maxDepth t .nilIface .nilIface).run P w= .ok true w:=by rw[hD];simp[Op.equalIn,run_underlying ht]
    exact fin _ hg (by simp[binOp,Op.equal,h0]) (.bool _)
   ·rename_i ms ht;injection hv with hv;subst hv
    have h0:(Op.equalIn Op.maxDepth t .nilIface .nilIface).run P w= .ok true w:=by rw[hD];simp[Op.equalIn,run_underlying ht]
    exact fin _ hg (by simp[binOp,Op.equal,h0]) (.bool _)
   cases hv
  cases hv
 ·rename_i k a k' b;cases hx;cases hy
  have hg:(eqGuard op t ox oy (.int k a) (.int k' b)).run P w= .ok () w:=qaw (by simp) (by simp);split at hv
  ·rename_i hs;obtain⟨r,h1,h2⟩:=qmC (P:=P) (F:=F) (nu:=nu) (w:=w) (k':=k') hs (t:=t) hv;exact fin r hg h1 h2
  rename_i hs;split at hv
  ·rename_i hk;subst hk;obtain⟨r,h1,h2⟩:=qo7 (P:=P) (F:=F) (nu:=nu) (w:=w) (by simpa using hs) (t:=t) hv;exact fin r hg h1 h2
  cases hv
 ·cases hx with
  |str s1 _ h1=>
   cases hy with
   |str s2 _ h2=>
    obtain⟨r,g1,g2⟩:=qpl (P:=P) (F:=F) (nu:=nu) (w:=w) h1 h2 hv;refine fin r (qaw (by simp) (by simp)) ?_ g2;cases op<;>first|(simp[qjm]at hv;done)|exact g1
 ·rename_i a b;cases hx;cases hy
  have hg:(eqGuard op t ox oy (.bool a) (.bool b)).run P w= .ok () w:=qaw (by simp) (by simp);have hd:∃D,Op.maxDepth=D+1:=⟨9999,rfl⟩;obtain⟨D,hD⟩:=hd;split at hv
  ·rename_i ht;injection hv with hv;subst hv;exact fin _ hg (by simp[binOp,Op.equal,hD,run_equalIn_bool' w D t a b ht]) (.bool _)
  ·rename_i ht;injection hv with hv;subst hv;exact fin _ hg (by simp[binOp,Op.equal,hD,run_equalIn_bool' w D t a b ht]) (.bool _)
  cases hv
 ·rename_i xs ys;split at hv
  ·cases hv
  rename_i hgt
  have hgt':P.eqGuardType P.depth t=false:=by simpa using hgt
  have hlarge:100<=Op.maxDepth:=by decide
  split at hv
  ·rename_i r he;injection hv with hv;subst hv;have h1:=qqo 100 Op.maxDepth hlarge t _ _ _ _ _ hx hy he;cases hx;cases hy
   exact fin _ (qaw (by simp) (λ_ _ _ _=>hgt')) (by simp[binOp,Op.equal,h1]) (.bool _)
  ·rename_i r he;injection hv with hv;subst hv;have h1:=qqo 100 Op.maxDepth hlarge t _ _ _ _ _ hx hy he;cases hx;cases hy
   exact fin _ (qaw (by simp) (λ_ _ _ _=>hgt')) (by simp[binOp,Op.equal,h1]) (.bool _)
  cases hv
 ·split at hv
  ·rename_i e ht;injection hv with hv;subst hv;obtain⟨b,h1⟩:=qpF (P:=P) ht hx hy;refine fin (.bool b) ?_ ?_ (.anyb _)
   ·refine qaw (λ⟨e1,e2⟩=>?_) (λa b e1 e2=>?_)
    ·subst e1;cases hx
    subst e1;cases hx
   have hbin:binOp .eql t xv yv=(do pure (.bool (<-Op.equal t xv yv)):Sem Value):=by
    cases hx<;>cases hy<;>rfl
   rw[hbin];simp[Op.equal,h1]
  cases hv
 split at hv
 ·rename_i d ht;obtain⟨r,hr,rfl⟩:=Yd.1 hv;have h1:=qmP (P:=P) ht hx hy hr;refine fin (.bool r) ?_ ?_ (.bool _)
  ·refine qaw (λ⟨e1,e2⟩=>?_) (λa b e1 e2=>?_)
   ·subst e1 e2;cases hx<;>cases hy<;>simp[qgq]at hr
   subst e1 e2;cases hx<;>cases hy<;>simp[qgq]at hr
  have hbin:binOp .eql t xv yv=(do pure (.bool (<-Op.equal t xv yv)):Sem Value):=by
   unfold qgq at hr;split at hr<;>first|(cases hr;done)|skip
   all_goals (cases hx;try (split at hr))<;>first|(cases hr;done)|(cases hy<;>rfl)|rfl
  rw[hbin];simp[Op.equal,h1]
 ·rename_i d ht;obtain⟨r,hr,rfl⟩:=Yd.1 hv;have h1:=qmP (P:=P) ht hx hy hr;refine fin (.bool (!r)) ?_ ?_ (.bool _)
  ·refine qaw (λ⟨e1,e2⟩=>?_) (λa b e1 e2=>?_)
   ·subst e1 e2;cases hx<;>cases hy<;>simp[qgq]at hr
   subst e1 e2;cases hx<;>cases hy<;>simp[qgq]at hr
  have hbin:binOp .neq t xv yv=(do pure (.bool (!(<-Op.equal t xv yv))):Sem Value):=by
   unfold qgq at hr;split at hr<;>first|(cases hr;done)|skip
   all_goals (cases hx;try (split at hr))<;>first|(cases hr;done)|(cases hy<;>rfl)|rfl
  rw[hbin];simp[Op.equal,h1]
 cases hv
def ok_un (i:Inv F nu A w) {op:UnOp}{x:AV}{xv:Value}(hx:R F nu w x xv) {f:zx}:Ok P F nu A w (Op.unary op xv) (exec (.opt (aUn op x)) A f):=by
 refine Ok.opt i (λv hv=>?_);unfold aUn at hv;split at hv
 ·cases hx;injection hv with hv;subst hv;exact⟨_,rfl,.bool _⟩
 ·cases hx;injection hv with hv;subst hv;exact⟨_,rfl,.int _ _⟩
 ·cases hx;injection hv with hv;subst hv;exact⟨_,rfl,.int _ _⟩
 cases hv
def qkA (g:AV->AV->Option AV) (s:Value->Value->Sem Value) (hg:∀a b c av bv,R F nu w a av->R F nu w b bv->g a b=some c->∃r,(s av bv).run P w= .ok r w/\R F nu w c r):
 ∀(xs:List AV) (vs:List Value) (a c:AV) (av:Value),xs.length=vs.length->(∀(j:Nat) (a:AV) (v:Value),xs[j]? =some a->vs[j]? =some v->R F nu w a v)->R F nu w a av->xs.foldlM g a=some c->∃r,(vs.foldlM s av).run P w= .ok r w/\R F nu w c r:=by
 intro xs
 induction xs with
 |nil=>
  intro vs a c av hl _ ha h
  cases vs with
  |nil=>simp only[List.foldlM_nil,fV,ZI]at h;subst h;exact⟨av,rfl,ha⟩
  |cons v vs=>simp at hl
 |cons x xs ih=>
  intro vs a c av hl hR ha h
  cases vs with
  |nil=>simp at hl
  |cons v vs=>
   simp only[List.foldlM_cons,Option.bind_eq_bind,aM]at h;obtain⟨b,hb,h⟩:=h;obtain⟨r,h1,h2⟩:=hg a x b av v ha (hR 0 x v rfl rfl) hb;obtain⟨r',h3,h4⟩:=ih vs b c r (by simpa using hl) (λj a v ha hv=>hR (j+1) a v (by simpa using ha) (by simpa using hv)) h2 h;exact⟨r',by simp only[List.foldlM_cons,Sem.run_bind,h1,Result.andThen_ok,h3],h4⟩
def RA (F:Nat->Prop) (nu:Nat->Option Nat) (w:World) (AZ:List AV) (vs:List Value):Prop:=
 AZ.length=vs.length/\∀(j:Nat) (a:AV) (v:Value),AZ[j]? =some a->vs[j]? =some v->R F nu w a v
def qnC (i:Inv F nu A w) {b:Builtin}{types:List TypeId}{ty:TypeId}{consts:Array Bool}{AZ:List AV}{vs:List Value}(h:RA F nu w AZ vs) {f:zx}{v:AV}{A':Heap}{f':zx}(hx:exec (vP P b types AZ) A f=some (v,A',f')):
 ∃x w' nu',(builtin b types.toArray ty consts vs.toArray).run P w= .ok (.value x) w'/\Stp F nu A w F nu' A' w'/\R F nu' w' v x:=by
 have two:∀s x,AZ=[s,x]->∃sv xv,vs=[sv,xv]/\R F nu w s sv/\R F nu w x xv:=by
  intro s x e;subst e
  match vs,h.1 with
  |[sv,xv],_=>exact⟨sv,xv,rfl,h.2 0 _ _ rfl rfl,h.2 1 _ _ rfl rfl⟩
 have one:∀x,AZ=[x]->∃xv,vs=[xv]/\R F nu w x xv:=by
  intro x e;subst e
  match vs,h.1 with
  |[xv],_=>exact⟨xv,rfl,h.2 0 _ _ rfl rfl⟩
 have fin:∀(s:Sem Value),(builtin b types.toArray ty consts vs.toArray)=(do pure (.value (<-s)):Sem Next)->Ok P F nu A w s (exec (vP P b types AZ) A f)->
  ∃x w' nu',(builtin b types.toArray ty consts vs.toArray).run P w= .ok (.value x) w'/\Stp F nu A w F nu' A' w'/\R F nu' w' v x:=by
  intro s hs hok;obtain⟨x,w',nu',h1,h2,h3⟩:=hok v A' f' hx;exact⟨x,w',nu',by rw[hs];simp[h1],h2,h3⟩
 have hx0:=hx;unfold vP at hx;split at hx
 ·obtain⟨sv,xv,rfl,h1,h2⟩:=two _ _ rfl;exact fin _ rfl (by simpa only[vP]using qo9 i h1 h2)
 ·obtain⟨sv,xv,rfl,h1,h2⟩:=two _ _ rfl;exact fin _ rfl (by simpa only[vP]using qsL i h1 h2)
 ·obtain⟨xv,rfl,h1⟩:=one _ rfl;exact fin _ rfl (by simpa only[vP]using qqV i h1)
 ·obtain⟨xv,rfl,h1⟩:=one _ rfl;split at hx
  ·rename_i t;split at hx
   ·rename_i d ht;refine fin (Builtin.len_ #[t] ty #[xv]) rfl ?_;simp only[vP,ht];exact qtK i ht ty h1
   simp[exec]at hx
  simp[exec]at hx
 ·obtain⟨xv,rfl,h1⟩:=one _ rfl;split at hx
  ·rename_i t;split at hx
   ·rename_i e ht;refine fin (Builtin.cap_ #[t] ty #[xv]) rfl ?_;simp only[vP,ht];exact qup i ht ty h1
   simp[exec]at hx
  simp[exec]at hx
 ·rename_i x rest
  match vs,h.1 with
  |av::ws,hl=>
   refine fin (Builtin.min_ types.toArray ty (av::ws).toArray) rfl ?_;simp only[vP];refine Ok.opt i (λc hc=>?_)
   obtain⟨r,h1,h2⟩:=qkA (P:=P) minA Builtin.min2 (λa b c av bv ha hb hm=>by
    cases ha<;>cases hb<;>simp only[minA,ZI,reduceCtorEq]at hm
    subst hm
    exact⟨_,rfl,.int _ _⟩) rest ws x c av (by simpa using hl) (λj a v ha hv=>h.2 (j+1) a v (by simpa using ha) (by simpa using hv)) (h.2 0 _ _ rfl rfl) hc
   exact⟨r,by simpa[Builtin.min_]using h1,h2⟩
 ·rename_i x rest
  match vs,h.1 with
  |av::ws,hl=>
   refine fin (Builtin.max_ types.toArray ty (av::ws).toArray) rfl ?_;simp only[vP];refine Ok.opt i (λc hc=>?_)
   obtain⟨r,h1,h2⟩:=qkA (P:=P) maxA Builtin.max2 (λa b c av bv ha hb hm=>by
    cases ha<;>cases hb<;>simp only[maxA,ZI,reduceCtorEq]at hm
    subst hm
    exact⟨_,rfl,.int _ _⟩) rest ws x c av (by simpa using hl) (λj a v ha hv=>h.2 (j+1) a v (by simpa using ha) (by simpa using hv)) (h.2 0 _ _ rfl rfl) hc
   exact⟨r,by simpa[Builtin.max_]using h1,h2⟩
 simp[exec]at hx
end
end
section
variable [Glob]
open Go.RowKit
def yj (fr:Fr):Operand->AV
 | .tmp t=>fr.get t
 | .const v=>qcz 3 v
 | .global g=>Glob.gl g
 | .func f=> .func (.func f) [] []
def qel (fr:Fr) (dst:Option Tmp) (v:AV):Fr:=
 match dst with
 |some d=>fr.set d v
 |none=>fr
section
variable {P:Program}{F:Nat->Prop}{nu:Nat->Option Nat}{A:Heap}{w:World}
def RF.getD {fr:Fr}{tmps:Array Value}(h:RF F nu w fr tmps) (t:Nat):R F nu w (fr.get t) (tmps.getD t undef):=by
 rcases aw t tmps.size with hlt|hge
 ·have e:tmps.getD t undef=tmps[t]:=by simp[Array.getD,hlt]
  rw[e];exact h.at_ t _ (Yi hlt)
 rw[h.out t (by rw[<-h.size];exact hge)];exact .undef _
def RF.eval {fr:Fr}{a:Act}(h:RF F nu w fr a.tmps) (hg:Glob.G F w) (x:Operand):R F nu w (yj fr x) (a.eval x):=by
 cases x with
 |tmp t=>exact h.getD t
 |const v=>exact qeT 3 v
 |global g=>exact(Glob.val g hg).mono ⟨λ_ h=>h,by simp,λ_ _=>rfl,λ_ _ h=>h⟩
 |func f=>exact .func _ [] [] _ _ rfl rfl (by simp) (by simp)
def RF.setDst {fr:Fr}{a:Act}(h:RF F nu w fr a.tmps) (dst:Option Tmp) {v:AV}{x:Value}(hv:R F nu w v x):RF F nu w (qel fr dst v) (a.put dst x).tmps:=by
 cases dst with
 |none=>exact h
 |some d=>
  refine⟨by simp[qel,Act.put,h.size],λj y hy=>?_,λj hj=>?_⟩
  ·simp only[qel,Act.put]at hy⊢;rw[Array.getElem?_setIfInBounds]at hy;by_cases e:d=j
   ·subst e;rw[ae rfl]at hy;split at hy
    ·rename_i hlt;injection hy with hy;subst hy;rcases fr.get_set_same d v with h1|h1|⟨h1,_⟩
     ·rw[h1];exact hv
     ·rw[h1];exact .undef _
     have:=h.size;omega
    cases hy
   rw[aa e]at hy;rw[Uh e];exact h.at_ j y hy
  simp only[qel,Fr.set_n]at hj⊢;by_cases e:d=j
  ·subst e;rw[Fr.get_set_out hj];exact h.out d hj
  rw[Uh e];exact h.out j hj
def RL.map {ρ:Operand->AV}{ρv:Operand->Value}(hρ:∀x,R F nu w (ρ x) (ρv x)) (xs:List Operand):RA F nu w (xs.map ρ) (xs.map ρv):=by
 refine⟨by simp,λj a v ha hv=>?_⟩;rw[YA]at ha hv
 cases h:xs[j]? with
 |none=>simp[h]at ha
 |some x=>
  simp only[h,ZM,ZI]at ha hv;subst ha;subst hv;exact hρ x
def RP.map {ρ:Operand->AV}{ρv:Operand->Value}(hρ:∀x,R F nu w (ρ x) (ρv x)):∀xs:List (Nat×Operand),RP F nu w (xs.map λp=>(p.1,ρ p.2)) (xs.map λp=>(p.1,ρv p.2))
 |[]=>trivial
 |_::xs=>⟨rfl,hρ _,RP.map hρ xs⟩
def RO.map {ρ:Operand->AV}{ρv:Operand->Value}(hρ:∀x,R F nu w (ρ x) (ρv x)) (x:Option Operand):RO F nu w (x.map ρ) (x.map ρv):=by
 cases x with
 |none=>trivial
 |some x=>exact hρ x
set_option maxHeartbeats 4000000 in
def qkJ (i:Inv F nu A w) {o:Oper}{ρ:Operand->AV}{ρv:Operand->Value}(hρ:∀x,R F nu w (ρ x) (ρv x)) {f:zx}{v:AV}{A':Heap}{f':zx}(h:exec (aop P o ρ) A f=some (v,A',f')):
 ∃x w' nu',((execOp ρv o).run P w= .ok (.value x) w'\/((execOp ρv o).run P w= .ok .skip w'/\x=undef))/\Stp F nu A w F nu' A' w'/\R F nu' w' v x:=by
 have val:∀(s:Sem Value) (r:Res),execOp ρv o=(do pure (.value (<-s)):Sem Next)->Ok P F nu A w s r->r=some (v,A',f')->
  ∃x w' nu',((execOp ρv o).run P w= .ok (.value x) w'\/((execOp ρv o).run P w= .ok .skip w'/\x=undef))/\Stp F nu A w F nu' A' w'/\R F nu' w' v x:=by
  intro s r hs hok hr;obtain⟨x,w',nu',h1,h2,h3⟩:=hok v A' f' hr;exact⟨x,w',nu',.inl (by rw[hs];simp[h1]),h2,h3⟩
 have unit:∀(s:Sem Unit),execOp ρv o=(do s;pure .skip:Sem Next)->(v= .undef/\∃w',s.run P w= .ok () w'/\Stp F nu A w F nu A' w')->
  ∃x w' nu',((execOp ρv o).run P w= .ok (.value x) w'\/((execOp ρv o).run P w= .ok .skip w'/\x=undef))/\Stp F nu A w F nu' A' w'/\R F nu' w' v x:=by
  intro s hs ⟨hv,w',h1,h2⟩;subst hv;exact⟨undef,w',nu,.inr ⟨by rw[hs];simp[h1],rfl⟩,h2,.undef _⟩
 have pureV:∀(x:Value),execOp ρv o=(pure (.value x):Sem Next)->R F nu w v x->A'=A->
  ∃x w' nu',((execOp ρv o).run P w= .ok (.value x) w'\/((execOp ρv o).run P w= .ok .skip w'/\x=undef))/\Stp F nu A w F nu' A' w'/\R F nu' w' v x:=by
  intro x hx hR hA;subst hA;exact⟨x,w,nu,.inl (by rw[hx];rfl),.refl i,hR⟩
 obtain⟨dst,op,type,pos,after,guard⟩:=o
 cases op with
 |move x=>obtain⟨rfl,rfl⟩:=zt h;exact pureV _ rfl (hρ x) rfl
 |assign x=>obtain⟨rfl,rfl⟩:=zt h;exact pureV _ rfl (hρ x) rfl
 |pick c a b=>
  simp only[aop,zk]at h;split at h
  ·rename_i t ht;obtain⟨rfl,rfl⟩:=zt h;have hc:=hρ c;rw[ht]at hc
   have hc2:ρv c= .bool t:=by
    generalize ρv c=z at hc;cases hc
    rfl
   refine⟨if t then ρv a else ρv b,w,nu,.inl ?_,.refl i,?_⟩
   ·simp[execOp,hc2,asBool]
   cases t
   ·exact hρ b
   exact hρ a
  simp[exec]at h
 |alloc e=>simp only[aop,zk]at h;exact val (Instr.alloc e true (.tuple #[])) _ rfl (qrP i) h
 |box e x=>simp only[aop,zk]at h;exact val (Instr.box e (ρv x)) _ rfl (qtO i (hρ x)) h
 |build t parts=>
  simp only[aop,zk]at h
  have hp:RP F nu w (parts.toList.map λp=>(p.1,ρ p.2)) (parts.map λ(i,x)=>(i,ρv x)).toList:=by
   rw[Array.toList_map];exact RP.map hρ _
  exact val (Instr.build t (parts.map λ(i,x)=>(i,ρv x))) _ rfl (qqr i hp) h
 |buildSlice t len parts=>
  simp only[aop,zk]at h
  have hp:RP F nu w (parts.toList.map λp=>(p.1,ρ p.2)) (parts.map λ(i,x)=>(i,ρv x)).toList:=by
   rw[Array.toList_map];exact RP.map hρ _
  exact val (Instr.buildSlice t len (parts.map λ(i,x)=>(i,ρv x))) _ rfl (qka i hp) h
 |insert t m k x=>simp only[aop,zk]at h;exact unit (Instr.mapUpdate t (ρv m) (ρv k) (ρv x)) rfl (qgU i (hρ m) (hρ k) (hρ x) h)
 |load t p=>simp only[aop,zk]at h;exact val (Instr.loadAt t (ρv p)) _ rfl (qs3 i (hρ p)) h
 |store t p x=>simp only[aop,zk]at h;exact unit (Instr.storeAt t (ρv p) (ρv x)) rfl (qq3 i (hρ p) (hρ x) h)
 |nilCheck x=>
  simp only[aop,zk]at h;have hx:=hρ x;generalize hy:ρ x=y at h hx;generalize hz:ρv x=z at hx;cases y<;>simp only[qkC,Pg.opt,exec,reduceCtorEq,ZI,ZP]at h
  ·obtain⟨rfl,rfl,_⟩:=h
   cases hx with
   |ptr _ _ rb hb=>exact⟨_,w,nu,.inl (by simp[execOp,hz]),.refl i,.ptr _ _ _ hb⟩
  ·obtain⟨rfl,rfl,_⟩:=h
   cases hx with
   |fptr cs off ad vs hF hl hc hR=>exact⟨_,w,nu,.inl (by simp[execOp,hz]),.refl i,.fptr _ _ _ _ hF hl hc hR⟩
  rename_i fn fs cs;cases fn<;>simp only[exec,reduceCtorEq,ZI,ZP]at h
  obtain⟨rfl,rfl,_⟩:=h
  cases hx with
  |func _ _ _ vf vc h1 h2 hf hc=>exact⟨_,w,nu,.inl (by simp[execOp,hz]),.refl i,.func _ _ _ _ _ h1 h2 hf hc⟩
 |binOp op t x y yt=>simp only[aop,zk]at h;exact val (do eqGuard op t x y (ρv x) (ρv y);binOp op t (ρv x) (ρv y)) _ rfl (qt9 i (hρ x) (hρ y)) h
 |unOp op t x=>simp only[aop,zk]at h;exact val (Op.unary op (ρv x)) _ rfl (ok_un i (hρ x)) h
 |convert s d x=>simp only[aop,zk]at h;exact val (convert s d (ρv x)) _ rfl (qnA i (hρ x)) h
 |makeFunc fn first captured=>
  obtain⟨rfl,rfl⟩:=zt h;have h1:=RL.map hρ first.toList;have h2:=RL.map hρ captured.toList;refine⟨.func fn (first.map ρv) (captured.map ρv),w,nu,.inl rfl,.refl i,.func _ _ _ _ _ (by simp) (by simp) (λj a v ha hv=>?_) (λj a v ha hv=>?_)⟩
  ·exact h1.2 j a v ha (by simpa using hv)
  exact h2.2 j a v ha (by simpa using hv)
 |makeMap t r=>simp only[aop,zk]at h;exact val (Instr.makeMap t (r.map ρv)) _ rfl (qny i (RO.map hρ r)) h
 |makeSlice t l c=>simp only[aop,zk]at h;exact val (Instr.makeSlice t (ρv l) (ρv c)) _ rfl (qk5 i (hρ l) (hρ c)) h
 |slice t x l hh m=>simp only[aop,zk]at h;exact val (Instr.sliceAt t (ρv x) (l.map ρv) (hh.map ρv) (m.map ρv)) _ rfl (ok_slice i (hρ x) (RO.map hρ l) (RO.map hρ hh) (RO.map hρ m)) h
 |fieldAddr s x fi=>simp only[aop,zk]at h;exact val (Instr.fieldAt s (ρv x) fi) _ rfl (qlp i (hρ x)) h
 |field t x fi=>simp only[aop,zk]at h;exact val (Instr.field t (ρv x) fi) _ rfl (qqB i (hρ x)) h
 |indexAddr t x ix=>simp only[aop,zk]at h;exact val (Instr.indexAt t (ρv x) (ρv ix)) _ rfl (qlC i (hρ x) (hρ ix)) h
 |index t x ix=>simp only[aop,zk]at h;exact val (Instr.index t (ρv x) (ρv ix)) _ rfl (qqR i (hρ x) (hρ ix)) h
 |lookup t x k ok=>simp only[aop,zk]at h;exact val (Instr.lookup t (ρv x) (ρv k) ok) _ rfl (qpp i (hρ x) (hρ k)) h
 |mapUpdate t m k x=>simp only[aop,zk]at h;exact unit (Instr.mapUpdate t (ρv m) (ρv k) (ρv x)) rfl (qgU i (hρ m) (hρ k) (hρ x) h)
 |mapEntry t m k=>simp only[aop,zk]at h;exact val (Instr.mapEntry t (ρv m) (ρv k)) _ rfl (qmy i (hρ m) (hρ k)) h
 |entryStore t m k x=>simp only[aop,zk]at h;exact unit (Instr.entryStore t (ρv m) (ρv k) (ρv x)) rfl (qj9 i (hρ m) (hρ k) (hρ x) h)
 |range t x=>simp only[aop,zk]at h;exact val (Instr.range t (ρv x)) _ rfl (qqg i (hρ x)) h
 |next x s=>simp only[aop,zk]at h;exact val (Instr.next (ρv x) s type) _ rfl (qsC i (hρ x)) h
 |extract t ix=>
  simp only[aop,zk]at h;split at h
  ·rename_i vs ht;have hx:=hρ t;rw[ht]at hx;generalize hz:ρv t=z at hx
   cases hx with
   |tuple _ xs hl hR=>
    cases hv:vs[ix]? with
    |none=>simp[hv,Pg.opt,exec]at h
    |some y=>
     rw[hv]at h;obtain⟨rfl,rfl⟩:=zt h;have hlt:ix<vs.length:=(Yb.1 hv).1;have hx2:xs[ix]? =some xs[ix]:=Yi (by omega);exact⟨xs[ix],w,nu,.inl (by simp[execOp,hz,Instr.extract,hx2]),.refl i,hR ix _ _ hv hx2⟩
  simp[exec]at h
 |makeInterface t x=>
  simp only[aop,zk]at h;split at h
  ·simp[exec]at h
  ·rename_i d hni ht;obtain⟨rfl,rfl⟩:=zt h;refine⟨.iface t (ρv x),w,nu,.inl ?_,.refl i,.iface _ _ _ (hρ x)⟩;simp only[execOp,Instr.makeInterface,Sem.run_bind,run_underlying ht,Result.andThen_ok];cases d<;>first|rfl|exact absurd ht (hni _)
  simp[exec]at h
 |call c=>
  simp only[aop,zk]at h;split at h
  ·rename_i b hb;obtain⟨x,w',nu',h1,h2,h3⟩:=qnC (P:=P) (ty:=type) (consts:=c.args.map fun| .const _=>true|_=>false) i (RL.map hρ c.args.toList) h;refine⟨x,w',nu',.inl ?_,h2,h3⟩
   have e1:c.argTypes.toList.toArray=c.argTypes:=by simp
   have e2:(c.args.toList.map ρv).toArray=c.args.map ρv:=by rw[<-Array.toList_map,Array.toArray_toList]
   rw[e1,e2]at h1;simp only[execOp,resolve,hb,Sem.run_bind,Sem.run_pure,Result.andThen_ok,invoke];exact h1
  simp[exec]at h
 |_=>simp[aop,zk,exec]at h
end
end
abbrev eh:=@Glob.ext
abbrev eO:=@Ft.one
end Go.Av
end
