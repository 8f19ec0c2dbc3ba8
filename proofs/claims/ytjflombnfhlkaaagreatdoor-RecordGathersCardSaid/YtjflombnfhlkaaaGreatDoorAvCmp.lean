/-
  Notes compared, walked with the kit's tactics: the world behind it is told whole.
-/
import Derived.Test.YtjflombnfhlkaaaGreatDoorAvPrim
import Derived.Lib.Small
import Derived.Lib.Walk
import Derived.Deep.Draws
import Derived.Sort.Grow
import Derived.Laws.Rows
import Derived.LoopN
import Derived.StillTailTactics
import Derived.Shelf.SlSortCmp.QuietGrown
noncomputable section
namespace Go.Av
open Go.Proofs Go.Shelf Go.RowKit Go.Lib Go.Sort
set_option maxRecDepth 100000
theorem qoF (x:Int) (w:World):Calls Tryz.prog 171 #[.int .i64 x] w fun e w'=>e= .returned (.bool false)∧w'=w:=by
 go_enter Tryz.func171,Tryz.ntmps171
 go_wp2
 go_ret
 exact⟨by simp,rfl⟩
theorem qob (x:ByteArray) (w:World):Calls Tryz.prog 205 #[.string x] w fun e w'=>e= .returned (.bool false)∧w'=w:=by
 go_enter Tryz.func205,Tryz.ntmps205
 go_wp2
 go_ret
 exact⟨by simp,rfl⟩
set_option maxHeartbeats 1000000 in
theorem qok (x y:Int) (w:World):Calls Tryz.prog 126 #[.int .i64 x,.int .i64 y] w fun e w'=>e= .returned (.int .i64 (Lib.compareInt x y))∧w'=w:=by
 go_enter Tryz.func126,Tryz.ntmps126
 go_wp2_with (go_at_call 171;refine(qoF _ _).mono ?_;rintro e w' ⟨rfl,hw⟩;rw[hw])
 all_goals (go_ret;refine⟨?_,rfl⟩;unfold Lib.compareInt;(repeat' split)<;>first|rfl|(exfalso;omega))
def qjz (x y:List UInt8):Int:=if ltL x y=true then-1 else if x=y then 0 else 1
theorem toL (x:ByteArray):x.toList=x.data.toList:=Lib.toList_data x
set_option maxHeartbeats 1000000 in
theorem qom (x y:ByteArray) (w:World):Calls Tryz.prog 178 #[.string x,.string y] w fun e w'=>e= .returned (.int .i64 (qjz x.data.toList y.data.toList))∧w'=w:=by
 have e1:Op.bytesLess x.toList y.toList=ltL x.data.toList y.data.toList:=by rw[ql9,toL,toL]
 go_enter Tryz.func178,Tryz.ntmps178
 go_wp2_with (go_at_call 205;refine(qob _ _).mono ?_;rintro e w' ⟨rfl,hw⟩;rw[hw])
 ·go_ret
  refine⟨?_,rfl⟩
  rename_i h
  unfold qjz
  rw[if_pos h]
  rfl
 ·have hg:(binOp .gtr 9 (.string x) (.string y)).run Tryz.prog w= .ok (.bool (!(Op.bytesLess x.toList y.toList||x.toList==y.toList))) w:=by
   simp[binOp,Op.stringOp,go_sem]
  rw[hg]
  rename_i h _ _ _ _ _ _
  go_wp2
  ·rename_i k
   go_ret
   refine⟨?_,rfl⟩
   unfold qjz
   rw[toL,toL]at k
   rw[if_neg (by simp[h]),if_neg (by simpa using k)]
   rfl
  ·rename_i k
   go_ret
   refine⟨?_,rfl⟩
   unfold qjz
   rw[toL,toL]at k
   rw[if_neg (by simp[h]),if_pos (by simpa using k)]
   rfl
set_option maxHeartbeats 1000000 in
theorem qhT (d l:ByteArray) (n c:Int) (W:World):Calls Tryz.prog 129 #[.agg #[.string d,.int .i64 n,.int .i64 c,.string l]] W fun e w'=>e= .returned (.agg #[.string d,.int .i64 n])∧ ∃q os',w'=grow (W.drewN q) os':=by
 go_enter Tryz.func129,Tryz.ntmps129
 go_wp2
 refine bodyPost_ret (results_cell_row rfl _ _ (W.heap.size+1) 141 #[.string d,.int .i64 n] (0,0) _ rfl (heap_alloc2_new _ _ _) Tryz.underlying141 rfl (by kernel_rfl)) rfl ?_
 exact⟨rfl,0,#[_,_],by rw[alloc_eq_grow,alloc_eq_grow,grow_grow];rfl⟩
set_option maxHeartbeats 1000000 in
theorem qpq (a b r:Int) (W:World) (bk:Nat) (h0:(a !=0)=true→r=a) (h1:(a !=0)=false→r=b) (h2:(b !=0)=false→b=0) (ha:W.cell? ⟨bk,0,none⟩=some (.int .i64 a)) (hb:W.cell? ⟨bk,1,none⟩=some (.int .i64 b)):Calls Tryz.prog 177 #[.slice (some ⟨bk,0,none⟩) 2 2] W fun e w'=>e= .returned (.int .i64 r)∧w'=W:=by
 go_enter Tryz.func177,Tryz.ntmps177
 go_wp2
 refine wp_loop_rounds 3 ?_
 unfold Code.rounds
 go_wp2
 ·go_ret
  exact⟨rfl,rfl⟩
 ·unfold Code.rounds
  go_wp2
  ·go_ret
   exact⟨rfl,rfl⟩
  ·unfold Code.rounds
   go_wp2
   go_ret
   exact⟨rfl,rfl⟩
def qlT (d1:List UInt8) (n1:Int) (d2:List UInt8) (n2:Int):Int:=if qjz d1 d2=0 then Lib.compareInt n1 n2 else qjz d1 d2
set_option maxHeartbeats 2000000 in
theorem qmM (d1 d2:ByteArray) (n1 n2:Int) (W:World):Calls Tryz.prog 131 #[.agg #[.string d1,.int .i64 n1],.agg #[.string d2,.int .i64 n2]] W fun e w'=>e= .returned (.int .i64 (qlT d1.data.toList n1 d2.data.toList n2))∧ ∃q os',w'=grow (W.drewN q) os':=by
 have c1:=fun W'=>qom d1 d2 W'
 have c2:=fun W'=>qok n1 n2 W'
 unfold qlT
 generalize qjz d1.data.toList d2.data.toList=a at c1⊢
 generalize Lib.compareInt n1 n2=b at c2⊢
 have h0:(a !=0)=true→(if a=0 then b else a)=a:=fun h=>if_neg (by simpa using h)
 have h1:(a !=0)=false→(if a=0 then b else a)=b:=fun h=>if_pos (by simpa using h)
 have h2:(b !=0)=false→b=0:=fun h=>by simpa using h
 have c3:=fun W' bk=>qpq a b _ W' bk h0 h1 h2
 generalize (if a=0 then b else a)=r at c3⊢
 clear h0 h1 h2
 go_enter Tryz.func131,Tryz.ntmps131
 go_wp2
 have hA:=(heap_alloc_old (W.alloc (Obj.cells #[Value.string d1,Value.int IntKind.i64 n1] 141)) (Obj.cells #[Value.string d2,Value.int IntKind.i64 n2] 141) (r:=W.heap.size) (by show W.heap.size<(W.heap.push _).size;simp)).trans (heap_alloc_new W _)
 have hB:=heap_alloc2_new W (Obj.cells #[Value.string d1,Value.int IntKind.i64 n1] 141) (Obj.cells #[Value.string d2,Value.int IntKind.i64 n2] 141)
 have hx: ∃q os',((W.alloc (Obj.cells #[Value.string d1,Value.int IntKind.i64 n1] 141)).alloc (Obj.cells #[Value.string d2,Value.int IntKind.i64 n2] 141)).drew=grow (W.drewN q) os':=⟨1,#[_,_],by rw[alloc_eq_grow,alloc_eq_grow,grow_grow];rfl⟩
 have g1:((W.alloc (Obj.cells #[Value.string d1,Value.int IntKind.i64 n1] 141)).alloc (Obj.cells #[Value.string d2,Value.int IntKind.i64 n2] 141)).drew.cell? ⟨W.heap.size,0,none⟩=some (.string d1):=cell_of_row _ _ 0 _ _ _ hA
 have g2:((W.alloc (Obj.cells #[Value.string d1,Value.int IntKind.i64 n1] 141)).alloc (Obj.cells #[Value.string d2,Value.int IntKind.i64 n2] 141)).drew.cell? ⟨W.heap.size,1,none⟩=some (.int .i64 n1):=cell_of_row _ _ 1 _ _ _ hA
 have g3:((W.alloc (Obj.cells #[Value.string d1,Value.int IntKind.i64 n1] 141)).alloc (Obj.cells #[Value.string d2,Value.int IntKind.i64 n2] 141)).drew.cell? ⟨W.heap.size+1,0,none⟩=some (.string d2):=cell_of_row _ _ 0 _ _ _ hB
 have g4:((W.alloc (Obj.cells #[Value.string d1,Value.int IntKind.i64 n1] 141)).alloc (Obj.cells #[Value.string d2,Value.int IntKind.i64 n2] 141)).drew.cell? ⟨W.heap.size+1,1,none⟩=some (.int .i64 n2):=cell_of_row _ _ 1 _ _ _ hB
 clear hA hB
 refine wp_region_still_tail 10 (by kernel_rfl) (by kernel_rfl) ?_
 simp only[List.take_succ_cons,List.take_zero,List.drop_succ_cons,List.drop_zero]
 change wpStill _ _ ((W.alloc (Obj.cells #[Value.string d1,Value.int IntKind.i64 n1] 141)).alloc (Obj.cells #[Value.string d2,Value.int IntKind.i64 n2] 141)).drew (fun a'=>wpList _ _ _ _ a' ((W.alloc (Obj.cells #[Value.string d1,Value.int IntKind.i64 n1] 141)).alloc (Obj.cells #[Value.string d2,Value.int IntKind.i64 n2] 141)).drew) _ _
 generalize ((W.alloc (Obj.cells #[Value.string d1,Value.int IntKind.i64 n1] 141)).alloc (Obj.cells #[Value.string d2,Value.int IntKind.i64 n2] 141)).drew=w2 at*
 repeat still_step
 still_call (c1 _)
 repeat still_step
 still_call (c2 _)
 refine wpStill_nil ?_
 go_wp2_with (go_at_call 177;refine(c3 _ _ (cell_of_row _ _ 0 _ _ _ (heap_alloc_new _ _)) (cell_of_row _ _ 1 _ _ _ (heap_alloc_new _ _))).mono ?_;rintro e w' ⟨rfl,rfl⟩)
 go_ret
 obtain⟨q,os',hx⟩:=hx
 exact⟨rfl,q,os'++#[_],by rw[alloc_eq_grow,hx,grow_grow]⟩
set_option maxHeartbeats 2000000 in
theorem qmO (d1 l1 d2 l2:ByteArray) (n1 k1 n2 k2:Int) (W:World):Calls Tryz.prog 136 #[.agg #[.string d1,.int .i64 n1,.int .i64 k1,.string l1],.agg #[.string d2,.int .i64 n2,.int .i64 k2,.string l2]] W fun e w'=>e= .returned (.int .i64 (qlT d1.data.toList n1 d2.data.toList n2))∧ ∃q os',w'=grow (W.drewN q) os':=by
 have c1:=fun W'=>qhT d1 l1 n1 k1 W'
 have c2:=fun W'=>qhT d2 l2 n2 k2 W'
 have c3:=fun W'=>qmM d1 d2 n1 n2 W'
 generalize qlT d1.data.toList n1 d2.data.toList n2=r at c3⊢
 have mixed:Tryz.prog.follows .mixedOrders=true:=by kernel_rfl
 go_enter Tryz.func136,Tryz.ntmps136
 go_wp2
 have hA:=(heap_alloc_old (W.alloc (Obj.cells #[Value.string d1,Value.int IntKind.i64 n1,Value.int IntKind.i64 k1,Value.string l1] 132)) (Obj.cells #[Value.string d2,Value.int IntKind.i64 n2,Value.int IntKind.i64 k2,Value.string l2] 132) (r:=W.heap.size) (by show W.heap.size<(W.heap.push _).size;simp)).trans (heap_alloc_new W _)
 have hB:=heap_alloc2_new W (Obj.cells #[Value.string d1,Value.int IntKind.i64 n1,Value.int IntKind.i64 k1,Value.string l1] 132) (Obj.cells #[Value.string d2,Value.int IntKind.i64 n2,Value.int IntKind.i64 k2,Value.string l2] 132)
 have hx:((W.alloc (Obj.cells #[Value.string d1,Value.int IntKind.i64 n1,Value.int IntKind.i64 k1,Value.string l1] 132)).alloc (Obj.cells #[Value.string d2,Value.int IntKind.i64 n2,Value.int IntKind.i64 k2,Value.string l2] 132))=grow (W.drewN 0) #[Obj.cells #[Value.string d1,Value.int IntKind.i64 n1,Value.int IntKind.i64 k1,Value.string l1] 132,Obj.cells #[Value.string d2,Value.int IntKind.i64 n2,Value.int IntKind.i64 k2,Value.string l2] 132]:=by rw[alloc_eq_grow,alloc_eq_grow,grow_grow];rfl
 have hs:W.heap.size+1<((W.alloc (Obj.cells #[Value.string d1,Value.int IntKind.i64 n1,Value.int IntKind.i64 k1,Value.string l1] 132)).alloc (Obj.cells #[Value.string d2,Value.int IntKind.i64 n2,Value.int IntKind.i64 k2,Value.string l2] 132)).heap.size:=by show W.heap.size+1<((W.heap.push _).push _).size;simp
 have gA0: ∀n os,(grow (((W.alloc (Obj.cells #[Value.string d1,Value.int IntKind.i64 n1,Value.int IntKind.i64 k1,Value.string l1] 132)).alloc (Obj.cells #[Value.string d2,Value.int IntKind.i64 n2,Value.int IntKind.i64 k2,Value.string l2] 132)).drewN n) os).cell? ⟨W.heap.size,0,none⟩=some (Value.string d1):=cell_grown (by show W.heap.size<_;omega) (cell_of_row _ _ 0 _ _ _ hA)
 have gA1: ∀n os,(grow (((W.alloc (Obj.cells #[Value.string d1,Value.int IntKind.i64 n1,Value.int IntKind.i64 k1,Value.string l1] 132)).alloc (Obj.cells #[Value.string d2,Value.int IntKind.i64 n2,Value.int IntKind.i64 k2,Value.string l2] 132)).drewN n) os).cell? ⟨W.heap.size,1,none⟩=some (Value.int IntKind.i64 n1):=cell_grown (by show W.heap.size<_;omega) (cell_of_row _ _ 1 _ _ _ hA)
 have gA2: ∀n os,(grow (((W.alloc (Obj.cells #[Value.string d1,Value.int IntKind.i64 n1,Value.int IntKind.i64 k1,Value.string l1] 132)).alloc (Obj.cells #[Value.string d2,Value.int IntKind.i64 n2,Value.int IntKind.i64 k2,Value.string l2] 132)).drewN n) os).cell? ⟨W.heap.size,2,none⟩=some (Value.int IntKind.i64 k1):=cell_grown (by show W.heap.size<_;omega) (cell_of_row _ _ 2 _ _ _ hA)
 have gA3: ∀n os,(grow (((W.alloc (Obj.cells #[Value.string d1,Value.int IntKind.i64 n1,Value.int IntKind.i64 k1,Value.string l1] 132)).alloc (Obj.cells #[Value.string d2,Value.int IntKind.i64 n2,Value.int IntKind.i64 k2,Value.string l2] 132)).drewN n) os).cell? ⟨W.heap.size,3,none⟩=some (Value.string l1):=cell_grown (by show W.heap.size<_;omega) (cell_of_row _ _ 3 _ _ _ hA)
 have gB0: ∀n os,(grow (((W.alloc (Obj.cells #[Value.string d1,Value.int IntKind.i64 n1,Value.int IntKind.i64 k1,Value.string l1] 132)).alloc (Obj.cells #[Value.string d2,Value.int IntKind.i64 n2,Value.int IntKind.i64 k2,Value.string l2] 132)).drewN n) os).cell? ⟨W.heap.size+1,0,none⟩=some (Value.string d2):=cell_grown (by show W.heap.size+1<_;omega) (cell_of_row _ _ 0 _ _ _ hB)
 have gB1: ∀n os,(grow (((W.alloc (Obj.cells #[Value.string d1,Value.int IntKind.i64 n1,Value.int IntKind.i64 k1,Value.string l1] 132)).alloc (Obj.cells #[Value.string d2,Value.int IntKind.i64 n2,Value.int IntKind.i64 k2,Value.string l2] 132)).drewN n) os).cell? ⟨W.heap.size+1,1,none⟩=some (Value.int IntKind.i64 n2):=cell_grown (by show W.heap.size+1<_;omega) (cell_of_row _ _ 1 _ _ _ hB)
 have gB2: ∀n os,(grow (((W.alloc (Obj.cells #[Value.string d1,Value.int IntKind.i64 n1,Value.int IntKind.i64 k1,Value.string l1] 132)).alloc (Obj.cells #[Value.string d2,Value.int IntKind.i64 n2,Value.int IntKind.i64 k2,Value.string l2] 132)).drewN n) os).cell? ⟨W.heap.size+1,2,none⟩=some (Value.int IntKind.i64 k2):=cell_grown (by show W.heap.size+1<_;omega) (cell_of_row _ _ 2 _ _ _ hB)
 have gB3: ∀n os,(grow (((W.alloc (Obj.cells #[Value.string d1,Value.int IntKind.i64 n1,Value.int IntKind.i64 k1,Value.string l1] 132)).alloc (Obj.cells #[Value.string d2,Value.int IntKind.i64 n2,Value.int IntKind.i64 k2,Value.string l2] 132)).drewN n) os).cell? ⟨W.heap.size+1,3,none⟩=some (Value.string l2):=cell_grown (by show W.heap.size+1<_;omega) (cell_of_row _ _ 3 _ _ _ hB)
 replace hx: ∃os',((W.alloc (Obj.cells #[Value.string d1,Value.int IntKind.i64 n1,Value.int IntKind.i64 k1,Value.string l1] 132)).alloc (Obj.cells #[Value.string d2,Value.int IntKind.i64 n2,Value.int IntKind.i64 k2,Value.string l2] 132))=grow (W.drewN 0) os':=⟨_,hx⟩
 clear hA hB hs
 generalize ((W.alloc (Obj.cells #[Value.string d1,Value.int IntKind.i64 n1,Value.int IntKind.i64 k1,Value.string l1] 132)).alloc (Obj.cells #[Value.string d2,Value.int IntKind.i64 n2,Value.int IntKind.i64 k2,Value.string l2] 132))=w1 at*
 go_quiet_grown ((first|(go_at_call 131;exact Calls.grown_of (c3 _))|(go_at_call 129;first|exact Calls.grown_of (c1 _)|exact Calls.grown_of (c2 _))))
 go_wp2
 go_ret
 obtain⟨os',hx⟩:=hx
 refine⟨rfl,nq,os'++osq,?_⟩
 subst hx
 simp[grow,World.drewN,Array.append_assoc]
end Go.Av
