/-
  A row to which a literal with nil rows in it is appended: it is handed on as a list.
-/
import Derived.Test.YtphbhegcojmijaaGreatDoorAvPq
import Derived.Test.YtphbhegcojmijaaGreatDoorAvSq
noncomputable section
namespace Go.Av
set_option linter.unusedSectionVars false
variable [Glob] {α:Type} {P:Program} {A:Heap} {S:List Nat} {E:Enc α} {k:Nat}
theorem Fz.mix {d:Nat} {l:List α} {cs:List AV} {b:Nat} (hS:S.contains b=true) (hA:A[b]? =some (.cells (l.flatMap E.c++cs))) (hk:E.k=k) (hcs:cs.length=k) (hd:E.dep≤d) (hst: ∀c∈cs,Still d c):Fz A S (d+1) (.oslice b (l.length+1) k) (.fslice (l.length+1) (l.flatMap E.c++cs)):=by
 refine Fz.lito hS hA ?_
 have e:(l.flatMap E.c++cs).take ((l.length+1)*k)=l.flatMap E.c++cs:=by
  refine List.take_of_length_le ?_
  rw[List.length_append,E.flat_len,hk,hcs,Nat.add_mul,Nat.one_mul]
  exact Nat.le_refl _
 rw[e]
 refine FzL.still fun c hc=>?_
 rcases List.mem_append.1 hc with h|h
 ·exact E.flat_still l hd c h
 ·exact hst c h
theorem WkL.append {as bs cs ds:List AV} (h:WkL as bs) (k:WkL cs ds):WkL (as++cs) (bs++ds):=by
 refine⟨by rw[List.length_append,List.length_append,h.1,k.1],fun j a b ha hb=>?_⟩
 have hl:=h.1
 rcases Nat.lt_or_ge j as.length with hj|hj
 ·rw[List.getElem?_append_left hj]at ha
  rw[List.getElem?_append_left (by omega)]at hb
  exact h.2 j a b ha hb
 ·rw[List.getElem?_append_right hj]at ha
  rw[List.getElem?_append_right (by omega),←hl]at hb
  exact k.2 _ a b ha hb
theorem Wk.mix {l:List α} {x:α} {cs:List AV} (h:WkL cs (E.c x)):Wk (.fslice (l.length+1) (l.flatMap E.c++cs)) (vl E (l++[x])):=by
 have hw:WkL (l.flatMap E.c++cs) ((l++[x]).flatMap E.c):=by
  rw[List.flatMap_append]
  refine WkL.append (WkL.same _) ?_
  simpa using h
 intro F nu w v hv
 have hn:(l++[x]).length=l.length+1:=by simp
 unfold vl
 rw[hn]
 cases hv with
 |fslice _ _ ad cap vs hc hF hl hcell hR=>
  have hlen:vs.length=((l++[x]).flatMap E.c).length:=by rw[hl,hw.1]
  refine .fslice _ _ ad cap vs hc hF hlen hcell fun i a u ha hu=>?_
  have hi:i<(l.flatMap E.c++cs).length:=by
   have:=(List.getElem?_eq_some_iff.1 ha).1
   rw[hw.1];exact this
  exact hw.2 i _ a (List.getElem?_eq_getElem hi) ha F nu w u (hR i _ u (List.getElem?_eq_getElem hi) hu)
theorem qxb {P:Program} {t e:TypeId} {k b:Nat} (T:SlT P t e (k+1) b) {A:Heap}:(Obl.run [] (jL P [t,t] .nilslice .nilslice) A .nilslice A false).Holds P:=by
 rw[Obl.Holds,T.append (Nat.succ_pos k) _ _ (by simp)]
 exact⟨[],rfl,rfl⟩
end Go.Av
end
noncomputable section
namespace Go.Av
set_option linter.unusedSectionVars false
variable [Glob]
def quoI (k:IntKind) (a b:Int):Option Int:=if b=0 then none else some (k.wrap (a.tdiv b))
def qu3 (_:IntKind) (a b:Int):Option Int:=if b=0 then none else some (a.tmod b)
theorem qwL {P:Program} {t:TypeId} {ox oy:Operand} {k:IntKind} {a b q:Int} (h:qu3 k a b=some q):(Obl.done (.opt (qiI P .rem t ox oy (.int k a) (.int k b))) (.int k q)).Holds P:=by
 unfold qu3 at h
 split at h
 ·cases h
 ·rename_i hb
  obtain rfl:=Option.some.inj h
  show Pg.opt _=_
  simp[qiI,qj7,qpe,hb,Pg.opt]
end Go.Av
end
