/-
  Rows of integers copied, and parts of them put in place of others: as lists.
-/
import Derived.Test.YtkdbjocpkfeckaaGreatDoorAvTyp
import Derived.Test.YtkdbjocpkfeckaaGreatDoorAvPrimB9
import Derived.Lib.SliceRun
import Derived.Shelf.Spec.SlicesInsertGrow
import Derived.BigRegion
import Derived.RegionTactic
import Derived.Deep.RegionLaw
import Derived.Test.YtkdbjocpkfeckaaGreatDoorAvWa
import Derived.Lib.AppendZeros
set_option maxRecDepth 100000
set_option linter.unusedVariables false
set_option linter.unusedSimpArgs false
set_option linter.unusedSectionVars false
noncomputable section
namespace Go.Av
end Go.Av
end
section
namespace Go.Av
open Go.Proofs Go.Shelf Go.RowKit Go.Lib
theorem qi3 {w:World} {b:Nat} {cs:List Value} (h: ∀j v,cs[j]? =some v->w.cell? ⟨b,j,none⟩=some v) {j:Nat} (hj:j<cs.length):(w.cell? ⟨b,j,none⟩).isSome=true:=by
 rw[h j _ (Ya hj)];rfl
theorem qdp:Tryz.prog.underlying 22=some (.slice 3):=by kernel_rfl
theorem qiA:(Tryz.prog.info? 3).map (fun i=>(i.zero,i.size,i.bytes))=some (some (Value.int IntKind.i64 0),1,8):=by kernel_rfl
theorem ql7:(Tryz.prog.info? 3).map (·.size)=some 1:=by kernel_rfl
theorem qls (W:World) (b o k d:Nat) (a:Option Addr) (ha:0<k->a=some ⟨b,o,none⟩) (hc: ∀j,j<k->(W.cell? ⟨b,o+j,none⟩).isSome=true) (hf: ∀j,j<k->W.frozen? ⟨b,o+j,none⟩=false) (ty:TypeId):
 (Builtin.clear_ #[22] ty #[.slice a k d]).run Tryz.prog W= .ok (.tuple #[]) (W.setCells b o (List.replicate k (.int .i64 0))):=by
 by_cases h:0<k
 ·rw[ha h];exact Lib.run_clear_slice W 22 3 ty _ qdp (fun w=>Tryz.zeroValue3 w) rfl rfl b o k d h hc hf
 obtain rfl:k=0:=by omega
 have hu:=run_underlying (P:=Tryz.prog) qdp;cases a<;>simp[Builtin.clear_,hu,World.setCells,Tryz.zeroValue3,Builtin.zeroCells,storeCells]
theorem qlU (W:World) (b o dl dc m vc:Nat) (d va:Option Addr) (vs:List Value) (hm:vs.length=m) (hd:m<=dl) (hda:0<m->d=some ⟨b,o,none⟩)
 (hv:0<m-> ∃a,va=some a/\ ∀j v,vs[j]? =some v->W.cell? (a.add j)=some v)
 (hc: ∀j,j<m->(W.cell? ⟨b,o+j,none⟩).isSome=true) (hf: ∀j,j<m->W.frozen? ⟨b,o+j,none⟩=false) (h1: ∀v∈vs,v.oneCell'=true) (ty:TypeId):
 (Builtin.copy_ #[22,22] ty #[.slice d dl dc,.slice va m vc]).run Tryz.prog W= .ok (goInt m) (W.setCells b o vs):=by
 by_cases h:0<m
 ·obtain⟨a,rfl,ha⟩:=hv h;rw[hda h];have:=run_copy_cells (P:=Tryz.prog) W 22 22 ty 3 b o dl dc a m vc vs qdp ql7 (by rw[hm];simp only[Nat.min_def];split<;>omega) ha (by rw[hm];exact hc) (by rw[hm];exact hf) h1;rw[hm]at this;exact this
 obtain rfl:m=0:=by omega
 obtain rfl:=List.eq_nil_of_length_eq_zero hm;exact run_copy_none (P:=Tryz.prog) W 22 22 ty 3 d va dl dc 0 vc qdp ql7 (by simp[Nat.min_def])
set_option maxHeartbeats 4000000 in
theorem qrE (b n c i:Nat) (cs:List Value) (w:World) (hi:i<n) (hnc:n<=c) (hc63:c<=9223372036854775807) (hcl:cs.length=n)
 (hcs: ∀j v,cs[j]? =some v->w.cell? ⟨b,j,none⟩=some v) (hfz: ∀j,w.frozen? ⟨b,j,none⟩=false):
 Calls Tryz.prog 173 #[.slice (some ⟨b,0,none⟩) n c,.int .i64 i,.int .i64 n,.slice none 0 0] w fun e w'=>e= .returned (.slice (some ⟨b,0,none⟩) i c)/\w'=w.setCells b i (List.replicate (n-i) (.int .i64 0)):=by
 have h1: ¬((i:Int)=(n:Int)):=by omega
 have h2:(i:Int)<=(n:Int):=by omega
 have h3: ¬(c=i):=by omega
 have h4:(i:Int)<(n:Int):=by omega
 have u22:=qdp;have i3:=qiA;have hsrc:Src Tryz.prog 1 22 (.slice none 0 0) 0 [] w:=Src.ofNil w u22 0
 have hcl: ∀ty d,(Builtin.clear_ #[22] ty #[.slice (some ⟨b,i,none⟩) (n-i) d]).run Tryz.prog w= .ok (.tuple #[]) (w.setCells b i (List.replicate (n-i) (.int .i64 0))):=fun ty d=>
  qls w b i (n-i) d _ (fun _=>rfl) (fun t ht=>qi3 hcs (by omega)) (fun t ht=>hfz _) ty
 go_enter Tryz.func173,Tryz.ntmps173
 go_wp2_with (at_builtin;refine wpList_append_room1 _ rfl _ _ 22 22 rfl 3 _ _ u22 i3 b 0 i c rfl _ rfl 0 [] hsrc (by omega) (fun j hj=>by simp at hj) (fun j hj=>by simp at hj) ?_)
 go_wp2_with (simp only[World.setCells,hcl])
 go_ret
 exact⟨rfl,rfl⟩
set_option maxHeartbeats 4000000 in
theorem qrz (b n c i m vc:Nat) (a:Addr) (cs vs:List Value) (w:World) (hi:i+m=n) (hm:0<m) (hnc:n<=c) (hc63:c<=9223372036854775807) (hcl:cs.length=n) (hvl:vs.length=m)
 (hcs: ∀j v,cs[j]? =some v->w.cell? ⟨b,j,none⟩=some v) (hfz: ∀j,w.frozen? ⟨b,j,none⟩=false) (hvs: ∀j v,vs[j]? =some v->w.cell? (a.add j)=some v) (h1v: ∀v∈vs,v.oneCell'=true):
 Calls Tryz.prog 173 #[.slice (some ⟨b,0,none⟩) n c,.int .i64 i,.int .i64 n,.slice (some a) m vc] w fun e w'=>e= .returned (.slice (some ⟨b,0,none⟩) n c)/\w'=w.setCells b i vs:=by
 have h1: ¬((i:Int)=(n:Int)):=by omega
 have h2:(i:Int)<=(n:Int):=by omega
 have h3: ¬(c=i):=by omega
 have h4: ¬((i:Int)+(m:Int)<(n:Int)):=by omega
 have h5: ¬(i+m<n):=by omega
 have u22:=qdp;have i3:=qiA;have hsrc:Src Tryz.prog 1 22 (.slice (some a) m vc) m vs w:=Src.ofSlice w u22 a m vc vs (by omega) (fun j u hj=>hvs j u hj) h1v
 go_enter Tryz.func173,Tryz.ntmps173
 go_wp2_with (at_builtin;refine wpList_append_room1 _ rfl _ _ 22 22 rfl 3 _ _ u22 i3 b 0 i c rfl _ rfl m vs hsrc (by omega) (fun j hj=>by rw[Nat.zero_add];exact qi3 hcs (by omega)) (fun j hj=>hfz _) ?_)
 go_ret
 exact⟨rfl,rfl⟩
set_option maxHeartbeats 8000000 in
theorem rep_M (b j d c i m vc:Nat) (va:Option Addr) (cs vs:List Value) (w:World) (hi:i+m<=j) (hij:i<j) (hd:0<d) (hnc:j+d<=c) (hc63:c<=9223372036854775807) (hcl:cs.length=j+d) (hvl:vs.length=m)
 (hcs: ∀k v,cs[k]? =some v->w.cell? ⟨b,k,none⟩=some v) (hfz: ∀k,w.frozen? ⟨b,k,none⟩=false) (h1c: ∀v∈cs,v.oneCell'=true)
 (hvs:0<m-> ∃a,va=some a/\ ∀k v,vs[k]? =some v->w.cell? (a.add k)=some v) (h1v: ∀v∈vs,v.oneCell'=true):
 Calls Tryz.prog 173 #[.slice (some ⟨b,0,none⟩) (j+d) c,.int .i64 i,.int .i64 j,.slice va m vc] w fun e w'=>e= .returned (.slice (some ⟨b,0,none⟩) (i+m+d) c)/\
  w'=((w.drew.setCells b i vs).drew.setCells b (i+m) (cs.drop j)).setCells b (i+m+d) (List.replicate (j+d-(i+m+d)) (.int .i64 0)):=by
 have h1: ¬((i:Int)=(j:Int)):=by omega
 have h2:(i:Int)<=(j:Int):=by omega
 have h3: ¬(c=i):=by omega
 have h4: ¬((j:Int)=(j:Int)+(d:Int)):=by omega
 have h5: ¬(c=i+m):=by omega
 have h6: ¬(c=j):=by omega
 have h7:(i:Int)+(m:Int)<=(j:Int):=by omega
 have h8:(0:Int)<=(i:Int)+(m:Int):=by omega
 have h9:((i:Int)+(m:Int)).toNat=i+m:=by omega
 have hw1:IntKind.i64.wrap ((i:Int)+(m:Int))=(i:Int)+(m:Int):=by rw[IntKind.wrap_i64];omega
 have hb4:(j:Int)<=(j:Int)+(d:Int):=by omega
 have hb3:(i:Int)+(m:Int)<=(i:Int)+(m:Int)+(d:Int):=by omega
 have u22:=qdp;have i3:=qiA
 have hdl:(cs.drop j).length=d:=by rw[YJ,hcl];omega
 have isS: ∀k,k<j+d->(w.cell? ⟨b,k,none⟩).isSome=true:=fun k hk=>qi3 hcs (by omega)
 obtain⟨W1,hW1⟩: ∃W1,W1=w.drew.setCells b i vs:=⟨_,rfl⟩
 have isS1: ∀k,k<j+d->(W1.cell? ⟨b,k,none⟩).isSome=true:=fun k hk=>by
  rw[hW1];exact isSome_setCells b vs i w.drew (fun t ht=>isS (i+t) (by omega)) k (isS k hk)
 have fz1: ∀k,W1.frozen? ⟨b,k,none⟩=false:=fun k=>by rw[hW1,World.frozen?_setCells];exact hfz k
 have hcp1: ∀ty dc,(Builtin.copy_ #[22,22] ty #[.slice (some ⟨b,i,none⟩) (i+m+d-i) dc,.slice va m vc]).run Tryz.prog w.drew= .ok (goInt m) W1:=fun ty dc=>by
  rw[hW1];exact qlU w.drew b i (i+m+d-i) dc m vc _ va vs hvl (by omega) (fun _=>rfl) hvs (fun t ht=>isS (i+t) (by omega)) (fun t ht=>hfz _) h1v ty
 obtain⟨W2,hW2⟩: ∃W2,W2=W1.drew.setCells b (i+m) (cs.drop j):=⟨_,rfl⟩
 have isS2: ∀k,k<j+d->(W2.cell? ⟨b,k,none⟩).isSome=true:=fun k hk=>by
  rw[hW2];exact isSome_setCells b (cs.drop j) (i+m) W1.drew (fun t ht=>isS1 (i+m+t) (by omega)) k (isS1 k hk)
 have fz2: ∀k,W2.frozen? ⟨b,k,none⟩=false:=fun k=>by rw[hW2,World.frozen?_setCells];exact fz1 k
 have hcp2: ∀ty dc sc,(Builtin.copy_ #[22,22] ty #[.slice (some ⟨b,i+m,none⟩) d dc,.slice (some ⟨b,j,none⟩) d sc]).run Tryz.prog W1.drew= .ok (goInt d) W2:=fun ty dc sc=>by
  rw[hW2]
  exact qlU W1.drew b (i+m) d dc d sc _ _ (cs.drop j) hdl (Nat.le_refl _) (fun _=>rfl) (fun _=>⟨⟨b,j,none⟩,rfl,fun k v hk=>by
   rw[Addr.add_lit];show W1.cell? ⟨b,j+k,none⟩=some v;rw[hW1,World.cell?_setCells_out b _ _ _ _ (fun _ _=>by show j+k<i\/i+vs.length<=j+k;omega)]
   exact hcs (j+k) v (by rwa [YI]at hk)⟩) (fun t ht=>isS1 (i+m+t) (by omega)) (fun t ht=>fz1 _) (fun v hv=>h1c v (List.mem_of_mem_drop hv)) ty
 have hclr: ∀ty e dc,(0<j+d-(i+m+d)->e=some ⟨b,i+m+d,none⟩)->(Builtin.clear_ #[22] ty #[.slice e (j+d-(i+m+d)) dc]).run Tryz.prog W2= .ok (.tuple #[]) (W2.setCells b (i+m+d) (List.replicate (j+d-(i+m+d)) (.int .i64 0))):=fun ty e dc he=>
  qls W2 b (i+m+d) _ dc e he (fun t ht=>isS2 (i+m+d+t) (by omega)) (fun t ht=>fz2 _) ty
 clear isS2 fz2 isS1 fz1;subst hW2;subst hW1
 have mixed:Tryz.prog.follows .mixedOrders=true:=by kernel_rfl
 go_enter Tryz.func173,Tryz.ntmps173
 go_wp2
 go_region
 go_wp2_with (simp only[hcp1])
 go_region_law (refine step_copy_runI rfl _ _ 22 22 rfl _ _ (by simp[Act.eval,Act.put]) (by simp[Act.eval,Act.put]) (hcp2 _ _ _) ?_)
 go_wp2
 ·rw[hclr 0 (some ⟨b,0,none⟩) 0 (fun h=>by omega)]
  go_wp2
  go_ret
  have hc:c=i+m+d:=by assumption
  exact⟨by rw[hc];rfl,rfl⟩
 go_ret
 exact⟨rfl,rfl⟩
set_option maxHeartbeats 4000000 in
theorem rep_I (base:Option Addr) (n c i:Nat) (v:Value) (w:World) (Q:Ending->World->Prop) (hi:i<=n) (hnc:n<=c) (hc63:c<=9223372036854775807) (hb:base=none->n=0)
 (h:Calls Tryz.prog 232 #[.slice base n c,.int .i64 i,v] w fun e w'=>(∃x,e= .returned x)/\Q e w'):Calls Tryz.prog 173 #[.slice base n c,.int .i64 i,.int .i64 i,v] w Q:=by
 have h2:(i:Int)<=(n:Int):=by omega
 cases base with
 |none=>
  obtain rfl:=hb rfl
  obtain rfl:i=0:=by omega
  go_enter Tryz.func173,Tryz.ntmps173
  go_wp2_with (go_at_call 232;refine h.mono ?_;rintro e w' ⟨⟨x,rfl⟩,hq⟩)
  exact hq
 |some a=>
  go_enter Tryz.func173,Tryz.ntmps173
  go_wp2_with (go_at_call 232;refine h.mono ?_;rintro e w' ⟨⟨x,rfl⟩,hq⟩)
  all_goals exact hq
section
variable {F:Nat->Prop} {nu:Nat->Option Nat} {A:Heap} {w:World}
theorem qn7 (i:Inv F nu A w) {b rb n cap mm:Nat} {e:TypeId} {ns xs:List Int} (hb:nu b=some rb) (hA:A[b]? =some (.cells (jM ns))) (hn:ns.length=n) (hc:n<=cap) (hsh:w.shape? rb=some (e,mm)) (hmm:cap*1<=mm) (hx:cap<=9223372036854775807)
 {k j m vc:Nat} {va:Option Addr} (hkj:k<j) (hjn:j<=n) (hxm:xs.length=m) (hm:(m=0/\va=none/\vc=0)\/m=j-k) (hv:0<m-> ∃a,va=some a/\ ∀t v,(qB xs)[t]? =some v->w.cell? (a.add t)=some v):
 Calls Tryz.prog 173 #[.slice (some ⟨rb,0,none⟩) n cap,.int .i64 k,.int .i64 j,.slice va m vc] w fun e' w'=> ∃x F' nu',e'= .returned x/\Stp F nu A w F' nu' (A.set b .dead++[.cells (jM (ns.take k++xs++ns.drop j))]) w'/\R F' nu' w' (.oslice A.length (ns.take k++xs++ns.drop j).length 1) x:=by
 obtain⟨c0,e0,hh,hl,hcv⟩:=row_of i hb hA
 obtain⟨rfl,rfl⟩:e=e0/\mm=c0.size:=by
  rw[yj hh]at hsh;simp only[ZI,ZP]at hsh;exact⟨hsh.1.symm,hsh.2.symm⟩
 have hlv:(qB ns).length=n:=by simpa[qB]using hn
 have hvl:(qB xs).length=m:=by simpa[qB]using hxm
 have hcs: ∀t v,(qB ns)[t]? =some v->w.cell? ⟨rb,t,none⟩=some v:=by
  intro t v ht;have htl:=(Yb.1 ht).1;rw[cell_of_row hh,hcv t (by omega),ht]
 have hfz: ∀t,w.frozen? ⟨rb,t,none⟩=false:=fun t=>frozen_of_row hh _
 have hms:(ns.take k++xs++ns.drop j).length=k+m+(n-j):=by simp;omega
 have hat: ∀t,t<k+m+(n-j)->(qB (ns.take k++xs++ns.drop j))[t]? =if t<k then(qB ns)[t]? else if t<k+m then(qB xs)[t-k]? else(qB ns)[t-(k+m)+j]? :=by
  intro t ht;simp only[qB,YA]
  have e1:(ns.take k).length=k:=by simp;omega
  by_cases h1:t<k
  ·rw[if_pos h1,Yz,Yf (by omega),List.getElem?_take_of_lt h1]
  rw[if_neg h1];by_cases h2:t<k+m
  ·rw[if_pos h2,Yz,Yo (by omega),e1,Yf (by omega)]
  rw[if_neg h2,Yo (by simp;omega),Yq,e1,hxm,YI,Nat.add_comm j]
 by_cases hjn2:j=n
 ·subst hjn2;rcases hm with⟨m0,hva,hvc⟩|hmj
  ·subst m0 hva hvc;refine Calls.mono (qrE rb j cap k (qB ns) w hkj hc hx hlv hcs hfz) ?_;rintro e' w' ⟨rfl,rfl⟩;obtain⟨c2,rw2,hs2,hc2⟩:=zK rb e (List.replicate (j-k) (.int .i64 0)) k w c0 hh (by simp;omega)
   obtain⟨nu',st,hR⟩:=qdN i hb hA hh rw2 hs2 hms (cap:=cap) (by omega) (by omega) hx (fun t ht=>by
    rw[hms]at ht
    rw[hat t ht,if_pos (show t<k by omega),hc2 t,if_neg (by omega),hcv t (by omega)])
   have e2:k+0+(j-j)=k:=by omega
   rw[hms];rw[e2]at hR⊢;exact⟨_,_,nu',rfl,st,hR⟩
  obtain⟨a,rfl,ha⟩:=hv (by omega);refine Calls.mono (qrz rb j cap k m vc a (qB ns) (qB xs) w (by omega) (by omega) hc hx hlv hvl hcs hfz ha qam) ?_;rintro e' w' ⟨rfl,rfl⟩;obtain⟨c2,rw2,hs2,hc2⟩:=zK rb e (qB xs) k w c0 hh (by omega)
  obtain⟨nu',st,hR⟩:=qdN i hb hA hh rw2 hs2 hms (cap:=cap) (by omega) (by omega) hx (fun t ht=>by
   rw[hms]at ht;rw[hat t ht,hc2 t,hvl];by_cases h1:t<k
   ·rw[if_neg (by omega),if_pos h1,hcv t (by omega)]
   rw[if_pos (by omega),if_neg h1,if_pos (by omega)])
  have e2:k+m+(j-j)=j:=by omega
  rw[hms];rw[e2]at hR⊢;exact⟨_,_,nu',rfl,st,hR⟩
 obtain⟨d,rfl⟩: ∃d,n=j+d:=⟨n-j,by omega⟩
 have e2:k+m+(j+d-j)=k+m+d:=by omega
 rw[e2]at hms hat
 have hmj:k+m<=j:=by omega
 refine Calls.mono (rep_M rb j d cap k m vc va (qB ns) (qB xs) w hmj hkj (by omega) hc hx hlv hvl hcs hfz qam hv qam) ?_;rintro e' w' ⟨rfl,rfl⟩;obtain⟨c2,rw2,hs2,hc2⟩:=zK rb e (qB xs) k w.drew c0 hh (by omega);obtain⟨c3,rw3,hs3,hc3⟩:=zK rb e ((qB ns).drop j) (k+m) _ c2 rw2.drew.at_ (by rw[YJ,hlv];omega);obtain⟨c4,rw4,hs4,hc4⟩:=zK rb e (List.replicate (j+d-(k+m+d)) (.int .i64 0)) (k+m+d) _ c3 rw3.at_ (by simp only[List.length_replicate];omega)
 obtain⟨nu',st,hR⟩:=qdN i hb hA hh ((rw2.drew.trans rw3).trans rw4).ofDrew (hs4.trans (hs3.trans hs2)) hms (cap:=cap) (by omega) (by omega) hx (fun t ht=>by
  rw[hms]at ht;rw[hat t ht,hc4 t,if_neg (by omega),hc3 t,YJ,hlv];by_cases h1:t<k
  ·rw[if_neg (by omega),if_pos h1,hc2 t,if_neg (by omega),hcv t (by omega)]
  rw[if_neg h1];by_cases h2:t<k+m
  ·rw[if_neg (by omega),if_pos h2,hc2 t,if_pos (by omega)]
  rw[if_pos (by omega),if_neg h2,YI,Nat.add_comm j])
 rw[hms];exact⟨_,_,nu',rfl,st,hR⟩
theorem qrj {b n:Nat} {v:Value} (h:R F nu w (.oslice b n 1) v\/(R F nu w (.gslice b n 1) v/\0<n)): ∃rb cap e mm,v= .slice (some ⟨rb,0,none⟩) n cap/\nu b=some rb/\n<=cap/\w.shape? rb=some (e,mm)/\cap*1<=mm/\cap<=9223372036854775807:=by
 rcases h with h|⟨h,hp⟩
 ·cases h with
  |oslice _ _ _ rb cap e m hb hc hs hm hx=>exact⟨rb,cap,e,m,rfl,hb,hc,hs,hm,hx⟩
 cases h with
 |gslice0=>exact absurd hp (by omega)
 |gslice _ _ _ rb cap e m hp hb hc hs hm hx=>exact⟨rb,cap,e,m,rfl,hb,hc,hs,hm,hx⟩
end
end Go.Av
end
noncomputable section
namespace Go.Av
open Go.Proofs Go.Shelf Go.RowKit Go.Lib
theorem args4 {F:Nat->Prop} {nu:Nat->Option Nat} {w:World} {a b c d:AV} {vs:Array Value} (h:RL F nu w [a,b,c,d] vs): ∃x y z u,vs=#[x,y,z,u]/\R F nu w a x/\R F nu w b y/\R F nu w c z/\R F nu w d u:=by
 obtain⟨x,ws,rfl,hx,h1⟩:=h.cons_inv;obtain⟨y,w1,e1,hy,h2⟩:=h1.cons_inv
 obtain rfl:ws=y::w1:=by simpa using e1
 obtain⟨z,w2,e2,hz,h3⟩:=h2.cons_inv
 obtain rfl:w1=z::w2:=by simpa using e2
 obtain⟨u,w3,e3,hu,h4⟩:=h3.cons_inv
 obtain rfl:w2=u::w3:=by simpa using e3
 obtain rfl:=h4.nil_inv;exact⟨x,y,z,u,rfl,hx,hy,hz,hu⟩
def repX (v:AV) (b:Nat) (A:Heap):Option (List Int):=match v with
 | .nilslice=>some []
 | .slice vb 0 m _ 1=>if vb=b\/m=0 then none else match A[vb]? with
   |some (.cells vs)=>match qc9 vs with
    |some xs=>if xs.length=m then some xs else none
    |none=>none
   |_=>none
 | .fslice m vs=>match qc9 vs with
   |some xs=>if xs.length=m/\0<m then some xs else none
   |none=>none
 |_=>none
theorem qqb {F:Nat->Prop} {nu:Nat->Option Nat} {A:Heap} {w:World} (i:Inv F nu A w) {v:AV} {b:Nat} {xs:List Int} (h:repX v b A=some xs) {vv:Value} (hv:R F nu w v vv):
 ∃va m vc,vv= .slice va m vc/\xs.length=m/\(m=0->va=none/\vc=0)/\(0<m-> ∃a,va=some a/\ ∀t v,(qB xs)[t]? =some v->w.cell? (a.add t)=some v):=by
 unfold repX at h;split at h
 ·obtain rfl:=Ye h;cases hv
  exact⟨none,0,0,rfl,rfl,fun _=>⟨rfl,rfl⟩,fun h=>by omega⟩
 ·rename_i vb m cc;split at h
  ·cases h
  rename_i hne;split at h
  ·rename_i vs hA;split at h
   ·rename_i xs' hxs;split at h
    ·rename_i hm;obtain rfl:=Ye h;obtain rfl:=qbU hxs
     cases hv with
     |slice _ _ _ _ _ rv hrv hvc=>
      obtain⟨c1,e1,hh1,hl1,hcv1⟩:=row_of i hrv hA;refine⟨_,_,_,rfl,hm,fun h=>by omega,fun _=>⟨_,rfl,fun t v ht=>?_⟩⟩;have htl:=(Yb.1 ht).1;rw[Addr.add_lit,cell_of_row hh1,Nat.zero_add,hcv1 t (by simpa[qB]using htl),ht]
    cases h
   cases h
  cases h
 ·rename_i m vs;split at h
  ·rename_i xs' hxs;split at h
   ·rename_i hm;obtain rfl:=Ye h;obtain rfl:=qbU hxs;generalize hcs:jM xs'=cs0 at hv
    cases hv with
    |fslice0=>omega
    |fslice n cs ad cap vs hn hF hl hc hR=>
     subst hcs;refine⟨_,_,_,rfl,hm.1,fun h=>by omega,fun _=>⟨ad,rfl,fun t v ht=>?_⟩⟩;have htl:=(Yb.1 ht).1
     have htx:t<xs'.length:=by simpa[qB]using htl
     have hvl:t<vs.length:=by rw[hl];simpa[jM]using htx
     have h1:(jM xs')[t]? =some (.int .i64 xs'[t]):=by simp[jM,htx]
     have h2:vs[t]? =some vs[t]:=Ya hvl;have:=(hR t _ _ h1 h2).int_inv;rw[hc t _ h2,this,<-ht];simp[qB,htx]
   cases h
  cases h
 cases h
def repA (args:List AV) (A:Heap):Option (AV×Heap):=match args with
 |[.oslice b n 1,.int .i64 i,.int .i64 j,v]=>
  if i=j then(if 0<=i/\i<=n/\n<=100000 then qpe [.oslice b n 1,.int .i64 i,v] A else none)
  else match A[b]?,repX v b A with
   |some (.cells cs),some xs=>match qc9 cs with
    |some ns=>if ns.length=n/\0<=i/\i<j/\j<=n/\(xs.length=0\/(xs.length:Int)=j-i)then some (.oslice A.length (ns.take i.toNat++xs++ns.drop j.toNat).length 1,A.set b .dead++[.cells (jM (ns.take i.toNat++xs++ns.drop j.toNat))])else none
    |none=>none
   |_,_=>none
 |_=>none
theorem ql2 {args:List AV} {A A':Heap} {v:AV} (h:qpe args A=some (v,A')):qf Tryz.prog (.fn 232) args A v A':=qqh Tryz.lays2_21 (enters_of (by kernel_rfl)) h
theorem qqE:Enters Tryz.prog 232:=enters_of (by kernel_rfl)
theorem qqu:Enters Tryz.prog 173:=enters_of (by kernel_rfl)
theorem qqn {args:List AV} {A A':Heap} {v:AV} (h:repA args A=some (v,A')):qf Tryz.prog (.fn 173) args A v A':=by
 intro F nu w vs i hargs;refine .inl ⟨qqu,?_⟩;unfold repA at h;split at h
 ·rename_i b n i0 j0 vx;obtain⟨s,k,j,u,rfl,hs,hk,hj,hu⟩:=args4 hargs;obtain rfl:=hk.int_inv;obtain rfl:=hj.int_inv;obtain⟨rb,cap,e,mm,rfl,hb,hc,hsh,hm,hx⟩:=qrj (.inl hs);split at h
  ·rename_i hij;subst hij;split at h
   ·rename_i hin;obtain⟨k,rfl⟩: ∃k:Nat,i0=k:=⟨i0.toNat,by omega⟩;refine rep_I _ n cap k u w _ (by omega) hc hx (fun h=>by cases h) ?_
    have hq:RL F nu w [.oslice b n 1,.int .i64 k,vx] #[.slice (some ⟨rb,0,none⟩) n cap,.int .i64 k,u]:=by
     refine⟨rfl,fun t a v ha hv=>?_⟩
     match t,ha,hv with
     |0,ha,hv=>obtain rfl:=Ye ha;obtain rfl:=Ye hv;exact hs
     |1,ha,hv=>obtain rfl:=Ye ha;obtain rfl:=Ye hv;exact .int _ _
     |2,ha,hv=>obtain rfl:=Ye ha;obtain rfl:=Ye hv;exact hu
     |t+3,ha,_=>exact absurd ha (by simp)
    refine((ql2 h).calls qqE i hq).mono ?_;rintro e' w' ⟨x,F',nu',h1,h2,h3⟩;exact⟨⟨x,h1⟩,x,F',nu',h1,h2,h3⟩
   cases h
  rename_i hij;split at h
  ·rename_i cs xs hA hxs;split at h
   ·rename_i ns hns;split at h
    ·rename_i hcond;obtain⟨hn,hi0,hij2,hjn,hxl⟩:=hcond;simp only[ZI,ZP]at h;obtain⟨rfl,rfl⟩:=h;obtain rfl:=qbU hns;obtain⟨k,rfl⟩: ∃k:Nat,i0=k:=⟨i0.toNat,by omega⟩;obtain⟨j,rfl⟩: ∃k:Nat,j0=k:=⟨j0.toNat,by omega⟩;obtain⟨va,m,vc,rfl,hxm,hm0,hv⟩:=qqb i hxs hu
     refine(qn7 i hb hA hn hc hsh hm hx (k:=k) (j:=j) (by omega) (by omega) hxm (by
      by_cases z:m=0
      ·exact .inl ⟨z,hm0 z⟩
      exact .inr (by omega)) hv).mono ?_
     rintro e' w' ⟨x,F',nu',h1,h2,h3⟩;exact⟨x,F',nu',h1,h2,h3⟩
    cases h
   cases h
  cases h
 cases h
end Go.Av
end
