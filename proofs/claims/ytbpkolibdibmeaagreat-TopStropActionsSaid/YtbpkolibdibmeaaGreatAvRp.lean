/-
  Rows of integers copied, and parts of them put in place of others: as lists.
-/
import Derived.Test.YtbpkolibdibmeaaGreatAvTyp
import Derived.Test.YtbpkolibdibmeaaGreatAvPrimA1
import Derived.Lib.SliceRun
import Derived.Shelf.Spec.SlicesInsertGrow
import Derived.BigRegion
import Derived.RegionTactic
import Derived.Deep.RegionLaw
import Derived.Test.YtbpkolibdibmeaaGreatAvWa
import Derived.Lib.AppendZeros
set_option maxRecDepth 100000
set_option linter.unusedVariables false
set_option linter.unusedSimpArgs false
set_option linter.unusedSectionVars false
noncomputable section
namespace Go.Av
def qdW (l:List Int):Option Unit:=if l.length<=1000000 then some ()else none
def qjT (l:List Int):Option Unit:=if l.length<=1000000 then some ()else none
def qlt (ns xs:List Int) (i j:Int):Option (List Int):=if 0<=i/\i<=j/\j<=ns.length/\ns.length<=100000 then some (ns.take i.toNat++xs++ns.drop j.toNat)else none
def qha (ns:List Int) (i j:Int):Option (List Int):=if i<j then qlt ns [] i j else none
def qcN (ns:List Int) (i j x y:Int):Option (List Int):=if i=j\/j=i+2 then qlt ns [x,y] i j else none
def qgw (ns:List Int) (i j:Int) (xs:List Int):Option (List Int):=if i<j/\(xs.length:Int)=j-i then qlt ns xs i j else none
section
open Go.Proofs Go.Shelf Go.RowKit Go.Lib
theorem qkS {w:World} {b:Nat} {cs:List Value} (h: ∀j v,cs[j]? =some v->w.cell? ⟨b,j,none⟩=some v) {j:Nat} (hj:j<cs.length):(w.cell? ⟨b,j,none⟩).isSome=true:=by
 rw[h j _ (Ya hj)];rfl
theorem qep:Tryz.prog.underlying 22=some (.slice 3):=by kernel_rfl
theorem qgx:(Tryz.prog.info? 3).map (fun i=>(i.zero,i.size,i.bytes))=some (some (Value.int IntKind.i64 0),1,8):=by kernel_rfl
theorem qpH:(Tryz.prog.info? 3).map (·.size)=some 1:=by kernel_rfl
theorem qpl (W:World) (b o k d:Nat) (a:Option Addr) (ha:0<k->a=some ⟨b,o,none⟩) (hc: ∀j,j<k->(W.cell? ⟨b,o+j,none⟩).isSome=true) (hf: ∀j,j<k->W.frozen? ⟨b,o+j,none⟩=false) (ty:TypeId):
 (Builtin.clear_ #[22] ty #[.slice a k d]).run Tryz.prog W= .ok (.tuple #[]) (W.setCells b o (List.replicate k (.int .i64 0))):=by
 by_cases h:0<k
 ·rw[ha h];exact Lib.run_clear_slice W 22 3 ty _ qep (fun w=>Tryz.zeroValue3 w) rfl rfl b o k d h hc hf
 obtain rfl:k=0:=by omega
 have hu:=run_underlying (P:=Tryz.prog) qep;cases a<;>simp[Builtin.clear_,hu,World.setCells,Tryz.zeroValue3,Builtin.zeroCells,storeCells]
theorem qoW (W:World) (b o dl dc m vc:Nat) (d va:Option Addr) (vs:List Value) (hm:vs.length=m) (hd:m<=dl) (hda:0<m->d=some ⟨b,o,none⟩)
 (hv:0<m-> ∃a,va=some a/\ ∀j v,vs[j]? =some v->W.cell? (a.add j)=some v)
 (hc: ∀j,j<m->(W.cell? ⟨b,o+j,none⟩).isSome=true) (hf: ∀j,j<m->W.frozen? ⟨b,o+j,none⟩=false) (h1: ∀v∈vs,v.oneCell'=true) (ty:TypeId):
 (Builtin.copy_ #[22,22] ty #[.slice d dl dc,.slice va m vc]).run Tryz.prog W= .ok (goInt m) (W.setCells b o vs):=by
 by_cases h:0<m
 ·obtain⟨a,rfl,ha⟩:=hv h;rw[hda h];have:=run_copy_cells (P:=Tryz.prog) W 22 22 ty 3 b o dl dc a m vc vs qep qpH (by rw[hm];simp only[Nat.min_def];split<;>omega) ha (by rw[hm];exact hc) (by rw[hm];exact hf) h1;rw[hm]at this;exact this
 obtain rfl:m=0:=by omega
 obtain rfl:=List.eq_nil_of_length_eq_zero hm;exact run_copy_none (P:=Tryz.prog) W 22 22 ty 3 d va dl dc 0 vc qep qpH (by simp[Nat.min_def])
set_option maxHeartbeats 4000000 in
theorem qwj (b n c i:Nat) (cs:List Value) (w:World) (hi:i<n) (hnc:n<=c) (hc63:c<=9223372036854775807) (hcl:cs.length=n)
 (hcs: ∀j v,cs[j]? =some v->w.cell? ⟨b,j,none⟩=some v) (hfz: ∀j,w.frozen? ⟨b,j,none⟩=false):
 Calls Tryz.prog 83 #[.slice (some ⟨b,0,none⟩) n c,.int .i64 i,.int .i64 n,.slice none 0 0] w fun e w'=>e= .returned (.slice (some ⟨b,0,none⟩) i c)/\w'=w.setCells b i (List.replicate (n-i) (.int .i64 0)):=by
 have h1: ¬((i:Int)=(n:Int)):=by omega
 have h2:(i:Int)<=(n:Int):=by omega
 have h3: ¬(c=i):=by omega
 have h4:(i:Int)<(n:Int):=by omega
 have u22:=qep;have i3:=qgx;have hsrc:Src Tryz.prog 1 22 (.slice none 0 0) 0 [] w:=Src.ofNil w u22 0
 have hcl: ∀ty d,(Builtin.clear_ #[22] ty #[.slice (some ⟨b,i,none⟩) (n-i) d]).run Tryz.prog w= .ok (.tuple #[]) (w.setCells b i (List.replicate (n-i) (.int .i64 0))):=fun ty d=>
  qpl w b i (n-i) d _ (fun _=>rfl) (fun t ht=>qkS hcs (by omega)) (fun t ht=>hfz _) ty
 go_enter Tryz.func83,Tryz.ntmps83
 go_wp2_with (at_builtin;refine wpList_append_room1 _ rfl _ _ 22 22 rfl 3 _ _ u22 i3 b 0 i c rfl _ rfl 0 [] hsrc (by omega) (fun j hj=>by simp at hj) (fun j hj=>by simp at hj) ?_)
 go_wp2_with (simp only[World.setCells,hcl])
 go_ret
 exact⟨rfl,rfl⟩
set_option maxHeartbeats 4000000 in
theorem qwl (b n c i m vc:Nat) (a:Addr) (cs vs:List Value) (w:World) (hi:i+m=n) (hm:0<m) (hnc:n<=c) (hc63:c<=9223372036854775807) (hcl:cs.length=n) (hvl:vs.length=m)
 (hcs: ∀j v,cs[j]? =some v->w.cell? ⟨b,j,none⟩=some v) (hfz: ∀j,w.frozen? ⟨b,j,none⟩=false) (hvs: ∀j v,vs[j]? =some v->w.cell? (a.add j)=some v) (h1v: ∀v∈vs,v.oneCell'=true):
 Calls Tryz.prog 83 #[.slice (some ⟨b,0,none⟩) n c,.int .i64 i,.int .i64 n,.slice (some a) m vc] w fun e w'=>e= .returned (.slice (some ⟨b,0,none⟩) n c)/\w'=w.setCells b i vs:=by
 have h1: ¬((i:Int)=(n:Int)):=by omega
 have h2:(i:Int)<=(n:Int):=by omega
 have h3: ¬(c=i):=by omega
 have h4: ¬((i:Int)+(m:Int)<(n:Int)):=by omega
 have h5: ¬(i+m<n):=by omega
 have u22:=qep;have i3:=qgx;have hsrc:Src Tryz.prog 1 22 (.slice (some a) m vc) m vs w:=Src.ofSlice w u22 a m vc vs (by omega) (fun j u hj=>hvs j u hj) h1v
 go_enter Tryz.func83,Tryz.ntmps83
 go_wp2_with (at_builtin;refine wpList_append_room1 _ rfl _ _ 22 22 rfl 3 _ _ u22 i3 b 0 i c rfl _ rfl m vs hsrc (by omega) (fun j hj=>by rw[Nat.zero_add];exact qkS hcs (by omega)) (fun j hj=>hfz _) ?_)
 go_ret
 exact⟨rfl,rfl⟩
set_option maxHeartbeats 8000000 in
theorem rep_M (b j d c i m vc:Nat) (va:Option Addr) (cs vs:List Value) (w:World) (hi:i+m<=j) (hij:i<j) (hd:0<d) (hnc:j+d<=c) (hc63:c<=9223372036854775807) (hcl:cs.length=j+d) (hvl:vs.length=m)
 (hcs: ∀k v,cs[k]? =some v->w.cell? ⟨b,k,none⟩=some v) (hfz: ∀k,w.frozen? ⟨b,k,none⟩=false) (h1c: ∀v∈cs,v.oneCell'=true)
 (hvs:0<m-> ∃a,va=some a/\ ∀k v,vs[k]? =some v->w.cell? (a.add k)=some v) (h1v: ∀v∈vs,v.oneCell'=true):
 Calls Tryz.prog 83 #[.slice (some ⟨b,0,none⟩) (j+d) c,.int .i64 i,.int .i64 j,.slice va m vc] w fun e w'=>e= .returned (.slice (some ⟨b,0,none⟩) (i+m+d) c)/\
  w'=((w.drew.setCells b i vs).drew.setCells b (i+m) (cs.drop j)).setCells b (i+m+d) (List.replicate (j+d-(i+m+d)) (.int .i64 0)):=by
 have h1: ¬((i:Int)=(j:Int)):=by omega
 have h2:(i:Int)<=(j:Int):=by omega
 have h3: ¬(c=i):=by omega
 have h4: ¬((j:Int)=(j:Int)+(d:Int)):=by omega
 have h5: ¬(c=i+m):=by omega
 have h6: ¬(c=j):=by omega
 have h7:(i:Int)+(m:Int)<=(j:Int):=by omega
 have h8:(0:Int)<=(i:Int)+(m:Int):=by omega
 have h9:((i:Int)+(m:Int)).toNat=i+m:=by omega
 have hw1:IntKind.i64.wrap ((i:Int)+(m:Int))=(i:Int)+(m:Int):=by rw[IntKind.wrap_i64];omega
 have hb4:(j:Int)<=(j:Int)+(d:Int):=by omega
 have hb3:(i:Int)+(m:Int)<=(i:Int)+(m:Int)+(d:Int):=by omega
 have u22:=qep;have i3:=qgx
 have hdl:(cs.drop j).length=d:=by rw[YJ,hcl];omega
 have isS: ∀k,k<j+d->(w.cell? ⟨b,k,none⟩).isSome=true:=fun k hk=>qkS hcs (by omega)
 obtain⟨W1,hW1⟩: ∃W1,W1=w.drew.setCells b i vs:=⟨_,rfl⟩
 have isS1: ∀k,k<j+d->(W1.cell? ⟨b,k,none⟩).isSome=true:=fun k hk=>by
  rw[hW1];exact isSome_setCells b vs i w.drew (fun t ht=>isS (i+t) (by omega)) k (isS k hk)
 have fz1: ∀k,W1.frozen? ⟨b,k,none⟩=false:=fun k=>by rw[hW1,World.frozen?_setCells];exact hfz k
 have hcp1: ∀ty dc,(Builtin.copy_ #[22,22] ty #[.slice (some ⟨b,i,none⟩) (i+m+d-i) dc,.slice va m vc]).run Tryz.prog w.drew= .ok (goInt m) W1:=fun ty dc=>by
  rw[hW1];exact qoW w.drew b i (i+m+d-i) dc m vc _ va vs hvl (by omega) (fun _=>rfl) hvs (fun t ht=>isS (i+t) (by omega)) (fun t ht=>hfz _) h1v ty
 obtain⟨W2,hW2⟩: ∃W2,W2=W1.drew.setCells b (i+m) (cs.drop j):=⟨_,rfl⟩
 have isS2: ∀k,k<j+d->(W2.cell? ⟨b,k,none⟩).isSome=true:=fun k hk=>by
  rw[hW2];exact isSome_setCells b (cs.drop j) (i+m) W1.drew (fun t ht=>isS1 (i+m+t) (by omega)) k (isS1 k hk)
 have fz2: ∀k,W2.frozen? ⟨b,k,none⟩=false:=fun k=>by rw[hW2,World.frozen?_setCells];exact fz1 k
 have hcp2: ∀ty dc sc,(Builtin.copy_ #[22,22] ty #[.slice (some ⟨b,i+m,none⟩) d dc,.slice (some ⟨b,j,none⟩) d sc]).run Tryz.prog W1.drew= .ok (goInt d) W2:=fun ty dc sc=>by
  rw[hW2]
  exact qoW W1.drew b (i+m) d dc d sc _ _ (cs.drop j) hdl (Nat.le_refl _) (fun _=>rfl) (fun _=>⟨⟨b,j,none⟩,rfl,fun k v hk=>by
   rw[Addr.add_lit];show W1.cell? ⟨b,j+k,none⟩=some v;rw[hW1,World.cell?_setCells_out b _ _ _ _ (fun _ _=>by show j+k<i\/i+vs.length<=j+k;omega)]
   exact hcs (j+k) v (by rwa [YI]at hk)⟩) (fun t ht=>isS1 (i+m+t) (by omega)) (fun t ht=>fz1 _) (fun v hv=>h1c v (List.mem_of_mem_drop hv)) ty
 have hclr: ∀ty e dc,(0<j+d-(i+m+d)->e=some ⟨b,i+m+d,none⟩)->(Builtin.clear_ #[22] ty #[.slice e (j+d-(i+m+d)) dc]).run Tryz.prog W2= .ok (.tuple #[]) (W2.setCells b (i+m+d) (List.replicate (j+d-(i+m+d)) (.int .i64 0))):=fun ty e dc he=>
  qpl W2 b (i+m+d) _ dc e he (fun t ht=>isS2 (i+m+d+t) (by omega)) (fun t ht=>fz2 _) ty
 clear isS2 fz2 isS1 fz1;subst hW2;subst hW1
 have mixed:Tryz.prog.follows .mixedOrders=true:=by kernel_rfl
 go_enter Tryz.func83,Tryz.ntmps83
 go_wp2
 go_region
 go_wp2_with (simp only[hcp1])
 go_region_law (refine step_copy_runI rfl _ _ 22 22 rfl _ _ (by simp[Act.eval,Act.put]) (by simp[Act.eval,Act.put]) (hcp2 _ _ _) ?_)
 go_wp2
 ·rw[hclr 0 (some ⟨b,0,none⟩) 0 (fun h=>by omega)]
  go_wp2
  go_ret
  have hc:c=i+m+d:=by assumption
  exact⟨by rw[hc];rfl,rfl⟩
 go_ret
 exact⟨rfl,rfl⟩
set_option maxHeartbeats 4000000 in
theorem qre (base:Option Addr) (n c i:Nat) (v:Value) (w:World) (Q:Ending->World->Prop) (hi:i<=n) (hnc:n<=c) (hc63:c<=9223372036854775807) (hb:base=none->n=0)
 (h:Calls Tryz.prog 111 #[.slice base n c,.int .i64 i,v] w fun e w'=>(∃x,e= .returned x)/\Q e w'):Calls Tryz.prog 83 #[.slice base n c,.int .i64 i,.int .i64 i,v] w Q:=by
 have h2:(i:Int)<=(n:Int):=by omega
 cases base with
 |none=>
  obtain rfl:=hb rfl
  obtain rfl:i=0:=by omega
  go_enter Tryz.func83,Tryz.ntmps83
  go_wp2_with (go_at_call 111;refine h.mono ?_;rintro e w' ⟨⟨x,rfl⟩,hq⟩)
  exact hq
 |some a=>
  go_enter Tryz.func83,Tryz.ntmps83
  go_wp2_with (go_at_call 111;refine h.mono ?_;rintro e w' ⟨⟨x,rfl⟩,hq⟩)
  all_goals exact hq
section
variable {F:Nat->Prop} {nu:Nat->Option Nat} {A:Heap} {w:World}
theorem qna (i:Inv F nu A w) {b rb n cap mm:Nat} {e:TypeId} {ns xs:List Int} (hb:nu b=some rb) (hA:A[b]? =some (.cells (qY ns))) (hn:ns.length=n) (hc:n<=cap) (hsh:w.shape? rb=some (e,mm)) (hmm:cap*1<=mm) (hx:cap<=9223372036854775807)
 {k j m vc:Nat} {va:Option Addr} (hkj:k<j) (hjn:j<=n) (hxm:xs.length=m) (hm:(m=0/\va=none/\vc=0)\/m=j-k) (hv:0<m-> ∃a,va=some a/\ ∀t v,(qA xs)[t]? =some v->w.cell? (a.add t)=some v):
 Calls Tryz.prog 83 #[.slice (some ⟨rb,0,none⟩) n cap,.int .i64 k,.int .i64 j,.slice va m vc] w fun e' w'=> ∃x F' nu',e'= .returned x/\Stp F nu A w F' nu' (A.set b .dead++[.cells (qY (ns.take k++xs++ns.drop j))]) w'/\R F' nu' w' (.oslice A.length (ns.take k++xs++ns.drop j).length 1) x:=by
 obtain⟨c0,e0,hh,hl,hcv⟩:=row_of i hb hA
 obtain⟨rfl,rfl⟩:e=e0/\mm=c0.size:=by
  rw[xL hh]at hsh;simp only[ZI,ZP]at hsh;exact⟨hsh.1.symm,hsh.2.symm⟩
 have hlv:(qA ns).length=n:=by simpa[qA]using hn
 have hvl:(qA xs).length=m:=by simpa[qA]using hxm
 have hcs: ∀t v,(qA ns)[t]? =some v->w.cell? ⟨rb,t,none⟩=some v:=by
  intro t v ht;have htl:=(Yb.1 ht).1;rw[cell_of_row hh,hcv t (by omega),ht]
 have hfz: ∀t,w.frozen? ⟨rb,t,none⟩=false:=fun t=>frozen_of_row hh _
 have hms:(ns.take k++xs++ns.drop j).length=k+m+(n-j):=by simp;omega
 have hat: ∀t,t<k+m+(n-j)->(qA (ns.take k++xs++ns.drop j))[t]? =if t<k then(qA ns)[t]? else if t<k+m then(qA xs)[t-k]? else(qA ns)[t-(k+m)+j]? :=by
  intro t ht;simp only[qA,YA]
  have e1:(ns.take k).length=k:=by simp;omega
  by_cases h1:t<k
  ·rw[if_pos h1,Yz,Yf (by omega),List.getElem?_take_of_lt h1]
  rw[if_neg h1];by_cases h2:t<k+m
  ·rw[if_pos h2,Yz,Yo (by omega),e1,Yf (by omega)]
  rw[if_neg h2,Yo (by simp;omega),Yq,e1,hxm,YI,Nat.add_comm j]
 by_cases hjn2:j=n
 ·subst hjn2;rcases hm with⟨m0,hva,hvc⟩|hmj
  ·subst m0 hva hvc;refine Calls.mono (qwj rb j cap k (qA ns) w hkj hc hx hlv hcs hfz) ?_;rintro e' w' ⟨rfl,rfl⟩;obtain⟨c2,rw2,hs2,hc2⟩:=jE rb e (List.replicate (j-k) (.int .i64 0)) k w c0 hh (by simp;omega)
   obtain⟨nu',st,hR⟩:=qfi i hb hA hh rw2 hs2 hms (cap:=cap) (by omega) (by omega) hx (fun t ht=>by
    rw[hms]at ht
    rw[hat t ht,if_pos (show t<k by omega),hc2 t,if_neg (by omega),hcv t (by omega)])
   have e2:k+0+(j-j)=k:=by omega
   rw[hms];rw[e2]at hR⊢;exact⟨_,_,nu',rfl,st,hR⟩
  obtain⟨a,rfl,ha⟩:=hv (by omega);refine Calls.mono (qwl rb j cap k m vc a (qA ns) (qA xs) w (by omega) (by omega) hc hx hlv hvl hcs hfz ha qae) ?_;rintro e' w' ⟨rfl,rfl⟩;obtain⟨c2,rw2,hs2,hc2⟩:=jE rb e (qA xs) k w c0 hh (by omega)
  obtain⟨nu',st,hR⟩:=qfi i hb hA hh rw2 hs2 hms (cap:=cap) (by omega) (by omega) hx (fun t ht=>by
   rw[hms]at ht;rw[hat t ht,hc2 t,hvl];by_cases h1:t<k
   ·rw[if_neg (by omega),if_pos h1,hcv t (by omega)]
   rw[if_pos (by omega),if_neg h1,if_pos (by omega)])
  have e2:k+m+(j-j)=j:=by omega
  rw[hms];rw[e2]at hR⊢;exact⟨_,_,nu',rfl,st,hR⟩
 obtain⟨d,rfl⟩: ∃d,n=j+d:=⟨n-j,by omega⟩
 have e2:k+m+(j+d-j)=k+m+d:=by omega
 rw[e2]at hms hat
 have hmj:k+m<=j:=by omega
 refine Calls.mono (rep_M rb j d cap k m vc va (qA ns) (qA xs) w hmj hkj (by omega) hc hx hlv hvl hcs hfz qae hv qae) ?_;rintro e' w' ⟨rfl,rfl⟩;obtain⟨c2,rw2,hs2,hc2⟩:=jE rb e (qA xs) k w.drew c0 hh (by omega);obtain⟨c3,rw3,hs3,hc3⟩:=jE rb e ((qA ns).drop j) (k+m) _ c2 rw2.drew.at_ (by rw[YJ,hlv];omega);obtain⟨c4,rw4,hs4,hc4⟩:=jE rb e (List.replicate (j+d-(k+m+d)) (.int .i64 0)) (k+m+d) _ c3 rw3.at_ (by simp only[List.length_replicate];omega)
 obtain⟨nu',st,hR⟩:=qfi i hb hA hh ((rw2.drew.trans rw3).trans rw4).ofDrew (hs4.trans (hs3.trans hs2)) hms (cap:=cap) (by omega) (by omega) hx (fun t ht=>by
  rw[hms]at ht;rw[hat t ht,hc4 t,if_neg (by omega),hc3 t,YJ,hlv];by_cases h1:t<k
  ·rw[if_neg (by omega),if_pos h1,hc2 t,if_neg (by omega),hcv t (by omega)]
  rw[if_neg h1];by_cases h2:t<k+m
  ·rw[if_neg (by omega),if_pos h2,hc2 t,if_pos (by omega)]
  rw[if_pos (by omega),if_neg h2,YI,Nat.add_comm j])
 rw[hms];exact⟨_,_,nu',rfl,st,hR⟩
theorem qnF {b n:Nat} {v:Value} (h:R F nu w (.oslice b n 1) v\/(R F nu w (.gslice b n 1) v/\0<n)): ∃rb cap e mm,v= .slice (some ⟨rb,0,none⟩) n cap/\nu b=some rb/\n<=cap/\w.shape? rb=some (e,mm)/\cap*1<=mm/\cap<=9223372036854775807:=by
 rcases h with h|⟨h,hp⟩
 ·cases h with
  |oslice _ _ _ rb cap e m hb hc hs hm hx=>exact⟨rb,cap,e,m,rfl,hb,hc,hs,hm,hx⟩
 cases h with
 |gslice0=>exact absurd hp (by omega)
 |gslice _ _ _ rb cap e m hp hb hc hs hm hx=>exact⟨rb,cap,e,m,rfl,hb,hc,hs,hm,hx⟩
end
end
section
open Go.Proofs Go.Shelf Go.RowKit Go.Lib
theorem qas (ns:List Int):qY ns=ns.flatMap encI.c:=by
 induction ns with
 |nil=>rfl
 |cons n ns ih=>rw[List.flatMap_cons,<-ih];rfl
theorem qsQ {F:Nat->Prop} {nu:Nat->Option Nat} {w:World} {a b c d:AV} {vs:Array Value} (h:RL F nu w [a,b,c,d] vs): ∃x y z u,vs=#[x,y,z,u]/\R F nu w a x/\R F nu w b y/\R F nu w c z/\R F nu w d u:=by
 obtain⟨x,ws,rfl,hx,h1⟩:=h.cons_inv;obtain⟨y,w1,e1,hy,h2⟩:=h1.cons_inv
 obtain rfl:ws=y::w1:=by simpa using e1
 obtain⟨z,w2,e2,hz,h3⟩:=h2.cons_inv
 obtain rfl:w1=z::w2:=by simpa using e2
 obtain⟨u,w3,e3,hu,h4⟩:=h3.cons_inv
 obtain rfl:w2=u::w3:=by simpa using e3
 obtain rfl:=h4.nil_inv;exact⟨x,y,z,u,rfl,hx,hy,hz,hu⟩
def repX (v:AV) (b:Nat) (A:Heap):Option (List Int):=match v with
 | .nilslice=>some []
 | .slice vb 0 m _ 1=>if vb=b\/m=0 then none else match A[vb]? with
   |some (.cells vs)=>match qcH vs with
    |some xs=>if xs.length=m then some xs else none
    |none=>none
   |_=>none
 | .fslice m vs=>match qcH vs with
   |some xs=>if xs.length=m/\0<m then some xs else none
   |none=>none
 |_=>none
theorem qpk {F:Nat->Prop} {nu:Nat->Option Nat} {A:Heap} {w:World} (i:Inv F nu A w) {v:AV} {b:Nat} {xs:List Int} (h:repX v b A=some xs) {vv:Value} (hv:R F nu w v vv):
 ∃va m vc,vv= .slice va m vc/\xs.length=m/\(m=0->va=none/\vc=0)/\(0<m-> ∃a,va=some a/\ ∀t v,(qA xs)[t]? =some v->w.cell? (a.add t)=some v):=by
 unfold repX at h;split at h
 ·obtain rfl:=Ye h;cases hv
  exact⟨none,0,0,rfl,rfl,fun _=>⟨rfl,rfl⟩,fun h=>by omega⟩
 ·rename_i vb m cc;split at h
  ·cases h
  rename_i hne;split at h
  ·rename_i vs hA;split at h
   ·rename_i xs' hxs;split at h
    ·rename_i hm;obtain rfl:=Ye h;obtain rfl:=qdc hxs
     cases hv with
     |slice _ _ _ _ _ rv hrv hvc=>
      obtain⟨c1,e1,hh1,hl1,hcv1⟩:=row_of i hrv hA;refine⟨_,_,_,rfl,hm,fun h=>by omega,fun _=>⟨_,rfl,fun t v ht=>?_⟩⟩;have htl:=(Yb.1 ht).1;rw[Addr.add_lit,cell_of_row hh1,Nat.zero_add,hcv1 t (by simpa[qA]using htl),ht]
    cases h
   cases h
  cases h
 ·rename_i m vs;split at h
  ·rename_i xs' hxs;split at h
   ·rename_i hm;obtain rfl:=Ye h;obtain rfl:=qdc hxs;generalize hcs:qY xs'=cs0 at hv
    cases hv with
    |fslice0=>omega
    |fslice n cs ad cap vs hn hF hl hc hR=>
     subst hcs;refine⟨_,_,_,rfl,hm.1,fun h=>by omega,fun _=>⟨ad,rfl,fun t v ht=>?_⟩⟩;have htl:=(Yb.1 ht).1
     have htx:t<xs'.length:=by simpa[qA]using htl
     have hvl:t<vs.length:=by rw[hl];simpa[qY]using htx
     have h1:(qY xs')[t]? =some (.int .i64 xs'[t]):=by simp[qY,htx]
     have h2:vs[t]? =some vs[t]:=Ya hvl;have:=(hR t _ _ h1 h2).int_inv;rw[hc t _ h2,this,<-ht];simp[qA,htx]
   cases h
  cases h
 cases h
def repA (args:List AV) (A:Heap):Option (AV×Heap):=match args with
 |[.oslice b n 1,.int .i64 i,.int .i64 j,v]=>
  if i=j then(if 0<=i/\i<=n/\n<=100000 then qn3 [.oslice b n 1,.int .i64 i,v] A else none)
  else match A[b]?,repX v b A with
   |some (.cells cs),some xs=>match qcH cs with
    |some ns=>if ns.length=n/\0<=i/\i<j/\j<=n/\(xs.length=0\/(xs.length:Int)=j-i)then some (.oslice A.length (ns.take i.toNat++xs++ns.drop j.toNat).length 1,A.set b .dead++[.cells (qY (ns.take i.toNat++xs++ns.drop j.toNat))])else none
    |none=>none
   |_,_=>none
 |_=>none
theorem qlD {args:List AV} {A A':Heap} {v:AV} (h:qn3 args A=some (v,A')):qc Tryz.prog (.fn 111) args A v A':=qui Tryz.lays2_21 (enters_of (by kernel_rfl)) h
theorem qoX:Enters Tryz.prog 111:=enters_of (by kernel_rfl)
theorem qlu:Enters Tryz.prog 83:=enters_of (by kernel_rfl)
theorem qtt {args:List AV} {A A':Heap} {v:AV} (h:repA args A=some (v,A')):qc Tryz.prog (.fn 83) args A v A':=by
 intro F nu w vs i hargs;refine .inl ⟨qlu,?_⟩;unfold repA at h;split at h
 ·rename_i b n i0 j0 vx;obtain⟨s,k,j,u,rfl,hs,hk,hj,hu⟩:=qsQ hargs;obtain rfl:=hk.int_inv;obtain rfl:=hj.int_inv;obtain⟨rb,cap,e,mm,rfl,hb,hc,hsh,hm,hx⟩:=qnF (.inl hs);split at h
  ·rename_i hij;subst hij;split at h
   ·rename_i hin;obtain⟨k,rfl⟩: ∃k:Nat,i0=k:=⟨i0.toNat,by omega⟩;refine qre _ n cap k u w _ (by omega) hc hx (fun h=>by cases h) ?_
    have hq:RL F nu w [.oslice b n 1,.int .i64 k,vx] #[.slice (some ⟨rb,0,none⟩) n cap,.int .i64 k,u]:=by
     refine⟨rfl,fun t a v ha hv=>?_⟩
     match t,ha,hv with
     |0,ha,hv=>obtain rfl:=Ye ha;obtain rfl:=Ye hv;exact hs
     |1,ha,hv=>obtain rfl:=Ye ha;obtain rfl:=Ye hv;exact .int _ _
     |2,ha,hv=>obtain rfl:=Ye ha;obtain rfl:=Ye hv;exact hu
     |t+3,ha,_=>exact absurd ha (by simp)
    refine((qlD h).calls qoX i hq).mono ?_;rintro e' w' ⟨x,F',nu',h1,h2,h3⟩;exact⟨⟨x,h1⟩,x,F',nu',h1,h2,h3⟩
   cases h
  rename_i hij;split at h
  ·rename_i cs xs hA hxs;split at h
   ·rename_i ns hns;split at h
    ·rename_i hcond;obtain⟨hn,hi0,hij2,hjn,hxl⟩:=hcond;simp only[ZI,ZP]at h;obtain⟨rfl,rfl⟩:=h;obtain rfl:=qdc hns;obtain⟨k,rfl⟩: ∃k:Nat,i0=k:=⟨i0.toNat,by omega⟩;obtain⟨j,rfl⟩: ∃k:Nat,j0=k:=⟨j0.toNat,by omega⟩;obtain⟨va,m,vc,rfl,hxm,hm0,hv⟩:=qpk i hxs hu
     refine(qna i hb hA hn hc hsh hm hx (k:=k) (j:=j) (by omega) (by omega) hxm (by
      by_cases z:m=0
      ·exact .inl ⟨z,hm0 z⟩
      exact .inr (by omega)) hv).mono ?_
     rintro e' w' ⟨x,F',nu',h1,h2,h3⟩;exact⟨x,F',nu',h1,h2,h3⟩
    cases h
   cases h
  cases h
 cases h
theorem qhM {ns xs l:List Int} {i j:Int} {v:AV} {A:Heap} (hA:A[0]? =some (.cells (qY ns))) (hx:repX v 0 A=some xs) (h:qlt ns xs i j=some l) (hij:i<j) (hxl:xs.length=0\/(xs.length:Int)=j-i):
 qc Tryz.prog (.fn 83) [.gslice 0 ns.length 1,.i i,.i j,v] A (.oslice A.length l.length 1) (A.set 0 .dead++[.cells (qY l)]):=by
 unfold qlt at h;split at h
 ·rename_i hc0;obtain⟨hi,hij',hjl,hbig⟩:=hc0;obtain rfl:=Ye h;intro F nu w vs iv hargs;refine .inl ⟨qlu,?_⟩;obtain⟨s,k,j',u,rfl,hs,hk,hj,hu⟩:=qsQ hargs;obtain rfl:=hk.int_inv;obtain rfl:=hj.int_inv;obtain⟨rb,cap,e,mm,rfl,hb,hc,hsh,hm,hx2⟩:=qnF (.inr ⟨hs,by omega⟩);obtain⟨k,rfl⟩: ∃k:Nat,i=k:=⟨i.toNat,by omega⟩;obtain⟨j,rfl⟩: ∃k:Nat,j=k:=⟨j.toNat,by omega⟩;obtain⟨va,m,vc,rfl,hxm,hm0,hv⟩:=qpk iv hx hu
  exact qna iv hb hA rfl hc hsh hm hx2 (k:=k) (j:=j) (by omega) (by omega) hxm (by
   by_cases z:m=0
   ·exact .inl ⟨z,hm0 z⟩
   exact .inr (by omega)) hv
 cases h
theorem qsg (ns:List Int) (i j:Int) {l:List Int} (h:qha ns i j=some l):qc Tryz.prog (.fn 83) [.gslice 0 ns.length 1,.i i,.i j,.nilslice] [.cells (ns.flatMap encI.c)] (.oslice 1 l.length 1) [.dead,.cells (l.flatMap encI.c)]:=by
 unfold qha at h;split at h
 ·rename_i hij;rw[<-qas ns,<-qas l];exact qhM (A:=[.cells (qY ns)]) rfl rfl h hij (.inl rfl)
 cases h
theorem qkJ (xs:List Int):qcH (qY xs)=some xs:=by
 induction xs with
 |nil=>rfl
 |cons x xs ih=>
  show(qcH (qY xs)).map (x:: ·)=_;rw[ih];rfl
theorem qrx (ns:List Int) (i j:Int) (xs:List Int) {l:List Int} (h:qgw ns i j xs=some l):qc Tryz.prog (.fn 83) [.gslice 0 ns.length 1,.i i,.i j,vl encI xs] [.cells (ns.flatMap encI.c)] (.oslice 1 l.length 1) [.dead,.cells (l.flatMap encI.c)]:=by
 unfold qgw at h;split at h
 ·rename_i hij;rw[<-qas ns,<-qas l];refine qhM (A:=[.cells (qY ns)]) (xs:=xs) rfl ?_ h hij.1 (.inr hij.2);show(match qcH (xs.flatMap encI.c)with|some ys=>if ys.length=xs.length/\0<xs.length then some ys else none|none=>none)=some xs;rw[<-qas xs,qkJ];exact if_pos ⟨rfl,by omega⟩
 cases h
theorem qrX {ns xs l:List Int} {i:Int} {m c:Nat} {A:Heap} (hA:A[0]? =some (.cells (qY ns))) (hA1:A[1]? =some (.cells (qY xs))) (hm:xs.length=m) (hm0:0<m) (hmb:m<=1000) (h:qlt ns xs i i=some l):
 qc Tryz.prog (.fn 83) [.gslice 0 ns.length 1,.i i,.i i,.slice 1 0 m c 1] A (.oslice A.length l.length 1) (A.set 0 .dead++[.cells (qY l)]):=by
 unfold qlt at h;split at h
 ·rename_i hc0;obtain⟨hi,_,hjl,hbig⟩:=hc0;obtain rfl:=Ye h;intro F nu w vs iv hargs;refine .inl ⟨qlu,?_⟩;obtain⟨s,k,j',u,rfl,hs,hk,hj,hu⟩:=qsQ hargs;obtain rfl:=hk.int_inv;obtain rfl:=hj.int_inv;obtain⟨k,rfl⟩: ∃k:Nat,i=k:=⟨i.toNat,by omega⟩;simp only[Int.toNat_natCast]
  have hlen:(ns.take k++xs++ns.drop k).length=ns.length+m:=by simp;omega
  by_cases hp:0<ns.length
  ·obtain⟨rb,cap,e,mm,rfl,hb,hc,hsh,hmm,hx2⟩:=qnF (.inr ⟨hs,hp⟩);have hs':R F nu w (.oslice 0 ns.length 1) (.slice (some ⟨rb,0,none⟩) ns.length cap):= .oslice _ _ _ rb cap e mm hb hc hsh hmm hx2;refine qre _ ns.length cap k u w _ (by omega) hc hx2 (fun h=>by cases h) ?_
   have hq:RL F nu w [.oslice 0 ns.length 1,.int .i64 k,.slice 1 0 m c 1] #[.slice (some ⟨rb,0,none⟩) ns.length cap,.int .i64 k,u]:=by
    refine⟨rfl,fun t a v ha hv=>?_⟩
    match t,ha,hv with
    |0,ha,hv=>obtain rfl:=Ye ha;obtain rfl:=Ye hv;exact hs'
    |1,ha,hv=>obtain rfl:=Ye ha;obtain rfl:=Ye hv;exact .int _ _
    |2,ha,hv=>obtain rfl:=Ye ha;obtain rfl:=Ye hv;exact hu
    |t+3,ha,_=>exact absurd ha (by simp)
   have hi:qn3 [.oslice 0 ns.length 1,.int .i64 k,.slice 1 0 m c 1] A=some (.oslice A.length (ns.length+m) 1,A.set 0 .dead++[.cells (qY (ns.take k++xs++ns.drop k))]):=by
    simp only[qn3,hA,hA1,qkJ];rw[if_pos ⟨trivial,by omega,by omega,by omega,by decide,hm,hm0,hmb⟩];simp
   rw[hlen];refine((qlD hi).calls qoX iv hq).mono ?_;rintro e' w' ⟨x,F',nu',h1,h2,h3⟩;exact⟨⟨x,h1⟩,x,F',nu',h1,h2,h3⟩
  obtain rfl:ns=[]:=List.eq_nil_of_length_eq_zero (by omega)
  obtain rfl:k=0:=by simpa using hjl
  obtain⟨p,rfl⟩: ∃p,s= .slice p 0 0:=by
   cases hs with
   |gslice0 _ _ p=>exact⟨p,rfl⟩
   |gslice _ _ _ rb cap e m hp=>exact absurd hp (by simp)
  cases hu with
  |slice _ _ _ _ _ rv hrv hvc=>
   obtain⟨c1,e1,hh1,hl1,hcv1⟩:=row_of iv hrv hA1
   have hvl:(qA xs).length=m:=by simpa[qA]using hm
   have hvs: ∀j v,(qA xs)[j]? =some v->w.cell? ⟨rv,0+j,none⟩=some v:=by
    intro j v hj;have hjl:=(Yb.1 hj).1;rw[cell_of_row hh1,Nat.zero_add,hcv1 j (by simpa[qA]using hjl),hj]
   refine qre p 0 0 0 _ w _ (Nat.le_refl _) (Nat.le_refl _) (by omega) (fun _=>rfl) ?_;have:=Any2.slices_Insert_int_end_grow Tryz.lays2_21 p 0 0 rv 0 m c [] (qA xs) w hm0 (by omega) (by omega) (by omega) rfl hvl (fun _=>rfl) (by intro a ha j v hj;simp at hj) hvs qae;refine Calls.mono (show Calls Tryz.prog 111 #[.slice p 0 0,.int .i64 0,.slice (some ⟨rv,0,none⟩) m c] w _ from this) ?_;rintro e' w' ⟨rfl,rfl⟩;obtain⟨eT,heT⟩: ∃eT:TypeId,eT=3:=⟨_,rfl⟩;have hg:=grownCap_ge w m 0 3;obtain⟨nu',st,hR⟩:=qgR iv (w':=w.drew.alloc (.cells (([]++qA xs).toArray++Builtin.zeroCells (Value.int .i64 0).cells (grownCap w (0+m) 0 3-(0+m))) 3)) (c1:=([]++qA xs).toArray++Builtin.zeroCells (Value.int .i64 0).cells (grownCap w (0+m) 0 3-(0+m))) (n:=m) (cap:=grownCap w m 0 3) (ms:=xs) (Go.heap_alloc_new w.drew _) (fun r hr=>Go.heap_alloc_old w.drew _ hr) (by simp) rfl rfl rfl hm hg (by simp only[Nat.zero_add,List.nil_append,Array.size_append,size_zeroCells,Value.cells,List.size_toArray,hvl];simp;omega)
    (Go.grownCap_le_maxLen w m 0 _ (by unfold maxLen;omega)) (fun j hj=>by
     rw[YC (by simp[qA];omega)]
     rw[List.getElem?_toArray,List.nil_append])
   have s2:=Ux st.inv 0;have hblt:0<A.length:=(Yb.1 hA).1;rw[List.set_append_left _ _ hblt]at s2
   have e0:([]:List Int).take 0++xs++([]:List Int).drop 0=xs:=by simp
   rw[e0,hm];rw[Nat.zero_add]at st s2 hR⊢;exact⟨⟨_,rfl⟩,_,F,nu',rfl,st.trans s2,hR⟩
 cases h
theorem qmm (ns:List Int) (i j x y:Int) {l:List Int} (h:qcN ns i j x y=some l):qc Tryz.prog (.fn 83) [.gslice 0 ns.length 1,.i i,.i j,.slice 1 0 2 2 1] [.cells (ns.flatMap encI.c),.cells [.i x,.i y]] (.oslice 2 l.length 1) [.dead,.cells [.i x,.i y],.cells (l.flatMap encI.c)]:=by
 unfold qcN at h;split at h
 ·rename_i hij;rw[<-qas ns,<-qas l];rcases hij with rfl|hij
  ·exact qrX (A:=[.cells (qY ns),.cells (qY [x,y])]) (xs:=[x,y]) rfl rfl rfl (by decide) (by decide) h
  exact qhM (A:=[.cells (qY ns),.cells (qY [x,y])]) (xs:=[x,y]) rfl rfl h (by omega) (.inr (by simp only[Yr,List.length_nil];omega))
 cases h
theorem cluS:Tryz.prog.underlying 22=some (.slice 3):=by kernel_rfl
set_option maxHeartbeats 4000000 in
theorem qlZ (p:Option Addr) (cap:Nat) (w:World):Calls Tryz.prog 26 #[.slice p 0 cap] w fun e w'=> ∃q,e= .returned (.slice q 0 0)/\Kept w w':=by
 obtain⟨D,hd⟩: ∃D,Op.maxDepth=D+1:=⟨9999,rfl⟩;have hu:=run_underlying (P:=Tryz.prog) cluS
 cases p with
 |none=>
  have hg: ∀W,(binOp .eql 22 (.slice none 0 cap) (.slice none 0 0)).run Tryz.prog W= .ok (.bool true) W:=fun W=>by
   simp[binOp,Op.equal,hd,Op.equalIn,hu,go_sem]
  clear hd
  go_enter Tryz.func26,Tryz.ntmps26
  go_wp2
  go_ret
  exact⟨none,rfl,Kept.refl w⟩
 |some a=>
  have hg: ∀W,(binOp .eql 22 (.slice (some a) 0 cap) (.slice none 0 0)).run Tryz.prog W= .ok (.bool false) W:=fun W=>by
   simp[binOp,Op.equal,hd,Op.equalIn,hu,go_sem]
  clear hd
  go_enter Tryz.func26,Tryz.ntmps26
  go_wp2
  go_ret
  exact⟨_,rfl,(Kept.refl w).alloc _⟩
set_option maxHeartbeats 4000000 in
theorem qmj (a:Addr) (n cap:Nat) (vs:List Value) (w:World) (hn:0<n) (hbig:n<=1000000) (hl:vs.length=n) (hvs: ∀j v,vs[j]? =some v->w.cell? (a.add j)=some v) (h1: ∀v∈vs,v.oneCell'=true):
 Calls Tryz.prog 26 #[.slice (some a) n cap] w fun e w'=> ∃W:World,Kept w W/\e= .returned (.slice (some ⟨W.heap.size,0,none⟩) n (grownCap W n 0 3))/\w'=W.drew.alloc (.cells (vs.toArray++Builtin.zeroCells (Value.int .i64 0).cells (grownCap W n 0 3-n)) 3):=by
 obtain⟨D,hd⟩: ∃D,Op.maxDepth=D+1:=⟨9999,rfl⟩;have hu:=run_underlying (P:=Tryz.prog) cluS
 have hg: ∀W,(binOp .eql 22 (.slice (some a) n cap) (.slice none 0 0)).run Tryz.prog W= .ok (.bool false) W:=fun W=>by
  simp[binOp,Op.equal,hd,Op.equalIn,hu,go_sem]
 clear hd;obtain⟨i0,hi0,hzz⟩:=Yd.1 qgx;simp only[ZP]at hzz;obtain⟨hz0,hzs,hzb⟩:=hzz;obtain⟨W0,hW0⟩: ∃W0,W0=w.alloc (.cells #[] 3):=⟨_,rfl⟩
 have hrun: ∀ty,(Builtin.append_ #[22,22] ty #[.slice (some ⟨w.heap.size,0,none⟩) 0 0,.slice (some a) n cap]).run Tryz.prog W0= .ok (.slice (some ⟨W0.heap.size,0,none⟩) n (grownCap W0 n 0 3)) (W0.drew.alloc (.cells (vs.toArray++Builtin.zeroCells (Value.int .i64 0).cells (grownCap W0 n 0 3-n)) 3)):=fun ty=>by
  have hsrc:Src Tryz.prog i0.size 22 (.slice (some a) n cap) n vs W0:=by
   rw[hzs];exact Src.ofSlice W0 cluS a n cap vs (by omega) (fun j v hj=>by rw[hW0];exact Lib.cell?_alloc_some _ (hvs j v hj)) h1
  have hold:(Builtin.firstCells i0.size 0 (.slice (some ⟨w.heap.size,0,none⟩) 0 0)).run Tryz.prog W0.drew= .ok ([]:List Value).toArray W0.drew:=by
   rw[hzs];exact run_firstCells_some W0.drew 1 0 _ 0 0 [] (by rfl) (fun j v hj=>by simp at hj)
  have h:=run_append_grow_src (P:=Tryz.prog) W0 22 22 ty 3 i0 _ cluS hi0 hz0 (some ⟨w.heap.size,0,none⟩) 0 0 [] hold _ n vs hsrc (by omega) (by omega) (by rw[hzb];exact growslice_fits (by omega) (by omega));rw[Nat.zero_add,List.nil_append]at h;exact h
 go_enter Tryz.func26,Tryz.ntmps26
 subst hW0
 go_wp2_with (at_builtin;refine Lib.wpList_append_run _ rfl _ _ _ _ rfl _ _ rfl rfl _ _ (hrun _) ?_)
 go_ret
 exact⟨_,(Kept.refl w).alloc _,by simp,rfl⟩
theorem qda (l:List Int) {u:Unit} (h:qdW l=some u):qc Tryz.prog (.fn 26) [vl encI l] [] (.gslice 0 l.length 1) [.cells (l.flatMap encI.c)]:=by
 unfold qdW at h;split at h
 ·rename_i hl;intro F nu w vs i hargs;refine .inl ⟨enters_of (by kernel_rfl),?_⟩;obtain⟨x,ws,rfl,hx,hws⟩:=hargs.cons_inv;obtain rfl:=hws.nil_inv;rw[<-qas l]
  have hx:R F nu w (.fslice l.length (qY l)) x:=by rw[qas];exact hx
  by_cases hp:0<l.length
  ·generalize hcs:qY l=cs at hx;generalize hll:l.length=nl at hx
   cases hx with
   |fslice0=>omega
   |fslice n cs ad cap vs hn hF hlv hc hR=>
    subst hcs;subst hll
    have hvv:vs=qA l:=by
     apply List.ext_getElem?;intro t;by_cases ht:t<l.length
     ·have h1:(qY l)[t]? =some (.int .i64 l[t]):=by simp[qY,ht]
      have h2:vs[t]? =some (vs[t]'(by rw[hlv];simpa[qY]using ht)):=Ya _;have:=(hR t _ _ h1 h2).int_inv;rw[h2,this];simp[qA,ht]
     rw[Yg (by rw[hlv];simp[qY];omega),Yg (by simp[qA];omega)]
    subst hvv;refine(qmj ad l.length cap (qA l) w hp hl (by simp[qA]) hc qae).mono ?_;rintro e w' ⟨W,hk,rfl,rfl⟩;have s1:=Stp.kept i hk.heap hk.size hk.os hk.tape hk.output;have hg:=grownCap_ge W l.length 0 3;obtain⟨nu',st,hR'⟩:=qgR s1.inv (w':=W.drew.alloc (.cells ((qA l).toArray++Builtin.zeroCells (Value.int .i64 0).cells (grownCap W l.length 0 3-l.length)) 3)) (c1:=(qA l).toArray++Builtin.zeroCells (Value.int .i64 0).cells (grownCap W l.length 0 3-l.length)) (n:=l.length) (cap:=grownCap W l.length 0 3) (ms:=l) (Go.heap_alloc_new W.drew _) (fun r hr=>Go.heap_alloc_old W.drew _ hr) (by simp) rfl rfl rfl rfl hg (by simp only[Array.size_append,size_zeroCells,Value.cells,List.size_toArray];simp[qA];omega)
     (Go.grownCap_le_maxLen W l.length 0 _ (by unfold maxLen;omega)) (fun j hj=>by
      rw[YC (by simp[qA];omega),List.getElem?_toArray])
    refine⟨_,F,nu',rfl,s1.trans st,?_⟩
    cases hR' with
    |oslice _ _ _ rb cap e m hb hc hs hm hx=>exact .gslice _ _ _ _ _ _ _ hp hb hc hs hm hx
  obtain rfl:l=[]:=List.eq_nil_of_length_eq_zero (by omega)
  obtain⟨p,cap,rfl⟩: ∃p cap,x= .slice p 0 cap:=by
   have hx:R F nu w (.fslice 0 []) x:=hx
   cases hx with
   |fslice0 A cap=>exact⟨A,cap,rfl⟩
   |fslice _ _ ad cap=>exact⟨some ad,cap,rfl⟩
  refine Calls.mono (qlZ p cap w) ?_;rintro e w' ⟨q,rfl,hk⟩;have s1:=Stp.kept i hk.heap hk.size hk.os hk.tape hk.output;have s2:=Stp.more s1.inv (.cells []);exact⟨_,F,nu,rfl,s1.trans s2,.gslice0 _ _ _⟩
 cases h
theorem cluB:Tryz.prog.underlying 118=some (.slice 3):=by kernel_rfl
set_option maxHeartbeats 4000000 in
theorem qlW (p:Option Addr) (cap:Nat) (w:World):Calls Tryz.prog 97 #[.slice p 0 cap] w fun e w'=> ∃q,e= .returned (.slice q 0 0)/\Kept w w':=by
 obtain⟨D,hd⟩: ∃D,Op.maxDepth=D+1:=⟨9999,rfl⟩;have hu:=run_underlying (P:=Tryz.prog) cluB
 cases p with
 |none=>
  have hg: ∀W,(binOp .eql 118 (.slice none 0 cap) (.slice none 0 0)).run Tryz.prog W= .ok (.bool true) W:=fun W=>by
   simp[binOp,Op.equal,hd,Op.equalIn,hu,go_sem]
  clear hd
  go_enter Tryz.func97,Tryz.ntmps97
  go_wp2
  go_ret
  exact⟨none,rfl,Kept.refl w⟩
 |some a=>
  have hg: ∀W,(binOp .eql 118 (.slice (some a) 0 cap) (.slice none 0 0)).run Tryz.prog W= .ok (.bool false) W:=fun W=>by
   simp[binOp,Op.equal,hd,Op.equalIn,hu,go_sem]
  clear hd
  go_enter Tryz.func97,Tryz.ntmps97
  go_wp2
  go_ret
  exact⟨_,rfl,(Kept.refl w).alloc _⟩
set_option maxHeartbeats 4000000 in
theorem qng (a:Addr) (n cap:Nat) (vs:List Value) (w:World) (hn:0<n) (hbig:n<=1000000) (hl:vs.length=n) (hvs: ∀j v,vs[j]? =some v->w.cell? (a.add j)=some v) (h1: ∀v∈vs,v.oneCell'=true):
 Calls Tryz.prog 97 #[.slice (some a) n cap] w fun e w'=> ∃W:World,Kept w W/\e= .returned (.slice (some ⟨W.heap.size,0,none⟩) n (grownCap W n 0 3))/\w'=W.drew.alloc (.cells (vs.toArray++Builtin.zeroCells (Value.int .i64 0).cells (grownCap W n 0 3-n)) 3):=by
 obtain⟨D,hd⟩: ∃D,Op.maxDepth=D+1:=⟨9999,rfl⟩;have hu:=run_underlying (P:=Tryz.prog) cluB
 have hg: ∀W,(binOp .eql 118 (.slice (some a) n cap) (.slice none 0 0)).run Tryz.prog W= .ok (.bool false) W:=fun W=>by
  simp[binOp,Op.equal,hd,Op.equalIn,hu,go_sem]
 clear hd;obtain⟨i0,hi0,hzz⟩:=Yd.1 qgx;simp only[ZP]at hzz;obtain⟨hz0,hzs,hzb⟩:=hzz;obtain⟨W0,hW0⟩: ∃W0,W0=w.alloc (.cells #[] 3):=⟨_,rfl⟩
 have hrun: ∀ty,(Builtin.append_ #[118,118] ty #[.slice (some ⟨w.heap.size,0,none⟩) 0 0,.slice (some a) n cap]).run Tryz.prog W0= .ok (.slice (some ⟨W0.heap.size,0,none⟩) n (grownCap W0 n 0 3)) (W0.drew.alloc (.cells (vs.toArray++Builtin.zeroCells (Value.int .i64 0).cells (grownCap W0 n 0 3-n)) 3)):=fun ty=>by
  have hsrc:Src Tryz.prog i0.size 118 (.slice (some a) n cap) n vs W0:=by
   rw[hzs];exact Src.ofSlice W0 cluB a n cap vs (by omega) (fun j v hj=>by rw[hW0];exact Lib.cell?_alloc_some _ (hvs j v hj)) h1
  have hold:(Builtin.firstCells i0.size 0 (.slice (some ⟨w.heap.size,0,none⟩) 0 0)).run Tryz.prog W0.drew= .ok ([]:List Value).toArray W0.drew:=by
   rw[hzs];exact run_firstCells_some W0.drew 1 0 _ 0 0 [] (by rfl) (fun j v hj=>by simp at hj)
  have h:=run_append_grow_src (P:=Tryz.prog) W0 118 118 ty 3 i0 _ cluB hi0 hz0 (some ⟨w.heap.size,0,none⟩) 0 0 [] hold _ n vs hsrc (by omega) (by omega) (by rw[hzb];exact growslice_fits (by omega) (by omega));rw[Nat.zero_add,List.nil_append]at h;exact h
 go_enter Tryz.func97,Tryz.ntmps97
 subst hW0
 go_wp2_with (at_builtin;refine Lib.wpList_append_run _ rfl _ _ _ _ rfl _ _ rfl rfl _ _ (hrun _) ?_)
 go_ret
 exact⟨_,(Kept.refl w).alloc _,by simp,rfl⟩
theorem qqw (l:List Int) {u:Unit} (h:qjT l=some u):qc Tryz.prog (.fn 97) [vl encI l] [] (.gslice 0 l.length 1) [.cells (l.flatMap encI.c)]:=by
 unfold qjT at h;split at h
 ·rename_i hl;intro F nu w vs i hargs;refine .inl ⟨enters_of (by kernel_rfl),?_⟩;obtain⟨x,ws,rfl,hx,hws⟩:=hargs.cons_inv;obtain rfl:=hws.nil_inv;rw[<-qas l]
  have hx:R F nu w (.fslice l.length (qY l)) x:=by rw[qas];exact hx
  by_cases hp:0<l.length
  ·generalize hcs:qY l=cs at hx;generalize hll:l.length=nl at hx
   cases hx with
   |fslice0=>omega
   |fslice n cs ad cap vs hn hF hlv hc hR=>
    subst hcs;subst hll
    have hvv:vs=qA l:=by
     apply List.ext_getElem?;intro t;by_cases ht:t<l.length
     ·have h1:(qY l)[t]? =some (.int .i64 l[t]):=by simp[qY,ht]
      have h2:vs[t]? =some (vs[t]'(by rw[hlv];simpa[qY]using ht)):=Ya _;have:=(hR t _ _ h1 h2).int_inv;rw[h2,this];simp[qA,ht]
     rw[Yg (by rw[hlv];simp[qY];omega),Yg (by simp[qA];omega)]
    subst hvv;refine(qng ad l.length cap (qA l) w hp hl (by simp[qA]) hc qae).mono ?_;rintro e w' ⟨W,hk,rfl,rfl⟩;have s1:=Stp.kept i hk.heap hk.size hk.os hk.tape hk.output;have hg:=grownCap_ge W l.length 0 3;obtain⟨nu',st,hR'⟩:=qgR s1.inv (w':=W.drew.alloc (.cells ((qA l).toArray++Builtin.zeroCells (Value.int .i64 0).cells (grownCap W l.length 0 3-l.length)) 3)) (c1:=(qA l).toArray++Builtin.zeroCells (Value.int .i64 0).cells (grownCap W l.length 0 3-l.length)) (n:=l.length) (cap:=grownCap W l.length 0 3) (ms:=l) (Go.heap_alloc_new W.drew _) (fun r hr=>Go.heap_alloc_old W.drew _ hr) (by simp) rfl rfl rfl rfl hg (by simp only[Array.size_append,size_zeroCells,Value.cells,List.size_toArray];simp[qA];omega)
     (Go.grownCap_le_maxLen W l.length 0 _ (by unfold maxLen;omega)) (fun j hj=>by
      rw[YC (by simp[qA];omega),List.getElem?_toArray])
    refine⟨_,F,nu',rfl,s1.trans st,?_⟩
    cases hR' with
    |oslice _ _ _ rb cap e m hb hc hs hm hx=>exact .gslice _ _ _ _ _ _ _ hp hb hc hs hm hx
  obtain rfl:l=[]:=List.eq_nil_of_length_eq_zero (by omega)
  obtain⟨p,cap,rfl⟩: ∃p cap,x= .slice p 0 cap:=by
   have hx:R F nu w (.fslice 0 []) x:=hx
   cases hx with
   |fslice0 A cap=>exact⟨A,cap,rfl⟩
   |fslice _ _ ad cap=>exact⟨some ad,cap,rfl⟩
  refine Calls.mono (qlW p cap w) ?_;rintro e w' ⟨q,rfl,hk⟩;have s1:=Stp.kept i hk.heap hk.size hk.os hk.tape hk.output;have s2:=Stp.more s1.inv (.cells []);exact⟨_,F,nu,rfl,s1.trans s2,.gslice0 _ _ _⟩
 cases h
end
end Go.Av
end
