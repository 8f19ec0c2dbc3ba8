/-
  Calls by value: they tell what the calls do; the evaluator with such calls.
-/
import Derived.Test.YtjflombnfhlkaaaGreatDoorAvPure
noncomputable section
namespace Go.Av
set_option linter.unusedSectionVars false
variable [Glob]
open Go.RowKit
section
variable {P:Program}
theorem qmt {call:zM} (hc:zg P call) (pl:FuncId→Bool):zg P (qhS call pl):=by
 intro c args A v' A'' h
 unfold qhS at h
 cases c with
 |rd b=>exact hc _ _ _ _ _ h
 |mt t m=>exact hc _ _ _ _ _ h
 |fn f=>
  simp only at h
  split at h
  ·generalize hS:qbD A 20 (qer [] (args.flatMap (j4 4)))=S at h
   split at h
   ·rename_i args' hargs'
    split at h
    ·rename_i v Al hcall
     split at h
     ·rename_i v0 hv0
      have hok:=hc _ _ _ _ _ hcall
      refine fun F nu w vs i hargs=>?_
      obtain⟨m1,m2⟩:=mapM_some hargs'
      have hR':RL (FS F nu A S) (fun _=>none) w args' vs:=by
       refine⟨by rw[hargs.1,m1],fun j a v ha hv=>?_⟩
       obtain⟨x,hx1,hx2⟩:=m2 j a ha
       exact qeY i 12 hx2 (hargs.2 j x v hx1 hv)
      have hlt1: ∀rb,FS F nu A S rb→rb<w.heap.size:=by
       rintro rb (h|⟨b,x,_,h,_⟩)
       ·exact i.ltF rb h
       ·exact i.ltN b rb h
      have i1:Inv (FS F nu A S) (fun _=>none) [] w:=⟨by simp,by simp,fun _ _=>rfl,hlt1,by simp,Glob.mono i.glob (fun _ h=> .inl h) fun _ _=>rfl⟩
      have core: ∀x F2 nu2 w',Stp (FS F nu A S) (fun _=>none) [] w F2 nu2 Al w'→R F2 nu2 w' v x→ ∃F' nu',Stp F nu A w F' nu' A'' w'∧R F' nu' w' v' x:=by
       intro x F2 nu2 w' st hRv
       have noOwn: ∀rb,¬qa9 (fun _=>none) [] rb:=by
        rintro rb ⟨b,x,hb,_⟩
        cases hb
       have hkeep: ∀rb,rb<w.heap.size→w'.heap[rb]? =w.heap[rb]? :=fun rb hlt=>st.keep rb hlt (noOwn rb)
       have hF3: ∀rb,rb<w.heap.size→FS F2 nu2 Al (List.range Al.length) rb→FS F nu A S rb:=by
        rintro rb hlt (h1|⟨b,x,_,h1,h2,h3⟩)
        ·rcases st.newF rb h1 with h2|h2|h2
         ·exact h2
         ·omega
         ·exact absurd h2 (noOwn rb)
        ·exact absurd (st.own rb hlt ⟨b,x,h1,h2,h3⟩) (noOwn rb)
       have hv3:=qeY st.inv 12 hv0 hRv
       split at h
       ·rename_i hflat
        simp only[Option.some.injEq,Prod.mk.injEq]at h
        obtain⟨rfl,rfl⟩:=h
        have x1:Ext F nu w F nu w':=⟨fun _ h=>h,fun _ _ h=>h,fun rb h=>hkeep rb (i.ltF rb h),st.shape⟩
        refine⟨F,nu,⟨fun _ h=>h,fun _ _ h=>h,st.shape,⟨fun b rb y hb hy=>(i.blk b rb y hb hy).mono x1 (hkeep rb (i.ltN b rb hb)) id,i.inj,i.fresh,fun rb h=>?_,fun b rb h=>?_,Glob.ext i.glob x1⟩,fun rb hlt _=>hkeep rb hlt,fun _ _ h=>h,st.size,st.os,st.tape,st.output,fun _ _=>rfl,Nat.le_refl _,fun _ h=> .inl h⟩,qnT 6 hflat hv3⟩
        ·have:=i.ltF rb h;have:=st.size;omega
        ·have:=i.ltN b rb h;have:=st.size;omega
       ·simp only[Option.some.injEq,Prod.mk.injEq]at h
        obtain⟨rfl,rfl⟩:=h
        have fF: ∀rb,F rb→FS F2 nu2 Al (List.range Al.length) rb:=fun rb h=> .inl (st.f rb (.inl h))
        have x1:Ext F nu w (FS F2 nu2 Al (List.range Al.length)) nu w':=⟨fF,fun _ _ h=>h,fun rb h=>hkeep rb (i.ltF rb h),st.shape⟩
        refine⟨FS F2 nu2 Al (List.range Al.length),nu,⟨fF,fun _ _ h=>h,st.shape,⟨fun b rb y hb hy=>?_,fun b b' rb y y' hb hb' hy hy' ho ho'=>?_,fun b hb=>i.fresh b (by rwa [zP]at hb),fun rb h=>?_,fun b rb h=>?_,Glob.ext i.glob x1⟩,fun rb hlt _=>hkeep rb hlt,?_,st.size,st.os,st.tape,st.output,fun _ _=>rfl,by rw[zP];exact Nat.le_refl _,fun rb h=>?_⟩,hv3.mono ⟨fun _ h=>h,by simp,fun _ _=>rfl,fun _ _ h=>h⟩⟩
        ·have hlt:=i.ltN b rb hb
         rcases vB S A b y hy with rfl|⟨hnS,hA⟩|⟨hS2,cs,rfl,hA⟩
         ·trivial
         ·have h0:=i.blk b rb y hb hA
          by_cases hyo:y.owned=true
          ·refine h0.mono x1 (hkeep rb hlt) (fun hf=>?_)
           rcases hF3 rb hlt hf with h1|⟨b',x',h1,h2,h3,h4⟩
           ·exact h1
           ·exact absurd (i.inj b b' rb y x' hb h2 hA h3 hyo h4▸h1) hnS
          ·cases y with
           |dead=>trivial
           |frozen cs=>exact h0.mono x1 (hkeep rb hlt) (fun _=>h0.1)
           |_=>simp[Blk.owned]at hyo
         ·rcases hA with hA|hA
          ·obtain⟨h0,vs2,e,h1,h2,h3⟩:=i.blk b rb _ hb hA
           exact⟨.inl (st.f rb (.inr ⟨b,_,hS2,hb,hA,rfl⟩)),vs2,e,_,(hkeep rb hlt).trans h1,h2,fun j a v ha hv=>(h3 j a v ha hv).mono x1⟩
          ·obtain⟨h0,vs2,e,fr,h1,h2,h3⟩:=i.blk b rb _ hb hA
           exact⟨fF rb h0,vs2,e,fr,(hkeep rb hlt).trans h1,h2,fun j a v ha hv=>(h3 j a v ha hv).mono x1⟩
        ·have old: ∀(b:Nat) (y:Blk),(kz S A)[b]? =some y→y.owned=true→A[b]? =some y:=by
          intro b y hy ho
          rcases vB S A b y hy with rfl|⟨_,hA⟩|⟨_,cs,rfl,_⟩
          ·cases ho
          ·exact hA
          ·cases ho
         exact i.inj b b' rb y y' hb hb' (old b y hy ho) (old b' y' hy' ho') ho ho'
        ·rcases h with h|⟨b,x,_,h,_⟩
         ·exact st.inv.ltF rb h
         ·exact st.inv.ltN b rb h
        ·have:=i.ltN b rb h;have:=st.size;omega
        ·rintro rb hlt ⟨b,y,hb,hy,ho⟩
         rcases vB S A b y hy with rfl|⟨_,hA⟩|⟨_,cs,rfl,_⟩
         ·cases ho
         ·exact⟨b,y,hb,hA,ho⟩
         ·cases ho
        ·rcases Nat.lt_or_ge rb w.heap.size with hlt|hge
         ·rcases hF3 rb hlt h with h1|⟨b,x,_,h1,h2,h3⟩
          ·exact .inl h1
          ·exact .inr (.inr ⟨b,x,h1,h2,h3⟩)
         ·exact .inr (.inl hge)
      rcases hok _ _ w vs i1 hR' with⟨hent,hcalls⟩|⟨x,w',F2,nu2,hrun,st,hRv⟩
      ·refine .inl ⟨hent,hcalls.mono ?_⟩
       rintro e w' ⟨x,F2,nu2,rfl,st,hRv⟩
       obtain⟨F',nu',h1,h2⟩:=core x F2 nu2 w' st hRv
       exact⟨x,F',nu',rfl,h1,h2⟩
      ·obtain⟨F',nu',h1,h2⟩:=core x F2 nu2 w' st hRv
       exact .inr ⟨x,w',F',nu',hrun,h1,h2⟩
     ·cases h
    ·cases h
   ·cases h
  ·exact hc _ _ _ _ _ h
def qoN (P:Program) (N:Nat) (pre:zM) (pl:FuncId→Bool):Nat→zM
 |0=>pre
 |d+1=>fun c args A=>match pre c args A with
  |some r=>some r
  |none=>qhS (qib P (qoN P N pre pl d) N) pl c args A
theorem qln {call:zM} {N:Nat} (hm:P.follows .mixedOrders=true) (hc:zg P call):zg P (qib P call N):=by
 intro c args A v A' h
 cases c with
 |fn f=>exact qmT hc hm h
 |rd b=>exact qmf hc hm h
 |mt t m=>cases h
end
end Go.Av
