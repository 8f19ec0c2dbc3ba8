/-
  The operations on abstract values tell what the machine does: slice expressions, len, cap, append, copy.
-/
import Derived.Test.YthgioiakbbhonaaGreatDoorAvSndB
import Derived.Laws.AppendOwn
noncomputable section
namespace Go.Av
set_option linter.unusedSectionVars false
variable [Glob]
open Go.RowKit
section
variable {P:Program} {F:Nat->Prop} {nu:Nat->Option Nat} {A:Heap} {w:World}
def RO (F:Nat->Prop) (nu:Nat->Option Nat) (w:World):Option AV->Option Value->Prop
 |none,none=>True
 |some a,some v=>R F nu w a v
 |_,_=>False
theorem qcV {x:Option AV} {xv:Option Value} (h:RO F nu w x xv) {d most r:Nat} (code:BoundsCode) (hb:ym x d most=some r):
 (match xv with|some v=>Instr.sliceBound v most code|none=>pure d:Sem Nat).run P w= .ok r w/\(d<=most->r<=most):=by
 cases x with
 |none=>
  cases xv with
  |none=>simp only[ym,ZI]at hb;subst hb;exact⟨rfl,id⟩
  |some v=>exact h.elim
 |some a=>
  cases xv with
  |none=>exact h.elim
  |some v=>
   cases h<;>simp only[ym,reduceCtorEq]at hb
   split at hb
   ·rename_i hh;injection hb with hb;subst hb;exact⟨by simp[Instr.sliceBound,asIntOf,hh.1,hh.2],λ_=>by omega⟩
   cases hb
theorem qaE {lo hi mx:Option AV} {lv hv mv:Option Value} (hl:RO F nu w lo lv) (hh:RO F nu w hi hv) (hm:RO F nu w mx mv) (isSlice:Bool) {len cap cap2 l h m:Nat} (hlc:len<=cap) (hc:cap<=cap2)
 (hb:qaL lo hi mx len cap=some (l,h,m)): ∃m2,(Instr.sliceBounds isSlice len cap2 lv hv mv).run P w= .ok (l,h,m2) w/\l<=h/\h<=m/\m<=cap/\(mx.isSome=true->m2=m)/\(mx=none->m2=cap2/\m=cap):=by
 unfold qaL at hb;split at hb
 ·cases hb
 rename_i hns;split at hb
 ·rename_i m' hbm;split at hb
  ·rename_i h' hbh;split at hb
   ·rename_i l' hbl;simp only[ZI,ZP]at hb;obtain⟨rfl,rfl,rfl⟩:=hb
    cases mx with
    |none=>
     cases mv with
     |some _=>exact hm.elim
     |none=>
      simp only[ym,ZI]at hbm;subst hbm;simp only[aW,ZF,aU]at hbh
      have hbh2:ym hi len cap2=some h':=by
       cases hi with
       |none=>simpa[ym]using hbh
       |some a=>cases a<;>simp only[ym,reduceCtorEq]at hbh⊢;split at hbh<;>simp_all;omega
      have e1:=qcV (P:=P) hh (if isSlice then .sliceAcap else .sliceAlen) hbh2;have e1':=(qcV (P:=P) hh .sliceAcap hbh).2 hlc;have e2:=qcV (P:=P) hl .sliceB hbl;refine⟨cap2,?_,e2.2 (aF _),e1',ag _,by simp,by simp⟩;unfold Instr.sliceBounds
      cases hv with
      |none=>
       simp only[Sem.run_pure]at e1;simp only[Result.ok.injEq,eS]at e1;have:=e1.1;subst this;simp only[Sem.run_bind,Sem.run_pure,Result.andThen_ok,aW,ZF,aU];cases lv<;>simp_all
      |some v=>
       simp only[Sem.run_bind,Sem.run_pure,Result.andThen_ok,aW,ZF,aU];simp only[e1.1,Result.andThen_ok];cases lv<;>simp_all
    |some ma=>
     cases mv with
     |none=>exact hm.elim
     |some mw=>
      cases hi with
      |none=>simp at hns
      |some ha=>
       cases hv with
       |none=>exact hh.elim
       |some hw=>
        simp only[dW,aJ]at hbh
        have hbm2:ym (some ma) cap2 cap2=some m':=by
         cases ma<;>simp only[ym,reduceCtorEq]at hbm⊢;split at hbm<;>simp_all;omega
        have e0:=qcV (P:=P) (x:=some ma) (xv:=some mw) hm (if isSlice then .slice3Acap else .slice3Alen) hbm2;have e0':=(qcV (P:=P) (x:=some ma) (xv:=some mw) hm .slice3Acap hbm).2 (ag _);have e1:=qcV (P:=P) (x:=some ha) (xv:=some hw) hh .slice3B hbh;have e2:=qcV (P:=P) hl .slice3C hbl;refine⟨m',?_,e2.2 (aF _),e1.2 (ag _),e0',by simp,by simp⟩;unfold Instr.sliceBounds;simp only[Sem.run_bind,e0.1,Result.andThen_ok,e1.1,dW,aJ];cases lv<;>simp_all
   cases hb
  cases hb
 cases hb
theorem RO.none_of {x:Option AV} {xv:Option Value} (h:RO F nu w x xv) (hx:x=none):xv=none:=by
 subst hx
 cases xv with
 |none=>rfl
 |some _=>exact h.elim
theorem ok_slice (i:Inv F nu A w) {t:TypeId} {x:AV} {xv:Value} {lo hi mx:Option AV} {lv hv mv:Option Value} (hx:R F nu w x xv) (hl:RO F nu w lo lv) (hh:RO F nu w hi hv) (hm:RO F nu w mx mv) {f:zG}:
 Ok P F nu A w (Instr.sliceAt t xv lv hv mv) (exec (.opt (qC P t x lo hi mx)) A f):=by
 refine Ok.opt i (λv hv'=>?_);unfold qC at hv';split at hv'
 ·rename_i ht;split at hv'
  ·rename_i s
   cases hx with
   |str bs _ hs=>
    split at hv'
    ·cases hv'
    rename_i hns;split at hv'
    ·rename_i l h m hb;injection hv' with hv';subst hv'
     have hmn:mx=none:=by cases mx<;>simp_all
     have hmv:=hm.none_of hmn;subst hmn;subst hmv
     have hsz:s.length=bs.size:=by subst hs;simp
     obtain⟨m2,hrun,h1,h2,h3,_,_⟩:=qaE (P:=P) hl hh hm false (ag _) (ag _) hb;rw[hsz]at hrun;refine⟨.string (bs.extract l h),?_,.str _ _ ?_⟩
     ·simp only[Instr.sliceAt,Sem.run_bind,run_underlying ht,Result.andThen_ok,Instr.slice];simp[hrun]
     subst hs;simp[ByteArray.data_extract,Array.toList_extract]
    cases hv'
  cases hv'
 ·rename_i e ht;split at hv'
  ·cases hv'
  rename_i inf hinf;have hrun0: ∀(a:Option Addr) (len cap l h m:Nat),(Instr.sliceBounds true len cap lv hv mv).run P w= .ok (l,h,m) w->
   (Instr.sliceAt t (.slice a len cap) lv hv mv).run P w= .ok (.slice (if m=l then a else a.map (·.add (l*inf.size))) (h-l) (m-l)) w:=by
   intro a len cap l h m hr;simp only[Instr.sliceAt,Sem.run_bind,run_underlying ht,Result.andThen_ok,Instr.slice,hr,qQ hinf];rfl
  split at hv'
  ·rename_i n cs;split at hv'
   ·cases hv'
   rename_i hns
   have hmn:mx=none:=by cases mx<;>simp_all
   have hmv:=hm.none_of hmn;subst hmn;subst hmv;split at hv'
   ·rename_i l h m hb;split at hv'
    ·rename_i hcl;injection hv' with hv';subst hv'
     have done: ∀(a:Option Addr) (cap:Nat),n<=cap->(∀h2:0<n,∃(ad:Addr) (vs:List Value),a=some ad/\F ad.block/\vs.length=cs.length/\(∀(j:Nat) (v:Value),vs[j]? =some v->w.cell? (ad.add j)=some v)/\
      ∀(j:Nat) (a:AV) (v:Value),cs[j]? =some a->vs[j]? =some v->R F nu w a v)->
      ∃x,(Instr.sliceAt t (.slice a n cap) lv hv none).run P w= .ok x w/\R F nu w (.fslice (h-l) ((cs.drop (l*inf.size)).take ((h-l)*inf.size))) x:=by
      intro a cap hcap hgo;obtain⟨m2,hrun,h1,h2,h3,_,h5⟩:=qaE (P:=P) (cap2:=cap) hl hh hm true (ag _) hcap hb;obtain⟨rfl,rfl⟩:=h5 rfl;refine⟨_,hrun0 _ _ _ _ _ _ hrun,?_⟩;rcases bj (h-l)with h0|h0
      ·rw[h0,bf,bh];exact .fslice0 _ _
      rw[aa (by omega)];obtain⟨ad,vs,rfl,hF,hlen,hc,hR⟩:=hgo (by omega);refine .fslice _ _ (ad.add (l*inf.size)) _ ((vs.drop (l*inf.size)).take ((h-l)*inf.size)) (by omega) (by rw[add_block];exact hF) (by simp[hlen]) (λj v hv=>?_) (λj a v ha hv=>?_)
      ·rw[Yt]at hv;split at hv
       ·rw[YI]at hv;rw[add_add];exact hc _ v hv
       cases hv
      rw[Yt]at ha hv;split at ha
      ·rename_i hj;rw[ae hj]at hv;rw[YI]at ha hv;exact hR _ a v ha hv
      cases ha
     cases hx with
     |fslice0 B cap=>exact done B cap (aF _) (λh=>absurd h (by omega))
     |fslice _ _ ad cap vs hn hF hlen hc hR=>exact done _ cap hn (λ_=>⟨ad,vs,rfl,hF,hlen,hc,hR⟩)
    cases hv'
   cases hv'
  ·split at hv'
   ·rename_i r hb;injection hv' with hv';subst hv';obtain⟨l,h,m⟩:=r;cases hx
    obtain⟨m2,hrun,h1,h2,h3,h4,h5⟩:=qaE (P:=P) hl hh hm true (ag _) (ag _) hb
    have e1:l=0:=by omega
    have e2:h=0:=by omega
    have e3:m2=0:=by
     cases mx with
     |none=>exact(h5 rfl).1
     |some _=>have:=h4 rfl;omega
    subst e1 e2 e3;exact⟨_,hrun0 _ _ _ _ _ _ hrun,by simpa using R.nilslice⟩
   cases hv'
  ·rename_i b off n cap esz;split at hv'
   ·rename_i l h m hb;split at hv'
    ·injection hv' with hv';subst hv'
     cases hx with
     |slice _ _ _ _ _ rb hr hc=>
      obtain⟨m2,hrun,h1,h2,h3,h4,h5⟩:=qaE (P:=P) hl hh hm true hc (ag _) hb
      have e3:m2=m:=by
       cases mx with
       |none=>have:=h5 rfl;omega
       |some _=>exact h4 rfl
      subst e3;refine⟨_,hrun0 _ _ _ _ _ _ hrun,?_⟩;by_cases hml:m2=l
      ·rw[ae hml,ae hml];exact .slice _ _ _ _ _ _ hr (by omega)
      rw[aa hml,aa hml];simp only[ZM,jB];exact .slice _ _ _ _ _ _ hr (by omega)
    cases hv'
   cases hv'
  ·rename_i b n esz;split at hv'
   ·split at hv'
    ·rename_i l h m hb;split at hv'
     ·rename_i hc0;injection hv' with hv';subst hv'
      cases hx with
      |oslice _ _ _ rb cap e' m' hr hc hs hm' hxx=>
       have hmv:=hm.none_of rfl;subst hmv;obtain⟨m2,hrun,h1,h2,h3,_,h5⟩:=qaE (P:=P) (cap2:=cap) hl hh hm true (ag _) hc hb;obtain⟨rfl,rfl⟩:=h5 rfl;obtain⟨rfl,_⟩:=hc0;refine⟨_,hrun0 _ _ _ _ _ _ hrun,?_⟩;by_cases hml:m2=0
       ·rw[ae hml];exact .oslice _ _ _ _ _ _ _ hr (by omega) hs (by simpa using hm') (by omega)
       rw[aa hml];simp only[ZM,bf,add_zero',cR];exact .oslice _ _ _ _ _ _ _ hr (by omega) hs hm' (by omega)
     cases hx with
     |oslice _ _ _ rb cap e' m' hr hc hs hm' hxx=>
      have hmv:=hm.none_of rfl;subst hmv;obtain⟨m2,hrun,h1,h2,h3,_,h5⟩:=qaE (P:=P) (cap2:=cap) hl hh hm true (ag _) hc hb;obtain⟨rfl,rfl⟩:=h5 rfl;refine⟨_,hrun0 _ _ _ _ _ _ hrun,?_⟩;split at hv'
      ·rename_i hlh;injection hv' with hv';subst hv';subst hlh;rw[bR];exact .fslice0 _ _
      rename_i hlh;split at hv'
      ·injection hv' with hv';subst hv'
       have hml: ¬m2=l:=by omega
       rw[aa hml];simp only[ZM,jB,az];exact .wslice _ _ _ _ _ _ hr (by omega)
      cases hv'
    cases hv'
   rename_i ma;split at hv'
   ·rename_i l h m hb;split at hv'
    ·injection hv' with hv';subst hv'
     cases hx with
     |oslice _ _ _ rb cap e' m' hr hc hs hm' hxx=>
      obtain⟨m2,hrun,h1,h2,h3,h4,_⟩:=qaE (P:=P) (cap2:=cap) hl hh hm true (ag _) hc hb;have:=h4 rfl;subst this;refine⟨_,hrun0 _ _ _ _ _ _ hrun,?_⟩;by_cases hml:m2=l
      ·rw[ae hml,ae hml];exact .slice _ _ _ _ _ _ hr (by omega)
      rw[aa hml,aa hml];simp only[ZM,jB,az];exact .slice _ _ _ _ _ _ hr (by omega)
    cases hv'
   cases hv'
  ·rename_i b n esz;split at hv'
   ·cases hv'
   rename_i hmx
   have hmv0:mx=none:=by
    cases mx with
    |none=>rfl
    |some _=>simp at hmx
   subst hmv0;have hmv:=hm.none_of rfl;subst hmv;split at hv'
   ·rename_i l h m hb
    cases hx with
    |gslice0=>
     obtain⟨m2,hrun,h1,h2,h3,_,h5⟩:=qaE (P:=P) (cap2:=0) hl hh hm true (ag _) (ag _) hb;obtain⟨rfl,rfl⟩:=h5 rfl
     have e2:h=0:=by omega
     have e1:l=0:=by omega
     subst e2 e1;rw[ae ⟨rfl,.inr rfl⟩]at hv';injection hv' with hv';subst hv';exact⟨_,hrun0 _ _ _ _ _ _ hrun,.fslice0 _ _⟩
    |gslice _ _ _ rb cap e' m' hp hr hc hs hm' hxx=>
     obtain⟨m2,hrun,h1,h2,h3,_,h5⟩:=qaE (P:=P) (cap2:=cap) hl hh hm true (ag _) hc hb;obtain⟨rfl,rfl⟩:=h5 rfl;refine⟨_,hrun0 _ _ _ _ _ _ hrun,?_⟩;split at hv'
     ·rename_i hlh;injection hv' with hv';subst hv';rw[hlh.1,bR];exact .fslice0 _ _
     rename_i hlh;split at hv'
     ·split at hv'
      ·rename_i hl0;injection hv' with hv';subst hv';subst hl0;by_cases hml:m2=0
       ·rw[ae hml];exact .oslice _ _ _ _ _ _ _ hr (by omega) hs (by simpa using hm') (by omega)
       rw[aa hml];simp only[ZM,bf,add_zero',cR];exact .oslice _ _ _ _ _ _ _ hr (by omega) hs hm' (by omega)
      rename_i hl0;injection hv' with hv';subst hv'
      have hml: ¬m2=l:=by omega
      rw[aa hml];simp only[ZM,jB,az];exact .wslice _ _ _ _ _ _ hr (by omega)
     cases hv'
   cases hv'
  ·rename_i b off n esz;split at hv'
   ·cases hv'
   rename_i hmx;split at hv'
   ·rename_i l h m hb
    cases hx with
    |wslice _ _ _ _ rb cap hr hc=>
     have hmv0:mx=none:=by
      cases mx with
      |none=>rfl
      |some _=>simp at hmx
     subst hmv0;have hmv:=hm.none_of rfl;subst hmv;obtain⟨m2,hrun,h1,h2,h3,_,h5⟩:=qaE (P:=P) (cap2:=cap) hl hh hm true (ag _) hc hb;obtain⟨rfl,rfl⟩:=h5 rfl;refine⟨_,hrun0 _ _ _ _ _ _ hrun,?_⟩;split at hv'
     ·rename_i hlh;injection hv' with hv';subst hv';subst hlh;rw[bR];exact .fslice0 _ _
     rename_i hlh;split at hv'
     ·injection hv' with hv';subst hv'
      have hml: ¬m2=l:=by omega
      rw[aa hml];simp only[ZM,jB];exact .wslice _ _ _ _ _ _ hr (by omega)
     cases hv'
   cases hv'
  cases hv'
 cases hv'
theorem zD {v v':AV} {A':Heap} {f f':zG} (h:exec (.done v) A f=some (v',A',f')):v'=v/\A'=A:=by
 simp only[exec,ZI,ZP]at h;exact⟨h.1.symm,h.2.1.symm⟩
theorem qmc {t e:TypeId} (ht:P.underlying t=some (.slice e)) (ty:TypeId) (a:Option Addr) (n c:Nat):(Builtin.len_ #[t] ty #[.slice a n c]).run P w= .ok (.int .i64 n) w:=by
 simp[Builtin.len_,run_underlying ht,goInt]
theorem qmm {t e:TypeId} (ht:P.underlying t=some (.slice e)) (ty:TypeId) (a:Option Addr) (n c:Nat):(Builtin.cap_ #[t] ty #[.slice a n c]).run P w= .ok (.int .i64 c) w:=by
 simp[Builtin.cap_,run_underlying ht,goInt]
theorem qr9 (i:Inv F nu A w) {t:TypeId} {d:TypeDesc} {x:AV} {xv:Value} (ht:P.underlying t=some d) (ty:TypeId) (hx:R F nu w x xv) {f:zG}:Ok P F nu A w (Builtin.len_ #[t] ty #[xv]) (exec (aLen d x) A f):=by
 intro v A' f' h;unfold aLen at h;split at h
 ·cases hx<;>try (simp[exec]at h;done)
  rename_i s l hs;obtain⟨rfl,rfl⟩:=zD h;subst hs;exact⟨.int .i64 s.size,w,nu,by simp[Builtin.len_,run_underlying ht,goInt],.refl i,by simpa using R.int .i64 _⟩
 ·cases hx<;>try (simp[exec]at h;done)
  all_goals
   obtain⟨rfl,rfl⟩:=zD h;exact⟨_,w,nu,qmc ht ty _ _ _,.refl i,.int .i64 _⟩
 ·cases hx<;>try (simp[exec]at h;done)
  ·obtain⟨rfl,rfl⟩:=zD h;exact⟨.int .i64 0,w,nu,by simp[Builtin.len_,run_underlying ht,goInt],.refl i,.int .i64 _⟩
  ·rename_i b rb hb;simp only[exec]at h;split at h
   ·rename_i y hy;split at h
    ·rename_i ks vs;obtain⟨rfl,rfl⟩:=zD h;obtain⟨_,es,c,h1,h2,_,_,_⟩:=i.blk b rb _ hb hy;exact⟨.int .i64 es.size,w,nu,by simp[Builtin.len_,run_underlying ht,goInt,getObj,Sem.run,h1],.refl i,by rw[<-h2];exact R.int .i64 _⟩
    simp[exec]at h
   cases h
  rename_i ks vs rb es c hF hh hk hv hRk hRv;obtain⟨rfl,rfl⟩:=zD h;exact⟨.int .i64 es.size,w,nu,by simp[Builtin.len_,run_underlying ht,goInt,getObj,Sem.run,hh],.refl i,by rw[<-hk];exact R.int .i64 _⟩
 ·obtain⟨rfl,rfl⟩:=zD h;exact⟨_,w,nu,by simp[Builtin.len_,run_underlying ht,goInt],.refl i,.int .i64 _⟩
 simp[exec]at h
theorem qsd (i:Inv F nu A w) {t e:TypeId} {x:AV} {xv:Value} (ht:P.underlying t=some (.slice e)) (ty:TypeId) (hx:R F nu w x xv) {f:zG}:Ok P F nu A w (Builtin.cap_ #[t] ty #[xv]) (exec (.opt (aCap x)) A f):=by
 refine Ok.opt i (λv hv=>?_);cases hx<;>simp only[aCap,ZI,reduceCtorEq]at hv<;>subst hv
 all_goals exact⟨_,qmm ht ty _ _ _,.int .i64 _⟩
end
end Go.Av
