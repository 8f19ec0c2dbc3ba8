/-
  The operations on abstract values tell what the machine does: copy, make, maps, ranges over strings, conversions.
-/
import Derived.Test.YthgioiakbbhonaaGreatDoorAvSndD
noncomputable section
namespace Go.Av
set_option linter.unusedSectionVars false
variable [Glob]
open Go.RowKit
section
variable {P:Program} {F:Nat->Prop} {nu:Nat->Option Nat} {A:Heap} {w:World}
theorem qqT (i:Inv F nu A w) {types:List TypeId} {ty:TypeId} {d x:AV} {dv xv:Value} (hd:R F nu w d dv) (hx:R F nu w x xv) {f:zG}:Ok P F nu A w (Builtin.copy_ types.toArray ty #[dv,xv]) (exec (qcu P types d x) A f):=by
 intro v A' f' h;unfold qcu at h;split at h
 ·rename_i t ts;split at h
  ·rename_i e ht;split at h
   ·simp[exec]at h
   rename_i inf hi;have go: ∀(b off len cap rb:Nat),nu b=some rb->exec (kz inf.size x λn cs=>qbl inf.size b off len n cs) A f=some (v,A',f')->
    ∃y w' nu',(Builtin.copy_ (t::ts).toArray ty #[.slice (some ⟨rb,off,none⟩) len cap,xv]).run P w= .ok y w'/\Stp F nu A w F nu' A' w'/\R F nu' w' v y:=by
    intro b off len cap rb hb h;have fin: ∀(n:Nat) (news:List AV) (vs:List Value) (f2:zG),(Builtin.lenOf xv).run P w= .ok n w->(∀m,m<=n-> ∃ws:List Value,ws=vs.take (m*inf.size)/\(Builtin.firstCells inf.size m xv).run P w= .ok ws.toArray w)->news.length=vs.length->
     (∀(j:Nat) (a:AV) (v:Value),news[j]? =some a->vs[j]? =some v->R F nu w a v)->(∀u∈vs,u.oneCell'=true)->exec (qbl inf.size b off len n news) A f2=some (v,A',f')->
     ∃y w' nu',(Builtin.copy_ (t::ts).toArray ty #[.slice (some ⟨rb,off,none⟩) len cap,xv]).run P w= .ok y w'/\Stp F nu A w F nu' A' w'/\R F nu' w' v y:=by
     intro n news vs f2 hlen hfirst hl hR h1 h;simp only[qbl,exec]at h;split at h
     ·rename_i y hy;split at h
      ·rename_i old;split at h
       ·rename_i hc;simp only[exec]at h;split at h
        ·simp only[ZI,ZP]at h;obtain⟨rfl,rfl,_⟩:=h;obtain⟨ws,rfl,hws⟩:=hfirst (Nat.min n len) (Nat.min_le_left _ _)
         obtain⟨w',hst,hstp⟩:=qee (P:=P) (off:=off) (xs:=news.take (Nat.min n len*inf.size)) i hb hy hc (ys:=vs.take (Nat.min n len*inf.size)) (by simp;omega) (λu hu=>h1 u (dh hu)) (λj a v ha hv=>by
          rw[Yt]at ha hv;split at ha
          ·rename_i hj;rw[ae hj]at hv;exact hR j a v ha hv
          cases ha)
         refine⟨.int .i64 (Nat.min n len:Nat),w',nu,?_,hstp,.int _ _⟩;simp[Builtin.copy_,run_underlying ht,hlen,qQ hi,hws,hst,goInt]
        cases h
       simp[exec]at h
      simp[exec]at h
     cases h
    have fc: ∀(ad:Addr) (n c:Nat) (vs:List Value),vs.length=n*inf.size->(∀(j:Nat) (v:Value),vs[j]? =some v->w.cell? (ad.add j)=some v)-> ∀m,m<=n-> ∃ws:List Value,ws=vs.take (m*inf.size)/\(Builtin.firstCells inf.size m (.slice (some ad) n c)).run P w= .ok ws.toArray w:=by
     intro ad n c vs hl hc m hm;refine⟨_,rfl,run_firstCells_some (P:=P) w inf.size m ad n c _ ?_ (λj v hv=>?_)⟩
     ·have:=aN inf.size hm;simp;omega
     rw[Yt]at hv;split at hv
     ·exact hc j v hv
     cases hv
    cases hx with
    |str bs l hs=>
     simp only[kz]at h;split at h
     ·rename_i hsz;subst hs;refine fin bs.data.toList.length _ (byteCells bs) f (by simp[Builtin.lenOf]) (λm hm=>⟨_,rfl,?_⟩) (by simp[byteCells]) (λj a v ha hv=>?_) ?_ h
      ·rw[hsz,cF];simp only[Builtin.firstCells,Sem.run_pure];congr 1;apply Array.ext';simp[byteCells,ByteArray.data_extract]
      ·have hb2:byteCells bs=bs.data.toList.map λc=>Value.int .u8 c.toNat:=by simp[byteCells]
       rw[hb2,YA]at hv;rw[YA]at ha
       cases hc:bs.data.toList[j]? with
       |none=>simp[hc]at ha
       |some c=>
        simp only[hc,ZM,ZI]at ha hv;subst ha;subst hv;exact .int _ _
      intro u hu;simp only[byteCells,List.mem_map]at hu;obtain⟨c,_,rfl⟩:=hu;rfl
     simp[exec]at h
    |nilslice=>exact fin 0 [] [] f rfl (λm hm=>⟨[],by simp,rfl⟩) rfl (by simp) (by simp) (by simpa[kz]using h)
    |fslice0 B cap2=>
     simp only[kz]at h;split at h
     ·refine fin 0 [] [] f rfl (λm hm=>⟨[],by simp,?_⟩) rfl (by simp) (by simp) h
      have:m=0:=by omega
      subst this;cases B<;>simp[Builtin.firstCells,loadCells,loadCellsFrom]
     simp[exec]at h
    |fslice n cs ad cap2 vs hn hF hl hc hR=>
     simp only[kz]at h;split at h
     ·rename_i hcc;have:RL F nu w cs vs.toArray:=⟨by simp[hl],λj a v ha hv=>hR j a v ha (by simpa using hv)⟩;exact fin n cs vs f rfl (fc ad n cap2 vs (hl.trans hcc.1) hc) hl.symm hR (λu hu=>this.cells_one hcc.2 u (by simpa using hu)) h
     simp[exec]at h
    |slice b2 off2 n cap2 esz2 rb2 hb2 hc2=>
     obtain⟨y,cs,hA,hcs,hk2⟩:=jr (by simpa only[kz]using h);obtain⟨vs,h1,h2,h3,h4⟩:=qaF i hb2 hA hcs;split at hk2
     ·rename_i hone;have:RL F nu w cs vs.toArray:=⟨by simp;omega,λj a v ha hv=>h4 j a v ha (by simpa using hv)⟩;exact fin n cs vs _ rfl (fc ⟨rb2,off2,none⟩ n cap2 vs h1 (λj v hv=>by rw[jB];exact h3 j v hv)) (by omega) h4 (λu hu=>this.cells_one hone u (by simpa using hu)) hk2
     simp[exec]at hk2
    |oslice b2 n esz2 rb2 cap2 e2 m2 hb2 hc2 hs2 hm2=>
     obtain⟨y,cs,hA,hcs,hk2⟩:=jr (by simpa only[kz]using h);obtain⟨vs,h1,h2,h3,h4⟩:=qaF i hb2 hA hcs;split at hk2
     ·rename_i hone;have:RL F nu w cs vs.toArray:=⟨by simp;omega,λj a v ha hv=>h4 j a v ha (by simpa using hv)⟩;exact fin n cs vs _ rfl (fc ⟨rb2,0,none⟩ n cap2 vs h1 (λj v hv=>by rw[jB];exact h3 j v hv)) (by omega) h4 (λu hu=>this.cells_one hone u (by simpa using hu)) hk2
     simp[exec]at hk2
    |gslice b2 n esz2 rb2 cap2 e2 m2 hp2 hb2 hc2 hs2 hm2=>
     obtain⟨y,cs,hA,hcs,hk2⟩:=jr (by simpa only[kz]using h);obtain⟨vs,h1,h2,h3,h4⟩:=qaF i hb2 hA hcs;split at hk2
     ·rename_i hone;have:RL F nu w cs vs.toArray:=⟨by simp;omega,λj a v ha hv=>h4 j a v ha (by simpa using hv)⟩;exact fin n cs vs _ rfl (fc ⟨rb2,0,none⟩ n cap2 vs h1 (λj v hv=>by rw[jB];exact h3 j v hv)) (by omega) h4 (λu hu=>this.cells_one hone u (by simpa using hu)) hk2
     simp[exec]at hk2
    |gslice0 b2 esz2 p2=>
     obtain⟨y,cs,hA,hcs,hk2⟩:=jr (by simpa only[kz]using h)
     have hcs0:cs=[]:=by
      rw[bf]at hcs;unfold yN at hcs;split at hcs
      ·split at hcs
       ·injection hcs with hcs;simpa using hcs.symm
       cases hcs
      ·split at hcs
       ·injection hcs with hcs;simpa using hcs.symm
       cases hcs
      ·split at hcs
       ·simp at*
       cases hcs
      cases hcs
     subst hcs0;simp only[eh,aJ]at hk2
     exact fin 0 [] [] _ rfl (λm hm=>⟨[],by simp,by
      have:m=0:=by omega
      subst this
      cases p2 with
      |none=>simp[Builtin.firstCells]
      |some a=>exact run_firstCells_some (P:=P) w inf.size 0 a 0 0 [] (by simp) (λj v hv=>by simp at hv)⟩) rfl (by simp) (by simp) hk2
    |wslice b2 off2 n esz2 rb2 cap2 hb2 hc2=>
     obtain⟨y,cs,hA,hcs,hk2⟩:=jr (by simpa only[kz]using h);obtain⟨vs,h1,h2,h3,h4⟩:=qaF i hb2 hA hcs;split at hk2
     ·rename_i hone;have:RL F nu w cs vs.toArray:=⟨by simp;omega,λj a v ha hv=>h4 j a v ha (by simpa using hv)⟩;exact fin n cs vs _ rfl (fc ⟨rb2,off2,none⟩ n cap2 vs h1 (λj v hv=>by rw[jB];exact h3 j v hv)) (by omega) h4 (λu hu=>this.cells_one hone u (by simpa using hu)) hk2
     simp[exec]at hk2
    |_=>simp[kz,exec]at h
   split at h
   ·split at h
    ·cases hd with
     |slice _ _ _ _ _ rb hb hc=>exact go _ _ _ _ rb hb h
    simp[exec]at h
   ·split at h
    ·cases hd with
     |oslice _ _ _ rb cap e m hb hc hs hm=>exact go _ _ _ _ rb hb h
    simp[exec]at h
   ·split at h
    ·rename_i hpos
     cases hd with
     |gslice0=>exact absurd hpos.1 (Nat.lt_irrefl _)
     |gslice _ _ _ rb cap e m hp hb hc hs hm=>exact go _ _ _ _ rb hb h
    simp[exec]at h
   ·split at h
    ·cases hd with
     |wslice _ _ _ _ rb cap hb hc=>exact go _ _ _ _ rb hb h
    simp[exec]at h
   simp[exec]at h
  simp[exec]at h
 simp[exec]at h
theorem qom (i:Inv F nu A w) {types:List TypeId} {ty:TypeId} {x:AV} {xv:Value} (hx:R F nu w x xv) {f:zG}:Ok P F nu A w (Builtin.clear_ types.toArray ty #[xv]) (exec (qmp P types x) A f):=by
 intro v A' f' h;unfold qmp at h;split at h
 ·rename_i t;split at h
  ·rename_i e ht;split at h
   ·rename_i z hz;obtain⟨inf,zv,hi,hzv,_,hr⟩:=qbz (F:=F) (nu:=nu) (w:=w) hz
    have same: ∀(p:Option Addr) (c:Nat),v= .tuple []->A'=A-> ∃y w' nu',(Builtin.clear_ [t].toArray ty #[.slice p 0 c]).run P w= .ok y w'/\Stp F nu A w F nu' A' w'/\R F nu' w' v y:=by
     rintro p c rfl rfl;refine⟨.tuple #[],w,nu,?_,Stp.refl i,.tuple [] #[] rfl (λj a v ha _=>by simp at ha)⟩;cases p<;>simp[Builtin.clear_,run_underlying ht]
    have go: ∀(b off n cap rb:Nat),nu b=some rb->exec (qgj b off n z) A f=some (v,A',f')->
     ∃y w' nu',(Builtin.clear_ [t].toArray ty #[.slice (some ⟨rb,off,none⟩) n cap]).run P w= .ok y w'/\Stp F nu A w F nu' A' w'/\R F nu' w' v y:=by
     intro b off n cap rb hb h;unfold qgj at h;split at h
     ·rename_i h0;subst h0;simp only[exec,ZI,ZP]at h;exact same _ _ h.1.symm h.2.1.symm
     rename_i h0;simp only[exec]at h;split at h
     ·rename_i y hy;split at h
      ·rename_i cs;split at h
       ·rename_i hc;simp only[exec]at h;split at h
        ·simp only[ZI,ZP]at h;obtain⟨rfl,rfl,_⟩:=h;have hzr:=qhK hr (n*z.length);have hsz:zv.cells.size=z.length:=hr.1
         have hzc:Builtin.zeroCells zv.cells n=(Array.range (n*z.length)).map (zv.cells[· %zv.cells.size]!):=by
          unfold Builtin.zeroCells;rw[hsz]
         have hall:(zeros z (n*z.length)).all vo=true:=by
          simp only[zeros,List.all_map,Yp,cn,Function.comp];intro k hk
          have hp:0<z.length:=by
           rcases bj z.length with h|h
           ·rw[h]at hk;omega
           exact h
          have hm:k%z.length<z.length:=dT _ hp;rw[Yy,Ya hm];exact Yp.1 hc.2 _ (bq hm)
         have hzl:(zeros z (n*z.length)).length=n*z.length:=by simp[zeros]
         obtain⟨w',hst,hstp⟩:=qee (P:=P) (off:=off) (xs:=zeros z (n*z.length)) i hb hy (by rw[hzl];exact hc.1) (ys:=(Builtin.zeroCells zv.cells n).toList)
          (by rw[hzc,hzl];simp) (λu hu=>by
           rw[hzc]at hu
           exact hzr.cells_one hall u hu) (λj a v ha hv=>hzr.2 j a v ha (by rw[hzc,YT]at hv;exact hv))
         refine⟨.tuple #[],w',nu,?_,hstp,.tuple [] #[] rfl (λj a v ha _=>by simp at ha)⟩;obtain⟨k,rfl⟩: ∃k,n=k+1:=⟨n-1,by omega⟩;simp[Builtin.clear_,run_underlying ht,qU hi hzv,hst]
        cases h
       simp[exec]at h
      simp[exec]at h
     cases h
    cases hx with
    |nilslice=>
     simp only[exec,ZI,ZP]at h;exact same _ _ h.1.symm h.2.1.symm
    |fslice0 B c=>
     simp only[exec,ZI,ZP]at h;exact same _ _ h.1.symm h.2.1.symm
    |fslice n cs ad cap vs hn hF hl hc hR=>
     cases n with
     |zero=>
      simp only[exec,ZI,ZP]at h;refine⟨.tuple #[],w,nu,?_,by rw[<-h.2.1];exact Stp.refl i,by rw[<-h.1];exact .tuple [] #[] rfl (λj a v ha _=>by simp at ha)⟩;simp[Builtin.clear_,run_underlying ht]
     |succ n=>simp[exec]at h
    |slice b off n cap esz rb hb hc=>exact go _ _ _ _ rb hb h
    |oslice b n esz rb cap e' m hb hc hs hm hx=>exact go _ _ _ _ rb hb h
    |wslice b off n esz rb cap hb hc=>exact go _ _ _ _ rb hb h
    |_=>simp[exec]at h
   simp[exec]at h
  simp[exec]at h
 simp[exec]at h
theorem qkf (i:Inv F nu A w) {t:TypeId} {l c:AV} {lv cv:Value} (hl:R F nu w l lv) (hc:R F nu w c cv) {f:zG}:Ok P F nu A w (Instr.makeSlice t lv cv) (exec (jd P t l c) A f):=by
 intro v A' f' h;unfold jd at h;split at h
 ·rename_i e l c ht;cases hl
  cases hc
  split at h
  ·rename_i inf z hi hz;obtain⟨inf',zv,hi',hzv,_,hr⟩:=qbz (F:=F) (nu:=nu) (w:=w) hz;rw[hi]at hi';injection hi' with hi';subst hi';split at h
   ·rename_i hcnd;obtain⟨h1,h2,h3,h4,h5⟩:=hcnd;simp only[exec,ZI,ZP]at h;obtain⟨rfl,rfl,_⟩:=h;obtain⟨a,rfl⟩:=bc h1;obtain⟨b,rfl⟩:=bc (show 0<=c by omega);have hwl:IntKind.i64.wrap (a:Int)=a:=wrap_small (by omega) (by omega);have hwc:IntKind.i64.wrap (b:Int)=b:=wrap_small (by omega) (by omega)
    have hbig: ¬(281474976710656:Int)<inf.bytes*(b:Int):=by rw[aD];omega
    have hab: ¬b<a:=by omega
    simp only[aL]
    have hzz: ∃zc:Array Value,(if b*inf.size=0 then pure #[]else do pure (<-zeroValue e).cells:Sem (Array Value)).run P w= .ok zc w/\RL F nu w (zeros z (b*inf.size)) ((Array.range (b*inf.size)).map (zc[· %zc.size]!)):=by
     by_cases h0:b*inf.size=0
     ·exact⟨#[],by simp[h0],⟨by simp[zeros],λj a v ha _=>by simp[zeros,h0]at ha⟩⟩
     exact⟨zv.cells,by simp[h0,qU hi hzv],qhK hr _⟩
    obtain⟨zc,hzc,hrl⟩:=hzz;refine⟨.slice (some ⟨w.heap.size,0,none⟩) a b,w.alloc (.cells _ e),_,?_,Ug i _ e _ (by have:=hrl.1;omega) hrl.2,.slice _ _ _ _ _ _ (upd_same _ _) (by omega)⟩;simp only[Instr.makeSlice,Sem.run_bind,run_underlying ht,Result.andThen_ok,asInt,asIntOf,Sem.run_pure,qfU hi,hwl,hwc];rw[aa (by simp;omega)];simp only[Sem.run_bind,run_askRoom,Result.andThen_ok,qQ hi,aL];by_cases h0:b*inf.size=0
    ·simp only[h0,aJ,Sem.run_pure,Result.ok.injEq,eS]at hzc;subst hzc;simp[h0,newRow]
    simp only[aa h0,Sem.run_bind,qU hi hzv,Result.andThen_ok,Sem.run_pure,Result.ok.injEq,eS]at hzc;subst hzc;simp[h0,newRow,qU hi hzv]
   simp[exec]at h
  simp[exec]at h
 simp[exec]at h
theorem qpC (a b:ByteArray):(a==b)=(a.data.toList==b.data.toList):=by
 cases a
 cases b
 rename_i a b;show(a==b)=(a.toList==b.toList);rw[bQ];simp
theorem qic {k e:AV} {kv ev:Value} {d:TypeDesc} {b:Bool} (hd:plainKey d k=true) (hk:R F nu w k kv) (he:R F nu w e ev) (h:qnu k e=some b):
 Instr.sameNow d kv ev=some b/\(b=true->e=k/\Instr.sameBits 10000 ev kv=true):=by
 unfold qnu at h;split at h
 ·cases hk
  cases he
  split at h
  ·rename_i hkk;subst hkk;injection h with h;subst h;cases d<;>simp only[plainKey,ZF]at hd
   refine⟨by simp[Instr.sameNow],λhb=>?_⟩;have:=aK hb;subst this;exact⟨rfl,by simp[Instr.sameBits]⟩
  cases h
 ·cases hk with
  |str bs _ hs=>
   cases he with
   |str bs2 _ hs2=>
    injection h with h;subst h;cases d<;>simp only[plainKey,ZF]at hd
    subst hs hs2;refine⟨by simp only[Instr.sameNow,qpC],λhb=>?_⟩;have h3:=(bG.1 hb)
    have h4:bs=bs2:=by
     cases bs;cases bs2
     congr 1;exact Array.ext' h3
    subst h4;exact⟨rfl,by simp[Instr.sameBits,qpC]⟩
 ·cases hk
  cases he
  injection h with h;subst h;cases d<;>simp only[plainKey,ZF]at hd
  refine⟨by simp[Instr.sameNow],λhb=>?_⟩;have:=bG.1 hb;subst this;exact⟨rfl,by simp[Instr.sameBits]⟩
 cases h
theorem qej {k:AV} {kv:Value} {d:TypeDesc} (hd:plainKey d k=true) (hk:R F nu w k kv): ∀(ks:List AV) (es:List MapEntry) (j:Nat) (r:Option Nat),es.length=ks.length->(∀(i:Nat) (a:AV) (e:MapEntry),ks[i]? =some a->es[i]? =some e->R F nu w a e.key)->qi0 k ks j=some r->
 match r with
 |none=>Instr.findNow d kv es j=some none
 |some n=> ∃e,j<=n/\es[n-j]? =some e/\Instr.findNow d kv es j=some (some (n,e.val))/\ks[n-j]? =some k/\Instr.sameBits 10000 e.key kv=true:=by
 intro ks
 induction ks with
 |nil=>
  intro es j r hl hR h;simp only[qi0,ZI]at h;subst h
  cases es with
  |nil=>rfl
  |cons e es=>simp at hl
 |cons a ks ih=>
  intro es j r hl hR h
  cases es with
  |nil=>simp at hl
  |cons e es=>
   simp only[qi0]at h;have he:=hR 0 a e rfl rfl;split at h
   ·rename_i hkk;injection h with h;subst h;obtain⟨h1,h2⟩:=qic hd hk he hkk;obtain⟨h3,h4⟩:=h2 rfl;exact⟨e,ag _,by simp,by simp[Instr.findNow,h1],by simp[h3],h4⟩
   ·rename_i hkk;obtain⟨h1,_⟩:=qic hd hk he hkk;have:=ih es (j+1) r (by simpa using hl) (λi a' e' ha he'=>hR (i+1) a' e' (by simpa using ha) (by simpa using he')) h
    cases r with
    |none=>simpa[Instr.findNow,h1]using this
    |some n=>
     obtain⟨e',g1,g2,g3,g4,g5⟩:=this
     have hn:n-j=(n-(j+1))+1:=by omega
     exact⟨e',by omega,by rw[hn];simpa using g2,by simpa[Instr.findNow,h1]using g3,by rw[hn];simpa using g4,g5⟩
   cases h
theorem run_checkKey {kt:TypeId} {d:TypeDesc} {k:AV} {kv:Value} {b:Bool} (hk:P.underlying kt=some d) (hd:plainKey d k=true):(Instr.checkKey b 10000 kt kv).run P w= .ok () w:=by
 cases d<;>simp only[plainKey,ZF]at hd<;>(unfold Instr.checkKey;simp[run_underlying hk])
theorem run_findKey {kt:TypeId} {d:TypeDesc} {kv:Value} {es:List MapEntry} {r:Option (Nat×Value)} (hk:P.underlying kt=some d) (h:Instr.findNow d kv es 0=some r):(Instr.findKey kt kv es).run P w= .ok r w:=by
 simp[Instr.findKey,run_underlying hk,h]
theorem ql8 (i:Inv F nu A w) {x:AV} {xv:Value} (hx:R F nu w x xv) {k:List AV->List AV->Pg} {f:zG} {r:AV×Heap×zG} (h:exec (entriesOf x k) A f=some r):
 ∃(ks vs:List AV) (es:Array MapEntry) (f':zG),((xv= .map none/\es=#[])\/ ∃rb clock,xv= .map (some rb)/\w.heap[rb]? =some (.map es clock))/\
  es.size=ks.length/\es.size=vs.length/\(∀(i:Nat) (a:AV) (e:MapEntry),ks[i]? =some a->es[i]? =some e->R F nu w a e.key)/\(∀(i:Nat) (a:AV) (e:MapEntry),vs[i]? =some a->es[i]? =some e->R F nu w a e.val)/\exec (k ks vs) A f'=some r:=by
 unfold entriesOf at h;split at h
 ·cases hx
  exact⟨[],[],#[],f,.inl ⟨rfl,rfl⟩,rfl,rfl,by simp,by simp,h⟩
 ·cases hx with
  |fmap ks vs rb es clock hF hh hk hv hRk hRv=>exact⟨_,_,es,f,.inr ⟨rb,clock,rfl,hh⟩,hk,hv,hRk,hRv,h⟩
 ·rename_i b
  cases hx with
  |map _ rb hb=>
   simp only[exec]at h;split at h
   ·rename_i y hy;split at h
    ·rename_i ks vs;obtain⟨_,es,c,h1,h2,h3,h4,h5,_⟩:=i.blk b rb _ hb hy;exact⟨ks,vs,es,_,.inr ⟨rb,c,rfl,h1⟩,h2,h3,h4,h5,h⟩
    simp[exec]at h
   cases h
 simp[exec]at h
theorem qnO (i:Inv F nu A w) {t:TypeId} {x k:AV} {xv kv:Value} {ok:Bool} (hx:R F nu w x xv) (hk:R F nu w k kv) {f:zG}:Ok P F nu A w (Instr.lookup t xv kv ok) (exec (qkr P t x k ok) A f):=by
 intro v A' f' h;unfold qkr at h;split at h
 ·rename_i kt et ht;split at h
  ·rename_i d z hkt hz;obtain⟨inf,hi,hzi⟩:=aG.1 hz;split at h
   ·rename_i hd;obtain⟨ks,vs,es,f2,hes,h1,h2,h3,h4,h5⟩:=ql8 i hx h;have hbase: ∀(r:Option (Nat×Value)),Instr.findNow d kv es.toList 0=some r->(Instr.lookup t xv kv ok).run P w=
     ((match r with|some (_,v)=>pure (v,true)|none=>(do pure (<-zeroValue et,false)):Sem (Value×Bool)).run P w).andThen λp w'=> .ok (if ok then .tuple #[p.1,.bool p.2]else p.1) w':=by
     intro r hr;rcases hes with⟨rfl,rfl⟩|⟨rb,clock,rfl,hh⟩
     ·simp only[Instr.lookup,Sem.run_bind,run_underlying ht,Result.andThen_ok,Sem.run_pure,run_checkKey hkt hd,run_findKey hkt hr];cases r<;>simp[qU hi hzi]
     simp only[Instr.lookup,Sem.run_bind,run_underlying ht,Result.andThen_ok,getObj,Sem.run,hh,Sem.run_pure,run_checkKey hkt hd,run_findKey hkt hr];cases r<;>simp[qU hi hzi]
    split at h5
    ·rename_i n hn;have:=qej hd hk ks es.toList 0 (some n) (by simpa using h1) (λj a e ha he=>h3 j a e ha (by simpa using he)) hn;obtain⟨e,_,g2,g3,_,_⟩:=this;rw[cR]at g2;split at h5
     ·rename_i y hy;obtain⟨rfl,rfl⟩:=zD h5;have hRy:=h4 n y e hy (by simpa using g2);refine⟨_,w,nu,by rw[hbase _ g3];rfl,.refl i,?_⟩;cases ok
      ·exact hRy
      refine .tuple _ _ rfl (λj a v ha hv=>?_);rcases j with _|_|j<;>simp at ha hv
      ·subst ha;subst hv;exact hRy
      subst ha;subst hv;exact .bool _
     simp[exec]at h5
    ·rename_i hn;have g3:=qej hd hk ks es.toList 0 none (by simpa using h1) (λj a e ha he=>h3 j a e ha (by simpa using he)) hn;obtain⟨rfl,rfl⟩:=zD h5;refine⟨_,w,nu,by rw[hbase _ g3];simp only[Sem.run_bind,qU hi hzi,Result.andThen_ok,Sem.run_pure];rfl,.refl i,?_⟩;cases ok
     ·exact qer 3 z
     refine .tuple _ _ rfl (λj a v ha hv=>?_);rcases j with _|_|j<;>simp at ha hv
     ·subst ha;subst hv;exact qer 3 z
     subst ha;subst hv;exact .bool _
    simp[exec]at h5
   simp[exec]at h
  simp[exec]at h
 simp[exec]at h
theorem qly (rb:Nat) (o:Obj):({w with heap:=w.heap.setIfInBounds rb o}:World).heap.size=w.heap.size:=by simp
theorem qei (rb:Nat) (o:Obj) (r:Nat) (h:r≠rb):({w with heap:=w.heap.setIfInBounds rb o}:World).heap[r]? =w.heap[r]? :=by
 simp[Ne.symm h]
theorem qlF (rb:Nat) (o:Obj) (h:rb<w.heap.size):({w with heap:=w.heap.setIfInBounds rb o}:World).heap[rb]? =some o:=by
 simp[h]
theorem Uq (i:Inv F nu A w) {b rb:Nat} {k0 k:Blk} {o0 o:Obj} (hb:nu b=some rb) (hA:A[b]? =some k0) (ho0:k0.owned=true) (hok:k.owned=true) (hw:w.heap[rb]? =some o0) (hno: ∀c e fr,o0≠ .cells c e fr)
 (hk: ∀w':World,Ext F nu w F nu w'->w'.heap[rb]? =some o-> ¬F rb->RB F nu w' rb k) (hnb: ∀es,k≠ .bag es:=by intro es e;cases e):Stp F nu A w F nu (A.set b k) {w with heap:=w.heap.setIfInBounds rb o}:=by
 have hlt:rb<w.heap.size:=i.ltN b rb hb
 have hsh: ∀s,w.shape? rb=some s->({w with heap:=w.heap.setIfInBounds rb o}:World).shape? rb=some s:=by
  intro s hs;simp only[World.shape?,hw]at hs;split at hs
  ·rename_i c e fr he;injection he with he;exact absurd he (hno _ _ _)
  cases hs
 refine Stp.write i hb hA ho0 hok (λr hr=>qei rb o r hr) (qly rb o) hsh rfl rfl rfl (λhnF=>hk _ ?_ (qlF rb o hlt) hnF) hnb;refine⟨λ_ h=>h,λ_ _ h=>h,λr h=>qei rb o r (λe=>hnF (e▸h)),λr s hs=>?_⟩;by_cases e:r=rb
 ·subst e;exact hsh s hs
 rw[<-hs];simp only[World.shape?,qei rb o r e]
theorem qgA (i:Inv F nu A w) {t:TypeId} {x k y:AV} {xv kv yv:Value} (hx:R F nu w x xv) (hk:R F nu w k kv) (hy:R F nu w y yv) {f:zG} {v:AV} {A':Heap} {f':zG} (h:exec (qed P t x k y) A f=some (v,A',f')):
 v= .undef/\ ∃w',(Instr.mapUpdate t xv kv yv).run P w= .ok () w'/\Stp F nu A w F nu A' w':=by
 unfold qed at h;split at h
 ·rename_i kt et b ht
  cases hx with
  |map _ rb hb=>
   split at h
   ·rename_i d hkt;split at h
    ·rename_i hd;simp only[exec]at h;split at h
     ·rename_i bk hbk;split at h
      ·rename_i ks vs;obtain⟨hnF,es,clock,h1,h2,h3,h4,h5,h6⟩:=i.blk b rb _ hb hbk
       have hfind:=λr=>qej hd hk ks es.toList 0 r (by simpa using h2) (λj a e ha he=>h4 j a e ha (by simpa using he))
       split at h
       ·rename_i n hn;obtain⟨e,_,g2,g3,g4,g5⟩:=hfind _ hn;rw[cR]at g2 g4;simp only[exec]at h;split at h
        ·simp only[ZI,ZP]at h;obtain⟨rfl,rfl,_⟩:=h;refine⟨rfl,{w with heap:=w.heap.setIfInBounds rb (.map (es.modify n λe=>{e with key:=kv,val:=yv}) clock)},?_,?_⟩
         ·have he:es[n]? =some e:=by simpa using g2
          simp[Instr.mapUpdate,run_underlying ht,getObj,Sem.run,h1,run_checkKey hkt hd,run_findKey hkt g3,he,Instr.keyThatStays,g5,setObj]
         refine Uq i hb hbk rfl rfl h1 (λ_ _ _ h=>by cases h) (λw' x' hw' hnF=>⟨hnF,_,_,hw',by simpa using h2,by simpa using h3,λj a e' ha he'=>?_,λj a e' ha he'=>?_,h6.mod λ_=>rfl⟩)
         ·rw[YD]at he';split at he'
          ·rename_i hj;subst hj;rw[g4]at ha;injection ha with ha;subst ha;obtain⟨e0,_,rfl⟩:=Yd.1 he';exact hk.mono x'
          exact(h4 j a e' ha he').mono x'
         rw[List.getElem?_set]at ha;rw[YD]at he';split at he'
         ·rename_i hj;subst hj;rw[ae rfl]at ha;split at ha
          ·injection ha with ha;subst ha;obtain⟨e0,_,rfl⟩:=Yd.1 he';exact hy.mono x'
          cases ha
         rename_i hj;rw[aa hj]at ha;exact(h5 j a e' ha he').mono x'
        cases h
       ·rename_i hn;have g3:=hfind _ hn;simp only[exec]at h;split at h
        ·simp only[ZI,ZP]at h;obtain⟨rfl,rfl,_⟩:=h;refine⟨rfl,{w with heap:=w.heap.setIfInBounds rb (.map (es.push {key:=kv,val:=yv,born:=clock}) (clock+1))},?_,?_⟩
         ·simp[Instr.mapUpdate,run_underlying ht,getObj,Sem.run,h1,run_checkKey hkt hd,run_findKey hkt g3,setObj]
         refine Uq i hb hbk rfl rfl h1 (λ_ _ _ h=>by cases h) (λw' x' hw' hnF=>⟨hnF,_,_,hw',by simp[h2],by simp[h3],λj a e' ha he'=>?_,λj a e' ha he'=>?_,h6.push rfl⟩)
         ·rw[Array.getElem?_push]at he';split at he'
          ·rename_i hj;injection he' with he';subst he';rw[hj,h2]at ha;simp at ha;subst ha;exact hk.mono x'
          rename_i hj;have hlt:j<es.size:=(YB.1 he').1;rw[Yf (by omega)]at ha;exact(h4 j a e' ha he').mono x'
         rw[Array.getElem?_push]at he';split at he'
         ·rename_i hj;injection he' with he';subst he';rw[hj,h3]at ha;simp at ha;subst ha;exact hy.mono x'
         rename_i hj;have hlt:j<es.size:=(YB.1 he').1;rw[Yf (by omega)]at ha;exact(h5 j a e' ha he').mono x'
        cases h
       simp[exec]at h
      simp[exec]at h
     cases h
    simp[exec]at h
   simp[exec]at h
 simp[exec]at h
theorem qkZ (i:Inv F nu A w) {t:TypeId} {x k:AV} {xv kv:Value} (hx:R F nu w x xv) (hk:R F nu w k kv) {f:zG}:Ok P F nu A w (Instr.mapEntry t xv kv) (exec (qg2 P t x k) A f):=by
 intro v A' f' h;unfold qg2 at h;split at h
 ·rename_i kt et b ht
  cases hx with
  |map _ rb hb=>
   split at h
   ·rename_i d z hkt hz;obtain⟨inf,hi,hzi⟩:=aG.1 hz;split at h
    ·rename_i hd;simp only[exec]at h;split at h
     ·rename_i bk hbk;split at h
      ·rename_i ks vs;obtain⟨hnF,es,clock,h1,h2,h3,h4,h5,h6⟩:=i.blk b rb _ hb hbk
       have hfind:=λr=>qej hd hk ks es.toList 0 r (by simpa using h2) (λj a e ha he=>h4 j a e ha (by simpa using he))
       split at h
       ·rename_i n hn;obtain⟨e,_,g2,g3,g4,g5⟩:=hfind _ hn;rw[cR]at g2 g4
        have he:es[n]? =some e:=by simpa using g2
        split at h
        ·rename_i y hy;simp only[exec]at h;split at h
         ·simp only[ZI,ZP]at h;obtain⟨rfl,rfl,_⟩:=h
          have hst:Stp F nu A w F nu (A.set b (.map ks vs)) {w with heap:=w.heap.setIfInBounds rb (.map (es.modify n λe=>{e with key:=kv}) clock)}:=by
           refine Uq i hb hbk rfl rfl h1 (λ_ _ _ h=>by cases h) (λw' x' hw' hnF=>⟨hnF,_,_,hw',by simpa using h2,by simpa using h3,λj a e' ha he'=>?_,λj a e' ha he'=>?_,h6.mod λ_=>rfl⟩)
           ·rw[YD]at he';split at he'
            ·rename_i hj;subst hj;rw[g4]at ha;injection ha with ha;subst ha;obtain⟨e0,_,rfl⟩:=Yd.1 he';exact hk.mono x'
            exact(h4 j a e' ha he').mono x'
           rw[YD]at he';split at he'
           ·obtain⟨e0,he0,rfl⟩:=Yd.1 he';exact(h5 j a e0 ha he0).mono x'
           exact(h5 j a e' ha he').mono x'
          refine⟨.tuple #[e.val,goInt e.born],_,nu,?_,hst,.tuple _ _ rfl (λj a v ha hv=>?_)⟩
          ·simp[Instr.mapEntry,run_underlying ht,getObj,Sem.run,h1,run_checkKey hkt hd,run_findKey hkt g3,he,Instr.keyThatStays,g5,setObj]
          rcases j with _|_|j<;>simp at ha hv
          ·subst ha;subst hv;exact(h5 n y e hy he).mono (hst.ext i)
          subst ha;subst hv;rw[h6.2 n e he];exact .int _ _
         cases h
        simp[exec]at h
       ·rename_i hn;have g3:=hfind _ hn;simp only[exec]at h;split at h
        ·simp only[ZI,ZP]at h;obtain⟨rfl,rfl,_⟩:=h
         have hst:Stp F nu A w F nu (A.set b (.map (ks++[k]) (vs++[qb4 3 z]))) {w with heap:=w.heap.setIfInBounds rb (.map (es.push {key:=kv,val:=z,born:=clock}) (clock+1))}:=by
          refine Uq i hb hbk rfl rfl h1 (λ_ _ _ h=>by cases h) (λw' x' hw' hnF=>⟨hnF,_,_,hw',by simp[h2],by simp[h3],λj a e' ha he'=>?_,λj a e' ha he'=>?_,h6.push rfl⟩)
          ·rw[Array.getElem?_push]at he';split at he'
           ·rename_i hj;injection he' with he';subst he';rw[hj,h2]at ha;simp at ha;subst ha;exact hk.mono x'
           rename_i hj;have hlt:j<es.size:=(YB.1 he').1;rw[Yf (by omega)]at ha;exact(h4 j a e' ha he').mono x'
          rw[Array.getElem?_push]at he';split at he'
          ·rename_i hj;injection he' with he';subst he';rw[hj,h3]at ha;simp at ha;subst ha;exact qer 3 z
          rename_i hj;have hlt:j<es.size:=(YB.1 he').1;rw[Yf (by omega)]at ha;exact(h5 j a e' ha he').mono x'
         refine⟨.tuple #[z,goInt clock],_,nu,?_,hst,.tuple _ _ rfl (λj a v ha hv=>?_)⟩
         ·simp[Instr.mapEntry,run_underlying ht,getObj,Sem.run,h1,run_checkKey hkt hd,run_findKey hkt g3,qU hi hzi,setObj]
         rcases j with _|_|j<;>simp at ha hv
         ·subst ha;subst hv;exact qer 3 z
         subst ha;subst hv;rw[h6.1,h2];exact .int _ _
        cases h
       simp[exec]at h
      simp[exec]at h
     cases h
    simp[exec]at h
   simp[exec]at h
 simp[exec]at h
theorem qjk (i:Inv F nu A w) {t:TypeId} {x k y:AV} {xv kv yv:Value} (hx:R F nu w x xv) (hk:R F nu w k kv) (hy:R F nu w y yv) {f:zG} {v:AV} {A':Heap} {f':zG} (h:exec (qe6 x k y) A f=some (v,A',f')):
 v= .undef/\ ∃w',(Instr.entryStore t xv kv yv).run P w= .ok () w'/\Stp F nu A w F nu A' w':=by
 unfold qe6 at h;split at h
 ·rename_i b n
  cases hx with
  |map _ rb hb=>
   cases hk with
   |int=>
    simp only[exec]at h;split at h
    ·rename_i bk hbk;split at h
     ·rename_i ks vs;obtain⟨hnF,es,clock,h1,h2,h3,h4,h5,h6⟩:=i.blk b rb _ hb hbk;split at h
      ·rename_i hn;simp only[exec]at h;split at h
       ·simp only[ZI,ZP]at h;obtain⟨rfl,rfl,_⟩:=h
        have hlt:n.toNat<es.size:=by omega
        have hfi:es.findIdx? (λe=>(e.born:Int)==n)=some n.toNat:=by
         rw[Array.findIdx?_eq_some_iff_getElem];refine⟨hlt,?_,λj hj=>?_⟩
         ·rw[h6.2 _ _ (Yi hlt)];simp;omega
         rw[h6.2 _ _ (Yi (show j<es.size by omega))];simp;omega
        refine⟨rfl,{w with heap:=w.heap.setIfInBounds rb (.map (es.modify n.toNat λe=>{e with val:=yv}) clock)},?_,?_⟩
        ·simp[Instr.entryStore,getObj,Sem.run,h1,asInt,asIntOf,hfi,setObj]
        refine Uq i hb hbk rfl rfl h1 (λ_ _ _ h=>by cases h) (λw' x' hw' hnF=>⟨hnF,_,_,hw',by simpa using h2,by simpa using h3,λj a e' ha he'=>?_,λj a e' ha he'=>?_,h6.mod λ_=>rfl⟩)
        ·rw[YD]at he';split at he'
         ·obtain⟨e0,he0,rfl⟩:=Yd.1 he';exact(h4 j a e0 ha he0).mono x'
         exact(h4 j a e' ha he').mono x'
        rw[List.getElem?_set]at ha;rw[YD]at he';split at he'
        ·rename_i hj;rw[ae hj]at ha;split at ha
         ·injection ha with ha;subst ha;obtain⟨e0,_,rfl⟩:=Yd.1 he';exact hy.mono x'
         cases ha
        rename_i hj;rw[aa hj]at ha;exact(h5 j a e' ha he').mono x'
       cases h
      simp[exec]at h
     simp[exec]at h
    cases h
 simp[exec]at h
theorem qlW (i:Inv F nu A w) {t:TypeId} {r:Option AV} {rv:Option Value} (hr:RO F nu w r rv) {f:zG}:Ok P F nu A w (Instr.makeMap t rv) (exec (qid P t r) A f):=by
 intro v A' f' h;have key:exec (.new (.map [] []) λid=> .done (.map id)) A f=some (v,A',f')->(Instr.makeMap t rv).run P w= .ok (.map (some w.heap.size)) (w.alloc (.map #[] 0))->
  ∃x w' nu',(Instr.makeMap t rv).run P w= .ok x w'/\Stp F nu A w F nu' A' w'/\R F nu' w' v x:=by
  intro h hrun;simp only[exec,ZI,ZP]at h;obtain⟨rfl,rfl,_⟩:=h;exact⟨_,_,_,hrun,Stp.alloc i _ _ ⟨λhF=>absurd (i.ltF _ hF) (by omega),#[],0,Go.heap_alloc_new w _,rfl,rfl,by simp,by simp,rfl,by simp⟩,.map _ _ (upd_same _ _)⟩
 unfold qid at h;split at h
 ·cases rv with
  |none=>exact key h (by simp[Instr.makeMap])
  |some _=>exact hr.elim
 ·cases rv with
  |none=>exact hr.elim
  |some y=>
   cases hr
   split at h
   ·rename_i kt et ht;exact key h (by simp[Instr.makeMap,run_underlying ht,asInt,asIntOf])
   simp[exec]at h
 simp[exec]at h
theorem qo6 (i:Inv F nu A w) {t:TypeId} {x:AV} {xv:Value} (hx:R F nu w x xv) {f:zG}:Ok P F nu A w (Instr.range t xv) (exec (qlY P t x) A f):=by
 intro v A' f' h;unfold qlY at h;split at h
 ·rename_i s ht
  cases hx with
  |str bs _ hs=>
   simp only[exec,ZI,ZP]at h;obtain⟨rfl,rfl,_⟩:=h;exact⟨.pointer (some ⟨w.heap.size,0,none⟩),w.alloc (.stringIter bs 0),_,by simp[Instr.range,run_underlying ht],Stp.alloc i _ _ ⟨λhF=>absurd (i.ltF _ hF) (by omega),bs,Go.heap_alloc_new w _,hs⟩,.ptr _ _ _ (upd_same _ _)⟩
 simp[exec]at h
theorem qqL (i:Inv F nu A w) {x:AV} {xv:Value} {b:Bool} {ty:TypeId} (hx:R F nu w x xv) {f:zG}:Ok P F nu A w (Instr.next xv b ty) (exec (qqi x b) A f):=by
 intro v A' f' h;unfold qqi at h;split at h
 ·rename_i bb
  cases hx with
  |ptr _ _ rb hb=>
   simp only[exec]at h;split at h
   ·rename_i y hy;split at h
    ·rename_i s pos;obtain⟨hnF,bs,h1,h2⟩:=i.blk bb rb _ hb hy
     have hbs:(⟨s.toArray⟩:ByteArray)=bs:=by subst h2;cases bs;simp
     have hsz:s.length=bs.size:=by subst h2;simp
     rw[hbs]at h;split at h
     ·rename_i hlt;simp only[exec]at h;split at h
      ·simp only[ZI,ZP]at h;obtain⟨rfl,rfl,_⟩:=h;refine⟨.tuple #[.bool true,.int .i64 pos,.int .i32 (Utf8.decode bs pos).1],{w with heap:=w.heap.setIfInBounds rb (.stringIter bs (pos+(Utf8.decode bs pos).2))},nu,?_,?_,?_⟩
       ·have:pos<bs.size:=by omega
        simp[Instr.next,getObj,Sem.run,h1,this,setObj,goInt]
       ·exact Uq i hb hy rfl rfl h1 (λ_ _ _ h=>by cases h) (λw' x' hw' hnF=>⟨hnF,bs,hw',h2⟩)
       refine .tuple _ _ rfl (λj a v ha hv=>?_);rcases j with _|_|_|j<;>simp at ha hv<;>(subst ha;subst hv)
       ·exact .bool _
       ·exact .int _ _
       exact .int _ _
      cases h
     rename_i hge;obtain⟨rfl,rfl⟩:=zD h;refine⟨.tuple #[.bool false],w,nu,?_,.refl i,?_⟩
     ·have: ¬pos<bs.size:=by omega
      simp[Instr.next,getObj,Sem.run,h1,this]
     refine .tuple _ _ rfl (λj a v ha hv=>?_);rcases j with _|j<;>simp at ha hv
     subst ha;subst hv;exact .bool _
    simp[exec]at h
   cases h
 simp[exec]at h
end
end Go.Av
