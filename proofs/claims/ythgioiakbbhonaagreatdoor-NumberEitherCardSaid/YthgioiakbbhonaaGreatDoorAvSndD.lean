/-
  The operations on abstract values tell what the machine does: append and copy.
-/
import Derived.Test.YthgioiakbbhonaaGreatDoorAvSndC
import Derived.Deep.AppendSrc
noncomputable section
namespace Go.Av
set_option linter.unusedSectionVars false
variable [Glob]
open Go.RowKit
structure qeL (P:Program) (t tx ty e:TypeId) (inf:TypeInfo) (z:Value) (x:Value) (n:Nat) (news:List Value) (w:World):Prop where
 len:news.length=n*inf.size
 room: ∀(a:Addr) (sLen sCap:Nat) (w':World),sLen+n<=sCap->(storeCells (a.add (sLen*inf.size)) news).run P w= .ok () w'->
  (Builtin.append_ #[t,tx] ty #[.slice (some a) sLen sCap,x]).run P w= .ok (.slice (some a) (sLen+n) sCap) w'
 nil:n=0-> ∀(base:Option Addr) (sLen sCap:Nat),sLen<=sCap->(Builtin.append_ #[t,tx] ty #[.slice base sLen sCap,x]).run P w= .ok (.slice base sLen sCap) w
 grow: ∀(base:Option Addr) (sLen sCap:Nat) (olds:List Value),(Builtin.firstCells inf.size sLen (.slice base sLen sCap)).run P w.drew= .ok olds.toArray w.drew->sCap<sLen+n->sLen+n<=140737488355328->(sLen+n)*inf.bytes<=140737488355328->
  (Builtin.append_ #[t,tx] ty #[.slice base sLen sCap,x]).run P w= .ok (.slice (some ⟨w.heap.size,0,none⟩) (sLen+n) (grownCap w (sLen+n) sCap e))
   (w.drew.alloc (.cells ((olds++news).toArray++Builtin.zeroCells z.cells (grownCap w (sLen+n) sCap e-(sLen+n))) e))
section
variable {P:Program} {F:Nat->Prop} {nu:Nat->Option Nat} {A:Heap} {w:World}
theorem qeL.ofSrc {t tx ty e:TypeId} {inf:TypeInfo} {z:Value} (ht:P.underlying t=some (.slice e)) (hi:P.info? e=some inf) (hz:inf.zero=some z) {x:Value} {n:Nat} {news:List Value} (hs:Src P inf.size tx x n news w):
 qeL P t tx ty e inf z x n news w where
 len:=hs.newsLen
 room a sLen sCap w' hroom hst:=by
  rcases hs.kind with⟨e',hk⟩|hk<;>simp[Builtin.append_,run_underlying ht,run_underlying hk,sizeOf,typeInfo,hi,hs.len,hroom,hs.cells,hst]
 nil h0 base sLen sCap hc:=by
  have hn:news=[]:=cw (by rw[hs.newsLen,h0,bf]);subst hn;subst h0;rcases hs.kind with⟨e',hk⟩|hk<;>cases base<;>simp[Builtin.append_,run_underlying ht,run_underlying hk,sizeOf,typeInfo,hi,hs.len,hc,hs.cells,storeCells]
 grow base sLen sCap olds hold hg h1 h2:=run_append_grow_src w t tx ty e inf z ht hi hz base sLen sCap olds hold x n news hs hg (by omega) (growslice_fits hg h2)
theorem wrap_small {n:Int} (h0:0<=n) (h1:n<=9223372036854775807):IntKind.i64.wrap n=n:=by
 have e:n%(2^IntKind.i64.bits:Int)=n:=bA h0 (by simp[IntKind.bits];omega)
 have e2: ¬n>=(2^(IntKind.i64.bits-1):Int):=by simp[IntKind.bits];omega
 simp only[IntKind.wrap,e,e2,decide_false,Bool.and_false,ZF,aU]
theorem qeL.ofZeros {t tx ty e:TypeId} {inf:TypeInfo} {z:Value} {ik:IntKind} (ht:P.underlying t=some (.slice e)) (hu:P.underlying tx=some (.int ik)) (hi:P.info? e=some inf) (hz:inf.zero=some z) (hzs:z.cells.size=inf.size)
 {n:Int} (h0:0<=n) (hn:n<=140737488355328) (hb:n*inf.bytes<=140737488355328):qeL P t tx ty e inf z (.int .i64 n) n.toNat (Builtin.zeroCells z.cells n.toNat).toList w:=by
 obtain⟨k,rfl⟩:=bc h0;simp only[aL];have hw:IntKind.i64.wrap (k:Int)=k:=wrap_small h0 (by omega)
 have hneg: ¬(k:Int)<0:=by omega
 have hbig': ¬(281474976710656:Int)<(k:Int)*(inf.bytes:Int):=by omega
 have hlen:(Builtin.zeroCells z.cells k).toList.length=k*inf.size:=by rw[cm,size_zeroCells,hzs]
 have hemp:k*inf.size=0->Builtin.zeroCells z.cells k=#[]:=λhh=>Array.eq_empty_of_size_eq_zero (by rw[size_zeroCells,hzs,hh])
 have hhead: ∀(base:Option Addr) (sLen sCap:Nat) (w':World),(Builtin.append_ #[t,tx] ty #[.slice base sLen sCap,.int .i64 k]).run P w'=
  if sLen+k<=sCap then
   (match base with
    |some a=>(storeCells (a.add (sLen*inf.size)) (Builtin.zeroCells z.cells k).toList).run P w'
    |none=> .ok () w').andThen λ_ w2=> .ok (.slice base (sLen+k) sCap) w2
  else(do
   if((sLen+k:Nat):Int)>IntKind.i64.max/\True then runtimePanic (.error "growslice: len out of range")
   if Builtin.nextslicecap (sLen+k) sCap*inf.bytes>2^48 then runtimePanic (.error "growslice: len out of range")
   let newCap<-choose (.appendCap (sLen+k) sCap e)
   askRoom (newCap*inf.bytes)
   let old<-Builtin.firstCells inf.size sLen (.slice base sLen sCap);let new<-(if k*inf.size=0 then pure #[]else do pure (Builtin.zeroCells (<-zeroValue e).cells k):Sem (Array Value))
   pure (.slice (some (<-newRow e (old++new++Builtin.zeroCells (<-zeroValue e).cells (newCap-(sLen+k))))) (sLen+k) newCap):Sem Value).run P w':=by
  intro base sLen sCap w';simp only[Builtin.append_,Sem.run_bind,List.getElem?_toArray,Yj,List.getElem?_cons_succ,run_underlying ht,Result.andThen_ok,qQ hi,run_underlying hu,Sem.run_pure,aJ,asInt,asIntOf,hw,qfU hi,Sem.run_ite,aa hneg,aL];by_cases hroom:sLen+k<=sCap
  ·simp only[ae hroom];by_cases hh:k*inf.size=0
   ·rw[hemp hh];cases base<;>simp[hbig',hh]
   cases base<;>simp[hbig',hh,qU hi hz]
  simp only[aa hroom];simp[hbig']
 refine⟨hlen,?_,?_,?_⟩
 ·intro a sLen sCap w' hroom hst;rw[hhead,ae hroom];simp[hst]
 ·intro hk base sLen sCap hc;subst hk;rw[hhead,ae (by omega),hemp (by simp)];cases base<;>simp[storeCells]
 intro base sLen sCap olds hold hg hl1 hl2;have hfit:=growslice_fits hg hl2
 have h48: ¬(281474976710656<Builtin.nextslicecap (sLen+k) sCap*inf.bytes):=by omega
 rw[hhead,aa (by omega)]
 have h63: ¬(9223372036854775807<(sLen:Int)+(k:Int)):=by omega
 by_cases hh:k*inf.size=0
 ·rw[hemp hh];simp[h63,h48,hh,Question.forced,hold,qU hi hz,newRow,grownCap]
 simp[h63,h48,hh,Question.forced,hold,qU hi hz,newRow,grownCap];congr 2;apply Array.ext';simp
theorem qg6 (i:Inv F nu A w) {size:Nat} {x:AV} {xv:Value} {tx:TypeId} (hsz:0<size) (hk:(∃e',P.underlying tx=some (.slice e'))\/P.underlying tx=some .string) (hx:R F nu w x xv) (hd:(∃e',P.underlying tx=some (.slice e'))-> ∀s,x≠ .str s)
 {k:Nat->List AV->Pg} {f:zG} {r:AV×Heap×zG} (h:exec (kz size x k) A f=some r):
 ∃(n:Nat) (news:List AV) (vs:List Value) (f':zG),Src P size tx xv n vs w/\news.length=vs.length/\(∀(j:Nat) (a:AV) (v:Value),news[j]? =some a->vs[j]? =some v->R F nu w a v)/\exec (k n news) A f'=some r/\(∀a n' c,xv= .slice a n' c->n'=n):=by
 have sl: ∀(a:Addr) (n c:Nat) (news:List AV) (vs:List Value),(∃e',P.underlying tx=some (.slice e'))\/P.underlying tx=some .string->vs.length=n*size->news.length=n*size->news.all vo=true->(∀(j:Nat) (v:Value),vs[j]? =some v->w.cell? (a.add j)=some v)->
  (∀(j:Nat) (a:AV) (v:Value),news[j]? =some a->vs[j]? =some v->R F nu w a v)->Src P size tx (.slice (some a) n c) n vs w:=by
  intro a n c news vs hk h1 h2 h3 h4 h5
  have h6: ∀u∈vs,u.oneCell'=true:=by
   intro u hu;have:RL F nu w news vs.toArray:=⟨by simp;omega,λj a v ha hv=>h5 j a v ha (by simpa using hv)⟩;exact this.cells_one h3 u (by simpa using hu)
  have hf: ∀w':World,(∀(j:Nat) (v:Value),vs[j]? =some v->w'.cell? (a.add j)=some v)->(Builtin.firstCells size n (.slice (some a) n c)).run P w'= .ok vs.toArray w':=λw' h=>run_firstCells_some (P:=P) w' size n a n c vs h1 h
  exact⟨hk,λ_=>rfl,hf w h4,hf w.drew h4,h1,h6⟩
 unfold kz at h;split at h
 ·rename_i s
  cases hx with
  |str bs _ hs=>
   split at h
   ·rename_i h1;subst h1;rcases hk with hk|hk
    ·exact absurd rfl (hd hk s)
    subst hs;have hb:=Src.ofString (w:=w) hk bs;refine⟨_,_,byteCells bs,f,by simpa using hb,by simp[byteCells_length],λj a v ha hv=>?_,h,λ_ _ _ e=>by cases e⟩
    have hb2:byteCells bs=bs.data.toList.map λc=>Value.int .u8 c.toNat:=by simp[byteCells]
    rw[hb2,YA]at hv;rw[YA]at ha
    cases hc:bs.data.toList[j]? with
    |none=>simp[hc]at ha
    |some c=>
     simp only[hc,ZM,ZI]at ha hv;subst ha;subst hv;exact .int _ _
   simp[exec]at h
 ·rename_i n cs;split at h
  ·rename_i hc
   cases hx with
   |fslice0 B cap=>
    refine⟨0,[],[],f,?_,rfl,by simp,h,λ_ _ _ e=>by injection e with _ e;exact e.symm⟩
    cases B with
    |none=>
     rcases hk with⟨e',hk⟩|hk
     ·exact Src.ofNil w hk cap
     exact⟨.inr hk,λ_=>rfl,rfl,rfl,by simp,by simp⟩
    |some a=>exact sl a 0 cap [] [] hk (by simp) (by simp) rfl (by simp) (by simp)
   |fslice _ _ ad cap vs hn hF hl hcc hR=>exact⟨n,cs,vs,f,sl ad n cap cs vs hk (hl.trans hc.1) hc.1 hc.2 hcc hR,hl.symm,hR,h,λ_ _ _ e=>by injection e with _ e;exact e.symm⟩
  simp[exec]at h
 ·cases hx
  refine⟨0,[],[],f,?_,rfl,by simp,h,λ_ _ _ e=>by injection e with _ e;exact e.symm⟩;rcases hk with⟨e',hk⟩|hk
  ·exact Src.ofNil w hk 0
  exact⟨.inr hk,λ_=>rfl,rfl,rfl,by simp,by simp⟩
 ·rename_i b off n cap esz
  cases hx with
  |slice _ _ _ _ _ rb hb hc=>
   obtain⟨y,cs,hA,hcs,hk2⟩:=jr h;obtain⟨vs,h1,h2,h3,h4⟩:=qaF i hb hA hcs;split at hk2
   ·rename_i hone;exact⟨n,cs,vs,_,sl ⟨rb,off,none⟩ n cap cs vs hk h1 h2 hone (λj v hv=>by rw[jB];exact h3 j v hv) h4,by omega,h4,hk2,λ_ _ _ e=>by injection e with _ e;exact e.symm⟩
   simp[exec]at hk2
 ·rename_i b n esz
  cases hx with
  |oslice _ _ _ rb cap e m hb hc hs hm=>
   obtain⟨y,cs,hA,hcs,hk2⟩:=jr h;obtain⟨vs,h1,h2,h3,h4⟩:=qaF i hb hA hcs;split at hk2
   ·rename_i hone;exact⟨n,cs,vs,_,sl ⟨rb,0,none⟩ n cap cs vs hk h1 h2 hone (λj v hv=>by rw[jB];exact h3 j v hv) h4,by omega,h4,hk2,λ_ _ _ e=>by injection e with _ e;exact e.symm⟩
   simp[exec]at hk2
 ·rename_i b n esz
  cases hx with
  |gslice0=>
   obtain⟨y,cs,hA,hcs,hk2⟩:=jr h
   have hcs0:cs=[]:=by
    rw[bf]at hcs;unfold yN at hcs;split at hcs
    ·split at hcs
     ·injection hcs with hcs;simpa using hcs.symm
     cases hcs
    ·split at hcs
     ·injection hcs with hcs;simpa using hcs.symm
     cases hcs
    ·split at hcs
     ·simp at*
     cases hcs
    cases hcs
   subst hcs0;simp only[eh,aJ]at hk2;refine⟨0,[],[],_,?_,rfl,by simp,hk2,λ_ _ _ e=>by injection e with _ e;exact e.symm⟩;rename_i p
   cases p with
   |none=>
    rcases hk with⟨e',hk⟩|hk
    ·exact Src.ofNil w hk 0
    exact⟨.inr hk,λ_=>rfl,rfl,rfl,by simp,by simp⟩
   |some a=>exact sl a 0 0 [] [] hk (by simp) (by simp) rfl (by simp) (by simp)
  |gslice _ _ _ rb cap e m hp hb hc hs hm=>
   obtain⟨y,cs,hA,hcs,hk2⟩:=jr h;obtain⟨vs,h1,h2,h3,h4⟩:=qaF i hb hA hcs;split at hk2
   ·rename_i hone;exact⟨n,cs,vs,_,sl ⟨rb,0,none⟩ n cap cs vs hk h1 h2 hone (λj v hv=>by rw[jB];exact h3 j v hv) h4,by omega,h4,hk2,λ_ _ _ e=>by injection e with _ e;exact e.symm⟩
   simp[exec]at hk2
 ·rename_i b off n esz
  cases hx with
  |wslice _ _ _ _ rb cap hb hc=>
   obtain⟨y,cs,hA,hcs,hk2⟩:=jr h;obtain⟨vs,h1,h2,h3,h4⟩:=qaF i hb hA hcs;split at hk2
   ·rename_i hone;exact⟨n,cs,vs,_,sl ⟨rb,off,none⟩ n cap cs vs hk h1 h2 hone (λj v hv=>by rw[jB];exact h3 j v hv) h4,by omega,h4,hk2,λ_ _ _ e=>by injection e with _ e;exact e.symm⟩
   simp[exec]at hk2
 simp[exec]at h
theorem qki {old news:List AV} {ov nv rest:List Value} (hl:ov.length=old.length) (h1: ∀(j:Nat) (a:AV) (v:Value),old[j]? =some a->ov[j]? =some v->R F nu w a v)
 (h2: ∀(j:Nat) (a:AV) (v:Value),news[j]? =some a->nv[j]? =some v->R F nu w a v) (hl2:news.length<=nv.length): ∀(j:Nat) (a:AV) (v:Value),(old++news)[j]? =some a->(ov++nv++rest)[j]? =some v->R F nu w a v:=by
 intro j a v ha hv;rcases ak j old.length with hj|hj
 ·rw[Yf hj]at ha;rw[Yz,Yf (by omega)]at hv;exact h1 j a v ha hv
 rw[Yo hj]at ha;have hlt:j-old.length<news.length:=(Yb.1 ha).1;rw[Yz,Yo (by omega),Yf (by omega),hl]at hv;exact h2 _ a v ha hv
theorem Stp.more (i:Inv F nu A w) (x:Blk):Stp F nu A w F nu (A++[x]) w:=by
 have old: ∀b rb y,nu b=some rb->(A++[x])[b]? =some y->A[b]? =some y:=by
  intro b rb y hb hy;rcases ak b A.length with h|h
  ·rwa [Yf h]at hy
  rw[i.fresh b h]at hb;cases hb
 refine⟨λ_ h=>h,λ_ _ h=>h,λ_ _ h=>h,⟨λb rb y hb hy=>i.blk b rb y hb (old b rb y hb hy),λb b' rb rb' y y' r hb hb' hy hy' ho ho' hr hr'=>i.injF b b' rb rb' y y' r hb hb' (old b rb y hb hy) (old b' rb' y' hb' hy') ho ho' hr hr',λb hb=>i.fresh b (by simp at hb;omega),i.ltF,i.ltN,i.glob⟩,λ_ _ _=>rfl,?_,ag _,rfl,rfl,rfl,λ_ _=>rfl,by simp,λ_ h=> .inl h⟩;rintro r _ ⟨b,y,rb,hb,hy,ho⟩;exact⟨b,y,rb,hb,old b rb y hb hy,ho⟩
theorem Stp.renameTo (i:Inv F nu A w) {b rb m:Nat} {cs:List AV} (hb:nu b=some rb) (hA:A[b]? =some (.cells cs)):Stp F nu A w F (upd nu A.length rb) (A.set b .dead++[.cells (cs.take m)]) w:=by
 have hblt:b<A.length:=(Yb.1 hA).1
 have s1:=Stp.write i hb hA rfl (k:= .cells (cs.take m)) rfl (w':=w) (λ_ _=>rfl) rfl (λ_ h=>h) rfl rfl rfl (λ_=>by
  obtain⟨h1,vs,e,h2,h3,h4⟩:=i.blk b rb _ hb hA;refine⟨h1,vs,e,h2,aX (by rw[Ym];exact eC _ _) h3,λj a v ha hv=>?_⟩;rw[Yt]at ha;split at ha
  ·exact h4 j a v ha hv
  cases ha)
 have s2:=Ut s1.inv (b:=b) hb (k:= .cells (cs.take m)) (by simp[hblt]) rfl;simp only[bx,Yk]at s2;exact s1.trans s2
theorem R.toG {b n esz:Nat} {x:Value} (h:R F nu w (.oslice b n esz) x) (hp:0<n):R F nu w (.gslice b n esz) x:=by
 cases h with
 |oslice _ _ _ rb cap e m hb hc hs hm hx=>exact .gslice _ _ _ rb cap e m hp hb hc hs hm hx
theorem qeN (i:Inv F nu A w) {t tx ty e:TypeId} {inf:TypeInfo} {z:Value} {s:AV} {sv xv:Value} {n:Nat} {news:List AV} {vs:List Value} (hs:R F nu w s sv) (hr:qeL P t tx ty e inf z xv n vs w) (hzs:z.cells.size=inf.size)
 (hl:news.length=vs.length) (hR: ∀(j:Nat) (a:AV) (v:Value),news[j]? =some a->vs[j]? =some v->R F nu w a v) (h1: ∀u∈vs,u.oneCell'=true) {f:zG}:
 Ok P F nu A w (Builtin.append_ #[t,tx] ty #[sv,xv]) (exec (xD inf.size inf.bytes s n news) A f):=by
 intro v A' f' h;have hge:=grownCap_ge w;have hlen:=hr.len;have fresh: ∀(base:Option Addr) (sLen sCap:Nat) (old:List AV) (ov:List Value),(Builtin.firstCells inf.size sLen (.slice base sLen sCap)).run P w.drew= .ok ov.toArray w.drew->sCap<sLen+n->sLen+n<=140737488355328->(sLen+n)*inf.bytes<=140737488355328->
  ov.length=old.length->old.length=sLen*inf.size->(∀(j:Nat) (a:AV) (v:Value),old[j]? =some a->ov[j]? =some v->R F nu w a v)->
  ∃x w' nu',(Builtin.append_ #[t,tx] ty #[.slice base sLen sCap,xv]).run P w= .ok x w'/\Stp F nu A w F nu' (A++[.cells (old++news)]) w'/\R F nu' w' (.oslice A.length (sLen+n) inf.size) x:=by
  intro base sLen sCap old ov hold hg hb1 hb2 hlo hlo2 hRo;have hrun:=hr.grow base sLen sCap ov hold hg hb1 hb2;have s1:=Stp.drew (w:=w) i;have s2:=Ug s1.inv ((ov++vs).toArray++Builtin.zeroCells z.cells (grownCap w (sLen+n) sCap e-(sLen+n))) e (old++news) (by simp;omega)
   (λj a v ha hv=>by
    refine(qki (rest:=(Builtin.zeroCells z.cells (grownCap w (sLen+n) sCap e-(sLen+n))).toList) hlo hRo hR (by omega) j a v ha ?_).mono (s1.ext i);rw[<-YT]at hv
    simpa using hv)
  refine⟨_,_,_,hrun,s1.trans s2,?_⟩;have hcap:=hge (sLen+n) sCap e;refine .oslice _ _ _ _ _ e (((ov++vs).toArray++Builtin.zeroCells z.cells (grownCap w (sLen+n) sCap e-(sLen+n))).size) (upd_same _ _) hcap ?_ ?_ (Go.grownCap_le_maxLen w (sLen+n) sCap e (by unfold maxLen;omega))
  ·simp only[World.shape?];have:=Go.heap_alloc_new w.drew (.cells ((ov++vs).toArray++Builtin.zeroCells z.cells (grownCap w (sLen+n) sCap e-(sLen+n))) e);simp only[World.size_drew]at this;rw[this]
  simp only[cW,eA,Yq,size_zeroCells,hzs,hlo,hlo2,hlen];rw[<-Nat.add_mul,<-Nat.add_mul];exact aN _ (by omega)
 have bagApp: ∀{b rb cap len m:Nat} {e':TypeId} {es:List Ent} {a:AV},nu b=some rb->A[b]? =some (.bag es)->w.shape? rb=some (e',m)->cap*inf.size<=m->len<=cap->cap<=9223372036854775807->news=[a]->inf.size=1->n=1->len=es.length->
  (len+n)*inf.bytes<=140737488355328->len+n<=140737488355328->
  ∃x w' nu',(Builtin.append_ #[t,tx] ty #[.slice (some ⟨rb,0,none⟩) len cap,xv]).run P w= .ok x w'/\Stp F nu A w F nu' (A.set b .dead++[.bag (es++[.av a])]) w'/\R F nu' w' (.oslice A.length (len+n) inf.size) x:=by
  intro b rb cap len m e' es a hb hA hsh hm hc hxx hne hsz hn hle hb1 hb2;subst hne hn hle;obtain⟨_,vs0,e0,hh,hl0,hR0⟩:=i.blk b rb _ hb hA
  have he:e'=e0/\m=vs0.size:=by
   simp only[World.shape?,hh,ZI,ZP]at hsh;exact⟨hsh.1.symm,hsh.2.symm⟩
  have hblt:b<A.length:=(Yb.1 hA).1
  obtain⟨y,rfl⟩: ∃y,vs=[y]:=by
   cases vs with
   |nil=>simp at hl
   |cons y ys=>cases ys with
    |nil=>exact⟨y,rfl⟩
    |cons q r=>simp at hl
  have hRy:R F nu w a y:=hR 0 a y rfl rfl;by_cases hroom:es.length+1<=cap
  ·have s0:=Stp.bagGrow i hA (λrb' vs' e'' hb' hh'=>by
    rw[hb]at hb';injection hb' with hb';subst hb';rw[hh]at hh';simp only[ZI,Obj.cells.injEq]at hh';obtain⟨rfl,_⟩:=hh'
    rw[hsz]at hm;omega)
   obtain⟨w',hst,s1⟩:=qnb (P:=P) s0.inv (off:=es.length) (es:=es++[.av .undef]) (a:=a) (y:=y) hb (by simp[hblt]) (by simp) (h1 y (by simp)) hRy
   have e3:(es++[Ent.av .undef]).set es.length (.av a)=es++[.av a]:=by simp
   rw[bx,e3]at s1;have s2:=Ut s1.inv (b:=b) hb (k:= .bag (es++[.av a])) (by simp[hblt]) rfl;simp only[bx,Yk]at s2;refine⟨_,_,_,hr.room ⟨rb,0,none⟩ es.length cap _ hroom (by rw[jB,az,hsz,cF];exact hst),(s0.trans s1).trans s2,?_⟩;exact .oslice _ _ _ _ _ e' m (upd_same _ _) hroom (s1.shape _ _ (s0.shape _ _ hsh)) hm hxx
  have hold:(Builtin.firstCells inf.size es.length (.slice (some ⟨rb,0,none⟩) es.length cap)).run P w.drew= .ok (vs0.toList.take es.length).toArray w.drew:=by
   refine run_firstCells_some (P:=P) w.drew inf.size es.length ⟨rb,0,none⟩ es.length cap _ (by simp[hsz];omega) (λj v hv=>?_);rw[Yt]at hv;split at hv
   ·rw[jB,az];show w.cell? _=_;simp only[World.cell?,hh,aW,ZF,aU];simpa using hv
   cases hv
  have hrun:=hr.grow (some ⟨rb,0,none⟩) es.length cap _ hold (by omega) hb2 hb1;have s1:=Stp.drew (w:=w) i;have s2:=Stp.bagMove s1.inv (b:=b) (es:=es) (a:=a) (e:=e) (vs:=(vs0.toList.take es.length++[y]).toArray++Builtin.zeroCells z.cells (grownCap w (es.length+1) cap e-(es.length+1))) hb hA (vs0:=vs0) (e0:=e0) hh
   (λj hj=>by
    rw[<-YT,dS,Yf (by simp;omega)];rw[Yf (by simp;omega),Yt,ae hj]
    simp)
   (by simp;omega) (λv hv=>by
    rw[<-YT,dS,Yf (by simp;omega)]at hv;rw[Yo (by simp;omega)]at hv
    have e0:es.length-(vs0.toList.take es.length).length=0:=by simp;omega
    rw[e0]at hv;simp at hv;subst hv
    exact hRy.mono (s1.ext i))
  refine⟨_,_,_,hrun,s1.trans s2,?_⟩;have hcap:=hge (es.length+1) cap e;refine .oslice _ _ _ _ _ e (((vs0.toList.take es.length++[y]).toArray++Builtin.zeroCells z.cells (grownCap w (es.length+1) cap e-(es.length+1))).size) (upd_same _ _) hcap ?_ ?_ (Go.grownCap_le_maxLen w (es.length+1) cap e (by unfold maxLen;omega))
  ·simp only[World.shape?];have:=Go.heap_alloc_new w.drew (.cells ((vs0.toList.take es.length++[y]).toArray++Builtin.zeroCells z.cells (grownCap w (es.length+1) cap e-(es.length+1))) e);simp only[World.size_drew]at this;rw[this]
  simp only[cW,eA,Yq,size_zeroCells,hzs,hsz,Ym,Yr,be]
  have:min es.length vs0.toList.length=es.length:=by simp;omega
  rw[this];omega
 unfold xD at h;split at h
 ·cases hs
  split at h
  ·rename_i h0;obtain⟨rfl,rfl⟩:=zD h;exact⟨_,w,nu,hr.nil h0 none 0 0 (ag _),.refl i,.nilslice⟩
  rename_i h0;split at h
  ·rename_i hb;simp only[exec,ZI,ZP]at h;obtain⟨rfl,rfl,_⟩:=h;have:=fresh none 0 0 [] [] (by simp[Builtin.firstCells]) (by omega) (by omega) (by simpa using hb.1) rfl (by simp) (by simp);simpa using this
  simp[exec]at h
 ·rename_i b off len cap esz
  cases hs with
  |slice _ _ _ _ _ rb hb hc=>
   split at h
   ·rename_i hz;obtain⟨rfl,rfl⟩:=hz;simp only[exec]at h;split at h
    ·rename_i y hy;split at h
     ·rename_i cs;split at h
      ·rename_i hcond;obtain⟨rfl,rfl,hb1,hb2⟩:=hcond;simp only[exec,Yk]at h;split at h
       ·simp only[ZI,ZP]at h;obtain⟨rfl,rfl,_⟩:=h;by_cases h0:n=0
        ·subst h0
         have hn0:news=[]:=by
          rw[<-YL,hl,hlen,bf]
         subst hn0;have s2:=Stp.renameTo (m:=0) i hb hy;obtain⟨_,vs0,e0,hh,_,_⟩:=i.blk b rb _ hb hy;refine⟨_,w,_,hr.nil rfl (some ⟨rb,0,none⟩) 0 0 (ag _),by simpa using s2,.oslice _ _ _ rb 0 e0 vs0.size (upd_same _ _) (ag _) (by simp only[World.shape?,hh]) (by omega) (by omega)⟩
        have:=fresh (some ⟨rb,0,none⟩) 0 0 [] [] (by simp[Builtin.firstCells,loadCells,loadCellsFrom]) (by omega) (by omega) (by simpa using hb1) rfl (by simp) (by simp);obtain⟨x,w',nu',hrun,hstp,hRx⟩:=this;have hblt:b<A.length:=(Yb.1 hy).1;have s2:=Uv hstp.inv b;rw[bE _ _ hblt]at s2;exact⟨x,w',nu',hrun,by simpa using hstp.trans s2,by simpa using hRx⟩
       cases h
      simp[exec]at h
     simp[exec]at h
    cases h
   rename_i hz0;split at h
   ·rename_i hroom;simp only[exec]at h;split at h
    ·rename_i y hy;split at h
     ·rename_i cs;split at h
      ·rename_i hcond;simp only[exec]at h;split at h
       ·simp only[ZI,ZP]at h;obtain⟨rfl,rfl,_⟩:=h;obtain⟨w',hst,hstp⟩:=qee (P:=P) (off:=off+len*inf.size) (xs:=news) i hb hy hcond.2 (ys:=vs) hl.symm h1 hR;refine⟨_,w',nu,hr.room ⟨rb,off,none⟩ len cap w' hroom (by rw[jB];exact hst),hstp,.slice _ _ _ _ _ _ (hstp.n _ _ hb) hroom⟩
       cases h
      simp[exec]at h
     simp[exec]at h
    cases h
   rename_i hroom;obtain⟨y,cs,hA,hcs,hk⟩:=jr h;obtain⟨ov,g1,g2,g3,g4⟩:=qaF i hb hA hcs;split at hk
   ·rename_i hcond;simp only[exec,ZI,ZP]at hk;obtain⟨rfl,rfl,_⟩:=hk;exact fresh (some ⟨rb,off,none⟩) len cap cs ov (run_firstCells_some (P:=P) w.drew inf.size len ⟨rb,off,none⟩ len cap ov g1 (λj v hv=>by rw[jB];exact g3 j v hv)) (by omega) hcond.2 hcond.1 (by omega) g2 g4
   simp[exec]at hk
 ·rename_i b len esz
  cases hs with
  |oslice _ _ _ rb cap e' m hb hc hsh hm hxx=>
   simp only[exec]at h;split at h
   ·rename_i y hy;split at h
    ·rename_i cs;split at h
     ·rename_i hcond;obtain⟨hc1,hc2,hc3,hc4⟩:=hcond;subst hc1;simp only[exec,Yk]at h;split at h
      ·simp only[ZI,ZP]at h;obtain⟨rfl,rfl,_⟩:=h;by_cases h0:n=0
       ·subst h0
        have hn0:news=[]:=by
         rw[<-YL,hl,hlen,bf]
        subst hn0;have s2:=Stp.renameTo (m:=len*inf.size) i hb hy;exact⟨_,w,_,hr.nil rfl _ _ _ hc,by simpa using s2,.oslice _ _ _ _ _ e' m (upd_same _ _) hc hsh hm hxx⟩
       obtain⟨hnF,vs0,e0,hh,hlen0,hR0⟩:=i.blk b rb _ hb hy
       have he:e'=e0/\m=vs0.size:=by
        simp only[World.shape?,hh,ZI,ZP]at hsh;exact⟨hsh.1.symm,hsh.2.symm⟩
       by_cases hroom:len+n<=cap
       ·
        have hfit:len*inf.size+vs.length<=vs0.size:=by
         have:=aN inf.size hroom;rw[Nat.add_mul,<-hlen]at this;omega
        have hst:=run_storeCells_at P rb (len*inf.size) e0 vs 0 vs0 w hh (by omega) h1;simp only[aY]at hst
        have hRn: ∀(j:Nat) (a:AV) (v:Value),(cs.take (len*inf.size)++news)[j]? =some a->(vs0.toList.take (len*inf.size)++vs++vs0.toList.drop (len*inf.size+vs.length))[j]? =some v->R F nu w a v:=by
         refine qki (by simp;omega) (λj a v ha hv=>?_) hR (by omega);rw[Yt]at ha hv;split at ha
         ·rename_i hj;rw[ae hj]at hv;exact hR0 j a v ha (by simpa using hv)
         cases ha
        have s1:=Stp.setRow i hb hy hh (vs:=(vs0.toList.take (len*inf.size)++vs++vs0.toList.drop (len*inf.size+vs.length)).toArray) (cs:=cs.take (len*inf.size)++news) (by simp;omega) (by simp;omega) (λj a v ha hv=>hRn j a v ha (by simpa using hv));have hblt:b<A.length:=(Yb.1 hy).1;have s2:=Ut s1.inv (b:=b) hb (k:= .cells (cs.take (len*inf.size)++news)) (by simp[hblt]) rfl;simp only[bx,Yk]at s2;refine⟨_,_,_,hr.room ⟨rb,0,none⟩ len cap _ hroom (by rw[jB,az];exact hst),s1.trans s2,?_⟩;exact .oslice _ _ _ _ _ e' m (upd_same _ _) hroom (s1.shape _ _ hsh) hm hxx
       
       have:=fresh (some ⟨rb,0,none⟩) len cap (cs.take (len*inf.size)) (vs0.toList.take (len*inf.size)) ?_ (by omega) hc4 hc3 (by simp;omega) (by simp;omega) ?_
       ·obtain⟨x,w',nu',hrun,hstp,hRx⟩:=this;have hblt:b<A.length:=(Yb.1 hy).1;have s2:=Uv hstp.inv b;rw[bE _ _ hblt]at s2;exact⟨x,w',nu',hrun,hstp.trans s2,hRx⟩
       ·refine run_firstCells_some (P:=P) w.drew inf.size len ⟨rb,0,none⟩ len cap _ (by simp;omega) (λj v hv=>?_);rw[Yt]at hv;split at hv
        ·rw[jB,az];show w.cell? _=_;simp only[World.cell?,hh,aW,ZF,aU];simpa using hv
        cases hv
       intro j a v ha hv;rw[Yt]at ha hv;split at ha
       ·rename_i hj;rw[ae hj]at hv;exact hR0 j a v ha (by simpa using hv)
       cases ha
      cases h
     simp[exec]at h
    ·rename_i es;split at h
     ·rename_i a;split at h
      ·rename_i hcond;obtain⟨hc1,hc2,hc3,hc4,hc5,hc6⟩:=hcond;simp only[exec,Yk]at h;split at h
       ·simp only[ZI,ZP]at h;obtain⟨rfl,rfl,_⟩:=h;obtain⟨x,w',nu',q1,q2,q3⟩:=bagApp hb hy hsh (by rw[<-hc1];exact hm) hc hxx rfl hc2 hc3 hc4 hc5 hc6;exact⟨x,w',nu',q1,q2,q3⟩
       cases h
      simp[exec]at h
     simp[exec]at h
    simp[exec]at h
   cases h
 ·rename_i b len esz
  cases hs with
  |gslice0 _ _ p0=>
   simp only[exec]at h;split at h
   ·rename_i y hy;split at h
    ·rename_i cs;split at h
     ·rename_i hcond;obtain⟨hc1,hc2,hc3,hc4⟩:=hcond;subst hc1;simp only[exec,Yk]at h;split at h
      ·simp only[ZI,ZP]at h;obtain⟨rfl,rfl,_⟩:=h
       have e0:cs.take (0*inf.size)=[]:=by simp
       rw[e0];by_cases h0:n=0
       ·subst h0
        have hn0:news=[]:=by
         rw[<-YL,hl,hlen,bf]
        subst hn0;have s1:=Uv i b;have s2:=Stp.more s1.inv (.cells []);exact⟨_,w,nu,hr.nil rfl p0 0 0 (ag _),by simpa using s1.trans s2,.gslice0 _ _ _⟩
       have:=fresh p0 0 0 [] [] (by
        cases p0 with
        |none=>simp[Builtin.firstCells]
        |some a=>exact run_firstCells_some (P:=P) w.drew inf.size 0 a 0 0 [] (by simp) (λj v hv=>by simp at hv)) (by omega) hc4 hc3 rfl (by simp) (by simp)
       obtain⟨x,w',nu',hrun,hstp,hRx⟩:=this;have hblt:b<A.length:=(Yb.1 hy).1;have s2:=Uv hstp.inv b;rw[bE _ _ hblt]at s2;exact⟨x,w',nu',hrun,hstp.trans s2,by have:=hRx.toG (by omega);simpa using this⟩
      cases h
     simp[exec]at h
    ·rename_i es;split at h
     ·rename_i a;split at h
      ·rename_i hcond;obtain⟨hc1,hc2,hc3,hc4,hc5,hc6⟩:=hcond;simp only[exec,Yk]at h;split at h
       ·simp only[ZI,ZP]at h;obtain⟨rfl,rfl,_⟩:=h;obtain rfl:es=[]:=YL.1 hc4.symm
        obtain⟨x,w',nu',hrun,hstp,hRx⟩:=fresh p0 0 0 [] [] (by
         cases p0 with
         |none=>simp[Builtin.firstCells]
         |some a=>exact run_firstCells_some (P:=P) w.drew inf.size 0 a 0 0 [] (by simp) (λj v hv=>by simp at hv)) (by omega) hc6 hc5 rfl (by simp) (by simp)
        have hblt:b<A.length:=(Yb.1 hy).1;have s2:=Uv hstp.inv b;rw[bE _ _ hblt]at s2;have s3:=Stp.toBag s2.inv (b:=A.length) (cs:=[a]) (by simp)
        have e3:(A.set b .dead++[Blk.cells ([]++[a])]).set A.length (.bag ([a].map .av))=A.set b .dead++[.bag ([]++[.av a])]:=by
         rw[cD (h:=by simp)];simp
        rw[e3]at s3;exact⟨x,w',nu',hrun,(hstp.trans s2).trans s3,by have:=hRx.toG (by omega);simpa using this⟩
       cases h
      simp[exec]at h
     simp[exec]at h
    simp[exec]at h
   cases h
  |gslice _ _ _ rb cap e' m hp hb hc hsh hm hxx=>
   simp only[exec]at h;split at h
   ·rename_i y hy;split at h
    ·rename_i cs;split at h
     ·rename_i hcond;obtain⟨hc1,hc2,hc3,hc4⟩:=hcond;subst hc1;simp only[exec,Yk]at h;split at h
      ·simp only[ZI,ZP]at h;obtain⟨rfl,rfl,_⟩:=h;by_cases h0:n=0
       ·subst h0
        have hn0:news=[]:=by
         rw[<-YL,hl,hlen,bf]
        subst hn0;have s2:=Stp.renameTo (m:=len*inf.size) i hb hy;exact⟨_,w,_,hr.nil rfl _ _ _ hc,by simpa using s2,.gslice _ _ _ _ _ e' m hp (upd_same _ _) hc hsh hm hxx⟩
       obtain⟨hnF,vs0,e0,hh,hlen0,hR0⟩:=i.blk b rb _ hb hy
       have he:e'=e0/\m=vs0.size:=by
        simp only[World.shape?,hh,ZI,ZP]at hsh;exact⟨hsh.1.symm,hsh.2.symm⟩
       by_cases hroom:len+n<=cap
       ·
        have hfit:len*inf.size+vs.length<=vs0.size:=by
         have:=aN inf.size hroom;rw[Nat.add_mul,<-hlen]at this;omega
        have hst:=run_storeCells_at P rb (len*inf.size) e0 vs 0 vs0 w hh (by omega) h1;simp only[aY]at hst
        have hRn: ∀(j:Nat) (a:AV) (v:Value),(cs.take (len*inf.size)++news)[j]? =some a->(vs0.toList.take (len*inf.size)++vs++vs0.toList.drop (len*inf.size+vs.length))[j]? =some v->R F nu w a v:=by
         refine qki (by simp;omega) (λj a v ha hv=>?_) hR (by omega);rw[Yt]at ha hv;split at ha
         ·rename_i hj;rw[ae hj]at hv;exact hR0 j a v ha (by simpa using hv)
         cases ha
        have s1:=Stp.setRow i hb hy hh (vs:=(vs0.toList.take (len*inf.size)++vs++vs0.toList.drop (len*inf.size+vs.length)).toArray) (cs:=cs.take (len*inf.size)++news) (by simp;omega) (by simp;omega) (λj a v ha hv=>hRn j a v ha (by simpa using hv));have hblt:b<A.length:=(Yb.1 hy).1;have s2:=Ut s1.inv (b:=b) hb (k:= .cells (cs.take (len*inf.size)++news)) (by simp[hblt]) rfl;simp only[bx,Yk]at s2;refine⟨_,_,_,hr.room ⟨rb,0,none⟩ len cap _ hroom (by rw[jB,az];exact hst),s1.trans s2,?_⟩;exact .gslice _ _ _ _ _ e' m (by omega) (upd_same _ _) hroom (s1.shape _ _ hsh) hm hxx
       
       have:=fresh (some ⟨rb,0,none⟩) len cap (cs.take (len*inf.size)) (vs0.toList.take (len*inf.size)) ?_ (by omega) hc4 hc3 (by simp;omega) (by simp;omega) ?_
       ·obtain⟨x,w',nu',hrun,hstp,hRx⟩:=this;have hblt:b<A.length:=(Yb.1 hy).1;have s2:=Uv hstp.inv b;rw[bE _ _ hblt]at s2;exact⟨x,w',nu',hrun,hstp.trans s2,hRx.toG (by omega)⟩
       ·refine run_firstCells_some (P:=P) w.drew inf.size len ⟨rb,0,none⟩ len cap _ (by simp;omega) (λj v hv=>?_);rw[Yt]at hv;split at hv
        ·rw[jB,az];show w.cell? _=_;simp only[World.cell?,hh,aW,ZF,aU];simpa using hv
        cases hv
       intro j a v ha hv;rw[Yt]at ha hv;split at ha
       ·rename_i hj;rw[ae hj]at hv;exact hR0 j a v ha (by simpa using hv)
       cases ha
      cases h
     simp[exec]at h
    ·rename_i es;split at h
     ·rename_i a;split at h
      ·rename_i hcond;obtain⟨hc1,hc2,hc3,hc4,hc5,hc6⟩:=hcond;simp only[exec,Yk]at h;split at h
       ·simp only[ZI,ZP]at h;obtain⟨rfl,rfl,_⟩:=h;obtain⟨x,w',nu',q1,q2,q3⟩:=bagApp hb hy hsh (by rw[<-hc1];exact hm) hc hxx rfl hc2 hc3 hc4 hc5 hc6;exact⟨x,w',nu',q1,q2,q3.toG (by omega)⟩
       cases h
      simp[exec]at h
     simp[exec]at h
    simp[exec]at h
   cases h
 ·rename_i k cs;split at h
  ·rename_i h0;obtain⟨rfl,rfl⟩:=zD h
   cases hs with
   |fslice0 B cap=>exact⟨_,w,nu,hr.nil h0 _ _ _ (aF _),.refl i,.fslice0 _ _⟩
   |fslice _ _ ad cap vs2 hn hF hl2 hc hR2=>exact⟨_,w,nu,hr.nil h0 _ _ _ hn,.refl i,.fslice _ _ _ _ _ hn hF hl2 hc hR2⟩
  simp[exec]at h
 simp[exec]at h
theorem qnM (i:Inv F nu A w) {types:List TypeId} {ty:TypeId} {s x:AV} {sv xv:Value} (hs:R F nu w s sv) (hx:R F nu w x xv) {f:zG}:Ok P F nu A w (Builtin.append_ types.toArray ty #[sv,xv]) (exec (zO P types s x) A f):=by
 intro v A' f' h;unfold zO at h;split at h
 ·rename_i t u;split at h
  ·rename_i e du ht hu;split at h
   ·simp[exec]at h
   rename_i inf hi;split at h
   ·simp[exec]at h
   rename_i z hz;split at h
   ·rename_i hcond;split at h
    ·rename_i ik;split at h
     ·rename_i n;split at h
      ·rename_i zc hzc;split at h
       ·rename_i hc;cases hx
        have hl:=(qer (F:=F) (nu:=nu) (w:=w) 3 z).cells hzc;have hzr:=qhK hl (n.toNat*inf.size);have hone:=hl.cells_one hc.2.2.2;have hrun:=qeL.ofZeros (P:=P) (w:=w) (ty:=ty) ht hu hi hz hcond.1 hc.1 hc.2.1 hc.2.2.1
        have he:((Array.range (n.toNat*inf.size)).map (z.cells[· %z.cells.size]!))=Builtin.zeroCells z.cells n.toNat:=by
         simp[Builtin.zeroCells,hcond.1]
        rw[he]at hzr;refine qeN i hs hrun hcond.1 (by rw[cm];exact hzr.1.symm) (λj a v ha hv=>hzr.2 j a v ha (by rw[YT]at hv;exact hv)) (λy hy=>?_) v A' f' h;simp only[Builtin.zeroCells,Array.toList_map,List.mem_map]at hy;obtain⟨q,hq,rfl⟩:=hy
        have hlt:q%z.cells.size<z.cells.size:=by
         refine dT _ ?_;rw[hcond.1];exact hcond.2
        rw[getElem!_pos z.cells _ hlt];exact hone _ (by simp)
       simp[exec]at h
      simp[exec]at h
     simp[exec]at h
    ·rename_i e';split at h
     ·simp[exec]at h
     rename_i hns;obtain⟨n,news,vs,f2,hsrc,h1,h2,h3,_⟩:=qg6 i hcond.2 (.inl ⟨e',hu⟩) hx (λ_ s hs=>hns s hs) h;exact qeN i hs (qeL.ofSrc ht hi hz hsrc) hcond.1 h1 h2 hsrc.one v A' f' h3
    ·obtain⟨n,news,vs,f2,hsrc,h1,h2,h3,_⟩:=qg6 i hcond.2 (.inr hu) hx (λ⟨e',he'⟩=>by rw[hu]at he';cases he') h;exact qeN i hs (qeL.ofSrc ht hi hz hsrc) hcond.1 h1 h2 hsrc.one v A' f' h3
    simp[exec]at h
   simp[exec]at h
  simp[exec]at h
 simp[exec]at h
end
end Go.Av
