/-
  The operations on abstract values tell what the machine does: struct values, new rows, addresses, indexes, slices.
-/
import Derived.Test.YthgioiakbbhonaaGreatDoorAvSndA
noncomputable section
namespace Go.Av
set_option linter.unusedSectionVars false
variable [Glob]
open Go.RowKit
section
variable {P:Program} {F:Nat->Prop} {nu:Nat->Option Nat} {A:Heap} {w:World}
theorem qro (xs:List Value): ∀(k off:Nat) (cells:Array Value) (j:Nat),
 ((xs.zipIdx k).foldl (λcs (c,j)=>cs.setIfInBounds (off+j) c) cells)[j]? =
   if off+k<=j/\j<off+k+xs.length/\j<cells.size then xs[j-(off+k)]? else cells[j]? :=by
 induction xs with
 |nil=>intro k off cells j;simp;omega
 |cons x xs ih=>
  intro k off cells j;simp only[List.zipIdx_cons,bp,ih,Array.size_setIfInBounds,Yr];by_cases hj:j<cells.size
  ·by_cases h1:off+(k+1)<=j
   ·by_cases h2:j<off+(k+1)+xs.length
    ·rw[ae ⟨h1,h2,hj⟩,ae ⟨by omega,by omega,hj⟩];rw[show j-(off+k)=(j-(off+(k+1)))+1 by omega];rfl
    rw[aa (by omega),aa (by omega),Array.getElem?_setIfInBounds,aa (by omega)]
   by_cases h3:j=off+k
   ·subst h3;rw[aa (by omega),ae ⟨by omega,by omega,hj⟩,Array.getElem?_setIfInBounds,ae rfl,ae hj];simp
   rw[aa (by omega),aa (by omega),Array.getElem?_setIfInBounds,aa (by omega)]
  rw[aa (by omega),aa (by omega),Array.getElem?_setIfInBounds];by_cases h3:off+k=j
  ·rw[ae h3,aa (by omega),Array.getElem?_eq_none (by omega)]
  rw[aa h3]
theorem qoX (xs:List (Value×Nat)) (off:Nat): ∀cells:Array Value,(xs.foldl (λcs (c,j)=>cs.setIfInBounds (off+j) c) cells).size=cells.size:=by
 induction xs with
 |nil=>intro c;rfl
 |cons x xs ih=>intro c;simp[ih]
theorem RL.put {cs xs:List AV} {vs ys:Array Value} {off:Nat} (h:RL F nu w cs vs) (hx:RL F nu w xs ys) (ho:off+xs.length<=cs.length):
 RL F nu w (splice cs off xs) (ys.zipIdx.foldl (λcs (c,j)=>cs.setIfInBounds (off+j) c) vs):=by
 have e:ys.zipIdx.foldl (λcs (c,j)=>cs.setIfInBounds (off+j) c) vs=(ys.toList.zipIdx 0).foldl (λcs (c,j)=>cs.setIfInBounds (off+j) c) vs:=by
  rw[<-Array.foldl_toList,Array.toList_zipIdx]
 rw[e];refine⟨by rw[qoX,qfI ho];exact h.1,λj a v ha hv=>?_⟩;rw[qro]at hv;have h0:=h.1;have h00:=hx.1;simp only[aY,cm]at hv;unfold splice at ha;rcases ak j off with hj|hj
 ·rw[aa (by omega)]at hv;rw[Yz,Yf (by simp;omega),Yt,ae hj]at ha;exact h.2 j a v ha hv
 rw[Yz,Yo (by simp;omega)]at ha;simp only[Ym]at ha;rw[aP (by omega)]at ha;rcases ak (j-off) xs.length with hk|hk
 ·rw[Yf hk]at ha;rw[ae ⟨hj,by omega,by omega⟩]at hv;exact hx.2 _ a v ha (by simpa using hv)
 rw[Yo (by omega),YI]at ha;rw[aa (by omega)]at hv
 have:off+xs.length+(j-off-xs.length)=j:=by omega
 rw[this]at ha;exact h.2 j a v ha hv
def RP (F:Nat->Prop) (nu:Nat->Option Nat) (w:World):List (Nat×AV)->List (Nat×Value)->Prop
 |[],[]=>True
 |a::as,v::vs=>a.1=v.1/\R F nu w a.2 v.2/\RP F nu w as vs
 |_,_=>False
theorem qhI (place:Nat->Option (Nat×Nat)): ∀(ps:List (Nat×AV)) (qs:List (Nat×Value)) (cs:List AV) (vs:Array Value) (out:List AV),RP F nu w ps qs->RL F nu w cs vs->qjf place cs ps=some out->
 ∃res,Instr.fill place vs qs=some res/\RL F nu w out res:=by
 intro ps
 induction ps with
 |nil=>
  intro qs cs vs out hp hl h
  cases qs with
  |nil=>simp only[qjf,ZI]at h;subst h;exact⟨vs,rfl,hl⟩
  |cons q qs=>exact hp.elim
 |cons p ps ih=>
  intro qs cs vs out hp hl h
  cases qs with
  |nil=>exact hp.elim
  |cons q qs=>
   obtain⟨pi,pa⟩:=p;obtain⟨qi,qv⟩:=q;obtain⟨h1,h2,h3⟩:=hp;simp only at h1 h2;subst h1;simp only[qjf]at h;split at h
   ·rename_i off size xs hpl hxs;split at h
    ·rename_i hc;have hx:=h2.cells hxs;have h4:=hx.1;have h5:=hl.1;obtain⟨res,hr,hrl⟩:=ih qs _ _ out h3 (hl.put hx hc.2) h;refine⟨res,?_,hrl⟩;simp only[Instr.fill,hpl];rw[aa (by simp;omega)];exact hr
    cases h
   cases h
theorem qlP (fields:Array Field) (h:fields.all (λf=>(P.info? f.type).isSome)=true) (w:World):
 ∃pl:Array (Nat×Nat),(fields.mapM λf=>do pure (f.offset,<-sizeOf f.type):Sem (Array (Nat×Nat))).run P w= .ok pl w/\ ∀i,pl[i]? =qin P fields i:=by
 have hall: ∀f∈fields.toList,(P.info? f.type).isSome=true:=by
  intro f hf;exact(Array.all_eq_true'.1 h) f (by simpa using hf)
 have key: ∀(fs:List Field),(∀f∈fs,(P.info? f.type).isSome=true)->(fs.mapM λf=>do pure (f.offset,<-sizeOf f.type):Sem (List (Nat×Nat))).run P w= .ok (fs.map λf=>(f.offset,P.cellsOf f.type)) w:=by
  intro fs
  induction fs with
  |nil=>intro _;simp
  |cons f fs ih=>
   intro hf;obtain⟨inf,hi⟩:=dF.1 (hf f (by simp));rw[bV];simp only[Sem.run_bind,Sem.run_pure,qQ hi,Result.andThen_ok,ih (λg hg=>hf g (by simp[hg])),List.map_cons];simp[Program.cellsOf,hi]
 refine⟨(fields.toList.map λf=>(f.offset,P.cellsOf f.type)).toArray,?_,λi=>?_⟩
 ·have:=key fields.toList hall;rw[Array.mapM_eq_mapM_toList];simp only[Sem.run_map,this,Result.andThen_ok]
 simp only[qin];rw[List.getElem?_toArray,YA,YT]
 cases hf:fields[i]? with
 |none=>rfl
 |some f=>
  obtain⟨inf,hi⟩:=dF.1 (hall f (by
   obtain⟨hlt,he⟩:=YB.1 hf
   rw[<-he];simp))
  simp[Program.cellsOf,hi]
theorem qpJ (i:Inv F nu A w) {t:TypeId} {ps:List (Nat×AV)} {qs:Array (Nat×Value)} (hp:RP F nu w ps qs.toList) {f:zG}:Ok P F nu A w (Instr.build t qs) (exec (.opt (qmj P t ps)) A f):=by
 refine Ok.opt i (λv hv=>?_);unfold qmj at hv;split at hv
 ·rename_i z fields hz ht;obtain⟨inf,zv,hi,hzv,_,hl⟩:=qbz (F:=F) (nu:=nu) (w:=w) hz;split at hv
  ·rename_i hall;obtain⟨cs,hcs,rfl⟩:=Yd.1 hv;obtain⟨pl,hrun,hpl⟩:=qlP fields hall w;obtain⟨res,hres,hrl⟩:=qhI (qin P fields) ps qs.toList z zv.cells cs hp hl hcs;refine⟨.agg res,?_,.agg _ _ hrl.1 hrl.2⟩
   have hf:Instr.fill (pl[·]?) zv.cells qs.toList=some res:=by
    rw[show(λx=>pl[x]?)=qin P fields from funext hpl];exact hres
   simp only[Instr.build,Sem.run_bind,qU hi hzv,Result.andThen_ok,run_underlying ht,hrun,hf];rfl
  cases hv
 ·rename_i z n e hz ht;obtain⟨inf,zv,hi,hzv,_,hl⟩:=qbz (F:=F) (nu:=nu) (w:=w) hz;split at hv
  ·rename_i ie hie;obtain⟨cs,hcs,rfl⟩:=Yd.1 hv;obtain⟨res,hres,hrl⟩:=qhI _ ps qs.toList z zv.cells cs hp hl hcs;refine⟨.agg res,?_,.agg _ _ hrl.1 hrl.2⟩;simp only[Instr.build,Sem.run_bind,qU hi hzv,Result.andThen_ok,run_underlying ht,qQ hie,hres];rfl
  cases hv
 cases hv
theorem qhK {z:List AV} {zv:Array Value} (h:RL F nu w z zv) (n:Nat):RL F nu w (zeros z n) ((Array.range n).map (zv[· %zv.size]!)):=by
 refine⟨by simp[zeros],λj a v ha hv=>?_⟩;simp only[zeros,YA]at ha;rcases ak j n with hj|hj
 ·rw[List.getElem?_range hj]at ha;simp only[ZM,ZI]at ha;simp only[Array.getElem?_map,Array.getElem?_range,ae hj,ZM,ZI]at hv;have h0:=h.1;rcases bj z.length with hz|hz
  ·have:z=[]:=cw hz;subst this;simp at ha;subst ha;exact .undef _
  have hlt:j%z.length<z.length:=dT _ hz;rw[Yy,Ya hlt]at ha;rw[h0]at hv
  have hlt2:j%z.length<zv.size:=by omega
  rw[getElem!_pos zv _ hlt2]at hv;simp only[YN]at ha;subst ha;subst hv;exact h.2 _ _ _ (Ya hlt) (Yi hlt2)
 rw[Yg (by simpa using hj)]at ha;cases ha
theorem qjo (i:Inv F nu A w) {t:TypeId} {len:Nat} {ps:List (Nat×AV)} {qs:Array (Nat×Value)} (hp:RP F nu w ps qs.toList) {f:zG}:Ok P F nu A w (Instr.buildSlice t len qs) (exec (qeT P t len ps) A f):=by
 intro v A' f' h;unfold qeT at h;split at h
 ·rename_i e ht;split at h
  ·rename_i inf z hi hz;obtain⟨inf',zv,hi',hzv,_,hl⟩:=qbz (F:=F) (nu:=nu) (w:=w) hz;rw[hi]at hi';injection hi' with hi';subst hi';split at h
   ·rename_i hc;split at h
    ·rename_i cs hcs;simp only[exec,ZI,ZP]at h;obtain⟨rfl,rfl,_⟩:=h
     have hlen: ¬len*inf.size>2^24:=by have:=hc.1;omega
     by_cases h0:len*inf.size=0
     ·have hzr:RL F nu w (zeros z (len*inf.size)) ((Array.range 0).map ((#[]:Array Value)[· %(#[]:Array Value).size]!)):=
       ⟨by simp[zeros,h0],λj a v ha _=>by simp[zeros,h0]at ha⟩
      obtain⟨res,hres,hrl⟩:=qhI _ ps qs.toList _ _ cs hp hzr hcs;refine⟨.slice (some ⟨w.heap.size,0,none⟩) len len,w.alloc (.cells res e),_,?_,Ug i res e cs (by have:=hrl.1;omega) hrl.2,.slice _ _ _ _ _ _ (upd_same _ _) (ag _)⟩;simp[Instr.buildSlice,run_underlying ht,qQ hi,h0,newRow];simp at hres;rw[hres];simp
     obtain⟨res,hres,hrl⟩:=qhI _ ps qs.toList _ _ cs hp (qhK hl _) hcs;refine⟨.slice (some ⟨w.heap.size,0,none⟩) len len,w.alloc (.cells res e),_,?_,Ug i res e cs (by have:=hrl.1;omega) hrl.2,.slice _ _ _ _ _ _ (upd_same _ _) (ag _)⟩;simp only[Instr.buildSlice,Sem.run_bind,run_underlying ht,Result.andThen_ok,qQ hi];rw[aa hlen];simp only[Sem.run_bind,Result.andThen_ok,aa h0,qU hi hzv,Sem.run_pure,hres,newRow,run_newObj,World.alloc_eq]
    simp[exec]at h
   simp[exec]at h
  simp[exec]at h
 simp[exec]at h
theorem qff {a:Addr} {fd:Field} {inf:TypeInfo} (h:P.info? fd.type=some inf) (hs:inf.size≠0) (w:World):(fieldPlace a fd).run P w= .ok (a.add fd.offset) w:=by
 simp[fieldPlace,qQ h,hs]
theorem R.addPtr {p:AV} {x:Value} {b off k:Nat} (h:R F nu w p x) (hp:p= .ptr b off): ∃ad,x= .pointer (some ad)/\R F nu w (.ptr b (off+k)) (.pointer (some (ad.add k))):=by
 subst hp
 cases h with
 |ptr _ _ rb hb=>exact⟨_,rfl,by rw[jB];exact .ptr _ _ _ hb⟩
theorem R.addFptr {x:Value} {cs:List AV} {off k:Nat} (h:R F nu w (.fptr cs off) x): ∃ad,x= .pointer (some ad)/\R F nu w (.fptr cs (off+k)) (.pointer (some (ad.add k))):=by
 cases h with
 |fptr _ _ ad vs hF hl hc hR=>exact⟨_,rfl,by rw[add_add];exact .fptr _ _ _ vs hF hl hc hR⟩
theorem qko (i:Inv F nu A w) {s:TypeId} {x:AV} {xv:Value} {fi:Nat} (hx:R F nu w x xv) {f:zG}:Ok P F nu A w (Instr.fieldAt s xv fi) (exec (.opt (qfW P s x fi)) A f):=by
 refine Ok.opt i (λv hv=>?_);unfold qfW at hv;split at hv
 ·rename_i fields ht;split at hv
  ·rename_i fd hfd;split at hv
   ·rename_i inf hi;split at hv
    ·cases hv
    rename_i hs;split at hv
    ·rename_i b off;injection hv with hv;subst hv;obtain⟨ad,rfl,hr⟩:=hx.addPtr (k:=fd.offset) rfl;refine⟨_,?_,hr⟩;simp[Instr.fieldAt,run_underlying ht,hfd,Instr.sureAddr,qff hi hs]
    ·rename_i cs off;injection hv with hv;subst hv;obtain⟨ad,rfl,hr⟩:=hx.addFptr (k:=fd.offset);refine⟨_,?_,hr⟩;simp[Instr.fieldAt,run_underlying ht,hfd,Instr.sureAddr,qff hi hs]
    cases hv
   cases hv
  cases hv
 cases hv
theorem qfq {t:TypeId} {cs:List AV} {vs:Array Value} (h:RL F nu w cs vs) {off:Nat} {a:AV} (ha:qfH P t cs off=some a): ∃x,(part t vs off).run P w= .ok x w/\R F nu w a x:=by
 unfold qfH at ha;split at ha
 ·rename_i d inf hd hi;split at ha
  ·rename_i hg;injection ha with ha;subst ha;refine⟨.agg (vs.extract off (off+inf.size)),by simp[part,qcT hd,hg,qQ hi],.agg _ _ (by simp;have:=h.1;omega) (λj a v ha hv=>?_)⟩;rw[Yt]at ha;split at ha
   ·rename_i hj;rw[YI]at ha;rw[Array.getElem?_extract]at hv;split at hv
    ·exact h.2 _ a v ha hv
    cases hv
   cases ha
  rename_i hg;have hlt:off<cs.length:=(Yb.1 ha).1
  have hlt2:off<vs.size:=by have:=h.1;omega
  refine⟨vs[off],?_,h.2 off a _ ha (Yi hlt2)⟩;simp[part,qcT hd,hg,hlt2]
 cases ha
theorem qou (i:Inv F nu A w) {t:TypeId} {x:AV} {xv:Value} {fi:Nat} (hx:R F nu w x xv) {f:zG}:Ok P F nu A w (Instr.field t xv fi) (exec (.opt (ql3 P t x fi)) A f):=by
 refine Ok.opt i (λv hv=>?_);unfold ql3 at hv;split at hv
 ·rename_i fields cs ht
  cases hx with
  |agg _ vs hl hR=>
   split at hv
   ·rename_i fd hfd;obtain⟨y,h1,h2⟩:=qfq ⟨hl,hR⟩ hv;exact⟨y,by simp[Instr.field,run_underlying ht,hfd,asAgg,h1],h2⟩
   cases hv
 cases hv
theorem qkG (i:Inv F nu A w) {t:TypeId} {x ix:AV} {xv iv:Value} (hx:R F nu w x xv) (hi:R F nu w ix iv) {f:zG}:Ok P F nu A w (Instr.indexAt t xv iv) (exec (.opt (qd P t x ix)) A f):=by
 refine Ok.opt i (λv hv=>?_);unfold qd at hv;split at hv
 ·rename_i e k j ht;cases hi
  split at hv
  ·rename_i inf hinf;split at hv
   ·rename_i n cs;split at hv
    ·rename_i hb;injection hv with hv;subst hv
     cases hx with
     |fslice0 B cap=>exact absurd hb.2 (by omega)
     |fslice _ _ ad cap vs hn hF hl hc hR=>
      refine⟨.pointer (some (ad.add (j.toNat*inf.size))),?_,.fptr _ _ ad vs hF hl hc hR⟩;simp[Instr.indexAt,asIntOf,run_underlying ht,qQ hinf,hb.1,hb.2]
    cases hv
   ·rename_i b off n cap esz;split at hv
    ·rename_i hb;injection hv with hv;subst hv
     cases hx with
     |slice _ _ _ _ _ rb h hc=>
      refine⟨.pointer (some ((⟨rb,off,none⟩:Addr).add (j.toNat*inf.size))),?_,by rw[jB];exact .ptr _ _ _ h⟩;simp[Instr.indexAt,asIntOf,run_underlying ht,qQ hinf,hb.1,hb.2]
    cases hv
   ·rename_i b n esz;split at hv
    ·rename_i hb;injection hv with hv;subst hv
     cases hx with
     |oslice _ _ _ rb cap e m h hc hs hm=>
      refine⟨.pointer (some ((⟨rb,0,none⟩:Addr).add (j.toNat*inf.size))),?_,by rw[jB,az];exact .ptr _ _ _ h⟩;simp[Instr.indexAt,asIntOf,run_underlying ht,qQ hinf,hb.1,hb.2]
    cases hv
   ·rename_i b off n esz;split at hv
    ·rename_i hb;injection hv with hv;subst hv
     cases hx with
     |wslice _ _ _ _ rb cap h hc=>
      refine⟨.pointer (some ((⟨rb,off,none⟩:Addr).add (j.toNat*inf.size))),?_,by rw[jB];exact .ptr _ _ _ h⟩;simp[Instr.indexAt,asIntOf,run_underlying ht,qQ hinf,hb.1,hb.2]
    cases hv
   ·rename_i b n esz;split at hv
    ·rename_i hb;injection hv with hv;subst hv
     cases hx with
     |gslice _ _ _ rb cap e m hp h hc hs hm=>
      refine⟨.pointer (some ((⟨rb,0,none⟩:Addr).add (j.toNat*inf.size))),?_,by rw[jB,az];exact .ptr _ _ _ h⟩;simp[Instr.indexAt,asIntOf,run_underlying ht,qQ hinf,hb.1,hb.2]
     |gslice0=>exact absurd hb.2 (by have:=hb.1;omega)
    cases hv
   cases hv
  cases hv
 ·rename_i n e k j ht;cases hi
  split at hv
  ·rename_i inf hinf;split at hv
   ·rename_i hb;split at hv
    ·rename_i b off;injection hv with hv;subst hv;obtain⟨ad,rfl,hr⟩:=hx.addPtr (k:=j.toNat*inf.size) rfl;exact⟨_,by simp[Instr.indexAt,asIntOf,run_underlying ht,Instr.sureAddr,qQ hinf,hb.1,hb.2],hr⟩
    ·rename_i cs off;injection hv with hv;subst hv;obtain⟨ad,rfl,hr⟩:=hx.addFptr (k:=j.toNat*inf.size);exact⟨_,by simp[Instr.indexAt,asIntOf,run_underlying ht,Instr.sureAddr,qQ hinf,hb.1,hb.2],hr⟩
    cases hv
   cases hv
  cases hv
 cases hv
theorem qoE (i:Inv F nu A w) {t:TypeId} {x ix:AV} {xv iv:Value} (hx:R F nu w x xv) (hi:R F nu w ix iv) {f:zG}:Ok P F nu A w (Instr.index t xv iv) (exec (.opt (xw P t x ix)) A f):=by
 refine Ok.opt i (λv hv=>?_);unfold xw at hv;split at hv
 ·rename_i s k j ht;cases hi
  cases hx with
  |str bs _ hs=>
   split at hv
   ·rename_i h0;split at hv
    ·rename_i c hc;injection hv with hv;subst hv;subst hs;refine⟨.int .u8 c.toNat,?_,.int _ _⟩
     have hb:bs[j.toNat]? =some c:=by
      obtain⟨hlt,he⟩:=Yb.1 hc
      have hlt':j.toNat<bs.size:=by simpa using hlt
      rw[getElem?_pos bs j.toNat hlt'];exact ap some (by rw[<-he];rfl)
     simp[Instr.index,asIntOf,run_underlying ht,h0,hb]
    cases hv
   cases hv
 ·rename_i n e cs k j ht;cases hi
  cases hx with
  |agg _ vs hl hR=>
   split at hv
   ·rename_i inf hinf;split at hv
    ·rename_i hb;obtain⟨y,h1,h2⟩:=qfq ⟨hl,hR⟩ hv;exact⟨y,by simp[Instr.index,asIntOf,run_underlying ht,hb.1,hb.2,qQ hinf,h1],h2⟩
    cases hv
   cases hv
 cases hv
end
end Go.Av
