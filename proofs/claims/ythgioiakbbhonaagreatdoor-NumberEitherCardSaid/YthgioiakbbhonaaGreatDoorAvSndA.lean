/-
  The operations on abstract values tell what the machine does: loads, stores, new variables, struct values, addresses.
-/
import Derived.Test.YthgioiakbbhonaaGreatDoorAvOp
import Derived.Laws.Cells
import Derived.Laws.CopyRow
noncomputable section
namespace Go.Av
set_option linter.unusedSectionVars false
variable [Glob]
open Go.RowKit
def Ok (P:Program) (F:Nat->Prop) (nu:Nat->Option Nat) (A:Heap) (w:World) (s:Sem Value) (r:Res):Prop:=
 ∀v A' f,r=some (v,A',f)-> ∃x w' nu',s.run P w= .ok x w'/\Stp F nu A w F nu' A' w'/\R F nu' w' v x
section
variable {P:Program} {F:Nat->Prop} {nu:Nat->Option Nat} {A:Heap} {w:World}
theorem Ok.none_ {s:Sem Value}:Ok P F nu A w s none:=λ_ _ _ h=>by cases h
theorem Ok.pure (i:Inv F nu A w) {s:Sem Value} {v:AV} {x:Value} {f:zG} (h:s.run P w= .ok x w) (hR:R F nu w v x):Ok P F nu A w s (some (v,A,f)):=by
 intro v' A' f' he;simp only[ZI,ZP]at he;obtain⟨rfl,rfl,rfl⟩:=he;exact⟨x,w,nu,h,.refl i,hR⟩
theorem Ok.opt (i:Inv F nu A w) {s:Sem Value} {o:Option AV} {f:zG} (h: ∀v,o=some v-> ∃x,s.run P w= .ok x w/\R F nu w v x):Ok P F nu A w s (exec (.opt o) A f):=by
 cases o with
 |none=>exact Ok.none_
 |some v=>
  obtain⟨x,h1,h2⟩:=h v rfl;exact Ok.pure i h1 h2
theorem qer: ∀(d:Nat) (v:Value),R F nu w (qb4 d v) v:=by
 intro d
 induction d with
 |zero=>
  intro v;unfold qb4;split<;>first|exact .undef _|exact .bool _|exact .int _ _|exact .str _ _ rfl|exact .nilptr|exact .nilslice|exact .nilmap|exact .nilfunc|exact .niliface|(exact .func _ [] [] _ _ rfl rfl (by simp) (by simp))|contradiction
 |succ d ih=>
  intro v;unfold qb4;split<;>first|exact .undef _|exact .bool _|exact .int _ _|exact .str _ _ rfl|exact .nilptr|exact .nilslice|exact .nilmap|exact .nilfunc|exact .niliface|(exact .func _ [] [] _ _ rfl rfl (by simp) (by simp))|skip
  all_goals
   rename_i cs h;injection h with h;subst h;refine .agg _ _ (by simp) (λj a x ha hx=>?_);simp only[YA,Yd]at ha;obtain⟨y,hy,rfl⟩:=ha
   have:y=x:=by
    rw[YT]at hy;rw[hy]at hx;injection hx
   subst this;exact ih y
theorem R.cells {a:AV} {v:Value} (h:R F nu w a v) {cs:List AV} (hc:cellsOf a=some cs):RL F nu w cs v.cells:=by
 cases h<;>simp only[cellsOf,ZI,reduceCtorEq]at hc<;>subst hc<;>first
  |(refine⟨by simp[Value.cells],λi a v ha hv=>?_⟩
    rcases i with _|i<;>simp[Value.cells]at ha hv
    subst ha;subst hv
    first
     |exact .bool _
     |exact .anyb _
     |exact .int _ _
     |exact .str _ _ ‹_›
     |exact .nilptr
     |exact .ptr _ _ _ ‹_›
     |exact .nilslice
     |exact .slice _ _ _ _ _ _ ‹_› ‹_›
     |exact .oslice _ _ _ _ _ _ _ ‹_› ‹_› ‹_› ‹_› ‹_›
     |exact .gslice0 _ _ _
     |exact .gslice _ _ _ _ _ _ _ ‹_› ‹_› ‹_› ‹_› ‹_› ‹_›
     |exact .wslice _ _ _ _ _ _ ‹_› ‹_›
     |exact .fslice0 _ _
     |exact .nilmap
     |exact .map _ _ ‹_›
     |exact .nilfunc
     |exact .yld _ _ ‹_›
     |exact .niliface
     |exact .fptr _ _ _ _ ‹_› ‹_› ‹_› ‹_›
     |exact .fslice _ _ _ _ _ ‹_› ‹_› ‹_› ‹_› ‹_›
     |exact .fmap _ _ _ _ _ ‹_› ‹_› ‹_› ‹_› ‹_› ‹_›
     |exact .func _ _ _ _ _ ‹_› ‹_› ‹_› ‹_›
     |exact .iface _ _ _ ‹_›)
  |(rename_i hl hR;exact⟨hl,hR⟩)
theorem R.oneCell {a:AV} {v:Value} (h:R F nu w a v) (hc:vo a=true):v.oneCell'=true:=by
 cases h<;>first|rfl|simp[vo]at hc
theorem qcT {t:TypeId} {d:TypeDesc} (h:P.underlying t=some d) (w:World):(isAgg t).run P w= .ok (qi5 d) w:=by
 simp only[isAgg,Sem.run_bind,run_underlying h,Result.andThen_ok];cases d<;>rfl
theorem qQ {t:TypeId} {i:TypeInfo} (h:P.info? t=some i) (w:World):(sizeOf t).run P w= .ok i.size w:=by
 simp[sizeOf,typeInfo,h]
theorem qfU {t:TypeId} {i:TypeInfo} (h:P.info? t=some i) (w:World):(typeInfo t).run P w= .ok i w:=by
 simp[typeInfo,h]
theorem qU {t:TypeId} {i:TypeInfo} {z:Value} (h:P.info? t=some i) (hz:i.zero=some z) (w:World):(zeroValue t).run P w= .ok z w:=by
 simp[zeroValue,typeInfo,h,hz]
theorem qaF (i:Inv F nu A w) {b rb off n:Nat} {x:Blk} {cs:List AV} (hb:nu b=some rb) (hA:A[b]? =some x) (hc:yN x off n=some cs):
 ∃vs:List Value,vs.length=n/\cs.length=n/\(∀(j:Nat) (v:Value),vs[j]? =some v->w.cell? ⟨rb,off+j,none⟩=some v)/\ ∀(j:Nat) (a:AV) (v:Value),cs[j]? =some a->vs[j]? =some v->R F nu w a v:=by
 have key: ∀(all:List AV) (vs:Array Value) (e:TypeId) (fr:Nat×Nat),w.heap[rb]? =some (.cells vs e fr)->all.length<=vs.size->(∀(j:Nat) (a:AV) (v:Value),all[j]? =some a->vs[j]? =some v->R F nu w a v)->off+n<=all.length->(all.drop off).take n=cs->
  ∃vs:List Value,vs.length=n/\cs.length=n/\(∀(j:Nat) (v:Value),vs[j]? =some v->w.cell? ⟨rb,off+j,none⟩=some v)/\ ∀(j:Nat) (a:AV) (v:Value),cs[j]? =some a->vs[j]? =some v->R F nu w a v:=by
  intro all vs e fr hh hl hR hn hcs;subst hcs;refine⟨(vs.toList.drop off).take n,by simp;omega,by simp;omega,λj v hv=>?_,λj a v ha hv=>?_⟩
  ·rw[Yt]at hv;split at hv
   ·rw[YI]at hv;simp only[World.cell?,hh,aW,ZF,aU];simpa using hv
   cases hv
  rw[Yt]at ha hv;split at ha
  ·rename_i hj;rw[ae hj]at hv;rw[YI]at ha hv;exact hR (off+j) a v ha (by simpa using hv)
  cases ha
 have hr:=i.blk b rb x hb hA;cases x<;>simp only[yN]at hc<;>try (cases hc;done)
 ·obtain⟨_,vs,e,h1,h2,h3,_⟩:=hr;split at hc
  ·rename_i es _ _ a hn;injection hc with hc;subst hc;have ho:=(Yb.1 hn).1;refine⟨[vs[off]'(by omega)],rfl,rfl,λj v hv=>?_,λj a v ha hv=>?_⟩
   ·cases j with
    |zero=>
     simp at hv;subst hv;simp[World.cell?,h1]
    |succ j=>simp at hv
   cases j with
   |zero=>
    simp at ha hv;subst ha hv;exact h3 off _ _ hn (by simp)
   |succ j=>simp at hv
  cases hc
 ·obtain⟨_,vs,e,h1,h2,h3⟩:=hr;split at hc
  ·rename_i hn;injection hc with hc;exact key _ vs e _ h1 h2 h3 hn hc
  cases hc
 obtain⟨_,vs,e,fr,h1,h2,h3⟩:=hr;split at hc
 ·rename_i hn;injection hc with hc;exact key _ vs e fr h1 h2 h3 hn hc
 cases hc
theorem jr {b off n:Nat} {k:List AV->Pg} {f:zG} {r:AV×Heap×zG} (h:exec (qaI b off n k) A f=some r): ∃x cs,A[b]? =some x/\yN x off n=some cs/\exec (k cs) A ((b,false)::f)=some r:=by
 unfold qaI exec at h;split at h
 ·rename_i x hx
  cases hc:yN x off n with
  |none=>simp[hc,exec]at h
  |some cs=>exact⟨x,cs,hx,hc,by simpa[hc]using h⟩
 cases h
theorem qd9 (i:Inv F nu A w) {p:AV} {x:Value} (hp:R F nu w p x) {n:Nat} {k:List AV->Pg} {f:zG} {r:AV×Heap×zG} (h:exec (yY p n k) A f=some r):
 ∃(ad:Addr) (cs:List AV) (vs:List Value) (f':zG),x= .pointer (some ad)/\vs.length=n/\cs.length=n/\(∀(j:Nat) (v:Value),vs[j]? =some v->w.cell? (ad.add j)=some v)/\
  (∀(j:Nat) (a:AV) (v:Value),cs[j]? =some a->vs[j]? =some v->R F nu w a v)/\exec (k cs) A f'=some r:=by
 cases hp with
 |ptr b off rb hb=>
  obtain⟨y,cs,hA,hc,hk⟩:=jr (by simpa[yY]using h);obtain⟨vs,h1,h2,h3,h4⟩:=qaF i hb hA hc;exact⟨_,cs,vs,_,rfl,h1,h2,λj v hv=>by rw[jB];exact h3 j v hv,h4,hk⟩
 |fptr cs off ad vs hF hl hc hR=>
  simp only[yY]at h;split at h
  ·rename_i hn;refine⟨_,_,(vs.drop off).take n,_,rfl,by simp;omega,by simp;omega,λj v hv=>?_,λj a v ha hv=>?_,h⟩
   ·rw[Yt]at hv;split at hv
    ·rw[YI]at hv;rw[add_add];exact hc _ v hv
    cases hv
   rw[Yt]at ha hv;split at ha
   ·rename_i hj;rw[ae hj]at hv;rw[YI]at ha hv;exact hR _ a v ha hv
   cases ha
  simp[exec]at h
 |_=>simp[yY,exec]at h
theorem qrz (i:Inv F nu A w) {t:TypeId} {p:AV} {x:Value} (hp:R F nu w p x) {f:zG}:Ok P F nu A w (Instr.loadAt t x) (exec (qX P t p) A f):=by
 intro v A' f' h;unfold qX at h;split at h
 ·rename_i d inf hd hi;split at h
  ·rename_i ha;obtain⟨ad,cs,vs,f2,rfl,h1,h2,h3,h4,h5⟩:=qd9 i hp h;simp only[exec,ZI,ZP]at h5;obtain⟨rfl,rfl,rfl⟩:=h5;refine⟨.agg vs.toArray,w,nu,?_,.refl i,.agg _ _ (by simp;omega) (λj a v ha hv=>h4 j a v ha (by simpa using hv))⟩;have:=run_loadCells_list (P:=P) w ad vs h3;rw[h1]at this;simp[Instr.loadAt,Instr.sureAddr,loadVar,qcT hd,ha,qQ hi,this]
  rename_i ha;obtain⟨ad,cs,vs,f2,rfl,h1,h2,h3,h4,h5⟩:=qd9 i hp h
  match cs,h2 with
  |[c],_=>
   match vs,h1 with
   |[y],_=>
    simp only[exec,ZI,ZP]at h5;obtain⟨rfl,rfl,rfl⟩:=h5;have hc:=h3 0 y rfl;rw[add_zero']at hc;refine⟨y,w,nu,?_,.refl i,h4 0 c y rfl rfl⟩;simp[Instr.loadAt,Instr.sureAddr,loadVar,qcT hd,ha,hc]
 simp[exec]at h
theorem qfI {cs xs:List AV} {off:Nat} (h:off+xs.length<=cs.length):(splice cs off xs).length=cs.length:=by
 simp[splice];omega
theorem qoy {cs xs:List AV} {vs0 ys:List Value} {off:Nat} (hlen:cs.length<=vs0.length) (hx:ys.length=xs.length) (ho:off+xs.length<=cs.length)
 (h1: ∀(j:Nat) (a:AV) (v:Value),cs[j]? =some a->vs0[j]? =some v->R F nu w a v) (h2: ∀(j:Nat) (a:AV) (v:Value),xs[j]? =some a->ys[j]? =some v->R F nu w a v):
 ∀(j:Nat) (a:AV) (v:Value),(splice cs off xs)[j]? =some a->(vs0.take off++ys++vs0.drop (off+ys.length))[j]? =some v->R F nu w a v:=by
 intro j a v ha hv;unfold splice at ha;rcases ak j off with hj|hj
 ·rw[Yz,Yf (by simp;omega),Yt,ae hj]at ha hv;exact h1 j a v ha hv
 rw[Yz,Yo (by simp;omega)]at ha hv;simp only[Ym]at ha hv;rw[aP (by omega)]at ha hv;rcases ak (j-off) xs.length with hk|hk
 ·rw[Yf (by omega)]at ha hv;exact h2 _ a v ha hv
 rw[Yo (by omega),YI]at ha hv;rw[hx]at hv;exact h1 _ a v ha hv
theorem RL.cells_one {xs:List AV} {ys:Array Value} (h:RL F nu w xs ys) (hc:xs.all vo=true): ∀v∈ys.toList,v.oneCell'=true:=by
 intro v hv;obtain⟨j,hj⟩:=List.mem_iff_getElem?.1 hv
 have hlt:j<ys.size:=by simpa using(Yb.1 hj).1
 have hl:j<xs.length:=by have:=h.1;omega
 have ha:xs[j]? =some xs[j]:=Ya hl;exact(h.2 j _ v ha (by simpa using hj)).oneCell (Yp.1 hc _ (bq hl))
theorem qee (i:Inv F nu A w) {b rb off:Nat} {cs xs:List AV} {ys:List Value} (hb:nu b=some rb) (hA:A[b]? =some (.cells cs)) (ho:off+xs.length<=cs.length) (hl:ys.length=xs.length)
 (h1: ∀v∈ys,v.oneCell'=true) (hR: ∀(j:Nat) (a:AV) (v:Value),xs[j]? =some a->ys[j]? =some v->R F nu w a v):
 ∃w',(storeCells ⟨rb,off,none⟩ ys).run P w= .ok () w'/\Stp F nu A w F nu (A.set b (.cells (splice cs off xs))) w':=by
 obtain⟨_,vs0,e,hh,hlen,hR0⟩:=i.blk b rb _ hb hA;refine⟨_,run_storeCells_at P rb off e ys 0 vs0 w hh (by omega) h1,?_⟩;simp only[aY];refine Stp.setRow i hb hA hh (by simp;omega) (by rw[qfI ho];simp;omega) (λj a v ha hv=>?_);exact qoy (vs0:=vs0.toList) (by simpa using hlen) hl ho (λj a v ha hv=>hR0 j a v ha (by simpa using hv)) hR j a v ha (by simpa using hv)
theorem qnb (i:Inv F nu A w) {b rb off:Nat} {es:List Ent} {a:AV} {y:Value} (hb:nu b=some rb) (hA:A[b]? =some (.bag es)) (ho:off<es.length) (h1:y.oneCell'=true) (hR:R F nu w a y):
 ∃w',(storeCells ⟨rb,off,none⟩ [y]).run P w= .ok () w'/\Stp F nu A w F nu (A.set b (.bag (es.set off (.av a)))) w':=by
 obtain⟨_,vs0,e,hh,hlen,_⟩:=i.blk b rb _ hb hA;refine⟨_,run_storeCells_at P rb off e [y] 0 vs0 w hh (by simp;omega) (by simpa using h1),?_⟩;simp only[aY];refine Stp.setBag i hb hA hh (by simp;omega) ho (λj hj=>?_) (λv hv=>?_)
 ·simp only[<-YT];rcases ak j off with h|h
  ·rw[Yz,Yf (by simp;omega),Yt,ae h]
  rw[Yo (by simp;omega),YI];congr 1;simp;omega
 have:v=y:=by
  simp only[List.getElem?_toArray]at hv;rw[Yz,Yo (by simp;omega)]at hv
  have e0:off-(vs0.toList.take off).length=0:=by simp;omega
  rw[e0]at hv;simpa using hv.symm
 rw[this];exact hR
theorem qqh (i:Inv F nu A w) {t:TypeId} {p x:AV} {pv xv:Value} (hp:R F nu w p pv) (hx:R F nu w x xv) {f:zG} {v:AV} {A':Heap} {f':zG} (h:exec (qx P t p x) A f=some (v,A',f')):
 v= .undef/\ ∃w',(Instr.storeAt t pv xv).run P w= .ok () w'/\Stp F nu A w F nu A' w':=by
 unfold qx at h;split at h
 ·rename_i inf xs b off hi hxs
  cases hp with
  |ptr _ _ rb hb=>
   simp only[exec]at h;split at h
   ·rename_i k hk;split at h
    ·rename_i cs;split at h
     ·rename_i hc;obtain⟨hc1,hc2,hc3⟩:=hc;simp only[exec]at h;split at h
      ·simp only[ZI,ZP]at h;obtain⟨rfl,rfl,_⟩:=h;have hl:=hx.cells hxs;obtain⟨w',h1,h2⟩:=qee (P:=P) i hb hk hc2 (ys:=xv.cells.toList) (by simpa using hl.1) (hl.cells_one hc3) (λj a v ha hv=>hl.2 j a v ha (by simpa using hv));refine⟨rfl,w',?_,h2⟩;have hsz:xv.cells.size=inf.size:=hl.1.trans hc1;simp[Instr.storeAt,Instr.sureAddr,storeVar,qQ hi,hsz,h1]
      cases h
     simp[exec]at h
    ·rename_i es;split at h
     ·rename_i a;split at h
      ·rename_i hc;obtain⟨hc1,hc2,hc3⟩:=hc;simp only[exec]at h;split at h
       ·simp only[ZI,ZP]at h;obtain⟨rfl,rfl,_⟩:=h;have hl:=hx.cells hxs;have hy:xv.cells.size=1:=hl.1
        obtain⟨y,he⟩: ∃y,xv.cells=#[y]:=by
         refine⟨xv.cells[0]'(by omega),?_⟩;apply Array.ext
         ·simp[hy]
         intro q h1 h2;simp at h2;subst h2;rfl
        have h1c:=hl.cells_one (by simpa using hc3);rw[he]at h1c hl;obtain⟨w',h1,h2⟩:=qnb (P:=P) i hb hk hc2 (a:=a) (y:=y) (h1c y (by simp)) (hl.2 0 a y rfl (by simp));refine⟨rfl,w',?_,h2⟩;simp[Instr.storeAt,Instr.sureAddr,storeVar,qQ hi,he,hc1,h1]
       cases h
      simp[exec]at h
     simp[exec]at h
    simp[exec]at h
   cases h
 simp[exec]at h
theorem qr7 (i:Inv F nu A w) {e:TypeId} {x:AV} {xv:Value} (hx:R F nu w x xv) {f:zG}:Ok P F nu A w (Instr.box e xv) (exec (aBox x) A f):=by
 intro v A' f' h;unfold aBox Pg.box at h;split at h
 ·rename_i cs hcs;simp only[exec,ZI,ZP]at h;obtain⟨rfl,rfl,_⟩:=h;have hl:=hx.cells hcs;refine⟨_,_,_,rfl,Ug i xv.cells e cs (by have:=hl.1;omega) hl.2,.ptr _ _ _ (upd_same _ _)⟩
 simp[exec]at h
theorem qbz {e:TypeId} {cs:List AV} (h:qfj P e=some cs): ∃i z,P.info? e=some i/\i.zero=some z/\cellsOf (qb4 3 z)=some cs/\RL F nu w cs z.cells:=by
 unfold qfj at h;split at h
 ·rename_i i hi;split at h
  ·rename_i z hz;exact⟨i,z,hi,hz,h,(qer 3 z).cells h⟩
  cases h
 cases h
theorem qh3: ∀{cs:List AV},qg5 cs=true-> ∀{a:AV},a∈cs->a= .nilptr\/a= .nilslice
 |[],_,a,h=>by cases h
 |c::cs,hp,a,h=>by
  cases c<;>simp only[qg5,ZF]at hp
  all_goals (rcases bK.1 h with e|e)
  all_goals first
   |exact .inl e
   |exact .inr e
   |exact qh3 hp e
theorem qpR (i:Inv F nu A w) {e:TypeId} {f:zG}:Ok P F nu A w (Instr.alloc e true (.tuple #[])) (exec (qml P e) A f):=by
 intro v A' f' h;unfold qml at h;split at h
 ·unfold Pg.box at h;split at h
  ·rename_i cs hcs;simp only[exec,ZI,ZP]at h;obtain⟨rfl,rfl,_⟩:=h;obtain⟨inf,z,hi,hz,_,hl⟩:=qbz (F:=F) (nu:=nu) (w:=w) hcs;refine⟨.pointer (some ⟨w.heap.size,0,none⟩),w.alloc (.cells z.cells e),_,?_,Ug i z.cells e cs (by have:=hl.1;omega) hl.2,.ptr _ _ _ (upd_same _ _)⟩;simp[Instr.alloc,qU hi hz,newVar,newRow]
  simp[exec]at h
 rename_i t _;split at h
 ·rename_i cs hcs
  cases hp:qg5 cs with
  |false=>rw[hp]at h;simp[exec]at h
  |true=>
   rw[hp]at h;simp only[cond_true,exec,ZI,ZP]at h;obtain⟨rfl,rfl,_⟩:=h;obtain⟨inf,z,hi,hz,_,hl⟩:=qbz (F:=F) (nu:=nu) (w:=w) hcs
   have x:Ext F nu w F (upd nu A.length w.heap.size) (w.alloc (.cells z.cells e)):=
    ⟨λ_ h=>h,qdv i _,λrb h=>Go.heap_alloc_old w _ rb (i.ltF rb h),λrb s hs=>qbF _ rb s hs⟩
   refine⟨.pointer (some ⟨w.heap.size,0,none⟩),w.alloc (.cells z.cells e),_,?_,Stp.alloc i _ _ ⟨λh=>absurd (i.ltF _ h) (by omega),z.cells,Go.heap_alloc_new w _,hl.1,λj a v ha hv=>(hl.2 j a v ha hv).mono x,λj g n cap hv=>?_⟩,.ptr _ _ _ (upd_same _ _)⟩
   ·simp[Instr.alloc,qU hi hz,newVar,newRow]
   exfalso;have hj:j<z.cells.size:=(YB.1 hv).1
   have hj2:j<cs.length:=by rw[<-hl.1];exact hj
   have ha:cs[j]? =some cs[j]:=Ya hj2;have hR:=hl.2 j _ _ ha hv;rcases qh3 hp (bq hj2)with e1|e1
   ·rw[e1]at hR;cases hR
   rw[e1]at hR;cases hR
 simp[exec]at h
end
end Go.Av
