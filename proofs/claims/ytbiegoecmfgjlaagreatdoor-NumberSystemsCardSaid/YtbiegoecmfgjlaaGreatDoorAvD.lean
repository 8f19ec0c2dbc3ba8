/-
  What functions of Go's library do that the evaluator does not run, told by value.
-/
import Derived.Test.YtbiegoecmfgjlaaGreatDoorAvE
import Derived.Test.YtbiegoecmfgjlaaGreatDoorAvC
import Derived.Test.YtbiegoecmfgjlaaGreatDoorAvLayS2
import Derived.Test.YtbiegoecmfgjlaaGreatDoorChecked
import Derived.KernelRfl
import Derived.Lib.SmallJoins
import Derived.Lib.Bytealg
import Derived.WalkSmall
import Derived.WalkKit
import Derived.ProofKit
import Derived.OpenShut
import Derived.ChangeSlices
import Derived.Carry
import Derived.Deep.DeepHandedRow
import Derived.Lib.AppendIntMem
set_option maxRecDepth 100000
set_option linter.all false
noncomputable section
namespace Go.Av
section
open Go.Proofs Go.RowKit Go.Shelf
def qe6:String:= "internal/strconv.uint64pow10"
def qhL:Tryz.prog.globalNamed qe6=some 5:=by kernel_rfl
instance tabGlob:Glob where
 G F w:=F 5/\Lib.TabIs Tryz.prog w qe6 .u64 Lib.pow10Tab
 gl _:= .undef
 bt t:=bif Nat.beq t 176 then some 5 else none
 mono:=by
  rintro F F' w w' ⟨h1,h2⟩ hF hk;refine⟨hF _ h1,?_⟩;have e:=hk 5 h1;unfold Lib.TabIs World.var? at h2⊢;rw[qhL]at h2⊢;simp only[ZB,e]at h2⊢;exact h2
 val _ _:= .undef _
def qgC {w w':World}(h:Below w.heap.size w w'):Kept w w':=⟨λrb hlt=>h.block rb hlt,h.size,h.os,h.tape,h.output⟩
def qnl:Nat->Nat->List UInt8->List UInt8
 |0,_,acc=>acc
 |f+1,n,acc=>z8 (Nat.blt n 10) (UInt8.ofNat (48+n)::acc) (qnl f (Nat.div n 10) (UInt8.ofNat (48+Nat.mod n 10)::acc))
def qoS:∀(f n:Nat) (acc:List UInt8),n<10^f->qnl f n acc=Lib.decDigits n++acc\/f=0:=by
 intro f
 induction f with
 |zero=>intro n acc _;exact .inr rfl
 |succ f ih=>
  intro n acc h;left;unfold qnl;rw[zh];rw[Lib.decDigits];by_cases hn:n<10
  ·rw[ae (show Nat.blt n 10=true from bD hn),dif_pos hn];rfl
  rw[aa (by rw[qcE (by omega)];simp),dif_neg hn]
  have hlt:n/10<10^f:=by
   rw[Nat.pow_succ]at h;omega
  have e1:Nat.div n 10=n/10:=rfl;have e2:Nat.mod n 10=n%10:=rfl;rw[e1,e2];rcases ih (n/10) (UInt8.ofNat (48+n%10)::acc) hlt with h2|h2
  ·rw[h2];simp
  subst h2;simp at h;omega
def qrF (n:Int):Option AV:=Int.rec (motive:=λ_=>Option AV) (λm=>z8 (Nat.blt m 1000000000000000000) (some (.str (qnl 18 m []))) none)
 (λm=>z8 (Nat.blt (Nat.succ m) 1000000000000000000) (some (.str (45::qnl 18 (Nat.succ m) []))) none) n
def qm3 {n:Int}{v:AV}(h:qrF n=some v): -1000000000000000000<n/\n<1000000000000000000/\v= .str (Lib.itoa n):=by
 cases n with
 |negSucc m=>
  have h:z8 (Nat.blt (Nat.succ m) 1000000000000000000) (some (AV.str (45::qnl 18 (Nat.succ m) []))) none=some v:=h;rw[zh]at h;split at h
  ·rename_i hb;have hm:Nat.succ m<1000000000000000000:=Ys hb;injection h with h;refine⟨by omega,by omega,?_⟩;rcases qoS 18 (Nat.succ m) [] (by simpa using hm)with h2|h2
   ·rw[<-h,h2];unfold Lib.itoa;rw[ae (by omega)];simp[Int.natAbs]
   cases h2
  cases h
 |ofNat m=>
  have h:z8 (Nat.blt m 1000000000000000000) (some (AV.str (qnl 18 m []))) none=some v:=h;rw[zh]at h;split at h
  ·rename_i hb;have hm:m<1000000000000000000:=Ys hb;injection h with h;refine⟨by show _<(m:Int);omega,by show(m:Int)<_;omega,?_⟩;rcases qoS 18 m [] (by simpa using hm)with h2|h2
   ·rw[<-h,h2];simp[Lib.itoa]
   cases h2
  cases h
def qtc {n:Int}{v:AV}(h:qrF n=some v):qc Tryz.prog (.fn 205) [.int .i64 n] [] v []:=by
 obtain⟨h0,h1,rfl⟩:=qm3 h;refine eB (enters_of (by kernel_rfl)) (λF nu w vs hg hargs=>?_) [];obtain⟨x,ws,rfl,hx,hws⟩:=hargs.cons_inv;obtain rfl:=hws.nil_inv;obtain rfl:=hx.int_inv;refine⟨_,.str ⟨(Lib.itoa n).toArray⟩ _ rfl,?_⟩;have:=Any.strconv_Itoa Um n (by omega) (by omega) w hg.2;refine Calls.mono (show Calls Tryz.prog 205 #[.int .i64 n] w _ from this) ?_;rintro e w' ⟨he,k,os,rfl⟩;refine⟨he,?_⟩;have h2:Below w.heap.size w (w.drewN k):=below_drewN (Below.refl _ _) k;refine⟨λrb hlt=>?_,?_,rfl,rfl,rfl⟩
 ·show((w.drewN k).heap++os)[rb]? =_;rw[YC (by have:=h2.size;omega)];exact h2.block rb hlt
 show _<=((w.drewN k).heap++os).size;have h3:=h2.size;simp only[dB];omega
def qoa (s:List UInt8):Option AV:=z8 (Nat.ble s.length 18) (ob (Lib.atoi s) λn=>some (.tuple [.int .i64 n,.niliface])) none
def qnO {s:List UInt8}{v:AV}(h:qoa s=some v):qc Tryz.prog (.fn 141) [.str s] [] v []:=by
 unfold qoa at h;rw[zh]at h;split at h
 ·rename_i hl;obtain⟨n,hn,h⟩:=zC h;injection h with h;subst h;have hl:s.length<=18:=Ys hl;refine eB (enters_of (by kernel_rfl)) (λF nu w vs hg hargs=>?_) [];obtain⟨x,ws,rfl,hx,hws⟩:=hargs.cons_inv;obtain rfl:=hws.nil_inv;obtain⟨b,rfl,rfl⟩:=hx.str_inv;refine⟨.tuple #[.int .i64 n,.nilIface],.tuple _ _ rfl (λi a v ha hv=>?_),?_⟩
  ·match i with
   |0=>simp at ha hv;subst ha hv;exact .int _ _
   |1=>simp at ha hv;subst ha hv;exact .niliface
   |i+2=>simp at ha
  have:=Any.strconv_Atoi Tryz.lays172 b n (by simpa using hl) hn w;refine Calls.mono (show Calls Tryz.prog 141 #[.string b] w _ from this) ?_;rintro e w' ⟨he,t,rfl⟩;refine⟨he,?_⟩;unfold Lib.bytesWorld World.freeze;refine⟨λrb hlt=>?_,?_,rfl,rfl,rfl⟩
  ·simp only[Nat.one_ne_zero,bh,YD];rw[aa (by omega)];exact heap_alloc_old _ _ hlt
  simp
 cases h
def qj1 (c:Nat):List UInt8->Nat->Int:=λl=>List.rec (motive:=λ_=>Nat->Int) (λ_=> -1) (λx _ ih k=>z8 (Nat.beq x.toNat c) (Int.ofNat k) (ih (Nat.succ k))) l
def qti (c:UInt8):∀(l:List UInt8) (k:Nat),qj1 c.toNat l k=if Lib.indexByte l c= -1 then-1 else Lib.indexByte l c+k:=by
 intro l
 induction l with
 |nil=>intro k;rfl
 |cons x l ih=>
  intro k;show z8 (Nat.beq x.toNat c.toNat) (Int.ofNat k) (qj1 c.toNat l (k+1))=_;rw[zh,ih];rw[show Lib.indexByte (x::l) c=if x==c then 0 else if Lib.indexByte l c== -1 then-1 else Lib.indexByte l c+1 from rfl];by_cases h:x=c
  ·subst h;rw[ae (qge rfl)];simp
  have h2:x.toNat≠c.toNat:=λe=>h (UInt8.toNat_inj.1 e)
  rw[aa (by rw[qeb h2];simp)]
  have h3:(x==c)=false:=by simpa using h
  have:=Lib.indexByte_ge l c;simp only[h3,ZF,bh,bR];by_cases h4:Lib.indexByte l c= -1
  ·simp[h4]
  have h5:¬Lib.indexByte l c+1= -1:=by omega
  simp only[h4,h5,bh];omega
def qmX {s:List UInt8}{c:Int}(h0:0<=c) (h1:c<256):qc Tryz.prog (.fn 241) [.str s,.int .u8 c] [] (.int .i64 (qj1 c.toNat s 0)) []:=by
 intro F nu w vs i hargs;obtain⟨x,ws,rfl,hx,hws⟩:=hargs.cons_inv;obtain⟨y,us,he,hy,hus⟩:=hws.cons_inv
 obtain rfl:ws=y::us:=by simpa using he
 obtain rfl:=hus.nil_inv;obtain⟨b,rfl,rfl⟩:=hx.str_inv;obtain rfl:=hy.int_inv;right
 have hc:c.toNat.toUInt8.toNat=c.toNat:=by
  rw[Nat.toUInt8_eq,ff];omega
 refine⟨_,w,F,nu,?_,.refl i,.int .i64 (qj1 c.toNat b.data.toList 0)⟩;rw[run_callFunc_extern Tryz.func241 (by kernel_rfl) (by kernel_rfl) (by kernel_rfl) (show Extern.find Tryz.f241=some Extern.BytealgIndexByte.indexByte by rfl),Lib.run_indexByteString];simp only[Result.andThen]
 have e:qj1 c.toNat b.data.toList 0=Lib.indexByte b.data.toList c.toNat.toUInt8:=by
  rw[<-hc,qti,hc];split<;>omega
 rw[e]
def qto (f:FuncId) (args:List AV):Option AV:=
 if f=205 then match args with
  |[.int .i64 n]=>qrF n
  |_=>none
 else if f=141 then match args with
  |[.str s]=>qoa s
  |_=>none
 else if f=241 then match args with
  |[.str s,.int .u8 c]=>if 0<=c/\c<256 then some (.int .i64 (qj1 c.toNat s 0))else none
  |_=>none
 else none
def qtx:zB:=qtp qto
set_option maxHeartbeats 1000000 in
def qpQ:ky Tryz.prog qtx:=by
 refine qrV λf args v h=>?_
 unfold qto at h;split at h
 ·rename_i e;subst e;split at h
  ·exact qtc h
  cases h
 split at h
 ·rename_i e;subst e;split at h
  ·exact qnO h
  cases h
 split at h
 ·rename_i e;subst e;split at h
  ·split at h
   ·rename_i hc;injection h with h;subst h;exact qmX hc.1 hc.2
   cases h
  cases h
 cases h
def insC:zB:=λc args A=>match c with
 | .fn 94=>insA args A
 |_=>none
def qsm:ky Tryz.prog insC:=by
 intro c args A v A' h;unfold insC at h;split at h
 ·exact qsy Tryz.lays2_21 (enters_of (by kernel_rfl)) h
 cases h
end
section
variable {α:Type}
def qg {n:Int}(h1: -9223372036854775808<=n) (h2:n<=9223372036854775807):w64 n=n:=by
 show IntKind.wrap .i64 n=n;unfold IntKind.wrap
 have e:(2:Int)^IntKind.i64.bits=18446744073709551616:=by decide
 have e2:(2:Int)^(IntKind.i64.bits-1)=9223372036854775808:=by decide
 have e3:IntKind.i64.signed=true:=by decide
 simp only[e,e2,e3,dj,ge_iff_le,aO];split<;>omega
def qm {k:Nat}(h:k<4611686018427387904):w64 ((k:Int)+1)=((k+1:Nat):Int):=by
 rw[qg (by omega) (by omega)];rfl
def qlx {k:Nat}(h:k<4611686018427387904) (h0:0<k):w64 ((k:Int)-1)=((k-1:Nat):Int):=by
 rw[qg (by omega) (by omega)];omega
def qf (l:List α) (k:Nat):idx l (k:Int)=l[k]? :=by simp[idx]
def yJ (l:List α):idx l 0=l[0]? :=by simp[idx]
def idx_1 (l:List α):idx l 1=l[1]? :=by simp[idx]
def jU {b:Nat}{l xs:List α}(h:(l.length+xs.length)*b<=140737488355328) (h2:l.length+xs.length<=140737488355328):app b l xs=some (l++xs):=by
 unfold app;rw[ae ⟨h,h2⟩]
def jr {l:List α}{k:Nat}(h:k<l.length) (x:α):put l (k:Int) x=some (l.set k x):=by
 unfold put;rw[ae ⟨by omega,by omega⟩];simp
def jN {l:List α}{k:Nat}(h:k<=l.length):cut l 0 (k:Int)=some (l.take k):=by
 unfold cut;rw[ae ⟨by omega,by omega,by omega⟩];simp
def xx {l:List α}{k:Nat}(h:k<=l.length):cut l (k:Int) (l.length:Int)=some (l.drop k):=by
 unfold cut;rw[ae ⟨by omega,by omega,by omega⟩];simp only[aU,ZI];rw[ar (by simp)]
def qtN {l:List α}{k:Nat}(h:k<=l.length):at' l (k:Int)=some k:=by
 unfold at';rw[ae ⟨by omega,by omega⟩];simp
end
section
open Go.ChangeShapes Go.WideShapes Go.ChangeAt Go.RowKit
section
variable {H:Type}{enc:TypeId×Value->H}{P:Program}
def qj6 (hl:laidOutB P=true) {W W':World}(bel:Below W.heap.size W W'):∀(ts:List TypeId) (vs:List Value) (ds:List (DataW H)) (ps:List MemPlace),(∀t∈ts,P.readableRec t=true/\t<P.types.size)->(∀x∈ps,x.block<W.heap.size)->
 DataW.TrodAll enc P W 0 (λ_=>true) true ts vs ds ps->DataW.TrodAll enc P W' 0 (λb=>decide (b<W.heap.size)) true ts vs ds ps:=by
 intro ts
 induction ts with
 |nil=>
  intro vs ds ps _ _ h;obtain⟨rfl,rfl,rfl⟩:=trodAll_nil h;exact trodAll_mk0
 |cons t ts ih=>
  intro vs ds ps hr hp h;obtain⟨v,vs',d,ds',p,q,rfl,rfl,rfl,h1,h2⟩:=trodAll_cons h;have ht:=hr t (by simp);exact trodAll_cons_mk (Below.trod hl ht.1 ht.2 h1 bel λx hx=>hp x (by simp[hx])) (ih vs' ds' q (λu hu=>hr u (by simp[hu])) (λx hx=>hp x (by simp[hx])) h2)
def trodAll_length:∀(ts:List TypeId) {W:World}{b:Nat}{sp:Nat->Bool}{hd:Bool}{vs:List Value}{ds:List (DataW H)}{ps:List MemPlace},DataW.TrodAll enc P W b sp hd ts vs ds ps->ds.length=ts.length:=by
 intro ts
 induction ts with
 |nil=>
  intro W b sp hd vs ds ps h;obtain⟨_,rfl,_⟩:=trodAll_nil h;rfl
 |cons t ts ih=>
  intro W b sp hd vs ds ps h;obtain⟨v,vs',d,ds',p,q,rfl,rfl,rfl,h1,h2⟩:=trodAll_cons h;simp[ih h2]
def qru {fn:Func}{spec:ChangeSpec}{W W':World}{args:Array Value}{ds gs:List (DataW H)}{before:List MemPlace}{tb:TypeId}
 (hl:laidOutB P=true) (hr:∀t∈fn.params.toList,P.readableRec t=true/\t<P.types.size) (hv:spec.vars=[]) (hres:fn.resultTypes=#[tb]) (hb:P.underlying tb=some .bool)
 (hspec:∀ds:List (DataW H),ds.length=fn.params.size->(spec.fn H ds).results=[.lit (.bool true)]/\(spec.fn H ds).args=ds/\(spec.fn H ds).vars=[])
 (hW:DataW.Whole enc P fn.params.toList spec.vars false W args.toList ds gs before) (bel:Below W.heap.size W W'):spec.post enc P fn false true false false W args (.bool true) W':=by
 have hW':=hW;have hlt:=hW.lt;obtain⟨p,q,hA,hV,rfl,hfz,hnd⟩:=hW;rw[hv]at hV;obtain⟨rfl,rfl⟩:=trodVars_none hV;obtain⟨e1,e2,e3⟩:=hspec ds (by rw[trodAll_length _ hA];simp);refine⟨ds,[],p++[],[],p,[],hW',?_,?_,?_,bel.frame _,λh=>by cases h⟩
 ·rw[YQ,e1,hres];exact trodAll_mk1 (shut_bool hb true)
 ·rw[YQ,e2];exact qj6 hl bel _ _ _ _ hr (λx hx=>hlt x (by simp[hx])) hA
 rw[hv,YQ,e3];rfl
end
section
variable [Glob]{P:Program}
def Stp.below {F F':Nat->Prop}{nu':Nat->Option Nat}{A':Heap}{w w':World}(st:Stp F (λ_=>none) [] w F' nu' A' w'):Below w.heap.size w w':=
 ⟨st.os,st.tape,st.output,st.size,λk hk=>st.keep k hk (by rintro⟨b,x,r,hb,_⟩;cases hb)⟩
def AllOf (W:World):Nat->Prop:=λrb=>rb<W.heap.size
def qpB {H:Type}{enc:TypeId×Value->H}{f:FuncId}{fn:Func}{spec:ChangeSpec}{W:World}{args:Array Value}{al:List AV}{ds gs:List (DataW H)}{before:List MemPlace}{tb:TypeId}
 (hl:laidOutB P=true) (hr:∀t∈fn.params.toList,P.readableRec t=true/\t<P.types.size) (hv:spec.vars=[]) (hres:fn.resultTypes=#[tb]) (hb:P.underlying tb=some .bool)
 (hspec:∀ds:List (DataW H),ds.length=fn.params.size->(spec.fn H ds).results=[.lit (.bool true)]/\(spec.fn H ds).args=ds/\(spec.fn H ds).vars=[])
 (hW:DataW.Whole enc P fn.params.toList spec.vars false W args.toList ds gs before)
 (hent:Enters P f) (hok:qc P (.fn f) al [] (.bool true) []) (hg:Glob.G (AllOf W) W) (hR:RL (AllOf W) (λ_=>none) W al args):
 Calls P f args W λe W'=>∃v,e= .returned v/\spec.post enc P fn false true false false W args v W':=by
 have i:Inv (AllOf W) (λ_=>none) [] W:=⟨by simp,by simp,λ_ _=>rfl,λrb h=>h,by simp,hg⟩;refine(hok.calls hent i hR).mono ?_;rintro e W' ⟨x,F',nu',rfl,st,hx⟩;obtain rfl:=hx.bool_inv;exact⟨_,rfl,qru hl hr hv hres hb hspec hW st.below⟩
end
end
section
open Go.ChangeShapes Go.WideShapes Go.ChangeAt Go.RowKit
variable [Glob]{P:Program}{α β:Type}
def RC (W:World) (AZ:List AV) (cs:List Value):Prop:=cs.length=AZ.length/\∀(i:Nat) (a:AV) (v:Value),AZ[i]? =some a->cs[i]? =some v->R (AllOf W) (λ_=>none) W a v
def RC.one {W:World}{a:AV}{v:Value}(h:R (AllOf W) (λ_=>none) W a v):RC W [a] [v]:=by
 refine⟨rfl,λi b u hb hu=>?_⟩
 match i with
 |0=>simp at hb hu;subst hb hu;exact h
 |i+1=>simp at hb
def RC.append {W:World}{AZ bs:List AV}{cs ds:List Value}(h:RC W AZ cs) (k:RC W bs ds):RC W (AZ++bs) (cs++ds):=by
 refine⟨by simp[h.1,k.1],λi a v ha hv=>?_⟩;rcases aw i AZ.length with hi|hi
 ·rw[Yf hi]at ha;rw[Yf (by rw[h.1];exact hi)]at hv;exact h.2 i a v ha hv
 rw[Yo hi]at ha;rw[Yo (by rw[h.1];exact hi),h.1]at hv;exact k.2 _ a v ha hv
structure qdV (P:Program) (t:TypeId) (E:Enc α):Prop where
 out:∀{H:Type}{enc:TypeId×Value->H}{W:World}{fuel:Nat}{cs:List Value}{x:DataW H×List MemPlace},DataW.trod enc P W 0 (λ_=>true) true fuel t cs=some x->∃y:α,RC W (E.c y) cs
def qdV.str {t:TypeId}(ht:P.underlying t=some .string):qdV P t encS:=by
 constructor;intro H enc W fuel cs x h
 obtain⟨s,rfl,_,_⟩:=DataW.trod_string ht h;exact⟨s.data.toList,RC.one (.str _ _ rfl)⟩
def qoR {E:Enc α}{n k:Nat}(hk:E.k=k) {W:World}{g:Nat->List Value}:∀(m:Nat),(∀i,i<m->∃y:α,RC W (E.c y) (g i))->∃l:List α,l.length=m/\RC W (l.flatMap E.c) ((List.range m).flatMap g)
 |0,_=>⟨[],rfl,⟨rfl,by simp⟩⟩
 |m+1,h=>by
  obtain⟨l,h1,h2⟩:=qoR (n:=n) hk m (λi hi=>h i (by omega));obtain⟨y,hy⟩:=h m (by omega);refine⟨l++[y],by simp[h1],?_⟩;rw[List.flatMap_append,fY,List.flatMap_append];have:=h2.append hy;simpa using this
def qdV.list {t e:TypeId}{E:Enc α}(ht:P.underlying t=some (.slice e)) (hk:P.cellsOf e=E.k) (h:qdV P e E):qdV P t (qbo E):=by
 constructor;intro H enc W fuel cs x hx
 rcases DataW.trod_slice ht hx with⟨rfl,_⟩|⟨a,len,cap,elems,rest,n,_,rfl,rfl,hb,hl,hm,hlen,hel,hsp,hns⟩
 ·exact⟨[],RC.one (.fslice0 _ _)⟩
 by_cases h0:len=0
 ·subst h0;exact⟨[],RC.one (.fslice0 _ _)⟩
 have each:∀i,i<len->∃cs',cs'.length=E.k/\(∀j,j<E.k->W.cell? (a.add (i*E.k+j))=cs'[j]?)/\∃y:α,RC W (E.c y) cs':=by
  intro i hi;have h1:=hel i hi;rw[Ya (by omega),aM]at h1;obtain⟨cs',g1,g2⟩:=h1;obtain⟨_,g3,g4⟩:=World.cells?_some g1;rw[hk]at g3 g4;refine⟨cs',g3,λj hj=>?_,h.out g2⟩;have:=g4 j hj;rw[add_add]at this;exact this
 let g:Nat->List Value:=λi=>if hi:i<len then(each i hi).choose else List.replicate E.k undef
 have g1:∀i,(g i).length=E.k:=by
  intro i;show(dite _ _ _:List Value).length=_;split
  ·rename_i hi;exact(each i hi).choose_spec.1
  simp
 have g2:∀i,i<len->∀j,j<E.k->W.cell? (a.add (i*E.k+j))=(g i)[j]? :=by
  intro i hi;show∀j,j<E.k->_=(dite _ _ _:List Value)[j]?;rw[dif_pos hi];exact(each i hi).choose_spec.2.1
 have g3:∀i,i<len->∃y:α,RC W (E.c y) (g i):=by
  intro i hi;show∃y:α,RC W (E.c y) (dite _ _ _:List Value);rw[dif_pos hi];exact(each i hi).choose_spec.2.2
 obtain⟨l,e1,e2⟩:=qoR (n:=0) (k:=E.k) rfl len g3
 have hcell:∀(i:Nat) (v:Value),((List.range len).flatMap g)[i]? =some v->W.cell? (a.add i)=some v:=by
  intro i v hv
  have:∀(m i:Nat) (v:Value),m<=len->((List.range m).flatMap g)[i]? =some v->W.cell? (a.add i)=some v:=by
   intro m
   induction m with
   |zero=>intro i v _ h;simp at h
   |succ m ih=>
    intro i v hm h;rw[fY,List.flatMap_append]at h
    have hl:((List.range m).flatMap g).length=m*E.k:=by
     clear h ih hm
     induction m with
     |zero=>simp
     |succ m ih=>rw[fY,List.flatMap_append,Yq,ih,Nat.add_mul];simp[g1]
    rcases aw i (m*E.k)with hi|hi
    ·rw[Yf (by omega)]at h;exact ih i v (by omega) h
    rw[Yo (by omega),hl]at h
    have h:(g m)[i-m*E.k]? =some v:=by simpa using h
    have hlt:=(Yb.1 h).1;rw[g1]at hlt;have:=g2 m (by omega) (i-m*E.k) hlt;rw[show m*E.k+(i-m*E.k)=i by omega]at this;rw[this,h]
  exact this len i v (ai _) hv
 have hblk:a.block<W.heap.size:=by
  have hp:0<E.k:=E.pos
  have hlt:0<(g 0).length:=by rw[g1];exact hp
  have h1:=g2 0 (by omega) 0 hp;rw[Ya hlt]at h1;have:=World.block_lt_of_cell? _ _ h1
  rwa [add_block]at this
 refine⟨l,RC.one ?_⟩;rw[<-e1];exact .fslice l.length (l.flatMap E.c) a cap ((List.range len).flatMap g) (by omega) hblk e2.1 hcell e2.2
structure ReadsF (P:Program) (fs:List Field) (off:Nat) (E:Enc α):Prop where
 out:∀{H:Type}{enc:TypeId×Value->H}{W:World}{fuel:Nat}{cs:List Value},cs.length=off+E.k->
  (∀f∈fs,∃x,DataW.trod enc P W 0 (λ_=>true) true fuel f.type ((cs.drop f.offset).take (P.cellsOf f.type))=some x)->∃y:α,RC W (E.c y) (cs.drop off)
section
variable {H:Type}{enc:TypeId×Value->H}{W:World}{t:TypeId}{v:Value}{d:DataW H}{p:List MemPlace}{base:Nat}
def In.bool (ht:P.underlying t=some .bool) (hval:Value.okWide P W .any base t v):∃b:Bool,R (AllOf W) (λ_=>none) W (.bool b) v:=by
 obtain⟨b,rfl⟩:=okWide_bool ht hval;exact⟨b,.bool _⟩
def In.list {e:TypeId}{E:Enc α}(ht:P.underlying t=some (.slice e)) (hk:P.cellsOf e=E.k) (hE:qdV P e E) (hval:Value.okWide P W .any base t v) (h:DataW.Trod enc P W 0 (λ_=>true) true t v d p):∃l:List α,R (AllOf W) (λ_=>none) W (vl E l) v:=by
 obtain⟨a,len,cap,rfl⟩:=okWide_slice ht hval;obtain⟨fuel,hf⟩:=h;obtain⟨l,hl⟩:=(qdV.list ht hk hE).out hf;exact⟨l,hl.2 0 _ _ rfl (by simp[Value.cells])⟩
end
def qbW {a b:Bool}(h:a=true) (k:b=true):(a&&b)=true:=by rw[h,k];rfl
end
section
open Go.Proofs Go.RowKit Go.Shelf Go.Sort
def qld (s:Str) (c:Int):Option Int:=if 0<=c/\c<256 then some (qj1 c.toNat s 0)else none
def qpe (s:Str) (c:Int) {res:Int}(h:qld s c=some res):qc Tryz.prog (.fn 241) [.str s,.int .u8 c] [] (.i res) []:=by
 unfold qld at h;split at h
 ·rename_i hc;injection h with h;subst h;exact qmX hc.1 hc.2
 cases h
def qlW (s:Str):Option (Int×Unit):=if s.length<=18 then(Lib.atoi s).map λn=>(n,())else none
def qrs (s:Str) {res:Int×Unit}(h:qlW s=some res):qc Tryz.prog (.fn 141) [.str s] [] (.tuple [.i res.1,.niliface]) []:=by
 refine qnO ?_;unfold qlW at h;unfold qoa;split at h
 ·rename_i hl;rw[zh,ae (bD hl)]
  cases ha:Lib.atoi s with
  |none=>rw[ha]at h;cases h
  |some n=>
   rw[ha]at h;injection h with h;subst h;rfl
 cases h
def qkG {w:World}{k:Nat}{os:Array Obj}:Kept w (grow (w.drewN k) os):=by
 have h2:Below w.heap.size w (w.drewN k):=below_drewN (Below.refl _ _) k;refine⟨λrb hlt=>?_,?_,rfl,rfl,rfl⟩
 ·show((w.drewN k).heap++os)[rb]? =_;rw[YC (by have:=h2.size;omega)];exact h2.block rb hlt
 show _<=((w.drewN k).heap++os).size;have h3:=h2.size;simp only[dB];omega
def qoH (n:Int):Option Str:=if-9223372036854775808<=n/\n<=9223372036854775807 then some (Lib.itoa n)else none
def qqI (n:Int) {res:Str}(h:qoH n=some res):qc Tryz.prog (.fn 205) [.i n] [] (.str res) []:=by
 unfold qoH at h;split at h
 ·rename_i hc;injection h with h;subst h;refine eB (enters_of (by kernel_rfl)) (λF nu w vs hg hargs=>?_) [];obtain⟨x,ws,rfl,hx,hws⟩:=hargs.cons_inv;obtain rfl:=hws.nil_inv;obtain rfl:=hx.int_inv;refine⟨_,.str ⟨(Lib.itoa n).toArray⟩ _ rfl,?_⟩;have:=Any.strconv_Itoa Um n (by omega) (by omega) w hg.2;refine Calls.mono (show Calls Tryz.prog 205 #[.int .i64 n] w _ from this) ?_;rintro e w' ⟨he,k,os,rfl⟩;exact⟨he,qkG⟩
 cases h
set_option maxHeartbeats 6400000 in
def qtj (u:Nat) (hu64:u<18446744073709551616) (w:World) (htab:Lib.TabIs Tryz.prog w "internal/strconv.uint64pow10" .u64 Lib.pow10Tab):
 Calls Tryz.prog 232 #[.int .u64 u,.int .i64 10] w λe w'=>e= .returned (.string ⟨(Lib.decDigits u).toArray⟩)/\∃k os,w'=grow (w.drewN k) os:=by
 by_cases hs:u<100
 ·have hcv:IntKind.wrap .i64 (u:Int)=(u:Int):=qg (by omega) (by omega)
  go_enter Tryz.func232,Tryz.ntmps232
  go_wp2_with (go_at_call 244;refine(show Calls Tryz.prog 244 #[.int .i64 u] _ _ from Any.internal_strconv_small {Um with} u hs _).mono ?_;rintro e w' ⟨rfl,rfl⟩)
  go_ret
  exact⟨rfl,0,#[],by simp[World.drewN_zero]⟩
 have hu1:1<=u:=by omega
 have hnd20:Lib.nDigits u<=20:=by have:=Lib.numDigits_eq u hu1 hu64;split at this<;>omega
 have hal:Tryz.prog.arrayLen 258=24:=by kernel_rfl
 have hsl:∀W,(Instr.sliceAt 258 (.pointer (some ⟨w.heap.size,0,none⟩)) none (some (.int .i64 (Lib.nDigits u:Int))) none).run Tryz.prog W= .ok (.slice (some ⟨w.heap.size,0,none⟩) (Lib.nDigits u) 24) W:=λW=>by
  rw[run_sliceAt_array_h W 258 ⟨w.heap.size,0,none⟩ (by kernel_rfl) .i64 (Lib.nDigits u:Int) (by omega) (by rw[hal];omega)]
  go_simp
 have hH0:=Lib.holds_zero0 w 258 (Lib.nDigits u) (by omega);have hfmt:=Any.internal_strconv_formatBase10 (P:=Tryz.prog) (ρ:=Tryz.lays171_ren) {Um with} w.heap.size 0 24 u (Array.replicate (Lib.nDigits u) 0) (w.alloc (.cells Lib.zeros24 258)) hH0 (by rw[dN];exact Lib.lt_pow_nDigits u) hu64 (by rw[dN];omega);rw[dN]at hfmt;have HH0:=Lib.hid hH0;clear hH0 hal
 go_enter Tryz.func232,Tryz.ntmps232
 go_wp2_with (go_at_call 245;refine(show Calls Tryz.prog 245 #[.int .u64 u] _ _ from Any.internal_strconv_numDigits {Um with} u hu1 hu64 _ (Lib.tabIs_alloc htab _)).mono ?_;rintro e w' ⟨rfl,rfl⟩)
 go_at_call 246
 refine(show Calls Tryz.prog 246 #[.slice (some ⟨w.heap.size,0,none⟩) (Lib.nDigits u) 24,.int .u64 u] _ _ from hfmt).mono ?_;rintro e w' ⟨rfl,k,v',dk,rfl,hF⟩
 have hcv:(convert 174 9 (.slice (some ⟨w.heap.size,0,none⟩) (Lib.nDigits u) 24)).run Tryz.prog ((putRow (λ(b:UInt8)=>Value.int .u8 (b.toNat:Int)) (w.alloc (.cells Lib.zeros24 258)) w.heap.size 0 dk).drewN k)= .ok (.string ⟨(Lib.decDigits u).toArray⟩) ((putRow (λ(b:UInt8)=>Value.int .u8 (b.toNat:Int)) (w.alloc (.cells Lib.zeros24 258)) w.heap.size 0 dk).drewN k):=by
  have h:=run_convert_bytes_back (P:=Tryz.prog) ((putRow (λ(b:UInt8)=>Value.int .u8 (b.toNat:Int)) (w.alloc (.cells Lib.zeros24 258)) w.heap.size 0 dk).drewN k) 174 9 5 ⟨w.heap.size,0,none⟩ 24 (Lib.decDigits u) Tryz.underlying174 Tryz.underlying5 Tryz.underlying9 (λj hj=>by
   rw[Lib.row_is_numeral hF j hj,Lib.add_plain,World.cell?_drewN]
   exact cell?_putRow (λ(b:UInt8)=>Value.int .u8 (b.toNat:Int)) _ w.heap.size 0 _ dk HH0.out (by rw[hF.size,dN]) j (by rw[hF.size];rw[Lib.decDigits_length]at hj;exact hj))
  rw[Lib.decDigits_length]at h;exact h
 go_wp2
 go_ret
 refine⟨rfl,k,?_⟩;rw[alloc_eq_grow];obtain⟨os',_,e⟩:=putRow_grow_new (λ(b:UInt8)=>Value.int .u8 (b.toNat:Int)) w #[.cells Lib.zeros24 258] w.heap.size 0 dk (ai _);exact⟨os',by rw[e];rfl⟩
def qr0 (u:Nat) (hu64:u<18446744073709551616) (w:World) (htab:Lib.TabIs Tryz.prog w "internal/strconv.uint64pow10" .u64 Lib.pow10Tab):
 Calls Tryz.prog 206 #[.int .u64 u,.int .i64 10] w λe w'=>e= .returned (.string ⟨(Lib.decDigits u).toArray⟩)/\∃k os,w'=grow (w.drewN k) os:=by
 go_enter Tryz.func206,Tryz.ntmps206
 go_wp2_with (go_at_call 232;refine(qtj u hu64 _ htab).mono ?_;rintro e w' ⟨rfl,k,os,rfl⟩)
 go_ret
 exact⟨rfl,k,os,rfl⟩
def qi5 (n b:Int):Option Str:=if 0<=n/\n<10000000000000000000/\b=10 then some (Lib.itoa n)else none
def qrK (n b:Int) {res:Str}(h:qi5 n b=some res):qc Tryz.prog (.fn 206) [.int .u64 n,.i b] [] (.str res) []:=by
 unfold qi5 at h;split at h
 ·rename_i hc;injection h with h;subst h;obtain⟨h0,h1,rfl⟩:=hc;obtain⟨u,rfl⟩:∃u:Nat,n=u:=⟨n.toNat,by omega⟩;refine eB (enters_of (by kernel_rfl)) (λF nu w vs hg hargs=>?_) [];obtain⟨x,ws,rfl,hx,hws⟩:=hargs.cons_inv;obtain⟨y,us,he,hy,hus⟩:=hws.cons_inv
  obtain rfl:ws=y::us:=by simpa using he
  obtain rfl:=hus.nil_inv;obtain rfl:=hx.int_inv;obtain rfl:=hy.int_inv;refine⟨_,.str ⟨(Lib.itoa (u:Int)).toArray⟩ _ rfl,?_⟩;refine Calls.mono (qr0 u (by omega) w hg.2) ?_;rintro e w' ⟨he,k,os,rfl⟩;exact⟨by rw[he,Lib.itoa_nonneg],qkG⟩
 cases h
def qlX (s c:Str):Option Str:=if s.length<=1000000/\c.length<=1000/\c.all (λb=>decide (b.toNat<128))=true then some (Lib.trimS s c)else none
def qi2 (s c:Str) {res:Str}(h:qlX s c=some res):qc Tryz.prog (.fn 181) [.str s,.str c] [] (.str res) []:=by
 unfold qlX at h;split at h
 ·rename_i hc;injection h with h;subst h;refine eB (enters_of (by kernel_rfl)) (λF nu w vs hg hargs=>?_) [];obtain⟨x,ws,rfl,hx,hws⟩:=hargs.cons_inv;obtain⟨y,us,he,hy,hus⟩:=hws.cons_inv
  obtain rfl:ws=y::us:=by simpa using he
  obtain rfl:=hus.nil_inv;obtain⟨b,rfl,rfl⟩:=hx.str_inv;obtain⟨b2,rfl,rfl⟩:=hy.str_inv;refine⟨_,.str ⟨(Lib.trimS b.data.toList b2.data.toList).toArray⟩ _ rfl,?_⟩;have:=Any.strings_Trim_laid Tryz.lays160 (by kernel_rfl) b b2 w (by have:=hc.1;rw[<-Lib.size_eq]at this;omega) (by have:=hc.2.1;rw[<-Lib.size_eq]at this;omega) (ascii_of_all hc.2.2);refine Calls.mono (show Calls Tryz.prog 181 #[.string b,.string b2] w _ from this) ?_;rintro e w' ⟨he,bel⟩;exact⟨he,qgC bel⟩
 cases h
def qgF:Builder.Extra Tryz.prog Uj where
 sizeBuilder:=by kernel_rfl
 liesBuilder:=by kernel_rfl
 t5:=by kernel_rfl
 a5:=Tryz.isAgg5
 z5:=Tryz.sizeOf5
 v5:=Tryz.zeroValue5
 infoByte:=by kernel_rfl
 cellsByte:=by kernel_rfl
 sizeByte:=by kernel_rfl
 neB5:=by decide
def qga (s:Str) (n:Int):Option Str:=if 0<=n/\n<=1000000/\s.length*n.toNat<=1000000 then some (Lib.repeatL s n.toNat)else none
def qnc (s:Str) (n:Int) {res:Str}(h:qga s n=some res):qc Tryz.prog (.fn 81) [.str s,.i n] [] (.str res) []:=by
 unfold qga at h;split at h
 ·rename_i hc;injection h with h;subst h;refine eB (enters_of (by kernel_rfl)) (λF nu w vs hg hargs=>?_) [];obtain⟨x,ws,rfl,hx,hws⟩:=hargs.cons_inv;obtain⟨y,us,he,hy,hus⟩:=hws.cons_inv
  obtain rfl:ws=y::us:=by simpa using he
  obtain rfl:=hus.nil_inv;obtain⟨b,rfl,rfl⟩:=hx.str_inv;obtain rfl:=hy.int_inv;refine⟨_,.str ⟨(Lib.repeatL b.data.toList n.toNat).toArray⟩ _ rfl,?_⟩;have:=Any.strings_Repeat Tryz.lays105 qgF b n.toNat w (by omega) (by have:=hc.2.2;rw[<-Lib.size_eq]at this;omega);rw[Int.toNat_of_nonneg hc.1]at this;refine Calls.mono (show Calls Tryz.prog 81 #[.string b,.int .i64 n] w _ from this) ?_;rintro e w' ⟨he,bel⟩;exact⟨he,qgC bel⟩
 cases h
def qq0 (ok:Bool) (o:Option (List Int)) (s:Str) {l:List Int}(h:bWr ok o s=some l):
 qc Tryz.prog (.fn 143) [.ptr 0 0,.str s] [.bld 176 5 [pz ok 0 0,hsl 1 1 o],.cells ((hof o).flatMap (qcv .u8).c)] (.tuple [.i ((s.length:Nat):Int),.niliface])
  [.bld 176 5 [pz true 0 0,hsl 2 1 (some l)],.dead,.cells ((hof (some l)).flatMap (qcv .u8).c)]:=
 qtb (P:=Tryz.prog) (ρ:=Uj) {Tryz.lays105 with} qgF (enters_of (by kernel_rfl)) ok o s h
def qsn (ok:Bool) (o:Option (List Int)) {t:Str}(h:qpr ok o=some t):
 qc Tryz.prog (.fn 145) [.ptr 0 0] [.bld 176 5 [pz ok 0 0,hsl 1 1 o],.cells ((hof o).flatMap (qcv .u8).c)] (.str t) [.dead,.dead]:=
 qrw (P:=Tryz.prog) (ρ:=Uj) {Tryz.lays105 with} qgF (enters_of (by kernel_rfl)) ok o h
def qdC (x y c:Int) {res:Int×Int}(h:qaV x y c=some res):qc Tryz.prog (.fn 185) [.int .u64 x,.int .u64 y,.int .u64 c] [] (.tuple [.int .u64 res.1,.int .u64 res.2]) []:=by
 unfold qaV at h;split at h
 ·rename_i hc;injection h with h;subst h;intro F nu w vs i hargs;obtain⟨a,ws,rfl,ha,hws⟩:=hargs.cons_inv;obtain⟨b,us,he,hb,hus⟩:=hws.cons_inv
  obtain rfl:ws=b::us:=by simpa using he
  obtain⟨d,ts,he,hd,hts⟩:=hus.cons_inv
  obtain rfl:us=d::ts:=by simpa using he
  obtain rfl:=hts.nil_inv;obtain rfl:=ha.int_inv;obtain rfl:=hb.int_inv;obtain rfl:=hd.int_inv;right;obtain⟨x,rfl⟩:∃u:Nat,x=u:=⟨x.toNat,by omega⟩;obtain⟨y,rfl⟩:∃u:Nat,y=u:=⟨y.toNat,by omega⟩;obtain⟨c,rfl⟩:∃u:Nat,c=u:=⟨c.toNat,by omega⟩;refine⟨_,w,F,nu,(show(callFunc 185 #[.int .u64 x,.int .u64 y,.int .u64 c]).run Tryz.prog w=_ from Any7.bits_Add64 Tryz.lays7_25 x y c (by omega) w),.refl i,.tuple _ _ rfl λq a v hq hv=>?_⟩
  match q,hq,hv with
  |0,hq,hv=>
   obtain rfl:=Ye hq;obtain rfl:=Ye hv
   have e:(((x+y+c)%18446744073709551616:Nat):Int)=((x:Int)+y+c)%18446744073709551616:=by omega
   rw[e];exact .int _ _
  |1,hq,hv=>
   obtain rfl:=Ye hq;obtain rfl:=Ye hv
   have e:(((x+y+c)/18446744073709551616:Nat):Int)=((x:Int)+y+c)/18446744073709551616:=by omega
   rw[e];exact .int _ _
  |q+2,hq,hv=>simp at hq
 cases h
def qjO (x y c:Int) {res:Int×Int}(h:qfC x y c=some res):qc Tryz.prog (.fn 187) [.int .u64 x,.int .u64 y,.int .u64 c] [] (.tuple [.int .u64 res.1,.int .u64 res.2]) []:=by
 unfold qfC at h;split at h
 ·rename_i hc;injection h with h;subst h;intro F nu w vs i hargs;obtain⟨a,ws,rfl,ha,hws⟩:=hargs.cons_inv;obtain⟨b,us,he,hb,hus⟩:=hws.cons_inv
  obtain rfl:ws=b::us:=by simpa using he
  obtain⟨d,ts,he,hd,hts⟩:=hus.cons_inv
  obtain rfl:us=d::ts:=by simpa using he
  obtain rfl:=hts.nil_inv;obtain rfl:=ha.int_inv;obtain rfl:=hb.int_inv;obtain rfl:=hd.int_inv;right;obtain⟨x,rfl⟩:∃u:Nat,x=u:=⟨x.toNat,by omega⟩;obtain⟨y,rfl⟩:∃u:Nat,y=u:=⟨y.toNat,by omega⟩;obtain⟨c,rfl⟩:∃u:Nat,c=u:=⟨c.toNat,by omega⟩;refine⟨_,w,F,nu,(show(callFunc 187 #[.int .u64 x,.int .u64 y,.int .u64 c]).run Tryz.prog w=_ from Any7.bits_Sub64 Tryz.lays7_26 x y c (by omega) w),.refl i,.tuple _ _ rfl λq a v hq hv=>?_⟩
  match q,hq,hv with
  |0,hq,hv=>
   obtain rfl:=Ye hq;obtain rfl:=Ye hv
   have e:(((x+18446744073709551616-y-c)%18446744073709551616:Nat):Int)=((x:Int)-y-c)%18446744073709551616:=by omega
   rw[e];exact .int _ _
  |1,hq,hv=>
   obtain rfl:=Ye hq;obtain rfl:=Ye hv
   have e:((if x<y+c then 1 else 0:Nat):Int)=if(x:Int)<y+c then 1 else 0:=by
    split<;>split<;>omega
   rw[e];exact .int _ _
  |q+2,hq,hv=>simp at hq
 cases h
end
section
open Go.Proofs
def mtT (t:TypeId) (m:String):Option FuncId:=
 if t=83 then(if m= "Sign" then some 45 else if m= "Mul" then some 54 else if m= "Sub" then some 87 else if m= "Inv" then some 88 else none)else none
def qjj:∀t m f,mtT t m=some f->Enters Tryz.prog f/\qpc Tryz.prog t m f:=by
 intro t m f h;unfold mtT at h;split at h
 ·rename_i e;subst e;split at h
  ·rename_i e;subst e;injection h with h;subst h;exact⟨enters_of (by kernel_rfl),λx vs w=>by kernel_rfl⟩
  split at h
  ·rename_i e;subst e;injection h with h;subst h;exact⟨enters_of (by kernel_rfl),λx vs w=>by kernel_rfl⟩
  split at h
  ·rename_i e;subst e;injection h with h;subst h;exact⟨enters_of (by kernel_rfl),λx vs w=>by kernel_rfl⟩
  split at h
  ·rename_i e;subst e;injection h with h;subst h;exact⟨enters_of (by kernel_rfl),λx vs w=>by kernel_rfl⟩
  cases h
 cases h
end
end Go.Av
end
