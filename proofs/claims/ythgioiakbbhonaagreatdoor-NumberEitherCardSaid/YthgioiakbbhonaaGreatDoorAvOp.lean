/-
  What the operations do with abstract values. No call of a Go function is told here.
-/
import Derived.Test.YthgioiakbbhonaaGreatDoorAvStp
noncomputable section
namespace Go.Av
def cellsOf:AV->Option (List AV)
 | .undef=>none
 | .tuple _=>none
 | .agg cs=>some cs
 |v=>some [v]
def vo:AV->Bool
 | .undef=>false
 | .tuple _=>false
 | .agg _=>false
 |_=>true
def qb4:Nat->Value->AV
 |_,.bool b=> .bool b
 |_,.int k n=> .int k n
 |_,.string s=> .str s.data.toList
 |_,.pointer none=> .nilptr
 |_,.slice none 0 0=> .nilslice
 |_,.map none=> .nilmap
 |_,.nilFunc=> .nilfunc
 |_,.nilIface=> .niliface
 |_,.func fn ⟨[]⟩ ⟨[]⟩=> .func fn [] []
 |d+1,.agg cs=> .agg (cs.toList.map (qb4 d))
 |_,_=> .undef
abbrev zG:=List (Nat×Bool)
inductive Pg where
 |fail
 |done (v:AV)
 |get (b:Nat) (k:Blk->Pg)
 |set (b:Nat) (x:Blk) (k:Pg)
 |new (x:Blk) (k:Nat->Pg)
abbrev Res:=Option (AV×Heap×zG)
def exec:Pg->Heap->zG->Res
 | .fail,_,_=>none
 | .done v,A,f=>some (v,A,f)
 | .get b k,A,f=>match A[b]? with
   |some x=>exec (k x) A ((b,false)::f)
   |none=>none
 | .set b x k,A,f=>if b<A.length then exec k (A.set b x) ((b,true)::f)else none
 | .new x k,A,f=>exec (k A.length) (A++[x]) f
def Pg.opt (x:Option AV):Pg:=match x with
 |some v=> .done v
 |none=> .fail
def Pg.box (x:Option (List AV)):Pg:=match x with
 |some cs=> .new (.cells cs) λid=> .done (.ptr id 0)
 |none=> .fail
def qi5:TypeDesc->Bool
 | .struct _=>true
 | .array _ _=>true
 |_=>false
def yN (x:Blk) (off n:Nat):Option (List AV):=
 match x with
 | .cells cs=>if off+n<=cs.length then some ((cs.drop off).take n)else none
 | .frozen cs=>if off+n<=cs.length then some ((cs.drop off).take n)else none
 | .bag es=>match n,es[off]? with
   |1,some (.av a)=>some [a]
   |_,_=>none
 |_=>none
def qaI (b off n:Nat) (k:List AV->Pg):Pg:= .get b λx=>match yN x off n with
 |some cs=>k cs
 |none=> .fail
def yY (p:AV) (n:Nat) (k:List AV->Pg):Pg:=
 match p with
 | .ptr b off=>qaI b off n k
 | .fptr cs off=>if off+n<=cs.length then k ((cs.drop off).take n)else .fail
 |_=> .fail
section
variable (P:Program)
def qX (t:TypeId) (p:AV):Pg:=
 match P.underlying t,P.info? t with
 |some d,some i=>
  if qi5 d then yY p i.size λcs=> .done (.agg cs)
  else yY p 1 λcs=>match cs with
   |[c]=> .done c
   |_=> .fail
 |_,_=> .fail
def splice (cs:List AV) (off:Nat) (xs:List AV):List AV:=cs.take off++xs++cs.drop (off+xs.length)
def qx (t:TypeId) (p x:AV):Pg:=
 match P.info? t,cellsOf x,p with
 |some i,some xs,.ptr b off=> .get b λk=>match k with
  | .cells cs=>if xs.length=i.size/\off+xs.length<=cs.length/\xs.all vo=true then .set b (.cells (splice cs off xs)) (.done .undef)else .fail
  | .bag es=>match xs with
    |[a]=>if i.size=1/\off<es.length/\vo a=true then .set b (.bag (es.set off (.av a))) (.done .undef)else .fail
    |_=> .fail
  |_=> .fail
 |_,_,_=> .fail
def qfj (t:TypeId):Option (List AV):=
 match P.info? t with
 |some i=>match i.zero with
  |some z=>cellsOf (qb4 3 z)
  |none=>none
 |none=>none
def qg5:List AV->Bool
 |[]=>true
 | .nilptr::l=>qg5 l
 | .nilslice::l=>qg5 l
 |_=>false
def qml [Glob] (e:TypeId):Pg:=match Glob.bt e with
 |none=> .box (qfj P e)
 |some t=>match qfj P e with
  |some cs=>bif qg5 cs then .new (.bld e t cs) λid=> .done (.ptr id 0)else .fail
  |none=> .fail
def aBox (x:AV):Pg:= .box (cellsOf x)
def qjf (place:Nat->Option (Nat×Nat)):List AV->List (Nat×AV)->Option (List AV)
 |cells,[]=>some cells
 |cells,(i,v)::rest=>
  match place i,cellsOf v with
  |some (off,size),some cs=>if cs.length=size/\off+cs.length<=cells.length then qjf place (splice cells off cs) rest else none
  |_,_=>none
def qin (fields:Array Field) (i:Nat):Option (Nat×Nat):=
 match fields[i]? with
 |some f=>(P.info? f.type).map λinf=>(f.offset,inf.size)
 |none=>none
def qmj (t:TypeId) (parts:List (Nat×AV)):Option AV:=
 match qfj P t,P.underlying t with
 |some z,some (.struct fields)=>
  if fields.all (λf=>(P.info? f.type).isSome)then(qjf (qin P fields) z parts).map .agg else none
 |some z,some (.array _ e)=>
  match P.info? e with
  |some i=>(qjf (λk=>some (k*i.size,i.size)) z parts).map .agg
  |none=>none
 |_,_=>none
def zeros (z:List AV) (n:Nat):List AV:=(List.range n).map λk=>z.getD (k%z.length) .undef
def qeT (t:TypeId) (len:Nat) (parts:List (Nat×AV)):Pg:=
 match P.underlying t with
 |some (.slice e)=>
  match P.info? e,qfj P e with
  |some i,some z=>
   if len*i.size<=16777216/\z.length=i.size then
    match qjf (λk=>some (k*i.size,i.size)) (zeros z (len*i.size)) parts with
    |some cs=> .new (.cells cs) λid=> .done (.slice id 0 len len i.size)
    |none=> .fail
   else .fail
  |_,_=> .fail
 |_=> .fail
def qfW (s:TypeId) (x:AV) (f:Nat):Option AV:=
 match P.underlying s with
 |some (.struct fields)=>
  match fields[f]? with
  |some fd=>match P.info? fd.type with
   |some i=>if i.size=0 then none else match x with
    | .ptr b off=>some (.ptr b (off+fd.offset))
    | .fptr cs off=>some (.fptr cs (off+fd.offset))
    |_=>none
   |none=>none
  |none=>none
 |_=>none
def qfH (t:TypeId) (cs:List AV) (off:Nat):Option AV:=
 match P.underlying t,P.info? t with
 |some d,some i=>if qi5 d then some (.agg ((cs.drop off).take i.size))else cs[off]?
 |_,_=>none
def ql3 (t:TypeId) (x:AV) (f:Nat):Option AV:=
 match P.underlying t,x with
 |some (.struct fields),.agg cs=>
  match fields[f]? with
  |some fd=>qfH P fd.type cs fd.offset
  |none=>none
 |_,_=>none
def qd (t:TypeId) (x ix:AV):Option AV:=
 match P.underlying t,ix with
 |some (.slice e),.int _ i=>
  match P.info? e with
  |some inf=>
   match x with
   | .fslice n cs=>if 0<=i/\i<n then some (.fptr cs (i.toNat*inf.size))else none
   | .slice b off n _ _=>if 0<=i/\i<n then some (.ptr b (off+i.toNat*inf.size))else none
   | .oslice b n _=>if 0<=i/\i<n then some (.ptr b (i.toNat*inf.size))else none
   | .wslice b off n _=>if 0<=i/\i<n then some (.ptr b (off+i.toNat*inf.size))else none
   | .gslice b n _=>if 0<=i/\i<n then some (.ptr b (i.toNat*inf.size))else none
   |_=>none
  |none=>none
 |some (.array n e),.int _ i=>
  match P.info? e with
  |some inf=>
   if 0<=i/\i<n then
    match x with
    | .ptr b off=>some (.ptr b (off+i.toNat*inf.size))
    | .fptr cs off=>some (.fptr cs (off+i.toNat*inf.size))
    |_=>none
   else none
  |none=>none
 |_,_=>none
def xw (t:TypeId) (x ix:AV):Option AV:=
 match P.underlying t,x,ix with
 |some .string,.str s,.int _ i=>
  if 0<=i then match s[i.toNat]? with
   |some c=>some (.int .u8 c.toNat)
   |none=>none
  else none
 |some (.array n e),.agg cs,.int _ i=>
  match P.info? e with
  |some inf=>if 0<=i/\i<n then qfH P e cs (i.toNat*inf.size)else none
  |none=>none
 |_,_,_=>none
def ym (x:Option AV) (dflt most:Nat):Option Nat:=
 match x with
 |none=>some dflt
 |some (.int _ i)=>if 0<=i/\i<=most then some i.toNat else none
 |some _=>none
def qaL (low high max:Option AV) (len cap:Nat):Option (Nat×Nat×Nat):=
 if max.isSome/\high.isNone then none else
 match ym max cap cap with
 |some m=>match ym high (if max.isSome then m else len) (if max.isSome then m else cap)with
  |some h=>match ym low 0 h with
   |some l=>some (l,h,m)
   |none=>none
  |none=>none
 |none=>none
def qC (t:TypeId) (x:AV) (low high max:Option AV):Option AV:=
 match P.underlying t with
 |some .string=>
  match x with
  | .str s=>if max.isSome then none else match qaL low high none s.length s.length with
    |some (l,h,_)=>some (.str ((s.drop l).take (h-l)))
    |none=>none
  |_=>none
 |some (.slice e)=>
  match P.info? e with
  |none=>none
  |some inf=>
   match x with
   | .fslice n cs=>if max.isSome then none else match qaL low high none n n with
     |some (l,h,_)=>if cs.length=n*inf.size then some (.fslice (h-l) ((cs.drop (l*inf.size)).take ((h-l)*inf.size)))else none
     |none=>none
   | .nilslice=>match qaL low high max 0 0 with
     |some _=>some .nilslice
     |none=>none
   | .slice b off n cap esz=>match qaL low high max n cap with
     |some (l,h,m)=>if esz=inf.size then some (.slice b (if m=l then off else off+l*inf.size) (h-l) (m-l) esz)else none
     |none=>none
   | .oslice b n esz=>match max with
     |none=>match qaL low high none n n with
      |some (l,h,_)=>if l=0/\esz=inf.size then some (.oslice b h esz)else if l=h then some (.fslice 0 [])else if esz=inf.size then some (.wslice b (l*inf.size) (h-l) esz)else none
      |none=>none
     |some m=>match qaL low high (some m) n n with
      |some (l,h,m)=>if esz=inf.size then some (.slice b (if m=l then 0 else l*inf.size) (h-l) (m-l) esz)else none
      |none=>none
   | .gslice b n esz=>if max.isSome then none else match qaL low high none n n with
     |some (l,h,_)=>if l=h/\(0<l\/n=0)then some (.fslice 0 [])else if esz=inf.size then(if l=0 then some (.oslice b h esz)else some (.wslice b (l*inf.size) (h-l) esz))else none
     |none=>none
   | .wslice b off n esz=>if max.isSome then none else match qaL low high none n n with
     |some (l,h,_)=>if l=h then some (.fslice 0 [])else if esz=inf.size then some (.wslice b (off+l*inf.size) (h-l) esz)else none
     |none=>none
   |_=>none
 |_=>none
def aLen (d:TypeDesc) (x:AV):Pg:=
 match d with
 | .string=>match x with
   | .str s=> .done (.int .i64 s.length)
   |_=> .fail
 | .slice _=>match x with
   | .fslice n _=> .done (.int .i64 n)
   | .slice _ _ n _ _=> .done (.int .i64 n)
   | .oslice _ n _=> .done (.int .i64 n)
   | .gslice _ n _=> .done (.int .i64 n)
   | .wslice _ _ n _=> .done (.int .i64 n)
   | .nilslice=> .done (.int .i64 0)
   |_=> .fail
 | .map _ _=>match x with
   | .nilmap=> .done (.int .i64 0)
   | .map b=> .get b λk=>match k with
     | .map ks _=> .done (.int .i64 ks.length)
     |_=> .fail
   | .fmap ks _=> .done (.int .i64 ks.length)
   |_=> .fail
 | .array n _=> .done (.int .i64 n)
 |_=> .fail
def aCap (x:AV):Option AV:=
 match x with
 | .slice _ _ _ cap _=>some (.int .i64 cap)
 | .nilslice=>some (.int .i64 0)
 |_=>none
def kz (size:Nat) (x:AV) (k:Nat->List AV->Pg):Pg:=
 match x with
 | .str s=>if size=1 then k s.length (s.map (λc=> .int .u8 c.toNat))else .fail
 | .fslice n cs=>if cs.length=n*size/\cs.all vo=true then k n cs else .fail
 | .nilslice=>k 0 []
 | .slice b off n _ _=>qaI b off (n*size) λcs=>if cs.all vo=true then k n cs else .fail
 | .oslice b n _=>qaI b 0 (n*size) λcs=>if cs.all vo=true then k n cs else .fail
 | .gslice b n _=>qaI b 0 (n*size) λcs=>if cs.all vo=true then k n cs else .fail
 | .wslice b off n _=>qaI b off (n*size) λcs=>if cs.all vo=true then k n cs else .fail
 |_=> .fail
def xD (size bytes:Nat) (s:AV) (n:Nat) (news:List AV):Pg:=
 match s with
 | .nilslice=>
   if n=0 then .done .nilslice
   else if n*bytes<=140737488355328/\n<=140737488355328 then .new (.cells news) λid=> .done (.oslice id n size)else .fail
 | .slice b off len cap esz=>
   if cap=0/\off=0 then
    .get b λx=>match x with
    | .cells _=>if len=0/\esz=size/\n*bytes<=140737488355328/\n<=140737488355328 then .set b .dead (.new (.cells news) λid=> .done (.oslice id n size))else .fail
    |_=> .fail
   else if len+n<=cap then
    .get b λx=>match x with
    | .cells cs=>
      if esz=size/\off+len*size+news.length<=cs.length then
       .set b (.cells (splice cs (off+len*size) news)) (.done (.slice b off (len+n) cap esz))
      else .fail
    |_=> .fail
   else
    qaI b off (len*size) λolds=>
     if(len+n)*bytes<=140737488355328/\len+n<=140737488355328 then .new (.cells (olds++news)) λid=> .done (.oslice id (len+n) size)else .fail
 | .oslice b len esz=>
   .get b λx=>match x with
    | .cells cs=>
      if esz=size/\len*size<=cs.length/\(len+n)*bytes<=140737488355328/\len+n<=140737488355328 then
       .set b .dead (.new (.cells (cs.take (len*size)++news)) λid=> .done (.oslice id (len+n) size))
      else .fail
    | .bag es=>match news with
      |[a]=>
       if esz=size/\size=1/\n=1/\len=es.length/\(len+n)*bytes<=140737488355328/\len+n<=140737488355328 then
        .set b .dead (.new (.bag (es++[.av a])) λid=> .done (.oslice id (len+n) size))
       else .fail
      |_=> .fail
    |_=> .fail
 | .gslice b len esz=>
   .get b λx=>match x with
    | .cells cs=>
      if esz=size/\len*size<=cs.length/\(len+n)*bytes<=140737488355328/\len+n<=140737488355328 then
       .set b .dead (.new (.cells (cs.take (len*size)++news)) λid=> .done (.gslice id (len+n) size))
      else .fail
    | .bag es=>match news with
      |[a]=>
       if esz=size/\size=1/\n=1/\len=es.length/\(len+n)*bytes<=140737488355328/\len+n<=140737488355328 then
        .set b .dead (.new (.bag (es++[.av a])) λid=> .done (.gslice id (len+n) size))
       else .fail
      |_=> .fail
    |_=> .fail
 | .fslice k cs=>if n=0 then .done (.fslice k cs)else .fail
 |_=> .fail
def zO (argTypes:List TypeId) (s x:AV):Pg:=
 match argTypes with
 |[t,u]=>
  match P.underlying t,P.underlying u with
  |some (.slice e),some du=>
   match P.info? e with
   |none=> .fail
   |some inf=>
    match inf.zero with
    |none=> .fail
    |some z=>
     if z.cells.size=inf.size/\0<inf.size then
      match du with
      | .int _=>match x with
        | .int .i64 n=>match cellsOf (qb4 3 z)with
          |some zc=>if 0<=n/\n<=140737488355328/\n*inf.bytes<=140737488355328/\zc.all vo=true then xD inf.size inf.bytes s n.toNat (zeros zc (n.toNat*inf.size))else .fail
          |none=> .fail
        |_=> .fail
      | .slice _=>match x with
        | .str _=> .fail
        |x=>kz inf.size x λn news=>xD inf.size inf.bytes s n news
      | .string=>kz inf.size x λn news=>xD inf.size inf.bytes s n news
      |_=> .fail
     else .fail
  |_,_=> .fail
 |_=> .fail
def qbl (size b off len:Nat) (n:Nat) (cs:List AV):Pg:=
 .get b λx=>match x with
  | .cells old=>
    if off+(cs.take (Nat.min n len*size)).length<=old.length then
     .set b (.cells (splice old off (cs.take (Nat.min n len*size)))) (.done (.int .i64 (Nat.min n len:Nat)))
    else .fail
  |_=> .fail
def qcu (argTypes:List TypeId) (d x:AV):Pg:=
 match argTypes with
 |t::_=>
  match P.underlying t with
  |some (.slice e)=>
   match P.info? e with
   |none=> .fail
   |some inf=>
    match d with
    | .slice b off len _ esz=>if esz=inf.size then kz inf.size x λn cs=>qbl inf.size b off len n cs else .fail
    | .oslice b len esz=>if esz=inf.size then kz inf.size x λn cs=>qbl inf.size b 0 len n cs else .fail
    | .gslice b len esz=>if 0<len/\esz=inf.size then kz inf.size x λn cs=>qbl inf.size b 0 len n cs else .fail
    | .wslice b off len esz=>if esz=inf.size then kz inf.size x λn cs=>qbl inf.size b off len n cs else .fail
    |_=> .fail
  |_=> .fail
 |_=> .fail
def qnu:AV->AV->Option Bool
 | .int k a,.int k' b=>if k=k' then some (a==b)else none
 | .str a,.str b=>some (a==b)
 | .bool a,.bool b=>some (a==b)
 |_,_=>none
def qi0 (k:AV):List AV->Nat->Option (Option Nat)
 |[],_=>some none
 |e::es,i=>
  match qnu k e with
  |some true=>some (some i)
  |some false=>qi0 k es (i+1)
  |none=>none
def plainKey:TypeDesc->AV->Bool
 | .int _,.int _ _=>true
 | .string,.str _=>true
 | .bool,.bool _=>true
 |_,_=>false
def entriesOf (x:AV) (k:List AV->List AV->Pg):Pg:=
 match x with
 | .nilmap=>k [] []
 | .fmap ks vs=>k ks vs
 | .map b=> .get b λy=>match y with
   | .map ks vs=>k ks vs
   |_=> .fail
 |_=> .fail
def qkr (t:TypeId) (x k:AV) (ok:Bool):Pg:=
 match P.underlying t with
 |some (.map kt et)=>
  match P.underlying kt,(P.info? et).bind (·.zero)with
  |some d,some z=>
   if plainKey d k then entriesOf x λks vs=>
    match qi0 k ks 0 with
    |some (some i)=>match vs[i]? with
     |some v=> .done (if ok then .tuple [v,.bool true]else v)
     |none=> .fail
    |some none=> .done (if ok then .tuple [qb4 3 z,.bool false]else qb4 3 z)
    |none=> .fail
   else .fail
  |_,_=> .fail
 |_=> .fail
def qed (t:TypeId) (x k v:AV):Pg:=
 match P.underlying t,x with
 |some (.map kt _),.map b=>
  match P.underlying kt with
  |some d=>
   if plainKey d k then .get b λy=>match y with
    | .map ks vs=>
      match qi0 k ks 0 with
      |some (some i)=> .set b (.map ks (vs.set i v)) (.done .undef)
      |some none=> .set b (.map (ks++[k]) (vs++[v])) (.done .undef)
      |none=> .fail
    |_=> .fail
   else .fail
  |none=> .fail
 |_,_=> .fail
def qg2 (t:TypeId) (x k:AV):Pg:=
 match P.underlying t,x with
 |some (.map kt et),.map b=>
  match P.underlying kt,(P.info? et).bind (·.zero)with
  |some d,some z=>
   if plainKey d k then .get b λy=>match y with
    | .map ks vs=>
      match qi0 k ks 0 with
      |some (some i)=>match vs[i]? with
       |some v=> .set b (.map ks vs) (.done (.tuple [v,.int .i64 i]))
       |none=> .fail
      |some none=> .set b (.map (ks++[k]) (vs++[qb4 3 z])) (.done (.tuple [qb4 3 z,.int .i64 ks.length]))
      |none=> .fail
    |_=> .fail
   else .fail
  |_,_=> .fail
 |_,_=> .fail
def qe6 (x s v:AV):Pg:=
 match x,s with
 | .map b,.int .i64 n=> .get b λy=>match y with
   | .map ks vs=>if 0<=n/\n<ks.length then .set b (.map ks (vs.set n.toNat v)) (.done .undef)else .fail
   |_=> .fail
 |_,_=> .fail
def qid (t:TypeId) (r:Option AV):Pg:=
 match r with
 |none=> .new (.map [] []) λid=> .done (.map id)
 |some (.int _ _)=>match P.underlying t with
  |some (.map _ _)=> .new (.map [] []) λid=> .done (.map id)
  |_=> .fail
 |_=> .fail
def jd (t:TypeId) (l c:AV):Pg:=
 match P.underlying t,l,c with
 |some (.slice e),.int .i64 l,.int .i64 c=>
  match P.info? e,qfj P e with
  |some inf,some z=>
   if 0<=l/\l<=c/\c<=140737488355328/\c*inf.bytes<=140737488355328/\z.length=inf.size then
    .new (.cells (zeros z (c.toNat*inf.size))) λid=> .done (.slice id 0 l.toNat c.toNat inf.size)
   else .fail
  |_,_=> .fail
 |_,_,_=> .fail
def qlY (t:TypeId) (x:AV):Pg:=
 match P.underlying t,x with
 |some .string,.str s=> .new (.iter s 0) λid=> .done (.ptr id 0)
 |_,_=> .fail
def qqi (x:AV) (isString:Bool):Pg:=
 match x,isString with
 | .ptr b 0,true=> .get b λy=>match y with
   | .iter s pos=>
     if pos<s.length then
      .set b (.iter s (pos+(Utf8.decode ⟨s.toArray⟩ pos).2)) (.done (.tuple [.bool true,.int .i64 pos,.int .i32 (Utf8.decode ⟨s.toArray⟩ pos).1]))
     else .done (.tuple [.bool false])
   |_=> .fail
 |_,_=> .fail
def isByte:AV->Bool
 | .int .u8 _=>true
 |_=>false
def byteOf:AV->UInt8
 | .int _ n=>UInt8.ofNat n.toNat
 |_=>0
def qjd (src dst:TypeId) (x:AV):Pg:=
 match P.underlying src,P.underlying dst with
 |some (.int _),some (.int k)=>match x with
  | .int _ n=> .done (.int k (k.wrap n))
  |_=> .fail
 |some .string,some .string=>match x with
  | .str s=> .done (.str s)
  |_=> .fail
 |some (.int _),some .string=>match x with
  | .int _ n=> .done (.str (Utf8.encode n).data.toList)
  |_=> .fail
 |some (.slice e),some .string=>
  match P.underlying e with
  |some (.int .u8)=>match x with
   | .str _=> .fail
   |x=>kz 1 x λ_ cs=>if cs.all isByte then .done (.str (cs.map byteOf))else .fail
  |_=> .fail
 |_,_=> .fail
def qpN (eq:TypeId->AV->AV->Option Bool) (xs ys:List AV):List Field->Option Bool
 |[]=>some true
 |f::fs=>
  if f.name≠ "_" then
   match qfH P f.type xs f.offset,qfH P f.type ys f.offset with
   |some a,some b=>match eq f.type a b with
    |some true=>qpN eq xs ys fs
    |some false=>some false
    |none=>none
   |_,_=>none
  else qpN eq xs ys fs
def eqIs (eq:TypeId->AV->AV->Option Bool) (e:TypeId) (c:Nat) (xs ys:List AV):List Nat->Option Bool
 |[]=>some true
 |i::is=>
  match qfH P e xs (i*c),qfH P e ys (i*c)with
  |some a,some b=>match eq e a b with
   |some true=>eqIs eq e c xs ys is
   |some false=>some false
   |none=>none
  |_,_=>none
def eqA:Nat->TypeId->AV->AV->Option Bool
 |0,_,_,_=>none
 |d+1,t,x,y=>
  match P.underlying t,x,y with
  |some .bool,.bool a,.bool b=>some (a==b)
  |some (.int _),.int k a,.int k' b=>if k=k' then some (a==b)else none
  |some .string,.str a,.str b=>some (a==b)
  |some (.struct fields),.agg xs,.agg ys=>if P.stoodInHeld t then none else qpN P (eqA d) xs ys fields.toList
  |some (.array n e),.agg xs,.agg ys=>if(P.info? e).isSome then eqIs P (eqA d) e (P.cellsOf e) xs ys (List.range n)else none
  |_,_,_=>none
def ltL:List UInt8->List UInt8->Bool
 |_,[]=>false
 |[],_::_=>true
 |a::x,b::y=>a<b||(a==b&&ltL x y)
def qfM (d:TypeDesc) (x y:AV):Option Bool:=
 match d,x,y with
 | .pointer _,.nilptr,y=>match y with| .nilptr=>some true| .ptr _ _=>some false| .fptr _ _=>some false|_=>none
 | .pointer _,.ptr _ _,.nilptr=>some false
 | .pointer _,.fptr _ _,.nilptr=>some false
 | .slice _,.nilslice,.nilslice=>some true
 | .slice _,.slice _ _ _ _ _,.nilslice=>some false
 | .slice _,.oslice _ _ _,.nilslice=>some false
 | .slice _,.gslice _ n _,.nilslice=>if n=0 then none else some false
 | .slice _,.fslice (_+1) _,.nilslice=>some false
 | .map _ _,.nilmap,.nilmap=>some true
 | .map _ _,.map _,.nilmap=>some false
 | .func _ _ _,.nilfunc,.nilfunc=>some true
 | .func _ _ _,.func _ _ _,.nilfunc=>some false
 | .interface _,.iface _ _,.niliface=>some false
 |_,_,_=>none
def qha (op:BinOp) (k:IntKind) (a b:Int):Option AV:=
 match op with
 | .add=>some (.int k (k.wrap (a+b)))
 | .sub=>some (.int k (k.wrap (a-b)))
 | .mul=>some (.int k (k.wrap (a*b)))
 | .quo=>if b=0 then none else some (.int k (k.wrap (a.tdiv b)))
 | .rem=>if b=0 then none else some (.int k (a.tmod b))
 | .and=>some (.int k (k.wrap (BitVec.ofInt k.bits a&&&BitVec.ofInt k.bits b).toNat))
 | .or=>some (.int k (k.wrap (BitVec.ofInt k.bits a|||BitVec.ofInt k.bits b).toNat))
 | .xor=>some (.int k (k.wrap (BitVec.ofInt k.bits a^^^BitVec.ofInt k.bits b).toNat))
 | .andNot=>some (.int k (k.wrap (BitVec.ofInt k.bits a&&& ~~~BitVec.ofInt k.bits b).toNat))
 | .eql=>some (.bool (a==b))
 | .neq=>some (.bool (a !=b))
 | .lss=>some (.bool (decide (a<b)))
 | .leq=>some (.bool (decide (a<=b)))
 | .gtr=>some (.bool (decide (a>b)))
 | .geq=>some (.bool (decide (a>=b)))
 |_=>none
def qfm (op:BinOp) (k:IntKind) (a b:Int):Option AV:=
 if b<0 then none else
 match op with
 | .shl=>some (.int k (k.wrap (a*2^(min b.toNat k.bits))))
 | .shr=>some (.int k (a.fdiv (2^(min b.toNat k.bits))))
 |_=>none
def qja (op:BinOp) (a b:List UInt8):Option AV:=
 match op with
 | .add=>if a.length+b.length<=9223372036854775807 then some (.str (a++b))else none
 | .eql=>some (.bool (a==b))
 | .neq=>some (.bool (!(a==b)))
 | .lss=>some (.bool (ltL a b))
 | .leq=>some (.bool (ltL a b||a==b))
 | .gtr=>some (.bool (!(ltL a b||a==b)))
 | .geq=>some (.bool (!(ltL a b)))
 |_=>none
def qcI:BinOp->Bool
 | .shl=>true
 | .shr=>true
 |_=>false
def qfl:Operand->Bool
 | .const _=>true
 |_=>false
def zt (op:BinOp) (t:TypeId) (ox oy:Operand) (x y:AV):Option AV:=
 match x,y with
 | .niliface,.niliface=>
   if qfl ox||qfl oy then
    match P.underlying t,op with
    |some (.interface _),.eql=>some (.bool true)
    |some (.interface _),.neq=>some (.bool false)
    |_,_=>none
   else none
 | .int k a,.int k' b=>
   if qcI op then qfm op k a b
   else if k=k' then qha op k a b else none
 | .str a,.str b=>qja op a b
 | .bool a,.bool b=>
   match P.underlying t,op with
   |some .bool,.eql=>some (.bool (a==b))
   |some .bool,.neq=>some (.bool (!(a==b)))
   |_,_=>none
 | .agg xs,.agg ys=>
   if P.eqGuardType P.depth t then none else
   match op,eqA P 100 t (.agg xs) (.agg ys)with
   | .eql,some r=>some (.bool r)
   | .neq,some r=>some (.bool (!r))
   |_,_=>none
 | .fslice 0 _,.nilslice=>
   match P.underlying t,op with
   |some (.slice _),.eql=>some .anyb
   |_,_=>none
 |x,y=>
  match P.underlying t,op with
  |some d,.eql=>(qfM d x y).map .bool
  |some d,.neq=>(qfM d x y).map λr=> .bool (!r)
  |_,_=>none
def aUn (op:UnOp) (x:AV):Option AV:=
 match op,x with
 | .not,.bool b=>some (.bool (!b))
 | .neg,.int k n=>some (.int k (k.wrap (0-n)))
 | .xor,.int k n=>some (.int k (k.wrap (BitVec.ofInt k.bits (if k.signed then-1 else k.max)^^^BitVec.ofInt k.bits n).toNat))
 |_,_=>none
def minA:AV->AV->Option AV
 | .int k x,.int _ y=>some (.int k (if y<x then y else x))
 |_,_=>none
def maxA:AV->AV->Option AV
 | .int k x,.int _ y=>some (.int k (if y>x then y else x))
 |_,_=>none
def qgj (b off n:Nat) (z:List AV):Pg:=
 if n=0 then .done (.tuple [])else .get b λx=>match x with
  | .cells cs=>if off+n*z.length<=cs.length/\z.all vo=true then .set b (.cells (splice cs off (zeros z (n*z.length)))) (.done (.tuple []))else .fail
  |_=> .fail
def qmp (argTypes:List TypeId) (x:AV):Pg:=
 match argTypes with
 |[t]=>match P.underlying t with
  |some (.slice e)=>match qfj P e with
   |some z=>match x with
    | .nilslice=> .done (.tuple [])
    | .fslice 0 _=> .done (.tuple [])
    | .slice b off n _ _=>qgj b off n z
    | .oslice b n _=>qgj b 0 n z
    | .wslice b off n _=>qgj b off n z
    |_=> .fail
   |none=> .fail
  |_=> .fail
 |_=> .fail
def yE (b:Builtin) (argTypes:List TypeId) (args:List AV):Pg:=
 match b,args with
 | .append,[s,x]=>zO P argTypes s x
 | .copy,[d,x]=>qcu P argTypes d x
 | .clear,[x]=>qmp P argTypes x
 | .len,[x]=>match argTypes with
   |[t]=>match P.underlying t with
    |some d=>aLen d x
    |none=> .fail
   |_=> .fail
 | .cap,[x]=>match argTypes with
   |[t]=>match P.underlying t with
    |some (.slice _)=> .opt (aCap x)
    |_=> .fail
   |_=> .fail
 | .min,x::rest=> .opt (rest.foldlM minA x)
 | .max,x::rest=> .opt (rest.foldlM maxA x)
 |_,_=> .fail
def qjT (x:AV):Option AV:=
 match x with
 | .ptr b off=>some (.ptr b off)
 | .fptr cs off=>some (.fptr cs off)
 | .func (.func f) fs cs=>some (.func (.func f) fs cs)
 |_=>none
def zx [Glob] (o:Oper) (ρ:Operand->AV):Pg:=
 match o.op with
 | .move x=> .done (ρ x)
 | .assign x=> .done (ρ x)
 | .pick c a b=>match ρ c with
   | .bool t=> .done (if t then ρ a else ρ b)
   |_=> .fail
 | .alloc e=>qml P e
 | .box _ x=>aBox (ρ x)
 | .build t parts=> .opt (qmj P t (parts.toList.map λp=>(p.1,ρ p.2)))
 | .buildSlice t len parts=>qeT P t len (parts.toList.map λp=>(p.1,ρ p.2))
 | .load t p=>qX P t (ρ p)
 | .store t p x=>qx P t (ρ p) (ρ x)
 | .nilCheck x=> .opt (qjT (ρ x))
 | .binOp op t x y _=> .opt (zt P op t x y (ρ x) (ρ y))
 | .unOp op _ x=> .opt (aUn op (ρ x))
 | .convert s d x=>qjd P s d (ρ x)
 | .makeFunc fn first captured=> .done (.func fn (first.toList.map ρ) (captured.toList.map ρ))
 | .makeMap t r=>qid P t (r.map ρ)
 | .makeSlice t l c=>jd P t (ρ l) (ρ c)
 | .slice t x l h m=> .opt (qC P t (ρ x) (l.map ρ) (h.map ρ) (m.map ρ))
 | .fieldAddr s x f=> .opt (qfW P s (ρ x) f)
 | .field t x f=> .opt (ql3 P t (ρ x) f)
 | .indexAddr t x i=> .opt (qd P t (ρ x) (ρ i))
 | .index t x i=> .opt (xw P t (ρ x) (ρ i))
 | .lookup t x k ok=>qkr P t (ρ x) (ρ k) ok
 | .insert t m k v=>qed P t (ρ m) (ρ k) (ρ v)
 | .mapUpdate t m k v=>qed P t (ρ m) (ρ k) (ρ v)
 | .mapEntry t m k=>qg2 P t (ρ m) (ρ k)
 | .entryStore _ m s v=>qe6 (ρ m) (ρ s) (ρ v)
 | .range t x=>qlY P t (ρ x)
 | .next x s=>qqi (ρ x) s
 | .extract t i=>match ρ t with
   | .tuple vs=> .opt vs[i]?
   |_=> .fail
 | .makeInterface t x=>match P.underlying t with
   |some (.interface _)=> .fail
   |some _=> .done (.iface t (ρ x))
   |none=> .fail
 | .call c=>match c.callee with
   | .builtin b=>yE P b c.argTypes.toList (c.args.toList.map ρ)
   |_=> .fail
 |_=> .fail
def aop [Glob] (o:Oper) (ρ:Operand->AV):Pg:=
 match o.op with
 | .move x=> .done (ρ x)
 | .assign x=> .done (ρ x)
 | .binOp op t x y _=> .opt (zt P op t x y (ρ x) (ρ y))
 | .load t p=>qX P t (ρ p)
 | .index t x i=> .opt (xw P t (ρ x) (ρ i))
 | .indexAddr t x i=> .opt (qd P t (ρ x) (ρ i))
 |_=>zx P o ρ
end
end Go.Av
