/-
  Chapter 10: the questions of the console: both answer what askE tells.
-/
import Derived.Test.YtjflombnfhlkaaaGreatDoorPsB
noncomputable section
namespace Go.Av
set_option linter.unusedSimpArgs false
set_option linter.unusedVariables false
def yn (p:qc→Bool) (s:List qc):List Str:=(s.filter p).map (·.Name)
theorem qeW (p:qc→Bool) (s:List qc):(yn p s).length≤s.length:=by
 unfold yn;rw[List.length_map];exact List.length_filter_le _ _
theorem qcR (p:qc→Bool) (x:qc) (s:List qc):yn p (x::s)=if p x=true then x.Name::yn p s else yn p s:=by
 unfold yn;rw[List.filter_cons];split<;>simp
def qey (d:Int) (s:qc):Bool:=!qbr s d&&!qfk s d
def qgB (_:qc):Bool:=true
theorem qjo (s:List qc) (hs:s.length≤1000) (d:Int): ∀(K k:Nat) (acc:List Str),k≤s.length→s.length<K+k→acc.length≤k→qJ s d K acc (k:Int)=some (acc++yn (qey d) (s.drop k))
 |0,k,_,h,hK,_=>by omega
 |K+1,k,acc,h,hK,ha=>by
  unfold qJ
  by_cases hk:k<s.length
  ·rw[if_pos (by omega),qx,List.getElem?_eq_getElem hk,Option.bind_some,qA (by omega),List.drop_eq_getElem_cons hk,qcR]
   have e:(if(!qbr s[k] d)=true then some (!qfk s[k] d)else some false:Option Bool)=some (qey d s[k]):=by
    unfold qey
    cases qbr s[k] d<;>rfl
   simp only[vJ,qaH,vX,qfB,qkq,Option.bind_some,e]
   by_cases hp:qey d s[k]=true
   ·rw[if_pos hp,if_pos hp,zu (by simp;omega) (by simp;omega),Option.bind_some,Option.bind_some,qjo s hs d K (k+1) _ (by omega) (by omega) (by simp;omega)]
    simp
   ·rw[if_neg hp,if_neg hp,Option.bind_some,qjo s hs d K (k+1) _ (by omega) (by omega) (by omega)]
  ·rw[if_neg (by omega),List.drop_of_length_le (by omega)]
   simp[yn]
theorem qpi {N:Nat} (hN:2000<N) {s:List qc} (hs:s.length≤1000) (d:Int):jF N s d=some (yn (qey d) s):=by
 unfold jF
 rw[show qJ s d N [] 0=qJ s d N [] ((0:Nat):Int)from rfl,qjo s hs d N 0 [] (by omega) (by omega) (by simp),List.drop_zero]
 rfl
theorem qmm (s:List qc) (hs:s.length≤1000): ∀(K k:Nat) (acc:List Str),k≤s.length→s.length<K+k→acc.length≤k→qI s K acc (k:Int)=some (acc++yn qgB (s.drop k))
 |0,k,_,h,hK,_=>by omega
 |K+1,k,acc,h,hK,ha=>by
  unfold qI
  by_cases hk:k<s.length
  ·rw[if_pos (by omega),qx,List.getElem?_eq_getElem hk,Option.bind_some,qA (by omega),List.drop_eq_getElem_cons hk,qcR]
   simp only[vD,vX,Option.bind_some]
   rw[if_pos trivial,if_pos (show qgB s[k]=true from rfl),zu (by simp;omega) (by simp;omega),Option.bind_some,Option.bind_some,qmm s hs K (k+1) _ (by omega) (by omega) (by simp;omega)]
   simp
  ·rw[if_neg (by omega),List.drop_of_length_le (by omega)]
   simp[yn]
theorem qo3 {N:Nat} (hN:2000<N) {s:List qc} (hs:s.length≤1000):jJ N s=some (yn qgB s):=by
 unfold jJ
 rw[show qI s N [] 0=qI s N [] ((0:Nat):Int)from rfl,qmm s hs N 0 [] (by omega) (by omega) (by simp),List.drop_zero]
 rfl
theorem qjI (r:qy) (hs:r.Slings.length≤1000) (d:Int): ∀(K k:Nat) (acc:List Str),k≤r.Slings.length→r.Slings.length<K+k→acc.length≤k→yo r d K acc (k:Int)=some (acc++yn (qey d) (r.Slings.drop k))
 |0,k,_,h,hK,_=>by omega
 |K+1,k,acc,h,hK,ha=>by
  unfold yo
  by_cases hk:k<r.Slings.length
  ·rw[if_pos (by omega),qx,List.getElem?_eq_getElem hk,Option.bind_some,qA (by omega),List.drop_eq_getElem_cons hk,qcR]
   have e:(if(!qbr r.Slings[k] d)=true then some (!qfk r.Slings[k] d)else some false:Option Bool)=some (qey d r.Slings[k]):=by
    unfold qey
    cases qbr r.Slings[k] d<;>rfl
   simp only[qeI,qiH,Option.bind_some,e]
   by_cases hp:qey d r.Slings[k]=true
   ·rw[if_pos hp,if_pos hp,zu (by simp;omega) (by simp;omega),Option.bind_some,Option.bind_some,qjI r hs d K (k+1) _ (by omega) (by omega) (by simp;omega)]
    simp
   ·rw[if_neg hp,if_neg hp,Option.bind_some,qjI r hs d K (k+1) _ (by omega) (by omega) (by omega)]
  ·rw[if_neg (by omega),List.drop_of_length_le (by omega)]
   simp[yn]
theorem qpf {N:Nat} (hN:2000<N) {b:Int} {s:List qc} (hs:s.length≤1000) (d:Int):qds N ⟨b,s⟩ d=some (yn (qey d) s):=by
 unfold qds
 rw[show yo ⟨b,s⟩ d N [] 0=yo ⟨b,s⟩ d N [] ((0:Nat):Int)from rfl,qjI ⟨b,s⟩ hs d N 0 [] (by omega) (by simp only;omega) (by simp),List.drop_zero]
 rfl
theorem qj3 (r:qy×Int×Int) (hs:r.1.Slings.length≤1000): ∀(K k:Nat) (acc:List Str),k≤r.1.Slings.length→r.1.Slings.length<K+k→acc.length≤k→vS r K acc (k:Int)=some (acc++yn qgB (r.1.Slings.drop k))
 |0,k,_,h,hK,_=>by omega
 |K+1,k,acc,h,hK,ha=>by
  unfold vS
  by_cases hk:k<r.1.Slings.length
  ·rw[if_pos (by omega),qx,List.getElem?_eq_getElem hk,Option.bind_some,qA (by omega),List.drop_eq_getElem_cons hk,qcR,if_pos (show qgB r.1.Slings[k]=true from rfl),zu (by simp;omega) (by simp;omega),Option.bind_some,qj3 r hs K (k+1) _ (by omega) (by omega) (by simp;omega)]
   simp
  ·rw[if_neg (by omega),List.drop_of_length_le (by omega)]
   simp[yn]
def qgr (x:qc):List Int:=[x.Born,x.Last,x.Uses,x.Used,x.Limit,x.Until]
theorem qjh {x:qc} (h:qgk x): ∀n∈qgr x,0≤n∧n<1000000000:=by
 intro n hn
 have h1:=h.born
 have h2:=h.last
 have h3:=h.uses
 have h4:=h.used
 have h5:=h.limit
 have h6:=h.till
 simp only[qgr,List.mem_cons,List.not_mem_nil,or_false]at hn
 rcases hn with rfl|rfl|rfl|rfl|rfl|rfl<;>omega
theorem qjV {N:Nat} (hN:2000<N) {x:qc} (h:qgk x): ∀(K k:Nat) (acc:List Str),k≤6→6<K+k→acc.length≤100+k→vM N x K acc (k:Int)=some (acc++((qgr x).drop k).map Lib.itoa)
 |0,k,_,h,hK,_=>by omega
 |K+1,k,acc,hk6,hK,ha=>by
  unfold vM
  have hl:(qgr x).length=6:=rfl
  by_cases hk:k<6
  ·have hk':k<(qgr x).length:=by omega
   rw[if_pos (by omega),show([x.Born,x.Last,x.Uses,x.Used,x.Limit,x.Until]:List Int)=qgr x from rfl,qx,List.getElem?_eq_getElem hk',Option.bind_some,qf8 (by omega) (qjh h _ (List.getElem_mem hk')),Option.bind_some,zu (by simp;omega) (by simp;omega),Option.bind_some,qA (by omega),qjV hN h K (k+1) _ (by omega) (by omega) (by simp;omega),List.drop_eq_getElem_cons hk',List.map_cons,List.append_assoc]
   rfl
  ·rw[if_neg (by omega),List.drop_of_length_le (by omega)]
   simp
def qaF:Str:=[115,108,105,110,103]
def qab:Str:=[115,108,105,110,103,115]
def qeo:Str:=[100,117,101]
def qgS (x:qc):Str:=if x.Gone=true then[103,111,110,101]else[107,101,112,116]
def qbt (x:qc):List Str:=x.Batch::((qgr x).map Lib.itoa++[qgS x])
def qln (l:List Str):Str:=if l=[]then[110,111,110,101]else qaU l
def qmC (l:List qc):List Str→Str×Int
 |[]=>([],13)
 |w0::r=>
  if(w0==qaF)=true then(match r with
   |[w]=>if w=[]then([],25)else(match l[vg l w]? with
    |some x=>if xn l w=true then(qaU (qbt x),0)else([],10)
    |none=>([],10))
   |_=>([],25))
  else if(w0==qab)=true then(match r with
   |[]=>(qln (yn qgB l),0)
   |_=>([],25))
  else if(w0==qeo)=true then(match r with
   |[w]=>if w=[]then([],25)else if qQ [if(vP w).2=true then 0 else 25,if yg (vP w).1 0 99999=true then 3 else 0]=0 then(qln (yn (qey (vP w).1) l),0)else([],qQ [if(vP w).2=true then 0 else 25,if yg (vP w).1 0 99999=true then 3 else 0])
   |_=>([],25))
  else([],13)
theorem qfL {l:List Str} {m:Nat} (h1:l.length≤1000) (h2: ∀w∈l,w.length≤m) (hm:m≤1000):qfe l [32]=some (qaU l):=by
 unfold qfe
 rw[qon,if_pos]
 refine⟨by omega,?_⟩
 match l,h1,h2 with
 |[],_,_=>simp[qaU]
 |x::r,h1,h2=>
  have h3:=qgx (m:=m) r fun w hw=>h2 w (List.mem_cons_of_mem _ hw)
  have h4:=h2 x (List.mem_cons_self ..)
  have h5:r.length*(m+1)≤1000*1001:=Nat.mul_le_mul (by simp at h1;omega) (by omega)
  rw[qby,List.length_append]
  omega
theorem qkp {x:Str} {l:List Str} (h:x≠[]):qaU (x::l)≠[]:=by
 rw[qby]
 cases x with
 |nil=>exact absurd rfl h
 |cons c x=>simp
theorem qkv {s:Str} (h:qaq s=true):s≠[]:=by
 rw[qgh]at h
 simp only[Bool.and_eq_true,decide_eq_true_eq]at h
 intro e
 rw[e]at h
 simp at h
theorem qdn {l:List qc} (h:qeF l) (p:qc→Bool): ∀w∈yn p l,w.length≤24∧w≠[]:=by
 intro w hw
 unfold yn at hw
 obtain⟨s,hs,rfl⟩:=List.mem_map.1 hw
 have:=(h s (List.mem_filter.1 hs).1).name
 exact⟨qeR this,qkv this⟩
theorem qkJ {l:List Str} (h: ∀w∈l,w≠[]):(if(qaU l==[])=true then some [110,111,110,101]else some (qaU l):Option Str)=some (qln l):=by
 unfold qln
 cases l with
 |nil=>rfl
 |cons x r=>
  have:=qkp (l:=r) (h x (List.mem_cons_self ..))
  rw[if_neg (by simp[this]),if_neg (by simp)]
theorem qhz {x:qc} (h:qgk x):(qbt x).length=8∧ ∀w∈qbt x,w.length≤24:=by
 refine⟨rfl,fun w hw=>?_⟩
 unfold qbt at hw
 simp only[List.mem_cons,List.mem_append,List.mem_map,List.not_mem_nil,or_false]at hw
 rcases hw with rfl|⟨n,hn,rfl⟩|rfl
 ·exact qeR h.batch
 ·have:=qfO (qjh h n hn);omega
 ·unfold qgS;split<;>simp
structure qi8 (N:Nat) (ev:List qb) (o o':Option (List StateT)) (d:Int) (l:List qc):Prop where
 reg:qB ev o=some (o',d,l)
 rep:vH N ev=some (⟨d,l⟩,0,0)
 same:hof o'=hof o
 asc:Asc l
 len:l.length≤1000
 ok:qeF l
 big:2000<N
 max:N<4611686018427387904
theorem qpe {N:Nat} {ev:List qb} {o o':Option (List StateT)} {d:Int} {l:List qc} (h:qi8 N ev o o' d l) (w:Str):
 zT N ev o [w]=some (match l[vg l w]? with
  |some x=>if xn l w=true then(o',qaU (qbt x),0)else(o',[],10)
  |none=>(o',[],10)):=by
 have hN:=h.big
 have hl:=h.len
 unfold zT
 rw[h.reg,Option.bind_some]
 simp only[y8,List.getElem?_cons_zero,Option.bind_some]
 rw[qjm (N:=N) (l:=l) (by omega) (by omega),Option.bind_some]
 cases hh:xn l w with
 |false=>
  simp only[Bool.not_false,if_true,Bool.false_eq_true,if_false]
  cases l[vg l w]? <;>rfl
 |true=>
  obtain⟨x,hx,hlt⟩:=qeU hh
  have hok:=h.ok x (List.mem_of_getElem? hx)
  simp only[Bool.not_true,Bool.false_eq_true,if_false,if_true,qx,hx,Option.bind_some]
  have hs:=qjh hok
  have e1:zo N [x.Born,x.Last,x.Uses,x.Used,x.Limit,x.Until]=some ((qgr x).map Lib.itoa):=qi0 hN (a:=qgr x) (by simp[qgr]) hs
  obtain⟨q1,q2⟩:=qhz hok
  rw[e1,Option.bind_some]
  have e2:(qgr x).map Lib.itoa=Lib.itoa x.Born::[x.Last,x.Uses,x.Used,x.Limit,x.Until].map Lib.itoa:=rfl
  rw[e2]
  simp only
  rw[zu (by simp) (by simp),Option.bind_some,Option.bind_some]
  have e3:(if x.Gone=true then some [103,111,110,101]else some [107,101,112,116]:Option Str)=some (qgS x):=by unfold qgS;split<;>rfl
  rw[e3,Option.bind_some,zu (by simp) (by simp),Option.bind_some]
  have e4:[x.Batch]++Lib.itoa x.Born::List.map Lib.itoa [x.Last,x.Uses,x.Used,x.Limit,x.Until]++[qgS x]=qbt x:=by rw[←e2];simp[qbt]
  rw[e4]
  unfold jV
  rw[qfL (m:=24) (by omega) q2 (by omega)]
  rfl
theorem qnp {N:Nat} {ev:List qb} {o o':Option (List StateT)} {d:Int} {l:List qc} (h:qi8 N ev o o' d l) (ws:List Str):
 zH N ev o ws=some (o',qaU (yn qgB l)):=by
 have hl:=h.len
 have hn:=qdn h.ok qgB
 have hle:=qeW qgB l
 unfold zH jV
 rw[h.reg,Option.bind_some]
 simp only
 rw[qo3 h.big hl,Option.bind_some,qfL (m:=24) (by omega) (fun w hw=>(hn w hw).1) (by omega)]
 rfl
theorem due_P {N:Nat} {ev:List qb} {o o':Option (List StateT)} {d:Int} {l:List qc} (h:qi8 N ev o o' d l) {w:Str} (hw:w.length≤1000):
 jv N ev o [w]=some (if qQ [if(vP w).2=true then 0 else 25,if yg (vP w).1 0 99999=true then 3 else 0]=0 then(o',qaU (yn (qey (vP w).1) l),0)else(o,[],qQ [if(vP w).2=true then 0 else 25,if yg (vP w).1 0 99999=true then 3 else 0])):=by
 have hN:=h.big
 have hl:=h.len
 have hn:=qdn h.ok (qey (vP w).1)
 have hle:=qeW (qey (vP w).1) l
 unfold jv jV
 simp only[y8,List.getElem?_cons_zero,Option.bind_some]
 rw[qfF (by omega),Option.bind_some,xq,Option.bind_some,qem,Option.bind_some,xZ (by simp) (by simp;omega),Option.bind_some]
 have e:(if(!(vP w).2)=true then(25:Int)else 0)=if(vP w).2=true then 0 else 25:=by cases(vP w).2<;>rfl
 rw[e]
 by_cases hz:qQ [if(vP w).2=true then 0 else 25,if yg (vP w).1 0 99999=true then 3 else 0]=0
 ·rw[if_neg (by simp[hz]),if_pos hz,h.reg,Option.bind_some]
  simp only
  rw[qpi hN hl,Option.bind_some,qfL (m:=24) (by omega) (fun w hw=>(hn w hw).1) (by omega)]
  rfl
 ·rw[if_pos (by simp[hz]),if_neg hz]
theorem qkb (b:Bool) (e:Int):qbE b e=some (if b=true then e else 0):=by
 unfold qbE
 cases b<;>rfl
theorem qnG (n:Int):qbT n=some (if yg n 0 99999=true then 3 else 0):=by
 unfold qbT
 rw[qcs,Option.bind_some,qkb]
 rfl
def mapQ:List (Str×Int):=[(qaF,2),(qab,1),(qeo,2)]
theorem qo7:qeg (qeg (qeg ([]:List (Str×Int)) [115,108,105,110,103] 2) [115,108,105,110,103,115] 1) [100,117,101] 2=mapQ:=by decide
theorem qol (w:Str):(qen mapQ w).getD 0=if(w==qaF)=true then 2 else if(w==qab)=true then 1 else if(w==qeo)=true then 2 else 0:=by
 unfold qen mapQ
 simp only[List.find?_cons,List.find?_nil]
 cases h1:w==qaF
 ·cases h2:w==qab
  ·cases h3:w==qeo<;>simp
  ·simp
 ·simp
theorem q12:(qab==qaF)=false:=by decide
theorem q13:(qeo==qaF)=false:=by decide
theorem q23:(qeo==qab)=false:=by decide
theorem qjq {l:List Str} {m:Nat} (h1:l.length≤1000) (h2: ∀w∈l,w.length≤m) (hm:m≤1000):
 (if(l.length:Int)=0 then some ([110,111,110,101],0)else(qfe l [32]).bind fun r49=>some (r49,0):Option (Str×Int))=some (qln l,0):=by
 unfold qln
 cases l with
 |nil=>rfl
 |cons x r=>
  rw[if_neg (by simp only[List.length_cons];omega),qfL h1 h2 hm,if_neg (by simp)]
  rfl
theorem qoy {N:Nat} {ev:List qb} {o o':Option (List StateT)} {d:Int} {l:List qc} (h:qi8 N ev o o' d l) {line:Str} (hl:line.length≤1000):
 qbN N ev line=some (qmC l (spl [] line)):=by
 have hN:=h.big
 have hll:=h.len
 have hsh:=qci [] line
 unfold qbN
 rw[qf4 (by omega) (by omega),Option.bind_some,Option.bind_some,Option.bind_some,Option.bind_some,qo7,y8]
 have hne:=qoI [] line
 revert hsh hne
 generalize spl [] line=ws
 intro hsh hne
 match ws,hne with
 |w0::r,_=>
 rw[List.getElem?_cons_zero,Option.bind_some,qol]
 unfold qmC
 by_cases h1:(w0==qaF)=true
 ·obtain rfl:=beq_iff_eq.1 h1
  simp only[h1,if_true]
  rw[if_neg (by decide)]
  match r with
  |[]=>rfl
  |[w]=>
   have hw:=hsh w (by simp)
   rw[if_neg (by simp),show w64 (2-1)=((1:Nat):Int)by decide,qx,List.getElem?_cons_succ,List.getElem?_cons_zero,Option.bind_some,Option.bind_some]
   by_cases hz:w=[]
   ·rw[if_pos (by simp[hz])]
    simp[hz]
   ·rw[if_neg (by simp[hz]),h.rep,Option.bind_some]
    simp only[hz,if_false]
    rw[show([115,108,105,110,103]:Str)=qaF from rfl,if_pos h1,qeh,List.getElem?_cons_succ,List.getElem?_cons_zero,Option.bind_some,qlR (N:=N) (r:=⟨d,l⟩) (by simp only;omega) (by simp only;omega) h.asc,Option.bind_some]
    simp only
    cases hh:xn l w with
    |false=>
     simp only[Bool.false_eq_true,if_false]
     rw[if_pos (by decide),Option.bind_some]
     cases l[vg l w]? <;>rfl
    |true=>
     obtain⟨x,hx,hlt⟩:=qeU hh
     have hok:=h.ok x (List.mem_of_getElem? hx)
     obtain⟨q1,q2⟩:=qhz hok
     have hL:=qjV hN hok N 0 [x.Batch] (by omega) (by omega) (by simp)
     rw[List.drop_zero]at hL
     simp only[if_true]
     rw[if_neg (by omega),qx,hx,Option.bind_some,show vM N x N [x.Batch] 0=_ from hL,Option.bind_some]
     have e1:[x.Batch]++List.map Lib.itoa (qgr x)++[qgS x]=qbt x:=by simp[qbt]
     have hlen6:(List.map Lib.itoa (qgr x)).length=6:=rfl
     have fin:=qjq (m:=24) (l:=qbt x) (by omega) q2 (by omega)
     have e3:qln (qbt x)=qaU (qbt x):=if_neg (by simp[qbt])
     by_cases hg:x.Gone=true
     ·have e2:qgS x=[103,111,110,101]:=if_pos hg
      rw[e2]at e1
      rw[if_pos hg,zu (by simp[hlen6]) (by simp[hlen6]),Option.bind_some,Option.bind_some,e1]
      simp only[hx]
      exact fin.trans (by rw[e3])
     ·have e2:qgS x=[107,101,112,116]:=if_neg hg
      rw[e2]at e1
      rw[if_neg hg,zu (by simp[hlen6]) (by simp[hlen6]),Option.bind_some,Option.bind_some,e1]
      simp only[hx]
      exact fin.trans (by rw[e3])
  |_::_::r=>
   rw[if_pos (by simp;omega),Option.bind_some,if_pos rfl]
 ·simp only[h1,if_false,Bool.false_eq_true]
  by_cases h2:(w0==qab)=true
  ·obtain rfl:=beq_iff_eq.1 h2
   simp only[h2,if_true]
   rw[if_neg (by decide)]
   match r with
   |[]=>
    rw[if_neg (by simp),show w64 (1-1)=((0:Nat):Int)by decide,qx,List.getElem?_cons_zero,Option.bind_some,Option.bind_some,if_neg (by decide),h.rep,Option.bind_some]
    rw[show([115,108,105,110,103]:Str)=qaF from rfl,if_neg h1,show([115,108,105,110,103,115]:Str)=qab from rfl,if_pos h2]
    have hL:=qj3 (⟨d,l⟩,0,0) hll N 0 [] (by omega) (by simp only;omega) (by simp)
    rw[List.drop_zero,List.nil_append]at hL
    rw[show vS (⟨d,l⟩,0,0) N [] 0=some (yn qgB l)from hL,Option.bind_some,Option.bind_some]
    have hn:=qdn h.ok qgB
    have hle:=qeW qgB l
    exact qjq (m:=24) (by omega) (fun w hw=>(hn w hw).1) (by omega)
   |_::r=>
    rw[if_pos (by simp;omega),Option.bind_some,if_pos rfl]
  ·simp only[h2,if_false,Bool.false_eq_true]
   by_cases h3:(w0==qeo)=true
   ·obtain rfl:=beq_iff_eq.1 h3
    simp only[h3,if_true]
    rw[if_neg (by decide)]
    match r with
    |[]=>rfl
    |[w]=>
     have hw:=hsh w (by simp)
     rw[if_neg (by simp),show w64 (2-1)=((1:Nat):Int)by decide,qx,List.getElem?_cons_succ,List.getElem?_cons_zero,Option.bind_some,Option.bind_some]
     by_cases hz:w=[]
     ·rw[if_pos (by simp[hz])]
      simp[hz]
     ·rw[if_neg (by simp[hz]),h.rep,Option.bind_some]
      simp only[hz,if_false]
      rw[show([115,108,105,110,103]:Str)=qaF from rfl,if_neg h1,show([115,108,105,110,103,115]:Str)=qab from rfl,if_neg h2,show([100,117,101]:Str)=qeo from rfl,if_pos h3,qeh,List.getElem?_cons_succ,List.getElem?_cons_zero,Option.bind_some,qeG hN,Option.bind_some,qkb,Option.bind_some,qnG,Option.bind_some,qmP (by simp) (by simp;omega),Option.bind_some]
      have e:(if(!(vP w).2)=true then(25:Int)else 0)=if(vP w).2=true then 0 else 25:=by cases(vP w).2<;>rfl
      rw[e]
      by_cases hf:qQ [if(vP w).2=true then 0 else 25,if yg (vP w).1 0 99999=true then 3 else 0]=0
      ·rw[if_neg (by simp[hf]),if_pos hf,qpf hN hll,Option.bind_some,Option.bind_some]
       have hn:=qdn h.ok (qey (vP w).1)
       have hle:=qeW (qey (vP w).1) l
       exact qjq (m:=24) (by omega) (fun w hw=>(hn w hw).1) (by omega)
      ·rw[if_pos (by simp[hf]),if_neg hf,Option.bind_some]
    |_::_::r=>
     rw[if_pos (by simp;omega),Option.bind_some,if_pos rfl]
   ·simp only[h3,if_false,Bool.false_eq_true]
    rw[if_pos trivial]
theorem qov (x:Str):(if(x==[109,97,107,101])=true then some true else if(x==[116,101,115,116])=true then some true else if(x==[117,115,101])=true then some true else if(x==[102,97,105,108])=true then some true else if(x==[114,101,99,97,108,108])=true then some true else if(x==[117,110,100,111])=true then some true else some false:Option Bool)=some (zn x).2.2:=by
 unfold zn xY qaK qcu qal zV qbR
 repeat' split
 all_goals first|rfl|simp_all
theorem qlQ {N:Nat} (hN:2000<N) {ev:List qb} {o:Option (List StateT)} {line:Str} (hl:line.length≤1000) (hne:line≠[]) {w0:Str} {r:List Str} (hw:spl [] line=w0::r):
 zw N ev o line=if(zn w0).2.2=true then zU N ev o line else
  (if(w0==qaF)=true then
   (if(!decide (((w0::r).length:Int)=2))=true then some true else some ((w0::r).any fun w=>[]==w):Option Bool).bind fun b33=>
   if b33=true then some (ev,o,[],25)else(zT N ev o r).bind fun(o38,s_39,words__40)=>
   if(!decide (words__40=0))=true then some (ev,o38,[],words__40)else
   ((if(s_39==[])=true then some [110,111,110,101]else some s_39:Option Str)).bind fun out_42=>some (ev,o38,out_42,0)
  else if(w0==qab)=true then
   (if(!decide (((w0::r).length:Int)=1))=true then some true else some ((w0::r).any fun w=>[]==w):Option Bool).bind fun b47=>
   if b47=true then some (ev,o,[],25)else(zH N ev o r).bind fun(o52,s_53)=>
   ((if(s_53==[])=true then some [110,111,110,101]else some s_53:Option Str)).bind fun out_55=>some (ev,o52,out_55,0)
  else if(w0==qeo)=true then
   (if(!decide (((w0::r).length:Int)=2))=true then some true else some ((w0::r).any fun w=>[]==w):Option Bool).bind fun b60=>
   if b60=true then some (ev,o,[],25)else(jv N ev o r).bind fun(o65,s_66,words__67)=>
   if(!decide (words__67=0))=true then some (ev,o65,[],words__67)else
   ((if(s_66==[])=true then some [110,111,110,101]else some s_66:Option Str)).bind fun out_69=>some (ev,o65,out_69,0)
  else some (ev,o,[],13)):=by
 have hlen:(w0::r).length≤1001:=by rw[←hw];have:=qkl line;omega
 unfold zw
 rw[xq,Option.bind_some,xq,Option.bind_some,xZ (by simp) (by simp;omega),Option.bind_some]
 have e0:qQ [if decide ((line.length:Int)>4096)=true then(26:Int)else 0,if(line==[])=true then(25:Int)else 0]=0:=by
  have: ¬((line.length:Int)>4096):=by omega
  simp[qQ,this,hne]
 rw[e0,if_neg (by simp),qf4 (by omega) (by omega),Option.bind_some,hw]
 simp only[zl,qaI,Option.bind_some,y8,List.getElem?_cons_zero]
 rw[qov,Option.bind_some]
 by_cases hf:(zn w0).2.2=true
 ·rw[if_pos hf,if_pos hf]
  cases zU N ev o line<;>rfl
 ·rw[if_neg hf,if_neg hf]
  have ec:cut (w0::r) 1 (((w0::r).length:Nat):Int)=some r:=xx (l:=w0::r) (k:=1) (by simp)
  have e2:w64 (1+1)=2:=by decide
  have e1:w64 (0+1)=1:=by decide
  have ek:slices_Contains_string N (w0::r) []=some ((w0::r).any fun w=>[]==w):=qgX (by omega) (by omega)
  simp only[ec,e1,e2,ek,Option.bind_some]
  rfl
theorem qp6 {N:Nat} {ev:List qb} {o o':Option (List StateT)} {d:Int} {l:List qc} (h:qi8 N ev o o' d l) {line:Str} (hl:line.length≤1000) (hne:line≠[]) {w0:Str} {r:List Str} (hw:spl [] line=w0::r) (hf:(zn w0).2.2=false):
 ∃o2,zw N ev o line=some (ev,o2,(qmC l (spl [] line)).1,(qmC l (spl [] line)).2)∧hof o2=hof o:=by
 have hN:=h.big
 have hsh:=qci [] line
 rw[qlQ hN hl hne hw,if_neg (by simp[hf]),hw]
 rw[hw]at hsh
 unfold qmC
 by_cases h1:(w0==qaF)=true
 ·obtain rfl:=beq_iff_eq.1 h1
  simp only[h1,if_true]
  match r with
  |[]=>exact⟨o,rfl,rfl⟩
  |[w]=>
   by_cases hz:w=[]
   ·subst hz
    exact⟨o,by simp,rfl⟩
   ·have e1:((qaF::[w]).any fun w=>[]==w)=false:=by
     have:([]==w)=false:=by cases w with|nil=>exact absurd rfl hz|cons=>rfl
     simp only[List.any_cons,List.any_nil,this,Bool.or_false]
     decide
    rw[if_neg (by simp),e1,Option.bind_some,if_neg (by simp),qpe h w]
    simp only[hz,if_false,Option.bind_some]
    cases hx:l[vg l w]? with
    |none=>exact⟨o',by simp,h.same⟩
    |some x=>
     simp only
     cases hh:xn l w with
     |false=>exact⟨o',by simp,h.same⟩
     |true=>
      have hok:=h.ok x (List.mem_of_getElem? hx)
      have hj:qaU (qbt x)≠[]:=qkp (qkv hok.batch)
      exact⟨o',by simp[hj],h.same⟩
  |_::_::r=>
   rw[if_pos (by simp;omega)]
   exact⟨o,rfl,rfl⟩
 ·simp only[h1,if_false,Bool.false_eq_true]
  by_cases h2:(w0==qab)=true
  ·obtain rfl:=beq_iff_eq.1 h2
   simp only[h2,if_true]
   match r with
   |[]=>
    have hn:=qdn h.ok qgB
    have e1:((qab::[]).any fun w=>([]:Str)==w)=false:=by decide
    rw[if_neg (by simp),e1,Option.bind_some,if_neg (by simp),qnp h,Option.bind_some]
    simp only
    rw[qkJ fun w hw=>(hn w hw).2]
    exact⟨o',rfl,h.same⟩
   |_::r=>
    rw[if_pos (by simp;omega)]
    exact⟨o,rfl,rfl⟩
  ·simp only[h2,if_false,Bool.false_eq_true]
   by_cases h3:(w0==qeo)=true
   ·obtain rfl:=beq_iff_eq.1 h3
    simp only[h3,if_true]
    match r with
    |[]=>exact⟨o,rfl,rfl⟩
    |[w]=>
     by_cases hz:w=[]
     ·subst hz
      exact⟨o,by simp,rfl⟩
     ·have e1:((qeo::[w]).any fun w=>[]==w)=false:=by
       have:([]==w)=false:=by cases w with|nil=>exact absurd rfl hz|cons=>rfl
       simp only[List.any_cons,List.any_nil,this,Bool.or_false]
       decide
      have hwl:=hsh w (by simp)
      have hn:=qdn h.ok (qey (vP w).1)
      rw[if_neg (by simp),e1,Option.bind_some,if_neg (by simp),due_P h (by simp at hwl;omega)]
      simp only[hz,if_false,Option.bind_some]
      by_cases hb:qQ [if(vP w).2=true then 0 else 25,if yg (vP w).1 0 99999=true then 3 else 0]=0
      ·simp only[if_pos hb]
       rw[if_neg (by simp),qkJ fun w hw=>(hn w hw).2]
       exact⟨o',rfl,h.same⟩
      ·simp only[if_neg hb]
       rw[if_pos (by simp[hb])]
       exact⟨o,rfl,rfl⟩
    |_::_::r=>
     rw[if_pos (by simp;omega)]
     exact⟨o,rfl,rfl⟩
   ·simp only[h3,if_false,Bool.false_eq_true]
    exact⟨o,rfl,rfl⟩
theorem qgQ {N:Nat} (hN:2000<N) {e:qb} (h:zL e=0):qdV N e:=by
 obtain⟨_,_,h1,h2⟩:=qa6 h
 have hn:=qdG h
 exact⟨by omega,by omega,fun s hs=>by have:=qeR (List.all_eq_true.1 hn s hs);omega⟩
structure qb6 (N:Nat) (ev:List qb) (o:Option (List StateT)):Prop where
 big:2000<N
 max:N<4611686018427387904
 run:(vL N ev 0 []).2.1=0
 rel:Rel N (vL N ev 0 []).2.2 (hof o)
 cl:(vL N ev 0 []).2.2.length≤ev.length
 chk: ∀e∈ev,zL e=0
theorem qb6.evs {N:Nat} {ev:List qb} {o:Option (List StateT)} (h:qb6 N ev o) (hl:ev.length≤1000):Evs N ev:=⟨hl,fun e he=>qgQ h.big (h.chk e he),h.big,h.max⟩
theorem qb6.same {N:Nat} {ev:List qb} {o o2:Option (List StateT)} (h:qb6 N ev o) (he:hof o2=hof o):qb6 N ev o2:=⟨h.big,h.max,h.run,by rw[he];exact h.rel,h.cl,h.chk⟩
theorem qb6.reg {N:Nat} {ev:List qb} {o:Option (List StateT)} (h:qb6 N ev o) (hl:ev.length≤1000): ∃o' d l,qi8 N ev o o' d l:=by
 have hcl:=h.cl
 obtain⟨o',d,l,h1,h2,h3,h4,h5,h6⟩:=qbh (evs:=ev) h.rel (by omega) h.big
 rcases qcz (h.evs hl)with⟨e0,_⟩|⟨_,d',s',e1,_,e3⟩
 ·exact absurd h.run e0
 ·rw[h3]at e1
  injection e1 with e1
  injection e1 with ed es
  subst ed es
  exact⟨o',d,l,h1,e3,h2,h4,by omega,h6,h.big,h.max⟩
theorem qkr {N:Nat} {l:List qb} (h:Evs N l) {e:qb} (he:qdV N e) (g1:(vL N l 0 []).2.1=0) (hl9:l.length<1000):qaS N l e=some (qam N (vL N l 0 []).2.2 l.length e):=by
 have hN:=h.big
 have hM:=h.max
 unfold qaS
 rcases qcz h with⟨e0,_⟩|⟨_,d,s,e1,e2,e3⟩
 ·exact absurd g1 e0
 ·rw[e3,Option.bind_some,qcE hM he]
  by_cases hc:zL e=0
  ·have hlen: ¬((l.length:Int)≥1000):=by omega
   rw[if_pos rfl,Option.bind_some,Option.bind_some,hc,if_neg (by simp),if_neg hlen,zu (by simp;omega) (by simp;omega),Option.bind_some,List.nil_append,zu (by simp;omega) (by simp;omega),Option.bind_some]
   have h':Evs N (l++[e]):=⟨by simp;omega,fun x hx=>by
    rcases List.mem_append.1 hx with hx|hx
    ·exact h.short x hx
    ·simp at hx;subst hx;exact he,hN,hM⟩
   have ca:(vL N (l++[e]) 0 []).2.1=qam N (vL N l 0 []).2.2 l.length e:=by
    rw[qep,if_pos g1,Nat.zero_add,qeZ]
    by_cases hz:qam N (vL N l 0 []).2.2 l.length e=0
    ·rw[if_pos hz];exact hz.symm
    ·rw[if_neg hz]
   rcases qcz h' with⟨b0,b1⟩|⟨b0,d2,s2,_,_,b1⟩
   ·rw[b1,Option.bind_some]
    exact congrArg some ca
   ·rw[b1,Option.bind_some]
    rw[ca]at b0
    exact congrArg some b0.symm
  ·have:qam N (vL N l 0 []).2.2 l.length e=zL e:=by unfold qam;rw[if_pos hc]
   rw[this]
   simp[hc]
def qcO (n:Nat) (line:Str):qb:=qgw (n:Int) (yP line).1
def qnm (n:Nat):Str:=[100,111,110,101,32]++Lib.itoa (n:Int)
theorem qb6.step {N:Nat} {ev:List qb} {o:Option (List StateT)} (h:qb6 N ev o) (hl:ev.length<900) {line:Str} (hs:line.length≤1000):
 (qam N (vL N ev 0 []).2.2 ev.length (qcO (ev.length+1) line)=0→ ∃o2,zJ N ev o ((ev.length+1:Nat):Int) (yP line).1.Kind (yP line).1.Names (yP line).1.Values (yP line).1.Text=some (ev++[qcO (ev.length+1) line],o2,0)∧qb6 N (ev++[qcO (ev.length+1) line]) o2)∧
 (qam N (vL N ev 0 []).2.2 ev.length (qcO (ev.length+1) line)≠0→ ∃o2,zJ N ev o ((ev.length+1:Nat):Int) (yP line).1.Kind (yP line).1.Names (yP line).1.Values (yP line).1.Text=some (ev,o2,qam N (vL N ev 0 []).2.2 ev.length (qcO (ev.length+1) line))∧qb6 N ev o2):=by
 have hN:=h.big
 have hcl:=h.cl
 have pre:Pre N (vL N ev 0 []).2.2 (hof o) ev.length (qcO (ev.length+1) line):=⟨h.rel,by omega,by omega,hN,h.max,qcL hN (by omega) _⟩
 obtain⟨evs',o2,a1,a2,a3⟩:=qly pre rfl
 refine⟨fun hz=>?_,fun hz=>?_⟩
 ·obtain⟨rfl,b2,b3⟩:=a2 hz
  rw[hz]at a1
  have ca:vL N (ev++[qcO (ev.length+1) line]) 0 []=(0,0,qgf (vL N ev 0 []).2.2 (qcO (ev.length+1) line)):=by
   rw[qep,if_pos h.run,Nat.zero_add,qeZ,if_pos hz]
   rfl
  refine⟨o2,a1,hN,h.max,by rw[ca],by rw[ca];exact b2,by rw[ca,List.length_append];exact b3,fun e he=>?_⟩
  rcases List.mem_append.1 he with he|he
  ·exact h.chk e he
  ·rw[List.mem_singleton]at he
   subst he
   unfold qam at hz
   by_cases hc:zL (qcO (ev.length+1) line)=0
   ·exact hc
   ·rw[if_pos hc]at hz;exact absurd hz hc
 ·obtain⟨rfl,b2⟩:=a3 hz
  exact⟨o2,a1,h.same b2⟩
theorem qoO {N:Nat} {ev:List qb} {o:Option (List StateT)} (h:qb6 N ev o) (hl:ev.length<900) {line:Str} (hs:line.length≤1000):
 ∃ans err ev' o',qdx N ev line=some (ans,err,ev')∧zw N ev o line=some (ev',o',ans,err)∧qb6 N ev' o'∧ev'.length≤ev.length+1:=by
 have hN:=h.big
 unfold qdx
 by_cases h0:line=[]
 ·subst h0
  refine⟨[],25,ev,o,by simp,?_,h,by omega⟩
  unfold zw
  rw[xq,Option.bind_some,xq,Option.bind_some,xZ (by simp) (by simp;omega),Option.bind_some]
  simp[qQ]
 ·have hne:=qoI [] line
  rw[if_neg (by simp[h0]),qf4 (by omega) (by omega),Option.bind_some,y8]
  obtain⟨w0,r,hw⟩: ∃w0 r,spl [] line=w0::r:=by
   cases hq:spl [] line with
   |nil=>exact absurd hq hne
   |cons w0 r=>exact⟨w0,r,rfl⟩
  rw[hw,List.getElem?_cons_zero,Option.bind_some,qjJ,Option.bind_some]
  cases hf:(zn w0).2.2 with
  |false=>
   obtain⟨o',d,l,hr⟩:=h.reg (by omega)
   obtain⟨o2,e1,e2⟩:=qp6 hr hs h0 hw hf
   rw[if_pos (by simp),qoy hr hs,Option.bind_some]
   exact⟨_,_,ev,o2,rfl,e1,h.same e2,by omega⟩
  |true=>
   rw[if_neg (by simp),qi7 (by omega) hN,Option.bind_some,qlQ hN hs h0 hw,if_pos hf]
   have hw1:w64 ((ev.length:Int)+1)=((ev.length+1:Nat):Int):=qA (by omega)
   unfold zU
   rw[qgZ (by omega) hN,Option.bind_some,xq,Option.bind_some,xq,Option.bind_some,xZ (by simp) (by simp;omega),Option.bind_some,hw1]
   have h9: ¬((ev.length:Int)≥1000):=by omega
   cases ho:(yP line).2 with
   |false=>
    refine⟨[],25,ev,o,by simp,?_,h,by omega⟩
    simp[qQ]
   |true=>
    have e0:qQ [if(!true)=true then(25:Int)else 0,if decide ((ev.length:Int)≥1000)=true then(5:Int)else 0]=0:=by simp[qQ,h9]
    rw[if_neg (by simp),e0,if_neg (by simp)]
    have ea:=qkr (h.evs (by omega)) (e:=qcO (ev.length+1) line) (qcL hN (by omega) _) h.run (by omega)
    rw[show(⟨((ev.length+1:Nat):Int),(yP line).1.Kind,(yP line).1.Names,(yP line).1.Values,(yP line).1.Text⟩:qb)=qcO (ev.length+1) line from rfl,ea,Option.bind_some]
    obtain⟨s1,s2⟩:=h.step hl hs
    by_cases hz:qam N (vL N ev 0 []).2.2 ev.length (qcO (ev.length+1) line)=0
    ·obtain⟨o2,b1,b2⟩:=s1 hz
     have hi:qde ((ev.length+1:Nat):Int)=some (Lib.itoa ((ev.length+1:Nat):Int)):=by unfold qde;rw[if_pos (by omega)]
     have hlen:=qfO (x:=((ev.length+1:Nat):Int)) (by omega)
     have hj:qaU [[100,111,110,101],Lib.itoa ((ev.length+1:Nat):Int)]=qnm (ev.length+1):=rfl
     have hc:cat [100,111,110,101,32] (Lib.itoa ((ev.length+1:Nat):Int))=some (qnm (ev.length+1)):=qbm (by rw[List.length_append];simp only[List.length_cons,List.length_nil];omega)
     refine⟨qnm (ev.length+1),0,ev++[qcO (ev.length+1) line],o2,?_,?_,b2,by simp⟩
     ·rw[if_neg (by simp[hz]),qf8 (by omega) (by omega),Option.bind_some,hc,Option.bind_some,zu (by simp;omega) (by simp;omega),Option.bind_some,List.nil_append,zu (by simp;omega) (by simp;omega),Option.bind_some]
     ·rw[b1,Option.bind_some]
      simp only
      rw[if_neg (by simp),hi,Option.bind_some]
      unfold jV
      rw[qfL (m:=24) (by simp) (fun w hw=>by
       rw[List.mem_cons,List.mem_singleton]at hw
       rcases hw with rfl|rfl
       ·decide
       ·omega) (by omega),hj]
      rfl
    ·obtain⟨o2,b1,b2⟩:=s2 hz
     refine⟨[],qam N (vL N ev 0 []).2.2 ev.length (qcO (ev.length+1) line),ev,o2,?_,?_,b2,by omega⟩
     ·rw[if_pos (by simp[hz])]
     ·rw[b1,Option.bind_some]
      simp only
      rw[if_pos (by simp[hz])]
theorem qi6 {ev:List qb} (hl:ev.length≤1000) (hc: ∀e∈ev,zL e=0): ∀(K k:Nat) (acc:List qb),k≤ev.length→ev.length<K+k→acc.length≤k→qU ev K acc (k:Int)=some (acc++ev.drop k)
 |0,k,_,h,hK,_=>by omega
 |K+1,k,acc,h,hK,ha=>by
  unfold qU
  by_cases hk:k<ev.length
  ·obtain⟨_,_,h1,h2⟩:=qa6 (hc _ (List.getElem_mem hk))
   rw[if_pos (by omega),qx,List.getElem?_eq_getElem hk,Option.bind_some,show vI ev[k]=some true from rfl,Option.bind_some,if_pos rfl,qew (by omega) (by omega),Option.bind_some,zu (by simp;omega) (by simp;omega),Option.bind_some,Option.bind_some,qA (by omega),qi6 hl hc K (k+1) _ (by omega) (by omega) (by simp;omega),List.drop_eq_getElem_cons hk,List.append_assoc]
   rfl
  ·rw[if_neg (by omega),List.drop_of_length_le (by omega)]
   simp
theorem qmI {N:Nat} (hN:2000<N) {ev:List qb} (hl:ev.length≤1000) (hc: ∀e∈ev,zL e=0) (o:Option (List StateT)):jB N ev o=some ev:=by
 unfold jB yu
 have h:=qi6 hl hc N 0 [] (by omega) (by omega) (by simp)
 rw[List.drop_zero,List.nil_append]at h
 rw[show qU ev N [] 0=_ from h]
 rfl
theorem ql7 {N:Nat} (hN:2000<N) {ev:List qb} (hl:ev.length≤1000) (hc: ∀e∈ev,zL e=0): ∀(K k:Nat) (acc:List Str),k≤ev.length→ev.length<K+k→acc.length≤k→qO N ev K acc (k:Int)=some (acc++(ev.drop k).map qky)
 |0,k,_,h,hK,_=>by omega
 |K+1,k,acc,h,hK,ha=>by
  unfold qO
  by_cases hk:k<ev.length
  ·obtain⟨w1,w2,h1,h2⟩:=qa6 (hc _ (List.getElem_mem hk))
   rw[if_pos (by omega),qx,List.getElem?_eq_getElem hk,Option.bind_some,show yO ev[k]=some true from rfl,Option.bind_some,if_pos rfl,qo6 hN w1 (by omega),Option.bind_some,zu (by simp;omega) (by simp;omega),Option.bind_some,Option.bind_some,qA (by omega),ql7 hN hl hc K (k+1) _ (by omega) (by omega) (by simp;omega),List.drop_eq_getElem_cons hk,List.map_cons,List.append_assoc]
   rfl
  ·rw[if_neg (by omega),List.drop_of_length_le (by omega)]
   simp
theorem qni (e:qb):(qky e).length=(qaJ e).length+9:=by
 have:=qik (qaJ e)
 unfold qky
 simp;omega
theorem qms (e:qb) (l:List qb):qea (e::l)=qky e++qea l:=by simp[qea]
theorem qh9: ∀{l:List qb},(∀e∈l,zL e=0)→(qea l).length≤l.length*209
 |[],_=>by simp[qea]
 |e::l,h=>by
  have h1:=qh9 fun x hx=>h x (List.mem_cons_of_mem _ hx)
  have h2:=(qa6 (h e (List.mem_cons_self ..))).2.1
  have h3:=qni e
  rw[qms,List.length_append,List.length_cons]
  omega
theorem qmu: ∀(l:List Str),Lib.join l []=l.flatten
 |[]=>rfl
 |x::r=>by
  rw[Lib.join_cons]
  unfold Lib.joinTail
  simp
theorem qps {N:Nat} (hN:2000<N) {ev:List qb} (hl:ev.length≤1000) (hc: ∀e∈ev,zL e=0) (o:Option (List StateT)):j3 N ev o=some (qea ev):=by
 unfold j3 vV
 have h:=ql7 hN hl hc N 0 [] (by omega) (by omega) (by simp)
 rw[List.drop_zero,List.nil_append]at h
 have hL:=qh9 hc
 have e1:(ev.map qky).flatten=qea ev:=by simp[qea,List.flatMap]
 rw[show qO N ev N [] 0=_ from h,Option.bind_some,Option.bind_some]
 unfold qfe
 rw[qmu,e1,if_pos ⟨by simp;omega,by omega⟩]
 rfl
theorem qo4 {N:Nat} (hN:2000<N) {ev:List qb} (hl:ev.length≤1000) (hc: ∀e∈ev,zL e=0):qcf N ev=some (qea ev):=
 qpp hN hl (fun e he=>by have:=qa6 (hc e he);exact⟨this.1,by omega⟩) (by have:=qh9 hc;omega)
theorem qm8 {l:List Str} (hl:l.length≤8): ∀(K k:Nat) (ev:List qb) (o:Option (List StateT)),k≤l.length→l.length<K+k→qb6 3000 ev o→ev.length≤30+k→
 qK 3000 l K ev o ev (k:Int)=some (.inr true)∨ ∃ev' o',qK 3000 l K ev o ev (k:Int)=some (.inl (ev',o',ev'))∧qb6 3000 ev' o'∧ev'.length≤100
 |0,k,ev,o,h1,h2,_,_=>by omega
 |K+1,k,ev,o,h1,h2,hS,hE=>by
  unfold qK
  by_cases hk:k<l.length
  ·rw[if_pos (by omega),qx,List.getElem?_eq_getElem hk,Option.bind_some]
   by_cases hlen:(l[k]).length≤200
   ·obtain⟨ans,err,ev',o',e1,e2,e3,e4⟩:=qoO hS (by omega) (line:=l[k]) (by omega)
    rw[if_neg (by omega),e1,Option.bind_some,e2,Option.bind_some]
    simp only
    rw[if_neg (by simp),Option.bind_some,if_neg (by simp),qA (by omega)]
    exact qm8 hl K (k+1) ev' o' (by omega) (by omega) e3 (by omega)
   ·rw[if_pos (by omega)]
    exact .inl rfl
  ·rw[if_neg (by omega)]
   exact .inr ⟨ev,o,rfl,hS,by omega⟩
theorem qeH (log:Str) (l:List Str):yZ 3000 log l=some true:=by
 have hN:2000<3000:=by decide
 have hM:3000<4611686018427387904:=by decide
 unfold yZ
 by_cases a1:log.length≤1500
 ·by_cases a2:l.length≤8
  ·have b1: ¬((log.length:Int)>1500):=by omega
   have b2: ¬((l.length:Int)>8):=by omega
   rw[if_neg b1,Option.bind_some,if_neg (by simp[b2]),qkT hN hM (by omega),Option.bind_some]
   obtain⟨g1,g2⟩:=qjg log [] [] 0
   obtain⟨X,hX⟩: ∃X,X=qaw 3000 log:=⟨_,rfl⟩
   rw[←hX]
   unfold qaw at hX
   rw[qlG hN hM (by omega),Option.bind_some]at hX
   generalize scan log [] [] 0=r at g1 g2 hX⊢
   obtain⟨out,f,no⟩:=r
   have g2:=g2 (fun e he=>by cases he)
   simp only[List.length_nil]at g1 g2 hX⊢
   have eS:vZ 3000 out 30=some (decide (out.length≤30)&&out.all qgp):=qhJ (n:=30) hN (by omega)
   rw[eS,Option.bind_some]
   by_cases a3:(decide (out.length≤30)&&out.all qgp)=true
   ·rw[if_neg (by simp[a3])]
    simp only[Bool.and_eq_true,decide_eq_true_eq]at a3
    have hE:Evs 3000 out:=⟨by omega,fun e he=>qgQ hN (g2 e he),hN,hM⟩
    by_cases a4:no=0∨no=28
    ·have c1:(if(!decide (no=0))=true then some (!decide (no=28))else some false:Option Bool)=some false:=by
      rcases a4 with rfl|rfl<;>simp
     have c2:(if no=28 then some 0 else some no:Option Int)=some 0:=by
      rcases a4 with rfl|rfl<;>simp
     rw[c1,Option.bind_some,if_neg (by simp)]at hX
     rcases qf7 hE with⟨z1,z2,_⟩|⟨z1,o',z2,_,z4,z5⟩
     ·rcases qcz hE with⟨_,y2⟩|⟨y1,_⟩
      ·rw[z2,Option.bind_some]at hX
       simp only at hX
       rw[if_pos (by simp[z1])]at hX
       rw[hX,Option.bind_some]
       simp only
       rw[c2,Option.bind_some,if_pos rfl,y2,Option.bind_some,Option.bind_some,if_pos (by simp[z1])]
       simp[awk]
      ·exact absurd y1 z1
     ·rcases qcz hE with⟨y1,_⟩|⟨_,d,s,_,_,y2⟩
      ·exact absurd z1 y1
      ·rw[z2,Option.bind_some]at hX
       simp only at hX
       rw[if_neg (by simp),Option.bind_some]at hX
       rw[hX,Option.bind_some]
       simp only
       rw[c2,Option.bind_some,if_pos rfl,y2,Option.bind_some,Option.bind_some,if_neg (by simp),if_neg (by simp)]
       have hS:qb6 3000 out o':=⟨hN,hM,z1,z4,z5,g2⟩
       rcases qm8 a2 3000 0 out o' (by omega) (by omega) hS (by omega)with h|⟨ev',o2,h,hS2,hl2⟩
       ·rw[show qK 3000 l 3000 out o' out 0=_ from h]
        rfl
       ·rw[show qK 3000 l 3000 out o' out 0=_ from h,Option.bind_some]
        have hsame:yC 3000 ev' ev'=some true:=qiu ev' (by omega) hN hM (fun x hx=>by have:=qa6 (hS2.chk x hx);omega)
        simp only[yX,vE,yN,Option.bind_some,qmI hN (show ev'.length≤1000 by omega) hS2.chk,hsame,if_true,qps hN (show ev'.length≤1000 by omega) hS2.chk,qo4 hN (show ev'.length≤1000 by omega) hS2.chk,beq_self_eq_true,awk]
    ·have a4:no≠0∧no≠28:=by omega
     have c1:(if(!decide (no=0))=true then some (!decide (no=28))else some false:Option Bool)=some true:=by simp[a4.1,a4.2]
     rw[c1,Option.bind_some,if_pos rfl]at hX
     rw[hX,Option.bind_some]
     simp only
     rw[if_neg a4.2,Option.bind_some,if_neg a4.1,Option.bind_some,if_pos (by simp[a4.1])]
     simp[awk]
   ·rw[Bool.not_eq_true]at a3
    rw[a3,if_pos (by simp)]
    rfl
  ·have b1: ¬((log.length:Int)>1500):=by omega
   have b2:((l.length:Int)>8):=by omega
   rw[if_neg b1,Option.bind_some,if_pos (by simp[b2])]
   rfl
 ·have b1:((log.length:Int)>1500):=by omega
  rw[if_pos b1,Option.bind_some,if_pos rfl]
  rfl
end Go.Av
