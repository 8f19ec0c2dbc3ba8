/-
  Walks of functions: what each computes, as a plain function.
-/
import Derived.Test.YtmjcpcnaaolliaaGreatDoorQGenW2
noncomputable section
namespace Go.Av
open Go.Proofs Go.RowKit
set_option linter.unusedSectionVars false
set_option linter.unusedVariables false
set_option linter.unusedSimpArgs false
set_option maxRecDepth 100000
def yf (N:Nat):Nat->Int->(List Int)->Int->(List Int)->Option (Int×(List Int))
 |0,_,_,_,_=>none
 |K+1,e,f,b,c=>
  (qX (⟨b,c⟩:qd)).bind fun d=>
  if(!decide (d=0))=true then
  (zW N (⟨e,f⟩:qd) (⟨b,c⟩:qd)).bind fun a=>
  yf N K b c a.2.s a.2.w
  else
  some (e,f)
def qcp (N:Nat) (a:qd) (b:qd):Option qd:=
 (qaJ a).bind fun c=>
 (qaJ b).bind fun d=>
 (yf N N c.s c.w d.s d.w).bind fun(e,f)=>
 some (⟨e,f⟩:qd)
theorem qgY (N:Nat) (a:qd) (b:qd) {res:qd} (h:qcp N a b=some res):qb ZT (.fn 156) [.agg (nz1 a),.agg (nz1 b)] [] (.agg (nz1 res)) []:=by
 unfold qcp at h
 refine Ub Tryz.func156 rfl rfl (m:=23) rfl (rs:=[.cell 4 95]) rfl (l:=[(0,.agg (nz1 a)),(1,.agg (nz1 b))]) rfl ?_
 refine sg fol (kD []) [.cells (nz1 a),.cells (nz1 b),bZ] ?_
 obtain⟨p,q,h⟩:=bnd h
 obtain⟨t,r,h⟩:=bnd h
 refine sq (gq fol [1,3,4,5] (kD []) [.cells (nz1 p),.cells (nz1 t),bZ] (ac (cv (qd9 a q)) (ac (cv (qd9 b r)) (ac (hs (.run [0] (qm ZT 95 (.ptr 0 0) (.agg (nz1 p))) [.cells (nz1 a),.cells (nz1 b),bZ] .undef [.cells (nz1 p),.cells (nz1 b),bZ] true) (qJ (n:=2) (by kernel_rfl) rfl rfl rfl rfl (cac rfl (cac nvc can)) rfl)) (ac (hs (.run [1] (qm ZT 95 (.ptr 1 0) (.agg (nz1 t))) [.cells (nz1 p),.cells (nz1 b),bZ] .undef [.cells (nz1 p),.cells (nz1 t),bZ] true) (qJ (n:=2) (by kernel_rfl) rfl rfl rfl rfl (cac rfl (cac nvc can)) rfl)) az)))) ?_)
 refine sq (Goes.block ?_)
 obtain⟨w,g9,h⟩:=bnd h
 refine Goes.imp (Q:=fun x s'=>(x= .exit 0/\ ∃f g,(f,g)=w/\Sub s' (ofG 23 (kU (kAw [])),[.cells (ni1 f g),bZ]))) ?_ ?_
 ·refine Uc (fun M s=> ∃(i:Int) (j:List Int) (d:Int) (e:List Int),s=(ofG 23 (kD []),[.cells (ni1 i j),.cells (ni1 d e),bZ])/\yf N M i j d e=some w) ?_ (m:=N) ⟨_,_,_,_,rfl,g9⟩
  rintro M s ⟨i,j,d,e,rfl,g9⟩
  cases M with
  |zero=>simp only[yf]at g9;cases g9
  |succ M=>
   rw[yf]at g9
   refine sq ?_
   obtain⟨u,k,g9⟩:=bnd g9
   refine sq (gr fol [1] (kD (kA5 (!decide (u=0)))) (ac (cv (yo (⟨d,e⟩:qd) k)) az) ?_)
   refine ihB g9 (fun v g9=>?_) (fun v g9=>?_)
   ·refine Goes.skip ?_
    refine Goes.block ?_
    obtain⟨c,o,g9⟩:=bnd g9
    refine sq (gq fol [2,8,9] (kD [(6,.ptr 4 0)]) [.cells (ni1 i j),.cells (ni1 d e),bZ,.cells (nz1 c.1),.cells (nz1 c.2)] (ac (cv (qaY N (⟨i,j⟩:qd) (⟨d,e⟩:qd) o)) (ac (hs (.run [3] (qm ZT 95 (.ptr 3 0) (.agg (nz1 c.1))) [.cells (ni1 i j),.cells (ni1 d e),bZ,bZ,bZ] .undef [.cells (ni1 i j),.cells (ni1 d e),bZ,.cells (nz1 c.1),bZ] true) (qJ (n:=2) (by kernel_rfl) rfl rfl rfl rfl (cac rfl (cac nvc can)) rfl)) (ac (hs (.run [4] (qm ZT 95 (.ptr 4 0) (.agg (nz1 c.2))) [.cells (ni1 i j),.cells (ni1 d e),bZ,.cells (nz1 c.1),bZ] .undef [.cells (ni1 i j),.cells (ni1 d e),bZ,.cells (nz1 c.1),.cells (nz1 c.2)] true) (qJ (n:=2) (by kernel_rfl) rfl rfl rfl rfl (cac rfl (cac nvc can)) rfl)) az))) ?_)
    refine gq fol [2,3] (kD []) [.cells (ni1 d e),.cells (nz1 c.2),bZ,.cells (nz1 c.1),.cells (nz1 c.2)] (ac (hs (.run [0] (qm ZT 95 (.ptr 0 0) (.agg (ni1 d e))) [.cells (ni1 i j),.cells (ni1 d e),bZ,.cells (nz1 c.1),.cells (nz1 c.2)] .undef [.cells (ni1 d e),.cells (ni1 d e),bZ,.cells (nz1 c.1),.cells (nz1 c.2)] true) (qJ (n:=2) (by kernel_rfl) rfl rfl rfl rfl (cac rfl (cac nvc can)) rfl)) (ac (hs (.run [1] (qm ZT 95 (.ptr 1 0) (.agg (nz1 c.2))) [.cells (ni1 d e),.cells (ni1 d e),bZ,.cells (nz1 c.1),.cells (nz1 c.2)] .undef [.cells (ni1 d e),.cells (nz1 c.2),bZ,.cells (nz1 c.1),.cells (nz1 c.2)] true) (qJ (n:=2) (by kernel_rfl) rfl rfl rfl rfl (cac rfl (cac nvc can)) rfl)) az)) ?_
    exact⟨M,(ofG 23 (kD []),[.cells (ni1 d e),.cells (nz1 c.2),bZ]),Nat.lt_succ_self _,(Sub.norm [] [some 0,some 1,some 2] rfl rfl (.kp (.kp (.kp .nil))) (.kb rfl (.same sn) (.kb rfl (.same sn) (.kb rfl (.same sn) .nil)))),_,_,_,_,rfl,g9⟩
   refine Goes.exit ?_
   obtain rfl:=si g9
   exact⟨rfl,_,_,rfl,(Sub.norm [] [some 0,some 2] rfl rfl (.kp (.drop (.kp .nil))) (.kb rfl (.same sn) (.kb rfl (.same sn) .nil)))⟩
 rintro x s' ⟨rfl,f,g,rfl,hsub⟩
 try dsimp only at h
 refine Goes.sub hsub ?_
 refine sq (gq fol [1] (kAw []) [.cells (ni1 f g),.cells (ni1 f g)] (ac (hs (.run [1] (qm ZT 95 (.ptr 1 0) (.agg (ni1 f g))) [.cells (ni1 f g),bZ] .undef [.cells (ni1 f g),.cells (ni1 f g)] true) (qJ (n:=2) (by kernel_rfl) rfl rfl rfl rfl (cac rfl (cac nvc can)) rfl)) az) ?_)
 refine Goes.ret ?_
 obtain rfl:=si h
 exact(gw2 [.agg (ni1 f g)] (FzW.agg (qc.cons (Ua tI) (qc.cons (Ua (qo (qa .u64) _ (nl rfl))) qc.nil))))
def stringslite_CutPrefix (b:Str) (a:Str):Option (Str×Bool):=
 (stringslite_HasPrefix b a).bind fun c=>
 if(!c)=true then
 some (b,false)
 else
 (cut b (a.length:Int) (b.length:Int)).bind fun d=>
 some (d,true)
theorem qcy (b:Str) (a:Str) {res:Str×Bool} (h:stringslite_CutPrefix b a=some res):qb ZT (.fn 227) [.str b,.str a] [] (.tuple [.str res.1,.bool res.2]) []:=by
 unfold stringslite_CutPrefix at h
 refine Ub Tryz.func227 rfl rfl (m:=15) rfl (rs:=[.tmp 4,.tmp 5]) rfl (l:=(kQ b a [])) rfl ?_
 refine sh fol (kQ b a []) ?_
 refine sq ?_
 obtain⟨f,c,h⟩:=bnd h
 refine sq (gr fol [2] (kQ b a [(9,.bool (!f))]) (ac (cv (yD b a c)) az) ?_)
 refine ihB h (fun g h=>?_) (fun g h=>?_)
 ·refine sh fol [(4,.str b),(5,.bool false)] ?_
  refine Goes.ret ?_
  obtain rfl:=si h
  exact(gw2 [.str b,.bool false] (FzW.tuple (qc.cons (Ua tS) (qc.cons (Ua tB) qc.nil))))
 refine Goes.skip ?_
 obtain⟨e,d,h⟩:=bnd h
 refine sq (gr fol [3] [(4,.str e),(5,.bool true)] (ac (hs (.done (.opt (qU ZT 9 (.str b) (some (.i (a.length:Int))) none none)) (.str e)) (z8 st9 (some (a.length:Int)) none d)) az) ?_)
 refine Goes.ret ?_
 obtain rfl:=si h
 exact(gw2 [.str e,.bool true] (FzW.tuple (qc.cons (Ua tS) (qc.cons (Ua tB) qc.nil))))
def strings_CutPrefix (c:Str) (a:Str):Option (Str×Bool):=
 (stringslite_CutPrefix c a).bind fun b=>
 some (b.1,b.2)
theorem qdO (b:Str) (a:Str) {res:Str×Bool} (h:strings_CutPrefix b a=some res):qb ZT (.fn 164) [.str b,.str a] [] (.tuple [.str res.1,.bool res.2]) []:=by
 unfold strings_CutPrefix at h
 refine Ub Tryz.func164 rfl rfl (m:=11) rfl (rs:=[.tmp 4,.tmp 5]) rfl (l:=(kQ b a [])) rfl ?_
 refine sh fol (kQ b a []) ?_
 obtain⟨d,c,h⟩:=bnd h
 refine sq (gr fol [2] [(4,.str d.1),(5,.bool d.2)] (ac (cv (qcy b a c)) az) ?_)
 refine Goes.ret ?_
 obtain rfl:=si h
 exact(gw2 [.str d.1,.bool d.2] (FzW.tuple (qc.cons (Ua tS) (qc.cons (Ua tB) qc.nil))))
def stringslite_IndexByte (a:Str) (c:Int):Option Int:=
 (qi7 a c).bind fun b=>
 some b
theorem qcu (a:Str) (c:Int) {res:Int} (h:stringslite_IndexByte a c=some res):qb ZT (.fn 296) [.str a,.int .u8 c] [] (.i res) []:=by
 unfold stringslite_IndexByte at h
 refine Ub Tryz.func296 rfl rfl (m:=8) rfl (rs:=[.tmp 4]) rfl (l:=(kA1 a [(1,.int .u8 c)])) rfl ?_
 refine sh fol (kA1 a [(1,.int .u8 c)]) ?_
 obtain⟨d,b,h⟩:=bnd h
 refine sq (gr fol [2] [(4,.i d)] (ac (cv (qmj a c b)) az) ?_)
 refine Goes.ret ?_
 obtain rfl:=si h
 exact(gw2 [.i d] (Ua tI))
def stringslite_Index (a:Str) (substr:Str):Option Int:=
 (if(substr.length:Int)=0 then
 some true
 else
 some (substr==a):Option Bool).bind fun b=>
 if b=true then
 some 0
 else
 if(substr.length:Int)=1 then
 (idx substr 0).bind fun c=>
 (stringslite_IndexByte a (c.toNat:Int)).bind fun d=>
 some d
 else
 if(substr.length:Int)>=(a.length:Int)then
 some (-1)
 else
 none
theorem qed (b:Str) (substr:Str) {res:Int} (h:stringslite_Index b substr=some res):qb ZT (.fn 258) [.str b,.str substr] [] (.i res) []:=by
 unfold stringslite_Index at h
 refine Ub Tryz.func258 rfl rfl (m:=143) rfl (rs:=[.tmp 4]) rfl (l:=(kQ b substr [])) rfl ?_
 refine sh fol (kQ b substr []) ?_
 refine sh fol (kQ b substr (kAt (substr.length:Int))) ?_
 refine sq (Goes.block ?_)
 refine sq ?_
 obtain⟨j,a,h⟩:=bnd h
 refine Goes.cut (s':=(ofG 143 (kQ b substr [(5,.i (substr.length:Int)),(16,.bool j)]),[])) ?_ ?_
 ·rcases wyD a with⟨e,a⟩|⟨e,a⟩
  ·obtain rfl:=si a
   exact tr fol [2] (kQ b substr [(5,.i (substr.length:Int)),(16,.bool true)]) (ac (gw e) az)
  obtain rfl:=si a
  exact tr fol [2] (kQ b substr [(5,.i (substr.length:Int)),(16,.bool (substr==b))]) (ac (gw e) az)
 refine ihB h (fun k h=>?_) (fun k h=>?_)
 ·refine sh fol [(4,.i 0)] ?_
  refine Goes.ret ?_
  obtain rfl:=si h
  exact(gw2 [.i 0] (Ua tI))
 refine sh fol (kQ b substr [(5,.i (substr.length:Int)),(24,.bool (decide ((substr.length:Int)=1)))]) ?_
 refine ihD h (fun n h=>?_) (fun n h=>?_)
 ·obtain⟨f,c,h⟩:=bnd h
  obtain⟨g,d,h⟩:=bnd h
  refine sq (gr fol [2,3] [(4,.i g)] (ac (hs (.done (.opt (yl ZT 9 (.str substr) (.i 0))) (.int .u8 (f.toNat:Int))) (qar st9 c)) (ac (cv (qcu b (f.toNat:Int) d)) az)) ?_)
  refine Goes.ret ?_
  obtain rfl:=si h
  exact(gw2 [.i g] (Ua tI))
 refine sh fol (kQ b substr [(5,.i (substr.length:Int)),(31,.bool (decide ((substr.length:Int)>=(b.length:Int))))]) ?_
 refine ihD h (fun o h=>?_) (fun o h=>?_)
 ·refine sh fol [(4,.i (-1))] ?_
  refine Goes.ret ?_
  obtain rfl:=si h
  exact(gw2 [.i (-1)] (Ua tI))
 cases h
def stringslite_Cut (a:Str) (sep:Str):Option (Str×Str×Bool):=
 (stringslite_Index a sep).bind fun b=>
 if b>=0 then
 (cut a 0 b).bind fun c=>
 (cut a (w64 (b+(sep.length:Int))) (a.length:Int)).bind fun d=>
 some (c,d,true)
 else
 some (a,[],false)
theorem qeL (a:Str) (sep:Str) {res:Str×Str×Bool} (h:stringslite_Cut a sep=some res):qb ZT (.fn 228) [.str a,.str sep] [] (.tuple [.str res.1,.str res.2.1,.bool res.2.2]) []:=by
 unfold stringslite_Cut at h
 refine Ub Tryz.func228 rfl rfl (m:=23) rfl (rs:=[.tmp 4,.tmp 5,.tmp 6]) rfl (l:=(kQ a sep [])) rfl ?_
 refine sh fol (kQ a sep []) ?_
 refine sq ?_
 obtain⟨b,c,h⟩:=bnd h
 refine sq (gr fol [2] (kQ a sep [(7,.i b)]) (ac (cv (qed a sep c)) az) ?_)
 refine sh fol (kQ a sep ((7,.i b)::(kA2 (decide (b>=0))))) ?_
 refine ihD h (fun j h=>?_) (fun j h=>?_)
 ·obtain⟨f,d,h⟩:=bnd h
  obtain⟨g,e,h⟩:=bnd h
  refine sq (gr fol [2,8] [(4,.str f),(5,.str g),(6,.bool true)] (ac (hs (.done (.opt (qU ZT 9 (.str a) none (some (.i b)) none)) (.str f)) (z8 st9 none (some b) d)) (ac (hs (.done (.opt (qU ZT 9 (.str a) (some (.i (w64 (b+(sep.length:Int))))) none none)) (.str g)) (z8 st9 (some (w64 (b+(sep.length:Int)))) none e)) az)) ?_)
  refine Goes.ret ?_
  obtain rfl:=si h
  exact(gw2 [.str f,.str g,.bool true] (FzW.tuple (qc.cons (Ua tS) (qc.cons (Ua tS) (qc.cons (Ua tB) qc.nil)))))
 refine Goes.skip ?_
 refine sh fol [(4,.str a),(5,.str []),(6,.bool false)] ?_
 refine Goes.ret ?_
 obtain rfl:=si h
 exact(gw2 [.str a,.str [],.bool false] (FzW.tuple (qc.cons (Ua tS) (qc.cons (Ua tS) (qc.cons (Ua tB) qc.nil)))))
def strings_Cut (b:Str) (sep:Str):Option (Str×Str×Bool):=
 (stringslite_Cut b sep).bind fun a=>
 some (a.1,a.2.1,a.2.2)
theorem qd5 (b:Str) (sep:Str) {res:Str×Str×Bool} (h:strings_Cut b sep=some res):qb ZT (.fn 165) [.str b,.str sep] [] (.tuple [.str res.1,.str res.2.1,.bool res.2.2]) []:=by
 unfold strings_Cut at h
 refine Ub Tryz.func165 rfl rfl (m:=13) rfl (rs:=[.tmp 4,.tmp 5,.tmp 6]) rfl (l:=(kQ b sep [])) rfl ?_
 refine sh fol (kQ b sep []) ?_
 obtain⟨a,c,h⟩:=bnd h
 refine sq (gr fol [2] ((4,.str a.1)::(kAh a.2.1 a.2.2 [])) (ac (cv (qeL b sep c)) az) ?_)
 refine Goes.ret ?_
 obtain rfl:=si h
 exact(gw2 [.str a.1,.str a.2.1,.bool a.2.2] (FzW.tuple (qc.cons (Ua tS) (qc.cons (Ua tS) (qc.cons (Ua tB) qc.nil)))))
def jG (a:Str):Option Bool:=
 (if(!(a==[]))=true then
 (qkp a [48,49,50,51,52,53,54,55,56,57]).bind fun b=>
 if(b==[])=true then
 (idx a 0).bind fun c=>
 if(!decide ((c.toNat:Int)=48))=true then
 some true
 else
 some (a==[48])
 else
 some false
 else
 some false:Option Bool).bind fun d=>
 some d
theorem jr (c:Str) {res:Bool} (h:jG c=some res):qb ZT (.fn 166) [.str c] [] (.bool res) []:=by
 unfold jG at h
 refine Ub Tryz.func166 rfl rfl (m:=19) rfl (rs:=[.tmp 2]) rfl (l:=(kAS c)) rfl ?_
 refine sh fol (kAS c) ?_
 refine sq ?_
 obtain⟨j,a,h⟩:=bnd h
 refine Goes.cut (s':=(ofG 19 [(2,.bool j)],[])) ?_ ?_
 ·rcases wyB a with⟨e,a⟩|⟨e,a⟩
  ·obtain⟨n,b,a⟩:=bnd a
   rcases wyB a with⟨f,a⟩|⟨f,a⟩
   ·obtain⟨k,d,a⟩:=bnd a
    rcases wyB a with⟨g,a⟩|⟨g,a⟩
    ·obtain rfl:=si a
     exact tr fol [2,4,7,9,11] [(2,.bool true)] (ac (gw e) (ac (cv (qht c [48,49,50,51,52,53,54,55,56,57] b)) (ac (gw f) (ac (hs (.done (.opt (yl ZT 9 (.str c) (.i 0))) (.int .u8 (k.toNat:Int))) (qar st9 d)) (ac (gw g) az)))))
    obtain rfl:=si a
    exact tr fol [2,4,7,9,11] [(2,.bool (c==[48]))] (ac (gw e) (ac (cv (qht c [48,49,50,51,52,53,54,55,56,57] b)) (ac (gw f) (ac (hs (.done (.opt (yl ZT 9 (.str c) (.i 0))) (.int .u8 (k.toNat:Int))) (qar st9 d)) (ac (gw g) az)))))
   obtain rfl:=si a
   exact tr fol [2,4,7] [(2,.bool false)] (ac (gw e) (ac (cv (qht c [48,49,50,51,52,53,54,55,56,57] b)) (ac (gw f) az)))
  obtain rfl:=si a
  exact tr fol [2] [(2,.bool false)] (ac (gw e) az)
 refine Goes.ret ?_
 obtain rfl:=si h
 exact(gw2 [.bool j] (Ua tB))
def qaK (N:Nat) (a:qd) (b:qd):Option Int:=
 (if a.w.isEmpty=true then
 some b.w.isEmpty
 else
 some false:Option Bool).bind fun c=>
 if c=true then
 if a.s<b.s then
 some (-1)
 else
 if a.s>b.s then
 some 1
 else
 some 0
 else
 (yV N a b).bind fun d=>
 (qX d).bind fun e=>
 some e
theorem qdF (N:Nat) (a:qd) (b:qd) {res:Int} (h:qaK N a b=some res):qb ZT (.fn 167) [.agg (nz1 a),.agg (nz1 b)] [] (.i res) []:=by
 unfold qaK at h
 refine Ub Tryz.func167 rfl rfl (m:=29) rfl (rs:=[.tmp 4]) rfl (l:=[(0,.agg (nz1 a)),(1,.agg (nz1 b))]) rfl ?_
 refine sg fol (kU (kAa [])) [.cells (nz1 a),.cells (nz1 b)] ?_
 refine sq ?_
 refine sq ?_
 obtain⟨j,c,h⟩:=bnd h
 refine Goes.cut (s':=(ofG 29 (kU (kAa (kA2 j))),[.cells (nz1 a),.cells (nz1 b)])) ?_ ?_
 ·rcases wyB c with⟨f,c⟩|⟨f,c⟩
  ·obtain rfl:=si c
   exact tr fol [2,3,6] (kU (kAa (kA2 b.w.isEmpty))) (ac (hs (.done (.opt (kg ZT .eql 93 (.tmp 6) (.const (.slice none 0 0)) (nvl (qa .u64) a.w) .nilslice)) (.bool a.w.isEmpty)) (qav qap)) (ac (gw f) (ac (hs (.done (.opt (kg ZT .eql 93 (.tmp 10) (.const (.slice none 0 0)) (nvl (qa .u64) b.w) .nilslice)) (.bool b.w.isEmpty)) (qav qap)) az)))
  obtain rfl:=si c
  exact tr fol [2,3] (kU (kAa [(12,.bool false)])) (ac (hs (.done (.opt (kg ZT .eql 93 (.tmp 6) (.const (.slice none 0 0)) (nvl (qa .u64) a.w) .nilslice)) (.bool a.w.isEmpty)) (qav qap)) (ac (gw f) az))
 refine ihB h (fun k h=>?_) (fun k h=>?_)
 ·refine sq (Goes.block ?_)
  refine sh fol (kU (kAa (kA5 (decide (a.s<b.s))))) ?_
  refine ihD h (fun n h=>?_) (fun n h=>?_)
  ·refine sh fol [(4,.i (-1))] ?_
   refine Goes.ret ?_
   obtain rfl:=si h
   exact(gw2 [.i (-1)] (Ua tI))
  refine sh fol [(19,.bool (decide (a.s>b.s)))] ?_
  refine ihD h (fun o h=>?_) (fun o h=>?_)
  ·refine sh fol [(4,.i 1)] ?_
   refine Goes.ret ?_
   obtain rfl:=si h
   exact(gw2 [.i 1] (Ua tI))
  refine Goes.skip ?_
  refine sh fol [(4,.i 0)] ?_
  refine Goes.ret ?_
  obtain rfl:=si h
  exact(gw2 [.i 0] (Ua tI))
 refine Goes.skip ?_
 obtain⟨p,d,h⟩:=bnd h
 obtain⟨g,e,h⟩:=bnd h
 refine sq (gr fol [2,3] [(4,.i g)] (ac (cv (qd1 N a b d)) (ac (cv (yo p e)) az)) ?_)
 refine Goes.ret ?_
 obtain rfl:=si h
 exact(gw2 [.i g] (Ua tI))
def qaU (N:Nat) (a:Str):Option Int:=
 (strings_CutPrefix a [45]).bind fun r=>
 (strings_Cut r.1 [47]).bind fun b=>
 ((jG b.1).bind fun t=>
 if t=true then
 if(!r.2)=true then
 some true
 else
 some (!(b.1==[48]))
 else
 some false:Option Bool).bind fun s=>
 ((if b.2.2=true then
 (if s=true then
 (jG b.2.1).bind fun g=>
 if g=true then
 if(!(b.2.1==[48]))=true then
 some (!(b.2.1==[49]))
 else
 some false
 else
 some false
 else
 some false:Option Bool).bind fun h=>
 some h
 else
 some s:Option Bool)).bind fun u=>
 ((qW (!u) 1).bind fun c=>
 if(b.1.length:Int)>600 then
 (qW true 4).bind fun d=>
 (jL N ([c,d]:List Int)).bind fun i=>
 some (c,d,i)
 else
 (qW (decide ((b.2.1.length:Int)>600)) 4).bind fun e=>
 (jL N ([c,e]:List Int)).bind fun j=>
 some (c,e,j):Option (Int×Int×Int)).bind fun(v,w,f)=>
 if(!decide (f=0))=true then
 some f
 else
 (if b.2.2=true then
 (qa1 N b.1).bind fun k=>
 (qa1 N b.2.1).bind fun l=>
 (qcp N k l).bind fun m=>
 (qb4 1).bind fun n=>
 (qaK N m n).bind fun o=>
 some (!decide (o=0))
 else
 some false:Option Bool).bind fun p=>
 (qW p 1).bind fun q=>
 some q
theorem qdv (N:Nat) (a:Str) {res:Int} (h:qaU N a=some res):qb ZT (.fn 80) [.str a] [] (.i res) []:=by
 unfold qaU at h
 refine Ub Tryz.func80 rfl rfl (m:=76) rfl (rs:=[.tmp 2]) rfl (l:=(kAS a)) rfl ?_
 refine sh fol (kAS a) ?_
 obtain⟨V,H,h⟩:=bnd h
 refine sq (gr fol [1] ((3,.str V.1)::(kA0 V.2)) (ac (cv (qdO a [45] H)) az) ?_)
 obtain⟨e,I,h⟩:=bnd h
 refine sq (gr fol [1] ((4,.bool V.2)::(kZ e.1 e.2.1 e.2.2 [])) (ac (cv (qd5 V.1 [47] I)) az) ?_)
 refine sq ?_
 obtain⟨b6,f,h⟩:=bnd h
 refine Goes.cut (s':=(ofG 76 (kZ e.1 e.2.1 e.2.2 [(8,.bool b6)]),[])) ?_ ?_
 ·obtain⟨r3,k,f⟩:=bnd f
  rcases wyB f with⟨X,f⟩|⟨X,f⟩
  ·rcases wyB f with⟨Y,f⟩|⟨Y,f⟩
   ·obtain rfl:=si f
    exact tr fol [1,2,5] (kZ e.1 e.2.1 e.2.2 [(8,.bool true)]) (ac (cv (jr e.1 k)) (ac (gw X) (ac (gw Y) az)))
   obtain rfl:=si f
   exact tr fol [1,2,5] (kZ e.1 e.2.1 e.2.2 [(8,.bool (!(e.1==[48])))]) (ac (cv (jr e.1 k)) (ac (gw X) (ac (gw Y) az)))
  obtain rfl:=si f
  exact tr fol [1,2] (kZ e.1 e.2.1 e.2.2 [(8,.bool false)]) (ac (cv (jr e.1 k)) (ac (gw X) az))
 refine sq ?_
 refine sh fol (kZ e.1 e.2.1 e.2.2 [(8,.bool b6),(32,.bool e.2.2)]) ?_
 obtain⟨r9,g9,h⟩:=bnd h
 refine Goes.imp (Q:=fun x s'=>(x= .normal/\ ∃J,J=r9/\Sub s' (ofG 76 (kZ e.1 e.2.1 e.2.2 [(8,.bool J)]),[]))) ?_ ?_
 ·refine ihB g9 (fun Z g9=>?_) (fun Z g9=>?_)
  ·obtain⟨a0,c,g9⟩:=bnd g9
   refine Goes.cut (s':=(ofG 76 (kZ e.1 e.2.1 e.2.2 [(8,.bool a0)]),[])) ?_ ?_
   ·rcases wyB c with⟨n,c⟩|⟨n,c⟩
    ·obtain⟨r12,j,c⟩:=bnd c
     rcases wyB c with⟨q,c⟩|⟨q,c⟩
     ·rcases wyB c with⟨t,c⟩|⟨t,c⟩
      ·obtain rfl:=si c
       exact tr fol [1,3,5,9] (kZ e.1 e.2.1 e.2.2 [(8,.bool (!(e.2.1==[49])))]) (ac (gw n) (ac (cv (jr e.2.1 j)) (ac (gw q) (ac (gw t) az))))
      obtain rfl:=si c
      exact tr fol [1,3,5,9] (kZ e.1 e.2.1 e.2.2 [(8,.bool false)]) (ac (gw n) (ac (cv (jr e.2.1 j)) (ac (gw q) (ac (gw t) az))))
     obtain rfl:=si c
     exact tr fol [1,3,5] (kZ e.1 e.2.1 e.2.2 [(8,.bool false)]) (ac (gw n) (ac (cv (jr e.2.1 j)) (ac (gw q) az)))
    obtain rfl:=si c
    exact tr fol [1] (kZ e.1 e.2.1 e.2.2 [(8,.bool false)]) (ac (gw n) az)
   obtain rfl:=si g9
   exact⟨rfl,_,rfl,(Sub.refl _)⟩
  refine Goes.skip ?_
  obtain rfl:=si g9
  exact⟨rfl,_,rfl,(Sub.keep [5,6,7,8] rfl rfl)⟩
 rintro x s' ⟨rfl,J,rfl,hsub⟩
 refine Goes.sub hsub ?_
 refine sq ?_
 refine sq ?_
 obtain⟨⟨K,L,o⟩,b,h⟩:=bnd h
 refine Goes.cut (s':=(ofG 76 (kZ e.1 e.2.1 e.2.2 [(9,.i o)]),(kAf K L []))) ?_ ?_
 ·obtain⟨g,p,b⟩:=bnd b
  rcases wyD b with⟨u,b⟩|⟨u,b⟩
  ·obtain⟨r,v,b⟩:=bnd b
   obtain⟨M,w,b⟩:=bnd b
   simp only[ZI,ZP]at b
   obtain⟨rfl,rfl,rfl⟩:=b
   exact xB.rq fol [2,6,11,13] (kZ e.1 e.2.1 e.2.2 [(9,.i M)]) (kAf g r []) (ac (cv (yj (!J) 1 p)) (ac (gw u) (ac (cv (yj true 4 v)) (ac (hs (.call 79 [.slice 0 0 2 2 1] (kAf g r []) [0] [vl encI ([g,r]:List Int)] (.i M)) (qfS (FzL.cons (Fz.lit rfl rfl (Uf (AllST.cons tI (AllST.cons tI AllST.nil)))) FzL.nil) (qaA N ([g,r]:List Int) w) tI rfl)) az))))
  obtain⟨s,y,b⟩:=bnd b
  obtain⟨O,z,b⟩:=bnd b
  simp only[ZI,ZP]at b
  obtain⟨rfl,rfl,rfl⟩:=b
  exact xB.rq fol [2,6,11,13] (kZ e.1 e.2.1 e.2.2 [(9,.i O)]) (kAf g s []) (ac (cv (yj (!J) 1 p)) (ac (gw u) (ac (cv (yj (decide ((e.2.1.length:Int)>600)) 4 y)) (ac (hs (.call 79 [.slice 0 0 2 2 1] (kAf g s []) [0] [vl encI ([g,s]:List Int)] (.i O)) (qfS (FzL.cons (Fz.lit rfl rfl (Uf (AllST.cons tI (AllST.cons tI AllST.nil)))) FzL.nil) (qaA N ([g,s]:List Int) z) tI rfl)) az))))
 try dsimp only at h
 refine sh fol (kZ e.1 e.2.1 e.2.2 [(9,.i o),(61,.bool (!decide (o=0)))]) ?_
 refine ihB h (fun a1 h=>?_) (fun a1 h=>?_)
 ·refine sh fol [(2,.i o)] ?_
  refine Goes.ret ?_
  obtain rfl:=si h
  exact(gw2 [.i o] (Ua tI))
 refine Goes.skip ?_
 refine sq ?_
 obtain⟨P,d,h⟩:=bnd h
 refine Goes.cut (s':=(ofG 76 [(10,.bool P)],(kAf K L []))) ?_ ?_
 ·rcases wyB d with⟨A,d⟩|⟨A,d⟩
  ·obtain⟨a2,B,d⟩:=bnd d
   obtain⟨a3,C,d⟩:=bnd d
   obtain⟨a4,D,d⟩:=bnd d
   obtain⟨a5,E,d⟩:=bnd d
   obtain⟨a6,F,d⟩:=bnd d
   obtain rfl:=si d
   exact tr fol [1,3,5,6,7,8] [(10,.bool (!decide (a6=0)))] (ac (gw A) (ac (cv (qbz N e.1 B)) (ac (cv (qbz N e.2.1 C)) (ac (cv (qgY N a2 a3 D)) (ac (cv (qbe 1 E)) (ac (cv (qdF N a4 a5 F)) az))))))
  obtain rfl:=si d
  exact tr fol [1] [(10,.bool false)] (ac (gw A) az)
 obtain⟨U,G,h⟩:=bnd h
 refine sq (gr fol [1] [(2,.i U)] (ac (cv (yj P 1 G)) az) ?_)
 refine Goes.ret ?_
 obtain rfl:=si h
 exact(gw2 [.i U] (Ua tI))
def qaM (n:qd):Option qj:=
 (qb4 1).bind fun a=>
 some (⟨n,a⟩:qj)
theorem qbN (n:qd) {res:qj} (h:qaM n=some res):qb ZT (.fn 120) [.agg (nz1 n)] [] (.agg (nq1 res)) []:=by
 unfold qaM at h
 refine Ub Tryz.func120 rfl rfl (m:=6) rfl (rs:=[.cell 2 100]) rfl (l:=[(0,.agg (nz1 n))]) rfl ?_
 refine sg fol (kAL []) (.cells (nz1 n)::(kF [])) ?_
 obtain⟨a,b,h⟩:=bnd h
 refine sq (gq fol [1,3] kAy [.cells (nz1 n),.cells (ni2 n.s n.w a.s a.w)] (ac (cv (qbe 1 b)) (ac (hs (.run [1] (qm ZT 100 (.ptr 1 0) (.agg (ni2 n.s n.w a.s a.w))) (.cells (nz1 n)::(kF [])) .undef [.cells (nz1 n),.cells (ni2 n.s n.w a.s a.w)] true) (qJ (n:=4) (by kernel_rfl) rfl rfl rfl rfl (cac rfl (cac nvc (cac rfl (cac nvc can)))) rfl)) az)) ?_)
 refine Goes.ret ?_
 obtain rfl:=si h
 exact(gw2 [.agg (ni2 n.s n.w a.s a.w)] (FzW.agg (qc.cons (Ua tI) (qc.cons (Ua (qo (qa .u64) _ (nl rfl))) (qc.cons (Ua tI) (qc.cons (Ua (qo (qa .u64) _ (nl rfl))) qc.nil))))))
def qfs (n:Int):Option qj:=
 (qb4 n).bind fun a=>
 (qaM a).bind fun b=>
 some b
theorem qdS (n:Int) {res:qj} (h:qfs n=some res):qb ZT (.fn 82) [.i n] [] (.agg (nq1 res)) []:=by
 unfold qfs at h
 refine Ub Tryz.func82 rfl rfl (m:=6) rfl (rs:=[.cell 2 100]) rfl (l:=[(0,.i n)]) rfl ?_
 refine sg fol ((0,.i n)::(kU [])) (kF []) ?_
 obtain⟨d,a,h⟩:=bnd h
 obtain⟨c,b,h⟩:=bnd h
 refine sq (gq fol [1,2,3] (kU []) [.cells (nq1 c)] (ac (cv (qbe n a)) (ac (cv (qbN d b)) (ac (hs (.run [0] (qm ZT 100 (.ptr 0 0) (.agg (nq1 c))) (kF []) .undef [.cells (nq1 c)] true) (qJ (n:=4) (by kernel_rfl) rfl rfl rfl rfl (cac rfl (cac nvc (cac rfl (cac nvc can)))) rfl)) az))) ?_)
 refine Goes.ret ?_
 obtain rfl:=si h
 exact(gw2 [.agg (nq1 c)] (FzW.agg (qc.cons (Ua tI) (qc.cons (Ua (qo (qa .u64) _ (nl rfl))) (qc.cons (Ua tI) (qc.cons (Ua (qo (qa .u64) _ (nl rfl))) qc.nil))))))
def qb7 (N:Nat) (a:Str):Option qj:=
 (strings_Cut a [47]).bind fun b=>
 if(!b.2.2)=true then
 (qa1 N b.1).bind fun c=>
 (qaM c).bind fun d=>
 some d
 else
 (qa1 N b.1).bind fun e=>
 (qa1 N b.2.1).bind fun f=>
 some (⟨e,f⟩:qj)
theorem qec (N:Nat) (a:Str) {res:qj} (h:qb7 N a=some res):qb ZT (.fn 83) [.str a] [] (.agg (nq1 res)) []:=by
 unfold qb7 at h
 refine Ub Tryz.func83 rfl rfl (m:=22) rfl (rs:=[.cell 2 100]) rfl (l:=(kAS a)) rfl ?_
 refine sg fol (kA1 a (kU [])) (kF []) ?_
 obtain⟨b,e,h⟩:=bnd h
 refine sq (gr fol [1] (kU [(3,.str b.1),(4,.str b.2.1),(5,.bool b.2.2)]) (ac (cv (qd5 a [47] e)) az) ?_)
 refine sq ?_
 refine sh fol (kU ((3,.str b.1)::(4,.str b.2.1)::(kA5 (!b.2.2)))) ?_
 refine ihB h (fun o h=>?_) (fun o h=>?_)
 ·obtain⟨p,f,h⟩:=bnd h
  obtain⟨k,g,h⟩:=bnd h
  refine sq (gq fol [1,2,3] (kU []) [.cells (nq1 k)] (ac (cv (qbz N b.1 f)) (ac (cv (qbN p g)) (ac (hs (.run [0] (qm ZT 100 (.ptr 0 0) (.agg (nq1 k))) (kF []) .undef [.cells (nq1 k)] true) (qJ (n:=4) (by kernel_rfl) rfl rfl rfl rfl (cac rfl (cac nvc (cac rfl (cac nvc can)))) rfl)) az))) ?_)
  refine Goes.ret ?_
  obtain rfl:=si h
  exact(gw2 [.agg (nq1 k)] (FzW.agg (qc.cons (Ua tI) (qc.cons (Ua (qo (qa .u64) _ (nl rfl))) (qc.cons (Ua tI) (qc.cons (Ua (qo (qa .u64) _ (nl rfl))) qc.nil))))))
 refine Goes.skip ?_
 obtain⟨c,i,h⟩:=bnd h
 obtain⟨d,j,h⟩:=bnd h
 refine sq (gq fol [1,3,5] (kU []) [.cells (ni2 c.s c.w d.s d.w)] (ac (cv (qbz N b.1 i)) (ac (cv (qbz N b.2.1 j)) (ac (hs (.run [0] (qm ZT 100 (.ptr 0 0) (.agg (ni2 c.s c.w d.s d.w))) (kF []) .undef [.cells (ni2 c.s c.w d.s d.w)] true) (qJ (n:=4) (by kernel_rfl) rfl rfl rfl rfl (cac rfl (cac nvc (cac rfl (cac nvc can)))) rfl)) az))) ?_)
 refine Goes.ret ?_
 obtain rfl:=si h
 exact(gw2 [.agg (ni2 c.s c.w d.s d.w)] (FzW.agg (qc.cons (Ua tI) (qc.cons (Ua (qo (qa .u64) _ (nl rfl))) (qc.cons (Ua tI) (qc.cons (Ua (qo (qa .u64) _ (nl rfl))) qc.nil))))))
def qac (N:Nat) (a:qj):Option qd:=
 (zW N a.Num a.Den).bind fun b=>
 some b.1
theorem qeY (N:Nat) (a:qj) {res:qd} (h:qac N a=some res):qb ZT (.fn 121) [.agg (nq1 a)] [] (.agg (nz1 res)) []:=by
 unfold qac at h
 refine Ub Tryz.func121 rfl rfl (m:=14) rfl (rs:=[.cell 2 95]) rfl (l:=[(0,.agg (nq1 a))]) rfl ?_
 refine sg fol (kAL []) [.cells (nq1 a),bZ] ?_
 obtain⟨b,c,h⟩:=bnd h
 refine sq (gq fol [4,10,11] [(2,.ptr 1 0),(3,.ptr 2 0)] [.cells (nq1 a),bZ,.cells (nz1 b.1),.cells (nz1 b.2)] (ac (cv (qaY N a.Num a.Den c)) (ac (hs (.run [2] (qm ZT 95 (.ptr 2 0) (.agg (nz1 b.1))) [.cells (nq1 a),bZ,bZ,bZ] .undef [.cells (nq1 a),bZ,.cells (nz1 b.1),bZ] true) (qJ (n:=2) (by kernel_rfl) rfl rfl rfl rfl (cac rfl (cac nvc can)) rfl)) (ac (hs (.run [3] (qm ZT 95 (.ptr 3 0) (.agg (nz1 b.2))) [.cells (nq1 a),bZ,.cells (nz1 b.1),bZ] .undef [.cells (nq1 a),bZ,.cells (nz1 b.1),.cells (nz1 b.2)] true) (qJ (n:=2) (by kernel_rfl) rfl rfl rfl rfl (cac rfl (cac nvc can)) rfl)) az))) ?_)
 refine sq (gq fol [1] kAy [.cells (nq1 a),.cells (nz1 b.1),.cells (nz1 b.1),.cells (nz1 b.2)] (ac (hs (.run [1] (qm ZT 95 (.ptr 1 0) (.agg (nz1 b.1))) [.cells (nq1 a),bZ,.cells (nz1 b.1),.cells (nz1 b.2)] .undef [.cells (nq1 a),.cells (nz1 b.1),.cells (nz1 b.1),.cells (nz1 b.2)] true) (qJ (n:=2) (by kernel_rfl) rfl rfl rfl rfl (cac rfl (cac nvc can)) rfl)) az) ?_)
 refine Goes.ret ?_
 obtain rfl:=si h
 exact(gw2 [.agg (nz1 b.1)] (FzW.agg (qc.cons (Ua tI) (qc.cons (Ua (qo (qa .u64) _ (nl rfl))) qc.nil))))
def xm (N:Nat) (a:qj):Option qj:=
 (qac N a).bind fun b=>
 (qaM b).bind fun c=>
 some c
theorem qdu (N:Nat) (a:qj) {res:qj} (h:xm N a=some res):qb ZT (.fn 84) [.agg (nq1 a)] [] (.agg (nq1 res)) []:=by
 unfold xm at h
 refine Ub Tryz.func84 rfl rfl (m:=6) rfl (rs:=[.cell 2 100]) rfl (l:=[(0,.agg (nq1 a))]) rfl ?_
 refine sg fol (kAL []) (.cells (nq1 a)::(kF [])) ?_
 obtain⟨e,b,h⟩:=bnd h
 obtain⟨d,c,h⟩:=bnd h
 refine sq (gq fol [1,2,3] kAy [.cells (nq1 a),.cells (nq1 d)] (ac (cv (qeY N a b)) (ac (cv (qbN e c)) (ac (hs (.run [1] (qm ZT 100 (.ptr 1 0) (.agg (nq1 d))) (.cells (nq1 a)::(kF [])) .undef [.cells (nq1 a),.cells (nq1 d)] true) (qJ (n:=4) (by kernel_rfl) rfl rfl rfl rfl (cac rfl (cac nvc (cac rfl (cac nvc can)))) rfl)) az))) ?_)
 refine Goes.ret ?_
 obtain rfl:=si h
 exact(gw2 [.agg (nq1 d)] (FzW.agg (qc.cons (Ua tI) (qc.cons (Ua (qo (qa .u64) _ (nl rfl))) (qc.cons (Ua tI) (qc.cons (Ua (qo (qa .u64) _ (nl rfl))) qc.nil))))))
def vN (N:Nat) (a:qd) (b:qd):Option qd:=
 (qX b).bind fun f=>
 ((if f<0 then
 (zy a).bind fun d=>
 (zy b).bind fun e=>
 some (d.s,d.w,e.s,e.w)
 else
 some (a.s,a.w,b.s,b.w):Option (Int×(List Int)×Int×(List Int)))).bind fun(g,h,i,j)=>
 (zW N (⟨g,h⟩:qd) (⟨i,j⟩:qd)).bind fun c=>
 some c.1
theorem qeb (N:Nat) (a:qd) (b:qd) {res:qd} (h:vN N a b=some res):qb ZT (.fn 157) [.agg (nz1 a),.agg (nz1 b)] [] (.agg (nz1 res)) []:=by
 unfold vN at h
 refine Ub Tryz.func157 rfl rfl (m:=21) rfl (rs:=[.cell 4 95]) rfl (l:=[(0,.agg (nz1 a)),(1,.agg (nz1 b))]) rfl ?_
 refine sg fol (kD []) [.cells (nz1 a),.cells (nz1 b),bZ] ?_
 refine sq ?_
 obtain⟨r,j,h⟩:=bnd h
 refine sq (gr fol [1] (kD [(9,.bool (decide (r<0)))]) (ac (cv (yo b j)) az) ?_)
 obtain⟨s,g6,h⟩:=bnd h
 refine Goes.imp (Q:=fun x s'=>(x= .normal/\ ∃d e f g,(d,e,f,g)=s/\Sub s' (ofG 21 (kD []),[.cells (ni1 d e),.cells (ni1 f g),bZ]))) ?_ ?_
 ·refine ihD g6 (fun t g6=>?_) (fun t g6=>?_)
  ·obtain⟨k,o,g6⟩:=bnd g6
   obtain⟨q,p,g6⟩:=bnd g6
   refine gq fol [1,3,4,5] (kD []) [.cells (nz1 k),.cells (nz1 q),bZ] (ac (cv (jX a o)) (ac (cv (jX b p)) (ac (hs (.run [0] (qm ZT 95 (.ptr 0 0) (.agg (nz1 k))) [.cells (nz1 a),.cells (nz1 b),bZ] .undef [.cells (nz1 k),.cells (nz1 b),bZ] true) (qJ (n:=2) (by kernel_rfl) rfl rfl rfl rfl (cac rfl (cac nvc can)) rfl)) (ac (hs (.run [1] (qm ZT 95 (.ptr 1 0) (.agg (nz1 q))) [.cells (nz1 k),.cells (nz1 b),bZ] .undef [.cells (nz1 k),.cells (nz1 q),bZ] true) (qJ (n:=2) (by kernel_rfl) rfl rfl rfl rfl (cac rfl (cac nvc can)) rfl)) az)))) ?_
   obtain rfl:=si g6
   exact⟨rfl,_,_,_,_,rfl,(Sub.refl _)⟩
  refine Goes.skip ?_
  obtain rfl:=si g6
  exact⟨rfl,_,_,_,_,rfl,(Sub.keep [2,3,4] rfl rfl)⟩
 rintro x s' ⟨rfl,d,e,f,g,rfl,hsub⟩
 try dsimp only at h
 refine Goes.sub hsub ?_
 obtain⟨c,i,h⟩:=bnd h
 refine sq (gq fol [2,8,9] (kAG (kAs [])) [.cells (ni1 d e),.cells (ni1 f g),bZ,.cells (nz1 c.1),.cells (nz1 c.2)] (ac (cv (qaY N (⟨d,e⟩:qd) (⟨f,g⟩:qd) i)) (ac (hs (.run [3] (qm ZT 95 (.ptr 3 0) (.agg (nz1 c.1))) [.cells (ni1 d e),.cells (ni1 f g),bZ,bZ,bZ] .undef [.cells (ni1 d e),.cells (ni1 f g),bZ,.cells (nz1 c.1),bZ] true) (qJ (n:=2) (by kernel_rfl) rfl rfl rfl rfl (cac rfl (cac nvc can)) rfl)) (ac (hs (.run [4] (qm ZT 95 (.ptr 4 0) (.agg (nz1 c.2))) [.cells (ni1 d e),.cells (ni1 f g),bZ,.cells (nz1 c.1),bZ] .undef [.cells (ni1 d e),.cells (ni1 f g),bZ,.cells (nz1 c.1),.cells (nz1 c.2)] true) (qJ (n:=2) (by kernel_rfl) rfl rfl rfl rfl (cac rfl (cac nvc can)) rfl)) az))) ?_)
 refine sq (gq fol [1] (kAG []) [.cells (ni1 d e),.cells (ni1 f g),.cells (nz1 c.1),.cells (nz1 c.1),.cells (nz1 c.2)] (ac (hs (.run [2] (qm ZT 95 (.ptr 2 0) (.agg (nz1 c.1))) [.cells (ni1 d e),.cells (ni1 f g),bZ,.cells (nz1 c.1),.cells (nz1 c.2)] .undef [.cells (ni1 d e),.cells (ni1 f g),.cells (nz1 c.1),.cells (nz1 c.1),.cells (nz1 c.2)] true) (qJ (n:=2) (by kernel_rfl) rfl rfl rfl rfl (cac rfl (cac nvc can)) rfl)) az) ?_)
 refine Goes.ret ?_
 obtain rfl:=si h
 exact(gw2 [.agg (nz1 c.1)] (FzW.agg (qc.cons (Ua tI) (qc.cons (Ua (qo (qa .u64) _ (nl rfl))) qc.nil))))
def qbv (N:Nat) (num:qd) (den:qd):Option qj:=
 (qX den).bind fun k=>
 ((if k<0 then
 (zy num).bind fun i=>
 (zy den).bind fun j=>
 some (i.s,i.w,j.s,j.w)
 else
 some (num.s,num.w,den.s,den.w):Option (Int×(List Int)×Int×(List Int)))).bind fun(d,e,b,c)=>
 (if c.isEmpty=true then
 some (decide (b=1))
 else
 some false:Option Bool).bind fun f=>
 if f=true then
 some (⟨(⟨d,e⟩:qd),(⟨b,c⟩:qd)⟩:qj)
 else
 (qcp N (⟨d,e⟩:qd) (⟨b,c⟩:qd)).bind fun a=>
 (vN N (⟨d,e⟩:qd) a).bind fun g=>
 (vN N (⟨b,c⟩:qd) a).bind fun h=>
 some (⟨g,h⟩:qj)
theorem qdJ (N:Nat) (num:qd) (den:qd) {res:qj} (h:qbv N num den=some res):qb ZT (.fn 64) [.agg (nz1 num),.agg (nz1 den)] [] (.agg (nq1 res)) []:=by
 unfold qbv at h
 refine Ub Tryz.func64 rfl rfl (m:=34) rfl (rs:=[.cell 4 100]) rfl (l:=[(0,.agg (nz1 num)),(1,.agg (nz1 den))]) rfl ?_
 refine sg fol (kD []) (.cells (nz1 num):: .cells (nz1 den)::(kF [])) ?_
 refine sq ?_
 obtain⟨A,q,h⟩:=bnd h
 refine sq (gr fol [1] (kD [(8,.bool (decide (A<0)))]) (ac (cv (yo den q)) az) ?_)
 obtain⟨B,g6,h⟩:=bnd h
 refine Goes.imp (Q:=fun x s'=>(x= .normal/\ ∃d e c a,(d,e,c,a)=B/\Sub s' (ofG 34 (kD []),(.cells (ni1 d e):: .cells (ni1 c a)::(kF []))))) ?_ ?_
 ·refine ihD g6 (fun C g6=>?_) (fun C g6=>?_)
  ·obtain⟨r,t,g6⟩:=bnd g6
   obtain⟨v,u,g6⟩:=bnd g6
   refine gq fol [1,3,4,5] (kD []) (.cells (nz1 r):: .cells (nz1 v)::(kF [])) (ac (cv (jX num t)) (ac (cv (jX den u)) (ac (hs (.run [0] (qm ZT 95 (.ptr 0 0) (.agg (nz1 r))) (.cells (nz1 num):: .cells (nz1 den)::(kF [])) .undef (.cells (nz1 r):: .cells (nz1 den)::(kF [])) true) (qJ (n:=2) (by kernel_rfl) rfl rfl rfl rfl (cac rfl (cac nvc can)) rfl)) (ac (hs (.run [1] (qm ZT 95 (.ptr 1 0) (.agg (nz1 v))) (.cells (nz1 r):: .cells (nz1 den)::(kF [])) .undef (.cells (nz1 r):: .cells (nz1 v)::(kF [])) true) (qJ (n:=2) (by kernel_rfl) rfl rfl rfl rfl (cac rfl (cac nvc can)) rfl)) az)))) ?_
   obtain rfl:=si g6
   exact⟨rfl,_,_,_,_,rfl,(Sub.refl _)⟩
  refine Goes.skip ?_
  obtain rfl:=si g6
  exact⟨rfl,_,_,_,_,rfl,(Sub.keep [2,3,4] rfl rfl)⟩
 rintro x s' ⟨rfl,d,e,c,a,rfl,hsub⟩
 try dsimp only at h
 refine Goes.sub hsub ?_
 refine sq ?_
 refine sq ?_
 obtain⟨y,b,h⟩:=bnd h
 refine Goes.cut (s':=(ofG 34 (kD [(20,.bool y)]),(.cells (ni1 d e):: .cells (ni1 c a)::(kF [])))) ?_ ?_
 ·rcases wyB b with⟨j,b⟩|⟨j,b⟩
  ·obtain rfl:=si b
   exact tr fol [2,3] (kD [(20,.bool (decide (c=1)))]) (ac (hs (.done (.opt (kg ZT .eql 93 (.tmp 14) (.const (.slice none 0 0)) (nvl (qa .u64) a) .nilslice)) (.bool a.isEmpty)) (qav qap)) (ac (gw j) az))
  obtain rfl:=si b
  exact tr fol [2,3] (kD [(20,.bool false)]) (ac (hs (.done (.opt (kg ZT .eql 93 (.tmp 14) (.const (.slice none 0 0)) (nvl (qa .u64) a) .nilslice)) (.bool a.isEmpty)) (qav qap)) (ac (gw j) az))
 refine ihB h (fun z h=>?_) (fun z h=>?_)
 ·refine sq (gq fol [3] (kAG []) [.cells (ni1 d e),.cells (ni1 c a),.cells (ni2 d e c a)] (ac (hs (.run [2] (qm ZT 100 (.ptr 2 0) (.agg (ni2 d e c a))) (.cells (ni1 d e):: .cells (ni1 c a)::(kF [])) .undef [.cells (ni1 d e),.cells (ni1 c a),.cells (ni2 d e c a)] true) (qJ (n:=4) (by kernel_rfl) rfl rfl rfl rfl (cac rfl (cac nvc (cac rfl (cac nvc can)))) rfl)) az) ?_)
  refine Goes.ret ?_
  obtain rfl:=si h
  exact(gw2 [.agg (ni2 d e c a)] (FzW.agg (qc.cons (Ua tI) (qc.cons (Ua (qo (qa .u64) _ (nl rfl))) (qc.cons (Ua tI) (qc.cons (Ua (qo (qa .u64) _ (nl rfl))) qc.nil))))))
 refine Goes.skip ?_
 obtain⟨f,k,h⟩:=bnd h
 refine sq (gq fol [2,4] (kD (kAs [])) (.cells (ni1 d e):: .cells (ni1 c a)::(kF [.cells (nz1 f)])) (ac (cv (qgY N (⟨d,e⟩:qd) (⟨c,a⟩:qd) k)) (ac (hs (.run [3] (qm ZT 95 (.ptr 3 0) (.agg (nz1 f))) (.cells (ni1 d e):: .cells (ni1 c a)::(kF [bZ])) .undef (.cells (ni1 d e):: .cells (ni1 c a)::(kF [.cells (nz1 f)])) true) (qJ (n:=2) (by kernel_rfl) rfl rfl rfl rfl (cac rfl (cac nvc can)) rfl)) az)) ?_)
 obtain⟨g,o,h⟩:=bnd h
 obtain⟨i,p,h⟩:=bnd h
 refine sq (gq fol [2,5,7] (kAG []) [.cells (ni1 d e),.cells (ni1 c a),.cells (ni2 g.s g.w i.s i.w),.cells (nz1 f)] (ac (cv (qeb N (⟨d,e⟩:qd) f o)) (ac (cv (qeb N (⟨c,a⟩:qd) f p)) (ac (hs (.run [2] (qm ZT 100 (.ptr 2 0) (.agg (ni2 g.s g.w i.s i.w))) (.cells (ni1 d e):: .cells (ni1 c a)::(kF [.cells (nz1 f)])) .undef [.cells (ni1 d e),.cells (ni1 c a),.cells (ni2 g.s g.w i.s i.w),.cells (nz1 f)] true) (qJ (n:=4) (by kernel_rfl) rfl rfl rfl rfl (cac rfl (cac nvc (cac rfl (cac nvc can)))) rfl)) az))) ?_)
 refine Goes.ret ?_
 obtain rfl:=si h
 exact(gw2 [.agg (ni2 g.s g.w i.s i.w)] (FzW.agg (qc.cons (Ua tI) (qc.cons (Ua (qo (qa .u64) _ (nl rfl))) (qc.cons (Ua tI) (qc.cons (Ua (qo (qa .u64) _ (nl rfl))) qc.nil))))))
def xx (N:Nat) (a:qj) (b:qj):Option qj:=
 (qD N a.Num b.Num).bind fun c=>
 (qD N a.Den b.Den).bind fun d=>
 (qbv N c d).bind fun e=>
 some e
theorem qbC (N:Nat) (a:qj) (b:qj) {res:qj} (h:xx N a b=some res):qb ZT (.fn 75) [.agg (nq1 a),.agg (nq1 b)] [] (.agg (nq1 res)) []:=by
 unfold xx at h
 refine Ub Tryz.func75 rfl rfl (m:=16) rfl (rs:=[.cell 4 100]) rfl (l:=[(0,.agg (nq1 a)),(1,.agg (nq1 b))]) rfl ?_
 refine sg fol (kD []) (.cells (nq1 a):: .cells (nq1 b)::(kF [])) ?_
 obtain⟨g,c,h⟩:=bnd h
 obtain⟨i,d,h⟩:=bnd h
 obtain⟨f,e,h⟩:=bnd h
 refine sq (gq fol [4,9,10,11] (kAG []) [.cells (nq1 a),.cells (nq1 b),.cells (nq1 f)] (ac (cv (zR N a.Num b.Num c)) (ac (cv (zR N a.Den b.Den d)) (ac (cv (qdJ N g i e)) (ac (hs (.run [2] (qm ZT 100 (.ptr 2 0) (.agg (nq1 f))) (.cells (nq1 a):: .cells (nq1 b)::(kF [])) .undef [.cells (nq1 a),.cells (nq1 b),.cells (nq1 f)] true) (qJ (n:=4) (by kernel_rfl) rfl rfl rfl rfl (cac rfl (cac nvc (cac rfl (cac nvc can)))) rfl)) az)))) ?_)
 refine Goes.ret ?_
 obtain rfl:=si h
 exact(gw2 [.agg (nq1 f)] (FzW.agg (qc.cons (Ua tI) (qc.cons (Ua (qo (qa .u64) _ (nl rfl))) (qc.cons (Ua tI) (qc.cons (Ua (qo (qa .u64) _ (nl rfl))) qc.nil))))))
def jI (a:qj):Option Bool:=
 (if a.Den.w.isEmpty=true then
 some (decide (a.Den.s=1))
 else
 some false:Option Bool).bind fun b=>
 some b
theorem yH (a:qj) {res:Bool} (h:jI a=some res):qb ZT (.fn 163) [.agg (nq1 a)] [] (.bool res) []:=by
 unfold jI at h
 refine Ub Tryz.func163 rfl rfl (m:=13) rfl (rs:=[.tmp 2]) rfl (l:=[(0,.agg (nq1 a))]) rfl ?_
 refine sg fol (kAc []) [.cells (nq1 a)] ?_
 refine sq ?_
 obtain⟨d,b,h⟩:=bnd h
 refine Goes.cut (s':=(ofG 13 [(2,.bool d)],[.cells (nq1 a)])) ?_ ?_
 ·rcases wyB b with⟨c,b⟩|⟨c,b⟩
  ·obtain rfl:=si b
   exact tr fol [3,4] [(2,.bool (decide (a.Den.s=1)))] (ac (hs (.done (.opt (kg ZT .eql 93 (.tmp 5) (.const (.slice none 0 0)) (nvl (qa .u64) a.Den.w) .nilslice)) (.bool a.Den.w.isEmpty)) (qav qap)) (ac (gw c) az))
  obtain rfl:=si b
  exact tr fol [3,4] [(2,.bool false)] (ac (hs (.done (.opt (kg ZT .eql 93 (.tmp 5) (.const (.slice none 0 0)) (nvl (qa .u64) a.Den.w) .nilslice)) (.bool a.Den.w.isEmpty)) (qav qap)) (ac (gw c) az))
 refine Goes.ret ?_
 obtain rfl:=si h
 exact(gw2 [.bool d] (Ua tB))
def xu (N:Nat) (a:qj) (b:qj):Option qj:=
 ((jI a).bind fun g=>
 if g=true then
 (jI b).bind fun h=>
 some h
 else
 some false:Option Bool).bind fun i=>
 if i=true then
 (vo N a.Num b.Num).bind fun j=>
 (qaM j).bind fun k=>
 some k
 else
 (qD N a.Num b.Den).bind fun l=>
 (qD N b.Num a.Den).bind fun c=>
 (vo N l c).bind fun d=>
 (qD N a.Den b.Den).bind fun e=>
 (qbv N d e).bind fun f=>
 some f
theorem qbD (N:Nat) (a:qj) (b:qj) {res:qj} (h:xu N a b=some res):qb ZT (.fn 76) [.agg (nq1 a),.agg (nq1 b)] [] (.agg (nq1 res)) []:=by
 unfold xu at h
 refine Ub Tryz.func76 rfl rfl (m:=34) rfl (rs:=[.cell 4 100]) rfl (l:=[(0,.agg (nq1 a)),(1,.agg (nq1 b))]) rfl ?_
 refine sg fol (kD []) (.cells (nq1 a):: .cells (nq1 b)::(kF [])) ?_
 refine sq ?_
 refine sq ?_
 obtain⟨w,c,h⟩:=bnd h
 refine Goes.cut (s':=(ofG 34 (kD [(10,.bool w)]),(.cells (nq1 a):: .cells (nq1 b)::(kF [])))) ?_ ?_
 ·obtain⟨B,e,c⟩:=bnd c
  rcases wyB c with⟨s,c⟩|⟨s,c⟩
  ·obtain⟨x,k,c⟩:=bnd c
   obtain rfl:=si c
   exact tr fol [1,2,4] (kD [(10,.bool x)]) (ac (cv (yH a e)) (ac (gw s) (ac (cv (yH b k)) az)))
  obtain rfl:=si c
  exact tr fol [1,2] (kD [(10,.bool false)]) (ac (cv (yH a e)) (ac (gw s) az))
 refine ihB h (fun y h=>?_) (fun y h=>?_)
 ·obtain⟨z,o,h⟩:=bnd h
  obtain⟨r,p,h⟩:=bnd h
  refine sq (gq fol [4,5,6] (kAG []) [.cells (nq1 a),.cells (nq1 b),.cells (nq1 r)] (ac (cv (qab N a.Num b.Num o)) (ac (cv (qbN z p)) (ac (hs (.run [2] (qm ZT 100 (.ptr 2 0) (.agg (nq1 r))) (.cells (nq1 a):: .cells (nq1 b)::(kF [])) .undef [.cells (nq1 a),.cells (nq1 b),.cells (nq1 r)] true) (qJ (n:=4) (by kernel_rfl) rfl rfl rfl rfl (cac rfl (cac nvc (cac rfl (cac nvc can)))) rfl)) az))) ?_)
  refine Goes.ret ?_
  obtain rfl:=si h
  exact(gw2 [.agg (nq1 r)] (FzW.agg (qc.cons (Ua tI) (qc.cons (Ua (qo (qa .u64) _ (nl rfl))) (qc.cons (Ua tI) (qc.cons (Ua (qo (qa .u64) _ (nl rfl))) qc.nil))))))
 refine Goes.skip ?_
 obtain⟨A,q,h⟩:=bnd h
 obtain⟨t,f,h⟩:=bnd h
 obtain⟨u,g,h⟩:=bnd h
 obtain⟨v,i,h⟩:=bnd h
 obtain⟨d,j,h⟩:=bnd h
 refine sq (gq fol [4,9,10,15,16,17] (kAG []) [.cells (nq1 a),.cells (nq1 b),.cells (nq1 d)] (ac (cv (zR N a.Num b.Den q)) (ac (cv (zR N b.Num a.Den f)) (ac (cv (qab N A t g)) (ac (cv (zR N a.Den b.Den i)) (ac (cv (qdJ N u v j)) (ac (hs (.run [2] (qm ZT 100 (.ptr 2 0) (.agg (nq1 d))) (.cells (nq1 a):: .cells (nq1 b)::(kF [])) .undef [.cells (nq1 a),.cells (nq1 b),.cells (nq1 d)] true) (qJ (n:=4) (by kernel_rfl) rfl rfl rfl rfl (cac rfl (cac nvc (cac rfl (cac nvc can)))) rfl)) az)))))) ?_)
 refine Goes.ret ?_
 obtain rfl:=si h
 exact(gw2 [.agg (nq1 d)] (FzW.agg (qc.cons (Ua tI) (qc.cons (Ua (qo (qa .u64) _ (nl rfl))) (qc.cons (Ua tI) (qc.cons (Ua (qo (qa .u64) _ (nl rfl))) qc.nil))))))
def ko (N:Nat) (f:jv) (times:qj) (g:jv):Option jv:=
 (xx N f.n times).bind fun a=>
 (xu N a g.n).bind fun b=>
 (xx N f.d times).bind fun c=>
 (xu N c g.d).bind fun e=>
 some (⟨b,e⟩:jv)
theorem qaI (N:Nat) (f:jv) (times:qj) (g:jv) {res:jv} (h:ko N f times g=some res):qb ZT (.fn 85) [.agg (nq2 f.n f.d),.agg (nq1 times),.agg (nq2 g.n g.d)] [] (.agg (nq2 res.n res.d)) []:=by
 unfold ko at h
 refine Ub Tryz.func85 rfl rfl (m:=22) rfl (rs:=[.cell 6 114]) rfl (l:=[(0,.agg (nq2 f.n f.d)),(1,.agg (nq1 times)),(2,.agg (nq2 g.n g.d))]) rfl ?_
 refine sg fol ((3,.ptr 0 0)::(kAM [(6,.ptr 3 0)])) (.cells (nq2 f.n f.d):: .cells (nq1 times):: .cells (nq2 g.n g.d)::(kS [])) ?_
 obtain⟨k,a,h⟩:=bnd h
 obtain⟨i,b,h⟩:=bnd h
 obtain⟨o,c,h⟩:=bnd h
 obtain⟨j,e,h⟩:=bnd h
 refine sq (gq fol [3,6,10,13,15] [(6,.ptr 3 0)] [.cells (nq2 f.n f.d),.cells (nq1 times),.cells (nq2 g.n g.d),.cells (nq2 i j)] (ac (cv (qbC N f.n times a)) (ac (cv (qbD N k g.n b)) (ac (cv (qbC N f.d times c)) (ac (cv (qbD N o g.d e)) (ac (hs (.run [3] (qm ZT 114 (.ptr 3 0) (.agg (nq2 i j))) (.cells (nq2 f.n f.d):: .cells (nq1 times):: .cells (nq2 g.n g.d)::(kS [])) .undef [.cells (nq2 f.n f.d),.cells (nq1 times),.cells (nq2 g.n g.d),.cells (nq2 i j)] true) (qJ (n:=8) (by kernel_rfl) rfl rfl rfl rfl (cac rfl (cac nvc (cac rfl (cac nvc (cac rfl (cac nvc (cac rfl (cac nvc can)))))))) rfl)) az))))) ?_)
 refine Goes.ret ?_
 obtain rfl:=si h
 exact(gw2 [.agg (nq2 i j)] (FzW.agg (qc.cons (Ua tI) (qc.cons (Ua (qo (qa .u64) _ (nl rfl))) (qc.cons (Ua tI) (qc.cons (Ua (qo (qa .u64) _ (nl rfl))) (qc.cons (Ua tI) (qc.cons (Ua (qo (qa .u64) _ (nl rfl))) (qc.cons (Ua tI) (qc.cons (Ua (qo (qa .u64) _ (nl rfl))) qc.nil))))))))))
def jO (N:Nat) (a:qj) (b:qj):Option Int:=
 (qD N a.Num b.Den).bind fun c=>
 (qD N b.Num a.Den).bind fun d=>
 (qaK N c d).bind fun e=>
 some e
theorem xz (N:Nat) (a:qj) (b:qj) {res:Int} (h:jO N a b=some res):qb ZT (.fn 86) [.agg (nq1 a),.agg (nq1 b)] [] (.i res) []:=by
 unfold jO at h
 refine Ub Tryz.func86 rfl rfl (m:=16) rfl (rs:=[.tmp 4]) rfl (l:=[(0,.agg (nq1 a)),(1,.agg (nq1 b))]) rfl ?_
 refine sg fol (kU (kAa [])) [.cells (nq1 a),.cells (nq1 b)] ?_
 obtain⟨g,c,h⟩:=bnd h
 obtain⟨j,d,h⟩:=bnd h
 obtain⟨f,e,h⟩:=bnd h
 refine sq (gr fol [4,9,10] [(4,.i f)] (ac (cv (zR N a.Num b.Den c)) (ac (cv (zR N b.Num a.Den d)) (ac (cv (qdF N g j e)) az))) ?_)
 refine Goes.ret ?_
 obtain rfl:=si h
 exact(gw2 [.i f] (Ua tI))
def qaQ (a:qd):Option Int:=
 (qH a).bind fun b=>
 if(b.2.length:Int)=0 then
 some 0
 else
 (idx b.2 (w64 ((b.2.length:Int)-1))).bind fun c=>
 (bits_Len64 c).bind fun d=>
 some (w64 ((w64 (64*(w64 ((b.2.length:Int)-1))))+d))
theorem qdz (a:qd) {res:Int} (h:qaQ a=some res):qb ZT (.fn 200) [.agg (nz1 a)] [] (.i res) []:=by
 unfold qaQ at h
 refine Ub Tryz.func200 rfl rfl (m:=25) rfl (rs:=[.tmp 2]) rfl (l:=[(0,.agg (nz1 a))]) rfl ?_
 refine sg fol (kAc []) [.cells (nz1 a)] ?_
 obtain⟨c,d,h⟩:=bnd h
 refine sq (gr fol [1] [(4,vl (qa .u64) c.2)] (ac (cv (zJ a d)) az) ?_)
 refine sq ?_
 refine sh fol ((4,vl (qa .u64) c.2)::(kA2 (decide ((c.2.length:Int)=0)))) ?_
 refine ihD h (fun g h=>?_) (fun g h=>?_)
 ·refine sh fol [(2,.i 0)] ?_
  refine Goes.ret ?_
  obtain rfl:=si h
  exact(gw2 [.i 0] (Ua tI))
 refine Goes.skip ?_
 obtain⟨j,b,h⟩:=bnd h
 obtain⟨f,e,h⟩:=bnd h
 refine sq (gr fol [8,9,10] [(2,.i (w64 ((w64 (64*(w64 ((c.2.length:Int)-1))))+f)))] (ac (iv zL (qa .u64) b) (ac (lv 0 zT (qa .u64) b rfl) (ac (cv (qeC j e)) az))) ?_)
 refine Goes.ret ?_
 obtain rfl:=si h
 exact(gw2 [.i (w64 ((w64 (64*(w64 ((c.2.length:Int)-1))))+f))] (Ua tI))
def jk (N:Nat):Nat->(List Str)->(List Int)->Option (List Str)
 |0,_,_=>none
 |K+1,i,j=>
  if(j.length:Int)>0 then
  (qaD N j ([1000000000000000000]:List Int)).bind fun b=>
  ((if(b.2.length:Int)>0 then
  (idx b.2 0).bind fun c=>
  (qhF c 10).bind fun d=>
  some d
  else
  some [48]:Option Str)).bind fun a=>
  ((if(b.1.length:Int)>0 then
  (qel [48] (w64 (18-(a.length:Int)))).bind fun e=>
  (cat e a).bind fun f=>
  some f
  else
  some a:Option Str)).bind fun g=>
  (app 16 i [g]).bind fun h=>
  jk N K h b.1
  else
  some i
def zq (e:List Str):Nat->Bool->(Option (List Int))->Int->Option (Bool×(Option (List Int)))
 |0,_,_,_=>none
 |K+1,ok27,b,a=>
  if a>=0 then
  (idx e a).bind fun c=>
  (bWr ok27 b c).bind fun d=>
  zq e K true (some d) (w64 (a-1))
  else
  some (ok27,b)
def jV (N:Nat) (a:qd):Option Str:=
 if a.w.isEmpty=true then
 (qlt a.s).bind fun h=>
 some h
 else
 (qH a).bind fun f=>
 (jk N N ([]:List Str) f.2).bind fun g=>
 ((if f.1=true then
 (bWr false (none:Option (List Int)) [45]).bind fun b=>
 some (true,(some b))
 else
 some (false,(none:Option (List Int))):Option (Bool×(Option (List Int))))).bind fun(ok21,c)=>
 (zq g N ok21 c (w64 ((g.length:Int)-1))).bind fun(ok30,d)=>
 (qmA ok30 d).bind fun e=>
 some e
theorem xN (N:Nat) (a:qd) {res:Str} (h:jV N a=some res):qb ZT (.fn 222) [.agg (nz1 a)] [] (.str res) []:=by
 unfold jV at h
 refine Ub Tryz.func222 rfl rfl (m:=69) rfl (rs:=[.tmp 2]) rfl (l:=[(0,.agg (nz1 a))]) rfl ?_
 refine sg fol (kAc []) [.cells (nz1 a)] ?_
 refine sq ?_
 refine sq (gr fol [2] (kAc [(14,.bool a.w.isEmpty)]) (ac (hs (.done (.opt (kg ZT .eql 93 (.tmp 13) (.const (.slice none 0 0)) (nvl (qa .u64) a.w) .nilslice)) (.bool a.w.isEmpty)) (qav qap)) az) ?_)
 refine ihB h (fun c1 h=>?_) (fun c1 h=>?_)
 ·obtain⟨r2,J,h⟩:=bnd h
  refine sq (gr fol [2] (kA3 r2) (ac (cv (qn3 a.s J)) az) ?_)
  refine Goes.ret ?_
  obtain rfl:=si h
  exact(gw2 [.str r2] (Ua tS))
 refine Goes.skip ?_
 obtain⟨d,K,h⟩:=bnd h
 refine sq (gr fol [1] [(3,.bool d.1),(4,vl (qa .u64) d.2)] (ac (cv (zJ a K)) az) ?_)
 refine sg fol [(3,.bool d.1),(4,vl (qa .u64) d.2),(5,.slice 1 0 1 1 1)] [.cells (nz1 a),.cells [.int .u64 1000000000000000000]] ?_
 refine sh fol [(3,.bool d.1),(4,vl (qa .u64) d.2),(5,.slice 1 0 1 1 1),(6,.nilslice)] ?_
 refine sq (Goes.block ?_)
 obtain⟨r7,g7,h⟩:=bnd h
 refine Goes.imp (Q:=fun x s'=>(x= .exit 0/\ ∃b,b=r7/\Sub s' (ofG 69 ((3,.bool d.1)::(kY b [])),(kAA b [])))) ?_ ?_
 ·refine Goes.sub (s':=(ofG 69 [(3,.bool d.1),(4,vl (qa .u64) d.2),(5,vl (qa .u64) ([1000000000000000000]:List Int)),(6,.gslice 0 ([]:List Str).length 1)],[.cells (([]:List Str).flatMap encS.c)])) (Sub.norm [1] [none] rfl rfl (.keep (.same nB) (.keep (.same (qf (qa .u64) _)) (.keep (.frz (Fz.lit rfl rfl (Uf (AllST.cons tI AllST.nil))) (qf (qa .u64) _)) (.keep .nil .nil)))) (.fresh .nil)) ?_
  refine Uc (fun M s=> ∃(g:List Str) (I:List Int),s=(ofG 69 ((3,.bool d.1)::(4,vl (qa .u64) I)::(5,vl (qa .u64) ([1000000000000000000]:List Int))::(kY g [])),(kAA g []))/\jk N M g I=some r7) ?_ (m:=N) ⟨_,_,rfl,g7⟩
  rintro M s ⟨g,I,rfl,g7⟩
  cases M with
  |zero=>simp only[jk]at g7;cases g7
  |succ M=>
   rw[jk]at g7
   refine sq ?_
   refine sh fol ((3,.bool d.1)::(4,vl (qa .u64) I)::(5,vl (qa .u64) ([1000000000000000000]:List Int))::(kY g [(26,.bool (decide ((I.length:Int)>0)))])) ?_
   refine ihD g7 (fun c8 g7=>?_) (fun c8 g7=>?_)
   ·refine Goes.skip ?_
    refine Goes.block ?_
    obtain⟨j,L,g7⟩:=bnd g7
    refine sq (gr fol [2] ((3,.bool d.1)::(5,vl (qa .u64) ([1000000000000000000]:List Int))::(kY g [(7,vl (qa .u64) j.1),(8,vl (qa .u64) j.2)])) (ac (cv (qex N I ([1000000000000000000]:List Int) L)) az) ?_)
    refine sh fol ((3,.bool d.1)::(5,vl (qa .u64) ([1000000000000000000]:List Int))::(kY g [(7,vl (qa .u64) j.1),(8,vl (qa .u64) j.2),(9,.str [48])])) ?_
    refine sq ?_
    refine sh fol ((3,.bool d.1)::(5,vl (qa .u64) ([1000000000000000000]:List Int))::(kY g [(7,vl (qa .u64) j.1),(8,vl (qa .u64) j.2),(9,.str [48]),(35,.bool (decide ((j.2.length:Int)>0)))])) ?_
    obtain⟨U,g11,g7⟩:=bnd g7
    refine Goes.imp (Q:=fun x s'=>(x= .normal/\ ∃p,p=U/\Sub s' (ofG 69 ((3,.bool d.1)::(5,vl (qa .u64) ([1000000000000000000]:List Int))::(kY g [(7,vl (qa .u64) j.1),(9,.str p)])),(kAA g [])))) ?_ ?_
    ·refine ihD g11 (fun V g11=>?_) (fun V g11=>?_)
     ·obtain⟨X,r,g11⟩:=bnd g11
      obtain⟨Y,z,g11⟩:=bnd g11
      refine gr fol [1,2,3] ((3,.bool d.1)::(5,vl (qa .u64) ([1000000000000000000]:List Int))::(kY g [(7,vl (qa .u64) j.1),(9,.str Y)])) (ac (iv zL (qa .u64) r) (ac (lv 0 zT (qa .u64) r rfl) (ac (cv (qm3 X 10 z)) az))) ?_
      obtain rfl:=si g11
      exact⟨rfl,_,rfl,(Sub.refl _)⟩
     refine Goes.skip ?_
     obtain rfl:=si g11
     exact⟨rfl,_,rfl,(Sub.keep [3,5,6,7,9] rfl rfl)⟩
    rintro x s' ⟨rfl,p,rfl,hsub⟩
    refine Goes.sub hsub ?_
    refine sq ?_
    refine sh fol ((3,.bool d.1)::(5,vl (qa .u64) ([1000000000000000000]:List Int))::(kY g [(7,vl (qa .u64) j.1),(9,.str p),(42,.bool (decide ((j.1.length:Int)>0)))])) ?_
    obtain⟨Z,g16,g7⟩:=bnd g7
    refine Goes.imp (Q:=fun x s'=>(x= .normal/\ ∃k,k=Z/\Sub s' (ofG 69 ((3,.bool d.1)::(5,vl (qa .u64) ([1000000000000000000]:List Int))::(kY g [(7,vl (qa .u64) j.1),(9,.str k)])),(kAA g [])))) ?_ ?_
    ·refine ihD g16 (fun a0 g16=>?_) (fun a0 g16=>?_)
     ·obtain⟨a1,A,g16⟩:=bnd g16
      obtain⟨O,B,g16⟩:=bnd g16
      refine gr fol [3,5] ((3,.bool d.1)::(5,vl (qa .u64) ([1000000000000000000]:List Int))::(kY g [(7,vl (qa .u64) j.1),(9,.str O)])) (ac (cv (qk9 [48] (w64 (18-(p.length:Int))) A)) (ac (hs (.done (.opt (kg ZT .add 9 (.tmp 46) (.tmp 47) (.str a1) (.str p))) (.str O)) (qaB B)) az)) ?_
      obtain rfl:=si g16
      exact⟨rfl,_,rfl,(Sub.refl _)⟩
     refine Goes.skip ?_
     obtain rfl:=si g16
     exact⟨rfl,_,rfl,(Sub.keep [3,5,6,7,9] rfl rfl)⟩
    rintro x s' ⟨rfl,k,rfl,hsub⟩
    refine Goes.sub hsub ?_
    obtain⟨n,C,g7⟩:=bnd g7
    refine sq (gq fol [3] [(3,.bool d.1),(5,vl (qa .u64) ([1000000000000000000]:List Int)),(6,.gslice 2 n.length 1),(7,vl (qa .u64) j.1)] (.dead:: .cells [.str k]::(kAA n [])) (ac (hs (.run [0,1] (xJ ZT [284,284] (.gslice 0 g.length 1) (.slice 1 0 1 1 1)) (kAA g [.cells [.str k]]) (.gslice 2 n.length 1) (.dead:: .cells [.str k]::(kAA n [])) true) (qck qpM (E:=encS) rfl (qg8 (E:=encS) (ys:=[k]) rfl rfl rfl rfl) (qib (E:=encS) (l:=g) rfl rfl rfl C rfl))) az) ?_)
    refine gh fol [(3,.bool d.1),(4,vl (qa .u64) j.1),(5,vl (qa .u64) ([1000000000000000000]:List Int)),(6,.gslice 2 n.length 1)] ?_
    exact⟨M,(ofG 69 ((3,.bool d.1)::(4,vl (qa .u64) j.1)::(5,vl (qa .u64) ([1000000000000000000]:List Int))::(kY n [])),(kAA n [])),Nat.lt_succ_self _,(Sub.norm [] [some 2] rfl rfl (.keep (.same nB) (.keep (.same (qf (qa .u64) _)) (.keep (.same (qf (qa .u64) _)) (.keep (.gslice rfl) .nil)))) (.ks .nil)),_,_,rfl,g7⟩
   refine Goes.exit ?_
   obtain rfl:=si g7
   exact⟨rfl,_,rfl,(Sub.keep [3,6] rfl rfl)⟩
 rintro x s' ⟨rfl,b,rfl,hsub⟩
 refine Goes.sub hsub ?_
 refine sg fol ((3,.bool d.1)::(kY b (kA4 []))) (kAA b [.bld 189 5 [.nilptr,.nilslice]]) ?_
 refine sq ?_
 refine sh fol (kY b (kA4 [(54,.bool d.1)])) ?_
 obtain⟨a2,g23,h⟩:=bnd h
 refine Goes.imp (Q:=fun x s'=>(x= .normal/\ ∃ok21 u,(ok21,u)=a2/\Sub s' (ofG 69 (kY b (kA4 [])),(kAA b [.bld 189 5 [pz ok21 1 0,hsl 2 1 u],.cells ((hof u).flatMap (qa .u8).c)])))) ?_ ?_
 ·refine ihB g23 (fun a3 g23=>?_) (fun a3 g23=>?_)
  ·refine Goes.sub (s':=(ofG 69 (kY b (kA4 [(54,.bool d.1)])),(kAA b [.bld 189 5 [pz false 1 0,.nilslice]]))) (Sub.norm [] [some 0,some 1] rfl rfl (.keep (.gslice rfl) (.kp (.keep (.same nB) .nil))) (.ks (.kb rfl (.bld (rc (jb.pz0) (rc (.same (qE.nilslice)) rn))) .nil))) ?_
   refine Goes.sub (s':=(ofG 69 (kY b (kA4 [(54,.bool d.1)])),(kAA b [.bld 189 5 [pz false 1 0,hsl 2 1 (none:Option (List Int))],.cells ((hof (none:Option (List Int))).flatMap (qa .u8).c)]))) (Sub.norm [] [some 0,some 1,none] rfl rfl (.keep (.gslice rfl) (.kp (.keep (.same nB) .nil))) (.ks (.kb rfl (.bld (rc (jb.pz0) (rc .hs0 rn))) (.fresh .nil)))) ?_
   obtain⟨v,D,g23⟩:=bnd g23
   refine gq fol [0] (kY b (kA4 [])) (kAA b [.bld 189 5 [pz true 1 0,hsl 3 1 (some v)],.dead,.cells ((hof (some v)).flatMap (qa .u8).c)]) (ac (hs (.callH 150 [.ptr 1 0,.str [45]] (kAA b [.bld 189 5 [pz false 1 0,hsl 2 1 (none:Option (List Int))],.cells ((hof (none:Option (List Int))).flatMap (qa .u8).c)]) [1,2] (.tuple [.i (([45].length:Nat):Int),.niliface]) (kAA b [.bld 189 5 [pz true 1 0,hsl 3 1 (some v)],.dead,.cells ((hof (some v)).flatMap (qa .u8).c)])) (qfN [some 1,some 2] [none,some 0,none,some 2] (qoG false (none:Option (List Int)) [45] D) (.kb rfl (.bld (rc (jb.pz0) (rc .hs0 rn))) (.ks .nil)) rfl rfl (.old rfl rfl (.back rfl rfl (.bld (rc ((jb.pz rfl)) (rc (.hs rfl) rn))) rfl (.dead (.new rfl rfl (.same fa) rfl .nil)))) (rc (.ptr rfl) (rc (.same nS) rn)) (.same (qE.tuple sn)) rfl)) az) ?_
   obtain rfl:=si g23
   exact⟨rfl,_,_,rfl,(Sub.norm [] [some 0,some 1,some 3] rfl rfl (.keep (.gslice rfl) (.kp .nil)) (.ks (.kb rfl (.bld (rc ((jb.pz rfl)) (rc (.hs rfl) rn))) (.ks .nil))))⟩
  refine Goes.skip ?_
  obtain rfl:=si g23
  exact⟨rfl,_,_,rfl,(Sub.norm [] [some 0,some 1,none] rfl rfl (.keep (.gslice rfl) (.kp .nil)) (.ks (.kb rfl (.bld (rc (jb.pz0) (rc .hs0 rn))) (.fresh .nil))))⟩
 rintro x s' ⟨rfl,ok21,u,rfl,hsub⟩
 try dsimp only at h
 refine Goes.sub hsub ?_
 refine sq ?_
 refine sh fol (kY b (kA4 [(11,.i (w64 ((b.length:Int)-1)))])) ?_
 refine Goes.block ?_
 obtain⟨P,g32,h⟩:=bnd h
 refine Goes.imp (Q:=fun x s'=>(x= .exit 2/\ ∃ok30 o,(ok30,o)=P/\Sub s' (ofG 69 [(10,.ptr 0 0)],[.bld 189 5 [pz ok30 0 0,hsl 1 1 o],.cells ((hof o).flatMap (qa .u8).c)]))) ?_ ?_
 ·refine Uc (fun M s=> ∃(ok27:Bool) (e:Option (List Int)) (f:Int),s=(ofG 69 (kY b (kA4 [(11,.i f)])),(kAA b [.bld 189 5 [pz ok27 1 0,hsl 2 1 e],.cells ((hof e).flatMap (qa .u8).c)]))/\zq b M ok27 e f=some P) ?_ (m:=N) ⟨_,_,_,rfl,g32⟩
  rintro M s ⟨ok27,e,f,rfl,g32⟩
  cases M with
  |zero=>simp only[zq]at g32;cases g32
  |succ M=>
   rw[zq]at g32
   refine sq ?_
   refine sh fol (kY b (kA4 [(11,.i f),(60,.bool (decide (f>=0)))])) ?_
   refine ihD g32 (fun a4 g32=>?_) (fun a4 g32=>?_)
   ·refine Goes.skip ?_
    refine sq (Goes.block ?_)
    obtain⟨y,t,g32⟩:=bnd g32
    obtain⟨q,F,g32⟩:=bnd g32
    refine gq fol [2,3,4] (kY b (kA4 [(11,.i f)])) (kAA b [.bld 189 5 [pz true 1 0,hsl 3 1 (some q)],.dead,.cells ((hof (some q)).flatMap (qa .u8).c)]) (ac (hs (.done (.opt (qg ZT 284 (.gslice 0 b.length 1) (.i f))) (.ptr 0 ((f:Int).toNat*1+0))) (ix_gs qpM t)) (ac (hs (.run [0] (jg ZT 9 (.ptr 0 ((f:Int).toNat*1+0))) (kAA b [.bld 189 5 [pz ok27 1 0,hsl 2 1 e],.cells ((hof e).flatMap (qa .u8).c)]) (.str y) (kAA b [.bld 189 5 [pz ok27 1 0,hsl 2 1 e],.cells ((hof e).flatMap (qa .u8).c)]) false) (qch ce9 (E:=encS) (l:=b) rfl rfl t (nl rfl) rfl)) (ac (hs (.callH 150 [.ptr 1 0,.str y] (kAA b [.bld 189 5 [pz ok27 1 0,hsl 2 1 e],.cells ((hof e).flatMap (qa .u8).c)]) [1,2] (.tuple [.i ((y.length:Nat):Int),.niliface]) (kAA b [.bld 189 5 [pz true 1 0,hsl 3 1 (some q)],.dead,.cells ((hof (some q)).flatMap (qa .u8).c)])) (qfN [some 1,some 2] [none,some 0,none,some 2] (qoG ok27 e y F) (.kb rfl (.bld (rc ((jb.pz rfl)) (rc (.hs rfl) rn))) (.ks .nil)) rfl rfl (.old rfl rfl (.back rfl rfl (.bld (rc ((jb.pz rfl)) (rc (.hs rfl) rn))) rfl (.dead (.new rfl rfl (.same fa) rfl .nil)))) (rc (.ptr rfl) (rc (.same nS) rn)) (.same (qE.tuple sn)) rfl)) az))) ?_
    refine gh fol (kY b (kA4 [(11,.i (w64 (f-1)))])) ?_
    exact⟨M,(ofG 69 (kY b (kA4 [(11,.i (w64 (f-1)))])),(kAA b [.bld 189 5 [pz true 1 0,hsl 2 1 (some q)],.cells ((hof (some q)).flatMap (qa .u8).c)])),Nat.lt_succ_self _,(Sub.norm [] [some 0,some 1,some 3] rfl rfl (.keep (.gslice rfl) (.kp (.keep (.same nI) .nil))) (.ks (.kb rfl (.bld (rc ((jb.pz rfl)) (rc (.hs rfl) rn))) (.ks .nil)))),_,_,_,rfl,g32⟩
   refine Goes.exit ?_
   obtain rfl:=si g32
   exact⟨rfl,_,_,rfl,(Sub.norm [] [some 1,some 2] rfl rfl (.drop (.kp .nil)) (.kb rfl (.bld (rc ((jb.pz rfl)) (rc (.hs rfl) rn))) (.ks .nil)))⟩
 rintro x s' ⟨rfl,ok30,o,rfl,hsub⟩
 try dsimp only at h
 refine Goes.sub hsub ?_
 obtain⟨G,H,h⟩:=bnd h
 refine sq (gq fol [0] (kA3 G) [.dead,.dead] (ac (hs (.callH 152 [.ptr 0 0] [.bld 189 5 [pz ok30 0 0,hsl 1 1 o],.cells ((hof o).flatMap (qa .u8).c)] [0,1] (.str G) [.dead,.dead]) (qfN [some 0,some 1] [none,none] (qpv ok30 o H) (.kb rfl (.bld (rc ((jb.pz rfl)) (rc (.hs rfl) rn))) (.ks .nil)) rfl rfl (.dead (.dead .nil)) (rc (.ptr rfl) rn) (.same nS) rfl)) az) ?_)
 refine Goes.ret ?_
 obtain rfl:=si h
 exact(gw2 [.str G] (Ua tS))
def qcI (N:Nat) (n:qd):Option Bool:=
 ((qaQ n).bind fun a=>
 if a>1800 then
 (jV N n).bind fun b=>
 (strings_TrimPrefix b [45]).bind fun c=>
 some (decide ((c.length:Int)>600))
 else
 some false:Option Bool).bind fun d=>
 some d
theorem qdI (N:Nat) (n:qd) {res:Bool} (h:qcI N n=some res):qb ZT (.fn 221) [.agg (nz1 n)] [] (.bool res) []:=by
 unfold qcI at h
 refine Ub Tryz.func221 rfl rfl (m:=13) rfl (rs:=[.tmp 2]) rfl (l:=[(0,.agg (nz1 n))]) rfl ?_
 refine sg fol (kAc []) [.cells (nz1 n)] ?_
 refine sq ?_
 obtain⟨f,a,h⟩:=bnd h
 refine Goes.cut (s':=(ofG 13 [(2,.bool f)],[.cells (nz1 n)])) ?_ ?_
 ·obtain⟨j,b,a⟩:=bnd a
  rcases wyD a with⟨e,a⟩|⟨e,a⟩
  ·obtain⟨g,c,a⟩:=bnd a
   obtain⟨i,d,a⟩:=bnd a
   obtain rfl:=si a
   exact tr fol [1,3,5,6] [(2,.bool (decide ((i.length:Int)>600)))] (ac (cv (qdz n b)) (ac (gw e) (ac (cv (xN N n c)) (ac (cv (qba g [45] d)) az))))
  obtain rfl:=si a
  exact tr fol [1,3] [(2,.bool false)] (ac (cv (qdz n b)) (ac (gw e) az))
 refine Goes.ret ?_
 obtain rfl:=si h
 exact(gw2 [.bool f] (Ua tB))
def xY (N:Nat) (a:qj):Option Bool:=
 ((qcI N a.Num).bind fun b=>
 if b=true then
 some true
 else
 (qcI N a.Den).bind fun c=>
 some c:Option Bool).bind fun d=>
 some d
theorem qfe (N:Nat) (a:qj) {res:Bool} (h:xY N a=some res):qb ZT (.fn 153) [.agg (nq1 a)] [] (.bool res) []:=by
 unfold xY at h
 refine Ub Tryz.func153 rfl rfl (m:=11) rfl (rs:=[.tmp 2]) rfl (l:=[(0,.agg (nq1 a))]) rfl ?_
 refine sg fol (kAc []) [.cells (nq1 a)] ?_
 refine sq ?_
 obtain⟨f,b,h⟩:=bnd h
 refine Goes.cut (s':=(ofG 11 [(2,.bool f)],[.cells (nq1 a)])) ?_ ?_
 ·obtain⟨i,c,b⟩:=bnd b
  rcases wyB b with⟨e,b⟩|⟨e,b⟩
  ·obtain rfl:=si b
   exact tr fol [2,3] [(2,.bool true)] (ac (cv (qdI N a.Num c)) (ac (gw e) az))
  obtain⟨g,d,b⟩:=bnd b
  obtain rfl:=si b
  exact tr fol [2,3,6] [(2,.bool g)] (ac (cv (qdI N a.Num c)) (ac (gw e) (ac (cv (qdI N a.Den d)) az)))
 refine Goes.ret ?_
 obtain rfl:=si h
 exact(gw2 [.bool f] (Ua tB))
def qau (N:Nat) (a:qj):Option Str:=
 (jI a).bind fun b=>
 if b=true then
 (jV N a.Num).bind fun c=>
 some c
 else
 (jV N a.Num).bind fun d=>
 (cat d [47]).bind fun e=>
 (jV N a.Den).bind fun f=>
 (cat e f).bind fun g=>
 some g
theorem qfW (N:Nat) (a:qj) {res:Str} (h:qau N a=some res):qb ZT (.fn 154) [.agg (nq1 a)] [] (.str res) []:=by
 unfold qau at h
 refine Ub Tryz.func154 rfl rfl (m:=16) rfl (rs:=[.tmp 2]) rfl (l:=[(0,.agg (nq1 a))]) rfl ?_
 refine sg fol (kAc []) [.cells (nq1 a)] ?_
 refine sq ?_
 obtain⟨n,b,h⟩:=bnd h
 refine sq (gr fol [1] (kAc (kA0 n)) (ac (cv (yH a b)) az) ?_)
 refine ihB h (fun o h=>?_) (fun o h=>?_)
 ·obtain⟨j,c,h⟩:=bnd h
  refine sq (gr fol [2] (kA3 j) (ac (cv (xN N a.Num c)) az) ?_)
  refine Goes.ret ?_
  obtain rfl:=si h
  exact(gw2 [.str j] (Ua tS))
 refine Goes.skip ?_
 obtain⟨p,d,h⟩:=bnd h
 obtain⟨k,e,h⟩:=bnd h
 obtain⟨q,f,h⟩:=bnd h
 obtain⟨i,g,h⟩:=bnd h
 refine sq (gr fol [2,3,6,7] (kA3 i) (ac (cv (xN N a.Num d)) (ac (hs (.done (.opt (kg ZT .add 9 (.tmp 10) (.const (.string ⟨#[47]⟩)) (.str p) (.str [47]))) (.str k)) (qaB e)) (ac (cv (xN N a.Den f)) (ac (hs (.done (.opt (kg ZT .add 9 (.tmp 11) (.tmp 14) (.str k) (.str q))) (.str i)) (qaB g)) az)))) ?_)
 refine Goes.ret ?_
 obtain rfl:=si h
 exact(gw2 [.str i] (Ua tS))
def vK (N:Nat) (a:qj):Option (Str×Int):=
 (xY N a).bind fun b=>
 if b=true then
 some ([],4)
 else
 (qau N a).bind fun c=>
 some (c,0)
theorem qcH (N:Nat) (a:qj) {res:Str×Int} (h:vK N a=some res):qb ZT (.fn 87) [.agg (nq1 a)] [] (.tuple [.str res.1,.i res.2]) []:=by
 unfold vK at h
 refine Ub Tryz.func87 rfl rfl (m:=8) rfl (rs:=[.tmp 2,.tmp 3]) rfl (l:=[(0,.agg (nq1 a))]) rfl ?_
 refine sg fol (kAc []) [.cells (nq1 a)] ?_
 refine sq ?_
 obtain⟨e,b,h⟩:=bnd h
 refine sq (gr fol [1] (kAc [(5,.bool e)]) (ac (cv (qfe N a b)) az) ?_)
 refine ihB h (fun f h=>?_) (fun f h=>?_)
 ·refine sh fol [(2,.str []),(3,.i 4)] ?_
  refine Goes.ret ?_
  obtain rfl:=si h
  exact(gw2 [.str [],.i 4] (FzW.tuple (qc.cons (Ua tS) (qc.cons (Ua tI) qc.nil))))
 refine Goes.skip ?_
 obtain⟨d,c,h⟩:=bnd h
 refine sq (gr fol [1] [(2,.str d),(3,.i 0)] (ac (cv (qfW N a c)) az) ?_)
 refine Goes.ret ?_
 obtain rfl:=si h
 exact(gw2 [.str d,.i 0] (FzW.tuple (qc.cons (Ua tS) (qc.cons (Ua tI) qc.nil))))
def qag (N:Nat) (a:qj):Option qj:=
 (qbv N a.Den a.Num).bind fun b=>
 some b
theorem qdx (N:Nat) (a:qj) {res:qj} (h:qag N a=some res):qb ZT (.fn 90) [.agg (nq1 a)] [] (.agg (nq1 res)) []:=by
 unfold qag at h
 refine Ub Tryz.func90 rfl rfl (m:=8) rfl (rs:=[.cell 2 100]) rfl (l:=[(0,.agg (nq1 a))]) rfl ?_
 refine sg fol (kAL []) (.cells (nq1 a)::(kF [])) ?_
 obtain⟨c,b,h⟩:=bnd h
 refine sq (gq fol [4,5] kAy [.cells (nq1 a),.cells (nq1 c)] (ac (cv (qdJ N a.Den a.Num b)) (ac (hs (.run [1] (qm ZT 100 (.ptr 1 0) (.agg (nq1 c))) (.cells (nq1 a)::(kF [])) .undef [.cells (nq1 a),.cells (nq1 c)] true) (qJ (n:=4) (by kernel_rfl) rfl rfl rfl rfl (cac rfl (cac nvc (cac rfl (cac nvc can)))) rfl)) az)) ?_)
 refine Goes.ret ?_
 obtain rfl:=si h
 exact(gw2 [.agg (nq1 c)] (FzW.agg (qc.cons (Ua tI) (qc.cons (Ua (qo (qa .u64) _ (nl rfl))) (qc.cons (Ua tI) (qc.cons (Ua (qo (qa .u64) _ (nl rfl))) qc.nil))))))
def jM (N:Nat) (a:qj) (b:qj):Option qj:=
 (qag N b).bind fun c=>
 (xx N a c).bind fun d=>
 some d
theorem qaz (N:Nat) (a:qj) (b:qj) {res:qj} (h:jM N a b=some res):qb ZT (.fn 88) [.agg (nq1 a),.agg (nq1 b)] [] (.agg (nq1 res)) []:=by
 unfold jM at h
 refine Ub Tryz.func88 rfl rfl (m:=9) rfl (rs:=[.cell 4 100]) rfl (l:=[(0,.agg (nq1 a)),(1,.agg (nq1 b))]) rfl ?_
 refine sg fol (kD []) (.cells (nq1 a):: .cells (nq1 b)::(kF [])) ?_
 obtain⟨f,c,h⟩:=bnd h
 obtain⟨e,d,h⟩:=bnd h
 refine sq (gq fol [2,3,4] (kAG []) [.cells (nq1 a),.cells (nq1 b),.cells (nq1 e)] (ac (cv (qdx N b c)) (ac (cv (qbC N a f d)) (ac (hs (.run [2] (qm ZT 100 (.ptr 2 0) (.agg (nq1 e))) (.cells (nq1 a):: .cells (nq1 b)::(kF [])) .undef [.cells (nq1 a),.cells (nq1 b),.cells (nq1 e)] true) (qJ (n:=4) (by kernel_rfl) rfl rfl rfl rfl (cac rfl (cac nvc (cac rfl (cac nvc can)))) rfl)) az))) ?_)
 refine Goes.ret ?_
 obtain rfl:=si h
 exact(gw2 [.agg (nq1 e)] (FzW.agg (qc.cons (Ua tI) (qc.cons (Ua (qo (qa .u64) _ (nl rfl))) (qc.cons (Ua tI) (qc.cons (Ua (qo (qa .u64) _ (nl rfl))) qc.nil))))))
def qa0 (a:qj):Option qj:=
 (zy a.Num).bind fun b=>
 some (⟨b,a.Den⟩:qj)
theorem qgg (a:qj) {res:qj} (h:qa0 a=some res):qb ZT (.fn 168) [.agg (nq1 a)] [] (.agg (nq1 res)) []:=by
 unfold qa0 at h
 refine Ub Tryz.func168 rfl rfl (m:=9) rfl (rs:=[.cell 2 100]) rfl (l:=[(0,.agg (nq1 a))]) rfl ?_
 refine sg fol (kAL []) (.cells (nq1 a)::(kF [])) ?_
 obtain⟨b,c,h⟩:=bnd h
 refine sq (gq fol [2,6] kAy [.cells (nq1 a),.cells (ni2 b.s b.w a.Den.s a.Den.w)] (ac (cv (jX a.Num c)) (ac (hs (.run [1] (qm ZT 100 (.ptr 1 0) (.agg (ni2 b.s b.w a.Den.s a.Den.w))) (.cells (nq1 a)::(kF [])) .undef [.cells (nq1 a),.cells (ni2 b.s b.w a.Den.s a.Den.w)] true) (qJ (n:=4) (by kernel_rfl) rfl rfl rfl rfl (cac rfl (cac nvc (cac rfl (cac nvc can)))) rfl)) az)) ?_)
 refine Goes.ret ?_
 obtain rfl:=si h
 exact(gw2 [.agg (ni2 b.s b.w a.Den.s a.Den.w)] (FzW.agg (qc.cons (Ua tI) (qc.cons (Ua (qo (qa .u64) _ (nl rfl))) (qc.cons (Ua tI) (qc.cons (Ua (qo (qa .u64) _ (nl rfl))) qc.nil))))))
def vI (N:Nat) (a:qj) (b:qj):Option qj:=
 (qa0 b).bind fun c=>
 (xu N a c).bind fun d=>
 some d
theorem qax (N:Nat) (a:qj) (b:qj) {res:qj} (h:vI N a b=some res):qb ZT (.fn 89) [.agg (nq1 a),.agg (nq1 b)] [] (.agg (nq1 res)) []:=by
 unfold vI at h
 refine Ub Tryz.func89 rfl rfl (m:=9) rfl (rs:=[.cell 4 100]) rfl (l:=[(0,.agg (nq1 a)),(1,.agg (nq1 b))]) rfl ?_
 refine sg fol (kD []) (.cells (nq1 a):: .cells (nq1 b)::(kF [])) ?_
 obtain⟨f,c,h⟩:=bnd h
 obtain⟨e,d,h⟩:=bnd h
 refine sq (gq fol [2,3,4] (kAG []) [.cells (nq1 a),.cells (nq1 b),.cells (nq1 e)] (ac (cv (qgg b c)) (ac (cv (qbD N a f d)) (ac (hs (.run [2] (qm ZT 100 (.ptr 2 0) (.agg (nq1 e))) (.cells (nq1 a):: .cells (nq1 b)::(kF [])) .undef [.cells (nq1 a),.cells (nq1 b),.cells (nq1 e)] true) (qJ (n:=4) (by kernel_rfl) rfl rfl rfl rfl (cac rfl (cac nvc (cac rfl (cac nvc can)))) rfl)) az))) ?_)
 refine Goes.ret ?_
 obtain rfl:=si h
 exact(gw2 [.agg (nq1 e)] (FzW.agg (qc.cons (Ua tI) (qc.cons (Ua (qo (qa .u64) _ (nl rfl))) (qc.cons (Ua tI) (qc.cons (Ua (qo (qa .u64) _ (nl rfl))) qc.nil))))))
def jP (vals:List Int):Nat->Int->Option (Unit⊕Int)
 |0,_=>none
 |K+1,a=>
  if a<(vals.length:Int)then
  (idx vals a).bind fun b=>
  if(!decide (b=0))=true then
  some (.inr b)
  else
  jP vals K (w64 (a+1))
  else
  some (.inl ())
def qb5 (N:Nat) (vals:List Int):Option Int:=
 (jP vals N 0).bind (fun
 |(.inl ())=>
 some 0
 |(.inr a)=>
 some a)
theorem qh5 (N:Nat) (vals:List Int) {res:Int} (h:qb5 N vals=some res):qb ZT (.fn 91) [vl encI vals] [] (.i res) []:=by
 unfold qb5 at h
 refine Ub Tryz.func91 rfl rfl (m:=18) rfl (rs:=[.tmp 2]) rfl (l:=(kAq vals [])) rfl ?_
 refine sh fol (kAq vals []) ?_
 refine sh fol (kAq vals [(3,.i 0)]) ?_
 refine sq ?_
 refine sh fol [(3,.i 0),(6,vl encI vals),(7,.i (vals.length:Int)),(8,.i 0)] ?_
 refine Goes.block ?_
 obtain⟨d,g2,h⟩:=bnd h
 refine Goes.imp (Q:=fun x s'=>(x= .exit 0/\(.inl ())=d/\Sub s' (ofG 18 [(3,.i 0)],[]))\/(x= .ret/\ ∃e,(.inr e)=d/\jZ ZT [.tmp 2] (.i e) .ret s')) ?_ ?_
 ·refine Uc (fun M s=> ∃(a:Int),s=(ofG 18 ((3,.i 0)::(6,vl encI vals)::(kAR (vals.length:Int) a)),[])/\jP vals M a=some d) ?_ (m:=N) ⟨_,rfl,g2⟩
  rintro M s ⟨a,rfl,g2⟩
  cases M with
  |zero=>simp only[jP]at g2;cases g2
  |succ M=>
   rw[jP]at g2
   refine sh fol [(3,.i 0),(6,vl encI vals),(7,.i (vals.length:Int)),(8,.i a),(9,.bool (decide (a<(vals.length:Int))))] ?_
   refine sq ?_
   refine ihD g2 (fun f g2=>?_) (fun f g2=>?_)
   ·refine Goes.skip ?_
    refine sq (Goes.block ?_)
    obtain⟨c,b,g2⟩:=bnd g2
    refine sq (gr fol [0,1] ((3,.i 0)::(5,.i c)::(6,vl encI vals)::(kAR (vals.length:Int) a)) (ac (iv jR encI b) (ac (lv 0 ce3 encI b rfl) az)) ?_)
    refine sh fol [(3,.i 0),(5,.i c),(6,vl encI vals),(7,.i (vals.length:Int)),(8,.i a),(14,.bool (!decide (c=0)))] ?_
    refine ihB g2 (fun g g2=>?_) (fun g g2=>?_)
    ·refine sh fol [(2,.i c)] ?_
     refine Goes.ret ?_
     obtain rfl:=si g2
     exact Or.inr (⟨rfl,_,rfl,(gw2 [.i c] (Ua tI))⟩)
    refine Goes.skip ?_
    refine gh fol ((3,.i 0)::(6,vl encI vals)::(kAR (vals.length:Int) (w64 (a+1)))) ?_
    exact⟨M,(ofG 18 ((3,.i 0)::(6,vl encI vals)::(kAR (vals.length:Int) (w64 (a+1)))),[]),Nat.lt_succ_self _,(Sub.refl _),_,rfl,g2⟩
   refine Goes.exit ?_
   obtain rfl:=si g2
   exact Or.inl (⟨rfl,rfl,(Sub.keep [3] rfl rfl)⟩)
 rintro x s' (⟨rfl,rfl,hsub⟩|⟨rfl,j,rfl,hret⟩)
 ·try dsimp only at h
  refine Goes.sub hsub ?_
  refine sh fol [(2,.i 0)] ?_
  refine Goes.ret ?_
  obtain rfl:=si h
  exact(gw2 [.i 0] (Ua tI))
 try dsimp only at h
 obtain rfl:=si h
 exact hret
def qat (a:qj):Option Int:=
 (qX a.Num).bind fun b=>
 some b
theorem qfG (a:qj) {res:Int} (h:qat a=some res):qb ZT (.fn 123) [.agg (nq1 a)] [] (.i res) []:=by
 unfold qat at h
 refine Ub Tryz.func123 rfl rfl (m:=6) rfl (rs:=[.tmp 2]) rfl (l:=[(0,.agg (nq1 a))]) rfl ?_
 refine sg fol (kAc []) [.cells (nq1 a)] ?_
 obtain⟨c,b,h⟩:=bnd h
 refine sq (gr fol [2] [(2,.i c)] (ac (cv (yo a.Num b)) az) ?_)
 refine Goes.ret ?_
 obtain rfl:=si h
 exact(gw2 [.i c] (Ua tI))
def qbg (N:Nat) (a:qj) (b:qj):Option qj:=
 (vI N a b).bind fun c=>
 (qat c).bind fun d=>
 if d<0 then
 (vI N b a).bind fun e=>
 some e
 else
 some c
theorem qeG (N:Nat) (a:qj) (b:qj) {res:qj} (h:qbg N a b=some res):qb ZT (.fn 92) [.agg (nq1 a),.agg (nq1 b)] [] (.agg (nq1 res)) []:=by
 unfold qbg at h
 refine Ub Tryz.func92 rfl rfl (m:=16) rfl (rs:=[.cell 4 100]) rfl (l:=[(0,.agg (nq1 a)),(1,.agg (nq1 b))]) rfl ?_
 refine sg fol (kD []) (.cells (nq1 a):: .cells (nq1 b)::(kF [])) ?_
 obtain⟨c,d,h⟩:=bnd h
 refine sq (gq fol [2,4] (kD (kAs [])) (.cells (nq1 a):: .cells (nq1 b)::(kF [.cells (nq1 c)])) (ac (cv (qax N a b d)) (ac (hs (.run [3] (qm ZT 100 (.ptr 3 0) (.agg (nq1 c))) (.cells (nq1 a):: .cells (nq1 b)::(kF (kF []))) .undef (.cells (nq1 a):: .cells (nq1 b)::(kF [.cells (nq1 c)])) true) (qJ (n:=4) (by kernel_rfl) rfl rfl rfl rfl (cac rfl (cac nvc (cac rfl (cac nvc can)))) rfl)) az)) ?_)
 refine sq ?_
 obtain⟨i,e,h⟩:=bnd h
 refine sq (gr fol [1] (kD (kAs [(11,.bool (decide (i<0)))])) (ac (cv (qfG c e)) az) ?_)
 refine ihD h (fun j h=>?_) (fun j h=>?_)
 ·obtain⟨g,f,h⟩:=bnd h
  refine sq (gq fol [2,3] (kAG []) [.cells (nq1 a),.cells (nq1 b),.cells (nq1 g),.cells (nq1 c)] (ac (cv (qax N b a f)) (ac (hs (.run [2] (qm ZT 100 (.ptr 2 0) (.agg (nq1 g))) (.cells (nq1 a):: .cells (nq1 b)::(kF [.cells (nq1 c)])) .undef [.cells (nq1 a),.cells (nq1 b),.cells (nq1 g),.cells (nq1 c)] true) (qJ (n:=4) (by kernel_rfl) rfl rfl rfl rfl (cac rfl (cac nvc (cac rfl (cac nvc can)))) rfl)) az)) ?_)
  refine Goes.ret ?_
  obtain rfl:=si h
  exact(gw2 [.agg (nq1 g)] (FzW.agg (qc.cons (Ua tI) (qc.cons (Ua (qo (qa .u64) _ (nl rfl))) (qc.cons (Ua tI) (qc.cons (Ua (qo (qa .u64) _ (nl rfl))) qc.nil))))))
 refine Goes.skip ?_
 refine sq (gq fol [1] (kAG []) [.cells (nq1 a),.cells (nq1 b),.cells (nq1 c),.cells (nq1 c)] (ac (hs (.run [2] (qm ZT 100 (.ptr 2 0) (.agg (nq1 c))) (.cells (nq1 a):: .cells (nq1 b)::(kF [.cells (nq1 c)])) .undef [.cells (nq1 a),.cells (nq1 b),.cells (nq1 c),.cells (nq1 c)] true) (qJ (n:=4) (by kernel_rfl) rfl rfl rfl rfl (cac rfl (cac nvc (cac rfl (cac nvc can)))) rfl)) az) ?_)
 refine Goes.ret ?_
 obtain rfl:=si h
 exact(gw2 [.agg (nq1 c)] (FzW.agg (qc.cons (Ua tI) (qc.cons (Ua (qo (qa .u64) _ (nl rfl))) (qc.cons (Ua tI) (qc.cons (Ua (qo (qa .u64) _ (nl rfl))) qc.nil))))))
end Go.Av
