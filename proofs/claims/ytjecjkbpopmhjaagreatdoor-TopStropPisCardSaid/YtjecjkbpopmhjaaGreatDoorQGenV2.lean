/-
  Walks of functions: what each computes, as a plain function.
-/
import Derived.Test.YtjecjkbpopmhjaaGreatDoorQGenV1
noncomputable section
namespace Go.Av
open Go.Proofs Go.RowKit
set_option linter.unusedSectionVars false
set_option linter.unusedVariables false
set_option linter.unusedSimpArgs false
set_option maxRecDepth 100000
def stringslite_HasPrefix (b:Str) (a:Str):Option Bool:=
 (if(b.length:Int)>=(a.length:Int)then
 (cut b 0 (a.length:Int)).bind fun c=>
 some (c==a)
 else
 some false:Option Bool).bind fun d=>
 some d
theorem yJ (c:Str) (a:Str) {res:Bool} (h:stringslite_HasPrefix c a=some res):qb ZT (.fn 133) (kA9 c a) [] (.bool res) []:=by
 unfold stringslite_HasPrefix at h
 refine Ub Tryz.func133 rfl rfl (m:=18) rfl (rs:=[.tmp 4]) rfl (l:=(kR c a [])) rfl ?_
 refine sh fol (kR c a []) ?_
 refine sq ?_
 obtain⟨f,b,h⟩:=bnd h
 refine Goes.cut (s':=(ofG 18 (kA6 f),[])) ?_ ?_
 ·rcases wyD b with⟨e,b⟩|⟨e,b⟩
  ·obtain⟨g,d,b⟩:=bnd b
   obtain rfl:=si b
   exact tr fol [5,9] (kA6 (g==a)) (ac (gw e) (ac (hs (.done (.opt (qV ZT 9 (.str c) none (some (.i (a.length:Int))) none)) (.str g)) (zT st9 none (some (a.length:Int)) d)) az))
  obtain rfl:=si b
  exact tr fol [5] kBK (ac (gw e) az)
 refine Goes.ret ?_
 obtain rfl:=si h
 exact(gw2 [.bool f] (Ua tB))
def strings_HasPrefix (b:Str) (a:Str):Option Bool:=
 (stringslite_HasPrefix b a).bind fun c=>
 some c
theorem qdS (b:Str) (a:Str) {res:Bool} (h:strings_HasPrefix b a=some res):qb ZT (.fn 95) (kA9 b a) [] (.bool res) []:=by
 unfold strings_HasPrefix at h
 refine Ub Tryz.func95 rfl rfl (m:=8) rfl (rs:=[.tmp 4]) rfl (l:=(kR b a [])) rfl ?_
 refine sh fol (kR b a []) ?_
 obtain⟨d,c,h⟩:=bnd h
 refine sq (gr fol [2] (kA6 d) (ac (cv (yJ b a c)) az) ?_)
 refine Goes.ret ?_
 obtain rfl:=si h
 exact(gw2 [.bool d] (Ua tB))
def stringslite_TrimPrefix (b:Str) (a:Str):Option Str:=
 (stringslite_HasPrefix b a).bind fun c=>
 if c=true then
 (cut b (a.length:Int) (b.length:Int)).bind fun d=>
 some d
 else
 some b
theorem qcg (b:Str) (a:Str) {res:Str} (h:stringslite_TrimPrefix b a=some res):qb ZT (.fn 134) (kA9 b a) [] (.str res) []:=by
 unfold stringslite_TrimPrefix at h
 refine Ub Tryz.func134 rfl rfl (m:=13) rfl (rs:=[.tmp 4]) rfl (l:=(kR b a [])) rfl ?_
 refine sh fol (kR b a []) ?_
 refine sq ?_
 obtain⟨f,c,h⟩:=bnd h
 refine sq (gr fol [2] (kR b a [(7,.bool f)]) (ac (cv (yJ b a c)) az) ?_)
 refine ihB h (fun g h=>?_) (fun g h=>?_)
 ·obtain⟨e,d,h⟩:=bnd h
  refine sq (gr fol [3] [(4,.str e)] (ac (hs (.done (.opt (qV ZT 9 (.str b) (some (.i (a.length:Int))) none none)) (.str e)) (zT st9 (some (a.length:Int)) none d)) az) ?_)
  refine Goes.ret ?_
  obtain rfl:=si h
  exact(gw2 [.str e] (Ua tS))
 refine Goes.skip ?_
 refine sh fol [(4,.str b)] ?_
 refine Goes.ret ?_
 obtain rfl:=si h
 exact(gw2 [.str b] (Ua tS))
def strings_TrimPrefix (b:Str) (a:Str):Option Str:=
 (stringslite_TrimPrefix b a).bind fun c=>
 some c
theorem qbe (b:Str) (a:Str) {res:Str} (h:strings_TrimPrefix b a=some res):qb ZT (.fn 96) (kA9 b a) [] (.str res) []:=by
 unfold strings_TrimPrefix at h
 refine Ub Tryz.func96 rfl rfl (m:=8) rfl (rs:=[.tmp 4]) rfl (l:=(kR b a [])) rfl ?_
 refine sh fol (kR b a []) ?_
 obtain⟨d,c,h⟩:=bnd h
 refine sq (gr fol [2] [(4,.str d)] (ac (cv (qcg b a c)) az) ?_)
 refine Goes.ret ?_
 obtain rfl:=si h
 exact(gw2 [.str d] (Ua tS))
def jY (N:Nat):Nat->Int->(List Int)->Int->(List Int)->Int->Option (Int×(List Int))
 |0,_,_,_,_,_=>none
 |K+1,e,f,h,i,g=>
  if g>0 then
  ((((if(qB .i64 g 1)=1 then
  (kr N (⟨h,i⟩:qj) (⟨e,f⟩:qj)).bind fun a=>
  some (a.s,a.w)
  else
  some (h,i):Option (Int×(List Int)))).bind fun(b,c)=>
  if g>1 then
  (kr N (⟨e,f⟩:qj) (⟨e,f⟩:qj)).bind fun d=>
  some (d.s,d.w,b,c)
  else
  some (e,f,b,c):Option (Int×(List Int)×Int×(List Int)))).bind fun(j,k,l,m)=>
  jY N K j k l m (qw .i64 g 1)
  else
  some (h,i)
def qby (N:Nat) (a:qj) (k:Int):Option qj:=
 (qbX 1).bind fun b=>
 (jY N N a.s a.w b.s b.w k).bind fun(c,d)=>
 some (⟨c,d⟩:qj)
theorem qhq (N:Nat) (a:qj) (k:Int) {res:qj} (h:qby N a k=some res):qb ZT (.fn 98) [.agg (nz1 a),.i k] [] (.agg (nz1 res)) []:=by
 unfold qby at h
 refine Ub Tryz.func98 rfl rfl (m:=23) rfl (rs:=[.cell 4 55]) rfl (l:=[(0,.agg (nz1 a)),(1,.i k)]) rfl ?_
 refine sg fol ((1,.i k)::(kU (kBZ []))) [.cells (nz1 a),bZ] ?_
 obtain⟨B,y,h⟩:=bnd h
 refine sq (gq fol [0,2] ((1,.i k)::(kU (kAX []))) [.cells (nz1 a),bZ,.cells (nz1 B)] (ac (cv (qbp 1 y)) (ac (hs (.run [2] (qp ZT 55 (.ptr 2 0) (.agg (nz1 B))) [.cells (nz1 a),bZ,bZ] .undef [.cells (nz1 a),bZ,.cells (nz1 B)] true) (ku (n:=2) (by kernel_rfl) rfl rfl rfl rfl (cac rfl (cac nvc can)) rfl)) az)) ?_)
 refine sq (Goes.block ?_)
 obtain⟨H,g9,h⟩:=bnd h
 refine Goes.imp (Q:=fun x s'=>(x= .exit 0/\ ∃g j,(g,j)=H/\Sub s' (ofG 23 (kY []),[bZ,.cells (ni1 g j)]))) ?_ ?_
 ·refine Uc (fun M s=> ∃(e:Int) (f:List Int) (z:Int) (A:List Int) (b:Int),s=(ofG 23 ((1,.i b)::(kU (kAX []))),[.cells (ni1 e f),bZ,.cells (ni1 z A)])/\jY N M e f z A b=some H) ?_ (m:=N) ⟨_,_,_,_,_,rfl,g9⟩
  rintro M s ⟨e,f,z,A,b,rfl,g9⟩
  cases M with
  |zero=>simp only[jY]at g9;cases g9
  |succ M=>
   rw[jY]at g9
   refine sq ?_
   refine sh fol ((1,.i b)::(kU (kAX (kBX (decide (b>0)))))) ?_
   refine ihD g9 (fun C g9=>?_) (fun C g9=>?_)
   ·refine Goes.skip ?_
    refine sq ?_
    obtain⟨D,g15,g9⟩:=bnd g9
    refine Goes.imp (Q:=fun x s'=>(x= .normal/\ ∃o p q r,(o,p,q,r)=D/\Sub s' (ofG 23 ((1,.i b)::(kU (kAX []))),[.cells (ni1 o p),bZ,.cells (ni1 q r)]))) ?_ ?_
    ·refine Goes.block ?_
     refine sq ?_
     refine sh fol ((1,.i b)::(kU (kAX (kBU (decide ((qB .i64 b 1)=1)))))) ?_
     obtain⟨E,g18,g15⟩:=bnd g15
     refine Goes.imp (Q:=fun x s'=>(x= .normal/\ ∃c d,(c,d)=E/\Sub s' (ofG 23 ((1,.i b)::(kU (kAX []))),[.cells (ni1 e f),bZ,.cells (ni1 c d)]))) ?_ ?_
     ·refine ihD g18 (fun F g18=>?_) (fun F g18=>?_)
      ·obtain⟨t,u,g18⟩:=bnd g18
       refine gq fol [2,3] ((1,.i b)::(kU (kAX []))) [.cells (ni1 e f),bZ,.cells (nz1 t)] (ac (cv (vW N (⟨z,A⟩:qj) (⟨e,f⟩:qj) u)) (ac (hs (.run [2] (qp ZT 55 (.ptr 2 0) (.agg (nz1 t))) [.cells (ni1 e f),bZ,.cells (ni1 z A)] .undef [.cells (ni1 e f),bZ,.cells (nz1 t)] true) (ku (n:=2) (by kernel_rfl) rfl rfl rfl rfl (cac rfl (cac nvc can)) rfl)) az)) ?_
       obtain rfl:=si g18
       exact⟨rfl,_,_,rfl,(Sub.refl _)⟩
      refine Goes.skip ?_
      obtain rfl:=si g18
      exact⟨rfl,_,_,rfl,(Sub.keep [1,2,4,5] rfl rfl)⟩
     rintro x s' ⟨rfl,c,d,rfl,hsub⟩
     try dsimp only at g15
     refine Goes.sub hsub ?_
     refine sh fol ((1,.i b)::(kU (kAX [(18,.bool (decide (b>1)))]))) ?_
     refine ihD g15 (fun G g15=>?_) (fun G g15=>?_)
     ·obtain⟨v,w,g15⟩:=bnd g15
      refine gq fol [2,3] ((1,.i b)::(kU (kAX []))) [.cells (nz1 v),bZ,.cells (ni1 c d)] (ac (cv (vW N (⟨e,f⟩:qj) (⟨e,f⟩:qj) w)) (ac (hs (.run [0] (qp ZT 55 (.ptr 0 0) (.agg (nz1 v))) [.cells (ni1 e f),bZ,.cells (ni1 c d)] .undef [.cells (nz1 v),bZ,.cells (ni1 c d)] true) (ku (n:=2) (by kernel_rfl) rfl rfl rfl rfl (cac rfl (cac nvc can)) rfl)) az)) ?_
      obtain rfl:=si g15
      exact⟨rfl,_,_,_,_,rfl,(Sub.refl _)⟩
     refine Goes.skip ?_
     obtain rfl:=si g15
     exact⟨rfl,_,_,_,_,rfl,(Sub.keep [1,2,4,5] rfl rfl)⟩
    rintro x s' ⟨rfl,o,p,q,r,rfl,hsub⟩
    try dsimp only at g9
    refine Goes.sub hsub ?_
    refine gh fol ((1,.i (qw .i64 b 1))::(kU (kAX []))) ?_
    exact⟨M,(ofG 23 ((1,.i (qw .i64 b 1))::(kU (kAX []))),[.cells (ni1 o p),bZ,.cells (ni1 q r)]),Nat.lt_succ_self _,(Sub.refl _),_,_,_,_,_,rfl,g9⟩
   refine Goes.exit ?_
   obtain rfl:=si g9
   exact⟨rfl,_,_,rfl,(Sub.norm [] [some 1,some 2] rfl rfl (.drop (.drop (.kp (.kp .nil)))) (.kb rfl (.same sn) (.kb rfl (.same sn) .nil)))⟩
 rintro x s' ⟨rfl,g,j,rfl,hsub⟩
 try dsimp only at h
 refine Goes.sub hsub ?_
 refine sq (gq fol [1] (kAd []) [.cells (ni1 g j),.cells (ni1 g j)] (ac (hs (.run [0] (qp ZT 55 (.ptr 0 0) (.agg (ni1 g j))) [bZ,.cells (ni1 g j)] .undef [.cells (ni1 g j),.cells (ni1 g j)] true) (ku (n:=2) (by kernel_rfl) rfl rfl rfl rfl (cac rfl (cac nvc can)) rfl)) az) ?_)
 refine Goes.ret ?_
 obtain rfl:=si h
 exact(gw2 [.agg (ni1 g j)] (FzW.agg (qc.cons (Ua tI) (qc.cons (Ua (qz (qa .u64) _ (nl rfl))) qc.nil))))
def zQ (a:qj):Option qj:=
 (if a.w.isEmpty=true then
 some (!decide (a.s=(-9223372036854775808)))
 else
 some false:Option Bool).bind fun c=>
 if c=true then
 some (⟨w64 (0-a.s),[]⟩:qj)
 else
 (qK a).bind fun b=>
 (vC (!b.1) b.2).bind fun d=>
 some d
theorem yf (a:qj) {res:qj} (h:zQ a=some res):qb ZT (.fn 99) [.agg (nz1 a)] [] (.agg (nz1 res)) []:=by
 unfold zQ at h
 refine Ub Tryz.func99 rfl rfl (m:=26) rfl (rs:=[.cell 2 55]) rfl (l:=[(0,.agg (nz1 a))]) rfl ?_
 refine sg fol (kAY kAo) [.cells (nz1 a),bZ] ?_
 refine sq ?_
 refine sq ?_
 obtain⟨j,b,h⟩:=bnd h
 refine Goes.cut (s':=(ofG 26 (kAY ((2,.ptr 1 0)::(kBM j))),[.cells (nz1 a),bZ])) ?_ ?_
 ·rcases wyB b with⟨g,b⟩|⟨g,b⟩
  ·obtain rfl:=si b
   exact tr fol [2,3] (kAY ((2,.ptr 1 0)::(kBM (!decide (a.s=(-9223372036854775808)))))) (ac (hs (.done (.opt (ko ZT .eql 53 (.tmp 6) (.const (.slice none 0 0)) (nvl (qa .u64) a.w) .nilslice)) (.bool a.w.isEmpty)) (qaB qaw)) (ac (gw g) az))
  obtain rfl:=si b
  exact tr fol [2,3] (kAY [(2,.ptr 1 0),(12,.bool false)]) (ac (hs (.done (.opt (ko ZT .eql 53 (.tmp 6) (.const (.slice none 0 0)) (nvl (qa .u64) a.w) .nilslice)) (.bool a.w.isEmpty)) (qaB qaw)) (ac (gw g) az))
 refine ihB h (fun k h=>?_) (fun k h=>?_)
 ·refine sg fol kAo (.cells (nz1 a)::(kA2 (w64 (0-a.s)))) ?_
  refine Goes.ret ?_
  obtain rfl:=si h
  exact(gw2 [.agg [.i (w64 (0-a.s)),.nilslice]] (FzW.agg (qc.cons (Ua tI) (qc.cons (FzW.nv0 (E:=(qa .u64))) qc.nil))))
 refine Goes.skip ?_
 obtain⟨e,c,h⟩:=bnd h
 refine sq (gr fol [1] ((2,.ptr 1 0)::(kBP e.1 [(4,vl (qa .u64) e.2)])) (ac (cv (zM a c)) az) ?_)
 obtain⟨f,d,h⟩:=bnd h
 refine sq (gq fol [3,4] kAo [.cells (nz1 a),.cells (nz1 f)] (ac (cv (xR (!e.1) e.2 d)) (ac (hs (.run [1] (qp ZT 55 (.ptr 1 0) (.agg (nz1 f))) [.cells (nz1 a),bZ] .undef [.cells (nz1 a),.cells (nz1 f)] true) (ku (n:=2) (by kernel_rfl) rfl rfl rfl rfl (cac rfl (cac nvc can)) rfl)) az)) ?_)
 refine Goes.ret ?_
 obtain rfl:=si h
 exact(gw2 [.agg (nz1 f)] (FzW.agg (qc.cons (Ua tI) (qc.cons (Ua (qz (qa .u64) _ (nl rfl))) qc.nil))))
def xc (N:Nat):Nat->Int->(List Int)->Str->Option (Int×(List Int))
 |0,_,_,_=>none
 |K+1,j,k,a=>
  if(a.length:Int)>0 then
  (cut a 0 (if(a.length:Int)<18 then(a.length:Int)else 18)).bind fun c=>
  (qkj c).bind fun d=>
  (qbX 10).bind fun e=>
  (qby N e (if(a.length:Int)<18 then(a.length:Int)else 18)).bind fun f=>
  (kr N (⟨j,k⟩:qj) f).bind fun g=>
  (qbX d.1).bind fun h=>
  (yH N g h).bind fun b=>
  (cut a (if(a.length:Int)<18 then(a.length:Int)else 18) (a.length:Int)).bind fun i=>
  xc N K b.s b.w i
  else
  some (j,k)
def qac (N:Nat) (b:Str):Option qj:=
 (strings_HasPrefix b [45]).bind fun e=>
 (strings_TrimPrefix b [45]).bind fun f=>
 (xc N N 0 [] f).bind fun(c,d)=>
 if e=true then
 (zQ (⟨c,d⟩:qj)).bind fun a=>
 some a
 else
 some (⟨c,d⟩:qj)
theorem qaa (N:Nat) (g:Str) {res:qj} (h:qac N g=some res):qb ZT (.fn 59) [.str g] [] (.agg (nz1 res)) []:=by
 unfold qac at h
 refine Ub Tryz.func59 rfl rfl (m:=41) rfl (rs:=[.cell 2 55]) rfl (l:=(kAQ g [])) rfl ?_
 refine sg fol (kAQ g (kU [])) [bZ] ?_
 obtain⟨d,y,h⟩:=bnd h
 refine sq (gr fol [1] (kAQ g (kU (kBP d []))) (ac (cv (qdS g [45] y)) az) ?_)
 obtain⟨J,z,h⟩:=bnd h
 refine sq (gr fol [1] (kAQ J (kU (kBP d []))) (ac (cv (qbe g [45] z)) az) ?_)
 refine sg fol (kAQ J (kU (kAx d []))) [bZ,bZ] ?_
 refine sq (Goes.block ?_)
 obtain⟨K,g8,h⟩:=bnd h
 refine Goes.imp (Q:=fun x s'=>(x= .exit 0/\ ∃b c,(b,c)=K/\Sub s' (ofG 41 (kU (kAx d [])),[bZ,.cells (ni1 b c)]))) ?_ ?_
 ·refine Uc (fun M s=> ∃(A:Int) (B:List Int) (a:Str),s=(ofG 41 (kAQ a (kU (kAx d []))),[bZ,.cells (ni1 A B)])/\xc N M A B a=some K) ?_ (m:=N) ⟨_,_,_,rfl,g8⟩
  rintro M s ⟨A,B,a,rfl,g8⟩
  cases M with
  |zero=>simp only[xc]at g8;cases g8
  |succ M=>
   rw[xc]at g8
   refine sq ?_
   refine sh fol (kAQ a (kU (kAx d [(15,.bool (decide ((a.length:Int)>0)))]))) ?_
   refine ihD g8 (fun L g8=>?_) (fun L g8=>?_)
   ·refine Goes.skip ?_
    refine Goes.block ?_
    refine sh fol (kAQ a (kU (kAx d (kA4 (if(a.length:Int)<18 then(a.length:Int)else 18))))) ?_
    obtain⟨C,j,g8⟩:=bnd g8
    obtain⟨D,k,g8⟩:=bnd g8
    refine sq (gr fol [2,3] (kAQ a (kU (kAx d ((5,.i (if(a.length:Int)<18 then(a.length:Int)else 18))::(kBR D.1))))) (ac (hs (.done (.opt (qV ZT 9 (.str a) none (some (.i (if(a.length:Int)<18 then(a.length:Int)else 18))) none)) (.str C)) (zT st9 none (some (if(a.length:Int)<18 then(a.length:Int)else 18)) j)) (ac (cv (qnD C k)) az)) ?_)
    obtain⟨E,o,g8⟩:=bnd g8
    obtain⟨F,p,g8⟩:=bnd g8
    obtain⟨G,q,g8⟩:=bnd g8
    obtain⟨H,r,g8⟩:=bnd g8
    obtain⟨e,t,g8⟩:=bnd g8
    refine sq (gq fol [1,3,4,6,7,8] (kAQ a (kU (kAx d (kA4 (if(a.length:Int)<18 then(a.length:Int)else 18))))) [bZ,.cells (nz1 e)] (ac (cv (qbp 10 o)) (ac (cv (qhq N E (if(a.length:Int)<18 then(a.length:Int)else 18) p)) (ac (cv (vW N (⟨A,B⟩:qj) F q)) (ac (cv (qbp D.1 r)) (ac (cv (qa5 N G H t)) (ac (hs (.run [1] (qp ZT 55 (.ptr 1 0) (.agg (nz1 e))) [bZ,.cells (ni1 A B)] .undef [bZ,.cells (nz1 e)] true) (ku (n:=2) (by kernel_rfl) rfl rfl rfl rfl (cac rfl (cac nvc can)) rfl)) az)))))) ?_)
    obtain⟨u,v,g8⟩:=bnd g8
    refine gr fol [2] (kAQ u (kU (kAx d []))) (ac (hs (.done (.opt (qV ZT 9 (.str a) (some (.i (if(a.length:Int)<18 then(a.length:Int)else 18))) none none)) (.str u)) (zT st9 (some (if(a.length:Int)<18 then(a.length:Int)else 18)) none v)) az) ?_
    exact⟨M,(ofG 41 (kAQ u (kU (kAx d []))),[bZ,.cells (nz1 e)]),Nat.lt_succ_self _,(Sub.refl _),_,_,_,rfl,g8⟩
   refine Goes.exit ?_
   obtain rfl:=si g8
   exact⟨rfl,_,_,rfl,(Sub.keep [2,3,4] rfl rfl)⟩
 rintro x s' ⟨rfl,b,c,rfl,hsub⟩
 try dsimp only at h
 refine Goes.sub hsub ?_
 refine sq ?_
 refine sh fol (kU (kBZ [(37,.bool d)])) ?_
 refine ihB h (fun I h=>?_) (fun I h=>?_)
 ·obtain⟨f,w,h⟩:=bnd h
  refine sq (gq fol [1,2] (kU []) [.cells (nz1 f),.cells (ni1 b c)] (ac (cv (yf (⟨b,c⟩:qj) w)) (ac (hs (.run [0] (qp ZT 55 (.ptr 0 0) (.agg (nz1 f))) [bZ,.cells (ni1 b c)] .undef [.cells (nz1 f),.cells (ni1 b c)] true) (ku (n:=2) (by kernel_rfl) rfl rfl rfl rfl (cac rfl (cac nvc can)) rfl)) az)) ?_)
  refine Goes.ret ?_
  obtain rfl:=si h
  exact(gw2 [.agg (nz1 f)] (FzW.agg (qc.cons (Ua tI) (qc.cons (Ua (qz (qa .u64) _ (nl rfl))) qc.nil))))
 refine Goes.skip ?_
 refine sq (gq fol [1] (kU []) [.cells (ni1 b c),.cells (ni1 b c)] (ac (hs (.run [0] (qp ZT 55 (.ptr 0 0) (.agg (ni1 b c))) [bZ,.cells (ni1 b c)] .undef [.cells (ni1 b c),.cells (ni1 b c)] true) (ku (n:=2) (by kernel_rfl) rfl rfl rfl rfl (cac rfl (cac nvc can)) rfl)) az) ?_)
 refine Goes.ret ?_
 obtain rfl:=si h
 exact(gw2 [.agg (ni1 b c)] (FzW.agg (qc.cons (Ua tI) (qc.cons (Ua (qz (qa .u64) _ (nl rfl))) qc.nil))))
def stringslite_CutPrefix (b:Str) (a:Str):Option (Str×Bool):=
 (stringslite_HasPrefix b a).bind fun c=>
 if(!c)=true then
 some (b,false)
 else
 (cut b (a.length:Int) (b.length:Int)).bind fun d=>
 some (d,true)
theorem qcw (b:Str) (a:Str) {res:Str×Bool} (h:stringslite_CutPrefix b a=some res):qb ZT (.fn 117) (kA9 b a) [] (.tuple [.str res.1,.bool res.2]) []:=by
 unfold stringslite_CutPrefix at h
 refine Ub Tryz.func117 rfl rfl (m:=15) rfl (rs:=[.tmp 4,.tmp 5]) rfl (l:=(kR b a [])) rfl ?_
 refine sh fol (kR b a []) ?_
 refine sq ?_
 obtain⟨f,c,h⟩:=bnd h
 refine sq (gr fol [2] (kR b a [(9,.bool (!f))]) (ac (cv (yJ b a c)) az) ?_)
 refine ihB h (fun g h=>?_) (fun g h=>?_)
 ·refine sh fol [(4,.str b),(5,.bool false)] ?_
  refine Goes.ret ?_
  obtain rfl:=si h
  exact(gw2 [.str b,.bool false] (FzW.tuple (qc.cons (Ua tS) (qc.cons (Ua tB) qc.nil))))
 refine Goes.skip ?_
 obtain⟨e,d,h⟩:=bnd h
 refine sq (gr fol [3] [(4,.str e),(5,.bool true)] (ac (hs (.done (.opt (qV ZT 9 (.str b) (some (.i (a.length:Int))) none none)) (.str e)) (zT st9 (some (a.length:Int)) none d)) az) ?_)
 refine Goes.ret ?_
 obtain rfl:=si h
 exact(gw2 [.str e,.bool true] (FzW.tuple (qc.cons (Ua tS) (qc.cons (Ua tB) qc.nil))))
def strings_CutPrefix (c:Str) (a:Str):Option (Str×Bool):=
 (stringslite_CutPrefix c a).bind fun b=>
 some (b.1,b.2)
theorem qd1 (b:Str) (a:Str) {res:Str×Bool} (h:strings_CutPrefix b a=some res):qb ZT (.fn 74) (kA9 b a) [] (.tuple [.str res.1,.bool res.2]) []:=by
 unfold strings_CutPrefix at h
 refine Ub Tryz.func74 rfl rfl (m:=11) rfl (rs:=[.tmp 4,.tmp 5]) rfl (l:=(kR b a [])) rfl ?_
 refine sh fol (kR b a []) ?_
 obtain⟨d,c,h⟩:=bnd h
 refine sq (gr fol [2] [(4,.str d.1),(5,.bool d.2)] (ac (cv (qcw b a c)) az) ?_)
 refine Goes.ret ?_
 obtain rfl:=si h
 exact(gw2 [.str d.1,.bool d.2] (FzW.tuple (qc.cons (Ua tS) (qc.cons (Ua tB) qc.nil))))
def stringslite_IndexByte (a:Str) (c:Int):Option Int:=
 (qja a c).bind fun b=>
 some b
theorem qcE (a:Str) (c:Int) {res:Int} (h:stringslite_IndexByte a c=some res):qb ZT (.fn 163) [.str a,.int .u8 c] [] (.i res) []:=by
 unfold stringslite_IndexByte at h
 refine Ub Tryz.func163 rfl rfl (m:=8) rfl (rs:=[.tmp 4]) rfl (l:=(kAQ a [(1,.int .u8 c)])) rfl ?_
 refine sh fol (kAQ a [(1,.int .u8 c)]) ?_
 obtain⟨d,b,h⟩:=bnd h
 refine sq (gr fol [2] [(4,.i d)] (ac (cv (qmj a c b)) az) ?_)
 refine Goes.ret ?_
 obtain rfl:=si h
 exact(gw2 [.i d] (Ua tI))
def stringslite_Index (a:Str) (substr:Str):Option Int:=
 (if(substr.length:Int)=0 then
 some true
 else
 some (substr==a):Option Bool).bind fun b=>
 if b=true then
 some 0
 else
 if(substr.length:Int)=1 then
 (idx substr 0).bind fun c=>
 (stringslite_IndexByte a (c.toNat:Int)).bind fun d=>
 some d
 else
 if(substr.length:Int)>=(a.length:Int)then
 some (-1)
 else
 none
theorem qdJ (b:Str) (substr:Str) {res:Int} (h:stringslite_Index b substr=some res):qb ZT (.fn 144) (kA9 b substr) [] (.i res) []:=by
 unfold stringslite_Index at h
 refine Ub Tryz.func144 rfl rfl (m:=143) rfl (rs:=[.tmp 4]) rfl (l:=(kR b substr [])) rfl ?_
 refine sh fol (kR b substr []) ?_
 refine sh fol (kR b substr (kA4 (substr.length:Int))) ?_
 refine sq (Goes.block ?_)
 refine sq ?_
 obtain⟨j,a,h⟩:=bnd h
 refine Goes.cut (s':=(ofG 143 (kR b substr [(5,.i (substr.length:Int)),(16,.bool j)]),[])) ?_ ?_
 ·rcases wyD a with⟨e,a⟩|⟨e,a⟩
  ·obtain rfl:=si a
   exact tr fol [2] (kR b substr [(5,.i (substr.length:Int)),(16,.bool true)]) (ac (gw e) az)
  obtain rfl:=si a
  exact tr fol [2] (kR b substr [(5,.i (substr.length:Int)),(16,.bool (substr==b))]) (ac (gw e) az)
 refine ihB h (fun k h=>?_) (fun k h=>?_)
 ·refine sh fol [(4,.i 0)] ?_
  refine Goes.ret ?_
  obtain rfl:=si h
  exact(gw2 [.i 0] (Ua tI))
 refine sh fol (kR b substr [(5,.i (substr.length:Int)),(24,.bool (decide ((substr.length:Int)=1)))]) ?_
 refine ihD h (fun n h=>?_) (fun n h=>?_)
 ·obtain⟨f,c,h⟩:=bnd h
  obtain⟨g,d,h⟩:=bnd h
  refine sq (gr fol [2,3] [(4,.i g)] (ac (hs (.done (.opt (yo ZT 9 (.str substr) (.i 0))) (.int .u8 (f.toNat:Int))) (qaz st9 c)) (ac (cv (qcE b (f.toNat:Int) d)) az)) ?_)
  refine Goes.ret ?_
  obtain rfl:=si h
  exact(gw2 [.i g] (Ua tI))
 refine sh fol (kR b substr [(5,.i (substr.length:Int)),(31,.bool (decide ((substr.length:Int)>=(b.length:Int))))]) ?_
 refine ihD h (fun o h=>?_) (fun o h=>?_)
 ·refine sh fol [(4,.i (-1))] ?_
  refine Goes.ret ?_
  obtain rfl:=si h
  exact(gw2 [.i (-1)] (Ua tI))
 cases h
def stringslite_Cut (a:Str) (sep:Str):Option (Str×Str×Bool):=
 (stringslite_Index a sep).bind fun b=>
 if b>=0 then
 (cut a 0 b).bind fun c=>
 (cut a (w64 (b+(sep.length:Int))) (a.length:Int)).bind fun d=>
 some (c,d,true)
 else
 some (a,[],false)
theorem qe7 (a:Str) (sep:Str) {res:Str×Str×Bool} (h:stringslite_Cut a sep=some res):qb ZT (.fn 118) (kA9 a sep) [] (.tuple [.str res.1,.str res.2.1,.bool res.2.2]) []:=by
 unfold stringslite_Cut at h
 refine Ub Tryz.func118 rfl rfl (m:=23) rfl (rs:=[.tmp 4,.tmp 5,.tmp 6]) rfl (l:=(kR a sep [])) rfl ?_
 refine sh fol (kR a sep []) ?_
 refine sq ?_
 obtain⟨b,c,h⟩:=bnd h
 refine sq (gr fol [2] (kR a sep [(7,.i b)]) (ac (cv (qdJ a sep c)) az) ?_)
 refine sh fol (kR a sep ((7,.i b)::(kBM (decide (b>=0))))) ?_
 refine ihD h (fun j h=>?_) (fun j h=>?_)
 ·obtain⟨f,d,h⟩:=bnd h
  obtain⟨g,e,h⟩:=bnd h
  refine sq (gr fol [2,8] [(4,.str f),(5,.str g),(6,.bool true)] (ac (hs (.done (.opt (qV ZT 9 (.str a) none (some (.i b)) none)) (.str f)) (zT st9 none (some b) d)) (ac (hs (.done (.opt (qV ZT 9 (.str a) (some (.i (w64 (b+(sep.length:Int))))) none none)) (.str g)) (zT st9 (some (w64 (b+(sep.length:Int)))) none e)) az)) ?_)
  refine Goes.ret ?_
  obtain rfl:=si h
  exact(gw2 [.str f,.str g,.bool true] (FzW.tuple (qc.cons (Ua tS) (qc.cons (Ua tS) (qc.cons (Ua tB) qc.nil)))))
 refine Goes.skip ?_
 refine sh fol ((4,.str a)::(5,.str [])::kBC) ?_
 refine Goes.ret ?_
 obtain rfl:=si h
 exact(gw2 [.str a,.str [],.bool false] (FzW.tuple (qc.cons (Ua tS) (qc.cons (Ua tS) (qc.cons (Ua tB) qc.nil)))))
def strings_Cut (b:Str) (sep:Str):Option (Str×Str×Bool):=
 (stringslite_Cut b sep).bind fun a=>
 some (a.1,a.2.1,a.2.2)
theorem qdU (b:Str) (sep:Str) {res:Str×Str×Bool} (h:strings_Cut b sep=some res):qb ZT (.fn 75) (kA9 b sep) [] (.tuple [.str res.1,.str res.2.1,.bool res.2.2]) []:=by
 unfold strings_Cut at h
 refine Ub Tryz.func75 rfl rfl (m:=13) rfl (rs:=[.tmp 4,.tmp 5,.tmp 6]) rfl (l:=(kR b sep [])) rfl ?_
 refine sh fol (kR b sep []) ?_
 obtain⟨a,c,h⟩:=bnd h
 refine sq (gr fol [2] ((4,.str a.1)::(kAz a.2.1 a.2.2 [])) (ac (cv (qe7 b sep c)) az) ?_)
 refine Goes.ret ?_
 obtain rfl:=si h
 exact(gw2 [.str a.1,.str a.2.1,.bool a.2.2] (FzW.tuple (qc.cons (Ua tS) (qc.cons (Ua tS) (qc.cons (Ua tB) qc.nil)))))
def jO (a:Str):Option Bool:=
 (if(!(a==[]))=true then
 (qjB a [48,49,50,51,52,53,54,55,56,57]).bind fun b=>
 if(b==[])=true then
 (idx a 0).bind fun c=>
 if(!decide ((c.toNat:Int)=48))=true then
 some true
 else
 some (a==[48])
 else
 some false
 else
 some false:Option Bool).bind fun d=>
 some d
theorem jA (c:Str) {res:Bool} (h:jO c=some res):qb ZT (.fn 76) [.str c] [] (.bool res) []:=by
 unfold jO at h
 refine Ub Tryz.func76 rfl rfl (m:=19) rfl (rs:=[.tmp 2]) rfl (l:=(kAQ c [])) rfl ?_
 refine sh fol (kAQ c []) ?_
 refine sq ?_
 obtain⟨j,a,h⟩:=bnd h
 refine Goes.cut (s':=(ofG 19 [(2,.bool j)],[])) ?_ ?_
 ·rcases wyB a with⟨e,a⟩|⟨e,a⟩
  ·obtain⟨n,b,a⟩:=bnd a
   rcases wyB a with⟨f,a⟩|⟨f,a⟩
   ·obtain⟨k,d,a⟩:=bnd a
    rcases wyB a with⟨g,a⟩|⟨g,a⟩
    ·obtain rfl:=si a
     exact tr fol [2,4,7,9,11] [(2,.bool true)] (ac (gw e) (ac (cv (qhK c [48,49,50,51,52,53,54,55,56,57] b)) (ac (gw f) (ac (hs (.done (.opt (yo ZT 9 (.str c) (.i 0))) (.int .u8 (k.toNat:Int))) (qaz st9 d)) (ac (gw g) az)))))
    obtain rfl:=si a
    exact tr fol [2,4,7,9,11] [(2,.bool (c==[48]))] (ac (gw e) (ac (cv (qhK c [48,49,50,51,52,53,54,55,56,57] b)) (ac (gw f) (ac (hs (.done (.opt (yo ZT 9 (.str c) (.i 0))) (.int .u8 (k.toNat:Int))) (qaz st9 d)) (ac (gw g) az)))))
   obtain rfl:=si a
   exact tr fol [2,4,7] [(2,.bool false)] (ac (gw e) (ac (cv (qhK c [48,49,50,51,52,53,54,55,56,57] b)) (ac (gw f) az)))
  obtain rfl:=si a
  exact tr fol [2] [(2,.bool false)] (ac (gw e) az)
 refine Goes.ret ?_
 obtain rfl:=si h
 exact(gw2 [.bool j] (Ua tB))
def kw (a:qj):Option Int:=
 some (if(if a.s<1 then a.s else 1)>(-1)then(if a.s<1 then a.s else 1)else(-1))
theorem yw (a:qj) {res:Int} (h:kw a=some res):qb ZT (.fn 105) [.agg (nz1 a)] [] (.i res) []:=by
 unfold kw at h
 refine Ub Tryz.func105 rfl rfl (m:=7) rfl (rs:=[.tmp 2]) rfl (l:=[(0,.agg (nz1 a))]) rfl ?_
 refine sg fol (kAY []) [.cells (nz1 a)] ?_
 refine sh fol (kBB (if(if a.s<1 then a.s else 1)>(-1)then(if a.s<1 then a.s else 1)else(-1))) ?_
 refine Goes.ret ?_
 obtain rfl:=si h
 exact(gw2 [.i (if(if a.s<1 then a.s else 1)>(-1)then(if a.s<1 then a.s else 1)else(-1))] (Ua tI))
def qaL (a:qj):Option qj:=
 if a.s<0 then
 (zQ a).bind fun b=>
 some b
 else
 some a
theorem qd6 (a:qj) {res:qj} (h:qaL a=some res):qb ZT (.fn 120) [.agg (nz1 a)] [] (.agg (nz1 res)) []:=by
 unfold qaL at h
 refine Ub Tryz.func120 rfl rfl (m:=9) rfl (rs:=[.cell 2 55]) rfl (l:=[(0,.agg (nz1 a))]) rfl ?_
 refine sg fol (kAY kAo) [.cells (nz1 a),bZ] ?_
 refine sq ?_
 refine sh fol (kAY [(2,.ptr 1 0),(5,.bool (decide (a.s<0)))]) ?_
 refine ihD h (fun d h=>?_) (fun d h=>?_)
 ·obtain⟨c,b,h⟩:=bnd h
  refine sq (gq fol [1,2] kAo [.cells (nz1 a),.cells (nz1 c)] (ac (cv (yf a b)) (ac (hs (.run [1] (qp ZT 55 (.ptr 1 0) (.agg (nz1 c))) [.cells (nz1 a),bZ] .undef [.cells (nz1 a),.cells (nz1 c)] true) (ku (n:=2) (by kernel_rfl) rfl rfl rfl rfl (cac rfl (cac nvc can)) rfl)) az)) ?_)
  refine Goes.ret ?_
  obtain rfl:=si h
  exact(gw2 [.agg (nz1 c)] (FzW.agg (qc.cons (Ua tI) (qc.cons (Ua (qz (qa .u64) _ (nl rfl))) qc.nil))))
 refine Goes.skip ?_
 refine sq (gq fol [1] kAo [.cells (nz1 a),.cells (nz1 a)] (ac (hs (.run [1] (qp ZT 55 (.ptr 1 0) (.agg (nz1 a))) [.cells (nz1 a),bZ] .undef [.cells (nz1 a),.cells (nz1 a)] true) (ku (n:=2) (by kernel_rfl) rfl rfl rfl rfl (cac rfl (cac nvc can)) rfl)) az) ?_)
 refine Goes.ret ?_
 obtain rfl:=si h
 exact(gw2 [.agg (nz1 a)] (FzW.agg (qc.cons (Ua tI) (qc.cons (Ua (qz (qa .u64) _ (nl rfl))) qc.nil))))
def xe (N:Nat) (a:qj) (b:qj):Option qj:=
 (zQ b).bind fun c=>
 (yH N a c).bind fun d=>
 some d
theorem qd0 (N:Nat) (a:qj) (b:qj) {res:qj} (h:xe N a b=some res):qb ZT (.fn 122) [.agg (nz1 a),.agg (nz1 b)] [] (.agg (nz1 res)) []:=by
 unfold xe at h
 refine Ub Tryz.func122 rfl rfl (m:=9) rfl (rs:=[.cell 4 55]) rfl (l:=[(0,.agg (nz1 a)),(1,.agg (nz1 b))]) rfl ?_
 refine sg fol (kG []) [.cells (nz1 a),.cells (nz1 b),bZ] ?_
 obtain⟨f,c,h⟩:=bnd h
 obtain⟨e,d,h⟩:=bnd h
 refine sq (gq fol [2,3,4] (kAM []) [.cells (nz1 a),.cells (nz1 b),.cells (nz1 e)] (ac (cv (yf b c)) (ac (cv (qa5 N a f d)) (ac (hs (.run [2] (qp ZT 55 (.ptr 2 0) (.agg (nz1 e))) [.cells (nz1 a),.cells (nz1 b),bZ] .undef [.cells (nz1 a),.cells (nz1 b),.cells (nz1 e)] true) (ku (n:=2) (by kernel_rfl) rfl rfl rfl rfl (cac rfl (cac nvc can)) rfl)) az))) ?_)
 refine Goes.ret ?_
 obtain rfl:=si h
 exact(gw2 [.agg (nz1 e)] (FzW.agg (qc.cons (Ua tI) (qc.cons (Ua (qz (qa .u64) _ (nl rfl))) qc.nil))))
def bits_Len64 (a:Int):Option Int:=
 ((if a>=4294967296 then
 some (qw .u64 a 32,32)
 else
 some (a,0):Option (Int×Int))).bind fun(b,f)=>
 ((if b>=65536 then
 some (qw .u64 b 16,w64 (f+16))
 else
 some (b,f):Option (Int×Int))).bind fun(c,g)=>
 ((if c>=256 then
 some (qw .u64 c 8,w64 (g+8))
 else
 some (c,g):Option (Int×Int))).bind fun(h,d)=>
 (idx ([0,1,2,2,3,3,3,3,4,4,4,4,4,4,4,4,5,5,5,5,5,5,5,5,5,5,5,5,5,5,5,5,6,6,6,6,6,6,6,6,6,6,6,6,6,6,6,6,6,6,6,6,6,6,6,6,6,6,6,6,6,6,6,6,7,7,7,7,7,7,7,7,7,7,7,7,7,7,7,7,7,7,7,7,7,7,7,7,7,7,7,7,7,7,7,7,7,7,7,7,7,7,7,7,7,7,7,7,7,7,7,7,7,7,7,7,7,7,7,7,7,7,7,7,7,7,7,7,8,8,8,8,8,8,8,8,8,8,8,8,8,8,8,8,8,8,8,8,8,8,8,8,8,8,8,8,8,8,8,8,8,8,8,8,8,8,8,8,8,8,8,8,8,8,8,8,8,8,8,8,8,8,8,8,8,8,8,8,8,8,8,8,8,8,8,8,8,8,8,8,8,8,8,8,8,8,8,8,8,8,8,8,8,8,8,8,8,8,8,8,8,8,8,8,8,8,8,8,8,8,8,8,8,8,8,8,8,8,8,8,8,8,8,8,8,8,8,8,8,8,8,8,8,8,8,8]:Str) (IntKind.wrap .u8 h)).bind fun e=>
 some (w64 (d+(w64 (e.toNat:Int))))
theorem qeD (b:Int) {res:Int} (h:bits_Len64 b=some res):qb ZT (.fn 175) [.int .u64 b] [] (.i res) []:=by
 unfold bits_Len64 at h
 refine Ub Tryz.func175 rfl rfl (m:=25) rfl (rs:=[.tmp 2]) rfl (l:=(kBO b [])) rfl ?_
 refine sh fol (kBO b [(2,.i 0)]) ?_
 refine sq ?_
 refine sh fol (kBO b ((2,.i 0)::(kA6 (decide (b>=4294967296))))) ?_
 obtain⟨p,g3,h⟩:=bnd h
 refine Goes.imp (Q:=fun x s'=>(x= .normal/\ ∃c g,(c,g)=p/\Sub s' (ofG 25 (kBO c (kBB g)),[]))) ?_ ?_
 ·refine ihD g3 (fun q g3=>?_) (fun q g3=>?_)
  ·refine sh fol (kBO (qw .u64 b 32) []) ?_
   refine gh fol (kBO (qw .u64 b 32) [(2,.i 32)]) ?_
   obtain rfl:=si g3
   exact⟨rfl,_,_,rfl,(Sub.refl _)⟩
  refine Goes.skip ?_
  obtain rfl:=si g3
  exact⟨rfl,_,_,rfl,(Sub.keep [0,2] rfl rfl)⟩
 rintro x s' ⟨rfl,c,g,rfl,hsub⟩
 try dsimp only at h
 refine Goes.sub hsub ?_
 refine sq ?_
 refine sh fol (kBO c ((2,.i g)::(kBX (decide (c>=65536))))) ?_
 obtain⟨r,g7,h⟩:=bnd h
 refine Goes.imp (Q:=fun x s'=>(x= .normal/\ ∃d j,(d,j)=r/\Sub s' (ofG 25 (kBO d (kBB j)),[]))) ?_ ?_
 ·refine ihD g7 (fun s g7=>?_) (fun s g7=>?_)
  ·refine sh fol (kBO (qw .u64 c 16) (kBB g)) ?_
   refine gh fol (kBO (qw .u64 c 16) (kBB (w64 (g+16)))) ?_
   obtain rfl:=si g7
   exact⟨rfl,_,_,rfl,(Sub.refl _)⟩
  refine Goes.skip ?_
  obtain rfl:=si g7
  exact⟨rfl,_,_,rfl,(Sub.keep [0,2] rfl rfl)⟩
 rintro x s' ⟨rfl,d,j,rfl,hsub⟩
 try dsimp only at h
 refine Goes.sub hsub ?_
 refine sq ?_
 refine sh fol (kBO d [(2,.i j),(14,.bool (decide (d>=256)))]) ?_
 obtain⟨n,g11,h⟩:=bnd h
 refine Goes.imp (Q:=fun x s'=>(x= .normal/\ ∃k a,(k,a)=n/\Sub s' (ofG 25 (kBO k (kBB a)),[]))) ?_ ?_
 ·refine ihD g11 (fun o g11=>?_) (fun o g11=>?_)
  ·refine sh fol (kBO (qw .u64 d 8) (kBB j)) ?_
   refine gh fol (kBO (qw .u64 d 8) (kBB (w64 (j+8)))) ?_
   obtain rfl:=si g11
   exact⟨rfl,_,_,rfl,(Sub.refl _)⟩
  refine Goes.skip ?_
  obtain rfl:=si g11
  exact⟨rfl,_,_,rfl,(Sub.keep [0,2] rfl rfl)⟩
 rintro x s' ⟨rfl,k,a,rfl,hsub⟩
 try dsimp only at h
 refine Goes.sub hsub ?_
 obtain⟨e,f,h⟩:=bnd h
 refine sq (gr fol [3] (kBB (w64 (a+(w64 (e.toNat:Int))))) (ac (hs (.done (.opt (yo ZT 9 (.str [0,1,2,2,3,3,3,3,4,4,4,4,4,4,4,4,5,5,5,5,5,5,5,5,5,5,5,5,5,5,5,5,6,6,6,6,6,6,6,6,6,6,6,6,6,6,6,6,6,6,6,6,6,6,6,6,6,6,6,6,6,6,6,6,7,7,7,7,7,7,7,7,7,7,7,7,7,7,7,7,7,7,7,7,7,7,7,7,7,7,7,7,7,7,7,7,7,7,7,7,7,7,7,7,7,7,7,7,7,7,7,7,7,7,7,7,7,7,7,7,7,7,7,7,7,7,7,7,8,8,8,8,8,8,8,8,8,8,8,8,8,8,8,8,8,8,8,8,8,8,8,8,8,8,8,8,8,8,8,8,8,8,8,8,8,8,8,8,8,8,8,8,8,8,8,8,8,8,8,8,8,8,8,8,8,8,8,8,8,8,8,8,8,8,8,8,8,8,8,8,8,8,8,8,8,8,8,8,8,8,8,8,8,8,8,8,8,8,8,8,8,8,8,8,8,8,8,8,8,8,8,8,8,8,8,8,8,8,8,8,8,8,8,8,8,8,8,8,8,8,8,8,8,8,8,8]) (.int .u8 (IntKind.wrap .u8 k)))) (.int .u8 (e.toNat:Int))) (qaz st9 f)) az) ?_)
 refine Goes.ret ?_
 obtain rfl:=si h
 exact(gw2 [.i (w64 (a+(w64 (e.toNat:Int))))] (Ua tI))
def bits_LeadingZeros64 (a:Int):Option Int:=
 (bits_Len64 a).bind fun b=>
 some (w64 (64-b))
theorem qa2 (a:Int) {res:Int} (h:bits_LeadingZeros64 a=some res):qb ZT (.fn 172) [.int .u64 a] [] (.i res) []:=by
 unfold bits_LeadingZeros64 at h
 refine Ub Tryz.func172 rfl rfl (m:=6) rfl (rs:=[.tmp 2]) rfl (l:=(kBO a [])) rfl ?_
 refine sh fol (kBO a []) ?_
 obtain⟨c,b,h⟩:=bnd h
 refine sq (gr fol [1] (kBB (w64 (64-c))) (ac (cv (qeD a b)) az) ?_)
 refine Goes.ret ?_
 obtain rfl:=si h
 exact(gw2 [.i (w64 (64-c))] (Ua tI))
def yM (d:Int) (c:Int):Nat->Int->Int->Option Int
 |0,_,_=>none
 |K+1,a,b=>
  (if a>=4294967296 then
  some true
  else
  some (decide ((IntKind.wrap .u64 (a*(qB .u64 d 4294967295)))>(IntKind.wrap .u64 ((IntKind.wrap .u64 (4294967296*b))+(qw .u64 c 32))))):Option Bool).bind fun e=>
  if e=true then
  if(IntKind.wrap .u64 (b+(qw .u64 d 32)))>=4294967296 then
  some (IntKind.wrap .u64 (a-1))
  else
  yM d c K (IntKind.wrap .u64 (a-1)) (IntKind.wrap .u64 (b+(qw .u64 d 32)))
  else
  some a
def yK (d:Int) (c:Int):Nat->Int->Int->Option Int
 |0,_,_=>none
 |K+1,b,a=>
  (if a>=4294967296 then
  some true
  else
  some (decide ((IntKind.wrap .u64 (a*(qB .u64 d 4294967295)))>(IntKind.wrap .u64 ((IntKind.wrap .u64 (4294967296*b))+(qB .u64 c 4294967295))))):Option Bool).bind fun e=>
  if e=true then
  if(IntKind.wrap .u64 (b+(qw .u64 d 32)))>=4294967296 then
  some (IntKind.wrap .u64 (a-1))
  else
  yK d c K (IntKind.wrap .u64 (b+(qw .u64 d 32))) (IntKind.wrap .u64 (a-1))
  else
  some a
def qaG (N:Nat) (hi:Int) (lo:Int) (y:Int):Option (Int×Int):=
 ((if y=0 then
 none
 else
 some ():Option Unit)).bind fun _=>
 ((if y<=hi then
 none
 else
 some ():Option Unit)).bind fun _=>
 if hi=0 then
 (qb2 .u64 lo y).bind fun k=>
 (qd2 .u64 lo y).bind fun l=>
 some (k,l)
 else
 (bits_LeadingZeros64 y).bind fun f=>
 (qhN .u64 y (IntKind.wrap .u64 f)).bind fun d=>
 (qhN .u64 hi (IntKind.wrap .u64 f)).bind fun b=>
 (qkm .u64 lo (IntKind.wrap .u64 (64-(IntKind.wrap .u64 f)))).bind fun c=>
 (qhN .u64 lo (IntKind.wrap .u64 f)).bind fun a=>
 (qb2 .u64 (orI .u64 b c) (qw .u64 d 32)).bind fun g=>
 (yM d a N g (IntKind.wrap .u64 ((orI .u64 b c)-(IntKind.wrap .u64 (g*(qw .u64 d 32)))))).bind fun e=>
 (qb2 .u64 (IntKind.wrap .u64 ((IntKind.wrap .u64 ((IntKind.wrap .u64 ((orI .u64 b c)*4294967296))+(qw .u64 a 32)))-(IntKind.wrap .u64 (e*d)))) (qw .u64 d 32)).bind fun h=>
 (yK d a N (IntKind.wrap .u64 ((IntKind.wrap .u64 ((IntKind.wrap .u64 ((IntKind.wrap .u64 ((orI .u64 b c)*4294967296))+(qw .u64 a 32)))-(IntKind.wrap .u64 (e*d))))-(IntKind.wrap .u64 (h*(qw .u64 d 32))))) h).bind fun i=>
 (qkm .u64 (IntKind.wrap .u64 ((IntKind.wrap .u64 ((IntKind.wrap .u64 ((IntKind.wrap .u64 ((IntKind.wrap .u64 ((IntKind.wrap .u64 ((orI .u64 b c)*4294967296))+(qw .u64 a 32)))-(IntKind.wrap .u64 (e*d))))*4294967296))+(qB .u64 a 4294967295)))-(IntKind.wrap .u64 (i*d)))) (IntKind.wrap .u64 f)).bind fun j=>
 some (IntKind.wrap .u64 ((IntKind.wrap .u64 (e*4294967296))+i),j)
theorem qeM (N:Nat) (hi:Int) (lo:Int) (y:Int) {res:Int×Int} (h:qaG N hi lo y=some res):qb ZT (.fn 171) (.int .u64 hi::(kBW lo y)) [] (.tuple (kBW res.1 res.2)) []:=by
 unfold qaG at h
 refine Ub Tryz.func171 rfl rfl (m:=135) rfl (rs:=[.tmp 6,.tmp 7]) rfl (l:=(kAC hi lo [(2,.int .u64 y)])) rfl ?_
 refine sh fol (kAC hi lo [(2,.int .u64 y)]) ?_
 refine sq ?_
 refine sh fol (kAC hi lo [(2,.int .u64 y),(20,.bool (decide (y=0)))]) ?_
 obtain⟨Z,g1,h⟩:=bnd h
 refine Goes.imp (Q:=fun x s'=>(x= .normal/\()=Z/\Sub s' (ofG 135 (kAC hi lo [(2,.int .u64 y)]),[]))) ?_ ?_
 ·refine ihD g1 (fun c2 g1=>?_) (fun c2 g1=>?_)
  ·cases g1
  refine Goes.skip ?_
  obtain rfl:=si g1
  exact⟨rfl,rfl,(Sub.keep [0,1,2] rfl rfl)⟩
 rintro x s' ⟨rfl,rfl,hsub⟩
 refine Goes.sub hsub ?_
 refine sq ?_
 refine sh fol (kAC hi lo [(2,.int .u64 y),(24,.bool (decide (y<=hi)))]) ?_
 obtain⟨r3,g3,h⟩:=bnd h
 refine Goes.imp (Q:=fun x s'=>(x= .normal/\()=r3/\Sub s' (ofG 135 (kAC hi lo [(2,.int .u64 y)]),[]))) ?_ ?_
 ·refine ihD g3 (fun c4 g3=>?_) (fun c4 g3=>?_)
  ·cases g3
  refine Goes.skip ?_
  obtain rfl:=si g3
  exact⟨rfl,rfl,(Sub.keep [0,1,2] rfl rfl)⟩
 rintro x s' ⟨rfl,rfl,hsub⟩
 refine Goes.sub hsub ?_
 refine sq ?_
 refine sh fol (kAC hi lo [(2,.int .u64 y),(27,.bool (decide (hi=0)))]) ?_
 refine ihD h (fun c5 h=>?_) (fun c5 h=>?_)
 ·obtain⟨K,E,h⟩:=bnd h
  obtain⟨L,F,h⟩:=bnd h
  refine sq (gr fol [2,5] (kAP K (kAk L [])) (ac (hs (.done (.opt (ko ZT .quo 146 (.tmp 28) (.tmp 29) (.int .u64 lo) (.int .u64 y))) (.int .u64 K)) (qbJ E)) (ac (hs (.done (.opt (ko ZT .rem 146 (.tmp 31) (.tmp 32) (.int .u64 lo) (.int .u64 y))) (.int .u64 L)) (qfn F)) az)) ?_)
  refine Goes.ret ?_
  obtain rfl:=si h
  exact(gw2 (kBW K L) (FzW.tuple (qc.cons (Ua tI) (qc.cons (Ua tI) qc.nil))))
 refine Goes.skip ?_
 obtain⟨f,G,h⟩:=bnd h
 refine sq (gr fol [1] (kAC hi lo [(2,.int .u64 y),(8,.int .u64 (IntKind.wrap .u64 f))]) (ac (cv (qa2 y G)) az) ?_)
 obtain⟨b,H,h⟩:=bnd h
 refine sq (gr fol [2] (kAC hi lo [(2,.int .u64 b),(8,.int .u64 (IntKind.wrap .u64 f))]) (ac (hs (.done (.opt (ko ZT .shl 146 (.tmp 37) (.tmp 38) (.int .u64 y) (.int .u64 (IntKind.wrap .u64 f)))) (.int .u64 b)) (qfq H)) az) ?_)
 refine sh fol (kAC hi lo [(2,.int .u64 b),(8,.int .u64 (IntKind.wrap .u64 f)),(9,.int .u64 (qw .u64 b 32))]) ?_
 refine sh fol (kAC hi lo (kK b (IntKind.wrap .u64 f) (qw .u64 b 32) (qB .u64 b 4294967295) [])) ?_
 obtain⟨c,t,h⟩:=bnd h
 obtain⟨d,u,h⟩:=bnd h
 refine sq (gr fol [2,6] ((1,.int .u64 lo)::(kK b (IntKind.wrap .u64 f) (qw .u64 b 32) (qB .u64 b 4294967295) [(11,.int .u64 (orI .u64 c d))])) (ac (hs (.done (.opt (ko ZT .shl 146 (.tmp 44) (.tmp 45) (.int .u64 hi) (.int .u64 (IntKind.wrap .u64 f)))) (.int .u64 c)) (qfq t)) (ac (hs (.done (.opt (ko ZT .shr 146 (.tmp 47) (.tmp 49) (.int .u64 lo) (.int .u64 (IntKind.wrap .u64 (64-(IntKind.wrap .u64 f)))))) (.int .u64 d)) (qgu u)) az)) ?_)
 obtain⟨a,v,h⟩:=bnd h
 refine sq (gr fol [2] (kK b (IntKind.wrap .u64 f) (qw .u64 b 32) (qB .u64 b 4294967295) (kAD (orI .u64 c d) a [])) (ac (hs (.done (.opt (ko ZT .shl 146 (.tmp 52) (.tmp 53) (.int .u64 lo) (.int .u64 (IntKind.wrap .u64 f)))) (.int .u64 a)) (qfq v)) az) ?_)
 refine sh fol (kK b (IntKind.wrap .u64 f) (qw .u64 b 32) (qB .u64 b 4294967295) (kAD (orI .u64 c d) a [(13,.int .u64 (qw .u64 a 32))])) ?_
 refine sh fol (kK b (IntKind.wrap .u64 f) (qw .u64 b 32) (qB .u64 b 4294967295) (kAZ (orI .u64 c d) (qw .u64 a 32) [(14,.int .u64 (qB .u64 a 4294967295))])) ?_
 obtain⟨q,w,h⟩:=bnd h
 refine sq (gr fol [2] (kK b (IntKind.wrap .u64 f) (qw .u64 b 32) (qB .u64 b 4294967295) (kAZ (orI .u64 c d) (qw .u64 a 32) (kA3 (qB .u64 a 4294967295) q []))) (ac (hs (.done (.opt (ko ZT .quo 146 (.tmp 59) (.tmp 60) (.int .u64 (orI .u64 c d)) (.int .u64 (qw .u64 b 32)))) (.int .u64 q)) (qbJ w)) az) ?_)
 refine sh fol (kK b (IntKind.wrap .u64 f) (qw .u64 b 32) (qB .u64 b 4294967295) (kAZ (orI .u64 c d) (qw .u64 a 32) (kT (qB .u64 a 4294967295) q (IntKind.wrap .u64 ((orI .u64 c d)-(IntKind.wrap .u64 (q*(qw .u64 b 32))))) []))) ?_
 refine sq (Goes.block ?_)
 obtain⟨I,g17,h⟩:=bnd h
 refine Goes.imp (Q:=fun x s'=>(x= .exit 0/\ ∃e,e=I/\Sub s' (ofG 135 (kK b (IntKind.wrap .u64 f) (qw .u64 b 32) (qB .u64 b 4294967295) (kAZ (orI .u64 c d) (qw .u64 a 32) (kA3 (qB .u64 a 4294967295) e []))),[]))) ?_ ?_
 ·refine Uc (fun M s=> ∃(j:Int) (g:Int),s=(ofG 135 (kK b (IntKind.wrap .u64 f) (qw .u64 b 32) (qB .u64 b 4294967295) (kAZ (orI .u64 c d) (qw .u64 a 32) (kT (qB .u64 a 4294967295) j g []))),[])/\yM b a M j g=some I) ?_ (m:=N) ⟨_,_,rfl,g17⟩
  rintro M s ⟨j,g,rfl,g17⟩
  cases M with
  |zero=>simp only[yM]at g17;cases g17
  |succ M=>
   rw[yM]at g17
   refine sq ?_
   refine sq ?_
   obtain⟨O,k,g17⟩:=bnd g17
   refine Goes.cut (s':=(ofG 135 (kK b (IntKind.wrap .u64 f) (qw .u64 b 32) (qB .u64 b 4294967295) (kAZ (orI .u64 c d) (qw .u64 a 32) (kT (qB .u64 a 4294967295) j g [(78,.bool O)]))),[])) ?_ ?_
   ·rcases wyD k with⟨z,k⟩|⟨z,k⟩
    ·obtain rfl:=si k
     exact tr fol [2] (kK b (IntKind.wrap .u64 f) (qw .u64 b 32) (qB .u64 b 4294967295) (kAZ (orI .u64 c d) (qw .u64 a 32) (kT (qB .u64 a 4294967295) j g [(78,.bool true)]))) (ac (gw z) az)
    obtain rfl:=si k
    exact tr fol [2] (kK b (IntKind.wrap .u64 f) (qw .u64 b 32) (qB .u64 b 4294967295) (kAZ (orI .u64 c d) (qw .u64 a 32) (kT (qB .u64 a 4294967295) j g [(78,.bool (decide ((IntKind.wrap .u64 (j*(qB .u64 b 4294967295)))>(IntKind.wrap .u64 ((IntKind.wrap .u64 (4294967296*g))+(qw .u64 a 32))))))]))) (ac (gw z) az)
   refine ihB g17 (fun P g17=>?_) (fun P g17=>?_)
   ·refine Goes.skip ?_
    refine Goes.block ?_
    refine sh fol (kK b (IntKind.wrap .u64 f) (qw .u64 b 32) (qB .u64 b 4294967295) (kAZ (orI .u64 c d) (qw .u64 a 32) (kT (qB .u64 a 4294967295) (IntKind.wrap .u64 (j-1)) g []))) ?_
    refine sh fol (kK b (IntKind.wrap .u64 f) (qw .u64 b 32) (qB .u64 b 4294967295) (kAZ (orI .u64 c d) (qw .u64 a 32) (kT (qB .u64 a 4294967295) (IntKind.wrap .u64 (j-1)) (IntKind.wrap .u64 (g+(qw .u64 b 32))) []))) ?_
    refine sh fol (kK b (IntKind.wrap .u64 f) (qw .u64 b 32) (qB .u64 b 4294967295) (kAZ (orI .u64 c d) (qw .u64 a 32) (kT (qB .u64 a 4294967295) (IntKind.wrap .u64 (j-1)) (IntKind.wrap .u64 (g+(qw .u64 b 32))) [(85,.bool (decide ((IntKind.wrap .u64 (g+(qw .u64 b 32)))>=4294967296)))]))) ?_
    refine ihD g17 (fun U g17=>?_) (fun U g17=>?_)
    ·refine Goes.exit ?_
     obtain rfl:=si g17
     exact⟨rfl,_,rfl,(Sub.keep [2,8,9,10,11,13,14,15] rfl rfl)⟩
    refine Goes.skip ?_
    exact⟨M,(ofG 135 (kK b (IntKind.wrap .u64 f) (qw .u64 b 32) (qB .u64 b 4294967295) (kAZ (orI .u64 c d) (qw .u64 a 32) (kT (qB .u64 a 4294967295) (IntKind.wrap .u64 (j-1)) (IntKind.wrap .u64 (g+(qw .u64 b 32))) []))),[]),Nat.lt_succ_self _,(Sub.keep [2,8,9,10,11,13,14,15,16] rfl rfl),_,_,rfl,g17⟩
   refine Goes.exit ?_
   obtain rfl:=si g17
   exact⟨rfl,_,rfl,(Sub.keep [2,8,9,10,11,13,14,15] rfl rfl)⟩
 rintro x s' ⟨rfl,e,rfl,hsub⟩
 refine Goes.sub hsub ?_
 refine sh fol (kK b (IntKind.wrap .u64 f) (qw .u64 b 32) (qB .u64 b 4294967295) (kA3 (qB .u64 a 4294967295) e [(17,.int .u64 (IntKind.wrap .u64 ((IntKind.wrap .u64 ((IntKind.wrap .u64 ((orI .u64 c d)*4294967296))+(qw .u64 a 32)))-(IntKind.wrap .u64 (e*b)))))])) ?_
 obtain⟨r,A,h⟩:=bnd h
 refine sq (gr fol [2] (kK b (IntKind.wrap .u64 f) (qw .u64 b 32) (qB .u64 b 4294967295) (kA3 (qB .u64 a 4294967295) e (kAc (IntKind.wrap .u64 ((IntKind.wrap .u64 ((IntKind.wrap .u64 ((orI .u64 c d)*4294967296))+(qw .u64 a 32)))-(IntKind.wrap .u64 (e*b)))) r []))) (ac (hs (.done (.opt (ko ZT .quo 146 (.tmp 94) (.tmp 95) (.int .u64 (IntKind.wrap .u64 ((IntKind.wrap .u64 ((IntKind.wrap .u64 ((orI .u64 c d)*4294967296))+(qw .u64 a 32)))-(IntKind.wrap .u64 (e*b))))) (.int .u64 (qw .u64 b 32)))) (.int .u64 r)) (qbJ A)) az) ?_)
 refine sh fol (kK b (IntKind.wrap .u64 f) (qw .u64 b 32) (qB .u64 b 4294967295) (kT (qB .u64 a 4294967295) e (IntKind.wrap .u64 ((IntKind.wrap .u64 ((IntKind.wrap .u64 ((IntKind.wrap .u64 ((orI .u64 c d)*4294967296))+(qw .u64 a 32)))-(IntKind.wrap .u64 (e*b))))-(IntKind.wrap .u64 (r*(qw .u64 b 32))))) (kAc (IntKind.wrap .u64 ((IntKind.wrap .u64 ((IntKind.wrap .u64 ((orI .u64 c d)*4294967296))+(qw .u64 a 32)))-(IntKind.wrap .u64 (e*b)))) r []))) ?_
 refine sq (Goes.block ?_)
 obtain⟨J,g27,h⟩:=bnd h
 refine Goes.imp (Q:=fun x s'=>(x= .exit 2/\ ∃p,p=J/\Sub s' (ofG 135 ((2,.int .u64 b)::(8,.int .u64 (IntKind.wrap .u64 f))::(kA3 (qB .u64 a 4294967295) e (kAc (IntKind.wrap .u64 ((IntKind.wrap .u64 ((IntKind.wrap .u64 ((orI .u64 c d)*4294967296))+(qw .u64 a 32)))-(IntKind.wrap .u64 (e*b)))) p []))),[]))) ?_ ?_
 ·refine Uc (fun M s=> ∃(i:Int) (n:Int),s=(ofG 135 (kK b (IntKind.wrap .u64 f) (qw .u64 b 32) (qB .u64 b 4294967295) (kT (qB .u64 a 4294967295) e i (kAc (IntKind.wrap .u64 ((IntKind.wrap .u64 ((IntKind.wrap .u64 ((orI .u64 c d)*4294967296))+(qw .u64 a 32)))-(IntKind.wrap .u64 (e*b)))) n []))),[])/\yK b a M i n=some J) ?_ (m:=N) ⟨_,_,rfl,g27⟩
  rintro M s ⟨i,n,rfl,g27⟩
  cases M with
  |zero=>simp only[yK]at g27;cases g27
  |succ M=>
   rw[yK]at g27
   refine sq ?_
   refine sq ?_
   obtain⟨V,o,g27⟩:=bnd g27
   refine Goes.cut (s':=(ofG 135 (kK b (IntKind.wrap .u64 f) (qw .u64 b 32) (qB .u64 b 4294967295) (kT (qB .u64 a 4294967295) e i (kAc (IntKind.wrap .u64 ((IntKind.wrap .u64 ((IntKind.wrap .u64 ((orI .u64 c d)*4294967296))+(qw .u64 a 32)))-(IntKind.wrap .u64 (e*b)))) n [(113,.bool V)]))),[])) ?_ ?_
   ·rcases wyD o with⟨B,o⟩|⟨B,o⟩
    ·obtain rfl:=si o
     exact tr fol [2] (kK b (IntKind.wrap .u64 f) (qw .u64 b 32) (qB .u64 b 4294967295) (kT (qB .u64 a 4294967295) e i (kAc (IntKind.wrap .u64 ((IntKind.wrap .u64 ((IntKind.wrap .u64 ((orI .u64 c d)*4294967296))+(qw .u64 a 32)))-(IntKind.wrap .u64 (e*b)))) n [(113,.bool true)]))) (ac (gw B) az)
    obtain rfl:=si o
    exact tr fol [2] (kK b (IntKind.wrap .u64 f) (qw .u64 b 32) (qB .u64 b 4294967295) (kT (qB .u64 a 4294967295) e i (kAc (IntKind.wrap .u64 ((IntKind.wrap .u64 ((IntKind.wrap .u64 ((orI .u64 c d)*4294967296))+(qw .u64 a 32)))-(IntKind.wrap .u64 (e*b)))) n [(113,.bool (decide ((IntKind.wrap .u64 (n*(qB .u64 b 4294967295)))>(IntKind.wrap .u64 ((IntKind.wrap .u64 (4294967296*i))+(qB .u64 a 4294967295))))))]))) (ac (gw B) az)
   refine ihB g27 (fun X g27=>?_) (fun X g27=>?_)
   ·refine Goes.skip ?_
    refine Goes.block ?_
    refine sh fol (kK b (IntKind.wrap .u64 f) (qw .u64 b 32) (qB .u64 b 4294967295) (kT (qB .u64 a 4294967295) e i (kAc (IntKind.wrap .u64 ((IntKind.wrap .u64 ((IntKind.wrap .u64 ((orI .u64 c d)*4294967296))+(qw .u64 a 32)))-(IntKind.wrap .u64 (e*b)))) (IntKind.wrap .u64 (n-1)) []))) ?_
    refine sh fol (kK b (IntKind.wrap .u64 f) (qw .u64 b 32) (qB .u64 b 4294967295) (kT (qB .u64 a 4294967295) e (IntKind.wrap .u64 (i+(qw .u64 b 32))) (kAc (IntKind.wrap .u64 ((IntKind.wrap .u64 ((IntKind.wrap .u64 ((orI .u64 c d)*4294967296))+(qw .u64 a 32)))-(IntKind.wrap .u64 (e*b)))) (IntKind.wrap .u64 (n-1)) []))) ?_
    refine sh fol (kK b (IntKind.wrap .u64 f) (qw .u64 b 32) (qB .u64 b 4294967295) (kT (qB .u64 a 4294967295) e (IntKind.wrap .u64 (i+(qw .u64 b 32))) (kAc (IntKind.wrap .u64 ((IntKind.wrap .u64 ((IntKind.wrap .u64 ((orI .u64 c d)*4294967296))+(qw .u64 a 32)))-(IntKind.wrap .u64 (e*b)))) (IntKind.wrap .u64 (n-1)) [(120,.bool (decide ((IntKind.wrap .u64 (i+(qw .u64 b 32)))>=4294967296)))]))) ?_
    refine ihD g27 (fun Y g27=>?_) (fun Y g27=>?_)
    ·refine Goes.exit ?_
     obtain rfl:=si g27
     exact⟨rfl,_,rfl,(Sub.keep [2,8,14,15,17,18] rfl rfl)⟩
    refine Goes.skip ?_
    exact⟨M,(ofG 135 (kK b (IntKind.wrap .u64 f) (qw .u64 b 32) (qB .u64 b 4294967295) (kT (qB .u64 a 4294967295) e (IntKind.wrap .u64 (i+(qw .u64 b 32))) (kAc (IntKind.wrap .u64 ((IntKind.wrap .u64 ((IntKind.wrap .u64 ((orI .u64 c d)*4294967296))+(qw .u64 a 32)))-(IntKind.wrap .u64 (e*b)))) (IntKind.wrap .u64 (n-1)) []))),[]),Nat.lt_succ_self _,(Sub.keep [2,8,9,10,14,15,16,17,18] rfl rfl),_,_,rfl,g27⟩
   refine Goes.exit ?_
   obtain rfl:=si g27
   exact⟨rfl,_,rfl,(Sub.keep [2,8,14,15,17,18] rfl rfl)⟩
 rintro x s' ⟨rfl,p,rfl,hsub⟩
 refine Goes.sub hsub ?_
 obtain⟨C,D,h⟩:=bnd h
 refine sq (gr fol [13] (kAP (IntKind.wrap .u64 ((IntKind.wrap .u64 (e*4294967296))+p)) (kAk C [])) (ac (hs (.done (.opt (ko ZT .shr 146 (.tmp 132) (.tmp 133) (.int .u64 (IntKind.wrap .u64 ((IntKind.wrap .u64 ((IntKind.wrap .u64 ((IntKind.wrap .u64 ((IntKind.wrap .u64 ((IntKind.wrap .u64 ((orI .u64 c d)*4294967296))+(qw .u64 a 32)))-(IntKind.wrap .u64 (e*b))))*4294967296))+(qB .u64 a 4294967295)))-(IntKind.wrap .u64 (p*b))))) (.int .u64 (IntKind.wrap .u64 f)))) (.int .u64 C)) (qgu D)) az) ?_)
 refine Goes.ret ?_
 obtain rfl:=si h
 exact(gw2 (kBW (IntKind.wrap .u64 ((IntKind.wrap .u64 (e*4294967296))+p)) C) (FzW.tuple (qc.cons (Ua tI) (qc.cons (Ua tI) qc.nil))))
def zP (b:List Int) (a:Int):Nat->(List Int)->Int->Option (List Int)
 |0,_,_=>none
 |K+1,f,c=>
  if c<(b.length:Int)then
  (((idx b c).bind fun e=>
  (idx f c).bind fun g=>
  (qhN .u64 e a).bind fun h=>
  (put f c (orI .u64 g h)).bind fun d=>
  if a>0 then
  (qkm .u64 e (w64 (64-a))).bind fun i=>
  (idx d (w64 (c+1))).bind fun k=>
  (put d (w64 (c+1)) i).bind fun j=>
  some j
  else
  some d:Option (List Int))).bind fun l=>
  zP b a K l (w64 (c+1))
  else
  some f
def yZ (N:Nat) (a:List Int) (b:Int):Option (List Int):=
 (mk 8 (w64 ((a.length:Int)+1)) 0).bind fun c=>
 (zP a b N c 0).bind fun d=>
 some d
theorem qcn (N:Nat) (a:List Int) (b:Int) {G:List Int} (h:yZ N a b=some G):qb ZT (.fn 173) [vl (qa .u64) a,.i b] [] (.slice 0 0 G.length G.length 1) [.cells (G.flatMap (qa .u64).c)]:=by
 unfold yZ at h
 refine Goes.fnH Tryz.func173 rfl rfl (m:=40) rfl (rs:=[.tmp 4]) rfl (l:=[(0,vl (qa .u64) a),(1,.i b)]) rfl ?_
 intro B hB
 refine sh fol [(0,vl (qa .u64) a),(1,.i b)] ?_
 obtain⟨D,F,h⟩:=bnd h
 refine sq (gq fol [3] ((0,vl (qa .u64) a)::(1,.i b)::(kF D [])) [.cells (D.flatMap (qa .u64).c)] (ac (hs (.run [] (jd ZT 53 (.i (w64 ((a.length:Int)+1))) (.i (w64 ((a.length:Int)+1)))) [] (.slice 0 0 D.length D.length 1) [.cells (D.flatMap (qa .u64).c)] false) (qcB zN (E:=(qa .u64)) (z:=0) rfl (by kernel_rfl) F rfl)) az) ?_)
 refine sq ?_
 refine sh fol ((1,.i b)::(kF D [(12,vl (qa .u64) a),(13,.i (a.length:Int)),(14,.i 0)])) ?_
 refine Goes.block ?_
 obtain⟨I,g6,h⟩:=bnd h
 refine Goes.imp (Q:=fun x s'=>(x= .exit 0/\ ∃r,r=I/\Sub s' (ofG 40 (kF r []),[.cells (r.flatMap (qa .u64).c)]))) ?_ ?_
 ·refine Uc (fun M s=> ∃(g:List Int) (d:Int),s=(ofG 40 ((1,.i b)::(kF g ((12,vl (qa .u64) a)::(kAS (a.length:Int) d)))),[.cells (g.flatMap (qa .u64).c)])/\zP a b M g d=some I) ?_ (m:=N) ⟨_,_,rfl,g6⟩
  rintro M s ⟨g,d,rfl,g6⟩
  cases M with
  |zero=>simp only[zP]at g6;cases g6
  |succ M=>
   rw[zP]at g6
   refine sh fol ((1,.i b)::(kF g [(12,vl (qa .u64) a),(13,.i (a.length:Int)),(14,.i d),(15,.bool (decide (d<(a.length:Int))))])) ?_
   refine sq ?_
   refine ihD g6 (fun J g6=>?_) (fun J g6=>?_)
   ·refine Goes.skip ?_
    refine sq ?_
    obtain⟨K,g9,g6⟩:=bnd g6
    refine Goes.imp (Q:=fun x s'=>(x= .normal/\ ∃t,t=K/\Sub s' (ofG 40 ((1,.i b)::(kF t ((12,vl (qa .u64) a)::(kAS (a.length:Int) d)))),[.cells (t.flatMap (qa .u64).c)]))) ?_ ?_
    ·refine Goes.block ?_
     obtain⟨j,k,g9⟩:=bnd g9
     refine sq (gr fol [1,2] ((1,.i b)::(kF g ((6,.i d)::(kAk j ((12,vl (qa .u64) a)::(kAS (a.length:Int) d)))))) (ac (iv zN (qa .u64) k) (ac (lv 0 zW (qa .u64) k rfl) az)) ?_)
     obtain⟨u,f,g9⟩:=bnd g9
     obtain⟨v,w,g9⟩:=bnd g9
     obtain⟨e,n,g9⟩:=bnd g9
     refine sq (gq fol [2,3,6,8,9] ((1,.i b)::(kF g ((6,.i d)::(kAk j ((12,vl (qa .u64) a)::(kAS (a.length:Int) d)))))) [.cells (e.flatMap (qa .u64).c)] (ac (hs (.done (.opt (qg ZT 53 (.slice 0 0 g.length g.length 1) (.i d))) (.ptr 0 ((d:Int).toNat*1+0))) (qaf zN f)) (ac (hs (.run [0] (ji ZT 146 (.ptr 0 ((d:Int).toNat*1+0))) [.cells (g.flatMap (qa .u64).c)] (.int .u64 u) [.cells (g.flatMap (qa .u64).c)] false) (qce zW (E:=(qa .u64)) (l:=g) rfl rfl f (nl rfl) rfl)) (ac (hs (.done (.opt (ko ZT .shl 146 (.tmp 23) (.tmp 24) (.int .u64 j) (.i b))) (.int .u64 v)) (qfq w)) (ac (hs (.done (.opt (qg ZT 53 (.slice 0 0 g.length g.length 1) (.i d))) (.ptr 0 ((d:Int).toNat*1+0))) (qaf zN f)) (ac (hs (.run [0] (qp ZT 146 (.ptr 0 ((d:Int).toNat*1+0)) (.int .u64 (orI .u64 u v))) [.cells (g.flatMap (qa .u64).c)] .undef [.cells (e.flatMap (qa .u64).c)] true) (xP (E:=(qa .u64)) (l:=g) (y:=orI .u64 u v) rfl (show _=some 1 by kernel_rfl) rfl f rfl rfl rfl rfl rfl n rfl)) az))))) ?_)
     refine Goes.sub (show Sub (ofG 40 ((1,.i b)::(kF g ((6,.i d)::(kAk j ((12,vl (qa .u64) a)::(kAS (a.length:Int) d)))))),[.cells (e.flatMap (qa .u64).c)]) (ofG 40 ((1,.i b)::(kF e ((6,.i d)::(kAk j ((12,vl (qa .u64) a)::(kAS (a.length:Int) d)))))),[.cells (e.flatMap (qa .u64).c)])from(Sub.norm [] [some 0] (by rw[hB];rfl) rfl (.keep (.same nI) (.keep (.sliceE rfl (vG n)) (.keep (.same nI) (.keep (.same nI) (.keep (.same (qd (qa .u64) _)) (.keep (.same nI) (.keep (.same nI) .nil))))))) (.ks .nil))) ?_
     refine sh fol ((1,.i b)::(kF e ((6,.i d)::(kAk j [(12,vl (qa .u64) a),(13,.i (a.length:Int)),(14,.i d),(29,.bool (decide (b>0)))])))) ?_
     refine ihD g9 (fun H g9=>?_) (fun H g9=>?_)
     ·obtain⟨A,C,g9⟩:=bnd g9
      obtain⟨L,o,g9⟩:=bnd g9
      obtain⟨p,q,g9⟩:=bnd g9
      refine gq fol [6,7,8] ((1,.i b)::(kF e ((12,vl (qa .u64) a)::(kAS (a.length:Int) d)))) [.cells (p.flatMap (qa .u64).c)] (ac (hs (.done (.opt (ko ZT .shr 146 (.tmp 33) (.tmp 35) (.int .u64 j) (.i (w64 (64-b))))) (.int .u64 A)) (qgu C)) (ac (hs (.done (.opt (qg ZT 53 (.slice 0 0 e.length e.length 1) (.i (w64 (d+1))))) (.ptr 0 ((w64 (d+1):Int).toNat*1+0))) (qaf zN o)) (ac (hs (.run [0] (qp ZT 146 (.ptr 0 ((w64 (d+1):Int).toNat*1+0)) (.int .u64 A)) [.cells (e.flatMap (qa .u64).c)] .undef [.cells (p.flatMap (qa .u64).c)] true) (xP (E:=(qa .u64)) (l:=e) (y:=A) rfl (show _=some 1 by kernel_rfl) rfl o rfl rfl rfl rfl rfl q rfl)) az))) ?_
      obtain rfl:=si g9
      exact⟨rfl,_,rfl,((show Sub (ofG 40 ((1,.i b)::(kF e ((12,vl (qa .u64) a)::(kAS (a.length:Int) d)))),[.cells (p.flatMap (qa .u64).c)]) (ofG 40 ((1,.i b)::(kF p ((12,vl (qa .u64) a)::(kAS (a.length:Int) d)))),[.cells (p.flatMap (qa .u64).c)])from(Sub.norm [] [some 0] (by rw[hB];rfl) rfl (.keep (.same nI) (.keep (.sliceE rfl (vG q)) (.keep (.same (qd (qa .u64) _)) (.keep (.same nI) (.keep (.same nI) .nil))))) (.ks .nil))).trans (Sub.refl _))⟩
     refine Goes.skip ?_
     obtain rfl:=si g9
     exact⟨rfl,_,rfl,(Sub.keep [1,5,12,13,14] rfl rfl)⟩
    rintro x s' ⟨rfl,t,rfl,hsub⟩
    refine Goes.sub hsub ?_
    refine gh fol ((1,.i b)::(kF t ((12,vl (qa .u64) a)::(kAS (a.length:Int) (w64 (d+1)))))) ?_
    exact⟨M,(ofG 40 ((1,.i b)::(kF t ((12,vl (qa .u64) a)::(kAS (a.length:Int) (w64 (d+1)))))),[.cells (t.flatMap (qa .u64).c)]),Nat.lt_succ_self _,(Sub.refl _),_,_,rfl,g6⟩
   refine Goes.exit ?_
   obtain rfl:=si g6
   exact⟨rfl,_,rfl,(Sub.keep [5] rfl rfl)⟩
 rintro x s' ⟨rfl,r,rfl,hsub⟩
 refine Goes.sub hsub ?_
 refine sh fol [(4,.slice 0 0 r.length r.length 1)] ?_
 refine Goes.ret ?_
 obtain rfl:=si h
 exact(gh2 [.slice 0 0 r.length r.length 1] (qfr.refl _ _))
def yh (e:List Int) (f:Nat) (g:Nat) (a:List Int):Nat->Int->Int->Int->Option Int
 |0,_,_,_=>none
 |K+1,b,c,i=>
  if i=0 then
  (idx a (w64 ((a.length:Int)-2))).bind fun j=>
  (bits_Mul64 b j).bind fun d=>
  (if d.1<c then
  some true
  else
  if d.1=c then
  (qfG e f g (w64 ((a.length:Int)-2))).bind fun k=>
  some (decide (d.2<=k))
  else
  some false:Option Bool).bind fun l=>
  if l=true then
  some b
  else
  (idx a (w64 ((a.length:Int)-1))).bind fun m=>
  (xQ c m 0).bind fun h=>
  yh e f g a K (IntKind.wrap .u64 (b-1)) h.1 h.2
  else
  some b
def vg (b:Nat) (e:Nat) (c:List Int) (f:Int):Nat->(List Int)->Int->Int->Int->Option ((List Int)×Int×Int)
 |0,_,_,_,_=>none
 |K+1,d,a,g,h=>
  if a<(c.length:Int)then
  (idx c a).bind fun l=>
  (bits_Mul64 f l).bind fun i=>
  (xQ i.2 h 0).bind fun j=>
  (qfG d b e a).bind fun m=>
  (qdY m j.1 g).bind fun k=>
  (put d ((b+(a:Int).toNat:Nat):Int) k.1).bind fun n=>
  vg b e c f K n (w64 (a+1)) k.2 (IntKind.wrap .u64 (i.1+j.2))
  else
  some (d,g,h)
def j6 (b:Nat) (e:Nat) (c:List Int):Nat->(List Int)->Int->Int->Option ((List Int)×Int)
 |0,_,_,_=>none
 |K+1,d,a,f=>
  if a<(c.length:Int)then
  (qfG d b e a).bind fun h=>
  (idx c a).bind fun i=>
  (xQ h i f).bind fun g=>
  (put d ((b+(a:Int).toNat:Nat):Int) g.1).bind fun j=>
  j6 b e c K j (w64 (a+1)) g.2
  else
  some (d,f)
def qbz (N:Nat) (d:List Int) (b:Nat) (c:Nat) (v:Nat) (a:List Int):Option ((List Int)×Int):=
 (qfG d b c (a.length:Int)).bind fun u=>
 (idx a (w64 ((a.length:Int)-1))).bind fun l=>
 ((if u>=l then
 (qfG d b c (w64 ((a.length:Int)-1))).bind fun m=>
 (xQ m l 0).bind fun f=>
 some (18446744073709551615,f.1,f.2)
 else
 (qfG d b c (w64 ((a.length:Int)-1))).bind fun n=>
 (qaG N u n l).bind fun g=>
 some (g.1,g.2,0):Option (Int×Int×Int))).bind fun(w,x,y)=>
 (yh d b c a N w x y).bind fun e=>
 (vg b c a e N d 0 0 0).bind fun(h,o,p)=>
 (qfG h b c (a.length:Int)).bind fun q=>
 (qdY q p o).bind fun i=>
 (put h ((b+((a.length:Int):Int).toNat:Nat):Int) i.1).bind fun j=>
 if i.2=0 then
 some (j,e)
 else
 (j6 b c a N j 0 0).bind fun(k,r)=>
 (qfG k b c (a.length:Int)).bind fun s=>
 (put k ((b+((a.length:Int):Int).toNat:Nat):Int) (IntKind.wrap .u64 (s+r))).bind fun t=>
 some (t,IntKind.wrap .u64 (e-1))
theorem qhD (N:Nat) (j:List Int) (b:Nat) (d:Nat) (e:Nat) (a:List Int) {l1:List Int} {n2:Int} (h:qbz N j b d e a=some (l1,n2)):qb ZT (.fn 174) [.slice 0 b d e 1,vl (qa .u64) a] [.cells (j.flatMap (qa .u64).c)] (.int .u64 n2) [.cells (l1.flatMap (qa .u64).c)]:=by
 unfold qbz at h
 refine Goes.fnH Tryz.func174 rfl rfl (m:=186) rfl (rs:=[.tmp 4]) rfl (l:=[(0,.slice 0 b d e 1),(1,vl (qa .u64) a)]) rfl ?_
 intro B hB
 refine sh fol [(0,.slice 0 b d e 1),(1,vl (qa .u64) a)] ?_
 refine sh fol ((0,.slice 0 b d e 1)::(1,vl (qa .u64) a)::(kA4 (a.length:Int))) ?_
 refine sh fol ((0,.slice 0 b d e 1)::(1,vl (qa .u64) a)::(kA4 (a.length:Int))) ?_
 refine sh fol ((0,.slice 0 b d e 1)::(1,vl (qa .u64) a)::(5,.i (a.length:Int))::(kBY [])) ?_
 refine sq ?_
 obtain⟨x3,L,h⟩:=bnd h
 obtain⟨x4,v,h⟩:=bnd h
 refine sq (gr fol [2,3,7,8] ((0,.slice 0 b d e 1)::(1,vl (qa .u64) a)::(5,.i (a.length:Int))::(kBY [(30,.bool (decide (x3>=x4)))])) (ac (hs (.done (.opt (qg ZT 53 (.slice 0 b d e 1) (.i (a.length:Int)))) (.ptr 0 ((((b+((a.length:Int):Int).toNat:Nat):Int):Int).toNat*1+0))) (qcW zN L)) (ac (hs (.run [0] (ji ZT 146 (.ptr 0 ((((b+((a.length:Int):Int).toNat:Nat):Int):Int).toNat*1+0))) [.cells (j.flatMap (qa .u64).c)] (.int .u64 x3) [.cells (j.flatMap (qa .u64).c)] false) (qce zW (E:=(qa .u64)) (l:=j) rfl rfl (wI L) (nl rfl) rfl)) (ac (iv zN (qa .u64) v) (ac (lv 0 zW (qa .u64) v rfl) az)))) ?_)
 obtain⟨r8,g8,h⟩:=bnd h
 refine Goes.imp (Q:=fun x s'=>(x= .normal/\ ∃n5 n6 n7,(n5,n6,n7)=r8/\Sub s' (ofG 186 ((0,.slice 0 b d e 1)::(1,vl (qa .u64) a)::(kW (a.length:Int) n5 (kAE n6 n7 []))),[.cells (j.flatMap (qa .u64).c)]))) ?_ ?_
 ·refine ihD g8 (fun c9 g8=>?_) (fun c9 g8=>?_)
  ·refine sh fol [(0,.slice 0 b d e 1),(1,vl (qa .u64) a),(5,.i (a.length:Int)),(6,.int .u64 18446744073709551615)] ?_
   obtain⟨c8,U,g8⟩:=bnd g8
   obtain⟨d0,b2,g8⟩:=bnd g8
   refine gr fol [3,4,8,9,10] ((0,.slice 0 b d e 1)::(1,vl (qa .u64) a)::(5,.i (a.length:Int))::(6,.int .u64 18446744073709551615)::(kAE d0.1 d0.2 [])) (ac (hs (.done (.opt (qg ZT 53 (.slice 0 b d e 1) (.i (w64 ((a.length:Int)-1))))) (.ptr 0 ((((b+(w64 ((a.length:Int)-1):Int).toNat:Nat):Int):Int).toNat*1+0))) (qcW zN U)) (ac (hs (.run [0] (ji ZT 146 (.ptr 0 ((((b+(w64 ((a.length:Int)-1):Int).toNat:Nat):Int):Int).toNat*1+0))) [.cells (j.flatMap (qa .u64).c)] (.int .u64 c8) [.cells (j.flatMap (qa .u64).c)] false) (qce zW (E:=(qa .u64)) (l:=j) rfl rfl (wI U) (nl rfl) rfl)) (ac (iv zN (qa .u64) v) (ac (lv 0 zW (qa .u64) v rfl) (ac (cv (qca c8 x4 0 b2)) az))))) ?_
   obtain rfl:=si g8
   exact⟨rfl,_,_,_,rfl,(Sub.refl _)⟩
  obtain⟨d1,V,g8⟩:=bnd g8
  obtain⟨d2,b3,g8⟩:=bnd g8
  refine gr fol [2,3,7,8,12,13,14] ((0,.slice 0 b d e 1)::(1,vl (qa .u64) a)::(kW (a.length:Int) d2.1 (kAk d2.2 (kBY [])))) (ac (hs (.done (.opt (qg ZT 53 (.slice 0 b d e 1) (.i (a.length:Int)))) (.ptr 0 ((((b+((a.length:Int):Int).toNat:Nat):Int):Int).toNat*1+0))) (qcW zN L)) (ac (hs (.run [0] (ji ZT 146 (.ptr 0 ((((b+((a.length:Int):Int).toNat:Nat):Int):Int).toNat*1+0))) [.cells (j.flatMap (qa .u64).c)] (.int .u64 x3) [.cells (j.flatMap (qa .u64).c)] false) (qce zW (E:=(qa .u64)) (l:=j) rfl rfl (wI L) (nl rfl) rfl)) (ac (hs (.done (.opt (qg ZT 53 (.slice 0 b d e 1) (.i (w64 ((a.length:Int)-1))))) (.ptr 0 ((((b+(w64 ((a.length:Int)-1):Int).toNat:Nat):Int):Int).toNat*1+0))) (qcW zN V)) (ac (hs (.run [0] (ji ZT 146 (.ptr 0 ((((b+(w64 ((a.length:Int)-1):Int).toNat:Nat):Int):Int).toNat*1+0))) [.cells (j.flatMap (qa .u64).c)] (.int .u64 d1) [.cells (j.flatMap (qa .u64).c)] false) (qce zW (E:=(qa .u64)) (l:=j) rfl rfl (wI V) (nl rfl) rfl)) (ac (iv zN (qa .u64) v) (ac (lv 0 zW (qa .u64) v rfl) (ac (cv (qeM N x3 d1 x4 b3)) az))))))) ?_
  obtain rfl:=si g8
  exact⟨rfl,_,_,_,rfl,(Sub.refl _)⟩
 rintro x s' ⟨rfl,n5,n6,n7,rfl,hsub⟩
 try dsimp only at h
 refine Goes.sub hsub ?_
 refine sq (Goes.block ?_)
 obtain⟨d3,g19,h⟩:=bnd h
 refine Goes.imp (Q:=fun x s'=>(x= .exit 0/\ ∃f,f=d3/\Sub s' (ofG 186 ((0,.slice 0 b d e 1)::(1,vl (qa .u64) a)::(kW (a.length:Int) f [])),[.cells (j.flatMap (qa .u64).c)]))) ?_ ?_
 ·refine Uc (fun M s=> ∃(p:Int) (r:Int) (a5:Int),s=(ofG 186 ((0,.slice 0 b d e 1)::(1,vl (qa .u64) a)::(kW (a.length:Int) p (kAE r a5 []))),[.cells (j.flatMap (qa .u64).c)])/\yh j b d a M p r a5=some d3) ?_ (m:=N) ⟨_,_,_,rfl,g19⟩
  rintro M s ⟨p,r,a5,rfl,g19⟩
  cases M with
  |zero=>simp only[yh]at g19;cases g19
  |succ M=>
   rw[yh]at g19
   refine sq ?_
   refine sh fol ((0,.slice 0 b d e 1)::(1,vl (qa .u64) a)::(kW (a.length:Int) p (kAk r [(64,.bool (decide (a5=0)))]))) ?_
   refine ihD g19 (fun c20 g19=>?_) (fun c20 g19=>?_)
   ·refine Goes.skip ?_
    refine Goes.block ?_
    obtain⟨x21,X,g19⟩:=bnd g19
    obtain⟨b4,b5,g19⟩:=bnd g19
    refine sq (gr fol [4,5,6] ((0,.slice 0 b d e 1)::(1,vl (qa .u64) a)::(kW (a.length:Int) p (kAk r [(9,.int .u64 b4.1),(10,.int .u64 b4.2)]))) (ac (iv zN (qa .u64) X) (ac (lv 0 zW (qa .u64) X rfl) (ac (cv (qbr p x21 b5)) az))) ?_)
    refine sq ?_
    refine sq ?_
    obtain⟨b26,k,g19⟩:=bnd g19
    refine Goes.cut (s':=(ofG 186 ((0,.slice 0 b d e 1)::(1,vl (qa .u64) a)::(kW (a.length:Int) p (kAk r [(91,.bool b26)]))),[.cells (j.flatMap (qa .u64).c)])) ?_ ?_
    ·rcases wyD k with⟨a6,k⟩|⟨a6,k⟩
     ·obtain rfl:=si k
      exact tr fol [3] ((0,.slice 0 b d e 1)::(1,vl (qa .u64) a)::(kW (a.length:Int) p (kAk r [(91,.bool true)]))) (ac (gw a6) az)
     rcases wyD k with⟨b6,k⟩|⟨b6,k⟩
     ·obtain⟨d4,Y,k⟩:=bnd k
      obtain rfl:=si k
      exact tr fol [3,7,12,13] ((0,.slice 0 b d e 1)::(1,vl (qa .u64) a)::(kW (a.length:Int) p (kAk r [(91,.bool (decide (b4.2<=d4)))]))) (ac (gw a6) (ac (gw b6) (ac (hs (.done (.opt (qg ZT 53 (.slice 0 b d e 1) (.i (w64 ((a.length:Int)-2))))) (.ptr 0 ((((b+(w64 ((a.length:Int)-2):Int).toNat:Nat):Int):Int).toNat*1+0))) (qcW zN Y)) (ac (hs (.run [0] (ji ZT 146 (.ptr 0 ((((b+(w64 ((a.length:Int)-2):Int).toNat:Nat):Int):Int).toNat*1+0))) [.cells (j.flatMap (qa .u64).c)] (.int .u64 d4) [.cells (j.flatMap (qa .u64).c)] false) (qce zW (E:=(qa .u64)) (l:=j) rfl rfl (wI Y) (nl rfl) rfl)) az))))
     obtain rfl:=si k
     exact tr fol [3,7] ((0,.slice 0 b d e 1)::(1,vl (qa .u64) a)::(kW (a.length:Int) p (kAk r [(91,.bool false)]))) (ac (gw a6) (ac (gw b6) az))
    refine ihB g19 (fun c28 g19=>?_) (fun c28 g19=>?_)
    ·refine Goes.exit ?_
     obtain rfl:=si g19
     exact⟨rfl,_,rfl,(Sub.keep [0,1,5,6] rfl rfl)⟩
    refine Goes.skip ?_
    refine sh fol ((0,.slice 0 b d e 1)::(1,vl (qa .u64) a)::(kW (a.length:Int) (IntKind.wrap .u64 (p-1)) (kAk r []))) ?_
    obtain⟨x29,Z,g19⟩:=bnd g19
    obtain⟨a7,b7,g19⟩:=bnd g19
    refine gr fol [4,5,6] ((0,.slice 0 b d e 1)::(1,vl (qa .u64) a)::(kW (a.length:Int) (IntKind.wrap .u64 (p-1)) (kAE a7.1 a7.2 []))) (ac (iv zN (qa .u64) Z) (ac (lv 0 zW (qa .u64) Z rfl) (ac (cv (qca r x29 0 b7)) az))) ?_
    exact⟨M,(ofG 186 ((0,.slice 0 b d e 1)::(1,vl (qa .u64) a)::(kW (a.length:Int) (IntKind.wrap .u64 (p-1)) (kAE a7.1 a7.2 []))),[.cells (j.flatMap (qa .u64).c)]),Nat.lt_succ_self _,(Sub.refl _),_,_,_,rfl,g19⟩
   refine Goes.exit ?_
   obtain rfl:=si g19
   exact⟨rfl,_,rfl,(Sub.keep [0,1,5,6] rfl rfl)⟩
 rintro x s' ⟨rfl,f,rfl,hsub⟩
 refine Goes.sub hsub ?_
 refine sh fol ((0,.slice 0 b d e 1)::(1,vl (qa .u64) a)::(kW (a.length:Int) f [(11,.int .u64 0),(12,.int .u64 0)])) ?_
 refine sq ?_
 refine sh fol ((0,.slice 0 b d e 1)::(1,vl (qa .u64) a)::(kW (a.length:Int) f [(11,.int .u64 0),(12,.int .u64 0),(104,.i (a.length:Int)),(105,.i 0)])) ?_
 refine Goes.block ?_
 obtain⟨d5,g38,h⟩:=bnd h
 refine Goes.imp (Q:=fun x s'=>(x= .exit 2/\ ∃D a8 a9,(D,a8,a9)=d5/\Sub s' (ofG 186 ((0,.slice 0 b d e 1)::(1,vl (qa .u64) a)::(kW (a.length:Int) f (kAD a8 a9 []))),[.cells (D.flatMap (qa .u64).c)]))) ?_ ?_
 ·refine Uc (fun M s=> ∃(F:List Int) (g:Int) (t:Int) (G:Int),s=(ofG 186 ((0,.slice 0 b d e 1)::(1,vl (qa .u64) a)::(kW (a.length:Int) f (kAD t G (kAu (a.length:Int) g)))),[.cells (F.flatMap (qa .u64).c)])/\vg b d a f M F g t G=some d5) ?_ (m:=N) ⟨_,_,_,_,rfl,g38⟩
  rintro M s ⟨F,g,t,G,rfl,g38⟩
  cases M with
  |zero=>simp only[vg]at g38;cases g38
  |succ M=>
   rw[vg]at g38
   refine sh fol ((0,.slice 0 b d e 1)::(1,vl (qa .u64) a)::(kW (a.length:Int) f (kAD t G [(104,.i (a.length:Int)),(105,.i g),(106,.bool (decide (g<(a.length:Int))))]))) ?_
   refine sq ?_
   refine ihD g38 (fun c39 g38=>?_) (fun c39 g38=>?_)
   ·refine Goes.skip ?_
    refine sq (Goes.block ?_)
    refine sh fol ((0,.slice 0 b d e 1)::(1,vl (qa .u64) a)::(kW (a.length:Int) f (kAD t G ((13,.i g)::(kAu (a.length:Int) g))))) ?_
    obtain⟨x40,a0,g38⟩:=bnd g38
    obtain⟨q,b8,g38⟩:=bnd g38
    refine sq (gr fol [3,4,5] ((0,.slice 0 b d e 1)::(1,vl (qa .u64) a)::(kW (a.length:Int) f (kAD t G ((13,.i g)::(kA3 q.1 q.2 (kAu (a.length:Int) g)))))) (ac (iv zN (qa .u64) a0) (ac (lv 0 zW (qa .u64) a0 rfl) (ac (cv (qbr f x40 b8)) az))) ?_)
    refine sh fol ((0,.slice 0 b d e 1)::(1,vl (qa .u64) a)::(kW (a.length:Int) f (kAD t G ((13,.i g)::(kA3 q.1 q.2 (kAu (a.length:Int) g)))))) ?_
    obtain⟨u,b9,g38⟩:=bnd g38
    refine sq (gr fol [2] ((0,.slice 0 b d e 1)::(1,vl (qa .u64) a)::(kW (a.length:Int) f ((11,.int .u64 t)::(13,.i g)::(kT q.1 u.1 u.2 (kAu (a.length:Int) g))))) (ac (cv (qca q.2 G 0 b9)) az) ?_)
    refine sh fol ((0,.slice 0 b d e 1)::(1,vl (qa .u64) a)::(kW (a.length:Int) f (kAD t (IntKind.wrap .u64 (q.1+u.2)) ((13,.i g)::(15,.int .u64 u.1)::(kAu (a.length:Int) g))))) ?_
    obtain⟨d6,w,g38⟩:=bnd g38
    obtain⟨J,c0,g38⟩:=bnd g38
    obtain⟨a1,c1,g38⟩:=bnd g38
    refine gq fol [4,5,8,12,13] ((0,.slice 0 b d e 1)::(1,vl (qa .u64) a)::(kW (a.length:Int) f (kAD J.2 (IntKind.wrap .u64 (q.1+u.2)) (kAu (a.length:Int) g)))) [.cells (a1.flatMap (qa .u64).c)] (ac (hs (.done (.opt (qg ZT 53 (.slice 0 b d e 1) (.i g))) (.ptr 0 ((((b+(g:Int).toNat:Nat):Int):Int).toNat*1+0))) (qcW zN w)) (ac (hs (.run [0] (ji ZT 146 (.ptr 0 ((((b+(g:Int).toNat:Nat):Int):Int).toNat*1+0))) [.cells (F.flatMap (qa .u64).c)] (.int .u64 d6) [.cells (F.flatMap (qa .u64).c)] false) (qce zW (E:=(qa .u64)) (l:=F) rfl rfl (wI w) (nl rfl) rfl)) (ac (cv (qhj d6 u.1 t c0)) (ac (hs (.done (.opt (qg ZT 53 (.slice 0 b d e 1) (.i g))) (.ptr 0 ((((b+(g:Int).toNat:Nat):Int):Int).toNat*1+0))) (qcW zN w)) (ac (hs (.run [0] (qp ZT 146 (.ptr 0 ((((b+(g:Int).toNat:Nat):Int):Int).toNat*1+0)) (.int .u64 J.1)) [.cells (F.flatMap (qa .u64).c)] .undef [.cells (a1.flatMap (qa .u64).c)] true) (xP (E:=(qa .u64)) (l:=F) (y:=J.1) rfl (show _=some 1 by kernel_rfl) rfl (wI w) rfl rfl rfl rfl rfl c1 rfl)) az))))) ?_
    refine Goes.sub (show Sub (ofG 186 ((0,.slice 0 b d e 1)::(1,vl (qa .u64) a)::(kW (a.length:Int) f (kAD J.2 (IntKind.wrap .u64 (q.1+u.2)) (kAu (a.length:Int) g)))),[.cells (a1.flatMap (qa .u64).c)]) (ofG 186 ((0,.slice 0 b d e 1)::(1,vl (qa .u64) a)::(kW (a.length:Int) f (kAD J.2 (IntKind.wrap .u64 (q.1+u.2)) (kAu (a.length:Int) g)))),[.cells (a1.flatMap (qa .u64).c)])from(Sub.norm [] [some 0] (by rw[hB];rfl) rfl (.keep (.slice rfl) (.keep (.same (qd (qa .u64) _)) (.keep (.same nI) (.keep (.same nI) (.keep (.same nI) (.keep (.same nI) (.keep (.same nI) (.keep (.same nI) .nil)))))))) (.ks .nil))) ?_
    refine gh fol ((0,.slice 0 b d e 1)::(1,vl (qa .u64) a)::(kW (a.length:Int) f (kAD J.2 (IntKind.wrap .u64 (q.1+u.2)) (kAu (a.length:Int) (w64 (g+1)))))) ?_
    exact⟨M,(ofG 186 ((0,.slice 0 b d e 1)::(1,vl (qa .u64) a)::(kW (a.length:Int) f (kAD J.2 (IntKind.wrap .u64 (q.1+u.2)) (kAu (a.length:Int) (w64 (g+1)))))),[.cells (a1.flatMap (qa .u64).c)]),Nat.lt_succ_self _,(Sub.refl _),_,_,_,_,rfl,g38⟩
   refine Goes.exit ?_
   obtain rfl:=si g38
   exact⟨rfl,_,_,_,rfl,(Sub.keep [0,1,5,6,11,12] rfl rfl)⟩
 rintro x s' ⟨rfl,D,a8,a9,rfl,hsub⟩
 try dsimp only at h
 refine Goes.sub hsub ?_
 obtain⟨d7,z,h⟩:=bnd h
 obtain⟨O,c2,h⟩:=bnd h
 obtain⟨b0,c3,h⟩:=bnd h
 refine sq (gq fol [4,5,8,12,13] ((0,.slice 0 b d e 1)::(1,vl (qa .u64) a)::(kW (a.length:Int) f [(11,.int .u64 O.2)])) [.cells (b0.flatMap (qa .u64).c)] (ac (hs (.done (.opt (qg ZT 53 (.slice 0 b d e 1) (.i (a.length:Int)))) (.ptr 0 ((((b+((a.length:Int):Int).toNat:Nat):Int):Int).toNat*1+0))) (qcW zN z)) (ac (hs (.run [0] (ji ZT 146 (.ptr 0 ((((b+((a.length:Int):Int).toNat:Nat):Int):Int).toNat*1+0))) [.cells (D.flatMap (qa .u64).c)] (.int .u64 d7) [.cells (D.flatMap (qa .u64).c)] false) (qce zW (E:=(qa .u64)) (l:=D) rfl rfl (wI z) (nl rfl) rfl)) (ac (cv (qhj d7 a9 a8 c2)) (ac (hs (.done (.opt (qg ZT 53 (.slice 0 b d e 1) (.i (a.length:Int)))) (.ptr 0 ((((b+((a.length:Int):Int).toNat:Nat):Int):Int).toNat*1+0))) (qcW zN z)) (ac (hs (.run [0] (qp ZT 146 (.ptr 0 ((((b+((a.length:Int):Int).toNat:Nat):Int):Int).toNat*1+0)) (.int .u64 O.1)) [.cells (D.flatMap (qa .u64).c)] .undef [.cells (b0.flatMap (qa .u64).c)] true) (xP (E:=(qa .u64)) (l:=D) (y:=O.1) rfl (show _=some 1 by kernel_rfl) rfl (wI z) rfl rfl rfl rfl rfl c3 rfl)) az))))) ?_)
 refine Goes.sub (show Sub (ofG 186 ((0,.slice 0 b d e 1)::(1,vl (qa .u64) a)::(kW (a.length:Int) f [(11,.int .u64 O.2)])),[.cells (b0.flatMap (qa .u64).c)]) (ofG 186 ((0,.slice 0 b d e 1)::(1,vl (qa .u64) a)::(kW (a.length:Int) f [(11,.int .u64 O.2)])),[.cells (b0.flatMap (qa .u64).c)])from(Sub.norm [] [some 0] (by rw[hB];rfl) rfl (.keep (.slice rfl) (.keep (.same (qd (qa .u64) _)) (.keep (.same nI) (.keep (.same nI) (.keep (.same nI) .nil))))) (.ks .nil))) ?_
 refine sq ?_
 refine sh fol ((0,.slice 0 b d e 1)::(1,vl (qa .u64) a)::(kW (a.length:Int) f [(154,.bool (decide (O.2=0)))])) ?_
 refine ihD h (fun c51 h=>?_) (fun c51 h=>?_)
 ·refine sh fol [(4,.int .u64 f)] ?_
  refine Goes.ret ?_
  simp only[ZI,ZP]at h
  obtain⟨rfl,rfl⟩:=h
  exact(gh2 [.int .u64 f] (qfr.refl _ _))
 refine Goes.skip ?_
 refine sh fol ((0,.slice 0 b d e 1)::(1,vl (qa .u64) a)::(kW (a.length:Int) f [(17,.int .u64 0)])) ?_
 refine sq ?_
 refine sh fol ((0,.slice 0 b d e 1)::(1,vl (qa .u64) a)::(kW (a.length:Int) f [(17,.int .u64 0),(156,.i (a.length:Int)),(157,.i 0)])) ?_
 refine Goes.block ?_
 obtain⟨d8,n,h⟩:=bnd h
 refine Goes.imp (Q:=fun x s'=>(x= .exit 4/\ ∃H a2,(H,a2)=d8/\Sub s' (ofG 186 ((0,.slice 0 b d e 1)::(kW (a.length:Int) f [(17,.int .u64 a2)])),[.cells (H.flatMap (qa .u64).c)]))) ?_ ?_
 ·refine Uc (fun M s=> ∃(I:List Int) (o:Int) (P:Int),s=(ofG 186 ((0,.slice 0 b d e 1)::(1,vl (qa .u64) a)::(kW (a.length:Int) f (kAw P (a.length:Int) o []))),[.cells (I.flatMap (qa .u64).c)])/\j6 b d a M I o P=some d8) ?_ (m:=N) ⟨_,_,_,rfl,n⟩
  rintro M s ⟨I,o,P,rfl,n⟩
  cases M with
  |zero=>simp only[j6]at n;cases n
  |succ M=>
   rw[j6]at n
   refine sh fol ((0,.slice 0 b d e 1)::(1,vl (qa .u64) a)::(kW (a.length:Int) f (kAw P (a.length:Int) o [(158,.bool (decide (o<(a.length:Int))))]))) ?_
   refine sq ?_
   refine ihD n (fun c58 n=>?_) (fun c58 n=>?_)
   ·refine Goes.skip ?_
    refine sq (Goes.block ?_)
    refine sh fol ((0,.slice 0 b d e 1)::(1,vl (qa .u64) a)::(kW (a.length:Int) f [(17,.int .u64 P),(18,.i o),(156,.i (a.length:Int)),(157,.i o)])) ?_
    obtain⟨d9,A,n⟩:=bnd n
    obtain⟨x60,a3,n⟩:=bnd n
    obtain⟨K,c4,n⟩:=bnd n
    obtain⟨a4,c5,n⟩:=bnd n
    refine gq fol [4,5,8,9,11,15,16] ((0,.slice 0 b d e 1)::(1,vl (qa .u64) a)::(kW (a.length:Int) f (kAw K.2 (a.length:Int) o []))) [.cells (a4.flatMap (qa .u64).c)] (ac (hs (.done (.opt (qg ZT 53 (.slice 0 b d e 1) (.i o))) (.ptr 0 ((((b+(o:Int).toNat:Nat):Int):Int).toNat*1+0))) (qcW zN A)) (ac (hs (.run [0] (ji ZT 146 (.ptr 0 ((((b+(o:Int).toNat:Nat):Int):Int).toNat*1+0))) [.cells (I.flatMap (qa .u64).c)] (.int .u64 d9) [.cells (I.flatMap (qa .u64).c)] false) (qce zW (E:=(qa .u64)) (l:=I) rfl rfl (wI A) (nl rfl) rfl)) (ac (iv zN (qa .u64) a3) (ac (lv 0 zW (qa .u64) a3 rfl) (ac (cv (qca d9 x60 P c4)) (ac (hs (.done (.opt (qg ZT 53 (.slice 0 b d e 1) (.i o))) (.ptr 0 ((((b+(o:Int).toNat:Nat):Int):Int).toNat*1+0))) (qcW zN A)) (ac (hs (.run [0] (qp ZT 146 (.ptr 0 ((((b+(o:Int).toNat:Nat):Int):Int).toNat*1+0)) (.int .u64 K.1)) [.cells (I.flatMap (qa .u64).c)] .undef [.cells (a4.flatMap (qa .u64).c)] true) (xP (E:=(qa .u64)) (l:=I) (y:=K.1) rfl (show _=some 1 by kernel_rfl) rfl (wI A) rfl rfl rfl rfl rfl c5 rfl)) az))))))) ?_
    refine Goes.sub (show Sub (ofG 186 ((0,.slice 0 b d e 1)::(1,vl (qa .u64) a)::(kW (a.length:Int) f (kAw K.2 (a.length:Int) o []))),[.cells (a4.flatMap (qa .u64).c)]) (ofG 186 ((0,.slice 0 b d e 1)::(1,vl (qa .u64) a)::(kW (a.length:Int) f (kAw K.2 (a.length:Int) o []))),[.cells (a4.flatMap (qa .u64).c)])from(Sub.norm [] [some 0] (by rw[hB];rfl) rfl (.keep (.slice rfl) (.keep (.same (qd (qa .u64) _)) (.keep (.same nI) (.keep (.same nI) (.keep (.same nI) (.keep (.same nI) (.keep (.same nI) .nil))))))) (.ks .nil))) ?_
    refine gh fol ((0,.slice 0 b d e 1)::(1,vl (qa .u64) a)::(kW (a.length:Int) f (kAw K.2 (a.length:Int) (w64 (o+1)) []))) ?_
    exact⟨M,(ofG 186 ((0,.slice 0 b d e 1)::(1,vl (qa .u64) a)::(kW (a.length:Int) f (kAw K.2 (a.length:Int) (w64 (o+1)) []))),[.cells (a4.flatMap (qa .u64).c)]),Nat.lt_succ_self _,(Sub.refl _),_,_,_,rfl,n⟩
   refine Goes.exit ?_
   obtain rfl:=si n
   exact⟨rfl,_,_,rfl,(Sub.keep [0,5,6,17] rfl rfl)⟩
 rintro x s' ⟨rfl,H,a2,rfl,hsub⟩
 try dsimp only at h
 refine Goes.sub hsub ?_
 obtain⟨c6,C,h⟩:=bnd h
 obtain⟨b1,c7,h⟩:=bnd h
 refine sq (gq fol [2,3,6,7] (kAP f []) [.cells (b1.flatMap (qa .u64).c)] (ac (hs (.done (.opt (qg ZT 53 (.slice 0 b d e 1) (.i (a.length:Int)))) (.ptr 0 ((((b+((a.length:Int):Int).toNat:Nat):Int):Int).toNat*1+0))) (qcW zN C)) (ac (hs (.run [0] (ji ZT 146 (.ptr 0 ((((b+((a.length:Int):Int).toNat:Nat):Int):Int).toNat*1+0))) [.cells (H.flatMap (qa .u64).c)] (.int .u64 c6) [.cells (H.flatMap (qa .u64).c)] false) (qce zW (E:=(qa .u64)) (l:=H) rfl rfl (wI C) (nl rfl) rfl)) (ac (hs (.done (.opt (qg ZT 53 (.slice 0 b d e 1) (.i (a.length:Int)))) (.ptr 0 ((((b+((a.length:Int):Int).toNat:Nat):Int):Int).toNat*1+0))) (qcW zN C)) (ac (hs (.run [0] (qp ZT 146 (.ptr 0 ((((b+((a.length:Int):Int).toNat:Nat):Int):Int).toNat*1+0)) (.int .u64 (IntKind.wrap .u64 (c6+a2)))) [.cells (H.flatMap (qa .u64).c)] .undef [.cells (b1.flatMap (qa .u64).c)] true) (xP (E:=(qa .u64)) (l:=H) (y:=IntKind.wrap .u64 (c6+a2)) rfl (show _=some 1 by kernel_rfl) rfl (wI C) rfl rfl rfl rfl rfl c7 rfl)) az)))) ?_)
 refine Goes.sub (show Sub (ofG 186 (kAP f []),[.cells (b1.flatMap (qa .u64).c)]) (ofG 186 (kAP f []),[.cells (b1.flatMap (qa .u64).c)])from(Sub.norm [] [some 0] (by rw[hB];rfl) rfl (.keep (.same nI) .nil) (.ks .nil))) ?_
 refine sh fol [(4,.int .u64 (IntKind.wrap .u64 (f-1)))] ?_
 refine Goes.ret ?_
 simp only[ZI,ZP]at h
 obtain⟨rfl,rfl⟩:=h
 exact(gh2 [.int .u64 (IntKind.wrap .u64 (f-1))] (qfr.refl _ _))
def vP (N:Nat) (a:List Int) (b:List Int):Nat->(List Int)->Int->Int->Option ((List Int)×Int)
 |0,_,_,_=>none
 |K+1,e,i,c=>
  if c>=0 then
  (idx a c).bind fun f=>
  (idx b 0).bind fun g=>
  (qaG N i f g).bind fun d=>
  (idx e c).bind fun j=>
  (put e c d.1).bind fun h=>
  vP N a b K h d.2 (w64 (c-1))
  else
  some (e,i)
def vR (N:Nat) (c:List Int):Nat->(List Int)->(List Int)->Int->Option ((List Int)×(List Int))
 |0,_,_,_=>none
 |K+1,b,d,a=>
  if a>=0 then
  (win b a (w64 ((w64 (a+(c.length:Int)))+1))).bind fun(e,g)=>
  (qbz N b e g (b.length-e) c).bind fun(f,h)=>
  ((if b.length=f.length then some ()else none:Option Unit)).bind fun j=>
  (idx d a).bind fun k=>
  (put d a h).bind fun i=>
  vR N c K f i (w64 (a-1))
  else
  some (b,d)
def jP (c:Int) (e:List Int):Nat->(List Int)->Int->Option (List Int)
 |0,_,_=>none
 |K+1,d,a=>
  if a<(e.length:Int)then
  (((idx d a).bind fun f=>
  (qkm .u64 f c).bind fun g=>
  (put d a g).bind fun b=>
  (if c>0 then
  some (decide ((w64 (a+1))<(b.length:Int)))
  else
  some false:Option Bool).bind fun h=>
  if h=true then
  (idx b a).bind fun i=>
  (idx b (w64 (a+1))).bind fun j=>
  (qhN .u64 j (w64 (64-c))).bind fun k=>
  (put b a (orI .u64 i k)).bind fun l=>
  some l
  else
  some b:Option (List Int))).bind fun m=>
  jP c e K m (w64 (a+1))
  else
  some d
def qaJ (N:Nat) (a:List Int) (b:List Int):Option ((List Int)×(List Int)):=
 (jL N a b).bind fun q=>
 if q<0 then
 some ([],a)
 else
 if(b.length:Int)=1 then
 (mk 8 (a.length:Int) 0).bind fun r=>
 (vP N a b N r 0 (w64 ((a.length:Int)-1))).bind fun(s,t)=>
 (yY N s).bind fun e=>
 (yY N ([t]:List Int)).bind fun f=>
 some (e,f)
 else
 (idx b (w64 ((b.length:Int)-1))).bind fun g=>
 (bits_LeadingZeros64 g).bind fun d=>
 (yZ N b d).bind fun h=>
 (yY N h).bind fun c=>
 (yZ N a d).bind fun i=>
 (mk 8 (w64 ((w64 ((a.length:Int)-(c.length:Int)))+1)) 0).bind fun j=>
 (vR N c N i j (w64 ((a.length:Int)-(c.length:Int)))).bind fun(k,l)=>
 (jP d c N k 0).bind fun m=>
 (yY N l).bind fun n=>
 (cut m 0 (c.length:Int)).bind fun o=>
 (yY N o).bind fun p=>
 some (n,p)
theorem qeI (N:Nat) (a:List Int) (b:List Int) {res:(List Int)×(List Int)} (h:qaJ N a b=some res):qb ZT (.fn 152) [vl (qa .u64) a,vl (qa .u64) b] [] (.tuple [vl (qa .u64) res.1,vl (qa .u64) res.2]) []:=by
 unfold qaJ at h
 refine Ub Tryz.func152 rfl rfl (m:=137) rfl (rs:=[.tmp 4,.tmp 5]) rfl (l:=[(0,vl (qa .u64) a),(1,vl (qa .u64) b)]) rfl ?_
 refine sh fol [(0,vl (qa .u64) a),(1,vl (qa .u64) b)] ?_
 refine sq ?_
 obtain⟨r1,e_r1,h⟩:=bnd h
 refine sq (gr fol [2] [(0,vl (qa .u64) a),(1,vl (qa .u64) b),(19,.bool (decide (r1<0)))] (ac (cv (qbE N a b e_r1)) az) ?_)
 refine ihD h (fun c2 h=>?_) (fun c2 h=>?_)
 ·refine sh fol [(4,.nilslice),(5,vl (qa .u64) a)] ?_
  refine Goes.ret ?_
  obtain rfl:=si h
  exact(gw2 [.nilslice,vl (qa .u64) a] (FzW.tuple (qc.cons (FzW.nilv (E:=(qa .u64))) (qc.cons (Ua (qx (qa .u64) _ (nl rfl))) qc.nil))))
 refine Goes.skip ?_
 refine sq ?_
 refine sh fol [(0,vl (qa .u64) a),(1,vl (qa .u64) b),(23,.bool (decide ((b.length:Int)=1)))] ?_
 refine ihD h (fun c3 h=>?_) (fun c3 h=>?_)
 ·obtain⟨l4,e_l4,h⟩:=bnd h
  refine sq (gq fol [2] ((0,vl (qa .u64) a)::(1,vl (qa .u64) b)::(kX l4 [])) [.cells (l4.flatMap (qa .u64).c)] (ac (hs (.run [] (jd ZT 53 (.i (a.length:Int)) (.i (a.length:Int))) [] (.slice 0 0 l4.length l4.length 1) [.cells (l4.flatMap (qa .u64).c)] false) (qcB zN (E:=(qa .u64)) (z:=0) rfl (by kernel_rfl) e_l4 rfl)) az) ?_)
  refine sh fol ((0,vl (qa .u64) a)::(1,vl (qa .u64) b)::(kX l4 [(7,.int .u64 0)])) ?_
  refine sq ?_
  refine sh fol ((0,vl (qa .u64) a)::(1,vl (qa .u64) b)::(kX l4 [(7,.int .u64 0),(8,.i (w64 ((a.length:Int)-1)))])) ?_
  refine Goes.block ?_
  obtain⟨r10,g10,h⟩:=bnd h
  refine Goes.imp (Q:=fun x s'=>(x= .exit 0/\ ∃J n9,(J,n9)=r10/\Sub s' (ofG 137 (kX J (kAk n9 [])),[.cells (J.flatMap (qa .u64).c)]))) ?_ ?_
  ·refine Uc (fun M s=> ∃(K:List Int) (n6:Int) (F:Int),s=(ofG 137 ((0,vl (qa .u64) a)::(1,vl (qa .u64) b)::(kX K (kAk n6 [(8,.i F)]))),[.cells (K.flatMap (qa .u64).c)])/\vP N a b M K n6 F=some r10) ?_ (m:=N) ⟨_,_,_,rfl,g10⟩
   rintro M s ⟨K,n6,F,rfl,g10⟩
   cases M with
   |zero=>simp only[vP]at g10;cases g10
   |succ M=>
    rw[vP]at g10
    refine sq ?_
    refine sh fol ((0,vl (qa .u64) a)::(1,vl (qa .u64) b)::(kX K (kAk n6 [(8,.i F),(31,.bool (decide (F>=0)))]))) ?_
    refine ihD g10 (fun c11 g10=>?_) (fun c11 g10=>?_)
    ·refine Goes.skip ?_
     refine sq (Goes.block ?_)
     obtain⟨x12,L,g10⟩:=bnd g10
     obtain⟨x13,O,g10⟩:=bnd g10
     obtain⟨C,e_r14,g10⟩:=bnd g10
     obtain⟨x15,P,g10⟩:=bnd g10
     obtain⟨A,U,g10⟩:=bnd g10
     refine gq fol [5,6,8,9,10,14,15] ((0,vl (qa .u64) a)::(1,vl (qa .u64) b)::(kX K (kAk C.2 [(8,.i F)]))) [.cells (A.flatMap (qa .u64).c)] (ac (iv zN (qa .u64) L) (ac (lv 0 zW (qa .u64) L rfl) (ac (iv zN (qa .u64) O) (ac (lv 0 zW (qa .u64) O rfl) (ac (cv (qeM N n6 x12 x13 e_r14)) (ac (hs (.done (.opt (qg ZT 53 (.slice 0 0 K.length K.length 1) (.i F))) (.ptr 0 ((F:Int).toNat*1+0))) (qaf zN P)) (ac (hs (.run [0] (qp ZT 146 (.ptr 0 ((F:Int).toNat*1+0)) (.int .u64 C.1)) [.cells (K.flatMap (qa .u64).c)] .undef [.cells (A.flatMap (qa .u64).c)] true) (xP (E:=(qa .u64)) (l:=K) (y:=C.1) rfl (show _=some 1 by kernel_rfl) rfl P rfl rfl rfl rfl rfl U rfl)) az))))))) ?_
     refine Goes.sub (show Sub (ofG 137 ((0,vl (qa .u64) a)::(1,vl (qa .u64) b)::(kX K (kAk C.2 [(8,.i F)]))),[.cells (A.flatMap (qa .u64).c)]) (ofG 137 ((0,vl (qa .u64) a)::(1,vl (qa .u64) b)::(kX A (kAk C.2 [(8,.i F)]))),[.cells (A.flatMap (qa .u64).c)])from(Sub.norm [] [some 0] rfl rfl (.keep (.same (qd (qa .u64) _)) (.keep (.same (qd (qa .u64) _)) (.keep (.sliceE rfl (vG U)) (.keep (.same nI) (.keep (.same nI) .nil))))) (.ks .nil))) ?_
     refine gh fol ((0,vl (qa .u64) a)::(1,vl (qa .u64) b)::(kX A (kAk C.2 [(8,.i (w64 (F-1)))]))) ?_
     exact⟨M,(ofG 137 ((0,vl (qa .u64) a)::(1,vl (qa .u64) b)::(kX A (kAk C.2 [(8,.i (w64 (F-1)))]))),[.cells (A.flatMap (qa .u64).c)]),Nat.lt_succ_self _,(Sub.refl _),_,_,_,rfl,g10⟩
    refine Goes.exit ?_
    obtain rfl:=si g10
    exact⟨rfl,_,_,rfl,(Sub.keep [6,7] rfl rfl)⟩
  rintro x s' ⟨rfl,J,n9,rfl,hsub⟩
  try dsimp only at h
  refine Goes.sub hsub ?_
  obtain⟨V,e_r17,h⟩:=bnd h
  obtain⟨X,e_r18,h⟩:=bnd h
  refine sq (gq fol [1,4] [(4,vl (qa .u64) V),(5,vl (qa .u64) X)] [.frozen (J.flatMap (qa .u64).c),.frozen [.int .u64 n9]] (ac (hs (.callF 141 [.slice 0 0 J.length J.length 1] [.cells (J.flatMap (qa .u64).c)] [0] [vl (qa .u64) J] (vl (qa .u64) V)) (vZ (FzL.cons (Fz.sl (E:=(qa .u64)) rfl rfl (nl rfl)) FzL.nil) (xh N J e_r17) (qx (qa .u64) _ (nl rfl)))) (ac (hs (.callF 141 [.slice 1 0 1 1 1] [.frozen (J.flatMap (qa .u64).c),.cells [.int .u64 n9]] [1] [vl (qa .u64) ([n9]:List Int)] (vl (qa .u64) X)) (vZ (FzL.cons (Fz.lit rfl rfl (Ue (AllST.cons tI AllST.nil))) FzL.nil) (xh N ([n9]:List Int) e_r18) (qx (qa .u64) _ (nl rfl)))) az)) ?_)
  refine Goes.sub (show Sub (ofG 137 [(4,vl (qa .u64) V),(5,vl (qa .u64) X)],[.frozen (J.flatMap (qa .u64).c),.frozen [.int .u64 n9]]) (ofG 137 [(4,vl (qa .u64) V),(5,vl (qa .u64) X)],[])from(Sub.norm [] [] rfl rfl (.keep (.same (qd (qa .u64) _)) (.keep (.same (qd (qa .u64) _)) .nil)) .nil)) ?_
  refine Goes.ret ?_
  obtain rfl:=si h
  exact(gw2 [vl (qa .u64) V,vl (qa .u64) X] (FzW.tuple (qc.cons (Ua (qx (qa .u64) _ (nl rfl))) (qc.cons (Ua (qx (qa .u64) _ (nl rfl))) qc.nil))))
 refine Goes.skip ?_
 obtain⟨x19,Y,h⟩:=bnd h
 obtain⟨g,e_r20,h⟩:=bnd h
 refine sq (gr fol [4,5,6] [(0,vl (qa .u64) a),(1,vl (qa .u64) b),(9,.i g)] (ac (iv zN (qa .u64) Y) (ac (lv 0 zW (qa .u64) Y rfl) (ac (cv (qa2 x19 e_r20)) az))) ?_)
 obtain⟨t,e_r21,h⟩:=bnd h
 obtain⟨d,e_r23,h⟩:=bnd h
 refine sq (gq fol [2,3] [(0,vl (qa .u64) a),(9,.i g),(10,vl (qa .u64) d)] [.frozen (t.flatMap (qa .u64).c)] (ac (hs (.callH 173 [vl (qa .u64) b,.i g] [] [] (.slice 0 0 t.length t.length 1) [.cells (t.flatMap (qa .u64).c)]) (qfV [] [some 0] (qcn N b g e_r21) .nil rfl rfl (.new rfl rfl (.same fa) rfl .nil) (rc (.same (qd (qa .u64) _)) (rc (.same nI) rn)) (.slice rfl) rfl)) (ac (hs (.callF 141 [.slice 0 0 t.length t.length 1] [.cells (t.flatMap (qa .u64).c)] [0] [vl (qa .u64) t] (vl (qa .u64) d)) (vZ (FzL.cons (Fz.sl (E:=(qa .u64)) rfl rfl (nl rfl)) FzL.nil) (xh N t e_r23) (qx (qa .u64) _ (nl rfl)))) az)) ?_)
 refine Goes.sub (show Sub (ofG 137 [(0,vl (qa .u64) a),(9,.i g),(10,vl (qa .u64) d)],[.frozen (t.flatMap (qa .u64).c)]) (ofG 137 [(0,vl (qa .u64) a),(9,.i g),(10,vl (qa .u64) d)],[])from(Sub.norm [] [] rfl rfl (.keep (.same (qd (qa .u64) _)) (.keep (.same nI) (.keep (.same (qd (qa .u64) _)) .nil))) .nil)) ?_
 obtain⟨p,e_r24,h⟩:=bnd h
 refine sq (gq fol [2] [(0,vl (qa .u64) a),(9,.i g),(10,vl (qa .u64) d),(11,.slice 0 0 p.length p.length 1)] [.cells (p.flatMap (qa .u64).c)] (ac (hs (.callH 173 [vl (qa .u64) a,.i g] [] [] (.slice 0 0 p.length p.length 1) [.cells (p.flatMap (qa .u64).c)]) (qfV [] [some 0] (qcn N a g e_r24) .nil rfl rfl (.new rfl rfl (.same fa) rfl .nil) (rc (.same (qd (qa .u64) _)) (rc (.same nI) rn)) (.slice rfl) rfl)) az) ?_)
 refine sh fol [(0,vl (qa .u64) a),(9,.i g),(10,vl (qa .u64) d),(11,.slice 0 0 p.length p.length 1),(12,.i (d.length:Int))] ?_
 obtain⟨G,e_l26,h⟩:=bnd h
 refine sq (gq fol [5] ((0,vl (qa .u64) a)::(9,.i g)::(10,vl (qa .u64) d)::(kI p (d.length:Int) G [])) [.cells (p.flatMap (qa .u64).c),.cells (G.flatMap (qa .u64).c)] (ac (hs (.run [] (jd ZT 53 (.i (w64 ((w64 ((a.length:Int)-(d.length:Int)))+1))) (.i (w64 ((w64 ((a.length:Int)-(d.length:Int)))+1)))) [.cells (p.flatMap (qa .u64).c)] (.slice 1 0 G.length G.length 1) [.cells (p.flatMap (qa .u64).c),.cells (G.flatMap (qa .u64).c)] false) (qcB zN (E:=(qa .u64)) (z:=0) rfl (by kernel_rfl) e_l26 rfl)) az) ?_)
 refine sq ?_
 refine sh fol ((9,.i g)::(10,vl (qa .u64) d)::(kI p (d.length:Int) G [(14,.i (w64 ((a.length:Int)-(d.length:Int))))])) ?_
 refine Goes.block ?_
 obtain⟨r32,g32,h⟩:=bnd h
 refine Goes.imp (Q:=fun x s'=>(x= .exit 2/\ ∃Z e,(Z,e)=r32/\Sub s' (ofG 137 ((9,.i g)::(kI Z (d.length:Int) e [])),[.cells (Z.flatMap (qa .u64).c),.cells (e.flatMap (qa .u64).c)]))) ?_ ?_
 ·refine Uc (fun M s=> ∃(o:List Int) (q:List Int) (n:Int),s=(ofG 137 ((9,.i g)::(10,vl (qa .u64) d)::(kI o (d.length:Int) q [(14,.i n)])),[.cells (o.flatMap (qa .u64).c),.cells (q.flatMap (qa .u64).c)])/\vR N d M o q n=some r32) ?_ (m:=N) ⟨_,_,_,rfl,g32⟩
  rintro M s ⟨o,q,n,rfl,g32⟩
  cases M with
  |zero=>simp only[vR]at g32;cases g32
  |succ M=>
   rw[vR]at g32
   refine sq ?_
   refine sh fol ((9,.i g)::(10,vl (qa .u64) d)::(kI o (d.length:Int) q [(14,.i n),(81,.bool (decide (n>=0)))])) ?_
   refine ihD g32 (fun c33 g32=>?_) (fun c33 g32=>?_)
   ·refine Goes.skip ?_
    refine sq (Goes.block ?_)
    obtain⟨⟨H,n36⟩,e_w34,g32⟩:=bnd g32
    try dsimp only at g32
    obtain⟨⟨u,n39⟩,e_r37,g32⟩:=bnd g32
    try dsimp only at g32
    obtain⟨u40,e_u40,g32⟩:=bnd g32
    obtain⟨x41,a0,g32⟩:=bnd g32
    obtain⟨B,a1,g32⟩:=bnd g32
    refine gq fol [8,10,11,12] ((9,.i g)::(10,vl (qa .u64) d)::(kI o (d.length:Int) q [(14,.i n)])) [.cells (u.flatMap (qa .u64).c),.cells (B.flatMap (qa .u64).c)] (ac (hs (.done (.opt (qV ZT 53 (.slice 0 0 o.length o.length 1) (some (.i n)) (some (.i (w64 ((w64 (n+(d.length:Int)))+1)))) none)) (.slice 0 H n36 (o.length-H) 1)) (wn_ix zN e_w34)) (ac (hs (.callH 174 [.slice 0 H n36 (o.length-H) 1,vl (qa .u64) d] [.cells (o.flatMap (qa .u64).c),.cells (q.flatMap (qa .u64).c)] [0] (.int .u64 n39) [.cells (u.flatMap (qa .u64).c),.cells (q.flatMap (qa .u64).c)]) (qfV [some 0] [some 0,none] (qhD N o H n36 (o.length-H) d e_r37) (.ks .nil) rfl rfl (.back rfl rfl (.same fa) rfl (.old rfl rfl .nil)) (rc (.slice rfl) (rc (.same (qd (qa .u64) _)) rn)) (.same nI) rfl)) (ac (hs (.done (.opt (qg ZT 53 (.slice 1 0 q.length q.length 1) (.i n))) (.ptr 1 ((n:Int).toNat*1+0))) (qaf zN a0)) (ac (hs (.run [1] (qp ZT 146 (.ptr 1 ((n:Int).toNat*1+0)) (.int .u64 n39)) [.cells (u.flatMap (qa .u64).c),.cells (q.flatMap (qa .u64).c)] .undef [.cells (u.flatMap (qa .u64).c),.cells (B.flatMap (qa .u64).c)] true) (xP (E:=(qa .u64)) (l:=q) (y:=n39) rfl (show _=some 1 by kernel_rfl) rfl a0 rfl rfl rfl rfl rfl a1 rfl)) az)))) ?_
    refine Goes.sub (show Sub (ofG 137 ((9,.i g)::(10,vl (qa .u64) d)::(kI o (d.length:Int) q [(14,.i n)])),[.cells (u.flatMap (qa .u64).c),.cells (B.flatMap (qa .u64).c)]) (ofG 137 ((9,.i g)::(10,vl (qa .u64) d)::(kI u (d.length:Int) B [(14,.i n)])),[.cells (u.flatMap (qa .u64).c),.cells (B.flatMap (qa .u64).c)])from(Sub.norm [] [some 0,some 1] rfl rfl (.keep (.same nI) (.keep (.same (qd (qa .u64) _)) (.keep (.sliceE rfl (qoY e_u40)) (.keep (.same nI) (.keep (.sliceE rfl (vG a1)) (.keep (.same nI) .nil)))))) (.ks (.ks .nil)))) ?_
    refine gh fol ((9,.i g)::(10,vl (qa .u64) d)::(kI u (d.length:Int) B [(14,.i (w64 (n-1)))])) ?_
    exact⟨M,(ofG 137 ((9,.i g)::(10,vl (qa .u64) d)::(kI u (d.length:Int) B [(14,.i (w64 (n-1)))])),[.cells (u.flatMap (qa .u64).c),.cells (B.flatMap (qa .u64).c)]),Nat.lt_succ_self _,(Sub.refl _),_,_,_,rfl,g32⟩
   refine Goes.exit ?_
   obtain rfl:=si g32
   exact⟨rfl,_,_,rfl,(Sub.keep [9,11,12,13] rfl rfl)⟩
 rintro x s' ⟨rfl,Z,e,rfl,hsub⟩
 try dsimp only at h
 refine Goes.sub hsub ?_
 refine sq ?_
 refine sh fol ((9,.i g)::(kI Z (d.length:Int) e [(96,.i (d.length:Int)),(97,.i 0)])) ?_
 refine Goes.block ?_
 obtain⟨r46,g46,h⟩:=bnd h
 refine Goes.imp (Q:=fun x s'=>(x= .exit 4/\ ∃I,I=r46/\Sub s' (ofG 137 (kI I (d.length:Int) e []),[.cells (I.flatMap (qa .u64).c),.cells (e.flatMap (qa .u64).c)]))) ?_ ?_
 ·refine Uc (fun M s=> ∃(k:List Int) (f:Int),s=(ofG 137 ((9,.i g)::(kI k (d.length:Int) e (kA0 (d.length:Int) f))),[.cells (k.flatMap (qa .u64).c),.cells (e.flatMap (qa .u64).c)])/\jP g d M k f=some r46) ?_ (m:=N) ⟨_,_,rfl,g46⟩
  rintro M s ⟨k,f,rfl,g46⟩
  cases M with
  |zero=>simp only[jP]at g46;cases g46
  |succ M=>
   rw[jP]at g46
   refine sh fol ((9,.i g)::(kI k (d.length:Int) e [(96,.i (d.length:Int)),(97,.i f),(98,.bool (decide (f<(d.length:Int))))])) ?_
   refine sq ?_
   refine ihD g46 (fun c47 g46=>?_) (fun c47 g46=>?_)
   ·refine Goes.skip ?_
    refine sq ?_
    obtain⟨r49,g49,g46⟩:=bnd g46
    refine Goes.imp (Q:=fun x s'=>(x= .normal/\ ∃D,D=r49/\Sub s' (ofG 137 ((9,.i g)::(kI D (d.length:Int) e (kA0 (d.length:Int) f))),[.cells (D.flatMap (qa .u64).c),.cells (e.flatMap (qa .u64).c)]))) ?_ ?_
    ·refine Goes.block ?_
     refine sh fol ((9,.i g)::(kI k (d.length:Int) e ((15,.i f)::(kA0 (d.length:Int) f)))) ?_
     obtain⟨x50,v,g49⟩:=bnd g49
     obtain⟨q51,e_q51,g49⟩:=bnd g49
     obtain⟨j,a2,g49⟩:=bnd g49
     refine sq (gq fol [2,3,5,6,7] ((9,.i g)::(kI k (d.length:Int) e ((15,.i f)::(kA0 (d.length:Int) f)))) [.cells (j.flatMap (qa .u64).c),.cells (e.flatMap (qa .u64).c)] (ac (hs (.done (.opt (qg ZT 53 (.slice 0 0 k.length k.length 1) (.i f))) (.ptr 0 ((f:Int).toNat*1+0))) (qaf zN v)) (ac (hs (.run [0] (ji ZT 146 (.ptr 0 ((f:Int).toNat*1+0))) [.cells (k.flatMap (qa .u64).c),.cells (e.flatMap (qa .u64).c)] (.int .u64 x50) [.cells (k.flatMap (qa .u64).c),.cells (e.flatMap (qa .u64).c)] false) (qce zW (E:=(qa .u64)) (l:=k) rfl rfl v (nl rfl) rfl)) (ac (hs (.done (.opt (ko ZT .shr 146 (.tmp 103) (.tmp 104) (.int .u64 x50) (.i g))) (.int .u64 q51)) (qgu e_q51)) (ac (hs (.done (.opt (qg ZT 53 (.slice 0 0 k.length k.length 1) (.i f))) (.ptr 0 ((f:Int).toNat*1+0))) (qaf zN v)) (ac (hs (.run [0] (qp ZT 146 (.ptr 0 ((f:Int).toNat*1+0)) (.int .u64 q51)) [.cells (k.flatMap (qa .u64).c),.cells (e.flatMap (qa .u64).c)] .undef [.cells (j.flatMap (qa .u64).c),.cells (e.flatMap (qa .u64).c)] true) (xP (E:=(qa .u64)) (l:=k) (y:=q51) rfl (show _=some 1 by kernel_rfl) rfl v rfl rfl rfl rfl rfl a2 rfl)) az))))) ?_)
     refine Goes.sub (show Sub (ofG 137 ((9,.i g)::(kI k (d.length:Int) e ((15,.i f)::(kA0 (d.length:Int) f)))),[.cells (j.flatMap (qa .u64).c),.cells (e.flatMap (qa .u64).c)]) (ofG 137 ((9,.i g)::(kI j (d.length:Int) e ((15,.i f)::(kA0 (d.length:Int) f)))),[.cells (j.flatMap (qa .u64).c),.cells (e.flatMap (qa .u64).c)])from(Sub.norm [] [some 0,some 1] rfl rfl (.keep (.same nI) (.keep (.sliceE rfl (vG a2)) (.keep (.same nI) (.keep (.slice rfl) (.keep (.same nI) (.keep (.same nI) (.keep (.same nI) .nil))))))) (.ks (.ks .nil)))) ?_
     refine sq ?_
     obtain⟨b54,r,g49⟩:=bnd g49
     refine Goes.cut (s':=(ofG 137 ((9,.i g)::(kI j (d.length:Int) e [(15,.i f),(96,.i (d.length:Int)),(97,.i f),(115,.bool b54)])),[.cells (j.flatMap (qa .u64).c),.cells (e.flatMap (qa .u64).c)])) ?_ ?_
     ·rcases wyD r with⟨c53,r⟩|⟨c53,r⟩
      ·obtain rfl:=si r
       exact tr fol [2] ((9,.i g)::(kI j (d.length:Int) e [(15,.i f),(96,.i (d.length:Int)),(97,.i f),(115,.bool (decide ((w64 (f+1))<(j.length:Int))))])) (ac (gw c53) az)
      obtain rfl:=si r
      exact tr fol [2] ((9,.i g)::(kI j (d.length:Int) e [(15,.i f),(96,.i (d.length:Int)),(97,.i f),(115,.bool false)])) (ac (gw c53) az)
     refine ihB g49 (fun c56 g49=>?_) (fun c56 g49=>?_)
     ·obtain⟨x57,w,g49⟩:=bnd g49
      obtain⟨x58,a3,g49⟩:=bnd g49
      obtain⟨q59,e_q59,g49⟩:=bnd g49
      obtain⟨a4,a5,g49⟩:=bnd g49
      refine gq fol [2,3,7,8,11,13,14] ((9,.i g)::(kI j (d.length:Int) e (kA0 (d.length:Int) f))) [.cells (a4.flatMap (qa .u64).c),.cells (e.flatMap (qa .u64).c)] (ac (hs (.done (.opt (qg ZT 53 (.slice 0 0 j.length j.length 1) (.i f))) (.ptr 0 ((f:Int).toNat*1+0))) (qaf zN w)) (ac (hs (.run [0] (ji ZT 146 (.ptr 0 ((f:Int).toNat*1+0))) [.cells (j.flatMap (qa .u64).c),.cells (e.flatMap (qa .u64).c)] (.int .u64 x57) [.cells (j.flatMap (qa .u64).c),.cells (e.flatMap (qa .u64).c)] false) (qce zW (E:=(qa .u64)) (l:=j) rfl rfl w (nl rfl) rfl)) (ac (hs (.done (.opt (qg ZT 53 (.slice 0 0 j.length j.length 1) (.i (w64 (f+1))))) (.ptr 0 ((w64 (f+1):Int).toNat*1+0))) (qaf zN a3)) (ac (hs (.run [0] (ji ZT 146 (.ptr 0 ((w64 (f+1):Int).toNat*1+0))) [.cells (j.flatMap (qa .u64).c),.cells (e.flatMap (qa .u64).c)] (.int .u64 x58) [.cells (j.flatMap (qa .u64).c),.cells (e.flatMap (qa .u64).c)] false) (qce zW (E:=(qa .u64)) (l:=j) rfl rfl a3 (nl rfl) rfl)) (ac (hs (.done (.opt (ko ZT .shl 146 (.tmp 124) (.tmp 126) (.int .u64 x58) (.i (w64 (64-g))))) (.int .u64 q59)) (qfq e_q59)) (ac (hs (.done (.opt (qg ZT 53 (.slice 0 0 j.length j.length 1) (.i f))) (.ptr 0 ((f:Int).toNat*1+0))) (qaf zN w)) (ac (hs (.run [0] (qp ZT 146 (.ptr 0 ((f:Int).toNat*1+0)) (.int .u64 (orI .u64 x57 q59))) [.cells (j.flatMap (qa .u64).c),.cells (e.flatMap (qa .u64).c)] .undef [.cells (a4.flatMap (qa .u64).c),.cells (e.flatMap (qa .u64).c)] true) (xP (E:=(qa .u64)) (l:=j) (y:=orI .u64 x57 q59) rfl (show _=some 1 by kernel_rfl) rfl w rfl rfl rfl rfl rfl a5 rfl)) az))))))) ?_
      obtain rfl:=si g49
      exact⟨rfl,_,rfl,((show Sub (ofG 137 ((9,.i g)::(kI j (d.length:Int) e (kA0 (d.length:Int) f))),[.cells (a4.flatMap (qa .u64).c),.cells (e.flatMap (qa .u64).c)]) (ofG 137 ((9,.i g)::(kI a4 (d.length:Int) e (kA0 (d.length:Int) f))),[.cells (a4.flatMap (qa .u64).c),.cells (e.flatMap (qa .u64).c)])from(Sub.norm [] [some 0,some 1] rfl rfl (.keep (.same nI) (.keep (.sliceE rfl (vG a5)) (.keep (.same nI) (.keep (.slice rfl) (.keep (.same nI) (.keep (.same nI) .nil)))))) (.ks (.ks .nil)))).trans (Sub.refl _))⟩
     refine Goes.skip ?_
     obtain rfl:=si g49
     exact⟨rfl,_,rfl,(Sub.keep [9,11,12,13,96,97] rfl rfl)⟩
    rintro x s' ⟨rfl,D,rfl,hsub⟩
    refine Goes.sub hsub ?_
    refine gh fol ((9,.i g)::(kI D (d.length:Int) e (kA0 (d.length:Int) (w64 (f+1))))) ?_
    exact⟨M,(ofG 137 ((9,.i g)::(kI D (d.length:Int) e (kA0 (d.length:Int) (w64 (f+1))))),[.cells (D.flatMap (qa .u64).c),.cells (e.flatMap (qa .u64).c)]),Nat.lt_succ_self _,(Sub.refl _),_,_,rfl,g46⟩
   refine Goes.exit ?_
   obtain rfl:=si g46
   exact⟨rfl,_,rfl,(Sub.keep [11,12,13] rfl rfl)⟩
 rintro x s' ⟨rfl,I,rfl,hsub⟩
 refine Goes.sub hsub ?_
 refine sq (Goes.sub (s':=(ofG 137 [(11,vl (qa .u64) I),(12,.i (d.length:Int)),(13,.slice 0 0 e.length e.length 1)],[.cells (e.flatMap (qa .u64).c)])) (Sub.norm [0] [some 1] rfl rfl (.keep (.frz (Fz.sl (E:=(qa .u64)) rfl rfl (nl rfl)) (qd (qa .u64) _)) (.keep (.same nI) (.keep (.slice rfl) .nil))) (.ks .nil)) ?_)
 obtain⟨a6,e_r62,h⟩:=bnd h
 obtain⟨s63,e_s63,h⟩:=bnd h
 obtain⟨a7,e_r64,h⟩:=bnd h
 refine gq fol [1,4,5] [(4,vl (qa .u64) a6),(5,vl (qa .u64) a7)] [.frozen (e.flatMap (qa .u64).c)] (ac (hs (.callF 141 [.slice 0 0 e.length e.length 1] [.cells (e.flatMap (qa .u64).c)] [0] [vl (qa .u64) e] (vl (qa .u64) a6)) (vZ (FzL.cons (Fz.sl (E:=(qa .u64)) rfl rfl (nl rfl)) FzL.nil) (xh N e e_r62) (qx (qa .u64) _ (nl rfl)))) (ac (hs (.done (.opt (qV ZT 53 (vl (qa .u64) I) none (some (.i (d.length:Int))) none)) (vl (qa .u64) s63)) (qma zN (E:=(qa .u64)) rfl none (some (d.length:Int)) e_s63)) (ac (cv (xh N s63 e_r64)) az))) ?_
 refine Goes.sub (show Sub (ofG 137 [(4,vl (qa .u64) a6),(5,vl (qa .u64) a7)],[.frozen (e.flatMap (qa .u64).c)]) (ofG 137 [(4,vl (qa .u64) a6),(5,vl (qa .u64) a7)],[])from(Sub.norm [] [] rfl rfl (.keep (.same (qd (qa .u64) _)) (.keep (.same (qd (qa .u64) _)) .nil)) .nil)) ?_
 refine Goes.ret ?_
 obtain rfl:=si h
 exact(gw2 [vl (qa .u64) a6,vl (qa .u64) a7] (FzW.tuple (qc.cons (Ua (qx (qa .u64) _ (nl rfl))) (qc.cons (Ua (qx (qa .u64) _ (nl rfl))) qc.nil))))
def jv (N:Nat) (a:qj) (b:qj):Option (qj×qj):=
 (if a.w.isEmpty=true then
 if b.w.isEmpty=true then
 some (!decide (a.s=(-9223372036854775808)))
 else
 some false
 else
 some false:Option Bool).bind fun r=>
 if r=true then
 (qb2 .i64 a.s b.s).bind fun q=>
 (qd2 .i64 a.s b.s).bind fun i=>
 ((if i<0 then
 some (w64 (q-1),w64 (i+b.s))
 else
 some (q,i):Option (Int×Int))).bind fun(t,u)=>
 some ((⟨t,[]⟩:qj),(⟨u,[]⟩:qj))
 else
 (qK a).bind fun d=>
 (qK b).bind fun j=>
 (qaJ N d.2 j.2).bind fun f=>
 (vC d.1 f.1).bind fun e=>
 (vC d.1 f.2).bind fun c=>
 (kw c).bind fun k=>
 ((if k<0 then
 (qbX 1).bind fun l=>
 (xe N e l).bind fun g=>
 (yH N c b).bind fun h=>
 some (g.s,g.w,h.s,h.w)
 else
 some (e.s,e.w,c.s,c.w):Option (Int×(List Int)×Int×(List Int)))).bind fun(m,n,o,p)=>
 some ((⟨m,n⟩:qj),(⟨o,p⟩:qj))
theorem qch (N:Nat) (a:qj) (b:qj) {res:qj×qj} (h:jv N a b=some res):qb ZT (.fn 121) [.agg (nz1 a),.agg (nz1 b)] [] (.tuple [.agg (nz1 res.1),.agg (nz1 res.2)]) []:=by
 unfold jv at h
 refine Ub Tryz.func121 rfl rfl (m:=84) rfl (rs:=[.cell 4 55,.cell 5 55]) rfl (l:=[(0,.agg (nz1 a)),(1,.agg (nz1 b))]) rfl ?_
 refine sg fol (kG (kBH [])) [.cells (nz1 a),.cells (nz1 b),bZ,bZ] ?_
 refine sq ?_
 refine sq ?_
 obtain⟨b3,c,h⟩:=bnd h
 refine Goes.cut (s':=(ofG 84 (kG (kBH [(28,.bool b3)])),[.cells (nz1 a),.cells (nz1 b),bZ,bZ])) ?_ ?_
 ·rcases wyB c with⟨L,c⟩|⟨L,c⟩
  ·rcases wyB c with⟨O,c⟩|⟨O,c⟩
   ·obtain rfl:=si c
    exact tr fol [2,3,6,8] (kG (kBH [(28,.bool (!decide (a.s=(-9223372036854775808))))])) (ac (hs (.done (.opt (ko ZT .eql 53 (.tmp 17) (.const (.slice none 0 0)) (nvl (qa .u64) a.w) .nilslice)) (.bool a.w.isEmpty)) (qaB qaw)) (ac (gw L) (ac (hs (.done (.opt (ko ZT .eql 53 (.tmp 21) (.const (.slice none 0 0)) (nvl (qa .u64) b.w) .nilslice)) (.bool b.w.isEmpty)) (qaB qaw)) (ac (gw O) az))))
   obtain rfl:=si c
   exact tr fol [2,3,6,8] (kG (kBH [(28,.bool false)])) (ac (hs (.done (.opt (ko ZT .eql 53 (.tmp 17) (.const (.slice none 0 0)) (nvl (qa .u64) a.w) .nilslice)) (.bool a.w.isEmpty)) (qaB qaw)) (ac (gw L) (ac (hs (.done (.opt (ko ZT .eql 53 (.tmp 21) (.const (.slice none 0 0)) (nvl (qa .u64) b.w) .nilslice)) (.bool b.w.isEmpty)) (qaB qaw)) (ac (gw O) az))))
  obtain rfl:=si c
  exact tr fol [2,3] (kG (kBH [(28,.bool false)])) (ac (hs (.done (.opt (ko ZT .eql 53 (.tmp 17) (.const (.slice none 0 0)) (nvl (qa .u64) a.w) .nilslice)) (.bool a.w.isEmpty)) (qaB qaw)) (ac (gw L) az))
 refine ihB h (fun c5 h=>?_) (fun c5 h=>?_)
 ·obtain⟨M,F,h⟩:=bnd h
  obtain⟨G,H,h⟩:=bnd h
  refine sq (gr fol [4,9] (kAj (kAM (kBH (kAn M G [])))) (ac (hs (.done (.opt (ko ZT .quo 3 (.tmp 30) (.tmp 32) (.i a.s) (.i b.s))) (.i M)) (qbJ F)) (ac (hs (.done (.opt (ko ZT .rem 3 (.tmp 35) (.tmp 37) (.i a.s) (.i b.s))) (.i G)) (qfn H)) az)) ?_)
  refine sq ?_
  refine sh fol (kAj (kAM (kBH (kAn M G [(40,.bool (decide (G<0)))])))) ?_
  obtain⟨P,g10,h⟩:=bnd h
  refine Goes.imp (Q:=fun x s'=>(x= .normal/\ ∃I J,(I,J)=P/\Sub s' (ofG 84 (kY (kAn I J [])),[bZ,bZ]))) ?_ ?_
  ·refine ihD g10 (fun U g10=>?_) (fun U g10=>?_)
   ·refine gh fol (kAM (kBH (kAn (w64 (M-1)) (w64 (G+b.s)) []))) ?_
    obtain rfl:=si g10
    exact⟨rfl,_,_,rfl,(Sub.norm [] [some 2,some 3] rfl rfl (.kp (.kp (.keep (.same nI) (.keep (.same nI) .nil)))) (.kb rfl (.same sn) (.kb rfl (.same sn) .nil)))⟩
   refine Goes.skip ?_
   obtain rfl:=si g10
   exact⟨rfl,_,_,rfl,(Sub.norm [] [some 2,some 3] rfl rfl (.drop (.kp (.kp (.keep (.same nI) (.keep (.same nI) .nil))))) (.kb rfl (.same sn) (.kb rfl (.same sn) .nil)))⟩
  rintro x s' ⟨rfl,I,J,rfl,hsub⟩
  try dsimp only at h
  refine Goes.sub hsub ?_
  refine sg fol (kY []) (.cells [.i I,.nilslice]::(kA2 J)) ?_
  refine Goes.ret ?_
  obtain rfl:=si h
  exact(gw2 [.agg [.i I,.nilslice],.agg [.i J,.nilslice]] (FzW.tuple (qc.cons (FzW.agg (qc.cons (Ua tI) (qc.cons (FzW.nv0 (E:=(qa .u64))) qc.nil))) (qc.cons (FzW.agg (qc.cons (Ua tI) (qc.cons (FzW.nv0 (E:=(qa .u64))) qc.nil))) qc.nil))))
 refine Goes.skip ?_
 obtain⟨j,r,h⟩:=bnd h
 refine sq (gr fol [1] (kAj (kAM (kBH [(8,.bool j.1),(9,vl (qa .u64) j.2)]))) (ac (cv (zM a r)) az) ?_)
 obtain⟨K,t,h⟩:=bnd h
 refine sq (gr fol [1] (kAj (kAM (kBH [(8,.bool j.1),(9,vl (qa .u64) j.2),(11,vl (qa .u64) K.2)]))) (ac (cv (zM b t)) az) ?_)
 obtain⟨q,u,h⟩:=bnd h
 refine sq (gr fol [2] (kAj (kAM (kBH [(8,.bool j.1),(12,vl (qa .u64) q.1),(13,vl (qa .u64) q.2)]))) (ac (cv (qeI N j.2 K.2 u)) az) ?_)
 obtain⟨o,v,h⟩:=bnd h
 obtain⟨k,y,h⟩:=bnd h
 refine sq (gq fol [2,5,8,9] (kAj (kAM (kBH (kA5 [])))) [.cells (nz1 a),.cells (nz1 b),bZ,bZ,.cells (nz1 o),.cells (nz1 k)] (ac (cv (xR j.1 q.1 v)) (ac (cv (xR j.1 q.2 y)) (ac (hs (.run [4] (qp ZT 55 (.ptr 4 0) (.agg (nz1 o))) [.cells (nz1 a),.cells (nz1 b),bZ,bZ,bZ,bZ] .undef [.cells (nz1 a),.cells (nz1 b),bZ,bZ,.cells (nz1 o),bZ] true) (ku (n:=2) (by kernel_rfl) rfl rfl rfl rfl (cac rfl (cac nvc can)) rfl)) (ac (hs (.run [5] (qp ZT 55 (.ptr 5 0) (.agg (nz1 k))) [.cells (nz1 a),.cells (nz1 b),bZ,bZ,.cells (nz1 o),bZ] .undef [.cells (nz1 a),.cells (nz1 b),bZ,bZ,.cells (nz1 o),.cells (nz1 k)] true) (ku (n:=2) (by kernel_rfl) rfl rfl rfl rfl (cac rfl (cac nvc can)) rfl)) az)))) ?_)
 refine sq ?_
 obtain⟨V,z,h⟩:=bnd h
 refine sq (gr fol [1] (kAj (kAM (kBH (kA5 [(75,.bool (decide (V<0)))])))) (ac (cv (yw k z)) az) ?_)
 obtain⟨X,g22,h⟩:=bnd h
 refine Goes.imp (Q:=fun x s'=>(x= .normal/\ ∃d e f g,(d,e,f,g)=X/\Sub s' (ofG 84 (kY [(14,.ptr 2 0),(15,.ptr 3 0)]),[bZ,bZ,.cells (ni1 d e),.cells (ni1 f g)]))) ?_ ?_
 ·refine ihD g22 (fun Y g22=>?_) (fun Y g22=>?_)
  ·obtain⟨Z,A,g22⟩:=bnd g22
   obtain⟨p,B,g22⟩:=bnd g22
   obtain⟨C,D,g22⟩:=bnd g22
   refine gq fol [1,2,5,6,7] (kAM (kBH (kA5 []))) [.cells (nz1 a),.cells (nz1 b),bZ,bZ,.cells (nz1 p),.cells (nz1 C)] (ac (cv (qbp 1 A)) (ac (cv (qd0 N o Z B)) (ac (cv (qa5 N k b D)) (ac (hs (.run [4] (qp ZT 55 (.ptr 4 0) (.agg (nz1 p))) [.cells (nz1 a),.cells (nz1 b),bZ,bZ,.cells (nz1 o),.cells (nz1 k)] .undef [.cells (nz1 a),.cells (nz1 b),bZ,bZ,.cells (nz1 p),.cells (nz1 k)] true) (ku (n:=2) (by kernel_rfl) rfl rfl rfl rfl (cac rfl (cac nvc can)) rfl)) (ac (hs (.run [5] (qp ZT 55 (.ptr 5 0) (.agg (nz1 C))) [.cells (nz1 a),.cells (nz1 b),bZ,bZ,.cells (nz1 p),.cells (nz1 k)] .undef [.cells (nz1 a),.cells (nz1 b),bZ,bZ,.cells (nz1 p),.cells (nz1 C)] true) (ku (n:=2) (by kernel_rfl) rfl rfl rfl rfl (cac rfl (cac nvc can)) rfl)) az))))) ?_
   obtain rfl:=si g22
   exact⟨rfl,_,_,_,_,rfl,(Sub.norm [] [some 2,some 3,some 4,some 5] rfl rfl (.kp (.kp (.kp (.kp .nil)))) (.kb rfl (.same sn) (.kb rfl (.same sn) (.kb rfl (.same sn) (.kb rfl (.same sn) .nil)))))⟩
  refine Goes.skip ?_
  obtain rfl:=si g22
  exact⟨rfl,_,_,_,_,rfl,(Sub.norm [] [some 2,some 3,some 4,some 5] rfl rfl (.drop (.kp (.kp (.kp (.kp .nil))))) (.kb rfl (.same sn) (.kb rfl (.same sn) (.kb rfl (.same sn) (.kb rfl (.same sn) .nil)))))⟩
 rintro x s' ⟨rfl,d,e,f,g,rfl,hsub⟩
 try dsimp only at h
 refine Goes.sub hsub ?_
 refine sq (gq fol [2,3] (kY []) [.cells (ni1 d e),.cells (ni1 f g),.cells (ni1 d e),.cells (ni1 f g)] (ac (hs (.run [0] (qp ZT 55 (.ptr 0 0) (.agg (ni1 d e))) [bZ,bZ,.cells (ni1 d e),.cells (ni1 f g)] .undef [.cells (ni1 d e),bZ,.cells (ni1 d e),.cells (ni1 f g)] true) (ku (n:=2) (by kernel_rfl) rfl rfl rfl rfl (cac rfl (cac nvc can)) rfl)) (ac (hs (.run [1] (qp ZT 55 (.ptr 1 0) (.agg (ni1 f g))) [.cells (ni1 d e),bZ,.cells (ni1 d e),.cells (ni1 f g)] .undef [.cells (ni1 d e),.cells (ni1 f g),.cells (ni1 d e),.cells (ni1 f g)] true) (ku (n:=2) (by kernel_rfl) rfl rfl rfl rfl (cac rfl (cac nvc can)) rfl)) az)) ?_)
 refine Goes.ret ?_
 obtain rfl:=si h
 exact(gw2 [.agg (ni1 d e),.agg (ni1 f g)] (FzW.tuple (qc.cons (FzW.agg (qc.cons (Ua tI) (qc.cons (Ua (qz (qa .u64) _ (nl rfl))) qc.nil))) (qc.cons (FzW.agg (qc.cons (Ua tI) (qc.cons (Ua (qz (qa .u64) _ (nl rfl))) qc.nil))) qc.nil))))
def vY (N:Nat):Nat->Int->(List Int)->Int->(List Int)->Option (Int×(List Int))
 |0,_,_,_,_=>none
 |K+1,e,f,b,c=>
  (kw (⟨b,c⟩:qj)).bind fun d=>
  if(!decide (d=0))=true then
  (jv N (⟨e,f⟩:qj) (⟨b,c⟩:qj)).bind fun a=>
  vY N K b c a.2.s a.2.w
  else
  some (e,f)
def qcs (N:Nat) (a:qj) (b:qj):Option qj:=
 (qaL a).bind fun c=>
 (qaL b).bind fun d=>
 (vY N N c.s c.w d.s d.w).bind fun(e,f)=>
 some (⟨e,f⟩:qj)
theorem qgJ (N:Nat) (a:qj) (b:qj) {res:qj} (h:qcs N a b=some res):qb ZT (.fn 77) [.agg (nz1 a),.agg (nz1 b)] [] (.agg (nz1 res)) []:=by
 unfold qcs at h
 refine Ub Tryz.func77 rfl rfl (m:=23) rfl (rs:=[.cell 4 55]) rfl (l:=[(0,.agg (nz1 a)),(1,.agg (nz1 b))]) rfl ?_
 refine sg fol (kG []) [.cells (nz1 a),.cells (nz1 b),bZ] ?_
 obtain⟨p,q,h⟩:=bnd h
 obtain⟨t,r,h⟩:=bnd h
 refine sq (gq fol [1,3,4,5] (kG []) [.cells (nz1 p),.cells (nz1 t),bZ] (ac (cv (qd6 a q)) (ac (cv (qd6 b r)) (ac (hs (.run [0] (qp ZT 55 (.ptr 0 0) (.agg (nz1 p))) [.cells (nz1 a),.cells (nz1 b),bZ] .undef [.cells (nz1 p),.cells (nz1 b),bZ] true) (ku (n:=2) (by kernel_rfl) rfl rfl rfl rfl (cac rfl (cac nvc can)) rfl)) (ac (hs (.run [1] (qp ZT 55 (.ptr 1 0) (.agg (nz1 t))) [.cells (nz1 p),.cells (nz1 b),bZ] .undef [.cells (nz1 p),.cells (nz1 t),bZ] true) (ku (n:=2) (by kernel_rfl) rfl rfl rfl rfl (cac rfl (cac nvc can)) rfl)) az)))) ?_)
 refine sq (Goes.block ?_)
 obtain⟨w,g9,h⟩:=bnd h
 refine Goes.imp (Q:=fun x s'=>(x= .exit 0/\ ∃f g,(f,g)=w/\Sub s' (ofG 23 (kU (kBZ [])),[.cells (ni1 f g),bZ]))) ?_ ?_
 ·refine Uc (fun M s=> ∃(i:Int) (j:List Int) (d:Int) (e:List Int),s=(ofG 23 (kG []),[.cells (ni1 i j),.cells (ni1 d e),bZ])/\vY N M i j d e=some w) ?_ (m:=N) ⟨_,_,_,_,rfl,g9⟩
  rintro M s ⟨i,j,d,e,rfl,g9⟩
  cases M with
  |zero=>simp only[vY]at g9;cases g9
  |succ M=>
   rw[vY]at g9
   refine sq ?_
   obtain⟨u,k,g9⟩:=bnd g9
   refine sq (gr fol [1] (kG (kBU (!decide (u=0)))) (ac (cv (yw (⟨d,e⟩:qj) k)) az) ?_)
   refine ihB g9 (fun v g9=>?_) (fun v g9=>?_)
   ·refine Goes.skip ?_
    refine Goes.block ?_
    obtain⟨c,o,g9⟩:=bnd g9
    refine sq (gq fol [2,8,9] (kG [(6,.ptr 4 0)]) [.cells (ni1 i j),.cells (ni1 d e),bZ,.cells (nz1 c.1),.cells (nz1 c.2)] (ac (cv (qch N (⟨i,j⟩:qj) (⟨d,e⟩:qj) o)) (ac (hs (.run [3] (qp ZT 55 (.ptr 3 0) (.agg (nz1 c.1))) [.cells (ni1 i j),.cells (ni1 d e),bZ,bZ,bZ] .undef [.cells (ni1 i j),.cells (ni1 d e),bZ,.cells (nz1 c.1),bZ] true) (ku (n:=2) (by kernel_rfl) rfl rfl rfl rfl (cac rfl (cac nvc can)) rfl)) (ac (hs (.run [4] (qp ZT 55 (.ptr 4 0) (.agg (nz1 c.2))) [.cells (ni1 i j),.cells (ni1 d e),bZ,.cells (nz1 c.1),bZ] .undef [.cells (ni1 i j),.cells (ni1 d e),bZ,.cells (nz1 c.1),.cells (nz1 c.2)] true) (ku (n:=2) (by kernel_rfl) rfl rfl rfl rfl (cac rfl (cac nvc can)) rfl)) az))) ?_)
    refine gq fol [2,3] (kG []) [.cells (ni1 d e),.cells (nz1 c.2),bZ,.cells (nz1 c.1),.cells (nz1 c.2)] (ac (hs (.run [0] (qp ZT 55 (.ptr 0 0) (.agg (ni1 d e))) [.cells (ni1 i j),.cells (ni1 d e),bZ,.cells (nz1 c.1),.cells (nz1 c.2)] .undef [.cells (ni1 d e),.cells (ni1 d e),bZ,.cells (nz1 c.1),.cells (nz1 c.2)] true) (ku (n:=2) (by kernel_rfl) rfl rfl rfl rfl (cac rfl (cac nvc can)) rfl)) (ac (hs (.run [1] (qp ZT 55 (.ptr 1 0) (.agg (nz1 c.2))) [.cells (ni1 d e),.cells (ni1 d e),bZ,.cells (nz1 c.1),.cells (nz1 c.2)] .undef [.cells (ni1 d e),.cells (nz1 c.2),bZ,.cells (nz1 c.1),.cells (nz1 c.2)] true) (ku (n:=2) (by kernel_rfl) rfl rfl rfl rfl (cac rfl (cac nvc can)) rfl)) az)) ?_
    exact⟨M,(ofG 23 (kG []),[.cells (ni1 d e),.cells (nz1 c.2),bZ]),Nat.lt_succ_self _,(Sub.norm [] [some 0,some 1,some 2] rfl rfl (.kp (.kp (.kp .nil))) (.kb rfl (.same sn) (.kb rfl (.same sn) (.kb rfl (.same sn) .nil)))),_,_,_,_,rfl,g9⟩
   refine Goes.exit ?_
   obtain rfl:=si g9
   exact⟨rfl,_,_,rfl,(Sub.norm [] [some 0,some 2] rfl rfl (.kp (.drop (.kp .nil))) (.kb rfl (.same sn) (.kb rfl (.same sn) .nil)))⟩
 rintro x s' ⟨rfl,f,g,rfl,hsub⟩
 try dsimp only at h
 refine Goes.sub hsub ?_
 refine sq (gq fol [1] (kBZ []) [.cells (ni1 f g),.cells (ni1 f g)] (ac (hs (.run [1] (qp ZT 55 (.ptr 1 0) (.agg (ni1 f g))) [.cells (ni1 f g),bZ] .undef [.cells (ni1 f g),.cells (ni1 f g)] true) (ku (n:=2) (by kernel_rfl) rfl rfl rfl rfl (cac rfl (cac nvc can)) rfl)) az) ?_)
 refine Goes.ret ?_
 obtain rfl:=si h
 exact(gw2 [.agg (ni1 f g)] (FzW.agg (qc.cons (Ua tI) (qc.cons (Ua (qz (qa .u64) _ (nl rfl))) qc.nil))))
def qaN (N:Nat) (a:qj) (b:qj):Option Int:=
 (if a.w.isEmpty=true then
 some b.w.isEmpty
 else
 some false:Option Bool).bind fun c=>
 if c=true then
 if a.s<b.s then
 some (-1)
 else
 if a.s>b.s then
 some 1
 else
 some 0
 else
 (xe N a b).bind fun d=>
 (kw d).bind fun e=>
 some e
theorem qec (N:Nat) (a:qj) (b:qj) {res:Int} (h:qaN N a b=some res):qb ZT (.fn 78) [.agg (nz1 a),.agg (nz1 b)] [] (.i res) []:=by
 unfold qaN at h
 refine Ub Tryz.func78 rfl rfl (m:=29) rfl (rs:=[.tmp 4]) rfl (l:=[(0,.agg (nz1 a)),(1,.agg (nz1 b))]) rfl ?_
 refine sg fol (kU (kAj [])) [.cells (nz1 a),.cells (nz1 b)] ?_
 refine sq ?_
 refine sq ?_
 obtain⟨j,c,h⟩:=bnd h
 refine Goes.cut (s':=(ofG 29 (kU (kAj (kBM j))),[.cells (nz1 a),.cells (nz1 b)])) ?_ ?_
 ·rcases wyB c with⟨f,c⟩|⟨f,c⟩
  ·obtain rfl:=si c
   exact tr fol [2,3,6] (kU (kAj (kBM b.w.isEmpty))) (ac (hs (.done (.opt (ko ZT .eql 53 (.tmp 6) (.const (.slice none 0 0)) (nvl (qa .u64) a.w) .nilslice)) (.bool a.w.isEmpty)) (qaB qaw)) (ac (gw f) (ac (hs (.done (.opt (ko ZT .eql 53 (.tmp 10) (.const (.slice none 0 0)) (nvl (qa .u64) b.w) .nilslice)) (.bool b.w.isEmpty)) (qaB qaw)) az)))
  obtain rfl:=si c
  exact tr fol [2,3] (kU (kAj [(12,.bool false)])) (ac (hs (.done (.opt (ko ZT .eql 53 (.tmp 6) (.const (.slice none 0 0)) (nvl (qa .u64) a.w) .nilslice)) (.bool a.w.isEmpty)) (qaB qaw)) (ac (gw f) az))
 refine ihB h (fun k h=>?_) (fun k h=>?_)
 ·refine sq (Goes.block ?_)
  refine sh fol (kU (kAj (kBU (decide (a.s<b.s))))) ?_
  refine ihD h (fun n h=>?_) (fun n h=>?_)
  ·refine sh fol [(4,.i (-1))] ?_
   refine Goes.ret ?_
   obtain rfl:=si h
   exact(gw2 [.i (-1)] (Ua tI))
  refine sh fol [(19,.bool (decide (a.s>b.s)))] ?_
  refine ihD h (fun o h=>?_) (fun o h=>?_)
  ·refine sh fol [(4,.i 1)] ?_
   refine Goes.ret ?_
   obtain rfl:=si h
   exact(gw2 [.i 1] (Ua tI))
  refine Goes.skip ?_
  refine sh fol [(4,.i 0)] ?_
  refine Goes.ret ?_
  obtain rfl:=si h
  exact(gw2 [.i 0] (Ua tI))
 refine Goes.skip ?_
 obtain⟨p,d,h⟩:=bnd h
 obtain⟨g,e,h⟩:=bnd h
 refine sq (gr fol [2,3] [(4,.i g)] (ac (cv (qd0 N a b d)) (ac (cv (yw p e)) az)) ?_)
 refine Goes.ret ?_
 obtain rfl:=si h
 exact(gw2 [.i g] (Ua tI))
def qaS (N:Nat) (a:Str):Option Int:=
 (strings_CutPrefix a [45]).bind fun r=>
 (strings_Cut r.1 [47]).bind fun b=>
 ((jO b.1).bind fun t=>
 if t=true then
 if(!r.2)=true then
 some true
 else
 some (!(b.1==[48]))
 else
 some false:Option Bool).bind fun s=>
 ((if b.2.2=true then
 (if s=true then
 (jO b.2.1).bind fun g=>
 if g=true then
 if(!(b.2.1==[48]))=true then
 some (!(b.2.1==[49]))
 else
 some false
 else
 some false
 else
 some false:Option Bool).bind fun h=>
 some h
 else
 some s:Option Bool)).bind fun u=>
 ((kL (!u) 1).bind fun c=>
 if(b.1.length:Int)>600 then
 (kL true 4).bind fun d=>
 (jm N ([c,d]:List Int)).bind fun i=>
 some (c,d,i)
 else
 (kL (decide ((b.2.1.length:Int)>600)) 4).bind fun e=>
 (jm N ([c,e]:List Int)).bind fun j=>
 some (c,e,j):Option (Int×Int×Int)).bind fun(v,w,f)=>
 if(!decide (f=0))=true then
 some f
 else
 (if b.2.2=true then
 (qac N b.1).bind fun k=>
 (qac N b.2.1).bind fun l=>
 (qcs N k l).bind fun m=>
 (qbX 1).bind fun n=>
 (qaN N m n).bind fun o=>
 some (!decide (o=0))
 else
 some false:Option Bool).bind fun p=>
 (kL p 1).bind fun q=>
 some q
theorem qgc (N:Nat) (a:Str) {res:Int} (h:qaS N a=some res):qb ZT (.fn 32) [.str a] [] (.i res) []:=by
 unfold qaS at h
 refine Ub Tryz.func32 rfl rfl (m:=76) rfl (rs:=[.tmp 2]) rfl (l:=(kAQ a [])) rfl ?_
 refine sh fol (kAQ a []) ?_
 obtain⟨V,H,h⟩:=bnd h
 refine sq (gr fol [1] ((3,.str V.1)::(kA6 V.2)) (ac (cv (qd1 a [45] H)) az) ?_)
 obtain⟨e,I,h⟩:=bnd h
 refine sq (gr fol [1] ((4,.bool V.2)::(kAJ e.1 e.2.1 e.2.2 [])) (ac (cv (qdU V.1 [47] I)) az) ?_)
 refine sq ?_
 obtain⟨b6,f,h⟩:=bnd h
 refine Goes.cut (s':=(ofG 76 (kAJ e.1 e.2.1 e.2.2 (kBX b6)),[])) ?_ ?_
 ·obtain⟨r3,k,f⟩:=bnd f
  rcases wyB f with⟨X,f⟩|⟨X,f⟩
  ·rcases wyB f with⟨Y,f⟩|⟨Y,f⟩
   ·obtain rfl:=si f
    exact tr fol [1,2,5] (kAJ e.1 e.2.1 e.2.2 [(8,.bool true)]) (ac (cv (jA e.1 k)) (ac (gw X) (ac (gw Y) az)))
   obtain rfl:=si f
   exact tr fol [1,2,5] (kAJ e.1 e.2.1 e.2.2 (kBX (!(e.1==[48])))) (ac (cv (jA e.1 k)) (ac (gw X) (ac (gw Y) az)))
  obtain rfl:=si f
  exact tr fol [1,2] (kAJ e.1 e.2.1 e.2.2 [(8,.bool false)]) (ac (cv (jA e.1 k)) (ac (gw X) az))
 refine sq ?_
 refine sh fol (kAJ e.1 e.2.1 e.2.2 [(8,.bool b6),(32,.bool e.2.2)]) ?_
 obtain⟨r9,g9,h⟩:=bnd h
 refine Goes.imp (Q:=fun x s'=>(x= .normal/\ ∃J,J=r9/\Sub s' (ofG 76 (kAJ e.1 e.2.1 e.2.2 (kBX J)),[]))) ?_ ?_
 ·refine ihB g9 (fun Z g9=>?_) (fun Z g9=>?_)
  ·obtain⟨a0,c,g9⟩:=bnd g9
   refine Goes.cut (s':=(ofG 76 (kAJ e.1 e.2.1 e.2.2 (kBX a0)),[])) ?_ ?_
   ·rcases wyB c with⟨n,c⟩|⟨n,c⟩
    ·obtain⟨r12,j,c⟩:=bnd c
     rcases wyB c with⟨q,c⟩|⟨q,c⟩
     ·rcases wyB c with⟨t,c⟩|⟨t,c⟩
      ·obtain rfl:=si c
       exact tr fol [1,3,5,9] (kAJ e.1 e.2.1 e.2.2 (kBX (!(e.2.1==[49])))) (ac (gw n) (ac (cv (jA e.2.1 j)) (ac (gw q) (ac (gw t) az))))
      obtain rfl:=si c
      exact tr fol [1,3,5,9] (kAJ e.1 e.2.1 e.2.2 [(8,.bool false)]) (ac (gw n) (ac (cv (jA e.2.1 j)) (ac (gw q) (ac (gw t) az))))
     obtain rfl:=si c
     exact tr fol [1,3,5] (kAJ e.1 e.2.1 e.2.2 [(8,.bool false)]) (ac (gw n) (ac (cv (jA e.2.1 j)) (ac (gw q) az)))
    obtain rfl:=si c
    exact tr fol [1] (kAJ e.1 e.2.1 e.2.2 [(8,.bool false)]) (ac (gw n) az)
   obtain rfl:=si g9
   exact⟨rfl,_,rfl,(Sub.refl _)⟩
  refine Goes.skip ?_
  obtain rfl:=si g9
  exact⟨rfl,_,rfl,(Sub.keep [5,6,7,8] rfl rfl)⟩
 rintro x s' ⟨rfl,J,rfl,hsub⟩
 refine Goes.sub hsub ?_
 refine sq ?_
 refine sq ?_
 obtain⟨⟨K,L,o⟩,b,h⟩:=bnd h
 refine Goes.cut (s':=(ofG 76 (kAJ e.1 e.2.1 e.2.2 [(9,.i o)]),(kAe K L []))) ?_ ?_
 ·obtain⟨g,p,b⟩:=bnd b
  rcases wyD b with⟨u,b⟩|⟨u,b⟩
  ·obtain⟨r,v,b⟩:=bnd b
   obtain⟨M,w,b⟩:=bnd b
   simp only[ZI,ZP]at b
   obtain⟨rfl,rfl,rfl⟩:=b
   exact qad.rq fol [2,6,11,13] (kAJ e.1 e.2.1 e.2.2 [(9,.i M)]) (kAe g r []) (ac (cv (y8 (!J) 1 p)) (ac (gw u) (ac (cv (y8 true 4 v)) (ac (hs (.call 31 [.slice 0 0 2 2 1] (kAe g r []) [0] [vl encI ([g,r]:List Int)] (.i M)) (qdM (FzL.cons (Fz.lit rfl rfl (Ue (AllST.cons tI (AllST.cons tI AllST.nil)))) FzL.nil) (xy N ([g,r]:List Int) w) tI rfl)) az))))
  obtain⟨s,y,b⟩:=bnd b
  obtain⟨O,z,b⟩:=bnd b
  simp only[ZI,ZP]at b
  obtain⟨rfl,rfl,rfl⟩:=b
  exact qad.rq fol [2,6,11,13] (kAJ e.1 e.2.1 e.2.2 [(9,.i O)]) (kAe g s []) (ac (cv (y8 (!J) 1 p)) (ac (gw u) (ac (cv (y8 (decide ((e.2.1.length:Int)>600)) 4 y)) (ac (hs (.call 31 [.slice 0 0 2 2 1] (kAe g s []) [0] [vl encI ([g,s]:List Int)] (.i O)) (qdM (FzL.cons (Fz.lit rfl rfl (Ue (AllST.cons tI (AllST.cons tI AllST.nil)))) FzL.nil) (xy N ([g,s]:List Int) z) tI rfl)) az))))
 try dsimp only at h
 refine sh fol (kAJ e.1 e.2.1 e.2.2 [(9,.i o),(61,.bool (!decide (o=0)))]) ?_
 refine ihB h (fun a1 h=>?_) (fun a1 h=>?_)
 ·refine sh fol (kBB o) ?_
  refine Goes.ret ?_
  obtain rfl:=si h
  exact(gw2 [.i o] (Ua tI))
 refine Goes.skip ?_
 refine sq ?_
 obtain⟨P,d,h⟩:=bnd h
 refine Goes.cut (s':=(ofG 76 [(10,.bool P)],(kAe K L []))) ?_ ?_
 ·rcases wyB d with⟨A,d⟩|⟨A,d⟩
  ·obtain⟨a2,B,d⟩:=bnd d
   obtain⟨a3,C,d⟩:=bnd d
   obtain⟨a4,D,d⟩:=bnd d
   obtain⟨a5,E,d⟩:=bnd d
   obtain⟨a6,F,d⟩:=bnd d
   obtain rfl:=si d
   exact tr fol [1,3,5,6,7,8] [(10,.bool (!decide (a6=0)))] (ac (gw A) (ac (cv (qaa N e.1 B)) (ac (cv (qaa N e.2.1 C)) (ac (cv (qgJ N a2 a3 D)) (ac (cv (qbp 1 E)) (ac (cv (qec N a4 a5 F)) az))))))
  obtain rfl:=si d
  exact tr fol [1] [(10,.bool false)] (ac (gw A) az)
 obtain⟨U,G,h⟩:=bnd h
 refine sq (gr fol [1] (kBB U) (ac (cv (y8 P 1 G)) az) ?_)
 refine Goes.ret ?_
 obtain rfl:=si h
 exact(gw2 [.i U] (Ua tI))
def qcL (n:qj):Option ql:=
 (qbX 1).bind fun a=>
 some (⟨n,a⟩:ql)
theorem qjo (n:qj) {res:ql} (h:qcL n=some res):qb ZT (.fn 73) [.agg (nz1 n)] [] (.agg (nq1 res)) []:=by
 unfold qcL at h
 refine Ub Tryz.func73 rfl rfl (m:=6) rfl (rs:=[.cell 2 57]) rfl (l:=[(0,.agg (nz1 n))]) rfl ?_
 refine sg fol (kAY kAo) (.cells (nz1 n)::(kE [])) ?_
 obtain⟨a,b,h⟩:=bnd h
 refine sq (gq fol [1,3] kAo [.cells (nz1 n),.cells (ni2 n.s n.w a.s a.w)] (ac (cv (qbp 1 b)) (ac (hs (.run [1] (qp ZT 57 (.ptr 1 0) (.agg (ni2 n.s n.w a.s a.w))) (.cells (nz1 n)::(kE [])) .undef [.cells (nz1 n),.cells (ni2 n.s n.w a.s a.w)] true) (ku (n:=4) (by kernel_rfl) rfl rfl rfl rfl (cac rfl (cac nvc (cac rfl (cac nvc can)))) rfl)) az)) ?_)
 refine Goes.ret ?_
 obtain rfl:=si h
 exact(gw2 [.agg (ni2 n.s n.w a.s a.w)] (FzW.agg (qc.cons (Ua tI) (qc.cons (Ua (qz (qa .u64) _ (nl rfl))) (qc.cons (Ua tI) (qc.cons (Ua (qz (qa .u64) _ (nl rfl))) qc.nil))))))
def yl (N:Nat) (a:Str):Option ql:=
 (strings_Cut a [47]).bind fun b=>
 if(!b.2.2)=true then
 (qac N b.1).bind fun c=>
 (qcL c).bind fun d=>
 some d
 else
 (qac N b.1).bind fun e=>
 (qac N b.2.1).bind fun f=>
 some (⟨e,f⟩:ql)
theorem vO (N:Nat) (a:Str) {res:ql} (h:yl N a=some res):qb ZT (.fn 35) [.str a] [] (.agg (nq1 res)) []:=by
 unfold yl at h
 refine Ub Tryz.func35 rfl rfl (m:=22) rfl (rs:=[.cell 2 57]) rfl (l:=(kAQ a [])) rfl ?_
 refine sg fol (kAQ a (kU [])) (kE []) ?_
 obtain⟨b,e,h⟩:=bnd h
 refine sq (gr fol [1] (kU [(3,.str b.1),(4,.str b.2.1),(5,.bool b.2.2)]) (ac (cv (qdU a [47] e)) az) ?_)
 refine sq ?_
 refine sh fol (kU ((3,.str b.1)::(4,.str b.2.1)::(kBU (!b.2.2)))) ?_
 refine ihB h (fun o h=>?_) (fun o h=>?_)
 ·obtain⟨p,f,h⟩:=bnd h
  obtain⟨k,g,h⟩:=bnd h
  refine sq (gq fol [1,2,3] (kU []) [.cells (nq1 k)] (ac (cv (qaa N b.1 f)) (ac (cv (qjo p g)) (ac (hs (.run [0] (qp ZT 57 (.ptr 0 0) (.agg (nq1 k))) (kE []) .undef [.cells (nq1 k)] true) (ku (n:=4) (by kernel_rfl) rfl rfl rfl rfl (cac rfl (cac nvc (cac rfl (cac nvc can)))) rfl)) az))) ?_)
  refine Goes.ret ?_
  obtain rfl:=si h
  exact(gw2 [.agg (nq1 k)] (FzW.agg (qc.cons (Ua tI) (qc.cons (Ua (qz (qa .u64) _ (nl rfl))) (qc.cons (Ua tI) (qc.cons (Ua (qz (qa .u64) _ (nl rfl))) qc.nil))))))
 refine Goes.skip ?_
 obtain⟨c,i,h⟩:=bnd h
 obtain⟨d,j,h⟩:=bnd h
 refine sq (gq fol [1,3,5] (kU []) [.cells (ni2 c.s c.w d.s d.w)] (ac (cv (qaa N b.1 i)) (ac (cv (qaa N b.2.1 j)) (ac (hs (.run [0] (qp ZT 57 (.ptr 0 0) (.agg (ni2 c.s c.w d.s d.w))) (kE []) .undef [.cells (ni2 c.s c.w d.s d.w)] true) (ku (n:=4) (by kernel_rfl) rfl rfl rfl rfl (cac rfl (cac nvc (cac rfl (cac nvc can)))) rfl)) az))) ?_)
 refine Goes.ret ?_
 obtain rfl:=si h
 exact(gw2 [.agg (ni2 c.s c.w d.s d.w)] (FzW.agg (qc.cons (Ua tI) (qc.cons (Ua (qz (qa .u64) _ (nl rfl))) (qc.cons (Ua tI) (qc.cons (Ua (qz (qa .u64) _ (nl rfl))) qc.nil))))))
end Go.Av
