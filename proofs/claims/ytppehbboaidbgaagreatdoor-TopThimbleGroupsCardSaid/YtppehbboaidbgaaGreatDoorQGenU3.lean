/-
  Walks of functions: what each computes, as a plain function.
-/
import Derived.Test.YtppehbboaidbgaaGreatDoorQGenU2
noncomputable section
namespace Go.Av
open Go.Proofs Go.RowKit
set_option linter.unusedSectionVars false
set_option linter.unusedVariables false
set_option linter.unusedSimpArgs false
set_option maxRecDepth 100000
def qdl (N:Nat) (y:qw):Option qD:=
 (jH N y.Density).bind fun a=>
 some a
theorem qil (N:Nat) (y:qw) {res:qD} (h:qdl N y=some res):qd ZT (.fn 57) [.agg [.str y.Name,.str y.Density,.str y.Twist,vl qh y.Strength,.str y.Dye]] [] (.agg (nq1 res)) []:=by
 unfold qdl at h;refine Ub Tryz.func57 rfl rfl (m:=6) rfl (rs:=[.cell 2 100]) rfl (l:=(kAf y.Name y.Density y.Twist y.Strength y.Dye [])) rfl ?_;refine sg fol (kX kAp) (kB y.Name y.Density y.Twist y.Strength y.Dye (kC [])) ?_;obtain⟨b,a,h⟩:=bnd h;refine sq (gq fol [2,3] kAp (kB y.Name y.Density y.Twist y.Strength y.Dye [.cells (nq1 b)]) (ac (cv (jZ N y.Density a)) (ac (hs (.run [1] (qx ZT 100 (.ptr 1 0) (.agg (nq1 b))) (kB y.Name y.Density y.Twist y.Strength y.Dye (kC [])) .undef (kB y.Name y.Density y.Twist y.Strength y.Dye [.cells (nq1 b)]) true) (kg (n:=4) (by kernel_rfl) rfl rfl rfl rfl (cac rfl (cac nvc (cac rfl (cac nvc can)))) rfl)) az)) ?_);refine Goes.ret ?_;obtain rfl:=si h;exact(gw2 [.agg (nq1 b)] (FzW.agg (qj.cons (Ua tI) (qj.cons (Ua (qE ZU _ (nl rfl))) (qj.cons (Ua tI) (qj.cons (Ua (qE ZU _ (nl rfl))) qj.nil))))))
def qaV (N:Nat) (a:qD) (b:qD):Option qD:=
 (qN N a.Num b.Num).bind fun c=>
 (qN N a.Den b.Den).bind fun d=>
 (qb9 N c d).bind fun e=>
 some e
theorem qet (N:Nat) (a:qD) (b:qD) {res:qD} (h:qaV N a b=some res):qd ZT (.fn 80) [.agg (nq1 a),.agg (nq1 b)] [] (.agg (nq1 res)) []:=by
 unfold qaV at h;refine Ub Tryz.func80 rfl rfl (m:=16) rfl (rs:=[.cell 4 100]) rfl (l:=[(0,.agg (nq1 a)),(1,.agg (nq1 b))]) rfl ?_;refine sg fol (kF []) (.cells (nq1 a):: .cells (nq1 b)::(kC [])) ?_;obtain⟨g,c,h⟩:=bnd h;obtain⟨i,d,h⟩:=bnd h;obtain⟨f,e,h⟩:=bnd h;refine sq (gq fol [4,9,10,11] (kAb []) [.cells (nq1 a),.cells (nq1 b),.cells (nq1 f)] (ac (cv (jk N a.Num b.Num c)) (ac (cv (jk N a.Den b.Den d)) (ac (cv (qeO N g i e)) (ac (hs (.run [2] (qx ZT 100 (.ptr 2 0) (.agg (nq1 f))) (.cells (nq1 a):: .cells (nq1 b)::(kC [])) .undef [.cells (nq1 a),.cells (nq1 b),.cells (nq1 f)] true) (kg (n:=4) (by kernel_rfl) rfl rfl rfl rfl (cac rfl (cac nvc (cac rfl (cac nvc can)))) rfl)) az)))) ?_);refine Goes.ret ?_;obtain rfl:=si h;exact(gw2 [.agg (nq1 f)] (FzW.agg (qj.cons (Ua tI) (qj.cons (Ua (qE ZU _ (nl rfl))) (qj.cons (Ua tI) (qj.cons (Ua (qE ZU _ (nl rfl))) qj.nil))))))
def qbo (N:Nat) (a:qD):Option qD:=
 (qb9 N a.Den a.Num).bind fun b=>
 some b
theorem qho (N:Nat) (a:qD) {res:qD} (h:qbo N a=some res):qd ZT (.fn 130) [.agg (nq1 a)] [] (.agg (nq1 res)) []:=by
 unfold qbo at h;refine Ub Tryz.func130 rfl rfl (m:=8) rfl (rs:=[.cell 2 100]) rfl (l:=[(0,.agg (nq1 a))]) rfl ?_;refine sg fol (kX kAp) (.cells (nq1 a)::(kC [])) ?_;obtain⟨c,b,h⟩:=bnd h;refine sq (gq fol [4,5] kAp [.cells (nq1 a),.cells (nq1 c)] (ac (cv (qeO N a.Den a.Num b)) (ac (hs (.run [1] (qx ZT 100 (.ptr 1 0) (.agg (nq1 c))) (.cells (nq1 a)::(kC [])) .undef [.cells (nq1 a),.cells (nq1 c)] true) (kg (n:=4) (by kernel_rfl) rfl rfl rfl rfl (cac rfl (cac nvc (cac rfl (cac nvc can)))) rfl)) az)) ?_);refine Goes.ret ?_;obtain rfl:=si h;exact(gw2 [.agg (nq1 c)] (FzW.agg (qj.cons (Ua tI) (qj.cons (Ua (qE ZU _ (nl rfl))) (qj.cons (Ua tI) (qj.cons (Ua (qE ZU _ (nl rfl))) qj.nil))))))
def qbB (N:Nat) (a:qD) (b:qD):Option qD:=
 (qbo N b).bind fun c=>
 (qaV N a c).bind fun d=>
 some d
theorem qhn (N:Nat) (a:qD) (b:qD) {res:qD} (h:qbB N a b=some res):qd ZT (.fn 58) [.agg (nq1 a),.agg (nq1 b)] [] (.agg (nq1 res)) []:=by
 unfold qbB at h;refine Ub Tryz.func58 rfl rfl (m:=9) rfl (rs:=[.cell 4 100]) rfl (l:=[(0,.agg (nq1 a)),(1,.agg (nq1 b))]) rfl ?_;refine sg fol (kF []) (.cells (nq1 a):: .cells (nq1 b)::(kC [])) ?_;obtain⟨f,c,h⟩:=bnd h;obtain⟨e,d,h⟩:=bnd h;refine sq (gq fol [2,3,4] (kAb []) [.cells (nq1 a),.cells (nq1 b),.cells (nq1 e)] (ac (cv (qho N b c)) (ac (cv (qet N a f d)) (ac (hs (.run [2] (qx ZT 100 (.ptr 2 0) (.agg (nq1 e))) (.cells (nq1 a):: .cells (nq1 b)::(kC [])) .undef [.cells (nq1 a),.cells (nq1 b),.cells (nq1 e)] true) (kg (n:=4) (by kernel_rfl) rfl rfl rfl rfl (cac rfl (cac nvc (cac rfl (cac nvc can)))) rfl)) az))) ?_);refine Goes.ret ?_;obtain rfl:=si h;exact(gw2 [.agg (nq1 e)] (FzW.agg (qj.cons (Ua tI) (qj.cons (Ua (qE ZU _ (nl rfl))) (qj.cons (Ua tI) (qj.cons (Ua (qE ZU _ (nl rfl))) qj.nil))))))
def zO (N:Nat) (a:List qw):Nat->Int->Option (Unit⊕Int)
 |0,_=>none
 |K+1,b=>
  if b<(a.length:Int)then
  (idx a b).bind fun d=>
  (cut a 0 b).bind fun e=>
  (qdm N d e).bind fun c=>
  if(!decide (c=0))=true then
  some (.inr c)
  else
  zO N a K (w64 (b+1))
  else
  some (.inl ())
def yw (N:Nat) (a:List qw) (b:Int):Option Int:=
 if(a.length:Int)>b then
 some 5
 else
 (zO N a N 0).bind (fun
 |(.inl ())=>
 some 0
 |(.inr c)=>
 some c)
theorem qfe (N:Nat) (a:List qw) (c:Int) {res:Int} (h:yw N a c=some res):qd ZT (.fn 44) [vl qf a,.i c,.func (.func 45) [] []] [] (.i res) []:=by
 unfold yw at h;refine Ub Tryz.func44 rfl rfl (m:=31) rfl (rs:=[.tmp 6]) rfl (l:=(kAs a [(1,.i c),(2,.func (.func 45) [] [])])) rfl ?_;refine sh fol (kAs a [(1,.i c),(2,.func (.func 45) [] [])]) ?_;refine sq ?_;refine sh fol (kAs a ((2,.func (.func 45) [] [])::(kBE (decide ((a.length:Int)>c))))) ?_;refine ihD h (fun p h=>?_) (fun p h=>?_)
 ·refine sh fol [(6,.i 5)] ?_;refine Goes.ret ?_;obtain rfl:=si h;exact(gw2 [.i 5] (Ua tI))
 refine Goes.skip ?_;refine sq ?_;refine sh fol (kAs a [(2,.func (.func 45) [] []),(14,vl qf a),(15,.i (a.length:Int)),(16,.i 0)]) ?_;refine Goes.block ?_;obtain⟨k,g3,h⟩:=bnd h;refine Goes.imp (Q:=fun x s'=>(x= .exit 0/\(.inl ())=k/\Sub s' (ofG 31 [],[]))\/(x= .ret/\ ∃n,(.inr n)=k/\jb ZT [.tmp 6] (.i n) .ret s')) ?_ ?_
 ·refine Uc (fun M s=> ∃(b:Int),s=(ofG 31 (kAs a ((2,.func (.func 45) [] [])::(14,vl qf a)::(kAS (a.length:Int) b []))),[])/\zO N a M b=some k) ?_ (m:=N) ⟨_,rfl,g3⟩;rintro M s ⟨b,rfl,g3⟩
  cases M with
  |zero=>simp only[zO]at g3;cases g3
  |succ M=>
   rw[zO]at g3;refine sh fol (kAs a ((2,.func (.func 45) [] [])::(14,vl qf a)::(kAS (a.length:Int) b [(17,.bool (decide (b<(a.length:Int))))]))) ?_;refine sq ?_;refine ihD g3 (fun q g3=>?_) (fun q g3=>?_)
   ·refine Goes.skip ?_;refine sq (Goes.block ?_);obtain⟨e,d,g3⟩:=bnd g3;refine sq (gq fol [1,2] (kAs a ((2,.func (.func 45) [] [])::(7,.i b)::(kBU ((14,vl qf a)::(kAS (a.length:Int) b []))))) (kB e.Name e.Density e.Twist e.Strength e.Dye []) (ac (iv qh3 qf d) (ac (la qnJ qf d) az)) ?_);obtain⟨o,f,g3⟩:=bnd g3;obtain⟨g,j,g3⟩:=bnd g3;refine sq (gr fol [4,5] (kAs a ((2,.func (.func 45) [] [])::(9,.i g)::(14,vl qf a)::(kAS (a.length:Int) b []))) (ac (hs (.done (.opt (kr ZT 22 (vl qf a) none (some (.i b)) none)) (vl qf o)) (qjo qh3 (E:=qf) rfl none (some b) f)) (ac (cv (qh2 N e o j)) az)) ?_);refine sh fol (kAs a ((2,.func (.func 45) [] [])::(9,.i g)::(14,vl qf a)::(kAS (a.length:Int) b [(28,.bool (!decide (g=0)))]))) ?_;refine ihB g3 (fun r g3=>?_) (fun r g3=>?_)
    ·refine sh fol [(6,.i g)] ?_;refine Goes.ret ?_;obtain rfl:=si g3;exact Or.inr (⟨rfl,_,rfl,(gw2 [.i g] (Ua tI))⟩)
    refine Goes.skip ?_;refine gh fol (kAs a ((2,.func (.func 45) [] [])::(14,vl qf a)::(kAS (a.length:Int) (w64 (b+1)) []))) ?_;exact⟨M,(ofG 31 (kAs a ((2,.func (.func 45) [] [])::(14,vl qf a)::(kAS (a.length:Int) (w64 (b+1)) []))),[]),Nat.lt_succ_self _,(Sub.norm [] [] rfl rfl (.keep (.same (qg qf _)) (.keep (.same (qG.func sn sn)) (.keep (.same (qg qf _)) (.keep (.same nI) (.keep (.same nI) .nil))))) .nil),_,rfl,g3⟩
   refine Goes.exit ?_;obtain rfl:=si g3;exact Or.inl (⟨rfl,rfl,(Sub.keep [] rfl rfl)⟩)
 rintro x s' (⟨rfl,rfl,hsub⟩|⟨rfl,t,rfl,hret⟩)
 ·try dsimp only at h
  refine Goes.sub hsub ?_;refine sh fol [(6,.i 0)] ?_;refine Goes.ret ?_;obtain rfl:=si h;exact(gw2 [.i 0] (Ua tI))
 try dsimp only at h
 obtain rfl:=si h;exact hret
def qba (a:List qw):Option Unit:=
 some ()
theorem qf2 (a:List qw) (h:qba a=some ()):qd ZT (.fn 56) [vl qf a,.func (.func 57) [] []] [] (.func (.func 129) [] kAq) (kN a [.cells [.func (.func 57) [] []]]):=by
 unfold qba at h;refine Uo Tryz.func56 rfl rfl (m:=6) rfl (rs:=[.tmp 4]) rfl (l:=(kAs a [(1,.func (.func 57) [] [])])) rfl ?_;intro B hB;refine sg fol (kU (kAV [])) (kN a [.cells [.func (.func 57) [] []]]) ?_;refine sh fol [(4,.func (.func 129) [] kAq)] ?_;refine Goes.ret ?_;exact(gh2 [.func (.func 129) [] kAq] (qed.refl _ _))
def qbm (N:Nat) (b:Int) (c:List Int) (d:Int) (e:List Int) (f:Int) (g:List Int) (h:Int) (i:List Int):Option (Int×(List Int)×Int×(List Int)):=
 (qab N (⟨(⟨b,c⟩:qp),(⟨d,e⟩:qp)⟩:qD) (⟨(⟨f,g⟩:qp),(⟨h,i⟩:qp)⟩:qD)).bind fun a=>
 some (a.Num.s,a.Num.w,a.Den.s,a.Den.w)
theorem qe7 (N:Nat) (e:Int) (f:List Int) (g:Int) (i:List Int) (a:Int) (b:List Int) (c:Int) (d:List Int) {o:Int} {p:List Int} {q:Int} {r:List Int} (h:qbm N e f g i a b c d=some (o,p,q,r)):qd ZT (.rd 0) [.agg (ni2 a b c d)] [.loop .ready none (ofG 15 (kAV kBX)) qo.xp qo.x1 qo.x2,.cells [.func (.func 53) [] []],.cells (ni2 e f g i)] (.bool true) [.loop .ready none (ofG 15 (kAV kBX)) qo.xp qo.x1 qo.x2,.cells [.func (.func 53) [] []],.cells (ni2 o p q r)]:=by
 unfold qbm at h;refine Goes.round (m:=15) (l0:=(kAV kBX)) (l:=(kAV [(5,.ptr 2 0),(9,.agg (ni2 a b c d))])) rfl rfl rfl ?_;intro B hB;refine Goes.subQ ?_;refine gq fol [1] (kAV [(5,.ptr 2 0),(6,.ptr 3 0)]) [.loop .ready none (ofG 15 (kAV kBX)) qo.xp qo.x1 qo.x2,.cells [.func (.func 53) [] []],.cells (ni2 e f g i),.cells (ni2 a b c d)] (ac (hs (.run [3] (qx ZT 100 (.ptr 3 0) (.agg (ni2 a b c d))) (.loop .ready none (ofG 15 [(3,.ptr 1 0),(5,.ptr 2 0)]) qo.xp qo.x1 qo.x2:: .cells [.func (.func 53) [] []]:: .cells (ni2 e f g i)::(kC [])) .undef [.loop .ready none (ofG 15 (kAV kBX)) qo.xp qo.x1 qo.x2,.cells [.func (.func 53) [] []],.cells (ni2 e f g i),.cells (ni2 a b c d)] true) (kg (n:=4) (by kernel_rfl) rfl rfl rfl rfl (cac rfl (cac nvc (cac rfl (cac nvc can)))) rfl)) az) ?_;refine⟨_,Sub.refl _,?_⟩;refine⟨_,_,_,_,_,rfl,?_⟩;refine Goes.subQ ?_;refine Goes.block ?_;obtain⟨k,j,h⟩:=bnd h;refine gq fol [3,4] [] [.loop .busy none (ofG 15 (kAV kBX)) qo.xp qo.x1 qo.x2,.cells [.func (.func 53) [] []],.cells (nq1 k),.cells (ni2 a b c d)] (ac (cv (qce N (⟨(⟨e,f⟩:qp),(⟨g,i⟩:qp)⟩:qD) (⟨(⟨a,b⟩:qp),(⟨c,d⟩:qp)⟩:qD) j)) (ac (hs (.run [2] (qx ZT 100 (.ptr 2 0) (.agg (nq1 k))) [.loop .busy none (ofG 15 (kAV kBX)) qo.xp qo.x1 qo.x2,.cells [.func (.func 53) [] []],.cells (ni2 e f g i),.cells (ni2 a b c d)] .undef [.loop .busy none (ofG 15 (kAV kBX)) qo.xp qo.x1 qo.x2,.cells [.func (.func 53) [] []],.cells (nq1 k),.cells (ni2 a b c d)] true) (kg (n:=4) (by kernel_rfl) rfl rfl rfl rfl (cac rfl (cac nvc (cac rfl (cac nvc can)))) rfl)) az)) ?_;simp only[ZI,ZP]at h;obtain⟨rfl,rfl,rfl,rfl⟩:=h;exact⟨_,Sub.refl _,⟨_,_,rfl,(Sub.norm [] [some 0,some 1,some 2] (by rw[hB];rfl) rfl (.keep (.same nB) .nil) (.kb rfl (.loop rfl (.kp (.kp .nil))) (.kb rfl (.same sn) (.kb rfl (.same sn) .nil))))⟩⟩
def zF (N:Nat) (b:List qw):Nat->Int->(List Int)->Int->(List Int)->Int->Option (Int×(List Int)×Int×(List Int))
 |0,_,_,_,_,_=>none
 |K+1,i,j,k,l,c=>
  if c<(b.length:Int)then
  (idx b c).bind fun d=>
  (qdl N d).bind fun a=>
  (qbm N i j k l a.Num.s a.Num.w a.Den.s a.Den.w).bind fun(e,f,g,h)=>
  zF N b K e f g h (w64 (c+1))
  else
  some (i,j,k,l)
def xX (N:Nat) (a:Int) (b:List Int) (c:Int) (d:List Int) (e:List qw):Option (Int×(List Int)×Int×(List Int)):=
 (zF N e N a b c d 0).bind fun(f,g,h,i)=>
 some (f,g,h,i)
theorem qeC (N:Nat) (D:Int) (E:List Int) (F:Int) (G:List Int) (a:List qw) {J:Int} {K:List Int} {L:Int} {O:List Int} (h:xX N D E F G a=some (J,K,L,O)):qd ZT (.fn 129) [.yld 0,.ptr 3 0,.ptr 4 0] (.loop .ready none (ofG 15 [(3,.ptr 1 0),(5,.ptr 2 0)]) qo.xp qo.x1 qo.x2:: .cells [.func (.func 53) [] []]:: .cells (ni2 D E F G)::(kN a [.cells [.func (.func 57) [] []]])) (.tuple []) (.loop .ready none (ofG 15 [(3,.ptr 1 0),(5,.ptr 2 0)]) qo.xp qo.x1 qo.x2:: .cells [.func (.func 53) [] []]:: .cells (ni2 J K L O)::(kN a [.cells [.func (.func 57) [] []]])):=by
 unfold xX at h;refine Uo Tryz.func129 rfl rfl (m:=19) rfl (rs:=[]) rfl (l:=[(0,.yld 0),(1,.ptr 3 0),(2,.ptr 4 0)]) rfl ?_;intro B hB;refine Goes.subQ ?_;refine sh fol ((0,.yld 0)::(kAF a (a.length:Int) [(8,.i 0)])) ?_;refine Goes.block ?_;obtain⟨H,g14,h⟩:=bnd h;refine Goes.imp (Q:=fun x s'=>(x= .exit 0/\ ∃j k n o,(j,k,n,o)=H/\Sub s' (ofG 19 [],(.loop .ready none (ofG 15 [(3,.ptr 1 0),(5,.ptr 2 0)]) qo.xp qo.x1 qo.x2:: .cells [.func (.func 53) [] []]:: .cells (ni2 j k n o)::(kN a [.cells [.func (.func 57) [] []]]))))) ?_ ?_
 ·refine Uc (fun M s=> ∃(y:Int) (z:List Int) (A:Int) (C:List Int) (g:Int),s=(ofG 19 ((0,.yld 0)::(kAF a (a.length:Int) [(8,.i g)])),(.loop .ready none (ofG 15 [(3,.ptr 1 0),(5,.ptr 2 0)]) qo.xp qo.x1 qo.x2:: .cells [.func (.func 53) [] []]:: .cells (ni2 y z A C)::(kN a [.cells [.func (.func 57) [] []]])))/\zF N a M y z A C g=some H) ?_ (m:=N) ⟨_,_,_,_,_,rfl,g14⟩;rintro M s ⟨y,z,A,C,g,rfl,g14⟩
  cases M with
  |zero=>simp only[zF]at g14;cases g14
  |succ M=>
   rw[zF]at g14;refine sh fol ((0,.yld 0)::(kAF a (a.length:Int) [(8,.i g),(9,.bool (decide (g<(a.length:Int))))])) ?_;refine sq ?_;refine ihD g14 (fun I g14=>?_) (fun I g14=>?_)
   ·refine Goes.skip ?_;refine sq (Goes.block ?_);obtain⟨d,e,g14⟩:=bnd g14;refine sq (gq fol [0,1] ((0,.yld 0)::(2,.ptr 4 0)::(5,.ptr 5 0)::(6,vl qf a)::(kA3 (a.length:Int) g)) (.loop .ready none (ofG 15 [(3,.ptr 1 0),(5,.ptr 2 0)]) qo.xp qo.x1 qo.x2:: .cells [.func (.func 53) [] []]:: .cells (ni2 y z A C)::(kN a (.cells [.func (.func 57) [] []]::(kB d.Name d.Density d.Twist d.Strength d.Dye [])))) (ac (iv qh3 qf e) (ac (la qnJ qf e) az)) ?_);obtain⟨f,p,g14⟩:=bnd g14;obtain⟨⟨q,r,t,u⟩,v,g14⟩:=bnd g14
    try dsimp only at g14
    refine sq (gq fol [3,4] ((0,.yld 0)::(kAF a (a.length:Int) [(8,.i g),(17,.bool false)])) (.loop .ready none (ofG 15 [(3,.ptr 1 0),(5,.ptr 2 0)]) qo.xp qo.x1 qo.x2:: .cells [.func (.func 53) [] []]:: .cells (ni2 q r t u)::(kN a (.cells [.func (.func 57) [] []]::(kB d.Name d.Density d.Twist d.Strength d.Dye [])))) (ac (cv (qil N d p)) (ac (hs (.callH (.rd 0) [.agg (nq1 f)] (.loop .ready none (ofG 15 [(3,.ptr 1 0),(5,.ptr 2 0)]) qo.xp qo.x1 qo.x2:: .cells [.func (.func 53) [] []]:: .cells (ni2 y z A C)::(kN a (.cells [.func (.func 57) [] []]::(kB d.Name d.Density d.Twist d.Strength d.Dye [])))) [0,1,2] (.bool true) (.loop .ready none (ofG 15 [(3,.ptr 1 0),(5,.ptr 2 0)]) qo.xp qo.x1 qo.x2:: .cells [.func (.func 53) [] []]:: .cells (ni2 q r t u)::(kN a (.cells [.func (.func 57) [] []]::(kB d.Name d.Density d.Twist d.Strength d.Dye []))))) (qoz [some 0,some 1,some 2] [some 0,some 1,some 2,none,none,none] (qe7 N y z A C f.Num.s f.Num.w f.Den.s f.Den.w v) rfl (.kb rfl (.loop rfl (.kp (.kp .nil))) (.kb rfl (.cells (rc (.same (qG.func sn sn)) rn)) (.kb rfl (.cells (rc (.same nI) (rc (.same (qJ ZU _)) (rc (.same nI) (rc (.same (qJ ZU _)) rn))))) .nil))) rfl rfl (.back rfl rfl (.loop rfl (.kp (.kp .nil))) rfl (.back rfl rfl (.cells (rc (.same (qG.func sn sn)) rn)) rfl (.back rfl rfl (.cells (rc (.same nI) (rc (.same (qJ ZU _)) (rc (.same nI) (rc (.same (qJ ZU _)) rn))))) rfl (.old rfl rfl (.old rfl rfl (.old rfl rfl .nil)))))) (rc (.same (qG.agg sn)) rn) (.same nB) rfl)) az)) ?_);refine Goes.ifB (b:=false) (by kernel_rfl) (fun c=>(by cases c)) (fun _=>?_);refine Goes.skip ?_;refine gh fol ((0,.yld 0)::(kAF a (a.length:Int) [(8,.i (w64 (g+1)))])) ?_;exact⟨M,(ofG 19 ((0,.yld 0)::(kAF a (a.length:Int) [(8,.i (w64 (g+1)))])),(.loop .ready none (ofG 15 [(3,.ptr 1 0),(5,.ptr 2 0)]) qo.xp qo.x1 qo.x2:: .cells [.func (.func 53) [] []]:: .cells (ni2 q r t u)::(kN a [.cells [.func (.func 57) [] []]]))),Nat.lt_succ_self _,(Sub.norm [] [some 0,some 1,some 2,some 3,some 4] (by rw[hB];rfl) rfl (.keep (.yld rfl) (.kp (.keep (.same (qg qf _)) (.keep (.same nI) (.keep (.same nI) .nil))))) (.kb rfl (.loop rfl (.kp (.kp .nil))) (.kb rfl (.same sn) (.kb rfl (.same sn) (.kb rfl (.same sn) (.kb rfl (.same sn) .nil)))))),_,_,_,_,_,rfl,g14⟩
   refine Goes.exit ?_;obtain rfl:=si g14;exact⟨rfl,_,_,_,_,rfl,(Sub.keep [] rfl rfl)⟩
 rintro x s' ⟨rfl,j,k,n,o,rfl,hsub⟩
 try dsimp only at h
 simp only[ZI,ZP]at h;obtain⟨rfl,rfl,rfl,rfl⟩:=h;exact⟨_,hsub,(gh2 [] (qed.refl _ _))⟩
def qca (N:Nat) (b:List qw):Option (Int×(List Int)×Int×(List Int)):=
 (qhd 0).bind fun a=>
 (xX N a.Num.s a.Num.w a.Den.s a.Den.w b).bind fun(d,e,f,c)=>
 some (d,e,f,c)
theorem qij (N:Nat) (a:List qw) {j:Int} {k:List Int} {o:Int} {p:List Int} (h:qca N a=some (j,k,o,p)):qd ZT (.fn 55) [.func (.func 129) [] kAq,.func (.func 53) [] []] (kN a [.cells [.func (.func 57) [] []]]) (.agg (ni2 j k o p)) (kN a [.cells [.func (.func 57) [] []]]):=by
 unfold qca at h;refine Goes.fnHr Tryz.func55 rfl rfl (m:=15) rfl (rs:=[.cell 4 100]) rfl (l:=[(0,.func (.func 129) [] kAq),(1,.func (.func 53) [] [])]) rfl ?_;intro B hB hR;refine sg fol [(0,.func (.func 129) [] [.ptr 0 0,.ptr 1 0]),(3,.ptr 2 0),(4,.ptr 3 0)] (kN a (.cells [.func (.func 57) [] []]:: .cells [.func (.func 53) [] []]::(kC []))) ?_;obtain⟨f,g,h⟩:=bnd h;refine sq (gq fol [0,2] ((0,.func (.func 129) [] [.ptr 0 0,.ptr 1 0])::(kAu [])) (kN a (.cells [.func (.func 57) [] []]:: .cells [.func (.func 53) [] []]::(kC [.cells (nq1 f)]))) (ac (cv (qgq 0 g)) (ac (hs (.run [4] (qx ZT 100 (.ptr 4 0) (.agg (nq1 f))) (kN a (.cells [.func (.func 57) [] []]:: .cells [.func (.func 53) [] []]::(kC (kC [])))) .undef (kN a (.cells [.func (.func 57) [] []]:: .cells [.func (.func 53) [] []]::(kC [.cells (nq1 f)]))) true) (kg (n:=4) (by kernel_rfl) rfl rfl rfl rfl (cac rfl (cac nvc (cac rfl (cac nvc can)))) rfl)) az)) ?_);refine sq ?_;refine sh fol (kAu [(8,.func (.func 129) [] [.ptr 0 0,.ptr 1 0])]) ?_;refine Goes.block ?_;obtain⟨⟨c,d,e,b⟩,i,h⟩:=bnd h
 try dsimp only at h
 refine Goes.range fol hR (gf:=129) (first:=[]) (captured:=kAq) (v:= .tuple []) (A2:=(kN a (.cells [.func (.func 57) [] []]:: .cells [.func (.func 53) [] []]::(kC [.cells (ni2 c d e b),.loop .ready none (ofG 15 [(3,.ptr 2 0),(5,.ptr 4 0)]) qo.xp qo.x1 qo.x2])))) (s':=(ofG 15 (kAu [(8,.func (.func 129) [] [.ptr 0 0,.ptr 1 0])]),(kN a (.cells [.func (.func 57) [] []]:: .cells [.func (.func 53) [] []]::(kC [.cells (ni2 c d e b),.loop .exhausted none (ofG 15 [(3,.ptr 2 0),(5,.ptr 4 0)]) qo.xp qo.x1 qo.x2]))))) (x:= .normal) (by kernel_rfl) (by kernel_rfl) (qkK (show(Obl.callH 129 (.yld 5::kAq) (kN a (.cells [.func (.func 57) [] []]:: .cells [.func (.func 53) [] []]::(kC [.cells (nq1 f),.loop .ready none (ofG 15 [(3,.ptr 2 0),(4,.ptr 3 0),(5,.ptr 4 0),(8,.func (.func 129) [] [.ptr 0 0,.ptr 1 0])]) qo.xp qo.x1 qo.x2]))) [5,2,4,0,1] (.tuple []) (kN a (.cells [.func (.func 57) [] []]:: .cells [.func (.func 53) [] []]::(kC [.cells (ni2 c d e b),.loop .ready none (ofG 15 [(3,.ptr 2 0),(5,.ptr 4 0)]) qo.xp qo.x1 qo.x2])))).Holds ZT from qbV [some 5,some 2,some 4,some 0,some 1] [some 3,some 4,some 1,none,some 2,some 0] (qeC N f.Num.s f.Num.w f.Den.s f.Den.w a i) (.kb rfl (.loop rfl (.kp (.drop (.kp (.drop .nil))))) (.kb rfl (.cells (rc (.same (qG.func sn sn)) rn)) (.kb rfl (.cells (rc (.same nI) (rc (.same (qJ ZU _)) (rc (.same nI) (rc (.same (qJ ZU _)) rn))))) (.kb rfl (.cells (rc (.same (qg qf _)) rn)) (.kb rfl (.cells (rc (.same (qG.func sn sn)) rn)) .nil))))) rfl rfl (.back rfl rfl (.cells (rc (.same (qg qf _)) rn)) rfl (.back rfl rfl (.cells (rc (.same (qG.func sn sn)) rn)) rfl (.back rfl rfl (.cells (rc (.same (qG.func sn sn)) rn)) rfl (.old rfl rfl (.back rfl rfl (.cells (rc (.same nI) (rc (.same (qJ ZU _)) (rc (.same nI) (rc (.same (qJ ZU _)) rn))))) rfl (.back rfl rfl (.loop rfl (.kp (.kp .nil))) rfl .nil)))))) (rc (.yld rfl) (rc (.ptr rfl) (rc (.ptr rfl) rn))) (.same (qG.tuple sn)) rfl)) (by kernel_rfl) ?_;refine Goes.sub (show Sub (ofG 15 (kAu [(8,.func (.func 129) [] [.ptr 0 0,.ptr 1 0])]),(kN a (.cells [.func (.func 57) [] []]:: .cells [.func (.func 53) [] []]::(kC [.cells (ni2 c d e b),.loop .exhausted none (ofG 15 [(3,.ptr 2 0),(5,.ptr 4 0)]) qo.xp qo.x1 qo.x2])))) (ofG 15 (kAu [(8,.func (.func 129) [] [.ptr 0 0,.ptr 1 0])]),(kN a (.cells [.func (.func 57) [] []]:: .cells [.func (.func 53) [] []]::(kC [.cells (ni2 c d e b)]))))from(Sub.norm [] [some 0,some 1,some 2,some 3,some 4] (by rw[hB];rfl) rfl (.kp (.kp (.kp (.keep (.funcL (sn) (rc (.ptr rfl) (rc (.ptr rfl) rn))) .nil)))) (.kb rfl (.same sn) (.kb rfl (.same sn) (.kb rfl (.same sn) (.kb rfl (.same sn) (.kb rfl (.same sn) .nil))))))) ?_;refine sq (gq fol [1] [(4,.ptr 3 0)] (kN a [.cells [.func (.func 57) [] []],.cells [.func (.func 53) [] []],.cells (ni2 c d e b),.cells (ni2 c d e b)]) (ac (hs (.run [3] (qx ZT 100 (.ptr 3 0) (.agg (ni2 c d e b))) (kN a (.cells [.func (.func 57) [] []]:: .cells [.func (.func 53) [] []]::(kC [.cells (ni2 c d e b)]))) .undef (kN a [.cells [.func (.func 57) [] []],.cells [.func (.func 53) [] []],.cells (ni2 c d e b),.cells (ni2 c d e b)]) true) (kg (n:=4) (by kernel_rfl) rfl rfl rfl rfl (cac rfl (cac nvc (cac rfl (cac nvc can)))) rfl)) az) ?_);refine Goes.ret ?_;simp only[ZI,ZP]at h;obtain⟨rfl,rfl,rfl,rfl⟩:=h;exact(gh2 [.agg (ni2 c d e b)] (Sub.norm [] [some 0,some 1] (by rw[hB];rfl) rfl (.keep (.aggL (rc (.same nI) (rc (.same (qJ ZU _)) (rc (.same nI) (rc (.same (qJ ZU _)) rn))))) .nil) (.kb rfl (.same sn) (.kb rfl (.same sn) .nil))))
def qbb (a:List qw) (b:Int) (c:List Int) (d:Int) (e:List Int):Option Unit:=
 some ()
theorem qfP (a:List qw) (b:Int) (c:List Int) (d:Int) (e:List Int) (h:qbb a b c d e=some ()):qd ZT (.fn 56) [vl qf a,.func (.func 59) [] [.ptr 0 0]] [.cells (ni2 b c d e)] (.func (.func 129) [] [.ptr 1 0,.ptr 2 0]) (.cells (ni2 b c d e)::(kN a [.cells [.func (.func 59) [] [.ptr 0 0]]])):=by
 unfold qbb at h;refine Uo Tryz.func56 rfl rfl (m:=6) rfl (rs:=[.tmp 4]) rfl (l:=(kAs a [(1,.func (.func 59) [] [.ptr 0 0])])) rfl ?_;intro B hB;refine sg fol [(2,.ptr 1 0),(3,.ptr 2 0)] (.cells (ni2 b c d e)::(kN a [.cells [.func (.func 59) [] [.ptr 0 0]]])) ?_;refine sh fol [(4,.func (.func 129) [] [.ptr 1 0,.ptr 2 0])] ?_;refine Goes.ret ?_;exact(gh2 [.func (.func 129) [] [.ptr 1 0,.ptr 2 0]] (qed.refl _ _))
def qbC (N:Nat) (c:Str) (d:Str) (a:Str) (e:List zD) (f:Str) (g:Int) (h:List Int) (i:Int) (j:List Int):Option (Int×(List Int)×Int×(List Int)):=
 (jH N a).bind fun k=>
 (qab N k (⟨(⟨g,h⟩:qp),(⟨i,j⟩:qp)⟩:qD)).bind fun l=>
 (vG N (⟨c,d,a,e,f⟩:qw) l).bind fun b=>
 some (b.1.Num.s,b.1.Num.w,b.1.Den.s,b.1.Den.w)
theorem qf8 (N:Nat) (b:Str) (c:Str) (a:Str) (d:List zD) (e:Str) (f:Int) (g:List Int) (i:Int) (j:List Int) {r:Int} {s:List Int} {t:Int} {u:List Int} (h:qbC N b c a d e f g i j=some (r,s,t,u)):qd ZT (.fn 59) (kAj b c a d e [.ptr 0 0]) [.cells (ni2 f g i j)] (.agg (ni2 r s t u)) [.cells (ni2 f g i j)]:=by
 unfold qbC at h;refine Uo Tryz.func59 rfl rfl (m:=17) rfl (rs:=[.cell 3 100]) rfl (l:=(kAf b c a d e (kX []))) rfl ?_;intro B hB;refine sg fol (kX [(2,.ptr 1 0),(3,.ptr 2 0)]) (.cells (ni2 f g i j)::(kB b c a d e (kC []))) ?_;obtain⟨v,o,h⟩:=bnd h;obtain⟨w,p,h⟩:=bnd h;obtain⟨k,q,h⟩:=bnd h;refine sq (gq fol [3,5,6,11] [(3,.ptr 2 0),(4,.ptr 3 0)] (.cells (ni2 f g i j)::(kB b c a d e (kC [.cells (nq1 k.1)]))) (ac (cv (jZ N a o)) (ac (cv (qce N v (⟨(⟨f,g⟩:qp),(⟨i,j⟩:qp)⟩:qD) p)) (ac (cv (qbF N (⟨b,c,a,d,e⟩:qw) w q)) (ac (hs (.run [3] (qx ZT 100 (.ptr 3 0) (.agg (nq1 k.1))) (.cells (ni2 f g i j)::(kB b c a d e (kC (kC [])))) .undef (.cells (ni2 f g i j)::(kB b c a d e (kC [.cells (nq1 k.1)]))) true) (kg (n:=4) (by kernel_rfl) rfl rfl rfl rfl (cac rfl (cac nvc (cac rfl (cac nvc can)))) rfl)) az)))) ?_);refine sq (gq fol [1] [(3,.ptr 2 0)] (.cells (ni2 f g i j)::(kB b c a d e [.cells (nq1 k.1),.cells (nq1 k.1)])) (ac (hs (.run [2] (qx ZT 100 (.ptr 2 0) (.agg (nq1 k.1))) (.cells (ni2 f g i j)::(kB b c a d e (kC [.cells (nq1 k.1)]))) .undef (.cells (ni2 f g i j)::(kB b c a d e [.cells (nq1 k.1),.cells (nq1 k.1)])) true) (kg (n:=4) (by kernel_rfl) rfl rfl rfl rfl (cac rfl (cac nvc (cac rfl (cac nvc can)))) rfl)) az) ?_);refine Goes.ret ?_;simp only[ZI,ZP]at h;obtain⟨rfl,rfl,rfl,rfl⟩:=h;exact(gh2 [.agg (nq1 k.1)] (Sub.norm [] [some 0] (by rw[hB];rfl) rfl (.keep (.aggL (rc (.same nI) (rc (.same (qJ ZU _)) (rc (.same nI) (rc (.same (qJ ZU _)) rn))))) .nil) (.kb rfl (.same sn) .nil)))
def zC (N:Nat) (b:List qw) (c:Int) (d:List Int) (e:Int) (f:List Int):Nat->Int->(List Int)->Int->(List Int)->Int->Option (Int×(List Int)×Int×(List Int))
 |0,_,_,_,_,_=>none
 |K+1,p,q,r,s,g=>
  if g<(b.length:Int)then
  (idx b g).bind fun a=>
  (qbC N a.Name a.Density a.Twist a.Strength a.Dye c d e f).bind fun(h,i,j,k)=>
  (qbm N p q r s h i j k).bind fun(l,m,n,o)=>
  zC N b c d e f K l m n o (w64 (g+1))
  else
  some (p,q,r,s)
def xZ (N:Nat) (a:Int) (b:List Int) (c:Int) (d:List Int) (e:List qw) (f:Int) (g:List Int) (h:Int) (i:List Int):Option (Int×(List Int)×Int×(List Int)):=
 (zC N e f g h i N a b c d 0).bind fun(j,k,l,m)=>
 some (j,k,l,m)
theorem qeB (N:Nat) (J:Int) (K:List Int) (L:Int) (O:List Int) (d:List qw) (e:Int) (f:List Int) (g:Int) (j:List Int) {V:Int} {X:List Int} {Y:Int} {Z:List Int} (h:xZ N J K L O d e f g j=some (V,X,Y,Z)):qd ZT (.fn 129) [.yld 0,.ptr 3 0,.ptr 4 0] (.loop .ready none (ofG 15 [(3,.ptr 1 0),(5,.ptr 2 0)]) qo.xp qo.x1 qo.x2:: .cells [.func (.func 53) [] []]:: .cells (ni2 J K L O)::(kN d [.cells [.func (.func 59) [] [.ptr 5 0]],.cells (ni2 e f g j)])) (.tuple []) (.loop .ready none (ofG 15 [(3,.ptr 1 0),(5,.ptr 2 0)]) qo.xp qo.x1 qo.x2:: .cells [.func (.func 53) [] []]:: .cells (ni2 V X Y Z)::(kN d [.cells [.func (.func 59) [] [.ptr 5 0]],.cells (ni2 e f g j)])):=by
 unfold xZ at h;refine Uo Tryz.func129 rfl rfl (m:=19) rfl (rs:=[]) rfl (l:=[(0,.yld 0),(1,.ptr 3 0),(2,.ptr 4 0)]) rfl ?_;intro B hB;refine Goes.subQ ?_;refine sh fol ((0,.yld 0)::(kAF d (d.length:Int) [(8,.i 0)])) ?_;refine Goes.block ?_;obtain⟨P,g14,h⟩:=bnd h;refine Goes.imp (Q:=fun x s'=>(x= .exit 0/\ ∃t u v w,(t,u,v,w)=P/\Sub s' (ofG 19 [],(.loop .ready none (ofG 15 [(3,.ptr 1 0),(5,.ptr 2 0)]) qo.xp qo.x1 qo.x2:: .cells [.func (.func 53) [] []]:: .cells (ni2 t u v w)::(kN d [.cells [.func (.func 59) [] [.ptr 5 0]],.cells (ni2 e f g j)]))))) ?_ ?_
 ·refine Uc (fun M s=> ∃(o:Int) (p:List Int) (q:Int) (r:List Int) (n:Int),s=(ofG 19 ((0,.yld 0)::(kAF d (d.length:Int) [(8,.i n)])),(.loop .ready none (ofG 15 [(3,.ptr 1 0),(5,.ptr 2 0)]) qo.xp qo.x1 qo.x2:: .cells [.func (.func 53) [] []]:: .cells (ni2 o p q r)::(kN d [.cells [.func (.func 59) [] [.ptr 5 0]],.cells (ni2 e f g j)])))/\zC N d e f g j M o p q r n=some P) ?_ (m:=N) ⟨_,_,_,_,_,rfl,g14⟩;rintro M s ⟨o,p,q,r,n,rfl,g14⟩
  cases M with
  |zero=>simp only[zC]at g14;cases g14
  |succ M=>
   rw[zC]at g14;refine sh fol ((0,.yld 0)::(kAF d (d.length:Int) [(8,.i n),(9,.bool (decide (n<(d.length:Int))))])) ?_;refine sq ?_;refine ihD g14 (fun U g14=>?_) (fun U g14=>?_)
   ·refine Goes.skip ?_;refine sq (Goes.block ?_);obtain⟨a,k,g14⟩:=bnd g14;refine sq (gq fol [0,1] ((0,.yld 0)::(2,.ptr 4 0)::(5,.ptr 6 0)::(6,vl qf d)::(kA3 (d.length:Int) n)) (.loop .ready none (ofG 15 [(3,.ptr 1 0),(5,.ptr 2 0)]) qo.xp qo.x1 qo.x2:: .cells [.func (.func 53) [] []]:: .cells (ni2 o p q r)::(kN d (.cells [.func (.func 59) [] [.ptr 5 0]]:: .cells (ni2 e f g j)::(kB a.Name a.Density a.Twist a.Strength a.Dye [])))) (ac (iv qh3 qf k) (ac (la qnJ qf k) az)) ?_);obtain⟨⟨y,z,A,C⟩,D,g14⟩:=bnd g14
    try dsimp only at g14
    obtain⟨⟨E,F,G,H⟩,I,g14⟩:=bnd g14
    try dsimp only at g14
    refine sq (gq fol [3,4] ((0,.yld 0)::(kAF d (d.length:Int) [(8,.i n),(17,.bool false)])) (.loop .ready none (ofG 15 [(3,.ptr 1 0),(5,.ptr 2 0)]) qo.xp qo.x1 qo.x2:: .cells [.func (.func 53) [] []]:: .cells (ni2 E F G H)::(kN d (.cells [.func (.func 59) [] [.ptr 5 0]]:: .cells (ni2 e f g j)::(kB a.Name a.Density a.Twist a.Strength a.Dye [])))) (ac (hs (.callH 59 (kAj a.Name a.Density a.Twist a.Strength a.Dye [.ptr 5 0]) (.loop .ready none (ofG 15 [(3,.ptr 1 0),(5,.ptr 2 0)]) qo.xp qo.x1 qo.x2:: .cells [.func (.func 53) [] []]:: .cells (ni2 o p q r)::(kN d (.cells [.func (.func 59) [] [.ptr 5 0]]:: .cells (ni2 e f g j)::(kB a.Name a.Density a.Twist a.Strength a.Dye [])))) [5] (.agg (ni2 y z A C)) (.loop .ready none (ofG 15 [(3,.ptr 1 0),(5,.ptr 2 0)]) qo.xp qo.x1 qo.x2:: .cells [.func (.func 53) [] []]:: .cells (ni2 o p q r)::(kN d (.cells [.func (.func 59) [] [.ptr 5 0]]:: .cells (ni2 e f g j)::(kB a.Name a.Density a.Twist a.Strength a.Dye []))))) (qbV [some 5] [none,none,none,none,none,some 0,none] (qf8 N a.Name a.Density a.Twist a.Strength a.Dye e f g j D) (.kb rfl (.cells (rc (.same nI) (rc (.same (qJ ZU _)) (rc (.same nI) (rc (.same (qJ ZU _)) rn))))) .nil) rfl rfl (.old rfl rfl (.old rfl rfl (.old rfl rfl (.old rfl rfl (.old rfl rfl (.back rfl rfl (.cells (rc (.same nI) (rc (.same (qJ ZU _)) (rc (.same nI) (rc (.same (qJ ZU _)) rn))))) rfl (.old rfl rfl .nil))))))) (rc (.same (qG.agg sn)) (rc (.ptr rfl) rn)) (.same (qG.agg sn)) rfl)) (ac (hs (.callH (.rd 0) [.agg (ni2 y z A C)] (.loop .ready none (ofG 15 [(3,.ptr 1 0),(5,.ptr 2 0)]) qo.xp qo.x1 qo.x2:: .cells [.func (.func 53) [] []]:: .cells (ni2 o p q r)::(kN d (.cells [.func (.func 59) [] [.ptr 5 0]]:: .cells (ni2 e f g j)::(kB a.Name a.Density a.Twist a.Strength a.Dye [])))) [0,1,2] (.bool true) (.loop .ready none (ofG 15 [(3,.ptr 1 0),(5,.ptr 2 0)]) qo.xp qo.x1 qo.x2:: .cells [.func (.func 53) [] []]:: .cells (ni2 E F G H)::(kN d (.cells [.func (.func 59) [] [.ptr 5 0]]:: .cells (ni2 e f g j)::(kB a.Name a.Density a.Twist a.Strength a.Dye []))))) (qoz [some 0,some 1,some 2] [some 0,some 1,some 2,none,none,none,none] (qe7 N o p q r y z A C I) rfl (.kb rfl (.loop rfl (.kp (.kp .nil))) (.kb rfl (.cells (rc (.same (qG.func sn sn)) rn)) (.kb rfl (.cells (rc (.same nI) (rc (.same (qJ ZU _)) (rc (.same nI) (rc (.same (qJ ZU _)) rn))))) .nil))) rfl rfl (.back rfl rfl (.loop rfl (.kp (.kp .nil))) rfl (.back rfl rfl (.cells (rc (.same (qG.func sn sn)) rn)) rfl (.back rfl rfl (.cells (rc (.same nI) (rc (.same (qJ ZU _)) (rc (.same nI) (rc (.same (qJ ZU _)) rn))))) rfl (.old rfl rfl (.old rfl rfl (.old rfl rfl (.old rfl rfl .nil))))))) (rc (.same (qG.agg sn)) rn) (.same nB) rfl)) az)) ?_);refine Goes.ifB (b:=false) (by kernel_rfl) (fun c=>(by cases c)) (fun _=>?_);refine Goes.skip ?_;refine gh fol ((0,.yld 0)::(kAF d (d.length:Int) [(8,.i (w64 (n+1)))])) ?_;exact⟨M,(ofG 19 ((0,.yld 0)::(kAF d (d.length:Int) [(8,.i (w64 (n+1)))])),(.loop .ready none (ofG 15 [(3,.ptr 1 0),(5,.ptr 2 0)]) qo.xp qo.x1 qo.x2:: .cells [.func (.func 53) [] []]:: .cells (ni2 E F G H)::(kN d [.cells [.func (.func 59) [] [.ptr 5 0]],.cells (ni2 e f g j)]))),Nat.lt_succ_self _,(Sub.norm [] [some 0,some 1,some 2,some 3,some 4,some 5] (by rw[hB];rfl) rfl (.keep (.yld rfl) (.kp (.keep (.same (qg qf _)) (.keep (.same nI) (.keep (.same nI) .nil))))) (.kb rfl (.loop rfl (.kp (.kp .nil))) (.kb rfl (.same sn) (.kb rfl (.same sn) (.kb rfl (.same sn) (.kb rfl (.cells (rc (.funcL (sn) (rc (.ptr rfl) rn)) rn)) (.kb rfl (.same sn) .nil))))))),_,_,_,_,_,rfl,g14⟩
   refine Goes.exit ?_;obtain rfl:=si g14;exact⟨rfl,_,_,_,_,rfl,(Sub.keep [] rfl rfl)⟩
 rintro x s' ⟨rfl,t,u,v,w,rfl,hsub⟩
 try dsimp only at h
 simp only[ZI,ZP]at h;obtain⟨rfl,rfl,rfl,rfl⟩:=h;exact⟨_,hsub,(gh2 [] (qed.refl _ _))⟩
def qb5 (N:Nat) (b:List qw) (c:Int) (d:List Int) (e:Int) (f:List Int):Option (Int×(List Int)×Int×(List Int)):=
 (qhd 0).bind fun a=>
 (xZ N a.Num.s a.Num.w a.Den.s a.Den.w b c d e f).bind fun(h,i,j,g)=>
 some (h,i,j,g)
theorem qiH (N:Nat) (a:List qw) (b:Int) (c:List Int) (d:Int) (e:List Int) {q:Int} {r:List Int} {t:Int} {u:List Int} (h:qb5 N a b c d e=some (q,r,t,u)):qd ZT (.fn 55) [.func (.func 129) [] kAq,.func (.func 53) [] []] (kN a [.cells [.func (.func 59) [] [.ptr 2 0]],.cells (ni2 b c d e)]) (.agg (ni2 q r t u)) (kN a [.cells [.func (.func 59) [] [.ptr 2 0]],.cells (ni2 b c d e)]):=by
 unfold qb5 at h;refine Goes.fnHr Tryz.func55 rfl rfl (m:=15) rfl (rs:=[.cell 4 100]) rfl (l:=[(0,.func (.func 129) [] kAq),(1,.func (.func 53) [] [])]) rfl ?_;intro B hB hR;refine sg fol [(0,.func (.func 129) [] [.ptr 0 0,.ptr 1 0]),(3,.ptr 3 0),(4,.ptr 4 0)] (kN a (.cells [.func (.func 59) [] [.ptr 2 0]]:: .cells (ni2 b c d e):: .cells [.func (.func 53) [] []]::(kC []))) ?_;obtain⟨k,o,h⟩:=bnd h;refine sq (gq fol [0,2] ((0,.func (.func 129) [] [.ptr 0 0,.ptr 1 0])::(kAv [])) (kN a (.cells [.func (.func 59) [] [.ptr 2 0]]:: .cells (ni2 b c d e):: .cells [.func (.func 53) [] []]::(kC [.cells (nq1 k)]))) (ac (cv (qgq 0 o)) (ac (hs (.run [5] (qx ZT 100 (.ptr 5 0) (.agg (nq1 k))) (kN a (.cells [.func (.func 59) [] [.ptr 2 0]]:: .cells (ni2 b c d e):: .cells [.func (.func 53) [] []]::(kC (kC [])))) .undef (kN a (.cells [.func (.func 59) [] [.ptr 2 0]]:: .cells (ni2 b c d e):: .cells [.func (.func 53) [] []]::(kC [.cells (nq1 k)]))) true) (kg (n:=4) (by kernel_rfl) rfl rfl rfl rfl (cac rfl (cac nvc (cac rfl (cac nvc can)))) rfl)) az)) ?_);refine sq ?_;refine sh fol (kAv [(8,.func (.func 129) [] [.ptr 0 0,.ptr 1 0])]) ?_;refine Goes.block ?_;obtain⟨⟨g,i,j,f⟩,p,h⟩:=bnd h
 try dsimp only at h
 refine Goes.range fol hR (gf:=129) (first:=[]) (captured:=kAq) (v:= .tuple []) (A2:=(kN a (.cells [.func (.func 59) [] [.ptr 2 0]]:: .cells (ni2 b c d e):: .cells [.func (.func 53) [] []]::(kC [.cells (ni2 g i j f),.loop .ready none (ofG 15 [(3,.ptr 3 0),(5,.ptr 5 0)]) qo.xp qo.x1 qo.x2])))) (s':=(ofG 15 (kAv [(8,.func (.func 129) [] [.ptr 0 0,.ptr 1 0])]),(kN a (.cells [.func (.func 59) [] [.ptr 2 0]]:: .cells (ni2 b c d e):: .cells [.func (.func 53) [] []]::(kC [.cells (ni2 g i j f),.loop .exhausted none (ofG 15 [(3,.ptr 3 0),(5,.ptr 5 0)]) qo.xp qo.x1 qo.x2]))))) (x:= .normal) (by kernel_rfl) (by kernel_rfl) (qkK (show(Obl.callH 129 (.yld 6::kAq) (kN a (.cells [.func (.func 59) [] [.ptr 2 0]]:: .cells (ni2 b c d e):: .cells [.func (.func 53) [] []]::(kC [.cells (nq1 k),.loop .ready none (ofG 15 [(3,.ptr 3 0),(4,.ptr 4 0),(5,.ptr 5 0),(8,.func (.func 129) [] [.ptr 0 0,.ptr 1 0])]) qo.xp qo.x1 qo.x2]))) [6,3,5,0,1,2] (.tuple []) (kN a (.cells [.func (.func 59) [] [.ptr 2 0]]:: .cells (ni2 b c d e):: .cells [.func (.func 53) [] []]::(kC [.cells (ni2 g i j f),.loop .ready none (ofG 15 [(3,.ptr 3 0),(5,.ptr 5 0)]) qo.xp qo.x1 qo.x2])))).Holds ZT from qbV [some 6,some 3,some 5,some 0,some 1,some 2] [some 3,some 4,some 5,some 1,none,some 2,some 0] (qeB N k.Num.s k.Num.w k.Den.s k.Den.w a b c d e p) (.kb rfl (.loop rfl (.kp (.drop (.kp (.drop .nil))))) (.kb rfl (.cells (rc (.same (qG.func sn sn)) rn)) (.kb rfl (.cells (rc (.same nI) (rc (.same (qJ ZU _)) (rc (.same nI) (rc (.same (qJ ZU _)) rn))))) (.kb rfl (.cells (rc (.same (qg qf _)) rn)) (.kb rfl (.cells (rc (.funcL (sn) (rc (.ptr rfl) rn)) rn)) (.kb rfl (.cells (rc (.same nI) (rc (.same (qJ ZU _)) (rc (.same nI) (rc (.same (qJ ZU _)) rn))))) .nil)))))) rfl rfl (.back rfl rfl (.cells (rc (.same (qg qf _)) rn)) rfl (.back rfl rfl (.cells (rc (.funcL (sn) (rc (.ptr rfl) rn)) rn)) rfl (.back rfl rfl (.cells (rc (.same nI) (rc (.same (qJ ZU _)) (rc (.same nI) (rc (.same (qJ ZU _)) rn))))) rfl (.back rfl rfl (.cells (rc (.same (qG.func sn sn)) rn)) rfl (.old rfl rfl (.back rfl rfl (.cells (rc (.same nI) (rc (.same (qJ ZU _)) (rc (.same nI) (rc (.same (qJ ZU _)) rn))))) rfl (.back rfl rfl (.loop rfl (.kp (.kp .nil))) rfl .nil))))))) (rc (.yld rfl) (rc (.ptr rfl) (rc (.ptr rfl) rn))) (.same (qG.tuple sn)) rfl)) (by kernel_rfl) ?_;refine Goes.sub (show Sub (ofG 15 (kAv [(8,.func (.func 129) [] [.ptr 0 0,.ptr 1 0])]),(kN a (.cells [.func (.func 59) [] [.ptr 2 0]]:: .cells (ni2 b c d e):: .cells [.func (.func 53) [] []]::(kC [.cells (ni2 g i j f),.loop .exhausted none (ofG 15 [(3,.ptr 3 0),(5,.ptr 5 0)]) qo.xp qo.x1 qo.x2])))) (ofG 15 (kAv [(8,.func (.func 129) [] [.ptr 0 0,.ptr 1 0])]),(kN a (.cells [.func (.func 59) [] [.ptr 2 0]]:: .cells (ni2 b c d e):: .cells [.func (.func 53) [] []]::(kC [.cells (ni2 g i j f)]))))from(Sub.norm [] [some 0,some 1,some 2,some 3,some 4,some 5] (by rw[hB];rfl) rfl (.kp (.kp (.kp (.keep (.funcL (sn) (rc (.ptr rfl) (rc (.ptr rfl) rn))) .nil)))) (.kb rfl (.same sn) (.kb rfl (.cells (rc (.funcL (sn) (rc (.ptr rfl) rn)) rn)) (.kb rfl (.same sn) (.kb rfl (.same sn) (.kb rfl (.same sn) (.kb rfl (.same sn) .nil)))))))) ?_;refine sq (gq fol [1] [(4,.ptr 4 0)] (kN a [.cells [.func (.func 59) [] [.ptr 2 0]],.cells (ni2 b c d e),.cells [.func (.func 53) [] []],.cells (ni2 g i j f),.cells (ni2 g i j f)]) (ac (hs (.run [4] (qx ZT 100 (.ptr 4 0) (.agg (ni2 g i j f))) (kN a (.cells [.func (.func 59) [] [.ptr 2 0]]:: .cells (ni2 b c d e):: .cells [.func (.func 53) [] []]::(kC [.cells (ni2 g i j f)]))) .undef (kN a [.cells [.func (.func 59) [] [.ptr 2 0]],.cells (ni2 b c d e),.cells [.func (.func 53) [] []],.cells (ni2 g i j f),.cells (ni2 g i j f)]) true) (kg (n:=4) (by kernel_rfl) rfl rfl rfl rfl (cac rfl (cac nvc (cac rfl (cac nvc can)))) rfl)) az) ?_);refine Goes.ret ?_;simp only[ZI,ZP]at h;obtain⟨rfl,rfl,rfl,rfl⟩:=h;exact(gh2 [.agg (ni2 g i j f)] (Sub.norm [] [some 0,some 1,some 2] (by rw[hB];rfl) rfl (.keep (.aggL (rc (.same nI) (rc (.same (qJ ZU _)) (rc (.same nI) (rc (.same (qJ ZU _)) rn))))) .nil) (.kb rfl (.same sn) (.kb rfl (.cells (rc (.funcL (sn) (rc (.ptr rfl) rn)) rn)) (.kb rfl (.same sn) .nil)))))
def qaB (N:Nat) (l:List qw) (m:qD):Nat->Int->Str->Int->Option (Int×Str)
 |0,_,_,_=>none
 |K+1,c,d,a=>
  if a<(l.length:Int)then
  (((idx l a).bind fun b=>
  (jH N b.Twist).bind fun f=>
  (qab N f m).bind fun g=>
  (vG N b g).bind fun h=>
  (zQ N ([c,h.2]:List Int)).bind fun e=>
  (idx l 0).bind fun i=>
  if(!(b.Dye==i.Dye))=true then
  some (e,[])
  else
  some (e,d):Option (Int×Str))).bind fun(j,k)=>
  qaB N l m K j k (w64 (a+1))
  else
  some (c,d)
def qa5 (N:Nat) (name:Str) (l:List qw) (twist:Str) (factor:Str):Option (qw×Int):=
 (yN N name).bind fun y=>
 (kK (decide ((l.length:Int)=0)) 12).bind fun z=>
 (yw N l 12).bind fun A=>
 (vM N twist).bind fun B=>
 (jl N factor).bind fun C=>
 (zQ N ([y,z,A,B,C]:List Int)).bind fun v=>
 if(!decide (v=0))=true then
 some ((⟨[],[],[],[],[]⟩:qw),v)
 else
 (jH N factor).bind fun x=>
 (jH N twist).bind fun a=>
 (qhd 1).bind fun f=>
 (yD N x f).bind fun g=>
 (kK (decide (g>0)) 3).bind fun h=>
 (idx l 0).bind fun i=>
 (qaB N l a N h i.Dye 0).bind fun(b,j)=>
 if(!decide (b=0))=true then
 some ((⟨[],[],[],[],[]⟩:qw),b)
 else
 (qba l).bind fun _=>
 (qca N l).bind fun(k,m,n,o)=>
 (qbB N (⟨(⟨k,m⟩:qp),(⟨n,o⟩:qp)⟩:qD) x).bind fun p=>
 (qaG N p).bind fun c=>
 (qbb l a.Num.s a.Num.w a.Den.s a.Den.w).bind fun _=>
 (qb5 N l a.Num.s a.Num.w a.Den.s a.Den.w).bind fun(q,r,t,u)=>
 (qaG N (⟨(⟨q,r⟩:qp),(⟨t,u⟩:qp)⟩:qD)).bind fun d=>
 (zQ N ([c.2,d.2]:List Int)).bind fun e=>
 if(!decide (e=0))=true then
 some ((⟨[],[],[],[],[]⟩:qw),e)
 else
 some ((⟨name,c.1,twist,[(⟨[48],d.1⟩:zD)],j⟩:qw),0)
theorem qdf (N:Nat) (name:Str) (l:List qw) (twist:Str) (factor:Str) {res:qw×Int} (h:qa5 N name l twist factor=some res):qd ZT (.fn 9) (.str name::vl qf l::(kBF twist factor)) [] (.tuple (kAj res.1.Name res.1.Density res.1.Twist res.1.Strength res.1.Dye [.i res.2])) []:=by
 unfold qa5 at h;refine Ub Tryz.func9 rfl rfl (m:=120) rfl (rs:=[.cell 8 32,.tmp 9]) rfl (l:=(kAU name l twist [(3,.str factor)])) rfl ?_;refine sg fol (kAU name l twist ((3,.str factor)::(kBU []))) (kI []) ?_;refine sq ?_;obtain⟨A,e_r1,h⟩:=bnd h;obtain⟨B,e_r2,h⟩:=bnd h;obtain⟨z,e_r3,h⟩:=bnd h;obtain⟨C,e_r4,h⟩:=bnd h;obtain⟨D,e_r5,h⟩:=bnd h;obtain⟨r6,e_r6,h⟩:=bnd h;refine sq (gq fol [1,5,7,9,11,13] (kAU name l twist ((3,.str factor)::(kBU [(10,.i r6)]))) (kI [.cells [.i A,.i B,.i z,.i C,.i D]]) (ac (cv (qfz N name e_r1)) (ac (cv (xk (decide ((l.length:Int)=0)) 12 e_r2)) (ac (hs (.call 44 [vl qf l,.i 12,.func (.func 45) [] []] [] [] [vl qf l,.i 12,.func (.func 45) [] []] (.i z)) (qoT (FzL.cons (Uf (qA qf _ (nl rfl))) (FzL.cons (Uf tI) (FzL.cons (Fz.func FzL.nil FzL.nil) FzL.nil))) (qfe N l 12 e_r3) tI)) (ac (cv (qcg N twist e_r4)) (ac (cv (qdz N factor e_r5)) (ac (hs (.call 41 [.slice 1 0 5 5 1] (kI [.cells [.i A,.i B,.i z,.i C,.i D]]) [1] [vl encI ([A,B,z,C,D]:List Int)] (.i r6)) (qeo (FzL.cons (Fz.lit rfl rfl (Ue (AllST.cons tI (AllST.cons tI (AllST.cons tI (AllST.cons tI (AllST.cons tI AllST.nil))))))) FzL.nil) (qao N ([A,B,z,C,D]:List Int) e_r6) tI rfl)) az)))))) ?_);refine sh fol (kAU name l twist ((3,.str factor)::(kBU [(10,.i r6),(39,.bool (!decide (r6=0)))]))) ?_;refine ihB h (fun c7 h=>?_) (fun c7 h=>?_)
 ·refine sh fol (kBU [(9,.i r6)]) ?_;refine Goes.ret ?_;obtain rfl:=si h;exact(gw2 (kBK r6) (FzW.tuple (qj.cons (FzW.agg (qj.cons (Ua tS) (qj.cons (Ua tS) (qj.cons (Ua tS) (qj.cons (FzW.nilv (E:=qh)) (qj.cons (Ua tS) qj.nil)))))) (qj.cons (Ua tI) qj.nil))))
 refine Goes.skip ?_;obtain⟨c,e_r8,h⟩:=bnd h;obtain⟨b,e_r9,h⟩:=bnd h;refine sq (gq fol [1,3,6,7] (kAU name l twist (kBB [])) (kI [.cells [.i A,.i B,.i z,.i C,.i D],.cells (nq1 c),.cells (nq1 b)]) (ac (cv (jZ N factor e_r8)) (ac (cv (jZ N twist e_r9)) (ac (hs (.run [2] (qx ZT 100 (.ptr 2 0) (.agg (nq1 c))) (kI (.cells [.i A,.i B,.i z,.i C,.i D]::(kC (kC [])))) .undef (kI (.cells [.i A,.i B,.i z,.i C,.i D]:: .cells (nq1 c)::(kC []))) true) (kg (n:=4) (by kernel_rfl) rfl rfl rfl rfl (cac rfl (cac nvc (cac rfl (cac nvc can)))) rfl)) (ac (hs (.run [3] (qx ZT 100 (.ptr 3 0) (.agg (nq1 b))) (kI (.cells [.i A,.i B,.i z,.i C,.i D]:: .cells (nq1 c)::(kC []))) .undef (kI [.cells [.i A,.i B,.i z,.i C,.i D],.cells (nq1 c),.cells (nq1 b)]) true) (kg (n:=4) (by kernel_rfl) rfl rfl rfl rfl (cac rfl (cac nvc (cac rfl (cac nvc can)))) rfl)) az)))) ?_);obtain⟨r10,H,h⟩:=bnd h;obtain⟨r11,I,h⟩:=bnd h;obtain⟨F,J,h⟩:=bnd h;refine sq (gr fol [1,2,4] (kAU name l twist (kBB [(13,.i F)])) (ac (cv (qgq 1 H)) (ac (cv (qci N c r10 I)) (ac (cv (xk (decide (r11>0)) 3 J)) az))) ?_);obtain⟨K,r,h⟩:=bnd h;refine sq (gr fol [1,3] (kAU name l twist (kBB [(13,.i F),(14,.str K.Dye)])) (ac (iv qh3 qf r) (ac (lv 4 ce9 qf r rfl) az)) ?_);refine sq ?_;refine sh fol (kAU name l twist (kBB [(13,.i F),(14,.str K.Dye),(55,vl qf l),(56,.i (l.length:Int)),(57,.i 0)])) ?_;refine Goes.block ?_;obtain⟨r19,g19,h⟩:=bnd h;refine Goes.imp (Q:=fun x s'=>(x= .exit 0/\ ∃p f,(p,f)=r19/\Sub s' (ofG 120 (kM name l twist p f []),(kI [.cells (nq1 c),.cells (nq1 b)])))) ?_ ?_
 ·refine Goes.sub (s':=(ofG 120 (kM name l twist F K.Dye [(55,vl qf l),(56,.i (l.length:Int)),(57,.i 0)]),(kI [.cells (nq1 c),.cells (nq1 b)]))) (Sub.norm [] [some 0,some 2,some 3] rfl rfl (.keep (.same nS) (.keep (.same (qg qf _)) (.keep (.same nS) (.kp (.kp (.kp (.keep (.same nI) (.keep (.same nS) (.keep (.same (qg qf _)) (.keep (.same nI) (.keep (.same nI) .nil))))))))))) (.kb rfl (.same sn) (.kb rfl (.same sn) (.kb rfl (.same sn) .nil)))) ?_;refine Uc (fun M s=> ∃(g:Int) (o:Str) (d:Int),s=(ofG 120 (kM name l twist g o (kAX l (l.length:Int) d [])),(kI [.cells (nq1 c),.cells (nq1 b)]))/\qaB N l b M g o d=some r19) ?_ (m:=N) ⟨_,_,_,rfl,g19⟩;rintro M s ⟨g,o,d,rfl,g19⟩
  cases M with
  |zero=>simp only[qaB]at g19;cases g19
  |succ M=>
   rw[qaB]at g19;refine sh fol (kM name l twist g o (kAX l (l.length:Int) d [(58,.bool (decide (d<(l.length:Int))))])) ?_;refine sq ?_;refine ihD g19 (fun c20 g19=>?_) (fun c20 g19=>?_)
   ·refine Goes.skip ?_;refine sq ?_;obtain⟨r23,g23,g19⟩:=bnd g19;refine Goes.imp (Q:=fun x s'=>(x= .normal/\ ∃t u,(t,u)=r23/\Sub s' (ofG 120 (kM name l twist t u (kAX l (l.length:Int) d [])),(kI [.cells (nq1 c),.cells (nq1 b)])))) ?_ ?_
    ·refine Goes.block ?_;obtain⟨a,v,g23⟩:=bnd g23;refine sq (gq fol [0,1] (kM name l twist g o ((16,.ptr 3 0)::(kAX l (l.length:Int) d []))) (kI (.cells (nq1 c):: .cells (nq1 b)::(kB a.Name a.Density a.Twist a.Strength a.Dye []))) (ac (iv qh3 qf v) (ac (la qnJ qf v) az)) ?_);obtain⟨r25,L,g23⟩:=bnd g23;obtain⟨r26,O,g23⟩:=bnd g23;obtain⟨j,P,g23⟩:=bnd g23;refine sq (gq fol [3,5,6,11] (kM name l twist g o ((16,.ptr 3 0)::(18,.i j.2)::(kAX l (l.length:Int) d []))) (kI (.cells (nq1 c):: .cells (nq1 b)::(kB a.Name a.Density a.Twist a.Strength a.Dye [.cells (nq1 j.1)]))) (ac (cv (jZ N a.Twist L)) (ac (cv (qce N r25 b O)) (ac (cv (qbF N a r26 P)) (ac (hs (.run [4] (qx ZT 100 (.ptr 4 0) (.agg (nq1 j.1))) (kI (.cells (nq1 c):: .cells (nq1 b)::(kB a.Name a.Density a.Twist a.Strength a.Dye (kC [])))) .undef (kI (.cells (nq1 c):: .cells (nq1 b)::(kB a.Name a.Density a.Twist a.Strength a.Dye [.cells (nq1 j.1)]))) true) (kg (n:=4) (by kernel_rfl) rfl rfl rfl rfl (cac rfl (cac nvc (cac rfl (cac nvc can)))) rfl)) az)))) ?_);obtain⟨G,U,g23⟩:=bnd g23;refine sq (gq fol [3] (kM name l twist G o ((16,.ptr 3 0)::(kAX l (l.length:Int) d []))) (kI (.cells (nq1 c):: .cells (nq1 b)::(kB a.Name a.Density a.Twist a.Strength a.Dye (.cells (nq1 j.1)::(kAx g j.2))))) (ac (hs (.call 41 [.slice 5 0 2 2 1] (kI (.cells (nq1 c):: .cells (nq1 b)::(kB a.Name a.Density a.Twist a.Strength a.Dye (.cells (nq1 j.1)::(kAx g j.2))))) [5] [vl encI ([g,j.2]:List Int)] (.i G)) (qeo (FzL.cons (Fz.lit rfl rfl (Ue (AllST.cons tI (AllST.cons tI AllST.nil)))) FzL.nil) (qao N ([g,j.2]:List Int) U) tI rfl)) az) ?_);obtain⟨x29,y,g23⟩:=bnd g23;refine sq (gr fol [3,5] (kM name l twist G o (kAX l (l.length:Int) d [(81,.bool (!(a.Dye==x29.Dye)))])) (ac (iv qh3 qf y) (ac (lv 4 ce9 qf y rfl) az)) ?_);refine ihB g23 (fun c30 g23=>?_) (fun c30 g23=>?_)
     ·refine gh fol (kAU name l twist (kBU ((11,.ptr 1 0)::(12,.ptr 2 0)::(13,.i G)::(14,.str [])::(kAX l (l.length:Int) d [])))) ?_;obtain rfl:=si g23;exact⟨rfl,_,_,rfl,(Sub.norm [] [some 0,some 1,some 2] rfl rfl (.keep (.same nS) (.keep (.same (qg qf _)) (.keep (.same nS) (.kp (.kp (.kp (.keep (.same nI) (.keep (.same nS) (.keep (.same (qg qf _)) (.keep (.same nI) (.keep (.same nI) .nil))))))))))) (.kb rfl (.same sn) (.kb rfl (.same sn) (.kb rfl (.same sn) .nil))))⟩
     refine Goes.skip ?_;obtain rfl:=si g23;exact⟨rfl,_,_,rfl,(Sub.norm [] [some 0,some 1,some 2] rfl rfl (.keep (.same nS) (.keep (.same (qg qf _)) (.keep (.same nS) (.kp (.kp (.kp (.keep (.same nI) (.keep (.same nS) (.keep (.same (qg qf _)) (.keep (.same nI) (.keep (.same nI) .nil))))))))))) (.kb rfl (.same sn) (.kb rfl (.same sn) (.kb rfl (.same sn) .nil))))⟩
    rintro x s' ⟨rfl,t,u,rfl,hsub⟩
    try dsimp only at g19
    refine Goes.sub hsub ?_;refine gh fol (kM name l twist t u (kAX l (l.length:Int) (w64 (d+1)) [])) ?_;exact⟨M,(ofG 120 (kM name l twist t u (kAX l (l.length:Int) (w64 (d+1)) [])),(kI [.cells (nq1 c),.cells (nq1 b)])),Nat.lt_succ_self _,(Sub.refl _),_,_,_,rfl,g19⟩
   refine Goes.exit ?_;obtain rfl:=si g19;exact⟨rfl,_,_,rfl,(Sub.keep [0,1,2,8,11,12,13,14] rfl rfl)⟩
 rintro x s' ⟨rfl,p,f,rfl,hsub⟩
 try dsimp only at h
 refine Goes.sub hsub ?_;refine sq ?_;refine sh fol (kM name l twist p f [(84,.bool (!decide (p=0)))]) ?_;refine ihB h (fun c31 h=>?_) (fun c31 h=>?_)
 ·refine sh fol (kBU [(9,.i p)]) ?_;refine Goes.ret ?_;obtain rfl:=si h;exact(gw2 (kBK p) (FzW.tuple (qj.cons (FzW.agg (qj.cons (Ua tS) (qj.cons (Ua tS) (qj.cons (Ua tS) (qj.cons (FzW.nilv (E:=qh)) (qj.cons (Ua tS) qj.nil)))))) (qj.cons (Ua tI) qj.nil))))
 refine Goes.skip ?_;obtain⟨_,V,h⟩:=bnd h;obtain⟨⟨n34,l35,n36,l37⟩,X,h⟩:=bnd h
 try dsimp only at h
 obtain⟨r38,Y,h⟩:=bnd h;obtain⟨e,Z,h⟩:=bnd h;refine sq (gq fol [1,2,4,5] (kAU name l twist (kBU [(12,.ptr 2 0),(14,.str f),(19,.str e.1),(20,.i e.2)])) (kI (.cells (nq1 c):: .cells (nq1 b)::(kN l [.cells [.func (.func 57) [] []]]))) (ac (hs (.callH 56 [vl qf l,.func (.func 57) [] []] (kI [.cells (nq1 c),.cells (nq1 b)]) [] (.func (.func 129) [] [.ptr 3 0,.ptr 4 0]) (kI (.cells (nq1 c):: .cells (nq1 b)::(kN l [.cells [.func (.func 57) [] []]])))) (qbV [] [none,none,none,some 0,some 1] (qf2 l V) .nil rfl rfl (.old rfl rfl (.old rfl rfl (.old rfl rfl (.new rfl rfl (.cells (rc (.same (qg qf _)) rn)) rfl (.new rfl rfl (.cells (rc (.same (qG.func sn sn)) rn)) rfl .nil))))) (rc (.same (qg qf _)) (rc (.same (qG.func sn sn)) rn)) (.funcL (sn) (rc (.ptr rfl) (rc (.ptr rfl) rn))) rfl)) (ac (hs (.callH 55 [.func (.func 129) [] [.ptr 3 0,.ptr 4 0],.func (.func 53) [] []] (kI (.cells (nq1 c):: .cells (nq1 b)::(kN l [.cells [.func (.func 57) [] []]]))) [3,4] (.agg (ni2 n34 l35 n36 l37)) (kI (.cells (nq1 c):: .cells (nq1 b)::(kN l [.cells [.func (.func 57) [] []]])))) (qbV [some 3,some 4] [none,none,none,some 0,some 1] (qij N l X) (.kb rfl (.cells (rc (.same (qg qf _)) rn)) (.kb rfl (.cells (rc (.same (qG.func sn sn)) rn)) .nil)) rfl rfl (.old rfl rfl (.old rfl rfl (.old rfl rfl (.back rfl rfl (.cells (rc (.same (qg qf _)) rn)) rfl (.back rfl rfl (.cells (rc (.same (qG.func sn sn)) rn)) rfl .nil))))) (rc (.funcL (sn) (rc (.ptr rfl) (rc (.ptr rfl) rn))) (rc (.same (qG.func sn sn)) rn)) (.same (qG.agg sn)) rfl)) (ac (cv (qhn N (⟨(⟨n34,l35⟩:qp),(⟨n36,l37⟩:qp)⟩:qD) c Y)) (ac (cv (qcI N r38 Z)) az)))) ?_);obtain⟨_,a0,h⟩:=bnd h;obtain⟨⟨n42,l43,n44,l45⟩,a1,h⟩:=bnd h
 try dsimp only at h
 obtain⟨k,a2,h⟩:=bnd h;refine sq (gq fol [2,3,4] (kA4 name ((2,.str twist)::(kBU [(14,.str f),(19,.str e.1),(20,.i e.2),(21,.str k.1),(22,.i k.2)]))) (kI (.cells (nq1 c):: .cells (nq1 b)::(kN l (.cells [.func (.func 57) [] []]::(kN l [.cells [.func (.func 59) [] [.ptr 2 0]]]))))) (ac (hs (.callH 56 [vl qf l,.func (.func 59) [] [.ptr 2 0]] (kI (.cells (nq1 c):: .cells (nq1 b)::(kN l [.cells [.func (.func 57) [] []]]))) [2] (.func (.func 129) [] [.ptr 5 0,.ptr 6 0]) (kI (.cells (nq1 c):: .cells (nq1 b)::(kN l (.cells [.func (.func 57) [] []]::(kN l [.cells [.func (.func 59) [] [.ptr 2 0]]])))))) (qbV [some 2] [none,none,some 0,none,none,some 1,some 2] (qfP l b.Num.s b.Num.w b.Den.s b.Den.w a0) (.kb rfl (.cells (rc (.same nI) (rc (.same (qJ ZU _)) (rc (.same nI) (rc (.same (qJ ZU _)) rn))))) .nil) rfl rfl (.old rfl rfl (.old rfl rfl (.back rfl rfl (.cells (rc (.same nI) (rc (.same (qJ ZU _)) (rc (.same nI) (rc (.same (qJ ZU _)) rn))))) rfl (.old rfl rfl (.old rfl rfl (.new rfl rfl (.cells (rc (.same (qg qf _)) rn)) rfl (.new rfl rfl (.cells (rc (.funcL (sn) (rc (.ptr rfl) rn)) rn)) rfl .nil))))))) (rc (.same (qg qf _)) (rc (.funcL (sn) (rc (.ptr rfl) rn)) rn)) (.funcL (sn) (rc (.ptr rfl) (rc (.ptr rfl) rn))) rfl)) (ac (hs (.callH 55 [.func (.func 129) [] [.ptr 5 0,.ptr 6 0],.func (.func 53) [] []] (kI (.cells (nq1 c):: .cells (nq1 b)::(kN l (.cells [.func (.func 57) [] []]::(kN l [.cells [.func (.func 59) [] [.ptr 2 0]]]))))) [5,6,2] (.agg (ni2 n42 l43 n44 l45)) (kI (.cells (nq1 c):: .cells (nq1 b)::(kN l (.cells [.func (.func 57) [] []]::(kN l [.cells [.func (.func 59) [] [.ptr 2 0]]])))))) (qbV [some 5,some 6,some 2] [none,none,some 2,none,none,some 0,some 1] (qiH N l b.Num.s b.Num.w b.Den.s b.Den.w a1) (.kb rfl (.cells (rc (.same (qg qf _)) rn)) (.kb rfl (.cells (rc (.funcL (sn) (rc (.ptr rfl) rn)) rn)) (.kb rfl (.cells (rc (.same nI) (rc (.same (qJ ZU _)) (rc (.same nI) (rc (.same (qJ ZU _)) rn))))) .nil))) rfl rfl (.old rfl rfl (.old rfl rfl (.back rfl rfl (.cells (rc (.same nI) (rc (.same (qJ ZU _)) (rc (.same nI) (rc (.same (qJ ZU _)) rn))))) rfl (.old rfl rfl (.old rfl rfl (.back rfl rfl (.cells (rc (.same (qg qf _)) rn)) rfl (.back rfl rfl (.cells (rc (.funcL (sn) (rc (.ptr rfl) rn)) rn)) rfl .nil))))))) (rc (.funcL (sn) (rc (.ptr rfl) (rc (.ptr rfl) rn))) (rc (.same (qG.func sn sn)) rn)) (.same (qG.agg sn)) rfl)) (ac (cv (qcI N (⟨(⟨n42,l43⟩:qp),(⟨n44,l45⟩:qp)⟩:qD) a2)) az))) ?_);refine sq ?_;obtain⟨q,a3,h⟩:=bnd h;refine sq (gq fol [3] (kA4 name ((2,.str twist)::(kBU [(14,.str f),(19,.str e.1),(21,.str k.1),(23,.i q)]))) (kI (.cells (nq1 c):: .cells (nq1 b)::(kN l (.cells [.func (.func 57) [] []]::(kN l (.cells [.func (.func 59) [] [.ptr 2 0]]::(kAx e.2 k.2))))))) (ac (hs (.call 41 [.slice 7 0 2 2 1] (kI (.cells (nq1 c):: .cells (nq1 b)::(kN l (.cells [.func (.func 57) [] []]::(kN l (.cells [.func (.func 59) [] [.ptr 2 0]]::(kAx e.2 k.2))))))) [7] [vl encI ([e.2,k.2]:List Int)] (.i q)) (qeo (FzL.cons (Fz.lit rfl rfl (Ue (AllST.cons tI (AllST.cons tI AllST.nil)))) FzL.nil) (qao N ([e.2,k.2]:List Int) a3) tI rfl)) az) ?_);refine sh fol (kA4 name ((2,.str twist)::(kBU [(14,.str f),(19,.str e.1),(21,.str k.1),(23,.i q),(109,.bool (!decide (q=0)))]))) ?_;refine ihB h (fun c48 h=>?_) (fun c48 h=>?_)
 ·refine sh fol (kBU [(9,.i q)]) ?_;refine Goes.ret ?_;obtain rfl:=si h;exact(gw2 (kBK q) (FzW.tuple (qj.cons (FzW.agg (qj.cons (Ua tS) (qj.cons (Ua tS) (qj.cons (Ua tS) (qj.cons (FzW.nilv (E:=qh)) (qj.cons (Ua tS) qj.nil)))))) (qj.cons (Ua tI) qj.nil))))
 refine Goes.skip ?_;refine sg fol (kBU [(9,.i 0)]) (.cells [.str name,.str e.1,.str twist,.slice 8 0 1 1 2,.str f]:: .cells (nq1 c):: .cells (nq1 b)::(kN l (.cells [.func (.func 57) [] []]::(kN l [.cells [.func (.func 59) [] [.ptr 2 0]],.cells [.i e.2,.i k.2],.cells [.str [48],.str k.1]])))) ?_;refine Goes.ret ?_;obtain rfl:=si h;exact(gw2 [.agg [.str name,.str e.1,.str twist,.slice 8 0 1 1 2,.str f],.i 0] (FzW.tuple (qj.cons (FzW.agg (qj.cons (Ua tS) (qj.cons (Ua tS) (qj.cons (Ua tS) (qj.cons (FzW.fz (Fz.lit rfl rfl (Ue (AllST.cons tS (AllST.cons tS AllST.nil))))) (qj.cons (Ua tS) qj.nil)))))) (qj.cons (Ua tI) qj.nil))))
def yc (b:Str):Nat->Int->Option (Unit⊕Int)
 |0,_=>none
 |K+1,a=>
  if a<(b.length:Int)then
  (idx b a).bind fun c=>
  if(c.toNat:Int)=47 then
  some (.inr a)
  else
  yc b K (w64 (a+1))
  else
  some (.inl ())
def xm (N:Nat) (a:Str):Option Int:=
 (yc a N 0).bind (fun
 |(.inl ())=>
 some (a.length:Int)
 |(.inr b)=>
 some b)
theorem qaA (N:Nat) (a:Str) {res:Int} (h:xm N a=some res):qd ZT (.fn 82) [.str a] [] (.i res) []:=by
 unfold xm at h;refine Ub Tryz.func82 rfl rfl (m:=17) rfl (rs:=[.tmp 2]) rfl (l:=(kAI a)) rfl ?_;refine sh fol (kAI a) ?_;refine sq ?_;refine sh fol (kA4 a [(3,.i 0)]) ?_;refine Goes.block ?_;obtain⟨d,g2,h⟩:=bnd h;refine Goes.imp (Q:=fun x s'=>(x= .exit 0/\(.inl ())=d/\Sub s' (ofG 17 (kAI a),[]))\/(x= .ret/\ ∃e,(.inr e)=d/\jb ZT [.tmp 2] (.i e) .ret s')) ?_ ?_
 ·refine Uc (fun M s=> ∃(b:Int),s=(ofG 17 (kAB a b []),[])/\yc a M b=some d) ?_ (m:=N) ⟨_,rfl,g2⟩;rintro M s ⟨b,rfl,g2⟩
  cases M with
  |zero=>simp only[yc]at g2;cases g2
  |succ M=>
   rw[yc]at g2;refine sq ?_;refine sh fol (kAB a b [(7,.bool (decide (b<(a.length:Int))))]) ?_;refine ihD g2 (fun g g2=>?_) (fun g g2=>?_)
   ·refine Goes.skip ?_;refine sq (Goes.block ?_);obtain⟨f,c,g2⟩:=bnd g2;refine sq (gr fol [2] (kAB a b (kBE (decide ((f.toNat:Int)=47)))) (ac (hs (.done (.opt (yV ZT 9 (.str a) (.i b))) (.int .u8 (f.toNat:Int))) (qau st9 c)) az) ?_);refine ihD g2 (fun j g2=>?_) (fun j g2=>?_)
    ·refine sh fol (kBA b) ?_;refine Goes.ret ?_;obtain rfl:=si g2;exact Or.inr (⟨rfl,_,rfl,(gw2 [.i b] (Ua tI))⟩)
    refine Goes.skip ?_;refine gh fol (kAB a (w64 (b+1)) []) ?_;exact⟨M,(ofG 17 (kAB a (w64 (b+1)) []),[]),Nat.lt_succ_self _,(Sub.refl _),_,rfl,g2⟩
   refine Goes.exit ?_;obtain rfl:=si g2;exact Or.inl (⟨rfl,rfl,(Sub.keep [0] rfl rfl)⟩)
 rintro x s' (⟨rfl,rfl,hsub⟩|⟨rfl,k,rfl,hret⟩)
 ·try dsimp only at h
  refine Goes.sub hsub ?_;refine sh fol (kBA (a.length:Int)) ?_;refine Goes.ret ?_;obtain rfl:=si h;exact(gw2 [.i (a.length:Int)] (Ua tI))
 try dsimp only at h
 obtain rfl:=si h;exact hret
def xA:Nat->(List Int)->Option (List Int)
 |0,_=>none
 |K+1,a=>
  (if(a.length:Int)>0 then
  (idx a (w64 ((a.length:Int)-1))).bind fun b=>
  some (decide (b=0))
  else
  some false:Option Bool).bind fun c=>
  if c=true then
  (cut a 0 (w64 ((a.length:Int)-1))).bind fun d=>
  xA K d
  else
  some a
def yR (N:Nat) (w:List Int):Option (List Int):=
 (xA N w).bind fun a=>
 some a
theorem xw (N:Nat) (w:List Int) {res:List Int} (h:yR N w=some res):qd ZT (.fn 201) [vl encI w] [] (vl encI res) []:=by
 unfold yR at h;refine Ub Tryz.func201 rfl rfl (m:=21) rfl (rs:=[.tmp 2]) rfl (l:=(kBI w [])) rfl ?_;refine sh fol (kBI w []) ?_;refine sq (Goes.block ?_);obtain⟨j,g3,h⟩:=bnd h;refine Goes.imp (Q:=fun x s'=>(x= .exit 0/\ ∃d,d=j/\Sub s' (ofG 21 (kBI d []),[]))) ?_ ?_
 ·refine Uc (fun M s=> ∃(b:List Int),s=(ofG 21 (kBI b []),[])/\xA M b=some j) ?_ (m:=N) ⟨_,rfl,g3⟩;rintro M s ⟨b,rfl,g3⟩
  cases M with
  |zero=>simp only[xA]at g3;cases g3
  |succ M=>
   rw[xA]at g3;refine sq ?_;refine sq ?_;obtain⟨k,a,g3⟩:=bnd g3;refine Goes.cut (s':=(ofG 21 (kBI b [(14,.bool k)]),[])) ?_ ?_
   ·rcases wyD a with⟨f,a⟩|⟨f,a⟩
    ·obtain⟨n,c,a⟩:=bnd a;obtain rfl:=si a;exact tr fol [3,8,9] (kBI b [(14,.bool (decide (n=0)))]) (ac (gw f) (ac (iv vZ encI c) (ac (lv 0 ce3 encI c rfl) az)))
    obtain rfl:=si a;exact tr fol [3] (kBI b [(14,.bool false)]) (ac (gw f) az)
   refine ihB g3 (fun o g3=>?_) (fun o g3=>?_)
   ·refine Goes.skip ?_;refine Goes.block ?_;obtain⟨g,e,g3⟩:=bnd g3;refine gr fol [4] (kBI g []) (ac (hs (.done (.opt (kr ZT 80 (vl encI b) none (some (.i (w64 ((b.length:Int)-1)))) none)) (vl encI g)) (qjo vZ (E:=encI) rfl none (some (w64 ((b.length:Int)-1))) e)) az) ?_;exact⟨M,(ofG 21 (kBI g []),[]),Nat.lt_succ_self _,(Sub.refl _),_,rfl,g3⟩
   refine Goes.exit ?_;obtain rfl:=si g3;exact⟨rfl,_,rfl,(Sub.keep [0] rfl rfl)⟩
 rintro x s' ⟨rfl,d,rfl,hsub⟩;refine Goes.sub hsub ?_;refine sh fol [(2,vl encI d)] ?_;refine Goes.ret ?_;obtain rfl:=si h;exact(gw2 [vl encI d] (Ua (qA encI _ (nl rfl))))
def ja (N:Nat) (neg:Bool) (w:List Int):Option qM:=
 (yR N w).bind fun a=>
 (if neg=true then
 some (decide ((a.length:Int)>0))
 else
 some false:Option Bool).bind fun b=>
 some (⟨b,a⟩:qM)
theorem jw (N:Nat) (neg:Bool) (w:List Int) {res:qM} (h:ja N neg w=some res):qd ZT (.fn 140) (kAh neg w) [] (.agg (kAh res.neg res.w)) []:=by
 unfold ja at h;refine Ub Tryz.func140 rfl rfl (m:=15) rfl (rs:=[.cell 4 126]) rfl (l:=[(0,.bool neg),(1,vl encI w)]) rfl ?_;refine sg fol ((0,.bool neg)::(1,vl encI w)::(kAa [])) (kP []) ?_;obtain⟨b,c,h⟩:=bnd h;refine sq (gr fol [1] ((0,.bool neg)::(1,vl encI b)::(kAa [])) (ac (cv (xw N w c)) az) ?_);refine sq ?_;obtain⟨e,a,h⟩:=bnd h;refine Goes.cut (s':=(ofG 15 (kAa []),(kAW e b []))) ?_ ?_
 ·rcases wyB a with⟨d,a⟩|⟨d,a⟩
  ·obtain rfl:=si a;exact qaO.rq fol [1] (kAa []) (kAW (decide ((b.length:Int)>0)) b []) (ac (gw d) az)
  obtain rfl:=si a;exact qaO.rq fol [1] (kAa []) [.cells [.bool false,vl encI b]] (ac (gw d) az)
 refine Goes.ret ?_;obtain rfl:=si h;exact(gw2 [.agg (kAh e b)] (FzW.agg (qj.cons (Ua tB) (qj.cons (Ua (qA encI _ (nl rfl))) qj.nil))))
def yh:Nat->(List Int)->Int->Option (List Int)
 |0,_,_=>none
 |K+1,b,a=>
  if(!decide (a=0))=true then
  ((if(a.tmod 1000000000)<0 then
  some (w64 (0-(a.tmod 1000000000)))
  else
  some (a.tmod 1000000000):Option Int)).bind fun c=>
  (app 8 b [c]).bind fun d=>
  yh K d (w64 (a.tdiv 1000000000))
  else
  some b
def qaw (N:Nat) (n:Int):Option qM:=
 (yh N ([]:List Int) n).bind fun b=>
 (ja N (decide (n<0)) b).bind fun a=>
 some a
theorem qcN (N:Nat) (n:Int) {res:qM} (h:qaw N n=some res):qd ZT (.fn 133) [.i n] [] (.agg (kAh res.neg res.w)) []:=by
 unfold qaw at h;refine Ub Tryz.func133 rfl rfl (m:=25) rfl (rs:=[.cell 2 126]) rfl (l:=[(0,.i n)]) rfl ?_;refine sg fol ((0,.i n)::(kU [])) (kP []) ?_;refine sh fol ((0,.i n)::(kU [(3,.nilslice)])) ?_;refine sh fol ((0,.i n)::(kU ((3,.nilslice)::(kBQ (decide (n<0)))))) ?_;refine sq (Goes.block ?_);obtain⟨k,g4,h⟩:=bnd h;refine Goes.imp (Q:=fun x s'=>(x= .exit 0/\ ∃d,d=k/\Sub s' (ofG 25 (kU (kAn d (decide (n<0)) [])),(kP (kD d []))))) ?_ ?_
 ·refine Goes.sub (s':=(ofG 25 ((0,.i n)::(kU ((3,.gslice 1 ([]:List Int).length 1)::(kBQ (decide (n<0)))))),(kP kBC))) (Sub.norm [] [some 0,none] rfl rfl (.keep (.same nI) (.kp (.keep .nil (.keep (.same nB) .nil)))) (.kb rfl (.same sn) (.fresh .nil))) ?_;refine Uc (fun M s=> ∃(c:List Int) (b:Int),s=(ofG 25 ((0,.i b)::(kU (kAn c (decide (n<0)) []))),(kP (kD c [])))/\yh M c b=some k) ?_ (m:=N) ⟨_,_,rfl,g4⟩;rintro M s ⟨c,b,rfl,g4⟩
  cases M with
  |zero=>simp only[yh]at g4;cases g4
  |succ M=>
   rw[yh]at g4;refine sq ?_;refine sh fol ((0,.i b)::(kU (kAn c (decide (n<0)) [(9,.bool (!decide (b=0)))]))) ?_;refine ihB g4 (fun o g4=>?_) (fun o g4=>?_)
   ·refine Goes.skip ?_;refine Goes.block ?_;refine sh fol ((0,.i b)::(kU (kAn c (decide (n<0)) (kA8 (b.tmod 1000000000))))) ?_;refine sq ?_;refine sh fol ((0,.i b)::(kU (kAn c (decide (n<0)) ((5,.i (b.tmod 1000000000))::(kBE (decide ((b.tmod 1000000000)<0))))))) ?_;obtain⟨p,g7,g4⟩:=bnd g4;refine Goes.imp (Q:=fun x s'=>(x= .normal/\ ∃e,e=p/\Sub s' (ofG 25 ((0,.i b)::(kU (kAn c (decide (n<0)) (kA8 e)))),(kP (kD c []))))) ?_ ?_
    ·refine ihD g7 (fun q g7=>?_) (fun q g7=>?_)
     ·refine gh fol ((0,.i b)::(kU (kAn c (decide (n<0)) (kA8 (w64 (0-(b.tmod 1000000000))))))) ?_;obtain rfl:=si g7;exact⟨rfl,_,rfl,(Sub.refl _)⟩
     refine Goes.skip ?_;obtain rfl:=si g7;exact⟨rfl,_,rfl,(Sub.keep [0,2,3,4,5] rfl rfl)⟩
    rintro x s' ⟨rfl,e,rfl,hsub⟩;refine Goes.sub hsub ?_;obtain⟨f,j,g4⟩:=bnd g4;refine sq (gq fol [3] ((0,.i b)::(kU ((3,.gslice 3 f.length 1)::(kBQ (decide (n<0)))))) (kP (kBG e (kD f []))) (ac (hs (.run [1,2] (xC ZT [80,80] (.gslice 1 c.length 1) (.slice 2 0 1 1 1)) (kP (kD c [.cells [.i e]])) (.gslice 3 f.length 1) (kP (kBG e (kD f []))) true) (qbX vZ (E:=encI) rfl (qhO (E:=encI) (ys:=[e]) rfl rfl rfl rfl) (qjK (E:=encI) (l:=c) rfl rfl rfl j rfl))) az) ?_);refine gh fol ((0,.i (w64 (b.tdiv 1000000000)))::(kU ((3,.gslice 3 f.length 1)::(kBQ (decide (n<0)))))) ?_;exact⟨M,(ofG 25 ((0,.i (w64 (b.tdiv 1000000000)))::(kU (kAn f (decide (n<0)) []))),(kP (kD f []))),Nat.lt_succ_self _,(Sub.norm [] [some 0,some 3] rfl rfl (.keep (.same nI) (.kp (.keep (.gslice rfl) (.keep (.same nB) .nil)))) (.kb rfl (.same sn) (.ks .nil))),_,_,rfl,g4⟩
   refine Goes.exit ?_;obtain rfl:=si g4;exact⟨rfl,_,rfl,(Sub.keep [2,3,4] rfl rfl)⟩
 rintro x s' ⟨rfl,d,rfl,hsub⟩;refine Goes.sub hsub ?_;obtain⟨a,g,h⟩:=bnd h;refine sq (gq fol [2] (kU []) (kAW a.neg a.w (kAY d)) (ac (hs (.callF 140 [.bool (decide (n<0)),.gslice 1 d.length 1] (kP (kD d [])) [1] (kAh (decide (n<0)) d) (.agg (kAh a.neg a.w))) (qax (FzL.cons (Uf tB) (FzL.cons (Fz.gs (E:=encI) rfl rfl (nl rfl)) FzL.nil)) (jw N (decide (n<0)) d g) (Still.agg (AllST.cons tB (AllST.cons (qA encI _ (nl rfl)) AllST.nil))))) az) ?_);refine Goes.sub (show Sub (ofG 25 (kU []),(kAW a.neg a.w (kAY d))) (ofG 25 (kU []),(kAW a.neg a.w []))from(Sub.norm [] [some 0] rfl rfl (.kp .nil) (.kb rfl (.same sn) .nil))) ?_;refine Goes.ret ?_;obtain rfl:=si h;exact(gw2 [.agg (kAh a.neg a.w)] (FzW.agg (qj.cons (Ua tB) (qj.cons (Ua (qA encI _ (nl rfl))) qj.nil))))
def vR (a:Str):Nat->Int->Int->Option Int
 |0,_,_=>none
 |K+1,c,b=>
  if b<(a.length:Int)then
  (idx a b).bind fun d=>
  vR a K (w64 ((w64 ((w64 (10*c))+(w64 (d.toNat:Int))))-48)) (w64 (b+1))
  else
  some c
def xW (N:Nat) (a:Str):Option Int:=
 (vR a N 0 0).bind fun b=>
 some b
theorem qbA (N:Nat) (a:Str) {res:Int} (h:xW N a=some res):qd ZT (.fn 132) [.str a] [] (.i res) []:=by
 unfold xW at h;refine Ub Tryz.func132 rfl rfl (m:=20) rfl (rs:=[.tmp 2]) rfl (l:=(kAI a)) rfl ?_;refine sh fol (kAI a) ?_;refine sh fol (kA4 a [(3,.i 0)]) ?_;refine sq ?_;refine sh fol (kA4 a [(3,.i 0),(4,.i 0)]) ?_;refine Goes.block ?_;obtain⟨g,g4,h⟩:=bnd h;refine Goes.imp (Q:=fun x s'=>(x= .exit 0/\ ∃d,d=g/\Sub s' (ofG 20 [(3,.i d)],[]))) ?_ ?_
 ·refine Uc (fun M s=> ∃(c:Int) (b:Int),s=(ofG 20 (kAB a c (kBZ b)),[])/\vR a M c b=some g) ?_ (m:=N) ⟨_,_,rfl,g4⟩;rintro M s ⟨c,b,rfl,g4⟩
  cases M with
  |zero=>simp only[vR]at g4;cases g4
  |succ M=>
   rw[vR]at g4;refine sq ?_;refine sh fol (kAB a c ((4,.i b)::(kBY (decide (b<(a.length:Int)))))) ?_;refine ihD g4 (fun j g4=>?_) (fun j g4=>?_)
   ·refine Goes.skip ?_;refine sq (Goes.block ?_);obtain⟨f,e,g4⟩:=bnd g4;refine gr fol [4] (kAB a (w64 ((w64 ((w64 (10*c))+(w64 (f.toNat:Int))))-48)) (kBZ b)) (ac (hs (.done (.opt (yV ZT 9 (.str a) (.i b))) (.int .u8 (f.toNat:Int))) (qau st9 e)) az) ?_;refine gh fol (kAB a (w64 ((w64 ((w64 (10*c))+(w64 (f.toNat:Int))))-48)) (kBZ (w64 (b+1)))) ?_;exact⟨M,(ofG 20 (kAB a (w64 ((w64 ((w64 (10*c))+(w64 (f.toNat:Int))))-48)) (kBZ (w64 (b+1)))),[]),Nat.lt_succ_self _,(Sub.refl _),_,_,rfl,g4⟩
   refine Goes.exit ?_;obtain rfl:=si g4;exact⟨rfl,_,rfl,(Sub.keep [3] rfl rfl)⟩
 rintro x s' ⟨rfl,d,rfl,hsub⟩;refine Goes.sub hsub ?_;refine sh fol (kBA d) ?_;refine Goes.ret ?_;obtain rfl:=si h;exact(gw2 [.i d] (Ua tI))
def yP (N:Nat):Nat->(List Int)->Str->Option ((List Int)×Str)
 |0,_,_=>none
 |K+1,f,a=>
  if(a.length:Int)>9 then
  (cut a (w64 ((a.length:Int)-9)) (a.length:Int)).bind fun b=>
  (xW N b).bind fun c=>
  (app 8 f [c]).bind fun d=>
  (cut a 0 (w64 ((a.length:Int)-9))).bind fun e=>
  yP N K d e
  else
  some (f,a)
def qaH (N:Nat) (a:Str):Option qM:=
 (if(a.length:Int)>0 then
 (idx a 0).bind fun h=>
 some (decide ((h.toNat:Int)=45))
 else
 some false:Option Bool).bind fun g=>
 ((if g=true then
 (cut a 1 (a.length:Int)).bind fun i=>
 some i
 else
 some a:Option Str)).bind fun j=>
 (yP N N ([]:List Int) j).bind fun(b,c)=>
 (xW N c).bind fun d=>
 (app 8 b [d]).bind fun e=>
 (ja N g e).bind fun f=>
 some f
theorem qcE (N:Nat) (k:Str) {res:qM} (h:qaH N k=some res):qd ZT (.fn 136) [.str k] [] (.agg (kAh res.neg res.w)) []:=by
 unfold qaH at h;refine Ub Tryz.func136 rfl rfl (m:=40) rfl (rs:=[.cell 2 126]) rfl (l:=(kAI k)) rfl ?_;refine sg fol (kA4 k (kU [])) (kP []) ?_;refine sq ?_;obtain⟨e,b,h⟩:=bnd h;refine Goes.cut (s':=(ofG 40 (kA4 k (kU (kBR e []))),(kP []))) ?_ ?_
 ·rcases wyD b with⟨H,b⟩|⟨H,b⟩
  ·obtain⟨J,B,b⟩:=bnd b;obtain rfl:=si b;exact tr fol [3,5] (kA4 k (kU (kBR (decide ((J.toNat:Int)=45)) []))) (ac (gw H) (ac (hs (.done (.opt (yV ZT 9 (.str k) (.i 0))) (.int .u8 (J.toNat:Int))) (qau st9 B)) az))
  obtain rfl:=si b;exact tr fol [3] (kA4 k (kU [(3,.bool false)])) (ac (gw H) az)
 refine sq ?_;refine sh fol (kA4 k (kU (kBR e (kBE e)))) ?_;obtain⟨L,g6,h⟩:=bnd h;refine Goes.imp (Q:=fun x s'=>(x= .normal/\ ∃C,C=L/\Sub s' (ofG 40 (kA4 C (kU (kBR e []))),(kP [])))) ?_ ?_
 ·refine ihB g6 (fun O g6=>?_) (fun O g6=>?_)
  ·obtain⟨K,D,g6⟩:=bnd g6;refine gr fol [1] (kA4 K (kU (kBR e []))) (ac (hs (.done (.opt (kr ZT 9 (.str k) (some (.i 1)) none none)) (.str K)) (jA st9 (some 1) none D)) az) ?_;obtain rfl:=si g6;exact⟨rfl,_,rfl,(Sub.refl _)⟩
  refine Goes.skip ?_;obtain rfl:=si g6;exact⟨rfl,_,rfl,(Sub.keep [0,2,3] rfl rfl)⟩
 rintro x s' ⟨rfl,C,rfl,hsub⟩;refine Goes.sub hsub ?_;refine sh fol (kA4 C (kU (kBR e [(4,.nilslice)]))) ?_;refine sq (Goes.block ?_);obtain⟨F,g13,h⟩:=bnd h;refine Goes.imp (Q:=fun x s'=>(x= .exit 0/\ ∃f n,(f,n)=F/\Sub s' (ofG 40 (kA4 n (kU (kBR e [(4,.gslice 1 f.length 1)]))),(kP (kD f []))))) ?_ ?_
 ·refine Goes.sub (s':=(ofG 40 (kA4 C (kU (kBR e [(4,.gslice 1 ([]:List Int).length 1)]))),(kP kBC))) (Sub.norm [] [some 0,none] rfl rfl (.keep (.same nS) (.kp (.keep (.same nB) (.keep .nil .nil)))) (.kb rfl (.same sn) (.fresh .nil))) ?_;refine Uc (fun M s=> ∃(p:List Int) (a:Str),s=(ofG 40 (kA4 a (kU (kBR e [(4,.gslice 1 p.length 1)]))),(kP (kD p [])))/\yP N M p a=some F) ?_ (m:=N) ⟨_,_,rfl,g13⟩;rintro M s ⟨p,a,rfl,g13⟩
  cases M with
  |zero=>simp only[yP]at g13;cases g13
  |succ M=>
   rw[yP]at g13;refine sq ?_;refine sh fol (kA4 a (kU (kBR e [(4,.gslice 1 p.length 1),(18,.bool (decide ((a.length:Int)>9)))]))) ?_;refine ihD g13 (fun I g13=>?_) (fun I g13=>?_)
   ·refine Goes.skip ?_;refine Goes.block ?_;obtain⟨G,q,g13⟩:=bnd g13;obtain⟨o,r,g13⟩:=bnd g13;obtain⟨g,t,g13⟩:=bnd g13;refine sq (gq fol [5,6,8] (kA4 a (kU (kBR e [(4,.gslice 3 g.length 1)]))) (kP (kBG o (kD g []))) (ac (hs (.done (.opt (kr ZT 9 (.str a) (some (.i (w64 ((a.length:Int)-9)))) none none)) (.str G)) (jA st9 (some (w64 ((a.length:Int)-9))) none q)) (ac (cv (qbA N G r)) (ac (hs (.run [1,2] (xC ZT [80,80] (.gslice 1 p.length 1) (.slice 2 0 1 1 1)) (kP (kD p [.cells [.i o]])) (.gslice 3 g.length 1) (kP (kBG o (kD g []))) true) (qbX vZ (E:=encI) rfl (qhO (E:=encI) (ys:=[o]) rfl rfl rfl rfl) (qjK (E:=encI) (l:=p) rfl rfl rfl t rfl))) az))) ?_);obtain⟨u,v,g13⟩:=bnd g13;refine gr fol [4] (kA4 u (kU (kBR e [(4,.gslice 3 g.length 1)]))) (ac (hs (.done (.opt (kr ZT 9 (.str a) none (some (.i (w64 ((a.length:Int)-9)))) none)) (.str u)) (jA st9 none (some (w64 ((a.length:Int)-9))) v)) az) ?_;exact⟨M,(ofG 40 (kA4 u (kU (kBR e [(4,.gslice 1 g.length 1)]))),(kP (kD g []))),Nat.lt_succ_self _,(Sub.norm [] [some 0,some 3] rfl rfl (.keep (.same nS) (.kp (.keep (.same nB) (.keep (.gslice rfl) .nil)))) (.kb rfl (.same sn) (.ks .nil))),_,_,rfl,g13⟩
   refine Goes.exit ?_;obtain rfl:=si g13;exact⟨rfl,_,_,rfl,(Sub.keep [0,2,3,4] rfl rfl)⟩
 rintro x s' ⟨rfl,f,n,rfl,hsub⟩
 try dsimp only at h
 refine Goes.sub hsub ?_;obtain⟨j,y,h⟩:=bnd h;obtain⟨d,z,h⟩:=bnd h;obtain⟨c,A,h⟩:=bnd h;refine sq (gq fol [3,5,6] (kU []) (kAW c.neg c.w (kBG j (kAY d))) (ac (cv (qbA N n y)) (ac (hs (.run [1,2] (xC ZT [80,80] (.gslice 1 f.length 1) (.slice 2 0 1 1 1)) (kP (kD f [.cells [.i j]])) (.gslice 3 d.length 1) (kP (kBG j (kD d []))) true) (qbX vZ (E:=encI) rfl (qhO (E:=encI) (ys:=[j]) rfl rfl rfl rfl) (qjK (E:=encI) (l:=f) rfl rfl rfl z rfl))) (ac (hs (.callF 140 [.bool e,.gslice 3 d.length 1] (kP (kBG j (kD d []))) [3] (kAh e d) (.agg (kAh c.neg c.w))) (qax (FzL.cons (Uf tB) (FzL.cons (Fz.gs (E:=encI) rfl rfl (nl rfl)) FzL.nil)) (jw N e d A) (Still.agg (AllST.cons tB (AllST.cons (qA encI _ (nl rfl)) AllST.nil))))) az))) ?_);refine Goes.sub (show Sub (ofG 40 (kU []),(kAW c.neg c.w (kBG j (kAY d)))) (ofG 40 (kU []),(kAW c.neg c.w []))from(Sub.norm [] [some 0] rfl rfl (.kp .nil) (.kb rfl (.same sn) .nil))) ?_;refine Goes.ret ?_;obtain rfl:=si h;exact(gw2 [.agg (kAh c.neg c.w)] (FzW.agg (qj.cons (Ua tB) (qj.cons (Ua (qA encI _ (nl rfl))) qj.nil))))
def jV (N:Nat) (a:Str):Option (qM×qM):=
 (xm N a).bind fun b=>
 if b=(a.length:Int)then
 (qaH N a).bind fun c=>
 (qaw N 1).bind fun d=>
 some (c,d)
 else
 (cut a 0 b).bind fun e=>
 (qaH N e).bind fun f=>
 (cut a (w64 (b+1)) (a.length:Int)).bind fun g=>
 (qaH N g).bind fun h=>
 some (f,h)
theorem xH (N:Nat) (a:Str) {res:qM×qM} (h:jV N a=some res):qd ZT (.fn 71) [.str a] [] (.tuple (kAt res.1.neg res.1.w res.2.neg res.2.w)) []:=by
 unfold jV at h;refine Ub Tryz.func71 rfl rfl (m:=25) rfl (rs:=[.cell 2 126,.cell 3 126]) rfl (l:=(kAI a)) rfl ?_;refine sg fol (kA4 a (kU (kAV []))) (kP (kP [])) ?_;refine sh fol (kU (kAV (kBb a))) ?_;obtain⟨b,c,h⟩:=bnd h;refine sq (gr fol [1] (kU (kAV ((4,.str a)::(kA8 b)))) (ac (cv (qaA N a c)) az) ?_);refine sq ?_;refine sh fol (kU (kAV ((4,.str a)::(5,.i b)::(kA0 (decide (b=(a.length:Int))))))) ?_;refine ihD h (fun t h=>?_) (fun t h=>?_)
 ·obtain⟨n,d,h⟩:=bnd h;obtain⟨o,e,h⟩:=bnd h;refine sq (gq fol [1,2] (kU (kAV [])) (kL n.neg n.w o.neg o.w []) (ac (cv (qcE N a d)) (ac (cv (qcN N 1 e)) az)) ?_);refine Goes.ret ?_;obtain rfl:=si h;exact(gw2 (kAt n.neg n.w o.neg o.w) (FzW.tuple (qj.cons (FzW.agg (qj.cons (Ua tB) (qj.cons (Ua (qA encI _ (nl rfl))) qj.nil))) (qj.cons (FzW.agg (qj.cons (Ua tB) (qj.cons (Ua (qA encI _ (nl rfl))) qj.nil))) qj.nil))))
 refine Goes.skip ?_;obtain⟨r,f,h⟩:=bnd h;obtain⟨p,g,h⟩:=bnd h;obtain⟨s,j,h⟩:=bnd h;obtain⟨q,k,h⟩:=bnd h;refine sq (gq fol [2,3,7,8] (kU (kAV [])) (kL p.neg p.w q.neg q.w []) (ac (hs (.done (.opt (kr ZT 9 (.str a) none (some (.i b)) none)) (.str r)) (jA st9 none (some b) f)) (ac (cv (qcE N r g)) (ac (hs (.done (.opt (kr ZT 9 (.str a) (some (.i (w64 (b+1)))) none none)) (.str s)) (jA st9 (some (w64 (b+1))) none j)) (ac (cv (qcE N s k)) az)))) ?_);refine Goes.ret ?_;obtain rfl:=si h;exact(gw2 (kAt p.neg p.w q.neg q.w) (FzW.tuple (qj.cons (FzW.agg (qj.cons (Ua tB) (qj.cons (Ua (qA encI _ (nl rfl))) qj.nil))) (qj.cons (FzW.agg (qj.cons (Ua tB) (qj.cons (Ua (qA encI _ (nl rfl))) qj.nil))) qj.nil))))
def j6 (a:Str):Nat->Int->Option (Unit⊕Bool)
 |0,_=>none
 |K+1,b=>
  if b<(a.length:Int)then
  ((idx a b).bind fun c=>
  if(c.toNat:Int)<48 then
  some true
  else
  some (decide ((c.toNat:Int)>57)):Option Bool).bind fun d=>
  if d=true then
  some (.inr false)
  else
  j6 a K (w64 (b+1))
  else
  some (.inl ())
def qbp (N:Nat) (b:Str):Option Bool:=
 (j6 b N 0).bind (fun
 |(.inl ())=>
 some true
 |(.inr a)=>
 some a)
theorem qhm (N:Nat) (b:Str) {res:Bool} (h:qbp N b=some res):qd ZT (.fn 148) [.str b] [] (.bool res) []:=by
 unfold qbp at h;refine Ub Tryz.func148 rfl rfl (m:=20) rfl (rs:=[.tmp 2]) rfl (l:=(kAI b)) rfl ?_;refine sh fol (kAI b) ?_;refine sq ?_;refine sh fol (kA4 b [(3,.i 0)]) ?_;refine Goes.block ?_;obtain⟨f,g2,h⟩:=bnd h;refine Goes.imp (Q:=fun x s'=>(x= .exit 0/\(.inl ())=f/\Sub s' (ofG 20 [],[]))\/(x= .ret/\ ∃j,(.inr j)=f/\jb ZT [.tmp 2] (.bool j) .ret s')) ?_ ?_
 ·refine Uc (fun M s=> ∃(c:Int),s=(ofG 20 (kAB b c []),[])/\j6 b M c=some f) ?_ (m:=N) ⟨_,rfl,g2⟩;rintro M s ⟨c,rfl,g2⟩
  cases M with
  |zero=>simp only[j6]at g2;cases g2
  |succ M=>
   rw[j6]at g2;refine sq ?_;refine sh fol (kAB b c [(7,.bool (decide (c<(b.length:Int))))]) ?_;refine ihD g2 (fun k g2=>?_) (fun k g2=>?_)
   ·refine Goes.skip ?_;refine sq (Goes.block ?_);refine sq ?_;obtain⟨n,a,g2⟩:=bnd g2;refine Goes.cut (s':=(ofG 20 (kAB b c [(19,.bool n)]),[])) ?_ ?_
    ·obtain⟨e,d,a⟩:=bnd a;rcases wyD a with⟨g,a⟩|⟨g,a⟩
     ·obtain rfl:=si a;exact tr fol [2,4] (kAB b c [(19,.bool true)]) (ac (hs (.done (.opt (yV ZT 9 (.str b) (.i c))) (.int .u8 (e.toNat:Int))) (qau st9 d)) (ac (gw g) az))
     obtain rfl:=si a;exact tr fol [2,4,7] (kAB b c [(19,.bool (decide ((e.toNat:Int)>57)))]) (ac (hs (.done (.opt (yV ZT 9 (.str b) (.i c))) (.int .u8 (e.toNat:Int))) (qau st9 d)) (ac (gw g) (ac (hs (.done (.opt (yV ZT 9 (.str b) (.i c))) (.int .u8 (e.toNat:Int))) (qau st9 d)) az)))
    refine ihB g2 (fun o g2=>?_) (fun o g2=>?_)
    ·refine sh fol kAc ?_;refine Goes.ret ?_;obtain rfl:=si g2;exact Or.inr (⟨rfl,_,rfl,(gw2 [.bool false] (Ua tB))⟩)
    refine Goes.skip ?_;refine gh fol (kAB b (w64 (c+1)) []) ?_;exact⟨M,(ofG 20 (kAB b (w64 (c+1)) []),[]),Nat.lt_succ_self _,(Sub.refl _),_,rfl,g2⟩
   refine Goes.exit ?_;obtain rfl:=si g2;exact Or.inl (⟨rfl,rfl,(Sub.keep [] rfl rfl)⟩)
 rintro x s' (⟨rfl,rfl,hsub⟩|⟨rfl,p,rfl,hret⟩)
 ·try dsimp only at h
  refine Goes.sub hsub ?_;refine sh fol kBP ?_;refine Goes.ret ?_;obtain rfl:=si h;exact(gw2 [.bool true] (Ua tB))
 try dsimp only at h
 obtain rfl:=si h;exact hret
def jR (N:Nat) (a:Str):Option Bool:=
 (if(a.length:Int)=0 then
 some true
 else
 if(a.length:Int)>1 then
 (idx a 0).bind fun b=>
 some (decide ((b.toNat:Int)=48))
 else
 some false:Option Bool).bind fun c=>
 if c=true then
 some false
 else
 (qbp N a).bind fun d=>
 some d
theorem jF (N:Nat) (b:Str) {res:Bool} (h:jR N b=some res):qd ZT (.fn 83) [.str b] [] (.bool res) []:=by
 unfold jR at h;refine Ub Tryz.func83 rfl rfl (m:=18) rfl (rs:=[.tmp 2]) rfl (l:=(kAI b)) rfl ?_;refine sh fol (kAI b) ?_;refine sq ?_;refine sq ?_;obtain⟨k,a,h⟩:=bnd h;refine Goes.cut (s':=(ofG 18 (kA4 b [(15,.bool k)]),[])) ?_ ?_
 ·rcases wyD a with⟨e,a⟩|⟨e,a⟩
  ·obtain rfl:=si a;exact tr fol [3] (kA4 b [(15,.bool true)]) (ac (gw e) az)
  rcases wyD a with⟨f,a⟩|⟨f,a⟩
  ·obtain⟨g,c,a⟩:=bnd a;obtain rfl:=si a;exact tr fol [3,7,9] (kA4 b [(15,.bool (decide ((g.toNat:Int)=48)))]) (ac (gw e) (ac (gw f) (ac (hs (.done (.opt (yV ZT 9 (.str b) (.i 0))) (.int .u8 (g.toNat:Int))) (qau st9 c)) az)))
  obtain rfl:=si a;exact tr fol [3,7] (kA4 b [(15,.bool false)]) (ac (gw e) (ac (gw f) az))
 refine ihB h (fun n h=>?_) (fun n h=>?_)
 ·refine sh fol kAc ?_;refine Goes.ret ?_;obtain rfl:=si h;exact(gw2 [.bool false] (Ua tB))
 refine Goes.skip ?_;obtain⟨j,d,h⟩:=bnd h;refine sq (gr fol [1] (kBL j) (ac (cv (qhm N b d)) az) ?_);refine Goes.ret ?_;obtain rfl:=si h;exact(gw2 [.bool j] (Ua tB))
def kz (a:List Int) (b:List Int):Nat->Int->Option (Unit⊕Int)
 |0,_=>none
 |K+1,c=>
  if c>=0 then
  (idx a c).bind fun d=>
  (idx b c).bind fun e=>
  if d<e then
  some (.inr (-1))
  else
  if d>e then
  some (.inr 1)
  else
  kz a b K (w64 (c-1))
  else
  some (.inl ())
def jT (N:Nat) (a:List Int) (b:List Int):Option Int:=
 if(!decide ((a.length:Int)=(b.length:Int)))=true then
 if(a.length:Int)<(b.length:Int)then
 some (-1)
 else
 some 1
 else
 (kz a b N (w64 ((a.length:Int)-1))).bind (fun
 |(.inl ())=>
 some 0
 |(.inr c)=>
 some c)
theorem qbq (N:Nat) (a:List Int) (b:List Int) {res:Int} (h:jT N a b=some res):qd ZT (.fn 142) (kBO a b) [] (.i res) []:=by
 unfold jT at h;refine Ub Tryz.func142 rfl rfl (m:=41) rfl (rs:=[.tmp 4]) rfl (l:=(kH a b [])) rfl ?_;refine sh fol (kH a b []) ?_;refine sq ?_;refine sh fol (kH a b [(10,.bool (!decide ((a.length:Int)=(b.length:Int))))]) ?_;refine ihB h (fun o h=>?_) (fun o h=>?_)
 ·refine sq ?_;refine sh fol [(15,.bool (decide ((a.length:Int)<(b.length:Int))))] ?_;refine ihD h (fun p h=>?_) (fun p h=>?_)
  ·refine sh fol [(4,.i (-1))] ?_;refine Goes.ret ?_;obtain rfl:=si h;exact(gw2 [.i (-1)] (Ua tI))
  refine Goes.skip ?_;refine sh fol [(4,.i 1)] ?_;refine Goes.ret ?_;obtain rfl:=si h;exact(gw2 [.i 1] (Ua tI))
 refine Goes.skip ?_;refine sq ?_;refine sh fol (kH a b (kA8 (w64 ((a.length:Int)-1)))) ?_;refine Goes.block ?_;obtain⟨f,g4,h⟩:=bnd h;refine Goes.imp (Q:=fun x s'=>(x= .exit 0/\(.inl ())=f/\Sub s' (ofG 41 [],[]))\/(x= .ret/\ ∃j,(.inr j)=f/\jb ZT [.tmp 4] (.i j) .ret s')) ?_ ?_
 ·refine Uc (fun M s=> ∃(e:Int),s=(ofG 41 (kH a b (kA8 e)),[])/\kz a b M e=some f) ?_ (m:=N) ⟨_,rfl,g4⟩;rintro M s ⟨e,rfl,g4⟩
  cases M with
  |zero=>simp only[kz]at g4;cases g4
  |succ M=>
   rw[kz]at g4;refine sq ?_;refine sh fol (kH a b [(5,.i e),(20,.bool (decide (e>=0)))]) ?_;refine ihD g4 (fun q g4=>?_) (fun q g4=>?_)
   ·refine Goes.skip ?_;refine sq (Goes.block ?_);refine sq ?_;obtain⟨k,c,g4⟩:=bnd g4;obtain⟨n,d,g4⟩:=bnd g4;refine sq (gr fol [2,3,6,7] (kH a b [(5,.i e),(31,.bool (decide (k<n)))]) (ac (iv vZ encI c) (ac (lv 0 ce3 encI c rfl) (ac (iv vZ encI d) (ac (lv 0 ce3 encI d rfl) az)))) ?_);refine ihD g4 (fun r g4=>?_) (fun r g4=>?_)
    ·refine sh fol [(4,.i (-1))] ?_;refine Goes.ret ?_;obtain rfl:=si g4;exact Or.inr (⟨rfl,_,rfl,(gw2 [.i (-1)] (Ua tI))⟩)
    refine Goes.skip ?_;refine sq (gr fol [2,3,6,7] (kH a b [(5,.i e),(40,.bool (decide (k>n)))]) (ac (iv vZ encI c) (ac (lv 0 ce3 encI c rfl) (ac (iv vZ encI d) (ac (lv 0 ce3 encI d rfl) az)))) ?_);refine ihD g4 (fun g g4=>?_) (fun g g4=>?_)
    ·refine sh fol [(4,.i 1)] ?_;refine Goes.ret ?_;obtain rfl:=si g4;exact Or.inr (⟨rfl,_,rfl,(gw2 [.i 1] (Ua tI))⟩)
    refine Goes.skip ?_;refine gh fol (kH a b (kA8 (w64 (e-1)))) ?_;exact⟨M,(ofG 41 (kH a b (kA8 (w64 (e-1)))),[]),Nat.lt_succ_self _,(Sub.refl _),_,rfl,g4⟩
   refine Goes.exit ?_;obtain rfl:=si g4;exact Or.inl (⟨rfl,rfl,(Sub.keep [] rfl rfl)⟩)
 rintro x s' (⟨rfl,rfl,hsub⟩|⟨rfl,t,rfl,hret⟩)
 ·try dsimp only at h
  refine Goes.sub hsub ?_;refine sh fol [(4,.i 0)] ?_;refine Goes.ret ?_;obtain rfl:=si h;exact(gw2 [.i 0] (Ua tI))
 try dsimp only at h
 obtain rfl:=si h;exact hret
def zV (a:List Int) (b:List Int) (g:Int):Nat->(List Int)->Int->Int->Option ((List Int)×Int)
 |0,_,_,_=>none
 |K+1,h,i,c=>
  if c<(b.length:Int)then
  (idx h (w64 (g+c))).bind fun d=>
  (idx a g).bind fun e=>
  (idx b c).bind fun f=>
  (put h (w64 (g+c)) ((w64 ((w64 (d+(w64 (e*f))))+i)).tmod 1000000000)).bind fun j=>
  zV a b g K j (w64 ((w64 ((w64 (d+(w64 (e*f))))+i)).tdiv 1000000000)) (w64 (c+1))
  else
  some (h,i)
def zP (N:Nat) (a:List Int) (b:List Int):Nat->(List Int)->Int->Option (List Int)
 |0,_,_=>none
 |K+1,h,c=>
  if c<(a.length:Int)then
  (zV a b c N h 0 0).bind fun(d,e)=>
  (idx d (w64 (c+(b.length:Int)))).bind fun f=>
  (put d (w64 (c+(b.length:Int))) (w64 (f+e))).bind fun g=>
  zP N a b K g (w64 (c+1))
  else
  some h
def yC (N:Nat) (a:List Int) (b:List Int):Option (List Int):=
 (mk 8 (w64 ((a.length:Int)+(b.length:Int))) 0).bind fun d=>
 (zP N a b N d 0).bind fun e=>
 (yR N e).bind fun c=>
 some c
theorem qbi (N:Nat) (a:List Int) (b:List Int) {res:List Int} (h:yC N a b=some res):qd ZT (.fn 144) (kBO a b) [] (vl encI res) []:=by
 unfold yC at h;refine Ub Tryz.func144 rfl rfl (m:=72) rfl (rs:=[.tmp 4]) rfl (l:=(kH a b [])) rfl ?_;refine sh fol (kH a b []) ?_;obtain⟨H,I,h⟩:=bnd h;refine sq (gq fol [5] (kH a b (kE H [])) (kD H []) (ac (hs (.run [] (jK ZT 80 (.i (w64 ((a.length:Int)+(b.length:Int)))) (.i (w64 ((a.length:Int)+(b.length:Int))))) [] (.slice 0 0 H.length H.length 1) (kD H []) false) (qd2 vZ (E:=encI) (z:=0) rfl (by kernel_rfl) I rfl)) az) ?_);refine sq ?_;refine sh fol (kH a b (kE H [(6,.i 0)])) ?_;refine Goes.block ?_;obtain⟨L,g5,h⟩:=bnd h;refine Goes.imp (Q:=fun x s'=>(x= .exit 0/\ ∃t,t=L/\Sub s' (ofG 72 (kE t []),(kD t [])))) ?_ ?_
 ·refine Uc (fun M s=> ∃(D:List Int) (c:Int),s=(ofG 72 (kH a b (kE D [(6,.i c)])),(kD D []))/\zP N a b M D c=some L) ?_ (m:=N) ⟨_,_,rfl,g5⟩;rintro M s ⟨D,c,rfl,g5⟩
  cases M with
  |zero=>simp only[zP]at g5;cases g5
  |succ M=>
   rw[zP]at g5;refine sq ?_;refine sh fol (kH a b (kE D [(6,.i c),(19,.bool (decide (c<(a.length:Int))))])) ?_;refine ihD g5 (fun O g5=>?_) (fun O g5=>?_)
   ·refine Goes.skip ?_;refine sq (Goes.block ?_);refine sh fol (kH a b (kE D [(6,.i c),(7,.i 0)])) ?_;refine sq ?_;refine sh fol (kH a b (kE D [(6,.i c),(7,.i 0),(8,.i 0)])) ?_;refine Goes.block ?_;obtain⟨J,g12,g5⟩:=bnd g5;refine Goes.imp (Q:=fun x s'=>(x= .exit 2/\ ∃d u,(d,u)=J/\Sub s' (ofG 72 (kH a b (kE d (kAJ c u []))),(kD d [])))) ?_ ?_
    ·refine Uc (fun M s=> ∃(p:List Int) (r:Int) (o:Int),s=(ofG 72 (kH a b (kE p (kAJ c r [(8,.i o)]))),(kD p []))/\zV a b c M p r o=some J) ?_ (m:=N) ⟨_,_,_,rfl,g12⟩;rintro M s ⟨p,r,o,rfl,g12⟩
     cases M with
     |zero=>simp only[zV]at g12;cases g12
     |succ M=>
      rw[zV]at g12;refine sq ?_;refine sh fol (kH a b (kE p (kAJ c r [(8,.i o),(25,.bool (decide (o<(b.length:Int))))]))) ?_;refine ihD g12 (fun K g12=>?_) (fun K g12=>?_)
      ·refine Goes.skip ?_;refine sq (Goes.block ?_);obtain⟨e,f,g12⟩:=bnd g12;obtain⟨g,v,g12⟩:=bnd g12;obtain⟨j,w,g12⟩:=bnd g12;refine sq (gr fol [4,5,8,9,12,13] (kH a b (kE p ((6,.i c)::(kAr o (w64 ((w64 (e+(w64 (g*j))))+r)) [])))) (ac (hs (.done (.opt (ql ZT 80 (.slice 0 0 p.length p.length 1) (.i (w64 (c+o))))) (.ptr 0 ((w64 (c+o):Int).toNat*1+0))) (qa1 vZ f)) (ac (hs (.run [0] (jJ ZT 3 (.ptr 0 ((w64 (c+o):Int).toNat*1+0))) (kD p []) (.i e) (kD p []) false) (qdb ce3 (E:=encI) (l:=p) rfl rfl f (nl rfl) rfl)) (ac (iv vZ encI v) (ac (lv 0 ce3 encI v rfl) (ac (iv vZ encI w) (ac (lv 0 ce3 encI w rfl) az)))))) ?_);obtain⟨k,A,g12⟩:=bnd g12;refine sq (gq fol [6,7] (kH a b (kE p ((6,.i c)::(kAr o (w64 ((w64 (e+(w64 (g*j))))+r)) [])))) (kD k []) (ac (hs (.done (.opt (ql ZT 80 (.slice 0 0 p.length p.length 1) (.i (w64 (c+o))))) (.ptr 0 ((w64 (c+o):Int).toNat*1+0))) (qa1 vZ f)) (ac (hs (.run [0] (qx ZT 3 (.ptr 0 ((w64 (c+o):Int).toNat*1+0)) (.i ((w64 ((w64 (e+(w64 (g*j))))+r)).tmod 1000000000))) (kD p []) .undef (kD k []) true) (qaD (E:=encI) (l:=p) (y:=(w64 ((w64 (e+(w64 (g*j))))+r)).tmod 1000000000) rfl (show _=some 1 by kernel_rfl) rfl f rfl rfl rfl rfl rfl A rfl)) az)) ?_);refine Goes.sub (show Sub (ofG 72 (kH a b (kE p ((6,.i c)::(kAr o (w64 ((w64 (e+(w64 (g*j))))+r)) [])))),(kD k [])) (ofG 72 (kH a b (kE k ((6,.i c)::(kAr o (w64 ((w64 (e+(w64 (g*j))))+r)) [])))),(kD k []))from(Sub.norm [] [some 0] rfl rfl (.keep (.same (qg encI _)) (.keep (.same (qg encI _)) (.keep (.sliceE rfl (yE A)) (.keep (.same nI) (.keep (.same nI) (.keep (.same nI) .nil)))))) (.ks .nil))) ?_;refine gh fol (kH a b (kE k (kAJ c (w64 ((w64 ((w64 (e+(w64 (g*j))))+r)).tdiv 1000000000)) [(8,.i o)]))) ?_;refine gh fol (kH a b (kE k (kAJ c (w64 ((w64 ((w64 (e+(w64 (g*j))))+r)).tdiv 1000000000)) [(8,.i (w64 (o+1)))]))) ?_;exact⟨M,(ofG 72 (kH a b (kE k (kAJ c (w64 ((w64 ((w64 (e+(w64 (g*j))))+r)).tdiv 1000000000)) [(8,.i (w64 (o+1)))]))),(kD k [])),Nat.lt_succ_self _,(Sub.refl _),_,_,_,rfl,g12⟩
      refine Goes.exit ?_;obtain rfl:=si g12;exact⟨rfl,_,_,rfl,(Sub.keep [0,1,5,6,7] rfl rfl)⟩
    rintro x s' ⟨rfl,d,u,rfl,hsub⟩
    try dsimp only at g5
    refine Goes.sub hsub ?_;obtain⟨F,n,g5⟩:=bnd g5;obtain⟨q,B,g5⟩:=bnd g5;refine gq fol [10,11,14,15] (kH a b (kE d [(6,.i c)])) (kD q []) (ac (hs (.done (.opt (ql ZT 80 (.slice 0 0 d.length d.length 1) (.i (w64 (c+(b.length:Int)))))) (.ptr 0 ((w64 (c+(b.length:Int)):Int).toNat*1+0))) (qa1 vZ n)) (ac (hs (.run [0] (jJ ZT 3 (.ptr 0 ((w64 (c+(b.length:Int)):Int).toNat*1+0))) (kD d []) (.i F) (kD d []) false) (qdb ce3 (E:=encI) (l:=d) rfl rfl n (nl rfl) rfl)) (ac (hs (.done (.opt (ql ZT 80 (.slice 0 0 d.length d.length 1) (.i (w64 (c+(b.length:Int)))))) (.ptr 0 ((w64 (c+(b.length:Int)):Int).toNat*1+0))) (qa1 vZ n)) (ac (hs (.run [0] (qx ZT 3 (.ptr 0 ((w64 (c+(b.length:Int)):Int).toNat*1+0)) (.i (w64 (F+u)))) (kD d []) .undef (kD q []) true) (qaD (E:=encI) (l:=d) (y:=w64 (F+u)) rfl (show _=some 1 by kernel_rfl) rfl n rfl rfl rfl rfl rfl B rfl)) az)))) ?_;refine Goes.sub (show Sub (ofG 72 (kH a b (kE d [(6,.i c)])),(kD q [])) (ofG 72 (kH a b (kE q [(6,.i c)])),(kD q []))from(Sub.norm [] [some 0] rfl rfl (.keep (.same (qg encI _)) (.keep (.same (qg encI _)) (.keep (.sliceE rfl (yE B)) (.keep (.same nI) .nil)))) (.ks .nil))) ?_;refine gh fol (kH a b (kE q [(6,.i (w64 (c+1)))])) ?_;exact⟨M,(ofG 72 (kH a b (kE q [(6,.i (w64 (c+1)))])),(kD q [])),Nat.lt_succ_self _,(Sub.refl _),_,_,rfl,g5⟩
   refine Goes.exit ?_;obtain rfl:=si g5;exact⟨rfl,_,rfl,(Sub.keep [5] rfl rfl)⟩
 rintro x s' ⟨rfl,t,rfl,hsub⟩;refine Goes.sub hsub ?_;obtain⟨C,G,h⟩:=bnd h;refine sq (gq fol [1] [(4,vl encI C)] (kAY t) (ac (hs (.callF 201 [.slice 0 0 t.length t.length 1] (kD t []) [0] [vl encI t] (vl encI C)) (qax (FzL.cons (Fz.sl (E:=encI) rfl rfl (nl rfl)) FzL.nil) (xw N t G) (qA encI _ (nl rfl)))) az) ?_);refine Goes.sub (show Sub (ofG 72 [(4,vl encI C)],(kAY t)) (ofG 72 [(4,vl encI C)],[])from(Sub.norm [] [] rfl rfl (.keep (.same (qg encI _)) .nil) .nil)) ?_;refine Goes.ret ?_;obtain rfl:=si h;exact(gw2 [vl encI C] (Ua (qA encI _ (nl rfl))))
def jg (a:List Int) (d:Int):Nat->(List Int)->Int->Int->Option ((List Int)×Int)
 |0,_,_,_=>none
 |K+1,c,e,b=>
  if b>=0 then
  (idx a b).bind fun i=>
  (qcJ .i64 (w64 ((w64 (e*1000000000))+i)) d).bind fun f=>
  (idx c b).bind fun j=>
  (put c b f).bind fun g=>
  (qeP .i64 (w64 ((w64 (e*1000000000))+i)) d).bind fun h=>
  jg a d K g h (w64 (b-1))
  else
  some (c,e)
def xK (N:Nat) (a:List Int) (d:Int):Option ((List Int)×Int):=
 (mk 8 (a.length:Int) 0).bind fun c=>
 (jg a d N c 0 (w64 ((a.length:Int)-1))).bind fun(e,f)=>
 (yR N e).bind fun b=>
 some (b,f)
theorem qdc (N:Nat) (a:List Int) (d:Int) {res:(List Int)×Int} (h:xK N a d=some res):qd ZT (.fn 200) [vl encI a,.i d] [] (.tuple [vl encI res.1,.i res.2]) []:=by
 unfold xK at h;refine Ub Tryz.func200 rfl rfl (m:=39) rfl (rs:=[.tmp 4,.tmp 5]) rfl (l:=(kAi a d [])) rfl ?_;refine sh fol (kAi a d []) ?_;obtain⟨q,B,h⟩:=bnd h;refine sq (gq fol [2] (kAi a d (kT q [])) (kD q []) (ac (hs (.run [] (jK ZT 80 (.i (a.length:Int)) (.i (a.length:Int))) [] (.slice 0 0 q.length q.length 1) (kD q []) false) (qd2 vZ (E:=encI) (z:=0) rfl (by kernel_rfl) B rfl)) az) ?_);refine sh fol (kAi a d (kT q [(7,.i 0)])) ?_;refine sq ?_;refine sh fol (kAi a d (kT q [(7,.i 0),(8,.i (w64 ((a.length:Int)-1)))])) ?_;refine Goes.block ?_;obtain⟨C,g7,h⟩:=bnd h;refine Goes.imp (Q:=fun x s'=>(x= .exit 0/\ ∃f r,(f,r)=C/\Sub s' (ofG 39 (kT f [(7,.i r)]),(kD f [])))) ?_ ?_
 ·refine Uc (fun M s=> ∃(e:List Int) (n:Int) (c:Int),s=(ofG 39 (kAi a d (kT e (kA3 n c))),(kD e []))/\jg a d M e n c=some C) ?_ (m:=N) ⟨_,_,_,rfl,g7⟩;rintro M s ⟨e,n,c,rfl,g7⟩
  cases M with
  |zero=>simp only[jg]at g7;cases g7
  |succ M=>
   rw[jg]at g7;refine sq ?_;refine sh fol (kAi a d (kT e [(7,.i n),(8,.i c),(17,.bool (decide (c>=0)))])) ?_;refine ihD g7 (fun D g7=>?_) (fun D g7=>?_)
   ·refine Goes.skip ?_;refine sq (Goes.block ?_);obtain⟨A,p,g7⟩:=bnd g7;refine sq (gr fol [4,5] (kAi a d (kT e (kAr c (w64 ((w64 (n*1000000000))+A)) []))) (ac (iv vZ encI p) (ac (lv 0 ce3 encI p rfl) az)) ?_);obtain⟨t,u,g7⟩:=bnd g7;obtain⟨F,g,g7⟩:=bnd g7;obtain⟨b,j,g7⟩:=bnd g7;refine sq (gq fol [4,5,6] (kAi a d (kT e (kAr c (w64 ((w64 (n*1000000000))+A)) []))) (kD b []) (ac (hs (.done (.opt (ze ZT .quo 3 (.tmp 29) (.tmp 30) (.i (w64 ((w64 (n*1000000000))+A))) (.i d))) (.i t)) (qcq u)) (ac (hs (.done (.opt (ql ZT 80 (.slice 0 0 e.length e.length 1) (.i c))) (.ptr 0 ((c:Int).toNat*1+0))) (qa1 vZ g)) (ac (hs (.run [0] (qx ZT 3 (.ptr 0 ((c:Int).toNat*1+0)) (.i t)) (kD e []) .undef (kD b []) true) (qaD (E:=encI) (l:=e) (y:=t) rfl (show _=some 1 by kernel_rfl) rfl g rfl rfl rfl rfl rfl j rfl)) az))) ?_);refine Goes.sub (show Sub (ofG 39 (kAi a d (kT e (kAr c (w64 ((w64 (n*1000000000))+A)) []))),(kD b [])) (ofG 39 (kAi a d (kT b (kAr c (w64 ((w64 (n*1000000000))+A)) []))),(kD b []))from(Sub.norm [] [some 0] rfl rfl (.keep (.same (qg encI _)) (.keep (.same nI) (.keep (.sliceE rfl (yE j)) (.keep (.same nI) (.keep (.same nI) .nil))))) (.ks .nil))) ?_;obtain⟨o,v,g7⟩:=bnd g7;refine gr fol [2] (kAi a d (kT b (kA3 o c))) (ac (hs (.done (.opt (ze ZT .rem 3 (.tmp 33) (.tmp 34) (.i (w64 ((w64 (n*1000000000))+A))) (.i d))) (.i o)) (qga v)) az) ?_;refine gh fol (kAi a d (kT b (kA3 o (w64 (c-1))))) ?_;exact⟨M,(ofG 39 (kAi a d (kT b (kA3 o (w64 (c-1))))),(kD b [])),Nat.lt_succ_self _,(Sub.refl _),_,_,_,rfl,g7⟩
   refine Goes.exit ?_;obtain rfl:=si g7;exact⟨rfl,_,_,rfl,(Sub.keep [6,7] rfl rfl)⟩
 rintro x s' ⟨rfl,f,r,rfl,hsub⟩
 try dsimp only at h
 refine Goes.sub hsub ?_;obtain⟨k,w,h⟩:=bnd h;refine sq (gq fol [1] ((4,vl encI k)::(kA8 r)) (kAY f) (ac (hs (.callF 201 [.slice 0 0 f.length f.length 1] (kD f []) [0] [vl encI f] (vl encI k)) (qax (FzL.cons (Fz.sl (E:=encI) rfl rfl (nl rfl)) FzL.nil) (xw N f w) (qA encI _ (nl rfl)))) az) ?_);refine Goes.sub (show Sub (ofG 39 ((4,vl encI k)::(kA8 r)),(kAY f)) (ofG 39 ((4,vl encI k)::(kA8 r)),[])from(Sub.norm [] [] rfl rfl (.keep (.same (qg encI _)) (.keep (.same nI) .nil)) .nil)) ?_;refine Goes.ret ?_;obtain rfl:=si h;exact(gw2 [vl encI k,.i r] (FzW.tuple (qj.cons (Ua (qA encI _ (nl rfl))) (qj.cons (Ua tI) qj.nil))))
def vV (u:List Int) (v:List Int) (j:Int):Nat->Int->Int->Option (Int⊕Int)
 |0,_,_=>none
 |K+1,c,a=>
  (if a>=1000000000 then
  some true
  else
  (idx v (w64 ((v.length:Int)-2))).bind fun d=>
  (idx u (w64 ((w64 (j+(v.length:Int)))-2))).bind fun e=>
  some (decide ((w64 (a*d))>(w64 ((w64 (c*1000000000))+e)))):Option Bool).bind fun f=>
  if f=true then
  (idx v (w64 ((v.length:Int)-1))).bind fun b=>
  if(w64 (c+b))>=1000000000 then
  some (.inr (w64 (a-1)))
  else
  vV u v j K (w64 (c+b)) (w64 (a-1))
  else
  some (.inl a)
def qaP (N:Nat) (u:List Int) (v:List Int) (j:Int):Option Int:=
 (idx u (w64 (j+(v.length:Int)))).bind fun b=>
 (idx u (w64 ((w64 (j+(v.length:Int)))-1))).bind fun c=>
 (idx v (w64 ((v.length:Int)-1))).bind fun d=>
 (qcJ .i64 (w64 ((w64 (b*1000000000))+c)) d).bind fun e=>
 (qeP .i64 (w64 ((w64 (b*1000000000))+c)) d).bind fun f=>
 (vV u v j N f e).bind (fun
 |(.inl g)=>
 some g
 |(.inr a)=>
 some a)
theorem qir (N:Nat) (u:List Int) (v:List Int) (j:Int) {res:Int} (h:qaP N u v j=some res):qd ZT (.fn 202) [vl encI u,vl encI v,.i j] [] (.i res) []:=by
 unfold qaP at h;refine Ub Tryz.func202 rfl rfl (m:=77) rfl (rs:=[.tmp 6]) rfl (l:=(kH u v (kBA j))) rfl ?_;refine sh fol (kH u v (kBA j)) ?_;refine sh fol (kH u v [(2,.i j),(7,.i (v.length:Int))]) ?_;obtain⟨y,n,h⟩:=bnd h;obtain⟨z,o,h⟩:=bnd h;refine sq (gr fol [4,5,12,13] (kH u v ((2,.i j)::(kA3 (v.length:Int) (w64 ((w64 (y*1000000000))+z))))) (ac (iv vZ encI n) (ac (lv 0 ce3 encI n rfl) (ac (iv vZ encI o) (ac (lv 0 ce3 encI o rfl) az)))) ?_);obtain⟨G,b,h⟩:=bnd h;obtain⟨H,q,h⟩:=bnd h;obtain⟨I,r,h⟩:=bnd h;refine sq (gr fol [4,5,6,11,12,13] (kH u v (kAo j (v.length:Int) H I [])) (ac (iv vZ encI b) (ac (lv 0 ce3 encI b rfl) (ac (hs (.done (.opt (ze ZT .quo 3 (.tmp 28) (.tmp 33) (.i (w64 ((w64 (y*1000000000))+z))) (.i G))) (.i H)) (qcq q)) (ac (iv vZ encI b) (ac (lv 0 ce3 encI b rfl) (ac (hs (.done (.opt (ze ZT .rem 3 (.tmp 35) (.tmp 40) (.i (w64 ((w64 (y*1000000000))+z))) (.i G))) (.i I)) (qga r)) az)))))) ?_);refine sq (Goes.block ?_);obtain⟨A,g9,h⟩:=bnd h;refine Goes.imp (Q:=fun x s'=>(x= .exit 0/\ ∃t,(.inl t)=A/\Sub s' (ofG 77 [(9,.i t)],[]))\/(x= .ret/\ ∃w,(.inr w)=A/\jb ZT [.tmp 6] (.i w) .ret s')) ?_ ?_
 ·refine Uc (fun M s=> ∃(d:Int) (c:Int),s=(ofG 77 (kH u v (kAo j (v.length:Int) c d [])),[])/\vV u v j M d c=some A) ?_ (m:=N) ⟨_,_,rfl,g9⟩;rintro M s ⟨d,c,rfl,g9⟩
  cases M with
  |zero=>simp only[vV]at g9;cases g9
  |succ M=>
   rw[vV]at g9;refine sq ?_;refine sq ?_;obtain⟨B,a,g9⟩:=bnd g9;refine Goes.cut (s':=(ofG 77 (kH u v (kAo j (v.length:Int) c d [(63,.bool B)])),[])) ?_ ?_
   ·rcases wyD a with⟨p,a⟩|⟨p,a⟩
    ·obtain rfl:=si a;exact tr fol [2] (kH u v (kAo j (v.length:Int) c d [(63,.bool true)])) (ac (gw p) az)
    obtain⟨C,e,a⟩:=bnd a;obtain⟨D,f,a⟩:=bnd a;obtain rfl:=si a;exact tr fol [2,7,8,17,18] (kH u v (kAo j (v.length:Int) c d [(63,.bool (decide ((w64 (c*C))>(w64 ((w64 (d*1000000000))+D)))))])) (ac (gw p) (ac (iv vZ encI e) (ac (lv 0 ce3 encI e rfl) (ac (iv vZ encI f) (ac (lv 0 ce3 encI f rfl) az)))))
   refine ihB g9 (fun E g9=>?_) (fun E g9=>?_)
   ·refine Goes.skip ?_;refine Goes.block ?_;refine sh fol (kH u v (kAo j (v.length:Int) (w64 (c-1)) d [])) ?_;obtain⟨k,g,g9⟩:=bnd g9;refine sq (gr fol [4,5] (kH u v (kAo j (v.length:Int) (w64 (c-1)) (w64 (d+k)) [])) (ac (iv vZ encI g) (ac (lv 0 ce3 encI g rfl) az)) ?_);refine sh fol (kH u v (kAo j (v.length:Int) (w64 (c-1)) (w64 (d+k)) [(74,.bool (decide ((w64 (d+k))>=1000000000)))])) ?_;refine ihD g9 (fun F g9=>?_) (fun F g9=>?_)
    ·refine sh fol [(6,.i (w64 (c-1)))] ?_;refine Goes.ret ?_;obtain rfl:=si g9;exact Or.inr (⟨rfl,_,rfl,(gw2 [.i (w64 (c-1))] (Ua tI))⟩)
    refine Goes.skip ?_;exact⟨M,(ofG 77 (kH u v (kAo j (v.length:Int) (w64 (c-1)) (w64 (d+k)) [])),[]),Nat.lt_succ_self _,(Sub.keep [0,1,2,7,9,10] rfl rfl),_,_,rfl,g9⟩
   refine Goes.exit ?_;obtain rfl:=si g9;exact Or.inl (⟨rfl,_,rfl,(Sub.keep [9] rfl rfl)⟩)
 rintro x s' (⟨rfl,t,rfl,hsub⟩|⟨rfl,J,rfl,hret⟩)
 ·try dsimp only at h
  refine Goes.sub hsub ?_;refine sh fol [(6,.i t)] ?_;refine Goes.ret ?_;obtain rfl:=si h;exact(gw2 [.i t] (Ua tI))
 try dsimp only at h
 obtain rfl:=si h;exact hret
end Go.Av
