/-
  The law of turns, all of it.
-/
import Derived.Test.YtkdbjocpkfeckaaGreatDoorMdPb
noncomputable section
namespace Go.Av
open Go.Proofs Go.RowKit
set_option linter.unusedVariables false
set_option linter.unusedSimpArgs false
set_option linter.unusedSectionVars false
set_option maxRecDepth 100000
variable [Glob]
theorem qp2 {N:Nat} (hN:2000<N) (n:Int) (w:List Int):qet N n w 5 10=some (decide (n<=5/\w.length<=10/\qj3 n w=0)):=by
 unfold qet;by_cases a:n<=5
 ·by_cases b:(w.length:Int)<=10
  ·rw[if_pos a,if_pos b,qjJ hN (by omega)];simp only[ZB];congr 1;rw[decide_eq_decide];omega
  rw[if_pos a,if_neg b,decide_eq_false (by omega)];rfl
 rw[if_neg a,decide_eq_false (by omega)];rfl
theorem quY {N:Nat} {l:List zy} (hN:200000<N) (hl:l.length<=8): ∃b,xI N l 8=some b:=by
 unfold xI;obtain⟨r,r1,r2⟩:=qpj (l:=l) (by omega) N 0 (by omega) (by omega);rw[show((0:Nat):Int)=0 from rfl]at r1;rw[if_neg (by omega),decide_eq_false (by omega),ZB,if_neg (by decide),r1];rcases r2 with rfl|rfl
 ·exact⟨true,rfl⟩
 exact⟨false,rfl⟩
theorem qkG {N n:Nat} (hN:2000<N) {a:List Int} (A:vW n a) {f:qaF} (h1:qa7 N (n:Int) a=some f):qa4 N (n:Int) a=some (f,0):=by
 have:=A.len;unfold qa4;rw[qev hN (by omega),qhU A,ZB,decide_eq_true rfl];simp only[Bool.not_true,ZF,if_false];rw[h1];rfl
theorem Mv.n2 {n:Nat} {w v:List Int} (h:Mv n w v) (hw:qap n w):2<=n:=by
 cases h with
 |ins hx=>omega
 |@can u v x=>have:=hw x (by simp);omega
 |@swp u v x y h=>have:=hw x (by simp);omega
 |@trn u v l x y z h=>have:=hw x (by simp);omega
inductive Run (N n:Nat):List Int->List zy->List Int->Prop
 |nil (w:List Int):Run N n w [] w
 |cons {w w' v:List Int} {m:zy} {l:List zy} (h:qaa N (n:Int) w m=some (w',0)) (k:Run N n w' l v):Run N n w (m::l) v
theorem Run.snoc {N n:Nat} {w v u:List Int} {l:List zy} {m:zy} (h:Run N n w l v) (k:qaa N (n:Int) v m=some (u,0)):Run N n w (l++[m]) u:=by
 induction h with
 |nil w=>exact .cons k (.nil _)
 |cons a _ ih=>exact .cons a (ih k)
theorem qtB {N n:Nat} {L:List zy} (hL:L.length<=1000): ∀(K i:Nat) (w v:List Int),Run N n w (L.drop i) v->i<=L.length->L.length<K+i->jJ N (n:Int) L K w (i:Int)=some (.inl v)
 |0,i,w,v,h,hi,hK=>by omega
 |K+1,i,w,v,h,hi,hK=>by
  unfold jJ;by_cases c:i<L.length
  ·rw[YG c]at h
   cases h with
   |cons a k=>
    rw[if_pos (by omega),qp,Ya c,ZB,a,ZB,if_neg (by simp),qH (by omega)];exact qtB hL K (i+1) _ _ k (by omega) (by omega)
  rw[List.drop_eq_nil_of_le (by omega)]at h;cases h
  rw[if_neg (by omega)]
theorem qkg {N n:Nat} (hN:2000<N) {L:List zy} (hL:L.length<=1000) {w v:List Int} (hw:w.length<=1000) (h:Run N n w L v):qaT N (n:Int) w L=some (v,0):=by
 unfold qaT;have:=qtB hL N 0 w v (by rw[YR];exact h) (by omega) (by omega);rw[show((0:Nat):Int)=0 from rfl]at this;rw[if_neg (by omega),qcr (by omega),ZB,this];rfl
theorem qkx {N n:Nat} (hN:2000<N) {L:List zy} (hL:L.length<=1000) {w v:List Int} (W:vW n w) (hv:v.length<=200) (h:Run N n w L v):y8 N (n:Int) w L=some (v,0):=by
 have wl:=W.len;unfold y8;rw[qev hN (by omega),qhU W,ZB,if_neg (by decide),qkg hN hL (by omega) h,ZB,if_neg (by simp)];dsimp only;rw[qn7,if_neg (by omega),ZB]
theorem qj8 {N n:Nat} (hN:2000<N) {m:zy} {L:List zy} (hL:L.length<=1000) {w:List Int} (W:vW n w) {e:Int} (he:e≠0) (h:qaa N (n:Int) w m=some ([],e)):y8 N (n:Int) w (m::L)=some ([],e):=by
 have wl:=W.len;obtain⟨K,rfl⟩: ∃K,N=K+1:=⟨N-1,by omega⟩
 have e0:jJ (K+1) (n:Int) (m::L) (K+1) w 0=some (.inr ([],e)):=by
  unfold jJ;rw[if_pos (by simp),show idx (m::L) (0:Int)=some m from rfl,ZB,h,ZB,if_pos (by simp[he])]
 unfold y8;rw[qev hN (by omega),qhU W,ZB,if_neg (by decide)];unfold qaT;rw[if_neg (by simp;omega),qcr (by omega),ZB,e0,ZB];dsimp only;rw[ZB,if_pos (by simp[he])]
theorem qok {N:Nat} (hN:600000<N) {n:Nat} (n5:n<=5) {a b:List Int} (A:vW n a) (B:vW n b) (la:a.length<=26) (lb:b.length<=26) (L:Alike n a b): ∀(K k:Nat),k<=4->4<K+k->ja N (n:Int) a (b,0) K (k:Int)=some (.inl ())
 |0,k,h,hK=>by omega
 |K+1,k,h,hK=>by
  unfold ja;by_cases c:k<4
  ·have key: ∃x,([kEx,kPm,kLk,kBu]:List Str)[k]? =some x/\x∈([kEx,kPm,kLk,kBu]:List Str):=⟨_,Ya (by simp;omega),List.getElem_mem _⟩;obtain⟨x,x1,x2⟩:=key;rw[if_pos (by omega),qp,show([[101,120,112,111,110,101,110,116],[112,101,114,109],[108,105,110,107],[98,117,114,97,117]]:List Str)[k]? =some x from x1,ZB];dsimp only;rw[qpv hN n5 A B la lb L x x2,ZB,if_neg (by decide),qpt hN n5 A B la lb L x x2,ZB,ZB,if_neg (by decide),qH (by omega)];exact qok hN n5 A B la lb L K (k+1) (by omega) (by omega)
  rw[if_neg (by omega)]
theorem qoj {N:Nat} (hN:2000000100<N) {n:Nat} (n1:1<=n) (n5:n<=5) {w:List Int} {L:List zy} (hL:L.length<=8): ∀(K i:Nat) (a:List Int),vW n a->a.length<=10+2*i->Run N n w (L.take i) a->i<=L.length->L.length<K+i-> ∃r,z8 N (n:Int) L K (i:Int) a=some r/\(r= .inr true\/ ∃v,r= .inl v/\Run N n w L v/\v.length<=26/\vW n v)
 |0,i,a,A,ha,hr,hi,hK=>by omega
 |K+1,i,a,A,ha,hr,hi,hK=>by
  unfold z8;by_cases c:i<L.length
  ·obtain⟨r,r1,r2⟩:=qrw (N:=N) (by omega) n1 (by omega) (show a.length<=400 by omega) A.let_ L[i];have hd:=YG c
   have c1:cut L (i:Int) ((i+1:Nat):Int)=some [L[i]]:=by
    unfold cut;rw[if_pos ⟨by omega,by omega,by omega⟩];simp only[Int.toNat_natCast];rw[hd,show i+1-i=1 by omega];rfl
   rw[if_pos (by omega),qH (by omega),c1,ZB];rcases r2 with⟨e1,e2⟩|⟨e1,e2,e3,e4⟩
   ·obtain⟨x,e⟩:=r;have e1:e≠0:=e1;have e2:x=[]:=e2;subst e2;rw[qj8 (by omega) (L:=[]) (by simp) A e1 r1,ZB,if_pos (by simp[e1]),qiQ (by omega),ZB,hd,qj8 (by omega) (by rw[YJ];omega) A e1 r1,ZB];dsimp only;rw[decide_eq_true rfl];exact⟨_,rfl,.inl rfl⟩
   obtain⟨x,e⟩:=r;have e1:e=0:=e1;have e2:Mv n a x:=e2;have e3:x.length<=a.length+2:=e3;have e4:a.length<=x.length+2:=e4;subst e1;have X:vW n x:=⟨n1,by omega,by omega,e2.let_ A.let_⟩;have n2:=e2.n2 A.let_;obtain⟨f,f1,f2,f3,f4⟩:=qtJ n2 (by omega) (N:=N) (by omega) A (by omega);obtain⟨g,g1,g2,g3,g4⟩:=qtJ n2 (by omega) (N:=N) (by omega) X (by omega);have fg:=(e2.form (by omega) n2 A.let_ g2).uniq f2;subst fg;have AL:=e2.alike A.let_;have t1:=qok (N:=N) (by omega) n5 A X (by omega) (by omega) AL N 0 (by omega) (by omega);rw[show((0:Nat):Int)=0 from rfl]at t1
   have sf:qaP N g g=some true:=by
    unfold qaP;rw[if_pos rfl,qmg (by omega) g4 g3];rfl
   have fr:(if(a.length:Int)<=8 then
    if(x.length:Int)<=8 then
    (qaV N (n:Int) a).bind fun r52=>
    (qaV N (n:Int) x).bind fun r53=>
    (zU N r52 r53).bind fun r54=>
    some (!r54)
    else
    some false
    else
    some false:Option Bool)=some false:=by
    by_cases q1:(a.length:Int)<=8
    ·by_cases q2:(x.length:Int)<=8
     ·have fl:=qhW (w:=a) (im:=fid n) (M:=1) A.let_ (qcP n) (fun v hv=>by
       simp only[fid,List.mem_map]at hv;obtain⟨k,_,rfl⟩:=hv
       simp)
      have h38:3^a.length<=3^8:=Nat.pow_le_pow_right (by decide) (by omega)
      rw[if_pos q1,if_pos q2,qmG (by omega) hN A.let_ (by omega),ZB,qmG (by omega) hN X.let_ (by omega),ZB,e2.free A.let_,qpx (by omega) (fun v hv=>by
       rw[<-e2.free A.let_]at hv;have:=fl v hv
       have h6:(3:Nat)^8=6561:=by decide
       omega) (by rw[qp0];omega),decide_eq_true rfl]
      rfl
     rw[if_pos q1,if_neg q2]
    rw[if_neg q1]
   rw[qkx (by omega) (by simp) A (by omega) (.cons r1 (.nil _)),ZB];dsimp only;rw[if_neg (by simp),qjJ (by omega) (by omega),qhU X,ZB,if_neg (by simp),qE (n:=(a.length:Int)+2) (by omega) (by omega),if_neg (by omega),qE (n:=(a.length:Int)-2) (by omega) (by omega),decide_eq_false (by omega),ZB,if_neg (by decide),qkG (by omega) A f1,ZB,qkG (by omega) X g1,ZB];unfold qer;dsimp only;rw[show w64 (0+0)=0 from rfl,if_neg (by simp),ZB,ZB,sf,ZB,ZB,if_neg (by simp),t1,ZB];dsimp only;rw[fr,ZB,if_neg (by decide)];refine qoj hN n1 n5 hL K (i+1) x X (by omega) ?_ (by omega) (by omega);rw[List.take_succ_eq_append_getElem c];exact hr.snoc r1
  rw[if_neg (by omega)];rw[List.take_of_length_le (by omega)]at hr;exact⟨_,rfl,.inr ⟨a,rfl,hr,by omega,A⟩⟩
theorem qhB {N:Nat} (hN:2000000100<N) (n:Int) (w:List Int) (l:List zy):qbc N n w l=some true:=by
 unfold qbc awk;simp only[ZB,Bool.not_true,ZF,if_false];rw[qp2 (by omega),ZB];by_cases hW:n<=5/\w.length<=10/\qj3 n w=0
 ·rw[decide_eq_true hW,if_neg (by decide)];by_cases hl:(l.length:Int)>8
  ·rw[if_pos hl];rfl
  rw[if_neg hl,qpI (by omega) (by omega),ZB];obtain⟨b,b1⟩:=quY (N:=N) (l:=l) (by omega) (by omega);rw[b1,ZB,ZB];cases b
  ·rw[if_pos (by decide)]
  obtain⟨m,rfl,W⟩:=qtf hW.2.2;rw[if_neg (by decide),qbh (by simp;omega) (by simp;omega),ZB,List.nil_append];obtain⟨r,r1,r2⟩:=qoj hN W.n1 (by omega) (w:=w) (L:=l) (by omega) N 0 w W (by omega) (by rw[List.take_zero];exact .nil _) (by omega) (by omega);rw[show((0:Nat):Int)=0 from rfl]at r1;rw[r1,ZB];rcases r2 with rfl|⟨v,rfl,v1,v2,V⟩
  ·rfl
  dsimp only;rw[qkx (by omega) (by omega) W (by omega) v1,ZB];dsimp only;rw[if_pos rfl,qg6 (by omega) (by omega),ZB,decide_eq_true rfl,if_pos rfl]
  have cm:xA N (m:Int) w v l=some 0:=by
   unfold xA;rw[qoM (by omega) W V,ZB,if_neg (by decide),qkg (by omega) (by omega) (by omega) v1,ZB];dsimp only;rw[qhu (by omega) (by omega),ZB,qb3,ZB,qlc (by omega),ZB,decide_eq_true rfl];rfl
  rw[cm];rfl
 rw[decide_eq_false hW,if_pos (by decide)];rfl
end Go.Av
