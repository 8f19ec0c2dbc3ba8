/-
  Walks of functions: what each computes, as a plain function.
-/
import Derived.Test.YtphbhegcojmijaaGreatDoorQGenC1
noncomputable section
namespace Go.Av
open Go.Proofs Go.RowKit
set_option linter.unusedSectionVars false
set_option linter.unusedVariables false
set_option linter.unusedSimpArgs false
set_option maxRecDepth 100000
def jQ (s_:Str):Nat→Nat→Option (Unit⊕Bool)
 |0,_=>none
 |K+1,k1=>
  if k1<s_.length then
  ((vX (vR s_ k1)).bind fun r5=>
  if(!r5)=true then
  if(k1:Int)=0 then
  some true
  else
  if(!decide ((vR s_ k1)=95))=true then
  if(vR s_ k1)<48 then
  some true
  else
  some (decide ((vR s_ k1)>57))
  else
  some false
  else
  some false:Option Bool).bind fun b10=>
  if b10=true then
  some (.inr false)
  else
  jQ s_ K (k1+runeLen s_ k1)
  else
  some (.inl ())
def xL (N:Nat) (s_:Str):Option Bool:=
 (jQ s_ N 0).bind (fun
 |(.inl ())=>
 (if(!(s_==[]))=true then
 some (decide ((s_.length:Int)≤24))
 else
 some false:Option Bool).bind fun b14=>
 some b14
 |(.inr q16)=>
 some q16)
theorem qfj (N:Nat) (s_:Str) {res:Bool} (h:xL N s_=some res):qf Tryz.prog (.fn 144) [.str s_] [] (.bool res) []:=by
 unfold xL at h
 refine Goes.fnW Tryz.func144 rfl rfl (m:=37) rfl (rs:=[.tmp 2]) rfl (l:=(kBF s_)) rfl ?_
 refine sh fol (kBF s_) ?_
 refine sq ?_
 refine sg fol (kAo s_ []) [.iter s_ 0] ?_
 refine Goes.block ?_
 obtain⟨r2,g2,h⟩:=bnd h
 refine Goes.imp (Q:=fun x s'=>(x= .exit 0∧(.inl ())=r2∧Sub s' (ofG 37 (kBF s_),[]))∨(x= .ret∧ ∃q3,(.inr q3)=r2∧zy Tryz.prog [.tmp 2] (.bool q3) .ret s')) ?_ ?_
 ·refine Goes.sub (s':=(ofG 37 (kAo s_ []),[.iter s_ 0])) (Sub.keep [0,6] rfl rfl) ?_
  refine Goes.loopS (fun M s=> ∃(k1:Nat),s=(ofG 37 (kAo s_ []),[.iter s_ k1])∧jQ s_ M k1=some r2) ?_ (m:=N) ⟨_,rfl,g2⟩
  rintro M s ⟨k1,rfl,g2⟩
  cases M with
  |zero=>simp only[jQ]at g2;cases g2
  |succ M=>
   rw[jQ]at g2
   refine sq ?_
   rcases Classical.em (k1<s_.length)with c4|c4
   ·rw[if_pos c4]at g2
    refine gq fol [0] (kAo s_ [(7,.tuple [.bool true,.i (k1:Int),.int .i32 (vR s_ k1)]),(8,.bool true)]) [.iter s_ (k1+runeLen s_ k1)] (ac (hs (.run [0] (qc0 (.ptr 0 0) true) [.iter s_ k1] (.tuple [.bool true,.i (k1:Int),.int .i32 (vR s_ k1)]) [.iter s_ (k1+runeLen s_ k1)] true) (qhs rfl c4 rfl)) az) ?_
    refine sq ?_
    refine Goes.ifB (b:=true) (by kernel_rfl) (fun _=>?_) (fun c=>(by cases c))
    refine Goes.skip ?_
    refine Goes.block ?_
    refine sh fol (kAQ s_ (k1:Int) [(4,.int .i32 (vR s_ k1)),(6,.ptr 0 0)]) ?_
    refine sq ?_
    obtain⟨b10,g_v11,g2⟩:=bnd g2
    refine Goes.cut (s':=(ofG 37 (kAo s_ [(29,.bool b10)]),[.iter s_ (k1+runeLen s_ k1)])) ?_ ?_
    ·obtain⟨r5,e_r5,g_v11⟩:=bnd g_v11
     rcases wyB g_v11 with⟨c6,g_v11⟩|⟨c6,g_v11⟩
     ·rcases wyD g_v11 with⟨c7,g_v11⟩|⟨c7,g_v11⟩
      ·obtain rfl:=si g_v11
       exact tr fol [1,3,6] (kAo s_ [(29,.bool true)]) (ac (cv (vU (vR s_ k1) e_r5)) (ac (gw c6) (ac (gw c7) az)))
      ·rcases wyB g_v11 with⟨c8,g_v11⟩|⟨c8,g_v11⟩
       ·rcases wyD g_v11 with⟨c9,g_v11⟩|⟨c9,g_v11⟩
        ·obtain rfl:=si g_v11
         exact tr fol [1,3,6,9,12] (kAo s_ [(29,.bool true)]) (ac (cv (vU (vR s_ k1) e_r5)) (ac (gw c6) (ac (gw c7) (ac (gw c8) (ac (gw c9) az)))))
        ·obtain rfl:=si g_v11
         exact tr fol [1,3,6,9,12] (kAo s_ [(29,.bool (decide ((vR s_ k1)>57)))]) (ac (cv (vU (vR s_ k1) e_r5)) (ac (gw c6) (ac (gw c7) (ac (gw c8) (ac (gw c9) az)))))
       ·obtain rfl:=si g_v11
        exact tr fol [1,3,6,9] (kAo s_ [(29,.bool false)]) (ac (cv (vU (vR s_ k1) e_r5)) (ac (gw c6) (ac (gw c7) (ac (gw c8) az))))
     ·obtain rfl:=si g_v11
      exact tr fol [1,3] (kAo s_ [(29,.bool false)]) (ac (cv (vU (vR s_ k1) e_r5)) (ac (gw c6) az))
    refine ihB g2 (fun c12 g2=>?_) (fun c12 g2=>?_)
    ·refine sh fol kBf ?_
     refine Goes.ret ?_
     obtain rfl:=si g2
     exact Or.inr (⟨rfl,_,rfl,(gw2 [.bool false] (FzW.still tB))⟩)
    ·refine Goes.skip ?_
     exact⟨M,(ofG 37 (kAo s_ []),[.iter s_ (k1+runeLen s_ k1)]),Nat.lt_succ_self _,(Sub.keep [0,6] rfl rfl),_,rfl,g2⟩
   ·rw[if_neg c4]at g2
    refine gr fol [0] (kAo s_ [(7,.tuple [.bool false]),(8,.bool false)]) (ac (hs (.run [0] (qc0 (.ptr 0 0) true) [.iter s_ k1] (.tuple [.bool false]) [.iter s_ k1] false) (qhJ rfl c4)) az) ?_
    refine sq ?_
    refine Goes.ifB (b:=false) (by kernel_rfl) (fun c=>(by cases c)) (fun _=>?_)
    refine Goes.exit ?_
    obtain rfl:=si g2
    exact Or.inl (⟨rfl,rfl,(Sub.norm [] [] rfl rfl (.keep (.same nS) .nil) .nil)⟩)
 rintro x s' (⟨rfl,rfl,hsub⟩|⟨rfl,q16,rfl,hret⟩)
 ·try dsimp only at h
  refine Goes.sub hsub ?_
  refine sq ?_
  obtain⟨b14,g_v15,h⟩:=bnd h
  refine Goes.cut (s':=(ofG 37 [(2,.bool b14)],[])) ?_ ?_
  ·rcases wyB g_v15 with⟨c13,g_v15⟩|⟨c13,g_v15⟩
   ·obtain rfl:=si g_v15
    exact tr fol [2] [(2,.bool (decide ((s_.length:Int)≤24)))] (ac (gw c13) az)
   ·obtain rfl:=si g_v15
    exact tr fol [2] kBf (ac (gw c13) az)
  refine Goes.ret ?_
  obtain rfl:=si h
  exact(gw2 [.bool b14] (FzW.still tB))
 ·try dsimp only at h
  obtain rfl:=si h
  exact hret
def qaj (N:Nat) (s_:Str):Option Int:=
 (xL N s_).bind fun r1=>
 (qX (!r1) 8).bind fun r2=>
 some r2
theorem qfE (N:Nat) (s_:Str) {res:Int} (h:qaj N s_=some res):qf Tryz.prog (.fn 98) [.str s_] [] (.i res) []:=by
 unfold qaj at h
 refine Goes.fnW Tryz.func98 rfl rfl (m:=7) rfl (rs:=[.tmp 2]) rfl (l:=(kBF s_)) rfl ?_
 refine sh fol (kBF s_) ?_
 obtain⟨r1,e_r1,h⟩:=bnd h
 obtain⟨r2,e_r2,h⟩:=bnd h
 refine sq (gr fol [1,3] [(2,.i r2)] (ac (cv (qfj N s_ e_r1)) (ac (cv (qH (!r1) 8 e_r2)) az)) ?_)
 refine Goes.ret ?_
 obtain rfl:=si h
 exact(gw2 [.i r2] (FzW.still tI))
def zN (N:Nat) (e:qb):Nat→Int→Option (Unit⊕Int)
 |0,_=>none
 |K+1,n22=>
  if n22<(e.Names.length:Int)then
  (idx e.Names n22).bind fun x26=>
  (qaj N x26).bind fun r27=>
  if(!decide (r27=0))=true then
  some (.inr r27)
  else
  zN N e K (w64 (n22+1))
  else
  some (.inl ())
def zP (e:qb):Nat→Int→Option (Unit⊕Int)
 |0,_=>none
 |K+1,n29=>
  if n29<(e.Values.length:Int)then
  (idx e.Values n29).bind fun x33=>
  (jm x33 0 999999999).bind fun r34=>
  if(!decide (r34=0))=true then
  some (.inr r34)
  else
  zP e K (w64 (n29+1))
  else
  some (.inl ())
def jA (N:Nat) (e:qb):Option Int:=
 ((zF).bind fun r1=>
 if(e.Kind==[109,97,107,101])=true then
 some (2,3,true)
 else
 if(e.Kind==[116,101,115,116])=true then
 some (1,2,true)
 else
 if(e.Kind==[117,115,101])=true then
 some (1,2,true)
 else
 if(e.Kind==[102,97,105,108])=true then
 some (1,1,true)
 else
 if(e.Kind==[114,101,99,97,108,108])=true then
 some (1,1,true)
 else
 if(e.Kind==[117,110,100,111])=true then
 some (0,0,true)
 else
 some (0,0,false):Option (Int×Int×Bool)).bind fun(n8,n9,b10)=>
 ((jm e.Number 1 1000).bind fun r12=>
 (qX (!b10) 13).bind fun r13=>
 if(!decide ((e.Names.length:Int)=n8))=true then
 (qX true 2).bind fun r15=>
 (zH N ([r12,r13,r15]:List Int)).bind fun r16=>
 some r16
 else
 (qX (!decide ((e.Values.length:Int)=n9)) 2).bind fun r17=>
 (zH N ([r12,r13,r17]:List Int)).bind fun r18=>
 some r18:Option Int).bind fun n19=>
 if(!decide (n19=0))=true then
 some n19
 else
 (zN N e N 0).bind (fun
 |(.inl ())=>
 (zP e N 0).bind (fun
 |(.inl ())=>
 (qX (!(e.Text==[])) 1).bind fun r36=>
 some r36
 |(.inr q37)=>
 some q37)
 |(.inr q38)=>
 some q38)
theorem xq (N:Nat) (e:qb) {res:Int} (h:jA N e=some res):qf Tryz.prog (.fn 38) [.agg (cE e)] [] (.i res) []:=by
 unfold jA at h
 refine Goes.fnW Tryz.func38 rfl rfl (m:=75) rfl (rs:=[.tmp 2]) rfl (l:=[(0,.agg (cE e))]) rfl ?_
 refine sg fol (kV []) (kAE e) ?_
 refine sq ?_
 obtain⟨⟨n8,n9,b10⟩,g_v11,h⟩:=bnd h
 refine Goes.cutS (s':=(ofG 75 (kV ((3,.ptr 1 0)::(kBM b10))),(kA0 e (kBh n8 n9 [])))) ?_ ?_
 ·obtain⟨r1,e_r1,g_v11⟩:=bnd g_v11
  rcases wyB g_v11 with⟨c2,g_v11⟩|⟨c2,g_v11⟩
  ·simp only[Option.some.injEq,Prod.mk.injEq]at g_v11
   obtain⟨rfl,rfl,rfl⟩:=g_v11
   exact qh.sub (qh.rq fol [0,3] (kV ((3,.ptr 1 0)::kAi)) (kA0 e [.cells [.i 2,.i 3,.func (.func 117) [] []]]) (ac (cv (qy e_r1)) (ac (hs (.done (zM Tryz.prog 140 (fm1) (.str e.Kind) true) (.tuple (.agg [.i 2,.i 3,.func (.func 117) [] []]::kA3))) (qa1 qau [[109,97,107,101],[116,101,115,116],[117,115,101],[102,97,105,108],[114,101,99,97,108,108],[117,110,100,111]] (jk c2) rfl)) az))) (Sub.norm [] [some 0,some 1] rfl rfl (.kp (.kp (.keep (.same nB) .nil))) (.kb rfl (.same sn) (.kb rfl (.cells (rc (.same nI) (rc (.same nI) (rc (.undef) rn)))) .nil)))
  ·rcases wyB g_v11 with⟨c3,g_v11⟩|⟨c3,g_v11⟩
   ·simp only[Option.some.injEq,Prod.mk.injEq]at g_v11
    obtain⟨rfl,rfl,rfl⟩:=g_v11
    exact qh.sub (qh.rq fol [0,3] (kV ((3,.ptr 1 0)::kAi)) (kA0 e [.cells [.i 1,.i 2,.func (.func 118) [] []]]) (ac (cv (qy e_r1)) (ac (hs (.done (zM Tryz.prog 140 (fm1) (.str e.Kind) true) (.tuple (.agg [.i 1,.i 2,.func (.func 118) [] []]::kA3))) (qa1 qau [[109,97,107,101],[116,101,115,116],[117,115,101],[102,97,105,108],[114,101,99,97,108,108],[117,110,100,111]] (ql c2 (jk c3)) rfl)) az))) (Sub.norm [] [some 0,some 1] rfl rfl (.kp (.kp (.keep (.same nB) .nil))) (.kb rfl (.same sn) (.kb rfl (.cells (rc (.same nI) (rc (.same nI) (rc (.undef) rn)))) .nil)))
   ·rcases wyB g_v11 with⟨c4,g_v11⟩|⟨c4,g_v11⟩
    ·simp only[Option.some.injEq,Prod.mk.injEq]at g_v11
     obtain⟨rfl,rfl,rfl⟩:=g_v11
     exact qh.sub (qh.rq fol [0,3] (kV ((3,.ptr 1 0)::kAi)) (kA0 e [.cells [.i 1,.i 2,.func (.func 119) [] []]]) (ac (cv (qy e_r1)) (ac (hs (.done (zM Tryz.prog 140 (fm1) (.str e.Kind) true) (.tuple (.agg [.i 1,.i 2,.func (.func 119) [] []]::kA3))) (qa1 qau [[109,97,107,101],[116,101,115,116],[117,115,101],[102,97,105,108],[114,101,99,97,108,108],[117,110,100,111]] (ql c2 (ql c3 (jk c4))) rfl)) az))) (Sub.norm [] [some 0,some 1] rfl rfl (.kp (.kp (.keep (.same nB) .nil))) (.kb rfl (.same sn) (.kb rfl (.cells (rc (.same nI) (rc (.same nI) (rc (.undef) rn)))) .nil)))
    ·rcases wyB g_v11 with⟨c5,g_v11⟩|⟨c5,g_v11⟩
     ·simp only[Option.some.injEq,Prod.mk.injEq]at g_v11
      obtain⟨rfl,rfl,rfl⟩:=g_v11
      exact qh.sub (qh.rq fol [0,3] (kV ((3,.ptr 1 0)::kAi)) (kA0 e [.cells [.i 1,.i 1,.func (.func 120) [] []]]) (ac (cv (qy e_r1)) (ac (hs (.done (zM Tryz.prog 140 (fm1) (.str e.Kind) true) (.tuple (.agg [.i 1,.i 1,.func (.func 120) [] []]::kA3))) (qa1 qau [[109,97,107,101],[116,101,115,116],[117,115,101],[102,97,105,108],[114,101,99,97,108,108],[117,110,100,111]] (ql c2 (ql c3 (ql c4 (jk c5)))) rfl)) az))) (Sub.norm [] [some 0,some 1] rfl rfl (.kp (.kp (.keep (.same nB) .nil))) (.kb rfl (.same sn) (.kb rfl (.cells (rc (.same nI) (rc (.same nI) (rc (.undef) rn)))) .nil)))
     ·rcases wyB g_v11 with⟨c6,g_v11⟩|⟨c6,g_v11⟩
      ·simp only[Option.some.injEq,Prod.mk.injEq]at g_v11
       obtain⟨rfl,rfl,rfl⟩:=g_v11
       exact qh.sub (qh.rq fol [0,3] (kV ((3,.ptr 1 0)::kAi)) (kA0 e [.cells [.i 1,.i 1,.func (.func 121) [] []]]) (ac (cv (qy e_r1)) (ac (hs (.done (zM Tryz.prog 140 (fm1) (.str e.Kind) true) (.tuple (.agg [.i 1,.i 1,.func (.func 121) [] []]::kA3))) (qa1 qau [[109,97,107,101],[116,101,115,116],[117,115,101],[102,97,105,108],[114,101,99,97,108,108],[117,110,100,111]] (ql c2 (ql c3 (ql c4 (ql c5 (jk c6))))) rfl)) az))) (Sub.norm [] [some 0,some 1] rfl rfl (.kp (.kp (.keep (.same nB) .nil))) (.kb rfl (.same sn) (.kb rfl (.cells (rc (.same nI) (rc (.same nI) (rc (.undef) rn)))) .nil)))
      ·rcases wyB g_v11 with⟨c7,g_v11⟩|⟨c7,g_v11⟩
       ·simp only[Option.some.injEq,Prod.mk.injEq]at g_v11
        obtain⟨rfl,rfl,rfl⟩:=g_v11
        exact qh.sub (qh.rq fol [0,3] (kV ((3,.ptr 1 0)::kAi)) (kA0 e kBg) (ac (cv (qy e_r1)) (ac (hs (.done (zM Tryz.prog 140 (fm1) (.str e.Kind) true) (.tuple (kBQ kA3))) (qa1 qau [[109,97,107,101],[116,101,115,116],[117,115,101],[102,97,105,108],[114,101,99,97,108,108],[117,110,100,111]] (ql c2 (ql c3 (ql c4 (ql c5 (ql c6 (jk c7)))))) rfl)) az))) (Sub.norm [] [some 0,some 1] rfl rfl (.kp (.kp (.keep (.same nB) .nil))) (.kb rfl (.same sn) (.kb rfl (.cells (rc (.same nI) (rc (.same nI) (rc (.undef) rn)))) .nil)))
       ·simp only[Option.some.injEq,Prod.mk.injEq]at g_v11
        obtain⟨rfl,rfl,rfl⟩:=g_v11
        exact qh.sub (qh.rq fol [0,3] (kV ((3,.ptr 1 0)::kAf)) (kA0 e kBg) (ac (cv (qy e_r1)) (ac (hs (.done (zM Tryz.prog 140 (fm1) (.str e.Kind) true) (.tuple (kBQ [.bool false]))) (qkQ qau [[109,97,107,101],[116,101,115,116],[117,115,101],[102,97,105,108],[114,101,99,97,108,108],[117,110,100,111]] (ql c2 (ql c3 (ql c4 (ql c5 (ql c6 (ql c7 (rfl))))))))) az))) (Sub.norm [] [some 0,some 1] rfl rfl (.kp (.kp (.keep (.same nB) .nil))) (.kb rfl (.same sn) (.kb rfl (.cells (rc (.same nI) (rc (.same nI) (rc (.undef) rn)))) .nil)))
 intro _ hsub
 try dsimp only at h
 refine Goes.sub hsub ?_
 refine sq ?_
 refine sq ?_
 obtain⟨n19,g_v20,h⟩:=bnd h
 refine Goes.cutS (s':=(ofG 75 (kV (kAn n19)),(kAE e))) ?_ ?_
 ·obtain⟨r12,e_r12,g_v20⟩:=bnd g_v20
  obtain⟨r13,e_r13,g_v20⟩:=bnd g_v20
  rcases wyB g_v20 with⟨c14,g_v20⟩|⟨c14,g_v20⟩
  ·obtain⟨r15,e_r15,g_v20⟩:=bnd g_v20
   obtain⟨r16,e_r16,g_v20⟩:=bnd g_v20
   obtain rfl:=si g_v20
   exact qh.sub (qh.rq fol [2,5,12,20,22] (kV (kAn r16)) (kA0 e (kBh n8 n9 [.cells [.i r12,.i r13,.i r15]])) (ac (cv (jM e.Number 1 1000 e_r12)) (ac (cv (qH (!b10) 13 e_r13)) (ac (gw c14) (ac (cv (qH true 2 e_r15)) (ac (hs (.call 37 [.slice 2 0 3 3 1] (kA0 e (kBh n8 n9 [.cells [.i r12,.i r13,.i r15]])) [2] [vl encI ([r12,r13,r15]:List Int)] (.i r16)) (qa4 (FzL.cons (Fz.lit rfl rfl (FzL.still (AllST.cons tI (AllST.cons tI (AllST.cons tI AllST.nil))))) FzL.nil) (jd N ([r12,r13,r15]:List Int) e_r16) tI rfl)) az)))))) (Sub.norm [] [some 0] rfl rfl (.kp (.keep (.same nI) .nil)) (.kb rfl (.same sn) .nil))
  ·obtain⟨r17,e_r17,g_v20⟩:=bnd g_v20
   obtain⟨r18,e_r18,g_v20⟩:=bnd g_v20
   obtain rfl:=si g_v20
   exact qh.sub (qh.rq fol [2,5,12,20,22] (kV (kAn r18)) (kA0 e (kBh n8 n9 [.cells [.i r12,.i r13,.i r17]])) (ac (cv (jM e.Number 1 1000 e_r12)) (ac (cv (qH (!b10) 13 e_r13)) (ac (gw c14) (ac (cv (qH (!decide ((e.Values.length:Int)=n9)) 2 e_r17)) (ac (hs (.call 37 [.slice 2 0 3 3 1] (kA0 e (kBh n8 n9 [.cells [.i r12,.i r13,.i r17]])) [2] [vl encI ([r12,r13,r17]:List Int)] (.i r18)) (qa4 (FzL.cons (Fz.lit rfl rfl (FzL.still (AllST.cons tI (AllST.cons tI (AllST.cons tI AllST.nil))))) FzL.nil) (jd N ([r12,r13,r17]:List Int) e_r18) tI rfl)) az)))))) (Sub.norm [] [some 0] rfl rfl (.kp (.keep (.same nI) .nil)) (.kb rfl (.same sn) .nil))
 intro _ hsub
 refine Goes.sub hsub ?_
 refine sh fol (kV [(5,.i n19),(43,.bool (!decide (n19=0)))]) ?_
 refine ihB h (fun c21 h=>?_) (fun c21 h=>?_)
 ·refine sh fol [(2,.i n19)] ?_
  refine Goes.ret ?_
  obtain rfl:=si h
  exact(gw2 [.i n19] (FzW.still tI))
 ·refine Goes.skip ?_
  refine sq ?_
  refine sh fol (kV [(46,vl encS e.Names),(47,.i (e.Names.length:Int)),(48,.i 0)]) ?_
  refine Goes.block ?_
  obtain⟨r23,g23,h⟩:=bnd h
  refine Goes.imp (Q:=fun x s'=>(x= .exit 0∧(.inl ())=r23∧Sub s' (ofG 75 (kV []),(kAE e)))∨(x= .ret∧ ∃q24,(.inr q24)=r23∧zy Tryz.prog [.tmp 2] (.i q24) .ret s')) ?_ ?_
  ·refine Goes.loopS (fun M s=> ∃(n22:Int),s=(ofG 75 (kV (kBK e.Names (e.Names.length:Int) n22 [])),(kAE e))∧zN N e M n22=some r23) ?_ (m:=N) ⟨_,rfl,g23⟩
   rintro M s ⟨n22,rfl,g23⟩
   cases M with
   |zero=>simp only[zN]at g23;cases g23
   |succ M=>
    rw[zN]at g23
    refine sh fol (kV (kBK e.Names (e.Names.length:Int) n22 [(49,.bool (decide (n22<(e.Names.length:Int))))])) ?_
    refine sq ?_
    refine ihD g23 (fun c25 g23=>?_) (fun c25 g23=>?_)
    ·refine Goes.skip ?_
     refine sq (Goes.block ?_)
     obtain⟨x26,e_x26,g23⟩:=bnd g23
     refine sq (gr fol [0,1] (kV ((7,.str x26)::(kBK e.Names (e.Names.length:Int) n22 []))) (ac (iv vV encS e_x26) (ac (lv 0 ce9 encS e_x26 rfl) az)) ?_)
     obtain⟨r27,e_r27,g23⟩:=bnd g23
     refine sq (gr fol [1] (kV ((8,.i r27)::(kBK e.Names (e.Names.length:Int) n22 []))) (ac (cv (qfE N x26 e_r27)) az) ?_)
     refine sh fol (kV ((8,.i r27)::(kBK e.Names (e.Names.length:Int) n22 [(55,.bool (!decide (r27=0)))]))) ?_
     refine ihB g23 (fun c28 g23=>?_) (fun c28 g23=>?_)
     ·refine sh fol [(2,.i r27)] ?_
      refine Goes.ret ?_
      obtain rfl:=si g23
      exact Or.inr (⟨rfl,_,rfl,(gw2 [.i r27] (FzW.still tI))⟩)
     ·refine Goes.skip ?_
      refine gh fol (kV (kBK e.Names (e.Names.length:Int) (w64 (n22+1)) [])) ?_
      exact⟨M,(ofG 75 (kV (kBK e.Names (e.Names.length:Int) (w64 (n22+1)) [])),(kAE e)),Nat.lt_succ_self _,(Sub.refl _),_,rfl,g23⟩
    ·refine Goes.exit ?_
     obtain rfl:=si g23
     exact Or.inl (⟨rfl,rfl,(Sub.keep [1] rfl rfl)⟩)
  rintro x s' (⟨rfl,rfl,hsub⟩|⟨rfl,q38,rfl,hret⟩)
  ·try dsimp only at h
   refine Goes.sub hsub ?_
   refine sq ?_
   refine sh fol (kV [(59,vl encI e.Values),(60,.i (e.Values.length:Int)),(61,.i 0)]) ?_
   refine Goes.block ?_
   obtain⟨r30,g30,h⟩:=bnd h
   refine Goes.imp (Q:=fun x s'=>(x= .exit 2∧(.inl ())=r30∧Sub s' (ofG 75 (kV []),(kAE e)))∨(x= .ret∧ ∃q31,(.inr q31)=r30∧zy Tryz.prog [.tmp 2] (.i q31) .ret s')) ?_ ?_
   ·refine Goes.loopS (fun M s=> ∃(n29:Int),s=(ofG 75 (kV (kBL e.Values (e.Values.length:Int) n29 [])),(kAE e))∧zP e M n29=some r30) ?_ (m:=N) ⟨_,rfl,g30⟩
    rintro M s ⟨n29,rfl,g30⟩
    cases M with
    |zero=>simp only[zP]at g30;cases g30
    |succ M=>
     rw[zP]at g30
     refine sh fol (kV (kBL e.Values (e.Values.length:Int) n29 [(62,.bool (decide (n29<(e.Values.length:Int))))])) ?_
     refine sq ?_
     refine ihD g30 (fun c32 g30=>?_) (fun c32 g30=>?_)
     ·refine Goes.skip ?_
      refine sq (Goes.block ?_)
      obtain⟨x33,e_x33,g30⟩:=bnd g30
      refine sq (gr fol [0,1] (kV ((10,.i x33)::(kBL e.Values (e.Values.length:Int) n29 []))) (ac (iv yX encI e_x33) (ac (lv 0 ce3 encI e_x33 rfl) az)) ?_)
      obtain⟨r34,e_r34,g30⟩:=bnd g30
      refine sq (gr fol [1] (kV ((11,.i r34)::(kBL e.Values (e.Values.length:Int) n29 []))) (ac (cv (jM x33 0 999999999 e_r34)) az) ?_)
      refine sh fol (kV ((11,.i r34)::(kBL e.Values (e.Values.length:Int) n29 [(68,.bool (!decide (r34=0)))]))) ?_
      refine ihB g30 (fun c35 g30=>?_) (fun c35 g30=>?_)
      ·refine sh fol [(2,.i r34)] ?_
       refine Goes.ret ?_
       obtain rfl:=si g30
       exact Or.inr (⟨rfl,_,rfl,(gw2 [.i r34] (FzW.still tI))⟩)
      ·refine Goes.skip ?_
       refine gh fol (kV (kBL e.Values (e.Values.length:Int) (w64 (n29+1)) [])) ?_
       exact⟨M,(ofG 75 (kV (kBL e.Values (e.Values.length:Int) (w64 (n29+1)) [])),(kAE e)),Nat.lt_succ_self _,(Sub.refl _),_,rfl,g30⟩
     ·refine Goes.exit ?_
      obtain rfl:=si g30
      exact Or.inl (⟨rfl,rfl,(Sub.keep [1] rfl rfl)⟩)
   rintro x s' (⟨rfl,rfl,hsub⟩|⟨rfl,q37,rfl,hret⟩)
   ·try dsimp only at h
    refine Goes.sub hsub ?_
    obtain⟨r36,e_r36,h⟩:=bnd h
    refine sq (gr fol [3] [(2,.i r36)] (ac (cv (qH (!(e.Text==[])) 1 e_r36)) az) ?_)
    refine Goes.ret ?_
    obtain rfl:=si h
    exact(gw2 [.i r36] (FzW.still tI))
   ·try dsimp only at h
    obtain rfl:=si h
    exact hret
  ·try dsimp only at h
   obtain rfl:=si h
   exact hret
def zU (s_:Str):Nat→Nat→Int→Option Int
 |0,_,_=>none
 |K+1,k1,n2=>
  if k1<s_.length then
  zU s_ K (k1+runeLen s_ k1) (w64 (n2+1))
  else
  some n2
def utf8_RuneCountInString (N:Nat) (s_:Str):Option Int:=
 (zU s_ N 0 0).bind fun n3=>
 some n3
theorem xH (N:Nat) (s_:Str) {res:Int} (h:utf8_RuneCountInString N s_=some res):qf Tryz.prog (.fn 217) [.str s_] [] (.i res) []:=by
 unfold utf8_RuneCountInString at h
 refine Goes.fnW Tryz.func217 rfl rfl (m:=10) rfl (rs:=[.tmp 2]) rfl (l:=(kBF s_)) rfl ?_
 refine sh fol [(0,.str s_),(2,.i 0)] ?_
 refine sq ?_
 refine sg fol ((2,.i 0)::(kAw [])) [.iter s_ 0] ?_
 refine Goes.block ?_
 obtain⟨r4,g4,h⟩:=bnd h
 refine Goes.imp (Q:=fun x s'=>(x= .exit 0∧ ∃n3,n3=r4∧Sub s' (ofG 10 [(2,.i n3)],[]))) ?_ ?_
 ·refine Goes.sub (s':=(ofG 10 ((2,.i 0)::(kAw [])),[.iter s_ 0])) (Sub.keep [2,4] rfl rfl) ?_
  refine Goes.loopS (fun M s=> ∃(k1:Nat) (n2:Int),s=(ofG 10 ((2,.i n2)::(kAw [])),[.iter s_ k1])∧zU s_ M k1 n2=some r4) ?_ (m:=N) ⟨_,_,rfl,g4⟩
  rintro M s ⟨k1,n2,rfl,g4⟩
  cases M with
  |zero=>simp only[zU]at g4;cases g4
  |succ M=>
   rw[zU]at g4
   refine sq ?_
   rcases Classical.em (k1<s_.length)with c5|c5
   ·rw[if_pos c5]at g4
    refine gq fol [0] ((2,.i n2)::(kAw kBS)) [.iter s_ (k1+runeLen s_ k1)] (ac (hs (.run [0] (qc0 (.ptr 0 0) true) [.iter s_ k1] (.tuple [.bool true,.i (k1:Int),.int .i32 (vR s_ k1)]) [.iter s_ (k1+runeLen s_ k1)] true) (qhs rfl c5 rfl)) az) ?_
    refine sq ?_
    refine Goes.ifB (b:=true) (by kernel_rfl) (fun _=>?_) (fun c=>(by cases c))
    refine Goes.skip ?_
    refine Goes.block ?_
    refine gh fol ((2,.i (w64 (n2+1)))::(kAw [])) ?_
    exact⟨M,(ofG 10 ((2,.i (w64 (n2+1)))::(kAw [])),[.iter s_ (k1+runeLen s_ k1)]),Nat.lt_succ_self _,(Sub.keep [2,4] rfl rfl),_,_,rfl,g4⟩
   ·rw[if_neg c5]at g4
    refine gr fol [0] ((2,.i n2)::(kAw kAu)) (ac (hs (.run [0] (qc0 (.ptr 0 0) true) [.iter s_ k1] (.tuple [.bool false]) [.iter s_ k1] false) (qhJ rfl c5)) az) ?_
    refine sq ?_
    refine Goes.ifB (b:=false) (by kernel_rfl) (fun c=>(by cases c)) (fun _=>?_)
    refine Goes.exit ?_
    obtain rfl:=si g4
    exact⟨rfl,_,rfl,(Sub.norm [] [] rfl rfl (.keep (.same nI) .nil) .nil)⟩
 rintro x s' ⟨rfl,n3,rfl,hsub⟩
 refine Goes.sub hsub ?_
 refine sh fol [(2,.i n3)] ?_
 refine Goes.ret ?_
 obtain rfl:=si h
 exact(gw2 [.i n3] (FzW.still tI))
def yG (n5:Int):Nat→Option Unit
 |0=>none
 |K+1=>
  if 0<(w64 (n5-1))then
  none
  else
  some ()
def qa0 (N:Nat) (s_:Str) (n:Int):Option (List Str):=
 (utf8_RuneCountInString N s_).bind fun r1=>
 (if n<0 then
 some true
 else
 some (decide (n>r1)):Option Bool).bind fun b3=>
 ((if b3=true then
 some r1
 else
 some n:Option Int)).bind fun n5=>
 (mk 16 n5 []).bind fun l8=>
 (yG n5 N).bind fun _=>
 ((if n5>0 then
 (idx l8 (w64 (n5-1))).bind fun x14=>
 (put l8 (w64 (n5-1)) s_).bind fun l15=>
 some l15
 else
 some l8:Option (List Str))).bind fun l11=>
 some l11
theorem qem (N:Nat) (s_:Str) (n:Int) {res:List Str} (h:qa0 N s_ n=some res):qf Tryz.prog (.fn 162) [.str s_,.i n] [] (vl encS res) []:=by
 unfold qa0 at h
 refine Goes.fnW Tryz.func162 rfl rfl (m:=50) rfl (rs:=[.tmp 4]) rfl (l:=(kAk s_ n [])) rfl ?_
 refine sh fol (kAk s_ n []) ?_
 obtain⟨r1,e_r1,h⟩:=bnd h
 refine sq (gr fol [1] (kAk s_ n (kAn r1)) (ac (cv (xH N s_ e_r1)) az) ?_)
 refine sq ?_
 refine sq ?_
 obtain⟨b3,g_v4,h⟩:=bnd h
 refine Goes.cut (s':=(ofG 50 (kAk s_ n [(5,.i r1),(18,.bool b3)]),[])) ?_ ?_
 ·rcases wyD g_v4 with⟨c2,g_v4⟩|⟨c2,g_v4⟩
  ·obtain rfl:=si g_v4
   exact tr fol [2] (kAk s_ n [(5,.i r1),(18,.bool true)]) (ac (gw c2) az)
  ·obtain rfl:=si g_v4
   exact tr fol [2] (kAk s_ n [(5,.i r1),(18,.bool (decide (n>r1)))]) (ac (gw c2) az)
 obtain⟨r6,g6,h⟩:=bnd h
 refine Goes.imp (Q:=fun x s'=>(x= .normal∧ ∃n5,n5=r6∧Sub s' (ofG 50 (kAk s_ n5 []),[]))) ?_ ?_
 ·refine ihB g6 (fun c7 g6=>?_) (fun c7 g6=>?_)
  ·refine gh fol (kAk s_ r1 []) ?_
   obtain rfl:=si g6
   exact⟨rfl,_,rfl,(Sub.refl _)⟩
  ·refine Goes.skip ?_
   obtain rfl:=si g6
   exact⟨rfl,_,rfl,(Sub.keep [0,1] rfl rfl)⟩
 rintro x s' ⟨rfl,n5,rfl,hsub⟩
 refine Goes.sub hsub ?_
 obtain⟨l8,e_l8,h⟩:=bnd h
 refine sq (gq fol [1] (kAk s_ n5 (kAe l8 [])) (kM l8) (ac (hs (.run [] (xc Tryz.prog 37 (.i n5) (.i n5)) [] (.slice 0 0 l8.length l8.length 1) (kM l8) false) (qkq vV (E:=encS) (z:=[]) rfl (by kernel_rfl) e_l8 rfl)) az) ?_)
 refine sq ?_
 refine sh fol (kAk s_ n5 (kAe l8 [(7,.i 0)])) ?_
 refine Goes.block ?_
 obtain⟨r9,g9,h⟩:=bnd h
 refine Goes.imp (Q:=fun x s'=>(x= .exit 0∧()=r9∧Sub s' (ofG 50 (kAk s_ n5 (kAe l8 [])),(kM l8)))) ?_ ?_
 ·refine Goes.loopS (fun M s=>s=(ofG 50 (kAk s_ n5 (kAe l8 [(7,.i 0)])),(kM l8))∧yG n5 M=some r9) ?_ (m:=N) ⟨rfl,g9⟩
  rintro M s ⟨rfl,g9⟩
  cases M with
  |zero=>simp only[yG]at g9;cases g9
  |succ M=>
   rw[yG]at g9
   refine sq ?_
   refine sh fol (kAk s_ n5 (kAe l8 [(7,.i 0),(25,.bool (decide (0<(w64 (n5-1)))))])) ?_
   refine ihD g9 (fun c10 g9=>?_) (fun c10 g9=>?_)
   ·cases g9
   ·refine Goes.exit ?_
    obtain rfl:=si g9
    exact⟨rfl,rfl,(Sub.keep [0,1,6] rfl rfl)⟩
 rintro x s' ⟨rfl,rfl,hsub⟩
 refine Goes.sub hsub ?_
 refine sq ?_
 refine sh fol (kAk s_ n5 (kAe l8 [(43,.bool (decide (n5>0)))])) ?_
 obtain⟨r12,g12,h⟩:=bnd h
 refine Goes.imp (Q:=fun x s'=>(x= .normal∧ ∃l11,l11=r12∧Sub s' (ofG 50 (kAe l11 []),(kM l11)))) ?_ ?_
 ·refine ihD g12 (fun c13 g12=>?_) (fun c13 g12=>?_)
  ·obtain⟨x14,e_x14,g12⟩:=bnd g12
   obtain⟨l15,e_l15,g12⟩:=bnd g12
   refine gq fol [4,5] (kAe l8 []) (kM l15) (ac (hs (.done (.opt (qE Tryz.prog 37 (.slice 0 0 l8.length l8.length 1) (.i (w64 (n5-1))))) (.ptr 0 ((w64 (n5-1):Int).toNat*1+0))) (qi1 vV e_x14)) (ac (hs (.run [0] (xn Tryz.prog 9 (.ptr 0 ((w64 (n5-1):Int).toNat*1+0)) (.str s_)) (kM l8) .undef (kM l15) true) (qcS (E:=encS) (l:=l8) (y:=s_) rfl (show _=some 1 by kernel_rfl) rfl e_x14 rfl rfl rfl rfl rfl e_l15 rfl)) az)) ?_
   obtain rfl:=si g12
   exact⟨rfl,_,rfl,((show Sub (ofG 50 (kAe l8 []),(kM l15)) (ofG 50 (kAe l15 []),(kM l15))from(Sub.norm [] [some 0] rfl rfl (.keep (.sliceE rfl (xW e_l15)) .nil) (.ks .nil))).trans (Sub.refl _))⟩
  ·refine Goes.skip ?_
   obtain rfl:=si g12
   exact⟨rfl,_,rfl,(Sub.keep [6] rfl rfl)⟩
 rintro x s' ⟨rfl,l11,rfl,hsub⟩
 refine Goes.sub hsub ?_
 refine sh fol [(4,.slice 0 0 l11.length l11.length 1)] ?_
 refine Goes.ret ?_
 obtain rfl:=si h
 exact(gw2 [.slice 0 0 l11.length l11.length 1] (FzW.fz (Fz.sl (E:=encS) rfl rfl (nl rfl))))
def bytealg_Cutover (n:Int):Option Int:=
 some (w64 ((w64 (n+16)).tdiv 8))
def stringslite_Index (s_:Str) (substr:Str):Option Int:=
 (if(substr.length:Int)=0 then
 some true
 else
 some (substr==s_):Option Bool).bind fun b2=>
 if b2=true then
 some 0
 else
 if(substr.length:Int)=1 then
 (idx substr 0).bind fun c6=>
 (stringslite_IndexByte s_ (c6.toNat:Int)).bind fun r7=>
 some r7
 else
 if(substr.length:Int)≥(s_.length:Int)then
 some (-1)
 else
 none
theorem qaY (s_:Str) (substr:Str) {res:Int} (h:stringslite_Index s_ substr=some res):qf Tryz.prog (.fn 220) [.str s_,.str substr] [] (.i res) []:=by
 unfold stringslite_Index at h
 refine Goes.fnW Tryz.func220 rfl rfl (m:=143) rfl (rs:=[.tmp 4]) rfl (l:=(kT s_ substr [])) rfl ?_
 refine sh fol (kT s_ substr []) ?_
 refine sh fol (kT s_ substr (kAn (substr.length:Int))) ?_
 refine sq (Goes.block ?_)
 refine sq ?_
 obtain⟨b2,g_v3,h⟩:=bnd h
 refine Goes.cut (s':=(ofG 143 (kT s_ substr [(5,.i (substr.length:Int)),(16,.bool b2)]),[])) ?_ ?_
 ·rcases wyD g_v3 with⟨c1,g_v3⟩|⟨c1,g_v3⟩
  ·obtain rfl:=si g_v3
   exact tr fol [2] (kT s_ substr [(5,.i (substr.length:Int)),(16,.bool true)]) (ac (gw c1) az)
  ·obtain rfl:=si g_v3
   exact tr fol [2] (kT s_ substr [(5,.i (substr.length:Int)),(16,.bool (substr==s_))]) (ac (gw c1) az)
 refine ihB h (fun c4 h=>?_) (fun c4 h=>?_)
 ·refine sh fol kBR ?_
  refine Goes.ret ?_
  obtain rfl:=si h
  exact(gw2 [.i 0] (FzW.still tI))
 ·refine sh fol (kT s_ substr [(5,.i (substr.length:Int)),(24,.bool (decide ((substr.length:Int)=1)))]) ?_
  refine ihD h (fun c5 h=>?_) (fun c5 h=>?_)
  ·obtain⟨c6,e_c6,h⟩:=bnd h
   obtain⟨r7,e_r7,h⟩:=bnd h
   refine sq (gr fol [2,3] (kAq r7) (ac (hs (.done (.opt (qaa Tryz.prog 9 (.str substr) (.i 0))) (.int .u8 (c6.toNat:Int))) (qcJ st9 e_c6)) (ac (cv (xP s_ (c6.toNat:Int) e_r7)) az)) ?_)
   refine Goes.ret ?_
   obtain rfl:=si h
   exact(gw2 [.i r7] (FzW.still tI))
  ·refine sh fol (kT s_ substr [(5,.i (substr.length:Int)),(31,.bool (decide ((substr.length:Int)≥(s_.length:Int))))]) ?_
   refine ihD h (fun c8 h=>?_) (fun c8 h=>?_)
   ·refine sh fol [(4,.i (-1))] ?_
    refine Goes.ret ?_
    obtain rfl:=si h
    exact(gw2 [.i (-1)] (FzW.still tI))
   ·cases h
def strings_Index (s_:Str) (substr:Str):Option Int:=
 (stringslite_Index s_ substr).bind fun r1=>
 some r1
theorem qcc (s_:Str) (substr:Str) {res:Int} (h:strings_Index s_ substr=some res):qf Tryz.prog (.fn 164) [.str s_,.str substr] [] (.i res) []:=by
 unfold strings_Index at h
 refine Goes.fnW Tryz.func164 rfl rfl (m:=8) rfl (rs:=[.tmp 4]) rfl (l:=(kT s_ substr [])) rfl ?_
 refine sh fol (kT s_ substr []) ?_
 obtain⟨r1,e_r1,h⟩:=bnd h
 refine sq (gr fol [2] (kAq r1) (ac (cv (qaY s_ substr e_r1)) az) ?_)
 refine Goes.ret ?_
 obtain rfl:=si h
 exact(gw2 [.i r1] (FzW.still tI))
def yu (substr:Str):Nat→Str→Int→Option Int
 |0,_,_=>none
 |K+1,s6,n7=>
  (strings_Index s6 substr).bind fun r10=>
  if r10=(-1)then
  some n7
  else
  (cut s6 (w64 (r10+(substr.length:Int))) (s6.length:Int)).bind fun s12=>
  yu substr K s12 (w64 (n7+1))
def strings_Count (N:Nat) (s_:Str) (substr:Str):Option Int:=
 if(substr.length:Int)=0 then
 (utf8_RuneCountInString N s_).bind fun r2=>
 some (w64 (r2+1))
 else
 if(substr.length:Int)=1 then
 (idx substr 0).bind fun c4=>
 (qh5 s_ (c4.toNat:Int)).bind fun r5=>
 some r5
 else
 (yu substr N s_ 0).bind fun q13=>
 some q13
theorem qe4 (N:Nat) (s_:Str) (substr:Str) {res:Int} (h:strings_Count N s_ substr=some res):qf Tryz.prog (.fn 163) [.str s_,.str substr] [] (.i res) []:=by
 unfold strings_Count at h
 refine Goes.fnW Tryz.func163 rfl rfl (m:=34) rfl (rs:=[.tmp 4]) rfl (l:=(kT s_ substr [])) rfl ?_
 refine sh fol (kT s_ substr []) ?_
 refine sq ?_
 refine sh fol (kT s_ substr [(9,.bool (decide ((substr.length:Int)=0)))]) ?_
 refine ihD h (fun c1 h=>?_) (fun c1 h=>?_)
 ·obtain⟨r2,e_r2,h⟩:=bnd h
  refine sq (gr fol [1] (kAq (w64 (r2+1))) (ac (cv (xH N s_ e_r2)) az) ?_)
  refine Goes.ret ?_
  obtain rfl:=si h
  exact(gw2 [.i (w64 (r2+1))] (FzW.still tI))
 ·refine Goes.skip ?_
  refine sq ?_
  refine sh fol (kT s_ substr [(15,.bool (decide ((substr.length:Int)=1)))]) ?_
  refine ihD h (fun c3 h=>?_) (fun c3 h=>?_)
  ·obtain⟨c4,e_c4,h⟩:=bnd h
   obtain⟨r5,e_r5,h⟩:=bnd h
   refine sq (gr fol [2,3] (kAq r5) (ac (hs (.done (.opt (qaa Tryz.prog 9 (.str substr) (.i 0))) (.int .u8 (c4.toNat:Int))) (qcJ st9 e_c4)) (ac (cv (qlY s_ (c4.toNat:Int) e_r5)) az)) ?_)
   refine Goes.ret ?_
   obtain rfl:=si h
   exact(gw2 [.i r5] (FzW.still tI))
  ·refine Goes.skip ?_
   refine sh fol (kT s_ substr kBe) ?_
   refine Goes.block ?_
   obtain⟨r8,g8,h⟩:=bnd h
   refine Goes.imp (Q:=fun x s'=>(x= .ret∧ ∃q9,q9=r8∧zy Tryz.prog [.tmp 4] (.i q9) .ret s')) ?_ ?_
   ·refine Goes.loopS (fun M s=> ∃(s6:Str) (n7:Int),s=(ofG 34 (kT s6 substr (kAn n7)),[])∧yu substr M s6 n7=some r8) ?_ (m:=N) ⟨_,_,rfl,g8⟩
    rintro M s ⟨s6,n7,rfl,g8⟩
    cases M with
    |zero=>simp only[yu]at g8;cases g8
    |succ M=>
     rw[yu]at g8
     refine Goes.block ?_
     obtain⟨r10,e_r10,g8⟩:=bnd g8
     refine sq (gr fol [2] (kT s6 substr (kBk n7 r10 [])) (ac (cv (qcc s6 substr e_r10)) az) ?_)
     refine sq ?_
     refine sh fol (kT s6 substr (kBk n7 r10 [(24,.bool (decide (r10=(-1))))])) ?_
     refine ihD g8 (fun c11 g8=>?_) (fun c11 g8=>?_)
     ·refine sh fol (kAq n7) ?_
      refine Goes.ret ?_
      obtain rfl:=si g8
      exact⟨rfl,_,rfl,(gw2 [.i n7] (FzW.still tI))⟩
     ·refine Goes.skip ?_
      refine sh fol (kT s6 substr (kBk (w64 (n7+1)) r10 [])) ?_
      obtain⟨s12,e_s12,g8⟩:=bnd g8
      refine gr fol [5] (kT s12 substr (kAn (w64 (n7+1)))) (ac (hs (.done (.opt (qz Tryz.prog 9 (.str s6) (some (.i (w64 (r10+(substr.length:Int))))) none none)) (.str s12)) (yK st9 (some (w64 (r10+(substr.length:Int)))) none e_s12)) az) ?_
      exact⟨M,(ofG 34 (kT s12 substr (kAn (w64 (n7+1)))),[]),Nat.lt_succ_self _,(Sub.refl _),_,_,rfl,g8⟩
   rintro x s' ⟨rfl,q13,rfl,hret⟩
   obtain rfl:=si h
   exact hret
def zC (s_:Str) (sep:Str) (sepSave:Int) (n4:Int):Nat→(List Str)→Str→Int→Option ((List Str)×Str×Int)
 |0,_,_,_=>none
 |K+1,l9,s10,n11=>
  if n11<(w64 ((if(w64 ((s_.length:Int)+1))<n4 then(w64 ((s_.length:Int)+1))else n4)-1))then
  (strings_Index s10 sep).bind fun r17=>
  if r17<0 then
  some (l9,s10,n11)
  else
  (cut s10 0 (w64 (r17+sepSave))).bind fun s19=>
  (idx l9 n11).bind fun x20=>
  (put l9 n11 s19).bind fun l21=>
  (cut s10 (w64 (r17+(sep.length:Int))) (s10.length:Int)).bind fun s22=>
  zC s_ sep sepSave n4 K l21 s22 (w64 (n11+1))
  else
  some (l9,s10,n11)
def strings_genSplit (N:Nat) (s_:Str) (sep:Str) (sepSave:Int) (n:Int):Option (List Str):=
 if n=0 then
 some []
 else
 if(sep==[])=true then
 (qa0 N s_ n).bind fun r3=>
 some r3
 else
 ((if n<0 then
 (strings_Count N s_ sep).bind fun r7=>
 some (w64 (r7+1))
 else
 some n:Option Int)).bind fun n4=>
 (mk 16 (if(w64 ((s_.length:Int)+1))<n4 then(w64 ((s_.length:Int)+1))else n4) []).bind fun l8=>
 (zC s_ sep sepSave n4 N l8 s_ 0).bind fun(l12,s13,n14)=>
 (idx l12 n14).bind fun x23=>
 (put l12 n14 s13).bind fun l24=>
 (cut l24 0 (w64 (n14+1))).bind fun s25=>
 some s25
theorem qdT (N:Nat) (s_:Str) (sep:Str) (sepSave:Int) (n:Int) {res:List Str} (h:strings_genSplit N s_ sep sepSave n=some res):qf Tryz.prog (.fn 116) [.str s_,.str sep,.i sepSave,.i n] [] (vl encS res) []:=by
 unfold strings_genSplit at h
 refine Goes.fnW Tryz.func116 rfl rfl (m:=66) rfl (rs:=[.tmp 8]) rfl (l:=(kT s_ sep [(2,.i sepSave),(3,.i n)])) rfl ?_
 refine sh fol (kT s_ sep [(2,.i sepSave),(3,.i n)]) ?_
 refine sq ?_
 refine sh fol (kT s_ sep [(2,.i sepSave),(3,.i n),(13,.bool (decide (n=0)))]) ?_
 refine ihD h (fun c1 h=>?_) (fun c1 h=>?_)
 ·refine sh fol [(8,.nilslice)] ?_
  refine Goes.ret ?_
  obtain rfl:=si h
  exact(gw2 [.nilslice] (FzW.nilv (E:=encS)))
 ·refine Goes.skip ?_
  refine sq ?_
  refine sh fol (kT s_ sep [(2,.i sepSave),(3,.i n),(15,.bool (sep==[]))]) ?_
  refine ihB h (fun c2 h=>?_) (fun c2 h=>?_)
  ·obtain⟨r3,e_r3,h⟩:=bnd h
   refine sq (gr fol [2] [(8,vl encS r3)] (ac (cv (qem N s_ n e_r3)) az) ?_)
   refine Goes.ret ?_
   obtain rfl:=si h
   exact(gw2 [vl encS r3] (FzW.still (ko encS _ (nl rfl))))
  ·refine Goes.skip ?_
   refine sq ?_
   refine sh fol (kT s_ sep [(2,.i sepSave),(3,.i n),(20,.bool (decide (n<0)))]) ?_
   obtain⟨r5,g5,h⟩:=bnd h
   refine Goes.imp (Q:=fun x s'=>(x= .normal∧ ∃n4,n4=r5∧Sub s' (ofG 66 (kT s_ sep [(2,.i sepSave),(3,.i n4)]),[]))) ?_ ?_
   ·refine ihD g5 (fun c6 g5=>?_) (fun c6 g5=>?_)
    ·obtain⟨r7,e_r7,g5⟩:=bnd g5
     refine gr fol [2] (kT s_ sep [(2,.i sepSave),(3,.i (w64 (r7+1)))]) (ac (cv (qe4 N s_ sep e_r7)) az) ?_
     obtain rfl:=si g5
     exact⟨rfl,_,rfl,(Sub.refl _)⟩
    ·refine Goes.skip ?_
     obtain rfl:=si g5
     exact⟨rfl,_,rfl,(Sub.keep [0,1,2,3] rfl rfl)⟩
   rintro x s' ⟨rfl,n4,rfl,hsub⟩
   refine Goes.sub hsub ?_
   refine sh fol (kT s_ sep [(2,.i sepSave),(3,.i (if(w64 ((s_.length:Int)+1))<n4 then(w64 ((s_.length:Int)+1))else n4))]) ?_
   obtain⟨l8,e_l8,h⟩:=bnd h
   refine sq (gq fol [1] (kP s_ sep sepSave (if(w64 ((s_.length:Int)+1))<n4 then(w64 ((s_.length:Int)+1))else n4) l8 []) (kM l8) (ac (hs (.run [] (xc Tryz.prog 37 (.i (if(w64 ((s_.length:Int)+1))<n4 then(w64 ((s_.length:Int)+1))else n4)) (.i (if(w64 ((s_.length:Int)+1))<n4 then(w64 ((s_.length:Int)+1))else n4))) [] (.slice 0 0 l8.length l8.length 1) (kM l8) false) (qkq vV (E:=encS) (z:=[]) rfl (by kernel_rfl) e_l8 rfl)) az) ?_)
   refine sh fol (kP s_ sep sepSave (w64 ((if(w64 ((s_.length:Int)+1))<n4 then(w64 ((s_.length:Int)+1))else n4)-1)) l8 []) ?_
   refine sh fol (kP s_ sep sepSave (w64 ((if(w64 ((s_.length:Int)+1))<n4 then(w64 ((s_.length:Int)+1))else n4)-1)) l8 [(10,.i 0)]) ?_
   refine sq (Goes.block ?_)
   obtain⟨r15,g15,h⟩:=bnd h
   refine Goes.imp (Q:=fun x s'=>(x= .exit 0∧ ∃l12 s13 n14,(l12,s13,n14)=r15∧Sub s' (ofG 66 ((0,.str s13)::(kBT l12 n14)),(kM l12)))) ?_ ?_
   ·refine Goes.loopS (fun M s=> ∃(l9:List Str) (s10:Str) (n11:Int),s=(ofG 66 (kP s10 sep sepSave (w64 ((if(w64 ((s_.length:Int)+1))<n4 then(w64 ((s_.length:Int)+1))else n4)-1)) l9 [(10,.i n11)]),(kM l9))∧zC s_ sep sepSave n4 M l9 s10 n11=some r15) ?_ (m:=N) ⟨_,_,_,rfl,g15⟩
    rintro M s ⟨l9,s10,n11,rfl,g15⟩
    cases M with
    |zero=>simp only[zC]at g15;cases g15
    |succ M=>
     rw[zC]at g15
     refine sq ?_
     refine sh fol (kP s10 sep sepSave (w64 ((if(w64 ((s_.length:Int)+1))<n4 then(w64 ((s_.length:Int)+1))else n4)-1)) l9 [(10,.i n11),(36,.bool (decide (n11<(w64 ((if(w64 ((s_.length:Int)+1))<n4 then(w64 ((s_.length:Int)+1))else n4)-1)))))]) ?_
     refine ihD g15 (fun c16 g15=>?_) (fun c16 g15=>?_)
     ·refine Goes.skip ?_
      refine Goes.block ?_
      obtain⟨r17,e_r17,g15⟩:=bnd g15
      refine sq (gr fol [2] (kP s10 sep sepSave (w64 ((if(w64 ((s_.length:Int)+1))<n4 then(w64 ((s_.length:Int)+1))else n4)-1)) l9 (kBN n11 r17)) (ac (cv (qcc s10 sep e_r17)) az) ?_)
      refine sq ?_
      refine sh fol (kP s10 sep sepSave (w64 ((if(w64 ((s_.length:Int)+1))<n4 then(w64 ((s_.length:Int)+1))else n4)-1)) l9 [(10,.i n11),(11,.i r17),(41,.bool (decide (r17<0)))]) ?_
      refine ihD g15 (fun c18 g15=>?_) (fun c18 g15=>?_)
      ·refine Goes.exit ?_
       obtain rfl:=si g15
       exact⟨rfl,_,_,_,rfl,(Sub.keep [0,9,10] rfl rfl)⟩
      ·refine Goes.skip ?_
       obtain⟨s19,e_s19,g15⟩:=bnd g15
       obtain⟨x20,e_x20,g15⟩:=bnd g15
       obtain⟨l21,e_l21,g15⟩:=bnd g15
       refine sq (gq fol [6,7,8] (kP s10 sep sepSave (w64 ((if(w64 ((s_.length:Int)+1))<n4 then(w64 ((s_.length:Int)+1))else n4)-1)) l9 (kBN n11 r17)) (kM l21) (ac (hs (.done (.opt (qz Tryz.prog 9 (.str s10) none (some (.i (w64 (r17+sepSave)))) none)) (.str s19)) (yK st9 none (some (w64 (r17+sepSave))) e_s19)) (ac (hs (.done (.opt (qE Tryz.prog 37 (.slice 0 0 l9.length l9.length 1) (.i n11))) (.ptr 0 ((n11:Int).toNat*1+0))) (qi1 vV e_x20)) (ac (hs (.run [0] (xn Tryz.prog 9 (.ptr 0 ((n11:Int).toNat*1+0)) (.str s19)) (kM l9) .undef (kM l21) true) (qcS (E:=encS) (l:=l9) (y:=s19) rfl (show _=some 1 by kernel_rfl) rfl e_x20 rfl rfl rfl rfl rfl e_l21 rfl)) az))) ?_)
       refine Goes.sub (show Sub (ofG 66 (kP s10 sep sepSave (w64 ((if(w64 ((s_.length:Int)+1))<n4 then(w64 ((s_.length:Int)+1))else n4)-1)) l9 (kBN n11 r17)),(kM l21)) (ofG 66 (kP s10 sep sepSave (w64 ((if(w64 ((s_.length:Int)+1))<n4 then(w64 ((s_.length:Int)+1))else n4)-1)) l21 (kBN n11 r17)),(kM l21))from(Sub.norm [] [some 0] rfl rfl (.keep (.same nS) (.keep (.same nS) (.keep (.same nI) (.keep (.same nI) (.keep (.sliceE rfl (xW e_l21)) (.keep (.same nI) (.keep (.same nI) .nil))))))) (.ks .nil))) ?_
       obtain⟨s22,e_s22,g15⟩:=bnd g15
       refine sq (gr fol [5] (kP s22 sep sepSave (w64 ((if(w64 ((s_.length:Int)+1))<n4 then(w64 ((s_.length:Int)+1))else n4)-1)) l21 [(10,.i n11)]) (ac (hs (.done (.opt (qz Tryz.prog 9 (.str s10) (some (.i (w64 (r17+(sep.length:Int))))) none none)) (.str s22)) (yK st9 (some (w64 (r17+(sep.length:Int)))) none e_s22)) az) ?_)
       refine gh fol (kP s22 sep sepSave (w64 ((if(w64 ((s_.length:Int)+1))<n4 then(w64 ((s_.length:Int)+1))else n4)-1)) l21 [(10,.i (w64 (n11+1)))]) ?_
       exact⟨M,(ofG 66 (kP s22 sep sepSave (w64 ((if(w64 ((s_.length:Int)+1))<n4 then(w64 ((s_.length:Int)+1))else n4)-1)) l21 [(10,.i (w64 (n11+1)))]),(kM l21)),Nat.lt_succ_self _,(Sub.refl _),_,_,_,rfl,g15⟩
     ·refine Goes.exit ?_
      obtain rfl:=si g15
      exact⟨rfl,_,_,_,rfl,(Sub.keep [0,9,10] rfl rfl)⟩
   rintro x s' ⟨rfl,l12,s13,n14,rfl,hsub⟩
   try dsimp only at h
   refine Goes.sub hsub ?_
   obtain⟨x23,e_x23,h⟩:=bnd h
   obtain⟨l24,e_l24,h⟩:=bnd h
   refine sq (gq fol [3,4] (kBT l12 n14) (kM l24) (ac (hs (.done (.opt (qE Tryz.prog 37 (.slice 0 0 l12.length l12.length 1) (.i n14))) (.ptr 0 ((n14:Int).toNat*1+0))) (qi1 vV e_x23)) (ac (hs (.run [0] (xn Tryz.prog 9 (.ptr 0 ((n14:Int).toNat*1+0)) (.str s13)) (kM l12) .undef (kM l24) true) (qcS (E:=encS) (l:=l12) (y:=s13) rfl (show _=some 1 by kernel_rfl) rfl e_x23 rfl rfl rfl rfl rfl e_l24 rfl)) az)) ?_)
   refine Goes.sub (show Sub (ofG 66 (kBT l12 n14),(kM l24)) (ofG 66 (kBT l24 n14),(kM l24))from(Sub.norm [] [some 0] rfl rfl (.keep (.sliceE rfl (xW e_l24)) (.keep (.same nI) .nil)) (.ks .nil))) ?_
   refine sq (Goes.sub (s':=(ofG 66 [(9,vl encS l24),(10,.i n14)],[])) (Sub.norm [0] [] rfl rfl (.keep (.frz (Fz.sl (E:=encS) rfl rfl (nl rfl)) (qw encS _)) (.keep (.same nI) .nil)) .nil) ?_)
   obtain⟨s25,e_s25,h⟩:=bnd h
   refine gr fol [3] [(8,vl encS s25)] (ac (hs (.done (.opt (qz Tryz.prog 37 (vl encS l24) none (some (.i (w64 (n14+1)))) none)) (vl encS s25)) (qda vV (E:=encS) rfl none (some (w64 (n14+1))) e_s25)) az) ?_
   refine Goes.ret ?_
   obtain rfl:=si h
   exact(gw2 [vl encS s25] (FzW.still (ko encS _ (nl rfl))))
def strings_Split (N:Nat) (s_:Str) (sep:Str):Option (List Str):=
 (strings_genSplit N s_ sep 0 (-1)).bind fun r1=>
 some r1
theorem qff (N:Nat) (s_:Str) (sep:Str) {res:List Str} (h:strings_Split N s_ sep=some res):qf Tryz.prog (.fn 72) [.str s_,.str sep] [] (vl encS res) []:=by
 unfold strings_Split at h
 refine Goes.fnW Tryz.func72 rfl rfl (m:=8) rfl (rs:=[.tmp 4]) rfl (l:=(kT s_ sep [])) rfl ?_
 refine sh fol (kT s_ sep []) ?_
 obtain⟨r1,e_r1,h⟩:=bnd h
 refine sq (gr fol [2] [(4,vl encS r1)] (ac (cv (qdT N s_ sep 0 (-1) e_r1)) az) ?_)
 refine Goes.ret ?_
 obtain rfl:=si h
 exact(gw2 [vl encS r1] (FzW.still (ko encS _ (nl rfl))))
def zb (s_:List Str) (v:Str):Nat→Int→Option (Unit⊕Int)
 |0,_=>none
 |K+1,n1=>
  if n1<(s_.length:Int)then
  (idx s_ n1).bind fun x5=>
  if(v==x5)=true then
  some (.inr n1)
  else
  zb s_ v K (w64 (n1+1))
  else
  some (.inl ())
def slices_Index_string (N:Nat) (s_:List Str) (v:Str):Option Int:=
 (zb s_ v N 0).bind (fun
 |(.inl ())=>
 some (-1)
 |(.inr q7)=>
 some q7)
theorem qcD (N:Nat) (s_:List Str) (v:Str) {res:Int} (h:slices_Index_string N s_ v=some res):qf Tryz.prog (.fn 127) [vl encS s_,.str v] [] (.i res) []:=by
 unfold slices_Index_string at h
 refine Goes.fnW Tryz.func127 rfl rfl (m:=19) rfl (rs:=[.tmp 4]) rfl (l:=(kA7 s_ v [])) rfl ?_
 refine sh fol (kA7 s_ v []) ?_
 refine sq ?_
 refine sh fol (kA7 s_ v [(7,.i (s_.length:Int)),(8,.i 0)]) ?_
 refine Goes.block ?_
 obtain⟨r2,g2,h⟩:=bnd h
 refine Goes.imp (Q:=fun x s'=>(x= .exit 0∧(.inl ())=r2∧Sub s' (ofG 19 [],[]))∨(x= .ret∧ ∃q3,(.inr q3)=r2∧zy Tryz.prog [.tmp 4] (.i q3) .ret s')) ?_ ?_
 ·refine Goes.loopS (fun M s=> ∃(n1:Int),s=(ofG 19 (kA7 s_ v (kA6 (s_.length:Int) n1)),[])∧zb s_ v M n1=some r2) ?_ (m:=N) ⟨_,rfl,g2⟩
  rintro M s ⟨n1,rfl,g2⟩
  cases M with
  |zero=>simp only[zb]at g2;cases g2
  |succ M=>
   rw[zb]at g2
   refine sh fol (kA7 s_ v [(7,.i (s_.length:Int)),(8,.i n1),(9,.bool (decide (n1<(s_.length:Int))))]) ?_
   refine sq ?_
   refine ihD g2 (fun c4 g2=>?_) (fun c4 g2=>?_)
   ·refine Goes.skip ?_
    refine sq (Goes.block ?_)
    refine sh fol (kA7 s_ v ((5,.i n1)::(kA6 (s_.length:Int) n1))) ?_
    obtain⟨x5,e_x5,g2⟩:=bnd g2
    refine sq (gr fol [3,4] (kA7 s_ v [(5,.i n1),(7,.i (s_.length:Int)),(8,.i n1),(16,.bool (v==x5))]) (ac (iv vV encS e_x5) (ac (lv 0 ce9 encS e_x5 rfl) az)) ?_)
    refine ihB g2 (fun c6 g2=>?_) (fun c6 g2=>?_)
    ·refine sh fol (kAq n1) ?_
     refine Goes.ret ?_
     obtain rfl:=si g2
     exact Or.inr (⟨rfl,_,rfl,(gw2 [.i n1] (FzW.still tI))⟩)
    ·refine Goes.skip ?_
     refine gh fol (kA7 s_ v (kA6 (s_.length:Int) (w64 (n1+1)))) ?_
     exact⟨M,(ofG 19 (kA7 s_ v (kA6 (s_.length:Int) (w64 (n1+1)))),[]),Nat.lt_succ_self _,(Sub.refl _),_,rfl,g2⟩
   ·refine Goes.exit ?_
    obtain rfl:=si g2
    exact Or.inl (⟨rfl,rfl,(Sub.keep [] rfl rfl)⟩)
 rintro x s' (⟨rfl,rfl,hsub⟩|⟨rfl,q7,rfl,hret⟩)
 ·try dsimp only at h
  refine Goes.sub hsub ?_
  refine sh fol [(4,.i (-1))] ?_
  refine Goes.ret ?_
  obtain rfl:=si h
  exact(gw2 [.i (-1)] (FzW.still tI))
 ·try dsimp only at h
  obtain rfl:=si h
  exact hret
def slices_Contains_string (N:Nat) (s_:List Str) (v:Str):Option Bool:=
 (slices_Index_string N s_ v).bind fun r1=>
 some (decide (r1≥0))
theorem qbA (N:Nat) (s_:List Str) (v:Str) {res:Bool} (h:slices_Contains_string N s_ v=some res):qf Tryz.prog (.fn 76) [vl encS s_,.str v] [] (.bool res) []:=by
 unfold slices_Contains_string at h
 refine Goes.fnW Tryz.func76 rfl rfl (m:=9) rfl (rs:=[.tmp 4]) rfl (l:=(kA7 s_ v [])) rfl ?_
 refine sh fol (kA7 s_ v []) ?_
 obtain⟨r1,e_r1,h⟩:=bnd h
 refine sq (gr fol [2] (kBM (decide (r1≥0))) (ac (cv (qcD N s_ v e_r1)) az) ?_)
 refine Goes.ret ?_
 obtain rfl:=si h
 exact(gw2 [.bool (decide (r1≥0))] (FzW.still tB))
def jH:Option (List Str):=
 qgI (some []) ((app 16 ([]:List Str) ([]:List Str)).bind fun l1=>
 some l1)
theorem qb1 {res:List Str} (h:jH=some res):qf Tryz.prog (.fn 113) [vl encS ([]:List Str)] [] (vl encS res) []:=by
 unfold jH at h
 refine Goes.fnW Tryz.func113 rfl rfl (m:=8) rfl (rs:=[.tmp 2]) rfl (l:=[(0,vl encS ([]:List Str))]) rfl ?_
 refine sh fol [(0,vl encS ([]:List Str))] ?_
 refine sq ?_
 refine sh fol [(0,vl encS ([]:List Str)),(4,.anyb)] ?_
 refine Goes.condAny (by kernel_rfl) ?_ ?_
 ·replace h:=(qcq h).1
  refine sh fol [(2,.nilslice)] ?_
  refine Goes.ret ?_
  obtain rfl:=si h
  exact(gw2 [.nilslice] (FzW.nilv (E:=encS)))
 ·replace h:=(qcq h).2
  refine Goes.skip ?_
  obtain⟨l1,e_l1,h⟩:=bnd h
  refine sq (gq fol [2] [(2,.oslice 1 l1.length 1)] (.dead::(kM l1)) (ac (hs (.run [0] (qR Tryz.prog [37,37] (.slice 0 0 0 0 1) (vl encS ([]:List Str))) [.cells []] (.oslice 1 l1.length 1) (.dead::(kM l1)) true) (jG vV (E:=encS) rfl (qdv (E:=encS) rfl _) (qfz (E:=encS) rfl rfl rfl e_l1 rfl))) az) ?_)
  refine Goes.ret ?_
  obtain rfl:=si h
  exact(gw2 [.oslice 1 l1.length 1] (FzW.fz (Fz.os (E:=encS) rfl rfl (nl rfl))))
def z8 (x:Str) (xs:List Str):Option (List Str):=
 (app 16 ([]:List Str) (x::xs)).bind fun l1=>
 some l1
theorem qbV (x:Str) (xs:List Str) {res:List Str} (h:z8 x xs=some res):qf Tryz.prog (.fn 113) [vl encS (x::xs)] [] (vl encS res) []:=by
 unfold z8 at h
 refine Goes.fnW Tryz.func113 rfl rfl (m:=8) rfl (rs:=[.tmp 2]) rfl (l:=[(0,vl encS (x::xs))]) rfl ?_
 refine sh fol [(0,vl encS (x::xs))] ?_
 refine sq ?_
 refine sh fol ((0,vl encS (x::xs))::kAf) ?_
 refine Goes.ifB (b:=false) (by kernel_rfl) (fun c=>(by cases c)) (fun _=>?_)
 refine Goes.skip ?_
 obtain⟨l1,e_l1,h⟩:=bnd h
 refine sq (gq fol [2] [(2,.oslice 1 l1.length 1)] (.dead::(kM l1)) (ac (hs (.run [0] (qR Tryz.prog [37,37] (.slice 0 0 0 0 1) (vl encS (x::xs))) [.cells []] (.oslice 1 l1.length 1) (.dead::(kM l1)) true) (jG vV (E:=encS) rfl (qdv (E:=encS) rfl _) (qfz (E:=encS) rfl rfl rfl e_l1 rfl))) az) ?_)
 refine Goes.ret ?_
 obtain rfl:=si h
 exact(gw2 [.oslice 1 l1.length 1] (FzW.fz (Fz.os (E:=encS) rfl rfl (nl rfl))))
def slices_Clone_string:List Str→Option (List Str)
 |[]=>jH
 |x::xs=>z8 x xs
theorem qat (l:List Str) {res:List Str} (h:slices_Clone_string l=some res):qf Tryz.prog (.fn 113) [vl encS l] [] (vl encS res) []:=by
 cases l with
 |nil=>exact qb1 h
 |cons x xs=>exact qbV x xs h
def yn (s_:Str):Option (Int×Bool):=
 (if(s_.length:Int)>9 then
 some true
 else
 (vW s_).bind fun r2=>
 if(!r2)=true then
 some true
 else
 (idx s_ 0).bind fun c4=>
 if(c4.toNat:Int)=48 then
 some (!(s_==[48]))
 else
 some false:Option Bool).bind fun b6=>
 if b6=true then
 some (0,false)
 else
 (qjI s_).bind fun r9=>
 some (r9.1,true)
theorem qbO (s_:Str) {res:Int×Bool} (h:yn s_=some res):qf Tryz.prog (.fn 114) [.str s_] [] (.tuple [.i res.1,.bool res.2]) []:=by
 unfold yn at h
 refine Goes.fnW Tryz.func114 rfl rfl (m:=31) rfl (rs:=[.tmp 2,.tmp 3]) rfl (l:=(kBF s_)) rfl ?_
 refine sh fol (kBF s_) ?_
 refine sq ?_
 refine sq ?_
 obtain⟨b6,g_v7,h⟩:=bnd h
 refine Goes.cut (s':=(ofG 31 [(0,.str s_),(22,.bool b6)],[])) ?_ ?_
 ·rcases wyD g_v7 with⟨c1,g_v7⟩|⟨c1,g_v7⟩
  ·obtain rfl:=si g_v7
   exact tr fol [3] [(0,.str s_),(22,.bool true)] (ac (gw c1) az)
  ·obtain⟨r2,e_r2,g_v7⟩:=bnd g_v7
   rcases wyB g_v7 with⟨c3,g_v7⟩|⟨c3,g_v7⟩
   ·obtain rfl:=si g_v7
    exact tr fol [3,5,8] [(0,.str s_),(22,.bool true)] (ac (gw c1) (ac (cv (yJ s_ e_r2)) (ac (gw c3) az)))
   ·obtain⟨c4,e_c4,g_v7⟩:=bnd g_v7
    rcases wyD g_v7 with⟨c5,g_v7⟩|⟨c5,g_v7⟩
    ·obtain rfl:=si g_v7
     exact tr fol [3,5,8,10,12] [(0,.str s_),(22,.bool (!(s_==[48])))] (ac (gw c1) (ac (cv (yJ s_ e_r2)) (ac (gw c3) (ac (hs (.done (.opt (qaa Tryz.prog 9 (.str s_) (.i 0))) (.int .u8 (c4.toNat:Int))) (qcJ st9 e_c4)) (ac (gw c5) az)))))
    ·obtain rfl:=si g_v7
     exact tr fol [3,5,8,10,12] [(0,.str s_),(22,.bool false)] (ac (gw c1) (ac (cv (yJ s_ e_r2)) (ac (gw c3) (ac (hs (.done (.opt (qaa Tryz.prog 9 (.str s_) (.i 0))) (.int .u8 (c4.toNat:Int))) (qcJ st9 e_c4)) (ac (gw c5) az)))))
 refine ihB h (fun c8 h=>?_) (fun c8 h=>?_)
 ·refine sh fol [(2,.i 0),(3,.bool false)] ?_
  refine Goes.ret ?_
  obtain rfl:=si h
  exact(gw2 [.i 0,.bool false] (FzW.tuple (qj.cons (FzW.still tI) (qj.cons (FzW.still tB) qj.nil))))
 ·refine Goes.skip ?_
  obtain⟨r9,e_r9,h⟩:=bnd h
  refine sq (gr fol [1] [(4,.i r9.1),(5,.niliface)] (ac (cv (qnp s_ e_r9)) az) ?_)
  refine sh fol [(2,.i r9.1),(3,.bool true)] ?_
  refine Goes.ret ?_
  obtain rfl:=si h
  exact(gw2 (.i r9.1::kA3) (FzW.tuple (qj.cons (FzW.still tI) (qj.cons (FzW.still tB) qj.nil))))
def zO (s23:List Str):Nat→(List Int)→Int→Option ((List Int)⊕(qb×Bool))
 |0,_,_=>none
 |K+1,l24,n25=>
  if n25<(s23.length:Int)then
  (idx s23 n25).bind fun x30=>
  (yn x30).bind fun r31=>
  if(!r31.2)=true then
  some (.inr ((⟨0,[],[],[],[]⟩:qb),false))
  else
  (app 8 l24 [r31.1]).bind fun l33=>
  zO s23 K l33 (w64 (n25+1))
  else
  some (.inl l24)
def yQ (N:Nat) (s_:Str):Option (qb×Bool):=
 (strings_Split N s_ [32]).bind fun r1=>
 ((zF).bind fun r2=>
 (idx r1 0).bind fun x3=>
 if(x3==[109,97,107,101])=true then
 some (2,3,true)
 else
 if(x3==[116,101,115,116])=true then
 some (1,2,true)
 else
 if(x3==[117,115,101])=true then
 some (1,2,true)
 else
 if(x3==[102,97,105,108])=true then
 some (1,1,true)
 else
 if(x3==[114,101,99,97,108,108])=true then
 some (1,1,true)
 else
 if(x3==[117,110,100,111])=true then
 some (0,0,true)
 else
 some (0,0,false):Option (Int×Int×Bool)).bind fun(n10,n11,b12)=>
 (if(!b12)=true then
 some true
 else
 if(!decide ((r1.length:Int)=(w64 ((w64 (1+n10))+n11))))=true then
 some true
 else
 (slices_Contains_string N r1 []).bind fun r16=>
 some r16:Option Bool).bind fun b17=>
 if b17=true then
 some ((⟨0,[],[],[],[]⟩:qb),false)
 else
 (idx r1 0).bind fun x20=>
 (cut r1 1 (w64 (1+n10))).bind fun s21=>
 (slices_Clone_string s21).bind fun r22=>
 (cut r1 (w64 (1+n10)) (r1.length:Int)).bind fun s23=>
 (zO s23 N ([]:List Int) 0).bind (fun
 |(.inl l26)=>
 some ((⟨0,x20,r22,l26,[]⟩:qb),true)
 |(.inr q34)=>
 some q34)
theorem qej (N:Nat) (s_:Str) {res:qb×Bool} (h:yQ N s_=some res):qf Tryz.prog (.fn 70) [.str s_] [] (.tuple [.agg (cE res.1),.bool res.2]) []:=by
 unfold yQ at h
 refine Goes.fnW Tryz.func70 rfl rfl (m:=76) rfl (rs:=[.cell 2 40,.tmp 3]) rfl (l:=(kBF s_)) rfl ?_
 refine sg fol ((0,.str s_)::(kR [])) (kJ []) ?_
 obtain⟨r1,e_r1,h⟩:=bnd h
 refine sq (gr fol [1] (kR [(4,vl encS r1)]) (ac (cv (qff N s_ [32] e_r1)) az) ?_)
 refine sq ?_
 obtain⟨⟨n10,n11,b12⟩,g_v13,h⟩:=bnd h
 refine Goes.cutS (s':=(ofG 76 (kR (kAg r1 [(6,.bool b12)])),(kJ (kBh n10 n11 [])))) ?_ ?_
 ·obtain⟨r2,e_r2,g_v13⟩:=bnd g_v13
  obtain⟨x3,e_x3,g_v13⟩:=bnd g_v13
  rcases wyB g_v13 with⟨c4,g_v13⟩|⟨c4,g_v13⟩
  ·simp only[Option.some.injEq,Prod.mk.injEq]at g_v13
   obtain⟨rfl,rfl,rfl⟩:=g_v13
   exact qh.sub (qh.rq fol [0,2,3,4] (kR (kAg r1 kBS)) (kJ [.cells [.i 2,.i 3,.func (.func 117) [] []]]) (ac (cv (qy e_r2)) (ac (iv vV encS e_x3) (ac (lv 0 ce9 encS e_x3 rfl) (ac (hs (.done (zM Tryz.prog 140 (fm1) (.str x3) true) (.tuple (.agg [.i 2,.i 3,.func (.func 117) [] []]::kA3))) (qa1 qau [[109,97,107,101],[116,101,115,116],[117,115,101],[102,97,105,108],[114,101,99,97,108,108],[117,110,100,111]] (jk c4) rfl)) az))))) (Sub.norm [] [some 0,some 1] rfl rfl (.kp (.keep (.same (qw encS _)) (.kp (.keep (.same nB) .nil)))) (.kb rfl (.same sn) (.kb rfl (.cells (rc (.same nI) (rc (.same nI) (rc (.undef) rn)))) .nil)))
  ·rcases wyB g_v13 with⟨c5,g_v13⟩|⟨c5,g_v13⟩
   ·simp only[Option.some.injEq,Prod.mk.injEq]at g_v13
    obtain⟨rfl,rfl,rfl⟩:=g_v13
    exact qh.sub (qh.rq fol [0,2,3,4] (kR (kAg r1 kBS)) (kJ [.cells [.i 1,.i 2,.func (.func 118) [] []]]) (ac (cv (qy e_r2)) (ac (iv vV encS e_x3) (ac (lv 0 ce9 encS e_x3 rfl) (ac (hs (.done (zM Tryz.prog 140 (fm1) (.str x3) true) (.tuple (.agg [.i 1,.i 2,.func (.func 118) [] []]::kA3))) (qa1 qau [[109,97,107,101],[116,101,115,116],[117,115,101],[102,97,105,108],[114,101,99,97,108,108],[117,110,100,111]] (ql c4 (jk c5)) rfl)) az))))) (Sub.norm [] [some 0,some 1] rfl rfl (.kp (.keep (.same (qw encS _)) (.kp (.keep (.same nB) .nil)))) (.kb rfl (.same sn) (.kb rfl (.cells (rc (.same nI) (rc (.same nI) (rc (.undef) rn)))) .nil)))
   ·rcases wyB g_v13 with⟨c6,g_v13⟩|⟨c6,g_v13⟩
    ·simp only[Option.some.injEq,Prod.mk.injEq]at g_v13
     obtain⟨rfl,rfl,rfl⟩:=g_v13
     exact qh.sub (qh.rq fol [0,2,3,4] (kR (kAg r1 kBS)) (kJ [.cells [.i 1,.i 2,.func (.func 119) [] []]]) (ac (cv (qy e_r2)) (ac (iv vV encS e_x3) (ac (lv 0 ce9 encS e_x3 rfl) (ac (hs (.done (zM Tryz.prog 140 (fm1) (.str x3) true) (.tuple (.agg [.i 1,.i 2,.func (.func 119) [] []]::kA3))) (qa1 qau [[109,97,107,101],[116,101,115,116],[117,115,101],[102,97,105,108],[114,101,99,97,108,108],[117,110,100,111]] (ql c4 (ql c5 (jk c6))) rfl)) az))))) (Sub.norm [] [some 0,some 1] rfl rfl (.kp (.keep (.same (qw encS _)) (.kp (.keep (.same nB) .nil)))) (.kb rfl (.same sn) (.kb rfl (.cells (rc (.same nI) (rc (.same nI) (rc (.undef) rn)))) .nil)))
    ·rcases wyB g_v13 with⟨c7,g_v13⟩|⟨c7,g_v13⟩
     ·simp only[Option.some.injEq,Prod.mk.injEq]at g_v13
      obtain⟨rfl,rfl,rfl⟩:=g_v13
      exact qh.sub (qh.rq fol [0,2,3,4] (kR (kAg r1 kBS)) (kJ [.cells [.i 1,.i 1,.func (.func 120) [] []]]) (ac (cv (qy e_r2)) (ac (iv vV encS e_x3) (ac (lv 0 ce9 encS e_x3 rfl) (ac (hs (.done (zM Tryz.prog 140 (fm1) (.str x3) true) (.tuple (.agg [.i 1,.i 1,.func (.func 120) [] []]::kA3))) (qa1 qau [[109,97,107,101],[116,101,115,116],[117,115,101],[102,97,105,108],[114,101,99,97,108,108],[117,110,100,111]] (ql c4 (ql c5 (ql c6 (jk c7)))) rfl)) az))))) (Sub.norm [] [some 0,some 1] rfl rfl (.kp (.keep (.same (qw encS _)) (.kp (.keep (.same nB) .nil)))) (.kb rfl (.same sn) (.kb rfl (.cells (rc (.same nI) (rc (.same nI) (rc (.undef) rn)))) .nil)))
     ·rcases wyB g_v13 with⟨c8,g_v13⟩|⟨c8,g_v13⟩
      ·simp only[Option.some.injEq,Prod.mk.injEq]at g_v13
       obtain⟨rfl,rfl,rfl⟩:=g_v13
       exact qh.sub (qh.rq fol [0,2,3,4] (kR (kAg r1 kBS)) (kJ [.cells [.i 1,.i 1,.func (.func 121) [] []]]) (ac (cv (qy e_r2)) (ac (iv vV encS e_x3) (ac (lv 0 ce9 encS e_x3 rfl) (ac (hs (.done (zM Tryz.prog 140 (fm1) (.str x3) true) (.tuple (.agg [.i 1,.i 1,.func (.func 121) [] []]::kA3))) (qa1 qau [[109,97,107,101],[116,101,115,116],[117,115,101],[102,97,105,108],[114,101,99,97,108,108],[117,110,100,111]] (ql c4 (ql c5 (ql c6 (ql c7 (jk c8))))) rfl)) az))))) (Sub.norm [] [some 0,some 1] rfl rfl (.kp (.keep (.same (qw encS _)) (.kp (.keep (.same nB) .nil)))) (.kb rfl (.same sn) (.kb rfl (.cells (rc (.same nI) (rc (.same nI) (rc (.undef) rn)))) .nil)))
      ·rcases wyB g_v13 with⟨c9,g_v13⟩|⟨c9,g_v13⟩
       ·simp only[Option.some.injEq,Prod.mk.injEq]at g_v13
        obtain⟨rfl,rfl,rfl⟩:=g_v13
        exact qh.sub (qh.rq fol [0,2,3,4] (kR (kAg r1 kBS)) (kJ kBg) (ac (cv (qy e_r2)) (ac (iv vV encS e_x3) (ac (lv 0 ce9 encS e_x3 rfl) (ac (hs (.done (zM Tryz.prog 140 (fm1) (.str x3) true) (.tuple (kBQ kA3))) (qa1 qau [[109,97,107,101],[116,101,115,116],[117,115,101],[102,97,105,108],[114,101,99,97,108,108],[117,110,100,111]] (ql c4 (ql c5 (ql c6 (ql c7 (ql c8 (jk c9)))))) rfl)) az))))) (Sub.norm [] [some 0,some 1] rfl rfl (.kp (.keep (.same (qw encS _)) (.kp (.keep (.same nB) .nil)))) (.kb rfl (.same sn) (.kb rfl (.cells (rc (.same nI) (rc (.same nI) (rc (.undef) rn)))) .nil)))
       ·simp only[Option.some.injEq,Prod.mk.injEq]at g_v13
        obtain⟨rfl,rfl,rfl⟩:=g_v13
        exact qh.sub (qh.rq fol [0,2,3,4] (kR (kAg r1 kAu)) (kJ kBg) (ac (cv (qy e_r2)) (ac (iv vV encS e_x3) (ac (lv 0 ce9 encS e_x3 rfl) (ac (hs (.done (zM Tryz.prog 140 (fm1) (.str x3) true) (.tuple (kBQ [.bool false]))) (qkQ qau [[109,97,107,101],[116,101,115,116],[117,115,101],[102,97,105,108],[114,101,99,97,108,108],[117,110,100,111]] (ql c4 (ql c5 (ql c6 (ql c7 (ql c8 (ql c9 (rfl))))))))) az))))) (Sub.norm [] [some 0,some 1] rfl rfl (.kp (.keep (.same (qw encS _)) (.kp (.keep (.same nB) .nil)))) (.kb rfl (.same sn) (.kb rfl (.cells (rc (.same nI) (rc (.same nI) (rc (.undef) rn)))) .nil)))
 intro _ hsub
 try dsimp only at h
 refine Goes.sub hsub ?_
 refine sq ?_
 refine sq ?_
 obtain⟨b17,g_v18,h⟩:=bnd h
 refine Goes.cutS (s':=(ofG 76 (kR (kAg r1 [(38,.bool b17)])),(kJ (kBh n10 n11 [])))) ?_ ?_
 ·rcases wyB g_v18 with⟨c14,g_v18⟩|⟨c14,g_v18⟩
  ·obtain rfl:=si g_v18
   exact qh.sub (tr fol [2] (kR (kAg r1 [(38,.bool true)])) (ac (gw c14) az)) (Sub.refl _)
  ·rcases wyB g_v18 with⟨c15,g_v18⟩|⟨c15,g_v18⟩
   ·obtain rfl:=si g_v18
    exact qh.sub (tr fol [2,13] (kR (kAg r1 [(38,.bool true)])) (ac (gw c14) (ac (gw c15) az))) (Sub.refl _)
   ·obtain⟨r16,e_r16,g_v18⟩:=bnd g_v18
    obtain rfl:=si g_v18
    exact qh.sub (tr fol [2,13,15] (kR (kAg r1 [(38,.bool r16)])) (ac (gw c14) (ac (gw c15) (ac (cv (qbA N r1 [] e_r16)) az)))) (Sub.refl _)
 intro _ hsub
 refine Goes.sub hsub ?_
 refine ihB h (fun c19 h=>?_) (fun c19 h=>?_)
 ·refine sh fol (kR [(3,.bool false)]) ?_
  refine Goes.ret ?_
  obtain rfl:=si h
  exact(gw2 (kA5 [.bool false]) (FzW.tuple (qj.cons (FzW.agg (qj.cons (FzW.still tI) (qj.cons (FzW.still tS) (qj.cons (FzW.nilv (E:=encS)) (qj.cons (FzW.nilv (E:=encI)) (qj.cons (FzW.still tS) qj.nil)))))) (qj.cons (FzW.still tB) qj.nil))))
 ·refine Goes.skip ?_
  obtain⟨x20,e_x20,h⟩:=bnd h
  obtain⟨s21,e_s21,h⟩:=bnd h
  obtain⟨r22,e_r22,h⟩:=bnd h
  refine sq (gq fol [1,2,7,8] (kR (kAg r1 [(7,.ptr 2 0)])) (kJ (kBh n10 n11 [.cells [.i 0,.str x20,vl encS r22,.nilslice,.str []]])) (ac (iv vV encS e_x20) (ac (lv 0 ce9 encS e_x20 rfl) (ac (hs (.done (.opt (qz Tryz.prog 37 (vl encS r1) (some (.i 1)) (some (.i (w64 (1+n10)))) none)) (vl encS s21)) (qda vV (E:=encS) rfl (some 1) (some (w64 (1+n10))) e_s21)) (ac (cv (qat s21 e_r22)) az)))) ?_)
  refine sq ?_
  obtain⟨s23,e_s23,h⟩:=bnd h
  refine sq (gr fol [4] (kR [(7,.ptr 2 0),(54,vl encS s23),(55,.i (s23.length:Int)),(56,.i 0)]) (ac (hs (.done (.opt (qz Tryz.prog 37 (vl encS r1) (some (.i (w64 (1+n10)))) none none)) (vl encS s23)) (qda vV (E:=encS) rfl (some (w64 (1+n10))) none e_s23)) az) ?_)
  refine Goes.block ?_
  obtain⟨r27,g27,h⟩:=bnd h
  refine Goes.imp (Q:=fun x s'=>(x= .exit 0∧ ∃l26,(.inl l26)=r27∧Sub s' (ofG 76 (kR [(7,.ptr 1 0)]),(kJ (kAX x20 r22 l26 (kAM l26)))))∨(x= .ret∧ ∃q28,(.inr q28)=r27∧zy Tryz.prog [.cell 2 40,.tmp 3] (.tuple [.agg (cE q28.1),.bool q28.2]) .ret s')) ?_ ?_
  ·refine Goes.sub (s':=(ofG 76 (kR [(7,.ptr 1 0),(54,vl encS s23),(55,.i (s23.length:Int)),(56,.i 0)]),(kJ [.cells [.i 0,.str x20,vl encS r22,.gslice 2 ([]:List Int).length 1,.str []],.cells (([]:List Int).flatMap encI.c)]))) (Sub.norm [] [some 0,some 2,none] rfl rfl (.kp (.kp (.keep (.same (qw encS _)) (.keep (.same nI) (.keep (.same nI) .nil))))) (.kb rfl (.same sn) (.kb rfl (.cells (rc (.same nI) (rc (.same nS) (rc (.same (qw encS _)) (rc (.nil) (rc (.same nS) rn)))))) (.fresh .nil)))) ?_
   refine Goes.loopS (fun M s=> ∃(l24:List Int) (n25:Int),s=(ofG 76 (kR ((7,.ptr 1 0)::(kA4 s23 (s23.length:Int) n25 []))),(kJ (kAX x20 r22 l24 (kAM l24))))∧zO s23 M l24 n25=some r27) ?_ (m:=N) ⟨_,_,rfl,g27⟩
   rintro M s ⟨l24,n25,rfl,g27⟩
   cases M with
   |zero=>simp only[zO]at g27;cases g27
   |succ M=>
    rw[zO]at g27
    refine sh fol (kR ((7,.ptr 1 0)::(kA4 s23 (s23.length:Int) n25 [(57,.bool (decide (n25<(s23.length:Int))))]))) ?_
    refine sq ?_
    refine ihD g27 (fun c29 g27=>?_) (fun c29 g27=>?_)
    ·refine Goes.skip ?_
     refine sq (Goes.block ?_)
     obtain⟨x30,e_x30,g27⟩:=bnd g27
     refine sq (gr fol [0,1] (kR ((7,.ptr 1 0)::(9,.str x30)::(kA4 s23 (s23.length:Int) n25 []))) (ac (iv vV encS e_x30) (ac (lv 0 ce9 encS e_x30 rfl) az)) ?_)
     obtain⟨r31,e_r31,g27⟩:=bnd g27
     refine sq (gr fol [1] (kR ((7,.ptr 1 0)::(10,.i r31.1)::(11,.bool r31.2)::(kA4 s23 (s23.length:Int) n25 []))) (ac (cv (qbO x30 e_r31)) az) ?_)
     refine sq ?_
     refine sh fol (kR ((7,.ptr 1 0)::(10,.i r31.1)::(kA4 s23 (s23.length:Int) n25 [(66,.bool (!r31.2))]))) ?_
     refine ihB g27 (fun c32 g27=>?_) (fun c32 g27=>?_)
     ·refine sh fol (kR [(3,.bool false)]) ?_
      refine Goes.ret ?_
      obtain rfl:=si g27
      exact Or.inr (⟨rfl,_,rfl,(gw2 (kA5 [.bool false]) (FzW.tuple (qj.cons (FzW.agg (qj.cons (FzW.still tI) (qj.cons (FzW.still tS) (qj.cons (FzW.nilv (E:=encS)) (qj.cons (FzW.nilv (E:=encI)) (qj.cons (FzW.still tS) qj.nil)))))) (qj.cons (FzW.still tB) qj.nil))))⟩)
     ·refine Goes.skip ?_
      obtain⟨l33,e_l33,g27⟩:=bnd g27
      refine gq fol [4] (kR ((7,.ptr 1 0)::(kA4 s23 (s23.length:Int) n25 []))) (kJ (.cells [.i 0,.str x20,vl encS r22,.gslice 4 l33.length 1,.str []]:: .dead::(kAC r31.1 (kAM l33)))) (ac (hs (.run [2,3] (qR Tryz.prog [38,38] (.gslice 2 l24.length 1) (.slice 3 0 1 1 1)) (kJ (kAX x20 r22 l24 (.cells (l24.flatMap encI.c)::(kAC r31.1 [])))) (.gslice 4 l33.length 1) (kJ (kAX x20 r22 l24 (.dead::(kAC r31.1 (kAM l33))))) true) (jG yX (E:=encI) rfl (qbH (E:=encI) (ys:=[r31.1]) rfl rfl rfl rfl) (qgQ (E:=encI) (l:=l24) rfl rfl rfl e_l33 rfl))) az) ?_
      refine gh fol (kR ((7,.ptr 1 0)::(kA4 s23 (s23.length:Int) (w64 (n25+1)) []))) ?_
      exact⟨M,(ofG 76 (kR ((7,.ptr 1 0)::(kA4 s23 (s23.length:Int) (w64 (n25+1)) []))),(kJ (kAX x20 r22 l33 (kAM l33)))),Nat.lt_succ_self _,(Sub.norm [] [some 0,some 1,some 4] rfl rfl (.kp (.kp (.keep (.same (qw encS _)) (.keep (.same nI) (.keep (.same nI) .nil))))) (.kb rfl (.same sn) (.kb rfl (.cells (rc (.same nI) (rc (.same nS) (rc (.same (qw encS _)) (rc (.gslice rfl) (rc (.same nS) rn)))))) (.ks .nil)))),_,_,rfl,g27⟩
    ·refine Goes.exit ?_
     obtain rfl:=si g27
     exact Or.inl (⟨rfl,_,rfl,(Sub.keep [2,7] rfl rfl)⟩)
  rintro x s' (⟨rfl,l26,rfl,hsub⟩|⟨rfl,q34,rfl,hret⟩)
  ·try dsimp only at h
   refine Goes.sub hsub ?_
   refine sg fol (kR [(3,.bool true)]) (kAX x20 r22 l26 (kAX x20 r22 l26 (kAM l26))) ?_
   refine Goes.ret ?_
   obtain rfl:=si h
   exact(gw2 (.agg [.i 0,.str x20,vl encS r22,.gslice 2 l26.length 1,.str []]::kA3) (FzW.tuple (qj.cons (FzW.agg (qj.cons (FzW.still tI) (qj.cons (FzW.still tS) (qj.cons (FzW.still (ko encS _ (nl rfl))) (qj.cons (FzW.fz (Fz.gs (E:=encI) rfl rfl (nl rfl))) (qj.cons (FzW.still tS) qj.nil)))))) (qj.cons (FzW.still tB) qj.nil))))
  ·try dsimp only at h
   obtain rfl:=si h
   exact hret
def stringslite_Cut (s_:Str) (sep:Str):Option (Str×Str×Bool):=
 (stringslite_Index s_ sep).bind fun r1=>
 if r1≥0 then
 (cut s_ 0 r1).bind fun s3=>
 (cut s_ (w64 (r1+(sep.length:Int))) (s_.length:Int)).bind fun s4=>
 some (s3,s4,true)
 else
 some (s_,[],false)
theorem qep (s_:Str) (sep:Str) {res:Str×Str×Bool} (h:stringslite_Cut s_ sep=some res):qf Tryz.prog (.fn 186) [.str s_,.str sep] [] (.tuple [.str res.1,.str res.2.1,.bool res.2.2]) []:=by
 unfold stringslite_Cut at h
 refine Goes.fnW Tryz.func186 rfl rfl (m:=23) rfl (rs:=[.tmp 4,.tmp 5,.tmp 6]) rfl (l:=(kT s_ sep [])) rfl ?_
 refine sh fol (kT s_ sep []) ?_
 refine sq ?_
 obtain⟨r1,e_r1,h⟩:=bnd h
 refine sq (gr fol [2] (kT s_ sep [(7,.i r1)]) (ac (cv (qaY s_ sep e_r1)) az) ?_)
 refine sh fol (kT s_ sep [(7,.i r1),(12,.bool (decide (r1≥0)))]) ?_
 refine ihD h (fun c2 h=>?_) (fun c2 h=>?_)
 ·obtain⟨s3,e_s3,h⟩:=bnd h
  obtain⟨s4,e_s4,h⟩:=bnd h
  refine sq (gr fol [2,8] ((4,.str s3)::(5,.str s4)::kBS) (ac (hs (.done (.opt (qz Tryz.prog 9 (.str s_) none (some (.i r1)) none)) (.str s3)) (yK st9 none (some r1) e_s3)) (ac (hs (.done (.opt (qz Tryz.prog 9 (.str s_) (some (.i (w64 (r1+(sep.length:Int))))) none none)) (.str s4)) (yK st9 (some (w64 (r1+(sep.length:Int)))) none e_s4)) az)) ?_)
  refine Goes.ret ?_
  obtain rfl:=si h
  exact(gw2 (.str s3:: .str s4::kA3) (FzW.tuple (qj.cons (FzW.still tS) (qj.cons (FzW.still tS) (qj.cons (FzW.still tB) qj.nil)))))
 ·refine Goes.skip ?_
  refine sh fol ((4,.str s_)::(5,.str [])::kAu) ?_
  refine Goes.ret ?_
  obtain rfl:=si h
  exact(gw2 [.str s_,.str [],.bool false] (FzW.tuple (qj.cons (FzW.still tS) (qj.cons (FzW.still tS) (qj.cons (FzW.still tB) qj.nil)))))
def strings_Cut (s_:Str) (sep:Str):Option (Str×Str×Bool):=
 (stringslite_Cut s_ sep).bind fun r1=>
 some (r1.1,r1.2.1,r1.2.2)
theorem qf5 (s_:Str) (sep:Str) {res:Str×Str×Bool} (h:strings_Cut s_ sep=some res):qf Tryz.prog (.fn 136) [.str s_,.str sep] [] (.tuple [.str res.1,.str res.2.1,.bool res.2.2]) []:=by
 unfold strings_Cut at h
 refine Goes.fnW Tryz.func136 rfl rfl (m:=13) rfl (rs:=[.tmp 4,.tmp 5,.tmp 6]) rfl (l:=(kT s_ sep [])) rfl ?_
 refine sh fol (kT s_ sep []) ?_
 obtain⟨r1,e_r1,h⟩:=bnd h
 refine sq (gr fol [2] [(4,.str r1.1),(5,.str r1.2.1),(6,.bool r1.2.2)] (ac (cv (qep s_ sep e_r1)) az) ?_)
 refine Goes.ret ?_
 obtain rfl:=si h
 exact(gw2 [.str r1.1,.str r1.2.1,.bool r1.2.2] (FzW.tuple (qj.cons (FzW.still tS) (qj.cons (FzW.still tS) (qj.cons (FzW.still tB) qj.nil)))))
def yO (N:Nat) (s_:Str):Option (qb×Bool):=
 (strings_Cut s_ [32]).bind fun r1=>
 (yn r1.1).bind fun r2=>
 (yQ N r1.2.1).bind fun r3=>
 (if r2.2=true then
 if r3.2=true then
 (jA N (⟨r2.1,r3.1.Kind,r3.1.Names,r3.1.Values,r3.1.Text⟩:qb)).bind fun r6=>
 some (decide (r6=0))
 else
 some false
 else
 some false:Option Bool).bind fun b7=>
 some ((⟨r2.1,r3.1.Kind,r3.1.Names,r3.1.Values,r3.1.Text⟩:qb),b7)
theorem qeo (N:Nat) (s_:Str) {res:qb×Bool} (h:yO N s_=some res):qf Tryz.prog (.fn 96) [.str s_] [] (.tuple [.agg (cE res.1),.bool res.2]) []:=by
 unfold yO at h
 refine Goes.fnW Tryz.func96 rfl rfl (m:=39) rfl (rs:=[.cell 2 40,.tmp 3]) rfl (l:=(kBF s_)) rfl ?_
 refine sg fol ((0,.str s_)::(kR [])) (kJ []) ?_
 obtain⟨r1,e_r1,h⟩:=bnd h
 refine sq (gr fol [1] (kR [(4,.str r1.1),(5,.str r1.2.1)]) (ac (cv (qf5 s_ [32] e_r1)) az) ?_)
 obtain⟨r2,e_r2,h⟩:=bnd h
 refine sq (gr fol [1] (kR ((5,.str r1.2.1)::(kBB r2.1 r2.2 []))) (ac (cv (qbO r1.1 e_r2)) az) ?_)
 obtain⟨r3,e_r3,h⟩:=bnd h
 refine sq (gq fol [1] (kR (kBB r2.1 r2.2 ((9,.ptr 1 0)::(kBI r3.2)))) (kJ (kAE r3.1)) (ac (cv (qej N r1.2.1 e_r3)) az) ?_)
 refine sg fol (kR ((8,.bool r2.2)::(9,.ptr 1 0)::(kBI r3.2))) (kJ [.cells [.i r2.1,.str r3.1.Kind,vl encS r3.1.Names,vl encI r3.1.Values,.str r3.1.Text]]) ?_
 refine sq ?_
 obtain⟨b7,g_v8,h⟩:=bnd h
 refine Goes.cut (s':=(ofG 39 (kR [(3,.bool b7)]),(kN r2.1 r3.1.Kind r3.1.Names r3.1.Values r3.1.Text []))) ?_ ?_
 ·rcases wyB g_v8 with⟨c4,g_v8⟩|⟨c4,g_v8⟩
  ·rcases wyB g_v8 with⟨c5,g_v8⟩|⟨c5,g_v8⟩
   ·obtain⟨r6,e_r6,g_v8⟩:=bnd g_v8
    obtain rfl:=si g_v8
    exact qh.rq fol [2,5,7] (kR [(3,.bool (decide (r6=0)))]) (kN r2.1 r3.1.Kind r3.1.Names r3.1.Values r3.1.Text []) (ac (gw c4) (ac (gw c5) (ac (cv (xq N (⟨r2.1,r3.1.Kind,r3.1.Names,r3.1.Values,r3.1.Text⟩:qb) e_r6)) az)))
   ·obtain rfl:=si g_v8
    exact qh.rq fol [2,5] (kR [(3,.bool false)]) (kN r2.1 r3.1.Kind r3.1.Names r3.1.Values r3.1.Text []) (ac (gw c4) (ac (gw c5) az))
  ·obtain rfl:=si g_v8
   exact qh.rq fol [2] (kR [(3,.bool false)]) (kN r2.1 r3.1.Kind r3.1.Names r3.1.Values r3.1.Text []) (ac (gw c4) az)
 refine Goes.ret ?_
 obtain rfl:=si h
 exact(gw2 [.agg [.i r2.1,.str r3.1.Kind,vl encS r3.1.Names,vl encI r3.1.Values,.str r3.1.Text],.bool b7] (FzW.tuple (qj.cons (FzW.agg (qj.cons (FzW.still tI) (qj.cons (FzW.still tS) (qj.cons (FzW.still (ko encS _ (nl rfl))) (qj.cons (FzW.still (ko encI _ (nl rfl))) (qj.cons (FzW.still tS) qj.nil)))))) (qj.cons (FzW.still tB) qj.nil))))
def zK (N:Nat) (s_:Str) (number:Int):Option (qb×Int):=
 (if(w64 ((s_.length:Int)-7))<1 then
 some (w64 ((s_.length:Int)-7),true)
 else
 (idx s_ (w64 ((w64 ((s_.length:Int)-7))-1))).bind fun c2=>
 if(!decide ((c2.toNat:Int)=59))=true then
 some (w64 ((s_.length:Int)-7),true)
 else
 (cut s_ (w64 ((s_.length:Int)-7)) (s_.length:Int)).bind fun s4=>
 (vW s4).bind fun r5=>
 some (w64 ((s_.length:Int)-7),!r5):Option (Int×Bool)).bind fun(n6,b7)=>
 if b7=true then
 some ((⟨0,[],[],[],[]⟩:qb),25)
 else
 (cut s_ 0 (w64 (n6-1))).bind fun s10=>
 (cut s_ n6 (s_.length:Int)).bind fun s11=>
 (qaB N s10).bind fun r12=>
 if(!(s11==r12))=true then
 some ((⟨0,[],[],[],[]⟩:qb),27)
 else
 (yO N s10).bind fun r14=>
 (qX (!r14.2) 25).bind fun r15=>
 (qX (!decide (r14.1.Number=number)) 11).bind fun r16=>
 (zH N ([r15,r16]:List Int)).bind fun r17=>
 some (r14.1,r17)
theorem yf (N:Nat) (s_:Str) (number:Int) {res:qb×Int} (h:zK N s_ number=some res):qf Tryz.prog (.fn 36) [.str s_,.i number] [] (.tuple [.agg (cE res.1),.i res.2]) []:=by
 unfold zK at h
 refine Goes.fnW Tryz.func36 rfl rfl (m:=57) rfl (rs:=[.cell 4 40,.tmp 5]) rfl (l:=(kAk s_ number [])) rfl ?_
 refine sg fol (kAk s_ number (kAw [])) (kJ []) ?_
 refine sh fol (kAk s_ number (kAw [(6,.i (w64 ((s_.length:Int)-7)))])) ?_
 refine sq ?_
 refine sq ?_
 obtain⟨⟨n6,b7⟩,g_v8,h⟩:=bnd h
 refine Goes.cut (s':=(ofG 57 (kAk s_ number (kAw [(6,.i n6),(28,.bool b7)])),(kJ []))) ?_ ?_
 ·rcases wyD g_v8 with⟨c1,g_v8⟩|⟨c1,g_v8⟩
  ·simp only[Option.some.injEq,Prod.mk.injEq]at g_v8
   obtain⟨rfl,rfl⟩:=g_v8
   exact tr fol [2] (kAk s_ number (kAw [(6,.i (w64 ((s_.length:Int)-7))),(28,.bool true)])) (ac (gw c1) az)
  ·obtain⟨c2,e_c2,g_v8⟩:=bnd g_v8
   rcases wyB g_v8 with⟨c3,g_v8⟩|⟨c3,g_v8⟩
   ·simp only[Option.some.injEq,Prod.mk.injEq]at g_v8
    obtain⟨rfl,rfl⟩:=g_v8
    exact tr fol [2,6,9] (kAk s_ number (kAw [(6,.i (w64 ((s_.length:Int)-7))),(28,.bool true)])) (ac (gw c1) (ac (hs (.done (.opt (qaa Tryz.prog 9 (.str s_) (.i (w64 ((w64 ((s_.length:Int)-7))-1))))) (.int .u8 (c2.toNat:Int))) (qcJ st9 e_c2)) (ac (gw c3) az)))
   ·obtain⟨s4,e_s4,g_v8⟩:=bnd g_v8
    obtain⟨r5,e_r5,g_v8⟩:=bnd g_v8
    simp only[Option.some.injEq,Prod.mk.injEq]at g_v8
    obtain⟨rfl,rfl⟩:=g_v8
    exact tr fol [2,6,9,12,13] (kAk s_ number (kAw [(6,.i (w64 ((s_.length:Int)-7))),(28,.bool (!r5))])) (ac (gw c1) (ac (hs (.done (.opt (qaa Tryz.prog 9 (.str s_) (.i (w64 ((w64 ((s_.length:Int)-7))-1))))) (.int .u8 (c2.toNat:Int))) (qcJ st9 e_c2)) (ac (gw c3) (ac (hs (.done (.opt (qz Tryz.prog 9 (.str s_) (some (.i (w64 ((s_.length:Int)-7)))) none none)) (.str s4)) (yK st9 (some (w64 ((s_.length:Int)-7))) none e_s4)) (ac (cv (yJ s4 e_r5)) az)))))
 try dsimp only at h
 refine ihB h (fun c9 h=>?_) (fun c9 h=>?_)
 ·refine sh fol (kAw [(5,.i 25)]) ?_
  refine Goes.ret ?_
  obtain rfl:=si h
  exact(gw2 (kA5 [.i 25]) (FzW.tuple (qj.cons (FzW.agg (qj.cons (FzW.still tI) (qj.cons (FzW.still tS) (qj.cons (FzW.nilv (E:=encS)) (qj.cons (FzW.nilv (E:=encI)) (qj.cons (FzW.still tS) qj.nil)))))) (qj.cons (FzW.still tI) qj.nil))))
 ·refine Goes.skip ?_
  obtain⟨s10,e_s10,h⟩:=bnd h
  refine sq (gr fol [3] (kAk s_ number (kAw [(6,.i n6),(7,.str s10)])) (ac (hs (.done (.opt (qz Tryz.prog 9 (.str s_) none (some (.i (w64 (n6-1)))) none)) (.str s10)) (yK st9 none (some (w64 (n6-1))) e_s10)) az) ?_)
  refine sq ?_
  obtain⟨s11,e_s11,h⟩:=bnd h
  obtain⟨r12,e_r12,h⟩:=bnd h
  refine sq (gr fol [2,4] ((1,.i number)::(kAw [(7,.str s10),(39,.bool (!(s11==r12)))])) (ac (hs (.done (.opt (qz Tryz.prog 9 (.str s_) (some (.i n6)) none none)) (.str s11)) (yK st9 (some n6) none e_s11)) (ac (cv (qd6 N s10 e_r12)) az)) ?_)
  refine ihB h (fun c13 h=>?_) (fun c13 h=>?_)
  ·refine sh fol (kAw [(5,.i 27)]) ?_
   refine Goes.ret ?_
   obtain rfl:=si h
   exact(gw2 (kA5 [.i 27]) (FzW.tuple (qj.cons (FzW.agg (qj.cons (FzW.still tI) (qj.cons (FzW.still tS) (qj.cons (FzW.nilv (E:=encS)) (qj.cons (FzW.nilv (E:=encI)) (qj.cons (FzW.still tS) qj.nil)))))) (qj.cons (FzW.still tI) qj.nil))))
  ·refine Goes.skip ?_
   obtain⟨r14,e_r14,h⟩:=bnd h
   refine sq (gq fol [1] ((1,.i number)::(kAw [(8,.ptr 1 0),(9,.bool r14.2)])) (kJ (kAE r14.1)) (ac (cv (qeo N s10 e_r14)) az) ?_)
   obtain⟨r15,e_r15,h⟩:=bnd h
   obtain⟨r16,e_r16,h⟩:=bnd h
   obtain⟨r17,e_r17,h⟩:=bnd h
   refine sq (gq fol [3,8,10] (kAw (kAn r17)) (kA0 r14.1 (kA0 r14.1 (kBi r15 r16))) (ac (cv (qH (!r14.2) 25 e_r15)) (ac (cv (qH (!decide (r14.1.Number=number)) 11 e_r16)) (ac (hs (.call 37 [.slice 2 0 2 2 1] (kJ (kA0 r14.1 (kBi r15 r16))) [2] [vl encI ([r15,r16]:List Int)] (.i r17)) (qa4 (FzL.cons (Fz.lit rfl rfl (FzL.still (AllST.cons tI (AllST.cons tI AllST.nil)))) FzL.nil) (jd N ([r15,r16]:List Int) e_r17) tI rfl)) az))) ?_)
   refine Goes.ret ?_
   obtain rfl:=si h
   exact(gw2 [.agg (cE r14.1),.i r17] (FzW.tuple (qj.cons (FzW.agg (qj.cons (FzW.still tI) (qj.cons (FzW.still tS) (qj.cons (FzW.still (ko encS _ (nl rfl))) (qj.cons (FzW.still (ko encI _ (nl rfl))) (qj.cons (FzW.still tS) qj.nil)))))) (qj.cons (FzW.still tI) qj.nil))))
def xV (a0_:Str):Option Unit:=
 some ()
theorem qew (a0_:Str) (h:xV a0_=some ()):qf Tryz.prog (.fn 34) [.str a0_] [] (.func (.func 91) [] [.ptr 0 0]) (kAp a0_ []):=by
 unfold xV at h
 refine Goes.fnH Tryz.func34 rfl rfl (m:=4) rfl (rs:=[.tmp 2]) rfl (l:=(kBF a0_)) rfl ?_
 intro B hB
 refine sg fol (kV []) (kAp a0_ []) ?_
 refine sh fol [(2,.func (.func 91) [] [.ptr 0 0])] ?_
 refine Goes.ret ?_
 exact(gh2 [.func (.func 91) [] [.ptr 0 0]] (qdx.refl _ _))
def qkT (N:Nat) (a0_:Int) (a1_:Int) (a2_:Int) (a3_:Int) (a4_:Str):Option ((List qb)⊕Int):=
 (strings_CutSuffix a4_ [10]).bind fun r3=>
 if(!r3.2)=true then
 some (.inr 28)
 else
 (zK N r3.1 (w64 (0+1))).bind fun r5=>
 if(!decide (r5.2=0))=true then
 some (.inr r5.2)
 else
 some (.inl ([r5.1]:List qb))
def zJ (N:Nat) (a0_:Int) (a1_:Int) (a2_:Option (List qb)) (a3_:Int) (a4_:Int) (a5_:Str):Option ((List qb)⊕(Int×(Option (List qb)))):=
 (strings_CutSuffix a5_ [10]).bind fun r4=>
 if(!r4.2)=true then
 ((match a2_ with
 |none=>
 some (none:Option (List qb))
 |some l6=>
 some (some l6)):Option (Option (List qb))).bind fun o7=>
 some (.inr (28,o7))
 else
 ((match a2_ with
 |none=>
 (zK N r4.1 (w64 (0+1))).bind fun r10=>
 some ((none:Option (List qb)),r10.1.Number,r10.1.Kind,r10.1.Names,r10.1.Values,r10.1.Text,r10.2)
 |some l9=>
 (zK N r4.1 (w64 ((l9.length:Int)+1))).bind fun r11=>
 some ((some l9),r11.1.Number,r11.1.Kind,r11.1.Names,r11.1.Values,r11.1.Text,r11.2)):Option ((Option (List qb))×Int×Str×(List Str)×(List Int)×Str×Int)).bind fun(o12,n13,s14,l15,l16,s17,n18)=>
 if(!decide (n18=0))=true then
 ((match o12 with
 |none=>
 some (none:Option (List qb))
 |some l21=>
 some (some l21)):Option (Option (List qb))).bind fun o22=>
 some (.inr (n18,o22))
 else
 ((match o12 with
 |none=>
 some ([(⟨n13,s14,l15,l16,s17⟩:qb)]:List qb)
 |some l24=>
 (app 88 l24 [(⟨n13,s14,l15,l16,s17⟩:qb)]).bind fun l25=>
 some l25):Option (List qb)).bind fun l26=>
 some (.inl l26)
theorem qam (N:Nat) (a0_:Int) (a1_:Int) (a2_:Option (List qb)) (a3_:Int) (a4_:Int) (a5_:Str) {l1:List qb} (h:zJ N a0_ a1_ a2_ a3_ a4_ a5_=some (.inl l1)):qf Tryz.prog (.rd 0) [.i a4_,.str a5_] (.loop .ready none (ofG 49 [(2,.ptr 1 0),(3,.ptr 2 0),(4,.ptr 3 0),(5,.ptr 4 0),(6,.ptr 6 0)]) qg.xp qg.x1 qg.x2::(kF a0_ a1_ (kZ a2_ a3_ []))) (.bool true) (.loop .ready none (ofG 49 [(2,.ptr 1 0),(3,.ptr 2 0),(4,.ptr 3 0),(5,.ptr 4 0),(6,.ptr 6 0)]) qg.xp qg.x1 qg.x2::(kF a0_ a1_ (.cells [.oslice 7 l1.length 5]:: .dead::(kAC a4_ (kK l1 []))))):=by
 unfold zJ at h
 refine Goes.round (m:=49) (l0:=(kB [(5,.ptr 4 0),(6,.ptr 6 0)])) (l:=(kB [(5,.ptr 4 0),(6,.ptr 6 0),(18,.i a4_),(19,.str a5_)])) rfl rfl rfl ?_
 intro B hB
 refine Goes.subQ ?_
 refine sh fol (kB (kAB a4_ [(19,.str a5_)])) ?_
 refine gh fol (kB (kAB a4_ [(8,.str a5_)])) ?_
 refine⟨_,Sub.refl _,?_⟩
 refine⟨_,_,_,_,_,rfl,?_⟩
 refine Goes.subQ ?_
 refine Goes.block ?_
 obtain⟨r4,e_r4,h⟩:=bnd h
 refine sq (gr fol [1] (kB (kAB a4_ ((9,.str r4.1)::(kBI r4.2)))) (ac (cv (qaV a5_ [10] e_r4)) az) ?_)
 refine sq ?_
 refine sh fol (kB (kAB a4_ [(9,.str r4.1),(26,.bool (!r4.2))])) ?_
 refine ihB h (fun c5 h=>?_) (fun c5 h=>?_)
 ·refine sq ?_
  obtain⟨o7,g_v8,h⟩:=bnd h
  refine Goes.cutS (s':=(ofG 49 (kB []),(.loop .busy none (ofG 49 [(2,.ptr 1 0),(3,.ptr 2 0),(4,.ptr 3 0),(5,.ptr 4 0),(6,.ptr 6 0)]) qg.xp qg.x1 qg.x2:: .cells [hsl 5 5 o7]::(kAC a3_ (.cells [.i 28]::(kZ o7 a3_ [])))))) ?_ ?_
  ·rcases a2_ with _|l6
   ·try dsimp only at g_v8
    obtain rfl:=si g_v8
    exact qh.sub (qh.rg fol (kB []) (.loop .busy none (ofG 49 [(2,.ptr 1 0),(3,.ptr 2 0),(4,.ptr 3 0),(5,.ptr 4 0),(6,.ptr 6 0)]) qg.xp qg.x1 qg.x2::(kAV (kAC a3_ (.cells [.i 28]::(kAV (.cells ((hof (none:Option (List qb))).flatMap qa.c)::(kAC a3_ [])))))))) (Sub.norm [] [some 0,some 1,some 2,some 3,some 4,some 5,some 6] (by rw[hB];rfl) rfl (.kp (.kp (.kp .nil))) (.kb rfl (.loop rfl (.kp (.kp (.kp (.kp (.kp .nil)))))) (.kb rfl (.cells (rc .hs0 rn)) (.kb rfl (.same sn) (.kb rfl (.same sn) (.kb rfl (.cells (rc .hs0 rn)) (.ks (.kb rfl (.same sn) .nil))))))))
   ·try dsimp only at g_v8
    obtain rfl:=si g_v8
    exact qh.sub (qh.rg fol (kB []) (.loop .busy none (ofG 49 [(2,.ptr 1 0),(3,.ptr 2 0),(4,.ptr 3 0),(5,.ptr 4 0),(6,.ptr 6 0)]) qg.xp qg.x1 qg.x2::(kAY l6 (kAC a3_ (.cells [.i 28]::(kAY l6 (kK l6 (kAC a3_ [])))))))) (Sub.norm [] [some 0,some 1,some 2,some 3,some 4,some 5,some 6] (by rw[hB];rfl) rfl (.kp (.kp (.kp .nil))) (.kb rfl (.loop rfl (.kp (.kp (.kp (.kp (.kp .nil)))))) (.kb rfl (.cells (rc ((qZ.hs1 rfl)) rn)) (.kb rfl (.same sn) (.kb rfl (.same sn) (.kb rfl (.cells (rc ((qZ.hs1 rfl)) rn)) (.ks (.kb rfl (.same sn) .nil))))))))
  intro _ hsub
  refine Goes.sub hsub ?_
  refine Goes.ret ?_
  cases h
 ·refine Goes.skip ?_
  refine sq ?_
  obtain⟨⟨o12,n13,s14,l15,l16,s17,n18⟩,g_v19,h⟩:=bnd h
  refine Goes.cutS (s':=(ofG 49 (kB (kAB a4_ (kBO n18 []))),(.loop .busy none (ofG 49 [(2,.ptr 1 0),(3,.ptr 2 0),(4,.ptr 3 0),(5,.ptr 4 0),(6,.ptr 6 0)]) qg.xp qg.x1 qg.x2::(kF a0_ a1_ (kZ o12 a3_ (kBH n13 s14 l15 l16 s17 [])))))) ?_ ?_
  ·rcases a2_ with _|l9
   ·try dsimp only at g_v19
    obtain⟨r10,e_r10,g_v19⟩:=bnd g_v19
    simp only[Option.some.injEq,Prod.mk.injEq]at g_v19
    obtain⟨rfl,rfl,rfl,rfl,rfl,rfl,rfl⟩:=g_v19
    exact qh.sub (qh.rq fol [4] (kB (kAB a4_ (kBO r10.2 []))) (.loop .busy none (ofG 49 [(2,.ptr 1 0),(3,.ptr 2 0),(4,.ptr 3 0),(5,.ptr 4 0),(6,.ptr 6 0)]) qg.xp qg.x1 qg.x2::(kF a0_ a1_ (kAV (.cells ((hof (none:Option (List qb))).flatMap qa.c)::(kAC a3_ (kAE r10.1)))))) (ac (cv (yf N r4.1 (w64 (0+1)) e_r10)) az)) (Sub.norm [] [some 0,some 1,some 2,some 3,some 4,some 5,some 6,some 7] (by rw[hB];rfl) rfl (.kp (.kp (.kp (.kp (.kp (.keep (.same nI) (.kp (.keep (.same nI) .nil)))))))) (.kb rfl (.loop rfl (.kp (.kp (.kp (.kp (.kp .nil)))))) (.kb rfl (.same sn) (.kb rfl (.same sn) (.kb rfl (.same sn) (.kb rfl (.cells (rc .hs0 rn)) (.ks (.kb rfl (.same sn) (.kb rfl (.same sn) .nil)))))))))
   ·try dsimp only at g_v19
    obtain⟨r11,e_r11,g_v19⟩:=bnd g_v19
    simp only[Option.some.injEq,Prod.mk.injEq]at g_v19
    obtain⟨rfl,rfl,rfl,rfl,rfl,rfl,rfl⟩:=g_v19
    exact qh.sub (qh.rq fol [4] (kB (kAB a4_ (kBO r11.2 []))) (.loop .busy none (ofG 49 [(2,.ptr 1 0),(3,.ptr 2 0),(4,.ptr 3 0),(5,.ptr 4 0),(6,.ptr 6 0)]) qg.xp qg.x1 qg.x2::(kF a0_ a1_ (kAY l9 (kK l9 (kAC a3_ (kAE r11.1)))))) (ac (cv (yf N r4.1 (w64 ((l9.length:Int)+1)) e_r11)) az)) (Sub.norm [] [some 0,some 1,some 2,some 3,some 4,some 5,some 6,some 7] (by rw[hB];rfl) rfl (.kp (.kp (.kp (.kp (.kp (.keep (.same nI) (.kp (.keep (.same nI) .nil)))))))) (.kb rfl (.loop rfl (.kp (.kp (.kp (.kp (.kp .nil)))))) (.kb rfl (.same sn) (.kb rfl (.same sn) (.kb rfl (.same sn) (.kb rfl (.cells (rc ((qZ.hs1 rfl)) rn)) (.ks (.kb rfl (.same sn) (.kb rfl (.same sn) .nil)))))))))
  intro _ hsub
  try dsimp only at h
  refine Goes.sub hsub ?_
  refine sq ?_
  refine sh fol (kB (kAB a4_ (kBO n18 [(38,.bool (!decide (n18=0)))]))) ?_
  refine ihB h (fun c20 h=>?_) (fun c20 h=>?_)
  ·refine sq ?_
   obtain⟨o22,g_v23,h⟩:=bnd h
   refine Goes.cutS (s':=(ofG 49 (kB []),(.loop .busy none (ofG 49 [(2,.ptr 1 0),(3,.ptr 2 0),(4,.ptr 3 0),(5,.ptr 4 0),(6,.ptr 6 0)]) qg.xp qg.x1 qg.x2:: .cells [hsl 5 5 o22]::(kAC a3_ (kAC n18 (kZ o22 a3_ [])))))) ?_ ?_
   ·rcases o12 with _|l21
    ·try dsimp only at g_v23
     obtain rfl:=si g_v23
     exact qh.sub (qh.rg fol (kB []) (.loop .busy none (ofG 49 [(2,.ptr 1 0),(3,.ptr 2 0),(4,.ptr 3 0),(5,.ptr 4 0),(6,.ptr 6 0)]) qg.xp qg.x1 qg.x2::(kF a3_ n18 (kAV (.cells ((hof (none:Option (List qb))).flatMap qa.c)::(kAC a3_ (kBH n13 s14 l15 l16 s17 []))))))) (Sub.norm [] [some 0,some 1,some 2,some 3,some 4,some 5,some 6] (by rw[hB];rfl) rfl (.kp (.kp (.kp .nil))) (.kb rfl (.loop rfl (.kp (.kp (.kp (.kp (.kp .nil)))))) (.kb rfl (.cells (rc .hs0 rn)) (.kb rfl (.same sn) (.kb rfl (.same sn) (.kb rfl (.cells (rc .hs0 rn)) (.ks (.kb rfl (.same sn) .nil))))))))
    ·try dsimp only at g_v23
     obtain rfl:=si g_v23
     exact qh.sub (qh.rg fol (kB []) (.loop .busy none (ofG 49 [(2,.ptr 1 0),(3,.ptr 2 0),(4,.ptr 3 0),(5,.ptr 4 0),(6,.ptr 6 0)]) qg.xp qg.x1 qg.x2::(kAY l21 (kAC a3_ (kAC n18 (kAY l21 (kK l21 (kAC a3_ (kBH n13 s14 l15 l16 s17 []))))))))) (Sub.norm [] [some 0,some 1,some 2,some 3,some 4,some 5,some 6] (by rw[hB];rfl) rfl (.kp (.kp (.kp .nil))) (.kb rfl (.loop rfl (.kp (.kp (.kp (.kp (.kp .nil)))))) (.kb rfl (.cells (rc ((qZ.hs1 rfl)) rn)) (.kb rfl (.same sn) (.kb rfl (.same sn) (.kb rfl (.cells (rc ((qZ.hs1 rfl)) rn)) (.ks (.kb rfl (.same sn) .nil))))))))
   intro _ hsub
   refine Goes.sub hsub ?_
   refine Goes.ret ?_
   cases h
  ·refine Goes.skip ?_
   obtain⟨l26,g_v27,h⟩:=bnd h
   refine Goes.cutS (s':=(ofG 49 [],(.loop .busy none (ofG 49 [(2,.ptr 1 0),(3,.ptr 2 0),(4,.ptr 3 0),(5,.ptr 4 0),(6,.ptr 6 0)]) qg.xp qg.x1 qg.x2::(kF a0_ a1_ (.cells [.oslice 7 l26.length 5]:: .dead::(kAC a4_ (kK l26 []))))))) ?_ ?_
   ·rcases o12 with _|l24
    ·try dsimp only at g_v27
     obtain rfl:=si g_v27
     exact qh.sub (qh.rg fol [] (.loop .busy none (ofG 49 [(2,.ptr 1 0),(3,.ptr 2 0),(4,.ptr 3 0),(5,.ptr 4 0),(6,.ptr 6 0)]) qg.xp qg.x1 qg.x2::(kF a0_ a1_ (.cells [.oslice 9 1 5]:: .cells ((hof (none:Option (List qb))).flatMap qa.c)::(kAC a4_ (kAW n13 s14 l15 l16 s17 (kBH n13 s14 l15 l16 s17 []))))))) (Sub.norm [] [some 0,some 1,some 2,some 3,some 4,some 5,some 6,some 9] (by rw[hB];rfl) rfl .nil (.kb rfl (.loop rfl (.kp (.kp (.kp (.kp (.kp .nil)))))) (.kb rfl (.same sn) (.kb rfl (.same sn) (.kb rfl (.same sn) (.kb rfl (.cells (rc ((qZ.osliceE rfl rfl)) rn)) (.lost (.kb rfl (.same sn) (.ks .nil)))))))))
    ·try dsimp only at g_v27
     obtain⟨l25,e_l25,g_v27⟩:=bnd g_v27
     obtain rfl:=si g_v27
     exact qh.sub (qh.rq fol [3] [] (.loop .busy none (ofG 49 [(2,.ptr 1 0),(3,.ptr 2 0),(4,.ptr 3 0),(5,.ptr 4 0),(6,.ptr 6 0)]) qg.xp qg.x1 qg.x2::(kF a0_ a1_ (.cells [.oslice 9 l25.length 5]:: .dead::(kAC a4_ (kAW n13 s14 l15 l16 s17 (kK l25 [])))))) (ac (hs (.run [5,8] (qR Tryz.prog [22,22] (.oslice 5 l24.length 5) (.slice 8 0 1 1 5)) (.loop .busy none (ofG 49 [(2,.ptr 1 0),(3,.ptr 2 0),(4,.ptr 3 0),(5,.ptr 4 0),(6,.ptr 6 0)]) qg.xp qg.x1 qg.x2::(kF a0_ a1_ (kAY l24 (kK l24 (kAC a3_ (kAW n13 s14 l15 l16 s17 [])))))) (.oslice 9 l25.length 5) (.loop .busy none (ofG 49 [(2,.ptr 1 0),(3,.ptr 2 0),(4,.ptr 3 0),(5,.ptr 4 0),(6,.ptr 6 0)]) qg.xp qg.x1 qg.x2::(kF a0_ a1_ (kAY l24 (.dead::(kAC a3_ (kAW n13 s14 l15 l16 s17 (kK l25 []))))))) true) (jG zV (E:=qa) rfl (qbH (E:=qa) (ys:=[(⟨n13,s14,l15,l16,s17⟩:qb)]) rfl rfl rfl rfl) (qgD (E:=qa) (l:=l24) rfl rfl rfl e_l25 rfl))) az)) (Sub.norm [] [some 0,some 1,some 2,some 3,some 4,some 5,some 6,some 9] (by rw[hB];rfl) rfl .nil (.kb rfl (.loop rfl (.kp (.kp (.kp (.kp (.kp .nil)))))) (.kb rfl (.same sn) (.kb rfl (.same sn) (.kb rfl (.same sn) (.kb rfl (.cells (rc (.oslice rfl) rn)) (.lost (.kb rfl (.same sn) (.ks .nil)))))))))
   intro _ hsub
   cases h
   exact⟨_,hsub,⟨_,_,rfl,(Sub.keep [0] rfl rfl)⟩⟩
theorem qak (N:Nat) (a0_:Int) (a1_:Int) (a2_:Option (List qb)) (a3_:Int) (a4_:Int) (a5_:Str) {n2:Int} {o3:Option (List qb)} (h:zJ N a0_ a1_ a2_ a3_ a4_ a5_=some (.inr (n2,o3))):qf Tryz.prog (.rd 0) [.i a4_,.str a5_] (.loop .ready none (ofG 49 [(2,.ptr 1 0),(3,.ptr 2 0),(4,.ptr 3 0),(5,.ptr 4 0),(6,.ptr 6 0)]) qg.xp qg.x1 qg.x2::(kF a0_ a1_ (kZ a2_ a3_ []))) (.bool false) (.loop .done (some .ret) (ofG 49 [(2,.ptr 1 0),(3,.ptr 2 0),(4,.ptr 3 0),(5,.ptr 4 0),(6,.ptr 6 0)]) qg.xp qg.x1 qg.x2:: .cells [hsl 5 5 o3]::(kAC a3_ (kAC n2 (kZ o3 a3_ [])))):=by
 unfold zJ at h
 refine Goes.round (m:=49) (l0:=(kB [(5,.ptr 4 0),(6,.ptr 6 0)])) (l:=(kB [(5,.ptr 4 0),(6,.ptr 6 0),(18,.i a4_),(19,.str a5_)])) rfl rfl rfl ?_
 intro B hB
 refine Goes.subQ ?_
 refine sh fol (kB (kAB a4_ [(19,.str a5_)])) ?_
 refine gh fol (kB (kAB a4_ [(8,.str a5_)])) ?_
 refine⟨_,Sub.refl _,?_⟩
 refine⟨_,_,_,_,_,rfl,?_⟩
 refine Goes.subQ ?_
 refine Goes.block ?_
 obtain⟨r4,e_r4,h⟩:=bnd h
 refine sq (gr fol [1] (kB (kAB a4_ ((9,.str r4.1)::(kBI r4.2)))) (ac (cv (qaV a5_ [10] e_r4)) az) ?_)
 refine sq ?_
 refine sh fol (kB (kAB a4_ [(9,.str r4.1),(26,.bool (!r4.2))])) ?_
 refine ihB h (fun c5 h=>?_) (fun c5 h=>?_)
 ·refine sq ?_
  obtain⟨o7,g_v8,h⟩:=bnd h
  refine Goes.cutS (s':=(ofG 49 (kB []),(.loop .busy none (ofG 49 [(2,.ptr 1 0),(3,.ptr 2 0),(4,.ptr 3 0),(5,.ptr 4 0),(6,.ptr 6 0)]) qg.xp qg.x1 qg.x2:: .cells [hsl 5 5 o7]::(kAC a3_ (.cells [.i 28]::(kZ o7 a3_ [])))))) ?_ ?_
  ·rcases a2_ with _|l6
   ·try dsimp only at g_v8
    obtain rfl:=si g_v8
    exact qh.sub (qh.rg fol (kB []) (.loop .busy none (ofG 49 [(2,.ptr 1 0),(3,.ptr 2 0),(4,.ptr 3 0),(5,.ptr 4 0),(6,.ptr 6 0)]) qg.xp qg.x1 qg.x2::(kAV (kAC a3_ (.cells [.i 28]::(kAV (.cells ((hof (none:Option (List qb))).flatMap qa.c)::(kAC a3_ [])))))))) (Sub.norm [] [some 0,some 1,some 2,some 3,some 4,some 5,some 6] (by rw[hB];rfl) rfl (.kp (.kp (.kp .nil))) (.kb rfl (.loop rfl (.kp (.kp (.kp (.kp (.kp .nil)))))) (.kb rfl (.cells (rc .hs0 rn)) (.kb rfl (.same sn) (.kb rfl (.same sn) (.kb rfl (.cells (rc .hs0 rn)) (.ks (.kb rfl (.same sn) .nil))))))))
   ·try dsimp only at g_v8
    obtain rfl:=si g_v8
    exact qh.sub (qh.rg fol (kB []) (.loop .busy none (ofG 49 [(2,.ptr 1 0),(3,.ptr 2 0),(4,.ptr 3 0),(5,.ptr 4 0),(6,.ptr 6 0)]) qg.xp qg.x1 qg.x2::(kAY l6 (kAC a3_ (.cells [.i 28]::(kAY l6 (kK l6 (kAC a3_ [])))))))) (Sub.norm [] [some 0,some 1,some 2,some 3,some 4,some 5,some 6] (by rw[hB];rfl) rfl (.kp (.kp (.kp .nil))) (.kb rfl (.loop rfl (.kp (.kp (.kp (.kp (.kp .nil)))))) (.kb rfl (.cells (rc ((qZ.hs1 rfl)) rn)) (.kb rfl (.same sn) (.kb rfl (.same sn) (.kb rfl (.cells (rc ((qZ.hs1 rfl)) rn)) (.ks (.kb rfl (.same sn) .nil))))))))
  intro _ hsub
  refine Goes.sub hsub ?_
  refine Goes.ret ?_
  cases h
  exact⟨_,Sub.refl _,⟨_,_,rfl,(qdx.refl _ _)⟩⟩
 ·refine Goes.skip ?_
  refine sq ?_
  obtain⟨⟨o12,n13,s14,l15,l16,s17,n18⟩,g_v19,h⟩:=bnd h
  refine Goes.cutS (s':=(ofG 49 (kB (kAB a4_ (kBO n18 []))),(.loop .busy none (ofG 49 [(2,.ptr 1 0),(3,.ptr 2 0),(4,.ptr 3 0),(5,.ptr 4 0),(6,.ptr 6 0)]) qg.xp qg.x1 qg.x2::(kF a0_ a1_ (kZ o12 a3_ (kBH n13 s14 l15 l16 s17 [])))))) ?_ ?_
  ·rcases a2_ with _|l9
   ·try dsimp only at g_v19
    obtain⟨r10,e_r10,g_v19⟩:=bnd g_v19
    simp only[Option.some.injEq,Prod.mk.injEq]at g_v19
    obtain⟨rfl,rfl,rfl,rfl,rfl,rfl,rfl⟩:=g_v19
    exact qh.sub (qh.rq fol [4] (kB (kAB a4_ (kBO r10.2 []))) (.loop .busy none (ofG 49 [(2,.ptr 1 0),(3,.ptr 2 0),(4,.ptr 3 0),(5,.ptr 4 0),(6,.ptr 6 0)]) qg.xp qg.x1 qg.x2::(kF a0_ a1_ (kAV (.cells ((hof (none:Option (List qb))).flatMap qa.c)::(kAC a3_ (kAE r10.1)))))) (ac (cv (yf N r4.1 (w64 (0+1)) e_r10)) az)) (Sub.norm [] [some 0,some 1,some 2,some 3,some 4,some 5,some 6,some 7] (by rw[hB];rfl) rfl (.kp (.kp (.kp (.kp (.kp (.keep (.same nI) (.kp (.keep (.same nI) .nil)))))))) (.kb rfl (.loop rfl (.kp (.kp (.kp (.kp (.kp .nil)))))) (.kb rfl (.same sn) (.kb rfl (.same sn) (.kb rfl (.same sn) (.kb rfl (.cells (rc .hs0 rn)) (.ks (.kb rfl (.same sn) (.kb rfl (.same sn) .nil)))))))))
   ·try dsimp only at g_v19
    obtain⟨r11,e_r11,g_v19⟩:=bnd g_v19
    simp only[Option.some.injEq,Prod.mk.injEq]at g_v19
    obtain⟨rfl,rfl,rfl,rfl,rfl,rfl,rfl⟩:=g_v19
    exact qh.sub (qh.rq fol [4] (kB (kAB a4_ (kBO r11.2 []))) (.loop .busy none (ofG 49 [(2,.ptr 1 0),(3,.ptr 2 0),(4,.ptr 3 0),(5,.ptr 4 0),(6,.ptr 6 0)]) qg.xp qg.x1 qg.x2::(kF a0_ a1_ (kAY l9 (kK l9 (kAC a3_ (kAE r11.1)))))) (ac (cv (yf N r4.1 (w64 ((l9.length:Int)+1)) e_r11)) az)) (Sub.norm [] [some 0,some 1,some 2,some 3,some 4,some 5,some 6,some 7] (by rw[hB];rfl) rfl (.kp (.kp (.kp (.kp (.kp (.keep (.same nI) (.kp (.keep (.same nI) .nil)))))))) (.kb rfl (.loop rfl (.kp (.kp (.kp (.kp (.kp .nil)))))) (.kb rfl (.same sn) (.kb rfl (.same sn) (.kb rfl (.same sn) (.kb rfl (.cells (rc ((qZ.hs1 rfl)) rn)) (.ks (.kb rfl (.same sn) (.kb rfl (.same sn) .nil)))))))))
  intro _ hsub
  try dsimp only at h
  refine Goes.sub hsub ?_
  refine sq ?_
  refine sh fol (kB (kAB a4_ (kBO n18 [(38,.bool (!decide (n18=0)))]))) ?_
  refine ihB h (fun c20 h=>?_) (fun c20 h=>?_)
  ·refine sq ?_
   obtain⟨o22,g_v23,h⟩:=bnd h
   refine Goes.cutS (s':=(ofG 49 (kB []),(.loop .busy none (ofG 49 [(2,.ptr 1 0),(3,.ptr 2 0),(4,.ptr 3 0),(5,.ptr 4 0),(6,.ptr 6 0)]) qg.xp qg.x1 qg.x2:: .cells [hsl 5 5 o22]::(kAC a3_ (kAC n18 (kZ o22 a3_ [])))))) ?_ ?_
   ·rcases o12 with _|l21
    ·try dsimp only at g_v23
     obtain rfl:=si g_v23
     exact qh.sub (qh.rg fol (kB []) (.loop .busy none (ofG 49 [(2,.ptr 1 0),(3,.ptr 2 0),(4,.ptr 3 0),(5,.ptr 4 0),(6,.ptr 6 0)]) qg.xp qg.x1 qg.x2::(kF a3_ n18 (kAV (.cells ((hof (none:Option (List qb))).flatMap qa.c)::(kAC a3_ (kBH n13 s14 l15 l16 s17 []))))))) (Sub.norm [] [some 0,some 1,some 2,some 3,some 4,some 5,some 6] (by rw[hB];rfl) rfl (.kp (.kp (.kp .nil))) (.kb rfl (.loop rfl (.kp (.kp (.kp (.kp (.kp .nil)))))) (.kb rfl (.cells (rc .hs0 rn)) (.kb rfl (.same sn) (.kb rfl (.same sn) (.kb rfl (.cells (rc .hs0 rn)) (.ks (.kb rfl (.same sn) .nil))))))))
    ·try dsimp only at g_v23
     obtain rfl:=si g_v23
     exact qh.sub (qh.rg fol (kB []) (.loop .busy none (ofG 49 [(2,.ptr 1 0),(3,.ptr 2 0),(4,.ptr 3 0),(5,.ptr 4 0),(6,.ptr 6 0)]) qg.xp qg.x1 qg.x2::(kAY l21 (kAC a3_ (kAC n18 (kAY l21 (kK l21 (kAC a3_ (kBH n13 s14 l15 l16 s17 []))))))))) (Sub.norm [] [some 0,some 1,some 2,some 3,some 4,some 5,some 6] (by rw[hB];rfl) rfl (.kp (.kp (.kp .nil))) (.kb rfl (.loop rfl (.kp (.kp (.kp (.kp (.kp .nil)))))) (.kb rfl (.cells (rc ((qZ.hs1 rfl)) rn)) (.kb rfl (.same sn) (.kb rfl (.same sn) (.kb rfl (.cells (rc ((qZ.hs1 rfl)) rn)) (.ks (.kb rfl (.same sn) .nil))))))))
   intro _ hsub
   refine Goes.sub hsub ?_
   refine Goes.ret ?_
   cases h
   exact⟨_,Sub.refl _,⟨_,_,rfl,(qdx.refl _ _)⟩⟩
  ·refine Goes.skip ?_
   obtain⟨l26,g_v27,h⟩:=bnd h
   refine Goes.cutS (s':=(ofG 49 [],(.loop .busy none (ofG 49 [(2,.ptr 1 0),(3,.ptr 2 0),(4,.ptr 3 0),(5,.ptr 4 0),(6,.ptr 6 0)]) qg.xp qg.x1 qg.x2::(kF a0_ a1_ (.cells [.oslice 7 l26.length 5]:: .dead::(kAC a4_ (kK l26 []))))))) ?_ ?_
   ·rcases o12 with _|l24
    ·try dsimp only at g_v27
     obtain rfl:=si g_v27
     exact qh.sub (qh.rg fol [] (.loop .busy none (ofG 49 [(2,.ptr 1 0),(3,.ptr 2 0),(4,.ptr 3 0),(5,.ptr 4 0),(6,.ptr 6 0)]) qg.xp qg.x1 qg.x2::(kF a0_ a1_ (.cells [.oslice 9 1 5]:: .cells ((hof (none:Option (List qb))).flatMap qa.c)::(kAC a4_ (kAW n13 s14 l15 l16 s17 (kBH n13 s14 l15 l16 s17 []))))))) (Sub.norm [] [some 0,some 1,some 2,some 3,some 4,some 5,some 6,some 9] (by rw[hB];rfl) rfl .nil (.kb rfl (.loop rfl (.kp (.kp (.kp (.kp (.kp .nil)))))) (.kb rfl (.same sn) (.kb rfl (.same sn) (.kb rfl (.same sn) (.kb rfl (.cells (rc ((qZ.osliceE rfl rfl)) rn)) (.lost (.kb rfl (.same sn) (.ks .nil)))))))))
    ·try dsimp only at g_v27
     obtain⟨l25,e_l25,g_v27⟩:=bnd g_v27
     obtain rfl:=si g_v27
     exact qh.sub (qh.rq fol [3] [] (.loop .busy none (ofG 49 [(2,.ptr 1 0),(3,.ptr 2 0),(4,.ptr 3 0),(5,.ptr 4 0),(6,.ptr 6 0)]) qg.xp qg.x1 qg.x2::(kF a0_ a1_ (.cells [.oslice 9 l25.length 5]:: .dead::(kAC a4_ (kAW n13 s14 l15 l16 s17 (kK l25 [])))))) (ac (hs (.run [5,8] (qR Tryz.prog [22,22] (.oslice 5 l24.length 5) (.slice 8 0 1 1 5)) (.loop .busy none (ofG 49 [(2,.ptr 1 0),(3,.ptr 2 0),(4,.ptr 3 0),(5,.ptr 4 0),(6,.ptr 6 0)]) qg.xp qg.x1 qg.x2::(kF a0_ a1_ (kAY l24 (kK l24 (kAC a3_ (kAW n13 s14 l15 l16 s17 [])))))) (.oslice 9 l25.length 5) (.loop .busy none (ofG 49 [(2,.ptr 1 0),(3,.ptr 2 0),(4,.ptr 3 0),(5,.ptr 4 0),(6,.ptr 6 0)]) qg.xp qg.x1 qg.x2::(kF a0_ a1_ (kAY l24 (.dead::(kAC a3_ (kAW n13 s14 l15 l16 s17 (kK l25 []))))))) true) (jG zV (E:=qa) rfl (qbH (E:=qa) (ys:=[(⟨n13,s14,l15,l16,s17⟩:qb)]) rfl rfl rfl rfl) (qgD (E:=qa) (l:=l24) rfl rfl rfl e_l25 rfl))) az)) (Sub.norm [] [some 0,some 1,some 2,some 3,some 4,some 5,some 6,some 9] (by rw[hB];rfl) rfl .nil (.kb rfl (.loop rfl (.kp (.kp (.kp (.kp (.kp .nil)))))) (.kb rfl (.same sn) (.kb rfl (.same sn) (.kb rfl (.same sn) (.kb rfl (.cells (rc (.oslice rfl) rn)) (.lost (.kb rfl (.same sn) (.ks .nil)))))))))
   intro _ hsub
   cases h
def qC (N:Nat) (a0_:Int) (a1_:Int) (a3_:Str):Nat→Int→(Option (List qb))→Int→Option ((Int×(Option (List qb)))⊕((Int×(Option (List qb)))⊕(Int×Int×Int×(Option (List qb)))))
 |0,_,_,_=>none
 |K+1,n7,o8,n9=>
  if n9<(a3_.length:Int)then
  (cut a3_ n9 (a3_.length:Int)).bind fun s15=>
  (strings_IndexByte s15 10).bind fun r16=>
  ((if r16≥0 then
  some (w64 ((w64 (n9+r16))+1))
  else
  some (a3_.length:Int):Option Int)).bind fun n17=>
  (cut a3_ n9 n17).bind fun s20=>
  (zJ N a0_ a1_ o8 n7 n17 s20).bind fun r21=>
  match r21 with
  | .inl l22=>
  qC N a0_ a1_ a3_ K n17 (some l22) n17
  | .inr (n23,o24)=>
  some (.inr (.inr (n7,n23,n7,o24)))
  else
  some (.inl (n7,o8))
def jN (N:Nat) (a0_:Int) (a1_:Int) (a2_:Int) (a3_:Str):Option ((Int×(Option (List qb)))⊕(Int×Int×Int×(Option (List qb)))):=
 (qC N a0_ a1_ a3_ N a2_ (none:Option (List qb)) 0).bind (fun
 |(.inl (n10,o11))=>
 some (.inl (n10,o11))
 |(.inr q25)=>
 some q25)
theorem qca (N:Nat) (a0_:Int) (a1_:Int) (a2_:Int) (a3_:Str) {n1:Int} {o2:Option (List qb)} (h:jN N a0_ a1_ a2_ a3_=some (.inl (n1,o2))):qf Tryz.prog (.fn 91) [.yld 0,.ptr 6 0] (.loop .ready none (ofG 49 [(2,.ptr 1 0),(3,.ptr 2 0),(4,.ptr 3 0),(5,.ptr 4 0),(6,.ptr 5 0)]) qg.xp qg.x1 qg.x2::(kF a0_ a1_ (kAV (kAC a2_ (kAp a3_ []))))) (.tuple []) (.loop .ready none (ofG 49 [(2,.ptr 1 0),(3,.ptr 2 0),(4,.ptr 3 0),(5,.ptr 4 0),(6,.ptr 5 0)]) qg.xp qg.x1 qg.x2::(kF a0_ a1_ (kG o2 n1 a3_))):=by
 unfold jN at h
 refine Goes.fnH Tryz.func91 rfl rfl (m:=31) rfl (rs:=[]) rfl (l:=[(0,.yld 0),(1,.ptr 6 0)]) rfl ?_
 intro B hB
 refine Goes.subQ ?_
 refine sh fol [(0,.yld 0),(1,.ptr 6 0),(3,.i 0)] ?_
 refine Goes.block ?_
 obtain⟨r12,g12,h⟩:=bnd h
 refine Goes.imp (Q:=fun x s'=>(x= .exit 0∧ ∃n10 o11,(.inl (n10,o11))=r12∧Sub s' (ofG 31 [],(.loop .ready none (ofG 49 [(2,.ptr 1 0),(3,.ptr 2 0),(4,.ptr 3 0),(5,.ptr 4 0),(6,.ptr 5 0)]) qg.xp qg.x1 qg.x2::(kF a0_ a1_ (kG o11 n10 a3_)))))∨(x= .ret∧ ∃q13,(.inr q13)=r12∧(∀(n1:Int) (o2:Option (List qb)),q13=(.inl (n1,o2))→qb8 Tryz.prog [] (.tuple []) (.loop .ready none (ofG 49 [(2,.ptr 1 0),(3,.ptr 2 0),(4,.ptr 3 0),(5,.ptr 4 0),(6,.ptr 5 0)]) qg.xp qg.x1 qg.x2::(kF a0_ a1_ (kG o2 n1 a3_))) .ret s'))) ?_ ?_
 ·refine Goes.sub (s':=(ofG 31 [(0,.yld 0),(1,.ptr 6 0),(3,.i 0)],(.loop .ready none (ofG 49 [(2,.ptr 1 0),(3,.ptr 2 0),(4,.ptr 3 0),(5,.ptr 4 0),(6,.ptr 5 0)]) qg.xp qg.x1 qg.x2::(kF a0_ a1_ (.cells [hsl 7 5 (none:Option (List qb))]::(kAC a2_ (kAp a3_ [.cells ((hof (none:Option (List qb))).flatMap qa.c)]))))))) (Sub.norm [] [some 0,some 1,some 2,some 3,some 4,some 5,some 6,none] (by rw[hB];rfl) rfl (.keep (.yld rfl) (.kp (.keep (.same nI) .nil))) (.kb rfl (.loop rfl (.kp (.kp (.kp (.kp (.kp .nil)))))) (.kb rfl (.same sn) (.kb rfl (.same sn) (.kb rfl (.same sn) (.kb rfl (.cells (rc .hs0 rn)) (.kb rfl (.same sn) (.kb rfl (.same sn) (.fresh .nil))))))))) ?_
  refine Goes.loopS (fun M s=> ∃(n7:Int) (o8:Option (List qb)) (n9:Int),s=(ofG 31 ((0,.yld 0)::(kAc n9 [])),(.loop .ready none (ofG 49 [(2,.ptr 1 0),(3,.ptr 2 0),(4,.ptr 3 0),(5,.ptr 4 0),(6,.ptr 5 0)]) qg.xp qg.x1 qg.x2::(kF a0_ a1_ (kG o8 n7 a3_))))∧qC N a0_ a1_ a3_ M n7 o8 n9=some r12) ?_ (m:=N) ⟨_,_,_,rfl,g12⟩
  rintro M s ⟨n7,o8,n9,rfl,g12⟩
  cases M with
  |zero=>simp only[qC]at g12;cases g12
  |succ M=>
   rw[qC]at g12
   refine sq ?_
   refine sh fol ((0,.yld 0)::(kAc n9 [(9,.bool (decide (n9<(a3_.length:Int))))])) ?_
   refine ihD g12 (fun c14 g12=>?_) (fun c14 g12=>?_)
   ·refine Goes.skip ?_
    refine Goes.block ?_
    refine sh fol ((0,.yld 0)::(kAc n9 (kAq (a3_.length:Int)))) ?_
    refine sq ?_
    obtain⟨s15,e_s15,g12⟩:=bnd g12
    obtain⟨r16,e_r16,g12⟩:=bnd g12
    refine sq (gr fol [2,3] ((0,.yld 0)::(kAc n9 ((4,.i (a3_.length:Int))::(kAn r16)))) (ac (hs (.done (.opt (qz Tryz.prog 9 (.str a3_) (some (.i n9)) none none)) (.str s15)) (yK st9 (some n9) none e_s15)) (ac (cv (qaX s15 10 e_r16)) az)) ?_)
    refine sh fol ((0,.yld 0)::(kAc n9 [(4,.i (a3_.length:Int)),(5,.i r16),(17,.bool (decide (r16≥0)))])) ?_
    obtain⟨r18,g18,g12⟩:=bnd g12
    refine Goes.imp (Q:=fun x s'=>(x= .normal∧ ∃n17,n17=r18∧Sub s' (ofG 31 ((0,.yld 0)::(kAc n9 (kAq n17))),(.loop .ready none (ofG 49 [(2,.ptr 1 0),(3,.ptr 2 0),(4,.ptr 3 0),(5,.ptr 4 0),(6,.ptr 5 0)]) qg.xp qg.x1 qg.x2::(kF a0_ a1_ (kG o8 n7 a3_)))))) ?_ ?_
    ·refine ihD g18 (fun c19 g18=>?_) (fun c19 g18=>?_)
     ·refine gh fol ((0,.yld 0)::(kAc n9 (kAq (w64 ((w64 (n9+r16))+1))))) ?_
      obtain rfl:=si g18
      exact⟨rfl,_,rfl,(Sub.refl _)⟩
     ·refine Goes.skip ?_
      obtain rfl:=si g18
      exact⟨rfl,_,rfl,(Sub.keep [0,1,3,4] rfl rfl)⟩
    rintro x s' ⟨rfl,n17,rfl,hsub⟩
    refine Goes.sub hsub ?_
    refine sq ?_
    refine sq ?_
    obtain⟨s20,e_s20,g12⟩:=bnd g12
    obtain⟨r21,e_r21,g12⟩:=bnd g12
    rcases r21 with l22|⟨n23,o24⟩
    ·try dsimp only at g12
     refine gq fol [5,6] [(0,.yld 0),(1,.ptr 6 0),(4,.i n17),(29,.bool false)] (.loop .ready none (ofG 49 [(2,.ptr 1 0),(3,.ptr 2 0),(4,.ptr 3 0),(5,.ptr 4 0),(6,.ptr 5 0)]) qg.xp qg.x1 qg.x2::(kF a0_ a1_ (.cells [.oslice 8 l22.length 5]::(kAC n17 (kAp a3_ (.dead::(kK l22 []))))))) (ac (hs (.done (.opt (qz Tryz.prog 9 (.str a3_) (some (.i n9)) (some (.i n17)) none)) (.str s20)) (yK st9 (some n9) (some n17) e_s20)) (ac (hs (.callH (.rd 0) [.i n17,.str s20] (.loop .ready none (ofG 49 [(2,.ptr 1 0),(3,.ptr 2 0),(4,.ptr 3 0),(5,.ptr 4 0),(6,.ptr 5 0)]) qg.xp qg.x1 qg.x2::(kF a0_ a1_ (kG o8 n7 a3_))) [0,1,2,3,4,7,5] (.bool true) (.loop .ready none (ofG 49 [(2,.ptr 1 0),(3,.ptr 2 0),(4,.ptr 3 0),(5,.ptr 4 0),(6,.ptr 5 0)]) qg.xp qg.x1 qg.x2::(kF a0_ a1_ (.cells [.oslice 8 l22.length 5]::(kAC n17 (kAp a3_ (.dead::(kK l22 [])))))))) (qh7 [some 0,some 1,some 2,some 3,some 4,some 7,some 5] [some 0,some 1,some 2,some 3,some 4,some 6,none,none,some 7] (qam N a0_ a1_ o8 n7 n17 s20 e_r21) rfl (.kb rfl (.loop rfl (.kp (.kp (.kp (.kp (.kp .nil)))))) (.kb rfl (.cells (rc (.same (qo.nilslice)) rn)) (.kb rfl (.cells (rc (.same nI) rn)) (.kb rfl (.cells (rc (.same nI) rn)) (.kb rfl (.cells (rc (.hs rfl) rn)) (.ks (.kb rfl (.cells (rc (.same nI) rn)) .nil))))))) rfl rfl (.back rfl rfl (.loop rfl (.kp (.kp (.kp (.kp (.kp .nil)))))) rfl (.back rfl rfl (.cells (rc (.same (qo.nilslice)) rn)) rfl (.back rfl rfl (.cells (rc (.same nI) rn)) rfl (.back rfl rfl (.cells (rc (.same nI) rn)) rfl (.back rfl rfl (.cells (rc (.oslice rfl) rn)) rfl (.back rfl rfl (.cells (rc (.same nI) rn)) rfl (.old rfl rfl (.dead (.new rfl rfl (.same fa) rfl .nil))))))))) (rc (.same nI) (rc (.same nS) rn)) (.same nB) rfl)) az)) ?_
     refine Goes.ifB (b:=false) (by kernel_rfl) (fun c=>(by cases c)) (fun _=>?_)
     refine Goes.skip ?_
     refine gh fol ((0,.yld 0)::(kAc n17 [])) ?_
     exact⟨M,(ofG 31 ((0,.yld 0)::(kAc n17 [])),(.loop .ready none (ofG 49 [(2,.ptr 1 0),(3,.ptr 2 0),(4,.ptr 3 0),(5,.ptr 4 0),(6,.ptr 5 0)]) qg.xp qg.x1 qg.x2::(kF a0_ a1_ (kG (some l22) n17 a3_)))),Nat.lt_succ_self _,(Sub.norm [] [some 0,some 1,some 2,some 3,some 4,some 5,some 6,some 8] (by rw[hB];rfl) rfl (.keep (.yld rfl) (.kp (.keep (.same nI) .nil))) (.kb rfl (.loop rfl (.kp (.kp (.kp (.kp (.kp .nil)))))) (.kb rfl (.same sn) (.kb rfl (.same sn) (.kb rfl (.same sn) (.kb rfl (.cells (rc ((qZ.hs1 rfl)) rn)) (.kb rfl (.same sn) (.kb rfl (.same sn) (.ks .nil))))))))),_,_,_,rfl,g12⟩
    ·try dsimp only at g12
     refine gq fol [5,6] [(0,.yld 0),(1,.ptr 6 0),(4,.i n17),(29,.bool true)] (.loop .done (some .ret) (ofG 49 [(2,.ptr 1 0),(3,.ptr 2 0),(4,.ptr 3 0),(5,.ptr 4 0),(6,.ptr 5 0)]) qg.xp qg.x1 qg.x2::(kBE o24 (kAC n7 (kAC n23 (kG o24 n7 a3_))))) (ac (hs (.done (.opt (qz Tryz.prog 9 (.str a3_) (some (.i n9)) (some (.i n17)) none)) (.str s20)) (yK st9 (some n9) (some n17) e_s20)) (ac (hs (.callH (.rd 0) [.i n17,.str s20] (.loop .ready none (ofG 49 [(2,.ptr 1 0),(3,.ptr 2 0),(4,.ptr 3 0),(5,.ptr 4 0),(6,.ptr 5 0)]) qg.xp qg.x1 qg.x2::(kF a0_ a1_ (kG o8 n7 a3_))) [0,1,2,3,4,7,5] (.bool false) (.loop .done (some .ret) (ofG 49 [(2,.ptr 1 0),(3,.ptr 2 0),(4,.ptr 3 0),(5,.ptr 4 0),(6,.ptr 5 0)]) qg.xp qg.x1 qg.x2::(kBE o24 (kAC n7 (kAC n23 (kG o24 n7 a3_)))))) (qh7 [some 0,some 1,some 2,some 3,some 4,some 7,some 5] [some 0,some 1,some 2,some 3,some 4,some 6,none,some 5] (qak N a0_ a1_ o8 n7 n17 s20 e_r21) rfl (.kb rfl (.loop rfl (.kp (.kp (.kp (.kp (.kp .nil)))))) (.kb rfl (.cells (rc (.same (qo.nilslice)) rn)) (.kb rfl (.cells (rc (.same nI) rn)) (.kb rfl (.cells (rc (.same nI) rn)) (.kb rfl (.cells (rc (.hs rfl) rn)) (.ks (.kb rfl (.cells (rc (.same nI) rn)) .nil))))))) rfl rfl (.back rfl rfl (.loop rfl (.kp (.kp (.kp (.kp (.kp .nil)))))) rfl (.back rfl rfl (.cells (rc (.hs rfl) rn)) rfl (.back rfl rfl (.cells (rc (.same nI) rn)) rfl (.back rfl rfl (.cells (rc (.same nI) rn)) rfl (.back rfl rfl (.cells (rc (.hs rfl) rn)) rfl (.back rfl rfl (.cells (rc (.same nI) rn)) rfl (.old rfl rfl (.back rfl rfl (.same fa) rfl .nil)))))))) (rc (.same nI) (rc (.same nS) rn)) (.same nB) rfl)) az)) ?_
     refine Goes.ifB (b:=true) (by kernel_rfl) (fun _=>?_) (fun c=>(by cases c))
     refine Goes.ret ?_
     obtain rfl:=si g12
     exact Or.inr (⟨rfl,_,rfl,(fun n1 o2 e_=>by cases e_)⟩)
   ·refine Goes.exit ?_
    obtain rfl:=si g12
    exact Or.inl (⟨rfl,_,_,rfl,(Sub.keep [] rfl rfl)⟩)
 rintro x s' (⟨rfl,n10,o11,rfl,hsub⟩|⟨rfl,q25,rfl,hret⟩)
 ·try dsimp only at h
  cases h
  exact⟨_,hsub,(gh2 [] (qdx.refl _ _))⟩
 ·try dsimp only at h
  exact⟨_,Sub.refl _,(hret _ _ (si h))⟩
theorem qci (N:Nat) (a0_:Int) (a1_:Int) (a2_:Int) (a3_:Str) {n3:Int} {n4:Int} {n5:Int} {o6:Option (List qb)} (h:jN N a0_ a1_ a2_ a3_=some (.inr (n3,n4,n5,o6))):qf Tryz.prog (.fn 91) [.yld 0,.ptr 6 0] (.loop .ready none (ofG 49 [(2,.ptr 1 0),(3,.ptr 2 0),(4,.ptr 3 0),(5,.ptr 4 0),(6,.ptr 5 0)]) qg.xp qg.x1 qg.x2::(kF a0_ a1_ (kAV (kAC a2_ (kAp a3_ []))))) (.tuple []) (.loop .done (some .ret) (ofG 49 [(2,.ptr 1 0),(3,.ptr 2 0),(4,.ptr 3 0),(5,.ptr 4 0),(6,.ptr 5 0)]) qg.xp qg.x1 qg.x2::(kBE o6 (kAC n3 (kAC n4 (kG o6 n5 a3_))))):=by
 unfold jN at h
 refine Goes.fnH Tryz.func91 rfl rfl (m:=31) rfl (rs:=[]) rfl (l:=[(0,.yld 0),(1,.ptr 6 0)]) rfl ?_
 intro B hB
 refine Goes.subQ ?_
 refine sh fol [(0,.yld 0),(1,.ptr 6 0),(3,.i 0)] ?_
 refine Goes.block ?_
 obtain⟨r12,g12,h⟩:=bnd h
 refine Goes.imp (Q:=fun x s'=>(x= .exit 0∧ ∃n10 o11,(.inl (n10,o11))=r12∧Sub s' (ofG 31 [],(.loop .ready none (ofG 49 [(2,.ptr 1 0),(3,.ptr 2 0),(4,.ptr 3 0),(5,.ptr 4 0),(6,.ptr 5 0)]) qg.xp qg.x1 qg.x2::(kF a0_ a1_ (kG o11 n10 a3_)))))∨(x= .ret∧ ∃q13,(.inr q13)=r12∧(∀(n3:Int) (n4:Int) (n5:Int) (o6:Option (List qb)),q13=(.inr (n3,n4,n5,o6))→qb8 Tryz.prog [] (.tuple []) (.loop .done (some .ret) (ofG 49 [(2,.ptr 1 0),(3,.ptr 2 0),(4,.ptr 3 0),(5,.ptr 4 0),(6,.ptr 5 0)]) qg.xp qg.x1 qg.x2::(kBE o6 (kAC n3 (kAC n4 (kG o6 n5 a3_))))) .ret s'))) ?_ ?_
 ·refine Goes.sub (s':=(ofG 31 [(0,.yld 0),(1,.ptr 6 0),(3,.i 0)],(.loop .ready none (ofG 49 [(2,.ptr 1 0),(3,.ptr 2 0),(4,.ptr 3 0),(5,.ptr 4 0),(6,.ptr 5 0)]) qg.xp qg.x1 qg.x2::(kF a0_ a1_ (.cells [hsl 7 5 (none:Option (List qb))]::(kAC a2_ (kAp a3_ [.cells ((hof (none:Option (List qb))).flatMap qa.c)]))))))) (Sub.norm [] [some 0,some 1,some 2,some 3,some 4,some 5,some 6,none] (by rw[hB];rfl) rfl (.keep (.yld rfl) (.kp (.keep (.same nI) .nil))) (.kb rfl (.loop rfl (.kp (.kp (.kp (.kp (.kp .nil)))))) (.kb rfl (.same sn) (.kb rfl (.same sn) (.kb rfl (.same sn) (.kb rfl (.cells (rc .hs0 rn)) (.kb rfl (.same sn) (.kb rfl (.same sn) (.fresh .nil))))))))) ?_
  refine Goes.loopS (fun M s=> ∃(n7:Int) (o8:Option (List qb)) (n9:Int),s=(ofG 31 ((0,.yld 0)::(kAc n9 [])),(.loop .ready none (ofG 49 [(2,.ptr 1 0),(3,.ptr 2 0),(4,.ptr 3 0),(5,.ptr 4 0),(6,.ptr 5 0)]) qg.xp qg.x1 qg.x2::(kF a0_ a1_ (kG o8 n7 a3_))))∧qC N a0_ a1_ a3_ M n7 o8 n9=some r12) ?_ (m:=N) ⟨_,_,_,rfl,g12⟩
  rintro M s ⟨n7,o8,n9,rfl,g12⟩
  cases M with
  |zero=>simp only[qC]at g12;cases g12
  |succ M=>
   rw[qC]at g12
   refine sq ?_
   refine sh fol ((0,.yld 0)::(kAc n9 [(9,.bool (decide (n9<(a3_.length:Int))))])) ?_
   refine ihD g12 (fun c14 g12=>?_) (fun c14 g12=>?_)
   ·refine Goes.skip ?_
    refine Goes.block ?_
    refine sh fol ((0,.yld 0)::(kAc n9 (kAq (a3_.length:Int)))) ?_
    refine sq ?_
    obtain⟨s15,e_s15,g12⟩:=bnd g12
    obtain⟨r16,e_r16,g12⟩:=bnd g12
    refine sq (gr fol [2,3] ((0,.yld 0)::(kAc n9 ((4,.i (a3_.length:Int))::(kAn r16)))) (ac (hs (.done (.opt (qz Tryz.prog 9 (.str a3_) (some (.i n9)) none none)) (.str s15)) (yK st9 (some n9) none e_s15)) (ac (cv (qaX s15 10 e_r16)) az)) ?_)
    refine sh fol ((0,.yld 0)::(kAc n9 [(4,.i (a3_.length:Int)),(5,.i r16),(17,.bool (decide (r16≥0)))])) ?_
    obtain⟨r18,g18,g12⟩:=bnd g12
    refine Goes.imp (Q:=fun x s'=>(x= .normal∧ ∃n17,n17=r18∧Sub s' (ofG 31 ((0,.yld 0)::(kAc n9 (kAq n17))),(.loop .ready none (ofG 49 [(2,.ptr 1 0),(3,.ptr 2 0),(4,.ptr 3 0),(5,.ptr 4 0),(6,.ptr 5 0)]) qg.xp qg.x1 qg.x2::(kF a0_ a1_ (kG o8 n7 a3_)))))) ?_ ?_
    ·refine ihD g18 (fun c19 g18=>?_) (fun c19 g18=>?_)
     ·refine gh fol ((0,.yld 0)::(kAc n9 (kAq (w64 ((w64 (n9+r16))+1))))) ?_
      obtain rfl:=si g18
      exact⟨rfl,_,rfl,(Sub.refl _)⟩
     ·refine Goes.skip ?_
      obtain rfl:=si g18
      exact⟨rfl,_,rfl,(Sub.keep [0,1,3,4] rfl rfl)⟩
    rintro x s' ⟨rfl,n17,rfl,hsub⟩
    refine Goes.sub hsub ?_
    refine sq ?_
    refine sq ?_
    obtain⟨s20,e_s20,g12⟩:=bnd g12
    obtain⟨r21,e_r21,g12⟩:=bnd g12
    rcases r21 with l22|⟨n23,o24⟩
    ·try dsimp only at g12
     refine gq fol [5,6] [(0,.yld 0),(1,.ptr 6 0),(4,.i n17),(29,.bool false)] (.loop .ready none (ofG 49 [(2,.ptr 1 0),(3,.ptr 2 0),(4,.ptr 3 0),(5,.ptr 4 0),(6,.ptr 5 0)]) qg.xp qg.x1 qg.x2::(kF a0_ a1_ (.cells [.oslice 8 l22.length 5]::(kAC n17 (kAp a3_ (.dead::(kK l22 []))))))) (ac (hs (.done (.opt (qz Tryz.prog 9 (.str a3_) (some (.i n9)) (some (.i n17)) none)) (.str s20)) (yK st9 (some n9) (some n17) e_s20)) (ac (hs (.callH (.rd 0) [.i n17,.str s20] (.loop .ready none (ofG 49 [(2,.ptr 1 0),(3,.ptr 2 0),(4,.ptr 3 0),(5,.ptr 4 0),(6,.ptr 5 0)]) qg.xp qg.x1 qg.x2::(kF a0_ a1_ (kG o8 n7 a3_))) [0,1,2,3,4,7,5] (.bool true) (.loop .ready none (ofG 49 [(2,.ptr 1 0),(3,.ptr 2 0),(4,.ptr 3 0),(5,.ptr 4 0),(6,.ptr 5 0)]) qg.xp qg.x1 qg.x2::(kF a0_ a1_ (.cells [.oslice 8 l22.length 5]::(kAC n17 (kAp a3_ (.dead::(kK l22 [])))))))) (qh7 [some 0,some 1,some 2,some 3,some 4,some 7,some 5] [some 0,some 1,some 2,some 3,some 4,some 6,none,none,some 7] (qam N a0_ a1_ o8 n7 n17 s20 e_r21) rfl (.kb rfl (.loop rfl (.kp (.kp (.kp (.kp (.kp .nil)))))) (.kb rfl (.cells (rc (.same (qo.nilslice)) rn)) (.kb rfl (.cells (rc (.same nI) rn)) (.kb rfl (.cells (rc (.same nI) rn)) (.kb rfl (.cells (rc (.hs rfl) rn)) (.ks (.kb rfl (.cells (rc (.same nI) rn)) .nil))))))) rfl rfl (.back rfl rfl (.loop rfl (.kp (.kp (.kp (.kp (.kp .nil)))))) rfl (.back rfl rfl (.cells (rc (.same (qo.nilslice)) rn)) rfl (.back rfl rfl (.cells (rc (.same nI) rn)) rfl (.back rfl rfl (.cells (rc (.same nI) rn)) rfl (.back rfl rfl (.cells (rc (.oslice rfl) rn)) rfl (.back rfl rfl (.cells (rc (.same nI) rn)) rfl (.old rfl rfl (.dead (.new rfl rfl (.same fa) rfl .nil))))))))) (rc (.same nI) (rc (.same nS) rn)) (.same nB) rfl)) az)) ?_
     refine Goes.ifB (b:=false) (by kernel_rfl) (fun c=>(by cases c)) (fun _=>?_)
     refine Goes.skip ?_
     refine gh fol ((0,.yld 0)::(kAc n17 [])) ?_
     exact⟨M,(ofG 31 ((0,.yld 0)::(kAc n17 [])),(.loop .ready none (ofG 49 [(2,.ptr 1 0),(3,.ptr 2 0),(4,.ptr 3 0),(5,.ptr 4 0),(6,.ptr 5 0)]) qg.xp qg.x1 qg.x2::(kF a0_ a1_ (kG (some l22) n17 a3_)))),Nat.lt_succ_self _,(Sub.norm [] [some 0,some 1,some 2,some 3,some 4,some 5,some 6,some 8] (by rw[hB];rfl) rfl (.keep (.yld rfl) (.kp (.keep (.same nI) .nil))) (.kb rfl (.loop rfl (.kp (.kp (.kp (.kp (.kp .nil)))))) (.kb rfl (.same sn) (.kb rfl (.same sn) (.kb rfl (.same sn) (.kb rfl (.cells (rc ((qZ.hs1 rfl)) rn)) (.kb rfl (.same sn) (.kb rfl (.same sn) (.ks .nil))))))))),_,_,_,rfl,g12⟩
    ·try dsimp only at g12
     refine gq fol [5,6] [(0,.yld 0),(1,.ptr 6 0),(4,.i n17),(29,.bool true)] (.loop .done (some .ret) (ofG 49 [(2,.ptr 1 0),(3,.ptr 2 0),(4,.ptr 3 0),(5,.ptr 4 0),(6,.ptr 5 0)]) qg.xp qg.x1 qg.x2::(kBE o24 (kAC n7 (kAC n23 (kG o24 n7 a3_))))) (ac (hs (.done (.opt (qz Tryz.prog 9 (.str a3_) (some (.i n9)) (some (.i n17)) none)) (.str s20)) (yK st9 (some n9) (some n17) e_s20)) (ac (hs (.callH (.rd 0) [.i n17,.str s20] (.loop .ready none (ofG 49 [(2,.ptr 1 0),(3,.ptr 2 0),(4,.ptr 3 0),(5,.ptr 4 0),(6,.ptr 5 0)]) qg.xp qg.x1 qg.x2::(kF a0_ a1_ (kG o8 n7 a3_))) [0,1,2,3,4,7,5] (.bool false) (.loop .done (some .ret) (ofG 49 [(2,.ptr 1 0),(3,.ptr 2 0),(4,.ptr 3 0),(5,.ptr 4 0),(6,.ptr 5 0)]) qg.xp qg.x1 qg.x2::(kBE o24 (kAC n7 (kAC n23 (kG o24 n7 a3_)))))) (qh7 [some 0,some 1,some 2,some 3,some 4,some 7,some 5] [some 0,some 1,some 2,some 3,some 4,some 6,none,some 5] (qak N a0_ a1_ o8 n7 n17 s20 e_r21) rfl (.kb rfl (.loop rfl (.kp (.kp (.kp (.kp (.kp .nil)))))) (.kb rfl (.cells (rc (.same (qo.nilslice)) rn)) (.kb rfl (.cells (rc (.same nI) rn)) (.kb rfl (.cells (rc (.same nI) rn)) (.kb rfl (.cells (rc (.hs rfl) rn)) (.ks (.kb rfl (.cells (rc (.same nI) rn)) .nil))))))) rfl rfl (.back rfl rfl (.loop rfl (.kp (.kp (.kp (.kp (.kp .nil)))))) rfl (.back rfl rfl (.cells (rc (.hs rfl) rn)) rfl (.back rfl rfl (.cells (rc (.same nI) rn)) rfl (.back rfl rfl (.cells (rc (.same nI) rn)) rfl (.back rfl rfl (.cells (rc (.hs rfl) rn)) rfl (.back rfl rfl (.cells (rc (.same nI) rn)) rfl (.old rfl rfl (.back rfl rfl (.same fa) rfl .nil)))))))) (rc (.same nI) (rc (.same nS) rn)) (.same nB) rfl)) az)) ?_
     refine Goes.ifB (b:=true) (by kernel_rfl) (fun _=>?_) (fun c=>(by cases c))
     refine Goes.ret ?_
     obtain rfl:=si g12
     exact Or.inr (⟨rfl,_,rfl,(fun n3 n4 n5 o6 e_=>by cases e_;exact(gh2 [] (qdx.refl _ _)))⟩)
   ·refine Goes.exit ?_
    obtain rfl:=si g12
    exact Or.inl (⟨rfl,_,_,rfl,(Sub.keep [] rfl rfl)⟩)
 rintro x s' (⟨rfl,n10,o11,rfl,hsub⟩|⟨rfl,q25,rfl,hret⟩)
 ·try dsimp only at h
  cases h
 ·try dsimp only at h
  exact⟨_,Sub.refl _,(hret _ _ _ _ (si h))⟩
def vO (N:Nat) (log:Str):Option ((List qb)×Int×Int):=
 if(log.length:Int)>1000000 then
 some ([],0,26)
 else
 (xV log).bind fun _=>
 (jN N 0 0 0 log).bind fun r3=>
 match r3 with
 | .inl (n4,o5)=>
 ((match o5 with
 |none=>
 some (none:Option (List qb))
 |some l10=>
 some (some l10)):Option (Option (List qb))).bind fun o11=>
 some ((hof o11),n4,0)
 | .inr (n6,n7,n8,o9)=>
 some ((hof o9),n6,n7)
theorem qaq (N:Nat) (log:Str) {res:(List qb)×Int×Int} (h:vO N log=some res):qf Tryz.prog (.fn 9) [.str log] [] (.tuple [vl qa res.1,.i res.2.1,.i res.2.2]) []:=by
 unfold vO at h
 refine Goes.fnW Tryz.func9 rfl rfl (m:=49) rfl (rs:=[.cell 2 22,.cell 3 3,.cell 4 32]) rfl (l:=(kBF log)) rfl ?_
 refine sg fol ((0,.str log)::(kI (kAZ []))) (kW (kBZ [])) ?_
 refine sq ?_
 refine sh fol ((0,.str log)::(kI (kAZ [(15,.bool (decide ((log.length:Int)>1000000)))]))) ?_
 refine ihD h (fun c1 h=>?_) (fun c1 h=>?_)
 ·refine sg fol (kI (kAZ [])) (kW [.cells [.i 26]]) ?_
  refine Goes.ret ?_
  obtain rfl:=si h
  exact(gw2 [.nilslice,.i 0,.i 26] (FzW.tuple (qj.cons (FzW.nilv (E:=qa)) (qj.cons (FzW.still tI) (qj.cons (FzW.still tI) qj.nil)))))
 ·refine Goes.skip ?_
  refine sg fol ((0,.str log)::(kI (kAZ [(5,.ptr 3 0)]))) (kW (kBZ (kAV []))) ?_
  refine sg fol ((0,.str log)::(kI (kAZ (kBb [])))) (kW (kBZ (kW []))) ?_
  refine sq ?_
  obtain⟨_,e_r2,h⟩:=bnd h
  refine sq (gq fol [1] (kI (kAZ (kBb [(17,.func (.func 91) [] [.ptr 5 0])]))) (kW (kBZ (kW (kAp log [])))) (ac (hs (.callH 34 [.str log] (kW (kBZ (kW []))) [] (.func (.func 91) [] [.ptr 5 0]) (kW (kBZ (kW (kAp log []))))) (jL [] [none,none,none,none,none,some 0] (qew log e_r2) .nil rfl rfl (.old rfl rfl (.old rfl rfl (.old rfl rfl (.old rfl rfl (.old rfl rfl (.new rfl rfl (.cells (rc (.same nS) rn)) rfl .nil)))))) (rc (.same nS) rn) (.funcL (sn) (rc (.ptr rfl) rn)) rfl)) az) ?_)
  refine Goes.block ?_
  obtain⟨r3,e_r3,h⟩:=bnd h
  rcases r3 with⟨n4,o5⟩|⟨n6,n7,n8,o9⟩
  ·try dsimp only at h
   refine Goes.range fol rfl (gf:=91) (first:=[]) (captured:=[.ptr 5 0]) (v:= .tuple []) (A2:=(kW (kBZ (kBE o5 (kAC n4 (kAp log (.loop .ready none (ofG 49 [(2,.ptr 0 0),(3,.ptr 1 0),(4,.ptr 2 0),(5,.ptr 3 0),(6,.ptr 4 0)]) qg.xp qg.x1 qg.x2::(kAj o5 [])))))))) (s':=(ofG 49 (kI (kAZ (kBb [(17,.func (.func 91) [] [.ptr 5 0])]))),(kW (kBZ (kBE o5 (kAC n4 (kAp log (.loop .exhausted none (ofG 49 [(2,.ptr 0 0),(3,.ptr 1 0),(4,.ptr 2 0),(5,.ptr 3 0),(6,.ptr 4 0)]) qg.xp qg.x1 qg.x2::(kAj o5 []))))))))) (x:= .normal) (by kernel_rfl) (by kernel_rfl) (qiF (show(Obl.callH 91 [.yld 6,.ptr 5 0] (kW (kBZ (kW (kAp log [.loop .ready none (ofG 49 [(2,.ptr 0 0),(3,.ptr 1 0),(4,.ptr 2 0),(5,.ptr 3 0),(6,.ptr 4 0),(17,.func (.func 91) [] [.ptr 5 0])]) qg.xp qg.x1 qg.x2])))) [6,0,1,2,3,4,5] (.tuple []) (kW (kBZ (kBE o5 (kAC n4 (kAp log (.loop .ready none (ofG 49 [(2,.ptr 0 0),(3,.ptr 1 0),(4,.ptr 2 0),(5,.ptr 3 0),(6,.ptr 4 0)]) qg.xp qg.x1 qg.x2::(kAj o5 [])))))))).Holds Tryz.prog from jL [some 6,some 0,some 1,some 2,some 3,some 4,some 5] [some 1,some 2,some 3,some 4,some 5,some 6,some 0,some 7] (qca N 0 0 0 log e_r3) (.kb rfl (.loop rfl (.kp (.kp (.kp (.kp (.kp (.drop .nil))))))) (.kb rfl (.cells (rc (.same (qo.nilslice)) rn)) (.kb rfl (.cells (rc (.same nI) rn)) (.kb rfl (.cells (rc (.same nI) rn)) (.kb rfl (.cells (rc (.same (qo.nilslice)) rn)) (.kb rfl (.cells (rc (.same nI) rn)) (.kb rfl (.cells (rc (.same nS) rn)) .nil))))))) rfl rfl (.back rfl rfl (.cells (rc (.same (qo.nilslice)) rn)) rfl (.back rfl rfl (.cells (rc (.same nI) rn)) rfl (.back rfl rfl (.cells (rc (.same nI) rn)) rfl (.back rfl rfl (.cells (rc (.hs rfl) rn)) rfl (.back rfl rfl (.cells (rc (.same nI) rn)) rfl (.back rfl rfl (.cells (rc (.same nS) rn)) rfl (.back rfl rfl (.loop rfl (.kp (.kp (.kp (.kp (.kp .nil)))))) rfl (.new rfl rfl (.same fa) rfl .nil)))))))) (rc (.yld rfl) (rc (.ptr rfl) rn)) (.same (qo.tuple sn)) rfl)) (by kernel_rfl) ?_
   refine Goes.sub (show Sub (ofG 49 (kI (kAZ (kBb [(17,.func (.func 91) [] [.ptr 5 0])]))),(kW (kBZ (kBE o5 (kAC n4 (kAp log (.loop .exhausted none (ofG 49 [(2,.ptr 0 0),(3,.ptr 1 0),(4,.ptr 2 0),(5,.ptr 3 0),(6,.ptr 4 0)]) qg.xp qg.x1 qg.x2::(kAj o5 [])))))))) (ofG 49 (kI (kAZ [(5,.ptr 3 0),(6,.ptr 5 0),(17,.func (.func 91) [] [.ptr 6 0])])),(kW (kBZ (.cells [hsl 4 5 o5]::(kAj o5 (kAC n4 (kAp log [])))))))from(Sub.norm [] [some 0,some 1,some 2,some 3,some 7,some 4,some 5] rfl rfl (.kp (.kp (.kp (.kp (.kp (.keep (.funcL (sn) (rc (.ptr rfl) rn)) .nil)))))) (.kb rfl (.same sn) (.kb rfl (.same sn) (.kb rfl (.same sn) (.kb rfl (.cells (rc (.hs rfl) rn)) (.ks (.kb rfl (.same sn) (.kb rfl (.same sn) .nil))))))))) ?_
   refine sq ?_
   obtain⟨o11,g_v12,h⟩:=bnd h
   refine Goes.cutS (s':=(ofG 49 (kR [(3,.ptr 2 0),(4,.ptr 3 0)]),(.cells [hsl 1 5 o11]::(kAj o11 (kAC n4 (kBZ [])))))) ?_ ?_
   ·rcases o5 with _|l10
    ·try dsimp only at g_v12
     obtain rfl:=si g_v12
     exact qh.sub (qh.rg fol (kI (kAZ [])) (kAV (kAC n4 (kBZ (kAV (.cells ((hof (none:Option (List qb))).flatMap qa.c)::(kAC n4 (kAp log [])))))))) (Sub.norm [] [some 0,none,some 1,some 2] rfl rfl (.kp (.kp (.kp .nil))) (.kb rfl (.cells (rc .hs0 rn)) (.fresh (.kb rfl (.same sn) (.kb rfl (.same sn) .nil)))))
    ·try dsimp only at g_v12
     obtain rfl:=si g_v12
     exact qh.sub (qh.rg fol (kI (kAZ [])) (.cells [.oslice 4 l10.length 5]::(kAC n4 (kBZ (.cells [.oslice 4 l10.length 5]::(kK l10 (kAC n4 (kAp log [])))))))) (Sub.norm [] [some 0,some 4,some 1,some 2] rfl rfl (.kp (.kp (.kp .nil))) (.kb rfl (.cells (rc ((qZ.hs1 rfl)) rn)) (.ks (.kb rfl (.same sn) (.kb rfl (.same sn) .nil)))))
   intro _ hsub
   refine Goes.sub hsub ?_
   refine Goes.ret ?_
   obtain rfl:=si h
   exact(gw2 [hsl 1 5 o11,.i n4,.i 0] (FzW.tuple (qj.cons (FzW.hs (E:=qa) rfl rfl (nl rfl)) (qj.cons (FzW.still tI) (qj.cons (FzW.still tI) qj.nil)))))
  ·try dsimp only at h
   refine Goes.range fol rfl (gf:=91) (first:=[]) (captured:=[.ptr 5 0]) (v:= .tuple []) (A2:=(kBE o9 (kAC n6 (kAC n7 (kBE o9 (kAC n8 (kAp log (.loop .done (some .ret) (ofG 49 [(2,.ptr 0 0),(3,.ptr 1 0),(4,.ptr 2 0),(5,.ptr 3 0),(6,.ptr 4 0)]) qg.xp qg.x1 qg.x2::(kAj o9 []))))))))) (s':=(ofG 49 (kI (kAZ (kBb [(17,.func (.func 91) [] [.ptr 5 0])]))),(kBE o9 (kAC n6 (kAC n7 (kBE o9 (kAC n8 (kAp log (.loop .exhausted (some .ret) (ofG 49 [(2,.ptr 0 0),(3,.ptr 1 0),(4,.ptr 2 0),(5,.ptr 3 0),(6,.ptr 4 0)]) qg.xp qg.x1 qg.x2::(kAj o9 [])))))))))) (x:= .ret) (by kernel_rfl) (by kernel_rfl) (qiF (show(Obl.callH 91 [.yld 6,.ptr 5 0] (kW (kBZ (kW (kAp log [.loop .ready none (ofG 49 [(2,.ptr 0 0),(3,.ptr 1 0),(4,.ptr 2 0),(5,.ptr 3 0),(6,.ptr 4 0),(17,.func (.func 91) [] [.ptr 5 0])]) qg.xp qg.x1 qg.x2])))) [6,0,1,2,3,4,5] (.tuple []) (kBE o9 (kAC n6 (kAC n7 (kBE o9 (kAC n8 (kAp log (.loop .done (some .ret) (ofG 49 [(2,.ptr 0 0),(3,.ptr 1 0),(4,.ptr 2 0),(5,.ptr 3 0),(6,.ptr 4 0)]) qg.xp qg.x1 qg.x2::(kAj o9 []))))))))).Holds Tryz.prog from jL [some 6,some 0,some 1,some 2,some 3,some 4,some 5] [some 1,some 2,some 3,some 4,some 5,some 6,some 0,some 7] (qci N 0 0 0 log e_r3) (.kb rfl (.loop rfl (.kp (.kp (.kp (.kp (.kp (.drop .nil))))))) (.kb rfl (.cells (rc (.same (qo.nilslice)) rn)) (.kb rfl (.cells (rc (.same nI) rn)) (.kb rfl (.cells (rc (.same nI) rn)) (.kb rfl (.cells (rc (.same (qo.nilslice)) rn)) (.kb rfl (.cells (rc (.same nI) rn)) (.kb rfl (.cells (rc (.same nS) rn)) .nil))))))) rfl rfl (.back rfl rfl (.cells (rc (.hs rfl) rn)) rfl (.back rfl rfl (.cells (rc (.same nI) rn)) rfl (.back rfl rfl (.cells (rc (.same nI) rn)) rfl (.back rfl rfl (.cells (rc (.hs rfl) rn)) rfl (.back rfl rfl (.cells (rc (.same nI) rn)) rfl (.back rfl rfl (.cells (rc (.same nS) rn)) rfl (.back rfl rfl (.loop rfl (.kp (.kp (.kp (.kp (.kp .nil)))))) rfl (.new rfl rfl (.same fa) rfl .nil)))))))) (rc (.yld rfl) (rc (.ptr rfl) rn)) (.same (qo.tuple sn)) rfl)) (by kernel_rfl) ?_
   obtain rfl:=si h
   exact(gw2 [hsl 7 5 o9,.i n6,.i n7] (FzW.tuple (qj.cons (FzW.hs (E:=qa) rfl rfl (nl rfl)) (qj.cons (FzW.still tI) (qj.cons (FzW.still tI) qj.nil)))))
def qbF (words_:List Str):Option Str:=
 (qk9 words_ [32]).bind fun r1=>
 some r1
theorem qf7 (words_:List Str) {res:Str} (h:qbF words_=some res):qf Tryz.prog (.fn 122) [vl encS words_] [] (.str res) []:=by
 unfold qbF at h
 refine Goes.fnW Tryz.func122 rfl rfl (m:=5) rfl (rs:=[.tmp 2]) rfl (l:=[(0,vl encS words_)]) rfl ?_
 refine sh fol [(0,vl encS words_)] ?_
 obtain⟨r1,e_r1,h⟩:=bnd h
 refine sq (gr fol [1] [(2,.str r1)] (ac (cv (qmO words_ [32] e_r1)) az) ?_)
 refine Goes.ret ?_
 obtain rfl:=si h
 exact(gw2 [.str r1] (FzW.still tS))
def jJ (a0_:Int):Option (Option (List Str)):=
 ((if a0_<0 then
 none
 else
 some ():Option Unit)).bind fun _=>
 ((if(w64 (a0_-(w64 (0-0))))>0 then
 (cut ([]:List Str) 0 0).bind fun s7=>
 (qjw 16 (w64 (a0_-(w64 (0-0)))) []).bind fun l8=>
 (cut l8 0 0).bind fun l9=>
 some (some l9)
 else
 some (none:Option (List Str)):Option (Option (List Str)))).bind fun o4=>
 some o4
theorem qbW (a0_:Int) {o1:Option (List Str)} (h:jJ a0_=some o1):qf Tryz.prog (.fn 208) [.nilslice,.i a0_] [] (hsl 0 1 o1) (kA1 o1):=by
 unfold jJ at h
 refine Goes.fnH Tryz.func208 rfl rfl (m:=27) rfl (rs:=[.tmp 4]) rfl (l:=[(0,.nilslice),(1,.i a0_)]) rfl ?_
 intro B hB
 refine sh fol [(0,.nilslice),(1,.i a0_)] ?_
 refine sq ?_
 refine sh fol [(0,.nilslice),(1,.i a0_),(6,.bool (decide (a0_<0)))] ?_
 obtain⟨r2,g2,h⟩:=bnd h
 refine Goes.imp (Q:=fun x s'=>(x= .normal∧()=r2∧Sub s' (ofG 27 [(0,.nilslice),(1,.i a0_)],[]))) ?_ ?_
 ·refine ihD g2 (fun c3 g2=>?_) (fun c3 g2=>?_)
  ·cases g2
  ·refine Goes.skip ?_
   obtain rfl:=si g2
   exact⟨rfl,rfl,(Sub.keep [0,1] rfl rfl)⟩
 rintro x s' ⟨rfl,rfl,hsub⟩
 refine Goes.sub hsub ?_
 refine sq ?_
 refine sh fol [(0,.nilslice),(1,.i (w64 (a0_-(w64 (0-0)))))] ?_
 refine sh fol [(0,.nilslice),(1,.i (w64 (a0_-(w64 (0-0))))),(16,.bool (decide ((w64 (a0_-(w64 (0-0))))>0)))] ?_
 obtain⟨r5,g5,h⟩:=bnd h
 refine Goes.imp (Q:=fun x s'=>(x= .normal∧ ∃o4,o4=r5∧Sub s' (ofG 27 [(0,hsl 0 1 o4)],(kA1 o4)))) ?_ ?_
 ·refine ihD g5 (fun c6 g5=>?_) (fun c6 g5=>?_)
  ·obtain⟨s7,e_s7,g5⟩:=bnd g5
   obtain⟨l8,e_l8,g5⟩:=bnd g5
   obtain⟨l9,e_l9,g5⟩:=bnd g5
   refine gq fol [3,5,8] [(0,.oslice 0 l9.length 1)] (kM l8) (ac (hs (.done (.opt (qz Tryz.prog 37 .nilslice none (some (.i 0)) none)) .nilslice) (qnm (α:=Str) vV none (some 0) e_s7)) (ac (hs (.run [] (qR Tryz.prog [37,3] .nilslice (.i (w64 (a0_-(w64 (0-0)))))) [] (.oslice 0 l8.length 1) (kM l8) false) (qm4 vV it3 (E:=encS) rfl (z:=[]) (by kernel_rfl) e_l8 rfl)) (ac (hs (.done (.opt (qz Tryz.prog 37 (.oslice 0 l8.length 1) none (some (.i 0)) none)) (.oslice 0 l9.length 1)) (qoA vV e_l9)) az))) ?_
   obtain rfl:=si g5
   exact⟨rfl,_,rfl,((show Sub (ofG 27 [(0,.oslice 0 l9.length 1)],(kM l8)) (ofG 27 [(0,.oslice 0 l9.length 1)],(kM l9))from(Sub.norm [] [some 0] (by rw[hB];rfl) rfl (.keep (.oslice rfl) .nil) (.kb rfl (qa5.cut e_l9) .nil))).trans (Sub.norm [] [some 0] (by rw[hB];rfl) rfl (.keep (qZ.hs1 rfl) .nil) (.ks .nil)))⟩
  ·refine Goes.skip ?_
   obtain rfl:=si g5
   exact⟨rfl,_,rfl,(Sub.norm [] [none] (by rw[hB];rfl) rfl (.keep qZ.hs0 .nil) (.fresh .nil))⟩
 rintro x s' ⟨rfl,o4,rfl,hsub⟩
 refine Goes.sub hsub ?_
 refine sh fol [(4,hsl 0 1 o4)] ?_
 refine Goes.ret ?_
 obtain rfl:=si h
 exact(gh2 [hsl 0 1 o4] (qdx.refl _ _))
end Go.Av
