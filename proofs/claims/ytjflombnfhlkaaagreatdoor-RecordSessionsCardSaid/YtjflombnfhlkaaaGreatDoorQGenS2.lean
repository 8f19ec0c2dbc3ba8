/-
  Walks of functions: what each computes, as a plain function.
-/
import Derived.Test.YtjflombnfhlkaaaGreatDoorQGenS1
noncomputable section
namespace Go.Av
open Go.Proofs Go.RowKit
set_option linter.unusedSectionVars false
set_option linter.unusedVariables false
set_option linter.unusedSimpArgs false
set_option maxRecDepth 100000
def yf (s_:Str):Nat→Int→Option (Unit⊕(qb×Int))
 |0,_=>none
 |K+1,n7=>
  if n7<(s_.length:Int)then
  ((idx s_ n7).bind fun c11=>
  if(c11.toNat:Int)<48 then
  some true
  else
  some (decide ((c11.toNat:Int)>57)):Option Bool).bind fun b13=>
  if b13=true then
  some (.inr ((⟨0,[],[],[],[]⟩:qb),25))
  else
  yf s_ K (w64 (n7+1))
  else
  some (.inl ())
def qbj (N:Nat) (s_:Str):Option (qb×Int):=
 (if(w64 ((s_.length:Int)-8))<0 then
 some (w64 ((s_.length:Int)-8),true)
 else
 (idx s_ (w64 ((s_.length:Int)-8))).bind fun c2=>
 some (w64 ((s_.length:Int)-8),!decide ((c2.toNat:Int)=59)):Option (Int×Bool)).bind fun(n3,b4)=>
 if b4=true then
 some ((⟨0,[],[],[],[]⟩:qb),25)
 else
 (yf s_ N (w64 (n3+1))).bind (fun
 |(.inl ())=>
 (cut s_ 0 n3).bind fun s16=>
 (cut s_ (w64 (n3+1)) (s_.length:Int)).bind fun s17=>
 (qch N s16).bind fun r18=>
 if(!(s17==r18))=true then
 some ((⟨0,[],[],[],[]⟩:qb),27)
 else
 (qa9 N s16).bind fun r20=>
 (idx r20 0).bind fun x21=>
 (xc N x21).bind fun r22=>
 (if(!r22.2)=true then
 some true
 else
 some (decide ((r20.length:Int)<2)):Option Bool).bind fun b24=>
 if b24=true then
 some ((⟨0,[],[],[],[]⟩:qb),25)
 else
 (cut s16 (w64 ((x21.length:Int)+1)) (s16.length:Int)).bind fun s27=>
 (qaG N s27).bind fun r28=>
 (if(!r28.2)=true then
 some true
 else
 (vw N (⟨r22.1,r28.1.Kind,r28.1.Names,r28.1.Values,r28.1.Text⟩:qb)).bind fun r30=>
 some (!decide (r30=0)):Option Bool).bind fun b31=>
 if b31=true then
 some ((⟨0,[],[],[],[]⟩:qb),25)
 else
 some ((⟨r22.1,r28.1.Kind,r28.1.Names,r28.1.Values,r28.1.Text⟩:qb),0)
 |(.inr q34)=>
 some q34)
theorem qha (N:Nat) (s_:Str) {res:qb×Int} (h:qbj N s_=some res):qg Tryz.prog (.fn 106) [.str s_] [] (.tuple [.agg (cE res.1),.i res.2]) []:=by
 unfold qbj at h
 refine Goes.fnW Tryz.func106 rfl rfl (m:=93) rfl (rs:=[.cell 2 26,.tmp 3]) rfl (l:=(kAJ s_ [])) rfl ?_
 refine sg fol (kAJ s_ (kK [])) (kG []) ?_
 refine sh fol (kAJ s_ (kK (kAv (w64 ((s_.length:Int)-8))))) ?_
 refine sq ?_
 refine sq ?_
 obtain⟨⟨n3,b4⟩,g_v5,h⟩:=bnd h
 refine Goes.cut (s':=(ofG 93 (kAJ s_ (kK [(4,.i n3),(22,.bool b4)])),(kG []))) ?_ ?_
 ·rcases wyD g_v5 with⟨c1,g_v5⟩|⟨c1,g_v5⟩
  ·simp only[Option.some.injEq,Prod.mk.injEq]at g_v5
   obtain⟨rfl,rfl⟩:=g_v5
   exact tr fol [2] (kAJ s_ (kK [(4,.i (w64 ((s_.length:Int)-8))),(22,.bool true)])) (ac (gw c1) az)
  ·obtain⟨c2,e_c2,g_v5⟩:=bnd g_v5
   simp only[Option.some.injEq,Prod.mk.injEq]at g_v5
   obtain⟨rfl,rfl⟩:=g_v5
   exact tr fol [2,5] (kAJ s_ (kK [(4,.i (w64 ((s_.length:Int)-8))),(22,.bool (!decide ((c2.toNat:Int)=59)))])) (ac (gw c1) (ac (hs (.done (.opt (vQ Tryz.prog 9 (.str s_) (.i (w64 ((s_.length:Int)-8))))) (.int .u8 (c2.toNat:Int))) (xz st9 e_c2)) az))
 try dsimp only at h
 refine ihB h (fun c6 h=>?_) (fun c6 h=>?_)
 ·refine sh fol (kK [(3,.i 25)]) ?_
  refine Goes.ret ?_
  obtain rfl:=si h
  exact(gw2 (kAA [.i 25]) (FzW.tuple (qh.cons (FzW.agg (qh.cons (FzW.still tI) (qh.cons (FzW.still tS) (qh.cons (FzW.nilv (E:=encS)) (qh.cons (FzW.nilv (E:=encI)) (qh.cons (FzW.still tS) qh.nil)))))) (qh.cons (FzW.still tI) qh.nil))))
 ·refine Goes.skip ?_
  refine sq ?_
  refine sh fol (kAJ s_ (kK ((4,.i n3)::(kAb (w64 (n3+1)))))) ?_
  refine Goes.block ?_
  obtain⟨r8,g8,h⟩:=bnd h
  refine Goes.imp (Q:=fun x s'=>(x= .exit 0∧(.inl ())=r8∧Sub s' (ofG 93 (kAJ s_ (kK (kAv n3))),(kG [])))∨(x= .ret∧ ∃q9,(.inr q9)=r8∧qW Tryz.prog [.cell 2 26,.tmp 3] (.tuple [.agg (cE q9.1),.i q9.2]) .ret s')) ?_ ?_
  ·refine Goes.loopS (fun M s=> ∃(n7:Int),s=(ofG 93 (kAJ s_ (kK ((4,.i n3)::(kAb n7)))),(kG []))∧yf s_ M n7=some r8) ?_ (m:=N) ⟨_,rfl,g8⟩
   rintro M s ⟨n7,rfl,g8⟩
   cases M with
   |zero=>simp only[yf]at g8;cases g8
   |succ M=>
    rw[yf]at g8
    refine sq ?_
    refine sh fol (kAJ s_ (kK [(4,.i n3),(5,.i n7),(29,.bool (decide (n7<(s_.length:Int))))])) ?_
    refine ihD g8 (fun c10 g8=>?_) (fun c10 g8=>?_)
    ·refine Goes.skip ?_
     refine sq (Goes.block ?_)
     refine sq ?_
     obtain⟨b13,g_v14,g8⟩:=bnd g8
     refine Goes.cut (s':=(ofG 93 (kAJ s_ (kK [(4,.i n3),(5,.i n7),(41,.bool b13)])),(kG []))) ?_ ?_
     ·obtain⟨c11,e_c11,g_v14⟩:=bnd g_v14
      rcases wyD g_v14 with⟨c12,g_v14⟩|⟨c12,g_v14⟩
      ·obtain rfl:=si g_v14
       exact tr fol [2,4] (kAJ s_ (kK [(4,.i n3),(5,.i n7),(41,.bool true)])) (ac (hs (.done (.opt (vQ Tryz.prog 9 (.str s_) (.i n7))) (.int .u8 (c11.toNat:Int))) (xz st9 e_c11)) (ac (gw c12) az))
      ·obtain rfl:=si g_v14
       exact tr fol [2,4,7] (kAJ s_ (kK [(4,.i n3),(5,.i n7),(41,.bool (decide ((c11.toNat:Int)>57)))])) (ac (hs (.done (.opt (vQ Tryz.prog 9 (.str s_) (.i n7))) (.int .u8 (c11.toNat:Int))) (xz st9 e_c11)) (ac (gw c12) (ac (hs (.done (.opt (vQ Tryz.prog 9 (.str s_) (.i n7))) (.int .u8 (c11.toNat:Int))) (xz st9 e_c11)) az)))
     refine ihB g8 (fun c15 g8=>?_) (fun c15 g8=>?_)
     ·refine sh fol (kK [(3,.i 25)]) ?_
      refine Goes.ret ?_
      obtain rfl:=si g8
      exact Or.inr (⟨rfl,_,rfl,(gw2 (kAA [.i 25]) (FzW.tuple (qh.cons (FzW.agg (qh.cons (FzW.still tI) (qh.cons (FzW.still tS) (qh.cons (FzW.nilv (E:=encS)) (qh.cons (FzW.nilv (E:=encI)) (qh.cons (FzW.still tS) qh.nil)))))) (qh.cons (FzW.still tI) qh.nil))))⟩)
     ·refine Goes.skip ?_
      refine gh fol (kAJ s_ (kK ((4,.i n3)::(kAb (w64 (n7+1)))))) ?_
      exact⟨M,(ofG 93 (kAJ s_ (kK ((4,.i n3)::(kAb (w64 (n7+1)))))),(kG [])),Nat.lt_succ_self _,(Sub.refl _),_,rfl,g8⟩
    ·refine Goes.exit ?_
     obtain rfl:=si g8
     exact Or.inl (⟨rfl,rfl,(Sub.keep [0,2,4] rfl rfl)⟩)
  rintro x s' (⟨rfl,rfl,hsub⟩|⟨rfl,q34,rfl,hret⟩)
  ·try dsimp only at h
   refine Goes.sub hsub ?_
   obtain⟨s16,e_s16,h⟩:=bnd h
   refine sq (gr fol [2] (kAJ s_ (kK [(4,.i n3),(6,.str s16)])) (ac (hs (.done (.opt (qG Tryz.prog 9 (.str s_) none (some (.i n3)) none)) (.str s16)) (yR st9 none (some n3) e_s16)) az) ?_)
   refine sq ?_
   obtain⟨s17,e_s17,h⟩:=bnd h
   obtain⟨r18,e_r18,h⟩:=bnd h
   refine sq (gr fol [3,5] (kK [(6,.str s16),(52,.bool (!(s17==r18)))]) (ac (hs (.done (.opt (qG Tryz.prog 9 (.str s_) (some (.i (w64 (n3+1)))) none none)) (.str s17)) (yR st9 (some (w64 (n3+1))) none e_s17)) (ac (cv (qfZ N s16 e_r18)) az)) ?_)
   refine ihB h (fun c19 h=>?_) (fun c19 h=>?_)
   ·refine sh fol (kK [(3,.i 27)]) ?_
    refine Goes.ret ?_
    obtain rfl:=si h
    exact(gw2 (kAA [.i 27]) (FzW.tuple (qh.cons (FzW.agg (qh.cons (FzW.still tI) (qh.cons (FzW.still tS) (qh.cons (FzW.nilv (E:=encS)) (qh.cons (FzW.nilv (E:=encI)) (qh.cons (FzW.still tS) qh.nil)))))) (qh.cons (FzW.still tI) qh.nil))))
   ·refine Goes.skip ?_
    obtain⟨r20,e_r20,h⟩:=bnd h
    refine sq (gr fol [1] (kK [(6,.str s16),(7,vl encS r20)]) (ac (cv (qei N s16 e_r20)) az) ?_)
    obtain⟨x21,e_x21,h⟩:=bnd h
    obtain⟨r22,e_r22,h⟩:=bnd h
    refine sq (gr fol [1,2,3] (kK ((6,.str s16)::(7,vl encS r20)::(8,.i r22.1)::(kBt r22.2))) (ac (iv zi encS e_x21) (ac (lv 0 ce9 encS e_x21 rfl) (ac (cv (qbA N x21 e_r22)) az))) ?_)
    refine sq ?_
    refine sq ?_
    obtain⟨b24,g_v25,h⟩:=bnd h
    refine Goes.cut (s':=(ofG 93 (kK [(6,.str s16),(7,vl encS r20),(8,.i r22.1),(69,.bool b24)]),(kG []))) ?_ ?_
    ·rcases wyB g_v25 with⟨c23,g_v25⟩|⟨c23,g_v25⟩
     ·obtain rfl:=si g_v25
      exact tr fol [2] (kK [(6,.str s16),(7,vl encS r20),(8,.i r22.1),(69,.bool true)]) (ac (gw c23) az)
     ·obtain rfl:=si g_v25
      exact tr fol [2] (kK [(6,.str s16),(7,vl encS r20),(8,.i r22.1),(69,.bool (decide ((r20.length:Int)<2)))]) (ac (gw c23) az)
    refine ihB h (fun c26 h=>?_) (fun c26 h=>?_)
    ·refine sh fol (kK [(3,.i 25)]) ?_
     refine Goes.ret ?_
     obtain rfl:=si h
     exact(gw2 (kAA [.i 25]) (FzW.tuple (qh.cons (FzW.agg (qh.cons (FzW.still tI) (qh.cons (FzW.still tS) (qh.cons (FzW.nilv (E:=encS)) (qh.cons (FzW.nilv (E:=encI)) (qh.cons (FzW.still tS) qh.nil)))))) (qh.cons (FzW.still tI) qh.nil))))
    ·refine Goes.skip ?_
     obtain⟨s27,e_s27,h⟩:=bnd h
     obtain⟨r28,e_r28,h⟩:=bnd h
     refine sq (gq fol [2,3,6,7] (kK [(8,.i r22.1),(10,.ptr 1 0),(11,.bool r28.2)]) (kG (kQ r28.1 [])) (ac (iv zi encS e_x21) (ac (lv 0 ce9 encS e_x21 rfl) (ac (hs (.done (.opt (qG Tryz.prog 9 (.str s16) (some (.i (w64 ((x21.length:Int)+1)))) none none)) (.str s27)) (yR st9 (some (w64 ((x21.length:Int)+1))) none e_s27)) (ac (cv (qd7 N s27 e_r28)) az)))) ?_)
     refine sg fol (kK [(10,.ptr 1 0),(11,.bool r28.2)]) (kG (kN r22.1 r28.1.Kind r28.1.Names r28.1.Values r28.1.Text [])) ?_
     refine sq ?_
     refine sq ?_
     obtain⟨b31,g_v32,h⟩:=bnd h
     refine Goes.cut (s':=(ofG 93 (kK [(10,.ptr 1 0),(90,.bool b31)]),(kG (kN r22.1 r28.1.Kind r28.1.Names r28.1.Values r28.1.Text [])))) ?_ ?_
     ·rcases wyB g_v32 with⟨c29,g_v32⟩|⟨c29,g_v32⟩
      ·obtain rfl:=si g_v32
       exact tr fol [2] (kK [(10,.ptr 1 0),(90,.bool true)]) (ac (gw c29) az)
      ·obtain⟨r30,e_r30,g_v32⟩:=bnd g_v32
       obtain rfl:=si g_v32
       exact tr fol [2,4] (kK [(10,.ptr 1 0),(90,.bool (!decide (r30=0)))]) (ac (gw c29) (ac (cv (qaM N (⟨r22.1,r28.1.Kind,r28.1.Names,r28.1.Values,r28.1.Text⟩:qb) e_r30)) az))
     refine ihB h (fun c33 h=>?_) (fun c33 h=>?_)
     ·refine sh fol (kK [(3,.i 25)]) ?_
      refine Goes.ret ?_
      obtain rfl:=si h
      exact(gw2 (kAA [.i 25]) (FzW.tuple (qh.cons (FzW.agg (qh.cons (FzW.still tI) (qh.cons (FzW.still tS) (qh.cons (FzW.nilv (E:=encS)) (qh.cons (FzW.nilv (E:=encI)) (qh.cons (FzW.still tS) qh.nil)))))) (qh.cons (FzW.still tI) qh.nil))))
     ·refine Goes.skip ?_
      refine sg fol (kK [(3,.i 0)]) (kN r22.1 r28.1.Kind r28.1.Names r28.1.Values r28.1.Text (kN r22.1 r28.1.Kind r28.1.Names r28.1.Values r28.1.Text [])) ?_
      refine Goes.ret ?_
      obtain rfl:=si h
      exact(gw2 [.agg [.i r22.1,.str r28.1.Kind,vl encS r28.1.Names,vl encI r28.1.Values,.str r28.1.Text],.i 0] (FzW.tuple (qh.cons (FzW.agg (qh.cons (FzW.still tI) (qh.cons (FzW.still tS) (qh.cons (FzW.still (qF encS _ (nl rfl))) (qh.cons (FzW.still (qF encI _ (nl rfl))) (qh.cons (FzW.still tS) qh.nil)))))) (qh.cons (FzW.still tI) qh.nil))))
  ·try dsimp only at h
   obtain rfl:=si h
   exact hret
def jG (N:Nat) (log:Str):Nat→(List qb)→Int→Int→Option (((List qb)×Int)⊕((List qb)×Int×Int))
 |0,_,_,_=>none
 |K+1,l2,n3,n4=>
  if n4<(log.length:Int)then
  (((idx log n4).bind fun c14=>
  if(!decide ((c14.toNat:Int)=10))=true then
  some (.inl (l2,n3))
  else
  (cut log n3 n4).bind fun s16=>
  (qbj N s16).bind fun r17=>
  (if r17.2=0 then
  some (!decide (r17.1.Number=(w64 ((l2.length:Int)+1))))
  else
  some false:Option Bool).bind fun b19=>
  ((if b19=true then
  some 11
  else
  some r17.2:Option Int)).bind fun n21=>
  if(!decide (n21=0))=true then
  some (.inr (l2,n3,n21))
  else
  (app 88 l2 [r17.1]).bind fun l25=>
  some (.inl (l25,w64 (n4+1))):Option (((List qb)×Int)⊕((List qb)×Int×Int)))).bind (fun
  |(.inl (l10,n11))=>
  jG N log K l10 n11 (w64 (n4+1))
  |(.inr q26)=>
  some (.inr q26))
  else
  some (.inl (l2,n3))
def qaR (N:Nat) (log:Str):Option ((List qb)×Int×Int):=
 if(log.length:Int)>1000000 then
 some ([],0,26)
 else
 (jG N log N ([]:List qb) 0 0).bind (fun
 |(.inl (l5,n6))=>
 if n6<(log.length:Int)then
 some (l5,n6,28)
 else
 some (l5,n6,0)
 |(.inr q28)=>
 some q28)
theorem qgD (N:Nat) (log:Str) {res:(List qb)×Int×Int} (h:qaR N log=some res):qg Tryz.prog (.fn 44) [.str log] [] (.tuple (kA5 res.1 [.i res.2.1,.i res.2.2])) []:=by
 unfold qaR at h
 refine Goes.fnW Tryz.func44 rfl rfl (m:=60) rfl (rs:=[.tmp 2,.tmp 3,.tmp 4]) rfl (l:=(kAJ log [])) rfl ?_
 refine sh fol (kAJ log []) ?_
 refine sq ?_
 refine sh fol (kAJ log [(12,.bool (decide ((log.length:Int)>1000000)))]) ?_
 refine ihD h (fun c1 h=>?_) (fun c1 h=>?_)
 ·refine sh fol [(2,.nilslice),(3,.i 0),(4,.i 26)] ?_
  refine Goes.ret ?_
  obtain rfl:=si h
  exact(gw2 [.nilslice,.i 0,.i 26] (FzW.tuple (qh.cons (FzW.nilv (E:=qa)) (qh.cons (FzW.still tI) (qh.cons (FzW.still tI) qh.nil)))))
 ·refine Goes.skip ?_
  refine sh fol (kAJ log [(5,.nilslice)]) ?_
  refine sh fol (kAJ log [(5,.nilslice),(6,.i 0)]) ?_
  refine sq ?_
  refine sh fol (kAJ log [(5,.nilslice),(6,.i 0),(7,.i 0)]) ?_
  refine Goes.block ?_
  obtain⟨r7,g7,h⟩:=bnd h
  refine Goes.imp (Q:=fun x s'=>(x= .exit 0∧ ∃l5 n6,(.inl (l5,n6))=r7∧Sub s' (ofG 60 (kAJ log (kAq l5 (kBu n6))),(kB l5 [])))∨(x= .ret∧ ∃q8,(.inr q8)=r7∧qW Tryz.prog [.tmp 2,.tmp 3,.tmp 4] (.tuple (kA5 q8.1 [.i q8.2.1,.i q8.2.2])) .ret s')) ?_ ?_
  ·refine Goes.sub (s':=(ofG 60 (kAJ log [(5,.gslice 0 ([]:List qb).length 5),(6,.i 0),(7,.i 0)]),(kB3 []))) (Sub.norm [] [none] rfl rfl (.keep (.same nS) (.keep .nil (.keep (.same nI) (.keep (.same nI) .nil)))) (.fresh .nil)) ?_
   refine Goes.loopS (fun M s=> ∃(l2:List qb) (n3:Int) (n4:Int),s=(ofG 60 (kAJ log (kAq l2 (kZ n3 n4 []))),(kB l2 []))∧jG N log M l2 n3 n4=some r7) ?_ (m:=N) ⟨_,_,_,rfl,g7⟩
   rintro M s ⟨l2,n3,n4,rfl,g7⟩
   cases M with
   |zero=>simp only[jG]at g7;cases g7
   |succ M=>
    rw[jG]at g7
    refine sq ?_
    refine sh fol (kAJ log (kAq l2 (kZ n3 n4 [(16,.bool (decide (n4<(log.length:Int))))]))) ?_
    refine ihD g7 (fun c9 g7=>?_) (fun c9 g7=>?_)
    ·refine Goes.skip ?_
     refine sq ?_
     obtain⟨r12,g12,g7⟩:=bnd g7
     refine Goes.imp (Q:=fun x s'=>(x= .normal∧ ∃l10 n11,(.inl (l10,n11))=r12∧Sub s' (ofG 60 (kAJ log (kAq l10 (kZ n11 n4 []))),(kB l10 [])))∨(x= .ret∧ ∃q13,(.inr q13)=r12∧qW Tryz.prog [.tmp 2,.tmp 3,.tmp 4] (.tuple (kA5 q13.1 [.i q13.2.1,.i q13.2.2])) .ret s')) ?_ ?_
     ·refine Goes.block ?_
      refine sq ?_
      obtain⟨c14,e_c14,g12⟩:=bnd g12
      refine sq (gr fol [2] (kAJ log (kAq l2 (kZ n3 n4 [(22,.bool (!decide ((c14.toNat:Int)=10)))]))) (ac (hs (.done (.opt (vQ Tryz.prog 9 (.str log) (.i n4))) (.int .u8 (c14.toNat:Int))) (xz st9 e_c14)) az) ?_)
      refine ihB g12 (fun c15 g12=>?_) (fun c15 g12=>?_)
      ·refine Goes.exit ?_
       obtain rfl:=si g12
       exact Or.inl (⟨rfl,_,_,rfl,(Sub.keep [0,5,6,7] rfl rfl)⟩)
      ·refine Goes.skip ?_
       obtain⟨s16,e_s16,g12⟩:=bnd g12
       obtain⟨r17,e_r17,g12⟩:=bnd g12
       refine sq (gq fol [3,4] (kAJ log (kAq l2 (kZ n3 n4 (kBk (kBi r17.2))))) (kB l2 (kQ r17.1 [])) (ac (hs (.done (.opt (qG Tryz.prog 9 (.str log) (some (.i n3)) (some (.i n4)) none)) (.str s16)) (yR st9 (some n3) (some n4) e_s16)) (ac (cv (qha N s16 e_r17)) az)) ?_)
       refine sq ?_
       refine sq ?_
       obtain⟨b19,g_v20,g12⟩:=bnd g12
       refine Goes.cut (s':=(ofG 60 (kAJ log (kAq l2 (kZ n3 n4 (kBk [(9,.i r17.2),(40,.bool b19)])))),(kB l2 (kQ r17.1 [])))) ?_ ?_
       ·rcases wyD g_v20 with⟨c18,g_v20⟩|⟨c18,g_v20⟩
        ·obtain rfl:=si g_v20
         exact tr fol [2] (kAJ log (kAq l2 (kZ n3 n4 (kBk [(9,.i r17.2),(40,.bool (!decide (r17.1.Number=(w64 ((l2.length:Int)+1)))))])))) (ac (gw c18) az)
        ·obtain rfl:=si g_v20
         exact tr fol [2] (kAJ log (kAq l2 (kZ n3 n4 (kBk [(9,.i r17.2),(40,.bool false)])))) (ac (gw c18) az)
       obtain⟨r22,g22,g12⟩:=bnd g12
       refine Goes.imp (Q:=fun x s'=>(x= .normal∧ ∃n21,n21=r22∧Sub s' (ofG 60 (kAJ log (kAq l2 (kZ n3 n4 (kBk (kBi n21))))),(kB l2 (kQ r17.1 []))))) ?_ ?_
       ·refine ihB g22 (fun c23 g22=>?_) (fun c23 g22=>?_)
        ·refine gh fol (kAJ log (kAq l2 (kZ n3 n4 (kBk [(9,.i 11)])))) ?_
         obtain rfl:=si g22
         exact⟨rfl,_,rfl,(Sub.refl _)⟩
        ·refine Goes.skip ?_
         obtain rfl:=si g22
         exact⟨rfl,_,rfl,(Sub.keep [0,5,6,7,8,9] rfl rfl)⟩
       rintro x s' ⟨rfl,n21,rfl,hsub⟩
       refine Goes.sub hsub ?_
       refine sq ?_
       refine sh fol (kAJ log (kAq l2 (kZ n3 n4 (kBk [(9,.i n21),(42,.bool (!decide (n21=0)))])))) ?_
       refine ihB g12 (fun c24 g12=>?_) (fun c24 g12=>?_)
       ·refine sh fol ((2,.gslice 0 l2.length 5)::(3,.i n3)::(kAv n21)) ?_
        refine Goes.ret ?_
        obtain rfl:=si g12
        exact Or.inr (⟨rfl,_,rfl,(gw2 [.gslice 0 l2.length 5,.i n3,.i n21] (FzW.tuple (qh.cons (FzW.fz (Fz.gs (E:=qa) rfl rfl (nl rfl))) (qh.cons (FzW.still tI) (qh.cons (FzW.still tI) qh.nil)))))⟩)
       ·refine Goes.skip ?_
        obtain⟨l25,e_l25,g12⟩:=bnd g12
        refine sq (gq fol [3] (kAJ log [(5,.gslice 3 l25.length 5),(7,.i n4)]) (.dead::(kQ r17.1 (kQ r17.1 (kB l25 [])))) (ac (hs (.run [0,2] (qz Tryz.prog [22,22] (.gslice 0 l2.length 5) (.slice 2 0 1 1 5)) (kB l2 (kQ r17.1 (kQ r17.1 []))) (.gslice 3 l25.length 5) (.dead::(kQ r17.1 (kQ r17.1 (kB l25 [])))) true) (ko jo (E:=qa) rfl (xm (E:=qa) (ys:=[r17.1]) rfl rfl rfl rfl) (qcF (E:=qa) (l:=l2) rfl rfl rfl e_l25 rfl))) az) ?_)
        refine gh fol (kAJ log ((5,.gslice 3 l25.length 5)::(kZ (w64 (n4+1)) n4 []))) ?_
        obtain rfl:=si g12
        exact Or.inl (⟨rfl,_,_,rfl,(Sub.norm [] [some 3] rfl rfl (.keep (.same nS) (.keep (.gslice rfl) (.keep (.same nI) (.keep (.same nI) .nil)))) (.ks .nil))⟩)
     rintro x s' (⟨rfl,l10,n11,rfl,hsub⟩|⟨rfl,q26,rfl,hret⟩)
     ·try dsimp only at g7
      refine Goes.sub hsub ?_
      refine gh fol (kAJ log (kAq l10 (kZ n11 (w64 (n4+1)) []))) ?_
      exact⟨M,(ofG 60 (kAJ log (kAq l10 (kZ n11 (w64 (n4+1)) []))),(kB l10 [])),Nat.lt_succ_self _,(Sub.refl _),_,_,_,rfl,g7⟩
     ·try dsimp only at g7
      obtain rfl:=si g7
      exact Or.inr (⟨rfl,_,rfl,hret⟩)
    ·refine Goes.exit ?_
     obtain rfl:=si g7
     exact Or.inl (⟨rfl,_,_,rfl,(Sub.keep [0,5,6] rfl rfl)⟩)
  rintro x s' (⟨rfl,l5,n6,rfl,hsub⟩|⟨rfl,q28,rfl,hret⟩)
  ·try dsimp only at h
   refine Goes.sub hsub ?_
   refine sq ?_
   refine sh fol (kAq l5 [(6,.i n6),(55,.bool (decide (n6<(log.length:Int))))]) ?_
   refine ihD h (fun c27 h=>?_) (fun c27 h=>?_)
   ·refine sh fol [(2,.gslice 0 l5.length 5),(3,.i n6),(4,.i 28)] ?_
    refine Goes.ret ?_
    obtain rfl:=si h
    exact(gw2 [.gslice 0 l5.length 5,.i n6,.i 28] (FzW.tuple (qh.cons (FzW.fz (Fz.gs (E:=qa) rfl rfl (nl rfl))) (qh.cons (FzW.still tI) (qh.cons (FzW.still tI) qh.nil)))))
   ·refine Goes.skip ?_
    refine sh fol ((2,.gslice 0 l5.length 5)::(3,.i n6)::kBW) ?_
    refine Goes.ret ?_
    obtain rfl:=si h
    exact(gw2 [.gslice 0 l5.length 5,.i n6,.i 0] (FzW.tuple (qh.cons (FzW.fz (Fz.gs (E:=qa) rfl rfl (nl rfl))) (qh.cons (FzW.still tI) (qh.cons (FzW.still tI) qh.nil)))))
  ·try dsimp only at h
   obtain rfl:=si h
   exact hret
def yA (e:qb):Nat→Str→Int→Option Str
 |0,_,_=>none
 |K+1,s4,n5=>
  if n5<(e.Names.length:Int)then
  (cat s4 [32]).bind fun s9=>
  (idx e.Names n5).bind fun x10=>
  (cat s9 x10).bind fun s11=>
  yA e K s11 (w64 (n5+1))
  else
  some s4
def yz (N:Nat) (e:qb):Nat→Str→Int→Option Str
 |0,_,_=>none
 |K+1,s12,n13=>
  if n13<(e.Values.length:Int)then
  (cat s12 [32]).bind fun s17=>
  (idx e.Values n13).bind fun x18=>
  (xk N x18).bind fun r19=>
  (cat s17 r19).bind fun s20=>
  yz N e K s20 (w64 (n13+1))
  else
  some s12
def qbD (N:Nat) (e:qb):Option Str:=
 (xk N e.Number).bind fun r1=>
 (cat r1 [32]).bind fun s2=>
 (cat s2 e.Kind).bind fun s3=>
 (yA e N s3 0).bind fun s6=>
 (yz N e N s6 0).bind fun s14=>
 some s14
theorem qfg (N:Nat) (e:qb) {res:Str} (h:qbD N e=some res):qg Tryz.prog (.fn 66) [.agg (cE e)] [] (.str res) []:=by
 unfold qbD at h
 refine Goes.fnW Tryz.func66 rfl rfl (m:=45) rfl (rs:=[.tmp 2]) rfl (l:=[(0,.agg (cE e))]) rfl ?_
 refine sg fol (kV []) (kQ e []) ?_
 obtain⟨r1,e_r1,h⟩:=bnd h
 obtain⟨s2,e_s2,h⟩:=bnd h
 obtain⟨s3,e_s3,h⟩:=bnd h
 refine sq (gr fol [2,3,6] (kV [(3,.str s3)]) (ac (cv (qaN N e.Number e_r1)) (ac (hs (.done (.opt (qbf Tryz.prog .add 9 (.tmp 8) (.const (.string ⟨#[32]⟩)) (.str r1) (.str [32]))) (.str s2)) (yw e_s2)) (ac (hs (.done (.opt (qbf Tryz.prog .add 9 (.tmp 9) (.tmp 11) (.str s2) (.str e.Kind))) (.str s3)) (yw e_s3)) az))) ?_)
 refine sq ?_
 refine sh fol (kV ((3,.str s3)::kBW)) ?_
 refine Goes.block ?_
 obtain⟨r7,g7,h⟩:=bnd h
 refine Goes.imp (Q:=fun x s'=>(x= .exit 0∧ ∃s6,s6=r7∧Sub s' (ofG 45 (kV [(3,.str s6)]),(kQ e [])))) ?_ ?_
 ·refine Goes.loopS (fun M s=> ∃(s4:Str) (n5:Int),s=(ofG 45 (kV ((3,.str s4)::(kAv n5))),(kQ e []))∧yA e M s4 n5=some r7) ?_ (m:=N) ⟨_,_,rfl,g7⟩
  rintro M s ⟨s4,n5,rfl,g7⟩
  cases M with
  |zero=>simp only[yA]at g7;cases g7
  |succ M=>
   rw[yA]at g7
   refine sq ?_
   refine sh fol (kV [(3,.str s4),(4,.i n5),(17,.bool (decide (n5<(e.Names.length:Int))))]) ?_
   refine ihD g7 (fun c8 g7=>?_) (fun c8 g7=>?_)
   ·refine Goes.skip ?_
    refine sq (Goes.block ?_)
    obtain⟨s9,e_s9,g7⟩:=bnd g7
    obtain⟨x10,e_x10,g7⟩:=bnd g7
    obtain⟨s11,e_s11,g7⟩:=bnd g7
    refine gr fol [1,5,6,7] (kV ((3,.str s11)::(kAv n5))) (ac (hs (.done (.opt (qbf Tryz.prog .add 9 (.tmp 20) (.const (.string ⟨#[32]⟩)) (.str s4) (.str [32]))) (.str s9)) (yw e_s9)) (ac (iv zi encS e_x10) (ac (lv 0 ce9 encS e_x10 rfl) (ac (hs (.done (.opt (qbf Tryz.prog .add 9 (.tmp 21) (.tmp 26) (.str s9) (.str x10))) (.str s11)) (yw e_s11)) az)))) ?_
    refine gh fol (kV ((3,.str s11)::(kAv (w64 (n5+1))))) ?_
    exact⟨M,(ofG 45 (kV ((3,.str s11)::(kAv (w64 (n5+1))))),(kQ e [])),Nat.lt_succ_self _,(Sub.refl _),_,_,rfl,g7⟩
   ·refine Goes.exit ?_
    obtain rfl:=si g7
    exact⟨rfl,_,rfl,(Sub.keep [1,3] rfl rfl)⟩
 rintro x s' ⟨rfl,s6,rfl,hsub⟩
 refine Goes.sub hsub ?_
 refine sq ?_
 refine sh fol (kV ((3,.str s6)::kA4)) ?_
 refine Goes.block ?_
 obtain⟨r15,g15,h⟩:=bnd h
 refine Goes.imp (Q:=fun x s'=>(x= .exit 2∧ ∃s14,s14=r15∧Sub s' (ofG 45 [(3,.str s14)],[]))) ?_ ?_
 ·refine Goes.loopS (fun M s=> ∃(s12:Str) (n13:Int),s=(ofG 45 (kV ((3,.str s12)::(kAb n13))),(kQ e []))∧yz N e M s12 n13=some r15) ?_ (m:=N) ⟨_,_,rfl,g15⟩
  rintro M s ⟨s12,n13,rfl,g15⟩
  cases M with
  |zero=>simp only[yz]at g15;cases g15
  |succ M=>
   rw[yz]at g15
   refine sq ?_
   refine sh fol (kV [(3,.str s12),(5,.i n13),(32,.bool (decide (n13<(e.Values.length:Int))))]) ?_
   refine ihD g15 (fun c16 g15=>?_) (fun c16 g15=>?_)
   ·refine Goes.skip ?_
    refine sq (Goes.block ?_)
    obtain⟨s17,e_s17,g15⟩:=bnd g15
    obtain⟨x18,e_x18,g15⟩:=bnd g15
    obtain⟨r19,e_r19,g15⟩:=bnd g15
    obtain⟨s20,e_s20,g15⟩:=bnd g15
    refine gr fol [1,5,6,7,8] (kV ((3,.str s20)::(kAb n13))) (ac (hs (.done (.opt (qbf Tryz.prog .add 9 (.tmp 35) (.const (.string ⟨#[32]⟩)) (.str s12) (.str [32]))) (.str s17)) (yw e_s17)) (ac (iv xI encI e_x18) (ac (lv 0 ce3 encI e_x18 rfl) (ac (cv (qaN N x18 e_r19)) (ac (hs (.done (.opt (qbf Tryz.prog .add 9 (.tmp 36) (.tmp 42) (.str s17) (.str r19))) (.str s20)) (yw e_s20)) az))))) ?_
    refine gh fol (kV ((3,.str s20)::(kAb (w64 (n13+1))))) ?_
    exact⟨M,(ofG 45 (kV ((3,.str s20)::(kAb (w64 (n13+1))))),(kQ e [])),Nat.lt_succ_self _,(Sub.refl _),_,_,rfl,g15⟩
   ·refine Goes.exit ?_
    obtain rfl:=si g15
    exact⟨rfl,_,rfl,(Sub.norm [] [] rfl rfl (.drop (.keep (.same nS) .nil)) .nil)⟩
 rintro x s' ⟨rfl,s14,rfl,hsub⟩
 refine Goes.sub hsub ?_
 refine sh fol [(2,.str s14)] ?_
 refine Goes.ret ?_
 obtain rfl:=si h
 exact(gw2 [.str s14] (FzW.still tS))
def yV (N:Nat) (l:List qb):Nat→Str→Int→Option Str
 |0,_,_=>none
 |K+1,s1,n2=>
  if n2<(l.length:Int)then
  (idx l n2).bind fun x6=>
  (qbD N x6).bind fun r7=>
  (cat s1 r7).bind fun s8=>
  (cat s8 [59]).bind fun s9=>
  (qbD N x6).bind fun r10=>
  (qch N r10).bind fun r11=>
  (cat s9 r11).bind fun s12=>
  (cat s12 [10]).bind fun s13=>
  yV N l K s13 (w64 (n2+1))
  else
  some s1
def qcf (N:Nat) (l:List qb):Option Str:=
 (yV N l N [] 0).bind fun s3=>
 some s3
theorem qb7 (N:Nat) (l:List qb) {res:Str} (h:qcf N l=some res):qg Tryz.prog (.fn 45) [vl qa l] [] (.str res) []:=by
 unfold qcf at h
 refine Goes.fnW Tryz.func45 rfl rfl (m:=28) rfl (rs:=[.tmp 2]) rfl (l:=(kL l [])) rfl ?_
 refine sh fol (kL l []) ?_
 refine sh fol (kL l [(3,.str [])]) ?_
 refine sq ?_
 refine sh fol (kL l ((3,.str [])::kBW)) ?_
 refine Goes.block ?_
 obtain⟨r4,g4,h⟩:=bnd h
 refine Goes.imp (Q:=fun x s'=>(x= .exit 0∧ ∃s3,s3=r4∧Sub s' (ofG 28 [(3,.str s3)],[]))) ?_ ?_
 ·refine Goes.loopS (fun M s=> ∃(s1:Str) (n2:Int),s=(ofG 28 (kL l ((3,.str s1)::(kAv n2))),[])∧yV N l M s1 n2=some r4) ?_ (m:=N) ⟨_,_,rfl,g4⟩
  rintro M s ⟨s1,n2,rfl,g4⟩
  cases M with
  |zero=>simp only[yV]at g4;cases g4
  |succ M=>
   rw[yV]at g4
   refine sq ?_
   refine sh fol (kL l ((3,.str s1)::(4,.i n2)::(kBU (decide (n2<(l.length:Int)))))) ?_
   refine ihD g4 (fun c5 g4=>?_) (fun c5 g4=>?_)
   ·refine Goes.skip ?_
    refine sq (Goes.block ?_)
    obtain⟨x6,e_x6,g4⟩:=bnd g4
    obtain⟨r7,e_r7,g4⟩:=bnd g4
    obtain⟨s8,e_s8,g4⟩:=bnd g4
    obtain⟨s9,e_s9,g4⟩:=bnd g4
    obtain⟨r10,e_r10,g4⟩:=bnd g4
    obtain⟨r11,e_r11,g4⟩:=bnd g4
    obtain⟨s12,e_s12,g4⟩:=bnd g4
    obtain⟨s13,e_s13,g4⟩:=bnd g4
    refine gr fol [3,4,5,6,7,10,11,12,13,14,15] (kL l ((3,.str s13)::(kAv n2))) (ac (iv jo qa e_x6) (ac (la qjl qa e_x6) (ac (cv (qfg N x6 e_r7)) (ac (hs (.done (.opt (qbf Tryz.prog .add 9 (.tmp 11) (.tmp 16) (.str s1) (.str r7))) (.str s8)) (yw e_s8)) (ac (hs (.done (.opt (qbf Tryz.prog .add 9 (.tmp 17) (.const (.string ⟨#[59]⟩)) (.str s8) (.str [59]))) (.str s9)) (yw e_s9)) (ac (iv jo qa e_x6) (ac (la qjl qa e_x6) (ac (cv (qfg N x6 e_r10)) (ac (cv (qfZ N r10 e_r11)) (ac (hs (.done (.opt (qbf Tryz.prog .add 9 (.tmp 18) (.tmp 24) (.str s9) (.str r11))) (.str s12)) (yw e_s12)) (ac (hs (.done (.opt (qbf Tryz.prog .add 9 (.tmp 25) (.const (.string ⟨#[10]⟩)) (.str s12) (.str [10]))) (.str s13)) (yw e_s13)) az))))))))))) ?_
    refine gh fol (kL l ((3,.str s13)::(kAv (w64 (n2+1))))) ?_
    exact⟨M,(ofG 28 (kL l ((3,.str s13)::(kAv (w64 (n2+1))))),[]),Nat.lt_succ_self _,(Sub.refl _),_,_,rfl,g4⟩
   ·refine Goes.exit ?_
    obtain rfl:=si g4
    exact⟨rfl,_,rfl,(Sub.keep [3] rfl rfl)⟩
 rintro x s' ⟨rfl,s3,rfl,hsub⟩
 refine Goes.sub hsub ?_
 refine sh fol [(2,.str s3)] ?_
 refine Goes.ret ?_
 obtain rfl:=si h
 exact(gw2 [.str s3] (FzW.still tS))
def zQ (a:List Int) (b:List Int):Nat→Int→Option (Unit⊕Bool)
 |0,_=>none
 |K+1,n2=>
  if n2<(a.length:Int)then
  (idx a n2).bind fun x6=>
  (idx b n2).bind fun x7=>
  if(!decide (x6=x7))=true then
  some (.inr false)
  else
  zQ a b K (w64 (n2+1))
  else
  some (.inl ())
def qap (N:Nat) (a:List Int) (b:List Int):Option Bool:=
 if(!decide ((a.length:Int)=(b.length:Int)))=true then
 some false
 else
 (zQ a b N 0).bind (fun
 |(.inl ())=>
 some true
 |(.inr q9)=>
 some q9)
theorem qcK (N:Nat) (a:List Int) (b:List Int) {res:Bool} (h:qap N a b=some res):qg Tryz.prog (.fn 35) [vl encI a,vl encI b] [] (.bool res) []:=by
 unfold qap at h
 refine Goes.fnW Tryz.func35 rfl rfl (m:=26) rfl (rs:=[.tmp 4]) rfl (l:=(kBQ a b [])) rfl ?_
 refine sh fol (kBQ a b []) ?_
 refine sq ?_
 refine sh fol (kBQ a b (kBg (!decide ((a.length:Int)=(b.length:Int))))) ?_
 refine ihB h (fun c1 h=>?_) (fun c1 h=>?_)
 ·refine sh fol kAN ?_
  refine Goes.ret ?_
  obtain rfl:=si h
  exact(gw2 [.bool false] (FzW.still tB))
 ·refine Goes.skip ?_
  refine sq ?_
  refine sh fol (kBQ a b kA4) ?_
  refine Goes.block ?_
  obtain⟨r3,g3,h⟩:=bnd h
  refine Goes.imp (Q:=fun x s'=>(x= .exit 0∧(.inl ())=r3∧Sub s' (ofG 26 [],[]))∨(x= .ret∧ ∃q4,(.inr q4)=r3∧qW Tryz.prog [.tmp 4] (.bool q4) .ret s')) ?_ ?_
  ·refine Goes.loopS (fun M s=> ∃(n2:Int),s=(ofG 26 (kBQ a b (kAb n2)),[])∧zQ a b M n2=some r3) ?_ (m:=N) ⟨_,rfl,g3⟩
   rintro M s ⟨n2,rfl,g3⟩
   cases M with
   |zero=>simp only[zQ]at g3;cases g3
   |succ M=>
    rw[zQ]at g3
    refine sq ?_
    refine sh fol (kBQ a b [(5,.i n2),(14,.bool (decide (n2<(a.length:Int))))]) ?_
    refine ihD g3 (fun c5 g3=>?_) (fun c5 g3=>?_)
    ·refine Goes.skip ?_
     refine sq (Goes.block ?_)
     obtain⟨x6,e_x6,g3⟩:=bnd g3
     obtain⟨x7,e_x7,g3⟩:=bnd g3
     refine sq (gr fol [2,3,6,7] (kBQ a b [(5,.i n2),(25,.bool (!decide (x6=x7)))]) (ac (iv xI encI e_x6) (ac (lv 0 ce3 encI e_x6 rfl) (ac (iv xI encI e_x7) (ac (lv 0 ce3 encI e_x7 rfl) az)))) ?_)
     refine ihB g3 (fun c8 g3=>?_) (fun c8 g3=>?_)
     ·refine sh fol kAN ?_
      refine Goes.ret ?_
      obtain rfl:=si g3
      exact Or.inr (⟨rfl,_,rfl,(gw2 [.bool false] (FzW.still tB))⟩)
     ·refine Goes.skip ?_
      refine gh fol (kBQ a b (kAb (w64 (n2+1)))) ?_
      exact⟨M,(ofG 26 (kBQ a b (kAb (w64 (n2+1)))),[]),Nat.lt_succ_self _,(Sub.refl _),_,rfl,g3⟩
    ·refine Goes.exit ?_
     obtain rfl:=si g3
     exact Or.inl (⟨rfl,rfl,(Sub.keep [] rfl rfl)⟩)
  rintro x s' (⟨rfl,rfl,hsub⟩|⟨rfl,q9,rfl,hret⟩)
  ·try dsimp only at h
   refine Goes.sub hsub ?_
   refine sh fol kAk ?_
   refine Goes.ret ?_
   obtain rfl:=si h
   exact(gw2 [.bool true] (FzW.still tB))
  ·try dsimp only at h
   obtain rfl:=si h
   exact hret
def zx (a:List Str) (b:List Str):Nat→Int→Option (Unit⊕Bool)
 |0,_=>none
 |K+1,n2=>
  if n2<(a.length:Int)then
  (idx a n2).bind fun x6=>
  (idx b n2).bind fun x7=>
  if(!(x6==x7))=true then
  some (.inr false)
  else
  zx a b K (w64 (n2+1))
  else
  some (.inl ())
def qaa (N:Nat) (a:List Str) (b:List Str):Option Bool:=
 if(!decide ((a.length:Int)=(b.length:Int)))=true then
 some false
 else
 (zx a b N 0).bind (fun
 |(.inl ())=>
 some true
 |(.inr q9)=>
 some q9)
theorem qa0 (N:Nat) (a:List Str) (b:List Str) {res:Bool} (h:qaa N a b=some res):qg Tryz.prog (.fn 41) [vl encS a,vl encS b] [] (.bool res) []:=by
 unfold qaa at h
 refine Goes.fnW Tryz.func41 rfl rfl (m:=26) rfl (rs:=[.tmp 4]) rfl (l:=((0,vl encS a)::(kA8 b []))) rfl ?_
 refine sh fol ((0,vl encS a)::(kA8 b [])) ?_
 refine sq ?_
 refine sh fol ((0,vl encS a)::(kA8 b (kBg (!decide ((a.length:Int)=(b.length:Int)))))) ?_
 refine ihB h (fun c1 h=>?_) (fun c1 h=>?_)
 ·refine sh fol kAN ?_
  refine Goes.ret ?_
  obtain rfl:=si h
  exact(gw2 [.bool false] (FzW.still tB))
 ·refine Goes.skip ?_
  refine sq ?_
  refine sh fol ((0,vl encS a)::(kA8 b kA4)) ?_
  refine Goes.block ?_
  obtain⟨r3,g3,h⟩:=bnd h
  refine Goes.imp (Q:=fun x s'=>(x= .exit 0∧(.inl ())=r3∧Sub s' (ofG 26 [],[]))∨(x= .ret∧ ∃q4,(.inr q4)=r3∧qW Tryz.prog [.tmp 4] (.bool q4) .ret s')) ?_ ?_
  ·refine Goes.loopS (fun M s=> ∃(n2:Int),s=(ofG 26 ((0,vl encS a)::(kA8 b (kAb n2))),[])∧zx a b M n2=some r3) ?_ (m:=N) ⟨_,rfl,g3⟩
   rintro M s ⟨n2,rfl,g3⟩
   cases M with
   |zero=>simp only[zx]at g3;cases g3
   |succ M=>
    rw[zx]at g3
    refine sq ?_
    refine sh fol ((0,vl encS a)::(kA8 b [(5,.i n2),(14,.bool (decide (n2<(a.length:Int))))])) ?_
    refine ihD g3 (fun c5 g3=>?_) (fun c5 g3=>?_)
    ·refine Goes.skip ?_
     refine sq (Goes.block ?_)
     obtain⟨x6,e_x6,g3⟩:=bnd g3
     obtain⟨x7,e_x7,g3⟩:=bnd g3
     refine sq (gr fol [2,3,6,7] ((0,vl encS a)::(kA8 b [(5,.i n2),(25,.bool (!(x6==x7)))])) (ac (iv zi encS e_x6) (ac (lv 0 ce9 encS e_x6 rfl) (ac (iv zi encS e_x7) (ac (lv 0 ce9 encS e_x7 rfl) az)))) ?_)
     refine ihB g3 (fun c8 g3=>?_) (fun c8 g3=>?_)
     ·refine sh fol kAN ?_
      refine Goes.ret ?_
      obtain rfl:=si g3
      exact Or.inr (⟨rfl,_,rfl,(gw2 [.bool false] (FzW.still tB))⟩)
     ·refine Goes.skip ?_
      refine gh fol ((0,vl encS a)::(kA8 b (kAb (w64 (n2+1))))) ?_
      exact⟨M,(ofG 26 ((0,vl encS a)::(kA8 b (kAb (w64 (n2+1))))),[]),Nat.lt_succ_self _,(Sub.refl _),_,rfl,g3⟩
    ·refine Goes.exit ?_
     obtain rfl:=si g3
     exact Or.inl (⟨rfl,rfl,(Sub.keep [] rfl rfl)⟩)
  rintro x s' (⟨rfl,rfl,hsub⟩|⟨rfl,q9,rfl,hret⟩)
  ·try dsimp only at h
   refine Goes.sub hsub ?_
   refine sh fol kAk ?_
   refine Goes.ret ?_
   obtain rfl:=si h
   exact(gw2 [.bool true] (FzW.still tB))
  ·try dsimp only at h
   obtain rfl:=si h
   exact hret
def zk (N:Nat) (a:List qb) (b:List qb):Nat→Int→Option (Unit⊕Bool)
 |0,_=>none
 |K+1,n2=>
  if n2<(a.length:Int)then
  ((idx a n2).bind fun x6=>
  (idx b n2).bind fun x7=>
  if(!decide (x6.Number=x7.Number))=true then
  some true
  else
  if(!(x6.Kind==x7.Kind))=true then
  some true
  else
  (qaa N x6.Names x7.Names).bind fun r10=>
  if(!r10)=true then
  some true
  else
  (qap N x6.Values x7.Values).bind fun r12=>
  if(!r12)=true then
  some true
  else
  some (!(x6.Text==x7.Text)):Option Bool).bind fun b14=>
  if b14=true then
  some (.inr false)
  else
  zk N a b K (w64 (n2+1))
  else
  some (.inl ())
def yC (N:Nat) (a:List qb) (b:List qb):Option Bool:=
 if(!decide ((a.length:Int)=(b.length:Int)))=true then
 some false
 else
 (zk N a b N 0).bind (fun
 |(.inl ())=>
 some true
 |(.inr q17)=>
 some q17)
theorem ym (N:Nat) (a:List qb) (b:List qb) {res:Bool} (h:yC N a b=some res):qg Tryz.prog (.fn 46) (kA5 a (kA5 b [])) [] (.bool res) []:=by
 unfold yC at h
 refine Goes.fnW Tryz.func46 rfl rfl (m:=82) rfl (rs:=[.tmp 4]) rfl (l:=(kL a (kBV b []))) rfl ?_
 refine sh fol (kL a (kBV b [])) ?_
 refine sq ?_
 refine sh fol (kL a (kBV b (kBg (!decide ((a.length:Int)=(b.length:Int)))))) ?_
 refine ihB h (fun c1 h=>?_) (fun c1 h=>?_)
 ·refine sh fol kAN ?_
  refine Goes.ret ?_
  obtain rfl:=si h
  exact(gw2 [.bool false] (FzW.still tB))
 ·refine Goes.skip ?_
  refine sq ?_
  refine sh fol (kL a (kBV b kA4)) ?_
  refine Goes.block ?_
  obtain⟨r3,g3,h⟩:=bnd h
  refine Goes.imp (Q:=fun x s'=>(x= .exit 0∧(.inl ())=r3∧Sub s' (ofG 82 [],[]))∨(x= .ret∧ ∃q4,(.inr q4)=r3∧qW Tryz.prog [.tmp 4] (.bool q4) .ret s')) ?_ ?_
  ·refine Goes.loopS (fun M s=> ∃(n2:Int),s=(ofG 82 (kL a (kBV b (kAb n2))),[])∧zk N a b M n2=some r3) ?_ (m:=N) ⟨_,rfl,g3⟩
   rintro M s ⟨n2,rfl,g3⟩
   cases M with
   |zero=>simp only[zk]at g3;cases g3
   |succ M=>
    rw[zk]at g3
    refine sq ?_
    refine sh fol (kL a (kBV b [(5,.i n2),(14,.bool (decide (n2<(a.length:Int))))])) ?_
    refine ihD g3 (fun c5 g3=>?_) (fun c5 g3=>?_)
    ·refine Goes.skip ?_
     refine sq (Goes.block ?_)
     refine sq ?_
     obtain⟨b14,g_v15,g3⟩:=bnd g3
     refine Goes.cut (s':=(ofG 82 (kL a (kBV b [(5,.i n2),(81,.bool b14)])),[])) ?_ ?_
     ·obtain⟨x6,e_x6,g_v15⟩:=bnd g_v15
      obtain⟨x7,e_x7,g_v15⟩:=bnd g_v15
      rcases wyB g_v15 with⟨c8,g_v15⟩|⟨c8,g_v15⟩
      ·obtain rfl:=si g_v15
       exact tr fol [2,4,7,9,11] (kL a (kBV b [(5,.i n2),(81,.bool true)])) (ac (iv jo qa e_x6) (ac (lv 0 ce3 qa e_x6 rfl) (ac (iv jo qa e_x7) (ac (lv 0 ce3 qa e_x7 rfl) (ac (gw c8) az)))))
      ·rcases wyB g_v15 with⟨c9,g_v15⟩|⟨c9,g_v15⟩
       ·obtain rfl:=si g_v15
        exact tr fol [2,4,7,9,11,14,16,19,21,24] (kL a (kBV b [(5,.i n2),(81,.bool true)])) (ac (iv jo qa e_x6) (ac (lv 0 ce3 qa e_x6 rfl) (ac (iv jo qa e_x7) (ac (lv 0 ce3 qa e_x7 rfl) (ac (gw c8) (ac (iv jo qa e_x6) (ac (lv 1 ce9 qa e_x6 rfl) (ac (iv jo qa e_x7) (ac (lv 1 ce9 qa e_x7 rfl) (ac (gw c9) az))))))))))
       ·obtain⟨r10,e_r10,g_v15⟩:=bnd g_v15
        rcases wyB g_v15 with⟨c11,g_v15⟩|⟨c11,g_v15⟩
        ·obtain rfl:=si g_v15
         exact tr fol [2,4,7,9,11,14,16,19,21,24,27,29,32,34,35,38] (kL a (kBV b [(5,.i n2),(81,.bool true)])) (ac (iv jo qa e_x6) (ac (lv 0 ce3 qa e_x6 rfl) (ac (iv jo qa e_x7) (ac (lv 0 ce3 qa e_x7 rfl) (ac (gw c8) (ac (iv jo qa e_x6) (ac (lv 1 ce9 qa e_x6 rfl) (ac (iv jo qa e_x7) (ac (lv 1 ce9 qa e_x7 rfl) (ac (gw c9) (ac (iv jo qa e_x6) (ac (lv 2 qgH qa e_x6 rfl) (ac (iv jo qa e_x7) (ac (lv 2 qgH qa e_x7 rfl) (ac (cv (qa0 N x6.Names x7.Names e_r10)) (ac (gw c11) az))))))))))))))))
        ·obtain⟨r12,e_r12,g_v15⟩:=bnd g_v15
         rcases wyB g_v15 with⟨c13,g_v15⟩|⟨c13,g_v15⟩
         ·obtain rfl:=si g_v15
          exact tr fol [2,4,7,9,11,14,16,19,21,24,27,29,32,34,35,38,41,43,46,48,49,52] (kL a (kBV b [(5,.i n2),(81,.bool true)])) (ac (iv jo qa e_x6) (ac (lv 0 ce3 qa e_x6 rfl) (ac (iv jo qa e_x7) (ac (lv 0 ce3 qa e_x7 rfl) (ac (gw c8) (ac (iv jo qa e_x6) (ac (lv 1 ce9 qa e_x6 rfl) (ac (iv jo qa e_x7) (ac (lv 1 ce9 qa e_x7 rfl) (ac (gw c9) (ac (iv jo qa e_x6) (ac (lv 2 qgH qa e_x6 rfl) (ac (iv jo qa e_x7) (ac (lv 2 qgH qa e_x7 rfl) (ac (cv (qa0 N x6.Names x7.Names e_r10)) (ac (gw c11) (ac (iv jo qa e_x6) (ac (lv 3 qm2 qa e_x6 rfl) (ac (iv jo qa e_x7) (ac (lv 3 qm2 qa e_x7 rfl) (ac (cv (qcK N x6.Values x7.Values e_r12)) (ac (gw c13) az))))))))))))))))))))))
         ·obtain rfl:=si g_v15
          exact tr fol [2,4,7,9,11,14,16,19,21,24,27,29,32,34,35,38,41,43,46,48,49,52,55,57,60,62] (kL a (kBV b [(5,.i n2),(81,.bool (!(x6.Text==x7.Text)))])) (ac (iv jo qa e_x6) (ac (lv 0 ce3 qa e_x6 rfl) (ac (iv jo qa e_x7) (ac (lv 0 ce3 qa e_x7 rfl) (ac (gw c8) (ac (iv jo qa e_x6) (ac (lv 1 ce9 qa e_x6 rfl) (ac (iv jo qa e_x7) (ac (lv 1 ce9 qa e_x7 rfl) (ac (gw c9) (ac (iv jo qa e_x6) (ac (lv 2 qgH qa e_x6 rfl) (ac (iv jo qa e_x7) (ac (lv 2 qgH qa e_x7 rfl) (ac (cv (qa0 N x6.Names x7.Names e_r10)) (ac (gw c11) (ac (iv jo qa e_x6) (ac (lv 3 qm2 qa e_x6 rfl) (ac (iv jo qa e_x7) (ac (lv 3 qm2 qa e_x7 rfl) (ac (cv (qcK N x6.Values x7.Values e_r12)) (ac (gw c13) (ac (iv jo qa e_x6) (ac (lv 4 ce9 qa e_x6 rfl) (ac (iv jo qa e_x7) (ac (lv 4 ce9 qa e_x7 rfl) az))))))))))))))))))))))))))
     refine ihB g3 (fun c16 g3=>?_) (fun c16 g3=>?_)
     ·refine sh fol kAN ?_
      refine Goes.ret ?_
      obtain rfl:=si g3
      exact Or.inr (⟨rfl,_,rfl,(gw2 [.bool false] (FzW.still tB))⟩)
     ·refine Goes.skip ?_
      refine gh fol (kL a (kBV b (kAb (w64 (n2+1))))) ?_
      exact⟨M,(ofG 82 (kL a (kBV b (kAb (w64 (n2+1))))),[]),Nat.lt_succ_self _,(Sub.refl _),_,rfl,g3⟩
    ·refine Goes.exit ?_
     obtain rfl:=si g3
     exact Or.inl (⟨rfl,rfl,(Sub.keep [] rfl rfl)⟩)
  rintro x s' (⟨rfl,rfl,hsub⟩|⟨rfl,q17,rfl,hret⟩)
  ·try dsimp only at h
   refine Goes.sub hsub ?_
   refine sh fol kAk ?_
   refine Goes.ret ?_
   obtain rfl:=si h
   exact(gw2 [.bool true] (FzW.still tB))
  ·try dsimp only at h
   obtain rfl:=si h
   exact hret
def stringslite_IndexByte (s_:Str) (c:Int):Option Int:=
 (qii s_ c).bind fun r1=>
 some r1
theorem qaP (s_:Str) (c:Int) {res:Int} (h:stringslite_IndexByte s_ c=some res):qg Tryz.prog (.fn 173) [.str s_,.int .u8 c] [] (.i res) []:=by
 unfold stringslite_IndexByte at h
 refine Goes.fnW Tryz.func173 rfl rfl (m:=8) rfl (rs:=[.tmp 4]) rfl (l:=(kAJ s_ [(1,.int .u8 c)])) rfl ?_
 refine sh fol (kAJ s_ [(1,.int .u8 c)]) ?_
 obtain⟨r1,e_r1,h⟩:=bnd h
 refine sq (gr fol [2] (kAv r1) (ac (cv (qmp s_ c e_r1)) az) ?_)
 refine Goes.ret ?_
 obtain rfl:=si h
 exact(gw2 [.i r1] (FzW.still tI))
def strings_IndexByte (s_:Str) (c:Int):Option Int:=
 (stringslite_IndexByte s_ c).bind fun r1=>
 some r1
theorem qbL (s_:Str) (c:Int) {res:Int} (h:strings_IndexByte s_ c=some res):qg Tryz.prog (.fn 153) [.str s_,.int .u8 c] [] (.i res) []:=by
 unfold strings_IndexByte at h
 refine Goes.fnW Tryz.func153 rfl rfl (m:=8) rfl (rs:=[.tmp 4]) rfl (l:=(kAJ s_ [(1,.int .u8 c)])) rfl ?_
 refine sh fol (kAJ s_ [(1,.int .u8 c)]) ?_
 obtain⟨r1,e_r1,h⟩:=bnd h
 refine sq (gr fol [2] (kAv r1) (ac (cv (qaP s_ c e_r1)) az) ?_)
 refine Goes.ret ?_
 obtain rfl:=si h
 exact(gw2 [.i r1] (FzW.still tI))
def stringslite_HasSuffix (s_:Str) (suffix:Str):Option Bool:=
 (if(s_.length:Int)≥(suffix.length:Int)then
 (cut s_ (w64 ((s_.length:Int)-(suffix.length:Int))) (s_.length:Int)).bind fun s2=>
 some (s2==suffix)
 else
 some false:Option Bool).bind fun b3=>
 some b3
theorem qcX (s_:Str) (suffix:Str) {res:Bool} (h:stringslite_HasSuffix s_ suffix=some res):qg Tryz.prog (.fn 188) [.str s_,.str suffix] [] (.bool res) []:=by
 unfold stringslite_HasSuffix at h
 refine Goes.fnW Tryz.func188 rfl rfl (m:=21) rfl (rs:=[.tmp 4]) rfl (l:=(kT s_ suffix [])) rfl ?_
 refine sh fol (kT s_ suffix []) ?_
 refine sq ?_
 obtain⟨b3,g_v4,h⟩:=bnd h
 refine Goes.cut (s':=(ofG 21 (kAy b3),[])) ?_ ?_
 ·rcases wyD g_v4 with⟨c1,g_v4⟩|⟨c1,g_v4⟩
  ·obtain⟨s2,e_s2,g_v4⟩:=bnd g_v4
   obtain rfl:=si g_v4
   exact tr fol [5,12] (kAy (s2==suffix)) (ac (gw c1) (ac (hs (.done (.opt (qG Tryz.prog 9 (.str s_) (some (.i (w64 ((s_.length:Int)-(suffix.length:Int))))) none none)) (.str s2)) (yR st9 (some (w64 ((s_.length:Int)-(suffix.length:Int)))) none e_s2)) az))
  ·obtain rfl:=si g_v4
   exact tr fol [5] kAN (ac (gw c1) az)
 refine Goes.ret ?_
 obtain rfl:=si h
 exact(gw2 [.bool b3] (FzW.still tB))
def stringslite_CutSuffix (s_:Str) (suffix:Str):Option (Str×Bool):=
 (stringslite_HasSuffix s_ suffix).bind fun r1=>
 if(!r1)=true then
 some (s_,false)
 else
 (cut s_ 0 (w64 ((s_.length:Int)-(suffix.length:Int)))).bind fun s3=>
 some (s3,true)
theorem qcW (s_:Str) (suffix:Str) {res:Str×Bool} (h:stringslite_CutSuffix s_ suffix=some res):qg Tryz.prog (.fn 154) [.str s_,.str suffix] [] (.tuple [.str res.1,.bool res.2]) []:=by
 unfold stringslite_CutSuffix at h
 refine Goes.fnW Tryz.func154 rfl rfl (m:=18) rfl (rs:=[.tmp 4,.tmp 5]) rfl (l:=(kT s_ suffix [])) rfl ?_
 refine sh fol (kT s_ suffix []) ?_
 refine sq ?_
 obtain⟨r1,e_r1,h⟩:=bnd h
 refine sq (gr fol [2] (kT s_ suffix (kBt (!r1))) (ac (cv (qcX s_ suffix e_r1)) az) ?_)
 refine ihB h (fun c2 h=>?_) (fun c2 h=>?_)
 ·refine sh fol [(4,.str s_),(5,.bool false)] ?_
  refine Goes.ret ?_
  obtain rfl:=si h
  exact(gw2 (.str s_::kBM) (FzW.tuple (qh.cons (FzW.still tS) (qh.cons (FzW.still tB) qh.nil))))
 ·refine Goes.skip ?_
  obtain⟨s3,e_s3,h⟩:=bnd h
  refine sq (gr fol [6] [(4,.str s3),(5,.bool true)] (ac (hs (.done (.opt (qG Tryz.prog 9 (.str s_) none (some (.i (w64 ((s_.length:Int)-(suffix.length:Int))))) none)) (.str s3)) (yR st9 none (some (w64 ((s_.length:Int)-(suffix.length:Int)))) e_s3)) az) ?_)
  refine Goes.ret ?_
  obtain rfl:=si h
  exact(gw2 (.str s3::kAp) (FzW.tuple (qh.cons (FzW.still tS) (qh.cons (FzW.still tB) qh.nil))))
def strings_CutSuffix (s_:Str) (suffix:Str):Option (Str×Bool):=
 (stringslite_CutSuffix s_ suffix).bind fun r1=>
 some (r1.1,r1.2)
theorem qbW (s_:Str) (suffix:Str) {res:Str×Bool} (h:strings_CutSuffix s_ suffix=some res):qg Tryz.prog (.fn 104) [.str s_,.str suffix] [] (.tuple [.str res.1,.bool res.2]) []:=by
 unfold strings_CutSuffix at h
 refine Goes.fnW Tryz.func104 rfl rfl (m:=11) rfl (rs:=[.tmp 4,.tmp 5]) rfl (l:=(kT s_ suffix [])) rfl ?_
 refine sh fol (kT s_ suffix []) ?_
 obtain⟨r1,e_r1,h⟩:=bnd h
 refine sq (gr fol [2] [(4,.str r1.1),(5,.bool r1.2)] (ac (cv (qcW s_ suffix e_r1)) az) ?_)
 refine Goes.ret ?_
 obtain rfl:=si h
 exact(gw2 [.str r1.1,.bool r1.2] (FzW.tuple (qh.cons (FzW.still tS) (qh.cons (FzW.still tB) qh.nil))))
def yh (l:List Int):Nat→Int→Option (Unit⊕Int)
 |0,_=>none
 |K+1,n1=>
  if n1<(l.length:Int)then
  (idx l n1).bind fun x5=>
  if(!decide (x5=0))=true then
  some (.inr x5)
  else
  yh l K (w64 (n1+1))
  else
  some (.inl ())
def zA (N:Nat) (l:List Int):Option Int:=
 (yh l N 0).bind (fun
 |(.inl ())=>
 some 0
 |(.inr q7)=>
 some q7)
theorem jd (N:Nat) (l:List Int) {res:Int} (h:zA N l=some res):qg Tryz.prog (.fn 86) [vl encI l] [] (.i res) []:=by
 unfold zA at h
 refine Goes.fnW Tryz.func86 rfl rfl (m:=15) rfl (rs:=[.tmp 2]) rfl (l:=(kBx l)) rfl ?_
 refine sh fol (kBx l) ?_
 refine sq ?_
 refine sh fol [(5,vl encI l),(6,.i (l.length:Int)),(7,.i 0)] ?_
 refine Goes.block ?_
 obtain⟨r2,g2,h⟩:=bnd h
 refine Goes.imp (Q:=fun x s'=>(x= .exit 0∧(.inl ())=r2∧Sub s' (ofG 15 [],[]))∨(x= .ret∧ ∃q3,(.inr q3)=r2∧qW Tryz.prog [.tmp 2] (.i q3) .ret s')) ?_ ?_
 ·refine Goes.loopS (fun M s=> ∃(n1:Int),s=(ofG 15 ((5,vl encI l)::(kZ (l.length:Int) n1 [])),[])∧yh l M n1=some r2) ?_ (m:=N) ⟨_,rfl,g2⟩
  rintro M s ⟨n1,rfl,g2⟩
  cases M with
  |zero=>simp only[yh]at g2;cases g2
  |succ M=>
   rw[yh]at g2
   refine sh fol ((5,vl encI l)::(kZ (l.length:Int) n1 (kBU (decide (n1<(l.length:Int)))))) ?_
   refine sq ?_
   refine ihD g2 (fun c4 g2=>?_) (fun c4 g2=>?_)
   ·refine Goes.skip ?_
    refine sq (Goes.block ?_)
    obtain⟨x5,e_x5,g2⟩:=bnd g2
    refine sq (gr fol [0,1] ((4,.i x5)::(5,vl encI l)::(kZ (l.length:Int) n1 [])) (ac (iv sl218 encI e_x5) (ac (lv 0 ce32 encI e_x5 rfl) az)) ?_)
    refine sh fol ((4,.i x5)::(5,vl encI l)::(kZ (l.length:Int) n1 [(12,.bool (!decide (x5=0)))])) ?_
    refine ihB g2 (fun c6 g2=>?_) (fun c6 g2=>?_)
    ·refine sh fol [(2,.i x5)] ?_
     refine Goes.ret ?_
     obtain rfl:=si g2
     exact Or.inr (⟨rfl,_,rfl,(gw2 [.i x5] (FzW.still tI))⟩)
    ·refine Goes.skip ?_
     refine gh fol ((5,vl encI l)::(kZ (l.length:Int) (w64 (n1+1)) [])) ?_
     exact⟨M,(ofG 15 ((5,vl encI l)::(kZ (l.length:Int) (w64 (n1+1)) [])),[]),Nat.lt_succ_self _,(Sub.refl _),_,rfl,g2⟩
   ·refine Goes.exit ?_
    obtain rfl:=si g2
    exact Or.inl (⟨rfl,rfl,(Sub.keep [] rfl rfl)⟩)
 rintro x s' (⟨rfl,rfl,hsub⟩|⟨rfl,q7,rfl,hret⟩)
 ·try dsimp only at h
  refine Goes.sub hsub ?_
  refine sh fol [(2,.i 0)] ?_
  refine Goes.ret ?_
  obtain rfl:=si h
  exact(gw2 [.i 0] (FzW.still tI))
 ·try dsimp only at h
  obtain rfl:=si h
  exact hret
def qN (holds:Bool) (e:Int):Option Int:=
 if holds=true then
 some e
 else
 some 0
theorem qD (holds:Bool) (e:Int) {res:Int} (h:qN holds e=some res):qg Tryz.prog (.fn 88) [.bool holds,.i e] [] (.i res) []:=by
 unfold qN at h
 refine Goes.fnW Tryz.func88 rfl rfl (m:=7) rfl (rs:=[.tmp 4]) rfl (l:=[(0,.bool holds),(1,.i e)]) rfl ?_
 refine sh fol [(0,.bool holds),(1,.i e)] ?_
 refine sq ?_
 refine sh fol [(1,.i e),(5,.bool holds)] ?_
 refine ihB h (fun c1 h=>?_) (fun c1 h=>?_)
 ·refine sh fol (kAv e) ?_
  refine Goes.ret ?_
  obtain rfl:=si h
  exact(gw2 [.i e] (FzW.still tI))
 ·refine Goes.skip ?_
  refine sh fol kBW ?_
  refine Goes.ret ?_
  obtain rfl:=si h
  exact(gw2 [.i 0] (FzW.still tI))
def yx (s_:Str):Nat→Int→Int→Option Int
 |0,_,_=>none
 |K+1,n1,n2=>
  if n2<(s_.length:Int)then
  (idx s_ n2).bind fun c6=>
  yx s_ K ((w64 ((w64 (31*n1))+(w64 (c6.toNat:Int)))).tmod 9999991) (w64 (n2+1))
  else
  some n1
def qbB (N:Nat) (s_:Str):Option Str:=
 (yx s_ N 7 0).bind fun n3=>
 (qde n3).bind fun r7=>
 (qhf [48] (w64 (7-(r7.length:Int)))).bind fun r8=>
 (cat r8 r7).bind fun s9=>
 some s9
theorem qfj (N:Nat) (s_:Str) {res:Str} (h:qbB N s_=some res):qg Tryz.prog (.fn 151) [.str s_] [] (.str res) []:=by
 unfold qbB at h
 refine Goes.fnW Tryz.func151 rfl rfl (m:=28) rfl (rs:=[.tmp 2]) rfl (l:=(kAJ s_ [])) rfl ?_
 refine sh fol (kAJ s_ []) ?_
 refine sh fol (kAJ s_ [(3,.i 7)]) ?_
 refine sq ?_
 refine sh fol (kAJ s_ [(3,.i 7),(7,.i (s_.length:Int)),(8,.i 0)]) ?_
 refine Goes.block ?_
 obtain⟨r4,g4,h⟩:=bnd h
 refine Goes.imp (Q:=fun x s'=>(x= .exit 0∧ ∃n3,n3=r4∧Sub s' (ofG 28 [(3,.i n3)],[]))) ?_ ?_
 ·refine Goes.loopS (fun M s=> ∃(n1:Int) (n2:Int),s=(ofG 28 (kAJ s_ ((3,.i n1)::(kBI (s_.length:Int) n2))),[])∧yx s_ M n1 n2=some r4) ?_ (m:=N) ⟨_,_,rfl,g4⟩
  rintro M s ⟨n1,n2,rfl,g4⟩
  cases M with
  |zero=>simp only[yx]at g4;cases g4
  |succ M=>
   rw[yx]at g4
   refine sh fol (kAJ s_ ((3,.i n1)::(7,.i (s_.length:Int))::(8,.i n2)::(kBt (decide (n2<(s_.length:Int)))))) ?_
   refine sq ?_
   refine ihD g4 (fun c5 g4=>?_) (fun c5 g4=>?_)
   ·refine Goes.skip ?_
    refine sq (Goes.block ?_)
    refine sh fol (kAJ s_ (kB6 n1 n2 (kBI (s_.length:Int) n2))) ?_
    obtain⟨c6,e_c6,g4⟩:=bnd g4
    refine gr fol [4] (kAJ s_ ((3,.i ((w64 ((w64 (31*n1))+(w64 (c6.toNat:Int)))).tmod 9999991))::(kBI (s_.length:Int) n2))) (ac (hs (.done (.opt (vQ Tryz.prog 9 (.str s_) (.i n2))) (.int .u8 (c6.toNat:Int))) (xz st9 e_c6)) az) ?_
    refine gh fol (kAJ s_ ((3,.i ((w64 ((w64 (31*n1))+(w64 (c6.toNat:Int)))).tmod 9999991))::(kBI (s_.length:Int) (w64 (n2+1))))) ?_
    exact⟨M,(ofG 28 (kAJ s_ ((3,.i ((w64 ((w64 (31*n1))+(w64 (c6.toNat:Int)))).tmod 9999991))::(kBI (s_.length:Int) (w64 (n2+1))))),[]),Nat.lt_succ_self _,(Sub.refl _),_,_,rfl,g4⟩
   ·refine Goes.exit ?_
    obtain rfl:=si g4
    exact⟨rfl,_,rfl,(Sub.keep [3] rfl rfl)⟩
 rintro x s' ⟨rfl,n3,rfl,hsub⟩
 refine Goes.sub hsub ?_
 obtain⟨r7,e_r7,h⟩:=bnd h
 refine sq (gr fol [1] [(5,.str r7)] (ac (cv (qfJ n3 e_r7)) az) ?_)
 obtain⟨r8,e_r8,h⟩:=bnd h
 obtain⟨s9,e_s9,h⟩:=bnd h
 refine sq (gr fol [3,5] [(2,.str s9)] (ac (cv (qld [48] (w64 (7-(r7.length:Int))) e_r8)) (ac (hs (.done (.opt (qbf Tryz.prog .add 9 (.tmp 25) (.tmp 26) (.str r8) (.str r7))) (.str s9)) (yw e_s9)) az)) ?_)
 refine Goes.ret ?_
 obtain rfl:=si h
 exact(gw2 [.str s9] (FzW.still tS))
def yU (s_:Str):Option Bool:=
 (if(!(s_==[]))=true then
 (qjZ s_ [48,49,50,51,52,53,54,55,56,57]).bind fun r2=>
 some (r2==[])
 else
 some false:Option Bool).bind fun b3=>
 some b3
theorem xS (s_:Str) {res:Bool} (h:yU s_=some res):qg Tryz.prog (.fn 155) [.str s_] [] (.bool res) []:=by
 unfold yU at h
 refine Goes.fnW Tryz.func155 rfl rfl (m:=10) rfl (rs:=[.tmp 2]) rfl (l:=(kAJ s_ [])) rfl ?_
 refine sh fol (kAJ s_ []) ?_
 refine sq ?_
 obtain⟨b3,g_v4,h⟩:=bnd h
 refine Goes.cut (s':=(ofG 10 [(2,.bool b3)],[])) ?_ ?_
 ·rcases wyB g_v4 with⟨c1,g_v4⟩|⟨c1,g_v4⟩
  ·obtain⟨r2,e_r2,g_v4⟩:=bnd g_v4
   obtain rfl:=si g_v4
   exact tr fol [2,4] [(2,.bool (r2==[]))] (ac (gw c1) (ac (cv (qn1 s_ [48,49,50,51,52,53,54,55,56,57] e_r2)) az))
  ·obtain rfl:=si g_v4
   exact tr fol [2] kB2 (ac (gw c1) az)
 refine Goes.ret ?_
 obtain rfl:=si h
 exact(gw2 [.bool b3] (FzW.still tB))
def jM (n:Int) (low:Int) (high:Int):Option Int:=
 (if n<low then
 (qN true 3).bind fun r2=>
 some r2
 else
 (qN (decide (n>high)) 3).bind fun r3=>
 some r3:Option Int).bind fun n4=>
 some n4
theorem ve (n:Int) (low:Int) (high:Int) {res:Int} (h:jM n low high=some res):qg Tryz.prog (.fn 87) [.i n,.i low,.i high] [] (.i res) []:=by
 unfold jM at h
 refine Goes.fnW Tryz.func87 rfl rfl (m:=16) rfl (rs:=[.tmp 6]) rfl (l:=(kBz n low [(2,.i high)])) rfl ?_
 refine sh fol (kBz n low [(2,.i high)]) ?_
 refine sq ?_
 obtain⟨n4,g_v5,h⟩:=bnd h
 refine Goes.cut (s':=(ofG 16 (kBu n4),[])) ?_ ?_
 ·rcases wyD g_v5 with⟨c1,g_v5⟩|⟨c1,g_v5⟩
  ·obtain⟨r2,e_r2,g_v5⟩:=bnd g_v5
   obtain rfl:=si g_v5
   exact tr fol [3,8] (kBu r2) (ac (gw c1) (ac (cv (qD true 3 e_r2)) az))
  ·obtain⟨r3,e_r3,g_v5⟩:=bnd g_v5
   obtain rfl:=si g_v5
   exact tr fol [3,8] (kBu r3) (ac (gw c1) (ac (cv (qD (decide (n>high)) 3 e_r3)) az))
 refine Goes.ret ?_
 obtain rfl:=si h
 exact(gw2 [.i n4] (FzW.still tI))
def jQ (a0_:qc) (a1_:Str):Option Bool:=
 some (!(ltL a0_.Name a1_))
theorem qbK (a0_:qc) (a1_:Str) {res:Bool} (h:jQ a0_ a1_=some res):qg Tryz.prog (.fn 149) [.agg (cS a0_),.fptr [.str a1_] 0] [] (.bool res) []:=by
 unfold jQ at h
 refine Goes.fnW Tryz.func149 rfl rfl (m:=8) rfl (rs:=[.tmp 3]) rfl (l:=[(0,.agg (cS a0_)),(1,.fptr [.str a1_] 0)]) rfl ?_
 refine sg fol ((1,.fptr [.str a1_] 0)::(kK [])) (kAw a0_ []) ?_
 refine sh fol [(3,.bool (!(ltL a0_.Name a1_)))] ?_
 refine Goes.ret ?_
 obtain rfl:=si h
 exact(gw2 [.bool (!(ltL a0_.Name a1_))] (FzW.still tB))
def qR (a0_:List qc) (a1_:Str):Nat→Int→Option (Unit⊕Int)
 |0,_=>none
 |K+1,n1=>
  if n1<(a0_.length:Int)then
  (idx a0_ n1).bind fun x5=>
  (jQ x5 a1_).bind fun r6=>
  if r6=true then
  some (.inr n1)
  else
  qR a0_ a1_ K (w64 (n1+1))
  else
  some (.inl ())
def jY (N:Nat) (a0_:List qc) (a1_:Str):Option Int:=
 (qR a0_ a1_ N 0).bind (fun
 |(.inl ())=>
 some (-1)
 |(.inr q8)=>
 some q8)
theorem qbY (N:Nat) (a0_:List qc) (a1_:Str) {res:Int} (h:jY N a0_ a1_=some res):qg Tryz.prog (.fn 148) [vl qd a0_,.func (.func 149) [] [.fptr [.str a1_] 0]] [] (.i res) []:=by
 unfold jY at h
 refine Goes.fnW Tryz.func148 rfl rfl (m:=19) rfl (rs:=[.tmp 4]) rfl (l:=(kBN a0_ [(1,.func (.func 149) [] [.fptr [.str a1_] 0])])) rfl ?_
 refine sh fol (kBN a0_ [(1,.func (.func 149) [] [.fptr [.str a1_] 0])]) ?_
 refine sq ?_
 refine sh fol (kBN a0_ [(1,.func (.func 149) [] [.fptr [.str a1_] 0]),(7,.i (a0_.length:Int)),(8,.i 0)]) ?_
 refine Goes.block ?_
 obtain⟨r2,g2,h⟩:=bnd h
 refine Goes.imp (Q:=fun x s'=>(x= .exit 0∧(.inl ())=r2∧Sub s' (ofG 19 [],[]))∨(x= .ret∧ ∃q3,(.inr q3)=r2∧qW Tryz.prog [.tmp 4] (.i q3) .ret s')) ?_ ?_
 ·refine Goes.loopS (fun M s=> ∃(n1:Int),s=(ofG 19 (kBN a0_ ((1,.func (.func 149) [] [.fptr [.str a1_] 0])::(kBI (a0_.length:Int) n1))),[])∧qR a0_ a1_ M n1=some r2) ?_ (m:=N) ⟨_,rfl,g2⟩
  rintro M s ⟨n1,rfl,g2⟩
  cases M with
  |zero=>simp only[qR]at g2;cases g2
  |succ M=>
   rw[qR]at g2
   refine sh fol (kBN a0_ ((1,.func (.func 149) [] [.fptr [.str a1_] 0])::(7,.i (a0_.length:Int))::(8,.i n1)::(kBt (decide (n1<(a0_.length:Int)))))) ?_
   refine sq ?_
   refine ihD g2 (fun c4 g2=>?_) (fun c4 g2=>?_)
   ·refine Goes.skip ?_
    refine sq (Goes.block ?_)
    refine sh fol (kBN a0_ ((1,.func (.func 149) [] [.fptr [.str a1_] 0])::(5,.i n1)::(kBI (a0_.length:Int) n1))) ?_
    obtain⟨x5,e_x5,g2⟩:=bnd g2
    obtain⟨r6,e_r6,g2⟩:=bnd g2
    refine sq (gr fol [3,4,5] (kBN a0_ [(1,.func (.func 149) [] [.fptr [.str a1_] 0]),(5,.i n1),(7,.i (a0_.length:Int)),(8,.i n1),(16,.bool r6)]) (ac (iv qcx qd e_x5) (ac (la qlk qd e_x5) (ac (hs (.call 149 [.agg (cS x5),.fptr [.str a1_] 0] [] [] [.agg (cS x5),.fptr [.str a1_] 0] (.bool r6)) (qjO (FzL.cons (Fz.still (Still.agg (AllST.cons tS (AllST.cons tS (AllST.cons tI (AllST.cons tI (AllST.cons tI (AllST.cons tI (AllST.cons tI (AllST.cons tI (AllST.cons tB AllST.nil))))))))))) (FzL.cons (Fz.still (Still.fptr (AllST.cons tS AllST.nil))) FzL.nil)) (qbK x5 a1_ e_r6) tB)) az))) ?_)
    refine ihB g2 (fun c7 g2=>?_) (fun c7 g2=>?_)
    ·refine sh fol (kAv n1) ?_
     refine Goes.ret ?_
     obtain rfl:=si g2
     exact Or.inr (⟨rfl,_,rfl,(gw2 [.i n1] (FzW.still tI))⟩)
    ·refine Goes.skip ?_
     refine gh fol (kBN a0_ ((1,.func (.func 149) [] [.fptr [.str a1_] 0])::(kBI (a0_.length:Int) (w64 (n1+1))))) ?_
     exact⟨M,(ofG 19 (kBN a0_ ((1,.func (.func 149) [] [.fptr [.str a1_] 0])::(kBI (a0_.length:Int) (w64 (n1+1))))),[]),Nat.lt_succ_self _,(Sub.refl _),_,rfl,g2⟩
   ·refine Goes.exit ?_
    obtain rfl:=si g2
    exact Or.inl (⟨rfl,rfl,(Sub.keep [] rfl rfl)⟩)
 rintro x s' (⟨rfl,rfl,hsub⟩|⟨rfl,q8,rfl,hret⟩)
 ·try dsimp only at h
  refine Goes.sub hsub ?_
  refine sh fol [(4,.i (-1))] ?_
  refine Goes.ret ?_
  obtain rfl:=si h
  exact(gw2 [.i (-1)] (FzW.still tI))
 ·try dsimp only at h
  obtain rfl:=si h
  exact hret
def zY (N:Nat) (r:yD) (name:Str):Option (Int×Bool):=
 (jY N r.Slings name).bind fun r1=>
 if r1<0 then
 some ((r.Slings.length:Int),false)
 else
 (idx r.Slings r1).bind fun x3=>
 some (r1,x3.Name==name)
theorem xC (N:Nat) (r:yD) (name:Str) {res:Int×Bool} (h:zY N r name=some res):qg Tryz.prog (.fn 93) (kAe r.Day r.Slings [.str name]) [] (.tuple [.i res.1,.bool res.2]) []:=by
 unfold zY at h
 refine Goes.fnW Tryz.func93 rfl rfl (m:=25) rfl (rs:=[.tmp 4,.tmp 5]) rfl (l:=(kBs r.Day r.Slings [(1,.str name)])) rfl ?_
 refine sg fol (kK (kA7 [])) (kE r.Day r.Slings (kAM name [])) ?_
 obtain⟨r1,e_r1,h⟩:=bnd h
 refine sq (gr fol [3] (kK (kA7 (kBu r1))) (ac (hs (.call 148 [vl qd r.Slings,.func (.func 149) [] [.ptr 1 0]] (kE r.Day r.Slings (kAM name [])) [1] [vl qd r.Slings,.func (.func 149) [] [.fptr [.str name] 0]] (.i r1)) (yQ (FzL.cons (Fz.still (qF qd _ (nl rfl))) (FzL.cons (Fz.func FzL.nil (FzL.cons (Fz.ptr rfl rfl (FzL.cons (Fz.still tS) FzL.nil)) FzL.nil)) FzL.nil)) (qbY N r.Slings name e_r1) tI rfl)) az) ?_)
 refine sq ?_
 refine sh fol (kK (kA7 [(6,.i r1),(12,.bool (decide (r1<0)))])) ?_
 refine ihD h (fun c2 h=>?_) (fun c2 h=>?_)
 ·refine sh fol [(4,.i (r.Slings.length:Int)),(5,.bool false)] ?_
  refine Goes.ret ?_
  obtain rfl:=si h
  exact(gw2 (.i (r.Slings.length:Int)::kBM) (FzW.tuple (qh.cons (FzW.still tI) (qh.cons (FzW.still tB) qh.nil))))
 ·refine Goes.skip ?_
  obtain⟨x3,e_x3,h⟩:=bnd h
  refine sq (gr fol [4,6] [(4,.i r1),(5,.bool (x3.Name==name))] (ac (iv qcx qd e_x3) (ac (lv 0 ce9 qd e_x3 rfl) az)) ?_)
  refine Goes.ret ?_
  obtain rfl:=si h
  exact(gw2 [.i r1,.bool (x3.Name==name)] (FzW.tuple (qh.cons (FzW.still tI) (qh.cons (FzW.still tB) qh.nil))))
def yl (n:Int):Option Int:=
 (jM n 0 99999).bind fun r1=>
 some r1
theorem qa5 (n:Int) {res:Int} (h:yl n=some res):qg Tryz.prog (.fn 94) [.i n] [] (.i res) []:=by
 unfold yl at h
 refine Goes.fnW Tryz.func94 rfl rfl (m:=5) rfl (rs:=[.tmp 2]) rfl (l:=[(0,.i n)]) rfl ?_
 refine sh fol [(0,.i n)] ?_
 obtain⟨r1,e_r1,h⟩:=bnd h
 refine sq (gr fol [1] [(2,.i r1)] (ac (cv (ve n 0 99999 e_r1)) az) ?_)
 refine Goes.ret ?_
 obtain rfl:=si h
 exact(gw2 [.i r1] (FzW.still tI))
def jc (s_:qc) (day:Int):Option Bool:=
 (if s_.Gone=true then
 some true
 else
 if day>s_.Last then
 some true
 else
 some (decide (s_.Used=s_.Uses)):Option Bool).bind fun b3=>
 some b3
theorem vU (s_:qc) (day:Int) {res:Bool} (h:jc s_ day=some res):qg Tryz.prog (.fn 95) [.agg (cS s_),.i day] [] (.bool res) []:=by
 unfold jc at h
 refine Goes.fnW Tryz.func95 rfl rfl (m:=20) rfl (rs:=[.tmp 4]) rfl (l:=[(0,.agg (cS s_)),(1,.i day)]) rfl ?_
 refine sg fol ((1,.i day)::(kK [])) (kAw s_ []) ?_
 refine sq ?_
 obtain⟨b3,g_v4,h⟩:=bnd h
 refine Goes.cut (s':=(ofG 20 (kAy b3),(kAw s_ []))) ?_ ?_
 ·rcases wyB g_v4 with⟨c1,g_v4⟩|⟨c1,g_v4⟩
  ·obtain rfl:=si g_v4
   exact tr fol [2] kAk (ac (gw c1) az)
  ·rcases wyD g_v4 with⟨c2,g_v4⟩|⟨c2,g_v4⟩
   ·obtain rfl:=si g_v4
    exact tr fol [2,8] kAk (ac (gw c1) (ac (gw c2) az))
   ·obtain rfl:=si g_v4
    exact tr fol [2,8] (kAy (decide (s_.Used=s_.Uses))) (ac (gw c1) (ac (gw c2) az))
 refine Goes.ret ?_
 obtain rfl:=si h
 exact(gw2 [.bool b3] (FzW.still tB))
def j6 (s_:qc) (day:Int):Option Bool:=
 (if s_.Limit>0 then
 some (decide (day≤s_.Until))
 else
 some false:Option Bool).bind fun b2=>
 some b2
theorem qbv (s_:qc) (day:Int) {res:Bool} (h:j6 s_ day=some res):qg Tryz.prog (.fn 96) [.agg (cS s_),.i day] [] (.bool res) []:=by
 unfold j6 at h
 refine Goes.fnW Tryz.func96 rfl rfl (m:=14) rfl (rs:=[.tmp 4]) rfl (l:=[(0,.agg (cS s_)),(1,.i day)]) rfl ?_
 refine sg fol ((1,.i day)::(kK [])) (kAw s_ []) ?_
 refine sq ?_
 obtain⟨b2,g_v3,h⟩:=bnd h
 refine Goes.cut (s':=(ofG 14 (kAy b2),(kAw s_ []))) ?_ ?_
 ·rcases wyD g_v3 with⟨c1,g_v3⟩|⟨c1,g_v3⟩
  ·obtain rfl:=si g_v3
   exact tr fol [3] (kAy (decide (day≤s_.Until))) (ac (gw c1) az)
  ·obtain rfl:=si g_v3
   exact tr fol [3] kAN (ac (gw c1) az)
 refine Goes.ret ?_
 obtain rfl:=si h
 exact(gw2 [.bool b2] (FzW.still tB))
def zl:Option Unit:=
 some ()
theorem qp {res:Unit} (h:zl=some res):qg Tryz.prog (.fn 85) [] [] (fm1) []:=by
 unfold zl at h
 refine Goes.fnW Tryz.func85 rfl rfl (m:=9) rfl (rs:=[.tmp 0]) rfl (l:=[]) rfl ?_
 refine sh fol [] ?_
 refine sg fol [(0,.map 0)] [.map kA0 (.agg [.i 2,.i 3,.func (.func 141) [] []]:: .agg [.i 1,.i 2,.func (.func 142) [] []]:: .agg [.i 1,.i 2,.func (.func 143) [] []]:: .agg [.i 1,.i 1,.func (.func 144) [] []]:: .agg [.i 1,.i 1,.func (.func 145) [] []]::(kBD []))] ?_
 refine Goes.ret ?_
 obtain rfl:=si h
 exact(gw2 [.map 0] (FzW.of (by kernel_rfl)))
def yT (c:Int):Option Bool:=
 (if c≥97 then
 if c≤122 then
 some true
 else
 if c≥65 then
 some (decide (c≤90))
 else
 some false
 else
 if c≥65 then
 some (decide (c≤90))
 else
 some false:Option Bool).bind fun b5=>
 some b5
theorem yM (c:Int) {res:Bool} (h:yT c=some res):qg Tryz.prog (.fn 183) [.int .i32 c] [] (.bool res) []:=by
 unfold yT at h
 refine Goes.fnW Tryz.func183 rfl rfl (m:=17) rfl (rs:=[.tmp 2]) rfl (l:=[(0,.int .i32 c)]) rfl ?_
 refine sh fol [(0,.int .i32 c)] ?_
 refine sq ?_
 obtain⟨b5,g_v6,h⟩:=bnd h
 refine Goes.cut (s':=(ofG 17 [(2,.bool b5)],[])) ?_ ?_
 ·rcases wyD g_v6 with⟨c1,g_v6⟩|⟨c1,g_v6⟩
  ·rcases wyD g_v6 with⟨c2,g_v6⟩|⟨c2,g_v6⟩
   ·obtain rfl:=si g_v6
    exact tr fol [2,6] [(2,.bool true)] (ac (gw c1) (ac (gw c2) az))
   ·rcases wyD g_v6 with⟨c3,g_v6⟩|⟨c3,g_v6⟩
    ·obtain rfl:=si g_v6
     exact tr fol [2,6,9] [(2,.bool (decide (c≤90)))] (ac (gw c1) (ac (gw c2) (ac (gw c3) az)))
    ·obtain rfl:=si g_v6
     exact tr fol [2,6,9] kB2 (ac (gw c1) (ac (gw c2) (ac (gw c3) az)))
  ·rcases wyD g_v6 with⟨c4,g_v6⟩|⟨c4,g_v6⟩
   ·obtain rfl:=si g_v6
    exact tr fol [2,9] [(2,.bool (decide (c≤90)))] (ac (gw c1) (ac (gw c4) az))
   ·obtain rfl:=si g_v6
    exact tr fol [2,9] kB2 (ac (gw c1) (ac (gw c4) az))
 refine Goes.ret ?_
 obtain rfl:=si h
 exact(gw2 [.bool b5] (FzW.still tB))
def vo (s_:Str):Nat→Nat→Option (Unit⊕Bool)
 |0,_=>none
 |K+1,k1=>
  if k1<s_.length then
  ((yT (yG s_ k1)).bind fun r5=>
  if(!r5)=true then
  if(k1:Int)=0 then
  some true
  else
  if(!decide ((yG s_ k1)=95))=true then
  if(yG s_ k1)<48 then
  some true
  else
  some (decide ((yG s_ k1)>57))
  else
  some false
  else
  some false:Option Bool).bind fun b10=>
  if b10=true then
  some (.inr false)
  else
  vo s_ K (k1+runeLen s_ k1)
  else
  some (.inl ())
def qaO (N:Nat) (s_:Str):Option Bool:=
 (vo s_ N 0).bind (fun
 |(.inl ())=>
 (if(!(s_==[]))=true then
 some (decide ((s_.length:Int)≤24))
 else
 some false:Option Bool).bind fun b14=>
 some b14
 |(.inr q16)=>
 some q16)
theorem qgJ (N:Nat) (s_:Str) {res:Bool} (h:qaO N s_=some res):qg Tryz.prog (.fn 146) [.str s_] [] (.bool res) []:=by
 unfold qaO at h
 refine Goes.fnW Tryz.func146 rfl rfl (m:=37) rfl (rs:=[.tmp 2]) rfl (l:=(kAJ s_ [])) rfl ?_
 refine sh fol (kAJ s_ []) ?_
 refine sq ?_
 refine sg fol (kAJ s_ (kB8 [])) [.iter s_ 0] ?_
 refine Goes.block ?_
 obtain⟨r2,g2,h⟩:=bnd h
 refine Goes.imp (Q:=fun x s'=>(x= .exit 0∧(.inl ())=r2∧Sub s' (ofG 37 (kAJ s_ []),[]))∨(x= .ret∧ ∃q3,(.inr q3)=r2∧qW Tryz.prog [.tmp 2] (.bool q3) .ret s')) ?_ ?_
 ·refine Goes.sub (s':=(ofG 37 (kAJ s_ (kB8 [])),[.iter s_ 0])) (Sub.keep [0,6] rfl rfl) ?_
  refine Goes.loopS (fun M s=> ∃(k1:Nat),s=(ofG 37 (kAJ s_ (kB8 [])),[.iter s_ k1])∧vo s_ M k1=some r2) ?_ (m:=N) ⟨_,rfl,g2⟩
  rintro M s ⟨k1,rfl,g2⟩
  cases M with
  |zero=>simp only[vo]at g2;cases g2
  |succ M=>
   rw[vo]at g2
   refine sq ?_
   rcases Classical.em (k1<s_.length)with c4|c4
   ·rw[if_pos c4]at g2
    refine gq fol [0] (kAJ s_ (kB8 [(7,.tuple [.bool true,.i (k1:Int),.int .i32 (yG s_ k1)]),(8,.bool true)])) [.iter s_ (k1+runeLen s_ k1)] (ac (hs (.run [0] (qee (.ptr 0 0) true) [.iter s_ k1] (.tuple [.bool true,.i (k1:Int),.int .i32 (yG s_ k1)]) [.iter s_ (k1+runeLen s_ k1)] true) (qiQ rfl c4 rfl)) az) ?_
    refine sq ?_
    refine Goes.ifB (b:=true) (by kernel_rfl) (fun _=>?_) (fun c=>(by cases c))
    refine Goes.skip ?_
    refine Goes.block ?_
    refine sh fol (kAJ s_ ((3,.i (k1:Int))::(4,.int .i32 (yG s_ k1))::(kB8 []))) ?_
    refine sq ?_
    obtain⟨b10,g_v11,g2⟩:=bnd g2
    refine Goes.cut (s':=(ofG 37 (kAJ s_ (kB8 [(29,.bool b10)])),[.iter s_ (k1+runeLen s_ k1)])) ?_ ?_
    ·obtain⟨r5,e_r5,g_v11⟩:=bnd g_v11
     rcases wyB g_v11 with⟨c6,g_v11⟩|⟨c6,g_v11⟩
     ·rcases wyD g_v11 with⟨c7,g_v11⟩|⟨c7,g_v11⟩
      ·obtain rfl:=si g_v11
       exact tr fol [1,3,6] (kAJ s_ (kB8 [(29,.bool true)])) (ac (cv (yM (yG s_ k1) e_r5)) (ac (gw c6) (ac (gw c7) az)))
      ·rcases wyB g_v11 with⟨c8,g_v11⟩|⟨c8,g_v11⟩
       ·rcases wyD g_v11 with⟨c9,g_v11⟩|⟨c9,g_v11⟩
        ·obtain rfl:=si g_v11
         exact tr fol [1,3,6,9,12] (kAJ s_ (kB8 [(29,.bool true)])) (ac (cv (yM (yG s_ k1) e_r5)) (ac (gw c6) (ac (gw c7) (ac (gw c8) (ac (gw c9) az)))))
        ·obtain rfl:=si g_v11
         exact tr fol [1,3,6,9,12] (kAJ s_ (kB8 [(29,.bool (decide ((yG s_ k1)>57)))])) (ac (cv (yM (yG s_ k1) e_r5)) (ac (gw c6) (ac (gw c7) (ac (gw c8) (ac (gw c9) az)))))
       ·obtain rfl:=si g_v11
        exact tr fol [1,3,6,9] (kAJ s_ (kB8 [(29,.bool false)])) (ac (cv (yM (yG s_ k1) e_r5)) (ac (gw c6) (ac (gw c7) (ac (gw c8) az))))
     ·obtain rfl:=si g_v11
      exact tr fol [1,3] (kAJ s_ (kB8 [(29,.bool false)])) (ac (cv (yM (yG s_ k1) e_r5)) (ac (gw c6) az))
    refine ihB g2 (fun c12 g2=>?_) (fun c12 g2=>?_)
    ·refine sh fol kB2 ?_
     refine Goes.ret ?_
     obtain rfl:=si g2
     exact Or.inr (⟨rfl,_,rfl,(gw2 [.bool false] (FzW.still tB))⟩)
    ·refine Goes.skip ?_
     exact⟨M,(ofG 37 (kAJ s_ (kB8 [])),[.iter s_ (k1+runeLen s_ k1)]),Nat.lt_succ_self _,(Sub.keep [0,6] rfl rfl),_,rfl,g2⟩
   ·rw[if_neg c4]at g2
    refine gr fol [0] (kAJ s_ (kB8 [(7,.tuple [.bool false]),(8,.bool false)])) (ac (hs (.run [0] (qee (.ptr 0 0) true) [.iter s_ k1] (.tuple [.bool false]) [.iter s_ k1] false) (qiz rfl c4)) az) ?_
    refine sq ?_
    refine Goes.ifB (b:=false) (by kernel_rfl) (fun c=>(by cases c)) (fun _=>?_)
    refine Goes.exit ?_
    obtain rfl:=si g2
    exact Or.inl (⟨rfl,rfl,(Sub.norm [] [] rfl rfl (.keep (.same nS) .nil) .nil)⟩)
 rintro x s' (⟨rfl,rfl,hsub⟩|⟨rfl,q16,rfl,hret⟩)
 ·try dsimp only at h
  refine Goes.sub hsub ?_
  refine sq ?_
  obtain⟨b14,g_v15,h⟩:=bnd h
  refine Goes.cut (s':=(ofG 37 [(2,.bool b14)],[])) ?_ ?_
  ·rcases wyB g_v15 with⟨c13,g_v15⟩|⟨c13,g_v15⟩
   ·obtain rfl:=si g_v15
    exact tr fol [2] [(2,.bool (decide ((s_.length:Int)≤24)))] (ac (gw c13) az)
   ·obtain rfl:=si g_v15
    exact tr fol [2] kB2 (ac (gw c13) az)
  refine Goes.ret ?_
  obtain rfl:=si h
  exact(gw2 [.bool b14] (FzW.still tB))
 ·try dsimp only at h
  obtain rfl:=si h
  exact hret
def qbs (N:Nat) (s_:Str):Option Int:=
 (qaO N s_).bind fun r1=>
 (qN (!r1) 8).bind fun r2=>
 some r2
theorem qg7 (N:Nat) (s_:Str) {res:Int} (h:qbs N s_=some res):qg Tryz.prog (.fn 89) [.str s_] [] (.i res) []:=by
 unfold qbs at h
 refine Goes.fnW Tryz.func89 rfl rfl (m:=7) rfl (rs:=[.tmp 2]) rfl (l:=(kAJ s_ [])) rfl ?_
 refine sh fol (kAJ s_ []) ?_
 obtain⟨r1,e_r1,h⟩:=bnd h
 obtain⟨r2,e_r2,h⟩:=bnd h
 refine sq (gr fol [1,3] [(2,.i r2)] (ac (cv (qgJ N s_ e_r1)) (ac (cv (qD (!r1) 8 e_r2)) az)) ?_)
 refine Goes.ret ?_
 obtain rfl:=si h
 exact(gw2 [.i r2] (FzW.still tI))
def jb (N:Nat) (e:qb):Nat→Int→Option (Unit⊕Int)
 |0,_=>none
 |K+1,n22=>
  if n22<(e.Names.length:Int)then
  (idx e.Names n22).bind fun x26=>
  (qbs N x26).bind fun r27=>
  if(!decide (r27=0))=true then
  some (.inr r27)
  else
  jb N e K (w64 (n22+1))
  else
  some (.inl ())
def zX (e:qb):Nat→Int→Option (Unit⊕Int)
 |0,_=>none
 |K+1,n29=>
  if n29<(e.Values.length:Int)then
  (idx e.Values n29).bind fun x33=>
  (jM x33 0 999999999).bind fun r34=>
  if(!decide (r34=0))=true then
  some (.inr r34)
  else
  zX e K (w64 (n29+1))
  else
  some (.inl ())
def vT (N:Nat) (e:qb):Option Int:=
 ((zl).bind fun r1=>
 if(e.Kind==[109,97,107,101])=true then
 some (2,3,true)
 else
 if(e.Kind==[116,101,115,116])=true then
 some (1,2,true)
 else
 if(e.Kind==[117,115,101])=true then
 some (1,2,true)
 else
 if(e.Kind==[102,97,105,108])=true then
 some (1,1,true)
 else
 if(e.Kind==[114,101,99,97,108,108])=true then
 some (1,1,true)
 else
 if(e.Kind==[117,110,100,111])=true then
 some (0,0,true)
 else
 some (0,0,false):Option (Int×Int×Bool)).bind fun(n8,n9,b10)=>
 ((jM e.Number 1 1000).bind fun r12=>
 (qN (!b10) 13).bind fun r13=>
 if(!decide ((e.Names.length:Int)=n8))=true then
 (qN true 2).bind fun r15=>
 (zA N ([r12,r13,r15]:List Int)).bind fun r16=>
 some r16
 else
 (qN (!decide ((e.Values.length:Int)=n9)) 2).bind fun r17=>
 (zA N ([r12,r13,r17]:List Int)).bind fun r18=>
 some r18:Option Int).bind fun n19=>
 if(!decide (n19=0))=true then
 some n19
 else
 (jb N e N 0).bind (fun
 |(.inl ())=>
 (zX e N 0).bind (fun
 |(.inl ())=>
 (qN (!(e.Text==[])) 1).bind fun r36=>
 some r36
 |(.inr q37)=>
 some q37)
 |(.inr q38)=>
 some q38)
theorem qbV (N:Nat) (e:qb) {res:Int} (h:vT N e=some res):qg Tryz.prog (.fn 18) [.agg (cE e)] [] (.i res) []:=by
 unfold vT at h
 refine Goes.fnW Tryz.func18 rfl rfl (m:=75) rfl (rs:=[.tmp 2]) rfl (l:=[(0,.agg (cE e))]) rfl ?_
 refine sg fol (kV []) (kQ e []) ?_
 refine sq ?_
 obtain⟨⟨n8,n9,b10⟩,g_v11,h⟩:=bnd h
 refine Goes.cutS (s':=(ofG 75 (kV (kA7 (kAy b10))),(kQ e (kB4 n8 n9 [])))) ?_ ?_
 ·obtain⟨r1,e_r1,g_v11⟩:=bnd g_v11
  rcases wyB g_v11 with⟨c2,g_v11⟩|⟨c2,g_v11⟩
  ·simp only[Option.some.injEq,Prod.mk.injEq]at g_v11
   obtain⟨rfl,rfl,rfl⟩:=g_v11
   exact ql.sub (ql.rq fol [0,3] (kV (kA7 kAk)) (kQ e [.cells [.i 2,.i 3,.func (.func 141) [] []]]) (ac (cv (qp e_r1)) (ac (hs (.done (qL Tryz.prog 154 (fm1) (.str e.Kind) true) (.tuple (.agg [.i 2,.i 3,.func (.func 141) [] []]::kAp))) (xh xJ [[109,97,107,101],[116,101,115,116],[117,115,101],[102,97,105,108],[114,101,99,97,108,108],[117,110,100,111]] (kw c2) rfl)) az))) (Sub.norm [] [some 0,some 1] rfl rfl (.kp (.kp (.keep (.same nB) .nil))) (.kb rfl (.same sn) (.kb rfl (.cells (rc (.same nI) (rc (.same nI) (rc (.undef) rn)))) .nil)))
  ·rcases wyB g_v11 with⟨c3,g_v11⟩|⟨c3,g_v11⟩
   ·simp only[Option.some.injEq,Prod.mk.injEq]at g_v11
    obtain⟨rfl,rfl,rfl⟩:=g_v11
    exact ql.sub (ql.rq fol [0,3] (kV (kA7 kAk)) (kQ e [.cells [.i 1,.i 2,.func (.func 142) [] []]]) (ac (cv (qp e_r1)) (ac (hs (.done (qL Tryz.prog 154 (fm1) (.str e.Kind) true) (.tuple (.agg [.i 1,.i 2,.func (.func 142) [] []]::kAp))) (xh xJ [[109,97,107,101],[116,101,115,116],[117,115,101],[102,97,105,108],[114,101,99,97,108,108],[117,110,100,111]] (qj c2 (kw c3)) rfl)) az))) (Sub.norm [] [some 0,some 1] rfl rfl (.kp (.kp (.keep (.same nB) .nil))) (.kb rfl (.same sn) (.kb rfl (.cells (rc (.same nI) (rc (.same nI) (rc (.undef) rn)))) .nil)))
   ·rcases wyB g_v11 with⟨c4,g_v11⟩|⟨c4,g_v11⟩
    ·simp only[Option.some.injEq,Prod.mk.injEq]at g_v11
     obtain⟨rfl,rfl,rfl⟩:=g_v11
     exact ql.sub (ql.rq fol [0,3] (kV (kA7 kAk)) (kQ e [.cells [.i 1,.i 2,.func (.func 143) [] []]]) (ac (cv (qp e_r1)) (ac (hs (.done (qL Tryz.prog 154 (fm1) (.str e.Kind) true) (.tuple (.agg [.i 1,.i 2,.func (.func 143) [] []]::kAp))) (xh xJ [[109,97,107,101],[116,101,115,116],[117,115,101],[102,97,105,108],[114,101,99,97,108,108],[117,110,100,111]] (qj c2 (qj c3 (kw c4))) rfl)) az))) (Sub.norm [] [some 0,some 1] rfl rfl (.kp (.kp (.keep (.same nB) .nil))) (.kb rfl (.same sn) (.kb rfl (.cells (rc (.same nI) (rc (.same nI) (rc (.undef) rn)))) .nil)))
    ·rcases wyB g_v11 with⟨c5,g_v11⟩|⟨c5,g_v11⟩
     ·simp only[Option.some.injEq,Prod.mk.injEq]at g_v11
      obtain⟨rfl,rfl,rfl⟩:=g_v11
      exact ql.sub (ql.rq fol [0,3] (kV (kA7 kAk)) (kQ e [.cells [.i 1,.i 1,.func (.func 144) [] []]]) (ac (cv (qp e_r1)) (ac (hs (.done (qL Tryz.prog 154 (fm1) (.str e.Kind) true) (.tuple (.agg [.i 1,.i 1,.func (.func 144) [] []]::kAp))) (xh xJ [[109,97,107,101],[116,101,115,116],[117,115,101],[102,97,105,108],[114,101,99,97,108,108],[117,110,100,111]] (qj c2 (qj c3 (qj c4 (kw c5)))) rfl)) az))) (Sub.norm [] [some 0,some 1] rfl rfl (.kp (.kp (.keep (.same nB) .nil))) (.kb rfl (.same sn) (.kb rfl (.cells (rc (.same nI) (rc (.same nI) (rc (.undef) rn)))) .nil)))
     ·rcases wyB g_v11 with⟨c6,g_v11⟩|⟨c6,g_v11⟩
      ·simp only[Option.some.injEq,Prod.mk.injEq]at g_v11
       obtain⟨rfl,rfl,rfl⟩:=g_v11
       exact ql.sub (ql.rq fol [0,3] (kV (kA7 kAk)) (kQ e [.cells [.i 1,.i 1,.func (.func 145) [] []]]) (ac (cv (qp e_r1)) (ac (hs (.done (qL Tryz.prog 154 (fm1) (.str e.Kind) true) (.tuple (.agg [.i 1,.i 1,.func (.func 145) [] []]::kAp))) (xh xJ [[109,97,107,101],[116,101,115,116],[117,115,101],[102,97,105,108],[114,101,99,97,108,108],[117,110,100,111]] (qj c2 (qj c3 (qj c4 (qj c5 (kw c6))))) rfl)) az))) (Sub.norm [] [some 0,some 1] rfl rfl (.kp (.kp (.keep (.same nB) .nil))) (.kb rfl (.same sn) (.kb rfl (.cells (rc (.same nI) (rc (.same nI) (rc (.undef) rn)))) .nil)))
      ·rcases wyB g_v11 with⟨c7,g_v11⟩|⟨c7,g_v11⟩
       ·simp only[Option.some.injEq,Prod.mk.injEq]at g_v11
        obtain⟨rfl,rfl,rfl⟩:=g_v11
        exact ql.sub (ql.rq fol [0,3] (kV (kA7 kAk)) (kQ e kBE) (ac (cv (qp e_r1)) (ac (hs (.done (qL Tryz.prog 154 (fm1) (.str e.Kind) true) (.tuple (kBD kAp))) (xh xJ [[109,97,107,101],[116,101,115,116],[117,115,101],[102,97,105,108],[114,101,99,97,108,108],[117,110,100,111]] (qj c2 (qj c3 (qj c4 (qj c5 (qj c6 (kw c7)))))) rfl)) az))) (Sub.norm [] [some 0,some 1] rfl rfl (.kp (.kp (.keep (.same nB) .nil))) (.kb rfl (.same sn) (.kb rfl (.cells (rc (.same nI) (rc (.same nI) (rc (.undef) rn)))) .nil)))
       ·simp only[Option.some.injEq,Prod.mk.injEq]at g_v11
        obtain⟨rfl,rfl,rfl⟩:=g_v11
        exact ql.sub (ql.rq fol [0,3] (kV (kA7 kAN)) (kQ e kBE) (ac (cv (qp e_r1)) (ac (hs (.done (qL Tryz.prog 154 (fm1) (.str e.Kind) true) (.tuple (kBD kBM))) (qhr xJ [[109,97,107,101],[116,101,115,116],[117,115,101],[102,97,105,108],[114,101,99,97,108,108],[117,110,100,111]] (qj c2 (qj c3 (qj c4 (qj c5 (qj c6 (qj c7 (rfl))))))))) az))) (Sub.norm [] [some 0,some 1] rfl rfl (.kp (.kp (.keep (.same nB) .nil))) (.kb rfl (.same sn) (.kb rfl (.cells (rc (.same nI) (rc (.same nI) (rc (.undef) rn)))) .nil)))
 intro _ hsub
 try dsimp only at h
 refine Goes.sub hsub ?_
 refine sq ?_
 refine sq ?_
 obtain⟨n19,g_v20,h⟩:=bnd h
 refine Goes.cutS (s':=(ofG 75 (kV (kAb n19)),(kQ e []))) ?_ ?_
 ·obtain⟨r12,e_r12,g_v20⟩:=bnd g_v20
  obtain⟨r13,e_r13,g_v20⟩:=bnd g_v20
  rcases wyB g_v20 with⟨c14,g_v20⟩|⟨c14,g_v20⟩
  ·obtain⟨r15,e_r15,g_v20⟩:=bnd g_v20
   obtain⟨r16,e_r16,g_v20⟩:=bnd g_v20
   obtain rfl:=si g_v20
   exact ql.sub (ql.rq fol [2,5,12,20,22] (kV (kAb r16)) (kQ e (kB4 n8 n9 [.cells [.i r12,.i r13,.i r15]])) (ac (cv (ve e.Number 1 1000 e_r12)) (ac (cv (qD (!b10) 13 e_r13)) (ac (gw c14) (ac (cv (qD true 2 e_r15)) (ac (hs (.call 86 [.slice 2 0 3 3 1] (kQ e (kB4 n8 n9 [.cells [.i r12,.i r13,.i r15]])) [2] [vl encI ([r12,r13,r15]:List Int)] (.i r16)) (yQ (FzL.cons (Fz.lit rfl rfl (FzL.still (AllST.cons tI (AllST.cons tI (AllST.cons tI AllST.nil))))) FzL.nil) (jd N ([r12,r13,r15]:List Int) e_r16) tI rfl)) az)))))) (Sub.norm [] [some 0] rfl rfl (.kp (.keep (.same nI) .nil)) (.kb rfl (.same sn) .nil))
  ·obtain⟨r17,e_r17,g_v20⟩:=bnd g_v20
   obtain⟨r18,e_r18,g_v20⟩:=bnd g_v20
   obtain rfl:=si g_v20
   exact ql.sub (ql.rq fol [2,5,12,20,22] (kV (kAb r18)) (kQ e (kB4 n8 n9 [.cells [.i r12,.i r13,.i r17]])) (ac (cv (ve e.Number 1 1000 e_r12)) (ac (cv (qD (!b10) 13 e_r13)) (ac (gw c14) (ac (cv (qD (!decide ((e.Values.length:Int)=n9)) 2 e_r17)) (ac (hs (.call 86 [.slice 2 0 3 3 1] (kQ e (kB4 n8 n9 [.cells [.i r12,.i r13,.i r17]])) [2] [vl encI ([r12,r13,r17]:List Int)] (.i r18)) (yQ (FzL.cons (Fz.lit rfl rfl (FzL.still (AllST.cons tI (AllST.cons tI (AllST.cons tI AllST.nil))))) FzL.nil) (jd N ([r12,r13,r17]:List Int) e_r18) tI rfl)) az)))))) (Sub.norm [] [some 0] rfl rfl (.kp (.keep (.same nI) .nil)) (.kb rfl (.same sn) .nil))
 intro _ hsub
 refine Goes.sub hsub ?_
 refine sh fol (kV [(5,.i n19),(43,.bool (!decide (n19=0)))]) ?_
 refine ihB h (fun c21 h=>?_) (fun c21 h=>?_)
 ·refine sh fol [(2,.i n19)] ?_
  refine Goes.ret ?_
  obtain rfl:=si h
  exact(gw2 [.i n19] (FzW.still tI))
 ·refine Goes.skip ?_
  refine sq ?_
  refine sh fol (kV [(46,vl encS e.Names),(47,.i (e.Names.length:Int)),(48,.i 0)]) ?_
  refine Goes.block ?_
  obtain⟨r23,g23,h⟩:=bnd h
  refine Goes.imp (Q:=fun x s'=>(x= .exit 0∧(.inl ())=r23∧Sub s' (ofG 75 (kV []),(kQ e [])))∨(x= .ret∧ ∃q24,(.inr q24)=r23∧qW Tryz.prog [.tmp 2] (.i q24) .ret s')) ?_ ?_
  ·refine Goes.loopS (fun M s=> ∃(n22:Int),s=(ofG 75 (kV (kBa e.Names (e.Names.length:Int) n22 [])),(kQ e []))∧jb N e M n22=some r23) ?_ (m:=N) ⟨_,rfl,g23⟩
   rintro M s ⟨n22,rfl,g23⟩
   cases M with
   |zero=>simp only[jb]at g23;cases g23
   |succ M=>
    rw[jb]at g23
    refine sh fol (kV (kBa e.Names (e.Names.length:Int) n22 [(49,.bool (decide (n22<(e.Names.length:Int))))])) ?_
    refine sq ?_
    refine ihD g23 (fun c25 g23=>?_) (fun c25 g23=>?_)
    ·refine Goes.skip ?_
     refine sq (Goes.block ?_)
     obtain⟨x26,e_x26,g23⟩:=bnd g23
     refine sq (gr fol [0,1] (kV ((7,.str x26)::(kBa e.Names (e.Names.length:Int) n22 []))) (ac (iv zi encS e_x26) (ac (lv 0 ce9 encS e_x26 rfl) az)) ?_)
     obtain⟨r27,e_r27,g23⟩:=bnd g23
     refine sq (gr fol [1] (kV ((8,.i r27)::(kBa e.Names (e.Names.length:Int) n22 []))) (ac (cv (qg7 N x26 e_r27)) az) ?_)
     refine sh fol (kV ((8,.i r27)::(kBa e.Names (e.Names.length:Int) n22 [(55,.bool (!decide (r27=0)))]))) ?_
     refine ihB g23 (fun c28 g23=>?_) (fun c28 g23=>?_)
     ·refine sh fol [(2,.i r27)] ?_
      refine Goes.ret ?_
      obtain rfl:=si g23
      exact Or.inr (⟨rfl,_,rfl,(gw2 [.i r27] (FzW.still tI))⟩)
     ·refine Goes.skip ?_
      refine gh fol (kV (kBa e.Names (e.Names.length:Int) (w64 (n22+1)) [])) ?_
      exact⟨M,(ofG 75 (kV (kBa e.Names (e.Names.length:Int) (w64 (n22+1)) [])),(kQ e [])),Nat.lt_succ_self _,(Sub.refl _),_,rfl,g23⟩
    ·refine Goes.exit ?_
     obtain rfl:=si g23
     exact Or.inl (⟨rfl,rfl,(Sub.keep [1] rfl rfl)⟩)
  rintro x s' (⟨rfl,rfl,hsub⟩|⟨rfl,q38,rfl,hret⟩)
  ·try dsimp only at h
   refine Goes.sub hsub ?_
   refine sq ?_
   refine sh fol (kV [(59,vl encI e.Values),(60,.i (e.Values.length:Int)),(61,.i 0)]) ?_
   refine Goes.block ?_
   obtain⟨r30,g30,h⟩:=bnd h
   refine Goes.imp (Q:=fun x s'=>(x= .exit 2∧(.inl ())=r30∧Sub s' (ofG 75 (kV []),(kQ e [])))∨(x= .ret∧ ∃q31,(.inr q31)=r30∧qW Tryz.prog [.tmp 2] (.i q31) .ret s')) ?_ ?_
   ·refine Goes.loopS (fun M s=> ∃(n29:Int),s=(ofG 75 (kV (kBb e.Values (e.Values.length:Int) n29 [])),(kQ e []))∧zX e M n29=some r30) ?_ (m:=N) ⟨_,rfl,g30⟩
    rintro M s ⟨n29,rfl,g30⟩
    cases M with
    |zero=>simp only[zX]at g30;cases g30
    |succ M=>
     rw[zX]at g30
     refine sh fol (kV (kBb e.Values (e.Values.length:Int) n29 [(62,.bool (decide (n29<(e.Values.length:Int))))])) ?_
     refine sq ?_
     refine ihD g30 (fun c32 g30=>?_) (fun c32 g30=>?_)
     ·refine Goes.skip ?_
      refine sq (Goes.block ?_)
      obtain⟨x33,e_x33,g30⟩:=bnd g30
      refine sq (gr fol [0,1] (kV ((10,.i x33)::(kBb e.Values (e.Values.length:Int) n29 []))) (ac (iv xI encI e_x33) (ac (lv 0 ce3 encI e_x33 rfl) az)) ?_)
      obtain⟨r34,e_r34,g30⟩:=bnd g30
      refine sq (gr fol [1] (kV ((11,.i r34)::(kBb e.Values (e.Values.length:Int) n29 []))) (ac (cv (ve x33 0 999999999 e_r34)) az) ?_)
      refine sh fol (kV ((11,.i r34)::(kBb e.Values (e.Values.length:Int) n29 [(68,.bool (!decide (r34=0)))]))) ?_
      refine ihB g30 (fun c35 g30=>?_) (fun c35 g30=>?_)
      ·refine sh fol [(2,.i r34)] ?_
       refine Goes.ret ?_
       obtain rfl:=si g30
       exact Or.inr (⟨rfl,_,rfl,(gw2 [.i r34] (FzW.still tI))⟩)
      ·refine Goes.skip ?_
       refine gh fol (kV (kBb e.Values (e.Values.length:Int) (w64 (n29+1)) [])) ?_
       exact⟨M,(ofG 75 (kV (kBb e.Values (e.Values.length:Int) (w64 (n29+1)) [])),(kQ e [])),Nat.lt_succ_self _,(Sub.refl _),_,rfl,g30⟩
     ·refine Goes.exit ?_
      obtain rfl:=si g30
      exact Or.inl (⟨rfl,rfl,(Sub.keep [1] rfl rfl)⟩)
   rintro x s' (⟨rfl,rfl,hsub⟩|⟨rfl,q37,rfl,hret⟩)
   ·try dsimp only at h
    refine Goes.sub hsub ?_
    obtain⟨r36,e_r36,h⟩:=bnd h
    refine sq (gr fol [3] [(2,.i r36)] (ac (cv (qD (!(e.Text==[])) 1 e_r36)) az) ?_)
    refine Goes.ret ?_
    obtain rfl:=si h
    exact(gw2 [.i r36] (FzW.still tI))
   ·try dsimp only at h
    obtain rfl:=si h
    exact hret
  ·try dsimp only at h
   obtain rfl:=si h
   exact hret
def bytealg_Cutover (n:Int):Option Int:=
 some (w64 ((w64 (n+16)).tdiv 8))
def stringslite_Index (s_:Str) (substr:Str):Option Int:=
 (if(substr.length:Int)=0 then
 some true
 else
 some (substr==s_):Option Bool).bind fun b2=>
 if b2=true then
 some 0
 else
 if(substr.length:Int)=1 then
 (idx substr 0).bind fun c6=>
 (stringslite_IndexByte s_ (c6.toNat:Int)).bind fun r7=>
 some r7
 else
 if(substr.length:Int)≥(s_.length:Int)then
 some (-1)
 else
 none
theorem qbJ (s_:Str) (substr:Str) {res:Int} (h:stringslite_Index s_ substr=some res):qg Tryz.prog (.fn 130) [.str s_,.str substr] [] (.i res) []:=by
 unfold stringslite_Index at h
 refine Goes.fnW Tryz.func130 rfl rfl (m:=143) rfl (rs:=[.tmp 4]) rfl (l:=(kT s_ substr [])) rfl ?_
 refine sh fol (kT s_ substr []) ?_
 refine sh fol (kT s_ substr (kAb (substr.length:Int))) ?_
 refine sq (Goes.block ?_)
 refine sq ?_
 obtain⟨b2,g_v3,h⟩:=bnd h
 refine Goes.cut (s':=(ofG 143 (kT s_ substr [(5,.i (substr.length:Int)),(16,.bool b2)]),[])) ?_ ?_
 ·rcases wyD g_v3 with⟨c1,g_v3⟩|⟨c1,g_v3⟩
  ·obtain rfl:=si g_v3
   exact tr fol [2] (kT s_ substr [(5,.i (substr.length:Int)),(16,.bool true)]) (ac (gw c1) az)
  ·obtain rfl:=si g_v3
   exact tr fol [2] (kT s_ substr [(5,.i (substr.length:Int)),(16,.bool (substr==s_))]) (ac (gw c1) az)
 refine ihB h (fun c4 h=>?_) (fun c4 h=>?_)
 ·refine sh fol kBW ?_
  refine Goes.ret ?_
  obtain rfl:=si h
  exact(gw2 [.i 0] (FzW.still tI))
 ·refine sh fol (kT s_ substr [(5,.i (substr.length:Int)),(24,.bool (decide ((substr.length:Int)=1)))]) ?_
  refine ihD h (fun c5 h=>?_) (fun c5 h=>?_)
  ·obtain⟨c6,e_c6,h⟩:=bnd h
   obtain⟨r7,e_r7,h⟩:=bnd h
   refine sq (gr fol [2,3] (kAv r7) (ac (hs (.done (.opt (vQ Tryz.prog 9 (.str substr) (.i 0))) (.int .u8 (c6.toNat:Int))) (xz st9 e_c6)) (ac (cv (qaP s_ (c6.toNat:Int) e_r7)) az)) ?_)
   refine Goes.ret ?_
   obtain rfl:=si h
   exact(gw2 [.i r7] (FzW.still tI))
  ·refine sh fol (kT s_ substr [(5,.i (substr.length:Int)),(31,.bool (decide ((substr.length:Int)≥(s_.length:Int))))]) ?_
   refine ihD h (fun c8 h=>?_) (fun c8 h=>?_)
   ·refine sh fol [(4,.i (-1))] ?_
    refine Goes.ret ?_
    obtain rfl:=si h
    exact(gw2 [.i (-1)] (FzW.still tI))
   ·cases h
def strings_Index (s_:Str) (substr:Str):Option Int:=
 (stringslite_Index s_ substr).bind fun r1=>
 some r1
theorem qdk (s_:Str) (substr:Str) {res:Int} (h:strings_Index s_ substr=some res):qg Tryz.prog (.fn 67) [.str s_,.str substr] [] (.i res) []:=by
 unfold strings_Index at h
 refine Goes.fnW Tryz.func67 rfl rfl (m:=8) rfl (rs:=[.tmp 4]) rfl (l:=(kT s_ substr [])) rfl ?_
 refine sh fol (kT s_ substr []) ?_
 obtain⟨r1,e_r1,h⟩:=bnd h
 refine sq (gr fol [2] (kAv r1) (ac (cv (qbJ s_ substr e_r1)) az) ?_)
 refine Goes.ret ?_
 obtain rfl:=si h
 exact(gw2 [.i r1] (FzW.still tI))
def jh (s_:Str):Nat→Nat→Int→Option Int
 |0,_,_=>none
 |K+1,k1,n2=>
  if k1<s_.length then
  jh s_ K (k1+runeLen s_ k1) (w64 (n2+1))
  else
  some n2
def utf8_RuneCountInString (N:Nat) (s_:Str):Option Int:=
 (jh s_ N 0 0).bind fun n3=>
 some n3
theorem qaL (N:Nat) (s_:Str) {res:Int} (h:utf8_RuneCountInString N s_=some res):qg Tryz.prog (.fn 229) [.str s_] [] (.i res) []:=by
 unfold utf8_RuneCountInString at h
 refine Goes.fnW Tryz.func229 rfl rfl (m:=10) rfl (rs:=[.tmp 2]) rfl (l:=(kAJ s_ [])) rfl ?_
 refine sh fol (kAJ s_ [(2,.i 0)]) ?_
 refine sq ?_
 refine sg fol ((2,.i 0)::(kA3 [])) [.iter s_ 0] ?_
 refine Goes.block ?_
 obtain⟨r4,g4,h⟩:=bnd h
 refine Goes.imp (Q:=fun x s'=>(x= .exit 0∧ ∃n3,n3=r4∧Sub s' (ofG 10 [(2,.i n3)],[]))) ?_ ?_
 ·refine Goes.sub (s':=(ofG 10 ((2,.i 0)::(kA3 [])),[.iter s_ 0])) (Sub.keep [2,4] rfl rfl) ?_
  refine Goes.loopS (fun M s=> ∃(k1:Nat) (n2:Int),s=(ofG 10 ((2,.i n2)::(kA3 [])),[.iter s_ k1])∧jh s_ M k1 n2=some r4) ?_ (m:=N) ⟨_,_,rfl,g4⟩
  rintro M s ⟨k1,n2,rfl,g4⟩
  cases M with
  |zero=>simp only[jh]at g4;cases g4
  |succ M=>
   rw[jh]at g4
   refine sq ?_
   rcases Classical.em (k1<s_.length)with c5|c5
   ·rw[if_pos c5]at g4
    refine gq fol [0] ((2,.i n2)::(kA3 kBh)) [.iter s_ (k1+runeLen s_ k1)] (ac (hs (.run [0] (qee (.ptr 0 0) true) [.iter s_ k1] (.tuple [.bool true,.i (k1:Int),.int .i32 (yG s_ k1)]) [.iter s_ (k1+runeLen s_ k1)] true) (qiQ rfl c5 rfl)) az) ?_
    refine sq ?_
    refine Goes.ifB (b:=true) (by kernel_rfl) (fun _=>?_) (fun c=>(by cases c))
    refine Goes.skip ?_
    refine Goes.block ?_
    refine gh fol ((2,.i (w64 (n2+1)))::(kA3 [])) ?_
    exact⟨M,(ofG 10 ((2,.i (w64 (n2+1)))::(kA3 [])),[.iter s_ (k1+runeLen s_ k1)]),Nat.lt_succ_self _,(Sub.keep [2,4] rfl rfl),_,_,rfl,g4⟩
   ·rw[if_neg c5]at g4
    refine gr fol [0] ((2,.i n2)::(kA3 [(6,.bool false)])) (ac (hs (.run [0] (qee (.ptr 0 0) true) [.iter s_ k1] (.tuple [.bool false]) [.iter s_ k1] false) (qiz rfl c5)) az) ?_
    refine sq ?_
    refine Goes.ifB (b:=false) (by kernel_rfl) (fun c=>(by cases c)) (fun _=>?_)
    refine Goes.exit ?_
    obtain rfl:=si g4
    exact⟨rfl,_,rfl,(Sub.norm [] [] rfl rfl (.keep (.same nI) .nil) .nil)⟩
 rintro x s' ⟨rfl,n3,rfl,hsub⟩
 refine Goes.sub hsub ?_
 refine sh fol [(2,.i n3)] ?_
 refine Goes.ret ?_
 obtain rfl:=si h
 exact(gw2 [.i n3] (FzW.still tI))
def xP (n5:Int):Nat→Option Unit
 |0=>none
 |K+1=>
  if 0<(w64 (n5-1))then
  none
  else
  some ()
def qbX (N:Nat) (s_:Str) (n:Int):Option (List Str):=
 (utf8_RuneCountInString N s_).bind fun r1=>
 (if n<0 then
 some true
 else
 some (decide (n>r1)):Option Bool).bind fun b3=>
 ((if b3=true then
 some r1
 else
 some n:Option Int)).bind fun n5=>
 (mk 16 n5 []).bind fun l8=>
 (xP n5 N).bind fun _=>
 ((if n5>0 then
 (idx l8 (w64 (n5-1))).bind fun x14=>
 (put l8 (w64 (n5-1)) s_).bind fun l15=>
 some l15
 else
 some l8:Option (List Str))).bind fun l11=>
 some l11
theorem qfA (N:Nat) (s_:Str) (n:Int) {res:List Str} (h:qbX N s_ n=some res):qg Tryz.prog (.fn 191) [.str s_,.i n] [] (vl encS res) []:=by
 unfold qbX at h
 refine Goes.fnW Tryz.func191 rfl rfl (m:=50) rfl (rs:=[.tmp 4]) rfl (l:=(kAJ s_ [(1,.i n)])) rfl ?_
 refine sh fol (kAJ s_ [(1,.i n)]) ?_
 obtain⟨r1,e_r1,h⟩:=bnd h
 refine sq (gr fol [1] (kAJ s_ ((1,.i n)::(kAb r1))) (ac (cv (qaL N s_ e_r1)) az) ?_)
 refine sq ?_
 refine sq ?_
 obtain⟨b3,g_v4,h⟩:=bnd h
 refine Goes.cut (s':=(ofG 50 (kAJ s_ [(1,.i n),(5,.i r1),(18,.bool b3)]),[])) ?_ ?_
 ·rcases wyD g_v4 with⟨c2,g_v4⟩|⟨c2,g_v4⟩
  ·obtain rfl:=si g_v4
   exact tr fol [2] (kAJ s_ [(1,.i n),(5,.i r1),(18,.bool true)]) (ac (gw c2) az)
  ·obtain rfl:=si g_v4
   exact tr fol [2] (kAJ s_ [(1,.i n),(5,.i r1),(18,.bool (decide (n>r1)))]) (ac (gw c2) az)
 obtain⟨r6,g6,h⟩:=bnd h
 refine Goes.imp (Q:=fun x s'=>(x= .normal∧ ∃n5,n5=r6∧Sub s' (ofG 50 (kAJ s_ [(1,.i n5)]),[]))) ?_ ?_
 ·refine ihB g6 (fun c7 g6=>?_) (fun c7 g6=>?_)
  ·refine gh fol (kAJ s_ [(1,.i r1)]) ?_
   obtain rfl:=si g6
   exact⟨rfl,_,rfl,(Sub.refl _)⟩
  ·refine Goes.skip ?_
   obtain rfl:=si g6
   exact⟨rfl,_,rfl,(Sub.keep [0,1] rfl rfl)⟩
 rintro x s' ⟨rfl,n5,rfl,hsub⟩
 refine Goes.sub hsub ?_
 obtain⟨l8,e_l8,h⟩:=bnd h
 refine sq (gq fol [1] (kAJ s_ ((1,.i n5)::(kAl l8 []))) (kH l8 []) (ac (hs (.run [] (qas Tryz.prog 23 (.i n5) (.i n5)) [] (.slice 0 0 l8.length l8.length 1) (kH l8 []) false) (qlq zi (E:=encS) (z:=[]) rfl (by kernel_rfl) e_l8 rfl)) az) ?_)
 refine sq ?_
 refine sh fol (kAJ s_ ((1,.i n5)::(kAl l8 [(7,.i 0)]))) ?_
 refine Goes.block ?_
 obtain⟨r9,g9,h⟩:=bnd h
 refine Goes.imp (Q:=fun x s'=>(x= .exit 0∧()=r9∧Sub s' (ofG 50 (kAJ s_ ((1,.i n5)::(kAl l8 []))),(kH l8 [])))) ?_ ?_
 ·refine Goes.loopS (fun M s=>s=(ofG 50 (kAJ s_ ((1,.i n5)::(kAl l8 [(7,.i 0)]))),(kH l8 []))∧xP n5 M=some r9) ?_ (m:=N) ⟨rfl,g9⟩
  rintro M s ⟨rfl,g9⟩
  cases M with
  |zero=>simp only[xP]at g9;cases g9
  |succ M=>
   rw[xP]at g9
   refine sq ?_
   refine sh fol (kAJ s_ ((1,.i n5)::(kAl l8 [(7,.i 0),(25,.bool (decide (0<(w64 (n5-1)))))]))) ?_
   refine ihD g9 (fun c10 g9=>?_) (fun c10 g9=>?_)
   ·cases g9
   ·refine Goes.exit ?_
    obtain rfl:=si g9
    exact⟨rfl,rfl,(Sub.keep [0,1,6] rfl rfl)⟩
 rintro x s' ⟨rfl,rfl,hsub⟩
 refine Goes.sub hsub ?_
 refine sq ?_
 refine sh fol (kAJ s_ ((1,.i n5)::(kAl l8 [(43,.bool (decide (n5>0)))]))) ?_
 obtain⟨r12,g12,h⟩:=bnd h
 refine Goes.imp (Q:=fun x s'=>(x= .normal∧ ∃l11,l11=r12∧Sub s' (ofG 50 (kAl l11 []),(kH l11 [])))) ?_ ?_
 ·refine ihD g12 (fun c13 g12=>?_) (fun c13 g12=>?_)
  ·obtain⟨x14,e_x14,g12⟩:=bnd g12
   obtain⟨l15,e_l15,g12⟩:=bnd g12
   refine gq fol [4,5] (kAl l8 []) (kH l15 []) (ac (hs (.done (.opt (qE Tryz.prog 23 (.slice 0 0 l8.length l8.length 1) (.i (w64 (n5-1))))) (.ptr 0 ((w64 (n5-1):Int).toNat*1+0))) (qiW zi e_x14)) (ac (hs (.run [0] (qau Tryz.prog 9 (.ptr 0 ((w64 (n5-1):Int).toNat*1+0)) (.str s_)) (kH l8 []) .undef (kH l15 []) true) (qd3 (E:=encS) (l:=l8) (y:=s_) rfl (show _=some 1 by kernel_rfl) rfl e_x14 rfl rfl rfl rfl rfl e_l15 rfl)) az)) ?_
   obtain rfl:=si g12
   exact⟨rfl,_,rfl,((show Sub (ofG 50 (kAl l8 []),(kH l15 [])) (ofG 50 (kAl l15 []),(kH l15 []))from(Sub.norm [] [some 0] rfl rfl (.keep (.sliceE rfl (qaY e_l15)) .nil) (.ks .nil))).trans (Sub.refl _))⟩
  ·refine Goes.skip ?_
   obtain rfl:=si g12
   exact⟨rfl,_,rfl,(Sub.keep [6] rfl rfl)⟩
 rintro x s' ⟨rfl,l11,rfl,hsub⟩
 refine Goes.sub hsub ?_
 refine sh fol [(4,.slice 0 0 l11.length l11.length 1)] ?_
 refine Goes.ret ?_
 obtain rfl:=si h
 exact(gw2 [.slice 0 0 l11.length l11.length 1] (FzW.fz (Fz.sl (E:=encS) rfl rfl (nl rfl))))
def xE (substr:Str):Nat→Str→Int→Option Int
 |0,_,_=>none
 |K+1,s6,n7=>
  (strings_Index s6 substr).bind fun r10=>
  if r10=(-1)then
  some n7
  else
  (cut s6 (w64 (r10+(substr.length:Int))) (s6.length:Int)).bind fun s12=>
  xE substr K s12 (w64 (n7+1))
def strings_Count (N:Nat) (s_:Str) (substr:Str):Option Int:=
 if(substr.length:Int)=0 then
 (utf8_RuneCountInString N s_).bind fun r2=>
 some (w64 (r2+1))
 else
 if(substr.length:Int)=1 then
 (idx substr 0).bind fun c4=>
 (qjC s_ (c4.toNat:Int)).bind fun r5=>
 some r5
 else
 (xE substr N s_ 0).bind fun q13=>
 some q13
theorem qgn (N:Nat) (s_:Str) (substr:Str) {res:Int} (h:strings_Count N s_ substr=some res):qg Tryz.prog (.fn 192) [.str s_,.str substr] [] (.i res) []:=by
 unfold strings_Count at h
 refine Goes.fnW Tryz.func192 rfl rfl (m:=34) rfl (rs:=[.tmp 4]) rfl (l:=(kT s_ substr [])) rfl ?_
 refine sh fol (kT s_ substr []) ?_
 refine sq ?_
 refine sh fol (kT s_ substr (kBt (decide ((substr.length:Int)=0)))) ?_
 refine ihD h (fun c1 h=>?_) (fun c1 h=>?_)
 ·obtain⟨r2,e_r2,h⟩:=bnd h
  refine sq (gr fol [1] (kAv (w64 (r2+1))) (ac (cv (qaL N s_ e_r2)) az) ?_)
  refine Goes.ret ?_
  obtain rfl:=si h
  exact(gw2 [.i (w64 (r2+1))] (FzW.still tI))
 ·refine Goes.skip ?_
  refine sq ?_
  refine sh fol (kT s_ substr [(15,.bool (decide ((substr.length:Int)=1)))]) ?_
  refine ihD h (fun c3 h=>?_) (fun c3 h=>?_)
  ·obtain⟨c4,e_c4,h⟩:=bnd h
   obtain⟨r5,e_r5,h⟩:=bnd h
   refine sq (gr fol [2,3] (kAv r5) (ac (hs (.done (.opt (vQ Tryz.prog 9 (.str substr) (.i 0))) (.int .u8 (c4.toNat:Int))) (xz st9 e_c4)) (ac (cv (qmG s_ (c4.toNat:Int) e_r5)) az)) ?_)
   refine Goes.ret ?_
   obtain rfl:=si h
   exact(gw2 [.i r5] (FzW.still tI))
  ·refine Goes.skip ?_
   refine sh fol (kT s_ substr kA4) ?_
   refine Goes.block ?_
   obtain⟨r8,g8,h⟩:=bnd h
   refine Goes.imp (Q:=fun x s'=>(x= .ret∧ ∃q9,q9=r8∧qW Tryz.prog [.tmp 4] (.i q9) .ret s')) ?_ ?_
   ·refine Goes.loopS (fun M s=> ∃(s6:Str) (n7:Int),s=(ofG 34 (kT s6 substr (kAb n7)),[])∧xE substr M s6 n7=some r8) ?_ (m:=N) ⟨_,_,rfl,g8⟩
    rintro M s ⟨s6,n7,rfl,g8⟩
    cases M with
    |zero=>simp only[xE]at g8;cases g8
    |succ M=>
     rw[xE]at g8
     refine Goes.block ?_
     obtain⟨r10,e_r10,g8⟩:=bnd g8
     refine sq (gr fol [2] (kT s6 substr ((5,.i n7)::(kBu r10))) (ac (cv (qdk s6 substr e_r10)) az) ?_)
     refine sq ?_
     refine sh fol (kT s6 substr [(5,.i n7),(6,.i r10),(24,.bool (decide (r10=(-1))))]) ?_
     refine ihD g8 (fun c11 g8=>?_) (fun c11 g8=>?_)
     ·refine sh fol (kAv n7) ?_
      refine Goes.ret ?_
      obtain rfl:=si g8
      exact⟨rfl,_,rfl,(gw2 [.i n7] (FzW.still tI))⟩
     ·refine Goes.skip ?_
      refine sh fol (kT s6 substr ((5,.i (w64 (n7+1)))::(kBu r10))) ?_
      obtain⟨s12,e_s12,g8⟩:=bnd g8
      refine gr fol [5] (kT s12 substr (kAb (w64 (n7+1)))) (ac (hs (.done (.opt (qG Tryz.prog 9 (.str s6) (some (.i (w64 (r10+(substr.length:Int))))) none none)) (.str s12)) (yR st9 (some (w64 (r10+(substr.length:Int)))) none e_s12)) az) ?_
      exact⟨M,(ofG 34 (kT s12 substr (kAb (w64 (n7+1)))),[]),Nat.lt_succ_self _,(Sub.refl _),_,_,rfl,g8⟩
   rintro x s' ⟨rfl,q13,rfl,hret⟩
   obtain rfl:=si h
   exact hret
def zK (s_:Str) (sep:Str) (sepSave:Int) (n4:Int):Nat→(List Str)→Str→Int→Option ((List Str)×Str×Int)
 |0,_,_,_=>none
 |K+1,l9,s10,n11=>
  if n11<(w64 ((if(w64 ((s_.length:Int)+1))<n4 then(w64 ((s_.length:Int)+1))else n4)-1))then
  (strings_Index s10 sep).bind fun r17=>
  if r17<0 then
  some (l9,s10,n11)
  else
  (cut s10 0 (w64 (r17+sepSave))).bind fun s19=>
  (idx l9 n11).bind fun x20=>
  (put l9 n11 s19).bind fun l21=>
  (cut s10 (w64 (r17+(sep.length:Int))) (s10.length:Int)).bind fun s22=>
  zK s_ sep sepSave n4 K l21 s22 (w64 (n11+1))
  else
  some (l9,s10,n11)
def strings_genSplit (N:Nat) (s_:Str) (sep:Str) (sepSave:Int) (n:Int):Option (List Str):=
 if n=0 then
 some []
 else
 if(sep==[])=true then
 (qbX N s_ n).bind fun r3=>
 some r3
 else
 ((if n<0 then
 (strings_Count N s_ sep).bind fun r7=>
 some (w64 (r7+1))
 else
 some n:Option Int)).bind fun n4=>
 (mk 16 (if(w64 ((s_.length:Int)+1))<n4 then(w64 ((s_.length:Int)+1))else n4) []).bind fun l8=>
 (zK s_ sep sepSave n4 N l8 s_ 0).bind fun(l12,s13,n14)=>
 (idx l12 n14).bind fun x23=>
 (put l12 n14 s13).bind fun l24=>
 (cut l24 0 (w64 (n14+1))).bind fun s25=>
 some s25
theorem qe6 (N:Nat) (s_:Str) (sep:Str) (sepSave:Int) (n:Int) {res:List Str} (h:strings_genSplit N s_ sep sepSave n=some res):qg Tryz.prog (.fn 157) [.str s_,.str sep,.i sepSave,.i n] [] (vl encS res) []:=by
 unfold strings_genSplit at h
 refine Goes.fnW Tryz.func157 rfl rfl (m:=66) rfl (rs:=[.tmp 8]) rfl (l:=(kT s_ sep [(2,.i sepSave),(3,.i n)])) rfl ?_
 refine sh fol (kT s_ sep [(2,.i sepSave),(3,.i n)]) ?_
 refine sq ?_
 refine sh fol (kT s_ sep ((2,.i sepSave)::(3,.i n)::(kB0 (decide (n=0))))) ?_
 refine ihD h (fun c1 h=>?_) (fun c1 h=>?_)
 ·refine sh fol [(8,.nilslice)] ?_
  refine Goes.ret ?_
  obtain rfl:=si h
  exact(gw2 [.nilslice] (FzW.nilv (E:=encS)))
 ·refine Goes.skip ?_
  refine sq ?_
  refine sh fol (kT s_ sep [(2,.i sepSave),(3,.i n),(15,.bool (sep==[]))]) ?_
  refine ihB h (fun c2 h=>?_) (fun c2 h=>?_)
  ·obtain⟨r3,e_r3,h⟩:=bnd h
   refine sq (gr fol [2] [(8,vl encS r3)] (ac (cv (qfA N s_ n e_r3)) az) ?_)
   refine Goes.ret ?_
   obtain rfl:=si h
   exact(gw2 [vl encS r3] (FzW.still (qF encS _ (nl rfl))))
  ·refine Goes.skip ?_
   refine sq ?_
   refine sh fol (kT s_ sep [(2,.i sepSave),(3,.i n),(20,.bool (decide (n<0)))]) ?_
   obtain⟨r5,g5,h⟩:=bnd h
   refine Goes.imp (Q:=fun x s'=>(x= .normal∧ ∃n4,n4=r5∧Sub s' (ofG 66 (kT s_ sep [(2,.i sepSave),(3,.i n4)]),[]))) ?_ ?_
   ·refine ihD g5 (fun c6 g5=>?_) (fun c6 g5=>?_)
    ·obtain⟨r7,e_r7,g5⟩:=bnd g5
     refine gr fol [2] (kT s_ sep [(2,.i sepSave),(3,.i (w64 (r7+1)))]) (ac (cv (qgn N s_ sep e_r7)) az) ?_
     obtain rfl:=si g5
     exact⟨rfl,_,rfl,(Sub.refl _)⟩
    ·refine Goes.skip ?_
     obtain rfl:=si g5
     exact⟨rfl,_,rfl,(Sub.keep [0,1,2,3] rfl rfl)⟩
   rintro x s' ⟨rfl,n4,rfl,hsub⟩
   refine Goes.sub hsub ?_
   refine sh fol (kT s_ sep [(2,.i sepSave),(3,.i (if(w64 ((s_.length:Int)+1))<n4 then(w64 ((s_.length:Int)+1))else n4))]) ?_
   obtain⟨l8,e_l8,h⟩:=bnd h
   refine sq (gq fol [1] (kP s_ sep sepSave (if(w64 ((s_.length:Int)+1))<n4 then(w64 ((s_.length:Int)+1))else n4) l8 []) (kH l8 []) (ac (hs (.run [] (qas Tryz.prog 23 (.i (if(w64 ((s_.length:Int)+1))<n4 then(w64 ((s_.length:Int)+1))else n4)) (.i (if(w64 ((s_.length:Int)+1))<n4 then(w64 ((s_.length:Int)+1))else n4))) [] (.slice 0 0 l8.length l8.length 1) (kH l8 []) false) (qlq zi (E:=encS) (z:=[]) rfl (by kernel_rfl) e_l8 rfl)) az) ?_)
   refine sh fol (kP s_ sep sepSave (w64 ((if(w64 ((s_.length:Int)+1))<n4 then(w64 ((s_.length:Int)+1))else n4)-1)) l8 []) ?_
   refine sh fol (kP s_ sep sepSave (w64 ((if(w64 ((s_.length:Int)+1))<n4 then(w64 ((s_.length:Int)+1))else n4)-1)) l8 [(10,.i 0)]) ?_
   refine sq (Goes.block ?_)
   obtain⟨r15,g15,h⟩:=bnd h
   refine Goes.imp (Q:=fun x s'=>(x= .exit 0∧ ∃l12 s13 n14,(l12,s13,n14)=r15∧Sub s' (ofG 66 (kAJ s13 (kBj l12 n14)),(kH l12 [])))) ?_ ?_
   ·refine Goes.loopS (fun M s=> ∃(l9:List Str) (s10:Str) (n11:Int),s=(ofG 66 (kP s10 sep sepSave (w64 ((if(w64 ((s_.length:Int)+1))<n4 then(w64 ((s_.length:Int)+1))else n4)-1)) l9 [(10,.i n11)]),(kH l9 []))∧zK s_ sep sepSave n4 M l9 s10 n11=some r15) ?_ (m:=N) ⟨_,_,_,rfl,g15⟩
    rintro M s ⟨l9,s10,n11,rfl,g15⟩
    cases M with
    |zero=>simp only[zK]at g15;cases g15
    |succ M=>
     rw[zK]at g15
     refine sq ?_
     refine sh fol (kP s10 sep sepSave (w64 ((if(w64 ((s_.length:Int)+1))<n4 then(w64 ((s_.length:Int)+1))else n4)-1)) l9 [(10,.i n11),(36,.bool (decide (n11<(w64 ((if(w64 ((s_.length:Int)+1))<n4 then(w64 ((s_.length:Int)+1))else n4)-1)))))]) ?_
     refine ihD g15 (fun c16 g15=>?_) (fun c16 g15=>?_)
     ·refine Goes.skip ?_
      refine Goes.block ?_
      obtain⟨r17,e_r17,g15⟩:=bnd g15
      refine sq (gr fol [2] (kP s10 sep sepSave (w64 ((if(w64 ((s_.length:Int)+1))<n4 then(w64 ((s_.length:Int)+1))else n4)-1)) l9 (kBc n11 r17)) (ac (cv (qdk s10 sep e_r17)) az) ?_)
      refine sq ?_
      refine sh fol (kP s10 sep sepSave (w64 ((if(w64 ((s_.length:Int)+1))<n4 then(w64 ((s_.length:Int)+1))else n4)-1)) l9 [(10,.i n11),(11,.i r17),(41,.bool (decide (r17<0)))]) ?_
      refine ihD g15 (fun c18 g15=>?_) (fun c18 g15=>?_)
      ·refine Goes.exit ?_
       obtain rfl:=si g15
       exact⟨rfl,_,_,_,rfl,(Sub.keep [0,9,10] rfl rfl)⟩
      ·refine Goes.skip ?_
       obtain⟨s19,e_s19,g15⟩:=bnd g15
       obtain⟨x20,e_x20,g15⟩:=bnd g15
       obtain⟨l21,e_l21,g15⟩:=bnd g15
       refine sq (gq fol [6,7,8] (kP s10 sep sepSave (w64 ((if(w64 ((s_.length:Int)+1))<n4 then(w64 ((s_.length:Int)+1))else n4)-1)) l9 (kBc n11 r17)) (kH l21 []) (ac (hs (.done (.opt (qG Tryz.prog 9 (.str s10) none (some (.i (w64 (r17+sepSave)))) none)) (.str s19)) (yR st9 none (some (w64 (r17+sepSave))) e_s19)) (ac (hs (.done (.opt (qE Tryz.prog 23 (.slice 0 0 l9.length l9.length 1) (.i n11))) (.ptr 0 ((n11:Int).toNat*1+0))) (qiW zi e_x20)) (ac (hs (.run [0] (qau Tryz.prog 9 (.ptr 0 ((n11:Int).toNat*1+0)) (.str s19)) (kH l9 []) .undef (kH l21 []) true) (qd3 (E:=encS) (l:=l9) (y:=s19) rfl (show _=some 1 by kernel_rfl) rfl e_x20 rfl rfl rfl rfl rfl e_l21 rfl)) az))) ?_)
       refine Goes.sub (show Sub (ofG 66 (kP s10 sep sepSave (w64 ((if(w64 ((s_.length:Int)+1))<n4 then(w64 ((s_.length:Int)+1))else n4)-1)) l9 (kBc n11 r17)),(kH l21 [])) (ofG 66 (kP s10 sep sepSave (w64 ((if(w64 ((s_.length:Int)+1))<n4 then(w64 ((s_.length:Int)+1))else n4)-1)) l21 (kBc n11 r17)),(kH l21 []))from(Sub.norm [] [some 0] rfl rfl (.keep (.same nS) (.keep (.same nS) (.keep (.same nI) (.keep (.same nI) (.keep (.sliceE rfl (qaY e_l21)) (.keep (.same nI) (.keep (.same nI) .nil))))))) (.ks .nil))) ?_
       obtain⟨s22,e_s22,g15⟩:=bnd g15
       refine sq (gr fol [5] (kP s22 sep sepSave (w64 ((if(w64 ((s_.length:Int)+1))<n4 then(w64 ((s_.length:Int)+1))else n4)-1)) l21 [(10,.i n11)]) (ac (hs (.done (.opt (qG Tryz.prog 9 (.str s10) (some (.i (w64 (r17+(sep.length:Int))))) none none)) (.str s22)) (yR st9 (some (w64 (r17+(sep.length:Int)))) none e_s22)) az) ?_)
       refine gh fol (kP s22 sep sepSave (w64 ((if(w64 ((s_.length:Int)+1))<n4 then(w64 ((s_.length:Int)+1))else n4)-1)) l21 [(10,.i (w64 (n11+1)))]) ?_
       exact⟨M,(ofG 66 (kP s22 sep sepSave (w64 ((if(w64 ((s_.length:Int)+1))<n4 then(w64 ((s_.length:Int)+1))else n4)-1)) l21 [(10,.i (w64 (n11+1)))]),(kH l21 [])),Nat.lt_succ_self _,(Sub.refl _),_,_,_,rfl,g15⟩
     ·refine Goes.exit ?_
      obtain rfl:=si g15
      exact⟨rfl,_,_,_,rfl,(Sub.keep [0,9,10] rfl rfl)⟩
   rintro x s' ⟨rfl,l12,s13,n14,rfl,hsub⟩
   try dsimp only at h
   refine Goes.sub hsub ?_
   obtain⟨x23,e_x23,h⟩:=bnd h
   obtain⟨l24,e_l24,h⟩:=bnd h
   refine sq (gq fol [3,4] (kBj l12 n14) (kH l24 []) (ac (hs (.done (.opt (qE Tryz.prog 23 (.slice 0 0 l12.length l12.length 1) (.i n14))) (.ptr 0 ((n14:Int).toNat*1+0))) (qiW zi e_x23)) (ac (hs (.run [0] (qau Tryz.prog 9 (.ptr 0 ((n14:Int).toNat*1+0)) (.str s13)) (kH l12 []) .undef (kH l24 []) true) (qd3 (E:=encS) (l:=l12) (y:=s13) rfl (show _=some 1 by kernel_rfl) rfl e_x23 rfl rfl rfl rfl rfl e_l24 rfl)) az)) ?_)
   refine Goes.sub (show Sub (ofG 66 (kBj l12 n14),(kH l24 [])) (ofG 66 (kBj l24 n14),(kH l24 []))from(Sub.norm [] [some 0] rfl rfl (.keep (.sliceE rfl (qaY e_l24)) (.keep (.same nI) .nil)) (.ks .nil))) ?_
   refine sq (Goes.sub (s':=(ofG 66 [(9,vl encS l24),(10,.i n14)],[])) (Sub.norm [0] [] rfl rfl (.keep (.frz (Fz.sl (E:=encS) rfl rfl (nl rfl)) (qo encS _)) (.keep (.same nI) .nil)) .nil) ?_)
   obtain⟨s25,e_s25,h⟩:=bnd h
   refine gr fol [3] [(8,vl encS s25)] (ac (hs (.done (.opt (qG Tryz.prog 23 (vl encS l24) none (some (.i (w64 (n14+1)))) none)) (vl encS s25)) (qfb zi (E:=encS) rfl none (some (w64 (n14+1))) e_s25)) az) ?_
   refine Goes.ret ?_
   obtain rfl:=si h
   exact(gw2 [vl encS s25] (FzW.still (qF encS _ (nl rfl))))
def strings_Split (N:Nat) (s_:Str) (sep:Str):Option (List Str):=
 (strings_genSplit N s_ sep 0 (-1)).bind fun r1=>
 some r1
theorem qaC (N:Nat) (s_:Str) (sep:Str) {res:List Str} (h:strings_Split N s_ sep=some res):qg Tryz.prog (.fn 107) [.str s_,.str sep] [] (vl encS res) []:=by
 unfold strings_Split at h
 refine Goes.fnW Tryz.func107 rfl rfl (m:=8) rfl (rs:=[.tmp 4]) rfl (l:=(kT s_ sep [])) rfl ?_
 refine sh fol (kT s_ sep []) ?_
 obtain⟨r1,e_r1,h⟩:=bnd h
 refine sq (gr fol [2] [(4,vl encS r1)] (ac (cv (qe6 N s_ sep 0 (-1) e_r1)) az) ?_)
 refine Goes.ret ?_
 obtain rfl:=si h
 exact(gw2 [vl encS r1] (FzW.still (qF encS _ (nl rfl))))
def ze (s_:List Str) (v:Str):Nat→Int→Option (Unit⊕Int)
 |0,_=>none
 |K+1,n1=>
  if n1<(s_.length:Int)then
  (idx s_ n1).bind fun x5=>
  if(v==x5)=true then
  some (.inr n1)
  else
  ze s_ v K (w64 (n1+1))
  else
  some (.inl ())
def slices_Index_string (N:Nat) (s_:List Str) (v:Str):Option Int:=
 (ze s_ v N 0).bind (fun
 |(.inl ())=>
 some (-1)
 |(.inr q7)=>
 some q7)
theorem qdW (N:Nat) (s_:List Str) (v:Str) {res:Int} (h:slices_Index_string N s_ v=some res):qg Tryz.prog (.fn 164) [vl encS s_,.str v] [] (.i res) []:=by
 unfold slices_Index_string at h
 refine Goes.fnW Tryz.func164 rfl rfl (m:=19) rfl (rs:=[.tmp 4]) rfl (l:=(kBJ s_ v [])) rfl ?_
 refine sh fol (kBJ s_ v []) ?_
 refine sq ?_
 refine sh fol (kBJ s_ v [(7,.i (s_.length:Int)),(8,.i 0)]) ?_
 refine Goes.block ?_
 obtain⟨r2,g2,h⟩:=bnd h
 refine Goes.imp (Q:=fun x s'=>(x= .exit 0∧(.inl ())=r2∧Sub s' (ofG 19 [],[]))∨(x= .ret∧ ∃q3,(.inr q3)=r2∧qW Tryz.prog [.tmp 4] (.i q3) .ret s')) ?_ ?_
 ·refine Goes.loopS (fun M s=> ∃(n1:Int),s=(ofG 19 (kBJ s_ v (kBI (s_.length:Int) n1)),[])∧ze s_ v M n1=some r2) ?_ (m:=N) ⟨_,rfl,g2⟩
  rintro M s ⟨n1,rfl,g2⟩
  cases M with
  |zero=>simp only[ze]at g2;cases g2
  |succ M=>
   rw[ze]at g2
   refine sh fol (kBJ s_ v ((7,.i (s_.length:Int))::(8,.i n1)::(kBt (decide (n1<(s_.length:Int)))))) ?_
   refine sq ?_
   refine ihD g2 (fun c4 g2=>?_) (fun c4 g2=>?_)
   ·refine Goes.skip ?_
    refine sq (Goes.block ?_)
    refine sh fol (kBJ s_ v ((5,.i n1)::(kBI (s_.length:Int) n1))) ?_
    obtain⟨x5,e_x5,g2⟩:=bnd g2
    refine sq (gr fol [3,4] (kBJ s_ v [(5,.i n1),(7,.i (s_.length:Int)),(8,.i n1),(16,.bool (v==x5))]) (ac (iv zi encS e_x5) (ac (lv 0 ce9 encS e_x5 rfl) az)) ?_)
    refine ihB g2 (fun c6 g2=>?_) (fun c6 g2=>?_)
    ·refine sh fol (kAv n1) ?_
     refine Goes.ret ?_
     obtain rfl:=si g2
     exact Or.inr (⟨rfl,_,rfl,(gw2 [.i n1] (FzW.still tI))⟩)
    ·refine Goes.skip ?_
     refine gh fol (kBJ s_ v (kBI (s_.length:Int) (w64 (n1+1)))) ?_
     exact⟨M,(ofG 19 (kBJ s_ v (kBI (s_.length:Int) (w64 (n1+1)))),[]),Nat.lt_succ_self _,(Sub.refl _),_,rfl,g2⟩
   ·refine Goes.exit ?_
    obtain rfl:=si g2
    exact Or.inl (⟨rfl,rfl,(Sub.keep [] rfl rfl)⟩)
 rintro x s' (⟨rfl,rfl,hsub⟩|⟨rfl,q7,rfl,hret⟩)
 ·try dsimp only at h
  refine Goes.sub hsub ?_
  refine sh fol [(4,.i (-1))] ?_
  refine Goes.ret ?_
  obtain rfl:=si h
  exact(gw2 [.i (-1)] (FzW.still tI))
 ·try dsimp only at h
  obtain rfl:=si h
  exact hret
def slices_Contains_string (N:Nat) (s_:List Str) (v:Str):Option Bool:=
 (slices_Index_string N s_ v).bind fun r1=>
 some (decide (r1≥0))
theorem jX (N:Nat) (s_:List Str) (v:Str) {res:Bool} (h:slices_Contains_string N s_ v=some res):qg Tryz.prog (.fn 112) [vl encS s_,.str v] [] (.bool res) []:=by
 unfold slices_Contains_string at h
 refine Goes.fnW Tryz.func112 rfl rfl (m:=9) rfl (rs:=[.tmp 4]) rfl (l:=(kBJ s_ v [])) rfl ?_
 refine sh fol (kBJ s_ v []) ?_
 obtain⟨r1,e_r1,h⟩:=bnd h
 refine sq (gr fol [2] (kAy (decide (r1≥0))) (ac (cv (qdW N s_ v e_r1)) az) ?_)
 refine Goes.ret ?_
 obtain rfl:=si h
 exact(gw2 [.bool (decide (r1≥0))] (FzW.still tB))
def j4:Option (List Str):=
 qhT (some []) ((app 16 ([]:List Str) ([]:List Str)).bind fun l1=>
 some l1)
theorem qdd {res:List Str} (h:j4=some res):qg Tryz.prog (.fn 165) [vl encS ([]:List Str)] [] (vl encS res) []:=by
 unfold j4 at h
 refine Goes.fnW Tryz.func165 rfl rfl (m:=8) rfl (rs:=[.tmp 2]) rfl (l:=[(0,vl encS ([]:List Str))]) rfl ?_
 refine sh fol [(0,vl encS ([]:List Str))] ?_
 refine sq ?_
 refine sh fol [(0,vl encS ([]:List Str)),(4,.anyb)] ?_
 refine Goes.condAny (by kernel_rfl) ?_ ?_
 ·replace h:=(qdH h).1
  refine sh fol [(2,.nilslice)] ?_
  refine Goes.ret ?_
  obtain rfl:=si h
  exact(gw2 [.nilslice] (FzW.nilv (E:=encS)))
 ·replace h:=(qdH h).2
  refine Goes.skip ?_
  obtain⟨l1,e_l1,h⟩:=bnd h
  refine sq (gq fol [2] [(2,.oslice 1 l1.length 1)] (.dead::(kH l1 [])) (ac (hs (.run [0] (qz Tryz.prog [23,23] (.slice 0 0 0 0 1) (vl encS ([]:List Str))) [.cells []] (.oslice 1 l1.length 1) (.dead::(kH l1 [])) true) (ko zi (E:=encS) rfl (qd5 (E:=encS) rfl _) (qf0 (E:=encS) rfl rfl rfl e_l1 rfl))) az) ?_)
  refine Goes.ret ?_
  obtain rfl:=si h
  exact(gw2 [.oslice 1 l1.length 1] (FzW.fz (Fz.os (E:=encS) rfl rfl (nl rfl))))
def jr (x:Str) (xs:List Str):Option (List Str):=
 (app 16 ([]:List Str) (x::xs)).bind fun l1=>
 some l1
theorem qdb (x:Str) (xs:List Str) {res:List Str} (h:jr x xs=some res):qg Tryz.prog (.fn 165) [vl encS (x::xs)] [] (vl encS res) []:=by
 unfold jr at h
 refine Goes.fnW Tryz.func165 rfl rfl (m:=8) rfl (rs:=[.tmp 2]) rfl (l:=[(0,vl encS (x::xs))]) rfl ?_
 refine sh fol [(0,vl encS (x::xs))] ?_
 refine sq ?_
 refine sh fol ((0,vl encS (x::xs))::kAN) ?_
 refine Goes.ifB (b:=false) (by kernel_rfl) (fun c=>(by cases c)) (fun _=>?_)
 refine Goes.skip ?_
 obtain⟨l1,e_l1,h⟩:=bnd h
 refine sq (gq fol [2] [(2,.oslice 1 l1.length 1)] (.dead::(kH l1 [])) (ac (hs (.run [0] (qz Tryz.prog [23,23] (.slice 0 0 0 0 1) (vl encS (x::xs))) [.cells []] (.oslice 1 l1.length 1) (.dead::(kH l1 [])) true) (ko zi (E:=encS) rfl (qd5 (E:=encS) rfl _) (qf0 (E:=encS) rfl rfl rfl e_l1 rfl))) az) ?_)
 refine Goes.ret ?_
 obtain rfl:=si h
 exact(gw2 [.oslice 1 l1.length 1] (FzW.fz (Fz.os (E:=encS) rfl rfl (nl rfl))))
def slices_Clone_string:List Str→Option (List Str)
 |[]=>j4
 |x::xs=>jr x xs
theorem qba (l:List Str) {res:List Str} (h:slices_Clone_string l=some res):qg Tryz.prog (.fn 165) [vl encS l] [] (vl encS res) []:=by
 cases l with
 |nil=>exact qdd h
 |cons x xs=>exact qdb x xs h
def yK (s_:Str):Option (Int×Bool):=
 (if(s_.length:Int)>9 then
 some true
 else
 (yU s_).bind fun r2=>
 if(!r2)=true then
 some true
 else
 (idx s_ 0).bind fun c4=>
 if(c4.toNat:Int)=48 then
 some (!(s_==[48]))
 else
 some false:Option Bool).bind fun b6=>
 if b6=true then
 some (0,false)
 else
 (qkR s_).bind fun r9=>
 some (r9.1,true)
theorem qbi (s_:Str) {res:Int×Bool} (h:yK s_=some res):qg Tryz.prog (.fn 172) [.str s_] [] (.tuple [.i res.1,.bool res.2]) []:=by
 unfold yK at h
 refine Goes.fnW Tryz.func172 rfl rfl (m:=31) rfl (rs:=[.tmp 2,.tmp 3]) rfl (l:=(kAJ s_ [])) rfl ?_
 refine sh fol (kAJ s_ []) ?_
 refine sq ?_
 refine sq ?_
 obtain⟨b6,g_v7,h⟩:=bnd h
 refine Goes.cut (s':=(ofG 31 (kAJ s_ [(22,.bool b6)]),[])) ?_ ?_
 ·rcases wyD g_v7 with⟨c1,g_v7⟩|⟨c1,g_v7⟩
  ·obtain rfl:=si g_v7
   exact tr fol [3] (kAJ s_ [(22,.bool true)]) (ac (gw c1) az)
  ·obtain⟨r2,e_r2,g_v7⟩:=bnd g_v7
   rcases wyB g_v7 with⟨c3,g_v7⟩|⟨c3,g_v7⟩
   ·obtain rfl:=si g_v7
    exact tr fol [3,5,8] (kAJ s_ [(22,.bool true)]) (ac (gw c1) (ac (cv (xS s_ e_r2)) (ac (gw c3) az)))
   ·obtain⟨c4,e_c4,g_v7⟩:=bnd g_v7
    rcases wyD g_v7 with⟨c5,g_v7⟩|⟨c5,g_v7⟩
    ·obtain rfl:=si g_v7
     exact tr fol [3,5,8,10,12] (kAJ s_ [(22,.bool (!(s_==[48])))]) (ac (gw c1) (ac (cv (xS s_ e_r2)) (ac (gw c3) (ac (hs (.done (.opt (vQ Tryz.prog 9 (.str s_) (.i 0))) (.int .u8 (c4.toNat:Int))) (xz st9 e_c4)) (ac (gw c5) az)))))
    ·obtain rfl:=si g_v7
     exact tr fol [3,5,8,10,12] (kAJ s_ [(22,.bool false)]) (ac (gw c1) (ac (cv (xS s_ e_r2)) (ac (gw c3) (ac (hs (.done (.opt (vQ Tryz.prog 9 (.str s_) (.i 0))) (.int .u8 (c4.toNat:Int))) (xz st9 e_c4)) (ac (gw c5) az)))))
 refine ihB h (fun c8 h=>?_) (fun c8 h=>?_)
 ·refine sh fol ((2,.i 0)::kBP) ?_
  refine Goes.ret ?_
  obtain rfl:=si h
  exact(gw2 (.i 0::kBM) (FzW.tuple (qh.cons (FzW.still tI) (qh.cons (FzW.still tB) qh.nil))))
 ·refine Goes.skip ?_
  obtain⟨r9,e_r9,h⟩:=bnd h
  refine sq (gr fol [1] [(4,.i r9.1),(5,.niliface)] (ac (cv (qns s_ e_r9)) az) ?_)
  refine sh fol [(2,.i r9.1),(3,.bool true)] ?_
  refine Goes.ret ?_
  obtain rfl:=si h
  exact(gw2 (.i r9.1::kAp) (FzW.tuple (qh.cons (FzW.still tI) (qh.cons (FzW.still tB) qh.nil))))
def zW (s23:List Str):Nat→(List Int)→Int→Option ((List Int)⊕(qb×Bool))
 |0,_,_=>none
 |K+1,l24,n25=>
  if n25<(s23.length:Int)then
  (idx s23 n25).bind fun x30=>
  (yK x30).bind fun r31=>
  if(!r31.2)=true then
  some (.inr ((⟨0,[],[],[],[]⟩:qb),false))
  else
  (app 8 l24 [r31.1]).bind fun l33=>
  zW s23 K l33 (w64 (n25+1))
  else
  some (.inl l24)
def yS (N:Nat) (s_:Str):Option (qb×Bool):=
 (strings_Split N s_ [32]).bind fun r1=>
 ((zl).bind fun r2=>
 (idx r1 0).bind fun x3=>
 if(x3==[109,97,107,101])=true then
 some (2,3,true)
 else
 if(x3==[116,101,115,116])=true then
 some (1,2,true)
 else
 if(x3==[117,115,101])=true then
 some (1,2,true)
 else
 if(x3==[102,97,105,108])=true then
 some (1,1,true)
 else
 if(x3==[114,101,99,97,108,108])=true then
 some (1,1,true)
 else
 if(x3==[117,110,100,111])=true then
 some (0,0,true)
 else
 some (0,0,false):Option (Int×Int×Bool)).bind fun(n10,n11,b12)=>
 (if(!b12)=true then
 some true
 else
 if(!decide ((r1.length:Int)=(w64 ((w64 (1+n10))+n11))))=true then
 some true
 else
 (slices_Contains_string N r1 []).bind fun r16=>
 some r16:Option Bool).bind fun b17=>
 if b17=true then
 some ((⟨0,[],[],[],[]⟩:qb),false)
 else
 (idx r1 0).bind fun x20=>
 (cut r1 1 (w64 (1+n10))).bind fun s21=>
 (slices_Clone_string s21).bind fun r22=>
 (cut r1 (w64 (1+n10)) (r1.length:Int)).bind fun s23=>
 (zW s23 N ([]:List Int) 0).bind (fun
 |(.inl l26)=>
 some ((⟨0,x20,r22,l26,[]⟩:qb),true)
 |(.inr q34)=>
 some q34)
theorem qcy (N:Nat) (s_:Str) {res:qb×Bool} (h:yS N s_=some res):qg Tryz.prog (.fn 127) [.str s_] [] (.tuple [.agg (cE res.1),.bool res.2]) []:=by
 unfold yS at h
 refine Goes.fnW Tryz.func127 rfl rfl (m:=76) rfl (rs:=[.cell 2 26,.tmp 3]) rfl (l:=(kAJ s_ [])) rfl ?_
 refine sg fol (kAJ s_ (kK [])) (kG []) ?_
 obtain⟨r1,e_r1,h⟩:=bnd h
 refine sq (gr fol [1] (kK [(4,vl encS r1)]) (ac (cv (qaC N s_ [32] e_r1)) az) ?_)
 refine sq ?_
 obtain⟨⟨n10,n11,b12⟩,g_v13,h⟩:=bnd h
 refine Goes.cutS (s':=(ofG 76 (kK (kAn r1 [(6,.bool b12)])),(kG (kB4 n10 n11 [])))) ?_ ?_
 ·obtain⟨r2,e_r2,g_v13⟩:=bnd g_v13
  obtain⟨x3,e_x3,g_v13⟩:=bnd g_v13
  rcases wyB g_v13 with⟨c4,g_v13⟩|⟨c4,g_v13⟩
  ·simp only[Option.some.injEq,Prod.mk.injEq]at g_v13
   obtain⟨rfl,rfl,rfl⟩:=g_v13
   exact ql.sub (ql.rq fol [0,2,3,4] (kK (kAn r1 kBh)) (kG [.cells [.i 2,.i 3,.func (.func 141) [] []]]) (ac (cv (qp e_r2)) (ac (iv zi encS e_x3) (ac (lv 0 ce9 encS e_x3 rfl) (ac (hs (.done (qL Tryz.prog 154 (fm1) (.str x3) true) (.tuple (.agg [.i 2,.i 3,.func (.func 141) [] []]::kAp))) (xh xJ [[109,97,107,101],[116,101,115,116],[117,115,101],[102,97,105,108],[114,101,99,97,108,108],[117,110,100,111]] (kw c4) rfl)) az))))) (Sub.norm [] [some 0,some 1] rfl rfl (.kp (.keep (.same (qo encS _)) (.kp (.keep (.same nB) .nil)))) (.kb rfl (.same sn) (.kb rfl (.cells (rc (.same nI) (rc (.same nI) (rc (.undef) rn)))) .nil)))
  ·rcases wyB g_v13 with⟨c5,g_v13⟩|⟨c5,g_v13⟩
   ·simp only[Option.some.injEq,Prod.mk.injEq]at g_v13
    obtain⟨rfl,rfl,rfl⟩:=g_v13
    exact ql.sub (ql.rq fol [0,2,3,4] (kK (kAn r1 kBh)) (kG [.cells [.i 1,.i 2,.func (.func 142) [] []]]) (ac (cv (qp e_r2)) (ac (iv zi encS e_x3) (ac (lv 0 ce9 encS e_x3 rfl) (ac (hs (.done (qL Tryz.prog 154 (fm1) (.str x3) true) (.tuple (.agg [.i 1,.i 2,.func (.func 142) [] []]::kAp))) (xh xJ [[109,97,107,101],[116,101,115,116],[117,115,101],[102,97,105,108],[114,101,99,97,108,108],[117,110,100,111]] (qj c4 (kw c5)) rfl)) az))))) (Sub.norm [] [some 0,some 1] rfl rfl (.kp (.keep (.same (qo encS _)) (.kp (.keep (.same nB) .nil)))) (.kb rfl (.same sn) (.kb rfl (.cells (rc (.same nI) (rc (.same nI) (rc (.undef) rn)))) .nil)))
   ·rcases wyB g_v13 with⟨c6,g_v13⟩|⟨c6,g_v13⟩
    ·simp only[Option.some.injEq,Prod.mk.injEq]at g_v13
     obtain⟨rfl,rfl,rfl⟩:=g_v13
     exact ql.sub (ql.rq fol [0,2,3,4] (kK (kAn r1 kBh)) (kG [.cells [.i 1,.i 2,.func (.func 143) [] []]]) (ac (cv (qp e_r2)) (ac (iv zi encS e_x3) (ac (lv 0 ce9 encS e_x3 rfl) (ac (hs (.done (qL Tryz.prog 154 (fm1) (.str x3) true) (.tuple (.agg [.i 1,.i 2,.func (.func 143) [] []]::kAp))) (xh xJ [[109,97,107,101],[116,101,115,116],[117,115,101],[102,97,105,108],[114,101,99,97,108,108],[117,110,100,111]] (qj c4 (qj c5 (kw c6))) rfl)) az))))) (Sub.norm [] [some 0,some 1] rfl rfl (.kp (.keep (.same (qo encS _)) (.kp (.keep (.same nB) .nil)))) (.kb rfl (.same sn) (.kb rfl (.cells (rc (.same nI) (rc (.same nI) (rc (.undef) rn)))) .nil)))
    ·rcases wyB g_v13 with⟨c7,g_v13⟩|⟨c7,g_v13⟩
     ·simp only[Option.some.injEq,Prod.mk.injEq]at g_v13
      obtain⟨rfl,rfl,rfl⟩:=g_v13
      exact ql.sub (ql.rq fol [0,2,3,4] (kK (kAn r1 kBh)) (kG [.cells [.i 1,.i 1,.func (.func 144) [] []]]) (ac (cv (qp e_r2)) (ac (iv zi encS e_x3) (ac (lv 0 ce9 encS e_x3 rfl) (ac (hs (.done (qL Tryz.prog 154 (fm1) (.str x3) true) (.tuple (.agg [.i 1,.i 1,.func (.func 144) [] []]::kAp))) (xh xJ [[109,97,107,101],[116,101,115,116],[117,115,101],[102,97,105,108],[114,101,99,97,108,108],[117,110,100,111]] (qj c4 (qj c5 (qj c6 (kw c7)))) rfl)) az))))) (Sub.norm [] [some 0,some 1] rfl rfl (.kp (.keep (.same (qo encS _)) (.kp (.keep (.same nB) .nil)))) (.kb rfl (.same sn) (.kb rfl (.cells (rc (.same nI) (rc (.same nI) (rc (.undef) rn)))) .nil)))
     ·rcases wyB g_v13 with⟨c8,g_v13⟩|⟨c8,g_v13⟩
      ·simp only[Option.some.injEq,Prod.mk.injEq]at g_v13
       obtain⟨rfl,rfl,rfl⟩:=g_v13
       exact ql.sub (ql.rq fol [0,2,3,4] (kK (kAn r1 kBh)) (kG [.cells [.i 1,.i 1,.func (.func 145) [] []]]) (ac (cv (qp e_r2)) (ac (iv zi encS e_x3) (ac (lv 0 ce9 encS e_x3 rfl) (ac (hs (.done (qL Tryz.prog 154 (fm1) (.str x3) true) (.tuple (.agg [.i 1,.i 1,.func (.func 145) [] []]::kAp))) (xh xJ [[109,97,107,101],[116,101,115,116],[117,115,101],[102,97,105,108],[114,101,99,97,108,108],[117,110,100,111]] (qj c4 (qj c5 (qj c6 (qj c7 (kw c8))))) rfl)) az))))) (Sub.norm [] [some 0,some 1] rfl rfl (.kp (.keep (.same (qo encS _)) (.kp (.keep (.same nB) .nil)))) (.kb rfl (.same sn) (.kb rfl (.cells (rc (.same nI) (rc (.same nI) (rc (.undef) rn)))) .nil)))
      ·rcases wyB g_v13 with⟨c9,g_v13⟩|⟨c9,g_v13⟩
       ·simp only[Option.some.injEq,Prod.mk.injEq]at g_v13
        obtain⟨rfl,rfl,rfl⟩:=g_v13
        exact ql.sub (ql.rq fol [0,2,3,4] (kK (kAn r1 kBh)) (kG kBE) (ac (cv (qp e_r2)) (ac (iv zi encS e_x3) (ac (lv 0 ce9 encS e_x3 rfl) (ac (hs (.done (qL Tryz.prog 154 (fm1) (.str x3) true) (.tuple (kBD kAp))) (xh xJ [[109,97,107,101],[116,101,115,116],[117,115,101],[102,97,105,108],[114,101,99,97,108,108],[117,110,100,111]] (qj c4 (qj c5 (qj c6 (qj c7 (qj c8 (kw c9)))))) rfl)) az))))) (Sub.norm [] [some 0,some 1] rfl rfl (.kp (.keep (.same (qo encS _)) (.kp (.keep (.same nB) .nil)))) (.kb rfl (.same sn) (.kb rfl (.cells (rc (.same nI) (rc (.same nI) (rc (.undef) rn)))) .nil)))
       ·simp only[Option.some.injEq,Prod.mk.injEq]at g_v13
        obtain⟨rfl,rfl,rfl⟩:=g_v13
        exact ql.sub (ql.rq fol [0,2,3,4] (kK (kAn r1 [(6,.bool false)])) (kG kBE) (ac (cv (qp e_r2)) (ac (iv zi encS e_x3) (ac (lv 0 ce9 encS e_x3 rfl) (ac (hs (.done (qL Tryz.prog 154 (fm1) (.str x3) true) (.tuple (kBD kBM))) (qhr xJ [[109,97,107,101],[116,101,115,116],[117,115,101],[102,97,105,108],[114,101,99,97,108,108],[117,110,100,111]] (qj c4 (qj c5 (qj c6 (qj c7 (qj c8 (qj c9 (rfl))))))))) az))))) (Sub.norm [] [some 0,some 1] rfl rfl (.kp (.keep (.same (qo encS _)) (.kp (.keep (.same nB) .nil)))) (.kb rfl (.same sn) (.kb rfl (.cells (rc (.same nI) (rc (.same nI) (rc (.undef) rn)))) .nil)))
 intro _ hsub
 try dsimp only at h
 refine Goes.sub hsub ?_
 refine sq ?_
 refine sq ?_
 obtain⟨b17,g_v18,h⟩:=bnd h
 refine Goes.cutS (s':=(ofG 76 (kK (kAn r1 [(38,.bool b17)])),(kG (kB4 n10 n11 [])))) ?_ ?_
 ·rcases wyB g_v18 with⟨c14,g_v18⟩|⟨c14,g_v18⟩
  ·obtain rfl:=si g_v18
   exact ql.sub (tr fol [2] (kK (kAn r1 [(38,.bool true)])) (ac (gw c14) az)) (Sub.refl _)
  ·rcases wyB g_v18 with⟨c15,g_v18⟩|⟨c15,g_v18⟩
   ·obtain rfl:=si g_v18
    exact ql.sub (tr fol [2,13] (kK (kAn r1 [(38,.bool true)])) (ac (gw c14) (ac (gw c15) az))) (Sub.refl _)
   ·obtain⟨r16,e_r16,g_v18⟩:=bnd g_v18
    obtain rfl:=si g_v18
    exact ql.sub (tr fol [2,13,15] (kK (kAn r1 [(38,.bool r16)])) (ac (gw c14) (ac (gw c15) (ac (cv (jX N r1 [] e_r16)) az)))) (Sub.refl _)
 intro _ hsub
 refine Goes.sub hsub ?_
 refine ihB h (fun c19 h=>?_) (fun c19 h=>?_)
 ·refine sh fol (kK kBP) ?_
  refine Goes.ret ?_
  obtain rfl:=si h
  exact(gw2 (kAA kBM) (FzW.tuple (qh.cons (FzW.agg (qh.cons (FzW.still tI) (qh.cons (FzW.still tS) (qh.cons (FzW.nilv (E:=encS)) (qh.cons (FzW.nilv (E:=encI)) (qh.cons (FzW.still tS) qh.nil)))))) (qh.cons (FzW.still tB) qh.nil))))
 ·refine Goes.skip ?_
  obtain⟨x20,e_x20,h⟩:=bnd h
  obtain⟨s21,e_s21,h⟩:=bnd h
  obtain⟨r22,e_r22,h⟩:=bnd h
  refine sq (gq fol [1,2,7,8] (kK (kAn r1 [(7,.ptr 2 0)])) (kG (kB4 n10 n11 [.cells [.i 0,.str x20,vl encS r22,.nilslice,.str []]])) (ac (iv zi encS e_x20) (ac (lv 0 ce9 encS e_x20 rfl) (ac (hs (.done (.opt (qG Tryz.prog 23 (vl encS r1) (some (.i 1)) (some (.i (w64 (1+n10)))) none)) (vl encS s21)) (qfb zi (E:=encS) rfl (some 1) (some (w64 (1+n10))) e_s21)) (ac (cv (qba s21 e_r22)) az)))) ?_)
  refine sq ?_
  obtain⟨s23,e_s23,h⟩:=bnd h
  refine sq (gr fol [4] (kK [(7,.ptr 2 0),(54,vl encS s23),(55,.i (s23.length:Int)),(56,.i 0)]) (ac (hs (.done (.opt (qG Tryz.prog 23 (vl encS r1) (some (.i (w64 (1+n10)))) none none)) (vl encS s23)) (qfb zi (E:=encS) rfl (some (w64 (1+n10))) none e_s23)) az) ?_)
  refine Goes.block ?_
  obtain⟨r27,g27,h⟩:=bnd h
  refine Goes.imp (Q:=fun x s'=>(x= .exit 0∧ ∃l26,(.inl l26)=r27∧Sub s' (ofG 76 (kK [(7,.ptr 1 0)]),(kG (kAc x20 r22 l26 (kAF l26)))))∨(x= .ret∧ ∃q28,(.inr q28)=r27∧qW Tryz.prog [.cell 2 26,.tmp 3] (.tuple [.agg (cE q28.1),.bool q28.2]) .ret s')) ?_ ?_
  ·refine Goes.sub (s':=(ofG 76 (kK [(7,.ptr 1 0),(54,vl encS s23),(55,.i (s23.length:Int)),(56,.i 0)]),(kG (.cells [.i 0,.str x20,vl encS r22,.gslice 2 ([]:List Int).length 1,.str []]::kB7)))) (Sub.norm [] [some 0,some 2,none] rfl rfl (.kp (.kp (.keep (.same (qo encS _)) (.keep (.same nI) (.keep (.same nI) .nil))))) (.kb rfl (.same sn) (.kb rfl (.cells (rc (.same nI) (rc (.same nS) (rc (.same (qo encS _)) (rc (.nil) (rc (.same nS) rn)))))) (.fresh .nil)))) ?_
   refine Goes.loopS (fun M s=> ∃(l24:List Int) (n25:Int),s=(ofG 76 (kK ((7,.ptr 1 0)::(kBF s23 (s23.length:Int) n25 []))),(kG (kAc x20 r22 l24 (kAF l24))))∧zW s23 M l24 n25=some r27) ?_ (m:=N) ⟨_,_,rfl,g27⟩
   rintro M s ⟨l24,n25,rfl,g27⟩
   cases M with
   |zero=>simp only[zW]at g27;cases g27
   |succ M=>
    rw[zW]at g27
    refine sh fol (kK ((7,.ptr 1 0)::(kBF s23 (s23.length:Int) n25 [(57,.bool (decide (n25<(s23.length:Int))))]))) ?_
    refine sq ?_
    refine ihD g27 (fun c29 g27=>?_) (fun c29 g27=>?_)
    ·refine Goes.skip ?_
     refine sq (Goes.block ?_)
     obtain⟨x30,e_x30,g27⟩:=bnd g27
     refine sq (gr fol [0,1] (kK ((7,.ptr 1 0)::(9,.str x30)::(kBF s23 (s23.length:Int) n25 []))) (ac (iv zi encS e_x30) (ac (lv 0 ce9 encS e_x30 rfl) az)) ?_)
     obtain⟨r31,e_r31,g27⟩:=bnd g27
     refine sq (gr fol [1] (kK ((7,.ptr 1 0)::(10,.i r31.1)::(11,.bool r31.2)::(kBF s23 (s23.length:Int) n25 []))) (ac (cv (qbi x30 e_r31)) az) ?_)
     refine sq ?_
     refine sh fol (kK ((7,.ptr 1 0)::(10,.i r31.1)::(kBF s23 (s23.length:Int) n25 [(66,.bool (!r31.2))]))) ?_
     refine ihB g27 (fun c32 g27=>?_) (fun c32 g27=>?_)
     ·refine sh fol (kK kBP) ?_
      refine Goes.ret ?_
      obtain rfl:=si g27
      exact Or.inr (⟨rfl,_,rfl,(gw2 (kAA kBM) (FzW.tuple (qh.cons (FzW.agg (qh.cons (FzW.still tI) (qh.cons (FzW.still tS) (qh.cons (FzW.nilv (E:=encS)) (qh.cons (FzW.nilv (E:=encI)) (qh.cons (FzW.still tS) qh.nil)))))) (qh.cons (FzW.still tB) qh.nil))))⟩)
     ·refine Goes.skip ?_
      obtain⟨l33,e_l33,g27⟩:=bnd g27
      refine gq fol [4] (kK ((7,.ptr 1 0)::(kBF s23 (s23.length:Int) n25 []))) (kG (.cells [.i 0,.str x20,vl encS r22,.gslice 4 l33.length 1,.str []]:: .dead::(kAH r31.1 (kAF l33)))) (ac (hs (.run [2,3] (qz Tryz.prog [24,24] (.gslice 2 l24.length 1) (.slice 3 0 1 1 1)) (kG (kAc x20 r22 l24 (.cells (l24.flatMap encI.c)::(kAH r31.1 [])))) (.gslice 4 l33.length 1) (kG (kAc x20 r22 l24 (.dead::(kAH r31.1 (kAF l33))))) true) (ko xI (E:=encI) rfl (xm (E:=encI) (ys:=[r31.1]) rfl rfl rfl rfl) (qcF (E:=encI) (l:=l24) rfl rfl rfl e_l33 rfl))) az) ?_
      refine gh fol (kK ((7,.ptr 1 0)::(kBF s23 (s23.length:Int) (w64 (n25+1)) []))) ?_
      exact⟨M,(ofG 76 (kK ((7,.ptr 1 0)::(kBF s23 (s23.length:Int) (w64 (n25+1)) []))),(kG (kAc x20 r22 l33 (kAF l33)))),Nat.lt_succ_self _,(Sub.norm [] [some 0,some 1,some 4] rfl rfl (.kp (.kp (.keep (.same (qo encS _)) (.keep (.same nI) (.keep (.same nI) .nil))))) (.kb rfl (.same sn) (.kb rfl (.cells (rc (.same nI) (rc (.same nS) (rc (.same (qo encS _)) (rc (.gslice rfl) (rc (.same nS) rn)))))) (.ks .nil)))),_,_,rfl,g27⟩
    ·refine Goes.exit ?_
     obtain rfl:=si g27
     exact Or.inl (⟨rfl,_,rfl,(Sub.keep [2,7] rfl rfl)⟩)
  rintro x s' (⟨rfl,l26,rfl,hsub⟩|⟨rfl,q34,rfl,hret⟩)
  ·try dsimp only at h
   refine Goes.sub hsub ?_
   refine sg fol (kK [(3,.bool true)]) (kAc x20 r22 l26 (kAc x20 r22 l26 (kAF l26))) ?_
   refine Goes.ret ?_
   obtain rfl:=si h
   exact(gw2 (.agg [.i 0,.str x20,vl encS r22,.gslice 2 l26.length 1,.str []]::kAp) (FzW.tuple (qh.cons (FzW.agg (qh.cons (FzW.still tI) (qh.cons (FzW.still tS) (qh.cons (FzW.still (qF encS _ (nl rfl))) (qh.cons (FzW.fz (Fz.gs (E:=encI) rfl rfl (nl rfl))) (qh.cons (FzW.still tS) qh.nil)))))) (qh.cons (FzW.still tB) qh.nil))))
  ·try dsimp only at h
   obtain rfl:=si h
   exact hret
def stringslite_Cut (s_:Str) (sep:Str):Option (Str×Str×Bool):=
 (stringslite_Index s_ sep).bind fun r1=>
 if r1≥0 then
 (cut s_ 0 r1).bind fun s3=>
 (cut s_ (w64 (r1+(sep.length:Int))) (s_.length:Int)).bind fun s4=>
 some (s3,s4,true)
 else
 some (s_,[],false)
theorem qfw (s_:Str) (sep:Str) {res:Str×Str×Bool} (h:stringslite_Cut s_ sep=some res):qg Tryz.prog (.fn 228) [.str s_,.str sep] [] (.tuple [.str res.1,.str res.2.1,.bool res.2.2]) []:=by
 unfold stringslite_Cut at h
 refine Goes.fnW Tryz.func228 rfl rfl (m:=23) rfl (rs:=[.tmp 4,.tmp 5,.tmp 6]) rfl (l:=(kT s_ sep [])) rfl ?_
 refine sh fol (kT s_ sep []) ?_
 refine sq ?_
 obtain⟨r1,e_r1,h⟩:=bnd h
 refine sq (gr fol [2] (kT s_ sep [(7,.i r1)]) (ac (cv (qbJ s_ sep e_r1)) az) ?_)
 refine sh fol (kT s_ sep [(7,.i r1),(12,.bool (decide (r1≥0)))]) ?_
 refine ihD h (fun c2 h=>?_) (fun c2 h=>?_)
 ·obtain⟨s3,e_s3,h⟩:=bnd h
  obtain⟨s4,e_s4,h⟩:=bnd h
  refine sq (gr fol [2,8] ((4,.str s3)::(5,.str s4)::kBh) (ac (hs (.done (.opt (qG Tryz.prog 9 (.str s_) none (some (.i r1)) none)) (.str s3)) (yR st9 none (some r1) e_s3)) (ac (hs (.done (.opt (qG Tryz.prog 9 (.str s_) (some (.i (w64 (r1+(sep.length:Int))))) none none)) (.str s4)) (yR st9 (some (w64 (r1+(sep.length:Int)))) none e_s4)) az)) ?_)
  refine Goes.ret ?_
  obtain rfl:=si h
  exact(gw2 (.str s3:: .str s4::kAp) (FzW.tuple (qh.cons (FzW.still tS) (qh.cons (FzW.still tS) (qh.cons (FzW.still tB) qh.nil)))))
 ·refine Goes.skip ?_
  refine sh fol [(4,.str s_),(5,.str []),(6,.bool false)] ?_
  refine Goes.ret ?_
  obtain rfl:=si h
  exact(gw2 (.str s_:: .str []::kBM) (FzW.tuple (qh.cons (FzW.still tS) (qh.cons (FzW.still tS) (qh.cons (FzW.still tB) qh.nil)))))
def strings_Cut (s_:Str) (sep:Str):Option (Str×Str×Bool):=
 (stringslite_Cut s_ sep).bind fun r1=>
 some (r1.1,r1.2.1,r1.2.2)
theorem qhC (s_:Str) (sep:Str) {res:Str×Str×Bool} (h:strings_Cut s_ sep=some res):qg Tryz.prog (.fn 190) [.str s_,.str sep] [] (.tuple [.str res.1,.str res.2.1,.bool res.2.2]) []:=by
 unfold strings_Cut at h
 refine Goes.fnW Tryz.func190 rfl rfl (m:=13) rfl (rs:=[.tmp 4,.tmp 5,.tmp 6]) rfl (l:=(kT s_ sep [])) rfl ?_
 refine sh fol (kT s_ sep []) ?_
 obtain⟨r1,e_r1,h⟩:=bnd h
 refine sq (gr fol [2] [(4,.str r1.1),(5,.str r1.2.1),(6,.bool r1.2.2)] (ac (cv (qfw s_ sep e_r1)) az) ?_)
 refine Goes.ret ?_
 obtain rfl:=si h
 exact(gw2 [.str r1.1,.str r1.2.1,.bool r1.2.2] (FzW.tuple (qh.cons (FzW.still tS) (qh.cons (FzW.still tS) (qh.cons (FzW.still tB) qh.nil)))))
end Go.Av
