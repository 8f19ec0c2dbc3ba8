/-
  Walks of functions: what each computes, as a plain function.
-/
import Derived.Test.YtphbhegcojmijaaGreatDoorQGenC3
noncomputable section
namespace Go.Av
open Go.Proofs Go.RowKit
set_option linter.unusedSectionVars false
set_option linter.unusedVariables false
set_option linter.unusedSimpArgs false
set_option maxRecDepth 100000
def zh (N:Nat) (a:List qb) (b:List qb):Nat→Int→Option (Unit⊕Bool)
 |0,_=>none
 |K+1,n2=>
  if n2<(a.length:Int)then
  ((idx a n2).bind fun x6=>
  (idx b n2).bind fun x7=>
  if(!decide (x6.Number=x7.Number))=true then
  some true
  else
  if(!(x6.Kind==x7.Kind))=true then
  some true
  else
  (vY N x6.Names x7.Names).bind fun r10=>
  if(!r10)=true then
  some true
  else
  (xk N x6.Values x7.Values).bind fun r12=>
  if(!r12)=true then
  some true
  else
  some (!(x6.Text==x7.Text)):Option Bool).bind fun b14=>
  if b14=true then
  some (.inr false)
  else
  zh N a b K (w64 (n2+1))
  else
  some (.inl ())
def vM (N:Nat) (a:List qb) (b:List qb):Option Bool:=
 if(!decide ((a.length:Int)=(b.length:Int)))=true then
 some false
 else
 (zh N a b N 0).bind (fun
 |(.inl ())=>
 some true
 |(.inr q17)=>
 some q17)
theorem qa7 (N:Nat) (a:List qb) (b:List qb) {res:Bool} (h:vM N a b=some res):qf Tryz.prog (.fn 12) [vl qa a,vl qa b] [] (.bool res) []:=by
 unfold vM at h
 refine Goes.fnW Tryz.func12 rfl rfl (m:=82) rfl (rs:=[.tmp 4]) rfl (l:=(kH a (kBG b []))) rfl ?_
 refine sh fol (kH a (kBG b [])) ?_
 refine sq ?_
 refine sh fol (kH a (kBG b (kBI (!decide ((a.length:Int)=(b.length:Int)))))) ?_
 refine ihB h (fun c1 h=>?_) (fun c1 h=>?_)
 ·refine sh fol kAf ?_
  refine Goes.ret ?_
  obtain rfl:=si h
  exact(gw2 [.bool false] (FzW.still tB))
 ·refine Goes.skip ?_
  refine sq ?_
  refine sh fol (kH a (kBG b kBe)) ?_
  refine Goes.block ?_
  obtain⟨r3,g3,h⟩:=bnd h
  refine Goes.imp (Q:=fun x s'=>(x= .exit 0∧(.inl ())=r3∧Sub s' (ofG 82 [],[]))∨(x= .ret∧ ∃q4,(.inr q4)=r3∧zy Tryz.prog [.tmp 4] (.bool q4) .ret s')) ?_ ?_
  ·refine Goes.loopS (fun M s=> ∃(n2:Int),s=(ofG 82 (kH a (kBG b (kAn n2))),[])∧zh N a b M n2=some r3) ?_ (m:=N) ⟨_,rfl,g3⟩
   rintro M s ⟨n2,rfl,g3⟩
   cases M with
   |zero=>simp only[zh]at g3;cases g3
   |succ M=>
    rw[zh]at g3
    refine sq ?_
    refine sh fol (kH a (kBG b [(5,.i n2),(14,.bool (decide (n2<(a.length:Int))))])) ?_
    refine ihD g3 (fun c5 g3=>?_) (fun c5 g3=>?_)
    ·refine Goes.skip ?_
     refine sq (Goes.block ?_)
     refine sq ?_
     obtain⟨b14,g_v15,g3⟩:=bnd g3
     refine Goes.cut (s':=(ofG 82 (kH a (kBG b [(5,.i n2),(81,.bool b14)])),[])) ?_ ?_
     ·obtain⟨x6,e_x6,g_v15⟩:=bnd g_v15
      obtain⟨x7,e_x7,g_v15⟩:=bnd g_v15
      rcases wyB g_v15 with⟨c8,g_v15⟩|⟨c8,g_v15⟩
      ·obtain rfl:=si g_v15
       exact tr fol [2,4,7,9,11] (kH a (kBG b [(5,.i n2),(81,.bool true)])) (ac (iv zV qa e_x6) (ac (lv 0 ce3 qa e_x6 rfl) (ac (iv zV qa e_x7) (ac (lv 0 ce3 qa e_x7 rfl) (ac (gw c8) az)))))
      ·rcases wyB g_v15 with⟨c9,g_v15⟩|⟨c9,g_v15⟩
       ·obtain rfl:=si g_v15
        exact tr fol [2,4,7,9,11,14,16,19,21,24] (kH a (kBG b [(5,.i n2),(81,.bool true)])) (ac (iv zV qa e_x6) (ac (lv 0 ce3 qa e_x6 rfl) (ac (iv zV qa e_x7) (ac (lv 0 ce3 qa e_x7 rfl) (ac (gw c8) (ac (iv zV qa e_x6) (ac (lv 1 ce9 qa e_x6 rfl) (ac (iv zV qa e_x7) (ac (lv 1 ce9 qa e_x7 rfl) (ac (gw c9) az))))))))))
       ·obtain⟨r10,e_r10,g_v15⟩:=bnd g_v15
        rcases wyB g_v15 with⟨c11,g_v15⟩|⟨c11,g_v15⟩
        ·obtain rfl:=si g_v15
         exact tr fol [2,4,7,9,11,14,16,19,21,24,27,29,32,34,35,38] (kH a (kBG b [(5,.i n2),(81,.bool true)])) (ac (iv zV qa e_x6) (ac (lv 0 ce3 qa e_x6 rfl) (ac (iv zV qa e_x7) (ac (lv 0 ce3 qa e_x7 rfl) (ac (gw c8) (ac (iv zV qa e_x6) (ac (lv 1 ce9 qa e_x6 rfl) (ac (iv zV qa e_x7) (ac (lv 1 ce9 qa e_x7 rfl) (ac (gw c9) (ac (iv zV qa e_x6) (ac (lv 2 qe6 qa e_x6 rfl) (ac (iv zV qa e_x7) (ac (lv 2 qe6 qa e_x7 rfl) (ac (cv (yI N x6.Names x7.Names e_r10)) (ac (gw c11) az))))))))))))))))
        ·obtain⟨r12,e_r12,g_v15⟩:=bnd g_v15
         rcases wyB g_v15 with⟨c13,g_v15⟩|⟨c13,g_v15⟩
         ·obtain rfl:=si g_v15
          exact tr fol [2,4,7,9,11,14,16,19,21,24,27,29,32,34,35,38,41,43,46,48,49,52] (kH a (kBG b [(5,.i n2),(81,.bool true)])) (ac (iv zV qa e_x6) (ac (lv 0 ce3 qa e_x6 rfl) (ac (iv zV qa e_x7) (ac (lv 0 ce3 qa e_x7 rfl) (ac (gw c8) (ac (iv zV qa e_x6) (ac (lv 1 ce9 qa e_x6 rfl) (ac (iv zV qa e_x7) (ac (lv 1 ce9 qa e_x7 rfl) (ac (gw c9) (ac (iv zV qa e_x6) (ac (lv 2 qe6 qa e_x6 rfl) (ac (iv zV qa e_x7) (ac (lv 2 qe6 qa e_x7 rfl) (ac (cv (yI N x6.Names x7.Names e_r10)) (ac (gw c11) (ac (iv zV qa e_x6) (ac (lv 3 qlG qa e_x6 rfl) (ac (iv zV qa e_x7) (ac (lv 3 qlG qa e_x7 rfl) (ac (cv (qbN N x6.Values x7.Values e_r12)) (ac (gw c13) az))))))))))))))))))))))
         ·obtain rfl:=si g_v15
          exact tr fol [2,4,7,9,11,14,16,19,21,24,27,29,32,34,35,38,41,43,46,48,49,52,55,57,60,62] (kH a (kBG b [(5,.i n2),(81,.bool (!(x6.Text==x7.Text)))])) (ac (iv zV qa e_x6) (ac (lv 0 ce3 qa e_x6 rfl) (ac (iv zV qa e_x7) (ac (lv 0 ce3 qa e_x7 rfl) (ac (gw c8) (ac (iv zV qa e_x6) (ac (lv 1 ce9 qa e_x6 rfl) (ac (iv zV qa e_x7) (ac (lv 1 ce9 qa e_x7 rfl) (ac (gw c9) (ac (iv zV qa e_x6) (ac (lv 2 qe6 qa e_x6 rfl) (ac (iv zV qa e_x7) (ac (lv 2 qe6 qa e_x7 rfl) (ac (cv (yI N x6.Names x7.Names e_r10)) (ac (gw c11) (ac (iv zV qa e_x6) (ac (lv 3 qlG qa e_x6 rfl) (ac (iv zV qa e_x7) (ac (lv 3 qlG qa e_x7 rfl) (ac (cv (qbN N x6.Values x7.Values e_r12)) (ac (gw c13) (ac (iv zV qa e_x6) (ac (lv 4 ce9 qa e_x6 rfl) (ac (iv zV qa e_x7) (ac (lv 4 ce9 qa e_x7 rfl) az))))))))))))))))))))))))))
     refine ihB g3 (fun c16 g3=>?_) (fun c16 g3=>?_)
     ·refine sh fol kAf ?_
      refine Goes.ret ?_
      obtain rfl:=si g3
      exact Or.inr (⟨rfl,_,rfl,(gw2 [.bool false] (FzW.still tB))⟩)
     ·refine Goes.skip ?_
      refine gh fol (kH a (kBG b (kAn (w64 (n2+1))))) ?_
      exact⟨M,(ofG 82 (kH a (kBG b (kAn (w64 (n2+1))))),[]),Nat.lt_succ_self _,(Sub.refl _),_,rfl,g3⟩
    ·refine Goes.exit ?_
     obtain rfl:=si g3
     exact Or.inl (⟨rfl,rfl,(Sub.keep [] rfl rfl)⟩)
  rintro x s' (⟨rfl,rfl,hsub⟩|⟨rfl,q17,rfl,hret⟩)
  ·try dsimp only at h
   refine Goes.sub hsub ?_
   refine sh fol kAi ?_
   refine Goes.ret ?_
   obtain rfl:=si h
   exact(gw2 [.bool true] (FzW.still tB))
  ·try dsimp only at h
   obtain rfl:=si h
   exact hret
def yh (N:Nat) (l:List qb):Option (qJ×Int×Int):=
 (jO N l).bind fun(l2,o3,ok4,n5,n6)=>
 if(!decide (n6=0))=true then
 some ((⟨0,[]⟩:qJ),n5,n6)
 else
 ((match ok4 with
 |false=>
 none
 |true=>
 (qF l2 o3).bind fun(o9,n10,l11)=>
 (qm n10 l11).bind fun l13=>
 some (n10,o9,l13)):Option (Int×(Option (List StateT))×(List qc))).bind fun(n14,o15,l16)=>
 some ((⟨n14,l16⟩:qJ),0,0)
theorem qcg (N:Nat) (l:List qb) {res:qJ×Int×Int} (h:yh N l=some res):qf Tryz.prog (.fn 14) [vl qa l] [] (.tuple (kAO res.1.Day res.1.Slings [.i res.2.1,.i res.2.2])) []:=by
 unfold yh at h
 refine Goes.fnW Tryz.func14 rfl rfl (m:=22) rfl (rs:=[.cell 2 47,.tmp 3,.tmp 4]) rfl (l:=(kH l [])) rfl ?_
 refine sg fol (kH l (kR [])) [bZ] ?_
 obtain⟨⟨l2,o3,ok4,n5,n6⟩,e_r1,h⟩:=bnd h
 try dsimp only at h
 refine sq (gq fol [1] (kR ((5,pz ok4 1 0)::(kAv n5 n6 []))) (bZ::(kAD l2 o3 (kD l2 o3 []))) (ac (hs (.callH 41 [vl qa l] [bZ] [] (.tuple [pz ok4 1 0,.i n5,.i n6]) (bZ::(kAD l2 o3 (kD l2 o3 [])))) (jL [] [none,some 0,some 1,some 2] (qba N l e_r1) .nil rfl rfl (.old rfl rfl (.new rfl rfl (.cells (rc (.gslice rfl) (rc (.hs rfl) rn))) rfl (.new rfl rfl (.same fa) rfl (.new rfl rfl (.same fa) rfl .nil)))) (rc (.same (qw qa _)) rn) (.tupleL (rc ((qZ.pz rfl)) (rc (.same nI) (rc (.same nI) rn)))) rfl)) az) ?_)
 refine sq ?_
 refine sh fol (kR ((5,pz ok4 1 0)::(kAv n5 n6 [(15,.bool (!decide (n6=0)))]))) ?_
 refine ihB h (fun c7 h=>?_) (fun c7 h=>?_)
 ·refine sh fol (kR ((3,.i n5)::(kAq n6))) ?_
  refine Goes.ret ?_
  obtain rfl:=si h
  exact(gw2 [.agg [.i 0,.nilslice],.i n5,.i n6] (FzW.tuple (qj.cons (FzW.agg (qj.cons (FzW.still tI) (qj.cons (FzW.nilv (E:=qd)) qj.nil))) (qj.cons (FzW.still tI) (qj.cons (FzW.still tI) qj.nil)))))
 ·refine Goes.skip ?_
  refine sq ?_
  obtain⟨⟨n14,o15,l16⟩,g_v17,h⟩:=bnd h
  refine Goes.cut (s':=(ofG 22 (kR ((3,.i 0)::kBR)),(kAy n14 l16 (kAD l2 o15 (kD l2 o15 [bS l16]))))) ?_ ?_
  ·rcases ok4 with _|_
   ·try dsimp only at g_v17
    cases g_v17
   ·try dsimp only at g_v17
    obtain⟨⟨o9,n10,l11⟩,e_r8,g_v17⟩:=bnd g_v17
    try dsimp only at g_v17
    obtain⟨l13,e_r12,g_v17⟩:=bnd g_v17
    simp only[Option.some.injEq,Prod.mk.injEq]at g_v17
    obtain⟨rfl,rfl,rfl⟩:=g_v17
    exact qh.rq fol [1,2] (kR ((3,.i 0)::kBR)) (kAy n10 l13 (kAD l2 o9 (kD l2 o9 [bS l13]))) (ac (hs (.callH 44 [.ptr 1 0] (bZ::(kAD l2 o3 (kD l2 o3 []))) [1,2,3] (.agg (kAm n10 l11)) (bZ::(kAD l2 o9 (kD l2 o9 [])))) (jL [some 1,some 2,some 3] [none,some 0,some 1,some 2] (vH l2 o3 e_r8) (.kb rfl (.cells (rc (.gslice rfl) (rc (.hs rfl) rn))) (.ks (.ks .nil))) rfl rfl (.old rfl rfl (.back rfl rfl (.cells (rc (.gslice rfl) (rc (.hs rfl) rn))) rfl (.back rfl rfl (.same fa) rfl (.back rfl rfl (.same fa) rfl .nil)))) (rc (.ptr rfl) rn) (.same (qo.agg sn)) rfl)) (ac (hs (.callH 49 [.agg (kAm n10 l11)] (bZ::(kAD l2 o9 (kD l2 o9 []))) [] (.agg (kA8 n10 l13)) (bZ::(kAD l2 o9 (kD l2 o9 [bS l13])))) (jL [] [none,none,none,none,some 0] (ku n10 l11 e_r12) .nil rfl rfl (.old rfl rfl (.old rfl rfl (.old rfl rfl (.old rfl rfl (.new rfl rfl (.same fa) rfl .nil))))) (rc (.same (qo.agg sn)) rn) (.aggL (rc (.same nI) (rc (.slice rfl) rn))) rfl)) az))
  try dsimp only at h
  refine Goes.ret ?_
  obtain rfl:=si h
  exact(gw2 (kAR n14 l16 [.i 0,.i 0]) (FzW.tuple (qj.cons (FzW.agg (qj.cons (FzW.still tI) (qj.cons (FzW.fz (Fz.sl (E:=qd) rfl rfl (nl rfl))) qj.nil))) (qj.cons (FzW.still tI) (qj.cons (FzW.still tI) qj.nil)))))
def qM (r:qJ) (s_:qJ):Nat→Int→Option (Unit⊕Bool)
 |0,_=>none
 |K+1,n1=>
  if n1<(r.Slings.length:Int)then
  (idx r.Slings n1).bind fun x5=>
  (idx s_.Slings n1).bind fun x6=>
  if(!((x5.Name==x6.Name)&&((x5.Batch==x6.Batch)&&(decide (x5.Born=x6.Born)&&(decide (x5.Last=x6.Last)&&(decide (x5.Uses=x6.Uses)&&(decide (x5.Used=x6.Used)&&(decide (x5.Limit=x6.Limit)&&(decide (x5.Until=x6.Until)&&((x5.Gone==x6.Gone)&&true))))))))))=true then
  some (.inr false)
  else
  qM r s_ K (w64 (n1+1))
  else
  some (.inl ())
def jw (N:Nat) (r:qJ) (s_:qJ):Option Bool:=
 (qM r s_ N 0).bind (fun
 |(.inl ())=>
 some true
 |(.inr q8)=>
 some q8)
theorem xG (N:Nat) (r:qJ) (s_:qJ) {res:Bool} (h:jw N r s_=some res):qf Tryz.prog (.fn 16) (kAO r.Day r.Slings (kAO s_.Day s_.Slings [])) [] (.bool res) []:=by
 unfold jw at h
 refine Goes.fnW Tryz.func16 rfl rfl (m:=24) rfl (rs:=[.tmp 4]) rfl (l:=(kBX r.Day r.Slings [(1,.agg [.i s_.Day,vl qd s_.Slings])])) rfl ?_
 refine sg fol (kI []) (kC r.Day r.Slings (kC s_.Day s_.Slings [])) ?_
 refine sq ?_
 refine sh fol (kI [(8,.i (r.Slings.length:Int)),(9,.i 0)]) ?_
 refine Goes.block ?_
 obtain⟨r2,g2,h⟩:=bnd h
 refine Goes.imp (Q:=fun x s'=>(x= .exit 0∧(.inl ())=r2∧Sub s' (ofG 24 [],[]))∨(x= .ret∧ ∃q3,(.inr q3)=r2∧zy Tryz.prog [.tmp 4] (.bool q3) .ret s')) ?_ ?_
 ·refine Goes.loopS (fun M s=> ∃(n1:Int),s=(ofG 24 (kI [(8,.i (r.Slings.length:Int)),(9,.i n1)]),(kC r.Day r.Slings (kC s_.Day s_.Slings [])))∧qM r s_ M n1=some r2) ?_ (m:=N) ⟨_,rfl,g2⟩
  rintro M s ⟨n1,rfl,g2⟩
  cases M with
  |zero=>simp only[qM]at g2;cases g2
  |succ M=>
   rw[qM]at g2
   refine sh fol (kI ((8,.i (r.Slings.length:Int))::(9,.i n1)::(kBI (decide (n1<(r.Slings.length:Int)))))) ?_
   refine sq ?_
   refine ihD g2 (fun c4 g2=>?_) (fun c4 g2=>?_)
   ·refine Goes.skip ?_
    refine sq (Goes.block ?_)
    refine sh fol (kI [(5,.i n1),(8,.i (r.Slings.length:Int)),(9,.i n1)]) ?_
    obtain⟨x5,e_x5,g2⟩:=bnd g2
    obtain⟨x6,e_x6,g2⟩:=bnd g2
    refine sq (gr fol [3,4,8,9,10] (kI [(8,.i (r.Slings.length:Int)),(9,.i n1),(22,.bool (!((x5.Name==x6.Name)&&((x5.Batch==x6.Batch)&&(decide (x5.Born=x6.Born)&&(decide (x5.Last=x6.Last)&&(decide (x5.Uses=x6.Uses)&&(decide (x5.Used=x6.Used)&&(decide (x5.Limit=x6.Limit)&&(decide (x5.Until=x6.Until)&&((x5.Gone==x6.Gone)&&true)))))))))))]) (ac (iv qbu qd e_x5) (ac (la qf6 qd e_x5) (ac (iv qbu qd e_x6) (ac (la qf6 qd e_x6) (ac (hs (.done (.opt (xe Tryz.prog .neq 102 (.tmp 16) (.tmp 21) (.agg (cS x5)) (.agg (cS x6)))) (.bool (!((x5.Name==x6.Name)&&((x5.Batch==x6.Batch)&&(decide (x5.Born=x6.Born)&&(decide (x5.Last=x6.Last)&&(decide (x5.Uses=x6.Uses)&&(decide (x5.Used=x6.Used)&&(decide (x5.Limit=x6.Limit)&&(decide (x5.Until=x6.Until)&&((x5.Gone==x6.Gone)&&true)))))))))))) (ne_ag qph (e:=((x5.Name==x6.Name)&&((x5.Batch==x6.Batch)&&(decide (x5.Born=x6.Born)&&(decide (x5.Last=x6.Last)&&(decide (x5.Uses=x6.Uses)&&(decide (x5.Used=x6.Used)&&(decide (x5.Limit=x6.Limit)&&(decide (x5.Until=x6.Until)&&((x5.Gone==x6.Gone)&&true)))))))))) (.cons (a:= .str x5.Name) (b:= .str x6.Name) rfl (by kernel_rfl) (by kernel_rfl) (by kernel_rfl) (.cons (a:= .str x5.Batch) (b:= .str x6.Batch) rfl (by kernel_rfl) (by kernel_rfl) (by kernel_rfl) (.cons (a:= .i x5.Born) (b:= .i x6.Born) rfl (by kernel_rfl) (by kernel_rfl) (by kernel_rfl) (.cons (a:= .i x5.Last) (b:= .i x6.Last) rfl (by kernel_rfl) (by kernel_rfl) (by kernel_rfl) (.cons (a:= .i x5.Uses) (b:= .i x6.Uses) rfl (by kernel_rfl) (by kernel_rfl) (by kernel_rfl) (.cons (a:= .i x5.Used) (b:= .i x6.Used) rfl (by kernel_rfl) (by kernel_rfl) (by kernel_rfl) (.cons (a:= .i x5.Limit) (b:= .i x6.Limit) rfl (by kernel_rfl) (by kernel_rfl) (by kernel_rfl) (.cons (a:= .i x5.Until) (b:= .i x6.Until) rfl (by kernel_rfl) (by kernel_rfl) (by kernel_rfl) (.cons (a:= .bool x5.Gone) (b:= .bool x6.Gone) rfl (by kernel_rfl) (by kernel_rfl) (by kernel_rfl) .nil))))))))))) az))))) ?_)
    refine ihB g2 (fun c7 g2=>?_) (fun c7 g2=>?_)
    ·refine sh fol kAf ?_
     refine Goes.ret ?_
     obtain rfl:=si g2
     exact Or.inr (⟨rfl,_,rfl,(gw2 [.bool false] (FzW.still tB))⟩)
    ·refine Goes.skip ?_
     refine gh fol (kI [(8,.i (r.Slings.length:Int)),(9,.i (w64 (n1+1)))]) ?_
     exact⟨M,(ofG 24 (kI [(8,.i (r.Slings.length:Int)),(9,.i (w64 (n1+1)))]),(kC r.Day r.Slings (kC s_.Day s_.Slings []))),Nat.lt_succ_self _,(Sub.refl _),_,rfl,g2⟩
   ·refine Goes.exit ?_
    obtain rfl:=si g2
    exact Or.inl (⟨rfl,rfl,(Sub.norm [] [] rfl rfl .nil .nil)⟩)
 rintro x s' (⟨rfl,rfl,hsub⟩|⟨rfl,q8,rfl,hret⟩)
 ·try dsimp only at h
  refine Goes.sub hsub ?_
  refine sh fol kAi ?_
  refine Goes.ret ?_
  obtain rfl:=si h
  exact(gw2 [.bool true] (FzW.still tB))
 ·try dsimp only at h
  obtain rfl:=si h
  exact hret
end Go.Av
