/-
  Walks of functions: what each computes, as a plain function.
-/
import Derived.Test.YtbjpmhdicbgjkaaGreatDoorQGenE2
noncomputable section
namespace Go.Av
open Go.Proofs Go.RowKit
set_option linter.unusedSectionVars false
set_option linter.unusedVariables false
set_option linter.unusedSimpArgs false
set_option maxRecDepth 100000
def qak (a:qj):Option qj:=
 if a.s<0 then
 (ze a).bind fun r2=>
 some r2
 else
 some a
theorem qdx (a:qj) {res:qj} (h:qak a=some res):qb Tryz.prog (.fn 184) [.agg [.i a.s,nvl (qa .u64) a.w]] [] (.agg [.i res.s,nvl (qa .u64) res.w]) []:=by
 unfold qak at h
 refine Goes.fnW Tryz.func184 rfl rfl (m:=9) rfl (rs:=[.cell 2 106]) rfl (l:=[(0,.agg [.i a.s,nvl (qa .u64) a.w])]) rfl ?_
 refine sg fol (kAH []) [.cells [.i a.s,nvl (qa .u64) a.w],bZ] ?_
 refine sq ?_
 refine sh fol (kAH [(5,.bool (decide (a.s<0)))]) ?_
 refine ihD h (fun c1 h=>?_) (fun c1 h=>?_)
 ·obtain⟨r2,e_r2,h⟩:=bnd h
  refine sq (gq fol [1,2] kBX [.cells [.i a.s,nvl (qa .u64) a.w],.cells [.i r2.s,nvl (qa .u64) r2.w]] (ac (cv (jG a e_r2)) (ac (hs (.run [1] (qp Tryz.prog 106 (.ptr 1 0) (.agg [.i r2.s,nvl (qa .u64) r2.w])) [.cells [.i a.s,nvl (qa .u64) a.w],bZ] .undef [.cells [.i a.s,nvl (qa .u64) a.w],.cells [.i r2.s,nvl (qa .u64) r2.w]] true) (kW (n:=2) (by kernel_rfl) rfl rfl rfl rfl (cac rfl (cac nvc can)) rfl)) az)) ?_)
  refine Goes.ret ?_
  obtain rfl:=si h
  exact(gw2 [.agg [.i r2.s,nvl (qa .u64) r2.w]] (FzW.agg (qd.cons (FzW.still tI) (qd.cons (FzW.still (qx (qa .u64) _ (nl rfl))) qd.nil))))
 ·refine Goes.skip ?_
  refine sq (gq fol [1] kBX [.cells [.i a.s,nvl (qa .u64) a.w],.cells [.i a.s,nvl (qa .u64) a.w]] (ac (hs (.run [1] (qp Tryz.prog 106 (.ptr 1 0) (.agg [.i a.s,nvl (qa .u64) a.w])) [.cells [.i a.s,nvl (qa .u64) a.w],bZ] .undef [.cells [.i a.s,nvl (qa .u64) a.w],.cells [.i a.s,nvl (qa .u64) a.w]] true) (kW (n:=2) (by kernel_rfl) rfl rfl rfl rfl (cac rfl (cac nvc can)) rfl)) az) ?_)
  refine Goes.ret ?_
  obtain rfl:=si h
  exact(gw2 [.agg [.i a.s,nvl (qa .u64) a.w]] (FzW.agg (qd.cons (FzW.still tI) (qd.cons (FzW.still (qx (qa .u64) _ (nl rfl))) qd.nil))))
def vw (N:Nat):Nat→Int→(List Int)→Int→(List Int)→Option (Int×(List Int))
 |0,_,_,_,_=>none
 |K+1,n3,l4,n5,l6=>
  (qZ (⟨n5,l6⟩:qj)).bind fun r10=>
  if(!decide (r10=0))=true then
  (zM N (⟨n3,l4⟩:qj) (⟨n5,l6⟩:qj)).bind fun r12=>
  vw N K n5 l6 r12.2.s r12.2.w
  else
  some (n3,l4)
def qbX (N:Nat) (a:qj) (b:qj):Option qj:=
 (qak a).bind fun r1=>
 (qak b).bind fun r2=>
 (vw N N r1.s r1.w r2.s r2.w).bind fun(n7,l8)=>
 some (⟨n7,l8⟩:qj)
theorem qgb (N:Nat) (a:qj) (b:qj) {res:qj} (h:qbX N a b=some res):qb Tryz.prog (.fn 131) [.agg [.i a.s,nvl (qa .u64) a.w],.agg [.i b.s,nvl (qa .u64) b.w]] [] (.agg [.i res.s,nvl (qa .u64) res.w]) []:=by
 unfold qbX at h
 refine Goes.fnW Tryz.func131 rfl rfl (m:=23) rfl (rs:=[.cell 4 106]) rfl (l:=[(0,.agg [.i a.s,nvl (qa .u64) a.w]),(1,.agg [.i b.s,nvl (qa .u64) b.w])]) rfl ?_
 refine sg fol (kH []) [.cells [.i a.s,nvl (qa .u64) a.w],.cells [.i b.s,nvl (qa .u64) b.w],bZ] ?_
 obtain⟨r1,e_r1,h⟩:=bnd h
 obtain⟨r2,e_r2,h⟩:=bnd h
 refine sq (gq fol [1,3,4,5] (kH []) [.cells [.i r1.s,nvl (qa .u64) r1.w],.cells [.i r2.s,nvl (qa .u64) r2.w],bZ] (ac (cv (qdx a e_r1)) (ac (cv (qdx b e_r2)) (ac (hs (.run [0] (qp Tryz.prog 106 (.ptr 0 0) (.agg [.i r1.s,nvl (qa .u64) r1.w])) [.cells [.i a.s,nvl (qa .u64) a.w],.cells [.i b.s,nvl (qa .u64) b.w],bZ] .undef [.cells [.i r1.s,nvl (qa .u64) r1.w],.cells [.i b.s,nvl (qa .u64) b.w],bZ] true) (kW (n:=2) (by kernel_rfl) rfl rfl rfl rfl (cac rfl (cac nvc can)) rfl)) (ac (hs (.run [1] (qp Tryz.prog 106 (.ptr 1 0) (.agg [.i r2.s,nvl (qa .u64) r2.w])) [.cells [.i r1.s,nvl (qa .u64) r1.w],.cells [.i b.s,nvl (qa .u64) b.w],bZ] .undef [.cells [.i r1.s,nvl (qa .u64) r1.w],.cells [.i r2.s,nvl (qa .u64) r2.w],bZ] true) (kW (n:=2) (by kernel_rfl) rfl rfl rfl rfl (cac rfl (cac nvc can)) rfl)) az)))) ?_)
 refine sq (Goes.block ?_)
 obtain⟨r9,g9,h⟩:=bnd h
 refine Goes.imp (Q:=fun x s'=>(x= .exit 0∧ ∃n7 l8,(n7,l8)=r9∧Sub s' (ofG 23 (kAM (kBm [])),[.cells [.i n7,nvl (qa .u64) l8],bZ]))) ?_ ?_
 ·refine Goes.loopS (fun M s=> ∃(n3:Int) (l4:List Int) (n5:Int) (l6:List Int),s=(ofG 23 (kH []),[.cells [.i n3,nvl (qa .u64) l4],.cells [.i n5,nvl (qa .u64) l6],bZ])∧vw N M n3 l4 n5 l6=some r9) ?_ (m:=N) ⟨_,_,_,_,rfl,g9⟩
  rintro M s ⟨n3,l4,n5,l6,rfl,g9⟩
  cases M with
  |zero=>simp only[vw]at g9;cases g9
  |succ M=>
   rw[vw]at g9
   refine sq ?_
   obtain⟨r10,e_r10,g9⟩:=bnd g9
   refine sq (gr fol [1] (kH (kBT (!decide (r10=0)))) (ac (cv (yP (⟨n5,l6⟩:qj) e_r10)) az) ?_)
   refine ihB g9 (fun c11 g9=>?_) (fun c11 g9=>?_)
   ·refine Goes.skip ?_
    refine Goes.block ?_
    obtain⟨r12,e_r12,g9⟩:=bnd g9
    refine sq (gq fol [2,8,9] (kH [(6,.ptr 4 0)]) [.cells [.i n3,nvl (qa .u64) l4],.cells [.i n5,nvl (qa .u64) l6],bZ,.cells [.i r12.1.s,nvl (qa .u64) r12.1.w],.cells [.i r12.2.s,nvl (qa .u64) r12.2.w]] (ac (cv (qbZ N (⟨n3,l4⟩:qj) (⟨n5,l6⟩:qj) e_r12)) (ac (hs (.run [3] (qp Tryz.prog 106 (.ptr 3 0) (.agg [.i r12.1.s,nvl (qa .u64) r12.1.w])) [.cells [.i n3,nvl (qa .u64) l4],.cells [.i n5,nvl (qa .u64) l6],bZ,bZ,bZ] .undef [.cells [.i n3,nvl (qa .u64) l4],.cells [.i n5,nvl (qa .u64) l6],bZ,.cells [.i r12.1.s,nvl (qa .u64) r12.1.w],bZ] true) (kW (n:=2) (by kernel_rfl) rfl rfl rfl rfl (cac rfl (cac nvc can)) rfl)) (ac (hs (.run [4] (qp Tryz.prog 106 (.ptr 4 0) (.agg [.i r12.2.s,nvl (qa .u64) r12.2.w])) [.cells [.i n3,nvl (qa .u64) l4],.cells [.i n5,nvl (qa .u64) l6],bZ,.cells [.i r12.1.s,nvl (qa .u64) r12.1.w],bZ] .undef [.cells [.i n3,nvl (qa .u64) l4],.cells [.i n5,nvl (qa .u64) l6],bZ,.cells [.i r12.1.s,nvl (qa .u64) r12.1.w],.cells [.i r12.2.s,nvl (qa .u64) r12.2.w]] true) (kW (n:=2) (by kernel_rfl) rfl rfl rfl rfl (cac rfl (cac nvc can)) rfl)) az))) ?_)
    refine gq fol [2,3] (kH []) [.cells [.i n5,nvl (qa .u64) l6],.cells [.i r12.2.s,nvl (qa .u64) r12.2.w],bZ,.cells [.i r12.1.s,nvl (qa .u64) r12.1.w],.cells [.i r12.2.s,nvl (qa .u64) r12.2.w]] (ac (hs (.run [0] (qp Tryz.prog 106 (.ptr 0 0) (.agg [.i n5,nvl (qa .u64) l6])) [.cells [.i n3,nvl (qa .u64) l4],.cells [.i n5,nvl (qa .u64) l6],bZ,.cells [.i r12.1.s,nvl (qa .u64) r12.1.w],.cells [.i r12.2.s,nvl (qa .u64) r12.2.w]] .undef [.cells [.i n5,nvl (qa .u64) l6],.cells [.i n5,nvl (qa .u64) l6],bZ,.cells [.i r12.1.s,nvl (qa .u64) r12.1.w],.cells [.i r12.2.s,nvl (qa .u64) r12.2.w]] true) (kW (n:=2) (by kernel_rfl) rfl rfl rfl rfl (cac rfl (cac nvc can)) rfl)) (ac (hs (.run [1] (qp Tryz.prog 106 (.ptr 1 0) (.agg [.i r12.2.s,nvl (qa .u64) r12.2.w])) [.cells [.i n5,nvl (qa .u64) l6],.cells [.i n5,nvl (qa .u64) l6],bZ,.cells [.i r12.1.s,nvl (qa .u64) r12.1.w],.cells [.i r12.2.s,nvl (qa .u64) r12.2.w]] .undef [.cells [.i n5,nvl (qa .u64) l6],.cells [.i r12.2.s,nvl (qa .u64) r12.2.w],bZ,.cells [.i r12.1.s,nvl (qa .u64) r12.1.w],.cells [.i r12.2.s,nvl (qa .u64) r12.2.w]] true) (kW (n:=2) (by kernel_rfl) rfl rfl rfl rfl (cac rfl (cac nvc can)) rfl)) az)) ?_
    exact⟨M,(ofG 23 (kH []),[.cells [.i n5,nvl (qa .u64) l6],.cells [.i r12.2.s,nvl (qa .u64) r12.2.w],bZ]),Nat.lt_succ_self _,(Sub.norm [] [some 0,some 1,some 2] rfl rfl (.kp (.kp (.kp .nil))) (.kb rfl (.same sn) (.kb rfl (.same sn) (.kb rfl (.same sn) .nil)))),_,_,_,_,rfl,g9⟩
   ·refine Goes.exit ?_
    obtain rfl:=si g9
    exact⟨rfl,_,_,rfl,(Sub.norm [] [some 0,some 2] rfl rfl (.kp (.drop (.kp .nil))) (.kb rfl (.same sn) (.kb rfl (.same sn) .nil)))⟩
 rintro x s' ⟨rfl,n7,l8,rfl,hsub⟩
 try dsimp only at h
 refine Goes.sub hsub ?_
 refine sq (gq fol [1] (kBm []) [.cells [.i n7,nvl (qa .u64) l8],.cells [.i n7,nvl (qa .u64) l8]] (ac (hs (.run [1] (qp Tryz.prog 106 (.ptr 1 0) (.agg [.i n7,nvl (qa .u64) l8])) [.cells [.i n7,nvl (qa .u64) l8],bZ] .undef [.cells [.i n7,nvl (qa .u64) l8],.cells [.i n7,nvl (qa .u64) l8]] true) (kW (n:=2) (by kernel_rfl) rfl rfl rfl rfl (cac rfl (cac nvc can)) rfl)) az) ?_)
 refine Goes.ret ?_
 obtain rfl:=si h
 exact(gw2 [.agg [.i n7,nvl (qa .u64) l8]] (FzW.agg (qd.cons (FzW.still tI) (qd.cons (FzW.still (qx (qa .u64) _ (nl rfl))) qd.nil))))
def zV (b:List Int) (x7:Int) (n3:Int):Nat→(List Int)→Int→Int→Option ((List Int)×Int)
 |0,_,_,_=>none
 |K+1,l8,n9,n10=>
  if n9<(b.length:Int)then
  (idx b n9).bind fun x15=>
  (bits_Mul64 x7 x15).bind fun r16=>
  (idx l8 (w64 (n3+n9))).bind fun x17=>
  (y7 r16.2 x17 0).bind fun r18=>
  (y7 r18.1 n10 0).bind fun r19=>
  (put l8 (w64 (n3+n9)) r19.1).bind fun l20=>
  zV b x7 n3 K l20 (w64 (n9+1)) (IntKind.wrap .u64 ((IntKind.wrap .u64 (r16.1+r18.2))+r19.2))
  else
  some (l8,n10)
def zT (N:Nat) (a:List Int) (b:List Int):Nat→(List Int)→Int→Option (List Int)
 |0,_,_=>none
 |K+1,l2,n3=>
  if n3<(a.length:Int)then
  (idx a n3).bind fun x7=>
  (zV b x7 n3 N l2 0 0).bind fun(l11,n12)=>
  (idx l11 (w64 (n3+(b.length:Int)))).bind fun x21=>
  (put l11 (w64 (n3+(b.length:Int))) n12).bind fun l22=>
  zT N a b K l22 (w64 (n3+1))
  else
  some l2
def xH (N:Nat) (a:List Int) (b:List Int):Option (List Int):=
 (mk 8 (w64 ((a.length:Int)+(b.length:Int))) 0).bind fun l1=>
 (zT N a b N l1 0).bind fun l4=>
 (ym N l4).bind fun r23=>
 some r23
theorem qfD (N:Nat) (a:List Int) (b:List Int) {res:List Int} (h:xH N a b=some res):qb Tryz.prog (.fn 206) [vl (qa .u64) a,vl (qa .u64) b] [] (vl (qa .u64) res) []:=by
 unfold xH at h
 refine Goes.fnW Tryz.func206 rfl rfl (m:=80) rfl (rs:=[.tmp 4]) rfl (l:=[(0,vl (qa .u64) a),(1,vl (qa .u64) b)]) rfl ?_
 refine sh fol [(0,vl (qa .u64) a),(1,vl (qa .u64) b)] ?_
 obtain⟨l1,e_l1,h⟩:=bnd h
 refine sq (gq fol [5] ((0,vl (qa .u64) a)::(1,vl (qa .u64) b)::(kG l1 [])) [.cells (l1.flatMap (qa .u64).c)] (ac (hs (.run [] (zP Tryz.prog 104 (.i (w64 ((a.length:Int)+(b.length:Int)))) (.i (w64 ((a.length:Int)+(b.length:Int))))) [] (.slice 0 0 l1.length l1.length 1) [.cells (l1.flatMap (qa .u64).c)] false) (qcI qI (E:=(qa .u64)) (z:=0) rfl (by kernel_rfl) e_l1 rfl)) az) ?_)
 refine sq ?_
 refine sh fol ((1,vl (qa .u64) b)::(kG l1 [(20,vl (qa .u64) a),(21,.i (a.length:Int)),(22,.i 0)])) ?_
 refine Goes.block ?_
 obtain⟨r5,g5,h⟩:=bnd h
 refine Goes.imp (Q:=fun x s'=>(x= .exit 0∧ ∃l4,l4=r5∧Sub s' (ofG 80 (kG l4 []),[.cells (l4.flatMap (qa .u64).c)]))) ?_ ?_
 ·refine Goes.loopS (fun M s=> ∃(l2:List Int) (n3:Int),s=(ofG 80 ((1,vl (qa .u64) b)::(kG l2 ((20,vl (qa .u64) a)::(kAL (a.length:Int) n3 [])))),[.cells (l2.flatMap (qa .u64).c)])∧zT N a b M l2 n3=some r5) ?_ (m:=N) ⟨_,_,rfl,g5⟩
  rintro M s ⟨l2,n3,rfl,g5⟩
  cases M with
  |zero=>simp only[zT]at g5;cases g5
  |succ M=>
   rw[zT]at g5
   refine sh fol ((1,vl (qa .u64) b)::(kG l2 ((20,vl (qa .u64) a)::(kAL (a.length:Int) n3 [(23,.bool (decide (n3<(a.length:Int))))])))) ?_
   refine sq ?_
   refine ihD g5 (fun c6 g5=>?_) (fun c6 g5=>?_)
   ·refine Goes.skip ?_
    refine sq (Goes.block ?_)
    obtain⟨x7,e_x7,g5⟩:=bnd g5
    refine sq (gr fol [1,2] ((1,vl (qa .u64) b)::(kG l2 ((6,.i n3)::(kAv x7 ((20,vl (qa .u64) a)::(kAL (a.length:Int) n3 [])))))) (ac (iv qI (qa .u64) e_x7) (ac (lv 0 zu (qa .u64) e_x7 rfl) az)) ?_)
    refine sh fol ((1,vl (qa .u64) b)::(kG l2 ((6,.i n3)::(kAv x7 (kB8 ((20,vl (qa .u64) a)::(kAL (a.length:Int) n3 []))))))) ?_
    refine sq ?_
    refine sh fol ((1,vl (qa .u64) b)::(kG l2 ((6,.i n3)::(kAv x7 (kB8 ((20,vl (qa .u64) a)::(kAL (a.length:Int) n3 [(27,vl (qa .u64) b),(28,.i (b.length:Int)),(29,.i 0)]))))))) ?_
    refine Goes.block ?_
    obtain⟨r13,g13,g5⟩:=bnd g5
    refine Goes.imp (Q:=fun x s'=>(x= .exit 2∧ ∃l11 n12,(l11,n12)=r13∧Sub s' (ofG 80 ((1,vl (qa .u64) b)::(kG l11 ((6,.i n3)::(8,.int .u64 n12)::(20,vl (qa .u64) a)::(kAL (a.length:Int) n3 [])))),[.cells (l11.flatMap (qa .u64).c)]))) ?_ ?_
    ·refine Goes.loopS (fun M s=> ∃(l8:List Int) (n9:Int) (n10:Int),s=(ofG 80 ((1,vl (qa .u64) b)::(kG l8 ((6,.i n3)::(kAO x7 n10 ((20,vl (qa .u64) a)::(kAL (a.length:Int) n3 ((27,vl (qa .u64) b)::(kBH (b.length:Int) n9)))))))),[.cells (l8.flatMap (qa .u64).c)])∧zV b x7 n3 M l8 n9 n10=some r13) ?_ (m:=N) ⟨_,_,_,rfl,g13⟩
     rintro M s ⟨l8,n9,n10,rfl,g13⟩
     cases M with
     |zero=>simp only[zV]at g13;cases g13
     |succ M=>
      rw[zV]at g13
      refine sh fol ((1,vl (qa .u64) b)::(kG l8 ((6,.i n3)::(kAO x7 n10 ((20,vl (qa .u64) a)::(kAL (a.length:Int) n3 [(27,vl (qa .u64) b),(28,.i (b.length:Int)),(29,.i n9),(30,.bool (decide (n9<(b.length:Int))))])))))) ?_
      refine sq ?_
      refine ihD g13 (fun c14 g13=>?_) (fun c14 g13=>?_)
      ·refine Goes.skip ?_
       refine sq (Goes.block ?_)
       obtain⟨x15,e_x15,g13⟩:=bnd g13
       refine sq (gr fol [1,2] ((1,vl (qa .u64) b)::(kG l8 ((6,.i n3)::(kAO x7 n10 ((9,.i n9)::(10,.int .u64 x15)::(20,vl (qa .u64) a)::(kAL (a.length:Int) n3 ((27,vl (qa .u64) b)::(kBH (b.length:Int) n9)))))))) (ac (iv qI (qa .u64) e_x15) (ac (lv 0 zu (qa .u64) e_x15 rfl) az)) ?_)
       obtain⟨r16,e_r16,g13⟩:=bnd g13
       refine sq (gr fol [2] ((1,vl (qa .u64) b)::(kG l8 ((6,.i n3)::(kAO x7 n10 ((9,.i n9)::(kAN r16.1 r16.2 ((20,vl (qa .u64) a)::(kAL (a.length:Int) n3 ((27,vl (qa .u64) b)::(kBH (b.length:Int) n9)))))))))) (ac (cv (qaS x7 x15 e_r16)) az) ?_)
       refine sh fol ((1,vl (qa .u64) b)::(kG l8 ((6,.i n3)::(kAO x7 n10 ((9,.i n9)::(kAN r16.1 r16.2 ((20,vl (qa .u64) a)::(kAL (a.length:Int) n3 ((27,vl (qa .u64) b)::(kBH (b.length:Int) n9)))))))))) ?_
       obtain⟨x17,e_x17,g13⟩:=bnd g13
       obtain⟨r18,e_r18,g13⟩:=bnd g13
       refine sq (gr fol [5,6,7] ((1,vl (qa .u64) b)::(kG l8 ((6,.i n3)::(kAO x7 n10 ((9,.i n9)::(kAN r16.1 r18.1 ((13,.int .u64 r18.2)::(20,vl (qa .u64) a)::(kAL (a.length:Int) n3 ((27,vl (qa .u64) b)::(kBH (b.length:Int) n9)))))))))) (ac (hs (.done (.opt (qf Tryz.prog 104 (.slice 0 0 l8.length l8.length 1) (.i (w64 (n3+n9))))) (.ptr 0 ((w64 (n3+n9):Int).toNat*1+0))) (xP qI e_x17)) (ac (hs (.run [0] (zJ Tryz.prog 212 (.ptr 0 ((w64 (n3+n9):Int).toNat*1+0))) [.cells (l8.flatMap (qa .u64).c)] (.int .u64 x17) [.cells (l8.flatMap (qa .u64).c)] false) (qbT zu (E:=(qa .u64)) (l:=l8) rfl rfl e_x17 (nl rfl) rfl)) (ac (cv (qbB r16.2 x17 0 e_r18)) az))) ?_)
       refine sh fol ((1,vl (qa .u64) b)::(kG l8 ((6,.i n3)::(kAO x7 n10 ((9,.i n9)::(kAN (IntKind.wrap .u64 (r16.1+r18.2)) r18.1 ((20,vl (qa .u64) a)::(kAL (a.length:Int) n3 ((27,vl (qa .u64) b)::(kBH (b.length:Int) n9)))))))))) ?_
       obtain⟨r19,e_r19,g13⟩:=bnd g13
       refine sq (gr fol [2] ((1,vl (qa .u64) b)::(kG l8 ((6,.i n3)::(kAv x7 ((9,.i n9)::(kAN (IntKind.wrap .u64 (r16.1+r18.2)) r19.1 ((13,.int .u64 r19.2)::(20,vl (qa .u64) a)::(kAL (a.length:Int) n3 ((27,vl (qa .u64) b)::(kBH (b.length:Int) n9)))))))))) (ac (cv (qbB r18.1 n10 0 e_r19)) az) ?_)
       obtain⟨l20,e_l20,g13⟩:=bnd g13
       refine gq fol [8,9] ((1,vl (qa .u64) b)::(kG l8 ((6,.i n3)::(kAO x7 (IntKind.wrap .u64 ((IntKind.wrap .u64 (r16.1+r18.2))+r19.2)) ((20,vl (qa .u64) a)::(kAL (a.length:Int) n3 ((27,vl (qa .u64) b)::(kBH (b.length:Int) n9)))))))) [.cells (l20.flatMap (qa .u64).c)] (ac (hs (.done (.opt (qf Tryz.prog 104 (.slice 0 0 l8.length l8.length 1) (.i (w64 (n3+n9))))) (.ptr 0 ((w64 (n3+n9):Int).toNat*1+0))) (xP qI e_x17)) (ac (hs (.run [0] (qp Tryz.prog 212 (.ptr 0 ((w64 (n3+n9):Int).toNat*1+0)) (.int .u64 r19.1)) [.cells (l8.flatMap (qa .u64).c)] .undef [.cells (l20.flatMap (qa .u64).c)] true) (xu (E:=(qa .u64)) (l:=l8) (y:=r19.1) rfl (show _=some 1 by kernel_rfl) rfl e_x17 rfl rfl rfl rfl rfl e_l20 rfl)) az)) ?_
       refine Goes.sub (show Sub (ofG 80 ((1,vl (qa .u64) b)::(kG l8 ((6,.i n3)::(kAO x7 (IntKind.wrap .u64 ((IntKind.wrap .u64 (r16.1+r18.2))+r19.2)) ((20,vl (qa .u64) a)::(kAL (a.length:Int) n3 ((27,vl (qa .u64) b)::(kBH (b.length:Int) n9)))))))),[.cells (l20.flatMap (qa .u64).c)]) (ofG 80 ((1,vl (qa .u64) b)::(kG l20 ((6,.i n3)::(kAO x7 (IntKind.wrap .u64 ((IntKind.wrap .u64 (r16.1+r18.2))+r19.2)) ((20,vl (qa .u64) a)::(kAL (a.length:Int) n3 ((27,vl (qa .u64) b)::(kBH (b.length:Int) n9)))))))),[.cells (l20.flatMap (qa .u64).c)])from(Sub.norm [] [some 0] rfl rfl (.keep (.same (qg (qa .u64) _)) (.keep (.sliceE rfl (jP e_l20)) (.keep (.same nI) (.keep (.same nI) (.keep (.same nI) (.keep (.same (qg (qa .u64) _)) (.keep (.same nI) (.keep (.same nI) (.keep (.same (qg (qa .u64) _)) (.keep (.same nI) (.keep (.same nI) .nil))))))))))) (.ks .nil))) ?_
       refine gh fol ((1,vl (qa .u64) b)::(kG l20 ((6,.i n3)::(kAO x7 (IntKind.wrap .u64 ((IntKind.wrap .u64 (r16.1+r18.2))+r19.2)) ((20,vl (qa .u64) a)::(kAL (a.length:Int) n3 ((27,vl (qa .u64) b)::(kBH (b.length:Int) (w64 (n9+1)))))))))) ?_
       exact⟨M,(ofG 80 ((1,vl (qa .u64) b)::(kG l20 ((6,.i n3)::(kAO x7 (IntKind.wrap .u64 ((IntKind.wrap .u64 (r16.1+r18.2))+r19.2)) ((20,vl (qa .u64) a)::(kAL (a.length:Int) n3 ((27,vl (qa .u64) b)::(kBH (b.length:Int) (w64 (n9+1)))))))))),[.cells (l20.flatMap (qa .u64).c)]),Nat.lt_succ_self _,(Sub.refl _),_,_,_,rfl,g13⟩
      ·refine Goes.exit ?_
       obtain rfl:=si g13
       exact⟨rfl,_,_,rfl,(Sub.keep [1,5,6,8,20,21,22] rfl rfl)⟩
    rintro x s' ⟨rfl,l11,n12,rfl,hsub⟩
    try dsimp only at g5
    refine Goes.sub hsub ?_
    obtain⟨x21,e_x21,g5⟩:=bnd g5
    obtain⟨l22,e_l22,g5⟩:=bnd g5
    refine gq fol [6,7] ((1,vl (qa .u64) b)::(kG l11 ((20,vl (qa .u64) a)::(kAL (a.length:Int) n3 [])))) [.cells (l22.flatMap (qa .u64).c)] (ac (hs (.done (.opt (qf Tryz.prog 104 (.slice 0 0 l11.length l11.length 1) (.i (w64 (n3+(b.length:Int)))))) (.ptr 0 ((w64 (n3+(b.length:Int)):Int).toNat*1+0))) (xP qI e_x21)) (ac (hs (.run [0] (qp Tryz.prog 212 (.ptr 0 ((w64 (n3+(b.length:Int)):Int).toNat*1+0)) (.int .u64 n12)) [.cells (l11.flatMap (qa .u64).c)] .undef [.cells (l22.flatMap (qa .u64).c)] true) (xu (E:=(qa .u64)) (l:=l11) (y:=n12) rfl (show _=some 1 by kernel_rfl) rfl e_x21 rfl rfl rfl rfl rfl e_l22 rfl)) az)) ?_
    refine Goes.sub (show Sub (ofG 80 ((1,vl (qa .u64) b)::(kG l11 ((20,vl (qa .u64) a)::(kAL (a.length:Int) n3 [])))),[.cells (l22.flatMap (qa .u64).c)]) (ofG 80 ((1,vl (qa .u64) b)::(kG l22 ((20,vl (qa .u64) a)::(kAL (a.length:Int) n3 [])))),[.cells (l22.flatMap (qa .u64).c)])from(Sub.norm [] [some 0] rfl rfl (.keep (.same (qg (qa .u64) _)) (.keep (.sliceE rfl (jP e_l22)) (.keep (.same (qg (qa .u64) _)) (.keep (.same nI) (.keep (.same nI) .nil))))) (.ks .nil))) ?_
    refine gh fol ((1,vl (qa .u64) b)::(kG l22 ((20,vl (qa .u64) a)::(kAL (a.length:Int) (w64 (n3+1)) [])))) ?_
    exact⟨M,(ofG 80 ((1,vl (qa .u64) b)::(kG l22 ((20,vl (qa .u64) a)::(kAL (a.length:Int) (w64 (n3+1)) [])))),[.cells (l22.flatMap (qa .u64).c)]),Nat.lt_succ_self _,(Sub.refl _),_,_,rfl,g5⟩
   ·refine Goes.exit ?_
    obtain rfl:=si g5
    exact⟨rfl,_,rfl,(Sub.keep [5] rfl rfl)⟩
 rintro x s' ⟨rfl,l4,rfl,hsub⟩
 refine Goes.sub hsub ?_
 obtain⟨r23,e_r23,h⟩:=bnd h
 refine sq (gq fol [1] [(4,vl (qa .u64) r23)] [.frozen (l4.flatMap (qa .u64).c)] (ac (hs (.callF 215 [.slice 0 0 l4.length l4.length 1] [.cells (l4.flatMap (qa .u64).c)] [0] [vl (qa .u64) l4] (vl (qa .u64) r23)) (xZ (FzL.cons (Fz.sl (E:=(qa .u64)) rfl rfl (nl rfl)) FzL.nil) (yB N l4 e_r23) (qo (qa .u64) _ (nl rfl)))) az) ?_)
 refine Goes.sub (show Sub (ofG 80 [(4,vl (qa .u64) r23)],[.frozen (l4.flatMap (qa .u64).c)]) (ofG 80 [(4,vl (qa .u64) r23)],[])from(Sub.norm [] [] rfl rfl (.keep (.same (qg (qa .u64) _)) .nil) .nil)) ?_
 refine Goes.ret ?_
 obtain rfl:=si h
 exact(gw2 [vl (qa .u64) r23] (FzW.still (qo (qa .u64) _ (nl rfl))))
def qC (N:Nat) (a:qj) (b:qj):Option qj:=
 (if a.w.isEmpty=true then
 some b.w.isEmpty
 else
 some false:Option Bool).bind fun b2=>
 ((if b2=true then
 (qbI a.s).bind fun r7=>
 (qbI b.s).bind fun r8=>
 (bits_Mul64 r7 r8).bind fun r9=>
 (if r9.1=0 then
 some (decide (r9.2≤9223372036854775807))
 else
 some false:Option Bool).bind fun b11=>
 if b11=true then
 if(!((decide (a.s<0))==(decide (b.s<0))))=true then
 some (.inr (⟨w64 (0-(w64 r9.2)),[]⟩:qj))
 else
 some (.inr (⟨w64 r9.2,[]⟩:qj))
 else
 some (.inl ())
 else
 some (.inl ()):Option (Unit⊕qj))).bind (fun
 |(.inl ())=>
 (qE a).bind fun r15=>
 (qE b).bind fun r16=>
 (xH N r15.2 r16.2).bind fun r17=>
 (jE (!(r15.1==r16.1)) r17).bind fun r18=>
 some r18
 |(.inr q19)=>
 some q19)
theorem zw (N:Nat) (a:qj) (b:qj) {res:qj} (h:qC N a b=some res):qb Tryz.prog (.fn 150) [.agg [.i a.s,nvl (qa .u64) a.w],.agg [.i b.s,nvl (qa .u64) b.w]] [] (.agg [.i res.s,nvl (qa .u64) res.w]) []:=by
 unfold qC at h
 refine Goes.fnW Tryz.func150 rfl rfl (m:=66) rfl (rs:=[.cell 4 106]) rfl (l:=[(0,.agg [.i a.s,nvl (qa .u64) a.w]),(1,.agg [.i b.s,nvl (qa .u64) b.w])]) rfl ?_
 refine sg fol (kH []) [.cells [.i a.s,nvl (qa .u64) a.w],.cells [.i b.s,nvl (qa .u64) b.w],bZ] ?_
 refine sq ?_
 refine sq ?_
 obtain⟨b2,g_v3,h⟩:=bnd h
 refine Goes.cut (s':=(ofG 66 (kH [(18,.bool b2)]),[.cells [.i a.s,nvl (qa .u64) a.w],.cells [.i b.s,nvl (qa .u64) b.w],bZ])) ?_ ?_
 ·rcases wyB g_v3 with⟨c1,g_v3⟩|⟨c1,g_v3⟩
  ·obtain rfl:=si g_v3
   exact tr fol [2,3,6] (kH [(18,.bool b.w.isEmpty)]) (ac (hs (.done (.opt (qY Tryz.prog .eql 104 (.tmp 12) (.const (.slice none 0 0)) (nvl (qa .u64) a.w) .nilslice)) (.bool a.w.isEmpty)) (xV vD)) (ac (gw c1) (ac (hs (.done (.opt (qY Tryz.prog .eql 104 (.tmp 16) (.const (.slice none 0 0)) (nvl (qa .u64) b.w) .nilslice)) (.bool b.w.isEmpty)) (xV vD)) az)))
  ·obtain rfl:=si g_v3
   exact tr fol [2,3] (kH [(18,.bool false)]) (ac (hs (.done (.opt (qY Tryz.prog .eql 104 (.tmp 12) (.const (.slice none 0 0)) (nvl (qa .u64) a.w) .nilslice)) (.bool a.w.isEmpty)) (xV vD)) (ac (gw c1) az))
 obtain⟨r4,g4,h⟩:=bnd h
 refine Goes.imp (Q:=fun x s'=>(x= .normal∧(.inl ())=r4∧Sub s' (ofG 66 (kH []),[.cells [.i a.s,nvl (qa .u64) a.w],.cells [.i b.s,nvl (qa .u64) b.w],bZ]))∨(x= .ret∧ ∃q5,(.inr q5)=r4∧vK Tryz.prog [.cell 4 106] (.agg [.i q5.s,nvl (qa .u64) q5.w]) .ret s')) ?_ ?_
 ·refine ihB g4 (fun c6 g4=>?_) (fun c6 g4=>?_)
  ·obtain⟨r7,e_r7,g4⟩:=bnd g4
   obtain⟨r8,e_r8,g4⟩:=bnd g4
   obtain⟨r9,e_r9,g4⟩:=bnd g4
   refine sq (gr fol [2,5,6] (kH ((5,.int .u64 r9.1)::(kAe r9.2 []))) (ac (cv (qdk a.s e_r7)) (ac (cv (qdk b.s e_r8)) (ac (cv (qaS r7 r8 e_r9)) az))) ?_)
   refine sq ?_
   obtain⟨b11,g_v12,g4⟩:=bnd g4
   refine Goes.cut (s':=(ofG 66 (kH (kAe r9.2 [(34,.bool b11)])),[.cells [.i a.s,nvl (qa .u64) a.w],.cells [.i b.s,nvl (qa .u64) b.w],bZ])) ?_ ?_
   ·rcases wyD g_v12 with⟨c10,g_v12⟩|⟨c10,g_v12⟩
    ·obtain rfl:=si g_v12
     exact tr fol [2] (kH (kAe r9.2 [(34,.bool (decide (r9.2≤9223372036854775807)))])) (ac (gw c10) az)
    ·obtain rfl:=si g_v12
     exact tr fol [2] (kH (kAe r9.2 [(34,.bool false)])) (ac (gw c10) az)
   refine ihB g4 (fun c13 g4=>?_) (fun c13 g4=>?_)
   ·refine sq ?_
    refine sh fol (kAU (kAe r9.2 [(41,.bool (!((decide (a.s<0))==(decide (b.s<0)))))])) ?_
    refine ihB g4 (fun c14 g4=>?_) (fun c14 g4=>?_)
    ·refine sg fol (kAU []) (.cells [.i a.s,nvl (qa .u64) a.w]:: .cells [.i b.s,nvl (qa .u64) b.w]::(kBP (w64 (0-(w64 r9.2))))) ?_
     refine Goes.ret ?_
     obtain rfl:=si g4
     exact Or.inr (⟨rfl,_,rfl,(gw2 [.agg [.i (w64 (0-(w64 r9.2))),.nilslice]] (FzW.agg (qd.cons (FzW.still tI) (qd.cons (FzW.nv0 (E:=(qa .u64))) qd.nil))))⟩)
    ·refine Goes.skip ?_
     refine sg fol (kAU []) (.cells [.i a.s,nvl (qa .u64) a.w]:: .cells [.i b.s,nvl (qa .u64) b.w]::(kBP (w64 r9.2))) ?_
     refine Goes.ret ?_
     obtain rfl:=si g4
     exact Or.inr (⟨rfl,_,rfl,(gw2 [.agg [.i (w64 r9.2),.nilslice]] (FzW.agg (qd.cons (FzW.still tI) (qd.cons (FzW.nv0 (E:=(qa .u64))) qd.nil))))⟩)
   ·refine Goes.skip ?_
    obtain rfl:=si g4
    exact Or.inl (⟨rfl,rfl,(Sub.keep [2,3,4] rfl rfl)⟩)
  ·refine Goes.skip ?_
   obtain rfl:=si g4
   exact Or.inl (⟨rfl,rfl,(Sub.keep [2,3,4] rfl rfl)⟩)
 rintro x s' (⟨rfl,rfl,hsub⟩|⟨rfl,q19,rfl,hret⟩)
 ·try dsimp only at h
  refine Goes.sub hsub ?_
  obtain⟨r15,e_r15,h⟩:=bnd h
  refine sq (gr fol [1] ((3,.ptr 1 0)::(kAU [(7,.bool r15.1),(8,vl (qa .u64) r15.2)])) (ac (cv (zn a e_r15)) az) ?_)
  obtain⟨r16,e_r16,h⟩:=bnd h
  refine sq (gr fol [1] (kAU [(7,.bool r15.1),(8,vl (qa .u64) r15.2),(9,.bool r16.1),(10,vl (qa .u64) r16.2)]) (ac (cv (zn b e_r16)) az) ?_)
  obtain⟨r17,e_r17,h⟩:=bnd h
  obtain⟨r18,e_r18,h⟩:=bnd h
  refine sq (gq fol [5,6,7] (kAU []) [.cells [.i a.s,nvl (qa .u64) a.w],.cells [.i b.s,nvl (qa .u64) b.w],.cells [.i r18.s,nvl (qa .u64) r18.w]] (ac (cv (qfD N r15.2 r16.2 e_r17)) (ac (cv (xy (!(r15.1==r16.1)) r17 e_r18)) (ac (hs (.run [2] (qp Tryz.prog 106 (.ptr 2 0) (.agg [.i r18.s,nvl (qa .u64) r18.w])) [.cells [.i a.s,nvl (qa .u64) a.w],.cells [.i b.s,nvl (qa .u64) b.w],bZ] .undef [.cells [.i a.s,nvl (qa .u64) a.w],.cells [.i b.s,nvl (qa .u64) b.w],.cells [.i r18.s,nvl (qa .u64) r18.w]] true) (kW (n:=2) (by kernel_rfl) rfl rfl rfl rfl (cac rfl (cac nvc can)) rfl)) az))) ?_)
  refine Goes.ret ?_
  obtain rfl:=si h
  exact(gw2 [.agg [.i r18.s,nvl (qa .u64) r18.w]] (FzW.agg (qd.cons (FzW.still tI) (qd.cons (FzW.still (qx (qa .u64) _ (nl rfl))) qd.nil))))
 ·try dsimp only at h
  obtain rfl:=si h
  exact hret
def jD (N:Nat):Nat→Int→(List Int)→Int→(List Int)→Int→Option (Int×(List Int))
 |0,_,_,_,_,_=>none
 |K+1,n2,l3,n4,l5,n6=>
  if n6>0 then
  ((((if(qy .i64 n6 1)=1 then
  (qC N (⟨n4,l5⟩:qj) (⟨n2,l3⟩:qj)).bind fun r20=>
  some (r20.s,r20.w)
  else
  some (n4,l5):Option (Int×(List Int)))).bind fun(n16,l17)=>
  if n6>1 then
  (qC N (⟨n2,l3⟩:qj) (⟨n2,l3⟩:qj)).bind fun r22=>
  some (r22.s,r22.w,n16,l17)
  else
  some (n2,l3,n16,l17):Option (Int×(List Int)×Int×(List Int)))).bind fun(n11,l12,n13,l14)=>
  jD N K n11 l12 n13 l14 (qm .i64 n6 1)
  else
  some (n4,l5)
def qa1 (N:Nat) (a:qj) (k:Int):Option qj:=
 (qb4 1).bind fun r1=>
 (jD N N a.s a.w r1.s r1.w k).bind fun(n7,l8)=>
 some (⟨n7,l8⟩:qj)
theorem qg5 (N:Nat) (a:qj) (k:Int) {res:qj} (h:qa1 N a k=some res):qb Tryz.prog (.fn 158) [.agg [.i a.s,nvl (qa .u64) a.w],.i k] [] (.agg [.i res.s,nvl (qa .u64) res.w]) []:=by
 unfold qa1 at h
 refine Goes.fnW Tryz.func158 rfl rfl (m:=23) rfl (rs:=[.cell 4 106]) rfl (l:=[(0,.agg [.i a.s,nvl (qa .u64) a.w]),(1,.i k)]) rfl ?_
 refine sg fol ((1,.i k)::(kAM (kBm []))) [.cells [.i a.s,nvl (qa .u64) a.w],bZ] ?_
 obtain⟨r1,e_r1,h⟩:=bnd h
 refine sq (gq fol [0,2] ((1,.i k)::(kAM (kAt []))) [.cells [.i a.s,nvl (qa .u64) a.w],bZ,.cells [.i r1.s,nvl (qa .u64) r1.w]] (ac (cv (qbr 1 e_r1)) (ac (hs (.run [2] (qp Tryz.prog 106 (.ptr 2 0) (.agg [.i r1.s,nvl (qa .u64) r1.w])) [.cells [.i a.s,nvl (qa .u64) a.w],bZ,bZ] .undef [.cells [.i a.s,nvl (qa .u64) a.w],bZ,.cells [.i r1.s,nvl (qa .u64) r1.w]] true) (kW (n:=2) (by kernel_rfl) rfl rfl rfl rfl (cac rfl (cac nvc can)) rfl)) az)) ?_)
 refine sq (Goes.block ?_)
 obtain⟨r9,g9,h⟩:=bnd h
 refine Goes.imp (Q:=fun x s'=>(x= .exit 0∧ ∃n7 l8,(n7,l8)=r9∧Sub s' (ofG 23 (kY (kBx [])),[bZ,.cells [.i n7,nvl (qa .u64) l8]]))) ?_ ?_
 ·refine Goes.loopS (fun M s=> ∃(n2:Int) (l3:List Int) (n4:Int) (l5:List Int) (n6:Int),s=(ofG 23 ((1,.i n6)::(kAM (kAt []))),[.cells [.i n2,nvl (qa .u64) l3],bZ,.cells [.i n4,nvl (qa .u64) l5]])∧jD N M n2 l3 n4 l5 n6=some r9) ?_ (m:=N) ⟨_,_,_,_,_,rfl,g9⟩
  rintro M s ⟨n2,l3,n4,l5,n6,rfl,g9⟩
  cases M with
  |zero=>simp only[jD]at g9;cases g9
  |succ M=>
   rw[jD]at g9
   refine sq ?_
   refine sh fol ((1,.i n6)::(kAM (kAt (kAz (decide (n6>0)))))) ?_
   refine ihD g9 (fun c10 g9=>?_) (fun c10 g9=>?_)
   ·refine Goes.skip ?_
    refine sq ?_
    obtain⟨r15,g15,g9⟩:=bnd g9
    refine Goes.imp (Q:=fun x s'=>(x= .normal∧ ∃n11 l12 n13 l14,(n11,l12,n13,l14)=r15∧Sub s' (ofG 23 ((1,.i n6)::(kAM (kAt []))),[.cells [.i n11,nvl (qa .u64) l12],bZ,.cells [.i n13,nvl (qa .u64) l14]]))) ?_ ?_
    ·refine Goes.block ?_
     refine sq ?_
     refine sh fol ((1,.i n6)::(kAM (kAt (kBT (decide ((qy .i64 n6 1)=1)))))) ?_
     obtain⟨r18,g18,g15⟩:=bnd g15
     refine Goes.imp (Q:=fun x s'=>(x= .normal∧ ∃n16 l17,(n16,l17)=r18∧Sub s' (ofG 23 ((1,.i n6)::(kAM (kAt []))),[.cells [.i n2,nvl (qa .u64) l3],bZ,.cells [.i n16,nvl (qa .u64) l17]]))) ?_ ?_
     ·refine ihD g18 (fun c19 g18=>?_) (fun c19 g18=>?_)
      ·obtain⟨r20,e_r20,g18⟩:=bnd g18
       refine gq fol [2,3] ((1,.i n6)::(kAM (kAt []))) [.cells [.i n2,nvl (qa .u64) l3],bZ,.cells [.i r20.s,nvl (qa .u64) r20.w]] (ac (cv (zw N (⟨n4,l5⟩:qj) (⟨n2,l3⟩:qj) e_r20)) (ac (hs (.run [2] (qp Tryz.prog 106 (.ptr 2 0) (.agg [.i r20.s,nvl (qa .u64) r20.w])) [.cells [.i n2,nvl (qa .u64) l3],bZ,.cells [.i n4,nvl (qa .u64) l5]] .undef [.cells [.i n2,nvl (qa .u64) l3],bZ,.cells [.i r20.s,nvl (qa .u64) r20.w]] true) (kW (n:=2) (by kernel_rfl) rfl rfl rfl rfl (cac rfl (cac nvc can)) rfl)) az)) ?_
       obtain rfl:=si g18
       exact⟨rfl,_,_,rfl,(Sub.refl _)⟩
      ·refine Goes.skip ?_
       obtain rfl:=si g18
       exact⟨rfl,_,_,rfl,(Sub.keep [1,2,4,5] rfl rfl)⟩
     rintro x s' ⟨rfl,n16,l17,rfl,hsub⟩
     try dsimp only at g15
     refine Goes.sub hsub ?_
     refine sh fol ((1,.i n6)::(kAM (kAt [(18,.bool (decide (n6>1)))]))) ?_
     refine ihD g15 (fun c21 g15=>?_) (fun c21 g15=>?_)
     ·obtain⟨r22,e_r22,g15⟩:=bnd g15
      refine gq fol [2,3] ((1,.i n6)::(kAM (kAt []))) [.cells [.i r22.s,nvl (qa .u64) r22.w],bZ,.cells [.i n16,nvl (qa .u64) l17]] (ac (cv (zw N (⟨n2,l3⟩:qj) (⟨n2,l3⟩:qj) e_r22)) (ac (hs (.run [0] (qp Tryz.prog 106 (.ptr 0 0) (.agg [.i r22.s,nvl (qa .u64) r22.w])) [.cells [.i n2,nvl (qa .u64) l3],bZ,.cells [.i n16,nvl (qa .u64) l17]] .undef [.cells [.i r22.s,nvl (qa .u64) r22.w],bZ,.cells [.i n16,nvl (qa .u64) l17]] true) (kW (n:=2) (by kernel_rfl) rfl rfl rfl rfl (cac rfl (cac nvc can)) rfl)) az)) ?_
      obtain rfl:=si g15
      exact⟨rfl,_,_,_,_,rfl,(Sub.refl _)⟩
     ·refine Goes.skip ?_
      obtain rfl:=si g15
      exact⟨rfl,_,_,_,_,rfl,(Sub.keep [1,2,4,5] rfl rfl)⟩
    rintro x s' ⟨rfl,n11,l12,n13,l14,rfl,hsub⟩
    try dsimp only at g9
    refine Goes.sub hsub ?_
    refine gh fol ((1,.i (qm .i64 n6 1))::(kAM (kAt []))) ?_
    exact⟨M,(ofG 23 ((1,.i (qm .i64 n6 1))::(kAM (kAt []))),[.cells [.i n11,nvl (qa .u64) l12],bZ,.cells [.i n13,nvl (qa .u64) l14]]),Nat.lt_succ_self _,(Sub.refl _),_,_,_,_,_,rfl,g9⟩
   ·refine Goes.exit ?_
    obtain rfl:=si g9
    exact⟨rfl,_,_,rfl,(Sub.norm [] [some 1,some 2] rfl rfl (.drop (.drop (.kp (.kp .nil)))) (.kb rfl (.same sn) (.kb rfl (.same sn) .nil)))⟩
 rintro x s' ⟨rfl,n7,l8,rfl,hsub⟩
 try dsimp only at h
 refine Goes.sub hsub ?_
 refine sq (gq fol [1] (kY []) [.cells [.i n7,nvl (qa .u64) l8],.cells [.i n7,nvl (qa .u64) l8]] (ac (hs (.run [0] (qp Tryz.prog 106 (.ptr 0 0) (.agg [.i n7,nvl (qa .u64) l8])) [bZ,.cells [.i n7,nvl (qa .u64) l8]] .undef [.cells [.i n7,nvl (qa .u64) l8],.cells [.i n7,nvl (qa .u64) l8]] true) (kW (n:=2) (by kernel_rfl) rfl rfl rfl rfl (cac rfl (cac nvc can)) rfl)) az) ?_)
 refine Goes.ret ?_
 obtain rfl:=si h
 exact(gw2 [.agg [.i n7,nvl (qa .u64) l8]] (FzW.agg (qd.cons (FzW.still tI) (qd.cons (FzW.still (qx (qa .u64) _ (nl rfl))) qd.nil))))
def strings_HasPrefix (s_:Str) (prefix_:Str):Option Bool:=
 (stringslite_HasPrefix s_ prefix_).bind fun r1=>
 some r1
theorem qdH (s_:Str) (prefix_:Str) {res:Bool} (h:strings_HasPrefix s_ prefix_=some res):qb Tryz.prog (.fn 185) (kAR s_ prefix_) [] (.bool res) []:=by
 unfold strings_HasPrefix at h
 refine Goes.fnW Tryz.func185 rfl rfl (m:=8) rfl (rs:=[.tmp 4]) rfl (l:=(kJ s_ prefix_ [])) rfl ?_
 refine sh fol (kJ s_ prefix_ []) ?_
 obtain⟨r1,e_r1,h⟩:=bnd h
 refine sq (gr fol [2] (kAl r1) (ac (cv (vR s_ prefix_ e_r1)) az) ?_)
 refine Goes.ret ?_
 obtain rfl:=si h
 exact(gw2 [.bool r1] (FzW.still tB))
def stringslite_TrimPrefix (s_:Str) (prefix_:Str):Option Str:=
 (stringslite_HasPrefix s_ prefix_).bind fun r1=>
 if r1=true then
 (cut s_ (prefix_.length:Int) (s_.length:Int)).bind fun s3=>
 some s3
 else
 some s_
theorem qbU (s_:Str) (prefix_:Str) {res:Str} (h:stringslite_TrimPrefix s_ prefix_=some res):qb Tryz.prog (.fn 227) (kAR s_ prefix_) [] (.str res) []:=by
 unfold stringslite_TrimPrefix at h
 refine Goes.fnW Tryz.func227 rfl rfl (m:=13) rfl (rs:=[.tmp 4]) rfl (l:=(kJ s_ prefix_ [])) rfl ?_
 refine sh fol (kJ s_ prefix_ []) ?_
 refine sq ?_
 obtain⟨r1,e_r1,h⟩:=bnd h
 refine sq (gr fol [2] (kJ s_ prefix_ [(7,.bool r1)]) (ac (cv (vR s_ prefix_ e_r1)) az) ?_)
 refine ihB h (fun c2 h=>?_) (fun c2 h=>?_)
 ·obtain⟨s3,e_s3,h⟩:=bnd h
  refine sq (gr fol [3] (kBb s3) (ac (hs (.done (.opt (qR Tryz.prog 9 (.str s_) (some (.i (prefix_.length:Int))) none none)) (.str s3)) (zC st9 (some (prefix_.length:Int)) none e_s3)) az) ?_)
  refine Goes.ret ?_
  obtain rfl:=si h
  exact(gw2 [.str s3] (FzW.still tS))
 ·refine Goes.skip ?_
  refine sh fol (kBb s_) ?_
  refine Goes.ret ?_
  obtain rfl:=si h
  exact(gw2 [.str s_] (FzW.still tS))
def strings_TrimPrefix (s_:Str) (prefix_:Str):Option Str:=
 (stringslite_TrimPrefix s_ prefix_).bind fun r1=>
 some r1
theorem qaF (s_:Str) (prefix_:Str) {res:Str} (h:strings_TrimPrefix s_ prefix_=some res):qb Tryz.prog (.fn 186) (kAR s_ prefix_) [] (.str res) []:=by
 unfold strings_TrimPrefix at h
 refine Goes.fnW Tryz.func186 rfl rfl (m:=8) rfl (rs:=[.tmp 4]) rfl (l:=(kJ s_ prefix_ [])) rfl ?_
 refine sh fol (kJ s_ prefix_ []) ?_
 obtain⟨r1,e_r1,h⟩:=bnd h
 refine sq (gr fol [2] (kBb r1) (ac (cv (qbU s_ prefix_ e_r1)) az) ?_)
 refine Goes.ret ?_
 obtain rfl:=si h
 exact(gw2 [.str r1] (FzW.still tS))
def yz (N:Nat):Nat→Int→(List Int)→Str→Option (Int×(List Int))
 |0,_,_,_=>none
 |K+1,n3,l4,s5=>
  if(s5.length:Int)>0 then
  (cut s5 0 (if(s5.length:Int)<18 then(s5.length:Int)else 18)).bind fun s10=>
  (qjz s10).bind fun r11=>
  (qb4 10).bind fun r12=>
  (qa1 N r12 (if(s5.length:Int)<18 then(s5.length:Int)else 18)).bind fun r13=>
  (qC N (⟨n3,l4⟩:qj) r13).bind fun r14=>
  (qb4 r11.1).bind fun r15=>
  (jC N r14 r15).bind fun r16=>
  (cut s5 (if(s5.length:Int)<18 then(s5.length:Int)else 18) (s5.length:Int)).bind fun s17=>
  yz N K r16.s r16.w s17
  else
  some (n3,l4)
def qaw (N:Nat) (s_:Str):Option qj:=
 (strings_HasPrefix s_ [45]).bind fun r1=>
 (strings_TrimPrefix s_ [45]).bind fun r2=>
 (yz N N 0 [] r2).bind fun(n6,l7)=>
 if r1=true then
 (ze (⟨n6,l7⟩:qj)).bind fun r19=>
 some r19
 else
 some (⟨n6,l7⟩:qj)
theorem qaY (N:Nat) (s_:Str) {res:qj} (h:qaw N s_=some res):qb Tryz.prog (.fn 132) [.str s_] [] (.agg [.i res.s,nvl (qa .u64) res.w]) []:=by
 unfold qaw at h
 refine Goes.fnW Tryz.func132 rfl rfl (m:=41) rfl (rs:=[.cell 2 106]) rfl (l:=(kAQ s_ [])) rfl ?_
 refine sg fol (kAQ s_ (kAM [])) [bZ] ?_
 obtain⟨r1,e_r1,h⟩:=bnd h
 refine sq (gr fol [1] (kAB s_ r1 []) (ac (cv (qdH s_ [45] e_r1)) az) ?_)
 obtain⟨r2,e_r2,h⟩:=bnd h
 refine sq (gr fol [1] (kAB r2 r1 []) (ac (cv (qaF s_ [45] e_r2)) az) ?_)
 refine sg fol (kAB r2 r1 (kBm [])) [bZ,bZ] ?_
 refine sq (Goes.block ?_)
 obtain⟨r8,g8,h⟩:=bnd h
 refine Goes.imp (Q:=fun x s'=>(x= .exit 0∧ ∃n6 l7,(n6,l7)=r8∧Sub s' (ofG 41 (kAM ((3,.bool r1)::(kBm []))),[bZ,.cells [.i n6,nvl (qa .u64) l7]]))) ?_ ?_
 ·refine Goes.loopS (fun M s=> ∃(n3:Int) (l4:List Int) (s5:Str),s=(ofG 41 (kAB s5 r1 (kBm [])),[bZ,.cells [.i n3,nvl (qa .u64) l4]])∧yz N M n3 l4 s5=some r8) ?_ (m:=N) ⟨_,_,_,rfl,g8⟩
  rintro M s ⟨n3,l4,s5,rfl,g8⟩
  cases M with
  |zero=>simp only[yz]at g8;cases g8
  |succ M=>
   rw[yz]at g8
   refine sq ?_
   refine sh fol (kAB s5 r1 (kBm (kBa (decide ((s5.length:Int)>0))))) ?_
   refine ihD g8 (fun c9 g8=>?_) (fun c9 g8=>?_)
   ·refine Goes.skip ?_
    refine Goes.block ?_
    refine sh fol (kAB s5 r1 (kBm (kA5 (if(s5.length:Int)<18 then(s5.length:Int)else 18)))) ?_
    obtain⟨s10,e_s10,g8⟩:=bnd g8
    obtain⟨r11,e_r11,g8⟩:=bnd g8
    refine sq (gr fol [2,3] (kAB s5 r1 (kBm (kBf (if(s5.length:Int)<18 then(s5.length:Int)else 18) r11.1 []))) (ac (hs (.done (.opt (qR Tryz.prog 9 (.str s5) none (some (.i (if(s5.length:Int)<18 then(s5.length:Int)else 18))) none)) (.str s10)) (zC st9 none (some (if(s5.length:Int)<18 then(s5.length:Int)else 18)) e_s10)) (ac (cv (qmW s10 e_r11)) az)) ?_)
    obtain⟨r12,e_r12,g8⟩:=bnd g8
    obtain⟨r13,e_r13,g8⟩:=bnd g8
    obtain⟨r14,e_r14,g8⟩:=bnd g8
    obtain⟨r15,e_r15,g8⟩:=bnd g8
    obtain⟨r16,e_r16,g8⟩:=bnd g8
    refine sq (gq fol [1,3,4,6,7,8] (kAB s5 r1 (kBm (kA5 (if(s5.length:Int)<18 then(s5.length:Int)else 18)))) [bZ,.cells [.i r16.s,nvl (qa .u64) r16.w]] (ac (cv (qbr 10 e_r12)) (ac (cv (qg5 N r12 (if(s5.length:Int)<18 then(s5.length:Int)else 18) e_r13)) (ac (cv (zw N (⟨n3,l4⟩:qj) r13 e_r14)) (ac (cv (qbr r11.1 e_r15)) (ac (cv (xw N r14 r15 e_r16)) (ac (hs (.run [1] (qp Tryz.prog 106 (.ptr 1 0) (.agg [.i r16.s,nvl (qa .u64) r16.w])) [bZ,.cells [.i n3,nvl (qa .u64) l4]] .undef [bZ,.cells [.i r16.s,nvl (qa .u64) r16.w]] true) (kW (n:=2) (by kernel_rfl) rfl rfl rfl rfl (cac rfl (cac nvc can)) rfl)) az)))))) ?_)
    obtain⟨s17,e_s17,g8⟩:=bnd g8
    refine gr fol [2] (kAB s17 r1 (kBm [])) (ac (hs (.done (.opt (qR Tryz.prog 9 (.str s5) (some (.i (if(s5.length:Int)<18 then(s5.length:Int)else 18))) none none)) (.str s17)) (zC st9 (some (if(s5.length:Int)<18 then(s5.length:Int)else 18)) none e_s17)) az) ?_
    exact⟨M,(ofG 41 (kAB s17 r1 (kBm [])),[bZ,.cells [.i r16.s,nvl (qa .u64) r16.w]]),Nat.lt_succ_self _,(Sub.refl _),_,_,_,rfl,g8⟩
   ·refine Goes.exit ?_
    obtain rfl:=si g8
    exact⟨rfl,_,_,rfl,(Sub.keep [2,3,4] rfl rfl)⟩
 rintro x s' ⟨rfl,n6,l7,rfl,hsub⟩
 try dsimp only at h
 refine Goes.sub hsub ?_
 refine sq ?_
 refine sh fol (kAM (kBm [(37,.bool r1)])) ?_
 refine ihB h (fun c18 h=>?_) (fun c18 h=>?_)
 ·obtain⟨r19,e_r19,h⟩:=bnd h
  refine sq (gq fol [1,2] (kAM []) [.cells [.i r19.s,nvl (qa .u64) r19.w],.cells [.i n6,nvl (qa .u64) l7]] (ac (cv (jG (⟨n6,l7⟩:qj) e_r19)) (ac (hs (.run [0] (qp Tryz.prog 106 (.ptr 0 0) (.agg [.i r19.s,nvl (qa .u64) r19.w])) [bZ,.cells [.i n6,nvl (qa .u64) l7]] .undef [.cells [.i r19.s,nvl (qa .u64) r19.w],.cells [.i n6,nvl (qa .u64) l7]] true) (kW (n:=2) (by kernel_rfl) rfl rfl rfl rfl (cac rfl (cac nvc can)) rfl)) az)) ?_)
  refine Goes.ret ?_
  obtain rfl:=si h
  exact(gw2 [.agg [.i r19.s,nvl (qa .u64) r19.w]] (FzW.agg (qd.cons (FzW.still tI) (qd.cons (FzW.still (qx (qa .u64) _ (nl rfl))) qd.nil))))
 ·refine Goes.skip ?_
  refine sq (gq fol [1] (kAM []) [.cells [.i n6,nvl (qa .u64) l7],.cells [.i n6,nvl (qa .u64) l7]] (ac (hs (.run [0] (qp Tryz.prog 106 (.ptr 0 0) (.agg [.i n6,nvl (qa .u64) l7])) [bZ,.cells [.i n6,nvl (qa .u64) l7]] .undef [.cells [.i n6,nvl (qa .u64) l7],.cells [.i n6,nvl (qa .u64) l7]] true) (kW (n:=2) (by kernel_rfl) rfl rfl rfl rfl (cac rfl (cac nvc can)) rfl)) az) ?_)
  refine Goes.ret ?_
  obtain rfl:=si h
  exact(gw2 [.agg [.i n6,nvl (qa .u64) l7]] (FzW.agg (qd.cons (FzW.still tI) (qd.cons (FzW.still (qx (qa .u64) _ (nl rfl))) qd.nil))))
def qaj (N:Nat) (a:qj) (b:qj):Option Int:=
 (if a.w.isEmpty=true then
 some b.w.isEmpty
 else
 some false:Option Bool).bind fun b2=>
 if b2=true then
 if a.s<b.s then
 some (-1)
 else
 if a.s>b.s then
 some 1
 else
 some 0
 else
 (yx N a b).bind fun r7=>
 (qZ r7).bind fun r8=>
 some r8
theorem qdi (N:Nat) (a:qj) (b:qj) {res:Int} (h:qaj N a b=some res):qb Tryz.prog (.fn 133) [.agg [.i a.s,nvl (qa .u64) a.w],.agg [.i b.s,nvl (qa .u64) b.w]] [] (.i res) []:=by
 unfold qaj at h
 refine Goes.fnW Tryz.func133 rfl rfl (m:=29) rfl (rs:=[.tmp 4]) rfl (l:=[(0,.agg [.i a.s,nvl (qa .u64) a.w]),(1,.agg [.i b.s,nvl (qa .u64) b.w])]) rfl ?_
 refine sg fol (kR []) [.cells [.i a.s,nvl (qa .u64) a.w],.cells [.i b.s,nvl (qa .u64) b.w]] ?_
 refine sq ?_
 refine sq ?_
 obtain⟨b2,g_v3,h⟩:=bnd h
 refine Goes.cut (s':=(ofG 29 (kR (kBU b2)),[.cells [.i a.s,nvl (qa .u64) a.w],.cells [.i b.s,nvl (qa .u64) b.w]])) ?_ ?_
 ·rcases wyB g_v3 with⟨c1,g_v3⟩|⟨c1,g_v3⟩
  ·obtain rfl:=si g_v3
   exact tr fol [2,3,6] (kR (kBU b.w.isEmpty)) (ac (hs (.done (.opt (qY Tryz.prog .eql 104 (.tmp 6) (.const (.slice none 0 0)) (nvl (qa .u64) a.w) .nilslice)) (.bool a.w.isEmpty)) (xV vD)) (ac (gw c1) (ac (hs (.done (.opt (qY Tryz.prog .eql 104 (.tmp 10) (.const (.slice none 0 0)) (nvl (qa .u64) b.w) .nilslice)) (.bool b.w.isEmpty)) (xV vD)) az)))
  ·obtain rfl:=si g_v3
   exact tr fol [2,3] (kR [(12,.bool false)]) (ac (hs (.done (.opt (qY Tryz.prog .eql 104 (.tmp 6) (.const (.slice none 0 0)) (nvl (qa .u64) a.w) .nilslice)) (.bool a.w.isEmpty)) (xV vD)) (ac (gw c1) az))
 refine ihB h (fun c4 h=>?_) (fun c4 h=>?_)
 ·refine sq (Goes.block ?_)
  refine sh fol (kR (kBT (decide (a.s<b.s)))) ?_
  refine ihD h (fun c5 h=>?_) (fun c5 h=>?_)
  ·refine sh fol [(4,.i (-1))] ?_
   refine Goes.ret ?_
   obtain rfl:=si h
   exact(gw2 [.i (-1)] (FzW.still tI))
  ·refine sh fol [(19,.bool (decide (a.s>b.s)))] ?_
   refine ihD h (fun c6 h=>?_) (fun c6 h=>?_)
   ·refine sh fol [(4,.i 1)] ?_
    refine Goes.ret ?_
    obtain rfl:=si h
    exact(gw2 [.i 1] (FzW.still tI))
   ·refine Goes.skip ?_
    refine sh fol [(4,.i 0)] ?_
    refine Goes.ret ?_
    obtain rfl:=si h
    exact(gw2 [.i 0] (FzW.still tI))
 ·refine Goes.skip ?_
  obtain⟨r7,e_r7,h⟩:=bnd h
  obtain⟨r8,e_r8,h⟩:=bnd h
  refine sq (gr fol [2,3] (kB7 r8) (ac (cv (qdF N a b e_r7)) (ac (cv (yP r7 e_r8)) az)) ?_)
  refine Goes.ret ?_
  obtain rfl:=si h
  exact(gw2 [.i r8] (FzW.still tI))
def xJ (N:Nat) (a:Str):Option Int:=
 (strings_CutPrefix a [45]).bind fun r1=>
 (strings_Cut r1.1 [47]).bind fun r2=>
 ((jh r2.1).bind fun r3=>
 if r3=true then
 if(!r1.2)=true then
 some true
 else
 some (!(r2.1==[48]))
 else
 some false:Option Bool).bind fun b6=>
 ((if r2.2.2=true then
 (if b6=true then
 (jh r2.2.1).bind fun r12=>
 if r12=true then
 if(!(r2.2.1==[48]))=true then
 some (!(r2.2.1==[49]))
 else
 some false
 else
 some false
 else
 some false:Option Bool).bind fun b15=>
 some b15
 else
 some b6:Option Bool)).bind fun b8=>
 ((qU (!b8) 1).bind fun r17=>
 if(r2.1.length:Int)>600 then
 (qU true 4).bind fun r19=>
 (jQ N ([r17,r19]:List Int)).bind fun r20=>
 some (r17,r19,r20)
 else
 (qU (decide ((r2.2.1.length:Int)>600)) 4).bind fun r21=>
 (jQ N ([r17,r21]:List Int)).bind fun r22=>
 some (r17,r21,r22):Option (Int×Int×Int)).bind fun(n23,n24,n25)=>
 if(!decide (n25=0))=true then
 some n25
 else
 (if r2.2.2=true then
 (qaw N r2.1).bind fun r29=>
 (qaw N r2.2.1).bind fun r30=>
 (qbX N r29 r30).bind fun r31=>
 (qb4 1).bind fun r32=>
 (qaj N r31 r32).bind fun r33=>
 some (!decide (r33=0))
 else
 some false:Option Bool).bind fun b34=>
 (qU b34 1).bind fun r36=>
 some r36
theorem qc7 (N:Nat) (a:Str) {res:Int} (h:xJ N a=some res):qb Tryz.prog (.fn 56) [.str a] [] (.i res) []:=by
 unfold xJ at h
 refine Goes.fnW Tryz.func56 rfl rfl (m:=76) rfl (rs:=[.tmp 2]) rfl (l:=(kAQ a [])) rfl ?_
 refine sh fol (kAQ a []) ?_
 obtain⟨r1,e_r1,h⟩:=bnd h
 refine sq (gr fol [1] ((3,.str r1.1)::(kAl r1.2)) (ac (cv (qdB a [45] e_r1)) az) ?_)
 obtain⟨r2,e_r2,h⟩:=bnd h
 refine sq (gr fol [1] ((4,.bool r1.2)::(kAX r2.1 r2.2.1 r2.2.2 [])) (ac (cv (qdc r1.1 [47] e_r2)) az) ?_)
 refine sq ?_
 obtain⟨b6,g_v7,h⟩:=bnd h
 refine Goes.cut (s':=(ofG 76 (kAX r2.1 r2.2.1 r2.2.2 (kAz b6)),[])) ?_ ?_
 ·obtain⟨r3,e_r3,g_v7⟩:=bnd g_v7
  rcases wyB g_v7 with⟨c4,g_v7⟩|⟨c4,g_v7⟩
  ·rcases wyB g_v7 with⟨c5,g_v7⟩|⟨c5,g_v7⟩
   ·obtain rfl:=si g_v7
    exact tr fol [1,2,5] (kAX r2.1 r2.2.1 r2.2.2 [(8,.bool true)]) (ac (cv (zS r2.1 e_r3)) (ac (gw c4) (ac (gw c5) az)))
   ·obtain rfl:=si g_v7
    exact tr fol [1,2,5] (kAX r2.1 r2.2.1 r2.2.2 (kAz (!(r2.1==[48])))) (ac (cv (zS r2.1 e_r3)) (ac (gw c4) (ac (gw c5) az)))
  ·obtain rfl:=si g_v7
   exact tr fol [1,2] (kAX r2.1 r2.2.1 r2.2.2 kBI) (ac (cv (zS r2.1 e_r3)) (ac (gw c4) az))
 refine sq ?_
 refine sh fol (kAX r2.1 r2.2.1 r2.2.2 [(8,.bool b6),(32,.bool r2.2.2)]) ?_
 obtain⟨r9,g9,h⟩:=bnd h
 refine Goes.imp (Q:=fun x s'=>(x= .normal∧ ∃b8,b8=r9∧Sub s' (ofG 76 (kAX r2.1 r2.2.1 r2.2.2 (kAz b8)),[]))) ?_ ?_
 ·refine ihB g9 (fun c10 g9=>?_) (fun c10 g9=>?_)
  ·obtain⟨b15,g_v16,g9⟩:=bnd g9
   refine Goes.cut (s':=(ofG 76 (kAX r2.1 r2.2.1 r2.2.2 (kAz b15)),[])) ?_ ?_
   ·rcases wyB g_v16 with⟨c11,g_v16⟩|⟨c11,g_v16⟩
    ·obtain⟨r12,e_r12,g_v16⟩:=bnd g_v16
     rcases wyB g_v16 with⟨c13,g_v16⟩|⟨c13,g_v16⟩
     ·rcases wyB g_v16 with⟨c14,g_v16⟩|⟨c14,g_v16⟩
      ·obtain rfl:=si g_v16
       exact tr fol [1,3,5,9] (kAX r2.1 r2.2.1 r2.2.2 (kAz (!(r2.2.1==[49])))) (ac (gw c11) (ac (cv (zS r2.2.1 e_r12)) (ac (gw c13) (ac (gw c14) az))))
      ·obtain rfl:=si g_v16
       exact tr fol [1,3,5,9] (kAX r2.1 r2.2.1 r2.2.2 kBI) (ac (gw c11) (ac (cv (zS r2.2.1 e_r12)) (ac (gw c13) (ac (gw c14) az))))
     ·obtain rfl:=si g_v16
      exact tr fol [1,3,5] (kAX r2.1 r2.2.1 r2.2.2 kBI) (ac (gw c11) (ac (cv (zS r2.2.1 e_r12)) (ac (gw c13) az)))
    ·obtain rfl:=si g_v16
     exact tr fol [1] (kAX r2.1 r2.2.1 r2.2.2 kBI) (ac (gw c11) az)
   obtain rfl:=si g9
   exact⟨rfl,_,rfl,(Sub.refl _)⟩
  ·refine Goes.skip ?_
   obtain rfl:=si g9
   exact⟨rfl,_,rfl,(Sub.keep [5,6,7,8] rfl rfl)⟩
 rintro x s' ⟨rfl,b8,rfl,hsub⟩
 refine Goes.sub hsub ?_
 refine sq ?_
 refine sq ?_
 obtain⟨⟨n23,n24,n25⟩,g_v26,h⟩:=bnd h
 refine Goes.cut (s':=(ofG 76 (kAX r2.1 r2.2.1 r2.2.2 [(9,.i n25)]),(kAE n23 n24))) ?_ ?_
 ·obtain⟨r17,e_r17,g_v26⟩:=bnd g_v26
  rcases wyD g_v26 with⟨c18,g_v26⟩|⟨c18,g_v26⟩
  ·obtain⟨r19,e_r19,g_v26⟩:=bnd g_v26
   obtain⟨r20,e_r20,g_v26⟩:=bnd g_v26
   simp only[Option.some.injEq,Prod.mk.injEq]at g_v26
   obtain⟨rfl,rfl,rfl⟩:=g_v26
   exact xk.rq fol [2,6,11,13] (kAX r2.1 r2.2.1 r2.2.2 [(9,.i r20)]) (kAE r17 r19) (ac (cv (yf (!b8) 1 e_r17)) (ac (gw c18) (ac (cv (yf true 4 e_r19)) (ac (hs (.call 79 [.slice 0 0 2 2 1] (kAE r17 r19) [0] [vl encI ([r17,r19]:List Int)] (.i r20)) (qbE (FzL.cons (Fz.lit rfl rfl (FzL.still (AllST.cons tI (AllST.cons tI AllST.nil)))) FzL.nil) (qa8 N ([r17,r19]:List Int) e_r20) tI rfl)) az))))
  ·obtain⟨r21,e_r21,g_v26⟩:=bnd g_v26
   obtain⟨r22,e_r22,g_v26⟩:=bnd g_v26
   simp only[Option.some.injEq,Prod.mk.injEq]at g_v26
   obtain⟨rfl,rfl,rfl⟩:=g_v26
   exact xk.rq fol [2,6,11,13] (kAX r2.1 r2.2.1 r2.2.2 [(9,.i r22)]) (kAE r17 r21) (ac (cv (yf (!b8) 1 e_r17)) (ac (gw c18) (ac (cv (yf (decide ((r2.2.1.length:Int)>600)) 4 e_r21)) (ac (hs (.call 79 [.slice 0 0 2 2 1] (kAE r17 r21) [0] [vl encI ([r17,r21]:List Int)] (.i r22)) (qbE (FzL.cons (Fz.lit rfl rfl (FzL.still (AllST.cons tI (AllST.cons tI AllST.nil)))) FzL.nil) (qa8 N ([r17,r21]:List Int) e_r22) tI rfl)) az))))
 try dsimp only at h
 refine sh fol (kAX r2.1 r2.2.1 r2.2.2 [(9,.i n25),(61,.bool (!decide (n25=0)))]) ?_
 refine ihB h (fun c27 h=>?_) (fun c27 h=>?_)
 ·refine sh fol (kBM n25) ?_
  refine Goes.ret ?_
  obtain rfl:=si h
  exact(gw2 [.i n25] (FzW.still tI))
 ·refine Goes.skip ?_
  refine sq ?_
  obtain⟨b34,g_v35,h⟩:=bnd h
  refine Goes.cut (s':=(ofG 76 (kBV b34),(kAE n23 n24))) ?_ ?_
  ·rcases wyB g_v35 with⟨c28,g_v35⟩|⟨c28,g_v35⟩
   ·obtain⟨r29,e_r29,g_v35⟩:=bnd g_v35
    obtain⟨r30,e_r30,g_v35⟩:=bnd g_v35
    obtain⟨r31,e_r31,g_v35⟩:=bnd g_v35
    obtain⟨r32,e_r32,g_v35⟩:=bnd g_v35
    obtain⟨r33,e_r33,g_v35⟩:=bnd g_v35
    obtain rfl:=si g_v35
    exact tr fol [1,3,5,6,7,8] (kBV (!decide (r33=0))) (ac (gw c28) (ac (cv (qaY N r2.1 e_r29)) (ac (cv (qaY N r2.2.1 e_r30)) (ac (cv (qgb N r29 r30 e_r31)) (ac (cv (qbr 1 e_r32)) (ac (cv (qdi N r31 r32 e_r33)) az))))))
   ·obtain rfl:=si g_v35
    exact tr fol [1] [(10,.bool false)] (ac (gw c28) az)
  obtain⟨r36,e_r36,h⟩:=bnd h
  refine sq (gr fol [1] (kBM r36) (ac (cv (yf b34 1 e_r36)) az) ?_)
  refine Goes.ret ?_
  obtain rfl:=si h
  exact(gw2 [.i r36] (FzW.still tI))
def jV (N:Nat) (a:qj) (b:qj):Option qj:=
 (qZ b).bind fun r1=>
 ((if r1<0 then
 (ze a).bind fun r8=>
 (ze b).bind fun r9=>
 some (r8.s,r8.w,r9.s,r9.w)
 else
 some (a.s,a.w,b.s,b.w):Option (Int×(List Int)×Int×(List Int)))).bind fun(n2,l3,n4,l5)=>
 (zM N (⟨n2,l3⟩:qj) (⟨n4,l5⟩:qj)).bind fun r10=>
 some r10.1
theorem qdM (N:Nat) (a:qj) (b:qj) {res:qj} (h:jV N a b=some res):qb Tryz.prog (.fn 161) [.agg [.i a.s,nvl (qa .u64) a.w],.agg [.i b.s,nvl (qa .u64) b.w]] [] (.agg [.i res.s,nvl (qa .u64) res.w]) []:=by
 unfold jV at h
 refine Goes.fnW Tryz.func161 rfl rfl (m:=21) rfl (rs:=[.cell 4 106]) rfl (l:=[(0,.agg [.i a.s,nvl (qa .u64) a.w]),(1,.agg [.i b.s,nvl (qa .u64) b.w])]) rfl ?_
 refine sg fol (kH []) [.cells [.i a.s,nvl (qa .u64) a.w],.cells [.i b.s,nvl (qa .u64) b.w],bZ] ?_
 refine sq ?_
 obtain⟨r1,e_r1,h⟩:=bnd h
 refine sq (gr fol [1] (kH [(9,.bool (decide (r1<0)))]) (ac (cv (yP b e_r1)) az) ?_)
 obtain⟨r6,g6,h⟩:=bnd h
 refine Goes.imp (Q:=fun x s'=>(x= .normal∧ ∃n2 l3 n4 l5,(n2,l3,n4,l5)=r6∧Sub s' (ofG 21 (kH []),[.cells [.i n2,nvl (qa .u64) l3],.cells [.i n4,nvl (qa .u64) l5],bZ]))) ?_ ?_
 ·refine ihD g6 (fun c7 g6=>?_) (fun c7 g6=>?_)
  ·obtain⟨r8,e_r8,g6⟩:=bnd g6
   obtain⟨r9,e_r9,g6⟩:=bnd g6
   refine gq fol [1,3,4,5] (kH []) [.cells [.i r8.s,nvl (qa .u64) r8.w],.cells [.i r9.s,nvl (qa .u64) r9.w],bZ] (ac (cv (jG a e_r8)) (ac (cv (jG b e_r9)) (ac (hs (.run [0] (qp Tryz.prog 106 (.ptr 0 0) (.agg [.i r8.s,nvl (qa .u64) r8.w])) [.cells [.i a.s,nvl (qa .u64) a.w],.cells [.i b.s,nvl (qa .u64) b.w],bZ] .undef [.cells [.i r8.s,nvl (qa .u64) r8.w],.cells [.i b.s,nvl (qa .u64) b.w],bZ] true) (kW (n:=2) (by kernel_rfl) rfl rfl rfl rfl (cac rfl (cac nvc can)) rfl)) (ac (hs (.run [1] (qp Tryz.prog 106 (.ptr 1 0) (.agg [.i r9.s,nvl (qa .u64) r9.w])) [.cells [.i r8.s,nvl (qa .u64) r8.w],.cells [.i b.s,nvl (qa .u64) b.w],bZ] .undef [.cells [.i r8.s,nvl (qa .u64) r8.w],.cells [.i r9.s,nvl (qa .u64) r9.w],bZ] true) (kW (n:=2) (by kernel_rfl) rfl rfl rfl rfl (cac rfl (cac nvc can)) rfl)) az)))) ?_
   obtain rfl:=si g6
   exact⟨rfl,_,_,_,_,rfl,(Sub.refl _)⟩
  ·refine Goes.skip ?_
   obtain rfl:=si g6
   exact⟨rfl,_,_,_,_,rfl,(Sub.keep [2,3,4] rfl rfl)⟩
 rintro x s' ⟨rfl,n2,l3,n4,l5,rfl,hsub⟩
 try dsimp only at h
 refine Goes.sub hsub ?_
 obtain⟨r10,e_r10,h⟩:=bnd h
 refine sq (gq fol [2,8,9] (kAU (kBc [])) [.cells [.i n2,nvl (qa .u64) l3],.cells [.i n4,nvl (qa .u64) l5],bZ,.cells [.i r10.1.s,nvl (qa .u64) r10.1.w],.cells [.i r10.2.s,nvl (qa .u64) r10.2.w]] (ac (cv (qbZ N (⟨n2,l3⟩:qj) (⟨n4,l5⟩:qj) e_r10)) (ac (hs (.run [3] (qp Tryz.prog 106 (.ptr 3 0) (.agg [.i r10.1.s,nvl (qa .u64) r10.1.w])) [.cells [.i n2,nvl (qa .u64) l3],.cells [.i n4,nvl (qa .u64) l5],bZ,bZ,bZ] .undef [.cells [.i n2,nvl (qa .u64) l3],.cells [.i n4,nvl (qa .u64) l5],bZ,.cells [.i r10.1.s,nvl (qa .u64) r10.1.w],bZ] true) (kW (n:=2) (by kernel_rfl) rfl rfl rfl rfl (cac rfl (cac nvc can)) rfl)) (ac (hs (.run [4] (qp Tryz.prog 106 (.ptr 4 0) (.agg [.i r10.2.s,nvl (qa .u64) r10.2.w])) [.cells [.i n2,nvl (qa .u64) l3],.cells [.i n4,nvl (qa .u64) l5],bZ,.cells [.i r10.1.s,nvl (qa .u64) r10.1.w],bZ] .undef [.cells [.i n2,nvl (qa .u64) l3],.cells [.i n4,nvl (qa .u64) l5],bZ,.cells [.i r10.1.s,nvl (qa .u64) r10.1.w],.cells [.i r10.2.s,nvl (qa .u64) r10.2.w]] true) (kW (n:=2) (by kernel_rfl) rfl rfl rfl rfl (cac rfl (cac nvc can)) rfl)) az))) ?_)
 refine sq (gq fol [1] (kAU []) [.cells [.i n2,nvl (qa .u64) l3],.cells [.i n4,nvl (qa .u64) l5],.cells [.i r10.1.s,nvl (qa .u64) r10.1.w],.cells [.i r10.1.s,nvl (qa .u64) r10.1.w],.cells [.i r10.2.s,nvl (qa .u64) r10.2.w]] (ac (hs (.run [2] (qp Tryz.prog 106 (.ptr 2 0) (.agg [.i r10.1.s,nvl (qa .u64) r10.1.w])) [.cells [.i n2,nvl (qa .u64) l3],.cells [.i n4,nvl (qa .u64) l5],bZ,.cells [.i r10.1.s,nvl (qa .u64) r10.1.w],.cells [.i r10.2.s,nvl (qa .u64) r10.2.w]] .undef [.cells [.i n2,nvl (qa .u64) l3],.cells [.i n4,nvl (qa .u64) l5],.cells [.i r10.1.s,nvl (qa .u64) r10.1.w],.cells [.i r10.1.s,nvl (qa .u64) r10.1.w],.cells [.i r10.2.s,nvl (qa .u64) r10.2.w]] true) (kW (n:=2) (by kernel_rfl) rfl rfl rfl rfl (cac rfl (cac nvc can)) rfl)) az) ?_)
 refine Goes.ret ?_
 obtain rfl:=si h
 exact(gw2 [.agg [.i r10.1.s,nvl (qa .u64) r10.1.w]] (FzW.agg (qd.cons (FzW.still tI) (qd.cons (FzW.still (qx (qa .u64) _ (nl rfl))) qd.nil))))
def qaV (N:Nat) (num:qj) (den:qj):Option qF:=
 (qZ den).bind fun r1=>
 ((if r1<0 then
 (ze num).bind fun r8=>
 (ze den).bind fun r9=>
 some (r8.s,r8.w,r9.s,r9.w)
 else
 some (num.s,num.w,den.s,den.w):Option (Int×(List Int)×Int×(List Int)))).bind fun(n2,l3,n4,l5)=>
 (if l5.isEmpty=true then
 some (decide (n4=1))
 else
 some false:Option Bool).bind fun b11=>
 if b11=true then
 some (⟨(⟨n2,l3⟩:qj),(⟨n4,l5⟩:qj)⟩:qF)
 else
 (qbX N (⟨n2,l3⟩:qj) (⟨n4,l5⟩:qj)).bind fun r14=>
 (jV N (⟨n2,l3⟩:qj) r14).bind fun r15=>
 (jV N (⟨n4,l5⟩:qj) r14).bind fun r16=>
 some (⟨r15,r16⟩:qF)
theorem qdw (N:Nat) (num:qj) (den:qj) {res:qF} (h:qaV N num den=some res):qb Tryz.prog (.fn 105) [.agg [.i num.s,nvl (qa .u64) num.w],.agg [.i den.s,nvl (qa .u64) den.w]] [] (.agg [.i res.Num.s,nvl (qa .u64) res.Num.w,.i res.Den.s,nvl (qa .u64) res.Den.w]) []:=by
 unfold qaV at h
 refine Goes.fnW Tryz.func105 rfl rfl (m:=34) rfl (rs:=[.cell 4 108]) rfl (l:=[(0,.agg [.i num.s,nvl (qa .u64) num.w]),(1,.agg [.i den.s,nvl (qa .u64) den.w])]) rfl ?_
 refine sg fol (kH []) (.cells [.i num.s,nvl (qa .u64) num.w]:: .cells [.i den.s,nvl (qa .u64) den.w]::(kD [])) ?_
 refine sq ?_
 obtain⟨r1,e_r1,h⟩:=bnd h
 refine sq (gr fol [1] (kH (kAz (decide (r1<0)))) (ac (cv (yP den e_r1)) az) ?_)
 obtain⟨r6,g6,h⟩:=bnd h
 refine Goes.imp (Q:=fun x s'=>(x= .normal∧ ∃n2 l3 n4 l5,(n2,l3,n4,l5)=r6∧Sub s' (ofG 34 (kH []),(.cells [.i n2,nvl (qa .u64) l3]:: .cells [.i n4,nvl (qa .u64) l5]::(kD []))))) ?_ ?_
 ·refine ihD g6 (fun c7 g6=>?_) (fun c7 g6=>?_)
  ·obtain⟨r8,e_r8,g6⟩:=bnd g6
   obtain⟨r9,e_r9,g6⟩:=bnd g6
   refine gq fol [1,3,4,5] (kH []) (.cells [.i r8.s,nvl (qa .u64) r8.w]:: .cells [.i r9.s,nvl (qa .u64) r9.w]::(kD [])) (ac (cv (jG num e_r8)) (ac (cv (jG den e_r9)) (ac (hs (.run [0] (qp Tryz.prog 106 (.ptr 0 0) (.agg [.i r8.s,nvl (qa .u64) r8.w])) (.cells [.i num.s,nvl (qa .u64) num.w]:: .cells [.i den.s,nvl (qa .u64) den.w]::(kD [])) .undef (.cells [.i r8.s,nvl (qa .u64) r8.w]:: .cells [.i den.s,nvl (qa .u64) den.w]::(kD [])) true) (kW (n:=2) (by kernel_rfl) rfl rfl rfl rfl (cac rfl (cac nvc can)) rfl)) (ac (hs (.run [1] (qp Tryz.prog 106 (.ptr 1 0) (.agg [.i r9.s,nvl (qa .u64) r9.w])) (.cells [.i r8.s,nvl (qa .u64) r8.w]:: .cells [.i den.s,nvl (qa .u64) den.w]::(kD [])) .undef (.cells [.i r8.s,nvl (qa .u64) r8.w]:: .cells [.i r9.s,nvl (qa .u64) r9.w]::(kD [])) true) (kW (n:=2) (by kernel_rfl) rfl rfl rfl rfl (cac rfl (cac nvc can)) rfl)) az)))) ?_
   obtain rfl:=si g6
   exact⟨rfl,_,_,_,_,rfl,(Sub.refl _)⟩
  ·refine Goes.skip ?_
   obtain rfl:=si g6
   exact⟨rfl,_,_,_,_,rfl,(Sub.keep [2,3,4] rfl rfl)⟩
 rintro x s' ⟨rfl,n2,l3,n4,l5,rfl,hsub⟩
 try dsimp only at h
 refine Goes.sub hsub ?_
 refine sq ?_
 refine sq ?_
 obtain⟨b11,g_v12,h⟩:=bnd h
 refine Goes.cut (s':=(ofG 34 (kH [(20,.bool b11)]),(.cells [.i n2,nvl (qa .u64) l3]:: .cells [.i n4,nvl (qa .u64) l5]::(kD [])))) ?_ ?_
 ·rcases wyB g_v12 with⟨c10,g_v12⟩|⟨c10,g_v12⟩
  ·obtain rfl:=si g_v12
   exact tr fol [2,3] (kH [(20,.bool (decide (n4=1)))]) (ac (hs (.done (.opt (qY Tryz.prog .eql 104 (.tmp 14) (.const (.slice none 0 0)) (nvl (qa .u64) l5) .nilslice)) (.bool l5.isEmpty)) (xV vD)) (ac (gw c10) az))
  ·obtain rfl:=si g_v12
   exact tr fol [2,3] (kH [(20,.bool false)]) (ac (hs (.done (.opt (qY Tryz.prog .eql 104 (.tmp 14) (.const (.slice none 0 0)) (nvl (qa .u64) l5) .nilslice)) (.bool l5.isEmpty)) (xV vD)) (ac (gw c10) az))
 refine ihB h (fun c13 h=>?_) (fun c13 h=>?_)
 ·refine sq (gq fol [3] (kAU []) [.cells [.i n2,nvl (qa .u64) l3],.cells [.i n4,nvl (qa .u64) l5],.cells [.i n2,nvl (qa .u64) l3,.i n4,nvl (qa .u64) l5]] (ac (hs (.run [2] (qp Tryz.prog 108 (.ptr 2 0) (.agg [.i n2,nvl (qa .u64) l3,.i n4,nvl (qa .u64) l5])) (.cells [.i n2,nvl (qa .u64) l3]:: .cells [.i n4,nvl (qa .u64) l5]::(kD [])) .undef [.cells [.i n2,nvl (qa .u64) l3],.cells [.i n4,nvl (qa .u64) l5],.cells [.i n2,nvl (qa .u64) l3,.i n4,nvl (qa .u64) l5]] true) (kW (n:=4) (by kernel_rfl) rfl rfl rfl rfl (cac rfl (cac nvc (cac rfl (cac nvc can)))) rfl)) az) ?_)
  refine Goes.ret ?_
  obtain rfl:=si h
  exact(gw2 [.agg [.i n2,nvl (qa .u64) l3,.i n4,nvl (qa .u64) l5]] (FzW.agg (qd.cons (FzW.still tI) (qd.cons (FzW.still (qx (qa .u64) _ (nl rfl))) (qd.cons (FzW.still tI) (qd.cons (FzW.still (qx (qa .u64) _ (nl rfl))) qd.nil))))))
 ·refine Goes.skip ?_
  obtain⟨r14,e_r14,h⟩:=bnd h
  refine sq (gq fol [2,4] (kH (kBc [])) (.cells [.i n2,nvl (qa .u64) l3]:: .cells [.i n4,nvl (qa .u64) l5]::(kD [.cells [.i r14.s,nvl (qa .u64) r14.w]])) (ac (cv (qgb N (⟨n2,l3⟩:qj) (⟨n4,l5⟩:qj) e_r14)) (ac (hs (.run [3] (qp Tryz.prog 106 (.ptr 3 0) (.agg [.i r14.s,nvl (qa .u64) r14.w])) (.cells [.i n2,nvl (qa .u64) l3]:: .cells [.i n4,nvl (qa .u64) l5]::(kD [bZ])) .undef (.cells [.i n2,nvl (qa .u64) l3]:: .cells [.i n4,nvl (qa .u64) l5]::(kD [.cells [.i r14.s,nvl (qa .u64) r14.w]])) true) (kW (n:=2) (by kernel_rfl) rfl rfl rfl rfl (cac rfl (cac nvc can)) rfl)) az)) ?_)
  obtain⟨r15,e_r15,h⟩:=bnd h
  obtain⟨r16,e_r16,h⟩:=bnd h
  refine sq (gq fol [2,5,7] (kAU []) [.cells [.i n2,nvl (qa .u64) l3],.cells [.i n4,nvl (qa .u64) l5],.cells [.i r15.s,nvl (qa .u64) r15.w,.i r16.s,nvl (qa .u64) r16.w],.cells [.i r14.s,nvl (qa .u64) r14.w]] (ac (cv (qdM N (⟨n2,l3⟩:qj) r14 e_r15)) (ac (cv (qdM N (⟨n4,l5⟩:qj) r14 e_r16)) (ac (hs (.run [2] (qp Tryz.prog 108 (.ptr 2 0) (.agg [.i r15.s,nvl (qa .u64) r15.w,.i r16.s,nvl (qa .u64) r16.w])) (.cells [.i n2,nvl (qa .u64) l3]:: .cells [.i n4,nvl (qa .u64) l5]::(kD [.cells [.i r14.s,nvl (qa .u64) r14.w]])) .undef [.cells [.i n2,nvl (qa .u64) l3],.cells [.i n4,nvl (qa .u64) l5],.cells [.i r15.s,nvl (qa .u64) r15.w,.i r16.s,nvl (qa .u64) r16.w],.cells [.i r14.s,nvl (qa .u64) r14.w]] true) (kW (n:=4) (by kernel_rfl) rfl rfl rfl rfl (cac rfl (cac nvc (cac rfl (cac nvc can)))) rfl)) az))) ?_)
  refine Goes.ret ?_
  obtain rfl:=si h
  exact(gw2 [.agg [.i r15.s,nvl (qa .u64) r15.w,.i r16.s,nvl (qa .u64) r16.w]] (FzW.agg (qd.cons (FzW.still tI) (qd.cons (FzW.still (qx (qa .u64) _ (nl rfl))) (qd.cons (FzW.still tI) (qd.cons (FzW.still (qx (qa .u64) _ (nl rfl))) qd.nil))))))
def qbv (n:qj):Option qF:=
 (qb4 1).bind fun r1=>
 some (⟨n,r1⟩:qF)
theorem qeW (n:qj) {res:qF} (h:qbv n=some res):qb Tryz.prog (.fn 124) [.agg [.i n.s,nvl (qa .u64) n.w]] [] (.agg [.i res.Num.s,nvl (qa .u64) res.Num.w,.i res.Den.s,nvl (qa .u64) res.Den.w]) []:=by
 unfold qbv at h
 refine Goes.fnW Tryz.func124 rfl rfl (m:=6) rfl (rs:=[.cell 2 108]) rfl (l:=[(0,.agg [.i n.s,nvl (qa .u64) n.w])]) rfl ?_
 refine sg fol (kAH []) (.cells [.i n.s,nvl (qa .u64) n.w]::(kD [])) ?_
 obtain⟨r1,e_r1,h⟩:=bnd h
 refine sq (gq fol [1,3] kBX [.cells [.i n.s,nvl (qa .u64) n.w],.cells [.i n.s,nvl (qa .u64) n.w,.i r1.s,nvl (qa .u64) r1.w]] (ac (cv (qbr 1 e_r1)) (ac (hs (.run [1] (qp Tryz.prog 108 (.ptr 1 0) (.agg [.i n.s,nvl (qa .u64) n.w,.i r1.s,nvl (qa .u64) r1.w])) (.cells [.i n.s,nvl (qa .u64) n.w]::(kD [])) .undef [.cells [.i n.s,nvl (qa .u64) n.w],.cells [.i n.s,nvl (qa .u64) n.w,.i r1.s,nvl (qa .u64) r1.w]] true) (kW (n:=4) (by kernel_rfl) rfl rfl rfl rfl (cac rfl (cac nvc (cac rfl (cac nvc can)))) rfl)) az)) ?_)
 refine Goes.ret ?_
 obtain rfl:=si h
 exact(gw2 [.agg [.i n.s,nvl (qa .u64) n.w,.i r1.s,nvl (qa .u64) r1.w]] (FzW.agg (qd.cons (FzW.still tI) (qd.cons (FzW.still (qx (qa .u64) _ (nl rfl))) (qd.cons (FzW.still tI) (qd.cons (FzW.still (qx (qa .u64) _ (nl rfl))) qd.nil))))))
def jd (a:qF):Option Bool:=
 (if a.Den.w.isEmpty=true then
 some (decide (a.Den.s=1))
 else
 some false:Option Bool).bind fun b2=>
 some b2
theorem vY (a:qF) {res:Bool} (h:jd a=some res):qb Tryz.prog (.fn 174) [.agg [.i a.Num.s,nvl (qa .u64) a.Num.w,.i a.Den.s,nvl (qa .u64) a.Den.w]] [] (.bool res) []:=by
 unfold jd at h
 refine Goes.fnW Tryz.func174 rfl rfl (m:=13) rfl (rs:=[.tmp 2]) rfl (l:=[(0,.agg [.i a.Num.s,nvl (qa .u64) a.Num.w,.i a.Den.s,nvl (qa .u64) a.Den.w])]) rfl ?_
 refine sg fol (kA2 []) [.cells [.i a.Num.s,nvl (qa .u64) a.Num.w,.i a.Den.s,nvl (qa .u64) a.Den.w]] ?_
 refine sq ?_
 obtain⟨b2,g_v3,h⟩:=bnd h
 refine Goes.cut (s':=(ofG 13 (kBq b2),[.cells [.i a.Num.s,nvl (qa .u64) a.Num.w,.i a.Den.s,nvl (qa .u64) a.Den.w]])) ?_ ?_
 ·rcases wyB g_v3 with⟨c1,g_v3⟩|⟨c1,g_v3⟩
  ·obtain rfl:=si g_v3
   exact tr fol [3,4] (kBq (decide (a.Den.s=1))) (ac (hs (.done (.opt (qY Tryz.prog .eql 104 (.tmp 5) (.const (.slice none 0 0)) (nvl (qa .u64) a.Den.w) .nilslice)) (.bool a.Den.w.isEmpty)) (xV vD)) (ac (gw c1) az))
  ·obtain rfl:=si g_v3
   exact tr fol [3,4] kA7 (ac (hs (.done (.opt (qY Tryz.prog .eql 104 (.tmp 5) (.const (.slice none 0 0)) (nvl (qa .u64) a.Den.w) .nilslice)) (.bool a.Den.w.isEmpty)) (xV vD)) (ac (gw c1) az))
 refine Goes.ret ?_
 obtain rfl:=si h
 exact(gw2 [.bool b2] (FzW.still tB))
def xG (N:Nat) (a:qF) (b:qF):Option qF:=
 ((jd a).bind fun r1=>
 if r1=true then
 (jd b).bind fun r3=>
 some r3
 else
 some false:Option Bool).bind fun b4=>
 if b4=true then
 (jC N a.Num b.Num).bind fun r7=>
 (qbv r7).bind fun r8=>
 some r8
 else
 (qC N a.Num b.Den).bind fun r9=>
 (qC N b.Num a.Den).bind fun r10=>
 (jC N r9 r10).bind fun r11=>
 (qC N a.Den b.Den).bind fun r12=>
 (qaV N r11 r12).bind fun r13=>
 some r13
theorem qcZ (N:Nat) (a:qF) (b:qF) {res:qF} (h:xG N a b=some res):qb Tryz.prog (.fn 120) [.agg [.i a.Num.s,nvl (qa .u64) a.Num.w,.i a.Den.s,nvl (qa .u64) a.Den.w],.agg [.i b.Num.s,nvl (qa .u64) b.Num.w,.i b.Den.s,nvl (qa .u64) b.Den.w]] [] (.agg [.i res.Num.s,nvl (qa .u64) res.Num.w,.i res.Den.s,nvl (qa .u64) res.Den.w]) []:=by
 unfold xG at h
 refine Goes.fnW Tryz.func120 rfl rfl (m:=34) rfl (rs:=[.cell 4 108]) rfl (l:=[(0,.agg [.i a.Num.s,nvl (qa .u64) a.Num.w,.i a.Den.s,nvl (qa .u64) a.Den.w]),(1,.agg [.i b.Num.s,nvl (qa .u64) b.Num.w,.i b.Den.s,nvl (qa .u64) b.Den.w])]) rfl ?_
 refine sg fol (kH []) (.cells [.i a.Num.s,nvl (qa .u64) a.Num.w,.i a.Den.s,nvl (qa .u64) a.Den.w]:: .cells [.i b.Num.s,nvl (qa .u64) b.Num.w,.i b.Den.s,nvl (qa .u64) b.Den.w]::(kD [])) ?_
 refine sq ?_
 refine sq ?_
 obtain⟨b4,g_v5,h⟩:=bnd h
 refine Goes.cut (s':=(ofG 34 (kH (kBV b4)),(.cells [.i a.Num.s,nvl (qa .u64) a.Num.w,.i a.Den.s,nvl (qa .u64) a.Den.w]:: .cells [.i b.Num.s,nvl (qa .u64) b.Num.w,.i b.Den.s,nvl (qa .u64) b.Den.w]::(kD [])))) ?_ ?_
 ·obtain⟨r1,e_r1,g_v5⟩:=bnd g_v5
  rcases wyB g_v5 with⟨c2,g_v5⟩|⟨c2,g_v5⟩
  ·obtain⟨r3,e_r3,g_v5⟩:=bnd g_v5
   obtain rfl:=si g_v5
   exact tr fol [1,2,4] (kH (kBV r3)) (ac (cv (vY a e_r1)) (ac (gw c2) (ac (cv (vY b e_r3)) az)))
  ·obtain rfl:=si g_v5
   exact tr fol [1,2] (kH [(10,.bool false)]) (ac (cv (vY a e_r1)) (ac (gw c2) az))
 refine ihB h (fun c6 h=>?_) (fun c6 h=>?_)
 ·obtain⟨r7,e_r7,h⟩:=bnd h
  obtain⟨r8,e_r8,h⟩:=bnd h
  refine sq (gq fol [4,5,6] (kAU []) [.cells [.i a.Num.s,nvl (qa .u64) a.Num.w,.i a.Den.s,nvl (qa .u64) a.Den.w],.cells [.i b.Num.s,nvl (qa .u64) b.Num.w,.i b.Den.s,nvl (qa .u64) b.Den.w],.cells [.i r8.Num.s,nvl (qa .u64) r8.Num.w,.i r8.Den.s,nvl (qa .u64) r8.Den.w]] (ac (cv (xw N a.Num b.Num e_r7)) (ac (cv (qeW r7 e_r8)) (ac (hs (.run [2] (qp Tryz.prog 108 (.ptr 2 0) (.agg [.i r8.Num.s,nvl (qa .u64) r8.Num.w,.i r8.Den.s,nvl (qa .u64) r8.Den.w])) (.cells [.i a.Num.s,nvl (qa .u64) a.Num.w,.i a.Den.s,nvl (qa .u64) a.Den.w]:: .cells [.i b.Num.s,nvl (qa .u64) b.Num.w,.i b.Den.s,nvl (qa .u64) b.Den.w]::(kD [])) .undef [.cells [.i a.Num.s,nvl (qa .u64) a.Num.w,.i a.Den.s,nvl (qa .u64) a.Den.w],.cells [.i b.Num.s,nvl (qa .u64) b.Num.w,.i b.Den.s,nvl (qa .u64) b.Den.w],.cells [.i r8.Num.s,nvl (qa .u64) r8.Num.w,.i r8.Den.s,nvl (qa .u64) r8.Den.w]] true) (kW (n:=4) (by kernel_rfl) rfl rfl rfl rfl (cac rfl (cac nvc (cac rfl (cac nvc can)))) rfl)) az))) ?_)
  refine Goes.ret ?_
  obtain rfl:=si h
  exact(gw2 [.agg [.i r8.Num.s,nvl (qa .u64) r8.Num.w,.i r8.Den.s,nvl (qa .u64) r8.Den.w]] (FzW.agg (qd.cons (FzW.still tI) (qd.cons (FzW.still (qx (qa .u64) _ (nl rfl))) (qd.cons (FzW.still tI) (qd.cons (FzW.still (qx (qa .u64) _ (nl rfl))) qd.nil))))))
 ·refine Goes.skip ?_
  obtain⟨r9,e_r9,h⟩:=bnd h
  obtain⟨r10,e_r10,h⟩:=bnd h
  obtain⟨r11,e_r11,h⟩:=bnd h
  obtain⟨r12,e_r12,h⟩:=bnd h
  obtain⟨r13,e_r13,h⟩:=bnd h
  refine sq (gq fol [4,9,10,15,16,17] (kAU []) [.cells [.i a.Num.s,nvl (qa .u64) a.Num.w,.i a.Den.s,nvl (qa .u64) a.Den.w],.cells [.i b.Num.s,nvl (qa .u64) b.Num.w,.i b.Den.s,nvl (qa .u64) b.Den.w],.cells [.i r13.Num.s,nvl (qa .u64) r13.Num.w,.i r13.Den.s,nvl (qa .u64) r13.Den.w]] (ac (cv (zw N a.Num b.Den e_r9)) (ac (cv (zw N b.Num a.Den e_r10)) (ac (cv (xw N r9 r10 e_r11)) (ac (cv (zw N a.Den b.Den e_r12)) (ac (cv (qdw N r11 r12 e_r13)) (ac (hs (.run [2] (qp Tryz.prog 108 (.ptr 2 0) (.agg [.i r13.Num.s,nvl (qa .u64) r13.Num.w,.i r13.Den.s,nvl (qa .u64) r13.Den.w])) (.cells [.i a.Num.s,nvl (qa .u64) a.Num.w,.i a.Den.s,nvl (qa .u64) a.Den.w]:: .cells [.i b.Num.s,nvl (qa .u64) b.Num.w,.i b.Den.s,nvl (qa .u64) b.Den.w]::(kD [])) .undef [.cells [.i a.Num.s,nvl (qa .u64) a.Num.w,.i a.Den.s,nvl (qa .u64) a.Den.w],.cells [.i b.Num.s,nvl (qa .u64) b.Num.w,.i b.Den.s,nvl (qa .u64) b.Den.w],.cells [.i r13.Num.s,nvl (qa .u64) r13.Num.w,.i r13.Den.s,nvl (qa .u64) r13.Den.w]] true) (kW (n:=4) (by kernel_rfl) rfl rfl rfl rfl (cac rfl (cac nvc (cac rfl (cac nvc can)))) rfl)) az)))))) ?_)
  refine Goes.ret ?_
  obtain rfl:=si h
  exact(gw2 [.agg [.i r13.Num.s,nvl (qa .u64) r13.Num.w,.i r13.Den.s,nvl (qa .u64) r13.Den.w]] (FzW.agg (qd.cons (FzW.still tI) (qd.cons (FzW.still (qx (qa .u64) _ (nl rfl))) (qd.cons (FzW.still tI) (qd.cons (FzW.still (qx (qa .u64) _ (nl rfl))) qd.nil))))))
def qN (N:Nat) (l:List Str):Nat→Int→Option (Unit⊕Int)
 |0,_=>none
 |K+1,n1=>
  if n1<(l.length:Int)then
  (idx l n1).bind fun x5=>
  (xJ N x5).bind fun r6=>
  if(!decide (r6=0))=true then
  some (.inr r6)
  else
  qN N l K (w64 (n1+1))
  else
  some (.inl ())
def kw (N:Nat) (l:List Str):Option Int:=
 (qN N l N 0).bind (fun
 |(.inl ())=>
 some 0
 |(.inr q8)=>
 some q8)
theorem jf (N:Nat) (l:List Str) {res:Int} (h:kw N l=some res):qb Tryz.prog (.fn 81) [vl encS l] [] (.i res) []:=by
 unfold kw at h
 refine Goes.fnW Tryz.func81 rfl rfl (m:=18) rfl (rs:=[.tmp 2]) rfl (l:=(kBp l [])) rfl ?_
 refine sh fol (kBp l []) ?_
 refine sq ?_
 refine sh fol [(6,vl encS l),(7,.i (l.length:Int)),(8,.i 0)] ?_
 refine Goes.block ?_
 obtain⟨r2,g2,h⟩:=bnd h
 refine Goes.imp (Q:=fun x s'=>(x= .exit 0∧(.inl ())=r2∧Sub s' (ofG 18 [],[]))∨(x= .ret∧ ∃q3,(.inr q3)=r2∧vK Tryz.prog [.tmp 2] (.i q3) .ret s')) ?_ ?_
 ·refine Goes.loopS (fun M s=> ∃(n1:Int),s=(ofG 18 ((6,vl encS l)::(kAh (l.length:Int) n1)),[])∧qN N l M n1=some r2) ?_ (m:=N) ⟨_,rfl,g2⟩
  rintro M s ⟨n1,rfl,g2⟩
  cases M with
  |zero=>simp only[qN]at g2;cases g2
  |succ M=>
   rw[qN]at g2
   refine sh fol [(6,vl encS l),(7,.i (l.length:Int)),(8,.i n1),(9,.bool (decide (n1<(l.length:Int))))] ?_
   refine sq ?_
   refine ihD g2 (fun c4 g2=>?_) (fun c4 g2=>?_)
   ·refine Goes.skip ?_
    refine sq (Goes.block ?_)
    obtain⟨x5,e_x5,g2⟩:=bnd g2
    refine sq (gr fol [0,1] ((4,.str x5)::(6,vl encS l)::(kAh (l.length:Int) n1)) (ac (iv sl56 encS e_x5) (ac (lv 0 ce23 encS e_x5 rfl) az)) ?_)
    obtain⟨r6,e_r6,g2⟩:=bnd g2
    refine sq (gr fol [1] ((5,.i r6)::(6,vl encS l)::(kAh (l.length:Int) n1)) (ac (cv (qc7 N x5 e_r6)) az) ?_)
    refine sh fol ((5,.i r6)::(6,vl encS l)::(7,.i (l.length:Int))::(8,.i n1)::(kBa (!decide (r6=0)))) ?_
    refine ihB g2 (fun c7 g2=>?_) (fun c7 g2=>?_)
    ·refine sh fol (kBM r6) ?_
     refine Goes.ret ?_
     obtain rfl:=si g2
     exact Or.inr (⟨rfl,_,rfl,(gw2 [.i r6] (FzW.still tI))⟩)
    ·refine Goes.skip ?_
     refine gh fol ((6,vl encS l)::(kAh (l.length:Int) (w64 (n1+1)))) ?_
     exact⟨M,(ofG 18 ((6,vl encS l)::(kAh (l.length:Int) (w64 (n1+1)))),[]),Nat.lt_succ_self _,(Sub.refl _),_,rfl,g2⟩
   ·refine Goes.exit ?_
    obtain rfl:=si g2
    exact Or.inl (⟨rfl,rfl,(Sub.keep [] rfl rfl)⟩)
 rintro x s' (⟨rfl,rfl,hsub⟩|⟨rfl,q8,rfl,hret⟩)
 ·try dsimp only at h
  refine Goes.sub hsub ?_
  refine sh fol kB3 ?_
  refine Goes.ret ?_
  obtain rfl:=si h
  exact(gw2 [.i 0] (FzW.still tI))
 ·try dsimp only at h
  obtain rfl:=si h
  exact hret
def vM (N:Nat) (a:Str):Option qF:=
 (strings_Cut a [47]).bind fun r1=>
 if(!r1.2.2)=true then
 (qaw N r1.1).bind fun r3=>
 (qbv r3).bind fun r4=>
 some r4
 else
 (qaw N r1.1).bind fun r5=>
 (qaw N r1.2.1).bind fun r6=>
 some (⟨r5,r6⟩:qF)
theorem jW (N:Nat) (a:Str) {res:qF} (h:vM N a=some res):qb Tryz.prog (.fn 82) [.str a] [] (.agg [.i res.Num.s,nvl (qa .u64) res.Num.w,.i res.Den.s,nvl (qa .u64) res.Den.w]) []:=by
 unfold vM at h
 refine Goes.fnW Tryz.func82 rfl rfl (m:=22) rfl (rs:=[.cell 2 108]) rfl (l:=(kAQ a [])) rfl ?_
 refine sg fol (kAQ a (kAM [])) (kD []) ?_
 obtain⟨r1,e_r1,h⟩:=bnd h
 refine sq (gr fol [1] (kAM [(3,.str r1.1),(4,.str r1.2.1),(5,.bool r1.2.2)]) (ac (cv (qdc a [47] e_r1)) az) ?_)
 refine sq ?_
 refine sh fol (kAM ((3,.str r1.1)::(4,.str r1.2.1)::(kBT (!r1.2.2)))) ?_
 refine ihB h (fun c2 h=>?_) (fun c2 h=>?_)
 ·obtain⟨r3,e_r3,h⟩:=bnd h
  obtain⟨r4,e_r4,h⟩:=bnd h
  refine sq (gq fol [1,2,3] (kAM []) [.cells [.i r4.Num.s,nvl (qa .u64) r4.Num.w,.i r4.Den.s,nvl (qa .u64) r4.Den.w]] (ac (cv (qaY N r1.1 e_r3)) (ac (cv (qeW r3 e_r4)) (ac (hs (.run [0] (qp Tryz.prog 108 (.ptr 0 0) (.agg [.i r4.Num.s,nvl (qa .u64) r4.Num.w,.i r4.Den.s,nvl (qa .u64) r4.Den.w])) (kD []) .undef [.cells [.i r4.Num.s,nvl (qa .u64) r4.Num.w,.i r4.Den.s,nvl (qa .u64) r4.Den.w]] true) (kW (n:=4) (by kernel_rfl) rfl rfl rfl rfl (cac rfl (cac nvc (cac rfl (cac nvc can)))) rfl)) az))) ?_)
  refine Goes.ret ?_
  obtain rfl:=si h
  exact(gw2 [.agg [.i r4.Num.s,nvl (qa .u64) r4.Num.w,.i r4.Den.s,nvl (qa .u64) r4.Den.w]] (FzW.agg (qd.cons (FzW.still tI) (qd.cons (FzW.still (qx (qa .u64) _ (nl rfl))) (qd.cons (FzW.still tI) (qd.cons (FzW.still (qx (qa .u64) _ (nl rfl))) qd.nil))))))
 ·refine Goes.skip ?_
  obtain⟨r5,e_r5,h⟩:=bnd h
  obtain⟨r6,e_r6,h⟩:=bnd h
  refine sq (gq fol [1,3,5] (kAM []) [.cells [.i r5.s,nvl (qa .u64) r5.w,.i r6.s,nvl (qa .u64) r6.w]] (ac (cv (qaY N r1.1 e_r5)) (ac (cv (qaY N r1.2.1 e_r6)) (ac (hs (.run [0] (qp Tryz.prog 108 (.ptr 0 0) (.agg [.i r5.s,nvl (qa .u64) r5.w,.i r6.s,nvl (qa .u64) r6.w])) (kD []) .undef [.cells [.i r5.s,nvl (qa .u64) r5.w,.i r6.s,nvl (qa .u64) r6.w]] true) (kW (n:=4) (by kernel_rfl) rfl rfl rfl rfl (cac rfl (cac nvc (cac rfl (cac nvc can)))) rfl)) az))) ?_)
  refine Goes.ret ?_
  obtain rfl:=si h
  exact(gw2 [.agg [.i r5.s,nvl (qa .u64) r5.w,.i r6.s,nvl (qa .u64) r6.w]] (FzW.agg (qd.cons (FzW.still tI) (qd.cons (FzW.still (qx (qa .u64) _ (nl rfl))) (qd.cons (FzW.still tI) (qd.cons (FzW.still (qx (qa .u64) _ (nl rfl))) qd.nil))))))
def qaC (a:qj):Option Int:=
 (qE a).bind fun r1=>
 if(r1.2.length:Int)=0 then
 some 0
 else
 (idx r1.2 (w64 ((r1.2.length:Int)-1))).bind fun x3=>
 (bits_Len64 x3).bind fun r4=>
 some (w64 ((w64 (64*(w64 ((r1.2.length:Int)-1))))+r4))
theorem qc0 (a:qj) {res:Int} (h:qaC a=some res):qb Tryz.prog (.fn 159) [.agg [.i a.s,nvl (qa .u64) a.w]] [] (.i res) []:=by
 unfold qaC at h
 refine Goes.fnW Tryz.func159 rfl rfl (m:=25) rfl (rs:=[.tmp 2]) rfl (l:=[(0,.agg [.i a.s,nvl (qa .u64) a.w])]) rfl ?_
 refine sg fol (kA2 []) [.cells [.i a.s,nvl (qa .u64) a.w]] ?_
 obtain⟨r1,e_r1,h⟩:=bnd h
 refine sq (gr fol [1] [(4,vl (qa .u64) r1.2)] (ac (cv (zn a e_r1)) az) ?_)
 refine sq ?_
 refine sh fol ((4,vl (qa .u64) r1.2)::(kBU (decide ((r1.2.length:Int)=0)))) ?_
 refine ihD h (fun c2 h=>?_) (fun c2 h=>?_)
 ·refine sh fol kB3 ?_
  refine Goes.ret ?_
  obtain rfl:=si h
  exact(gw2 [.i 0] (FzW.still tI))
 ·refine Goes.skip ?_
  obtain⟨x3,e_x3,h⟩:=bnd h
  obtain⟨r4,e_r4,h⟩:=bnd h
  refine sq (gr fol [8,9,10] (kBM (w64 ((w64 (64*(w64 ((r1.2.length:Int)-1))))+r4))) (ac (iv qI (qa .u64) e_x3) (ac (lv 0 zu (qa .u64) e_x3 rfl) (ac (cv (qd8 x3 e_r4)) az))) ?_)
  refine Goes.ret ?_
  obtain rfl:=si h
  exact(gw2 [.i (w64 ((w64 (64*(w64 ((r1.2.length:Int)-1))))+r4))] (FzW.still tI))
def zO (N:Nat):Nat→(List Str)→(List Int)→Option (List Str)
 |0,_,_=>none
 |K+1,l4,l5=>
  if(l5.length:Int)>0 then
  (qaf N l5 ([1000000000000000000]:List Int)).bind fun r9=>
  ((if(r9.2.length:Int)>0 then
  (idx r9.2 0).bind fun x13=>
  (qf3 x13 10).bind fun r14=>
  some r14
  else
  some [48]:Option Str)).bind fun s10=>
  ((if(r9.1.length:Int)>0 then
  (qdY [48] (w64 (18-(s10.length:Int)))).bind fun r18=>
  (cat r18 s10).bind fun s19=>
  some s19
  else
  some s10:Option Str)).bind fun s15=>
  (app 16 l4 [s15]).bind fun l20=>
  zO N K l20 r9.1
  else
  some l4
def kT (l6:List Str):Nat→Bool→(Option (List Int))→Int→Option (Bool×(Option (List Int)))
 |0,_,_,_=>none
 |K+1,ok27,o28,n29=>
  if n29≥0 then
  (idx l6 n29).bind fun x34=>
  (bWr ok27 o28 x34).bind fun l36=>
  kT l6 K true (some l36) (w64 (n29-1))
  else
  some (ok27,o28)
def jy (N:Nat) (a:qj):Option Str:=
 if a.w.isEmpty=true then
 (qla a.s).bind fun r2=>
 some r2
 else
 (qE a).bind fun r3=>
 (zO N N ([]:List Str) r3.2).bind fun l6=>
 ((if r3.1=true then
 (bWr false (none:Option (List Int)) [45]).bind fun l26=>
 some (true,(some l26))
 else
 some (false,(none:Option (List Int))):Option (Bool×(Option (List Int))))).bind fun(ok21,o22)=>
 (kT l6 N ok21 o22 (w64 ((l6.length:Int)-1))).bind fun(ok30,o31)=>
 (qlW ok30 o31).bind fun t38=>
 some t38
theorem yU (N:Nat) (a:qj) {res:Str} (h:jy N a=some res):qb Tryz.prog (.fn 208) [.agg [.i a.s,nvl (qa .u64) a.w]] [] (.str res) []:=by
 unfold jy at h
 refine Goes.fnW Tryz.func208 rfl rfl (m:=69) rfl (rs:=[.tmp 2]) rfl (l:=[(0,.agg [.i a.s,nvl (qa .u64) a.w])]) rfl ?_
 refine sg fol (kA2 []) [.cells [.i a.s,nvl (qa .u64) a.w]] ?_
 refine sq ?_
 refine sq (gr fol [2] (kA2 (kBh a.w.isEmpty)) (ac (hs (.done (.opt (qY Tryz.prog .eql 104 (.tmp 13) (.const (.slice none 0 0)) (nvl (qa .u64) a.w) .nilslice)) (.bool a.w.isEmpty)) (xV vD)) az) ?_)
 refine ihB h (fun c1 h=>?_) (fun c1 h=>?_)
 ·obtain⟨r2,e_r2,h⟩:=bnd h
  refine sq (gr fol [2] (kBs r2) (ac (cv (qmj a.s e_r2)) az) ?_)
  refine Goes.ret ?_
  obtain rfl:=si h
  exact(gw2 [.str r2] (FzW.still tS))
 ·refine Goes.skip ?_
  obtain⟨r3,e_r3,h⟩:=bnd h
  refine sq (gr fol [1] [(3,.bool r3.1),(4,vl (qa .u64) r3.2)] (ac (cv (zn a e_r3)) az) ?_)
  refine sg fol [(3,.bool r3.1),(4,vl (qa .u64) r3.2),(5,.slice 1 0 1 1 1)] [.cells [.i a.s,nvl (qa .u64) a.w],.cells [.int .u64 1000000000000000000]] ?_
  refine sh fol [(3,.bool r3.1),(4,vl (qa .u64) r3.2),(5,.slice 1 0 1 1 1),(6,.nilslice)] ?_
  refine sq (Goes.block ?_)
  obtain⟨r7,g7,h⟩:=bnd h
  refine Goes.imp (Q:=fun x s'=>(x= .exit 0∧ ∃l6,l6=r7∧Sub s' (ofG 69 ((3,.bool r3.1)::(kAS l6 [])),(kAY l6 [])))) ?_ ?_
  ·refine Goes.sub (s':=(ofG 69 [(3,.bool r3.1),(4,vl (qa .u64) r3.2),(5,vl (qa .u64) ([1000000000000000000]:List Int)),(6,.gslice 0 ([]:List Str).length 1)],[.cells (([]:List Str).flatMap encS.c)])) (Sub.norm [1] [none] rfl rfl (.keep (.same nB) (.keep (.same (qg (qa .u64) _)) (.keep (.frz (Fz.lit rfl rfl (FzL.still (AllST.cons tI AllST.nil))) (qg (qa .u64) _)) (.keep .nil .nil)))) (.fresh .nil)) ?_
   refine Goes.loopS (fun M s=> ∃(l4:List Str) (l5:List Int),s=(ofG 69 ((3,.bool r3.1)::(4,vl (qa .u64) l5)::(5,vl (qa .u64) ([1000000000000000000]:List Int))::(kAS l4 [])),(kAY l4 []))∧zO N M l4 l5=some r7) ?_ (m:=N) ⟨_,_,rfl,g7⟩
   rintro M s ⟨l4,l5,rfl,g7⟩
   cases M with
   |zero=>simp only[zO]at g7;cases g7
   |succ M=>
    rw[zO]at g7
    refine sq ?_
    refine sh fol ((3,.bool r3.1)::(4,vl (qa .u64) l5)::(5,vl (qa .u64) ([1000000000000000000]:List Int))::(kAS l4 [(26,.bool (decide ((l5.length:Int)>0)))])) ?_
    refine ihD g7 (fun c8 g7=>?_) (fun c8 g7=>?_)
    ·refine Goes.skip ?_
     refine Goes.block ?_
     obtain⟨r9,e_r9,g7⟩:=bnd g7
     refine sq (gr fol [2] ((3,.bool r3.1)::(5,vl (qa .u64) ([1000000000000000000]:List Int))::(kAS l4 [(7,vl (qa .u64) r9.1),(8,vl (qa .u64) r9.2)])) (ac (cv (qd5 N l5 ([1000000000000000000]:List Int) e_r9)) az) ?_)
     refine sh fol ((3,.bool r3.1)::(5,vl (qa .u64) ([1000000000000000000]:List Int))::(kAS l4 [(7,vl (qa .u64) r9.1),(8,vl (qa .u64) r9.2),(9,.str [48])])) ?_
     refine sq ?_
     refine sh fol ((3,.bool r3.1)::(5,vl (qa .u64) ([1000000000000000000]:List Int))::(kAS l4 [(7,vl (qa .u64) r9.1),(8,vl (qa .u64) r9.2),(9,.str [48]),(35,.bool (decide ((r9.2.length:Int)>0)))])) ?_
     obtain⟨r11,g11,g7⟩:=bnd g7
     refine Goes.imp (Q:=fun x s'=>(x= .normal∧ ∃s10,s10=r11∧Sub s' (ofG 69 ((3,.bool r3.1)::(5,vl (qa .u64) ([1000000000000000000]:List Int))::(kAS l4 [(7,vl (qa .u64) r9.1),(9,.str s10)])),(kAY l4 [])))) ?_ ?_
     ·refine ihD g11 (fun c12 g11=>?_) (fun c12 g11=>?_)
      ·obtain⟨x13,e_x13,g11⟩:=bnd g11
       obtain⟨r14,e_r14,g11⟩:=bnd g11
       refine gr fol [1,2,3] ((3,.bool r3.1)::(5,vl (qa .u64) ([1000000000000000000]:List Int))::(kAS l4 [(7,vl (qa .u64) r9.1),(9,.str r14)])) (ac (iv qI (qa .u64) e_x13) (ac (lv 0 zu (qa .u64) e_x13 rfl) (ac (cv (qlZ x13 10 e_r14)) az))) ?_
       obtain rfl:=si g11
       exact⟨rfl,_,rfl,(Sub.refl _)⟩
      ·refine Goes.skip ?_
       obtain rfl:=si g11
       exact⟨rfl,_,rfl,(Sub.keep [3,5,6,7,9] rfl rfl)⟩
     rintro x s' ⟨rfl,s10,rfl,hsub⟩
     refine Goes.sub hsub ?_
     refine sq ?_
     refine sh fol ((3,.bool r3.1)::(5,vl (qa .u64) ([1000000000000000000]:List Int))::(kAS l4 [(7,vl (qa .u64) r9.1),(9,.str s10),(42,.bool (decide ((r9.1.length:Int)>0)))])) ?_
     obtain⟨r16,g16,g7⟩:=bnd g7
     refine Goes.imp (Q:=fun x s'=>(x= .normal∧ ∃s15,s15=r16∧Sub s' (ofG 69 ((3,.bool r3.1)::(5,vl (qa .u64) ([1000000000000000000]:List Int))::(kAS l4 [(7,vl (qa .u64) r9.1),(9,.str s15)])),(kAY l4 [])))) ?_ ?_
     ·refine ihD g16 (fun c17 g16=>?_) (fun c17 g16=>?_)
      ·obtain⟨r18,e_r18,g16⟩:=bnd g16
       obtain⟨s19,e_s19,g16⟩:=bnd g16
       refine gr fol [3,5] ((3,.bool r3.1)::(5,vl (qa .u64) ([1000000000000000000]:List Int))::(kAS l4 [(7,vl (qa .u64) r9.1),(9,.str s19)])) (ac (cv (qkj [48] (w64 (18-(s10.length:Int))) e_r18)) (ac (hs (.done (.opt (qY Tryz.prog .add 9 (.tmp 46) (.tmp 47) (.str r18) (.str s10))) (.str s19)) (xY e_s19)) az)) ?_
       obtain rfl:=si g16
       exact⟨rfl,_,rfl,(Sub.refl _)⟩
      ·refine Goes.skip ?_
       obtain rfl:=si g16
       exact⟨rfl,_,rfl,(Sub.keep [3,5,6,7,9] rfl rfl)⟩
     rintro x s' ⟨rfl,s15,rfl,hsub⟩
     refine Goes.sub hsub ?_
     obtain⟨l20,e_l20,g7⟩:=bnd g7
     refine sq (gq fol [3] [(3,.bool r3.1),(5,vl (qa .u64) ([1000000000000000000]:List Int)),(6,.gslice 2 l20.length 1),(7,vl (qa .u64) r9.1)] (.dead:: .cells [.str s15]::(kAY l20 [])) (ac (hs (.run [0,1] (y8 Tryz.prog [244,244] (.gslice 0 l4.length 1) (.slice 1 0 1 1 1)) (kAY l4 [.cells [.str s15]]) (.gslice 2 l20.length 1) (.dead:: .cells [.str s15]::(kAY l20 [])) true) (qb2 qoJ (E:=encS) rfl (qgv (E:=encS) (ys:=[s15]) rfl rfl rfl rfl) (qhB (E:=encS) (l:=l4) rfl rfl rfl e_l20 rfl))) az) ?_)
     refine gh fol [(3,.bool r3.1),(4,vl (qa .u64) r9.1),(5,vl (qa .u64) ([1000000000000000000]:List Int)),(6,.gslice 2 l20.length 1)] ?_
     exact⟨M,(ofG 69 ((3,.bool r3.1)::(4,vl (qa .u64) r9.1)::(5,vl (qa .u64) ([1000000000000000000]:List Int))::(kAS l20 [])),(kAY l20 [])),Nat.lt_succ_self _,(Sub.norm [] [some 2] rfl rfl (.keep (.same nB) (.keep (.same (qg (qa .u64) _)) (.keep (.same (qg (qa .u64) _)) (.keep (.gslice rfl) .nil)))) (.ks .nil)),_,_,rfl,g7⟩
    ·refine Goes.exit ?_
     obtain rfl:=si g7
     exact⟨rfl,_,rfl,(Sub.keep [3,6] rfl rfl)⟩
  rintro x s' ⟨rfl,l6,rfl,hsub⟩
  refine Goes.sub hsub ?_
  refine sg fol ((3,.bool r3.1)::(kAS l6 (kB2 []))) (kAY l6 [.bld 197 5 [.nilptr,.nilslice]]) ?_
  refine sq ?_
  refine sh fol (kAS l6 (kB2 [(54,.bool r3.1)])) ?_
  obtain⟨r23,g23,h⟩:=bnd h
  refine Goes.imp (Q:=fun x s'=>(x= .normal∧ ∃ok21 o22,(ok21,o22)=r23∧Sub s' (ofG 69 (kAS l6 (kB2 [])),(kAY l6 [.bld 197 5 [pz ok21 1 0,hsl 2 1 o22],.cells ((hof o22).flatMap (qa .u8).c)])))) ?_ ?_
  ·refine ihB g23 (fun c24 g23=>?_) (fun c24 g23=>?_)
   ·refine Goes.sub (s':=(ofG 69 (kAS l6 (kB2 [(54,.bool r3.1)])),(kAY l6 [.bld 197 5 [pz false 1 0,.nilslice]]))) (Sub.norm [] [some 0,some 1] rfl rfl (.keep (.gslice rfl) (.kp (.keep (.same nB) .nil))) (.ks (.kb rfl (.bld (rc (zG.pz0) (rc (.same (qD.nilslice)) rn))) .nil))) ?_
    refine Goes.sub (s':=(ofG 69 (kAS l6 (kB2 [(54,.bool r3.1)])),(kAY l6 [.bld 197 5 [pz false 1 0,hsl 2 1 (none:Option (List Int))],.cells ((hof (none:Option (List Int))).flatMap (qa .u8).c)]))) (Sub.norm [] [some 0,some 1,none] rfl rfl (.keep (.gslice rfl) (.kp (.keep (.same nB) .nil))) (.ks (.kb rfl (.bld (rc (zG.pz0) (rc .hs0 rn))) (.fresh .nil)))) ?_
    obtain⟨l26,e_r25,g23⟩:=bnd g23
    refine gq fol [0] (kAS l6 (kB2 [])) (kAY l6 [.bld 197 5 [pz true 1 0,hsl 3 1 (some l26)],.dead,.cells ((hof (some l26)).flatMap (qa .u8).c)]) (ac (hs (.callH 191 [.ptr 1 0,.str [45]] (kAY l6 [.bld 197 5 [pz false 1 0,hsl 2 1 (none:Option (List Int))],.cells ((hof (none:Option (List Int))).flatMap (qa .u8).c)]) [1,2] (.tuple [.i (([45].length:Nat):Int),.niliface]) (kAY l6 [.bld 197 5 [pz true 1 0,hsl 3 1 (some l26)],.dead,.cells ((hof (some l26)).flatMap (qa .u8).c)])) (qfg [some 1,some 2] [none,some 0,none,some 2] (qno false (none:Option (List Int)) [45] e_r25) (.kb rfl (.bld (rc (zG.pz0) (rc .hs0 rn))) (.ks .nil)) rfl rfl (.old rfl rfl (.back rfl rfl (.bld (rc ((zG.pz rfl)) (rc (.hs rfl) rn))) rfl (.dead (.new rfl rfl (.same fa) rfl .nil)))) (rc (.ptr rfl) (rc (.same nS) rn)) (.same (qD.tuple sn)) rfl)) az) ?_
    obtain rfl:=si g23
    exact⟨rfl,_,_,rfl,(Sub.norm [] [some 0,some 1,some 3] rfl rfl (.keep (.gslice rfl) (.kp .nil)) (.ks (.kb rfl (.bld (rc ((zG.pz rfl)) (rc (.hs rfl) rn))) (.ks .nil))))⟩
   ·refine Goes.skip ?_
    obtain rfl:=si g23
    exact⟨rfl,_,_,rfl,(Sub.norm [] [some 0,some 1,none] rfl rfl (.keep (.gslice rfl) (.kp .nil)) (.ks (.kb rfl (.bld (rc (zG.pz0) (rc .hs0 rn))) (.fresh .nil))))⟩
  rintro x s' ⟨rfl,ok21,o22,rfl,hsub⟩
  try dsimp only at h
  refine Goes.sub hsub ?_
  refine sq ?_
  refine sh fol (kAS l6 (kB2 [(11,.i (w64 ((l6.length:Int)-1)))])) ?_
  refine Goes.block ?_
  obtain⟨r32,g32,h⟩:=bnd h
  refine Goes.imp (Q:=fun x s'=>(x= .exit 2∧ ∃ok30 o31,(ok30,o31)=r32∧Sub s' (ofG 69 [(10,.ptr 0 0)],[.bld 197 5 [pz ok30 0 0,hsl 1 1 o31],.cells ((hof o31).flatMap (qa .u8).c)]))) ?_ ?_
  ·refine Goes.loopS (fun M s=> ∃(ok27:Bool) (o28:Option (List Int)) (n29:Int),s=(ofG 69 (kAS l6 (kB2 [(11,.i n29)])),(kAY l6 [.bld 197 5 [pz ok27 1 0,hsl 2 1 o28],.cells ((hof o28).flatMap (qa .u8).c)]))∧kT l6 M ok27 o28 n29=some r32) ?_ (m:=N) ⟨_,_,_,rfl,g32⟩
   rintro M s ⟨ok27,o28,n29,rfl,g32⟩
   cases M with
   |zero=>simp only[kT]at g32;cases g32
   |succ M=>
    rw[kT]at g32
    refine sq ?_
    refine sh fol (kAS l6 (kB2 [(11,.i n29),(60,.bool (decide (n29≥0)))])) ?_
    refine ihD g32 (fun c33 g32=>?_) (fun c33 g32=>?_)
    ·refine Goes.skip ?_
     refine sq (Goes.block ?_)
     obtain⟨x34,e_x34,g32⟩:=bnd g32
     obtain⟨l36,e_r35,g32⟩:=bnd g32
     refine gq fol [2,3,4] (kAS l6 (kB2 [(11,.i n29)])) (kAY l6 [.bld 197 5 [pz true 1 0,hsl 3 1 (some l36)],.dead,.cells ((hof (some l36)).flatMap (qa .u8).c)]) (ac (hs (.done (.opt (qf Tryz.prog 244 (.gslice 0 l6.length 1) (.i n29))) (.ptr 0 ((n29:Int).toNat*1+0))) (ix_gs qoJ e_x34)) (ac (hs (.run [0] (zJ Tryz.prog 9 (.ptr 0 ((n29:Int).toNat*1+0))) (kAY l6 [.bld 197 5 [pz ok27 1 0,hsl 2 1 o28],.cells ((hof o28).flatMap (qa .u8).c)]) (.str x34) (kAY l6 [.bld 197 5 [pz ok27 1 0,hsl 2 1 o28],.cells ((hof o28).flatMap (qa .u8).c)]) false) (qbT ce9 (E:=encS) (l:=l6) rfl rfl e_x34 (nl rfl) rfl)) (ac (hs (.callH 191 [.ptr 1 0,.str x34] (kAY l6 [.bld 197 5 [pz ok27 1 0,hsl 2 1 o28],.cells ((hof o28).flatMap (qa .u8).c)]) [1,2] (.tuple [.i ((x34.length:Nat):Int),.niliface]) (kAY l6 [.bld 197 5 [pz true 1 0,hsl 3 1 (some l36)],.dead,.cells ((hof (some l36)).flatMap (qa .u8).c)])) (qfg [some 1,some 2] [none,some 0,none,some 2] (qno ok27 o28 x34 e_r35) (.kb rfl (.bld (rc ((zG.pz rfl)) (rc (.hs rfl) rn))) (.ks .nil)) rfl rfl (.old rfl rfl (.back rfl rfl (.bld (rc ((zG.pz rfl)) (rc (.hs rfl) rn))) rfl (.dead (.new rfl rfl (.same fa) rfl .nil)))) (rc (.ptr rfl) (rc (.same nS) rn)) (.same (qD.tuple sn)) rfl)) az))) ?_
     refine gh fol (kAS l6 (kB2 [(11,.i (w64 (n29-1)))])) ?_
     exact⟨M,(ofG 69 (kAS l6 (kB2 [(11,.i (w64 (n29-1)))])),(kAY l6 [.bld 197 5 [pz true 1 0,hsl 2 1 (some l36)],.cells ((hof (some l36)).flatMap (qa .u8).c)])),Nat.lt_succ_self _,(Sub.norm [] [some 0,some 1,some 3] rfl rfl (.keep (.gslice rfl) (.kp (.keep (.same nI) .nil))) (.ks (.kb rfl (.bld (rc ((zG.pz rfl)) (rc (.hs rfl) rn))) (.ks .nil)))),_,_,_,rfl,g32⟩
    ·refine Goes.exit ?_
     obtain rfl:=si g32
     exact⟨rfl,_,_,rfl,(Sub.norm [] [some 1,some 2] rfl rfl (.drop (.kp .nil)) (.kb rfl (.bld (rc ((zG.pz rfl)) (rc (.hs rfl) rn))) (.ks .nil)))⟩
  rintro x s' ⟨rfl,ok30,o31,rfl,hsub⟩
  try dsimp only at h
  refine Goes.sub hsub ?_
  obtain⟨t38,e_r37,h⟩:=bnd h
  refine sq (gq fol [0] (kBs t38) [.dead,.dead] (ac (hs (.callH 193 [.ptr 0 0] [.bld 197 5 [pz ok30 0 0,hsl 1 1 o31],.cells ((hof o31).flatMap (qa .u8).c)] [0,1] (.str t38) [.dead,.dead]) (qfg [some 0,some 1] [none,none] (qnV ok30 o31 e_r37) (.kb rfl (.bld (rc ((zG.pz rfl)) (rc (.hs rfl) rn))) (.ks .nil)) rfl rfl (.dead (.dead .nil)) (rc (.ptr rfl) rn) (.same nS) rfl)) az) ?_)
  refine Goes.ret ?_
  obtain rfl:=si h
  exact(gw2 [.str t38] (FzW.still tS))
def qct (N:Nat) (n:qj):Option Bool:=
 ((qaC n).bind fun r1=>
 if r1>1800 then
 (jy N n).bind fun r3=>
 (strings_TrimPrefix r3 [45]).bind fun r4=>
 some (decide ((r4.length:Int)>600))
 else
 some false:Option Bool).bind fun b5=>
 some b5
theorem qdm (N:Nat) (n:qj) {res:Bool} (h:qct N n=some res):qb Tryz.prog (.fn 207) [.agg [.i n.s,nvl (qa .u64) n.w]] [] (.bool res) []:=by
 unfold qct at h
 refine Goes.fnW Tryz.func207 rfl rfl (m:=13) rfl (rs:=[.tmp 2]) rfl (l:=[(0,.agg [.i n.s,nvl (qa .u64) n.w])]) rfl ?_
 refine sg fol (kA2 []) [.cells [.i n.s,nvl (qa .u64) n.w]] ?_
 refine sq ?_
 obtain⟨b5,g_v6,h⟩:=bnd h
 refine Goes.cut (s':=(ofG 13 (kBq b5),[.cells [.i n.s,nvl (qa .u64) n.w]])) ?_ ?_
 ·obtain⟨r1,e_r1,g_v6⟩:=bnd g_v6
  rcases wyD g_v6 with⟨c2,g_v6⟩|⟨c2,g_v6⟩
  ·obtain⟨r3,e_r3,g_v6⟩:=bnd g_v6
   obtain⟨r4,e_r4,g_v6⟩:=bnd g_v6
   obtain rfl:=si g_v6
   exact tr fol [1,3,5,6] (kBq (decide ((r4.length:Int)>600))) (ac (cv (qc0 n e_r1)) (ac (gw c2) (ac (cv (yU N n e_r3)) (ac (cv (qaF r3 [45] e_r4)) az))))
  ·obtain rfl:=si g_v6
   exact tr fol [1,3] kA7 (ac (cv (qc0 n e_r1)) (ac (gw c2) az))
 refine Goes.ret ?_
 obtain rfl:=si h
 exact(gw2 [.bool b5] (FzW.still tB))
def xe (N:Nat) (a:qF):Option Bool:=
 ((qct N a.Num).bind fun r1=>
 if r1=true then
 some true
 else
 (qct N a.Den).bind fun r3=>
 some r3:Option Bool).bind fun b4=>
 some b4
theorem qeU (N:Nat) (a:qF) {res:Bool} (h:xe N a=some res):qb Tryz.prog (.fn 151) [.agg [.i a.Num.s,nvl (qa .u64) a.Num.w,.i a.Den.s,nvl (qa .u64) a.Den.w]] [] (.bool res) []:=by
 unfold xe at h
 refine Goes.fnW Tryz.func151 rfl rfl (m:=11) rfl (rs:=[.tmp 2]) rfl (l:=[(0,.agg [.i a.Num.s,nvl (qa .u64) a.Num.w,.i a.Den.s,nvl (qa .u64) a.Den.w])]) rfl ?_
 refine sg fol (kA2 []) [.cells [.i a.Num.s,nvl (qa .u64) a.Num.w,.i a.Den.s,nvl (qa .u64) a.Den.w]] ?_
 refine sq ?_
 obtain⟨b4,g_v5,h⟩:=bnd h
 refine Goes.cut (s':=(ofG 11 (kBq b4),[.cells [.i a.Num.s,nvl (qa .u64) a.Num.w,.i a.Den.s,nvl (qa .u64) a.Den.w]])) ?_ ?_
 ·obtain⟨r1,e_r1,g_v5⟩:=bnd g_v5
  rcases wyB g_v5 with⟨c2,g_v5⟩|⟨c2,g_v5⟩
  ·obtain rfl:=si g_v5
   exact tr fol [2,3] [(2,.bool true)] (ac (cv (qdm N a.Num e_r1)) (ac (gw c2) az))
  ·obtain⟨r3,e_r3,g_v5⟩:=bnd g_v5
   obtain rfl:=si g_v5
   exact tr fol [2,3,6] (kBq r3) (ac (cv (qdm N a.Num e_r1)) (ac (gw c2) (ac (cv (qdm N a.Den e_r3)) az)))
 refine Goes.ret ?_
 obtain rfl:=si h
 exact(gw2 [.bool b4] (FzW.still tB))
def xW (N:Nat) (a:qF):Option Str:=
 (jd a).bind fun r1=>
 if r1=true then
 (jy N a.Num).bind fun r3=>
 some r3
 else
 (jy N a.Num).bind fun r4=>
 (cat r4 [47]).bind fun s5=>
 (jy N a.Den).bind fun r6=>
 (cat s5 r6).bind fun s7=>
 some s7
theorem qe1 (N:Nat) (a:qF) {res:Str} (h:xW N a=some res):qb Tryz.prog (.fn 152) [.agg [.i a.Num.s,nvl (qa .u64) a.Num.w,.i a.Den.s,nvl (qa .u64) a.Den.w]] [] (.str res) []:=by
 unfold xW at h
 refine Goes.fnW Tryz.func152 rfl rfl (m:=16) rfl (rs:=[.tmp 2]) rfl (l:=[(0,.agg [.i a.Num.s,nvl (qa .u64) a.Num.w,.i a.Den.s,nvl (qa .u64) a.Den.w])]) rfl ?_
 refine sg fol (kA2 []) [.cells [.i a.Num.s,nvl (qa .u64) a.Num.w,.i a.Den.s,nvl (qa .u64) a.Den.w]] ?_
 refine sq ?_
 obtain⟨r1,e_r1,h⟩:=bnd h
 refine sq (gr fol [1] (kA2 (kAl r1)) (ac (cv (vY a e_r1)) az) ?_)
 refine ihB h (fun c2 h=>?_) (fun c2 h=>?_)
 ·obtain⟨r3,e_r3,h⟩:=bnd h
  refine sq (gr fol [2] (kBs r3) (ac (cv (yU N a.Num e_r3)) az) ?_)
  refine Goes.ret ?_
  obtain rfl:=si h
  exact(gw2 [.str r3] (FzW.still tS))
 ·refine Goes.skip ?_
  obtain⟨r4,e_r4,h⟩:=bnd h
  obtain⟨s5,e_s5,h⟩:=bnd h
  obtain⟨r6,e_r6,h⟩:=bnd h
  obtain⟨s7,e_s7,h⟩:=bnd h
  refine sq (gr fol [2,3,6,7] (kBs s7) (ac (cv (yU N a.Num e_r4)) (ac (hs (.done (.opt (qY Tryz.prog .add 9 (.tmp 10) (.const (.string ⟨#[47]⟩)) (.str r4) (.str [47]))) (.str s5)) (xY e_s5)) (ac (cv (yU N a.Den e_r6)) (ac (hs (.done (.opt (qY Tryz.prog .add 9 (.tmp 11) (.tmp 14) (.str s5) (.str r6))) (.str s7)) (xY e_s7)) az)))) ?_)
  refine Goes.ret ?_
  obtain rfl:=si h
  exact(gw2 [.str s7] (FzW.still tS))
def jU (N:Nat) (a:qF):Option (Str×Int):=
 (xe N a).bind fun r1=>
 if r1=true then
 some ([],4)
 else
 (xW N a).bind fun r3=>
 some (r3,0)
theorem xN (N:Nat) (a:qF) {res:Str×Int} (h:jU N a=some res):qb Tryz.prog (.fn 87) [.agg [.i a.Num.s,nvl (qa .u64) a.Num.w,.i a.Den.s,nvl (qa .u64) a.Den.w]] [] (.tuple (kA9 res.1 res.2)) []:=by
 unfold jU at h
 refine Goes.fnW Tryz.func87 rfl rfl (m:=8) rfl (rs:=[.tmp 2,.tmp 3]) rfl (l:=[(0,.agg [.i a.Num.s,nvl (qa .u64) a.Num.w,.i a.Den.s,nvl (qa .u64) a.Den.w])]) rfl ?_
 refine sg fol (kA2 []) [.cells [.i a.Num.s,nvl (qa .u64) a.Num.w,.i a.Den.s,nvl (qa .u64) a.Den.w]] ?_
 refine sq ?_
 obtain⟨r1,e_r1,h⟩:=bnd h
 refine sq (gr fol [1] (kA2 [(5,.bool r1)]) (ac (cv (qeU N a e_r1)) az) ?_)
 refine ihB h (fun c2 h=>?_) (fun c2 h=>?_)
 ·refine sh fol [(2,.str []),(3,.i 4)] ?_
  refine Goes.ret ?_
  obtain rfl:=si h
  exact(gw2 [.str [],.i 4] (FzW.tuple (qd.cons (FzW.still tS) (qd.cons (FzW.still tI) qd.nil))))
 ·refine Goes.skip ?_
  obtain⟨r3,e_r3,h⟩:=bnd h
  refine sq (gr fol [1] [(2,.str r3),(3,.i 0)] (ac (cv (qe1 N a e_r3)) az) ?_)
  refine Goes.ret ?_
  obtain rfl:=si h
  exact(gw2 [.str r3,.i 0] (FzW.tuple (qd.cons (FzW.still tS) (qd.cons (FzW.still tI) qd.nil))))
def vL (N:Nat) (a0_:Str) (a1_:Str):Option (Str×Int):=
 (kw N ([a0_,a1_]:List Str)).bind fun r1=>
 if(!decide (r1=0))=true then
 some ([],r1)
 else
 (vM N a0_).bind fun r3=>
 (vM N a1_).bind fun r4=>
 (xG N r3 r4).bind fun r5=>
 (jU N r5).bind fun r6=>
 some (r6.1,r6.2)
theorem qdO (N:Nat) (a0_:Str) (a1_:Str) {res:Str×Int} (h:vL N a0_ a1_=some res):qb Tryz.prog (.fn 134) [.str a0_,.str a1_,.func (.func 120) [] []] [] (.tuple (kA9 res.1 res.2)) []:=by
 unfold vL at h
 refine Goes.fnW Tryz.func134 rfl rfl (m:=25) rfl (rs:=[.tmp 6,.tmp 7]) rfl (l:=(kJ a0_ a1_ [(2,.func (.func 120) [] [])])) rfl ?_
 refine sh fol (kJ a0_ a1_ [(2,.func (.func 120) [] [])]) ?_
 refine sq ?_
 obtain⟨r1,e_r1,h⟩:=bnd h
 refine sq (gq fol [3] (kJ a0_ a1_ ((2,.func (.func 120) [] [])::(kBw r1))) (kB a0_ a1_ []) (ac (hs (.call 81 [.slice 0 0 2 2 1] (kB a0_ a1_ []) [0] [vl encS ([a0_,a1_]:List Str)] (.i r1)) (qbE (FzL.cons (Fz.lit rfl rfl (FzL.still (AllST.cons tS (AllST.cons tS AllST.nil)))) FzL.nil) (jf N ([a0_,a1_]:List Str) e_r1) tI rfl)) az) ?_)
 refine sh fol (kJ a0_ a1_ ((2,.func (.func 120) [] [])::(8,.i r1)::(kBh (!decide (r1=0))))) ?_
 refine ihB h (fun c2 h=>?_) (fun c2 h=>?_)
 ·refine sh fol [(6,.str []),(7,.i r1)] ?_
  refine Goes.ret ?_
  obtain rfl:=si h
  exact(gw2 [.str [],.i r1] (FzW.tuple (qd.cons (FzW.still tS) (qd.cons (FzW.still tI) qd.nil))))
 ·refine Goes.skip ?_
  obtain⟨r3,e_r3,h⟩:=bnd h
  obtain⟨r4,e_r4,h⟩:=bnd h
  obtain⟨r5,e_r5,h⟩:=bnd h
  obtain⟨r6,e_r6,h⟩:=bnd h
  refine sq (gr fol [2,4,5,6] (kBi r6.1 r6.2 []) (ac (cv (jW N a0_ e_r3)) (ac (cv (jW N a1_ e_r4)) (ac (cv (qcZ N r3 r4 e_r5)) (ac (cv (xN N r5 e_r6)) az)))) ?_)
  refine Goes.ret ?_
  obtain rfl:=si h
  exact(gw2 (kA9 r6.1 r6.2) (FzW.tuple (qd.cons (FzW.still tS) (qd.cons (FzW.still tI) qd.nil))))
def qah (N:Nat) (a:Str) (b:Str):Option (Str×Int):=
 (vL N a b).bind fun r1=>
 some (r1.1,r1.2)
theorem qhg (N:Nat) (a:Str) (b:Str) {res:Str×Int} (h:qah N a b=some res):qb Tryz.prog (.fn 57) (kAR a b) [] (.tuple (kA9 res.1 res.2)) []:=by
 unfold qah at h
 refine Goes.fnW Tryz.func57 rfl rfl (m:=11) rfl (rs:=[.tmp 4,.tmp 5]) rfl (l:=(kJ a b [])) rfl ?_
 refine sh fol (kJ a b []) ?_
 obtain⟨r1,e_r1,h⟩:=bnd h
 refine sq (gr fol [2] ((4,.str r1.1)::(kA5 r1.2)) (ac (hs (.call 134 [.str a,.str b,.func (.func 120) [] []] [] [] [.str a,.str b,.func (.func 120) [] []] (.tuple (kA9 r1.1 r1.2))) (qhU (FzL.cons (Fz.still tS) (FzL.cons (Fz.still tS) (FzL.cons (Fz.func FzL.nil FzL.nil) FzL.nil))) (qdO N a b e_r1) (Still.tuple (AllST.cons tS (AllST.cons tI AllST.nil))))) az) ?_)
 refine Goes.ret ?_
 obtain rfl:=si h
 exact(gw2 (kA9 r1.1 r1.2) (FzW.tuple (qd.cons (FzW.still tS) (qd.cons (FzW.still tI) qd.nil))))
def qau (a:qF):Option qF:=
 (ze a.Num).bind fun r1=>
 some (⟨r1,a.Den⟩:qF)
theorem qfz (a:qF) {res:qF} (h:qau a=some res):qb Tryz.prog (.fn 153) [.agg [.i a.Num.s,nvl (qa .u64) a.Num.w,.i a.Den.s,nvl (qa .u64) a.Den.w]] [] (.agg [.i res.Num.s,nvl (qa .u64) res.Num.w,.i res.Den.s,nvl (qa .u64) res.Den.w]) []:=by
 unfold qau at h
 refine Goes.fnW Tryz.func153 rfl rfl (m:=9) rfl (rs:=[.cell 2 108]) rfl (l:=[(0,.agg [.i a.Num.s,nvl (qa .u64) a.Num.w,.i a.Den.s,nvl (qa .u64) a.Den.w])]) rfl ?_
 refine sg fol (kAH []) (.cells [.i a.Num.s,nvl (qa .u64) a.Num.w,.i a.Den.s,nvl (qa .u64) a.Den.w]::(kD [])) ?_
 obtain⟨r1,e_r1,h⟩:=bnd h
 refine sq (gq fol [2,6] kBX [.cells [.i a.Num.s,nvl (qa .u64) a.Num.w,.i a.Den.s,nvl (qa .u64) a.Den.w],.cells [.i r1.s,nvl (qa .u64) r1.w,.i a.Den.s,nvl (qa .u64) a.Den.w]] (ac (cv (jG a.Num e_r1)) (ac (hs (.run [1] (qp Tryz.prog 108 (.ptr 1 0) (.agg [.i r1.s,nvl (qa .u64) r1.w,.i a.Den.s,nvl (qa .u64) a.Den.w])) (.cells [.i a.Num.s,nvl (qa .u64) a.Num.w,.i a.Den.s,nvl (qa .u64) a.Den.w]::(kD [])) .undef [.cells [.i a.Num.s,nvl (qa .u64) a.Num.w,.i a.Den.s,nvl (qa .u64) a.Den.w],.cells [.i r1.s,nvl (qa .u64) r1.w,.i a.Den.s,nvl (qa .u64) a.Den.w]] true) (kW (n:=4) (by kernel_rfl) rfl rfl rfl rfl (cac rfl (cac nvc (cac rfl (cac nvc can)))) rfl)) az)) ?_)
 refine Goes.ret ?_
 obtain rfl:=si h
 exact(gw2 [.agg [.i r1.s,nvl (qa .u64) r1.w,.i a.Den.s,nvl (qa .u64) a.Den.w]] (FzW.agg (qd.cons (FzW.still tI) (qd.cons (FzW.still (qx (qa .u64) _ (nl rfl))) (qd.cons (FzW.still tI) (qd.cons (FzW.still (qx (qa .u64) _ (nl rfl))) qd.nil))))))
def qaq (N:Nat) (a:qF) (b:qF):Option qF:=
 (qau b).bind fun r1=>
 (xG N a r1).bind fun r2=>
 some r2
theorem qfH (N:Nat) (a:qF) (b:qF) {res:qF} (h:qaq N a b=some res):qb Tryz.prog (.fn 89) [.agg [.i a.Num.s,nvl (qa .u64) a.Num.w,.i a.Den.s,nvl (qa .u64) a.Den.w],.agg [.i b.Num.s,nvl (qa .u64) b.Num.w,.i b.Den.s,nvl (qa .u64) b.Den.w]] [] (.agg [.i res.Num.s,nvl (qa .u64) res.Num.w,.i res.Den.s,nvl (qa .u64) res.Den.w]) []:=by
 unfold qaq at h
 refine Goes.fnW Tryz.func89 rfl rfl (m:=9) rfl (rs:=[.cell 4 108]) rfl (l:=[(0,.agg [.i a.Num.s,nvl (qa .u64) a.Num.w,.i a.Den.s,nvl (qa .u64) a.Den.w]),(1,.agg [.i b.Num.s,nvl (qa .u64) b.Num.w,.i b.Den.s,nvl (qa .u64) b.Den.w])]) rfl ?_
 refine sg fol (kH []) (.cells [.i a.Num.s,nvl (qa .u64) a.Num.w,.i a.Den.s,nvl (qa .u64) a.Den.w]:: .cells [.i b.Num.s,nvl (qa .u64) b.Num.w,.i b.Den.s,nvl (qa .u64) b.Den.w]::(kD [])) ?_
 obtain⟨r1,e_r1,h⟩:=bnd h
 obtain⟨r2,e_r2,h⟩:=bnd h
 refine sq (gq fol [2,3,4] (kAU []) [.cells [.i a.Num.s,nvl (qa .u64) a.Num.w,.i a.Den.s,nvl (qa .u64) a.Den.w],.cells [.i b.Num.s,nvl (qa .u64) b.Num.w,.i b.Den.s,nvl (qa .u64) b.Den.w],.cells [.i r2.Num.s,nvl (qa .u64) r2.Num.w,.i r2.Den.s,nvl (qa .u64) r2.Den.w]] (ac (cv (qfz b e_r1)) (ac (cv (qcZ N a r1 e_r2)) (ac (hs (.run [2] (qp Tryz.prog 108 (.ptr 2 0) (.agg [.i r2.Num.s,nvl (qa .u64) r2.Num.w,.i r2.Den.s,nvl (qa .u64) r2.Den.w])) (.cells [.i a.Num.s,nvl (qa .u64) a.Num.w,.i a.Den.s,nvl (qa .u64) a.Den.w]:: .cells [.i b.Num.s,nvl (qa .u64) b.Num.w,.i b.Den.s,nvl (qa .u64) b.Den.w]::(kD [])) .undef [.cells [.i a.Num.s,nvl (qa .u64) a.Num.w,.i a.Den.s,nvl (qa .u64) a.Den.w],.cells [.i b.Num.s,nvl (qa .u64) b.Num.w,.i b.Den.s,nvl (qa .u64) b.Den.w],.cells [.i r2.Num.s,nvl (qa .u64) r2.Num.w,.i r2.Den.s,nvl (qa .u64) r2.Den.w]] true) (kW (n:=4) (by kernel_rfl) rfl rfl rfl rfl (cac rfl (cac nvc (cac rfl (cac nvc can)))) rfl)) az))) ?_)
 refine Goes.ret ?_
 obtain rfl:=si h
 exact(gw2 [.agg [.i r2.Num.s,nvl (qa .u64) r2.Num.w,.i r2.Den.s,nvl (qa .u64) r2.Den.w]] (FzW.agg (qd.cons (FzW.still tI) (qd.cons (FzW.still (qx (qa .u64) _ (nl rfl))) (qd.cons (FzW.still tI) (qd.cons (FzW.still (qx (qa .u64) _ (nl rfl))) qd.nil))))))
def vO (N:Nat) (a0_:Str) (a1_:Str):Option (Str×Int):=
 (kw N ([a0_,a1_]:List Str)).bind fun r1=>
 if(!decide (r1=0))=true then
 some ([],r1)
 else
 (vM N a0_).bind fun r3=>
 (vM N a1_).bind fun r4=>
 (qaq N r3 r4).bind fun r5=>
 (jU N r5).bind fun r6=>
 some (r6.1,r6.2)
theorem qdz (N:Nat) (a0_:Str) (a1_:Str) {res:Str×Int} (h:vO N a0_ a1_=some res):qb Tryz.prog (.fn 134) [.str a0_,.str a1_,.func (.func 89) [] []] [] (.tuple (kA9 res.1 res.2)) []:=by
 unfold vO at h
 refine Goes.fnW Tryz.func134 rfl rfl (m:=25) rfl (rs:=[.tmp 6,.tmp 7]) rfl (l:=(kJ a0_ a1_ [(2,.func (.func 89) [] [])])) rfl ?_
 refine sh fol (kJ a0_ a1_ [(2,.func (.func 89) [] [])]) ?_
 refine sq ?_
 obtain⟨r1,e_r1,h⟩:=bnd h
 refine sq (gq fol [3] (kJ a0_ a1_ ((2,.func (.func 89) [] [])::(kBw r1))) (kB a0_ a1_ []) (ac (hs (.call 81 [.slice 0 0 2 2 1] (kB a0_ a1_ []) [0] [vl encS ([a0_,a1_]:List Str)] (.i r1)) (qbE (FzL.cons (Fz.lit rfl rfl (FzL.still (AllST.cons tS (AllST.cons tS AllST.nil)))) FzL.nil) (jf N ([a0_,a1_]:List Str) e_r1) tI rfl)) az) ?_)
 refine sh fol (kJ a0_ a1_ ((2,.func (.func 89) [] [])::(8,.i r1)::(kBh (!decide (r1=0))))) ?_
 refine ihB h (fun c2 h=>?_) (fun c2 h=>?_)
 ·refine sh fol [(6,.str []),(7,.i r1)] ?_
  refine Goes.ret ?_
  obtain rfl:=si h
  exact(gw2 [.str [],.i r1] (FzW.tuple (qd.cons (FzW.still tS) (qd.cons (FzW.still tI) qd.nil))))
 ·refine Goes.skip ?_
  obtain⟨r3,e_r3,h⟩:=bnd h
  obtain⟨r4,e_r4,h⟩:=bnd h
  obtain⟨r5,e_r5,h⟩:=bnd h
  obtain⟨r6,e_r6,h⟩:=bnd h
  refine sq (gr fol [2,4,5,6] (kBi r6.1 r6.2 []) (ac (cv (jW N a0_ e_r3)) (ac (cv (jW N a1_ e_r4)) (ac (cv (qfH N r3 r4 e_r5)) (ac (cv (xN N r5 e_r6)) az)))) ?_)
  refine Goes.ret ?_
  obtain rfl:=si h
  exact(gw2 (kA9 r6.1 r6.2) (FzW.tuple (qd.cons (FzW.still tS) (qd.cons (FzW.still tI) qd.nil))))
def qaa (N:Nat) (a:Str) (b:Str):Option (Str×Int):=
 (vO N a b).bind fun r1=>
 some (r1.1,r1.2)
theorem qhd (N:Nat) (a:Str) (b:Str) {res:Str×Int} (h:qaa N a b=some res):qb Tryz.prog (.fn 58) (kAR a b) [] (.tuple (kA9 res.1 res.2)) []:=by
 unfold qaa at h
 refine Goes.fnW Tryz.func58 rfl rfl (m:=11) rfl (rs:=[.tmp 4,.tmp 5]) rfl (l:=(kJ a b [])) rfl ?_
 refine sh fol (kJ a b []) ?_
 obtain⟨r1,e_r1,h⟩:=bnd h
 refine sq (gr fol [2] ((4,.str r1.1)::(kA5 r1.2)) (ac (hs (.call 134 [.str a,.str b,.func (.func 89) [] []] [] [] [.str a,.str b,.func (.func 89) [] []] (.tuple (kA9 r1.1 r1.2))) (qhU (FzL.cons (Fz.still tS) (FzL.cons (Fz.still tS) (FzL.cons (Fz.func FzL.nil FzL.nil) FzL.nil))) (qdz N a b e_r1) (Still.tuple (AllST.cons tS (AllST.cons tI AllST.nil))))) az) ?_)
 refine Goes.ret ?_
 obtain rfl:=si h
 exact(gw2 (kA9 r1.1 r1.2) (FzW.tuple (qd.cons (FzW.still tS) (qd.cons (FzW.still tI) qd.nil))))
def xO (N:Nat) (a:qF) (b:qF):Option qF:=
 (qC N a.Num b.Num).bind fun r1=>
 (qC N a.Den b.Den).bind fun r2=>
 (qaV N r1 r2).bind fun r3=>
 some r3
theorem qc8 (N:Nat) (a:qF) (b:qF) {res:qF} (h:xO N a b=some res):qb Tryz.prog (.fn 102) [.agg [.i a.Num.s,nvl (qa .u64) a.Num.w,.i a.Den.s,nvl (qa .u64) a.Den.w],.agg [.i b.Num.s,nvl (qa .u64) b.Num.w,.i b.Den.s,nvl (qa .u64) b.Den.w]] [] (.agg [.i res.Num.s,nvl (qa .u64) res.Num.w,.i res.Den.s,nvl (qa .u64) res.Den.w]) []:=by
 unfold xO at h
 refine Goes.fnW Tryz.func102 rfl rfl (m:=16) rfl (rs:=[.cell 4 108]) rfl (l:=[(0,.agg [.i a.Num.s,nvl (qa .u64) a.Num.w,.i a.Den.s,nvl (qa .u64) a.Den.w]),(1,.agg [.i b.Num.s,nvl (qa .u64) b.Num.w,.i b.Den.s,nvl (qa .u64) b.Den.w])]) rfl ?_
 refine sg fol (kH []) (.cells [.i a.Num.s,nvl (qa .u64) a.Num.w,.i a.Den.s,nvl (qa .u64) a.Den.w]:: .cells [.i b.Num.s,nvl (qa .u64) b.Num.w,.i b.Den.s,nvl (qa .u64) b.Den.w]::(kD [])) ?_
 obtain⟨r1,e_r1,h⟩:=bnd h
 obtain⟨r2,e_r2,h⟩:=bnd h
 obtain⟨r3,e_r3,h⟩:=bnd h
 refine sq (gq fol [4,9,10,11] (kAU []) [.cells [.i a.Num.s,nvl (qa .u64) a.Num.w,.i a.Den.s,nvl (qa .u64) a.Den.w],.cells [.i b.Num.s,nvl (qa .u64) b.Num.w,.i b.Den.s,nvl (qa .u64) b.Den.w],.cells [.i r3.Num.s,nvl (qa .u64) r3.Num.w,.i r3.Den.s,nvl (qa .u64) r3.Den.w]] (ac (cv (zw N a.Num b.Num e_r1)) (ac (cv (zw N a.Den b.Den e_r2)) (ac (cv (qdw N r1 r2 e_r3)) (ac (hs (.run [2] (qp Tryz.prog 108 (.ptr 2 0) (.agg [.i r3.Num.s,nvl (qa .u64) r3.Num.w,.i r3.Den.s,nvl (qa .u64) r3.Den.w])) (.cells [.i a.Num.s,nvl (qa .u64) a.Num.w,.i a.Den.s,nvl (qa .u64) a.Den.w]:: .cells [.i b.Num.s,nvl (qa .u64) b.Num.w,.i b.Den.s,nvl (qa .u64) b.Den.w]::(kD [])) .undef [.cells [.i a.Num.s,nvl (qa .u64) a.Num.w,.i a.Den.s,nvl (qa .u64) a.Den.w],.cells [.i b.Num.s,nvl (qa .u64) b.Num.w,.i b.Den.s,nvl (qa .u64) b.Den.w],.cells [.i r3.Num.s,nvl (qa .u64) r3.Num.w,.i r3.Den.s,nvl (qa .u64) r3.Den.w]] true) (kW (n:=4) (by kernel_rfl) rfl rfl rfl rfl (cac rfl (cac nvc (cac rfl (cac nvc can)))) rfl)) az)))) ?_)
 refine Goes.ret ?_
 obtain rfl:=si h
 exact(gw2 [.agg [.i r3.Num.s,nvl (qa .u64) r3.Num.w,.i r3.Den.s,nvl (qa .u64) r3.Den.w]] (FzW.agg (qd.cons (FzW.still tI) (qd.cons (FzW.still (qx (qa .u64) _ (nl rfl))) (qd.cons (FzW.still tI) (qd.cons (FzW.still (qx (qa .u64) _ (nl rfl))) qd.nil))))))
def vN (N:Nat) (a0_:Str) (a1_:Str):Option (Str×Int):=
 (kw N ([a0_,a1_]:List Str)).bind fun r1=>
 if(!decide (r1=0))=true then
 some ([],r1)
 else
 (vM N a0_).bind fun r3=>
 (vM N a1_).bind fun r4=>
 (xO N r3 r4).bind fun r5=>
 (jU N r5).bind fun r6=>
 some (r6.1,r6.2)
theorem qdK (N:Nat) (a0_:Str) (a1_:Str) {res:Str×Int} (h:vN N a0_ a1_=some res):qb Tryz.prog (.fn 134) [.str a0_,.str a1_,.func (.func 102) [] []] [] (.tuple (kA9 res.1 res.2)) []:=by
 unfold vN at h
 refine Goes.fnW Tryz.func134 rfl rfl (m:=25) rfl (rs:=[.tmp 6,.tmp 7]) rfl (l:=(kJ a0_ a1_ [(2,.func (.func 102) [] [])])) rfl ?_
 refine sh fol (kJ a0_ a1_ [(2,.func (.func 102) [] [])]) ?_
 refine sq ?_
 obtain⟨r1,e_r1,h⟩:=bnd h
 refine sq (gq fol [3] (kJ a0_ a1_ ((2,.func (.func 102) [] [])::(kBw r1))) (kB a0_ a1_ []) (ac (hs (.call 81 [.slice 0 0 2 2 1] (kB a0_ a1_ []) [0] [vl encS ([a0_,a1_]:List Str)] (.i r1)) (qbE (FzL.cons (Fz.lit rfl rfl (FzL.still (AllST.cons tS (AllST.cons tS AllST.nil)))) FzL.nil) (jf N ([a0_,a1_]:List Str) e_r1) tI rfl)) az) ?_)
 refine sh fol (kJ a0_ a1_ ((2,.func (.func 102) [] [])::(8,.i r1)::(kBh (!decide (r1=0))))) ?_
 refine ihB h (fun c2 h=>?_) (fun c2 h=>?_)
 ·refine sh fol [(6,.str []),(7,.i r1)] ?_
  refine Goes.ret ?_
  obtain rfl:=si h
  exact(gw2 [.str [],.i r1] (FzW.tuple (qd.cons (FzW.still tS) (qd.cons (FzW.still tI) qd.nil))))
 ·refine Goes.skip ?_
  obtain⟨r3,e_r3,h⟩:=bnd h
  obtain⟨r4,e_r4,h⟩:=bnd h
  obtain⟨r5,e_r5,h⟩:=bnd h
  obtain⟨r6,e_r6,h⟩:=bnd h
  refine sq (gr fol [2,4,5,6] (kBi r6.1 r6.2 []) (ac (cv (jW N a0_ e_r3)) (ac (cv (jW N a1_ e_r4)) (ac (cv (qc8 N r3 r4 e_r5)) (ac (cv (xN N r5 e_r6)) az)))) ?_)
  refine Goes.ret ?_
  obtain rfl:=si h
  exact(gw2 (kA9 r6.1 r6.2) (FzW.tuple (qd.cons (FzW.still tS) (qd.cons (FzW.still tI) qd.nil))))
def qae (N:Nat) (a:Str) (b:Str):Option (Str×Int):=
 (vN N a b).bind fun r1=>
 some (r1.1,r1.2)
theorem qhn (N:Nat) (a:Str) (b:Str) {res:Str×Int} (h:qae N a b=some res):qb Tryz.prog (.fn 59) (kAR a b) [] (.tuple (kA9 res.1 res.2)) []:=by
 unfold qae at h
 refine Goes.fnW Tryz.func59 rfl rfl (m:=11) rfl (rs:=[.tmp 4,.tmp 5]) rfl (l:=(kJ a b [])) rfl ?_
 refine sh fol (kJ a b []) ?_
 obtain⟨r1,e_r1,h⟩:=bnd h
 refine sq (gr fol [2] ((4,.str r1.1)::(kA5 r1.2)) (ac (hs (.call 134 [.str a,.str b,.func (.func 102) [] []] [] [] [.str a,.str b,.func (.func 102) [] []] (.tuple (kA9 r1.1 r1.2))) (qhU (FzL.cons (Fz.still tS) (FzL.cons (Fz.still tS) (FzL.cons (Fz.func FzL.nil FzL.nil) FzL.nil))) (qdK N a b e_r1) (Still.tuple (AllST.cons tS (AllST.cons tI AllST.nil))))) az) ?_)
 refine Goes.ret ?_
 obtain rfl:=si h
 exact(gw2 (kA9 r1.1 r1.2) (FzW.tuple (qd.cons (FzW.still tS) (qd.cons (FzW.still tI) qd.nil))))
def qar (N:Nat) (a:qF):Option qF:=
 (qaV N a.Den a.Num).bind fun r1=>
 some r1
theorem qfF (N:Nat) (a:qF) {res:qF} (h:qar N a=some res):qb Tryz.prog (.fn 90) [.agg [.i a.Num.s,nvl (qa .u64) a.Num.w,.i a.Den.s,nvl (qa .u64) a.Den.w]] [] (.agg [.i res.Num.s,nvl (qa .u64) res.Num.w,.i res.Den.s,nvl (qa .u64) res.Den.w]) []:=by
 unfold qar at h
 refine Goes.fnW Tryz.func90 rfl rfl (m:=8) rfl (rs:=[.cell 2 108]) rfl (l:=[(0,.agg [.i a.Num.s,nvl (qa .u64) a.Num.w,.i a.Den.s,nvl (qa .u64) a.Den.w])]) rfl ?_
 refine sg fol (kAH []) (.cells [.i a.Num.s,nvl (qa .u64) a.Num.w,.i a.Den.s,nvl (qa .u64) a.Den.w]::(kD [])) ?_
 obtain⟨r1,e_r1,h⟩:=bnd h
 refine sq (gq fol [4,5] kBX [.cells [.i a.Num.s,nvl (qa .u64) a.Num.w,.i a.Den.s,nvl (qa .u64) a.Den.w],.cells [.i r1.Num.s,nvl (qa .u64) r1.Num.w,.i r1.Den.s,nvl (qa .u64) r1.Den.w]] (ac (cv (qdw N a.Den a.Num e_r1)) (ac (hs (.run [1] (qp Tryz.prog 108 (.ptr 1 0) (.agg [.i r1.Num.s,nvl (qa .u64) r1.Num.w,.i r1.Den.s,nvl (qa .u64) r1.Den.w])) (.cells [.i a.Num.s,nvl (qa .u64) a.Num.w,.i a.Den.s,nvl (qa .u64) a.Den.w]::(kD [])) .undef [.cells [.i a.Num.s,nvl (qa .u64) a.Num.w,.i a.Den.s,nvl (qa .u64) a.Den.w],.cells [.i r1.Num.s,nvl (qa .u64) r1.Num.w,.i r1.Den.s,nvl (qa .u64) r1.Den.w]] true) (kW (n:=4) (by kernel_rfl) rfl rfl rfl rfl (cac rfl (cac nvc (cac rfl (cac nvc can)))) rfl)) az)) ?_)
 refine Goes.ret ?_
 obtain rfl:=si h
 exact(gw2 [.agg [.i r1.Num.s,nvl (qa .u64) r1.Num.w,.i r1.Den.s,nvl (qa .u64) r1.Den.w]] (FzW.agg (qd.cons (FzW.still tI) (qd.cons (FzW.still (qx (qa .u64) _ (nl rfl))) (qd.cons (FzW.still tI) (qd.cons (FzW.still (qx (qa .u64) _ (nl rfl))) qd.nil))))))
def qam (N:Nat) (a:qF) (b:qF):Option qF:=
 (qar N b).bind fun r1=>
 (xO N a r1).bind fun r2=>
 some r2
theorem qfw (N:Nat) (a:qF) (b:qF) {res:qF} (h:qam N a b=some res):qb Tryz.prog (.fn 88) [.agg [.i a.Num.s,nvl (qa .u64) a.Num.w,.i a.Den.s,nvl (qa .u64) a.Den.w],.agg [.i b.Num.s,nvl (qa .u64) b.Num.w,.i b.Den.s,nvl (qa .u64) b.Den.w]] [] (.agg [.i res.Num.s,nvl (qa .u64) res.Num.w,.i res.Den.s,nvl (qa .u64) res.Den.w]) []:=by
 unfold qam at h
 refine Goes.fnW Tryz.func88 rfl rfl (m:=9) rfl (rs:=[.cell 4 108]) rfl (l:=[(0,.agg [.i a.Num.s,nvl (qa .u64) a.Num.w,.i a.Den.s,nvl (qa .u64) a.Den.w]),(1,.agg [.i b.Num.s,nvl (qa .u64) b.Num.w,.i b.Den.s,nvl (qa .u64) b.Den.w])]) rfl ?_
 refine sg fol (kH []) (.cells [.i a.Num.s,nvl (qa .u64) a.Num.w,.i a.Den.s,nvl (qa .u64) a.Den.w]:: .cells [.i b.Num.s,nvl (qa .u64) b.Num.w,.i b.Den.s,nvl (qa .u64) b.Den.w]::(kD [])) ?_
 obtain⟨r1,e_r1,h⟩:=bnd h
 obtain⟨r2,e_r2,h⟩:=bnd h
 refine sq (gq fol [2,3,4] (kAU []) [.cells [.i a.Num.s,nvl (qa .u64) a.Num.w,.i a.Den.s,nvl (qa .u64) a.Den.w],.cells [.i b.Num.s,nvl (qa .u64) b.Num.w,.i b.Den.s,nvl (qa .u64) b.Den.w],.cells [.i r2.Num.s,nvl (qa .u64) r2.Num.w,.i r2.Den.s,nvl (qa .u64) r2.Den.w]] (ac (cv (qfF N b e_r1)) (ac (cv (qc8 N a r1 e_r2)) (ac (hs (.run [2] (qp Tryz.prog 108 (.ptr 2 0) (.agg [.i r2.Num.s,nvl (qa .u64) r2.Num.w,.i r2.Den.s,nvl (qa .u64) r2.Den.w])) (.cells [.i a.Num.s,nvl (qa .u64) a.Num.w,.i a.Den.s,nvl (qa .u64) a.Den.w]:: .cells [.i b.Num.s,nvl (qa .u64) b.Num.w,.i b.Den.s,nvl (qa .u64) b.Den.w]::(kD [])) .undef [.cells [.i a.Num.s,nvl (qa .u64) a.Num.w,.i a.Den.s,nvl (qa .u64) a.Den.w],.cells [.i b.Num.s,nvl (qa .u64) b.Num.w,.i b.Den.s,nvl (qa .u64) b.Den.w],.cells [.i r2.Num.s,nvl (qa .u64) r2.Num.w,.i r2.Den.s,nvl (qa .u64) r2.Den.w]] true) (kW (n:=4) (by kernel_rfl) rfl rfl rfl rfl (cac rfl (cac nvc (cac rfl (cac nvc can)))) rfl)) az))) ?_)
 refine Goes.ret ?_
 obtain rfl:=si h
 exact(gw2 [.agg [.i r2.Num.s,nvl (qa .u64) r2.Num.w,.i r2.Den.s,nvl (qa .u64) r2.Den.w]] (FzW.agg (qd.cons (FzW.still tI) (qd.cons (FzW.still (qx (qa .u64) _ (nl rfl))) (qd.cons (FzW.still tI) (qd.cons (FzW.still (qx (qa .u64) _ (nl rfl))) qd.nil))))))
def yY (N:Nat) (a0_:Str) (a1_:Str):Option (Str×Int):=
 (kw N ([a0_,a1_]:List Str)).bind fun r1=>
 if(!decide (r1=0))=true then
 some ([],r1)
 else
 (vM N a0_).bind fun r3=>
 (vM N a1_).bind fun r4=>
 (qam N r3 r4).bind fun r5=>
 (jU N r5).bind fun r6=>
 some (r6.1,r6.2)
theorem qdb (N:Nat) (a0_:Str) (a1_:Str) {res:Str×Int} (h:yY N a0_ a1_=some res):qb Tryz.prog (.fn 134) [.str a0_,.str a1_,.func (.func 88) [] []] [] (.tuple (kA9 res.1 res.2)) []:=by
 unfold yY at h
 refine Goes.fnW Tryz.func134 rfl rfl (m:=25) rfl (rs:=[.tmp 6,.tmp 7]) rfl (l:=(kJ a0_ a1_ [(2,.func (.func 88) [] [])])) rfl ?_
 refine sh fol (kJ a0_ a1_ [(2,.func (.func 88) [] [])]) ?_
 refine sq ?_
 obtain⟨r1,e_r1,h⟩:=bnd h
 refine sq (gq fol [3] (kJ a0_ a1_ ((2,.func (.func 88) [] [])::(kBw r1))) (kB a0_ a1_ []) (ac (hs (.call 81 [.slice 0 0 2 2 1] (kB a0_ a1_ []) [0] [vl encS ([a0_,a1_]:List Str)] (.i r1)) (qbE (FzL.cons (Fz.lit rfl rfl (FzL.still (AllST.cons tS (AllST.cons tS AllST.nil)))) FzL.nil) (jf N ([a0_,a1_]:List Str) e_r1) tI rfl)) az) ?_)
 refine sh fol (kJ a0_ a1_ ((2,.func (.func 88) [] [])::(8,.i r1)::(kBh (!decide (r1=0))))) ?_
 refine ihB h (fun c2 h=>?_) (fun c2 h=>?_)
 ·refine sh fol [(6,.str []),(7,.i r1)] ?_
  refine Goes.ret ?_
  obtain rfl:=si h
  exact(gw2 [.str [],.i r1] (FzW.tuple (qd.cons (FzW.still tS) (qd.cons (FzW.still tI) qd.nil))))
 ·refine Goes.skip ?_
  obtain⟨r3,e_r3,h⟩:=bnd h
  obtain⟨r4,e_r4,h⟩:=bnd h
  obtain⟨r5,e_r5,h⟩:=bnd h
  obtain⟨r6,e_r6,h⟩:=bnd h
  refine sq (gr fol [2,4,5,6] (kBi r6.1 r6.2 []) (ac (cv (jW N a0_ e_r3)) (ac (cv (jW N a1_ e_r4)) (ac (cv (qfw N r3 r4 e_r5)) (ac (cv (xN N r5 e_r6)) az)))) ?_)
  refine Goes.ret ?_
  obtain rfl:=si h
  exact(gw2 (kA9 r6.1 r6.2) (FzW.tuple (qd.cons (FzW.still tS) (qd.cons (FzW.still tI) qd.nil))))
def yE (N:Nat) (a:Str) (b:Str):Option (Str×Int):=
 (kw N ([a,b]:List Str)).bind fun r1=>
 (qU (b==[48]) 6).bind fun r2=>
 (jQ N ([r1,r2]:List Int)).bind fun r3=>
 if(!decide (r3=0))=true then
 some ([],r3)
 else
 (yY N a b).bind fun r5=>
 some (r5.1,r5.2)
theorem qhl (N:Nat) (a:Str) (b:Str) {res:Str×Int} (h:yE N a b=some res):qb Tryz.prog (.fn 60) (kAR a b) [] (.tuple (kA9 res.1 res.2)) []:=by
 unfold yE at h
 refine Goes.fnW Tryz.func60 rfl rfl (m:=24) rfl (rs:=[.tmp 4,.tmp 5]) rfl (l:=(kJ a b [])) rfl ?_
 refine sh fol (kJ a b []) ?_
 refine sq ?_
 obtain⟨r1,e_r1,h⟩:=bnd h
 obtain⟨r2,e_r2,h⟩:=bnd h
 obtain⟨r3,e_r3,h⟩:=bnd h
 refine sq (gq fol [3,6,8] (kJ a b (kB4 r3)) (kB a b (kAE r1 r2)) (ac (hs (.call 81 [.slice 0 0 2 2 1] (kB a b []) [0] [vl encS ([a,b]:List Str)] (.i r1)) (qbE (FzL.cons (Fz.lit rfl rfl (FzL.still (AllST.cons tS (AllST.cons tS AllST.nil)))) FzL.nil) (jf N ([a,b]:List Str) e_r1) tI rfl)) (ac (cv (yf (b==[48]) 6 e_r2)) (ac (hs (.call 79 [.slice 1 0 2 2 1] (kB a b (kAE r1 r2)) [1] [vl encI ([r1,r2]:List Int)] (.i r3)) (qbE (FzL.cons (Fz.lit rfl rfl (FzL.still (AllST.cons tI (AllST.cons tI AllST.nil)))) FzL.nil) (qa8 N ([r1,r2]:List Int) e_r3) tI rfl)) az))) ?_)
 refine sh fol (kJ a b [(6,.i r3),(17,.bool (!decide (r3=0)))]) ?_
 refine ihB h (fun c4 h=>?_) (fun c4 h=>?_)
 ·refine sh fol ((4,.str [])::(kA5 r3)) ?_
  refine Goes.ret ?_
  obtain rfl:=si h
  exact(gw2 [.str [],.i r3] (FzW.tuple (qd.cons (FzW.still tS) (qd.cons (FzW.still tI) qd.nil))))
 ·refine Goes.skip ?_
  obtain⟨r5,e_r5,h⟩:=bnd h
  refine sq (gr fol [2] ((4,.str r5.1)::(kA5 r5.2)) (ac (hs (.call 134 [.str a,.str b,.func (.func 88) [] []] [] [] [.str a,.str b,.func (.func 88) [] []] (.tuple (kA9 r5.1 r5.2))) (qhU (FzL.cons (Fz.still tS) (FzL.cons (Fz.still tS) (FzL.cons (Fz.func FzL.nil FzL.nil) FzL.nil))) (qdb N a b e_r5) (Still.tuple (AllST.cons tS (AllST.cons tI AllST.nil))))) az) ?_)
  refine Goes.ret ?_
  obtain rfl:=si h
  exact(gw2 (kA9 r5.1 r5.2) (FzW.tuple (qd.cons (FzW.still tS) (qd.cons (FzW.still tI) qd.nil))))
def qav (N:Nat) (a:qF) (b:qF):Option Int:=
 (qC N a.Num b.Den).bind fun r1=>
 (qC N b.Num a.Den).bind fun r2=>
 (qaj N r1 r2).bind fun r3=>
 some r3
theorem qfx (N:Nat) (a:qF) (b:qF) {res:Int} (h:qav N a b=some res):qb Tryz.prog (.fn 83) [.agg [.i a.Num.s,nvl (qa .u64) a.Num.w,.i a.Den.s,nvl (qa .u64) a.Den.w],.agg [.i b.Num.s,nvl (qa .u64) b.Num.w,.i b.Den.s,nvl (qa .u64) b.Den.w]] [] (.i res) []:=by
 unfold qav at h
 refine Goes.fnW Tryz.func83 rfl rfl (m:=16) rfl (rs:=[.tmp 4]) rfl (l:=[(0,.agg [.i a.Num.s,nvl (qa .u64) a.Num.w,.i a.Den.s,nvl (qa .u64) a.Den.w]),(1,.agg [.i b.Num.s,nvl (qa .u64) b.Num.w,.i b.Den.s,nvl (qa .u64) b.Den.w])]) rfl ?_
 refine sg fol (kR []) [.cells [.i a.Num.s,nvl (qa .u64) a.Num.w,.i a.Den.s,nvl (qa .u64) a.Den.w],.cells [.i b.Num.s,nvl (qa .u64) b.Num.w,.i b.Den.s,nvl (qa .u64) b.Den.w]] ?_
 obtain⟨r1,e_r1,h⟩:=bnd h
 obtain⟨r2,e_r2,h⟩:=bnd h
 obtain⟨r3,e_r3,h⟩:=bnd h
 refine sq (gr fol [4,9,10] (kB7 r3) (ac (cv (zw N a.Num b.Den e_r1)) (ac (cv (zw N b.Num a.Den e_r2)) (ac (cv (qdi N r1 r2 e_r3)) az))) ?_)
 refine Goes.ret ?_
 obtain rfl:=si h
 exact(gw2 [.i r3] (FzW.still tI))
def yL (N:Nat) (a:Str) (b:Str):Option (Int×Int):=
 (kw N ([a,b]:List Str)).bind fun r1=>
 if(!decide (r1=0))=true then
 some (0,r1)
 else
 (vM N a).bind fun r3=>
 (vM N b).bind fun r4=>
 (qav N r3 r4).bind fun r5=>
 some (r5,0)
theorem qfG (N:Nat) (a:Str) (b:Str) {res:Int×Int} (h:yL N a b=some res):qb Tryz.prog (.fn 61) (kAR a b) [] (.tuple [.i res.1,.i res.2]) []:=by
 unfold yL at h
 refine Goes.fnW Tryz.func61 rfl rfl (m:=19) rfl (rs:=[.tmp 4,.tmp 5]) rfl (l:=(kJ a b [])) rfl ?_
 refine sh fol (kJ a b []) ?_
 refine sq ?_
 obtain⟨r1,e_r1,h⟩:=bnd h
 refine sq (gq fol [3] (kJ a b (kB4 r1)) (kB a b []) (ac (hs (.call 81 [.slice 0 0 2 2 1] (kB a b []) [0] [vl encS ([a,b]:List Str)] (.i r1)) (qbE (FzL.cons (Fz.lit rfl rfl (FzL.still (AllST.cons tS (AllST.cons tS AllST.nil)))) FzL.nil) (jf N ([a,b]:List Str) e_r1) tI rfl)) az) ?_)
 refine sh fol (kJ a b ((6,.i r1)::(kBU (!decide (r1=0))))) ?_
 refine ihB h (fun c2 h=>?_) (fun c2 h=>?_)
 ·refine sh fol ((4,.i 0)::(kA5 r1)) ?_
  refine Goes.ret ?_
  obtain rfl:=si h
  exact(gw2 [.i 0,.i r1] (FzW.tuple (qd.cons (FzW.still tI) (qd.cons (FzW.still tI) qd.nil))))
 ·refine Goes.skip ?_
  obtain⟨r3,e_r3,h⟩:=bnd h
  obtain⟨r4,e_r4,h⟩:=bnd h
  obtain⟨r5,e_r5,h⟩:=bnd h
  refine sq (gr fol [1,3,4] [(4,.i r5),(5,.i 0)] (ac (cv (jW N a e_r3)) (ac (cv (jW N b e_r4)) (ac (cv (qfx N r3 r4 e_r5)) az))) ?_)
  refine Goes.ret ?_
  obtain rfl:=si h
  exact(gw2 [.i r5,.i 0] (FzW.tuple (qd.cons (FzW.still tI) (qd.cons (FzW.still tI) qd.nil))))
def jS (have_:Int) (e:Int) (bad:Int) (want:Int):Option Bool:=
 if(!decide (bad=0))=true then
 (if have_=0 then
 some (decide (e=bad))
 else
 some false:Option Bool).bind fun b3=>
 some b3
 else
 (if e=0 then
 some (decide (have_=want))
 else
 some false:Option Bool).bind fun b6=>
 some b6
theorem qcp (have_:Int) (e:Int) (bad:Int) (want:Int) {res:Bool} (h:jS have_ e bad want=some res):qb Tryz.prog (.fn 62) [.i have_,.i e,.i bad,.i want] [] (.bool res) []:=by
 unfold jS at h
 refine Goes.fnW Tryz.func62 rfl rfl (m:=25) rfl (rs:=[.tmp 8]) rfl (l:=(kAc have_ e ((2,.i bad)::(kBS want)))) rfl ?_
 refine sh fol (kAc have_ e ((2,.i bad)::(kBS want))) ?_
 refine sq ?_
 refine sh fol (kAc have_ e ((2,.i bad)::(3,.i want)::(kBV (!decide (bad=0))))) ?_
 refine ihB h (fun c1 h=>?_) (fun c1 h=>?_)
 ·refine sq ?_
  obtain⟨b3,g_v4,h⟩:=bnd h
  refine Goes.cut (s':=(ofG 25 (kAz b3),[])) ?_ ?_
  ·rcases wyD g_v4 with⟨c2,g_v4⟩|⟨c2,g_v4⟩
   ·obtain rfl:=si g_v4
    exact tr fol [2] (kAz (decide (e=bad))) (ac (gw c2) az)
   ·obtain rfl:=si g_v4
    exact tr fol [2] kBI (ac (gw c2) az)
  refine Goes.ret ?_
  obtain rfl:=si h
  exact(gw2 [.bool b3] (FzW.still tB))
 ·refine Goes.skip ?_
  refine sq ?_
  obtain⟨b6,g_v7,h⟩:=bnd h
  refine Goes.cut (s':=(ofG 25 (kAz b6),[])) ?_ ?_
  ·rcases wyD g_v7 with⟨c5,g_v7⟩|⟨c5,g_v7⟩
   ·obtain rfl:=si g_v7
    exact tr fol [2] (kAz (decide (have_=want))) (ac (gw c5) az)
   ·obtain rfl:=si g_v7
    exact tr fol [2] kBI (ac (gw c5) az)
  refine Goes.ret ?_
  obtain rfl:=si h
  exact(gw2 [.bool b6] (FzW.still tB))
def qas (a:Str):Option Bool:=
 some (a==[48])
theorem qfy (a:Str) {res:Bool} (h:qas a=some res):qb Tryz.prog (.fn 63) [.str a] [] (.bool res) []:=by
 unfold qas at h
 refine Goes.fnW Tryz.func63 rfl rfl (m:=5) rfl (rs:=[.tmp 2]) rfl (l:=(kAQ a [])) rfl ?_
 refine sh fol (kAQ a []) ?_
 refine sh fol (kBq (a==[48])) ?_
 refine Goes.ret ?_
 obtain rfl:=si h
 exact(gw2 [.bool (a==[48])] (FzW.still tB))
end Go.Av
