/-
  Walks of functions: what each computes, as a plain function.
-/
import Derived.Test.YtbjpmhdicbgjkaaGreatDoorQGenE1
noncomputable section
namespace Go.Av
open Go.Proofs Go.RowKit
set_option linter.unusedSectionVars false
set_option linter.unusedVariables false
set_option linter.unusedSimpArgs false
set_option maxRecDepth 100000
def zl (l:List Int):Nat→Int→Option (Unit⊕Int)
 |0,_=>none
 |K+1,n1=>
  if n1<(l.length:Int)then
  (idx l n1).bind fun x5=>
  if(!decide (x5=0))=true then
  some (.inr x5)
  else
  zl l K (w64 (n1+1))
  else
  some (.inl ())
def jQ (N:Nat) (l:List Int):Option Int:=
 (zl l N 0).bind (fun
 |(.inl ())=>
 some 0
 |(.inr q7)=>
 some q7)
theorem qa8 (N:Nat) (l:List Int) {res:Int} (h:jQ N l=some res):qb Tryz.prog (.fn 79) [vl encI l] [] (.i res) []:=by
 unfold jQ at h
 refine Goes.fnW Tryz.func79 rfl rfl (m:=15) rfl (rs:=[.tmp 2]) rfl (l:=(kAn l [])) rfl ?_
 refine sh fol (kAn l []) ?_
 refine sq ?_
 refine sh fol (kBj l [(6,.i (l.length:Int)),(7,.i 0)]) ?_
 refine Goes.block ?_
 obtain⟨r2,g2,h⟩:=bnd h
 refine Goes.imp (Q:=fun x s'=>(x= .exit 0∧(.inl ())=r2∧Sub s' (ofG 15 [],[]))∨(x= .ret∧ ∃q3,(.inr q3)=r2∧vK Tryz.prog [.tmp 2] (.i q3) .ret s')) ?_ ?_
 ·refine Goes.loopS (fun M s=> ∃(n1:Int),s=(ofG 15 (kBj l (kAV (l.length:Int) n1 [])),[])∧zl l M n1=some r2) ?_ (m:=N) ⟨_,rfl,g2⟩
  rintro M s ⟨n1,rfl,g2⟩
  cases M with
  |zero=>simp only[zl]at g2;cases g2
  |succ M=>
   rw[zl]at g2
   refine sh fol (kBj l (kAV (l.length:Int) n1 (kAz (decide (n1<(l.length:Int)))))) ?_
   refine sq ?_
   refine ihD g2 (fun c4 g2=>?_) (fun c4 g2=>?_)
   ·refine Goes.skip ?_
    refine sq (Goes.block ?_)
    obtain⟨x5,e_x5,g2⟩:=bnd g2
    refine sq (gr fol [0,1] ((4,.i x5)::(kBj l (kAV (l.length:Int) n1 []))) (ac (iv sl169 encI e_x5) (ac (lv 0 ce29 encI e_x5 rfl) az)) ?_)
    refine sh fol ((4,.i x5)::(kBj l (kAV (l.length:Int) n1 (kBU (!decide (x5=0)))))) ?_
    refine ihB g2 (fun c6 g2=>?_) (fun c6 g2=>?_)
    ·refine sh fol (kBM x5) ?_
     refine Goes.ret ?_
     obtain rfl:=si g2
     exact Or.inr (⟨rfl,_,rfl,(gw2 [.i x5] (FzW.still tI))⟩)
    ·refine Goes.skip ?_
     refine gh fol (kBj l (kAV (l.length:Int) (w64 (n1+1)) [])) ?_
     exact⟨M,(ofG 15 (kBj l (kAV (l.length:Int) (w64 (n1+1)) [])),[]),Nat.lt_succ_self _,(Sub.refl _),_,rfl,g2⟩
   ·refine Goes.exit ?_
    obtain rfl:=si g2
    exact Or.inl (⟨rfl,rfl,(Sub.keep [] rfl rfl)⟩)
 rintro x s' (⟨rfl,rfl,hsub⟩|⟨rfl,q7,rfl,hret⟩)
 ·try dsimp only at h
  refine Goes.sub hsub ?_
  refine sh fol kB3 ?_
  refine Goes.ret ?_
  obtain rfl:=si h
  exact(gw2 [.i 0] (FzW.still tI))
 ·try dsimp only at h
  obtain rfl:=si h
  exact hret
def qU (holds:Bool) (e:Int):Option Int:=
 if holds=true then
 some e
 else
 some 0
theorem yf (holds:Bool) (e:Int) {res:Int} (h:qU holds e=some res):qb Tryz.prog (.fn 80) [.bool holds,.i e] [] (.i res) []:=by
 unfold qU at h
 refine Goes.fnW Tryz.func80 rfl rfl (m:=7) rfl (rs:=[.tmp 4]) rfl (l:=[(0,.bool holds),(1,.i e)]) rfl ?_
 refine sh fol [(0,.bool holds),(1,.i e)] ?_
 refine sq ?_
 refine sh fol [(1,.i e),(5,.bool holds)] ?_
 refine ihB h (fun c1 h=>?_) (fun c1 h=>?_)
 ·refine sh fol (kB7 e) ?_
  refine Goes.ret ?_
  obtain rfl:=si h
  exact(gw2 [.i e] (FzW.still tI))
 ·refine Goes.skip ?_
  refine sh fol [(4,.i 0)] ?_
  refine Goes.ret ?_
  obtain rfl:=si h
  exact(gw2 [.i 0] (FzW.still tI))
def qb4 (n:Int):Option qj:=
 some (⟨n,[]⟩:qj)
theorem qbr (n:Int) {res:qj} (h:qb4 n=some res):qb Tryz.prog (.fn 106) [.i n] [] (.agg [.i res.s,nvl (qa .u64) res.w]) []:=by
 unfold qb4 at h
 refine Goes.fnW Tryz.func106 rfl rfl (m:=5) rfl (rs:=[.cell 2 106]) rfl (l:=[(0,.i n)]) rfl ?_
 refine sg fol ((0,.i n)::(kAM [])) [bZ] ?_
 refine sg fol (kAM []) (kBP n) ?_
 refine Goes.ret ?_
 obtain rfl:=si h
 exact(gw2 [.agg [.i n,.nilslice]] (FzW.agg (qd.cons (FzW.still tI) (qd.cons (FzW.nv0 (E:=(qa .u64))) qd.nil))))
def stringslite_HasPrefix (s_:Str) (prefix_:Str):Option Bool:=
 (if(s_.length:Int)≥(prefix_.length:Int)then
 (cut s_ 0 (prefix_.length:Int)).bind fun s2=>
 some (s2==prefix_)
 else
 some false:Option Bool).bind fun b3=>
 some b3
theorem vR (s_:Str) (prefix_:Str) {res:Bool} (h:stringslite_HasPrefix s_ prefix_=some res):qb Tryz.prog (.fn 218) (kAR s_ prefix_) [] (.bool res) []:=by
 unfold stringslite_HasPrefix at h
 refine Goes.fnW Tryz.func218 rfl rfl (m:=18) rfl (rs:=[.tmp 4]) rfl (l:=(kJ s_ prefix_ [])) rfl ?_
 refine sh fol (kJ s_ prefix_ []) ?_
 refine sq ?_
 obtain⟨b3,g_v4,h⟩:=bnd h
 refine Goes.cut (s':=(ofG 18 (kAl b3),[])) ?_ ?_
 ·rcases wyD g_v4 with⟨c1,g_v4⟩|⟨c1,g_v4⟩
  ·obtain⟨s2,e_s2,g_v4⟩:=bnd g_v4
   obtain rfl:=si g_v4
   exact tr fol [5,9] (kAl (s2==prefix_)) (ac (gw c1) (ac (hs (.done (.opt (qR Tryz.prog 9 (.str s_) none (some (.i (prefix_.length:Int))) none)) (.str s2)) (zC st9 none (some (prefix_.length:Int)) e_s2)) az))
  ·obtain rfl:=si g_v4
   exact tr fol [5] kAT (ac (gw c1) az)
 refine Goes.ret ?_
 obtain rfl:=si h
 exact(gw2 [.bool b3] (FzW.still tB))
def stringslite_CutPrefix (s_:Str) (prefix_:Str):Option (Str×Bool):=
 (stringslite_HasPrefix s_ prefix_).bind fun r1=>
 if(!r1)=true then
 some (s_,false)
 else
 (cut s_ (prefix_.length:Int) (s_.length:Int)).bind fun s3=>
 some (s3,true)
theorem qcc (s_:Str) (prefix_:Str) {res:Str×Bool} (h:stringslite_CutPrefix s_ prefix_=some res):qb Tryz.prog (.fn 181) (kAR s_ prefix_) [] (.tuple [.str res.1,.bool res.2]) []:=by
 unfold stringslite_CutPrefix at h
 refine Goes.fnW Tryz.func181 rfl rfl (m:=15) rfl (rs:=[.tmp 4,.tmp 5]) rfl (l:=(kJ s_ prefix_ [])) rfl ?_
 refine sh fol (kJ s_ prefix_ []) ?_
 refine sq ?_
 obtain⟨r1,e_r1,h⟩:=bnd h
 refine sq (gr fol [2] (kJ s_ prefix_ [(9,.bool (!r1))]) (ac (cv (vR s_ prefix_ e_r1)) az) ?_)
 refine ihB h (fun c2 h=>?_) (fun c2 h=>?_)
 ·refine sh fol [(4,.str s_),(5,.bool false)] ?_
  refine Goes.ret ?_
  obtain rfl:=si h
  exact(gw2 [.str s_,.bool false] (FzW.tuple (qd.cons (FzW.still tS) (qd.cons (FzW.still tB) qd.nil))))
 ·refine Goes.skip ?_
  obtain⟨s3,e_s3,h⟩:=bnd h
  refine sq (gr fol [3] [(4,.str s3),(5,.bool true)] (ac (hs (.done (.opt (qR Tryz.prog 9 (.str s_) (some (.i (prefix_.length:Int))) none none)) (.str s3)) (zC st9 (some (prefix_.length:Int)) none e_s3)) az) ?_)
  refine Goes.ret ?_
  obtain rfl:=si h
  exact(gw2 [.str s3,.bool true] (FzW.tuple (qd.cons (FzW.still tS) (qd.cons (FzW.still tB) qd.nil))))
def strings_CutPrefix (s_:Str) (prefix_:Str):Option (Str×Bool):=
 (stringslite_CutPrefix s_ prefix_).bind fun r1=>
 some (r1.1,r1.2)
theorem qdB (s_:Str) (prefix_:Str) {res:Str×Bool} (h:strings_CutPrefix s_ prefix_=some res):qb Tryz.prog (.fn 128) (kAR s_ prefix_) [] (.tuple [.str res.1,.bool res.2]) []:=by
 unfold strings_CutPrefix at h
 refine Goes.fnW Tryz.func128 rfl rfl (m:=11) rfl (rs:=[.tmp 4,.tmp 5]) rfl (l:=(kJ s_ prefix_ [])) rfl ?_
 refine sh fol (kJ s_ prefix_ []) ?_
 obtain⟨r1,e_r1,h⟩:=bnd h
 refine sq (gr fol [2] [(4,.str r1.1),(5,.bool r1.2)] (ac (cv (qcc s_ prefix_ e_r1)) az) ?_)
 refine Goes.ret ?_
 obtain rfl:=si h
 exact(gw2 [.str r1.1,.bool r1.2] (FzW.tuple (qd.cons (FzW.still tS) (qd.cons (FzW.still tB) qd.nil))))
def stringslite_IndexByte (s_:Str) (c:Int):Option Int:=
 (qik s_ c).bind fun r1=>
 some r1
theorem qcb (s_:Str) (c:Int) {res:Int} (h:stringslite_IndexByte s_ c=some res):qb Tryz.prog (.fn 244) [.str s_,.int .u8 c] [] (.i res) []:=by
 unfold stringslite_IndexByte at h
 refine Goes.fnW Tryz.func244 rfl rfl (m:=8) rfl (rs:=[.tmp 4]) rfl (l:=(kAQ s_ [(1,.int .u8 c)])) rfl ?_
 refine sh fol (kAQ s_ [(1,.int .u8 c)]) ?_
 obtain⟨r1,e_r1,h⟩:=bnd h
 refine sq (gr fol [2] (kB7 r1) (ac (cv (qlv s_ c e_r1)) az) ?_)
 refine Goes.ret ?_
 obtain rfl:=si h
 exact(gw2 [.i r1] (FzW.still tI))
def stringslite_Index (s_:Str) (substr:Str):Option Int:=
 (if(substr.length:Int)=0 then
 some true
 else
 some (substr==s_):Option Bool).bind fun b2=>
 if b2=true then
 some 0
 else
 if(substr.length:Int)=1 then
 (idx substr 0).bind fun c6=>
 (stringslite_IndexByte s_ (c6.toNat:Int)).bind fun r7=>
 some r7
 else
 if(substr.length:Int)≥(s_.length:Int)then
 some (-1)
 else
 none
theorem qdd (s_:Str) (substr:Str) {res:Int} (h:stringslite_Index s_ substr=some res):qb Tryz.prog (.fn 219) (kAR s_ substr) [] (.i res) []:=by
 unfold stringslite_Index at h
 refine Goes.fnW Tryz.func219 rfl rfl (m:=143) rfl (rs:=[.tmp 4]) rfl (l:=(kJ s_ substr [])) rfl ?_
 refine sh fol (kJ s_ substr []) ?_
 refine sh fol (kJ s_ substr (kA5 (substr.length:Int))) ?_
 refine sq (Goes.block ?_)
 refine sq ?_
 obtain⟨b2,g_v3,h⟩:=bnd h
 refine Goes.cut (s':=(ofG 143 (kJ s_ substr [(5,.i (substr.length:Int)),(16,.bool b2)]),[])) ?_ ?_
 ·rcases wyD g_v3 with⟨c1,g_v3⟩|⟨c1,g_v3⟩
  ·obtain rfl:=si g_v3
   exact tr fol [2] (kJ s_ substr [(5,.i (substr.length:Int)),(16,.bool true)]) (ac (gw c1) az)
  ·obtain rfl:=si g_v3
   exact tr fol [2] (kJ s_ substr [(5,.i (substr.length:Int)),(16,.bool (substr==s_))]) (ac (gw c1) az)
 refine ihB h (fun c4 h=>?_) (fun c4 h=>?_)
 ·refine sh fol [(4,.i 0)] ?_
  refine Goes.ret ?_
  obtain rfl:=si h
  exact(gw2 [.i 0] (FzW.still tI))
 ·refine sh fol (kJ s_ substr [(5,.i (substr.length:Int)),(24,.bool (decide ((substr.length:Int)=1)))]) ?_
  refine ihD h (fun c5 h=>?_) (fun c5 h=>?_)
  ·obtain⟨c6,e_c6,h⟩:=bnd h
   obtain⟨r7,e_r7,h⟩:=bnd h
   refine sq (gr fol [2,3] (kB7 r7) (ac (hs (.done (.opt (vC Tryz.prog 9 (.str substr) (.i 0))) (.int .u8 (c6.toNat:Int))) (xQ st9 e_c6)) (ac (cv (qcb s_ (c6.toNat:Int) e_r7)) az)) ?_)
   refine Goes.ret ?_
   obtain rfl:=si h
   exact(gw2 [.i r7] (FzW.still tI))
  ·refine sh fol (kJ s_ substr [(5,.i (substr.length:Int)),(31,.bool (decide ((substr.length:Int)≥(s_.length:Int))))]) ?_
   refine ihD h (fun c8 h=>?_) (fun c8 h=>?_)
   ·refine sh fol [(4,.i (-1))] ?_
    refine Goes.ret ?_
    obtain rfl:=si h
    exact(gw2 [.i (-1)] (FzW.still tI))
   ·cases h
def stringslite_Cut (s_:Str) (sep:Str):Option (Str×Str×Bool):=
 (stringslite_Index s_ sep).bind fun r1=>
 if r1≥0 then
 (cut s_ 0 r1).bind fun s3=>
 (cut s_ (w64 (r1+(sep.length:Int))) (s_.length:Int)).bind fun s4=>
 some (s3,s4,true)
 else
 some (s_,[],false)
theorem qeq (s_:Str) (sep:Str) {res:Str×Str×Bool} (h:stringslite_Cut s_ sep=some res):qb Tryz.prog (.fn 182) (kAR s_ sep) [] (.tuple [.str res.1,.str res.2.1,.bool res.2.2]) []:=by
 unfold stringslite_Cut at h
 refine Goes.fnW Tryz.func182 rfl rfl (m:=23) rfl (rs:=[.tmp 4,.tmp 5,.tmp 6]) rfl (l:=(kJ s_ sep [])) rfl ?_
 refine sh fol (kJ s_ sep []) ?_
 refine sq ?_
 obtain⟨r1,e_r1,h⟩:=bnd h
 refine sq (gr fol [2] (kJ s_ sep [(7,.i r1)]) (ac (cv (qdd s_ sep e_r1)) az) ?_)
 refine sh fol (kJ s_ sep ((7,.i r1)::(kBU (decide (r1≥0))))) ?_
 refine ihD h (fun c2 h=>?_) (fun c2 h=>?_)
 ·obtain⟨s3,e_s3,h⟩:=bnd h
  obtain⟨s4,e_s4,h⟩:=bnd h
  refine sq (gr fol [2,8] [(4,.str s3),(5,.str s4),(6,.bool true)] (ac (hs (.done (.opt (qR Tryz.prog 9 (.str s_) none (some (.i r1)) none)) (.str s3)) (zC st9 none (some r1) e_s3)) (ac (hs (.done (.opt (qR Tryz.prog 9 (.str s_) (some (.i (w64 (r1+(sep.length:Int))))) none none)) (.str s4)) (zC st9 (some (w64 (r1+(sep.length:Int)))) none e_s4)) az)) ?_)
  refine Goes.ret ?_
  obtain rfl:=si h
  exact(gw2 [.str s3,.str s4,.bool true] (FzW.tuple (qd.cons (FzW.still tS) (qd.cons (FzW.still tS) (qd.cons (FzW.still tB) qd.nil)))))
 ·refine Goes.skip ?_
  refine sh fol ((4,.str s_)::(5,.str [])::kBD) ?_
  refine Goes.ret ?_
  obtain rfl:=si h
  exact(gw2 [.str s_,.str [],.bool false] (FzW.tuple (qd.cons (FzW.still tS) (qd.cons (FzW.still tS) (qd.cons (FzW.still tB) qd.nil)))))
def strings_Cut (s_:Str) (sep:Str):Option (Str×Str×Bool):=
 (stringslite_Cut s_ sep).bind fun r1=>
 some (r1.1,r1.2.1,r1.2.2)
theorem qdc (s_:Str) (sep:Str) {res:Str×Str×Bool} (h:strings_Cut s_ sep=some res):qb Tryz.prog (.fn 129) (kAR s_ sep) [] (.tuple [.str res.1,.str res.2.1,.bool res.2.2]) []:=by
 unfold strings_Cut at h
 refine Goes.fnW Tryz.func129 rfl rfl (m:=13) rfl (rs:=[.tmp 4,.tmp 5,.tmp 6]) rfl (l:=(kJ s_ sep [])) rfl ?_
 refine sh fol (kJ s_ sep []) ?_
 obtain⟨r1,e_r1,h⟩:=bnd h
 refine sq (gr fol [2] ((4,.str r1.1)::(kBN r1.2.1 r1.2.2 [])) (ac (cv (qeq s_ sep e_r1)) az) ?_)
 refine Goes.ret ?_
 obtain rfl:=si h
 exact(gw2 [.str r1.1,.str r1.2.1,.bool r1.2.2] (FzW.tuple (qd.cons (FzW.still tS) (qd.cons (FzW.still tS) (qd.cons (FzW.still tB) qd.nil)))))
def jh (s_:Str):Option Bool:=
 (if(!(s_==[]))=true then
 (qiP s_ [48,49,50,51,52,53,54,55,56,57]).bind fun r2=>
 if(r2==[])=true then
 (idx s_ 0).bind fun c4=>
 if(!decide ((c4.toNat:Int)=48))=true then
 some true
 else
 some (s_==[48])
 else
 some false
 else
 some false:Option Bool).bind fun b6=>
 some b6
theorem zS (s_:Str) {res:Bool} (h:jh s_=some res):qb Tryz.prog (.fn 130) [.str s_] [] (.bool res) []:=by
 unfold jh at h
 refine Goes.fnW Tryz.func130 rfl rfl (m:=19) rfl (rs:=[.tmp 2]) rfl (l:=(kAQ s_ [])) rfl ?_
 refine sh fol (kAQ s_ []) ?_
 refine sq ?_
 obtain⟨b6,g_v7,h⟩:=bnd h
 refine Goes.cut (s':=(ofG 19 (kBq b6),[])) ?_ ?_
 ·rcases wyB g_v7 with⟨c1,g_v7⟩|⟨c1,g_v7⟩
  ·obtain⟨r2,e_r2,g_v7⟩:=bnd g_v7
   rcases wyB g_v7 with⟨c3,g_v7⟩|⟨c3,g_v7⟩
   ·obtain⟨c4,e_c4,g_v7⟩:=bnd g_v7
    rcases wyB g_v7 with⟨c5,g_v7⟩|⟨c5,g_v7⟩
    ·obtain rfl:=si g_v7
     exact tr fol [2,4,7,9,11] [(2,.bool true)] (ac (gw c1) (ac (cv (qgu s_ [48,49,50,51,52,53,54,55,56,57] e_r2)) (ac (gw c3) (ac (hs (.done (.opt (vC Tryz.prog 9 (.str s_) (.i 0))) (.int .u8 (c4.toNat:Int))) (xQ st9 e_c4)) (ac (gw c5) az)))))
    ·obtain rfl:=si g_v7
     exact tr fol [2,4,7,9,11] (kBq (s_==[48])) (ac (gw c1) (ac (cv (qgu s_ [48,49,50,51,52,53,54,55,56,57] e_r2)) (ac (gw c3) (ac (hs (.done (.opt (vC Tryz.prog 9 (.str s_) (.i 0))) (.int .u8 (c4.toNat:Int))) (xQ st9 e_c4)) (ac (gw c5) az)))))
   ·obtain rfl:=si g_v7
    exact tr fol [2,4,7] kA7 (ac (gw c1) (ac (cv (qgu s_ [48,49,50,51,52,53,54,55,56,57] e_r2)) (ac (gw c3) az)))
  ·obtain rfl:=si g_v7
   exact tr fol [2] kA7 (ac (gw c1) az)
 refine Goes.ret ?_
 obtain rfl:=si h
 exact(gw2 [.bool b6] (FzW.still tB))
def qZ (a:qj):Option Int:=
 some (if(if a.s<1 then a.s else 1)>(-1)then(if a.s<1 then a.s else 1)else(-1))
theorem yP (a:qj) {res:Int} (h:qZ a=some res):qb Tryz.prog (.fn 156) [.agg [.i a.s,nvl (qa .u64) a.w]] [] (.i res) []:=by
 unfold qZ at h
 refine Goes.fnW Tryz.func156 rfl rfl (m:=7) rfl (rs:=[.tmp 2]) rfl (l:=[(0,.agg [.i a.s,nvl (qa .u64) a.w])]) rfl ?_
 refine sg fol (kA2 []) [.cells [.i a.s,nvl (qa .u64) a.w]] ?_
 refine sh fol (kBM (if(if a.s<1 then a.s else 1)>(-1)then(if a.s<1 then a.s else 1)else(-1))) ?_
 refine Goes.ret ?_
 obtain rfl:=si h
 exact(gw2 [.i (if(if a.s<1 then a.s else 1)>(-1)then(if a.s<1 then a.s else 1)else(-1))] (FzW.still tI))
def qbI (n:Int):Option Int:=
 if n<0 then
 some (IntKind.wrap .u64 (w64 (0-n)))
 else
 some (IntKind.wrap .u64 n)
theorem qdk (n:Int) {res:Int} (h:qbI n=some res):qb Tryz.prog (.fn 205) [.i n] [] (.int .u64 res) []:=by
 unfold qbI at h
 refine Goes.fnW Tryz.func205 rfl rfl (m:=10) rfl (rs:=[.tmp 2]) rfl (l:=[(0,.i n)]) rfl ?_
 refine sh fol [(0,.i n)] ?_
 refine sq ?_
 refine sh fol ((0,.i n)::(kAl (decide (n<0)))) ?_
 refine ihD h (fun c1 h=>?_) (fun c1 h=>?_)
 ·refine sh fol [(2,.int .u64 (IntKind.wrap .u64 (w64 (0-n))))] ?_
  refine Goes.ret ?_
  obtain rfl:=si h
  exact(gw2 [.int .u64 (IntKind.wrap .u64 (w64 (0-n)))] (FzW.still tI))
 ·refine Goes.skip ?_
  refine sh fol [(2,.int .u64 (IntKind.wrap .u64 n))] ?_
  refine Goes.ret ?_
  obtain rfl:=si h
  exact(gw2 [.int .u64 (IntKind.wrap .u64 n)] (FzW.still tI))
def qE (a:qj):Option (Bool×(List Int)):=
 if(!a.w.isEmpty)=true then
 some (decide (a.s<0),a.w)
 else
 if a.s=0 then
 some (false,[])
 else
 (qbI a.s).bind fun r3=>
 some (decide (a.s<0),[r3])
theorem zn (a:qj) {res:Bool×(List Int)} (h:qE a=some res):qb Tryz.prog (.fn 162) [.agg [.i a.s,nvl (qa .u64) a.w]] [] (.tuple [.bool res.1,vl (qa .u64) res.2]) []:=by
 unfold qE at h
 refine Goes.fnW Tryz.func162 rfl rfl (m:=24) rfl (rs:=[.tmp 2,.tmp 3]) rfl (l:=[(0,.agg [.i a.s,nvl (qa .u64) a.w])]) rfl ?_
 refine sg fol (kA2 []) [.cells [.i a.s,nvl (qa .u64) a.w]] ?_
 refine sq (Goes.block ?_)
 refine sq (gr fol [2] (kA2 (kAl (!a.w.isEmpty))) (ac (hs (.done (.opt (qY Tryz.prog .neq 104 (.tmp 6) (.const (.slice none 0 0)) (nvl (qa .u64) a.w) .nilslice)) (.bool (!a.w.isEmpty))) (ne_nv vD)) az) ?_)
 refine ihB h (fun c1 h=>?_) (fun c1 h=>?_)
 ·refine sh fol [(2,.bool (decide (a.s<0))),(3,nvl (qa .u64) a.w)] ?_
  refine Goes.ret ?_
  obtain rfl:=si h
  exact(gw2 [.bool (decide (a.s<0)),nvl (qa .u64) a.w] (FzW.tuple (qd.cons (FzW.still tB) (qd.cons (FzW.nvL (E:=(qa .u64)) (nl rfl)) qd.nil))))
 ·refine sh fol (kA2 (kBT (decide (a.s=0)))) ?_
  refine ihD h (fun c2 h=>?_) (fun c2 h=>?_)
  ·refine sh fol [(2,.bool false),(3,.nilslice)] ?_
   refine Goes.ret ?_
   obtain rfl:=si h
   exact(gw2 [.bool false,.nilslice] (FzW.tuple (qd.cons (FzW.still tB) (qd.cons (FzW.nilv (E:=(qa .u64))) qd.nil))))
  ·refine Goes.skip ?_
   obtain⟨r3,e_r3,h⟩:=bnd h
   refine sq (gq fol [5] [(2,.bool (decide (a.s<0))),(3,.slice 1 0 1 1 1)] [.cells [.i a.s,nvl (qa .u64) a.w],.cells [.int .u64 r3]] (ac (cv (qdk a.s e_r3)) az) ?_)
   refine Goes.ret ?_
   obtain rfl:=si h
   exact(gw2 [.bool (decide (a.s<0)),.slice 1 0 1 1 1] (FzW.tuple (qd.cons (FzW.still tB) (qd.cons (FzW.fz (Fz.lit rfl rfl (FzL.still (AllST.cons tI AllST.nil)))) qd.nil))))
def jE (neg:Bool) (w:List Int):Option qj:=
 if(w.length:Int)=0 then
 some (⟨0,[]⟩:qj)
 else
 (if(w.length:Int)=1 then
 (idx w 0).bind fun x3=>
 if x3≤9223372036854775807 then
 some neg
 else
 some false
 else
 some false:Option Bool).bind fun b5=>
 if b5=true then
 (idx w 0).bind fun x8=>
 some (⟨w64 (0-(w64 x8)),[]⟩:qj)
 else
 (if(w.length:Int)=1 then
 (idx w 0).bind fun x10=>
 some (decide (x10≤9223372036854775807))
 else
 some false:Option Bool).bind fun b11=>
 if b11=true then
 (idx w 0).bind fun x14=>
 some (⟨w64 x14,[]⟩:qj)
 else
 if neg=true then
 some (⟨(-1),w⟩:qj)
 else
 some (⟨1,w⟩:qj)
theorem xy (neg:Bool) (w:List Int) {res:qj} (h:jE neg w=some res):qb Tryz.prog (.fn 163) [.bool neg,vl (qa .u64) w] [] (.agg [.i res.s,nvl (qa .u64) res.w]) []:=by
 unfold jE at h
 refine Goes.fnW Tryz.func163 rfl rfl (m:=50) rfl (rs:=[.cell 4 106]) rfl (l:=[(0,.bool neg),(1,vl (qa .u64) w)]) rfl ?_
 refine sg fol ((0,.bool neg)::(1,vl (qa .u64) w)::(kY [])) [bZ] ?_
 refine sq (Goes.block ?_)
 refine sh fol ((0,.bool neg)::(1,vl (qa .u64) w)::(kY [(5,.bool (decide ((w.length:Int)=0)))])) ?_
 refine ihD h (fun c1 h=>?_) (fun c1 h=>?_)
 ·refine sh fol (kY []) ?_
  refine Goes.ret ?_
  obtain rfl:=si h
  exact(gw2 [.agg [.i 0,.nilslice]] (FzW.agg (qd.cons (FzW.still tI) (qd.cons (FzW.nv0 (E:=(qa .u64))) qd.nil))))
 ·refine sq ?_
  obtain⟨b5,g_v6,h⟩:=bnd h
  refine Goes.cut (s':=(ofG 50 ((0,.bool neg)::(1,vl (qa .u64) w)::(kY (kBV b5))),[bZ])) ?_ ?_
  ·rcases wyD g_v6 with⟨c2,g_v6⟩|⟨c2,g_v6⟩
   ·obtain⟨x3,e_x3,g_v6⟩:=bnd g_v6
    rcases wyD g_v6 with⟨c4,g_v6⟩|⟨c4,g_v6⟩
    ·obtain rfl:=si g_v6
     exact tr fol [3,5,6,9] ((0,.bool neg)::(1,vl (qa .u64) w)::(kY (kBV neg))) (ac (gw c2) (ac (iv qI (qa .u64) e_x3) (ac (lv 0 zu (qa .u64) e_x3 rfl) (ac (gw c4) az))))
    ·obtain rfl:=si g_v6
     exact tr fol [3,5,6,9] ((0,.bool neg)::(1,vl (qa .u64) w)::(kY [(10,.bool false)])) (ac (gw c2) (ac (iv qI (qa .u64) e_x3) (ac (lv 0 zu (qa .u64) e_x3 rfl) (ac (gw c4) az))))
   ·obtain rfl:=si g_v6
    exact tr fol [3] ((0,.bool neg)::(1,vl (qa .u64) w)::(kY [(10,.bool false)])) (ac (gw c2) az)
  refine ihB h (fun c7 h=>?_) (fun c7 h=>?_)
  ·obtain⟨x8,e_x8,h⟩:=bnd h
   refine sq (gq fol [1,2] (kY []) (kBP (w64 (0-(w64 x8)))) (ac (iv qI (qa .u64) e_x8) (ac (lv 0 zu (qa .u64) e_x8 rfl) az)) ?_)
   refine Goes.ret ?_
   obtain rfl:=si h
   exact(gw2 [.agg [.i (w64 (0-(w64 x8))),.nilslice]] (FzW.agg (qd.cons (FzW.still tI) (qd.cons (FzW.nv0 (E:=(qa .u64))) qd.nil))))
  ·refine sq ?_
   obtain⟨b11,g_v12,h⟩:=bnd h
   refine Goes.cut (s':=(ofG 50 ((0,.bool neg)::(1,vl (qa .u64) w)::(kY [(29,.bool b11)])),[bZ])) ?_ ?_
   ·rcases wyD g_v12 with⟨c9,g_v12⟩|⟨c9,g_v12⟩
    ·obtain⟨x10,e_x10,g_v12⟩:=bnd g_v12
     obtain rfl:=si g_v12
     exact tr fol [3,5,6] ((0,.bool neg)::(1,vl (qa .u64) w)::(kY [(29,.bool (decide (x10≤9223372036854775807)))])) (ac (gw c9) (ac (iv qI (qa .u64) e_x10) (ac (lv 0 zu (qa .u64) e_x10 rfl) az)))
    ·obtain rfl:=si g_v12
     exact tr fol [3] ((0,.bool neg)::(1,vl (qa .u64) w)::(kY [(29,.bool false)])) (ac (gw c9) az)
   refine ihB h (fun c13 h=>?_) (fun c13 h=>?_)
   ·obtain⟨x14,e_x14,h⟩:=bnd h
    refine sq (gq fol [1,2] (kY []) (kBP (w64 x14)) (ac (iv qI (qa .u64) e_x14) (ac (lv 0 zu (qa .u64) e_x14 rfl) az)) ?_)
    refine Goes.ret ?_
    obtain rfl:=si h
    exact(gw2 [.agg [.i (w64 x14),.nilslice]] (FzW.agg (qd.cons (FzW.still tI) (qd.cons (FzW.nv0 (E:=(qa .u64))) qd.nil))))
   ·refine sh fol ((1,vl (qa .u64) w)::(kY [(44,.bool neg)])) ?_
    refine ihB h (fun c15 h=>?_) (fun c15 h=>?_)
    ·refine sg fol (kY []) [.cells [.i (-1),vl (qa .u64) w]] ?_
     refine Goes.ret ?_
     obtain rfl:=si h
     exact(gw2 [.agg [.i (-1),vl (qa .u64) w]] (FzW.agg (qd.cons (FzW.still tI) (qd.cons (FzW.Lnv (E:=(qa .u64)) (by first|omega|(simp only[decide_eq_false_iff_not,decide_eq_true_eq]at*;omega)) (nl rfl)) qd.nil))))
    ·refine Goes.skip ?_
     refine sg fol (kY []) [.cells [.i 1,vl (qa .u64) w]] ?_
     refine Goes.ret ?_
     obtain rfl:=si h
     exact(gw2 [.agg [.i 1,vl (qa .u64) w]] (FzW.agg (qd.cons (FzW.still tI) (qd.cons (FzW.Lnv (E:=(qa .u64)) (by first|omega|(simp only[decide_eq_false_iff_not,decide_eq_true_eq]at*;omega)) (nl rfl)) qd.nil))))
def y9 (w:List Int):Nat→Int→Option Int
 |0,_=>none
 |K+1,n1=>
  (if n1>0 then
  (idx w (w64 (n1-1))).bind fun x5=>
  some (decide (x5=0))
  else
  some false:Option Bool).bind fun b6=>
  if b6=true then
  y9 w K (w64 (n1-1))
  else
  some n1
def ym (N:Nat) (w:List Int):Option (List Int):=
 (y9 w N (w.length:Int)).bind fun n2=>
 (cut w 0 n2).bind fun s9=>
 some s9
theorem yB (N:Nat) (w:List Int) {res:List Int} (h:ym N w=some res):qb Tryz.prog (.fn 215) [vl (qa .u64) w] [] (vl (qa .u64) res) []:=by
 unfold ym at h
 refine Goes.fnW Tryz.func215 rfl rfl (m:=21) rfl (rs:=[.tmp 2]) rfl (l:=[(0,vl (qa .u64) w)]) rfl ?_
 refine sh fol [(0,vl (qa .u64) w)] ?_
 refine sh fol ((0,vl (qa .u64) w)::(kBS (w.length:Int))) ?_
 refine sq (Goes.block ?_)
 obtain⟨r3,g3,h⟩:=bnd h
 refine Goes.imp (Q:=fun x s'=>(x= .exit 0∧ ∃n2,n2=r3∧Sub s' (ofG 21 ((0,vl (qa .u64) w)::(kBS n2)),[]))) ?_ ?_
 ·refine Goes.loopS (fun M s=> ∃(n1:Int),s=(ofG 21 ((0,vl (qa .u64) w)::(kBS n1)),[])∧y9 w M n1=some r3) ?_ (m:=N) ⟨_,rfl,g3⟩
  rintro M s ⟨n1,rfl,g3⟩
  cases M with
  |zero=>simp only[y9]at g3;cases g3
  |succ M=>
   rw[y9]at g3
   refine sq ?_
   refine sq ?_
   obtain⟨b6,g_v7,g3⟩:=bnd g3
   refine Goes.cut (s':=(ofG 21 ((0,vl (qa .u64) w)::(3,.i n1)::(kBa b6)),[])) ?_ ?_
   ·rcases wyD g_v7 with⟨c4,g_v7⟩|⟨c4,g_v7⟩
    ·obtain⟨x5,e_x5,g_v7⟩:=bnd g_v7
     obtain rfl:=si g_v7
     exact tr fol [2,6,7] ((0,vl (qa .u64) w)::(3,.i n1)::(kBa (decide (x5=0)))) (ac (gw c4) (ac (iv qI (qa .u64) e_x5) (ac (lv 0 zu (qa .u64) e_x5 rfl) az)))
    ·obtain rfl:=si g_v7
     exact tr fol [2] [(0,vl (qa .u64) w),(3,.i n1),(15,.bool false)] (ac (gw c4) az)
   refine ihB g3 (fun c8 g3=>?_) (fun c8 g3=>?_)
   ·refine Goes.skip ?_
    refine Goes.block ?_
    refine gh fol ((0,vl (qa .u64) w)::(kBS (w64 (n1-1)))) ?_
    exact⟨M,(ofG 21 ((0,vl (qa .u64) w)::(kBS (w64 (n1-1)))),[]),Nat.lt_succ_self _,(Sub.refl _),_,rfl,g3⟩
   ·refine Goes.exit ?_
    obtain rfl:=si g3
    exact⟨rfl,_,rfl,(Sub.keep [0,3] rfl rfl)⟩
 rintro x s' ⟨rfl,n2,rfl,hsub⟩
 refine Goes.sub hsub ?_
 obtain⟨s9,e_s9,h⟩:=bnd h
 refine sq (gr fol [2] [(2,vl (qa .u64) s9)] (ac (hs (.done (.opt (qR Tryz.prog 104 (vl (qa .u64) w) none (some (.i n2)) none)) (vl (qa .u64) s9)) (qkS qI (E:=(qa .u64)) rfl none (some n2) e_s9)) az) ?_)
 refine Goes.ret ?_
 obtain rfl:=si h
 exact(gw2 [vl (qa .u64) s9] (FzW.still (qo (qa .u64) _ (nl rfl))))
def zA (l1:List Int) (l2:List Int):Nat→(List Int)→Int→Int→Option ((List Int)×Int)
 |0,_,_,_=>none
 |K+1,l6,n7,n8=>
  if n7<(l1.length:Int)then
  ((if n7<(l2.length:Int)then
  (idx l2 n7).bind fun x16=>
  some x16
  else
  some 0:Option Int)).bind fun n13=>
  (idx l1 n7).bind fun x17=>
  (y7 x17 n13 n8).bind fun r18=>
  (idx l6 n7).bind fun x19=>
  (put l6 n7 r18.1).bind fun l20=>
  zA l1 l2 K l20 (w64 (n7+1)) r18.2
  else
  some (l6,n8)
def xI (N:Nat) (x_:List Int) (y:List Int):Option (List Int):=
 ((if(x_.length:Int)<(y.length:Int)then
 some (y,x_)
 else
 some (x_,y):Option ((List Int)×(List Int)))).bind fun(l1,l2)=>
 (mk 8 (w64 ((l1.length:Int)+1)) 0).bind fun l5=>
 (zA l1 l2 N l5 0 0).bind fun(l9,n10)=>
 (idx l9 (l1.length:Int)).bind fun x21=>
 (put l9 (l1.length:Int) n10).bind fun l22=>
 (ym N l22).bind fun r23=>
 some r23
theorem qfB (N:Nat) (x_:List Int) (y:List Int) {res:List Int} (h:xI N x_ y=some res):qb Tryz.prog (.fn 164) [vl (qa .u64) x_,vl (qa .u64) y] [] (vl (qa .u64) res) []:=by
 unfold xI at h
 refine Goes.fnW Tryz.func164 rfl rfl (m:=54) rfl (rs:=[.tmp 4]) rfl (l:=[(0,vl (qa .u64) x_),(1,vl (qa .u64) y)]) rfl ?_
 refine sh fol [(0,vl (qa .u64) x_),(1,vl (qa .u64) y)] ?_
 refine sq ?_
 refine sh fol ((0,vl (qa .u64) x_)::(1,vl (qa .u64) y)::(kBT (decide ((x_.length:Int)<(y.length:Int))))) ?_
 obtain⟨r3,g3,h⟩:=bnd h
 refine Goes.imp (Q:=fun x s'=>(x= .normal∧ ∃l1 l2,(l1,l2)=r3∧Sub s' (ofG 54 [(0,vl (qa .u64) l1),(1,vl (qa .u64) l2)],[]))) ?_ ?_
 ·refine ihD g3 (fun c4 g3=>?_) (fun c4 g3=>?_)
  ·refine gh fol [(0,vl (qa .u64) y),(1,vl (qa .u64) x_)] ?_
   obtain rfl:=si g3
   exact⟨rfl,_,_,rfl,(Sub.refl _)⟩
  ·refine Goes.skip ?_
   obtain rfl:=si g3
   exact⟨rfl,_,_,rfl,(Sub.keep [0,1] rfl rfl)⟩
 rintro x s' ⟨rfl,l1,l2,rfl,hsub⟩
 try dsimp only at h
 refine Goes.sub hsub ?_
 obtain⟨l5,e_l5,h⟩:=bnd h
 refine sq (gq fol [3] ((0,vl (qa .u64) l1)::(1,vl (qa .u64) l2)::(kG l5 [])) [.cells (l5.flatMap (qa .u64).c)] (ac (hs (.run [] (zP Tryz.prog 104 (.i (w64 ((l1.length:Int)+1))) (.i (w64 ((l1.length:Int)+1)))) [] (.slice 0 0 l5.length l5.length 1) [.cells (l5.flatMap (qa .u64).c)] false) (qcI qI (E:=(qa .u64)) (z:=0) rfl (by kernel_rfl) e_l5 rfl)) az) ?_)
 refine sh fol ((0,vl (qa .u64) l1)::(1,vl (qa .u64) l2)::(kG l5 [(6,.int .u64 0)])) ?_
 refine sq ?_
 refine sh fol ((0,vl (qa .u64) l1)::(1,vl (qa .u64) l2)::(kG l5 [(6,.int .u64 0),(21,.i (l1.length:Int)),(22,.i 0)])) ?_
 refine Goes.block ?_
 obtain⟨r11,g11,h⟩:=bnd h
 refine Goes.imp (Q:=fun x s'=>(x= .exit 0∧ ∃l9 n10,(l9,n10)=r11∧Sub s' (ofG 54 ((0,vl (qa .u64) l1)::(kG l9 (kAe n10 []))),[.cells (l9.flatMap (qa .u64).c)]))) ?_ ?_
 ·refine Goes.loopS (fun M s=> ∃(l6:List Int) (n7:Int) (n8:Int),s=(ofG 54 ((0,vl (qa .u64) l1)::(1,vl (qa .u64) l2)::(kG l6 (kAe n8 (kAL (l1.length:Int) n7 [])))),[.cells (l6.flatMap (qa .u64).c)])∧zA l1 l2 M l6 n7 n8=some r11) ?_ (m:=N) ⟨_,_,_,rfl,g11⟩
  rintro M s ⟨l6,n7,n8,rfl,g11⟩
  cases M with
  |zero=>simp only[zA]at g11;cases g11
  |succ M=>
   rw[zA]at g11
   refine sh fol ((0,vl (qa .u64) l1)::(1,vl (qa .u64) l2)::(kG l6 (kAe n8 (kAL (l1.length:Int) n7 [(23,.bool (decide (n7<(l1.length:Int))))])))) ?_
   refine sq ?_
   refine ihD g11 (fun c12 g11=>?_) (fun c12 g11=>?_)
   ·refine Goes.skip ?_
    refine sq (Goes.block ?_)
    refine sh fol ((0,vl (qa .u64) l1)::(1,vl (qa .u64) l2)::(kG l6 (kAe n8 ((7,.i n7)::(kAL (l1.length:Int) n7 []))))) ?_
    refine sh fol ((0,vl (qa .u64) l1)::(1,vl (qa .u64) l2)::(kG l6 (kAe n8 ((7,.i n7)::(kB8 (kAL (l1.length:Int) n7 [])))))) ?_
    refine sq ?_
    refine sh fol ((0,vl (qa .u64) l1)::(1,vl (qa .u64) l2)::(kG l6 (kAe n8 ((7,.i n7)::(kB8 (kAL (l1.length:Int) n7 [(28,.bool (decide (n7<(l2.length:Int))))])))))) ?_
    obtain⟨r14,g14,g11⟩:=bnd g11
    refine Goes.imp (Q:=fun x s'=>(x= .normal∧ ∃n13,n13=r14∧Sub s' (ofG 54 ((0,vl (qa .u64) l1)::(1,vl (qa .u64) l2)::(kG l6 (kAe n8 ((7,.i n7)::(8,.int .u64 n13)::(kAL (l1.length:Int) n7 []))))),[.cells (l6.flatMap (qa .u64).c)]))) ?_ ?_
    ·refine ihD g14 (fun c15 g14=>?_) (fun c15 g14=>?_)
     ·obtain⟨x16,e_x16,g14⟩:=bnd g14
      refine gr fol [2,3] ((0,vl (qa .u64) l1)::(1,vl (qa .u64) l2)::(kG l6 (kAe n8 ((7,.i n7)::(8,.int .u64 x16)::(kAL (l1.length:Int) n7 []))))) (ac (iv qI (qa .u64) e_x16) (ac (lv 0 zu (qa .u64) e_x16 rfl) az)) ?_
      obtain rfl:=si g14
      exact⟨rfl,_,rfl,(Sub.refl _)⟩
     ·refine Goes.skip ?_
      obtain rfl:=si g14
      exact⟨rfl,_,rfl,(Sub.keep [0,1,5,6,7,8,21,22] rfl rfl)⟩
    rintro x s' ⟨rfl,n13,rfl,hsub⟩
    refine Goes.sub hsub ?_
    obtain⟨x17,e_x17,g11⟩:=bnd g11
    obtain⟨r18,e_r18,g11⟩:=bnd g11
    obtain⟨x19,e_x19,g11⟩:=bnd g11
    obtain⟨l20,e_l20,g11⟩:=bnd g11
    refine gq fol [4,5,8,12,13] ((0,vl (qa .u64) l1)::(1,vl (qa .u64) l2)::(kG l6 (kAe r18.2 (kAL (l1.length:Int) n7 [])))) [.cells (l20.flatMap (qa .u64).c)] (ac (iv qI (qa .u64) e_x17) (ac (lv 0 zu (qa .u64) e_x17 rfl) (ac (cv (qbB x17 n13 n8 e_r18)) (ac (hs (.done (.opt (qf Tryz.prog 104 (.slice 0 0 l6.length l6.length 1) (.i n7))) (.ptr 0 ((n7:Int).toNat*1+0))) (xP qI e_x19)) (ac (hs (.run [0] (qp Tryz.prog 212 (.ptr 0 ((n7:Int).toNat*1+0)) (.int .u64 r18.1)) [.cells (l6.flatMap (qa .u64).c)] .undef [.cells (l20.flatMap (qa .u64).c)] true) (xu (E:=(qa .u64)) (l:=l6) (y:=r18.1) rfl (show _=some 1 by kernel_rfl) rfl e_x19 rfl rfl rfl rfl rfl e_l20 rfl)) az))))) ?_
    refine Goes.sub (show Sub (ofG 54 ((0,vl (qa .u64) l1)::(1,vl (qa .u64) l2)::(kG l6 (kAe r18.2 (kAL (l1.length:Int) n7 [])))),[.cells (l20.flatMap (qa .u64).c)]) (ofG 54 ((0,vl (qa .u64) l1)::(1,vl (qa .u64) l2)::(kG l20 (kAe r18.2 (kAL (l1.length:Int) n7 [])))),[.cells (l20.flatMap (qa .u64).c)])from(Sub.norm [] [some 0] rfl rfl (.keep (.same (qg (qa .u64) _)) (.keep (.same (qg (qa .u64) _)) (.keep (.sliceE rfl (jP e_l20)) (.keep (.same nI) (.keep (.same nI) (.keep (.same nI) .nil)))))) (.ks .nil))) ?_
    refine gh fol ((0,vl (qa .u64) l1)::(1,vl (qa .u64) l2)::(kG l20 (kAe r18.2 (kAL (l1.length:Int) (w64 (n7+1)) [])))) ?_
    exact⟨M,(ofG 54 ((0,vl (qa .u64) l1)::(1,vl (qa .u64) l2)::(kG l20 (kAe r18.2 (kAL (l1.length:Int) (w64 (n7+1)) [])))),[.cells (l20.flatMap (qa .u64).c)]),Nat.lt_succ_self _,(Sub.refl _),_,_,_,rfl,g11⟩
   ·refine Goes.exit ?_
    obtain rfl:=si g11
    exact⟨rfl,_,_,rfl,(Sub.keep [0,5,6] rfl rfl)⟩
 rintro x s' ⟨rfl,l9,n10,rfl,hsub⟩
 try dsimp only at h
 refine Goes.sub hsub ?_
 obtain⟨x21,e_x21,h⟩:=bnd h
 obtain⟨l22,e_l22,h⟩:=bnd h
 refine sq (gq fol [4,5] (kG l9 []) [.cells (l22.flatMap (qa .u64).c)] (ac (hs (.done (.opt (qf Tryz.prog 104 (.slice 0 0 l9.length l9.length 1) (.i (l1.length:Int)))) (.ptr 0 (((l1.length:Int):Int).toNat*1+0))) (xP qI e_x21)) (ac (hs (.run [0] (qp Tryz.prog 212 (.ptr 0 (((l1.length:Int):Int).toNat*1+0)) (.int .u64 n10)) [.cells (l9.flatMap (qa .u64).c)] .undef [.cells (l22.flatMap (qa .u64).c)] true) (xu (E:=(qa .u64)) (l:=l9) (y:=n10) rfl (show _=some 1 by kernel_rfl) rfl e_x21 rfl rfl rfl rfl rfl e_l22 rfl)) az)) ?_)
 refine Goes.sub (show Sub (ofG 54 (kG l9 []),[.cells (l22.flatMap (qa .u64).c)]) (ofG 54 (kG l22 []),[.cells (l22.flatMap (qa .u64).c)])from(Sub.norm [] [some 0] rfl rfl (.keep (.sliceE rfl (jP e_l22)) .nil) (.ks .nil))) ?_
 obtain⟨r23,e_r23,h⟩:=bnd h
 refine sq (gq fol [1] [(4,vl (qa .u64) r23)] [.frozen (l22.flatMap (qa .u64).c)] (ac (hs (.callF 215 [.slice 0 0 l22.length l22.length 1] [.cells (l22.flatMap (qa .u64).c)] [0] [vl (qa .u64) l22] (vl (qa .u64) r23)) (xZ (FzL.cons (Fz.sl (E:=(qa .u64)) rfl rfl (nl rfl)) FzL.nil) (yB N l22 e_r23) (qo (qa .u64) _ (nl rfl)))) az) ?_)
 refine Goes.sub (show Sub (ofG 54 [(4,vl (qa .u64) r23)],[.frozen (l22.flatMap (qa .u64).c)]) (ofG 54 [(4,vl (qa .u64) r23)],[])from(Sub.norm [] [] rfl rfl (.keep (.same (qg (qa .u64) _)) .nil) .nil)) ?_
 refine Goes.ret ?_
 obtain rfl:=si h
 exact(gw2 [vl (qa .u64) r23] (FzW.still (qo (qa .u64) _ (nl rfl))))
def kP (a:List Int) (b:List Int):Nat→Int→Option (Unit⊕Int)
 |0,_=>none
 |K+1,n3=>
  if n3≥0 then
  (idx a n3).bind fun x7=>
  (idx b n3).bind fun x8=>
  if(!decide (x7=x8))=true then
  if x7<x8 then
  some (.inr (-1))
  else
  some (.inr 1)
  else
  kP a b K (w64 (n3-1))
  else
  some (.inl ())
def jg (N:Nat) (a:List Int) (b:List Int):Option Int:=
 if(!decide ((a.length:Int)=(b.length:Int)))=true then
 if(a.length:Int)<(b.length:Int)then
 some (-1)
 else
 some 1
 else
 (kP a b N (w64 ((a.length:Int)-1))).bind (fun
 |(.inl ())=>
 some 0
 |(.inr q11)=>
 some q11)
theorem qbc (N:Nat) (a:List Int) (b:List Int) {res:Int} (h:jg N a b=some res):qb Tryz.prog (.fn 165) [vl (qa .u64) a,vl (qa .u64) b] [] (.i res) []:=by
 unfold jg at h
 refine Goes.fnW Tryz.func165 rfl rfl (m:=41) rfl (rs:=[.tmp 4]) rfl (l:=[(0,vl (qa .u64) a),(1,vl (qa .u64) b)]) rfl ?_
 refine sh fol [(0,vl (qa .u64) a),(1,vl (qa .u64) b)] ?_
 refine sq ?_
 refine sh fol ((0,vl (qa .u64) a)::(1,vl (qa .u64) b)::(kBV (!decide ((a.length:Int)=(b.length:Int))))) ?_
 refine ihB h (fun c1 h=>?_) (fun c1 h=>?_)
 ·refine sq ?_
  refine sh fol (kBa (decide ((a.length:Int)<(b.length:Int)))) ?_
  refine ihD h (fun c2 h=>?_) (fun c2 h=>?_)
  ·refine sh fol [(4,.i (-1))] ?_
   refine Goes.ret ?_
   obtain rfl:=si h
   exact(gw2 [.i (-1)] (FzW.still tI))
  ·refine Goes.skip ?_
   refine sh fol [(4,.i 1)] ?_
   refine Goes.ret ?_
   obtain rfl:=si h
   exact(gw2 [.i 1] (FzW.still tI))
 ·refine Goes.skip ?_
  refine sq ?_
  refine sh fol ((0,vl (qa .u64) a)::(1,vl (qa .u64) b)::(kA5 (w64 ((a.length:Int)-1)))) ?_
  refine Goes.block ?_
  obtain⟨r4,g4,h⟩:=bnd h
  refine Goes.imp (Q:=fun x s'=>(x= .exit 0∧(.inl ())=r4∧Sub s' (ofG 41 [],[]))∨(x= .ret∧ ∃q5,(.inr q5)=r4∧vK Tryz.prog [.tmp 4] (.i q5) .ret s')) ?_ ?_
  ·refine Goes.loopS (fun M s=> ∃(n3:Int),s=(ofG 41 ((0,vl (qa .u64) a)::(1,vl (qa .u64) b)::(kA5 n3)),[])∧kP a b M n3=some r4) ?_ (m:=N) ⟨_,rfl,g4⟩
   rintro M s ⟨n3,rfl,g4⟩
   cases M with
   |zero=>simp only[kP]at g4;cases g4
   |succ M=>
    rw[kP]at g4
    refine sq ?_
    refine sh fol [(0,vl (qa .u64) a),(1,vl (qa .u64) b),(5,.i n3),(20,.bool (decide (n3≥0)))] ?_
    refine ihD g4 (fun c6 g4=>?_) (fun c6 g4=>?_)
    ·refine Goes.skip ?_
     refine sq (Goes.block ?_)
     obtain⟨x7,e_x7,g4⟩:=bnd g4
     obtain⟨x8,e_x8,g4⟩:=bnd g4
     refine sq (gr fol [2,3,6,7] [(0,vl (qa .u64) a),(1,vl (qa .u64) b),(5,.i n3),(31,.bool (!decide (x7=x8)))] (ac (iv qI (qa .u64) e_x7) (ac (lv 0 zu (qa .u64) e_x7 rfl) (ac (iv qI (qa .u64) e_x8) (ac (lv 0 zu (qa .u64) e_x8 rfl) az)))) ?_)
     refine ihB g4 (fun c9 g4=>?_) (fun c9 g4=>?_)
     ·refine sq ?_
      refine sq (gr fol [2,3,6,7] [(40,.bool (decide (x7<x8)))] (ac (iv qI (qa .u64) e_x7) (ac (lv 0 zu (qa .u64) e_x7 rfl) (ac (iv qI (qa .u64) e_x8) (ac (lv 0 zu (qa .u64) e_x8 rfl) az)))) ?_)
      refine ihD g4 (fun c10 g4=>?_) (fun c10 g4=>?_)
      ·refine sh fol [(4,.i (-1))] ?_
       refine Goes.ret ?_
       obtain rfl:=si g4
       exact Or.inr (⟨rfl,_,rfl,(gw2 [.i (-1)] (FzW.still tI))⟩)
      ·refine Goes.skip ?_
       refine sh fol [(4,.i 1)] ?_
       refine Goes.ret ?_
       obtain rfl:=si g4
       exact Or.inr (⟨rfl,_,rfl,(gw2 [.i 1] (FzW.still tI))⟩)
     ·refine Goes.skip ?_
      refine gh fol ((0,vl (qa .u64) a)::(1,vl (qa .u64) b)::(kA5 (w64 (n3-1)))) ?_
      exact⟨M,(ofG 41 ((0,vl (qa .u64) a)::(1,vl (qa .u64) b)::(kA5 (w64 (n3-1)))),[]),Nat.lt_succ_self _,(Sub.refl _),_,rfl,g4⟩
    ·refine Goes.exit ?_
     obtain rfl:=si g4
     exact Or.inl (⟨rfl,rfl,(Sub.keep [] rfl rfl)⟩)
  rintro x s' (⟨rfl,rfl,hsub⟩|⟨rfl,q11,rfl,hret⟩)
  ·try dsimp only at h
   refine Goes.sub hsub ?_
   refine sh fol [(4,.i 0)] ?_
   refine Goes.ret ?_
   obtain rfl:=si h
   exact(gw2 [.i 0] (FzW.still tI))
  ·try dsimp only at h
   obtain rfl:=si h
   exact hret
def zW (x_:List Int) (y:List Int):Nat→(List Int)→Int→Int→Option (List Int)
 |0,_,_,_=>none
 |K+1,l2,n3,n4=>
  if n3<(x_.length:Int)then
  ((if n3<(y.length:Int)then
  (idx y n3).bind fun x11=>
  some x11
  else
  some 0:Option Int)).bind fun n8=>
  (idx x_ n3).bind fun x12=>
  (qdo x12 n8 n4).bind fun r13=>
  (idx l2 n3).bind fun x14=>
  (put l2 n3 r13.1).bind fun l15=>
  zW x_ y K l15 (w64 (n3+1)) r13.2
  else
  some l2
def vH (N:Nat) (x_:List Int) (y:List Int):Option (List Int):=
 (mk 8 (x_.length:Int) 0).bind fun l1=>
 (zW x_ y N l1 0 0).bind fun l5=>
 (ym N l5).bind fun r16=>
 some r16
theorem qcW (N:Nat) (x_:List Int) (y:List Int) {res:List Int} (h:vH N x_ y=some res):qb Tryz.prog (.fn 166) [vl (qa .u64) x_,vl (qa .u64) y] [] (vl (qa .u64) res) []:=by
 unfold vH at h
 refine Goes.fnW Tryz.func166 rfl rfl (m:=41) rfl (rs:=[.tmp 4]) rfl (l:=[(0,vl (qa .u64) x_),(1,vl (qa .u64) y)]) rfl ?_
 refine sh fol [(0,vl (qa .u64) x_),(1,vl (qa .u64) y)] ?_
 obtain⟨l1,e_l1,h⟩:=bnd h
 refine sq (gq fol [2] ((0,vl (qa .u64) x_)::(1,vl (qa .u64) y)::(kG l1 [])) [.cells (l1.flatMap (qa .u64).c)] (ac (hs (.run [] (zP Tryz.prog 104 (.i (x_.length:Int)) (.i (x_.length:Int))) [] (.slice 0 0 l1.length l1.length 1) [.cells (l1.flatMap (qa .u64).c)] false) (qcI qI (E:=(qa .u64)) (z:=0) rfl (by kernel_rfl) e_l1 rfl)) az) ?_)
 refine sh fol ((0,vl (qa .u64) x_)::(1,vl (qa .u64) y)::(kG l1 [(6,.int .u64 0)])) ?_
 refine sq ?_
 refine sh fol ((0,vl (qa .u64) x_)::(1,vl (qa .u64) y)::(kG l1 [(6,.int .u64 0),(13,.i (x_.length:Int)),(14,.i 0)])) ?_
 refine Goes.block ?_
 obtain⟨r6,g6,h⟩:=bnd h
 refine Goes.imp (Q:=fun x s'=>(x= .exit 0∧ ∃l5,l5=r6∧Sub s' (ofG 41 (kG l5 []),[.cells (l5.flatMap (qa .u64).c)]))) ?_ ?_
 ·refine Goes.loopS (fun M s=> ∃(l2:List Int) (n3:Int) (n4:Int),s=(ofG 41 ((0,vl (qa .u64) x_)::(1,vl (qa .u64) y)::(kG l2 (kAe n4 (kAg (x_.length:Int) n3)))),[.cells (l2.flatMap (qa .u64).c)])∧zW x_ y M l2 n3 n4=some r6) ?_ (m:=N) ⟨_,_,_,rfl,g6⟩
  rintro M s ⟨l2,n3,n4,rfl,g6⟩
  cases M with
  |zero=>simp only[zW]at g6;cases g6
  |succ M=>
   rw[zW]at g6
   refine sh fol ((0,vl (qa .u64) x_)::(1,vl (qa .u64) y)::(kG l2 (kAe n4 ((13,.i (x_.length:Int))::(14,.i n3)::(kBa (decide (n3<(x_.length:Int)))))))) ?_
   refine sq ?_
   refine ihD g6 (fun c7 g6=>?_) (fun c7 g6=>?_)
   ·refine Goes.skip ?_
    refine sq (Goes.block ?_)
    refine sh fol ((0,vl (qa .u64) x_)::(1,vl (qa .u64) y)::(kG l2 (kAe n4 ((7,.i n3)::(kAg (x_.length:Int) n3))))) ?_
    refine sh fol ((0,vl (qa .u64) x_)::(1,vl (qa .u64) y)::(kG l2 (kAe n4 ((7,.i n3)::(kB8 (kAg (x_.length:Int) n3)))))) ?_
    refine sq ?_
    refine sh fol ((0,vl (qa .u64) x_)::(1,vl (qa .u64) y)::(kG l2 (kAe n4 ((7,.i n3)::(kB8 [(13,.i (x_.length:Int)),(14,.i n3),(20,.bool (decide (n3<(y.length:Int))))]))))) ?_
    obtain⟨r9,g9,g6⟩:=bnd g6
    refine Goes.imp (Q:=fun x s'=>(x= .normal∧ ∃n8,n8=r9∧Sub s' (ofG 41 ((0,vl (qa .u64) x_)::(1,vl (qa .u64) y)::(kG l2 (kAe n4 ((7,.i n3)::(8,.int .u64 n8)::(kAg (x_.length:Int) n3))))),[.cells (l2.flatMap (qa .u64).c)]))) ?_ ?_
    ·refine ihD g9 (fun c10 g9=>?_) (fun c10 g9=>?_)
     ·obtain⟨x11,e_x11,g9⟩:=bnd g9
      refine gr fol [2,3] ((0,vl (qa .u64) x_)::(1,vl (qa .u64) y)::(kG l2 (kAe n4 ((7,.i n3)::(8,.int .u64 x11)::(kAg (x_.length:Int) n3))))) (ac (iv qI (qa .u64) e_x11) (ac (lv 0 zu (qa .u64) e_x11 rfl) az)) ?_
      obtain rfl:=si g9
      exact⟨rfl,_,rfl,(Sub.refl _)⟩
     ·refine Goes.skip ?_
      obtain rfl:=si g9
      exact⟨rfl,_,rfl,(Sub.keep [0,1,5,6,7,8,13,14] rfl rfl)⟩
    rintro x s' ⟨rfl,n8,rfl,hsub⟩
    refine Goes.sub hsub ?_
    obtain⟨x12,e_x12,g6⟩:=bnd g6
    obtain⟨r13,e_r13,g6⟩:=bnd g6
    obtain⟨x14,e_x14,g6⟩:=bnd g6
    obtain⟨l15,e_l15,g6⟩:=bnd g6
    refine gq fol [4,5,8,12,13] ((0,vl (qa .u64) x_)::(1,vl (qa .u64) y)::(kG l2 (kAe r13.2 (kAg (x_.length:Int) n3)))) [.cells (l15.flatMap (qa .u64).c)] (ac (iv qI (qa .u64) e_x12) (ac (lv 0 zu (qa .u64) e_x12 rfl) (ac (cv (qgt x12 n8 n4 e_r13)) (ac (hs (.done (.opt (qf Tryz.prog 104 (.slice 0 0 l2.length l2.length 1) (.i n3))) (.ptr 0 ((n3:Int).toNat*1+0))) (xP qI e_x14)) (ac (hs (.run [0] (qp Tryz.prog 212 (.ptr 0 ((n3:Int).toNat*1+0)) (.int .u64 r13.1)) [.cells (l2.flatMap (qa .u64).c)] .undef [.cells (l15.flatMap (qa .u64).c)] true) (xu (E:=(qa .u64)) (l:=l2) (y:=r13.1) rfl (show _=some 1 by kernel_rfl) rfl e_x14 rfl rfl rfl rfl rfl e_l15 rfl)) az))))) ?_
    refine Goes.sub (show Sub (ofG 41 ((0,vl (qa .u64) x_)::(1,vl (qa .u64) y)::(kG l2 (kAe r13.2 (kAg (x_.length:Int) n3)))),[.cells (l15.flatMap (qa .u64).c)]) (ofG 41 ((0,vl (qa .u64) x_)::(1,vl (qa .u64) y)::(kG l15 (kAe r13.2 (kAg (x_.length:Int) n3)))),[.cells (l15.flatMap (qa .u64).c)])from(Sub.norm [] [some 0] rfl rfl (.keep (.same (qg (qa .u64) _)) (.keep (.same (qg (qa .u64) _)) (.keep (.sliceE rfl (jP e_l15)) (.keep (.same nI) (.keep (.same nI) (.keep (.same nI) .nil)))))) (.ks .nil))) ?_
    refine gh fol ((0,vl (qa .u64) x_)::(1,vl (qa .u64) y)::(kG l15 (kAe r13.2 (kAg (x_.length:Int) (w64 (n3+1)))))) ?_
    exact⟨M,(ofG 41 ((0,vl (qa .u64) x_)::(1,vl (qa .u64) y)::(kG l15 (kAe r13.2 (kAg (x_.length:Int) (w64 (n3+1)))))),[.cells (l15.flatMap (qa .u64).c)]),Nat.lt_succ_self _,(Sub.refl _),_,_,_,rfl,g6⟩
   ·refine Goes.exit ?_
    obtain rfl:=si g6
    exact⟨rfl,_,rfl,(Sub.keep [5] rfl rfl)⟩
 rintro x s' ⟨rfl,l5,rfl,hsub⟩
 refine Goes.sub hsub ?_
 obtain⟨r16,e_r16,h⟩:=bnd h
 refine sq (gq fol [1] [(4,vl (qa .u64) r16)] [.frozen (l5.flatMap (qa .u64).c)] (ac (hs (.callF 215 [.slice 0 0 l5.length l5.length 1] [.cells (l5.flatMap (qa .u64).c)] [0] [vl (qa .u64) l5] (vl (qa .u64) r16)) (xZ (FzL.cons (Fz.sl (E:=(qa .u64)) rfl rfl (nl rfl)) FzL.nil) (yB N l5 e_r16) (qo (qa .u64) _ (nl rfl)))) az) ?_)
 refine Goes.sub (show Sub (ofG 41 [(4,vl (qa .u64) r16)],[.frozen (l5.flatMap (qa .u64).c)]) (ofG 41 [(4,vl (qa .u64) r16)],[])from(Sub.norm [] [] rfl rfl (.keep (.same (qg (qa .u64) _)) .nil) .nil)) ?_
 refine Goes.ret ?_
 obtain rfl:=si h
 exact(gw2 [vl (qa .u64) r16] (FzW.still (qo (qa .u64) _ (nl rfl))))
def jC (N:Nat) (a:qj) (b:qj):Option qj:=
 (if a.w.isEmpty=true then
 some b.w.isEmpty
 else
 some false:Option Bool).bind fun b2=>
 ((if b2=true then
 if((decide ((w64 (a.s+b.s))>a.s))==(decide (b.s>0)))=true then
 some (.inr (⟨w64 (a.s+b.s),[]⟩:qj))
 else
 some (.inl ())
 else
 some (.inl ()):Option (Unit⊕qj))).bind (fun
 |(.inl ())=>
 (qE a).bind fun r8=>
 (qE b).bind fun r9=>
 if(r8.1==r9.1)=true then
 (xI N r8.2 r9.2).bind fun r11=>
 (jE r8.1 r11).bind fun r12=>
 some r12
 else
 (jg N r8.2 r9.2).bind fun r13=>
 if r13≥0 then
 (vH N r8.2 r9.2).bind fun r15=>
 (jE r8.1 r15).bind fun r16=>
 some r16
 else
 (vH N r9.2 r8.2).bind fun r17=>
 (jE r9.1 r17).bind fun r18=>
 some r18
 |(.inr q19)=>
 some q19)
theorem xw (N:Nat) (a:qj) (b:qj) {res:qj} (h:jC N a b=some res):qb Tryz.prog (.fn 107) [.agg [.i a.s,nvl (qa .u64) a.w],.agg [.i b.s,nvl (qa .u64) b.w]] [] (.agg [.i res.s,nvl (qa .u64) res.w]) []:=by
 unfold jC at h
 refine Goes.fnW Tryz.func107 rfl rfl (m:=67) rfl (rs:=[.cell 4 106]) rfl (l:=[(0,.agg [.i a.s,nvl (qa .u64) a.w]),(1,.agg [.i b.s,nvl (qa .u64) b.w])]) rfl ?_
 refine sg fol (kH []) [.cells [.i a.s,nvl (qa .u64) a.w],.cells [.i b.s,nvl (qa .u64) b.w],bZ] ?_
 refine sq ?_
 refine sq ?_
 obtain⟨b2,g_v3,h⟩:=bnd h
 refine Goes.cut (s':=(ofG 67 (kH [(17,.bool b2)]),[.cells [.i a.s,nvl (qa .u64) a.w],.cells [.i b.s,nvl (qa .u64) b.w],bZ])) ?_ ?_
 ·rcases wyB g_v3 with⟨c1,g_v3⟩|⟨c1,g_v3⟩
  ·obtain rfl:=si g_v3
   exact tr fol [2,3,6] (kH [(17,.bool b.w.isEmpty)]) (ac (hs (.done (.opt (qY Tryz.prog .eql 104 (.tmp 11) (.const (.slice none 0 0)) (nvl (qa .u64) a.w) .nilslice)) (.bool a.w.isEmpty)) (xV vD)) (ac (gw c1) (ac (hs (.done (.opt (qY Tryz.prog .eql 104 (.tmp 15) (.const (.slice none 0 0)) (nvl (qa .u64) b.w) .nilslice)) (.bool b.w.isEmpty)) (xV vD)) az)))
  ·obtain rfl:=si g_v3
   exact tr fol [2,3] (kH [(17,.bool false)]) (ac (hs (.done (.opt (qY Tryz.prog .eql 104 (.tmp 11) (.const (.slice none 0 0)) (nvl (qa .u64) a.w) .nilslice)) (.bool a.w.isEmpty)) (xV vD)) (ac (gw c1) az))
 obtain⟨r4,g4,h⟩:=bnd h
 refine Goes.imp (Q:=fun x s'=>(x= .normal∧(.inl ())=r4∧Sub s' (ofG 67 (kH []),[.cells [.i a.s,nvl (qa .u64) a.w],.cells [.i b.s,nvl (qa .u64) b.w],bZ]))∨(x= .ret∧ ∃q5,(.inr q5)=r4∧vK Tryz.prog [.cell 4 106] (.agg [.i q5.s,nvl (qa .u64) q5.w]) .ret s')) ?_ ?_
 ·refine ihB g4 (fun c6 g4=>?_) (fun c6 g4=>?_)
  ·refine sh fol (kH (kA5 (w64 (a.s+b.s)))) ?_
   refine sh fol (kH [(5,.i (w64 (a.s+b.s))),(30,.bool ((decide ((w64 (a.s+b.s))>a.s))==(decide (b.s>0))))]) ?_
   refine ihB g4 (fun c7 g4=>?_) (fun c7 g4=>?_)
   ·refine sg fol (kAU []) (.cells [.i a.s,nvl (qa .u64) a.w]:: .cells [.i b.s,nvl (qa .u64) b.w]::(kBP (w64 (a.s+b.s)))) ?_
    refine Goes.ret ?_
    obtain rfl:=si g4
    exact Or.inr (⟨rfl,_,rfl,(gw2 [.agg [.i (w64 (a.s+b.s)),.nilslice]] (FzW.agg (qd.cons (FzW.still tI) (qd.cons (FzW.nv0 (E:=(qa .u64))) qd.nil))))⟩)
   ·refine Goes.skip ?_
    obtain rfl:=si g4
    exact Or.inl (⟨rfl,rfl,(Sub.keep [2,3,4] rfl rfl)⟩)
  ·refine Goes.skip ?_
   obtain rfl:=si g4
   exact Or.inl (⟨rfl,rfl,(Sub.keep [2,3,4] rfl rfl)⟩)
 rintro x s' (⟨rfl,rfl,hsub⟩|⟨rfl,q19,rfl,hret⟩)
 ·try dsimp only at h
  refine Goes.sub hsub ?_
  obtain⟨r8,e_r8,h⟩:=bnd h
  refine sq (gr fol [1] ((3,.ptr 1 0)::(kAU [(6,.bool r8.1),(7,vl (qa .u64) r8.2)])) (ac (cv (zn a e_r8)) az) ?_)
  obtain⟨r9,e_r9,h⟩:=bnd h
  refine sq (gr fol [1] (kAU [(6,.bool r8.1),(7,vl (qa .u64) r8.2),(8,.bool r9.1),(9,vl (qa .u64) r9.2)]) (ac (cv (zn b e_r9)) az) ?_)
  refine sq (Goes.block ?_)
  refine sh fol (kAU [(6,.bool r8.1),(7,vl (qa .u64) r8.2),(8,.bool r9.1),(9,vl (qa .u64) r9.2),(43,.bool (r8.1==r9.1))]) ?_
  refine ihB h (fun c10 h=>?_) (fun c10 h=>?_)
  ·obtain⟨r11,e_r11,h⟩:=bnd h
   obtain⟨r12,e_r12,h⟩:=bnd h
   refine sq (gq fol [3,4,5] (kAU []) [.cells [.i a.s,nvl (qa .u64) a.w],.cells [.i b.s,nvl (qa .u64) b.w],.cells [.i r12.s,nvl (qa .u64) r12.w]] (ac (cv (qfB N r8.2 r9.2 e_r11)) (ac (cv (xy r8.1 r11 e_r12)) (ac (hs (.run [2] (qp Tryz.prog 106 (.ptr 2 0) (.agg [.i r12.s,nvl (qa .u64) r12.w])) [.cells [.i a.s,nvl (qa .u64) a.w],.cells [.i b.s,nvl (qa .u64) b.w],bZ] .undef [.cells [.i a.s,nvl (qa .u64) a.w],.cells [.i b.s,nvl (qa .u64) b.w],.cells [.i r12.s,nvl (qa .u64) r12.w]] true) (kW (n:=2) (by kernel_rfl) rfl rfl rfl rfl (cac rfl (cac nvc can)) rfl)) az))) ?_)
   refine Goes.ret ?_
   obtain rfl:=si h
   exact(gw2 [.agg [.i r12.s,nvl (qa .u64) r12.w]] (FzW.agg (qd.cons (FzW.still tI) (qd.cons (FzW.still (qx (qa .u64) _ (nl rfl))) qd.nil))))
  ·obtain⟨r13,e_r13,h⟩:=bnd h
   refine sq (gr fol [2] (kAU [(6,.bool r8.1),(7,vl (qa .u64) r8.2),(8,.bool r9.1),(9,vl (qa .u64) r9.2),(52,.bool (decide (r13≥0)))]) (ac (cv (qbc N r8.2 r9.2 e_r13)) az) ?_)
   refine ihD h (fun c14 h=>?_) (fun c14 h=>?_)
   ·obtain⟨r15,e_r15,h⟩:=bnd h
    obtain⟨r16,e_r16,h⟩:=bnd h
    refine sq (gq fol [3,4,5] (kAU []) [.cells [.i a.s,nvl (qa .u64) a.w],.cells [.i b.s,nvl (qa .u64) b.w],.cells [.i r16.s,nvl (qa .u64) r16.w]] (ac (cv (qcW N r8.2 r9.2 e_r15)) (ac (cv (xy r8.1 r15 e_r16)) (ac (hs (.run [2] (qp Tryz.prog 106 (.ptr 2 0) (.agg [.i r16.s,nvl (qa .u64) r16.w])) [.cells [.i a.s,nvl (qa .u64) a.w],.cells [.i b.s,nvl (qa .u64) b.w],bZ] .undef [.cells [.i a.s,nvl (qa .u64) a.w],.cells [.i b.s,nvl (qa .u64) b.w],.cells [.i r16.s,nvl (qa .u64) r16.w]] true) (kW (n:=2) (by kernel_rfl) rfl rfl rfl rfl (cac rfl (cac nvc can)) rfl)) az))) ?_)
    refine Goes.ret ?_
    obtain rfl:=si h
    exact(gw2 [.agg [.i r16.s,nvl (qa .u64) r16.w]] (FzW.agg (qd.cons (FzW.still tI) (qd.cons (FzW.still (qx (qa .u64) _ (nl rfl))) qd.nil))))
   ·refine Goes.skip ?_
    obtain⟨r17,e_r17,h⟩:=bnd h
    obtain⟨r18,e_r18,h⟩:=bnd h
    refine sq (gq fol [3,4,5] (kAU []) [.cells [.i a.s,nvl (qa .u64) a.w],.cells [.i b.s,nvl (qa .u64) b.w],.cells [.i r18.s,nvl (qa .u64) r18.w]] (ac (cv (qcW N r9.2 r8.2 e_r17)) (ac (cv (xy r9.1 r17 e_r18)) (ac (hs (.run [2] (qp Tryz.prog 106 (.ptr 2 0) (.agg [.i r18.s,nvl (qa .u64) r18.w])) [.cells [.i a.s,nvl (qa .u64) a.w],.cells [.i b.s,nvl (qa .u64) b.w],bZ] .undef [.cells [.i a.s,nvl (qa .u64) a.w],.cells [.i b.s,nvl (qa .u64) b.w],.cells [.i r18.s,nvl (qa .u64) r18.w]] true) (kW (n:=2) (by kernel_rfl) rfl rfl rfl rfl (cac rfl (cac nvc can)) rfl)) az))) ?_)
    refine Goes.ret ?_
    obtain rfl:=si h
    exact(gw2 [.agg [.i r18.s,nvl (qa .u64) r18.w]] (FzW.agg (qd.cons (FzW.still tI) (qd.cons (FzW.still (qx (qa .u64) _ (nl rfl))) qd.nil))))
 ·try dsimp only at h
  obtain rfl:=si h
  exact hret
def ze (a:qj):Option qj:=
 (if a.w.isEmpty=true then
 some (!decide (a.s=(-9223372036854775808)))
 else
 some false:Option Bool).bind fun b2=>
 if b2=true then
 some (⟨w64 (0-a.s),[]⟩:qj)
 else
 (qE a).bind fun r5=>
 (jE (!r5.1) r5.2).bind fun r6=>
 some r6
theorem jG (a:qj) {res:qj} (h:ze a=some res):qb Tryz.prog (.fn 160) [.agg [.i a.s,nvl (qa .u64) a.w]] [] (.agg [.i res.s,nvl (qa .u64) res.w]) []:=by
 unfold ze at h
 refine Goes.fnW Tryz.func160 rfl rfl (m:=26) rfl (rs:=[.cell 2 106]) rfl (l:=[(0,.agg [.i a.s,nvl (qa .u64) a.w])]) rfl ?_
 refine sg fol (kAH []) [.cells [.i a.s,nvl (qa .u64) a.w],bZ] ?_
 refine sq ?_
 refine sq ?_
 obtain⟨b2,g_v3,h⟩:=bnd h
 refine Goes.cut (s':=(ofG 26 (kAH (kBU b2)),[.cells [.i a.s,nvl (qa .u64) a.w],bZ])) ?_ ?_
 ·rcases wyB g_v3 with⟨c1,g_v3⟩|⟨c1,g_v3⟩
  ·obtain rfl:=si g_v3
   exact tr fol [2,3] (kAH (kBU (!decide (a.s=(-9223372036854775808))))) (ac (hs (.done (.opt (qY Tryz.prog .eql 104 (.tmp 6) (.const (.slice none 0 0)) (nvl (qa .u64) a.w) .nilslice)) (.bool a.w.isEmpty)) (xV vD)) (ac (gw c1) az))
  ·obtain rfl:=si g_v3
   exact tr fol [2,3] (kAH [(12,.bool false)]) (ac (hs (.done (.opt (qY Tryz.prog .eql 104 (.tmp 6) (.const (.slice none 0 0)) (nvl (qa .u64) a.w) .nilslice)) (.bool a.w.isEmpty)) (xV vD)) (ac (gw c1) az))
 refine ihB h (fun c4 h=>?_) (fun c4 h=>?_)
 ·refine sg fol kBX (.cells [.i a.s,nvl (qa .u64) a.w]::(kBP (w64 (0-a.s)))) ?_
  refine Goes.ret ?_
  obtain rfl:=si h
  exact(gw2 [.agg [.i (w64 (0-a.s)),.nilslice]] (FzW.agg (qd.cons (FzW.still tI) (qd.cons (FzW.nv0 (E:=(qa .u64))) qd.nil))))
 ·refine Goes.skip ?_
  obtain⟨r5,e_r5,h⟩:=bnd h
  refine sq (gr fol [1] [(2,.ptr 1 0),(3,.bool r5.1),(4,vl (qa .u64) r5.2)] (ac (cv (zn a e_r5)) az) ?_)
  obtain⟨r6,e_r6,h⟩:=bnd h
  refine sq (gq fol [3,4] kBX [.cells [.i a.s,nvl (qa .u64) a.w],.cells [.i r6.s,nvl (qa .u64) r6.w]] (ac (cv (xy (!r5.1) r5.2 e_r6)) (ac (hs (.run [1] (qp Tryz.prog 106 (.ptr 1 0) (.agg [.i r6.s,nvl (qa .u64) r6.w])) [.cells [.i a.s,nvl (qa .u64) a.w],bZ] .undef [.cells [.i a.s,nvl (qa .u64) a.w],.cells [.i r6.s,nvl (qa .u64) r6.w]] true) (kW (n:=2) (by kernel_rfl) rfl rfl rfl rfl (cac rfl (cac nvc can)) rfl)) az)) ?_)
  refine Goes.ret ?_
  obtain rfl:=si h
  exact(gw2 [.agg [.i r6.s,nvl (qa .u64) r6.w]] (FzW.agg (qd.cons (FzW.still tI) (qd.cons (FzW.still (qx (qa .u64) _ (nl rfl))) qd.nil))))
def yx (N:Nat) (a:qj) (b:qj):Option qj:=
 (ze b).bind fun r1=>
 (jC N a r1).bind fun r2=>
 some r2
theorem qdF (N:Nat) (a:qj) (b:qj) {res:qj} (h:yx N a b=some res):qb Tryz.prog (.fn 188) [.agg [.i a.s,nvl (qa .u64) a.w],.agg [.i b.s,nvl (qa .u64) b.w]] [] (.agg [.i res.s,nvl (qa .u64) res.w]) []:=by
 unfold yx at h
 refine Goes.fnW Tryz.func188 rfl rfl (m:=9) rfl (rs:=[.cell 4 106]) rfl (l:=[(0,.agg [.i a.s,nvl (qa .u64) a.w]),(1,.agg [.i b.s,nvl (qa .u64) b.w])]) rfl ?_
 refine sg fol (kH []) [.cells [.i a.s,nvl (qa .u64) a.w],.cells [.i b.s,nvl (qa .u64) b.w],bZ] ?_
 obtain⟨r1,e_r1,h⟩:=bnd h
 obtain⟨r2,e_r2,h⟩:=bnd h
 refine sq (gq fol [2,3,4] (kAU []) [.cells [.i a.s,nvl (qa .u64) a.w],.cells [.i b.s,nvl (qa .u64) b.w],.cells [.i r2.s,nvl (qa .u64) r2.w]] (ac (cv (jG b e_r1)) (ac (cv (xw N a r1 e_r2)) (ac (hs (.run [2] (qp Tryz.prog 106 (.ptr 2 0) (.agg [.i r2.s,nvl (qa .u64) r2.w])) [.cells [.i a.s,nvl (qa .u64) a.w],.cells [.i b.s,nvl (qa .u64) b.w],bZ] .undef [.cells [.i a.s,nvl (qa .u64) a.w],.cells [.i b.s,nvl (qa .u64) b.w],.cells [.i r2.s,nvl (qa .u64) r2.w]] true) (kW (n:=2) (by kernel_rfl) rfl rfl rfl rfl (cac rfl (cac nvc can)) rfl)) az))) ?_)
 refine Goes.ret ?_
 obtain rfl:=si h
 exact(gw2 [.agg [.i r2.s,nvl (qa .u64) r2.w]] (FzW.agg (qd.cons (FzW.still tI) (qd.cons (FzW.still (qx (qa .u64) _ (nl rfl))) qd.nil))))
def bits_Len64 (x_:Int):Option Int:=
 ((if x_≥4294967296 then
 some (qm .u64 x_ 32,32)
 else
 some (x_,0):Option (Int×Int))).bind fun(n1,n2)=>
 ((if n1≥65536 then
 some (qm .u64 n1 16,w64 (n2+16))
 else
 some (n1,n2):Option (Int×Int))).bind fun(n5,n6)=>
 ((if n5≥256 then
 some (qm .u64 n5 8,w64 (n6+8))
 else
 some (n5,n6):Option (Int×Int))).bind fun(n9,n10)=>
 (idx ([0,1,2,2,3,3,3,3,4,4,4,4,4,4,4,4,5,5,5,5,5,5,5,5,5,5,5,5,5,5,5,5,6,6,6,6,6,6,6,6,6,6,6,6,6,6,6,6,6,6,6,6,6,6,6,6,6,6,6,6,6,6,6,6,7,7,7,7,7,7,7,7,7,7,7,7,7,7,7,7,7,7,7,7,7,7,7,7,7,7,7,7,7,7,7,7,7,7,7,7,7,7,7,7,7,7,7,7,7,7,7,7,7,7,7,7,7,7,7,7,7,7,7,7,7,7,7,7,8,8,8,8,8,8,8,8,8,8,8,8,8,8,8,8,8,8,8,8,8,8,8,8,8,8,8,8,8,8,8,8,8,8,8,8,8,8,8,8,8,8,8,8,8,8,8,8,8,8,8,8,8,8,8,8,8,8,8,8,8,8,8,8,8,8,8,8,8,8,8,8,8,8,8,8,8,8,8,8,8,8,8,8,8,8,8,8,8,8,8,8,8,8,8,8,8,8,8,8,8,8,8,8,8,8,8,8,8,8,8,8,8,8,8,8,8,8,8,8,8,8,8,8,8,8,8,8]:Str) (IntKind.wrap .u8 n9)).bind fun c13=>
 some (w64 (n10+(w64 (c13.toNat:Int))))
theorem qd8 (x_:Int) {res:Int} (h:bits_Len64 x_=some res):qb Tryz.prog (.fn 213) [.int .u64 x_] [] (.i res) []:=by
 unfold bits_Len64 at h
 refine Goes.fnW Tryz.func213 rfl rfl (m:=25) rfl (rs:=[.tmp 2]) rfl (l:=(kBt x_ [])) rfl ?_
 refine sh fol (kBt x_ kB3) ?_
 refine sq ?_
 refine sh fol (kBt x_ ((2,.i 0)::(kAl (decide (x_≥4294967296))))) ?_
 obtain⟨r3,g3,h⟩:=bnd h
 refine Goes.imp (Q:=fun x s'=>(x= .normal∧ ∃n1 n2,(n1,n2)=r3∧Sub s' (ofG 25 (kBt n1 (kBM n2)),[]))) ?_ ?_
 ·refine ihD g3 (fun c4 g3=>?_) (fun c4 g3=>?_)
  ·refine sh fol (kBt (qm .u64 x_ 32) []) ?_
   refine gh fol (kBt (qm .u64 x_ 32) [(2,.i 32)]) ?_
   obtain rfl:=si g3
   exact⟨rfl,_,_,rfl,(Sub.refl _)⟩
  ·refine Goes.skip ?_
   obtain rfl:=si g3
   exact⟨rfl,_,_,rfl,(Sub.keep [0,2] rfl rfl)⟩
 rintro x s' ⟨rfl,n1,n2,rfl,hsub⟩
 try dsimp only at h
 refine Goes.sub hsub ?_
 refine sq ?_
 refine sh fol (kBt n1 ((2,.i n2)::(kAz (decide (n1≥65536))))) ?_
 obtain⟨r7,g7,h⟩:=bnd h
 refine Goes.imp (Q:=fun x s'=>(x= .normal∧ ∃n5 n6,(n5,n6)=r7∧Sub s' (ofG 25 (kBt n5 (kBM n6)),[]))) ?_ ?_
 ·refine ihD g7 (fun c8 g7=>?_) (fun c8 g7=>?_)
  ·refine sh fol (kBt (qm .u64 n1 16) (kBM n2)) ?_
   refine gh fol (kBt (qm .u64 n1 16) (kBM (w64 (n2+16)))) ?_
   obtain rfl:=si g7
   exact⟨rfl,_,_,rfl,(Sub.refl _)⟩
  ·refine Goes.skip ?_
   obtain rfl:=si g7
   exact⟨rfl,_,_,rfl,(Sub.keep [0,2] rfl rfl)⟩
 rintro x s' ⟨rfl,n5,n6,rfl,hsub⟩
 try dsimp only at h
 refine Goes.sub hsub ?_
 refine sq ?_
 refine sh fol (kBt n5 ((2,.i n6)::(kBh (decide (n5≥256))))) ?_
 obtain⟨r11,g11,h⟩:=bnd h
 refine Goes.imp (Q:=fun x s'=>(x= .normal∧ ∃n9 n10,(n9,n10)=r11∧Sub s' (ofG 25 (kBt n9 (kBM n10)),[]))) ?_ ?_
 ·refine ihD g11 (fun c12 g11=>?_) (fun c12 g11=>?_)
  ·refine sh fol (kBt (qm .u64 n5 8) (kBM n6)) ?_
   refine gh fol (kBt (qm .u64 n5 8) (kBM (w64 (n6+8)))) ?_
   obtain rfl:=si g11
   exact⟨rfl,_,_,rfl,(Sub.refl _)⟩
  ·refine Goes.skip ?_
   obtain rfl:=si g11
   exact⟨rfl,_,_,rfl,(Sub.keep [0,2] rfl rfl)⟩
 rintro x s' ⟨rfl,n9,n10,rfl,hsub⟩
 try dsimp only at h
 refine Goes.sub hsub ?_
 obtain⟨c13,e_c13,h⟩:=bnd h
 refine sq (gr fol [3] (kBM (w64 (n10+(w64 (c13.toNat:Int))))) (ac (hs (.done (.opt (vC Tryz.prog 9 (.str [0,1,2,2,3,3,3,3,4,4,4,4,4,4,4,4,5,5,5,5,5,5,5,5,5,5,5,5,5,5,5,5,6,6,6,6,6,6,6,6,6,6,6,6,6,6,6,6,6,6,6,6,6,6,6,6,6,6,6,6,6,6,6,6,7,7,7,7,7,7,7,7,7,7,7,7,7,7,7,7,7,7,7,7,7,7,7,7,7,7,7,7,7,7,7,7,7,7,7,7,7,7,7,7,7,7,7,7,7,7,7,7,7,7,7,7,7,7,7,7,7,7,7,7,7,7,7,7,8,8,8,8,8,8,8,8,8,8,8,8,8,8,8,8,8,8,8,8,8,8,8,8,8,8,8,8,8,8,8,8,8,8,8,8,8,8,8,8,8,8,8,8,8,8,8,8,8,8,8,8,8,8,8,8,8,8,8,8,8,8,8,8,8,8,8,8,8,8,8,8,8,8,8,8,8,8,8,8,8,8,8,8,8,8,8,8,8,8,8,8,8,8,8,8,8,8,8,8,8,8,8,8,8,8,8,8,8,8,8,8,8,8,8,8,8,8,8,8,8,8,8,8,8,8,8,8]) (.int .u8 (IntKind.wrap .u8 n9)))) (.int .u8 (c13.toNat:Int))) (xQ st9 e_c13)) az) ?_)
 refine Goes.ret ?_
 obtain rfl:=si h
 exact(gw2 [.i (w64 (n10+(w64 (c13.toNat:Int))))] (FzW.still tI))
def bits_LeadingZeros64 (x_:Int):Option Int:=
 (bits_Len64 x_).bind fun r1=>
 some (w64 (64-r1))
theorem qap (x_:Int) {res:Int} (h:bits_LeadingZeros64 x_=some res):qb Tryz.prog (.fn 241) [.int .u64 x_] [] (.i res) []:=by
 unfold bits_LeadingZeros64 at h
 refine Goes.fnW Tryz.func241 rfl rfl (m:=6) rfl (rs:=[.tmp 2]) rfl (l:=(kBt x_ [])) rfl ?_
 refine sh fol (kBt x_ []) ?_
 obtain⟨r1,e_r1,h⟩:=bnd h
 refine sq (gr fol [1] (kBM (w64 (64-r1))) (ac (cv (qd8 x_ e_r1)) az) ?_)
 refine Goes.ret ?_
 obtain rfl:=si h
 exact(gw2 [.i (w64 (64-r1))] (FzW.still tI))
def vS (q9:Int) (q12:Int):Nat→Int→Int→Option Int
 |0,_,_=>none
 |K+1,n14,n15=>
  (if n14≥4294967296 then
  some true
  else
  some (decide ((IntKind.wrap .u64 (n14*(qy .u64 q9 4294967295)))>(IntKind.wrap .u64 ((IntKind.wrap .u64 (4294967296*n15))+(qm .u64 q12 32))))):Option Bool).bind fun b19=>
  if b19=true then
  if(IntKind.wrap .u64 (n15+(qm .u64 q9 32)))≥4294967296 then
  some (IntKind.wrap .u64 (n14-1))
  else
  vS q9 q12 K (IntKind.wrap .u64 (n14-1)) (IntKind.wrap .u64 (n15+(qm .u64 q9 32)))
  else
  some n14
def vV (q9:Int) (q12:Int):Nat→Int→Int→Option Int
 |0,_,_=>none
 |K+1,n24,n25=>
  (if n25≥4294967296 then
  some true
  else
  some (decide ((IntKind.wrap .u64 (n25*(qy .u64 q9 4294967295)))>(IntKind.wrap .u64 ((IntKind.wrap .u64 (4294967296*n24))+(qy .u64 q12 4294967295))))):Option Bool).bind fun b29=>
  if b29=true then
  if(IntKind.wrap .u64 (n24+(qm .u64 q9 32)))≥4294967296 then
  some (IntKind.wrap .u64 (n25-1))
  else
  vV q9 q12 K (IntKind.wrap .u64 (n24+(qm .u64 q9 32))) (IntKind.wrap .u64 (n25-1))
  else
  some n25
def qad (N:Nat) (hi:Int) (lo:Int) (y:Int):Option (Int×Int):=
 ((if y=0 then
 none
 else
 some ():Option Unit)).bind fun _=>
 ((if y≤hi then
 none
 else
 some ():Option Unit)).bind fun _=>
 if hi=0 then
 (qbK .u64 lo y).bind fun q6=>
 (qdu .u64 lo y).bind fun q7=>
 some (q6,q7)
 else
 (bits_LeadingZeros64 y).bind fun r8=>
 (qgP .u64 y (IntKind.wrap .u64 r8)).bind fun q9=>
 (qgP .u64 hi (IntKind.wrap .u64 r8)).bind fun q10=>
 (qjK .u64 lo (IntKind.wrap .u64 (64-(IntKind.wrap .u64 r8)))).bind fun q11=>
 (qgP .u64 lo (IntKind.wrap .u64 r8)).bind fun q12=>
 (qbK .u64 (orI .u64 q10 q11) (qm .u64 q9 32)).bind fun q13=>
 (vS q9 q12 N q13 (IntKind.wrap .u64 ((orI .u64 q10 q11)-(IntKind.wrap .u64 (q13*(qm .u64 q9 32)))))).bind fun n16=>
 (qbK .u64 (IntKind.wrap .u64 ((IntKind.wrap .u64 ((IntKind.wrap .u64 ((orI .u64 q10 q11)*4294967296))+(qm .u64 q12 32)))-(IntKind.wrap .u64 (n16*q9)))) (qm .u64 q9 32)).bind fun q23=>
 (vV q9 q12 N (IntKind.wrap .u64 ((IntKind.wrap .u64 ((IntKind.wrap .u64 ((IntKind.wrap .u64 ((orI .u64 q10 q11)*4294967296))+(qm .u64 q12 32)))-(IntKind.wrap .u64 (n16*q9))))-(IntKind.wrap .u64 (q23*(qm .u64 q9 32))))) q23).bind fun n26=>
 (qjK .u64 (IntKind.wrap .u64 ((IntKind.wrap .u64 ((IntKind.wrap .u64 ((IntKind.wrap .u64 ((IntKind.wrap .u64 ((IntKind.wrap .u64 ((orI .u64 q10 q11)*4294967296))+(qm .u64 q12 32)))-(IntKind.wrap .u64 (n16*q9))))*4294967296))+(qy .u64 q12 4294967295)))-(IntKind.wrap .u64 (n26*q9)))) (IntKind.wrap .u64 r8)).bind fun q33=>
 some (IntKind.wrap .u64 ((IntKind.wrap .u64 (n16*4294967296))+n26),q33)
theorem qef (N:Nat) (hi:Int) (lo:Int) (y:Int) {res:Int×Int} (h:qad N hi lo y=some res):qb Tryz.prog (.fn 240) (.int .u64 hi::(kB5 lo y)) [] (.tuple (kB5 res.1 res.2)) []:=by
 unfold qad at h
 refine Goes.fnW Tryz.func240 rfl rfl (m:=135) rfl (rs:=[.tmp 6,.tmp 7]) rfl (l:=(kAJ hi lo [(2,.int .u64 y)])) rfl ?_
 refine sh fol (kAJ hi lo [(2,.int .u64 y)]) ?_
 refine sq ?_
 refine sh fol (kAJ hi lo [(2,.int .u64 y),(20,.bool (decide (y=0)))]) ?_
 obtain⟨r1,g1,h⟩:=bnd h
 refine Goes.imp (Q:=fun x s'=>(x= .normal∧()=r1∧Sub s' (ofG 135 (kAJ hi lo [(2,.int .u64 y)]),[]))) ?_ ?_
 ·refine ihD g1 (fun c2 g1=>?_) (fun c2 g1=>?_)
  ·cases g1
  ·refine Goes.skip ?_
   obtain rfl:=si g1
   exact⟨rfl,rfl,(Sub.keep [0,1,2] rfl rfl)⟩
 rintro x s' ⟨rfl,rfl,hsub⟩
 refine Goes.sub hsub ?_
 refine sq ?_
 refine sh fol (kAJ hi lo [(2,.int .u64 y),(24,.bool (decide (y≤hi)))]) ?_
 obtain⟨r3,g3,h⟩:=bnd h
 refine Goes.imp (Q:=fun x s'=>(x= .normal∧()=r3∧Sub s' (ofG 135 (kAJ hi lo [(2,.int .u64 y)]),[]))) ?_ ?_
 ·refine ihD g3 (fun c4 g3=>?_) (fun c4 g3=>?_)
  ·cases g3
  ·refine Goes.skip ?_
   obtain rfl:=si g3
   exact⟨rfl,rfl,(Sub.keep [0,1,2] rfl rfl)⟩
 rintro x s' ⟨rfl,rfl,hsub⟩
 refine Goes.sub hsub ?_
 refine sq ?_
 refine sh fol (kAJ hi lo [(2,.int .u64 y),(27,.bool (decide (hi=0)))]) ?_
 refine ihD h (fun c5 h=>?_) (fun c5 h=>?_)
 ·obtain⟨q6,e_q6,h⟩:=bnd h
  obtain⟨q7,e_q7,h⟩:=bnd h
  refine sq (gr fol [2,5] (kAe q6 (kAv q7 [])) (ac (hs (.done (.opt (qY Tryz.prog .quo 212 (.tmp 28) (.tmp 29) (.int .u64 lo) (.int .u64 y))) (.int .u64 q6)) (qbe e_q6)) (ac (hs (.done (.opt (qY Tryz.prog .rem 212 (.tmp 31) (.tmp 32) (.int .u64 lo) (.int .u64 y))) (.int .u64 q7)) (qeB e_q7)) az)) ?_)
  refine Goes.ret ?_
  obtain rfl:=si h
  exact(gw2 (kB5 q6 q7) (FzW.tuple (qd.cons (FzW.still tI) (qd.cons (FzW.still tI) qd.nil))))
 ·refine Goes.skip ?_
  obtain⟨r8,e_r8,h⟩:=bnd h
  refine sq (gr fol [1] (kAJ hi lo [(2,.int .u64 y),(8,.int .u64 (IntKind.wrap .u64 r8))]) (ac (cv (qap y e_r8)) az) ?_)
  obtain⟨q9,e_q9,h⟩:=bnd h
  refine sq (gr fol [2] (kAJ hi lo [(2,.int .u64 q9),(8,.int .u64 (IntKind.wrap .u64 r8))]) (ac (hs (.done (.opt (qY Tryz.prog .shl 212 (.tmp 37) (.tmp 38) (.int .u64 y) (.int .u64 (IntKind.wrap .u64 r8)))) (.int .u64 q9)) (qeM e_q9)) az) ?_)
  refine sh fol (kAJ hi lo [(2,.int .u64 q9),(8,.int .u64 (IntKind.wrap .u64 r8)),(9,.int .u64 (qm .u64 q9 32))]) ?_
  refine sh fol (kAJ hi lo (kM q9 (IntKind.wrap .u64 r8) (qm .u64 q9 32) (qy .u64 q9 4294967295) [])) ?_
  obtain⟨q10,e_q10,h⟩:=bnd h
  obtain⟨q11,e_q11,h⟩:=bnd h
  refine sq (gr fol [2,6] ((1,.int .u64 lo)::(kM q9 (IntKind.wrap .u64 r8) (qm .u64 q9 32) (qy .u64 q9 4294967295) [(11,.int .u64 (orI .u64 q10 q11))])) (ac (hs (.done (.opt (qY Tryz.prog .shl 212 (.tmp 44) (.tmp 45) (.int .u64 hi) (.int .u64 (IntKind.wrap .u64 r8)))) (.int .u64 q10)) (qeM e_q10)) (ac (hs (.done (.opt (qY Tryz.prog .shr 212 (.tmp 47) (.tmp 49) (.int .u64 lo) (.int .u64 (IntKind.wrap .u64 (64-(IntKind.wrap .u64 r8)))))) (.int .u64 q11)) (qfX e_q11)) az)) ?_)
  obtain⟨q12,e_q12,h⟩:=bnd h
  refine sq (gr fol [2] (kM q9 (IntKind.wrap .u64 r8) (qm .u64 q9 32) (qy .u64 q9 4294967295) (kAN (orI .u64 q10 q11) q12 [])) (ac (hs (.done (.opt (qY Tryz.prog .shl 212 (.tmp 52) (.tmp 53) (.int .u64 lo) (.int .u64 (IntKind.wrap .u64 r8)))) (.int .u64 q12)) (qeM e_q12)) az) ?_)
  refine sh fol (kM q9 (IntKind.wrap .u64 r8) (qm .u64 q9 32) (qy .u64 q9 4294967295) (kAN (orI .u64 q10 q11) q12 [(13,.int .u64 (qm .u64 q12 32))])) ?_
  refine sh fol (kM q9 (IntKind.wrap .u64 r8) (qm .u64 q9 32) (qy .u64 q9 4294967295) (kAm (orI .u64 q10 q11) (qm .u64 q12 32) [(14,.int .u64 (qy .u64 q12 4294967295))])) ?_
  obtain⟨q13,e_q13,h⟩:=bnd h
  refine sq (gr fol [2] (kM q9 (IntKind.wrap .u64 r8) (qm .u64 q9 32) (qy .u64 q9 4294967295) (kAm (orI .u64 q10 q11) (qm .u64 q12 32) (kBR (qy .u64 q12 4294967295) q13 []))) (ac (hs (.done (.opt (qY Tryz.prog .quo 212 (.tmp 59) (.tmp 60) (.int .u64 (orI .u64 q10 q11)) (.int .u64 (qm .u64 q9 32)))) (.int .u64 q13)) (qbe e_q13)) az) ?_)
  refine sh fol (kM q9 (IntKind.wrap .u64 r8) (qm .u64 q9 32) (qy .u64 q9 4294967295) (kAm (orI .u64 q10 q11) (qm .u64 q12 32) (kX (qy .u64 q12 4294967295) q13 (IntKind.wrap .u64 ((orI .u64 q10 q11)-(IntKind.wrap .u64 (q13*(qm .u64 q9 32))))) []))) ?_
  refine sq (Goes.block ?_)
  obtain⟨r17,g17,h⟩:=bnd h
  refine Goes.imp (Q:=fun x s'=>(x= .exit 0∧ ∃n16,n16=r17∧Sub s' (ofG 135 (kM q9 (IntKind.wrap .u64 r8) (qm .u64 q9 32) (qy .u64 q9 4294967295) (kAm (orI .u64 q10 q11) (qm .u64 q12 32) (kBR (qy .u64 q12 4294967295) n16 []))),[]))) ?_ ?_
  ·refine Goes.loopS (fun M s=> ∃(n14:Int) (n15:Int),s=(ofG 135 (kM q9 (IntKind.wrap .u64 r8) (qm .u64 q9 32) (qy .u64 q9 4294967295) (kAm (orI .u64 q10 q11) (qm .u64 q12 32) (kX (qy .u64 q12 4294967295) n14 n15 []))),[])∧vS q9 q12 M n14 n15=some r17) ?_ (m:=N) ⟨_,_,rfl,g17⟩
   rintro M s ⟨n14,n15,rfl,g17⟩
   cases M with
   |zero=>simp only[vS]at g17;cases g17
   |succ M=>
    rw[vS]at g17
    refine sq ?_
    refine sq ?_
    obtain⟨b19,g_v20,g17⟩:=bnd g17
    refine Goes.cut (s':=(ofG 135 (kM q9 (IntKind.wrap .u64 r8) (qm .u64 q9 32) (qy .u64 q9 4294967295) (kAm (orI .u64 q10 q11) (qm .u64 q12 32) (kX (qy .u64 q12 4294967295) n14 n15 [(78,.bool b19)]))),[])) ?_ ?_
    ·rcases wyD g_v20 with⟨c18,g_v20⟩|⟨c18,g_v20⟩
     ·obtain rfl:=si g_v20
      exact tr fol [2] (kM q9 (IntKind.wrap .u64 r8) (qm .u64 q9 32) (qy .u64 q9 4294967295) (kAm (orI .u64 q10 q11) (qm .u64 q12 32) (kX (qy .u64 q12 4294967295) n14 n15 [(78,.bool true)]))) (ac (gw c18) az)
     ·obtain rfl:=si g_v20
      exact tr fol [2] (kM q9 (IntKind.wrap .u64 r8) (qm .u64 q9 32) (qy .u64 q9 4294967295) (kAm (orI .u64 q10 q11) (qm .u64 q12 32) (kX (qy .u64 q12 4294967295) n14 n15 [(78,.bool (decide ((IntKind.wrap .u64 (n14*(qy .u64 q9 4294967295)))>(IntKind.wrap .u64 ((IntKind.wrap .u64 (4294967296*n15))+(qm .u64 q12 32))))))]))) (ac (gw c18) az)
    refine ihB g17 (fun c21 g17=>?_) (fun c21 g17=>?_)
    ·refine Goes.skip ?_
     refine Goes.block ?_
     refine sh fol (kM q9 (IntKind.wrap .u64 r8) (qm .u64 q9 32) (qy .u64 q9 4294967295) (kAm (orI .u64 q10 q11) (qm .u64 q12 32) (kX (qy .u64 q12 4294967295) (IntKind.wrap .u64 (n14-1)) n15 []))) ?_
     refine sh fol (kM q9 (IntKind.wrap .u64 r8) (qm .u64 q9 32) (qy .u64 q9 4294967295) (kAm (orI .u64 q10 q11) (qm .u64 q12 32) (kX (qy .u64 q12 4294967295) (IntKind.wrap .u64 (n14-1)) (IntKind.wrap .u64 (n15+(qm .u64 q9 32))) []))) ?_
     refine sh fol (kM q9 (IntKind.wrap .u64 r8) (qm .u64 q9 32) (qy .u64 q9 4294967295) (kAm (orI .u64 q10 q11) (qm .u64 q12 32) (kX (qy .u64 q12 4294967295) (IntKind.wrap .u64 (n14-1)) (IntKind.wrap .u64 (n15+(qm .u64 q9 32))) [(85,.bool (decide ((IntKind.wrap .u64 (n15+(qm .u64 q9 32)))≥4294967296)))]))) ?_
     refine ihD g17 (fun c22 g17=>?_) (fun c22 g17=>?_)
     ·refine Goes.exit ?_
      obtain rfl:=si g17
      exact⟨rfl,_,rfl,(Sub.keep [2,8,9,10,11,13,14,15] rfl rfl)⟩
     ·refine Goes.skip ?_
      exact⟨M,(ofG 135 (kM q9 (IntKind.wrap .u64 r8) (qm .u64 q9 32) (qy .u64 q9 4294967295) (kAm (orI .u64 q10 q11) (qm .u64 q12 32) (kX (qy .u64 q12 4294967295) (IntKind.wrap .u64 (n14-1)) (IntKind.wrap .u64 (n15+(qm .u64 q9 32))) []))),[]),Nat.lt_succ_self _,(Sub.keep [2,8,9,10,11,13,14,15,16] rfl rfl),_,_,rfl,g17⟩
    ·refine Goes.exit ?_
     obtain rfl:=si g17
     exact⟨rfl,_,rfl,(Sub.keep [2,8,9,10,11,13,14,15] rfl rfl)⟩
  rintro x s' ⟨rfl,n16,rfl,hsub⟩
  refine Goes.sub hsub ?_
  refine sh fol (kM q9 (IntKind.wrap .u64 r8) (qm .u64 q9 32) (qy .u64 q9 4294967295) (kBR (qy .u64 q12 4294967295) n16 [(17,.int .u64 (IntKind.wrap .u64 ((IntKind.wrap .u64 ((IntKind.wrap .u64 ((orI .u64 q10 q11)*4294967296))+(qm .u64 q12 32)))-(IntKind.wrap .u64 (n16*q9)))))])) ?_
  obtain⟨q23,e_q23,h⟩:=bnd h
  refine sq (gr fol [2] (kM q9 (IntKind.wrap .u64 r8) (qm .u64 q9 32) (qy .u64 q9 4294967295) (kBR (qy .u64 q12 4294967295) n16 (kAq (IntKind.wrap .u64 ((IntKind.wrap .u64 ((IntKind.wrap .u64 ((orI .u64 q10 q11)*4294967296))+(qm .u64 q12 32)))-(IntKind.wrap .u64 (n16*q9)))) q23 []))) (ac (hs (.done (.opt (qY Tryz.prog .quo 212 (.tmp 94) (.tmp 95) (.int .u64 (IntKind.wrap .u64 ((IntKind.wrap .u64 ((IntKind.wrap .u64 ((orI .u64 q10 q11)*4294967296))+(qm .u64 q12 32)))-(IntKind.wrap .u64 (n16*q9))))) (.int .u64 (qm .u64 q9 32)))) (.int .u64 q23)) (qbe e_q23)) az) ?_)
  refine sh fol (kM q9 (IntKind.wrap .u64 r8) (qm .u64 q9 32) (qy .u64 q9 4294967295) (kX (qy .u64 q12 4294967295) n16 (IntKind.wrap .u64 ((IntKind.wrap .u64 ((IntKind.wrap .u64 ((IntKind.wrap .u64 ((orI .u64 q10 q11)*4294967296))+(qm .u64 q12 32)))-(IntKind.wrap .u64 (n16*q9))))-(IntKind.wrap .u64 (q23*(qm .u64 q9 32))))) (kAq (IntKind.wrap .u64 ((IntKind.wrap .u64 ((IntKind.wrap .u64 ((orI .u64 q10 q11)*4294967296))+(qm .u64 q12 32)))-(IntKind.wrap .u64 (n16*q9)))) q23 []))) ?_
  refine sq (Goes.block ?_)
  obtain⟨r27,g27,h⟩:=bnd h
  refine Goes.imp (Q:=fun x s'=>(x= .exit 2∧ ∃n26,n26=r27∧Sub s' (ofG 135 ((2,.int .u64 q9)::(8,.int .u64 (IntKind.wrap .u64 r8))::(kBR (qy .u64 q12 4294967295) n16 (kAq (IntKind.wrap .u64 ((IntKind.wrap .u64 ((IntKind.wrap .u64 ((orI .u64 q10 q11)*4294967296))+(qm .u64 q12 32)))-(IntKind.wrap .u64 (n16*q9)))) n26 []))),[]))) ?_ ?_
  ·refine Goes.loopS (fun M s=> ∃(n24:Int) (n25:Int),s=(ofG 135 (kM q9 (IntKind.wrap .u64 r8) (qm .u64 q9 32) (qy .u64 q9 4294967295) (kX (qy .u64 q12 4294967295) n16 n24 (kAq (IntKind.wrap .u64 ((IntKind.wrap .u64 ((IntKind.wrap .u64 ((orI .u64 q10 q11)*4294967296))+(qm .u64 q12 32)))-(IntKind.wrap .u64 (n16*q9)))) n25 []))),[])∧vV q9 q12 M n24 n25=some r27) ?_ (m:=N) ⟨_,_,rfl,g27⟩
   rintro M s ⟨n24,n25,rfl,g27⟩
   cases M with
   |zero=>simp only[vV]at g27;cases g27
   |succ M=>
    rw[vV]at g27
    refine sq ?_
    refine sq ?_
    obtain⟨b29,g_v30,g27⟩:=bnd g27
    refine Goes.cut (s':=(ofG 135 (kM q9 (IntKind.wrap .u64 r8) (qm .u64 q9 32) (qy .u64 q9 4294967295) (kX (qy .u64 q12 4294967295) n16 n24 (kAq (IntKind.wrap .u64 ((IntKind.wrap .u64 ((IntKind.wrap .u64 ((orI .u64 q10 q11)*4294967296))+(qm .u64 q12 32)))-(IntKind.wrap .u64 (n16*q9)))) n25 [(113,.bool b29)]))),[])) ?_ ?_
    ·rcases wyD g_v30 with⟨c28,g_v30⟩|⟨c28,g_v30⟩
     ·obtain rfl:=si g_v30
      exact tr fol [2] (kM q9 (IntKind.wrap .u64 r8) (qm .u64 q9 32) (qy .u64 q9 4294967295) (kX (qy .u64 q12 4294967295) n16 n24 (kAq (IntKind.wrap .u64 ((IntKind.wrap .u64 ((IntKind.wrap .u64 ((orI .u64 q10 q11)*4294967296))+(qm .u64 q12 32)))-(IntKind.wrap .u64 (n16*q9)))) n25 [(113,.bool true)]))) (ac (gw c28) az)
     ·obtain rfl:=si g_v30
      exact tr fol [2] (kM q9 (IntKind.wrap .u64 r8) (qm .u64 q9 32) (qy .u64 q9 4294967295) (kX (qy .u64 q12 4294967295) n16 n24 (kAq (IntKind.wrap .u64 ((IntKind.wrap .u64 ((IntKind.wrap .u64 ((orI .u64 q10 q11)*4294967296))+(qm .u64 q12 32)))-(IntKind.wrap .u64 (n16*q9)))) n25 [(113,.bool (decide ((IntKind.wrap .u64 (n25*(qy .u64 q9 4294967295)))>(IntKind.wrap .u64 ((IntKind.wrap .u64 (4294967296*n24))+(qy .u64 q12 4294967295))))))]))) (ac (gw c28) az)
    refine ihB g27 (fun c31 g27=>?_) (fun c31 g27=>?_)
    ·refine Goes.skip ?_
     refine Goes.block ?_
     refine sh fol (kM q9 (IntKind.wrap .u64 r8) (qm .u64 q9 32) (qy .u64 q9 4294967295) (kX (qy .u64 q12 4294967295) n16 n24 (kAq (IntKind.wrap .u64 ((IntKind.wrap .u64 ((IntKind.wrap .u64 ((orI .u64 q10 q11)*4294967296))+(qm .u64 q12 32)))-(IntKind.wrap .u64 (n16*q9)))) (IntKind.wrap .u64 (n25-1)) []))) ?_
     refine sh fol (kM q9 (IntKind.wrap .u64 r8) (qm .u64 q9 32) (qy .u64 q9 4294967295) (kX (qy .u64 q12 4294967295) n16 (IntKind.wrap .u64 (n24+(qm .u64 q9 32))) (kAq (IntKind.wrap .u64 ((IntKind.wrap .u64 ((IntKind.wrap .u64 ((orI .u64 q10 q11)*4294967296))+(qm .u64 q12 32)))-(IntKind.wrap .u64 (n16*q9)))) (IntKind.wrap .u64 (n25-1)) []))) ?_
     refine sh fol (kM q9 (IntKind.wrap .u64 r8) (qm .u64 q9 32) (qy .u64 q9 4294967295) (kX (qy .u64 q12 4294967295) n16 (IntKind.wrap .u64 (n24+(qm .u64 q9 32))) (kAq (IntKind.wrap .u64 ((IntKind.wrap .u64 ((IntKind.wrap .u64 ((orI .u64 q10 q11)*4294967296))+(qm .u64 q12 32)))-(IntKind.wrap .u64 (n16*q9)))) (IntKind.wrap .u64 (n25-1)) [(120,.bool (decide ((IntKind.wrap .u64 (n24+(qm .u64 q9 32)))≥4294967296)))]))) ?_
     refine ihD g27 (fun c32 g27=>?_) (fun c32 g27=>?_)
     ·refine Goes.exit ?_
      obtain rfl:=si g27
      exact⟨rfl,_,rfl,(Sub.keep [2,8,14,15,17,18] rfl rfl)⟩
     ·refine Goes.skip ?_
      exact⟨M,(ofG 135 (kM q9 (IntKind.wrap .u64 r8) (qm .u64 q9 32) (qy .u64 q9 4294967295) (kX (qy .u64 q12 4294967295) n16 (IntKind.wrap .u64 (n24+(qm .u64 q9 32))) (kAq (IntKind.wrap .u64 ((IntKind.wrap .u64 ((IntKind.wrap .u64 ((orI .u64 q10 q11)*4294967296))+(qm .u64 q12 32)))-(IntKind.wrap .u64 (n16*q9)))) (IntKind.wrap .u64 (n25-1)) []))),[]),Nat.lt_succ_self _,(Sub.keep [2,8,9,10,14,15,16,17,18] rfl rfl),_,_,rfl,g27⟩
    ·refine Goes.exit ?_
     obtain rfl:=si g27
     exact⟨rfl,_,rfl,(Sub.keep [2,8,14,15,17,18] rfl rfl)⟩
  rintro x s' ⟨rfl,n26,rfl,hsub⟩
  refine Goes.sub hsub ?_
  obtain⟨q33,e_q33,h⟩:=bnd h
  refine sq (gr fol [13] (kAe (IntKind.wrap .u64 ((IntKind.wrap .u64 (n16*4294967296))+n26)) (kAv q33 [])) (ac (hs (.done (.opt (qY Tryz.prog .shr 212 (.tmp 132) (.tmp 133) (.int .u64 (IntKind.wrap .u64 ((IntKind.wrap .u64 ((IntKind.wrap .u64 ((IntKind.wrap .u64 ((IntKind.wrap .u64 ((IntKind.wrap .u64 ((orI .u64 q10 q11)*4294967296))+(qm .u64 q12 32)))-(IntKind.wrap .u64 (n16*q9))))*4294967296))+(qy .u64 q12 4294967295)))-(IntKind.wrap .u64 (n26*q9))))) (.int .u64 (IntKind.wrap .u64 r8)))) (.int .u64 q33)) (qfX e_q33)) az) ?_)
  refine Goes.ret ?_
  obtain rfl:=si h
  exact(gw2 (kB5 (IntKind.wrap .u64 ((IntKind.wrap .u64 (n16*4294967296))+n26)) q33) (FzW.tuple (qd.cons (FzW.still tI) (qd.cons (FzW.still tI) qd.nil))))
def bits_Mul64 (x_:Int) (y:Int):Option (Int×Int):=
 some (IntKind.wrap .u64 ((IntKind.wrap .u64 ((IntKind.wrap .u64 ((qm .u64 x_ 32)*(qm .u64 y 32)))+(qm .u64 (IntKind.wrap .u64 ((IntKind.wrap .u64 ((qm .u64 x_ 32)*(qy .u64 y 4294967295)))+(qm .u64 (IntKind.wrap .u64 ((qy .u64 x_ 4294967295)*(qy .u64 y 4294967295))) 32))) 32)))+(qm .u64 (IntKind.wrap .u64 ((qy .u64 (IntKind.wrap .u64 ((IntKind.wrap .u64 ((qm .u64 x_ 32)*(qy .u64 y 4294967295)))+(qm .u64 (IntKind.wrap .u64 ((qy .u64 x_ 4294967295)*(qy .u64 y 4294967295))) 32))) 4294967295)+(IntKind.wrap .u64 ((qy .u64 x_ 4294967295)*(qm .u64 y 32))))) 32)),IntKind.wrap .u64 (x_*y))
theorem qaS (x_:Int) (y:Int) {res:Int×Int} (h:bits_Mul64 x_ y=some res):qb Tryz.prog (.fn 204) (kB5 x_ y) [] (.tuple (kB5 res.1 res.2)) []:=by
 unfold bits_Mul64 at h
 refine Goes.fnW Tryz.func204 rfl rfl (m:=51) rfl (rs:=[.tmp 4,.tmp 5]) rfl (l:=(kAJ x_ y [])) rfl ?_
 refine sh fol (kAJ x_ y []) ?_
 refine sh fol (kAJ x_ y (kAe (qy .u64 x_ 4294967295) [])) ?_
 refine sh fol (kAJ x_ y (kAe (qy .u64 x_ 4294967295) (kAv (qm .u64 x_ 32) []))) ?_
 refine sh fol (kAJ x_ y (kAe (qy .u64 x_ 4294967295) (kAO (qm .u64 x_ 32) (qy .u64 y 4294967295) []))) ?_
 refine sh fol (kAJ x_ y (kAe (qy .u64 x_ 4294967295) (kAO (qm .u64 x_ 32) (qy .u64 y 4294967295) [(9,.int .u64 (qm .u64 y 32))]))) ?_
 refine sh fol (kAJ x_ y (kAe (qy .u64 x_ 4294967295) (kAO (qm .u64 x_ 32) (qy .u64 y 4294967295) [(9,.int .u64 (qm .u64 y 32)),(10,.int .u64 (IntKind.wrap .u64 ((qy .u64 x_ 4294967295)*(qy .u64 y 4294967295))))]))) ?_
 refine sh fol (kAJ x_ y (kAe (qy .u64 x_ 4294967295) (kAv (qm .u64 x_ 32) [(9,.int .u64 (qm .u64 y 32)),(11,.int .u64 (IntKind.wrap .u64 ((IntKind.wrap .u64 ((qm .u64 x_ 32)*(qy .u64 y 4294967295)))+(qm .u64 (IntKind.wrap .u64 ((qy .u64 x_ 4294967295)*(qy .u64 y 4294967295))) 32))))]))) ?_
 refine sh fol (kAJ x_ y (kAe (qy .u64 x_ 4294967295) (kAv (qm .u64 x_ 32) ((9,.int .u64 (qm .u64 y 32))::(kAN (IntKind.wrap .u64 ((IntKind.wrap .u64 ((qm .u64 x_ 32)*(qy .u64 y 4294967295)))+(qm .u64 (IntKind.wrap .u64 ((qy .u64 x_ 4294967295)*(qy .u64 y 4294967295))) 32))) (qy .u64 (IntKind.wrap .u64 ((IntKind.wrap .u64 ((qm .u64 x_ 32)*(qy .u64 y 4294967295)))+(qm .u64 (IntKind.wrap .u64 ((qy .u64 x_ 4294967295)*(qy .u64 y 4294967295))) 32))) 4294967295) []))))) ?_
 refine sh fol (kAJ x_ y (kAe (qy .u64 x_ 4294967295) (kAv (qm .u64 x_ 32) [(9,.int .u64 (qm .u64 y 32)),(12,.int .u64 (qy .u64 (IntKind.wrap .u64 ((IntKind.wrap .u64 ((qm .u64 x_ 32)*(qy .u64 y 4294967295)))+(qm .u64 (IntKind.wrap .u64 ((qy .u64 x_ 4294967295)*(qy .u64 y 4294967295))) 32))) 4294967295)),(13,.int .u64 (qm .u64 (IntKind.wrap .u64 ((IntKind.wrap .u64 ((qm .u64 x_ 32)*(qy .u64 y 4294967295)))+(qm .u64 (IntKind.wrap .u64 ((qy .u64 x_ 4294967295)*(qy .u64 y 4294967295))) 32))) 32))]))) ?_
 refine sh fol (kAJ x_ y (kAv (qm .u64 x_ 32) [(9,.int .u64 (qm .u64 y 32)),(12,.int .u64 (IntKind.wrap .u64 ((qy .u64 (IntKind.wrap .u64 ((IntKind.wrap .u64 ((qm .u64 x_ 32)*(qy .u64 y 4294967295)))+(qm .u64 (IntKind.wrap .u64 ((qy .u64 x_ 4294967295)*(qy .u64 y 4294967295))) 32))) 4294967295)+(IntKind.wrap .u64 ((qy .u64 x_ 4294967295)*(qm .u64 y 32)))))),(13,.int .u64 (qm .u64 (IntKind.wrap .u64 ((IntKind.wrap .u64 ((qm .u64 x_ 32)*(qy .u64 y 4294967295)))+(qm .u64 (IntKind.wrap .u64 ((qy .u64 x_ 4294967295)*(qy .u64 y 4294967295))) 32))) 32))])) ?_
 refine sh fol (kAJ x_ y [(4,.int .u64 (IntKind.wrap .u64 ((IntKind.wrap .u64 ((IntKind.wrap .u64 ((qm .u64 x_ 32)*(qm .u64 y 32)))+(qm .u64 (IntKind.wrap .u64 ((IntKind.wrap .u64 ((qm .u64 x_ 32)*(qy .u64 y 4294967295)))+(qm .u64 (IntKind.wrap .u64 ((qy .u64 x_ 4294967295)*(qy .u64 y 4294967295))) 32))) 32)))+(qm .u64 (IntKind.wrap .u64 ((qy .u64 (IntKind.wrap .u64 ((IntKind.wrap .u64 ((qm .u64 x_ 32)*(qy .u64 y 4294967295)))+(qm .u64 (IntKind.wrap .u64 ((qy .u64 x_ 4294967295)*(qy .u64 y 4294967295))) 32))) 4294967295)+(IntKind.wrap .u64 ((qy .u64 x_ 4294967295)*(qm .u64 y 32))))) 32))))]) ?_
 refine sh fol [(4,.int .u64 (IntKind.wrap .u64 ((IntKind.wrap .u64 ((IntKind.wrap .u64 ((qm .u64 x_ 32)*(qm .u64 y 32)))+(qm .u64 (IntKind.wrap .u64 ((IntKind.wrap .u64 ((qm .u64 x_ 32)*(qy .u64 y 4294967295)))+(qm .u64 (IntKind.wrap .u64 ((qy .u64 x_ 4294967295)*(qy .u64 y 4294967295))) 32))) 32)))+(qm .u64 (IntKind.wrap .u64 ((qy .u64 (IntKind.wrap .u64 ((IntKind.wrap .u64 ((qm .u64 x_ 32)*(qy .u64 y 4294967295)))+(qm .u64 (IntKind.wrap .u64 ((qy .u64 x_ 4294967295)*(qy .u64 y 4294967295))) 32))) 4294967295)+(IntKind.wrap .u64 ((qy .u64 x_ 4294967295)*(qm .u64 y 32))))) 32)))),(5,.int .u64 (IntKind.wrap .u64 (x_*y)))] ?_
 refine Goes.ret ?_
 obtain rfl:=si h
 exact(gw2 (kB5 (IntKind.wrap .u64 ((IntKind.wrap .u64 ((IntKind.wrap .u64 ((qm .u64 x_ 32)*(qm .u64 y 32)))+(qm .u64 (IntKind.wrap .u64 ((IntKind.wrap .u64 ((qm .u64 x_ 32)*(qy .u64 y 4294967295)))+(qm .u64 (IntKind.wrap .u64 ((qy .u64 x_ 4294967295)*(qy .u64 y 4294967295))) 32))) 32)))+(qm .u64 (IntKind.wrap .u64 ((qy .u64 (IntKind.wrap .u64 ((IntKind.wrap .u64 ((qm .u64 x_ 32)*(qy .u64 y 4294967295)))+(qm .u64 (IntKind.wrap .u64 ((qy .u64 x_ 4294967295)*(qy .u64 y 4294967295))) 32))) 4294967295)+(IntKind.wrap .u64 ((qy .u64 x_ 4294967295)*(qm .u64 y 32))))) 32))) (IntKind.wrap .u64 (x_*y))) (FzW.tuple (qd.cons (FzW.still tI) (qd.cons (FzW.still tI) qd.nil))))
def zt (a0_:List Int) (a1_:Int):Nat→(List Int)→Int→Option (List Int)
 |0,_,_=>none
 |K+1,l3,n4=>
  if n4<(a0_.length:Int)then
  (((idx a0_ n4).bind fun x10=>
  (idx l3 n4).bind fun x11=>
  (qgP .u64 x10 a1_).bind fun q12=>
  (put l3 n4 (orI .u64 x11 q12)).bind fun l13=>
  if a1_>0 then
  (qjK .u64 x10 (w64 (64-a1_))).bind fun q15=>
  (idx l13 (w64 (n4+1))).bind fun x16=>
  (put l13 (w64 (n4+1)) q15).bind fun l17=>
  some l17
  else
  some l13:Option (List Int))).bind fun l8=>
  zt a0_ a1_ K l8 (w64 (n4+1))
  else
  some l3
def yg (N:Nat) (a0_:List Int) (a1_:Int):Option (List Int):=
 (mk 8 (w64 ((a0_.length:Int)+1)) 0).bind fun l2=>
 (zt a0_ a1_ N l2 0).bind fun l5=>
 some l5
theorem qbW (N:Nat) (a0_:List Int) (a1_:Int) {l1:List Int} (h:yg N a0_ a1_=some l1):qb Tryz.prog (.fn 242) [vl (qa .u64) a0_,.i a1_] [] (.slice 0 0 l1.length l1.length 1) [.cells (l1.flatMap (qa .u64).c)]:=by
 unfold yg at h
 refine Goes.fnH Tryz.func242 rfl rfl (m:=40) rfl (rs:=[.tmp 4]) rfl (l:=[(0,vl (qa .u64) a0_),(1,.i a1_)]) rfl ?_
 intro B hB
 refine sh fol [(0,vl (qa .u64) a0_),(1,.i a1_)] ?_
 obtain⟨l2,e_l2,h⟩:=bnd h
 refine sq (gq fol [3] ((0,vl (qa .u64) a0_)::(1,.i a1_)::(kG l2 [])) [.cells (l2.flatMap (qa .u64).c)] (ac (hs (.run [] (zP Tryz.prog 104 (.i (w64 ((a0_.length:Int)+1))) (.i (w64 ((a0_.length:Int)+1)))) [] (.slice 0 0 l2.length l2.length 1) [.cells (l2.flatMap (qa .u64).c)] false) (qcI qI (E:=(qa .u64)) (z:=0) rfl (by kernel_rfl) e_l2 rfl)) az) ?_)
 refine sq ?_
 refine sh fol ((1,.i a1_)::(kG l2 [(12,vl (qa .u64) a0_),(13,.i (a0_.length:Int)),(14,.i 0)])) ?_
 refine Goes.block ?_
 obtain⟨r6,g6,h⟩:=bnd h
 refine Goes.imp (Q:=fun x s'=>(x= .exit 0∧ ∃l5,l5=r6∧Sub s' (ofG 40 (kG l5 []),[.cells (l5.flatMap (qa .u64).c)]))) ?_ ?_
 ·refine Goes.loopS (fun M s=> ∃(l3:List Int) (n4:Int),s=(ofG 40 ((1,.i a1_)::(kG l3 ((12,vl (qa .u64) a0_)::(kAg (a0_.length:Int) n4)))),[.cells (l3.flatMap (qa .u64).c)])∧zt a0_ a1_ M l3 n4=some r6) ?_ (m:=N) ⟨_,_,rfl,g6⟩
  rintro M s ⟨l3,n4,rfl,g6⟩
  cases M with
  |zero=>simp only[zt]at g6;cases g6
  |succ M=>
   rw[zt]at g6
   refine sh fol ((1,.i a1_)::(kG l3 ((12,vl (qa .u64) a0_)::(13,.i (a0_.length:Int))::(14,.i n4)::(kBa (decide (n4<(a0_.length:Int))))))) ?_
   refine sq ?_
   refine ihD g6 (fun c7 g6=>?_) (fun c7 g6=>?_)
   ·refine Goes.skip ?_
    refine sq ?_
    obtain⟨r9,g9,g6⟩:=bnd g6
    refine Goes.imp (Q:=fun x s'=>(x= .normal∧ ∃l8,l8=r9∧Sub s' (ofG 40 ((1,.i a1_)::(kG l8 ((12,vl (qa .u64) a0_)::(kAg (a0_.length:Int) n4)))),[.cells (l8.flatMap (qa .u64).c)]))) ?_ ?_
    ·refine Goes.block ?_
     obtain⟨x10,e_x10,g9⟩:=bnd g9
     refine sq (gr fol [1,2] ((1,.i a1_)::(kG l3 ((6,.i n4)::(kAv x10 ((12,vl (qa .u64) a0_)::(kAg (a0_.length:Int) n4)))))) (ac (iv qI (qa .u64) e_x10) (ac (lv 0 zu (qa .u64) e_x10 rfl) az)) ?_)
     obtain⟨x11,e_x11,g9⟩:=bnd g9
     obtain⟨q12,e_q12,g9⟩:=bnd g9
     obtain⟨l13,e_l13,g9⟩:=bnd g9
     refine sq (gq fol [2,3,6,8,9] ((1,.i a1_)::(kG l3 ((6,.i n4)::(kAv x10 ((12,vl (qa .u64) a0_)::(kAg (a0_.length:Int) n4)))))) [.cells (l13.flatMap (qa .u64).c)] (ac (hs (.done (.opt (qf Tryz.prog 104 (.slice 0 0 l3.length l3.length 1) (.i n4))) (.ptr 0 ((n4:Int).toNat*1+0))) (xP qI e_x11)) (ac (hs (.run [0] (zJ Tryz.prog 212 (.ptr 0 ((n4:Int).toNat*1+0))) [.cells (l3.flatMap (qa .u64).c)] (.int .u64 x11) [.cells (l3.flatMap (qa .u64).c)] false) (qbT zu (E:=(qa .u64)) (l:=l3) rfl rfl e_x11 (nl rfl) rfl)) (ac (hs (.done (.opt (qY Tryz.prog .shl 212 (.tmp 23) (.tmp 24) (.int .u64 x10) (.i a1_))) (.int .u64 q12)) (qeM e_q12)) (ac (hs (.done (.opt (qf Tryz.prog 104 (.slice 0 0 l3.length l3.length 1) (.i n4))) (.ptr 0 ((n4:Int).toNat*1+0))) (xP qI e_x11)) (ac (hs (.run [0] (qp Tryz.prog 212 (.ptr 0 ((n4:Int).toNat*1+0)) (.int .u64 (orI .u64 x11 q12))) [.cells (l3.flatMap (qa .u64).c)] .undef [.cells (l13.flatMap (qa .u64).c)] true) (xu (E:=(qa .u64)) (l:=l3) (y:=orI .u64 x11 q12) rfl (show _=some 1 by kernel_rfl) rfl e_x11 rfl rfl rfl rfl rfl e_l13 rfl)) az))))) ?_)
     refine Goes.sub (show Sub (ofG 40 ((1,.i a1_)::(kG l3 ((6,.i n4)::(kAv x10 ((12,vl (qa .u64) a0_)::(kAg (a0_.length:Int) n4)))))),[.cells (l13.flatMap (qa .u64).c)]) (ofG 40 ((1,.i a1_)::(kG l13 ((6,.i n4)::(kAv x10 ((12,vl (qa .u64) a0_)::(kAg (a0_.length:Int) n4)))))),[.cells (l13.flatMap (qa .u64).c)])from(Sub.norm [] [some 0] (by rw[hB];rfl) rfl (.keep (.same nI) (.keep (.sliceE rfl (jP e_l13)) (.keep (.same nI) (.keep (.same nI) (.keep (.same (qg (qa .u64) _)) (.keep (.same nI) (.keep (.same nI) .nil))))))) (.ks .nil))) ?_
     refine sh fol ((1,.i a1_)::(kG l13 ((6,.i n4)::(kAv x10 [(12,vl (qa .u64) a0_),(13,.i (a0_.length:Int)),(14,.i n4),(29,.bool (decide (a1_>0)))])))) ?_
     refine ihD g9 (fun c14 g9=>?_) (fun c14 g9=>?_)
     ·obtain⟨q15,e_q15,g9⟩:=bnd g9
      obtain⟨x16,e_x16,g9⟩:=bnd g9
      obtain⟨l17,e_l17,g9⟩:=bnd g9
      refine gq fol [6,7,8] ((1,.i a1_)::(kG l13 ((12,vl (qa .u64) a0_)::(kAg (a0_.length:Int) n4)))) [.cells (l17.flatMap (qa .u64).c)] (ac (hs (.done (.opt (qY Tryz.prog .shr 212 (.tmp 33) (.tmp 35) (.int .u64 x10) (.i (w64 (64-a1_))))) (.int .u64 q15)) (qfX e_q15)) (ac (hs (.done (.opt (qf Tryz.prog 104 (.slice 0 0 l13.length l13.length 1) (.i (w64 (n4+1))))) (.ptr 0 ((w64 (n4+1):Int).toNat*1+0))) (xP qI e_x16)) (ac (hs (.run [0] (qp Tryz.prog 212 (.ptr 0 ((w64 (n4+1):Int).toNat*1+0)) (.int .u64 q15)) [.cells (l13.flatMap (qa .u64).c)] .undef [.cells (l17.flatMap (qa .u64).c)] true) (xu (E:=(qa .u64)) (l:=l13) (y:=q15) rfl (show _=some 1 by kernel_rfl) rfl e_x16 rfl rfl rfl rfl rfl e_l17 rfl)) az))) ?_
      obtain rfl:=si g9
      exact⟨rfl,_,rfl,((show Sub (ofG 40 ((1,.i a1_)::(kG l13 ((12,vl (qa .u64) a0_)::(kAg (a0_.length:Int) n4)))),[.cells (l17.flatMap (qa .u64).c)]) (ofG 40 ((1,.i a1_)::(kG l17 ((12,vl (qa .u64) a0_)::(kAg (a0_.length:Int) n4)))),[.cells (l17.flatMap (qa .u64).c)])from(Sub.norm [] [some 0] (by rw[hB];rfl) rfl (.keep (.same nI) (.keep (.sliceE rfl (jP e_l17)) (.keep (.same (qg (qa .u64) _)) (.keep (.same nI) (.keep (.same nI) .nil))))) (.ks .nil))).trans (Sub.refl _))⟩
     ·refine Goes.skip ?_
      obtain rfl:=si g9
      exact⟨rfl,_,rfl,(Sub.keep [1,5,12,13,14] rfl rfl)⟩
    rintro x s' ⟨rfl,l8,rfl,hsub⟩
    refine Goes.sub hsub ?_
    refine gh fol ((1,.i a1_)::(kG l8 ((12,vl (qa .u64) a0_)::(kAg (a0_.length:Int) (w64 (n4+1)))))) ?_
    exact⟨M,(ofG 40 ((1,.i a1_)::(kG l8 ((12,vl (qa .u64) a0_)::(kAg (a0_.length:Int) (w64 (n4+1)))))),[.cells (l8.flatMap (qa .u64).c)]),Nat.lt_succ_self _,(Sub.refl _),_,_,rfl,g6⟩
   ·refine Goes.exit ?_
    obtain rfl:=si g6
    exact⟨rfl,_,rfl,(Sub.keep [5] rfl rfl)⟩
 rintro x s' ⟨rfl,l5,rfl,hsub⟩
 refine Goes.sub hsub ?_
 refine sh fol [(4,.slice 0 0 l5.length l5.length 1)] ?_
 refine Goes.ret ?_
 obtain rfl:=si h
 exact(gh2 [.slice 0 0 l5.length l5.length 1] (qeK.refl _ _))
def vg (a0_:List Int) (a1_:Nat) (a2_:Nat) (a4_:List Int):Nat→Int→Int→Int→Option Int
 |0,_,_,_=>none
 |K+1,n15,n16,n17=>
  if n17=0 then
  (idx a4_ (w64 ((a4_.length:Int)-2))).bind fun x21=>
  (bits_Mul64 n15 x21).bind fun r22=>
  (if r22.1<n16 then
  some true
  else
  if r22.1=n16 then
  (qeR a0_ a1_ a2_ (w64 ((a4_.length:Int)-2))).bind fun x25=>
  some (decide (r22.2≤x25))
  else
  some false:Option Bool).bind fun b26=>
  if b26=true then
  some n15
  else
  (idx a4_ (w64 ((a4_.length:Int)-1))).bind fun x29=>
  (y7 n16 x29 0).bind fun r30=>
  vg a0_ a1_ a2_ a4_ K (IntKind.wrap .u64 (n15-1)) r30.1 r30.2
  else
  some n15
def jA (a1_:Nat) (a2_:Nat) (a4_:List Int) (n18:Int):Nat→(List Int)→Int→Int→Int→Option ((List Int)×Int×Int)
 |0,_,_,_,_=>none
 |K+1,l31,n32,n33,n34=>
  if n32<(a4_.length:Int)then
  (idx a4_ n32).bind fun x40=>
  (bits_Mul64 n18 x40).bind fun r41=>
  (y7 r41.2 n34 0).bind fun r42=>
  (qeR l31 a1_ a2_ n32).bind fun x43=>
  (qdo x43 r42.1 n33).bind fun r44=>
  (put l31 ((a1_+(n32:Int).toNat:Nat):Int) r44.1).bind fun l46=>
  jA a1_ a2_ a4_ n18 K l46 (w64 (n32+1)) r44.2 (IntKind.wrap .u64 (r41.1+r42.2))
  else
  some (l31,n33,n34)
def jF (a1_:Nat) (a2_:Nat) (a4_:List Int):Nat→(List Int)→Int→Int→Option ((List Int)×Int)
 |0,_,_,_=>none
 |K+1,l52,n53,n54=>
  if n53<(a4_.length:Int)then
  (qeR l52 a1_ a2_ n53).bind fun x59=>
  (idx a4_ n53).bind fun x60=>
  (y7 x59 x60 n54).bind fun r61=>
  (put l52 ((a1_+(n53:Int).toNat:Nat):Int) r61.1).bind fun l63=>
  jF a1_ a2_ a4_ K l63 (w64 (n53+1)) r61.2
  else
  some (l52,n54)
def qa7 (N:Nat) (a0_:List Int) (a1_:Nat) (a2_:Nat) (a3_:Nat) (a4_:List Int):Option ((List Int)×Int):=
 (qeR a0_ a1_ a2_ (a4_.length:Int)).bind fun x3=>
 (idx a4_ (w64 ((a4_.length:Int)-1))).bind fun x4=>
 ((if x3≥x4 then
 (qeR a0_ a1_ a2_ (w64 ((a4_.length:Int)-1))).bind fun x10=>
 (y7 x10 x4 0).bind fun r11=>
 some (18446744073709551615,r11.1,r11.2)
 else
 (qeR a0_ a1_ a2_ (w64 ((a4_.length:Int)-1))).bind fun x13=>
 (qad N x3 x13 x4).bind fun r14=>
 some (r14.1,r14.2,0):Option (Int×Int×Int))).bind fun(n5,n6,n7)=>
 (vg a0_ a1_ a2_ a4_ N n5 n6 n7).bind fun n18=>
 (jA a1_ a2_ a4_ n18 N a0_ 0 0 0).bind fun(l35,n36,n37)=>
 (qeR l35 a1_ a2_ (a4_.length:Int)).bind fun x47=>
 (qdo x47 n37 n36).bind fun r48=>
 (put l35 ((a1_+((a4_.length:Int):Int).toNat:Nat):Int) r48.1).bind fun l50=>
 if r48.2=0 then
 some (l50,n18)
 else
 (jF a1_ a2_ a4_ N l50 0 0).bind fun(l55,n56)=>
 (qeR l55 a1_ a2_ (a4_.length:Int)).bind fun x64=>
 (put l55 ((a1_+((a4_.length:Int):Int).toNat:Nat):Int) (IntKind.wrap .u64 (x64+n56))).bind fun l66=>
 some (l66,IntKind.wrap .u64 (n18-1))
theorem qgW (N:Nat) (a0_:List Int) (a1_:Nat) (a2_:Nat) (a3_:Nat) (a4_:List Int) {l1:List Int} {n2:Int} (h:qa7 N a0_ a1_ a2_ a3_ a4_=some (l1,n2)):qb Tryz.prog (.fn 243) [.slice 0 a1_ a2_ a3_ 1,vl (qa .u64) a4_] [.cells (a0_.flatMap (qa .u64).c)] (.int .u64 n2) [.cells (l1.flatMap (qa .u64).c)]:=by
 unfold qa7 at h
 refine Goes.fnH Tryz.func243 rfl rfl (m:=186) rfl (rs:=[.tmp 4]) rfl (l:=[(0,.slice 0 a1_ a2_ a3_ 1),(1,vl (qa .u64) a4_)]) rfl ?_
 intro B hB
 refine sh fol [(0,.slice 0 a1_ a2_ a3_ 1),(1,vl (qa .u64) a4_)] ?_
 refine sh fol ((0,.slice 0 a1_ a2_ a3_ 1)::(1,vl (qa .u64) a4_)::(kA5 (a4_.length:Int))) ?_
 refine sh fol ((0,.slice 0 a1_ a2_ a3_ 1)::(1,vl (qa .u64) a4_)::(kA5 (a4_.length:Int))) ?_
 refine sh fol ((0,.slice 0 a1_ a2_ a3_ 1)::(1,vl (qa .u64) a4_)::(5,.i (a4_.length:Int))::(kB8 [])) ?_
 refine sq ?_
 obtain⟨x3,e_x3,h⟩:=bnd h
 obtain⟨x4,e_x4,h⟩:=bnd h
 refine sq (gr fol [2,3,7,8] ((0,.slice 0 a1_ a2_ a3_ 1)::(1,vl (qa .u64) a4_)::(5,.i (a4_.length:Int))::(kB8 [(30,.bool (decide (x3≥x4)))])) (ac (hs (.done (.opt (qf Tryz.prog 104 (.slice 0 a1_ a2_ a3_ 1) (.i (a4_.length:Int)))) (.ptr 0 ((((a1_+((a4_.length:Int):Int).toNat:Nat):Int):Int).toNat*1+0))) (qcl qI e_x3)) (ac (hs (.run [0] (zJ Tryz.prog 212 (.ptr 0 ((((a1_+((a4_.length:Int):Int).toNat:Nat):Int):Int).toNat*1+0))) [.cells (a0_.flatMap (qa .u64).c)] (.int .u64 x3) [.cells (a0_.flatMap (qa .u64).c)] false) (qbT zu (E:=(qa .u64)) (l:=a0_) rfl rfl (wI e_x3) (nl rfl) rfl)) (ac (iv qI (qa .u64) e_x4) (ac (lv 0 zu (qa .u64) e_x4 rfl) az)))) ?_)
 obtain⟨r8,g8,h⟩:=bnd h
 refine Goes.imp (Q:=fun x s'=>(x= .normal∧ ∃n5 n6 n7,(n5,n6,n7)=r8∧Sub s' (ofG 186 ((0,.slice 0 a1_ a2_ a3_ 1)::(1,vl (qa .u64) a4_)::(kZ (a4_.length:Int) n5 (kAO n6 n7 []))),[.cells (a0_.flatMap (qa .u64).c)]))) ?_ ?_
 ·refine ihD g8 (fun c9 g8=>?_) (fun c9 g8=>?_)
  ·refine sh fol [(0,.slice 0 a1_ a2_ a3_ 1),(1,vl (qa .u64) a4_),(5,.i (a4_.length:Int)),(6,.int .u64 18446744073709551615)] ?_
   obtain⟨x10,e_x10,g8⟩:=bnd g8
   obtain⟨r11,e_r11,g8⟩:=bnd g8
   refine gr fol [3,4,8,9,10] ((0,.slice 0 a1_ a2_ a3_ 1)::(1,vl (qa .u64) a4_)::(5,.i (a4_.length:Int))::(6,.int .u64 18446744073709551615)::(kAO r11.1 r11.2 [])) (ac (hs (.done (.opt (qf Tryz.prog 104 (.slice 0 a1_ a2_ a3_ 1) (.i (w64 ((a4_.length:Int)-1))))) (.ptr 0 ((((a1_+(w64 ((a4_.length:Int)-1):Int).toNat:Nat):Int):Int).toNat*1+0))) (qcl qI e_x10)) (ac (hs (.run [0] (zJ Tryz.prog 212 (.ptr 0 ((((a1_+(w64 ((a4_.length:Int)-1):Int).toNat:Nat):Int):Int).toNat*1+0))) [.cells (a0_.flatMap (qa .u64).c)] (.int .u64 x10) [.cells (a0_.flatMap (qa .u64).c)] false) (qbT zu (E:=(qa .u64)) (l:=a0_) rfl rfl (wI e_x10) (nl rfl) rfl)) (ac (iv qI (qa .u64) e_x4) (ac (lv 0 zu (qa .u64) e_x4 rfl) (ac (cv (qbB x10 x4 0 e_r11)) az))))) ?_
   obtain rfl:=si g8
   exact⟨rfl,_,_,_,rfl,(Sub.refl _)⟩
  ·obtain⟨x13,e_x13,g8⟩:=bnd g8
   obtain⟨r14,e_r14,g8⟩:=bnd g8
   refine gr fol [2,3,7,8,12,13,14] ((0,.slice 0 a1_ a2_ a3_ 1)::(1,vl (qa .u64) a4_)::(kZ (a4_.length:Int) r14.1 (kAv r14.2 (kB8 [])))) (ac (hs (.done (.opt (qf Tryz.prog 104 (.slice 0 a1_ a2_ a3_ 1) (.i (a4_.length:Int)))) (.ptr 0 ((((a1_+((a4_.length:Int):Int).toNat:Nat):Int):Int).toNat*1+0))) (qcl qI e_x3)) (ac (hs (.run [0] (zJ Tryz.prog 212 (.ptr 0 ((((a1_+((a4_.length:Int):Int).toNat:Nat):Int):Int).toNat*1+0))) [.cells (a0_.flatMap (qa .u64).c)] (.int .u64 x3) [.cells (a0_.flatMap (qa .u64).c)] false) (qbT zu (E:=(qa .u64)) (l:=a0_) rfl rfl (wI e_x3) (nl rfl) rfl)) (ac (hs (.done (.opt (qf Tryz.prog 104 (.slice 0 a1_ a2_ a3_ 1) (.i (w64 ((a4_.length:Int)-1))))) (.ptr 0 ((((a1_+(w64 ((a4_.length:Int)-1):Int).toNat:Nat):Int):Int).toNat*1+0))) (qcl qI e_x13)) (ac (hs (.run [0] (zJ Tryz.prog 212 (.ptr 0 ((((a1_+(w64 ((a4_.length:Int)-1):Int).toNat:Nat):Int):Int).toNat*1+0))) [.cells (a0_.flatMap (qa .u64).c)] (.int .u64 x13) [.cells (a0_.flatMap (qa .u64).c)] false) (qbT zu (E:=(qa .u64)) (l:=a0_) rfl rfl (wI e_x13) (nl rfl) rfl)) (ac (iv qI (qa .u64) e_x4) (ac (lv 0 zu (qa .u64) e_x4 rfl) (ac (cv (qef N x3 x13 x4 e_r14)) az))))))) ?_
   obtain rfl:=si g8
   exact⟨rfl,_,_,_,rfl,(Sub.refl _)⟩
 rintro x s' ⟨rfl,n5,n6,n7,rfl,hsub⟩
 try dsimp only at h
 refine Goes.sub hsub ?_
 refine sq (Goes.block ?_)
 obtain⟨r19,g19,h⟩:=bnd h
 refine Goes.imp (Q:=fun x s'=>(x= .exit 0∧ ∃n18,n18=r19∧Sub s' (ofG 186 ((0,.slice 0 a1_ a2_ a3_ 1)::(1,vl (qa .u64) a4_)::(kZ (a4_.length:Int) n18 [])),[.cells (a0_.flatMap (qa .u64).c)]))) ?_ ?_
 ·refine Goes.loopS (fun M s=> ∃(n15:Int) (n16:Int) (n17:Int),s=(ofG 186 ((0,.slice 0 a1_ a2_ a3_ 1)::(1,vl (qa .u64) a4_)::(kZ (a4_.length:Int) n15 (kAO n16 n17 []))),[.cells (a0_.flatMap (qa .u64).c)])∧vg a0_ a1_ a2_ a4_ M n15 n16 n17=some r19) ?_ (m:=N) ⟨_,_,_,rfl,g19⟩
  rintro M s ⟨n15,n16,n17,rfl,g19⟩
  cases M with
  |zero=>simp only[vg]at g19;cases g19
  |succ M=>
   rw[vg]at g19
   refine sq ?_
   refine sh fol ((0,.slice 0 a1_ a2_ a3_ 1)::(1,vl (qa .u64) a4_)::(kZ (a4_.length:Int) n15 (kAv n16 [(64,.bool (decide (n17=0)))]))) ?_
   refine ihD g19 (fun c20 g19=>?_) (fun c20 g19=>?_)
   ·refine Goes.skip ?_
    refine Goes.block ?_
    obtain⟨x21,e_x21,g19⟩:=bnd g19
    obtain⟨r22,e_r22,g19⟩:=bnd g19
    refine sq (gr fol [4,5,6] ((0,.slice 0 a1_ a2_ a3_ 1)::(1,vl (qa .u64) a4_)::(kZ (a4_.length:Int) n15 (kAv n16 [(9,.int .u64 r22.1),(10,.int .u64 r22.2)]))) (ac (iv qI (qa .u64) e_x21) (ac (lv 0 zu (qa .u64) e_x21 rfl) (ac (cv (qaS n15 x21 e_r22)) az))) ?_)
    refine sq ?_
    refine sq ?_
    obtain⟨b26,g_v27,g19⟩:=bnd g19
    refine Goes.cut (s':=(ofG 186 ((0,.slice 0 a1_ a2_ a3_ 1)::(1,vl (qa .u64) a4_)::(kZ (a4_.length:Int) n15 (kAv n16 [(91,.bool b26)]))),[.cells (a0_.flatMap (qa .u64).c)])) ?_ ?_
    ·rcases wyD g_v27 with⟨c23,g_v27⟩|⟨c23,g_v27⟩
     ·obtain rfl:=si g_v27
      exact tr fol [3] ((0,.slice 0 a1_ a2_ a3_ 1)::(1,vl (qa .u64) a4_)::(kZ (a4_.length:Int) n15 (kAv n16 [(91,.bool true)]))) (ac (gw c23) az)
     ·rcases wyD g_v27 with⟨c24,g_v27⟩|⟨c24,g_v27⟩
      ·obtain⟨x25,e_x25,g_v27⟩:=bnd g_v27
       obtain rfl:=si g_v27
       exact tr fol [3,7,12,13] ((0,.slice 0 a1_ a2_ a3_ 1)::(1,vl (qa .u64) a4_)::(kZ (a4_.length:Int) n15 (kAv n16 [(91,.bool (decide (r22.2≤x25)))]))) (ac (gw c23) (ac (gw c24) (ac (hs (.done (.opt (qf Tryz.prog 104 (.slice 0 a1_ a2_ a3_ 1) (.i (w64 ((a4_.length:Int)-2))))) (.ptr 0 ((((a1_+(w64 ((a4_.length:Int)-2):Int).toNat:Nat):Int):Int).toNat*1+0))) (qcl qI e_x25)) (ac (hs (.run [0] (zJ Tryz.prog 212 (.ptr 0 ((((a1_+(w64 ((a4_.length:Int)-2):Int).toNat:Nat):Int):Int).toNat*1+0))) [.cells (a0_.flatMap (qa .u64).c)] (.int .u64 x25) [.cells (a0_.flatMap (qa .u64).c)] false) (qbT zu (E:=(qa .u64)) (l:=a0_) rfl rfl (wI e_x25) (nl rfl) rfl)) az))))
      ·obtain rfl:=si g_v27
       exact tr fol [3,7] ((0,.slice 0 a1_ a2_ a3_ 1)::(1,vl (qa .u64) a4_)::(kZ (a4_.length:Int) n15 (kAv n16 [(91,.bool false)]))) (ac (gw c23) (ac (gw c24) az))
    refine ihB g19 (fun c28 g19=>?_) (fun c28 g19=>?_)
    ·refine Goes.exit ?_
     obtain rfl:=si g19
     exact⟨rfl,_,rfl,(Sub.keep [0,1,5,6] rfl rfl)⟩
    ·refine Goes.skip ?_
     refine sh fol ((0,.slice 0 a1_ a2_ a3_ 1)::(1,vl (qa .u64) a4_)::(kZ (a4_.length:Int) (IntKind.wrap .u64 (n15-1)) (kAv n16 []))) ?_
     obtain⟨x29,e_x29,g19⟩:=bnd g19
     obtain⟨r30,e_r30,g19⟩:=bnd g19
     refine gr fol [4,5,6] ((0,.slice 0 a1_ a2_ a3_ 1)::(1,vl (qa .u64) a4_)::(kZ (a4_.length:Int) (IntKind.wrap .u64 (n15-1)) (kAO r30.1 r30.2 []))) (ac (iv qI (qa .u64) e_x29) (ac (lv 0 zu (qa .u64) e_x29 rfl) (ac (cv (qbB n16 x29 0 e_r30)) az))) ?_
     exact⟨M,(ofG 186 ((0,.slice 0 a1_ a2_ a3_ 1)::(1,vl (qa .u64) a4_)::(kZ (a4_.length:Int) (IntKind.wrap .u64 (n15-1)) (kAO r30.1 r30.2 []))),[.cells (a0_.flatMap (qa .u64).c)]),Nat.lt_succ_self _,(Sub.refl _),_,_,_,rfl,g19⟩
   ·refine Goes.exit ?_
    obtain rfl:=si g19
    exact⟨rfl,_,rfl,(Sub.keep [0,1,5,6] rfl rfl)⟩
 rintro x s' ⟨rfl,n18,rfl,hsub⟩
 refine Goes.sub hsub ?_
 refine sh fol ((0,.slice 0 a1_ a2_ a3_ 1)::(1,vl (qa .u64) a4_)::(kZ (a4_.length:Int) n18 [(11,.int .u64 0),(12,.int .u64 0)])) ?_
 refine sq ?_
 refine sh fol ((0,.slice 0 a1_ a2_ a3_ 1)::(1,vl (qa .u64) a4_)::(kZ (a4_.length:Int) n18 [(11,.int .u64 0),(12,.int .u64 0),(104,.i (a4_.length:Int)),(105,.i 0)])) ?_
 refine Goes.block ?_
 obtain⟨r38,g38,h⟩:=bnd h
 refine Goes.imp (Q:=fun x s'=>(x= .exit 2∧ ∃l35 n36 n37,(l35,n36,n37)=r38∧Sub s' (ofG 186 ((0,.slice 0 a1_ a2_ a3_ 1)::(1,vl (qa .u64) a4_)::(kZ (a4_.length:Int) n18 (kAN n36 n37 []))),[.cells (l35.flatMap (qa .u64).c)]))) ?_ ?_
 ·refine Goes.loopS (fun M s=> ∃(l31:List Int) (n32:Int) (n33:Int) (n34:Int),s=(ofG 186 ((0,.slice 0 a1_ a2_ a3_ 1)::(1,vl (qa .u64) a4_)::(kZ (a4_.length:Int) n18 (kAN n33 n34 (kBG (a4_.length:Int) n32)))),[.cells (l31.flatMap (qa .u64).c)])∧jA a1_ a2_ a4_ n18 M l31 n32 n33 n34=some r38) ?_ (m:=N) ⟨_,_,_,_,rfl,g38⟩
  rintro M s ⟨l31,n32,n33,n34,rfl,g38⟩
  cases M with
  |zero=>simp only[jA]at g38;cases g38
  |succ M=>
   rw[jA]at g38
   refine sh fol ((0,.slice 0 a1_ a2_ a3_ 1)::(1,vl (qa .u64) a4_)::(kZ (a4_.length:Int) n18 (kAN n33 n34 [(104,.i (a4_.length:Int)),(105,.i n32),(106,.bool (decide (n32<(a4_.length:Int))))]))) ?_
   refine sq ?_
   refine ihD g38 (fun c39 g38=>?_) (fun c39 g38=>?_)
   ·refine Goes.skip ?_
    refine sq (Goes.block ?_)
    refine sh fol ((0,.slice 0 a1_ a2_ a3_ 1)::(1,vl (qa .u64) a4_)::(kZ (a4_.length:Int) n18 (kAN n33 n34 ((13,.i n32)::(kBG (a4_.length:Int) n32))))) ?_
    obtain⟨x40,e_x40,g38⟩:=bnd g38
    obtain⟨r41,e_r41,g38⟩:=bnd g38
    refine sq (gr fol [3,4,5] ((0,.slice 0 a1_ a2_ a3_ 1)::(1,vl (qa .u64) a4_)::(kZ (a4_.length:Int) n18 (kAN n33 n34 ((13,.i n32)::(kBR r41.1 r41.2 (kBG (a4_.length:Int) n32)))))) (ac (iv qI (qa .u64) e_x40) (ac (lv 0 zu (qa .u64) e_x40 rfl) (ac (cv (qaS n18 x40 e_r41)) az))) ?_)
    refine sh fol ((0,.slice 0 a1_ a2_ a3_ 1)::(1,vl (qa .u64) a4_)::(kZ (a4_.length:Int) n18 (kAN n33 n34 ((13,.i n32)::(kBR r41.1 r41.2 (kBG (a4_.length:Int) n32)))))) ?_
    obtain⟨r42,e_r42,g38⟩:=bnd g38
    refine sq (gr fol [2] ((0,.slice 0 a1_ a2_ a3_ 1)::(1,vl (qa .u64) a4_)::(kZ (a4_.length:Int) n18 ((11,.int .u64 n33)::(13,.i n32)::(kX r41.1 r42.1 r42.2 (kBG (a4_.length:Int) n32))))) (ac (cv (qbB r41.2 n34 0 e_r42)) az) ?_)
    refine sh fol ((0,.slice 0 a1_ a2_ a3_ 1)::(1,vl (qa .u64) a4_)::(kZ (a4_.length:Int) n18 (kAN n33 (IntKind.wrap .u64 (r41.1+r42.2)) ((13,.i n32)::(15,.int .u64 r42.1)::(kBG (a4_.length:Int) n32))))) ?_
    obtain⟨x43,e_x43,g38⟩:=bnd g38
    obtain⟨r44,e_r44,g38⟩:=bnd g38
    obtain⟨l46,e_l46,g38⟩:=bnd g38
    refine gq fol [4,5,8,12,13] ((0,.slice 0 a1_ a2_ a3_ 1)::(1,vl (qa .u64) a4_)::(kZ (a4_.length:Int) n18 (kAN r44.2 (IntKind.wrap .u64 (r41.1+r42.2)) (kBG (a4_.length:Int) n32)))) [.cells (l46.flatMap (qa .u64).c)] (ac (hs (.done (.opt (qf Tryz.prog 104 (.slice 0 a1_ a2_ a3_ 1) (.i n32))) (.ptr 0 ((((a1_+(n32:Int).toNat:Nat):Int):Int).toNat*1+0))) (qcl qI e_x43)) (ac (hs (.run [0] (zJ Tryz.prog 212 (.ptr 0 ((((a1_+(n32:Int).toNat:Nat):Int):Int).toNat*1+0))) [.cells (l31.flatMap (qa .u64).c)] (.int .u64 x43) [.cells (l31.flatMap (qa .u64).c)] false) (qbT zu (E:=(qa .u64)) (l:=l31) rfl rfl (wI e_x43) (nl rfl) rfl)) (ac (cv (qgt x43 r42.1 n33 e_r44)) (ac (hs (.done (.opt (qf Tryz.prog 104 (.slice 0 a1_ a2_ a3_ 1) (.i n32))) (.ptr 0 ((((a1_+(n32:Int).toNat:Nat):Int):Int).toNat*1+0))) (qcl qI e_x43)) (ac (hs (.run [0] (qp Tryz.prog 212 (.ptr 0 ((((a1_+(n32:Int).toNat:Nat):Int):Int).toNat*1+0)) (.int .u64 r44.1)) [.cells (l31.flatMap (qa .u64).c)] .undef [.cells (l46.flatMap (qa .u64).c)] true) (xu (E:=(qa .u64)) (l:=l31) (y:=r44.1) rfl (show _=some 1 by kernel_rfl) rfl (wI e_x43) rfl rfl rfl rfl rfl e_l46 rfl)) az))))) ?_
    refine Goes.sub (show Sub (ofG 186 ((0,.slice 0 a1_ a2_ a3_ 1)::(1,vl (qa .u64) a4_)::(kZ (a4_.length:Int) n18 (kAN r44.2 (IntKind.wrap .u64 (r41.1+r42.2)) (kBG (a4_.length:Int) n32)))),[.cells (l46.flatMap (qa .u64).c)]) (ofG 186 ((0,.slice 0 a1_ a2_ a3_ 1)::(1,vl (qa .u64) a4_)::(kZ (a4_.length:Int) n18 (kAN r44.2 (IntKind.wrap .u64 (r41.1+r42.2)) (kBG (a4_.length:Int) n32)))),[.cells (l46.flatMap (qa .u64).c)])from(Sub.norm [] [some 0] (by rw[hB];rfl) rfl (.keep (.slice rfl) (.keep (.same (qg (qa .u64) _)) (.keep (.same nI) (.keep (.same nI) (.keep (.same nI) (.keep (.same nI) (.keep (.same nI) (.keep (.same nI) .nil)))))))) (.ks .nil))) ?_
    refine gh fol ((0,.slice 0 a1_ a2_ a3_ 1)::(1,vl (qa .u64) a4_)::(kZ (a4_.length:Int) n18 (kAN r44.2 (IntKind.wrap .u64 (r41.1+r42.2)) (kBG (a4_.length:Int) (w64 (n32+1)))))) ?_
    exact⟨M,(ofG 186 ((0,.slice 0 a1_ a2_ a3_ 1)::(1,vl (qa .u64) a4_)::(kZ (a4_.length:Int) n18 (kAN r44.2 (IntKind.wrap .u64 (r41.1+r42.2)) (kBG (a4_.length:Int) (w64 (n32+1)))))),[.cells (l46.flatMap (qa .u64).c)]),Nat.lt_succ_self _,(Sub.refl _),_,_,_,_,rfl,g38⟩
   ·refine Goes.exit ?_
    obtain rfl:=si g38
    exact⟨rfl,_,_,_,rfl,(Sub.keep [0,1,5,6,11,12] rfl rfl)⟩
 rintro x s' ⟨rfl,l35,n36,n37,rfl,hsub⟩
 try dsimp only at h
 refine Goes.sub hsub ?_
 obtain⟨x47,e_x47,h⟩:=bnd h
 obtain⟨r48,e_r48,h⟩:=bnd h
 obtain⟨l50,e_l50,h⟩:=bnd h
 refine sq (gq fol [4,5,8,12,13] ((0,.slice 0 a1_ a2_ a3_ 1)::(1,vl (qa .u64) a4_)::(kZ (a4_.length:Int) n18 [(11,.int .u64 r48.2)])) [.cells (l50.flatMap (qa .u64).c)] (ac (hs (.done (.opt (qf Tryz.prog 104 (.slice 0 a1_ a2_ a3_ 1) (.i (a4_.length:Int)))) (.ptr 0 ((((a1_+((a4_.length:Int):Int).toNat:Nat):Int):Int).toNat*1+0))) (qcl qI e_x47)) (ac (hs (.run [0] (zJ Tryz.prog 212 (.ptr 0 ((((a1_+((a4_.length:Int):Int).toNat:Nat):Int):Int).toNat*1+0))) [.cells (l35.flatMap (qa .u64).c)] (.int .u64 x47) [.cells (l35.flatMap (qa .u64).c)] false) (qbT zu (E:=(qa .u64)) (l:=l35) rfl rfl (wI e_x47) (nl rfl) rfl)) (ac (cv (qgt x47 n37 n36 e_r48)) (ac (hs (.done (.opt (qf Tryz.prog 104 (.slice 0 a1_ a2_ a3_ 1) (.i (a4_.length:Int)))) (.ptr 0 ((((a1_+((a4_.length:Int):Int).toNat:Nat):Int):Int).toNat*1+0))) (qcl qI e_x47)) (ac (hs (.run [0] (qp Tryz.prog 212 (.ptr 0 ((((a1_+((a4_.length:Int):Int).toNat:Nat):Int):Int).toNat*1+0)) (.int .u64 r48.1)) [.cells (l35.flatMap (qa .u64).c)] .undef [.cells (l50.flatMap (qa .u64).c)] true) (xu (E:=(qa .u64)) (l:=l35) (y:=r48.1) rfl (show _=some 1 by kernel_rfl) rfl (wI e_x47) rfl rfl rfl rfl rfl e_l50 rfl)) az))))) ?_)
 refine Goes.sub (show Sub (ofG 186 ((0,.slice 0 a1_ a2_ a3_ 1)::(1,vl (qa .u64) a4_)::(kZ (a4_.length:Int) n18 [(11,.int .u64 r48.2)])),[.cells (l50.flatMap (qa .u64).c)]) (ofG 186 ((0,.slice 0 a1_ a2_ a3_ 1)::(1,vl (qa .u64) a4_)::(kZ (a4_.length:Int) n18 [(11,.int .u64 r48.2)])),[.cells (l50.flatMap (qa .u64).c)])from(Sub.norm [] [some 0] (by rw[hB];rfl) rfl (.keep (.slice rfl) (.keep (.same (qg (qa .u64) _)) (.keep (.same nI) (.keep (.same nI) (.keep (.same nI) .nil))))) (.ks .nil))) ?_
 refine sq ?_
 refine sh fol ((0,.slice 0 a1_ a2_ a3_ 1)::(1,vl (qa .u64) a4_)::(kZ (a4_.length:Int) n18 [(154,.bool (decide (r48.2=0)))])) ?_
 refine ihD h (fun c51 h=>?_) (fun c51 h=>?_)
 ·refine sh fol [(4,.int .u64 n18)] ?_
  refine Goes.ret ?_
  simp only[Option.some.injEq,Prod.mk.injEq]at h
  obtain⟨rfl,rfl⟩:=h
  exact(gh2 [.int .u64 n18] (qeK.refl _ _))
 ·refine Goes.skip ?_
  refine sh fol ((0,.slice 0 a1_ a2_ a3_ 1)::(1,vl (qa .u64) a4_)::(kZ (a4_.length:Int) n18 [(17,.int .u64 0)])) ?_
  refine sq ?_
  refine sh fol ((0,.slice 0 a1_ a2_ a3_ 1)::(1,vl (qa .u64) a4_)::(kZ (a4_.length:Int) n18 [(17,.int .u64 0),(156,.i (a4_.length:Int)),(157,.i 0)])) ?_
  refine Goes.block ?_
  obtain⟨r57,g57,h⟩:=bnd h
  refine Goes.imp (Q:=fun x s'=>(x= .exit 4∧ ∃l55 n56,(l55,n56)=r57∧Sub s' (ofG 186 ((0,.slice 0 a1_ a2_ a3_ 1)::(kZ (a4_.length:Int) n18 [(17,.int .u64 n56)])),[.cells (l55.flatMap (qa .u64).c)]))) ?_ ?_
  ·refine Goes.loopS (fun M s=> ∃(l52:List Int) (n53:Int) (n54:Int),s=(ofG 186 ((0,.slice 0 a1_ a2_ a3_ 1)::(1,vl (qa .u64) a4_)::(kZ (a4_.length:Int) n18 (kBJ n54 (a4_.length:Int) n53 []))),[.cells (l52.flatMap (qa .u64).c)])∧jF a1_ a2_ a4_ M l52 n53 n54=some r57) ?_ (m:=N) ⟨_,_,_,rfl,g57⟩
   rintro M s ⟨l52,n53,n54,rfl,g57⟩
   cases M with
   |zero=>simp only[jF]at g57;cases g57
   |succ M=>
    rw[jF]at g57
    refine sh fol ((0,.slice 0 a1_ a2_ a3_ 1)::(1,vl (qa .u64) a4_)::(kZ (a4_.length:Int) n18 (kBJ n54 (a4_.length:Int) n53 [(158,.bool (decide (n53<(a4_.length:Int))))]))) ?_
    refine sq ?_
    refine ihD g57 (fun c58 g57=>?_) (fun c58 g57=>?_)
    ·refine Goes.skip ?_
     refine sq (Goes.block ?_)
     refine sh fol ((0,.slice 0 a1_ a2_ a3_ 1)::(1,vl (qa .u64) a4_)::(kZ (a4_.length:Int) n18 [(17,.int .u64 n54),(18,.i n53),(156,.i (a4_.length:Int)),(157,.i n53)])) ?_
     obtain⟨x59,e_x59,g57⟩:=bnd g57
     obtain⟨x60,e_x60,g57⟩:=bnd g57
     obtain⟨r61,e_r61,g57⟩:=bnd g57
     obtain⟨l63,e_l63,g57⟩:=bnd g57
     refine gq fol [4,5,8,9,11,15,16] ((0,.slice 0 a1_ a2_ a3_ 1)::(1,vl (qa .u64) a4_)::(kZ (a4_.length:Int) n18 (kBJ r61.2 (a4_.length:Int) n53 []))) [.cells (l63.flatMap (qa .u64).c)] (ac (hs (.done (.opt (qf Tryz.prog 104 (.slice 0 a1_ a2_ a3_ 1) (.i n53))) (.ptr 0 ((((a1_+(n53:Int).toNat:Nat):Int):Int).toNat*1+0))) (qcl qI e_x59)) (ac (hs (.run [0] (zJ Tryz.prog 212 (.ptr 0 ((((a1_+(n53:Int).toNat:Nat):Int):Int).toNat*1+0))) [.cells (l52.flatMap (qa .u64).c)] (.int .u64 x59) [.cells (l52.flatMap (qa .u64).c)] false) (qbT zu (E:=(qa .u64)) (l:=l52) rfl rfl (wI e_x59) (nl rfl) rfl)) (ac (iv qI (qa .u64) e_x60) (ac (lv 0 zu (qa .u64) e_x60 rfl) (ac (cv (qbB x59 x60 n54 e_r61)) (ac (hs (.done (.opt (qf Tryz.prog 104 (.slice 0 a1_ a2_ a3_ 1) (.i n53))) (.ptr 0 ((((a1_+(n53:Int).toNat:Nat):Int):Int).toNat*1+0))) (qcl qI e_x59)) (ac (hs (.run [0] (qp Tryz.prog 212 (.ptr 0 ((((a1_+(n53:Int).toNat:Nat):Int):Int).toNat*1+0)) (.int .u64 r61.1)) [.cells (l52.flatMap (qa .u64).c)] .undef [.cells (l63.flatMap (qa .u64).c)] true) (xu (E:=(qa .u64)) (l:=l52) (y:=r61.1) rfl (show _=some 1 by kernel_rfl) rfl (wI e_x59) rfl rfl rfl rfl rfl e_l63 rfl)) az))))))) ?_
     refine Goes.sub (show Sub (ofG 186 ((0,.slice 0 a1_ a2_ a3_ 1)::(1,vl (qa .u64) a4_)::(kZ (a4_.length:Int) n18 (kBJ r61.2 (a4_.length:Int) n53 []))),[.cells (l63.flatMap (qa .u64).c)]) (ofG 186 ((0,.slice 0 a1_ a2_ a3_ 1)::(1,vl (qa .u64) a4_)::(kZ (a4_.length:Int) n18 (kBJ r61.2 (a4_.length:Int) n53 []))),[.cells (l63.flatMap (qa .u64).c)])from(Sub.norm [] [some 0] (by rw[hB];rfl) rfl (.keep (.slice rfl) (.keep (.same (qg (qa .u64) _)) (.keep (.same nI) (.keep (.same nI) (.keep (.same nI) (.keep (.same nI) (.keep (.same nI) .nil))))))) (.ks .nil))) ?_
     refine gh fol ((0,.slice 0 a1_ a2_ a3_ 1)::(1,vl (qa .u64) a4_)::(kZ (a4_.length:Int) n18 (kBJ r61.2 (a4_.length:Int) (w64 (n53+1)) []))) ?_
     exact⟨M,(ofG 186 ((0,.slice 0 a1_ a2_ a3_ 1)::(1,vl (qa .u64) a4_)::(kZ (a4_.length:Int) n18 (kBJ r61.2 (a4_.length:Int) (w64 (n53+1)) []))),[.cells (l63.flatMap (qa .u64).c)]),Nat.lt_succ_self _,(Sub.refl _),_,_,_,rfl,g57⟩
    ·refine Goes.exit ?_
     obtain rfl:=si g57
     exact⟨rfl,_,_,rfl,(Sub.keep [0,5,6,17] rfl rfl)⟩
  rintro x s' ⟨rfl,l55,n56,rfl,hsub⟩
  try dsimp only at h
  refine Goes.sub hsub ?_
  obtain⟨x64,e_x64,h⟩:=bnd h
  obtain⟨l66,e_l66,h⟩:=bnd h
  refine sq (gq fol [2,3,6,7] (kAe n18 []) [.cells (l66.flatMap (qa .u64).c)] (ac (hs (.done (.opt (qf Tryz.prog 104 (.slice 0 a1_ a2_ a3_ 1) (.i (a4_.length:Int)))) (.ptr 0 ((((a1_+((a4_.length:Int):Int).toNat:Nat):Int):Int).toNat*1+0))) (qcl qI e_x64)) (ac (hs (.run [0] (zJ Tryz.prog 212 (.ptr 0 ((((a1_+((a4_.length:Int):Int).toNat:Nat):Int):Int).toNat*1+0))) [.cells (l55.flatMap (qa .u64).c)] (.int .u64 x64) [.cells (l55.flatMap (qa .u64).c)] false) (qbT zu (E:=(qa .u64)) (l:=l55) rfl rfl (wI e_x64) (nl rfl) rfl)) (ac (hs (.done (.opt (qf Tryz.prog 104 (.slice 0 a1_ a2_ a3_ 1) (.i (a4_.length:Int)))) (.ptr 0 ((((a1_+((a4_.length:Int):Int).toNat:Nat):Int):Int).toNat*1+0))) (qcl qI e_x64)) (ac (hs (.run [0] (qp Tryz.prog 212 (.ptr 0 ((((a1_+((a4_.length:Int):Int).toNat:Nat):Int):Int).toNat*1+0)) (.int .u64 (IntKind.wrap .u64 (x64+n56)))) [.cells (l55.flatMap (qa .u64).c)] .undef [.cells (l66.flatMap (qa .u64).c)] true) (xu (E:=(qa .u64)) (l:=l55) (y:=IntKind.wrap .u64 (x64+n56)) rfl (show _=some 1 by kernel_rfl) rfl (wI e_x64) rfl rfl rfl rfl rfl e_l66 rfl)) az)))) ?_)
  refine Goes.sub (show Sub (ofG 186 (kAe n18 []),[.cells (l66.flatMap (qa .u64).c)]) (ofG 186 (kAe n18 []),[.cells (l66.flatMap (qa .u64).c)])from(Sub.norm [] [some 0] (by rw[hB];rfl) rfl (.keep (.same nI) .nil) (.ks .nil))) ?_
  refine sh fol [(4,.int .u64 (IntKind.wrap .u64 (n18-1)))] ?_
  refine Goes.ret ?_
  simp only[Option.some.injEq,Prod.mk.injEq]at h
  obtain⟨rfl,rfl⟩:=h
  exact(gh2 [.int .u64 (IntKind.wrap .u64 (n18-1))] (qeK.refl _ _))
def jT (N:Nat) (a:List Int) (b:List Int):Nat→(List Int)→Int→Int→Option ((List Int)×Int)
 |0,_,_,_=>none
 |K+1,l5,n6,n7=>
  if n7≥0 then
  (idx a n7).bind fun x12=>
  (idx b 0).bind fun x13=>
  (qad N n6 x12 x13).bind fun r14=>
  (idx l5 n7).bind fun x15=>
  (put l5 n7 r14.1).bind fun l16=>
  jT N a b K l16 r14.2 (w64 (n7-1))
  else
  some (l5,n6)
def jY (N:Nat) (r23:List Int):Nat→(List Int)→(List Int)→Int→Option ((List Int)×(List Int))
 |0,_,_,_=>none
 |K+1,l27,l28,n29=>
  if n29≥0 then
  (win l27 n29 (w64 ((w64 (n29+(r23.length:Int)))+1))).bind fun(j35,n36)=>
  (qa7 N l27 j35 n36 (l27.length-j35) r23).bind fun(l38,n39)=>
  ((if l27.length=l38.length then some ()else none:Option Unit)).bind fun u40=>
  (idx l28 n29).bind fun x41=>
  (put l28 n29 n39).bind fun l42=>
  jY N r23 K l38 l42 (w64 (n29-1))
  else
  some (l27,l28)
def jl (r20:Int) (r23:List Int):Nat→(List Int)→Int→Option (List Int)
 |0,_,_=>none
 |K+1,l43,n44=>
  if n44<(r23.length:Int)then
  (((idx l43 n44).bind fun x50=>
  (qjK .u64 x50 r20).bind fun q51=>
  (put l43 n44 q51).bind fun l52=>
  (if r20>0 then
  some (decide ((w64 (n44+1))<(l52.length:Int)))
  else
  some false:Option Bool).bind fun b54=>
  if b54=true then
  (idx l52 n44).bind fun x57=>
  (idx l52 (w64 (n44+1))).bind fun x58=>
  (qgP .u64 x58 (w64 (64-r20))).bind fun q59=>
  (put l52 n44 (orI .u64 x57 q59)).bind fun l60=>
  some l60
  else
  some l52:Option (List Int))).bind fun l48=>
  jl r20 r23 K l48 (w64 (n44+1))
  else
  some l43
def qaf (N:Nat) (a:List Int) (b:List Int):Option ((List Int)×(List Int)):=
 (jg N a b).bind fun r1=>
 if r1<0 then
 some ([],a)
 else
 if(b.length:Int)=1 then
 (mk 8 (a.length:Int) 0).bind fun l4=>
 (jT N a b N l4 0 (w64 ((a.length:Int)-1))).bind fun(l8,n9)=>
 (ym N l8).bind fun r17=>
 (ym N ([n9]:List Int)).bind fun r18=>
 some (r17,r18)
 else
 (idx b (w64 ((b.length:Int)-1))).bind fun x19=>
 (bits_LeadingZeros64 x19).bind fun r20=>
 (yg N b r20).bind fun l22=>
 (ym N l22).bind fun r23=>
 (yg N a r20).bind fun l25=>
 (mk 8 (w64 ((w64 ((a.length:Int)-(r23.length:Int)))+1)) 0).bind fun l26=>
 (jY N r23 N l25 l26 (w64 ((a.length:Int)-(r23.length:Int)))).bind fun(l30,l31)=>
 (jl r20 r23 N l30 0).bind fun l45=>
 (ym N l31).bind fun r62=>
 (cut l45 0 (r23.length:Int)).bind fun s63=>
 (ym N s63).bind fun r64=>
 some (r62,r64)
theorem qd5 (N:Nat) (a:List Int) (b:List Int) {res:(List Int)×(List Int)} (h:qaf N a b=some res):qb Tryz.prog (.fn 212) [vl (qa .u64) a,vl (qa .u64) b] [] (.tuple [vl (qa .u64) res.1,vl (qa .u64) res.2]) []:=by
 unfold qaf at h
 refine Goes.fnW Tryz.func212 rfl rfl (m:=137) rfl (rs:=[.tmp 4,.tmp 5]) rfl (l:=[(0,vl (qa .u64) a),(1,vl (qa .u64) b)]) rfl ?_
 refine sh fol [(0,vl (qa .u64) a),(1,vl (qa .u64) b)] ?_
 refine sq ?_
 obtain⟨r1,e_r1,h⟩:=bnd h
 refine sq (gr fol [2] [(0,vl (qa .u64) a),(1,vl (qa .u64) b),(19,.bool (decide (r1<0)))] (ac (cv (qbc N a b e_r1)) az) ?_)
 refine ihD h (fun c2 h=>?_) (fun c2 h=>?_)
 ·refine sh fol [(4,.nilslice),(5,vl (qa .u64) a)] ?_
  refine Goes.ret ?_
  obtain rfl:=si h
  exact(gw2 [.nilslice,vl (qa .u64) a] (FzW.tuple (qd.cons (FzW.nilv (E:=(qa .u64))) (qd.cons (FzW.still (qo (qa .u64) _ (nl rfl))) qd.nil))))
 ·refine Goes.skip ?_
  refine sq ?_
  refine sh fol [(0,vl (qa .u64) a),(1,vl (qa .u64) b),(23,.bool (decide ((b.length:Int)=1)))] ?_
  refine ihD h (fun c3 h=>?_) (fun c3 h=>?_)
  ·obtain⟨l4,e_l4,h⟩:=bnd h
   refine sq (gq fol [2] ((0,vl (qa .u64) a)::(1,vl (qa .u64) b)::(kAA l4 [])) [.cells (l4.flatMap (qa .u64).c)] (ac (hs (.run [] (zP Tryz.prog 104 (.i (a.length:Int)) (.i (a.length:Int))) [] (.slice 0 0 l4.length l4.length 1) [.cells (l4.flatMap (qa .u64).c)] false) (qcI qI (E:=(qa .u64)) (z:=0) rfl (by kernel_rfl) e_l4 rfl)) az) ?_)
   refine sh fol ((0,vl (qa .u64) a)::(1,vl (qa .u64) b)::(kAA l4 [(7,.int .u64 0)])) ?_
   refine sq ?_
   refine sh fol ((0,vl (qa .u64) a)::(1,vl (qa .u64) b)::(kAA l4 ((7,.int .u64 0)::(kBw (w64 ((a.length:Int)-1)))))) ?_
   refine Goes.block ?_
   obtain⟨r10,g10,h⟩:=bnd h
   refine Goes.imp (Q:=fun x s'=>(x= .exit 0∧ ∃l8 n9,(l8,n9)=r10∧Sub s' (ofG 137 (kAA l8 (kAv n9 [])),[.cells (l8.flatMap (qa .u64).c)]))) ?_ ?_
   ·refine Goes.loopS (fun M s=> ∃(l5:List Int) (n6:Int) (n7:Int),s=(ofG 137 ((0,vl (qa .u64) a)::(1,vl (qa .u64) b)::(kAA l5 (kAv n6 (kBw n7)))),[.cells (l5.flatMap (qa .u64).c)])∧jT N a b M l5 n6 n7=some r10) ?_ (m:=N) ⟨_,_,_,rfl,g10⟩
    rintro M s ⟨l5,n6,n7,rfl,g10⟩
    cases M with
    |zero=>simp only[jT]at g10;cases g10
    |succ M=>
     rw[jT]at g10
     refine sq ?_
     refine sh fol ((0,vl (qa .u64) a)::(1,vl (qa .u64) b)::(kAA l5 (kAv n6 [(8,.i n7),(31,.bool (decide (n7≥0)))]))) ?_
     refine ihD g10 (fun c11 g10=>?_) (fun c11 g10=>?_)
     ·refine Goes.skip ?_
      refine sq (Goes.block ?_)
      obtain⟨x12,e_x12,g10⟩:=bnd g10
      obtain⟨x13,e_x13,g10⟩:=bnd g10
      obtain⟨r14,e_r14,g10⟩:=bnd g10
      obtain⟨x15,e_x15,g10⟩:=bnd g10
      obtain⟨l16,e_l16,g10⟩:=bnd g10
      refine gq fol [5,6,8,9,10,14,15] ((0,vl (qa .u64) a)::(1,vl (qa .u64) b)::(kAA l5 (kAv r14.2 (kBw n7)))) [.cells (l16.flatMap (qa .u64).c)] (ac (iv qI (qa .u64) e_x12) (ac (lv 0 zu (qa .u64) e_x12 rfl) (ac (iv qI (qa .u64) e_x13) (ac (lv 0 zu (qa .u64) e_x13 rfl) (ac (cv (qef N n6 x12 x13 e_r14)) (ac (hs (.done (.opt (qf Tryz.prog 104 (.slice 0 0 l5.length l5.length 1) (.i n7))) (.ptr 0 ((n7:Int).toNat*1+0))) (xP qI e_x15)) (ac (hs (.run [0] (qp Tryz.prog 212 (.ptr 0 ((n7:Int).toNat*1+0)) (.int .u64 r14.1)) [.cells (l5.flatMap (qa .u64).c)] .undef [.cells (l16.flatMap (qa .u64).c)] true) (xu (E:=(qa .u64)) (l:=l5) (y:=r14.1) rfl (show _=some 1 by kernel_rfl) rfl e_x15 rfl rfl rfl rfl rfl e_l16 rfl)) az))))))) ?_
      refine Goes.sub (show Sub (ofG 137 ((0,vl (qa .u64) a)::(1,vl (qa .u64) b)::(kAA l5 (kAv r14.2 (kBw n7)))),[.cells (l16.flatMap (qa .u64).c)]) (ofG 137 ((0,vl (qa .u64) a)::(1,vl (qa .u64) b)::(kAA l16 (kAv r14.2 (kBw n7)))),[.cells (l16.flatMap (qa .u64).c)])from(Sub.norm [] [some 0] rfl rfl (.keep (.same (qg (qa .u64) _)) (.keep (.same (qg (qa .u64) _)) (.keep (.sliceE rfl (jP e_l16)) (.keep (.same nI) (.keep (.same nI) .nil))))) (.ks .nil))) ?_
      refine gh fol ((0,vl (qa .u64) a)::(1,vl (qa .u64) b)::(kAA l16 (kAv r14.2 (kBw (w64 (n7-1)))))) ?_
      exact⟨M,(ofG 137 ((0,vl (qa .u64) a)::(1,vl (qa .u64) b)::(kAA l16 (kAv r14.2 (kBw (w64 (n7-1)))))),[.cells (l16.flatMap (qa .u64).c)]),Nat.lt_succ_self _,(Sub.refl _),_,_,_,rfl,g10⟩
     ·refine Goes.exit ?_
      obtain rfl:=si g10
      exact⟨rfl,_,_,rfl,(Sub.keep [6,7] rfl rfl)⟩
   rintro x s' ⟨rfl,l8,n9,rfl,hsub⟩
   try dsimp only at h
   refine Goes.sub hsub ?_
   obtain⟨r17,e_r17,h⟩:=bnd h
   obtain⟨r18,e_r18,h⟩:=bnd h
   refine sq (gq fol [1,4] [(4,vl (qa .u64) r17),(5,vl (qa .u64) r18)] [.frozen (l8.flatMap (qa .u64).c),.frozen [.int .u64 n9]] (ac (hs (.callF 215 [.slice 0 0 l8.length l8.length 1] [.cells (l8.flatMap (qa .u64).c)] [0] [vl (qa .u64) l8] (vl (qa .u64) r17)) (xZ (FzL.cons (Fz.sl (E:=(qa .u64)) rfl rfl (nl rfl)) FzL.nil) (yB N l8 e_r17) (qo (qa .u64) _ (nl rfl)))) (ac (hs (.callF 215 [.slice 1 0 1 1 1] [.frozen (l8.flatMap (qa .u64).c),.cells [.int .u64 n9]] [1] [vl (qa .u64) ([n9]:List Int)] (vl (qa .u64) r18)) (xZ (FzL.cons (Fz.lit rfl rfl (FzL.still (AllST.cons tI AllST.nil))) FzL.nil) (yB N ([n9]:List Int) e_r18) (qo (qa .u64) _ (nl rfl)))) az)) ?_)
   refine Goes.sub (show Sub (ofG 137 [(4,vl (qa .u64) r17),(5,vl (qa .u64) r18)],[.frozen (l8.flatMap (qa .u64).c),.frozen [.int .u64 n9]]) (ofG 137 [(4,vl (qa .u64) r17),(5,vl (qa .u64) r18)],[])from(Sub.norm [] [] rfl rfl (.keep (.same (qg (qa .u64) _)) (.keep (.same (qg (qa .u64) _)) .nil)) .nil)) ?_
   refine Goes.ret ?_
   obtain rfl:=si h
   exact(gw2 [vl (qa .u64) r17,vl (qa .u64) r18] (FzW.tuple (qd.cons (FzW.still (qo (qa .u64) _ (nl rfl))) (qd.cons (FzW.still (qo (qa .u64) _ (nl rfl))) qd.nil))))
  ·refine Goes.skip ?_
   obtain⟨x19,e_x19,h⟩:=bnd h
   obtain⟨r20,e_r20,h⟩:=bnd h
   refine sq (gr fol [4,5,6] [(0,vl (qa .u64) a),(1,vl (qa .u64) b),(9,.i r20)] (ac (iv qI (qa .u64) e_x19) (ac (lv 0 zu (qa .u64) e_x19 rfl) (ac (cv (qap x19 e_r20)) az))) ?_)
   obtain⟨l22,e_r21,h⟩:=bnd h
   obtain⟨r23,e_r23,h⟩:=bnd h
   refine sq (gq fol [2,3] [(0,vl (qa .u64) a),(9,.i r20),(10,vl (qa .u64) r23)] [.frozen (l22.flatMap (qa .u64).c)] (ac (hs (.callH 242 [vl (qa .u64) b,.i r20] [] [] (.slice 0 0 l22.length l22.length 1) [.cells (l22.flatMap (qa .u64).c)]) (qfg [] [some 0] (qbW N b r20 e_r21) .nil rfl rfl (.new rfl rfl (.same fa) rfl .nil) (rc (.same (qg (qa .u64) _)) (rc (.same nI) rn)) (.slice rfl) rfl)) (ac (hs (.callF 215 [.slice 0 0 l22.length l22.length 1] [.cells (l22.flatMap (qa .u64).c)] [0] [vl (qa .u64) l22] (vl (qa .u64) r23)) (xZ (FzL.cons (Fz.sl (E:=(qa .u64)) rfl rfl (nl rfl)) FzL.nil) (yB N l22 e_r23) (qo (qa .u64) _ (nl rfl)))) az)) ?_)
   refine Goes.sub (show Sub (ofG 137 [(0,vl (qa .u64) a),(9,.i r20),(10,vl (qa .u64) r23)],[.frozen (l22.flatMap (qa .u64).c)]) (ofG 137 [(0,vl (qa .u64) a),(9,.i r20),(10,vl (qa .u64) r23)],[])from(Sub.norm [] [] rfl rfl (.keep (.same (qg (qa .u64) _)) (.keep (.same nI) (.keep (.same (qg (qa .u64) _)) .nil))) .nil)) ?_
   obtain⟨l25,e_r24,h⟩:=bnd h
   refine sq (gq fol [2] [(0,vl (qa .u64) a),(9,.i r20),(10,vl (qa .u64) r23),(11,.slice 0 0 l25.length l25.length 1)] [.cells (l25.flatMap (qa .u64).c)] (ac (hs (.callH 242 [vl (qa .u64) a,.i r20] [] [] (.slice 0 0 l25.length l25.length 1) [.cells (l25.flatMap (qa .u64).c)]) (qfg [] [some 0] (qbW N a r20 e_r24) .nil rfl rfl (.new rfl rfl (.same fa) rfl .nil) (rc (.same (qg (qa .u64) _)) (rc (.same nI) rn)) (.slice rfl) rfl)) az) ?_)
   refine sh fol [(0,vl (qa .u64) a),(9,.i r20),(10,vl (qa .u64) r23),(11,.slice 0 0 l25.length l25.length 1),(12,.i (r23.length:Int))] ?_
   obtain⟨l26,e_l26,h⟩:=bnd h
   refine sq (gq fol [5] ((0,vl (qa .u64) a)::(9,.i r20)::(10,vl (qa .u64) r23)::(kI l25 (r23.length:Int) l26 [])) [.cells (l25.flatMap (qa .u64).c),.cells (l26.flatMap (qa .u64).c)] (ac (hs (.run [] (zP Tryz.prog 104 (.i (w64 ((w64 ((a.length:Int)-(r23.length:Int)))+1))) (.i (w64 ((w64 ((a.length:Int)-(r23.length:Int)))+1)))) [.cells (l25.flatMap (qa .u64).c)] (.slice 1 0 l26.length l26.length 1) [.cells (l25.flatMap (qa .u64).c),.cells (l26.flatMap (qa .u64).c)] false) (qcI qI (E:=(qa .u64)) (z:=0) rfl (by kernel_rfl) e_l26 rfl)) az) ?_)
   refine sq ?_
   refine sh fol ((9,.i r20)::(10,vl (qa .u64) r23)::(kI l25 (r23.length:Int) l26 (kBu (w64 ((a.length:Int)-(r23.length:Int)))))) ?_
   refine Goes.block ?_
   obtain⟨r32,g32,h⟩:=bnd h
   refine Goes.imp (Q:=fun x s'=>(x= .exit 2∧ ∃l30 l31,(l30,l31)=r32∧Sub s' (ofG 137 ((9,.i r20)::(kI l30 (r23.length:Int) l31 [])),[.cells (l30.flatMap (qa .u64).c),.cells (l31.flatMap (qa .u64).c)]))) ?_ ?_
   ·refine Goes.loopS (fun M s=> ∃(l27:List Int) (l28:List Int) (n29:Int),s=(ofG 137 ((9,.i r20)::(10,vl (qa .u64) r23)::(kI l27 (r23.length:Int) l28 (kBu n29))),[.cells (l27.flatMap (qa .u64).c),.cells (l28.flatMap (qa .u64).c)])∧jY N r23 M l27 l28 n29=some r32) ?_ (m:=N) ⟨_,_,_,rfl,g32⟩
    rintro M s ⟨l27,l28,n29,rfl,g32⟩
    cases M with
    |zero=>simp only[jY]at g32;cases g32
    |succ M=>
     rw[jY]at g32
     refine sq ?_
     refine sh fol ((9,.i r20)::(10,vl (qa .u64) r23)::(kI l27 (r23.length:Int) l28 [(14,.i n29),(81,.bool (decide (n29≥0)))])) ?_
     refine ihD g32 (fun c33 g32=>?_) (fun c33 g32=>?_)
     ·refine Goes.skip ?_
      refine sq (Goes.block ?_)
      obtain⟨⟨j35,n36⟩,e_w34,g32⟩:=bnd g32
      try dsimp only at g32
      obtain⟨⟨l38,n39⟩,e_r37,g32⟩:=bnd g32
      try dsimp only at g32
      obtain⟨u40,e_u40,g32⟩:=bnd g32
      obtain⟨x41,e_x41,g32⟩:=bnd g32
      obtain⟨l42,e_l42,g32⟩:=bnd g32
      refine gq fol [8,10,11,12] ((9,.i r20)::(10,vl (qa .u64) r23)::(kI l27 (r23.length:Int) l28 (kBu n29))) [.cells (l38.flatMap (qa .u64).c),.cells (l42.flatMap (qa .u64).c)] (ac (hs (.done (.opt (qR Tryz.prog 104 (.slice 0 0 l27.length l27.length 1) (some (.i n29)) (some (.i (w64 ((w64 (n29+(r23.length:Int)))+1)))) none)) (.slice 0 j35 n36 (l27.length-j35) 1)) (wn_ix qI e_w34)) (ac (hs (.callH 243 [.slice 0 j35 n36 (l27.length-j35) 1,vl (qa .u64) r23] [.cells (l27.flatMap (qa .u64).c),.cells (l28.flatMap (qa .u64).c)] [0] (.int .u64 n39) [.cells (l38.flatMap (qa .u64).c),.cells (l28.flatMap (qa .u64).c)]) (qfg [some 0] [some 0,none] (qgW N l27 j35 n36 (l27.length-j35) r23 e_r37) (.ks .nil) rfl rfl (.back rfl rfl (.same fa) rfl (.old rfl rfl .nil)) (rc (.slice rfl) (rc (.same (qg (qa .u64) _)) rn)) (.same nI) rfl)) (ac (hs (.done (.opt (qf Tryz.prog 104 (.slice 1 0 l28.length l28.length 1) (.i n29))) (.ptr 1 ((n29:Int).toNat*1+0))) (xP qI e_x41)) (ac (hs (.run [1] (qp Tryz.prog 212 (.ptr 1 ((n29:Int).toNat*1+0)) (.int .u64 n39)) [.cells (l38.flatMap (qa .u64).c),.cells (l28.flatMap (qa .u64).c)] .undef [.cells (l38.flatMap (qa .u64).c),.cells (l42.flatMap (qa .u64).c)] true) (xu (E:=(qa .u64)) (l:=l28) (y:=n39) rfl (show _=some 1 by kernel_rfl) rfl e_x41 rfl rfl rfl rfl rfl e_l42 rfl)) az)))) ?_
      refine Goes.sub (show Sub (ofG 137 ((9,.i r20)::(10,vl (qa .u64) r23)::(kI l27 (r23.length:Int) l28 (kBu n29))),[.cells (l38.flatMap (qa .u64).c),.cells (l42.flatMap (qa .u64).c)]) (ofG 137 ((9,.i r20)::(10,vl (qa .u64) r23)::(kI l38 (r23.length:Int) l42 (kBu n29))),[.cells (l38.flatMap (qa .u64).c),.cells (l42.flatMap (qa .u64).c)])from(Sub.norm [] [some 0,some 1] rfl rfl (.keep (.same nI) (.keep (.same (qg (qa .u64) _)) (.keep (.sliceE rfl (qoq e_u40)) (.keep (.same nI) (.keep (.sliceE rfl (jP e_l42)) (.keep (.same nI) .nil)))))) (.ks (.ks .nil)))) ?_
      refine gh fol ((9,.i r20)::(10,vl (qa .u64) r23)::(kI l38 (r23.length:Int) l42 (kBu (w64 (n29-1))))) ?_
      exact⟨M,(ofG 137 ((9,.i r20)::(10,vl (qa .u64) r23)::(kI l38 (r23.length:Int) l42 (kBu (w64 (n29-1))))),[.cells (l38.flatMap (qa .u64).c),.cells (l42.flatMap (qa .u64).c)]),Nat.lt_succ_self _,(Sub.refl _),_,_,_,rfl,g32⟩
     ·refine Goes.exit ?_
      obtain rfl:=si g32
      exact⟨rfl,_,_,rfl,(Sub.keep [9,11,12,13] rfl rfl)⟩
   rintro x s' ⟨rfl,l30,l31,rfl,hsub⟩
   try dsimp only at h
   refine Goes.sub hsub ?_
   refine sq ?_
   refine sh fol ((9,.i r20)::(kI l30 (r23.length:Int) l31 [(96,.i (r23.length:Int)),(97,.i 0)])) ?_
   refine Goes.block ?_
   obtain⟨r46,g46,h⟩:=bnd h
   refine Goes.imp (Q:=fun x s'=>(x= .exit 4∧ ∃l45,l45=r46∧Sub s' (ofG 137 (kI l45 (r23.length:Int) l31 []),[.cells (l45.flatMap (qa .u64).c),.cells (l31.flatMap (qa .u64).c)]))) ?_ ?_
   ·refine Goes.loopS (fun M s=> ∃(l43:List Int) (n44:Int),s=(ofG 137 ((9,.i r20)::(kI l43 (r23.length:Int) l31 (kBO (r23.length:Int) n44))),[.cells (l43.flatMap (qa .u64).c),.cells (l31.flatMap (qa .u64).c)])∧jl r20 r23 M l43 n44=some r46) ?_ (m:=N) ⟨_,_,rfl,g46⟩
    rintro M s ⟨l43,n44,rfl,g46⟩
    cases M with
    |zero=>simp only[jl]at g46;cases g46
    |succ M=>
     rw[jl]at g46
     refine sh fol ((9,.i r20)::(kI l43 (r23.length:Int) l31 [(96,.i (r23.length:Int)),(97,.i n44),(98,.bool (decide (n44<(r23.length:Int))))])) ?_
     refine sq ?_
     refine ihD g46 (fun c47 g46=>?_) (fun c47 g46=>?_)
     ·refine Goes.skip ?_
      refine sq ?_
      obtain⟨r49,g49,g46⟩:=bnd g46
      refine Goes.imp (Q:=fun x s'=>(x= .normal∧ ∃l48,l48=r49∧Sub s' (ofG 137 ((9,.i r20)::(kI l48 (r23.length:Int) l31 (kBO (r23.length:Int) n44))),[.cells (l48.flatMap (qa .u64).c),.cells (l31.flatMap (qa .u64).c)]))) ?_ ?_
      ·refine Goes.block ?_
       refine sh fol ((9,.i r20)::(kI l43 (r23.length:Int) l31 ((15,.i n44)::(kBO (r23.length:Int) n44)))) ?_
       obtain⟨x50,e_x50,g49⟩:=bnd g49
       obtain⟨q51,e_q51,g49⟩:=bnd g49
       obtain⟨l52,e_l52,g49⟩:=bnd g49
       refine sq (gq fol [2,3,5,6,7] ((9,.i r20)::(kI l43 (r23.length:Int) l31 ((15,.i n44)::(kBO (r23.length:Int) n44)))) [.cells (l52.flatMap (qa .u64).c),.cells (l31.flatMap (qa .u64).c)] (ac (hs (.done (.opt (qf Tryz.prog 104 (.slice 0 0 l43.length l43.length 1) (.i n44))) (.ptr 0 ((n44:Int).toNat*1+0))) (xP qI e_x50)) (ac (hs (.run [0] (zJ Tryz.prog 212 (.ptr 0 ((n44:Int).toNat*1+0))) [.cells (l43.flatMap (qa .u64).c),.cells (l31.flatMap (qa .u64).c)] (.int .u64 x50) [.cells (l43.flatMap (qa .u64).c),.cells (l31.flatMap (qa .u64).c)] false) (qbT zu (E:=(qa .u64)) (l:=l43) rfl rfl e_x50 (nl rfl) rfl)) (ac (hs (.done (.opt (qY Tryz.prog .shr 212 (.tmp 103) (.tmp 104) (.int .u64 x50) (.i r20))) (.int .u64 q51)) (qfX e_q51)) (ac (hs (.done (.opt (qf Tryz.prog 104 (.slice 0 0 l43.length l43.length 1) (.i n44))) (.ptr 0 ((n44:Int).toNat*1+0))) (xP qI e_x50)) (ac (hs (.run [0] (qp Tryz.prog 212 (.ptr 0 ((n44:Int).toNat*1+0)) (.int .u64 q51)) [.cells (l43.flatMap (qa .u64).c),.cells (l31.flatMap (qa .u64).c)] .undef [.cells (l52.flatMap (qa .u64).c),.cells (l31.flatMap (qa .u64).c)] true) (xu (E:=(qa .u64)) (l:=l43) (y:=q51) rfl (show _=some 1 by kernel_rfl) rfl e_x50 rfl rfl rfl rfl rfl e_l52 rfl)) az))))) ?_)
       refine Goes.sub (show Sub (ofG 137 ((9,.i r20)::(kI l43 (r23.length:Int) l31 ((15,.i n44)::(kBO (r23.length:Int) n44)))),[.cells (l52.flatMap (qa .u64).c),.cells (l31.flatMap (qa .u64).c)]) (ofG 137 ((9,.i r20)::(kI l52 (r23.length:Int) l31 ((15,.i n44)::(kBO (r23.length:Int) n44)))),[.cells (l52.flatMap (qa .u64).c),.cells (l31.flatMap (qa .u64).c)])from(Sub.norm [] [some 0,some 1] rfl rfl (.keep (.same nI) (.keep (.sliceE rfl (jP e_l52)) (.keep (.same nI) (.keep (.slice rfl) (.keep (.same nI) (.keep (.same nI) (.keep (.same nI) .nil))))))) (.ks (.ks .nil)))) ?_
       refine sq ?_
       obtain⟨b54,g_v55,g49⟩:=bnd g49
       refine Goes.cut (s':=(ofG 137 ((9,.i r20)::(kI l52 (r23.length:Int) l31 [(15,.i n44),(96,.i (r23.length:Int)),(97,.i n44),(115,.bool b54)])),[.cells (l52.flatMap (qa .u64).c),.cells (l31.flatMap (qa .u64).c)])) ?_ ?_
       ·rcases wyD g_v55 with⟨c53,g_v55⟩|⟨c53,g_v55⟩
        ·obtain rfl:=si g_v55
         exact tr fol [2] ((9,.i r20)::(kI l52 (r23.length:Int) l31 [(15,.i n44),(96,.i (r23.length:Int)),(97,.i n44),(115,.bool (decide ((w64 (n44+1))<(l52.length:Int))))])) (ac (gw c53) az)
        ·obtain rfl:=si g_v55
         exact tr fol [2] ((9,.i r20)::(kI l52 (r23.length:Int) l31 [(15,.i n44),(96,.i (r23.length:Int)),(97,.i n44),(115,.bool false)])) (ac (gw c53) az)
       refine ihB g49 (fun c56 g49=>?_) (fun c56 g49=>?_)
       ·obtain⟨x57,e_x57,g49⟩:=bnd g49
        obtain⟨x58,e_x58,g49⟩:=bnd g49
        obtain⟨q59,e_q59,g49⟩:=bnd g49
        obtain⟨l60,e_l60,g49⟩:=bnd g49
        refine gq fol [2,3,7,8,11,13,14] ((9,.i r20)::(kI l52 (r23.length:Int) l31 (kBO (r23.length:Int) n44))) [.cells (l60.flatMap (qa .u64).c),.cells (l31.flatMap (qa .u64).c)] (ac (hs (.done (.opt (qf Tryz.prog 104 (.slice 0 0 l52.length l52.length 1) (.i n44))) (.ptr 0 ((n44:Int).toNat*1+0))) (xP qI e_x57)) (ac (hs (.run [0] (zJ Tryz.prog 212 (.ptr 0 ((n44:Int).toNat*1+0))) [.cells (l52.flatMap (qa .u64).c),.cells (l31.flatMap (qa .u64).c)] (.int .u64 x57) [.cells (l52.flatMap (qa .u64).c),.cells (l31.flatMap (qa .u64).c)] false) (qbT zu (E:=(qa .u64)) (l:=l52) rfl rfl e_x57 (nl rfl) rfl)) (ac (hs (.done (.opt (qf Tryz.prog 104 (.slice 0 0 l52.length l52.length 1) (.i (w64 (n44+1))))) (.ptr 0 ((w64 (n44+1):Int).toNat*1+0))) (xP qI e_x58)) (ac (hs (.run [0] (zJ Tryz.prog 212 (.ptr 0 ((w64 (n44+1):Int).toNat*1+0))) [.cells (l52.flatMap (qa .u64).c),.cells (l31.flatMap (qa .u64).c)] (.int .u64 x58) [.cells (l52.flatMap (qa .u64).c),.cells (l31.flatMap (qa .u64).c)] false) (qbT zu (E:=(qa .u64)) (l:=l52) rfl rfl e_x58 (nl rfl) rfl)) (ac (hs (.done (.opt (qY Tryz.prog .shl 212 (.tmp 124) (.tmp 126) (.int .u64 x58) (.i (w64 (64-r20))))) (.int .u64 q59)) (qeM e_q59)) (ac (hs (.done (.opt (qf Tryz.prog 104 (.slice 0 0 l52.length l52.length 1) (.i n44))) (.ptr 0 ((n44:Int).toNat*1+0))) (xP qI e_x57)) (ac (hs (.run [0] (qp Tryz.prog 212 (.ptr 0 ((n44:Int).toNat*1+0)) (.int .u64 (orI .u64 x57 q59))) [.cells (l52.flatMap (qa .u64).c),.cells (l31.flatMap (qa .u64).c)] .undef [.cells (l60.flatMap (qa .u64).c),.cells (l31.flatMap (qa .u64).c)] true) (xu (E:=(qa .u64)) (l:=l52) (y:=orI .u64 x57 q59) rfl (show _=some 1 by kernel_rfl) rfl e_x57 rfl rfl rfl rfl rfl e_l60 rfl)) az))))))) ?_
        obtain rfl:=si g49
        exact⟨rfl,_,rfl,((show Sub (ofG 137 ((9,.i r20)::(kI l52 (r23.length:Int) l31 (kBO (r23.length:Int) n44))),[.cells (l60.flatMap (qa .u64).c),.cells (l31.flatMap (qa .u64).c)]) (ofG 137 ((9,.i r20)::(kI l60 (r23.length:Int) l31 (kBO (r23.length:Int) n44))),[.cells (l60.flatMap (qa .u64).c),.cells (l31.flatMap (qa .u64).c)])from(Sub.norm [] [some 0,some 1] rfl rfl (.keep (.same nI) (.keep (.sliceE rfl (jP e_l60)) (.keep (.same nI) (.keep (.slice rfl) (.keep (.same nI) (.keep (.same nI) .nil)))))) (.ks (.ks .nil)))).trans (Sub.refl _))⟩
       ·refine Goes.skip ?_
        obtain rfl:=si g49
        exact⟨rfl,_,rfl,(Sub.keep [9,11,12,13,96,97] rfl rfl)⟩
      rintro x s' ⟨rfl,l48,rfl,hsub⟩
      refine Goes.sub hsub ?_
      refine gh fol ((9,.i r20)::(kI l48 (r23.length:Int) l31 (kBO (r23.length:Int) (w64 (n44+1))))) ?_
      exact⟨M,(ofG 137 ((9,.i r20)::(kI l48 (r23.length:Int) l31 (kBO (r23.length:Int) (w64 (n44+1))))),[.cells (l48.flatMap (qa .u64).c),.cells (l31.flatMap (qa .u64).c)]),Nat.lt_succ_self _,(Sub.refl _),_,_,rfl,g46⟩
     ·refine Goes.exit ?_
      obtain rfl:=si g46
      exact⟨rfl,_,rfl,(Sub.keep [11,12,13] rfl rfl)⟩
   rintro x s' ⟨rfl,l45,rfl,hsub⟩
   refine Goes.sub hsub ?_
   refine sq (Goes.sub (s':=(ofG 137 [(11,vl (qa .u64) l45),(12,.i (r23.length:Int)),(13,.slice 0 0 l31.length l31.length 1)],[.cells (l31.flatMap (qa .u64).c)])) (Sub.norm [0] [some 1] rfl rfl (.keep (.frz (Fz.sl (E:=(qa .u64)) rfl rfl (nl rfl)) (qg (qa .u64) _)) (.keep (.same nI) (.keep (.slice rfl) .nil))) (.ks .nil)) ?_)
   obtain⟨r62,e_r62,h⟩:=bnd h
   obtain⟨s63,e_s63,h⟩:=bnd h
   obtain⟨r64,e_r64,h⟩:=bnd h
   refine gq fol [1,4,5] [(4,vl (qa .u64) r62),(5,vl (qa .u64) r64)] [.frozen (l31.flatMap (qa .u64).c)] (ac (hs (.callF 215 [.slice 0 0 l31.length l31.length 1] [.cells (l31.flatMap (qa .u64).c)] [0] [vl (qa .u64) l31] (vl (qa .u64) r62)) (xZ (FzL.cons (Fz.sl (E:=(qa .u64)) rfl rfl (nl rfl)) FzL.nil) (yB N l31 e_r62) (qo (qa .u64) _ (nl rfl)))) (ac (hs (.done (.opt (qR Tryz.prog 104 (vl (qa .u64) l45) none (some (.i (r23.length:Int))) none)) (vl (qa .u64) s63)) (qkS qI (E:=(qa .u64)) rfl none (some (r23.length:Int)) e_s63)) (ac (cv (yB N s63 e_r64)) az))) ?_
   refine Goes.sub (show Sub (ofG 137 [(4,vl (qa .u64) r62),(5,vl (qa .u64) r64)],[.frozen (l31.flatMap (qa .u64).c)]) (ofG 137 [(4,vl (qa .u64) r62),(5,vl (qa .u64) r64)],[])from(Sub.norm [] [] rfl rfl (.keep (.same (qg (qa .u64) _)) (.keep (.same (qg (qa .u64) _)) .nil)) .nil)) ?_
   refine Goes.ret ?_
   obtain rfl:=si h
   exact(gw2 [vl (qa .u64) r62,vl (qa .u64) r64] (FzW.tuple (qd.cons (FzW.still (qo (qa .u64) _ (nl rfl))) (qd.cons (FzW.still (qo (qa .u64) _ (nl rfl))) qd.nil))))
def zM (N:Nat) (a:qj) (b:qj):Option (qj×qj):=
 (if a.w.isEmpty=true then
 if b.w.isEmpty=true then
 some (!decide (a.s=(-9223372036854775808)))
 else
 some false
 else
 some false:Option Bool).bind fun b3=>
 if b3=true then
 (qbK .i64 a.s b.s).bind fun q6=>
 (qdu .i64 a.s b.s).bind fun q7=>
 ((if q7<0 then
 some (w64 (q6-1),w64 (q7+b.s))
 else
 some (q6,q7):Option (Int×Int))).bind fun(n8,n9)=>
 some ((⟨n8,[]⟩:qj),(⟨n9,[]⟩:qj))
 else
 (qE a).bind fun r12=>
 (qE b).bind fun r13=>
 (qaf N r12.2 r13.2).bind fun r14=>
 (jE r12.1 r14.1).bind fun r15=>
 (jE r12.1 r14.2).bind fun r16=>
 (qZ r16).bind fun r17=>
 ((if r17<0 then
 (qb4 1).bind fun r24=>
 (yx N r15 r24).bind fun r25=>
 (jC N r16 b).bind fun r26=>
 some (r25.s,r25.w,r26.s,r26.w)
 else
 some (r15.s,r15.w,r16.s,r16.w):Option (Int×(List Int)×Int×(List Int)))).bind fun(n18,l19,n20,l21)=>
 some ((⟨n18,l19⟩:qj),(⟨n20,l21⟩:qj))
theorem qbZ (N:Nat) (a:qj) (b:qj) {res:qj×qj} (h:zM N a b=some res):qb Tryz.prog (.fn 157) [.agg [.i a.s,nvl (qa .u64) a.w],.agg [.i b.s,nvl (qa .u64) b.w]] [] (.tuple [.agg [.i res.1.s,nvl (qa .u64) res.1.w],.agg [.i res.2.s,nvl (qa .u64) res.2.w]]) []:=by
 unfold zM at h
 refine Goes.fnW Tryz.func157 rfl rfl (m:=84) rfl (rs:=[.cell 4 106,.cell 5 106]) rfl (l:=[(0,.agg [.i a.s,nvl (qa .u64) a.w]),(1,.agg [.i b.s,nvl (qa .u64) b.w])]) rfl ?_
 refine sg fol (kH (kBc [])) [.cells [.i a.s,nvl (qa .u64) a.w],.cells [.i b.s,nvl (qa .u64) b.w],bZ,bZ] ?_
 refine sq ?_
 refine sq ?_
 obtain⟨b3,g_v4,h⟩:=bnd h
 refine Goes.cut (s':=(ofG 84 (kH (kBc [(28,.bool b3)])),[.cells [.i a.s,nvl (qa .u64) a.w],.cells [.i b.s,nvl (qa .u64) b.w],bZ,bZ])) ?_ ?_
 ·rcases wyB g_v4 with⟨c1,g_v4⟩|⟨c1,g_v4⟩
  ·rcases wyB g_v4 with⟨c2,g_v4⟩|⟨c2,g_v4⟩
   ·obtain rfl:=si g_v4
    exact tr fol [2,3,6,8] (kH (kBc [(28,.bool (!decide (a.s=(-9223372036854775808))))])) (ac (hs (.done (.opt (qY Tryz.prog .eql 104 (.tmp 17) (.const (.slice none 0 0)) (nvl (qa .u64) a.w) .nilslice)) (.bool a.w.isEmpty)) (xV vD)) (ac (gw c1) (ac (hs (.done (.opt (qY Tryz.prog .eql 104 (.tmp 21) (.const (.slice none 0 0)) (nvl (qa .u64) b.w) .nilslice)) (.bool b.w.isEmpty)) (xV vD)) (ac (gw c2) az))))
   ·obtain rfl:=si g_v4
    exact tr fol [2,3,6,8] (kH (kBc [(28,.bool false)])) (ac (hs (.done (.opt (qY Tryz.prog .eql 104 (.tmp 17) (.const (.slice none 0 0)) (nvl (qa .u64) a.w) .nilslice)) (.bool a.w.isEmpty)) (xV vD)) (ac (gw c1) (ac (hs (.done (.opt (qY Tryz.prog .eql 104 (.tmp 21) (.const (.slice none 0 0)) (nvl (qa .u64) b.w) .nilslice)) (.bool b.w.isEmpty)) (xV vD)) (ac (gw c2) az))))
  ·obtain rfl:=si g_v4
   exact tr fol [2,3] (kH (kBc [(28,.bool false)])) (ac (hs (.done (.opt (qY Tryz.prog .eql 104 (.tmp 17) (.const (.slice none 0 0)) (nvl (qa .u64) a.w) .nilslice)) (.bool a.w.isEmpty)) (xV vD)) (ac (gw c1) az))
 refine ihB h (fun c5 h=>?_) (fun c5 h=>?_)
 ·obtain⟨q6,e_q6,h⟩:=bnd h
  obtain⟨q7,e_q7,h⟩:=bnd h
  refine sq (gr fol [4,9] ((3,.ptr 1 0)::(kAU (kBc (kAV q6 q7 [])))) (ac (hs (.done (.opt (qY Tryz.prog .quo 3 (.tmp 30) (.tmp 32) (.i a.s) (.i b.s))) (.i q6)) (qbe e_q6)) (ac (hs (.done (.opt (qY Tryz.prog .rem 3 (.tmp 35) (.tmp 37) (.i a.s) (.i b.s))) (.i q7)) (qeB e_q7)) az)) ?_)
  refine sq ?_
  refine sh fol ((3,.ptr 1 0)::(kAU (kBc (kAV q6 q7 [(40,.bool (decide (q7<0)))])))) ?_
  obtain⟨r10,g10,h⟩:=bnd h
  refine Goes.imp (Q:=fun x s'=>(x= .normal∧ ∃n8 n9,(n8,n9)=r10∧Sub s' (ofG 84 (kY (kBx (kAV n8 n9 []))),[bZ,bZ]))) ?_ ?_
  ·refine ihD g10 (fun c11 g10=>?_) (fun c11 g10=>?_)
   ·refine gh fol (kAU (kBc (kAV (w64 (q6-1)) (w64 (q7+b.s)) []))) ?_
    obtain rfl:=si g10
    exact⟨rfl,_,_,rfl,(Sub.norm [] [some 2,some 3] rfl rfl (.kp (.kp (.keep (.same nI) (.keep (.same nI) .nil)))) (.kb rfl (.same sn) (.kb rfl (.same sn) .nil)))⟩
   ·refine Goes.skip ?_
    obtain rfl:=si g10
    exact⟨rfl,_,_,rfl,(Sub.norm [] [some 2,some 3] rfl rfl (.drop (.kp (.kp (.keep (.same nI) (.keep (.same nI) .nil))))) (.kb rfl (.same sn) (.kb rfl (.same sn) .nil)))⟩
  rintro x s' ⟨rfl,n8,n9,rfl,hsub⟩
  try dsimp only at h
  refine Goes.sub hsub ?_
  refine sg fol (kY (kBx [])) (.cells [.i n8,.nilslice]::(kBP n9)) ?_
  refine Goes.ret ?_
  obtain rfl:=si h
  exact(gw2 [.agg [.i n8,.nilslice],.agg [.i n9,.nilslice]] (FzW.tuple (qd.cons (FzW.agg (qd.cons (FzW.still tI) (qd.cons (FzW.nv0 (E:=(qa .u64))) qd.nil))) (qd.cons (FzW.agg (qd.cons (FzW.still tI) (qd.cons (FzW.nv0 (E:=(qa .u64))) qd.nil))) qd.nil))))
 ·refine Goes.skip ?_
  obtain⟨r12,e_r12,h⟩:=bnd h
  refine sq (gr fol [1] ((3,.ptr 1 0)::(kAU (kBc [(8,.bool r12.1),(9,vl (qa .u64) r12.2)]))) (ac (cv (zn a e_r12)) az) ?_)
  obtain⟨r13,e_r13,h⟩:=bnd h
  refine sq (gr fol [1] ((3,.ptr 1 0)::(kAU (kBc [(8,.bool r12.1),(9,vl (qa .u64) r12.2),(11,vl (qa .u64) r13.2)]))) (ac (cv (zn b e_r13)) az) ?_)
  obtain⟨r14,e_r14,h⟩:=bnd h
  refine sq (gr fol [2] ((3,.ptr 1 0)::(kAU (kBc [(8,.bool r12.1),(12,vl (qa .u64) r14.1),(13,vl (qa .u64) r14.2)]))) (ac (cv (qd5 N r12.2 r13.2 e_r14)) az) ?_)
  obtain⟨r15,e_r15,h⟩:=bnd h
  obtain⟨r16,e_r16,h⟩:=bnd h
  refine sq (gq fol [2,5,8,9] ((3,.ptr 1 0)::(kAU (kBc (kBW [])))) [.cells [.i a.s,nvl (qa .u64) a.w],.cells [.i b.s,nvl (qa .u64) b.w],bZ,bZ,.cells [.i r15.s,nvl (qa .u64) r15.w],.cells [.i r16.s,nvl (qa .u64) r16.w]] (ac (cv (xy r12.1 r14.1 e_r15)) (ac (cv (xy r12.1 r14.2 e_r16)) (ac (hs (.run [4] (qp Tryz.prog 106 (.ptr 4 0) (.agg [.i r15.s,nvl (qa .u64) r15.w])) [.cells [.i a.s,nvl (qa .u64) a.w],.cells [.i b.s,nvl (qa .u64) b.w],bZ,bZ,bZ,bZ] .undef [.cells [.i a.s,nvl (qa .u64) a.w],.cells [.i b.s,nvl (qa .u64) b.w],bZ,bZ,.cells [.i r15.s,nvl (qa .u64) r15.w],bZ] true) (kW (n:=2) (by kernel_rfl) rfl rfl rfl rfl (cac rfl (cac nvc can)) rfl)) (ac (hs (.run [5] (qp Tryz.prog 106 (.ptr 5 0) (.agg [.i r16.s,nvl (qa .u64) r16.w])) [.cells [.i a.s,nvl (qa .u64) a.w],.cells [.i b.s,nvl (qa .u64) b.w],bZ,bZ,.cells [.i r15.s,nvl (qa .u64) r15.w],bZ] .undef [.cells [.i a.s,nvl (qa .u64) a.w],.cells [.i b.s,nvl (qa .u64) b.w],bZ,bZ,.cells [.i r15.s,nvl (qa .u64) r15.w],.cells [.i r16.s,nvl (qa .u64) r16.w]] true) (kW (n:=2) (by kernel_rfl) rfl rfl rfl rfl (cac rfl (cac nvc can)) rfl)) az)))) ?_)
  refine sq ?_
  obtain⟨r17,e_r17,h⟩:=bnd h
  refine sq (gr fol [1] ((3,.ptr 1 0)::(kAU (kBc (kBW [(75,.bool (decide (r17<0)))])))) (ac (cv (yP r16 e_r17)) az) ?_)
  obtain⟨r22,g22,h⟩:=bnd h
  refine Goes.imp (Q:=fun x s'=>(x= .normal∧ ∃n18 l19 n20 l21,(n18,l19,n20,l21)=r22∧Sub s' (ofG 84 (kY (kBx [(14,.ptr 2 0),(15,.ptr 3 0)])),[bZ,bZ,.cells [.i n18,nvl (qa .u64) l19],.cells [.i n20,nvl (qa .u64) l21]]))) ?_ ?_
  ·refine ihD g22 (fun c23 g22=>?_) (fun c23 g22=>?_)
   ·obtain⟨r24,e_r24,g22⟩:=bnd g22
    obtain⟨r25,e_r25,g22⟩:=bnd g22
    obtain⟨r26,e_r26,g22⟩:=bnd g22
    refine gq fol [1,2,5,6,7] (kAU (kBc (kBW []))) [.cells [.i a.s,nvl (qa .u64) a.w],.cells [.i b.s,nvl (qa .u64) b.w],bZ,bZ,.cells [.i r25.s,nvl (qa .u64) r25.w],.cells [.i r26.s,nvl (qa .u64) r26.w]] (ac (cv (qbr 1 e_r24)) (ac (cv (qdF N r15 r24 e_r25)) (ac (cv (xw N r16 b e_r26)) (ac (hs (.run [4] (qp Tryz.prog 106 (.ptr 4 0) (.agg [.i r25.s,nvl (qa .u64) r25.w])) [.cells [.i a.s,nvl (qa .u64) a.w],.cells [.i b.s,nvl (qa .u64) b.w],bZ,bZ,.cells [.i r15.s,nvl (qa .u64) r15.w],.cells [.i r16.s,nvl (qa .u64) r16.w]] .undef [.cells [.i a.s,nvl (qa .u64) a.w],.cells [.i b.s,nvl (qa .u64) b.w],bZ,bZ,.cells [.i r25.s,nvl (qa .u64) r25.w],.cells [.i r16.s,nvl (qa .u64) r16.w]] true) (kW (n:=2) (by kernel_rfl) rfl rfl rfl rfl (cac rfl (cac nvc can)) rfl)) (ac (hs (.run [5] (qp Tryz.prog 106 (.ptr 5 0) (.agg [.i r26.s,nvl (qa .u64) r26.w])) [.cells [.i a.s,nvl (qa .u64) a.w],.cells [.i b.s,nvl (qa .u64) b.w],bZ,bZ,.cells [.i r25.s,nvl (qa .u64) r25.w],.cells [.i r16.s,nvl (qa .u64) r16.w]] .undef [.cells [.i a.s,nvl (qa .u64) a.w],.cells [.i b.s,nvl (qa .u64) b.w],bZ,bZ,.cells [.i r25.s,nvl (qa .u64) r25.w],.cells [.i r26.s,nvl (qa .u64) r26.w]] true) (kW (n:=2) (by kernel_rfl) rfl rfl rfl rfl (cac rfl (cac nvc can)) rfl)) az))))) ?_
    obtain rfl:=si g22
    exact⟨rfl,_,_,_,_,rfl,(Sub.norm [] [some 2,some 3,some 4,some 5] rfl rfl (.kp (.kp (.kp (.kp .nil)))) (.kb rfl (.same sn) (.kb rfl (.same sn) (.kb rfl (.same sn) (.kb rfl (.same sn) .nil)))))⟩
   ·refine Goes.skip ?_
    obtain rfl:=si g22
    exact⟨rfl,_,_,_,_,rfl,(Sub.norm [] [some 2,some 3,some 4,some 5] rfl rfl (.drop (.kp (.kp (.kp (.kp .nil))))) (.kb rfl (.same sn) (.kb rfl (.same sn) (.kb rfl (.same sn) (.kb rfl (.same sn) .nil)))))⟩
  rintro x s' ⟨rfl,n18,l19,n20,l21,rfl,hsub⟩
  try dsimp only at h
  refine Goes.sub hsub ?_
  refine sq (gq fol [2,3] (kY (kBx [])) [.cells [.i n18,nvl (qa .u64) l19],.cells [.i n20,nvl (qa .u64) l21],.cells [.i n18,nvl (qa .u64) l19],.cells [.i n20,nvl (qa .u64) l21]] (ac (hs (.run [0] (qp Tryz.prog 106 (.ptr 0 0) (.agg [.i n18,nvl (qa .u64) l19])) [bZ,bZ,.cells [.i n18,nvl (qa .u64) l19],.cells [.i n20,nvl (qa .u64) l21]] .undef [.cells [.i n18,nvl (qa .u64) l19],bZ,.cells [.i n18,nvl (qa .u64) l19],.cells [.i n20,nvl (qa .u64) l21]] true) (kW (n:=2) (by kernel_rfl) rfl rfl rfl rfl (cac rfl (cac nvc can)) rfl)) (ac (hs (.run [1] (qp Tryz.prog 106 (.ptr 1 0) (.agg [.i n20,nvl (qa .u64) l21])) [.cells [.i n18,nvl (qa .u64) l19],bZ,.cells [.i n18,nvl (qa .u64) l19],.cells [.i n20,nvl (qa .u64) l21]] .undef [.cells [.i n18,nvl (qa .u64) l19],.cells [.i n20,nvl (qa .u64) l21],.cells [.i n18,nvl (qa .u64) l19],.cells [.i n20,nvl (qa .u64) l21]] true) (kW (n:=2) (by kernel_rfl) rfl rfl rfl rfl (cac rfl (cac nvc can)) rfl)) az)) ?_)
  refine Goes.ret ?_
  obtain rfl:=si h
  exact(gw2 [.agg [.i n18,nvl (qa .u64) l19],.agg [.i n20,nvl (qa .u64) l21]] (FzW.tuple (qd.cons (FzW.agg (qd.cons (FzW.still tI) (qd.cons (FzW.still (qx (qa .u64) _ (nl rfl))) qd.nil))) (qd.cons (FzW.agg (qd.cons (FzW.still tI) (qd.cons (FzW.still (qx (qa .u64) _ (nl rfl))) qd.nil))) qd.nil))))
end Go.Av
