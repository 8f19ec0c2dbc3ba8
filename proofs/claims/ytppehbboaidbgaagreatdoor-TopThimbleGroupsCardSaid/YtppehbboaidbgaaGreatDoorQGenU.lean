/-
  The walk of the law.
-/
import Derived.Test.YtppehbboaidbgaaGreatDoorQGenU4
import Derived.Test.YtppehbboaidbgaaGreatDoorAvAwkU
noncomputable section
namespace Go.Av
open Go.Proofs Go.RowKit
set_option linter.unusedSectionVars false
set_option linter.unusedVariables false
set_option linter.unusedSimpArgs false
set_option maxRecDepth 100000
def awk:Option Bool:=some true
theorem qpA {res:Bool} (h:awk=some res):qd ZT (.fn 22) [] [] (.bool res) []:=by
 obtain rfl:=si h;exact qr9
def qP (N:Nat) (factor:(Str×Str)) (a:List qw):Nat->Int->Str->Option (Str⊕Bool)
 |0,_,_=>none
 |K+1,b,d=>
  if b<(a.length:Int)then
  (idx a b).bind fun e=>
  (qbl N factor.1 factor.2).bind fun f=>
  (qcz N [49,48,48] f).bind fun g=>
  (qcv N e g).bind fun c=>
  (if(!decide (c.2=0))=true then
  some true
  else
  (yK N c.1).bind fun h=>
  some (!decide (h=0)):Option Bool).bind fun i=>
  if i=true then
  some (.inr false)
  else
  (qcC N d c.1).bind fun j=>
  qP N factor a K (w64 (b+1)) j
  else
  some (.inl d)
def jN (N:Nat) (a:List qw) (b:List qw) (factor:(Str×Str)):Option Bool:=
 ((jG N a).bind fun z=>
 if(!z)=true then
 some true
 else
 (jG N b).bind fun A=>
 if(!A)=true then
 some true
 else
 (xE N factor.1 6).bind fun B=>
 if(!B)=true then
 some true
 else
 (xE N factor.2 6).bind fun C=>
 if(!C)=true then
 some true
 else
 (zN N factor.1).bind fun D=>
 (zN N factor.2).bind fun k=>
 if(!decide ((w64 (D+k))=0))=true then
 some true
 else
 (qaS N factor.1 [49]).bind fun l=>
 if l>0 then
 some true
 else
 (qaS N factor.2 [49]).bind fun m=>
 some (decide (m>0)):Option Bool).bind fun n=>
 if n=true then
 (awk).bind fun o=>
 some o
 else
 (qa5 N [120] a [48] factor.1).bind fun e=>
 (qa5 N [121] b [48] factor.1).bind fun f=>
 (qa5 N [122] ([e.1,f.1]:List qw) [48] factor.2).bind fun c=>
 (app 88 ([]:List qw) a).bind fun p=>
 (app 88 p b).bind fun g=>
 (qa5 N [122] g [48] [49]).bind fun d=>
 (if(!decide (e.2=0))=true then
 some true
 else
 if(!decide (f.2=0))=true then
 some true
 else
 if(!decide (c.2=0))=true then
 some true
 else
 if(!decide (d.2=0))=true then
 some true
 else
 if(!decide ((c.1.Strength.length:Int)=1))=true then
 some true
 else
 if(!decide ((d.1.Strength.length:Int)=1))=true then
 some true
 else
 (idx c.1.Strength 0).bind fun h=>
 (idx d.1.Strength 0).bind fun i=>
 if(!((h.X==i.X)&&((h.Y==i.Y)&&true)))=true then
 some true
 else
 (zW N c.1).bind fun q=>
 (zW N d.1).bind fun r=>
 some (!decide ((w64 (q+r))=0)):Option Bool).bind fun s=>
 if s=true then
 some false
 else
 (qbl N factor.1 factor.2).bind fun t=>
 (qbl N c.1.Density t).bind fun u=>
 if(!(u==d.1.Density))=true then
 some false
 else
 (qcv N c.1 [49,48,48]).bind fun j=>
 if(!decide (j.2=0))=true then
 some false
 else
 (qP N factor g N 0 [48]).bind (fun
 |(.inl v)=>
 (if(j.1==v)=true then
 (awk).bind fun w=>
 some w
 else
 some false:Option Bool).bind fun x=>
 some x
 |(.inr y)=>
 some y)
theorem qb8 (N:Nat) (a:List qw) (b:List qw) (factor:(Str×Str)) {res:Bool} (h:jN N a b factor=some res):qd ZT (.fn 5) [vl qf a,vl qf b,.agg [.str factor.1,.str factor.2]] [] (.bool res) []:=by
 unfold jN at h;refine Ub Tryz.func5 rfl rfl (m:=196) rfl (rs:=[.tmp 6]) rfl (l:=(kAs a [(1,vl qf b),(2,.agg [.str factor.1,.str factor.2])])) rfl ?_;refine sg fol (kV a b []) (kAC factor.1 factor.2 []) ?_;refine sq ?_;refine sq ?_;obtain⟨b15,d,h⟩:=bnd h;refine Goes.cut (s':=(ofG 196 (kV a b [(64,.bool b15)]),(kAC factor.1 factor.2 []))) ?_ ?_
 ·obtain⟨r1,y,d⟩:=bnd d;rcases wyB d with⟨c2,d⟩|⟨c2,d⟩
  ·obtain rfl:=si d;exact tr fol [1,3] (kV a b [(64,.bool true)]) (ac (cv (qH N a y)) (ac (gw c2) az))
  obtain⟨r3,B,d⟩:=bnd d;rcases wyB d with⟨c4,d⟩|⟨c4,d⟩
  ·obtain rfl:=si d;exact tr fol [1,3,5,8] (kV a b [(64,.bool true)]) (ac (cv (qH N a y)) (ac (gw c2) (ac (cv (qH N b B)) (ac (gw c4) az))))
  obtain⟨r5,G,d⟩:=bnd d;rcases wyB d with⟨c6,d⟩|⟨c6,d⟩
  ·obtain rfl:=si d;exact tr fol [1,3,5,8,11,14] (kV a b [(64,.bool true)]) (ac (cv (qH N a y)) (ac (gw c2) (ac (cv (qH N b B)) (ac (gw c4) (ac (cv (zi N factor.1 6 G)) (ac (gw c6) az))))))
  obtain⟨r7,L,d⟩:=bnd d;rcases wyB d with⟨c8,d⟩|⟨c8,d⟩
  ·obtain rfl:=si d;exact tr fol [1,3,5,8,11,14,17,20] (kV a b [(64,.bool true)]) (ac (cv (qH N a y)) (ac (gw c2) (ac (cv (qH N b B)) (ac (gw c4) (ac (cv (zi N factor.1 6 G)) (ac (gw c6) (ac (cv (zi N factor.2 6 L)) (ac (gw c8) az))))))))
  obtain⟨r9,P,d⟩:=bnd d;obtain⟨r10,I,d⟩:=bnd d;rcases wyB d with⟨a1,d⟩|⟨a1,d⟩
  ·obtain rfl:=si d;exact tr fol [1,3,5,8,11,14,17,20,23,26,30] (kV a b [(64,.bool true)]) (ac (cv (qH N a y)) (ac (gw c2) (ac (cv (qH N b B)) (ac (gw c4) (ac (cv (zi N factor.1 6 G)) (ac (gw c6) (ac (cv (zi N factor.2 6 L)) (ac (gw c8) (ac (cv (jS N factor.1 P)) (ac (cv (jS N factor.2 I)) (ac (gw a1) az)))))))))))
  obtain⟨r12,U,d⟩:=bnd d;rcases wyD d with⟨c13,d⟩|⟨c13,d⟩
  ·obtain rfl:=si d;exact tr fol [1,3,5,8,11,14,17,20,23,26,30,33,36] (kV a b [(64,.bool true)]) (ac (cv (qH N a y)) (ac (gw c2) (ac (cv (qH N b B)) (ac (gw c4) (ac (cv (zi N factor.1 6 G)) (ac (gw c6) (ac (cv (zi N factor.2 6 L)) (ac (gw c8) (ac (cv (jS N factor.1 P)) (ac (cv (jS N factor.2 I)) (ac (gw a1) (ac (cv (qcu N factor.1 [49] U)) (ac (gw c13) az)))))))))))))
  obtain⟨r14,e_r14,d⟩:=bnd d;obtain rfl:=si d;exact tr fol [1,3,5,8,11,14,17,20,23,26,30,33,36,39] (kV a b [(64,.bool (decide (r14>0)))]) (ac (cv (qH N a y)) (ac (gw c2) (ac (cv (qH N b B)) (ac (gw c4) (ac (cv (zi N factor.1 6 G)) (ac (gw c6) (ac (cv (zi N factor.2 6 L)) (ac (gw c8) (ac (cv (jS N factor.1 P)) (ac (cv (jS N factor.2 I)) (ac (gw a1) (ac (cv (qcu N factor.1 [49] U)) (ac (gw c13) (ac (cv (qcu N factor.2 [49] e_r14)) az))))))))))))))
 refine ihB h (fun c17 h=>?_) (fun c17 h=>?_)
 ·obtain⟨r18,e_r18,h⟩:=bnd h;refine sq (gr fol [0] [(6,.bool r18)] (ac (cv (qpA e_r18)) az) ?_);refine Goes.ret ?_;obtain rfl:=si h;exact(gw2 [.bool r18] (Ua tB))
 refine Goes.skip ?_;obtain⟨k,e_r19,h⟩:=bnd h;refine sq (gq fol [3] (kV a b [(7,.ptr 1 0),(8,.i k.2)]) (kAC factor.1 factor.2 (kB k.1.Name k.1.Density k.1.Twist k.1.Strength k.1.Dye [])) (ac (cv (qdf N [120] a [48] factor.1 e_r19)) az) ?_);obtain⟨n,e_r20,h⟩:=bnd h;refine sq (gq fol [3] (kV a b [(7,.ptr 1 0),(8,.i k.2),(9,.ptr 2 0),(10,.i n.2)]) (kAC factor.1 factor.2 (kB k.1.Name k.1.Density k.1.Twist k.1.Strength k.1.Dye (kB n.1.Name n.1.Density n.1.Twist n.1.Strength n.1.Dye []))) (ac (cv (qdf N [121] b [48] factor.1 e_r20)) az) ?_);obtain⟨f,e_r21,h⟩:=bnd h;refine sq (gq fol [5] (kV a b [(8,.i k.2),(10,.i n.2),(11,.ptr 4 0),(12,.i f.2)]) (kAC factor.1 factor.2 (kB k.1.Name k.1.Density k.1.Twist k.1.Strength k.1.Dye (kB n.1.Name n.1.Density n.1.Twist n.1.Strength n.1.Dye (.frozen [.str k.1.Name,.str k.1.Density,.str k.1.Twist,vl qh k.1.Strength,.str k.1.Dye,.str n.1.Name,.str n.1.Density,.str n.1.Twist,vl qh n.1.Strength,.str n.1.Dye]::(kB f.1.Name f.1.Density f.1.Twist f.1.Strength f.1.Dye []))))) (ac (hs (.callF 9 [.str [122],.slice 3 0 2 2 5,.str [48],.str factor.2] (kAC factor.1 factor.2 (kB k.1.Name k.1.Density k.1.Twist k.1.Strength k.1.Dye (kB n.1.Name n.1.Density n.1.Twist n.1.Strength n.1.Dye [.cells [.str k.1.Name,.str k.1.Density,.str k.1.Twist,vl qh k.1.Strength,.str k.1.Dye,.str n.1.Name,.str n.1.Density,.str n.1.Twist,vl qh n.1.Strength,.str n.1.Dye]]))) [3] [.str [122],vl qf ([k.1,n.1]:List qw),.str [48],.str factor.2] (.tuple (kAj f.1.Name f.1.Density f.1.Twist f.1.Strength f.1.Dye [.i f.2]))) (qax (FzL.cons (Uf tS) (FzL.cons (Fz.lit rfl rfl (Ue (AllST.cons tS (AllST.cons tS (AllST.cons tS (AllST.cons (qA qh _ (nl rfl)) (AllST.cons tS (AllST.cons tS (AllST.cons tS (AllST.cons tS (AllST.cons (qA qh _ (nl rfl)) (AllST.cons tS AllST.nil)))))))))))) (FzL.cons (Uf tS) (FzL.cons (Uf tS) FzL.nil)))) (qdf N [122] ([k.1,n.1]:List qw) [48] factor.2 e_r21) (Still.tuple (AllST.cons (Still.agg (AllST.cons tS (AllST.cons tS (AllST.cons tS (AllST.cons (qA qh _ (nl rfl)) (AllST.cons tS AllST.nil)))))) (AllST.cons tI AllST.nil))))) az) ?_);refine Goes.sub (show Sub (ofG 196 (kV a b [(8,.i k.2),(10,.i n.2),(11,.ptr 4 0),(12,.i f.2)]),(kAC factor.1 factor.2 (kB k.1.Name k.1.Density k.1.Twist k.1.Strength k.1.Dye (kB n.1.Name n.1.Density n.1.Twist n.1.Strength n.1.Dye (.frozen [.str k.1.Name,.str k.1.Density,.str k.1.Twist,vl qh k.1.Strength,.str k.1.Dye,.str n.1.Name,.str n.1.Density,.str n.1.Twist,vl qh n.1.Strength,.str n.1.Dye]::(kB f.1.Name f.1.Density f.1.Twist f.1.Strength f.1.Dye [])))))) (ofG 196 (kV a b [(8,.i k.2),(10,.i n.2),(11,.ptr 1 0),(12,.i f.2)]),(kAC factor.1 factor.2 (kB f.1.Name f.1.Density f.1.Twist f.1.Strength f.1.Dye [])))from(Sub.norm [] [some 0,some 4] rfl rfl (.keep (.same (qg qf _)) (.keep (.same (qg qf _)) (.kp (.keep (.same nI) (.keep (.same nI) (.kp (.keep (.same nI) .nil))))))) (.kb rfl (.same sn) (.kb rfl (.same sn) .nil)))) ?_;obtain⟨V,e_l22,h⟩:=bnd h;obtain⟨j,e_l23,h⟩:=bnd h;refine sq (gq fol [2,4] (kBH k.2 n.2 f.2 [(13,.oslice 4 j.length 5)]) (kAC factor.1 factor.2 (kB f.1.Name f.1.Density f.1.Twist f.1.Strength f.1.Dye (.dead::(kBD j)))) (ac (hs (.run [2] (xC ZT [22,22] (.slice 2 0 0 0 5) (vl qf a)) (kAC factor.1 factor.2 (kB f.1.Name f.1.Density f.1.Twist f.1.Strength f.1.Dye [.cells []])) (.oslice 3 V.length 5) (kAC factor.1 factor.2 (kB f.1.Name f.1.Density f.1.Twist f.1.Strength f.1.Dye (kBD V))) true) (qbX qh3 (E:=qf) rfl (qof (E:=qf) rfl _) (qrz (E:=qf) rfl rfl rfl e_l22 rfl))) (ac (hs (.run [3] (xC ZT [22,22] (.oslice 3 V.length 5) (vl qf b)) (kAC factor.1 factor.2 (kB f.1.Name f.1.Density f.1.Twist f.1.Strength f.1.Dye (kBD V))) (.oslice 4 j.length 5) (kAC factor.1 factor.2 (kB f.1.Name f.1.Density f.1.Twist f.1.Strength f.1.Dye (.dead::(kBD j)))) true) (qbX qh3 (E:=qf) rfl (qof (E:=qf) rfl _) (qrt (E:=qf) (l:=V) rfl rfl rfl e_l23 rfl))) az)) ?_);obtain⟨o,e_r24,h⟩:=bnd h;refine sq (gq fol [1] (kBH k.2 n.2 f.2 [(13,.oslice 4 j.length 5),(14,.ptr 5 0),(15,.i o.2)]) (kAC factor.1 factor.2 (kB f.1.Name f.1.Density f.1.Twist f.1.Strength f.1.Dye (.dead:: .dead:: .frozen (j.flatMap qf.c)::(kB o.1.Name o.1.Density o.1.Twist o.1.Strength o.1.Dye [])))) (ac (hs (.callF 9 [.str [122],.oslice 4 j.length 5,.str [48],.str [49]] (kAC factor.1 factor.2 (kB f.1.Name f.1.Density f.1.Twist f.1.Strength f.1.Dye (.dead::(kBD j)))) [4] [.str [122],vl qf j,.str [48],.str [49]] (.tuple (kAj o.1.Name o.1.Density o.1.Twist o.1.Strength o.1.Dye [.i o.2]))) (qax (FzL.cons (Uf tS) (FzL.cons (Fz.os (E:=qf) rfl rfl (nl rfl)) (FzL.cons (Uf tS) (FzL.cons (Uf tS) FzL.nil)))) (qdf N [122] j [48] [49] e_r24) (Still.tuple (AllST.cons (Still.agg (AllST.cons tS (AllST.cons tS (AllST.cons tS (AllST.cons (qA qh _ (nl rfl)) (AllST.cons tS AllST.nil)))))) (AllST.cons tI AllST.nil))))) az) ?_);refine Goes.sub (show Sub (ofG 196 (kBH k.2 n.2 f.2 [(13,.oslice 4 j.length 5),(14,.ptr 5 0),(15,.i o.2)]),(kAC factor.1 factor.2 (kB f.1.Name f.1.Density f.1.Twist f.1.Strength f.1.Dye (.dead:: .dead:: .frozen (j.flatMap qf.c)::(kB o.1.Name o.1.Density o.1.Twist o.1.Strength o.1.Dye []))))) (ofG 196 (kBH k.2 n.2 f.2 [(13,vl qf j),(14,.ptr 2 0),(15,.i o.2)]),(kAC factor.1 factor.2 (kB f.1.Name f.1.Density f.1.Twist f.1.Strength f.1.Dye (kB o.1.Name o.1.Density o.1.Twist o.1.Strength o.1.Dye []))))from(Sub.norm [4] [some 0,some 1,some 5] rfl rfl (.kp (.keep (.same nI) (.keep (.same nI) (.kp (.keep (.same nI) (.keep (.frz (Fz.osF (E:=qf) rfl rfl (nl rfl)) (qg qf _)) (.kp (.keep (.same nI) .nil)))))))) (.kb rfl (.same sn) (.kb rfl (.same sn) (.kb rfl (.same sn) .nil))))) ?_;refine sq ?_;refine sq ?_;obtain⟨b36,g,h⟩:=bnd h;refine Goes.cut (s':=(ofG 196 [(5,.ptr 0 0),(11,.ptr 1 0),(13,vl qf j),(14,.ptr 2 0),(143,.bool b36)],(kAC factor.1 factor.2 (kB f.1.Name f.1.Density f.1.Twist f.1.Strength f.1.Dye (kB o.1.Name o.1.Density o.1.Twist o.1.Strength o.1.Dye []))))) ?_ ?_
 ·rcases wyB g with⟨C,g⟩|⟨C,g⟩
  ·obtain rfl:=si g;exact tr fol [2] (kY j) (ac (gw C) az)
  rcases wyB g with⟨H,g⟩|⟨H,g⟩
  ·obtain rfl:=si g;exact tr fol [2,6] (kY j) (ac (gw C) (ac (gw H) az))
  rcases wyB g with⟨J,g⟩|⟨J,g⟩
  ·obtain rfl:=si g;exact tr fol [2,6,10] (kY j) (ac (gw C) (ac (gw H) (ac (gw J) az)))
  rcases wyB g with⟨O,g⟩|⟨O,g⟩
  ·obtain rfl:=si g;exact tr fol [2,6,10,14] (kY j) (ac (gw C) (ac (gw H) (ac (gw J) (ac (gw O) az))))
  rcases wyB g with⟨Z,g⟩|⟨Z,g⟩
  ·obtain rfl:=si g;exact tr fol [2,6,10,14,20] (kY j) (ac (gw C) (ac (gw H) (ac (gw J) (ac (gw O) (ac (gw Z) az)))))
  rcases wyB g with⟨a2,g⟩|⟨a2,g⟩
  ·obtain rfl:=si g;exact tr fol [2,6,10,14,20,26] (kY j) (ac (gw C) (ac (gw H) (ac (gw J) (ac (gw O) (ac (gw Z) (ac (gw a2) az))))))
  obtain⟨r,D,g⟩:=bnd g;obtain⟨t,F,g⟩:=bnd g;rcases wyB g with⟨c33,g⟩|⟨c33,g⟩
  ·obtain rfl:=si g;exact tr fol [2,6,10,14,20,26,29,30,33,34,35,37] (kY j) (ac (gw C) (ac (gw H) (ac (gw J) (ac (gw O) (ac (gw Z) (ac (gw a2) (ac (iv qee qh D) (ac (la qmm qh D) (ac (iv qee qh F) (ac (la qmm qh F) (ac (hs (.done (.opt (ze ZT .neq 45 (.tmp 129) (.tmp 133) (.agg (kBF r.X r.Y)) (.agg (kBF t.X t.Y)))) (.bool (!((r.X==t.X)&&((r.Y==t.Y)&&true))))) (qrA qrE (e:=((r.X==t.X)&&((r.Y==t.Y)&&true))) (.cons (a:= .str r.X) (b:= .str t.X) rfl (by kernel_rfl) (by kernel_rfl) (by kernel_rfl) (.cons (a:= .str r.Y) (b:= .str t.Y) rfl (by kernel_rfl) (by kernel_rfl) (by kernel_rfl) .nil)))) (ac (gw c33) az))))))))))))
  obtain⟨r34,e_r34,g⟩:=bnd g;obtain⟨r35,e_r35,g⟩:=bnd g;obtain rfl:=si g;exact tr fol [2,6,10,14,20,26,29,30,33,34,35,37,39,41] [(5,.ptr 0 0),(11,.ptr 1 0),(13,vl qf j),(14,.ptr 2 0),(143,.bool (!decide ((w64 (r34+r35))=0)))] (ac (gw C) (ac (gw H) (ac (gw J) (ac (gw O) (ac (gw Z) (ac (gw a2) (ac (iv qee qh D) (ac (la qmm qh D) (ac (iv qee qh F) (ac (la qmm qh F) (ac (hs (.done (.opt (ze ZT .neq 45 (.tmp 129) (.tmp 133) (.agg (kBF r.X r.Y)) (.agg (kBF t.X t.Y)))) (.bool (!((r.X==t.X)&&((r.Y==t.Y)&&true))))) (qrA qrE (e:=((r.X==t.X)&&((r.Y==t.Y)&&true))) (.cons (a:= .str r.X) (b:= .str t.X) rfl (by kernel_rfl) (by kernel_rfl) (by kernel_rfl) (.cons (a:= .str r.Y) (b:= .str t.Y) rfl (by kernel_rfl) (by kernel_rfl) (by kernel_rfl) .nil)))) (ac (gw c33) (ac (cv (jD N f.1 e_r34)) (ac (cv (jD N o.1 e_r35)) az))))))))))))))
 refine ihB h (fun c38 h=>?_) (fun c38 h=>?_)
 ·refine sh fol kBT ?_;refine Goes.ret ?_;obtain rfl:=si h;exact(gw2 [.bool false] (Ua tB))
 refine Goes.skip ?_;refine sq ?_;obtain⟨r39,e_r39,h⟩:=bnd h;obtain⟨r40,e_r40,h⟩:=bnd h;refine sq (gr fol [6,7] [(5,.ptr 0 0),(11,.ptr 1 0),(13,vl qf j),(154,.bool (!(r40==o.1.Density)))] (ac (cv (qco N factor.1 factor.2 e_r39)) (ac (cv (qco N f.1.Density r39 e_r40)) az)) ?_);refine ihB h (fun c41 h=>?_) (fun c41 h=>?_)
 ·refine sh fol kBT ?_;refine Goes.ret ?_;obtain rfl:=si h;exact(gw2 [.bool false] (Ua tB))
 refine Goes.skip ?_;obtain⟨q,e_r42,h⟩:=bnd h;refine sq (gr fol [1] [(5,.ptr 0 0),(13,vl qf j),(16,.str q.1),(17,.i q.2)] (ac (cv (qgh N f.1 [49,48,48] e_r42)) az) ?_);refine sq ?_;refine sh fol [(5,.ptr 0 0),(13,vl qf j),(16,.str q.1),(161,.bool (!decide (q.2=0)))] ?_;refine ihB h (fun c43 h=>?_) (fun c43 h=>?_)
 ·refine sh fol kBT ?_;refine Goes.ret ?_;obtain rfl:=si h;exact(gw2 [.bool false] (Ua tB))
 refine Goes.skip ?_;refine sh fol [(5,.ptr 0 0),(13,vl qf j),(16,.str q.1),(18,.str [48])] ?_;refine sq ?_;refine sh fol [(5,.ptr 0 0),(16,.str q.1),(18,.str [48]),(162,vl qf j),(163,.i (j.length:Int)),(164,.i 0)] ?_;refine Goes.block ?_;obtain⟨r47,p,h⟩:=bnd h;refine Goes.imp (Q:=fun x s'=>(x= .exit 0/\ ∃s46,(.inl s46)=r47/\Sub s' (ofG 196 [(16,.str q.1),(18,.str s46)],[]))\/(x= .ret/\ ∃q48,(.inr q48)=r47/\jb ZT [.tmp 6] (.bool q48) .ret s')) ?_ ?_
 ·refine Goes.sub (s':=(ofG 196 [(5,.ptr 0 0),(16,.str q.1),(18,.str [48]),(162,vl qf j),(163,.i (j.length:Int)),(164,.i 0)],(kAC factor.1 factor.2 []))) (Sub.norm [] [some 0] rfl rfl (.kp (.keep (.same nS) (.keep (.same nS) (.keep (.same (qg qf _)) (.keep (.same nI) (.keep (.same nI) .nil)))))) (.kb rfl (.same sn) .nil)) ?_;refine Uc (fun M s=> ∃(w:Int) (A:Str),s=(ofG 196 (kAT q.1 A (kAP j (j.length:Int) w [])),(kAC factor.1 factor.2 []))/\qP N factor j M w A=some r47) ?_ (m:=N) ⟨_,_,rfl,p⟩;rintro M s ⟨w,A,rfl,p⟩
  cases M with
  |zero=>simp only[qP]at p;cases p
  |succ M=>
   rw[qP]at p;refine sh fol (kAT q.1 A (kAP j (j.length:Int) w [(165,.bool (decide (w<(j.length:Int))))])) ?_;refine sq ?_;refine ihD p (fun c49 p=>?_) (fun c49 p=>?_)
   ·refine Goes.skip ?_;refine sq (Goes.block ?_);obtain⟨z,a0,p⟩:=bnd p;refine sq (gq fol [0,1] (kAT q.1 A ((20,.ptr 1 0)::(kAP j (j.length:Int) w []))) (kAC factor.1 factor.2 (kB z.Name z.Density z.Twist z.Strength z.Dye [])) (ac (iv qh3 qf a0) (ac (la qnJ qf a0) az)) ?_);obtain⟨r51,e_r51,p⟩:=bnd p;obtain⟨r52,e_r52,p⟩:=bnd p;obtain⟨K,e_r53,p⟩:=bnd p;refine sq (gr fol [5,6,7] (kAT q.1 A ((21,.str K.1)::(22,.i K.2)::(kAP j (j.length:Int) w []))) (ac (cv (qco N factor.1 factor.2 e_r51)) (ac (cv (qkq N [49,48,48] r51 e_r52)) (ac (cv (qgh N z r52 e_r53)) az))) ?_);refine sq ?_;refine sq ?_;obtain⟨b56,u,p⟩:=bnd p;refine Goes.cut (s':=(ofG 196 (kAT q.1 A ((21,.str K.1)::(kAP j (j.length:Int) w [(185,.bool b56)]))),(kAC factor.1 factor.2 (kB z.Name z.Density z.Twist z.Strength z.Dye [])))) ?_ ?_
    ·rcases wyB u with⟨c54,u⟩|⟨c54,u⟩
     ·obtain rfl:=si u;exact tr fol [2] (kAT q.1 A ((21,.str K.1)::(kAP j (j.length:Int) w [(185,.bool true)]))) (ac (gw c54) az)
     obtain⟨r55,e_r55,u⟩:=bnd u;obtain rfl:=si u;exact tr fol [2,4] (kAT q.1 A ((21,.str K.1)::(kAP j (j.length:Int) w [(185,.bool (!decide (r55=0)))]))) (ac (gw c54) (ac (cv (yU N K.1 e_r55)) az))
    refine ihB p (fun c58 p=>?_) (fun c58 p=>?_)
    ·refine sh fol kBT ?_;refine Goes.ret ?_;obtain rfl:=si p;exact Or.inr (⟨rfl,_,rfl,(gw2 [.bool false] (Ua tB))⟩)
    refine Goes.skip ?_;obtain⟨r59,e_r59,p⟩:=bnd p;refine gr fol [2] (kAT q.1 r59 (kAP j (j.length:Int) w [])) (ac (cv (qgi N A K.1 e_r59)) az) ?_;refine gh fol (kAT q.1 r59 (kAP j (j.length:Int) (w64 (w+1)) [])) ?_;exact⟨M,(ofG 196 (kAT q.1 r59 (kAP j (j.length:Int) (w64 (w+1)) [])),(kAC factor.1 factor.2 [])),Nat.lt_succ_self _,(Sub.norm [] [some 0] rfl rfl (.kp (.keep (.same nS) (.keep (.same nS) (.keep (.same (qg qf _)) (.keep (.same nI) (.keep (.same nI) .nil)))))) (.kb rfl (.same sn) .nil)),_,_,rfl,p⟩
   refine Goes.exit ?_;obtain rfl:=si p;exact Or.inl (⟨rfl,_,rfl,(Sub.norm [] [] rfl rfl (.drop (.keep (.same nS) (.keep (.same nS) .nil))) .nil)⟩)
 rintro x s' (⟨rfl,s46,rfl,hsub⟩|⟨rfl,q64,rfl,hret⟩)
 ·try dsimp only at h
  refine Goes.sub hsub ?_;refine sq ?_;obtain⟨b62,v,h⟩:=bnd h;refine Goes.cut (s':=(ofG 196 [(6,.bool b62)],[])) ?_ ?_
  ·rcases wyB v with⟨c60,v⟩|⟨c60,v⟩
   ·obtain⟨r61,e_r61,v⟩:=bnd v;obtain rfl:=si v;exact tr fol [3,4] [(6,.bool r61)] (ac (gw c60) (ac (cv (qpA e_r61)) az))
   obtain rfl:=si v;exact tr fol [3] kBT (ac (gw c60) az)
  refine Goes.ret ?_;obtain rfl:=si h;exact(gw2 [.bool b62] (Ua tB))
 try dsimp only at h
 obtain rfl:=si h;exact hret
def zG (N:Nat) (y:qw) (e:Str):Nat->Int->Int->Option Int
 |0,_,_=>none
 |K+1,f,a=>
  if a<(y.Strength.length:Int)then
  (((idx y.Strength a).bind fun b=>
  (qaS N b.X e).bind fun c=>
  if c<=0 then
  some a
  else
  some f:Option Int)).bind fun d=>
  zG N y e K d (w64 (a+1))
  else
  some f
def qeQ (N:Nat) (y:qw):Option (Str×Int):=
 (yB y.Twist).bind fun c=>
 ((if c<0 then
 (qcy N [48] y.Twist).bind fun d=>
 some d
 else
 some y.Twist:Option Str)).bind fun e=>
 (zG N y e N (-1) 0).bind fun b=>
 if b<0 then
 some ([],7)
 else
 (idx y.Strength b).bind fun a=>
 some (a.Y,0)
end Go.Av
