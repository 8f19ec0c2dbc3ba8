/-
  The walk of the law.
-/
import Derived.Test.YtphbhegcojmijaaGreatDoorQGenC4
import Derived.Test.YtphbhegcojmijaaGreatDoorAvAwkC
noncomputable section
namespace Go.Av
open Go.Proofs Go.RowKit
set_option linter.unusedSectionVars false
set_option linter.unusedVariables false
set_option linter.unusedSimpArgs false
set_option maxRecDepth 100000
def awk:Option Bool:=some true
theorem qij {res:Bool} (h:awk=some res):qf Tryz.prog (.fn 6) [] [] (.bool res) []:=by
 obtain rfl:=si h
 exact qo1
def qO (N:Nat) (l:List qb) (day:Int):Nat→Str→Int→Option (Str⊕Bool)
 |0,_,_=>none
 |K+1,s26,n27=>
  if n27<(l.length:Int)then
  (idx l n27).bind fun x32=>
  (xQ N s26 x32).bind fun r33=>
  if(!decide (r33.2=0))=true then
  some (.inr false)
  else
  (vO N r33.1).bind fun r35=>
  (qaE N r35.1 day).bind fun r36=>
  (cut l 0 (w64 (n27+1))).bind fun s37=>
  (qaE N s37 day).bind fun r38=>
  (if(!decide (r35.2.2=0))=true then
  some true
  else
  if(!decide (r36.2=0))=true then
  some true
  else
  if(!decide (r38.2=0))=true then
  some true
  else
  (cut l 0 (w64 (n27+1))).bind fun s42=>
  (vM N r35.1 s42).bind fun r43=>
  if(!r43)=true then
  some true
  else
  (vY N r36.1 r38.1).bind fun r45=>
  some (!r45):Option Bool).bind fun b46=>
  if b46=true then
  some (.inr false)
  else
  qO N l day K r33.1 (w64 (n27+1))
  else
  some (.inl s26)
def qD (s59:List qb):Nat→(List qb)→Int→Option (List qb)
 |0,_,_=>none
 |K+1,l60,n61=>
  if n61<(s59.length:Int)then
  (idx s59 n61).bind fun x65=>
  (app 88 l60 [(⟨w64 (n61+1),x65.Kind,x65.Names,x65.Values,x65.Text⟩:qb)]).bind fun l66=>
  qD s59 K l66 (w64 (n61+1))
  else
  some l60
def jV (N:Nat) (l:List qb) (at_:Int) (day:Int):Option Bool:=
 (j6 N l 14).bind fun r1=>
 if(!r1)=true then
 (awk).bind fun r3=>
 some r3
 else
 (yF N l).bind fun r4=>
 (if(!decide (r4.2.2=0))=true then
 some (at_,true)
 else
 if day<0 then
 some (at_,true)
 else
 some (at_,decide (day>99999)):Option (Int×Bool)).bind fun(n7,b8)=>
 if b8=true then
 (awk).bind fun r11=>
 some r11
 else
 (qcj N l).bind fun r12=>
 (qmc .i64 (w64 n7) (w64 ((r12.length:Int)+1))).bind fun q13=>
 (cut r12 0 q13).bind fun s14=>
 (vO N s14).bind fun r15=>
 (if(!decide (r15.2.2=0))=true then
 if(!decide (r15.2.2=28))=true then
 some true
 else
 if r15.2.1<0 then
 some true
 else
 if r15.2.1>(s14.length:Int)then
 some true
 else
 some (decide ((r15.1.length:Int)>(l.length:Int)))
 else
 if r15.2.1<0 then
 some true
 else
 if r15.2.1>(s14.length:Int)then
 some true
 else
 some (decide ((r15.1.length:Int)>(l.length:Int))):Option Bool).bind fun b22=>
 if b22=true then
 some false
 else
 (cut s14 0 r15.2.1).bind fun s25=>
 (qO N l day N s25 (r15.1.length:Int)).bind (fun
 |(.inl s28)=>
 if(!(s28==r12))=true then
 some false
 else
 (app 88 ([]:List qb) l).bind fun l50=>
 (app 88 l50 [(⟨w64 ((l.length:Int)+1),[117,110,100,111],[],[],[]⟩:qb)]).bind fun l51=>
 (yh N (l50++[(⟨w64 ((l.length:Int)+1),[117,110,100,111],[],[],[]⟩:qb)])).bind fun r52=>
 (yg N l).bind fun r53=>
 if(r53.1.length:Int)=0 then
 (if r52.2.2=12 then
 (awk).bind fun r56=>
 some r56
 else
 some false:Option Bool).bind fun b57=>
 some b57
 else
 (cut r53.1 0 (w64 ((r53.1.length:Int)-1))).bind fun s59=>
 (qD s59 N ([]:List qb) 0).bind fun l62=>
 (yh N l62).bind fun r67=>
 (if r52.2.2=0 then
 if r67.2.2=0 then
 if r52.1.Day=r67.1.Day then
 if(r52.1.Slings.length:Int)=(r67.1.Slings.length:Int)then
 (jw N (⟨r52.1.Day,r52.1.Slings⟩:qJ) (⟨r67.1.Day,r67.1.Slings⟩:qJ)).bind fun r72=>
 if r72=true then
 (awk).bind fun r74=>
 some r74
 else
 some false
 else
 some false
 else
 some false
 else
 some false
 else
 some false:Option Bool).bind fun b75=>
 some b75
 |(.inr q77)=>
 some q77)
theorem qbc (N:Nat) (l:List qb) (at_:Int) (day:Int) {res:Bool} (h:jV N l at_ day=some res):qf Tryz.prog (.fn 3) [vl qa l,.int .u16 at_,.i day] [] (.bool res) []:=by
 unfold jV at h
 refine Goes.fnW Tryz.func3 rfl rfl (m:=253) rfl (rs:=[.tmp 6]) rfl (l:=(kH l (kBW at_ day []))) rfl ?_
 refine sh fol (kH l (kBW at_ day [])) ?_
 refine sq ?_
 obtain⟨r1,e_r1,h⟩:=bnd h
 refine sq (gr fol [1] (kH l (kBW at_ day [(40,.bool (!r1))])) (ac (cv (qdn N l 14 e_r1)) az) ?_)
 refine ihB h (fun c2 h=>?_) (fun c2 h=>?_)
 ·obtain⟨r3,e_r3,h⟩:=bnd h
  refine sq (gr fol [0] [(6,.bool r3)] (ac (cv (qij e_r3)) az) ?_)
  refine Goes.ret ?_
  obtain rfl:=si h
  exact(gw2 [.bool r3] (FzW.still tB))
 ·refine Goes.skip ?_
  obtain⟨r4,e_r4,h⟩:=bnd h
  refine sq (gq fol [1] (kH l (kBW at_ day [(9,.i r4.2.2)])) (kC r4.1.Day r4.1.Slings []) (ac (cv (qfK N l e_r4)) az) ?_)
  refine sq ?_
  refine sq ?_
  obtain⟨⟨n7,b8⟩,g_v9,h⟩:=bnd h
  refine Goes.cut (s':=(ofG 253 (kH l (kBW n7 day [(57,.bool b8)])),(kC r4.1.Day r4.1.Slings []))) ?_ ?_
  ·rcases wyB g_v9 with⟨c5,g_v9⟩|⟨c5,g_v9⟩
   ·simp only[Option.some.injEq,Prod.mk.injEq]at g_v9
    obtain⟨rfl,rfl⟩:=g_v9
    exact tr fol [2] (kH l (kBW at_ day [(57,.bool true)])) (ac (gw c5) az)
   ·rcases wyD g_v9 with⟨c6,g_v9⟩|⟨c6,g_v9⟩
    ·simp only[Option.some.injEq,Prod.mk.injEq]at g_v9
     obtain⟨rfl,rfl⟩:=g_v9
     exact tr fol [2,6] (kH l (kBW at_ day [(57,.bool true)])) (ac (gw c5) (ac (gw c6) az))
    ·simp only[Option.some.injEq,Prod.mk.injEq]at g_v9
     obtain⟨rfl,rfl⟩:=g_v9
     exact tr fol [2,6] (kH l (kBW at_ day [(57,.bool (decide (day>99999)))])) (ac (gw c5) (ac (gw c6) az))
  try dsimp only at h
  refine ihB h (fun c10 h=>?_) (fun c10 h=>?_)
  ·obtain⟨r11,e_r11,h⟩:=bnd h
   refine sq (gr fol [0] [(6,.bool r11)] (ac (cv (qij e_r11)) az) ?_)
   refine Goes.ret ?_
   obtain rfl:=si h
   exact(gw2 [.bool r11] (FzW.still tB))
  ·refine Goes.skip ?_
   obtain⟨r12,e_r12,h⟩:=bnd h
   refine sq (gr fol [1] (kH l (kBW n7 day [(10,.str r12)])) (ac (cv (qh6 N l e_r12)) az) ?_)
   obtain⟨q13,e_q13,h⟩:=bnd h
   obtain⟨s14,e_s14,h⟩:=bnd h
   refine sq (gr fol [6,7] (kH l [(2,.i day),(10,.str r12),(11,.str s14)]) (ac (hs (.done (.opt (xe Tryz.prog .rem 3 (.tmp 63) (.tmp 66) (.i (w64 n7)) (.i (w64 ((r12.length:Int)+1))))) (.i q13)) (qoq e_q13)) (ac (hs (.done (.opt (qz Tryz.prog 9 (.str r12) none (some (.i q13)) none)) (.str s14)) (yK st9 none (some q13) e_s14)) az)) ?_)
   obtain⟨r15,e_r15,h⟩:=bnd h
   refine sq (gr fol [1] (kH l (kAH day r12 s14 r15.1 r15.2.1 [(14,.i r15.2.2)])) (ac (cv (qaq N s14 e_r15)) az) ?_)
   refine sq ?_
   refine sq ?_
   obtain⟨b22,g_v23,h⟩:=bnd h
   refine Goes.cut (s':=(ofG 253 (kH l (kAH day r12 s14 r15.1 r15.2.1 [(97,.bool b22)])),(kC r4.1.Day r4.1.Slings []))) ?_ ?_
   ·rcases wyB g_v23 with⟨c16,g_v23⟩|⟨c16,g_v23⟩
    ·rcases wyB g_v23 with⟨c17,g_v23⟩|⟨c17,g_v23⟩
     ·obtain rfl:=si g_v23
      exact tr fol [2,6] (kH l (kAH day r12 s14 r15.1 r15.2.1 [(97,.bool true)])) (ac (gw c16) (ac (gw c17) az))
     ·rcases wyD g_v23 with⟨c18,g_v23⟩|⟨c18,g_v23⟩
      ·obtain rfl:=si g_v23
       exact tr fol [2,6,10] (kH l (kAH day r12 s14 r15.1 r15.2.1 [(97,.bool true)])) (ac (gw c16) (ac (gw c17) (ac (gw c18) az)))
      ·rcases wyD g_v23 with⟨c19,g_v23⟩|⟨c19,g_v23⟩
       ·obtain rfl:=si g_v23
        exact tr fol [2,6,10,16] (kH l (kAH day r12 s14 r15.1 r15.2.1 [(97,.bool true)])) (ac (gw c16) (ac (gw c17) (ac (gw c18) (ac (gw c19) az))))
       ·obtain rfl:=si g_v23
        exact tr fol [2,6,10,16] (kH l (kAH day r12 s14 r15.1 r15.2.1 [(97,.bool (decide ((r15.1.length:Int)>(l.length:Int))))])) (ac (gw c16) (ac (gw c17) (ac (gw c18) (ac (gw c19) az))))
    ·rcases wyD g_v23 with⟨c20,g_v23⟩|⟨c20,g_v23⟩
     ·obtain rfl:=si g_v23
      exact tr fol [2,10] (kH l (kAH day r12 s14 r15.1 r15.2.1 [(97,.bool true)])) (ac (gw c16) (ac (gw c20) az))
     ·rcases wyD g_v23 with⟨c21,g_v23⟩|⟨c21,g_v23⟩
      ·obtain rfl:=si g_v23
       exact tr fol [2,10,16] (kH l (kAH day r12 s14 r15.1 r15.2.1 [(97,.bool true)])) (ac (gw c16) (ac (gw c20) (ac (gw c21) az)))
      ·obtain rfl:=si g_v23
       exact tr fol [2,10,16] (kH l (kAH day r12 s14 r15.1 r15.2.1 [(97,.bool (decide ((r15.1.length:Int)>(l.length:Int))))])) (ac (gw c16) (ac (gw c20) (ac (gw c21) az)))
   refine ihB h (fun c24 h=>?_) (fun c24 h=>?_)
   ·refine sh fol kAu ?_
    refine Goes.ret ?_
    obtain rfl:=si h
    exact(gw2 [.bool false] (FzW.still tB))
   ·refine Goes.skip ?_
    obtain⟨s25,e_s25,h⟩:=bnd h
    refine sq (gr fol [2] (kH l [(2,.i day),(10,.str r12),(12,vl qa r15.1),(15,.str s25)]) (ac (hs (.done (.opt (qz Tryz.prog 9 (.str s14) none (some (.i r15.2.1)) none)) (.str s25)) (yK st9 none (some r15.2.1) e_s25)) az) ?_)
    refine sq ?_
    refine sh fol (kH l (kAA day r12 s25 (r15.1.length:Int) [])) ?_
    refine Goes.block ?_
    obtain⟨r29,g29,h⟩:=bnd h
    refine Goes.imp (Q:=fun x s'=>(x= .exit 0∧ ∃s28,(.inl s28)=r29∧Sub s' (ofG 253 (kH l [(10,.str r12),(15,.str s28)]),[]))∨(x= .ret∧ ∃q30,(.inr q30)=r29∧zy Tryz.prog [.tmp 6] (.bool q30) .ret s')) ?_ ?_
    ·refine Goes.sub (s':=(ofG 253 (kH l (kAA day r12 s25 (r15.1.length:Int) [])),[])) (Sub.norm [] [] rfl rfl (.keep (.same (qw qa _)) (.keep (.same nI) (.keep (.same nS) (.keep (.same nS) (.keep (.same nI) .nil))))) .nil) ?_
     refine Goes.loopS (fun M s=> ∃(s26:Str) (n27:Int),s=(ofG 253 (kH l (kAA day r12 s26 n27 [])),[])∧qO N l day M s26 n27=some r29) ?_ (m:=N) ⟨_,_,rfl,g29⟩
     rintro M s ⟨s26,n27,rfl,g29⟩
     cases M with
     |zero=>simp only[qO]at g29;cases g29
     |succ M=>
      rw[qO]at g29
      refine sq ?_
      refine sh fol (kH l (kAA day r12 s26 n27 [(106,.bool (decide (n27<(l.length:Int))))])) ?_
      refine ihD g29 (fun c31 g29=>?_) (fun c31 g29=>?_)
      ·refine Goes.skip ?_
       refine sq (Goes.block ?_)
       obtain⟨x32,e_x32,g29⟩:=bnd g29
       obtain⟨r33,e_r33,g29⟩:=bnd g29
       refine sq (gr fol [3,4,5] (kH l [(2,.i day),(10,.str r12),(16,.i n27),(17,.str r33.1),(18,.i r33.2)]) (ac (iv zV qa e_x32) (ac (la qiv qa e_x32) (ac (cv (qfm N s26 x32 e_r33)) az))) ?_)
       refine sq ?_
       refine sh fol (kH l [(2,.i day),(10,.str r12),(16,.i n27),(17,.str r33.1),(119,.bool (!decide (r33.2=0)))]) ?_
       refine ihB g29 (fun c34 g29=>?_) (fun c34 g29=>?_)
       ·refine sh fol kAu ?_
        refine Goes.ret ?_
        obtain rfl:=si g29
        exact Or.inr (⟨rfl,_,rfl,(gw2 [.bool false] (FzW.still tB))⟩)
       ·refine Goes.skip ?_
        refine sh fol (kH l (kAA day r12 r33.1 n27 [])) ?_
        obtain⟨r35,e_r35,g29⟩:=bnd g29
        refine sq (gr fol [1] (kH l (kAA day r12 r33.1 n27 [(19,vl qa r35.1),(21,.i r35.2.2)])) (ac (cv (qaq N r33.1 e_r35)) az) ?_)
        obtain⟨r36,e_r36,g29⟩:=bnd g29
        refine sq (gr fol [2] (kH l (kAA day r12 r33.1 n27 [(19,vl qa r35.1),(21,.i r35.2.2),(22,vl encS r36.1),(23,.i r36.2)])) (ac (cv (qea N r35.1 day e_r36)) az) ?_)
        obtain⟨s37,e_s37,g29⟩:=bnd g29
        obtain⟨r38,e_r38,g29⟩:=bnd g29
        refine sq (gr fol [3,5] (kH l (kAA day r12 r33.1 n27 [(19,vl qa r35.1),(21,.i r35.2.2),(22,vl encS r36.1),(23,.i r36.2),(24,vl encS r38.1),(25,.i r38.2)])) (ac (hs (.done (.opt (qz Tryz.prog 22 (vl qa l) none (some (.i (w64 (n27+1)))) none)) (vl qa s37)) (qda zV (E:=qa) rfl none (some (w64 (n27+1))) e_s37)) (ac (cv (qea N s37 day e_r38)) az)) ?_)
        refine sq ?_
        obtain⟨b46,g_v47,g29⟩:=bnd g29
        refine Goes.cut (s':=(ofG 253 (kH l (kAA day r12 r33.1 n27 [(166,.bool b46)])),[])) ?_ ?_
        ·rcases wyB g_v47 with⟨c39,g_v47⟩|⟨c39,g_v47⟩
         ·obtain rfl:=si g_v47
          exact tr fol [2] (kH l (kAA day r12 r33.1 n27 [(166,.bool true)])) (ac (gw c39) az)
         ·rcases wyB g_v47 with⟨c40,g_v47⟩|⟨c40,g_v47⟩
          ·obtain rfl:=si g_v47
           exact tr fol [2,6] (kH l (kAA day r12 r33.1 n27 [(166,.bool true)])) (ac (gw c39) (ac (gw c40) az))
          ·rcases wyB g_v47 with⟨c41,g_v47⟩|⟨c41,g_v47⟩
           ·obtain rfl:=si g_v47
            exact tr fol [2,6,10] (kH l (kAA day r12 r33.1 n27 [(166,.bool true)])) (ac (gw c39) (ac (gw c40) (ac (gw c41) az)))
           ·obtain⟨s42,e_s42,g_v47⟩:=bnd g_v47
            obtain⟨r43,e_r43,g_v47⟩:=bnd g_v47
            rcases wyB g_v47 with⟨c44,g_v47⟩|⟨c44,g_v47⟩
            ·obtain rfl:=si g_v47
             exact tr fol [2,6,10,15,16,19] (kH l (kAA day r12 r33.1 n27 [(166,.bool true)])) (ac (gw c39) (ac (gw c40) (ac (gw c41) (ac (hs (.done (.opt (qz Tryz.prog 22 (vl qa l) none (some (.i (w64 (n27+1)))) none)) (vl qa s42)) (qda zV (E:=qa) rfl none (some (w64 (n27+1))) e_s42)) (ac (cv (qa7 N r35.1 s42 e_r43)) (ac (gw c44) az))))))
            ·obtain⟨r45,e_r45,g_v47⟩:=bnd g_v47
             obtain rfl:=si g_v47
             exact tr fol [2,6,10,15,16,19,22] (kH l (kAA day r12 r33.1 n27 [(166,.bool (!r45))])) (ac (gw c39) (ac (gw c40) (ac (gw c41) (ac (hs (.done (.opt (qz Tryz.prog 22 (vl qa l) none (some (.i (w64 (n27+1)))) none)) (vl qa s42)) (qda zV (E:=qa) rfl none (some (w64 (n27+1))) e_s42)) (ac (cv (qa7 N r35.1 s42 e_r43)) (ac (gw c44) (ac (cv (yI N r36.1 r38.1 e_r45)) az)))))))
        refine ihB g29 (fun c48 g29=>?_) (fun c48 g29=>?_)
        ·refine sh fol kAu ?_
         refine Goes.ret ?_
         obtain rfl:=si g29
         exact Or.inr (⟨rfl,_,rfl,(gw2 [.bool false] (FzW.still tB))⟩)
        ·refine Goes.skip ?_
         refine gh fol (kH l (kAA day r12 r33.1 (w64 (n27+1)) [])) ?_
         exact⟨M,(ofG 253 (kH l (kAA day r12 r33.1 (w64 (n27+1)) [])),[]),Nat.lt_succ_self _,(Sub.refl _),_,_,rfl,g29⟩
      ·refine Goes.exit ?_
       obtain rfl:=si g29
       exact Or.inl (⟨rfl,_,rfl,(Sub.keep [0,10,15] rfl rfl)⟩)
    rintro x s' (⟨rfl,s28,rfl,hsub⟩|⟨rfl,q77,rfl,hret⟩)
    ·try dsimp only at h
     refine Goes.sub hsub ?_
     refine sq ?_
     refine sh fol (kH l [(169,.bool (!(s28==r12)))]) ?_
     refine ihB h (fun c49 h=>?_) (fun c49 h=>?_)
     ·refine sh fol kAu ?_
      refine Goes.ret ?_
      obtain rfl:=si h
      exact(gw2 [.bool false] (FzW.still tB))
     ·refine Goes.skip ?_
      obtain⟨l50,e_l50,h⟩:=bnd h
      obtain⟨l51,e_l51,h⟩:=bnd h
      obtain⟨r52,e_r52,h⟩:=bnd h
      refine sq (gq fol [2,8,9] (kH l [(26,.ptr 4 0),(28,.i r52.2.2)]) (.dead:: .dead::(kAd (w64 ((l.length:Int)+1)) (.frozen (l50.flatMap qa.c++[.i (w64 ((l.length:Int)+1)),.str [117,110,100,111],.nilslice,.nilslice,.str []])::(kC r52.1.Day r52.1.Slings [])))) (ac (hs (.run [0] (qR Tryz.prog [22,22] (.slice 0 0 0 0 5) (vl qa l)) [.cells []] (.oslice 1 l50.length 5) (.dead::(kK l50 [])) true) (jG zV (E:=qa) rfl (qdv (E:=qa) rfl _) (qfz (E:=qa) rfl rfl rfl e_l50 rfl))) (ac (hs (.run [1,2] (qR Tryz.prog [22,22] (.oslice 1 l50.length 5) (.slice 2 0 1 1 5)) (.dead::(kK l50 (kAd (w64 ((l.length:Int)+1)) []))) (.oslice 3 (l50.length+1) 5) (.dead:: .dead::(kAd (w64 ((l.length:Int)+1)) [.cells (l50.flatMap qa.c++[.i (w64 ((l.length:Int)+1)),.str [117,110,100,111],.nilslice,.nilslice,.str []])])) true) (qoe zV (E:=qa) (l:=l50) (x:=(⟨w64 ((l.length:Int)+1),[117,110,100,111],[],[],[]⟩:qb)) rfl rfl rfl rfl rfl rfl rfl e_l51 rfl)) (ac (hs (.callF 14 [.oslice 3 (l50.length+1) 5] (.dead:: .dead::(kAd (w64 ((l.length:Int)+1)) [.cells (l50.flatMap qa.c++[.i (w64 ((l.length:Int)+1)),.str [117,110,100,111],.nilslice,.nilslice,.str []])])) [3] [.fslice (l50.length+1) (l50.flatMap qa.c++[.i (w64 ((l.length:Int)+1)),.str [117,110,100,111],.nilslice,.nilslice,.str []])] (.tuple (kAO r52.1.Day r52.1.Slings [.i r52.2.1,.i r52.2.2]))) (qgK (FzL.cons (Fz.mix (E:=qa) rfl rfl rfl rfl (nl rfl) (AllST.cons tI (AllST.cons tS (AllST.cons (Still.nilslice 10) (AllST.cons (Still.nilslice 10) (AllST.cons tS AllST.nil)))))) FzL.nil) ((qf.wk (qcg N (l50++[(⟨w64 ((l.length:Int)+1),[117,110,100,111],[],[],[]⟩:qb)]) e_r52) (WkL.cons (Wk.mix (E:=qa) (x:=(⟨w64 ((l.length:Int)+1),[117,110,100,111],[],[],[]⟩:qb)) (WkL.cons (Wk.refl _) (WkL.cons (Wk.refl _) (WkL.cons (Wk.nilv (E:=encS)) (WkL.cons (Wk.nilv (E:=encI)) (WkL.cons (Wk.refl _) WkL.nil)))))) WkL.nil))) (Still.tuple (AllST.cons (Still.agg (AllST.cons tI (AllST.cons (ko qd _ (nl rfl)) AllST.nil))) (AllST.cons tI (AllST.cons tI AllST.nil)))))) az))) ?_)
      refine Goes.sub (show Sub (ofG 253 (kH l [(26,.ptr 4 0),(28,.i r52.2.2)]),(.dead:: .dead::(kAd (w64 ((l.length:Int)+1)) (.frozen (l50.flatMap qa.c++[.i (w64 ((l.length:Int)+1)),.str [117,110,100,111],.nilslice,.nilslice,.str []])::(kC r52.1.Day r52.1.Slings []))))) (ofG 253 (kH l (kAU r52.2.2 [])),(kC r52.1.Day r52.1.Slings []))from(Sub.norm [] [some 4] rfl rfl (.keep (.same (qw qa _)) (.kp (.keep (.same nI) .nil))) (.kb rfl (.same sn) .nil))) ?_
      obtain⟨r53,e_r53,h⟩:=bnd h
      refine sq (gr fol [1] (kAU r52.2.2 [(29,vl qa r53.1)]) (ac (cv (qcn N l e_r53)) az) ?_)
      refine sq ?_
      refine sh fol (kAU r52.2.2 [(29,vl qa r53.1),(192,.bool (decide ((r53.1.length:Int)=0)))]) ?_
      refine ihD h (fun c54 h=>?_) (fun c54 h=>?_)
      ·refine sq ?_
       obtain⟨b57,g_v58,h⟩:=bnd h
       refine Goes.cut (s':=(ofG 253 [(6,.bool b57)],(kC r52.1.Day r52.1.Slings []))) ?_ ?_
       ·rcases wyD g_v58 with⟨c55,g_v58⟩|⟨c55,g_v58⟩
        ·obtain⟨r56,e_r56,g_v58⟩:=bnd g_v58
         obtain rfl:=si g_v58
         exact tr fol [2,3] [(6,.bool r56)] (ac (gw c55) (ac (cv (qij e_r56)) az))
        ·obtain rfl:=si g_v58
         exact tr fol [2] kAu (ac (gw c55) az)
       refine Goes.ret ?_
       obtain rfl:=si h
       exact(gw2 [.bool b57] (FzW.still tB))
      ·refine Goes.skip ?_
       refine sh fol (kAU r52.2.2 [(29,vl qa r53.1),(32,.nilslice)]) ?_
       refine sq ?_
       obtain⟨s59,e_s59,h⟩:=bnd h
       refine sq (gr fol [4] (kAU r52.2.2 [(32,.nilslice),(202,vl qa s59),(203,.i (s59.length:Int)),(204,.i 0)]) (ac (hs (.done (.opt (qz Tryz.prog 22 (vl qa r53.1) none (some (.i (w64 ((r53.1.length:Int)-1)))) none)) (vl qa s59)) (qda zV (E:=qa) rfl none (some (w64 ((r53.1.length:Int)-1))) e_s59)) az) ?_)
       refine Goes.block ?_
       obtain⟨r63,g63,h⟩:=bnd h
       refine Goes.imp (Q:=fun x s'=>(x= .exit 2∧ ∃l62,l62=r63∧Sub s' (ofG 253 (kAU r52.2.2 [(32,.gslice 1 l62.length 5)]),(kC r52.1.Day r52.1.Slings (kK l62 []))))) ?_ ?_
       ·refine Goes.sub (s':=(ofG 253 (kAU r52.2.2 [(32,.gslice 1 ([]:List qb).length 5),(202,vl qa s59),(203,.i (s59.length:Int)),(204,.i 0)]),(kC r52.1.Day r52.1.Slings [.cells (([]:List qb).flatMap qa.c)]))) (Sub.norm [] [some 0,none] rfl rfl (.kp (.keep (.same nI) (.keep .nil (.keep (.same (qw qa _)) (.keep (.same nI) (.keep (.same nI) .nil)))))) (.kb rfl (.same sn) (.fresh .nil))) ?_
        refine Goes.loopS (fun M s=> ∃(l60:List qb) (n61:Int),s=(ofG 253 (kAU r52.2.2 ((32,.gslice 1 l60.length 5)::(kAx s59 (s59.length:Int) n61 []))),(kC r52.1.Day r52.1.Slings (kK l60 [])))∧qD s59 M l60 n61=some r63) ?_ (m:=N) ⟨_,_,rfl,g63⟩
        rintro M s ⟨l60,n61,rfl,g63⟩
        cases M with
        |zero=>simp only[qD]at g63;cases g63
        |succ M=>
         rw[qD]at g63
         refine sh fol (kAU r52.2.2 ((32,.gslice 1 l60.length 5)::(kAx s59 (s59.length:Int) n61 [(205,.bool (decide (n61<(s59.length:Int))))]))) ?_
         refine sq ?_
         refine ihD g63 (fun c64 g63=>?_) (fun c64 g63=>?_)
         ·refine Goes.skip ?_
          refine sq (Goes.block ?_)
          obtain⟨x65,e_x65,g63⟩:=bnd g63
          refine sq (gq fol [1,2] (kAU r52.2.2 ((32,.gslice 1 l60.length 5)::(33,.i n61)::(34,.ptr 2 0)::(kAx s59 (s59.length:Int) n61 []))) (kC r52.1.Day r52.1.Slings (kK l60 (kAE x65))) (ac (iv zV qa e_x65) (ac (la qiv qa e_x65) az)) ?_)
          refine sg fol (kAU r52.2.2 ((32,.gslice 1 l60.length 5)::(34,.ptr 2 0)::(kAx s59 (s59.length:Int) n61 []))) (kC r52.1.Day r52.1.Slings (kK l60 [.cells [.i (w64 (n61+1)),.str x65.Kind,vl encS x65.Names,vl encI x65.Values,.str x65.Text]])) ?_
          obtain⟨l66,e_l66,g63⟩:=bnd g63
          refine gq fol [3] (kAU r52.2.2 ((32,.gslice 4 l66.length 5)::(kAx s59 (s59.length:Int) n61 []))) (kC r52.1.Day r52.1.Slings (.dead::(kN (w64 (n61+1)) x65.Kind x65.Names x65.Values x65.Text (kK l66 [])))) (ac (hs (.run [1,3] (qR Tryz.prog [22,22] (.gslice 1 l60.length 5) (.slice 3 0 1 1 5)) (kC r52.1.Day r52.1.Slings (kK l60 (kN (w64 (n61+1)) x65.Kind x65.Names x65.Values x65.Text []))) (.gslice 4 l66.length 5) (kC r52.1.Day r52.1.Slings (.dead::(kN (w64 (n61+1)) x65.Kind x65.Names x65.Values x65.Text (kK l66 [])))) true) (jG zV (E:=qa) rfl (qbH (E:=qa) (ys:=[(⟨w64 (n61+1),x65.Kind,x65.Names,x65.Values,x65.Text⟩:qb)]) rfl rfl rfl rfl) (qgQ (E:=qa) (l:=l60) rfl rfl rfl e_l66 rfl))) az) ?_
          refine gh fol (kAU r52.2.2 ((32,.gslice 4 l66.length 5)::(kAx s59 (s59.length:Int) (w64 (n61+1)) []))) ?_
          exact⟨M,(ofG 253 (kAU r52.2.2 ((32,.gslice 1 l66.length 5)::(kAx s59 (s59.length:Int) (w64 (n61+1)) []))),(kC r52.1.Day r52.1.Slings (kK l66 []))),Nat.lt_succ_self _,(Sub.norm [] [some 0,some 4] rfl rfl (.kp (.keep (.same nI) (.keep (.gslice rfl) (.keep (.same (qw qa _)) (.keep (.same nI) (.keep (.same nI) .nil)))))) (.kb rfl (.same sn) (.ks .nil))),_,_,rfl,g63⟩
         ·refine Goes.exit ?_
          obtain rfl:=si g63
          exact⟨rfl,_,rfl,(Sub.keep [26,28,32] rfl rfl)⟩
       rintro x s' ⟨rfl,l62,rfl,hsub⟩
       refine Goes.sub hsub ?_
       obtain⟨r67,e_r67,h⟩:=bnd h
       refine sq (gq fol [1] (kAU r52.2.2 [(35,.ptr 2 0),(37,.i r67.2.2)]) (kC r52.1.Day r52.1.Slings (.frozen (l62.flatMap qa.c)::(kC r67.1.Day r67.1.Slings []))) (ac (hs (.callF 14 [.gslice 1 l62.length 5] (kC r52.1.Day r52.1.Slings (kK l62 [])) [1] [vl qa l62] (.tuple (kAO r67.1.Day r67.1.Slings [.i r67.2.1,.i r67.2.2]))) (qgK (FzL.cons (Fz.gs (E:=qa) rfl rfl (nl rfl)) FzL.nil) (qcg N l62 e_r67) (Still.tuple (AllST.cons (Still.agg (AllST.cons tI (AllST.cons (ko qd _ (nl rfl)) AllST.nil))) (AllST.cons tI (AllST.cons tI AllST.nil)))))) az) ?_)
       refine Goes.sub (show Sub (ofG 253 (kAU r52.2.2 [(35,.ptr 2 0),(37,.i r67.2.2)]),(kC r52.1.Day r52.1.Slings (.frozen (l62.flatMap qa.c)::(kC r67.1.Day r67.1.Slings [])))) (ofG 253 (kAU r52.2.2 [(35,.ptr 1 0),(37,.i r67.2.2)]),(kC r52.1.Day r52.1.Slings (kC r67.1.Day r67.1.Slings [])))from(Sub.norm [] [some 0,some 2] rfl rfl (.kp (.keep (.same nI) (.kp (.keep (.same nI) .nil)))) (.kb rfl (.same sn) (.kb rfl (.same sn) .nil)))) ?_
       refine sq ?_
       obtain⟨b75,g_v76,h⟩:=bnd h
       refine Goes.cut (s':=(ofG 253 [(6,.bool b75)],(kC r52.1.Day r52.1.Slings (kC r67.1.Day r67.1.Slings [])))) ?_ ?_
       ·rcases wyD g_v76 with⟨c68,g_v76⟩|⟨c68,g_v76⟩
        ·rcases wyD g_v76 with⟨c69,g_v76⟩|⟨c69,g_v76⟩
         ·rcases wyD g_v76 with⟨c70,g_v76⟩|⟨c70,g_v76⟩
          ·rcases wyD g_v76 with⟨c71,g_v76⟩|⟨c71,g_v76⟩
           ·obtain⟨r72,e_r72,g_v76⟩:=bnd g_v76
            rcases wyB g_v76 with⟨c73,g_v76⟩|⟨c73,g_v76⟩
            ·obtain⟨r74,e_r74,g_v76⟩:=bnd g_v76
             obtain rfl:=si g_v76
             exact tr fol [2,6,13,22,25,27,28] [(6,.bool r74)] (ac (gw c68) (ac (gw c69) (ac (gw c70) (ac (gw c71) (ac (cv (xG N (⟨r52.1.Day,r52.1.Slings⟩:qJ) (⟨r67.1.Day,r67.1.Slings⟩:qJ) e_r72)) (ac (gw c73) (ac (cv (qij e_r74)) az)))))))
            ·obtain rfl:=si g_v76
             exact tr fol [2,6,13,22,25,27] kAu (ac (gw c68) (ac (gw c69) (ac (gw c70) (ac (gw c71) (ac (cv (xG N (⟨r52.1.Day,r52.1.Slings⟩:qJ) (⟨r67.1.Day,r67.1.Slings⟩:qJ) e_r72)) (ac (gw c73) az))))))
           ·obtain rfl:=si g_v76
            exact tr fol [2,6,13,22] kAu (ac (gw c68) (ac (gw c69) (ac (gw c70) (ac (gw c71) az))))
          ·obtain rfl:=si g_v76
           exact tr fol [2,6,13] kAu (ac (gw c68) (ac (gw c69) (ac (gw c70) az)))
         ·obtain rfl:=si g_v76
          exact tr fol [2,6] kAu (ac (gw c68) (ac (gw c69) az))
        ·obtain rfl:=si g_v76
         exact tr fol [2] kAu (ac (gw c68) az)
       refine Goes.ret ?_
       obtain rfl:=si h
       exact(gw2 [.bool b75] (FzW.still tB))
    ·try dsimp only at h
     obtain rfl:=si h
     exact hret
end Go.Av
