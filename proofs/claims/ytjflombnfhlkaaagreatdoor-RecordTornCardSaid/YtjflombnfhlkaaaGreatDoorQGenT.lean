/-
  The walk of the law.
-/
import Derived.Test.YtjflombnfhlkaaaGreatDoorQGenT4
import Derived.Test.YtjflombnfhlkaaaGreatDoorAvAwk10
noncomputable section
namespace Go.Av
open Go.Proofs Go.RowKit
set_option linter.unusedSectionVars false
set_option linter.unusedVariables false
set_option linter.unusedSimpArgs false
set_option maxRecDepth 100000
def awk:Option Bool:=some true
theorem qkw {res:Bool} (h:awk=some res):qg Tryz.prog (.fn 15) [] [] (.bool res) []:=by
 obtain rfl:=si h
 exact qoO
def zK (N:Nat) (l:List qb):Nat→Int→Int→Int→(List Int)→Int→Str→Option ((Int×Int×Int×(List Int)×Str)⊕Bool)
 |0,_,_,_,_,_,_=>none
 |K+1,n13,n14,n15,l16,n17,s18=>
  if n17<(l.length:Int)then
  (idx l n17).bind fun x27=>
  (qax N s18 x27).bind fun r28=>
  (if(!decide (r28.2=0))=true then
  some true
  else
  some (decide ((r28.1.length:Int)≤(s18.length:Int))):Option Bool).bind fun b30=>
  if b30=true then
  some (.inr false)
  else
  (app 8 l16 [(r28.1.length:Int)]).bind fun l33=>
  zK N l K n13 n14 n15 l33 (w64 (n17+1)) r28.1
  else
  some (.inl (n13,n14,n15,l16,s18))
def zL (l22:List Int) (q34:Int):Nat→Int→Int→Option Int
 |0,_,_=>none
 |K+1,n35,n36=>
  if n35<(l22.length:Int)then
  (((idx l22 n35).bind fun x42=>
  if x42≤q34 then
  some (w64 (n36+1))
  else
  some n36:Option Int)).bind fun n40=>
  zL l22 q34 K (w64 (n35+1)) n40
  else
  some n36
def zO (N:Nat) (s70:List qb):Nat→(List qb)→(Option (List StateT))→Int→Option (((List qb)×(Option (List StateT)))⊕Bool)
 |0,_,_,_=>none
 |K+1,l71,o72,n73=>
  if n73<(s70.length:Int)then
  (idx s70 n73).bind fun x79=>
  (qb2 N x79).bind fun r80=>
  (strings_Index r80 [32]).bind fun r81=>
  (cut r80 (w64 (r81+1)) (r80.length:Int)).bind fun s82=>
  (qB N l71 o72 s82).bind fun(l84,o85,s86,n87)=>
  if(!decide (n87=0))=true then
  some (.inr false)
  else
  zO N s70 K l84 o85 (w64 (n73+1))
  else
  some (.inl (l71,o72))
def zM (N:Nat) (l:List qb):Nat→(List qb)→(Option (List StateT))→Int→Option (((List qb)×(Option (List StateT)))⊕Bool)
 |0,_,_,_=>none
 |K+1,l138,o139,n140=>
  if n140<(l.length:Int)then
  (qB N l138 o139 [117,110,100,111]).bind fun(l147,o148,s149,n150)=>
  (if(!decide (n150=0))=true then
  some (!decide (n150=12))
  else
  some false:Option Bool).bind fun b152=>
  if b152=true then
  some (.inr false)
  else
  zM N l K l147 o148 (w64 (n140+1))
  else
  some (.inl (l138,o139))
def qar (N:Nat) (l:List qb) (at_:(Int×Int×Int)):Option Bool:=
 (vT N l 20).bind fun r1=>
 if(!r1)=true then
 (awk).bind fun r3=>
 some r3
 else
 (yN N l).bind fun r4=>
 (if(!decide (r4.2.2=0))=true then
 some (at_.1,at_.2.1,at_.2.2,true)
 else
 some (at_.1,at_.2.1,at_.2.2,decide ((l.length:Int)=0)):Option (Int×Int×Int×Bool)).bind fun(n6,n7,n8,b9)=>
 if b9=true then
 (awk).bind fun r12=>
 some r12
 else
 (zK N l N n6 n7 n8 ([]:List Int) 0 []).bind (fun
 |(.inl (n19,n20,n21,l22,s23))=>
 (qji .i64 (w64 n19) (w64 ((s23.length:Int)+1))).bind fun q34=>
 (zL l22 q34 N 0 0).bind fun n37=>
 (cut s23 0 q34).bind fun s44=>
 (jf N s44).bind fun r45=>
 (cut s23 0 q34).bind fun s46=>
 (xc N s46).bind fun(l48,o49,ok50,n51)=>
 (xc N s23).bind fun(l53,o54,ok55,n56)=>
 (if(!decide (r45.2.2=0))=true then
 if(!decide (r45.2.2=28))=true then
 some (.inl ())
 else
 (cut l 0 n37).bind fun s59=>
 (jk N r45.1 s59).bind fun r60=>
 if(!r60)=true then
 some (.inl ())
 else
 if(!decide (n51=0))=true then
 some (.inl ())
 else
 if(!decide (n56=0))=true then
 some (.inl ())
 else
 (match ok50 with
 |false=>
 some (.inr (.inl ()))
 |true=>
 (match ok55 with
 |false=>
 some (.inr (.inr (.inl ())))
 |true=>
 some (.inr (.inr (.inr ())))))
 else
 (cut l 0 n37).bind fun s64=>
 (jk N r45.1 s64).bind fun r65=>
 if(!r65)=true then
 some (.inl ())
 else
 if(!decide (n51=0))=true then
 some (.inl ())
 else
 if(!decide (n56=0))=true then
 some (.inl ())
 else
 (match ok50 with
 |false=>
 some (.inr (.inl ()))
 |true=>
 (match ok55 with
 |false=>
 some (.inr (.inr (.inl ())))
 |true=>
 some (.inr (.inr (.inr ()))))):Option (Unit⊕(Unit⊕(Unit⊕Unit)))).bind (fun
 |(.inl ())=>
 some false
 |(.inr (.inl ()))=>
 some false
 |(.inr (.inr (.inl ())))=>
 some false
 |(.inr (.inr (.inr ())))=>
 (cut l n37 (l.length:Int)).bind fun s70=>
 (zO N s70 N l48 o49 0).bind (fun
 |(.inl (l74,o75))=>
 (qB N l74 o75 [115,108,105,110,103,115]).bind fun(l90,o91,s92,n93)=>
 (qB N l53 o54 [115,108,105,110,103,115]).bind fun(l95,o96,s97,n98)=>
 ((vg N l90 o91).bind fun s100=>
 if(!(s100==s23))=true then
 some true
 else
 if(!decide (n93=0))=true then
 some true
 else
 if(!decide (n98=0))=true then
 some true
 else
 some (!(s92==s97)):Option Bool).bind fun b104=>
 if b104=true then
 some false
 else
 (qji .i64 (w64 n20) (s23.length:Int)).bind fun q107=>
 ((idx s23 q107).bind fun c108=>
 if(!decide ((c108.toNat:Int)=10))=true then
 some (!decide ((IntKind.wrap .u8 (IntKind.wrap .u16 (32+(n21.tmod 200))))=(c108.toNat:Int)))
 else
 some false:Option Bool).bind fun b110=>
 ((if b110=true then
 (cut s23 0 q107).bind fun s115=>
 (cat s115 [UInt8.ofNat (IntKind.wrap .u8 (IntKind.wrap .u16 (32+(n21.tmod 200))):Int).toNat]).bind fun s116=>
 (cut s23 (w64 (q107+1)) (s23.length:Int)).bind fun s117=>
 (cat s116 s117).bind fun s118=>
 (jf N s118).bind fun r119=>
 (if r119.2.2=0 then
 some true
 else
 some (decide (r119.2.1=(s23.length:Int))):Option Bool).bind fun b121=>
 if b121=true then
 some (.inr false)
 else
 some (.inl ())
 else
 some (.inl ()):Option (Unit⊕Bool))).bind (fun
 |(.inl ())=>
 ((if(l.length:Int)>1 then
 (qji .i64 (w64 n21) (w64 ((l.length:Int)-1))).bind fun q127=>
 ((if q127>0 then
 (idx l22 (w64 (q127-1))).bind fun x131=>
 some x131
 else
 some 0:Option Int)).bind fun n128=>
 (cut s23 0 n128).bind fun s132=>
 (idx l22 q127).bind fun x133=>
 (cut s23 x133 (s23.length:Int)).bind fun s134=>
 (cat s132 s134).bind fun s135=>
 (jf N s135).bind fun r136=>
 if(!decide (r136.2.2=11))=true then
 some (.inr false)
 else
 some (.inl ())
 else
 some (.inl ()):Option (Unit⊕Bool))).bind (fun
 |(.inl ())=>
 (zM N l N l90 o91 0).bind (fun
 |(.inl (l141,o142))=>
 (jF N l141 o142).bind fun l156=>
 (xR N l156).bind fun r157=>
 (qB N l141 o142 [117,110,100,111]).bind fun(l159,o160,s161,n162)=>
 (if r157.2.2=0 then
 if(r157.1.Slings.length:Int)=0 then
 if r157.1.Day=0 then
 if n162=12 then
 (awk).bind fun r167=>
 some r167
 else
 some false
 else
 some false
 else
 some false
 else
 some false:Option Bool).bind fun b168=>
 some b168
 |(.inr q170)=>
 some q170)
 |(.inr q171)=>
 some q171)
 |(.inr q172)=>
 some q172)
 |(.inr q173)=>
 some q173))
 |(.inr q174)=>
 some q174)
theorem qeC (N:Nat) (l:List qb) (at_:(Int×Int×Int)) {res:Bool} (h:qar N l at_=some res):qg Tryz.prog (.fn 11) [vl qa l,.agg [.int .u16 at_.1,.int .u16 at_.2.1,.int .u16 at_.2.2]] [] (.bool res) []:=by
 unfold qar at h
 refine Goes.fnW Tryz.func11 rfl rfl (m:=345) rfl (rs:=[.tmp 4]) rfl (l:=(kP l [(1,.agg [.int .u16 at_.1,.int .u16 at_.2.1,.int .u16 at_.2.2])])) rfl ?_
 refine sg fol (kP l (kBg [])) (kBY at_.1 at_.2.1 at_.2.2 []) ?_
 refine sq ?_
 obtain⟨r1,e_r1,h⟩:=bnd h
 refine sq (gr fol [1] (kP l (kBg [(53,.bool (!r1))])) (ac (cv (qec N l 20 e_r1)) az) ?_)
 refine ihB h (fun c2 h=>?_) (fun c2 h=>?_)
 ·obtain⟨r3,e_r3,h⟩:=bnd h
  refine sq (gr fol [0] (kBI r3) (ac (cv (qkw e_r3)) az) ?_)
  refine Goes.ret ?_
  obtain rfl:=si h
  exact(gw2 [.bool r3] (FzW.still tB))
 ·refine Goes.skip ?_
  obtain⟨r4,e_r4,h⟩:=bnd h
  refine sq (gq fol [1] (kP l (kBg [(7,.i r4.2.2)])) (kBY at_.1 at_.2.1 at_.2.2 (kG r4.1.Day r4.1.Slings [])) (ac (cv (qgs N l e_r4)) az) ?_)
  refine sq ?_
  refine sq ?_
  obtain⟨⟨n6,n7,n8,b9⟩,g_v10,h⟩:=bnd h
  refine Goes.cut (s':=(ofG 345 (kP l (kBg [(67,.bool b9)])),(kBY n6 n7 n8 (kG r4.1.Day r4.1.Slings [])))) ?_ ?_
  ·rcases wyB g_v10 with⟨c5,g_v10⟩|⟨c5,g_v10⟩
   ·simp only[Option.some.injEq,Prod.mk.injEq]at g_v10
    obtain⟨rfl,rfl,rfl,rfl⟩:=g_v10
    exact tr fol [2] (kP l (kBg [(67,.bool true)])) (ac (gw c5) az)
   ·simp only[Option.some.injEq,Prod.mk.injEq]at g_v10
    obtain⟨rfl,rfl,rfl,rfl⟩:=g_v10
    exact tr fol [2] (kP l (kBg [(67,.bool (decide ((l.length:Int)=0)))])) (ac (gw c5) az)
  try dsimp only at h
  refine ihB h (fun c11 h=>?_) (fun c11 h=>?_)
  ·obtain⟨r12,e_r12,h⟩:=bnd h
   refine sq (gr fol [0] (kBI r12) (ac (cv (qkw e_r12)) az) ?_)
   refine Goes.ret ?_
   obtain rfl:=si h
   exact(gw2 [.bool r12] (FzW.still tB))
  ·refine Goes.skip ?_
   refine sh fol (kP l (kBg [(8,.str [])])) ?_
   refine sh fol (kP l (kBg [(8,.str []),(9,.nilslice)])) ?_
   refine sq ?_
   refine sh fol (kP l (kBg [(8,.str []),(9,.nilslice),(69,vl qa l),(70,.i (l.length:Int)),(71,.i 0)])) ?_
   refine Goes.block ?_
   obtain⟨r24,g24,h⟩:=bnd h
   refine Goes.imp (Q:=fun x s'=>(x= .exit 0∧ ∃n19 n20 n21 l22 s23,(.inl (n19,n20,n21,l22,s23))=r24∧Sub s' (ofG 345 (kC l s23 l22 []),(kF n19 n20 n21 l22 [])))∨(x= .ret∧ ∃q25,(.inr q25)=r24∧zl Tryz.prog [.tmp 4] (.bool q25) .ret s')) ?_ ?_
   ·refine Goes.sub (s':=(ofG 345 (kP l (kBg [(8,.str []),(9,.gslice 1 ([]:List Int).length 1),(69,vl qa l),(70,.i (l.length:Int)),(71,.i 0)])),(kBY n6 n7 n8 kB5))) (Sub.norm [] [some 0,none] rfl rfl (.keep (.same (qm qa _)) (.kp (.keep (.same nS) (.keep .nil (.keep (.same (qm qa _)) (.keep (.same nI) (.keep (.same nI) .nil))))))) (.kb rfl (.same sn) (.fresh .nil))) ?_
    refine Goes.loopS (fun M s=> ∃(n13:Int) (n14:Int) (n15:Int) (l16:List Int) (n17:Int) (s18:Str),s=(ofG 345 (kC l s18 l16 (kAa l (l.length:Int) n17 [])),(kF n13 n14 n15 l16 []))∧zK N l M n13 n14 n15 l16 n17 s18=some r24) ?_ (m:=N) ⟨_,_,_,_,_,_,rfl,g24⟩
    rintro M s ⟨n13,n14,n15,l16,n17,s18,rfl,g24⟩
    cases M with
    |zero=>simp only[zK]at g24;cases g24
    |succ M=>
     rw[zK]at g24
     refine sh fol (kC l s18 l16 (kAa l (l.length:Int) n17 [(72,.bool (decide (n17<(l.length:Int))))])) ?_
     refine sq ?_
     refine ihD g24 (fun c26 g24=>?_) (fun c26 g24=>?_)
     ·refine Goes.skip ?_
      refine sq (Goes.block ?_)
      obtain⟨x27,e_x27,g24⟩:=bnd g24
      refine sq (gq fol [0,1] (kC l s18 l16 ((11,.ptr 2 0)::(kAa l (l.length:Int) n17 []))) (kF n13 n14 n15 l16 (kW x27 [])) (ac (iv zV qa e_x27) (ac (la qjb qa e_x27) az)) ?_)
      obtain⟨r28,e_r28,g24⟩:=bnd g24
      refine sq (gr fol [2] (kC l s18 l16 ((12,.str r28.1)::(13,.i r28.2)::(kAa l (l.length:Int) n17 []))) (ac (cv (qf3 N s18 x27 e_r28)) az) ?_)
      refine sq ?_
      refine sq ?_
      obtain⟨b30,g_v31,g24⟩:=bnd g24
      refine Goes.cut (s':=(ofG 345 (kP l (kBg (kB1 l16 ((12,.str r28.1)::(kAa l (l.length:Int) n17 [(89,.bool b30)]))))),(kF n13 n14 n15 l16 (kW x27 [])))) ?_ ?_
      ·rcases wyB g_v31 with⟨c29,g_v31⟩|⟨c29,g_v31⟩
       ·obtain rfl:=si g_v31
        exact tr fol [2] (kP l (kBg (kB1 l16 ((12,.str r28.1)::(kAa l (l.length:Int) n17 [(89,.bool true)]))))) (ac (gw c29) az)
       ·obtain rfl:=si g_v31
        exact tr fol [2] (kP l (kBg (kB1 l16 ((12,.str r28.1)::(kAa l (l.length:Int) n17 [(89,.bool (decide ((r28.1.length:Int)≤(s18.length:Int))))]))))) (ac (gw c29) az)
      refine ihB g24 (fun c32 g24=>?_) (fun c32 g24=>?_)
      ·refine sh fol kAI ?_
       refine Goes.ret ?_
       obtain rfl:=si g24
       exact Or.inr (⟨rfl,_,rfl,(gw2 [.bool false] (FzW.still tB))⟩)
      ·refine Goes.skip ?_
       refine sh fol (kC l r28.1 l16 (kAa l (l.length:Int) n17 [])) ?_
       obtain⟨l33,e_l33,g24⟩:=bnd g24
       refine gq fol [4] (kP l (kBg ((8,.str r28.1)::(9,.gslice 4 l33.length 1)::(kAa l (l.length:Int) n17 [])))) (kBY n13 n14 n15 (.dead::(kW x27 (kAH (r28.1.length:Int) (kAM l33 []))))) (ac (hs (.run [1,3] (qP Tryz.prog [24,24] (.gslice 1 l16.length 1) (.slice 3 0 1 1 1)) (kF n13 n14 n15 l16 (kW x27 (kAH (r28.1.length:Int) []))) (.gslice 4 l33.length 1) (kBY n13 n14 n15 (.dead::(kW x27 (kAH (r28.1.length:Int) (kAM l33 []))))) true) (jH y7 (E:=encI) rfl (qa8 (E:=encI) (ys:=[(r28.1.length:Int)]) rfl rfl rfl rfl) (qeO (E:=encI) (l:=l16) rfl rfl rfl e_l33 rfl))) az) ?_
       refine gh fol (kP l (kBg ((8,.str r28.1)::(9,.gslice 4 l33.length 1)::(kAa l (l.length:Int) (w64 (n17+1)) [])))) ?_
       exact⟨M,(ofG 345 (kC l r28.1 l33 (kAa l (l.length:Int) (w64 (n17+1)) [])),(kF n13 n14 n15 l33 [])),Nat.lt_succ_self _,(Sub.norm [] [some 0,some 4] rfl rfl (.keep (.same (qm qa _)) (.kp (.keep (.same nS) (.keep (.gslice rfl) (.keep (.same (qm qa _)) (.keep (.same nI) (.keep (.same nI) .nil))))))) (.kb rfl (.same sn) (.ks .nil))),_,_,_,_,_,_,rfl,g24⟩
     ·refine Goes.exit ?_
      obtain rfl:=si g24
      exact Or.inl (⟨rfl,_,_,_,_,_,rfl,(Sub.keep [0,3,8,9] rfl rfl)⟩)
   rintro x s' (⟨rfl,n19,n20,n21,l22,s23,rfl,hsub⟩|⟨rfl,q174,rfl,hret⟩)
   ·try dsimp only at h
    refine Goes.sub hsub ?_
    obtain⟨q34,e_q34,h⟩:=bnd h
    refine sq (gr fol [6] (kC l s23 l22 [(14,.i q34)]) (ac (hs (.done (.opt (qay Tryz.prog .rem 3 (.tmp 99) (.tmp 102) (.i (w64 n19)) (.i (w64 ((s23.length:Int)+1))))) (.i q34)) (qi0 e_q34)) az) ?_)
    refine sh fol (kC l s23 l22 [(14,.i q34),(15,.i 0)]) ?_
    refine sq ?_
    refine sh fol (kC l s23 l22 [(14,.i q34),(15,.i 0),(104,.gslice 1 l22.length 1),(105,.i (l22.length:Int)),(106,.i 0)]) ?_
    refine Goes.block ?_
    obtain⟨r38,g38,h⟩:=bnd h
    refine Goes.imp (Q:=fun x s'=>(x= .exit 2∧ ∃n37,n37=r38∧Sub s' (ofG 345 (kC l s23 l22 [(14,.i q34),(15,.i n37)]),(kF n19 n20 n21 l22 [])))) ?_ ?_
    ·refine Goes.loopS (fun M s=> ∃(n35:Int) (n36:Int),s=(ofG 345 (kC l s23 l22 (kAV q34 n36 l22 (l22.length:Int) n35 [])),(kF n19 n20 n21 l22 []))∧zL l22 q34 M n35 n36=some r38) ?_ (m:=N) ⟨_,_,rfl,g38⟩
     rintro M s ⟨n35,n36,rfl,g38⟩
     cases M with
     |zero=>simp only[zL]at g38;cases g38
     |succ M=>
      rw[zL]at g38
      refine sh fol (kC l s23 l22 (kAV q34 n36 l22 (l22.length:Int) n35 [(107,.bool (decide (n35<(l22.length:Int))))])) ?_
      refine sq ?_
      refine ihD g38 (fun c39 g38=>?_) (fun c39 g38=>?_)
      ·refine Goes.skip ?_
       refine sq ?_
       obtain⟨r41,g41,g38⟩:=bnd g38
       refine Goes.imp (Q:=fun x s'=>(x= .normal∧ ∃n40,n40=r41∧Sub s' (ofG 345 (kC l s23 l22 (kAV q34 n40 l22 (l22.length:Int) n35 [])),(kF n19 n20 n21 l22 [])))) ?_ ?_
       ·refine Goes.block ?_
        obtain⟨x42,e_x42,g41⟩:=bnd g41
        refine sq (gr fol [0,1] (kC l s23 l22 [(14,.i q34),(15,.i n36),(17,.i x42),(104,.gslice 1 l22.length 1),(105,.i (l22.length:Int)),(106,.i n35)]) (ac (hs (.done (.opt (qz Tryz.prog 24 (.gslice 1 l22.length 1) (.i n35))) (.ptr 1 ((n35:Int).toNat*1+0))) (qjn y7 e_x42)) (ac (hs (.run [1] (jJ Tryz.prog 3 (.ptr 1 ((n35:Int).toNat*1+0))) (kF n19 n20 n21 l22 []) (.i x42) (kF n19 n20 n21 l22 []) false) (qgo ce3 (E:=encI) (l:=l22) rfl rfl e_x42 (nl rfl) rfl)) az)) ?_)
        refine sh fol (kC l s23 l22 (kAV q34 n36 l22 (l22.length:Int) n35 [(112,.bool (decide (x42≤q34)))])) ?_
        refine ihD g41 (fun c43 g41=>?_) (fun c43 g41=>?_)
        ·refine gh fol (kC l s23 l22 (kAV q34 (w64 (n36+1)) l22 (l22.length:Int) n35 [])) ?_
         obtain rfl:=si g41
         exact⟨rfl,_,rfl,(Sub.refl _)⟩
        ·refine Goes.skip ?_
         obtain rfl:=si g41
         exact⟨rfl,_,rfl,(Sub.keep [0,3,8,9,14,15,104,105,106] rfl rfl)⟩
       rintro x s' ⟨rfl,n40,rfl,hsub⟩
       refine Goes.sub hsub ?_
       refine gh fol (kC l s23 l22 (kAV q34 n40 l22 (l22.length:Int) (w64 (n35+1)) [])) ?_
       exact⟨M,(ofG 345 (kC l s23 l22 (kAV q34 n40 l22 (l22.length:Int) (w64 (n35+1)) [])),(kF n19 n20 n21 l22 [])),Nat.lt_succ_self _,(Sub.refl _),_,_,rfl,g38⟩
      ·refine Goes.exit ?_
       obtain rfl:=si g38
       exact⟨rfl,_,rfl,(Sub.keep [0,3,8,9,14,15] rfl rfl)⟩
    rintro x s' ⟨rfl,n37,rfl,hsub⟩
    refine Goes.sub hsub ?_
    obtain⟨s44,e_s44,h⟩:=bnd h
    obtain⟨r45,e_r45,h⟩:=bnd h
    refine sq (gr fol [2,3] (kC l s23 l22 [(14,.i q34),(15,.i n37),(18,vl qa r45.1),(20,.i r45.2.2)]) (ac (hs (.done (.opt (qx Tryz.prog 9 (.str s23) none (some (.i q34)) none)) (.str s44)) (yh st9 none (some q34) e_s44)) (ac (cv (yJ N s44 e_r45)) az)) ?_)
    obtain⟨s46,e_s46,h⟩:=bnd h
    obtain⟨⟨l48,o49,ok50,n51⟩,e_r47,h⟩:=bnd h
    try dsimp only at h
    refine sq (gq fol [2,3] (kC l s23 l22 [(15,.i n37),(18,vl qa r45.1),(20,.i r45.2.2),(21,pz ok50 2 0),(22,.i n51)]) (kF n19 n20 n21 l22 (kT l48 o49 (kB l48 o49 []))) (ac (hs (.done (.opt (qx Tryz.prog 9 (.str s23) none (some (.i q34)) none)) (.str s46)) (yh st9 none (some q34) e_s46)) (ac (hs (.callH 49 [.str s46] (kF n19 n20 n21 l22 []) [] (.tuple [pz ok50 2 0,.i n51]) (kF n19 n20 n21 l22 (kT l48 o49 (kB l48 o49 [])))) (kg [] [none,none,some 0,some 1,some 2] (qcx N s46 e_r47) .nil rfl rfl (.old rfl rfl (.old rfl rfl (.new rfl rfl (.cells (rc (.gslice rfl) (rc (.hs rfl) rn))) rfl (.new rfl rfl (.same fa) rfl (.new rfl rfl (.same fa) rfl .nil))))) (rc (.same nS) rn) (.tupleL (rc ((qX.pz rfl)) (rc (.same nI) rn))) rfl)) az)) ?_)
    obtain⟨⟨l53,o54,ok55,n56⟩,e_r52,h⟩:=bnd h
    try dsimp only at h
    refine sq (gq fol [1] (kC l s23 l22 [(15,.i n37),(18,vl qa r45.1),(20,.i r45.2.2),(21,pz ok50 2 0),(22,.i n51),(23,pz ok55 5 0),(24,.i n56)]) (kF n19 n20 n21 l22 (kT l48 o49 (kB l48 o49 (kAJ l53 o54 (kB l53 o54 []))))) (ac (hs (.callH 49 [.str s23] (kF n19 n20 n21 l22 (kT l48 o49 (kB l48 o49 []))) [] (.tuple [pz ok55 5 0,.i n56]) (kF n19 n20 n21 l22 (kT l48 o49 (kB l48 o49 (kAJ l53 o54 (kB l53 o54 [])))))) (kg [] [none,none,none,none,none,some 0,some 1,some 2] (qcx N s23 e_r52) .nil rfl rfl (.old rfl rfl (.old rfl rfl (.old rfl rfl (.old rfl rfl (.old rfl rfl (.new rfl rfl (.cells (rc (.gslice rfl) (rc (.hs rfl) rn))) rfl (.new rfl rfl (.same fa) rfl (.new rfl rfl (.same fa) rfl .nil)))))))) (rc (.same nS) rn) (.tupleL (rc ((qX.pz rfl)) (rc (.same nI) rn))) rfl)) az) ?_)
    refine sq ?_
    refine sq ?_
    obtain⟨r69,g69,h⟩:=bnd h
    refine Goes.imp (Q:=fun x s'=>(x= .normal∧(.inl ())=r69∧Sub s' (ofG 345 (kC l s23 l22 (kAQ n37 ok50 ok55)),(kF n19 n20 n21 l22 (kT l48 o49 (kB l48 o49 (kAJ l53 o54 (kB l53 o54 [])))))))∨(x= .normal∧(.inr (.inl ()))=r69∧Sub s' (ofG 345 (kC l s23 l22 ((15,.i n37)::(21,.nilptr)::(23,pz ok55 2 0)::kB6)),(kF n19 n20 n21 l22 (kT l53 o54 (kB l53 o54 [])))))∨(x= .normal∧(.inr (.inr (.inl ())))=r69∧Sub s' (ofG 345 (kC l s23 l22 ((15,.i n37)::(kA4 ((23,.nilptr)::kB6)))),(kF n19 n20 n21 l22 (kT l48 o49 (kB l48 o49 [])))))∨(x= .normal∧(.inr (.inr (.inr ())))=r69∧Sub s' (ofG 345 (kC l s23 l22 ((15,.i n37)::(kAU [(165,.bool false)]))),(kF n19 n20 n21 l22 (kT l48 o49 (kB l48 o49 (kAJ l53 o54 (kB l53 o54 [])))))))) ?_ ?_
    ·rcases wyB g69 with⟨c57,g69⟩|⟨c57,g69⟩
     ·rcases wyB g69 with⟨c58,g69⟩|⟨c58,g69⟩
      ·obtain rfl:=si g69
       refine gr fol [2,6] (kC l s23 l22 (kAQ n37 ok50 ok55)) (ac (gw c57) (ac (gw c58) az)) ?_
       exact Or.inl (⟨rfl,rfl,(Sub.refl _)⟩)
      ·obtain⟨s59,e_s59,g69⟩:=bnd g69
       obtain⟨r60,e_r60,g69⟩:=bnd g69
       rcases wyB g69 with⟨c61,g69⟩|⟨c61,g69⟩
       ·obtain rfl:=si g69
        refine gr fol [2,6,10,11,14] (kC l s23 l22 (kAQ n37 ok50 ok55)) (ac (gw c57) (ac (gw c58) (ac (hs (.done (.opt (qx Tryz.prog 22 (vl qa l) none (some (.i n37)) none)) (vl qa s59)) (xZ zV (E:=qa) rfl none (some n37) e_s59)) (ac (cv (qM N r45.1 s59 e_r60)) (ac (gw c61) az))))) ?_
        exact Or.inl (⟨rfl,rfl,(Sub.refl _)⟩)
       ·rcases wyB g69 with⟨c62,g69⟩|⟨c62,g69⟩
        ·obtain rfl:=si g69
         refine gr fol [2,6,10,11,14,18] (kC l s23 l22 (kAQ n37 ok50 ok55)) (ac (gw c57) (ac (gw c58) (ac (hs (.done (.opt (qx Tryz.prog 22 (vl qa l) none (some (.i n37)) none)) (vl qa s59)) (xZ zV (E:=qa) rfl none (some n37) e_s59)) (ac (cv (qM N r45.1 s59 e_r60)) (ac (gw c61) (ac (gw c62) az)))))) ?_
         exact Or.inl (⟨rfl,rfl,(Sub.refl _)⟩)
        ·rcases wyB g69 with⟨c63,g69⟩|⟨c63,g69⟩
         ·obtain rfl:=si g69
          refine gr fol [2,6,10,11,14,18,22] (kC l s23 l22 (kAQ n37 ok50 ok55)) (ac (gw c57) (ac (gw c58) (ac (hs (.done (.opt (qx Tryz.prog 22 (vl qa l) none (some (.i n37)) none)) (vl qa s59)) (xZ zV (E:=qa) rfl none (some n37) e_s59)) (ac (cv (qM N r45.1 s59 e_r60)) (ac (gw c61) (ac (gw c62) (ac (gw c63) az))))))) ?_
          exact Or.inl (⟨rfl,rfl,(Sub.refl _)⟩)
         ·rcases ok50 with _|_
          ·try dsimp only at g69
           obtain rfl:=si g69
           refine gr fol [2,6,10,11,14,18,22] (kC l s23 l22 ((15,.i n37)::(21,.nilptr)::(23,pz ok55 5 0)::kB6)) (ac (gw c57) (ac (gw c58) (ac (hs (.done (.opt (qx Tryz.prog 22 (vl qa l) none (some (.i n37)) none)) (vl qa s59)) (xZ zV (E:=qa) rfl none (some n37) e_s59)) (ac (cv (qM N r45.1 s59 e_r60)) (ac (gw c61) (ac (gw c62) (ac (gw c63) az))))))) ?_
           exact Or.inr (Or.inl (⟨rfl,rfl,(Sub.norm [] [some 0,some 1,some 5,some 6,some 7] rfl rfl (.keep (.same (qm qa _)) (.kp (.keep (.same nS) (.keep (.gslice rfl) (.keep (.same nI) (.keep (.same (ql.nilptr)) (.keep (qX.pz rfl) (.keep (.same nB) .nil)))))))) (.kb rfl (.same sn) (.ks (.kb rfl (.cells (rc (.gslice rfl) (rc (.hs rfl) rn))) (.ks (.ks .nil))))))⟩))
          ·try dsimp only at g69
           rcases ok55 with _|_
           ·try dsimp only at g69
            obtain rfl:=si g69
            refine gr fol [2,6,10,11,14,18,22] (kC l s23 l22 ((15,.i n37)::(kA4 ((23,.nilptr)::kB6)))) (ac (gw c57) (ac (gw c58) (ac (hs (.done (.opt (qx Tryz.prog 22 (vl qa l) none (some (.i n37)) none)) (vl qa s59)) (xZ zV (E:=qa) rfl none (some n37) e_s59)) (ac (cv (qM N r45.1 s59 e_r60)) (ac (gw c61) (ac (gw c62) (ac (gw c63) az))))))) ?_
            exact Or.inr (Or.inr (Or.inl (⟨rfl,rfl,(Sub.norm [] [some 0,some 1,some 2,some 3,some 4] rfl rfl (.keep (.same (qm qa _)) (.kp (.keep (.same nS) (.keep (.gslice rfl) (.keep (.same nI) (.kp (.keep (.same (ql.nilptr)) (.keep (.same nB) .nil)))))))) (.kb rfl (.same sn) (.ks (.kb rfl (.cells (rc (.gslice rfl) (rc (.hs rfl) rn))) (.ks (.ks .nil))))))⟩)))
           ·try dsimp only at g69
            obtain rfl:=si g69
            refine gr fol [2,6,10,11,14,18,22] (kC l s23 l22 ((15,.i n37)::(kAU [(165,.bool false)]))) (ac (gw c57) (ac (gw c58) (ac (hs (.done (.opt (qx Tryz.prog 22 (vl qa l) none (some (.i n37)) none)) (vl qa s59)) (xZ zV (E:=qa) rfl none (some n37) e_s59)) (ac (cv (qM N r45.1 s59 e_r60)) (ac (gw c61) (ac (gw c62) (ac (gw c63) az))))))) ?_
            exact Or.inr (Or.inr (Or.inr (⟨rfl,rfl,(Sub.refl _)⟩)))
     ·obtain⟨s64,e_s64,g69⟩:=bnd g69
      obtain⟨r65,e_r65,g69⟩:=bnd g69
      rcases wyB g69 with⟨c66,g69⟩|⟨c66,g69⟩
      ·obtain rfl:=si g69
       refine gr fol [2,10,11,14] (kC l s23 l22 (kAQ n37 ok50 ok55)) (ac (gw c57) (ac (hs (.done (.opt (qx Tryz.prog 22 (vl qa l) none (some (.i n37)) none)) (vl qa s64)) (xZ zV (E:=qa) rfl none (some n37) e_s64)) (ac (cv (qM N r45.1 s64 e_r65)) (ac (gw c66) az)))) ?_
       exact Or.inl (⟨rfl,rfl,(Sub.refl _)⟩)
      ·rcases wyB g69 with⟨c67,g69⟩|⟨c67,g69⟩
       ·obtain rfl:=si g69
        refine gr fol [2,10,11,14,18] (kC l s23 l22 (kAQ n37 ok50 ok55)) (ac (gw c57) (ac (hs (.done (.opt (qx Tryz.prog 22 (vl qa l) none (some (.i n37)) none)) (vl qa s64)) (xZ zV (E:=qa) rfl none (some n37) e_s64)) (ac (cv (qM N r45.1 s64 e_r65)) (ac (gw c66) (ac (gw c67) az))))) ?_
        exact Or.inl (⟨rfl,rfl,(Sub.refl _)⟩)
       ·rcases wyB g69 with⟨c68,g69⟩|⟨c68,g69⟩
        ·obtain rfl:=si g69
         refine gr fol [2,10,11,14,18,22] (kC l s23 l22 (kAQ n37 ok50 ok55)) (ac (gw c57) (ac (hs (.done (.opt (qx Tryz.prog 22 (vl qa l) none (some (.i n37)) none)) (vl qa s64)) (xZ zV (E:=qa) rfl none (some n37) e_s64)) (ac (cv (qM N r45.1 s64 e_r65)) (ac (gw c66) (ac (gw c67) (ac (gw c68) az)))))) ?_
         exact Or.inl (⟨rfl,rfl,(Sub.refl _)⟩)
        ·rcases ok50 with _|_
         ·try dsimp only at g69
          obtain rfl:=si g69
          refine gr fol [2,10,11,14,18,22] (kC l s23 l22 ((15,.i n37)::(21,.nilptr)::(23,pz ok55 5 0)::kB6)) (ac (gw c57) (ac (hs (.done (.opt (qx Tryz.prog 22 (vl qa l) none (some (.i n37)) none)) (vl qa s64)) (xZ zV (E:=qa) rfl none (some n37) e_s64)) (ac (cv (qM N r45.1 s64 e_r65)) (ac (gw c66) (ac (gw c67) (ac (gw c68) az)))))) ?_
          exact Or.inr (Or.inl (⟨rfl,rfl,(Sub.norm [] [some 0,some 1,some 5,some 6,some 7] rfl rfl (.keep (.same (qm qa _)) (.kp (.keep (.same nS) (.keep (.gslice rfl) (.keep (.same nI) (.keep (.same (ql.nilptr)) (.keep (qX.pz rfl) (.keep (.same nB) .nil)))))))) (.kb rfl (.same sn) (.ks (.kb rfl (.cells (rc (.gslice rfl) (rc (.hs rfl) rn))) (.ks (.ks .nil))))))⟩))
         ·try dsimp only at g69
          rcases ok55 with _|_
          ·try dsimp only at g69
           obtain rfl:=si g69
           refine gr fol [2,10,11,14,18,22] (kC l s23 l22 ((15,.i n37)::(kA4 ((23,.nilptr)::kB6)))) (ac (gw c57) (ac (hs (.done (.opt (qx Tryz.prog 22 (vl qa l) none (some (.i n37)) none)) (vl qa s64)) (xZ zV (E:=qa) rfl none (some n37) e_s64)) (ac (cv (qM N r45.1 s64 e_r65)) (ac (gw c66) (ac (gw c67) (ac (gw c68) az)))))) ?_
           exact Or.inr (Or.inr (Or.inl (⟨rfl,rfl,(Sub.norm [] [some 0,some 1,some 2,some 3,some 4] rfl rfl (.keep (.same (qm qa _)) (.kp (.keep (.same nS) (.keep (.gslice rfl) (.keep (.same nI) (.kp (.keep (.same (ql.nilptr)) (.keep (.same nB) .nil)))))))) (.kb rfl (.same sn) (.ks (.kb rfl (.cells (rc (.gslice rfl) (rc (.hs rfl) rn))) (.ks (.ks .nil))))))⟩)))
          ·try dsimp only at g69
           obtain rfl:=si g69
           refine gr fol [2,10,11,14,18,22] (kC l s23 l22 ((15,.i n37)::(kAU [(165,.bool false)]))) (ac (gw c57) (ac (hs (.done (.opt (qx Tryz.prog 22 (vl qa l) none (some (.i n37)) none)) (vl qa s64)) (xZ zV (E:=qa) rfl none (some n37) e_s64)) (ac (cv (qM N r45.1 s64 e_r65)) (ac (gw c66) (ac (gw c67) (ac (gw c68) az)))))) ?_
           exact Or.inr (Or.inr (Or.inr (⟨rfl,rfl,(Sub.refl _)⟩)))
    rintro x s' (⟨rfl,rfl,hsub⟩|⟨rfl,rfl,hsub⟩|⟨rfl,rfl,hsub⟩|⟨rfl,rfl,hsub⟩)
    ·try dsimp only at h
     refine Goes.sub hsub ?_
     refine Goes.ifB (b:=true) (by kernel_rfl) (fun _=>?_) (fun c=>(by cases c))
     refine sh fol kAI ?_
     refine Goes.ret ?_
     obtain rfl:=si h
     exact(gw2 [.bool false] (FzW.still tB))
    ·try dsimp only at h
     refine Goes.sub hsub ?_
     refine Goes.ifB (b:=true) (by kernel_rfl) (fun _=>?_) (fun c=>(by cases c))
     refine sh fol kAI ?_
     refine Goes.ret ?_
     obtain rfl:=si h
     exact(gw2 [.bool false] (FzW.still tB))
    ·try dsimp only at h
     refine Goes.sub hsub ?_
     refine Goes.ifB (b:=true) (by kernel_rfl) (fun _=>?_) (fun c=>(by cases c))
     refine sh fol kAI ?_
     refine Goes.ret ?_
     obtain rfl:=si h
     exact(gw2 [.bool false] (FzW.still tB))
    ·try dsimp only at h
     refine Goes.sub hsub ?_
     refine Goes.ifB (b:=false) (by kernel_rfl) (fun c=>(by cases c)) (fun _=>?_)
     refine Goes.skip ?_
     refine sq ?_
     obtain⟨s70,e_s70,h⟩:=bnd h
     refine sq (gr fol [2] (kC l s23 l22 (kAU [(168,vl qa s70),(169,.i (s70.length:Int)),(170,.i 0)])) (ac (hs (.done (.opt (qx Tryz.prog 22 (vl qa l) (some (.i n37)) none none)) (vl qa s70)) (xZ zV (E:=qa) rfl (some n37) none e_s70)) az) ?_)
     refine Goes.block ?_
     obtain⟨r76,g76,h⟩:=bnd h
     refine Goes.imp (Q:=fun x s'=>(x= .exit 4∧ ∃l74 o75,(.inl (l74,o75))=r76∧Sub s' (ofG 345 (kC l s23 l22 (kAU [])),(kF n19 n20 n21 l22 (kT l74 o75 (kB l74 o75 (kAJ l53 o54 (kB l53 o54 [])))))))∨(x= .ret∧ ∃q77,(.inr q77)=r76∧zl Tryz.prog [.tmp 4] (.bool q77) .ret s')) ?_ ?_
     ·refine Goes.loopS (fun M s=> ∃(l71:List qb) (o72:Option (List StateT)) (n73:Int),s=(ofG 345 (kC l s23 l22 (kAU (kAy s70 (s70.length:Int) n73 []))),(kF n19 n20 n21 l22 (kT l71 o72 (kB l71 o72 (kAJ l53 o54 (kB l53 o54 []))))))∧zO N s70 M l71 o72 n73=some r76) ?_ (m:=N) ⟨_,_,_,rfl,g76⟩
      rintro M s ⟨l71,o72,n73,rfl,g76⟩
      cases M with
      |zero=>simp only[zO]at g76;cases g76
      |succ M=>
       rw[zO]at g76
       refine sh fol (kC l s23 l22 (kAU (kAy s70 (s70.length:Int) n73 [(171,.bool (decide (n73<(s70.length:Int))))]))) ?_
       refine sq ?_
       refine ihD g76 (fun c78 g76=>?_) (fun c78 g76=>?_)
       ·refine Goes.skip ?_
        refine sq (Goes.block ?_)
        obtain⟨x79,e_x79,g76⟩:=bnd g76
        refine sq (gq fol [0,1] (kC l s23 l22 (kAU ((26,.ptr 8 0)::(kAy s70 (s70.length:Int) n73 [])))) (kF n19 n20 n21 l22 (kT l71 o72 (kB l71 o72 (kAJ l53 o54 (kB l53 o54 (kW x79 [])))))) (ac (iv zV qa e_x79) (ac (la qjb qa e_x79) az)) ?_)
        obtain⟨r80,e_r80,g76⟩:=bnd g76
        refine sq (gr fol [1] (kC l s23 l22 (kAU ((27,.str r80)::(kAy s70 (s70.length:Int) n73 [])))) (ac (cv (qh7 N x79 e_r80)) az) ?_)
        obtain⟨r81,e_r81,g76⟩:=bnd g76
        obtain⟨s82,e_s82,g76⟩:=bnd g76
        obtain⟨⟨l84,o85,s86,n87⟩,e_r83,g76⟩:=bnd g76
        try dsimp only at g76
        refine sq (gq fol [3,5,6] (kC l s23 l22 (kAU ((29,.i n87)::(kAy s70 (s70.length:Int) n73 [])))) (kF n19 n20 n21 l22 (.cells [.gslice 9 l84.length 5,hsl 10 3 o85]::(kBN (kAJ l53 o54 (kB l53 o54 (kW x79 (kB l84 o85 []))))))) (ac (cv (qbe r80 [32] e_r81)) (ac (hs (.done (.opt (qx Tryz.prog 9 (.str r80) (some (.i (w64 (r81+1)))) none none)) (.str s82)) (yh st9 (some (w64 (r81+1))) none e_s82)) (ac (hs (.callH 51 [.ptr 2 0,.str s82] (kF n19 n20 n21 l22 (kT l71 o72 (kB l71 o72 (kAJ l53 o54 (kB l53 o54 (kW x79 [])))))) [2,3,4] (.tuple [.str s86,.i n87]) (kF n19 n20 n21 l22 (.cells [.gslice 9 l84.length 5,hsl 10 3 o85]::(kBN (kAJ l53 o54 (kB l53 o54 (kW x79 (kB l84 o85 [])))))))) (kg [some 2,some 3,some 4] [none,none,some 0,none,none,none,none,none,none,some 3,some 4] (jM N l71 o72 s82 e_r83) (.kb rfl (.cells (rc (.gslice rfl) (rc (.hs rfl) rn))) (.ks (.ks .nil))) rfl rfl (.old rfl rfl (.old rfl rfl (.back rfl rfl (.cells (rc (.gslice rfl) (rc (.hs rfl) rn))) rfl (.dead (.dead (.old rfl rfl (.old rfl rfl (.old rfl rfl (.old rfl rfl (.new rfl rfl (.same fa) rfl (.new rfl rfl (.same fa) rfl .nil))))))))))) (rc (.ptr rfl) (rc (.same nS) rn)) (.same (ql.tuple sn)) rfl)) az))) ?_)
        refine sh fol (kC l s23 l22 (kAU (kAy s70 (s70.length:Int) n73 [(187,.bool (!decide (n87=0)))]))) ?_
        refine ihB g76 (fun c88 g76=>?_) (fun c88 g76=>?_)
        ·refine sh fol kAI ?_
         refine Goes.ret ?_
         obtain rfl:=si g76
         exact Or.inr (⟨rfl,_,rfl,(gw2 [.bool false] (FzW.still tB))⟩)
        ·refine Goes.skip ?_
         refine gh fol (kC l s23 l22 (kAU (kAy s70 (s70.length:Int) (w64 (n73+1)) []))) ?_
         exact⟨M,(ofG 345 (kC l s23 l22 (kAU (kAy s70 (s70.length:Int) (w64 (n73+1)) []))),(kF n19 n20 n21 l22 (kT l84 o85 (kB l84 o85 (kAJ l53 o54 (kB l53 o54 [])))))),Nat.lt_succ_self _,(Sub.norm [] [some 0,some 1,some 2,some 9,some 10,some 5,some 6,some 7] rfl rfl (.keep (.same (qm qa _)) (.kp (.keep (.same nS) (.keep (.gslice rfl) (.kp (.kp (.keep (.same (qm qa _)) (.keep (.same nI) (.keep (.same nI) .nil))))))))) (.kb rfl (.same sn) (.ks (.kb rfl (.cells (rc (.gslice rfl) (rc (.hs rfl) rn))) (.ks (.ks (.kb rfl (.cells (rc (.gslice rfl) (rc (.hs rfl) rn))) (.ks (.ks .nil))))))))),_,_,_,rfl,g76⟩
       ·refine Goes.exit ?_
        obtain rfl:=si g76
        exact Or.inl (⟨rfl,_,_,rfl,(Sub.keep [0,3,8,9,21,23] rfl rfl)⟩)
     rintro x s' (⟨rfl,l74,o75,rfl,hsub⟩|⟨rfl,q173,rfl,hret⟩)
     ·try dsimp only at h
      refine Goes.sub hsub ?_
      obtain⟨⟨l90,o91,s92,n93⟩,e_r89,h⟩:=bnd h
      try dsimp only at h
      refine sq (gq fol [1] (kC l s23 l22 (kAU [(30,.str s92),(31,.i n93)])) (kF n19 n20 n21 l22 (.cells [.gslice 8 l90.length 5,hsl 9 3 o91]::(kBN (kAJ l53 o54 (kB l53 o54 (kB l90 o91 [])))))) (ac (hs (.callH 51 [.ptr 2 0,.str [115,108,105,110,103,115]] (kF n19 n20 n21 l22 (kT l74 o75 (kB l74 o75 (kAJ l53 o54 (kB l53 o54 []))))) [2,3,4] (.tuple [.str s92,.i n93]) (kF n19 n20 n21 l22 (.cells [.gslice 8 l90.length 5,hsl 9 3 o91]::(kBN (kAJ l53 o54 (kB l53 o54 (kB l90 o91 []))))))) (kg [some 2,some 3,some 4] [none,none,some 0,none,none,none,none,none,some 3,some 4] (jM N l74 o75 [115,108,105,110,103,115] e_r89) (.kb rfl (.cells (rc (.gslice rfl) (rc (.hs rfl) rn))) (.ks (.ks .nil))) rfl rfl (.old rfl rfl (.old rfl rfl (.back rfl rfl (.cells (rc (.gslice rfl) (rc (.hs rfl) rn))) rfl (.dead (.dead (.old rfl rfl (.old rfl rfl (.old rfl rfl (.new rfl rfl (.same fa) rfl (.new rfl rfl (.same fa) rfl .nil)))))))))) (rc (.ptr rfl) (rc (.same nS) rn)) (.same (ql.tuple sn)) rfl)) az) ?_)
      obtain⟨⟨l95,o96,s97,n98⟩,e_r94,h⟩:=bnd h
      try dsimp only at h
      refine sq (gq fol [1] (kC l s23 l22 (kA4 [(30,.str s92),(31,.i n93),(32,.str s97),(33,.i n98)])) (kF n19 n20 n21 l22 (kM l90 o91 l95 o96 (kB l90 o91 (kB l95 o96 [])))) (ac (hs (.callH 51 [.ptr 5 0,.str [115,108,105,110,103,115]] (kF n19 n20 n21 l22 (.cells [.gslice 8 l90.length 5,hsl 9 3 o91]::(kBN (kAJ l53 o54 (kB l53 o54 (kB l90 o91 [])))))) [5,6,7] (.tuple [.str s97,.i n98]) (kF n19 n20 n21 l22 (kM l90 o91 l95 o96 (kB l90 o91 (kB l95 o96 []))))) (kg [some 5,some 6,some 7] [none,none,none,none,none,some 0,none,none,none,none,some 3,some 4] (jM N l53 o54 [115,108,105,110,103,115] e_r94) (.kb rfl (.cells (rc (.gslice rfl) (rc (.hs rfl) rn))) (.ks (.ks .nil))) rfl rfl (.old rfl rfl (.old rfl rfl (.old rfl rfl (.old rfl rfl (.old rfl rfl (.back rfl rfl (.cells (rc (.gslice rfl) (rc (.hs rfl) rn))) rfl (.dead (.dead (.old rfl rfl (.old rfl rfl (.new rfl rfl (.same fa) rfl (.new rfl rfl (.same fa) rfl .nil)))))))))))) (rc (.ptr rfl) (rc (.same nS) rn)) (.same (ql.tuple sn)) rfl)) az) ?_)
      refine sq ?_
      refine sq ?_
      obtain⟨b104,g_v105,h⟩:=bnd h
      refine Goes.cut (s':=(ofG 345 (kC l s23 l22 (kA4 [(215,.bool b104)])),(kF n19 n20 n21 l22 (kM l90 o91 l95 o96 (kB l90 o91 (kB l95 o96 [])))))) ?_ ?_
      ·obtain⟨s100,e_r99,g_v105⟩:=bnd g_v105
       rcases wyB g_v105 with⟨c101,g_v105⟩|⟨c101,g_v105⟩
       ·obtain rfl:=si g_v105
        exact tr fol [1,4] (kC l s23 l22 (kA4 [(215,.bool true)])) (ac (hs (.callH 53 [.ptr 2 0] (kF n19 n20 n21 l22 (kM l90 o91 l95 o96 (kB l90 o91 (kB l95 o96 [])))) [2,8,9] (.str s100) (kF n19 n20 n21 l22 (kM l90 o91 l95 o96 (kB l90 o91 (kB l95 o96 []))))) (kg [some 2,some 8,some 9] [none,none,some 0,none,none,none,none,none,some 1,some 2,none,none] (vG N l90 o91 e_r99) (.kb rfl (.cells (rc (.gslice rfl) (rc (.hs rfl) rn))) (.ks (.ks .nil))) rfl rfl (.old rfl rfl (.old rfl rfl (.back rfl rfl (.cells (rc (.gslice rfl) (rc (.hs rfl) rn))) rfl (.old rfl rfl (.old rfl rfl (.old rfl rfl (.old rfl rfl (.old rfl rfl (.back rfl rfl (.same fa) rfl (.back rfl rfl (.same fa) rfl (.old rfl rfl (.old rfl rfl .nil)))))))))))) (rc (.ptr rfl) rn) (.same nS) rfl)) (ac (gw c101) az))
       ·rcases wyB g_v105 with⟨c102,g_v105⟩|⟨c102,g_v105⟩
        ·obtain rfl:=si g_v105
         exact tr fol [1,4,8] (kC l s23 l22 (kA4 [(215,.bool true)])) (ac (hs (.callH 53 [.ptr 2 0] (kF n19 n20 n21 l22 (kM l90 o91 l95 o96 (kB l90 o91 (kB l95 o96 [])))) [2,8,9] (.str s100) (kF n19 n20 n21 l22 (kM l90 o91 l95 o96 (kB l90 o91 (kB l95 o96 []))))) (kg [some 2,some 8,some 9] [none,none,some 0,none,none,none,none,none,some 1,some 2,none,none] (vG N l90 o91 e_r99) (.kb rfl (.cells (rc (.gslice rfl) (rc (.hs rfl) rn))) (.ks (.ks .nil))) rfl rfl (.old rfl rfl (.old rfl rfl (.back rfl rfl (.cells (rc (.gslice rfl) (rc (.hs rfl) rn))) rfl (.old rfl rfl (.old rfl rfl (.old rfl rfl (.old rfl rfl (.old rfl rfl (.back rfl rfl (.same fa) rfl (.back rfl rfl (.same fa) rfl (.old rfl rfl (.old rfl rfl .nil)))))))))))) (rc (.ptr rfl) rn) (.same nS) rfl)) (ac (gw c101) (ac (gw c102) az)))
        ·rcases wyB g_v105 with⟨c103,g_v105⟩|⟨c103,g_v105⟩
         ·obtain rfl:=si g_v105
          exact tr fol [1,4,8,12] (kC l s23 l22 (kA4 [(215,.bool true)])) (ac (hs (.callH 53 [.ptr 2 0] (kF n19 n20 n21 l22 (kM l90 o91 l95 o96 (kB l90 o91 (kB l95 o96 [])))) [2,8,9] (.str s100) (kF n19 n20 n21 l22 (kM l90 o91 l95 o96 (kB l90 o91 (kB l95 o96 []))))) (kg [some 2,some 8,some 9] [none,none,some 0,none,none,none,none,none,some 1,some 2,none,none] (vG N l90 o91 e_r99) (.kb rfl (.cells (rc (.gslice rfl) (rc (.hs rfl) rn))) (.ks (.ks .nil))) rfl rfl (.old rfl rfl (.old rfl rfl (.back rfl rfl (.cells (rc (.gslice rfl) (rc (.hs rfl) rn))) rfl (.old rfl rfl (.old rfl rfl (.old rfl rfl (.old rfl rfl (.old rfl rfl (.back rfl rfl (.same fa) rfl (.back rfl rfl (.same fa) rfl (.old rfl rfl (.old rfl rfl .nil)))))))))))) (rc (.ptr rfl) rn) (.same nS) rfl)) (ac (gw c101) (ac (gw c102) (ac (gw c103) az))))
         ·obtain rfl:=si g_v105
          exact tr fol [1,4,8,12] (kC l s23 l22 (kA4 [(215,.bool (!(s92==s97)))])) (ac (hs (.callH 53 [.ptr 2 0] (kF n19 n20 n21 l22 (kM l90 o91 l95 o96 (kB l90 o91 (kB l95 o96 [])))) [2,8,9] (.str s100) (kF n19 n20 n21 l22 (kM l90 o91 l95 o96 (kB l90 o91 (kB l95 o96 []))))) (kg [some 2,some 8,some 9] [none,none,some 0,none,none,none,none,none,some 1,some 2,none,none] (vG N l90 o91 e_r99) (.kb rfl (.cells (rc (.gslice rfl) (rc (.hs rfl) rn))) (.ks (.ks .nil))) rfl rfl (.old rfl rfl (.old rfl rfl (.back rfl rfl (.cells (rc (.gslice rfl) (rc (.hs rfl) rn))) rfl (.old rfl rfl (.old rfl rfl (.old rfl rfl (.old rfl rfl (.old rfl rfl (.back rfl rfl (.same fa) rfl (.back rfl rfl (.same fa) rfl (.old rfl rfl (.old rfl rfl .nil)))))))))))) (rc (.ptr rfl) rn) (.same nS) rfl)) (ac (gw c101) (ac (gw c102) (ac (gw c103) az))))
      refine ihB h (fun c106 h=>?_) (fun c106 h=>?_)
      ·refine sh fol kAI ?_
       refine Goes.ret ?_
       obtain rfl:=si h
       exact(gw2 [.bool false] (FzW.still tB))
      ·refine Goes.skip ?_
       obtain⟨q107,e_q107,h⟩:=bnd h
       refine sq (gr fol [5] (kC l s23 l22 (kA4 [(34,.i q107)])) (ac (hs (.done (.opt (qay Tryz.prog .rem 3 (.tmp 218) (.tmp 220) (.i (w64 n20)) (.i (s23.length:Int)))) (.i q107)) (qi0 e_q107)) az) ?_)
       refine sh fol (kC l s23 l22 (kA4 [(34,.i q107),(35,.int .u8 (IntKind.wrap .u8 (IntKind.wrap .u16 (32+(n21.tmod 200)))))])) ?_
       refine sq ?_
       refine sq ?_
       obtain⟨b110,g_v111,h⟩:=bnd h
       refine Goes.cut (s':=(ofG 345 (kC l s23 l22 (kA4 [(34,.i q107),(35,.int .u8 (IntKind.wrap .u8 (IntKind.wrap .u16 (32+(n21.tmod 200))))),(237,.bool b110)])),(kF n19 n20 n21 l22 (kM l90 o91 l95 o96 (kB l90 o91 (kB l95 o96 [])))))) ?_ ?_
       ·obtain⟨c108,e_c108,g_v111⟩:=bnd g_v111
        rcases wyB g_v111 with⟨c109,g_v111⟩|⟨c109,g_v111⟩
        ·obtain rfl:=si g_v111
         exact tr fol [2,4,8] (kC l s23 l22 (kA4 [(34,.i q107),(35,.int .u8 (IntKind.wrap .u8 (IntKind.wrap .u16 (32+(n21.tmod 200))))),(237,.bool (!decide ((IntKind.wrap .u8 (IntKind.wrap .u16 (32+(n21.tmod 200))))=(c108.toNat:Int))))])) (ac (hs (.done (.opt (qai Tryz.prog 9 (.str s23) (.i q107))) (.int .u8 (c108.toNat:Int))) (qb6 st9 e_c108)) (ac (gw c109) (ac (hs (.done (.opt (qai Tryz.prog 9 (.str s23) (.i q107))) (.int .u8 (c108.toNat:Int))) (qb6 st9 e_c108)) az)))
        ·obtain rfl:=si g_v111
         exact tr fol [2,4] (kC l s23 l22 (kA4 [(34,.i q107),(35,.int .u8 (IntKind.wrap .u8 (IntKind.wrap .u16 (32+(n21.tmod 200))))),(237,.bool false)])) (ac (hs (.done (.opt (qai Tryz.prog 9 (.str s23) (.i q107))) (.int .u8 (c108.toNat:Int))) (qb6 st9 e_c108)) (ac (gw c109) az))
       obtain⟨r112,g112,h⟩:=bnd h
       refine Goes.imp (Q:=fun x s'=>(x= .normal∧(.inl ())=r112∧Sub s' (ofG 345 (kC l s23 l22 (kA4 [])),(kF n19 n20 n21 l22 (kT l90 o91 (kB l90 o91 [])))))∨(x= .ret∧ ∃q113,(.inr q113)=r112∧zl Tryz.prog [.tmp 4] (.bool q113) .ret s')) ?_ ?_
       ·refine ihB g112 (fun c114 g112=>?_) (fun c114 g112=>?_)
        ·obtain⟨s115,e_s115,g112⟩:=bnd g112
         obtain⟨s116,e_s116,g112⟩:=bnd g112
         obtain⟨s117,e_s117,g112⟩:=bnd g112
         obtain⟨s118,e_s118,g112⟩:=bnd g112
         obtain⟨r119,e_r119,g112⟩:=bnd g112
         refine sq (gq fol [2,6,10,11,12] (kC l s23 l22 (kA4 [(37,.i r119.2.1),(38,.i r119.2.2)])) (kF n19 n20 n21 l22 (kM l90 o91 l95 o96 (kB l90 o91 (kB l95 o96 [.cells [.int .u8 (IntKind.wrap .u8 (IntKind.wrap .u16 (32+(n21.tmod 200))))]])))) (ac (hs (.done (.opt (qx Tryz.prog 9 (.str s23) none (some (.i q107)) none)) (.str s115)) (yh st9 none (some q107) e_s115)) (ac (hs (.done (.opt (qay Tryz.prog .add 9 (.tmp 241) (.tmp 244) (.str s115) (.str [UInt8.ofNat (IntKind.wrap .u8 (IntKind.wrap .u16 (32+(n21.tmod 200))):Int).toNat]))) (.str s116)) (yL e_s116)) (ac (hs (.done (.opt (qx Tryz.prog 9 (.str s23) (some (.i (w64 (q107+1)))) none none)) (.str s117)) (yh st9 (some (w64 (q107+1))) none e_s117)) (ac (hs (.done (.opt (qay Tryz.prog .add 9 (.tmp 245) (.tmp 249) (.str s116) (.str s117))) (.str s118)) (yL e_s118)) (ac (cv (yJ N s118 e_r119)) az))))) ?_)
         refine sq ?_
         obtain⟨b121,g_v122,g112⟩:=bnd g112
         refine Goes.cut (s':=(ofG 345 (kC l s23 l22 (kA4 [(262,.bool b121)])),(kF n19 n20 n21 l22 (kM l90 o91 l95 o96 (kB l90 o91 (kB l95 o96 [.cells [.int .u8 (IntKind.wrap .u8 (IntKind.wrap .u16 (32+(n21.tmod 200))))]])))))) ?_ ?_
         ·rcases wyD g_v122 with⟨c120,g_v122⟩|⟨c120,g_v122⟩
          ·obtain rfl:=si g_v122
           exact tr fol [2] (kC l s23 l22 (kA4 [(262,.bool true)])) (ac (gw c120) az)
          ·obtain rfl:=si g_v122
           exact tr fol [2] (kC l s23 l22 (kA4 [(262,.bool (decide (r119.2.1=(s23.length:Int))))])) (ac (gw c120) az)
         refine ihB g112 (fun c123 g112=>?_) (fun c123 g112=>?_)
         ·refine sh fol kAI ?_
          refine Goes.ret ?_
          obtain rfl:=si g112
          exact Or.inr (⟨rfl,_,rfl,(gw2 [.bool false] (FzW.still tB))⟩)
         ·refine Goes.skip ?_
          obtain rfl:=si g112
          exact Or.inl (⟨rfl,rfl,(Sub.norm [] [some 0,some 1,some 2,some 8,some 9] rfl rfl (.keep (.same (qm qa _)) (.kp (.keep (.same nS) (.keep (.gslice rfl) (.kp .nil))))) (.kb rfl (.same sn) (.ks (.kb rfl (.cells (rc (.gslice rfl) (rc (.hs rfl) rn))) (.ks (.ks .nil))))))⟩)
        ·refine Goes.skip ?_
         obtain rfl:=si g112
         exact Or.inl (⟨rfl,rfl,(Sub.norm [] [some 0,some 1,some 2,some 8,some 9] rfl rfl (.keep (.same (qm qa _)) (.kp (.keep (.same nS) (.keep (.gslice rfl) (.kp .nil))))) (.kb rfl (.same sn) (.ks (.kb rfl (.cells (rc (.gslice rfl) (rc (.hs rfl) rn))) (.ks (.ks .nil))))))⟩)
       rintro x s' (⟨rfl,rfl,hsub⟩|⟨rfl,q172,rfl,hret⟩)
       ·try dsimp only at h
        refine Goes.sub hsub ?_
        refine sq ?_
        refine sh fol (kC l s23 l22 (kA4 [(265,.bool (decide ((l.length:Int)>1)))])) ?_
        obtain⟨r124,g124,h⟩:=bnd h
        refine Goes.imp (Q:=fun x s'=>(x= .normal∧(.inl ())=r124∧Sub s' (ofG 345 (kP l [(21,.ptr 0 0)]),(kA l90 o91 [])))∨(x= .ret∧ ∃q125,(.inr q125)=r124∧zl Tryz.prog [.tmp 4] (.bool q125) .ret s')) ?_ ?_
        ·refine ihD g124 (fun c126 g124=>?_) (fun c126 g124=>?_)
         ·obtain⟨q127,e_q127,g124⟩:=bnd g124
          refine sq (gr fol [6] (kP l ((8,.str s23)::(kB1 l22 (kA4 [(39,.i q127)])))) (ac (hs (.done (.opt (qay Tryz.prog .rem 3 (.tmp 268) (.tmp 271) (.i (w64 n21)) (.i (w64 ((l.length:Int)-1))))) (.i q127)) (qi0 e_q127)) az) ?_)
          refine sh fol (kP l ((8,.str s23)::(kB1 l22 (kA4 [(39,.i q127),(40,.i 0)])))) ?_
          refine sq ?_
          refine sh fol (kP l ((8,.str s23)::(kB1 l22 (kA4 [(39,.i q127),(40,.i 0),(274,.bool (decide (q127>0)))])))) ?_
          obtain⟨r129,g129,g124⟩:=bnd g124
          refine Goes.imp (Q:=fun x s'=>(x= .normal∧ ∃n128,n128=r129∧Sub s' (ofG 345 (kP l [(8,.str s23),(9,.gslice 0 l22.length 1),(21,.ptr 1 0),(39,.i q127),(40,.i n128)]),(kAM l22 (kAb l90 o91 (kB l90 o91 [])))))) ?_ ?_
          ·refine ihD g129 (fun c130 g129=>?_) (fun c130 g129=>?_)
           ·obtain⟨x131,e_x131,g129⟩:=bnd g129
            refine gr fol [3,4] (kP l ((8,.str s23)::(kB1 l22 (kA4 [(39,.i q127),(40,.i x131)])))) (ac (hs (.done (.opt (qz Tryz.prog 24 (.gslice 1 l22.length 1) (.i (w64 (q127-1))))) (.ptr 1 ((w64 (q127-1):Int).toNat*1+0))) (qjn y7 e_x131)) (ac (hs (.run [1] (jJ Tryz.prog 3 (.ptr 1 ((w64 (q127-1):Int).toNat*1+0))) (kF n19 n20 n21 l22 (kT l90 o91 (kB l90 o91 []))) (.i x131) (kF n19 n20 n21 l22 (kT l90 o91 (kB l90 o91 []))) false) (qgo ce3 (E:=encI) (l:=l22) rfl rfl e_x131 (nl rfl) rfl)) az)) ?_
            obtain rfl:=si g129
            exact⟨rfl,_,rfl,(Sub.norm [] [some 1,some 2,some 3,some 4] rfl rfl (.keep (.same (qm qa _)) (.keep (.same nS) (.keep (.gslice rfl) (.kp (.keep (.same nI) (.keep (.same nI) .nil)))))) (.ks (.kb rfl (.cells (rc (.gslice rfl) (rc (.hs rfl) rn))) (.ks (.ks .nil)))))⟩
           ·refine Goes.skip ?_
            obtain rfl:=si g129
            exact⟨rfl,_,rfl,(Sub.norm [] [some 1,some 2,some 3,some 4] rfl rfl (.keep (.same (qm qa _)) (.keep (.same nS) (.keep (.gslice rfl) (.kp (.keep (.same nI) (.keep (.same nI) .nil)))))) (.ks (.kb rfl (.cells (rc (.gslice rfl) (rc (.hs rfl) rn))) (.ks (.ks .nil)))))⟩
          rintro x s' ⟨rfl,n128,rfl,hsub⟩
          refine Goes.sub hsub ?_
          obtain⟨s132,e_s132,g124⟩:=bnd g124
          obtain⟨x133,e_x133,g124⟩:=bnd g124
          obtain⟨s134,e_s134,g124⟩:=bnd g124
          obtain⟨s135,e_s135,g124⟩:=bnd g124
          obtain⟨r136,e_r136,g124⟩:=bnd g124
          refine sq (gr fol [2,6,7,8,9,10] (kP l [(21,.ptr 1 0),(43,.i r136.2.2)]) (ac (hs (.done (.opt (qx Tryz.prog 9 (.str s23) none (some (.i n128)) none)) (.str s132)) (yh st9 none (some n128) e_s132)) (ac (hs (.done (.opt (qz Tryz.prog 24 (.gslice 0 l22.length 1) (.i q127))) (.ptr 0 ((q127:Int).toNat*1+0))) (qjn y7 e_x133)) (ac (hs (.run [0] (jJ Tryz.prog 3 (.ptr 0 ((q127:Int).toNat*1+0))) (kAM l22 (kAb l90 o91 (kB l90 o91 []))) (.i x133) (kAM l22 (kAb l90 o91 (kB l90 o91 []))) false) (qgo ce3 (E:=encI) (l:=l22) rfl rfl e_x133 (nl rfl) rfl)) (ac (hs (.done (.opt (qx Tryz.prog 9 (.str s23) (some (.i x133)) none none)) (.str s134)) (yh st9 (some x133) none e_s134)) (ac (hs (.done (.opt (qay Tryz.prog .add 9 (.tmp 283) (.tmp 289) (.str s132) (.str s134))) (.str s135)) (yL e_s135)) (ac (cv (yJ N s135 e_r136)) az)))))) ?_)
          refine sh fol (kP l [(21,.ptr 1 0),(296,.bool (!decide (r136.2.2=11)))]) ?_
          refine ihB g124 (fun c137 g124=>?_) (fun c137 g124=>?_)
          ·refine sh fol kAI ?_
           refine Goes.ret ?_
           obtain rfl:=si g124
           exact Or.inr (⟨rfl,_,rfl,(gw2 [.bool false] (FzW.still tB))⟩)
          ·refine Goes.skip ?_
           obtain rfl:=si g124
           exact Or.inl (⟨rfl,rfl,(Sub.norm [] [some 1,some 2,some 3] rfl rfl (.keep (.same (qm qa _)) (.kp .nil)) (.kb rfl (.cells (rc (.gslice rfl) (rc (.hs rfl) rn))) (.ks (.ks .nil))))⟩)
         ·refine Goes.skip ?_
          obtain rfl:=si g124
          exact Or.inl (⟨rfl,rfl,(Sub.norm [] [some 2,some 3,some 4] rfl rfl (.keep (.same (qm qa _)) (.drop (.drop (.drop (.kp .nil))))) (.kb rfl (.cells (rc (.gslice rfl) (rc (.hs rfl) rn))) (.ks (.ks .nil))))⟩)
        rintro x s' (⟨rfl,rfl,hsub⟩|⟨rfl,q171,rfl,hret⟩)
        ·try dsimp only at h
         refine Goes.sub hsub ?_
         refine sq ?_
         refine sh fol [(21,.ptr 0 0),(298,.i (l.length:Int)),(299,.i 0)] ?_
         refine Goes.block ?_
         obtain⟨r143,g143,h⟩:=bnd h
         refine Goes.imp (Q:=fun x s'=>(x= .exit 6∧ ∃l141 o142,(.inl (l141,o142))=r143∧Sub s' (ofG 345 [(21,.ptr 0 0)],(kA l141 o142 [])))∨(x= .ret∧ ∃q144,(.inr q144)=r143∧zl Tryz.prog [.tmp 4] (.bool q144) .ret s')) ?_ ?_
         ·refine Goes.loopS (fun M s=> ∃(l138:List qb) (o139:Option (List StateT)) (n140:Int),s=(ofG 345 (kBC (l.length:Int) n140 []),(kA l138 o139 []))∧zM N l M l138 o139 n140=some r143) ?_ (m:=N) ⟨_,_,_,rfl,g143⟩
          rintro M s ⟨l138,o139,n140,rfl,g143⟩
          cases M with
          |zero=>simp only[zM]at g143;cases g143
          |succ M=>
           rw[zM]at g143
           refine sh fol (kBC (l.length:Int) n140 [(300,.bool (decide (n140<(l.length:Int))))]) ?_
           refine sq ?_
           refine ihD g143 (fun c145 g143=>?_) (fun c145 g143=>?_)
           ·refine Goes.skip ?_
            refine sq (Goes.block ?_)
            obtain⟨⟨l147,o148,s149,n150⟩,e_r146,g143⟩:=bnd g143
            try dsimp only at g143
            refine sq (gq fol [1] [(21,.ptr 0 0),(45,.i n150),(298,.i (l.length:Int)),(299,.i n140)] (kT l147 o148 (kBN (kB l147 o148 []))) (ac (hs (.callH 51 [.ptr 0 0,.str [117,110,100,111]] (kA l138 o139 []) [0,1,2] (.tuple [.str s149,.i n150]) (kT l147 o148 (kBN (kB l147 o148 [])))) (kg [some 0,some 1,some 2] [some 0,none,none,some 3,some 4] (jM N l138 o139 [117,110,100,111] e_r146) (.kb rfl (.cells (rc (.gslice rfl) (rc (.hs rfl) rn))) (.ks (.ks .nil))) rfl rfl (.back rfl rfl (.cells (rc (.gslice rfl) (rc (.hs rfl) rn))) rfl (.dead (.dead (.new rfl rfl (.same fa) rfl (.new rfl rfl (.same fa) rfl .nil))))) (rc (.ptr rfl) (rc (.same nS) rn)) (.same (ql.tuple sn)) rfl)) az) ?_)
            refine sq ?_
            obtain⟨b152,g_v153,g143⟩:=bnd g143
            refine Goes.cut (s':=(ofG 345 (kBC (l.length:Int) n140 [(311,.bool b152)]),(kT l147 o148 (kBN (kB l147 o148 []))))) ?_ ?_
            ·rcases wyB g_v153 with⟨c151,g_v153⟩|⟨c151,g_v153⟩
             ·obtain rfl:=si g_v153
              exact tr fol [2] (kBC (l.length:Int) n140 [(311,.bool (!decide (n150=12)))]) (ac (gw c151) az)
             ·obtain rfl:=si g_v153
              exact tr fol [2] (kBC (l.length:Int) n140 [(311,.bool false)]) (ac (gw c151) az)
            refine ihB g143 (fun c154 g143=>?_) (fun c154 g143=>?_)
            ·refine sh fol kAI ?_
             refine Goes.ret ?_
             obtain rfl:=si g143
             exact Or.inr (⟨rfl,_,rfl,(gw2 [.bool false] (FzW.still tB))⟩)
            ·refine Goes.skip ?_
             refine gh fol (kBC (l.length:Int) (w64 (n140+1)) []) ?_
             exact⟨M,(ofG 345 (kBC (l.length:Int) (w64 (n140+1)) []),(kA l147 o148 [])),Nat.lt_succ_self _,(Sub.norm [] [some 0,some 3,some 4] rfl rfl (.kp (.keep (.same nI) (.keep (.same nI) .nil))) (.kb rfl (.cells (rc (.gslice rfl) (rc (.hs rfl) rn))) (.ks (.ks .nil)))),_,_,_,rfl,g143⟩
           ·refine Goes.exit ?_
            obtain rfl:=si g143
            exact Or.inl (⟨rfl,_,_,rfl,(Sub.keep [21] rfl rfl)⟩)
         rintro x s' (⟨rfl,l141,o142,rfl,hsub⟩|⟨rfl,q170,rfl,hret⟩)
         ·try dsimp only at h
          refine Goes.sub hsub ?_
          obtain⟨l156,e_r155,h⟩:=bnd h
          obtain⟨r157,e_r157,h⟩:=bnd h
          refine sq (gq fol [1,2] [(21,.ptr 0 0),(46,.ptr 4 0),(48,.i r157.2.2)] (kA l141 o142 (.frozen (l156.flatMap qa.c)::(kG r157.1.Day r157.1.Slings []))) (ac (hs (.callH 52 [.ptr 0 0] (kA l141 o142 []) [0,1,2] (.gslice 3 l156.length 5) (kA l141 o142 (kJ l156 []))) (kg [some 0,some 1,some 2] [some 0,some 1,some 2,some 3] (qbK N l141 o142 e_r155) (.kb rfl (.cells (rc (.gslice rfl) (rc (.hs rfl) rn))) (.ks (.ks .nil))) rfl rfl (.back rfl rfl (.cells (rc (.gslice rfl) (rc (.hs rfl) rn))) rfl (.back rfl rfl (.same fa) rfl (.back rfl rfl (.same fa) rfl (.new rfl rfl (.same fa) rfl .nil)))) (rc (.ptr rfl) rn) (.gslice rfl) rfl)) (ac (hs (.callF 16 [.gslice 3 l156.length 5] (kA l141 o142 (kJ l156 [])) [3] [vl qa l156] (.tuple (kAh r157.1.Day r157.1.Slings [.i r157.2.1,.i r157.2.2]))) (qhO (FzL.cons (Fz.gs (E:=qa) rfl rfl (nl rfl)) FzL.nil) (qf5 N l156 e_r157) (Still.tuple (AllST.cons (Still.agg (AllST.cons tI (AllST.cons (ko qd _ (nl rfl)) AllST.nil))) (AllST.cons tI (AllST.cons tI AllST.nil)))))) az)) ?_)
          refine Goes.sub (show Sub (ofG 345 [(21,.ptr 0 0),(46,.ptr 4 0),(48,.i r157.2.2)],(kA l141 o142 (.frozen (l156.flatMap qa.c)::(kG r157.1.Day r157.1.Slings [])))) (ofG 345 [(21,.ptr 0 0),(46,.ptr 3 0),(48,.i r157.2.2)],(kA l141 o142 (kG r157.1.Day r157.1.Slings [])))from(Sub.norm [] [some 0,some 1,some 2,some 4] rfl rfl (.kp (.kp (.keep (.same nI) .nil))) (.kb rfl (.cells (rc (.gslice rfl) (rc (.hs rfl) rn))) (.ks (.ks (.kb rfl (.same sn) .nil)))))) ?_
          obtain⟨⟨l159,o160,s161,n162⟩,e_r158,h⟩:=bnd h
          try dsimp only at h
          refine sq (gq fol [1] [(46,.ptr 3 0),(48,.i r157.2.2),(50,.i n162)] (kAn l159 o160 (kG r157.1.Day r157.1.Slings (kB l159 o160 []))) (ac (hs (.callH 51 [.ptr 0 0,.str [117,110,100,111]] (kA l141 o142 (kG r157.1.Day r157.1.Slings [])) [0,1,2] (.tuple [.str s161,.i n162]) (kAn l159 o160 (kG r157.1.Day r157.1.Slings (kB l159 o160 [])))) (kg [some 0,some 1,some 2] [some 0,none,none,none,some 3,some 4] (jM N l141 o142 [117,110,100,111] e_r158) (.kb rfl (.cells (rc (.gslice rfl) (rc (.hs rfl) rn))) (.ks (.ks .nil))) rfl rfl (.back rfl rfl (.cells (rc (.gslice rfl) (rc (.hs rfl) rn))) rfl (.dead (.dead (.old rfl rfl (.new rfl rfl (.same fa) rfl (.new rfl rfl (.same fa) rfl .nil)))))) (rc (.ptr rfl) (rc (.same nS) rn)) (.same (ql.tuple sn)) rfl)) az) ?_)
          refine sq ?_
          obtain⟨b168,g_v169,h⟩:=bnd h
          refine Goes.cut (s':=(ofG 345 (kBI b168),(kAn l159 o160 (kG r157.1.Day r157.1.Slings (kB l159 o160 []))))) ?_ ?_
          ·rcases wyD g_v169 with⟨c163,g_v169⟩|⟨c163,g_v169⟩
           ·rcases wyD g_v169 with⟨c164,g_v169⟩|⟨c164,g_v169⟩
            ·rcases wyD g_v169 with⟨c165,g_v169⟩|⟨c165,g_v169⟩
             ·rcases wyD g_v169 with⟨c166,g_v169⟩|⟨c166,g_v169⟩
              ·obtain⟨r167,e_r167,g_v169⟩:=bnd g_v169
               obtain rfl:=si g_v169
               exact tr fol [2,8,13,17,18] (kBI r167) (ac (gw c163) (ac (gw c164) (ac (gw c165) (ac (gw c166) (ac (cv (qkw e_r167)) az)))))
              ·obtain rfl:=si g_v169
               exact tr fol [2,8,13,17] kAI (ac (gw c163) (ac (gw c164) (ac (gw c165) (ac (gw c166) az))))
             ·obtain rfl:=si g_v169
              exact tr fol [2,8,13] kAI (ac (gw c163) (ac (gw c164) (ac (gw c165) az)))
            ·obtain rfl:=si g_v169
             exact tr fol [2,8] kAI (ac (gw c163) (ac (gw c164) az))
           ·obtain rfl:=si g_v169
            exact tr fol [2] kAI (ac (gw c163) az)
          refine Goes.ret ?_
          obtain rfl:=si h
          exact(gw2 [.bool b168] (FzW.still tB))
         ·try dsimp only at h
          obtain rfl:=si h
          exact hret
        ·try dsimp only at h
         obtain rfl:=si h
         exact hret
       ·try dsimp only at h
        obtain rfl:=si h
        exact hret
     ·try dsimp only at h
      obtain rfl:=si h
      exact hret
   ·try dsimp only at h
    obtain rfl:=si h
    exact hret
end Go.Av
