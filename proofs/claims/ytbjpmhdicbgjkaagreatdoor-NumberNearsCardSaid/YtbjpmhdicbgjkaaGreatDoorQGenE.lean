/-
  The walk of the law.
-/
import Derived.Test.YtbjpmhdicbgjkaaGreatDoorQGenE6
import Derived.Test.YtbjpmhdicbgjkaaGreatDoorAvAwkE
noncomputable section
namespace Go.Av
open Go.Proofs Go.RowKit
set_option linter.unusedSectionVars false
set_option linter.unusedVariables false
set_option linter.unusedSimpArgs false
set_option maxRecDepth 100000
def awk:Option Bool:=some true
theorem qhn {res:Bool} (h:awk=some res):qb ZT (.fn 10) [] [] (.bool res) []:=by
 obtain rfl:=si h
 exact qql
def qD (N:Nat) (o:Str) (d:Str×Int) (a:Int×Bool) (e:Str) (f:Str) (g:Str):Nat->Int->Option (Unit⊕Bool)
 |0,_=>none
 |K+1,b=>
  if b<2 then
  (idx ([f,g]:List Str) b).bind fun c=>
  (qai N o c).bind fun j=>
  (xC j).bind fun k=>
  (qag N k e).bind fun h=>
  (qaj N c).bind fun l=>
  (y7 N l).bind fun i=>
  (if h<0 then
  some true
  else
  if h=0 then
  if i.1<a.1 then
  some true
  else
  if i.1=a.1 then
  (qag N c d.1).bind fun m=>
  some (decide (m<0))
  else
  some false
  else
  some false:Option Bool).bind fun n=>
  if n=true then
  some (.inr false)
  else
  qD N o d a e f g K (w64 (b+1))
  else
  some (.inl ())
def zn (N:Nat) (f:Str) (most:Int) (b:Str×Int) (c:Int×Bool) (d:Str):Nat->Int->Option (Unit⊕Bool)
 |0,_=>none
 |K+1,a=>
  if a<=most then
  (yz N a).bind fun g=>
  (qbV N f g).bind fun h=>
  (qbm N h).bind fun e=>
  (yz N a).bind fun i=>
  (qbU N e i).bind fun j=>
  (qbR N e [49]).bind fun k=>
  (yz N a).bind fun l=>
  (qbU N k l).bind fun m=>
  (qD N f b c d j m N 0).bind (fun
  |(.inl ())=>
  zn N f most b c d K (w64 (a+1))
  |(.inr n)=>
  some (.inr n))
  else
  some (.inl ())
def xI (N:Nat) (b:Str) (most:Int):Option Bool:=
 ((awk).bind fun s=>
 if(!s)=true then
 some true
 else
 (qcM N b 6).bind fun t=>
 if(!t)=true then
 some true
 else
 if most<1 then
 some true
 else
 some (decide (most>30)):Option Bool).bind fun u=>
 if u=true then
 (awk).bind fun v=>
 some v
 else
 (yS N b most).bind fun a=>
 (yS N b (w64 (most+1))).bind fun c=>
 (if(!decide ((w64 (a.2+c.2))=0))=true then
 some true
 else
 (qad N a.1).bind fun g=>
 if(!decide (g=0))=true then
 some true
 else
 (qad N c.1).bind fun h=>
 some (!decide (h=0)):Option Bool).bind fun i=>
 if i=true then
 some false
 else
 (qaj N a.1).bind fun j=>
 (y7 N j).bind fun d=>
 (qai N b a.1).bind fun k=>
 (xC k).bind fun e=>
 (if(!d.2)=true then
 some true
 else
 if d.1>most then
 some true
 else
 (qai N b c.1).bind fun l=>
 (xC l).bind fun m=>
 (qag N m e).bind fun n=>
 some (decide (n>0)):Option Bool).bind fun o=>
 if o=true then
 some false
 else
 (qaj N b).bind fun p=>
 (y7 N p).bind fun f=>
 (if f.2=true then
 if f.1<=most then
 some (!(a.1==b))
 else
 some false
 else
 some false:Option Bool).bind fun q=>
 if q=true then
 some false
 else
 (zn N b most a d e N 1).bind (fun
 |(.inl ())=>
 some true
 |(.inr r)=>
 some r)
theorem qdQ (N:Nat) (f:Str) (most:Int) {res:Bool} (h:xI N f most=some res):qb ZT (.fn 5) (kA9 f most) [] (.bool res) []:=by
 unfold xI at h
 refine Ub Tryz.func5 rfl rfl (m:=167) rfl (rs:=[.tmp 4]) rfl (l:=(kAQ f [(1,.i most)])) rfl ?_
 refine sh fol (kAQ f [(1,.i most)]) ?_
 refine sq ?_
 refine sq ?_
 obtain⟨b6,j,h⟩:=bnd h
 refine Goes.cut (s':=(ofG 167 (kAQ f [(1,.i most),(35,.bool b6)]),[])) ?_ ?_
 ·obtain⟨r1,u,j⟩:=bnd j
  rcases wyB j with⟨c2,j⟩|⟨c2,j⟩
  ·obtain rfl:=si j
   exact tr fol [0,2] (kAQ f ((1,.i most)::kBz)) (ac (cv (qhn u)) (ac (gw c2) az))
  obtain⟨r3,w,j⟩:=bnd j
  rcases wyB j with⟨c4,j⟩|⟨c4,j⟩
  ·obtain rfl:=si j
   exact tr fol [0,2,4,7] (kAQ f ((1,.i most)::kBz)) (ac (cv (qhn u)) (ac (gw c2) (ac (cv (qdn N f 6 w)) (ac (gw c4) az))))
  rcases wyD j with⟨c5,j⟩|⟨c5,j⟩
  ·obtain rfl:=si j
   exact tr fol [0,2,4,7,11] (kAQ f ((1,.i most)::kBz)) (ac (cv (qhn u)) (ac (gw c2) (ac (cv (qdn N f 6 w)) (ac (gw c4) (ac (gw c5) az)))))
  obtain rfl:=si j
  exact tr fol [0,2,4,7,11] (kAQ f [(1,.i most),(35,.bool (decide (most>30)))]) (ac (cv (qhn u)) (ac (gw c2) (ac (cv (qdn N f 6 w)) (ac (gw c4) (ac (gw c5) az)))))
 refine ihB h (fun c8 h=>?_) (fun c8 h=>?_)
 ·obtain⟨r9,e_r9,h⟩:=bnd h
  refine sq (gr fol [0] (kAl r9) (ac (cv (qhn e_r9)) az) ?_)
  refine Goes.ret ?_
  obtain rfl:=si h
  exact(gw2 [.bool r9] (Ua tB))
 refine Goes.skip ?_
 obtain⟨a,G,h⟩:=bnd h
 refine sq (gr fol [2] (kAF f most a.1 (kB4 a.2)) (ac (cv (qcw N f most G)) az) ?_)
 obtain⟨p,H,h⟩:=bnd h
 refine sq (gr fol [3] (kAF f most a.1 (kBK a.2 p.1 p.2 [])) (ac (cv (qcw N f (w64 (most+1)) H)) az) ?_)
 refine sq ?_
 refine sq ?_
 obtain⟨b16,g,h⟩:=bnd h
 refine Goes.cut (s':=(ofG 167 (kAF f most a.1 [(7,.str p.1),(63,.bool b16)]),[])) ?_ ?_
 ·rcases wyB g with⟨B,g⟩|⟨B,g⟩
  ·obtain rfl:=si g
   exact tr fol [4] (kAF f most a.1 [(7,.str p.1),(63,.bool true)]) (ac (gw B) az)
  obtain⟨r13,y,g⟩:=bnd g
  rcases wyB g with⟨I,g⟩|⟨I,g⟩
  ·obtain rfl:=si g
   exact tr fol [4,6,9] (kAF f most a.1 [(7,.str p.1),(63,.bool true)]) (ac (gw B) (ac (cv (yM N a.1 y)) (ac (gw I) az)))
  obtain⟨r15,J,g⟩:=bnd g
  obtain rfl:=si g
  exact tr fol [4,6,9,11] (kAF f most a.1 [(7,.str p.1),(63,.bool (!decide (r15=0)))]) (ac (gw B) (ac (cv (yM N a.1 y)) (ac (gw I) (ac (cv (yM N p.1 J)) az))))
 refine ihB h (fun c18 h=>?_) (fun c18 h=>?_)
 ·refine sh fol kAT ?_
  refine Goes.ret ?_
  obtain rfl:=si h
  exact(gw2 [.bool false] (Ua tB))
 refine Goes.skip ?_
 obtain⟨r19,K,h⟩:=bnd h
 obtain⟨c,L,h⟩:=bnd h
 refine sq (gr fol [1,2] (kAF f most a.1 ((7,.str p.1)::(9,.i c.1)::(kBV c.2))) (ac (cv (qbI N a.1 K)) (ac (cv (qcl N r19 L)) az)) ?_)
 obtain⟨r21,O,h⟩:=bnd h
 obtain⟨d,P,h⟩:=bnd h
 refine sq (gr fol [2,3] (kAF f most a.1 [(7,.str p.1),(9,.i c.1),(10,.bool c.2),(11,.str d)]) (ac (cv (qbN N f a.1 O)) (ac (cv (qaR r21 P)) az)) ?_)
 refine sq ?_
 refine sq ?_
 obtain⟨b28,e,h⟩:=bnd h
 refine Goes.cut (s':=(ofG 167 (kP f most a.1 c.1 d [(89,.bool b28)]),[])) ?_ ?_
 ·rcases wyB e with⟨C,e⟩|⟨C,e⟩
  ·obtain rfl:=si e
   exact tr fol [2] (kP f most a.1 c.1 d [(89,.bool true)]) (ac (gw C) az)
  rcases wyD e with⟨U,e⟩|⟨U,e⟩
  ·obtain rfl:=si e
   exact tr fol [2,7] (kP f most a.1 c.1 d [(89,.bool true)]) (ac (gw C) (ac (gw U) az))
  obtain⟨r25,V,e⟩:=bnd e
  obtain⟨r26,X,e⟩:=bnd e
  obtain⟨r27,Y,e⟩:=bnd e
  obtain rfl:=si e
  exact tr fol [2,7,10,11,13] (kP f most a.1 c.1 d [(89,.bool (decide (r27>0)))]) (ac (gw C) (ac (gw U) (ac (cv (qbN N f p.1 V)) (ac (cv (qaR r25 X)) (ac (cv (qdt N r26 d Y)) az)))))
 refine ihB h (fun c30 h=>?_) (fun c30 h=>?_)
 ·refine sh fol kAT ?_
  refine Goes.ret ?_
  obtain rfl:=si h
  exact(gw2 [.bool false] (Ua tB))
 refine Goes.skip ?_
 refine sq ?_
 obtain⟨r31,Z,h⟩:=bnd h
 obtain⟨r32,a0,h⟩:=bnd h
 refine sq (gr fol [1,2] (kP f most a.1 c.1 d ((12,.i r32.1)::(kBT r32.2))) (ac (cv (qbI N f Z)) (ac (cv (qcl N r31 a0)) az)) ?_)
 refine sq ?_
 obtain⟨b35,n,h⟩:=bnd h
 refine Goes.cut (s':=(ofG 167 (kP f most a.1 c.1 d [(106,.bool b35)]),[])) ?_ ?_
 ·rcases wyB n with⟨D,n⟩|⟨D,n⟩
  ·rcases wyD n with⟨a1,n⟩|⟨a1,n⟩
   ·obtain rfl:=si n
    exact tr fol [1,6] (kP f most a.1 c.1 d [(106,.bool (!(a.1==f)))]) (ac (gw D) (ac (gw a1) az))
   obtain rfl:=si n
   exact tr fol [1,6] (kP f most a.1 c.1 d [(106,.bool false)]) (ac (gw D) (ac (gw a1) az))
  obtain rfl:=si n
  exact tr fol [1] (kP f most a.1 c.1 d [(106,.bool false)]) (ac (gw D) az)
 refine ihB h (fun c37 h=>?_) (fun c37 h=>?_)
 ·refine sh fol kAT ?_
  refine Goes.ret ?_
  obtain rfl:=si h
  exact(gw2 [.bool false] (Ua tB))
 refine Goes.skip ?_
 refine sq ?_
 refine sh fol (kP f most a.1 c.1 d [(14,.i 1)]) ?_
 refine Goes.block ?_
 obtain⟨a2,g39,h⟩:=bnd h
 refine Goes.imp (Q:=fun x s'=>(x= .exit 0/\(.inl ())=a2/\Sub s' (ofG 167 [],[]))\/(x= .ret/\ ∃q40,(.inr q40)=a2/\jY ZT [.tmp 4] (.bool q40) .ret s')) ?_ ?_
 ·refine Uc (fun M s=> ∃(k:Int),s=(ofG 167 (kP f most a.1 c.1 d (kBu k)),[])/\zn N f most a c d M k=some a2) ?_ (m:=N) ⟨_,rfl,g39⟩
  rintro M s ⟨k,rfl,g39⟩
  cases M with
  |zero=>simp only[zn]at g39;cases g39
  |succ M=>
   rw[zn]at g39
   refine sq ?_
   refine sh fol (kP f most a.1 c.1 d [(14,.i k),(109,.bool (decide (k<=most)))]) ?_
   refine ihD g39 (fun c41 g39=>?_) (fun c41 g39=>?_)
   ·refine Goes.skip ?_
    refine sq (Goes.block ?_)
    obtain⟨r42,a3,g39⟩:=bnd g39
    obtain⟨r43,a4,g39⟩:=bnd g39
    obtain⟨a5,a6,g39⟩:=bnd g39
    refine sq (gr fol [2,3,4] (kP f most a.1 c.1 d [(14,.i k),(15,.str a5)]) (ac (cv (qa9 N k a3)) (ac (cv (qff N f r42 a4)) (ac (cv (qgK N r43 a6)) az))) ?_)
    obtain⟨r45,a7,g39⟩:=bnd g39
    obtain⟨q,a8,g39⟩:=bnd g39
    obtain⟨r47,a9,g39⟩:=bnd g39
    obtain⟨r48,b0,g39⟩:=bnd g39
    obtain⟨r,b1,g39⟩:=bnd g39
    refine sq (gq fol [2,3,5,7,8] (kP f most a.1 c.1 d [(14,.i k),(126,.slice 0 0 2 2 1),(127,.i 2),(128,.i 0)]) (kB q r []) (ac (cv (qa9 N k a7)) (ac (cv (qfn N a5 r45 a8)) (ac (cv (qfC N a5 [49] a9)) (ac (cv (qa9 N k b0)) (ac (cv (qfn N r47 r48 b1)) az))))) ?_)
    refine Goes.block ?_
    obtain⟨b2,g51,g39⟩:=bnd g39
    refine Goes.imp (Q:=fun x s'=>(x= .exit 2/\(.inl ())=b2/\Sub s' (ofG 167 (kP f most a.1 c.1 d (kBu k)),[]))\/(x= .ret/\ ∃q52,(.inr q52)=b2/\jY ZT [.tmp 4] (.bool q52) .ret s')) ?_ ?_
    ·refine Uc (fun M s=> ∃(o:Int),s=(ofG 167 (kP f most a.1 c.1 d ((14,.i k)::(kAK o []))),(kB q r []))/\qD N f a c d q r M o=some b2) ?_ (m:=N) ⟨_,rfl,g51⟩
     rintro M s ⟨o,rfl,g51⟩
     cases M with
     |zero=>simp only[qD]at g51;cases g51
     |succ M=>
      rw[qD]at g51
      refine sh fol (kP f most a.1 c.1 d ((14,.i k)::(kAK o [(129,.bool (decide (o<2)))]))) ?_
      refine sq ?_
      refine ihD g51 (fun c53 g51=>?_) (fun c53 g51=>?_)
      ·refine Goes.skip ?_
       refine sq (Goes.block ?_)
       obtain⟨t,z,g51⟩:=bnd g51
       refine sq (gr fol [0,1] (kP f most a.1 c.1 d ((14,.i k)::(17,.str t)::(kAK o []))) (ac (hs (.done (.opt (qh ZT 56 (.slice 0 0 ([q,r]:List Str).length ([q,r]:List Str).length 1) (.i o))) (.ptr 0 ((o:Int).toNat*1+0))) (xX sl56 z)) (ac (hs (.run [0] (zY ZT 23 (.ptr 0 ((o:Int).toNat*1+0))) (kB q r []) (.str t) (kB q r []) false) (qb0 ce23 (E:=encS) (l:=([q,r]:List Str)) rfl rfl z (nl rfl) rfl)) az)) ?_)
       obtain⟨r55,b3,g51⟩:=bnd g51
       obtain⟨r56,b4,g51⟩:=bnd g51
       obtain⟨r57,b5,g51⟩:=bnd g51
       refine sq (gr fol [2,3,5] (kP f most a.1 c.1 d ((14,.i k)::(17,.str t)::(18,.i r57)::(kAK o []))) (ac (cv (qbN N f t b3)) (ac (cv (qaR r55 b4)) (ac (cv (qdt N r56 d b5)) az))) ?_)
       obtain⟨r58,b7,g51⟩:=bnd g51
       obtain⟨r59,b8,g51⟩:=bnd g51
       refine sq (gr fol [1,2] (kP f most a.1 c.1 d ((14,.i k)::(17,.str t)::(18,.i r57)::(19,.i r59.1)::(kAK o []))) (ac (cv (qbI N t b7)) (ac (cv (qcl N r58 b8)) az)) ?_)
       refine sq ?_
       obtain⟨b65,b,g51⟩:=bnd g51
       refine Goes.cut (s':=(ofG 167 (kP f most a.1 c.1 d ((14,.i k)::(kAK o [(165,.bool b65)]))),(kB q r []))) ?_ ?_
       ·rcases wyD b with⟨v,b⟩|⟨v,b⟩
        ·obtain rfl:=si b
         exact tr fol [2] (kP f most a.1 c.1 d ((14,.i k)::(kAK o [(165,.bool true)]))) (ac (gw v) az)
        rcases wyD b with⟨A,b⟩|⟨A,b⟩
        ·rcases wyD b with⟨F,b⟩|⟨F,b⟩
         ·obtain rfl:=si b
          exact tr fol [2,5,9] (kP f most a.1 c.1 d ((14,.i k)::(kAK o [(165,.bool true)]))) (ac (gw v) (ac (gw A) (ac (gw F) az)))
         rcases wyD b with⟨b9,b⟩|⟨b9,b⟩
         ·obtain⟨r64,c0,b⟩:=bnd b
          obtain rfl:=si b
          exact tr fol [2,5,9,13,16] (kP f most a.1 c.1 d ((14,.i k)::(kAK o [(165,.bool (decide (r64<0)))]))) (ac (gw v) (ac (gw A) (ac (gw F) (ac (gw b9) (ac (cv (qdt N t a.1 c0)) az)))))
         obtain rfl:=si b
         exact tr fol [2,5,9,13] (kP f most a.1 c.1 d ((14,.i k)::(kAK o [(165,.bool false)]))) (ac (gw v) (ac (gw A) (ac (gw F) (ac (gw b9) az))))
        obtain rfl:=si b
        exact tr fol [2,5] (kP f most a.1 c.1 d ((14,.i k)::(kAK o [(165,.bool false)]))) (ac (gw v) (ac (gw A) az))
       refine ihB g51 (fun c67 g51=>?_) (fun c67 g51=>?_)
       ·refine sh fol kAT ?_
        refine Goes.ret ?_
        obtain rfl:=si g51
        exact Or.inr (⟨rfl,_,rfl,(gw2 [.bool false] (Ua tB))⟩)
       refine Goes.skip ?_
       refine gh fol (kP f most a.1 c.1 d ((14,.i k)::(kAK (w64 (o+1)) []))) ?_
       exact⟨M,(ofG 167 (kP f most a.1 c.1 d ((14,.i k)::(kAK (w64 (o+1)) []))),(kB q r [])),Nat.lt_succ_self _,(Sub.refl _),_,rfl,g51⟩
      refine Goes.exit ?_
      obtain rfl:=si g51
      exact Or.inl (⟨rfl,rfl,(Sub.norm [] [] rfl rfl (.keep (.same nS) (.keep (.same nI) (.keep (.same nS) (.keep (.same nI) (.keep (.same nS) (.keep (.same nI) .nil)))))) .nil)⟩)
    rintro x s' (⟨rfl,rfl,hsub⟩|⟨rfl,q68,rfl,hret⟩)
    ·try dsimp only at g39
     refine Goes.sub hsub ?_
     refine gh fol (kP f most a.1 c.1 d (kBu (w64 (k+1)))) ?_
     exact⟨M,(ofG 167 (kP f most a.1 c.1 d (kBu (w64 (k+1)))),[]),Nat.lt_succ_self _,(Sub.refl _),_,rfl,g39⟩
    try dsimp only at g39
    obtain rfl:=si g39
    exact Or.inr (⟨rfl,_,rfl,hret⟩)
   refine Goes.exit ?_
   obtain rfl:=si g39
   exact Or.inl (⟨rfl,rfl,(Sub.keep [] rfl rfl)⟩)
 rintro x s' (⟨rfl,rfl,hsub⟩|⟨rfl,q69,rfl,hret⟩)
 ·try dsimp only at h
  refine Goes.sub hsub ?_
  refine sh fol [(4,.bool true)] ?_
  refine Goes.ret ?_
  obtain rfl:=si h
  exact(gw2 [.bool true] (Ua tB))
 try dsimp only at h
 obtain rfl:=si h
 exact hret
end Go.Av
