/-
  The walk of the law.
-/
import Derived.Test.YtkdbjocpkfeckaaGreatDoorQGenTu4
import Derived.Test.YtkdbjocpkfeckaaGreatDoorAvAwkB9
noncomputable section
namespace Go.Av
open Go.Proofs Go.RowKit
set_option linter.unusedSectionVars false
set_option linter.unusedVariables false
set_option linter.unusedSimpArgs false
set_option maxRecDepth 100000
def awk:Option Bool:=some true
theorem qiY {res:Bool} (h:awk=some res):qc ZT (.fn 6) [] [] (.bool res) []:=by
 obtain rfl:=si h;exact qsL
def ja (N:Nat) (n:Int) (a:List Int) (b:(List Int)×Int):Nat->Int->Option (Unit⊕Bool)
 |0,_=>none
 |K+1,c=>
  if c<4 then
  (idx ([[101,120,112,111,110,101,110,116],[112,101,114,109],[108,105,110,107],[98,117,114,97,117]]:List Str) c).bind fun d=>
  ((qbY N n a b.1 d).bind fun e=>
  if e=true then
  some true
  else
  (yT N n a b.1 d).bind fun f=>
  some (!decide (f=21)):Option Bool).bind fun g=>
  if g=true then
  some (.inr false)
  else
  ja N n a b K (w64 (c+1))
  else
  some (.inl ())
def z8 (N:Nat) (n:Int) (l:List zy):Nat->Int->(List Int)->Option ((List Int)⊕Bool)
 |0,_,_=>none
 |K+1,c,b=>
  if c<(l.length:Int)then
  (cut l c (w64 (c+1))).bind fun f=>
  (y8 N n b f).bind fun a=>
  if(!decide (a.2=0))=true then
  (cut l c (l.length:Int)).bind fun g=>
  (y8 N n b g).bind fun h=>
  some (.inr (decide (h.2=a.2)))
  else
  ((yQ N n a.1).bind fun i=>
  if(!decide (i=0))=true then
  some true
  else
  if(a.1.length:Int)>(w64 ((b.length:Int)+2))then
  some true
  else
  some (decide ((a.1.length:Int)<(w64 ((b.length:Int)-2)))):Option Bool).bind fun j=>
  if j=true then
  some (.inr false)
  else
  (qa4 N n b).bind fun d=>
  (qa4 N n a.1).bind fun e=>
  (if(!decide ((w64 (d.2+e.2))=0))=true then
  some true
  else
  (qer d.1).bind fun k=>
  (qer e.1).bind fun m=>
  (qaP N k m).bind fun o=>
  some (!o):Option Bool).bind fun p=>
  if p=true then
  some (.inr false)
  else
  (ja N n b a N 0).bind (fun
  |(.inl ())=>
  (if(b.length:Int)<=8 then
  if(a.1.length:Int)<=8 then
  (qaV N n b).bind fun q=>
  (qaV N n a.1).bind fun r=>
  (zU N q r).bind fun s=>
  some (!s)
  else
  some false
  else
  some false:Option Bool).bind fun t=>
  if t=true then
  some (.inr false)
  else
  z8 N n l K (w64 (c+1)) a.1
  |(.inr u)=>
  some (.inr u))
  else
  some (.inl b)
def qbc (N:Nat) (n:Int) (w:List Int) (l:List zy):Option Bool:=
 ((awk).bind fun i=>
 if(!i)=true then
 some true
 else
 (qet N n w 5 10).bind fun j=>
 if(!j)=true then
 some true
 else
 if(l.length:Int)>8 then
 some true
 else
 (qcF N l).bind fun k=>
 (xI N k 8).bind fun m=>
 some (!m):Option Bool).bind fun o=>
 if o=true then
 (awk).bind fun c=>
 some c
 else
 (app 8 ([]:List Int) w).bind fun d=>
 (z8 N n l N 0 d).bind (fun
 |(.inl a)=>
 (y8 N n w l).bind fun b=>
 (if b.2=0 then
 (yA N b.1 a).bind fun e=>
 if e=true then
 (xA N n w a l).bind fun f=>
 some (decide (f=0))
 else
 some false
 else
 some false:Option Bool).bind fun g=>
 some g
 |(.inr h)=>
 some h)
theorem qgc (N:Nat) (n:Int) (w:List Int) (l:List zy) {res:Bool} (h:qbc N n w l=some res):qc ZT (.fn 3) [.i n,vl encI w,vl qG l] [] (.bool res) []:=by
 unfold qbc at h;refine Ub Tryz.func3 rfl rfl (m:=180) rfl (rs:=[.tmp 6]) rfl (l:=(kB n w (kAN l []))) rfl ?_;refine sh fol (kB n w (kAN l [])) ?_;refine sq ?_;refine sq ?_;obtain⟨b8,d,h⟩:=bnd h;refine Goes.cut (s':=(ofG 180 (kB n w (kAN l [(39,.bool b8)])),[])) ?_ ?_
 ·obtain⟨r1,u,d⟩:=bnd d;rcases wyB d with⟨c2,d⟩|⟨c2,d⟩
  ·obtain rfl:=si d;exact tr fol [0,2] (kB n w (kAN l [(39,.bool true)])) (ac (cv (qiY u)) (ac (gw c2) az))
  obtain⟨r3,y,d⟩:=bnd d;rcases wyB d with⟨c4,d⟩|⟨c4,d⟩
  ·obtain rfl:=si d;exact tr fol [0,2,5,8] (kB n w (kAN l [(39,.bool true)])) (ac (cv (qiY u)) (ac (gw c2) (ac (cv (qeS N n w 5 10 y)) (ac (gw c4) az))))
  rcases wyD d with⟨c5,d⟩|⟨c5,d⟩
  ·obtain rfl:=si d;exact tr fol [0,2,5,8,13] (kB n w (kAN l [(39,.bool true)])) (ac (cv (qiY u)) (ac (gw c2) (ac (cv (qeS N n w 5 10 y)) (ac (gw c4) (ac (gw c5) az)))))
  obtain⟨r6,e_r6,d⟩:=bnd d;obtain⟨r7,e_r7,d⟩:=bnd d;obtain rfl:=si d;exact tr fol [0,2,5,8,13,15,16] (kB n w (kAN l [(39,.bool (!r7))])) (ac (cv (qiY u)) (ac (gw c2) (ac (cv (qeS N n w 5 10 y)) (ac (gw c4) (ac (gw c5) (ac (cv (qjP N l e_r6)) (ac (cv (qgb N r6 8 e_r7)) az)))))))
 refine ihB h (fun c10 h=>?_) (fun c10 h=>?_)
 ·obtain⟨r11,I,h⟩:=bnd h;refine sq (gr fol [0] [(6,.bool r11)] (ac (cv (qiY I)) az) ?_);refine Goes.ret ?_;obtain rfl:=si h;exact(gw2 [.bool r11] (Ua tB))
 refine Goes.skip ?_;obtain⟨v,J,h⟩:=bnd h;refine sq (gq fol [2] (kB n w (kAN l [(7,.oslice 1 v.length 1)])) (.dead::(kA v [])) (ac (hs (.run [0] (jd ZT [22,22] (.slice 0 0 0 0 1) (vl encI w)) [.cells []] (.oslice 1 v.length 1) (.dead::(kA v [])) true) (qao qO (E:=encI) rfl (qro (E:=encI) rfl _) (qtp (E:=encI) rfl rfl rfl J rfl))) az) ?_);refine sq ?_;refine sh fol (kB n w (kAN l [(7,.oslice 1 v.length 1),(45,.i (l.length:Int)),(46,.i 0)])) ?_;refine Goes.block ?_;obtain⟨K,g16,h⟩:=bnd h;refine Goes.imp (Q:=fun x s'=>(x= .exit 0/\ ∃r,(.inl r)=K/\Sub s' (ofG 180 (kB n w (kAN l [(7,vl encI r)])),[]))\/(x= .ret/\ ∃q17,(.inr q17)=K/\zo ZT [.tmp 6] (.bool q17) .ret s')) ?_ ?_
 ·refine Goes.sub (s':=(ofG 180 (kB n w (kAN l [(7,vl encI v),(45,.i (l.length:Int)),(46,.i 0)])),[])) (Uc [1] [] rfl rfl (.keep (.same nI) (.keep (.same (qg encI _)) (.keep (.same (qg qG _)) (.keep (.frz (Fz.os (E:=encI) rfl rfl (nl rfl)) (qg encI _)) (.keep (.same nI) (.keep (.same nI) .nil)))))) .nil) ?_;refine Ud (fun M s=> ∃(b:Int) (c:List Int),s=(ofG 180 (kB n w (kAN l ((7,vl encI c)::(kA9 (l.length:Int) b [])))),[])/\z8 N n l M b c=some K) ?_ (m:=N) ⟨_,_,rfl,g16⟩;rintro M s ⟨b,c,rfl,g16⟩
  cases M with
  |zero=>simp only[z8]at g16;cases g16
  |succ M=>
   rw[z8]at g16;refine sh fol (kB n w (kAN l ((7,vl encI c)::(kA9 (l.length:Int) b [(47,.bool (decide (b<(l.length:Int))))])))) ?_;refine sq ?_;refine ihD g16 (fun c18 g16=>?_) (fun c18 g16=>?_)
   ·refine Goes.skip ?_;refine sq (Goes.block ?_);refine sh fol (kB n w (kAN l ((7,vl encI c)::(8,.i b)::(kA9 (l.length:Int) b [])))) ?_;obtain⟨s19,L,g16⟩:=bnd g16;obtain⟨a,O,g16⟩:=bnd g16;refine sq (gr fol [6,7] (kB n w (kAN l ((7,vl encI c)::(8,.i b)::(kAx a.1 a.2 (kA9 (l.length:Int) b []))))) (ac (hs (.done (.opt (zD ZT 23 (vl qG l) (some (.i b)) (some (.i (w64 (b+1)))) none)) (vl qG s19)) (qh5 sl23 (E:=qG) rfl (some b) (some (w64 (b+1))) L)) (ac (cv (qdt N n c s19 O)) az)) ?_);refine sq ?_;refine sh fol (kB n w (kAN l ((7,vl encI c)::(8,.i b)::(kAx a.1 a.2 (kA9 (l.length:Int) b [(61,.bool (!decide (a.2=0)))]))))) ?_;refine ihB g16 (fun c21 g16=>?_) (fun c21 g16=>?_)
    ·obtain⟨s22,P,g16⟩:=bnd g16;obtain⟨U,V,g16⟩:=bnd g16;refine sq (gr fol [4,5] [(10,.i a.2),(12,.i U.2)] (ac (hs (.done (.opt (zD ZT 23 (vl qG l) (some (.i b)) none none)) (vl qG s22)) (qh5 sl23 (E:=qG) rfl (some b) none P)) (ac (cv (qdt N n c s22 V)) az)) ?_);refine sh fol [(6,.bool (decide (U.2=a.2)))] ?_;refine Goes.ret ?_;obtain rfl:=si g16;exact Or.inr (⟨rfl,_,rfl,(gw2 [.bool (decide (U.2=a.2))] (Ua tB))⟩)
    refine Goes.skip ?_;refine sq ?_;refine sq ?_;obtain⟨b27,g,g16⟩:=bnd g16;refine Goes.cut (s':=(ofG 180 (kB n w (kT l c a.1 (l.length:Int) b [(93,.bool b27)])),[])) ?_ ?_
    ·obtain⟨r24,t,g⟩:=bnd g;rcases wyB g with⟨D,g⟩|⟨D,g⟩
     ·obtain rfl:=si g;exact tr fol [2,4] (kB n w (kT l c a.1 (l.length:Int) b [(93,.bool true)])) (ac (cv (qag N n a.1 t)) (ac (gw D) az))
     rcases wyD g with⟨X,g⟩|⟨X,g⟩
     ·obtain rfl:=si g;exact tr fol [2,4,12] (kB n w (kT l c a.1 (l.length:Int) b [(93,.bool true)])) (ac (cv (qag N n a.1 t)) (ac (gw D) (ac (gw X) az)))
     obtain rfl:=si g;exact tr fol [2,4,12] (kB n w (kT l c a.1 (l.length:Int) b [(93,.bool (decide ((a.1.length:Int)<(w64 ((c.length:Int)-2)))))])) (ac (cv (qag N n a.1 t)) (ac (gw D) (ac (gw X) az)))
    refine ihB g16 (fun c29 g16=>?_) (fun c29 g16=>?_)
    ·refine sh fol kAu ?_;refine Goes.ret ?_;obtain rfl:=si g16;exact Or.inr (⟨rfl,_,rfl,(gw2 [.bool false] (Ua tB))⟩)
    refine Goes.skip ?_;obtain⟨p,Y,g16⟩:=bnd g16;refine sq (gq fol [2] (kB n w (kAN l ((7,vl encI c)::(9,vl encI a.1)::(13,.ptr 0 0)::(14,.i p.2)::(kA9 (l.length:Int) b [])))) [.cells [.i p.1.Half,vl (qf encI) p.1.Factors]] (ac (cv (qe7 N n c Y)) az) ?_);obtain⟨q,Z,g16⟩:=bnd g16;refine sq (gq fol [2] (kB n w (kAN l ((7,vl encI c)::(9,vl encI a.1)::(13,.ptr 0 0)::(14,.i p.2)::(15,.ptr 1 0)::(16,.i q.2)::(kA9 (l.length:Int) b [])))) [.cells [.i p.1.Half,vl (qf encI) p.1.Factors],.cells [.i q.1.Half,vl (qf encI) q.1.Factors]] (ac (cv (qe7 N n a.1 Z)) az) ?_);refine sq ?_;refine sq ?_;obtain⟨b36,j,g16⟩:=bnd g16;refine Goes.cut (s':=(ofG 180 (kB n w (kT l c a.1 (l.length:Int) b [(117,.bool b36)])),[.cells [.i p.1.Half,vl (qf encI) p.1.Factors],.cells [.i q.1.Half,vl (qf encI) q.1.Factors]])) ?_ ?_
    ·rcases wyB j with⟨a0,j⟩|⟨a0,j⟩
     ·obtain rfl:=si j;exact tr fol [4] (kB n w (kT l c a.1 (l.length:Int) b [(117,.bool true)])) (ac (gw a0) az)
     obtain⟨r33,a1,j⟩:=bnd j;obtain⟨r34,a2,j⟩:=bnd j;obtain⟨r35,a3,j⟩:=bnd j;obtain rfl:=si j;exact tr fol [4,6,8,9] (kB n w (kT l c a.1 (l.length:Int) b [(117,.bool (!r35))])) (ac (gw a0) (ac (cv (qhf p.1 a1)) (ac (cv (qhf q.1 a2)) (ac (cv (qgL N r33 r34 a3)) az))))
    refine ihB g16 (fun c38 g16=>?_) (fun c38 g16=>?_)
    ·refine sh fol kAu ?_;refine Goes.ret ?_;obtain rfl:=si g16;exact Or.inr (⟨rfl,_,rfl,(gw2 [.bool false] (Ua tB))⟩)
    refine Goes.skip ?_;refine sq ?_;refine sg fol (kB n w (kT l c a.1 (l.length:Int) b [(118,.slice 2 0 4 4 1),(119,.i 4),(120,.i 0)])) (.cells [.i p.1.Half,vl (qf encI) p.1.Factors]:: .cells [.i q.1.Half,vl (qf encI) q.1.Factors]::kU) ?_;refine Goes.block ?_;obtain⟨a4,g40,g16⟩:=bnd g16;refine Goes.imp (Q:=fun x s'=>(x= .exit 2/\(.inl ())=a4/\Sub s' (ofG 180 (kB n w (kT l c a.1 (l.length:Int) b [])),[]))\/(x= .ret/\ ∃q41,(.inr q41)=a4/\zo ZT [.tmp 6] (.bool q41) .ret s')) ?_ ?_
    ·refine Goes.sub (s':=(ofG 180 (kB n w (kT l c a.1 (l.length:Int) b [(118,.slice 0 0 4 4 1),(119,.i 4),(120,.i 0)])),kU)) (Uc [] [some 2] rfl rfl (.keep (.same nI) (.keep (.same (qg encI _)) (.keep (.same (qg qG _)) (.keep (.same (qg encI _)) (.keep (.same (qg encI _)) (.keep (.same nI) (.keep (.same nI) (.keep (.slice rfl) (.keep (.same nI) (.keep (.same nI) .nil)))))))))) (.kb rfl (.same sn) .nil)) ?_;refine Ud (fun M s=> ∃(o:Int),s=(ofG 180 (kB n w (kT l c a.1 (l.length:Int) b (kAV o []))),kU)/\ja N n c a M o=some a4) ?_ (m:=N) ⟨_,rfl,g40⟩;rintro M s ⟨o,rfl,g40⟩
     cases M with
     |zero=>simp only[ja]at g40;cases g40
     |succ M=>
      rw[ja]at g40;refine sh fol (kB n w (kT l c a.1 (l.length:Int) b (kAV o [(121,.bool (decide (o<4)))]))) ?_;refine sq ?_;refine ihD g40 (fun c42 g40=>?_) (fun c42 g40=>?_)
      ·refine Goes.skip ?_;refine sq (Goes.block ?_);obtain⟨z,A,g40⟩:=bnd g40;refine sq (gr fol [0,1] (kB n w (kAN l ((7,vl encI c)::(9,vl encI a.1)::(18,.str z)::(kA9 (l.length:Int) b (kAV o []))))) (ac (hs (.done (.opt (qa ZT 41 (.slice 0 0 ([[101,120,112,111,110,101,110,116],[112,101,114,109],[108,105,110,107],[98,117,114,97,117]]:List Str).length ([[101,120,112,111,110,101,110,116],[112,101,114,109],[108,105,110,107],[98,117,114,97,117]]:List Str).length 1) (.i o))) (.ptr 0 ((o:Int).toNat*1+0))) (ym sl41 A)) (ac (hs (.run [0] (qQ ZT 9 (.ptr 0 ((o:Int).toNat*1+0))) kU (.str z) kU false) (qa6 ce9 (E:=encS) (l:=([[101,120,112,111,110,101,110,116],[112,101,114,109],[108,105,110,107],[98,117,114,97,117]]:List Str)) rfl rfl A (nl rfl) rfl)) az)) ?_);refine sq ?_;obtain⟨b47,k,g40⟩:=bnd g40;refine Goes.cut (s':=(ofG 180 (kB n w (kT l c a.1 (l.length:Int) b (kAV o [(136,.bool b47)]))),kU)) ?_ ?_
       ·obtain⟨r44,B,k⟩:=bnd k;rcases wyB k with⟨a5,k⟩|⟨a5,k⟩
        ·obtain rfl:=si k;exact tr fol [4,5] (kB n w (kT l c a.1 (l.length:Int) b (kAV o [(136,.bool true)]))) (ac (cv (qe4 N n c a.1 z B)) (ac (gw a5) az))
        obtain⟨r46,a6,k⟩:=bnd k;obtain rfl:=si k;exact tr fol [4,5,10] (kB n w (kT l c a.1 (l.length:Int) b (kAV o [(136,.bool (!decide (r46=21)))]))) (ac (cv (qe4 N n c a.1 z B)) (ac (gw a5) (ac (cv (qfp N n c a.1 z a6)) az)))
       refine ihB g40 (fun c49 g40=>?_) (fun c49 g40=>?_)
       ·refine sh fol kAu ?_;refine Goes.ret ?_;obtain rfl:=si g40;exact Or.inr (⟨rfl,_,rfl,(gw2 [.bool false] (Ua tB))⟩)
       refine Goes.skip ?_;refine gh fol (kB n w (kT l c a.1 (l.length:Int) b (kAV (w64 (o+1)) []))) ?_;exact⟨M,(ofG 180 (kB n w (kT l c a.1 (l.length:Int) b (kAV (w64 (o+1)) []))),kU),Nat.lt_succ_self _,(Sub.refl _),_,rfl,g40⟩
      refine Goes.exit ?_;obtain rfl:=si g40;exact Or.inl (⟨rfl,rfl,(Uc [] [] rfl rfl (.keep (.same nI) (.keep (.same (qg encI _)) (.keep (.same (qg qG _)) (.keep (.same (qg encI _)) (.keep (.same (qg encI _)) (.keep (.same nI) (.keep (.same nI) .nil))))))) .nil)⟩)
    rintro x s' (⟨rfl,rfl,hsub⟩|⟨rfl,q58,rfl,hret⟩)
    ·try dsimp only at g16
     refine Goes.sub hsub ?_;refine sq ?_;refine sq ?_;obtain⟨b55,e,g16⟩:=bnd g16;refine Goes.cut (s':=(ofG 180 (kB n w (kAN l ((9,vl encI a.1)::(kA9 (l.length:Int) b [(155,.bool b55)])))),[])) ?_ ?_
     ·rcases wyD e with⟨F,e⟩|⟨F,e⟩
      ·rcases wyD e with⟨a7,e⟩|⟨a7,e⟩
       ·obtain⟨r52,a8,e⟩:=bnd e;obtain⟨r53,a9,e⟩:=bnd e;obtain⟨r54,b0,e⟩:=bnd e;obtain rfl:=si e;exact tr fol [3,8,11,14,15] (kB n w (kAN l ((9,vl encI a.1)::(kA9 (l.length:Int) b [(155,.bool (!r54))])))) (ac (gw F) (ac (gw a7) (ac (cv (qgo N n c a8)) (ac (cv (qgo N n a.1 a9)) (ac (cv (qbA N r52 r53 b0)) az)))))
       obtain rfl:=si e;exact tr fol [3,8] (kB n w (kAN l ((9,vl encI a.1)::(kA9 (l.length:Int) b [(155,.bool false)])))) (ac (gw F) (ac (gw a7) az))
      obtain rfl:=si e;exact tr fol [3] (kB n w (kAN l ((9,vl encI a.1)::(kA9 (l.length:Int) b [(155,.bool false)])))) (ac (gw F) az)
     refine ihB g16 (fun c57 g16=>?_) (fun c57 g16=>?_)
     ·refine sh fol kAu ?_;refine Goes.ret ?_;obtain rfl:=si g16;exact Or.inr (⟨rfl,_,rfl,(gw2 [.bool false] (Ua tB))⟩)
     refine Goes.skip ?_;refine gh fol (kB n w (kAN l ((7,vl encI a.1)::(kA9 (l.length:Int) b [])))) ?_;refine gh fol (kB n w (kAN l ((7,vl encI a.1)::(kA9 (l.length:Int) (w64 (b+1)) [])))) ?_;exact⟨M,(ofG 180 (kB n w (kAN l ((7,vl encI a.1)::(kA9 (l.length:Int) (w64 (b+1)) [])))),[]),Nat.lt_succ_self _,(Sub.refl _),_,_,rfl,g16⟩
    try dsimp only at g16
    obtain rfl:=si g16;exact Or.inr (⟨rfl,_,rfl,hret⟩)
   refine Goes.exit ?_;obtain rfl:=si g16;exact Or.inl (⟨rfl,_,rfl,(Sub.keep [0,1,2,7] rfl rfl)⟩)
 rintro x s' (⟨rfl,r,rfl,hsub⟩|⟨rfl,q66,rfl,hret⟩)
 ·try dsimp only at h
  refine Goes.sub hsub ?_;obtain⟨G,b1,h⟩:=bnd h;refine sq (gr fol [3] (kB n w (kAN l [(7,vl encI r),(19,vl encI G.1),(20,.i G.2)])) (ac (cv (qdt N n w l b1)) az) ?_);refine sq ?_;obtain⟨b64,f,h⟩:=bnd h;refine Goes.cut (s':=(ofG 180 [(6,.bool b64)],[])) ?_ ?_
  ·rcases wyD f with⟨H,f⟩|⟨H,f⟩
   ·obtain⟨r61,C,f⟩:=bnd f;rcases wyB f with⟨b2,f⟩|⟨b2,f⟩
    ·obtain⟨r63,b3,f⟩:=bnd f;obtain rfl:=si f;exact tr fol [2,5,7,12] [(6,.bool (decide (r63=0)))] (ac (gw H) (ac (cv (qaJ N G.1 r C)) (ac (gw b2) (ac (cv (qgg N n w r l b3)) az))))
    obtain rfl:=si f;exact tr fol [2,5,7] kAu (ac (gw H) (ac (cv (qaJ N G.1 r C)) (ac (gw b2) az)))
   obtain rfl:=si f;exact tr fol [2] kAu (ac (gw H) az)
  refine Goes.ret ?_;obtain rfl:=si h;exact(gw2 [.bool b64] (Ua tB))
 try dsimp only at h
 obtain rfl:=si h;exact hret
end Go.Av
