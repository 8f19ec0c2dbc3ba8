/-
  Walks of functions: what each computes, as a plain function.
-/
import Derived.Test.YtbiegoecmfgjlaaGreatDoorQGenSyA
import Derived.Test.YtbiegoecmfgjlaaGreatDoorAvAwkS2
set_option maxRecDepth 100000
set_option linter.all false
noncomputable section
namespace Go.Av
section
open Go.Proofs Go.RowKit
def qcn (N:Nat) (a:Str):Option Int:=
 (strings_CutPrefix a [45]).bind λr=>
 (strings_Cut r.1 [47]).bind λb=>
 ((vF b.1).bind λt=>
 if t=true then
 if(!r.2)=true then
 some true
 else
 some (!(b.1==[48]))
 else
 some false:Option Bool).bind λs=>
 ((if b.2.2=true then
 (if s=true then
 (vF b.2.1).bind λg=>
 if g=true then
 if(!(b.2.1==[48]))=true then
 some (!(b.2.1==[49]))
 else
 some false
 else
 some false
 else
 some false:Option Bool).bind λh=>
 some h
 else
 some s:Option Bool)).bind λu=>
 ((qC (!u) 1).bind λc=>
 if(b.1.length:Int)>600 then
 (qC true 4).bind λd=>
 (zf N ([c,d]:List Int)).bind λi=>
 some (c,d,i)
 else
 (qC (decide ((b.2.1.length:Int)>600)) 4).bind λe=>
 (zf N ([c,e]:List Int)).bind λj=>
 some (c,e,j):Option (Int×Int×Int)).bind λ(v,w,f)=>
 if(!decide (f=0))=true then
 some f
 else
 (if b.2.2=true then
 (qcq N b.1).bind λk=>
 (qcq N b.2.1).bind λl=>
 (qea N k l).bind λm=>
 (qdc 1).bind λn=>
 (qcS N m n).bind λo=>
 some (!decide (o=0))
 else
 some false:Option Bool).bind λp=>
 (qC p 1).bind λq=>
 some q
def qia (N:Nat) (a:Str) {res:Int}(h:qcn N a=some res):qc ZT (.fn 68) [.str a] [] (.i res) []:=by
 unfold qcn at h;obtain⟨L,F,c,G,b6,e,h⟩:=bn3 h;refine fW Tryz.func68 rfl<|sh fol (kAm a)<|sq<|gr fol [1] ((3,.str L.1)::(kBO L.2)) (qd (cv (qfW a [45] F)))<|sq<|gr fol [1] ((4,.bool L.2)::(kAP c.1 c.2.1 c.2.2 [])) (qd (cv (qfB L.1 [47] G)))<|sq<|aQ (s':=(ofG 76 (kAP c.1 c.2.1 c.2.2 (kBN b6)),[])) ?_ ?_
 ·obtain⟨r3,k,e⟩:=bnd e;rcases wyB e with⟨M,e⟩|⟨M,e⟩
  ·rcases wyB e with⟨O,e⟩|⟨O,e⟩
   ·cases e
    exact tr fol [1,2,5] (kAP c.1 c.2.1 c.2.2 [(8,.bool true)]) (qA (cv (jX c.1 k)) (gw M) (gw O))
   cases e
   exact tr fol [1,2,5] (kAP c.1 c.2.1 c.2.2 (kBN (!(c.1==[48])))) (qA (cv (jX c.1 k)) (gw M) (gw O))
  cases e
  exact tr fol [1,2] (kAP c.1 c.2.1 c.2.2 kBV) (qj (cv (jX c.1 k)) (gw M))
 obtain⟨r9,g9,h⟩:=bnd h;refine sq<|sh fol (kAP c.1 c.2.1 c.2.2 [(8,.bool b6),(32,.bool c.2.2)])<|gI (λx s'=>(x= .normal/\∃H,H=r9/\Sub s' (ofG 76 (kAP c.1 c.2.1 c.2.2 (kBN H)),[]))) ?_ ?_
 ·refine ihB g9 (λP g9=>?_) (λP g9=>?_)
  ·obtain⟨Q,b,g9⟩:=bnd g9;refine aQ (s':=(ofG 76 (kAP c.1 c.2.1 c.2.2 (kBN Q)),[])) ?_ ?_
   ·rcases wyB b with⟨l,b⟩|⟨l,b⟩
    ·obtain⟨r12,g,b⟩:=bnd b;rcases wyB b with⟨n,b⟩|⟨n,b⟩
     ·rcases wyB b with⟨p,b⟩|⟨p,b⟩
      ·cases b
       exact tr fol [1,3,5,9] (kAP c.1 c.2.1 c.2.2 (kBN (!(c.2.1==[49])))) (zO (gw l) (cv (jX c.2.1 g)) (gw n) (gw p))
      cases b
      exact tr fol [1,3,5,9] (kAP c.1 c.2.1 c.2.2 kBV) (zO (gw l) (cv (jX c.2.1 g)) (gw n) (gw p))
     cases b
     exact tr fol [1,3,5] (kAP c.1 c.2.1 c.2.2 kBV) (qA (gw l) (cv (jX c.2.1 g)) (gw n))
    cases b
    exact tr fol [1] (kAP c.1 c.2.1 c.2.2 kBV) (qd (gw l))
   cases g9
   exact⟨rfl,_,rfl,(bm _)⟩
  cases g9
  exact ag<|⟨rfl,_,rfl,sK [5,6,7,8]⟩
 rintro x s' ⟨rfl,H,rfl,hsub⟩;refine aq hsub<|sq<|sq ?_;obtain⟨⟨I,J,o⟩,d,h⟩:=bnd h;refine aQ (s':=(ofG 76 (kAP c.1 c.2.1 c.2.2 [(9,.i o)]),(kBR I J))) ?_ ?_
 ·obtain⟨j,m,d⟩:=bnd d;rcases wyD d with⟨q,d⟩|⟨q,d⟩
  ·obtain⟨r,s,U,t,d⟩:=bn2 d;simp only[ZI,ZP]at d;obtain⟨rfl,rfl,rfl⟩:=d;exact fe fol [2,6,11,13] (kAP c.1 c.2.1 c.2.2 [(9,.i U)]) (kBR j r) (zO (cv (jg (!H) 1 m)) (gw q) (cv (jg true 4 s)) (hx (kBR j r) (wcs [.slice 0 0 2 2 1] [0] (bi (dX rfl rfl (Uf (bn tI (bn tI cF)))) bB) (qaK N ([j,r]:List Int) t))))
  obtain⟨u,v,V,w,d⟩:=bn2 d;simp only[ZI,ZP]at d;obtain⟨rfl,rfl,rfl⟩:=d;exact fe fol [2,6,11,13] (kAP c.1 c.2.1 c.2.2 [(9,.i V)]) (kBR j u) (zO (cv (jg (!H) 1 m)) (gw q) (cv (jg (decide ((zl c.2.1)>600)) 4 v)) (hx (kBR j u) (wcs [.slice 0 0 2 2 1] [0] (bi (dX rfl rfl (Uf (bn tI (bn tI cF)))) bB) (qaK N ([j,u]:List Int) w))))
 refine sh fol (kAP c.1 c.2.1 c.2.2 [(9,.i o),(61,.bool (!decide (o=0)))])<|ihB h (λX h=>?_) (λX h=>?_)
 ·obtain rfl:=si h;exact sh fol (kBM o)<|ah<|gw1
 obtain⟨K,f,h⟩:=bnd h;refine ag<|sq<|aQ (s':=(ofG 76 (kBJ K),(kBR I J))) ?_ ?_
 ·rcases wyB f with⟨y,f⟩|⟨y,f⟩
  ·obtain⟨Y,z,Z,A,a0,B,a1,C,a2,D,rfl⟩:=bs5 f;exact tr fol [1,3,5,6,7,8] (kBJ (!decide (a2=0))) (qdO (gw y) (cv (qcU N c.1 z)) (cv (qcU N c.2.1 A)) (cv (qjM N Y Z B)) (cv (qcM 1 C)) (cv (qjJ N a0 a1 D)))
  cases f
  exact tr fol [1] [(10,.bool false)] (qd (gw y))
 obtain⟨a3,E,rfl⟩:=bs1 h;exact sq<|gr fol [1] (kBM a3) (qd (cv (jg K 1 E)))<|ah<|gw1
def zG (N:Nat) (l:List Str):Nat->Int->Option (Unit⊕Int)
 |0,_=>none
 |K+1,a=>
  if a<(l.length:Int)then
  (idx l a).bind λc=>
  (qcn N c).bind λb=>
  if(!decide (b=0))=true then
  some (.inr b)
  else
  zG N l K (w64 (a+1))
  else
  some (.inl ())
def zL (N:Nat) (l:List Str):Option Int:=
 (zG N l N 0).bind (λ
 |(.inl ())=>
 some 0
 |(.inr a)=>
 some a)
def qbU (N:Nat) (l:List Str) {res:Int}(h:zL N l=some res):qc ZT (.fn 52) [vl encS l] [] (.i res) []:=by
 unfold zL at h;obtain⟨e,g2,h⟩:=bnd h;refine fW Tryz.func52 rfl<|sh fol (kAU l [])<|sq<|sh fol (kB7 l (kBi (zl l)))<|aj<|gI (λx s'=>(x= .exit 0/\(.inl ())=e/\Sub s' (ofG 18 [],[]))\/(x= .ret/\∃f,(.inr f)=e/\qQ ZT [.tmp 2] (.i f) .ret s')) ?_ ?_
 ·refine Ua (λM s=>∃(a:Int),s=(ofG 18 (kB7 l (kAB (zl l) a)),[])/\zG N l M a=some e) ?_ (m:=N) ⟨_,rfl,g2⟩;rintro M s ⟨a,rfl,g2⟩
  cases M with
  |zero=>cases g2
  |succ M=>
   rw[zG]at g2;refine sh fol (kB7 l (kB2 (zl l) a (kBm (decide (a<(zl l))))))<|sq<|ihD g2 (λj g2=>?_) (λj g2=>?_)
   ·obtain⟨g,b,d,c,g2⟩:=bn2 g2;refine ag<|sq<|aj<|sq<|gr fol [0,1] ((4,.str g)::(kB7 l (kAB (zl l) a))) (qj (iv qa6 encS b) (lv 0 qc8 encS b rfl))<|sq<|gr fol [1] ((5,.i d)::(kB7 l (kAB (zl l) a))) (qd (cv (qia N g c)))<|sh fol ((5,.i d)::(kB7 l (kB2 (zl l) a (kBW (!decide (d=0))))))<|ihB g2 (λk g2=>?_) (λk g2=>?_)
    ·cases g2
     exact sh fol (kBM d)<|ah<|Or.inr (⟨rfl,_,rfl,gw1⟩)
    exact ag<|gh fol (kB7 l (kAB (zl l) (w64 (a+1))))<|qY ⟨_,rfl,g2⟩
   cases g2
   exact aA<|Or.inl (⟨rfl,rfl,sK []⟩)
 rintro x s' (⟨rfl,rfl,hsub⟩|⟨rfl,n,rfl,hret⟩)
 ·cases h
  exact aq hsub<|sh fol kBs<|ah<|gw1
 cases h
 exact hret
def zy (N:Nat) (m:List (List Str)):Nat->Int->Option (Unit⊕Int)
 |0,_=>none
 |K+1,c=>
  if c<(m.length:Int)then
  (idx m c).bind λa=>
  (idx m 0).bind λd=>
  (qC (!decide ((a.length:Int)=(d.length:Int))) 2).bind λe=>
  (zL N a).bind λf=>
  (zf N ([e,f]:List Int)).bind λb=>
  if(!decide (b=0))=true then
  some (.inr b)
  else
  zy N m K (w64 (c+1))
  else
  some (.inl ())
def qD (N:Nat) (m:List (List Str)) (b:List Str):Option Int:=
 if(m.length:Int)=0 then
 some 12
 else
 (if(m.length:Int)>24 then
 some true
 else
 (idx m 0).bind λf=>
 some (decide ((f.length:Int)>24)):Option Bool).bind λg=>
 if g=true then
 some 5
 else
 (zy N m N 0).bind (λ
 |(.inl ())=>
 (qC (!decide ((b.length:Int)=(m.length:Int))) 2).bind λa=>
 (zL N b).bind λc=>
 (zf N ([a,c]:List Int)).bind λd=>
 some d
 |(.inr e)=>
 some e)
def xV (N:Nat) (m:List (List Str)) (b:List Str) {res:Int}(h:qD N m b=some res):qc ZT (.fn 41) [vl eSS m,vl encS b] [] (.i res) []:=by
 unfold qD at h;refine fW Tryz.func41 rfl<|sh fol ((0,vl eSS m)::(kW b []))<|sq<|sh fol ((0,vl eSS m)::(kW b (kBJ (decide ((zl m)=0)))))<|ihD h (λE h=>?_) (λE h=>?_)
 ·cases h
  exact sh fol [(4,.i 12)]<|ah<|gw1
 obtain⟨F,a,h⟩:=bnd h;refine ag<|sq<|sq<|aQ (s':=(ofG 53 ((0,vl eSS m)::(kW b (kBy F))),[])) ?_ ?_
 ·rcases wyD a with⟨w,a⟩|⟨w,a⟩
  ·cases a
   exact tr fol [3] ((0,vl eSS m)::(kW b [(20,.bool true)])) (qd (gw w))
  obtain⟨G,g,rfl⟩:=bs1 a;exact tr fol [3,5,6] ((0,vl eSS m)::(kW b (kBy (decide ((zl G)>24))))) (qA (gw w) (iv yf eSS g) (lv 0 xW eSS g rfl))
 refine ihB h (λH h=>?_) (λH h=>?_)
 ·cases h
  exact sh fol [(4,.i 5)]<|ah<|gw1
 obtain⟨y,g8,h⟩:=bnd h;refine ag<|sq<|sh fol ((0,vl eSS m)::(kW b [(21,vl eSS m),(22,.i (zl m)),(23,.i 0)]))<|aj<|gI (λx s'=>(x= .exit 0/\(.inl ())=y/\Sub s' (ofG 53 ((0,vl eSS m)::(kW b [])),[]))\/(x= .ret/\∃D,(.inr D)=y/\qQ ZT [.tmp 4] (.i D) .ret s')) ?_ ?_
 ·refine Ua (λM s=>∃(e:Int),s=(ofG 53 ((0,vl eSS m)::(kW b [(21,vl eSS m),(22,.i (zl m)),(23,.i e)])),[])/\zy N m M e=some y) ?_ (m:=N) ⟨_,rfl,g8⟩;rintro M s ⟨e,rfl,g8⟩
  cases M with
  |zero=>cases g8
  |succ M=>
   rw[zy]at g8;refine sh fol ((0,vl eSS m)::(kW b [(21,vl eSS m),(22,.i (zl m)),(23,.i e),(24,.bool (decide (e<(zl m))))]))<|sq<|ihD g8 (λz g8=>?_) (λz g8=>?_)
   ·obtain⟨j,c,A,d,k,l,n,o,f,p,g8⟩:=bn5 g8;refine ag<|sq<|aj<|sq<|gr fol [0,1] ((0,vl eSS m)::(kW b (kB7 j [(21,vl eSS m),(22,.i (zl m)),(23,.i e)]))) (qj (iv yf eSS c) (lv 0 xW eSS c rfl))<|sq<|gq fol [3,4,7,9,11] ((0,vl eSS m)::(kW b [(7,.i f),(21,vl eSS m),(22,.i (zl m)),(23,.i e)])) (kBR k n) (qbE (iv yf eSS d) (lv 0 xW eSS d rfl) (cv (jg (!decide ((zl j)=(zl A))) 2 l)) (cv (qbU N j o)) (hx (kBR k n) (wcs [.slice 0 0 2 2 1] [0] (bi (dX rfl rfl (Uf (bn tI (bn tI cF)))) bB) (qaK N ([k,n]:List Int) p))))<|sh fol ((0,vl eSS m)::(kW b [(7,.i f),(21,vl eSS m),(22,.i (zl m)),(23,.i e),(40,.bool (!decide (f=0)))]))<|ihB g8 (λB g8=>?_) (λB g8=>?_)
    ·cases g8
     exact sh fol (kBe f)<|ah<|Or.inr (⟨rfl,_,rfl,gw1⟩)
    exact ag<|gh fol ((0,vl eSS m)::(kW b [(21,vl eSS m),(22,.i (zl m)),(23,.i (w64 (e+1)))]))<|⟨M,(ofG 53 ((0,vl eSS m)::(kW b [(21,vl eSS m),(22,.i (zl m)),(23,.i (w64 (e+1)))])),[]),aY _,(sN [] [] kz .nil),_,rfl,g8⟩
   cases g8
   exact aA<|Or.inl (⟨rfl,rfl,sK [0,1]⟩)
 rintro x s' (⟨rfl,rfl,hsub⟩|⟨rfl,I,rfl,hret⟩)
 ·obtain⟨q,r,t,u,C,v,rfl⟩:=bs3 h;exact aq hsub<|sq<|gq fol [5,7,9] (kBe C) (kBR q t) (qA (cv (jg (!decide ((zl b)=(zl m))) 2 r)) (cv (qbU N b u)) (hx (kBR q t) (wcs [.slice 0 0 2 2 1] [0] (bi (dX rfl rfl (Uf (bn tI (bn tI cF)))) bB) (qaK N ([q,t]:List Int) v))))<|ah<|gw1
 cases h
 exact hret
def qcN (n:qh):Option qb:=
 (qdc 1).bind λa=>
 some (⟨n,a⟩:qb)
def qe1 (n:qh) {res:qb}(h:qcN n=some res):qc ZT (.fn 69) [.agg (nz1 n)] [] (.agg (nq1 res)) []:=by
 unfold qcN at h;obtain⟨a,b,rfl⟩:=bs1 h;exact fW Tryz.func69 rfl<|sg fol (kAo kA6) (.cells (nz1 n)::(kM []))<|sq<|gq fol [1,3] kA6 [.cells (nz1 n),.cells (ni2 n.s n.w a.s a.w)] (qj (cv (qcM 1 b)) (hs (.run [1] (qaq ZT 83 (.ptr 1 0) (.agg (ni2 n.s n.w a.s a.w))) (.cells (nz1 n)::(kM [])) .undef [.cells (nz1 n),.cells (ni2 n.s n.w a.s a.w)] true) (qkE (n:=4) (by kernel_rfl) rfl rfl rfl rfl (cac rfl (cac nvc (cac rfl (cac nvc can)))) rfl)))<|ah<|gw1
def qcm (N:Nat) (a:Str):Option qb:=
 (strings_Cut a [47]).bind λb=>
 if(!b.2.2)=true then
 (qcq N b.1).bind λc=>
 (qcN c).bind λd=>
 some d
 else
 (qcq N b.1).bind λe=>
 (qcq N b.2.1).bind λf=>
 some (⟨e,f⟩:qb)
def qcY (N:Nat) (a:Str) {res:qb}(h:qcm N a=some res):qc ZT (.fn 43) [.str a] [] (.agg (nq1 res)) []:=by
 unfold qcm at h;obtain⟨b,e,h⟩:=bnd h;refine fW Tryz.func43 rfl<|sg fol ((0,.str a)::(kAs [])) (kM [])<|sq<|gr fol [1] (kAs ((3,.str b.1)::(4,.str b.2.1)::(kBo b.2.2))) (qd (cv (qfB a [47] e)))<|sq<|sh fol (kAs ((3,.str b.1)::(4,.str b.2.1)::(kBI (!b.2.2))))<|ihB h (λl h=>?_) (λl h=>?_)
 ·obtain⟨m,f,k,g,rfl⟩:=bs2 h;exact sq<|gq fol [1,2,3] (kAs []) [.cells (nq1 k)] (qA (cv (qcU N b.1 f)) (cv (qe1 m g)) (wsq 83 0 k rfl rfl))<|ah<|gw1
 obtain⟨c,i,d,j,rfl⟩:=bs2 h;exact ag<|sq<|gq fol [1,3,5] (kAs []) [.cells (ni2 c.s c.w d.s d.w)] (qA (cv (qcU N b.1 i)) (cv (qcU N b.2.1 j)) (hs (.run [0] (qaq ZT 83 (.ptr 0 0) (.agg (ni2 c.s c.w d.s d.w))) (kM []) .undef [.cells (ni2 c.s c.w d.s d.w)] true) (qkE (n:=4) (by kernel_rfl) rfl rfl rfl rfl (cac rfl (cac nvc (cac rfl (cac nvc can)))) rfl)))<|ah<|gw1
def jM (a:qb):Option Int:=
 (zg a.Num).bind λb=>
 some b
def yP (a:qb) {res:Int}(h:jM a=some res):qc ZT (.fn 45) [.agg (nq1 a)] [] (.i res) []:=by
 unfold jM at h;obtain⟨c,b,rfl⟩:=bs1 h;exact fW Tryz.func45 rfl<|sg fol (kAo []) [.cells (nq1 a)]<|sq<|gr fol [2] (kBM c) (qd (cv (xE a.Num b)))<|ah<|gw1
def yL (N:Nat) (a b:qh):Option qh:=
 (zg b).bind λf=>
 ((if f<0 then
 (zH a).bind λd=>
 (zH b).bind λe=>
 some (d.s,d.w,e.s,e.w)
 else
 some (a.s,a.w,b.s,b.w):Option (Int×(List Int)×Int×(List Int)))).bind λ(g,h,i,j)=>
 (jS N (⟨g,h⟩:qh) (⟨i,j⟩:qh)).bind λc=>
 some c.1
def qf0 (N:Nat) (a b:qh) {res:qh}(h:yL N a b=some res):qc ZT (.fn 124) [.agg (nz1 a),.agg (nz1 b)] [] (.agg (nz1 res)) []:=by
 unfold yL at h;obtain⟨o,j,p,g6,h⟩:=bn2 h;refine fW Tryz.func124 rfl<|sg fol (kI []) [.cells (nz1 a),.cells (nz1 b),bZ]<|sq<|sq<|gr fol [1] (kI (kBm (decide (o<0)))) (qd (cv (xE b j)))<|gI (λx s'=>(x= .normal/\∃d e f g,(d,e,f,g)=p/\Sub s' (ofG 21 (kI []),[.cells (ni1 d e),.cells (ni1 f g),bZ]))) ?_ ?_
 ·refine ihD g6 (λq g6=>?_) (λq g6=>?_)
  ·obtain⟨m,k,n,l,rfl⟩:=bs2 g6;exact gq fol [1,3,4,5] (kI []) [.cells (nz1 m),.cells (nz1 n),bZ] (zO (cv (vR a k)) (cv (vR b l)) (wsz 81 0 m rfl rfl) (wsz 81 1 n rfl rfl))<|⟨rfl,_,_,_,_,rfl,(bm _)⟩
  cases g6
  exact ag<|⟨rfl,_,_,_,_,rfl,sK [2,3,4]⟩
 rintro x s' ⟨rfl,d,e,f,g,rfl,hsub⟩;obtain⟨c,i,rfl⟩:=bs1 h;exact aq hsub<|sq<|gq fol [2,8,9] [(4,.ptr 2 0),(5,.ptr 3 0)] [.cells (ni1 d e),.cells (ni1 f g),bZ,.cells (nz1 c.1),.cells (nz1 c.2)] (qA (cv (qd4 N (⟨d,e⟩:qh) (⟨f,g⟩:qh) i)) (hx [.cells (ni1 d e),.cells (ni1 f g),bZ,bZ,bZ] (wsz 81 3 c.1 rfl rfl)) (hx [.cells (ni1 d e),.cells (ni1 f g),bZ,.cells (nz1 c.1),bZ] (wsz 81 4 c.2 rfl rfl)))<|sq<|gq fol [1] kAr [.cells (ni1 d e),.cells (ni1 f g),.cells (nz1 c.1),.cells (nz1 c.1),.cells (nz1 c.2)] (qd (hx [.cells (ni1 d e),.cells (ni1 f g),bZ,.cells (nz1 c.1),.cells (nz1 c.2)] (wsz 81 2 c.1 rfl rfl)))<|ah<|gw1
def qc7 (N:Nat) (num den:qh):Option qb:=
 (zg den).bind λk=>
 ((if k<0 then
 (zH num).bind λi=>
 (zH den).bind λj=>
 some (i.s,i.w,j.s,j.w)
 else
 some (num.s,num.w,den.s,den.w):Option (Int×(List Int)×Int×(List Int)))).bind λ(d,e,b,c)=>
 (if c.isEmpty=true then
 some (decide (b=1))
 else
 some false:Option Bool).bind λf=>
 if f=true then
 some (⟨(⟨d,e⟩:qh),(⟨b,c⟩:qh)⟩:qb)
 else
 (qea N (⟨d,e⟩:qh) (⟨b,c⟩:qh)).bind λa=>
 (yL N (⟨d,e⟩:qh) a).bind λg=>
 (yL N (⟨b,c⟩:qh) a).bind λh=>
 some (⟨g,h⟩:qb)
def qfE (N:Nat) (num den:qh) {res:qb}(h:qc7 N num den=some res):qc ZT (.fn 66) [.agg (nz1 num),.agg (nz1 den)] [] (.agg (nq1 res)) []:=by
 unfold qc7 at h;obtain⟨y,o,z,g6,h⟩:=bn2 h;refine fW Tryz.func66 rfl<|sg fol (kI []) (.cells (nz1 num):: .cells (nz1 den)::(kM []))<|sq<|sq<|gr fol [1] (kI (kBN (decide (y<0)))) (qd (cv (xE den o)))<|gI (λx s'=>(x= .normal/\∃d e c b,(d,e,c,b)=z/\Sub s' (ofG 34 (kI []),(.cells (ni1 d e):: .cells (ni1 c b)::(kM []))))) ?_ ?_
 ·refine ihD g6 (λA g6=>?_) (λA g6=>?_)
  ·obtain⟨u,p,v,q,rfl⟩:=bs2 g6;exact gq fol [1,3,4,5] (kI []) (.cells (nz1 u):: .cells (nz1 v)::(kM [])) (zO (cv (vR num p)) (cv (vR den q)) (wsz 81 0 u rfl rfl) (wsz 81 1 v rfl rfl))<|⟨rfl,_,_,_,_,rfl,(bm _)⟩
  cases g6
  exact ag<|⟨rfl,_,_,_,_,rfl,sK [2,3,4]⟩
 rintro x s' ⟨rfl,d,e,c,b,rfl,hsub⟩;obtain⟨r,a,h⟩:=bnd h;refine aq hsub<|sq<|sq<|aQ (s':=(ofG 34 (kI (kBy r)),(.cells (ni1 d e):: .cells (ni1 c b)::(kM [])))) ?_ ?_
 ·rcases wyB a with⟨j,a⟩|⟨j,a⟩
  ·cases a
   exact tr fol [2,3] (kI (kBy (decide (c=1)))) (qj (wen qbD 14 eU b) (gw j))
  cases a
  exact tr fol [2,3] (kI [(20,.bool false)]) (qj (wen qbD 14 eU b) (gw j))
 refine ihB h (λt h=>?_) (λt h=>?_)
 ·cases h
  exact sq<|gq fol [3] kAr [.cells (ni1 d e),.cells (ni1 c b),.cells (ni2 d e c b)] (qd (hs (.run [2] (qaq ZT 83 (.ptr 2 0) (.agg (ni2 d e c b))) (.cells (ni1 d e):: .cells (ni1 c b)::(kM [])) .undef [.cells (ni1 d e),.cells (ni1 c b),.cells (ni2 d e c b)] true) (qkE (n:=4) (by kernel_rfl) rfl rfl rfl rfl (cac rfl (cac nvc (cac rfl (cac nvc can)))) rfl)))<|ah<|gw1
 obtain⟨f,k,g,l,i,m,rfl⟩:=bs3 h;exact ag<|sq<|gq fol [2,4] (kI [(5,.ptr 3 0)]) (.cells (ni1 d e):: .cells (ni1 c b)::(kM [.cells (nz1 f)])) (qj (cv (qjM N (⟨d,e⟩:qh) (⟨c,b⟩:qh) k)) (hx (.cells (ni1 d e):: .cells (ni1 c b)::(kM [bZ])) (wsz 81 3 f rfl rfl)))<|sq<|gq fol [2,5,7] kAr [.cells (ni1 d e),.cells (ni1 c b),.cells (ni2 g.s g.w i.s i.w),.cells (nz1 f)] (qA (cv (qf0 N (⟨d,e⟩:qh) f l)) (cv (qf0 N (⟨c,b⟩:qh) f m)) (hs (.run [2] (qaq ZT 83 (.ptr 2 0) (.agg (ni2 g.s g.w i.s i.w))) (.cells (ni1 d e):: .cells (ni1 c b)::(kM [.cells (nz1 f)])) .undef [.cells (ni1 d e),.cells (ni1 c b),.cells (ni2 g.s g.w i.s i.w),.cells (nz1 f)] true) (qkE (n:=4) (by kernel_rfl) rfl rfl rfl rfl (cac rfl (cac nvc (cac rfl (cac nvc can)))) rfl)))<|ah<|gw1
def qaz (N:Nat) (a b:qb):Option qb:=
 (qO N a.Num b.Num).bind λc=>
 (qO N a.Den b.Den).bind λd=>
 (qc7 N c d).bind λe=>
 some e
def qdb (N:Nat) (a b:qb) {res:qb}(h:qaz N a b=some res):qc ZT (.fn 54) [.agg (nq1 a),.agg (nq1 b)] [] (.agg (nq1 res)) []:=by
 unfold qaz at h;obtain⟨g,c,i,d,f,e,rfl⟩:=bs3 h;exact fW Tryz.func54 rfl<|sg fol (kI []) (.cells (nq1 a):: .cells (nq1 b)::(kM []))<|sq<|gq fol [4,9,10,11] kAr [.cells (nq1 a),.cells (nq1 b),.cells (nq1 f)] (zO (cv (vV N a.Num b.Num c)) (cv (vV N a.Den b.Den d)) (cv (qfE N g i e)) (wsq 83 2 f rfl rfl))<|ah<|gw1
def vE (a:qb):Option Bool:=
 (if a.Den.w.isEmpty=true then
 some (decide (a.Den.s=1))
 else
 some false:Option Bool).bind λb=>
 some b
def qac (a:qb) {res:Bool}(h:vE a=some res):qc ZT (.fn 104) [.agg (nq1 a)] [] (.bool res) []:=by
 unfold vE at h;obtain⟨d,b,h⟩:=bnd h;refine fW Tryz.func104 rfl<|sg fol (kAo []) [.cells (nq1 a)]<|sq<|aQ (s':=(ofG 13 (kCD d),[.cells (nq1 a)])) ?_ ?_
 ·rcases wyB b with⟨c,b⟩|⟨c,b⟩
  ·cases b
   exact tr fol [3,4] (kCD (decide (a.Den.s=1))) (qj (wen qbD 5 eU a.Den.w) (gw c))
  cases b
  exact tr fol [3,4] kBu (qj (wen qbD 5 eU a.Den.w) (gw c))
 obtain rfl:=si h;exact ah<|gw1
def qbu (N:Nat) (a b:qb):Option qb:=
 ((vE a).bind λg=>
 if g=true then
 (vE b).bind λh=>
 some h
 else
 some false:Option Bool).bind λi=>
 if i=true then
 (vS N a.Num b.Num).bind λj=>
 (qcN j).bind λk=>
 some k
 else
 (qO N a.Num b.Den).bind λl=>
 (qO N b.Num a.Den).bind λc=>
 (vS N l c).bind λd=>
 (qO N a.Den b.Den).bind λe=>
 (qc7 N d e).bind λf=>
 some f
def qfj (N:Nat) (a b:qb) {res:qb}(h:qbu N a b=some res):qc ZT (.fn 53) [.agg (nq1 a),.agg (nq1 b)] [] (.agg (nq1 res)) []:=by
 unfold qbu at h;obtain⟨t,c,h⟩:=bnd h;refine fW Tryz.func53 rfl<|sg fol (kI []) (.cells (nq1 a):: .cells (nq1 b)::(kM []))<|sq<|sq<|aQ (s':=(ofG 34 (kI (kBJ t)),(.cells (nq1 a):: .cells (nq1 b)::(kM [])))) ?_ ?_
 ·obtain⟨y,d,c⟩:=bnd c;rcases wyB c with⟨o,c⟩|⟨o,c⟩
  ·obtain⟨u,j,rfl⟩:=bs1 c;exact tr fol [1,2,4] (kI (kBJ u)) (qA (cv (qac a d)) (gw o) (cv (qac b j)))
  cases c
  exact tr fol [1,2] (kI [(10,.bool false)]) (qj (cv (qac a d)) (gw o))
 refine ihB h (λv h=>?_) (λv h=>?_)
 ·obtain⟨w,k,s,l,rfl⟩:=bs2 h;exact sq<|gq fol [4,5,6] kAr [.cells (nq1 a),.cells (nq1 b),.cells (nq1 s)] (qA (cv (qbe N a.Num b.Num k)) (cv (qe1 w l)) (wsq 83 2 s rfl rfl))<|ah<|gw1
 obtain⟨x,m,p,e,q,f,r,g,n,i,rfl⟩:=bs5 h;exact ag<|sq<|gq fol [4,9,10,15,16,17] kAr [.cells (nq1 a),.cells (nq1 b),.cells (nq1 n)] (qdO (cv (vV N a.Num b.Den m)) (cv (vV N b.Num a.Den e)) (cv (qbe N x p f)) (cv (vV N a.Den b.Den g)) (cv (qfE N q r i)) (wsq 83 2 n rfl rfl))<|ah<|gw1
def qct (a:qb):Option qb:=
 (zH a.Num).bind λb=>
 some (⟨b,a.Den⟩:qb)
def qid (a:qb) {res:qb}(h:qct a=some res):qc ZT (.fn 147) [.agg (nq1 a)] [] (.agg (nq1 res)) []:=by
 unfold qct at h;obtain⟨b,c,rfl⟩:=bs1 h;exact fW Tryz.func147 rfl<|sg fol (kAo kA6) (.cells (nq1 a)::(kM []))<|sq<|gq fol [2,6] kA6 [.cells (nq1 a),.cells (ni2 b.s b.w a.Den.s a.Den.w)] (qj (cv (vR a.Num c)) (hs (.run [1] (qaq ZT 83 (.ptr 1 0) (.agg (ni2 b.s b.w a.Den.s a.Den.w))) (.cells (nq1 a)::(kM [])) .undef [.cells (nq1 a),.cells (ni2 b.s b.w a.Den.s a.Den.w)] true) (qkE (n:=4) (by kernel_rfl) rfl rfl rfl rfl (cac rfl (cac nvc (cac rfl (cac nvc can)))) rfl)))<|ah<|gw1
def qco (N:Nat) (a b:qb):Option qb:=
 (qct b).bind λc=>
 (qbu N a c).bind λd=>
 some d
def qih (N:Nat) (a b:qb) {res:qb}(h:qco N a b=some res):qc ZT (.fn 87) [.agg (nq1 a),.agg (nq1 b)] [] (.agg (nq1 res)) []:=by
 unfold qco at h;obtain⟨f,c,e,d,rfl⟩:=bs2 h;exact fW Tryz.func87 rfl<|sg fol (kI []) (.cells (nq1 a):: .cells (nq1 b)::(kM []))<|sq<|gq fol [2,3,4] kAr [.cells (nq1 a),.cells (nq1 b),.cells (nq1 e)] (qA (cv (qid b c)) (cv (qfj N a f d)) (wsq 83 2 e rfl rfl))<|ah<|gw1
def qcr (N:Nat) (a:qb):Option qb:=
 (qc7 N a.Den a.Num).bind λb=>
 some b
def qii (N:Nat) (a:qb) {res:qb}(h:qcr N a=some res):qc ZT (.fn 88) [.agg (nq1 a)] [] (.agg (nq1 res)) []:=by
 unfold qcr at h;obtain⟨c,b,rfl⟩:=bs1 h;exact fW Tryz.func88 rfl<|sg fol (kAo kA6) (.cells (nq1 a)::(kM []))<|sq<|gq fol [4,5] kA6 [.cells (nq1 a),.cells (nq1 c)] (qj (cv (qfE N a.Den a.Num b)) (wsq 83 1 c rfl rfl))<|ah<|gw1
def qcc (a:qh):Option Int:=
 (qK a).bind λb=>
 if(b.2.length:Int)=0 then
 some 0
 else
 (idx b.2 (w64 ((b.2.length:Int)-1))).bind λc=>
 (bits_Len64 c).bind λd=>
 some (w64 ((w64 (64*(w64 ((b.2.length:Int)-1))))+d))
def qfe (a:qh) {res:Int}(h:qcc a=some res):qc ZT (.fn 133) [.agg (nz1 a)] [] (.i res) []:=by
 unfold qcc at h;obtain⟨e,c,h⟩:=bnd h;refine fW Tryz.func133 rfl<|sg fol (kAo []) [.cells (nz1 a)]<|sq<|gr fol [1] [(4,vl eU e.2)] (qd (cv (zQ a c)))<|sq<|sh fol ((4,vl eU e.2)::(kBX (decide ((zl e.2)=0))))<|ihD h (λf h=>?_) (λf h=>?_)
 ·cases h
  exact sh fol kBs<|ah<|gw1
 obtain⟨g,b,j,d,rfl⟩:=bs2 h;exact ag<|sq<|gr fol [8,9,10] (kBM (w64 ((w64 (64*(w64 ((zl e.2)-1))))+j))) (qA (iv ja eU b) (lv 0 jk eU b rfl) (cv (qgu g d)))<|ah<|gw1
def yg (N:Nat):Nat->(List Str)->(List Int)->Option (List Str)
 |0,_,_=>none
 |K+1,i,j=>
  if(j.length:Int)>0 then
  (qbT N j ([1000000000000000000]:List Int)).bind λb=>
  ((if(b.2.length:Int)>0 then
  (idx b.2 0).bind λc=>
  (qi5 c 10).bind λd=>
  some d
  else
  some [48]:Option Str)).bind λa=>
  ((if(b.1.length:Int)>0 then
  (qga [48] (w64 (18-(a.length:Int)))).bind λe=>
  (cat e a).bind λf=>
  some f
  else
  some a:Option Str)).bind λg=>
  (app 16 i [g]).bind λh=>
  yg N K h b.1
  else
  some i
def jc (e:List Str):Nat->Bool->(Option (List Int))->Int->Option (Bool×(Option (List Int)))
 |0,_,_,_=>none
 |K+1,ok27,b,a=>
  if a>=0 then
  (idx e a).bind λc=>
  (bWr ok27 b c).bind λd=>
  jc e K true (some d) (w64 (a-1))
  else
  some (ok27,b)
def vN (N:Nat) (a:qh):Option Str:=
 if a.w.isEmpty=true then
 (qoH a.s).bind λh=>
 some h
 else
 (qK a).bind λf=>
 (yg N N ([]:List Str) f.2).bind λg=>
 ((if f.1=true then
 (bWr false (none:Option (List Int)) [45]).bind λb=>
 some (true,(some b))
 else
 some (false,(none:Option (List Int))):Option (Bool×(Option (List Int))))).bind λ(ok21,c)=>
 (jc g N ok21 c (w64 ((g.length:Int)-1))).bind λ(ok30,d)=>
 (qpr ok30 d).bind λe=>
 some e
def qaY (N:Nat) (a:qh) {res:Str}(h:vN N a=some res):qc ZT (.fn 178) [.agg (nz1 a)] [] (.str res) []:=by
 unfold vN at h;refine fW Tryz.func178 rfl<|sg fol (kAo []) [.cells (nz1 a)]<|sq<|sq<|gr fol [2] (kAo [(14,.bool a.w.isEmpty)]) (qd (wen qbD 13 eU a.w))<|ihB h (λc1 h=>?_) (λc1 h=>?_)
 ·obtain⟨r2,F,rfl⟩:=bs1 h;exact sq<|gr fol [2] (kB5 r2) (qd (cv (qqI a.s F)))<|ah<|gw1
 obtain⟨d,G,r7,g7,h⟩:=bn2 h;refine ag<|sq<|gr fol [1] [(3,.bool d.1),(4,vl eU d.2)] (qd (cv (zQ a G)))<|sg fol [(3,.bool d.1),(4,vl eU d.2),(5,.slice 1 0 1 1 1)] [.cells (nz1 a),.cells [.int .u64 1000000000000000000]]<|sh fol [(3,.bool d.1),(4,vl eU d.2),(5,.slice 1 0 1 1 1),(6,.nilslice)]<|sq<|aj<|gI (λx s'=>(x= .exit 0/\∃b,b=r7/\Sub s' (ofG 69 ((3,.bool d.1)::(kAD b [])),(kF b [])))) ?_ ?_
 ·refine aq (s':=(ofG 69 [(3,.bool d.1),(4,vl eU d.2),(5,vl eU ([1000000000000000000]:List Int)),(6,.gslice 0 ([]:List Str).length 1)],[.cells (([]:List Str).flatMap encS.c)])) (sN [1] [none] (kk (kk (ke (.frz (dX rfl rfl (Uf (bn tI cF))) (kr eU _)) (ke .nil kz)))) (.fresh .nil))<|Ua (λM s=>∃(f:List Str) (E:List Int),s=(ofG 69 ((3,.bool d.1)::(4,vl eU E)::(5,vl eU ([1000000000000000000]:List Int))::(kAD f [])),(kF f []))/\yg N M f E=some r7) ?_ (m:=N) ⟨_,_,rfl,g7⟩;rintro M s ⟨f,E,rfl,g7⟩
  cases M with
  |zero=>cases g7
  |succ M=>
   rw[yg]at g7;refine sq<|sh fol ((3,.bool d.1)::(4,vl eU E)::(5,vl eU ([1000000000000000000]:List Int))::(kAD f [(26,.bool (decide ((zl E)>0)))]))<|ihD g7 (λc8 g7=>?_) (λc8 g7=>?_)
   ·obtain⟨g,H,L,g11,g7⟩:=bn2 g7;refine ag<|aj<|sq<|gr fol [2] ((3,.bool d.1)::(5,vl eU ([1000000000000000000]:List Int))::(kAD f [(7,vl eU g.1),(8,vl eU g.2)])) (qd (cv (qgr N E ([1000000000000000000]:List Int) H)))<|sh fol ((3,.bool d.1)::(5,vl eU ([1000000000000000000]:List Int))::(kAD f [(7,vl eU g.1),(8,vl eU g.2),(9,.str [48])]))<|sq<|sh fol ((3,.bool d.1)::(5,vl eU ([1000000000000000000]:List Int))::(kAD f [(7,vl eU g.1),(8,vl eU g.2),(9,.str [48]),(35,.bool (decide ((zl g.2)>0)))]))<|gI (λx s'=>(x= .normal/\∃l,l=L/\Sub s' (ofG 69 ((3,.bool d.1)::(5,vl eU ([1000000000000000000]:List Int))::(kAD f [(7,vl eU g.1),(9,.str l)])),(kF f [])))) ?_ ?_
    ·refine ihD g11 (λO g11=>?_) (λO g11=>?_)
     ·obtain⟨P,n,Q,v,rfl⟩:=bs2 g11;exact gr fol [1,2,3] ((3,.bool d.1)::(5,vl eU ([1000000000000000000]:List Int))::(kAD f [(7,vl eU g.1),(9,.str Q)])) (qA (iv ja eU n) (lv 0 jk eU n rfl) (cv (qrK P 10 v)))<|⟨rfl,_,rfl,(bm _)⟩
     cases g11
     exact ag<|⟨rfl,_,rfl,sK [3,5,6,7,9]⟩
    rintro x s' ⟨rfl,l,rfl,hsub⟩;obtain⟨U,g16,g7⟩:=bnd g7;refine aq hsub<|sq<|sh fol ((3,.bool d.1)::(5,vl eU ([1000000000000000000]:List Int))::(kAD f [(7,vl eU g.1),(9,.str l),(42,.bool (decide ((zl g.1)>0)))]))<|gI (λx s'=>(x= .normal/\∃j,j=U/\Sub s' (ofG 69 ((3,.bool d.1)::(5,vl eU ([1000000000000000000]:List Int))::(kAD f [(7,vl eU g.1),(9,.str j)])),(kF f [])))) ?_ ?_
    ·refine ihD g16 (λV g16=>?_) (λV g16=>?_)
     ·obtain⟨r18,y,X,z,rfl⟩:=bs2 g16;exact gr fol [3,5] ((3,.bool d.1)::(5,vl eU ([1000000000000000000]:List Int))::(kAD f [(7,vl eU g.1),(9,.str X)])) (qj (cv (qnc [48] (w64 (18-(zl l))) y)) (wxc 9 z))<|⟨rfl,_,rfl,(bm _)⟩
     cases g16
     exact ag<|⟨rfl,_,rfl,sK [3,5,6,7,9]⟩
    rintro x s' ⟨rfl,j,rfl,hsub⟩;obtain⟨o,A,g7⟩:=bnd g7;exact aq hsub<|sq<|gq fol [3] [(3,.bool d.1),(5,vl eU ([1000000000000000000]:List Int)),(6,.gslice 2 o.length 1),(7,vl eU g.1)] (.dead::(kB0 j (kF o []))) (qd (hx (kF f (kB0 j [])) (wap [0,1] qtw (wdg 0 rfl A) (wsc 1 [j] rfl))))<|gh fol [(3,.bool d.1),(4,vl eU g.1),(5,vl eU ([1000000000000000000]:List Int)),(6,.gslice 2 o.length 1)]<|⟨M,(ofG 69 ((3,.bool d.1)::(4,vl eU g.1)::(5,vl eU ([1000000000000000000]:List Int))::(kAD o [])),(kF o [])),aY _,(sN [] [some 2] kz (.ks .nil)),_,_,rfl,g7⟩
   cases g7
   exact aA<|⟨rfl,_,rfl,sK [3,6]⟩
 rintro x s' ⟨rfl,b,rfl,hsub⟩;obtain⟨Y,g23,h⟩:=bnd h;refine aq hsub<|sg fol ((3,.bool d.1)::(kAD b (kBj []))) (kF b [.bld 176 5 [.nilptr,.nilslice]])<|sq<|sh fol (kAD b (kBj [(54,.bool d.1)]))<|gI (λx s'=>(x= .normal/\∃ok21 t,(ok21,t)=Y/\Sub s' (ofG 69 (kAD b (kBj [])),(kF b [.bld 176 5 [pz ok21 1 0,hsl 2 1 t],.cells ((hof t).flatMap (qcv .u8).c)])))) ?_ ?_
 ·refine ihB g23 (λZ g23=>?_) (λZ g23=>?_)
  ·obtain⟨u,B,rfl⟩:=bs1 g23;exact aq (s':=(ofG 69 (kAD b (kBj [(54,.bool d.1)])),(kF b [.bld 176 5 [pz false 1 0,.nilslice]]))) (sN [] [some 0,some 1] kz (.ks (.kb rfl (.bld (rc (zS.pz0) (rc (.same (qN.nilslice)) rn))) .nil)))<|aq (s':=(ofG 69 (kAD b (kBj [(54,.bool d.1)])),(kF b [.bld 176 5 [pz false 1 0,hsl 2 1 (none:Option (List Int))],.cells ((hof (none:Option (List Int))).flatMap (qcv .u8).c)]))) (sN [] [some 0,some 1,none] kz (.ks (.kb rfl (.bld (rc (zS.pz0) (rc .hs0 rn))) (.fresh .nil))))<|gq fol [0] (kAD b (kBj [])) (kF b [.bld 176 5 [pz true 1 0,hsl 3 1 (some u)],.dead,.cells ((hof (some u)).flatMap (qcv .u8).c)]) (qd (wch [1,2] (.tuple [.i (([45].length:Nat):Int),.niliface]) (kF b [.bld 176 5 [pz true 1 0,hsl 3 1 (some u)],.dead,.cells ((hof (some u)).flatMap (qcv .u8).c)]) [some 1,some 2] [none,some 0,none,some 2] (qq0 false (none:Option (List Int)) [45] B) (.kb rfl (.bld (rc (zS.pz0) (rc .hs0 rn))) (.ks .nil)) (.old rfl rfl (.back rfl rfl (.bld (rc ((zS.pz rfl)) (rc (.hs rfl) rn))) rfl (.dead (.new rfl rfl (.same fa) rfl .nil)))) (rc (.ptr rfl) (rc (.same nS) rn)) (.same (qN.tuple sn))))<|⟨rfl,_,_,rfl,(sN [] [some 0,some 1,some 3] kz (.ks (.kb rfl (.bld (rc ((zS.pz rfl)) (rc (.hs rfl) rn))) (.ks .nil))))⟩
  cases g23
  exact ag<|⟨rfl,_,_,rfl,(sN [] [some 0,some 1,none] kz (.ks (.kb rfl (.bld (rc (zS.pz0) (rc .hs0 rn))) (.fresh .nil))))⟩
 rintro x s' ⟨rfl,ok21,t,rfl,hsub⟩;obtain⟨I,g32,h⟩:=bnd h;refine aq hsub<|sq<|sh fol (kAD b (kBj [(11,.i (w64 ((zl b)-1)))]))<|aj<|gI (λx s'=>(x= .exit 2/\∃ok30 p,(ok30,p)=I/\Sub s' (ofG 69 [(10,.ptr 0 0)],[.bld 176 5 [pz ok30 0 0,hsl 1 1 p],.cells ((hof p).flatMap (qcv .u8).c)]))) ?_ ?_
 ·refine Ua (λM s=>∃(ok27:Bool) (q:Option (List Int)) (e:Int),s=(ofG 69 (kAD b (kBj [(11,.i e)])),(kF b [.bld 176 5 [pz ok27 1 0,hsl 2 1 q],.cells ((hof q).flatMap (qcv .u8).c)]))/\jc b M ok27 q e=some I) ?_ (m:=N) ⟨_,_,_,rfl,g32⟩;rintro M s ⟨ok27,q,e,rfl,g32⟩
  cases M with
  |zero=>cases g32
  |succ M=>
   rw[jc]at g32;refine sq<|sh fol (kAD b (kBj [(11,.i e),(60,.bool (decide (e>=0)))]))<|ihD g32 (λa0 g32=>?_) (λa0 g32=>?_)
   ·obtain⟨J,r,k,C,g32⟩:=bn2 g32;exact ag<|sq<|aj<|gq fol [2,3,4] (kAD b (kBj [(11,.i e)])) (kF b [.bld 176 5 [pz true 1 0,hsl 3 1 (some k)],.dead,.cells ((hof (some k)).flatMap (qcv .u8).c)]) (qA (wig qtw 0 r) (wlp ce9 0 rfl r rfl) (wch [1,2] (.tuple [.i ((J.length:Nat):Int),.niliface]) (kF b [.bld 176 5 [pz true 1 0,hsl 3 1 (some k)],.dead,.cells ((hof (some k)).flatMap (qcv .u8).c)]) [some 1,some 2] [none,some 0,none,some 2] (qq0 ok27 q J C) (.kb rfl (.bld (rc ((zS.pz rfl)) (rc (.hs rfl) rn))) (.ks .nil)) (.old rfl rfl (.back rfl rfl (.bld (rc ((zS.pz rfl)) (rc (.hs rfl) rn))) rfl (.dead (.new rfl rfl (.same fa) rfl .nil)))) (rc (.ptr rfl) (rc (.same nS) rn)) (.same (qN.tuple sn))))<|gh fol (kAD b (kBj [(11,.i (w64 (e-1)))]))<|⟨M,(ofG 69 (kAD b (kBj [(11,.i (w64 (e-1)))])),(kF b [.bld 176 5 [pz true 1 0,hsl 2 1 (some k)],.cells ((hof (some k)).flatMap (qcv .u8).c)])),aY _,(sN [] [some 0,some 1,some 3] kz (.ks (.kb rfl (.bld (rc ((zS.pz rfl)) (rc (.hs rfl) rn))) (.ks .nil)))),_,_,_,rfl,g32⟩
   cases g32
   exact aA<|⟨rfl,_,_,rfl,(sN [] [some 1,some 2] (.drop (.kp .nil)) (.kb rfl (.bld (rc ((zS.pz rfl)) (rc (.hs rfl) rn))) (.ks .nil)))⟩
 rintro x s' ⟨rfl,ok30,p,rfl,hsub⟩;obtain⟨K,D,rfl⟩:=bs1 h;exact aq hsub<|sq<|gq fol [0] (kB5 K) (kBL []) (qd (wch [0,1] (.str K) (kBL []) [some 0,some 1] [none,none] (qsn ok30 p D) (.kb rfl (.bld (rc ((zS.pz rfl)) (rc (.hs rfl) rn))) (.ks .nil)) (.dead (.dead .nil)) (rc (.ptr rfl) rn) (.same nS)))<|ah<|gw1
def qeI (N:Nat) (n:qh):Option Bool:=
 ((qcc n).bind λa=>
 if a>1800 then
 (vN N n).bind λb=>
 (strings_TrimPrefix b [45]).bind λc=>
 some (decide ((c.length:Int)>600))
 else
 some false:Option Bool).bind λd=>
 some d
def qfY (N:Nat) (n:qh) {res:Bool}(h:qeI N n=some res):qc ZT (.fn 156) [.agg (nz1 n)] [] (.bool res) []:=by
 unfold qeI at h;obtain⟨f,a,h⟩:=bnd h;refine fW Tryz.func156 rfl<|sg fol (kAo []) [.cells (nz1 n)]<|sq<|aQ (s':=(ofG 13 (kCD f),[.cells (nz1 n)])) ?_ ?_
 ·obtain⟨j,b,a⟩:=bnd a;rcases wyD a with⟨e,a⟩|⟨e,a⟩
  ·obtain⟨g,c,i,d,rfl⟩:=bs2 a;exact tr fol [1,3,5,6] (kCD (decide ((zl i)>600))) (zO (cv (qfe n b)) (gw e) (cv (qaY N n c)) (cv (qcx g [45] d)))
  cases a
  exact tr fol [1,3] kBu (qj (cv (qfe n b)) (gw e))
 obtain rfl:=si h;exact ah<|gw1
def qa9 (N:Nat) (a:qb):Option Bool:=
 ((qeI N a.Num).bind λb=>
 if b=true then
 some true
 else
 (qeI N a.Den).bind λc=>
 some c:Option Bool).bind λd=>
 some d
def qhd (N:Nat) (a:qb) {res:Bool}(h:qa9 N a=some res):qc ZT (.fn 100) [.agg (nq1 a)] [] (.bool res) []:=by
 unfold qa9 at h;obtain⟨f,b,h⟩:=bnd h;refine fW Tryz.func100 rfl<|sg fol (kAo []) [.cells (nq1 a)]<|sq<|aQ (s':=(ofG 11 (kCD f),[.cells (nq1 a)])) ?_ ?_
 ·obtain⟨i,c,b⟩:=bnd b;rcases wyB b with⟨e,b⟩|⟨e,b⟩
  ·cases b
   exact tr fol [2,3] [(2,.bool true)] (qj (cv (qfY N a.Num c)) (gw e))
  obtain⟨g,d,rfl⟩:=bs1 b;exact tr fol [2,3,6] (kCD g) (qA (cv (qfY N a.Num c)) (gw e) (cv (qfY N a.Den d)))
 obtain rfl:=si h;exact ah<|gw1
def qbM (N:Nat) (a:qb):Option Str:=
 (vE a).bind λb=>
 if b=true then
 (vN N a.Num).bind λc=>
 some c
 else
 (vN N a.Num).bind λd=>
 (cat d [47]).bind λe=>
 (vN N a.Den).bind λf=>
 (cat e f).bind λg=>
 some g
def qhY (N:Nat) (a:qb) {res:Str}(h:qbM N a=some res):qc ZT (.fn 121) [.agg (nq1 a)] [] (.str res) []:=by
 unfold qbM at h;obtain⟨i,b,h⟩:=bnd h;refine fW Tryz.func121 rfl<|sg fol (kAo []) [.cells (nq1 a)]<|sq<|sq<|gr fol [1] (kAo (kBO i)) (qd (cv (qac a b)))<|ihB h (λj h=>?_) (λj h=>?_)
 ·obtain⟨k,c,rfl⟩:=bs1 h;exact sq<|gr fol [2] (kB5 k) (qd (cv (qaY N a.Num c)))<|ah<|gw1
 obtain⟨m,d,n,e,o,f,l,g,rfl⟩:=bs4 h;exact ag<|sq<|gr fol [2,3,6,7] (kB5 l) (zO (cv (qaY N a.Num d)) (wxc 9 e) (cv (qaY N a.Den f)) (wxc 9 g))<|ah<|gw1
def qbx (N:Nat) (l:List qb):Nat->(List Str)->Int->Option (List Str)
 |0,_,_=>none
 |K+1,b,a=>
  if a<(l.length:Int)then
  (idx l a).bind λd=>
  (qbM N d).bind λe=>
  (idx b a).bind λf=>
  (put b a e).bind λc=>
  qbx N l K c (w64 (a+1))
  else
  some b
def qgb (N:Nat) (l:List qb):Option (List Str):=
 (mk 16 (l.length:Int) []).bind λa=>
 (qbx N l N a 0).bind λb=>
 some b
def qk7 (N:Nat) (l:List qb) {res:List Str}(h:qgb N l=some res):qc ZT (.fn 101) [vl qa l] [] (vl encS res) []:=by
 unfold qgb at h;obtain⟨o,j,p,g5,h⟩:=bn2 h;refine fW Tryz.func101 rfl<|sh fol (kAe l [])<|sq<|gq fol [2] (kAe l [(3,.slice 0 0 o.length o.length 1)]) (kF o []) (qd (wmr qa6 encS [] j))<|sq<|sh fol (kAN o l (zl l) [(11,.i 0)])<|aj<|gI (λx s'=>(x= .exit 0/\∃d,d=p/\Sub s' (ofG 23 [(3,.slice 0 0 d.length d.length 1)],(kF d [])))) ?_ ?_
 ·refine Ua (λM s=>∃(a:List Str) (c:Int),s=(ofG 23 (kAN a l (zl l) [(11,.i c)]),(kF a []))/\qbx N l M a c=some p) ?_ (m:=N) ⟨_,_,rfl,g5⟩;rintro M s ⟨a,c,rfl,g5⟩
  cases M with
  |zero=>cases g5
  |succ M=>
   rw[qbx]at g5;refine sh fol (kAN a l (zl l) ((11,.i c)::(kBX (decide (c<(zl l))))))<|sq<|ihD g5 (λq g5=>?_) (λq g5=>?_)
   ·obtain⟨k,f,r,n,t,g,e,b,g5⟩:=bn4 g5;exact ag<|sq<|aj<|sq<|gq fol [1,2,5] [(3,.slice 0 0 a.length a.length 1),(4,.i c),(5,.ptr 1 0),(9,vl qa l),(10,.i (zl l)),(11,.i c)] (kF a [.cells (nq1 k)]) (qA (iv qa4 qa f) (la qgo qa f) (hx (kF a (kM [])) (wsq 83 1 k rfl rfl)))<|gq fol [3,4,5] (kAN a l (zl l) [(11,.i c)]) (kF e [.cells (nq1 k)]) (qA (cv (qhY N k n)) (wis qa6 0 g) (hx (kF a [.cells (nq1 k)]) (wsp 42 0 rfl g b rfl)))<|gN [] [some 0] (kAN e l (zl l) [(11,.i c)]) (kF e []) (ke (.sliceE rfl (zD b)) kz) (.ks .nil)<|gh fol (kAN e l (zl l) [(11,.i (w64 (c+1)))])<|qY ⟨_,_,rfl,g5⟩
   cases g5
   exact aA<|⟨rfl,_,rfl,sK [3]⟩
 rintro x s' ⟨rfl,d,rfl,hsub⟩;obtain rfl:=si h;exact aq hsub<|sh fol [(2,.slice 0 0 d.length d.length 1)]<|ah<|(gw2 [.slice 0 0 d.length d.length 1] (FzW.fz (eL (E:=encS) rfl rfl (nl rfl))))
def zb (N:Nat) (a:List qb):Nat->Int->Option (Unit⊕Int)
 |0,_=>none
 |K+1,b=>
  if b<(a.length:Int)then
  (idx a b).bind λc=>
  (qa9 N c).bind λd=>
  if d=true then
  some (.inr b)
  else
  zb N a K (w64 (b+1))
  else
  some (.inl ())
def vM (N:Nat) (a:List qb):Option Int:=
 (zb N a N 0).bind (λ
 |(.inl ())=>
 some (-1)
 |(.inr b)=>
 some b)
def qdo (N:Nat) (a:List qb) {res:Int}(h:vM N a=some res):qc ZT (.fn 106) [vl qa a,.func (.func 100) [] []] [] (.i res) []:=by
 unfold vM at h;obtain⟨e,g2,h⟩:=bnd h;refine fW Tryz.func106 rfl<|sh fol (kAe a [(1,.func (.func 100) [] [])])<|sq<|sh fol (kAe a ((1,.func (.func 100) [] [])::(kBi (zl a))))<|aj<|gI (λx s'=>(x= .exit 0/\(.inl ())=e/\Sub s' (ofG 19 [],[]))\/(x= .ret/\∃f,(.inr f)=e/\qQ ZT [.tmp 4] (.i f) .ret s')) ?_ ?_
 ·refine Ua (λM s=>∃(b:Int),s=(ofG 19 (kAe a ((1,.func (.func 100) [] [])::(kAB (zl a) b))),[])/\zb N a M b=some e) ?_ (m:=N) ⟨_,rfl,g2⟩;rintro M s ⟨b,rfl,g2⟩
  cases M with
  |zero=>cases g2
  |succ M=>
   rw[zb]at g2;refine sh fol (kAe a ((1,.func (.func 100) [] [])::(kB2 (zl a) b (kBm (decide (b<(zl a)))))))<|sq<|ihD g2 (λg g2=>?_) (λg g2=>?_)
   ·obtain⟨j,c,k,d,g2⟩:=bn2 g2;refine ag<|sq<|aj<|sh fol (kAe a ((1,.func (.func 100) [] [])::(5,.i b)::(kAB (zl a) b)))<|sq<|gr fol [3,4,5] (kAe a ((1,.func (.func 100) [] [])::(5,.i b)::(kB2 (zl a) b [(16,.bool k)]))) (qA (iv qa4 qa c) (la qgo qa c) (cv (qhd N j d)))<|ihB g2 (λl g2=>?_) (λl g2=>?_)
    ·cases g2
     exact sh fol (kBe b)<|ah<|Or.inr (⟨rfl,_,rfl,gw1⟩)
    exact ag<|gh fol (kAe a ((1,.func (.func 100) [] [])::(kAB (zl a) (w64 (b+1)))))<|qY ⟨_,rfl,g2⟩
   cases g2
   exact aA<|Or.inl (⟨rfl,rfl,sK []⟩)
 rintro x s' (⟨rfl,rfl,hsub⟩|⟨rfl,n,rfl,hret⟩)
 ·cases h
  exact aq hsub<|sh fol kB1<|ah<|gw1
 cases h
 exact hret
def jK (N:Nat) (a:List qb):Option Bool:=
 (vM N a).bind λb=>
 some (decide (b>=0))
def qcJ (N:Nat) (a:List qb) {res:Bool}(h:jK N a=some res):qc ZT (.fn 55) [vl qa a,.func (.func 100) [] []] [] (.bool res) []:=by
 unfold jK at h;obtain⟨c,b,rfl⟩:=bs1 h;exact fW Tryz.func55 rfl<|sh fol (kAe a [(1,.func (.func 100) [] [])])<|sq<|gr fol [2] (kBO (decide (c>=0))) (qd (hs (.call 106 [vl qa a,.func (.func 100) [] []] [] [] [vl qa a,.func (.func 100) [] []] (.i c)) (qk6 (bi (Ul (yI qa _ (nl rfl))) (bi (Fz.func bB bB) bB)) (qdo N a b) tI)))<|ah<|gw1
def qbv (N:Nat) (l:List qb):Option ((List Str)×Int):=
 (jK N l).bind λa=>
 if a=true then
 some ([],4)
 else
 (qgb N l).bind λb=>
 some (b,0)
def qfc (N:Nat) (l:List qb) {res:(List Str)×Int}(h:qbv N l=some res):qc ZT (.fn 46) [vl qa l] [] (.tuple [vl encS res.1,.i res.2]) []:=by
 unfold qbv at h;obtain⟨c,a,h⟩:=bnd h;refine fW Tryz.func46 rfl<|sh fol (kAe l [])<|sq<|sq<|gr fol [1] (kAe l (kBo c)) (qd (hs (.call 55 [vl qa l,.func (.func 100) [] []] [] [] [vl qa l,.func (.func 100) [] []] (.bool c)) (qk6 (bi (Ul (yI qa _ (nl rfl))) (bi (Fz.func bB bB) bB)) (qcJ N l a) tB)))<|ihB h (λd h=>?_) (λd h=>?_)
 ·cases h
  exact sh fol [(2,.nilslice),(3,.i 4)]<|ah<|(gw2 [.nilslice,.i 4] (cj (ba (dw (E:=encS)) (ba (Ub tI) ci))))
 obtain⟨e,b,rfl⟩:=bs1 h;exact ag<|sq<|gr fol [1] [(2,vl encS e),(3,.i 0)] (qd (cv (qk7 N l b)))<|ah<|gwt
end
section
open Go.Proofs Go.RowKit
def jJ (N:Nat) (a:List Str):Nat->(List qb)->Int->Option (List qb)
 |0,_,_=>none
 |K+1,c,b=>
  if b<(a.length:Int)then
  (idx a b).bind λd=>
  (qcm N d).bind λe=>
  (app 64 c [e]).bind λf=>
  jJ N a K f (w64 (b+1))
  else
  some c
def jV (N:Nat) (a:List Str):Option (List qb):=
 (jJ N a N ([]:List qb) 0).bind λb=>
 some b
def qbp (N:Nat) (a:List Str) {k:List qb}(h:jV N a=some k):qc ZT (.fn 42) [vl encS a] [] (.gslice 0 k.length 4) (kB k []):=by
 unfold jV at h;refine fH Tryz.func42 rfl ?_;intro B hB;obtain⟨n,g5,h⟩:=bnd h;refine sh fol (kAU a [])<|sh fol (kAU a (kCG []))<|sq<|sh fol (kCG (kB7 a (kBi (zl a))))<|aj<|gI (λx s'=>(x= .exit 0/\∃f,f=n/\Sub s' (ofG 19 [(3,gF 0 f)],(kB f [])))) ?_ ?_
 ·refine aq (s':=(ofG 19 ((3,.gslice 0 ([]:List qb).length 4)::(kB7 a (kBi (zl a)))),[.cells (([]:List qb).flatMap qa.c)])) (sB hB [] [none] (ke .nil kz) (.fresh .nil))<|Ua (λM s=>∃(e:List qb) (b:Int),s=(ofG 19 ((3,gF 0 e)::(kB7 a (kAB (zl a) b))),(kB e []))/\jJ N a M e b=some n) ?_ (m:=N) ⟨_,_,rfl,g5⟩;rintro M s ⟨e,b,rfl,g5⟩
  cases M with
  |zero=>cases g5
  |succ M=>
   rw[jJ]at g5;refine sh fol ((3,gF 0 e)::(kB7 a (kB2 (zl a) b (kBm (decide (b<(zl a)))))))<|sq<|ihD g5 (λp g5=>?_) (λp g5=>?_)
   ·obtain⟨o,d,l,g,i,j,g5⟩:=bn3 g5;exact ag<|sq<|aj<|sq<|gr fol [0,1] ((3,gF 0 e)::(5,.str o)::(kB7 a (kAB (zl a) b))) (qj (iv qa6 encS d) (lv 0 qc8 encS d rfl))<|gq fol [2,4] ((3,gF 2 i)::(kB7 a (kAB (zl a) b))) (.dead:: .cells (nq1 l)::(kB i [])) (qj (cv (qcY N o g)) (hx (kB e [.cells (nq1 l)]) (wap [0,1] qa4 (wdg 0 rfl j) (wsc 1 [l] rfl))))<|gh fol ((3,gF 2 i)::(kB7 a (kAB (zl a) (w64 (b+1)))))<|⟨M,(ofG 19 ((3,gF 0 i)::(kB7 a (kAB (zl a) (w64 (b+1))))),(kB i [])),aY _,(sB hB [] [some 2] kz (.ks .nil)),_,_,rfl,g5⟩
   cases g5
   exact aA<|⟨rfl,_,rfl,sK [3]⟩
 rintro x s' ⟨rfl,f,rfl,hsub⟩;obtain rfl:=si h;exact aq hsub<|sh fol [(2,gF 0 f)]<|ah<|(gh2 [gF 0 f] (di _ _))
def za (N:Nat) (c:List qb) (f:List Int) (d:qb):Nat->(List (List qb))->Int->Option (List (List qb))
 |0,_,_=>none
 |K+1,b,a=>
  if a<(c.length:Int)then
  (idx b (f.length:Int)).bind λe=>
  (idx e a).bind λg=>
  (qaz N g d).bind λh=>
  (put e a h).bind λi=>
  za N c f d K (jZ b (f.length:Int) i) (w64 (a+1))
  else
  some b
def kw (N:Nat) (b:List (List qb)) (d:List qb) (m:List Int) (e:Int) (f:qb):Nat->(List qb)->Int->Option (List (List qb))
 |0,_,_=>none
 |K+1,c,a=>
  if a<(d.length:Int)then
  (idx b (m.length:Int)).bind λg=>
  (idx c a).bind λh=>
  (idx g a).bind λi=>
  (qaz N f i).bind λj=>
  (qco N h j).bind λk=>
  (put c a k).bind λl=>
  kw N b d m e f K l (w64 (a+1))
  else
  some (jZ b e c)
def ze (N:Nat) (d:List (List qb)) (e:List Int) (f:Int):Nat->(List (List qb))->Int->Option (List (List qb))
 |0,_,_=>none
 |K+1,b,a=>
  if a<(d.length:Int)then
  (((idx b a).bind λc=>
  (if a=(e.length:Int)then
  some true
  else
  (idx c f).bind λg=>
  (jM g).bind λh=>
  some (decide (h=0)):Option Bool).bind λi=>
  if i=true then
  some b
  else
  (idx c f).bind λj=>
  if a=(e.length:Int)then
  none
  else
  (kw N b c e a j N c 0).bind λk=>
  some k:Option (List (List qb)))).bind λl=>
  ze N d e f K l (w64 (a+1))
  else
  some b
def qV (N:Nat) (c:List (List qb)) (b:List Int) (d:Int):Nat->Int->Option (((List (List qb))×(List Int))⊕Unit)
 |0,_=>none
 |K+1,a=>
  if a<(c.length:Int)then
  (idx c a).bind λe=>
  (idx e d).bind λi=>
  (jM i).bind λj=>
  if j=0 then
  qV N c b d K (w64 (a+1))
  else
  ((if a=(b.length:Int)then
  (idx c (b.length:Int)).bind λp=>
  some c
  else
  (idx c (b.length:Int)).bind λk=>
  some (jZ (jZ c (b.length:Int) e) a k):Option (List (List qb)))).bind λf=>
  (idx f (b.length:Int)).bind λg=>
  (idx g d).bind λl=>
  (qcr N l).bind λm=>
  (za N g b m N f 0).bind λh=>
  (ze N h b d N h 0).bind λn=>
  (app 8 b [d]).bind λo=>
  some (.inl (n,o))
  else
  some (.inr ())
def qG (N:Nat) (a:Int):Nat->(List (List qb))->(List Int)->Int->Option ((List (List qb))×(List Int))
 |0,_,_,_=>none
 |K+1,c,b,d=>
  if d<a then
  (((qV N c b d N (b.length:Int)).bind (λ
  |(.inl (e,f))=>
  some (e,f)
  |(.inr ())=>
  some (c,b)):Option ((List (List qb))×(List Int)))).bind λ(g,h)=>
  qG N a K g h (w64 (d+1))
  else
  some (c,b)
def zq (N:Nat) (a:List (List qb)) (b:Int):Option ((List (List qb))×(List Int)):=
 (qG N b N a ([]:List Int) 0).bind λ(c,d)=>
 some (c,d)
def qaZ (N:Nat) (Q:List (List qb)) (e:Int) {l1:List (List qb)}{l2:List Int}(h:zq N Q e=some (l1,l2)):qc ZT (.fn 44) [.gslice 0 Q.length 1,.i e] [bg qa Q] (.gslice 1 l2.length 1) (bg qa l1::(kA l2 [])):=by
 unfold zq at h;refine fH Tryz.func44 rfl ?_;intro B hB;obtain⟨r8,g8,h⟩:=bnd h;refine sh fol (kAK Q (kBd e))<|Goes.scope<|sh fol (kAK Q [(1,.i e),(5,.nilslice)])<|sq<|Goes.label<|sq<|sh fol (kAK Q [(5,.nilslice),(15,.i e),(16,.i 0)])<|aj<|gI (λx s'=>(x= .exit 0/\∃l6 l7,(l6,l7)=r8/\Sub s' (ofG 141 (kA9 l7 []),(bg qa l6::(kA l7 []))))) ?_ ?_
 ·refine aq (s':=(ofG 141 (kAK Q [(5,.gslice 1 ([]:List Int).length 1),(15,.i e),(16,.i 0)]),(bg qa Q::kAq))) (sB hB [] [some 0,none] (kk (ke .nil kz)) (kbg (.fresh .nil)))<|Ua (λM s=>∃(t:List (List qb)) (a:List Int) (f:Int),s=(ofG 141 (kAK t (kA9 a (kR e f []))),(bg qa t::(kA a [])))/\qG N e M t a f=some r8) ?_ (m:=N) ⟨_,_,_,rfl,g8⟩;rintro M s ⟨t,a,f,rfl,g8⟩
  cases M with
  |zero=>cases g8
  |succ M=>
   rw[qG]at g8;refine sh fol (kAK t (kA9 a (kR e f [(17,.bool (decide (f<e)))])))<|sq<|ihD g8 (λc9 g8=>?_) (λc9 g8=>?_)
   ·obtain⟨r12,g12,g8⟩:=bnd g8;refine ag<|sq<|gI (λx s'=>(x= .normal/\∃a1 a2,(a1,a2)=r12/\Sub s' (ofG 141 (kAK a1 (kA9 a2 (kR e f []))),(bg qa a1::(kA a2 []))))) ?_ ?_
    ·obtain⟨b6,g16,g12⟩:=bnd g12;refine aj<|sh fol (kAK t (kA9 a ((6,.i f)::(kR e f []))))<|sh fol (kE t a f (zl a) (kR e f []))<|sh fol (kE t a f (zl a) ((8,.i (zl a))::(kR e f [])))<|aj<|gI (λx s'=>(x= .exit 1/\∃b2 b3,(.inl (b2,b3))=b6/\Sub s' (ofG 141 (kAK b2 (kA9 b3 (kR e f []))),(bg qa b2::(kA b3 []))))\/(x= .exit 2/\(.inr ())=b6/\Sub s' (ofG 141 (kAK t (kA9 a (kR e f []))),(bg qa t::(kA a []))))) ?_ ?_
     ·refine Ua (λM s=>∃(p:Int),s=(ofG 141 (kE t a f (zl a) ((8,.i p)::(kR e f []))),(bg qa t::(kA a [])))/\qV N t a f M p=some b6) ?_ (m:=N) ⟨_,rfl,g16⟩;rintro M s ⟨p,rfl,g16⟩
      cases M with
      |zero=>cases g16
      |succ M=>
       rw[qV]at g16;refine sq<|sh fol (kE t a f (zl a) ((8,.i p)::(kR e f [(25,.bool (decide (p<(zl t))))])))<|ihD g16 (λc17 g16=>?_) (λc17 g16=>?_)
       ·obtain⟨C,o,x20,a3,a4,b7,g16⟩:=bn3 g16;refine ag<|sq<|aj<|sq<|sq<|aq (s':=(ofG 141 (kE t a f (zl a) ((8,.i p)::(kR e f [(25,.bool (decide (p<(zl t))))]))),(.bag (wS (wM t) p (gF 2 C))::(kA a (kB C []))))) (Uc (E:=qa) (b:=0) rfl o)<|gr fol [2,3,5,6,7,8] (kE t a f (zl a) ((8,.i p)::(kR e f [(37,.bool (decide (a4=0)))]))) (qdO (wig qdF 0 o) (wlb qgQ 0 rfl (at_set o)) (wig qa4 2 a3) (wla qgo 2 rfl a3 rfl) (wmi qpj (.agg (nq1 x20))) (wcm (qjj 83 "Sign" 45 rfl) (yP x20 b7)))<|gS (kE t a f (zl a) ((8,.i p)::(kR e f [(37,.bool (decide (a4=0)))]))) (bg qa t::(kA a [.dead])) (Ud (E:=qa) (b:=0) (c:=2) (aF rfl) rfl rfl o .g rfl)<|ihD g16 (λc22 g16=>?_) (λc22 g16=>?_)
        ·exact aA<|gh fol (kE t a f (zl a) ((8,.i (w64 (p+1)))::(kR e f [])))<|⟨M,(ofG 141 (kE t a f (zl a) ((8,.i (w64 (p+1)))::(kR e f []))),(bg qa t::(kA a []))),aY _,(sB hB [] [some 0,some 1] kz (kbg (.ks .nil))),_,rfl,g16⟩
        obtain⟨r24,g24,g16⟩:=bnd g16;refine ag<|sq<|gI (λx s'=>(x= .normal/\∃u,u=r24/\Sub s' (ofG 141 (kE u a f (zl a) (kR e f [])),(bg qa u::(kA a []))))) ?_ ?_
        ·refine ihF g24 (λZ g24=>?_) (λZ g24=>?_)
         ·revert g24;obtain rfl:=ot Z;intro g24;obtain⟨U,q,rfl⟩:=bs1 g24;exact aq (s':=(ofG 141 (kE t a f (zl a) ((8,.i (zl a))::(kR e f [(37,.bool (decide (a4=0)))]))),(.bag (wS (wM t) (zl a) (gF 3 U))::(kA a (.dead::(kB U [])))))) (Uc (E:=qa) (b:=0) rfl q)<|gq fol [6,7,10,11,12,13,14,15] (kE t a f (zl a) (kR e f [])) (.bag (wS (wS (wS (wM t) (zl a) (gF 3 U)) (zl a) (gF 3 U)) (zl a) (gF 3 U))::(kA a (.dead::(kB U [])))) (qiM (wig qdF 0 q) (wlb qgQ 0 rfl (at_set q)) (wig qdF 0 q) (wlb qgQ 0 rfl (at_set q)) (wig qdF 0 q) (wsb 77 0 (zl a) (gF 3 U) rfl (xJ (qeG q))) (wig qdF 0 q) (wsb 77 0 (zl a) (gF 3 U) rfl (xJ (xJ (qeG q)))))<|⟨rfl,_,rfl,((show Sub _ (ofG 141 (kE t a f (zl a) (kR e f [])),(bg qa t::(kA a (kBL []))))from(Sub.bagSame (E:=qa) (b:=0) (c:=3) (aF rfl) rfl rfl q .g rfl)).trans (sB hB [] [some 0,some 1] kz (kbg (.ks .nil))))⟩
         obtain⟨K,z,rfl⟩:=bs1 g24;exact aq (s':=(ofG 141 (kE t a f (zl a) ((8,.i p)::(kR e f [(37,.bool (decide (a4=0)))]))),(.bag (wS (wM t) p (gF 3 C))::(kA a (.dead::(kB C [])))))) (Uc (E:=qa) (b:=0) rfl o)<|aq (s':=(ofG 141 (kE t a f (zl a) ((8,.i p)::(kR e f [(37,.bool (decide (a4=0)))]))),(.bag (wS (wS (wM t) p (gF 3 C)) (zl a) (gF 4 K))::(kA a (.dead::(kB C (kB K []))))))) (Uu (E:=qa) (b:=0) rfl o z (of_ Z))<|gq fol [6,7,10,11,12,13,14,15] (kE t a f (zl a) (kR e f [])) (.bag (wS (wS (wS (wS (wM t) p (gF 3 C)) (zl a) (gF 4 K)) (zl a) (gF 3 C)) p (gF 4 K))::(kA a (.dead::(kB C (kB K []))))) (qiM (wig qdF 0 o) (wlb qgQ 0 rfl (qin o z (of_ Z))) (wig qdF 0 z) (wlb qgQ 0 rfl (qim o z (of_ Z))) (wig qdF 0 z) (wsb 77 0 (zl a) (gF 3 C) rfl (xJ (xJ (qeG z)))) (wig qdF 0 o) (wsb 77 0 p (gF 4 K) rfl (xJ (xJ (xJ (qeG o))))))<|⟨rfl,_,rfl,(((show Sub _ (ofG 141 (kE t a f (zl a) (kR e f [])),(bg qa (jZ (jZ t (zl a) C) p K)::(kA a (kP []))))from(Sub.bagSwap (E:=qa) (b:=0) (c:=3) (d:=4) (aF rfl) (aF rfl) (aF rfl) rfl rfl rfl o z (of_ Z) .g .g rfl rfl)).trans (show Sub _ (ofG 141 (kE (jZ (jZ t (zl a) C) p K) a f (zl a) (kR e f [])),(bg qa (jZ (jZ t (zl a) C) p K)::(kA a [])))from(sB hB [] [some 0,some 1] (ke (.gsliceE rfl ((qcp _ _ _).trans (qcp _ _ _))) kz) (kbg (.ks .nil))))).trans (bm _))⟩
        rintro x s' ⟨rfl,u,rfl,hsub⟩;obtain⟨r,v,x32,a5,D,b8,r37,g37,g16⟩:=bn4 g16;refine aq hsub<|sq<|aq (s':=(ofG 141 (kE u a f (zl a) (kR e f [])),(.bag (wS (wM u) (zl a) (gF 2 r))::(kA a (kB r []))))) (Uc (E:=qa) (b:=0) rfl v)<|gq fol [2,3,5,6,7,8,10] (kE u a f (zl a) ((9,.ptr 3 0)::(kR e f []))) (.bag (wS (wM u) (zl a) (gF 2 r))::(kA a (kB r [.cells (nq1 D)]))) (qgD (wig qdF 0 v) (wlb qgQ 0 rfl (at_set v)) (wig qa4 2 a5) (wla qgo 2 rfl a5 rfl) (wmi qpj (.agg (nq1 x32))) (wcm (qjj 83 "Inv" 88 rfl) (qii N x32 b8)) (hx (.bag (wS (wM u) (zl a) (gF 2 r))::(kA a (kB r (kM [])))) (wsq 83 3 D rfl rfl)))<|gS (kE u a f (zl a) ((9,.ptr 3 0)::(kR e f []))) (bg qa u::(kA a [.dead,.cells (nq1 D)])) (Ud (E:=qa) (b:=0) (c:=2) (aF rfl) rfl rfl v .g rfl)<|sq<|sq<|aq (s':=(ofG 141 (kE u a f (zl a) ((9,.ptr 3 0)::(kR e f []))),(.bag (wS (wM u) (zl a) (gF 4 r))::(kA a (.dead:: .cells (nq1 D)::(kB r [])))))) (Uc (E:=qa) (b:=0) rfl v)<|gr fol [2,3] (kE u a f (zl a) ((9,.ptr 3 0)::(kR e f [(65,.i (zl r)),(66,.i 0)]))) (qj (wig qdF 0 v) (wlb qgQ 0 rfl (at_set v)))<|gS (kE u a f (zl a) ((9,.ptr 3 0)::(kR e f [(65,.i (zl r)),(66,.i 0)]))) (bg qa u::(kA a [.dead,.cells (nq1 D),.dead])) (Ud (E:=qa) (b:=0) (c:=4) (aF rfl) rfl rfl v .g rfl)<|aj<|gI (λx s'=>(x= .exit 4/\∃l,l=r37/\Sub s' (ofG 141 (kE l a f (zl a) (kR e f [])),(bg qa l::(kA a []))))) ?_ ?_
        ·refine aq (s':=(ofG 141 (kE u a f (zl a) (kB6 (kR e f [(65,.i (zl r)),(66,.i 0)]))),(bg qa u::(kA a [.cells (nq1 D)])))) (sB hB [] [some 0,some 1,some 3] kz (kbg (.ks (.kb rfl (.same sn) .nil))))<|Ua (λM s=>∃(A:List (List qb)) (F:Int),s=(ofG 141 (kE A a f (zl a) (kB6 (kR e f (kBP (zl r) F)))),(bg qa A::(kA a [.cells (nq1 D)])))/\za N r a D M A F=some r37) ?_ (m:=N) ⟨_,_,rfl,g37⟩;rintro M s ⟨A,F,rfl,g37⟩
         cases M with
         |zero=>cases g37
         |succ M=>
          rw[za]at g37;refine sh fol (kE A a f (zl a) (kB6 (kR e f [(65,.i (zl r)),(66,.i F),(67,.bool (decide (F<(zl r))))])))<|sq<|ihD g37 (λc38 g37=>?_) (λc38 g37=>?_)
          ·obtain⟨b9,G,x41,L,r42,c0,a6,a7,g37⟩:=bn4 g37;exact ag<|sq<|aj<|sh fol (kE A a f (zl a) (kB6 ((10,.i F)::(kR e f (kBP (zl r) F)))))<|aq (s':=(ofG 141 (kE A a f (zl a) (kB6 ((10,.i F)::(kR e f (kBP (zl r) F))))),(.bag (wS (wM A) (zl a) (gF 3 b9))::(kA a (.cells (nq1 D)::(kB b9 [])))))) (Uc (E:=qa) (b:=0) rfl G)<|gq fol [2,3,7,8,10,11,12,14,15,16] (kE A a f (zl a) (kB6 (kR e f (kBP (zl r) F)))) (.bag (wS (wM A) (zl a) (gF 3 b9))::(kA a (.cells (nq1 D)::(kB a6 [])))) (qhz (wig qdF 0 G) (wlb qgQ 0 rfl (at_set G)) (wig qdF 0 G) (wlb qgQ 0 rfl (at_set G)) (wig qa4 3 L) (wla qgo 3 rfl L rfl) (wmi qpj (.agg (nq1 x41))) (wcm (qjj 83 "Mul" 54 rfl) (qdb N x41 D c0)) (qj (wig qa4 3 L) (wsa 83 3 rfl L a7 rfl)))<|aq ((show Sub _ (ofG 141 (kE A a f (zl a) (kB6 (kR e f (kBP (zl r) F)))),(bg qa (jZ A (zl a) a6)::(kA a [.cells (nq1 D),.dead])))from(Un (E:=qa) (b:=0) (c:=3) (aF rfl) rfl rfl G .g (zD a7))).trans (show Sub _ (ofG 141 (kE (jZ A (zl a) a6) a f (zl a) (kB6 (kR e f (kBP (zl r) F)))),(bg qa (jZ A (zl a) a6)::(kA a [.cells (nq1 D)])))from(sB hB [] [some 0,some 1,some 2] (ke (.gsliceE rfl (qcp _ _ _)) kz) (kbg (.ks (.kb rfl (.same sn) .nil))))))<|gh fol (kE (jZ A (zl a) a6) a f (zl a) (kB6 (kR e f (kBP (zl r) (w64 (F+1))))))<|qY ⟨_,_,rfl,g37⟩
          cases g37
          exact aA<|⟨rfl,_,rfl,(sB hB [] [some 0,some 1] (.keep (.gslice rfl) (.keep (.gslice rfl) (.keep (.same nI) (.keep (.same nI) (.drop (.keep (.same nI) (.keep (.same nI) .nil))))))) (kbg (.ks .nil)))⟩
        rintro x s' ⟨rfl,l,rfl,hsub⟩;obtain⟨r47,g47,g16⟩:=bnd g16;refine aq hsub<|sq<|sh fol (kE l a f (zl a) (kR e f [(86,.gslice 0 l.length 1),(87,.i (zl l)),(88,.i 0)]))<|aj<|gI (λx s'=>(x= .exit 6/\∃V,V=r47/\Sub s' (ofG 141 (kAK V (kA9 a ((6,.i f)::(kR e f [])))),(bg qa V::(kA a []))))) ?_ ?_
        ·refine Ua (λM s=>∃(j:List (List qb)) (k:Int),s=(ofG 141 (kE j a f (zl a) (kK e f j (zl l) k [])),(bg qa j::(kA a [])))/\ze N l a f M j k=some r47) ?_ (m:=N) ⟨_,_,rfl,g47⟩;rintro M s ⟨j,k,rfl,g47⟩
         cases M with
         |zero=>cases g47
         |succ M=>
          rw[ze]at g47;refine sh fol (kE j a f (zl a) (kK e f j (zl l) k [(89,.bool (decide (k<(zl l))))]))<|sq<|ihD g47 (λc48 g47=>?_) (λc48 g47=>?_)
          ·obtain⟨r50,g50,g47⟩:=bnd g47;refine ag<|sq<|gI (λx s'=>(x= .normal/\∃X,X=r50/\Sub s' (ofG 141 (kE X a f (zl a) (kK e f X (zl l) k [])),(bg qa X::(kA a []))))) ?_ ?_
           ·obtain⟨n,w,b56,J,g50⟩:=bn2 g50;refine aj<|sq<|aq (s':=(ofG 141 (kE j a f (zl a) (kK e f j (zl l) k [(89,.bool (decide (k<(zl l))))])),(.bag (wS (wM j) k (gF 2 n))::(kA a (kB n []))))) (Uc (E:=qa) (b:=0) rfl w)<|gr fol [1,2] (kE j a f (zl a) ((11,.i k)::(12,gF 2 n)::(kK e f j (zl l) k []))) (qj (wig qdF 0 w) (wlb qgQ 0 rfl (at_set w)))<|sq<|sq<|Goes.cutS (s':=(ofG 141 (kE j a f (zl a) ((11,.i k)::(12,gF 2 n)::(kK e f j (zl l) k [(104,.bool b56)]))),(.bag (wS (wM j) k (gF 2 n))::(kA a (kB n []))))) ?_ ?_
            ·rcases wyD J with⟨c1,J⟩|⟨c1,J⟩
             ·cases J
              exact fB (tr fol [3] (kE j a f (zl a) ((11,.i k)::(12,gF 2 n)::(kK e f j (zl l) k [(104,.bool true)]))) (qd (gw c1))) (bm _)
             obtain⟨x54,a8,r55,c2,rfl⟩:=bs2 J;exact fB (tr fol [3,6,7,8,9] (kE j a f (zl a) ((11,.i k)::(12,gF 2 n)::(kK e f j (zl l) k [(104,.bool (decide (r55=0)))]))) (qbE (gw c1) (wig qa4 2 a8) (wla qgo 2 rfl a8 rfl) (wmi qpj (.agg (nq1 x54))) (wcm (qjj 83 "Sign" 45 rfl) (yP x54 c2)))) (bm _)
            intro _ hsub;refine aq hsub<|ihB g50 (λc58 g50=>?_) (λc58 g50=>?_)
            ·cases g50
             exact aA<|⟨rfl,_,rfl,((Sub.trans (s':=(ofG 141 (kE j a f (zl a) (kK e f j (zl l) k [])),(.bag (wS (wM j) k (gF 2 n))::(kA a (kB n []))))) (sK [0,5,6,7,15,16,86,87,88]) (Ud (E:=qa) (b:=0) (c:=2) (aF rfl) rfl rfl w .g rfl)).trans (sB hB [] [some 0,some 1] kz (kbg (.ks .nil))))⟩
            obtain⟨I,a9,g50⟩:=bnd g50;refine ag<|sq<|gq fol [2,3,5] (kE j a f (zl a) ((11,.i k)::(kAH n (kK e f j (zl l) k [])))) (.bag (wS (wM j) k (gF 2 n))::(kA a (kB n [.cells (nq1 I)]))) (qA (wig qa4 2 a9) (wla qgo 2 rfl a9 rfl) (hx (.bag (wS (wM j) k (gF 2 n))::(kA a (kB n (kM [])))) (wsq 83 3 I rfl rfl)))<|sh fol (kE j a f (zl a) ((11,.i k)::(kAH n (kK e f j (zl l) k [(110,.i (zl n)),(111,.i 0)]))))<|ihF g50 (λb4 g50=>?_) (λb4 g50=>?_)
            ·cases g50
            obtain⟨r64,g64,g50⟩:=bnd g50;refine aj<|gI (λx s'=>(x= .exit 8/\∃b0,b0=r64/\Sub s' (ofG 141 (kE b0 a f (zl a) (kK e f b0 (zl l) k [])),(bg qa b0::(kA a []))))) ?_ ?_
            ·refine aq (s':=(ofG 141 (kE j a f (zl a) (kAH n (kK e f j (zl l) k [(110,.i (zl n)),(111,.i 0)]))),(.bag (wS (wM j) k (gF 2 n))::(kA a (kB n [.cells (nq1 I)]))))) (sK [0,5,6,7,12,13,15,16,86,87,88,110,111])<|Ua (λM s=>∃(y:List qb) (H:Int),s=(ofG 141 (kE j a f (zl a) (kAH y (kK e f j (zl l) k (kBC (zl n) H)))),(.bag (wS (wM j) k (gF 2 y))::(kA a (kB y [.cells (nq1 I)]))))/\kw N j n a k I M y H=some r64) ?_ (m:=N) ⟨_,_,rfl,g64⟩;rintro M s ⟨y,H,rfl,g64⟩
             cases M with
             |zero=>cases g64
             |succ M=>
              rw[kw]at g64;refine sh fol (kE j a f (zl a) (kAH y (kK e f j (zl l) k [(110,.i (zl n)),(111,.i H),(112,.bool (decide (H<(zl n))))])))<|sq<|ihD g64 (λc65 g64=>?_) (λc65 g64=>?_)
              ·obtain⟨b5,O,x69,P,x70,b1,r71,c3,r72,c4,a0,Y,g64⟩:=bn6 g64;exact ag<|sq<|aj<|sh fol (kE j a f (zl a) (kAH y ((14,.i H)::(kK e f j (zl l) k (kBC (zl n) H)))))<|aq (s':=(ofG 141 (kE j a f (zl a) (kAH y ((14,.i H)::(kK e f j (zl l) k (kBC (zl n) H))))),(.bag (wS (wS (wM j) k (gF 2 y)) (zl a) (gF 4 b5))::(kA a (kB y (.cells (nq1 I)::(kB b5 []))))))) (Uu (E:=qa) (b:=0) rfl w O (of_ b4))<|gq fol [4,5,6,8,11,12,14,15,16,17,18,19] (kE j a f (zl a) (kAH y (kK e f j (zl l) k (kBC (zl n) H)))) (.bag (wS (wS (wM j) k (gF 2 y)) (zl a) (gF 4 b5))::(kA a (kB a0 (.cells (nq1 I)::(kB b5 []))))) (qhz (wig qa4 2 P) (wla qgo 2 rfl P rfl) (wmi qpj (.agg (nq1 x69))) (wmi qpj (.agg (nq1 I))) (wig qdF 0 O) (wlb qgQ 0 rfl (qim w O (of_ b4))) (wig qa4 4 b1) (wla qgo 4 rfl b1 rfl) (zO (wcm (qjj 83 "Mul" 54 rfl) (qdb N I x70 c3)) (wcm (qjj 83 "Sub" 87 rfl) (qih N x69 r71 c4)) (wig qa4 2 P) (wsa 83 2 rfl P Y rfl)))<|aq ((show Sub _ (ofG 141 (kE j a f (zl a) (kAH y (kK e f j (zl l) k (kBC (zl n) H)))),(.bag (wS (wM j) k (gF 2 y))::(kA a (kB a0 [.cells (nq1 I),.dead]))))from(Sub.bagBack2 (E:=qa) (b:=0) (c:=4) (aF rfl) rfl rfl w O (of_ b4) .g rfl)).trans (show Sub _ (ofG 141 (kE j a f (zl a) (kAH a0 (kK e f j (zl l) k (kBC (zl n) H)))),(.bag (wS (wM j) k (gF 2 a0))::(kA a (kB a0 [.cells (nq1 I)]))))from(sB hB [] [some 0,some 1,some 2,some 3] (kk (kk (kk (kk (ke (.gsliceE rfl (zD Y)) kz))))) (.kb rfl (yQ.bgv (.gsliceE rfl (zD Y))) (.ks (.ks (.kb rfl (.same sn) .nil)))))))<|gh fol (kE j a f (zl a) (kAH a0 (kK e f j (zl l) k (kBC (zl n) (w64 (H+1))))))<|qY ⟨_,_,rfl,g64⟩
              cases g64
              exact aA<|⟨rfl,_,rfl,((Sub.trans (s':=(ofG 141 (kE j a f (zl a) (kK e f j (zl l) k [])),(.bag (wS (wM j) k (gF 2 y))::(kA a (kB y [.cells (nq1 I)]))))) (sK [0,5,6,7,15,16,86,87,88]) (Un (E:=qa) (b:=0) (c:=2) (aF rfl) rfl rfl w .g rfl)).trans (sB hB [] [some 0,some 1] (ke (.gsliceE rfl (qcp _ _ _)) (kk (kk (kk (kk (kk (ke (.gsliceE rfl (qcp _ _ _)) kz))))))) (kbg (.ks .nil))))⟩
            rintro x s' ⟨rfl,b0,rfl,hsub⟩;cases g50
            exact⟨rfl,_,rfl,hsub⟩
           rintro x s' ⟨rfl,X,rfl,hsub⟩;exact aq hsub<|gh fol (kE X a f (zl a) (kK e f X (zl l) (w64 (k+1)) []))<|qY ⟨_,_,rfl,g47⟩
          cases g47
          exact aA<|⟨rfl,_,rfl,sK [0,5,6,15,16]⟩
        rintro x s' ⟨rfl,V,rfl,hsub⟩;obtain⟨l74,c5,rfl⟩:=bs1 g16;exact aq hsub<|sq<|gq fol [3] (kAK V ((5,.gslice 3 l74.length 1)::(kR e f []))) (bg qa V::(kAx f (kA l74 []))) (qd (hx (bg qa V::(kA a (kCC f))) (wap [1,2] jT (wdg 1 rfl c5) (wsc 2 [f] rfl))))<|aA<|Or.inl (⟨rfl,_,_,rfl,(sB hB [] [some 0,some 3] kz (kbg (.ks .nil)))⟩)
       cases g16
       exact aA<|Or.inr (⟨rfl,rfl,sK [0,5,15,16]⟩)
     rintro x s' (⟨rfl,b2,b3,rfl,hsub⟩|⟨rfl,rfl,hsub⟩)
     ·cases g12
      exact⟨rfl,_,_,rfl,hsub⟩
     cases g12
     exact⟨rfl,_,_,rfl,hsub⟩
    rintro x s' ⟨rfl,a1,a2,rfl,hsub⟩;exact aq hsub<|gh fol (kAK a1 (kA9 a2 (kR e (w64 (f+1)) [])))<|qY ⟨_,_,_,rfl,g8⟩
   cases g8
   exact aA<|⟨rfl,_,_,rfl,sK [5]⟩
 rintro x s' ⟨rfl,l6,l7,rfl,hsub⟩;refine aq hsub<|sh fol (kBx l7)<|ah ?_;simp only[ZI,ZP]at h;obtain⟨rfl,rfl⟩:=h;exact(gh2 [.gslice 1 l7.length 1] (di _ _))
def xC (N:Nat) (m:List (List Str)) (b:List Str):Nat->(List (List qb))->Int->Option (List (List qb))
 |0,_,_=>none
 |K+1,h,a=>
  if a<(m.length:Int)then
  (idx m a).bind λi=>
  (jV N i).bind λc=>
  (idx b a).bind λd=>
  (qcm N d).bind λe=>
  (app 64 c [e]).bind λf=>
  (app 24 h [f]).bind λg=>
  xC N m b K g (w64 (a+1))
  else
  some h
def yB (e:List Str) (b:List (List qb)):Nat->(List qb)->Int->Option ((List qb)⊕((List Str)×Int))
 |0,_,_=>none
 |K+1,c,a=>
  if a<(b.length:Int)then
  (((idx b a).bind λd=>
  if a<(e.length:Int)then
  (idx d (e.length:Int)).bind λf=>
  (app 64 c [f]).bind λg=>
  some (.inl g)
  else
  (idx d (e.length:Int)).bind λh=>
  (jM h).bind λi=>
  if(!decide (i=0))=true then
  some (.inr ([],14))
  else
  some (.inl c):Option ((List qb)⊕((List Str)×Int)))).bind (λ
  |(.inl j)=>
  yB e b K j (w64 (a+1))
  |(.inr k)=>
  some (.inr k))
  else
  some (.inl c)
def vJ (N:Nat) (m:List (List Str)) (b:List Str):Option ((List Str)×Int):=
 (qD N m b).bind λh=>
 if(!decide (h=0))=true then
 some ([],h)
 else
 (idx m 0).bind λd=>
 (xC N m b N ([]:List (List qb)) 0).bind λi=>
 (zq N i (d.length:Int)).bind λ(a,e)=>
 ((if i.length=a.length then some ()else none:Option Unit)).bind λj=>
 if(e.length:Int)<(d.length:Int)then
 some ([],14)
 else
 (yB d a N ([]:List qb) 0).bind (λ
 |(.inl f)=>
 (qbv N f).bind λc=>
 some (c.1,c.2)
 |(.inr g)=>
 some g)
def qh9 (N:Nat) (m:List (List Str)) (b:List Str) {res:(List Str)×Int}(h:vJ N m b=some res):qc ZT (.fn 10) [vl eSS m,vl encS b] [] (.tuple [vl encS res.1,.i res.2]) []:=by
 unfold vJ at h;obtain⟨r1,e_r1,h⟩:=bnd h;refine fW Tryz.func10 rfl<|sh fol ((0,vl eSS m)::(kW b []))<|sq<|sq<|gr fol [2] ((0,vl eSS m)::(kW b (kBK r1))) (qd (cv (xV N m b e_r1)))<|sh fol ((0,vl eSS m)::(kW b [(6,.i r1),(18,.bool (!decide (r1=0)))]))<|ihB h (λc2 h=>?_) (λc2 h=>?_)
 ·cases h
  exact sh fol (kBY (kAy r1))<|ah<|(gw2 [.nilslice,.i r1] (cj (ba (dw (E:=encS)) (ba (Ub tI) ci))))
 obtain⟨e,F,r7,g7,h⟩:=bn2 h;refine ag<|sq<|gr fol [1,2] ((0,vl eSS m)::(kW b (kBT (zl e)))) (qj (iv yf eSS F) (lv 0 xW eSS F rfl))<|sh fol ((0,vl eSS m)::(kW b [(7,.i (zl e)),(8,.nilslice)]))<|sq<|sh fol (kW b [(7,.i (zl e)),(8,.nilslice),(24,vl eSS m),(25,.i (zl m)),(26,.i 0)])<|aj<|gI (λx s'=>(x= .exit 0/\∃Z,Z=r7/\Sub s' (ofG 78 (kAF (zl e) Z []),[bg qa Z]))) ?_ ?_
 ·refine aq (s':=(ofG 78 (kW b [(7,.i (zl e)),(8,.gslice 0 ([]:List (List qb)).length 1),(24,vl eSS m),(25,.i (zl m)),(26,.i 0)]),[bg qa ([]:List (List qb))])) (sN [] [none] (kk (kk (ke .nil kz))) (.fresh .nil))<|Ua (λM s=>∃(q:List (List qb)) (t:Int),s=(ofG 78 (kW b (kAF (zl e) q ((24,vl eSS m)::(kAd (zl m) t)))),[bg qa q])/\xC N m b M q t=some r7) ?_ (m:=N) ⟨_,_,rfl,g7⟩;rintro M s ⟨q,t,rfl,g7⟩
  cases M with
  |zero=>cases g7
  |succ M=>
   rw[xC]at g7;refine sh fol (kW b (kAF (zl e) q [(24,vl eSS m),(25,.i (zl m)),(26,.i t),(27,.bool (decide (t<(zl m))))]))<|sq<|ihD g7 (λc8 g7=>?_) (λc8 g7=>?_)
   ·obtain⟨x9,G,H,I,x12,u,r,J,k,K,o,v,g7⟩:=bn6 g7;exact ag<|sq<|aj<|sq<|gr fol [1,2] (kW b (kAF (zl e) q (kBf t x9 ((24,vl eSS m)::(kAd (zl m) t))))) (qj (iv yf eSS G) (lv 0 xW eSS G rfl))<|gq fol [2,5,6,7,9,11] (kW b ((7,.i (zl e))::(8,.gslice 5 o.length 1)::(24,vl eSS m)::(kAd (zl m) t))) (kBL (.cells (nq1 r)::(kB k (kB8 k [.bag (q.map (zY qa)++[.av (gF 3 k)])])))) (qdO (wch [] (gF 1 H) (bg qa q::(kB H [])) [] [none,some 0] (qbp N x9 I) .nil (.old rfl rfl (.new rfl rfl (.same fa) rfl .nil)) (rc (.same (kr encS _)) rn) (.gslice rfl)) (iv qa6 encS u) (lv 0 qc8 encS u rfl) (cv (qcY N x12 J)) (hx (bg qa q::(kB H [.cells (nq1 r)])) (wap [1,2] qa4 (wdg 1 rfl K) (wsc 2 [r] rfl))) (hs (.run [0,4] (yo ZT [76,76] (.gslice 0 q.length 1) (.slice 4 0 1 1 1)) (bg qa q:: .dead:: .cells (nq1 r)::(kB k (kB8 k []))) (.gslice 5 o.length 1) (kBL (.cells (nq1 r)::(kB k (kB8 k [.bag (q.map (zY qa)++[.av (gF 3 k)])])))) true) (qij qdF (E:=qa) (l:=q) (x:=k) rfl rfl rfl rfl rfl v rfl)))<|gS (kW b ((7,.i (zl e))::(8,.gslice 5 o.length 1)::(24,vl eSS m)::(kAd (zl m) t))) (kBL (.cells (nq1 r):: .dead::(kB8 k [bg qa o]))) (Ut (E:=qa) (b:=5) (c:=3) (aF rfl) rfl rfl v .g rfl)<|gh fol (kW b ((7,.i (zl e))::(8,.gslice 5 o.length 1)::(24,vl eSS m)::(kAd (zl m) (w64 (t+1)))))<|⟨M,(ofG 78 (kW b (kAF (zl e) o ((24,vl eSS m)::(kAd (zl m) (w64 (t+1)))))),[bg qa o]),aY _,(sN [] [some 5] kz (kbg .nil)),_,_,rfl,g7⟩
   cases g7
   exact aA<|⟨rfl,_,rfl,sK [7,8]⟩
 rintro x s' ⟨rfl,Z,rfl,hsub⟩;refine aq hsub<|sq ?_;obtain⟨⟨a,w⟩,L,h⟩:=bnd h;obtain⟨u19,O,h⟩:=bnd h;refine sq<|gq fol [2] (kAF (zl e) Z [(49,.bool (decide ((zl w)<(zl e))))]) (bg qa a::(kA w [])) (qd (wch [0] (.gslice 1 w.length 1) (bg qa a::(kA w [])) [some 0] [some 0,some 1] (qaZ N Z (zl e) L) (.kb rfl eM .nil) (.back rfl rfl eM rfl (.new rfl rfl (.same fa) rfl .nil)) (rc (.gslice rfl) (rc (.same nI) rn)) (.gslice rfl)))<|gN [] [some 0] (kAF (zl e) a [(49,.bool (decide ((zl w)<(zl e))))]) [bg qa a] (kk (ke (.gsliceE rfl (qli O)) kz)) (kbg .nil)<|ihD h (λc20 h=>?_) (λc20 h=>?_)
 ·cases h
  exact sh fol (kBY [(5,.i 14)])<|aq (Ur (E:=qa) (b:=0) rfl)<|ah<|(gw2 [.nilslice,.i 14] (cj (ba (dw (E:=encS)) (ba (Ub tI) ci))))
 obtain⟨P,g24,h⟩:=bnd h;refine ag<|sh fol (kAF (zl e) a [(11,.nilslice)])<|sq<|sh fol [(7,.i (zl e)),(11,.nilslice),(50,.gslice 0 a.length 1),(51,.i (zl a)),(52,.i 0)]<|aj<|gI (λx s'=>(x= .exit 2/\∃p,(.inl p)=P/\Sub s' (ofG 78 [(11,gF 0 p)],(kB p [])))\/(x= .ret/\∃Q,(.inr Q)=P/\qQ ZT [.tmp 4,.tmp 5] (.tuple [vl encS Q.1,.i Q.2]) .ret s')) ?_ ?_
 ·refine aq (s':=(ofG 78 ((7,.i (zl e))::(11,.gslice 0 ([]:List qb).length 4)::(kBS a (zl a) [(52,.i 0)])),[.cells (([]:List qb).flatMap qa.c),bg qa a])) (sN [] [none,some 0] (kk (ke .nil kz)) (.fresh (kbg .nil)))<|Ua (λM s=>∃(f:List qb) (d:Int),s=(ofG 78 (kAA (zl e) f a (zl a) d []),(kB f [bg qa a]))/\yB e a M f d=some P) ?_ (m:=N) ⟨_,_,rfl,g24⟩;rintro M s ⟨f,d,rfl,g24⟩
  cases M with
  |zero=>cases g24
  |succ M=>
   rw[yB]at g24;refine sh fol (kAA (zl e) f a (zl a) d [(53,.bool (decide (d<(zl a))))])<|sq<|ihD g24 (λc26 g24=>?_) (λc26 g24=>?_)
   ·obtain⟨r28,g28,g24⟩:=bnd g24;refine ag<|sq<|gI (λx s'=>(x= .normal/\∃y,(.inl y)=r28/\Sub s' (ofG 78 (kAA (zl e) y a (zl a) d []),(kB y [bg qa a])))\/(x= .ret/\∃U,(.inr U)=r28/\qQ ZT [.tmp 4,.tmp 5] (.tuple [vl encS U.1,.i U.2]) .ret s')) ?_ ?_
    ·obtain⟨n,j,g28⟩:=bnd g28;refine aj<|sq<|aq (s':=(ofG 78 (kAA (zl e) f a (zl a) d [(53,.bool (decide (d<(zl a))))]),(kB f (.bag (wS (wM a) d (gF 2 n))::(kB n []))))) (Uc (E:=qa) (b:=1) rfl j)<|gr fol [1,2] ((7,.i (zl e))::(11,gF 0 f)::(12,.i d)::(13,gF 2 n)::(kBS a (zl a) [(52,.i d)])) (qj (wig qdF 1 j) (wlb qgQ 1 rfl (at_set j)))<|sh fol ((7,.i (zl e))::(11,gF 0 f)::(13,gF 2 n)::(kBS a (zl a) [(52,.i d),(59,.bool (decide (d<(zl e))))]))<|ihD g28 (λc32 g28=>?_) (λc32 g28=>?_)
     ·obtain⟨B,z,C,V,rfl⟩:=bs2 g28;exact gq fol [3,4,6] ((7,.i (zl e))::(11,gF 4 C)::(kBS a (zl a) [(52,.i d)])) (.dead:: .bag (wS (wM a) d (gF 2 n))::(kB n (.cells (nq1 B)::(kB C [])))) (qA (wig qa4 2 z) (wla qgo 2 rfl z rfl) (hx (kB f (.bag (wS (wM a) d (gF 2 n))::(kB n [.cells (nq1 B)]))) (wap [0,3] qa4 (wdg 0 rfl V) (wsc 3 [B] rfl))))<|Or.inl (⟨rfl,_,rfl,((show Sub _ (ofG 78 ((7,.i (zl e))::(11,gF 4 C)::(kBS a (zl a) [(52,.i d)])),(.dead::bg qa a:: .dead:: .cells (nq1 B)::(kB C [])))from(Ud (E:=qa) (b:=1) (c:=2) (aF rfl) rfl rfl j .g rfl)).trans (sN [] [some 4,some 1] kz (.ks (kbg .nil))))⟩)
     obtain⟨x35,A,r36,X,g28⟩:=bn2 g28;refine sq<|gr fol [2,3,4] (kAA (zl e) f a (zl a) d [(72,.bool (!decide (r36=0)))]) (qA (wig qa4 2 A) (wla qgo 2 rfl A rfl) (cv (yP x35 X)))<|gS (kAA (zl e) f a (zl a) d [(72,.bool (!decide (r36=0)))]) (kB f [bg qa a,.dead]) (Ud (E:=qa) (b:=1) (c:=2) (aF rfl) rfl rfl j .g rfl)<|ihB g28 (λc37 g28=>?_) (λc37 g28=>?_)
     ·cases g28
      exact sh fol (kBY [(5,.i 14)])<|aq (Ur (E:=qa) (b:=1) rfl)<|ah<|Or.inr (⟨rfl,_,rfl,(gw2 [.nilslice,.i 14] (cj (ba (dw (E:=encS)) (ba (Ub tI) ci))))⟩)
     cases g28
     exact ag<|Or.inl (⟨rfl,_,rfl,(sN [] [some 0,some 1] kz (.ks (kbg .nil)))⟩)
    rintro x s' (⟨rfl,y,rfl,hsub⟩|⟨rfl,q38,rfl,hret⟩)
    ·exact aq hsub<|gh fol (kAA (zl e) y a (zl a) (w64 (d+1)) [])<|qY ⟨_,_,rfl,g24⟩
    cases g24
    exact Or.inr (⟨rfl,_,rfl,hret⟩)
   cases g24
   exact aA<|Or.inl (⟨rfl,_,rfl,(sN [] [some 0] (.drop (.keep (.gslice rfl) .nil)) (.ks .nil))⟩)
 rintro x s' (⟨rfl,p,rfl,hsub⟩|⟨rfl,q40,rfl,hret⟩)
 ·obtain⟨D,Y,rfl⟩:=bs1 h;exact aq hsub<|sq<|gq fol [1] ((4,vl encS D.1)::(kAy D.2)) [.frozen (p.flatMap qa.c)] (qd (wcf [gF 0 p] [0] (bi (Uy (E:=qa) rfl rfl (nl rfl)) bB) (qfc N p Y)))<|gN [] [] ((4,vl encS D.1)::(kAy D.2)) [] kz .nil<|ah<|gwt
 cases h
 exact hret
def bits_Mul (b y:Int):Option (Int×Int):=
 (bits_Mul64 b y).bind λa=>
 some (a.1,a.2)
def qmj (d y:Int) {res:Int×Int}(h:bits_Mul d y=some res):qc ZT (.fn 102) (kBB d y) [] (.tuple (kBB res.1 res.2)) []:=by
 unfold bits_Mul at h;refine fW Tryz.func102 rfl<|sh fol (kY d y [])<|sq<|Goes.ifB (b:=false) (by kernel_rfl) (λc=>(by cases c)) (λ_=>?_);obtain⟨e,a,rfl⟩:=bs1 h;exact ag<|sq<|gr fol [2] [(8,.int .u64 e.1),(9,.int .u64 e.2)] (qd (cv (qbJ d y a)))<|sh fol [(4,.int .u64 e.1),(5,.int .u64 e.2)]<|ah<|gwt
def qhp (n:Int):Option qb:=
 (qdc n).bind λa=>
 (qcN a).bind λb=>
 some b
def qjT (n:Int) {res:qb}(h:qhp n=some res):qc ZT (.fn 48) [.i n] [] (.agg (nq1 res)) []:=by
 unfold qhp at h;obtain⟨d,a,c,b,rfl⟩:=bs2 h;exact fW Tryz.func48 rfl<|sg fol ((0,.i n)::(kAs [])) (kM [])<|sq<|gq fol [1,2,3] (kAs []) [.cells (nq1 c)] (qA (cv (qcM n a)) (cv (qe1 d b)) (wsq 83 0 c rfl rfl))<|ah<|gw1
def vK:Nat->(List qb)->Int->Option (List qb)
 |0,_,_=>none
 |K+1,a,c=>
  if c<(a.length:Int)then
  (at' a c).bind λb=>
  (some (qh1 a b (a.take b))).bind λd=>
  vK K d (w64 (c+((Nat.min (a.take b).length (a.length-b):Nat):Int)))
  else
  some a
def vo (N:Nat) (a:Int) (b:List Int) (c:Int) (d:List Int) (e:Int):Option (List qb):=
 ((if e<0 then
 none
 else
 some ():Option Unit)).bind λ_=>
 (bits_Mul (IntKind.wrap .u64 1) (IntKind.wrap .u64 e)).bind λg=>
 (if g.1>0 then
 some true
 else
 some (decide (g.2>9223372036854775807)):Option Bool).bind λj=>
 ((if j=true then
 none
 else
 some ():Option Unit)).bind λ_=>
 (mk 64 (w64 g.2) (⟨(⟨0,[]⟩:qh),(⟨0,[]⟩:qh)⟩:qb)).bind λf=>
 (some (cpy f ([(⟨(⟨a,b⟩:qh),(⟨c,d⟩:qh)⟩:qb)]:List qb))).bind λh=>
 (vK N h ((Nat.min ([(⟨(⟨a,b⟩:qh),(⟨c,d⟩:qh)⟩:qb)]:List qb).length f.length:Nat):Int)).bind λi=>
 some i
def qbL (N:Nat) (b:Int) (c:List Int) (d:Int) (e:List Int) (p:Int) {A:List qb}(h:vo N b c d e p=some A):qc ZT (.fn 47) [.slice 0 0 1 1 4,.i p] [.cells (ni2 b c d e)] (.slice 1 0 A.length A.length 4) (.cells (ni2 b c d e)::(kB A [])):=by
 unfold vo at h;refine fH Tryz.func47 rfl ?_;intro B hB;obtain⟨F,g2,h⟩:=bnd h;refine sh fol (kBA (kBd p))<|sq<|sh fol (kBA ((1,.i p)::(kBJ (decide (p<0)))))<|gI (λx s'=>(x= .normal/\()=F/\Sub s' (ofG 48 (kBA (kBd p)),[.cells (ni2 b c d e)]))) ?_ ?_
 ·refine ihD g2 (λG g2=>?_) (λG g2=>?_)
  ·cases g2
  cases g2
  exact ag<|⟨rfl,rfl,sK [0,1]⟩
 rintro x s' ⟨rfl,rfl,hsub⟩;obtain⟨v,y,H,n,h⟩:=bn2 h;refine aq hsub<|sq<|gr fol [5] (kBA ((5,.int .u64 v.1)::(kAQ v.2 []))) (qd (cv (qmj (IntKind.wrap .u64 1) (IntKind.wrap .u64 p) y)))<|sq<|sq<|aQ (s':=(ofG 48 (kBA (kAQ v.2 [(26,.bool H)])),[.cells (ni2 b c d e)])) ?_ ?_
 ·rcases wyD n with⟨C,n⟩|⟨C,n⟩
  ·cases n
   exact tr fol [2] (kBA (kAQ v.2 [(26,.bool true)])) (qd (gw C))
  cases n
  exact tr fol [2] (kBA (kAQ v.2 [(26,.bool (decide (v.2>9223372036854775807)))])) (qd (gw C))
 obtain⟨I,g8,h⟩:=bnd h;refine gI (λx s'=>(x= .normal/\()=I/\Sub s' (ofG 48 (kBA (kAQ v.2 [])),[.cells (ni2 b c d e)]))) ?_ ?_
 ·refine ihB g8 (λJ g8=>?_) (λJ g8=>?_)
  ·cases g8
  cases g8
  exact ag<|⟨rfl,rfl,sK [0,6]⟩
 rintro x s' ⟨rfl,rfl,hsub⟩;obtain⟨j,w,u,r,z,g15,h⟩:=bn3 h;refine aq hsub<|sq<|gq fol [2] (kBA (kAZ j [])) (.cells (ni2 b c d e)::(kB j [])) (qd (wmr qa4 qa (⟨(⟨0,[]⟩:qh),(⟨0,[]⟩:qh)⟩:qb) w))<|sq<|gq fol [2] (kAZ j [(8,.i ((Nat.min ([(⟨(⟨b,c⟩:qh),(⟨d,e⟩:qh)⟩:qb)]:List qb).length j.length:Nat):Int))]) (.cells (ni2 b c d e)::(kB u [])) (qd (hs (.run [1,0] (qcR ZT [77,77] (.slice 1 0 j.length j.length 4) (.slice 0 0 1 1 4)) (.cells (ni2 b c d e)::(kB j [])) (.i ((Nat.min ([(⟨(⟨b,c⟩:qh),(⟨d,e⟩:qh)⟩:qb)]:List qb).length j.length:Nat):Int)) (.cells (ni2 b c d e)::(kB u [])) true) (qt6 qa4 (E:=qa) (l:=j) rfl (qtB (E:=qa) (ys:=([(⟨(⟨b,c⟩:qh),(⟨d,e⟩:qh)⟩:qb)]:List qb)) rfl rfl rfl rfl) (.inl rfl) rfl rfl r rfl)))<|gS (kAZ u [(8,.i ((Nat.min ([(⟨(⟨b,c⟩:qh),(⟨d,e⟩:qh)⟩:qb)]:List qb).length j.length:Nat):Int))]) (.cells (ni2 b c d e)::(kB u [])) (sB hB [] [some 0,some 1] (ke (.sliceE rfl (qoZ r)) kz) (.kb rfl (.same sn) (.ks .nil)))<|sq<|aj<|gI (λx s'=>(x= .exit 0/\∃o,o=z/\Sub s' (ofG 48 (kAZ o []),(.cells (ni2 b c d e)::(kB o []))))) ?_ ?_
 ·refine Ua (λM s=>∃(a:List qb) (k:Int),s=(ofG 48 (kAZ a [(8,.i k)]),(.cells (ni2 b c d e)::(kB a [])))/\vK M a k=some z) ?_ (m:=N) ⟨_,_,rfl,g15⟩;rintro M s ⟨a,k,rfl,g15⟩
  cases M with
  |zero=>cases g15
  |succ M=>
   rw[vK]at g15;refine sq<|sh fol (kAZ a [(8,.i k),(37,.bool (decide (k<(zl a))))])<|ihD g15 (λD g15=>?_) (λD g15=>?_)
   ·obtain⟨f,g,q,t,g15⟩:=bn2 g15;exact ag<|aj<|gq fol [3,6,7] (kAZ a [(8,.i (w64 (k+((Nat.min (a.take f).length (a.length-f):Nat):Int))))]) (.cells (ni2 b c d e)::(kB q [])) (qA (hs (.done (.opt (zV ZT 77 (.slice 1 0 a.length a.length 4) (some (.i k)) none none)) (qhk 1 4 a.length f)) (qrW qa4 g)) (hs (.done (.opt (zV ZT 77 (.slice 1 0 a.length a.length 4) none (some (.i k)) none)) (.slice 1 0 f a.length 4)) (quc qa4 g)) (hs (.run [1,1] (qcR ZT [77,77] (qhk 1 4 a.length f) (.slice 1 0 f a.length 4)) (.cells (ni2 b c d e)::(kB a [])) (.i ((Nat.min (a.take f).length (a.length-f):Nat):Int)) (.cells (ni2 b c d e)::(kB q [])) true) (qrh qa4 (E:=qa) rfl (l:=a) (qsl (E:=qa) rfl rfl rfl (qlL g)) (qlL g) rfl rfl t rfl)))<|⟨M,(ofG 48 (kAZ q [(8,.i (w64 (k+((Nat.min (a.take f).length (a.length-f):Nat):Int))))]),(.cells (ni2 b c d e)::(kB q []))),aY _,((show Sub _ (ofG 48 (kAZ q [(8,.i (w64 (k+((Nat.min (a.take f).length (a.length-f):Nat):Int))))]),(.cells (ni2 b c d e)::(kB q [])))from(sB hB [] [some 0,some 1] (ke (.sliceE rfl (qpt (qlL g) t)) kz) (.kb rfl (.same sn) (.ks .nil)))).trans (bm _)),_,_,rfl,g15⟩
   cases g15
   exact aA<|⟨rfl,_,rfl,sK [7]⟩
 rintro x s' ⟨rfl,o,rfl,hsub⟩;obtain rfl:=si h;exact aq hsub<|sh fol [(4,.slice 1 0 o.length o.length 4)]<|ah<|(gh2 [.slice 1 0 o.length o.length 4] (di _ _))
def yG (a:Int):Option (Option (List qb)):=
 ((if a<0 then
 none
 else
 some ():Option Unit)).bind λ_=>
 ((if(w64 (a-(w64 (0-0))))>0 then
 (cut ([]:List qb) 0 0).bind λe=>
 (qoV 64 (w64 (a-(w64 (0-0)))) (⟨(⟨0,[]⟩:qh),(⟨0,[]⟩:qh)⟩:qb)).bind λb=>
 (cut b 0 0).bind λc=>
 some (some c)
 else
 some (none:Option (List qb)):Option (Option (List qb)))).bind λd=>
 some d
def qe7 (a:Int) {j:Option (List qb)}(h:yG a=some j):qc ZT (.fn 103) [.nilslice,.i a] [] (hsl 0 4 j) (kAW j):=by
 unfold yG at h;refine fH Tryz.func103 rfl ?_;intro B hB;obtain⟨k,g2,h⟩:=bnd h;refine sh fol ((0,.nilslice)::(kBd a))<|sq<|sh fol [(0,.nilslice),(1,.i a),(6,.bool (decide (a<0)))]<|gI (λx s'=>(x= .normal/\()=k/\Sub s' (ofG 27 ((0,.nilslice)::(kBd a)),[]))) ?_ ?_
 ·refine ihD g2 (λl g2=>?_) (λl g2=>?_)
  ·cases g2
  cases g2
  exact ag<|⟨rfl,rfl,sK [0,1]⟩
 rintro x s' ⟨rfl,rfl,hsub⟩;obtain⟨m,g5,h⟩:=bnd h;refine aq hsub<|sq<|sh fol ((0,.nilslice)::(kBd (w64 (a-(w64 (0-0))))))<|sh fol [(0,.nilslice),(1,.i (w64 (a-(w64 (0-0))))),(16,.bool (decide ((w64 (a-(w64 (0-0))))>0)))]<|gI (λx s'=>(x= .normal/\∃c,c=m/\Sub s' (ofG 27 [(0,hsl 0 4 c)],(kAW c)))) ?_ ?_
 ·refine ihD g5 (λn g5=>?_) (λn g5=>?_)
  ·obtain⟨o,d,f,e,g,b,rfl⟩:=bs3 g5;exact gq fol [3,5,8] [(0,.oslice 0 g.length 4)] (kB f []) (qA (hs (.done (.opt (zV ZT 77 .nilslice none (some (.i 0)) none)) .nilslice) (quu (α:=qb) qa4 none (some 0) d)) (hs (.run [] (yo ZT [77,3] .nilslice (.i (w64 (a-(w64 (0-0)))))) [] (.oslice 0 f.length 4) (kB f []) false) (qqk qa4 it3 (E:=qa) rfl (z:=(⟨(⟨0,[]⟩:qh),(⟨0,[]⟩:qh)⟩:qb)) (by kernel_rfl) e rfl)) (hs (.done (.opt (zV ZT 77 (.oslice 0 f.length 4) none (some (.i 0)) none)) (.oslice 0 g.length 4)) (sh_os qa4 b)))<|⟨rfl,_,rfl,((show Sub _ (ofG 27 [(0,.oslice 0 g.length 4)],(kB g []))from(sB hB [] [some 0] kz (.kb rfl (yQ.cut b) .nil))).trans (sB hB [] [some 0] (ke (zS.hs1 rfl) kz) (.ks .nil)))⟩
  cases g5
  exact ag<|⟨rfl,_,rfl,(sB hB [] [none] (ke zS.hs0 kz) (.fresh .nil))⟩
 rintro x s' ⟨rfl,c,rfl,hsub⟩;obtain rfl:=si h;exact aq hsub<|sh fol [(4,hsl 0 4 c)]<|ah<|(gh2 [hsl 0 4 c] (di _ _))
def qI (a:List qb) (b:Int) (c:List Int) (d:Int) (e:List Int) (f:List qb):Nat->Int->Int->Option Int
 |0,_,_=>none
 |K+1,g,h=>
  if g<3 then
  (((idx ([a,([(⟨(⟨b,c⟩:qh),(⟨d,e⟩:qh)⟩:qb)]:List qb),f]:List (List qb)) g).bind λi=>
  if(w64 (h+(i.length:Int)))<0 then
  none
  else
  some (w64 (h+(i.length:Int))):Option Int)).bind λj=>
  qI a b c d e f K (w64 (g+1)) j
  else
  some h
def qJ (b:List qb) (c:Int) (d:List Int) (e:Int) (f:List Int) (g:List qb):Nat->(Option (List qb))->Int->Option (Option (List qb))
 |0,_,_=>none
 |K+1,h,a=>
  if a<3 then
  (idx ([b,([(⟨(⟨c,d⟩:qh),(⟨e,f⟩:qh)⟩:qb)]:List qb),g]:List (List qb)) a).bind λi=>
  ((match h with
  |none=>
  (match i with
  |[]=>
  some (none:Option (List qb))
  |m::xs21=>
  none)
  |some j=>
  (app 64 j i).bind λk=>
  some (some k)):Option (Option (List qb))).bind λl=>
  qJ b c d e f g K l (w64 (a+1))
  else
  some h
def vz (N:Nat) (a:List qb) (b:Int) (c:List Int) (d:Int) (e:List Int) (f:List qb):Option (Option (List qb)):=
 (qI a b c d e f N 0 0).bind λi=>
 (yG i).bind λg=>
 (qJ a b c d e f N g 0).bind λh=>
 some h
def qej (N:Nat) (b:List qb) (d:Int) (e:List Int) (f:Int) (g:List Int) (a:List qb) {H:Option (List qb)}(h:vz N b d e f g a=some H):qc ZT (.fn 49) [.slice 0 0 3 3 1] (.cells [.gslice 1 b.length 4,.slice 2 0 1 1 4,.slice 3 0 a.length a.length 4]::(kB b (.cells (ni2 d e f g)::(kB a [])))) (hsl 4 4 H) (kP (.dead::(kAW H))):=by
 unfold vz at h;refine fH Tryz.func49 rfl ?_;intro B hB;obtain⟨K,g5,h⟩:=bnd h;refine sh fol (kBU [])<|sh fol (kBU [(3,.i 0)])<|sq<|sh fol (kBU kCF)<|aj<|gI (λx s'=>(x= .exit 0/\∃G,G=K/\Sub s' (ofG 36 (kBU [(3,.i G)]),(kAS b ([(⟨(⟨d,e⟩:qh),(⟨f,g⟩:qh)⟩:qb)]:List qb) a (kP []))))) ?_ ?_
 ·refine aq (s':=(ofG 36 (kBU kCF),(kAS b ([(⟨(⟨d,e⟩:qh),(⟨f,g⟩:qh)⟩:qb)]:List qb) a (kP [])))) (sB hB [1,2,3] [some 0,some 1,some 2,some 3] kz (.kb rfl (.cells (rc (.frz (Uy (E:=qa) rfl rfl (nl rfl)) (kr qa _)) (rc (.frz (dX rfl rfl (Uf (bn tI (bn (qgk eU _ (nl rfl)) (bn tI (bn (qgk eU _ (nl rfl)) cF)))))) (kr qa _)) (rc (.frz (eL (E:=qa) rfl rfl (nl rfl)) (kr qa _)) rn)))) (.lost (.lost (.lost .nil)))))<|Ua (λM s=>∃(q:Int) (u:Int),s=(ofG 36 (kAJ u q []),(kAS b ([(⟨(⟨d,e⟩:qh),(⟨f,g⟩:qh)⟩:qb)]:List qb) a (kP [])))/\qI b d e f g a M q u=some K) ?_ (m:=N) ⟨_,_,rfl,g5⟩;rintro M s ⟨q,u,rfl,g5⟩
  cases M with
  |zero=>cases g5
  |succ M=>
   rw[qI]at g5;refine sh fol (kAJ u q (kBX (decide (q<3))))<|sq<|ihD g5 (λL g5=>?_) (λL g5=>?_)
   ·obtain⟨O,g8,g5⟩:=bnd g5;refine ag<|sq<|gI (λx s'=>(x= .normal/\∃z,z=O/\Sub s' (ofG 36 (kAJ z q []),(kAS b ([(⟨(⟨d,e⟩:qh),(⟨f,g⟩:qh)⟩:qb)]:List qb) a (kP []))))) ?_ ?_
    ·obtain⟨A,v,g8⟩:=bnd g8;refine aj<|sq<|gr fol [0,1] (kBU [(3,.i u),(5,vl qa A),(9,.slice 0 0 3 3 1),(10,.i 3),(11,.i q)]) (qj (wis qdF 0 v) (hs (.run [0] (qa1 ZT 77 (.ptr 0 ((q:Int).toNat*1+0))) (kAS b ([(⟨(⟨d,e⟩:qh),(⟨f,g⟩:qh)⟩:qb)]:List qb) a (kP [])) (vl qa A) (kAS b ([(⟨(⟨d,e⟩:qh),(⟨f,g⟩:qh)⟩:qb)]:List qb) a (kP [])) false) (ld_p qgQ (E:=(qbo qa)) (l:=([b,([(⟨(⟨d,e⟩:qh),(⟨f,g⟩:qh)⟩:qb)]:List qb),a]:List (List qb))) rfl rfl v (nl rfl) rfl)))<|sh fol (kAJ (w64 (u+(zl A))) q [])<|sh fol (kAJ (w64 (u+(zl A))) q (kBy (decide ((w64 (u+(zl A)))<0))))<|ihD g8 (λI g8=>?_) (λI g8=>?_)
     ·cases g8
     cases g8
     exact ag<|⟨rfl,_,rfl,sK [0,3,9,10,11]⟩
    rintro x s' ⟨rfl,z,rfl,hsub⟩;exact aq hsub<|gh fol (kAJ z (w64 (q+1)) [])<|⟨M,(ofG 36 (kAJ z (w64 (q+1)) []),(kAS b ([(⟨(⟨d,e⟩:qh),(⟨f,g⟩:qh)⟩:qb)]:List qb) a (kP []))),aY _,(sK [0,3,9,10,11]),_,_,rfl,g5⟩
   cases g5
   exact aA<|⟨rfl,_,rfl,sK [0,3]⟩
 rintro x s' ⟨rfl,G,rfl,hsub⟩;obtain⟨k,w,C,g16,h⟩:=bn2 h;refine aq hsub<|sq<|gq fol [1] (kBU [(6,hsl 4 4 k)]) (kAS b ([(⟨(⟨d,e⟩:qh),(⟨f,g⟩:qh)⟩:qb)]:List qb) a (kP (kAW k))) (qd (wch [] (hsl 4 4 k) (kAS b ([(⟨(⟨d,e⟩:qh),(⟨f,g⟩:qh)⟩:qb)]:List qb) a (kP (kAW k))) [] [none,none,none,none,some 0] (qe7 G w) .nil (.old rfl rfl (.old rfl rfl (.old rfl rfl (.old rfl rfl (.new rfl rfl (.same fa) rfl .nil))))) (rc (.same (qN.nilslice)) (rc (.same nI) rn)) (.hs rfl)))<|sq<|sh fol [(6,hsl 4 4 k),(25,.slice 0 0 3 3 1),(26,.i 3),(27,.i 0)]<|aj<|gI (λx s'=>(x= .exit 2/\∃p,p=C/\Sub s' (ofG 36 [(6,hsl 4 4 p)],(kP (.dead::(kAW p)))))) ?_ ?_
 ·refine aq (s':=(ofG 36 [(6,hsl 4 4 k),(25,vl (qbo qa) ([b,([(⟨(⟨d,e⟩:qh),(⟨f,g⟩:qh)⟩:qb)]:List qb),a]:List (List qb))),(26,.i 3),(27,.i 0)],(kP (.dead::(kAW k))))) (sB hB [0] [some 0,some 1,some 2,some 3,some 4] (ke (zS.hs rfl) (ke (.frz (dX rfl rfl (Uf (bn (yI qa _ (nl rfl)) (bn (yI qa _ (nl rfl)) (bn (yI qa _ (nl rfl)) cF))))) (kr (qbo qa) _)) kz)) (.lost (.lost (.lost (.lost (.ks .nil))))))<|Ua (λM s=>∃(n:Option (List qb)) (j:Int),s=(ofG 36 ((6,hsl 4 4 n)::(25,vl (qbo qa) ([b,([(⟨(⟨d,e⟩:qh),(⟨f,g⟩:qh)⟩:qb)]:List qb),a]:List (List qb)))::(kBZ j)),(kP (.dead::(kAW n))))/\qJ b d e f g a M n j=some C) ?_ (m:=N) ⟨_,_,rfl,g16⟩;rintro M s ⟨n,j,rfl,g16⟩
  cases M with
  |zero=>cases g16
  |succ M=>
   rw[qJ]at g16;refine sh fol [(6,hsl 4 4 n),(25,vl (qbo qa) ([b,([(⟨(⟨d,e⟩:qh),(⟨f,g⟩:qh)⟩:qb)]:List qb),a]:List (List qb))),(26,.i 3),(27,.i j),(28,.bool (decide (j<3)))]<|sq<|ihD g16 (λJ g16=>?_) (λJ g16=>?_)
   ·obtain⟨D,r,t,o,g16⟩:=bn2 g16;refine ag<|sq<|aj<|sq<|gr fol [0,1] ((6,hsl 4 4 n)::(8,vl qa D)::(25,vl (qbo qa) ([b,([(⟨(⟨d,e⟩:qh),(⟨f,g⟩:qh)⟩:qb)]:List qb),a]:List (List qb)))::(kBZ j)) (qj (iv qdF (qbo qa) r) (lv 0 qgQ (qbo qa) r rfl))<|Goes.cutS (s':=(ofG 36 ((6,hsl 4 4 t)::(25,vl (qbo qa) ([b,([(⟨(⟨d,e⟩:qh),(⟨f,g⟩:qh)⟩:qb)]:List qb),a]:List (List qb)))::(kBZ j)),(kP (.dead::(kAW t))))) ?_ ?_
    ·rcases n with _|P
     ·rcases D with _|⟨Q,xs21⟩
      ·cases o
       exact fB (fe fol [2] ((6,.nilslice)::(25,vl (qbo qa) ([b,([(⟨(⟨d,e⟩:qh),(⟨f,g⟩:qh)⟩:qb)]:List qb),a]:List (List qb)))::(kBZ j)) (kP [.dead,.cells ((hof (none:Option (List qb))).flatMap qa.c)]) (qd (hs (.run [] (yo ZT [77,77] .nilslice (vl qa ([]:List qb))) (kP [.dead,.cells ((hof (none:Option (List qb))).flatMap qa.c)]) .nilslice (kP [.dead,.cells ((hof (none:Option (List qb))).flatMap qa.c)]) false) (qsg qa4)))) (sB hB [] [some 0,some 1,some 2,some 3,none] (ke zS.hs0 kz) (.lost (.lost (.lost (.lost (.fresh .nil))))))
      cases o
     obtain⟨F,y,rfl⟩:=bs1 o;exact fB (fe fol [2] ((6,.oslice 5 F.length 4)::(25,vl (qbo qa) ([b,([(⟨(⟨d,e⟩:qh),(⟨f,g⟩:qh)⟩:qb)]:List qb),a]:List (List qb)))::(kBZ j)) (kP (kBL (kB F []))) (qd (wap [4] qa4 (wdo 4 rfl y) wsv))) (sB hB [] [some 0,some 1,some 2,some 3,some 5] (ke (zS.hs1 rfl) kz) (.lost (.lost (.lost (.lost (.ks .nil))))))
    intro _ hsub;exact aq hsub<|gh fol ((6,hsl 4 4 t)::(25,vl (qbo qa) ([b,([(⟨(⟨d,e⟩:qh),(⟨f,g⟩:qh)⟩:qb)]:List qb),a]:List (List qb)))::(kBZ (w64 (j+1))))<|⟨M,(ofG 36 ((6,hsl 4 4 t)::(25,vl (qbo qa) ([b,([(⟨(⟨d,e⟩:qh),(⟨f,g⟩:qh)⟩:qb)]:List qb),a]:List (List qb)))::(kBZ (w64 (j+1)))),(kP (.dead::(kAW t)))),aY _,(sK [6,25,26,27]),_,_,rfl,g16⟩
   cases g16
   exact aA<|⟨rfl,_,rfl,sK [6]⟩
 rintro x s' ⟨rfl,p,rfl,hsub⟩;obtain rfl:=si h;exact aq hsub<|sh fol [(2,hsl 4 4 p)]<|ah<|(gh2 [hsl 4 4 p] (sK [0]))
def yR (N:Nat) (m:List (List Str)) (b:List Str):Nat->(List (List qb))->Int->Option (List (List qb))
 |0,_,_=>none
 |K+1,o,d=>
  if d<(m.length:Int)then
  (idx m d).bind λp=>
  (qhp 0).bind λa=>
  (vo N a.Num.s a.Num.w a.Den.s a.Den.w (m.length:Int)).bind λe=>
  (qhp 1).bind λg=>
  (idx e d).bind λq=>
  (put e d g).bind λh=>
  ((jV N p).bind λi=>
  (idx b d).bind λj=>
  (qcm N j).bind λc=>
  (vz N i c.Num.s c.Num.w c.Den.s c.Den.w h).bind λk=>
  (match k with
  |none=>
  none
  |some f=>
  (app 24 o [f]).bind λl=>
  ((if 0<f.length then some ()else none:Option Unit)).bind λr=>
  some l):Option (List (List qb))).bind λn=>
  yR N m b K n (w64 (d+1))
  else
  some o
def jE (N:Nat) (f:List Str) (a:List (List qb)) (b:Nat):Nat->Int->Option (Unit⊕((List Str)×Int))
 |0,_=>none
 |K+1,c=>
  if c<((a.drop b).length:Int)then
  (idx (a.drop b) c).bind λd=>
  (idx d (f.length:Int)).bind λg=>
  (jM g).bind λh=>
  if(!decide (h=0))=true then
  (cut d (w64 ((f.length:Int)+1)) (d.length:Int)).bind λi=>
  (qbv N i).bind λe=>
  some (.inr (e.1,e.2))
  else
  jE N f a b K (w64 (c+1))
  else
  some (.inl ())
def zM (N:Nat) (m:List (List Str)) (b:List Str):Option ((List Str)×Int):=
 (qD N m b).bind λf=>
 if(!decide (f=0))=true then
 some ([],f)
 else
 (idx m 0).bind λg=>
 (yR N m b N ([]:List (List qb)) 0).bind λh=>
 (zq N h (g.length:Int)).bind λ(a,c)=>
 ((if h.length=a.length then some ()else none:Option Unit)).bind λi=>
 (at' a (c.length:Int)).bind λd=>
 (jE N g a d N 0).bind (λ
 |(.inl ())=>
 some ([],7)
 |(.inr e)=>
 some e)
def qhW (N:Nat) (m:List (List Str)) (b:List Str) {res:(List Str)×Int}(h:zM N m b=some res):qc ZT (.fn 11) [vl eSS m,vl encS b] [] (.tuple [vl encS res.1,.i res.2]) []:=by
 unfold zM at h;obtain⟨r1,e_r1,h⟩:=bnd h;refine fW Tryz.func11 rfl<|sh fol ((0,vl eSS m)::(kW b []))<|sq<|sq<|gr fol [2] ((0,vl eSS m)::(kW b (kBK r1))) (qd (cv (xV N m b e_r1)))<|sh fol ((0,vl eSS m)::(kW b [(6,.i r1),(18,.bool (!decide (r1=0)))]))<|ihB h (λc2 h=>?_) (λc2 h=>?_)
 ·cases h
  exact sh fol (kBY (kAy r1))<|ah<|(gw2 [.nilslice,.i r1] (cj (ba (dw (E:=encS)) (ba (Ub tI) ci))))
 obtain⟨f,I,r7,g7,h⟩:=bn2 h;refine ag<|sq<|gr fol [1,2] ((0,vl eSS m)::(kW b (kBT (zl f)))) (qj (iv yf eSS I) (lv 0 xW eSS I rfl))<|sh fol ((0,vl eSS m)::(kW b [(7,.i (zl f)),(8,.nilslice)]))<|sq<|sh fol ((0,vl eSS m)::(kW b [(7,.i (zl f)),(8,.nilslice),(24,vl eSS m),(25,.i (zl m)),(26,.i 0)]))<|aj<|gI (λx s'=>(x= .exit 0/\∃l6,l6=r7/\Sub s' (ofG 80 (kAF (zl f) l6 []),[bg qa l6]))) ?_ ?_
 ·refine aq (s':=(ofG 80 ((0,vl eSS m)::(kW b [(7,.i (zl f)),(8,.gslice 0 ([]:List (List qb)).length 1),(24,vl eSS m),(25,.i (zl m)),(26,.i 0)])),[bg qa ([]:List (List qb))])) (sN [] [none] (kk (kk (kk (ke .nil kz)))) (.fresh .nil))<|Ua (λM s=>∃(j:List (List qb)) (r:Int),s=(ofG 80 ((0,vl eSS m)::(kW b (kAF (zl f) j ((24,vl eSS m)::(kAd (zl m) r))))),[bg qa j])/\yR N m b M j r=some r7) ?_ (m:=N) ⟨_,_,rfl,g7⟩;rintro M s ⟨j,r,rfl,g7⟩
  cases M with
  |zero=>cases g7
  |succ M=>
   rw[yR]at g7;refine sh fol ((0,vl eSS m)::(kW b (kAF (zl f) j [(24,vl eSS m),(25,.i (zl m)),(26,.i r),(27,.bool (decide (r<(zl m))))])))<|sq<|ihD g7 (λc8 g7=>?_) (λc8 g7=>?_)
   ·obtain⟨x9,J,k,K,n,L,r13,O,x14,y,p,z,P,q,g7⟩:=bn7 g7;refine ag<|sq<|aj<|sq<|gr fol [1,2] ((0,vl eSS m)::(kW b (kAF (zl f) j (kBf r x9 ((24,vl eSS m)::(kAd (zl m) r)))))) (qj (iv yf eSS J) (lv 0 xW eSS J rfl))<|sq<|gq fol [0,4] ((0,vl eSS m)::(kW b (kAF (zl f) j (kBf r x9 ((11,.slice 2 0 n.length n.length 4)::(24,vl eSS m)::(kAd (zl m) r)))))) (bg qa j:: .cells (nq1 k)::(kB n [])) (qj (cv (qjT 0 K)) (hx [bg qa j,.cells (nq1 k)] (wch [1] (.slice 2 0 n.length n.length 4) (bg qa j:: .cells (nq1 k)::(kB n [])) [some 1] [none,some 0,some 1] (qbL N k.Num.s k.Num.w k.Den.s k.Den.w (zl m) L) (.kb rfl (.cells (rc (.same nI) (rc (.same (xI eU _)) (rc (.same nI) (rc (.same (xI eU _)) rn))))) .nil) (.old rfl rfl (.back rfl rfl (.cells (rc (.same nI) (rc (.same (xI eU _)) (rc (.same nI) (rc (.same (xI eU _)) rn))))) rfl (.new rfl rfl (.same fa) rfl .nil))) (rc (.slice rfl) (rc (.same nI) rn)) (.slice rfl))))<|sq<|gq fol [2,3,4] ((0,vl eSS m)::(kW b (kAF (zl f) j (kBf r x9 ((11,.slice 2 0 n.length n.length 4)::(24,vl eSS m)::(kAd (zl m) r)))))) (bg qa j:: .cells (nq1 k)::(kB p [])) (qA (cv (qjT 1 O)) (wis qa4 2 y) (hx (bg qa j:: .cells (nq1 k)::(kB n [])) (wsa 83 2 rfl y z rfl)))<|gN [] [some 0,some 2] ((0,vl eSS m)::(kW b (kAF (zl f) j (kBf r x9 ((11,.slice 1 0 p.length p.length 4)::(24,vl eSS m)::(kAd (zl m) r)))))) (bg qa j::(kB p [])) (kk (kk (kk (kk (kk (kk (ke (.sliceE rfl (zD z)) kz))))))) (kbg (.ks .nil))<|Goes.cutS (s':=(ofG 80 ((0,vl eSS m)::(kW b (kAF (zl f) P ((24,vl eSS m)::(kAd (zl m) r))))),[bg qa P])) ?_ ?_
    ·obtain⟨A,Q,x18,B,C,U,o21,V,q⟩:=bn4 q;rcases o21 with _|g
     ·cases q
     obtain⟨H,D,u24,X,rfl⟩:=bs2 q;exact fB (fe fol [2,5,6,7,11,13] ((0,vl eSS m)::(kW b ((7,.i (zl f))::(8,.gslice 7 H.length 1)::(24,vl eSS m)::(kAd (zl m) r)))) (kP (kBL (kB g (kB9 g [.bag (j.map (zY qa)++[.av (.oslice 5 g.length 4)])])))) (qdO (wch [] (gF 2 A) (bg qa j::(kB p (kB A []))) [] [none,none,some 0] (qbp N x9 Q) .nil (.old rfl rfl (.old rfl rfl (.new rfl rfl (.same fa) rfl .nil))) (rc (.same (kr encS _)) rn) (.gslice rfl)) (iv qa6 encS B) (lv 0 qc8 encS B rfl) (cv (qcY N x18 U)) (hx (bg qa j::(kB p (kB A [.cells (nq1 C),.cells [gF 2 A,.slice 3 0 1 1 4,.slice 1 0 p.length p.length 4]]))) (wch [4,2,3,1] (hsl 5 4 (some g)) (bg qa j::(kP (.dead::(kAW (some g))))) [some 4,some 2,some 3,some 1] [none,none,none,none,none,some 4] (qej N A C.Num.s C.Num.w C.Den.s C.Den.w p V) (.kb rfl (.cells (rc (.gslice rfl) (rc (.slice rfl) (rc (.slice rfl) rn)))) (.ks (.kb rfl (.cells (rc (.same nI) (rc (.same (xI eU _)) (rc (.same nI) (rc (.same (xI eU _)) rn))))) (.ks .nil)))) (.old rfl rfl (.dead (.dead (.dead (.dead (.new rfl rfl (.same fa) rfl .nil)))))) (rc (.slice rfl) rn) (.hs rfl))) (hs (.run [0,6] (yo ZT [76,76] (.gslice 0 j.length 1) (.slice 6 0 1 1 1)) (bg qa j::(kP (.dead::(kB g (kB9 g []))))) (.gslice 7 H.length 1) (kP (kBL (kB g (kB9 g [.bag (j.map (zY qa)++[.av (.oslice 5 g.length 4)])])))) true) (qij qdF (E:=qa) (l:=j) (x:=g) rfl rfl rfl rfl rfl D rfl)))) ((show Sub _ (ofG 80 ((0,vl eSS m)::(kW b ((7,.i (zl f))::(8,.gslice 7 H.length 1)::(24,vl eSS m)::(kAd (zl m) r)))),(kP (kP (kB9 g [bg qa H]))))from(Ut (E:=qa) (b:=7) (c:=5) (aF rfl) rfl rfl D (.o (qn9 X)) rfl)).trans (sN [] [some 7] kz (kbg .nil)))
    intro _ hsub;exact aq hsub<|gh fol ((0,vl eSS m)::(kW b (kAF (zl f) P ((24,vl eSS m)::(kAd (zl m) (w64 (r+1)))))))<|qY ⟨_,_,rfl,g7⟩
   cases g7
   exact aA<|⟨rfl,_,rfl,sK [7,8]⟩
 rintro x s' ⟨rfl,l6,rfl,hsub⟩;refine aq hsub<|sq ?_;obtain⟨⟨a,u⟩,Y,h⟩:=bnd h;obtain⟨u30,Z,d,v,h⟩:=bn2 h;refine sq (gq (h:=by rcases qsY 0 a.length d 1 with e|e|e<;>rw[e]<;>kernel_rfl) fol [3,5,6] ((7,.i (zl f))::(60,qce 0 a.length d 1)::(kBa ((a.drop d).length:Int))) (bg qa a::(kA u [])) (qA (wch [0] (.gslice 1 u.length 1) (bg qa a::(kA u [])) [some 0] [some 0,some 1] (qaZ N l6 (zl f) Y) (.kb rfl eM .nil) (.back rfl rfl eM rfl (.new rfl rfl (.same fa) rfl .nil)) (rc (.gslice rfl) (rc (.same nI) rn)) (.gslice rfl)) (hs (.done (.opt (zV ZT 76 (.gslice 0 l6.length 1) (some (.i (zl u))) none none)) (qce 0 a.length d 1)) (qpD (qli Z) qdF v)) (hs (.run (refsOf (qce 0 a.length d 1)) (vP ZT .len [76] [qce 0 a.length d 1]) (bg qa a::(kA u [])) (.i ((a.drop d).length:Int)) (bg qa a::(kA u [])) false) (qtP qdF (qlL v)))) ?_);obtain⟨a0,g33,h⟩:=bnd h;refine aq ((show Sub _ (ofG 80 ((7,.i (zl f))::(60,qce 0 a.length d 1)::(kBa ((a.drop d).length:Int))),(.frozen (a.flatMap (qbo qa).c)::(kA u [])))from(Ur (E:=qa) (b:=0) rfl)).trans (show Sub _ (ofG 80 ((7,.i (zl f))::(60,vl (qbo qa) (a.drop d))::(kBa ((a.drop d).length:Int))),[])from(sN [0] [] (kk (ke (.frz (Fz.fxF (E:=(qbo qa)) (l:=a) rfl rfl (qlL v) (nl rfl)) (kr (qbo qa) _)) kz)) .nil)))<|aj<|gI (λx s'=>(x= .exit 2/\(.inl ())=a0/\Sub s' (ofG 80 [],[]))\/(x= .ret/\∃a1,(.inr a1)=a0/\qQ ZT [.tmp 4,.tmp 5] (.tuple [vl encS a1.1,.i a1.2]) .ret s')) ?_ ?_
 ·refine Ua (λM s=>∃(t:Int),s=(ofG 80 [(7,.i (zl f)),(60,vl (qbo qa) (a.drop d)),(61,.i ((a.drop d).length:Int)),(62,.i t)],[])/\jE N f a d M t=some a0) ?_ (m:=N) ⟨_,rfl,g33⟩;rintro M s ⟨t,rfl,g33⟩
  cases M with
  |zero=>cases g33
  |succ M=>
   rw[jE]at g33;refine sh fol [(7,.i (zl f)),(60,vl (qbo qa) (a.drop d)),(61,.i ((a.drop d).length:Int)),(62,.i t),(63,.bool (decide (t<((a.drop d).length:Int))))]<|sq<|ihD g33 (λc35 g33=>?_) (λc35 g33=>?_)
   ·obtain⟨x36,F,x37,G,r38,a2,g33⟩:=bn3 g33;refine ag<|sq<|aj<|sq<|gr fol [0,1] [(7,.i (zl f)),(13,vl qa x36),(60,vl (qbo qa) (a.drop d)),(61,.i ((a.drop d).length:Int)),(62,.i t)] (qj (iv qdF (qbo qa) F) (lv 0 qgQ (qbo qa) F rfl))<|sq<|gr fol [2,3,4] [(7,.i (zl f)),(13,vl qa x36),(60,vl (qbo qa) (a.drop d)),(61,.i ((a.drop d).length:Int)),(62,.i t),(71,.bool (!decide (r38=0)))] (qA (iv qa4 qa G) (la qgo qa G) (cv (yP x37 a2)))<|ihB g33 (λc39 g33=>?_) (λc39 g33=>?_)
    ·obtain⟨s40,a3,r41,a4,rfl⟩:=bs2 g33;exact sq<|gr fol [3,4] ((4,vl encS r41.1)::(kAy r41.2)) (qj (wvs qa4 qa (some (w64 ((zl f)+1))) none a3) (cv (qfc N s40 a4)))<|ah<|Or.inr (⟨rfl,_,rfl,gwt⟩)
    exact ag<|gh fol [(7,.i (zl f)),(60,vl (qbo qa) (a.drop d)),(61,.i ((a.drop d).length:Int)),(62,.i (w64 (t+1)))]<|qY ⟨_,rfl,g33⟩
   cases g33
   exact aA<|Or.inl (⟨rfl,rfl,sK []⟩)
 rintro x s' (⟨rfl,rfl,hsub⟩|⟨rfl,q42,rfl,hret⟩)
 ·cases h
  exact aq hsub<|sh fol (kBY [(5,.i 7)])<|ah<|(gw2 [.nilslice,.i 7] (cj (ba (dw (E:=encS)) (ba (Ub tI) ci))))
 cases h
 exact hret
def vw (a:qb):Option Bool:=
 (jM a).bind λb=>
 some (!decide (b=0))
def qeg (a:qb) {res:Bool}(h:vw a=some res):qc ZT (.fn 56) [.agg (nq1 a)] [] (.bool res) []:=by
 unfold vw at h;obtain⟨c,b,rfl⟩:=bs1 h;exact fW Tryz.func56 rfl<|sg fol (kAo []) [.cells (nq1 a)]<|sq<|gr fol [1] (kCD (!decide (c=0))) (qd (cv (yP a b)))<|ah<|gw1
def qF (a:List qb):Nat->Int->Option (Unit⊕Int)
 |0,_=>none
 |K+1,b=>
  if b<(a.length:Int)then
  (idx a b).bind λc=>
  (vw c).bind λd=>
  if d=true then
  some (.inr b)
  else
  qF a K (w64 (b+1))
  else
  some (.inl ())
def ji (N:Nat) (a:List qb):Option Int:=
 (qF a N 0).bind (λ
 |(.inl ())=>
 some (-1)
 |(.inr b)=>
 some b)
def qdm (N:Nat) (a:List qb) {res:Int}(h:ji N a=some res):qc ZT (.fn 106) [vl qa a,.func (.func 56) [] []] [] (.i res) []:=by
 unfold ji at h;obtain⟨e,g2,h⟩:=bnd h;refine fW Tryz.func106 rfl<|sh fol (kAe a [(1,.func (.func 56) [] [])])<|sq<|sh fol (kAe a ((1,.func (.func 56) [] [])::(kBi (zl a))))<|aj<|gI (λx s'=>(x= .exit 0/\(.inl ())=e/\Sub s' (ofG 19 [],[]))\/(x= .ret/\∃f,(.inr f)=e/\qQ ZT [.tmp 4] (.i f) .ret s')) ?_ ?_
 ·refine Ua (λM s=>∃(b:Int),s=(ofG 19 (kAe a ((1,.func (.func 56) [] [])::(kAB (zl a) b))),[])/\qF a M b=some e) ?_ (m:=N) ⟨_,rfl,g2⟩;rintro M s ⟨b,rfl,g2⟩
  cases M with
  |zero=>cases g2
  |succ M=>
   rw[qF]at g2;refine sh fol (kAe a ((1,.func (.func 56) [] [])::(kB2 (zl a) b (kBm (decide (b<(zl a)))))))<|sq<|ihD g2 (λg g2=>?_) (λg g2=>?_)
   ·obtain⟨j,c,k,d,g2⟩:=bn2 g2;refine ag<|sq<|aj<|sh fol (kAe a ((1,.func (.func 56) [] [])::(5,.i b)::(kAB (zl a) b)))<|sq<|gr fol [3,4,5] (kAe a ((1,.func (.func 56) [] [])::(5,.i b)::(kB2 (zl a) b [(16,.bool k)]))) (qA (iv qa4 qa c) (la qgo qa c) (cv (qeg j d)))<|ihB g2 (λl g2=>?_) (λl g2=>?_)
    ·cases g2
     exact sh fol (kBe b)<|ah<|Or.inr (⟨rfl,_,rfl,gw1⟩)
    exact ag<|gh fol (kAe a ((1,.func (.func 56) [] [])::(kAB (zl a) (w64 (b+1)))))<|qY ⟨_,rfl,g2⟩
   cases g2
   exact aA<|Or.inl (⟨rfl,rfl,sK []⟩)
 rintro x s' (⟨rfl,rfl,hsub⟩|⟨rfl,n,rfl,hret⟩)
 ·cases h
  exact aq hsub<|sh fol kB1<|ah<|gw1
 cases h
 exact hret
def zz (N:Nat) (a:List qb):Option Bool:=
 (ji N a).bind λb=>
 some (decide (b>=0))
def qcL (N:Nat) (a:List qb) {res:Bool}(h:zz N a=some res):qc ZT (.fn 55) [vl qa a,.func (.func 56) [] []] [] (.bool res) []:=by
 unfold zz at h;obtain⟨c,b,rfl⟩:=bs1 h;exact fW Tryz.func55 rfl<|sh fol (kAe a [(1,.func (.func 56) [] [])])<|sq<|gr fol [2] (kBO (decide (c>=0))) (qd (hs (.call 106 [vl qa a,.func (.func 56) [] []] [] [] [vl qa a,.func (.func 56) [] []] (.i c)) (qk6 (bi (Ul (yI qa _ (nl rfl))) (bi (Fz.func bB bB) bB)) (qdm N a b) tI)))<|ah<|gw1
def je (N:Nat) (d:qb) (b:List qb):Nat->(List qb)->Int->Option (List qb)
 |0,_,_=>none
 |K+1,c,a=>
  if a<(b.length:Int)then
  (idx b a).bind λe=>
  (idx c a).bind λf=>
  (qaz N d e).bind λg=>
  (qbu N f g).bind λh=>
  (put c a h).bind λi=>
  je N d b K i (w64 (a+1))
  else
  some c
def jf (N:Nat) (m:List (List Str)) (b y:List Str):Nat->(List qb)->Int->Option (List qb)
 |0,_,_=>none
 |K+1,c,a=>
  if a<(m.length:Int)then
  (idx m a).bind λd=>
  (idx y a).bind λe=>
  (qcm N e).bind λf=>
  (jV N d).bind λg=>
  (idx b a).bind λh=>
  (qcm N h).bind λi=>
  (app 64 g [i]).bind λj=>
  (je N f j N c 0).bind λk=>
  jf N m b y K k (w64 (a+1))
  else
  some c
def qH (N:Nat) (m:List (List Str)) (b y:List Str):Option Int:=
 (qD N m b).bind λl=>
 (qC (!decide ((y.length:Int)=(m.length:Int))) 2).bind λn=>
 (zL N y).bind λo=>
 (zf N ([l,n,o]:List Int)).bind λk=>
 if(!decide (k=0))=true then
 some k
 else
 (qhp 0).bind λc=>
 (idx m 0).bind λp=>
 (vo N c.Num.s c.Num.w c.Den.s c.Den.w (w64 ((p.length:Int)+1))).bind λq=>
 (jf N m b y N q 0).bind λa=>
 (cut a 0 (w64 ((a.length:Int)-1))).bind λd=>
 (zz N d).bind λe=>
 (if e=true then
 (qC true 21).bind λf=>
 some f
 else
 (idx a (w64 ((a.length:Int)-1))).bind λg=>
 (jM g).bind λh=>
 (qC (decide (h=0)) 21).bind λi=>
 some i:Option Int).bind λj=>
 some j
def qfm (N:Nat) (m:List (List Str)) (b y:List Str) {res:Int}(h:qH N m b y=some res):qc ZT (.fn 12) [vl eSS m,vl encS b,vl encS y] [] (.i res) []:=by
 unfold qH at h;obtain⟨r1,e_r1,r2,e_r2,r3,e_r3,r4,e_r4,h⟩:=bn4 h;refine fW Tryz.func12 rfl<|sh fol ((0,vl eSS m)::(kN b y []))<|sq<|sq<|gq fol [2,8,10,12] ((0,vl eSS m)::(kN b y (kBT r4))) [.cells [.i r1,.i r2,.i r3]] (zO (cv (xV N m b e_r1)) (cv (jg (!decide ((zl y)=(zl m))) 2 e_r2)) (cv (qbU N y e_r3)) (hx [.cells [.i r1,.i r2,.i r3]] (wcs [.slice 0 0 3 3 1] [0] (bi (dX rfl rfl (Uf (bn tI (bn tI (bn tI cF))))) bB) (qaK N ([r1,r2,r3]:List Int) e_r4))))<|sh fol ((0,vl eSS m)::(kN b y [(7,.i r4),(30,.bool (!decide (r4=0)))]))<|ihB h (λc5 h=>?_) (λc5 h=>?_)
 ·obtain rfl:=si h;exact sh fol (kBK r4)<|ah<|gw1
 obtain⟨C,e_r6,x7,B,v,e_r8,r13,g13,h⟩:=bn4 h;refine ag<|sq<|gq fol [0,3,4,7] ((0,vl eSS m)::(kN b y [(8,.slice 2 0 v.length v.length 4)])) (.cells [.i r1,.i r2,.i r3]:: .cells (nq1 C)::(kB v [])) (zO (cv (qjT 0 e_r6)) (iv yf eSS B) (lv 0 xW eSS B rfl) (hx [.cells [.i r1,.i r2,.i r3],.cells (nq1 C)] (wch [1] (.slice 2 0 v.length v.length 4) (.cells [.i r1,.i r2,.i r3]:: .cells (nq1 C)::(kB v [])) [some 1] [none,some 0,some 1] (qbL N C.Num.s C.Num.w C.Den.s C.Den.w (w64 ((zl x7)+1)) e_r8) (.kb rfl (.cells (rc (.same nI) (rc (.same (xI eU _)) (rc (.same nI) (rc (.same (xI eU _)) rn))))) .nil) (.old rfl rfl (.back rfl rfl (.cells (rc (.same nI) (rc (.same (xI eU _)) (rc (.same nI) (rc (.same (xI eU _)) rn))))) rfl (.new rfl rfl (.same fa) rfl .nil))) (rc (.slice rfl) (rc (.same nI) rn)) (.slice rfl))))<|sq<|sh fol (kN b y [(8,.slice 2 0 v.length v.length 4),(40,vl eSS m),(41,.i (zl m)),(42,.i 0)])<|aj<|gI (λx s'=>(x= .exit 0/\∃f,f=r13/\Sub s' (ofG 97 (kZ f []),(kB f [])))) ?_ ?_
 ·refine aq (s':=(ofG 97 (kN b y (kZ v [(40,vl eSS m),(41,.i (zl m)),(42,.i 0)])),(kB v []))) (sN [] [some 2] kz (.ks .nil))<|Ua (λM s=>∃(d:List qb) (c:Int),s=(ofG 97 (kN b y (kZ d ((40,vl eSS m)::(kCH (zl m) c [])))),(kB d []))/\jf N m b y M d c=some r13) ?_ (m:=N) ⟨_,_,rfl,g13⟩;rintro M s ⟨d,c,rfl,g13⟩
  cases M with
  |zero=>cases g13
  |succ M=>
   rw[jf]at g13;refine sh fol (kN b y (kZ d ((40,vl eSS m)::(kCH (zl m) c [(43,.bool (decide (c<(zl m))))]))))<|sq<|ihD g13 (λc14 g13=>?_) (λc14 g13=>?_)
   ·obtain⟨D,n,x16,o,e,F,G,H,x20,p,I,J,a,K,r26,g26,g13⟩:=bn8 g13;refine ag<|sq<|aj<|sq<|gr fol [1,2] (kN b y (kZ d (kBf c D ((40,vl eSS m)::(kCH (zl m) c []))))) (qj (iv yf eSS n) (lv 0 xW eSS n rfl))<|sq<|gq fol [2,3,4,6] (kN b y (kZ d (kBf c D (kBt ((40,vl eSS m)::(kCH (zl m) c [])))))) (kB d [.cells (nq1 e)]) (zO (iv qa6 encS o) (lv 0 qc8 encS o rfl) (cv (qcY N x16 F)) (hx (kB d (kM [])) (wsq 83 1 e rfl rfl)))<|sq<|gq fol [1,4,5,6,8] (kN b y (kZ d (kBt ((40,vl eSS m)::(kCH (zl m) c ((60,gF 4 a)::(kBa (zl a)))))))) (kB d (.cells (nq1 e):: .dead:: .cells (nq1 I)::(kB a []))) (qbE (hx (kB d [.cells (nq1 e)]) (wch [] (gF 2 G) (kB d (.cells (nq1 e)::(kB G []))) [] [none,none,some 0] (qbp N D H) .nil (.old rfl rfl (.old rfl rfl (.new rfl rfl (.same fa) rfl .nil))) (rc (.same (kr encS _)) rn) (.gslice rfl))) (iv qa6 encS p) (lv 0 qc8 encS p rfl) (cv (qcY N x20 J)) (hx (kB d (.cells (nq1 e)::(kB G [.cells (nq1 I)]))) (wap [2,3] qa4 (wdg 2 rfl K) (wsc 3 [I] rfl))))<|aj<|gI (λx s'=>(x= .exit 2/\∃q,q=r26/\Sub s' (ofG 97 (kN b y (kZ q ((40,vl eSS m)::(kCH (zl m) c [])))),(kB q [])))) ?_ ?_
    ·refine aq (s':=(ofG 97 (kN b y (kZ d (kBt ((40,vl eSS m)::(kCH (zl m) c ((60,gF 2 a)::(kBa (zl a)))))))),(kB d (.cells (nq1 e)::(kB a []))))) (sN [] [some 0,some 1,some 4] kz (.ks (.kb rfl (.same sn) (.ks .nil))))<|Ua (λM s=>∃(k:List qb) (j:Int),s=(ofG 97 (kN b y (kZ k (kBt ((40,vl eSS m)::(kAR (zl m) c a (zl a) j []))))),(kB k (.cells (nq1 e)::(kB a []))))/\je N e a M k j=some r26) ?_ (m:=N) ⟨_,_,rfl,g26⟩;rintro M s ⟨k,j,rfl,g26⟩
     cases M with
     |zero=>cases g26
     |succ M=>
      rw[je]at g26;refine sh fol (kN b y (kZ k (kBt ((40,vl eSS m)::(kAR (zl m) c a (zl a) j [(63,.bool (decide (j<(zl a))))])))))<|sq<|ihD g26 (λc27 g26=>?_) (λc27 g26=>?_)
      ·obtain⟨z,r,x29,l,r30,L,r31,O,A,t,g26⟩:=bn5 g26;exact ag<|sq<|aj<|sq<|gq fol [1,2,5] (kN b y (kZ k (kBt ((12,.i j)::(13,.ptr 3 0)::(40,vl eSS m)::(kAR (zl m) c a (zl a) j []))))) (kB k (.cells (nq1 e)::(kB a [.cells (nq1 z)]))) (qA (wig qa4 2 r) (wla qgo 2 rfl r rfl) (hx (kB k (.cells (nq1 e)::(kB a (kM [])))) (wsq 83 3 z rfl rfl)))<|gq fol [4,5,8,9,10,11] (kN b y (kZ k (kBt ((40,vl eSS m)::(kAR (zl m) c a (zl a) j []))))) (kB A (.cells (nq1 e)::(kB a [.cells (nq1 z)]))) (qdO (wis qa4 0 l) (wla qgo 0 rfl l rfl) (cv (qdb N e z L)) (cv (qfj N x29 r30 O)) (wis qa4 0 l) (wsa 83 0 rfl l t rfl))<|gN [] [some 0,some 1,some 2] (kN b y (kZ A (kBt ((40,vl eSS m)::(kAR (zl m) c a (zl a) j []))))) (kB A (.cells (nq1 e)::(kB a []))) (kk (kk (ke (.sliceE rfl (zD t)) kz))) (.ks (.kb rfl (.same sn) (.ks .nil)))<|gh fol (kN b y (kZ A (kBt ((40,vl eSS m)::(kAR (zl m) c a (zl a) (w64 (j+1)) [])))))<|qY ⟨_,_,rfl,g26⟩
      cases g26
      exact aA<|⟨rfl,_,rfl,(sN [] [some 0] (.keep (.same (kr encS _)) (.keep (.same (kr encS _)) (.keep (.slice rfl) (.drop (.keep (.same (kr eSS _)) (.keep (.same nI) (.keep (.same nI) .nil))))))) (.ks .nil))⟩
    rintro x s' ⟨rfl,q,rfl,hsub⟩;exact aq hsub<|gh fol (kN b y (kZ q ((40,vl eSS m)::(kCH (zl m) (w64 (c+1)) []))))<|qY ⟨_,_,rfl,g13⟩
   cases g13
   exact aA<|⟨rfl,_,rfl,sK [8]⟩
 rintro x s' ⟨rfl,f,rfl,hsub⟩;obtain⟨P,Q,r34,U,n40,g,h⟩:=bn3 h;refine aq hsub<|sh fol (kZ f (kBk (w64 ((zl f)-1))))<|sq<|aq (s':=(ofG 97 ((8,vl qa f)::(kBk (w64 ((zl f)-1)))),[])) (sN [0] [] (ke (.frz (eL (E:=qa) rfl rfl (nl rfl)) (kr qa _)) kz) .nil)<|gr fol [2,3] ((8,vl qa f)::(14,.i (w64 ((zl f)-1)))::(kBW r34)) (qj (wvs qa4 qa none (some (w64 ((zl f)-1))) Q) (hs (.call 55 [vl qa P,.func (.func 56) [] []] [] [] [vl qa P,.func (.func 56) [] []] (.bool r34)) (qk6 (bi (Ul (yI qa _ (nl rfl))) (bi (Fz.func bB bB) bB)) (qcL N P U) tB)))<|sq<|aQ (s':=(ofG 97 (kBK n40),[])) ?_ ?_
 ·rcases wyB g with⟨V,g⟩|⟨V,g⟩
  ·obtain⟨r36,X,rfl⟩:=bs1 g;exact tr fol [1,9] (kBK r36) (qj (gw V) (cv (jg true 21 X)))
  obtain⟨x37,u,r38,Y,r39,Z,rfl⟩:=bs3 g;exact tr fol [1,4,5,6,9] (kBK r39) (qbE (gw V) (iv qa4 qa u) (la qgo qa u) (cv (yP x37 Y)) (cv (jg (decide (r38=0)) 21 Z)))
 obtain rfl:=si h;exact ah<|gw1
def yS (a b:List Str):Nat->Int->Option (Unit⊕Bool)
 |0,_=>none
 |K+1,c=>
  if c<(a.length:Int)then
  (idx a c).bind λd=>
  (idx b c).bind λe=>
  if(!(d==e))=true then
  some (.inr false)
  else
  yS a b K (w64 (c+1))
  else
  some (.inl ())
def qbN (N:Nat) (a b:List Str):Option Bool:=
 if(!decide ((a.length:Int)=(b.length:Int)))=true then
 some false
 else
 (yS a b N 0).bind (λ
 |(.inl ())=>
 some true
 |(.inr c)=>
 some c)
def qhy (N:Nat) (a b:List Str) {res:Bool}(h:qbN N a b=some res):qc ZT (.fn 39) [vl encS a,vl encS b] [] (.bool res) []:=by
 unfold qbN at h;refine fW Tryz.func39 rfl<|sh fol (kAU a (kW b []))<|sq<|sh fol (kAU a (kW b (kBJ (!decide ((zl a)=(zl b))))))<|ihB h (λj h=>?_) (λj h=>?_)
 ·cases h
  exact sh fol kA0<|ah<|gw1
 obtain⟨f,g3,h⟩:=bnd h;refine ag<|sq<|sh fol (kAU a (kW b [(5,.i 0)]))<|aj<|gI (λx s'=>(x= .exit 0/\(.inl ())=f/\Sub s' (ofG 26 [],[]))\/(x= .ret/\∃g,(.inr g)=f/\qQ ZT [.tmp 4] (.bool g) .ret s')) ?_ ?_
 ·refine Ua (λM s=>∃(e:Int),s=(ofG 26 (kAU a (kW b (kAy e))),[])/\yS a b M e=some f) ?_ (m:=N) ⟨_,rfl,g3⟩;rintro M s ⟨e,rfl,g3⟩
  cases M with
  |zero=>cases g3
  |succ M=>
   rw[yS]at g3;refine sq<|sh fol (kAU a (kW b [(5,.i e),(14,.bool (decide (e<(zl a))))]))<|ihD g3 (λk g3=>?_) (λk g3=>?_)
   ·obtain⟨l,c,n,d,g3⟩:=bn2 g3;refine ag<|sq<|aj<|sq<|gr fol [2,3,6,7] (kAU a (kW b [(5,.i e),(25,.bool (!(l==n)))])) (zO (iv qa6 encS c) (lv 0 qc8 encS c rfl) (iv qa6 encS d) (lv 0 qc8 encS d rfl))<|ihB g3 (λo g3=>?_) (λo g3=>?_)
    ·cases g3
     exact sh fol kA0<|ah<|Or.inr (⟨rfl,_,rfl,gw1⟩)
    exact ag<|gh fol (kAU a (kW b (kAy (w64 (e+1)))))<|qY ⟨_,rfl,g3⟩
   cases g3
   exact aA<|Or.inl (⟨rfl,rfl,sK []⟩)
 rintro x s' (⟨rfl,rfl,hsub⟩|⟨rfl,p,rfl,hret⟩)
 ·cases h
  exact aq hsub<|sh fol [(4,.bool true)]<|ah<|gw1
 cases h
 exact hret
def qb1 (N:Nat) (a:Str):Option Int:=
 ((qb5 N a).bind λb=>
 (qb6 b).bind λc=>
 if(c.length:Int)>600 then
 some true
 else
 (qb2 N a).bind λd=>
 some (decide ((d.length:Int)>600)):Option Bool).bind λe=>
 if e=true then
 some 4
 else
 some 0
def qjC (N:Nat) (a:Str) {res:Int}(h:qb1 N a=some res):qc ZT (.fn 107) [.str a] [] (.i res) []:=by
 unfold qb1 at h;obtain⟨j,b,h⟩:=bnd h;refine fW Tryz.func107 rfl<|sh fol (kAm a)<|sq<|sq<|aQ (s':=(ofG 14 (kBI j),[])) ?_ ?_
 ·obtain⟨g,c,m,d,b⟩:=bn2 b;rcases wyD b with⟨f,b⟩|⟨f,b⟩
  ·cases b
   exact tr fol [1,2,5] [(13,.bool true)] (qA (cv (qdp N a c)) (cv (qdj g d)) (gw f))
  obtain⟨k,e,rfl⟩:=bs1 b;exact tr fol [1,2,5,7] (kBI (decide ((zl k)>600))) (zO (cv (qdp N a c)) (cv (qdj g d)) (gw f) (cv (qhq N a e)))
 refine ihB h (λl h=>?_) (λl h=>?_)
 ·cases h
  exact sh fol [(2,.i 4)]<|ah<|gw1
 cases h
 exact ag<|sh fol kBs<|ah<|gw1
def yh (N:Nat) (l:List Str):Nat->Int->Option (Unit⊕Int)
 |0,_=>none
 |K+1,a=>
  if a<(l.length:Int)then
  (idx l a).bind λb=>
  (qb1 N b).bind λc=>
  if(!decide (c=0))=true then
  some (.inr 4)
  else
  yh N l K (w64 (a+1))
  else
  some (.inl ())
def qbj (N:Nat) (l:List Str):Option Int:=
 (yh N l N 0).bind (λ
 |(.inl ())=>
 some 0
 |(.inr a)=>
 some a)
def qgV (N:Nat) (l:List Str) {res:Int}(h:qbj N l=some res):qc ZT (.fn 57) [vl encS l] [] (.i res) []:=by
 unfold qbj at h;obtain⟨d,g2,h⟩:=bnd h;refine fW Tryz.func57 rfl<|sh fol (kAU l [])<|sq<|sh fol (kAU l [(3,.i 0)])<|aj<|gI (λx s'=>(x= .exit 0/\(.inl ())=d/\Sub s' (ofG 16 [],[]))\/(x= .ret/\∃e,(.inr e)=d/\qQ ZT [.tmp 2] (.i e) .ret s')) ?_ ?_
 ·refine Ua (λM s=>∃(b:Int),s=(ofG 16 (kAU l [(3,.i b)]),[])/\yh N l M b=some d) ?_ (m:=N) ⟨_,rfl,g2⟩;rintro M s ⟨b,rfl,g2⟩
  cases M with
  |zero=>cases g2
  |succ M=>
   rw[yh]at g2;refine sq<|sh fol (kAU l [(3,.i b),(7,.bool (decide (b<(zl l))))])<|ihD g2 (λf g2=>?_) (λf g2=>?_)
   ·obtain⟨g,a,j,c,g2⟩:=bn2 g2;refine ag<|sq<|aj<|sq<|gr fol [2,3,4] (kAU l ((3,.i b)::(kBW (!decide (j=0))))) (qA (iv qa6 encS a) (lv 0 qc8 encS a rfl) (cv (qjC N g c)))<|ihB g2 (λk g2=>?_) (λk g2=>?_)
    ·cases g2
     exact sh fol [(2,.i 4)]<|ah<|Or.inr (⟨rfl,_,rfl,gw1⟩)
    exact ag<|gh fol (kAU l [(3,.i (w64 (b+1)))])<|qY ⟨_,rfl,g2⟩
   cases g2
   exact aA<|Or.inl (⟨rfl,rfl,sK []⟩)
 rintro x s' (⟨rfl,rfl,hsub⟩|⟨rfl,n,rfl,hret⟩)
 ·cases h
  exact aq hsub<|sh fol kBs<|ah<|gw1
 cases h
 exact hret
def jY (N:Nat) (a:List Str) (e bad:Int) (want:List Str):Option Bool:=
 ((if bad=0 then
 (qbj N want).bind λf=>
 some f
 else
 some bad:Option Int)).bind λd=>
 if(!decide (d=0))=true then
 (if(a.length:Int)=0 then
 some (decide (e=d))
 else
 some false:Option Bool).bind λg=>
 some g
 else
 (if e=0 then
 (qbN N a want).bind λb=>
 some b
 else
 some false:Option Bool).bind λc=>
 some c
def qaD (N:Nat) (a:List Str) (e bad:Int) (want:List Str) {res:Bool}(h:jY N a e bad want=some res):qc ZT (.fn 13) [vl encS a,.i e,.i bad,vl encS want] [] (.bool res) []:=by
 unfold jY at h;obtain⟨n,g2,h⟩:=bnd h;refine fW Tryz.func13 rfl<|sh fol (kAU a (kB4 e bad want []))<|sq<|sh fol (kAU a (kB4 e bad want (kBJ (decide (bad=0)))))<|gI (λx s'=>(x= .normal/\∃f,f=n/\Sub s' (ofG 30 (kAU a (kB4 e f want [])),[]))) ?_ ?_
 ·refine ihD g2 (λo g2=>?_) (λo g2=>?_)
  ·obtain⟨p,g,rfl⟩:=bs1 g2;exact gr fol [1] (kAU a (kB4 e p want [])) (qd (cv (qgV N want g)))<|⟨rfl,_,rfl,(bm _)⟩
  cases g2
  exact ag<|⟨rfl,_,rfl,sK [0,1,2,3]⟩
 rintro x s' ⟨rfl,f,rfl,hsub⟩;refine aq hsub<|sq<|sh fol (kAU a (kB4 e f want [(14,.bool (!decide (f=0)))]))<|ihB h (λq h=>?_) (λq h=>?_)
 ·obtain⟨r,c,h⟩:=bnd h;refine sq<|aQ (s':=(ofG 30 (kBN r),[])) ?_ ?_
  ·rcases wyD c with⟨j,c⟩|⟨j,c⟩
   ·cases c
    exact tr fol [3] (kBN (decide (e=f))) (qd (gw j))
   cases c
   exact tr fol [3] kBV (qd (gw j))
  obtain rfl:=si h;exact ah<|gw1
 obtain⟨k,b,h⟩:=bnd h;refine ag<|sq<|aQ (s':=(ofG 30 (kBN k),[])) ?_ ?_
 ·rcases wyD b with⟨l,b⟩|⟨l,b⟩
  ·obtain⟨m,d,rfl⟩:=bs1 b;exact tr fol [2,5] (kBN m) (qj (gw l) (cv (qhy N a want d)))
  cases b
  exact tr fol [2] kBV (qd (gw l))
 obtain rfl:=si h;exact ah<|gw1
end
section
open Go.Proofs Go.RowKit
def vW (N:Nat) (a:Str):Option (Int×Int×Bool):=
 if(a.length:Int)>20 then
 some (0,0,false)
 else
 (if(a.length:Int)>0 then
 (idx a 0).bind λl=>
 some (decide ((l.toNat:Int)=45))
 else
 some false:Option Bool).bind λk=>
 ((if k=true then
 (cut a 1 (a.length:Int)).bind λm=>
 some m
 else
 some a:Option Str)).bind λc=>
 (xP N c).bind λb=>
 (if b>9 then
 some true
 else
 some (decide ((w64 ((c.length:Int)-b))>10)):Option Bool).bind λe=>
 if e=true then
 some (0,0,false)
 else
 (cut c 0 b).bind λf=>
 (qav N f).bind λd=>
 ((if b<(c.length:Int)then
 (cut c (w64 (b+1)) (c.length:Int)).bind λg=>
 (qav N g).bind λh=>
 some h
 else
 some 1:Option Int)).bind λi=>
 ((if k=true then
 some (w64 (0-d))
 else
 some d:Option Int)).bind λj=>
 some (j,i,true)
def qcj (N:Nat) (a:Str) {res:Int×Int×Bool}(h:vW N a=some res):qc ZT (.fn 116) [.str a] [] (.tuple [.i res.1,.i res.2.1,.bool res.2.2]) []:=by
 unfold vW at h;refine fW Tryz.func116 rfl<|sh fol (kAm a)<|sh fol [(5,.str a)]<|sq<|sh fol ((5,.str a)::(kBI (decide ((zl a)>20))))<|ihD h (λE h=>?_) (λE h=>?_)
 ·cases h
  exact sh fol ((2,.i 0)::(3,.i 0)::kA0)<|ah<|gwt
 obtain⟨f,d,h⟩:=bnd h;refine ag<|sq<|aQ (s':=(ofG 54 (kBE a f []),[])) ?_ ?_
 ·rcases wyD d with⟨t,d⟩|⟨t,d⟩
  ·obtain⟨F,r,rfl⟩:=bs1 d;exact tr fol [3,5] (kBE a (decide ((F.toNat:Int)=45)) []) (qj (gw t) (wsx st9 r))
  cases d
  exact tr fol [3] ((5,.str a)::kA1) (qd (gw t))
 obtain⟨G,g7,h⟩:=bnd h;refine sq<|sh fol (kBE a f [(22,.bool f)])<|gI (λx s'=>(x= .normal/\∃j,j=G/\Sub s' (ofG 54 (kBE j f []),[]))) ?_ ?_
 ·refine ihB g7 (λH g7=>?_) (λH g7=>?_)
  ·obtain⟨I,s,rfl⟩:=bs1 g7;exact gr fol [1] (kBE I f []) (qd (wss st9 (some 1) none s))<|⟨rfl,_,rfl,(bm _)⟩
  cases g7
  exact ag<|⟨rfl,_,rfl,sK [5,6]⟩
 rintro x s' ⟨rfl,j,rfl,hsub⟩;obtain⟨c,l,u,b,h⟩:=bn2 h;refine aq hsub<|sq<|gr fol [1] (kBE j f (kBT c)) (qd (cv (qbc N j l)))<|sq<|sq<|aQ (s':=(ofG 54 (kBE j f [(7,.i c),(35,.bool u)]),[])) ?_ ?_
 ·rcases wyD b with⟨m,b⟩|⟨m,b⟩
  ·cases b
   exact tr fol [2] (kBE j f [(7,.i c),(35,.bool true)]) (qd (gw m))
  cases b
  exact tr fol [2] (kBE j f [(7,.i c),(35,.bool (decide ((w64 ((zl j)-c))>10)))]) (qd (gw m))
 refine ihB h (λv h=>?_) (λv h=>?_)
 ·cases h
  exact sh fol ((2,.i 0)::(3,.i 0)::kA0)<|ah<|gwt
 obtain⟨w,n,g,o,y,g18,h⟩:=bn3 h;refine ag<|sq<|gr fol [2,3] (kBE j f (kB2 c g [(9,.i 1)])) (qj (wss st9 none (some c) n) (cv (qch N w o)))<|sq<|sh fol (kBE j f (kB2 c g [(9,.i 1),(43,.bool (decide (c<(zl j))))]))<|gI (λx s'=>(x= .normal/\∃e,e=y/\Sub s' (ofG 54 ((6,.bool f)::(kAz g e [])),[]))) ?_ ?_
 ·refine ihD g18 (λz g18=>?_) (λz g18=>?_)
  ·obtain⟨A,p,B,q,rfl⟩:=bs2 g18;exact gr fol [3,4] ((6,.bool f)::(kAz g B [])) (qj (wss st9 (some (w64 (c+1))) none p) (cv (qch N A q)))<|⟨rfl,_,rfl,(bm _)⟩
  cases g18
  exact ag<|⟨rfl,_,rfl,sK [6,8,9]⟩
 rintro x s' ⟨rfl,e,rfl,hsub⟩;obtain⟨C,g23,h⟩:=bnd h;refine aq hsub<|sq<|sh fol (kAz g e [(49,.bool f)])<|gI (λx s'=>(x= .normal/\∃k,k=C/\Sub s' (ofG 54 (kAz k e []),[]))) ?_ ?_
 ·refine ihB g23 (λD g23=>?_) (λD g23=>?_)
  ·cases g23
   exact gh fol (kAz (w64 (0-g)) e [])<|⟨rfl,_,rfl,(bm _)⟩
  cases g23
  exact ag<|⟨rfl,_,rfl,sK [8,9]⟩
 rintro x s' ⟨rfl,k,rfl,hsub⟩;cases h
 exact aq hsub<|sh fol (kB3 k e [(4,.bool true)])<|ah<|gwt
def qau (N:Nat) (a:qE):Option qE:=
 (zP N (!a.neg) a.w).bind λb=>
 some b
def qfO (N:Nat) (a:qE) {res:qE}(h:qau N a=some res):qc ZT (.fn 171) [.agg (kAp a.neg a.w)] [] (.agg (kAp res.neg res.w)) []:=by
 unfold qau at h;obtain⟨c,b,rfl⟩:=bs1 h;exact fW Tryz.func171 rfl<|sg fol (kAo kA6) (kAf a.neg a.w (kS []))<|sq<|gq fol [5] kA6 (kO a.neg a.w c.neg c.w []) (qd (cv (jm N (!a.neg) a.w b)))<|ah<|gw1
def kg (least:Int):Nat->Int->Str->Option Str
 |0,_,_=>none
 |K+1,a,b=>
  (if a>0 then
  some true
  else
  some (decide ((b.length:Int)<least)):Option Bool).bind λd=>
  if d=true then
  (cut [48,49,50,51,52,53,54,55,56,57] (a.tmod 10) (w64 ((a.tmod 10)+1))).bind λe=>
  (cat e b).bind λc=>
  kg least K (w64 (a.tdiv 10)) c
  else
  some b
def zK (N:Nat) (n least:Int):Option Str:=
 (kg least N n []).bind λa=>
 some a
def qbs (N:Nat) (n least:Int) {res:Str}(h:zK N n least=some res):qc ZT (.fn 170) [.i n,.i least] [] (.str res) []:=by
 unfold zK at h;obtain⟨k,g4,h⟩:=bnd h;refine fW Tryz.func170 rfl<|sh fol (kAb n least [])<|sh fol (kAb n least [(5,.str [])])<|sq<|aj<|gI (λx s'=>(x= .exit 0/\∃g,g=k/\Sub s' (ofG 25 [(5,.str g)],[]))) ?_ ?_
 ·refine Ua (λM s=>∃(b:Int) (c:Str),s=(ofG 25 (kAb b least [(5,.str c)]),[])/\kg least M b c=some k) ?_ (m:=N) ⟨_,_,rfl,g4⟩;rintro M s ⟨b,c,rfl,g4⟩
  cases M with
  |zero=>cases g4
  |succ M=>
   rw[kg]at g4;obtain⟨l,a,g4⟩:=bnd g4;refine sq<|sq<|aQ (s':=(ofG 25 (kAb b least ((5,.str c)::(kBI l))),[])) ?_ ?_
   ·rcases wyD a with⟨j,a⟩|⟨j,a⟩
    ·cases a
     exact tr fol [2] (kAb b least [(5,.str c),(13,.bool true)]) (qd (gw j))
    cases a
    exact tr fol [2] (kAb b least ((5,.str c)::(kBI (decide ((zl c)<least))))) (qd (gw j))
   refine ihB g4 (λo g4=>?_) (λo g4=>?_)
   ·obtain⟨p,e,f,d,g4⟩:=bn2 g4;exact ag<|aj<|sq<|gr fol [5,7] (kAb b least [(5,.str f)]) (qj (wss st9 (some (b.tmod 10)) (some (w64 ((b.tmod 10)+1))) e) (wxc 9 d))<|gh fol (kAb (w64 (b.tdiv 10)) least [(5,.str f)])<|qY ⟨_,_,rfl,g4⟩
   cases g4
   exact aA<|⟨rfl,_,rfl,sK [5]⟩
 rintro x s' ⟨rfl,g,rfl,hsub⟩;obtain rfl:=si h;exact aq hsub<|sh fol (kBn g)<|ah<|gw1
def xY (N:Nat) (a:qE):Nat->Str->Int->Option Str
 |0,_,_=>none
 |K+1,e,b=>
  if b>=0 then
  (idx a.w b).bind λf=>
  (zK N f 9).bind λc=>
  (cat e c).bind λd=>
  xY N a K d (w64 (b-1))
  else
  some e
def qcD (N:Nat) (a:qE):Option Str:=
 if(a.w.length:Int)=0 then
 some [48]
 else
 (idx a.w (w64 ((a.w.length:Int)-1))).bind λd=>
 (zK N d 1).bind λe=>
 (xY N a N e (w64 ((a.w.length:Int)-2))).bind λc=>
 if a.neg=true then
 (cat [45] c).bind λb=>
 some b
 else
 some c
def qgw (N:Nat) (a:qE) {res:Str}(h:qcD N a=some res):qc ZT (.fn 172) [.agg (kAp a.neg a.w)] [] (.str res) []:=by
 unfold qcD at h;refine fW Tryz.func172 rfl<|sg fol (kAo []) (kAf a.neg a.w [])<|sq<|sh fol (kAo (kBN (decide ((zl a.w)=0))))<|ihD h (λr h=>?_) (λr h=>?_)
 ·cases h
  exact sh fol [(2,.str [48])]<|ah<|gw1
 obtain⟨t,b,p,i,q,g7,h⟩:=bn3 h;refine ag<|sq<|gr fol [6,7,8] (kAo [(3,.str p)]) (qA (iv jT encI b) (lv 0 ce3 encI b rfl) (cv (qbs N t 1 i)))<|sq<|sh fol (kAo (kAu p (w64 ((zl a.w)-2)) []))<|aj<|gI (λx s'=>(x= .exit 0/\∃j,j=q/\Sub s' (ofG 39 (kAo [(3,.str j)]),(kAf a.neg a.w [])))) ?_ ?_
 ·refine Ua (λM s=>∃(l:Str) (d:Int),s=(ofG 39 (kAo (kAu l d [])),(kAf a.neg a.w []))/\xY N a M l d=some q) ?_ (m:=N) ⟨_,_,rfl,g7⟩;rintro M s ⟨l,d,rfl,g7⟩
  cases M with
  |zero=>cases g7
  |succ M=>
   rw[xY]at g7;refine sq<|sh fol (kAo (kAu l d [(23,.bool (decide (d>=0)))]))<|ihD g7 (λu g7=>?_) (λu g7=>?_)
   ·obtain⟨v,c,y,e,k,f,g7⟩:=bn3 g7;exact ag<|sq<|aj<|gr fol [4,5,6,7] (kAo (kAu k d [])) (zO (iv jT encI c) (lv 0 ce3 encI c rfl) (cv (qbs N v 9 e)) (wxc 9 f))<|gh fol (kAo (kAu k (w64 (d-1)) []))<|qY ⟨_,_,rfl,g7⟩
   cases g7
   exact aA<|⟨rfl,_,rfl,sK [1,3]⟩
 rintro x s' ⟨rfl,j,rfl,hsub⟩;refine aq hsub<|sq<|sh fol [(3,.str j),(35,.bool a.neg)]<|ihB h (λn h=>?_) (λn h=>?_)
 ·obtain⟨o,g,rfl⟩:=bs1 h;exact sq<|gr fol [1] (kB5 o) (qd (wxc 9 g))<|ah<|gw1
 obtain rfl:=si h;exact ag<|sh fol (kB5 j)<|ah<|gw1
def vZ (N:Nat) (n d:qE):Option Str:=
 ((if d.neg=true then
 (qau N n).bind λl=>
 (qau N d).bind λm=>
 some (l.neg,l.w,m.neg,m.w)
 else
 some (n.neg,n.w,d.neg,d.w):Option (Bool×(List Int)×Bool×(List Int)))).bind λ(r,o,s,p)=>
 (qbw N o p).bind λq=>
 (vg N o q).bind λc=>
 (vg N p q).bind λa=>
 (zP N r c.1).bind λe=>
 (qcD N e).bind λb=>
 (if(a.1.length:Int)=1 then
 (idx a.1 0).bind λf=>
 some (decide (f=1))
 else
 some false:Option Bool).bind λg=>
 if g=true then
 some b
 else
 (cat b [47]).bind λh=>
 (zP N false a.1).bind λi=>
 (qcD N i).bind λj=>
 (cat h j).bind λk=>
 some k
def qa3 (N:Nat) (n d:qE) {res:Str}(h:vZ N n d=some res):qc ZT (.fn 118) (kA2 n.neg n.w d.neg d.w) [] (.str res) []:=by
 unfold vZ at h;obtain⟨J,g5,h⟩:=bnd h;refine fW Tryz.func118 rfl<|sg fol (kAO []) (kO n.neg n.w d.neg d.w [])<|sq<|sh fol (kAO (kBX d.neg))<|gI (λx s'=>(x= .normal/\∃t r z s,(t,r,z,s)=J/\Sub s' (ofG 57 (kAO []),(kO t r z s [])))) ?_ ?_
 ·refine ihB g5 (λK g5=>?_) (λK g5=>?_)
  ·obtain⟨H,u,I,v,rfl⟩:=bs2 g5;exact gq fol [1,3] (kAO []) (kO H.neg H.w I.neg I.w []) (qj (cv (qfO N n u)) (cv (qfO N d v)))<|⟨rfl,_,_,_,_,rfl,(bm _)⟩
  cases g5
  exact ag<|⟨rfl,_,_,_,_,rfl,sK [2,3]⟩
 rintro x s' ⟨rfl,t,r,z,s,rfl,hsub⟩;obtain⟨A,y,f,g,b,i,B,j,c,k,C,a,h⟩:=bn6 h;refine aq hsub<|sq<|gr fol [4] (kAO [(5,vl encI A)]) (qd (cv (qfl N r s y)))<|sq<|gr fol [3] (kAO [(5,vl encI A),(6,vl encI f.1)]) (qd (cv (qbV N r A g)))<|sq<|gr fol [3] (kAs [(6,vl encI f.1),(8,vl encI b.1)]) (qd (cv (qbV N s A i)))<|sq<|gr fol [3,4] [(8,vl encI b.1),(10,.str c)] (qj (cv (jm N t f.1 j)) (cv (qgw N B k)))<|sq<|sq<|aQ (s':=(ofG 57 [(8,vl encI b.1),(10,.str c),(49,.bool C)],(kO t r z s []))) ?_ ?_
 ·rcases wyD a with⟨l,a⟩|⟨l,a⟩
  ·obtain⟨D,e,rfl⟩:=bs1 a;exact tr fol [3,5,6] [(8,vl encI b.1),(10,.str c),(49,.bool (decide (D=1)))] (qA (gw l) (iv jT encI e) (lv 0 ce3 encI e rfl))
  cases a
  exact tr fol [3] [(8,vl encI b.1),(10,.str c),(49,.bool false)] (qd (gw l))
 refine ihB h (λE h=>?_) (λE h=>?_)
 ·obtain rfl:=si h;exact sh fol (kBn c)<|ah<|gw1
 obtain⟨L,m,F,o,M,p,G,q,rfl⟩:=bs4 h;exact ag<|sq<|gr fol [1,3,4,5] (kBn G) (zO (wxc 9 m) (cv (jm N false b.1 o)) (cv (qgw N F p)) (wxc 9 q))<|ah<|gw1
def yK:Nat->Int->Int->Option Int
 |0,_,_=>none
 |K+1,b,a=>
  if a>0 then
  (qfo .i64 b a).bind λc=>
  yK K a c
  else
  some b
def qeJ (N:Nat) (a b:Int):Option Int:=
 (yK N a b).bind λc=>
 some c
def qk1 (N:Nat) (a b:Int) {res:Int}(h:qeJ N a b=some res):qc ZT (.fn 169) [.i a,.i b] [] (.i res) []:=by
 unfold qeJ at h;obtain⟨g,g4,h⟩:=bnd h;refine fW Tryz.func169 rfl<|sh fol (kAb a b [])<|sq<|aj<|gI (λx s'=>(x= .exit 0/\∃e,e=g/\Sub s' (ofG 12 [(0,.i e)],[]))) ?_ ?_
 ·refine Ua (λM s=>∃(f:Int) (c:Int),s=(ofG 12 (kAb f c []),[])/\yK M f c=some g) ?_ (m:=N) ⟨_,_,rfl,g4⟩;rintro M s ⟨f,c,rfl,g4⟩
  cases M with
  |zero=>cases g4
  |succ M=>
   rw[yK]at g4;refine sq<|sh fol (kAb f c [(6,.bool (decide (c>0)))])<|ihD g4 (λj g4=>?_) (λj g4=>?_)
   ·obtain⟨k,d,g4⟩:=bnd g4;exact ag<|aj<|gr fol [3] (kAb c k []) (qd (wxr 3 d))<|qY ⟨_,_,rfl,g4⟩
   cases g4
   exact aA<|⟨rfl,_,rfl,sK [0]⟩
 rintro x s' ⟨rfl,e,rfl,hsub⟩;obtain rfl:=si h;exact aq hsub<|sh fol (kBe e)<|ah<|gw1
def qeA (N:Nat) (num den:Int):Option Str:=
 (if num<(-4000000000000000000)then
 some true
 else
 if num>4000000000000000000 then
 some true
 else
 if den<(-4000000000000000000)then
 some true
 else
 some (decide (den>4000000000000000000)):Option Bool).bind λm=>
 if m=true then
 (qbb N num).bind λn=>
 (qbb N den).bind λo=>
 (vZ N n o).bind λp=>
 some p
 else
 ((if den<0 then
 some (w64 (0-num),w64 (0-den))
 else
 some (num,den):Option (Int×Int))).bind λ(a,c)=>
 (qeJ N (if(w64 (0-a))>a then(w64 (0-a))else a) c).bind λd=>
 (qdh .i64 a d).bind λb=>
 (qdh .i64 c d).bind λe=>
 ((if b<0 then
 some [45]
 else
 some []:Option Str)).bind λg=>
 (zK N (if(w64 (0-b))>b then(w64 (0-b))else b) 1).bind λh=>
 (cat g h).bind λf=>
 ((if e>1 then
 (cat f [47]).bind λi=>
 (zK N e 1).bind λj=>
 (cat i j).bind λk=>
 some k
 else
 some f:Option Str)).bind λl=>
 some l
def qh7 (N:Nat) (num den:Int) {res:Str}(h:qeA N num den=some res):qc ZT (.fn 117) [.i num,.i den] [] (.str res) []:=by
 unfold qeA at h;obtain⟨H,a,h⟩:=bnd h;refine fW Tryz.func117 rfl<|sh fol (kAb num den [])<|sq<|sq<|aQ (s':=(ofG 61 (kAb num den (kBy H)),[])) ?_ ?_
 ·rcases wyD a with⟨r,a⟩|⟨r,a⟩
  ·cases a
   exact tr fol [2] (kAb num den [(20,.bool true)]) (qd (gw r))
  rcases wyD a with⟨w,a⟩|⟨w,a⟩
  ·cases a
   exact tr fol [2,6] (kAb num den [(20,.bool true)]) (qj (gw r) (gw w))
  rcases wyD a with⟨y,a⟩|⟨y,a⟩
  ·cases a
   exact tr fol [2,6,10] (kAb num den [(20,.bool true)]) (qA (gw r) (gw w) (gw y))
  cases a
  exact tr fol [2,6,10] (kAb num den (kBy (decide (den>4000000000000000000)))) (qA (gw r) (gw w) (gw y))
 refine ihB h (λI h=>?_) (λI h=>?_)
 ·obtain⟨J,s,K,t,L,u,rfl⟩:=bs3 h;exact sq<|gr fol [1,3,4] (kBn L) (qA (cv (qdM N num s)) (cv (qdM N den t)) (cv (qa3 N J K u)))<|ah<|gw1
 obtain⟨z,g12,h⟩:=bnd h;refine ag<|sq<|sh fol (kAb num den [(27,.bool (decide (den<0)))])<|gI (λx s'=>(x= .normal/\∃d e,(d,e)=z/\Sub s' (ofG 61 (kAb d e []),[]))) ?_ ?_
 ·refine ihD g12 (λA g12=>?_) (λA g12=>?_)
  ·cases g12
   exact gh fol (kAb (w64 (0-num)) (w64 (0-den)) [])<|⟨rfl,_,_,rfl,(bm _)⟩
  cases g12
  exact ag<|⟨rfl,_,_,rfl,sK [0,1]⟩
 rintro x s' ⟨rfl,d,e,rfl,hsub⟩;obtain⟨B,g,b,j,c,k,C,g18,h⟩:=bn4 h;refine aq hsub<|sq<|gr fol [5] (kAb d e (kAy B)) (qd (cv (qk1 N (if(w64 (0-d))>d then(w64 (0-d))else d) e g)))<|sq<|gr fol [2,5] (kAb b c []) (qj (wxq 3 j) (wxq 3 k))<|sh fol (kAb b c [(6,.str [])])<|sq<|sh fol (kAb b c [(6,.str []),(45,.bool (decide (b<0)))])<|gI (λx s'=>(x= .normal/\∃l,l=C/\Sub s' (ofG 61 (kAb b c [(6,.str l)]),[]))) ?_ ?_
 ·refine ihD g18 (λD g18=>?_) (λD g18=>?_)
  ·cases g18
   exact gh fol (kAb b c [(6,.str [45])])<|⟨rfl,_,rfl,(bm _)⟩
  cases g18
  exact ag<|⟨rfl,_,rfl,sK [0,1,6]⟩
 rintro x s' ⟨rfl,l,rfl,hsub⟩;obtain⟨M,m,v,n,E,g23,h⟩:=bn3 h;refine aq hsub<|sq<|gr fol [5,6] [(1,.i c),(6,.str v)] (qj (cv (qbs N (if(w64 (0-b))>b then(w64 (0-b))else b) 1 m)) (wxc 9 n))<|sq<|sh fol [(1,.i c),(6,.str v),(54,.bool (decide (c>1)))]<|gI (λx s'=>(x= .normal/\∃f,f=E/\Sub s' (ofG 61 [(6,.str f)],[]))) ?_ ?_
 ·refine ihD g23 (λF g23=>?_) (λF g23=>?_)
  ·obtain⟨O,o,P,p,G,q,rfl⟩:=bs3 g23;exact gr fol [1,3,4] [(6,.str G)] (qA (wxc 9 o) (cv (qbs N c 1 p)) (wxc 9 q))<|⟨rfl,_,rfl,(bm _)⟩
  cases g23
  exact ag<|⟨rfl,_,rfl,sK [6]⟩
 rintro x s' ⟨rfl,f,rfl,hsub⟩;obtain rfl:=si h;exact aq hsub<|sh fol (kBn f)<|ah<|gw1
def xO (N:Nat) (a b:qE):Option qE:=
 (yC N a.w b.w).bind λc=>
 (zP N (!(a.neg==b.neg)) c).bind λd=>
 some d
def qbh (N:Nat) (a b:qE) {res:qE}(h:xO N a b=some res):qc ZT (.fn 120) (kA2 a.neg a.w b.neg b.w) [] (.agg (kAp res.neg res.w)) []:=by
 unfold xO at h;obtain⟨f,c,e,d,rfl⟩:=bs2 h;exact fW Tryz.func120 rfl<|sg fol (kI []) (kO a.neg a.w b.neg b.w (kS []))<|sq<|gq fol [9,10] kAr (kO a.neg a.w b.neg b.w (kAf e.neg e.w [])) (qj (cv (qbS N a.w b.w c)) (cv (jm N (!(a.neg==b.neg)) f d)))<|ah<|gw1
def qb3 (N:Nat) (a b:Str):Option Str:=
 (vW N a).bind λc=>
 (vW N b).bind λd=>
 (if c.2.2=true then
 some d.2.2
 else
 some false:Option Bool).bind λj=>
 if j=true then
 (qeA N (w64 (c.1*d.1)) (w64 (c.2.1*d.2.1))).bind λk=>
 some k
 else
 (j6 N a).bind λh=>
 (j6 N b).bind λi=>
 (xO N h.1 i.1).bind λe=>
 (xO N h.2 i.2).bind λf=>
 (vZ N e f).bind λg=>
 some g
def qdn (N:Nat) (a b:Str) {res:Str}(h:qb3 N a b=some res):qc ZT (.fn 62) [.str a,.str b] [] (.str res) []:=by
 unfold qb3 at h;obtain⟨d,l,e,m,u,c,h⟩:=bn3 h;refine fW Tryz.func62 rfl<|sh fol (kX a b [])<|sq<|gr fol [1] (kX a b (kCE d.1 d.2.1 [(7,.bool d.2.2)])) (qd (cv (qcj N a l)))<|sq<|gr fol [1] (kX a b (kCE d.1 d.2.1 ((7,.bool d.2.2)::(kAz e.1 e.2.1 (kBJ e.2.2))))) (qd (cv (qcj N b m)))<|sq<|sq<|aQ (s':=(ofG 55 (kX a b (kCE d.1 d.2.1 (kAz e.1 e.2.1 [(30,.bool u)]))),[])) ?_ ?_
 ·rcases wyB c with⟨q,c⟩|⟨q,c⟩
  ·cases c
   exact tr fol [1] (kX a b (kCE d.1 d.2.1 (kAz e.1 e.2.1 [(30,.bool e.2.2)]))) (qd (gw q))
  cases c
  exact tr fol [1] (kX a b (kCE d.1 d.2.1 (kAz e.1 e.2.1 [(30,.bool false)]))) (qd (gw q))
 refine ihB h (λv h=>?_) (λv h=>?_)
 ·obtain⟨x,n,rfl⟩:=bs1 h;exact sq<|gr fol [6] (kBn x) (qd (cv (qh7 N (w64 (d.1*e.1)) (w64 (d.2.1*e.2.1)) n)))<|ah<|gw1
 obtain⟨f,o,k,p,r,g,s,i,t,j,rfl⟩:=bs5 h;exact ag<|sq<|gq fol [1] ((1,.str b)::(kBv [])) (kO f.1.neg f.1.w f.2.neg f.2.w []) (qd (cv (qar N a o)))<|sq<|gq fol [1] (kBv [(13,.ptr 2 0),(14,.ptr 3 0)]) (kO f.1.neg f.1.w f.2.neg f.2.w (kO k.1.neg k.1.w k.2.neg k.2.w [])) (qd (cv (qar N b p)))<|sq<|gr fol [2,5,6] (kBn t) (qA (cv (qbh N f.1 k.1 g)) (cv (qbh N f.2 k.2 i)) (cv (qa3 N r s j)))<|ah<|gw1
def xK (a:Str):Option Bool:=
 some (a==[48])
def qbO (a:Str) {res:Bool}(h:xK a=some res):qc ZT (.fn 63) [.str a] [] (.bool res) []:=by
 unfold xK at h;cases h
 exact fW Tryz.func63 rfl<|sh fol (kAm a)<|sh fol (kCD (a==[48]))<|ah<|gw1
def qah (N:Nat) (a:Str):Option Str:=
 (j6 N a).bind λb=>
 (vZ N b.2 b.1).bind λc=>
 some c
def qgm (N:Nat) (a:Str) {res:Str}(h:qah N a=some res):qc ZT (.fn 162) [.str a] [] (.str res) []:=by
 unfold qah at h;obtain⟨b,c,e,d,rfl⟩:=bs2 h;exact fW Tryz.func162 rfl<|sh fol (kAm a)<|sq<|gq fol [1] ((3,.ptr 0 0)::kBh) (kO b.1.neg b.1.w b.2.neg b.2.w []) (qd (cv (qar N a c)))<|sq<|gr fol [2] (kB5 e) (qd (cv (qa3 N b.2 b.1 d)))<|ah<|gw1
def qbl (a:List Int) (i:Int):Option Int:=
 if i<(a.length:Int)then
 (idx a i).bind λb=>
 some b
 else
 some 0
def qdY (a:List Int) (i:Int) {res:Int}(h:qbl a i=some res):qc ZT (.fn 204) [vl encI a,.i i] [] (.i res) []:=by
 unfold qbl at h;refine fW Tryz.func204 rfl<|sh fol (kAj a (kBd i))<|sq<|sh fol (kAj a ((1,.i i)::(kBN (decide (i<(zl a))))))<|ihD h (λc h=>?_) (λc h=>?_)
 ·obtain⟨d,b,rfl⟩:=bs1 h;exact sq<|gr fol [2,3] (kBe d) (qj (iv jT encI b) (lv 0 ce3 encI b rfl))<|ah<|gw1
 cases h
 exact ag<|sh fol kBr<|ah<|gw1
def jC (a b:List Int):Nat->(List Int)->Int->Int->Option (List Int)
 |0,_,_,_=>none
 |K+1,h,f,c=>
  (if c<(a.length:Int)then
  some true
  else
  if c<(b.length:Int)then
  some true
  else
  some (decide (f>0)):Option Bool).bind λi=>
  if i=true then
  (qbl a c).bind λd=>
  (qbl b c).bind λe=>
  (app 8 h [(w64 ((w64 (d+e))+f)).tmod 1000000000]).bind λg=>
  jC a b K g (w64 ((w64 ((w64 (d+e))+f)).tdiv 1000000000)) (w64 (c+1))
  else
  some h
def qaO (N:Nat) (a b:List Int):Option (List Int):=
 (jC a b N ([]:List Int) 0 0).bind λc=>
 some c
def qgE (N:Nat) (a b:List Int) {res:List Int}(h:qaO N a b=some res):qc ZT (.fn 174) (kBb a b) [] (vl encI res) []:=by
 unfold qaO at h;obtain⟨u,g5,h⟩:=bnd h;refine fW Tryz.func174 rfl<|sh fol (kJ a b [])<|sh fol (kJ a b [(5,.nilslice)])<|sh fol (kJ a b (kBq []))<|sq<|sh fol (kJ a b (kBq [(7,.i 0)]))<|aj<|gI (λx s'=>(x= .exit 0/\∃p,p=u/\Sub s' (ofG 42 (kAM p []),(kA p [])))) ?_ ?_
 ·refine aq (s':=(ofG 42 (kJ a b kCB),kAq)) (sN [] [none] (kk (kk (ke .nil kz))) (.fresh .nil))<|Ua (λM s=>∃(k:List Int) (f:Int) (g:Int),s=(ofG 42 (kJ a b (kAM k (kAk f g []))),(kA k []))/\jC a b M k f g=some u) ?_ (m:=N) ⟨_,_,_,rfl,g5⟩;rintro M s ⟨k,f,g,rfl,g5⟩
  cases M with
  |zero=>cases g5
  |succ M=>
   rw[jC]at g5;obtain⟨v,c,g5⟩:=bnd g5;refine sq<|sq<|aQ (s':=(ofG 42 (kJ a b (kAM k (kAk f g [(22,.bool v)]))),(kA k []))) ?_ ?_
   ·rcases wyD c with⟨q,c⟩|⟨q,c⟩
    ·cases c
     exact tr fol [4] (kJ a b (kAM k (kAk f g [(22,.bool true)]))) (qd (gw q))
    rcases wyD c with⟨r,c⟩|⟨r,c⟩
    ·cases c
     exact tr fol [4,10] (kJ a b (kAM k (kAk f g [(22,.bool true)]))) (qj (gw q) (gw r))
    cases c
    exact tr fol [4,10] (kJ a b (kAM k (kAk f g [(22,.bool (decide (f>0)))]))) (qj (gw q) (gw r))
   refine ihB g5 (λt g5=>?_) (λt g5=>?_)
   ·obtain⟨d,l,e,n,j,o,g5⟩:=bn3 g5;exact ag<|sq<|aj<|sq<|gr fol [2,5] (kJ a b (kAM k (kAB g (w64 ((w64 (d+e))+f))))) (qj (cv (qdY a g l)) (cv (qdY b g n)))<|sq<|gq fol [4] (kJ a b ((5,.gslice 2 j.length 1)::(kAB g (w64 ((w64 (d+e))+f))))) (kAx ((w64 ((w64 (d+e))+f)).tmod 1000000000) (kA j [])) (qd (hx (kA k (kCC ((w64 ((w64 (d+e))+f)).tmod 1000000000))) (wap [0,1] jT (wdg 0 rfl o) (wsc 1 [(w64 ((w64 (d+e))+f)).tmod 1000000000] rfl))))<|gh fol (kJ a b ((5,.gslice 2 j.length 1)::(kAk (w64 ((w64 ((w64 (d+e))+f)).tdiv 1000000000)) g [])))<|gh fol (kJ a b ((5,.gslice 2 j.length 1)::(kAk (w64 ((w64 ((w64 (d+e))+f)).tdiv 1000000000)) (w64 (g+1)) [])))<|⟨M,(ofG 42 (kJ a b (kAM j (kAk (w64 ((w64 ((w64 (d+e))+f)).tdiv 1000000000)) (w64 (g+1)) []))),(kA j [])),aY _,(sN [] [some 2] kz (.ks .nil)),_,_,_,rfl,g5⟩
   cases g5
   exact aA<|⟨rfl,_,rfl,sK [5]⟩
 rintro x s' ⟨rfl,p,rfl,hsub⟩;obtain rfl:=si h;exact aq hsub<|sh fol [(4,.gslice 0 p.length 1)]<|ah<|(gw2 [.gslice 0 p.length 1] (FzW.fz (Uy (E:=encI) rfl rfl (nl rfl))))
def zJ (a b:List Int):Nat->(List Int)->Int->Int->Option (List Int)
 |0,_,_,_=>none
 |K+1,i,d,c=>
  if c<(a.length:Int)then
  (idx a c).bind λe=>
  (qbl b c).bind λf=>
  ((if(w64 ((w64 (e-f))-d))<0 then
  some (1,w64 ((w64 ((w64 (e-f))-d))+1000000000))
  else
  some (0,w64 ((w64 (e-f))-d)):Option (Int×Int))).bind λ(j,g)=>
  (app 8 i [g]).bind λh=>
  zJ a b K h j (w64 (c+1))
  else
  some i
def xB (N:Nat) (a b:List Int):Option (List Int):=
 (zJ a b N ([]:List Int) 0 0).bind λd=>
 (xu N d).bind λc=>
 some c
def qdz (N:Nat) (a b:List Int) {res:List Int}(h:xB N a b=some res):qc ZT (.fn 176) (kBb a b) [] (vl encI res) []:=by
 unfold xB at h;obtain⟨w,g5,h⟩:=bnd h;refine fW Tryz.func176 rfl<|sh fol (kJ a b [])<|sh fol (kJ a b [(5,.nilslice)])<|sh fol (kJ a b (kBq []))<|sq<|sh fol (kJ a b (kBq [(7,.i 0)]))<|aj<|gI (λx s'=>(x= .exit 0/\∃k,k=w/\Sub s' (ofG 35 (kAM k []),(kA k [])))) ?_ ?_
 ·refine aq (s':=(ofG 35 (kJ a b kCB),kAq)) (sN [] [none] (kk (kk (ke .nil kz))) (.fresh .nil))<|Ua (λM s=>∃(d:List Int) (g:Int) (c:Int),s=(ofG 35 (kJ a b (kAM d (kAk g c []))),(kA d []))/\zJ a b M d g c=some w) ?_ (m:=N) ⟨_,_,_,rfl,g5⟩;rintro M s ⟨d,g,c,rfl,g5⟩
  cases M with
  |zero=>cases g5
  |succ M=>
   rw[zJ]at g5;refine sq<|sh fol (kJ a b (kAM d (kAk g c (kBX (decide (c<(zl a)))))))<|ihD g5 (λy g5=>?_) (λy g5=>?_)
   ·obtain⟨o,j,p,r,u,g11,g5⟩:=bn3 g5;refine ag<|sq<|aj<|sq<|gr fol [2,3,6] (kJ a b (kAM d (kAB c (w64 ((w64 (o-p))-g))))) (qA (iv jT encI j) (lv 0 ce3 encI j rfl) (cv (qdY b c r)))<|sh fol (kJ a b (kAM d ((6,.i 0)::(kAB c (w64 ((w64 (o-p))-g))))))<|sq<|sh fol (kJ a b (kAM d ((6,.i 0)::(kB2 c (w64 ((w64 (o-p))-g)) [(26,.bool (decide ((w64 ((w64 (o-p))-g))<0)))]))))<|gI (λx s'=>(x= .normal/\∃q e,(q,e)=u/\Sub s' (ofG 35 (kJ a b (kAM d ((6,.i q)::(kAB c e)))),(kA d [])))) ?_ ?_
    ·refine ihD g11 (λv g11=>?_) (λv g11=>?_)
     ·cases g11
      exact sh fol (kJ a b (kAM d (kAB c (w64 ((w64 ((w64 (o-p))-g))+1000000000)))))<|gh fol (kJ a b (kAM d ((6,.i 1)::(kAB c (w64 ((w64 ((w64 (o-p))-g))+1000000000))))))<|⟨rfl,_,_,rfl,(bm _)⟩
     cases g11
     exact ag<|⟨rfl,_,_,rfl,sK [0,1,5,6,7,8]⟩
    rintro x s' ⟨rfl,q,e,rfl,hsub⟩;obtain⟨f,l,g5⟩:=bnd g5;exact aq hsub<|gq fol [3] (kJ a b ((5,.gslice 2 f.length 1)::(kAk q c []))) (kAx e (kA f [])) (qd (hx (kA d (kCC e)) (wap [0,1] jT (wdg 0 rfl l) (wsc 1 [e] rfl))))<|gh fol (kJ a b ((5,.gslice 2 f.length 1)::(kAk q (w64 (c+1)) [])))<|⟨M,(ofG 35 (kJ a b (kAM f (kAk q (w64 (c+1)) []))),(kA f [])),aY _,(sN [] [some 2] kz (.ks .nil)),_,_,_,rfl,g5⟩
   cases g5
   exact aA<|⟨rfl,_,rfl,sK [5]⟩
 rintro x s' ⟨rfl,k,rfl,hsub⟩;obtain⟨t,n,rfl⟩:=bs1 h;exact aq hsub<|sq<|gq fol [1] [(4,vl encI t)] (kAg k) (qd (wcf [.gslice 0 k.length 1] [0] (bi (Uy (E:=encI) rfl rfl (nl rfl)) bB) (xS N k n)))<|gN [] [] [(4,vl encI t)] [] kz .nil<|ah<|gw1
def qdw (N:Nat) (a b:qE):Option qE:=
 if(a.neg==b.neg)=true then
 (qaO N a.w b.w).bind λc=>
 (zP N a.neg c).bind λd=>
 some d
 else
 (jW N a.w b.w).bind λe=>
 if e>=0 then
 (xB N a.w b.w).bind λf=>
 (zP N a.neg f).bind λg=>
 some g
 else
 (xB N b.w a.w).bind λh=>
 (zP N b.neg h).bind λi=>
 some i
def qj2 (N:Nat) (a b:qE) {res:qE}(h:qdw N a b=some res):qc ZT (.fn 119) (kA2 a.neg a.w b.neg b.w) [] (.agg (kAp res.neg res.w)) []:=by
 unfold qdw at h;refine fW Tryz.func119 rfl<|sg fol (kI []) (kO a.neg a.w b.neg b.w (kS []))<|sq<|sh fol (kI (kBm (a.neg==b.neg)))<|ihB h (λn h=>?_) (λn h=>?_)
 ·obtain⟨o,c,k,d,rfl⟩:=bs2 h;exact sq<|gq fol [6,7] kAr (kO a.neg a.w b.neg b.w (kAf k.neg k.w [])) (qj (cv (qgE N a.w b.w c)) (cv (jm N a.neg o d)))<|ah<|gw1
 obtain⟨p,e,h⟩:=bnd h;refine ag<|sq<|sq<|gr fol [4] (kI [(23,.bool (decide (p>=0)))]) (qd (cv (qci N a.w b.w e)))<|ihD h (λq h=>?_) (λq h=>?_)
 ·obtain⟨r,f,l,g,rfl⟩:=bs2 h;exact sq<|gq fol [6,7] kAr (kO a.neg a.w b.neg b.w (kAf l.neg l.w [])) (qj (cv (qdz N a.w b.w f)) (cv (jm N a.neg r g)))<|ah<|gw1
 obtain⟨s,i,m,j,rfl⟩:=bs2 h;exact ag<|sq<|gq fol [6,7] kAr (kO a.neg a.w b.neg b.w (kAf m.neg m.w [])) (qj (cv (qdz N b.w a.w i)) (cv (jm N b.neg s j)))<|ah<|gw1
def qcO (N:Nat) (a b:Str):Option Str:=
 (vW N a).bind λc=>
 (vW N b).bind λd=>
 (if c.2.2=true then
 some d.2.2
 else
 some false:Option Bool).bind λl=>
 if l=true then
 (qeA N (w64 ((w64 (c.1*d.2.1))+(w64 (d.1*c.2.1)))) (w64 (c.2.1*d.2.1))).bind λm=>
 some m
 else
 (j6 N a).bind λe=>
 (j6 N b).bind λf=>
 (xO N e.1 f.2).bind λg=>
 (xO N f.1 e.2).bind λh=>
 (qdw N g h).bind λi=>
 (xO N e.2 f.2).bind λj=>
 (vZ N i j).bind λk=>
 some k
def qeP (N:Nat) (a b:Str) {res:Str}(h:qcO N a b=some res):qc ZT (.fn 61) [.str a,.str b] [] (.str res) []:=by
 unfold qcO at h;obtain⟨d,n,e,o,z,c,h⟩:=bn3 h;refine fW Tryz.func61 rfl<|sh fol (kX a b [])<|sq<|gr fol [1] (kX a b (kCE d.1 d.2.1 [(7,.bool d.2.2)])) (qd (cv (qcj N a n)))<|sq<|gr fol [1] (kX a b (kCE d.1 d.2.1 ((7,.bool d.2.2)::(kAz e.1 e.2.1 (kBJ e.2.2))))) (qd (cv (qcj N b o)))<|sq<|sq<|aQ (s':=(ofG 63 (kX a b (kCE d.1 d.2.1 (kAz e.1 e.2.1 [(30,.bool z)]))),[])) ?_ ?_
 ·rcases wyB c with⟨s,c⟩|⟨s,c⟩
  ·cases c
   exact tr fol [1] (kX a b (kCE d.1 d.2.1 (kAz e.1 e.2.1 [(30,.bool e.2.2)]))) (qd (gw s))
  cases c
  exact tr fol [1] (kX a b (kCE d.1 d.2.1 (kAz e.1 e.2.1 [(30,.bool false)]))) (qd (gw s))
 refine ihB h (λA h=>?_) (λA h=>?_)
 ·obtain⟨B,p,rfl⟩:=bs1 h;exact sq<|gr fol [10] (kBn B) (qd (cv (qh7 N (w64 ((w64 (d.1*e.2.1))+(w64 (e.1*d.2.1)))) (w64 (d.2.1*e.2.1)) p)))<|ah<|gw1
 obtain⟨f,q,g,r,t,i,u,j,v,k,x,l,y,m,rfl⟩:=bs7 h;exact ag<|sq<|gq fol [1] ((1,.str b)::(kBv [])) (kO f.1.neg f.1.w f.2.neg f.2.w []) (qd (cv (qar N a q)))<|sq<|gq fol [1] (kBv [(13,.ptr 2 0),(14,.ptr 3 0)]) (kO f.1.neg f.1.w f.2.neg f.2.w (kO g.1.neg g.1.w g.2.neg g.2.w [])) (qd (cv (qar N b r)))<|sq<|gr fol [2,5,6,9,10] (kBn y) (qbE (cv (qbh N f.1 g.2 i)) (cv (qbh N g.1 f.2 j)) (cv (qj2 N t u k)) (cv (qbh N f.2 g.2 l)) (cv (qa3 N v x m)))<|ah<|gw1
def qey (a:Str):Option Str:=
 (qbf a).bind λb=>
 if b<0 then
 (cut a 1 (a.length:Int)).bind λc=>
 some c
 else
 (qbf a).bind λd=>
 if d=0 then
 some a
 else
 (cat [45] a).bind λe=>
 some e
def qlo (a:Str) {res:Str}(h:qey a=some res):qc ZT (.fn 200) [.str a] [] (.str res) []:=by
 unfold qey at h;obtain⟨f,b,h⟩:=bnd h;refine fW Tryz.func200 rfl<|sh fol (kAm a)<|sq<|sq<|gr fol [1] ((0,.str a)::(kBo (decide (f<0)))) (qd (cv (qek a b)))<|ihD h (λg h=>?_) (λg h=>?_)
 ·obtain⟨i,c,rfl⟩:=bs1 h;exact sq<|gr fol [1] (kB5 i) (qd (wss qnb (some 1) none c))<|ah<|gw1
 obtain⟨j,d,h⟩:=bnd h;refine ag<|sq<|sq<|gr fol [1] ((0,.str a)::(kBJ (decide (j=0)))) (qd (cv (qek a d)))<|ihD h (λk h=>?_) (λk h=>?_)
 ·cases h
  exact sh fol (kB5 a)<|ah<|gw1
 obtain⟨l,e,rfl⟩:=bs1 h;exact ag<|sq<|gr fol [1] (kB5 l) (qd (wxc 42 e))<|ah<|gw1
def qeE (N:Nat) (a b:Str):Option Str:=
 (qey b).bind λc=>
 (qcO N a c).bind λd=>
 some d
def qlt (N:Nat) (a b:Str) {res:Str}(h:qeE N a b=some res):qc ZT (.fn 163) [.str a,.str b] [] (.str res) []:=by
 unfold qeE at h;obtain⟨e,c,f,d,rfl⟩:=bs2 h;exact fW Tryz.func163 rfl<|sh fol (kX a b [])<|sq<|gr fol [2,3] (kBn f) (qj (cv (qlo b c)) (cv (qeP N a e d)))<|ah<|gw1
def yn (a:List (List Str)):Nat->(List (List Str))->Int->Option (List (List Str))
 |0,_,_=>none
 |K+1,c,d=>
  if d<(a.length:Int)then
  ((idx a d).bind λh=>
  (match h with
  |[]=>
  (app 24 c [([]:List Str)]).bind λe=>
  some e
  |i::xs9=>
  (app 16 ([]:List Str) (i::xs9)).bind λb=>
  (app 24 c [b]).bind λf=>
  ((if 0<b.length then some ()else none:Option Unit)).bind λj=>
  some f):Option (List (List Str))).bind λg=>
  yn a K g (w64 (d+1))
  else
  some c
def qal (N:Nat) (a:List (List Str)):Option (List (List Str)):=
 (yn a N ([]:List (List Str)) 0).bind λb=>
 some b
def qg3 (N:Nat) (a:List (List Str)) {u:List (List Str)}(h:qal N a=some u):qc ZT (.fn 161) [vl eSS a] [] (.gslice 0 u.length 1) [bg encS u]:=by
 unfold qal at h;refine fH Tryz.func161 rfl ?_;intro B hB;obtain⟨w,g5,h⟩:=bnd h;refine sh fol [(0,vl eSS a)]<|sh fol ((0,vl eSS a)::(kCG []))<|sq<|sh fol ((0,vl eSS a)::(kCG kBr))<|aj<|gI (λx s'=>(x= .exit 0/\∃t,t=w/\Sub s' (ofG 21 [(3,.gslice 0 t.length 1)],[bg encS t]))) ?_ ?_
 ·refine aq (s':=(ofG 21 ((0,vl eSS a)::(3,.gslice 0 ([]:List (List Str)).length 1)::kBr),[bg encS ([]:List (List Str))])) (sB hB [] [none] (kk (ke .nil kz)) (.fresh .nil))<|Ua (λM s=>∃(f:List (List Str)) (j:Int),s=(ofG 21 ((0,vl eSS a)::(kA3 f j [])),[bg encS f])/\yn a M f j=some w) ?_ (m:=N) ⟨_,_,rfl,g5⟩;rintro M s ⟨f,j,rfl,g5⟩
  cases M with
  |zero=>cases g5
  |succ M=>
   rw[yn]at g5;refine sq<|sh fol ((0,vl eSS a)::(kA3 f j (kBN (decide (j<(zl a))))))<|ihD g5 (λy g5=>?_) (λy g5=>?_)
   ·obtain⟨q,e,g5⟩:=bnd g5;refine ag<|sq<|aj<|Goes.cutS (s':=(ofG 21 ((0,vl eSS a)::(kA3 q j [])),[bg encS q])) ?_ ?_
    ·obtain⟨z,i,e⟩:=bnd e;rcases z with _|⟨C,xs9⟩
     ·obtain⟨o,k,rfl⟩:=bs1 e;exact fB (fe fol [4,5,8] ((0,vl eSS a)::(3,.gslice 4 o.length 1)::(kBe j)) (kBL (kF ([]:List Str) (kCA ([]:List Str) [.bag (f.map (zY encS)++[.av (.gslice 2 ([]:List Str).length 1)])]))) (qA (iv yf eSS i) (lv 0 xW eSS i rfl) (hs (.run [0,3] (yo ZT [22,22] (.gslice 0 f.length 1) (.slice 3 0 1 1 1)) (bg encS f:: .dead::(kF ([]:List Str) (kCA ([]:List Str) []))) (.gslice 4 o.length 1) (kBL (kF ([]:List Str) (kCA ([]:List Str) [.bag (f.map (zY encS)++[.av (.gslice 2 ([]:List Str).length 1)])]))) true) (qij yf (E:=encS) (l:=f) (x:=([]:List Str)) rfl rfl rfl rfl rfl k rfl)))) ((show Sub _ (ofG 21 ((0,vl eSS a)::(3,.gslice 4 o.length 1)::(kBe j)),(kP (kCA ([]:List Str) [bg encS o])))from(Ut (E:=encS) (b:=4) (c:=2) (aF rfl) rfl rfl k .g rfl)).trans (sB hB [] [some 4] kz (kbg .nil)))
     obtain⟨d,r,p,n,A,v,rfl⟩:=bs3 e;exact fB (fe fol [4,5,6,8] ((0,vl eSS a)::(3,.gslice 4 p.length 1)::(kBe j)) (kBL (kF d (kCA d [.bag (f.map (zY encS)++[.av (.gslice 2 d.length 1)])]))) (zO (iv yf eSS i) (lv 0 xW eSS i rfl) (hx [bg encS f,.cells []] (wap [1] qa6 (wdz encS 1 rfl r) wsv)) (hs (.run [0,3] (yo ZT [22,22] (.gslice 0 f.length 1) (.slice 3 0 1 1 1)) (bg encS f:: .dead::(kF d (kCA d []))) (.gslice 4 p.length 1) (kBL (kF d (kCA d [.bag (f.map (zY encS)++[.av (.gslice 2 d.length 1)])]))) true) (qij yf (E:=encS) (l:=f) (x:=d) rfl rfl rfl rfl rfl n rfl)))) ((show Sub _ (ofG 21 ((0,vl eSS a)::(3,.gslice 4 p.length 1)::(kBe j)),(kP (kCA d [bg encS p])))from(Ut (E:=encS) (b:=4) (c:=2) (aF rfl) rfl rfl n .g rfl)).trans (sB hB [] [some 4] kz (kbg .nil)))
    intro _ hsub;exact aq hsub<|gh fol ((0,vl eSS a)::(kA3 q (w64 (j+1)) []))<|qY ⟨_,_,rfl,g5⟩
   cases g5
   exact aA<|⟨rfl,_,rfl,sK [3]⟩
 rintro x s' ⟨rfl,t,rfl,hsub⟩;obtain rfl:=si h;exact aq hsub<|sh fol [(2,.gslice 0 t.length 1)]<|ah<|(gh2 [.gslice 0 t.length 1] (di _ _))
def qbq (a:List (List Str)):Option Int:=
 if(a.length:Int)=0 then
 some 0
 else
 (idx a 0).bind λb=>
 some (b.length:Int)
def qd5 (a:List (List Str)) {f:Int}(h:qbq a=some f):qc ZT (.fn 109) [.gslice 0 a.length 1] [bg encS a] (.i f) [bg encS a]:=by
 unfold qbq at h;refine fH Tryz.func109 rfl ?_;intro B hB;refine sh fol (kAK a [])<|sq<|sh fol (kAK a (kBo (decide ((zl a)=0))))<|ihD h (λj h=>?_) (λj h=>?_)
 ·cases h
  exact sh fol kBs<|ah<|(gh2 [.i 0] (di _ _))
 obtain⟨e,d,rfl⟩:=bs1 h;exact ag<|sq<|aq (s':=(ofG 10 (kAK a (kBo (decide ((zl a)=0)))),(.bag ((a.map (zY encS)).set (0:Int).toNat (.av (.gslice 1 e.length 1)))::(kF e [])))) (Uc (E:=encS) (b:=0) rfl d)<|gr fol [1,2] (kBM (zl e)) (qj (wig yf 0 d) (wlb xW 0 rfl (at_set d)))<|aq (show Sub _ (ofG 10 (kBM (zl e)),[bg encS a,.dead])from(Ud (E:=encS) (b:=0) (c:=1) (aF rfl) rfl rfl d .g rfl))<|ah<|(gh2 [.i (zl e)] (Sub.norm [] [some 0] (by rw[hB];rfl) rfl (.keep (.same nI) .nil) (.kb rfl eM .nil)))
def yz (b:List (List Str)) (f:Int):Nat->Int->Option Int
 |0,_=>none
 |K+1,a=>
  if a<(b.length:Int)then
  (idx b a).bind λc=>
  (idx c f).bind λd=>
  (xK d).bind λe=>
  if e=true then
  yz b f K (w64 (a+1))
  else
  some a
  else
  some a
def xD (N:Nat) (d:Str) (e:List Int):Nat->(List (List Str))->Int->Option (List (List Str))
 |0,_,_=>none
 |K+1,b,a=>
  (idx b (e.length:Int)).bind λc=>
  if a<(c.length:Int)then
  (idx c a).bind λf=>
  (qb3 N f d).bind λg=>
  (put c a g).bind λh=>
  xD N d e K (jZ b (e.length:Int) h) (w64 (a+1))
  else
  some b
def xG (N:Nat) (e:Str) (l:List Int) (c:Int):Nat->(List (List Str))->Int->Option (List (List Str))
 |0,_,_=>none
 |K+1,b,a=>
  (idx b c).bind λd=>
  if a<(d.length:Int)then
  (idx b (l.length:Int)).bind λf=>
  (idx d a).bind λg=>
  (idx f a).bind λh=>
  (qb3 N e h).bind λi=>
  (qeE N g i).bind λj=>
  (put d a j).bind λk=>
  xG N e l c K (jZ b c k) (w64 (a+1))
  else
  some b
def xH (N:Nat) (d:List Int) (j:Int):Nat->(List (List Str))->Int->Option (List (List Str))
 |0,_,_=>none
 |K+1,b,a=>
  if a<(b.length:Int)then
  (((idx b a).bind λe=>
  (idx e j).bind λc=>
  (if a=(d.length:Int)then
  some true
  else
  (xK c).bind λf=>
  some f:Option Bool).bind λg=>
  if g=true then
  some b
  else
  if a=(d.length:Int)then
  none
  else
  (xG N c d a N b 0).bind λh=>
  some h:Option (List (List Str)))).bind λi=>
  xH N d j K i (w64 (a+1))
  else
  some b
def jo (N:Nat):Nat->(List (List Str))->(List Int)->Int->Option ((List (List Str))×(List Int))
 |0,_,_,_=>none
 |K+1,b,a,d=>
  ((qbq b).bind λf=>
  if d<f then
  some (decide ((a.length:Int)<(b.length:Int)))
  else
  some false:Option Bool).bind λg=>
  if g=true then
  (((yz b d N (a.length:Int)).bind λc=>
  if c=(b.length:Int)then
  some (b,a)
  else
  ((if c=(a.length:Int)then
  (idx b (a.length:Int)).bind λr=>
  some b
  else
  (idx b (a.length:Int)).bind λh=>
  (idx b c).bind λi=>
  some (jZ (jZ b c h) (a.length:Int) i):Option (List (List Str)))).bind λe=>
  (idx e (a.length:Int)).bind λj=>
  (idx j d).bind λk=>
  (qah N k).bind λl=>
  (xD N l a N e 0).bind λm=>
  (xH N a d N m 0).bind λn=>
  (app 8 a [d]).bind λo=>
  some (n,o):Option ((List (List Str))×(List Int)))).bind λ(p,q)=>
  jo N K p q (w64 (d+1))
  else
  some (b,a)
def qbB (N:Nat) (m:List (List Str)):Option ((List (List Str))×(List Int)):=
 (qal N m).bind λd=>
 (jo N N d ([]:List Int) 0).bind λ(b,c)=>
 ((if 0<b.length then some ()else none:Option Unit)).bind λe=>
 (cut b 0 (c.length:Int)).bind λa=>
 some (a,c)
def qfk (N:Nat) (m:List (List Str)) {res:(List (List Str))×(List Int)}(h:qbB N m=some res):qc ZT (.fn 110) [vl eSS m] [] (.tuple [vl eSS res.1,vl encI res.2]) []:=by
 unfold qbB at h;obtain⟨l2,e_r1,r8,g8,h⟩:=bn2 h;refine fW Tryz.func110 rfl<|sh fol [(0,vl eSS m)]<|sq<|gq fol [1] (kAK l2 []) [bg encS l2] (qd (wch [] (.gslice 0 l2.length 1) [bg encS l2] [] [some 0] (qg3 N m e_r1) .nil (.new rfl rfl eM rfl .nil) (rc (.same (kr eSS _)) rn) (.gslice rfl)))<|sh fol (kAK l2 (kBY []))<|sq<|sh fol (kAK l2 (kBY [(5,.i 0)]))<|aj<|gI (λx s'=>(x= .exit 0/\∃l6 l7,(l6,l7)=r8/\Sub s' (ofG 159 (kAK l6 (kBx l7)),(bg encS l6::(kA l7 []))))) ?_ ?_
 ·refine aq (s':=(ofG 159 (kAK l2 [(4,.gslice 1 ([]:List Int).length 1),(5,.i 0)]),(bg encS l2::kAq))) (sN [] [some 0,none] (kk (ke .nil kz)) (kbg (.fresh .nil)))<|Ua (λM s=>∃(k:List (List Str)) (a:List Int) (f:Int),s=(ofG 159 (kD k a f []),(bg encS k::(kA a [])))/\jo N M k a f=some r8) ?_ (m:=N) ⟨_,_,_,rfl,g8⟩;rintro M s ⟨k,a,f,rfl,g8⟩
  cases M with
  |zero=>cases g8
  |succ M=>
   rw[jo]at g8;obtain⟨b12,v,g8⟩:=bnd g8;refine sq<|sq<|aQ (s':=(ofG 159 (kD k a f [(25,.bool b12)]),(bg encS k::(kA a [])))) ?_ ?_
   ·obtain⟨n10,e_r9,v⟩:=bnd v;rcases wyD v with⟨c11,v⟩|⟨c11,v⟩
    ·cases v
     exact tr fol [2,4] (kD k a f [(25,.bool (decide ((zl a)<(zl k))))]) (qj (wch [0] (.i n10) (bg encS k::(kA a [])) [some 0] [some 0,none] (qd5 k e_r9) (.kb rfl eM .nil) (.back rfl rfl eM rfl (.old rfl rfl .nil)) (rc (.gslice rfl) rn) (.same nI)) (gw c11))
    cases v
    exact tr fol [2,4] (kD k a f [(25,.bool false)]) (qj (wch [0] (.i n10) (bg encS k::(kA a [])) [some 0] [some 0,none] (qd5 k e_r9) (.kb rfl eM .nil) (.back rfl rfl eM rfl (.old rfl rfl .nil)) (rc (.gslice rfl) rn) (.same nI)) (gw c11))
   refine ihB g8 (λc14 g8=>?_) (λc14 g8=>?_)
   ·obtain⟨r17,g17,g8⟩:=bnd g8;refine ag<|sq<|gI (λx s'=>(x= .normal/\∃a0 a1,(a0,a1)=r17/\Sub s' (ofG 159 (kD a0 a1 f []),(bg encS a0::(kA a1 []))))) ?_ ?_
    ·obtain⟨r20,g20,g17⟩:=bnd g17;refine aj<|sh fol (kD k a f (kBK (zl a)))<|sq<|aj<|gI (λx s'=>(x= .exit 2/\∃w,w=r20/\Sub s' (ofG 159 (kD k a f (kBK w)),(bg encS k::(kA a []))))) ?_ ?_
     ·refine Ua (λM s=>∃(H:Int),s=(ofG 159 (kD k a f (kBK H)),(bg encS k::(kA a [])))/\yz k f M H=some r20) ?_ (m:=N) ⟨_,rfl,g20⟩;rintro M s ⟨H,rfl,g20⟩
      cases M with
      |zero=>cases g20
      |succ M=>
       rw[yz]at g20;refine ihF g20 (λc21 g20=>?_) (λc21 g20=>?_)
       ·obtain⟨x23,I,x24,a2,r25,e_r25,g20⟩:=bn3 g20;refine sq<|sq<|aq (s':=(ofG 159 (kD k a f (kBK H)),(.bag ((k.map (zY encS)).set (H:Int).toNat (.av (.gslice 2 x23.length 1)))::(kA a (kF x23 []))))) (Uc (E:=encS) (b:=0) rfl I)<|gr fol [4,7,8,10,11,12] (kD k a f [(6,.i H),(43,.bool r25)]) (qdO (gw c21) (wig yf 0 I) (wlb xW 0 rfl (at_set I)) (wig qa6 2 a2) (wlp qc8 2 rfl a2 rfl) (cv (qbO x24 e_r25)))<|gS (kD k a f [(6,.i H),(43,.bool r25)]) (bg encS k::(kA a [.dead])) (Ud (E:=encS) (b:=0) (c:=2) (aF rfl) rfl rfl I .g rfl)<|ihB g20 (λc26 g20=>?_) (λc26 g20=>?_)
        ·exact ag<|aj<|gh fol (kD k a f (kBK (w64 (H+1))))<|⟨M,(ofG 159 (kD k a f (kBK (w64 (H+1)))),(bg encS k::(kA a []))),aY _,(sN [] [some 0,some 1] kz (kbg (.ks .nil))),_,rfl,g20⟩
        cases g20
        exact aA<|⟨rfl,_,rfl,(sN [] [some 0,some 1] kz (kbg (.ks .nil)))⟩
       refine sq<|sq<|gr fol [4] (kD k a f [(6,.i H),(43,.bool false)]) (qd (gw c21))<|Goes.ifB (b:=false) (by kernel_rfl) (λc=>(by cases c)) (λ_=>?_);cases g20
       exact aA<|⟨rfl,_,rfl,sK [0,4,5,6]⟩
     rintro x s' ⟨rfl,w,rfl,hsub⟩;refine aq hsub<|sq<|sh fol (kD k a f [(6,.i w),(49,.bool (decide (w=(zl k))))])<|ihD g17 (λc27 g17=>?_) (λc27 g17=>?_)
     ·cases g17
      exact aA<|⟨rfl,_,_,rfl,sK [0,4,5]⟩
     obtain⟨r29,g29,g17⟩:=bnd g17;refine ag<|sh fol (kD k a f (kAk w (zl a) []))<|sq<|gI (λx s'=>(x= .normal/\∃C,C=r29/\Sub s' (ofG 159 (kD C a f (kBT (zl a))),(bg encS C::(kA a []))))) ?_ ?_
     ·refine ihF g29 (λX g29=>?_) (λX g29=>?_)
      ·revert g29;obtain rfl:=ot X;intro g29;obtain⟨Q,n,rfl⟩:=bs1 g29;exact aq (s':=(ofG 159 (kD k a f ((6,.i (zl a))::(kBT (zl a)))),(.bag ((k.map (zY encS)).set ((zl a):Int).toNat (.av (.gslice 2 Q.length 1)))::(kA a (kF Q []))))) (Uc (E:=encS) (b:=0) rfl n)<|gq fol [6,7,10,11,12,13,14,15] (kD k a f (kBT (zl a))) (.bag ((((k.map (zY encS)).set ((zl a):Int).toNat (.av (.gslice 2 Q.length 1))).set ((zl a):Int).toNat (.av (.gslice 2 Q.length 1))).set ((zl a):Int).toNat (.av (.gslice 2 Q.length 1)))::(kA a (kF Q []))) (qiM (wig yf 0 n) (wlb xW 0 rfl (at_set n)) (wig yf 0 n) (wlb xW 0 rfl (at_set n)) (wig yf 0 n) (wsb 23 0 (zl a) (.gslice 2 Q.length 1) rfl (xJ (qeG n))) (wig yf 0 n) (wsb 23 0 (zl a) (.gslice 2 Q.length 1) rfl (xJ (xJ (qeG n)))))<|⟨rfl,_,rfl,((show Sub _ (ofG 159 (kD k a f (kBT (zl a))),(bg encS k::(kA a [.dead])))from(Sub.bagSame (E:=encS) (b:=0) (c:=2) (aF rfl) rfl rfl n .g rfl)).trans (sN [] [some 0,some 1] kz (kbg (.ks .nil))))⟩
      obtain⟨F,t,J,y,rfl⟩:=bs2 g29;exact aq (s':=(ofG 159 (kD k a f (kAk w (zl a) [])),(.bag ((k.map (zY encS)).set ((zl a):Int).toNat (.av (.gslice 2 F.length 1)))::(kA a (kF F []))))) (Uc (E:=encS) (b:=0) rfl t)<|aq (s':=(ofG 159 (kD k a f (kAk w (zl a) [])),(.bag (((k.map (zY encS)).set ((zl a):Int).toNat (.av (.gslice 2 F.length 1))).set (w:Int).toNat (.av (.gslice 3 J.length 1)))::(kA a (kF F (kF J [])))))) (Uu (E:=encS) (b:=0) rfl t y (Ne.symm (of_ X)))<|gq fol [6,7,10,11,12,13,14,15] (kD k a f (kBT (zl a))) (.bag (((((k.map (zY encS)).set ((zl a):Int).toNat (.av (.gslice 2 F.length 1))).set (w:Int).toNat (.av (.gslice 3 J.length 1))).set (w:Int).toNat (.av (.gslice 2 F.length 1))).set ((zl a):Int).toNat (.av (.gslice 3 J.length 1)))::(kA a (kF F (kF J [])))) (qiM (wig yf 0 t) (wlb xW 0 rfl (qin t y (Ne.symm (of_ X)))) (wig yf 0 y) (wlb xW 0 rfl (qim t y (Ne.symm (of_ X)))) (wig yf 0 y) (wsb 23 0 w (.gslice 2 F.length 1) rfl (xJ (xJ (qeG y)))) (wig yf 0 t) (wsb 23 0 (zl a) (.gslice 3 J.length 1) rfl (xJ (xJ (xJ (qeG t))))))<|⟨rfl,_,rfl,(((show Sub _ (ofG 159 (kD k a f (kBT (zl a))),(bg encS (jZ (jZ k w F) (zl a) J)::(kA a (kBL []))))from(Sub.bagSwap (E:=encS) (b:=0) (c:=2) (d:=3) (aF rfl) (aF rfl) (aF rfl) rfl rfl rfl t y (Ne.symm (of_ X)) .g .g rfl rfl)).trans (show Sub _ (ofG 159 (kD (jZ (jZ k w F) (zl a) J) a f (kBT (zl a))),(bg encS (jZ (jZ k w F) (zl a) J)::(kA a [])))from(sN [] [some 0,some 1] (ke (.gsliceE rfl ((qcp _ _ _).trans (qcp _ _ _))) kz) (kbg (.ks .nil))))).trans (bm _))⟩
     rintro x s' ⟨rfl,C,rfl,hsub⟩;obtain⟨x38,K,x39,a3,z,e_r40,r44,g44,g17⟩:=bn4 g17;refine aq hsub<|sq<|aq (s':=(ofG 159 (kD C a f (kBT (zl a))),(.bag ((C.map (zY encS)).set ((zl a):Int).toNat (.av (.gslice 2 x38.length 1)))::(kA a (kF x38 []))))) (Uc (E:=encS) (b:=0) rfl K)<|gr fol [2,3,5,6,7] (kD C a f [(7,.i (zl a)),(8,.str z)]) (qbE (wig yf 0 K) (wlb xW 0 rfl (at_set K)) (wig qa6 2 a3) (wlp qc8 2 rfl a3 rfl) (cv (qgm N x39 e_r40)))<|gS (kD C a f [(7,.i (zl a)),(8,.str z)]) (bg encS C::(kA a [.dead])) (Ud (E:=encS) (b:=0) (c:=2) (aF rfl) rfl rfl K .g rfl)<|sq<|sh fol (kD C a f [(7,.i (zl a)),(8,.str z),(9,.i 0)])<|aj<|gI (λx s'=>(x= .exit 4/\∃a4,a4=r44/\Sub s' (ofG 159 (kD a4 a f (kBT (zl a))),(bg encS a4::(kA a []))))) ?_ ?_
     ·refine aq (s':=(ofG 159 (kD C a f [(7,.i (zl a)),(8,.str z),(9,.i 0)]),(bg encS C::(kA a [])))) (sN [] [some 0,some 1] kz (kbg (.ks .nil)))<|Ua (λM s=>∃(r:List (List Str)) (A:Int),s=(ofG 159 (kD r a f (kAV (zl a) z A [])),(bg encS r::(kA a [])))/\xD N z a M r A=some r44) ?_ (m:=N) ⟨_,_,rfl,g44⟩;rintro M s ⟨r,A,rfl,g44⟩
      cases M with
      |zero=>cases g44
      |succ M=>
       rw[xD]at g44;obtain⟨U,o,g44⟩:=bnd g44;refine sq<|sq<|aq (s':=(ofG 159 (kD r a f (kAV (zl a) z A [])),(.bag ((r.map (zY encS)).set ((zl a):Int).toNat (.av (.gslice 2 U.length 1)))::(kA a (kF U []))))) (Uc (E:=encS) (b:=0) rfl o)<|gr fol [3,4] (kD r a f (kAV (zl a) z A [(80,.bool (decide (A<(zl U))))])) (qj (wig yf 0 o) (wlb xW 0 rfl (at_set o)))<|gS (kD r a f (kAV (zl a) z A [(80,.bool (decide (A<(zl U))))])) (bg encS r::(kA a [.dead])) (Ud (E:=encS) (b:=0) (c:=2) (aF rfl) rfl rfl o .g rfl)<|ihD g44 (λc47 g44=>?_) (λc47 g44=>?_)
       ·obtain⟨x48,L,r49,e_r49,a5,a6,g44⟩:=bn3 g44;exact ag<|sq<|aj<|aq (s':=(ofG 159 (kD r a f (kAV (zl a) z A [(80,.bool (decide (A<(zl U))))])),(.bag ((r.map (zY encS)).set ((zl a):Int).toNat (.av (.gslice 3 U.length 1)))::(kA a (.dead::(kF U [])))))) (Uc (E:=encS) (b:=0) rfl o)<|gq fol [2,3,7,8,10,11,13,14,15] (kD r a f (kAV (zl a) z A [])) (.bag ((r.map (zY encS)).set ((zl a):Int).toNat (.av (.gslice 3 U.length 1)))::(kA a (.dead::(kF a5 [])))) (qhz (wig yf 0 o) (wlb xW 0 rfl (at_set o)) (wig yf 0 o) (wlb xW 0 rfl (at_set o)) (wig qa6 3 L) (wlp qc8 3 rfl L rfl) (cv (qdn N x48 z e_r49)) (wig qa6 3 L) (qd (wsp 42 3 rfl L a6 rfl)))<|aq ((show Sub _ (ofG 159 (kD r a f (kAV (zl a) z A [])),(bg encS (jZ r (zl a) a5)::(kA a (kBL []))))from(Un (E:=encS) (b:=0) (c:=3) (aF rfl) rfl rfl o .g (zD a6))).trans (show Sub _ (ofG 159 (kD (jZ r (zl a) a5) a f (kAV (zl a) z A [])),(bg encS (jZ r (zl a) a5)::(kA a [])))from(sN [] [some 0,some 1] (ke (.gsliceE rfl (qcp _ _ _)) kz) (kbg (.ks .nil)))))<|gh fol (kD (jZ r (zl a) a5) a f (kAV (zl a) z (w64 (A+1)) []))<|qY ⟨_,_,rfl,g44⟩
       cases g44
       exact aA<|⟨rfl,_,rfl,(sN [] [some 0,some 1] kz (kbg (.ks .nil)))⟩
     rintro x s' ⟨rfl,a4,rfl,hsub⟩;obtain⟨r54,g54,g17⟩:=bnd g17;refine aq hsub<|sq<|sh fol (kD a4 a f [(7,.i (zl a)),(10,.i 0)])<|aj<|gI (λx s'=>(x= .exit 6/\∃V,V=r54/\Sub s' (ofG 159 (kD V a f []),(bg encS V::(kA a []))))) ?_ ?_
     ·refine Ua (λM s=>∃(q:List (List Str)) (e:Int),s=(ofG 159 (kD q a f [(7,.i (zl a)),(10,.i e)]),(bg encS q::(kA a [])))/\xH N a f M q e=some r54) ?_ (m:=N) ⟨_,_,rfl,g54⟩;rintro M s ⟨q,e,rfl,g54⟩
      cases M with
      |zero=>cases g54
      |succ M=>
       rw[xH]at g54;refine sq<|sh fol (kD q a f [(7,.i (zl a)),(10,.i e),(101,.bool (decide (e<(zl q))))])<|ihD g54 (λc55 g54=>?_) (λc55 g54=>?_)
       ·obtain⟨r57,g57,g54⟩:=bnd g54;refine ag<|sq<|gI (λx s'=>(x= .normal/\∃a7,a7=r57/\Sub s' (ofG 159 (kD a7 a f [(7,.i (zl a)),(10,.i e)]),(bg encS a7::(kA a []))))) ?_ ?_
        ·obtain⟨x59,O,p,a8,b63,G,g57⟩:=bn3 g57;refine aj<|sq<|aq (s':=(ofG 159 (kD q a f [(7,.i (zl a)),(10,.i e),(101,.bool (decide (e<(zl q))))]),(.bag ((q.map (zY encS)).set (e:Int).toNat (.av (.gslice 2 x59.length 1)))::(kA a (kF x59 []))))) (Uc (E:=encS) (b:=0) rfl O)<|gr fol [2,3,5,6] (kD q a f (kAC (zl a) e p [])) (zO (wig yf 0 O) (wlb xW 0 rfl (at_set O)) (wig qa6 2 a8) (wlp qc8 2 rfl a8 rfl))<|gS (kD q a f (kAC (zl a) e p [])) (bg encS q::(kA a [.dead])) (Ud (E:=encS) (b:=0) (c:=2) (aF rfl) rfl rfl O .g rfl)<|sq<|sq<|aQ (s':=(ofG 159 (kD q a f (kAC (zl a) e p [(117,.bool b63)])),(bg encS q::(kA a [.dead])))) ?_ ?_
         ·rcases wyD G with⟨c61,G⟩|⟨c61,G⟩
          ·cases G
           exact tr fol [3] (kD q a f (kAC (zl a) e p [(117,.bool true)])) (qd (gw c61))
          obtain⟨r62,e_r62,rfl⟩:=bs1 G;exact tr fol [3,5] (kD q a f (kAC (zl a) e p [(117,.bool r62)])) (qj (gw c61) (cv (qbO p e_r62)))
         refine ihB g57 (λc65 g57=>?_) (λc65 g57=>?_)
         ·cases g57
          exact aA<|⟨rfl,_,rfl,(sN [] [some 0,some 1] kz (kbg (.ks .nil)))⟩
         refine ag<|sh fol (kD q a f (kAC (zl a) e p [(12,.i 0)]))<|ihF g57 (λY g57=>?_) (λY g57=>?_)
         ·cases g57
         obtain⟨r70,g70,g57⟩:=bnd g57;refine aj<|gI (λx s'=>(x= .exit 8/\∃b2,b2=r70/\Sub s' (ofG 159 (kD b2 a f [(7,.i (zl a)),(10,.i e)]),(bg encS b2::(kA a []))))) ?_ ?_
         ·refine aq (s':=(ofG 159 (kD q a f (kAC (zl a) e p [(12,.i 0)])),(bg encS q::(kA a [])))) (sN [] [some 0,some 1] kz (kbg (.ks .nil)))<|Ua (λM s=>∃(l:List (List Str)) (u:Int),s=(ofG 159 (kD l a f (kAC (zl a) e p (kBl u))),(bg encS l::(kA a [])))/\xG N p a e M l u=some r70) ?_ (m:=N) ⟨_,_,rfl,g70⟩;rintro M s ⟨l,u,rfl,g70⟩
          cases M with
          |zero=>cases g70
          |succ M=>
           rw[xG]at g70;obtain⟨D,j,g70⟩:=bnd g70;refine sq<|sq<|aq (s':=(ofG 159 (kD l a f (kAC (zl a) e p (kBl u))),(.bag ((l.map (zY encS)).set (e:Int).toNat (.av (.gslice 2 D.length 1)))::(kA a (kF D []))))) (Uc (E:=encS) (b:=0) rfl j)<|gr fol [3,4] (kD l a f (kAC (zl a) e p [(12,.i u),(124,.bool (decide (u<(zl D))))])) (qj (wig yf 0 j) (wlb xW 0 rfl (at_set j)))<|gS (kD l a f (kAC (zl a) e p [(12,.i u),(124,.bool (decide (u<(zl D))))])) (bg encS l::(kA a [.dead])) (Ud (E:=encS) (b:=0) (c:=2) (aF rfl) rfl rfl j .g rfl)<|ihD g70 (λc73 g70=>?_) (λc73 g70=>?_)
           ·obtain⟨b3,B,x77,P,x78,a9,r79,e_r79,r80,e_r80,Z,b0,g70⟩:=bn6 g70;exact ag<|sq<|aj<|aq (s':=(ofG 159 (kD l a f (kAC (zl a) e p [(12,.i u),(124,.bool (decide (u<(zl D))))])),(.bag ((l.map (zY encS)).set (e:Int).toNat (.av (.gslice 3 D.length 1)))::(kA a (.dead::(kF D [])))))) (Uc (E:=encS) (b:=0) rfl j)<|aq (s':=(ofG 159 (kD l a f (kAC (zl a) e p [(12,.i u),(124,.bool (decide (u<(zl D))))])),(.bag (((l.map (zY encS)).set (e:Int).toNat (.av (.gslice 3 D.length 1))).set ((zl a):Int).toNat (.av (.gslice 4 b3.length 1)))::(kA a (.dead::(kF D (kF b3 []))))))) (Uu (E:=encS) (b:=0) rfl j B (of_ Y))<|gq fol [2,3,7,8,10,11,15,16,18,19,20,21,22,23] (kD l a f (kAC (zl a) e p (kBl u))) (.bag (((l.map (zY encS)).set (e:Int).toNat (.av (.gslice 3 D.length 1))).set ((zl a):Int).toNat (.av (.gslice 4 b3.length 1)))::(kA a (.dead::(kF Z (kF b3 []))))) (qhz (wig yf 0 j) (wlb xW 0 rfl (qin j B (of_ Y))) (wig yf 0 j) (wlb xW 0 rfl (qin j B (of_ Y))) (wig qa6 3 P) (wlp qc8 3 rfl P rfl) (wig yf 0 B) (wlb xW 0 rfl (qim j B (of_ Y))) (qdO (wig qa6 4 a9) (wlp qc8 4 rfl a9 rfl) (cv (qdn N p x78 e_r79)) (cv (qlt N x77 r79 e_r80)) (wig qa6 3 P) (wsp 42 3 rfl P b0 rfl)))<|aq (((show Sub _ (ofG 159 (kD l a f (kAC (zl a) e p (kBl u))),(.bag ((l.map (zY encS)).set (e:Int).toNat (.av (.gslice 3 D.length 1)))::(kA a (.dead::(kF Z [.dead])))))from(Sub.bagBack2 (E:=encS) (b:=0) (c:=4) (aF rfl) rfl rfl j B (of_ Y) .g rfl)).trans (show Sub _ (ofG 159 (kD l a f (kAC (zl a) e p (kBl u))),(bg encS (jZ l e Z)::(kA a (kP []))))from(Un (E:=encS) (b:=0) (c:=3) (aF rfl) rfl rfl j .g (zD b0)))).trans (show Sub _ (ofG 159 (kD (jZ l e Z) a f (kAC (zl a) e p (kBl u))),(bg encS (jZ l e Z)::(kA a [])))from(sN [] [some 0,some 1] (ke (.gsliceE rfl (qcp _ _ _)) kz) (kbg (.ks .nil)))))<|gh fol (kD (jZ l e Z) a f (kAC (zl a) e p (kBl (w64 (u+1)))))<|qY ⟨_,_,rfl,g70⟩
           cases g70
           exact aA<|⟨rfl,_,rfl,(sN [] [some 0,some 1] kz (kbg (.ks .nil)))⟩
         rintro x s' ⟨rfl,b2,rfl,hsub⟩;cases g57
         exact⟨rfl,_,rfl,hsub⟩
        rintro x s' ⟨rfl,a7,rfl,hsub⟩;exact aq hsub<|gh fol (kD a7 a f [(7,.i (zl a)),(10,.i (w64 (e+1)))])<|qY ⟨_,_,rfl,g54⟩
       cases g54
       exact aA<|⟨rfl,_,rfl,sK [0,4,5]⟩
     rintro x s' ⟨rfl,V,rfl,hsub⟩;obtain⟨l82,e_l82,rfl⟩:=bs1 g17;exact aq hsub<|gq fol [3] (kAK V ((4,.gslice 3 l82.length 1)::(kAy f))) (bg encS V::(kAx f (kA l82 []))) (qd (hx (bg encS V::(kA a (kCC f))) (wap [1,2] jT (wdg 1 rfl e_l82) (wsc 2 [f] rfl))))<|⟨rfl,_,_,rfl,(sN [] [some 0,some 3] kz (kbg (.ks .nil)))⟩
    rintro x s' ⟨rfl,a0,a1,rfl,hsub⟩;exact aq hsub<|gh fol (kD a0 a1 (w64 (f+1)) [])<|qY ⟨_,_,_,rfl,g8⟩
   obtain rfl:=si g8;exact aA<|⟨rfl,_,_,rfl,sK [0,4]⟩
 rintro x s' ⟨rfl,l6,l7,rfl,hsub⟩;obtain⟨u84,e_u84,l83,b1,rfl⟩:=bs2 h;exact aq hsub<|sq<|gr fol [3] (kBQ l83 l7) (qd (hs (.done (.opt (zV ZT 22 (.gslice 0 l6.length 1) none (some (.i (zl l7))) none)) (.oslice 0 l83.length 1)) (sh_gs yf (qn9 e_u84) b1)))<|aq (Ur (E:=encS) (b:=0) rfl)<|ah<|(gw2 [.oslice 0 l83.length 1,.gslice 1 l7.length 1] (cj (ba (FzW.fz (Fz.cutF (E:=eSS) rfl rfl b1 (nl rfl))) (ba (FzW.fz (Uy (E:=encI) rfl rfl (nl rfl))) ci))))
def qcQ (N:Nat) (m:List (List Str)):Option (List (List Str)):=
 (qbB N m).bind λa=>
 some a.1
def qhG (N:Nat) (m:List (List Str)) {res:List (List Str)}(h:qcQ N m=some res):qc ZT (.fn 108) [vl eSS m] [] (vl eSS res) []:=by
 unfold qcQ at h;obtain⟨b,a,rfl⟩:=bs1 h;exact fW Tryz.func108 rfl<|sh fol [(0,vl eSS m)]<|sq<|gr fol [1] [(3,vl eSS b.1)] (qd (cv (qfk N m a)))<|sh fol [(2,vl eSS b.1)]<|ah<|gw1
def jF (N:Nat) (m:List (List Str)):Option Int:=
 (qcQ N m).bind λa=>
 some (a.length:Int)
def qbH (N:Nat) (m:List (List Str)) {res:Int}(h:jF N m=some res):qc ZT (.fn 58) [vl eSS m] [] (.i res) []:=by
 unfold jF at h;obtain⟨b,a,rfl⟩:=bs1 h;exact fW Tryz.func58 rfl<|sh fol [(0,vl eSS m)]<|sq<|gr fol [1] (kBM (zl b)) (qd (cv (qhG N m a)))<|ah<|gw1
def qbr (a:List (List Str)):Option Int:=
 if(a.length:Int)=0 then
 some 0
 else
 (idx a 0).bind λb=>
 some (b.length:Int)
def qgZ (a:List (List Str)) {c:Int}(h:qbr a=some c):qc ZT (.fn 109) [vl eSS a] [] (.i c) []:=by
 unfold qbr at h;refine fH Tryz.func109 rfl ?_;intro B hB;refine sh fol [(0,vl eSS a)]<|sq<|sh fol ((0,vl eSS a)::(kBo (decide ((zl a)=0))))<|ihD h (λe h=>?_) (λe h=>?_)
 ·cases h
  exact sh fol kBs<|ah<|(gh2 [.i 0] (di _ _))
 obtain⟨d,b,rfl⟩:=bs1 h;exact ag<|sq<|gr fol [1,2] (kBM (zl d)) (qj (iv yf eSS b) (lv 0 xW eSS b rfl))<|ah<|(gh2 [.i (zl d)] (di _ _))
def qaX (a:Int):Nat->(List Str)->Int->Option (List Str)
 |0,_,_=>none
 |K+1,b,c=>
  if c<a then
  (app 16 b [[48]]).bind λd=>
  qaX a K d (w64 (c+1))
  else
  some b
def qcf (N:Nat) (a:Int):Option (List Str):=
 (qaX a N ([]:List Str) 0).bind λb=>
 some b
def qho (N:Nat) (a:Int) {j:List Str}(h:qcf N a=some j):qc ZT (.fn 111) [.i a] [] (.gslice 0 j.length 1) (kF j []):=by
 unfold qcf at h;refine fH Tryz.func111 rfl ?_;intro B hB;obtain⟨k,g5,h⟩:=bnd h;refine sh fol [(0,.i a)]<|sh fol ((0,.i a)::(kCG []))<|sq<|sh fol ((0,.i a)::(kCG kBr))<|aj<|gI (λx s'=>(x= .exit 0/\∃d,d=k/\Sub s' (ofG 14 [(3,.gslice 0 d.length 1)],(kF d [])))) ?_ ?_
 ·refine aq (s':=(ofG 14 ((0,.i a)::(3,.gslice 0 ([]:List Str).length 1)::kBr),[.cells (([]:List Str).flatMap encS.c)])) (sB hB [] [none] (kk (ke .nil kz)) (.fresh .nil))<|Ua (λM s=>∃(e:List Str) (b:Int),s=(ofG 14 ((0,.i a)::(kA3 e b [])),(kF e []))/\qaX a M e b=some k) ?_ (m:=N) ⟨_,_,rfl,g5⟩;rintro M s ⟨e,b,rfl,g5⟩
  cases M with
  |zero=>cases g5
  |succ M=>
   rw[qaX]at g5;refine sq<|sh fol ((0,.i a)::(kA3 e b [(7,.bool (decide (b<a)))]))<|ihD g5 (λl g5=>?_) (λl g5=>?_)
   ·obtain⟨f,g,g5⟩:=bnd g5;exact ag<|sq<|aj<|gq fol [2] ((0,.i a)::(3,.gslice 2 f.length 1)::(kBe b)) (.dead:: .cells [.str [48]]::(kF f [])) (qd (hx (kF e [.cells [.str [48]]]) (wap [0,1] qa6 (wdg 0 rfl g) (wsc 1 [[48]] rfl))))<|gh fol ((0,.i a)::(3,.gslice 2 f.length 1)::(kBe (w64 (b+1))))<|⟨M,(ofG 14 ((0,.i a)::(kA3 f (w64 (b+1)) [])),(kF f [])),aY _,(sB hB [] [some 2] kz (.ks .nil)),_,_,rfl,g5⟩
   cases g5
   exact aA<|⟨rfl,_,rfl,sK [3]⟩
 rintro x s' ⟨rfl,d,rfl,hsub⟩;obtain rfl:=si h;exact aq hsub<|sh fol [(2,.gslice 0 d.length 1)]<|ah<|(gh2 [.gslice 0 d.length 1] (di _ _))
def qao (m:List (List Str)) (b:List Str):Nat->(List (List Str))->Int->Option (List (List Str))
 |0,_,_=>none
 |K+1,f,a=>
  if a<(m.length:Int)then
  (idx m a).bind λg=>
  (app 16 ([]:List Str) g).bind λh=>
  (idx b a).bind λc=>
  (app 16 h [c]).bind λd=>
  (app 24 f [d]).bind λe=>
  qao m b K e (w64 (a+1))
  else
  some f
def xc (e:Int) (a:(List (List Str))×(List Int)):Nat->(List Str)->Int->Option ((List Str)⊕((List Str)×Bool))
 |0,_,_=>none
 |K+1,c,b=>
  if b<(a.2.length:Int)then
  (idx a.2 b).bind λd=>
  if d=e then
  some (.inr ([],false))
  else
  (idx a.1 b).bind λf=>
  (idx f e).bind λg=>
  (idx c d).bind λi=>
  (put c d g).bind λh=>
  xc e a K h (w64 (b+1))
  else
  some (.inl c)
def qd9 (N:Nat) (m:List (List Str)) (b:List Str):Option ((List Str)×Bool):=
 (qbr m).bind λf=>
 (qao m b N ([]:List (List Str)) 0).bind λg=>
 (qbB N g).bind λa=>
 (qcf N f).bind λc=>
 (xc f a N c 0).bind (λ
 |(.inl d)=>
 some (d,true)
 |(.inr e)=>
 some e)
def qjs (N:Nat) (m:List (List Str)) (b:List Str) {res:(List Str)×Bool}(h:qd9 N m b=some res):qc ZT (.fn 59) [vl eSS m,vl encS b] [] (.tuple [vl encS res.1,.bool res.2]) []:=by
 unfold qd9 at h;obtain⟨d,J,Q,g6,h⟩:=bn2 h;refine fW Tryz.func59 rfl<|sh fol ((0,vl eSS m)::(kW b []))<|sh fol ((0,vl eSS m)::(kW b [(6,.nilslice)]))<|sq<|gr fol [1] ((0,vl eSS m)::(kW b ((6,.nilslice)::(kBT d)))) (qd (wch [] (.i d) [] [] [] (qgZ m J) .nil .nil (rc (.same (kr eSS _)) rn) (.same nI)))<|sq<|sh fol ((0,vl eSS m)::(kW b ((6,.nilslice)::(kBi d))))<|aj<|gI (λx s'=>(x= .exit 0/\∃C,C=Q/\Sub s' (ofG 69 (kAD C (kBT d)),[.cells (C.flatMap eSS.c)]))) ?_ ?_
 ·refine aq (s':=(ofG 69 ((0,vl eSS m)::(kW b ((6,.gslice 0 ([]:List (List Str)).length 1)::(kBi d)))),[.cells (([]:List (List Str)).flatMap eSS.c)])) (sN [] [none] (kk (kk (ke .nil kz))) (.fresh .nil))<|Ua (λM s=>∃(n:List (List Str)) (A:Int),s=(ofG 69 ((0,vl eSS m)::(kW b (kAD n (kAB d A)))),[.cells (n.flatMap eSS.c)])/\qao m b M n A=some Q) ?_ (m:=N) ⟨_,_,rfl,g6⟩;rintro M s ⟨n,A,rfl,g6⟩
  cases M with
  |zero=>cases g6
  |succ M=>
   rw[qao]at g6;refine sq<|sh fol ((0,vl eSS m)::(kW b (kAD n (kB2 d A [(18,.bool (decide (A<(zl m))))]))))<|ihD g6 (λU g6=>?_) (λU g6=>?_)
   ·obtain⟨x8,B,V,K,o,p,e,D,q,r,g6⟩:=bn5 g6;exact ag<|sq<|aj<|gq fol [4,5,6,9,10,12,14] ((0,vl eSS m)::(kW b ((6,.gslice 6 q.length 1)::(kAB d A)))) (kP (kB0 o (kF e (kBD e [.cells ((n).flatMap (eSS).c++[AV.gslice 4 e.length 1])])))) (qgD (iv yf eSS B) (lv 0 xW eSS B rfl) (hx [.cells (n.flatMap eSS.c),.cells []] (wap [1] qa6 (wdz encS 1 rfl K) wsv)) (iv qa6 encS p) (lv 0 qc8 encS p rfl) (hx (.cells (n.flatMap eSS.c):: .dead::(kF V (kB0 o []))) (wap [2,3] qa6 (wdg 2 rfl D) (wsc 3 [o] rfl))) (hs (.run [0,5] (yo ZT [22,22] (.gslice 0 n.length 1) (.slice 5 0 1 1 1)) (.cells (n.flatMap eSS.c)::(kBL (kB0 o (kF e (kBD e []))))) (.gslice 6 q.length 1) (kP (kB0 o (kF e (kBD e [.cells ((n).flatMap (eSS).c++[AV.gslice 4 e.length 1])])))) true) (qnP yf (E:=eSS) (l:=n) (x:=e) rfl rfl rfl rfl rfl rfl rfl r rfl)))<|gN [4] [some 6] ((0,vl eSS m)::(kW b (kAD q (kAB d A)))) [.cells (q.flatMap eSS.c)] kz (.kb rfl (yQ.my (E:=eSS) r (rc (.frz (Uy (E:=encS) rfl rfl (nl rfl)) (kr encS _)) rn)) .nil)<|gh fol ((0,vl eSS m)::(kW b (kAD q (kAB d (w64 (A+1))))))<|qY ⟨_,_,rfl,g6⟩
   cases g6
   exact aA<|⟨rfl,_,rfl,sK [6,7]⟩
 rintro x s' ⟨rfl,C,rfl,hsub⟩;obtain⟨a,F,t,G,H,g19,h⟩:=bn3 h;refine aq hsub<|sq<|gq fol [1] [(7,.i d),(9,vl eSS a.1),(10,vl encI a.2)] [.frozen (C.flatMap eSS.c)] (qd (wcf [.gslice 0 C.length 1] [0] (bi (Uy (E:=eSS) rfl rfl (nl rfl)) bB) (qfk N C F)))<|gN [] [] [(7,.i d),(9,vl eSS a.1),(10,vl encI a.2)] [] kz .nil<|sq<|gq fol [1] ((7,.i d)::(9,vl eSS a.1)::(kAa a.2 t [])) (kF t []) (qd (wch [] (.gslice 0 t.length 1) (kF t []) [] [some 0] (qho N d G) .nil (.new rfl rfl (.same fa) rfl .nil) (rc (.same nI) rn) (.gslice rfl)))<|sq<|sh fol ((7,.i d)::(9,vl eSS a.1)::(kAa a.2 t [(12,.i 0)]))<|aj<|gI (λx s'=>(x= .exit 2/\∃k,(.inl k)=H/\Sub s' (ofG 69 [(11,.gslice 0 k.length 1)],(kF k [])))\/(x= .ret/\∃I,(.inr I)=H/\qQ ZT [.tmp 4,.tmp 5] (.tuple [vl encS I.1,.bool I.2]) .ret s')) ?_ ?_
 ·refine Ua (λM s=>∃(j:List Str) (f:Int),s=(ofG 69 ((7,.i d)::(9,vl eSS a.1)::(kAa a.2 j (kBl f))),(kF j []))/\xc d a M j f=some H) ?_ (m:=N) ⟨_,_,rfl,g19⟩;rintro M s ⟨j,f,rfl,g19⟩
  cases M with
  |zero=>cases g19
  |succ M=>
   rw[xc]at g19;refine sq<|sh fol ((7,.i d)::(9,vl eSS a.1)::(kAa a.2 j [(12,.i f),(46,.bool (decide (f<(zl a.2))))]))<|ihD g19 (λL g19=>?_) (λL g19=>?_)
   ·obtain⟨O,g,g19⟩:=bnd g19;refine ag<|sq<|aj<|sq<|sq<|gr fol [2,3] ((7,.i d)::(9,vl eSS a.1)::(kAa a.2 j [(12,.i f),(54,.bool (decide (O=d)))])) (qj (iv jT encI g) (lv 0 ce3 encI g rfl))<|ihD g19 (λP g19=>?_) (λP g19=>?_)
    ·cases g19
     exact sh fol (kBY [(5,.bool false)])<|ah<|Or.inr (⟨rfl,_,rfl,(gw2 [.nilslice,.bool false] (cj (ba (dw (E:=encS)) (ba (Ub tB) ci))))⟩)
    obtain⟨X,u,Y,v,Z,w,z,y,g19⟩:=bn4 g19;exact ag<|gq fol [3,4,7,8,10,11,12,13] ((7,.i d)::(9,vl eSS a.1)::(kAa a.2 j (kBl f))) (kF z []) (qiM (iv jT encI g) (lv 0 ce3 encI g rfl) (iv yf eSS u) (lv 0 xW eSS u rfl) (iv qa6 encS v) (lv 0 qc8 encS v rfl) (wig qa6 0 w) (wsp 42 0 rfl w y rfl))<|gN [] [some 0] ((7,.i d)::(9,vl eSS a.1)::(kAa a.2 z (kBl f))) (kF z []) (kk (kk (kk (ke (.gsliceE rfl (zD y)) kz)))) (.ks .nil)<|gh fol ((7,.i d)::(9,vl eSS a.1)::(kAa a.2 z (kBl (w64 (f+1)))))<|qY ⟨_,_,rfl,g19⟩
   cases g19
   exact aA<|Or.inl (⟨rfl,_,rfl,sK [11]⟩)
 rintro x s' (⟨rfl,k,rfl,hsub⟩|⟨rfl,a0,rfl,hret⟩)
 ·cases h
  exact aq hsub<|sh fol [(4,.gslice 0 k.length 1),(5,.bool true)]<|ah<|(gw2 [.gslice 0 k.length 1,.bool true] (cj (ba (FzW.fz (Uy (E:=encS) rfl rfl (nl rfl))) (ba (Ub tB) ci))))
 cases h
 exact hret
def qbk (N:Nat) (m:List (List Str)) (b:List Str):Option ((List Str)×Bool):=
 (idx m 0).bind λc=>
 (jF N m).bind λd=>
 if d<(c.length:Int)then
 some ([],false)
 else
 (qd9 N m b).bind λa=>
 some (a.1,a.2)
def qj3 (N:Nat) (m:List (List Str)) (b:List Str) {res:(List Str)×Bool}(h:qbk N m b=some res):qc ZT (.fn 14) [vl eSS m,vl encS b] [] (.tuple [vl encS res.1,.bool res.2]) []:=by
 unfold qbk at h;obtain⟨e,a,g,c,h⟩:=bn2 h;refine fW Tryz.func14 rfl<|sh fol ((0,vl eSS m)::(kW b []))<|sq<|gr fol [1,2] ((0,vl eSS m)::(kW b (kBK (zl e)))) (qj (iv yf eSS a) (lv 0 xW eSS a rfl))<|sq<|sq<|gr fol [1] ((0,vl eSS m)::(kW b [(14,.bool (decide (g<(zl e))))])) (qd (cv (qbH N m c)))<|ihD h (λi h=>?_) (λi h=>?_)
 ·cases h
  exact sh fol (kBY [(5,.bool false)])<|ah<|(gw2 [.nilslice,.bool false] (cj (ba (dw (E:=encS)) (ba (Ub tB) ci))))
 obtain⟨f,d,rfl⟩:=bs1 h;exact ag<|sq<|gr fol [2] ((4,vl encS f.1)::(kBo f.2)) (qd (cv (qjs N m b d)))<|ah<|gwt
def xn (holds:Bool) (e:Int):Option Int:=
 if holds=true then
 some e
 else
 some 0
def qem (holds:Bool) (e:Int) {res:Int}(h:xn holds e=some res):qc ZT (.fn 15) [.bool holds,.i e] [] (.i res) []:=by
 unfold xn at h;refine fW Tryz.func15 rfl<|sh fol ((0,.bool holds)::(kBd e))<|sq<|sh fol ((1,.i e)::(kBo holds))<|ihB h (λa h=>?_) (λa h=>?_)
 ·cases h
  exact sh fol (kBe e)<|ah<|gw1
 cases h
 exact ag<|sh fol kBr<|ah<|gw1
def xw (l:List Int):Nat->Int->Option (Unit⊕Int)
 |0,_=>none
 |K+1,a=>
  if a<(l.length:Int)then
  (idx l a).bind λb=>
  if(!decide (b=0))=true then
  some (.inr b)
  else
  xw l K (w64 (a+1))
  else
  some (.inl ())
def qbZ (N:Nat) (l:List Int):Option Int:=
 (xw l N 0).bind (λ
 |(.inl ())=>
 some 0
 |(.inr a)=>
 some a)
def qi6 (N:Nat) (l:List Int) {res:Int}(h:qbZ N l=some res):qc ZT (.fn 16) [vl encI l] [] (.i res) []:=by
 unfold qbZ at h;obtain⟨c,g2,h⟩:=bnd h;refine fW Tryz.func16 rfl<|sh fol (kAj l [])<|sq<|sh fol (kAj l [(3,.i 0)])<|aj<|gI (λx s'=>(x= .exit 0/\(.inl ())=c/\Sub s' (ofG 19 [],[]))\/(x= .ret/\∃d,(.inr d)=c/\qQ ZT [.tmp 2] (.i d) .ret s')) ?_ ?_
 ·refine Ua (λM s=>∃(b:Int),s=(ofG 19 (kAj l [(3,.i b)]),[])/\xw l M b=some c) ?_ (m:=N) ⟨_,rfl,g2⟩;rintro M s ⟨b,rfl,g2⟩
  cases M with
  |zero=>cases g2
  |succ M=>
   rw[xw]at g2;refine sq<|sh fol (kAj l [(3,.i b),(7,.bool (decide (b<(zl l))))])<|ihD g2 (λf g2=>?_) (λf g2=>?_)
   ·obtain⟨e,a,g2⟩:=bnd g2;refine ag<|sq<|aj<|sq<|gr fol [2,3] (kAj l [(3,.i b),(14,.bool (!decide (e=0)))]) (qj (iv jT encI a) (lv 0 ce3 encI a rfl))<|ihB g2 (λg g2=>?_) (λg g2=>?_)
    ·cases g2
     exact sq<|gr fol [2,3] (kBM e) (qj (iv jT encI a) (lv 0 ce3 encI a rfl))<|ah<|Or.inr (⟨rfl,_,rfl,gw1⟩)
    exact ag<|gh fol (kAj l [(3,.i (w64 (b+1)))])<|qY ⟨_,rfl,g2⟩
   cases g2
   exact aA<|Or.inl (⟨rfl,rfl,sK []⟩)
 rintro x s' (⟨rfl,rfl,hsub⟩|⟨rfl,j,rfl,hret⟩)
 ·cases h
  exact aq hsub<|sh fol kBs<|ah<|gw1
 cases h
 exact hret
def yO (N:Nat) (a b:List Str):Nat->Str->Int->Option Str
 |0,_,_=>none
 |K+1,d,c=>
  if c<(a.length:Int)then
  (idx a c).bind λe=>
  (idx b c).bind λf=>
  (qb3 N e f).bind λg=>
  (qcO N d g).bind λh=>
  yO N a b K h (w64 (c+1))
  else
  some d
def qbK (N:Nat) (a b:List Str):Option Str:=
 (yO N a b N [48] 0).bind λc=>
 some c
def qhJ (N:Nat) (a b:List Str) {res:Str}(h:qbK N a b=some res):qc ZT (.fn 64) [vl encS a,vl encS b] [] (.str res) []:=by
 unfold qbK at h;obtain⟨l,g4,h⟩:=bnd h;refine fW Tryz.func64 rfl<|sh fol (kAU a (kW b []))<|sh fol (kAU a (kW b [(5,.str [48])]))<|sq<|sh fol (kAU a (kW b [(5,.str [48]),(6,.i 0)]))<|aj<|gI (λx s'=>(x= .exit 0/\∃k,k=l/\Sub s' (ofG 25 [(5,.str k)],[]))) ?_ ?_
 ·refine Ua (λM s=>∃(f:Str) (e:Int),s=(ofG 25 (kAU a (kW b ((5,.str f)::(kBK e)))),[])/\yO N a b M f e=some l) ?_ (m:=N) ⟨_,_,rfl,g4⟩;rintro M s ⟨f,e,rfl,g4⟩
  cases M with
  |zero=>cases g4
  |succ M=>
   rw[yO]at g4;refine sq<|sh fol (kAU a (kW b ((5,.str f)::(6,.i e)::(kBJ (decide (e<(zl a)))))))<|ihD g4 (λo g4=>?_) (λo g4=>?_)
   ·obtain⟨p,c,q,d,r,g,n,j,g4⟩:=bn4 g4;exact ag<|sq<|aj<|gr fol [3,4,7,8,9,10] (kAU a (kW b ((5,.str n)::(kBK e)))) (qdO (iv qa6 encS c) (lv 0 qc8 encS c rfl) (iv qa6 encS d) (lv 0 qc8 encS d rfl) (cv (qdn N p q g)) (cv (qeP N f r j)))<|gh fol (kAU a (kW b ((5,.str n)::(kBK (w64 (e+1))))))<|qY ⟨_,_,rfl,g4⟩
   cases g4
   exact aA<|⟨rfl,_,rfl,sK [5]⟩
 rintro x s' ⟨rfl,k,rfl,hsub⟩;obtain rfl:=si h;exact aq hsub<|sh fol (kBn k)<|ah<|gw1
def yV (N:Nat) (m:List (List Str)) (y:List Str) (g:Int):Nat->Str->Int->Option Str
 |0,_,_=>none
 |K+1,h,a=>
  if a<(m.length:Int)then
  (idx y a).bind λb=>
  (idx m a).bind λc=>
  (idx c g).bind λd=>
  (qb3 N b d).bind λe=>
  (qcO N h e).bind λf=>
  yV N m y g K f (w64 (a+1))
  else
  some h
def jG (N:Nat) (m:List (List Str)) (y:List Str):Nat->Int->Option (Unit⊕Bool)
 |0,_=>none
 |K+1,a=>
  (idx m 0).bind λc=>
  if a<(c.length:Int)then
  (yV N m y a N [48] 0).bind λd=>
  (xK d).bind λb=>
  if(!b)=true then
  some (.inr false)
  else
  jG N m y K (w64 (a+1))
  else
  some (.inl ())
def jl (N:Nat) (m:List (List Str)) (b y:List Str):Option Bool:=
 (jG N m y N 0).bind (λ
 |(.inl ())=>
 (qbK N b y).bind λa=>
 (xK a).bind λc=>
 some (!c)
 |(.inr d)=>
 some d)
def qez (N:Nat) (m:List (List Str)) (b y:List Str) {res:Bool}(h:jl N m b y=some res):qc ZT (.fn 18) [vl eSS m,vl encS b,vl encS y] [] (.bool res) []:=by
 unfold jl at h;obtain⟨t,g2,h⟩:=bnd h;refine fW Tryz.func18 rfl<|sh fol ((0,vl eSS m)::(kN b y []))<|sq<|sh fol ((0,vl eSS m)::(kN b y [(7,.i 0)]))<|aj<|gI (λx s'=>(x= .exit 0/\(.inl ())=t/\Sub s' (ofG 46 (kN b y []),[]))\/(x= .ret/\∃E,(.inr E)=t/\qQ ZT [.tmp 6] (.bool E) .ret s')) ?_ ?_
 ·refine Ua (λM s=>∃(a:Int),s=(ofG 46 ((0,vl eSS m)::(kN b y (kBT a))),[])/\jG N m y M a=some t) ?_ (m:=N) ⟨_,rfl,g2⟩;rintro M s ⟨a,rfl,g2⟩
  cases M with
  |zero=>cases g2
  |succ M=>
   rw[jG]at g2;obtain⟨G,f,g2⟩:=bnd g2;refine sq<|sq<|gr fol [2,3] ((0,vl eSS m)::(kN b y ((7,.i a)::(kBW (decide (a<(zl G))))))) (qj (iv yf eSS f) (lv 0 xW eSS f rfl))<|ihD g2 (λH g2=>?_) (λH g2=>?_)
   ·obtain⟨F,g9,g2⟩:=bnd g2;refine ag<|sq<|aj<|sh fol ((0,vl eSS m)::(kN b y [(7,.i a),(8,.str [48])]))<|sq<|sh fol ((0,vl eSS m)::(kN b y [(7,.i a),(8,.str [48]),(9,.i 0)]))<|aj<|gI (λx s'=>(x= .exit 2/\∃r,r=F/\Sub s' (ofG 46 ((0,vl eSS m)::(kN b y [(7,.i a),(8,.str r)])),[]))) ?_ ?_
    ·refine Ua (λM s=>∃(p:Str) (g:Int),s=(ofG 46 ((0,vl eSS m)::(kN b y (kAV a p g []))),[])/\yV N m y a M p g=some F) ?_ (m:=N) ⟨_,_,rfl,g9⟩;rintro M s ⟨p,g,rfl,g9⟩
     cases M with
     |zero=>cases g9
     |succ M=>
      rw[yV]at g9;refine sq<|sh fol ((0,vl eSS m)::(kN b y (kAV a p g [(21,.bool (decide (g<(zl m))))])))<|ihD g9 (λu g9=>?_) (λu g9=>?_)
      ·obtain⟨v,c,I,d,w,e,z,j,q,k,g9⟩:=bn5 g9;exact ag<|sq<|aj<|gr fol [3,4,7,8,10,11,12,13] ((0,vl eSS m)::(kN b y (kAV a q g []))) (qiM (iv qa6 encS c) (lv 0 qc8 encS c rfl) (iv yf eSS d) (lv 0 xW eSS d rfl) (iv qa6 encS e) (lv 0 qc8 encS e rfl) (cv (qdn N v w j)) (cv (qeP N p z k)))<|gh fol ((0,vl eSS m)::(kN b y (kAV a q (w64 (g+1)) [])))<|qY ⟨_,_,rfl,g9⟩
      cases g9
      exact aA<|⟨rfl,_,rfl,sK [0,1,2,7,8]⟩
    rintro x s' ⟨rfl,r,rfl,hsub⟩;obtain⟨A,l,g2⟩:=bnd g2;refine aq hsub<|sq<|gr fol [1] ((0,vl eSS m)::(kN b y [(7,.i a),(40,.bool (!A))])) (qd (cv (qbO r l)))<|ihB g2 (λB g2=>?_) (λB g2=>?_)
    ·cases g2
     exact sh fol kA1<|ah<|Or.inr (⟨rfl,_,rfl,gw1⟩)
    exact ag<|gh fol ((0,vl eSS m)::(kN b y (kBT (w64 (a+1)))))<|qY ⟨_,rfl,g2⟩
   cases g2
   exact aA<|Or.inl (⟨rfl,rfl,sK [1,2]⟩)
 rintro x s' (⟨rfl,rfl,hsub⟩|⟨rfl,J,rfl,hret⟩)
 ·obtain⟨C,n,D,o,rfl⟩:=bs2 h;exact aq hsub<|sq<|gr fol [2,3] [(6,.bool (!D))] (qj (cv (qhJ N b y n)) (cv (qbO C o)))<|ah<|gw1
 cases h
 exact hret
def ym (m:List (List Str)) (b:List Str):Nat->(List (List Str))->Int->Option (List (List Str))
 |0,_,_=>none
 |K+1,d,a=>
  if a<(m.length:Int)then
  (idx m a).bind λe=>
  (app 16 ([]:List Str) e).bind λf=>
  (idx b a).bind λg=>
  (app 16 f [g]).bind λh=>
  (app 24 d [h]).bind λc=>
  ym m b K c (w64 (a+1))
  else
  some d
def xe (N:Nat) (m:List (List Str)) (b:List Str):Option Bool:=
 (ym m b N ([]:List (List Str)) 0).bind λd=>
 (jF N m).bind λa=>
 (jF N d).bind λc=>
 some (decide (a=c))
def qhj (N:Nat) (m:List (List Str)) (b:List Str) {res:Bool}(h:xe N m b=some res):qc ZT (.fn 19) [vl eSS m,vl encS b] [] (.bool res) []:=by
 unfold xe at h;obtain⟨w,g4,h⟩:=bnd h;refine fW Tryz.func19 rfl<|sh fol ((0,vl eSS m)::(kW b []))<|sh fol ((0,vl eSS m)::(kW b [(5,.nilslice)]))<|sq<|sh fol ((0,vl eSS m)::(kW b (kBq [])))<|aj<|gI (λx s'=>(x= .exit 0/\∃p,p=w/\Sub s' (ofG 33 ((0,vl eSS m)::(kAM p [])),[.cells (p.flatMap eSS.c)]))) ?_ ?_
 ·refine aq (s':=(ofG 33 ((0,vl eSS m)::(kW b [(5,.gslice 0 ([]:List (List Str)).length 1),(6,.i 0)])),[.cells (([]:List (List Str)).flatMap eSS.c)])) (sN [] [none] (kk (kk (ke .nil kz))) (.fresh .nil))<|Ua (λM s=>∃(a:List (List Str)) (g:Int),s=(ofG 33 ((0,vl eSS m)::(kW b (kAM a (kBK g)))),[.cells (a.flatMap eSS.c)])/\ym m b M a g=some w) ?_ (m:=N) ⟨_,_,rfl,g4⟩;rintro M s ⟨a,g,rfl,g4⟩
  cases M with
  |zero=>cases g4
  |succ M=>
   rw[ym]at g4;refine sq<|sh fol ((0,vl eSS m)::(kW b (kAM a ((6,.i g)::(kBJ (decide (g<(zl m))))))))<|ihD g4 (λy g4=>?_) (λy g4=>?_)
   ·obtain⟨A,j,z,q,r,k,f,t,d,e,g4⟩:=bn5 g4;exact ag<|sq<|aj<|gq fol [4,5,6,9,10,12,14] ((0,vl eSS m)::(kW b ((5,.gslice 6 d.length 1)::(kBK g)))) (kP (kB0 r (kF f (kBD f [.cells ((a).flatMap (eSS).c++[AV.gslice 4 f.length 1])])))) (qgD (iv yf eSS j) (lv 0 xW eSS j rfl) (hx [.cells (a.flatMap eSS.c),.cells []] (wap [1] qa6 (wdz encS 1 rfl q) wsv)) (iv qa6 encS k) (lv 0 qc8 encS k rfl) (hx (.cells (a.flatMap eSS.c):: .dead::(kF z (kB0 r []))) (wap [2,3] qa6 (wdg 2 rfl t) (wsc 3 [r] rfl))) (hs (.run [0,5] (yo ZT [22,22] (.gslice 0 a.length 1) (.slice 5 0 1 1 1)) (.cells (a.flatMap eSS.c)::(kBL (kB0 r (kF f (kBD f []))))) (.gslice 6 d.length 1) (kP (kB0 r (kF f (kBD f [.cells ((a).flatMap (eSS).c++[AV.gslice 4 f.length 1])])))) true) (qnP yf (E:=eSS) (l:=a) (x:=f) rfl rfl rfl rfl rfl rfl rfl e rfl)))<|gN [4] [some 6] ((0,vl eSS m)::(kW b (kAM d (kBK g)))) [.cells (d.flatMap eSS.c)] kz (.kb rfl (yQ.my (E:=eSS) e (rc (.frz (Uy (E:=encS) rfl rfl (nl rfl)) (kr encS _)) rn)) .nil)<|gh fol ((0,vl eSS m)::(kW b (kAM d (kBK (w64 (g+1))))))<|qY ⟨_,_,rfl,g4⟩
   cases g4
   exact aA<|⟨rfl,_,rfl,sK [0,5]⟩
 rintro x s' ⟨rfl,p,rfl,hsub⟩;obtain⟨u,n,v,o,rfl⟩:=bs2 h;exact aq hsub<|sq<|gr fol [1,3] (kBO (decide (u=v))) (qj (cv (qbH N m n)) (wcs [.gslice 0 p.length 1] [0] (bi (Uy (E:=eSS) rfl rfl (nl rfl)) bB) (qbH N p o)))<|ah<|gw1
end
section
open Go.Proofs Go.RowKit
def awk:Option Bool:=some true
def qfq {res:Bool}(h:awk=some res):qc ZT (.fn 4) [] [] (.bool res) []:=by
 cases h
 exact qsS
def qad (N:Nat) (m:List (List Str)) (b y:List Str):Option Bool:=
 ((awk).bind λE=>
 if(!E)=true then
 some true
 else
 if(m.length:Int)>30 then
 some true
 else
 if(b.length:Int)>30 then
 some true
 else
 if(y.length:Int)>30 then
 some true
 else
 (xR N m 30).bind λF=>
 if(!F)=true then
 some true
 else
 (yY N b 30).bind λG=>
 if(!G)=true then
 some true
 else
 (yY N y 30).bind λh=>
 some (!h):Option Bool).bind λi=>
 if i=true then
 (awk).bind λj=>
 some j
 else
 (vO N m b).bind λc=>
 (if c=0 then
 (qaJ N m 5 5 6).bind λk=>
 if(!k)=true then
 some true
 else
 (qaR N b 5 6).bind λl=>
 some (!l)
 else
 some false:Option Bool).bind λn=>
 if n=true then
 some true
 else
 (vJ N m b).bind λd=>
 (zM N m b).bind λa=>
 (qH N m b y).bind λe=>
 if(!decide (c=0))=true then
 ((jY N d.1 d.2 c []).bind λo=>
 if o=true then
 (jY N a.1 a.2 c []).bind λp=>
 if p=true then
 some (decide (e=c))
 else
 some false
 else
 some false:Option Bool).bind λq=>
 some q
 else
 (qbk N m b).bind λf=>
 (xn (!f.2) 14).bind λr=>
 (jY N d.1 d.2 r f.1).bind λs=>
 if(!s)=true then
 some false
 else
 (xn (!decide ((y.length:Int)=(m.length:Int))) 2).bind λt=>
 (ko N y).bind λu=>
 (qbZ N ([t,u]:List Int)).bind λg=>
 ((if g=0 then
 (jl N m b y).bind λv=>
 (xn (!v) 21).bind λw=>
 some w
 else
 some g:Option Int)).bind λx=>
 if(!decide (e=x))=true then
 some false
 else
 (xe N m b).bind λz=>
 if z=true then
 (jY N a.1 a.2 7 []).bind λA=>
 some A
 else
 (if a.2=0 then
 if(a.1.length:Int)=(m.length:Int)then
 (ko N a.1).bind λB=>
 if B=0 then
 (jl N m b a.1).bind λC=>
 some C
 else
 some false
 else
 some false
 else
 some false:Option Bool).bind λD=>
 some D
def qeQ (N:Nat) (m:List (List Str)) (b y:List Str) {res:Bool}(h:qad N m b y=some res):qc ZT (.fn 3) [vl eSS m,vl encS b,vl encS y] [] (.bool res) []:=by
 unfold qad at h;obtain⟨b11,a,h⟩:=bnd h;refine fW Tryz.func3 rfl<|sh fol ((0,vl eSS m)::(kN b y []))<|sq<|sq<|aQ (s':=(ofG 158 ((0,vl eSS m)::(kN b y [(47,.bool b11)])),[])) ?_ ?_
 ·obtain⟨r1,k,a⟩:=bnd a;rcases wyB a with⟨A,a⟩|⟨A,a⟩
  ·cases a
   exact tr fol [0,2] ((0,vl eSS m)::(kN b y kBw)) (qj (cv (qfq k)) (gw A))
  rcases wyD a with⟨C,a⟩|⟨C,a⟩
  ·cases a
   exact tr fol [0,2,7] ((0,vl eSS m)::(kN b y kBw)) (qA (cv (qfq k)) (gw A) (gw C))
  rcases wyD a with⟨c4,a⟩|⟨c4,a⟩
  ·cases a
   exact tr fol [0,2,7,12] ((0,vl eSS m)::(kN b y kBw)) (zO (cv (qfq k)) (gw A) (gw C) (gw c4))
  rcases wyD a with⟨c5,a⟩|⟨c5,a⟩
  ·cases a
   exact tr fol [0,2,7,12,17] ((0,vl eSS m)::(kN b y kBw)) (qbE (cv (qfq k)) (gw A) (gw C) (gw c4) (gw c5))
  obtain⟨r6,o,a⟩:=bnd a;rcases wyB a with⟨c7,a⟩|⟨c7,a⟩
  ·cases a
   exact tr fol [0,2,7,12,17,19,22] ((0,vl eSS m)::(kN b y kBw)) (qgD (cv (qfq k)) (gw A) (gw C) (gw c4) (gw c5) (cv (qba N m 30 o)) (gw c7))
  obtain⟨r8,B,a⟩:=bnd a;rcases wyB a with⟨c9,a⟩|⟨c9,a⟩
  ·cases a
   exact tr fol [0,2,7,12,17,19,22,24,27] ((0,vl eSS m)::(kN b y kBw)) (qhz (cv (qfq k)) (gw A) (gw C) (gw c4) (gw c5) (cv (qba N m 30 o)) (gw c7) (cv (qa0 N b 30 B)) (qd (gw c9)))
  obtain⟨r10,D,rfl⟩:=bs1 a;exact tr fol [0,2,7,12,17,19,22,24,27,29] ((0,vl eSS m)::(kN b y [(47,.bool (!r10))])) (qhz (cv (qfq k)) (gw A) (gw C) (gw c4) (gw c5) (cv (qba N m 30 o)) (gw c7) (cv (qa0 N b 30 B)) (qj (gw c9) (cv (qa0 N y 30 D))))
 refine ihB h (λc13 h=>?_) (λc13 h=>?_)
 ·obtain⟨r14,F,rfl⟩:=bs1 h;exact sq<|gr fol [0] [(6,.bool r14)] (qd (cv (qfq F)))<|ah<|gw1
 obtain⟨j,G,b20,f,h⟩:=bn2 h;refine ag<|sq<|gr fol [2] ((0,vl eSS m)::(kN b y (kBT j))) (qd (cv (qet N m b G)))<|sq<|sq<|aQ (s':=(ofG 158 ((0,vl eSS m)::(kN b y [(7,.i j),(63,.bool b20)])),[])) ?_ ?_
 ·rcases wyD f with⟨t,f⟩|⟨t,f⟩
  ·obtain⟨r17,p,f⟩:=bnd f;rcases wyB f with⟨H,f⟩|⟨H,f⟩
   ·cases f
    exact tr fol [2,4,6] ((0,vl eSS m)::(kN b y [(7,.i j),(63,.bool true)])) (qA (gw t) (cv (qdN N m 5 5 6 p)) (gw H))
   obtain⟨r19,I,rfl⟩:=bs1 f;exact tr fol [2,4,6,8] ((0,vl eSS m)::(kN b y [(7,.i j),(63,.bool (!r19))])) (zO (gw t) (cv (qdN N m 5 5 6 p)) (gw H) (cv (qeu N b 5 6 I)))
  cases f
  exact tr fol [2] ((0,vl eSS m)::(kN b y [(7,.i j),(63,.bool false)])) (qd (gw t))
 refine ihB h (λc22 h=>?_) (λc22 h=>?_)
 ·cases h
  exact sh fol [(6,.bool true)]<|ah<|gw1
 obtain⟨g,J,c,K,l,L,h⟩:=bn3 h;refine ag<|sq<|gr fol [2] ((0,vl eSS m)::(kN b y [(7,.i j),(8,vl encS g.1),(9,.i g.2)])) (qd (cv (qh9 N m b J)))<|sq<|gr fol [2] ((0,vl eSS m)::(kN b y ((7,.i j)::(8,vl encS g.1)::(kBf g.2 c.1 [(11,.i c.2)])))) (qd (cv (qhW N m b K)))<|sq<|gr fol [3] ((0,vl eSS m)::(kN b y ((7,.i j)::(8,vl encS g.1)::(9,.i g.2)::(kA7 c.1 c.2 l [])))) (qd (cv (qfm N m b y L)))<|sq<|sh fol ((0,vl eSS m)::(kN b y ((7,.i j)::(8,vl encS g.1)::(9,.i g.2)::(kA7 c.1 c.2 l [(81,.bool (!decide (j=0)))]))))<|ihB h (λc26 h=>?_) (λc26 h=>?_)
 ·obtain⟨b31,e,h⟩:=bnd h;refine sq<|aQ (s':=(ofG 158 [(6,.bool b31)],[])) ?_ ?_
  ·obtain⟨r27,n,e⟩:=bnd e;rcases wyB e with⟨u,e⟩|⟨u,e⟩
   ·obtain⟨r29,q,e⟩:=bnd e;rcases wyB e with⟨M,e⟩|⟨M,e⟩
    ·cases e
     exact tr fol [3,4,8,10] [(6,.bool (decide (l=j)))] (zO (cv ((qc.wk (qaD N g.1 g.2 j [] n) (bQ (cM _) (bQ (cM _) (bQ (cM _) (bQ (gj (E:=encS)) gi))))))) (gw u) (cv ((qc.wk (qaD N c.1 c.2 j [] q) (bQ (cM _) (bQ (cM _) (bQ (cM _) (bQ (gj (E:=encS)) gi))))))) (gw M))
    cases e
    exact tr fol [3,4,8,10] kA1 (zO (cv ((qc.wk (qaD N g.1 g.2 j [] n) (bQ (cM _) (bQ (cM _) (bQ (cM _) (bQ (gj (E:=encS)) gi))))))) (gw u) (cv ((qc.wk (qaD N c.1 c.2 j [] q) (bQ (cM _) (bQ (cM _) (bQ (cM _) (bQ (gj (E:=encS)) gi))))))) (gw M))
   cases e
   exact tr fol [3,4] kA1 (qj (cv ((qc.wk (qaD N g.1 g.2 j [] n) (bQ (cM _) (bQ (cM _) (bQ (cM _) (bQ (gj (E:=encS)) gi))))))) (gw u))
  obtain rfl:=si h;exact ah<|gw1
 obtain⟨v,O,r34,P,r35,Q,h⟩:=bn3 h;refine ag<|sq<|gr fol [2] ((0,vl eSS m)::(kN b y ((8,vl encS g.1)::(9,.i g.2)::(kA7 c.1 c.2 l [(13,vl encS v.1),(14,.bool v.2)])))) (qd (cv (qj3 N m b O)))<|sq<|sq<|gr fol [4,6] ((0,vl eSS m)::(kN b y (kA7 c.1 c.2 l [(110,.bool (!r35))]))) (qj (cv (qem (!v.2) 14 P)) (cv (qaD N g.1 g.2 r34 v.1 Q)))<|ihB h (λc36 h=>?_) (λc36 h=>?_)
 ·cases h
  exact sh fol kA1<|ah<|gw1
 obtain⟨U,V,X,Y,Z,a0,r41,g41,h⟩:=bn4 h;refine ag<|sq<|gq fol [5,7,9] ((0,vl eSS m)::(kN b y (kA7 c.1 c.2 l [(15,.i Z)]))) (kBR U X) (qA (cv (qem (!decide ((zl y)=(zl m))) 2 V)) (cv (xL N y Y)) (hx (kBR U X) (wcs [.slice 0 0 2 2 1] [0] (bi (dX rfl rfl (Uf (bn tI (bn tI cF)))) bB) (qi6 N ([U,X]:List Int) a0))))<|sq<|sh fol ((0,vl eSS m)::(kN b y (kA7 c.1 c.2 l [(15,.i Z),(122,.bool (decide (Z=0)))])))<|gI (λx s'=>(x= .normal/\∃w,w=r41/\Sub s' (ofG 158 ((0,vl eSS m)::(kW b (kA7 c.1 c.2 l [(15,.i w)]))),[]))) ?_ ?_
 ·refine ihD g41 (λc42 g41=>?_) (λc42 g41=>?_)
  ·obtain⟨r43,a1,r44,a2,rfl⟩:=bs2 g41;exact gr fol [3,5] ((0,vl eSS m)::(kW b (kA7 c.1 c.2 l [(15,.i r44)]))) (qj (cv (qez N m b y a1)) (cv (qem (!r43) 21 a2)))<|⟨rfl,_,rfl,(sN [] [] kz .nil)⟩
  cases g41
  exact ag<|⟨rfl,_,rfl,(sN [] [] (.keep (.same (kr eSS _)) (.keep (.same (kr encS _)) (.drop (.keep (.same (kr encS _)) (.keep (.same nI) (.keep (.same nI) (.keep (.same nI) .nil))))))) .nil)⟩
 rintro x s' ⟨rfl,w,rfl,hsub⟩;refine aq hsub<|sq<|sh fol ((0,vl eSS m)::(kW b [(10,vl encS c.1),(11,.i c.2),(131,.bool (!decide (l=w)))]))<|ihB h (λc45 h=>?_) (λc45 h=>?_)
 ·cases h
  exact sh fol kA1<|ah<|gw1
 obtain⟨r46,a3,h⟩:=bnd h;refine ag<|sq<|sq<|gr fol [2] ((0,vl eSS m)::(kW b [(10,vl encS c.1),(11,.i c.2),(134,.bool r46)])) (qd (cv (qhj N m b a3)))<|ihB h (λc47 h=>?_) (λc47 h=>?_)
 ·obtain⟨r48,a4,rfl⟩:=bs1 h;exact sq<|gr fol [2] [(6,.bool r48)] (qd (cv ((qc.wk (qaD N c.1 c.2 7 [] a4) (bQ (cM _) (bQ (cM _) (bQ (cM _) (bQ (gj (E:=encS)) gi))))))))<|ah<|gw1
 obtain⟨b54,d,h⟩:=bnd h;refine ag<|sq<|aQ (s':=(ofG 158 [(6,.bool b54)],[])) ?_ ?_
 ·rcases wyD d with⟨r,d⟩|⟨r,d⟩
  ·rcases wyD d with⟨z,d⟩|⟨z,d⟩
   ·obtain⟨r51,s,d⟩:=bnd d;rcases wyD d with⟨a5,d⟩|⟨a5,d⟩
    ·obtain⟨r53,a6,rfl⟩:=bs1 d;exact tr fol [2,9,11,14,18] [(6,.bool r53)] (qbE (gw r) (gw z) (cv (xL N c.1 s)) (gw a5) (cv (qez N m b c.1 a6)))
    cases d
    exact tr fol [2,9,11,14] kA1 (zO (gw r) (gw z) (cv (xL N c.1 s)) (gw a5))
   cases d
   exact tr fol [2,9] kA1 (qj (gw r) (gw z))
  cases d
  exact tr fol [2] kA1 (qd (gw r))
 obtain rfl:=si h;exact ah<|gw1
end
end Go.Av
end
