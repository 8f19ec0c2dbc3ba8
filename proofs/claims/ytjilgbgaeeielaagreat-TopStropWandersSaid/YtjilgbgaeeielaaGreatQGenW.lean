/-
  The walk of the law.
-/
import Derived.Test.YtjilgbgaeeielaaGreatQGenW3
import Derived.Test.YtjilgbgaeeielaaGreatAvAwkW2
noncomputable section
namespace Go.Av
open Go.Proofs Go.RowKit
set_option linter.unusedSectionVars false
set_option linter.unusedVariables false
set_option linter.unusedSimpArgs false
set_option maxRecDepth 100000
def awk:Option Bool:=some true
theorem qil {res:Bool} (h:awk=some res):qf ZT (.fn 7) [] [] (.bool res) []:=by
 obtain rfl:=si h
 exact qmX
def jo (N:Nat) (a:qcX):Option Bool:=
 ((qbw N a.Strands a.Word 5 10).bind fun F=>
 if(!F)=true then
 some true
 else
 if(a.Moves.length:Int)>30 then
 some true
 else
 (zZ N a.Moves).bind fun G=>
 (yn N G 30).bind fun H=>
 some (!H):Option Bool).bind fun I=>
 if I=true then
 (awk).bind fun J=>
 some J
 else
 (zZ N a.Moves).bind fun r=>
 (y7 N a.Strands a.Word r).bind fun c=>
 (if(!decide (c.2=0))=true then
 some true
 else
 some (decide ((c.1.length:Int)>40)):Option Bool).bind fun s=>
 if s=true then
 (awk).bind fun t=>
 some t
 else
 (qaG N a.Strands a.Word a.Moves).bind fun b=>
 (xq N a.Strands a.Word).bind fun d=>
 (xq N a.Strands b.1).bind fun e=>
 (zY N a.Strands a.Word).bind fun f=>
 (zY N a.Strands b.1).bind fun i=>
 (if(!decide ((w64 ((w64 ((w64 ((w64 (b.2+d.2))+e.2))+f.2))+i.2))=0))=true then
 some true
 else
 (yo N b.1 c.1).bind fun u=>
 if(!u)=true then
 some true
 else
 if(!decide (d.1.Half=e.1.Half))=true then
 some true
 else
 (vL N d.1.Factors e.1.Factors).bind fun v=>
 if(!v)=true then
 some true
 else
 (vL N f.1 i.1).bind fun w=>
 some (!w):Option Bool).bind fun x=>
 if x=true then
 some false
 else
 (xe N a.Strands).bind fun y=>
 (qab N a.Strands y).bind fun g=>
 (yD N a.Strands g.1 g.1).bind fun h=>
 (yD N a.Strands h.1 a.Word).bind fun j=>
 (yD N a.Strands a.Word h.1).bind fun k=>
 (qaC N a.Strands j.1 k.1).bind fun l=>
 (if(!decide ((w64 ((w64 ((w64 ((w64 (g.2+h.2))+j.2))+k.2))+l.2))=0))=true then
 some true
 else
 some (!l.1):Option Bool).bind fun z=>
 if z=true then
 some false
 else
 ((if(a.Word.length:Int)>0 then
 (qkE .i64 (w64 a.Shift) (a.Word.length:Int)).bind fun A=>
 some A
 else
 some 0:Option Int)).bind fun m=>
 (cut a.Word m (a.Word.length:Int)).bind fun B=>
 (cut a.Word 0 m).bind fun C=>
 (vN B C).bind fun n=>
 (zY N a.Strands n).bind fun o=>
 (jJ N a.Strands n).bind fun p=>
 (jJ N a.Strands a.Word).bind fun q=>
 (if(w64 ((w64 (o.2+p.2))+q.2))=0 then
 if(o.1.length:Int)=(f.1.length:Int)then
 if p.1=q.1 then
 (awk).bind fun D=>
 some D
 else
 some false
 else
 some false
 else
 some false:Option Bool).bind fun E=>
 some E
theorem qaO (N:Nat) (a:qcX) {res:Bool} (h:jo N a=some res):qf ZT (.fn 3) [.agg [.i a.Strands,vl encI a.Word,vl qx a.Moves,.int .u8 a.Shift]] [] (.bool res) []:=by
 unfold jo at h
 refine Ub Tryz.func3 rfl rfl (m:=246) rfl (rs:=[.tmp 2]) rfl (l:=[(0,.agg [.i a.Strands,vl encI a.Word,vl qx a.Moves,.int .u8 a.Shift])]) rfl ?_
 refine sg fol [(1,.ptr 0 0)] (kAP a.Strands a.Word a.Moves a.Shift []) ?_
 refine sh fol (kI a.Strands a.Word [(5,vl qx a.Moves)]) ?_
 refine sq ?_
 refine sq ?_
 obtain⟨b6,e,h⟩:=bnd h
 refine Goes.cut (s':=(ofG 246 (kI a.Strands a.Word [(5,vl qx a.Moves),(56,.bool b6)]),(kAP a.Strands a.Word a.Moves a.Shift []))) ?_ ?_
 ·obtain⟨r1,y,e⟩:=bnd e
  rcases wyB e with⟨c2,e⟩|⟨c2,e⟩
  ·obtain rfl:=si e
   exact tr fol [2,4] (kI a.Strands a.Word [(5,vl qx a.Moves),(56,.bool true)]) (ac (cv (qb3 N a.Strands a.Word 5 10 y)) (ac (gw c2) az))
  rcases wyD e with⟨c3,e⟩|⟨c3,e⟩
  ·obtain rfl:=si e
   exact tr fol [2,4,9] (kI a.Strands a.Word [(5,vl qx a.Moves),(56,.bool true)]) (ac (cv (qb3 N a.Strands a.Word 5 10 y)) (ac (gw c2) (ac (gw c3) az)))
  obtain⟨r4,b5,e⟩:=bnd e
  obtain⟨r5,b7,e⟩:=bnd e
  obtain rfl:=si e
  exact tr fol [2,4,9,11,12] (kI a.Strands a.Word [(5,vl qx a.Moves),(56,.bool (!r5))]) (ac (cv (qb3 N a.Strands a.Word 5 10 y)) (ac (gw c2) (ac (gw c3) (ac (cv (xW N a.Moves b5)) (ac (cv (qdd N r4 30 b7)) az)))))
 refine ihB h (fun c8 h=>?_) (fun c8 h=>?_)
 ·obtain⟨r9,b8,h⟩:=bnd h
  refine sq (gr fol [0] [(2,.bool r9)] (ac (cv (qil b8)) az) ?_)
  refine Goes.ret ?_
  obtain rfl:=si h
  exact(gw2 [.bool r9] (Ua tB))
 refine Goes.skip ?_
 obtain⟨r10,I,h⟩:=bnd h
 obtain⟨g,J,h⟩:=bnd h
 refine sq (gr fol [3,4] (kI a.Strands a.Word ((5,vl qx a.Moves)::(kAS g.1 g.2 []))) (ac (cv (xW N a.Moves I)) (ac (cv (qfW N a.Strands a.Word r10 J)) az)) ?_)
 refine sq ?_
 refine sq ?_
 obtain⟨b13,k,h⟩:=bnd h
 refine Goes.cut (s':=(ofG 246 (kI a.Strands a.Word [(5,vl qx a.Moves),(6,vl encI g.1),(72,.bool b13)]),(kAP a.Strands a.Word a.Moves a.Shift []))) ?_ ?_
 ·rcases wyB k with⟨K,k⟩|⟨K,k⟩
  ·obtain rfl:=si k
   exact tr fol [2] (kI a.Strands a.Word [(5,vl qx a.Moves),(6,vl encI g.1),(72,.bool true)]) (ac (gw K) az)
  obtain rfl:=si k
  exact tr fol [2] (kI a.Strands a.Word [(5,vl qx a.Moves),(6,vl encI g.1),(72,.bool (decide ((g.1.length:Int)>40)))]) (ac (gw K) az)
 refine ihB h (fun c15 h=>?_) (fun c15 h=>?_)
 ·obtain⟨b9,L,h⟩:=bnd h
  refine sq (gr fol [0] [(2,.bool b9)] (ac (cv (qil L)) az) ?_)
  refine Goes.ret ?_
  obtain rfl:=si h
  exact(gw2 [.bool b9] (Ua tB))
 refine Goes.skip ?_
 obtain⟨f,M,h⟩:=bnd h
 refine sq (gr fol [3] (kI a.Strands a.Word [(6,vl encI g.1),(8,vl encI f.1),(9,.i f.2)]) (ac (cv (qfq N a.Strands a.Word a.Moves M)) az) ?_)
 obtain⟨j,O,h⟩:=bnd h
 refine sq (gq fol [2] (kI a.Strands a.Word (kAj g.1 f.1 f.2 (kAA j.2))) (kAP a.Strands a.Word a.Moves a.Shift [.cells [.i j.1.Half,vl (qc encI) j.1.Factors]]) (ac (cv (qb7 N a.Strands a.Word O)) az) ?_)
 obtain⟨n,P,h⟩:=bnd h
 refine sq (gq fol [2] (kI a.Strands a.Word (kAj g.1 f.1 f.2 [(11,.i j.2),(12,.ptr 2 0),(13,.i n.2)])) (kAP a.Strands a.Word a.Moves a.Shift [.cells [.i j.1.Half,vl (qc encI) j.1.Factors],.cells [.i n.1.Half,vl (qc encI) n.1.Factors]]) (ac (cv (qb7 N a.Strands f.1 P)) az) ?_)
 obtain⟨d,T,h⟩:=bnd h
 refine sq (gr fol [2] (kI a.Strands a.Word (kAj g.1 f.1 f.2 [(11,.i j.2),(12,.ptr 2 0),(13,.i n.2),(14,vl (qc encI) d.1),(15,.i d.2)])) (ac (cv (xz N a.Strands a.Word T)) az) ?_)
 obtain⟨U,V,h⟩:=bnd h
 refine sq (gr fol [2] (kI a.Strands a.Word (kAj g.1 f.1 f.2 [(11,.i j.2),(12,.ptr 2 0),(13,.i n.2),(14,vl (qc encI) d.1),(15,.i d.2),(16,vl (qc encI) U.1),(17,.i U.2)])) (ac (cv (xz N a.Strands f.1 V)) az) ?_)
 refine sq ?_
 refine sq ?_
 obtain⟨b29,b,h⟩:=bnd h
 refine Goes.cut (s':=(ofG 246 (kI a.Strands a.Word [(14,vl (qc encI) d.1),(141,.bool b29)]),(kAP a.Strands a.Word a.Moves a.Shift [.cells [.i j.1.Half,vl (qc encI) j.1.Factors],.cells [.i n.1.Half,vl (qc encI) n.1.Factors]]))) ?_ ?_
 ·rcases wyB b with⟨u,b⟩|⟨u,b⟩
  ·obtain rfl:=si b
   exact tr fol [10] (kI a.Strands a.Word [(14,vl (qc encI) d.1),(141,.bool true)]) (ac (gw u) az)
  obtain⟨r23,p,b⟩:=bnd b
  rcases wyB b with⟨z,b⟩|⟨z,b⟩
  ·obtain rfl:=si b
   exact tr fol [10,13,16] (kI a.Strands a.Word [(14,vl (qc encI) d.1),(141,.bool true)]) (ac (gw u) (ac (cv (vS N f.1 g.1 p)) (ac (gw z) az)))
  rcases wyB b with⟨C,b⟩|⟨C,b⟩
  ·obtain rfl:=si b
   exact tr fol [10,13,16,23] (kI a.Strands a.Word [(14,vl (qc encI) d.1),(141,.bool true)]) (ac (gw u) (ac (cv (vS N f.1 g.1 p)) (ac (gw z) (ac (gw C) az))))
  obtain⟨r26,A,b⟩:=bnd b
  rcases wyB b with⟨W,b⟩|⟨W,b⟩
  ·obtain rfl:=si b
   exact tr fol [10,13,16,23,28,31] (kI a.Strands a.Word [(14,vl (qc encI) d.1),(141,.bool true)]) (ac (gw u) (ac (cv (vS N f.1 g.1 p)) (ac (gw z) (ac (gw C) (ac (cv (xQ N j.1.Factors n.1.Factors A)) (ac (gw W) az))))))
  obtain⟨r28,X,b⟩:=bnd b
  obtain rfl:=si b
  exact tr fol [10,13,16,23,28,31,34] (kI a.Strands a.Word [(14,vl (qc encI) d.1),(141,.bool (!r28))]) (ac (gw u) (ac (cv (vS N f.1 g.1 p)) (ac (gw z) (ac (gw C) (ac (cv (xQ N j.1.Factors n.1.Factors A)) (ac (gw W) (ac (cv (xQ N d.1 U.1 X)) az)))))))
 refine ihB h (fun c31 h=>?_) (fun c31 h=>?_)
 ·refine sh fol kAe ?_
  refine Goes.ret ?_
  obtain rfl:=si h
  exact(gw2 [.bool false] (Ua tB))
 refine Goes.skip ?_
 obtain⟨r32,Y,h⟩:=bnd h
 obtain⟨q,Z,h⟩:=bnd h
 refine sq (gr fol [2,3] (kI a.Strands a.Word [(14,vl (qc encI) d.1),(18,vl encI q.1),(19,.i q.2)]) (ac (cv (qdV N a.Strands Y)) (ac (cv (qeE N a.Strands r32 Z)) az)) ?_)
 obtain⟨r,a0,h⟩:=bnd h
 refine sq (gr fol [3] (kI a.Strands a.Word [(14,vl (qc encI) d.1),(19,.i q.2),(20,vl encI r.1),(21,.i r.2)]) (ac (cv (qaM N a.Strands q.1 q.1 a0)) az) ?_)
 obtain⟨v,a1,h⟩:=bnd h
 refine sq (gr fol [3] (kI a.Strands a.Word [(14,vl (qc encI) d.1),(19,.i q.2),(20,vl encI r.1),(21,.i r.2),(22,vl encI v.1),(23,.i v.2)]) (ac (cv (qaM N a.Strands r.1 a.Word a1)) az) ?_)
 obtain⟨D,a2,h⟩:=bnd h
 refine sq (gr fol [3] (kI a.Strands a.Word [(14,vl (qc encI) d.1),(19,.i q.2),(21,.i r.2),(22,vl encI v.1),(23,.i v.2),(24,vl encI D.1),(25,.i D.2)]) (ac (cv (qaM N a.Strands a.Word r.1 a2)) az) ?_)
 obtain⟨a3,a4,h⟩:=bnd h
 refine sq (gr fol [3] (kI a.Strands a.Word [(14,vl (qc encI) d.1),(19,.i q.2),(21,.i r.2),(23,.i v.2),(25,.i D.2),(26,.bool a3.1),(27,.i a3.2)]) (ac (cv (qfn N a.Strands v.1 D.1 a4)) az) ?_)
 refine sq ?_
 refine sq ?_
 obtain⟨b39,o,h⟩:=bnd h
 refine Goes.cut (s':=(ofG 246 (kI a.Strands a.Word [(14,vl (qc encI) d.1),(190,.bool b39)]),(kAP a.Strands a.Word a.Moves a.Shift [.cells [.i j.1.Half,vl (qc encI) j.1.Factors],.cells [.i n.1.Half,vl (qc encI) n.1.Factors]]))) ?_ ?_
 ·rcases wyB o with⟨a5,o⟩|⟨a5,o⟩
  ·obtain rfl:=si o
   exact tr fol [10] (kI a.Strands a.Word [(14,vl (qc encI) d.1),(190,.bool true)]) (ac (gw a5) az)
  obtain rfl:=si o
  exact tr fol [10] (kI a.Strands a.Word [(14,vl (qc encI) d.1),(190,.bool (!a3.1))]) (ac (gw a5) az)
 refine ihB h (fun c41 h=>?_) (fun c41 h=>?_)
 ·refine sh fol kAe ?_
  refine Goes.ret ?_
  obtain rfl:=si h
  exact(gw2 [.bool false] (Ua tB))
 refine Goes.skip ?_
 refine sh fol (kI a.Strands a.Word [(14,vl (qc encI) d.1),(28,.i 0)]) ?_
 refine sq ?_
 refine sh fol (kI a.Strands a.Word [(14,vl (qc encI) d.1),(28,.i 0),(193,.bool (decide ((a.Word.length:Int)>0)))]) ?_
 obtain⟨r43,s,h⟩:=bnd h
 refine Goes.imp (Q:=fun x s'=>(x= .normal/\ ∃t,t=r43/\Sub s' (ofG 246 [(3,.i a.Strands),(4,vl encI a.Word),(14,vl (qc encI) d.1),(28,.i t)],[]))) ?_ ?_
 ·refine ihD s (fun c44 s=>?_) (fun c44 s=>?_)
  ·obtain⟨c0,a6,s⟩:=bnd s
   refine gr fol [5] [(3,.i a.Strands),(4,vl encI a.Word),(14,vl (qc encI) d.1),(28,.i c0)] (ac (hs (.done (.opt (qfV ZT .rem 3 (.tmp 196) (.tmp 198) (.i (w64 a.Shift)) (.i (a.Word.length:Int)))) (.i c0)) (qm5 a6)) az) ?_
   obtain rfl:=si s
   exact⟨rfl,_,rfl,(Sub.norm [] [] rfl rfl (.keep (.same nI) (.keep (.same (qj encI _)) (.keep (.same (qj (qc encI) _)) (.keep (.same nI) .nil)))) .nil)⟩
  refine Goes.skip ?_
  obtain rfl:=si s
  exact⟨rfl,_,rfl,(Sub.norm [] [] rfl rfl (.drop (.keep (.same nI) (.keep (.same (qj encI _)) (.keep (.same (qj (qc encI) _)) (.keep (.same nI) .nil))))) .nil)⟩
 rintro x s' ⟨rfl,t,rfl,hsub⟩
 refine Goes.sub hsub ?_
 obtain⟨c1,a7,h⟩:=bnd h
 obtain⟨c4,a8,h⟩:=bnd h
 obtain⟨F,a9,h⟩:=bnd h
 refine sq (gr fol [2,5,6] [(3,.i a.Strands),(4,vl encI a.Word),(14,vl (qc encI) d.1),(29,vl encI F)] (ac (hs (.done (.opt (yf ZT 22 (vl encI a.Word) (some (.i t)) none none)) (vl encI c1)) (qdX ja (E:=encI) rfl (some t) none a7)) (ac (hs (.done (.opt (yf ZT 22 (vl encI a.Word) none (some (.i t)) none)) (vl encI c4)) (qdX ja (E:=encI) rfl none (some t) a8)) (ac (cv (qaK c1 c4 a9)) az))) ?_)
 obtain⟨w,b0,h⟩:=bnd h
 refine sq (gr fol [2] [(3,.i a.Strands),(4,vl encI a.Word),(14,vl (qc encI) d.1),(29,vl encI F),(30,vl (qc encI) w.1),(31,.i w.2)] (ac (cv (xz N a.Strands F b0)) az) ?_)
 obtain⟨G,b1,h⟩:=bnd h
 refine sq (gr fol [2] [(3,.i a.Strands),(4,vl encI a.Word),(14,vl (qc encI) d.1),(30,vl (qc encI) w.1),(31,.i w.2),(32,.i G.1),(33,.i G.2)] (ac (cv (qbl N a.Strands F b1)) az) ?_)
 obtain⟨c5,b2,h⟩:=bnd h
 refine sq (gr fol [2] [(14,vl (qc encI) d.1),(30,vl (qc encI) w.1),(31,.i w.2),(32,.i G.1),(33,.i G.2),(34,.i c5.1),(35,.i c5.2)] (ac (cv (qbl N a.Strands a.Word b2)) az) ?_)
 refine sq ?_
 obtain⟨c6,c,h⟩:=bnd h
 refine Goes.cut (s':=(ofG 246 [(2,.bool c6)],[])) ?_ ?_
 ·rcases wyD c with⟨B,c⟩|⟨B,c⟩
  ·rcases wyD c with⟨H,c⟩|⟨H,c⟩
   ·rcases wyD c with⟨b3,c⟩|⟨b3,c⟩
    ·obtain⟨r55,b4,c⟩:=bnd c
     obtain rfl:=si c
     exact tr fol [6,13,18,19] [(2,.bool r55)] (ac (gw B) (ac (gw H) (ac (gw b3) (ac (cv (qil b4)) az))))
    obtain rfl:=si c
    exact tr fol [6,13,18] kAe (ac (gw B) (ac (gw H) (ac (gw b3) az)))
   obtain rfl:=si c
   exact tr fol [6,13] kAe (ac (gw B) (ac (gw H) az))
  obtain rfl:=si c
  exact tr fol [6] kAe (ac (gw B) az)
 refine Goes.ret ?_
 obtain rfl:=si h
 exact(gw2 [.bool c6] (Ua tB))
end Go.Av
