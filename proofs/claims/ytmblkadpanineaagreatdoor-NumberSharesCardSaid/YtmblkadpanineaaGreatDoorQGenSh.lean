/-
  The walk of the law.
-/
import Derived.Test.YtmblkadpanineaaGreatDoorQGenSh1
import Derived.Test.YtmblkadpanineaaGreatDoorAvAwkN1
noncomputable section
namespace Go.Av
open Go.Proofs Go.RowKit
set_option linter.unusedSectionVars false
set_option linter.unusedVariables false
set_option linter.unusedSimpArgs false
set_option maxRecDepth 100000
def awk:Option Bool:=some true
theorem qdh {res:Bool} (h:awk=some res):qb ZT (.fn 4) [] [] (.bool res) []:=by
 obtain rfl:=si h
 exact qgj
def jw (N:Nat) (total:Int) (w:List Int) (pair:(Int×Int)):Option Bool:=
 ((awk).bind fun t=>
 if(!t)=true then
 some true
 else
 some (decide ((w.length:Int)>260)):Option Bool).bind fun u=>
 if u=true then
 (awk).bind fun v=>
 some v
 else
 (jR N total w).bind fun c=>
 (if total<0 then
 (jW true 3).bind fun s=>
 (zb N w).bind fun d=>
 (ja N ([s,d]:List Int)).bind fun h=>
 some (s,d,h)
 else
 (jW (decide (total>999999999)) 3).bind fun e=>
 (zb N w).bind fun f=>
 (ja N ([e,f]:List Int)).bind fun i=>
 some (e,f,i):Option (Int×Int×Int)).bind fun(x,y,a)=>
 (if(!decide (a=0))=true then
 (zI N c.1 c.2 a []).bind fun j=>
 if(!j)=true then
 some true
 else
 if a=0 then
 (jr N total w).bind fun k=>
 (zI N c.1 c.2 0 k).bind fun l=>
 some (!l)
 else
 some false
 else
 if a=0 then
 (jr N total w).bind fun m=>
 (zI N c.1 c.2 0 m).bind fun n=>
 some (!n)
 else
 some false:Option Bool).bind fun o=>
 if o=true then
 some false
 else
 (jY N pair.1 pair.2).bind fun b=>
 (je pair.1 pair.2).bind fun g=>
 if(!decide (g=0))=true then
 (zI N b.1 b.2 g []).bind fun p=>
 some p
 else
 (vM N pair.1 pair.2).bind fun q=>
 (zI N b.1 b.2 0 q).bind fun r=>
 some r
theorem xc (N:Nat) (total:Int) (w:List Int) (pair:(Int×Int)) {res:Bool} (h:jw N total w pair=some res):qb ZT (.fn 3) [.i total,vl encI w,.agg [.i pair.1,.i pair.2]] [] (.bool res) []:=by
 unfold jw at h
 refine Ud Tryz.func3 rfl rfl (m:=86) rfl (rs:=[.tmp 6]) rfl (l:=(kH total w [(2,.agg [.i pair.1,.i pair.2])])) rfl ?_
 refine sg fol (kH total w (kZ [])) (kR pair.1 pair.2 []) ?_
 refine sq ?_
 refine sq ?_
 obtain⟨b3,c,h⟩:=bnd h
 refine Goes.cut (s':=(ofG 86 (kH total w (kZ [(18,.bool b3)])),(kR pair.1 pair.2 []))) ?_ ?_
 ·obtain⟨r1,r,c⟩:=bnd c
  rcases wyB c with⟨X,c⟩|⟨X,c⟩
  ·obtain rfl:=si c
   exact tr fol [0,2] (kH total w (kZ [(18,.bool true)])) (ac (cv (qdh r)) (ac (gw X) az))
  obtain rfl:=si c
  exact tr fol [0,2] (kH total w (kZ [(18,.bool (decide ((w.length:Int)>260)))])) (ac (cv (qdh r)) (ac (gw X) az))
 refine ihB h (fun c5 h=>?_) (fun c5 h=>?_)
 ·obtain⟨r6,K,h⟩:=bnd h
  refine sq (gr fol [0] [(6,.bool r6)] (ac (cv (qdh K)) az) ?_)
  refine Goes.ret ?_
  obtain rfl:=si h
  exact(gw2 [.bool r6] (Ua tB))
 refine Goes.skip ?_
 obtain⟨e,L,h⟩:=bnd h
 refine sq (gr fol [2] (kH total w (kZ [(7,vl encI e.1),(8,.i e.2)])) (ac (cv (qaK N total w L)) az) ?_)
 refine sq ?_
 obtain⟨⟨M,O,j⟩,b,h⟩:=bnd h
 refine Goes.cut (s':=(ofG 86 (kH total w (kZ ((7,vl encI e.1)::(kAE e.2 j)))),(kR pair.1 pair.2 (kR M O [])))) ?_ ?_
 ·rcases wyD b with⟨Y,b⟩|⟨Y,b⟩
  ·obtain⟨W,P,b⟩:=bnd b
   obtain⟨k,s,b⟩:=bnd b
   obtain⟨Q,t,b⟩:=bnd b
   simp only[ZI,ZP]at b
   obtain⟨rfl,rfl,rfl⟩:=b
   exact ji.rq fol [2,6,8,10] (kH total w (kZ ((7,vl encI e.1)::(kAE e.2 Q)))) (kR pair.1 pair.2 (kR W k [])) (ac (gw Y) (ac (cv (xX true 3 P)) (ac (cv (vC N w s)) (ac (hs (.call 6 [.slice 1 0 2 2 1] (kR pair.1 pair.2 (kR W k [])) [1] [vl encI ([W,k]:List Int)] (.i Q)) (yA (FzL.cons (Fz.lit rfl rfl (Uk (AllST.cons tI (AllST.cons tI AllST.nil)))) FzL.nil) (xk N ([W,k]:List Int) t) tI rfl)) az))))
  obtain⟨n,u,b⟩:=bnd b
  obtain⟨o,v,b⟩:=bnd b
  obtain⟨T,x,b⟩:=bnd b
  simp only[ZI,ZP]at b
  obtain⟨rfl,rfl,rfl⟩:=b
  exact ji.rq fol [2,6,8,10] (kH total w (kZ ((7,vl encI e.1)::(kAE e.2 T)))) (kR pair.1 pair.2 (kR n o [])) (ac (gw Y) (ac (cv (xX (decide (total>999999999)) 3 u)) (ac (cv (vC N w v)) (ac (hs (.call 6 [.slice 1 0 2 2 1] (kR pair.1 pair.2 (kR n o [])) [1] [vl encI ([n,o]:List Int)] (.i T)) (yA (FzL.cons (Fz.lit rfl rfl (Uk (AllST.cons tI (AllST.cons tI AllST.nil)))) FzL.nil) (xk N ([n,o]:List Int) x) tI rfl)) az))))
 try dsimp only at h
 refine sq ?_
 refine sq ?_
 obtain⟨Z,a,h⟩:=bnd h
 refine Goes.cut (s':=(ofG 86 (kZ [(58,.bool Z)]),(kR pair.1 pair.2 (kR M O [])))) ?_ ?_
 ·rcases wyB a with⟨g,a⟩|⟨g,a⟩
  ·obtain⟨r20,f,a⟩:=bnd a
   rcases wyB a with⟨p,a⟩|⟨p,a⟩
   ·obtain rfl:=si a
    exact tr fol [2,6,9] (kZ [(58,.bool true)]) (ac (gw g) (ac (cv ((qb.wk (jg N e.1 e.2 j [] f) (WkL.cons (Wk.refl _) (WkL.cons (Wk.refl _) (WkL.cons (Wk.refl _) (WkL.cons (Wk.nilv (E:=encI)) WkL.nil))))))) (ac (gw p) az)))
   rcases wyD a with⟨y,a⟩|⟨y,a⟩
   ·obtain⟨a0,z,a⟩:=bnd a
    obtain⟨a1,A,a⟩:=bnd a
    obtain rfl:=si a
    exact tr fol [2,6,9,12,17,18] (kZ [(58,.bool (!a1))]) (ac (gw g) (ac (cv ((qb.wk (jg N e.1 e.2 j [] f) (WkL.cons (Wk.refl _) (WkL.cons (Wk.refl _) (WkL.cons (Wk.refl _) (WkL.cons (Wk.nilv (E:=encI)) WkL.nil))))))) (ac (gw p) (ac (gw y) (ac (cv (y9 N total w z)) (ac (cv (jg N e.1 e.2 0 a0 A)) az))))))
   obtain rfl:=si a
   exact tr fol [2,6,9,12] (kZ [(58,.bool false)]) (ac (gw g) (ac (cv ((qb.wk (jg N e.1 e.2 j [] f) (WkL.cons (Wk.refl _) (WkL.cons (Wk.refl _) (WkL.cons (Wk.refl _) (WkL.cons (Wk.nilv (E:=encI)) WkL.nil))))))) (ac (gw p) (ac (gw y) az))))
  rcases wyD a with⟨B,a⟩|⟨B,a⟩
  ·obtain⟨a2,C,a⟩:=bnd a
   obtain⟨a3,D,a⟩:=bnd a
   obtain rfl:=si a
   exact tr fol [2,12,17,18] (kZ [(58,.bool (!a3))]) (ac (gw g) (ac (gw B) (ac (cv (y9 N total w C)) (ac (cv (jg N e.1 e.2 0 a2 D)) az))))
  obtain rfl:=si a
  exact tr fol [2,12] (kZ [(58,.bool false)]) (ac (gw g) (ac (gw B) az))
 refine ihB h (fun a4 h=>?_) (fun a4 h=>?_)
 ·refine sh fol [(6,.bool false)] ?_
  refine Goes.ret ?_
  obtain rfl:=si h
  exact(gw2 [.bool false] (Ua tB))
 refine Goes.skip ?_
 obtain⟨d,F,h⟩:=bnd h
 refine sq (gr fol [4] (kZ [(10,vl encI d.1),(11,.i d.2)]) (ac (cv (qbw N pair.1 pair.2 F)) az) ?_)
 obtain⟨q,G,h⟩:=bnd h
 refine sq (gr fol [4] (kZ [(9,.i q),(10,vl encI d.1),(11,.i d.2)]) (ac (cv (qaj pair.1 pair.2 G)) az) ?_)
 refine sq ?_
 refine sh fol (kZ [(9,.i q),(10,vl encI d.1),(11,.i d.2),(73,.bool (!decide (q=0)))]) ?_
 refine ihB h (fun a5 h=>?_) (fun a5 h=>?_)
 ·obtain⟨U,H,h⟩:=bnd h
  refine sq (gr fol [3] [(6,.bool U)] (ac (cv ((qb.wk (jg N d.1 d.2 q [] H) (WkL.cons (Wk.refl _) (WkL.cons (Wk.refl _) (WkL.cons (Wk.refl _) (WkL.cons (Wk.nilv (E:=encI)) WkL.nil))))))) az) ?_)
  refine Goes.ret ?_
  obtain rfl:=si h
  exact(gw2 [.bool U] (Ua tB))
 refine Goes.skip ?_
 obtain⟨a6,I,h⟩:=bnd h
 obtain⟨V,J,h⟩:=bnd h
 refine sq (gr fol [6,7] [(6,.bool V)] (ac (cv (qbJ N pair.1 pair.2 I)) (ac (cv (jg N d.1 d.2 0 a6 J)) az)) ?_)
 refine Goes.ret ?_
 obtain rfl:=si h
 exact(gw2 [.bool V] (Ua tB))
end Go.Av
