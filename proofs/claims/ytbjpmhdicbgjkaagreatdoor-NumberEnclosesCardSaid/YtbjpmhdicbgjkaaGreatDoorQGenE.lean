/-
  The walk of the law.
-/
import Derived.Test.YtbjpmhdicbgjkaaGreatDoorQGenE6
import Derived.Test.YtbjpmhdicbgjkaaGreatDoorAvAwkE
noncomputable section
namespace Go.Av
open Go.Proofs Go.RowKit
set_option linter.unusedSectionVars false
set_option linter.unusedVariables false
set_option linter.unusedSimpArgs false
set_option maxRecDepth 100000
def awk:Option Bool:=some true
theorem qjy {res:Bool} (h:awk=some res):qc ZT (.fn 10) [] [] (.bool res) []:=by
 obtain rfl:=si h
 exact qqV
def yR (N:Nat) (a:qA) (b:qA) (j:qiR):Option Bool:=
 ((awk).bind fun K=>
 if(!K)=true then
 some true
 else
 (qab N a 6).bind fun L=>
 if(!L)=true then
 some true
 else
 (qab N b 6).bind fun M=>
 some (!M):Option Bool).bind fun O=>
 if O=true then
 (awk).bind fun P=>
 some P
 else
 (qaE N a j.A).bind fun c=>
 (qaE N b j.B).bind fun d=>
 (qbR N a b).bind fun g=>
 (qbk N a b).bind fun h=>
 (qbj N a b).bind fun i=>
 (if(!decide ((w64 ((w64 (g.2+h.2))+i.2))=0))=true then
 some true
 else
 (zM N g.1).bind fun l=>
 if(!decide (l=0))=true then
 some true
 else
 (zM N h.1).bind fun m=>
 if(!decide (m=0))=true then
 some true
 else
 (zM N i.1).bind fun n=>
 if(!decide (n=0))=true then
 some true
 else
 (qbA N c d).bind fun o=>
 (xZ N g.1 o).bind fun p=>
 if(!p)=true then
 some true
 else
 (qbB N c d).bind fun q=>
 (xZ N h.1 q).bind fun r=>
 if(!r)=true then
 some true
 else
 (qbE N c d).bind fun s=>
 (xZ N i.1 s).bind fun t=>
 some (!t):Option Bool).bind fun u=>
 if u=true then
 some false
 else
 (yj N a b).bind fun e=>
 (if(!decide (e.2=0))=true then
 if(!decide (e.2=24))=true then
 some true
 else
 if e.2=0 then
 (xg N c d).bind fun v=>
 some (!decide (e.1=v))
 else
 some false
 else
 if e.2=0 then
 (xg N c d).bind fun w=>
 some (!decide (e.1=w))
 else
 some false:Option Bool).bind fun x=>
 if x=true then
 some false
 else
 (qbu c c).bind fun y=>
 (qbu c c).bind fun z=>
 (yj N y z).bind fun k=>
 (qbu c c).bind fun C=>
 (yj N C a).bind fun D=>
 (if(!decide (k.2=0))=true then
 some true
 else
 if(!decide (k.1=0))=true then
 some true
 else
 some (!((decide (D.2=0))==(a.Low==a.High))):Option Bool).bind fun E=>
 if E=true then
 some false
 else
 (qbL N a b).bind fun f=>
 (xZ N b [48]).bind fun F=>
 if F=true then
 some (decide (f.2=6))
 else
 (if f.2=0 then
 (zM N f.1).bind fun G=>
 if G=0 then
 (qdx N c d).bind fun H=>
 (xZ N f.1 H).bind fun I=>
 some I
 else
 some false
 else
 some false:Option Bool).bind fun J=>
 some J
theorem qdl (N:Nat) (a:qA) (b:qA) (k:qiR) {res:Bool} (h:yR N a b k=some res):qc ZT (.fn 7) (kS a.Low a.High (kS b.Low b.High [.agg [.int .u8 k.A,.int .u8 k.B]])) [] (.bool res) []:=by
 unfold yR at h
 refine Ub Tryz.func7 rfl rfl (m:=188) rfl (rs:=[.tmp 6]) rfl (l:=(kAC a.Low a.High b.Low b.High [(2,.agg [.int .u8 k.A,.int .u8 k.B])])) rfl ?_
 refine sg fol (kQ [(5,.ptr 2 0)]) (kB a.Low a.High (kB b.Low b.High (kBC k.A k.B []))) ?_
 refine sq ?_
 refine sq ?_
 obtain⟨b6,n,h⟩:=bnd h
 refine Goes.cut (s':=(ofG 188 (kQ [(5,.ptr 2 0),(34,.bool b6)]),(kB a.Low a.High (kB b.Low b.High (kBC k.A k.B []))))) ?_ ?_
 ·obtain⟨r1,D,n⟩:=bnd n
  rcases wyB n with⟨c2,n⟩|⟨c2,n⟩
  ·obtain rfl:=si n
   exact tr fol [0,2] (kQ [(5,.ptr 2 0),(34,.bool true)]) (ac (cv (qjy D)) (ac (gw c2) az))
  obtain⟨r3,P,n⟩:=bnd n
  rcases wyB n with⟨c4,n⟩|⟨c4,n⟩
  ·obtain rfl:=si n
   exact tr fol [0,2,4,7] (kQ [(5,.ptr 2 0),(34,.bool true)]) (ac (cv (qjy D)) (ac (gw c2) (ac (cv (qbz N a 6 P)) (ac (gw c4) az))))
  obtain⟨r5,c0,n⟩:=bnd n
  obtain rfl:=si n
  exact tr fol [0,2,4,7,9] (kQ [(5,.ptr 2 0),(34,.bool (!r5))]) (ac (cv (qjy D)) (ac (gw c2) (ac (cv (qbz N a 6 P)) (ac (gw c4) (ac (cv (qbz N b 6 c0)) az)))))
 refine ihB h (fun c8 h=>?_) (fun c8 h=>?_)
 ·obtain⟨r9,c1,h⟩:=bnd h
  refine sq (gr fol [0] [(6,.bool r9)] (ac (cv (qjy c1)) az) ?_)
  refine Goes.ret ?_
  obtain rfl:=si h
  exact(gw2 [.bool r9] (Ua tB))
 refine Goes.skip ?_
 obtain⟨e,Q,h⟩:=bnd h
 obtain⟨f,U,h⟩:=bnd h
 refine sq (gr fol [3,7] (kQ (kAb e f [])) (ac (cv (qd6 N a k.A Q)) (ac (cv (qd6 N b k.B U)) az)) ?_)
 obtain⟨j,V,h⟩:=bnd h
 refine sq (gq fol [2] (kQ (kAb e f [(9,.ptr 3 0),(10,.i j.2)])) (kB a.Low a.High (kB b.Low b.High (kBC k.A k.B (kB j.1.Low j.1.High [])))) (ac (cv (qhP N a b V)) az) ?_)
 obtain⟨o,X,h⟩:=bnd h
 refine sq (gq fol [2] (kQ (kAb e f [(9,.ptr 3 0),(10,.i j.2),(11,.ptr 4 0),(12,.i o.2)])) (kB a.Low a.High (kB b.Low b.High (kBC k.A k.B (kB j.1.Low j.1.High (kB o.1.Low o.1.High []))))) (ac (cv (qgK N a b X)) az) ?_)
 obtain⟨q,Y,h⟩:=bnd h
 refine sq (gq fol [2] (kQ (kAb e f ((9,.ptr 3 0)::(10,.i j.2)::(11,.ptr 4 0)::(12,.i o.2)::(13,.ptr 5 0)::(kBu q.2)))) (kB a.Low a.High (kB b.Low b.High (kBC k.A k.B (kB j.1.Low j.1.High (kB o.1.Low o.1.High (kB q.1.Low q.1.High [])))))) (ac (cv (qgO N a b Y)) az) ?_)
 refine sq ?_
 refine sq ?_
 obtain⟨b30,c,h⟩:=bnd h
 refine Goes.cut (s':=(ofG 188 (kQ (kAb e f [(106,.bool b30)])),(kB a.Low a.High (kB b.Low b.High (kBC k.A k.B (kB j.1.Low j.1.High (kB o.1.Low o.1.High (kB q.1.Low q.1.High [])))))))) ?_ ?_
 ·rcases wyB c with⟨v,c⟩|⟨v,c⟩
  ·obtain rfl:=si c
   exact tr fol [6] (kQ (kAb e f kB6)) (ac (gw v) az)
  obtain⟨r16,r,c⟩:=bnd c
  rcases wyB c with⟨w,c⟩|⟨w,c⟩
  ·obtain rfl:=si c
   exact tr fol [6,8,11] (kQ (kAb e f kB6)) (ac (gw v) (ac (cv (qB N j.1 r)) (ac (gw w) az)))
  obtain⟨r18,s,c⟩:=bnd c
  rcases wyB c with⟨z,c⟩|⟨z,c⟩
  ·obtain rfl:=si c
   exact tr fol [6,8,11,13,16] (kQ (kAb e f kB6)) (ac (gw v) (ac (cv (qB N j.1 r)) (ac (gw w) (ac (cv (qB N o.1 s)) (ac (gw z) az)))))
  obtain⟨r20,u,c⟩:=bnd c
  rcases wyB c with⟨E,c⟩|⟨E,c⟩
  ·obtain rfl:=si c
   exact tr fol [6,8,11,13,16,18,21] (kQ (kAb e f kB6)) (ac (gw v) (ac (cv (qB N j.1 r)) (ac (gw w) (ac (cv (qB N o.1 s)) (ac (gw z) (ac (cv (qB N q.1 u)) (ac (gw E) az)))))))
  obtain⟨Z,x,c⟩:=bnd c
  obtain⟨r23,y,c⟩:=bnd c
  rcases wyB c with⟨I,c⟩|⟨I,c⟩
  ·obtain rfl:=si c
   exact tr fol [6,8,11,13,16,18,21,25,26,29] (kQ (kAb e f kB6)) (ac (gw v) (ac (cv (qB N j.1 r)) (ac (gw w) (ac (cv (qB N o.1 s)) (ac (gw z) (ac (cv (qB N q.1 u)) (ac (gw E) (ac (cv (qbb N e f x)) (ac (cv (yH N j.1 Z y)) (ac (gw I) az))))))))))
  obtain⟨c3,F,c⟩:=bnd c
  obtain⟨r26,G,c⟩:=bnd c
  rcases wyB c with⟨a0,c⟩|⟨a0,c⟩
  ·obtain rfl:=si c
   exact tr fol [6,8,11,13,16,18,21,25,26,29,33,34,37] (kQ (kAb e f kB6)) (ac (gw v) (ac (cv (qB N j.1 r)) (ac (gw w) (ac (cv (qB N o.1 s)) (ac (gw z) (ac (cv (qB N q.1 u)) (ac (gw E) (ac (cv (qbb N e f x)) (ac (cv (yH N j.1 Z y)) (ac (gw I) (ac (cv (qb9 N e f F)) (ac (cv (yH N o.1 c3 G)) (ac (gw a0) az)))))))))))))
  obtain⟨r28,a1,c⟩:=bnd c
  obtain⟨r29,a2,c⟩:=bnd c
  obtain rfl:=si c
  exact tr fol [6,8,11,13,16,18,21,25,26,29,33,34,37,41,42] (kQ (kAb e f [(106,.bool (!r29))])) (ac (gw v) (ac (cv (qB N j.1 r)) (ac (gw w) (ac (cv (qB N o.1 s)) (ac (gw z) (ac (cv (qB N q.1 u)) (ac (gw E) (ac (cv (qbb N e f x)) (ac (cv (yH N j.1 Z y)) (ac (gw I) (ac (cv (qb9 N e f F)) (ac (cv (yH N o.1 c3 G)) (ac (gw a0) (ac (cv (qdA N e f a1)) (ac (cv (yH N q.1 r28 a2)) az)))))))))))))))
 refine ihB h (fun c32 h=>?_) (fun c32 h=>?_)
 ·refine sh fol kBD ?_
  refine Goes.ret ?_
  obtain rfl:=si h
  exact(gw2 [.bool false] (Ua tB))
 refine Goes.skip ?_
 obtain⟨J,a3,h⟩:=bnd h
 refine sq (gr fol [2] (kQ (kAb e f [(15,.i J.1),(16,.i J.2)])) (ac (cv (qbn N a b a3)) az) ?_)
 refine sq ?_
 refine sq ?_
 obtain⟨b40,d,h⟩:=bnd h
 refine Goes.cut (s':=(ofG 188 (kQ (kAb e f [(129,.bool b40)])),(kB a.Low a.High (kB b.Low b.High (kBC k.A k.B (kB j.1.Low j.1.High (kB o.1.Low o.1.High (kB q.1.Low q.1.High [])))))))) ?_ ?_
 ·rcases wyB d with⟨C,d⟩|⟨C,d⟩
  ·rcases wyB d with⟨K,d⟩|⟨K,d⟩
   ·obtain rfl:=si d
    exact tr fol [2,6] (kQ (kAb e f [(129,.bool true)])) (ac (gw C) (ac (gw K) az))
   rcases wyD d with⟨a4,d⟩|⟨a4,d⟩
   ·obtain⟨r37,a5,d⟩:=bnd d
    obtain rfl:=si d
    exact tr fol [2,6,9,13] (kQ (kAb e f [(129,.bool (!decide (J.1=r37)))])) (ac (gw C) (ac (gw K) (ac (gw a4) (ac (cv (qaF N e f a5)) az))))
   obtain rfl:=si d
   exact tr fol [2,6,9] (kQ (kAb e f [(129,.bool false)])) (ac (gw C) (ac (gw K) (ac (gw a4) az)))
  rcases wyD d with⟨a6,d⟩|⟨a6,d⟩
  ·obtain⟨r39,a7,d⟩:=bnd d
   obtain rfl:=si d
   exact tr fol [2,9,13] (kQ (kAb e f [(129,.bool (!decide (J.1=r39)))])) (ac (gw C) (ac (gw a6) (ac (cv (qaF N e f a7)) az)))
  obtain rfl:=si d
  exact tr fol [2,9] (kQ (kAb e f [(129,.bool false)])) (ac (gw C) (ac (gw a6) az))
 refine ihB h (fun c42 h=>?_) (fun c42 h=>?_)
 ·refine sh fol kBD ?_
  refine Goes.ret ?_
  obtain rfl:=si h
  exact(gw2 [.bool false] (Ua tB))
 refine Goes.skip ?_
 obtain⟨r43,a8,h⟩:=bnd h
 obtain⟨r44,a9,h⟩:=bnd h
 obtain⟨L,b0,h⟩:=bnd h
 refine sq (gr fol [2,5,6] (kQ (kAb e f [(17,.i L.1),(18,.i L.2)])) (ac (cv (qcY e e a8)) (ac (cv (qcY e e a9)) (ac (cv (qbn N r43 r44 b0)) az))) ?_)
 obtain⟨r46,b1,h⟩:=bnd h
 obtain⟨c5,b2,h⟩:=bnd h
 refine sq (gr fol [2,4] (kQ (kAb e f [(17,.i L.1),(18,.i L.2),(20,.i c5.2)])) (ac (cv (qcY e e b1)) (ac (cv (qbn N r46 a b2)) az)) ?_)
 refine sq ?_
 refine sq ?_
 obtain⟨b50,p,h⟩:=bnd h
 refine Goes.cut (s':=(ofG 188 (kQ (kAb e f [(163,.bool b50)])),(kB a.Low a.High (kB b.Low b.High (kBC k.A k.B (kB j.1.Low j.1.High (kB o.1.Low o.1.High (kB q.1.Low q.1.High [])))))))) ?_ ?_
 ·rcases wyB p with⟨M,p⟩|⟨M,p⟩
  ·obtain rfl:=si p
   exact tr fol [2] (kQ (kAb e f [(163,.bool true)])) (ac (gw M) az)
  rcases wyB p with⟨b3,p⟩|⟨b3,p⟩
  ·obtain rfl:=si p
   exact tr fol [2,6] (kQ (kAb e f [(163,.bool true)])) (ac (gw M) (ac (gw b3) az))
  obtain rfl:=si p
  exact tr fol [2,6] (kQ (kAb e f [(163,.bool (!((decide (c5.2=0))==(a.Low==a.High))))])) (ac (gw M) (ac (gw b3) az))
 refine ihB h (fun c52 h=>?_) (fun c52 h=>?_)
 ·refine sh fol kBD ?_
  refine Goes.ret ?_
  obtain rfl:=si h
  exact(gw2 [.bool false] (Ua tB))
 refine Goes.skip ?_
 obtain⟨t,b4,h⟩:=bnd h
 refine sq (gq fol [2] (kBm (kAb e f [(21,.ptr 6 0),(22,.i t.2)])) (kB a.Low a.High (kB b.Low b.High (kBC k.A k.B (kB j.1.Low j.1.High (kB o.1.Low o.1.High (kB q.1.Low q.1.High (kB t.1.Low t.1.High []))))))) (ac (cv (qhX N a b b4)) az) ?_)
 refine sq ?_
 obtain⟨r54,b5,h⟩:=bnd h
 refine sq (gr fol [1] (kAb e f [(21,.ptr 6 0),(22,.i t.2),(171,.bool r54)]) (ac (cv (yH N b [48] b5)) az) ?_)
 refine ihB h (fun c55 h=>?_) (fun c55 h=>?_)
 ·refine sh fol [(6,.bool (decide (t.2=6)))] ?_
  refine Goes.ret ?_
  obtain rfl:=si h
  exact(gw2 [.bool (decide (t.2=6))] (Ua tB))
 refine Goes.skip ?_
 refine sq ?_
 obtain⟨c6,g,h⟩:=bnd h
 refine Goes.cut (s':=(ofG 188 [(6,.bool c6)],(kB a.Low a.High (kB b.Low b.High (kBC k.A k.B (kB j.1.Low j.1.High (kB o.1.Low o.1.High (kB q.1.Low q.1.High (kB t.1.Low t.1.High []))))))))) ?_ ?_
 ·rcases wyD g with⟨O,g⟩|⟨O,g⟩
  ·obtain⟨r57,H,g⟩:=bnd g
   rcases wyD g with⟨b7,g⟩|⟨b7,g⟩
   ·obtain⟨r59,b8,g⟩:=bnd g
    obtain⟨r60,b9,g⟩:=bnd g
    obtain rfl:=si g
    exact tr fol [2,4,7,11,12] [(6,.bool r60)] (ac (gw O) (ac (cv (qB N t.1 H)) (ac (gw b7) (ac (cv (qjv N e f b8)) (ac (cv (yH N t.1 r59 b9)) az)))))
   obtain rfl:=si g
   exact tr fol [2,4,7] kBD (ac (gw O) (ac (cv (qB N t.1 H)) (ac (gw b7) az)))
  obtain rfl:=si g
  exact tr fol [2] kBD (ac (gw O) az)
 refine Goes.ret ?_
 obtain rfl:=si h
 exact(gw2 [.bool c6] (Ua tB))
end Go.Av
