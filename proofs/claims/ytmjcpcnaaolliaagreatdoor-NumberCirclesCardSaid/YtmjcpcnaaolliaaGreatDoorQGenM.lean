/-
  The walk of the law.
-/
import Derived.Test.YtmjcpcnaaolliaaGreatDoorQGenM4
import Derived.Test.YtmjcpcnaaolliaaGreatDoorAvAwkM
noncomputable section
namespace Go.Av
open Go.Proofs Go.RowKit
set_option linter.unusedSectionVars false
set_option linter.unusedVariables false
set_option linter.unusedSimpArgs false
set_option maxRecDepth 100000
def awk:Option Bool:=some true
theorem qhq {res:Bool} (h:awk=some res):qb ZT (.fn 6) [] [] (.bool res) []:=by
 obtain rfl:=si h
 exact qqO
def yN (N:Nat) (k:Int) (h:qC):Option Bool:=
 ((awk).bind fun J=>
 if(!J)=true then
 some true
 else
 if k<1 then
 some true
 else
 if k>12 then
 some true
 else
 (qaM N h 4).bind fun K=>
 some (!K):Option Bool).bind fun L=>
 if L=true then
 (awk).bind fun M=>
 some M
 else
 (qcd N k).bind fun a=>
 (qcd N (w64 (k+1))).bind fun b=>
 (if(!decide ((w64 (a.2+b.2))=0))=true then
 some true
 else
 (ky N a.1).bind fun i=>
 if(!decide (i=0))=true then
 some true
 else
 (ky N b.1).bind fun j=>
 if(!decide (j=0))=true then
 some true
 else
 (xB N b.1 a.1).bind fun l=>
 if(!l)=true then
 some true
 else
 (xY N a.1.High a.1.Low).bind fun m=>
 (qds N [49,48] k).bind fun n=>
 (qbB N [49] n).bind fun o=>
 some (!(m==o)):Option Bool).bind fun p=>
 if p=true then
 some false
 else
 (qbO [49,54]).bind fun q=>
 (qaF N 5 (w64 (k+2))).bind fun r=>
 (qa1 N q r).bind fun s=>
 (qbO [52]).bind fun t=>
 (qaF N 239 k).bind fun u=>
 (qa1 N t u).bind fun v=>
 (qcO N s v).bind fun c=>
 ((ym N c.High a.1.Low).bind fun w=>
 if w<0 then
 some true
 else
 (ym N c.Low a.1.High).bind fun x=>
 if x>0 then
 some true
 else
 (xY N c.High c.Low).bind fun y=>
 (xY N a.1.High a.1.Low).bind fun z=>
 (ym N y z).bind fun A=>
 some (decide (A>0)):Option Bool).bind fun B=>
 if B=true then
 some false
 else
 (qaB N h a.1).bind fun d=>
 (qaB N h b.1).bind fun e=>
 (qa0 N d.1 a.1).bind fun f=>
 (qa0 N e.1 b.1).bind fun g=>
 (if(w64 ((w64 ((w64 (d.2+e.2))+f.2))+g.2))=0 then
 (ky N d.1).bind fun C=>
 if C=0 then
 (ky N e.1).bind fun D=>
 if D=0 then
 (ky N f.1).bind fun E=>
 if E=0 then
 (ky N g.1).bind fun F=>
 if F=0 then
 (xB N e.1 d.1).bind fun G=>
 if G=true then
 (xB N g.1 f.1).bind fun H=>
 some H
 else
 some false
 else
 some false
 else
 some false
 else
 some false
 else
 some false
 else
 some false:Option Bool).bind fun I=>
 some I
theorem qdP (N:Nat) (k:Int) (o:qC) {res:Bool} (h:yN N k o=some res):qb ZT (.fn 3) (.i k::(kW o.Low o.High [])) [] (.bool res) []:=by
 unfold yN at h
 refine Ub Tryz.func3 rfl rfl (m:=176) rfl (rs:=[.tmp 4]) rfl (l:=[(0,.i k),(1,.agg [.str o.Low,.str o.High])]) rfl ?_
 refine sg fol (kBG k []) (kV o.Low o.High []) ?_
 refine sq ?_
 refine sq ?_
 obtain⟨b6,e,h⟩:=bnd h
 refine Goes.cut (s':=(ofG 176 (kBG k [(32,.bool b6)]),(kV o.Low o.High []))) ?_ ?_
 ·obtain⟨r1,A,e⟩:=bnd e
  rcases wyB e with⟨c2,e⟩|⟨c2,e⟩
  ·obtain rfl:=si e
   exact tr fol [0,2] (kBG k [(32,.bool true)]) (ac (cv (qhq A)) (ac (gw c2) az))
  rcases wyD e with⟨c3,e⟩|⟨c3,e⟩
  ·obtain rfl:=si e
   exact tr fol [0,2,6] (kBG k [(32,.bool true)]) (ac (cv (qhq A)) (ac (gw c2) (ac (gw c3) az)))
  rcases wyD e with⟨c4,e⟩|⟨c4,e⟩
  ·obtain rfl:=si e
   exact tr fol [0,2,6,10] (kBG k [(32,.bool true)]) (ac (cv (qhq A)) (ac (gw c2) (ac (gw c3) (ac (gw c4) az))))
  obtain⟨r5,e_r5,e⟩:=bnd e
  obtain rfl:=si e
  exact tr fol [0,2,6,10,12] (kBG k [(32,.bool (!r5))]) (ac (cv (qhq A)) (ac (gw c2) (ac (gw c3) (ac (gw c4) (ac (cv (qgi N o 4 e_r5)) az)))))
 refine ihB h (fun c8 h=>?_) (fun c8 h=>?_)
 ·obtain⟨r9,e_r9,h⟩:=bnd h
  refine sq (gr fol [0] (kAs r9) (ac (cv (qhq e_r9)) az) ?_)
  refine Goes.ret ?_
  obtain rfl:=si h
  exact(gw2 [.bool r9] (Ua tB))
 refine Goes.skip ?_
 obtain⟨c,L,h⟩:=bnd h
 refine sq (gq fol [1] (kBG k (kAW c.2 [])) (kD o.Low o.High c.1.Low c.1.High []) (ac (cv (qfG N k L)) az) ?_)
 obtain⟨f,M,h⟩:=bnd h
 refine sq (gq fol [2] (kBG k (kAW c.2 [(7,.ptr 2 0),(8,.i f.2)])) (kD o.Low o.High c.1.Low c.1.High (kV f.1.Low f.1.High [])) (ac (cv (qfG N (w64 (k+1)) M)) az) ?_)
 refine sq ?_
 refine sq ?_
 obtain⟨b22,b,h⟩:=bnd h
 refine Goes.cut (s':=(ofG 176 ((0,.i k)::(kAC [(75,.bool b22)])),(kD o.Low o.High c.1.Low c.1.High (kV f.1.Low f.1.High [])))) ?_ ?_
 ·rcases wyB b with⟨B,b⟩|⟨B,b⟩
  ·obtain rfl:=si b
   exact tr fol [4] ((0,.i k)::(kAC [(75,.bool true)])) (ac (gw B) az)
  obtain⟨r13,s,b⟩:=bnd b
  rcases wyB b with⟨D,b⟩|⟨D,b⟩
  ·obtain rfl:=si b
   exact tr fol [4,6,9] ((0,.i k)::(kAC [(75,.bool true)])) (ac (gw B) (ac (cv (ql N c.1 s)) (ac (gw D) az)))
  obtain⟨r15,w,b⟩:=bnd b
  rcases wyB b with⟨I,b⟩|⟨I,b⟩
  ·obtain rfl:=si b
   exact tr fol [4,6,9,11,14] ((0,.i k)::(kAC [(75,.bool true)])) (ac (gw B) (ac (cv (ql N c.1 s)) (ac (gw D) (ac (cv (ql N f.1 w)) (ac (gw I) az)))))
  obtain⟨r17,E,b⟩:=bnd b
  rcases wyB b with⟨O,b⟩|⟨O,b⟩
  ·obtain rfl:=si b
   exact tr fol [4,6,9,11,14,17,20] ((0,.i k)::(kAC [(75,.bool true)])) (ac (gw B) (ac (cv (ql N c.1 s)) (ac (gw D) (ac (cv (ql N f.1 w)) (ac (gw I) (ac (cv (xL N f.1 c.1 E)) (ac (gw O) az)))))))
  obtain⟨r19,P,b⟩:=bnd b
  obtain⟨r20,Q,b⟩:=bnd b
  obtain⟨r21,U,b⟩:=bnd b
  obtain rfl:=si b
  exact tr fol [4,6,9,11,14,17,20,25,27,28] ((0,.i k)::(kAC [(75,.bool (!(r19==r21)))])) (ac (gw B) (ac (cv (ql N c.1 s)) (ac (gw D) (ac (cv (ql N f.1 w)) (ac (gw I) (ac (cv (xL N f.1 c.1 E)) (ac (gw O) (ac (cv (qaA N c.1.High c.1.Low P)) (ac (cv (qjT N [49,48] k Q)) (ac (cv (qdJ N [49] r20 U)) az))))))))))
 refine ihB h (fun c24 h=>?_) (fun c24 h=>?_)
 ·refine sh fol kAa ?_
  refine Goes.ret ?_
  obtain rfl:=si h
  exact(gw2 [.bool false] (Ua tB))
 refine Goes.skip ?_
 obtain⟨r25,V,h⟩:=bnd h
 obtain⟨r26,X,h⟩:=bnd h
 obtain⟨r27,Y,h⟩:=bnd h
 obtain⟨r28,Z,h⟩:=bnd h
 obtain⟨r29,a0,h⟩:=bnd h
 obtain⟨r30,a1,h⟩:=bnd h
 obtain⟨j,a2,h⟩:=bnd h
 refine sq (gq fol [0,3,4,5,7,8,9] (kAC [(9,.ptr 3 0)]) (kD o.Low o.High c.1.Low c.1.High (kD f.1.Low f.1.High j.Low j.High [])) (ac (cv (qeP [49,54] V)) (ac (cv (qd2 N 5 (w64 (k+2)) X)) (ac (cv (qeh N r25 r26 Y)) (ac (cv (qeP [52] Z)) (ac (cv (qd2 N 239 k a0)) (ac (cv (qeh N r28 r29 a1)) (ac (cv (qhp N r27 r30 a2)) az))))))) ?_)
 refine sq ?_
 refine sq ?_
 obtain⟨b39,d,h⟩:=bnd h
 refine Goes.cut (s':=(ofG 176 (kAC [(113,.bool b39)]),(kD o.Low o.High c.1.Low c.1.High (kD f.1.Low f.1.High j.Low j.High [])))) ?_ ?_
 ·obtain⟨r32,x,d⟩:=bnd d
  rcases wyD d with⟨J,d⟩|⟨J,d⟩
  ·obtain rfl:=si d
   exact tr fol [4,6] (kAC [(113,.bool true)]) (ac (cv (jd N j.High c.1.Low x)) (ac (gw J) az))
  obtain⟨r34,F,d⟩:=bnd d
  rcases wyD d with⟨a3,d⟩|⟨a3,d⟩
  ·obtain rfl:=si d
   exact tr fol [4,6,11,14] (kAC [(113,.bool true)]) (ac (cv (jd N j.High c.1.Low x)) (ac (gw J) (ac (cv (jd N j.Low c.1.High F)) (ac (gw a3) az))))
  obtain⟨r36,a4,d⟩:=bnd d
  obtain⟨r37,a5,d⟩:=bnd d
  obtain⟨r38,a6,d⟩:=bnd d
  obtain rfl:=si d
  exact tr fol [4,6,11,14,19,24,25] (kAC [(113,.bool (decide (r38>0)))]) (ac (cv (jd N j.High c.1.Low x)) (ac (gw J) (ac (cv (jd N j.Low c.1.High F)) (ac (gw a3) (ac (cv (qaA N j.High j.Low a4)) (ac (cv (qaA N c.1.High c.1.Low a5)) (ac (cv (jd N r36 r37 a6)) az)))))))
 refine ihB h (fun c41 h=>?_) (fun c41 h=>?_)
 ·refine sh fol kAa ?_
  refine Goes.ret ?_
  obtain rfl:=si h
  exact(gw2 [.bool false] (Ua tB))
 refine Goes.skip ?_
 obtain⟨g,a7,h⟩:=bnd h
 refine sq (gq fol [2] (kAC [(10,.ptr 4 0),(11,.i g.2)]) (kD o.Low o.High c.1.Low c.1.High (kD f.1.Low f.1.High j.Low j.High (kV g.1.Low g.1.High []))) (ac (cv (qd3 N o c.1 a7)) az) ?_)
 obtain⟨n,a8,h⟩:=bnd h
 refine sq (gq fol [2] [(5,.ptr 1 0),(7,.ptr 2 0),(10,.ptr 4 0),(11,.i g.2),(12,.ptr 5 0),(13,.i n.2)] (kD o.Low o.High c.1.Low c.1.High (kD f.1.Low f.1.High j.Low j.High (kD g.1.Low g.1.High n.1.Low n.1.High []))) (ac (cv (qd3 N o f.1 a8)) az) ?_)
 obtain⟨p,a9,h⟩:=bnd h
 refine sq (gq fol [2] [(7,.ptr 2 0),(10,.ptr 4 0),(11,.i g.2),(12,.ptr 5 0),(13,.i n.2),(14,.ptr 6 0),(15,.i p.2)] (kD o.Low o.High c.1.Low c.1.High (kD f.1.Low f.1.High j.Low j.High (kD g.1.Low g.1.High n.1.Low n.1.High (kV p.1.Low p.1.High [])))) (ac (cv (qec N g.1 c.1 a9)) az) ?_)
 obtain⟨t,b0,h⟩:=bnd h
 refine sq (gq fol [2] [(10,.ptr 4 0),(11,.i g.2),(12,.ptr 5 0),(13,.i n.2),(14,.ptr 6 0),(15,.i p.2),(16,.ptr 7 0),(17,.i t.2)] (kD o.Low o.High c.1.Low c.1.High (kD f.1.Low f.1.High j.Low j.High (kD g.1.Low g.1.High n.1.Low n.1.High (kD p.1.Low p.1.High t.1.Low t.1.High [])))) (ac (cv (qec N n.1 f.1 b0)) az) ?_)
 refine sq ?_
 obtain⟨b58,a,h⟩:=bnd h
 refine Goes.cut (s':=(ofG 176 (kAs b58),(kD o.Low o.High c.1.Low c.1.High (kD f.1.Low f.1.High j.Low j.High (kD g.1.Low g.1.High n.1.Low n.1.High (kD p.1.Low p.1.High t.1.Low t.1.High [])))))) ?_ ?_
 ·rcases wyD a with⟨v,a⟩|⟨v,a⟩
  ·obtain⟨r47,q,a⟩:=bnd a
   rcases wyD a with⟨y,a⟩|⟨y,a⟩
   ·obtain⟨r49,r,a⟩:=bnd a
    rcases wyD a with⟨C,a⟩|⟨C,a⟩
    ·obtain⟨r51,u,a⟩:=bnd a
     rcases wyD a with⟨G,a⟩|⟨G,a⟩
     ·obtain⟨r53,z,a⟩:=bnd a
      rcases wyD a with⟨K,a⟩|⟨K,a⟩
      ·obtain⟨r55,H,a⟩:=bnd a
       rcases wyB a with⟨b1,a⟩|⟨b1,a⟩
       ·obtain⟨r57,b2,a⟩:=bnd a
        obtain rfl:=si a
        exact tr fol [8,10,13,15,18,20,23,25,28,31,33,36] (kAs r57) (ac (gw v) (ac (cv (ql N g.1 q)) (ac (gw y) (ac (cv (ql N n.1 r)) (ac (gw C) (ac (cv (ql N p.1 u)) (ac (gw G) (ac (cv (ql N t.1 z)) (ac (gw K) (ac (cv (xL N n.1 g.1 H)) (ac (gw b1) (ac (cv (xL N t.1 p.1 b2)) az))))))))))))
       obtain rfl:=si a
       exact tr fol [8,10,13,15,18,20,23,25,28,31,33] kAa (ac (gw v) (ac (cv (ql N g.1 q)) (ac (gw y) (ac (cv (ql N n.1 r)) (ac (gw C) (ac (cv (ql N p.1 u)) (ac (gw G) (ac (cv (ql N t.1 z)) (ac (gw K) (ac (cv (xL N n.1 g.1 H)) (ac (gw b1) az)))))))))))
      obtain rfl:=si a
      exact tr fol [8,10,13,15,18,20,23,25,28] kAa (ac (gw v) (ac (cv (ql N g.1 q)) (ac (gw y) (ac (cv (ql N n.1 r)) (ac (gw C) (ac (cv (ql N p.1 u)) (ac (gw G) (ac (cv (ql N t.1 z)) (ac (gw K) az)))))))))
     obtain rfl:=si a
     exact tr fol [8,10,13,15,18,20,23] kAa (ac (gw v) (ac (cv (ql N g.1 q)) (ac (gw y) (ac (cv (ql N n.1 r)) (ac (gw C) (ac (cv (ql N p.1 u)) (ac (gw G) az)))))))
    obtain rfl:=si a
    exact tr fol [8,10,13,15,18] kAa (ac (gw v) (ac (cv (ql N g.1 q)) (ac (gw y) (ac (cv (ql N n.1 r)) (ac (gw C) az)))))
   obtain rfl:=si a
   exact tr fol [8,10,13] kAa (ac (gw v) (ac (cv (ql N g.1 q)) (ac (gw y) az)))
  obtain rfl:=si a
  exact tr fol [8] kAa (ac (gw v) az)
 refine Goes.ret ?_
 obtain rfl:=si h
 exact(gw2 [.bool b58] (Ua tB))
end Go.Av
