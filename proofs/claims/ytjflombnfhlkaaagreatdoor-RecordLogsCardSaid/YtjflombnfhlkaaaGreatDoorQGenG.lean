/-
  The walk of the law.
-/
import Derived.Test.YtjflombnfhlkaaaGreatDoorQGenG3
import Derived.Test.YtjflombnfhlkaaaGreatDoorAvAwk10
noncomputable section
namespace Go.Av
open Go.Proofs Go.RowKit
set_option linter.unusedSectionVars false
set_option linter.unusedVariables false
set_option linter.unusedSimpArgs false
set_option maxRecDepth 100000
def awk:Option Bool:=some true
theorem qiE {res:Bool} (h:awk=some res):qf Tryz.prog (.fn 15) [] [] (.bool res) []:=by
 obtain rfl:=si h
 exact qks
def vO (N:Nat) (e:qb) (log:Str):Option Bool:=
 ((zW N ([e]:List qb) 1).bind fun r1=>
 if(!r1)=true then
 some true
 else
 some (decide ((log.length:Int)>1500)):Option Bool).bind fun b3=>
 if b3=true then
 (awk).bind fun r6=>
 some r6
 else
 (vS N log e).bind fun r7=>
 (jN N log).bind fun r8=>
 (vT N log).bind fun r9=>
 (jk N e).bind fun r10=>
 (xP (!decide (e.Number=(w64 ((r9.1.length:Int)+1)))) 11).bind fun r11=>
 (xm N ([r9.2.2,r10,r11]:List Int)).bind fun r12=>
 ((if r12=0 then
 (app 88 ([]:List qb) r9.1).bind fun l16=>
 (app 88 l16 [e]).bind fun l17=>
 (qaB N l17).bind fun r18=>
 some r18
 else
 some []:Option Str)).bind fun text_13=>
 (if r7.2=r12 then
 if(r7.1==text_13)=true then
 (jh N r8.1 r9.1).bind fun r21=>
 if r21=true then
 if r8.2.1=r9.2.1 then
 if r8.2.2=r9.2.2 then
 (awk).bind fun r25=>
 some r25
 else
 some false
 else
 some false
 else
 some false
 else
 some false
 else
 some false:Option Bool).bind fun b26=>
 some b26
theorem qbH (N:Nat) (e:qb) (log:Str) {res:Bool} (h:vO N e log=some res):qf Tryz.prog (.fn 7) [.agg (cE e),.str log] [] (.bool res) []:=by
 unfold vO at h
 refine Goes.fnW Tryz.func7 rfl rfl (m:=90) rfl (rs:=[.tmp 4]) rfl (l:=[(0,.agg (cE e)),(1,.str log)]) rfl ?_
 refine sg fol ((1,.str log)::(kF [])) (kW e) ?_
 refine sq ?_
 refine sq ?_
 obtain⟨b3,g_v4,h⟩:=bnd h
 refine Goes.cut (s':=(ofG 90 ((1,.str log)::(kF [(23,.bool b3)])),(kS e []))) ?_ ?_
 ·obtain⟨r1,e_r1,g_v4⟩:=bnd g_v4
  rcases wyB g_v4 with⟨c2,g_v4⟩|⟨c2,g_v4⟩
  ·obtain rfl:=si g_v4
   exact qm.rq fol [2,4] ((1,.str log)::(kF [(23,.bool true)])) (kS e []) (ac (hs (.call 14 [.slice 1 0 1 1 5,.i 1] (kS e []) [1] [vl qa ([e]:List qb),.i 1] (.bool r1)) (qbp (FzL.cons (Fz.lit rfl rfl (FzL.still (AllST.cons tI (AllST.cons tS (AllST.cons (qV encS _ (nl rfl)) (AllST.cons (qV encI _ (nl rfl)) (AllST.cons tS AllST.nil))))))) (FzL.cons (Fz.still tI) FzL.nil)) (xe N ([e]:List qb) 1 e_r1) tB rfl)) (ac (gw c2) az))
  ·obtain rfl:=si g_v4
   exact qm.rq fol [2,4] ((1,.str log)::(kF [(23,.bool (decide ((log.length:Int)>1500)))])) (kS e []) (ac (hs (.call 14 [.slice 1 0 1 1 5,.i 1] (kS e []) [1] [vl qa ([e]:List qb),.i 1] (.bool r1)) (qbp (FzL.cons (Fz.lit rfl rfl (FzL.still (AllST.cons tI (AllST.cons tS (AllST.cons (qV encS _ (nl rfl)) (AllST.cons (qV encI _ (nl rfl)) (AllST.cons tS AllST.nil))))))) (FzL.cons (Fz.still tI) FzL.nil)) (xe N ([e]:List qb) 1 e_r1) tB rfl)) (ac (gw c2) az))
 refine ihB h (fun c5 h=>?_) (fun c5 h=>?_)
 ·refine sq ?_
  obtain⟨r6,e_r6,h⟩:=bnd h
  refine gr fol [0] [(4,.bool r6)] (ac (cv (qiE e_r6)) az) ?_
  refine Goes.ret ?_
  obtain rfl:=si h
  exact(Goes.retW (xs:=[.bool r6]) (by kernel_rfl) (FzW.still tB))
 ·refine Goes.skip ?_
  refine sq ?_
  obtain⟨r7,e_r7,h⟩:=bnd h
  refine gr fol [2] ((1,.str log)::(kF [(5,.str r7.1),(6,.i r7.2)])) (ac (cv (qcE N log e e_r7)) az) ?_
  refine sq ?_
  obtain⟨r8,e_r8,h⟩:=bnd h
  refine gr fol [1] ((1,.str log)::(kF [(5,.str r7.1),(6,.i r7.2),(7,vl qa r8.1),(8,.i r8.2.1),(9,.i r8.2.2)])) (ac (cv (qad N log e_r8)) az) ?_
  refine sq ?_
  obtain⟨r9,e_r9,h⟩:=bnd h
  refine gr fol [1] (kF (kY r7.1 r7.2 r8.1 r8.2.1 r8.2.2 r9.1 r9.2.1 r9.2.2 [])) (ac (cv (qcO N log e_r9)) az) ?_
  refine sq ?_
  obtain⟨r10,e_r10,h⟩:=bnd h
  obtain⟨r11,e_r11,h⟩:=bnd h
  obtain⟨r12,e_r12,h⟩:=bnd h
  refine gq fol [2,9,11] (kF (kY r7.1 r7.2 r8.1 r8.2.1 r8.2.2 r9.1 r9.2.1 r9.2.2 [(13,.i r12)])) (kS e (kAh r9.2.2 r10 r11 [])) (ac (cv (xx N e e_r10)) (ac (cv (qeC (!decide (e.Number=(w64 ((r9.1.length:Int)+1)))) 11 e_r11)) (ac (hs (.call 28 [.slice 2 0 3 3 1] (kS e (kAh r9.2.2 r10 r11 [])) [2] [vl encI ([r9.2.2,r10,r11]:List Int)] (.i r12)) (qbp (FzL.cons (Fz.lit rfl rfl (FzL.still (AllST.cons tI (AllST.cons tI (AllST.cons tI AllST.nil))))) FzL.nil) (qd8 N ([r9.2.2,r10,r11]:List Int) e_r12) tI rfl)) az))) ?_
  refine sh fol (kF (kY r7.1 r7.2 r8.1 r8.2.1 r8.2.2 r9.1 r9.2.1 r9.2.2 [(13,.i r12),(14,.str [])])) ?_
  refine sq ?_
  refine sh fol (kF (kY r7.1 r7.2 r8.1 r8.2.1 r8.2.2 r9.1 r9.2.1 r9.2.2 [(13,.i r12),(14,.str []),(56,.bool (decide (r12=0)))])) ?_
  obtain⟨r14,g14,h⟩:=bnd h
  refine Goes.imp (Q:=fun x s'=>(x= .normal∧ ∃text_13,text_13=r14∧Sub s' (ofG 90 (kY r7.1 r7.2 r8.1 r8.2.1 r8.2.2 r9.1 r9.2.1 r9.2.2 [(13,.i r12),(14,.str text_13)]),[]))) ?_ ?_
  ·refine ihD g14 (fun c15 g14=>?_) (fun c15 g14=>?_)
   ·obtain⟨l16,e_l16,g14⟩:=bnd g14
    obtain⟨l17,e_l17,g14⟩:=bnd g14
    obtain⟨r18,e_r18,g14⟩:=bnd g14
    refine gq fol [2,5,6] (kY r7.1 r7.2 r8.1 r8.2.1 r8.2.2 r9.1 r9.2.1 r9.2.2 [(13,.i r12),(14,.str r18)]) (kS e (kAh r9.2.2 r10 r11 (.dead:: .dead:: .cells (cE e)::(kH l17 [])))) (ac (hs (.run [3] (zy Tryz.prog [22,22] (.slice 3 0 0 0 5) (vl qa r9.1)) (kS e (kAh r9.2.2 r10 r11 [.cells []])) (.oslice 4 l16.length 5) (kS e (kAh r9.2.2 r10 r11 (.dead::(kH l16 [])))) true) (vH jd (E:=qa) rfl (qhJ (E:=qa) rfl _) (qj0 (E:=qa) rfl rfl rfl e_l16 rfl))) (ac (hs (.run [4,5] (zy Tryz.prog [22,22] (.oslice 4 l16.length 5) (.slice 5 0 1 1 5)) (kS e (kAh r9.2.2 r10 r11 (.dead::(kH l16 (kW e))))) (.oslice 6 l17.length 5) (kS e (kAh r9.2.2 r10 r11 (.dead:: .dead:: .cells (cE e)::(kH l17 [])))) true) (vH jd (E:=qa) rfl (qbT (E:=qa) (ys:=[e]) rfl rfl rfl rfl) (qhN (E:=qa) (l:=l16) rfl rfl rfl e_l17 rfl))) (ac (hs (.call 45 [.oslice 6 l17.length 5] (kS e (kAh r9.2.2 r10 r11 (.dead:: .dead:: .cells (cE e)::(kH l17 [])))) [6] [vl qa l17] (.str r18)) (qbp (FzL.cons (Fz.os (E:=qa) rfl rfl (nl rfl)) FzL.nil) (qfJ N l17 e_r18) tS rfl)) az))) ?_
    obtain rfl:=si g14
    exact⟨rfl,_,rfl,(Sub.norm [] [] rfl rfl (.keep (.same nS) (.keep (.same nI) (.keep (.same (ql qa _)) (.keep (.same nI) (.keep (.same nI) (.keep (.same (ql qa _)) (.keep (.same nI) (.keep (.same nI) (.keep (.same nI) (.keep (.same nS) .nil)))))))))) .nil)⟩
   ·refine Goes.skip ?_
    obtain rfl:=si g14
    exact⟨rfl,_,rfl,(Sub.norm [] [] rfl rfl (.drop (.keep (.same nS) (.keep (.same nI) (.keep (.same (ql qa _)) (.keep (.same nI) (.keep (.same nI) (.keep (.same (ql qa _)) (.keep (.same nI) (.keep (.same nI) (.keep (.same nI) (.keep (.same nS) .nil))))))))))) .nil)⟩
  rintro x s' ⟨rfl,text_13,rfl,hsub⟩
  refine Goes.sub hsub ?_
  refine sq ?_
  obtain⟨b26,g_v27,h⟩:=bnd h
  refine Goes.cut (s':=(ofG 90 [(4,.bool b26)],[])) ?_ ?_
  ·rcases wyD g_v27 with⟨c19,g_v27⟩|⟨c19,g_v27⟩
   ·rcases wyB g_v27 with⟨c20,g_v27⟩|⟨c20,g_v27⟩
    ·obtain⟨r21,e_r21,g_v27⟩:=bnd g_v27
     rcases wyB g_v27 with⟨c22,g_v27⟩|⟨c22,g_v27⟩
     ·rcases wyD g_v27 with⟨c23,g_v27⟩|⟨c23,g_v27⟩
      ·rcases wyD g_v27 with⟨c24,g_v27⟩|⟨c24,g_v27⟩
       ·obtain⟨r25,e_r25,g_v27⟩:=bnd g_v27
        obtain rfl:=si g_v27
        exact tr fol [3,8,11,13,18,23,24] [(4,.bool r25)] (ac (gw c19) (ac (gw c20) (ac (cv (jK N r8.1 r9.1 e_r21)) (ac (gw c22) (ac (gw c23) (ac (gw c24) (ac (cv (qiE e_r25)) az)))))))
       ·obtain rfl:=si g_v27
        exact tr fol [3,8,11,13,18,23] kAG (ac (gw c19) (ac (gw c20) (ac (cv (jK N r8.1 r9.1 e_r21)) (ac (gw c22) (ac (gw c23) (ac (gw c24) az))))))
      ·obtain rfl:=si g_v27
       exact tr fol [3,8,11,13,18] kAG (ac (gw c19) (ac (gw c20) (ac (cv (jK N r8.1 r9.1 e_r21)) (ac (gw c22) (ac (gw c23) az)))))
     ·obtain rfl:=si g_v27
      exact tr fol [3,8,11,13] kAG (ac (gw c19) (ac (gw c20) (ac (cv (jK N r8.1 r9.1 e_r21)) (ac (gw c22) az))))
    ·obtain rfl:=si g_v27
     exact tr fol [3,8] kAG (ac (gw c19) (ac (gw c20) az))
   ·obtain rfl:=si g_v27
    exact tr fol [3] kAG (ac (gw c19) az)
  refine Goes.ret ?_
  obtain rfl:=si h
  exact(Goes.retW (xs:=[.bool b26]) (by kernel_rfl) (FzW.still tB))
end Go.Av
