/- CoreS: lemmas. No conditions. -/
import Derived.Test.YtdeobhdbmehpgaaGreatCoreA
import Derived.Test.YtdeobhdbmehpgaaGreatCoreP
namespace Go.Proofs.YtdeobhdbmehpgaaGreat
noncomputable section
set_option maxRecDepth 100000
open Go.ChangeShapes Go.WideShapes Go.ChangeAt Go.RowKit Go.Deep
set_option linter.unusedVariables false
set_option linter.unusedSimpArgs false
def bMK:bA:=aV aA
def aHD (ops:List dJ) (plan:List kC) (last redo:Bool):bA:=if bW ops=true then (0,plan,ops,last,redo,[],[],[],[],[],[],aF8 ops) else bMK
def aHS (c:bZ) (n:Nat) (s:Int):bA :=
 aHD (List.drop (bE c.1 c.2.1 s).1.toNat (List.take (bE c.1 c.2.1 s).2.toNat c.1)) (aCK c.2.2.1 (bV c.1 c.2.1) s (n:Int) (c.2.2.2.1.getD s.toNat false)) (s==bV c.1 c.2.1 - 1) (c.2.2.2.1.getD s.toNat false)
def aC8 (c:bZ) (i:Nat):bX:=(c.2.2.2.2.1.getD i 0,[])
def aCF (c:bZ) (b:List bP):aY :=
 if eQ c b=0 then (b,mp (bV c.1 c.2.1).toNat (fun s=>aHS c b.length (s:Int)),mp c.2.2.2.2.1.length (aC8 c),mp c.2.2.2.2.1.length (aC8 c)) else ([],[],[],[])
theorem bMZ {c:bZ} {b:List bP} (h:¬ eQ c b=0):([],[],[],[])=aCF c b:=(if_neg h).symm
theorem aYH {c:bZ} {b:List bP} (h:eQ c b=0):(b,mp (bV c.1 c.2.1).toNat (fun s=>aHS c b.length (s:Int)),mp c.2.2.2.2.1.length (aC8 c),mp c.2.2.2.2.1.length (aC8 c))=aCF c b:=(if_pos h).symm
theorem bJ6 {ops:List dJ} {plan:List kC} {last redo:Bool} (h:bW ops=false):(0,[],[],false,false,[],[],[],[],[],[],[],0,false)=aHD ops plan last redo:=(if_neg (by rw[h];simp)).symm
theorem bKX {ops:List dJ} {plan:List kC} {last redo:Bool} (h:bW ops=true):(0,plan,ops,last,redo,[],[],[],[],[],[],aF8 ops)=aHD ops plan last redo:=(if_pos h).symm
theorem aQ7 {c:bZ} {b:List bP} (h:eQ c b=0):bW c.1=true∧eN c.1 b=true∧lN c.1 c.2.1=true∧bV c.1 c.2.1=(c.2.1.length:Int)+1∧bV c.1 c.2.1≤4∧(c.2.2.2.1.length:Int)=bV c.1 c.2.1∧sD c=true∧nN c (b.length:Int)=true:=by
 cases h1:bW c.1
 ·rw[← bNG h1] at h;omega
 cases h2:eN c.1 b
 ·rw[← bN2 h1 h2] at h;omega
 by_cases h3:bV c.1 c.2.1=0∨4<bV c.1 c.2.1
 ·rw[← bLT h1 h2 h3] at h;omega
 by_cases h4:c.2.2.1=1∨c.2.2.1=2
 rotate_left
 ·rw[← bNN h1 h2 h3 h4] at h;omega
 by_cases h5:(c.2.2.2.1.length:Int)=bV c.1 c.2.1
 rotate_left
 ·rw[← bN9 h1 h2 h3 h4 h5] at h;omega
 cases h6:sD c
 ·rw[← bN0 h1 h2 h3 h4 h5 h6] at h;omega
 cases h7:nN c (b.length:Int)
 ·rw[← bLU h1 h2 h3 h4 h5 h6 h7] at h;omega
 cases hc:lN c.1 c.2.1
 ·rw[aST hc] at h3;omega
 ·exact ⟨rfl,rfl,rfl,aF2 hc,by omega,h5,rfl,rfl⟩
theorem aW6 {c:bZ} (h:sD c=true):c.2.2.2.2.1.length=c.2.1.length:=by
 unfold sD at h;rw[Bool.and_eq_true,decide_eq_true_eq] at h;exact h.1
theorem bGA {c:bZ} (h:bQ aQ c≤1000000000):tY c:=by
 have hB:=kA (t:=aQ) h
 exact ⟨⟨hB.1.1,fun o ho=>(hB.1.2 o ho).2.2.2.1⟩,hB.2.1.1,hB.2.2.2.1.1,hB.2.2.2.2.1.1,hB.2.2.2.2.2.1⟩
theorem bGM {m:List dJ} (a b:Nat):bQ aK (List.drop a (List.take b m))≤bQ aK m:=qA ((List.drop_sublist _ _).trans (List.take_sublist _ _))
theorem bB8 (p:aY):(aA0 p).length≤4:=by
 cases h:jR p
 ·have e:∀ k,aI5 p k=[]:=fun k=>by
   induction k with
   | zero=>rfl
   | succ k ih=>rw[aI5,ih,if_neg (by rw[← aNW (p:=p) (s:=(k:Int)) (.inl h)];simp)];rfl
  unfold aA0;rw[e];exact Nat.zero_le _
 ·have h1:=(mM.1 h).1
  have h2:=aFC p p.2.1.length
  unfold aA0;omega
theorem aXN {l:List Int} {k:Nat} (h:k<l.length):l.take (k+1)=l.take k++[l[k]]:=List.take_succ_eq_append_getElem h
theorem bD9 {p:aY} {l:List Int} {k:Nat} (h:k<l.length):wM p (l.take (k+1))=eR (wM p (l.take k)) l[k]:=by rw[aXN h,aTZ]
theorem bL1 {p:aY} (l:List Int) (k:Nat) (hk:k≤2000) (hp:bQ aC p≤100000000):bQ aC (wM p (l.take k))≤1000000000:=by
 have h:=aRV p (l.take k)
 have h2:(l.take k).length≤k:=by rw[List.length_take];omega
 omega
def mY:Con:=⟨93,(.bNT aK (.bNT bC (.bNT .bool .bool))),aA,[.val ⟨false,aK,[]⟩,.val ⟨false,bC,[]⟩,.val ⟨false,.bool,[]⟩,.val ⟨false,.bool,[]⟩],[⟨true,aA,[0,2,2,0,0,2,2,2,2,2,2,2,0,0]⟩],false,none,
 ((fun x=>bQ aK x.1≤1000000000∧List.length x.2.1≤1000000000):(bD × ((List kC) × (Bool × Bool)))→Prop),
 ((fun x=>aHD x.1 x.2.1 x.2.2.1 x.2.2.2):(bD × ((List kC) × (Bool × Bool)))→(bA))⟩
def yF:T:=.call 0 (.p1 aK (.bNT bC (.bNT .bool .bool)) (.Z 0)) <|
 .bNU .not (.Z 1) <|
 .ite (.Z 2) (
  .ret (bB aA [(.ci .i64 0),(.nl 76 aE),(.nl 78 bG),(.cb false),(.cb false),(.nl 80 aD),(.nl 112 aB),(.nl 3 tI),(.nl 3 tI),(.nl 3 tI),(.nl 3 tI),(.nl 112 aB),(.ci .i64 0),(.cb false)])) (
  .bNU (.bO0 76 aE 16) (.bNV bC bC (.nl 76 aE) (aJ (.bNT aK (.bNT bC (.bNT .bool .bool))) 1 (.Z 0))) <|
  .call 1 (.p1 aK (.bNT bC (.bNT .bool .bool)) (.Z 0)) <|
  .call 2 (.p1 aK (.bNT bC (.bNT .bool .bool)) (.Z 0)) <|
  .ret (bB aA [(.ci .i64 0),(.Z 3),(.Z 4),(aJ (.bNT aK (.bNT bC (.bNT .bool .bool))) 2 (.Z 0)),(aO (.bNT aK (.bNT bC (.bNT .bool .bool))) 3 (.Z 0)),(.nl 80 aD),(.nl 112 aB),(.nl 3 tI),(.nl 3 tI),(.nl 3 tI),(.nl 3 tI),(.Z 5)]))
theorem aRB:bM Tryz.prog [bY,kQ,lU] mY false 3000 ⟨[],[]⟩ = .ok yF:=by kernel_rfl
theorem aPD (x:bD × ((List kC) × (Bool × Bool))) (hx:okD (.bNT aK (.bNT bC (.bNT .bool .bool))) x) (hp:(fun x=>bQ aK x.1≤1000000000∧List.length x.2.1≤1000000000) x):yF.wp [bY,kQ,lU] [⟨(.bNT aK (.bNT bC (.bNT .bool .bool))),x⟩] [] (fun v=>v.as aA=(fun x=>aHD x.1 x.2.1 x.2.2.1 x.2.2.2) x):=by
 have hm:=(kA (t:=aK) hp.1)
 delta yF bY kQ lU;refine dB ?_
 refine dT ?_
 refine ⟨fun h=>bJ6 h,fun h=>⟨⟨by have:=hp.2;omega,by have:=hp.2;unfold maxLen;omega⟩,fun _=>⟨hp.1,fun _=>⟨⟨hm.1,fun o ho=>(hm.2 o ho).2.2.2.1⟩,fun _=>bKX h⟩⟩⟩⟩
theorem aR1:Con.Holds Tryz.prog mY:=aS aW (aH jI (aH aJR (aH aMM aR))) aRB aPD
def pE:Con:=⟨105,(.bNT aQ aN),aC,[.val ⟨true,aQ,[]⟩,.val ⟨false,aN,[]⟩],[⟨true,aC,[2,2,2,2]⟩],false,none,
 ((fun x=>bQ aQ x.1≤100000000∧bQ aN x.2≤100000000):(bZ × dL)→Prop),
 ((fun x=>aCF x.1 x.2):(bZ × dL)→(aY))⟩
def aA2:T:=.call 0 (.Z 0) <|
 .bNU (.cmp .neq .i64) (.bNV tI tI (.Z 1) (.ci .i64 0)) <|
 .ite (.Z 2) (
  .ret (bB aC [(.nl 94 aM),(.nl 38 aA),(.nl 119 aL),(.nl 119 aL)])) (
  .call 1 (.p1 aQ aN (.Z 0)) <|
  .loop (.bNT tI aN) (.bNV tI aN (.ci .i64 0) (.nl 94 aM)) <|
   .bNU (.bNX 94 aM) (aO (.bNT aQ aN) 1 (.Z 0)) <|
   .bNU (.cmp .lss .i64) (.bNV tI tI (.p1 tI aN (.Z 4)) (.Z 5)) <|
   .ite (.Z 6) (
    .bNU (.bNY 94 aM) (.bNV aN tI (aO (.bNT aQ aN) 1 (.Z 0)) (.p1 tI aN (.Z 4))) <|
    .bNU (.bNY 94 aM) (.bNV aN tI (aO (.bNT aQ aN) 1 (.Z 0)) (.p1 tI aN (.Z 4))) <|
    .bNU (.bO0 3 tI 8) (.bNV aB aB (.nl 3 tI) (.p1 aB aB (.Z 7))) <|
    .bNU (.bO0 3 tI 8) (.bNV aB aB (.nl 3 tI) (aO aM 1 (.Z 8))) <|
    .bNU (.lit 94 aM 1) (.bNV aB aB (.Z 9) (.Z 10)) <|
    .bNU (.bO0 94 aM 48) (.bNV aN aN (aO (.bNT tI aN) 1 (.Z 4)) (.Z 11)) <|
    .bNU (.ar .add .i64) (.bNV tI tI (.p1 tI aN (.Z 4)) (.ci .i64 1)) <|
    .bNW 0 (.bNV tI aN (.Z 13) (.Z 12))) (
    .loop (.bNT tI (.bNT (.slice 38 aA) (.bNT aG aG))) (bB (.bNT tI (.bNT (.slice 38 aA) (.bNT aG aG))) [(.ci .i64 0),(.nl 38 aA),(.nl 119 aL),(.nl 119 aL)]) <|
     .bNU (.cmp .lss .i64) (.bNV tI tI (.p1 tI (.bNT (.slice 38 aA) (.bNT aG aG)) (.Z 7)) (.Z 3)) <|
     .ite (.Z 8) (
      .call 2 (bB (.bNT aK (.bNT aB tI)) [(.p1 aK (.bNT aB (.bNT tI (.bNT cQ aM))) (.p1 aQ aN (.Z 0))),(aJ aQ 1 (.p1 aQ aN (.Z 0))),(.p1 tI (.bNT (.slice 38 aA) (.bNT aG aG)) (.Z 7))]) <|
      .bNU (.ar .sub .i64) (.bNV tI tI (.Z 3) (.ci .i64 1)) <|
      .bNU (.cmp .eql .i64) (.bNV tI tI (.p1 tI (.bNT (.slice 38 aA) (.bNT aG aG)) (.Z 7)) (.Z 10)) <|
      .bNU (.bNZ 78 bG) (bB (.bNT aK aE) [(.p1 aK (.bNT aB (.bNT tI (.bNT cQ aM))) (.p1 aQ aN (.Z 0))),(.p1 tI tI (.Z 9)),(aO aE 1 (.Z 9))]) <|
      .bNU (.bNX 94 aM) (aO (.bNT aQ aN) 1 (.Z 0)) <|
      .bNU (.bNY 4 .bool) (.bNV cQ tI (aJ aQ 3 (.p1 aQ aN (.Z 0))) (.p1 tI (.bNT (.slice 38 aA) (.bNT aG aG)) (.Z 7))) <|
      .bNU (.bNY 4 .bool) (.bNV cQ tI (aJ aQ 3 (.p1 aQ aN (.Z 0))) (.p1 tI (.bNT (.slice 38 aA) (.bNT aG aG)) (.Z 7))) <|
      .call 3 (bB (.bNT tI (.bNT tI (.bNT tI (.bNT tI .bool)))) [(aJ aQ 2 (.p1 aQ aN (.Z 0))),(.Z 3),(.p1 tI (.bNT (.slice 38 aA) (.bNT aG aG)) (.Z 7)),(.Z 13),(.Z 14)]) <|
      .call 4 (bB (.bNT aK (.bNT bC (.bNT .bool .bool))) [(.Z 12),(.Z 16),(.Z 11),(.Z 15)]) <|
      .bNU (.lit 38 aA 1) (.Z 17) <|
      .bNU (.bO0 38 aA 248) (.bNV (.slice 38 aA) (.slice 38 aA) (aJ (.bNT tI (.bNT (.slice 38 aA) (.bNT aG aG))) 1 (.Z 7)) (.Z 18)) <|
      .bNU (.cmp .gtr .i64) (.bNV tI tI (.p1 tI (.bNT (.slice 38 aA) (.bNT aG aG)) (.Z 7)) (.ci .i64 0)) <|
      .ite (.Z 20) (
       .bNU (.ar .sub .i64) (.bNV tI tI (.p1 tI (.bNT (.slice 38 aA) (.bNT aG aG)) (.Z 7)) (.ci .i64 1)) <|
       .bNU (.bNY 3 tI) (.bNV aB tI (aJ aQ 4 (.p1 aQ aN (.Z 0))) (.Z 21)) <|
       .bNU (.lit 119 aL 1) (.bNV tI (.slice 125 aF) (.Z 22) (.nl 125 aF)) <|
       .bNU (.bO0 119 aL 32) (.bNV aG aG (aJ (.bNT tI (.bNT (.slice 38 aA) (.bNT aG aG))) 2 (.Z 7)) (.Z 23)) <|
       .bNU (.ar .sub .i64) (.bNV tI tI (.p1 tI (.bNT (.slice 38 aA) (.bNT aG aG)) (.Z 7)) (.ci .i64 1)) <|
       .bNU (.bNY 3 tI) (.bNV aB tI (aJ aQ 4 (.p1 aQ aN (.Z 0))) (.Z 25)) <|
       .bNU (.lit 119 aL 1) (.bNV tI (.slice 125 aF) (.Z 26) (.nl 125 aF)) <|
       .bNU (.bO0 119 aL 32) (.bNV aG aG (aO (.bNT tI (.bNT (.slice 38 aA) (.bNT aG aG))) 3 (.Z 7)) (.Z 27)) <|
       .bNU (.ar .add .i64) (.bNV tI tI (.p1 tI (.bNT (.slice 38 aA) (.bNT aG aG)) (.Z 7)) (.ci .i64 1)) <|
       .bNW 0 (bB (.bNT tI (.bNT (.slice 38 aA) (.bNT aG aG))) [(.Z 29),(.Z 19),(.Z 24),(.Z 28)])) (
       .bNU (.ar .add .i64) (.bNV tI tI (.p1 tI (.bNT (.slice 38 aA) (.bNT aG aG)) (.Z 7)) (.ci .i64 1)) <|
       .bNW 0 (bB (.bNT tI (.bNT (.slice 38 aA) (.bNT aG aG))) [(.Z 21),(.Z 19),(aO (.bNT tI (.bNT (.slice 38 aA) (.bNT aG aG))) 2 (.Z 7))]))) (
      .ret (.bNV aN (.bNT (.slice 38 aA) (.bNT aG aG)) (aO (.bNT tI aN) 1 (.Z 4)) (aO (.bNT tI (.bNT (.slice 38 aA) (.bNT aG aG))) 1 (.Z 7))))))
theorem aVL:bM Tryz.prog [vT,nG,cS,aAW,mY] pE false 3000 ⟨[(2984,2004,[.dr 18,.dr 17]++iT 15 11++[.dr 0,.tm 7 0,.sl 12]),(2974,4007,iT 22 19++[.dr 7,.tm 8 0,.sl 13,.sl 14,.sl 15])],[(2976,6007,[40,33],[]),(2963,12010,[88],[])]⟩ = .ok aA2:=by kernel_rfl
theorem aU1 (x:bZ × dL) (hx:okD (.bNT aQ aN) x) (hp:(fun x=>bQ aQ x.1≤100000000∧bQ aN x.2≤100000000) x):aA2.wp [vT,nG,cS,aAW,mY] [⟨(.bNT aQ aN),x⟩] [] (fun v=>v.as aC=(fun x=>aCF x.1 x.2) x):=by
 obtain ⟨c,b⟩:=x
 obtain ⟨hp1,hp2⟩:bQ aQ c≤100000000∧bQ aN b≤100000000:=hp
 have hcp:tY c:=bGA (by omega)
 have hb1:List.length b≤bQ aN b:=nP (e:=94) (t:=aM) b
 have hbm:∀ x∈b,List.length x.1≤1000000000∧List.length x.2≤1000000000:=fun x hx=>⟨((kA (t:=aN) (show bQ aN b≤1000000000 by omega)).2 x hx).1.1,((kA (t:=aN) (show bQ aN b≤1000000000 by omega)).2 x hx).2.1⟩
 have hmm:bQ aK c.1≤bQ aQ c:=Nat.le_add_right _ _
 delta aA2 vT nG cS aAW mY;refine dB ?_
 refine dT ?_
 refine ⟨hcp,fun _=>⟨fun h=>bMZ h,fun h=>?_⟩⟩
 obtain ⟨a1,a2,a3,a4,a5,a6,a7,a8⟩:=aQ7 h
 have hcl:=aW6 a7
 refine ⟨⟨hcp.1,hcp.2.1⟩,fun _=>?_⟩
 refine cZ (fun k=>((k:Int),List.take k b)) (List.length b) rfl fun I μ k hk _ go=>?_
 dsimp only
 refine dT ?_
 intro _
 constructor
 ·intro hlt
  have hk':k<List.length b:=by omega
  have hm:=hbm _ (List.getElem_mem hk')
  simp only[aZ hk']
  (repeat' first|intro _|(refine go _ ?_ ?_ ?_)|(refine go _ ?_ ?_)|(with_reducible apply And.intro))
  all_goals first|omega|(with_reducible exact hm.1)|(with_reducible exact hm.2)|(unfold maxLen;omega)|(simp only[List.length_take];unfold maxLen;omega)|(simp only[List.length_take];omega)|(rw[iI hk'];rfl)
 intro hge
 rw[show List.take k b=b from List.take_of_length_le (by omega)]
 clear go
 refine cZ (fun k=>((k:Int),mp k (fun s=>aHS c b.length (s:Int)),mp (k - 1) (aC8 c),mp (k - 1) (aC8 c))) (bV c.1 c.2.1).toNat rfl fun I μ k hk _ go=>?_
 dsimp only
 refine dT ?_
 have hr:=aFD c.1 c.2.1 (k:Int)
 have hpl:=aO1 c.2.2.1 (bV c.1 c.2.1) (k:Int) (b.length:Int) (List.getD c.2.2.2.1 k (aV .bool))
 have hml:=fR k (fun s=>aHS c b.length ((s:Nat):Int))
 have hml2:=fR (k - 1) (aC8 c)
 have hmd:bQ aK (List.drop (bE c.1 c.2.1 (k:Int)).1.toNat (List.take (bE c.1 c.2.1 (k:Int)).2.toNat c.1))≤1000000000:=Nat.le_trans (bGM _ _) (by omega)
 have e2:0<k→mp k (aC8 c)=mp (k - 1) (aC8 c)++[aC8 c (k - 1)]:=fun h0=>by rw[← gH,Nat.sub_add_cancel h0]
 have e3:¬ 0<k→mp k (aC8 c)=mp (k - 1) (aC8 c):=fun h0=>by rw[show k - 1=k by omega]
 constructor
 ·intro hlt
  (repeat' first|intro _|(refine go _ ?_ ?_ ?_)|(refine go _ ?_ ?_)|(with_reducible apply And.intro))
  all_goals first|omega|(unfold maxLen;omega)|exact hcp.1|exact hcp.2.1|exact hmd|skip
  all_goals show _=((((k+1:Nat):Int)),mp (k+1) (fun s=>aHS c b.length ((s:Nat):Int)),mp k (aC8 c),mp k (aC8 c))
  all_goals rw[gH]
  all_goals first|(rw[e2 (by omega)];rfl)|(rw[e3 (by omega)];rfl)|skip
 ·intro hge
  have ek:k=(bV c.1 c.2.1).toNat:=by omega
  have ec:k - 1=List.length c.2.2.2.2.1:=by omega
  rw[ec,ek]
  exact aYH h
theorem aT1:Con.Holds Tryz.prog pE:=aS aW (aH bD8 (aH aRF (aH nA (aH bF6 (aH aR1 aR))))) aVL aU1
def pG:Con:=⟨17,aC,(.bNT aC aB),[.val ⟨true,aC,[]⟩],[⟨true,aC,[0,0,0,0]⟩,⟨false,aB,[0]⟩],false,none,
 ((fun x=>bQ aC x≤100000000):(aY)→Prop),
 ((fun x=>(wM x (aA0 x),aA0 x)):(aY)→(aY × bK))⟩
def zU:T:=.call 0 (.Z 0) <|.call 1 (.Z 0) <|
 .bNU (.bNX 3 tI) (.Z 1) <|
 .loop (.bNT tI aC) (.bNV tI aC (.ci .i64 0) (.Z 2)) <|
  .bNU (.cmp .lss .i64) (.bNV tI tI (.p1 tI aC (.Z 4)) (.Z 3)) <|
  .ite (.Z 5) (
   .bNU (.bNY 3 tI) (.bNV aB tI (.Z 1) (.p1 tI aC (.Z 4))) <|
   .bNU (.bNY 3 tI) (.bNV aB tI (.Z 1) (.p1 tI aC (.Z 4))) <|
   .call 2 (.bNV aC tI (aO (.bNT tI aC) 1 (.Z 4)) (.Z 7)) <|
   .bNU (.ar .add .i64) (.bNV tI tI (.p1 tI aC (.Z 4)) (.ci .i64 1)) <|
   .bNW 0 (.bNV tI aC (.Z 9) (.Z 8))) (
   .ret (.bNV aC aB (aO (.bNT tI aC) 1 (.Z 4)) (.Z 1)))
theorem aU5:bM Tryz.prog [kK,eW,pR] pG false 3000 ⟨[(2989,1004,iT 10 7++[.dr 0,.tm 13 0,.fz 8,.fz 9,.fz 10,.fz 11,.bx 1 0,.dk 8,.bx 1 1,.dk 9,.bx 1 2,.dk 10,.bx 1 3,.dk 11])],[]⟩ = .ok zU:=by kernel_rfl
theorem aVE (x:aY) (hx:okD aC x) (hp:(fun x=>bQ aC x≤100000000) x):zU.wp [kK,eW,pR] [⟨aC,x⟩] [] (fun v=>v.as (.bNT aC aB)=(fun x=>(wM x (aA0 x),aA0 x)) x):=by
 have hp:bQ aC x≤100000000:=hp
 have hw:=bB8 x
 delta zU kK eW pR;refine dB ?_
 (refine dT ?_;try with_reducible exact True.intro)
 (repeat' first|intro _|(with_reducible apply And.intro))
 all_goals first|omega|skip
 refine cZ (fun k=>((k:Int),wM x (List.take k (aA0 x)))) (List.length (aA0 x)) rfl fun I μ k hk _ go=>?_
 dsimp only
 refine dT ?_
 have hz:=bL1 (p:=x) (aA0 x) k (by omega) hp
 by_cases hk':k<List.length (aA0 x)
 ·simp only[aZ hk']
  (repeat' first|intro _|(refine go _ ?_ ?_ ?_)|(refine go _ ?_ ?_)|(with_reducible apply And.intro))
  all_goals first|omega|exact hz|(rw[bD9 hk'];rfl)|skip
 ·(repeat' first|intro _|(refine go _ ?_ ?_ ?_)|(refine go _ ?_ ?_)|(with_reducible apply And.intro))
  all_goals first|omega|(rw[List.take_of_length_le (by omega)])|skip
theorem aVV:Con.Holds Tryz.prog pG:=aS aW (aH aL2 (aH xI (aH aT7 aR))) aU5 aVE
end
end Go.Proofs.YtdeobhdbmehpgaaGreat
