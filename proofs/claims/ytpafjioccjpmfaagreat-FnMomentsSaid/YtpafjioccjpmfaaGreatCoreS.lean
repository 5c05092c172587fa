/- CoreS: lemmas. No conditions. -/
import Derived.Test.YtpafjioccjpmfaaGreatCoreA
import Derived.Test.YtpafjioccjpmfaaGreatCoreP
namespace Go.Proofs.YtpafjioccjpmfaaGreat
noncomputable section
set_option maxRecDepth 100000
open Go.ChangeShapes Go.WideShapes Go.ChangeAt Go.RowKit Go.Deep
set_option linter.unusedVariables false
set_option linter.unusedSimpArgs false
def bNK:bG:=aP aA
def aBH (ops:List cZ) (plan:List cP) (last redo:Bool):bG:=if bO ops=true then (0,plan,ops,last,redo,[],[],[],[],[],[],zD ops) else bNK
def aB9 (c:bB) (n:Nat) (s:Int):bG :=
 aBH (List.drop (aY c.1 c.2.1 s).1.toNat (List.take (aY c.1 c.2.1 s).2.toNat c.1)) (fU c.2.2.1 (bC c.1 c.2.1) s (n:Int) (c.2.2.2.1.getD s.toNat false)) (s==bC c.1 c.2.1 - 1) (c.2.2.2.1.getD s.toNat false)
def aFR (c:bB) (i:Nat):cY:=(c.2.2.2.2.1.getD i 0,[])
def bA (c:bB) (b:List cB):bF :=
 if cE c b=0 then (b,mp (bC c.1 c.2.1).toNat (fun s=>aB9 c b.length (s:Int)),mp c.2.2.2.2.1.length (aFR c),mp c.2.2.2.2.1.length (aFR c)) else ([],[],[],[])
theorem bIJ {c:bB} {b:List cB} (h:¬ cE c b=0):([],[],[],[])=bA c b:=(if_neg h).symm
theorem qW {c:bB} {b:List cB} (h:cE c b=0):(b,mp (bC c.1 c.2.1).toNat (fun s=>aB9 c b.length (s:Int)),mp c.2.2.2.2.1.length (aFR c),mp c.2.2.2.2.1.length (aFR c))=bA c b:=(if_pos h).symm
theorem bL5 {ops:List cZ} {plan:List cP} {last redo:Bool} (h:bO ops=false):(0,[],[],false,false,[],[],[],[],[],[],[],0,false)=aBH ops plan last redo:=(if_neg (by rw[h];simp)).symm
theorem bKH {ops:List cZ} {plan:List cP} {last redo:Bool} (h:bO ops=true):(0,plan,ops,last,redo,[],[],[],[],[],[],zD ops)=aBH ops plan last redo:=(if_pos h).symm
theorem iZ {c:bB} {b:List cB} (h:cE c b=0):bO c.1=true∧eK c.1 b=true∧iL c.1 c.2.1=true∧bC c.1 c.2.1=(c.2.1.length:Int)+1∧bC c.1 c.2.1≤4∧(c.2.2.2.1.length:Int)=bC c.1 c.2.1∧oM c=true∧jF c (b.length:Int)=true:=by
 cases h1:bO c.1
 ·rw[← bOJ h1] at h;omega
 cases h2:eK c.1 b
 ·rw[← bNU h1 h2] at h;omega
 by_cases h3:bC c.1 c.2.1=0∨4<bC c.1 c.2.1
 ·rw[← bME h1 h2 h3] at h;omega
 by_cases h4:c.2.2.1=1∨c.2.2.1=2
 rotate_left
 ·rw[← bKP h1 h2 h3 h4] at h;omega
 by_cases h5:(c.2.2.2.1.length:Int)=bC c.1 c.2.1
 rotate_left
 ·rw[← bN3 h1 h2 h3 h4 h5] at h;omega
 cases h6:oM c
 ·rw[← bKX h1 h2 h3 h4 h5 h6] at h;omega
 cases h7:jF c (b.length:Int)
 ·rw[← bKY h1 h2 h3 h4 h5 h6 h7] at h;omega
 cases hc:iL c.1 c.2.1
 ·rw[aJQ hc] at h3;omega
 ·exact ⟨rfl,rfl,rfl,xE hc,by omega,h5,rfl,rfl⟩
theorem aF5 {c:bB} (h:oM c=true):c.2.2.2.2.1.length=c.2.1.length:=by
 unfold oM at h;rw[Bool.and_eq_true,decide_eq_true_eq] at h;exact h.1
theorem aAV {c:bB} (h:bS aC c≤1000000000):dO c:=by
 have hB:=rC (t:=aC) h
 exact ⟨⟨hB.1.1,fun o ho=>(hB.1.2 o ho).2.2.2.1⟩,hB.2.1.1,hB.2.2.2.1.1,hB.2.2.2.2.1.1,hB.2.2.2.2.2.1⟩
theorem bFZ {m:List cZ} (a b:Nat):bS aE (List.drop a (List.take b m))≤bS aE m:=uQ ((List.drop_sublist _ _).trans (List.take_sublist _ _))
theorem aIX (p:bF):(iY p).length≤4:=by
 cases h:mF p
 ·have e:∀ k,jU p k=[]:=fun k=>by
   induction k with
   | zero=>rfl
   | succ k ih=>rw[jU,ih,if_neg (by rw[← aVV (p:=p) (s:=(k:Int)) (.inl h)];simp)];rfl
  unfold iY;rw[e];exact Nat.zero_le _
 ·have h1:=(mJ.1 h).1
  have h2:=aJU p p.2.1.length
  unfold iY;omega
theorem aXS {l:List Int} {k:Nat} (h:k<l.length):l.take (k+1)=l.take k++[l[k]]:=List.take_succ_eq_append_getElem h
theorem bDM {p:bF} {l:List Int} {k:Nat} (h:k<l.length):hK p (l.take (k+1))=bR (hK p (l.take k)) l[k]:=by rw[aXS h,aMR]
theorem bLE {p:bF} (l:List Int) (k:Nat) (hk:k≤2000) (hp:bS aK p≤100000000):bS aK (hK p (l.take k))≤1000000000:=by
 have h:=aIW p (l.take k)
 have h2:(l.take k).length≤k:=by rw[List.length_take];omega
 omega
def nX:Con:=⟨56,(.bPW aE (.bPW aR (.bPW .bool .bool))),aA,[.val ⟨false,aE,[]⟩,.val ⟨false,aR,[]⟩,.val ⟨false,.bool,[]⟩,.val ⟨false,.bool,[]⟩],[⟨true,aA,[0,2,2,0,0,2,2,2,2,2,2,2,0,0]⟩],false,none,
 ((fun x=>bS aE x.1≤1000000000∧List.length x.2.1≤1000000000):(bE × ((List cP) × (Bool × Bool)))→Prop),
 ((fun x=>aBH x.1 x.2.1 x.2.2.1 x.2.2.2):(bE × ((List cP) × (Bool × Bool)))→(bG))⟩
def yB:T:=.call 0 (.p1 aE (.bPW aR (.bPW .bool .bool)) (.Z 0)) <|.call 1 (.Z 1) <|
 .bPX .not (.Z 2) <|
 .ite (.Z 3) (
  .ret (bP aA [(.ci .i64 0),(.nl 76 aD),(.nl 80 bU),(.cb false),(.cb false),(.nl 104 aL),(.nl 134 aB),(.nl 3 tI),(.nl 3 tI),(.nl 3 tI),(.nl 3 tI),(.nl 134 aB),(.ci .i64 0),(.cb false)])) (
  .bPX (.bQ3 76 aD 16) (.bPY aR aR (.nl 76 aD) (aH (.bPW aE (.bPW aR (.bPW .bool .bool))) 1 (.Z 0))) <|
  .call 2 (.Z 1) <|
  .ret (bP aA [(.ci .i64 0),(.Z 4),(.Z 1),(aH (.bPW aE (.bPW aR (.bPW .bool .bool))) 2 (.Z 0)),(aS (.bPW aE (.bPW aR (.bPW .bool .bool))) 3 (.Z 0)),(.nl 104 aL),(.nl 134 aB),(.nl 3 tI),(.nl 3 tI),(.nl 3 tI),(.nl 3 tI),(.Z 5)]))
theorem aSI:bW Tryz.prog [kA,bV,mR] nX false 3000 ⟨[],[]⟩ = .ok yB:=by kernel_rfl
theorem aRW (x:bE × ((List cP) × (Bool × Bool))) (hx:okD (.bPW aE (.bPW aR (.bPW .bool .bool))) x) (hp:(fun x=>bS aE x.1≤1000000000∧List.length x.2.1≤1000000000) x):yB.wp [kA,bV,mR] [⟨(.bPW aE (.bPW aR (.bPW .bool .bool))),x⟩] [] (fun v=>v.as aA=(fun x=>aBH x.1 x.2.1 x.2.2.1 x.2.2.2) x):=by
 have hm:=(rC (t:=aE) hp.1)
 delta yB kA bV mR;refine dY ?_
 refine eD ?_
 refine ⟨hp.1,fun _=>⟨fun h=>bL5 h,fun h=>⟨⟨by have:=hp.2;omega,by have:=hp.2;unfold maxLen;omega⟩,fun _=>⟨⟨hm.1,fun o ho=>(hm.2 o ho).2.2.2.1⟩,fun _=>bKH h⟩⟩⟩⟩
theorem aSE:Con.Holds Tryz.prog nX:=aX aZ (aG aIJ (aG gZ (aG aNT aT))) aSI aRW
def jZ:Con:=⟨25,(.bPW aC aF),aK,[.val ⟨true,aC,[]⟩,.val ⟨false,aF,[]⟩],[⟨true,aK,[2,2,2,2]⟩],false,none,
 ((fun x=>bS aC x.1≤100000000∧bS aF x.2≤100000000):(bB × bL)→Prop),
 ((fun x=>bA x.1 x.2):(bB × bL)→(bF))⟩
def aAY:T:=.call 0 (.Z 0) <|
 .bPX (.cmp .neq .i64) (.bPY tI tI (.Z 1) (.ci .i64 0)) <|
 .ite (.Z 2) (
  .ret (bP aK [(.nl 108 aQ),(.nl 66 aA),(.nl 98 aM),(.nl 98 aM)])) (
  .call 1 (aS (.bPW aC aF) 1 (.Z 0)) <|
  .call 2 (.p1 aC aF (.Z 0)) <|
  .loop (.bPW tI (.slice 66 aA)) (.bPY tI (.slice 66 aA) (.ci .i64 0) (.nl 66 aA)) <|
   .bPX (.cmp .lss .i64) (.bPY tI tI (.p1 tI (.slice 66 aA) (.Z 5)) (.Z 4)) <|
   .ite (.Z 6) (
    .call 3 (bP (.bPW aE (.bPW aB tI)) [(.p1 aE (.bPW aB (.bPW tI (.bPW cA aQ))) (.p1 aC aF (.Z 0))),(aH aC 1 (.p1 aC aF (.Z 0))),(.p1 tI (.slice 66 aA) (.Z 5))]) <|
    .bPX (.bQ0 108 aQ) (aS (.bPW aC aF) 1 (.Z 0)) <|
    .bPX (.bQ1 4 .bool) (.bPY cA tI (aH aC 3 (.p1 aC aF (.Z 0))) (.p1 tI (.slice 66 aA) (.Z 5))) <|
    .call 4 (bP (.bPW tI (.bPW tI (.bPW tI (.bPW tI .bool)))) [(aH aC 2 (.p1 aC aF (.Z 0))),(.Z 4),(.p1 tI (.slice 66 aA) (.Z 5)),(.Z 8),(.Z 9)]) <|
    .bPX (.ar .sub .i64) (.bPY tI tI (.Z 4) (.ci .i64 1)) <|
    .bPX (.cmp .eql .i64) (.bPY tI tI (.p1 tI (.slice 66 aA) (.Z 5)) (.Z 11)) <|
    .bPX (.bQ2 80 bU) (bP (.bPW aE aD) [(.p1 aE (.bPW aB (.bPW tI (.bPW cA aQ))) (.p1 aC aF (.Z 0))),(.p1 tI tI (.Z 7)),(aS aD 1 (.Z 7))]) <|
    .bPX (.bQ1 4 .bool) (.bPY cA tI (aH aC 3 (.p1 aC aF (.Z 0))) (.p1 tI (.slice 66 aA) (.Z 5))) <|
    .call 5 (bP (.bPW aE (.bPW aR (.bPW .bool .bool))) [(.Z 13),(.Z 10),(.Z 12),(.Z 14)]) <|
    .bPX (.lit 66 aA 1) (.Z 15) <|
    .bPX (.bQ3 66 aA 248) (.bPY (.slice 66 aA) (.slice 66 aA) (aS (.bPW tI (.slice 66 aA)) 1 (.Z 5)) (.Z 16)) <|
    .bPX (.ar .add .i64) (.bPY tI tI (.p1 tI (.slice 66 aA) (.Z 5)) (.ci .i64 1)) <|
    .bPZ 0 (.bPY tI (.slice 66 aA) (.Z 18) (.Z 17))) (
    .bPX (.bQ0 3 tI) (aH aC 4 (.p1 aC aF (.Z 0))) <|
    .loop (.bPW tI (.bPW aU aU)) (bP (.bPW tI (.bPW aU aU)) [(.ci .i64 0),(.nl 98 aM),(.nl 98 aM)]) <|
     .bPX (.cmp .lss .i64) (.bPY tI tI (.p1 tI (.bPW aU aU) (.Z 8)) (.Z 7)) <|
     .ite (.Z 9) (
      .bPX (.bQ1 3 tI) (.bPY aB tI (aH aC 4 (.p1 aC aF (.Z 0))) (.p1 tI (.bPW aU aU) (.Z 8))) <|
      .bPX (.lit 98 aM 1) (.bPY tI (.slice 115 aI) (.Z 10) (.nl 115 aI)) <|
      .bPX (.bQ3 98 aM 32) (.bPY aU aU (aH (.bPW tI (.bPW aU aU)) 1 (.Z 8)) (.Z 11)) <|
      .bPX (.lit 98 aM 1) (.bPY tI (.slice 115 aI) (.Z 10) (.nl 115 aI)) <|
      .bPX (.bQ3 98 aM 32) (.bPY aU aU (aS (.bPW tI (.bPW aU aU)) 2 (.Z 8)) (.Z 13)) <|
      .bPX (.ar .add .i64) (.bPY tI tI (.p1 tI (.bPW aU aU) (.Z 8)) (.ci .i64 1)) <|
      .bPZ 0 (bP (.bPW tI (.bPW aU aU)) [(.Z 15),(.Z 12),(.Z 14)])) (
      .ret (bP aK [(.Z 3),(aS (.bPW tI (.slice 66 aA)) 1 (.Z 5)),(aS (.bPW tI (.bPW aU aU)) 1 (.Z 8))]))))
theorem aV7:bW Tryz.prog [jL,gX,cO,dW,kR,nX] jZ false 3000 ⟨[(2984,2005,jV 22 18++jV 16 13++[.dr 0,.tm 7 0,.sl 13]),(2974,4008,[.dr 71]++jV 25 23++[.dr 7,.dr 6,.dr 2,.dr 1,.tm 74 0,.sl 14,.sl 15])],[(2972,6011,[67],[])]⟩ = .ok aAY:=by kernel_rfl
theorem aUR (x:bB × bL) (hx:okD (.bPW aC aF) x) (hp:(fun x=>bS aC x.1≤100000000∧bS aF x.2≤100000000) x):aAY.wp [jL,gX,cO,dW,kR,nX] [⟨(.bPW aC aF),x⟩] [] (fun v=>v.as aK=(fun x=>bA x.1 x.2) x):=by
 obtain ⟨c,b⟩:=x
 obtain ⟨hp1,hp2⟩:bS aC c≤100000000∧bS aF b≤100000000:=hp
 have hcp:dO c:=aAV (by omega)
 have hb1:List.length b≤bS aF b:=pN (e:=108) (t:=aQ) b
 have hbm:∀ x∈b,List.length x.1≤1000000000∧List.length x.2≤1000000000:=fun x hx=>⟨((rC (t:=aF) (show bS aF b≤1000000000 by omega)).2 x hx).1.1,((rC (t:=aF) (show bS aF b≤1000000000 by omega)).2 x hx).2.1⟩
 have hmm:bS aE c.1≤bS aC c:=Nat.le_add_right _ _
 delta aAY jL gX cO dW kR nX;refine dY ?_
 refine eD ?_
 refine ⟨hcp,fun _=>⟨fun h=>bIJ h,fun h=>?_⟩⟩
 obtain ⟨a1,a2,a3,a4,a5,a6,a7,a8⟩:=iZ h
 have hcl:=aF5 a7
 refine ⟨by omega,fun _=>⟨⟨hcp.1,hcp.2.1⟩,fun _=>?_⟩⟩
 refine eW (fun k=>((k:Int),mp k (fun s=>aB9 c b.length (s:Int)))) (bC c.1 c.2.1).toNat rfl fun I μ k hk _ go=>?_
 dsimp only
 refine eD ?_
 have hr:=uM c.1 c.2.1 (k:Int)
 have hpl:=lY c.2.2.1 (bC c.1 c.2.1) (k:Int) (b.length:Int) (List.getD c.2.2.2.1 k (aP .bool))
 have hml:=fL k (fun s=>aB9 c b.length ((s:Nat):Int))
 have hmd:bS aE (List.drop (aY c.1 c.2.1 (k:Int)).1.toNat (List.take (aY c.1 c.2.1 (k:Int)).2.toNat c.1))≤1000000000:=Nat.le_trans (bFZ _ _) (by omega)
 constructor
 ·intro hlt
  (repeat' first|intro _|(refine go _ ?_ ?_ ?_)|(refine go _ ?_ ?_)|(with_reducible apply And.intro))
  all_goals first|omega|(unfold maxLen;omega)|exact hcp.1|exact hcp.2.1|exact hmd|(rw[oE];rfl)|skip
 intro hge _
 rw[show k=(bC c.1 c.2.1).toNat by omega]
 clear go
 refine eW (fun k=>((k:Int),mp k (aFR c),mp k (aFR c))) (List.length c.2.2.2.2.1) rfl fun I μ k hk _ go=>?_
 dsimp only
 refine eD ?_
 have hml:=fL k (aFR c)
 constructor
 ·intro hlt
  (repeat' first|intro _|(refine go _ ?_ ?_ ?_)|(refine go _ ?_ ?_)|(with_reducible apply And.intro))
  all_goals first|omega|(unfold maxLen;omega)|(rw[oE];rfl)|skip
 ·intro hge
  rw[show k=List.length c.2.2.2.2.1 by omega]
  exact qW h
theorem aIG:Con.Holds Tryz.prog jZ:=aX aZ (aG aHW (aG aCW (aG lZ (aG tJ (aG aL1 (aG aSE aT)))))) aV7 aUR
def qC:Con:=⟨27,aK,(.bPW aK aB),[.val ⟨true,aK,[]⟩],[⟨true,aK,[0,0,0,0]⟩,⟨false,aB,[0]⟩],false,none,
 ((fun x=>bS aK x≤100000000):(bF)→Prop),
 ((fun x=>(hK x (iY x),iY x)):(bF)→(bF × bK))⟩
def aAZ:T:=.call 0 (.Z 0) <|.call 1 (.Z 0) <|
 .bPX (.bQ0 3 tI) (.Z 1) <|
 .loop (.bPW tI aK) (.bPY tI aK (.ci .i64 0) (.Z 2)) <|
  .bPX (.cmp .lss .i64) (.bPY tI tI (.p1 tI aK (.Z 4)) (.Z 3)) <|
  .ite (.Z 5) (
   .bPX (.bQ1 3 tI) (.bPY aB tI (.Z 1) (.p1 tI aK (.Z 4))) <|
   .bPX (.bQ1 3 tI) (.bPY aB tI (.Z 1) (.p1 tI aK (.Z 4))) <|
   .call 2 (.bPY aK tI (aS (.bPW tI aK) 1 (.Z 4)) (.Z 7)) <|
   .bPX (.ar .add .i64) (.bPY tI tI (.p1 tI aK (.Z 4)) (.ci .i64 1)) <|
   .bPZ 0 (.bPY tI aK (.Z 9) (.Z 8))) (
   .ret (.bPY aK aB (aS (.bPW tI aK) 1 (.Z 4)) (.Z 1)))
theorem aTC:bW Tryz.prog [kT,iM,qR] qC false 3000 ⟨[(2989,1004,jV 10 7++[.dr 0,.tm 13 0,.fz 8,.fz 9,.fz 10,.fz 11,.bx 1 0,.dk 8,.bx 1 1,.dk 9,.bx 1 2,.dk 10,.bx 1 3,.dk 11])],[]⟩ = .ok aAZ:=by kernel_rfl
theorem aUN (x:bF) (hx:okD aK x) (hp:(fun x=>bS aK x≤100000000) x):aAZ.wp [kT,iM,qR] [⟨aK,x⟩] [] (fun v=>v.as (.bPW aK aB)=(fun x=>(hK x (iY x),iY x)) x):=by
 have hp:bS aK x≤100000000:=hp
 have hw:=aIX x
 delta aAZ kT iM qR;refine dY ?_
 (refine eD ?_;try with_reducible exact True.intro)
 (repeat' first|intro _|(with_reducible apply And.intro))
 all_goals first|omega|skip
 refine eW (fun k=>((k:Int),hK x (List.take k (iY x)))) (List.length (iY x)) rfl fun I μ k hk _ go=>?_
 dsimp only
 refine eD ?_
 have hz:=bLE (p:=x) (iY x) k (by omega) hp
 by_cases hk':k<List.length (iY x)
 ·simp only[aW hk']
  (repeat' first|intro _|(refine go _ ?_ ?_ ?_)|(refine go _ ?_ ?_)|(with_reducible apply And.intro))
  all_goals first|omega|exact hz|(rw[bDM hk'];rfl)|skip
 ·(repeat' first|intro _|(refine go _ ?_ ?_ ?_)|(refine go _ ?_ ?_)|(with_reducible apply And.intro))
  all_goals first|omega|(rw[List.take_of_length_le (by omega)])|skip
theorem aWT:Con.Holds Tryz.prog qC:=aX aZ (aG aMZ (aG aFU (aG aVR aT))) aTC aUN
end
end Go.Proofs.YtpafjioccjpmfaaGreat
