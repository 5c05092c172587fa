/- CoreS: lemmas. No conditions. -/
import Derived.Test.YtabamggdmdednaaGreatCoreA
import Derived.Test.YtabamggdmdednaaGreatCoreP
namespace Go.Proofs.YtabamggdmdednaaGreat
noncomputable section
set_option maxRecDepth 100000
open Go.ChangeShapes Go.WideShapes Go.ChangeAt Go.RowKit Go.Deep
set_option linter.unusedVariables false
set_option linter.unusedSimpArgs false
def bQS:bC:=aW aA
def aBI (ops:List dI) (plan:List fX) (last redo:Bool):bC:=if cR ops=true then (0,plan,ops,last,redo,[],[],[],[],[],[],yD ops) else bQS
def aE5 (c:bG) (n:Nat) (s:Int):bC :=
 aBI (List.drop (bD c.1 c.2.1 s).1.toNat (List.take (bD c.1 c.2.1 s).2.toNat c.1)) (aAG c.2.2.1 (bW c.1 c.2.1) s (n:Int) (c.2.2.2.1.getD s.toNat false)) (s==bW c.1 c.2.1 - 1) (c.2.2.2.1.getD s.toNat false)
def zP (c:bG) (i:Nat):cG:=(c.2.2.2.2.1.getD i 0,[])
def vK (c:bG) (b:List bT):bE :=
 if fJ c b=0 then (b,mp (bW c.1 c.2.1).toNat (fun s=>aE5 c b.length (s:Int)),mp c.2.2.2.2.1.length (zP c),mp c.2.2.2.2.1.length (zP c)) else ([],[],[],[])
theorem bKF {c:bG} {b:List bT} (h:¬ fJ c b=0):([],[],[],[])=vK c b:=(if_neg h).symm
theorem bAU {c:bG} {b:List bT} (h:fJ c b=0):(b,mp (bW c.1 c.2.1).toNat (fun s=>aE5 c b.length (s:Int)),mp c.2.2.2.2.1.length (zP c),mp c.2.2.2.2.1.length (zP c))=vK c b:=(if_pos h).symm
theorem bGF {ops:List dI} {plan:List fX} {last redo:Bool} (h:cR ops=false):(0,[],[],false,false,[],[],[],[],[],[],[],0,false)=aBI ops plan last redo:=(if_neg (by rw[h];simp)).symm
theorem bF9 {ops:List dI} {plan:List fX} {last redo:Bool} (h:cR ops=true):(0,plan,ops,last,redo,[],[],[],[],[],[],yD ops)=aBI ops plan last redo:=(if_pos h).symm
theorem aT0 {c:bG} {b:List bT} (h:fJ c b=0):cR c.1=true∧iH c.1 b=true∧jY c.1 c.2.1=true∧bW c.1 c.2.1=(c.2.1.length:Int)+1∧bW c.1 c.2.1≤4∧(c.2.2.2.1.length:Int)=bW c.1 c.2.1∧qZ c=true∧mK c (b.length:Int)=true:=by
 cases h1:cR c.1
 ·rw[← bR6 h1] at h;omega
 cases h2:iH c.1 b
 ·rw[← bQF h1 h2] at h;omega
 by_cases h3:bW c.1 c.2.1=0∨4<bW c.1 c.2.1
 ·rw[← bNX h1 h2 h3] at h;omega
 by_cases h4:c.2.2.1=1∨c.2.2.1=2
 rotate_left
 ·rw[← bQC h1 h2 h3 h4] at h;omega
 by_cases h5:(c.2.2.2.1.length:Int)=bW c.1 c.2.1
 rotate_left
 ·rw[← bQP h1 h2 h3 h4 h5] at h;omega
 cases h6:qZ c
 ·rw[← bNU h1 h2 h3 h4 h5 h6] at h;omega
 cases h7:mK c (b.length:Int)
 ·rw[← bOY h1 h2 h3 h4 h5 h6 h7] at h;omega
 cases hc:jY c.1 c.2.1
 ·rw[aN2 hc] at h3;omega
 ·exact ⟨rfl,rfl,rfl,aC4 hc,by omega,h5,rfl,rfl⟩
theorem aNN {c:bG} (h:qZ c=true):c.2.2.2.2.1.length=c.2.1.length:=by
 unfold qZ at h;rw[Bool.and_eq_true,decide_eq_true_eq] at h;exact h.1
theorem aHK {c:bG} (h:bM aC c≤1000000000):fO c:=by
 have hB:=gZ (t:=aC) h
 exact ⟨⟨hB.1.1,fun o ho=>(hB.1.2 o ho).2.2.2.1⟩,hB.2.1.1,hB.2.2.2.1.1,hB.2.2.2.2.1.1,hB.2.2.2.2.2.1⟩
theorem bDR {m:List dI} (a b:Nat):bM aE (List.drop a (List.take b m))≤bM aE m:=vF ((List.drop_sublist _ _).trans (List.take_sublist _ _))
theorem aDV (p:bE):(fF p).length≤4:=by
 cases h:kM p
 ·have e:∀ k,aH2 p k=[]:=fun k=>by
   induction k with
   | zero=>rfl
   | succ k ih=>rw[aH2,ih,if_neg (by rw[← aRN (p:=p) (s:=(k:Int)) (.inl h)];simp)];rfl
  unfold fF;rw[e];exact Nat.zero_le _
 ·have h1:=(nJ.1 h).1
  have h2:=aH9 p p.2.1.length
  unfold fF;omega
theorem bCT {l:List Int} {k:Nat} (h:k<l.length):l.take (k+1)=l.take k++[l[k]]:=List.take_succ_eq_append_getElem h
theorem aS4 {p:bE} {l:List Int} {k:Nat} (h:k<l.length):uW p (l.take (k+1))=fI (uW p (l.take k)) l[k]:=by rw[bCT h,bLM]
theorem bFP {p:bE} (l:List Int) (k:Nat) (hk:k≤2000) (hp:bM aJ p≤100000000):bM aJ (uW p (l.take k))≤1000000000:=by
 have h:=aU9 p (l.take k)
 have h2:(l.take k).length≤k:=by rw[List.length_take];omega
 omega
def oY:Con:=⟨30,(.bRW aE (.bRW aU (.bRW .bool .bool))),aA,[.val ⟨false,aE,[]⟩,.val ⟨false,aU,[]⟩,.val ⟨false,.bool,[]⟩,.val ⟨false,.bool,[]⟩],[⟨true,aA,[0,2,2,0,0,2,2,2,2,2,2,2,0,0]⟩],false,none,
 ((fun x=>bM aE x.1≤1000000000∧List.length x.2.1≤1000000000):(aY × ((List fX) × (Bool × Bool)))→Prop),
 ((fun x=>aBI x.1 x.2.1 x.2.2.1 x.2.2.2):(aY × ((List fX) × (Bool × Bool)))→(bC))⟩
def zO:T:=.call 0 (.p1 aE (.bRW aU (.bRW .bool .bool)) (.Z 0)) <|.call 1 (.Z 1) <|
 .bRX .not (.Z 2) <|
 .ite (.Z 3) (
  .ret (bB aA [(.ci .i64 0),(.nl 102 aD),(.nl 88 bF),(.cb false),(.cb false),(.nl 82 aF),(.nl 119 aB),(.nl 3 tI),(.nl 3 tI),(.nl 3 tI),(.nl 3 tI),(.nl 119 aB),(.ci .i64 0),(.cb false)])) (
  .bRX (.bS3 102 aD 16) (.bRY aU aU (.nl 102 aD) (aK (.bRW aE (.bRW aU (.bRW .bool .bool))) 1 (.Z 0))) <|
  .call 2 (.Z 1) <|
  .ret (bB aA [(.ci .i64 0),(.Z 4),(.Z 1),(aK (.bRW aE (.bRW aU (.bRW .bool .bool))) 2 (.Z 0)),(aP (.bRW aE (.bRW aU (.bRW .bool .bool))) 3 (.Z 0)),(.nl 82 aF),(.nl 119 aB),(.nl 3 tI),(.nl 3 tI),(.nl 3 tI),(.nl 3 tI),(.Z 5)]))
theorem aUA:bI Tryz.prog [kC,bS,mP] oY false 3000 ⟨[],[]⟩ = .ok zO:=by kernel_rfl
theorem aTW (x:aY × ((List fX) × (Bool × Bool))) (hx:okD (.bRW aE (.bRW aU (.bRW .bool .bool))) x) (hp:(fun x=>bM aE x.1≤1000000000∧List.length x.2.1≤1000000000) x):zO.wp [kC,bS,mP] [⟨(.bRW aE (.bRW aU (.bRW .bool .bool))),x⟩] [] (fun v=>v.as aA=(fun x=>aBI x.1 x.2.1 x.2.2.1 x.2.2.2) x):=by
 have hm:=(gZ (t:=aE) hp.1)
 delta zO kC bS mP;refine cW ?_
 refine dB ?_
 refine ⟨hp.1,fun _=>⟨fun h=>bGF h,fun h=>⟨⟨by have:=hp.2;omega,by have:=hp.2;unfold maxLen;omega⟩,fun _=>⟨⟨hm.1,fun o ho=>(hm.2 o ho).2.2.2.1⟩,fun _=>bF9 h⟩⟩⟩⟩
theorem aTG:Con.Holds Tryz.prog oY:=aS aV (aI aKA (aI iB (aI aPH aQ))) aUA aTW
def oT:Con:=⟨75,(.bRW aE (.bRW aU (.bRW .bool .bool))),aA,[.val ⟨false,aE,[]⟩,.val ⟨false,aU,[]⟩,.val ⟨false,.bool,[]⟩,.val ⟨false,.bool,[]⟩],[⟨true,aA,[0,2,2,0,0,2,2,2,2,2,2,2,0,0]⟩],false,none,
 ((fun x=>bM aE x.1≤1000000000∧List.length x.2.1≤1000000000):(aY × ((List fX) × (Bool × Bool)))→Prop),
 ((fun x=>aBI x.1 x.2.1 x.2.2.1 x.2.2.2):(aY × ((List fX) × (Bool × Bool)))→(bC))⟩
def yZ:T:=.call 0 (.p1 aE (.bRW aU (.bRW .bool .bool)) (.Z 0)) <|
 .bRX .not (.Z 1) <|
 .ite (.Z 2) (
  .ret (bB aA [(.ci .i64 0),(.nl 102 aD),(.nl 88 bF),(.cb false),(.cb false),(.nl 82 aF),(.nl 119 aB),(.nl 3 tI),(.nl 3 tI),(.nl 3 tI),(.nl 3 tI),(.nl 119 aB),(.ci .i64 0),(.cb false)])) (
  .bRX (.bS3 102 aD 16) (.bRY aU aU (.nl 102 aD) (aK (.bRW aE (.bRW aU (.bRW .bool .bool))) 1 (.Z 0))) <|
  .call 1 (.p1 aE (.bRW aU (.bRW .bool .bool)) (.Z 0)) <|
  .call 2 (.p1 aE (.bRW aU (.bRW .bool .bool)) (.Z 0)) <|
  .ret (bB aA [(.ci .i64 0),(.Z 3),(.Z 4),(aK (.bRW aE (.bRW aU (.bRW .bool .bool))) 2 (.Z 0)),(aP (.bRW aE (.bRW aU (.bRW .bool .bool))) 3 (.Z 0)),(.nl 82 aF),(.nl 119 aB),(.nl 3 tI),(.nl 3 tI),(.nl 3 tI),(.nl 3 tI),(.Z 5)]))
theorem aUN:bI Tryz.prog [cD,mC,mZ] oT false 3000 ⟨[],[]⟩ = .ok yZ:=by kernel_rfl
theorem aT7 (x:aY × ((List fX) × (Bool × Bool))) (hx:okD (.bRW aE (.bRW aU (.bRW .bool .bool))) x) (hp:(fun x=>bM aE x.1≤1000000000∧List.length x.2.1≤1000000000) x):yZ.wp [cD,mC,mZ] [⟨(.bRW aE (.bRW aU (.bRW .bool .bool))),x⟩] [] (fun v=>v.as aA=(fun x=>aBI x.1 x.2.1 x.2.2.1 x.2.2.2) x):=by
 have hm:=(gZ (t:=aE) hp.1)
 delta yZ cD mC mZ;refine cW ?_
 refine dB ?_
 refine ⟨fun h=>bGF h,fun h=>⟨⟨by have:=hp.2;omega,by have:=hp.2;unfold maxLen;omega⟩,fun _=>⟨hp.1,fun _=>⟨⟨hm.1,fun o ho=>(hm.2 o ho).2.2.2.1⟩,fun _=>bF9 h⟩⟩⟩⟩
theorem aUJ:Con.Holds Tryz.prog oT:=aS aV (aI kF (aI aP0 (aI aQH aQ))) aUN aT7
def rA:Con:=⟨12,(.bRW aC aG),aJ,[.val ⟨true,aC,[]⟩,.val ⟨false,aG,[]⟩],[⟨true,aJ,[2,2,2,2]⟩],false,none,
 ((fun x=>bM aC x.1≤100000000∧bM aG x.2≤100000000):(bG × bO)→Prop),
 ((fun x=>vK x.1 x.2):(bG × bO)→(bE))⟩
def aCV:T:=.call 0 (.Z 0) <|
 .bRX (.cmp .neq .i64) (.bRY tI tI (.Z 1) (.ci .i64 0)) <|
 .ite (.Z 2) (
  .ret (bB aJ [(.nl 92 aO),(.nl 55 aA),(.nl 75 aN),(.nl 75 aN)])) (
  .call 1 (aP (.bRW aC aG) 1 (.Z 0)) <|
  .call 2 (.p1 aC aG (.Z 0)) <|
  .loop (.bRW tI (.slice 55 aA)) (.bRY tI (.slice 55 aA) (.ci .i64 0) (.nl 55 aA)) <|
   .bRX (.cmp .lss .i64) (.bRY tI tI (.p1 tI (.slice 55 aA) (.Z 5)) (.Z 4)) <|
   .ite (.Z 6) (
    .call 3 (bB (.bRW aE (.bRW aB tI)) [(.p1 aE (.bRW aB (.bRW tI (.bRW bV aO))) (.p1 aC aG (.Z 0))),(aK aC 1 (.p1 aC aG (.Z 0))),(.p1 tI (.slice 55 aA) (.Z 5))]) <|
    .bRX (.bS0 92 aO) (aP (.bRW aC aG) 1 (.Z 0)) <|
    .bRX (.bS1 4 .bool) (.bRY bV tI (aK aC 3 (.p1 aC aG (.Z 0))) (.p1 tI (.slice 55 aA) (.Z 5))) <|
    .call 4 (bB (.bRW tI (.bRW tI (.bRW tI (.bRW tI .bool)))) [(aK aC 2 (.p1 aC aG (.Z 0))),(.Z 4),(.p1 tI (.slice 55 aA) (.Z 5)),(.Z 8),(.Z 9)]) <|
    .bRX (.ar .sub .i64) (.bRY tI tI (.Z 4) (.ci .i64 1)) <|
    .bRX (.cmp .eql .i64) (.bRY tI tI (.p1 tI (.slice 55 aA) (.Z 5)) (.Z 11)) <|
    .bRX (.bS2 88 bF) (bB (.bRW aE aD) [(.p1 aE (.bRW aB (.bRW tI (.bRW bV aO))) (.p1 aC aG (.Z 0))),(.p1 tI tI (.Z 7)),(aP aD 1 (.Z 7))]) <|
    .bRX (.bS1 4 .bool) (.bRY bV tI (aK aC 3 (.p1 aC aG (.Z 0))) (.p1 tI (.slice 55 aA) (.Z 5))) <|
    .call 5 (bB (.bRW aE (.bRW aU (.bRW .bool .bool))) [(.Z 13),(.Z 10),(.Z 12),(.Z 14)]) <|
    .bRX (.lit 55 aA 1) (.Z 15) <|
    .bRX (.bS3 55 aA 248) (.bRY (.slice 55 aA) (.slice 55 aA) (aP (.bRW tI (.slice 55 aA)) 1 (.Z 5)) (.Z 16)) <|
    .bRX (.ar .add .i64) (.bRY tI tI (.p1 tI (.slice 55 aA) (.Z 5)) (.ci .i64 1)) <|
    .bRZ 0 (.bRY tI (.slice 55 aA) (.Z 18) (.Z 17))) (
    .bRX (.bS0 3 tI) (aK aC 4 (.p1 aC aG (.Z 0))) <|
    .loop (.bRW tI (.bRW aM aM)) (bB (.bRW tI (.bRW aM aM)) [(.ci .i64 0),(.nl 75 aN),(.nl 75 aN)]) <|
     .bRX (.cmp .lss .i64) (.bRY tI tI (.p1 tI (.bRW aM aM) (.Z 8)) (.Z 7)) <|
     .ite (.Z 9) (
      .bRX (.bS1 3 tI) (.bRY aB tI (aK aC 4 (.p1 aC aG (.Z 0))) (.p1 tI (.bRW aM aM) (.Z 8))) <|
      .bRX (.lit 75 aN 1) (.bRY tI (.slice 110 aH) (.Z 10) (.nl 110 aH)) <|
      .bRX (.bS3 75 aN 32) (.bRY aM aM (aK (.bRW tI (.bRW aM aM)) 1 (.Z 8)) (.Z 11)) <|
      .bRX (.lit 75 aN 1) (.bRY tI (.slice 110 aH) (.Z 10) (.nl 110 aH)) <|
      .bRX (.bS3 75 aN 32) (.bRY aM aM (aP (.bRW tI (.bRW aM aM)) 2 (.Z 8)) (.Z 13)) <|
      .bRX (.ar .add .i64) (.bRY tI tI (.p1 tI (.bRW aM aM) (.Z 8)) (.ci .i64 1)) <|
      .bRZ 0 (bB (.bRW tI (.bRW aM aM)) [(.Z 15),(.Z 12),(.Z 14)])) (
      .ret (bB aJ [(.Z 3),(aP (.bRW tI (.slice 55 aA)) 1 (.Z 5)),(aP (.bRW tI (.bRW aM aM)) 1 (.Z 8))]))))
theorem aXL:bI Tryz.prog [nS,iA,dN,dU,aAU,oY] rA false 3000 ⟨[(2984,2005,gQ 22 18++gQ 16 13++[.dr 0,.tm 7 0,.sl 13]),(2974,4008,[.dr 71]++gQ 25 23++[.dr 7,.dr 6,.dr 2,.dr 1,.tm 74 0,.sl 14,.sl 15])],[(2972,6011,[67],[])]⟩ = .ok aCV:=by kernel_rfl
theorem aX3 (x:bG × bO) (hx:okD (.bRW aC aG) x) (hp:(fun x=>bM aC x.1≤100000000∧bM aG x.2≤100000000) x):aCV.wp [nS,iA,dN,dU,aAU,oY] [⟨(.bRW aC aG),x⟩] [] (fun v=>v.as aJ=(fun x=>vK x.1 x.2) x):=by
 obtain ⟨c,b⟩:=x
 obtain ⟨hp1,hp2⟩:bM aC c≤100000000∧bM aG b≤100000000:=hp
 have hcp:fO c:=aHK (by omega)
 have hb1:List.length b≤bM aG b:=mI (e:=92) (t:=aO) b
 have hbm:∀ x∈b,List.length x.1≤1000000000∧List.length x.2≤1000000000:=fun x hx=>⟨((gZ (t:=aG) (show bM aG b≤1000000000 by omega)).2 x hx).1.1,((gZ (t:=aG) (show bM aG b≤1000000000 by omega)).2 x hx).2.1⟩
 have hmm:bM aE c.1≤bM aC c:=Nat.le_add_right _ _
 delta aCV nS iA dN dU aAU oY;refine cW ?_
 refine dB ?_
 refine ⟨hcp,fun _=>⟨fun h=>bKF h,fun h=>?_⟩⟩
 obtain ⟨a1,a2,a3,a4,a5,a6,a7,a8⟩:=aT0 h
 have hcl:=aNN a7
 refine ⟨by omega,fun _=>⟨⟨hcp.1,hcp.2.1⟩,fun _=>?_⟩⟩
 refine cN (fun k=>((k:Int),mp k (fun s=>aE5 c b.length (s:Int)))) (bW c.1 c.2.1).toNat rfl fun I μ k hk _ go=>?_
 dsimp only
 refine dB ?_
 have hr:=vD c.1 c.2.1 (k:Int)
 have hpl:=aJM c.2.2.1 (bW c.1 c.2.1) (k:Int) (b.length:Int) (List.getD c.2.2.2.1 k (aW .bool))
 have hml:=fL k (fun s=>aE5 c b.length ((s:Nat):Int))
 have hmd:bM aE (List.drop (bD c.1 c.2.1 (k:Int)).1.toNat (List.take (bD c.1 c.2.1 (k:Int)).2.toNat c.1))≤1000000000:=Nat.le_trans (bDR _ _) (by omega)
 constructor
 ·intro hlt
  (repeat' first|intro _|(refine go _ ?_ ?_ ?_)|(refine go _ ?_ ?_)|(with_reducible apply And.intro))
  all_goals first|omega|(unfold maxLen;omega)|exact hcp.1|exact hcp.2.1|exact hmd|(rw[fY];rfl)|skip
 intro hge _
 rw[show k=(bW c.1 c.2.1).toNat by omega]
 clear go
 refine cN (fun k=>((k:Int),mp k (zP c),mp k (zP c))) (List.length c.2.2.2.2.1) rfl fun I μ k hk _ go=>?_
 dsimp only
 refine dB ?_
 have hml:=fL k (zP c)
 constructor
 ·intro hlt
  (repeat' first|intro _|(refine go _ ?_ ?_ ?_)|(refine go _ ?_ ?_)|(with_reducible apply And.intro))
  all_goals first|omega|(unfold maxLen;omega)|(rw[fY];rfl)|skip
 ·intro hge
  rw[show k=List.length c.2.2.2.2.1 by omega]
  exact bAU h
theorem aVP:Con.Holds Tryz.prog rA:=aS aV (aI aR5 (aI aE6 (aI rX (aI sY (aI bL2 (aI aTG aQ)))))) aXL aX3
def qE:Con:=⟨37,(.bRW aC aG),aJ,[.val ⟨true,aC,[]⟩,.val ⟨false,aG,[]⟩],[⟨true,aJ,[2,2,2,2]⟩],false,none,
 ((fun x=>bM aC x.1≤100000000∧bM aG x.2≤100000000):(bG × bO)→Prop),
 ((fun x=>vK x.1 x.2):(bG × bO)→(bE))⟩
def aCG:T:=.call 0 (.Z 0) <|
 .bRX (.cmp .neq .i64) (.bRY tI tI (.Z 1) (.ci .i64 0)) <|
 .ite (.Z 2) (
  .ret (bB aJ [(.nl 92 aO),(.nl 55 aA),(.nl 75 aN),(.nl 75 aN)])) (
  .call 1 (.p1 aC aG (.Z 0)) <|
  .loop (.bRW tI aG) (.bRY tI aG (.ci .i64 0) (.nl 92 aO)) <|
   .bRX (.bS0 92 aO) (aP (.bRW aC aG) 1 (.Z 0)) <|
   .bRX (.cmp .lss .i64) (.bRY tI tI (.p1 tI aG (.Z 4)) (.Z 5)) <|
   .ite (.Z 6) (
    .bRX (.bS1 92 aO) (.bRY aG tI (aP (.bRW aC aG) 1 (.Z 0)) (.p1 tI aG (.Z 4))) <|
    .bRX (.bS1 92 aO) (.bRY aG tI (aP (.bRW aC aG) 1 (.Z 0)) (.p1 tI aG (.Z 4))) <|
    .bRX (.bS3 3 tI 8) (.bRY aB aB (.nl 3 tI) (.p1 aB aB (.Z 7))) <|
    .bRX (.bS3 3 tI 8) (.bRY aB aB (.nl 3 tI) (aP aO 1 (.Z 8))) <|
    .bRX (.lit 92 aO 1) (.bRY aB aB (.Z 9) (.Z 10)) <|
    .bRX (.bS3 92 aO 48) (.bRY aG aG (aP (.bRW tI aG) 1 (.Z 4)) (.Z 11)) <|
    .bRX (.ar .add .i64) (.bRY tI tI (.p1 tI aG (.Z 4)) (.ci .i64 1)) <|
    .bRZ 0 (.bRY tI aG (.Z 13) (.Z 12))) (
    .loop (.bRW tI (.bRW (.slice 55 aA) (.bRW aM aM))) (bB (.bRW tI (.bRW (.slice 55 aA) (.bRW aM aM))) [(.ci .i64 0),(.nl 55 aA),(.nl 75 aN),(.nl 75 aN)]) <|
     .bRX (.cmp .lss .i64) (.bRY tI tI (.p1 tI (.bRW (.slice 55 aA) (.bRW aM aM)) (.Z 7)) (.Z 3)) <|
     .ite (.Z 8) (
      .call 2 (bB (.bRW aE (.bRW aB tI)) [(.p1 aE (.bRW aB (.bRW tI (.bRW bV aO))) (.p1 aC aG (.Z 0))),(aK aC 1 (.p1 aC aG (.Z 0))),(.p1 tI (.bRW (.slice 55 aA) (.bRW aM aM)) (.Z 7))]) <|
      .bRX (.ar .sub .i64) (.bRY tI tI (.Z 3) (.ci .i64 1)) <|
      .bRX (.cmp .eql .i64) (.bRY tI tI (.p1 tI (.bRW (.slice 55 aA) (.bRW aM aM)) (.Z 7)) (.Z 10)) <|
      .bRX (.bS2 88 bF) (bB (.bRW aE aD) [(.p1 aE (.bRW aB (.bRW tI (.bRW bV aO))) (.p1 aC aG (.Z 0))),(.p1 tI tI (.Z 9)),(aP aD 1 (.Z 9))]) <|
      .bRX (.bS0 92 aO) (aP (.bRW aC aG) 1 (.Z 0)) <|
      .bRX (.bS1 4 .bool) (.bRY bV tI (aK aC 3 (.p1 aC aG (.Z 0))) (.p1 tI (.bRW (.slice 55 aA) (.bRW aM aM)) (.Z 7))) <|
      .bRX (.bS1 4 .bool) (.bRY bV tI (aK aC 3 (.p1 aC aG (.Z 0))) (.p1 tI (.bRW (.slice 55 aA) (.bRW aM aM)) (.Z 7))) <|
      .call 3 (bB (.bRW tI (.bRW tI (.bRW tI (.bRW tI .bool)))) [(aK aC 2 (.p1 aC aG (.Z 0))),(.Z 3),(.p1 tI (.bRW (.slice 55 aA) (.bRW aM aM)) (.Z 7)),(.Z 13),(.Z 14)]) <|
      .call 4 (bB (.bRW aE (.bRW aU (.bRW .bool .bool))) [(.Z 12),(.Z 16),(.Z 11),(.Z 15)]) <|
      .bRX (.lit 55 aA 1) (.Z 17) <|
      .bRX (.bS3 55 aA 248) (.bRY (.slice 55 aA) (.slice 55 aA) (aK (.bRW tI (.bRW (.slice 55 aA) (.bRW aM aM))) 1 (.Z 7)) (.Z 18)) <|
      .bRX (.cmp .gtr .i64) (.bRY tI tI (.p1 tI (.bRW (.slice 55 aA) (.bRW aM aM)) (.Z 7)) (.ci .i64 0)) <|
      .ite (.Z 20) (
       .bRX (.ar .sub .i64) (.bRY tI tI (.p1 tI (.bRW (.slice 55 aA) (.bRW aM aM)) (.Z 7)) (.ci .i64 1)) <|
       .bRX (.bS1 3 tI) (.bRY aB tI (aK aC 4 (.p1 aC aG (.Z 0))) (.Z 21)) <|
       .bRX (.lit 75 aN 1) (.bRY tI (.slice 110 aH) (.Z 22) (.nl 110 aH)) <|
       .bRX (.bS3 75 aN 32) (.bRY aM aM (aK (.bRW tI (.bRW (.slice 55 aA) (.bRW aM aM))) 2 (.Z 7)) (.Z 23)) <|
       .bRX (.ar .sub .i64) (.bRY tI tI (.p1 tI (.bRW (.slice 55 aA) (.bRW aM aM)) (.Z 7)) (.ci .i64 1)) <|
       .bRX (.bS1 3 tI) (.bRY aB tI (aK aC 4 (.p1 aC aG (.Z 0))) (.Z 25)) <|
       .bRX (.lit 75 aN 1) (.bRY tI (.slice 110 aH) (.Z 26) (.nl 110 aH)) <|
       .bRX (.bS3 75 aN 32) (.bRY aM aM (aP (.bRW tI (.bRW (.slice 55 aA) (.bRW aM aM))) 3 (.Z 7)) (.Z 27)) <|
       .bRX (.ar .add .i64) (.bRY tI tI (.p1 tI (.bRW (.slice 55 aA) (.bRW aM aM)) (.Z 7)) (.ci .i64 1)) <|
       .bRZ 0 (bB (.bRW tI (.bRW (.slice 55 aA) (.bRW aM aM))) [(.Z 29),(.Z 19),(.Z 24),(.Z 28)])) (
       .bRX (.ar .add .i64) (.bRY tI tI (.p1 tI (.bRW (.slice 55 aA) (.bRW aM aM)) (.Z 7)) (.ci .i64 1)) <|
       .bRZ 0 (bB (.bRW tI (.bRW (.slice 55 aA) (.bRW aM aM))) [(.Z 21),(.Z 19),(aP (.bRW tI (.bRW (.slice 55 aA) (.bRW aM aM))) 2 (.Z 7))]))) (
      .ret (.bRY aG (.bRW (.slice 55 aA) (.bRW aM aM)) (aP (.bRW tI aG) 1 (.Z 4)) (aP (.bRW tI (.bRW (.slice 55 aA) (.bRW aM aM))) 1 (.Z 7))))))
theorem aWJ:bI Tryz.prog [nO,oC,cX,aCS,oT] qE false 3000 ⟨[(2984,2004,[.dr 18,.dr 17]++gQ 15 11++[.dr 0,.tm 7 0,.sl 12]),(2974,4007,gQ 22 19++[.dr 7,.tm 8 0,.sl 13,.sl 14,.sl 15])],[(2976,6007,[40,33],[]),(2963,12010,[88],[])]⟩ = .ok aCG:=by kernel_rfl
theorem aW4 (x:bG × bO) (hx:okD (.bRW aC aG) x) (hp:(fun x=>bM aC x.1≤100000000∧bM aG x.2≤100000000) x):aCG.wp [nO,oC,cX,aCS,oT] [⟨(.bRW aC aG),x⟩] [] (fun v=>v.as aJ=(fun x=>vK x.1 x.2) x):=by
 obtain ⟨c,b⟩:=x
 obtain ⟨hp1,hp2⟩:bM aC c≤100000000∧bM aG b≤100000000:=hp
 have hcp:fO c:=aHK (by omega)
 have hb1:List.length b≤bM aG b:=mI (e:=92) (t:=aO) b
 have hbm:∀ x∈b,List.length x.1≤1000000000∧List.length x.2≤1000000000:=fun x hx=>⟨((gZ (t:=aG) (show bM aG b≤1000000000 by omega)).2 x hx).1.1,((gZ (t:=aG) (show bM aG b≤1000000000 by omega)).2 x hx).2.1⟩
 have hmm:bM aE c.1≤bM aC c:=Nat.le_add_right _ _
 delta aCG nO oC cX aCS oT;refine cW ?_
 refine dB ?_
 refine ⟨hcp,fun _=>⟨fun h=>bKF h,fun h=>?_⟩⟩
 obtain ⟨a1,a2,a3,a4,a5,a6,a7,a8⟩:=aT0 h
 have hcl:=aNN a7
 refine ⟨⟨hcp.1,hcp.2.1⟩,fun _=>?_⟩
 refine cN (fun k=>((k:Int),List.take k b)) (List.length b) rfl fun I μ k hk _ go=>?_
 dsimp only
 refine dB ?_
 intro _
 constructor
 ·intro hlt
  have hk':k<List.length b:=by omega
  have hm:=hbm _ (List.getElem_mem hk')
  simp only[aZ hk']
  (repeat' first|intro _|(refine go _ ?_ ?_ ?_)|(refine go _ ?_ ?_)|(with_reducible apply And.intro))
  all_goals first|omega|(with_reducible exact hm.1)|(with_reducible exact hm.2)|(unfold maxLen;omega)|(simp only[List.length_take];unfold maxLen;omega)|(simp only[List.length_take];omega)|(rw[iW hk'];rfl)
 intro hge
 rw[show List.take k b=b from List.take_of_length_le (by omega)]
 clear go
 refine cN (fun k=>((k:Int),mp k (fun s=>aE5 c b.length (s:Int)),mp (k - 1) (zP c),mp (k - 1) (zP c))) (bW c.1 c.2.1).toNat rfl fun I μ k hk _ go=>?_
 dsimp only
 refine dB ?_
 have hr:=vD c.1 c.2.1 (k:Int)
 have hpl:=aJM c.2.2.1 (bW c.1 c.2.1) (k:Int) (b.length:Int) (List.getD c.2.2.2.1 k (aW .bool))
 have hml:=fL k (fun s=>aE5 c b.length ((s:Nat):Int))
 have hml2:=fL (k - 1) (zP c)
 have hmd:bM aE (List.drop (bD c.1 c.2.1 (k:Int)).1.toNat (List.take (bD c.1 c.2.1 (k:Int)).2.toNat c.1))≤1000000000:=Nat.le_trans (bDR _ _) (by omega)
 have e2:0<k→mp k (zP c)=mp (k - 1) (zP c)++[zP c (k - 1)]:=fun h0=>by rw[← fY,Nat.sub_add_cancel h0]
 have e3:¬ 0<k→mp k (zP c)=mp (k - 1) (zP c):=fun h0=>by rw[show k - 1=k by omega]
 constructor
 ·intro hlt
  (repeat' first|intro _|(refine go _ ?_ ?_ ?_)|(refine go _ ?_ ?_)|(with_reducible apply And.intro))
  all_goals first|omega|(unfold maxLen;omega)|exact hcp.1|exact hcp.2.1|exact hmd|skip
  all_goals show _=((((k+1:Nat):Int)),mp (k+1) (fun s=>aE5 c b.length ((s:Nat):Int)),mp k (zP c),mp k (zP c))
  all_goals rw[fY]
  all_goals first|(rw[e2 (by omega)];rfl)|(rw[e3 (by omega)];rfl)|skip
 ·intro hge
  have ek:k=(bW c.1 c.2.1).toNat:=by omega
  have ec:k - 1=List.length c.2.2.2.2.1:=by omega
  rw[ec,ek]
  exact bAU h
theorem aYA:Con.Holds Tryz.prog qE:=aS aV (aI aQM (aI aSI (aI oD (aI bNM (aI aUJ aQ))))) aWJ aW4
def qR:Con:=⟨14,aJ,(.bRW aJ aB),[.val ⟨true,aJ,[]⟩],[⟨true,aJ,[0,0,0,0]⟩,⟨false,aB,[0]⟩],false,none,
 ((fun x=>bM aJ x≤100000000):(bE)→Prop),
 ((fun x=>(uW x (fF x),fF x)):(bE)→(bE × bK))⟩
def aB2:T:=.call 0 (.Z 0) <|.call 1 (.Z 0) <|
 .bRX (.bS0 3 tI) (.Z 1) <|
 .loop (.bRW tI aJ) (.bRY tI aJ (.ci .i64 0) (.Z 2)) <|
  .bRX (.cmp .lss .i64) (.bRY tI tI (.p1 tI aJ (.Z 4)) (.Z 3)) <|
  .ite (.Z 5) (
   .bRX (.bS1 3 tI) (.bRY aB tI (.Z 1) (.p1 tI aJ (.Z 4))) <|
   .bRX (.bS1 3 tI) (.bRY aB tI (.Z 1) (.p1 tI aJ (.Z 4))) <|
   .call 2 (.bRY aJ tI (aP (.bRW tI aJ) 1 (.Z 4)) (.Z 7)) <|
   .bRX (.ar .add .i64) (.bRY tI tI (.p1 tI aJ (.Z 4)) (.ci .i64 1)) <|
   .bRZ 0 (.bRY tI aJ (.Z 9) (.Z 8))) (
   .ret (.bRY aJ aB (aP (.bRW tI aJ) 1 (.Z 4)) (.Z 1)))
theorem aWM:bI Tryz.prog [lQ,jC,aAT] qR false 3000 ⟨[(2989,1004,gQ 10 7++[.dr 0,.tm 13 0,.fz 8,.fz 9,.fz 10,.fz 11,.bx 1 0,.dk 8,.bx 1 1,.dk 9,.bx 1 2,.dk 10,.bx 1 3,.dk 11])],[]⟩ = .ok aB2:=by kernel_rfl
theorem aYF (x:bE) (hx:okD aJ x) (hp:(fun x=>bM aJ x≤100000000) x):aB2.wp [lQ,jC,aAT] [⟨aJ,x⟩] [] (fun v=>v.as (.bRW aJ aB)=(fun x=>(uW x (fF x),fF x)) x):=by
 have hp:bM aJ x≤100000000:=hp
 have hw:=aDV x
 delta aB2 lQ jC aAT;refine cW ?_
 (refine dB ?_;try with_reducible exact True.intro)
 (repeat' first|intro _|(with_reducible apply And.intro))
 all_goals first|omega|skip
 refine cN (fun k=>((k:Int),uW x (List.take k (fF x)))) (List.length (fF x)) rfl fun I μ k hk _ go=>?_
 dsimp only
 refine dB ?_
 have hz:=bFP (p:=x) (fF x) k (by omega) hp
 by_cases hk':k<List.length (fF x)
 ·simp only[aZ hk']
  (repeat' first|intro _|(refine go _ ?_ ?_ ?_)|(refine go _ ?_ ?_)|(with_reducible apply And.intro))
  all_goals first|omega|exact hz|(rw[aS4 hk'];rfl)|skip
 ·(repeat' first|intro _|(refine go _ ?_ ?_ ?_)|(refine go _ ?_ ?_)|(with_reducible apply And.intro))
  all_goals first|omega|(rw[List.take_of_length_le (by omega)])|skip
theorem aXG:Con.Holds Tryz.prog qR:=aS aV (aI aO2 (aI aGS (aI bKN aQ))) aWM aYF
def qQ:Con:=⟨39,aJ,(.bRW aJ aB),[.val ⟨true,aJ,[]⟩],[⟨true,aJ,[0,0,0,0]⟩,⟨false,aB,[0]⟩],true,none,
 ((fun x=>bM aJ x≤100000000):(bE)→Prop),
 ((fun x=>(uW x (fF x),fF x)):(bE)→(bE × bK))⟩
def aCH:T:=.call 0 (.Z 0) <|.call 1 (.Z 0) <|.loop (.bRW tI aJ) (.bRY tI aJ (.ci .i64 0) (.Z 2)) <|
 .bRX (.bS0 3 tI) (.Z 1) <|
 .bRX (.cmp .lss .i64) (.bRY tI tI (.p1 tI aJ (.Z 3)) (.Z 4)) <|
 .ite (.Z 5) (
  .bRX (.bS1 3 tI) (.bRY aB tI (.Z 1) (.p1 tI aJ (.Z 3))) <|
  .bRX (.bS1 3 tI) (.bRY aB tI (.Z 1) (.p1 tI aJ (.Z 3))) <|
  .call 2 (.bRY aJ tI (aP (.bRW tI aJ) 1 (.Z 3)) (.Z 7)) <|
  .bRX (.ar .add .i64) (.bRY tI tI (.p1 tI aJ (.Z 3)) (.ci .i64 1)) <|
  .bRZ 0 (.bRY tI aJ (.Z 9) (.Z 8))) (
  .ret (.bRY aJ aB (aP (.bRW tI aJ) 1 (.Z 3)) (.Z 1)))
theorem aXJ:bI Tryz.prog [lG,kH,aCK] qQ false 3000 ⟨[(2989,1003,gQ 10 7++[.dr 1,.dr 0,.tm 6 0,.fz 8,.fz 9,.fz 10,.fz 11,.nb 12,.bx 12 0,.dk 8,.bx 12 1,.dk 9,.bx 12 2,.dk 10,.bx 12 3,.dk 11])],[]⟩ = .ok aCH:=by kernel_rfl
theorem aYV (x:bE) (hx:okD aJ x) (hp:(fun x=>bM aJ x≤100000000) x):aCH.wp [lG,kH,aCK] [⟨aJ,x⟩] [] (fun v=>v.as (.bRW aJ aB)=(fun x=>(uW x (fF x),fF x)) x):=by
 have hp:bM aJ x≤100000000:=hp
 have hw:=aDV x
 delta aCH lG kH aCK;refine cW ?_
 (refine dB ?_;try with_reducible exact True.intro)
 (repeat' first|intro _|(with_reducible apply And.intro))
 all_goals first|omega|skip
 refine cN (fun k=>((k:Int),uW x (List.take k (fF x)))) (List.length (fF x)) rfl fun I μ k hk _ go=>?_
 dsimp only
 refine dB ?_
 have hz:=bFP (p:=x) (fF x) k (by omega) hp
 by_cases hk':k<List.length (fF x)
 ·simp only[aZ hk']
  (repeat' first|intro _|(refine go _ ?_ ?_ ?_)|(refine go _ ?_ ?_)|(with_reducible apply And.intro))
  all_goals first|omega|exact hz|(rw[aS4 hk'];rfl)|skip
 ·(repeat' first|intro _|(refine go _ ?_ ?_ ?_)|(refine go _ ?_ ?_)|(with_reducible apply And.intro))
  all_goals first|omega|(rw[List.take_of_length_le (by omega)])|skip
theorem aWZ:Con.Holds Tryz.prog qQ:=aS aV (aI aNK (aI aKJ (aI bLL aQ))) aXJ aYV
end
end Go.Proofs.YtabamggdmdednaaGreat
