/- CoreS: lemmas. No conditions. -/
import Derived.Test.YtiihghfoeinbbaaGreatCoreA
import Derived.Test.YtiihghfoeinbbaaGreatCoreP
namespace Go.Proofs.YtiihghfoeinbbaaGreat
noncomputable section
set_option maxRecDepth 100000
open Go.ChangeShapes Go.WideShapes Go.ChangeAt Go.RowKit Go.Deep
set_option linter.unusedVariables false
set_option linter.unusedSimpArgs false
def bLN:bC:=aX aA
def aAI (ops:List eK) (plan:List fI) (last redo:Bool):bC:=if cQ ops=true then (0,plan,ops,last,redo,[],[],[],[],[],[],wV ops) else bLN
def aCF (c:bN) (n:Nat) (s:Int):bC :=
 aAI (List.drop (bB c.1 c.2.1 s).1.toNat (List.take (bB c.1 c.2.1 s).2.toNat c.1)) (zA c.2.2.1 (bS c.1 c.2.1) s (n:Int) (c.2.2.2.1.getD s.toNat false)) (s==bS c.1 c.2.1 - 1) (c.2.2.2.1.getD s.toNat false)
def yK (c:bN) (i:Nat):cE:=(c.2.2.2.2.1.getD i 0,[])
def pG (c:bN) (b:List bW):bO :=
 if gQ c b=0 then (b,mp (bS c.1 c.2.1).toNat (fun s=>aCF c b.length (s:Int)),mp c.2.2.2.2.1.length (yK c),mp c.2.2.2.2.1.length (yK c)) else ([],[],[],[])
theorem bI2 {c:bN} {b:List bW} (h:¬ gQ c b=0):([],[],[],[])=pG c b:=(if_neg h).symm
theorem bGA {c:bN} {b:List bW} (h:gQ c b=0):(b,mp (bS c.1 c.2.1).toNat (fun s=>aCF c b.length (s:Int)),mp c.2.2.2.2.1.length (yK c),mp c.2.2.2.2.1.length (yK c))=pG c b:=(if_pos h).symm
theorem bB4 {ops:List eK} {plan:List fI} {last redo:Bool} (h:cQ ops=false):(0,[],[],false,false,[],[],[],[],[],[],[],0,false)=aAI ops plan last redo:=(if_neg (by rw[h];simp)).symm
theorem bBP {ops:List eK} {plan:List fI} {last redo:Bool} (h:cQ ops=true):(0,plan,ops,last,redo,[],[],[],[],[],[],wV ops)=aAI ops plan last redo:=(if_pos h).symm
theorem aYH {c:bN} {b:List bW} (h:gQ c b=0):cQ c.1=true∧iG c.1 b=true∧jM c.1 c.2.1=true∧bS c.1 c.2.1=(c.2.1.length:Int)+1∧bS c.1 c.2.1≤4∧(c.2.2.2.1.length:Int)=bS c.1 c.2.1∧pH c=true∧lS c (b.length:Int)=true:=by
 cases h1:cQ c.1
 ·rw[← bLB h1] at h;omega
 cases h2:iG c.1 b
 ·rw[← bKX h1 h2] at h;omega
 by_cases h3:bS c.1 c.2.1=0∨4<bS c.1 c.2.1
 ·rw[← bK1 h1 h2 h3] at h;omega
 by_cases h4:c.2.2.1=1∨c.2.2.1=2
 rotate_left
 ·rw[← bLF h1 h2 h3 h4] at h;omega
 by_cases h5:(c.2.2.2.1.length:Int)=bS c.1 c.2.1
 rotate_left
 ·rw[← bL6 h1 h2 h3 h4 h5] at h;omega
 cases h6:pH c
 ·rw[← bJ6 h1 h2 h3 h4 h5 h6] at h;omega
 cases h7:lS c (b.length:Int)
 ·rw[← bIN h1 h2 h3 h4 h5 h6 h7] at h;omega
 cases hc:jM c.1 c.2.1
 ·rw[aII hc] at h3;omega
 ·exact ⟨rfl,rfl,rfl,aAW hc,by omega,h5,rfl,rfl⟩
theorem aKQ {c:bN} (h:pH c=true):c.2.2.2.2.1.length=c.2.1.length:=by
 unfold pH at h;rw[Bool.and_eq_true,decide_eq_true_eq] at h;exact h.1
theorem aVA {c:bN} (h:bD aC c≤1000000000):fY c:=by
 have hB:=gX (t:=aC) h
 exact ⟨⟨hB.1.1,fun o ho=>(hB.1.2 o ho).2.2.2.1⟩,hB.2.1.1,hB.2.2.2.1.1,hB.2.2.2.2.1.1,hB.2.2.2.2.2.1⟩
theorem aWJ {m:List eK} (a b:Nat):bD aE (List.drop a (List.take b m))≤bD aE m:=tU ((List.drop_sublist _ _).trans (List.take_sublist _ _))
def nR:Con:=⟨167,(.bMC aE (.bMC aT (.bMC .bool .bool))),aA,[.val ⟨false,aE,[]⟩,.val ⟨false,aT,[]⟩,.val ⟨false,.bool,[]⟩,.val ⟨false,.bool,[]⟩],[⟨true,aA,[0,2,2,0,0,2,2,2,2,2,2,2,0,0]⟩],false,none,
 ((fun x=>bD aE x.1≤1000000000∧List.length x.2.1≤1000000000):(bM × ((List fI) × (Bool × Bool)))→Prop),
 ((fun x=>aAI x.1 x.2.1 x.2.2.1 x.2.2.2):(bM × ((List fI) × (Bool × Bool)))→(bC))⟩
def yX:T:=.call 0 (.p1 aE (.bMC aT (.bMC .bool .bool)) (.Z 0)) <|.call 1 (.Z 1) <|
 .bMD .not (.Z 2) <|
 .ite (.Z 3) (
  .ret (bE aA [(.ci .i64 0),(.nl 194 aO),(.nl 146 bA),(.cb false),(.cb false),(.nl 206 aD),(.nl 156 aB),(.nl 3 tI),(.nl 3 tI),(.nl 3 tI),(.nl 3 tI),(.nl 156 aB),(.ci .i64 0),(.cb false)])) (
  .bMD (.bMJ 194 aO 16) (.bME aT aT (.nl 194 aO) (aJ (.bMC aE (.bMC aT (.bMC .bool .bool))) 1 (.Z 0))) <|
  .call 2 (.Z 1) <|
  .ret (bE aA [(.ci .i64 0),(.Z 4),(.Z 1),(aJ (.bMC aE (.bMC aT (.bMC .bool .bool))) 2 (.Z 0)),(aQ (.bMC aE (.bMC aT (.bMC .bool .bool))) 3 (.Z 0)),(.nl 206 aD),(.nl 156 aB),(.nl 3 tI),(.nl 3 tI),(.nl 3 tI),(.nl 3 tI),(.Z 5)]))
theorem aR6:bL Tryz.prog [jY,bQ,mE] nR false 3000 ⟨[],[]⟩ = .ok yX:=by kernel_rfl
theorem aP5 (x:bM × ((List fI) × (Bool × Bool))) (hx:okD (.bMC aE (.bMC aT (.bMC .bool .bool))) x) (hp:(fun x=>bD aE x.1≤1000000000∧List.length x.2.1≤1000000000) x):yX.wp [jY,bQ,mE] [⟨(.bMC aE (.bMC aT (.bMC .bool .bool))),x⟩] [] (fun v=>v.as aA=(fun x=>aAI x.1 x.2.1 x.2.2.1 x.2.2.2) x):=by
 have hm:=(gX (t:=aE) hp.1)
 delta yX jY bQ mE;refine dD ?_
 refine eE ?_
 refine ⟨hp.1,fun _=>⟨fun h=>bB4 h,fun h=>⟨⟨by have:=hp.2;omega,by have:=hp.2;unfold maxLen;omega⟩,fun _=>⟨⟨hm.1,fun o ho=>(hm.2 o ho).2.2.2.1⟩,fun _=>bBP h⟩⟩⟩⟩
theorem aQ5:Con.Holds Tryz.prog nR:=aR aW (aG aHA (aG gW (aG aMS aS))) aR6 aP5
def nI:Con:=⟨153,(.bMC aE (.bMC aT (.bMC .bool .bool))),aA,[.val ⟨false,aE,[]⟩,.val ⟨false,aT,[]⟩,.val ⟨false,.bool,[]⟩,.val ⟨false,.bool,[]⟩],[⟨true,aA,[0,2,2,0,0,2,2,2,2,2,2,2,0,0]⟩],false,none,
 ((fun x=>bD aE x.1≤1000000000∧List.length x.2.1≤1000000000):(bM × ((List fI) × (Bool × Bool)))→Prop),
 ((fun x=>aAI x.1 x.2.1 x.2.2.1 x.2.2.2):(bM × ((List fI) × (Bool × Bool)))→(bC))⟩
def xW:T:=.call 0 (.p1 aE (.bMC aT (.bMC .bool .bool)) (.Z 0)) <|
 .bMD .not (.Z 1) <|
 .ite (.Z 2) (
  .ret (bE aA [(.ci .i64 0),(.nl 194 aO),(.nl 146 bA),(.cb false),(.cb false),(.nl 206 aD),(.nl 156 aB),(.nl 3 tI),(.nl 3 tI),(.nl 3 tI),(.nl 3 tI),(.nl 156 aB),(.ci .i64 0),(.cb false)])) (
  .bMD (.bMJ 194 aO 16) (.bME aT aT (.nl 194 aO) (aJ (.bMC aE (.bMC aT (.bMC .bool .bool))) 1 (.Z 0))) <|
  .call 1 (.p1 aE (.bMC aT (.bMC .bool .bool)) (.Z 0)) <|
  .call 2 (.p1 aE (.bMC aT (.bMC .bool .bool)) (.Z 0)) <|
  .ret (bE aA [(.ci .i64 0),(.Z 3),(.Z 4),(aJ (.bMC aE (.bMC aT (.bMC .bool .bool))) 2 (.Z 0)),(aQ (.bMC aE (.bMC aT (.bMC .bool .bool))) 3 (.Z 0)),(.nl 206 aD),(.nl 156 aB),(.nl 3 tI),(.nl 3 tI),(.nl 3 tI),(.nl 3 tI),(.Z 5)]))
theorem aPY:bL Tryz.prog [cB,lD,mC] nI false 3000 ⟨[],[]⟩ = .ok xW:=by kernel_rfl
theorem aOL (x:bM × ((List fI) × (Bool × Bool))) (hx:okD (.bMC aE (.bMC aT (.bMC .bool .bool))) x) (hp:(fun x=>bD aE x.1≤1000000000∧List.length x.2.1≤1000000000) x):xW.wp [cB,lD,mC] [⟨(.bMC aE (.bMC aT (.bMC .bool .bool))),x⟩] [] (fun v=>v.as aA=(fun x=>aAI x.1 x.2.1 x.2.2.1 x.2.2.2) x):=by
 have hm:=(gX (t:=aE) hp.1)
 delta xW cB lD mC;refine dD ?_
 refine eE ?_
 refine ⟨fun h=>bB4 h,fun h=>⟨⟨by have:=hp.2;omega,by have:=hp.2;unfold maxLen;omega⟩,fun _=>⟨hp.1,fun _=>⟨⟨hm.1,fun o ho=>(hm.2 o ho).2.2.2.1⟩,fun _=>bBP h⟩⟩⟩⟩
theorem aOW:Con.Holds Tryz.prog nI:=aR aW (aG jV (aG aJ6 (aG aMQ aS))) aPY aOL
def pR:Con:=⟨87,(.bMC aC aN),aL,[.val ⟨true,aC,[]⟩,.val ⟨false,aN,[]⟩],[⟨true,aL,[2,2,2,2]⟩],false,none,
 ((fun x=>bD aC x.1≤100000000∧bD aN x.2≤100000000):(bN × fG)→Prop),
 ((fun x=>pG x.1 x.2):(bN × fG)→(bO))⟩
def zK:T:=.call 0 (.Z 0) <|
 .bMD (.cmp .neq .i64) (.bME tI tI (.Z 1) (.ci .i64 0)) <|
 .ite (.Z 2) (
  .ret (bE aL [(.nl 130 aI),(.nl 126 aA),(.nl 170 aM),(.nl 170 aM)])) (
  .call 1 (aQ (.bMC aC aN) 1 (.Z 0)) <|
  .call 2 (.p1 aC aN (.Z 0)) <|
  .loop (.bMC tI (.slice 126 aA)) (.bME tI (.slice 126 aA) (.ci .i64 0) (.nl 126 aA)) <|
   .bMD (.cmp .lss .i64) (.bME tI tI (.p1 tI (.slice 126 aA) (.Z 5)) (.Z 4)) <|
   .ite (.Z 6) (
    .call 3 (bE (.bMC aE (.bMC aB tI)) [(.p1 aE (.bMC aB (.bMC tI (.bMC bX aI))) (.p1 aC aN (.Z 0))),(aJ aC 1 (.p1 aC aN (.Z 0))),(.p1 tI (.slice 126 aA) (.Z 5))]) <|
    .bMD (.bMG 130 aI) (aQ (.bMC aC aN) 1 (.Z 0)) <|
    .bMD (.bMH 4 .bool) (.bME bX tI (aJ aC 3 (.p1 aC aN (.Z 0))) (.p1 tI (.slice 126 aA) (.Z 5))) <|
    .call 4 (bE (.bMC tI (.bMC tI (.bMC tI (.bMC tI .bool)))) [(aJ aC 2 (.p1 aC aN (.Z 0))),(.Z 4),(.p1 tI (.slice 126 aA) (.Z 5)),(.Z 8),(.Z 9)]) <|
    .bMD (.ar .sub .i64) (.bME tI tI (.Z 4) (.ci .i64 1)) <|
    .bMD (.cmp .eql .i64) (.bME tI tI (.p1 tI (.slice 126 aA) (.Z 5)) (.Z 11)) <|
    .bMD (.bMI 146 bA) (bE (.bMC aE aO) [(.p1 aE (.bMC aB (.bMC tI (.bMC bX aI))) (.p1 aC aN (.Z 0))),(.p1 tI tI (.Z 7)),(aQ aO 1 (.Z 7))]) <|
    .bMD (.bMH 4 .bool) (.bME bX tI (aJ aC 3 (.p1 aC aN (.Z 0))) (.p1 tI (.slice 126 aA) (.Z 5))) <|
    .call 5 (bE (.bMC aE (.bMC aT (.bMC .bool .bool))) [(.Z 13),(.Z 10),(.Z 12),(.Z 14)]) <|
    .bMD (.lit 126 aA 1) (.Z 15) <|
    .bMD (.bMJ 126 aA 248) (.bME (.slice 126 aA) (.slice 126 aA) (aQ (.bMC tI (.slice 126 aA)) 1 (.Z 5)) (.Z 16)) <|
    .bMD (.ar .add .i64) (.bME tI tI (.p1 tI (.slice 126 aA) (.Z 5)) (.ci .i64 1)) <|
    .bMF 0 (.bME tI (.slice 126 aA) (.Z 18) (.Z 17))) (
    .bMD (.bMG 3 tI) (aJ aC 4 (.p1 aC aN (.Z 0))) <|
    .loop (.bMC tI (.bMC aK aK)) (bE (.bMC tI (.bMC aK aK)) [(.ci .i64 0),(.nl 170 aM),(.nl 170 aM)]) <|
     .bMD (.cmp .lss .i64) (.bME tI tI (.p1 tI (.bMC aK aK) (.Z 8)) (.Z 7)) <|
     .ite (.Z 9) (
      .bMD (.bMH 3 tI) (.bME aB tI (aJ aC 4 (.p1 aC aN (.Z 0))) (.p1 tI (.bMC aK aK) (.Z 8))) <|
      .bMD (.lit 170 aM 1) (.bME tI (.slice 197 aF) (.Z 10) (.nl 197 aF)) <|
      .bMD (.bMJ 170 aM 32) (.bME aK aK (aJ (.bMC tI (.bMC aK aK)) 1 (.Z 8)) (.Z 11)) <|
      .bMD (.lit 170 aM 1) (.bME tI (.slice 197 aF) (.Z 10) (.nl 197 aF)) <|
      .bMD (.bMJ 170 aM 32) (.bME aK aK (aQ (.bMC tI (.bMC aK aK)) 2 (.Z 8)) (.Z 13)) <|
      .bMD (.ar .add .i64) (.bME tI tI (.p1 tI (.bMC aK aK) (.Z 8)) (.ci .i64 1)) <|
      .bMF 0 (bE (.bMC tI (.bMC aK aK)) [(.Z 15),(.Z 12),(.Z 14)])) (
      .ret (bE aL [(.Z 3),(aQ (.bMC tI (.slice 126 aA)) 1 (.Z 5)),(aQ (.bMC tI (.bMC aK aK)) 1 (.Z 8))]))))
theorem aVD:bL Tryz.prog [wO,gT,dH,dN,zG,nR] pR false 3000 ⟨[(2984,2005,iQ 22 18++iQ 16 13++[.dr 0,.tm 7 0,.sl 13]),(2974,4008,[.dr 71]++iQ 25 23++[.dr 7,.dr 6,.dr 2,.dr 1,.tm 74 0,.sl 14,.sl 15])],[(2972,6011,[67],[])]⟩ = .ok zK:=by kernel_rfl
theorem aTM (x:bN × fG) (hx:okD (.bMC aC aN) x) (hp:(fun x=>bD aC x.1≤100000000∧bD aN x.2≤100000000) x):zK.wp [wO,gT,dH,dN,zG,nR] [⟨(.bMC aC aN),x⟩] [] (fun v=>v.as aL=(fun x=>pG x.1 x.2) x):=by
 obtain ⟨c,b⟩:=x
 obtain ⟨hp1,hp2⟩:bD aC c≤100000000∧bD aN b≤100000000:=hp
 have hcp:fY c:=aVA (by omega)
 have hb1:List.length b≤bD aN b:=xQ (e:=130) (t:=aI) b
 have hbm:∀ x∈b,List.length x.1≤1000000000∧List.length x.2≤1000000000:=fun x hx=>⟨((gX (t:=aN) (show bD aN b≤1000000000 by omega)).2 x hx).1.1,((gX (t:=aN) (show bD aN b≤1000000000 by omega)).2 x hx).2.1⟩
 have hmm:bD aE c.1≤bD aC c:=Nat.le_add_right _ _
 delta zK wO gT dH dN zG nR;refine dD ?_
 refine eE ?_
 refine ⟨hcp,fun _=>⟨fun h=>bI2 h,fun h=>?_⟩⟩
 obtain ⟨a1,a2,a3,a4,a5,a6,a7,a8⟩:=aYH h
 have hcl:=aKQ a7
 refine ⟨by omega,fun _=>⟨⟨hcp.1,hcp.2.1⟩,fun _=>?_⟩⟩
 refine cS (fun k=>((k:Int),mp k (fun s=>aCF c b.length (s:Int)))) (bS c.1 c.2.1).toNat rfl fun I μ k hk _ go=>?_
 dsimp only
 refine eE ?_
 have hr:=tS c.1 c.2.1 (k:Int)
 have hpl:=aFZ c.2.2.1 (bS c.1 c.2.1) (k:Int) (b.length:Int) (List.getD c.2.2.2.1 k (aX .bool))
 have hml:=fJ k (fun s=>aCF c b.length ((s:Nat):Int))
 have hmd:bD aE (List.drop (bB c.1 c.2.1 (k:Int)).1.toNat (List.take (bB c.1 c.2.1 (k:Int)).2.toNat c.1))≤1000000000:=Nat.le_trans (aWJ _ _) (by omega)
 constructor
 ·intro hlt
  (repeat' first|intro _|(refine go _ ?_ ?_ ?_)|(refine go _ ?_ ?_)|(with_reducible apply And.intro))
  all_goals first|omega|(unfold maxLen;omega)|exact hcp.1|exact hcp.2.1|exact hmd|(rw[fU];rfl)|skip
 intro hge _
 rw[show k=(bS c.1 c.2.1).toNat by omega]
 clear go
 refine cS (fun k=>((k:Int),mp k (yK c),mp k (yK c))) (List.length c.2.2.2.2.1) rfl fun I μ k hk _ go=>?_
 dsimp only
 refine eE ?_
 have hml:=fJ k (yK c)
 constructor
 ·intro hlt
  (repeat' first|intro _|(refine go _ ?_ ?_ ?_)|(refine go _ ?_ ?_)|(with_reducible apply And.intro))
  all_goals first|omega|(unfold maxLen;omega)|(rw[fU];rfl)|skip
 ·intro hge
  rw[show k=List.length c.2.2.2.2.1 by omega]
  exact bGA h
theorem aTV:Con.Holds Tryz.prog pR:=aR aW (aG bCK (aG aCD (aG qW (aG sI (aG bGX (aG aQ5 aS)))))) aVD aTM
def pQ:Con:=⟨81,(.bMC aC aN),aL,[.val ⟨true,aC,[]⟩,.val ⟨false,aN,[]⟩],[⟨true,aL,[2,2,2,2]⟩],false,none,
 ((fun x=>bD aC x.1≤100000000∧bD aN x.2≤100000000):(bN × fG)→Prop),
 ((fun x=>pG x.1 x.2):(bN × fG)→(bO))⟩
def zF:T:=.call 0 (.Z 0) <|
 .bMD (.cmp .neq .i64) (.bME tI tI (.Z 1) (.ci .i64 0)) <|
 .ite (.Z 2) (
  .ret (bE aL [(.nl 130 aI),(.nl 126 aA),(.nl 170 aM),(.nl 170 aM)])) (
  .call 1 (.p1 aC aN (.Z 0)) <|
  .loop (.bMC tI aN) (.bME tI aN (.ci .i64 0) (.nl 130 aI)) <|
   .bMD (.bMG 130 aI) (aQ (.bMC aC aN) 1 (.Z 0)) <|
   .bMD (.cmp .lss .i64) (.bME tI tI (.p1 tI aN (.Z 4)) (.Z 5)) <|
   .ite (.Z 6) (
    .bMD (.bMH 130 aI) (.bME aN tI (aQ (.bMC aC aN) 1 (.Z 0)) (.p1 tI aN (.Z 4))) <|
    .bMD (.bMH 130 aI) (.bME aN tI (aQ (.bMC aC aN) 1 (.Z 0)) (.p1 tI aN (.Z 4))) <|
    .bMD (.bMJ 3 tI 8) (.bME aB aB (.nl 3 tI) (.p1 aB aB (.Z 7))) <|
    .bMD (.bMJ 3 tI 8) (.bME aB aB (.nl 3 tI) (aQ aI 1 (.Z 8))) <|
    .bMD (.lit 130 aI 1) (.bME aB aB (.Z 9) (.Z 10)) <|
    .bMD (.bMJ 130 aI 48) (.bME aN aN (aQ (.bMC tI aN) 1 (.Z 4)) (.Z 11)) <|
    .bMD (.ar .add .i64) (.bME tI tI (.p1 tI aN (.Z 4)) (.ci .i64 1)) <|
    .bMF 0 (.bME tI aN (.Z 13) (.Z 12))) (
    .loop (.bMC tI (.bMC (.slice 126 aA) (.bMC aK aK))) (bE (.bMC tI (.bMC (.slice 126 aA) (.bMC aK aK))) [(.ci .i64 0),(.nl 126 aA),(.nl 170 aM),(.nl 170 aM)]) <|
     .bMD (.cmp .lss .i64) (.bME tI tI (.p1 tI (.bMC (.slice 126 aA) (.bMC aK aK)) (.Z 7)) (.Z 3)) <|
     .ite (.Z 8) (
      .call 2 (bE (.bMC aE (.bMC aB tI)) [(.p1 aE (.bMC aB (.bMC tI (.bMC bX aI))) (.p1 aC aN (.Z 0))),(aJ aC 1 (.p1 aC aN (.Z 0))),(.p1 tI (.bMC (.slice 126 aA) (.bMC aK aK)) (.Z 7))]) <|
      .bMD (.ar .sub .i64) (.bME tI tI (.Z 3) (.ci .i64 1)) <|
      .bMD (.cmp .eql .i64) (.bME tI tI (.p1 tI (.bMC (.slice 126 aA) (.bMC aK aK)) (.Z 7)) (.Z 10)) <|
      .bMD (.bMI 146 bA) (bE (.bMC aE aO) [(.p1 aE (.bMC aB (.bMC tI (.bMC bX aI))) (.p1 aC aN (.Z 0))),(.p1 tI tI (.Z 9)),(aQ aO 1 (.Z 9))]) <|
      .bMD (.bMG 130 aI) (aQ (.bMC aC aN) 1 (.Z 0)) <|
      .bMD (.bMH 4 .bool) (.bME bX tI (aJ aC 3 (.p1 aC aN (.Z 0))) (.p1 tI (.bMC (.slice 126 aA) (.bMC aK aK)) (.Z 7))) <|
      .bMD (.bMH 4 .bool) (.bME bX tI (aJ aC 3 (.p1 aC aN (.Z 0))) (.p1 tI (.bMC (.slice 126 aA) (.bMC aK aK)) (.Z 7))) <|
      .call 3 (bE (.bMC tI (.bMC tI (.bMC tI (.bMC tI .bool)))) [(aJ aC 2 (.p1 aC aN (.Z 0))),(.Z 3),(.p1 tI (.bMC (.slice 126 aA) (.bMC aK aK)) (.Z 7)),(.Z 13),(.Z 14)]) <|
      .call 4 (bE (.bMC aE (.bMC aT (.bMC .bool .bool))) [(.Z 12),(.Z 16),(.Z 11),(.Z 15)]) <|
      .bMD (.lit 126 aA 1) (.Z 17) <|
      .bMD (.bMJ 126 aA 248) (.bME (.slice 126 aA) (.slice 126 aA) (aJ (.bMC tI (.bMC (.slice 126 aA) (.bMC aK aK))) 1 (.Z 7)) (.Z 18)) <|
      .bMD (.cmp .gtr .i64) (.bME tI tI (.p1 tI (.bMC (.slice 126 aA) (.bMC aK aK)) (.Z 7)) (.ci .i64 0)) <|
      .ite (.Z 20) (
       .bMD (.ar .sub .i64) (.bME tI tI (.p1 tI (.bMC (.slice 126 aA) (.bMC aK aK)) (.Z 7)) (.ci .i64 1)) <|
       .bMD (.bMH 3 tI) (.bME aB tI (aJ aC 4 (.p1 aC aN (.Z 0))) (.Z 21)) <|
       .bMD (.lit 170 aM 1) (.bME tI (.slice 197 aF) (.Z 22) (.nl 197 aF)) <|
       .bMD (.bMJ 170 aM 32) (.bME aK aK (aJ (.bMC tI (.bMC (.slice 126 aA) (.bMC aK aK))) 2 (.Z 7)) (.Z 23)) <|
       .bMD (.ar .sub .i64) (.bME tI tI (.p1 tI (.bMC (.slice 126 aA) (.bMC aK aK)) (.Z 7)) (.ci .i64 1)) <|
       .bMD (.bMH 3 tI) (.bME aB tI (aJ aC 4 (.p1 aC aN (.Z 0))) (.Z 25)) <|
       .bMD (.lit 170 aM 1) (.bME tI (.slice 197 aF) (.Z 26) (.nl 197 aF)) <|
       .bMD (.bMJ 170 aM 32) (.bME aK aK (aQ (.bMC tI (.bMC (.slice 126 aA) (.bMC aK aK))) 3 (.Z 7)) (.Z 27)) <|
       .bMD (.ar .add .i64) (.bME tI tI (.p1 tI (.bMC (.slice 126 aA) (.bMC aK aK)) (.Z 7)) (.ci .i64 1)) <|
       .bMF 0 (bE (.bMC tI (.bMC (.slice 126 aA) (.bMC aK aK))) [(.Z 29),(.Z 19),(.Z 24),(.Z 28)])) (
       .bMD (.ar .add .i64) (.bME tI tI (.p1 tI (.bMC (.slice 126 aA) (.bMC aK aK)) (.Z 7)) (.ci .i64 1)) <|
       .bMF 0 (bE (.bMC tI (.bMC (.slice 126 aA) (.bMC aK aK))) [(.Z 21),(.Z 19),(aQ (.bMC tI (.bMC (.slice 126 aA) (.bMC aK aK))) 2 (.Z 7))]))) (
      .ret (.bME aN (.bMC (.slice 126 aA) (.bMC aK aK)) (aQ (.bMC tI aN) 1 (.Z 4)) (aQ (.bMC tI (.bMC (.slice 126 aA) (.bMC aK aK))) 1 (.Z 7))))))
theorem aTW:bL Tryz.prog [xA,nE,cT,aAK,nI] pQ false 3000 ⟨[(2984,2004,[.dr 18,.dr 17]++iQ 15 11++[.dr 0,.tm 7 0,.sl 12]),(2974,4007,iQ 22 19++[.dr 7,.tm 8 0,.sl 13,.sl 14,.sl 15])],[(2976,6007,[40,33],[]),(2963,12010,[88],[])]⟩ = .ok zF:=by kernel_rfl
theorem aVK (x:bN × fG) (hx:okD (.bMC aC aN) x) (hp:(fun x=>bD aC x.1≤100000000∧bD aN x.2≤100000000) x):zF.wp [xA,nE,cT,aAK,nI] [⟨(.bMC aC aN),x⟩] [] (fun v=>v.as aL=(fun x=>pG x.1 x.2) x):=by
 obtain ⟨c,b⟩:=x
 obtain ⟨hp1,hp2⟩:bD aC c≤100000000∧bD aN b≤100000000:=hp
 have hcp:fY c:=aVA (by omega)
 have hb1:List.length b≤bD aN b:=xQ (e:=130) (t:=aI) b
 have hbm:∀ x∈b,List.length x.1≤1000000000∧List.length x.2≤1000000000:=fun x hx=>⟨((gX (t:=aN) (show bD aN b≤1000000000 by omega)).2 x hx).1.1,((gX (t:=aN) (show bD aN b≤1000000000 by omega)).2 x hx).2.1⟩
 have hmm:bD aE c.1≤bD aC c:=Nat.le_add_right _ _
 delta zF xA nE cT aAK nI;refine dD ?_
 refine eE ?_
 refine ⟨hcp,fun _=>⟨fun h=>bI2 h,fun h=>?_⟩⟩
 obtain ⟨a1,a2,a3,a4,a5,a6,a7,a8⟩:=aYH h
 have hcl:=aKQ a7
 refine ⟨⟨hcp.1,hcp.2.1⟩,fun _=>?_⟩
 refine cS (fun k=>((k:Int),List.take k b)) (List.length b) rfl fun I μ k hk _ go=>?_
 dsimp only
 refine eE ?_
 intro _
 constructor
 ·intro hlt
  have hk':k<List.length b:=by omega
  have hm:=hbm _ (List.getElem_mem hk')
  simp only[aZ hk']
  (repeat' first|intro _|(refine go _ ?_ ?_ ?_)|(refine go _ ?_ ?_)|(with_reducible apply And.intro))
  all_goals first|omega|(with_reducible exact hm.1)|(with_reducible exact hm.2)|(unfold maxLen;omega)|(simp only[List.length_take];unfold maxLen;omega)|(simp only[List.length_take];omega)|(rw[iU hk'];rfl)
 intro hge
 rw[show List.take k b=b from List.take_of_length_le (by omega)]
 clear go
 refine cS (fun k=>((k:Int),mp k (fun s=>aCF c b.length (s:Int)),mp (k - 1) (yK c),mp (k - 1) (yK c))) (bS c.1 c.2.1).toNat rfl fun I μ k hk _ go=>?_
 dsimp only
 refine eE ?_
 have hr:=tS c.1 c.2.1 (k:Int)
 have hpl:=aFZ c.2.2.1 (bS c.1 c.2.1) (k:Int) (b.length:Int) (List.getD c.2.2.2.1 k (aX .bool))
 have hml:=fJ k (fun s=>aCF c b.length ((s:Nat):Int))
 have hml2:=fJ (k - 1) (yK c)
 have hmd:bD aE (List.drop (bB c.1 c.2.1 (k:Int)).1.toNat (List.take (bB c.1 c.2.1 (k:Int)).2.toNat c.1))≤1000000000:=Nat.le_trans (aWJ _ _) (by omega)
 have e2:0<k→mp k (yK c)=mp (k - 1) (yK c)++[yK c (k - 1)]:=fun h0=>by rw[← fU,Nat.sub_add_cancel h0]
 have e3:¬ 0<k→mp k (yK c)=mp (k - 1) (yK c):=fun h0=>by rw[show k - 1=k by omega]
 constructor
 ·intro hlt
  (repeat' first|intro _|(refine go _ ?_ ?_ ?_)|(refine go _ ?_ ?_)|(with_reducible apply And.intro))
  all_goals first|omega|(unfold maxLen;omega)|exact hcp.1|exact hcp.2.1|exact hmd|skip
  all_goals show _=((((k+1:Nat):Int)),mp (k+1) (fun s=>aCF c b.length ((s:Nat):Int)),mp k (yK c),mp k (yK c))
  all_goals rw[fU]
  all_goals first|(rw[e2 (by omega)];rfl)|(rw[e3 (by omega)];rfl)|skip
 ·intro hge
  have ek:k=(bS c.1 c.2.1).toNat:=by omega
  have ec:k - 1=List.length c.2.2.2.2.1:=by omega
  rw[ec,ek]
  exact bGA h
theorem aUV:Con.Holds Tryz.prog pQ:=aR aW (aG bDN (aG aQC (aG nN (aG bF0 (aG aOW aS))))) aTW aVK
end
end Go.Proofs.YtiihghfoeinbbaaGreat
