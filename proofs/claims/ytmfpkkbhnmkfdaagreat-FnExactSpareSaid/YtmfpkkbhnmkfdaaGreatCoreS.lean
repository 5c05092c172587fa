/- CoreS: lemmas. No conditions. -/
import Derived.Test.YtmfpkkbhnmkfdaaGreatCoreA
import Derived.Test.YtmfpkkbhnmkfdaaGreatCoreP
namespace Go.Proofs.YtmfpkkbhnmkfdaaGreat
noncomputable section
set_option maxRecDepth 100000
open Go.ChangeShapes Go.WideShapes Go.ChangeAt Go.RowKit Go.Deep
set_option linter.unusedVariables false
set_option linter.unusedSimpArgs false
def bOD:bC:=aX aA
def aAX (ops:List eV) (plan:List gI) (last redo:Bool):bC:=if cS ops=true then (0,plan,ops,last,redo,[],[],[],[],[],[],xM ops) else bOD
def aDG (c:bI) (n:Nat) (s:Int):bC :=
 aAX (List.drop (bE c.1 c.2.1 s).1.toNat (List.take (bE c.1 c.2.1 s).2.toNat c.1)) (zZ c.2.2.1 (bS c.1 c.2.1) s (n:Int) (c.2.2.2.1.getD s.toNat false)) (s==bS c.1 c.2.1 - 1) (c.2.2.2.1.getD s.toNat false)
def yS (c:bI) (i:Nat):cH:=(c.2.2.2.2.1.getD i 0,[])
def lG (c:bI) (b:List bP):bF :=
 if eL c b=0 then (b,mp (bS c.1 c.2.1).toNat (fun s=>aDG c b.length (s:Int)),mp c.2.2.2.2.1.length (yS c),mp c.2.2.2.2.1.length (yS c)) else ([],[],[],[])
theorem bJJ {c:bI} {b:List bP} (h:¬ eL c b=0):([],[],[],[])=lG c b:=(if_neg h).symm
theorem aT5 {c:bI} {b:List bP} (h:eL c b=0):(b,mp (bS c.1 c.2.1).toNat (fun s=>aDG c b.length (s:Int)),mp c.2.2.2.2.1.length (yS c),mp c.2.2.2.2.1.length (yS c))=lG c b:=(if_pos h).symm
theorem bDA {ops:List eV} {plan:List gI} {last redo:Bool} (h:cS ops=false):(0,[],[],false,false,[],[],[],[],[],[],[],0,false)=aAX ops plan last redo:=(if_neg (by rw[h];simp)).symm
theorem bDK {ops:List eV} {plan:List gI} {last redo:Bool} (h:cS ops=true):(0,plan,ops,last,redo,[],[],[],[],[],[],xM ops)=aAX ops plan last redo:=(if_pos h).symm
theorem aNK {c:bI} {b:List bP} (h:eL c b=0):cS c.1=true∧iN c.1 b=true∧jS c.1 c.2.1=true∧bS c.1 c.2.1=(c.2.1.length:Int)+1∧bS c.1 c.2.1≤4∧(c.2.2.2.1.length:Int)=bS c.1 c.2.1∧qV c=true∧lF c (b.length:Int)=true:=by
 cases h1:cS c.1
 ·rw[← bNZ h1] at h;omega
 cases h2:iN c.1 b
 ·rw[← bOJ h1 h2] at h;omega
 by_cases h3:bS c.1 c.2.1=0∨4<bS c.1 c.2.1
 ·rw[← bLZ h1 h2 h3] at h;omega
 by_cases h4:c.2.2.1=1∨c.2.2.1=2
 rotate_left
 ·rw[← bNU h1 h2 h3 h4] at h;omega
 by_cases h5:(c.2.2.2.1.length:Int)=bS c.1 c.2.1
 rotate_left
 ·rw[← bOL h1 h2 h3 h4 h5] at h;omega
 cases h6:qV c
 ·rw[← bMI h1 h2 h3 h4 h5 h6] at h;omega
 cases h7:lF c (b.length:Int)
 ·rw[← bN5 h1 h2 h3 h4 h5 h6 h7] at h;omega
 cases hc:jS c.1 c.2.1
 ·rw[aNA hc] at h3;omega
 ·exact ⟨rfl,rfl,rfl,aAO hc,by omega,h5,rfl,rfl⟩
theorem aL6 {c:bI} (h:qV c=true):c.2.2.2.2.1.length=c.2.1.length:=by
 unfold qV at h;rw[Bool.and_eq_true,decide_eq_true_eq] at h;exact h.1
theorem xY {c:bI} (h:aY aC c≤1000000000):fF c:=by
 have hB:=iD (t:=aC) h
 exact ⟨⟨hB.1.1,fun o ho=>(hB.1.2 o ho).2.2.2.1⟩,hB.2.1.1,hB.2.2.2.1.1,hB.2.2.2.2.1.1,hB.2.2.2.2.2.1⟩
theorem aZ8 {m:List eV} (a b:Nat):aY aE (List.drop a (List.take b m))≤aY aE m:=vE ((List.drop_sublist _ _).trans (List.take_sublist _ _))
theorem aCR (p:bF):(fW p).length≤4:=by
 cases h:kV p
 ·have e:∀ k,aG0 p k=[]:=fun k=>by
   induction k with
   | zero=>rfl
   | succ k ih=>rw[aG0,ih,if_neg (by rw[← aPW (p:=p) (s:=(k:Int)) (.inl h)];simp)];rfl
  unfold fW;rw[e];exact Nat.zero_le _
 ·have h1:=(nK.1 h).1
  have h2:=aG1 p p.2.1.length
  unfold fW;omega
theorem aZ2 {l:List Int} {k:Nat} (h:k<l.length):l.take (k+1)=l.take k++[l[k]]:=List.take_succ_eq_append_getElem h
theorem aPZ {p:bF} {l:List Int} {k:Nat} (h:k<l.length):uP p (l.take (k+1))=fY (uP p (l.take k)) l[k]:=by rw[aZ2 h,bH1]
theorem bDE {p:bF} (l:List Int) (k:Nat) (hk:k≤2000) (hp:aY aG p≤100000000):aY aG (uP p (l.take k))≤1000000000:=by
 have h:=aS0 p (l.take k)
 have h2:(l.take k).length≤k:=by rw[List.length_take];omega
 omega
def nW:Con:=⟨148,(.bP9 aE (.bP9 aU (.bP9 .bool .bool))),aA,[.val ⟨false,aE,[]⟩,.val ⟨false,aU,[]⟩,.val ⟨false,.bool,[]⟩,.val ⟨false,.bool,[]⟩],[⟨true,aA,[0,2,2,0,0,2,2,2,2,2,2,2,0,0]⟩],false,none,
 ((fun x=>aY aE x.1≤1000000000∧List.length x.2.1≤1000000000):(bO × ((List gI) × (Bool × Bool)))→Prop),
 ((fun x=>aAX x.1 x.2.1 x.2.2.1 x.2.2.2):(bO × ((List gI) × (Bool × Bool)))→(bC))⟩
def zL:T:=.call 0 (.p1 aE (.bP9 aU (.bP9 .bool .bool)) (.Z 0)) <|.call 1 (.Z 1) <|
 .bPA .not (.Z 2) <|
 .ite (.Z 3) (
  .ret (bG aA [(.ci .i64 0),(.nl 95 aP),(.nl 219 bD),(.cb false),(.cb false),(.nl 186 aD),(.nl 188 aB),(.nl 3 tI),(.nl 3 tI),(.nl 3 tI),(.nl 3 tI),(.nl 188 aB),(.ci .i64 0),(.cb false)])) (
  .bPA (.bPG 95 aP 16) (.bPB aU aU (.nl 95 aP) (aK (.bP9 aE (.bP9 aU (.bP9 .bool .bool))) 1 (.Z 0))) <|
  .call 2 (.Z 1) <|
  .ret (bG aA [(.ci .i64 0),(.Z 4),(.Z 1),(aK (.bP9 aE (.bP9 aU (.bP9 .bool .bool))) 2 (.Z 0)),(aQ (.bP9 aE (.bP9 aU (.bP9 .bool .bool))) 3 (.Z 0)),(.nl 186 aD),(.nl 188 aB),(.nl 3 tI),(.nl 3 tI),(.nl 3 tI),(.nl 3 tI),(.Z 5)]))
theorem aQQ:bN Tryz.prog [kJ,bT,mU] nW false 3000 ⟨[],[]⟩ = .ok zL:=by kernel_rfl
theorem aT3 (x:bO × ((List gI) × (Bool × Bool))) (hx:okD (.bP9 aE (.bP9 aU (.bP9 .bool .bool))) x) (hp:(fun x=>aY aE x.1≤1000000000∧List.length x.2.1≤1000000000) x):zL.wp [kJ,bT,mU] [⟨(.bP9 aE (.bP9 aU (.bP9 .bool .bool))),x⟩] [] (fun v=>v.as aA=(fun x=>aAX x.1 x.2.1 x.2.2.1 x.2.2.2) x):=by
 have hm:=(iD (t:=aE) hp.1)
 delta zL kJ bT mU;refine dD ?_
 refine dM ?_
 refine ⟨hp.1,fun _=>⟨fun h=>bDA h,fun h=>⟨⟨by have:=hp.2;omega,by have:=hp.2;unfold maxLen;omega⟩,fun _=>⟨⟨hm.1,fun o ho=>(hm.2 o ho).2.2.2.1⟩,fun _=>bDK h⟩⟩⟩⟩
theorem aQS:Con.Holds Tryz.prog nW:=aS aV (aH aIM (aH iI (aH aNP aT))) aQQ aT3
def oA:Con:=⟨141,(.bP9 aE (.bP9 aU (.bP9 .bool .bool))),aA,[.val ⟨false,aE,[]⟩,.val ⟨false,aU,[]⟩,.val ⟨false,.bool,[]⟩,.val ⟨false,.bool,[]⟩],[⟨true,aA,[0,2,2,0,0,2,2,2,2,2,2,2,0,0]⟩],false,none,
 ((fun x=>aY aE x.1≤1000000000∧List.length x.2.1≤1000000000):(bO × ((List gI) × (Bool × Bool)))→Prop),
 ((fun x=>aAX x.1 x.2.1 x.2.2.1 x.2.2.2):(bO × ((List gI) × (Bool × Bool)))→(bC))⟩
def zG:T:=.call 0 (.p1 aE (.bP9 aU (.bP9 .bool .bool)) (.Z 0)) <|
 .bPA .not (.Z 1) <|
 .ite (.Z 2) (
  .ret (bG aA [(.ci .i64 0),(.nl 95 aP),(.nl 219 bD),(.cb false),(.cb false),(.nl 186 aD),(.nl 188 aB),(.nl 3 tI),(.nl 3 tI),(.nl 3 tI),(.nl 3 tI),(.nl 188 aB),(.ci .i64 0),(.cb false)])) (
  .bPA (.bPG 95 aP 16) (.bPB aU aU (.nl 95 aP) (aK (.bP9 aE (.bP9 aU (.bP9 .bool .bool))) 1 (.Z 0))) <|
  .call 1 (.p1 aE (.bP9 aU (.bP9 .bool .bool)) (.Z 0)) <|
  .call 2 (.p1 aE (.bP9 aU (.bP9 .bool .bool)) (.Z 0)) <|
  .ret (bG aA [(.ci .i64 0),(.Z 3),(.Z 4),(aK (.bP9 aE (.bP9 aU (.bP9 .bool .bool))) 2 (.Z 0)),(aQ (.bP9 aE (.bP9 aU (.bP9 .bool .bool))) 3 (.Z 0)),(.nl 186 aD),(.nl 188 aB),(.nl 3 tI),(.nl 3 tI),(.nl 3 tI),(.nl 3 tI),(.Z 5)]))
theorem aSG:bN Tryz.prog [cD,lI,nD] oA false 3000 ⟨[],[]⟩ = .ok zG:=by kernel_rfl
theorem aQZ (x:bO × ((List gI) × (Bool × Bool))) (hx:okD (.bP9 aE (.bP9 aU (.bP9 .bool .bool))) x) (hp:(fun x=>aY aE x.1≤1000000000∧List.length x.2.1≤1000000000) x):zG.wp [cD,lI,nD] [⟨(.bP9 aE (.bP9 aU (.bP9 .bool .bool))),x⟩] [] (fun v=>v.as aA=(fun x=>aAX x.1 x.2.1 x.2.2.1 x.2.2.2) x):=by
 have hm:=(iD (t:=aE) hp.1)
 delta zG cD lI nD;refine dD ?_
 refine dM ?_
 refine ⟨fun h=>bDA h,fun h=>⟨⟨by have:=hp.2;omega,by have:=hp.2;unfold maxLen;omega⟩,fun _=>⟨hp.1,fun _=>⟨⟨hm.1,fun o ho=>(hm.2 o ho).2.2.2.1⟩,fun _=>bDK h⟩⟩⟩⟩
theorem aSV:Con.Holds Tryz.prog oA:=aS aV (aH kP (aH aL5 (aH aOQ aT))) aSG aQZ
def qR:Con:=⟨85,(.bP9 aC aM),aG,[.val ⟨true,aC,[]⟩,.val ⟨false,aM,[]⟩],[⟨true,aG,[2,2,2,2]⟩],false,none,
 ((fun x=>aY aC x.1≤100000000∧aY aM x.2≤100000000):(bI × dI)→Prop),
 ((fun x=>lG x.1 x.2):(bI × dI)→(bF))⟩
def aB8:T:=.call 0 (.Z 0) <|
 .bPA (.cmp .neq .i64) (.bPB tI tI (.Z 1) (.ci .i64 0)) <|
 .ite (.Z 2) (
  .ret (bG aG [(.nl 126 aI),(.nl 121 aA),(.nl 157 aO),(.nl 157 aO)])) (
  .call 1 (aQ (.bP9 aC aM) 1 (.Z 0)) <|
  .call 2 (.p1 aC aM (.Z 0)) <|
  .loop (.bP9 tI (.slice 121 aA)) (.bPB tI (.slice 121 aA) (.ci .i64 0) (.nl 121 aA)) <|
   .bPA (.cmp .lss .i64) (.bPB tI tI (.p1 tI (.slice 121 aA) (.Z 5)) (.Z 4)) <|
   .ite (.Z 6) (
    .call 3 (bG (.bP9 aE (.bP9 aB tI)) [(.p1 aE (.bP9 aB (.bP9 tI (.bP9 bW aI))) (.p1 aC aM (.Z 0))),(aK aC 1 (.p1 aC aM (.Z 0))),(.p1 tI (.slice 121 aA) (.Z 5))]) <|
    .bPA (.bPD 126 aI) (aQ (.bP9 aC aM) 1 (.Z 0)) <|
    .bPA (.bPE 4 .bool) (.bPB bW tI (aK aC 3 (.p1 aC aM (.Z 0))) (.p1 tI (.slice 121 aA) (.Z 5))) <|
    .call 4 (bG (.bP9 tI (.bP9 tI (.bP9 tI (.bP9 tI .bool)))) [(aK aC 2 (.p1 aC aM (.Z 0))),(.Z 4),(.p1 tI (.slice 121 aA) (.Z 5)),(.Z 8),(.Z 9)]) <|
    .bPA (.ar .sub .i64) (.bPB tI tI (.Z 4) (.ci .i64 1)) <|
    .bPA (.cmp .eql .i64) (.bPB tI tI (.p1 tI (.slice 121 aA) (.Z 5)) (.Z 11)) <|
    .bPA (.bPF 219 bD) (bG (.bP9 aE aP) [(.p1 aE (.bP9 aB (.bP9 tI (.bP9 bW aI))) (.p1 aC aM (.Z 0))),(.p1 tI tI (.Z 7)),(aQ aP 1 (.Z 7))]) <|
    .bPA (.bPE 4 .bool) (.bPB bW tI (aK aC 3 (.p1 aC aM (.Z 0))) (.p1 tI (.slice 121 aA) (.Z 5))) <|
    .call 5 (bG (.bP9 aE (.bP9 aU (.bP9 .bool .bool))) [(.Z 13),(.Z 10),(.Z 12),(.Z 14)]) <|
    .bPA (.lit 121 aA 1) (.Z 15) <|
    .bPA (.bPG 121 aA 248) (.bPB (.slice 121 aA) (.slice 121 aA) (aQ (.bP9 tI (.slice 121 aA)) 1 (.Z 5)) (.Z 16)) <|
    .bPA (.ar .add .i64) (.bPB tI tI (.p1 tI (.slice 121 aA) (.Z 5)) (.ci .i64 1)) <|
    .bPC 0 (.bPB tI (.slice 121 aA) (.Z 18) (.Z 17))) (
    .bPA (.bPD 3 tI) (aK aC 4 (.p1 aC aM (.Z 0))) <|
    .loop (.bP9 tI (.bP9 aL aL)) (bG (.bP9 tI (.bP9 aL aL)) [(.ci .i64 0),(.nl 157 aO),(.nl 157 aO)]) <|
     .bPA (.cmp .lss .i64) (.bPB tI tI (.p1 tI (.bP9 aL aL) (.Z 8)) (.Z 7)) <|
     .ite (.Z 9) (
      .bPA (.bPE 3 tI) (.bPB aB tI (aK aC 4 (.p1 aC aM (.Z 0))) (.p1 tI (.bP9 aL aL) (.Z 8))) <|
      .bPA (.lit 157 aO 1) (.bPB tI (.slice 161 aF) (.Z 10) (.nl 161 aF)) <|
      .bPA (.bPG 157 aO 32) (.bPB aL aL (aK (.bP9 tI (.bP9 aL aL)) 1 (.Z 8)) (.Z 11)) <|
      .bPA (.lit 157 aO 1) (.bPB tI (.slice 161 aF) (.Z 10) (.nl 161 aF)) <|
      .bPA (.bPG 157 aO 32) (.bPB aL aL (aQ (.bP9 tI (.bP9 aL aL)) 2 (.Z 8)) (.Z 13)) <|
      .bPA (.ar .add .i64) (.bPB tI tI (.p1 tI (.bP9 aL aL) (.Z 8)) (.ci .i64 1)) <|
      .bPC 0 (bG (.bP9 tI (.bP9 aL aL)) [(.Z 15),(.Z 12),(.Z 14)])) (
      .ret (bG aG [(.Z 3),(aQ (.bP9 tI (.slice 121 aA)) 1 (.Z 5)),(aQ (.bP9 tI (.bP9 aL aL)) 1 (.Z 8))]))))
theorem aX2:bN Tryz.prog [kF,iH,dP,dV,aAL,nW] qR false 3000 ⟨[(2984,2005,iL 22 18++iL 16 13++[.dr 0,.tm 7 0,.sl 13]),(2974,4008,[.dr 71]++iL 25 23++[.dr 7,.dr 6,.dr 2,.dr 1,.tm 74 0,.sl 14,.sl 15])],[(2972,6011,[67],[])]⟩ = .ok aB8:=by kernel_rfl
theorem aXL (x:bI × dI) (hx:okD (.bP9 aC aM) x) (hp:(fun x=>aY aC x.1≤100000000∧aY aM x.2≤100000000) x):aB8.wp [kF,iH,dP,dV,aAL,nW] [⟨(.bP9 aC aM),x⟩] [] (fun v=>v.as aG=(fun x=>lG x.1 x.2) x):=by
 obtain ⟨c,b⟩:=x
 obtain ⟨hp1,hp2⟩:aY aC c≤100000000∧aY aM b≤100000000:=hp
 have hcp:fF c:=xY (by omega)
 have hb1:List.length b≤aY aM b:=mM (e:=126) (t:=aI) b
 have hbm:∀ x∈b,List.length x.1≤1000000000∧List.length x.2≤1000000000:=fun x hx=>⟨((iD (t:=aM) (show aY aM b≤1000000000 by omega)).2 x hx).1.1,((iD (t:=aM) (show aY aM b≤1000000000 by omega)).2 x hx).2.1⟩
 have hmm:aY aE c.1≤aY aC c:=Nat.le_add_right _ _
 delta aB8 kF iH dP dV aAL nW;refine dD ?_
 refine dM ?_
 refine ⟨hcp,fun _=>⟨fun h=>bJJ h,fun h=>?_⟩⟩
 obtain ⟨a1,a2,a3,a4,a5,a6,a7,a8⟩:=aNK h
 have hcl:=aL6 a7
 refine ⟨by omega,fun _=>⟨⟨hcp.1,hcp.2.1⟩,fun _=>?_⟩⟩
 refine cJ (fun k=>((k:Int),mp k (fun s=>aDG c b.length (s:Int)))) (bS c.1 c.2.1).toNat rfl fun I μ k hk _ go=>?_
 dsimp only
 refine dM ?_
 have hr:=rT c.1 c.2.1 (k:Int)
 have hpl:=aHV c.2.2.1 (bS c.1 c.2.1) (k:Int) (b.length:Int) (List.getD c.2.2.2.1 k (aX .bool))
 have hml:=eM k (fun s=>aDG c b.length ((s:Nat):Int))
 have hmd:aY aE (List.drop (bE c.1 c.2.1 (k:Int)).1.toNat (List.take (bE c.1 c.2.1 (k:Int)).2.toNat c.1))≤1000000000:=Nat.le_trans (aZ8 _ _) (by omega)
 constructor
 ·intro hlt
  (repeat' first|intro _|(refine go _ ?_ ?_ ?_)|(refine go _ ?_ ?_)|(with_reducible apply And.intro))
  all_goals first|omega|(unfold maxLen;omega)|exact hcp.1|exact hcp.2.1|exact hmd|(rw[fN];rfl)|skip
 intro hge _
 rw[show k=(bS c.1 c.2.1).toNat by omega]
 clear go
 refine cJ (fun k=>((k:Int),mp k (yS c),mp k (yS c))) (List.length c.2.2.2.2.1) rfl fun I μ k hk _ go=>?_
 dsimp only
 refine dM ?_
 have hml:=eM k (yS c)
 constructor
 ·intro hlt
  (repeat' first|intro _|(refine go _ ?_ ?_ ?_)|(refine go _ ?_ ?_)|(with_reducible apply And.intro))
  all_goals first|omega|(unfold maxLen;omega)|(rw[fN];rfl)|skip
 ·intro hge
  rw[show k=List.length c.2.2.2.2.1 by omega]
  exact aT5 h
theorem aVS:Con.Holds Tryz.prog qR:=aS aV (aH aIF (aH aDK (aH rR (aH tL (aH bI1 (aH aQS aT)))))) aX2 aXL
def qW:Con:=⟨80,(.bP9 aC aM),aG,[.val ⟨true,aC,[]⟩,.val ⟨false,aM,[]⟩],[⟨true,aG,[2,2,2,2]⟩],false,none,
 ((fun x=>aY aC x.1≤100000000∧aY aM x.2≤100000000):(bI × dI)→Prop),
 ((fun x=>lG x.1 x.2):(bI × dI)→(bF))⟩
def aAJ:T:=.call 0 (.Z 0) <|
 .bPA (.cmp .neq .i64) (.bPB tI tI (.Z 1) (.ci .i64 0)) <|
 .ite (.Z 2) (
  .ret (bG aG [(.nl 126 aI),(.nl 121 aA),(.nl 157 aO),(.nl 157 aO)])) (
  .call 1 (.p1 aC aM (.Z 0)) <|
  .loop (.bP9 tI aM) (.bPB tI aM (.ci .i64 0) (.nl 126 aI)) <|
   .bPA (.bPD 126 aI) (aQ (.bP9 aC aM) 1 (.Z 0)) <|
   .bPA (.cmp .lss .i64) (.bPB tI tI (.p1 tI aM (.Z 4)) (.Z 5)) <|
   .ite (.Z 6) (
    .bPA (.bPE 126 aI) (.bPB aM tI (aQ (.bP9 aC aM) 1 (.Z 0)) (.p1 tI aM (.Z 4))) <|
    .bPA (.bPE 126 aI) (.bPB aM tI (aQ (.bP9 aC aM) 1 (.Z 0)) (.p1 tI aM (.Z 4))) <|
    .bPA (.bPG 3 tI 8) (.bPB aB aB (.nl 3 tI) (.p1 aB aB (.Z 7))) <|
    .bPA (.bPG 3 tI 8) (.bPB aB aB (.nl 3 tI) (aQ aI 1 (.Z 8))) <|
    .bPA (.lit 126 aI 1) (.bPB aB aB (.Z 9) (.Z 10)) <|
    .bPA (.bPG 126 aI 48) (.bPB aM aM (aQ (.bP9 tI aM) 1 (.Z 4)) (.Z 11)) <|
    .bPA (.ar .add .i64) (.bPB tI tI (.p1 tI aM (.Z 4)) (.ci .i64 1)) <|
    .bPC 0 (.bPB tI aM (.Z 13) (.Z 12))) (
    .loop (.bP9 tI (.bP9 (.slice 121 aA) (.bP9 aL aL))) (bG (.bP9 tI (.bP9 (.slice 121 aA) (.bP9 aL aL))) [(.ci .i64 0),(.nl 121 aA),(.nl 157 aO),(.nl 157 aO)]) <|
     .bPA (.cmp .lss .i64) (.bPB tI tI (.p1 tI (.bP9 (.slice 121 aA) (.bP9 aL aL)) (.Z 7)) (.Z 3)) <|
     .ite (.Z 8) (
      .call 2 (bG (.bP9 aE (.bP9 aB tI)) [(.p1 aE (.bP9 aB (.bP9 tI (.bP9 bW aI))) (.p1 aC aM (.Z 0))),(aK aC 1 (.p1 aC aM (.Z 0))),(.p1 tI (.bP9 (.slice 121 aA) (.bP9 aL aL)) (.Z 7))]) <|
      .bPA (.ar .sub .i64) (.bPB tI tI (.Z 3) (.ci .i64 1)) <|
      .bPA (.cmp .eql .i64) (.bPB tI tI (.p1 tI (.bP9 (.slice 121 aA) (.bP9 aL aL)) (.Z 7)) (.Z 10)) <|
      .bPA (.bPF 219 bD) (bG (.bP9 aE aP) [(.p1 aE (.bP9 aB (.bP9 tI (.bP9 bW aI))) (.p1 aC aM (.Z 0))),(.p1 tI tI (.Z 9)),(aQ aP 1 (.Z 9))]) <|
      .bPA (.bPD 126 aI) (aQ (.bP9 aC aM) 1 (.Z 0)) <|
      .bPA (.bPE 4 .bool) (.bPB bW tI (aK aC 3 (.p1 aC aM (.Z 0))) (.p1 tI (.bP9 (.slice 121 aA) (.bP9 aL aL)) (.Z 7))) <|
      .bPA (.bPE 4 .bool) (.bPB bW tI (aK aC 3 (.p1 aC aM (.Z 0))) (.p1 tI (.bP9 (.slice 121 aA) (.bP9 aL aL)) (.Z 7))) <|
      .call 3 (bG (.bP9 tI (.bP9 tI (.bP9 tI (.bP9 tI .bool)))) [(aK aC 2 (.p1 aC aM (.Z 0))),(.Z 3),(.p1 tI (.bP9 (.slice 121 aA) (.bP9 aL aL)) (.Z 7)),(.Z 13),(.Z 14)]) <|
      .call 4 (bG (.bP9 aE (.bP9 aU (.bP9 .bool .bool))) [(.Z 12),(.Z 16),(.Z 11),(.Z 15)]) <|
      .bPA (.lit 121 aA 1) (.Z 17) <|
      .bPA (.bPG 121 aA 248) (.bPB (.slice 121 aA) (.slice 121 aA) (aK (.bP9 tI (.bP9 (.slice 121 aA) (.bP9 aL aL))) 1 (.Z 7)) (.Z 18)) <|
      .bPA (.cmp .gtr .i64) (.bPB tI tI (.p1 tI (.bP9 (.slice 121 aA) (.bP9 aL aL)) (.Z 7)) (.ci .i64 0)) <|
      .ite (.Z 20) (
       .bPA (.ar .sub .i64) (.bPB tI tI (.p1 tI (.bP9 (.slice 121 aA) (.bP9 aL aL)) (.Z 7)) (.ci .i64 1)) <|
       .bPA (.bPE 3 tI) (.bPB aB tI (aK aC 4 (.p1 aC aM (.Z 0))) (.Z 21)) <|
       .bPA (.lit 157 aO 1) (.bPB tI (.slice 161 aF) (.Z 22) (.nl 161 aF)) <|
       .bPA (.bPG 157 aO 32) (.bPB aL aL (aK (.bP9 tI (.bP9 (.slice 121 aA) (.bP9 aL aL))) 2 (.Z 7)) (.Z 23)) <|
       .bPA (.ar .sub .i64) (.bPB tI tI (.p1 tI (.bP9 (.slice 121 aA) (.bP9 aL aL)) (.Z 7)) (.ci .i64 1)) <|
       .bPA (.bPE 3 tI) (.bPB aB tI (aK aC 4 (.p1 aC aM (.Z 0))) (.Z 25)) <|
       .bPA (.lit 157 aO 1) (.bPB tI (.slice 161 aF) (.Z 26) (.nl 161 aF)) <|
       .bPA (.bPG 157 aO 32) (.bPB aL aL (aQ (.bP9 tI (.bP9 (.slice 121 aA) (.bP9 aL aL))) 3 (.Z 7)) (.Z 27)) <|
       .bPA (.ar .add .i64) (.bPB tI tI (.p1 tI (.bP9 (.slice 121 aA) (.bP9 aL aL)) (.Z 7)) (.ci .i64 1)) <|
       .bPC 0 (bG (.bP9 tI (.bP9 (.slice 121 aA) (.bP9 aL aL))) [(.Z 29),(.Z 19),(.Z 24),(.Z 28)])) (
       .bPA (.ar .add .i64) (.bPB tI tI (.p1 tI (.bP9 (.slice 121 aA) (.bP9 aL aL)) (.Z 7)) (.ci .i64 1)) <|
       .bPC 0 (bG (.bP9 tI (.bP9 (.slice 121 aA) (.bP9 aL aL))) [(.Z 21),(.Z 19),(aQ (.bP9 tI (.bP9 (.slice 121 aA) (.bP9 aL aL))) 2 (.Z 7))]))) (
      .ret (.bPB aM (.bP9 (.slice 121 aA) (.bP9 aL aL)) (aQ (.bP9 tI aM) 1 (.Z 4)) (aQ (.bP9 tI (.bP9 (.slice 121 aA) (.bP9 aL aL))) 1 (.Z 7))))))
theorem aVG:bN Tryz.prog [nN,oM,cV,aC6,oA] qW false 3000 ⟨[(2984,2004,[.dr 18,.dr 17]++iL 15 11++[.dr 0,.tm 7 0,.sl 12]),(2974,4007,iL 22 19++[.dr 7,.tm 8 0,.sl 13,.sl 14,.sl 15])],[(2976,6007,[40,33],[]),(2963,12010,[88],[])]⟩ = .ok aAJ:=by kernel_rfl
theorem aU9 (x:bI × dI) (hx:okD (.bP9 aC aM) x) (hp:(fun x=>aY aC x.1≤100000000∧aY aM x.2≤100000000) x):aAJ.wp [nN,oM,cV,aC6,oA] [⟨(.bP9 aC aM),x⟩] [] (fun v=>v.as aG=(fun x=>lG x.1 x.2) x):=by
 obtain ⟨c,b⟩:=x
 obtain ⟨hp1,hp2⟩:aY aC c≤100000000∧aY aM b≤100000000:=hp
 have hcp:fF c:=xY (by omega)
 have hb1:List.length b≤aY aM b:=mM (e:=126) (t:=aI) b
 have hbm:∀ x∈b,List.length x.1≤1000000000∧List.length x.2≤1000000000:=fun x hx=>⟨((iD (t:=aM) (show aY aM b≤1000000000 by omega)).2 x hx).1.1,((iD (t:=aM) (show aY aM b≤1000000000 by omega)).2 x hx).2.1⟩
 have hmm:aY aE c.1≤aY aC c:=Nat.le_add_right _ _
 delta aAJ nN oM cV aC6 oA;refine dD ?_
 refine dM ?_
 refine ⟨hcp,fun _=>⟨fun h=>bJJ h,fun h=>?_⟩⟩
 obtain ⟨a1,a2,a3,a4,a5,a6,a7,a8⟩:=aNK h
 have hcl:=aL6 a7
 refine ⟨⟨hcp.1,hcp.2.1⟩,fun _=>?_⟩
 refine cJ (fun k=>((k:Int),List.take k b)) (List.length b) rfl fun I μ k hk _ go=>?_
 dsimp only
 refine dM ?_
 intro _
 constructor
 ·intro hlt
  have hk':k<List.length b:=by omega
  have hm:=hbm _ (List.getElem_mem hk')
  simp only[aZ hk']
  (repeat' first|intro _|(refine go _ ?_ ?_ ?_)|(refine go _ ?_ ?_)|(with_reducible apply And.intro))
  all_goals first|omega|(with_reducible exact hm.1)|(with_reducible exact hm.2)|(unfold maxLen;omega)|(simp only[List.length_take];unfold maxLen;omega)|(simp only[List.length_take];omega)|(rw[jF hk'];rfl)
 intro hge
 rw[show List.take k b=b from List.take_of_length_le (by omega)]
 clear go
 refine cJ (fun k=>((k:Int),mp k (fun s=>aDG c b.length (s:Int)),mp (k - 1) (yS c),mp (k - 1) (yS c))) (bS c.1 c.2.1).toNat rfl fun I μ k hk _ go=>?_
 dsimp only
 refine dM ?_
 have hr:=rT c.1 c.2.1 (k:Int)
 have hpl:=aHV c.2.2.1 (bS c.1 c.2.1) (k:Int) (b.length:Int) (List.getD c.2.2.2.1 k (aX .bool))
 have hml:=eM k (fun s=>aDG c b.length ((s:Nat):Int))
 have hml2:=eM (k - 1) (yS c)
 have hmd:aY aE (List.drop (bE c.1 c.2.1 (k:Int)).1.toNat (List.take (bE c.1 c.2.1 (k:Int)).2.toNat c.1))≤1000000000:=Nat.le_trans (aZ8 _ _) (by omega)
 have e2:0<k→mp k (yS c)=mp (k - 1) (yS c)++[yS c (k - 1)]:=fun h0=>by rw[← fN,Nat.sub_add_cancel h0]
 have e3:¬ 0<k→mp k (yS c)=mp (k - 1) (yS c):=fun h0=>by rw[show k - 1=k by omega]
 constructor
 ·intro hlt
  (repeat' first|intro _|(refine go _ ?_ ?_ ?_)|(refine go _ ?_ ?_)|(with_reducible apply And.intro))
  all_goals first|omega|(unfold maxLen;omega)|exact hcp.1|exact hcp.2.1|exact hmd|skip
  all_goals show _=((((k+1:Nat):Int)),mp (k+1) (fun s=>aDG c b.length ((s:Nat):Int)),mp k (yS c),mp k (yS c))
  all_goals rw[fN]
  all_goals first|(rw[e2 (by omega)];rfl)|(rw[e3 (by omega)];rfl)|skip
 ·intro hge
  have ek:k=(bS c.1 c.2.1).toNat:=by omega
  have ec:k - 1=List.length c.2.2.2.2.1:=by omega
  rw[ec,ek]
  exact aT5 h
theorem aX1:Con.Holds Tryz.prog qW:=aS aV (aH aPR (aH aQW (aH oF (aH bKL (aH aSV aT))))) aVG aU9
def qG:Con:=⟨53,aG,(.bP9 aG aB),[.val ⟨true,aG,[]⟩],[⟨true,aG,[0,0,0,0]⟩,⟨false,aB,[0]⟩],false,none,
 ((fun x=>aY aG x≤100000000):(bF)→Prop),
 ((fun x=>(uP x (fW x),fW x)):(bF)→(bF × cF))⟩
def aBT:T:=.call 0 (.Z 0) <|.call 1 (.Z 0) <|
 .bPA (.bPD 3 tI) (.Z 1) <|
 .loop (.bP9 tI aG) (.bPB tI aG (.ci .i64 0) (.Z 2)) <|
  .bPA (.cmp .lss .i64) (.bPB tI tI (.p1 tI aG (.Z 4)) (.Z 3)) <|
  .ite (.Z 5) (
   .bPA (.bPE 3 tI) (.bPB aB tI (.Z 1) (.p1 tI aG (.Z 4))) <|
   .bPA (.bPE 3 tI) (.bPB aB tI (.Z 1) (.p1 tI aG (.Z 4))) <|
   .call 2 (.bPB aG tI (aQ (.bP9 tI aG) 1 (.Z 4)) (.Z 7)) <|
   .bPA (.ar .add .i64) (.bPB tI tI (.p1 tI aG (.Z 4)) (.ci .i64 1)) <|
   .bPC 0 (.bPB tI aG (.Z 9) (.Z 8))) (
   .ret (.bPB aG aB (aQ (.bP9 tI aG) 1 (.Z 4)) (.Z 1)))
theorem aWU:bN Tryz.prog [lQ,jE,aBO] qG false 3000 ⟨[(2989,1004,iL 10 7++[.dr 0,.tm 13 0,.fz 8,.fz 9,.fz 10,.fz 11,.bx 1 0,.dk 8,.bx 1 1,.dk 9,.bx 1 2,.dk 10,.bx 1 3,.dk 11])],[]⟩ = .ok aBT:=by kernel_rfl
theorem aWK (x:bF) (hx:okD aG x) (hp:(fun x=>aY aG x≤100000000) x):aBT.wp [lQ,jE,aBO] [⟨aG,x⟩] [] (fun v=>v.as (.bP9 aG aB)=(fun x=>(uP x (fW x),fW x)) x):=by
 have hp:aY aG x≤100000000:=hp
 have hw:=aCR x
 delta aBT lQ jE aBO;refine dD ?_
 (refine dM ?_;try with_reducible exact True.intro)
 (repeat' first|intro _|(with_reducible apply And.intro))
 all_goals first|omega|skip
 refine cJ (fun k=>((k:Int),uP x (List.take k (fW x)))) (List.length (fW x)) rfl fun I μ k hk _ go=>?_
 dsimp only
 refine dM ?_
 have hz:=bDE (p:=x) (fW x) k (by omega) hp
 by_cases hk':k<List.length (fW x)
 ·simp only[aZ hk']
  (repeat' first|intro _|(refine go _ ?_ ?_ ?_)|(refine go _ ?_ ?_)|(with_reducible apply And.intro))
  all_goals first|omega|exact hz|(rw[aPZ hk'];rfl)|skip
 ·(repeat' first|intro _|(refine go _ ?_ ?_ ?_)|(refine go _ ?_ ?_)|(with_reducible apply And.intro))
  all_goals first|omega|(rw[List.take_of_length_le (by omega)])|skip
theorem aUM:Con.Holds Tryz.prog qG:=aS aV (aH aMP (aH aG9 (aH bIJ aT))) aWU aWK
def qH:Con:=⟨95,aG,(.bP9 aG aB),[.val ⟨true,aG,[]⟩],[⟨true,aG,[0,0,0,0]⟩,⟨false,aB,[0]⟩],true,none,
 ((fun x=>aY aG x≤100000000):(bF)→Prop),
 ((fun x=>(uP x (fW x),fW x)):(bF)→(bF × cF))⟩
def aC7:T:=.call 0 (.Z 0) <|.call 1 (.Z 0) <|.loop (.bP9 tI aG) (.bPB tI aG (.ci .i64 0) (.Z 2)) <|
 .bPA (.bPD 3 tI) (.Z 1) <|
 .bPA (.cmp .lss .i64) (.bPB tI tI (.p1 tI aG (.Z 3)) (.Z 4)) <|
 .ite (.Z 5) (
  .bPA (.bPE 3 tI) (.bPB aB tI (.Z 1) (.p1 tI aG (.Z 3))) <|
  .bPA (.bPE 3 tI) (.bPB aB tI (.Z 1) (.p1 tI aG (.Z 3))) <|
  .call 2 (.bPB aG tI (aQ (.bP9 tI aG) 1 (.Z 3)) (.Z 7)) <|
  .bPA (.ar .add .i64) (.bPB tI tI (.p1 tI aG (.Z 3)) (.ci .i64 1)) <|
  .bPC 0 (.bPB tI aG (.Z 9) (.Z 8))) (
  .ret (.bPB aG aB (aQ (.bP9 tI aG) 1 (.Z 3)) (.Z 1)))
theorem aUN:bN Tryz.prog [lU,kL,aCN] qH false 3000 ⟨[(2989,1003,iL 10 7++[.dr 1,.dr 0,.tm 6 0,.fz 8,.fz 9,.fz 10,.fz 11,.nb 12,.bx 12 0,.dk 8,.bx 12 1,.dk 9,.bx 12 2,.dk 10,.bx 12 3,.dk 11])],[]⟩ = .ok aC7:=by kernel_rfl
theorem aTH (x:bF) (hx:okD aG x) (hp:(fun x=>aY aG x≤100000000) x):aC7.wp [lU,kL,aCN] [⟨aG,x⟩] [] (fun v=>v.as (.bP9 aG aB)=(fun x=>(uP x (fW x),fW x)) x):=by
 have hp:aY aG x≤100000000:=hp
 have hw:=aCR x
 delta aC7 lU kL aCN;refine dD ?_
 (refine dM ?_;try with_reducible exact True.intro)
 (repeat' first|intro _|(with_reducible apply And.intro))
 all_goals first|omega|skip
 refine cJ (fun k=>((k:Int),uP x (List.take k (fW x)))) (List.length (fW x)) rfl fun I μ k hk _ go=>?_
 dsimp only
 refine dM ?_
 have hz:=bDE (p:=x) (fW x) k (by omega) hp
 by_cases hk':k<List.length (fW x)
 ·simp only[aZ hk']
  (repeat' first|intro _|(refine go _ ?_ ?_ ?_)|(refine go _ ?_ ?_)|(with_reducible apply And.intro))
  all_goals first|omega|exact hz|(rw[aPZ hk'];rfl)|skip
 ·(repeat' first|intro _|(refine go _ ?_ ?_ ?_)|(refine go _ ?_ ?_)|(with_reducible apply And.intro))
  all_goals first|omega|(rw[List.take_of_length_le (by omega)])|skip
theorem aV0:Con.Holds Tryz.prog qH:=aS aV (aH aLZ (aH aJ1 (aH bI7 aT))) aUN aTH
end
end Go.Proofs.YtmfpkkbhnmkfdaaGreat
