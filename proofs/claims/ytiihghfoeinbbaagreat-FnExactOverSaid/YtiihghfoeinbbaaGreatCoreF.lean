/- CoreF: lemmas. No conditions. -/
import Derived.Test.YtiihghfoeinbbaaGreatCore7
namespace Go.Proofs.YtiihghfoeinbbaaGreat
set_option maxRecDepth 100000
open Go.ChangeShapes Go.WideShapes Go.ChangeAt Go.RowKit Go.Deep
set_option linter.unusedVariables false
set_option linter.unusedSimpArgs false
noncomputable def nK:Con:=⟨171,(.bMC aA (.bMC tI aI)),aA,[.val ⟨true,aA,[]⟩,.val ⟨false,tI,[]⟩,.val ⟨false,aB,[]⟩,.val ⟨false,aB,[]⟩],[⟨true,aA,[0,2,2,0,0,2,2,2,2,2,2,2,0,0]⟩],false,none,
 ((fun x=>bD aA x.1≤1000000000):(bC × (Int × bW))→Prop),
 ((fun x=>zX x.1 x.2.1 x.2.2.1 x.2.2.2):(bC × (Int × bW))→(bC))⟩
def xE:T:=.call 0 (.p1 aA (.bMC tI aI) (.Z 0)) <|.call 1 (.p1 aA (.bMC tI aI) (.Z 0)) <|.call 2 (.p1 aA (.bMC tI aI) (.Z 0)) <|
 .bMD .not (.Z 3) <|
 .ite (.Z 4) (
  .ret (.Z 1)) (
  .call 3 (.Z 2) <|
  .call 4 (.bME aB tI (aJ (.bMC aA (.bMC tI aI)) 2 (.Z 0)) (.Z 5)) <|
  .bMD .not (.Z 6) <|
  .ite (.Z 7) (
   .ret (.Z 1)) (
   .call 5 (.bME (.slice 206 aD) tI (aJ aA 5 (.p1 aA (.bMC tI aI) (.Z 0))) (aJ (.bMC aA (.bMC tI aI)) 1 (.Z 0))) <|
   .bMD (.cmp .geq .i64) (.bME tI tI (.Z 8) (.ci .i64 0)) <|
   .ite (.Z 9) (
    .ret (.Z 1)) (
    .ite (aJ aA 3 (.p1 aA (.bMC tI aI) (.Z 0))) (
     .call 6 (.Z 2) <|
     .call 4 (.bME aB tI (aQ (.bMC aA (.bMC tI aI)) 3 (.Z 0)) (.Z 10)) <|
     .bMD .not (.Z 11) <|
     .ite (.Z 12) (
      .ret (.Z 1)) (
      .call 7 (.bME aE aB (.Z 2) (aJ (.bMC aA (.bMC tI aI)) 2 (.Z 0))) <|
      .bMD (.bMG 146 bA) (aJ aA 2 (.p1 aA (.bMC tI aI) (.Z 0))) <|
      .bMD (.bMH 156 aB) (.bME aH tI (.p1 aH .bool (.Z 13)) (.Z 14)) <|
      .bMD (.bMH 156 aB) (.bME aH tI (.p1 aH .bool (.Z 13)) (.Z 14)) <|
      .ite (aJ aA 4 (.p1 aA (.bMC tI aI) (.Z 0))) (
       .bMD (.bMI 156 aB) (bE (.bMC aH aO) [(.p1 aH .bool (.Z 13)),(.ci .i64 0),(.ci .i64 1)]) <|
       .call 8 (.Z 17) <|
       .bMD (.lit 206 aD 1) (.bME tI aH (aJ (.bMC aA (.bMC tI aI)) 1 (.Z 0)) (.Z 18)) <|
       .bMD (.bMJ 206 aD 32) (.bME (.slice 206 aD) (.slice 206 aD) (aJ aA 5 (.Z 1)) (.Z 19)) <|
       .ite (aQ aA 13 (.Z 1)) (
        .bMD .not (aJ aA 3 (.p1 aA (.bMC tI aI) (.Z 0))) <|
        .ite (.Z 21) (
         .call 9 (.Z 16) <|
         .ret (bE aA [(.p1 tI cY (.Z 1)),(aJ aA 1 (.Z 1)),(aJ aA 2 (.Z 1)),(aJ aA 3 (.Z 1)),(aJ aA 4 (.Z 1)),(.Z 20),(aJ aA 6 (.Z 1)),(.nl 3 tI),(.Z 22),(aJ aA 9 (.Z 1)),(aJ aA 10 (.Z 1)),(aJ aA 11 (.Z 1)),(aJ aA 12 (.Z 1)),(.cb true)])) (
         .call 10 (.bME aB aB (.Z 16) (aQ (.bMC aA (.bMC tI aI)) 3 (.Z 0))) <|
         .call 11 (.bME tI tI (aJ aA 12 (.Z 1)) (.p1 tI .bool (.Z 22))) <|
         .ret (bE aA [(.p1 tI cY (.Z 1)),(aJ aA 1 (.Z 1)),(aJ aA 2 (.Z 1)),(aJ aA 3 (.Z 1)),(aJ aA 4 (.Z 1)),(.Z 20),(aJ aA 6 (.Z 1)),(.nl 3 tI),(aJ aA 8 (.Z 1)),(aJ aA 9 (.Z 1)),(aJ aA 10 (.Z 1)),(aJ aA 11 (.Z 1)),(.p1 tI .bool (.Z 23)),(.cb true)]))) (
        .bMD .not (aJ aA 3 (.p1 aA (.bMC tI aI) (.Z 0))) <|
        .ite (.Z 21) (
         .call 9 (.Z 16) <|
         .ret (bE aA [(.p1 tI cY (.Z 1)),(aJ aA 1 (.Z 1)),(aJ aA 2 (.Z 1)),(aJ aA 3 (.Z 1)),(aJ aA 4 (.Z 1)),(.Z 20),(aJ aA 6 (.Z 1)),(.nl 3 tI),(.Z 22),(aJ aA 9 (.Z 1)),(aJ aA 10 (.Z 1)),(aJ aA 11 (.Z 1)),(aJ aA 12 (.Z 1)),(aQ (.bMC aH .bool) 1 (.Z 13))])) (
         .call 10 (.bME aB aB (.Z 16) (aQ (.bMC aA (.bMC tI aI)) 3 (.Z 0))) <|
         .call 11 (.bME tI tI (aJ aA 12 (.Z 1)) (.p1 tI .bool (.Z 22))) <|
         .ite (aQ (.bMC aH .bool) 1 (.Z 13)) (
          .ret (bE aA [(.p1 tI cY (.Z 1)),(aJ aA 1 (.Z 1)),(aJ aA 2 (.Z 1)),(aJ aA 3 (.Z 1)),(aJ aA 4 (.Z 1)),(.Z 20),(aJ aA 6 (.Z 1)),(.nl 3 tI),(aJ aA 8 (.Z 1)),(aJ aA 9 (.Z 1)),(aJ aA 10 (.Z 1)),(aJ aA 11 (.Z 1)),(.p1 tI .bool (.Z 23)),(.cb true)])) (
          .ite (aQ (.bMC tI .bool) 1 (.Z 22)) (
           .ret (bE aA [(.p1 tI cY (.Z 1)),(aJ aA 1 (.Z 1)),(aJ aA 2 (.Z 1)),(aJ aA 3 (.Z 1)),(aJ aA 4 (.Z 1)),(.Z 20),(aJ aA 6 (.Z 1)),(.nl 3 tI),(aJ aA 8 (.Z 1)),(aJ aA 9 (.Z 1)),(aJ aA 10 (.Z 1)),(aJ aA 11 (.Z 1)),(.p1 tI .bool (.Z 23)),(.cb true)])) (
           .ret (bE aA [(.p1 tI cY (.Z 1)),(aJ aA 1 (.Z 1)),(aJ aA 2 (.Z 1)),(aJ aA 3 (.Z 1)),(aJ aA 4 (.Z 1)),(.Z 20),(aJ aA 6 (.Z 1)),(.nl 3 tI),(aJ aA 8 (.Z 1)),(aJ aA 9 (.Z 1)),(aJ aA 10 (.Z 1)),(aJ aA 11 (.Z 1)),(.Z 23)])))))) (
       .call 8 (.p1 aH .bool (.Z 13)) <|
       .bMD (.lit 206 aD 1) (.bME tI aH (aJ (.bMC aA (.bMC tI aI)) 1 (.Z 0)) (.Z 17)) <|
       .bMD (.bMJ 206 aD 32) (.bME (.slice 206 aD) (.slice 206 aD) (aJ aA 5 (.Z 1)) (.Z 18)) <|
       .ite (aQ aA 13 (.Z 1)) (
        .bMD .not (aJ aA 3 (.p1 aA (.bMC tI aI) (.Z 0))) <|
        .ite (.Z 20) (
         .call 9 (.Z 16) <|
         .ret (bE aA [(.p1 tI cY (.Z 1)),(aJ aA 1 (.Z 1)),(aJ aA 2 (.Z 1)),(aJ aA 3 (.Z 1)),(aJ aA 4 (.Z 1)),(.Z 19),(aJ aA 6 (.Z 1)),(.nl 3 tI),(.Z 21),(aJ aA 9 (.Z 1)),(aJ aA 10 (.Z 1)),(aJ aA 11 (.Z 1)),(aJ aA 12 (.Z 1)),(.cb true)])) (
         .call 10 (.bME aB aB (.Z 16) (aQ (.bMC aA (.bMC tI aI)) 3 (.Z 0))) <|
         .call 11 (.bME tI tI (aJ aA 12 (.Z 1)) (.p1 tI .bool (.Z 21))) <|
         .ret (bE aA [(.p1 tI cY (.Z 1)),(aJ aA 1 (.Z 1)),(aJ aA 2 (.Z 1)),(aJ aA 3 (.Z 1)),(aJ aA 4 (.Z 1)),(.Z 19),(aJ aA 6 (.Z 1)),(.nl 3 tI),(aJ aA 8 (.Z 1)),(aJ aA 9 (.Z 1)),(aJ aA 10 (.Z 1)),(aJ aA 11 (.Z 1)),(.p1 tI .bool (.Z 22)),(.cb true)]))) (
        .bMD .not (aJ aA 3 (.p1 aA (.bMC tI aI) (.Z 0))) <|
        .ite (.Z 20) (
         .call 9 (.Z 16) <|
         .ret (bE aA [(.p1 tI cY (.Z 1)),(aJ aA 1 (.Z 1)),(aJ aA 2 (.Z 1)),(aJ aA 3 (.Z 1)),(aJ aA 4 (.Z 1)),(.Z 19),(aJ aA 6 (.Z 1)),(.nl 3 tI),(.Z 21),(aJ aA 9 (.Z 1)),(aJ aA 10 (.Z 1)),(aJ aA 11 (.Z 1)),(aJ aA 12 (.Z 1)),(aQ (.bMC aH .bool) 1 (.Z 13))])) (
         .call 10 (.bME aB aB (.Z 16) (aQ (.bMC aA (.bMC tI aI)) 3 (.Z 0))) <|
         .call 11 (.bME tI tI (aJ aA 12 (.Z 1)) (.p1 tI .bool (.Z 21))) <|
         .ite (aQ (.bMC aH .bool) 1 (.Z 13)) (
          .ret (bE aA [(.p1 tI cY (.Z 1)),(aJ aA 1 (.Z 1)),(aJ aA 2 (.Z 1)),(aJ aA 3 (.Z 1)),(aJ aA 4 (.Z 1)),(.Z 19),(aJ aA 6 (.Z 1)),(.nl 3 tI),(aJ aA 8 (.Z 1)),(aJ aA 9 (.Z 1)),(aJ aA 10 (.Z 1)),(aJ aA 11 (.Z 1)),(.p1 tI .bool (.Z 22)),(.cb true)])) (
          .ite (aQ (.bMC tI .bool) 1 (.Z 21)) (
           .ret (bE aA [(.p1 tI cY (.Z 1)),(aJ aA 1 (.Z 1)),(aJ aA 2 (.Z 1)),(aJ aA 3 (.Z 1)),(aJ aA 4 (.Z 1)),(.Z 19),(aJ aA 6 (.Z 1)),(.nl 3 tI),(aJ aA 8 (.Z 1)),(aJ aA 9 (.Z 1)),(aJ aA 10 (.Z 1)),(aJ aA 11 (.Z 1)),(.p1 tI .bool (.Z 22)),(.cb true)])) (
           .ret (bE aA [(.p1 tI cY (.Z 1)),(aJ aA 1 (.Z 1)),(aJ aA 2 (.Z 1)),(aJ aA 3 (.Z 1)),(aJ aA 4 (.Z 1)),(.Z 19),(aJ aA 6 (.Z 1)),(.nl 3 tI),(aJ aA 8 (.Z 1)),(aJ aA 9 (.Z 1)),(aJ aA 10 (.Z 1)),(aJ aA 11 (.Z 1)),(.Z 22)])))))))) (
     .call 7 (.bME aE aB (.Z 2) (aJ (.bMC aA (.bMC tI aI)) 2 (.Z 0))) <|
     .bMD (.bMG 146 bA) (aJ aA 2 (.p1 aA (.bMC tI aI) (.Z 0))) <|
     .bMD (.bMH 156 aB) (.bME aH tI (.p1 aH .bool (.Z 10)) (.Z 11)) <|
     .bMD (.bMH 156 aB) (.bME aH tI (.p1 aH .bool (.Z 10)) (.Z 11)) <|
     .ite (aJ aA 4 (.p1 aA (.bMC tI aI) (.Z 0))) (
      .bMD (.bMI 156 aB) (bE (.bMC aH aO) [(.p1 aH .bool (.Z 10)),(.ci .i64 0),(.ci .i64 1)]) <|
      .call 8 (.Z 14) <|
      .bMD (.lit 206 aD 1) (.bME tI aH (aJ (.bMC aA (.bMC tI aI)) 1 (.Z 0)) (.Z 15)) <|
      .bMD (.bMJ 206 aD 32) (.bME (.slice 206 aD) (.slice 206 aD) (aJ aA 5 (.Z 1)) (.Z 16)) <|
      .ite (aQ aA 13 (.Z 1)) (
       .bMD .not (aJ aA 3 (.p1 aA (.bMC tI aI) (.Z 0))) <|
       .ite (.Z 18) (
        .call 9 (.Z 13) <|
        .ret (bE aA [(.p1 tI cY (.Z 1)),(aJ aA 1 (.Z 1)),(aJ aA 2 (.Z 1)),(aJ aA 3 (.Z 1)),(aJ aA 4 (.Z 1)),(.Z 17),(aJ aA 6 (.Z 1)),(.nl 3 tI),(.Z 19),(aJ aA 9 (.Z 1)),(aJ aA 10 (.Z 1)),(aJ aA 11 (.Z 1)),(aJ aA 12 (.Z 1)),(.cb true)])) (
        .call 10 (.bME aB aB (.Z 13) (aQ (.bMC aA (.bMC tI aI)) 3 (.Z 0))) <|
        .call 11 (.bME tI tI (aJ aA 12 (.Z 1)) (.p1 tI .bool (.Z 19))) <|
        .ret (bE aA [(.p1 tI cY (.Z 1)),(aJ aA 1 (.Z 1)),(aJ aA 2 (.Z 1)),(aJ aA 3 (.Z 1)),(aJ aA 4 (.Z 1)),(.Z 17),(aJ aA 6 (.Z 1)),(.nl 3 tI),(aJ aA 8 (.Z 1)),(aJ aA 9 (.Z 1)),(aJ aA 10 (.Z 1)),(aJ aA 11 (.Z 1)),(.p1 tI .bool (.Z 20)),(.cb true)]))) (
       .bMD .not (aJ aA 3 (.p1 aA (.bMC tI aI) (.Z 0))) <|
       .ite (.Z 18) (
        .call 9 (.Z 13) <|
        .ret (bE aA [(.p1 tI cY (.Z 1)),(aJ aA 1 (.Z 1)),(aJ aA 2 (.Z 1)),(aJ aA 3 (.Z 1)),(aJ aA 4 (.Z 1)),(.Z 17),(aJ aA 6 (.Z 1)),(.nl 3 tI),(.Z 19),(aJ aA 9 (.Z 1)),(aJ aA 10 (.Z 1)),(aJ aA 11 (.Z 1)),(aJ aA 12 (.Z 1)),(aQ (.bMC aH .bool) 1 (.Z 10))])) (
        .call 10 (.bME aB aB (.Z 13) (aQ (.bMC aA (.bMC tI aI)) 3 (.Z 0))) <|
        .call 11 (.bME tI tI (aJ aA 12 (.Z 1)) (.p1 tI .bool (.Z 19))) <|
        .ite (aQ (.bMC aH .bool) 1 (.Z 10)) (
         .ret (bE aA [(.p1 tI cY (.Z 1)),(aJ aA 1 (.Z 1)),(aJ aA 2 (.Z 1)),(aJ aA 3 (.Z 1)),(aJ aA 4 (.Z 1)),(.Z 17),(aJ aA 6 (.Z 1)),(.nl 3 tI),(aJ aA 8 (.Z 1)),(aJ aA 9 (.Z 1)),(aJ aA 10 (.Z 1)),(aJ aA 11 (.Z 1)),(.p1 tI .bool (.Z 20)),(.cb true)])) (
         .ite (aQ (.bMC tI .bool) 1 (.Z 19)) (
          .ret (bE aA [(.p1 tI cY (.Z 1)),(aJ aA 1 (.Z 1)),(aJ aA 2 (.Z 1)),(aJ aA 3 (.Z 1)),(aJ aA 4 (.Z 1)),(.Z 17),(aJ aA 6 (.Z 1)),(.nl 3 tI),(aJ aA 8 (.Z 1)),(aJ aA 9 (.Z 1)),(aJ aA 10 (.Z 1)),(aJ aA 11 (.Z 1)),(.p1 tI .bool (.Z 20)),(.cb true)])) (
          .ret (bE aA [(.p1 tI cY (.Z 1)),(aJ aA 1 (.Z 1)),(aJ aA 2 (.Z 1)),(aJ aA 3 (.Z 1)),(aJ aA 4 (.Z 1)),(.Z 17),(aJ aA 6 (.Z 1)),(.nl 3 tI),(aJ aA 8 (.Z 1)),(aJ aA 9 (.Z 1)),(aJ aA 10 (.Z 1)),(aJ aA 11 (.Z 1)),(.Z 20)])))))) (
      .call 8 (.p1 aH .bool (.Z 10)) <|
      .bMD (.lit 206 aD 1) (.bME tI aH (aJ (.bMC aA (.bMC tI aI)) 1 (.Z 0)) (.Z 14)) <|
      .bMD (.bMJ 206 aD 32) (.bME (.slice 206 aD) (.slice 206 aD) (aJ aA 5 (.Z 1)) (.Z 15)) <|
      .ite (aQ aA 13 (.Z 1)) (
       .bMD .not (aJ aA 3 (.p1 aA (.bMC tI aI) (.Z 0))) <|
       .ite (.Z 17) (
        .call 9 (.Z 13) <|
        .ret (bE aA [(.p1 tI cY (.Z 1)),(aJ aA 1 (.Z 1)),(aJ aA 2 (.Z 1)),(aJ aA 3 (.Z 1)),(aJ aA 4 (.Z 1)),(.Z 16),(aJ aA 6 (.Z 1)),(.nl 3 tI),(.Z 18),(aJ aA 9 (.Z 1)),(aJ aA 10 (.Z 1)),(aJ aA 11 (.Z 1)),(aJ aA 12 (.Z 1)),(.cb true)])) (
        .call 10 (.bME aB aB (.Z 13) (aQ (.bMC aA (.bMC tI aI)) 3 (.Z 0))) <|
        .call 11 (.bME tI tI (aJ aA 12 (.Z 1)) (.p1 tI .bool (.Z 18))) <|
        .ret (bE aA [(.p1 tI cY (.Z 1)),(aJ aA 1 (.Z 1)),(aJ aA 2 (.Z 1)),(aJ aA 3 (.Z 1)),(aJ aA 4 (.Z 1)),(.Z 16),(aJ aA 6 (.Z 1)),(.nl 3 tI),(aJ aA 8 (.Z 1)),(aJ aA 9 (.Z 1)),(aJ aA 10 (.Z 1)),(aJ aA 11 (.Z 1)),(.p1 tI .bool (.Z 19)),(.cb true)]))) (
       .bMD .not (aJ aA 3 (.p1 aA (.bMC tI aI) (.Z 0))) <|
       .ite (.Z 17) (
        .call 9 (.Z 13) <|
        .ret (bE aA [(.p1 tI cY (.Z 1)),(aJ aA 1 (.Z 1)),(aJ aA 2 (.Z 1)),(aJ aA 3 (.Z 1)),(aJ aA 4 (.Z 1)),(.Z 16),(aJ aA 6 (.Z 1)),(.nl 3 tI),(.Z 18),(aJ aA 9 (.Z 1)),(aJ aA 10 (.Z 1)),(aJ aA 11 (.Z 1)),(aJ aA 12 (.Z 1)),(aQ (.bMC aH .bool) 1 (.Z 10))])) (
        .call 10 (.bME aB aB (.Z 13) (aQ (.bMC aA (.bMC tI aI)) 3 (.Z 0))) <|
        .call 11 (.bME tI tI (aJ aA 12 (.Z 1)) (.p1 tI .bool (.Z 18))) <|
        .ite (aQ (.bMC aH .bool) 1 (.Z 10)) (
         .ret (bE aA [(.p1 tI cY (.Z 1)),(aJ aA 1 (.Z 1)),(aJ aA 2 (.Z 1)),(aJ aA 3 (.Z 1)),(aJ aA 4 (.Z 1)),(.Z 16),(aJ aA 6 (.Z 1)),(.nl 3 tI),(aJ aA 8 (.Z 1)),(aJ aA 9 (.Z 1)),(aJ aA 10 (.Z 1)),(aJ aA 11 (.Z 1)),(.p1 tI .bool (.Z 19)),(.cb true)])) (
         .ite (aQ (.bMC tI .bool) 1 (.Z 18)) (
          .ret (bE aA [(.p1 tI cY (.Z 1)),(aJ aA 1 (.Z 1)),(aJ aA 2 (.Z 1)),(aJ aA 3 (.Z 1)),(aJ aA 4 (.Z 1)),(.Z 16),(aJ aA 6 (.Z 1)),(.nl 3 tI),(aJ aA 8 (.Z 1)),(aJ aA 9 (.Z 1)),(aJ aA 10 (.Z 1)),(aJ aA 11 (.Z 1)),(.p1 tI .bool (.Z 19)),(.cb true)])) (
          .ret (bE aA [(.p1 tI cY (.Z 1)),(aJ aA 1 (.Z 1)),(aJ aA 2 (.Z 1)),(aJ aA 3 (.Z 1)),(aJ aA 4 (.Z 1)),(.Z 16),(aJ aA 6 (.Z 1)),(.nl 3 tI),(aJ aA 8 (.Z 1)),(aJ aA 9 (.Z 1)),(aJ aA 10 (.Z 1)),(aJ aA 11 (.Z 1)),(.Z 19)]))))))))))
theorem aOO:bL Tryz.prog [dA,dV,dW,iY,cA,eB,gF,lJ,eW,bP,tK,fB] nK false 3000 ⟨[],[(2973,104017,[],[33]),(2971,104018,[73],[]),(2971,72017,[73],[]),(2973,48014,[],[33]),(2971,48015,[73],[]),(2971,32014,[73],[])]⟩ = .ok xE:=by kernel_rfl
theorem aQN (x:bC × (Int × bW)) (hx:okD (.bMC aA (.bMC tI aI)) x) (hp:(fun x=>bD aA x.1≤1000000000) x):xE.wp [dA,dV,dW,iY,cA,eB,gF,lJ,eW,bP,tK,fB] [⟨(.bMC aA (.bMC tI aI)),x⟩] [] (fun v=>v.as aA=(fun x=>zX x.1 x.2.1 x.2.2.1 x.2.2.2) x):=by
 obtain ⟨s,m,v,t⟩:=x
 delta xE dA dV dW iY cA eB gF lJ eW bP tK fB;refine dD ?_
 refine eE ?_
 refine ⟨hp,fun _ _=>⟨fun h=>vO (.inl h),fun h1 _=>⟨fun h=>vO (.inr (.inl h)),fun h2 _=>⟨fun h=>vO (.inr (.inr (.inl h))),fun h3=>?_⟩⟩⟩⟩
 have hm:=(eJ s).1 h1
 rw[show yU s.2.2.1 v=_ from if_pos ⟨hm.1,h2⟩]
 have hl:=rP s.2.2.1 v s.2.2.1.length
 have hx6:=aF4 h2
 have hn8:=((bY _).1 hm.1).2.1
 have h6:=wJ s.2.2.1 v hx6 s.2.2.1.length
 have hy6:(List.getD (kE s.2.2.1 v s.2.2.1.length).1 s.2.2.1.length (aX aB)).length≤6:=aGU h6 _
 have hst:=(gX (t:=aA) hp).2.2.2.2.2.1.1
 replace hst:List.length s.2.2.2.2.2.1≤1000000000:=hst
 constructor
 ·intro hla _
  refine ⟨fun h=>vO (.inr (.inr (.inr ⟨hla,h⟩))),fun h4=>?_⟩
  have hy:=aI5 h1 h2 h3 (fun _=>h4)
  (repeat' first|intro _|(with_reducible apply And.intro))
  all_goals first|omega|exact Bool.noConfusion ((by assumption:s.2.2.2.1=true).symm.trans (by assumption:s.2.2.2.1=false))|(unfold maxLen;omega)|(simp only[List.drop_zero,List.length_take];omega)|exact Nat.le_trans (h6 _ (by assumption)) (by decide)|exact Nat.le_trans (h6 _ (List.mem_of_mem_take (by assumption))) (by decide)|skip
  all_goals first|exact Bool.noConfusion ((by assumption:s.2.2.2.1=true).symm.trans (by assumption:s.2.2.2.1=false))|refine (aI1 (by assumption) ?_ ?_ ?_).trans hy|refine (aI8 (by assumption) ?_ ?_).trans hy
  all_goals first|rfl|(rw[← aQ9 (by assumption)])|(rw[← aPR (by assumption)])|exact bAX (by assumption)|exact bAE (by assumption)|exact bAA (by assumption)|exact bA6 (by assumption) (by assumption) (by assumption)|exact iO (by assumption)|exact lT (by assumption)|(simp[*];done)|skip
 ·intro hla
  have hy:=aI5 (t:=t) h1 h2 h3 (fun h=>absurd h (by simp[hla]))
  (repeat' first|intro _|(with_reducible apply And.intro))
  all_goals first|omega|exact Bool.noConfusion ((by assumption:s.2.2.2.1=true).symm.trans (by assumption:s.2.2.2.1=false))|(unfold maxLen;omega)|(simp only[List.drop_zero,List.length_take];omega)|exact Nat.le_trans (h6 _ (by assumption)) (by decide)|exact Nat.le_trans (h6 _ (List.mem_of_mem_take (by assumption))) (by decide)|skip
  all_goals first|exact Bool.noConfusion ((by assumption:s.2.2.2.1=true).symm.trans (by assumption:s.2.2.2.1=false))|refine (aI1 (by assumption) ?_ ?_ ?_).trans hy|refine (aI8 (by assumption) ?_ ?_).trans hy
  all_goals first|rfl|(rw[← aQ9 (by assumption)])|(rw[← aPR (by assumption)])|exact bAX (by assumption)|exact bAE (by assumption)|exact bAA (by assumption)|exact bA6 (by assumption) (by assumption) (by assumption)|exact iO (by assumption)|exact lT (by assumption)|(simp[*];done)|skip
theorem aOY:Con.Holds Tryz.prog nK:=aR aW (aG oP (aG uE (aG uF (aG aFD (aG jI (aG vU (aG aBY (aG aKY (aG xM (aG gP (aG aXT (aG xR aS)))))))))))) aOO aQN
noncomputable def nH:Con:=⟨158,(.bMC aA (.bMC tI aI)),aA,[.val ⟨true,aA,[]⟩,.val ⟨false,tI,[]⟩,.val ⟨false,aB,[]⟩,.val ⟨false,aB,[]⟩],[⟨true,aA,[0,0,0,0,0,0,0,0,0,0,0,0,0,0]⟩],false,none,
 ((fun x=>bD aA x.1≤1000000000):(bC × (Int × bW))→Prop),
 ((fun x=>zX x.1 x.2.1 x.2.2.1 x.2.2.2):(bC × (Int × bW))→(bC))⟩
def yL:T:=.call 0 (.p1 aA (.bMC tI aI) (.Z 0)) <|.call 1 (.p1 aA (.bMC tI aI) (.Z 0)) <|
 .bMD .not (.Z 2) <|
 .ite (.Z 3) (
  .ret (.Z 1)) (
  .call 2 (aJ (.bMC aA (.bMC tI aI)) 2 (.Z 0)) <|
  .bMD .not (.Z 4) <|
  .ite (.Z 5) (
   .ret (.Z 1)) (
   .bMD (.bMG 3 tI) (aJ (.bMC aA (.bMC tI aI)) 2 (.Z 0)) <|
   .bMD (.bMH 146 bA) (.bME aE tI (aJ aA 2 (.p1 aA (.bMC tI aI) (.Z 0))) (.ci .i64 0)) <|
   .bMD (.cmp .neq .i64) (.bME tI tI (.Z 6) (aJ bA 1 (.Z 7))) <|
   .ite (.Z 8) (
    .ret (.Z 1)) (
    .call 3 (.bME (.slice 206 aD) tI (aJ aA 5 (.p1 aA (.bMC tI aI) (.Z 0))) (aJ (.bMC aA (.bMC tI aI)) 1 (.Z 0))) <|
    .bMD (.cmp .geq .i64) (.bME tI tI (.Z 9) (.ci .i64 0)) <|
    .ite (.Z 10) (
     .ret (.Z 1)) (
     .ite (aJ aA 3 (.p1 aA (.bMC tI aI) (.Z 0))) (
      .call 2 (aQ (.bMC aA (.bMC tI aI)) 3 (.Z 0)) <|
      .bMD .not (.Z 11) <|
      .ite (.Z 12) (
       .ret (.Z 1)) (
       .bMD (.bMG 3 tI) (aQ (.bMC aA (.bMC tI aI)) 3 (.Z 0)) <|
       .bMD (.bMG 146 bA) (aJ aA 2 (.p1 aA (.bMC tI aI) (.Z 0))) <|
       .bMD (.ar .sub .i64) (.bME tI tI (.Z 14) (.ci .i64 1)) <|
       .bMD (.bMH 146 bA) (.bME aE tI (aJ aA 2 (.p1 aA (.bMC tI aI) (.Z 0))) (.Z 15)) <|
       .bMD (.cmp .neq .i64) (.bME tI tI (.Z 13) (aJ bA 2 (.Z 16))) <|
       .ite (.Z 17) (
        .ret (.Z 1)) (
        .call 4 (.bME aE aB (aJ aA 2 (.p1 aA (.bMC tI aI) (.Z 0))) (aJ (.bMC aA (.bMC tI aI)) 2 (.Z 0))) <|
        .bMD (.bMG 156 aB) (.p1 aH .bool (.Z 18)) <|
        .bMD (.ar .sub .i64) (.bME tI tI (.Z 19) (.ci .i64 1)) <|
        .bMD (.bMH 156 aB) (.bME aH tI (.p1 aH .bool (.Z 18)) (.Z 20)) <|
        .bMD (.bMH 156 aB) (.bME aH tI (.p1 aH .bool (.Z 18)) (.Z 20)) <|
        .ite (aQ aA 13 (.p1 aA (.bMC tI aI) (.Z 0))) (
         .call 5 (.bME aB aB (.Z 22) (aQ (.bMC aA (.bMC tI aI)) 3 (.Z 0))) <|
         .call 6 (.bME tI tI (aJ aA 12 (.p1 aA (.bMC tI aI) (.Z 0))) (.p1 tI .bool (.Z 23))) <|
         .ite (aJ aA 4 (.p1 aA (.bMC tI aI) (.Z 0))) (
          .bMD (.bMI 156 aB) (bE (.bMC aH aO) [(.p1 aH .bool (.Z 18)),(.ci .i64 0),(.ci .i64 1)]) <|
          .bMD (.lit 206 aD 1) (.bME tI aH (aJ (.bMC aA (.bMC tI aI)) 1 (.Z 0)) (.Z 25)) <|
          .bMD (.bMJ 206 aD 32) (.bME (.slice 206 aD) (.slice 206 aD) (aJ aA 5 (.Z 1)) (.Z 26)) <|
          .ret (bE aA [(.p1 tI cY (.Z 1)),(aJ aA 1 (.Z 1)),(aJ aA 2 (.Z 1)),(aJ aA 3 (.Z 1)),(aJ aA 4 (.Z 1)),(.Z 27),(aJ aA 6 (.Z 1)),(.nl 3 tI),(aJ aA 8 (.Z 1)),(aJ aA 9 (.Z 1)),(aJ aA 10 (.Z 1)),(aJ aA 11 (.Z 1)),(.p1 tI .bool (.Z 24)),(.cb true)])) (
          .bMD (.lit 206 aD 1) (.bME tI aH (aJ (.bMC aA (.bMC tI aI)) 1 (.Z 0)) (.p1 aH .bool (.Z 18))) <|
          .bMD (.bMJ 206 aD 32) (.bME (.slice 206 aD) (.slice 206 aD) (aJ aA 5 (.Z 1)) (.Z 25)) <|
          .ret (bE aA [(.p1 tI cY (.Z 1)),(aJ aA 1 (.Z 1)),(aJ aA 2 (.Z 1)),(aJ aA 3 (.Z 1)),(aJ aA 4 (.Z 1)),(.Z 26),(aJ aA 6 (.Z 1)),(.nl 3 tI),(aJ aA 8 (.Z 1)),(aJ aA 9 (.Z 1)),(aJ aA 10 (.Z 1)),(aJ aA 11 (.Z 1)),(.p1 tI .bool (.Z 24)),(.cb true)]))) (
         .call 5 (.bME aB aB (.Z 22) (aQ (.bMC aA (.bMC tI aI)) 3 (.Z 0))) <|
         .call 6 (.bME tI tI (aJ aA 12 (.p1 aA (.bMC tI aI) (.Z 0))) (.p1 tI .bool (.Z 23))) <|
         .ite (aQ (.bMC aH .bool) 1 (.Z 18)) (
          .ite (aJ aA 4 (.p1 aA (.bMC tI aI) (.Z 0))) (
           .bMD (.bMI 156 aB) (bE (.bMC aH aO) [(.p1 aH .bool (.Z 18)),(.ci .i64 0),(.ci .i64 1)]) <|
           .bMD (.lit 206 aD 1) (.bME tI aH (aJ (.bMC aA (.bMC tI aI)) 1 (.Z 0)) (.Z 25)) <|
           .bMD (.bMJ 206 aD 32) (.bME (.slice 206 aD) (.slice 206 aD) (aJ aA 5 (.Z 1)) (.Z 26)) <|
           .ret (bE aA [(.p1 tI cY (.Z 1)),(aJ aA 1 (.Z 1)),(aJ aA 2 (.Z 1)),(aJ aA 3 (.Z 1)),(aJ aA 4 (.Z 1)),(.Z 27),(aJ aA 6 (.Z 1)),(.nl 3 tI),(aJ aA 8 (.Z 1)),(aJ aA 9 (.Z 1)),(aJ aA 10 (.Z 1)),(aJ aA 11 (.Z 1)),(.p1 tI .bool (.Z 24)),(.cb true)])) (
           .bMD (.lit 206 aD 1) (.bME tI aH (aJ (.bMC aA (.bMC tI aI)) 1 (.Z 0)) (.p1 aH .bool (.Z 18))) <|
           .bMD (.bMJ 206 aD 32) (.bME (.slice 206 aD) (.slice 206 aD) (aJ aA 5 (.Z 1)) (.Z 25)) <|
           .ret (bE aA [(.p1 tI cY (.Z 1)),(aJ aA 1 (.Z 1)),(aJ aA 2 (.Z 1)),(aJ aA 3 (.Z 1)),(aJ aA 4 (.Z 1)),(.Z 26),(aJ aA 6 (.Z 1)),(.nl 3 tI),(aJ aA 8 (.Z 1)),(aJ aA 9 (.Z 1)),(aJ aA 10 (.Z 1)),(aJ aA 11 (.Z 1)),(.p1 tI .bool (.Z 24)),(.cb true)]))) (
          .ite (aQ (.bMC tI .bool) 1 (.Z 23)) (
           .ite (aJ aA 4 (.p1 aA (.bMC tI aI) (.Z 0))) (
            .bMD (.bMI 156 aB) (bE (.bMC aH aO) [(.p1 aH .bool (.Z 18)),(.ci .i64 0),(.ci .i64 1)]) <|
            .bMD (.lit 206 aD 1) (.bME tI aH (aJ (.bMC aA (.bMC tI aI)) 1 (.Z 0)) (.Z 25)) <|
            .bMD (.bMJ 206 aD 32) (.bME (.slice 206 aD) (.slice 206 aD) (aJ aA 5 (.Z 1)) (.Z 26)) <|
            .ret (bE aA [(.p1 tI cY (.Z 1)),(aJ aA 1 (.Z 1)),(aJ aA 2 (.Z 1)),(aJ aA 3 (.Z 1)),(aJ aA 4 (.Z 1)),(.Z 27),(aJ aA 6 (.Z 1)),(.nl 3 tI),(aJ aA 8 (.Z 1)),(aJ aA 9 (.Z 1)),(aJ aA 10 (.Z 1)),(aJ aA 11 (.Z 1)),(.p1 tI .bool (.Z 24)),(.cb true)])) (
            .bMD (.lit 206 aD 1) (.bME tI aH (aJ (.bMC aA (.bMC tI aI)) 1 (.Z 0)) (.p1 aH .bool (.Z 18))) <|
            .bMD (.bMJ 206 aD 32) (.bME (.slice 206 aD) (.slice 206 aD) (aJ aA 5 (.Z 1)) (.Z 25)) <|
            .ret (bE aA [(.p1 tI cY (.Z 1)),(aJ aA 1 (.Z 1)),(aJ aA 2 (.Z 1)),(aJ aA 3 (.Z 1)),(aJ aA 4 (.Z 1)),(.Z 26),(aJ aA 6 (.Z 1)),(.nl 3 tI),(aJ aA 8 (.Z 1)),(aJ aA 9 (.Z 1)),(aJ aA 10 (.Z 1)),(aJ aA 11 (.Z 1)),(.p1 tI .bool (.Z 24)),(.cb true)]))) (
           .ite (aJ aA 4 (.p1 aA (.bMC tI aI) (.Z 0))) (
            .bMD (.bMI 156 aB) (bE (.bMC aH aO) [(.p1 aH .bool (.Z 18)),(.ci .i64 0),(.ci .i64 1)]) <|
            .bMD (.lit 206 aD 1) (.bME tI aH (aJ (.bMC aA (.bMC tI aI)) 1 (.Z 0)) (.Z 25)) <|
            .bMD (.bMJ 206 aD 32) (.bME (.slice 206 aD) (.slice 206 aD) (aJ aA 5 (.Z 1)) (.Z 26)) <|
            .ret (bE aA [(.p1 tI cY (.Z 1)),(aJ aA 1 (.Z 1)),(aJ aA 2 (.Z 1)),(aJ aA 3 (.Z 1)),(aJ aA 4 (.Z 1)),(.Z 27),(aJ aA 6 (.Z 1)),(.nl 3 tI),(aJ aA 8 (.Z 1)),(aJ aA 9 (.Z 1)),(aJ aA 10 (.Z 1)),(aJ aA 11 (.Z 1)),(.Z 24)])) (
            .bMD (.lit 206 aD 1) (.bME tI aH (aJ (.bMC aA (.bMC tI aI)) 1 (.Z 0)) (.p1 aH .bool (.Z 18))) <|
            .bMD (.bMJ 206 aD 32) (.bME (.slice 206 aD) (.slice 206 aD) (aJ aA 5 (.Z 1)) (.Z 25)) <|
            .ret (bE aA [(.p1 tI cY (.Z 1)),(aJ aA 1 (.Z 1)),(aJ aA 2 (.Z 1)),(aJ aA 3 (.Z 1)),(aJ aA 4 (.Z 1)),(.Z 26),(aJ aA 6 (.Z 1)),(.nl 3 tI),(aJ aA 8 (.Z 1)),(aJ aA 9 (.Z 1)),(aJ aA 10 (.Z 1)),(aJ aA 11 (.Z 1)),(.Z 24)])))))))) (
      .call 4 (.bME aE aB (aJ aA 2 (.p1 aA (.bMC tI aI) (.Z 0))) (aJ (.bMC aA (.bMC tI aI)) 2 (.Z 0))) <|
      .bMD (.bMG 156 aB) (.p1 aH .bool (.Z 11)) <|
      .bMD (.ar .sub .i64) (.bME tI tI (.Z 12) (.ci .i64 1)) <|
      .bMD (.bMH 156 aB) (.bME aH tI (.p1 aH .bool (.Z 11)) (.Z 13)) <|
      .bMD (.bMH 156 aB) (.bME aH tI (.p1 aH .bool (.Z 11)) (.Z 13)) <|
      .ite (aQ aA 13 (.p1 aA (.bMC tI aI) (.Z 0))) (
       .bMD (.bMJ 3 tI 8) (.bME aB aB (.nl 3 tI) (.Z 15)) <|
       .ite (aJ aA 4 (.p1 aA (.bMC tI aI) (.Z 0))) (
        .bMD (.bMI 156 aB) (bE (.bMC aH aO) [(.p1 aH .bool (.Z 11)),(.ci .i64 0),(.ci .i64 1)]) <|
        .bMD (.lit 206 aD 1) (.bME tI aH (aJ (.bMC aA (.bMC tI aI)) 1 (.Z 0)) (.Z 17)) <|
        .bMD (.bMJ 206 aD 32) (.bME (.slice 206 aD) (.slice 206 aD) (aJ aA 5 (.Z 1)) (.Z 18)) <|
        .ret (bE aA [(.p1 tI cY (.Z 1)),(aJ aA 1 (.Z 1)),(aJ aA 2 (.Z 1)),(aJ aA 3 (.Z 1)),(aJ aA 4 (.Z 1)),(.Z 19),(aJ aA 6 (.Z 1)),(.nl 3 tI),(.Z 16),(aJ aA 9 (.Z 1)),(aJ aA 10 (.Z 1)),(aJ aA 11 (.Z 1)),(aJ aA 12 (.Z 1)),(.cb true)])) (
        .bMD (.lit 206 aD 1) (.bME tI aH (aJ (.bMC aA (.bMC tI aI)) 1 (.Z 0)) (.p1 aH .bool (.Z 11))) <|
        .bMD (.bMJ 206 aD 32) (.bME (.slice 206 aD) (.slice 206 aD) (aJ aA 5 (.Z 1)) (.Z 17)) <|
        .ret (bE aA [(.p1 tI cY (.Z 1)),(aJ aA 1 (.Z 1)),(aJ aA 2 (.Z 1)),(aJ aA 3 (.Z 1)),(aJ aA 4 (.Z 1)),(.Z 18),(aJ aA 6 (.Z 1)),(.nl 3 tI),(.Z 16),(aJ aA 9 (.Z 1)),(aJ aA 10 (.Z 1)),(aJ aA 11 (.Z 1)),(aJ aA 12 (.Z 1)),(.cb true)]))) (
       .bMD (.bMJ 3 tI 8) (.bME aB aB (.nl 3 tI) (.Z 15)) <|
       .ite (aJ aA 4 (.p1 aA (.bMC tI aI) (.Z 0))) (
        .bMD (.bMI 156 aB) (bE (.bMC aH aO) [(.p1 aH .bool (.Z 11)),(.ci .i64 0),(.ci .i64 1)]) <|
        .bMD (.lit 206 aD 1) (.bME tI aH (aJ (.bMC aA (.bMC tI aI)) 1 (.Z 0)) (.Z 17)) <|
        .bMD (.bMJ 206 aD 32) (.bME (.slice 206 aD) (.slice 206 aD) (aJ aA 5 (.Z 1)) (.Z 18)) <|
        .ret (bE aA [(.p1 tI cY (.Z 1)),(aJ aA 1 (.Z 1)),(aJ aA 2 (.Z 1)),(aJ aA 3 (.Z 1)),(aJ aA 4 (.Z 1)),(.Z 19),(aJ aA 6 (.Z 1)),(.nl 3 tI),(.Z 16),(aJ aA 9 (.Z 1)),(aJ aA 10 (.Z 1)),(aJ aA 11 (.Z 1)),(aJ aA 12 (.Z 1)),(aQ (.bMC aH .bool) 1 (.Z 11))])) (
        .bMD (.lit 206 aD 1) (.bME tI aH (aJ (.bMC aA (.bMC tI aI)) 1 (.Z 0)) (.p1 aH .bool (.Z 11))) <|
        .bMD (.bMJ 206 aD 32) (.bME (.slice 206 aD) (.slice 206 aD) (aJ aA 5 (.Z 1)) (.Z 17)) <|
        .ret (bE aA [(.p1 tI cY (.Z 1)),(aJ aA 1 (.Z 1)),(aJ aA 2 (.Z 1)),(aJ aA 3 (.Z 1)),(aJ aA 4 (.Z 1)),(.Z 18),(aJ aA 6 (.Z 1)),(.nl 3 tI),(.Z 16),(aJ aA 9 (.Z 1)),(aJ aA 10 (.Z 1)),(aJ aA 11 (.Z 1)),(aJ aA 12 (.Z 1)),(aQ (.bMC aH .bool) 1 (.Z 11))]))))))))
theorem aP8:bL Tryz.prog [dY,dX,bI,eD,iS,tG,dO] nH false 3000 ⟨[],[(2967,912025,[],[31]),(2965,656025,[],[31]),(2967,1808025,[],[31]),(2965,1296025,[],[31]),(2967,3600025,[],[31]),(2965,2576025,[],[31]),(2967,3088025,[],[31]),(2965,2064025,[],[31]),(2973,224017,[],[31]),(2971,160017,[],[31]),(2973,192017,[],[31]),(2971,128017,[],[31])]⟩ = .ok yL:=by kernel_rfl
set_option maxHeartbeats 1000000 in
theorem aP1 (x:bC × (Int × bW)) (hx:okD (.bMC aA (.bMC tI aI)) x) (hp:(fun x=>bD aA x.1≤1000000000) x):yL.wp [dY,dX,bI,eD,iS,tG,dO] [⟨(.bMC aA (.bMC tI aI)),x⟩] [] (fun v=>v.as aA=(fun x=>zX x.1 x.2.1 x.2.2.1 x.2.2.2) x):=by
 obtain ⟨s,m,v,t⟩:=x
 delta yL dY dX bI eD iS tG dO;refine dD ?_
 refine eE ?_
 refine ⟨hp,fun _=>⟨fun h=>vO (.inl h),fun h1=>⟨fun h=>vO (.inr (.inl (aAM h).symm)),fun hv _=>?_⟩⟩⟩
 have hm:=(eJ s).1 h1
 have hn8:=((bY _).1 hm.1)
 have hin:(List.getD s.2.2.1 0 (aX bA)).2.1=lH s.2.2.1:=by unfold lH;rw[if_pos hm.1];rfl
 have hou:(List.getD s.2.2.1 (s.2.2.1.length - 1) (aX bA)).2.2.1=gY s.2.2.1:=by unfold gY;rw[if_pos hm.1];rfl
 rw[hin]
 refine ⟨⟨by omega,by omega⟩,fun _=>⟨fun h=>vO (.inr (.inl (Bool.eq_false_iff.2 fun hh=>h ((cF _ _).1 hh).2))),fun hv2 _=>⟨fun h=>vO (.inr (.inr (.inl h))),fun h3=>?_⟩⟩⟩
 have h2:eQ v (lH s.2.2.1)=true:=(cF _ _).2 ⟨hv,hv2⟩
 have hl:=rP s.2.2.1 v s.2.2.1.length
 have hx6:=aF4 h2
 have h6:=wJ s.2.2.1 v hx6 s.2.2.1.length
 have hy6:(List.getD (kE s.2.2.1 v s.2.2.1.length).1 s.2.2.1.length (aX aB)).length≤6:=aGU h6 _
 have hst:=(gX (t:=aA) hp).2.2.2.2.2.1.1
 replace hst:List.length s.2.2.2.2.2.1≤1000000000:=hst
 constructor
 ·intro hla
  refine ⟨fun h=>vO (.inr (.inr (.inr ⟨hla,(aAM h).symm⟩))),fun ht _ _=>⟨by omega,fun _=>⟨by omega,fun _=>?_⟩⟩⟩
  rw[hou]
  refine ⟨fun h=>vO (.inr (.inr (.inr ⟨hla,Bool.eq_false_iff.2 fun hh=>h ((cF _ _).1 hh).2⟩))),fun ht2=>?_⟩
  simp only[hl,Nat.add_sub_cancel]
  have hy:=aI5 h1 h2 h3 (fun _=>(cF _ _).2 ⟨ht,ht2⟩)
  (repeat' first|intro _|(with_reducible apply And.intro))
  all_goals first|omega|exact Bool.noConfusion ((by assumption:s.2.2.2.1=true).symm.trans (by assumption:s.2.2.2.1=false))|(unfold maxLen;omega)|(simp only[List.drop_zero,List.length_take];omega)|exact Nat.le_trans (h6 _ (by assumption)) (by decide)|exact Nat.le_trans (h6 _ (List.mem_of_mem_take (by assumption))) (by decide)|skip
  all_goals first|exact Bool.noConfusion ((by assumption:s.2.2.2.1=true).symm.trans (by assumption:s.2.2.2.1=false))|refine (aI1 (by assumption) ?_ ?_ ?_).trans hy|refine (aI8 (by assumption) ?_ ?_).trans hy
  all_goals first|rfl|(rw[← aQ9 (by assumption)])|(rw[← aPR (by assumption)])|exact bAX (by assumption)|exact bAE (by assumption)|exact bAA (by assumption)|exact bA6 (by assumption) (by assumption) (by assumption)|exact iO (by assumption)|exact lT (by assumption)|(simp[*];done)|skip
 ·intro hla
  simp only[hl,Nat.add_sub_cancel]
  have hy:=aI5 (t:=t) h1 h2 h3 (fun h=>absurd h (by simp[hla]))
  (repeat' first|intro _|(with_reducible apply And.intro))
  all_goals first|omega|exact Bool.noConfusion ((by assumption:s.2.2.2.1=true).symm.trans (by assumption:s.2.2.2.1=false))|(unfold maxLen;omega)|(simp only[List.drop_zero,List.length_take];omega)|exact Nat.le_trans (h6 _ (by assumption)) (by decide)|exact Nat.le_trans (h6 _ (List.mem_of_mem_take (by assumption))) (by decide)|skip
  all_goals first|exact Bool.noConfusion ((by assumption:s.2.2.2.1=true).symm.trans (by assumption:s.2.2.2.1=false))|refine (aI1 (by assumption) ?_ ?_ ?_).trans hy|refine (aI8 (by assumption) ?_ ?_).trans hy
  all_goals first|rfl|(rw[← aQ9 (by assumption)])|(rw[← aPR (by assumption)])|exact bAX (by assumption)|exact bAE (by assumption)|exact bAA (by assumption)|exact bA6 (by assumption) (by assumption) (by assumption)|exact iO (by assumption)|exact lT (by assumption)|(simp[*];done)|skip
set_option maxHeartbeats 1000000 in
theorem aQZ:Con.Holds Tryz.prog nH:=aR aW (aG uM (aG uD (aG fD (aG uW (aG aF3 (aG aZK (aG rH aS))))))) aP8 aP1
end Go.Proofs.YtiihghfoeinbbaaGreat
