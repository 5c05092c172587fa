/- CoreF: lemmas. No conditions. -/
import Derived.Test.YtmfpkkbhnmkfdaaGreatCore7
namespace Go.Proofs.YtmfpkkbhnmkfdaaGreat
set_option maxRecDepth 100000
open Go.ChangeShapes Go.WideShapes Go.ChangeAt Go.RowKit Go.Deep
set_option linter.unusedVariables false
set_option linter.unusedSimpArgs false
noncomputable def nY:Con:=⟨126,(.bP9 aA (.bP9 tI aI)),aA,[.val ⟨true,aA,[]⟩,.val ⟨false,tI,[]⟩,.val ⟨false,aB,[]⟩,.val ⟨false,aB,[]⟩],[⟨true,aA,[0,2,2,0,0,2,2,2,2,2,2,2,0,0]⟩],false,none,
 ((fun x=>aY aA x.1≤1000000000):(bC × (Int × bP))→Prop),
 ((fun x=>aBX x.1 x.2.1 x.2.2.1 x.2.2.2):(bC × (Int × bP))→(bC))⟩
def zI:T:=.call 0 (.p1 aA (.bP9 tI aI) (.Z 0)) <|.call 1 (.p1 aA (.bP9 tI aI) (.Z 0)) <|.call 2 (.p1 aA (.bP9 tI aI) (.Z 0)) <|
 .bPA .not (.Z 3) <|
 .ite (.Z 4) (
  .ret (.Z 1)) (
  .call 3 (.Z 2) <|
  .call 4 (.bPB aB tI (aK (.bP9 aA (.bP9 tI aI)) 2 (.Z 0)) (.Z 5)) <|
  .bPA .not (.Z 6) <|
  .ite (.Z 7) (
   .ret (.Z 1)) (
   .call 5 (.bPB (.slice 186 aD) tI (aK aA 5 (.p1 aA (.bP9 tI aI) (.Z 0))) (aK (.bP9 aA (.bP9 tI aI)) 1 (.Z 0))) <|
   .bPA (.cmp .geq .i64) (.bPB tI tI (.Z 8) (.ci .i64 0)) <|
   .ite (.Z 9) (
    .ret (.Z 1)) (
    .ite (aK aA 3 (.p1 aA (.bP9 tI aI) (.Z 0))) (
     .call 6 (.Z 2) <|
     .call 4 (.bPB aB tI (aQ (.bP9 aA (.bP9 tI aI)) 3 (.Z 0)) (.Z 10)) <|
     .bPA .not (.Z 11) <|
     .ite (.Z 12) (
      .ret (.Z 1)) (
      .call 7 (.bPB aE aB (.Z 2) (aK (.bP9 aA (.bP9 tI aI)) 2 (.Z 0))) <|
      .bPA (.bPD 219 bD) (aK aA 2 (.p1 aA (.bP9 tI aI) (.Z 0))) <|
      .bPA (.bPE 188 aB) (.bPB aJ tI (.p1 aJ .bool (.Z 13)) (.Z 14)) <|
      .bPA (.bPE 188 aB) (.bPB aJ tI (.p1 aJ .bool (.Z 13)) (.Z 14)) <|
      .ite (aK aA 4 (.p1 aA (.bP9 tI aI) (.Z 0))) (
       .bPA (.bPF 188 aB) (bG (.bP9 aJ aP) [(.p1 aJ .bool (.Z 13)),(.ci .i64 0),(.ci .i64 1)]) <|
       .call 8 (.Z 17) <|
       .bPA (.lit 186 aD 1) (.bPB tI aJ (aK (.bP9 aA (.bP9 tI aI)) 1 (.Z 0)) (.Z 18)) <|
       .bPA (.bPG 186 aD 32) (.bPB (.slice 186 aD) (.slice 186 aD) (aK aA 5 (.Z 1)) (.Z 19)) <|
       .ite (aQ aA 13 (.Z 1)) (
        .bPA .not (aK aA 3 (.p1 aA (.bP9 tI aI) (.Z 0))) <|
        .ite (.Z 21) (
         .call 9 (.Z 16) <|
         .ret (bG aA [(.p1 tI dA (.Z 1)),(aK aA 1 (.Z 1)),(aK aA 2 (.Z 1)),(aK aA 3 (.Z 1)),(aK aA 4 (.Z 1)),(.Z 20),(aK aA 6 (.Z 1)),(.nl 3 tI),(.Z 22),(aK aA 9 (.Z 1)),(aK aA 10 (.Z 1)),(aK aA 11 (.Z 1)),(aK aA 12 (.Z 1)),(.cb true)])) (
         .call 10 (.bPB aB aB (.Z 16) (aQ (.bP9 aA (.bP9 tI aI)) 3 (.Z 0))) <|
         .call 11 (.bPB tI tI (aK aA 12 (.Z 1)) (.p1 tI .bool (.Z 22))) <|
         .ret (bG aA [(.p1 tI dA (.Z 1)),(aK aA 1 (.Z 1)),(aK aA 2 (.Z 1)),(aK aA 3 (.Z 1)),(aK aA 4 (.Z 1)),(.Z 20),(aK aA 6 (.Z 1)),(.nl 3 tI),(aK aA 8 (.Z 1)),(aK aA 9 (.Z 1)),(aK aA 10 (.Z 1)),(aK aA 11 (.Z 1)),(.p1 tI .bool (.Z 23)),(.cb true)]))) (
        .bPA .not (aK aA 3 (.p1 aA (.bP9 tI aI) (.Z 0))) <|
        .ite (.Z 21) (
         .call 9 (.Z 16) <|
         .ret (bG aA [(.p1 tI dA (.Z 1)),(aK aA 1 (.Z 1)),(aK aA 2 (.Z 1)),(aK aA 3 (.Z 1)),(aK aA 4 (.Z 1)),(.Z 20),(aK aA 6 (.Z 1)),(.nl 3 tI),(.Z 22),(aK aA 9 (.Z 1)),(aK aA 10 (.Z 1)),(aK aA 11 (.Z 1)),(aK aA 12 (.Z 1)),(aQ (.bP9 aJ .bool) 1 (.Z 13))])) (
         .call 10 (.bPB aB aB (.Z 16) (aQ (.bP9 aA (.bP9 tI aI)) 3 (.Z 0))) <|
         .call 11 (.bPB tI tI (aK aA 12 (.Z 1)) (.p1 tI .bool (.Z 22))) <|
         .ite (aQ (.bP9 aJ .bool) 1 (.Z 13)) (
          .ret (bG aA [(.p1 tI dA (.Z 1)),(aK aA 1 (.Z 1)),(aK aA 2 (.Z 1)),(aK aA 3 (.Z 1)),(aK aA 4 (.Z 1)),(.Z 20),(aK aA 6 (.Z 1)),(.nl 3 tI),(aK aA 8 (.Z 1)),(aK aA 9 (.Z 1)),(aK aA 10 (.Z 1)),(aK aA 11 (.Z 1)),(.p1 tI .bool (.Z 23)),(.cb true)])) (
          .ite (aQ (.bP9 tI .bool) 1 (.Z 22)) (
           .ret (bG aA [(.p1 tI dA (.Z 1)),(aK aA 1 (.Z 1)),(aK aA 2 (.Z 1)),(aK aA 3 (.Z 1)),(aK aA 4 (.Z 1)),(.Z 20),(aK aA 6 (.Z 1)),(.nl 3 tI),(aK aA 8 (.Z 1)),(aK aA 9 (.Z 1)),(aK aA 10 (.Z 1)),(aK aA 11 (.Z 1)),(.p1 tI .bool (.Z 23)),(.cb true)])) (
           .ret (bG aA [(.p1 tI dA (.Z 1)),(aK aA 1 (.Z 1)),(aK aA 2 (.Z 1)),(aK aA 3 (.Z 1)),(aK aA 4 (.Z 1)),(.Z 20),(aK aA 6 (.Z 1)),(.nl 3 tI),(aK aA 8 (.Z 1)),(aK aA 9 (.Z 1)),(aK aA 10 (.Z 1)),(aK aA 11 (.Z 1)),(.Z 23)])))))) (
       .call 8 (.p1 aJ .bool (.Z 13)) <|
       .bPA (.lit 186 aD 1) (.bPB tI aJ (aK (.bP9 aA (.bP9 tI aI)) 1 (.Z 0)) (.Z 17)) <|
       .bPA (.bPG 186 aD 32) (.bPB (.slice 186 aD) (.slice 186 aD) (aK aA 5 (.Z 1)) (.Z 18)) <|
       .ite (aQ aA 13 (.Z 1)) (
        .bPA .not (aK aA 3 (.p1 aA (.bP9 tI aI) (.Z 0))) <|
        .ite (.Z 20) (
         .call 9 (.Z 16) <|
         .ret (bG aA [(.p1 tI dA (.Z 1)),(aK aA 1 (.Z 1)),(aK aA 2 (.Z 1)),(aK aA 3 (.Z 1)),(aK aA 4 (.Z 1)),(.Z 19),(aK aA 6 (.Z 1)),(.nl 3 tI),(.Z 21),(aK aA 9 (.Z 1)),(aK aA 10 (.Z 1)),(aK aA 11 (.Z 1)),(aK aA 12 (.Z 1)),(.cb true)])) (
         .call 10 (.bPB aB aB (.Z 16) (aQ (.bP9 aA (.bP9 tI aI)) 3 (.Z 0))) <|
         .call 11 (.bPB tI tI (aK aA 12 (.Z 1)) (.p1 tI .bool (.Z 21))) <|
         .ret (bG aA [(.p1 tI dA (.Z 1)),(aK aA 1 (.Z 1)),(aK aA 2 (.Z 1)),(aK aA 3 (.Z 1)),(aK aA 4 (.Z 1)),(.Z 19),(aK aA 6 (.Z 1)),(.nl 3 tI),(aK aA 8 (.Z 1)),(aK aA 9 (.Z 1)),(aK aA 10 (.Z 1)),(aK aA 11 (.Z 1)),(.p1 tI .bool (.Z 22)),(.cb true)]))) (
        .bPA .not (aK aA 3 (.p1 aA (.bP9 tI aI) (.Z 0))) <|
        .ite (.Z 20) (
         .call 9 (.Z 16) <|
         .ret (bG aA [(.p1 tI dA (.Z 1)),(aK aA 1 (.Z 1)),(aK aA 2 (.Z 1)),(aK aA 3 (.Z 1)),(aK aA 4 (.Z 1)),(.Z 19),(aK aA 6 (.Z 1)),(.nl 3 tI),(.Z 21),(aK aA 9 (.Z 1)),(aK aA 10 (.Z 1)),(aK aA 11 (.Z 1)),(aK aA 12 (.Z 1)),(aQ (.bP9 aJ .bool) 1 (.Z 13))])) (
         .call 10 (.bPB aB aB (.Z 16) (aQ (.bP9 aA (.bP9 tI aI)) 3 (.Z 0))) <|
         .call 11 (.bPB tI tI (aK aA 12 (.Z 1)) (.p1 tI .bool (.Z 21))) <|
         .ite (aQ (.bP9 aJ .bool) 1 (.Z 13)) (
          .ret (bG aA [(.p1 tI dA (.Z 1)),(aK aA 1 (.Z 1)),(aK aA 2 (.Z 1)),(aK aA 3 (.Z 1)),(aK aA 4 (.Z 1)),(.Z 19),(aK aA 6 (.Z 1)),(.nl 3 tI),(aK aA 8 (.Z 1)),(aK aA 9 (.Z 1)),(aK aA 10 (.Z 1)),(aK aA 11 (.Z 1)),(.p1 tI .bool (.Z 22)),(.cb true)])) (
          .ite (aQ (.bP9 tI .bool) 1 (.Z 21)) (
           .ret (bG aA [(.p1 tI dA (.Z 1)),(aK aA 1 (.Z 1)),(aK aA 2 (.Z 1)),(aK aA 3 (.Z 1)),(aK aA 4 (.Z 1)),(.Z 19),(aK aA 6 (.Z 1)),(.nl 3 tI),(aK aA 8 (.Z 1)),(aK aA 9 (.Z 1)),(aK aA 10 (.Z 1)),(aK aA 11 (.Z 1)),(.p1 tI .bool (.Z 22)),(.cb true)])) (
           .ret (bG aA [(.p1 tI dA (.Z 1)),(aK aA 1 (.Z 1)),(aK aA 2 (.Z 1)),(aK aA 3 (.Z 1)),(aK aA 4 (.Z 1)),(.Z 19),(aK aA 6 (.Z 1)),(.nl 3 tI),(aK aA 8 (.Z 1)),(aK aA 9 (.Z 1)),(aK aA 10 (.Z 1)),(aK aA 11 (.Z 1)),(.Z 22)])))))))) (
     .call 7 (.bPB aE aB (.Z 2) (aK (.bP9 aA (.bP9 tI aI)) 2 (.Z 0))) <|
     .bPA (.bPD 219 bD) (aK aA 2 (.p1 aA (.bP9 tI aI) (.Z 0))) <|
     .bPA (.bPE 188 aB) (.bPB aJ tI (.p1 aJ .bool (.Z 10)) (.Z 11)) <|
     .bPA (.bPE 188 aB) (.bPB aJ tI (.p1 aJ .bool (.Z 10)) (.Z 11)) <|
     .ite (aK aA 4 (.p1 aA (.bP9 tI aI) (.Z 0))) (
      .bPA (.bPF 188 aB) (bG (.bP9 aJ aP) [(.p1 aJ .bool (.Z 10)),(.ci .i64 0),(.ci .i64 1)]) <|
      .call 8 (.Z 14) <|
      .bPA (.lit 186 aD 1) (.bPB tI aJ (aK (.bP9 aA (.bP9 tI aI)) 1 (.Z 0)) (.Z 15)) <|
      .bPA (.bPG 186 aD 32) (.bPB (.slice 186 aD) (.slice 186 aD) (aK aA 5 (.Z 1)) (.Z 16)) <|
      .ite (aQ aA 13 (.Z 1)) (
       .bPA .not (aK aA 3 (.p1 aA (.bP9 tI aI) (.Z 0))) <|
       .ite (.Z 18) (
        .call 9 (.Z 13) <|
        .ret (bG aA [(.p1 tI dA (.Z 1)),(aK aA 1 (.Z 1)),(aK aA 2 (.Z 1)),(aK aA 3 (.Z 1)),(aK aA 4 (.Z 1)),(.Z 17),(aK aA 6 (.Z 1)),(.nl 3 tI),(.Z 19),(aK aA 9 (.Z 1)),(aK aA 10 (.Z 1)),(aK aA 11 (.Z 1)),(aK aA 12 (.Z 1)),(.cb true)])) (
        .call 10 (.bPB aB aB (.Z 13) (aQ (.bP9 aA (.bP9 tI aI)) 3 (.Z 0))) <|
        .call 11 (.bPB tI tI (aK aA 12 (.Z 1)) (.p1 tI .bool (.Z 19))) <|
        .ret (bG aA [(.p1 tI dA (.Z 1)),(aK aA 1 (.Z 1)),(aK aA 2 (.Z 1)),(aK aA 3 (.Z 1)),(aK aA 4 (.Z 1)),(.Z 17),(aK aA 6 (.Z 1)),(.nl 3 tI),(aK aA 8 (.Z 1)),(aK aA 9 (.Z 1)),(aK aA 10 (.Z 1)),(aK aA 11 (.Z 1)),(.p1 tI .bool (.Z 20)),(.cb true)]))) (
       .bPA .not (aK aA 3 (.p1 aA (.bP9 tI aI) (.Z 0))) <|
       .ite (.Z 18) (
        .call 9 (.Z 13) <|
        .ret (bG aA [(.p1 tI dA (.Z 1)),(aK aA 1 (.Z 1)),(aK aA 2 (.Z 1)),(aK aA 3 (.Z 1)),(aK aA 4 (.Z 1)),(.Z 17),(aK aA 6 (.Z 1)),(.nl 3 tI),(.Z 19),(aK aA 9 (.Z 1)),(aK aA 10 (.Z 1)),(aK aA 11 (.Z 1)),(aK aA 12 (.Z 1)),(aQ (.bP9 aJ .bool) 1 (.Z 10))])) (
        .call 10 (.bPB aB aB (.Z 13) (aQ (.bP9 aA (.bP9 tI aI)) 3 (.Z 0))) <|
        .call 11 (.bPB tI tI (aK aA 12 (.Z 1)) (.p1 tI .bool (.Z 19))) <|
        .ite (aQ (.bP9 aJ .bool) 1 (.Z 10)) (
         .ret (bG aA [(.p1 tI dA (.Z 1)),(aK aA 1 (.Z 1)),(aK aA 2 (.Z 1)),(aK aA 3 (.Z 1)),(aK aA 4 (.Z 1)),(.Z 17),(aK aA 6 (.Z 1)),(.nl 3 tI),(aK aA 8 (.Z 1)),(aK aA 9 (.Z 1)),(aK aA 10 (.Z 1)),(aK aA 11 (.Z 1)),(.p1 tI .bool (.Z 20)),(.cb true)])) (
         .ite (aQ (.bP9 tI .bool) 1 (.Z 19)) (
          .ret (bG aA [(.p1 tI dA (.Z 1)),(aK aA 1 (.Z 1)),(aK aA 2 (.Z 1)),(aK aA 3 (.Z 1)),(aK aA 4 (.Z 1)),(.Z 17),(aK aA 6 (.Z 1)),(.nl 3 tI),(aK aA 8 (.Z 1)),(aK aA 9 (.Z 1)),(aK aA 10 (.Z 1)),(aK aA 11 (.Z 1)),(.p1 tI .bool (.Z 20)),(.cb true)])) (
          .ret (bG aA [(.p1 tI dA (.Z 1)),(aK aA 1 (.Z 1)),(aK aA 2 (.Z 1)),(aK aA 3 (.Z 1)),(aK aA 4 (.Z 1)),(.Z 17),(aK aA 6 (.Z 1)),(.nl 3 tI),(aK aA 8 (.Z 1)),(aK aA 9 (.Z 1)),(aK aA 10 (.Z 1)),(aK aA 11 (.Z 1)),(.Z 20)])))))) (
      .call 8 (.p1 aJ .bool (.Z 10)) <|
      .bPA (.lit 186 aD 1) (.bPB tI aJ (aK (.bP9 aA (.bP9 tI aI)) 1 (.Z 0)) (.Z 14)) <|
      .bPA (.bPG 186 aD 32) (.bPB (.slice 186 aD) (.slice 186 aD) (aK aA 5 (.Z 1)) (.Z 15)) <|
      .ite (aQ aA 13 (.Z 1)) (
       .bPA .not (aK aA 3 (.p1 aA (.bP9 tI aI) (.Z 0))) <|
       .ite (.Z 17) (
        .call 9 (.Z 13) <|
        .ret (bG aA [(.p1 tI dA (.Z 1)),(aK aA 1 (.Z 1)),(aK aA 2 (.Z 1)),(aK aA 3 (.Z 1)),(aK aA 4 (.Z 1)),(.Z 16),(aK aA 6 (.Z 1)),(.nl 3 tI),(.Z 18),(aK aA 9 (.Z 1)),(aK aA 10 (.Z 1)),(aK aA 11 (.Z 1)),(aK aA 12 (.Z 1)),(.cb true)])) (
        .call 10 (.bPB aB aB (.Z 13) (aQ (.bP9 aA (.bP9 tI aI)) 3 (.Z 0))) <|
        .call 11 (.bPB tI tI (aK aA 12 (.Z 1)) (.p1 tI .bool (.Z 18))) <|
        .ret (bG aA [(.p1 tI dA (.Z 1)),(aK aA 1 (.Z 1)),(aK aA 2 (.Z 1)),(aK aA 3 (.Z 1)),(aK aA 4 (.Z 1)),(.Z 16),(aK aA 6 (.Z 1)),(.nl 3 tI),(aK aA 8 (.Z 1)),(aK aA 9 (.Z 1)),(aK aA 10 (.Z 1)),(aK aA 11 (.Z 1)),(.p1 tI .bool (.Z 19)),(.cb true)]))) (
       .bPA .not (aK aA 3 (.p1 aA (.bP9 tI aI) (.Z 0))) <|
       .ite (.Z 17) (
        .call 9 (.Z 13) <|
        .ret (bG aA [(.p1 tI dA (.Z 1)),(aK aA 1 (.Z 1)),(aK aA 2 (.Z 1)),(aK aA 3 (.Z 1)),(aK aA 4 (.Z 1)),(.Z 16),(aK aA 6 (.Z 1)),(.nl 3 tI),(.Z 18),(aK aA 9 (.Z 1)),(aK aA 10 (.Z 1)),(aK aA 11 (.Z 1)),(aK aA 12 (.Z 1)),(aQ (.bP9 aJ .bool) 1 (.Z 10))])) (
        .call 10 (.bPB aB aB (.Z 13) (aQ (.bP9 aA (.bP9 tI aI)) 3 (.Z 0))) <|
        .call 11 (.bPB tI tI (aK aA 12 (.Z 1)) (.p1 tI .bool (.Z 18))) <|
        .ite (aQ (.bP9 aJ .bool) 1 (.Z 10)) (
         .ret (bG aA [(.p1 tI dA (.Z 1)),(aK aA 1 (.Z 1)),(aK aA 2 (.Z 1)),(aK aA 3 (.Z 1)),(aK aA 4 (.Z 1)),(.Z 16),(aK aA 6 (.Z 1)),(.nl 3 tI),(aK aA 8 (.Z 1)),(aK aA 9 (.Z 1)),(aK aA 10 (.Z 1)),(aK aA 11 (.Z 1)),(.p1 tI .bool (.Z 19)),(.cb true)])) (
         .ite (aQ (.bP9 tI .bool) 1 (.Z 18)) (
          .ret (bG aA [(.p1 tI dA (.Z 1)),(aK aA 1 (.Z 1)),(aK aA 2 (.Z 1)),(aK aA 3 (.Z 1)),(aK aA 4 (.Z 1)),(.Z 16),(aK aA 6 (.Z 1)),(.nl 3 tI),(aK aA 8 (.Z 1)),(aK aA 9 (.Z 1)),(aK aA 10 (.Z 1)),(aK aA 11 (.Z 1)),(.p1 tI .bool (.Z 19)),(.cb true)])) (
          .ret (bG aA [(.p1 tI dA (.Z 1)),(aK aA 1 (.Z 1)),(aK aA 2 (.Z 1)),(aK aA 3 (.Z 1)),(aK aA 4 (.Z 1)),(.Z 16),(aK aA 6 (.Z 1)),(.nl 3 tI),(aK aA 8 (.Z 1)),(aK aA 9 (.Z 1)),(aK aA 10 (.Z 1)),(aK aA 11 (.Z 1)),(.Z 19)]))))))))))
theorem aSM:bN Tryz.prog [dG,eI,eE,jL,cA,eN,gV,lT,fI,bR,sP,fK] nY false 3000 ⟨[],[(2973,104017,[],[33]),(2971,104018,[73],[]),(2971,72017,[73],[]),(2973,48014,[],[33]),(2971,48015,[73],[]),(2971,32014,[73],[])]⟩ = .ok zI:=by kernel_rfl
theorem aRM (x:bC × (Int × bP)) (hx:okD (.bP9 aA (.bP9 tI aI)) x) (hp:(fun x=>aY aA x.1≤1000000000) x):zI.wp [dG,eI,eE,jL,cA,eN,gV,lT,fI,bR,sP,fK] [⟨(.bP9 aA (.bP9 tI aI)),x⟩] [] (fun v=>v.as aA=(fun x=>aBX x.1 x.2.1 x.2.2.1 x.2.2.2) x):=by
 obtain ⟨s,m,v,t⟩:=x
 delta zI dG eI eE jL cA eN gV lT fI bR sP fK;refine dD ?_
 refine dM ?_
 refine ⟨hp,fun _ _=>⟨fun h=>vZ (.inl h),fun h1 _=>⟨fun h=>vZ (.inr (.inl h)),fun h2 _=>⟨fun h=>vZ (.inr (.inr (.inl h))),fun h3=>?_⟩⟩⟩⟩
 have hm:=(eW s).1 h1
 rw[show zP s.2.2.1 v=_ from if_pos ⟨hm.1,h2⟩]
 have hl:=tF s.2.2.1 v s.2.2.1.length
 have hx6:=aGC h2
 have hn8:=((bY _).1 hm.1).2.1
 have h6:=yA s.2.2.1 v hx6 s.2.2.1.length
 have hy6:(List.getD (kW s.2.2.1 v s.2.2.1.length).1 s.2.2.1.length (aX aB)).length≤6:=aHI h6 _
 have hst:=(iD (t:=aA) hp).2.2.2.2.2.1.1
 replace hst:List.length s.2.2.2.2.2.1≤1000000000:=hst
 constructor
 ·intro hla _
  refine ⟨fun h=>vZ (.inr (.inr (.inr ⟨hla,h⟩))),fun h4=>?_⟩
  have hy:=aJE h1 h2 h3 (fun _=>h4)
  (repeat' first|intro _|(with_reducible apply And.intro))
  all_goals first|omega|exact Bool.noConfusion ((by assumption:s.2.2.2.1=true).symm.trans (by assumption:s.2.2.2.1=false))|(unfold maxLen;omega)|(simp only[List.drop_zero,List.length_take];omega)|exact Nat.le_trans (h6 _ (by assumption)) (by decide)|exact Nat.le_trans (h6 _ (List.mem_of_mem_take (by assumption))) (by decide)|skip
  all_goals first|exact Bool.noConfusion ((by assumption:s.2.2.2.1=true).symm.trans (by assumption:s.2.2.2.1=false))|refine (aJN (by assumption) ?_ ?_ ?_).trans hy|refine (aJH (by assumption) ?_ ?_).trans hy
  all_goals first|rfl|(rw[← aTC (by assumption)])|(rw[← aRT (by assumption)])|exact bD4 (by assumption)|exact bCN (by assumption)|exact bCH (by assumption)|exact bD8 (by assumption) (by assumption) (by assumption)|exact jC (by assumption)|exact mR (by assumption)|(simp[*];done)|skip
 ·intro hla
  have hy:=aJE (t:=t) h1 h2 h3 (fun h=>absurd h (by simp[hla]))
  (repeat' first|intro _|(with_reducible apply And.intro))
  all_goals first|omega|exact Bool.noConfusion ((by assumption:s.2.2.2.1=true).symm.trans (by assumption:s.2.2.2.1=false))|(unfold maxLen;omega)|(simp only[List.drop_zero,List.length_take];omega)|exact Nat.le_trans (h6 _ (by assumption)) (by decide)|exact Nat.le_trans (h6 _ (List.mem_of_mem_take (by assumption))) (by decide)|skip
  all_goals first|exact Bool.noConfusion ((by assumption:s.2.2.2.1=true).symm.trans (by assumption:s.2.2.2.1=false))|refine (aJN (by assumption) ?_ ?_ ?_).trans hy|refine (aJH (by assumption) ?_ ?_).trans hy
  all_goals first|rfl|(rw[← aTC (by assumption)])|(rw[← aRT (by assumption)])|exact bD4 (by assumption)|exact bCN (by assumption)|exact bCH (by assumption)|exact bD8 (by assumption) (by assumption) (by assumption)|exact jC (by assumption)|exact mR (by assumption)|(simp[*];done)|skip
theorem aQI:Con.Holds Tryz.prog nY:=aS aV (aH pV (aH vM (aH vB (aH aG3 (aH kB (aH wT (aH aCU (aH aMW (aH zD (aH iC (aH bB2 (aH zK aT)))))))))))) aSM aRM
noncomputable def oS:Con:=⟨118,(.bP9 aA (.bP9 tI aI)),aA,[.val ⟨true,aA,[]⟩,.val ⟨false,tI,[]⟩,.val ⟨false,aB,[]⟩,.val ⟨false,aB,[]⟩],[⟨true,aA,[0,0,0,0,0,0,0,0,0,0,0,0,0,0]⟩],false,none,
 ((fun x=>aY aA x.1≤1000000000):(bC × (Int × bP))→Prop),
 ((fun x=>aBX x.1 x.2.1 x.2.2.1 x.2.2.2):(bC × (Int × bP))→(bC))⟩
def zN:T:=.call 0 (.p1 aA (.bP9 tI aI) (.Z 0)) <|.call 1 (.p1 aA (.bP9 tI aI) (.Z 0)) <|
 .bPA .not (.Z 2) <|
 .ite (.Z 3) (
  .ret (.Z 1)) (
  .call 2 (aK (.bP9 aA (.bP9 tI aI)) 2 (.Z 0)) <|
  .bPA .not (.Z 4) <|
  .ite (.Z 5) (
   .ret (.Z 1)) (
   .bPA (.bPD 3 tI) (aK (.bP9 aA (.bP9 tI aI)) 2 (.Z 0)) <|
   .bPA (.bPE 219 bD) (.bPB aE tI (aK aA 2 (.p1 aA (.bP9 tI aI) (.Z 0))) (.ci .i64 0)) <|
   .bPA (.cmp .neq .i64) (.bPB tI tI (.Z 6) (aK bD 1 (.Z 7))) <|
   .ite (.Z 8) (
    .ret (.Z 1)) (
    .call 3 (.bPB (.slice 186 aD) tI (aK aA 5 (.p1 aA (.bP9 tI aI) (.Z 0))) (aK (.bP9 aA (.bP9 tI aI)) 1 (.Z 0))) <|
    .bPA (.cmp .geq .i64) (.bPB tI tI (.Z 9) (.ci .i64 0)) <|
    .ite (.Z 10) (
     .ret (.Z 1)) (
     .ite (aK aA 3 (.p1 aA (.bP9 tI aI) (.Z 0))) (
      .call 2 (aQ (.bP9 aA (.bP9 tI aI)) 3 (.Z 0)) <|
      .bPA .not (.Z 11) <|
      .ite (.Z 12) (
       .ret (.Z 1)) (
       .bPA (.bPD 3 tI) (aQ (.bP9 aA (.bP9 tI aI)) 3 (.Z 0)) <|
       .bPA (.bPD 219 bD) (aK aA 2 (.p1 aA (.bP9 tI aI) (.Z 0))) <|
       .bPA (.ar .sub .i64) (.bPB tI tI (.Z 14) (.ci .i64 1)) <|
       .bPA (.bPE 219 bD) (.bPB aE tI (aK aA 2 (.p1 aA (.bP9 tI aI) (.Z 0))) (.Z 15)) <|
       .bPA (.cmp .neq .i64) (.bPB tI tI (.Z 13) (aK bD 2 (.Z 16))) <|
       .ite (.Z 17) (
        .ret (.Z 1)) (
        .call 4 (.bPB aE aB (aK aA 2 (.p1 aA (.bP9 tI aI) (.Z 0))) (aK (.bP9 aA (.bP9 tI aI)) 2 (.Z 0))) <|
        .bPA (.bPD 188 aB) (.p1 aJ .bool (.Z 18)) <|
        .bPA (.ar .sub .i64) (.bPB tI tI (.Z 19) (.ci .i64 1)) <|
        .bPA (.bPE 188 aB) (.bPB aJ tI (.p1 aJ .bool (.Z 18)) (.Z 20)) <|
        .bPA (.bPE 188 aB) (.bPB aJ tI (.p1 aJ .bool (.Z 18)) (.Z 20)) <|
        .ite (aQ aA 13 (.p1 aA (.bP9 tI aI) (.Z 0))) (
         .call 5 (.bPB aB aB (.Z 22) (aQ (.bP9 aA (.bP9 tI aI)) 3 (.Z 0))) <|
         .call 6 (.bPB tI tI (aK aA 12 (.p1 aA (.bP9 tI aI) (.Z 0))) (.p1 tI .bool (.Z 23))) <|
         .ite (aK aA 4 (.p1 aA (.bP9 tI aI) (.Z 0))) (
          .bPA (.bPF 188 aB) (bG (.bP9 aJ aP) [(.p1 aJ .bool (.Z 18)),(.ci .i64 0),(.ci .i64 1)]) <|
          .bPA (.lit 186 aD 1) (.bPB tI aJ (aK (.bP9 aA (.bP9 tI aI)) 1 (.Z 0)) (.Z 25)) <|
          .bPA (.bPG 186 aD 32) (.bPB (.slice 186 aD) (.slice 186 aD) (aK aA 5 (.Z 1)) (.Z 26)) <|
          .ret (bG aA [(.p1 tI dA (.Z 1)),(aK aA 1 (.Z 1)),(aK aA 2 (.Z 1)),(aK aA 3 (.Z 1)),(aK aA 4 (.Z 1)),(.Z 27),(aK aA 6 (.Z 1)),(.nl 3 tI),(aK aA 8 (.Z 1)),(aK aA 9 (.Z 1)),(aK aA 10 (.Z 1)),(aK aA 11 (.Z 1)),(.p1 tI .bool (.Z 24)),(.cb true)])) (
          .bPA (.lit 186 aD 1) (.bPB tI aJ (aK (.bP9 aA (.bP9 tI aI)) 1 (.Z 0)) (.p1 aJ .bool (.Z 18))) <|
          .bPA (.bPG 186 aD 32) (.bPB (.slice 186 aD) (.slice 186 aD) (aK aA 5 (.Z 1)) (.Z 25)) <|
          .ret (bG aA [(.p1 tI dA (.Z 1)),(aK aA 1 (.Z 1)),(aK aA 2 (.Z 1)),(aK aA 3 (.Z 1)),(aK aA 4 (.Z 1)),(.Z 26),(aK aA 6 (.Z 1)),(.nl 3 tI),(aK aA 8 (.Z 1)),(aK aA 9 (.Z 1)),(aK aA 10 (.Z 1)),(aK aA 11 (.Z 1)),(.p1 tI .bool (.Z 24)),(.cb true)]))) (
         .call 5 (.bPB aB aB (.Z 22) (aQ (.bP9 aA (.bP9 tI aI)) 3 (.Z 0))) <|
         .call 6 (.bPB tI tI (aK aA 12 (.p1 aA (.bP9 tI aI) (.Z 0))) (.p1 tI .bool (.Z 23))) <|
         .ite (aQ (.bP9 aJ .bool) 1 (.Z 18)) (
          .ite (aK aA 4 (.p1 aA (.bP9 tI aI) (.Z 0))) (
           .bPA (.bPF 188 aB) (bG (.bP9 aJ aP) [(.p1 aJ .bool (.Z 18)),(.ci .i64 0),(.ci .i64 1)]) <|
           .bPA (.lit 186 aD 1) (.bPB tI aJ (aK (.bP9 aA (.bP9 tI aI)) 1 (.Z 0)) (.Z 25)) <|
           .bPA (.bPG 186 aD 32) (.bPB (.slice 186 aD) (.slice 186 aD) (aK aA 5 (.Z 1)) (.Z 26)) <|
           .ret (bG aA [(.p1 tI dA (.Z 1)),(aK aA 1 (.Z 1)),(aK aA 2 (.Z 1)),(aK aA 3 (.Z 1)),(aK aA 4 (.Z 1)),(.Z 27),(aK aA 6 (.Z 1)),(.nl 3 tI),(aK aA 8 (.Z 1)),(aK aA 9 (.Z 1)),(aK aA 10 (.Z 1)),(aK aA 11 (.Z 1)),(.p1 tI .bool (.Z 24)),(.cb true)])) (
           .bPA (.lit 186 aD 1) (.bPB tI aJ (aK (.bP9 aA (.bP9 tI aI)) 1 (.Z 0)) (.p1 aJ .bool (.Z 18))) <|
           .bPA (.bPG 186 aD 32) (.bPB (.slice 186 aD) (.slice 186 aD) (aK aA 5 (.Z 1)) (.Z 25)) <|
           .ret (bG aA [(.p1 tI dA (.Z 1)),(aK aA 1 (.Z 1)),(aK aA 2 (.Z 1)),(aK aA 3 (.Z 1)),(aK aA 4 (.Z 1)),(.Z 26),(aK aA 6 (.Z 1)),(.nl 3 tI),(aK aA 8 (.Z 1)),(aK aA 9 (.Z 1)),(aK aA 10 (.Z 1)),(aK aA 11 (.Z 1)),(.p1 tI .bool (.Z 24)),(.cb true)]))) (
          .ite (aQ (.bP9 tI .bool) 1 (.Z 23)) (
           .ite (aK aA 4 (.p1 aA (.bP9 tI aI) (.Z 0))) (
            .bPA (.bPF 188 aB) (bG (.bP9 aJ aP) [(.p1 aJ .bool (.Z 18)),(.ci .i64 0),(.ci .i64 1)]) <|
            .bPA (.lit 186 aD 1) (.bPB tI aJ (aK (.bP9 aA (.bP9 tI aI)) 1 (.Z 0)) (.Z 25)) <|
            .bPA (.bPG 186 aD 32) (.bPB (.slice 186 aD) (.slice 186 aD) (aK aA 5 (.Z 1)) (.Z 26)) <|
            .ret (bG aA [(.p1 tI dA (.Z 1)),(aK aA 1 (.Z 1)),(aK aA 2 (.Z 1)),(aK aA 3 (.Z 1)),(aK aA 4 (.Z 1)),(.Z 27),(aK aA 6 (.Z 1)),(.nl 3 tI),(aK aA 8 (.Z 1)),(aK aA 9 (.Z 1)),(aK aA 10 (.Z 1)),(aK aA 11 (.Z 1)),(.p1 tI .bool (.Z 24)),(.cb true)])) (
            .bPA (.lit 186 aD 1) (.bPB tI aJ (aK (.bP9 aA (.bP9 tI aI)) 1 (.Z 0)) (.p1 aJ .bool (.Z 18))) <|
            .bPA (.bPG 186 aD 32) (.bPB (.slice 186 aD) (.slice 186 aD) (aK aA 5 (.Z 1)) (.Z 25)) <|
            .ret (bG aA [(.p1 tI dA (.Z 1)),(aK aA 1 (.Z 1)),(aK aA 2 (.Z 1)),(aK aA 3 (.Z 1)),(aK aA 4 (.Z 1)),(.Z 26),(aK aA 6 (.Z 1)),(.nl 3 tI),(aK aA 8 (.Z 1)),(aK aA 9 (.Z 1)),(aK aA 10 (.Z 1)),(aK aA 11 (.Z 1)),(.p1 tI .bool (.Z 24)),(.cb true)]))) (
           .ite (aK aA 4 (.p1 aA (.bP9 tI aI) (.Z 0))) (
            .bPA (.bPF 188 aB) (bG (.bP9 aJ aP) [(.p1 aJ .bool (.Z 18)),(.ci .i64 0),(.ci .i64 1)]) <|
            .bPA (.lit 186 aD 1) (.bPB tI aJ (aK (.bP9 aA (.bP9 tI aI)) 1 (.Z 0)) (.Z 25)) <|
            .bPA (.bPG 186 aD 32) (.bPB (.slice 186 aD) (.slice 186 aD) (aK aA 5 (.Z 1)) (.Z 26)) <|
            .ret (bG aA [(.p1 tI dA (.Z 1)),(aK aA 1 (.Z 1)),(aK aA 2 (.Z 1)),(aK aA 3 (.Z 1)),(aK aA 4 (.Z 1)),(.Z 27),(aK aA 6 (.Z 1)),(.nl 3 tI),(aK aA 8 (.Z 1)),(aK aA 9 (.Z 1)),(aK aA 10 (.Z 1)),(aK aA 11 (.Z 1)),(.Z 24)])) (
            .bPA (.lit 186 aD 1) (.bPB tI aJ (aK (.bP9 aA (.bP9 tI aI)) 1 (.Z 0)) (.p1 aJ .bool (.Z 18))) <|
            .bPA (.bPG 186 aD 32) (.bPB (.slice 186 aD) (.slice 186 aD) (aK aA 5 (.Z 1)) (.Z 25)) <|
            .ret (bG aA [(.p1 tI dA (.Z 1)),(aK aA 1 (.Z 1)),(aK aA 2 (.Z 1)),(aK aA 3 (.Z 1)),(aK aA 4 (.Z 1)),(.Z 26),(aK aA 6 (.Z 1)),(.nl 3 tI),(aK aA 8 (.Z 1)),(aK aA 9 (.Z 1)),(aK aA 10 (.Z 1)),(aK aA 11 (.Z 1)),(.Z 24)])))))))) (
      .call 4 (.bPB aE aB (aK aA 2 (.p1 aA (.bP9 tI aI) (.Z 0))) (aK (.bP9 aA (.bP9 tI aI)) 2 (.Z 0))) <|
      .bPA (.bPD 188 aB) (.p1 aJ .bool (.Z 11)) <|
      .bPA (.ar .sub .i64) (.bPB tI tI (.Z 12) (.ci .i64 1)) <|
      .bPA (.bPE 188 aB) (.bPB aJ tI (.p1 aJ .bool (.Z 11)) (.Z 13)) <|
      .bPA (.bPE 188 aB) (.bPB aJ tI (.p1 aJ .bool (.Z 11)) (.Z 13)) <|
      .ite (aQ aA 13 (.p1 aA (.bP9 tI aI) (.Z 0))) (
       .bPA (.bPG 3 tI 8) (.bPB aB aB (.nl 3 tI) (.Z 15)) <|
       .ite (aK aA 4 (.p1 aA (.bP9 tI aI) (.Z 0))) (
        .bPA (.bPF 188 aB) (bG (.bP9 aJ aP) [(.p1 aJ .bool (.Z 11)),(.ci .i64 0),(.ci .i64 1)]) <|
        .bPA (.lit 186 aD 1) (.bPB tI aJ (aK (.bP9 aA (.bP9 tI aI)) 1 (.Z 0)) (.Z 17)) <|
        .bPA (.bPG 186 aD 32) (.bPB (.slice 186 aD) (.slice 186 aD) (aK aA 5 (.Z 1)) (.Z 18)) <|
        .ret (bG aA [(.p1 tI dA (.Z 1)),(aK aA 1 (.Z 1)),(aK aA 2 (.Z 1)),(aK aA 3 (.Z 1)),(aK aA 4 (.Z 1)),(.Z 19),(aK aA 6 (.Z 1)),(.nl 3 tI),(.Z 16),(aK aA 9 (.Z 1)),(aK aA 10 (.Z 1)),(aK aA 11 (.Z 1)),(aK aA 12 (.Z 1)),(.cb true)])) (
        .bPA (.lit 186 aD 1) (.bPB tI aJ (aK (.bP9 aA (.bP9 tI aI)) 1 (.Z 0)) (.p1 aJ .bool (.Z 11))) <|
        .bPA (.bPG 186 aD 32) (.bPB (.slice 186 aD) (.slice 186 aD) (aK aA 5 (.Z 1)) (.Z 17)) <|
        .ret (bG aA [(.p1 tI dA (.Z 1)),(aK aA 1 (.Z 1)),(aK aA 2 (.Z 1)),(aK aA 3 (.Z 1)),(aK aA 4 (.Z 1)),(.Z 18),(aK aA 6 (.Z 1)),(.nl 3 tI),(.Z 16),(aK aA 9 (.Z 1)),(aK aA 10 (.Z 1)),(aK aA 11 (.Z 1)),(aK aA 12 (.Z 1)),(.cb true)]))) (
       .bPA (.bPG 3 tI 8) (.bPB aB aB (.nl 3 tI) (.Z 15)) <|
       .ite (aK aA 4 (.p1 aA (.bP9 tI aI) (.Z 0))) (
        .bPA (.bPF 188 aB) (bG (.bP9 aJ aP) [(.p1 aJ .bool (.Z 11)),(.ci .i64 0),(.ci .i64 1)]) <|
        .bPA (.lit 186 aD 1) (.bPB tI aJ (aK (.bP9 aA (.bP9 tI aI)) 1 (.Z 0)) (.Z 17)) <|
        .bPA (.bPG 186 aD 32) (.bPB (.slice 186 aD) (.slice 186 aD) (aK aA 5 (.Z 1)) (.Z 18)) <|
        .ret (bG aA [(.p1 tI dA (.Z 1)),(aK aA 1 (.Z 1)),(aK aA 2 (.Z 1)),(aK aA 3 (.Z 1)),(aK aA 4 (.Z 1)),(.Z 19),(aK aA 6 (.Z 1)),(.nl 3 tI),(.Z 16),(aK aA 9 (.Z 1)),(aK aA 10 (.Z 1)),(aK aA 11 (.Z 1)),(aK aA 12 (.Z 1)),(aQ (.bP9 aJ .bool) 1 (.Z 11))])) (
        .bPA (.lit 186 aD 1) (.bPB tI aJ (aK (.bP9 aA (.bP9 tI aI)) 1 (.Z 0)) (.p1 aJ .bool (.Z 11))) <|
        .bPA (.bPG 186 aD 32) (.bPB (.slice 186 aD) (.slice 186 aD) (aK aA 5 (.Z 1)) (.Z 17)) <|
        .ret (bG aA [(.p1 tI dA (.Z 1)),(aK aA 1 (.Z 1)),(aK aA 2 (.Z 1)),(aK aA 3 (.Z 1)),(aK aA 4 (.Z 1)),(.Z 18),(aK aA 6 (.Z 1)),(.nl 3 tI),(.Z 16),(aK aA 9 (.Z 1)),(aK aA 10 (.Z 1)),(aK aA 11 (.Z 1)),(aK aA 12 (.Z 1)),(aQ (.bP9 aJ .bool) 1 (.Z 11))]))))))))
theorem aSP:bN Tryz.prog [eD,eF,bL,eP,jG,sH,dU] oS false 3000 ⟨[],[(2967,912025,[],[31]),(2965,656025,[],[31]),(2967,1808025,[],[31]),(2965,1296025,[],[31]),(2967,3600025,[],[31]),(2965,2576025,[],[31]),(2967,3088025,[],[31]),(2965,2064025,[],[31]),(2973,224017,[],[31]),(2971,160017,[],[31]),(2973,192017,[],[31]),(2971,128017,[],[31])]⟩ = .ok zN:=by kernel_rfl
set_option maxHeartbeats 1000000 in
theorem aS7 (x:bC × (Int × bP)) (hx:okD (.bP9 aA (.bP9 tI aI)) x) (hp:(fun x=>aY aA x.1≤1000000000) x):zN.wp [eD,eF,bL,eP,jG,sH,dU] [⟨(.bP9 aA (.bP9 tI aI)),x⟩] [] (fun v=>v.as aA=(fun x=>aBX x.1 x.2.1 x.2.2.1 x.2.2.2) x):=by
 obtain ⟨s,m,v,t⟩:=x
 delta zN eD eF bL eP jG sH dU;refine dD ?_
 refine dM ?_
 refine ⟨hp,fun _=>⟨fun h=>vZ (.inl h),fun h1=>⟨fun h=>vZ (.inr (.inl (aCC h).symm)),fun hv _=>?_⟩⟩⟩
 have hm:=(eW s).1 h1
 have hn8:=((bY _).1 hm.1)
 have hin:(List.getD s.2.2.1 0 (aX bD)).2.1=lW s.2.2.1:=by unfold lW;rw[if_pos hm.1];rfl
 have hou:(List.getD s.2.2.1 (s.2.2.1.length - 1) (aX bD)).2.2.1=iE s.2.2.1:=by unfold iE;rw[if_pos hm.1];rfl
 rw[hin]
 refine ⟨⟨by omega,by omega⟩,fun _=>⟨fun h=>vZ (.inr (.inl (Bool.eq_false_iff.2 fun hh=>h ((cI _ _).1 hh).2))),fun hv2 _=>⟨fun h=>vZ (.inr (.inr (.inl h))),fun h3=>?_⟩⟩⟩
 have h2:fB v (lW s.2.2.1)=true:=(cI _ _).2 ⟨hv,hv2⟩
 have hl:=tF s.2.2.1 v s.2.2.1.length
 have hx6:=aGC h2
 have h6:=yA s.2.2.1 v hx6 s.2.2.1.length
 have hy6:(List.getD (kW s.2.2.1 v s.2.2.1.length).1 s.2.2.1.length (aX aB)).length≤6:=aHI h6 _
 have hst:=(iD (t:=aA) hp).2.2.2.2.2.1.1
 replace hst:List.length s.2.2.2.2.2.1≤1000000000:=hst
 constructor
 ·intro hla
  refine ⟨fun h=>vZ (.inr (.inr (.inr ⟨hla,(aCC h).symm⟩))),fun ht _ _=>⟨by omega,fun _=>⟨by omega,fun _=>?_⟩⟩⟩
  rw[hou]
  refine ⟨fun h=>vZ (.inr (.inr (.inr ⟨hla,Bool.eq_false_iff.2 fun hh=>h ((cI _ _).1 hh).2⟩))),fun ht2=>?_⟩
  simp only[hl,Nat.add_sub_cancel]
  have hy:=aJE h1 h2 h3 (fun _=>(cI _ _).2 ⟨ht,ht2⟩)
  (repeat' first|intro _|(with_reducible apply And.intro))
  all_goals first|omega|exact Bool.noConfusion ((by assumption:s.2.2.2.1=true).symm.trans (by assumption:s.2.2.2.1=false))|(unfold maxLen;omega)|(simp only[List.drop_zero,List.length_take];omega)|exact Nat.le_trans (h6 _ (by assumption)) (by decide)|exact Nat.le_trans (h6 _ (List.mem_of_mem_take (by assumption))) (by decide)|skip
  all_goals first|exact Bool.noConfusion ((by assumption:s.2.2.2.1=true).symm.trans (by assumption:s.2.2.2.1=false))|refine (aJN (by assumption) ?_ ?_ ?_).trans hy|refine (aJH (by assumption) ?_ ?_).trans hy
  all_goals first|rfl|(rw[← aTC (by assumption)])|(rw[← aRT (by assumption)])|exact bD4 (by assumption)|exact bCN (by assumption)|exact bCH (by assumption)|exact bD8 (by assumption) (by assumption) (by assumption)|exact jC (by assumption)|exact mR (by assumption)|(simp[*];done)|skip
 ·intro hla
  simp only[hl,Nat.add_sub_cancel]
  have hy:=aJE (t:=t) h1 h2 h3 (fun h=>absurd h (by simp[hla]))
  (repeat' first|intro _|(with_reducible apply And.intro))
  all_goals first|omega|exact Bool.noConfusion ((by assumption:s.2.2.2.1=true).symm.trans (by assumption:s.2.2.2.1=false))|(unfold maxLen;omega)|(simp only[List.drop_zero,List.length_take];omega)|exact Nat.le_trans (h6 _ (by assumption)) (by decide)|exact Nat.le_trans (h6 _ (List.mem_of_mem_take (by assumption))) (by decide)|skip
  all_goals first|exact Bool.noConfusion ((by assumption:s.2.2.2.1=true).symm.trans (by assumption:s.2.2.2.1=false))|refine (aJN (by assumption) ?_ ?_ ?_).trans hy|refine (aJH (by assumption) ?_ ?_).trans hy
  all_goals first|rfl|(rw[← aTC (by assumption)])|(rw[← aRT (by assumption)])|exact bD4 (by assumption)|exact bCN (by assumption)|exact bCH (by assumption)|exact bD8 (by assumption) (by assumption) (by assumption)|exact jC (by assumption)|exact mR (by assumption)|(simp[*];done)|skip
set_option maxHeartbeats 1000000 in
theorem aSE:Con.Holds Tryz.prog oS:=aS aV (aH vJ (aH vL (aH fT (aH wJ (aH aG5 (aH bB5 (aH sW aT))))))) aSP aS7
end Go.Proofs.YtmfpkkbhnmkfdaaGreat
