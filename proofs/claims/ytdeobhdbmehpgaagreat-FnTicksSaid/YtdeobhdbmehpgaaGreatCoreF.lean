/- CoreF: lemmas. No conditions. -/
import Derived.Test.YtdeobhdbmehpgaaGreatCore7
namespace Go.Proofs.YtdeobhdbmehpgaaGreat
set_option maxRecDepth 100000
open Go.ChangeShapes Go.WideShapes Go.ChangeAt Go.RowKit Go.Deep
set_option linter.unusedVariables false
set_option linter.unusedSimpArgs false
noncomputable def nH:Con:=⟨80,(.bNT aA (.bNT tI aM)),aA,[.val ⟨true,aA,[]⟩,.val ⟨false,tI,[]⟩,.val ⟨false,aB,[]⟩,.val ⟨false,aB,[]⟩],[⟨true,aA,[0,2,2,0,0,2,2,2,2,2,2,2,0,0]⟩],false,none,
 ((fun x=>bQ aA x.1≤1000000000):(bA × (Int × bP))→Prop),
 ((fun x=>yU x.1 x.2.1 x.2.2.1 x.2.2.2):(bA × (Int × bP))→(bA))⟩
def xP:T:=.call 0 (.p1 aA (.bNT tI aM) (.Z 0)) <|.call 1 (.p1 aA (.bNT tI aM) (.Z 0)) <|.call 2 (.p1 aA (.bNT tI aM) (.Z 0)) <|
 .bNU .not (.Z 3) <|
 .ite (.Z 4) (
  .ret (.Z 1)) (
  .call 3 (.Z 2) <|
  .call 4 (.bNV aB tI (aJ (.bNT aA (.bNT tI aM)) 2 (.Z 0)) (.Z 5)) <|
  .bNU .not (.Z 6) <|
  .ite (.Z 7) (
   .ret (.Z 1)) (
   .call 5 (.bNV (.slice 80 aD) tI (aJ aA 5 (.p1 aA (.bNT tI aM) (.Z 0))) (aJ (.bNT aA (.bNT tI aM)) 1 (.Z 0))) <|
   .bNU (.cmp .geq .i64) (.bNV tI tI (.Z 8) (.ci .i64 0)) <|
   .ite (.Z 9) (
    .ret (.Z 1)) (
    .ite (aJ aA 3 (.p1 aA (.bNT tI aM) (.Z 0))) (
     .call 6 (.Z 2) <|
     .call 4 (.bNV aB tI (aO (.bNT aA (.bNT tI aM)) 3 (.Z 0)) (.Z 10)) <|
     .bNU .not (.Z 11) <|
     .ite (.Z 12) (
      .ret (.Z 1)) (
      .call 7 (.bNV aK aB (.Z 2) (aJ (.bNT aA (.bNT tI aM)) 2 (.Z 0))) <|
      .bNU (.bNX 78 bG) (aJ aA 2 (.p1 aA (.bNT tI aM) (.Z 0))) <|
      .bNU (.bNY 112 aB) (.bNV aI tI (.p1 aI .bool (.Z 13)) (.Z 14)) <|
      .bNU (.bNY 112 aB) (.bNV aI tI (.p1 aI .bool (.Z 13)) (.Z 14)) <|
      .ite (aJ aA 4 (.p1 aA (.bNT tI aM) (.Z 0))) (
       .bNU (.bNZ 112 aB) (bB (.bNT aI aE) [(.p1 aI .bool (.Z 13)),(.ci .i64 0),(.ci .i64 1)]) <|
       .call 8 (.Z 17) <|
       .bNU (.lit 80 aD 1) (.bNV tI aI (aJ (.bNT aA (.bNT tI aM)) 1 (.Z 0)) (.Z 18)) <|
       .bNU (.bO0 80 aD 32) (.bNV (.slice 80 aD) (.slice 80 aD) (aJ aA 5 (.Z 1)) (.Z 19)) <|
       .ite (aO aA 13 (.Z 1)) (
        .bNU .not (aJ aA 3 (.p1 aA (.bNT tI aM) (.Z 0))) <|
        .ite (.Z 21) (
         .call 9 (.Z 16) <|
         .ret (bB aA [(.p1 tI cU (.Z 1)),(aJ aA 1 (.Z 1)),(aJ aA 2 (.Z 1)),(aJ aA 3 (.Z 1)),(aJ aA 4 (.Z 1)),(.Z 20),(aJ aA 6 (.Z 1)),(.nl 3 tI),(.Z 22),(aJ aA 9 (.Z 1)),(aJ aA 10 (.Z 1)),(aJ aA 11 (.Z 1)),(aJ aA 12 (.Z 1)),(.cb true)])) (
         .call 10 (.bNV aB aB (.Z 16) (aO (.bNT aA (.bNT tI aM)) 3 (.Z 0))) <|
         .call 11 (.bNV tI tI (aJ aA 12 (.Z 1)) (.p1 tI .bool (.Z 22))) <|
         .ret (bB aA [(.p1 tI cU (.Z 1)),(aJ aA 1 (.Z 1)),(aJ aA 2 (.Z 1)),(aJ aA 3 (.Z 1)),(aJ aA 4 (.Z 1)),(.Z 20),(aJ aA 6 (.Z 1)),(.nl 3 tI),(aJ aA 8 (.Z 1)),(aJ aA 9 (.Z 1)),(aJ aA 10 (.Z 1)),(aJ aA 11 (.Z 1)),(.p1 tI .bool (.Z 23)),(.cb true)]))) (
        .bNU .not (aJ aA 3 (.p1 aA (.bNT tI aM) (.Z 0))) <|
        .ite (.Z 21) (
         .call 9 (.Z 16) <|
         .ret (bB aA [(.p1 tI cU (.Z 1)),(aJ aA 1 (.Z 1)),(aJ aA 2 (.Z 1)),(aJ aA 3 (.Z 1)),(aJ aA 4 (.Z 1)),(.Z 20),(aJ aA 6 (.Z 1)),(.nl 3 tI),(.Z 22),(aJ aA 9 (.Z 1)),(aJ aA 10 (.Z 1)),(aJ aA 11 (.Z 1)),(aJ aA 12 (.Z 1)),(aO (.bNT aI .bool) 1 (.Z 13))])) (
         .call 10 (.bNV aB aB (.Z 16) (aO (.bNT aA (.bNT tI aM)) 3 (.Z 0))) <|
         .call 11 (.bNV tI tI (aJ aA 12 (.Z 1)) (.p1 tI .bool (.Z 22))) <|
         .ite (aO (.bNT aI .bool) 1 (.Z 13)) (
          .ret (bB aA [(.p1 tI cU (.Z 1)),(aJ aA 1 (.Z 1)),(aJ aA 2 (.Z 1)),(aJ aA 3 (.Z 1)),(aJ aA 4 (.Z 1)),(.Z 20),(aJ aA 6 (.Z 1)),(.nl 3 tI),(aJ aA 8 (.Z 1)),(aJ aA 9 (.Z 1)),(aJ aA 10 (.Z 1)),(aJ aA 11 (.Z 1)),(.p1 tI .bool (.Z 23)),(.cb true)])) (
          .ite (aO (.bNT tI .bool) 1 (.Z 22)) (
           .ret (bB aA [(.p1 tI cU (.Z 1)),(aJ aA 1 (.Z 1)),(aJ aA 2 (.Z 1)),(aJ aA 3 (.Z 1)),(aJ aA 4 (.Z 1)),(.Z 20),(aJ aA 6 (.Z 1)),(.nl 3 tI),(aJ aA 8 (.Z 1)),(aJ aA 9 (.Z 1)),(aJ aA 10 (.Z 1)),(aJ aA 11 (.Z 1)),(.p1 tI .bool (.Z 23)),(.cb true)])) (
           .ret (bB aA [(.p1 tI cU (.Z 1)),(aJ aA 1 (.Z 1)),(aJ aA 2 (.Z 1)),(aJ aA 3 (.Z 1)),(aJ aA 4 (.Z 1)),(.Z 20),(aJ aA 6 (.Z 1)),(.nl 3 tI),(aJ aA 8 (.Z 1)),(aJ aA 9 (.Z 1)),(aJ aA 10 (.Z 1)),(aJ aA 11 (.Z 1)),(.Z 23)])))))) (
       .call 8 (.p1 aI .bool (.Z 13)) <|
       .bNU (.lit 80 aD 1) (.bNV tI aI (aJ (.bNT aA (.bNT tI aM)) 1 (.Z 0)) (.Z 17)) <|
       .bNU (.bO0 80 aD 32) (.bNV (.slice 80 aD) (.slice 80 aD) (aJ aA 5 (.Z 1)) (.Z 18)) <|
       .ite (aO aA 13 (.Z 1)) (
        .bNU .not (aJ aA 3 (.p1 aA (.bNT tI aM) (.Z 0))) <|
        .ite (.Z 20) (
         .call 9 (.Z 16) <|
         .ret (bB aA [(.p1 tI cU (.Z 1)),(aJ aA 1 (.Z 1)),(aJ aA 2 (.Z 1)),(aJ aA 3 (.Z 1)),(aJ aA 4 (.Z 1)),(.Z 19),(aJ aA 6 (.Z 1)),(.nl 3 tI),(.Z 21),(aJ aA 9 (.Z 1)),(aJ aA 10 (.Z 1)),(aJ aA 11 (.Z 1)),(aJ aA 12 (.Z 1)),(.cb true)])) (
         .call 10 (.bNV aB aB (.Z 16) (aO (.bNT aA (.bNT tI aM)) 3 (.Z 0))) <|
         .call 11 (.bNV tI tI (aJ aA 12 (.Z 1)) (.p1 tI .bool (.Z 21))) <|
         .ret (bB aA [(.p1 tI cU (.Z 1)),(aJ aA 1 (.Z 1)),(aJ aA 2 (.Z 1)),(aJ aA 3 (.Z 1)),(aJ aA 4 (.Z 1)),(.Z 19),(aJ aA 6 (.Z 1)),(.nl 3 tI),(aJ aA 8 (.Z 1)),(aJ aA 9 (.Z 1)),(aJ aA 10 (.Z 1)),(aJ aA 11 (.Z 1)),(.p1 tI .bool (.Z 22)),(.cb true)]))) (
        .bNU .not (aJ aA 3 (.p1 aA (.bNT tI aM) (.Z 0))) <|
        .ite (.Z 20) (
         .call 9 (.Z 16) <|
         .ret (bB aA [(.p1 tI cU (.Z 1)),(aJ aA 1 (.Z 1)),(aJ aA 2 (.Z 1)),(aJ aA 3 (.Z 1)),(aJ aA 4 (.Z 1)),(.Z 19),(aJ aA 6 (.Z 1)),(.nl 3 tI),(.Z 21),(aJ aA 9 (.Z 1)),(aJ aA 10 (.Z 1)),(aJ aA 11 (.Z 1)),(aJ aA 12 (.Z 1)),(aO (.bNT aI .bool) 1 (.Z 13))])) (
         .call 10 (.bNV aB aB (.Z 16) (aO (.bNT aA (.bNT tI aM)) 3 (.Z 0))) <|
         .call 11 (.bNV tI tI (aJ aA 12 (.Z 1)) (.p1 tI .bool (.Z 21))) <|
         .ite (aO (.bNT aI .bool) 1 (.Z 13)) (
          .ret (bB aA [(.p1 tI cU (.Z 1)),(aJ aA 1 (.Z 1)),(aJ aA 2 (.Z 1)),(aJ aA 3 (.Z 1)),(aJ aA 4 (.Z 1)),(.Z 19),(aJ aA 6 (.Z 1)),(.nl 3 tI),(aJ aA 8 (.Z 1)),(aJ aA 9 (.Z 1)),(aJ aA 10 (.Z 1)),(aJ aA 11 (.Z 1)),(.p1 tI .bool (.Z 22)),(.cb true)])) (
          .ite (aO (.bNT tI .bool) 1 (.Z 21)) (
           .ret (bB aA [(.p1 tI cU (.Z 1)),(aJ aA 1 (.Z 1)),(aJ aA 2 (.Z 1)),(aJ aA 3 (.Z 1)),(aJ aA 4 (.Z 1)),(.Z 19),(aJ aA 6 (.Z 1)),(.nl 3 tI),(aJ aA 8 (.Z 1)),(aJ aA 9 (.Z 1)),(aJ aA 10 (.Z 1)),(aJ aA 11 (.Z 1)),(.p1 tI .bool (.Z 22)),(.cb true)])) (
           .ret (bB aA [(.p1 tI cU (.Z 1)),(aJ aA 1 (.Z 1)),(aJ aA 2 (.Z 1)),(aJ aA 3 (.Z 1)),(aJ aA 4 (.Z 1)),(.Z 19),(aJ aA 6 (.Z 1)),(.nl 3 tI),(aJ aA 8 (.Z 1)),(aJ aA 9 (.Z 1)),(aJ aA 10 (.Z 1)),(aJ aA 11 (.Z 1)),(.Z 22)])))))))) (
     .call 7 (.bNV aK aB (.Z 2) (aJ (.bNT aA (.bNT tI aM)) 2 (.Z 0))) <|
     .bNU (.bNX 78 bG) (aJ aA 2 (.p1 aA (.bNT tI aM) (.Z 0))) <|
     .bNU (.bNY 112 aB) (.bNV aI tI (.p1 aI .bool (.Z 10)) (.Z 11)) <|
     .bNU (.bNY 112 aB) (.bNV aI tI (.p1 aI .bool (.Z 10)) (.Z 11)) <|
     .ite (aJ aA 4 (.p1 aA (.bNT tI aM) (.Z 0))) (
      .bNU (.bNZ 112 aB) (bB (.bNT aI aE) [(.p1 aI .bool (.Z 10)),(.ci .i64 0),(.ci .i64 1)]) <|
      .call 8 (.Z 14) <|
      .bNU (.lit 80 aD 1) (.bNV tI aI (aJ (.bNT aA (.bNT tI aM)) 1 (.Z 0)) (.Z 15)) <|
      .bNU (.bO0 80 aD 32) (.bNV (.slice 80 aD) (.slice 80 aD) (aJ aA 5 (.Z 1)) (.Z 16)) <|
      .ite (aO aA 13 (.Z 1)) (
       .bNU .not (aJ aA 3 (.p1 aA (.bNT tI aM) (.Z 0))) <|
       .ite (.Z 18) (
        .call 9 (.Z 13) <|
        .ret (bB aA [(.p1 tI cU (.Z 1)),(aJ aA 1 (.Z 1)),(aJ aA 2 (.Z 1)),(aJ aA 3 (.Z 1)),(aJ aA 4 (.Z 1)),(.Z 17),(aJ aA 6 (.Z 1)),(.nl 3 tI),(.Z 19),(aJ aA 9 (.Z 1)),(aJ aA 10 (.Z 1)),(aJ aA 11 (.Z 1)),(aJ aA 12 (.Z 1)),(.cb true)])) (
        .call 10 (.bNV aB aB (.Z 13) (aO (.bNT aA (.bNT tI aM)) 3 (.Z 0))) <|
        .call 11 (.bNV tI tI (aJ aA 12 (.Z 1)) (.p1 tI .bool (.Z 19))) <|
        .ret (bB aA [(.p1 tI cU (.Z 1)),(aJ aA 1 (.Z 1)),(aJ aA 2 (.Z 1)),(aJ aA 3 (.Z 1)),(aJ aA 4 (.Z 1)),(.Z 17),(aJ aA 6 (.Z 1)),(.nl 3 tI),(aJ aA 8 (.Z 1)),(aJ aA 9 (.Z 1)),(aJ aA 10 (.Z 1)),(aJ aA 11 (.Z 1)),(.p1 tI .bool (.Z 20)),(.cb true)]))) (
       .bNU .not (aJ aA 3 (.p1 aA (.bNT tI aM) (.Z 0))) <|
       .ite (.Z 18) (
        .call 9 (.Z 13) <|
        .ret (bB aA [(.p1 tI cU (.Z 1)),(aJ aA 1 (.Z 1)),(aJ aA 2 (.Z 1)),(aJ aA 3 (.Z 1)),(aJ aA 4 (.Z 1)),(.Z 17),(aJ aA 6 (.Z 1)),(.nl 3 tI),(.Z 19),(aJ aA 9 (.Z 1)),(aJ aA 10 (.Z 1)),(aJ aA 11 (.Z 1)),(aJ aA 12 (.Z 1)),(aO (.bNT aI .bool) 1 (.Z 10))])) (
        .call 10 (.bNV aB aB (.Z 13) (aO (.bNT aA (.bNT tI aM)) 3 (.Z 0))) <|
        .call 11 (.bNV tI tI (aJ aA 12 (.Z 1)) (.p1 tI .bool (.Z 19))) <|
        .ite (aO (.bNT aI .bool) 1 (.Z 10)) (
         .ret (bB aA [(.p1 tI cU (.Z 1)),(aJ aA 1 (.Z 1)),(aJ aA 2 (.Z 1)),(aJ aA 3 (.Z 1)),(aJ aA 4 (.Z 1)),(.Z 17),(aJ aA 6 (.Z 1)),(.nl 3 tI),(aJ aA 8 (.Z 1)),(aJ aA 9 (.Z 1)),(aJ aA 10 (.Z 1)),(aJ aA 11 (.Z 1)),(.p1 tI .bool (.Z 20)),(.cb true)])) (
         .ite (aO (.bNT tI .bool) 1 (.Z 19)) (
          .ret (bB aA [(.p1 tI cU (.Z 1)),(aJ aA 1 (.Z 1)),(aJ aA 2 (.Z 1)),(aJ aA 3 (.Z 1)),(aJ aA 4 (.Z 1)),(.Z 17),(aJ aA 6 (.Z 1)),(.nl 3 tI),(aJ aA 8 (.Z 1)),(aJ aA 9 (.Z 1)),(aJ aA 10 (.Z 1)),(aJ aA 11 (.Z 1)),(.p1 tI .bool (.Z 20)),(.cb true)])) (
          .ret (bB aA [(.p1 tI cU (.Z 1)),(aJ aA 1 (.Z 1)),(aJ aA 2 (.Z 1)),(aJ aA 3 (.Z 1)),(aJ aA 4 (.Z 1)),(.Z 17),(aJ aA 6 (.Z 1)),(.nl 3 tI),(aJ aA 8 (.Z 1)),(aJ aA 9 (.Z 1)),(aJ aA 10 (.Z 1)),(aJ aA 11 (.Z 1)),(.Z 20)])))))) (
      .call 8 (.p1 aI .bool (.Z 10)) <|
      .bNU (.lit 80 aD 1) (.bNV tI aI (aJ (.bNT aA (.bNT tI aM)) 1 (.Z 0)) (.Z 14)) <|
      .bNU (.bO0 80 aD 32) (.bNV (.slice 80 aD) (.slice 80 aD) (aJ aA 5 (.Z 1)) (.Z 15)) <|
      .ite (aO aA 13 (.Z 1)) (
       .bNU .not (aJ aA 3 (.p1 aA (.bNT tI aM) (.Z 0))) <|
       .ite (.Z 17) (
        .call 9 (.Z 13) <|
        .ret (bB aA [(.p1 tI cU (.Z 1)),(aJ aA 1 (.Z 1)),(aJ aA 2 (.Z 1)),(aJ aA 3 (.Z 1)),(aJ aA 4 (.Z 1)),(.Z 16),(aJ aA 6 (.Z 1)),(.nl 3 tI),(.Z 18),(aJ aA 9 (.Z 1)),(aJ aA 10 (.Z 1)),(aJ aA 11 (.Z 1)),(aJ aA 12 (.Z 1)),(.cb true)])) (
        .call 10 (.bNV aB aB (.Z 13) (aO (.bNT aA (.bNT tI aM)) 3 (.Z 0))) <|
        .call 11 (.bNV tI tI (aJ aA 12 (.Z 1)) (.p1 tI .bool (.Z 18))) <|
        .ret (bB aA [(.p1 tI cU (.Z 1)),(aJ aA 1 (.Z 1)),(aJ aA 2 (.Z 1)),(aJ aA 3 (.Z 1)),(aJ aA 4 (.Z 1)),(.Z 16),(aJ aA 6 (.Z 1)),(.nl 3 tI),(aJ aA 8 (.Z 1)),(aJ aA 9 (.Z 1)),(aJ aA 10 (.Z 1)),(aJ aA 11 (.Z 1)),(.p1 tI .bool (.Z 19)),(.cb true)]))) (
       .bNU .not (aJ aA 3 (.p1 aA (.bNT tI aM) (.Z 0))) <|
       .ite (.Z 17) (
        .call 9 (.Z 13) <|
        .ret (bB aA [(.p1 tI cU (.Z 1)),(aJ aA 1 (.Z 1)),(aJ aA 2 (.Z 1)),(aJ aA 3 (.Z 1)),(aJ aA 4 (.Z 1)),(.Z 16),(aJ aA 6 (.Z 1)),(.nl 3 tI),(.Z 18),(aJ aA 9 (.Z 1)),(aJ aA 10 (.Z 1)),(aJ aA 11 (.Z 1)),(aJ aA 12 (.Z 1)),(aO (.bNT aI .bool) 1 (.Z 10))])) (
        .call 10 (.bNV aB aB (.Z 13) (aO (.bNT aA (.bNT tI aM)) 3 (.Z 0))) <|
        .call 11 (.bNV tI tI (aJ aA 12 (.Z 1)) (.p1 tI .bool (.Z 18))) <|
        .ite (aO (.bNT aI .bool) 1 (.Z 10)) (
         .ret (bB aA [(.p1 tI cU (.Z 1)),(aJ aA 1 (.Z 1)),(aJ aA 2 (.Z 1)),(aJ aA 3 (.Z 1)),(aJ aA 4 (.Z 1)),(.Z 16),(aJ aA 6 (.Z 1)),(.nl 3 tI),(aJ aA 8 (.Z 1)),(aJ aA 9 (.Z 1)),(aJ aA 10 (.Z 1)),(aJ aA 11 (.Z 1)),(.p1 tI .bool (.Z 19)),(.cb true)])) (
         .ite (aO (.bNT tI .bool) 1 (.Z 18)) (
          .ret (bB aA [(.p1 tI cU (.Z 1)),(aJ aA 1 (.Z 1)),(aJ aA 2 (.Z 1)),(aJ aA 3 (.Z 1)),(aJ aA 4 (.Z 1)),(.Z 16),(aJ aA 6 (.Z 1)),(.nl 3 tI),(aJ aA 8 (.Z 1)),(aJ aA 9 (.Z 1)),(aJ aA 10 (.Z 1)),(aJ aA 11 (.Z 1)),(.p1 tI .bool (.Z 19)),(.cb true)])) (
          .ret (bB aA [(.p1 tI cU (.Z 1)),(aJ aA 1 (.Z 1)),(aJ aA 2 (.Z 1)),(aJ aA 3 (.Z 1)),(aJ aA 4 (.Z 1)),(.Z 16),(aJ aA 6 (.Z 1)),(.nl 3 tI),(aJ aA 8 (.Z 1)),(aJ aA 9 (.Z 1)),(aJ aA 10 (.Z 1)),(aJ aA 11 (.Z 1)),(.Z 19)]))))))))))
theorem aPX:bM Tryz.prog [dA,dV,dY,kS,cB,eD,jC,lD,eT,bN,sG,fB] nH false 3000 ⟨[],[(2973,104017,[],[33]),(2971,104018,[73],[]),(2971,72017,[73],[]),(2973,48014,[],[33]),(2971,48015,[73],[]),(2971,32014,[73],[])]⟩ = .ok xP:=by kernel_rfl
theorem aP9 (x:bA × (Int × bP)) (hx:okD (.bNT aA (.bNT tI aM)) x) (hp:(fun x=>bQ aA x.1≤1000000000) x):xP.wp [dA,dV,dY,kS,cB,eD,jC,lD,eT,bN,sG,fB] [⟨(.bNT aA (.bNT tI aM)),x⟩] [] (fun v=>v.as aA=(fun x=>yU x.1 x.2.1 x.2.2.1 x.2.2.2) x):=by
 obtain ⟨s,m,v,t⟩:=x
 delta xP dA dV dY kS cB eD jC lD eT bN sG fB;refine dB ?_
 refine dT ?_
 refine ⟨hp,fun _ _=>⟨fun h=>uZ (.inl h),fun h1 _=>⟨fun h=>uZ (.inr (.inl h)),fun h2 _=>⟨fun h=>uZ (.inr (.inr (.inl h))),fun h3=>?_⟩⟩⟩⟩
 have hm:=(eI s).1 h1
 rw[show xE s.2.2.1 v=_ from if_pos ⟨hm.1,h2⟩]
 have hl:=sH s.2.2.1 v s.2.2.1.length
 have hx6:=aFS h2
 have hn8:=((bR _).1 hm.1).2.1
 have h6:=wB s.2.2.1 v hx6 s.2.2.1.length
 have hy6:(List.getD (jO s.2.2.1 v s.2.2.1.length).1 s.2.2.1.length (aV aB)).length≤6:=aHB h6 _
 have hst:=(kA (t:=aA) hp).2.2.2.2.2.1.1
 replace hst:List.length s.2.2.2.2.2.1≤1000000000:=hst
 constructor
 ·intro hla _
  refine ⟨fun h=>uZ (.inr (.inr (.inr ⟨hla,h⟩))),fun h4=>?_⟩
  have hy:=aIP h1 h2 h3 (fun _=>h4)
  (repeat' first|intro _|(with_reducible apply And.intro))
  all_goals first|omega|exact Bool.noConfusion ((by assumption:s.2.2.2.1=true).symm.trans (by assumption:s.2.2.2.1=false))|(unfold maxLen;omega)|(simp only[List.drop_zero,List.length_take];omega)|exact Nat.le_trans (h6 _ (by assumption)) (by decide)|exact Nat.le_trans (h6 _ (List.mem_of_mem_take (by assumption))) (by decide)|skip
  all_goals first|exact Bool.noConfusion ((by assumption:s.2.2.2.1=true).symm.trans (by assumption:s.2.2.2.1=false))|refine (aIN (by assumption) ?_ ?_ ?_).trans hy|refine (aIM (by assumption) ?_ ?_).trans hy
  all_goals first|rfl|(rw[← aQG (by assumption)])|(rw[← aRA (by assumption)])|exact bB0 (by assumption)|exact bBR (by assumption)|exact bBT (by assumption)|exact bAL (by assumption) (by assumption) (by assumption)|exact iC (by assumption)|exact lL (by assumption)|(simp[*];done)|skip
 ·intro hla
  have hy:=aIP (t:=t) h1 h2 h3 (fun h=>absurd h (by simp[hla]))
  (repeat' first|intro _|(with_reducible apply And.intro))
  all_goals first|omega|exact Bool.noConfusion ((by assumption:s.2.2.2.1=true).symm.trans (by assumption:s.2.2.2.1=false))|(unfold maxLen;omega)|(simp only[List.drop_zero,List.length_take];omega)|exact Nat.le_trans (h6 _ (by assumption)) (by decide)|exact Nat.le_trans (h6 _ (List.mem_of_mem_take (by assumption))) (by decide)|skip
  all_goals first|exact Bool.noConfusion ((by assumption:s.2.2.2.1=true).symm.trans (by assumption:s.2.2.2.1=false))|refine (aIN (by assumption) ?_ ?_ ?_).trans hy|refine (aIM (by assumption) ?_ ?_).trans hy
  all_goals first|rfl|(rw[← aQG (by assumption)])|(rw[← aRA (by assumption)])|exact bB0 (by assumption)|exact bBR (by assumption)|exact bBT (by assumption)|exact bAL (by assumption) (by assumption) (by assumption)|exact iC (by assumption)|exact lL (by assumption)|(simp[*];done)|skip
theorem aQN:Con.Holds Tryz.prog nH:=aS aW (aH oK (aH tP (aH tK (aH aL5 (aH jT (aH uD (aH aFV (aH aJA (aH xC (aH gK (aH aWH (aH yB aR)))))))))))) aPX aP9
noncomputable def nL:Con:=⟨96,(.bNT aA (.bNT tI aM)),aA,[.val ⟨true,aA,[]⟩,.val ⟨false,tI,[]⟩,.val ⟨false,aB,[]⟩,.val ⟨false,aB,[]⟩],[⟨true,aA,[0,0,0,0,0,0,0,0,0,0,0,0,0,0]⟩],false,none,
 ((fun x=>bQ aA x.1≤1000000000):(bA × (Int × bP))→Prop),
 ((fun x=>yU x.1 x.2.1 x.2.2.1 x.2.2.2):(bA × (Int × bP))→(bA))⟩
def yJ:T:=.call 0 (.p1 aA (.bNT tI aM) (.Z 0)) <|.call 1 (.p1 aA (.bNT tI aM) (.Z 0)) <|
 .bNU .not (.Z 2) <|
 .ite (.Z 3) (
  .ret (.Z 1)) (
  .call 2 (aJ (.bNT aA (.bNT tI aM)) 2 (.Z 0)) <|
  .bNU .not (.Z 4) <|
  .ite (.Z 5) (
   .ret (.Z 1)) (
   .bNU (.bNX 3 tI) (aJ (.bNT aA (.bNT tI aM)) 2 (.Z 0)) <|
   .bNU (.bNY 78 bG) (.bNV aK tI (aJ aA 2 (.p1 aA (.bNT tI aM) (.Z 0))) (.ci .i64 0)) <|
   .bNU (.cmp .neq .i64) (.bNV tI tI (.Z 6) (aJ bG 1 (.Z 7))) <|
   .ite (.Z 8) (
    .ret (.Z 1)) (
    .call 3 (.bNV (.slice 80 aD) tI (aJ aA 5 (.p1 aA (.bNT tI aM) (.Z 0))) (aJ (.bNT aA (.bNT tI aM)) 1 (.Z 0))) <|
    .bNU (.cmp .geq .i64) (.bNV tI tI (.Z 9) (.ci .i64 0)) <|
    .ite (.Z 10) (
     .ret (.Z 1)) (
     .ite (aJ aA 3 (.p1 aA (.bNT tI aM) (.Z 0))) (
      .call 2 (aO (.bNT aA (.bNT tI aM)) 3 (.Z 0)) <|
      .bNU .not (.Z 11) <|
      .ite (.Z 12) (
       .ret (.Z 1)) (
       .bNU (.bNX 3 tI) (aO (.bNT aA (.bNT tI aM)) 3 (.Z 0)) <|
       .bNU (.bNX 78 bG) (aJ aA 2 (.p1 aA (.bNT tI aM) (.Z 0))) <|
       .bNU (.ar .sub .i64) (.bNV tI tI (.Z 14) (.ci .i64 1)) <|
       .bNU (.bNY 78 bG) (.bNV aK tI (aJ aA 2 (.p1 aA (.bNT tI aM) (.Z 0))) (.Z 15)) <|
       .bNU (.cmp .neq .i64) (.bNV tI tI (.Z 13) (aJ bG 2 (.Z 16))) <|
       .ite (.Z 17) (
        .ret (.Z 1)) (
        .call 4 (.bNV aK aB (aJ aA 2 (.p1 aA (.bNT tI aM) (.Z 0))) (aJ (.bNT aA (.bNT tI aM)) 2 (.Z 0))) <|
        .bNU (.bNX 112 aB) (.p1 aI .bool (.Z 18)) <|
        .bNU (.ar .sub .i64) (.bNV tI tI (.Z 19) (.ci .i64 1)) <|
        .bNU (.bNY 112 aB) (.bNV aI tI (.p1 aI .bool (.Z 18)) (.Z 20)) <|
        .bNU (.bNY 112 aB) (.bNV aI tI (.p1 aI .bool (.Z 18)) (.Z 20)) <|
        .ite (aO aA 13 (.p1 aA (.bNT tI aM) (.Z 0))) (
         .call 5 (.bNV aB aB (.Z 22) (aO (.bNT aA (.bNT tI aM)) 3 (.Z 0))) <|
         .call 6 (.bNV tI tI (aJ aA 12 (.p1 aA (.bNT tI aM) (.Z 0))) (.p1 tI .bool (.Z 23))) <|
         .ite (aJ aA 4 (.p1 aA (.bNT tI aM) (.Z 0))) (
          .bNU (.bNZ 112 aB) (bB (.bNT aI aE) [(.p1 aI .bool (.Z 18)),(.ci .i64 0),(.ci .i64 1)]) <|
          .bNU (.lit 80 aD 1) (.bNV tI aI (aJ (.bNT aA (.bNT tI aM)) 1 (.Z 0)) (.Z 25)) <|
          .bNU (.bO0 80 aD 32) (.bNV (.slice 80 aD) (.slice 80 aD) (aJ aA 5 (.Z 1)) (.Z 26)) <|
          .ret (bB aA [(.p1 tI cU (.Z 1)),(aJ aA 1 (.Z 1)),(aJ aA 2 (.Z 1)),(aJ aA 3 (.Z 1)),(aJ aA 4 (.Z 1)),(.Z 27),(aJ aA 6 (.Z 1)),(.nl 3 tI),(aJ aA 8 (.Z 1)),(aJ aA 9 (.Z 1)),(aJ aA 10 (.Z 1)),(aJ aA 11 (.Z 1)),(.p1 tI .bool (.Z 24)),(.cb true)])) (
          .bNU (.lit 80 aD 1) (.bNV tI aI (aJ (.bNT aA (.bNT tI aM)) 1 (.Z 0)) (.p1 aI .bool (.Z 18))) <|
          .bNU (.bO0 80 aD 32) (.bNV (.slice 80 aD) (.slice 80 aD) (aJ aA 5 (.Z 1)) (.Z 25)) <|
          .ret (bB aA [(.p1 tI cU (.Z 1)),(aJ aA 1 (.Z 1)),(aJ aA 2 (.Z 1)),(aJ aA 3 (.Z 1)),(aJ aA 4 (.Z 1)),(.Z 26),(aJ aA 6 (.Z 1)),(.nl 3 tI),(aJ aA 8 (.Z 1)),(aJ aA 9 (.Z 1)),(aJ aA 10 (.Z 1)),(aJ aA 11 (.Z 1)),(.p1 tI .bool (.Z 24)),(.cb true)]))) (
         .call 5 (.bNV aB aB (.Z 22) (aO (.bNT aA (.bNT tI aM)) 3 (.Z 0))) <|
         .call 6 (.bNV tI tI (aJ aA 12 (.p1 aA (.bNT tI aM) (.Z 0))) (.p1 tI .bool (.Z 23))) <|
         .ite (aO (.bNT aI .bool) 1 (.Z 18)) (
          .ite (aJ aA 4 (.p1 aA (.bNT tI aM) (.Z 0))) (
           .bNU (.bNZ 112 aB) (bB (.bNT aI aE) [(.p1 aI .bool (.Z 18)),(.ci .i64 0),(.ci .i64 1)]) <|
           .bNU (.lit 80 aD 1) (.bNV tI aI (aJ (.bNT aA (.bNT tI aM)) 1 (.Z 0)) (.Z 25)) <|
           .bNU (.bO0 80 aD 32) (.bNV (.slice 80 aD) (.slice 80 aD) (aJ aA 5 (.Z 1)) (.Z 26)) <|
           .ret (bB aA [(.p1 tI cU (.Z 1)),(aJ aA 1 (.Z 1)),(aJ aA 2 (.Z 1)),(aJ aA 3 (.Z 1)),(aJ aA 4 (.Z 1)),(.Z 27),(aJ aA 6 (.Z 1)),(.nl 3 tI),(aJ aA 8 (.Z 1)),(aJ aA 9 (.Z 1)),(aJ aA 10 (.Z 1)),(aJ aA 11 (.Z 1)),(.p1 tI .bool (.Z 24)),(.cb true)])) (
           .bNU (.lit 80 aD 1) (.bNV tI aI (aJ (.bNT aA (.bNT tI aM)) 1 (.Z 0)) (.p1 aI .bool (.Z 18))) <|
           .bNU (.bO0 80 aD 32) (.bNV (.slice 80 aD) (.slice 80 aD) (aJ aA 5 (.Z 1)) (.Z 25)) <|
           .ret (bB aA [(.p1 tI cU (.Z 1)),(aJ aA 1 (.Z 1)),(aJ aA 2 (.Z 1)),(aJ aA 3 (.Z 1)),(aJ aA 4 (.Z 1)),(.Z 26),(aJ aA 6 (.Z 1)),(.nl 3 tI),(aJ aA 8 (.Z 1)),(aJ aA 9 (.Z 1)),(aJ aA 10 (.Z 1)),(aJ aA 11 (.Z 1)),(.p1 tI .bool (.Z 24)),(.cb true)]))) (
          .ite (aO (.bNT tI .bool) 1 (.Z 23)) (
           .ite (aJ aA 4 (.p1 aA (.bNT tI aM) (.Z 0))) (
            .bNU (.bNZ 112 aB) (bB (.bNT aI aE) [(.p1 aI .bool (.Z 18)),(.ci .i64 0),(.ci .i64 1)]) <|
            .bNU (.lit 80 aD 1) (.bNV tI aI (aJ (.bNT aA (.bNT tI aM)) 1 (.Z 0)) (.Z 25)) <|
            .bNU (.bO0 80 aD 32) (.bNV (.slice 80 aD) (.slice 80 aD) (aJ aA 5 (.Z 1)) (.Z 26)) <|
            .ret (bB aA [(.p1 tI cU (.Z 1)),(aJ aA 1 (.Z 1)),(aJ aA 2 (.Z 1)),(aJ aA 3 (.Z 1)),(aJ aA 4 (.Z 1)),(.Z 27),(aJ aA 6 (.Z 1)),(.nl 3 tI),(aJ aA 8 (.Z 1)),(aJ aA 9 (.Z 1)),(aJ aA 10 (.Z 1)),(aJ aA 11 (.Z 1)),(.p1 tI .bool (.Z 24)),(.cb true)])) (
            .bNU (.lit 80 aD 1) (.bNV tI aI (aJ (.bNT aA (.bNT tI aM)) 1 (.Z 0)) (.p1 aI .bool (.Z 18))) <|
            .bNU (.bO0 80 aD 32) (.bNV (.slice 80 aD) (.slice 80 aD) (aJ aA 5 (.Z 1)) (.Z 25)) <|
            .ret (bB aA [(.p1 tI cU (.Z 1)),(aJ aA 1 (.Z 1)),(aJ aA 2 (.Z 1)),(aJ aA 3 (.Z 1)),(aJ aA 4 (.Z 1)),(.Z 26),(aJ aA 6 (.Z 1)),(.nl 3 tI),(aJ aA 8 (.Z 1)),(aJ aA 9 (.Z 1)),(aJ aA 10 (.Z 1)),(aJ aA 11 (.Z 1)),(.p1 tI .bool (.Z 24)),(.cb true)]))) (
           .ite (aJ aA 4 (.p1 aA (.bNT tI aM) (.Z 0))) (
            .bNU (.bNZ 112 aB) (bB (.bNT aI aE) [(.p1 aI .bool (.Z 18)),(.ci .i64 0),(.ci .i64 1)]) <|
            .bNU (.lit 80 aD 1) (.bNV tI aI (aJ (.bNT aA (.bNT tI aM)) 1 (.Z 0)) (.Z 25)) <|
            .bNU (.bO0 80 aD 32) (.bNV (.slice 80 aD) (.slice 80 aD) (aJ aA 5 (.Z 1)) (.Z 26)) <|
            .ret (bB aA [(.p1 tI cU (.Z 1)),(aJ aA 1 (.Z 1)),(aJ aA 2 (.Z 1)),(aJ aA 3 (.Z 1)),(aJ aA 4 (.Z 1)),(.Z 27),(aJ aA 6 (.Z 1)),(.nl 3 tI),(aJ aA 8 (.Z 1)),(aJ aA 9 (.Z 1)),(aJ aA 10 (.Z 1)),(aJ aA 11 (.Z 1)),(.Z 24)])) (
            .bNU (.lit 80 aD 1) (.bNV tI aI (aJ (.bNT aA (.bNT tI aM)) 1 (.Z 0)) (.p1 aI .bool (.Z 18))) <|
            .bNU (.bO0 80 aD 32) (.bNV (.slice 80 aD) (.slice 80 aD) (aJ aA 5 (.Z 1)) (.Z 25)) <|
            .ret (bB aA [(.p1 tI cU (.Z 1)),(aJ aA 1 (.Z 1)),(aJ aA 2 (.Z 1)),(aJ aA 3 (.Z 1)),(aJ aA 4 (.Z 1)),(.Z 26),(aJ aA 6 (.Z 1)),(.nl 3 tI),(aJ aA 8 (.Z 1)),(aJ aA 9 (.Z 1)),(aJ aA 10 (.Z 1)),(aJ aA 11 (.Z 1)),(.Z 24)])))))))) (
      .call 4 (.bNV aK aB (aJ aA 2 (.p1 aA (.bNT tI aM) (.Z 0))) (aJ (.bNT aA (.bNT tI aM)) 2 (.Z 0))) <|
      .bNU (.bNX 112 aB) (.p1 aI .bool (.Z 11)) <|
      .bNU (.ar .sub .i64) (.bNV tI tI (.Z 12) (.ci .i64 1)) <|
      .bNU (.bNY 112 aB) (.bNV aI tI (.p1 aI .bool (.Z 11)) (.Z 13)) <|
      .bNU (.bNY 112 aB) (.bNV aI tI (.p1 aI .bool (.Z 11)) (.Z 13)) <|
      .ite (aO aA 13 (.p1 aA (.bNT tI aM) (.Z 0))) (
       .bNU (.bO0 3 tI 8) (.bNV aB aB (.nl 3 tI) (.Z 15)) <|
       .ite (aJ aA 4 (.p1 aA (.bNT tI aM) (.Z 0))) (
        .bNU (.bNZ 112 aB) (bB (.bNT aI aE) [(.p1 aI .bool (.Z 11)),(.ci .i64 0),(.ci .i64 1)]) <|
        .bNU (.lit 80 aD 1) (.bNV tI aI (aJ (.bNT aA (.bNT tI aM)) 1 (.Z 0)) (.Z 17)) <|
        .bNU (.bO0 80 aD 32) (.bNV (.slice 80 aD) (.slice 80 aD) (aJ aA 5 (.Z 1)) (.Z 18)) <|
        .ret (bB aA [(.p1 tI cU (.Z 1)),(aJ aA 1 (.Z 1)),(aJ aA 2 (.Z 1)),(aJ aA 3 (.Z 1)),(aJ aA 4 (.Z 1)),(.Z 19),(aJ aA 6 (.Z 1)),(.nl 3 tI),(.Z 16),(aJ aA 9 (.Z 1)),(aJ aA 10 (.Z 1)),(aJ aA 11 (.Z 1)),(aJ aA 12 (.Z 1)),(.cb true)])) (
        .bNU (.lit 80 aD 1) (.bNV tI aI (aJ (.bNT aA (.bNT tI aM)) 1 (.Z 0)) (.p1 aI .bool (.Z 11))) <|
        .bNU (.bO0 80 aD 32) (.bNV (.slice 80 aD) (.slice 80 aD) (aJ aA 5 (.Z 1)) (.Z 17)) <|
        .ret (bB aA [(.p1 tI cU (.Z 1)),(aJ aA 1 (.Z 1)),(aJ aA 2 (.Z 1)),(aJ aA 3 (.Z 1)),(aJ aA 4 (.Z 1)),(.Z 18),(aJ aA 6 (.Z 1)),(.nl 3 tI),(.Z 16),(aJ aA 9 (.Z 1)),(aJ aA 10 (.Z 1)),(aJ aA 11 (.Z 1)),(aJ aA 12 (.Z 1)),(.cb true)]))) (
       .bNU (.bO0 3 tI 8) (.bNV aB aB (.nl 3 tI) (.Z 15)) <|
       .ite (aJ aA 4 (.p1 aA (.bNT tI aM) (.Z 0))) (
        .bNU (.bNZ 112 aB) (bB (.bNT aI aE) [(.p1 aI .bool (.Z 11)),(.ci .i64 0),(.ci .i64 1)]) <|
        .bNU (.lit 80 aD 1) (.bNV tI aI (aJ (.bNT aA (.bNT tI aM)) 1 (.Z 0)) (.Z 17)) <|
        .bNU (.bO0 80 aD 32) (.bNV (.slice 80 aD) (.slice 80 aD) (aJ aA 5 (.Z 1)) (.Z 18)) <|
        .ret (bB aA [(.p1 tI cU (.Z 1)),(aJ aA 1 (.Z 1)),(aJ aA 2 (.Z 1)),(aJ aA 3 (.Z 1)),(aJ aA 4 (.Z 1)),(.Z 19),(aJ aA 6 (.Z 1)),(.nl 3 tI),(.Z 16),(aJ aA 9 (.Z 1)),(aJ aA 10 (.Z 1)),(aJ aA 11 (.Z 1)),(aJ aA 12 (.Z 1)),(aO (.bNT aI .bool) 1 (.Z 11))])) (
        .bNU (.lit 80 aD 1) (.bNV tI aI (aJ (.bNT aA (.bNT tI aM)) 1 (.Z 0)) (.p1 aI .bool (.Z 11))) <|
        .bNU (.bO0 80 aD 32) (.bNV (.slice 80 aD) (.slice 80 aD) (aJ aA 5 (.Z 1)) (.Z 17)) <|
        .ret (bB aA [(.p1 tI cU (.Z 1)),(aJ aA 1 (.Z 1)),(aJ aA 2 (.Z 1)),(aJ aA 3 (.Z 1)),(aJ aA 4 (.Z 1)),(.Z 18),(aJ aA 6 (.Z 1)),(.nl 3 tI),(.Z 16),(aJ aA 9 (.Z 1)),(aJ aA 10 (.Z 1)),(aJ aA 11 (.Z 1)),(aJ aA 12 (.Z 1)),(aO (.bNT aI .bool) 1 (.Z 11))]))))))))
theorem aPB:bM Tryz.prog [dZ,dX,bJ,eB,iN,rS,dN] nL false 3000 ⟨[],[(2967,912025,[],[31]),(2965,656025,[],[31]),(2967,1808025,[],[31]),(2965,1296025,[],[31]),(2967,3600025,[],[31]),(2965,2576025,[],[31]),(2967,3088025,[],[31]),(2965,2064025,[],[31]),(2973,224017,[],[31]),(2971,160017,[],[31]),(2973,192017,[],[31]),(2971,128017,[],[31])]⟩ = .ok yJ:=by kernel_rfl
set_option maxHeartbeats 1000000 in
theorem aRO (x:bA × (Int × bP)) (hx:okD (.bNT aA (.bNT tI aM)) x) (hp:(fun x=>bQ aA x.1≤1000000000) x):yJ.wp [dZ,dX,bJ,eB,iN,rS,dN] [⟨(.bNT aA (.bNT tI aM)),x⟩] [] (fun v=>v.as aA=(fun x=>yU x.1 x.2.1 x.2.2.1 x.2.2.2) x):=by
 obtain ⟨s,m,v,t⟩:=x
 delta yJ dZ dX bJ eB iN rS dN;refine dB ?_
 refine dT ?_
 refine ⟨hp,fun _=>⟨fun h=>uZ (.inl h),fun h1=>⟨fun h=>uZ (.inr (.inl (aA9 h).symm)),fun hv _=>?_⟩⟩⟩
 have hm:=(eI s).1 h1
 have hn8:=((bR _).1 hm.1)
 have hin:(List.getD s.2.2.1 0 (aV bG)).2.1=iJ s.2.2.1:=by unfold iJ;rw[if_pos hm.1];rfl
 have hou:(List.getD s.2.2.1 (s.2.2.1.length - 1) (aV bG)).2.2.1=eM s.2.2.1:=by unfold eM;rw[if_pos hm.1];rfl
 rw[hin]
 refine ⟨⟨by omega,by omega⟩,fun _=>⟨fun h=>uZ (.inr (.inl (Bool.eq_false_iff.2 fun hh=>h ((cE _ _).1 hh).2))),fun hv2 _=>⟨fun h=>uZ (.inr (.inr (.inl h))),fun h3=>?_⟩⟩⟩
 have h2:eF v (iJ s.2.2.1)=true:=(cE _ _).2 ⟨hv,hv2⟩
 have hl:=sH s.2.2.1 v s.2.2.1.length
 have hx6:=aFS h2
 have h6:=wB s.2.2.1 v hx6 s.2.2.1.length
 have hy6:(List.getD (jO s.2.2.1 v s.2.2.1.length).1 s.2.2.1.length (aV aB)).length≤6:=aHB h6 _
 have hst:=(kA (t:=aA) hp).2.2.2.2.2.1.1
 replace hst:List.length s.2.2.2.2.2.1≤1000000000:=hst
 constructor
 ·intro hla
  refine ⟨fun h=>uZ (.inr (.inr (.inr ⟨hla,(aA9 h).symm⟩))),fun ht _ _=>⟨by omega,fun _=>⟨by omega,fun _=>?_⟩⟩⟩
  rw[hou]
  refine ⟨fun h=>uZ (.inr (.inr (.inr ⟨hla,Bool.eq_false_iff.2 fun hh=>h ((cE _ _).1 hh).2⟩))),fun ht2=>?_⟩
  simp only[hl,Nat.add_sub_cancel]
  have hy:=aIP h1 h2 h3 (fun _=>(cE _ _).2 ⟨ht,ht2⟩)
  (repeat' first|intro _|(with_reducible apply And.intro))
  all_goals first|omega|exact Bool.noConfusion ((by assumption:s.2.2.2.1=true).symm.trans (by assumption:s.2.2.2.1=false))|(unfold maxLen;omega)|(simp only[List.drop_zero,List.length_take];omega)|exact Nat.le_trans (h6 _ (by assumption)) (by decide)|exact Nat.le_trans (h6 _ (List.mem_of_mem_take (by assumption))) (by decide)|skip
  all_goals first|exact Bool.noConfusion ((by assumption:s.2.2.2.1=true).symm.trans (by assumption:s.2.2.2.1=false))|refine (aIN (by assumption) ?_ ?_ ?_).trans hy|refine (aIM (by assumption) ?_ ?_).trans hy
  all_goals first|rfl|(rw[← aQG (by assumption)])|(rw[← aRA (by assumption)])|exact bB0 (by assumption)|exact bBR (by assumption)|exact bBT (by assumption)|exact bAL (by assumption) (by assumption) (by assumption)|exact iC (by assumption)|exact lL (by assumption)|(simp[*];done)|skip
 ·intro hla
  simp only[hl,Nat.add_sub_cancel]
  have hy:=aIP (t:=t) h1 h2 h3 (fun h=>absurd h (by simp[hla]))
  (repeat' first|intro _|(with_reducible apply And.intro))
  all_goals first|omega|exact Bool.noConfusion ((by assumption:s.2.2.2.1=true).symm.trans (by assumption:s.2.2.2.1=false))|(unfold maxLen;omega)|(simp only[List.drop_zero,List.length_take];omega)|exact Nat.le_trans (h6 _ (by assumption)) (by decide)|exact Nat.le_trans (h6 _ (List.mem_of_mem_take (by assumption))) (by decide)|skip
  all_goals first|exact Bool.noConfusion ((by assumption:s.2.2.2.1=true).symm.trans (by assumption:s.2.2.2.1=false))|refine (aIN (by assumption) ?_ ?_ ?_).trans hy|refine (aIM (by assumption) ?_ ?_).trans hy
  all_goals first|rfl|(rw[← aQG (by assumption)])|(rw[← aRA (by assumption)])|exact bB0 (by assumption)|exact bBR (by assumption)|exact bBT (by assumption)|exact bAL (by assumption) (by assumption) (by assumption)|exact iC (by assumption)|exact lL (by assumption)|(simp[*];done)|skip
set_option maxHeartbeats 1000000 in
theorem aRW:Con.Holds Tryz.prog nL:=aS aW (aH tE (aH tS (aH fD (aH uE (aH aEK (aH aZU (aH rM aR))))))) aPB aRO
end Go.Proofs.YtdeobhdbmehpgaaGreat
