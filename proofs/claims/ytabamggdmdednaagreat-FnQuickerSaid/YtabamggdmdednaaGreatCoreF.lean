/- CoreF: lemmas. No conditions. -/
import Derived.Test.YtabamggdmdednaaGreatCore7
namespace Go.Proofs.YtabamggdmdednaaGreat
set_option maxRecDepth 100000
open Go.ChangeShapes Go.WideShapes Go.ChangeAt Go.RowKit Go.Deep
set_option linter.unusedVariables false
set_option linter.unusedSimpArgs false
noncomputable def oG:Con:=⟨65,(.bRW aA (.bRW tI aO)),aA,[.val ⟨true,aA,[]⟩,.val ⟨false,tI,[]⟩,.val ⟨false,aB,[]⟩,.val ⟨false,aB,[]⟩],[⟨true,aA,[0,2,2,0,0,2,2,2,2,2,2,2,0,0]⟩],false,none,
 ((fun x=>bM aA x.1≤1000000000):(bC × (Int × bT))→Prop),
 ((fun x=>aCQ x.1 x.2.1 x.2.2.1 x.2.2.2):(bC × (Int × bT))→(bC))⟩
def yX:T:=.call 0 (.p1 aA (.bRW tI aO) (.Z 0)) <|.call 1 (.p1 aA (.bRW tI aO) (.Z 0)) <|.call 2 (.p1 aA (.bRW tI aO) (.Z 0)) <|
 .bRX .not (.Z 3) <|
 .ite (.Z 4) (
  .ret (.Z 1)) (
  .call 3 (.Z 2) <|
  .call 4 (.bRY aB tI (aK (.bRW aA (.bRW tI aO)) 2 (.Z 0)) (.Z 5)) <|
  .bRX .not (.Z 6) <|
  .ite (.Z 7) (
   .ret (.Z 1)) (
   .call 5 (.bRY (.slice 82 aF) tI (aK aA 5 (.p1 aA (.bRW tI aO) (.Z 0))) (aK (.bRW aA (.bRW tI aO)) 1 (.Z 0))) <|
   .bRX (.cmp .geq .i64) (.bRY tI tI (.Z 8) (.ci .i64 0)) <|
   .ite (.Z 9) (
    .ret (.Z 1)) (
    .ite (aK aA 3 (.p1 aA (.bRW tI aO) (.Z 0))) (
     .call 6 (.Z 2) <|
     .call 4 (.bRY aB tI (aP (.bRW aA (.bRW tI aO)) 3 (.Z 0)) (.Z 10)) <|
     .bRX .not (.Z 11) <|
     .ite (.Z 12) (
      .ret (.Z 1)) (
      .call 7 (.bRY aE aB (.Z 2) (aK (.bRW aA (.bRW tI aO)) 2 (.Z 0))) <|
      .bRX (.bS0 88 bF) (aK aA 2 (.p1 aA (.bRW tI aO) (.Z 0))) <|
      .bRX (.bS1 119 aB) (.bRY aL tI (.p1 aL .bool (.Z 13)) (.Z 14)) <|
      .bRX (.bS1 119 aB) (.bRY aL tI (.p1 aL .bool (.Z 13)) (.Z 14)) <|
      .ite (aK aA 4 (.p1 aA (.bRW tI aO) (.Z 0))) (
       .bRX (.bS2 119 aB) (bB (.bRW aL aD) [(.p1 aL .bool (.Z 13)),(.ci .i64 0),(.ci .i64 1)]) <|
       .call 8 (.Z 17) <|
       .bRX (.lit 82 aF 1) (.bRY tI aL (aK (.bRW aA (.bRW tI aO)) 1 (.Z 0)) (.Z 18)) <|
       .bRX (.bS3 82 aF 32) (.bRY (.slice 82 aF) (.slice 82 aF) (aK aA 5 (.Z 1)) (.Z 19)) <|
       .ite (aP aA 13 (.Z 1)) (
        .bRX .not (aK aA 3 (.p1 aA (.bRW tI aO) (.Z 0))) <|
        .ite (.Z 21) (
         .call 9 (.Z 16) <|
         .ret (bB aA [(.p1 tI dA (.Z 1)),(aK aA 1 (.Z 1)),(aK aA 2 (.Z 1)),(aK aA 3 (.Z 1)),(aK aA 4 (.Z 1)),(.Z 20),(aK aA 6 (.Z 1)),(.nl 3 tI),(.Z 22),(aK aA 9 (.Z 1)),(aK aA 10 (.Z 1)),(aK aA 11 (.Z 1)),(aK aA 12 (.Z 1)),(.cb true)])) (
         .call 10 (.bRY aB aB (.Z 16) (aP (.bRW aA (.bRW tI aO)) 3 (.Z 0))) <|
         .call 11 (.bRY tI tI (aK aA 12 (.Z 1)) (.p1 tI .bool (.Z 22))) <|
         .ret (bB aA [(.p1 tI dA (.Z 1)),(aK aA 1 (.Z 1)),(aK aA 2 (.Z 1)),(aK aA 3 (.Z 1)),(aK aA 4 (.Z 1)),(.Z 20),(aK aA 6 (.Z 1)),(.nl 3 tI),(aK aA 8 (.Z 1)),(aK aA 9 (.Z 1)),(aK aA 10 (.Z 1)),(aK aA 11 (.Z 1)),(.p1 tI .bool (.Z 23)),(.cb true)]))) (
        .bRX .not (aK aA 3 (.p1 aA (.bRW tI aO) (.Z 0))) <|
        .ite (.Z 21) (
         .call 9 (.Z 16) <|
         .ret (bB aA [(.p1 tI dA (.Z 1)),(aK aA 1 (.Z 1)),(aK aA 2 (.Z 1)),(aK aA 3 (.Z 1)),(aK aA 4 (.Z 1)),(.Z 20),(aK aA 6 (.Z 1)),(.nl 3 tI),(.Z 22),(aK aA 9 (.Z 1)),(aK aA 10 (.Z 1)),(aK aA 11 (.Z 1)),(aK aA 12 (.Z 1)),(aP (.bRW aL .bool) 1 (.Z 13))])) (
         .call 10 (.bRY aB aB (.Z 16) (aP (.bRW aA (.bRW tI aO)) 3 (.Z 0))) <|
         .call 11 (.bRY tI tI (aK aA 12 (.Z 1)) (.p1 tI .bool (.Z 22))) <|
         .ite (aP (.bRW aL .bool) 1 (.Z 13)) (
          .ret (bB aA [(.p1 tI dA (.Z 1)),(aK aA 1 (.Z 1)),(aK aA 2 (.Z 1)),(aK aA 3 (.Z 1)),(aK aA 4 (.Z 1)),(.Z 20),(aK aA 6 (.Z 1)),(.nl 3 tI),(aK aA 8 (.Z 1)),(aK aA 9 (.Z 1)),(aK aA 10 (.Z 1)),(aK aA 11 (.Z 1)),(.p1 tI .bool (.Z 23)),(.cb true)])) (
          .ite (aP (.bRW tI .bool) 1 (.Z 22)) (
           .ret (bB aA [(.p1 tI dA (.Z 1)),(aK aA 1 (.Z 1)),(aK aA 2 (.Z 1)),(aK aA 3 (.Z 1)),(aK aA 4 (.Z 1)),(.Z 20),(aK aA 6 (.Z 1)),(.nl 3 tI),(aK aA 8 (.Z 1)),(aK aA 9 (.Z 1)),(aK aA 10 (.Z 1)),(aK aA 11 (.Z 1)),(.p1 tI .bool (.Z 23)),(.cb true)])) (
           .ret (bB aA [(.p1 tI dA (.Z 1)),(aK aA 1 (.Z 1)),(aK aA 2 (.Z 1)),(aK aA 3 (.Z 1)),(aK aA 4 (.Z 1)),(.Z 20),(aK aA 6 (.Z 1)),(.nl 3 tI),(aK aA 8 (.Z 1)),(aK aA 9 (.Z 1)),(aK aA 10 (.Z 1)),(aK aA 11 (.Z 1)),(.Z 23)])))))) (
       .call 8 (.p1 aL .bool (.Z 13)) <|
       .bRX (.lit 82 aF 1) (.bRY tI aL (aK (.bRW aA (.bRW tI aO)) 1 (.Z 0)) (.Z 17)) <|
       .bRX (.bS3 82 aF 32) (.bRY (.slice 82 aF) (.slice 82 aF) (aK aA 5 (.Z 1)) (.Z 18)) <|
       .ite (aP aA 13 (.Z 1)) (
        .bRX .not (aK aA 3 (.p1 aA (.bRW tI aO) (.Z 0))) <|
        .ite (.Z 20) (
         .call 9 (.Z 16) <|
         .ret (bB aA [(.p1 tI dA (.Z 1)),(aK aA 1 (.Z 1)),(aK aA 2 (.Z 1)),(aK aA 3 (.Z 1)),(aK aA 4 (.Z 1)),(.Z 19),(aK aA 6 (.Z 1)),(.nl 3 tI),(.Z 21),(aK aA 9 (.Z 1)),(aK aA 10 (.Z 1)),(aK aA 11 (.Z 1)),(aK aA 12 (.Z 1)),(.cb true)])) (
         .call 10 (.bRY aB aB (.Z 16) (aP (.bRW aA (.bRW tI aO)) 3 (.Z 0))) <|
         .call 11 (.bRY tI tI (aK aA 12 (.Z 1)) (.p1 tI .bool (.Z 21))) <|
         .ret (bB aA [(.p1 tI dA (.Z 1)),(aK aA 1 (.Z 1)),(aK aA 2 (.Z 1)),(aK aA 3 (.Z 1)),(aK aA 4 (.Z 1)),(.Z 19),(aK aA 6 (.Z 1)),(.nl 3 tI),(aK aA 8 (.Z 1)),(aK aA 9 (.Z 1)),(aK aA 10 (.Z 1)),(aK aA 11 (.Z 1)),(.p1 tI .bool (.Z 22)),(.cb true)]))) (
        .bRX .not (aK aA 3 (.p1 aA (.bRW tI aO) (.Z 0))) <|
        .ite (.Z 20) (
         .call 9 (.Z 16) <|
         .ret (bB aA [(.p1 tI dA (.Z 1)),(aK aA 1 (.Z 1)),(aK aA 2 (.Z 1)),(aK aA 3 (.Z 1)),(aK aA 4 (.Z 1)),(.Z 19),(aK aA 6 (.Z 1)),(.nl 3 tI),(.Z 21),(aK aA 9 (.Z 1)),(aK aA 10 (.Z 1)),(aK aA 11 (.Z 1)),(aK aA 12 (.Z 1)),(aP (.bRW aL .bool) 1 (.Z 13))])) (
         .call 10 (.bRY aB aB (.Z 16) (aP (.bRW aA (.bRW tI aO)) 3 (.Z 0))) <|
         .call 11 (.bRY tI tI (aK aA 12 (.Z 1)) (.p1 tI .bool (.Z 21))) <|
         .ite (aP (.bRW aL .bool) 1 (.Z 13)) (
          .ret (bB aA [(.p1 tI dA (.Z 1)),(aK aA 1 (.Z 1)),(aK aA 2 (.Z 1)),(aK aA 3 (.Z 1)),(aK aA 4 (.Z 1)),(.Z 19),(aK aA 6 (.Z 1)),(.nl 3 tI),(aK aA 8 (.Z 1)),(aK aA 9 (.Z 1)),(aK aA 10 (.Z 1)),(aK aA 11 (.Z 1)),(.p1 tI .bool (.Z 22)),(.cb true)])) (
          .ite (aP (.bRW tI .bool) 1 (.Z 21)) (
           .ret (bB aA [(.p1 tI dA (.Z 1)),(aK aA 1 (.Z 1)),(aK aA 2 (.Z 1)),(aK aA 3 (.Z 1)),(aK aA 4 (.Z 1)),(.Z 19),(aK aA 6 (.Z 1)),(.nl 3 tI),(aK aA 8 (.Z 1)),(aK aA 9 (.Z 1)),(aK aA 10 (.Z 1)),(aK aA 11 (.Z 1)),(.p1 tI .bool (.Z 22)),(.cb true)])) (
           .ret (bB aA [(.p1 tI dA (.Z 1)),(aK aA 1 (.Z 1)),(aK aA 2 (.Z 1)),(aK aA 3 (.Z 1)),(aK aA 4 (.Z 1)),(.Z 19),(aK aA 6 (.Z 1)),(.nl 3 tI),(aK aA 8 (.Z 1)),(aK aA 9 (.Z 1)),(aK aA 10 (.Z 1)),(aK aA 11 (.Z 1)),(.Z 22)])))))))) (
     .call 7 (.bRY aE aB (.Z 2) (aK (.bRW aA (.bRW tI aO)) 2 (.Z 0))) <|
     .bRX (.bS0 88 bF) (aK aA 2 (.p1 aA (.bRW tI aO) (.Z 0))) <|
     .bRX (.bS1 119 aB) (.bRY aL tI (.p1 aL .bool (.Z 10)) (.Z 11)) <|
     .bRX (.bS1 119 aB) (.bRY aL tI (.p1 aL .bool (.Z 10)) (.Z 11)) <|
     .ite (aK aA 4 (.p1 aA (.bRW tI aO) (.Z 0))) (
      .bRX (.bS2 119 aB) (bB (.bRW aL aD) [(.p1 aL .bool (.Z 10)),(.ci .i64 0),(.ci .i64 1)]) <|
      .call 8 (.Z 14) <|
      .bRX (.lit 82 aF 1) (.bRY tI aL (aK (.bRW aA (.bRW tI aO)) 1 (.Z 0)) (.Z 15)) <|
      .bRX (.bS3 82 aF 32) (.bRY (.slice 82 aF) (.slice 82 aF) (aK aA 5 (.Z 1)) (.Z 16)) <|
      .ite (aP aA 13 (.Z 1)) (
       .bRX .not (aK aA 3 (.p1 aA (.bRW tI aO) (.Z 0))) <|
       .ite (.Z 18) (
        .call 9 (.Z 13) <|
        .ret (bB aA [(.p1 tI dA (.Z 1)),(aK aA 1 (.Z 1)),(aK aA 2 (.Z 1)),(aK aA 3 (.Z 1)),(aK aA 4 (.Z 1)),(.Z 17),(aK aA 6 (.Z 1)),(.nl 3 tI),(.Z 19),(aK aA 9 (.Z 1)),(aK aA 10 (.Z 1)),(aK aA 11 (.Z 1)),(aK aA 12 (.Z 1)),(.cb true)])) (
        .call 10 (.bRY aB aB (.Z 13) (aP (.bRW aA (.bRW tI aO)) 3 (.Z 0))) <|
        .call 11 (.bRY tI tI (aK aA 12 (.Z 1)) (.p1 tI .bool (.Z 19))) <|
        .ret (bB aA [(.p1 tI dA (.Z 1)),(aK aA 1 (.Z 1)),(aK aA 2 (.Z 1)),(aK aA 3 (.Z 1)),(aK aA 4 (.Z 1)),(.Z 17),(aK aA 6 (.Z 1)),(.nl 3 tI),(aK aA 8 (.Z 1)),(aK aA 9 (.Z 1)),(aK aA 10 (.Z 1)),(aK aA 11 (.Z 1)),(.p1 tI .bool (.Z 20)),(.cb true)]))) (
       .bRX .not (aK aA 3 (.p1 aA (.bRW tI aO) (.Z 0))) <|
       .ite (.Z 18) (
        .call 9 (.Z 13) <|
        .ret (bB aA [(.p1 tI dA (.Z 1)),(aK aA 1 (.Z 1)),(aK aA 2 (.Z 1)),(aK aA 3 (.Z 1)),(aK aA 4 (.Z 1)),(.Z 17),(aK aA 6 (.Z 1)),(.nl 3 tI),(.Z 19),(aK aA 9 (.Z 1)),(aK aA 10 (.Z 1)),(aK aA 11 (.Z 1)),(aK aA 12 (.Z 1)),(aP (.bRW aL .bool) 1 (.Z 10))])) (
        .call 10 (.bRY aB aB (.Z 13) (aP (.bRW aA (.bRW tI aO)) 3 (.Z 0))) <|
        .call 11 (.bRY tI tI (aK aA 12 (.Z 1)) (.p1 tI .bool (.Z 19))) <|
        .ite (aP (.bRW aL .bool) 1 (.Z 10)) (
         .ret (bB aA [(.p1 tI dA (.Z 1)),(aK aA 1 (.Z 1)),(aK aA 2 (.Z 1)),(aK aA 3 (.Z 1)),(aK aA 4 (.Z 1)),(.Z 17),(aK aA 6 (.Z 1)),(.nl 3 tI),(aK aA 8 (.Z 1)),(aK aA 9 (.Z 1)),(aK aA 10 (.Z 1)),(aK aA 11 (.Z 1)),(.p1 tI .bool (.Z 20)),(.cb true)])) (
         .ite (aP (.bRW tI .bool) 1 (.Z 19)) (
          .ret (bB aA [(.p1 tI dA (.Z 1)),(aK aA 1 (.Z 1)),(aK aA 2 (.Z 1)),(aK aA 3 (.Z 1)),(aK aA 4 (.Z 1)),(.Z 17),(aK aA 6 (.Z 1)),(.nl 3 tI),(aK aA 8 (.Z 1)),(aK aA 9 (.Z 1)),(aK aA 10 (.Z 1)),(aK aA 11 (.Z 1)),(.p1 tI .bool (.Z 20)),(.cb true)])) (
          .ret (bB aA [(.p1 tI dA (.Z 1)),(aK aA 1 (.Z 1)),(aK aA 2 (.Z 1)),(aK aA 3 (.Z 1)),(aK aA 4 (.Z 1)),(.Z 17),(aK aA 6 (.Z 1)),(.nl 3 tI),(aK aA 8 (.Z 1)),(aK aA 9 (.Z 1)),(aK aA 10 (.Z 1)),(aK aA 11 (.Z 1)),(.Z 20)])))))) (
      .call 8 (.p1 aL .bool (.Z 10)) <|
      .bRX (.lit 82 aF 1) (.bRY tI aL (aK (.bRW aA (.bRW tI aO)) 1 (.Z 0)) (.Z 14)) <|
      .bRX (.bS3 82 aF 32) (.bRY (.slice 82 aF) (.slice 82 aF) (aK aA 5 (.Z 1)) (.Z 15)) <|
      .ite (aP aA 13 (.Z 1)) (
       .bRX .not (aK aA 3 (.p1 aA (.bRW tI aO) (.Z 0))) <|
       .ite (.Z 17) (
        .call 9 (.Z 13) <|
        .ret (bB aA [(.p1 tI dA (.Z 1)),(aK aA 1 (.Z 1)),(aK aA 2 (.Z 1)),(aK aA 3 (.Z 1)),(aK aA 4 (.Z 1)),(.Z 16),(aK aA 6 (.Z 1)),(.nl 3 tI),(.Z 18),(aK aA 9 (.Z 1)),(aK aA 10 (.Z 1)),(aK aA 11 (.Z 1)),(aK aA 12 (.Z 1)),(.cb true)])) (
        .call 10 (.bRY aB aB (.Z 13) (aP (.bRW aA (.bRW tI aO)) 3 (.Z 0))) <|
        .call 11 (.bRY tI tI (aK aA 12 (.Z 1)) (.p1 tI .bool (.Z 18))) <|
        .ret (bB aA [(.p1 tI dA (.Z 1)),(aK aA 1 (.Z 1)),(aK aA 2 (.Z 1)),(aK aA 3 (.Z 1)),(aK aA 4 (.Z 1)),(.Z 16),(aK aA 6 (.Z 1)),(.nl 3 tI),(aK aA 8 (.Z 1)),(aK aA 9 (.Z 1)),(aK aA 10 (.Z 1)),(aK aA 11 (.Z 1)),(.p1 tI .bool (.Z 19)),(.cb true)]))) (
       .bRX .not (aK aA 3 (.p1 aA (.bRW tI aO) (.Z 0))) <|
       .ite (.Z 17) (
        .call 9 (.Z 13) <|
        .ret (bB aA [(.p1 tI dA (.Z 1)),(aK aA 1 (.Z 1)),(aK aA 2 (.Z 1)),(aK aA 3 (.Z 1)),(aK aA 4 (.Z 1)),(.Z 16),(aK aA 6 (.Z 1)),(.nl 3 tI),(.Z 18),(aK aA 9 (.Z 1)),(aK aA 10 (.Z 1)),(aK aA 11 (.Z 1)),(aK aA 12 (.Z 1)),(aP (.bRW aL .bool) 1 (.Z 10))])) (
        .call 10 (.bRY aB aB (.Z 13) (aP (.bRW aA (.bRW tI aO)) 3 (.Z 0))) <|
        .call 11 (.bRY tI tI (aK aA 12 (.Z 1)) (.p1 tI .bool (.Z 18))) <|
        .ite (aP (.bRW aL .bool) 1 (.Z 10)) (
         .ret (bB aA [(.p1 tI dA (.Z 1)),(aK aA 1 (.Z 1)),(aK aA 2 (.Z 1)),(aK aA 3 (.Z 1)),(aK aA 4 (.Z 1)),(.Z 16),(aK aA 6 (.Z 1)),(.nl 3 tI),(aK aA 8 (.Z 1)),(aK aA 9 (.Z 1)),(aK aA 10 (.Z 1)),(aK aA 11 (.Z 1)),(.p1 tI .bool (.Z 19)),(.cb true)])) (
         .ite (aP (.bRW tI .bool) 1 (.Z 18)) (
          .ret (bB aA [(.p1 tI dA (.Z 1)),(aK aA 1 (.Z 1)),(aK aA 2 (.Z 1)),(aK aA 3 (.Z 1)),(aK aA 4 (.Z 1)),(.Z 16),(aK aA 6 (.Z 1)),(.nl 3 tI),(aK aA 8 (.Z 1)),(aK aA 9 (.Z 1)),(aK aA 10 (.Z 1)),(aK aA 11 (.Z 1)),(.p1 tI .bool (.Z 19)),(.cb true)])) (
          .ret (bB aA [(.p1 tI dA (.Z 1)),(aK aA 1 (.Z 1)),(aK aA 2 (.Z 1)),(aK aA 3 (.Z 1)),(aK aA 4 (.Z 1)),(.Z 16),(aK aA 6 (.Z 1)),(.nl 3 tI),(aK aA 8 (.Z 1)),(aK aA 9 (.Z 1)),(aK aA 10 (.Z 1)),(aK aA 11 (.Z 1)),(.Z 19)]))))))))))
theorem aTI:bI Tryz.prog [dF,dY,dZ,iX,cB,eF,gG,lH,eW,bR,sQ,eT] oG false 3000 ⟨[],[(2973,104017,[],[33]),(2971,104018,[73],[]),(2971,72017,[73],[]),(2973,48014,[],[33]),(2971,48015,[73],[]),(2971,32014,[73],[])]⟩ = .ok yX:=by kernel_rfl
theorem aTZ (x:bC × (Int × bT)) (hx:okD (.bRW aA (.bRW tI aO)) x) (hp:(fun x=>bM aA x.1≤1000000000) x):yX.wp [dF,dY,dZ,iX,cB,eF,gG,lH,eW,bR,sQ,eT] [⟨(.bRW aA (.bRW tI aO)),x⟩] [] (fun v=>v.as aA=(fun x=>aCQ x.1 x.2.1 x.2.2.1 x.2.2.2) x):=by
 obtain ⟨s,m,v,t⟩:=x
 delta yX dF dY dZ iX cB eF gG lH eW bR sQ eT;refine cW ?_
 refine dB ?_
 refine ⟨hp,fun _ _=>⟨fun h=>wS (.inl h),fun h1 _=>⟨fun h=>wS (.inr (.inl h)),fun h2 _=>⟨fun h=>wS (.inr (.inr (.inl h))),fun h3=>?_⟩⟩⟩⟩
 have hm:=(eJ s).1 h1
 rw[show zF s.2.2.1 v=_ from if_pos ⟨hm.1,h2⟩]
 have hl:=tE s.2.2.1 v s.2.2.1.length
 have hx6:=aI1 h2
 have hn8:=((bY _).1 hm.1).2.1
 have h6:=yA s.2.2.1 v hx6 s.2.2.1.length
 have hy6:(List.getD (kN s.2.2.1 v s.2.2.1.length).1 s.2.2.1.length (aW aB)).length≤6:=aJU h6 _
 have hst:=(gZ (t:=aA) hp).2.2.2.2.2.1.1
 replace hst:List.length s.2.2.2.2.2.1≤1000000000:=hst
 constructor
 ·intro hla _
  refine ⟨fun h=>wS (.inr (.inr (.inr ⟨hla,h⟩))),fun h4=>?_⟩
  have hy:=aKW h1 h2 h3 (fun _=>h4)
  (repeat' first|intro _|(with_reducible apply And.intro))
  all_goals first|omega|exact Bool.noConfusion ((by assumption:s.2.2.2.1=true).symm.trans (by assumption:s.2.2.2.1=false))|(unfold maxLen;omega)|(simp only[List.drop_zero,List.length_take];omega)|exact Nat.le_trans (h6 _ (by assumption)) (by decide)|exact Nat.le_trans (h6 _ (List.mem_of_mem_take (by assumption))) (by decide)|skip
  all_goals first|exact Bool.noConfusion ((by assumption:s.2.2.2.1=true).symm.trans (by assumption:s.2.2.2.1=false))|refine (aL1 (by assumption) ?_ ?_ ?_).trans hy|refine (aLB (by assumption) ?_ ?_).trans hy
  all_goals first|rfl|(rw[← aTU (by assumption)])|(rw[← aT8 (by assumption)])|exact bG2 (by assumption)|exact bEZ (by assumption)|exact bFO (by assumption)|exact bEG (by assumption) (by assumption) (by assumption)|exact iT (by assumption)|exact mN (by assumption)|(simp[*];done)|skip
 ·intro hla
  have hy:=aKW (t:=t) h1 h2 h3 (fun h=>absurd h (by simp[hla]))
  (repeat' first|intro _|(with_reducible apply And.intro))
  all_goals first|omega|exact Bool.noConfusion ((by assumption:s.2.2.2.1=true).symm.trans (by assumption:s.2.2.2.1=false))|(unfold maxLen;omega)|(simp only[List.drop_zero,List.length_take];omega)|exact Nat.le_trans (h6 _ (by assumption)) (by decide)|exact Nat.le_trans (h6 _ (List.mem_of_mem_take (by assumption))) (by decide)|skip
  all_goals first|exact Bool.noConfusion ((by assumption:s.2.2.2.1=true).symm.trans (by assumption:s.2.2.2.1=false))|refine (aL1 (by assumption) ?_ ?_ ?_).trans hy|refine (aLB (by assumption) ?_ ?_).trans hy
  all_goals first|rfl|(rw[← aTU (by assumption)])|(rw[← aT8 (by assumption)])|exact bG2 (by assumption)|exact bEZ (by assumption)|exact bFO (by assumption)|exact bEG (by assumption) (by assumption) (by assumption)|exact iT (by assumption)|exact mN (by assumption)|(simp[*];done)|skip
theorem aTF:Con.Holds Tryz.prog oG:=aS aV (aI qC (aI vV (aI vA (aI aGW (aI jR (aI wK (aI aD9 (aI aLR (aI zW (aI gS (aI bDA (aI yV aQ)))))))))))) aTI aTZ
noncomputable def oK:Con:=⟨124,(.bRW aA (.bRW tI aO)),aA,[.val ⟨true,aA,[]⟩,.val ⟨false,tI,[]⟩,.val ⟨false,aB,[]⟩,.val ⟨false,aB,[]⟩],[⟨true,aA,[0,0,0,0,0,0,0,0,0,0,0,0,0,0]⟩],false,none,
 ((fun x=>bM aA x.1≤1000000000):(bC × (Int × bT))→Prop),
 ((fun x=>aCQ x.1 x.2.1 x.2.2.1 x.2.2.2):(bC × (Int × bT))→(bC))⟩
def aA0:T:=.call 0 (.p1 aA (.bRW tI aO) (.Z 0)) <|.call 1 (.p1 aA (.bRW tI aO) (.Z 0)) <|
 .bRX .not (.Z 2) <|
 .ite (.Z 3) (
  .ret (.Z 1)) (
  .call 2 (aK (.bRW aA (.bRW tI aO)) 2 (.Z 0)) <|
  .bRX .not (.Z 4) <|
  .ite (.Z 5) (
   .ret (.Z 1)) (
   .bRX (.bS0 3 tI) (aK (.bRW aA (.bRW tI aO)) 2 (.Z 0)) <|
   .bRX (.bS1 88 bF) (.bRY aE tI (aK aA 2 (.p1 aA (.bRW tI aO) (.Z 0))) (.ci .i64 0)) <|
   .bRX (.cmp .neq .i64) (.bRY tI tI (.Z 6) (aK bF 1 (.Z 7))) <|
   .ite (.Z 8) (
    .ret (.Z 1)) (
    .call 3 (.bRY (.slice 82 aF) tI (aK aA 5 (.p1 aA (.bRW tI aO) (.Z 0))) (aK (.bRW aA (.bRW tI aO)) 1 (.Z 0))) <|
    .bRX (.cmp .geq .i64) (.bRY tI tI (.Z 9) (.ci .i64 0)) <|
    .ite (.Z 10) (
     .ret (.Z 1)) (
     .ite (aK aA 3 (.p1 aA (.bRW tI aO) (.Z 0))) (
      .call 2 (aP (.bRW aA (.bRW tI aO)) 3 (.Z 0)) <|
      .bRX .not (.Z 11) <|
      .ite (.Z 12) (
       .ret (.Z 1)) (
       .bRX (.bS0 3 tI) (aP (.bRW aA (.bRW tI aO)) 3 (.Z 0)) <|
       .bRX (.bS0 88 bF) (aK aA 2 (.p1 aA (.bRW tI aO) (.Z 0))) <|
       .bRX (.ar .sub .i64) (.bRY tI tI (.Z 14) (.ci .i64 1)) <|
       .bRX (.bS1 88 bF) (.bRY aE tI (aK aA 2 (.p1 aA (.bRW tI aO) (.Z 0))) (.Z 15)) <|
       .bRX (.cmp .neq .i64) (.bRY tI tI (.Z 13) (aK bF 2 (.Z 16))) <|
       .ite (.Z 17) (
        .ret (.Z 1)) (
        .call 4 (.bRY aE aB (aK aA 2 (.p1 aA (.bRW tI aO) (.Z 0))) (aK (.bRW aA (.bRW tI aO)) 2 (.Z 0))) <|
        .bRX (.bS0 119 aB) (.p1 aL .bool (.Z 18)) <|
        .bRX (.ar .sub .i64) (.bRY tI tI (.Z 19) (.ci .i64 1)) <|
        .bRX (.bS1 119 aB) (.bRY aL tI (.p1 aL .bool (.Z 18)) (.Z 20)) <|
        .bRX (.bS1 119 aB) (.bRY aL tI (.p1 aL .bool (.Z 18)) (.Z 20)) <|
        .ite (aP aA 13 (.p1 aA (.bRW tI aO) (.Z 0))) (
         .call 5 (.bRY aB aB (.Z 22) (aP (.bRW aA (.bRW tI aO)) 3 (.Z 0))) <|
         .call 6 (.bRY tI tI (aK aA 12 (.p1 aA (.bRW tI aO) (.Z 0))) (.p1 tI .bool (.Z 23))) <|
         .ite (aK aA 4 (.p1 aA (.bRW tI aO) (.Z 0))) (
          .bRX (.bS2 119 aB) (bB (.bRW aL aD) [(.p1 aL .bool (.Z 18)),(.ci .i64 0),(.ci .i64 1)]) <|
          .bRX (.lit 82 aF 1) (.bRY tI aL (aK (.bRW aA (.bRW tI aO)) 1 (.Z 0)) (.Z 25)) <|
          .bRX (.bS3 82 aF 32) (.bRY (.slice 82 aF) (.slice 82 aF) (aK aA 5 (.Z 1)) (.Z 26)) <|
          .ret (bB aA [(.p1 tI dA (.Z 1)),(aK aA 1 (.Z 1)),(aK aA 2 (.Z 1)),(aK aA 3 (.Z 1)),(aK aA 4 (.Z 1)),(.Z 27),(aK aA 6 (.Z 1)),(.nl 3 tI),(aK aA 8 (.Z 1)),(aK aA 9 (.Z 1)),(aK aA 10 (.Z 1)),(aK aA 11 (.Z 1)),(.p1 tI .bool (.Z 24)),(.cb true)])) (
          .bRX (.lit 82 aF 1) (.bRY tI aL (aK (.bRW aA (.bRW tI aO)) 1 (.Z 0)) (.p1 aL .bool (.Z 18))) <|
          .bRX (.bS3 82 aF 32) (.bRY (.slice 82 aF) (.slice 82 aF) (aK aA 5 (.Z 1)) (.Z 25)) <|
          .ret (bB aA [(.p1 tI dA (.Z 1)),(aK aA 1 (.Z 1)),(aK aA 2 (.Z 1)),(aK aA 3 (.Z 1)),(aK aA 4 (.Z 1)),(.Z 26),(aK aA 6 (.Z 1)),(.nl 3 tI),(aK aA 8 (.Z 1)),(aK aA 9 (.Z 1)),(aK aA 10 (.Z 1)),(aK aA 11 (.Z 1)),(.p1 tI .bool (.Z 24)),(.cb true)]))) (
         .call 5 (.bRY aB aB (.Z 22) (aP (.bRW aA (.bRW tI aO)) 3 (.Z 0))) <|
         .call 6 (.bRY tI tI (aK aA 12 (.p1 aA (.bRW tI aO) (.Z 0))) (.p1 tI .bool (.Z 23))) <|
         .ite (aP (.bRW aL .bool) 1 (.Z 18)) (
          .ite (aK aA 4 (.p1 aA (.bRW tI aO) (.Z 0))) (
           .bRX (.bS2 119 aB) (bB (.bRW aL aD) [(.p1 aL .bool (.Z 18)),(.ci .i64 0),(.ci .i64 1)]) <|
           .bRX (.lit 82 aF 1) (.bRY tI aL (aK (.bRW aA (.bRW tI aO)) 1 (.Z 0)) (.Z 25)) <|
           .bRX (.bS3 82 aF 32) (.bRY (.slice 82 aF) (.slice 82 aF) (aK aA 5 (.Z 1)) (.Z 26)) <|
           .ret (bB aA [(.p1 tI dA (.Z 1)),(aK aA 1 (.Z 1)),(aK aA 2 (.Z 1)),(aK aA 3 (.Z 1)),(aK aA 4 (.Z 1)),(.Z 27),(aK aA 6 (.Z 1)),(.nl 3 tI),(aK aA 8 (.Z 1)),(aK aA 9 (.Z 1)),(aK aA 10 (.Z 1)),(aK aA 11 (.Z 1)),(.p1 tI .bool (.Z 24)),(.cb true)])) (
           .bRX (.lit 82 aF 1) (.bRY tI aL (aK (.bRW aA (.bRW tI aO)) 1 (.Z 0)) (.p1 aL .bool (.Z 18))) <|
           .bRX (.bS3 82 aF 32) (.bRY (.slice 82 aF) (.slice 82 aF) (aK aA 5 (.Z 1)) (.Z 25)) <|
           .ret (bB aA [(.p1 tI dA (.Z 1)),(aK aA 1 (.Z 1)),(aK aA 2 (.Z 1)),(aK aA 3 (.Z 1)),(aK aA 4 (.Z 1)),(.Z 26),(aK aA 6 (.Z 1)),(.nl 3 tI),(aK aA 8 (.Z 1)),(aK aA 9 (.Z 1)),(aK aA 10 (.Z 1)),(aK aA 11 (.Z 1)),(.p1 tI .bool (.Z 24)),(.cb true)]))) (
          .ite (aP (.bRW tI .bool) 1 (.Z 23)) (
           .ite (aK aA 4 (.p1 aA (.bRW tI aO) (.Z 0))) (
            .bRX (.bS2 119 aB) (bB (.bRW aL aD) [(.p1 aL .bool (.Z 18)),(.ci .i64 0),(.ci .i64 1)]) <|
            .bRX (.lit 82 aF 1) (.bRY tI aL (aK (.bRW aA (.bRW tI aO)) 1 (.Z 0)) (.Z 25)) <|
            .bRX (.bS3 82 aF 32) (.bRY (.slice 82 aF) (.slice 82 aF) (aK aA 5 (.Z 1)) (.Z 26)) <|
            .ret (bB aA [(.p1 tI dA (.Z 1)),(aK aA 1 (.Z 1)),(aK aA 2 (.Z 1)),(aK aA 3 (.Z 1)),(aK aA 4 (.Z 1)),(.Z 27),(aK aA 6 (.Z 1)),(.nl 3 tI),(aK aA 8 (.Z 1)),(aK aA 9 (.Z 1)),(aK aA 10 (.Z 1)),(aK aA 11 (.Z 1)),(.p1 tI .bool (.Z 24)),(.cb true)])) (
            .bRX (.lit 82 aF 1) (.bRY tI aL (aK (.bRW aA (.bRW tI aO)) 1 (.Z 0)) (.p1 aL .bool (.Z 18))) <|
            .bRX (.bS3 82 aF 32) (.bRY (.slice 82 aF) (.slice 82 aF) (aK aA 5 (.Z 1)) (.Z 25)) <|
            .ret (bB aA [(.p1 tI dA (.Z 1)),(aK aA 1 (.Z 1)),(aK aA 2 (.Z 1)),(aK aA 3 (.Z 1)),(aK aA 4 (.Z 1)),(.Z 26),(aK aA 6 (.Z 1)),(.nl 3 tI),(aK aA 8 (.Z 1)),(aK aA 9 (.Z 1)),(aK aA 10 (.Z 1)),(aK aA 11 (.Z 1)),(.p1 tI .bool (.Z 24)),(.cb true)]))) (
           .ite (aK aA 4 (.p1 aA (.bRW tI aO) (.Z 0))) (
            .bRX (.bS2 119 aB) (bB (.bRW aL aD) [(.p1 aL .bool (.Z 18)),(.ci .i64 0),(.ci .i64 1)]) <|
            .bRX (.lit 82 aF 1) (.bRY tI aL (aK (.bRW aA (.bRW tI aO)) 1 (.Z 0)) (.Z 25)) <|
            .bRX (.bS3 82 aF 32) (.bRY (.slice 82 aF) (.slice 82 aF) (aK aA 5 (.Z 1)) (.Z 26)) <|
            .ret (bB aA [(.p1 tI dA (.Z 1)),(aK aA 1 (.Z 1)),(aK aA 2 (.Z 1)),(aK aA 3 (.Z 1)),(aK aA 4 (.Z 1)),(.Z 27),(aK aA 6 (.Z 1)),(.nl 3 tI),(aK aA 8 (.Z 1)),(aK aA 9 (.Z 1)),(aK aA 10 (.Z 1)),(aK aA 11 (.Z 1)),(.Z 24)])) (
            .bRX (.lit 82 aF 1) (.bRY tI aL (aK (.bRW aA (.bRW tI aO)) 1 (.Z 0)) (.p1 aL .bool (.Z 18))) <|
            .bRX (.bS3 82 aF 32) (.bRY (.slice 82 aF) (.slice 82 aF) (aK aA 5 (.Z 1)) (.Z 25)) <|
            .ret (bB aA [(.p1 tI dA (.Z 1)),(aK aA 1 (.Z 1)),(aK aA 2 (.Z 1)),(aK aA 3 (.Z 1)),(aK aA 4 (.Z 1)),(.Z 26),(aK aA 6 (.Z 1)),(.nl 3 tI),(aK aA 8 (.Z 1)),(aK aA 9 (.Z 1)),(aK aA 10 (.Z 1)),(aK aA 11 (.Z 1)),(.Z 24)])))))))) (
      .call 4 (.bRY aE aB (aK aA 2 (.p1 aA (.bRW tI aO) (.Z 0))) (aK (.bRW aA (.bRW tI aO)) 2 (.Z 0))) <|
      .bRX (.bS0 119 aB) (.p1 aL .bool (.Z 11)) <|
      .bRX (.ar .sub .i64) (.bRY tI tI (.Z 12) (.ci .i64 1)) <|
      .bRX (.bS1 119 aB) (.bRY aL tI (.p1 aL .bool (.Z 11)) (.Z 13)) <|
      .bRX (.bS1 119 aB) (.bRY aL tI (.p1 aL .bool (.Z 11)) (.Z 13)) <|
      .ite (aP aA 13 (.p1 aA (.bRW tI aO) (.Z 0))) (
       .bRX (.bS3 3 tI 8) (.bRY aB aB (.nl 3 tI) (.Z 15)) <|
       .ite (aK aA 4 (.p1 aA (.bRW tI aO) (.Z 0))) (
        .bRX (.bS2 119 aB) (bB (.bRW aL aD) [(.p1 aL .bool (.Z 11)),(.ci .i64 0),(.ci .i64 1)]) <|
        .bRX (.lit 82 aF 1) (.bRY tI aL (aK (.bRW aA (.bRW tI aO)) 1 (.Z 0)) (.Z 17)) <|
        .bRX (.bS3 82 aF 32) (.bRY (.slice 82 aF) (.slice 82 aF) (aK aA 5 (.Z 1)) (.Z 18)) <|
        .ret (bB aA [(.p1 tI dA (.Z 1)),(aK aA 1 (.Z 1)),(aK aA 2 (.Z 1)),(aK aA 3 (.Z 1)),(aK aA 4 (.Z 1)),(.Z 19),(aK aA 6 (.Z 1)),(.nl 3 tI),(.Z 16),(aK aA 9 (.Z 1)),(aK aA 10 (.Z 1)),(aK aA 11 (.Z 1)),(aK aA 12 (.Z 1)),(.cb true)])) (
        .bRX (.lit 82 aF 1) (.bRY tI aL (aK (.bRW aA (.bRW tI aO)) 1 (.Z 0)) (.p1 aL .bool (.Z 11))) <|
        .bRX (.bS3 82 aF 32) (.bRY (.slice 82 aF) (.slice 82 aF) (aK aA 5 (.Z 1)) (.Z 17)) <|
        .ret (bB aA [(.p1 tI dA (.Z 1)),(aK aA 1 (.Z 1)),(aK aA 2 (.Z 1)),(aK aA 3 (.Z 1)),(aK aA 4 (.Z 1)),(.Z 18),(aK aA 6 (.Z 1)),(.nl 3 tI),(.Z 16),(aK aA 9 (.Z 1)),(aK aA 10 (.Z 1)),(aK aA 11 (.Z 1)),(aK aA 12 (.Z 1)),(.cb true)]))) (
       .bRX (.bS3 3 tI 8) (.bRY aB aB (.nl 3 tI) (.Z 15)) <|
       .ite (aK aA 4 (.p1 aA (.bRW tI aO) (.Z 0))) (
        .bRX (.bS2 119 aB) (bB (.bRW aL aD) [(.p1 aL .bool (.Z 11)),(.ci .i64 0),(.ci .i64 1)]) <|
        .bRX (.lit 82 aF 1) (.bRY tI aL (aK (.bRW aA (.bRW tI aO)) 1 (.Z 0)) (.Z 17)) <|
        .bRX (.bS3 82 aF 32) (.bRY (.slice 82 aF) (.slice 82 aF) (aK aA 5 (.Z 1)) (.Z 18)) <|
        .ret (bB aA [(.p1 tI dA (.Z 1)),(aK aA 1 (.Z 1)),(aK aA 2 (.Z 1)),(aK aA 3 (.Z 1)),(aK aA 4 (.Z 1)),(.Z 19),(aK aA 6 (.Z 1)),(.nl 3 tI),(.Z 16),(aK aA 9 (.Z 1)),(aK aA 10 (.Z 1)),(aK aA 11 (.Z 1)),(aK aA 12 (.Z 1)),(aP (.bRW aL .bool) 1 (.Z 11))])) (
        .bRX (.lit 82 aF 1) (.bRY tI aL (aK (.bRW aA (.bRW tI aO)) 1 (.Z 0)) (.p1 aL .bool (.Z 11))) <|
        .bRX (.bS3 82 aF 32) (.bRY (.slice 82 aF) (.slice 82 aF) (aK aA 5 (.Z 1)) (.Z 17)) <|
        .ret (bB aA [(.p1 tI dA (.Z 1)),(aK aA 1 (.Z 1)),(aK aA 2 (.Z 1)),(aK aA 3 (.Z 1)),(aK aA 4 (.Z 1)),(.Z 18),(aK aA 6 (.Z 1)),(.nl 3 tI),(.Z 16),(aK aA 9 (.Z 1)),(aK aA 10 (.Z 1)),(aK aA 11 (.Z 1)),(aK aA 12 (.Z 1)),(aP (.bRW aL .bool) 1 (.Z 11))]))))))))
theorem aTM:bI Tryz.prog [eA,eB,bN,eE,jD,tK,dT] oK false 3000 ⟨[],[(2967,912025,[],[31]),(2965,656025,[],[31]),(2967,1808025,[],[31]),(2965,1296025,[],[31]),(2967,3600025,[],[31]),(2965,2576025,[],[31]),(2967,3088025,[],[31]),(2965,2064025,[],[31]),(2973,224017,[],[31]),(2971,160017,[],[31]),(2973,192017,[],[31]),(2971,128017,[],[31])]⟩ = .ok aA0:=by kernel_rfl
set_option maxHeartbeats 1000000 in
theorem aTH (x:bC × (Int × bT)) (hx:okD (.bRW aA (.bRW tI aO)) x) (hp:(fun x=>bM aA x.1≤1000000000) x):aA0.wp [eA,eB,bN,eE,jD,tK,dT] [⟨(.bRW aA (.bRW tI aO)),x⟩] [] (fun v=>v.as aA=(fun x=>aCQ x.1 x.2.1 x.2.2.1 x.2.2.2) x):=by
 obtain ⟨s,m,v,t⟩:=x
 delta aA0 eA eB bN eE jD tK dT;refine cW ?_
 refine dB ?_
 refine ⟨hp,fun _=>⟨fun h=>wS (.inl h),fun h1=>⟨fun h=>wS (.inr (.inl (aC6 h).symm)),fun hv _=>?_⟩⟩⟩
 have hm:=(eJ s).1 h1
 have hn8:=((bY _).1 hm.1)
 have hin:(List.getD s.2.2.1 0 (aW bF)).2.1=jT s.2.2.1:=by unfold jT;rw[if_pos hm.1];rfl
 have hou:(List.getD s.2.2.1 (s.2.2.1.length - 1) (aW bF)).2.2.1=fH s.2.2.1:=by unfold fH;rw[if_pos hm.1];rfl
 rw[hin]
 refine ⟨⟨by omega,by omega⟩,fun _=>⟨fun h=>wS (.inr (.inl (Bool.eq_false_iff.2 fun hh=>h ((cI _ _).1 hh).2))),fun hv2 _=>⟨fun h=>wS (.inr (.inr (.inl h))),fun h3=>?_⟩⟩⟩
 have h2:eQ v (jT s.2.2.1)=true:=(cI _ _).2 ⟨hv,hv2⟩
 have hl:=tE s.2.2.1 v s.2.2.1.length
 have hx6:=aI1 h2
 have h6:=yA s.2.2.1 v hx6 s.2.2.1.length
 have hy6:(List.getD (kN s.2.2.1 v s.2.2.1.length).1 s.2.2.1.length (aW aB)).length≤6:=aJU h6 _
 have hst:=(gZ (t:=aA) hp).2.2.2.2.2.1.1
 replace hst:List.length s.2.2.2.2.2.1≤1000000000:=hst
 constructor
 ·intro hla
  refine ⟨fun h=>wS (.inr (.inr (.inr ⟨hla,(aC6 h).symm⟩))),fun ht _ _=>⟨by omega,fun _=>⟨by omega,fun _=>?_⟩⟩⟩
  rw[hou]
  refine ⟨fun h=>wS (.inr (.inr (.inr ⟨hla,Bool.eq_false_iff.2 fun hh=>h ((cI _ _).1 hh).2⟩))),fun ht2=>?_⟩
  simp only[hl,Nat.add_sub_cancel]
  have hy:=aKW h1 h2 h3 (fun _=>(cI _ _).2 ⟨ht,ht2⟩)
  (repeat' first|intro _|(with_reducible apply And.intro))
  all_goals first|omega|exact Bool.noConfusion ((by assumption:s.2.2.2.1=true).symm.trans (by assumption:s.2.2.2.1=false))|(unfold maxLen;omega)|(simp only[List.drop_zero,List.length_take];omega)|exact Nat.le_trans (h6 _ (by assumption)) (by decide)|exact Nat.le_trans (h6 _ (List.mem_of_mem_take (by assumption))) (by decide)|skip
  all_goals first|exact Bool.noConfusion ((by assumption:s.2.2.2.1=true).symm.trans (by assumption:s.2.2.2.1=false))|refine (aL1 (by assumption) ?_ ?_ ?_).trans hy|refine (aLB (by assumption) ?_ ?_).trans hy
  all_goals first|rfl|(rw[← aTU (by assumption)])|(rw[← aT8 (by assumption)])|exact bG2 (by assumption)|exact bEZ (by assumption)|exact bFO (by assumption)|exact bEG (by assumption) (by assumption) (by assumption)|exact iT (by assumption)|exact mN (by assumption)|(simp[*];done)|skip
 ·intro hla
  simp only[hl,Nat.add_sub_cancel]
  have hy:=aKW (t:=t) h1 h2 h3 (fun h=>absurd h (by simp[hla]))
  (repeat' first|intro _|(with_reducible apply And.intro))
  all_goals first|omega|exact Bool.noConfusion ((by assumption:s.2.2.2.1=true).symm.trans (by assumption:s.2.2.2.1=false))|(unfold maxLen;omega)|(simp only[List.drop_zero,List.length_take];omega)|exact Nat.le_trans (h6 _ (by assumption)) (by decide)|exact Nat.le_trans (h6 _ (List.mem_of_mem_take (by assumption))) (by decide)|skip
  all_goals first|exact Bool.noConfusion ((by assumption:s.2.2.2.1=true).symm.trans (by assumption:s.2.2.2.1=false))|refine (aL1 (by assumption) ?_ ?_ ?_).trans hy|refine (aLB (by assumption) ?_ ?_).trans hy
  all_goals first|rfl|(rw[← aTU (by assumption)])|(rw[← aT8 (by assumption)])|exact bG2 (by assumption)|exact bEZ (by assumption)|exact bFO (by assumption)|exact bEG (by assumption) (by assumption) (by assumption)|exact iT (by assumption)|exact mN (by assumption)|(simp[*];done)|skip
set_option maxHeartbeats 1000000 in
theorem aU1:Con.Holds Tryz.prog oK:=aS aV (aI vT (aI vC (aI fD (aI wO (aI aHA (aI bA6 (aI tB aQ))))))) aTM aTH
end Go.Proofs.YtabamggdmdednaaGreat
