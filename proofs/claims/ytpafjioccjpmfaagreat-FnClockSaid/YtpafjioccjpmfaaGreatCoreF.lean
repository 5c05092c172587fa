/- CoreF: lemmas. No conditions. -/
import Derived.Test.YtpafjioccjpmfaaGreatCore7
namespace Go.Proofs.YtpafjioccjpmfaaGreat
open Go.ChangeShapes Go.WideShapes Go.ChangeAt Go.RowKit Go.Deep
set_option linter.unusedVariables false
set_option linter.unusedSimpArgs false
noncomputable def nV:Con:=⟨74,(.bPW aA (.bPW tI aQ)),aA,[.val ⟨true,aA,[]⟩,.val ⟨false,tI,[]⟩,.val ⟨false,aB,[]⟩,.val ⟨false,aB,[]⟩],[⟨true,aA,[0,2,2,0,0,2,2,2,2,2,2,2,0,0]⟩],false,none,
 ((fun x=>bS aA x.1≤1000000000):(bG × (Int × cB))→Prop),
 ((fun x=>sQ x.1 x.2.1 x.2.2.1 x.2.2.2):(bG × (Int × cB))→(bG))⟩
def yV:T:=.call 0 (.p1 aA (.bPW tI aQ) (.Z 0)) <|.call 1 (.p1 aA (.bPW tI aQ) (.Z 0)) <|.call 2 (.p1 aA (.bPW tI aQ) (.Z 0)) <|
 .bPX .not (.Z 3) <|
 .ite (.Z 4) (
  .ret (.Z 1)) (
  .call 3 (.Z 2) <|
  .call 4 (.bPY aB tI (aH (.bPW aA (.bPW tI aQ)) 2 (.Z 0)) (.Z 5)) <|
  .bPX .not (.Z 6) <|
  .ite (.Z 7) (
   .ret (.Z 1)) (
   .call 5 (.bPY (.slice 104 aL) tI (aH aA 5 (.p1 aA (.bPW tI aQ) (.Z 0))) (aH (.bPW aA (.bPW tI aQ)) 1 (.Z 0))) <|
   .bPX (.cmp .geq .i64) (.bPY tI tI (.Z 8) (.ci .i64 0)) <|
   .ite (.Z 9) (
    .ret (.Z 1)) (
    .ite (aH aA 3 (.p1 aA (.bPW tI aQ) (.Z 0))) (
     .call 6 (.Z 2) <|
     .call 4 (.bPY aB tI (aS (.bPW aA (.bPW tI aQ)) 3 (.Z 0)) (.Z 10)) <|
     .bPX .not (.Z 11) <|
     .ite (.Z 12) (
      .ret (.Z 1)) (
      .call 7 (.bPY aE aB (.Z 2) (aH (.bPW aA (.bPW tI aQ)) 2 (.Z 0))) <|
      .bPX (.bQ0 80 bU) (aH aA 2 (.p1 aA (.bPW tI aQ) (.Z 0))) <|
      .bPX (.bQ1 134 aB) (.bPY aO tI (.p1 aO .bool (.Z 13)) (.Z 14)) <|
      .bPX (.bQ1 134 aB) (.bPY aO tI (.p1 aO .bool (.Z 13)) (.Z 14)) <|
      .ite (aH aA 4 (.p1 aA (.bPW tI aQ) (.Z 0))) (
       .bPX (.bQ2 134 aB) (bP (.bPW aO aD) [(.p1 aO .bool (.Z 13)),(.ci .i64 0),(.ci .i64 1)]) <|
       .call 8 (.Z 17) <|
       .bPX (.lit 104 aL 1) (.bPY tI aO (aH (.bPW aA (.bPW tI aQ)) 1 (.Z 0)) (.Z 18)) <|
       .bPX (.bQ3 104 aL 32) (.bPY (.slice 104 aL) (.slice 104 aL) (aH aA 5 (.Z 1)) (.Z 19)) <|
       .ite (aS aA 13 (.Z 1)) (
        .bPX .not (aH aA 3 (.p1 aA (.bPW tI aQ) (.Z 0))) <|
        .ite (.Z 21) (
         .call 9 (.Z 16) <|
         .ret (bP aA [(.p1 tI gO (.Z 1)),(aH aA 1 (.Z 1)),(aH aA 2 (.Z 1)),(aH aA 3 (.Z 1)),(aH aA 4 (.Z 1)),(.Z 20),(aH aA 6 (.Z 1)),(.nl 3 tI),(.Z 22),(aH aA 9 (.Z 1)),(aH aA 10 (.Z 1)),(aH aA 11 (.Z 1)),(aH aA 12 (.Z 1)),(.cb true)])) (
         .call 10 (.bPY aB aB (.Z 16) (aS (.bPW aA (.bPW tI aQ)) 3 (.Z 0))) <|
         .call 11 (.bPY tI tI (aH aA 12 (.Z 1)) (.p1 tI .bool (.Z 22))) <|
         .ret (bP aA [(.p1 tI gO (.Z 1)),(aH aA 1 (.Z 1)),(aH aA 2 (.Z 1)),(aH aA 3 (.Z 1)),(aH aA 4 (.Z 1)),(.Z 20),(aH aA 6 (.Z 1)),(.nl 3 tI),(aH aA 8 (.Z 1)),(aH aA 9 (.Z 1)),(aH aA 10 (.Z 1)),(aH aA 11 (.Z 1)),(.p1 tI .bool (.Z 23)),(.cb true)]))) (
        .bPX .not (aH aA 3 (.p1 aA (.bPW tI aQ) (.Z 0))) <|
        .ite (.Z 21) (
         .call 9 (.Z 16) <|
         .ret (bP aA [(.p1 tI gO (.Z 1)),(aH aA 1 (.Z 1)),(aH aA 2 (.Z 1)),(aH aA 3 (.Z 1)),(aH aA 4 (.Z 1)),(.Z 20),(aH aA 6 (.Z 1)),(.nl 3 tI),(.Z 22),(aH aA 9 (.Z 1)),(aH aA 10 (.Z 1)),(aH aA 11 (.Z 1)),(aH aA 12 (.Z 1)),(aS (.bPW aO .bool) 1 (.Z 13))])) (
         .call 10 (.bPY aB aB (.Z 16) (aS (.bPW aA (.bPW tI aQ)) 3 (.Z 0))) <|
         .call 11 (.bPY tI tI (aH aA 12 (.Z 1)) (.p1 tI .bool (.Z 22))) <|
         .ite (aS (.bPW aO .bool) 1 (.Z 13)) (
          .ret (bP aA [(.p1 tI gO (.Z 1)),(aH aA 1 (.Z 1)),(aH aA 2 (.Z 1)),(aH aA 3 (.Z 1)),(aH aA 4 (.Z 1)),(.Z 20),(aH aA 6 (.Z 1)),(.nl 3 tI),(aH aA 8 (.Z 1)),(aH aA 9 (.Z 1)),(aH aA 10 (.Z 1)),(aH aA 11 (.Z 1)),(.p1 tI .bool (.Z 23)),(.cb true)])) (
          .ite (aS (.bPW tI .bool) 1 (.Z 22)) (
           .ret (bP aA [(.p1 tI gO (.Z 1)),(aH aA 1 (.Z 1)),(aH aA 2 (.Z 1)),(aH aA 3 (.Z 1)),(aH aA 4 (.Z 1)),(.Z 20),(aH aA 6 (.Z 1)),(.nl 3 tI),(aH aA 8 (.Z 1)),(aH aA 9 (.Z 1)),(aH aA 10 (.Z 1)),(aH aA 11 (.Z 1)),(.p1 tI .bool (.Z 23)),(.cb true)])) (
           .ret (bP aA [(.p1 tI gO (.Z 1)),(aH aA 1 (.Z 1)),(aH aA 2 (.Z 1)),(aH aA 3 (.Z 1)),(aH aA 4 (.Z 1)),(.Z 20),(aH aA 6 (.Z 1)),(.nl 3 tI),(aH aA 8 (.Z 1)),(aH aA 9 (.Z 1)),(aH aA 10 (.Z 1)),(aH aA 11 (.Z 1)),(.Z 23)])))))) (
       .call 8 (.p1 aO .bool (.Z 13)) <|
       .bPX (.lit 104 aL 1) (.bPY tI aO (aH (.bPW aA (.bPW tI aQ)) 1 (.Z 0)) (.Z 17)) <|
       .bPX (.bQ3 104 aL 32) (.bPY (.slice 104 aL) (.slice 104 aL) (aH aA 5 (.Z 1)) (.Z 18)) <|
       .ite (aS aA 13 (.Z 1)) (
        .bPX .not (aH aA 3 (.p1 aA (.bPW tI aQ) (.Z 0))) <|
        .ite (.Z 20) (
         .call 9 (.Z 16) <|
         .ret (bP aA [(.p1 tI gO (.Z 1)),(aH aA 1 (.Z 1)),(aH aA 2 (.Z 1)),(aH aA 3 (.Z 1)),(aH aA 4 (.Z 1)),(.Z 19),(aH aA 6 (.Z 1)),(.nl 3 tI),(.Z 21),(aH aA 9 (.Z 1)),(aH aA 10 (.Z 1)),(aH aA 11 (.Z 1)),(aH aA 12 (.Z 1)),(.cb true)])) (
         .call 10 (.bPY aB aB (.Z 16) (aS (.bPW aA (.bPW tI aQ)) 3 (.Z 0))) <|
         .call 11 (.bPY tI tI (aH aA 12 (.Z 1)) (.p1 tI .bool (.Z 21))) <|
         .ret (bP aA [(.p1 tI gO (.Z 1)),(aH aA 1 (.Z 1)),(aH aA 2 (.Z 1)),(aH aA 3 (.Z 1)),(aH aA 4 (.Z 1)),(.Z 19),(aH aA 6 (.Z 1)),(.nl 3 tI),(aH aA 8 (.Z 1)),(aH aA 9 (.Z 1)),(aH aA 10 (.Z 1)),(aH aA 11 (.Z 1)),(.p1 tI .bool (.Z 22)),(.cb true)]))) (
        .bPX .not (aH aA 3 (.p1 aA (.bPW tI aQ) (.Z 0))) <|
        .ite (.Z 20) (
         .call 9 (.Z 16) <|
         .ret (bP aA [(.p1 tI gO (.Z 1)),(aH aA 1 (.Z 1)),(aH aA 2 (.Z 1)),(aH aA 3 (.Z 1)),(aH aA 4 (.Z 1)),(.Z 19),(aH aA 6 (.Z 1)),(.nl 3 tI),(.Z 21),(aH aA 9 (.Z 1)),(aH aA 10 (.Z 1)),(aH aA 11 (.Z 1)),(aH aA 12 (.Z 1)),(aS (.bPW aO .bool) 1 (.Z 13))])) (
         .call 10 (.bPY aB aB (.Z 16) (aS (.bPW aA (.bPW tI aQ)) 3 (.Z 0))) <|
         .call 11 (.bPY tI tI (aH aA 12 (.Z 1)) (.p1 tI .bool (.Z 21))) <|
         .ite (aS (.bPW aO .bool) 1 (.Z 13)) (
          .ret (bP aA [(.p1 tI gO (.Z 1)),(aH aA 1 (.Z 1)),(aH aA 2 (.Z 1)),(aH aA 3 (.Z 1)),(aH aA 4 (.Z 1)),(.Z 19),(aH aA 6 (.Z 1)),(.nl 3 tI),(aH aA 8 (.Z 1)),(aH aA 9 (.Z 1)),(aH aA 10 (.Z 1)),(aH aA 11 (.Z 1)),(.p1 tI .bool (.Z 22)),(.cb true)])) (
          .ite (aS (.bPW tI .bool) 1 (.Z 21)) (
           .ret (bP aA [(.p1 tI gO (.Z 1)),(aH aA 1 (.Z 1)),(aH aA 2 (.Z 1)),(aH aA 3 (.Z 1)),(aH aA 4 (.Z 1)),(.Z 19),(aH aA 6 (.Z 1)),(.nl 3 tI),(aH aA 8 (.Z 1)),(aH aA 9 (.Z 1)),(aH aA 10 (.Z 1)),(aH aA 11 (.Z 1)),(.p1 tI .bool (.Z 22)),(.cb true)])) (
           .ret (bP aA [(.p1 tI gO (.Z 1)),(aH aA 1 (.Z 1)),(aH aA 2 (.Z 1)),(aH aA 3 (.Z 1)),(aH aA 4 (.Z 1)),(.Z 19),(aH aA 6 (.Z 1)),(.nl 3 tI),(aH aA 8 (.Z 1)),(aH aA 9 (.Z 1)),(aH aA 10 (.Z 1)),(aH aA 11 (.Z 1)),(.Z 22)])))))))) (
     .call 7 (.bPY aE aB (.Z 2) (aH (.bPW aA (.bPW tI aQ)) 2 (.Z 0))) <|
     .bPX (.bQ0 80 bU) (aH aA 2 (.p1 aA (.bPW tI aQ) (.Z 0))) <|
     .bPX (.bQ1 134 aB) (.bPY aO tI (.p1 aO .bool (.Z 10)) (.Z 11)) <|
     .bPX (.bQ1 134 aB) (.bPY aO tI (.p1 aO .bool (.Z 10)) (.Z 11)) <|
     .ite (aH aA 4 (.p1 aA (.bPW tI aQ) (.Z 0))) (
      .bPX (.bQ2 134 aB) (bP (.bPW aO aD) [(.p1 aO .bool (.Z 10)),(.ci .i64 0),(.ci .i64 1)]) <|
      .call 8 (.Z 14) <|
      .bPX (.lit 104 aL 1) (.bPY tI aO (aH (.bPW aA (.bPW tI aQ)) 1 (.Z 0)) (.Z 15)) <|
      .bPX (.bQ3 104 aL 32) (.bPY (.slice 104 aL) (.slice 104 aL) (aH aA 5 (.Z 1)) (.Z 16)) <|
      .ite (aS aA 13 (.Z 1)) (
       .bPX .not (aH aA 3 (.p1 aA (.bPW tI aQ) (.Z 0))) <|
       .ite (.Z 18) (
        .call 9 (.Z 13) <|
        .ret (bP aA [(.p1 tI gO (.Z 1)),(aH aA 1 (.Z 1)),(aH aA 2 (.Z 1)),(aH aA 3 (.Z 1)),(aH aA 4 (.Z 1)),(.Z 17),(aH aA 6 (.Z 1)),(.nl 3 tI),(.Z 19),(aH aA 9 (.Z 1)),(aH aA 10 (.Z 1)),(aH aA 11 (.Z 1)),(aH aA 12 (.Z 1)),(.cb true)])) (
        .call 10 (.bPY aB aB (.Z 13) (aS (.bPW aA (.bPW tI aQ)) 3 (.Z 0))) <|
        .call 11 (.bPY tI tI (aH aA 12 (.Z 1)) (.p1 tI .bool (.Z 19))) <|
        .ret (bP aA [(.p1 tI gO (.Z 1)),(aH aA 1 (.Z 1)),(aH aA 2 (.Z 1)),(aH aA 3 (.Z 1)),(aH aA 4 (.Z 1)),(.Z 17),(aH aA 6 (.Z 1)),(.nl 3 tI),(aH aA 8 (.Z 1)),(aH aA 9 (.Z 1)),(aH aA 10 (.Z 1)),(aH aA 11 (.Z 1)),(.p1 tI .bool (.Z 20)),(.cb true)]))) (
       .bPX .not (aH aA 3 (.p1 aA (.bPW tI aQ) (.Z 0))) <|
       .ite (.Z 18) (
        .call 9 (.Z 13) <|
        .ret (bP aA [(.p1 tI gO (.Z 1)),(aH aA 1 (.Z 1)),(aH aA 2 (.Z 1)),(aH aA 3 (.Z 1)),(aH aA 4 (.Z 1)),(.Z 17),(aH aA 6 (.Z 1)),(.nl 3 tI),(.Z 19),(aH aA 9 (.Z 1)),(aH aA 10 (.Z 1)),(aH aA 11 (.Z 1)),(aH aA 12 (.Z 1)),(aS (.bPW aO .bool) 1 (.Z 10))])) (
        .call 10 (.bPY aB aB (.Z 13) (aS (.bPW aA (.bPW tI aQ)) 3 (.Z 0))) <|
        .call 11 (.bPY tI tI (aH aA 12 (.Z 1)) (.p1 tI .bool (.Z 19))) <|
        .ite (aS (.bPW aO .bool) 1 (.Z 10)) (
         .ret (bP aA [(.p1 tI gO (.Z 1)),(aH aA 1 (.Z 1)),(aH aA 2 (.Z 1)),(aH aA 3 (.Z 1)),(aH aA 4 (.Z 1)),(.Z 17),(aH aA 6 (.Z 1)),(.nl 3 tI),(aH aA 8 (.Z 1)),(aH aA 9 (.Z 1)),(aH aA 10 (.Z 1)),(aH aA 11 (.Z 1)),(.p1 tI .bool (.Z 20)),(.cb true)])) (
         .ite (aS (.bPW tI .bool) 1 (.Z 19)) (
          .ret (bP aA [(.p1 tI gO (.Z 1)),(aH aA 1 (.Z 1)),(aH aA 2 (.Z 1)),(aH aA 3 (.Z 1)),(aH aA 4 (.Z 1)),(.Z 17),(aH aA 6 (.Z 1)),(.nl 3 tI),(aH aA 8 (.Z 1)),(aH aA 9 (.Z 1)),(aH aA 10 (.Z 1)),(aH aA 11 (.Z 1)),(.p1 tI .bool (.Z 20)),(.cb true)])) (
          .ret (bP aA [(.p1 tI gO (.Z 1)),(aH aA 1 (.Z 1)),(aH aA 2 (.Z 1)),(aH aA 3 (.Z 1)),(aH aA 4 (.Z 1)),(.Z 17),(aH aA 6 (.Z 1)),(.nl 3 tI),(aH aA 8 (.Z 1)),(aH aA 9 (.Z 1)),(aH aA 10 (.Z 1)),(aH aA 11 (.Z 1)),(.Z 20)])))))) (
      .call 8 (.p1 aO .bool (.Z 10)) <|
      .bPX (.lit 104 aL 1) (.bPY tI aO (aH (.bPW aA (.bPW tI aQ)) 1 (.Z 0)) (.Z 14)) <|
      .bPX (.bQ3 104 aL 32) (.bPY (.slice 104 aL) (.slice 104 aL) (aH aA 5 (.Z 1)) (.Z 15)) <|
      .ite (aS aA 13 (.Z 1)) (
       .bPX .not (aH aA 3 (.p1 aA (.bPW tI aQ) (.Z 0))) <|
       .ite (.Z 17) (
        .call 9 (.Z 13) <|
        .ret (bP aA [(.p1 tI gO (.Z 1)),(aH aA 1 (.Z 1)),(aH aA 2 (.Z 1)),(aH aA 3 (.Z 1)),(aH aA 4 (.Z 1)),(.Z 16),(aH aA 6 (.Z 1)),(.nl 3 tI),(.Z 18),(aH aA 9 (.Z 1)),(aH aA 10 (.Z 1)),(aH aA 11 (.Z 1)),(aH aA 12 (.Z 1)),(.cb true)])) (
        .call 10 (.bPY aB aB (.Z 13) (aS (.bPW aA (.bPW tI aQ)) 3 (.Z 0))) <|
        .call 11 (.bPY tI tI (aH aA 12 (.Z 1)) (.p1 tI .bool (.Z 18))) <|
        .ret (bP aA [(.p1 tI gO (.Z 1)),(aH aA 1 (.Z 1)),(aH aA 2 (.Z 1)),(aH aA 3 (.Z 1)),(aH aA 4 (.Z 1)),(.Z 16),(aH aA 6 (.Z 1)),(.nl 3 tI),(aH aA 8 (.Z 1)),(aH aA 9 (.Z 1)),(aH aA 10 (.Z 1)),(aH aA 11 (.Z 1)),(.p1 tI .bool (.Z 19)),(.cb true)]))) (
       .bPX .not (aH aA 3 (.p1 aA (.bPW tI aQ) (.Z 0))) <|
       .ite (.Z 17) (
        .call 9 (.Z 13) <|
        .ret (bP aA [(.p1 tI gO (.Z 1)),(aH aA 1 (.Z 1)),(aH aA 2 (.Z 1)),(aH aA 3 (.Z 1)),(aH aA 4 (.Z 1)),(.Z 16),(aH aA 6 (.Z 1)),(.nl 3 tI),(.Z 18),(aH aA 9 (.Z 1)),(aH aA 10 (.Z 1)),(aH aA 11 (.Z 1)),(aH aA 12 (.Z 1)),(aS (.bPW aO .bool) 1 (.Z 10))])) (
        .call 10 (.bPY aB aB (.Z 13) (aS (.bPW aA (.bPW tI aQ)) 3 (.Z 0))) <|
        .call 11 (.bPY tI tI (aH aA 12 (.Z 1)) (.p1 tI .bool (.Z 18))) <|
        .ite (aS (.bPW aO .bool) 1 (.Z 10)) (
         .ret (bP aA [(.p1 tI gO (.Z 1)),(aH aA 1 (.Z 1)),(aH aA 2 (.Z 1)),(aH aA 3 (.Z 1)),(aH aA 4 (.Z 1)),(.Z 16),(aH aA 6 (.Z 1)),(.nl 3 tI),(aH aA 8 (.Z 1)),(aH aA 9 (.Z 1)),(aH aA 10 (.Z 1)),(aH aA 11 (.Z 1)),(.p1 tI .bool (.Z 19)),(.cb true)])) (
         .ite (aS (.bPW tI .bool) 1 (.Z 18)) (
          .ret (bP aA [(.p1 tI gO (.Z 1)),(aH aA 1 (.Z 1)),(aH aA 2 (.Z 1)),(aH aA 3 (.Z 1)),(aH aA 4 (.Z 1)),(.Z 16),(aH aA 6 (.Z 1)),(.nl 3 tI),(aH aA 8 (.Z 1)),(aH aA 9 (.Z 1)),(aH aA 10 (.Z 1)),(aH aA 11 (.Z 1)),(.p1 tI .bool (.Z 19)),(.cb true)])) (
          .ret (bP aA [(.p1 tI gO (.Z 1)),(aH aA 1 (.Z 1)),(aH aA 2 (.Z 1)),(aH aA 3 (.Z 1)),(aH aA 4 (.Z 1)),(.Z 16),(aH aA 6 (.Z 1)),(.nl 3 tI),(aH aA 8 (.Z 1)),(aH aA 9 (.Z 1)),(aH aA 10 (.Z 1)),(aH aA 11 (.Z 1)),(.Z 19)]))))))))))
set_option maxRecDepth 100000 in
theorem aSB:bW Tryz.prog [dI,eF,eG,iP,cG,eL,gF,lK,fG,bT,rX,fC] nV false 3000 ⟨[],[(2973,104017,[],[33]),(2971,104018,[73],[]),(2971,72017,[73],[]),(2973,48014,[],[33]),(2971,48015,[73],[]),(2971,32014,[73],[])]⟩ = .ok yV:=by kernel_rfl
theorem aQP (x:bG × (Int × cB)) (hx:okD (.bPW aA (.bPW tI aQ)) x) (hp:(fun x=>bS aA x.1≤1000000000) x):yV.wp [dI,eF,eG,iP,cG,eL,gF,lK,fG,bT,rX,fC] [⟨(.bPW aA (.bPW tI aQ)),x⟩] [] (fun v=>v.as aA=(fun x=>sQ x.1 x.2.1 x.2.2.1 x.2.2.2) x):=by
 obtain ⟨s,m,v,t⟩:=x
 delta yV dI eF eG iP cG eL gF lK fG bT rX fC;refine dY ?_
 refine eD ?_
 refine ⟨hp,fun _ _=>⟨fun h=>aQB (.inl h),fun h1 _=>⟨fun h=>aQB (.inr (.inl h)),fun h2 _=>⟨fun h=>aQB (.inr (.inr (.inl h))),fun h3=>?_⟩⟩⟩⟩
 have hm:=(cD s).1 h1
 rw[show yT s.2.2.1 v=_ from if_pos ⟨hm.1,h2⟩]
 have hl:=qK s.2.2.1 v s.2.2.1.length
 have hx6:=aJ2 h2
 have hn8:=((bM _).1 hm.1).2.1
 have h6:=aC0 s.2.2.1 v hx6 s.2.2.1.length
 have hy6:(List.getD (jC s.2.2.1 v s.2.2.1.length).1 s.2.2.1.length (aP aB)).length≤6:=aPA h6 _
 have hst:=(rC (t:=aA) hp).2.2.2.2.2.1.1
 replace hst:List.length s.2.2.2.2.2.1≤1000000000:=hst
 constructor
 ·intro hla _
  refine ⟨fun h=>aQB (.inr (.inr (.inr ⟨hla,h⟩))),fun h4=>?_⟩
  have hy:=bBD h1 h2 h3 (fun _=>h4)
  (repeat' first|intro _|(with_reducible apply And.intro))
  all_goals first|omega|exact Bool.noConfusion ((by assumption:s.2.2.2.1=true).symm.trans (by assumption:s.2.2.2.1=false))|(unfold maxLen;omega)|(simp only[List.drop_zero,List.length_take];omega)|exact Nat.le_trans (h6 _ (by assumption)) (by decide)|exact Nat.le_trans (h6 _ (List.mem_of_mem_take (by assumption))) (by decide)|skip
  all_goals first|exact Bool.noConfusion ((by assumption:s.2.2.2.1=true).symm.trans (by assumption:s.2.2.2.1=false))|refine (bB0 (by assumption) ?_ ?_ ?_).trans hy|refine (bCC (by assumption) ?_ ?_).trans hy
  all_goals first|rfl|(rw[← bGB (by assumption)])|(rw[← bGO (by assumption)])|exact bMO (by assumption)|exact bMT (by assumption)|exact bMY (by assumption)|exact bMN (by assumption) (by assumption) (by assumption)|exact uY (by assumption)|exact aD0 (by assumption)|(simp[*];done)|skip
 ·intro hla
  have hy:=bBD (t:=t) h1 h2 h3 (fun h=>absurd h (by simp[hla]))
  (repeat' first|intro _|(with_reducible apply And.intro))
  all_goals first|omega|exact Bool.noConfusion ((by assumption:s.2.2.2.1=true).symm.trans (by assumption:s.2.2.2.1=false))|(unfold maxLen;omega)|(simp only[List.drop_zero,List.length_take];omega)|exact Nat.le_trans (h6 _ (by assumption)) (by decide)|exact Nat.le_trans (h6 _ (List.mem_of_mem_take (by assumption))) (by decide)|skip
  all_goals first|exact Bool.noConfusion ((by assumption:s.2.2.2.1=true).symm.trans (by assumption:s.2.2.2.1=false))|refine (bB0 (by assumption) ?_ ?_ ?_).trans hy|refine (bCC (by assumption) ?_ ?_).trans hy
  all_goals first|rfl|(rw[← bGB (by assumption)])|(rw[← bGO (by assumption)])|exact bMO (by assumption)|exact bMT (by assumption)|exact bMY (by assumption)|exact bMN (by assumption) (by assumption) (by assumption)|exact uY (by assumption)|exact aD0 (by assumption)|(simp[*];done)|skip
theorem aR2:Con.Holds Tryz.prog nV:=aX aZ (aG pM (aG uI (aG uK (aG aFD (aG jN (aG vW (aG aCA (aG aJK (aG yM (aG gT (aG aYO (aG yQ aT)))))))))))) aSB aQP
end Go.Proofs.YtpafjioccjpmfaaGreat
