/- CoreF: lemmas. No conditions. -/
import Derived.Test.YtpleleanibgniaaGreatCore7
namespace Go.Proofs.YtpleleanibgniaaGreat
open Go.ChangeShapes Go.WideShapes Go.ChangeAt Go.RowKit Go.Deep
set_option linter.unusedVariables false
set_option linter.unusedSimpArgs false
noncomputable def lQ:Con:=⟨56,(.bJ2 aA (.bJ2 tI aQ)),aA,[.val ⟨true,aA,[]⟩,.val ⟨false,tI,[]⟩,.val ⟨false,aB,[]⟩,.val ⟨false,aB,[]⟩],[⟨true,aA,[0,2,2,0,0,2,2,2,2,2,2,2,0,0]⟩],false,none,
 ((fun x=>bW aA x.1≤1000000000):(bC × (Int × cI))→Prop),
 ((fun x=>yH x.1 x.2.1 x.2.2.1 x.2.2.2):(bC × (Int × cI))→(bC))⟩
def uW:T:=.call 0 (.p1 aA (.bJ2 tI aQ) (.Z 0)) <|.call 1 (.p1 aA (.bJ2 tI aQ) (.Z 0)) <|.call 2 (.p1 aA (.bJ2 tI aQ) (.Z 0)) <|
 .bJ3 .not (.Z 3) <|
 .ite (.Z 4) (
  .ret (.Z 1)) (
  .call 3 (.Z 2) <|
  .call 4 (.bJ4 aB tI (aJ (.bJ2 aA (.bJ2 tI aQ)) 2 (.Z 0)) (.Z 5)) <|
  .bJ3 .not (.Z 6) <|
  .ite (.Z 7) (
   .ret (.Z 1)) (
   .call 5 (.bJ4 (.slice 133 aM) tI (aJ aA 5 (.p1 aA (.bJ2 tI aQ) (.Z 0))) (aJ (.bJ2 aA (.bJ2 tI aQ)) 1 (.Z 0))) <|
   .bJ3 (.cmp .geq .i64) (.bJ4 tI tI (.Z 8) (.ci .i64 0)) <|
   .ite (.Z 9) (
    .ret (.Z 1)) (
    .ite (aJ aA 3 (.p1 aA (.bJ2 tI aQ) (.Z 0))) (
     .call 6 (.Z 2) <|
     .call 4 (.bJ4 aB tI (aR (.bJ2 aA (.bJ2 tI aQ)) 3 (.Z 0)) (.Z 10)) <|
     .bJ3 .not (.Z 11) <|
     .ite (.Z 12) (
      .ret (.Z 1)) (
      .call 7 (.bJ4 aD aB (.Z 2) (aJ (.bJ2 aA (.bJ2 tI aQ)) 2 (.Z 0))) <|
      .bJ3 (.bJ6 93 bN) (aJ aA 2 (.p1 aA (.bJ2 tI aQ) (.Z 0))) <|
      .bJ3 (.bJ7 124 aB) (.bJ4 aP tI (.p1 aP .bool (.Z 13)) (.Z 14)) <|
      .bJ3 (.bJ7 124 aB) (.bJ4 aP tI (.p1 aP .bool (.Z 13)) (.Z 14)) <|
      .ite (aJ aA 4 (.p1 aA (.bJ2 tI aQ) (.Z 0))) (
       .bJ3 (.bJ8 124 aB) (bJ (.bJ2 aP aC) [(.p1 aP .bool (.Z 13)),(.ci .i64 0),(.ci .i64 1)]) <|
       .call 8 (.Z 17) <|
       .bJ3 (.lit 133 aM 1) (.bJ4 tI aP (aJ (.bJ2 aA (.bJ2 tI aQ)) 1 (.Z 0)) (.Z 18)) <|
       .bJ3 (.bJ9 133 aM 32) (.bJ4 (.slice 133 aM) (.slice 133 aM) (aJ aA 5 (.Z 1)) (.Z 19)) <|
       .ite (aR aA 13 (.Z 1)) (
        .bJ3 .not (aJ aA 3 (.p1 aA (.bJ2 tI aQ) (.Z 0))) <|
        .ite (.Z 21) (
         .call 9 (.Z 16) <|
         .ret (bJ aA [(.p1 tI fJ (.Z 1)),(aJ aA 1 (.Z 1)),(aJ aA 2 (.Z 1)),(aJ aA 3 (.Z 1)),(aJ aA 4 (.Z 1)),(.Z 20),(aJ aA 6 (.Z 1)),(.nl 3 tI),(.Z 22),(aJ aA 9 (.Z 1)),(aJ aA 10 (.Z 1)),(aJ aA 11 (.Z 1)),(aJ aA 12 (.Z 1)),(.cb true)])) (
         .call 10 (.bJ4 aB aB (.Z 16) (aR (.bJ2 aA (.bJ2 tI aQ)) 3 (.Z 0))) <|
         .call 11 (.bJ4 tI tI (aJ aA 12 (.Z 1)) (.p1 tI .bool (.Z 22))) <|
         .ret (bJ aA [(.p1 tI fJ (.Z 1)),(aJ aA 1 (.Z 1)),(aJ aA 2 (.Z 1)),(aJ aA 3 (.Z 1)),(aJ aA 4 (.Z 1)),(.Z 20),(aJ aA 6 (.Z 1)),(.nl 3 tI),(aJ aA 8 (.Z 1)),(aJ aA 9 (.Z 1)),(aJ aA 10 (.Z 1)),(aJ aA 11 (.Z 1)),(.p1 tI .bool (.Z 23)),(.cb true)]))) (
        .bJ3 .not (aJ aA 3 (.p1 aA (.bJ2 tI aQ) (.Z 0))) <|
        .ite (.Z 21) (
         .call 9 (.Z 16) <|
         .ret (bJ aA [(.p1 tI fJ (.Z 1)),(aJ aA 1 (.Z 1)),(aJ aA 2 (.Z 1)),(aJ aA 3 (.Z 1)),(aJ aA 4 (.Z 1)),(.Z 20),(aJ aA 6 (.Z 1)),(.nl 3 tI),(.Z 22),(aJ aA 9 (.Z 1)),(aJ aA 10 (.Z 1)),(aJ aA 11 (.Z 1)),(aJ aA 12 (.Z 1)),(aR (.bJ2 aP .bool) 1 (.Z 13))])) (
         .call 10 (.bJ4 aB aB (.Z 16) (aR (.bJ2 aA (.bJ2 tI aQ)) 3 (.Z 0))) <|
         .call 11 (.bJ4 tI tI (aJ aA 12 (.Z 1)) (.p1 tI .bool (.Z 22))) <|
         .ite (aR (.bJ2 aP .bool) 1 (.Z 13)) (
          .ret (bJ aA [(.p1 tI fJ (.Z 1)),(aJ aA 1 (.Z 1)),(aJ aA 2 (.Z 1)),(aJ aA 3 (.Z 1)),(aJ aA 4 (.Z 1)),(.Z 20),(aJ aA 6 (.Z 1)),(.nl 3 tI),(aJ aA 8 (.Z 1)),(aJ aA 9 (.Z 1)),(aJ aA 10 (.Z 1)),(aJ aA 11 (.Z 1)),(.p1 tI .bool (.Z 23)),(.cb true)])) (
          .ite (aR (.bJ2 tI .bool) 1 (.Z 22)) (
           .ret (bJ aA [(.p1 tI fJ (.Z 1)),(aJ aA 1 (.Z 1)),(aJ aA 2 (.Z 1)),(aJ aA 3 (.Z 1)),(aJ aA 4 (.Z 1)),(.Z 20),(aJ aA 6 (.Z 1)),(.nl 3 tI),(aJ aA 8 (.Z 1)),(aJ aA 9 (.Z 1)),(aJ aA 10 (.Z 1)),(aJ aA 11 (.Z 1)),(.p1 tI .bool (.Z 23)),(.cb true)])) (
           .ret (bJ aA [(.p1 tI fJ (.Z 1)),(aJ aA 1 (.Z 1)),(aJ aA 2 (.Z 1)),(aJ aA 3 (.Z 1)),(aJ aA 4 (.Z 1)),(.Z 20),(aJ aA 6 (.Z 1)),(.nl 3 tI),(aJ aA 8 (.Z 1)),(aJ aA 9 (.Z 1)),(aJ aA 10 (.Z 1)),(aJ aA 11 (.Z 1)),(.Z 23)])))))) (
       .call 8 (.p1 aP .bool (.Z 13)) <|
       .bJ3 (.lit 133 aM 1) (.bJ4 tI aP (aJ (.bJ2 aA (.bJ2 tI aQ)) 1 (.Z 0)) (.Z 17)) <|
       .bJ3 (.bJ9 133 aM 32) (.bJ4 (.slice 133 aM) (.slice 133 aM) (aJ aA 5 (.Z 1)) (.Z 18)) <|
       .ite (aR aA 13 (.Z 1)) (
        .bJ3 .not (aJ aA 3 (.p1 aA (.bJ2 tI aQ) (.Z 0))) <|
        .ite (.Z 20) (
         .call 9 (.Z 16) <|
         .ret (bJ aA [(.p1 tI fJ (.Z 1)),(aJ aA 1 (.Z 1)),(aJ aA 2 (.Z 1)),(aJ aA 3 (.Z 1)),(aJ aA 4 (.Z 1)),(.Z 19),(aJ aA 6 (.Z 1)),(.nl 3 tI),(.Z 21),(aJ aA 9 (.Z 1)),(aJ aA 10 (.Z 1)),(aJ aA 11 (.Z 1)),(aJ aA 12 (.Z 1)),(.cb true)])) (
         .call 10 (.bJ4 aB aB (.Z 16) (aR (.bJ2 aA (.bJ2 tI aQ)) 3 (.Z 0))) <|
         .call 11 (.bJ4 tI tI (aJ aA 12 (.Z 1)) (.p1 tI .bool (.Z 21))) <|
         .ret (bJ aA [(.p1 tI fJ (.Z 1)),(aJ aA 1 (.Z 1)),(aJ aA 2 (.Z 1)),(aJ aA 3 (.Z 1)),(aJ aA 4 (.Z 1)),(.Z 19),(aJ aA 6 (.Z 1)),(.nl 3 tI),(aJ aA 8 (.Z 1)),(aJ aA 9 (.Z 1)),(aJ aA 10 (.Z 1)),(aJ aA 11 (.Z 1)),(.p1 tI .bool (.Z 22)),(.cb true)]))) (
        .bJ3 .not (aJ aA 3 (.p1 aA (.bJ2 tI aQ) (.Z 0))) <|
        .ite (.Z 20) (
         .call 9 (.Z 16) <|
         .ret (bJ aA [(.p1 tI fJ (.Z 1)),(aJ aA 1 (.Z 1)),(aJ aA 2 (.Z 1)),(aJ aA 3 (.Z 1)),(aJ aA 4 (.Z 1)),(.Z 19),(aJ aA 6 (.Z 1)),(.nl 3 tI),(.Z 21),(aJ aA 9 (.Z 1)),(aJ aA 10 (.Z 1)),(aJ aA 11 (.Z 1)),(aJ aA 12 (.Z 1)),(aR (.bJ2 aP .bool) 1 (.Z 13))])) (
         .call 10 (.bJ4 aB aB (.Z 16) (aR (.bJ2 aA (.bJ2 tI aQ)) 3 (.Z 0))) <|
         .call 11 (.bJ4 tI tI (aJ aA 12 (.Z 1)) (.p1 tI .bool (.Z 21))) <|
         .ite (aR (.bJ2 aP .bool) 1 (.Z 13)) (
          .ret (bJ aA [(.p1 tI fJ (.Z 1)),(aJ aA 1 (.Z 1)),(aJ aA 2 (.Z 1)),(aJ aA 3 (.Z 1)),(aJ aA 4 (.Z 1)),(.Z 19),(aJ aA 6 (.Z 1)),(.nl 3 tI),(aJ aA 8 (.Z 1)),(aJ aA 9 (.Z 1)),(aJ aA 10 (.Z 1)),(aJ aA 11 (.Z 1)),(.p1 tI .bool (.Z 22)),(.cb true)])) (
          .ite (aR (.bJ2 tI .bool) 1 (.Z 21)) (
           .ret (bJ aA [(.p1 tI fJ (.Z 1)),(aJ aA 1 (.Z 1)),(aJ aA 2 (.Z 1)),(aJ aA 3 (.Z 1)),(aJ aA 4 (.Z 1)),(.Z 19),(aJ aA 6 (.Z 1)),(.nl 3 tI),(aJ aA 8 (.Z 1)),(aJ aA 9 (.Z 1)),(aJ aA 10 (.Z 1)),(aJ aA 11 (.Z 1)),(.p1 tI .bool (.Z 22)),(.cb true)])) (
           .ret (bJ aA [(.p1 tI fJ (.Z 1)),(aJ aA 1 (.Z 1)),(aJ aA 2 (.Z 1)),(aJ aA 3 (.Z 1)),(aJ aA 4 (.Z 1)),(.Z 19),(aJ aA 6 (.Z 1)),(.nl 3 tI),(aJ aA 8 (.Z 1)),(aJ aA 9 (.Z 1)),(aJ aA 10 (.Z 1)),(aJ aA 11 (.Z 1)),(.Z 22)])))))))) (
     .call 7 (.bJ4 aD aB (.Z 2) (aJ (.bJ2 aA (.bJ2 tI aQ)) 2 (.Z 0))) <|
     .bJ3 (.bJ6 93 bN) (aJ aA 2 (.p1 aA (.bJ2 tI aQ) (.Z 0))) <|
     .bJ3 (.bJ7 124 aB) (.bJ4 aP tI (.p1 aP .bool (.Z 10)) (.Z 11)) <|
     .bJ3 (.bJ7 124 aB) (.bJ4 aP tI (.p1 aP .bool (.Z 10)) (.Z 11)) <|
     .ite (aJ aA 4 (.p1 aA (.bJ2 tI aQ) (.Z 0))) (
      .bJ3 (.bJ8 124 aB) (bJ (.bJ2 aP aC) [(.p1 aP .bool (.Z 10)),(.ci .i64 0),(.ci .i64 1)]) <|
      .call 8 (.Z 14) <|
      .bJ3 (.lit 133 aM 1) (.bJ4 tI aP (aJ (.bJ2 aA (.bJ2 tI aQ)) 1 (.Z 0)) (.Z 15)) <|
      .bJ3 (.bJ9 133 aM 32) (.bJ4 (.slice 133 aM) (.slice 133 aM) (aJ aA 5 (.Z 1)) (.Z 16)) <|
      .ite (aR aA 13 (.Z 1)) (
       .bJ3 .not (aJ aA 3 (.p1 aA (.bJ2 tI aQ) (.Z 0))) <|
       .ite (.Z 18) (
        .call 9 (.Z 13) <|
        .ret (bJ aA [(.p1 tI fJ (.Z 1)),(aJ aA 1 (.Z 1)),(aJ aA 2 (.Z 1)),(aJ aA 3 (.Z 1)),(aJ aA 4 (.Z 1)),(.Z 17),(aJ aA 6 (.Z 1)),(.nl 3 tI),(.Z 19),(aJ aA 9 (.Z 1)),(aJ aA 10 (.Z 1)),(aJ aA 11 (.Z 1)),(aJ aA 12 (.Z 1)),(.cb true)])) (
        .call 10 (.bJ4 aB aB (.Z 13) (aR (.bJ2 aA (.bJ2 tI aQ)) 3 (.Z 0))) <|
        .call 11 (.bJ4 tI tI (aJ aA 12 (.Z 1)) (.p1 tI .bool (.Z 19))) <|
        .ret (bJ aA [(.p1 tI fJ (.Z 1)),(aJ aA 1 (.Z 1)),(aJ aA 2 (.Z 1)),(aJ aA 3 (.Z 1)),(aJ aA 4 (.Z 1)),(.Z 17),(aJ aA 6 (.Z 1)),(.nl 3 tI),(aJ aA 8 (.Z 1)),(aJ aA 9 (.Z 1)),(aJ aA 10 (.Z 1)),(aJ aA 11 (.Z 1)),(.p1 tI .bool (.Z 20)),(.cb true)]))) (
       .bJ3 .not (aJ aA 3 (.p1 aA (.bJ2 tI aQ) (.Z 0))) <|
       .ite (.Z 18) (
        .call 9 (.Z 13) <|
        .ret (bJ aA [(.p1 tI fJ (.Z 1)),(aJ aA 1 (.Z 1)),(aJ aA 2 (.Z 1)),(aJ aA 3 (.Z 1)),(aJ aA 4 (.Z 1)),(.Z 17),(aJ aA 6 (.Z 1)),(.nl 3 tI),(.Z 19),(aJ aA 9 (.Z 1)),(aJ aA 10 (.Z 1)),(aJ aA 11 (.Z 1)),(aJ aA 12 (.Z 1)),(aR (.bJ2 aP .bool) 1 (.Z 10))])) (
        .call 10 (.bJ4 aB aB (.Z 13) (aR (.bJ2 aA (.bJ2 tI aQ)) 3 (.Z 0))) <|
        .call 11 (.bJ4 tI tI (aJ aA 12 (.Z 1)) (.p1 tI .bool (.Z 19))) <|
        .ite (aR (.bJ2 aP .bool) 1 (.Z 10)) (
         .ret (bJ aA [(.p1 tI fJ (.Z 1)),(aJ aA 1 (.Z 1)),(aJ aA 2 (.Z 1)),(aJ aA 3 (.Z 1)),(aJ aA 4 (.Z 1)),(.Z 17),(aJ aA 6 (.Z 1)),(.nl 3 tI),(aJ aA 8 (.Z 1)),(aJ aA 9 (.Z 1)),(aJ aA 10 (.Z 1)),(aJ aA 11 (.Z 1)),(.p1 tI .bool (.Z 20)),(.cb true)])) (
         .ite (aR (.bJ2 tI .bool) 1 (.Z 19)) (
          .ret (bJ aA [(.p1 tI fJ (.Z 1)),(aJ aA 1 (.Z 1)),(aJ aA 2 (.Z 1)),(aJ aA 3 (.Z 1)),(aJ aA 4 (.Z 1)),(.Z 17),(aJ aA 6 (.Z 1)),(.nl 3 tI),(aJ aA 8 (.Z 1)),(aJ aA 9 (.Z 1)),(aJ aA 10 (.Z 1)),(aJ aA 11 (.Z 1)),(.p1 tI .bool (.Z 20)),(.cb true)])) (
          .ret (bJ aA [(.p1 tI fJ (.Z 1)),(aJ aA 1 (.Z 1)),(aJ aA 2 (.Z 1)),(aJ aA 3 (.Z 1)),(aJ aA 4 (.Z 1)),(.Z 17),(aJ aA 6 (.Z 1)),(.nl 3 tI),(aJ aA 8 (.Z 1)),(aJ aA 9 (.Z 1)),(aJ aA 10 (.Z 1)),(aJ aA 11 (.Z 1)),(.Z 20)])))))) (
      .call 8 (.p1 aP .bool (.Z 10)) <|
      .bJ3 (.lit 133 aM 1) (.bJ4 tI aP (aJ (.bJ2 aA (.bJ2 tI aQ)) 1 (.Z 0)) (.Z 14)) <|
      .bJ3 (.bJ9 133 aM 32) (.bJ4 (.slice 133 aM) (.slice 133 aM) (aJ aA 5 (.Z 1)) (.Z 15)) <|
      .ite (aR aA 13 (.Z 1)) (
       .bJ3 .not (aJ aA 3 (.p1 aA (.bJ2 tI aQ) (.Z 0))) <|
       .ite (.Z 17) (
        .call 9 (.Z 13) <|
        .ret (bJ aA [(.p1 tI fJ (.Z 1)),(aJ aA 1 (.Z 1)),(aJ aA 2 (.Z 1)),(aJ aA 3 (.Z 1)),(aJ aA 4 (.Z 1)),(.Z 16),(aJ aA 6 (.Z 1)),(.nl 3 tI),(.Z 18),(aJ aA 9 (.Z 1)),(aJ aA 10 (.Z 1)),(aJ aA 11 (.Z 1)),(aJ aA 12 (.Z 1)),(.cb true)])) (
        .call 10 (.bJ4 aB aB (.Z 13) (aR (.bJ2 aA (.bJ2 tI aQ)) 3 (.Z 0))) <|
        .call 11 (.bJ4 tI tI (aJ aA 12 (.Z 1)) (.p1 tI .bool (.Z 18))) <|
        .ret (bJ aA [(.p1 tI fJ (.Z 1)),(aJ aA 1 (.Z 1)),(aJ aA 2 (.Z 1)),(aJ aA 3 (.Z 1)),(aJ aA 4 (.Z 1)),(.Z 16),(aJ aA 6 (.Z 1)),(.nl 3 tI),(aJ aA 8 (.Z 1)),(aJ aA 9 (.Z 1)),(aJ aA 10 (.Z 1)),(aJ aA 11 (.Z 1)),(.p1 tI .bool (.Z 19)),(.cb true)]))) (
       .bJ3 .not (aJ aA 3 (.p1 aA (.bJ2 tI aQ) (.Z 0))) <|
       .ite (.Z 17) (
        .call 9 (.Z 13) <|
        .ret (bJ aA [(.p1 tI fJ (.Z 1)),(aJ aA 1 (.Z 1)),(aJ aA 2 (.Z 1)),(aJ aA 3 (.Z 1)),(aJ aA 4 (.Z 1)),(.Z 16),(aJ aA 6 (.Z 1)),(.nl 3 tI),(.Z 18),(aJ aA 9 (.Z 1)),(aJ aA 10 (.Z 1)),(aJ aA 11 (.Z 1)),(aJ aA 12 (.Z 1)),(aR (.bJ2 aP .bool) 1 (.Z 10))])) (
        .call 10 (.bJ4 aB aB (.Z 13) (aR (.bJ2 aA (.bJ2 tI aQ)) 3 (.Z 0))) <|
        .call 11 (.bJ4 tI tI (aJ aA 12 (.Z 1)) (.p1 tI .bool (.Z 18))) <|
        .ite (aR (.bJ2 aP .bool) 1 (.Z 10)) (
         .ret (bJ aA [(.p1 tI fJ (.Z 1)),(aJ aA 1 (.Z 1)),(aJ aA 2 (.Z 1)),(aJ aA 3 (.Z 1)),(aJ aA 4 (.Z 1)),(.Z 16),(aJ aA 6 (.Z 1)),(.nl 3 tI),(aJ aA 8 (.Z 1)),(aJ aA 9 (.Z 1)),(aJ aA 10 (.Z 1)),(aJ aA 11 (.Z 1)),(.p1 tI .bool (.Z 19)),(.cb true)])) (
         .ite (aR (.bJ2 tI .bool) 1 (.Z 18)) (
          .ret (bJ aA [(.p1 tI fJ (.Z 1)),(aJ aA 1 (.Z 1)),(aJ aA 2 (.Z 1)),(aJ aA 3 (.Z 1)),(aJ aA 4 (.Z 1)),(.Z 16),(aJ aA 6 (.Z 1)),(.nl 3 tI),(aJ aA 8 (.Z 1)),(aJ aA 9 (.Z 1)),(aJ aA 10 (.Z 1)),(aJ aA 11 (.Z 1)),(.p1 tI .bool (.Z 19)),(.cb true)])) (
          .ret (bJ aA [(.p1 tI fJ (.Z 1)),(aJ aA 1 (.Z 1)),(aJ aA 2 (.Z 1)),(aJ aA 3 (.Z 1)),(aJ aA 4 (.Z 1)),(.Z 16),(aJ aA 6 (.Z 1)),(.nl 3 tI),(aJ aA 8 (.Z 1)),(aJ aA 9 (.Z 1)),(aJ aA 10 (.Z 1)),(aJ aA 11 (.Z 1)),(.Z 19)]))))))))))
set_option maxRecDepth 100000 in
theorem aNI:bV Tryz.prog [cV,dJ,dK,jQ,bZ,dQ,gX,jM,eB,bM,oR,eC] lQ false 3000 ⟨[],[(2973,104017,[],[33]),(2971,104018,[73],[]),(2971,72017,[73],[]),(2973,48014,[],[33]),(2971,48015,[73],[]),(2971,32014,[73],[])]⟩ = .ok uW:=by kernel_rfl
theorem aO5 (x:bC × (Int × cI)) (hx:okD (.bJ2 aA (.bJ2 tI aQ)) x) (hp:(fun x=>bW aA x.1≤1000000000) x):uW.wp [cV,dJ,dK,jQ,bZ,dQ,gX,jM,eB,bM,oR,eC] [⟨(.bJ2 aA (.bJ2 tI aQ)),x⟩] [] (fun v=>v.as aA=(fun x=>yH x.1 x.2.1 x.2.2.1 x.2.2.2) x):=by
 obtain ⟨s,m,v,t⟩:=x
 delta uW cV dJ dK jQ bZ dQ gX jM eB bM oR eC;refine eE ?_
 refine eL ?_
 refine ⟨hp,fun _ _=>⟨fun h=>aMY (.inl h),fun h1 _=>⟨fun h=>aMY (.inr (.inl h)),fun h2 _=>⟨fun h=>aMY (.inr (.inr (.inl h))),fun h3=>?_⟩⟩⟩⟩
 have hm:=(fY s).1 h1
 rw[show uI s.2.2.1 v=_ from if_pos ⟨hm.1,h2⟩]
 have hl:=wC s.2.2.1 v s.2.2.1.length
 have hx6:=aFP h2
 have hn8:=((bR _).1 hm.1).2.1
 have h6:=zF s.2.2.1 v hx6 s.2.2.1.length
 have hy6:(List.getD (jZ s.2.2.1 v s.2.2.1.length).1 s.2.2.1.length (aS aB)).length≤6:=aKG h6 _
 have hst:=(qL (t:=aA) hp).2.2.2.2.2.1.1
 replace hst:List.length s.2.2.2.2.2.1≤1000000000:=hst
 constructor
 ·intro hla _
  refine ⟨fun h=>aMY (.inr (.inr (.inr ⟨hla,h⟩))),fun h4=>?_⟩
  have hy:=aW1 h1 h2 h3 (fun _=>h4)
  (repeat' first|intro _|(with_reducible apply And.intro))
  all_goals first|omega|exact Bool.noConfusion ((by assumption:s.2.2.2.1=true).symm.trans (by assumption:s.2.2.2.1=false))|(unfold maxLen;omega)|(simp only[List.drop_zero,List.length_take];omega)|exact Nat.le_trans (h6 _ (by assumption)) (by decide)|exact Nat.le_trans (h6 _ (List.mem_of_mem_take (by assumption))) (by decide)|skip
  all_goals first|exact Bool.noConfusion ((by assumption:s.2.2.2.1=true).symm.trans (by assumption:s.2.2.2.1=false))|refine (aW6 (by assumption) ?_ ?_ ?_).trans hy|refine (aVM (by assumption) ?_ ?_).trans hy
  all_goals first|rfl|(rw[← bBU (by assumption)])|(rw[← bBR (by assumption)])|exact bG1 (by assumption)|exact bG2 (by assumption)|exact bG0 (by assumption)|exact bG4 (by assumption) (by assumption) (by assumption)|exact qU (by assumption)|exact zY (by assumption)|(simp[*];done)|skip
 ·intro hla
  have hy:=aW1 (t:=t) h1 h2 h3 (fun h=>absurd h (by simp[hla]))
  (repeat' first|intro _|(with_reducible apply And.intro))
  all_goals first|omega|exact Bool.noConfusion ((by assumption:s.2.2.2.1=true).symm.trans (by assumption:s.2.2.2.1=false))|(unfold maxLen;omega)|(simp only[List.drop_zero,List.length_take];omega)|exact Nat.le_trans (h6 _ (by assumption)) (by decide)|exact Nat.le_trans (h6 _ (List.mem_of_mem_take (by assumption))) (by decide)|skip
  all_goals first|exact Bool.noConfusion ((by assumption:s.2.2.2.1=true).symm.trans (by assumption:s.2.2.2.1=false))|refine (aW6 (by assumption) ?_ ?_ ?_).trans hy|refine (aVM (by assumption) ?_ ?_).trans hy
  all_goals first|rfl|(rw[← bBU (by assumption)])|(rw[← bBR (by assumption)])|exact bG1 (by assumption)|exact bG2 (by assumption)|exact bG0 (by assumption)|exact bG4 (by assumption) (by assumption) (by assumption)|exact qU (by assumption)|exact zY (by assumption)|(simp[*];done)|skip
theorem aM7:Con.Holds Tryz.prog lQ:=aV aX (aG mR (aG rA (aG qW (aG aIX (aG iM (aG rO (aG aER (aG aIV (aG tS (aG fM (aG aU1 (aG uY aT)))))))))))) aNI aO5
end Go.Proofs.YtpleleanibgniaaGreat
