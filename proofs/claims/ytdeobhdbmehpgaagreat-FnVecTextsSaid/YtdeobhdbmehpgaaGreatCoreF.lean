/- CoreF: lemmas. No conditions. -/
import Derived.Test.YtdeobhdbmehpgaaGreatCore7
namespace Go.Proofs.YtdeobhdbmehpgaaGreat
open Go.ChangeShapes Go.WideShapes Go.ChangeAt Go.RowKit Go.Deep
set_option linter.unusedVariables false
set_option linter.unusedSimpArgs false
noncomputable def lA:Con:=⟨96,(.bEL aB (.bEL tI aU)),aB,[.val ⟨true,aB,[]⟩,.val ⟨false,tI,[]⟩,.val ⟨false,aA,[]⟩,.val ⟨false,aA,[]⟩],[⟨true,aB,[0,0,0,0,0,0,0,0,0,0,0,0,0,0]⟩],false,none,
 ((fun x=>eB aB x.1≤1000000000):(aM × (Int × eZ))→Prop),
 ((fun x=>aH9 x.1 x.2.1 x.2.2.1 x.2.2.2):(aM × (Int × eZ))→(aM))⟩
def uF:T:=.call 0 (.p1 aB (.bEL tI aU) (.Z 0)) <|.call 1 (.p1 aB (.bEL tI aU) (.Z 0)) <|
 .bEM .not (.Z 2) <|
 .ite (.Z 3) (
  .ret (.Z 1)) (
  .call 2 (aI (.bEL aB (.bEL tI aU)) 2 (.Z 0)) <|
  .bEM .not (.Z 4) <|
  .ite (.Z 5) (
   .ret (.Z 1)) (
   .bEM (.bEP 3 tI) (aI (.bEL aB (.bEL tI aU)) 2 (.Z 0)) <|
   .bEM (.bEQ 78 bC) (.bEN aF tI (aI aB 2 (.p1 aB (.bEL tI aU) (.Z 0))) (.ci .i64 0)) <|
   .bEM (.cmp .neq .i64) (.bEN tI tI (.Z 6) (aI bC 1 (.Z 7))) <|
   .ite (.Z 8) (
    .ret (.Z 1)) (
    .call 3 (.bEN (.slice 80 aC) tI (aI aB 5 (.p1 aB (.bEL tI aU) (.Z 0))) (aI (.bEL aB (.bEL tI aU)) 1 (.Z 0))) <|
    .bEM (.cmp .geq .i64) (.bEN tI tI (.Z 9) (.ci .i64 0)) <|
    .ite (.Z 10) (
     .ret (.Z 1)) (
     .ite (aI aB 3 (.p1 aB (.bEL tI aU) (.Z 0))) (
      .call 2 (aN (.bEL aB (.bEL tI aU)) 3 (.Z 0)) <|
      .bEM .not (.Z 11) <|
      .ite (.Z 12) (
       .ret (.Z 1)) (
       .bEM (.bEP 3 tI) (aN (.bEL aB (.bEL tI aU)) 3 (.Z 0)) <|
       .bEM (.bEP 78 bC) (aI aB 2 (.p1 aB (.bEL tI aU) (.Z 0))) <|
       .bEM (.ar .sub .i64) (.bEN tI tI (.Z 14) (.ci .i64 1)) <|
       .bEM (.bEQ 78 bC) (.bEN aF tI (aI aB 2 (.p1 aB (.bEL tI aU) (.Z 0))) (.Z 15)) <|
       .bEM (.cmp .neq .i64) (.bEN tI tI (.Z 13) (aI bC 2 (.Z 16))) <|
       .ite (.Z 17) (
        .ret (.Z 1)) (
        .call 4 (.bEN aF aA (aI aB 2 (.p1 aB (.bEL tI aU) (.Z 0))) (aI (.bEL aB (.bEL tI aU)) 2 (.Z 0))) <|
        .bEM (.bEP 112 aA) (.p1 aE .bool (.Z 18)) <|
        .bEM (.ar .sub .i64) (.bEN tI tI (.Z 19) (.ci .i64 1)) <|
        .bEM (.bEQ 112 aA) (.bEN aE tI (.p1 aE .bool (.Z 18)) (.Z 20)) <|
        .bEM (.bEQ 112 aA) (.bEN aE tI (.p1 aE .bool (.Z 18)) (.Z 20)) <|
        .ite (aN aB 13 (.p1 aB (.bEL tI aU) (.Z 0))) (
         .call 5 (.bEN aA aA (.Z 22) (aN (.bEL aB (.bEL tI aU)) 3 (.Z 0))) <|
         .call 6 (.bEN tI tI (aI aB 12 (.p1 aB (.bEL tI aU) (.Z 0))) (.p1 tI .bool (.Z 23))) <|
         .ite (aI aB 4 (.p1 aB (.bEL tI aU) (.Z 0))) (
          .bEM (.bER 112 aA) (aY (.bEL aE aD) [(.p1 aE .bool (.Z 18)),(.ci .i64 0),(.ci .i64 1)]) <|
          .bEM (.lit 80 aC 1) (.bEN tI aE (aI (.bEL aB (.bEL tI aU)) 1 (.Z 0)) (.Z 25)) <|
          .bEM (.bES 80 aC 32) (.bEN (.slice 80 aC) (.slice 80 aC) (aI aB 5 (.Z 1)) (.Z 26)) <|
          .ret (aY aB [(.p1 tI iT (.Z 1)),(aI aB 1 (.Z 1)),(aI aB 2 (.Z 1)),(aI aB 3 (.Z 1)),(aI aB 4 (.Z 1)),(.Z 27),(aI aB 6 (.Z 1)),(.nl 3 tI),(aI aB 8 (.Z 1)),(aI aB 9 (.Z 1)),(aI aB 10 (.Z 1)),(aI aB 11 (.Z 1)),(.p1 tI .bool (.Z 24)),(.cb true)])) (
          .bEM (.lit 80 aC 1) (.bEN tI aE (aI (.bEL aB (.bEL tI aU)) 1 (.Z 0)) (.p1 aE .bool (.Z 18))) <|
          .bEM (.bES 80 aC 32) (.bEN (.slice 80 aC) (.slice 80 aC) (aI aB 5 (.Z 1)) (.Z 25)) <|
          .ret (aY aB [(.p1 tI iT (.Z 1)),(aI aB 1 (.Z 1)),(aI aB 2 (.Z 1)),(aI aB 3 (.Z 1)),(aI aB 4 (.Z 1)),(.Z 26),(aI aB 6 (.Z 1)),(.nl 3 tI),(aI aB 8 (.Z 1)),(aI aB 9 (.Z 1)),(aI aB 10 (.Z 1)),(aI aB 11 (.Z 1)),(.p1 tI .bool (.Z 24)),(.cb true)]))) (
         .call 5 (.bEN aA aA (.Z 22) (aN (.bEL aB (.bEL tI aU)) 3 (.Z 0))) <|
         .call 6 (.bEN tI tI (aI aB 12 (.p1 aB (.bEL tI aU) (.Z 0))) (.p1 tI .bool (.Z 23))) <|
         .ite (aN (.bEL aE .bool) 1 (.Z 18)) (
          .ite (aI aB 4 (.p1 aB (.bEL tI aU) (.Z 0))) (
           .bEM (.bER 112 aA) (aY (.bEL aE aD) [(.p1 aE .bool (.Z 18)),(.ci .i64 0),(.ci .i64 1)]) <|
           .bEM (.lit 80 aC 1) (.bEN tI aE (aI (.bEL aB (.bEL tI aU)) 1 (.Z 0)) (.Z 25)) <|
           .bEM (.bES 80 aC 32) (.bEN (.slice 80 aC) (.slice 80 aC) (aI aB 5 (.Z 1)) (.Z 26)) <|
           .ret (aY aB [(.p1 tI iT (.Z 1)),(aI aB 1 (.Z 1)),(aI aB 2 (.Z 1)),(aI aB 3 (.Z 1)),(aI aB 4 (.Z 1)),(.Z 27),(aI aB 6 (.Z 1)),(.nl 3 tI),(aI aB 8 (.Z 1)),(aI aB 9 (.Z 1)),(aI aB 10 (.Z 1)),(aI aB 11 (.Z 1)),(.p1 tI .bool (.Z 24)),(.cb true)])) (
           .bEM (.lit 80 aC 1) (.bEN tI aE (aI (.bEL aB (.bEL tI aU)) 1 (.Z 0)) (.p1 aE .bool (.Z 18))) <|
           .bEM (.bES 80 aC 32) (.bEN (.slice 80 aC) (.slice 80 aC) (aI aB 5 (.Z 1)) (.Z 25)) <|
           .ret (aY aB [(.p1 tI iT (.Z 1)),(aI aB 1 (.Z 1)),(aI aB 2 (.Z 1)),(aI aB 3 (.Z 1)),(aI aB 4 (.Z 1)),(.Z 26),(aI aB 6 (.Z 1)),(.nl 3 tI),(aI aB 8 (.Z 1)),(aI aB 9 (.Z 1)),(aI aB 10 (.Z 1)),(aI aB 11 (.Z 1)),(.p1 tI .bool (.Z 24)),(.cb true)]))) (
          .ite (aN (.bEL tI .bool) 1 (.Z 23)) (
           .ite (aI aB 4 (.p1 aB (.bEL tI aU) (.Z 0))) (
            .bEM (.bER 112 aA) (aY (.bEL aE aD) [(.p1 aE .bool (.Z 18)),(.ci .i64 0),(.ci .i64 1)]) <|
            .bEM (.lit 80 aC 1) (.bEN tI aE (aI (.bEL aB (.bEL tI aU)) 1 (.Z 0)) (.Z 25)) <|
            .bEM (.bES 80 aC 32) (.bEN (.slice 80 aC) (.slice 80 aC) (aI aB 5 (.Z 1)) (.Z 26)) <|
            .ret (aY aB [(.p1 tI iT (.Z 1)),(aI aB 1 (.Z 1)),(aI aB 2 (.Z 1)),(aI aB 3 (.Z 1)),(aI aB 4 (.Z 1)),(.Z 27),(aI aB 6 (.Z 1)),(.nl 3 tI),(aI aB 8 (.Z 1)),(aI aB 9 (.Z 1)),(aI aB 10 (.Z 1)),(aI aB 11 (.Z 1)),(.p1 tI .bool (.Z 24)),(.cb true)])) (
            .bEM (.lit 80 aC 1) (.bEN tI aE (aI (.bEL aB (.bEL tI aU)) 1 (.Z 0)) (.p1 aE .bool (.Z 18))) <|
            .bEM (.bES 80 aC 32) (.bEN (.slice 80 aC) (.slice 80 aC) (aI aB 5 (.Z 1)) (.Z 25)) <|
            .ret (aY aB [(.p1 tI iT (.Z 1)),(aI aB 1 (.Z 1)),(aI aB 2 (.Z 1)),(aI aB 3 (.Z 1)),(aI aB 4 (.Z 1)),(.Z 26),(aI aB 6 (.Z 1)),(.nl 3 tI),(aI aB 8 (.Z 1)),(aI aB 9 (.Z 1)),(aI aB 10 (.Z 1)),(aI aB 11 (.Z 1)),(.p1 tI .bool (.Z 24)),(.cb true)]))) (
           .ite (aI aB 4 (.p1 aB (.bEL tI aU) (.Z 0))) (
            .bEM (.bER 112 aA) (aY (.bEL aE aD) [(.p1 aE .bool (.Z 18)),(.ci .i64 0),(.ci .i64 1)]) <|
            .bEM (.lit 80 aC 1) (.bEN tI aE (aI (.bEL aB (.bEL tI aU)) 1 (.Z 0)) (.Z 25)) <|
            .bEM (.bES 80 aC 32) (.bEN (.slice 80 aC) (.slice 80 aC) (aI aB 5 (.Z 1)) (.Z 26)) <|
            .ret (aY aB [(.p1 tI iT (.Z 1)),(aI aB 1 (.Z 1)),(aI aB 2 (.Z 1)),(aI aB 3 (.Z 1)),(aI aB 4 (.Z 1)),(.Z 27),(aI aB 6 (.Z 1)),(.nl 3 tI),(aI aB 8 (.Z 1)),(aI aB 9 (.Z 1)),(aI aB 10 (.Z 1)),(aI aB 11 (.Z 1)),(.Z 24)])) (
            .bEM (.lit 80 aC 1) (.bEN tI aE (aI (.bEL aB (.bEL tI aU)) 1 (.Z 0)) (.p1 aE .bool (.Z 18))) <|
            .bEM (.bES 80 aC 32) (.bEN (.slice 80 aC) (.slice 80 aC) (aI aB 5 (.Z 1)) (.Z 25)) <|
            .ret (aY aB [(.p1 tI iT (.Z 1)),(aI aB 1 (.Z 1)),(aI aB 2 (.Z 1)),(aI aB 3 (.Z 1)),(aI aB 4 (.Z 1)),(.Z 26),(aI aB 6 (.Z 1)),(.nl 3 tI),(aI aB 8 (.Z 1)),(aI aB 9 (.Z 1)),(aI aB 10 (.Z 1)),(aI aB 11 (.Z 1)),(.Z 24)])))))))) (
      .call 4 (.bEN aF aA (aI aB 2 (.p1 aB (.bEL tI aU) (.Z 0))) (aI (.bEL aB (.bEL tI aU)) 2 (.Z 0))) <|
      .bEM (.bEP 112 aA) (.p1 aE .bool (.Z 11)) <|
      .bEM (.ar .sub .i64) (.bEN tI tI (.Z 12) (.ci .i64 1)) <|
      .bEM (.bEQ 112 aA) (.bEN aE tI (.p1 aE .bool (.Z 11)) (.Z 13)) <|
      .bEM (.bEQ 112 aA) (.bEN aE tI (.p1 aE .bool (.Z 11)) (.Z 13)) <|
      .ite (aN aB 13 (.p1 aB (.bEL tI aU) (.Z 0))) (
       .bEM (.bES 3 tI 8) (.bEN aA aA (.nl 3 tI) (.Z 15)) <|
       .ite (aI aB 4 (.p1 aB (.bEL tI aU) (.Z 0))) (
        .bEM (.bER 112 aA) (aY (.bEL aE aD) [(.p1 aE .bool (.Z 11)),(.ci .i64 0),(.ci .i64 1)]) <|
        .bEM (.lit 80 aC 1) (.bEN tI aE (aI (.bEL aB (.bEL tI aU)) 1 (.Z 0)) (.Z 17)) <|
        .bEM (.bES 80 aC 32) (.bEN (.slice 80 aC) (.slice 80 aC) (aI aB 5 (.Z 1)) (.Z 18)) <|
        .ret (aY aB [(.p1 tI iT (.Z 1)),(aI aB 1 (.Z 1)),(aI aB 2 (.Z 1)),(aI aB 3 (.Z 1)),(aI aB 4 (.Z 1)),(.Z 19),(aI aB 6 (.Z 1)),(.nl 3 tI),(.Z 16),(aI aB 9 (.Z 1)),(aI aB 10 (.Z 1)),(aI aB 11 (.Z 1)),(aI aB 12 (.Z 1)),(.cb true)])) (
        .bEM (.lit 80 aC 1) (.bEN tI aE (aI (.bEL aB (.bEL tI aU)) 1 (.Z 0)) (.p1 aE .bool (.Z 11))) <|
        .bEM (.bES 80 aC 32) (.bEN (.slice 80 aC) (.slice 80 aC) (aI aB 5 (.Z 1)) (.Z 17)) <|
        .ret (aY aB [(.p1 tI iT (.Z 1)),(aI aB 1 (.Z 1)),(aI aB 2 (.Z 1)),(aI aB 3 (.Z 1)),(aI aB 4 (.Z 1)),(.Z 18),(aI aB 6 (.Z 1)),(.nl 3 tI),(.Z 16),(aI aB 9 (.Z 1)),(aI aB 10 (.Z 1)),(aI aB 11 (.Z 1)),(aI aB 12 (.Z 1)),(.cb true)]))) (
       .bEM (.bES 3 tI 8) (.bEN aA aA (.nl 3 tI) (.Z 15)) <|
       .ite (aI aB 4 (.p1 aB (.bEL tI aU) (.Z 0))) (
        .bEM (.bER 112 aA) (aY (.bEL aE aD) [(.p1 aE .bool (.Z 11)),(.ci .i64 0),(.ci .i64 1)]) <|
        .bEM (.lit 80 aC 1) (.bEN tI aE (aI (.bEL aB (.bEL tI aU)) 1 (.Z 0)) (.Z 17)) <|
        .bEM (.bES 80 aC 32) (.bEN (.slice 80 aC) (.slice 80 aC) (aI aB 5 (.Z 1)) (.Z 18)) <|
        .ret (aY aB [(.p1 tI iT (.Z 1)),(aI aB 1 (.Z 1)),(aI aB 2 (.Z 1)),(aI aB 3 (.Z 1)),(aI aB 4 (.Z 1)),(.Z 19),(aI aB 6 (.Z 1)),(.nl 3 tI),(.Z 16),(aI aB 9 (.Z 1)),(aI aB 10 (.Z 1)),(aI aB 11 (.Z 1)),(aI aB 12 (.Z 1)),(aN (.bEL aE .bool) 1 (.Z 11))])) (
        .bEM (.lit 80 aC 1) (.bEN tI aE (aI (.bEL aB (.bEL tI aU)) 1 (.Z 0)) (.p1 aE .bool (.Z 11))) <|
        .bEM (.bES 80 aC 32) (.bEN (.slice 80 aC) (.slice 80 aC) (aI aB 5 (.Z 1)) (.Z 17)) <|
        .ret (aY aB [(.p1 tI iT (.Z 1)),(aI aB 1 (.Z 1)),(aI aB 2 (.Z 1)),(aI aB 3 (.Z 1)),(aI aB 4 (.Z 1)),(.Z 18),(aI aB 6 (.Z 1)),(.nl 3 tI),(.Z 16),(aI aB 9 (.Z 1)),(aI aB 10 (.Z 1)),(aI aB 11 (.Z 1)),(aI aB 12 (.Z 1)),(aN (.bEL aE .bool) 1 (.Z 11))]))))))))
set_option maxRecDepth 100000 in
theorem aLZ:bJ Tryz.prog [eM,cV,bF,cY,fP,pL,cS] lA false 3000 ⟨[],[(2967,912025,[],[31]),(2965,656025,[],[31]),(2967,1808025,[],[31]),(2965,1296025,[],[31]),(2967,3600025,[],[31]),(2965,2576025,[],[31]),(2967,3088025,[],[31]),(2965,2064025,[],[31]),(2973,224017,[],[31]),(2971,160017,[],[31]),(2973,192017,[],[31]),(2971,128017,[],[31])]⟩ = .ok uF:=by kernel_rfl
set_option maxHeartbeats 1000000 in
theorem aKB (x:aM × (Int × eZ)) (hx:okD (.bEL aB (.bEL tI aU)) x) (hp:(fun x=>eB aB x.1≤1000000000) x):uF.wp [eM,cV,bF,cY,fP,pL,cS] [⟨(.bEL aB (.bEL tI aU)),x⟩] [] (fun v=>v.as aB=(fun x=>aH9 x.1 x.2.1 x.2.2.1 x.2.2.2) x):=by
 obtain ⟨s,m,v,t⟩:=x
 delta uF eM cV bF cY fP pL cS;refine eE ?_
 refine fJ ?_
 refine ⟨hp,fun _=>⟨fun h=>aD2 (.inl h),fun h1=>⟨fun h=>aD2 (.inr (.inl (wL h).symm)),fun hv _=>?_⟩⟩⟩
 have hm:=(bV s).1 h1
 have hn8:=((bA _).1 hm.1)
 have hin:(List.getD s.2.2.1 0 (bG bC)).2.1=iA s.2.2.1:=by unfold iA;rw[if_pos hm.1];rfl
 have hou:(List.getD s.2.2.1 (s.2.2.1.length - 1) (bG bC)).2.2.1=dJ s.2.2.1:=by unfold dJ;rw[if_pos hm.1];rfl
 rw[hin]
 refine ⟨⟨by omega,by omega⟩,fun _=>⟨fun h=>aD2 (.inr (.inl (Bool.eq_false_iff.2 fun hh=>h ((bT _ _).1 hh).2))),fun hv2 _=>⟨fun h=>aD2 (.inr (.inr (.inl h))),fun h3=>?_⟩⟩⟩
 have h2:eG v (iA s.2.2.1)=true:=(bT _ _).2 ⟨hv,hv2⟩
 have hl:=vR s.2.2.1 v s.2.2.1.length
 have hx6:=aEW h2
 have h6:=xN s.2.2.1 v hx6 s.2.2.1.length
 have hy6:(List.getD (jG s.2.2.1 v s.2.2.1.length).1 s.2.2.1.length (bG aA)).length≤6:=aK3 h6 _
 have hst:=(aJC (t:=aB) hp).2.2.2.2.2.1.1
 replace hst:List.length s.2.2.2.2.2.1≤1000000000:=hst
 constructor
 ·intro hla
  refine ⟨fun h=>aD2 (.inr (.inr (.inr ⟨hla,(wL h).symm⟩))),fun ht _ _=>⟨by omega,fun _=>⟨by omega,fun _=>?_⟩⟩⟩
  rw[hou]
  refine ⟨fun h=>aD2 (.inr (.inr (.inr ⟨hla,Bool.eq_false_iff.2 fun hh=>h ((bT _ _).1 hh).2⟩))),fun ht2=>?_⟩
  simp only[hl,Nat.add_sub_cancel]
  have hy:=aTW h1 h2 h3 (fun _=>(bT _ _).2 ⟨ht,ht2⟩)
  (repeat' first|intro _|(with_reducible apply And.intro))
  all_goals first|omega|exact Bool.noConfusion ((by assumption:s.2.2.2.1=true).symm.trans (by assumption:s.2.2.2.1=false))|(unfold maxLen;omega)|(simp only[List.drop_zero,List.length_take];omega)|exact Nat.le_trans (h6 _ (by assumption)) (by decide)|exact Nat.le_trans (h6 _ (List.mem_of_mem_take (by assumption))) (by decide)|skip
  all_goals first|exact Bool.noConfusion ((by assumption:s.2.2.2.1=true).symm.trans (by assumption:s.2.2.2.1=false))|refine (aUA (by assumption) ?_ ?_ ?_).trans hy|refine (aUE (by assumption) ?_ ?_).trans hy
  all_goals first|rfl|(rw[← aYM (by assumption)])|(rw[← aYA (by assumption)])|exact bCO (by assumption)|exact bCI (by assumption)|exact bCR (by assumption)|exact bCT (by assumption) (by assumption) (by assumption)|exact nS (by assumption)|exact uH (by assumption)|(simp[*];done)|skip
 ·intro hla
  simp only[hl,Nat.add_sub_cancel]
  have hy:=aTW (t:=t) h1 h2 h3 (fun h=>absurd h (by simp[hla]))
  (repeat' first|intro _|(with_reducible apply And.intro))
  all_goals first|omega|exact Bool.noConfusion ((by assumption:s.2.2.2.1=true).symm.trans (by assumption:s.2.2.2.1=false))|(unfold maxLen;omega)|(simp only[List.drop_zero,List.length_take];omega)|exact Nat.le_trans (h6 _ (by assumption)) (by decide)|exact Nat.le_trans (h6 _ (List.mem_of_mem_take (by assumption))) (by decide)|skip
  all_goals first|exact Bool.noConfusion ((by assumption:s.2.2.2.1=true).symm.trans (by assumption:s.2.2.2.1=false))|refine (aUA (by assumption) ?_ ?_ ?_).trans hy|refine (aUE (by assumption) ?_ ?_).trans hy
  all_goals first|rfl|(rw[← aYM (by assumption)])|(rw[← aYA (by assumption)])|exact bCO (by assumption)|exact bCI (by assumption)|exact bCR (by assumption)|exact bCT (by assumption) (by assumption) (by assumption)|exact nS (by assumption)|exact uH (by assumption)|(simp[*];done)|skip
set_option maxHeartbeats 1000000 in
theorem aK4:Con.Holds Tryz.prog lA:=aQ aR (aG uU (aG qT (aG fL (aG qU (aG aBD (aG aSJ (aG pV aO))))))) aLZ aKB
end Go.Proofs.YtdeobhdbmehpgaaGreat
