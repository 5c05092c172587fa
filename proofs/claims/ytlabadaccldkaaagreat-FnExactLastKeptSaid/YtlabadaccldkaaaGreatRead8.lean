/- Read8: lemmas. No conditions. -/
import Derived.Test.YtlabadaccldkaaaGreatRead7
namespace Go.Proofs.YtlabadaccldkaaaGreat
open Go.ChangeShapes Go.WideShapes Go.ChangeAt Go.RowKit Go.Deep
set_option linter.unusedVariables false
set_option linter.unusedSimpArgs false
noncomputable def kZ:Con:=⟨27,(.aWS .str tI),(.aWS aB tI),[.val ⟨false,.str,[]⟩,.val ⟨false,tI,[]⟩],[⟨true,aB,[0,2,2,0,0,2,2,2,2,2,2,2,0,0]⟩,⟨false,tI,[0]⟩],false,none,
 ((fun x=>PB x.1 x.2):((ByteArray) × Int)→Prop),
 ((fun x=>kI x.1 x.2):((ByteArray) × Int)→(bA × Int))⟩
def sK:T:=.call 0 (aQ (.aWS .str aJ) [(.p1 .str tI (.Z 0)),(aG (.aWS .str tI) 1 (.Z 0)),(.ci .i64 8)]) <|
 .aWT (.aWX 3 tI) (.aWU aA tI (.p1 aA tI (.Z 1)) (.ci .i64 0)) <|
 .aWT (.aWX 3 tI) (.aWU aA tI (.p1 aA tI (.Z 1)) (.ci .i64 0)) <|
 .aWT (.aWX 3 tI) (.aWU aA tI (.p1 aA tI (.Z 1)) (.ci .i64 1)) <|
 .aWT (.aWX 3 tI) (.aWU aA tI (.p1 aA tI (.Z 1)) (.ci .i64 1)) <|
 .aWT (.cmp .eql .i64) (.aWU tI tI (.Z 5) (.ci .i64 1)) <|
 .aWT (.aWX 3 tI) (.aWU aA tI (.p1 aA tI (.Z 1)) (.ci .i64 2)) <|
 .aWT (.aWX 3 tI) (.aWU aA tI (.p1 aA tI (.Z 1)) (.ci .i64 2)) <|
 .aWT (.cmp .eql .i64) (.aWU tI tI (.Z 8) (.ci .i64 1)) <|
 .aWT (.aWX 3 tI) (.aWU aA tI (.p1 aA tI (.Z 1)) (.ci .i64 3)) <|
 .aWT (.aWX 3 tI) (.aWU aA tI (.p1 aA tI (.Z 1)) (.ci .i64 3)) <|
 .aWT (.aWX 3 tI) (.aWU aA tI (.p1 aA tI (.Z 1)) (.ci .i64 4)) <|
 .aWT (.aWX 3 tI) (.aWU aA tI (.p1 aA tI (.Z 1)) (.ci .i64 4)) <|
 .aWT (.cmp .eql .i64) (.aWU tI tI (.Z 13) (.ci .i64 1)) <|
 .loop (.aWS tI (.aWS tI bD)) (aQ (.aWS tI (.aWS tI bD)) [(.ci .i64 0),(aG (.aWS aA tI) 1 (.Z 1)),(.nl 88 aJ)]) <|
  .aWT (.aWX 3 tI) (.aWU aA tI (.p1 aA tI (.Z 1)) (.ci .i64 5)) <|
  .aWT (.aWX 3 tI) (.aWU aA tI (.p1 aA tI (.Z 1)) (.ci .i64 5)) <|
  .aWT (.cmp .lss .i64) (.aWU tI tI (.p1 tI (.aWS tI bD) (.Z 15)) (.Z 17)) <|
  .ite (.Z 18) (
   .aWT (.cmp .lss .i64) (.aWU tI tI (.p1 tI (.aWS tI bD) (.Z 15)) (.ci .i64 100)) <|
   .ite (.Z 19) (
    .aWT (.cmp .geq .i64) (.aWU tI tI (aO (.aWS tI (.aWS tI bD)) 1 (.Z 15)) (.ci .i64 0)) <|
    .ite (.Z 20) (
     .call 0 (aQ (.aWS .str aJ) [(.p1 .str tI (.Z 0)),(aO (.aWS tI (.aWS tI bD)) 1 (.Z 15)),(.ci .i64 2)]) <|
     .aWT (.aWX 3 tI) (.aWU aA tI (.p1 aA tI (.Z 21)) (.ci .i64 0)) <|
     .aWT (.aWX 3 tI) (.aWU aA tI (.p1 aA tI (.Z 21)) (.ci .i64 0)) <|
     .aWT (.aWX 3 tI) (.aWU aA tI (.p1 aA tI (.Z 21)) (.ci .i64 1)) <|
     .aWT (.aWX 3 tI) (.aWU aA tI (.p1 aA tI (.Z 21)) (.ci .i64 1)) <|
     .aWT (.lit 88 aJ 1) (.aWU tI tI (.Z 23) (.Z 25)) <|
     .aWT (.aWZ 88 aJ 16) (.aWU bD bD (aG (.aWS tI (.aWS tI bD)) 2 (.Z 15)) (.Z 26)) <|
     .aWT (.ar .add .i64) (.aWU tI tI (.p1 tI (.aWS tI bD) (.Z 15)) (.ci .i64 1)) <|
     .aWV 0 (aQ (.aWS tI (.aWS tI bD)) [(.Z 28),(aG (.aWS aA tI) 1 (.Z 21)),(.Z 27)])) (
     .loop (.aWS tI (.aWS tI aK)) (aQ (.aWS tI (.aWS tI aK)) [(.ci .i64 0),(aO (.aWS tI (.aWS tI bD)) 1 (.Z 15)),(.nl 90 aZ)]) <|
      .aWT (.aWX 3 tI) (.aWU aA tI (.p1 aA tI (.Z 1)) (.ci .i64 6)) <|
      .aWT (.aWX 3 tI) (.aWU aA tI (.p1 aA tI (.Z 1)) (.ci .i64 6)) <|
      .aWT (.cmp .lss .i64) (.aWU tI tI (.p1 tI (.aWS tI aK) (.Z 21)) (.Z 23)) <|
      .ite (.Z 24) (
       .aWT (.cmp .lss .i64) (.aWU tI tI (.p1 tI (.aWS tI aK) (.Z 21)) (.ci .i64 8)) <|
       .ite (.Z 25) (
        .aWT (.cmp .geq .i64) (.aWU tI tI (aO (.aWS tI (.aWS tI aK)) 1 (.Z 21)) (.ci .i64 0)) <|
        .ite (.Z 26) (
         .call 0 (aQ (.aWS .str aJ) [(.p1 .str tI (.Z 0)),(aO (.aWS tI (.aWS tI aK)) 1 (.Z 21)),(.ci .i64 3)]) <|
         .call 1 (.aWU .str tI (.p1 .str tI (.Z 0)) (aG (.aWS aA tI) 1 (.Z 27))) <|
         .aWT (.aWX 3 tI) (.aWU aA tI (.p1 aA tI (.Z 27)) (.ci .i64 0)) <|
         .aWT (.aWX 3 tI) (.aWU aA tI (.p1 aA tI (.Z 27)) (.ci .i64 0)) <|
         .aWT (.aWX 3 tI) (.aWU aA tI (.p1 aA tI (.Z 27)) (.ci .i64 1)) <|
         .aWT (.aWX 3 tI) (.aWU aA tI (.p1 aA tI (.Z 27)) (.ci .i64 1)) <|
         .aWT (.aWX 3 tI) (.aWU aA tI (.p1 aA tI (.Z 27)) (.ci .i64 2)) <|
         .aWT (.aWX 3 tI) (.aWU aA tI (.p1 aA tI (.Z 27)) (.ci .i64 2)) <|
         .aWT (.lit 90 aZ 1) (aQ aZ [(.Z 30),(.Z 32),(.Z 34),(.p1 aA tI (.Z 28))]) <|
         .aWT (.aWZ 90 aZ 48) (.aWU aK aK (aG (.aWS tI (.aWS tI aK)) 2 (.Z 21)) (.Z 35)) <|
         .aWT (.ar .add .i64) (.aWU tI tI (.p1 tI (.aWS tI aK) (.Z 21)) (.ci .i64 1)) <|
         .aWV 0 (aQ (.aWS tI (.aWS tI aK)) [(.Z 37),(aG (.aWS aA tI) 1 (.Z 28)),(.Z 36)])) (
         .loop (.aWS tI (.aWS tI (.slice 94 aD))) (aQ (.aWS tI (.aWS tI (.slice 94 aD))) [(.ci .i64 0),(aO (.aWS tI (.aWS tI aK)) 1 (.Z 21)),(.nl 94 aD)]) <|
          .aWT (.aWX 3 tI) (.aWU aA tI (.p1 aA tI (.Z 1)) (.ci .i64 7)) <|
          .aWT (.aWX 3 tI) (.aWU aA tI (.p1 aA tI (.Z 1)) (.ci .i64 7)) <|
          .aWT (.cmp .lss .i64) (.aWU tI tI (.p1 tI (.aWS tI (.slice 94 aD)) (.Z 27)) (.Z 29)) <|
          .ite (.Z 30) (
           .aWT (.cmp .lss .i64) (.aWU tI tI (.p1 tI (.aWS tI (.slice 94 aD)) (.Z 27)) (.ci .i64 5)) <|
           .ite (.Z 31) (
            .aWT (.cmp .geq .i64) (.aWU tI tI (aO (.aWS tI (.aWS tI (.slice 94 aD))) 1 (.Z 27)) (.ci .i64 0)) <|
            .ite (.Z 32) (
             .call 0 (aQ (.aWS .str aJ) [(.p1 .str tI (.Z 0)),(aO (.aWS tI (.aWS tI (.slice 94 aD))) 1 (.Z 27)),(.ci .i64 1)]) <|
             .call 2 (.aWU .str tI (.p1 .str tI (.Z 0)) (aG (.aWS aA tI) 1 (.Z 33))) <|
             .aWT (.aWX 3 tI) (.aWU aA tI (.p1 aA tI (.Z 33)) (.ci .i64 0)) <|
             .aWT (.aWX 3 tI) (.aWU aA tI (.p1 aA tI (.Z 33)) (.ci .i64 0)) <|
             .aWT (.lit 94 aD 1) (.aWU tI aF (.Z 36) (.p1 aF tI (.Z 34))) <|
             .aWT (.aWZ 94 aD 32) (.aWU (.slice 94 aD) (.slice 94 aD) (aG (.aWS tI (.aWS tI (.slice 94 aD))) 2 (.Z 27)) (.Z 37)) <|
             .aWT (.ar .add .i64) (.aWU tI tI (.p1 tI (.aWS tI (.slice 94 aD)) (.Z 27)) (.ci .i64 1)) <|
             .aWV 0 (aQ (.aWS tI (.aWS tI (.slice 94 aD))) [(.Z 39),(aG (.aWS aF tI) 1 (.Z 34)),(.Z 38)])) (
             .call 2 (.aWU .str tI (.p1 .str tI (.Z 0)) (aO (.aWS tI (.aWS tI (.slice 94 aD))) 1 (.Z 27))) <|
             .call 1 (.aWU .str tI (.p1 .str tI (.Z 0)) (aG (.aWS aF tI) 1 (.Z 33))) <|
             .call 1 (.aWU .str tI (.p1 .str tI (.Z 0)) (aG (.aWS aA tI) 1 (.Z 34))) <|
             .call 1 (.aWU .str tI (.p1 .str tI (.Z 0)) (aG (.aWS aA tI) 1 (.Z 35))) <|
             .call 1 (.aWU .str tI (.p1 .str tI (.Z 0)) (aG (.aWS aA tI) 1 (.Z 36))) <|
             .call 2 (.aWU .str tI (.p1 .str tI (.Z 0)) (aG (.aWS aA tI) 1 (.Z 37))) <|
             .aWT (.cmp .lss .i64) (.aWU tI tI (aG (.aWS aF tI) 1 (.Z 38)) (.ci .i64 0)) <|
             .ite (.Z 39) (
              .ret (.aWU aB tI (aQ aB [(.ci .i64 0),(.nl 88 aJ),(.nl 90 aZ),(.cb false),(.cb false),(.nl 94 aD),(.nl 117 aA),(.nl 3 tI),(.nl 3 tI),(.nl 3 tI),(.nl 3 tI),(.nl 117 aA),(.ci .i64 0),(.cb false)]) (.ci .i64 (-1)))) (
              .aWT .ssub (aQ (.aWS .str aJ) [(.p1 .str tI (.Z 0)),(aG (.aWS .str tI) 1 (.Z 0)),(aG (.aWS aF tI) 1 (.Z 38))]) <|
              .call 3 (aQ aB [(.Z 3),(aG (.aWS tI (.aWS tI bD)) 2 (.Z 15)),(aG (.aWS tI (.aWS tI aK)) 2 (.Z 21)),(.Z 6),(.Z 9),(aG (.aWS tI (.aWS tI (.slice 94 aD))) 2 (.Z 27)),(.p1 aF tI (.Z 33)),(.p1 aA tI (.Z 34)),(.p1 aA tI (.Z 35)),(.p1 aA tI (.Z 36)),(.p1 aA tI (.Z 37)),(.p1 aF tI (.Z 38)),(.Z 11),(.Z 14)]) <|
              .aWT (.seq true) (.aWU .str .str (.Z 41) (.Z 40)) <|
              .ite (.Z 42) (
               .ret (.aWU aB tI (aQ aB [(.ci .i64 0),(.nl 88 aJ),(.nl 90 aZ),(.cb false),(.cb false),(.nl 94 aD),(.nl 117 aA),(.nl 3 tI),(.nl 3 tI),(.nl 3 tI),(.nl 3 tI),(.nl 117 aA),(.ci .i64 0),(.cb false)]) (.ci .i64 (-1)))) (
               .ret (.aWU aB tI (aQ aB [(.Z 3),(aG (.aWS tI (.aWS tI bD)) 2 (.Z 15)),(aG (.aWS tI (.aWS tI aK)) 2 (.Z 21)),(.Z 6),(.Z 9),(aG (.aWS tI (.aWS tI (.slice 94 aD))) 2 (.Z 27)),(.p1 aF tI (.Z 33)),(.p1 aA tI (.Z 34)),(.p1 aA tI (.Z 35)),(.p1 aA tI (.Z 36)),(.p1 aA tI (.Z 37)),(.p1 aF tI (.Z 38)),(.Z 11),(.Z 14)]) (aG (.aWS aF tI) 1 (.Z 38))))))) (
            .call 2 (.aWU .str tI (.p1 .str tI (.Z 0)) (aO (.aWS tI (.aWS tI (.slice 94 aD))) 1 (.Z 27))) <|
            .call 1 (.aWU .str tI (.p1 .str tI (.Z 0)) (aG (.aWS aF tI) 1 (.Z 32))) <|
            .call 1 (.aWU .str tI (.p1 .str tI (.Z 0)) (aG (.aWS aA tI) 1 (.Z 33))) <|
            .call 1 (.aWU .str tI (.p1 .str tI (.Z 0)) (aG (.aWS aA tI) 1 (.Z 34))) <|
            .call 1 (.aWU .str tI (.p1 .str tI (.Z 0)) (aG (.aWS aA tI) 1 (.Z 35))) <|
            .call 2 (.aWU .str tI (.p1 .str tI (.Z 0)) (aG (.aWS aA tI) 1 (.Z 36))) <|
            .aWT (.cmp .lss .i64) (.aWU tI tI (aG (.aWS aF tI) 1 (.Z 37)) (.ci .i64 0)) <|
            .ite (.Z 38) (
             .ret (.aWU aB tI (aQ aB [(.ci .i64 0),(.nl 88 aJ),(.nl 90 aZ),(.cb false),(.cb false),(.nl 94 aD),(.nl 117 aA),(.nl 3 tI),(.nl 3 tI),(.nl 3 tI),(.nl 3 tI),(.nl 117 aA),(.ci .i64 0),(.cb false)]) (.ci .i64 (-1)))) (
             .aWT .ssub (aQ (.aWS .str aJ) [(.p1 .str tI (.Z 0)),(aG (.aWS .str tI) 1 (.Z 0)),(aG (.aWS aF tI) 1 (.Z 37))]) <|
             .call 3 (aQ aB [(.Z 3),(aG (.aWS tI (.aWS tI bD)) 2 (.Z 15)),(aG (.aWS tI (.aWS tI aK)) 2 (.Z 21)),(.Z 6),(.Z 9),(aG (.aWS tI (.aWS tI (.slice 94 aD))) 2 (.Z 27)),(.p1 aF tI (.Z 32)),(.p1 aA tI (.Z 33)),(.p1 aA tI (.Z 34)),(.p1 aA tI (.Z 35)),(.p1 aA tI (.Z 36)),(.p1 aF tI (.Z 37)),(.Z 11),(.Z 14)]) <|
             .aWT (.seq true) (.aWU .str .str (.Z 40) (.Z 39)) <|
             .ite (.Z 41) (
              .ret (.aWU aB tI (aQ aB [(.ci .i64 0),(.nl 88 aJ),(.nl 90 aZ),(.cb false),(.cb false),(.nl 94 aD),(.nl 117 aA),(.nl 3 tI),(.nl 3 tI),(.nl 3 tI),(.nl 3 tI),(.nl 117 aA),(.ci .i64 0),(.cb false)]) (.ci .i64 (-1)))) (
              .ret (.aWU aB tI (aQ aB [(.Z 3),(aG (.aWS tI (.aWS tI bD)) 2 (.Z 15)),(aG (.aWS tI (.aWS tI aK)) 2 (.Z 21)),(.Z 6),(.Z 9),(aG (.aWS tI (.aWS tI (.slice 94 aD))) 2 (.Z 27)),(.p1 aF tI (.Z 32)),(.p1 aA tI (.Z 33)),(.p1 aA tI (.Z 34)),(.p1 aA tI (.Z 35)),(.p1 aA tI (.Z 36)),(.p1 aF tI (.Z 37)),(.Z 11),(.Z 14)]) (aG (.aWS aF tI) 1 (.Z 37))))))) (
           .call 2 (.aWU .str tI (.p1 .str tI (.Z 0)) (aO (.aWS tI (.aWS tI (.slice 94 aD))) 1 (.Z 27))) <|
           .call 1 (.aWU .str tI (.p1 .str tI (.Z 0)) (aG (.aWS aF tI) 1 (.Z 31))) <|
           .call 1 (.aWU .str tI (.p1 .str tI (.Z 0)) (aG (.aWS aA tI) 1 (.Z 32))) <|
           .call 1 (.aWU .str tI (.p1 .str tI (.Z 0)) (aG (.aWS aA tI) 1 (.Z 33))) <|
           .call 1 (.aWU .str tI (.p1 .str tI (.Z 0)) (aG (.aWS aA tI) 1 (.Z 34))) <|
           .call 2 (.aWU .str tI (.p1 .str tI (.Z 0)) (aG (.aWS aA tI) 1 (.Z 35))) <|
           .aWT (.cmp .lss .i64) (.aWU tI tI (aG (.aWS aF tI) 1 (.Z 36)) (.ci .i64 0)) <|
           .ite (.Z 37) (
            .ret (.aWU aB tI (aQ aB [(.ci .i64 0),(.nl 88 aJ),(.nl 90 aZ),(.cb false),(.cb false),(.nl 94 aD),(.nl 117 aA),(.nl 3 tI),(.nl 3 tI),(.nl 3 tI),(.nl 3 tI),(.nl 117 aA),(.ci .i64 0),(.cb false)]) (.ci .i64 (-1)))) (
            .aWT .ssub (aQ (.aWS .str aJ) [(.p1 .str tI (.Z 0)),(aG (.aWS .str tI) 1 (.Z 0)),(aG (.aWS aF tI) 1 (.Z 36))]) <|
            .call 3 (aQ aB [(.Z 3),(aG (.aWS tI (.aWS tI bD)) 2 (.Z 15)),(aG (.aWS tI (.aWS tI aK)) 2 (.Z 21)),(.Z 6),(.Z 9),(aG (.aWS tI (.aWS tI (.slice 94 aD))) 2 (.Z 27)),(.p1 aF tI (.Z 31)),(.p1 aA tI (.Z 32)),(.p1 aA tI (.Z 33)),(.p1 aA tI (.Z 34)),(.p1 aA tI (.Z 35)),(.p1 aF tI (.Z 36)),(.Z 11),(.Z 14)]) <|
            .aWT (.seq true) (.aWU .str .str (.Z 39) (.Z 38)) <|
            .ite (.Z 40) (
             .ret (.aWU aB tI (aQ aB [(.ci .i64 0),(.nl 88 aJ),(.nl 90 aZ),(.cb false),(.cb false),(.nl 94 aD),(.nl 117 aA),(.nl 3 tI),(.nl 3 tI),(.nl 3 tI),(.nl 3 tI),(.nl 117 aA),(.ci .i64 0),(.cb false)]) (.ci .i64 (-1)))) (
             .ret (.aWU aB tI (aQ aB [(.Z 3),(aG (.aWS tI (.aWS tI bD)) 2 (.Z 15)),(aG (.aWS tI (.aWS tI aK)) 2 (.Z 21)),(.Z 6),(.Z 9),(aG (.aWS tI (.aWS tI (.slice 94 aD))) 2 (.Z 27)),(.p1 aF tI (.Z 31)),(.p1 aA tI (.Z 32)),(.p1 aA tI (.Z 33)),(.p1 aA tI (.Z 34)),(.p1 aA tI (.Z 35)),(.p1 aF tI (.Z 36)),(.Z 11),(.Z 14)]) (aG (.aWS aF tI) 1 (.Z 36)))))))) (
        .loop (.aWS tI (.aWS tI (.slice 94 aD))) (aQ (.aWS tI (.aWS tI (.slice 94 aD))) [(.ci .i64 0),(aO (.aWS tI (.aWS tI aK)) 1 (.Z 21)),(.nl 94 aD)]) <|
         .aWT (.aWX 3 tI) (.aWU aA tI (.p1 aA tI (.Z 1)) (.ci .i64 7)) <|
         .aWT (.aWX 3 tI) (.aWU aA tI (.p1 aA tI (.Z 1)) (.ci .i64 7)) <|
         .aWT (.cmp .lss .i64) (.aWU tI tI (.p1 tI (.aWS tI (.slice 94 aD)) (.Z 26)) (.Z 28)) <|
         .ite (.Z 29) (
          .aWT (.cmp .lss .i64) (.aWU tI tI (.p1 tI (.aWS tI (.slice 94 aD)) (.Z 26)) (.ci .i64 5)) <|
          .ite (.Z 30) (
           .aWT (.cmp .geq .i64) (.aWU tI tI (aO (.aWS tI (.aWS tI (.slice 94 aD))) 1 (.Z 26)) (.ci .i64 0)) <|
           .ite (.Z 31) (
            .call 0 (aQ (.aWS .str aJ) [(.p1 .str tI (.Z 0)),(aO (.aWS tI (.aWS tI (.slice 94 aD))) 1 (.Z 26)),(.ci .i64 1)]) <|
            .call 2 (.aWU .str tI (.p1 .str tI (.Z 0)) (aG (.aWS aA tI) 1 (.Z 32))) <|
            .aWT (.aWX 3 tI) (.aWU aA tI (.p1 aA tI (.Z 32)) (.ci .i64 0)) <|
            .aWT (.aWX 3 tI) (.aWU aA tI (.p1 aA tI (.Z 32)) (.ci .i64 0)) <|
            .aWT (.lit 94 aD 1) (.aWU tI aF (.Z 35) (.p1 aF tI (.Z 33))) <|
            .aWT (.aWZ 94 aD 32) (.aWU (.slice 94 aD) (.slice 94 aD) (aG (.aWS tI (.aWS tI (.slice 94 aD))) 2 (.Z 26)) (.Z 36)) <|
            .aWT (.ar .add .i64) (.aWU tI tI (.p1 tI (.aWS tI (.slice 94 aD)) (.Z 26)) (.ci .i64 1)) <|
            .aWV 0 (aQ (.aWS tI (.aWS tI (.slice 94 aD))) [(.Z 38),(aG (.aWS aF tI) 1 (.Z 33)),(.Z 37)])) (
            .call 2 (.aWU .str tI (.p1 .str tI (.Z 0)) (aO (.aWS tI (.aWS tI (.slice 94 aD))) 1 (.Z 26))) <|
            .call 1 (.aWU .str tI (.p1 .str tI (.Z 0)) (aG (.aWS aF tI) 1 (.Z 32))) <|
            .call 1 (.aWU .str tI (.p1 .str tI (.Z 0)) (aG (.aWS aA tI) 1 (.Z 33))) <|
            .call 1 (.aWU .str tI (.p1 .str tI (.Z 0)) (aG (.aWS aA tI) 1 (.Z 34))) <|
            .call 1 (.aWU .str tI (.p1 .str tI (.Z 0)) (aG (.aWS aA tI) 1 (.Z 35))) <|
            .call 2 (.aWU .str tI (.p1 .str tI (.Z 0)) (aG (.aWS aA tI) 1 (.Z 36))) <|
            .aWT (.cmp .lss .i64) (.aWU tI tI (aG (.aWS aF tI) 1 (.Z 37)) (.ci .i64 0)) <|
            .ite (.Z 38) (
             .ret (.aWU aB tI (aQ aB [(.ci .i64 0),(.nl 88 aJ),(.nl 90 aZ),(.cb false),(.cb false),(.nl 94 aD),(.nl 117 aA),(.nl 3 tI),(.nl 3 tI),(.nl 3 tI),(.nl 3 tI),(.nl 117 aA),(.ci .i64 0),(.cb false)]) (.ci .i64 (-1)))) (
             .aWT .ssub (aQ (.aWS .str aJ) [(.p1 .str tI (.Z 0)),(aG (.aWS .str tI) 1 (.Z 0)),(aG (.aWS aF tI) 1 (.Z 37))]) <|
             .call 3 (aQ aB [(.Z 3),(aG (.aWS tI (.aWS tI bD)) 2 (.Z 15)),(aG (.aWS tI (.aWS tI aK)) 2 (.Z 21)),(.Z 6),(.Z 9),(aG (.aWS tI (.aWS tI (.slice 94 aD))) 2 (.Z 26)),(.p1 aF tI (.Z 32)),(.p1 aA tI (.Z 33)),(.p1 aA tI (.Z 34)),(.p1 aA tI (.Z 35)),(.p1 aA tI (.Z 36)),(.p1 aF tI (.Z 37)),(.Z 11),(.Z 14)]) <|
             .aWT (.seq true) (.aWU .str .str (.Z 40) (.Z 39)) <|
             .ite (.Z 41) (
              .ret (.aWU aB tI (aQ aB [(.ci .i64 0),(.nl 88 aJ),(.nl 90 aZ),(.cb false),(.cb false),(.nl 94 aD),(.nl 117 aA),(.nl 3 tI),(.nl 3 tI),(.nl 3 tI),(.nl 3 tI),(.nl 117 aA),(.ci .i64 0),(.cb false)]) (.ci .i64 (-1)))) (
              .ret (.aWU aB tI (aQ aB [(.Z 3),(aG (.aWS tI (.aWS tI bD)) 2 (.Z 15)),(aG (.aWS tI (.aWS tI aK)) 2 (.Z 21)),(.Z 6),(.Z 9),(aG (.aWS tI (.aWS tI (.slice 94 aD))) 2 (.Z 26)),(.p1 aF tI (.Z 32)),(.p1 aA tI (.Z 33)),(.p1 aA tI (.Z 34)),(.p1 aA tI (.Z 35)),(.p1 aA tI (.Z 36)),(.p1 aF tI (.Z 37)),(.Z 11),(.Z 14)]) (aG (.aWS aF tI) 1 (.Z 37))))))) (
           .call 2 (.aWU .str tI (.p1 .str tI (.Z 0)) (aO (.aWS tI (.aWS tI (.slice 94 aD))) 1 (.Z 26))) <|
           .call 1 (.aWU .str tI (.p1 .str tI (.Z 0)) (aG (.aWS aF tI) 1 (.Z 31))) <|
           .call 1 (.aWU .str tI (.p1 .str tI (.Z 0)) (aG (.aWS aA tI) 1 (.Z 32))) <|
           .call 1 (.aWU .str tI (.p1 .str tI (.Z 0)) (aG (.aWS aA tI) 1 (.Z 33))) <|
           .call 1 (.aWU .str tI (.p1 .str tI (.Z 0)) (aG (.aWS aA tI) 1 (.Z 34))) <|
           .call 2 (.aWU .str tI (.p1 .str tI (.Z 0)) (aG (.aWS aA tI) 1 (.Z 35))) <|
           .aWT (.cmp .lss .i64) (.aWU tI tI (aG (.aWS aF tI) 1 (.Z 36)) (.ci .i64 0)) <|
           .ite (.Z 37) (
            .ret (.aWU aB tI (aQ aB [(.ci .i64 0),(.nl 88 aJ),(.nl 90 aZ),(.cb false),(.cb false),(.nl 94 aD),(.nl 117 aA),(.nl 3 tI),(.nl 3 tI),(.nl 3 tI),(.nl 3 tI),(.nl 117 aA),(.ci .i64 0),(.cb false)]) (.ci .i64 (-1)))) (
            .aWT .ssub (aQ (.aWS .str aJ) [(.p1 .str tI (.Z 0)),(aG (.aWS .str tI) 1 (.Z 0)),(aG (.aWS aF tI) 1 (.Z 36))]) <|
            .call 3 (aQ aB [(.Z 3),(aG (.aWS tI (.aWS tI bD)) 2 (.Z 15)),(aG (.aWS tI (.aWS tI aK)) 2 (.Z 21)),(.Z 6),(.Z 9),(aG (.aWS tI (.aWS tI (.slice 94 aD))) 2 (.Z 26)),(.p1 aF tI (.Z 31)),(.p1 aA tI (.Z 32)),(.p1 aA tI (.Z 33)),(.p1 aA tI (.Z 34)),(.p1 aA tI (.Z 35)),(.p1 aF tI (.Z 36)),(.Z 11),(.Z 14)]) <|
            .aWT (.seq true) (.aWU .str .str (.Z 39) (.Z 38)) <|
            .ite (.Z 40) (
             .ret (.aWU aB tI (aQ aB [(.ci .i64 0),(.nl 88 aJ),(.nl 90 aZ),(.cb false),(.cb false),(.nl 94 aD),(.nl 117 aA),(.nl 3 tI),(.nl 3 tI),(.nl 3 tI),(.nl 3 tI),(.nl 117 aA),(.ci .i64 0),(.cb false)]) (.ci .i64 (-1)))) (
             .ret (.aWU aB tI (aQ aB [(.Z 3),(aG (.aWS tI (.aWS tI bD)) 2 (.Z 15)),(aG (.aWS tI (.aWS tI aK)) 2 (.Z 21)),(.Z 6),(.Z 9),(aG (.aWS tI (.aWS tI (.slice 94 aD))) 2 (.Z 26)),(.p1 aF tI (.Z 31)),(.p1 aA tI (.Z 32)),(.p1 aA tI (.Z 33)),(.p1 aA tI (.Z 34)),(.p1 aA tI (.Z 35)),(.p1 aF tI (.Z 36)),(.Z 11),(.Z 14)]) (aG (.aWS aF tI) 1 (.Z 36))))))) (
          .call 2 (.aWU .str tI (.p1 .str tI (.Z 0)) (aO (.aWS tI (.aWS tI (.slice 94 aD))) 1 (.Z 26))) <|
          .call 1 (.aWU .str tI (.p1 .str tI (.Z 0)) (aG (.aWS aF tI) 1 (.Z 30))) <|
          .call 1 (.aWU .str tI (.p1 .str tI (.Z 0)) (aG (.aWS aA tI) 1 (.Z 31))) <|
          .call 1 (.aWU .str tI (.p1 .str tI (.Z 0)) (aG (.aWS aA tI) 1 (.Z 32))) <|
          .call 1 (.aWU .str tI (.p1 .str tI (.Z 0)) (aG (.aWS aA tI) 1 (.Z 33))) <|
          .call 2 (.aWU .str tI (.p1 .str tI (.Z 0)) (aG (.aWS aA tI) 1 (.Z 34))) <|
          .aWT (.cmp .lss .i64) (.aWU tI tI (aG (.aWS aF tI) 1 (.Z 35)) (.ci .i64 0)) <|
          .ite (.Z 36) (
           .ret (.aWU aB tI (aQ aB [(.ci .i64 0),(.nl 88 aJ),(.nl 90 aZ),(.cb false),(.cb false),(.nl 94 aD),(.nl 117 aA),(.nl 3 tI),(.nl 3 tI),(.nl 3 tI),(.nl 3 tI),(.nl 117 aA),(.ci .i64 0),(.cb false)]) (.ci .i64 (-1)))) (
           .aWT .ssub (aQ (.aWS .str aJ) [(.p1 .str tI (.Z 0)),(aG (.aWS .str tI) 1 (.Z 0)),(aG (.aWS aF tI) 1 (.Z 35))]) <|
           .call 3 (aQ aB [(.Z 3),(aG (.aWS tI (.aWS tI bD)) 2 (.Z 15)),(aG (.aWS tI (.aWS tI aK)) 2 (.Z 21)),(.Z 6),(.Z 9),(aG (.aWS tI (.aWS tI (.slice 94 aD))) 2 (.Z 26)),(.p1 aF tI (.Z 30)),(.p1 aA tI (.Z 31)),(.p1 aA tI (.Z 32)),(.p1 aA tI (.Z 33)),(.p1 aA tI (.Z 34)),(.p1 aF tI (.Z 35)),(.Z 11),(.Z 14)]) <|
           .aWT (.seq true) (.aWU .str .str (.Z 38) (.Z 37)) <|
           .ite (.Z 39) (
            .ret (.aWU aB tI (aQ aB [(.ci .i64 0),(.nl 88 aJ),(.nl 90 aZ),(.cb false),(.cb false),(.nl 94 aD),(.nl 117 aA),(.nl 3 tI),(.nl 3 tI),(.nl 3 tI),(.nl 3 tI),(.nl 117 aA),(.ci .i64 0),(.cb false)]) (.ci .i64 (-1)))) (
            .ret (.aWU aB tI (aQ aB [(.Z 3),(aG (.aWS tI (.aWS tI bD)) 2 (.Z 15)),(aG (.aWS tI (.aWS tI aK)) 2 (.Z 21)),(.Z 6),(.Z 9),(aG (.aWS tI (.aWS tI (.slice 94 aD))) 2 (.Z 26)),(.p1 aF tI (.Z 30)),(.p1 aA tI (.Z 31)),(.p1 aA tI (.Z 32)),(.p1 aA tI (.Z 33)),(.p1 aA tI (.Z 34)),(.p1 aF tI (.Z 35)),(.Z 11),(.Z 14)]) (aG (.aWS aF tI) 1 (.Z 35)))))))) (
       .loop (.aWS tI (.aWS tI (.slice 94 aD))) (aQ (.aWS tI (.aWS tI (.slice 94 aD))) [(.ci .i64 0),(aO (.aWS tI (.aWS tI aK)) 1 (.Z 21)),(.nl 94 aD)]) <|
        .aWT (.aWX 3 tI) (.aWU aA tI (.p1 aA tI (.Z 1)) (.ci .i64 7)) <|
        .aWT (.aWX 3 tI) (.aWU aA tI (.p1 aA tI (.Z 1)) (.ci .i64 7)) <|
        .aWT (.cmp .lss .i64) (.aWU tI tI (.p1 tI (.aWS tI (.slice 94 aD)) (.Z 25)) (.Z 27)) <|
        .ite (.Z 28) (
         .aWT (.cmp .lss .i64) (.aWU tI tI (.p1 tI (.aWS tI (.slice 94 aD)) (.Z 25)) (.ci .i64 5)) <|
         .ite (.Z 29) (
          .aWT (.cmp .geq .i64) (.aWU tI tI (aO (.aWS tI (.aWS tI (.slice 94 aD))) 1 (.Z 25)) (.ci .i64 0)) <|
          .ite (.Z 30) (
           .call 0 (aQ (.aWS .str aJ) [(.p1 .str tI (.Z 0)),(aO (.aWS tI (.aWS tI (.slice 94 aD))) 1 (.Z 25)),(.ci .i64 1)]) <|
           .call 2 (.aWU .str tI (.p1 .str tI (.Z 0)) (aG (.aWS aA tI) 1 (.Z 31))) <|
           .aWT (.aWX 3 tI) (.aWU aA tI (.p1 aA tI (.Z 31)) (.ci .i64 0)) <|
           .aWT (.aWX 3 tI) (.aWU aA tI (.p1 aA tI (.Z 31)) (.ci .i64 0)) <|
           .aWT (.lit 94 aD 1) (.aWU tI aF (.Z 34) (.p1 aF tI (.Z 32))) <|
           .aWT (.aWZ 94 aD 32) (.aWU (.slice 94 aD) (.slice 94 aD) (aG (.aWS tI (.aWS tI (.slice 94 aD))) 2 (.Z 25)) (.Z 35)) <|
           .aWT (.ar .add .i64) (.aWU tI tI (.p1 tI (.aWS tI (.slice 94 aD)) (.Z 25)) (.ci .i64 1)) <|
           .aWV 0 (aQ (.aWS tI (.aWS tI (.slice 94 aD))) [(.Z 37),(aG (.aWS aF tI) 1 (.Z 32)),(.Z 36)])) (
           .call 2 (.aWU .str tI (.p1 .str tI (.Z 0)) (aO (.aWS tI (.aWS tI (.slice 94 aD))) 1 (.Z 25))) <|
           .call 1 (.aWU .str tI (.p1 .str tI (.Z 0)) (aG (.aWS aF tI) 1 (.Z 31))) <|
           .call 1 (.aWU .str tI (.p1 .str tI (.Z 0)) (aG (.aWS aA tI) 1 (.Z 32))) <|
           .call 1 (.aWU .str tI (.p1 .str tI (.Z 0)) (aG (.aWS aA tI) 1 (.Z 33))) <|
           .call 1 (.aWU .str tI (.p1 .str tI (.Z 0)) (aG (.aWS aA tI) 1 (.Z 34))) <|
           .call 2 (.aWU .str tI (.p1 .str tI (.Z 0)) (aG (.aWS aA tI) 1 (.Z 35))) <|
           .aWT (.cmp .lss .i64) (.aWU tI tI (aG (.aWS aF tI) 1 (.Z 36)) (.ci .i64 0)) <|
           .ite (.Z 37) (
            .ret (.aWU aB tI (aQ aB [(.ci .i64 0),(.nl 88 aJ),(.nl 90 aZ),(.cb false),(.cb false),(.nl 94 aD),(.nl 117 aA),(.nl 3 tI),(.nl 3 tI),(.nl 3 tI),(.nl 3 tI),(.nl 117 aA),(.ci .i64 0),(.cb false)]) (.ci .i64 (-1)))) (
            .aWT .ssub (aQ (.aWS .str aJ) [(.p1 .str tI (.Z 0)),(aG (.aWS .str tI) 1 (.Z 0)),(aG (.aWS aF tI) 1 (.Z 36))]) <|
            .call 3 (aQ aB [(.Z 3),(aG (.aWS tI (.aWS tI bD)) 2 (.Z 15)),(aG (.aWS tI (.aWS tI aK)) 2 (.Z 21)),(.Z 6),(.Z 9),(aG (.aWS tI (.aWS tI (.slice 94 aD))) 2 (.Z 25)),(.p1 aF tI (.Z 31)),(.p1 aA tI (.Z 32)),(.p1 aA tI (.Z 33)),(.p1 aA tI (.Z 34)),(.p1 aA tI (.Z 35)),(.p1 aF tI (.Z 36)),(.Z 11),(.Z 14)]) <|
            .aWT (.seq true) (.aWU .str .str (.Z 39) (.Z 38)) <|
            .ite (.Z 40) (
             .ret (.aWU aB tI (aQ aB [(.ci .i64 0),(.nl 88 aJ),(.nl 90 aZ),(.cb false),(.cb false),(.nl 94 aD),(.nl 117 aA),(.nl 3 tI),(.nl 3 tI),(.nl 3 tI),(.nl 3 tI),(.nl 117 aA),(.ci .i64 0),(.cb false)]) (.ci .i64 (-1)))) (
             .ret (.aWU aB tI (aQ aB [(.Z 3),(aG (.aWS tI (.aWS tI bD)) 2 (.Z 15)),(aG (.aWS tI (.aWS tI aK)) 2 (.Z 21)),(.Z 6),(.Z 9),(aG (.aWS tI (.aWS tI (.slice 94 aD))) 2 (.Z 25)),(.p1 aF tI (.Z 31)),(.p1 aA tI (.Z 32)),(.p1 aA tI (.Z 33)),(.p1 aA tI (.Z 34)),(.p1 aA tI (.Z 35)),(.p1 aF tI (.Z 36)),(.Z 11),(.Z 14)]) (aG (.aWS aF tI) 1 (.Z 36))))))) (
          .call 2 (.aWU .str tI (.p1 .str tI (.Z 0)) (aO (.aWS tI (.aWS tI (.slice 94 aD))) 1 (.Z 25))) <|
          .call 1 (.aWU .str tI (.p1 .str tI (.Z 0)) (aG (.aWS aF tI) 1 (.Z 30))) <|
          .call 1 (.aWU .str tI (.p1 .str tI (.Z 0)) (aG (.aWS aA tI) 1 (.Z 31))) <|
          .call 1 (.aWU .str tI (.p1 .str tI (.Z 0)) (aG (.aWS aA tI) 1 (.Z 32))) <|
          .call 1 (.aWU .str tI (.p1 .str tI (.Z 0)) (aG (.aWS aA tI) 1 (.Z 33))) <|
          .call 2 (.aWU .str tI (.p1 .str tI (.Z 0)) (aG (.aWS aA tI) 1 (.Z 34))) <|
          .aWT (.cmp .lss .i64) (.aWU tI tI (aG (.aWS aF tI) 1 (.Z 35)) (.ci .i64 0)) <|
          .ite (.Z 36) (
           .ret (.aWU aB tI (aQ aB [(.ci .i64 0),(.nl 88 aJ),(.nl 90 aZ),(.cb false),(.cb false),(.nl 94 aD),(.nl 117 aA),(.nl 3 tI),(.nl 3 tI),(.nl 3 tI),(.nl 3 tI),(.nl 117 aA),(.ci .i64 0),(.cb false)]) (.ci .i64 (-1)))) (
           .aWT .ssub (aQ (.aWS .str aJ) [(.p1 .str tI (.Z 0)),(aG (.aWS .str tI) 1 (.Z 0)),(aG (.aWS aF tI) 1 (.Z 35))]) <|
           .call 3 (aQ aB [(.Z 3),(aG (.aWS tI (.aWS tI bD)) 2 (.Z 15)),(aG (.aWS tI (.aWS tI aK)) 2 (.Z 21)),(.Z 6),(.Z 9),(aG (.aWS tI (.aWS tI (.slice 94 aD))) 2 (.Z 25)),(.p1 aF tI (.Z 30)),(.p1 aA tI (.Z 31)),(.p1 aA tI (.Z 32)),(.p1 aA tI (.Z 33)),(.p1 aA tI (.Z 34)),(.p1 aF tI (.Z 35)),(.Z 11),(.Z 14)]) <|
           .aWT (.seq true) (.aWU .str .str (.Z 38) (.Z 37)) <|
           .ite (.Z 39) (
            .ret (.aWU aB tI (aQ aB [(.ci .i64 0),(.nl 88 aJ),(.nl 90 aZ),(.cb false),(.cb false),(.nl 94 aD),(.nl 117 aA),(.nl 3 tI),(.nl 3 tI),(.nl 3 tI),(.nl 3 tI),(.nl 117 aA),(.ci .i64 0),(.cb false)]) (.ci .i64 (-1)))) (
            .ret (.aWU aB tI (aQ aB [(.Z 3),(aG (.aWS tI (.aWS tI bD)) 2 (.Z 15)),(aG (.aWS tI (.aWS tI aK)) 2 (.Z 21)),(.Z 6),(.Z 9),(aG (.aWS tI (.aWS tI (.slice 94 aD))) 2 (.Z 25)),(.p1 aF tI (.Z 30)),(.p1 aA tI (.Z 31)),(.p1 aA tI (.Z 32)),(.p1 aA tI (.Z 33)),(.p1 aA tI (.Z 34)),(.p1 aF tI (.Z 35)),(.Z 11),(.Z 14)]) (aG (.aWS aF tI) 1 (.Z 35))))))) (
         .call 2 (.aWU .str tI (.p1 .str tI (.Z 0)) (aO (.aWS tI (.aWS tI (.slice 94 aD))) 1 (.Z 25))) <|
         .call 1 (.aWU .str tI (.p1 .str tI (.Z 0)) (aG (.aWS aF tI) 1 (.Z 29))) <|
         .call 1 (.aWU .str tI (.p1 .str tI (.Z 0)) (aG (.aWS aA tI) 1 (.Z 30))) <|
         .call 1 (.aWU .str tI (.p1 .str tI (.Z 0)) (aG (.aWS aA tI) 1 (.Z 31))) <|
         .call 1 (.aWU .str tI (.p1 .str tI (.Z 0)) (aG (.aWS aA tI) 1 (.Z 32))) <|
         .call 2 (.aWU .str tI (.p1 .str tI (.Z 0)) (aG (.aWS aA tI) 1 (.Z 33))) <|
         .aWT (.cmp .lss .i64) (.aWU tI tI (aG (.aWS aF tI) 1 (.Z 34)) (.ci .i64 0)) <|
         .ite (.Z 35) (
          .ret (.aWU aB tI (aQ aB [(.ci .i64 0),(.nl 88 aJ),(.nl 90 aZ),(.cb false),(.cb false),(.nl 94 aD),(.nl 117 aA),(.nl 3 tI),(.nl 3 tI),(.nl 3 tI),(.nl 3 tI),(.nl 117 aA),(.ci .i64 0),(.cb false)]) (.ci .i64 (-1)))) (
          .aWT .ssub (aQ (.aWS .str aJ) [(.p1 .str tI (.Z 0)),(aG (.aWS .str tI) 1 (.Z 0)),(aG (.aWS aF tI) 1 (.Z 34))]) <|
          .call 3 (aQ aB [(.Z 3),(aG (.aWS tI (.aWS tI bD)) 2 (.Z 15)),(aG (.aWS tI (.aWS tI aK)) 2 (.Z 21)),(.Z 6),(.Z 9),(aG (.aWS tI (.aWS tI (.slice 94 aD))) 2 (.Z 25)),(.p1 aF tI (.Z 29)),(.p1 aA tI (.Z 30)),(.p1 aA tI (.Z 31)),(.p1 aA tI (.Z 32)),(.p1 aA tI (.Z 33)),(.p1 aF tI (.Z 34)),(.Z 11),(.Z 14)]) <|
          .aWT (.seq true) (.aWU .str .str (.Z 37) (.Z 36)) <|
          .ite (.Z 38) (
           .ret (.aWU aB tI (aQ aB [(.ci .i64 0),(.nl 88 aJ),(.nl 90 aZ),(.cb false),(.cb false),(.nl 94 aD),(.nl 117 aA),(.nl 3 tI),(.nl 3 tI),(.nl 3 tI),(.nl 3 tI),(.nl 117 aA),(.ci .i64 0),(.cb false)]) (.ci .i64 (-1)))) (
           .ret (.aWU aB tI (aQ aB [(.Z 3),(aG (.aWS tI (.aWS tI bD)) 2 (.Z 15)),(aG (.aWS tI (.aWS tI aK)) 2 (.Z 21)),(.Z 6),(.Z 9),(aG (.aWS tI (.aWS tI (.slice 94 aD))) 2 (.Z 25)),(.p1 aF tI (.Z 29)),(.p1 aA tI (.Z 30)),(.p1 aA tI (.Z 31)),(.p1 aA tI (.Z 32)),(.p1 aA tI (.Z 33)),(.p1 aF tI (.Z 34)),(.Z 11),(.Z 14)]) (aG (.aWS aF tI) 1 (.Z 34))))))))) (
    .loop (.aWS tI (.aWS tI aK)) (aQ (.aWS tI (.aWS tI aK)) [(.ci .i64 0),(aO (.aWS tI (.aWS tI bD)) 1 (.Z 15)),(.nl 90 aZ)]) <|
     .aWT (.aWX 3 tI) (.aWU aA tI (.p1 aA tI (.Z 1)) (.ci .i64 6)) <|
     .aWT (.aWX 3 tI) (.aWU aA tI (.p1 aA tI (.Z 1)) (.ci .i64 6)) <|
     .aWT (.cmp .lss .i64) (.aWU tI tI (.p1 tI (.aWS tI aK) (.Z 20)) (.Z 22)) <|
     .ite (.Z 23) (
      .aWT (.cmp .lss .i64) (.aWU tI tI (.p1 tI (.aWS tI aK) (.Z 20)) (.ci .i64 8)) <|
      .ite (.Z 24) (
       .aWT (.cmp .geq .i64) (.aWU tI tI (aO (.aWS tI (.aWS tI aK)) 1 (.Z 20)) (.ci .i64 0)) <|
       .ite (.Z 25) (
        .call 0 (aQ (.aWS .str aJ) [(.p1 .str tI (.Z 0)),(aO (.aWS tI (.aWS tI aK)) 1 (.Z 20)),(.ci .i64 3)]) <|
        .call 1 (.aWU .str tI (.p1 .str tI (.Z 0)) (aG (.aWS aA tI) 1 (.Z 26))) <|
        .aWT (.aWX 3 tI) (.aWU aA tI (.p1 aA tI (.Z 26)) (.ci .i64 0)) <|
        .aWT (.aWX 3 tI) (.aWU aA tI (.p1 aA tI (.Z 26)) (.ci .i64 0)) <|
        .aWT (.aWX 3 tI) (.aWU aA tI (.p1 aA tI (.Z 26)) (.ci .i64 1)) <|
        .aWT (.aWX 3 tI) (.aWU aA tI (.p1 aA tI (.Z 26)) (.ci .i64 1)) <|
        .aWT (.aWX 3 tI) (.aWU aA tI (.p1 aA tI (.Z 26)) (.ci .i64 2)) <|
        .aWT (.aWX 3 tI) (.aWU aA tI (.p1 aA tI (.Z 26)) (.ci .i64 2)) <|
        .aWT (.lit 90 aZ 1) (aQ aZ [(.Z 29),(.Z 31),(.Z 33),(.p1 aA tI (.Z 27))]) <|
        .aWT (.aWZ 90 aZ 48) (.aWU aK aK (aG (.aWS tI (.aWS tI aK)) 2 (.Z 20)) (.Z 34)) <|
        .aWT (.ar .add .i64) (.aWU tI tI (.p1 tI (.aWS tI aK) (.Z 20)) (.ci .i64 1)) <|
        .aWV 0 (aQ (.aWS tI (.aWS tI aK)) [(.Z 36),(aG (.aWS aA tI) 1 (.Z 27)),(.Z 35)])) (
        .loop (.aWS tI (.aWS tI (.slice 94 aD))) (aQ (.aWS tI (.aWS tI (.slice 94 aD))) [(.ci .i64 0),(aO (.aWS tI (.aWS tI aK)) 1 (.Z 20)),(.nl 94 aD)]) <|
         .aWT (.aWX 3 tI) (.aWU aA tI (.p1 aA tI (.Z 1)) (.ci .i64 7)) <|
         .aWT (.aWX 3 tI) (.aWU aA tI (.p1 aA tI (.Z 1)) (.ci .i64 7)) <|
         .aWT (.cmp .lss .i64) (.aWU tI tI (.p1 tI (.aWS tI (.slice 94 aD)) (.Z 26)) (.Z 28)) <|
         .ite (.Z 29) (
          .aWT (.cmp .lss .i64) (.aWU tI tI (.p1 tI (.aWS tI (.slice 94 aD)) (.Z 26)) (.ci .i64 5)) <|
          .ite (.Z 30) (
           .aWT (.cmp .geq .i64) (.aWU tI tI (aO (.aWS tI (.aWS tI (.slice 94 aD))) 1 (.Z 26)) (.ci .i64 0)) <|
           .ite (.Z 31) (
            .call 0 (aQ (.aWS .str aJ) [(.p1 .str tI (.Z 0)),(aO (.aWS tI (.aWS tI (.slice 94 aD))) 1 (.Z 26)),(.ci .i64 1)]) <|
            .call 2 (.aWU .str tI (.p1 .str tI (.Z 0)) (aG (.aWS aA tI) 1 (.Z 32))) <|
            .aWT (.aWX 3 tI) (.aWU aA tI (.p1 aA tI (.Z 32)) (.ci .i64 0)) <|
            .aWT (.aWX 3 tI) (.aWU aA tI (.p1 aA tI (.Z 32)) (.ci .i64 0)) <|
            .aWT (.lit 94 aD 1) (.aWU tI aF (.Z 35) (.p1 aF tI (.Z 33))) <|
            .aWT (.aWZ 94 aD 32) (.aWU (.slice 94 aD) (.slice 94 aD) (aG (.aWS tI (.aWS tI (.slice 94 aD))) 2 (.Z 26)) (.Z 36)) <|
            .aWT (.ar .add .i64) (.aWU tI tI (.p1 tI (.aWS tI (.slice 94 aD)) (.Z 26)) (.ci .i64 1)) <|
            .aWV 0 (aQ (.aWS tI (.aWS tI (.slice 94 aD))) [(.Z 38),(aG (.aWS aF tI) 1 (.Z 33)),(.Z 37)])) (
            .call 2 (.aWU .str tI (.p1 .str tI (.Z 0)) (aO (.aWS tI (.aWS tI (.slice 94 aD))) 1 (.Z 26))) <|
            .call 1 (.aWU .str tI (.p1 .str tI (.Z 0)) (aG (.aWS aF tI) 1 (.Z 32))) <|
            .call 1 (.aWU .str tI (.p1 .str tI (.Z 0)) (aG (.aWS aA tI) 1 (.Z 33))) <|
            .call 1 (.aWU .str tI (.p1 .str tI (.Z 0)) (aG (.aWS aA tI) 1 (.Z 34))) <|
            .call 1 (.aWU .str tI (.p1 .str tI (.Z 0)) (aG (.aWS aA tI) 1 (.Z 35))) <|
            .call 2 (.aWU .str tI (.p1 .str tI (.Z 0)) (aG (.aWS aA tI) 1 (.Z 36))) <|
            .aWT (.cmp .lss .i64) (.aWU tI tI (aG (.aWS aF tI) 1 (.Z 37)) (.ci .i64 0)) <|
            .ite (.Z 38) (
             .ret (.aWU aB tI (aQ aB [(.ci .i64 0),(.nl 88 aJ),(.nl 90 aZ),(.cb false),(.cb false),(.nl 94 aD),(.nl 117 aA),(.nl 3 tI),(.nl 3 tI),(.nl 3 tI),(.nl 3 tI),(.nl 117 aA),(.ci .i64 0),(.cb false)]) (.ci .i64 (-1)))) (
             .aWT .ssub (aQ (.aWS .str aJ) [(.p1 .str tI (.Z 0)),(aG (.aWS .str tI) 1 (.Z 0)),(aG (.aWS aF tI) 1 (.Z 37))]) <|
             .call 3 (aQ aB [(.Z 3),(aG (.aWS tI (.aWS tI bD)) 2 (.Z 15)),(aG (.aWS tI (.aWS tI aK)) 2 (.Z 20)),(.Z 6),(.Z 9),(aG (.aWS tI (.aWS tI (.slice 94 aD))) 2 (.Z 26)),(.p1 aF tI (.Z 32)),(.p1 aA tI (.Z 33)),(.p1 aA tI (.Z 34)),(.p1 aA tI (.Z 35)),(.p1 aA tI (.Z 36)),(.p1 aF tI (.Z 37)),(.Z 11),(.Z 14)]) <|
             .aWT (.seq true) (.aWU .str .str (.Z 40) (.Z 39)) <|
             .ite (.Z 41) (
              .ret (.aWU aB tI (aQ aB [(.ci .i64 0),(.nl 88 aJ),(.nl 90 aZ),(.cb false),(.cb false),(.nl 94 aD),(.nl 117 aA),(.nl 3 tI),(.nl 3 tI),(.nl 3 tI),(.nl 3 tI),(.nl 117 aA),(.ci .i64 0),(.cb false)]) (.ci .i64 (-1)))) (
              .ret (.aWU aB tI (aQ aB [(.Z 3),(aG (.aWS tI (.aWS tI bD)) 2 (.Z 15)),(aG (.aWS tI (.aWS tI aK)) 2 (.Z 20)),(.Z 6),(.Z 9),(aG (.aWS tI (.aWS tI (.slice 94 aD))) 2 (.Z 26)),(.p1 aF tI (.Z 32)),(.p1 aA tI (.Z 33)),(.p1 aA tI (.Z 34)),(.p1 aA tI (.Z 35)),(.p1 aA tI (.Z 36)),(.p1 aF tI (.Z 37)),(.Z 11),(.Z 14)]) (aG (.aWS aF tI) 1 (.Z 37))))))) (
           .call 2 (.aWU .str tI (.p1 .str tI (.Z 0)) (aO (.aWS tI (.aWS tI (.slice 94 aD))) 1 (.Z 26))) <|
           .call 1 (.aWU .str tI (.p1 .str tI (.Z 0)) (aG (.aWS aF tI) 1 (.Z 31))) <|
           .call 1 (.aWU .str tI (.p1 .str tI (.Z 0)) (aG (.aWS aA tI) 1 (.Z 32))) <|
           .call 1 (.aWU .str tI (.p1 .str tI (.Z 0)) (aG (.aWS aA tI) 1 (.Z 33))) <|
           .call 1 (.aWU .str tI (.p1 .str tI (.Z 0)) (aG (.aWS aA tI) 1 (.Z 34))) <|
           .call 2 (.aWU .str tI (.p1 .str tI (.Z 0)) (aG (.aWS aA tI) 1 (.Z 35))) <|
           .aWT (.cmp .lss .i64) (.aWU tI tI (aG (.aWS aF tI) 1 (.Z 36)) (.ci .i64 0)) <|
           .ite (.Z 37) (
            .ret (.aWU aB tI (aQ aB [(.ci .i64 0),(.nl 88 aJ),(.nl 90 aZ),(.cb false),(.cb false),(.nl 94 aD),(.nl 117 aA),(.nl 3 tI),(.nl 3 tI),(.nl 3 tI),(.nl 3 tI),(.nl 117 aA),(.ci .i64 0),(.cb false)]) (.ci .i64 (-1)))) (
            .aWT .ssub (aQ (.aWS .str aJ) [(.p1 .str tI (.Z 0)),(aG (.aWS .str tI) 1 (.Z 0)),(aG (.aWS aF tI) 1 (.Z 36))]) <|
            .call 3 (aQ aB [(.Z 3),(aG (.aWS tI (.aWS tI bD)) 2 (.Z 15)),(aG (.aWS tI (.aWS tI aK)) 2 (.Z 20)),(.Z 6),(.Z 9),(aG (.aWS tI (.aWS tI (.slice 94 aD))) 2 (.Z 26)),(.p1 aF tI (.Z 31)),(.p1 aA tI (.Z 32)),(.p1 aA tI (.Z 33)),(.p1 aA tI (.Z 34)),(.p1 aA tI (.Z 35)),(.p1 aF tI (.Z 36)),(.Z 11),(.Z 14)]) <|
            .aWT (.seq true) (.aWU .str .str (.Z 39) (.Z 38)) <|
            .ite (.Z 40) (
             .ret (.aWU aB tI (aQ aB [(.ci .i64 0),(.nl 88 aJ),(.nl 90 aZ),(.cb false),(.cb false),(.nl 94 aD),(.nl 117 aA),(.nl 3 tI),(.nl 3 tI),(.nl 3 tI),(.nl 3 tI),(.nl 117 aA),(.ci .i64 0),(.cb false)]) (.ci .i64 (-1)))) (
             .ret (.aWU aB tI (aQ aB [(.Z 3),(aG (.aWS tI (.aWS tI bD)) 2 (.Z 15)),(aG (.aWS tI (.aWS tI aK)) 2 (.Z 20)),(.Z 6),(.Z 9),(aG (.aWS tI (.aWS tI (.slice 94 aD))) 2 (.Z 26)),(.p1 aF tI (.Z 31)),(.p1 aA tI (.Z 32)),(.p1 aA tI (.Z 33)),(.p1 aA tI (.Z 34)),(.p1 aA tI (.Z 35)),(.p1 aF tI (.Z 36)),(.Z 11),(.Z 14)]) (aG (.aWS aF tI) 1 (.Z 36))))))) (
          .call 2 (.aWU .str tI (.p1 .str tI (.Z 0)) (aO (.aWS tI (.aWS tI (.slice 94 aD))) 1 (.Z 26))) <|
          .call 1 (.aWU .str tI (.p1 .str tI (.Z 0)) (aG (.aWS aF tI) 1 (.Z 30))) <|
          .call 1 (.aWU .str tI (.p1 .str tI (.Z 0)) (aG (.aWS aA tI) 1 (.Z 31))) <|
          .call 1 (.aWU .str tI (.p1 .str tI (.Z 0)) (aG (.aWS aA tI) 1 (.Z 32))) <|
          .call 1 (.aWU .str tI (.p1 .str tI (.Z 0)) (aG (.aWS aA tI) 1 (.Z 33))) <|
          .call 2 (.aWU .str tI (.p1 .str tI (.Z 0)) (aG (.aWS aA tI) 1 (.Z 34))) <|
          .aWT (.cmp .lss .i64) (.aWU tI tI (aG (.aWS aF tI) 1 (.Z 35)) (.ci .i64 0)) <|
          .ite (.Z 36) (
           .ret (.aWU aB tI (aQ aB [(.ci .i64 0),(.nl 88 aJ),(.nl 90 aZ),(.cb false),(.cb false),(.nl 94 aD),(.nl 117 aA),(.nl 3 tI),(.nl 3 tI),(.nl 3 tI),(.nl 3 tI),(.nl 117 aA),(.ci .i64 0),(.cb false)]) (.ci .i64 (-1)))) (
           .aWT .ssub (aQ (.aWS .str aJ) [(.p1 .str tI (.Z 0)),(aG (.aWS .str tI) 1 (.Z 0)),(aG (.aWS aF tI) 1 (.Z 35))]) <|
           .call 3 (aQ aB [(.Z 3),(aG (.aWS tI (.aWS tI bD)) 2 (.Z 15)),(aG (.aWS tI (.aWS tI aK)) 2 (.Z 20)),(.Z 6),(.Z 9),(aG (.aWS tI (.aWS tI (.slice 94 aD))) 2 (.Z 26)),(.p1 aF tI (.Z 30)),(.p1 aA tI (.Z 31)),(.p1 aA tI (.Z 32)),(.p1 aA tI (.Z 33)),(.p1 aA tI (.Z 34)),(.p1 aF tI (.Z 35)),(.Z 11),(.Z 14)]) <|
           .aWT (.seq true) (.aWU .str .str (.Z 38) (.Z 37)) <|
           .ite (.Z 39) (
            .ret (.aWU aB tI (aQ aB [(.ci .i64 0),(.nl 88 aJ),(.nl 90 aZ),(.cb false),(.cb false),(.nl 94 aD),(.nl 117 aA),(.nl 3 tI),(.nl 3 tI),(.nl 3 tI),(.nl 3 tI),(.nl 117 aA),(.ci .i64 0),(.cb false)]) (.ci .i64 (-1)))) (
            .ret (.aWU aB tI (aQ aB [(.Z 3),(aG (.aWS tI (.aWS tI bD)) 2 (.Z 15)),(aG (.aWS tI (.aWS tI aK)) 2 (.Z 20)),(.Z 6),(.Z 9),(aG (.aWS tI (.aWS tI (.slice 94 aD))) 2 (.Z 26)),(.p1 aF tI (.Z 30)),(.p1 aA tI (.Z 31)),(.p1 aA tI (.Z 32)),(.p1 aA tI (.Z 33)),(.p1 aA tI (.Z 34)),(.p1 aF tI (.Z 35)),(.Z 11),(.Z 14)]) (aG (.aWS aF tI) 1 (.Z 35)))))))) (
       .loop (.aWS tI (.aWS tI (.slice 94 aD))) (aQ (.aWS tI (.aWS tI (.slice 94 aD))) [(.ci .i64 0),(aO (.aWS tI (.aWS tI aK)) 1 (.Z 20)),(.nl 94 aD)]) <|
        .aWT (.aWX 3 tI) (.aWU aA tI (.p1 aA tI (.Z 1)) (.ci .i64 7)) <|
        .aWT (.aWX 3 tI) (.aWU aA tI (.p1 aA tI (.Z 1)) (.ci .i64 7)) <|
        .aWT (.cmp .lss .i64) (.aWU tI tI (.p1 tI (.aWS tI (.slice 94 aD)) (.Z 25)) (.Z 27)) <|
        .ite (.Z 28) (
         .aWT (.cmp .lss .i64) (.aWU tI tI (.p1 tI (.aWS tI (.slice 94 aD)) (.Z 25)) (.ci .i64 5)) <|
         .ite (.Z 29) (
          .aWT (.cmp .geq .i64) (.aWU tI tI (aO (.aWS tI (.aWS tI (.slice 94 aD))) 1 (.Z 25)) (.ci .i64 0)) <|
          .ite (.Z 30) (
           .call 0 (aQ (.aWS .str aJ) [(.p1 .str tI (.Z 0)),(aO (.aWS tI (.aWS tI (.slice 94 aD))) 1 (.Z 25)),(.ci .i64 1)]) <|
           .call 2 (.aWU .str tI (.p1 .str tI (.Z 0)) (aG (.aWS aA tI) 1 (.Z 31))) <|
           .aWT (.aWX 3 tI) (.aWU aA tI (.p1 aA tI (.Z 31)) (.ci .i64 0)) <|
           .aWT (.aWX 3 tI) (.aWU aA tI (.p1 aA tI (.Z 31)) (.ci .i64 0)) <|
           .aWT (.lit 94 aD 1) (.aWU tI aF (.Z 34) (.p1 aF tI (.Z 32))) <|
           .aWT (.aWZ 94 aD 32) (.aWU (.slice 94 aD) (.slice 94 aD) (aG (.aWS tI (.aWS tI (.slice 94 aD))) 2 (.Z 25)) (.Z 35)) <|
           .aWT (.ar .add .i64) (.aWU tI tI (.p1 tI (.aWS tI (.slice 94 aD)) (.Z 25)) (.ci .i64 1)) <|
           .aWV 0 (aQ (.aWS tI (.aWS tI (.slice 94 aD))) [(.Z 37),(aG (.aWS aF tI) 1 (.Z 32)),(.Z 36)])) (
           .call 2 (.aWU .str tI (.p1 .str tI (.Z 0)) (aO (.aWS tI (.aWS tI (.slice 94 aD))) 1 (.Z 25))) <|
           .call 1 (.aWU .str tI (.p1 .str tI (.Z 0)) (aG (.aWS aF tI) 1 (.Z 31))) <|
           .call 1 (.aWU .str tI (.p1 .str tI (.Z 0)) (aG (.aWS aA tI) 1 (.Z 32))) <|
           .call 1 (.aWU .str tI (.p1 .str tI (.Z 0)) (aG (.aWS aA tI) 1 (.Z 33))) <|
           .call 1 (.aWU .str tI (.p1 .str tI (.Z 0)) (aG (.aWS aA tI) 1 (.Z 34))) <|
           .call 2 (.aWU .str tI (.p1 .str tI (.Z 0)) (aG (.aWS aA tI) 1 (.Z 35))) <|
           .aWT (.cmp .lss .i64) (.aWU tI tI (aG (.aWS aF tI) 1 (.Z 36)) (.ci .i64 0)) <|
           .ite (.Z 37) (
            .ret (.aWU aB tI (aQ aB [(.ci .i64 0),(.nl 88 aJ),(.nl 90 aZ),(.cb false),(.cb false),(.nl 94 aD),(.nl 117 aA),(.nl 3 tI),(.nl 3 tI),(.nl 3 tI),(.nl 3 tI),(.nl 117 aA),(.ci .i64 0),(.cb false)]) (.ci .i64 (-1)))) (
            .aWT .ssub (aQ (.aWS .str aJ) [(.p1 .str tI (.Z 0)),(aG (.aWS .str tI) 1 (.Z 0)),(aG (.aWS aF tI) 1 (.Z 36))]) <|
            .call 3 (aQ aB [(.Z 3),(aG (.aWS tI (.aWS tI bD)) 2 (.Z 15)),(aG (.aWS tI (.aWS tI aK)) 2 (.Z 20)),(.Z 6),(.Z 9),(aG (.aWS tI (.aWS tI (.slice 94 aD))) 2 (.Z 25)),(.p1 aF tI (.Z 31)),(.p1 aA tI (.Z 32)),(.p1 aA tI (.Z 33)),(.p1 aA tI (.Z 34)),(.p1 aA tI (.Z 35)),(.p1 aF tI (.Z 36)),(.Z 11),(.Z 14)]) <|
            .aWT (.seq true) (.aWU .str .str (.Z 39) (.Z 38)) <|
            .ite (.Z 40) (
             .ret (.aWU aB tI (aQ aB [(.ci .i64 0),(.nl 88 aJ),(.nl 90 aZ),(.cb false),(.cb false),(.nl 94 aD),(.nl 117 aA),(.nl 3 tI),(.nl 3 tI),(.nl 3 tI),(.nl 3 tI),(.nl 117 aA),(.ci .i64 0),(.cb false)]) (.ci .i64 (-1)))) (
             .ret (.aWU aB tI (aQ aB [(.Z 3),(aG (.aWS tI (.aWS tI bD)) 2 (.Z 15)),(aG (.aWS tI (.aWS tI aK)) 2 (.Z 20)),(.Z 6),(.Z 9),(aG (.aWS tI (.aWS tI (.slice 94 aD))) 2 (.Z 25)),(.p1 aF tI (.Z 31)),(.p1 aA tI (.Z 32)),(.p1 aA tI (.Z 33)),(.p1 aA tI (.Z 34)),(.p1 aA tI (.Z 35)),(.p1 aF tI (.Z 36)),(.Z 11),(.Z 14)]) (aG (.aWS aF tI) 1 (.Z 36))))))) (
          .call 2 (.aWU .str tI (.p1 .str tI (.Z 0)) (aO (.aWS tI (.aWS tI (.slice 94 aD))) 1 (.Z 25))) <|
          .call 1 (.aWU .str tI (.p1 .str tI (.Z 0)) (aG (.aWS aF tI) 1 (.Z 30))) <|
          .call 1 (.aWU .str tI (.p1 .str tI (.Z 0)) (aG (.aWS aA tI) 1 (.Z 31))) <|
          .call 1 (.aWU .str tI (.p1 .str tI (.Z 0)) (aG (.aWS aA tI) 1 (.Z 32))) <|
          .call 1 (.aWU .str tI (.p1 .str tI (.Z 0)) (aG (.aWS aA tI) 1 (.Z 33))) <|
          .call 2 (.aWU .str tI (.p1 .str tI (.Z 0)) (aG (.aWS aA tI) 1 (.Z 34))) <|
          .aWT (.cmp .lss .i64) (.aWU tI tI (aG (.aWS aF tI) 1 (.Z 35)) (.ci .i64 0)) <|
          .ite (.Z 36) (
           .ret (.aWU aB tI (aQ aB [(.ci .i64 0),(.nl 88 aJ),(.nl 90 aZ),(.cb false),(.cb false),(.nl 94 aD),(.nl 117 aA),(.nl 3 tI),(.nl 3 tI),(.nl 3 tI),(.nl 3 tI),(.nl 117 aA),(.ci .i64 0),(.cb false)]) (.ci .i64 (-1)))) (
           .aWT .ssub (aQ (.aWS .str aJ) [(.p1 .str tI (.Z 0)),(aG (.aWS .str tI) 1 (.Z 0)),(aG (.aWS aF tI) 1 (.Z 35))]) <|
           .call 3 (aQ aB [(.Z 3),(aG (.aWS tI (.aWS tI bD)) 2 (.Z 15)),(aG (.aWS tI (.aWS tI aK)) 2 (.Z 20)),(.Z 6),(.Z 9),(aG (.aWS tI (.aWS tI (.slice 94 aD))) 2 (.Z 25)),(.p1 aF tI (.Z 30)),(.p1 aA tI (.Z 31)),(.p1 aA tI (.Z 32)),(.p1 aA tI (.Z 33)),(.p1 aA tI (.Z 34)),(.p1 aF tI (.Z 35)),(.Z 11),(.Z 14)]) <|
           .aWT (.seq true) (.aWU .str .str (.Z 38) (.Z 37)) <|
           .ite (.Z 39) (
            .ret (.aWU aB tI (aQ aB [(.ci .i64 0),(.nl 88 aJ),(.nl 90 aZ),(.cb false),(.cb false),(.nl 94 aD),(.nl 117 aA),(.nl 3 tI),(.nl 3 tI),(.nl 3 tI),(.nl 3 tI),(.nl 117 aA),(.ci .i64 0),(.cb false)]) (.ci .i64 (-1)))) (
            .ret (.aWU aB tI (aQ aB [(.Z 3),(aG (.aWS tI (.aWS tI bD)) 2 (.Z 15)),(aG (.aWS tI (.aWS tI aK)) 2 (.Z 20)),(.Z 6),(.Z 9),(aG (.aWS tI (.aWS tI (.slice 94 aD))) 2 (.Z 25)),(.p1 aF tI (.Z 30)),(.p1 aA tI (.Z 31)),(.p1 aA tI (.Z 32)),(.p1 aA tI (.Z 33)),(.p1 aA tI (.Z 34)),(.p1 aF tI (.Z 35)),(.Z 11),(.Z 14)]) (aG (.aWS aF tI) 1 (.Z 35))))))) (
         .call 2 (.aWU .str tI (.p1 .str tI (.Z 0)) (aO (.aWS tI (.aWS tI (.slice 94 aD))) 1 (.Z 25))) <|
         .call 1 (.aWU .str tI (.p1 .str tI (.Z 0)) (aG (.aWS aF tI) 1 (.Z 29))) <|
         .call 1 (.aWU .str tI (.p1 .str tI (.Z 0)) (aG (.aWS aA tI) 1 (.Z 30))) <|
         .call 1 (.aWU .str tI (.p1 .str tI (.Z 0)) (aG (.aWS aA tI) 1 (.Z 31))) <|
         .call 1 (.aWU .str tI (.p1 .str tI (.Z 0)) (aG (.aWS aA tI) 1 (.Z 32))) <|
         .call 2 (.aWU .str tI (.p1 .str tI (.Z 0)) (aG (.aWS aA tI) 1 (.Z 33))) <|
         .aWT (.cmp .lss .i64) (.aWU tI tI (aG (.aWS aF tI) 1 (.Z 34)) (.ci .i64 0)) <|
         .ite (.Z 35) (
          .ret (.aWU aB tI (aQ aB [(.ci .i64 0),(.nl 88 aJ),(.nl 90 aZ),(.cb false),(.cb false),(.nl 94 aD),(.nl 117 aA),(.nl 3 tI),(.nl 3 tI),(.nl 3 tI),(.nl 3 tI),(.nl 117 aA),(.ci .i64 0),(.cb false)]) (.ci .i64 (-1)))) (
          .aWT .ssub (aQ (.aWS .str aJ) [(.p1 .str tI (.Z 0)),(aG (.aWS .str tI) 1 (.Z 0)),(aG (.aWS aF tI) 1 (.Z 34))]) <|
          .call 3 (aQ aB [(.Z 3),(aG (.aWS tI (.aWS tI bD)) 2 (.Z 15)),(aG (.aWS tI (.aWS tI aK)) 2 (.Z 20)),(.Z 6),(.Z 9),(aG (.aWS tI (.aWS tI (.slice 94 aD))) 2 (.Z 25)),(.p1 aF tI (.Z 29)),(.p1 aA tI (.Z 30)),(.p1 aA tI (.Z 31)),(.p1 aA tI (.Z 32)),(.p1 aA tI (.Z 33)),(.p1 aF tI (.Z 34)),(.Z 11),(.Z 14)]) <|
          .aWT (.seq true) (.aWU .str .str (.Z 37) (.Z 36)) <|
          .ite (.Z 38) (
           .ret (.aWU aB tI (aQ aB [(.ci .i64 0),(.nl 88 aJ),(.nl 90 aZ),(.cb false),(.cb false),(.nl 94 aD),(.nl 117 aA),(.nl 3 tI),(.nl 3 tI),(.nl 3 tI),(.nl 3 tI),(.nl 117 aA),(.ci .i64 0),(.cb false)]) (.ci .i64 (-1)))) (
           .ret (.aWU aB tI (aQ aB [(.Z 3),(aG (.aWS tI (.aWS tI bD)) 2 (.Z 15)),(aG (.aWS tI (.aWS tI aK)) 2 (.Z 20)),(.Z 6),(.Z 9),(aG (.aWS tI (.aWS tI (.slice 94 aD))) 2 (.Z 25)),(.p1 aF tI (.Z 29)),(.p1 aA tI (.Z 30)),(.p1 aA tI (.Z 31)),(.p1 aA tI (.Z 32)),(.p1 aA tI (.Z 33)),(.p1 aF tI (.Z 34)),(.Z 11),(.Z 14)]) (aG (.aWS aF tI) 1 (.Z 34)))))))) (
      .loop (.aWS tI (.aWS tI (.slice 94 aD))) (aQ (.aWS tI (.aWS tI (.slice 94 aD))) [(.ci .i64 0),(aO (.aWS tI (.aWS tI aK)) 1 (.Z 20)),(.nl 94 aD)]) <|
       .aWT (.aWX 3 tI) (.aWU aA tI (.p1 aA tI (.Z 1)) (.ci .i64 7)) <|
       .aWT (.aWX 3 tI) (.aWU aA tI (.p1 aA tI (.Z 1)) (.ci .i64 7)) <|
       .aWT (.cmp .lss .i64) (.aWU tI tI (.p1 tI (.aWS tI (.slice 94 aD)) (.Z 24)) (.Z 26)) <|
       .ite (.Z 27) (
        .aWT (.cmp .lss .i64) (.aWU tI tI (.p1 tI (.aWS tI (.slice 94 aD)) (.Z 24)) (.ci .i64 5)) <|
        .ite (.Z 28) (
         .aWT (.cmp .geq .i64) (.aWU tI tI (aO (.aWS tI (.aWS tI (.slice 94 aD))) 1 (.Z 24)) (.ci .i64 0)) <|
         .ite (.Z 29) (
          .call 0 (aQ (.aWS .str aJ) [(.p1 .str tI (.Z 0)),(aO (.aWS tI (.aWS tI (.slice 94 aD))) 1 (.Z 24)),(.ci .i64 1)]) <|
          .call 2 (.aWU .str tI (.p1 .str tI (.Z 0)) (aG (.aWS aA tI) 1 (.Z 30))) <|
          .aWT (.aWX 3 tI) (.aWU aA tI (.p1 aA tI (.Z 30)) (.ci .i64 0)) <|
          .aWT (.aWX 3 tI) (.aWU aA tI (.p1 aA tI (.Z 30)) (.ci .i64 0)) <|
          .aWT (.lit 94 aD 1) (.aWU tI aF (.Z 33) (.p1 aF tI (.Z 31))) <|
          .aWT (.aWZ 94 aD 32) (.aWU (.slice 94 aD) (.slice 94 aD) (aG (.aWS tI (.aWS tI (.slice 94 aD))) 2 (.Z 24)) (.Z 34)) <|
          .aWT (.ar .add .i64) (.aWU tI tI (.p1 tI (.aWS tI (.slice 94 aD)) (.Z 24)) (.ci .i64 1)) <|
          .aWV 0 (aQ (.aWS tI (.aWS tI (.slice 94 aD))) [(.Z 36),(aG (.aWS aF tI) 1 (.Z 31)),(.Z 35)])) (
          .call 2 (.aWU .str tI (.p1 .str tI (.Z 0)) (aO (.aWS tI (.aWS tI (.slice 94 aD))) 1 (.Z 24))) <|
          .call 1 (.aWU .str tI (.p1 .str tI (.Z 0)) (aG (.aWS aF tI) 1 (.Z 30))) <|
          .call 1 (.aWU .str tI (.p1 .str tI (.Z 0)) (aG (.aWS aA tI) 1 (.Z 31))) <|
          .call 1 (.aWU .str tI (.p1 .str tI (.Z 0)) (aG (.aWS aA tI) 1 (.Z 32))) <|
          .call 1 (.aWU .str tI (.p1 .str tI (.Z 0)) (aG (.aWS aA tI) 1 (.Z 33))) <|
          .call 2 (.aWU .str tI (.p1 .str tI (.Z 0)) (aG (.aWS aA tI) 1 (.Z 34))) <|
          .aWT (.cmp .lss .i64) (.aWU tI tI (aG (.aWS aF tI) 1 (.Z 35)) (.ci .i64 0)) <|
          .ite (.Z 36) (
           .ret (.aWU aB tI (aQ aB [(.ci .i64 0),(.nl 88 aJ),(.nl 90 aZ),(.cb false),(.cb false),(.nl 94 aD),(.nl 117 aA),(.nl 3 tI),(.nl 3 tI),(.nl 3 tI),(.nl 3 tI),(.nl 117 aA),(.ci .i64 0),(.cb false)]) (.ci .i64 (-1)))) (
           .aWT .ssub (aQ (.aWS .str aJ) [(.p1 .str tI (.Z 0)),(aG (.aWS .str tI) 1 (.Z 0)),(aG (.aWS aF tI) 1 (.Z 35))]) <|
           .call 3 (aQ aB [(.Z 3),(aG (.aWS tI (.aWS tI bD)) 2 (.Z 15)),(aG (.aWS tI (.aWS tI aK)) 2 (.Z 20)),(.Z 6),(.Z 9),(aG (.aWS tI (.aWS tI (.slice 94 aD))) 2 (.Z 24)),(.p1 aF tI (.Z 30)),(.p1 aA tI (.Z 31)),(.p1 aA tI (.Z 32)),(.p1 aA tI (.Z 33)),(.p1 aA tI (.Z 34)),(.p1 aF tI (.Z 35)),(.Z 11),(.Z 14)]) <|
           .aWT (.seq true) (.aWU .str .str (.Z 38) (.Z 37)) <|
           .ite (.Z 39) (
            .ret (.aWU aB tI (aQ aB [(.ci .i64 0),(.nl 88 aJ),(.nl 90 aZ),(.cb false),(.cb false),(.nl 94 aD),(.nl 117 aA),(.nl 3 tI),(.nl 3 tI),(.nl 3 tI),(.nl 3 tI),(.nl 117 aA),(.ci .i64 0),(.cb false)]) (.ci .i64 (-1)))) (
            .ret (.aWU aB tI (aQ aB [(.Z 3),(aG (.aWS tI (.aWS tI bD)) 2 (.Z 15)),(aG (.aWS tI (.aWS tI aK)) 2 (.Z 20)),(.Z 6),(.Z 9),(aG (.aWS tI (.aWS tI (.slice 94 aD))) 2 (.Z 24)),(.p1 aF tI (.Z 30)),(.p1 aA tI (.Z 31)),(.p1 aA tI (.Z 32)),(.p1 aA tI (.Z 33)),(.p1 aA tI (.Z 34)),(.p1 aF tI (.Z 35)),(.Z 11),(.Z 14)]) (aG (.aWS aF tI) 1 (.Z 35))))))) (
         .call 2 (.aWU .str tI (.p1 .str tI (.Z 0)) (aO (.aWS tI (.aWS tI (.slice 94 aD))) 1 (.Z 24))) <|
         .call 1 (.aWU .str tI (.p1 .str tI (.Z 0)) (aG (.aWS aF tI) 1 (.Z 29))) <|
         .call 1 (.aWU .str tI (.p1 .str tI (.Z 0)) (aG (.aWS aA tI) 1 (.Z 30))) <|
         .call 1 (.aWU .str tI (.p1 .str tI (.Z 0)) (aG (.aWS aA tI) 1 (.Z 31))) <|
         .call 1 (.aWU .str tI (.p1 .str tI (.Z 0)) (aG (.aWS aA tI) 1 (.Z 32))) <|
         .call 2 (.aWU .str tI (.p1 .str tI (.Z 0)) (aG (.aWS aA tI) 1 (.Z 33))) <|
         .aWT (.cmp .lss .i64) (.aWU tI tI (aG (.aWS aF tI) 1 (.Z 34)) (.ci .i64 0)) <|
         .ite (.Z 35) (
          .ret (.aWU aB tI (aQ aB [(.ci .i64 0),(.nl 88 aJ),(.nl 90 aZ),(.cb false),(.cb false),(.nl 94 aD),(.nl 117 aA),(.nl 3 tI),(.nl 3 tI),(.nl 3 tI),(.nl 3 tI),(.nl 117 aA),(.ci .i64 0),(.cb false)]) (.ci .i64 (-1)))) (
          .aWT .ssub (aQ (.aWS .str aJ) [(.p1 .str tI (.Z 0)),(aG (.aWS .str tI) 1 (.Z 0)),(aG (.aWS aF tI) 1 (.Z 34))]) <|
          .call 3 (aQ aB [(.Z 3),(aG (.aWS tI (.aWS tI bD)) 2 (.Z 15)),(aG (.aWS tI (.aWS tI aK)) 2 (.Z 20)),(.Z 6),(.Z 9),(aG (.aWS tI (.aWS tI (.slice 94 aD))) 2 (.Z 24)),(.p1 aF tI (.Z 29)),(.p1 aA tI (.Z 30)),(.p1 aA tI (.Z 31)),(.p1 aA tI (.Z 32)),(.p1 aA tI (.Z 33)),(.p1 aF tI (.Z 34)),(.Z 11),(.Z 14)]) <|
          .aWT (.seq true) (.aWU .str .str (.Z 37) (.Z 36)) <|
          .ite (.Z 38) (
           .ret (.aWU aB tI (aQ aB [(.ci .i64 0),(.nl 88 aJ),(.nl 90 aZ),(.cb false),(.cb false),(.nl 94 aD),(.nl 117 aA),(.nl 3 tI),(.nl 3 tI),(.nl 3 tI),(.nl 3 tI),(.nl 117 aA),(.ci .i64 0),(.cb false)]) (.ci .i64 (-1)))) (
           .ret (.aWU aB tI (aQ aB [(.Z 3),(aG (.aWS tI (.aWS tI bD)) 2 (.Z 15)),(aG (.aWS tI (.aWS tI aK)) 2 (.Z 20)),(.Z 6),(.Z 9),(aG (.aWS tI (.aWS tI (.slice 94 aD))) 2 (.Z 24)),(.p1 aF tI (.Z 29)),(.p1 aA tI (.Z 30)),(.p1 aA tI (.Z 31)),(.p1 aA tI (.Z 32)),(.p1 aA tI (.Z 33)),(.p1 aF tI (.Z 34)),(.Z 11),(.Z 14)]) (aG (.aWS aF tI) 1 (.Z 34))))))) (
        .call 2 (.aWU .str tI (.p1 .str tI (.Z 0)) (aO (.aWS tI (.aWS tI (.slice 94 aD))) 1 (.Z 24))) <|
        .call 1 (.aWU .str tI (.p1 .str tI (.Z 0)) (aG (.aWS aF tI) 1 (.Z 28))) <|
        .call 1 (.aWU .str tI (.p1 .str tI (.Z 0)) (aG (.aWS aA tI) 1 (.Z 29))) <|
        .call 1 (.aWU .str tI (.p1 .str tI (.Z 0)) (aG (.aWS aA tI) 1 (.Z 30))) <|
        .call 1 (.aWU .str tI (.p1 .str tI (.Z 0)) (aG (.aWS aA tI) 1 (.Z 31))) <|
        .call 2 (.aWU .str tI (.p1 .str tI (.Z 0)) (aG (.aWS aA tI) 1 (.Z 32))) <|
        .aWT (.cmp .lss .i64) (.aWU tI tI (aG (.aWS aF tI) 1 (.Z 33)) (.ci .i64 0)) <|
        .ite (.Z 34) (
         .ret (.aWU aB tI (aQ aB [(.ci .i64 0),(.nl 88 aJ),(.nl 90 aZ),(.cb false),(.cb false),(.nl 94 aD),(.nl 117 aA),(.nl 3 tI),(.nl 3 tI),(.nl 3 tI),(.nl 3 tI),(.nl 117 aA),(.ci .i64 0),(.cb false)]) (.ci .i64 (-1)))) (
         .aWT .ssub (aQ (.aWS .str aJ) [(.p1 .str tI (.Z 0)),(aG (.aWS .str tI) 1 (.Z 0)),(aG (.aWS aF tI) 1 (.Z 33))]) <|
         .call 3 (aQ aB [(.Z 3),(aG (.aWS tI (.aWS tI bD)) 2 (.Z 15)),(aG (.aWS tI (.aWS tI aK)) 2 (.Z 20)),(.Z 6),(.Z 9),(aG (.aWS tI (.aWS tI (.slice 94 aD))) 2 (.Z 24)),(.p1 aF tI (.Z 28)),(.p1 aA tI (.Z 29)),(.p1 aA tI (.Z 30)),(.p1 aA tI (.Z 31)),(.p1 aA tI (.Z 32)),(.p1 aF tI (.Z 33)),(.Z 11),(.Z 14)]) <|
         .aWT (.seq true) (.aWU .str .str (.Z 36) (.Z 35)) <|
         .ite (.Z 37) (
          .ret (.aWU aB tI (aQ aB [(.ci .i64 0),(.nl 88 aJ),(.nl 90 aZ),(.cb false),(.cb false),(.nl 94 aD),(.nl 117 aA),(.nl 3 tI),(.nl 3 tI),(.nl 3 tI),(.nl 3 tI),(.nl 117 aA),(.ci .i64 0),(.cb false)]) (.ci .i64 (-1)))) (
          .ret (.aWU aB tI (aQ aB [(.Z 3),(aG (.aWS tI (.aWS tI bD)) 2 (.Z 15)),(aG (.aWS tI (.aWS tI aK)) 2 (.Z 20)),(.Z 6),(.Z 9),(aG (.aWS tI (.aWS tI (.slice 94 aD))) 2 (.Z 24)),(.p1 aF tI (.Z 28)),(.p1 aA tI (.Z 29)),(.p1 aA tI (.Z 30)),(.p1 aA tI (.Z 31)),(.p1 aA tI (.Z 32)),(.p1 aF tI (.Z 33)),(.Z 11),(.Z 14)]) (aG (.aWS aF tI) 1 (.Z 33))))))))) (
   .loop (.aWS tI (.aWS tI aK)) (aQ (.aWS tI (.aWS tI aK)) [(.ci .i64 0),(aO (.aWS tI (.aWS tI bD)) 1 (.Z 15)),(.nl 90 aZ)]) <|
    .aWT (.aWX 3 tI) (.aWU aA tI (.p1 aA tI (.Z 1)) (.ci .i64 6)) <|
    .aWT (.aWX 3 tI) (.aWU aA tI (.p1 aA tI (.Z 1)) (.ci .i64 6)) <|
    .aWT (.cmp .lss .i64) (.aWU tI tI (.p1 tI (.aWS tI aK) (.Z 19)) (.Z 21)) <|
    .ite (.Z 22) (
     .aWT (.cmp .lss .i64) (.aWU tI tI (.p1 tI (.aWS tI aK) (.Z 19)) (.ci .i64 8)) <|
     .ite (.Z 23) (
      .aWT (.cmp .geq .i64) (.aWU tI tI (aO (.aWS tI (.aWS tI aK)) 1 (.Z 19)) (.ci .i64 0)) <|
      .ite (.Z 24) (
       .call 0 (aQ (.aWS .str aJ) [(.p1 .str tI (.Z 0)),(aO (.aWS tI (.aWS tI aK)) 1 (.Z 19)),(.ci .i64 3)]) <|
       .call 1 (.aWU .str tI (.p1 .str tI (.Z 0)) (aG (.aWS aA tI) 1 (.Z 25))) <|
       .aWT (.aWX 3 tI) (.aWU aA tI (.p1 aA tI (.Z 25)) (.ci .i64 0)) <|
       .aWT (.aWX 3 tI) (.aWU aA tI (.p1 aA tI (.Z 25)) (.ci .i64 0)) <|
       .aWT (.aWX 3 tI) (.aWU aA tI (.p1 aA tI (.Z 25)) (.ci .i64 1)) <|
       .aWT (.aWX 3 tI) (.aWU aA tI (.p1 aA tI (.Z 25)) (.ci .i64 1)) <|
       .aWT (.aWX 3 tI) (.aWU aA tI (.p1 aA tI (.Z 25)) (.ci .i64 2)) <|
       .aWT (.aWX 3 tI) (.aWU aA tI (.p1 aA tI (.Z 25)) (.ci .i64 2)) <|
       .aWT (.lit 90 aZ 1) (aQ aZ [(.Z 28),(.Z 30),(.Z 32),(.p1 aA tI (.Z 26))]) <|
       .aWT (.aWZ 90 aZ 48) (.aWU aK aK (aG (.aWS tI (.aWS tI aK)) 2 (.Z 19)) (.Z 33)) <|
       .aWT (.ar .add .i64) (.aWU tI tI (.p1 tI (.aWS tI aK) (.Z 19)) (.ci .i64 1)) <|
       .aWV 0 (aQ (.aWS tI (.aWS tI aK)) [(.Z 35),(aG (.aWS aA tI) 1 (.Z 26)),(.Z 34)])) (
       .loop (.aWS tI (.aWS tI (.slice 94 aD))) (aQ (.aWS tI (.aWS tI (.slice 94 aD))) [(.ci .i64 0),(aO (.aWS tI (.aWS tI aK)) 1 (.Z 19)),(.nl 94 aD)]) <|
        .aWT (.aWX 3 tI) (.aWU aA tI (.p1 aA tI (.Z 1)) (.ci .i64 7)) <|
        .aWT (.aWX 3 tI) (.aWU aA tI (.p1 aA tI (.Z 1)) (.ci .i64 7)) <|
        .aWT (.cmp .lss .i64) (.aWU tI tI (.p1 tI (.aWS tI (.slice 94 aD)) (.Z 25)) (.Z 27)) <|
        .ite (.Z 28) (
         .aWT (.cmp .lss .i64) (.aWU tI tI (.p1 tI (.aWS tI (.slice 94 aD)) (.Z 25)) (.ci .i64 5)) <|
         .ite (.Z 29) (
          .aWT (.cmp .geq .i64) (.aWU tI tI (aO (.aWS tI (.aWS tI (.slice 94 aD))) 1 (.Z 25)) (.ci .i64 0)) <|
          .ite (.Z 30) (
           .call 0 (aQ (.aWS .str aJ) [(.p1 .str tI (.Z 0)),(aO (.aWS tI (.aWS tI (.slice 94 aD))) 1 (.Z 25)),(.ci .i64 1)]) <|
           .call 2 (.aWU .str tI (.p1 .str tI (.Z 0)) (aG (.aWS aA tI) 1 (.Z 31))) <|
           .aWT (.aWX 3 tI) (.aWU aA tI (.p1 aA tI (.Z 31)) (.ci .i64 0)) <|
           .aWT (.aWX 3 tI) (.aWU aA tI (.p1 aA tI (.Z 31)) (.ci .i64 0)) <|
           .aWT (.lit 94 aD 1) (.aWU tI aF (.Z 34) (.p1 aF tI (.Z 32))) <|
           .aWT (.aWZ 94 aD 32) (.aWU (.slice 94 aD) (.slice 94 aD) (aG (.aWS tI (.aWS tI (.slice 94 aD))) 2 (.Z 25)) (.Z 35)) <|
           .aWT (.ar .add .i64) (.aWU tI tI (.p1 tI (.aWS tI (.slice 94 aD)) (.Z 25)) (.ci .i64 1)) <|
           .aWV 0 (aQ (.aWS tI (.aWS tI (.slice 94 aD))) [(.Z 37),(aG (.aWS aF tI) 1 (.Z 32)),(.Z 36)])) (
           .call 2 (.aWU .str tI (.p1 .str tI (.Z 0)) (aO (.aWS tI (.aWS tI (.slice 94 aD))) 1 (.Z 25))) <|
           .call 1 (.aWU .str tI (.p1 .str tI (.Z 0)) (aG (.aWS aF tI) 1 (.Z 31))) <|
           .call 1 (.aWU .str tI (.p1 .str tI (.Z 0)) (aG (.aWS aA tI) 1 (.Z 32))) <|
           .call 1 (.aWU .str tI (.p1 .str tI (.Z 0)) (aG (.aWS aA tI) 1 (.Z 33))) <|
           .call 1 (.aWU .str tI (.p1 .str tI (.Z 0)) (aG (.aWS aA tI) 1 (.Z 34))) <|
           .call 2 (.aWU .str tI (.p1 .str tI (.Z 0)) (aG (.aWS aA tI) 1 (.Z 35))) <|
           .aWT (.cmp .lss .i64) (.aWU tI tI (aG (.aWS aF tI) 1 (.Z 36)) (.ci .i64 0)) <|
           .ite (.Z 37) (
            .ret (.aWU aB tI (aQ aB [(.ci .i64 0),(.nl 88 aJ),(.nl 90 aZ),(.cb false),(.cb false),(.nl 94 aD),(.nl 117 aA),(.nl 3 tI),(.nl 3 tI),(.nl 3 tI),(.nl 3 tI),(.nl 117 aA),(.ci .i64 0),(.cb false)]) (.ci .i64 (-1)))) (
            .aWT .ssub (aQ (.aWS .str aJ) [(.p1 .str tI (.Z 0)),(aG (.aWS .str tI) 1 (.Z 0)),(aG (.aWS aF tI) 1 (.Z 36))]) <|
            .call 3 (aQ aB [(.Z 3),(aG (.aWS tI (.aWS tI bD)) 2 (.Z 15)),(aG (.aWS tI (.aWS tI aK)) 2 (.Z 19)),(.Z 6),(.Z 9),(aG (.aWS tI (.aWS tI (.slice 94 aD))) 2 (.Z 25)),(.p1 aF tI (.Z 31)),(.p1 aA tI (.Z 32)),(.p1 aA tI (.Z 33)),(.p1 aA tI (.Z 34)),(.p1 aA tI (.Z 35)),(.p1 aF tI (.Z 36)),(.Z 11),(.Z 14)]) <|
            .aWT (.seq true) (.aWU .str .str (.Z 39) (.Z 38)) <|
            .ite (.Z 40) (
             .ret (.aWU aB tI (aQ aB [(.ci .i64 0),(.nl 88 aJ),(.nl 90 aZ),(.cb false),(.cb false),(.nl 94 aD),(.nl 117 aA),(.nl 3 tI),(.nl 3 tI),(.nl 3 tI),(.nl 3 tI),(.nl 117 aA),(.ci .i64 0),(.cb false)]) (.ci .i64 (-1)))) (
             .ret (.aWU aB tI (aQ aB [(.Z 3),(aG (.aWS tI (.aWS tI bD)) 2 (.Z 15)),(aG (.aWS tI (.aWS tI aK)) 2 (.Z 19)),(.Z 6),(.Z 9),(aG (.aWS tI (.aWS tI (.slice 94 aD))) 2 (.Z 25)),(.p1 aF tI (.Z 31)),(.p1 aA tI (.Z 32)),(.p1 aA tI (.Z 33)),(.p1 aA tI (.Z 34)),(.p1 aA tI (.Z 35)),(.p1 aF tI (.Z 36)),(.Z 11),(.Z 14)]) (aG (.aWS aF tI) 1 (.Z 36))))))) (
          .call 2 (.aWU .str tI (.p1 .str tI (.Z 0)) (aO (.aWS tI (.aWS tI (.slice 94 aD))) 1 (.Z 25))) <|
          .call 1 (.aWU .str tI (.p1 .str tI (.Z 0)) (aG (.aWS aF tI) 1 (.Z 30))) <|
          .call 1 (.aWU .str tI (.p1 .str tI (.Z 0)) (aG (.aWS aA tI) 1 (.Z 31))) <|
          .call 1 (.aWU .str tI (.p1 .str tI (.Z 0)) (aG (.aWS aA tI) 1 (.Z 32))) <|
          .call 1 (.aWU .str tI (.p1 .str tI (.Z 0)) (aG (.aWS aA tI) 1 (.Z 33))) <|
          .call 2 (.aWU .str tI (.p1 .str tI (.Z 0)) (aG (.aWS aA tI) 1 (.Z 34))) <|
          .aWT (.cmp .lss .i64) (.aWU tI tI (aG (.aWS aF tI) 1 (.Z 35)) (.ci .i64 0)) <|
          .ite (.Z 36) (
           .ret (.aWU aB tI (aQ aB [(.ci .i64 0),(.nl 88 aJ),(.nl 90 aZ),(.cb false),(.cb false),(.nl 94 aD),(.nl 117 aA),(.nl 3 tI),(.nl 3 tI),(.nl 3 tI),(.nl 3 tI),(.nl 117 aA),(.ci .i64 0),(.cb false)]) (.ci .i64 (-1)))) (
           .aWT .ssub (aQ (.aWS .str aJ) [(.p1 .str tI (.Z 0)),(aG (.aWS .str tI) 1 (.Z 0)),(aG (.aWS aF tI) 1 (.Z 35))]) <|
           .call 3 (aQ aB [(.Z 3),(aG (.aWS tI (.aWS tI bD)) 2 (.Z 15)),(aG (.aWS tI (.aWS tI aK)) 2 (.Z 19)),(.Z 6),(.Z 9),(aG (.aWS tI (.aWS tI (.slice 94 aD))) 2 (.Z 25)),(.p1 aF tI (.Z 30)),(.p1 aA tI (.Z 31)),(.p1 aA tI (.Z 32)),(.p1 aA tI (.Z 33)),(.p1 aA tI (.Z 34)),(.p1 aF tI (.Z 35)),(.Z 11),(.Z 14)]) <|
           .aWT (.seq true) (.aWU .str .str (.Z 38) (.Z 37)) <|
           .ite (.Z 39) (
            .ret (.aWU aB tI (aQ aB [(.ci .i64 0),(.nl 88 aJ),(.nl 90 aZ),(.cb false),(.cb false),(.nl 94 aD),(.nl 117 aA),(.nl 3 tI),(.nl 3 tI),(.nl 3 tI),(.nl 3 tI),(.nl 117 aA),(.ci .i64 0),(.cb false)]) (.ci .i64 (-1)))) (
            .ret (.aWU aB tI (aQ aB [(.Z 3),(aG (.aWS tI (.aWS tI bD)) 2 (.Z 15)),(aG (.aWS tI (.aWS tI aK)) 2 (.Z 19)),(.Z 6),(.Z 9),(aG (.aWS tI (.aWS tI (.slice 94 aD))) 2 (.Z 25)),(.p1 aF tI (.Z 30)),(.p1 aA tI (.Z 31)),(.p1 aA tI (.Z 32)),(.p1 aA tI (.Z 33)),(.p1 aA tI (.Z 34)),(.p1 aF tI (.Z 35)),(.Z 11),(.Z 14)]) (aG (.aWS aF tI) 1 (.Z 35))))))) (
         .call 2 (.aWU .str tI (.p1 .str tI (.Z 0)) (aO (.aWS tI (.aWS tI (.slice 94 aD))) 1 (.Z 25))) <|
         .call 1 (.aWU .str tI (.p1 .str tI (.Z 0)) (aG (.aWS aF tI) 1 (.Z 29))) <|
         .call 1 (.aWU .str tI (.p1 .str tI (.Z 0)) (aG (.aWS aA tI) 1 (.Z 30))) <|
         .call 1 (.aWU .str tI (.p1 .str tI (.Z 0)) (aG (.aWS aA tI) 1 (.Z 31))) <|
         .call 1 (.aWU .str tI (.p1 .str tI (.Z 0)) (aG (.aWS aA tI) 1 (.Z 32))) <|
         .call 2 (.aWU .str tI (.p1 .str tI (.Z 0)) (aG (.aWS aA tI) 1 (.Z 33))) <|
         .aWT (.cmp .lss .i64) (.aWU tI tI (aG (.aWS aF tI) 1 (.Z 34)) (.ci .i64 0)) <|
         .ite (.Z 35) (
          .ret (.aWU aB tI (aQ aB [(.ci .i64 0),(.nl 88 aJ),(.nl 90 aZ),(.cb false),(.cb false),(.nl 94 aD),(.nl 117 aA),(.nl 3 tI),(.nl 3 tI),(.nl 3 tI),(.nl 3 tI),(.nl 117 aA),(.ci .i64 0),(.cb false)]) (.ci .i64 (-1)))) (
          .aWT .ssub (aQ (.aWS .str aJ) [(.p1 .str tI (.Z 0)),(aG (.aWS .str tI) 1 (.Z 0)),(aG (.aWS aF tI) 1 (.Z 34))]) <|
          .call 3 (aQ aB [(.Z 3),(aG (.aWS tI (.aWS tI bD)) 2 (.Z 15)),(aG (.aWS tI (.aWS tI aK)) 2 (.Z 19)),(.Z 6),(.Z 9),(aG (.aWS tI (.aWS tI (.slice 94 aD))) 2 (.Z 25)),(.p1 aF tI (.Z 29)),(.p1 aA tI (.Z 30)),(.p1 aA tI (.Z 31)),(.p1 aA tI (.Z 32)),(.p1 aA tI (.Z 33)),(.p1 aF tI (.Z 34)),(.Z 11),(.Z 14)]) <|
          .aWT (.seq true) (.aWU .str .str (.Z 37) (.Z 36)) <|
          .ite (.Z 38) (
           .ret (.aWU aB tI (aQ aB [(.ci .i64 0),(.nl 88 aJ),(.nl 90 aZ),(.cb false),(.cb false),(.nl 94 aD),(.nl 117 aA),(.nl 3 tI),(.nl 3 tI),(.nl 3 tI),(.nl 3 tI),(.nl 117 aA),(.ci .i64 0),(.cb false)]) (.ci .i64 (-1)))) (
           .ret (.aWU aB tI (aQ aB [(.Z 3),(aG (.aWS tI (.aWS tI bD)) 2 (.Z 15)),(aG (.aWS tI (.aWS tI aK)) 2 (.Z 19)),(.Z 6),(.Z 9),(aG (.aWS tI (.aWS tI (.slice 94 aD))) 2 (.Z 25)),(.p1 aF tI (.Z 29)),(.p1 aA tI (.Z 30)),(.p1 aA tI (.Z 31)),(.p1 aA tI (.Z 32)),(.p1 aA tI (.Z 33)),(.p1 aF tI (.Z 34)),(.Z 11),(.Z 14)]) (aG (.aWS aF tI) 1 (.Z 34)))))))) (
      .loop (.aWS tI (.aWS tI (.slice 94 aD))) (aQ (.aWS tI (.aWS tI (.slice 94 aD))) [(.ci .i64 0),(aO (.aWS tI (.aWS tI aK)) 1 (.Z 19)),(.nl 94 aD)]) <|
       .aWT (.aWX 3 tI) (.aWU aA tI (.p1 aA tI (.Z 1)) (.ci .i64 7)) <|
       .aWT (.aWX 3 tI) (.aWU aA tI (.p1 aA tI (.Z 1)) (.ci .i64 7)) <|
       .aWT (.cmp .lss .i64) (.aWU tI tI (.p1 tI (.aWS tI (.slice 94 aD)) (.Z 24)) (.Z 26)) <|
       .ite (.Z 27) (
        .aWT (.cmp .lss .i64) (.aWU tI tI (.p1 tI (.aWS tI (.slice 94 aD)) (.Z 24)) (.ci .i64 5)) <|
        .ite (.Z 28) (
         .aWT (.cmp .geq .i64) (.aWU tI tI (aO (.aWS tI (.aWS tI (.slice 94 aD))) 1 (.Z 24)) (.ci .i64 0)) <|
         .ite (.Z 29) (
          .call 0 (aQ (.aWS .str aJ) [(.p1 .str tI (.Z 0)),(aO (.aWS tI (.aWS tI (.slice 94 aD))) 1 (.Z 24)),(.ci .i64 1)]) <|
          .call 2 (.aWU .str tI (.p1 .str tI (.Z 0)) (aG (.aWS aA tI) 1 (.Z 30))) <|
          .aWT (.aWX 3 tI) (.aWU aA tI (.p1 aA tI (.Z 30)) (.ci .i64 0)) <|
          .aWT (.aWX 3 tI) (.aWU aA tI (.p1 aA tI (.Z 30)) (.ci .i64 0)) <|
          .aWT (.lit 94 aD 1) (.aWU tI aF (.Z 33) (.p1 aF tI (.Z 31))) <|
          .aWT (.aWZ 94 aD 32) (.aWU (.slice 94 aD) (.slice 94 aD) (aG (.aWS tI (.aWS tI (.slice 94 aD))) 2 (.Z 24)) (.Z 34)) <|
          .aWT (.ar .add .i64) (.aWU tI tI (.p1 tI (.aWS tI (.slice 94 aD)) (.Z 24)) (.ci .i64 1)) <|
          .aWV 0 (aQ (.aWS tI (.aWS tI (.slice 94 aD))) [(.Z 36),(aG (.aWS aF tI) 1 (.Z 31)),(.Z 35)])) (
          .call 2 (.aWU .str tI (.p1 .str tI (.Z 0)) (aO (.aWS tI (.aWS tI (.slice 94 aD))) 1 (.Z 24))) <|
          .call 1 (.aWU .str tI (.p1 .str tI (.Z 0)) (aG (.aWS aF tI) 1 (.Z 30))) <|
          .call 1 (.aWU .str tI (.p1 .str tI (.Z 0)) (aG (.aWS aA tI) 1 (.Z 31))) <|
          .call 1 (.aWU .str tI (.p1 .str tI (.Z 0)) (aG (.aWS aA tI) 1 (.Z 32))) <|
          .call 1 (.aWU .str tI (.p1 .str tI (.Z 0)) (aG (.aWS aA tI) 1 (.Z 33))) <|
          .call 2 (.aWU .str tI (.p1 .str tI (.Z 0)) (aG (.aWS aA tI) 1 (.Z 34))) <|
          .aWT (.cmp .lss .i64) (.aWU tI tI (aG (.aWS aF tI) 1 (.Z 35)) (.ci .i64 0)) <|
          .ite (.Z 36) (
           .ret (.aWU aB tI (aQ aB [(.ci .i64 0),(.nl 88 aJ),(.nl 90 aZ),(.cb false),(.cb false),(.nl 94 aD),(.nl 117 aA),(.nl 3 tI),(.nl 3 tI),(.nl 3 tI),(.nl 3 tI),(.nl 117 aA),(.ci .i64 0),(.cb false)]) (.ci .i64 (-1)))) (
           .aWT .ssub (aQ (.aWS .str aJ) [(.p1 .str tI (.Z 0)),(aG (.aWS .str tI) 1 (.Z 0)),(aG (.aWS aF tI) 1 (.Z 35))]) <|
           .call 3 (aQ aB [(.Z 3),(aG (.aWS tI (.aWS tI bD)) 2 (.Z 15)),(aG (.aWS tI (.aWS tI aK)) 2 (.Z 19)),(.Z 6),(.Z 9),(aG (.aWS tI (.aWS tI (.slice 94 aD))) 2 (.Z 24)),(.p1 aF tI (.Z 30)),(.p1 aA tI (.Z 31)),(.p1 aA tI (.Z 32)),(.p1 aA tI (.Z 33)),(.p1 aA tI (.Z 34)),(.p1 aF tI (.Z 35)),(.Z 11),(.Z 14)]) <|
           .aWT (.seq true) (.aWU .str .str (.Z 38) (.Z 37)) <|
           .ite (.Z 39) (
            .ret (.aWU aB tI (aQ aB [(.ci .i64 0),(.nl 88 aJ),(.nl 90 aZ),(.cb false),(.cb false),(.nl 94 aD),(.nl 117 aA),(.nl 3 tI),(.nl 3 tI),(.nl 3 tI),(.nl 3 tI),(.nl 117 aA),(.ci .i64 0),(.cb false)]) (.ci .i64 (-1)))) (
            .ret (.aWU aB tI (aQ aB [(.Z 3),(aG (.aWS tI (.aWS tI bD)) 2 (.Z 15)),(aG (.aWS tI (.aWS tI aK)) 2 (.Z 19)),(.Z 6),(.Z 9),(aG (.aWS tI (.aWS tI (.slice 94 aD))) 2 (.Z 24)),(.p1 aF tI (.Z 30)),(.p1 aA tI (.Z 31)),(.p1 aA tI (.Z 32)),(.p1 aA tI (.Z 33)),(.p1 aA tI (.Z 34)),(.p1 aF tI (.Z 35)),(.Z 11),(.Z 14)]) (aG (.aWS aF tI) 1 (.Z 35))))))) (
         .call 2 (.aWU .str tI (.p1 .str tI (.Z 0)) (aO (.aWS tI (.aWS tI (.slice 94 aD))) 1 (.Z 24))) <|
         .call 1 (.aWU .str tI (.p1 .str tI (.Z 0)) (aG (.aWS aF tI) 1 (.Z 29))) <|
         .call 1 (.aWU .str tI (.p1 .str tI (.Z 0)) (aG (.aWS aA tI) 1 (.Z 30))) <|
         .call 1 (.aWU .str tI (.p1 .str tI (.Z 0)) (aG (.aWS aA tI) 1 (.Z 31))) <|
         .call 1 (.aWU .str tI (.p1 .str tI (.Z 0)) (aG (.aWS aA tI) 1 (.Z 32))) <|
         .call 2 (.aWU .str tI (.p1 .str tI (.Z 0)) (aG (.aWS aA tI) 1 (.Z 33))) <|
         .aWT (.cmp .lss .i64) (.aWU tI tI (aG (.aWS aF tI) 1 (.Z 34)) (.ci .i64 0)) <|
         .ite (.Z 35) (
          .ret (.aWU aB tI (aQ aB [(.ci .i64 0),(.nl 88 aJ),(.nl 90 aZ),(.cb false),(.cb false),(.nl 94 aD),(.nl 117 aA),(.nl 3 tI),(.nl 3 tI),(.nl 3 tI),(.nl 3 tI),(.nl 117 aA),(.ci .i64 0),(.cb false)]) (.ci .i64 (-1)))) (
          .aWT .ssub (aQ (.aWS .str aJ) [(.p1 .str tI (.Z 0)),(aG (.aWS .str tI) 1 (.Z 0)),(aG (.aWS aF tI) 1 (.Z 34))]) <|
          .call 3 (aQ aB [(.Z 3),(aG (.aWS tI (.aWS tI bD)) 2 (.Z 15)),(aG (.aWS tI (.aWS tI aK)) 2 (.Z 19)),(.Z 6),(.Z 9),(aG (.aWS tI (.aWS tI (.slice 94 aD))) 2 (.Z 24)),(.p1 aF tI (.Z 29)),(.p1 aA tI (.Z 30)),(.p1 aA tI (.Z 31)),(.p1 aA tI (.Z 32)),(.p1 aA tI (.Z 33)),(.p1 aF tI (.Z 34)),(.Z 11),(.Z 14)]) <|
          .aWT (.seq true) (.aWU .str .str (.Z 37) (.Z 36)) <|
          .ite (.Z 38) (
           .ret (.aWU aB tI (aQ aB [(.ci .i64 0),(.nl 88 aJ),(.nl 90 aZ),(.cb false),(.cb false),(.nl 94 aD),(.nl 117 aA),(.nl 3 tI),(.nl 3 tI),(.nl 3 tI),(.nl 3 tI),(.nl 117 aA),(.ci .i64 0),(.cb false)]) (.ci .i64 (-1)))) (
           .ret (.aWU aB tI (aQ aB [(.Z 3),(aG (.aWS tI (.aWS tI bD)) 2 (.Z 15)),(aG (.aWS tI (.aWS tI aK)) 2 (.Z 19)),(.Z 6),(.Z 9),(aG (.aWS tI (.aWS tI (.slice 94 aD))) 2 (.Z 24)),(.p1 aF tI (.Z 29)),(.p1 aA tI (.Z 30)),(.p1 aA tI (.Z 31)),(.p1 aA tI (.Z 32)),(.p1 aA tI (.Z 33)),(.p1 aF tI (.Z 34)),(.Z 11),(.Z 14)]) (aG (.aWS aF tI) 1 (.Z 34))))))) (
        .call 2 (.aWU .str tI (.p1 .str tI (.Z 0)) (aO (.aWS tI (.aWS tI (.slice 94 aD))) 1 (.Z 24))) <|
        .call 1 (.aWU .str tI (.p1 .str tI (.Z 0)) (aG (.aWS aF tI) 1 (.Z 28))) <|
        .call 1 (.aWU .str tI (.p1 .str tI (.Z 0)) (aG (.aWS aA tI) 1 (.Z 29))) <|
        .call 1 (.aWU .str tI (.p1 .str tI (.Z 0)) (aG (.aWS aA tI) 1 (.Z 30))) <|
        .call 1 (.aWU .str tI (.p1 .str tI (.Z 0)) (aG (.aWS aA tI) 1 (.Z 31))) <|
        .call 2 (.aWU .str tI (.p1 .str tI (.Z 0)) (aG (.aWS aA tI) 1 (.Z 32))) <|
        .aWT (.cmp .lss .i64) (.aWU tI tI (aG (.aWS aF tI) 1 (.Z 33)) (.ci .i64 0)) <|
        .ite (.Z 34) (
         .ret (.aWU aB tI (aQ aB [(.ci .i64 0),(.nl 88 aJ),(.nl 90 aZ),(.cb false),(.cb false),(.nl 94 aD),(.nl 117 aA),(.nl 3 tI),(.nl 3 tI),(.nl 3 tI),(.nl 3 tI),(.nl 117 aA),(.ci .i64 0),(.cb false)]) (.ci .i64 (-1)))) (
         .aWT .ssub (aQ (.aWS .str aJ) [(.p1 .str tI (.Z 0)),(aG (.aWS .str tI) 1 (.Z 0)),(aG (.aWS aF tI) 1 (.Z 33))]) <|
         .call 3 (aQ aB [(.Z 3),(aG (.aWS tI (.aWS tI bD)) 2 (.Z 15)),(aG (.aWS tI (.aWS tI aK)) 2 (.Z 19)),(.Z 6),(.Z 9),(aG (.aWS tI (.aWS tI (.slice 94 aD))) 2 (.Z 24)),(.p1 aF tI (.Z 28)),(.p1 aA tI (.Z 29)),(.p1 aA tI (.Z 30)),(.p1 aA tI (.Z 31)),(.p1 aA tI (.Z 32)),(.p1 aF tI (.Z 33)),(.Z 11),(.Z 14)]) <|
         .aWT (.seq true) (.aWU .str .str (.Z 36) (.Z 35)) <|
         .ite (.Z 37) (
          .ret (.aWU aB tI (aQ aB [(.ci .i64 0),(.nl 88 aJ),(.nl 90 aZ),(.cb false),(.cb false),(.nl 94 aD),(.nl 117 aA),(.nl 3 tI),(.nl 3 tI),(.nl 3 tI),(.nl 3 tI),(.nl 117 aA),(.ci .i64 0),(.cb false)]) (.ci .i64 (-1)))) (
          .ret (.aWU aB tI (aQ aB [(.Z 3),(aG (.aWS tI (.aWS tI bD)) 2 (.Z 15)),(aG (.aWS tI (.aWS tI aK)) 2 (.Z 19)),(.Z 6),(.Z 9),(aG (.aWS tI (.aWS tI (.slice 94 aD))) 2 (.Z 24)),(.p1 aF tI (.Z 28)),(.p1 aA tI (.Z 29)),(.p1 aA tI (.Z 30)),(.p1 aA tI (.Z 31)),(.p1 aA tI (.Z 32)),(.p1 aF tI (.Z 33)),(.Z 11),(.Z 14)]) (aG (.aWS aF tI) 1 (.Z 33)))))))) (
     .loop (.aWS tI (.aWS tI (.slice 94 aD))) (aQ (.aWS tI (.aWS tI (.slice 94 aD))) [(.ci .i64 0),(aO (.aWS tI (.aWS tI aK)) 1 (.Z 19)),(.nl 94 aD)]) <|
      .aWT (.aWX 3 tI) (.aWU aA tI (.p1 aA tI (.Z 1)) (.ci .i64 7)) <|
      .aWT (.aWX 3 tI) (.aWU aA tI (.p1 aA tI (.Z 1)) (.ci .i64 7)) <|
      .aWT (.cmp .lss .i64) (.aWU tI tI (.p1 tI (.aWS tI (.slice 94 aD)) (.Z 23)) (.Z 25)) <|
      .ite (.Z 26) (
       .aWT (.cmp .lss .i64) (.aWU tI tI (.p1 tI (.aWS tI (.slice 94 aD)) (.Z 23)) (.ci .i64 5)) <|
       .ite (.Z 27) (
        .aWT (.cmp .geq .i64) (.aWU tI tI (aO (.aWS tI (.aWS tI (.slice 94 aD))) 1 (.Z 23)) (.ci .i64 0)) <|
        .ite (.Z 28) (
         .call 0 (aQ (.aWS .str aJ) [(.p1 .str tI (.Z 0)),(aO (.aWS tI (.aWS tI (.slice 94 aD))) 1 (.Z 23)),(.ci .i64 1)]) <|
         .call 2 (.aWU .str tI (.p1 .str tI (.Z 0)) (aG (.aWS aA tI) 1 (.Z 29))) <|
         .aWT (.aWX 3 tI) (.aWU aA tI (.p1 aA tI (.Z 29)) (.ci .i64 0)) <|
         .aWT (.aWX 3 tI) (.aWU aA tI (.p1 aA tI (.Z 29)) (.ci .i64 0)) <|
         .aWT (.lit 94 aD 1) (.aWU tI aF (.Z 32) (.p1 aF tI (.Z 30))) <|
         .aWT (.aWZ 94 aD 32) (.aWU (.slice 94 aD) (.slice 94 aD) (aG (.aWS tI (.aWS tI (.slice 94 aD))) 2 (.Z 23)) (.Z 33)) <|
         .aWT (.ar .add .i64) (.aWU tI tI (.p1 tI (.aWS tI (.slice 94 aD)) (.Z 23)) (.ci .i64 1)) <|
         .aWV 0 (aQ (.aWS tI (.aWS tI (.slice 94 aD))) [(.Z 35),(aG (.aWS aF tI) 1 (.Z 30)),(.Z 34)])) (
         .call 2 (.aWU .str tI (.p1 .str tI (.Z 0)) (aO (.aWS tI (.aWS tI (.slice 94 aD))) 1 (.Z 23))) <|
         .call 1 (.aWU .str tI (.p1 .str tI (.Z 0)) (aG (.aWS aF tI) 1 (.Z 29))) <|
         .call 1 (.aWU .str tI (.p1 .str tI (.Z 0)) (aG (.aWS aA tI) 1 (.Z 30))) <|
         .call 1 (.aWU .str tI (.p1 .str tI (.Z 0)) (aG (.aWS aA tI) 1 (.Z 31))) <|
         .call 1 (.aWU .str tI (.p1 .str tI (.Z 0)) (aG (.aWS aA tI) 1 (.Z 32))) <|
         .call 2 (.aWU .str tI (.p1 .str tI (.Z 0)) (aG (.aWS aA tI) 1 (.Z 33))) <|
         .aWT (.cmp .lss .i64) (.aWU tI tI (aG (.aWS aF tI) 1 (.Z 34)) (.ci .i64 0)) <|
         .ite (.Z 35) (
          .ret (.aWU aB tI (aQ aB [(.ci .i64 0),(.nl 88 aJ),(.nl 90 aZ),(.cb false),(.cb false),(.nl 94 aD),(.nl 117 aA),(.nl 3 tI),(.nl 3 tI),(.nl 3 tI),(.nl 3 tI),(.nl 117 aA),(.ci .i64 0),(.cb false)]) (.ci .i64 (-1)))) (
          .aWT .ssub (aQ (.aWS .str aJ) [(.p1 .str tI (.Z 0)),(aG (.aWS .str tI) 1 (.Z 0)),(aG (.aWS aF tI) 1 (.Z 34))]) <|
          .call 3 (aQ aB [(.Z 3),(aG (.aWS tI (.aWS tI bD)) 2 (.Z 15)),(aG (.aWS tI (.aWS tI aK)) 2 (.Z 19)),(.Z 6),(.Z 9),(aG (.aWS tI (.aWS tI (.slice 94 aD))) 2 (.Z 23)),(.p1 aF tI (.Z 29)),(.p1 aA tI (.Z 30)),(.p1 aA tI (.Z 31)),(.p1 aA tI (.Z 32)),(.p1 aA tI (.Z 33)),(.p1 aF tI (.Z 34)),(.Z 11),(.Z 14)]) <|
          .aWT (.seq true) (.aWU .str .str (.Z 37) (.Z 36)) <|
          .ite (.Z 38) (
           .ret (.aWU aB tI (aQ aB [(.ci .i64 0),(.nl 88 aJ),(.nl 90 aZ),(.cb false),(.cb false),(.nl 94 aD),(.nl 117 aA),(.nl 3 tI),(.nl 3 tI),(.nl 3 tI),(.nl 3 tI),(.nl 117 aA),(.ci .i64 0),(.cb false)]) (.ci .i64 (-1)))) (
           .ret (.aWU aB tI (aQ aB [(.Z 3),(aG (.aWS tI (.aWS tI bD)) 2 (.Z 15)),(aG (.aWS tI (.aWS tI aK)) 2 (.Z 19)),(.Z 6),(.Z 9),(aG (.aWS tI (.aWS tI (.slice 94 aD))) 2 (.Z 23)),(.p1 aF tI (.Z 29)),(.p1 aA tI (.Z 30)),(.p1 aA tI (.Z 31)),(.p1 aA tI (.Z 32)),(.p1 aA tI (.Z 33)),(.p1 aF tI (.Z 34)),(.Z 11),(.Z 14)]) (aG (.aWS aF tI) 1 (.Z 34))))))) (
        .call 2 (.aWU .str tI (.p1 .str tI (.Z 0)) (aO (.aWS tI (.aWS tI (.slice 94 aD))) 1 (.Z 23))) <|
        .call 1 (.aWU .str tI (.p1 .str tI (.Z 0)) (aG (.aWS aF tI) 1 (.Z 28))) <|
        .call 1 (.aWU .str tI (.p1 .str tI (.Z 0)) (aG (.aWS aA tI) 1 (.Z 29))) <|
        .call 1 (.aWU .str tI (.p1 .str tI (.Z 0)) (aG (.aWS aA tI) 1 (.Z 30))) <|
        .call 1 (.aWU .str tI (.p1 .str tI (.Z 0)) (aG (.aWS aA tI) 1 (.Z 31))) <|
        .call 2 (.aWU .str tI (.p1 .str tI (.Z 0)) (aG (.aWS aA tI) 1 (.Z 32))) <|
        .aWT (.cmp .lss .i64) (.aWU tI tI (aG (.aWS aF tI) 1 (.Z 33)) (.ci .i64 0)) <|
        .ite (.Z 34) (
         .ret (.aWU aB tI (aQ aB [(.ci .i64 0),(.nl 88 aJ),(.nl 90 aZ),(.cb false),(.cb false),(.nl 94 aD),(.nl 117 aA),(.nl 3 tI),(.nl 3 tI),(.nl 3 tI),(.nl 3 tI),(.nl 117 aA),(.ci .i64 0),(.cb false)]) (.ci .i64 (-1)))) (
         .aWT .ssub (aQ (.aWS .str aJ) [(.p1 .str tI (.Z 0)),(aG (.aWS .str tI) 1 (.Z 0)),(aG (.aWS aF tI) 1 (.Z 33))]) <|
         .call 3 (aQ aB [(.Z 3),(aG (.aWS tI (.aWS tI bD)) 2 (.Z 15)),(aG (.aWS tI (.aWS tI aK)) 2 (.Z 19)),(.Z 6),(.Z 9),(aG (.aWS tI (.aWS tI (.slice 94 aD))) 2 (.Z 23)),(.p1 aF tI (.Z 28)),(.p1 aA tI (.Z 29)),(.p1 aA tI (.Z 30)),(.p1 aA tI (.Z 31)),(.p1 aA tI (.Z 32)),(.p1 aF tI (.Z 33)),(.Z 11),(.Z 14)]) <|
         .aWT (.seq true) (.aWU .str .str (.Z 36) (.Z 35)) <|
         .ite (.Z 37) (
          .ret (.aWU aB tI (aQ aB [(.ci .i64 0),(.nl 88 aJ),(.nl 90 aZ),(.cb false),(.cb false),(.nl 94 aD),(.nl 117 aA),(.nl 3 tI),(.nl 3 tI),(.nl 3 tI),(.nl 3 tI),(.nl 117 aA),(.ci .i64 0),(.cb false)]) (.ci .i64 (-1)))) (
          .ret (.aWU aB tI (aQ aB [(.Z 3),(aG (.aWS tI (.aWS tI bD)) 2 (.Z 15)),(aG (.aWS tI (.aWS tI aK)) 2 (.Z 19)),(.Z 6),(.Z 9),(aG (.aWS tI (.aWS tI (.slice 94 aD))) 2 (.Z 23)),(.p1 aF tI (.Z 28)),(.p1 aA tI (.Z 29)),(.p1 aA tI (.Z 30)),(.p1 aA tI (.Z 31)),(.p1 aA tI (.Z 32)),(.p1 aF tI (.Z 33)),(.Z 11),(.Z 14)]) (aG (.aWS aF tI) 1 (.Z 33))))))) (
       .call 2 (.aWU .str tI (.p1 .str tI (.Z 0)) (aO (.aWS tI (.aWS tI (.slice 94 aD))) 1 (.Z 23))) <|
       .call 1 (.aWU .str tI (.p1 .str tI (.Z 0)) (aG (.aWS aF tI) 1 (.Z 27))) <|
       .call 1 (.aWU .str tI (.p1 .str tI (.Z 0)) (aG (.aWS aA tI) 1 (.Z 28))) <|
       .call 1 (.aWU .str tI (.p1 .str tI (.Z 0)) (aG (.aWS aA tI) 1 (.Z 29))) <|
       .call 1 (.aWU .str tI (.p1 .str tI (.Z 0)) (aG (.aWS aA tI) 1 (.Z 30))) <|
       .call 2 (.aWU .str tI (.p1 .str tI (.Z 0)) (aG (.aWS aA tI) 1 (.Z 31))) <|
       .aWT (.cmp .lss .i64) (.aWU tI tI (aG (.aWS aF tI) 1 (.Z 32)) (.ci .i64 0)) <|
       .ite (.Z 33) (
        .ret (.aWU aB tI (aQ aB [(.ci .i64 0),(.nl 88 aJ),(.nl 90 aZ),(.cb false),(.cb false),(.nl 94 aD),(.nl 117 aA),(.nl 3 tI),(.nl 3 tI),(.nl 3 tI),(.nl 3 tI),(.nl 117 aA),(.ci .i64 0),(.cb false)]) (.ci .i64 (-1)))) (
        .aWT .ssub (aQ (.aWS .str aJ) [(.p1 .str tI (.Z 0)),(aG (.aWS .str tI) 1 (.Z 0)),(aG (.aWS aF tI) 1 (.Z 32))]) <|
        .call 3 (aQ aB [(.Z 3),(aG (.aWS tI (.aWS tI bD)) 2 (.Z 15)),(aG (.aWS tI (.aWS tI aK)) 2 (.Z 19)),(.Z 6),(.Z 9),(aG (.aWS tI (.aWS tI (.slice 94 aD))) 2 (.Z 23)),(.p1 aF tI (.Z 27)),(.p1 aA tI (.Z 28)),(.p1 aA tI (.Z 29)),(.p1 aA tI (.Z 30)),(.p1 aA tI (.Z 31)),(.p1 aF tI (.Z 32)),(.Z 11),(.Z 14)]) <|
        .aWT (.seq true) (.aWU .str .str (.Z 35) (.Z 34)) <|
        .ite (.Z 36) (
         .ret (.aWU aB tI (aQ aB [(.ci .i64 0),(.nl 88 aJ),(.nl 90 aZ),(.cb false),(.cb false),(.nl 94 aD),(.nl 117 aA),(.nl 3 tI),(.nl 3 tI),(.nl 3 tI),(.nl 3 tI),(.nl 117 aA),(.ci .i64 0),(.cb false)]) (.ci .i64 (-1)))) (
         .ret (.aWU aB tI (aQ aB [(.Z 3),(aG (.aWS tI (.aWS tI bD)) 2 (.Z 15)),(aG (.aWS tI (.aWS tI aK)) 2 (.Z 19)),(.Z 6),(.Z 9),(aG (.aWS tI (.aWS tI (.slice 94 aD))) 2 (.Z 23)),(.p1 aF tI (.Z 27)),(.p1 aA tI (.Z 28)),(.p1 aA tI (.Z 29)),(.p1 aA tI (.Z 30)),(.p1 aA tI (.Z 31)),(.p1 aF tI (.Z 32)),(.Z 11),(.Z 14)]) (aG (.aWS aF tI) 1 (.Z 32))))))))
set_option maxRecDepth 100000 in
theorem aH7:cW Tryz.prog [gT,dE,iG,fH] kZ false 3000 ⟨[(2989,1015,fG 47 43++[.dr 41,.dr 40]++fG 38 36++fG 34 32++[.dr 30,.dr 29,.dr 42,.dr 39,.dr 35,.dr 31]++fG 28 26++[.dr 22]++fG 25 23++[.tm 9 0,.tm 7 0,.sl 22]),(2979,11021,fG 60 48++[.dr 9,.tm 12 0,.tm 7 0,.sl 23]),(2969,91027,fG 94 82++[.dr 12,.tm 17 0,.tm 7 0,.sl 24]),(2969,43026,fG 94 82++[.dr 12,.tm 17 0,.tm 7 0,.sl 24]),(2969,19025,fG 94 82++[.dr 12,.tm 17 0,.tm 7 0,.sl 24]),(2979,5020,fG 60 48++[.dr 9,.tm 12 0,.tm 7 0,.sl 23]),(2969,45026,fG 94 82++[.dr 12,.tm 17 0,.tm 7 0,.sl 24]),(2969,21025,fG 94 82++[.dr 12,.tm 17 0,.tm 7 0,.sl 24]),(2969,9024,fG 94 82++[.dr 12,.tm 17 0,.tm 7 0,.sl 24]),(2979,2019,fG 60 48++[.dr 9,.tm 12 0,.tm 7 0,.sl 23]),(2969,22025,fG 94 82++[.dr 12,.tm 17 0,.tm 7 0,.sl 24]),(2969,10024,fG 94 82++[.dr 12,.tm 17 0,.tm 7 0,.sl 24]),(2969,4023,fG 94 82++[.dr 12,.tm 17 0,.tm 7 0,.sl 24])],[(2966,123029,[],[32]),(2956,987035,[],[32]),(2956,491034,[],[32]),(2956,243033,[],[32]),(2966,61028,[],[32]),(2956,493034,[],[32]),(2956,245033,[],[32]),(2956,121032,[],[32]),(2966,30027,[],[32]),(2956,246033,[],[32]),(2956,122032,[],[32]),(2956,60031,[],[32])]⟩ = .ok sK:=by kernel_rfl
set_option maxHeartbeats 8000000 in
theorem aIC (x:(ByteArray) × Int) (hx:okD (.aWS .str tI) x) (hp:(fun x=>PB x.1 x.2) x):sK.wp [gT,dE,iG,fH] [⟨(.aWS .str tI),x⟩] [] (fun v=>v.as (.aWS aB tI)=(fun x=>kI x.1 x.2) x):=by
 obtain ⟨s,p⟩:=x
 have hp:PB s p:=hp
 delta sK gT dE iG fH;refine jN ?_
 have h8:=rL (s:=s) (p:=p) (show 0≤(8:Int) by decide)
 have g0:=qS s 8 p hp
 have hv0:dT s p=K1Q s (jP s 8 p).1 [] (cU (aEE s) (min ((jP s 8 p).1.getD 5 0).toNat 100) (jP s 8 p).2):=rfl
 simp only[dzx,Int.reduceToNat]
 generalize (jP s 8 p).1=H at *
 generalize (jP s 8 p).2=p0 at *
 (repeat' first|intro _|(with_reducible apply And.intro))
 all_goals first|omega|exact hp|skip
 have z5:H.getD 5 (aV tI)=H.getD 5 0:=rfl
 have z6:H.getD 6 (aV tI)=H.getD 6 0:=rfl
 have z7:H.getD 7 (aV tI)=H.getD 7 0:=rfl
 rw[z5,z6,z7]
 refine ⟨fun t=>∃ k:Nat,t.1=(k:Int)∧(t.2.2:List jR).length=k∧k≤min (H.getD 5 0).toNat 100∧PB s t.2.1∧((0:Int)≤t.2.1→0≤p∧@LE.le Int _ p t.2.1)∧dT s p=K1Q s H t.2.2 (cU (aEE s) (min (H.getD 5 0).toNat 100 - k) t.2.1),fun t=>(100 - (t.1:Int)).toNat,⟨0,rfl,rfl,by omega,g0.1,g0.2,hv0⟩,fun t _ hI=>?_⟩
 obtain ⟨i,r1,a1⟩:Int × (Int × List jR):=t
 obtain ⟨k1,rfl,hl,hk,hPr1,hMr1,hvr1⟩:=hI
 dsimp only at hl hk hPr1 hMr1 hvr1 ⊢
 have hPar1:-1≤r1:=hPr1.1
 have hPbr1:r1≤(s.size:Int):=hPr1.2
 refine ⟨by omega,fun _=>⟨by omega,fun _=>⟨fun ha=>⟨fun hb=>⟨fun hc=>?_,fun hc=>?_⟩,fun hb=>?_⟩,fun ha=>?_⟩⟩⟩
 ·obtain ⟨m,hm⟩:∃ m,(min (H.getD 5 0).toNat 100 - k1)=m+1:=⟨(min (H.getD 5 0).toNat 100 - k1) - 1,by omega⟩
  rw[hm,lD _ m hc] at hvr1
  have hs1:=rL (s:=s) (p:=r1) (show 0≤(2:Int) by decide)
  have hp1:=qS s 2 r1 hPr1
  have hpa:-1≤(jP s 2 r1).2:=hp1.1.1
  have hpb:(jP s 2 r1).2≤(s.size:Int):=hp1.1.2
  have hp2:=aRL s r1 hPr1
  (repeat' first|intro _|(with_reducible apply And.intro))
  all_goals first|omega|exact hPr1|exact hp1.1|(unfold maxLen;omega)|skip
  refine ⟨k1+1,rfl,by (first|omega|(simp only[List.length_append,List.length_cons,List.length_nil];omega)),by omega,hp2.1,fun h=>by have h4:=hp2.2 h;have h5:=hMr1 h4.1;exact ⟨h5.1,Int.le_trans h5.2 h4.2⟩,?_⟩
  rw[show min (H.getD 5 0).toNat 100 - (k1+1)=m by omega,hvr1]
  show K1Q s H a1 ((aEE s r1).1 :: _,_)=K1Q s H (a1++[(aEE s r1).1]) _
  unfold K1Q;simp only[List.append_assoc,List.singleton_append];rfl
 all_goals
  have hwr1:dT s p=K2Q s H a1 [] (cU (opQ s) (min (H.getD 6 0).toNat 8) r1):=by
   first|rw[kS (aEE s) _ hc] at hvr1|rw[show (min (H.getD 5 0).toNat 100 - k1)=0 by omega] at hvr1
   rw[hvr1];unfold K1Q;simp only[List.append_nil,cU]
  clear hvr1
  refine ⟨fun t=>∃ k:Nat,t.1=(k:Int)∧(t.2.2:List jT).length=k∧k≤min (H.getD 6 0).toNat 8∧PB s t.2.1∧((0:Int)≤t.2.1→0≤p∧@LE.le Int _ p t.2.1)∧dT s p=K2Q s H a1 t.2.2 (cU (opQ s) (min (H.getD 6 0).toNat 8 - k) t.2.1),fun t=>(8 - (t.1:Int)).toNat,⟨0,rfl,rfl,by omega,hPr1,hMr1,hwr1⟩,fun t _ hI=>?_⟩
  obtain ⟨i,r2,a2⟩:Int × (Int × List jT):=t
  obtain ⟨k2,rfl,hl,hk,hPr2,hMr2,hvr2⟩:=hI
  dsimp only at hl hk hPr2 hMr2 hvr2 ⊢
  have hPar2:-1≤r2:=hPr2.1
  have hPbr2:r2≤(s.size:Int):=hPr2.2
  refine ⟨by omega,fun _=>⟨by omega,fun _=>⟨fun ha=>⟨fun hb=>⟨fun hc=>?_,fun hc=>?_⟩,fun hb=>?_⟩,fun ha=>?_⟩⟩⟩
  ·obtain ⟨m,hm⟩:∃ m,(min (H.getD 6 0).toNat 8 - k2)=m+1:=⟨(min (H.getD 6 0).toNat 8 - k2) - 1,by omega⟩
   rw[hm,lD _ m hc] at hvr2
   have hs1:=rL (s:=s) (p:=r2) (show 0≤(3:Int) by decide)
   have hp1:=qS s 3 r2 hPr2
   have hpa:-1≤(jP s 3 r2).2:=hp1.1.1
   have hpb:(jP s 3 r2).2≤(s.size:Int):=hp1.1.2
   have hp2:=aVD s r2 hPr2
   (repeat' first|intro _|(with_reducible apply And.intro))
   all_goals first|omega|exact hPr2|exact hp1.1|(unfold maxLen;omega)|skip
   refine ⟨k2+1,rfl,by (first|omega|(simp only[List.length_append,List.length_cons,List.length_nil];omega)),by omega,hp2.1,fun h=>by have h4:=hp2.2 h;have h5:=hMr2 h4.1;exact ⟨h5.1,Int.le_trans h5.2 h4.2⟩,?_⟩
   rw[show min (H.getD 6 0).toNat 8 - (k2+1)=m by omega,hvr2]
   show K2Q s H a1 a2 ((opQ s r2).1 :: _,_)=K2Q s H a1 (a2++[(opQ s r2).1]) _
   unfold K2Q;simp only[List.append_assoc,List.singleton_append];rfl
  all_goals
   have hwr2:dT s p=K3Q s H a1 a2 [] (cU (aES s) (min (H.getD 7 0).toNat 5) r2):=by
    first|rw[kS (opQ s) _ hc] at hvr2|rw[show (min (H.getD 6 0).toNat 8 - k2)=0 by omega] at hvr2
    rw[hvr2];unfold K2Q;simp only[List.append_nil,cU]
   clear hvr2
   refine ⟨fun t=>∃ k:Nat,t.1=(k:Int)∧(t.2.2:List fO).length=k∧k≤min (H.getD 7 0).toNat 5∧PB s t.2.1∧((0:Int)≤t.2.1→0≤p∧@LE.le Int _ p t.2.1)∧dT s p=K3Q s H a1 a2 t.2.2 (cU (aES s) (min (H.getD 7 0).toNat 5 - k) t.2.1),fun t=>(5 - (t.1:Int)).toNat,⟨0,rfl,rfl,by omega,hPr2,hMr2,hwr2⟩,fun t _ hI=>?_⟩
   obtain ⟨i,r3,a3⟩:Int × (Int × List fO):=t
   obtain ⟨k3,rfl,hl,hk,hPr3,hMr3,hvr3⟩:=hI
   dsimp only at hl hk hPr3 hMr3 hvr3 ⊢
   have hPar3:-1≤r3:=hPr3.1
   have hPbr3:r3≤(s.size:Int):=hPr3.2
   refine ⟨by omega,fun _=>⟨by omega,fun _=>⟨fun ha=>⟨fun hb=>⟨fun hc=>?_,fun hc=>?_⟩,fun hb=>?_⟩,fun ha=>?_⟩⟩⟩
   ·obtain ⟨m,hm⟩:∃ m,(min (H.getD 7 0).toNat 5 - k3)=m+1:=⟨(min (H.getD 7 0).toNat 5 - k3) - 1,by omega⟩
    rw[hm,lD _ m hc] at hvr3
    have hs1:=rL (s:=s) (p:=r3) (show 0≤(1:Int) by decide)
    have hp1:=qS s 1 r3 hPr3
    have hpa:-1≤(jP s 1 r3).2:=hp1.1.1
    have hpb:(jP s 1 r3).2≤(s.size:Int):=hp1.1.2
    have hp2:=aS8 s r3 hPr3
    (repeat' first|intro _|(with_reducible apply And.intro))
    all_goals first|omega|exact hPr3|exact hp1.1|(unfold maxLen;omega)|skip
    refine ⟨k3+1,rfl,by (first|omega|(simp only[List.length_append,List.length_cons,List.length_nil];omega)),by omega,hp2.1,fun h=>by have h4:=hp2.2 h;have h5:=hMr3 h4.1;exact ⟨h5.1,Int.le_trans h5.2 h4.2⟩,?_⟩
    rw[show min (H.getD 7 0).toNat 5 - (k3+1)=m by omega,hvr3]
    show K3Q s H a1 a2 a3 ((aES s r3).1 :: _,_)=K3Q s H a1 a2 (a3++[(aES s r3).1]) _
    unfold K3Q;simp only[List.append_assoc,List.singleton_append];rfl
   all_goals
    have hwr3:dT s p=aHP s H a1 a2 a3 r3:=by
     first|rw[kS (aES s) _ hc] at hvr3|rw[show (min (H.getD 7 0).toNat 5 - k3)=0 by omega] at hvr3
     rw[hvr3];unfold K3Q;simp only[List.append_nil,cU]
    clear hvr3
    have p1:=mX s r3 hPr3
    have p2:=jH s _ p1.1
    have p3:=jH s _ p2.1
    have p4:=jH s _ p3.1
    have p5:=jH s _ p4.1
    have p6:=mX s _ p5.1
    have q2:(dT s p).2=(aHP s H a1 a2 a3 r3).2:=by rw[hwr3]
    have q1:(dT s p).1=(aHP s H a1 a2 a3 r3).1:=by rw[hwr3]
    have q3:(aHP s H a1 a2 a3 r3).2≤(s.size:Int):=p6.1.2
    have q4:0≤(aHP s H a1 a2 a3 r3).2→0≤p∧p≤(aHP s H a1 a2 a3 r3).2:=fun h=>by have h6:=p6.2 h;have h5:=p5.2 h6.1;have h4:=p4.2 h5.1;have h3:=p3.2 h4.1;have h2:=p2.2 h3.1;have h1:=p1.2 h2.1;have h0:=hMr3 h1.1;exact ⟨h0.1,by have:=h6.2;have:=h5.2;have:=h4.2;have:=h3.2;have:=h2.2;have:=h1.2;have:=h0.2;show p≤(cX s _).2;omega⟩
    refine ⟨hPr3,fun _=>⟨p1.1,fun _=>⟨p2.1,fun _=>⟨p3.1,fun _=>⟨p4.1,fun _=>⟨p5.1,fun _=>⟨fun h=>aFK (.inl (by rw[q2];exact h)),fun h=>⟨⟨(q4 h).1,(q4 h).2,q3⟩,fun _ _=>⟨fun h2=>aFK (.inr (by rw[q1,q2];exact h2)),fun h2=>?_⟩⟩⟩⟩⟩⟩⟩⟩⟩
    refine Eq.trans ?_ (aE3 (by rw[q2];exact h) (by rw[q1,q2];first|exact h2|exact Classical.not_not.1 h2))
    rw[hwr3];rfl
set_option maxHeartbeats 8000000 in
theorem aHY:Con.Holds Tryz.prog kZ:=aX bI (aR zZ (aR oW (aR aBR (aR vO aY)))) aH7 aIC
end Go.Proofs.YtlabadaccldkaaaGreat
