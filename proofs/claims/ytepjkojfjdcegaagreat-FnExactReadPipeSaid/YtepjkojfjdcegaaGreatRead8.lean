/- Read8: trees, and what they say. -/
import Derived.Test.YtepjkojfjdcegaaGreatRead7
namespace Go.Proofs.YtepjkojfjdcegaaGreat
open Go.ChangeShapes Go.WideShapes Go.ChangeAt Go.RowKit Go.Deep
set_option linter.unusedVariables false
set_option linter.unusedSimpArgs false
noncomputable def c_s_l21Stage:Con:=⟨77,(.pair .str tI),(.pair tStage tI),[.val ⟨false,.str,[]⟩,.val ⟨false,tI,[]⟩],[⟨true,tStage,[0,2,2,0,0,2,2,2,2,2,2,2,0,0]⟩,⟨false,tI,[0]⟩],false,none,
 ((fun x=>PB x.1 x.2):((ByteArray) × Int)→Prop),
 ((fun x=>stageQ x.1 x.2):((ByteArray) × Int)→(StageD × Int))⟩
def t_s_l21Stage:T :=
 .call 0 (mkA (.pair .str tIns) [(.p1 .str tI (.vr 0)),(prA (.pair .str tI) 1 (.vr 0)),(.ci .i64 8)]) <|
 .prim (.lidx 3 tI) (.mk2 tInts tI (.p1 tInts tI (.vr 1)) (.ci .i64 0)) <|
 .prim (.lidx 3 tI) (.mk2 tInts tI (.p1 tInts tI (.vr 1)) (.ci .i64 0)) <|
 .prim (.lidx 3 tI) (.mk2 tInts tI (.p1 tInts tI (.vr 1)) (.ci .i64 1)) <|
 .prim (.lidx 3 tI) (.mk2 tInts tI (.p1 tInts tI (.vr 1)) (.ci .i64 1)) <|
 .prim (.cmp .eql .i64) (.mk2 tI tI (.vr 5) (.ci .i64 1)) <|
 .prim (.lidx 3 tI) (.mk2 tInts tI (.p1 tInts tI (.vr 1)) (.ci .i64 2)) <|
 .prim (.lidx 3 tI) (.mk2 tInts tI (.p1 tInts tI (.vr 1)) (.ci .i64 2)) <|
 .prim (.cmp .eql .i64) (.mk2 tI tI (.vr 8) (.ci .i64 1)) <|
 .prim (.lidx 3 tI) (.mk2 tInts tI (.p1 tInts tI (.vr 1)) (.ci .i64 3)) <|
 .prim (.lidx 3 tI) (.mk2 tInts tI (.p1 tInts tI (.vr 1)) (.ci .i64 3)) <|
 .prim (.lidx 3 tI) (.mk2 tInts tI (.p1 tInts tI (.vr 1)) (.ci .i64 4)) <|
 .prim (.lidx 3 tI) (.mk2 tInts tI (.p1 tInts tI (.vr 1)) (.ci .i64 4)) <|
 .prim (.cmp .eql .i64) (.mk2 tI tI (.vr 13) (.ci .i64 1)) <|
 .loop (.pair tI (.pair tI tPlan)) (mkA (.pair tI (.pair tI tPlan)) [(.ci .i64 0),(prA (.pair tInts tI) 1 (.vr 1)),(.nl 94 tIns)]) <|
  .prim (.lidx 3 tI) (.mk2 tInts tI (.p1 tInts tI (.vr 1)) (.ci .i64 5)) <|
  .prim (.lidx 3 tI) (.mk2 tInts tI (.p1 tInts tI (.vr 1)) (.ci .i64 5)) <|
  .prim (.cmp .lss .i64) (.mk2 tI tI (.p1 tI (.pair tI tPlan) (.vr 15)) (.vr 17)) <|
  .ite (.vr 18) (
   .prim (.cmp .lss .i64) (.mk2 tI tI (.p1 tI (.pair tI tPlan) (.vr 15)) (.ci .i64 100)) <|
   .ite (.vr 19) (
    .prim (.cmp .geq .i64) (.mk2 tI tI (pjA (.pair tI (.pair tI tPlan)) 1 (.vr 15)) (.ci .i64 0)) <|
    .ite (.vr 20) (
     .call 0 (mkA (.pair .str tIns) [(.p1 .str tI (.vr 0)),(pjA (.pair tI (.pair tI tPlan)) 1 (.vr 15)),(.ci .i64 2)]) <|
     .prim (.lidx 3 tI) (.mk2 tInts tI (.p1 tInts tI (.vr 21)) (.ci .i64 0)) <|
     .prim (.lidx 3 tI) (.mk2 tInts tI (.p1 tInts tI (.vr 21)) (.ci .i64 0)) <|
     .prim (.lidx 3 tI) (.mk2 tInts tI (.p1 tInts tI (.vr 21)) (.ci .i64 1)) <|
     .prim (.lidx 3 tI) (.mk2 tInts tI (.p1 tInts tI (.vr 21)) (.ci .i64 1)) <|
     .prim (.lit 94 tIns 1) (.mk2 tI tI (.vr 23) (.vr 25)) <|
     .prim (.lapp 94 tIns 16) (.mk2 tPlan tPlan (prA (.pair tI (.pair tI tPlan)) 2 (.vr 15)) (.vr 26)) <|
     .prim (.ar .add .i64) (.mk2 tI tI (.p1 tI (.pair tI tPlan) (.vr 15)) (.ci .i64 1)) <|
     .again 0 (mkA (.pair tI (.pair tI tPlan)) [(.vr 28),(prA (.pair tInts tI) 1 (.vr 21)),(.vr 27)])) (
     .loop (.pair tI (.pair tI tModel)) (mkA (.pair tI (.pair tI tModel)) [(.ci .i64 0),(pjA (.pair tI (.pair tI tPlan)) 1 (.vr 15)),(.nl 96 tOp)]) <|
      .prim (.lidx 3 tI) (.mk2 tInts tI (.p1 tInts tI (.vr 1)) (.ci .i64 6)) <|
      .prim (.lidx 3 tI) (.mk2 tInts tI (.p1 tInts tI (.vr 1)) (.ci .i64 6)) <|
      .prim (.cmp .lss .i64) (.mk2 tI tI (.p1 tI (.pair tI tModel) (.vr 21)) (.vr 23)) <|
      .ite (.vr 24) (
       .prim (.cmp .lss .i64) (.mk2 tI tI (.p1 tI (.pair tI tModel) (.vr 21)) (.ci .i64 8)) <|
       .ite (.vr 25) (
        .prim (.cmp .geq .i64) (.mk2 tI tI (pjA (.pair tI (.pair tI tModel)) 1 (.vr 21)) (.ci .i64 0)) <|
        .ite (.vr 26) (
         .call 0 (mkA (.pair .str tIns) [(.p1 .str tI (.vr 0)),(pjA (.pair tI (.pair tI tModel)) 1 (.vr 21)),(.ci .i64 3)]) <|
         .call 1 (.mk2 .str tI (.p1 .str tI (.vr 0)) (prA (.pair tInts tI) 1 (.vr 27))) <|
         .prim (.lidx 3 tI) (.mk2 tInts tI (.p1 tInts tI (.vr 27)) (.ci .i64 0)) <|
         .prim (.lidx 3 tI) (.mk2 tInts tI (.p1 tInts tI (.vr 27)) (.ci .i64 0)) <|
         .prim (.lidx 3 tI) (.mk2 tInts tI (.p1 tInts tI (.vr 27)) (.ci .i64 1)) <|
         .prim (.lidx 3 tI) (.mk2 tInts tI (.p1 tInts tI (.vr 27)) (.ci .i64 1)) <|
         .prim (.lidx 3 tI) (.mk2 tInts tI (.p1 tInts tI (.vr 27)) (.ci .i64 2)) <|
         .prim (.lidx 3 tI) (.mk2 tInts tI (.p1 tInts tI (.vr 27)) (.ci .i64 2)) <|
         .prim (.lit 96 tOp 1) (mkA tOp [(.vr 30),(.vr 32),(.vr 34),(.p1 tInts tI (.vr 28))]) <|
         .prim (.lapp 96 tOp 48) (.mk2 tModel tModel (prA (.pair tI (.pair tI tModel)) 2 (.vr 21)) (.vr 35)) <|
         .prim (.ar .add .i64) (.mk2 tI tI (.p1 tI (.pair tI tModel) (.vr 21)) (.ci .i64 1)) <|
         .again 0 (mkA (.pair tI (.pair tI tModel)) [(.vr 37),(prA (.pair tInts tI) 1 (.vr 28)),(.vr 36)])) (
         .loop (.pair tI (.pair tI (.slice 98 tSaved))) (mkA (.pair tI (.pair tI (.slice 98 tSaved))) [(.ci .i64 0),(pjA (.pair tI (.pair tI tModel)) 1 (.vr 21)),(.nl 98 tSaved)]) <|
          .prim (.lidx 3 tI) (.mk2 tInts tI (.p1 tInts tI (.vr 1)) (.ci .i64 7)) <|
          .prim (.lidx 3 tI) (.mk2 tInts tI (.p1 tInts tI (.vr 1)) (.ci .i64 7)) <|
          .prim (.cmp .lss .i64) (.mk2 tI tI (.p1 tI (.pair tI (.slice 98 tSaved)) (.vr 27)) (.vr 29)) <|
          .ite (.vr 30) (
           .prim (.cmp .lss .i64) (.mk2 tI tI (.p1 tI (.pair tI (.slice 98 tSaved)) (.vr 27)) (.ci .i64 5)) <|
           .ite (.vr 31) (
            .prim (.cmp .geq .i64) (.mk2 tI tI (pjA (.pair tI (.pair tI (.slice 98 tSaved))) 1 (.vr 27)) (.ci .i64 0)) <|
            .ite (.vr 32) (
             .call 0 (mkA (.pair .str tIns) [(.p1 .str tI (.vr 0)),(pjA (.pair tI (.pair tI (.slice 98 tSaved))) 1 (.vr 27)),(.ci .i64 1)]) <|
             .call 2 (.mk2 .str tI (.p1 .str tI (.vr 0)) (prA (.pair tInts tI) 1 (.vr 33))) <|
             .prim (.lidx 3 tI) (.mk2 tInts tI (.p1 tInts tI (.vr 33)) (.ci .i64 0)) <|
             .prim (.lidx 3 tI) (.mk2 tInts tI (.p1 tInts tI (.vr 33)) (.ci .i64 0)) <|
             .prim (.lit 98 tSaved 1) (.mk2 tI tRows (.vr 36) (.p1 tRows tI (.vr 34))) <|
             .prim (.lapp 98 tSaved 32) (.mk2 (.slice 98 tSaved) (.slice 98 tSaved) (prA (.pair tI (.pair tI (.slice 98 tSaved))) 2 (.vr 27)) (.vr 37)) <|
             .prim (.ar .add .i64) (.mk2 tI tI (.p1 tI (.pair tI (.slice 98 tSaved)) (.vr 27)) (.ci .i64 1)) <|
             .again 0 (mkA (.pair tI (.pair tI (.slice 98 tSaved))) [(.vr 39),(prA (.pair tRows tI) 1 (.vr 34)),(.vr 38)])) (
             .call 2 (.mk2 .str tI (.p1 .str tI (.vr 0)) (pjA (.pair tI (.pair tI (.slice 98 tSaved))) 1 (.vr 27))) <|
             .call 1 (.mk2 .str tI (.p1 .str tI (.vr 0)) (prA (.pair tRows tI) 1 (.vr 33))) <|
             .call 1 (.mk2 .str tI (.p1 .str tI (.vr 0)) (prA (.pair tInts tI) 1 (.vr 34))) <|
             .call 1 (.mk2 .str tI (.p1 .str tI (.vr 0)) (prA (.pair tInts tI) 1 (.vr 35))) <|
             .call 1 (.mk2 .str tI (.p1 .str tI (.vr 0)) (prA (.pair tInts tI) 1 (.vr 36))) <|
             .call 2 (.mk2 .str tI (.p1 .str tI (.vr 0)) (prA (.pair tInts tI) 1 (.vr 37))) <|
             .prim (.cmp .lss .i64) (.mk2 tI tI (prA (.pair tRows tI) 1 (.vr 38)) (.ci .i64 0)) <|
             .ite (.vr 39) (
              .ret (.mk2 tStage tI (mkA tStage [(.ci .i64 0),(.nl 94 tIns),(.nl 96 tOp),(.cb false),(.cb false),(.nl 98 tSaved),(.nl 158 tInts),(.nl 3 tI),(.nl 3 tI),(.nl 3 tI),(.nl 3 tI),(.nl 158 tInts),(.ci .i64 0),(.cb false)]) (.ci .i64 (-1)))) (
              .prim .ssub (mkA (.pair .str tIns) [(.p1 .str tI (.vr 0)),(prA (.pair .str tI) 1 (.vr 0)),(prA (.pair tRows tI) 1 (.vr 38))]) <|
              .call 3 (mkA tStage [(.vr 3),(prA (.pair tI (.pair tI tPlan)) 2 (.vr 15)),(prA (.pair tI (.pair tI tModel)) 2 (.vr 21)),(.vr 6),(.vr 9),(prA (.pair tI (.pair tI (.slice 98 tSaved))) 2 (.vr 27)),(.p1 tRows tI (.vr 33)),(.p1 tInts tI (.vr 34)),(.p1 tInts tI (.vr 35)),(.p1 tInts tI (.vr 36)),(.p1 tInts tI (.vr 37)),(.p1 tRows tI (.vr 38)),(.vr 11),(.vr 14)]) <|
              .prim (.seq true) (.mk2 .str .str (.vr 41) (.vr 40)) <|
              .ite (.vr 42) (
               .ret (.mk2 tStage tI (mkA tStage [(.ci .i64 0),(.nl 94 tIns),(.nl 96 tOp),(.cb false),(.cb false),(.nl 98 tSaved),(.nl 158 tInts),(.nl 3 tI),(.nl 3 tI),(.nl 3 tI),(.nl 3 tI),(.nl 158 tInts),(.ci .i64 0),(.cb false)]) (.ci .i64 (-1)))) (
               .ret (.mk2 tStage tI (mkA tStage [(.vr 3),(prA (.pair tI (.pair tI tPlan)) 2 (.vr 15)),(prA (.pair tI (.pair tI tModel)) 2 (.vr 21)),(.vr 6),(.vr 9),(prA (.pair tI (.pair tI (.slice 98 tSaved))) 2 (.vr 27)),(.p1 tRows tI (.vr 33)),(.p1 tInts tI (.vr 34)),(.p1 tInts tI (.vr 35)),(.p1 tInts tI (.vr 36)),(.p1 tInts tI (.vr 37)),(.p1 tRows tI (.vr 38)),(.vr 11),(.vr 14)]) (prA (.pair tRows tI) 1 (.vr 38))))))) (
            .call 2 (.mk2 .str tI (.p1 .str tI (.vr 0)) (pjA (.pair tI (.pair tI (.slice 98 tSaved))) 1 (.vr 27))) <|
            .call 1 (.mk2 .str tI (.p1 .str tI (.vr 0)) (prA (.pair tRows tI) 1 (.vr 32))) <|
            .call 1 (.mk2 .str tI (.p1 .str tI (.vr 0)) (prA (.pair tInts tI) 1 (.vr 33))) <|
            .call 1 (.mk2 .str tI (.p1 .str tI (.vr 0)) (prA (.pair tInts tI) 1 (.vr 34))) <|
            .call 1 (.mk2 .str tI (.p1 .str tI (.vr 0)) (prA (.pair tInts tI) 1 (.vr 35))) <|
            .call 2 (.mk2 .str tI (.p1 .str tI (.vr 0)) (prA (.pair tInts tI) 1 (.vr 36))) <|
            .prim (.cmp .lss .i64) (.mk2 tI tI (prA (.pair tRows tI) 1 (.vr 37)) (.ci .i64 0)) <|
            .ite (.vr 38) (
             .ret (.mk2 tStage tI (mkA tStage [(.ci .i64 0),(.nl 94 tIns),(.nl 96 tOp),(.cb false),(.cb false),(.nl 98 tSaved),(.nl 158 tInts),(.nl 3 tI),(.nl 3 tI),(.nl 3 tI),(.nl 3 tI),(.nl 158 tInts),(.ci .i64 0),(.cb false)]) (.ci .i64 (-1)))) (
             .prim .ssub (mkA (.pair .str tIns) [(.p1 .str tI (.vr 0)),(prA (.pair .str tI) 1 (.vr 0)),(prA (.pair tRows tI) 1 (.vr 37))]) <|
             .call 3 (mkA tStage [(.vr 3),(prA (.pair tI (.pair tI tPlan)) 2 (.vr 15)),(prA (.pair tI (.pair tI tModel)) 2 (.vr 21)),(.vr 6),(.vr 9),(prA (.pair tI (.pair tI (.slice 98 tSaved))) 2 (.vr 27)),(.p1 tRows tI (.vr 32)),(.p1 tInts tI (.vr 33)),(.p1 tInts tI (.vr 34)),(.p1 tInts tI (.vr 35)),(.p1 tInts tI (.vr 36)),(.p1 tRows tI (.vr 37)),(.vr 11),(.vr 14)]) <|
             .prim (.seq true) (.mk2 .str .str (.vr 40) (.vr 39)) <|
             .ite (.vr 41) (
              .ret (.mk2 tStage tI (mkA tStage [(.ci .i64 0),(.nl 94 tIns),(.nl 96 tOp),(.cb false),(.cb false),(.nl 98 tSaved),(.nl 158 tInts),(.nl 3 tI),(.nl 3 tI),(.nl 3 tI),(.nl 3 tI),(.nl 158 tInts),(.ci .i64 0),(.cb false)]) (.ci .i64 (-1)))) (
              .ret (.mk2 tStage tI (mkA tStage [(.vr 3),(prA (.pair tI (.pair tI tPlan)) 2 (.vr 15)),(prA (.pair tI (.pair tI tModel)) 2 (.vr 21)),(.vr 6),(.vr 9),(prA (.pair tI (.pair tI (.slice 98 tSaved))) 2 (.vr 27)),(.p1 tRows tI (.vr 32)),(.p1 tInts tI (.vr 33)),(.p1 tInts tI (.vr 34)),(.p1 tInts tI (.vr 35)),(.p1 tInts tI (.vr 36)),(.p1 tRows tI (.vr 37)),(.vr 11),(.vr 14)]) (prA (.pair tRows tI) 1 (.vr 37))))))) (
           .call 2 (.mk2 .str tI (.p1 .str tI (.vr 0)) (pjA (.pair tI (.pair tI (.slice 98 tSaved))) 1 (.vr 27))) <|
           .call 1 (.mk2 .str tI (.p1 .str tI (.vr 0)) (prA (.pair tRows tI) 1 (.vr 31))) <|
           .call 1 (.mk2 .str tI (.p1 .str tI (.vr 0)) (prA (.pair tInts tI) 1 (.vr 32))) <|
           .call 1 (.mk2 .str tI (.p1 .str tI (.vr 0)) (prA (.pair tInts tI) 1 (.vr 33))) <|
           .call 1 (.mk2 .str tI (.p1 .str tI (.vr 0)) (prA (.pair tInts tI) 1 (.vr 34))) <|
           .call 2 (.mk2 .str tI (.p1 .str tI (.vr 0)) (prA (.pair tInts tI) 1 (.vr 35))) <|
           .prim (.cmp .lss .i64) (.mk2 tI tI (prA (.pair tRows tI) 1 (.vr 36)) (.ci .i64 0)) <|
           .ite (.vr 37) (
            .ret (.mk2 tStage tI (mkA tStage [(.ci .i64 0),(.nl 94 tIns),(.nl 96 tOp),(.cb false),(.cb false),(.nl 98 tSaved),(.nl 158 tInts),(.nl 3 tI),(.nl 3 tI),(.nl 3 tI),(.nl 3 tI),(.nl 158 tInts),(.ci .i64 0),(.cb false)]) (.ci .i64 (-1)))) (
            .prim .ssub (mkA (.pair .str tIns) [(.p1 .str tI (.vr 0)),(prA (.pair .str tI) 1 (.vr 0)),(prA (.pair tRows tI) 1 (.vr 36))]) <|
            .call 3 (mkA tStage [(.vr 3),(prA (.pair tI (.pair tI tPlan)) 2 (.vr 15)),(prA (.pair tI (.pair tI tModel)) 2 (.vr 21)),(.vr 6),(.vr 9),(prA (.pair tI (.pair tI (.slice 98 tSaved))) 2 (.vr 27)),(.p1 tRows tI (.vr 31)),(.p1 tInts tI (.vr 32)),(.p1 tInts tI (.vr 33)),(.p1 tInts tI (.vr 34)),(.p1 tInts tI (.vr 35)),(.p1 tRows tI (.vr 36)),(.vr 11),(.vr 14)]) <|
            .prim (.seq true) (.mk2 .str .str (.vr 39) (.vr 38)) <|
            .ite (.vr 40) (
             .ret (.mk2 tStage tI (mkA tStage [(.ci .i64 0),(.nl 94 tIns),(.nl 96 tOp),(.cb false),(.cb false),(.nl 98 tSaved),(.nl 158 tInts),(.nl 3 tI),(.nl 3 tI),(.nl 3 tI),(.nl 3 tI),(.nl 158 tInts),(.ci .i64 0),(.cb false)]) (.ci .i64 (-1)))) (
             .ret (.mk2 tStage tI (mkA tStage [(.vr 3),(prA (.pair tI (.pair tI tPlan)) 2 (.vr 15)),(prA (.pair tI (.pair tI tModel)) 2 (.vr 21)),(.vr 6),(.vr 9),(prA (.pair tI (.pair tI (.slice 98 tSaved))) 2 (.vr 27)),(.p1 tRows tI (.vr 31)),(.p1 tInts tI (.vr 32)),(.p1 tInts tI (.vr 33)),(.p1 tInts tI (.vr 34)),(.p1 tInts tI (.vr 35)),(.p1 tRows tI (.vr 36)),(.vr 11),(.vr 14)]) (prA (.pair tRows tI) 1 (.vr 36)))))))) (
        .loop (.pair tI (.pair tI (.slice 98 tSaved))) (mkA (.pair tI (.pair tI (.slice 98 tSaved))) [(.ci .i64 0),(pjA (.pair tI (.pair tI tModel)) 1 (.vr 21)),(.nl 98 tSaved)]) <|
         .prim (.lidx 3 tI) (.mk2 tInts tI (.p1 tInts tI (.vr 1)) (.ci .i64 7)) <|
         .prim (.lidx 3 tI) (.mk2 tInts tI (.p1 tInts tI (.vr 1)) (.ci .i64 7)) <|
         .prim (.cmp .lss .i64) (.mk2 tI tI (.p1 tI (.pair tI (.slice 98 tSaved)) (.vr 26)) (.vr 28)) <|
         .ite (.vr 29) (
          .prim (.cmp .lss .i64) (.mk2 tI tI (.p1 tI (.pair tI (.slice 98 tSaved)) (.vr 26)) (.ci .i64 5)) <|
          .ite (.vr 30) (
           .prim (.cmp .geq .i64) (.mk2 tI tI (pjA (.pair tI (.pair tI (.slice 98 tSaved))) 1 (.vr 26)) (.ci .i64 0)) <|
           .ite (.vr 31) (
            .call 0 (mkA (.pair .str tIns) [(.p1 .str tI (.vr 0)),(pjA (.pair tI (.pair tI (.slice 98 tSaved))) 1 (.vr 26)),(.ci .i64 1)]) <|
            .call 2 (.mk2 .str tI (.p1 .str tI (.vr 0)) (prA (.pair tInts tI) 1 (.vr 32))) <|
            .prim (.lidx 3 tI) (.mk2 tInts tI (.p1 tInts tI (.vr 32)) (.ci .i64 0)) <|
            .prim (.lidx 3 tI) (.mk2 tInts tI (.p1 tInts tI (.vr 32)) (.ci .i64 0)) <|
            .prim (.lit 98 tSaved 1) (.mk2 tI tRows (.vr 35) (.p1 tRows tI (.vr 33))) <|
            .prim (.lapp 98 tSaved 32) (.mk2 (.slice 98 tSaved) (.slice 98 tSaved) (prA (.pair tI (.pair tI (.slice 98 tSaved))) 2 (.vr 26)) (.vr 36)) <|
            .prim (.ar .add .i64) (.mk2 tI tI (.p1 tI (.pair tI (.slice 98 tSaved)) (.vr 26)) (.ci .i64 1)) <|
            .again 0 (mkA (.pair tI (.pair tI (.slice 98 tSaved))) [(.vr 38),(prA (.pair tRows tI) 1 (.vr 33)),(.vr 37)])) (
            .call 2 (.mk2 .str tI (.p1 .str tI (.vr 0)) (pjA (.pair tI (.pair tI (.slice 98 tSaved))) 1 (.vr 26))) <|
            .call 1 (.mk2 .str tI (.p1 .str tI (.vr 0)) (prA (.pair tRows tI) 1 (.vr 32))) <|
            .call 1 (.mk2 .str tI (.p1 .str tI (.vr 0)) (prA (.pair tInts tI) 1 (.vr 33))) <|
            .call 1 (.mk2 .str tI (.p1 .str tI (.vr 0)) (prA (.pair tInts tI) 1 (.vr 34))) <|
            .call 1 (.mk2 .str tI (.p1 .str tI (.vr 0)) (prA (.pair tInts tI) 1 (.vr 35))) <|
            .call 2 (.mk2 .str tI (.p1 .str tI (.vr 0)) (prA (.pair tInts tI) 1 (.vr 36))) <|
            .prim (.cmp .lss .i64) (.mk2 tI tI (prA (.pair tRows tI) 1 (.vr 37)) (.ci .i64 0)) <|
            .ite (.vr 38) (
             .ret (.mk2 tStage tI (mkA tStage [(.ci .i64 0),(.nl 94 tIns),(.nl 96 tOp),(.cb false),(.cb false),(.nl 98 tSaved),(.nl 158 tInts),(.nl 3 tI),(.nl 3 tI),(.nl 3 tI),(.nl 3 tI),(.nl 158 tInts),(.ci .i64 0),(.cb false)]) (.ci .i64 (-1)))) (
             .prim .ssub (mkA (.pair .str tIns) [(.p1 .str tI (.vr 0)),(prA (.pair .str tI) 1 (.vr 0)),(prA (.pair tRows tI) 1 (.vr 37))]) <|
             .call 3 (mkA tStage [(.vr 3),(prA (.pair tI (.pair tI tPlan)) 2 (.vr 15)),(prA (.pair tI (.pair tI tModel)) 2 (.vr 21)),(.vr 6),(.vr 9),(prA (.pair tI (.pair tI (.slice 98 tSaved))) 2 (.vr 26)),(.p1 tRows tI (.vr 32)),(.p1 tInts tI (.vr 33)),(.p1 tInts tI (.vr 34)),(.p1 tInts tI (.vr 35)),(.p1 tInts tI (.vr 36)),(.p1 tRows tI (.vr 37)),(.vr 11),(.vr 14)]) <|
             .prim (.seq true) (.mk2 .str .str (.vr 40) (.vr 39)) <|
             .ite (.vr 41) (
              .ret (.mk2 tStage tI (mkA tStage [(.ci .i64 0),(.nl 94 tIns),(.nl 96 tOp),(.cb false),(.cb false),(.nl 98 tSaved),(.nl 158 tInts),(.nl 3 tI),(.nl 3 tI),(.nl 3 tI),(.nl 3 tI),(.nl 158 tInts),(.ci .i64 0),(.cb false)]) (.ci .i64 (-1)))) (
              .ret (.mk2 tStage tI (mkA tStage [(.vr 3),(prA (.pair tI (.pair tI tPlan)) 2 (.vr 15)),(prA (.pair tI (.pair tI tModel)) 2 (.vr 21)),(.vr 6),(.vr 9),(prA (.pair tI (.pair tI (.slice 98 tSaved))) 2 (.vr 26)),(.p1 tRows tI (.vr 32)),(.p1 tInts tI (.vr 33)),(.p1 tInts tI (.vr 34)),(.p1 tInts tI (.vr 35)),(.p1 tInts tI (.vr 36)),(.p1 tRows tI (.vr 37)),(.vr 11),(.vr 14)]) (prA (.pair tRows tI) 1 (.vr 37))))))) (
           .call 2 (.mk2 .str tI (.p1 .str tI (.vr 0)) (pjA (.pair tI (.pair tI (.slice 98 tSaved))) 1 (.vr 26))) <|
           .call 1 (.mk2 .str tI (.p1 .str tI (.vr 0)) (prA (.pair tRows tI) 1 (.vr 31))) <|
           .call 1 (.mk2 .str tI (.p1 .str tI (.vr 0)) (prA (.pair tInts tI) 1 (.vr 32))) <|
           .call 1 (.mk2 .str tI (.p1 .str tI (.vr 0)) (prA (.pair tInts tI) 1 (.vr 33))) <|
           .call 1 (.mk2 .str tI (.p1 .str tI (.vr 0)) (prA (.pair tInts tI) 1 (.vr 34))) <|
           .call 2 (.mk2 .str tI (.p1 .str tI (.vr 0)) (prA (.pair tInts tI) 1 (.vr 35))) <|
           .prim (.cmp .lss .i64) (.mk2 tI tI (prA (.pair tRows tI) 1 (.vr 36)) (.ci .i64 0)) <|
           .ite (.vr 37) (
            .ret (.mk2 tStage tI (mkA tStage [(.ci .i64 0),(.nl 94 tIns),(.nl 96 tOp),(.cb false),(.cb false),(.nl 98 tSaved),(.nl 158 tInts),(.nl 3 tI),(.nl 3 tI),(.nl 3 tI),(.nl 3 tI),(.nl 158 tInts),(.ci .i64 0),(.cb false)]) (.ci .i64 (-1)))) (
            .prim .ssub (mkA (.pair .str tIns) [(.p1 .str tI (.vr 0)),(prA (.pair .str tI) 1 (.vr 0)),(prA (.pair tRows tI) 1 (.vr 36))]) <|
            .call 3 (mkA tStage [(.vr 3),(prA (.pair tI (.pair tI tPlan)) 2 (.vr 15)),(prA (.pair tI (.pair tI tModel)) 2 (.vr 21)),(.vr 6),(.vr 9),(prA (.pair tI (.pair tI (.slice 98 tSaved))) 2 (.vr 26)),(.p1 tRows tI (.vr 31)),(.p1 tInts tI (.vr 32)),(.p1 tInts tI (.vr 33)),(.p1 tInts tI (.vr 34)),(.p1 tInts tI (.vr 35)),(.p1 tRows tI (.vr 36)),(.vr 11),(.vr 14)]) <|
            .prim (.seq true) (.mk2 .str .str (.vr 39) (.vr 38)) <|
            .ite (.vr 40) (
             .ret (.mk2 tStage tI (mkA tStage [(.ci .i64 0),(.nl 94 tIns),(.nl 96 tOp),(.cb false),(.cb false),(.nl 98 tSaved),(.nl 158 tInts),(.nl 3 tI),(.nl 3 tI),(.nl 3 tI),(.nl 3 tI),(.nl 158 tInts),(.ci .i64 0),(.cb false)]) (.ci .i64 (-1)))) (
             .ret (.mk2 tStage tI (mkA tStage [(.vr 3),(prA (.pair tI (.pair tI tPlan)) 2 (.vr 15)),(prA (.pair tI (.pair tI tModel)) 2 (.vr 21)),(.vr 6),(.vr 9),(prA (.pair tI (.pair tI (.slice 98 tSaved))) 2 (.vr 26)),(.p1 tRows tI (.vr 31)),(.p1 tInts tI (.vr 32)),(.p1 tInts tI (.vr 33)),(.p1 tInts tI (.vr 34)),(.p1 tInts tI (.vr 35)),(.p1 tRows tI (.vr 36)),(.vr 11),(.vr 14)]) (prA (.pair tRows tI) 1 (.vr 36))))))) (
          .call 2 (.mk2 .str tI (.p1 .str tI (.vr 0)) (pjA (.pair tI (.pair tI (.slice 98 tSaved))) 1 (.vr 26))) <|
          .call 1 (.mk2 .str tI (.p1 .str tI (.vr 0)) (prA (.pair tRows tI) 1 (.vr 30))) <|
          .call 1 (.mk2 .str tI (.p1 .str tI (.vr 0)) (prA (.pair tInts tI) 1 (.vr 31))) <|
          .call 1 (.mk2 .str tI (.p1 .str tI (.vr 0)) (prA (.pair tInts tI) 1 (.vr 32))) <|
          .call 1 (.mk2 .str tI (.p1 .str tI (.vr 0)) (prA (.pair tInts tI) 1 (.vr 33))) <|
          .call 2 (.mk2 .str tI (.p1 .str tI (.vr 0)) (prA (.pair tInts tI) 1 (.vr 34))) <|
          .prim (.cmp .lss .i64) (.mk2 tI tI (prA (.pair tRows tI) 1 (.vr 35)) (.ci .i64 0)) <|
          .ite (.vr 36) (
           .ret (.mk2 tStage tI (mkA tStage [(.ci .i64 0),(.nl 94 tIns),(.nl 96 tOp),(.cb false),(.cb false),(.nl 98 tSaved),(.nl 158 tInts),(.nl 3 tI),(.nl 3 tI),(.nl 3 tI),(.nl 3 tI),(.nl 158 tInts),(.ci .i64 0),(.cb false)]) (.ci .i64 (-1)))) (
           .prim .ssub (mkA (.pair .str tIns) [(.p1 .str tI (.vr 0)),(prA (.pair .str tI) 1 (.vr 0)),(prA (.pair tRows tI) 1 (.vr 35))]) <|
           .call 3 (mkA tStage [(.vr 3),(prA (.pair tI (.pair tI tPlan)) 2 (.vr 15)),(prA (.pair tI (.pair tI tModel)) 2 (.vr 21)),(.vr 6),(.vr 9),(prA (.pair tI (.pair tI (.slice 98 tSaved))) 2 (.vr 26)),(.p1 tRows tI (.vr 30)),(.p1 tInts tI (.vr 31)),(.p1 tInts tI (.vr 32)),(.p1 tInts tI (.vr 33)),(.p1 tInts tI (.vr 34)),(.p1 tRows tI (.vr 35)),(.vr 11),(.vr 14)]) <|
           .prim (.seq true) (.mk2 .str .str (.vr 38) (.vr 37)) <|
           .ite (.vr 39) (
            .ret (.mk2 tStage tI (mkA tStage [(.ci .i64 0),(.nl 94 tIns),(.nl 96 tOp),(.cb false),(.cb false),(.nl 98 tSaved),(.nl 158 tInts),(.nl 3 tI),(.nl 3 tI),(.nl 3 tI),(.nl 3 tI),(.nl 158 tInts),(.ci .i64 0),(.cb false)]) (.ci .i64 (-1)))) (
            .ret (.mk2 tStage tI (mkA tStage [(.vr 3),(prA (.pair tI (.pair tI tPlan)) 2 (.vr 15)),(prA (.pair tI (.pair tI tModel)) 2 (.vr 21)),(.vr 6),(.vr 9),(prA (.pair tI (.pair tI (.slice 98 tSaved))) 2 (.vr 26)),(.p1 tRows tI (.vr 30)),(.p1 tInts tI (.vr 31)),(.p1 tInts tI (.vr 32)),(.p1 tInts tI (.vr 33)),(.p1 tInts tI (.vr 34)),(.p1 tRows tI (.vr 35)),(.vr 11),(.vr 14)]) (prA (.pair tRows tI) 1 (.vr 35)))))))) (
       .loop (.pair tI (.pair tI (.slice 98 tSaved))) (mkA (.pair tI (.pair tI (.slice 98 tSaved))) [(.ci .i64 0),(pjA (.pair tI (.pair tI tModel)) 1 (.vr 21)),(.nl 98 tSaved)]) <|
        .prim (.lidx 3 tI) (.mk2 tInts tI (.p1 tInts tI (.vr 1)) (.ci .i64 7)) <|
        .prim (.lidx 3 tI) (.mk2 tInts tI (.p1 tInts tI (.vr 1)) (.ci .i64 7)) <|
        .prim (.cmp .lss .i64) (.mk2 tI tI (.p1 tI (.pair tI (.slice 98 tSaved)) (.vr 25)) (.vr 27)) <|
        .ite (.vr 28) (
         .prim (.cmp .lss .i64) (.mk2 tI tI (.p1 tI (.pair tI (.slice 98 tSaved)) (.vr 25)) (.ci .i64 5)) <|
         .ite (.vr 29) (
          .prim (.cmp .geq .i64) (.mk2 tI tI (pjA (.pair tI (.pair tI (.slice 98 tSaved))) 1 (.vr 25)) (.ci .i64 0)) <|
          .ite (.vr 30) (
           .call 0 (mkA (.pair .str tIns) [(.p1 .str tI (.vr 0)),(pjA (.pair tI (.pair tI (.slice 98 tSaved))) 1 (.vr 25)),(.ci .i64 1)]) <|
           .call 2 (.mk2 .str tI (.p1 .str tI (.vr 0)) (prA (.pair tInts tI) 1 (.vr 31))) <|
           .prim (.lidx 3 tI) (.mk2 tInts tI (.p1 tInts tI (.vr 31)) (.ci .i64 0)) <|
           .prim (.lidx 3 tI) (.mk2 tInts tI (.p1 tInts tI (.vr 31)) (.ci .i64 0)) <|
           .prim (.lit 98 tSaved 1) (.mk2 tI tRows (.vr 34) (.p1 tRows tI (.vr 32))) <|
           .prim (.lapp 98 tSaved 32) (.mk2 (.slice 98 tSaved) (.slice 98 tSaved) (prA (.pair tI (.pair tI (.slice 98 tSaved))) 2 (.vr 25)) (.vr 35)) <|
           .prim (.ar .add .i64) (.mk2 tI tI (.p1 tI (.pair tI (.slice 98 tSaved)) (.vr 25)) (.ci .i64 1)) <|
           .again 0 (mkA (.pair tI (.pair tI (.slice 98 tSaved))) [(.vr 37),(prA (.pair tRows tI) 1 (.vr 32)),(.vr 36)])) (
           .call 2 (.mk2 .str tI (.p1 .str tI (.vr 0)) (pjA (.pair tI (.pair tI (.slice 98 tSaved))) 1 (.vr 25))) <|
           .call 1 (.mk2 .str tI (.p1 .str tI (.vr 0)) (prA (.pair tRows tI) 1 (.vr 31))) <|
           .call 1 (.mk2 .str tI (.p1 .str tI (.vr 0)) (prA (.pair tInts tI) 1 (.vr 32))) <|
           .call 1 (.mk2 .str tI (.p1 .str tI (.vr 0)) (prA (.pair tInts tI) 1 (.vr 33))) <|
           .call 1 (.mk2 .str tI (.p1 .str tI (.vr 0)) (prA (.pair tInts tI) 1 (.vr 34))) <|
           .call 2 (.mk2 .str tI (.p1 .str tI (.vr 0)) (prA (.pair tInts tI) 1 (.vr 35))) <|
           .prim (.cmp .lss .i64) (.mk2 tI tI (prA (.pair tRows tI) 1 (.vr 36)) (.ci .i64 0)) <|
           .ite (.vr 37) (
            .ret (.mk2 tStage tI (mkA tStage [(.ci .i64 0),(.nl 94 tIns),(.nl 96 tOp),(.cb false),(.cb false),(.nl 98 tSaved),(.nl 158 tInts),(.nl 3 tI),(.nl 3 tI),(.nl 3 tI),(.nl 3 tI),(.nl 158 tInts),(.ci .i64 0),(.cb false)]) (.ci .i64 (-1)))) (
            .prim .ssub (mkA (.pair .str tIns) [(.p1 .str tI (.vr 0)),(prA (.pair .str tI) 1 (.vr 0)),(prA (.pair tRows tI) 1 (.vr 36))]) <|
            .call 3 (mkA tStage [(.vr 3),(prA (.pair tI (.pair tI tPlan)) 2 (.vr 15)),(prA (.pair tI (.pair tI tModel)) 2 (.vr 21)),(.vr 6),(.vr 9),(prA (.pair tI (.pair tI (.slice 98 tSaved))) 2 (.vr 25)),(.p1 tRows tI (.vr 31)),(.p1 tInts tI (.vr 32)),(.p1 tInts tI (.vr 33)),(.p1 tInts tI (.vr 34)),(.p1 tInts tI (.vr 35)),(.p1 tRows tI (.vr 36)),(.vr 11),(.vr 14)]) <|
            .prim (.seq true) (.mk2 .str .str (.vr 39) (.vr 38)) <|
            .ite (.vr 40) (
             .ret (.mk2 tStage tI (mkA tStage [(.ci .i64 0),(.nl 94 tIns),(.nl 96 tOp),(.cb false),(.cb false),(.nl 98 tSaved),(.nl 158 tInts),(.nl 3 tI),(.nl 3 tI),(.nl 3 tI),(.nl 3 tI),(.nl 158 tInts),(.ci .i64 0),(.cb false)]) (.ci .i64 (-1)))) (
             .ret (.mk2 tStage tI (mkA tStage [(.vr 3),(prA (.pair tI (.pair tI tPlan)) 2 (.vr 15)),(prA (.pair tI (.pair tI tModel)) 2 (.vr 21)),(.vr 6),(.vr 9),(prA (.pair tI (.pair tI (.slice 98 tSaved))) 2 (.vr 25)),(.p1 tRows tI (.vr 31)),(.p1 tInts tI (.vr 32)),(.p1 tInts tI (.vr 33)),(.p1 tInts tI (.vr 34)),(.p1 tInts tI (.vr 35)),(.p1 tRows tI (.vr 36)),(.vr 11),(.vr 14)]) (prA (.pair tRows tI) 1 (.vr 36))))))) (
          .call 2 (.mk2 .str tI (.p1 .str tI (.vr 0)) (pjA (.pair tI (.pair tI (.slice 98 tSaved))) 1 (.vr 25))) <|
          .call 1 (.mk2 .str tI (.p1 .str tI (.vr 0)) (prA (.pair tRows tI) 1 (.vr 30))) <|
          .call 1 (.mk2 .str tI (.p1 .str tI (.vr 0)) (prA (.pair tInts tI) 1 (.vr 31))) <|
          .call 1 (.mk2 .str tI (.p1 .str tI (.vr 0)) (prA (.pair tInts tI) 1 (.vr 32))) <|
          .call 1 (.mk2 .str tI (.p1 .str tI (.vr 0)) (prA (.pair tInts tI) 1 (.vr 33))) <|
          .call 2 (.mk2 .str tI (.p1 .str tI (.vr 0)) (prA (.pair tInts tI) 1 (.vr 34))) <|
          .prim (.cmp .lss .i64) (.mk2 tI tI (prA (.pair tRows tI) 1 (.vr 35)) (.ci .i64 0)) <|
          .ite (.vr 36) (
           .ret (.mk2 tStage tI (mkA tStage [(.ci .i64 0),(.nl 94 tIns),(.nl 96 tOp),(.cb false),(.cb false),(.nl 98 tSaved),(.nl 158 tInts),(.nl 3 tI),(.nl 3 tI),(.nl 3 tI),(.nl 3 tI),(.nl 158 tInts),(.ci .i64 0),(.cb false)]) (.ci .i64 (-1)))) (
           .prim .ssub (mkA (.pair .str tIns) [(.p1 .str tI (.vr 0)),(prA (.pair .str tI) 1 (.vr 0)),(prA (.pair tRows tI) 1 (.vr 35))]) <|
           .call 3 (mkA tStage [(.vr 3),(prA (.pair tI (.pair tI tPlan)) 2 (.vr 15)),(prA (.pair tI (.pair tI tModel)) 2 (.vr 21)),(.vr 6),(.vr 9),(prA (.pair tI (.pair tI (.slice 98 tSaved))) 2 (.vr 25)),(.p1 tRows tI (.vr 30)),(.p1 tInts tI (.vr 31)),(.p1 tInts tI (.vr 32)),(.p1 tInts tI (.vr 33)),(.p1 tInts tI (.vr 34)),(.p1 tRows tI (.vr 35)),(.vr 11),(.vr 14)]) <|
           .prim (.seq true) (.mk2 .str .str (.vr 38) (.vr 37)) <|
           .ite (.vr 39) (
            .ret (.mk2 tStage tI (mkA tStage [(.ci .i64 0),(.nl 94 tIns),(.nl 96 tOp),(.cb false),(.cb false),(.nl 98 tSaved),(.nl 158 tInts),(.nl 3 tI),(.nl 3 tI),(.nl 3 tI),(.nl 3 tI),(.nl 158 tInts),(.ci .i64 0),(.cb false)]) (.ci .i64 (-1)))) (
            .ret (.mk2 tStage tI (mkA tStage [(.vr 3),(prA (.pair tI (.pair tI tPlan)) 2 (.vr 15)),(prA (.pair tI (.pair tI tModel)) 2 (.vr 21)),(.vr 6),(.vr 9),(prA (.pair tI (.pair tI (.slice 98 tSaved))) 2 (.vr 25)),(.p1 tRows tI (.vr 30)),(.p1 tInts tI (.vr 31)),(.p1 tInts tI (.vr 32)),(.p1 tInts tI (.vr 33)),(.p1 tInts tI (.vr 34)),(.p1 tRows tI (.vr 35)),(.vr 11),(.vr 14)]) (prA (.pair tRows tI) 1 (.vr 35))))))) (
         .call 2 (.mk2 .str tI (.p1 .str tI (.vr 0)) (pjA (.pair tI (.pair tI (.slice 98 tSaved))) 1 (.vr 25))) <|
         .call 1 (.mk2 .str tI (.p1 .str tI (.vr 0)) (prA (.pair tRows tI) 1 (.vr 29))) <|
         .call 1 (.mk2 .str tI (.p1 .str tI (.vr 0)) (prA (.pair tInts tI) 1 (.vr 30))) <|
         .call 1 (.mk2 .str tI (.p1 .str tI (.vr 0)) (prA (.pair tInts tI) 1 (.vr 31))) <|
         .call 1 (.mk2 .str tI (.p1 .str tI (.vr 0)) (prA (.pair tInts tI) 1 (.vr 32))) <|
         .call 2 (.mk2 .str tI (.p1 .str tI (.vr 0)) (prA (.pair tInts tI) 1 (.vr 33))) <|
         .prim (.cmp .lss .i64) (.mk2 tI tI (prA (.pair tRows tI) 1 (.vr 34)) (.ci .i64 0)) <|
         .ite (.vr 35) (
          .ret (.mk2 tStage tI (mkA tStage [(.ci .i64 0),(.nl 94 tIns),(.nl 96 tOp),(.cb false),(.cb false),(.nl 98 tSaved),(.nl 158 tInts),(.nl 3 tI),(.nl 3 tI),(.nl 3 tI),(.nl 3 tI),(.nl 158 tInts),(.ci .i64 0),(.cb false)]) (.ci .i64 (-1)))) (
          .prim .ssub (mkA (.pair .str tIns) [(.p1 .str tI (.vr 0)),(prA (.pair .str tI) 1 (.vr 0)),(prA (.pair tRows tI) 1 (.vr 34))]) <|
          .call 3 (mkA tStage [(.vr 3),(prA (.pair tI (.pair tI tPlan)) 2 (.vr 15)),(prA (.pair tI (.pair tI tModel)) 2 (.vr 21)),(.vr 6),(.vr 9),(prA (.pair tI (.pair tI (.slice 98 tSaved))) 2 (.vr 25)),(.p1 tRows tI (.vr 29)),(.p1 tInts tI (.vr 30)),(.p1 tInts tI (.vr 31)),(.p1 tInts tI (.vr 32)),(.p1 tInts tI (.vr 33)),(.p1 tRows tI (.vr 34)),(.vr 11),(.vr 14)]) <|
          .prim (.seq true) (.mk2 .str .str (.vr 37) (.vr 36)) <|
          .ite (.vr 38) (
           .ret (.mk2 tStage tI (mkA tStage [(.ci .i64 0),(.nl 94 tIns),(.nl 96 tOp),(.cb false),(.cb false),(.nl 98 tSaved),(.nl 158 tInts),(.nl 3 tI),(.nl 3 tI),(.nl 3 tI),(.nl 3 tI),(.nl 158 tInts),(.ci .i64 0),(.cb false)]) (.ci .i64 (-1)))) (
           .ret (.mk2 tStage tI (mkA tStage [(.vr 3),(prA (.pair tI (.pair tI tPlan)) 2 (.vr 15)),(prA (.pair tI (.pair tI tModel)) 2 (.vr 21)),(.vr 6),(.vr 9),(prA (.pair tI (.pair tI (.slice 98 tSaved))) 2 (.vr 25)),(.p1 tRows tI (.vr 29)),(.p1 tInts tI (.vr 30)),(.p1 tInts tI (.vr 31)),(.p1 tInts tI (.vr 32)),(.p1 tInts tI (.vr 33)),(.p1 tRows tI (.vr 34)),(.vr 11),(.vr 14)]) (prA (.pair tRows tI) 1 (.vr 34))))))))) (
    .loop (.pair tI (.pair tI tModel)) (mkA (.pair tI (.pair tI tModel)) [(.ci .i64 0),(pjA (.pair tI (.pair tI tPlan)) 1 (.vr 15)),(.nl 96 tOp)]) <|
     .prim (.lidx 3 tI) (.mk2 tInts tI (.p1 tInts tI (.vr 1)) (.ci .i64 6)) <|
     .prim (.lidx 3 tI) (.mk2 tInts tI (.p1 tInts tI (.vr 1)) (.ci .i64 6)) <|
     .prim (.cmp .lss .i64) (.mk2 tI tI (.p1 tI (.pair tI tModel) (.vr 20)) (.vr 22)) <|
     .ite (.vr 23) (
      .prim (.cmp .lss .i64) (.mk2 tI tI (.p1 tI (.pair tI tModel) (.vr 20)) (.ci .i64 8)) <|
      .ite (.vr 24) (
       .prim (.cmp .geq .i64) (.mk2 tI tI (pjA (.pair tI (.pair tI tModel)) 1 (.vr 20)) (.ci .i64 0)) <|
       .ite (.vr 25) (
        .call 0 (mkA (.pair .str tIns) [(.p1 .str tI (.vr 0)),(pjA (.pair tI (.pair tI tModel)) 1 (.vr 20)),(.ci .i64 3)]) <|
        .call 1 (.mk2 .str tI (.p1 .str tI (.vr 0)) (prA (.pair tInts tI) 1 (.vr 26))) <|
        .prim (.lidx 3 tI) (.mk2 tInts tI (.p1 tInts tI (.vr 26)) (.ci .i64 0)) <|
        .prim (.lidx 3 tI) (.mk2 tInts tI (.p1 tInts tI (.vr 26)) (.ci .i64 0)) <|
        .prim (.lidx 3 tI) (.mk2 tInts tI (.p1 tInts tI (.vr 26)) (.ci .i64 1)) <|
        .prim (.lidx 3 tI) (.mk2 tInts tI (.p1 tInts tI (.vr 26)) (.ci .i64 1)) <|
        .prim (.lidx 3 tI) (.mk2 tInts tI (.p1 tInts tI (.vr 26)) (.ci .i64 2)) <|
        .prim (.lidx 3 tI) (.mk2 tInts tI (.p1 tInts tI (.vr 26)) (.ci .i64 2)) <|
        .prim (.lit 96 tOp 1) (mkA tOp [(.vr 29),(.vr 31),(.vr 33),(.p1 tInts tI (.vr 27))]) <|
        .prim (.lapp 96 tOp 48) (.mk2 tModel tModel (prA (.pair tI (.pair tI tModel)) 2 (.vr 20)) (.vr 34)) <|
        .prim (.ar .add .i64) (.mk2 tI tI (.p1 tI (.pair tI tModel) (.vr 20)) (.ci .i64 1)) <|
        .again 0 (mkA (.pair tI (.pair tI tModel)) [(.vr 36),(prA (.pair tInts tI) 1 (.vr 27)),(.vr 35)])) (
        .loop (.pair tI (.pair tI (.slice 98 tSaved))) (mkA (.pair tI (.pair tI (.slice 98 tSaved))) [(.ci .i64 0),(pjA (.pair tI (.pair tI tModel)) 1 (.vr 20)),(.nl 98 tSaved)]) <|
         .prim (.lidx 3 tI) (.mk2 tInts tI (.p1 tInts tI (.vr 1)) (.ci .i64 7)) <|
         .prim (.lidx 3 tI) (.mk2 tInts tI (.p1 tInts tI (.vr 1)) (.ci .i64 7)) <|
         .prim (.cmp .lss .i64) (.mk2 tI tI (.p1 tI (.pair tI (.slice 98 tSaved)) (.vr 26)) (.vr 28)) <|
         .ite (.vr 29) (
          .prim (.cmp .lss .i64) (.mk2 tI tI (.p1 tI (.pair tI (.slice 98 tSaved)) (.vr 26)) (.ci .i64 5)) <|
          .ite (.vr 30) (
           .prim (.cmp .geq .i64) (.mk2 tI tI (pjA (.pair tI (.pair tI (.slice 98 tSaved))) 1 (.vr 26)) (.ci .i64 0)) <|
           .ite (.vr 31) (
            .call 0 (mkA (.pair .str tIns) [(.p1 .str tI (.vr 0)),(pjA (.pair tI (.pair tI (.slice 98 tSaved))) 1 (.vr 26)),(.ci .i64 1)]) <|
            .call 2 (.mk2 .str tI (.p1 .str tI (.vr 0)) (prA (.pair tInts tI) 1 (.vr 32))) <|
            .prim (.lidx 3 tI) (.mk2 tInts tI (.p1 tInts tI (.vr 32)) (.ci .i64 0)) <|
            .prim (.lidx 3 tI) (.mk2 tInts tI (.p1 tInts tI (.vr 32)) (.ci .i64 0)) <|
            .prim (.lit 98 tSaved 1) (.mk2 tI tRows (.vr 35) (.p1 tRows tI (.vr 33))) <|
            .prim (.lapp 98 tSaved 32) (.mk2 (.slice 98 tSaved) (.slice 98 tSaved) (prA (.pair tI (.pair tI (.slice 98 tSaved))) 2 (.vr 26)) (.vr 36)) <|
            .prim (.ar .add .i64) (.mk2 tI tI (.p1 tI (.pair tI (.slice 98 tSaved)) (.vr 26)) (.ci .i64 1)) <|
            .again 0 (mkA (.pair tI (.pair tI (.slice 98 tSaved))) [(.vr 38),(prA (.pair tRows tI) 1 (.vr 33)),(.vr 37)])) (
            .call 2 (.mk2 .str tI (.p1 .str tI (.vr 0)) (pjA (.pair tI (.pair tI (.slice 98 tSaved))) 1 (.vr 26))) <|
            .call 1 (.mk2 .str tI (.p1 .str tI (.vr 0)) (prA (.pair tRows tI) 1 (.vr 32))) <|
            .call 1 (.mk2 .str tI (.p1 .str tI (.vr 0)) (prA (.pair tInts tI) 1 (.vr 33))) <|
            .call 1 (.mk2 .str tI (.p1 .str tI (.vr 0)) (prA (.pair tInts tI) 1 (.vr 34))) <|
            .call 1 (.mk2 .str tI (.p1 .str tI (.vr 0)) (prA (.pair tInts tI) 1 (.vr 35))) <|
            .call 2 (.mk2 .str tI (.p1 .str tI (.vr 0)) (prA (.pair tInts tI) 1 (.vr 36))) <|
            .prim (.cmp .lss .i64) (.mk2 tI tI (prA (.pair tRows tI) 1 (.vr 37)) (.ci .i64 0)) <|
            .ite (.vr 38) (
             .ret (.mk2 tStage tI (mkA tStage [(.ci .i64 0),(.nl 94 tIns),(.nl 96 tOp),(.cb false),(.cb false),(.nl 98 tSaved),(.nl 158 tInts),(.nl 3 tI),(.nl 3 tI),(.nl 3 tI),(.nl 3 tI),(.nl 158 tInts),(.ci .i64 0),(.cb false)]) (.ci .i64 (-1)))) (
             .prim .ssub (mkA (.pair .str tIns) [(.p1 .str tI (.vr 0)),(prA (.pair .str tI) 1 (.vr 0)),(prA (.pair tRows tI) 1 (.vr 37))]) <|
             .call 3 (mkA tStage [(.vr 3),(prA (.pair tI (.pair tI tPlan)) 2 (.vr 15)),(prA (.pair tI (.pair tI tModel)) 2 (.vr 20)),(.vr 6),(.vr 9),(prA (.pair tI (.pair tI (.slice 98 tSaved))) 2 (.vr 26)),(.p1 tRows tI (.vr 32)),(.p1 tInts tI (.vr 33)),(.p1 tInts tI (.vr 34)),(.p1 tInts tI (.vr 35)),(.p1 tInts tI (.vr 36)),(.p1 tRows tI (.vr 37)),(.vr 11),(.vr 14)]) <|
             .prim (.seq true) (.mk2 .str .str (.vr 40) (.vr 39)) <|
             .ite (.vr 41) (
              .ret (.mk2 tStage tI (mkA tStage [(.ci .i64 0),(.nl 94 tIns),(.nl 96 tOp),(.cb false),(.cb false),(.nl 98 tSaved),(.nl 158 tInts),(.nl 3 tI),(.nl 3 tI),(.nl 3 tI),(.nl 3 tI),(.nl 158 tInts),(.ci .i64 0),(.cb false)]) (.ci .i64 (-1)))) (
              .ret (.mk2 tStage tI (mkA tStage [(.vr 3),(prA (.pair tI (.pair tI tPlan)) 2 (.vr 15)),(prA (.pair tI (.pair tI tModel)) 2 (.vr 20)),(.vr 6),(.vr 9),(prA (.pair tI (.pair tI (.slice 98 tSaved))) 2 (.vr 26)),(.p1 tRows tI (.vr 32)),(.p1 tInts tI (.vr 33)),(.p1 tInts tI (.vr 34)),(.p1 tInts tI (.vr 35)),(.p1 tInts tI (.vr 36)),(.p1 tRows tI (.vr 37)),(.vr 11),(.vr 14)]) (prA (.pair tRows tI) 1 (.vr 37))))))) (
           .call 2 (.mk2 .str tI (.p1 .str tI (.vr 0)) (pjA (.pair tI (.pair tI (.slice 98 tSaved))) 1 (.vr 26))) <|
           .call 1 (.mk2 .str tI (.p1 .str tI (.vr 0)) (prA (.pair tRows tI) 1 (.vr 31))) <|
           .call 1 (.mk2 .str tI (.p1 .str tI (.vr 0)) (prA (.pair tInts tI) 1 (.vr 32))) <|
           .call 1 (.mk2 .str tI (.p1 .str tI (.vr 0)) (prA (.pair tInts tI) 1 (.vr 33))) <|
           .call 1 (.mk2 .str tI (.p1 .str tI (.vr 0)) (prA (.pair tInts tI) 1 (.vr 34))) <|
           .call 2 (.mk2 .str tI (.p1 .str tI (.vr 0)) (prA (.pair tInts tI) 1 (.vr 35))) <|
           .prim (.cmp .lss .i64) (.mk2 tI tI (prA (.pair tRows tI) 1 (.vr 36)) (.ci .i64 0)) <|
           .ite (.vr 37) (
            .ret (.mk2 tStage tI (mkA tStage [(.ci .i64 0),(.nl 94 tIns),(.nl 96 tOp),(.cb false),(.cb false),(.nl 98 tSaved),(.nl 158 tInts),(.nl 3 tI),(.nl 3 tI),(.nl 3 tI),(.nl 3 tI),(.nl 158 tInts),(.ci .i64 0),(.cb false)]) (.ci .i64 (-1)))) (
            .prim .ssub (mkA (.pair .str tIns) [(.p1 .str tI (.vr 0)),(prA (.pair .str tI) 1 (.vr 0)),(prA (.pair tRows tI) 1 (.vr 36))]) <|
            .call 3 (mkA tStage [(.vr 3),(prA (.pair tI (.pair tI tPlan)) 2 (.vr 15)),(prA (.pair tI (.pair tI tModel)) 2 (.vr 20)),(.vr 6),(.vr 9),(prA (.pair tI (.pair tI (.slice 98 tSaved))) 2 (.vr 26)),(.p1 tRows tI (.vr 31)),(.p1 tInts tI (.vr 32)),(.p1 tInts tI (.vr 33)),(.p1 tInts tI (.vr 34)),(.p1 tInts tI (.vr 35)),(.p1 tRows tI (.vr 36)),(.vr 11),(.vr 14)]) <|
            .prim (.seq true) (.mk2 .str .str (.vr 39) (.vr 38)) <|
            .ite (.vr 40) (
             .ret (.mk2 tStage tI (mkA tStage [(.ci .i64 0),(.nl 94 tIns),(.nl 96 tOp),(.cb false),(.cb false),(.nl 98 tSaved),(.nl 158 tInts),(.nl 3 tI),(.nl 3 tI),(.nl 3 tI),(.nl 3 tI),(.nl 158 tInts),(.ci .i64 0),(.cb false)]) (.ci .i64 (-1)))) (
             .ret (.mk2 tStage tI (mkA tStage [(.vr 3),(prA (.pair tI (.pair tI tPlan)) 2 (.vr 15)),(prA (.pair tI (.pair tI tModel)) 2 (.vr 20)),(.vr 6),(.vr 9),(prA (.pair tI (.pair tI (.slice 98 tSaved))) 2 (.vr 26)),(.p1 tRows tI (.vr 31)),(.p1 tInts tI (.vr 32)),(.p1 tInts tI (.vr 33)),(.p1 tInts tI (.vr 34)),(.p1 tInts tI (.vr 35)),(.p1 tRows tI (.vr 36)),(.vr 11),(.vr 14)]) (prA (.pair tRows tI) 1 (.vr 36))))))) (
          .call 2 (.mk2 .str tI (.p1 .str tI (.vr 0)) (pjA (.pair tI (.pair tI (.slice 98 tSaved))) 1 (.vr 26))) <|
          .call 1 (.mk2 .str tI (.p1 .str tI (.vr 0)) (prA (.pair tRows tI) 1 (.vr 30))) <|
          .call 1 (.mk2 .str tI (.p1 .str tI (.vr 0)) (prA (.pair tInts tI) 1 (.vr 31))) <|
          .call 1 (.mk2 .str tI (.p1 .str tI (.vr 0)) (prA (.pair tInts tI) 1 (.vr 32))) <|
          .call 1 (.mk2 .str tI (.p1 .str tI (.vr 0)) (prA (.pair tInts tI) 1 (.vr 33))) <|
          .call 2 (.mk2 .str tI (.p1 .str tI (.vr 0)) (prA (.pair tInts tI) 1 (.vr 34))) <|
          .prim (.cmp .lss .i64) (.mk2 tI tI (prA (.pair tRows tI) 1 (.vr 35)) (.ci .i64 0)) <|
          .ite (.vr 36) (
           .ret (.mk2 tStage tI (mkA tStage [(.ci .i64 0),(.nl 94 tIns),(.nl 96 tOp),(.cb false),(.cb false),(.nl 98 tSaved),(.nl 158 tInts),(.nl 3 tI),(.nl 3 tI),(.nl 3 tI),(.nl 3 tI),(.nl 158 tInts),(.ci .i64 0),(.cb false)]) (.ci .i64 (-1)))) (
           .prim .ssub (mkA (.pair .str tIns) [(.p1 .str tI (.vr 0)),(prA (.pair .str tI) 1 (.vr 0)),(prA (.pair tRows tI) 1 (.vr 35))]) <|
           .call 3 (mkA tStage [(.vr 3),(prA (.pair tI (.pair tI tPlan)) 2 (.vr 15)),(prA (.pair tI (.pair tI tModel)) 2 (.vr 20)),(.vr 6),(.vr 9),(prA (.pair tI (.pair tI (.slice 98 tSaved))) 2 (.vr 26)),(.p1 tRows tI (.vr 30)),(.p1 tInts tI (.vr 31)),(.p1 tInts tI (.vr 32)),(.p1 tInts tI (.vr 33)),(.p1 tInts tI (.vr 34)),(.p1 tRows tI (.vr 35)),(.vr 11),(.vr 14)]) <|
           .prim (.seq true) (.mk2 .str .str (.vr 38) (.vr 37)) <|
           .ite (.vr 39) (
            .ret (.mk2 tStage tI (mkA tStage [(.ci .i64 0),(.nl 94 tIns),(.nl 96 tOp),(.cb false),(.cb false),(.nl 98 tSaved),(.nl 158 tInts),(.nl 3 tI),(.nl 3 tI),(.nl 3 tI),(.nl 3 tI),(.nl 158 tInts),(.ci .i64 0),(.cb false)]) (.ci .i64 (-1)))) (
            .ret (.mk2 tStage tI (mkA tStage [(.vr 3),(prA (.pair tI (.pair tI tPlan)) 2 (.vr 15)),(prA (.pair tI (.pair tI tModel)) 2 (.vr 20)),(.vr 6),(.vr 9),(prA (.pair tI (.pair tI (.slice 98 tSaved))) 2 (.vr 26)),(.p1 tRows tI (.vr 30)),(.p1 tInts tI (.vr 31)),(.p1 tInts tI (.vr 32)),(.p1 tInts tI (.vr 33)),(.p1 tInts tI (.vr 34)),(.p1 tRows tI (.vr 35)),(.vr 11),(.vr 14)]) (prA (.pair tRows tI) 1 (.vr 35)))))))) (
       .loop (.pair tI (.pair tI (.slice 98 tSaved))) (mkA (.pair tI (.pair tI (.slice 98 tSaved))) [(.ci .i64 0),(pjA (.pair tI (.pair tI tModel)) 1 (.vr 20)),(.nl 98 tSaved)]) <|
        .prim (.lidx 3 tI) (.mk2 tInts tI (.p1 tInts tI (.vr 1)) (.ci .i64 7)) <|
        .prim (.lidx 3 tI) (.mk2 tInts tI (.p1 tInts tI (.vr 1)) (.ci .i64 7)) <|
        .prim (.cmp .lss .i64) (.mk2 tI tI (.p1 tI (.pair tI (.slice 98 tSaved)) (.vr 25)) (.vr 27)) <|
        .ite (.vr 28) (
         .prim (.cmp .lss .i64) (.mk2 tI tI (.p1 tI (.pair tI (.slice 98 tSaved)) (.vr 25)) (.ci .i64 5)) <|
         .ite (.vr 29) (
          .prim (.cmp .geq .i64) (.mk2 tI tI (pjA (.pair tI (.pair tI (.slice 98 tSaved))) 1 (.vr 25)) (.ci .i64 0)) <|
          .ite (.vr 30) (
           .call 0 (mkA (.pair .str tIns) [(.p1 .str tI (.vr 0)),(pjA (.pair tI (.pair tI (.slice 98 tSaved))) 1 (.vr 25)),(.ci .i64 1)]) <|
           .call 2 (.mk2 .str tI (.p1 .str tI (.vr 0)) (prA (.pair tInts tI) 1 (.vr 31))) <|
           .prim (.lidx 3 tI) (.mk2 tInts tI (.p1 tInts tI (.vr 31)) (.ci .i64 0)) <|
           .prim (.lidx 3 tI) (.mk2 tInts tI (.p1 tInts tI (.vr 31)) (.ci .i64 0)) <|
           .prim (.lit 98 tSaved 1) (.mk2 tI tRows (.vr 34) (.p1 tRows tI (.vr 32))) <|
           .prim (.lapp 98 tSaved 32) (.mk2 (.slice 98 tSaved) (.slice 98 tSaved) (prA (.pair tI (.pair tI (.slice 98 tSaved))) 2 (.vr 25)) (.vr 35)) <|
           .prim (.ar .add .i64) (.mk2 tI tI (.p1 tI (.pair tI (.slice 98 tSaved)) (.vr 25)) (.ci .i64 1)) <|
           .again 0 (mkA (.pair tI (.pair tI (.slice 98 tSaved))) [(.vr 37),(prA (.pair tRows tI) 1 (.vr 32)),(.vr 36)])) (
           .call 2 (.mk2 .str tI (.p1 .str tI (.vr 0)) (pjA (.pair tI (.pair tI (.slice 98 tSaved))) 1 (.vr 25))) <|
           .call 1 (.mk2 .str tI (.p1 .str tI (.vr 0)) (prA (.pair tRows tI) 1 (.vr 31))) <|
           .call 1 (.mk2 .str tI (.p1 .str tI (.vr 0)) (prA (.pair tInts tI) 1 (.vr 32))) <|
           .call 1 (.mk2 .str tI (.p1 .str tI (.vr 0)) (prA (.pair tInts tI) 1 (.vr 33))) <|
           .call 1 (.mk2 .str tI (.p1 .str tI (.vr 0)) (prA (.pair tInts tI) 1 (.vr 34))) <|
           .call 2 (.mk2 .str tI (.p1 .str tI (.vr 0)) (prA (.pair tInts tI) 1 (.vr 35))) <|
           .prim (.cmp .lss .i64) (.mk2 tI tI (prA (.pair tRows tI) 1 (.vr 36)) (.ci .i64 0)) <|
           .ite (.vr 37) (
            .ret (.mk2 tStage tI (mkA tStage [(.ci .i64 0),(.nl 94 tIns),(.nl 96 tOp),(.cb false),(.cb false),(.nl 98 tSaved),(.nl 158 tInts),(.nl 3 tI),(.nl 3 tI),(.nl 3 tI),(.nl 3 tI),(.nl 158 tInts),(.ci .i64 0),(.cb false)]) (.ci .i64 (-1)))) (
            .prim .ssub (mkA (.pair .str tIns) [(.p1 .str tI (.vr 0)),(prA (.pair .str tI) 1 (.vr 0)),(prA (.pair tRows tI) 1 (.vr 36))]) <|
            .call 3 (mkA tStage [(.vr 3),(prA (.pair tI (.pair tI tPlan)) 2 (.vr 15)),(prA (.pair tI (.pair tI tModel)) 2 (.vr 20)),(.vr 6),(.vr 9),(prA (.pair tI (.pair tI (.slice 98 tSaved))) 2 (.vr 25)),(.p1 tRows tI (.vr 31)),(.p1 tInts tI (.vr 32)),(.p1 tInts tI (.vr 33)),(.p1 tInts tI (.vr 34)),(.p1 tInts tI (.vr 35)),(.p1 tRows tI (.vr 36)),(.vr 11),(.vr 14)]) <|
            .prim (.seq true) (.mk2 .str .str (.vr 39) (.vr 38)) <|
            .ite (.vr 40) (
             .ret (.mk2 tStage tI (mkA tStage [(.ci .i64 0),(.nl 94 tIns),(.nl 96 tOp),(.cb false),(.cb false),(.nl 98 tSaved),(.nl 158 tInts),(.nl 3 tI),(.nl 3 tI),(.nl 3 tI),(.nl 3 tI),(.nl 158 tInts),(.ci .i64 0),(.cb false)]) (.ci .i64 (-1)))) (
             .ret (.mk2 tStage tI (mkA tStage [(.vr 3),(prA (.pair tI (.pair tI tPlan)) 2 (.vr 15)),(prA (.pair tI (.pair tI tModel)) 2 (.vr 20)),(.vr 6),(.vr 9),(prA (.pair tI (.pair tI (.slice 98 tSaved))) 2 (.vr 25)),(.p1 tRows tI (.vr 31)),(.p1 tInts tI (.vr 32)),(.p1 tInts tI (.vr 33)),(.p1 tInts tI (.vr 34)),(.p1 tInts tI (.vr 35)),(.p1 tRows tI (.vr 36)),(.vr 11),(.vr 14)]) (prA (.pair tRows tI) 1 (.vr 36))))))) (
          .call 2 (.mk2 .str tI (.p1 .str tI (.vr 0)) (pjA (.pair tI (.pair tI (.slice 98 tSaved))) 1 (.vr 25))) <|
          .call 1 (.mk2 .str tI (.p1 .str tI (.vr 0)) (prA (.pair tRows tI) 1 (.vr 30))) <|
          .call 1 (.mk2 .str tI (.p1 .str tI (.vr 0)) (prA (.pair tInts tI) 1 (.vr 31))) <|
          .call 1 (.mk2 .str tI (.p1 .str tI (.vr 0)) (prA (.pair tInts tI) 1 (.vr 32))) <|
          .call 1 (.mk2 .str tI (.p1 .str tI (.vr 0)) (prA (.pair tInts tI) 1 (.vr 33))) <|
          .call 2 (.mk2 .str tI (.p1 .str tI (.vr 0)) (prA (.pair tInts tI) 1 (.vr 34))) <|
          .prim (.cmp .lss .i64) (.mk2 tI tI (prA (.pair tRows tI) 1 (.vr 35)) (.ci .i64 0)) <|
          .ite (.vr 36) (
           .ret (.mk2 tStage tI (mkA tStage [(.ci .i64 0),(.nl 94 tIns),(.nl 96 tOp),(.cb false),(.cb false),(.nl 98 tSaved),(.nl 158 tInts),(.nl 3 tI),(.nl 3 tI),(.nl 3 tI),(.nl 3 tI),(.nl 158 tInts),(.ci .i64 0),(.cb false)]) (.ci .i64 (-1)))) (
           .prim .ssub (mkA (.pair .str tIns) [(.p1 .str tI (.vr 0)),(prA (.pair .str tI) 1 (.vr 0)),(prA (.pair tRows tI) 1 (.vr 35))]) <|
           .call 3 (mkA tStage [(.vr 3),(prA (.pair tI (.pair tI tPlan)) 2 (.vr 15)),(prA (.pair tI (.pair tI tModel)) 2 (.vr 20)),(.vr 6),(.vr 9),(prA (.pair tI (.pair tI (.slice 98 tSaved))) 2 (.vr 25)),(.p1 tRows tI (.vr 30)),(.p1 tInts tI (.vr 31)),(.p1 tInts tI (.vr 32)),(.p1 tInts tI (.vr 33)),(.p1 tInts tI (.vr 34)),(.p1 tRows tI (.vr 35)),(.vr 11),(.vr 14)]) <|
           .prim (.seq true) (.mk2 .str .str (.vr 38) (.vr 37)) <|
           .ite (.vr 39) (
            .ret (.mk2 tStage tI (mkA tStage [(.ci .i64 0),(.nl 94 tIns),(.nl 96 tOp),(.cb false),(.cb false),(.nl 98 tSaved),(.nl 158 tInts),(.nl 3 tI),(.nl 3 tI),(.nl 3 tI),(.nl 3 tI),(.nl 158 tInts),(.ci .i64 0),(.cb false)]) (.ci .i64 (-1)))) (
            .ret (.mk2 tStage tI (mkA tStage [(.vr 3),(prA (.pair tI (.pair tI tPlan)) 2 (.vr 15)),(prA (.pair tI (.pair tI tModel)) 2 (.vr 20)),(.vr 6),(.vr 9),(prA (.pair tI (.pair tI (.slice 98 tSaved))) 2 (.vr 25)),(.p1 tRows tI (.vr 30)),(.p1 tInts tI (.vr 31)),(.p1 tInts tI (.vr 32)),(.p1 tInts tI (.vr 33)),(.p1 tInts tI (.vr 34)),(.p1 tRows tI (.vr 35)),(.vr 11),(.vr 14)]) (prA (.pair tRows tI) 1 (.vr 35))))))) (
         .call 2 (.mk2 .str tI (.p1 .str tI (.vr 0)) (pjA (.pair tI (.pair tI (.slice 98 tSaved))) 1 (.vr 25))) <|
         .call 1 (.mk2 .str tI (.p1 .str tI (.vr 0)) (prA (.pair tRows tI) 1 (.vr 29))) <|
         .call 1 (.mk2 .str tI (.p1 .str tI (.vr 0)) (prA (.pair tInts tI) 1 (.vr 30))) <|
         .call 1 (.mk2 .str tI (.p1 .str tI (.vr 0)) (prA (.pair tInts tI) 1 (.vr 31))) <|
         .call 1 (.mk2 .str tI (.p1 .str tI (.vr 0)) (prA (.pair tInts tI) 1 (.vr 32))) <|
         .call 2 (.mk2 .str tI (.p1 .str tI (.vr 0)) (prA (.pair tInts tI) 1 (.vr 33))) <|
         .prim (.cmp .lss .i64) (.mk2 tI tI (prA (.pair tRows tI) 1 (.vr 34)) (.ci .i64 0)) <|
         .ite (.vr 35) (
          .ret (.mk2 tStage tI (mkA tStage [(.ci .i64 0),(.nl 94 tIns),(.nl 96 tOp),(.cb false),(.cb false),(.nl 98 tSaved),(.nl 158 tInts),(.nl 3 tI),(.nl 3 tI),(.nl 3 tI),(.nl 3 tI),(.nl 158 tInts),(.ci .i64 0),(.cb false)]) (.ci .i64 (-1)))) (
          .prim .ssub (mkA (.pair .str tIns) [(.p1 .str tI (.vr 0)),(prA (.pair .str tI) 1 (.vr 0)),(prA (.pair tRows tI) 1 (.vr 34))]) <|
          .call 3 (mkA tStage [(.vr 3),(prA (.pair tI (.pair tI tPlan)) 2 (.vr 15)),(prA (.pair tI (.pair tI tModel)) 2 (.vr 20)),(.vr 6),(.vr 9),(prA (.pair tI (.pair tI (.slice 98 tSaved))) 2 (.vr 25)),(.p1 tRows tI (.vr 29)),(.p1 tInts tI (.vr 30)),(.p1 tInts tI (.vr 31)),(.p1 tInts tI (.vr 32)),(.p1 tInts tI (.vr 33)),(.p1 tRows tI (.vr 34)),(.vr 11),(.vr 14)]) <|
          .prim (.seq true) (.mk2 .str .str (.vr 37) (.vr 36)) <|
          .ite (.vr 38) (
           .ret (.mk2 tStage tI (mkA tStage [(.ci .i64 0),(.nl 94 tIns),(.nl 96 tOp),(.cb false),(.cb false),(.nl 98 tSaved),(.nl 158 tInts),(.nl 3 tI),(.nl 3 tI),(.nl 3 tI),(.nl 3 tI),(.nl 158 tInts),(.ci .i64 0),(.cb false)]) (.ci .i64 (-1)))) (
           .ret (.mk2 tStage tI (mkA tStage [(.vr 3),(prA (.pair tI (.pair tI tPlan)) 2 (.vr 15)),(prA (.pair tI (.pair tI tModel)) 2 (.vr 20)),(.vr 6),(.vr 9),(prA (.pair tI (.pair tI (.slice 98 tSaved))) 2 (.vr 25)),(.p1 tRows tI (.vr 29)),(.p1 tInts tI (.vr 30)),(.p1 tInts tI (.vr 31)),(.p1 tInts tI (.vr 32)),(.p1 tInts tI (.vr 33)),(.p1 tRows tI (.vr 34)),(.vr 11),(.vr 14)]) (prA (.pair tRows tI) 1 (.vr 34)))))))) (
      .loop (.pair tI (.pair tI (.slice 98 tSaved))) (mkA (.pair tI (.pair tI (.slice 98 tSaved))) [(.ci .i64 0),(pjA (.pair tI (.pair tI tModel)) 1 (.vr 20)),(.nl 98 tSaved)]) <|
       .prim (.lidx 3 tI) (.mk2 tInts tI (.p1 tInts tI (.vr 1)) (.ci .i64 7)) <|
       .prim (.lidx 3 tI) (.mk2 tInts tI (.p1 tInts tI (.vr 1)) (.ci .i64 7)) <|
       .prim (.cmp .lss .i64) (.mk2 tI tI (.p1 tI (.pair tI (.slice 98 tSaved)) (.vr 24)) (.vr 26)) <|
       .ite (.vr 27) (
        .prim (.cmp .lss .i64) (.mk2 tI tI (.p1 tI (.pair tI (.slice 98 tSaved)) (.vr 24)) (.ci .i64 5)) <|
        .ite (.vr 28) (
         .prim (.cmp .geq .i64) (.mk2 tI tI (pjA (.pair tI (.pair tI (.slice 98 tSaved))) 1 (.vr 24)) (.ci .i64 0)) <|
         .ite (.vr 29) (
          .call 0 (mkA (.pair .str tIns) [(.p1 .str tI (.vr 0)),(pjA (.pair tI (.pair tI (.slice 98 tSaved))) 1 (.vr 24)),(.ci .i64 1)]) <|
          .call 2 (.mk2 .str tI (.p1 .str tI (.vr 0)) (prA (.pair tInts tI) 1 (.vr 30))) <|
          .prim (.lidx 3 tI) (.mk2 tInts tI (.p1 tInts tI (.vr 30)) (.ci .i64 0)) <|
          .prim (.lidx 3 tI) (.mk2 tInts tI (.p1 tInts tI (.vr 30)) (.ci .i64 0)) <|
          .prim (.lit 98 tSaved 1) (.mk2 tI tRows (.vr 33) (.p1 tRows tI (.vr 31))) <|
          .prim (.lapp 98 tSaved 32) (.mk2 (.slice 98 tSaved) (.slice 98 tSaved) (prA (.pair tI (.pair tI (.slice 98 tSaved))) 2 (.vr 24)) (.vr 34)) <|
          .prim (.ar .add .i64) (.mk2 tI tI (.p1 tI (.pair tI (.slice 98 tSaved)) (.vr 24)) (.ci .i64 1)) <|
          .again 0 (mkA (.pair tI (.pair tI (.slice 98 tSaved))) [(.vr 36),(prA (.pair tRows tI) 1 (.vr 31)),(.vr 35)])) (
          .call 2 (.mk2 .str tI (.p1 .str tI (.vr 0)) (pjA (.pair tI (.pair tI (.slice 98 tSaved))) 1 (.vr 24))) <|
          .call 1 (.mk2 .str tI (.p1 .str tI (.vr 0)) (prA (.pair tRows tI) 1 (.vr 30))) <|
          .call 1 (.mk2 .str tI (.p1 .str tI (.vr 0)) (prA (.pair tInts tI) 1 (.vr 31))) <|
          .call 1 (.mk2 .str tI (.p1 .str tI (.vr 0)) (prA (.pair tInts tI) 1 (.vr 32))) <|
          .call 1 (.mk2 .str tI (.p1 .str tI (.vr 0)) (prA (.pair tInts tI) 1 (.vr 33))) <|
          .call 2 (.mk2 .str tI (.p1 .str tI (.vr 0)) (prA (.pair tInts tI) 1 (.vr 34))) <|
          .prim (.cmp .lss .i64) (.mk2 tI tI (prA (.pair tRows tI) 1 (.vr 35)) (.ci .i64 0)) <|
          .ite (.vr 36) (
           .ret (.mk2 tStage tI (mkA tStage [(.ci .i64 0),(.nl 94 tIns),(.nl 96 tOp),(.cb false),(.cb false),(.nl 98 tSaved),(.nl 158 tInts),(.nl 3 tI),(.nl 3 tI),(.nl 3 tI),(.nl 3 tI),(.nl 158 tInts),(.ci .i64 0),(.cb false)]) (.ci .i64 (-1)))) (
           .prim .ssub (mkA (.pair .str tIns) [(.p1 .str tI (.vr 0)),(prA (.pair .str tI) 1 (.vr 0)),(prA (.pair tRows tI) 1 (.vr 35))]) <|
           .call 3 (mkA tStage [(.vr 3),(prA (.pair tI (.pair tI tPlan)) 2 (.vr 15)),(prA (.pair tI (.pair tI tModel)) 2 (.vr 20)),(.vr 6),(.vr 9),(prA (.pair tI (.pair tI (.slice 98 tSaved))) 2 (.vr 24)),(.p1 tRows tI (.vr 30)),(.p1 tInts tI (.vr 31)),(.p1 tInts tI (.vr 32)),(.p1 tInts tI (.vr 33)),(.p1 tInts tI (.vr 34)),(.p1 tRows tI (.vr 35)),(.vr 11),(.vr 14)]) <|
           .prim (.seq true) (.mk2 .str .str (.vr 38) (.vr 37)) <|
           .ite (.vr 39) (
            .ret (.mk2 tStage tI (mkA tStage [(.ci .i64 0),(.nl 94 tIns),(.nl 96 tOp),(.cb false),(.cb false),(.nl 98 tSaved),(.nl 158 tInts),(.nl 3 tI),(.nl 3 tI),(.nl 3 tI),(.nl 3 tI),(.nl 158 tInts),(.ci .i64 0),(.cb false)]) (.ci .i64 (-1)))) (
            .ret (.mk2 tStage tI (mkA tStage [(.vr 3),(prA (.pair tI (.pair tI tPlan)) 2 (.vr 15)),(prA (.pair tI (.pair tI tModel)) 2 (.vr 20)),(.vr 6),(.vr 9),(prA (.pair tI (.pair tI (.slice 98 tSaved))) 2 (.vr 24)),(.p1 tRows tI (.vr 30)),(.p1 tInts tI (.vr 31)),(.p1 tInts tI (.vr 32)),(.p1 tInts tI (.vr 33)),(.p1 tInts tI (.vr 34)),(.p1 tRows tI (.vr 35)),(.vr 11),(.vr 14)]) (prA (.pair tRows tI) 1 (.vr 35))))))) (
         .call 2 (.mk2 .str tI (.p1 .str tI (.vr 0)) (pjA (.pair tI (.pair tI (.slice 98 tSaved))) 1 (.vr 24))) <|
         .call 1 (.mk2 .str tI (.p1 .str tI (.vr 0)) (prA (.pair tRows tI) 1 (.vr 29))) <|
         .call 1 (.mk2 .str tI (.p1 .str tI (.vr 0)) (prA (.pair tInts tI) 1 (.vr 30))) <|
         .call 1 (.mk2 .str tI (.p1 .str tI (.vr 0)) (prA (.pair tInts tI) 1 (.vr 31))) <|
         .call 1 (.mk2 .str tI (.p1 .str tI (.vr 0)) (prA (.pair tInts tI) 1 (.vr 32))) <|
         .call 2 (.mk2 .str tI (.p1 .str tI (.vr 0)) (prA (.pair tInts tI) 1 (.vr 33))) <|
         .prim (.cmp .lss .i64) (.mk2 tI tI (prA (.pair tRows tI) 1 (.vr 34)) (.ci .i64 0)) <|
         .ite (.vr 35) (
          .ret (.mk2 tStage tI (mkA tStage [(.ci .i64 0),(.nl 94 tIns),(.nl 96 tOp),(.cb false),(.cb false),(.nl 98 tSaved),(.nl 158 tInts),(.nl 3 tI),(.nl 3 tI),(.nl 3 tI),(.nl 3 tI),(.nl 158 tInts),(.ci .i64 0),(.cb false)]) (.ci .i64 (-1)))) (
          .prim .ssub (mkA (.pair .str tIns) [(.p1 .str tI (.vr 0)),(prA (.pair .str tI) 1 (.vr 0)),(prA (.pair tRows tI) 1 (.vr 34))]) <|
          .call 3 (mkA tStage [(.vr 3),(prA (.pair tI (.pair tI tPlan)) 2 (.vr 15)),(prA (.pair tI (.pair tI tModel)) 2 (.vr 20)),(.vr 6),(.vr 9),(prA (.pair tI (.pair tI (.slice 98 tSaved))) 2 (.vr 24)),(.p1 tRows tI (.vr 29)),(.p1 tInts tI (.vr 30)),(.p1 tInts tI (.vr 31)),(.p1 tInts tI (.vr 32)),(.p1 tInts tI (.vr 33)),(.p1 tRows tI (.vr 34)),(.vr 11),(.vr 14)]) <|
          .prim (.seq true) (.mk2 .str .str (.vr 37) (.vr 36)) <|
          .ite (.vr 38) (
           .ret (.mk2 tStage tI (mkA tStage [(.ci .i64 0),(.nl 94 tIns),(.nl 96 tOp),(.cb false),(.cb false),(.nl 98 tSaved),(.nl 158 tInts),(.nl 3 tI),(.nl 3 tI),(.nl 3 tI),(.nl 3 tI),(.nl 158 tInts),(.ci .i64 0),(.cb false)]) (.ci .i64 (-1)))) (
           .ret (.mk2 tStage tI (mkA tStage [(.vr 3),(prA (.pair tI (.pair tI tPlan)) 2 (.vr 15)),(prA (.pair tI (.pair tI tModel)) 2 (.vr 20)),(.vr 6),(.vr 9),(prA (.pair tI (.pair tI (.slice 98 tSaved))) 2 (.vr 24)),(.p1 tRows tI (.vr 29)),(.p1 tInts tI (.vr 30)),(.p1 tInts tI (.vr 31)),(.p1 tInts tI (.vr 32)),(.p1 tInts tI (.vr 33)),(.p1 tRows tI (.vr 34)),(.vr 11),(.vr 14)]) (prA (.pair tRows tI) 1 (.vr 34))))))) (
        .call 2 (.mk2 .str tI (.p1 .str tI (.vr 0)) (pjA (.pair tI (.pair tI (.slice 98 tSaved))) 1 (.vr 24))) <|
        .call 1 (.mk2 .str tI (.p1 .str tI (.vr 0)) (prA (.pair tRows tI) 1 (.vr 28))) <|
        .call 1 (.mk2 .str tI (.p1 .str tI (.vr 0)) (prA (.pair tInts tI) 1 (.vr 29))) <|
        .call 1 (.mk2 .str tI (.p1 .str tI (.vr 0)) (prA (.pair tInts tI) 1 (.vr 30))) <|
        .call 1 (.mk2 .str tI (.p1 .str tI (.vr 0)) (prA (.pair tInts tI) 1 (.vr 31))) <|
        .call 2 (.mk2 .str tI (.p1 .str tI (.vr 0)) (prA (.pair tInts tI) 1 (.vr 32))) <|
        .prim (.cmp .lss .i64) (.mk2 tI tI (prA (.pair tRows tI) 1 (.vr 33)) (.ci .i64 0)) <|
        .ite (.vr 34) (
         .ret (.mk2 tStage tI (mkA tStage [(.ci .i64 0),(.nl 94 tIns),(.nl 96 tOp),(.cb false),(.cb false),(.nl 98 tSaved),(.nl 158 tInts),(.nl 3 tI),(.nl 3 tI),(.nl 3 tI),(.nl 3 tI),(.nl 158 tInts),(.ci .i64 0),(.cb false)]) (.ci .i64 (-1)))) (
         .prim .ssub (mkA (.pair .str tIns) [(.p1 .str tI (.vr 0)),(prA (.pair .str tI) 1 (.vr 0)),(prA (.pair tRows tI) 1 (.vr 33))]) <|
         .call 3 (mkA tStage [(.vr 3),(prA (.pair tI (.pair tI tPlan)) 2 (.vr 15)),(prA (.pair tI (.pair tI tModel)) 2 (.vr 20)),(.vr 6),(.vr 9),(prA (.pair tI (.pair tI (.slice 98 tSaved))) 2 (.vr 24)),(.p1 tRows tI (.vr 28)),(.p1 tInts tI (.vr 29)),(.p1 tInts tI (.vr 30)),(.p1 tInts tI (.vr 31)),(.p1 tInts tI (.vr 32)),(.p1 tRows tI (.vr 33)),(.vr 11),(.vr 14)]) <|
         .prim (.seq true) (.mk2 .str .str (.vr 36) (.vr 35)) <|
         .ite (.vr 37) (
          .ret (.mk2 tStage tI (mkA tStage [(.ci .i64 0),(.nl 94 tIns),(.nl 96 tOp),(.cb false),(.cb false),(.nl 98 tSaved),(.nl 158 tInts),(.nl 3 tI),(.nl 3 tI),(.nl 3 tI),(.nl 3 tI),(.nl 158 tInts),(.ci .i64 0),(.cb false)]) (.ci .i64 (-1)))) (
          .ret (.mk2 tStage tI (mkA tStage [(.vr 3),(prA (.pair tI (.pair tI tPlan)) 2 (.vr 15)),(prA (.pair tI (.pair tI tModel)) 2 (.vr 20)),(.vr 6),(.vr 9),(prA (.pair tI (.pair tI (.slice 98 tSaved))) 2 (.vr 24)),(.p1 tRows tI (.vr 28)),(.p1 tInts tI (.vr 29)),(.p1 tInts tI (.vr 30)),(.p1 tInts tI (.vr 31)),(.p1 tInts tI (.vr 32)),(.p1 tRows tI (.vr 33)),(.vr 11),(.vr 14)]) (prA (.pair tRows tI) 1 (.vr 33))))))))) (
   .loop (.pair tI (.pair tI tModel)) (mkA (.pair tI (.pair tI tModel)) [(.ci .i64 0),(pjA (.pair tI (.pair tI tPlan)) 1 (.vr 15)),(.nl 96 tOp)]) <|
    .prim (.lidx 3 tI) (.mk2 tInts tI (.p1 tInts tI (.vr 1)) (.ci .i64 6)) <|
    .prim (.lidx 3 tI) (.mk2 tInts tI (.p1 tInts tI (.vr 1)) (.ci .i64 6)) <|
    .prim (.cmp .lss .i64) (.mk2 tI tI (.p1 tI (.pair tI tModel) (.vr 19)) (.vr 21)) <|
    .ite (.vr 22) (
     .prim (.cmp .lss .i64) (.mk2 tI tI (.p1 tI (.pair tI tModel) (.vr 19)) (.ci .i64 8)) <|
     .ite (.vr 23) (
      .prim (.cmp .geq .i64) (.mk2 tI tI (pjA (.pair tI (.pair tI tModel)) 1 (.vr 19)) (.ci .i64 0)) <|
      .ite (.vr 24) (
       .call 0 (mkA (.pair .str tIns) [(.p1 .str tI (.vr 0)),(pjA (.pair tI (.pair tI tModel)) 1 (.vr 19)),(.ci .i64 3)]) <|
       .call 1 (.mk2 .str tI (.p1 .str tI (.vr 0)) (prA (.pair tInts tI) 1 (.vr 25))) <|
       .prim (.lidx 3 tI) (.mk2 tInts tI (.p1 tInts tI (.vr 25)) (.ci .i64 0)) <|
       .prim (.lidx 3 tI) (.mk2 tInts tI (.p1 tInts tI (.vr 25)) (.ci .i64 0)) <|
       .prim (.lidx 3 tI) (.mk2 tInts tI (.p1 tInts tI (.vr 25)) (.ci .i64 1)) <|
       .prim (.lidx 3 tI) (.mk2 tInts tI (.p1 tInts tI (.vr 25)) (.ci .i64 1)) <|
       .prim (.lidx 3 tI) (.mk2 tInts tI (.p1 tInts tI (.vr 25)) (.ci .i64 2)) <|
       .prim (.lidx 3 tI) (.mk2 tInts tI (.p1 tInts tI (.vr 25)) (.ci .i64 2)) <|
       .prim (.lit 96 tOp 1) (mkA tOp [(.vr 28),(.vr 30),(.vr 32),(.p1 tInts tI (.vr 26))]) <|
       .prim (.lapp 96 tOp 48) (.mk2 tModel tModel (prA (.pair tI (.pair tI tModel)) 2 (.vr 19)) (.vr 33)) <|
       .prim (.ar .add .i64) (.mk2 tI tI (.p1 tI (.pair tI tModel) (.vr 19)) (.ci .i64 1)) <|
       .again 0 (mkA (.pair tI (.pair tI tModel)) [(.vr 35),(prA (.pair tInts tI) 1 (.vr 26)),(.vr 34)])) (
       .loop (.pair tI (.pair tI (.slice 98 tSaved))) (mkA (.pair tI (.pair tI (.slice 98 tSaved))) [(.ci .i64 0),(pjA (.pair tI (.pair tI tModel)) 1 (.vr 19)),(.nl 98 tSaved)]) <|
        .prim (.lidx 3 tI) (.mk2 tInts tI (.p1 tInts tI (.vr 1)) (.ci .i64 7)) <|
        .prim (.lidx 3 tI) (.mk2 tInts tI (.p1 tInts tI (.vr 1)) (.ci .i64 7)) <|
        .prim (.cmp .lss .i64) (.mk2 tI tI (.p1 tI (.pair tI (.slice 98 tSaved)) (.vr 25)) (.vr 27)) <|
        .ite (.vr 28) (
         .prim (.cmp .lss .i64) (.mk2 tI tI (.p1 tI (.pair tI (.slice 98 tSaved)) (.vr 25)) (.ci .i64 5)) <|
         .ite (.vr 29) (
          .prim (.cmp .geq .i64) (.mk2 tI tI (pjA (.pair tI (.pair tI (.slice 98 tSaved))) 1 (.vr 25)) (.ci .i64 0)) <|
          .ite (.vr 30) (
           .call 0 (mkA (.pair .str tIns) [(.p1 .str tI (.vr 0)),(pjA (.pair tI (.pair tI (.slice 98 tSaved))) 1 (.vr 25)),(.ci .i64 1)]) <|
           .call 2 (.mk2 .str tI (.p1 .str tI (.vr 0)) (prA (.pair tInts tI) 1 (.vr 31))) <|
           .prim (.lidx 3 tI) (.mk2 tInts tI (.p1 tInts tI (.vr 31)) (.ci .i64 0)) <|
           .prim (.lidx 3 tI) (.mk2 tInts tI (.p1 tInts tI (.vr 31)) (.ci .i64 0)) <|
           .prim (.lit 98 tSaved 1) (.mk2 tI tRows (.vr 34) (.p1 tRows tI (.vr 32))) <|
           .prim (.lapp 98 tSaved 32) (.mk2 (.slice 98 tSaved) (.slice 98 tSaved) (prA (.pair tI (.pair tI (.slice 98 tSaved))) 2 (.vr 25)) (.vr 35)) <|
           .prim (.ar .add .i64) (.mk2 tI tI (.p1 tI (.pair tI (.slice 98 tSaved)) (.vr 25)) (.ci .i64 1)) <|
           .again 0 (mkA (.pair tI (.pair tI (.slice 98 tSaved))) [(.vr 37),(prA (.pair tRows tI) 1 (.vr 32)),(.vr 36)])) (
           .call 2 (.mk2 .str tI (.p1 .str tI (.vr 0)) (pjA (.pair tI (.pair tI (.slice 98 tSaved))) 1 (.vr 25))) <|
           .call 1 (.mk2 .str tI (.p1 .str tI (.vr 0)) (prA (.pair tRows tI) 1 (.vr 31))) <|
           .call 1 (.mk2 .str tI (.p1 .str tI (.vr 0)) (prA (.pair tInts tI) 1 (.vr 32))) <|
           .call 1 (.mk2 .str tI (.p1 .str tI (.vr 0)) (prA (.pair tInts tI) 1 (.vr 33))) <|
           .call 1 (.mk2 .str tI (.p1 .str tI (.vr 0)) (prA (.pair tInts tI) 1 (.vr 34))) <|
           .call 2 (.mk2 .str tI (.p1 .str tI (.vr 0)) (prA (.pair tInts tI) 1 (.vr 35))) <|
           .prim (.cmp .lss .i64) (.mk2 tI tI (prA (.pair tRows tI) 1 (.vr 36)) (.ci .i64 0)) <|
           .ite (.vr 37) (
            .ret (.mk2 tStage tI (mkA tStage [(.ci .i64 0),(.nl 94 tIns),(.nl 96 tOp),(.cb false),(.cb false),(.nl 98 tSaved),(.nl 158 tInts),(.nl 3 tI),(.nl 3 tI),(.nl 3 tI),(.nl 3 tI),(.nl 158 tInts),(.ci .i64 0),(.cb false)]) (.ci .i64 (-1)))) (
            .prim .ssub (mkA (.pair .str tIns) [(.p1 .str tI (.vr 0)),(prA (.pair .str tI) 1 (.vr 0)),(prA (.pair tRows tI) 1 (.vr 36))]) <|
            .call 3 (mkA tStage [(.vr 3),(prA (.pair tI (.pair tI tPlan)) 2 (.vr 15)),(prA (.pair tI (.pair tI tModel)) 2 (.vr 19)),(.vr 6),(.vr 9),(prA (.pair tI (.pair tI (.slice 98 tSaved))) 2 (.vr 25)),(.p1 tRows tI (.vr 31)),(.p1 tInts tI (.vr 32)),(.p1 tInts tI (.vr 33)),(.p1 tInts tI (.vr 34)),(.p1 tInts tI (.vr 35)),(.p1 tRows tI (.vr 36)),(.vr 11),(.vr 14)]) <|
            .prim (.seq true) (.mk2 .str .str (.vr 39) (.vr 38)) <|
            .ite (.vr 40) (
             .ret (.mk2 tStage tI (mkA tStage [(.ci .i64 0),(.nl 94 tIns),(.nl 96 tOp),(.cb false),(.cb false),(.nl 98 tSaved),(.nl 158 tInts),(.nl 3 tI),(.nl 3 tI),(.nl 3 tI),(.nl 3 tI),(.nl 158 tInts),(.ci .i64 0),(.cb false)]) (.ci .i64 (-1)))) (
             .ret (.mk2 tStage tI (mkA tStage [(.vr 3),(prA (.pair tI (.pair tI tPlan)) 2 (.vr 15)),(prA (.pair tI (.pair tI tModel)) 2 (.vr 19)),(.vr 6),(.vr 9),(prA (.pair tI (.pair tI (.slice 98 tSaved))) 2 (.vr 25)),(.p1 tRows tI (.vr 31)),(.p1 tInts tI (.vr 32)),(.p1 tInts tI (.vr 33)),(.p1 tInts tI (.vr 34)),(.p1 tInts tI (.vr 35)),(.p1 tRows tI (.vr 36)),(.vr 11),(.vr 14)]) (prA (.pair tRows tI) 1 (.vr 36))))))) (
          .call 2 (.mk2 .str tI (.p1 .str tI (.vr 0)) (pjA (.pair tI (.pair tI (.slice 98 tSaved))) 1 (.vr 25))) <|
          .call 1 (.mk2 .str tI (.p1 .str tI (.vr 0)) (prA (.pair tRows tI) 1 (.vr 30))) <|
          .call 1 (.mk2 .str tI (.p1 .str tI (.vr 0)) (prA (.pair tInts tI) 1 (.vr 31))) <|
          .call 1 (.mk2 .str tI (.p1 .str tI (.vr 0)) (prA (.pair tInts tI) 1 (.vr 32))) <|
          .call 1 (.mk2 .str tI (.p1 .str tI (.vr 0)) (prA (.pair tInts tI) 1 (.vr 33))) <|
          .call 2 (.mk2 .str tI (.p1 .str tI (.vr 0)) (prA (.pair tInts tI) 1 (.vr 34))) <|
          .prim (.cmp .lss .i64) (.mk2 tI tI (prA (.pair tRows tI) 1 (.vr 35)) (.ci .i64 0)) <|
          .ite (.vr 36) (
           .ret (.mk2 tStage tI (mkA tStage [(.ci .i64 0),(.nl 94 tIns),(.nl 96 tOp),(.cb false),(.cb false),(.nl 98 tSaved),(.nl 158 tInts),(.nl 3 tI),(.nl 3 tI),(.nl 3 tI),(.nl 3 tI),(.nl 158 tInts),(.ci .i64 0),(.cb false)]) (.ci .i64 (-1)))) (
           .prim .ssub (mkA (.pair .str tIns) [(.p1 .str tI (.vr 0)),(prA (.pair .str tI) 1 (.vr 0)),(prA (.pair tRows tI) 1 (.vr 35))]) <|
           .call 3 (mkA tStage [(.vr 3),(prA (.pair tI (.pair tI tPlan)) 2 (.vr 15)),(prA (.pair tI (.pair tI tModel)) 2 (.vr 19)),(.vr 6),(.vr 9),(prA (.pair tI (.pair tI (.slice 98 tSaved))) 2 (.vr 25)),(.p1 tRows tI (.vr 30)),(.p1 tInts tI (.vr 31)),(.p1 tInts tI (.vr 32)),(.p1 tInts tI (.vr 33)),(.p1 tInts tI (.vr 34)),(.p1 tRows tI (.vr 35)),(.vr 11),(.vr 14)]) <|
           .prim (.seq true) (.mk2 .str .str (.vr 38) (.vr 37)) <|
           .ite (.vr 39) (
            .ret (.mk2 tStage tI (mkA tStage [(.ci .i64 0),(.nl 94 tIns),(.nl 96 tOp),(.cb false),(.cb false),(.nl 98 tSaved),(.nl 158 tInts),(.nl 3 tI),(.nl 3 tI),(.nl 3 tI),(.nl 3 tI),(.nl 158 tInts),(.ci .i64 0),(.cb false)]) (.ci .i64 (-1)))) (
            .ret (.mk2 tStage tI (mkA tStage [(.vr 3),(prA (.pair tI (.pair tI tPlan)) 2 (.vr 15)),(prA (.pair tI (.pair tI tModel)) 2 (.vr 19)),(.vr 6),(.vr 9),(prA (.pair tI (.pair tI (.slice 98 tSaved))) 2 (.vr 25)),(.p1 tRows tI (.vr 30)),(.p1 tInts tI (.vr 31)),(.p1 tInts tI (.vr 32)),(.p1 tInts tI (.vr 33)),(.p1 tInts tI (.vr 34)),(.p1 tRows tI (.vr 35)),(.vr 11),(.vr 14)]) (prA (.pair tRows tI) 1 (.vr 35))))))) (
         .call 2 (.mk2 .str tI (.p1 .str tI (.vr 0)) (pjA (.pair tI (.pair tI (.slice 98 tSaved))) 1 (.vr 25))) <|
         .call 1 (.mk2 .str tI (.p1 .str tI (.vr 0)) (prA (.pair tRows tI) 1 (.vr 29))) <|
         .call 1 (.mk2 .str tI (.p1 .str tI (.vr 0)) (prA (.pair tInts tI) 1 (.vr 30))) <|
         .call 1 (.mk2 .str tI (.p1 .str tI (.vr 0)) (prA (.pair tInts tI) 1 (.vr 31))) <|
         .call 1 (.mk2 .str tI (.p1 .str tI (.vr 0)) (prA (.pair tInts tI) 1 (.vr 32))) <|
         .call 2 (.mk2 .str tI (.p1 .str tI (.vr 0)) (prA (.pair tInts tI) 1 (.vr 33))) <|
         .prim (.cmp .lss .i64) (.mk2 tI tI (prA (.pair tRows tI) 1 (.vr 34)) (.ci .i64 0)) <|
         .ite (.vr 35) (
          .ret (.mk2 tStage tI (mkA tStage [(.ci .i64 0),(.nl 94 tIns),(.nl 96 tOp),(.cb false),(.cb false),(.nl 98 tSaved),(.nl 158 tInts),(.nl 3 tI),(.nl 3 tI),(.nl 3 tI),(.nl 3 tI),(.nl 158 tInts),(.ci .i64 0),(.cb false)]) (.ci .i64 (-1)))) (
          .prim .ssub (mkA (.pair .str tIns) [(.p1 .str tI (.vr 0)),(prA (.pair .str tI) 1 (.vr 0)),(prA (.pair tRows tI) 1 (.vr 34))]) <|
          .call 3 (mkA tStage [(.vr 3),(prA (.pair tI (.pair tI tPlan)) 2 (.vr 15)),(prA (.pair tI (.pair tI tModel)) 2 (.vr 19)),(.vr 6),(.vr 9),(prA (.pair tI (.pair tI (.slice 98 tSaved))) 2 (.vr 25)),(.p1 tRows tI (.vr 29)),(.p1 tInts tI (.vr 30)),(.p1 tInts tI (.vr 31)),(.p1 tInts tI (.vr 32)),(.p1 tInts tI (.vr 33)),(.p1 tRows tI (.vr 34)),(.vr 11),(.vr 14)]) <|
          .prim (.seq true) (.mk2 .str .str (.vr 37) (.vr 36)) <|
          .ite (.vr 38) (
           .ret (.mk2 tStage tI (mkA tStage [(.ci .i64 0),(.nl 94 tIns),(.nl 96 tOp),(.cb false),(.cb false),(.nl 98 tSaved),(.nl 158 tInts),(.nl 3 tI),(.nl 3 tI),(.nl 3 tI),(.nl 3 tI),(.nl 158 tInts),(.ci .i64 0),(.cb false)]) (.ci .i64 (-1)))) (
           .ret (.mk2 tStage tI (mkA tStage [(.vr 3),(prA (.pair tI (.pair tI tPlan)) 2 (.vr 15)),(prA (.pair tI (.pair tI tModel)) 2 (.vr 19)),(.vr 6),(.vr 9),(prA (.pair tI (.pair tI (.slice 98 tSaved))) 2 (.vr 25)),(.p1 tRows tI (.vr 29)),(.p1 tInts tI (.vr 30)),(.p1 tInts tI (.vr 31)),(.p1 tInts tI (.vr 32)),(.p1 tInts tI (.vr 33)),(.p1 tRows tI (.vr 34)),(.vr 11),(.vr 14)]) (prA (.pair tRows tI) 1 (.vr 34)))))))) (
      .loop (.pair tI (.pair tI (.slice 98 tSaved))) (mkA (.pair tI (.pair tI (.slice 98 tSaved))) [(.ci .i64 0),(pjA (.pair tI (.pair tI tModel)) 1 (.vr 19)),(.nl 98 tSaved)]) <|
       .prim (.lidx 3 tI) (.mk2 tInts tI (.p1 tInts tI (.vr 1)) (.ci .i64 7)) <|
       .prim (.lidx 3 tI) (.mk2 tInts tI (.p1 tInts tI (.vr 1)) (.ci .i64 7)) <|
       .prim (.cmp .lss .i64) (.mk2 tI tI (.p1 tI (.pair tI (.slice 98 tSaved)) (.vr 24)) (.vr 26)) <|
       .ite (.vr 27) (
        .prim (.cmp .lss .i64) (.mk2 tI tI (.p1 tI (.pair tI (.slice 98 tSaved)) (.vr 24)) (.ci .i64 5)) <|
        .ite (.vr 28) (
         .prim (.cmp .geq .i64) (.mk2 tI tI (pjA (.pair tI (.pair tI (.slice 98 tSaved))) 1 (.vr 24)) (.ci .i64 0)) <|
         .ite (.vr 29) (
          .call 0 (mkA (.pair .str tIns) [(.p1 .str tI (.vr 0)),(pjA (.pair tI (.pair tI (.slice 98 tSaved))) 1 (.vr 24)),(.ci .i64 1)]) <|
          .call 2 (.mk2 .str tI (.p1 .str tI (.vr 0)) (prA (.pair tInts tI) 1 (.vr 30))) <|
          .prim (.lidx 3 tI) (.mk2 tInts tI (.p1 tInts tI (.vr 30)) (.ci .i64 0)) <|
          .prim (.lidx 3 tI) (.mk2 tInts tI (.p1 tInts tI (.vr 30)) (.ci .i64 0)) <|
          .prim (.lit 98 tSaved 1) (.mk2 tI tRows (.vr 33) (.p1 tRows tI (.vr 31))) <|
          .prim (.lapp 98 tSaved 32) (.mk2 (.slice 98 tSaved) (.slice 98 tSaved) (prA (.pair tI (.pair tI (.slice 98 tSaved))) 2 (.vr 24)) (.vr 34)) <|
          .prim (.ar .add .i64) (.mk2 tI tI (.p1 tI (.pair tI (.slice 98 tSaved)) (.vr 24)) (.ci .i64 1)) <|
          .again 0 (mkA (.pair tI (.pair tI (.slice 98 tSaved))) [(.vr 36),(prA (.pair tRows tI) 1 (.vr 31)),(.vr 35)])) (
          .call 2 (.mk2 .str tI (.p1 .str tI (.vr 0)) (pjA (.pair tI (.pair tI (.slice 98 tSaved))) 1 (.vr 24))) <|
          .call 1 (.mk2 .str tI (.p1 .str tI (.vr 0)) (prA (.pair tRows tI) 1 (.vr 30))) <|
          .call 1 (.mk2 .str tI (.p1 .str tI (.vr 0)) (prA (.pair tInts tI) 1 (.vr 31))) <|
          .call 1 (.mk2 .str tI (.p1 .str tI (.vr 0)) (prA (.pair tInts tI) 1 (.vr 32))) <|
          .call 1 (.mk2 .str tI (.p1 .str tI (.vr 0)) (prA (.pair tInts tI) 1 (.vr 33))) <|
          .call 2 (.mk2 .str tI (.p1 .str tI (.vr 0)) (prA (.pair tInts tI) 1 (.vr 34))) <|
          .prim (.cmp .lss .i64) (.mk2 tI tI (prA (.pair tRows tI) 1 (.vr 35)) (.ci .i64 0)) <|
          .ite (.vr 36) (
           .ret (.mk2 tStage tI (mkA tStage [(.ci .i64 0),(.nl 94 tIns),(.nl 96 tOp),(.cb false),(.cb false),(.nl 98 tSaved),(.nl 158 tInts),(.nl 3 tI),(.nl 3 tI),(.nl 3 tI),(.nl 3 tI),(.nl 158 tInts),(.ci .i64 0),(.cb false)]) (.ci .i64 (-1)))) (
           .prim .ssub (mkA (.pair .str tIns) [(.p1 .str tI (.vr 0)),(prA (.pair .str tI) 1 (.vr 0)),(prA (.pair tRows tI) 1 (.vr 35))]) <|
           .call 3 (mkA tStage [(.vr 3),(prA (.pair tI (.pair tI tPlan)) 2 (.vr 15)),(prA (.pair tI (.pair tI tModel)) 2 (.vr 19)),(.vr 6),(.vr 9),(prA (.pair tI (.pair tI (.slice 98 tSaved))) 2 (.vr 24)),(.p1 tRows tI (.vr 30)),(.p1 tInts tI (.vr 31)),(.p1 tInts tI (.vr 32)),(.p1 tInts tI (.vr 33)),(.p1 tInts tI (.vr 34)),(.p1 tRows tI (.vr 35)),(.vr 11),(.vr 14)]) <|
           .prim (.seq true) (.mk2 .str .str (.vr 38) (.vr 37)) <|
           .ite (.vr 39) (
            .ret (.mk2 tStage tI (mkA tStage [(.ci .i64 0),(.nl 94 tIns),(.nl 96 tOp),(.cb false),(.cb false),(.nl 98 tSaved),(.nl 158 tInts),(.nl 3 tI),(.nl 3 tI),(.nl 3 tI),(.nl 3 tI),(.nl 158 tInts),(.ci .i64 0),(.cb false)]) (.ci .i64 (-1)))) (
            .ret (.mk2 tStage tI (mkA tStage [(.vr 3),(prA (.pair tI (.pair tI tPlan)) 2 (.vr 15)),(prA (.pair tI (.pair tI tModel)) 2 (.vr 19)),(.vr 6),(.vr 9),(prA (.pair tI (.pair tI (.slice 98 tSaved))) 2 (.vr 24)),(.p1 tRows tI (.vr 30)),(.p1 tInts tI (.vr 31)),(.p1 tInts tI (.vr 32)),(.p1 tInts tI (.vr 33)),(.p1 tInts tI (.vr 34)),(.p1 tRows tI (.vr 35)),(.vr 11),(.vr 14)]) (prA (.pair tRows tI) 1 (.vr 35))))))) (
         .call 2 (.mk2 .str tI (.p1 .str tI (.vr 0)) (pjA (.pair tI (.pair tI (.slice 98 tSaved))) 1 (.vr 24))) <|
         .call 1 (.mk2 .str tI (.p1 .str tI (.vr 0)) (prA (.pair tRows tI) 1 (.vr 29))) <|
         .call 1 (.mk2 .str tI (.p1 .str tI (.vr 0)) (prA (.pair tInts tI) 1 (.vr 30))) <|
         .call 1 (.mk2 .str tI (.p1 .str tI (.vr 0)) (prA (.pair tInts tI) 1 (.vr 31))) <|
         .call 1 (.mk2 .str tI (.p1 .str tI (.vr 0)) (prA (.pair tInts tI) 1 (.vr 32))) <|
         .call 2 (.mk2 .str tI (.p1 .str tI (.vr 0)) (prA (.pair tInts tI) 1 (.vr 33))) <|
         .prim (.cmp .lss .i64) (.mk2 tI tI (prA (.pair tRows tI) 1 (.vr 34)) (.ci .i64 0)) <|
         .ite (.vr 35) (
          .ret (.mk2 tStage tI (mkA tStage [(.ci .i64 0),(.nl 94 tIns),(.nl 96 tOp),(.cb false),(.cb false),(.nl 98 tSaved),(.nl 158 tInts),(.nl 3 tI),(.nl 3 tI),(.nl 3 tI),(.nl 3 tI),(.nl 158 tInts),(.ci .i64 0),(.cb false)]) (.ci .i64 (-1)))) (
          .prim .ssub (mkA (.pair .str tIns) [(.p1 .str tI (.vr 0)),(prA (.pair .str tI) 1 (.vr 0)),(prA (.pair tRows tI) 1 (.vr 34))]) <|
          .call 3 (mkA tStage [(.vr 3),(prA (.pair tI (.pair tI tPlan)) 2 (.vr 15)),(prA (.pair tI (.pair tI tModel)) 2 (.vr 19)),(.vr 6),(.vr 9),(prA (.pair tI (.pair tI (.slice 98 tSaved))) 2 (.vr 24)),(.p1 tRows tI (.vr 29)),(.p1 tInts tI (.vr 30)),(.p1 tInts tI (.vr 31)),(.p1 tInts tI (.vr 32)),(.p1 tInts tI (.vr 33)),(.p1 tRows tI (.vr 34)),(.vr 11),(.vr 14)]) <|
          .prim (.seq true) (.mk2 .str .str (.vr 37) (.vr 36)) <|
          .ite (.vr 38) (
           .ret (.mk2 tStage tI (mkA tStage [(.ci .i64 0),(.nl 94 tIns),(.nl 96 tOp),(.cb false),(.cb false),(.nl 98 tSaved),(.nl 158 tInts),(.nl 3 tI),(.nl 3 tI),(.nl 3 tI),(.nl 3 tI),(.nl 158 tInts),(.ci .i64 0),(.cb false)]) (.ci .i64 (-1)))) (
           .ret (.mk2 tStage tI (mkA tStage [(.vr 3),(prA (.pair tI (.pair tI tPlan)) 2 (.vr 15)),(prA (.pair tI (.pair tI tModel)) 2 (.vr 19)),(.vr 6),(.vr 9),(prA (.pair tI (.pair tI (.slice 98 tSaved))) 2 (.vr 24)),(.p1 tRows tI (.vr 29)),(.p1 tInts tI (.vr 30)),(.p1 tInts tI (.vr 31)),(.p1 tInts tI (.vr 32)),(.p1 tInts tI (.vr 33)),(.p1 tRows tI (.vr 34)),(.vr 11),(.vr 14)]) (prA (.pair tRows tI) 1 (.vr 34))))))) (
        .call 2 (.mk2 .str tI (.p1 .str tI (.vr 0)) (pjA (.pair tI (.pair tI (.slice 98 tSaved))) 1 (.vr 24))) <|
        .call 1 (.mk2 .str tI (.p1 .str tI (.vr 0)) (prA (.pair tRows tI) 1 (.vr 28))) <|
        .call 1 (.mk2 .str tI (.p1 .str tI (.vr 0)) (prA (.pair tInts tI) 1 (.vr 29))) <|
        .call 1 (.mk2 .str tI (.p1 .str tI (.vr 0)) (prA (.pair tInts tI) 1 (.vr 30))) <|
        .call 1 (.mk2 .str tI (.p1 .str tI (.vr 0)) (prA (.pair tInts tI) 1 (.vr 31))) <|
        .call 2 (.mk2 .str tI (.p1 .str tI (.vr 0)) (prA (.pair tInts tI) 1 (.vr 32))) <|
        .prim (.cmp .lss .i64) (.mk2 tI tI (prA (.pair tRows tI) 1 (.vr 33)) (.ci .i64 0)) <|
        .ite (.vr 34) (
         .ret (.mk2 tStage tI (mkA tStage [(.ci .i64 0),(.nl 94 tIns),(.nl 96 tOp),(.cb false),(.cb false),(.nl 98 tSaved),(.nl 158 tInts),(.nl 3 tI),(.nl 3 tI),(.nl 3 tI),(.nl 3 tI),(.nl 158 tInts),(.ci .i64 0),(.cb false)]) (.ci .i64 (-1)))) (
         .prim .ssub (mkA (.pair .str tIns) [(.p1 .str tI (.vr 0)),(prA (.pair .str tI) 1 (.vr 0)),(prA (.pair tRows tI) 1 (.vr 33))]) <|
         .call 3 (mkA tStage [(.vr 3),(prA (.pair tI (.pair tI tPlan)) 2 (.vr 15)),(prA (.pair tI (.pair tI tModel)) 2 (.vr 19)),(.vr 6),(.vr 9),(prA (.pair tI (.pair tI (.slice 98 tSaved))) 2 (.vr 24)),(.p1 tRows tI (.vr 28)),(.p1 tInts tI (.vr 29)),(.p1 tInts tI (.vr 30)),(.p1 tInts tI (.vr 31)),(.p1 tInts tI (.vr 32)),(.p1 tRows tI (.vr 33)),(.vr 11),(.vr 14)]) <|
         .prim (.seq true) (.mk2 .str .str (.vr 36) (.vr 35)) <|
         .ite (.vr 37) (
          .ret (.mk2 tStage tI (mkA tStage [(.ci .i64 0),(.nl 94 tIns),(.nl 96 tOp),(.cb false),(.cb false),(.nl 98 tSaved),(.nl 158 tInts),(.nl 3 tI),(.nl 3 tI),(.nl 3 tI),(.nl 3 tI),(.nl 158 tInts),(.ci .i64 0),(.cb false)]) (.ci .i64 (-1)))) (
          .ret (.mk2 tStage tI (mkA tStage [(.vr 3),(prA (.pair tI (.pair tI tPlan)) 2 (.vr 15)),(prA (.pair tI (.pair tI tModel)) 2 (.vr 19)),(.vr 6),(.vr 9),(prA (.pair tI (.pair tI (.slice 98 tSaved))) 2 (.vr 24)),(.p1 tRows tI (.vr 28)),(.p1 tInts tI (.vr 29)),(.p1 tInts tI (.vr 30)),(.p1 tInts tI (.vr 31)),(.p1 tInts tI (.vr 32)),(.p1 tRows tI (.vr 33)),(.vr 11),(.vr 14)]) (prA (.pair tRows tI) 1 (.vr 33)))))))) (
     .loop (.pair tI (.pair tI (.slice 98 tSaved))) (mkA (.pair tI (.pair tI (.slice 98 tSaved))) [(.ci .i64 0),(pjA (.pair tI (.pair tI tModel)) 1 (.vr 19)),(.nl 98 tSaved)]) <|
      .prim (.lidx 3 tI) (.mk2 tInts tI (.p1 tInts tI (.vr 1)) (.ci .i64 7)) <|
      .prim (.lidx 3 tI) (.mk2 tInts tI (.p1 tInts tI (.vr 1)) (.ci .i64 7)) <|
      .prim (.cmp .lss .i64) (.mk2 tI tI (.p1 tI (.pair tI (.slice 98 tSaved)) (.vr 23)) (.vr 25)) <|
      .ite (.vr 26) (
       .prim (.cmp .lss .i64) (.mk2 tI tI (.p1 tI (.pair tI (.slice 98 tSaved)) (.vr 23)) (.ci .i64 5)) <|
       .ite (.vr 27) (
        .prim (.cmp .geq .i64) (.mk2 tI tI (pjA (.pair tI (.pair tI (.slice 98 tSaved))) 1 (.vr 23)) (.ci .i64 0)) <|
        .ite (.vr 28) (
         .call 0 (mkA (.pair .str tIns) [(.p1 .str tI (.vr 0)),(pjA (.pair tI (.pair tI (.slice 98 tSaved))) 1 (.vr 23)),(.ci .i64 1)]) <|
         .call 2 (.mk2 .str tI (.p1 .str tI (.vr 0)) (prA (.pair tInts tI) 1 (.vr 29))) <|
         .prim (.lidx 3 tI) (.mk2 tInts tI (.p1 tInts tI (.vr 29)) (.ci .i64 0)) <|
         .prim (.lidx 3 tI) (.mk2 tInts tI (.p1 tInts tI (.vr 29)) (.ci .i64 0)) <|
         .prim (.lit 98 tSaved 1) (.mk2 tI tRows (.vr 32) (.p1 tRows tI (.vr 30))) <|
         .prim (.lapp 98 tSaved 32) (.mk2 (.slice 98 tSaved) (.slice 98 tSaved) (prA (.pair tI (.pair tI (.slice 98 tSaved))) 2 (.vr 23)) (.vr 33)) <|
         .prim (.ar .add .i64) (.mk2 tI tI (.p1 tI (.pair tI (.slice 98 tSaved)) (.vr 23)) (.ci .i64 1)) <|
         .again 0 (mkA (.pair tI (.pair tI (.slice 98 tSaved))) [(.vr 35),(prA (.pair tRows tI) 1 (.vr 30)),(.vr 34)])) (
         .call 2 (.mk2 .str tI (.p1 .str tI (.vr 0)) (pjA (.pair tI (.pair tI (.slice 98 tSaved))) 1 (.vr 23))) <|
         .call 1 (.mk2 .str tI (.p1 .str tI (.vr 0)) (prA (.pair tRows tI) 1 (.vr 29))) <|
         .call 1 (.mk2 .str tI (.p1 .str tI (.vr 0)) (prA (.pair tInts tI) 1 (.vr 30))) <|
         .call 1 (.mk2 .str tI (.p1 .str tI (.vr 0)) (prA (.pair tInts tI) 1 (.vr 31))) <|
         .call 1 (.mk2 .str tI (.p1 .str tI (.vr 0)) (prA (.pair tInts tI) 1 (.vr 32))) <|
         .call 2 (.mk2 .str tI (.p1 .str tI (.vr 0)) (prA (.pair tInts tI) 1 (.vr 33))) <|
         .prim (.cmp .lss .i64) (.mk2 tI tI (prA (.pair tRows tI) 1 (.vr 34)) (.ci .i64 0)) <|
         .ite (.vr 35) (
          .ret (.mk2 tStage tI (mkA tStage [(.ci .i64 0),(.nl 94 tIns),(.nl 96 tOp),(.cb false),(.cb false),(.nl 98 tSaved),(.nl 158 tInts),(.nl 3 tI),(.nl 3 tI),(.nl 3 tI),(.nl 3 tI),(.nl 158 tInts),(.ci .i64 0),(.cb false)]) (.ci .i64 (-1)))) (
          .prim .ssub (mkA (.pair .str tIns) [(.p1 .str tI (.vr 0)),(prA (.pair .str tI) 1 (.vr 0)),(prA (.pair tRows tI) 1 (.vr 34))]) <|
          .call 3 (mkA tStage [(.vr 3),(prA (.pair tI (.pair tI tPlan)) 2 (.vr 15)),(prA (.pair tI (.pair tI tModel)) 2 (.vr 19)),(.vr 6),(.vr 9),(prA (.pair tI (.pair tI (.slice 98 tSaved))) 2 (.vr 23)),(.p1 tRows tI (.vr 29)),(.p1 tInts tI (.vr 30)),(.p1 tInts tI (.vr 31)),(.p1 tInts tI (.vr 32)),(.p1 tInts tI (.vr 33)),(.p1 tRows tI (.vr 34)),(.vr 11),(.vr 14)]) <|
          .prim (.seq true) (.mk2 .str .str (.vr 37) (.vr 36)) <|
          .ite (.vr 38) (
           .ret (.mk2 tStage tI (mkA tStage [(.ci .i64 0),(.nl 94 tIns),(.nl 96 tOp),(.cb false),(.cb false),(.nl 98 tSaved),(.nl 158 tInts),(.nl 3 tI),(.nl 3 tI),(.nl 3 tI),(.nl 3 tI),(.nl 158 tInts),(.ci .i64 0),(.cb false)]) (.ci .i64 (-1)))) (
           .ret (.mk2 tStage tI (mkA tStage [(.vr 3),(prA (.pair tI (.pair tI tPlan)) 2 (.vr 15)),(prA (.pair tI (.pair tI tModel)) 2 (.vr 19)),(.vr 6),(.vr 9),(prA (.pair tI (.pair tI (.slice 98 tSaved))) 2 (.vr 23)),(.p1 tRows tI (.vr 29)),(.p1 tInts tI (.vr 30)),(.p1 tInts tI (.vr 31)),(.p1 tInts tI (.vr 32)),(.p1 tInts tI (.vr 33)),(.p1 tRows tI (.vr 34)),(.vr 11),(.vr 14)]) (prA (.pair tRows tI) 1 (.vr 34))))))) (
        .call 2 (.mk2 .str tI (.p1 .str tI (.vr 0)) (pjA (.pair tI (.pair tI (.slice 98 tSaved))) 1 (.vr 23))) <|
        .call 1 (.mk2 .str tI (.p1 .str tI (.vr 0)) (prA (.pair tRows tI) 1 (.vr 28))) <|
        .call 1 (.mk2 .str tI (.p1 .str tI (.vr 0)) (prA (.pair tInts tI) 1 (.vr 29))) <|
        .call 1 (.mk2 .str tI (.p1 .str tI (.vr 0)) (prA (.pair tInts tI) 1 (.vr 30))) <|
        .call 1 (.mk2 .str tI (.p1 .str tI (.vr 0)) (prA (.pair tInts tI) 1 (.vr 31))) <|
        .call 2 (.mk2 .str tI (.p1 .str tI (.vr 0)) (prA (.pair tInts tI) 1 (.vr 32))) <|
        .prim (.cmp .lss .i64) (.mk2 tI tI (prA (.pair tRows tI) 1 (.vr 33)) (.ci .i64 0)) <|
        .ite (.vr 34) (
         .ret (.mk2 tStage tI (mkA tStage [(.ci .i64 0),(.nl 94 tIns),(.nl 96 tOp),(.cb false),(.cb false),(.nl 98 tSaved),(.nl 158 tInts),(.nl 3 tI),(.nl 3 tI),(.nl 3 tI),(.nl 3 tI),(.nl 158 tInts),(.ci .i64 0),(.cb false)]) (.ci .i64 (-1)))) (
         .prim .ssub (mkA (.pair .str tIns) [(.p1 .str tI (.vr 0)),(prA (.pair .str tI) 1 (.vr 0)),(prA (.pair tRows tI) 1 (.vr 33))]) <|
         .call 3 (mkA tStage [(.vr 3),(prA (.pair tI (.pair tI tPlan)) 2 (.vr 15)),(prA (.pair tI (.pair tI tModel)) 2 (.vr 19)),(.vr 6),(.vr 9),(prA (.pair tI (.pair tI (.slice 98 tSaved))) 2 (.vr 23)),(.p1 tRows tI (.vr 28)),(.p1 tInts tI (.vr 29)),(.p1 tInts tI (.vr 30)),(.p1 tInts tI (.vr 31)),(.p1 tInts tI (.vr 32)),(.p1 tRows tI (.vr 33)),(.vr 11),(.vr 14)]) <|
         .prim (.seq true) (.mk2 .str .str (.vr 36) (.vr 35)) <|
         .ite (.vr 37) (
          .ret (.mk2 tStage tI (mkA tStage [(.ci .i64 0),(.nl 94 tIns),(.nl 96 tOp),(.cb false),(.cb false),(.nl 98 tSaved),(.nl 158 tInts),(.nl 3 tI),(.nl 3 tI),(.nl 3 tI),(.nl 3 tI),(.nl 158 tInts),(.ci .i64 0),(.cb false)]) (.ci .i64 (-1)))) (
          .ret (.mk2 tStage tI (mkA tStage [(.vr 3),(prA (.pair tI (.pair tI tPlan)) 2 (.vr 15)),(prA (.pair tI (.pair tI tModel)) 2 (.vr 19)),(.vr 6),(.vr 9),(prA (.pair tI (.pair tI (.slice 98 tSaved))) 2 (.vr 23)),(.p1 tRows tI (.vr 28)),(.p1 tInts tI (.vr 29)),(.p1 tInts tI (.vr 30)),(.p1 tInts tI (.vr 31)),(.p1 tInts tI (.vr 32)),(.p1 tRows tI (.vr 33)),(.vr 11),(.vr 14)]) (prA (.pair tRows tI) 1 (.vr 33))))))) (
       .call 2 (.mk2 .str tI (.p1 .str tI (.vr 0)) (pjA (.pair tI (.pair tI (.slice 98 tSaved))) 1 (.vr 23))) <|
       .call 1 (.mk2 .str tI (.p1 .str tI (.vr 0)) (prA (.pair tRows tI) 1 (.vr 27))) <|
       .call 1 (.mk2 .str tI (.p1 .str tI (.vr 0)) (prA (.pair tInts tI) 1 (.vr 28))) <|
       .call 1 (.mk2 .str tI (.p1 .str tI (.vr 0)) (prA (.pair tInts tI) 1 (.vr 29))) <|
       .call 1 (.mk2 .str tI (.p1 .str tI (.vr 0)) (prA (.pair tInts tI) 1 (.vr 30))) <|
       .call 2 (.mk2 .str tI (.p1 .str tI (.vr 0)) (prA (.pair tInts tI) 1 (.vr 31))) <|
       .prim (.cmp .lss .i64) (.mk2 tI tI (prA (.pair tRows tI) 1 (.vr 32)) (.ci .i64 0)) <|
       .ite (.vr 33) (
        .ret (.mk2 tStage tI (mkA tStage [(.ci .i64 0),(.nl 94 tIns),(.nl 96 tOp),(.cb false),(.cb false),(.nl 98 tSaved),(.nl 158 tInts),(.nl 3 tI),(.nl 3 tI),(.nl 3 tI),(.nl 3 tI),(.nl 158 tInts),(.ci .i64 0),(.cb false)]) (.ci .i64 (-1)))) (
        .prim .ssub (mkA (.pair .str tIns) [(.p1 .str tI (.vr 0)),(prA (.pair .str tI) 1 (.vr 0)),(prA (.pair tRows tI) 1 (.vr 32))]) <|
        .call 3 (mkA tStage [(.vr 3),(prA (.pair tI (.pair tI tPlan)) 2 (.vr 15)),(prA (.pair tI (.pair tI tModel)) 2 (.vr 19)),(.vr 6),(.vr 9),(prA (.pair tI (.pair tI (.slice 98 tSaved))) 2 (.vr 23)),(.p1 tRows tI (.vr 27)),(.p1 tInts tI (.vr 28)),(.p1 tInts tI (.vr 29)),(.p1 tInts tI (.vr 30)),(.p1 tInts tI (.vr 31)),(.p1 tRows tI (.vr 32)),(.vr 11),(.vr 14)]) <|
        .prim (.seq true) (.mk2 .str .str (.vr 35) (.vr 34)) <|
        .ite (.vr 36) (
         .ret (.mk2 tStage tI (mkA tStage [(.ci .i64 0),(.nl 94 tIns),(.nl 96 tOp),(.cb false),(.cb false),(.nl 98 tSaved),(.nl 158 tInts),(.nl 3 tI),(.nl 3 tI),(.nl 3 tI),(.nl 3 tI),(.nl 158 tInts),(.ci .i64 0),(.cb false)]) (.ci .i64 (-1)))) (
         .ret (.mk2 tStage tI (mkA tStage [(.vr 3),(prA (.pair tI (.pair tI tPlan)) 2 (.vr 15)),(prA (.pair tI (.pair tI tModel)) 2 (.vr 19)),(.vr 6),(.vr 9),(prA (.pair tI (.pair tI (.slice 98 tSaved))) 2 (.vr 23)),(.p1 tRows tI (.vr 27)),(.p1 tInts tI (.vr 28)),(.p1 tInts tI (.vr 29)),(.p1 tInts tI (.vr 30)),(.p1 tInts tI (.vr 31)),(.p1 tRows tI (.vr 32)),(.vr 11),(.vr 14)]) (prA (.pair tRows tI) 1 (.vr 32))))))))
set_option maxRecDepth 100000 in
theorem e_s_l21Stage:exFn Tryz.prog [c_s_l21Of,c_s_l21Vec,c_s_l21ReadRows,c_s_ShowStage] c_s_l21Stage false 3000 ⟨[(2989,1015,drd 47 43 ++ [.dr 41,.dr 40] ++ drd 38 36 ++ drd 34 32 ++ [.dr 30,.dr 29,.dr 42,.dr 39,.dr 35,.dr 31] ++ drd 28 26 ++ [.dr 22] ++ drd 25 23 ++ [.tm 9 0,.tm 7 0,.sl 22]),(2979,11021,drd 60 48 ++ [.dr 9,.tm 12 0,.tm 7 0,.sl 23]),(2969,91027,drd 94 82 ++ [.dr 12,.tm 17 0,.tm 7 0,.sl 24]),(2969,43026,drd 94 82 ++ [.dr 12,.tm 17 0,.tm 7 0,.sl 24]),(2969,19025,drd 94 82 ++ [.dr 12,.tm 17 0,.tm 7 0,.sl 24]),(2979,5020,drd 60 48 ++ [.dr 9,.tm 12 0,.tm 7 0,.sl 23]),(2969,45026,drd 94 82 ++ [.dr 12,.tm 17 0,.tm 7 0,.sl 24]),(2969,21025,drd 94 82 ++ [.dr 12,.tm 17 0,.tm 7 0,.sl 24]),(2969,9024,drd 94 82 ++ [.dr 12,.tm 17 0,.tm 7 0,.sl 24]),(2979,2019,drd 60 48 ++ [.dr 9,.tm 12 0,.tm 7 0,.sl 23]),(2969,22025,drd 94 82 ++ [.dr 12,.tm 17 0,.tm 7 0,.sl 24]),(2969,10024,drd 94 82 ++ [.dr 12,.tm 17 0,.tm 7 0,.sl 24]),(2969,4023,drd 94 82 ++ [.dr 12,.tm 17 0,.tm 7 0,.sl 24])],[(2966,123029,[],[32]),(2956,987035,[],[32]),(2956,491034,[],[32]),(2956,243033,[],[32]),(2966,61028,[],[32]),(2956,493034,[],[32]),(2956,245033,[],[32]),(2956,121032,[],[32]),(2966,30027,[],[32]),(2956,246033,[],[32]),(2956,122032,[],[32]),(2956,60031,[],[32])]⟩ = .ok t_s_l21Stage:=by kernel_rfl
set_option maxHeartbeats 8000000 in
theorem v_s_l21Stage (x:(ByteArray) × Int) (hx:okD (.pair .str tI) x) (hp:(fun x=>PB x.1 x.2) x):t_s_l21Stage.wp [c_s_l21Of,c_s_l21Vec,c_s_l21ReadRows,c_s_ShowStage] [⟨(.pair .str tI),x⟩] [] (fun v=>v.as (.pair tStage tI) = (fun x=>stageQ x.1 x.2) x):=by
 obtain ⟨s,p⟩:=x
 have hp:PB s p:=hp
 delta t_s_l21Stage c_s_l21Of c_s_l21Vec c_s_l21ReadRows c_s_ShowStage;refine vcx ?_;try with_reducible exact True.intro
 have h8:=ofP_len (s:=s) (p:=p) (show 0≤(8:Int) by decide)
 have g0:=ofP_G s 8 p hp
 have hv0:stageQ0 s p = K1Q s (ofP s 8 p).1 [] (loopP (insQ s) (min ((ofP s 8 p).1.getD 5 0).toNat 100) (ofP s 8 p).2):=rfl
 simp only [Int.toNat_natCast,Bool.not_eq_true',Bool.not_eq_false',Bool.and_eq_true,Bool.and_eq_false_iff,decide_eq_true_eq,decide_eq_false_iff_not,Int.not_lt,Int.not_le,ge_iff_le,gt_iff_lt,List.length_cons,List.length_nil,List.length_append,Nat.zero_add,List.nil_append,beq_iff_eq,beq_eq_false_iff_ne,bne_iff_ne,bne_eq_false_iff_eq,ne_eq,toNat_pred,toNat_succ,toNat_l0,toNat_l1,Int.reduceToNat]
 generalize (ofP s 8 p).1 = H at *
 generalize (ofP s 8 p).2 = p0 at *
 (repeat' first | intro _ | (with_reducible apply And.intro))
 all_goals first | omega | exact hp | skip
 have z5:H.getD 5 (zeroD tI) = H.getD 5 0:=rfl
 have z6:H.getD 6 (zeroD tI) = H.getD 6 0:=rfl
 have z7:H.getD 7 (zeroD tI) = H.getD 7 0:=rfl
 rw [z5,z6,z7]
 refine ⟨fun t=>∃ k:Nat,t.1 = (k:Int)∧(t.2.2:List InsD).length = k∧k≤min (H.getD 5 0).toNat 100∧PB s t.2.1∧((0:Int)≤t.2.1→0≤p∧@LE.le Int _ p t.2.1)∧stageQ0 s p = K1Q s H t.2.2 (loopP (insQ s) (min (H.getD 5 0).toNat 100 - k) t.2.1),fun t=>(100 - (t.1:Int)).toNat,⟨0,rfl,rfl,by omega,g0.1,g0.2,hv0⟩,fun t _ hI=>?_⟩
 obtain ⟨i,r1,a1⟩:Int × (Int × List InsD):=t
 obtain ⟨k1,rfl,hl,hk,hPr1,hMr1,hvr1⟩:=hI
 dsimp only at hl hk hPr1 hMr1 hvr1 ⊢
 have hPar1:-1≤r1:=hPr1.1
 have hPbr1:r1≤(s.size:Int):=hPr1.2
 refine ⟨by omega,fun _=>⟨by omega,fun _=>⟨fun ha=>⟨fun hb=>⟨fun hc=>?_,fun hc=>?_⟩,fun hb=>?_⟩,fun ha=>?_⟩⟩⟩
 ·obtain ⟨m,hm⟩:∃ m,(min (H.getD 5 0).toNat 100 - k1) = m + 1:=⟨(min (H.getD 5 0).toNat 100 - k1) - 1,by omega⟩
  rw [hm,loopP_go _ m hc] at hvr1
  have hs1:=ofP_len (s:=s) (p:=r1) (show 0≤(2:Int) by decide)
  have hp1:=ofP_G s 2 r1 hPr1
  have hpa:-1≤(ofP s 2 r1).2:=hp1.1.1
  have hpb:(ofP s 2 r1).2≤(s.size:Int):=hp1.1.2
  have hp2:=insQ_G s r1 hPr1
  (repeat' first | intro _ | (with_reducible apply And.intro))
  all_goals first | omega | exact hPr1 | exact hp1.1 | (unfold maxLen;omega) | skip
  refine ⟨k1 + 1,rfl,by (first | omega | (simp only [List.length_append,List.length_cons,List.length_nil];omega)),by omega,hp2.1,fun h=>by have h4:=hp2.2 h;have h5:=hMr1 h4.1;exact ⟨h5.1,Int.le_trans h5.2 h4.2⟩,?_⟩
  rw [show min (H.getD 5 0).toNat 100 - (k1 + 1) = m by omega,hvr1]
  show K1Q s H a1 ((insQ s r1).1 :: _,_) = K1Q s H (a1 ++ [(insQ s r1).1]) _
  unfold K1Q;simp only [List.append_assoc,List.singleton_append];rfl
 all_goals
  have hwr1:stageQ0 s p = K2Q s H a1 [] (loopP (opQ s) (min (H.getD 6 0).toNat 8) r1):=by
   first | rw [loopP_bad (insQ s) _ hc] at hvr1 | rw [show (min (H.getD 5 0).toNat 100 - k1) = 0 by omega] at hvr1
   rw [hvr1];unfold K1Q;simp only [List.append_nil,loopP]
  clear hvr1
  refine ⟨fun t=>∃ k:Nat,t.1 = (k:Int)∧(t.2.2:List OpD).length = k∧k≤min (H.getD 6 0).toNat 8∧PB s t.2.1∧((0:Int)≤t.2.1→0≤p∧@LE.le Int _ p t.2.1)∧stageQ0 s p = K2Q s H a1 t.2.2 (loopP (opQ s) (min (H.getD 6 0).toNat 8 - k) t.2.1),fun t=>(8 - (t.1:Int)).toNat,⟨0,rfl,rfl,by omega,hPr1,hMr1,hwr1⟩,fun t _ hI=>?_⟩
  obtain ⟨i,r2,a2⟩:Int × (Int × List OpD):=t
  obtain ⟨k2,rfl,hl,hk,hPr2,hMr2,hvr2⟩:=hI
  dsimp only at hl hk hPr2 hMr2 hvr2 ⊢
  have hPar2:-1≤r2:=hPr2.1
  have hPbr2:r2≤(s.size:Int):=hPr2.2
  refine ⟨by omega,fun _=>⟨by omega,fun _=>⟨fun ha=>⟨fun hb=>⟨fun hc=>?_,fun hc=>?_⟩,fun hb=>?_⟩,fun ha=>?_⟩⟩⟩
  ·obtain ⟨m,hm⟩:∃ m,(min (H.getD 6 0).toNat 8 - k2) = m + 1:=⟨(min (H.getD 6 0).toNat 8 - k2) - 1,by omega⟩
   rw [hm,loopP_go _ m hc] at hvr2
   have hs1:=ofP_len (s:=s) (p:=r2) (show 0≤(3:Int) by decide)
   have hp1:=ofP_G s 3 r2 hPr2
   have hpa:-1≤(ofP s 3 r2).2:=hp1.1.1
   have hpb:(ofP s 3 r2).2≤(s.size:Int):=hp1.1.2
   have hp2:=opQ_G s r2 hPr2
   (repeat' first | intro _ | (with_reducible apply And.intro))
   all_goals first | omega | exact hPr2 | exact hp1.1 | (unfold maxLen;omega) | skip
   refine ⟨k2 + 1,rfl,by (first | omega | (simp only [List.length_append,List.length_cons,List.length_nil];omega)),by omega,hp2.1,fun h=>by have h4:=hp2.2 h;have h5:=hMr2 h4.1;exact ⟨h5.1,Int.le_trans h5.2 h4.2⟩,?_⟩
   rw [show min (H.getD 6 0).toNat 8 - (k2 + 1) = m by omega,hvr2]
   show K2Q s H a1 a2 ((opQ s r2).1 :: _,_) = K2Q s H a1 (a2 ++ [(opQ s r2).1]) _
   unfold K2Q;simp only [List.append_assoc,List.singleton_append];rfl
  all_goals
   have hwr2:stageQ0 s p = K3Q s H a1 a2 [] (loopP (savQ s) (min (H.getD 7 0).toNat 5) r2):=by
    first | rw [loopP_bad (opQ s) _ hc] at hvr2 | rw [show (min (H.getD 6 0).toNat 8 - k2) = 0 by omega] at hvr2
    rw [hvr2];unfold K2Q;simp only [List.append_nil,loopP]
   clear hvr2
   refine ⟨fun t=>∃ k:Nat,t.1 = (k:Int)∧(t.2.2:List SavedD).length = k∧k≤min (H.getD 7 0).toNat 5∧PB s t.2.1∧((0:Int)≤t.2.1→0≤p∧@LE.le Int _ p t.2.1)∧stageQ0 s p = K3Q s H a1 a2 t.2.2 (loopP (savQ s) (min (H.getD 7 0).toNat 5 - k) t.2.1),fun t=>(5 - (t.1:Int)).toNat,⟨0,rfl,rfl,by omega,hPr2,hMr2,hwr2⟩,fun t _ hI=>?_⟩
   obtain ⟨i,r3,a3⟩:Int × (Int × List SavedD):=t
   obtain ⟨k3,rfl,hl,hk,hPr3,hMr3,hvr3⟩:=hI
   dsimp only at hl hk hPr3 hMr3 hvr3 ⊢
   have hPar3:-1≤r3:=hPr3.1
   have hPbr3:r3≤(s.size:Int):=hPr3.2
   refine ⟨by omega,fun _=>⟨by omega,fun _=>⟨fun ha=>⟨fun hb=>⟨fun hc=>?_,fun hc=>?_⟩,fun hb=>?_⟩,fun ha=>?_⟩⟩⟩
   ·obtain ⟨m,hm⟩:∃ m,(min (H.getD 7 0).toNat 5 - k3) = m + 1:=⟨(min (H.getD 7 0).toNat 5 - k3) - 1,by omega⟩
    rw [hm,loopP_go _ m hc] at hvr3
    have hs1:=ofP_len (s:=s) (p:=r3) (show 0≤(1:Int) by decide)
    have hp1:=ofP_G s 1 r3 hPr3
    have hpa:-1≤(ofP s 1 r3).2:=hp1.1.1
    have hpb:(ofP s 1 r3).2≤(s.size:Int):=hp1.1.2
    have hp2:=savQ_G s r3 hPr3
    (repeat' first | intro _ | (with_reducible apply And.intro))
    all_goals first | omega | exact hPr3 | exact hp1.1 | (unfold maxLen;omega) | skip
    refine ⟨k3 + 1,rfl,by (first | omega | (simp only [List.length_append,List.length_cons,List.length_nil];omega)),by omega,hp2.1,fun h=>by have h4:=hp2.2 h;have h5:=hMr3 h4.1;exact ⟨h5.1,Int.le_trans h5.2 h4.2⟩,?_⟩
    rw [show min (H.getD 7 0).toNat 5 - (k3 + 1) = m by omega,hvr3]
    show K3Q s H a1 a2 a3 ((savQ s r3).1 :: _,_) = K3Q s H a1 a2 (a3 ++ [(savQ s r3).1]) _
    unfold K3Q;simp only [List.append_assoc,List.singleton_append];rfl
   all_goals
    have hwr3:stageQ0 s p = finQ s H a1 a2 a3 r3:=by
     first | rw [loopP_bad (savQ s) _ hc] at hvr3 | rw [show (min (H.getD 7 0).toNat 5 - k3) = 0 by omega] at hvr3
     rw [hvr3];unfold K3Q;simp only [List.append_nil,loopP]
    clear hvr3
    have p1:=readRowsP_G s r3 hPr3
    have p2:=vecP_G s _ p1.1
    have p3:=vecP_G s _ p2.1
    have p4:=vecP_G s _ p3.1
    have p5:=vecP_G s _ p4.1
    have p6:=readRowsP_G s _ p5.1
    have q2:(stageQ0 s p).2 = (finQ s H a1 a2 a3 r3).2:=by rw [hwr3]
    have q1:(stageQ0 s p).1 = (finQ s H a1 a2 a3 r3).1:=by rw [hwr3]
    have q3:(finQ s H a1 a2 a3 r3).2≤(s.size:Int):=p6.1.2
    have q4:0≤(finQ s H a1 a2 a3 r3).2→0≤p∧p≤(finQ s H a1 a2 a3 r3).2:=fun h=>by have h6:=p6.2 h;have h5:=p5.2 h6.1;have h4:=p4.2 h5.1;have h3:=p3.2 h4.1;have h2:=p2.2 h3.1;have h1:=p1.2 h2.1;have h0:=hMr3 h1.1;exact ⟨h0.1,by have:=h6.2;have:=h5.2;have:=h4.2;have:=h3.2;have:=h2.2;have:=h1.2;have:=h0.2;show p≤(readRowsP s _).2;omega⟩
    refine ⟨hPr3,fun _=>⟨p1.1,fun _=>⟨p2.1,fun _=>⟨p3.1,fun _=>⟨p4.1,fun _=>⟨p5.1,fun _=>⟨fun h=>stageQ_no (.inl (by rw [q2];exact h)),fun h=>⟨⟨(q4 h).1,(q4 h).2,q3⟩,fun _ _=>⟨fun h2=>stageQ_no (.inr (by rw [q1,q2];exact h2)),fun h2=>?_⟩⟩⟩⟩⟩⟩⟩⟩⟩
    refine Eq.trans ?_ (stageQ_yes (by rw [q2];exact h) (by rw [q1,q2];first | exact h2 | exact Classical.not_not.1 h2))
    rw [hwr3];rfl
set_option maxHeartbeats 8000000 in
theorem h_s_l21Stage:Con.Holds Tryz.prog c_s_l21Stage:=tree_ok mixedP (consAt h_s_l21Of (consAt h_s_l21Vec (consAt h_s_l21ReadRows (consAt h_s_ShowStage consNil)))) e_s_l21Stage fun x hx hp=>v_s_l21Stage x hx hp
end Go.Proofs.YtepjkojfjdcegaaGreat
