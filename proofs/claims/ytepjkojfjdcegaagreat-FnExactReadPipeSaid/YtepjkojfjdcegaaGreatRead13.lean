/- Read13: trees, and what they say. -/
import Derived.Test.YtepjkojfjdcegaaGreatRead11
import Derived.Test.YtepjkojfjdcegaaGreatShow4
namespace Go.Proofs.YtepjkojfjdcegaaGreat
open Go.ChangeShapes Go.WideShapes Go.ChangeAt Go.RowKit Go.Deep
set_option linter.unusedVariables false
set_option linter.unusedSimpArgs false
theorem stageQ0_G (s:ByteArray):GdQ s (stageQ0 s):=fun p hp=>by
 have h0:=ofP_G s 8 p hp
 have h1:=loopP_G (insQ_G s) (min ((ofP s 8 p).1.getD 5 0).toNat 100) _ h0.1
 unfold stageQ0 K1Q K2Q K3Q finQ
 generalize loopP (insQ s) (min ((ofP s 8 p).1.getD 5 0).toNat 100) (ofP s 8 p).2 = A at h1 ⊢
 have h2:=loopP_G (opQ_G s) (min ((ofP s 8 p).1.getD 6 0).toNat 8) _ h1.1
 generalize loopP (opQ s) (min ((ofP s 8 p).1.getD 6 0).toNat 8) A.2 = B at h2 ⊢
 have h3:=loopP_G (savQ_G s) (min ((ofP s 8 p).1.getD 7 0).toNat 5) _ h2.1
 generalize loopP (savQ s) (min ((ofP s 8 p).1.getD 7 0).toNat 5) B.2 = C at h3 ⊢
 have g1:=readRowsP_G s _ h3.1
 have g2:=vecP_G s _ g1.1
 have g3:=vecP_G s _ g2.1
 have g4:=vecP_G s _ g3.1
 have g5:=vecP_G s _ g4.1
 have g6:=readRowsP_G s _ g5.1
 refine ⟨g6.1,fun h=>?_⟩
 have q6:=g6.2 h
 have q5:=g5.2 q6.1
 have q4:=g4.2 q5.1
 have q3:=g3.2 q4.1
 have q2:=g2.2 q3.1
 have q1:=g1.2 q2.1
 have q0:=h3.2 q1.1
 have r2:=h2.2 q0.1
 have r1:=h1.2 r2.1
 have r0:=h0.2 r1.1
 exact ⟨r0.1,Int.le_trans r0.2 (Int.le_trans r1.2 (Int.le_trans r2.2 (Int.le_trans q0.2 (Int.le_trans q1.2 (Int.le_trans q2.2 (Int.le_trans q3.2 (Int.le_trans q4.2 (Int.le_trans q5.2 q6.2))))))))⟩
theorem stageQ_G (s:ByteArray):GdQ s (stageQ s):=fun p hp=>by
 unfold stageQ
 split
 ·exact ⟨⟨by show (-1:Int)≤-1;omega,by show (-1:Int)≤s.size;omega⟩,fun h=>absurd h (by show ¬ (0:Int)≤-1;omega)⟩
 ·exact stageQ0_G s p hp
theorem rdPS_of {s:ByteArray} {V:PipeD × Int} (h:pipeQ s = V):rdPS s = if ¬ V.2 = (s.size:Int)∨s = ⟨#[]⟩∨¬ pipeS V.1 = s then (zPipe,false) else (V.1,true):=by unfold rdPS;rw [h]
noncomputable def c_s_ReadPipe:Con:=⟨31,.str,(.pair tPipe .bool),[.val ⟨false,.str,[]⟩],[⟨true,tPipe,[2,2,2,2]⟩,⟨false,.bool,[0]⟩],false,none,
 ((fun x=>x.size≤100000000):(ByteArray)→Prop),
 ((fun x=>rdPS x):(ByteArray)→(PipeD × Bool))⟩
def t_s_ReadPipe:T :=
 .call 0 (mkA (.pair .str tIns) [(.vr 0),(.ci .i64 0),(.ci .i64 2)]) <|
 .loop (.pair tI (.pair tI tBatch)) (mkA (.pair tI (.pair tI tBatch)) [(.ci .i64 0),(prA (.pair tInts tI) 1 (.vr 1)),(.nl 128 tPair)]) <|
  .prim (.lidx 3 tI) (.mk2 tInts tI (.p1 tInts tI (.vr 1)) (.ci .i64 0)) <|
  .prim (.lidx 3 tI) (.mk2 tInts tI (.p1 tInts tI (.vr 1)) (.ci .i64 0)) <|
  .prim (.cmp .lss .i64) (.mk2 tI tI (.p1 tI (.pair tI tBatch) (.vr 2)) (.vr 4)) <|
  .ite (.vr 5) (
   .prim (.cmp .lss .i64) (.mk2 tI tI (.p1 tI (.pair tI tBatch) (.vr 2)) (.ci .i64 5)) <|
   .ite (.vr 6) (
    .prim (.cmp .geq .i64) (.mk2 tI tI (pjA (.pair tI (.pair tI tBatch)) 1 (.vr 2)) (.ci .i64 0)) <|
    .ite (.vr 7) (
     .call 1 (.mk2 .str tI (.vr 0) (pjA (.pair tI (.pair tI tBatch)) 1 (.vr 2))) <|
     .call 1 (.mk2 .str tI (.vr 0) (prA (.pair tInts tI) 1 (.vr 8))) <|
     .prim (.lit 128 tPair 1) (.mk2 tInts tInts (.p1 tInts tI (.vr 8)) (.p1 tInts tI (.vr 9))) <|
     .prim (.lapp 128 tPair 48) (.mk2 tBatch tBatch (prA (.pair tI (.pair tI tBatch)) 2 (.vr 2)) (.vr 10)) <|
     .prim (.ar .add .i64) (.mk2 tI tI (.p1 tI (.pair tI tBatch) (.vr 2)) (.ci .i64 1)) <|
     .again 0 (mkA (.pair tI (.pair tI tBatch)) [(.vr 12),(prA (.pair tInts tI) 1 (.vr 9)),(.vr 11)])) (
     .loop (.pair tI (.pair tI (.slice 38 tStage))) (mkA (.pair tI (.pair tI (.slice 38 tStage))) [(.ci .i64 0),(pjA (.pair tI (.pair tI tBatch)) 1 (.vr 2)),(.nl 38 tStage)]) <|
      .prim (.lidx 3 tI) (.mk2 tInts tI (.p1 tInts tI (.vr 1)) (.ci .i64 1)) <|
      .prim (.lidx 3 tI) (.mk2 tInts tI (.p1 tInts tI (.vr 1)) (.ci .i64 1)) <|
      .prim (.cmp .lss .i64) (.mk2 tI tI (.p1 tI (.pair tI (.slice 38 tStage)) (.vr 8)) (.vr 10)) <|
      .ite (.vr 11) (
       .prim (.cmp .lss .i64) (.mk2 tI tI (.p1 tI (.pair tI (.slice 38 tStage)) (.vr 8)) (.ci .i64 4)) <|
       .ite (.vr 12) (
        .prim (.cmp .geq .i64) (.mk2 tI tI (pjA (.pair tI (.pair tI (.slice 38 tStage))) 1 (.vr 8)) (.ci .i64 0)) <|
        .ite (.vr 13) (
         .call 2 (.mk2 .str tI (.vr 0) (pjA (.pair tI (.pair tI (.slice 38 tStage))) 1 (.vr 8))) <|
         .prim (.lit 38 tStage 1) (.p1 tStage tI (.vr 14)) <|
         .prim (.lapp 38 tStage 248) (.mk2 (.slice 38 tStage) (.slice 38 tStage) (prA (.pair tI (.pair tI (.slice 38 tStage))) 2 (.vr 8)) (.vr 15)) <|
         .prim (.ar .add .i64) (.mk2 tI tI (.p1 tI (.pair tI (.slice 38 tStage)) (.vr 8)) (.ci .i64 1)) <|
         .again 0 (mkA (.pair tI (.pair tI (.slice 38 tStage))) [(.vr 17),(prA (.pair tStage tI) 1 (.vr 14)),(.vr 16)])) (
         .loop (.pair tI (.pair tI (.pair tQueues tQueues))) (mkA (.pair tI (.pair tI (.pair tQueues tQueues))) [(.ci .i64 1),(pjA (.pair tI (.pair tI (.slice 38 tStage))) 1 (.vr 8)),(.nl 133 tQueue),(.nl 133 tQueue)]) <|
          .prim (.llen 38 tStage) (prA (.pair tI (.pair tI (.slice 38 tStage))) 2 (.vr 8)) <|
          .prim (.cmp .lss .i64) (.mk2 tI tI (.p1 tI (.pair tI (.pair tQueues tQueues)) (.vr 14)) (.vr 15)) <|
          .ite (.vr 16) (
           .prim (.cmp .geq .i64) (.mk2 tI tI (pjA (.pair tI (.pair tI (.pair tQueues tQueues))) 1 (.vr 14)) (.ci .i64 0)) <|
           .ite (.vr 17) (
            .call 3 (.mk2 .str tI (.vr 0) (pjA (.pair tI (.pair tI (.pair tQueues tQueues))) 1 (.vr 14))) <|
            .call 3 (.mk2 .str tI (.vr 0) (prA (.pair tQueue tI) 1 (.vr 18))) <|
            .prim (.lit 133 tQueue 1) (.p1 tQueue tI (.vr 18)) <|
            .prim (.lapp 133 tQueue 32) (.mk2 tQueues tQueues (pjA (.pair tI (.pair tI (.pair tQueues tQueues))) 2 (.vr 14)) (.vr 20)) <|
            .prim (.lit 133 tQueue 1) (.p1 tQueue tI (.vr 19)) <|
            .prim (.lapp 133 tQueue 32) (.mk2 tQueues tQueues (prA (.pair tI (.pair tI (.pair tQueues tQueues))) 3 (.vr 14)) (.vr 22)) <|
            .prim (.ar .add .i64) (.mk2 tI tI (.p1 tI (.pair tI (.pair tQueues tQueues)) (.vr 14)) (.ci .i64 1)) <|
            .again 0 (mkA (.pair tI (.pair tI (.pair tQueues tQueues))) [(.vr 24),(prA (.pair tQueue tI) 1 (.vr 19)),(.vr 21),(.vr 23)])) (
            .prim .slen (.vr 0) <|
            .prim (.cmp .neq .i64) (.mk2 tI tI (pjA (.pair tI (.pair tI (.pair tQueues tQueues))) 1 (.vr 14)) (.vr 18)) <|
            .ite (.vr 19) (
             .ret (.mk2 tPipe .bool (mkA tPipe [(.nl 128 tPair),(.nl 38 tStage),(.nl 133 tQueue),(.nl 133 tQueue)]) (.cb false))) (
             .prim (.seq false) (.mk2 .str .str (.vr 0) (.cs ⟨#[]⟩)) <|
             .ite (.vr 20) (
              .ret (.mk2 tPipe .bool (mkA tPipe [(.nl 128 tPair),(.nl 38 tStage),(.nl 133 tQueue),(.nl 133 tQueue)]) (.cb false))) (
              .call 4 (mkA tPipe [(prA (.pair tI (.pair tI tBatch)) 2 (.vr 2)),(prA (.pair tI (.pair tI (.slice 38 tStage))) 2 (.vr 8)),(prA (.pair tI (.pair tI (.pair tQueues tQueues))) 2 (.vr 14))]) <|
              .prim (.seq true) (.mk2 .str .str (.vr 21) (.vr 0)) <|
              .ite (.vr 22) (
               .ret (.mk2 tPipe .bool (mkA tPipe [(.nl 128 tPair),(.nl 38 tStage),(.nl 133 tQueue),(.nl 133 tQueue)]) (.cb false))) (
               .ret (.mk2 tPipe .bool (mkA tPipe [(prA (.pair tI (.pair tI tBatch)) 2 (.vr 2)),(prA (.pair tI (.pair tI (.slice 38 tStage))) 2 (.vr 8)),(prA (.pair tI (.pair tI (.pair tQueues tQueues))) 2 (.vr 14))]) (.cb true))))))) (
           .prim .slen (.vr 0) <|
           .prim (.cmp .neq .i64) (.mk2 tI tI (pjA (.pair tI (.pair tI (.pair tQueues tQueues))) 1 (.vr 14)) (.vr 17)) <|
           .ite (.vr 18) (
            .ret (.mk2 tPipe .bool (mkA tPipe [(.nl 128 tPair),(.nl 38 tStage),(.nl 133 tQueue),(.nl 133 tQueue)]) (.cb false))) (
            .prim (.seq false) (.mk2 .str .str (.vr 0) (.cs ⟨#[]⟩)) <|
            .ite (.vr 19) (
             .ret (.mk2 tPipe .bool (mkA tPipe [(.nl 128 tPair),(.nl 38 tStage),(.nl 133 tQueue),(.nl 133 tQueue)]) (.cb false))) (
             .call 4 (mkA tPipe [(prA (.pair tI (.pair tI tBatch)) 2 (.vr 2)),(prA (.pair tI (.pair tI (.slice 38 tStage))) 2 (.vr 8)),(prA (.pair tI (.pair tI (.pair tQueues tQueues))) 2 (.vr 14))]) <|
             .prim (.seq true) (.mk2 .str .str (.vr 20) (.vr 0)) <|
             .ite (.vr 21) (
              .ret (.mk2 tPipe .bool (mkA tPipe [(.nl 128 tPair),(.nl 38 tStage),(.nl 133 tQueue),(.nl 133 tQueue)]) (.cb false))) (
              .ret (.mk2 tPipe .bool (mkA tPipe [(prA (.pair tI (.pair tI tBatch)) 2 (.vr 2)),(prA (.pair tI (.pair tI (.slice 38 tStage))) 2 (.vr 8)),(prA (.pair tI (.pair tI (.pair tQueues tQueues))) 2 (.vr 14))]) (.cb true)))))))) (
        .loop (.pair tI (.pair tI (.pair tQueues tQueues))) (mkA (.pair tI (.pair tI (.pair tQueues tQueues))) [(.ci .i64 1),(pjA (.pair tI (.pair tI (.slice 38 tStage))) 1 (.vr 8)),(.nl 133 tQueue),(.nl 133 tQueue)]) <|
         .prim (.llen 38 tStage) (prA (.pair tI (.pair tI (.slice 38 tStage))) 2 (.vr 8)) <|
         .prim (.cmp .lss .i64) (.mk2 tI tI (.p1 tI (.pair tI (.pair tQueues tQueues)) (.vr 13)) (.vr 14)) <|
         .ite (.vr 15) (
          .prim (.cmp .geq .i64) (.mk2 tI tI (pjA (.pair tI (.pair tI (.pair tQueues tQueues))) 1 (.vr 13)) (.ci .i64 0)) <|
          .ite (.vr 16) (
           .call 3 (.mk2 .str tI (.vr 0) (pjA (.pair tI (.pair tI (.pair tQueues tQueues))) 1 (.vr 13))) <|
           .call 3 (.mk2 .str tI (.vr 0) (prA (.pair tQueue tI) 1 (.vr 17))) <|
           .prim (.lit 133 tQueue 1) (.p1 tQueue tI (.vr 17)) <|
           .prim (.lapp 133 tQueue 32) (.mk2 tQueues tQueues (pjA (.pair tI (.pair tI (.pair tQueues tQueues))) 2 (.vr 13)) (.vr 19)) <|
           .prim (.lit 133 tQueue 1) (.p1 tQueue tI (.vr 18)) <|
           .prim (.lapp 133 tQueue 32) (.mk2 tQueues tQueues (prA (.pair tI (.pair tI (.pair tQueues tQueues))) 3 (.vr 13)) (.vr 21)) <|
           .prim (.ar .add .i64) (.mk2 tI tI (.p1 tI (.pair tI (.pair tQueues tQueues)) (.vr 13)) (.ci .i64 1)) <|
           .again 0 (mkA (.pair tI (.pair tI (.pair tQueues tQueues))) [(.vr 23),(prA (.pair tQueue tI) 1 (.vr 18)),(.vr 20),(.vr 22)])) (
           .prim .slen (.vr 0) <|
           .prim (.cmp .neq .i64) (.mk2 tI tI (pjA (.pair tI (.pair tI (.pair tQueues tQueues))) 1 (.vr 13)) (.vr 17)) <|
           .ite (.vr 18) (
            .ret (.mk2 tPipe .bool (mkA tPipe [(.nl 128 tPair),(.nl 38 tStage),(.nl 133 tQueue),(.nl 133 tQueue)]) (.cb false))) (
            .prim (.seq false) (.mk2 .str .str (.vr 0) (.cs ⟨#[]⟩)) <|
            .ite (.vr 19) (
             .ret (.mk2 tPipe .bool (mkA tPipe [(.nl 128 tPair),(.nl 38 tStage),(.nl 133 tQueue),(.nl 133 tQueue)]) (.cb false))) (
             .call 4 (mkA tPipe [(prA (.pair tI (.pair tI tBatch)) 2 (.vr 2)),(prA (.pair tI (.pair tI (.slice 38 tStage))) 2 (.vr 8)),(prA (.pair tI (.pair tI (.pair tQueues tQueues))) 2 (.vr 13))]) <|
             .prim (.seq true) (.mk2 .str .str (.vr 20) (.vr 0)) <|
             .ite (.vr 21) (
              .ret (.mk2 tPipe .bool (mkA tPipe [(.nl 128 tPair),(.nl 38 tStage),(.nl 133 tQueue),(.nl 133 tQueue)]) (.cb false))) (
              .ret (.mk2 tPipe .bool (mkA tPipe [(prA (.pair tI (.pair tI tBatch)) 2 (.vr 2)),(prA (.pair tI (.pair tI (.slice 38 tStage))) 2 (.vr 8)),(prA (.pair tI (.pair tI (.pair tQueues tQueues))) 2 (.vr 13))]) (.cb true))))))) (
          .prim .slen (.vr 0) <|
          .prim (.cmp .neq .i64) (.mk2 tI tI (pjA (.pair tI (.pair tI (.pair tQueues tQueues))) 1 (.vr 13)) (.vr 16)) <|
          .ite (.vr 17) (
           .ret (.mk2 tPipe .bool (mkA tPipe [(.nl 128 tPair),(.nl 38 tStage),(.nl 133 tQueue),(.nl 133 tQueue)]) (.cb false))) (
           .prim (.seq false) (.mk2 .str .str (.vr 0) (.cs ⟨#[]⟩)) <|
           .ite (.vr 18) (
            .ret (.mk2 tPipe .bool (mkA tPipe [(.nl 128 tPair),(.nl 38 tStage),(.nl 133 tQueue),(.nl 133 tQueue)]) (.cb false))) (
            .call 4 (mkA tPipe [(prA (.pair tI (.pair tI tBatch)) 2 (.vr 2)),(prA (.pair tI (.pair tI (.slice 38 tStage))) 2 (.vr 8)),(prA (.pair tI (.pair tI (.pair tQueues tQueues))) 2 (.vr 13))]) <|
            .prim (.seq true) (.mk2 .str .str (.vr 19) (.vr 0)) <|
            .ite (.vr 20) (
             .ret (.mk2 tPipe .bool (mkA tPipe [(.nl 128 tPair),(.nl 38 tStage),(.nl 133 tQueue),(.nl 133 tQueue)]) (.cb false))) (
             .ret (.mk2 tPipe .bool (mkA tPipe [(prA (.pair tI (.pair tI tBatch)) 2 (.vr 2)),(prA (.pair tI (.pair tI (.slice 38 tStage))) 2 (.vr 8)),(prA (.pair tI (.pair tI (.pair tQueues tQueues))) 2 (.vr 13))]) (.cb true)))))))) (
       .loop (.pair tI (.pair tI (.pair tQueues tQueues))) (mkA (.pair tI (.pair tI (.pair tQueues tQueues))) [(.ci .i64 1),(pjA (.pair tI (.pair tI (.slice 38 tStage))) 1 (.vr 8)),(.nl 133 tQueue),(.nl 133 tQueue)]) <|
        .prim (.llen 38 tStage) (prA (.pair tI (.pair tI (.slice 38 tStage))) 2 (.vr 8)) <|
        .prim (.cmp .lss .i64) (.mk2 tI tI (.p1 tI (.pair tI (.pair tQueues tQueues)) (.vr 12)) (.vr 13)) <|
        .ite (.vr 14) (
         .prim (.cmp .geq .i64) (.mk2 tI tI (pjA (.pair tI (.pair tI (.pair tQueues tQueues))) 1 (.vr 12)) (.ci .i64 0)) <|
         .ite (.vr 15) (
          .call 3 (.mk2 .str tI (.vr 0) (pjA (.pair tI (.pair tI (.pair tQueues tQueues))) 1 (.vr 12))) <|
          .call 3 (.mk2 .str tI (.vr 0) (prA (.pair tQueue tI) 1 (.vr 16))) <|
          .prim (.lit 133 tQueue 1) (.p1 tQueue tI (.vr 16)) <|
          .prim (.lapp 133 tQueue 32) (.mk2 tQueues tQueues (pjA (.pair tI (.pair tI (.pair tQueues tQueues))) 2 (.vr 12)) (.vr 18)) <|
          .prim (.lit 133 tQueue 1) (.p1 tQueue tI (.vr 17)) <|
          .prim (.lapp 133 tQueue 32) (.mk2 tQueues tQueues (prA (.pair tI (.pair tI (.pair tQueues tQueues))) 3 (.vr 12)) (.vr 20)) <|
          .prim (.ar .add .i64) (.mk2 tI tI (.p1 tI (.pair tI (.pair tQueues tQueues)) (.vr 12)) (.ci .i64 1)) <|
          .again 0 (mkA (.pair tI (.pair tI (.pair tQueues tQueues))) [(.vr 22),(prA (.pair tQueue tI) 1 (.vr 17)),(.vr 19),(.vr 21)])) (
          .prim .slen (.vr 0) <|
          .prim (.cmp .neq .i64) (.mk2 tI tI (pjA (.pair tI (.pair tI (.pair tQueues tQueues))) 1 (.vr 12)) (.vr 16)) <|
          .ite (.vr 17) (
           .ret (.mk2 tPipe .bool (mkA tPipe [(.nl 128 tPair),(.nl 38 tStage),(.nl 133 tQueue),(.nl 133 tQueue)]) (.cb false))) (
           .prim (.seq false) (.mk2 .str .str (.vr 0) (.cs ⟨#[]⟩)) <|
           .ite (.vr 18) (
            .ret (.mk2 tPipe .bool (mkA tPipe [(.nl 128 tPair),(.nl 38 tStage),(.nl 133 tQueue),(.nl 133 tQueue)]) (.cb false))) (
            .call 4 (mkA tPipe [(prA (.pair tI (.pair tI tBatch)) 2 (.vr 2)),(prA (.pair tI (.pair tI (.slice 38 tStage))) 2 (.vr 8)),(prA (.pair tI (.pair tI (.pair tQueues tQueues))) 2 (.vr 12))]) <|
            .prim (.seq true) (.mk2 .str .str (.vr 19) (.vr 0)) <|
            .ite (.vr 20) (
             .ret (.mk2 tPipe .bool (mkA tPipe [(.nl 128 tPair),(.nl 38 tStage),(.nl 133 tQueue),(.nl 133 tQueue)]) (.cb false))) (
             .ret (.mk2 tPipe .bool (mkA tPipe [(prA (.pair tI (.pair tI tBatch)) 2 (.vr 2)),(prA (.pair tI (.pair tI (.slice 38 tStage))) 2 (.vr 8)),(prA (.pair tI (.pair tI (.pair tQueues tQueues))) 2 (.vr 12))]) (.cb true))))))) (
         .prim .slen (.vr 0) <|
         .prim (.cmp .neq .i64) (.mk2 tI tI (pjA (.pair tI (.pair tI (.pair tQueues tQueues))) 1 (.vr 12)) (.vr 15)) <|
         .ite (.vr 16) (
          .ret (.mk2 tPipe .bool (mkA tPipe [(.nl 128 tPair),(.nl 38 tStage),(.nl 133 tQueue),(.nl 133 tQueue)]) (.cb false))) (
          .prim (.seq false) (.mk2 .str .str (.vr 0) (.cs ⟨#[]⟩)) <|
          .ite (.vr 17) (
           .ret (.mk2 tPipe .bool (mkA tPipe [(.nl 128 tPair),(.nl 38 tStage),(.nl 133 tQueue),(.nl 133 tQueue)]) (.cb false))) (
           .call 4 (mkA tPipe [(prA (.pair tI (.pair tI tBatch)) 2 (.vr 2)),(prA (.pair tI (.pair tI (.slice 38 tStage))) 2 (.vr 8)),(prA (.pair tI (.pair tI (.pair tQueues tQueues))) 2 (.vr 12))]) <|
           .prim (.seq true) (.mk2 .str .str (.vr 18) (.vr 0)) <|
           .ite (.vr 19) (
            .ret (.mk2 tPipe .bool (mkA tPipe [(.nl 128 tPair),(.nl 38 tStage),(.nl 133 tQueue),(.nl 133 tQueue)]) (.cb false))) (
            .ret (.mk2 tPipe .bool (mkA tPipe [(prA (.pair tI (.pair tI tBatch)) 2 (.vr 2)),(prA (.pair tI (.pair tI (.slice 38 tStage))) 2 (.vr 8)),(prA (.pair tI (.pair tI (.pair tQueues tQueues))) 2 (.vr 12))]) (.cb true))))))))) (
    .loop (.pair tI (.pair tI (.slice 38 tStage))) (mkA (.pair tI (.pair tI (.slice 38 tStage))) [(.ci .i64 0),(pjA (.pair tI (.pair tI tBatch)) 1 (.vr 2)),(.nl 38 tStage)]) <|
     .prim (.lidx 3 tI) (.mk2 tInts tI (.p1 tInts tI (.vr 1)) (.ci .i64 1)) <|
     .prim (.lidx 3 tI) (.mk2 tInts tI (.p1 tInts tI (.vr 1)) (.ci .i64 1)) <|
     .prim (.cmp .lss .i64) (.mk2 tI tI (.p1 tI (.pair tI (.slice 38 tStage)) (.vr 7)) (.vr 9)) <|
     .ite (.vr 10) (
      .prim (.cmp .lss .i64) (.mk2 tI tI (.p1 tI (.pair tI (.slice 38 tStage)) (.vr 7)) (.ci .i64 4)) <|
      .ite (.vr 11) (
       .prim (.cmp .geq .i64) (.mk2 tI tI (pjA (.pair tI (.pair tI (.slice 38 tStage))) 1 (.vr 7)) (.ci .i64 0)) <|
       .ite (.vr 12) (
        .call 2 (.mk2 .str tI (.vr 0) (pjA (.pair tI (.pair tI (.slice 38 tStage))) 1 (.vr 7))) <|
        .prim (.lit 38 tStage 1) (.p1 tStage tI (.vr 13)) <|
        .prim (.lapp 38 tStage 248) (.mk2 (.slice 38 tStage) (.slice 38 tStage) (prA (.pair tI (.pair tI (.slice 38 tStage))) 2 (.vr 7)) (.vr 14)) <|
        .prim (.ar .add .i64) (.mk2 tI tI (.p1 tI (.pair tI (.slice 38 tStage)) (.vr 7)) (.ci .i64 1)) <|
        .again 0 (mkA (.pair tI (.pair tI (.slice 38 tStage))) [(.vr 16),(prA (.pair tStage tI) 1 (.vr 13)),(.vr 15)])) (
        .loop (.pair tI (.pair tI (.pair tQueues tQueues))) (mkA (.pair tI (.pair tI (.pair tQueues tQueues))) [(.ci .i64 1),(pjA (.pair tI (.pair tI (.slice 38 tStage))) 1 (.vr 7)),(.nl 133 tQueue),(.nl 133 tQueue)]) <|
         .prim (.llen 38 tStage) (prA (.pair tI (.pair tI (.slice 38 tStage))) 2 (.vr 7)) <|
         .prim (.cmp .lss .i64) (.mk2 tI tI (.p1 tI (.pair tI (.pair tQueues tQueues)) (.vr 13)) (.vr 14)) <|
         .ite (.vr 15) (
          .prim (.cmp .geq .i64) (.mk2 tI tI (pjA (.pair tI (.pair tI (.pair tQueues tQueues))) 1 (.vr 13)) (.ci .i64 0)) <|
          .ite (.vr 16) (
           .call 3 (.mk2 .str tI (.vr 0) (pjA (.pair tI (.pair tI (.pair tQueues tQueues))) 1 (.vr 13))) <|
           .call 3 (.mk2 .str tI (.vr 0) (prA (.pair tQueue tI) 1 (.vr 17))) <|
           .prim (.lit 133 tQueue 1) (.p1 tQueue tI (.vr 17)) <|
           .prim (.lapp 133 tQueue 32) (.mk2 tQueues tQueues (pjA (.pair tI (.pair tI (.pair tQueues tQueues))) 2 (.vr 13)) (.vr 19)) <|
           .prim (.lit 133 tQueue 1) (.p1 tQueue tI (.vr 18)) <|
           .prim (.lapp 133 tQueue 32) (.mk2 tQueues tQueues (prA (.pair tI (.pair tI (.pair tQueues tQueues))) 3 (.vr 13)) (.vr 21)) <|
           .prim (.ar .add .i64) (.mk2 tI tI (.p1 tI (.pair tI (.pair tQueues tQueues)) (.vr 13)) (.ci .i64 1)) <|
           .again 0 (mkA (.pair tI (.pair tI (.pair tQueues tQueues))) [(.vr 23),(prA (.pair tQueue tI) 1 (.vr 18)),(.vr 20),(.vr 22)])) (
           .prim .slen (.vr 0) <|
           .prim (.cmp .neq .i64) (.mk2 tI tI (pjA (.pair tI (.pair tI (.pair tQueues tQueues))) 1 (.vr 13)) (.vr 17)) <|
           .ite (.vr 18) (
            .ret (.mk2 tPipe .bool (mkA tPipe [(.nl 128 tPair),(.nl 38 tStage),(.nl 133 tQueue),(.nl 133 tQueue)]) (.cb false))) (
            .prim (.seq false) (.mk2 .str .str (.vr 0) (.cs ⟨#[]⟩)) <|
            .ite (.vr 19) (
             .ret (.mk2 tPipe .bool (mkA tPipe [(.nl 128 tPair),(.nl 38 tStage),(.nl 133 tQueue),(.nl 133 tQueue)]) (.cb false))) (
             .call 4 (mkA tPipe [(prA (.pair tI (.pair tI tBatch)) 2 (.vr 2)),(prA (.pair tI (.pair tI (.slice 38 tStage))) 2 (.vr 7)),(prA (.pair tI (.pair tI (.pair tQueues tQueues))) 2 (.vr 13))]) <|
             .prim (.seq true) (.mk2 .str .str (.vr 20) (.vr 0)) <|
             .ite (.vr 21) (
              .ret (.mk2 tPipe .bool (mkA tPipe [(.nl 128 tPair),(.nl 38 tStage),(.nl 133 tQueue),(.nl 133 tQueue)]) (.cb false))) (
              .ret (.mk2 tPipe .bool (mkA tPipe [(prA (.pair tI (.pair tI tBatch)) 2 (.vr 2)),(prA (.pair tI (.pair tI (.slice 38 tStage))) 2 (.vr 7)),(prA (.pair tI (.pair tI (.pair tQueues tQueues))) 2 (.vr 13))]) (.cb true))))))) (
          .prim .slen (.vr 0) <|
          .prim (.cmp .neq .i64) (.mk2 tI tI (pjA (.pair tI (.pair tI (.pair tQueues tQueues))) 1 (.vr 13)) (.vr 16)) <|
          .ite (.vr 17) (
           .ret (.mk2 tPipe .bool (mkA tPipe [(.nl 128 tPair),(.nl 38 tStage),(.nl 133 tQueue),(.nl 133 tQueue)]) (.cb false))) (
           .prim (.seq false) (.mk2 .str .str (.vr 0) (.cs ⟨#[]⟩)) <|
           .ite (.vr 18) (
            .ret (.mk2 tPipe .bool (mkA tPipe [(.nl 128 tPair),(.nl 38 tStage),(.nl 133 tQueue),(.nl 133 tQueue)]) (.cb false))) (
            .call 4 (mkA tPipe [(prA (.pair tI (.pair tI tBatch)) 2 (.vr 2)),(prA (.pair tI (.pair tI (.slice 38 tStage))) 2 (.vr 7)),(prA (.pair tI (.pair tI (.pair tQueues tQueues))) 2 (.vr 13))]) <|
            .prim (.seq true) (.mk2 .str .str (.vr 19) (.vr 0)) <|
            .ite (.vr 20) (
             .ret (.mk2 tPipe .bool (mkA tPipe [(.nl 128 tPair),(.nl 38 tStage),(.nl 133 tQueue),(.nl 133 tQueue)]) (.cb false))) (
             .ret (.mk2 tPipe .bool (mkA tPipe [(prA (.pair tI (.pair tI tBatch)) 2 (.vr 2)),(prA (.pair tI (.pair tI (.slice 38 tStage))) 2 (.vr 7)),(prA (.pair tI (.pair tI (.pair tQueues tQueues))) 2 (.vr 13))]) (.cb true)))))))) (
       .loop (.pair tI (.pair tI (.pair tQueues tQueues))) (mkA (.pair tI (.pair tI (.pair tQueues tQueues))) [(.ci .i64 1),(pjA (.pair tI (.pair tI (.slice 38 tStage))) 1 (.vr 7)),(.nl 133 tQueue),(.nl 133 tQueue)]) <|
        .prim (.llen 38 tStage) (prA (.pair tI (.pair tI (.slice 38 tStage))) 2 (.vr 7)) <|
        .prim (.cmp .lss .i64) (.mk2 tI tI (.p1 tI (.pair tI (.pair tQueues tQueues)) (.vr 12)) (.vr 13)) <|
        .ite (.vr 14) (
         .prim (.cmp .geq .i64) (.mk2 tI tI (pjA (.pair tI (.pair tI (.pair tQueues tQueues))) 1 (.vr 12)) (.ci .i64 0)) <|
         .ite (.vr 15) (
          .call 3 (.mk2 .str tI (.vr 0) (pjA (.pair tI (.pair tI (.pair tQueues tQueues))) 1 (.vr 12))) <|
          .call 3 (.mk2 .str tI (.vr 0) (prA (.pair tQueue tI) 1 (.vr 16))) <|
          .prim (.lit 133 tQueue 1) (.p1 tQueue tI (.vr 16)) <|
          .prim (.lapp 133 tQueue 32) (.mk2 tQueues tQueues (pjA (.pair tI (.pair tI (.pair tQueues tQueues))) 2 (.vr 12)) (.vr 18)) <|
          .prim (.lit 133 tQueue 1) (.p1 tQueue tI (.vr 17)) <|
          .prim (.lapp 133 tQueue 32) (.mk2 tQueues tQueues (prA (.pair tI (.pair tI (.pair tQueues tQueues))) 3 (.vr 12)) (.vr 20)) <|
          .prim (.ar .add .i64) (.mk2 tI tI (.p1 tI (.pair tI (.pair tQueues tQueues)) (.vr 12)) (.ci .i64 1)) <|
          .again 0 (mkA (.pair tI (.pair tI (.pair tQueues tQueues))) [(.vr 22),(prA (.pair tQueue tI) 1 (.vr 17)),(.vr 19),(.vr 21)])) (
          .prim .slen (.vr 0) <|
          .prim (.cmp .neq .i64) (.mk2 tI tI (pjA (.pair tI (.pair tI (.pair tQueues tQueues))) 1 (.vr 12)) (.vr 16)) <|
          .ite (.vr 17) (
           .ret (.mk2 tPipe .bool (mkA tPipe [(.nl 128 tPair),(.nl 38 tStage),(.nl 133 tQueue),(.nl 133 tQueue)]) (.cb false))) (
           .prim (.seq false) (.mk2 .str .str (.vr 0) (.cs ⟨#[]⟩)) <|
           .ite (.vr 18) (
            .ret (.mk2 tPipe .bool (mkA tPipe [(.nl 128 tPair),(.nl 38 tStage),(.nl 133 tQueue),(.nl 133 tQueue)]) (.cb false))) (
            .call 4 (mkA tPipe [(prA (.pair tI (.pair tI tBatch)) 2 (.vr 2)),(prA (.pair tI (.pair tI (.slice 38 tStage))) 2 (.vr 7)),(prA (.pair tI (.pair tI (.pair tQueues tQueues))) 2 (.vr 12))]) <|
            .prim (.seq true) (.mk2 .str .str (.vr 19) (.vr 0)) <|
            .ite (.vr 20) (
             .ret (.mk2 tPipe .bool (mkA tPipe [(.nl 128 tPair),(.nl 38 tStage),(.nl 133 tQueue),(.nl 133 tQueue)]) (.cb false))) (
             .ret (.mk2 tPipe .bool (mkA tPipe [(prA (.pair tI (.pair tI tBatch)) 2 (.vr 2)),(prA (.pair tI (.pair tI (.slice 38 tStage))) 2 (.vr 7)),(prA (.pair tI (.pair tI (.pair tQueues tQueues))) 2 (.vr 12))]) (.cb true))))))) (
         .prim .slen (.vr 0) <|
         .prim (.cmp .neq .i64) (.mk2 tI tI (pjA (.pair tI (.pair tI (.pair tQueues tQueues))) 1 (.vr 12)) (.vr 15)) <|
         .ite (.vr 16) (
          .ret (.mk2 tPipe .bool (mkA tPipe [(.nl 128 tPair),(.nl 38 tStage),(.nl 133 tQueue),(.nl 133 tQueue)]) (.cb false))) (
          .prim (.seq false) (.mk2 .str .str (.vr 0) (.cs ⟨#[]⟩)) <|
          .ite (.vr 17) (
           .ret (.mk2 tPipe .bool (mkA tPipe [(.nl 128 tPair),(.nl 38 tStage),(.nl 133 tQueue),(.nl 133 tQueue)]) (.cb false))) (
           .call 4 (mkA tPipe [(prA (.pair tI (.pair tI tBatch)) 2 (.vr 2)),(prA (.pair tI (.pair tI (.slice 38 tStage))) 2 (.vr 7)),(prA (.pair tI (.pair tI (.pair tQueues tQueues))) 2 (.vr 12))]) <|
           .prim (.seq true) (.mk2 .str .str (.vr 18) (.vr 0)) <|
           .ite (.vr 19) (
            .ret (.mk2 tPipe .bool (mkA tPipe [(.nl 128 tPair),(.nl 38 tStage),(.nl 133 tQueue),(.nl 133 tQueue)]) (.cb false))) (
            .ret (.mk2 tPipe .bool (mkA tPipe [(prA (.pair tI (.pair tI tBatch)) 2 (.vr 2)),(prA (.pair tI (.pair tI (.slice 38 tStage))) 2 (.vr 7)),(prA (.pair tI (.pair tI (.pair tQueues tQueues))) 2 (.vr 12))]) (.cb true)))))))) (
      .loop (.pair tI (.pair tI (.pair tQueues tQueues))) (mkA (.pair tI (.pair tI (.pair tQueues tQueues))) [(.ci .i64 1),(pjA (.pair tI (.pair tI (.slice 38 tStage))) 1 (.vr 7)),(.nl 133 tQueue),(.nl 133 tQueue)]) <|
       .prim (.llen 38 tStage) (prA (.pair tI (.pair tI (.slice 38 tStage))) 2 (.vr 7)) <|
       .prim (.cmp .lss .i64) (.mk2 tI tI (.p1 tI (.pair tI (.pair tQueues tQueues)) (.vr 11)) (.vr 12)) <|
       .ite (.vr 13) (
        .prim (.cmp .geq .i64) (.mk2 tI tI (pjA (.pair tI (.pair tI (.pair tQueues tQueues))) 1 (.vr 11)) (.ci .i64 0)) <|
        .ite (.vr 14) (
         .call 3 (.mk2 .str tI (.vr 0) (pjA (.pair tI (.pair tI (.pair tQueues tQueues))) 1 (.vr 11))) <|
         .call 3 (.mk2 .str tI (.vr 0) (prA (.pair tQueue tI) 1 (.vr 15))) <|
         .prim (.lit 133 tQueue 1) (.p1 tQueue tI (.vr 15)) <|
         .prim (.lapp 133 tQueue 32) (.mk2 tQueues tQueues (pjA (.pair tI (.pair tI (.pair tQueues tQueues))) 2 (.vr 11)) (.vr 17)) <|
         .prim (.lit 133 tQueue 1) (.p1 tQueue tI (.vr 16)) <|
         .prim (.lapp 133 tQueue 32) (.mk2 tQueues tQueues (prA (.pair tI (.pair tI (.pair tQueues tQueues))) 3 (.vr 11)) (.vr 19)) <|
         .prim (.ar .add .i64) (.mk2 tI tI (.p1 tI (.pair tI (.pair tQueues tQueues)) (.vr 11)) (.ci .i64 1)) <|
         .again 0 (mkA (.pair tI (.pair tI (.pair tQueues tQueues))) [(.vr 21),(prA (.pair tQueue tI) 1 (.vr 16)),(.vr 18),(.vr 20)])) (
         .prim .slen (.vr 0) <|
         .prim (.cmp .neq .i64) (.mk2 tI tI (pjA (.pair tI (.pair tI (.pair tQueues tQueues))) 1 (.vr 11)) (.vr 15)) <|
         .ite (.vr 16) (
          .ret (.mk2 tPipe .bool (mkA tPipe [(.nl 128 tPair),(.nl 38 tStage),(.nl 133 tQueue),(.nl 133 tQueue)]) (.cb false))) (
          .prim (.seq false) (.mk2 .str .str (.vr 0) (.cs ⟨#[]⟩)) <|
          .ite (.vr 17) (
           .ret (.mk2 tPipe .bool (mkA tPipe [(.nl 128 tPair),(.nl 38 tStage),(.nl 133 tQueue),(.nl 133 tQueue)]) (.cb false))) (
           .call 4 (mkA tPipe [(prA (.pair tI (.pair tI tBatch)) 2 (.vr 2)),(prA (.pair tI (.pair tI (.slice 38 tStage))) 2 (.vr 7)),(prA (.pair tI (.pair tI (.pair tQueues tQueues))) 2 (.vr 11))]) <|
           .prim (.seq true) (.mk2 .str .str (.vr 18) (.vr 0)) <|
           .ite (.vr 19) (
            .ret (.mk2 tPipe .bool (mkA tPipe [(.nl 128 tPair),(.nl 38 tStage),(.nl 133 tQueue),(.nl 133 tQueue)]) (.cb false))) (
            .ret (.mk2 tPipe .bool (mkA tPipe [(prA (.pair tI (.pair tI tBatch)) 2 (.vr 2)),(prA (.pair tI (.pair tI (.slice 38 tStage))) 2 (.vr 7)),(prA (.pair tI (.pair tI (.pair tQueues tQueues))) 2 (.vr 11))]) (.cb true))))))) (
        .prim .slen (.vr 0) <|
        .prim (.cmp .neq .i64) (.mk2 tI tI (pjA (.pair tI (.pair tI (.pair tQueues tQueues))) 1 (.vr 11)) (.vr 14)) <|
        .ite (.vr 15) (
         .ret (.mk2 tPipe .bool (mkA tPipe [(.nl 128 tPair),(.nl 38 tStage),(.nl 133 tQueue),(.nl 133 tQueue)]) (.cb false))) (
         .prim (.seq false) (.mk2 .str .str (.vr 0) (.cs ⟨#[]⟩)) <|
         .ite (.vr 16) (
          .ret (.mk2 tPipe .bool (mkA tPipe [(.nl 128 tPair),(.nl 38 tStage),(.nl 133 tQueue),(.nl 133 tQueue)]) (.cb false))) (
          .call 4 (mkA tPipe [(prA (.pair tI (.pair tI tBatch)) 2 (.vr 2)),(prA (.pair tI (.pair tI (.slice 38 tStage))) 2 (.vr 7)),(prA (.pair tI (.pair tI (.pair tQueues tQueues))) 2 (.vr 11))]) <|
          .prim (.seq true) (.mk2 .str .str (.vr 17) (.vr 0)) <|
          .ite (.vr 18) (
           .ret (.mk2 tPipe .bool (mkA tPipe [(.nl 128 tPair),(.nl 38 tStage),(.nl 133 tQueue),(.nl 133 tQueue)]) (.cb false))) (
           .ret (.mk2 tPipe .bool (mkA tPipe [(prA (.pair tI (.pair tI tBatch)) 2 (.vr 2)),(prA (.pair tI (.pair tI (.slice 38 tStage))) 2 (.vr 7)),(prA (.pair tI (.pair tI (.pair tQueues tQueues))) 2 (.vr 11))]) (.cb true))))))))) (
   .loop (.pair tI (.pair tI (.slice 38 tStage))) (mkA (.pair tI (.pair tI (.slice 38 tStage))) [(.ci .i64 0),(pjA (.pair tI (.pair tI tBatch)) 1 (.vr 2)),(.nl 38 tStage)]) <|
    .prim (.lidx 3 tI) (.mk2 tInts tI (.p1 tInts tI (.vr 1)) (.ci .i64 1)) <|
    .prim (.lidx 3 tI) (.mk2 tInts tI (.p1 tInts tI (.vr 1)) (.ci .i64 1)) <|
    .prim (.cmp .lss .i64) (.mk2 tI tI (.p1 tI (.pair tI (.slice 38 tStage)) (.vr 6)) (.vr 8)) <|
    .ite (.vr 9) (
     .prim (.cmp .lss .i64) (.mk2 tI tI (.p1 tI (.pair tI (.slice 38 tStage)) (.vr 6)) (.ci .i64 4)) <|
     .ite (.vr 10) (
      .prim (.cmp .geq .i64) (.mk2 tI tI (pjA (.pair tI (.pair tI (.slice 38 tStage))) 1 (.vr 6)) (.ci .i64 0)) <|
      .ite (.vr 11) (
       .call 2 (.mk2 .str tI (.vr 0) (pjA (.pair tI (.pair tI (.slice 38 tStage))) 1 (.vr 6))) <|
       .prim (.lit 38 tStage 1) (.p1 tStage tI (.vr 12)) <|
       .prim (.lapp 38 tStage 248) (.mk2 (.slice 38 tStage) (.slice 38 tStage) (prA (.pair tI (.pair tI (.slice 38 tStage))) 2 (.vr 6)) (.vr 13)) <|
       .prim (.ar .add .i64) (.mk2 tI tI (.p1 tI (.pair tI (.slice 38 tStage)) (.vr 6)) (.ci .i64 1)) <|
       .again 0 (mkA (.pair tI (.pair tI (.slice 38 tStage))) [(.vr 15),(prA (.pair tStage tI) 1 (.vr 12)),(.vr 14)])) (
       .loop (.pair tI (.pair tI (.pair tQueues tQueues))) (mkA (.pair tI (.pair tI (.pair tQueues tQueues))) [(.ci .i64 1),(pjA (.pair tI (.pair tI (.slice 38 tStage))) 1 (.vr 6)),(.nl 133 tQueue),(.nl 133 tQueue)]) <|
        .prim (.llen 38 tStage) (prA (.pair tI (.pair tI (.slice 38 tStage))) 2 (.vr 6)) <|
        .prim (.cmp .lss .i64) (.mk2 tI tI (.p1 tI (.pair tI (.pair tQueues tQueues)) (.vr 12)) (.vr 13)) <|
        .ite (.vr 14) (
         .prim (.cmp .geq .i64) (.mk2 tI tI (pjA (.pair tI (.pair tI (.pair tQueues tQueues))) 1 (.vr 12)) (.ci .i64 0)) <|
         .ite (.vr 15) (
          .call 3 (.mk2 .str tI (.vr 0) (pjA (.pair tI (.pair tI (.pair tQueues tQueues))) 1 (.vr 12))) <|
          .call 3 (.mk2 .str tI (.vr 0) (prA (.pair tQueue tI) 1 (.vr 16))) <|
          .prim (.lit 133 tQueue 1) (.p1 tQueue tI (.vr 16)) <|
          .prim (.lapp 133 tQueue 32) (.mk2 tQueues tQueues (pjA (.pair tI (.pair tI (.pair tQueues tQueues))) 2 (.vr 12)) (.vr 18)) <|
          .prim (.lit 133 tQueue 1) (.p1 tQueue tI (.vr 17)) <|
          .prim (.lapp 133 tQueue 32) (.mk2 tQueues tQueues (prA (.pair tI (.pair tI (.pair tQueues tQueues))) 3 (.vr 12)) (.vr 20)) <|
          .prim (.ar .add .i64) (.mk2 tI tI (.p1 tI (.pair tI (.pair tQueues tQueues)) (.vr 12)) (.ci .i64 1)) <|
          .again 0 (mkA (.pair tI (.pair tI (.pair tQueues tQueues))) [(.vr 22),(prA (.pair tQueue tI) 1 (.vr 17)),(.vr 19),(.vr 21)])) (
          .prim .slen (.vr 0) <|
          .prim (.cmp .neq .i64) (.mk2 tI tI (pjA (.pair tI (.pair tI (.pair tQueues tQueues))) 1 (.vr 12)) (.vr 16)) <|
          .ite (.vr 17) (
           .ret (.mk2 tPipe .bool (mkA tPipe [(.nl 128 tPair),(.nl 38 tStage),(.nl 133 tQueue),(.nl 133 tQueue)]) (.cb false))) (
           .prim (.seq false) (.mk2 .str .str (.vr 0) (.cs ⟨#[]⟩)) <|
           .ite (.vr 18) (
            .ret (.mk2 tPipe .bool (mkA tPipe [(.nl 128 tPair),(.nl 38 tStage),(.nl 133 tQueue),(.nl 133 tQueue)]) (.cb false))) (
            .call 4 (mkA tPipe [(prA (.pair tI (.pair tI tBatch)) 2 (.vr 2)),(prA (.pair tI (.pair tI (.slice 38 tStage))) 2 (.vr 6)),(prA (.pair tI (.pair tI (.pair tQueues tQueues))) 2 (.vr 12))]) <|
            .prim (.seq true) (.mk2 .str .str (.vr 19) (.vr 0)) <|
            .ite (.vr 20) (
             .ret (.mk2 tPipe .bool (mkA tPipe [(.nl 128 tPair),(.nl 38 tStage),(.nl 133 tQueue),(.nl 133 tQueue)]) (.cb false))) (
             .ret (.mk2 tPipe .bool (mkA tPipe [(prA (.pair tI (.pair tI tBatch)) 2 (.vr 2)),(prA (.pair tI (.pair tI (.slice 38 tStage))) 2 (.vr 6)),(prA (.pair tI (.pair tI (.pair tQueues tQueues))) 2 (.vr 12))]) (.cb true))))))) (
         .prim .slen (.vr 0) <|
         .prim (.cmp .neq .i64) (.mk2 tI tI (pjA (.pair tI (.pair tI (.pair tQueues tQueues))) 1 (.vr 12)) (.vr 15)) <|
         .ite (.vr 16) (
          .ret (.mk2 tPipe .bool (mkA tPipe [(.nl 128 tPair),(.nl 38 tStage),(.nl 133 tQueue),(.nl 133 tQueue)]) (.cb false))) (
          .prim (.seq false) (.mk2 .str .str (.vr 0) (.cs ⟨#[]⟩)) <|
          .ite (.vr 17) (
           .ret (.mk2 tPipe .bool (mkA tPipe [(.nl 128 tPair),(.nl 38 tStage),(.nl 133 tQueue),(.nl 133 tQueue)]) (.cb false))) (
           .call 4 (mkA tPipe [(prA (.pair tI (.pair tI tBatch)) 2 (.vr 2)),(prA (.pair tI (.pair tI (.slice 38 tStage))) 2 (.vr 6)),(prA (.pair tI (.pair tI (.pair tQueues tQueues))) 2 (.vr 12))]) <|
           .prim (.seq true) (.mk2 .str .str (.vr 18) (.vr 0)) <|
           .ite (.vr 19) (
            .ret (.mk2 tPipe .bool (mkA tPipe [(.nl 128 tPair),(.nl 38 tStage),(.nl 133 tQueue),(.nl 133 tQueue)]) (.cb false))) (
            .ret (.mk2 tPipe .bool (mkA tPipe [(prA (.pair tI (.pair tI tBatch)) 2 (.vr 2)),(prA (.pair tI (.pair tI (.slice 38 tStage))) 2 (.vr 6)),(prA (.pair tI (.pair tI (.pair tQueues tQueues))) 2 (.vr 12))]) (.cb true)))))))) (
      .loop (.pair tI (.pair tI (.pair tQueues tQueues))) (mkA (.pair tI (.pair tI (.pair tQueues tQueues))) [(.ci .i64 1),(pjA (.pair tI (.pair tI (.slice 38 tStage))) 1 (.vr 6)),(.nl 133 tQueue),(.nl 133 tQueue)]) <|
       .prim (.llen 38 tStage) (prA (.pair tI (.pair tI (.slice 38 tStage))) 2 (.vr 6)) <|
       .prim (.cmp .lss .i64) (.mk2 tI tI (.p1 tI (.pair tI (.pair tQueues tQueues)) (.vr 11)) (.vr 12)) <|
       .ite (.vr 13) (
        .prim (.cmp .geq .i64) (.mk2 tI tI (pjA (.pair tI (.pair tI (.pair tQueues tQueues))) 1 (.vr 11)) (.ci .i64 0)) <|
        .ite (.vr 14) (
         .call 3 (.mk2 .str tI (.vr 0) (pjA (.pair tI (.pair tI (.pair tQueues tQueues))) 1 (.vr 11))) <|
         .call 3 (.mk2 .str tI (.vr 0) (prA (.pair tQueue tI) 1 (.vr 15))) <|
         .prim (.lit 133 tQueue 1) (.p1 tQueue tI (.vr 15)) <|
         .prim (.lapp 133 tQueue 32) (.mk2 tQueues tQueues (pjA (.pair tI (.pair tI (.pair tQueues tQueues))) 2 (.vr 11)) (.vr 17)) <|
         .prim (.lit 133 tQueue 1) (.p1 tQueue tI (.vr 16)) <|
         .prim (.lapp 133 tQueue 32) (.mk2 tQueues tQueues (prA (.pair tI (.pair tI (.pair tQueues tQueues))) 3 (.vr 11)) (.vr 19)) <|
         .prim (.ar .add .i64) (.mk2 tI tI (.p1 tI (.pair tI (.pair tQueues tQueues)) (.vr 11)) (.ci .i64 1)) <|
         .again 0 (mkA (.pair tI (.pair tI (.pair tQueues tQueues))) [(.vr 21),(prA (.pair tQueue tI) 1 (.vr 16)),(.vr 18),(.vr 20)])) (
         .prim .slen (.vr 0) <|
         .prim (.cmp .neq .i64) (.mk2 tI tI (pjA (.pair tI (.pair tI (.pair tQueues tQueues))) 1 (.vr 11)) (.vr 15)) <|
         .ite (.vr 16) (
          .ret (.mk2 tPipe .bool (mkA tPipe [(.nl 128 tPair),(.nl 38 tStage),(.nl 133 tQueue),(.nl 133 tQueue)]) (.cb false))) (
          .prim (.seq false) (.mk2 .str .str (.vr 0) (.cs ⟨#[]⟩)) <|
          .ite (.vr 17) (
           .ret (.mk2 tPipe .bool (mkA tPipe [(.nl 128 tPair),(.nl 38 tStage),(.nl 133 tQueue),(.nl 133 tQueue)]) (.cb false))) (
           .call 4 (mkA tPipe [(prA (.pair tI (.pair tI tBatch)) 2 (.vr 2)),(prA (.pair tI (.pair tI (.slice 38 tStage))) 2 (.vr 6)),(prA (.pair tI (.pair tI (.pair tQueues tQueues))) 2 (.vr 11))]) <|
           .prim (.seq true) (.mk2 .str .str (.vr 18) (.vr 0)) <|
           .ite (.vr 19) (
            .ret (.mk2 tPipe .bool (mkA tPipe [(.nl 128 tPair),(.nl 38 tStage),(.nl 133 tQueue),(.nl 133 tQueue)]) (.cb false))) (
            .ret (.mk2 tPipe .bool (mkA tPipe [(prA (.pair tI (.pair tI tBatch)) 2 (.vr 2)),(prA (.pair tI (.pair tI (.slice 38 tStage))) 2 (.vr 6)),(prA (.pair tI (.pair tI (.pair tQueues tQueues))) 2 (.vr 11))]) (.cb true))))))) (
        .prim .slen (.vr 0) <|
        .prim (.cmp .neq .i64) (.mk2 tI tI (pjA (.pair tI (.pair tI (.pair tQueues tQueues))) 1 (.vr 11)) (.vr 14)) <|
        .ite (.vr 15) (
         .ret (.mk2 tPipe .bool (mkA tPipe [(.nl 128 tPair),(.nl 38 tStage),(.nl 133 tQueue),(.nl 133 tQueue)]) (.cb false))) (
         .prim (.seq false) (.mk2 .str .str (.vr 0) (.cs ⟨#[]⟩)) <|
         .ite (.vr 16) (
          .ret (.mk2 tPipe .bool (mkA tPipe [(.nl 128 tPair),(.nl 38 tStage),(.nl 133 tQueue),(.nl 133 tQueue)]) (.cb false))) (
          .call 4 (mkA tPipe [(prA (.pair tI (.pair tI tBatch)) 2 (.vr 2)),(prA (.pair tI (.pair tI (.slice 38 tStage))) 2 (.vr 6)),(prA (.pair tI (.pair tI (.pair tQueues tQueues))) 2 (.vr 11))]) <|
          .prim (.seq true) (.mk2 .str .str (.vr 17) (.vr 0)) <|
          .ite (.vr 18) (
           .ret (.mk2 tPipe .bool (mkA tPipe [(.nl 128 tPair),(.nl 38 tStage),(.nl 133 tQueue),(.nl 133 tQueue)]) (.cb false))) (
           .ret (.mk2 tPipe .bool (mkA tPipe [(prA (.pair tI (.pair tI tBatch)) 2 (.vr 2)),(prA (.pair tI (.pair tI (.slice 38 tStage))) 2 (.vr 6)),(prA (.pair tI (.pair tI (.pair tQueues tQueues))) 2 (.vr 11))]) (.cb true)))))))) (
     .loop (.pair tI (.pair tI (.pair tQueues tQueues))) (mkA (.pair tI (.pair tI (.pair tQueues tQueues))) [(.ci .i64 1),(pjA (.pair tI (.pair tI (.slice 38 tStage))) 1 (.vr 6)),(.nl 133 tQueue),(.nl 133 tQueue)]) <|
      .prim (.llen 38 tStage) (prA (.pair tI (.pair tI (.slice 38 tStage))) 2 (.vr 6)) <|
      .prim (.cmp .lss .i64) (.mk2 tI tI (.p1 tI (.pair tI (.pair tQueues tQueues)) (.vr 10)) (.vr 11)) <|
      .ite (.vr 12) (
       .prim (.cmp .geq .i64) (.mk2 tI tI (pjA (.pair tI (.pair tI (.pair tQueues tQueues))) 1 (.vr 10)) (.ci .i64 0)) <|
       .ite (.vr 13) (
        .call 3 (.mk2 .str tI (.vr 0) (pjA (.pair tI (.pair tI (.pair tQueues tQueues))) 1 (.vr 10))) <|
        .call 3 (.mk2 .str tI (.vr 0) (prA (.pair tQueue tI) 1 (.vr 14))) <|
        .prim (.lit 133 tQueue 1) (.p1 tQueue tI (.vr 14)) <|
        .prim (.lapp 133 tQueue 32) (.mk2 tQueues tQueues (pjA (.pair tI (.pair tI (.pair tQueues tQueues))) 2 (.vr 10)) (.vr 16)) <|
        .prim (.lit 133 tQueue 1) (.p1 tQueue tI (.vr 15)) <|
        .prim (.lapp 133 tQueue 32) (.mk2 tQueues tQueues (prA (.pair tI (.pair tI (.pair tQueues tQueues))) 3 (.vr 10)) (.vr 18)) <|
        .prim (.ar .add .i64) (.mk2 tI tI (.p1 tI (.pair tI (.pair tQueues tQueues)) (.vr 10)) (.ci .i64 1)) <|
        .again 0 (mkA (.pair tI (.pair tI (.pair tQueues tQueues))) [(.vr 20),(prA (.pair tQueue tI) 1 (.vr 15)),(.vr 17),(.vr 19)])) (
        .prim .slen (.vr 0) <|
        .prim (.cmp .neq .i64) (.mk2 tI tI (pjA (.pair tI (.pair tI (.pair tQueues tQueues))) 1 (.vr 10)) (.vr 14)) <|
        .ite (.vr 15) (
         .ret (.mk2 tPipe .bool (mkA tPipe [(.nl 128 tPair),(.nl 38 tStage),(.nl 133 tQueue),(.nl 133 tQueue)]) (.cb false))) (
         .prim (.seq false) (.mk2 .str .str (.vr 0) (.cs ⟨#[]⟩)) <|
         .ite (.vr 16) (
          .ret (.mk2 tPipe .bool (mkA tPipe [(.nl 128 tPair),(.nl 38 tStage),(.nl 133 tQueue),(.nl 133 tQueue)]) (.cb false))) (
          .call 4 (mkA tPipe [(prA (.pair tI (.pair tI tBatch)) 2 (.vr 2)),(prA (.pair tI (.pair tI (.slice 38 tStage))) 2 (.vr 6)),(prA (.pair tI (.pair tI (.pair tQueues tQueues))) 2 (.vr 10))]) <|
          .prim (.seq true) (.mk2 .str .str (.vr 17) (.vr 0)) <|
          .ite (.vr 18) (
           .ret (.mk2 tPipe .bool (mkA tPipe [(.nl 128 tPair),(.nl 38 tStage),(.nl 133 tQueue),(.nl 133 tQueue)]) (.cb false))) (
           .ret (.mk2 tPipe .bool (mkA tPipe [(prA (.pair tI (.pair tI tBatch)) 2 (.vr 2)),(prA (.pair tI (.pair tI (.slice 38 tStage))) 2 (.vr 6)),(prA (.pair tI (.pair tI (.pair tQueues tQueues))) 2 (.vr 10))]) (.cb true))))))) (
       .prim .slen (.vr 0) <|
       .prim (.cmp .neq .i64) (.mk2 tI tI (pjA (.pair tI (.pair tI (.pair tQueues tQueues))) 1 (.vr 10)) (.vr 13)) <|
       .ite (.vr 14) (
        .ret (.mk2 tPipe .bool (mkA tPipe [(.nl 128 tPair),(.nl 38 tStage),(.nl 133 tQueue),(.nl 133 tQueue)]) (.cb false))) (
        .prim (.seq false) (.mk2 .str .str (.vr 0) (.cs ⟨#[]⟩)) <|
        .ite (.vr 15) (
         .ret (.mk2 tPipe .bool (mkA tPipe [(.nl 128 tPair),(.nl 38 tStage),(.nl 133 tQueue),(.nl 133 tQueue)]) (.cb false))) (
         .call 4 (mkA tPipe [(prA (.pair tI (.pair tI tBatch)) 2 (.vr 2)),(prA (.pair tI (.pair tI (.slice 38 tStage))) 2 (.vr 6)),(prA (.pair tI (.pair tI (.pair tQueues tQueues))) 2 (.vr 10))]) <|
         .prim (.seq true) (.mk2 .str .str (.vr 16) (.vr 0)) <|
         .ite (.vr 17) (
          .ret (.mk2 tPipe .bool (mkA tPipe [(.nl 128 tPair),(.nl 38 tStage),(.nl 133 tQueue),(.nl 133 tQueue)]) (.cb false))) (
          .ret (.mk2 tPipe .bool (mkA tPipe [(prA (.pair tI (.pair tI tBatch)) 2 (.vr 2)),(prA (.pair tI (.pair tI (.slice 38 tStage))) 2 (.vr 6)),(prA (.pair tI (.pair tI (.pair tQueues tQueues))) 2 (.vr 10))]) (.cb true))))))))
set_option maxRecDepth 100000 in
theorem e_s_ReadPipe:exFn Tryz.prog [c_s_l21Of,c_s_l21Vec,c_s_l21Stage,c_s_l21ReadQueue,c_s_ShowPipe] c_s_ReadPipe false 3000 ⟨[(2989,1002,[.dr 25,.dr 24,.dr 21,.dr 23,.dr 22,.dr 20,.tm 7 0,.tm 6 0,.sl 11]),(2979,11008,drd 38 26 ++ [.dr 7,.tm 12 0,.tm 6 0,.sl 12]),(2969,91014,drd 74 62 ++ [.dr 12,.dr 5,.tm 15 0,.tm 6 0,.sl 13,.sl 14]),(2969,43013,drd 74 62 ++ [.dr 12,.dr 5,.tm 15 0,.tm 6 0,.sl 13,.sl 14]),(2969,19012,drd 74 62 ++ [.dr 12,.dr 5,.tm 15 0,.tm 6 0,.sl 13,.sl 14]),(2979,5007,drd 38 26 ++ [.dr 7,.tm 12 0,.tm 6 0,.sl 12]),(2969,45013,drd 74 62 ++ [.dr 12,.dr 5,.tm 15 0,.tm 6 0,.sl 13,.sl 14]),(2969,21012,drd 74 62 ++ [.dr 12,.dr 5,.tm 15 0,.tm 6 0,.sl 13,.sl 14]),(2969,9011,drd 74 62 ++ [.dr 12,.dr 5,.tm 15 0,.tm 6 0,.sl 13,.sl 14]),(2979,2006,drd 38 26 ++ [.dr 7,.tm 12 0,.tm 6 0,.sl 12]),(2969,22012,drd 74 62 ++ [.dr 12,.dr 5,.tm 15 0,.tm 6 0,.sl 13,.sl 14]),(2969,10011,drd 74 62 ++ [.dr 12,.dr 5,.tm 15 0,.tm 6 0,.sl 13,.sl 14]),(2969,4010,drd 74 62 ++ [.dr 12,.dr 5,.tm 15 0,.tm 6 0,.sl 13,.sl 14])],[(2976,15010,[],[16,17]),(2968,123015,[],[16,17,18,19,20,21,22,23,24]),(2956,475020,[],[16]),(2954,475022,[],[19]),(2956,235019,[],[16]),(2954,235021,[],[19]),(2956,115018,[],[16]),(2954,115020,[],[19]),(2968,61014,[],[16,17,18,19,20,21,22,23,24]),(2956,237019,[],[16]),(2954,237021,[],[19]),(2956,117018,[],[16]),(2954,117020,[],[19]),(2956,57017,[],[16]),(2954,57019,[],[19]),(2968,30013,[],[16,17,18,19,20,21,22,23,24]),(2956,118018,[],[16]),(2954,118020,[],[19]),(2956,58017,[],[16]),(2954,58019,[],[19]),(2956,28016,[],[16]),(2954,28018,[],[19])]⟩ = .ok t_s_ReadPipe:=by kernel_rfl
set_option maxHeartbeats 8000000 in
theorem v_s_ReadPipe (x:ByteArray) (hx:okD .str x) (hp:(fun x=>x.size≤100000000) x):t_s_ReadPipe.wp [c_s_l21Of,c_s_l21Vec,c_s_l21Stage,c_s_l21ReadQueue,c_s_ShowPipe] [⟨.str,x⟩] [] (fun v=>v.as (.pair tPipe .bool) = (fun x=>rdPS x) x):=by
 have hz:x.size≤100000000:=hp
 obtain ⟨s,rfl⟩:∃ s,s = x:=⟨_,rfl⟩
 have hp0:PB s 0:=⟨by omega,by omega⟩
 delta t_s_ReadPipe c_s_l21Of c_s_l21Vec c_s_l21Stage c_s_l21ReadQueue c_s_ShowPipe;refine vcx ?_;try with_reducible exact True.intro
 have h8:=ofP_len (s:=s) (p:=0) (show 0≤(2:Int) by decide)
 have g0:=ofP_G s 2 0 hp0
 have hv0:pipeQ s = P1Q s (ofP s 2 0).1 [] (loopP (pairQ s) (min ((ofP s 2 0).1.getD 0 0).toNat 5) (ofP s 2 0).2):=rfl
 obtain ⟨W,hW⟩:∃ W,W = pipeQ s:=⟨_,rfl⟩
 have hI:=rdPS_of hW.symm
 rw [← hW] at hv0
 clear hW
 simp only [Int.toNat_natCast,Bool.not_eq_true',Bool.not_eq_false',Bool.and_eq_true,Bool.and_eq_false_iff,decide_eq_true_eq,decide_eq_false_iff_not,Int.not_lt,Int.not_le,ge_iff_le,gt_iff_lt,List.length_cons,List.length_nil,List.length_append,Nat.zero_add,List.nil_append,beq_iff_eq,beq_eq_false_iff_ne,bne_iff_ne,bne_eq_false_iff_eq,ne_eq,toNat_pred,toNat_succ,toNat_l0,toNat_l1,Int.reduceToNat]
 generalize (ofP s 2 0).1 = H at *
 generalize (ofP s 2 0).2 = p0 at *
 (repeat' first | intro _ | (with_reducible apply And.intro))
 all_goals first | omega | exact hp0 | skip
 have z0:H.getD 0 (zeroD tI) = H.getD 0 0:=rfl
 have z1:H.getD 1 (zeroD tI) = H.getD 1 0:=rfl
 rw [z0,z1]
 refine ⟨fun t=>∃ k:Nat,t.1 = (k:Int)∧(t.2.2:List PairD).length = k∧k≤min (H.getD 0 0).toNat 5∧PB s t.2.1∧W = P1Q s H t.2.2 (loopP (pairQ s) (min (H.getD 0 0).toNat 5 - k) t.2.1),fun t=>(5 - (t.1:Int)).toNat,⟨0,rfl,rfl,by omega,g0.1,hv0⟩,fun t _ hJ=>?_⟩
 obtain ⟨i,r1,a1⟩:Int × (Int × List PairD):=t
 obtain ⟨k1,rfl,hl,hk,hPr1,hvr1⟩:=hJ
 dsimp only at hl hk hPr1 hvr1 ⊢
 have hPar1:-1≤r1:=hPr1.1
 have hPbr1:r1≤(s.size:Int):=hPr1.2
 refine ⟨by omega,fun _=>⟨by omega,fun _=>⟨fun ha=>⟨fun hb=>⟨fun hc=>?_,fun hc=>?_⟩,fun hb=>?_⟩,fun ha=>?_⟩⟩⟩
 ·obtain ⟨m,hm⟩:∃ m,(min (H.getD 0 0).toNat 5 - k1) = m + 1:=⟨(min (H.getD 0 0).toNat 5 - k1) - 1,by omega⟩
  rw [hm,loopP_go _ m hc] at hvr1
  have hp1:=vecP_G s r1 hPr1
  have hpa:-1≤(vecP s r1).2:=hp1.1.1
  have hpb:(vecP s r1).2≤(s.size:Int):=hp1.1.2
  have hp2:=pairQ_G s r1 hPr1
  (repeat' first | intro _ | (with_reducible apply And.intro))
  all_goals first | omega | exact hPr1 | exact hp1.1 | (unfold maxLen;omega) | skip
  refine ⟨k1 + 1,rfl,by (first | omega | (simp only [List.length_append,List.length_cons,List.length_nil];omega)),by omega,hp2.1,?_⟩
  rw [show min (H.getD 0 0).toNat 5 - (k1 + 1) = m by omega,hvr1]
  show P1Q s H a1 ((pairQ s r1).1 :: _,_) = P1Q s H (a1 ++ [(pairQ s r1).1]) _
  unfold P1Q;simp only [List.append_assoc,List.singleton_append];rfl
 all_goals
  have hwr1:W = P2Q s a1 [] (loopP (stageQ s) (min (H.getD 1 0).toNat 4) r1):=by
   first | rw [loopP_bad (pairQ s) _ hc] at hvr1 | rw [show (min (H.getD 0 0).toNat 5 - k1) = 0 by omega] at hvr1
   rw [hvr1];unfold P1Q;simp only [List.append_nil,loopP]
  clear hvr1
  refine ⟨fun t=>∃ k:Nat,t.1 = (k:Int)∧(t.2.2:List StageD).length = k∧k≤min (H.getD 1 0).toNat 4∧PB s t.2.1∧W = P2Q s a1 t.2.2 (loopP (stageQ s) (min (H.getD 1 0).toNat 4 - k) t.2.1),fun t=>(4 - (t.1:Int)).toNat,⟨0,rfl,rfl,by omega,hPr1,hwr1⟩,fun t _ hJ=>?_⟩
  obtain ⟨i,r2,a2⟩:Int × (Int × List StageD):=t
  obtain ⟨k2,rfl,hl2,hk2,hPr2,hvr2⟩:=hJ
  dsimp only at hl2 hk2 hPr2 hvr2 ⊢
  have hPar2:-1≤r2:=hPr2.1
  have hPbr2:r2≤(s.size:Int):=hPr2.2
  refine ⟨by omega,fun _=>⟨by omega,fun _=>⟨fun ha=>⟨fun hb=>⟨fun hc=>?_,fun hc=>?_⟩,fun hb=>?_⟩,fun ha=>?_⟩⟩⟩
  ·obtain ⟨m,hm⟩:∃ m,(min (H.getD 1 0).toNat 4 - k2) = m + 1:=⟨(min (H.getD 1 0).toNat 4 - k2) - 1,by omega⟩
   rw [hm,loopP_go _ m hc] at hvr2
   have hp2:=stageQ_G s r2 hPr2
   (repeat' first | intro _ | (with_reducible apply And.intro))
   all_goals first | omega | exact hPr2 | (unfold maxLen;omega) | skip
   refine ⟨k2 + 1,rfl,by (first | omega | (simp only [List.length_append,List.length_cons,List.length_nil];omega)),by omega,hp2.1,?_⟩
   rw [show min (H.getD 1 0).toNat 4 - (k2 + 1) = m by omega,hvr2]
   show P2Q s a1 a2 ((stageQ s r2).1 :: _,_) = P2Q s a1 (a2 ++ [(stageQ s r2).1]) _
   unfold P2Q;simp only [List.append_assoc,List.singleton_append]
  all_goals
   have hwr2:W = P3Q a1 a2 [] [] (loopP (qqQ s) (a2.length - 1) r2):=by
    first | rw [loopP_bad (stageQ s) _ hc] at hvr2 | rw [show (min (H.getD 1 0).toNat 4 - k2) = 0 by omega] at hvr2
    rw [hvr2];unfold P2Q;simp only [List.append_nil,loopP]
   clear hvr2
   have ha4:a2.length≤4:=by omega
   refine ⟨fun t=>∃ k:Nat,t.1 = (k:Int) + 1∧(t.2.2.1:List QueueD).length = k∧(t.2.2.2:List QueueD).length = k∧k≤a2.length - 1∧PB s t.2.1∧W = P3Q a1 a2 t.2.2.1 t.2.2.2 (loopP (qqQ s) (a2.length - 1 - k) t.2.1),fun t=>(5 - (t.1:Int)).toNat,⟨0,rfl,rfl,rfl,by omega,hPr2,hwr2⟩,fun t _ hJ=>?_⟩
   obtain ⟨i,r3,c1,c2⟩:Int × (Int × (List QueueD × List QueueD)):=t
   obtain ⟨k3,rfl,hl3,hl4,hk3,hPr3,hvr3⟩:=hJ
   dsimp only at hl3 hl4 hk3 hPr3 hvr3 ⊢
   have hPar3:-1≤r3:=hPr3.1
   have hPbr3:r3≤(s.size:Int):=hPr3.2
   refine fun _=>⟨fun ha=>⟨fun hc=>?_,fun hc=>?_⟩,fun ha=>?_⟩
   ·obtain ⟨m,hm⟩:∃ m,(a2.length - 1 - k3) = m + 1:=⟨(a2.length - 1 - k3) - 1,by omega⟩
    rw [hm,loopP_go _ m hc] at hvr3
    have hp1:=queueQ_G s r3 hPr3
    have hp2:=qqQ_G s r3 hPr3
    (repeat' first | intro _ | (with_reducible apply And.intro))
    all_goals first | omega | exact hPr3 | exact hp1.1 | (unfold maxLen;omega) | skip
    refine ⟨k3 + 1,rfl,by (first | omega | (simp only [List.length_append,List.length_cons,List.length_nil];omega)),by (first | omega | (simp only [List.length_append,List.length_cons,List.length_nil];omega)),by omega,hp2.1,?_⟩
    rw [show a2.length - 1 - (k3 + 1) = m by omega,hvr3]
    show P3Q a1 a2 c1 c2 ((qqQ s r3).1 :: _,_) = P3Q a1 a2 (c1 ++ [(qqQ s r3).1.1]) (c2 ++ [(qqQ s r3).1.2]) _
    unfold P3Q;simp only [List.append_assoc,List.singleton_append,List.map_cons];rfl
   all_goals
    have hwr3:W = ((a1,a2,c1,c2),r3):=by
     first | rw [loopP_bad (qqQ s) _ hc] at hvr3 | rw [show (a2.length - 1 - k3) = 0 by omega] at hvr3
     rw [hvr3];unfold P3Q;simp only [List.append_nil,loopP,List.map_nil]
    clear hvr3
    rw [hwr3] at hI
    rw [hI]
    try intro _
    refine ⟨fun h=>?_,fun h=>⟨fun h2=>?_,fun h2 _=>⟨fun h3=>?_,fun h3=>?_⟩⟩⟩
    ·rw [if_pos (.inl h)];rfl
    ·rw [if_pos (.inr (.inl (by first | exact h2 | exact Classical.not_not.1 h2)))];rfl
    ·rw [if_pos (.inr (.inr (by first | exact h3 | exact Classical.not_not.1 h3)))];rfl
    ·rw [if_neg (fun hh=>hh.elim (fun a=>a h) (fun hh=>hh.elim h2 (fun a=>a (by first | exact h3 | exact Classical.not_not.1 h3))))]
set_option maxHeartbeats 8000000 in
theorem h_s_ReadPipe:Con.Holds Tryz.prog c_s_ReadPipe:=tree_ok mixedP (consAt h_s_l21Of (consAt h_s_l21Vec (consAt h_s_l21Stage (consAt h_s_l21ReadQueue (consAt h_s_ShowPipe consNil))))) e_s_ReadPipe fun x hx hp=>v_s_ReadPipe x hx hp
end Go.Proofs.YtepjkojfjdcegaaGreat
