/- Read12: trees, and what they say. -/
import Derived.Test.YtepjkojfjdcegaaGreatRead11
import Derived.Test.YtepjkojfjdcegaaGreatShow4
namespace Go.Proofs.YtepjkojfjdcegaaGreat
open Go.ChangeShapes Go.WideShapes Go.ChangeAt Go.RowKit Go.Deep
set_option linter.unusedVariables false
set_option linter.unusedSimpArgs false
theorem stageR_8r {r:RdD} (hP:RdP r) (hb:r.2.2 = false) (h:(stageR r).2.2.2 = false):@LE.le Int _ (r.2.1 + 8) (stageR r).2.2.1:=by
 obtain ⟨s,q,b⟩:=r
 obtain ⟨h0,h1⟩:=hP
 dsimp only at h0 h1 hb
 subst hb
 obtain ⟨n,hn⟩:=Int.eq_ofNat_of_zero_le h0
 have e:((s,(q,false)):RdD) = atR s n:=by rw [hn];rfl
 rw [e] at h ⊢
 have h2:=stageR_8 h
 have e2:(atR s n).2.1 = (n:Int):=rfl
 rw [e2]
 exact h2
theorem rdPI_of {s:ByteArray} {V:PipeD × RdD} (h:pipeR (atR s 0) = V):rdPI s = if V.2.2.2 = true∨s = ⟨#[]⟩∨¬ pipeS V.1 = s then (zPipe,false) else (V.1,true):=by unfold rdPI;rw [h]
theorem atR_P (s:ByteArray):RdP (atR s 0):=⟨by show (0:Int)≤((0:Nat):Int);omega,by show ((0:Nat):Int)≤s.size;omega⟩
noncomputable def c_i_ReadPipe:Con:=⟨32,.str,(.pair tPipe .bool),[.val ⟨false,.str,[]⟩],[⟨true,tPipe,[2,2,2,2]⟩,⟨false,.bool,[0]⟩],false,none,
 ((fun x=>x.size≤100000000):(ByteArray)→Prop),
 ((fun x=>rdPI x):(ByteArray)→(PipeD × Bool))⟩
def t_i_ReadPipe:T :=
 .call 0 (.mk2 (.pair .str (.pair tI .bool)) tI (mkA (.pair .str (.pair tI .bool)) [(.vr 0),(.ci .i64 0),(.cb false)]) (.ci .i64 2)) <|
 .loop (.pair tI (.pair tBatch (.pair .str (.pair tI .bool)))) (mkA (.pair tI (.pair tBatch (.pair .str (.pair tI .bool)))) [(.ci .i64 0),(.nl 128 tPair),(prA (.pair tInts (.pair .str (.pair tI .bool))) 1 (.vr 1))]) <|
  .prim (.lidx 3 tI) (.mk2 tInts tI (.p1 tInts (.pair .str (.pair tI .bool)) (.vr 1)) (.ci .i64 0)) <|
  .prim (.lidx 3 tI) (.mk2 tInts tI (.p1 tInts (.pair .str (.pair tI .bool)) (.vr 1)) (.ci .i64 0)) <|
  .prim (.cmp .lss .i64) (.mk2 tI tI (.p1 tI (.pair tBatch (.pair .str (.pair tI .bool))) (.vr 2)) (.vr 4)) <|
  .ite (.vr 5) (
   .prim .not (prA (.pair tI (.pair tBatch (.pair .str (.pair tI .bool)))) 4 (.vr 2)) <|
   .ite (.vr 6) (
    .call 1 (prA (.pair tI (.pair tBatch (.pair .str (.pair tI .bool)))) 2 (.vr 2)) <|
    .call 1 (prA (.pair tInts (.pair .str (.pair tI .bool))) 1 (.vr 7)) <|
    .prim (.lit 128 tPair 1) (.mk2 tInts tInts (.p1 tInts (.pair .str (.pair tI .bool)) (.vr 7)) (.p1 tInts (.pair .str (.pair tI .bool)) (.vr 8))) <|
    .prim (.lapp 128 tPair 48) (.mk2 tBatch tBatch (pjA (.pair tI (.pair tBatch (.pair .str (.pair tI .bool)))) 1 (.vr 2)) (.vr 9)) <|
    .prim (.ar .add .i64) (.mk2 tI tI (.p1 tI (.pair tBatch (.pair .str (.pair tI .bool))) (.vr 2)) (.ci .i64 1)) <|
    .again 0 (mkA (.pair tI (.pair tBatch (.pair .str (.pair tI .bool)))) [(.vr 11),(.vr 10),(prA (.pair tInts (.pair .str (.pair tI .bool))) 1 (.vr 8))])) (
    .loop (.pair tI (.pair (.slice 38 tStage) (.pair .str (.pair tI .bool)))) (mkA (.pair tI (.pair (.slice 38 tStage) (.pair .str (.pair tI .bool)))) [(.ci .i64 0),(.nl 38 tStage),(prA (.pair tI (.pair tBatch (.pair .str (.pair tI .bool)))) 2 (.vr 2))]) <|
     .prim (.lidx 3 tI) (.mk2 tInts tI (.p1 tInts (.pair .str (.pair tI .bool)) (.vr 1)) (.ci .i64 1)) <|
     .prim (.lidx 3 tI) (.mk2 tInts tI (.p1 tInts (.pair .str (.pair tI .bool)) (.vr 1)) (.ci .i64 1)) <|
     .prim (.cmp .lss .i64) (.mk2 tI tI (.p1 tI (.pair (.slice 38 tStage) (.pair .str (.pair tI .bool))) (.vr 7)) (.vr 9)) <|
     .ite (.vr 10) (
      .prim .not (prA (.pair tI (.pair (.slice 38 tStage) (.pair .str (.pair tI .bool)))) 4 (.vr 7)) <|
      .ite (.vr 11) (
       .call 2 (prA (.pair tI (.pair (.slice 38 tStage) (.pair .str (.pair tI .bool)))) 2 (.vr 7)) <|
       .prim (.lit 38 tStage 1) (.p1 tStage (.pair .str (.pair tI .bool)) (.vr 12)) <|
       .prim (.lapp 38 tStage 248) (.mk2 (.slice 38 tStage) (.slice 38 tStage) (pjA (.pair tI (.pair (.slice 38 tStage) (.pair .str (.pair tI .bool)))) 1 (.vr 7)) (.vr 13)) <|
       .prim (.ar .add .i64) (.mk2 tI tI (.p1 tI (.pair (.slice 38 tStage) (.pair .str (.pair tI .bool))) (.vr 7)) (.ci .i64 1)) <|
       .again 0 (mkA (.pair tI (.pair (.slice 38 tStage) (.pair .str (.pair tI .bool)))) [(.vr 15),(.vr 14),(prA (.pair tStage (.pair .str (.pair tI .bool))) 1 (.vr 12))])) (
       .loop (.pair tI (.pair tQueues (.pair tQueues (.pair .str (.pair tI .bool))))) (mkA (.pair tI (.pair tQueues (.pair tQueues (.pair .str (.pair tI .bool))))) [(.ci .i64 1),(.nl 133 tQueue),(.nl 133 tQueue),(prA (.pair tI (.pair (.slice 38 tStage) (.pair .str (.pair tI .bool)))) 2 (.vr 7))]) <|
        .prim (.lidx 3 tI) (.mk2 tInts tI (.p1 tInts (.pair .str (.pair tI .bool)) (.vr 1)) (.ci .i64 1)) <|
        .prim (.lidx 3 tI) (.mk2 tInts tI (.p1 tInts (.pair .str (.pair tI .bool)) (.vr 1)) (.ci .i64 1)) <|
        .prim (.cmp .lss .i64) (.mk2 tI tI (.p1 tI (.pair tQueues (.pair tQueues (.pair .str (.pair tI .bool)))) (.vr 12)) (.vr 14)) <|
        .ite (.vr 15) (
         .prim .not (prA (.pair tI (.pair tQueues (.pair tQueues (.pair .str (.pair tI .bool))))) 5 (.vr 12)) <|
         .ite (.vr 16) (
          .call 3 (prA (.pair tI (.pair tQueues (.pair tQueues (.pair .str (.pair tI .bool))))) 3 (.vr 12)) <|
          .call 3 (prA (.pair tQueue (.pair .str (.pair tI .bool))) 1 (.vr 17)) <|
          .prim (.lit 133 tQueue 1) (.p1 tQueue (.pair .str (.pair tI .bool)) (.vr 17)) <|
          .prim (.lapp 133 tQueue 32) (.mk2 tQueues tQueues (pjA (.pair tI (.pair tQueues (.pair tQueues (.pair .str (.pair tI .bool))))) 1 (.vr 12)) (.vr 19)) <|
          .prim (.lit 133 tQueue 1) (.p1 tQueue (.pair .str (.pair tI .bool)) (.vr 18)) <|
          .prim (.lapp 133 tQueue 32) (.mk2 tQueues tQueues (pjA (.pair tI (.pair tQueues (.pair tQueues (.pair .str (.pair tI .bool))))) 2 (.vr 12)) (.vr 21)) <|
          .prim (.ar .add .i64) (.mk2 tI tI (.p1 tI (.pair tQueues (.pair tQueues (.pair .str (.pair tI .bool)))) (.vr 12)) (.ci .i64 1)) <|
          .again 0 (mkA (.pair tI (.pair tQueues (.pair tQueues (.pair .str (.pair tI .bool))))) [(.vr 23),(.vr 20),(.vr 22),(prA (.pair tQueue (.pair .str (.pair tI .bool))) 1 (.vr 18))])) (
          .ite (prA (.pair tI (.pair tQueues (.pair tQueues (.pair .str (.pair tI .bool))))) 5 (.vr 12)) (
           .ret (.mk2 tPipe .bool (mkA tPipe [(.nl 128 tPair),(.nl 38 tStage),(.nl 133 tQueue),(.nl 133 tQueue)]) (.cb false))) (
           .prim (.seq false) (.mk2 .str .str (.vr 0) (.cs ⟨#[]⟩)) <|
           .ite (.vr 17) (
            .ret (.mk2 tPipe .bool (mkA tPipe [(.nl 128 tPair),(.nl 38 tStage),(.nl 133 tQueue),(.nl 133 tQueue)]) (.cb false))) (
            .call 4 (mkA tPipe [(pjA (.pair tI (.pair tBatch (.pair .str (.pair tI .bool)))) 1 (.vr 2)),(pjA (.pair tI (.pair (.slice 38 tStage) (.pair .str (.pair tI .bool)))) 1 (.vr 7)),(pjA (.pair tI (.pair tQueues (.pair tQueues (.pair .str (.pair tI .bool))))) 1 (.vr 12)),(pjA (.pair tI (.pair tQueues (.pair tQueues (.pair .str (.pair tI .bool))))) 2 (.vr 12))]) <|
            .prim (.seq true) (.mk2 .str .str (.vr 18) (.vr 0)) <|
            .ite (.vr 19) (
             .ret (.mk2 tPipe .bool (mkA tPipe [(.nl 128 tPair),(.nl 38 tStage),(.nl 133 tQueue),(.nl 133 tQueue)]) (.cb false))) (
             .ret (.mk2 tPipe .bool (mkA tPipe [(pjA (.pair tI (.pair tBatch (.pair .str (.pair tI .bool)))) 1 (.vr 2)),(pjA (.pair tI (.pair (.slice 38 tStage) (.pair .str (.pair tI .bool)))) 1 (.vr 7)),(pjA (.pair tI (.pair tQueues (.pair tQueues (.pair .str (.pair tI .bool))))) 1 (.vr 12)),(pjA (.pair tI (.pair tQueues (.pair tQueues (.pair .str (.pair tI .bool))))) 2 (.vr 12))]) (.cb true))))))) (
         .ite (prA (.pair tI (.pair tQueues (.pair tQueues (.pair .str (.pair tI .bool))))) 5 (.vr 12)) (
          .ret (.mk2 tPipe .bool (mkA tPipe [(.nl 128 tPair),(.nl 38 tStage),(.nl 133 tQueue),(.nl 133 tQueue)]) (.cb false))) (
          .prim (.seq false) (.mk2 .str .str (.vr 0) (.cs ⟨#[]⟩)) <|
          .ite (.vr 16) (
           .ret (.mk2 tPipe .bool (mkA tPipe [(.nl 128 tPair),(.nl 38 tStage),(.nl 133 tQueue),(.nl 133 tQueue)]) (.cb false))) (
           .call 4 (mkA tPipe [(pjA (.pair tI (.pair tBatch (.pair .str (.pair tI .bool)))) 1 (.vr 2)),(pjA (.pair tI (.pair (.slice 38 tStage) (.pair .str (.pair tI .bool)))) 1 (.vr 7)),(pjA (.pair tI (.pair tQueues (.pair tQueues (.pair .str (.pair tI .bool))))) 1 (.vr 12)),(pjA (.pair tI (.pair tQueues (.pair tQueues (.pair .str (.pair tI .bool))))) 2 (.vr 12))]) <|
           .prim (.seq true) (.mk2 .str .str (.vr 17) (.vr 0)) <|
           .ite (.vr 18) (
            .ret (.mk2 tPipe .bool (mkA tPipe [(.nl 128 tPair),(.nl 38 tStage),(.nl 133 tQueue),(.nl 133 tQueue)]) (.cb false))) (
            .ret (.mk2 tPipe .bool (mkA tPipe [(pjA (.pair tI (.pair tBatch (.pair .str (.pair tI .bool)))) 1 (.vr 2)),(pjA (.pair tI (.pair (.slice 38 tStage) (.pair .str (.pair tI .bool)))) 1 (.vr 7)),(pjA (.pair tI (.pair tQueues (.pair tQueues (.pair .str (.pair tI .bool))))) 1 (.vr 12)),(pjA (.pair tI (.pair tQueues (.pair tQueues (.pair .str (.pair tI .bool))))) 2 (.vr 12))]) (.cb true)))))))) (
      .loop (.pair tI (.pair tQueues (.pair tQueues (.pair .str (.pair tI .bool))))) (mkA (.pair tI (.pair tQueues (.pair tQueues (.pair .str (.pair tI .bool))))) [(.ci .i64 1),(.nl 133 tQueue),(.nl 133 tQueue),(prA (.pair tI (.pair (.slice 38 tStage) (.pair .str (.pair tI .bool)))) 2 (.vr 7))]) <|
       .prim (.lidx 3 tI) (.mk2 tInts tI (.p1 tInts (.pair .str (.pair tI .bool)) (.vr 1)) (.ci .i64 1)) <|
       .prim (.lidx 3 tI) (.mk2 tInts tI (.p1 tInts (.pair .str (.pair tI .bool)) (.vr 1)) (.ci .i64 1)) <|
       .prim (.cmp .lss .i64) (.mk2 tI tI (.p1 tI (.pair tQueues (.pair tQueues (.pair .str (.pair tI .bool)))) (.vr 11)) (.vr 13)) <|
       .ite (.vr 14) (
        .prim .not (prA (.pair tI (.pair tQueues (.pair tQueues (.pair .str (.pair tI .bool))))) 5 (.vr 11)) <|
        .ite (.vr 15) (
         .call 3 (prA (.pair tI (.pair tQueues (.pair tQueues (.pair .str (.pair tI .bool))))) 3 (.vr 11)) <|
         .call 3 (prA (.pair tQueue (.pair .str (.pair tI .bool))) 1 (.vr 16)) <|
         .prim (.lit 133 tQueue 1) (.p1 tQueue (.pair .str (.pair tI .bool)) (.vr 16)) <|
         .prim (.lapp 133 tQueue 32) (.mk2 tQueues tQueues (pjA (.pair tI (.pair tQueues (.pair tQueues (.pair .str (.pair tI .bool))))) 1 (.vr 11)) (.vr 18)) <|
         .prim (.lit 133 tQueue 1) (.p1 tQueue (.pair .str (.pair tI .bool)) (.vr 17)) <|
         .prim (.lapp 133 tQueue 32) (.mk2 tQueues tQueues (pjA (.pair tI (.pair tQueues (.pair tQueues (.pair .str (.pair tI .bool))))) 2 (.vr 11)) (.vr 20)) <|
         .prim (.ar .add .i64) (.mk2 tI tI (.p1 tI (.pair tQueues (.pair tQueues (.pair .str (.pair tI .bool)))) (.vr 11)) (.ci .i64 1)) <|
         .again 0 (mkA (.pair tI (.pair tQueues (.pair tQueues (.pair .str (.pair tI .bool))))) [(.vr 22),(.vr 19),(.vr 21),(prA (.pair tQueue (.pair .str (.pair tI .bool))) 1 (.vr 17))])) (
         .ite (prA (.pair tI (.pair tQueues (.pair tQueues (.pair .str (.pair tI .bool))))) 5 (.vr 11)) (
          .ret (.mk2 tPipe .bool (mkA tPipe [(.nl 128 tPair),(.nl 38 tStage),(.nl 133 tQueue),(.nl 133 tQueue)]) (.cb false))) (
          .prim (.seq false) (.mk2 .str .str (.vr 0) (.cs ⟨#[]⟩)) <|
          .ite (.vr 16) (
           .ret (.mk2 tPipe .bool (mkA tPipe [(.nl 128 tPair),(.nl 38 tStage),(.nl 133 tQueue),(.nl 133 tQueue)]) (.cb false))) (
           .call 4 (mkA tPipe [(pjA (.pair tI (.pair tBatch (.pair .str (.pair tI .bool)))) 1 (.vr 2)),(pjA (.pair tI (.pair (.slice 38 tStage) (.pair .str (.pair tI .bool)))) 1 (.vr 7)),(pjA (.pair tI (.pair tQueues (.pair tQueues (.pair .str (.pair tI .bool))))) 1 (.vr 11)),(pjA (.pair tI (.pair tQueues (.pair tQueues (.pair .str (.pair tI .bool))))) 2 (.vr 11))]) <|
           .prim (.seq true) (.mk2 .str .str (.vr 17) (.vr 0)) <|
           .ite (.vr 18) (
            .ret (.mk2 tPipe .bool (mkA tPipe [(.nl 128 tPair),(.nl 38 tStage),(.nl 133 tQueue),(.nl 133 tQueue)]) (.cb false))) (
            .ret (.mk2 tPipe .bool (mkA tPipe [(pjA (.pair tI (.pair tBatch (.pair .str (.pair tI .bool)))) 1 (.vr 2)),(pjA (.pair tI (.pair (.slice 38 tStage) (.pair .str (.pair tI .bool)))) 1 (.vr 7)),(pjA (.pair tI (.pair tQueues (.pair tQueues (.pair .str (.pair tI .bool))))) 1 (.vr 11)),(pjA (.pair tI (.pair tQueues (.pair tQueues (.pair .str (.pair tI .bool))))) 2 (.vr 11))]) (.cb true))))))) (
        .ite (prA (.pair tI (.pair tQueues (.pair tQueues (.pair .str (.pair tI .bool))))) 5 (.vr 11)) (
         .ret (.mk2 tPipe .bool (mkA tPipe [(.nl 128 tPair),(.nl 38 tStage),(.nl 133 tQueue),(.nl 133 tQueue)]) (.cb false))) (
         .prim (.seq false) (.mk2 .str .str (.vr 0) (.cs ⟨#[]⟩)) <|
         .ite (.vr 15) (
          .ret (.mk2 tPipe .bool (mkA tPipe [(.nl 128 tPair),(.nl 38 tStage),(.nl 133 tQueue),(.nl 133 tQueue)]) (.cb false))) (
          .call 4 (mkA tPipe [(pjA (.pair tI (.pair tBatch (.pair .str (.pair tI .bool)))) 1 (.vr 2)),(pjA (.pair tI (.pair (.slice 38 tStage) (.pair .str (.pair tI .bool)))) 1 (.vr 7)),(pjA (.pair tI (.pair tQueues (.pair tQueues (.pair .str (.pair tI .bool))))) 1 (.vr 11)),(pjA (.pair tI (.pair tQueues (.pair tQueues (.pair .str (.pair tI .bool))))) 2 (.vr 11))]) <|
          .prim (.seq true) (.mk2 .str .str (.vr 16) (.vr 0)) <|
          .ite (.vr 17) (
           .ret (.mk2 tPipe .bool (mkA tPipe [(.nl 128 tPair),(.nl 38 tStage),(.nl 133 tQueue),(.nl 133 tQueue)]) (.cb false))) (
           .ret (.mk2 tPipe .bool (mkA tPipe [(pjA (.pair tI (.pair tBatch (.pair .str (.pair tI .bool)))) 1 (.vr 2)),(pjA (.pair tI (.pair (.slice 38 tStage) (.pair .str (.pair tI .bool)))) 1 (.vr 7)),(pjA (.pair tI (.pair tQueues (.pair tQueues (.pair .str (.pair tI .bool))))) 1 (.vr 11)),(pjA (.pair tI (.pair tQueues (.pair tQueues (.pair .str (.pair tI .bool))))) 2 (.vr 11))]) (.cb true))))))))) (
   .loop (.pair tI (.pair (.slice 38 tStage) (.pair .str (.pair tI .bool)))) (mkA (.pair tI (.pair (.slice 38 tStage) (.pair .str (.pair tI .bool)))) [(.ci .i64 0),(.nl 38 tStage),(prA (.pair tI (.pair tBatch (.pair .str (.pair tI .bool)))) 2 (.vr 2))]) <|
    .prim (.lidx 3 tI) (.mk2 tInts tI (.p1 tInts (.pair .str (.pair tI .bool)) (.vr 1)) (.ci .i64 1)) <|
    .prim (.lidx 3 tI) (.mk2 tInts tI (.p1 tInts (.pair .str (.pair tI .bool)) (.vr 1)) (.ci .i64 1)) <|
    .prim (.cmp .lss .i64) (.mk2 tI tI (.p1 tI (.pair (.slice 38 tStage) (.pair .str (.pair tI .bool))) (.vr 6)) (.vr 8)) <|
    .ite (.vr 9) (
     .prim .not (prA (.pair tI (.pair (.slice 38 tStage) (.pair .str (.pair tI .bool)))) 4 (.vr 6)) <|
     .ite (.vr 10) (
      .call 2 (prA (.pair tI (.pair (.slice 38 tStage) (.pair .str (.pair tI .bool)))) 2 (.vr 6)) <|
      .prim (.lit 38 tStage 1) (.p1 tStage (.pair .str (.pair tI .bool)) (.vr 11)) <|
      .prim (.lapp 38 tStage 248) (.mk2 (.slice 38 tStage) (.slice 38 tStage) (pjA (.pair tI (.pair (.slice 38 tStage) (.pair .str (.pair tI .bool)))) 1 (.vr 6)) (.vr 12)) <|
      .prim (.ar .add .i64) (.mk2 tI tI (.p1 tI (.pair (.slice 38 tStage) (.pair .str (.pair tI .bool))) (.vr 6)) (.ci .i64 1)) <|
      .again 0 (mkA (.pair tI (.pair (.slice 38 tStage) (.pair .str (.pair tI .bool)))) [(.vr 14),(.vr 13),(prA (.pair tStage (.pair .str (.pair tI .bool))) 1 (.vr 11))])) (
      .loop (.pair tI (.pair tQueues (.pair tQueues (.pair .str (.pair tI .bool))))) (mkA (.pair tI (.pair tQueues (.pair tQueues (.pair .str (.pair tI .bool))))) [(.ci .i64 1),(.nl 133 tQueue),(.nl 133 tQueue),(prA (.pair tI (.pair (.slice 38 tStage) (.pair .str (.pair tI .bool)))) 2 (.vr 6))]) <|
       .prim (.lidx 3 tI) (.mk2 tInts tI (.p1 tInts (.pair .str (.pair tI .bool)) (.vr 1)) (.ci .i64 1)) <|
       .prim (.lidx 3 tI) (.mk2 tInts tI (.p1 tInts (.pair .str (.pair tI .bool)) (.vr 1)) (.ci .i64 1)) <|
       .prim (.cmp .lss .i64) (.mk2 tI tI (.p1 tI (.pair tQueues (.pair tQueues (.pair .str (.pair tI .bool)))) (.vr 11)) (.vr 13)) <|
       .ite (.vr 14) (
        .prim .not (prA (.pair tI (.pair tQueues (.pair tQueues (.pair .str (.pair tI .bool))))) 5 (.vr 11)) <|
        .ite (.vr 15) (
         .call 3 (prA (.pair tI (.pair tQueues (.pair tQueues (.pair .str (.pair tI .bool))))) 3 (.vr 11)) <|
         .call 3 (prA (.pair tQueue (.pair .str (.pair tI .bool))) 1 (.vr 16)) <|
         .prim (.lit 133 tQueue 1) (.p1 tQueue (.pair .str (.pair tI .bool)) (.vr 16)) <|
         .prim (.lapp 133 tQueue 32) (.mk2 tQueues tQueues (pjA (.pair tI (.pair tQueues (.pair tQueues (.pair .str (.pair tI .bool))))) 1 (.vr 11)) (.vr 18)) <|
         .prim (.lit 133 tQueue 1) (.p1 tQueue (.pair .str (.pair tI .bool)) (.vr 17)) <|
         .prim (.lapp 133 tQueue 32) (.mk2 tQueues tQueues (pjA (.pair tI (.pair tQueues (.pair tQueues (.pair .str (.pair tI .bool))))) 2 (.vr 11)) (.vr 20)) <|
         .prim (.ar .add .i64) (.mk2 tI tI (.p1 tI (.pair tQueues (.pair tQueues (.pair .str (.pair tI .bool)))) (.vr 11)) (.ci .i64 1)) <|
         .again 0 (mkA (.pair tI (.pair tQueues (.pair tQueues (.pair .str (.pair tI .bool))))) [(.vr 22),(.vr 19),(.vr 21),(prA (.pair tQueue (.pair .str (.pair tI .bool))) 1 (.vr 17))])) (
         .ite (prA (.pair tI (.pair tQueues (.pair tQueues (.pair .str (.pair tI .bool))))) 5 (.vr 11)) (
          .ret (.mk2 tPipe .bool (mkA tPipe [(.nl 128 tPair),(.nl 38 tStage),(.nl 133 tQueue),(.nl 133 tQueue)]) (.cb false))) (
          .prim (.seq false) (.mk2 .str .str (.vr 0) (.cs ⟨#[]⟩)) <|
          .ite (.vr 16) (
           .ret (.mk2 tPipe .bool (mkA tPipe [(.nl 128 tPair),(.nl 38 tStage),(.nl 133 tQueue),(.nl 133 tQueue)]) (.cb false))) (
           .call 4 (mkA tPipe [(pjA (.pair tI (.pair tBatch (.pair .str (.pair tI .bool)))) 1 (.vr 2)),(pjA (.pair tI (.pair (.slice 38 tStage) (.pair .str (.pair tI .bool)))) 1 (.vr 6)),(pjA (.pair tI (.pair tQueues (.pair tQueues (.pair .str (.pair tI .bool))))) 1 (.vr 11)),(pjA (.pair tI (.pair tQueues (.pair tQueues (.pair .str (.pair tI .bool))))) 2 (.vr 11))]) <|
           .prim (.seq true) (.mk2 .str .str (.vr 17) (.vr 0)) <|
           .ite (.vr 18) (
            .ret (.mk2 tPipe .bool (mkA tPipe [(.nl 128 tPair),(.nl 38 tStage),(.nl 133 tQueue),(.nl 133 tQueue)]) (.cb false))) (
            .ret (.mk2 tPipe .bool (mkA tPipe [(pjA (.pair tI (.pair tBatch (.pair .str (.pair tI .bool)))) 1 (.vr 2)),(pjA (.pair tI (.pair (.slice 38 tStage) (.pair .str (.pair tI .bool)))) 1 (.vr 6)),(pjA (.pair tI (.pair tQueues (.pair tQueues (.pair .str (.pair tI .bool))))) 1 (.vr 11)),(pjA (.pair tI (.pair tQueues (.pair tQueues (.pair .str (.pair tI .bool))))) 2 (.vr 11))]) (.cb true))))))) (
        .ite (prA (.pair tI (.pair tQueues (.pair tQueues (.pair .str (.pair tI .bool))))) 5 (.vr 11)) (
         .ret (.mk2 tPipe .bool (mkA tPipe [(.nl 128 tPair),(.nl 38 tStage),(.nl 133 tQueue),(.nl 133 tQueue)]) (.cb false))) (
         .prim (.seq false) (.mk2 .str .str (.vr 0) (.cs ⟨#[]⟩)) <|
         .ite (.vr 15) (
          .ret (.mk2 tPipe .bool (mkA tPipe [(.nl 128 tPair),(.nl 38 tStage),(.nl 133 tQueue),(.nl 133 tQueue)]) (.cb false))) (
          .call 4 (mkA tPipe [(pjA (.pair tI (.pair tBatch (.pair .str (.pair tI .bool)))) 1 (.vr 2)),(pjA (.pair tI (.pair (.slice 38 tStage) (.pair .str (.pair tI .bool)))) 1 (.vr 6)),(pjA (.pair tI (.pair tQueues (.pair tQueues (.pair .str (.pair tI .bool))))) 1 (.vr 11)),(pjA (.pair tI (.pair tQueues (.pair tQueues (.pair .str (.pair tI .bool))))) 2 (.vr 11))]) <|
          .prim (.seq true) (.mk2 .str .str (.vr 16) (.vr 0)) <|
          .ite (.vr 17) (
           .ret (.mk2 tPipe .bool (mkA tPipe [(.nl 128 tPair),(.nl 38 tStage),(.nl 133 tQueue),(.nl 133 tQueue)]) (.cb false))) (
           .ret (.mk2 tPipe .bool (mkA tPipe [(pjA (.pair tI (.pair tBatch (.pair .str (.pair tI .bool)))) 1 (.vr 2)),(pjA (.pair tI (.pair (.slice 38 tStage) (.pair .str (.pair tI .bool)))) 1 (.vr 6)),(pjA (.pair tI (.pair tQueues (.pair tQueues (.pair .str (.pair tI .bool))))) 1 (.vr 11)),(pjA (.pair tI (.pair tQueues (.pair tQueues (.pair .str (.pair tI .bool))))) 2 (.vr 11))]) (.cb true)))))))) (
     .loop (.pair tI (.pair tQueues (.pair tQueues (.pair .str (.pair tI .bool))))) (mkA (.pair tI (.pair tQueues (.pair tQueues (.pair .str (.pair tI .bool))))) [(.ci .i64 1),(.nl 133 tQueue),(.nl 133 tQueue),(prA (.pair tI (.pair (.slice 38 tStage) (.pair .str (.pair tI .bool)))) 2 (.vr 6))]) <|
      .prim (.lidx 3 tI) (.mk2 tInts tI (.p1 tInts (.pair .str (.pair tI .bool)) (.vr 1)) (.ci .i64 1)) <|
      .prim (.lidx 3 tI) (.mk2 tInts tI (.p1 tInts (.pair .str (.pair tI .bool)) (.vr 1)) (.ci .i64 1)) <|
      .prim (.cmp .lss .i64) (.mk2 tI tI (.p1 tI (.pair tQueues (.pair tQueues (.pair .str (.pair tI .bool)))) (.vr 10)) (.vr 12)) <|
      .ite (.vr 13) (
       .prim .not (prA (.pair tI (.pair tQueues (.pair tQueues (.pair .str (.pair tI .bool))))) 5 (.vr 10)) <|
       .ite (.vr 14) (
        .call 3 (prA (.pair tI (.pair tQueues (.pair tQueues (.pair .str (.pair tI .bool))))) 3 (.vr 10)) <|
        .call 3 (prA (.pair tQueue (.pair .str (.pair tI .bool))) 1 (.vr 15)) <|
        .prim (.lit 133 tQueue 1) (.p1 tQueue (.pair .str (.pair tI .bool)) (.vr 15)) <|
        .prim (.lapp 133 tQueue 32) (.mk2 tQueues tQueues (pjA (.pair tI (.pair tQueues (.pair tQueues (.pair .str (.pair tI .bool))))) 1 (.vr 10)) (.vr 17)) <|
        .prim (.lit 133 tQueue 1) (.p1 tQueue (.pair .str (.pair tI .bool)) (.vr 16)) <|
        .prim (.lapp 133 tQueue 32) (.mk2 tQueues tQueues (pjA (.pair tI (.pair tQueues (.pair tQueues (.pair .str (.pair tI .bool))))) 2 (.vr 10)) (.vr 19)) <|
        .prim (.ar .add .i64) (.mk2 tI tI (.p1 tI (.pair tQueues (.pair tQueues (.pair .str (.pair tI .bool)))) (.vr 10)) (.ci .i64 1)) <|
        .again 0 (mkA (.pair tI (.pair tQueues (.pair tQueues (.pair .str (.pair tI .bool))))) [(.vr 21),(.vr 18),(.vr 20),(prA (.pair tQueue (.pair .str (.pair tI .bool))) 1 (.vr 16))])) (
        .ite (prA (.pair tI (.pair tQueues (.pair tQueues (.pair .str (.pair tI .bool))))) 5 (.vr 10)) (
         .ret (.mk2 tPipe .bool (mkA tPipe [(.nl 128 tPair),(.nl 38 tStage),(.nl 133 tQueue),(.nl 133 tQueue)]) (.cb false))) (
         .prim (.seq false) (.mk2 .str .str (.vr 0) (.cs ⟨#[]⟩)) <|
         .ite (.vr 15) (
          .ret (.mk2 tPipe .bool (mkA tPipe [(.nl 128 tPair),(.nl 38 tStage),(.nl 133 tQueue),(.nl 133 tQueue)]) (.cb false))) (
          .call 4 (mkA tPipe [(pjA (.pair tI (.pair tBatch (.pair .str (.pair tI .bool)))) 1 (.vr 2)),(pjA (.pair tI (.pair (.slice 38 tStage) (.pair .str (.pair tI .bool)))) 1 (.vr 6)),(pjA (.pair tI (.pair tQueues (.pair tQueues (.pair .str (.pair tI .bool))))) 1 (.vr 10)),(pjA (.pair tI (.pair tQueues (.pair tQueues (.pair .str (.pair tI .bool))))) 2 (.vr 10))]) <|
          .prim (.seq true) (.mk2 .str .str (.vr 16) (.vr 0)) <|
          .ite (.vr 17) (
           .ret (.mk2 tPipe .bool (mkA tPipe [(.nl 128 tPair),(.nl 38 tStage),(.nl 133 tQueue),(.nl 133 tQueue)]) (.cb false))) (
           .ret (.mk2 tPipe .bool (mkA tPipe [(pjA (.pair tI (.pair tBatch (.pair .str (.pair tI .bool)))) 1 (.vr 2)),(pjA (.pair tI (.pair (.slice 38 tStage) (.pair .str (.pair tI .bool)))) 1 (.vr 6)),(pjA (.pair tI (.pair tQueues (.pair tQueues (.pair .str (.pair tI .bool))))) 1 (.vr 10)),(pjA (.pair tI (.pair tQueues (.pair tQueues (.pair .str (.pair tI .bool))))) 2 (.vr 10))]) (.cb true))))))) (
       .ite (prA (.pair tI (.pair tQueues (.pair tQueues (.pair .str (.pair tI .bool))))) 5 (.vr 10)) (
        .ret (.mk2 tPipe .bool (mkA tPipe [(.nl 128 tPair),(.nl 38 tStage),(.nl 133 tQueue),(.nl 133 tQueue)]) (.cb false))) (
        .prim (.seq false) (.mk2 .str .str (.vr 0) (.cs ⟨#[]⟩)) <|
        .ite (.vr 14) (
         .ret (.mk2 tPipe .bool (mkA tPipe [(.nl 128 tPair),(.nl 38 tStage),(.nl 133 tQueue),(.nl 133 tQueue)]) (.cb false))) (
         .call 4 (mkA tPipe [(pjA (.pair tI (.pair tBatch (.pair .str (.pair tI .bool)))) 1 (.vr 2)),(pjA (.pair tI (.pair (.slice 38 tStage) (.pair .str (.pair tI .bool)))) 1 (.vr 6)),(pjA (.pair tI (.pair tQueues (.pair tQueues (.pair .str (.pair tI .bool))))) 1 (.vr 10)),(pjA (.pair tI (.pair tQueues (.pair tQueues (.pair .str (.pair tI .bool))))) 2 (.vr 10))]) <|
         .prim (.seq true) (.mk2 .str .str (.vr 15) (.vr 0)) <|
         .ite (.vr 16) (
          .ret (.mk2 tPipe .bool (mkA tPipe [(.nl 128 tPair),(.nl 38 tStage),(.nl 133 tQueue),(.nl 133 tQueue)]) (.cb false))) (
          .ret (.mk2 tPipe .bool (mkA tPipe [(pjA (.pair tI (.pair tBatch (.pair .str (.pair tI .bool)))) 1 (.vr 2)),(pjA (.pair tI (.pair (.slice 38 tStage) (.pair .str (.pair tI .bool)))) 1 (.vr 6)),(pjA (.pair tI (.pair tQueues (.pair tQueues (.pair .str (.pair tI .bool))))) 1 (.vr 10)),(pjA (.pair tI (.pair tQueues (.pair tQueues (.pair .str (.pair tI .bool))))) 2 (.vr 10))]) (.cb true))))))))
set_option maxRecDepth 100000 in
theorem e_i_ReadPipe:exFn Tryz.prog [c_i_reader_some,c_i_reader_vec,c_i_reader_stage,c_i_reader_queue,c_i_ShowPipe] c_i_ReadPipe false 3000 ⟨[(2987,1002,drd 19 14 ++ [.tm 7 0,.sl 13,.bx 6 0,.bx 6 1,.bx 6 2]),(2977,5007,drd 31 20 ++ [.dr 7,.tm 10 0,.sl 14,.bx 6 0,.bx 6 1,.bx 6 2]),(2967,21012,drd 57 46 ++ [.dr 10,.tm 11 0,.sl 15,.sl 16,.bx 6 0,.bx 6 1,.bx 6 2]),(2967,9011,drd 57 46 ++ [.dr 10,.tm 11 0,.sl 15,.sl 16,.bx 6 0,.bx 6 1,.bx 6 2]),(2977,2006,drd 31 20 ++ [.dr 7,.tm 10 0,.sl 14,.bx 6 0,.bx 6 1,.bx 6 2]),(2967,10011,drd 57 46 ++ [.dr 10,.tm 11 0,.sl 15,.sl 16,.bx 6 0,.bx 6 1,.bx 6 2]),(2967,4010,drd 57 46 ++ [.dr 10,.tm 11 0,.sl 15,.sl 16,.bx 6 0,.bx 6 1,.bx 6 2])],[(2975,7009,[],[17,18])]⟩ = .ok t_i_ReadPipe:=by kernel_rfl
set_option maxHeartbeats 8000000 in
theorem v_i_ReadPipe (x:ByteArray) (hx:okD .str x) (hp:(fun x=>x.size≤100000000) x):t_i_ReadPipe.wp [c_i_reader_some,c_i_reader_vec,c_i_reader_stage,c_i_reader_queue,c_i_ShowPipe] [⟨.str,x⟩] [] (fun v=>v.as (.pair tPipe .bool) = (fun x=>rdPI x) x):=by
 have hz:x.size≤100000000:=hp
 have hp0:=atR_P x
 delta t_i_ReadPipe c_i_reader_some c_i_reader_vec c_i_reader_stage c_i_reader_queue c_i_ShowPipe;refine vcx ?_;try with_reducible exact True.intro
 have e0:((x,((0:Int),false)):RdD) = atR x 0:=rfl
 rw [e0]
 have h8:=someR_len (r:=atR x 0) (show 0≤(2:Int) by decide)
 have hP:=someR_P 2 hp0
 have n0:=someR_in (r:=atR x 0) (n:=2) (i:=0)
 have n1:=someR_in (r:=atR x 0) (n:=2) (i:=1)
 have hv0:pipeR (atR x 0) = P1 (someR (atR x 0) 2).1 [] (loopR pairF ((someR (atR x 0) 2).1.getD 0 0).toNat (someR (atR x 0) 2).2):=rfl
 have hx0:(atR x 0).1 = x:=rfl
 obtain ⟨W,hW⟩:∃ W,W = pipeR (atR x 0):=⟨_,rfl⟩
 have hI:=rdPI_of hW.symm
 rw [← hW] at hv0
 clear hW
 simp only [Int.toNat_natCast,Bool.not_eq_true',Bool.not_eq_false',Bool.and_eq_true,Bool.and_eq_false_iff,decide_eq_true_eq,decide_eq_false_iff_not,Int.not_lt,Int.not_le,ge_iff_le,gt_iff_lt,List.length_cons,List.length_nil,List.length_append,Nat.zero_add,List.nil_append,beq_iff_eq,beq_eq_false_iff_ne,bne_iff_ne,bne_eq_false_iff_eq,ne_eq,toNat_pred,toNat_succ,toNat_l0,toNat_l1,Int.reduceToNat]
 generalize atR x 0 = ra at *
 generalize (someR ra 2).1 = H at *
 generalize (someR ra 2).2 = r0 at *
 (repeat' first | intro _ | (with_reducible apply And.intro))
 all_goals first | omega | exact hp0 | skip
 have z0:H.getD 0 (zeroD tI) = H.getD 0 0:=rfl
 have z1:H.getD 1 (zeroD tI) = H.getD 1 0:=rfl
 rw [z0,z1]
 refine ⟨fun t=>∃ k:Nat,t.1 = (k:Int)∧(t.2.1:List PairD).length = k∧(k:Int)≤max 0 (H.getD 0 0)∧RdP t.2.2∧t.2.2.1 = x∧W = P1 H t.2.1 (loopR pairF ((H.getD 0 0).toNat - k) t.2.2),fun t=>(H.getD 0 0 - (t.1:Int)).toNat,⟨0,rfl,rfl,by omega,hP.1,hP.2.trans hx0,hv0⟩,fun t _ hJ=>?_⟩
 obtain ⟨i,a1,r1⟩:Int × (List PairD × RdD):=t
 obtain ⟨k1,rfl,hl,hk,hPr1,hx1,hvr1⟩:=hJ
 dsimp only at hl hk hPr1 hx1 hvr1 ⊢
 refine ⟨by omega,fun _=>⟨by omega,fun _=>⟨fun hlt=>⟨fun hb=>?_,fun hb=>?_⟩,fun hge=>?_⟩⟩⟩
 ·obtain ⟨m,hm⟩:∃ m,(H.getD 0 0).toNat - k1 = m + 1:=⟨(H.getD 0 0).toNat - k1 - 1,by omega⟩
  rw [hm,loopR_go pairF m hb] at hvr1
  have hp1:=vecR_P hPr1
  have hpp:=pairF_P hPr1
  (repeat' first | intro _ | (with_reducible apply And.intro))
  all_goals first | omega | exact hPr1 | exact hp1.1 | (unfold maxLen;omega) | skip
  refine ⟨k1 + 1,rfl,by (first | omega | (simp only [List.length_append,List.length_cons,List.length_nil];omega)),by omega,hpp.1,hpp.2.trans hx1,?_⟩
  rw [show (H.getD 0 0).toNat - (k1 + 1) = m by omega,hvr1]
  show P1 H a1 ((pairF r1).1 :: _,_) = P1 H (a1 ++ [(pairF r1).1]) _
  unfold P1;simp only [List.append_assoc,List.singleton_append];rfl
 all_goals
  have hwr1:W = P2 H a1 [] (loopR stageR (H.getD 1 0).toNat r1):=by
   first | rw [loopR_bad pairF _ hb] at hvr1 | rw [show (H.getD 0 0).toNat - k1 = 0 by omega] at hvr1
   rw [hvr1];unfold P1;simp only [List.append_nil,loopR]
  clear hvr1
  refine ⟨fun t=>∃ k:Nat,t.1 = (k:Int)∧(t.2.1:List StageD).length = k∧((k:Int)≤max 0 (H.getD 1 0)∧8 * k≤x.size + 8∧(t.2.2.2.2 = false→8 * (k:Int)≤t.2.2.2.1))∧RdP t.2.2∧t.2.2.1 = x∧W = P2 H a1 t.2.1 (loopR stageR ((H.getD 1 0).toNat - k) t.2.2),fun t=>(H.getD 1 0 - (t.1:Int)).toNat,
   ⟨0,rfl,rfl,⟨by omega,by omega,fun _=>hPr1.1⟩,hPr1,hx1,hwr1⟩,fun t _ hJ=>?_⟩
  obtain ⟨i,a2,r2⟩:Int × (List StageD × RdD):=t
  obtain ⟨k2,rfl,hl2,⟨hk2,hs2,hs3⟩,hPr2,hx2,hvr2⟩:=hJ
  dsimp only at hl2 hk2 hs2 hs3 hPr2 hx2 hvr2 ⊢
  refine ⟨by omega,fun _=>⟨by omega,fun _=>⟨fun hlt=>⟨fun hb=>?_,fun hb=>?_⟩,fun hge=>?_⟩⟩⟩
  ·obtain ⟨m,hm⟩:∃ m,(H.getD 1 0).toNat - k2 = m + 1:=⟨(H.getD 1 0).toNat - k2 - 1,by omega⟩
   rw [hm,loopR_go stageR m hb] at hvr2
   have hpp:=stageR_P hPr2
   have h8r:=fun h=>stageR_8r hPr2 hb h
   have q1:=hs3 hb
   have q2:r2.2.1≤(r2.1.size:Int):=hPr2.2
   rw [hx2] at q2
   (repeat' first | intro _ | (with_reducible apply And.intro))
   all_goals first | omega | exact hPr2 | (unfold maxLen;omega) | skip
   refine ⟨k2 + 1,rfl,by (first | omega | (simp only [List.length_append,List.length_cons,List.length_nil];omega)),⟨by omega,by omega,fun h=>by have h4:=h8r h;exact Int.le_trans (by omega) h4⟩,hpp.1,hpp.2.trans hx2,?_⟩
   rw [show (H.getD 1 0).toNat - (k2 + 1) = m by omega,hvr2]
   show P2 H a1 a2 ((stageR r2).1 :: _,_) = P2 H a1 (a2 ++ [(stageR r2).1]) _
   unfold P2;simp only [List.append_assoc,List.singleton_append]
  all_goals
   have hwr2:W = P3 a1 a2 [] [] (loopR qqF (H.getD 1 0 - 1).toNat r2):=by
    first | rw [loopR_bad stageR _ hb] at hvr2 | rw [show (H.getD 1 0).toNat - k2 = 0 by omega] at hvr2
    rw [hvr2];unfold P2;simp only [List.append_nil,loopR]
   clear hvr2
   refine ⟨fun t=>∃ k:Nat,t.1 = (k:Int) + 1∧(t.2.1:List QueueD).length = k∧(t.2.2.1:List QueueD).length = k∧(k:Int)≤max 0 (H.getD 1 0 - 1)∧RdP t.2.2.2∧t.2.2.2.1 = x∧W = P3 a1 a2 t.2.1 t.2.2.1 (loopR qqF ((H.getD 1 0 - 1).toNat - k) t.2.2.2),fun t=>(H.getD 1 0 - (t.1:Int)).toNat,
    ⟨0,rfl,rfl,rfl,by omega,hPr2,hx2,hwr2⟩,fun t _ hJ=>?_⟩
   obtain ⟨i,c1,c2,r3⟩:Int × (List QueueD × (List QueueD × RdD)):=t
   obtain ⟨k3,rfl,hl3,hl4,hk3,hPr3,hx3,hvr3⟩:=hJ
   dsimp only at hl3 hl4 hk3 hPr3 hx3 hvr3 ⊢
   refine ⟨by omega,fun _=>⟨by omega,fun _=>⟨fun hlt=>⟨fun hb=>?_,fun hb=>?_⟩,fun hge=>?_⟩⟩⟩
   ·obtain ⟨m,hm⟩:∃ m,(H.getD 1 0 - 1).toNat - k3 = m + 1:=⟨(H.getD 1 0 - 1).toNat - k3 - 1,by omega⟩
    rw [hm,loopR_go qqF m hb] at hvr3
    have hp1:=queueR_P hPr3
    have hpp:=qqF_P hPr3
    (repeat' first | intro _ | (with_reducible apply And.intro))
    all_goals first | omega | exact hPr3 | exact hp1.1 | (unfold maxLen;omega) | skip
    refine ⟨k3 + 1,rfl,by (first | omega | (simp only [List.length_append,List.length_cons,List.length_nil];omega)),by (first | omega | (simp only [List.length_append,List.length_cons,List.length_nil];omega)),by omega,hpp.1,hpp.2.trans hx3,?_⟩
    rw [show (H.getD 1 0 - 1).toNat - (k3 + 1) = m by omega,hvr3]
    show P3 a1 a2 c1 c2 ((qqF r3).1 :: _,_) = P3 a1 a2 (c1 ++ [(qqF r3).1.1]) (c2 ++ [(qqF r3).1.2]) _
    unfold P3;simp only [List.append_assoc,List.singleton_append,List.map_cons];rfl
   all_goals
    have hwr3:W = ((a1,a2,c1,c2),r3):=by
     first | rw [loopR_bad qqF _ hb] at hvr3 | rw [show (H.getD 1 0 - 1).toNat - k3 = 0 by omega] at hvr3
     rw [hvr3];unfold P3;simp only [List.append_nil,loopR,List.map_nil]
    clear hvr3
    rw [hwr3] at hI
    rw [hI]
    refine ⟨fun h=>?_,fun h=>⟨fun h2=>?_,fun h2 _=>⟨fun h3=>?_,fun h3=>?_⟩⟩⟩
    ·rw [if_pos (.inl h)];rfl
    ·rw [if_pos (.inr (.inl (by first | exact h2 | exact Classical.not_not.1 h2)))];rfl
    ·rw [if_pos (.inr (.inr (by first | exact h3 | exact Classical.not_not.1 h3)))];rfl
    ·rw [if_neg (fun hh=>hh.elim (fun a=>Bool.noConfusion (a.symm.trans h)) (fun hh=>hh.elim h2 (fun a=>a (by first | exact h3 | exact Classical.not_not.1 h3))))]
set_option maxHeartbeats 8000000 in
theorem h_i_ReadPipe:Con.Holds Tryz.prog c_i_ReadPipe:=tree_ok mixedP (consAt h_i_reader_some (consAt h_i_reader_vec (consAt h_i_reader_stage (consAt h_i_reader_queue (consAt h_i_ShowPipe consNil))))) e_i_ReadPipe fun x hx hp=>v_i_ReadPipe x hx hp
end Go.Proofs.YtepjkojfjdcegaaGreat
