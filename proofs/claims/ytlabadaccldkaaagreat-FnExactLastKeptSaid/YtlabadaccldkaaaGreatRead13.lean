/- Read13: lemmas. No conditions. -/
import Derived.Test.YtlabadaccldkaaaGreatRead11
import Derived.Test.YtlabadaccldkaaaGreatShow4
namespace Go.Proofs.YtlabadaccldkaaaGreat
open Go.ChangeShapes Go.WideShapes Go.ChangeAt Go.RowKit Go.Deep
set_option linter.unusedVariables false
set_option linter.unusedSimpArgs false
theorem aPD (s:ByteArray):GdQ s (dT s):=fun p hp=>by
 have h0:=qS s 8 p hp
 have h1:=vE (aRL s) (min ((jP s 8 p).1.getD 5 0).toNat 100) _ h0.1
 unfold dT K1Q K2Q K3Q aHP
 generalize cU (aEE s) (min ((jP s 8 p).1.getD 5 0).toNat 100) (jP s 8 p).2=A at h1 ⊢
 have h2:=vE (aVD s) (min ((jP s 8 p).1.getD 6 0).toNat 8) _ h1.1
 generalize cU (opQ s) (min ((jP s 8 p).1.getD 6 0).toNat 8) A.2=B at h2 ⊢
 have h3:=vE (aS8 s) (min ((jP s 8 p).1.getD 7 0).toNat 5) _ h2.1
 generalize cU (aES s) (min ((jP s 8 p).1.getD 7 0).toNat 5) B.2=C at h3 ⊢
 have g1:=mX s _ h3.1
 have g2:=jH s _ g1.1
 have g3:=jH s _ g2.1
 have g4:=jH s _ g3.1
 have g5:=jH s _ g4.1
 have g6:=mX s _ g5.1
 refine ⟨g6.1,fun h=>?_⟩
 have q6:=g6.2 h
 have q5:=g5.2 q6.1
 have q4:=g4.2 q5.1
 have q3:=g3.2 q4.1
 have q2:=g2.2 q3.1
 have q1:=g1.2 q2.1
 have q0:=h3.2 q1.1
 have r2:=h2.2 q0.1
 have r1:=h1.2 r2.1
 have r0:=h0.2 r1.1
 exact ⟨r0.1,Int.le_trans r0.2 (Int.le_trans r1.2 (Int.le_trans r2.2 (Int.le_trans q0.2 (Int.le_trans q1.2 (Int.le_trans q2.2 (Int.le_trans q3.2 (Int.le_trans q4.2 (Int.le_trans q5.2 q6.2))))))))⟩
theorem aRB (s:ByteArray):GdQ s (kI s):=fun p hp=>by
 unfold kI
 split
 ·exact ⟨⟨by show (-1:Int)≤-1;omega,by show (-1:Int)≤s.size;omega⟩,fun h=>absurd h (by show ¬ (0:Int)≤-1;omega)⟩
 ·exact aPD s p hp
theorem aUF {s:ByteArray} {V:dH × Int} (h:aAW s=V):aLC s=if ¬ V.2=(s.size:Int)∨s=⟨#[]⟩∨¬ jQ V.1=s then (aFW,false) else (V.1,true):=by unfold aLC;rw[h]
noncomputable def lJ:Con:=⟨13,.str,(.aWS aH .bool),[.val ⟨false,.str,[]⟩],[⟨true,aH,[2,2,2,2]⟩,⟨false,.bool,[0]⟩],false,none,
 ((fun x=>x.size≤100000000):(ByteArray)→Prop),
 ((fun x=>aLC x):(ByteArray)→(dH × Bool))⟩
def sB:T:=.call 0 (aQ (.aWS .str aJ) [(.Z 0),(.ci .i64 0),(.ci .i64 2)]) <|.loop (.aWS tI (.aWS tI aS)) (aQ (.aWS tI (.aWS tI aS)) [(.ci .i64 0),(aG (.aWS aA tI) 1 (.Z 1)),(.nl 49 aM)]) <|
 .aWT (.aWX 3 tI) (.aWU aA tI (.p1 aA tI (.Z 1)) (.ci .i64 0)) <|
 .aWT (.aWX 3 tI) (.aWU aA tI (.p1 aA tI (.Z 1)) (.ci .i64 0)) <|
 .aWT (.cmp .lss .i64) (.aWU tI tI (.p1 tI (.aWS tI aS) (.Z 2)) (.Z 4)) <|
 .ite (.Z 5) (
  .aWT (.cmp .lss .i64) (.aWU tI tI (.p1 tI (.aWS tI aS) (.Z 2)) (.ci .i64 5)) <|
  .ite (.Z 6) (
   .aWT (.cmp .geq .i64) (.aWU tI tI (aO (.aWS tI (.aWS tI aS)) 1 (.Z 2)) (.ci .i64 0)) <|
   .ite (.Z 7) (
    .call 1 (.aWU .str tI (.Z 0) (aO (.aWS tI (.aWS tI aS)) 1 (.Z 2))) <|
    .call 1 (.aWU .str tI (.Z 0) (aG (.aWS aA tI) 1 (.Z 8))) <|
    .aWT (.lit 49 aM 1) (.aWU aA aA (.p1 aA tI (.Z 8)) (.p1 aA tI (.Z 9))) <|
    .aWT (.aWZ 49 aM 48) (.aWU aS aS (aG (.aWS tI (.aWS tI aS)) 2 (.Z 2)) (.Z 10)) <|
    .aWT (.ar .add .i64) (.aWU tI tI (.p1 tI (.aWS tI aS) (.Z 2)) (.ci .i64 1)) <|
    .aWV 0 (aQ (.aWS tI (.aWS tI aS)) [(.Z 12),(aG (.aWS aA tI) 1 (.Z 9)),(.Z 11)])) (
    .loop (.aWS tI (.aWS tI (.slice 57 aB))) (aQ (.aWS tI (.aWS tI (.slice 57 aB))) [(.ci .i64 0),(aO (.aWS tI (.aWS tI aS)) 1 (.Z 2)),(.nl 57 aB)]) <|
     .aWT (.aWX 3 tI) (.aWU aA tI (.p1 aA tI (.Z 1)) (.ci .i64 1)) <|
     .aWT (.aWX 3 tI) (.aWU aA tI (.p1 aA tI (.Z 1)) (.ci .i64 1)) <|
     .aWT (.cmp .lss .i64) (.aWU tI tI (.p1 tI (.aWS tI (.slice 57 aB)) (.Z 8)) (.Z 10)) <|
     .ite (.Z 11) (
      .aWT (.cmp .lss .i64) (.aWU tI tI (.p1 tI (.aWS tI (.slice 57 aB)) (.Z 8)) (.ci .i64 4)) <|
      .ite (.Z 12) (
       .aWT (.cmp .geq .i64) (.aWU tI tI (aO (.aWS tI (.aWS tI (.slice 57 aB))) 1 (.Z 8)) (.ci .i64 0)) <|
       .ite (.Z 13) (
        .call 2 (.aWU .str tI (.Z 0) (aO (.aWS tI (.aWS tI (.slice 57 aB))) 1 (.Z 8))) <|
        .aWT (.lit 57 aB 1) (.p1 aB tI (.Z 14)) <|
        .aWT (.aWZ 57 aB 248) (.aWU (.slice 57 aB) (.slice 57 aB) (aG (.aWS tI (.aWS tI (.slice 57 aB))) 2 (.Z 8)) (.Z 15)) <|
        .aWT (.ar .add .i64) (.aWU tI tI (.p1 tI (.aWS tI (.slice 57 aB)) (.Z 8)) (.ci .i64 1)) <|
        .aWV 0 (aQ (.aWS tI (.aWS tI (.slice 57 aB))) [(.Z 17),(aG (.aWS aB tI) 1 (.Z 14)),(.Z 16)])) (
        .loop (.aWS tI (.aWS tI (.aWS aC aC))) (aQ (.aWS tI (.aWS tI (.aWS aC aC))) [(.ci .i64 1),(aO (.aWS tI (.aWS tI (.slice 57 aB))) 1 (.Z 8)),(.nl 62 aE),(.nl 62 aE)]) <|
         .aWT (.aWW 57 aB) (aG (.aWS tI (.aWS tI (.slice 57 aB))) 2 (.Z 8)) <|
         .aWT (.cmp .lss .i64) (.aWU tI tI (.p1 tI (.aWS tI (.aWS aC aC)) (.Z 14)) (.Z 15)) <|
         .ite (.Z 16) (
          .aWT (.cmp .geq .i64) (.aWU tI tI (aO (.aWS tI (.aWS tI (.aWS aC aC))) 1 (.Z 14)) (.ci .i64 0)) <|
          .ite (.Z 17) (
           .call 3 (.aWU .str tI (.Z 0) (aO (.aWS tI (.aWS tI (.aWS aC aC))) 1 (.Z 14))) <|
           .call 3 (.aWU .str tI (.Z 0) (aG (.aWS aE tI) 1 (.Z 18))) <|
           .aWT (.lit 62 aE 1) (.p1 aE tI (.Z 18)) <|
           .aWT (.aWZ 62 aE 32) (.aWU aC aC (aO (.aWS tI (.aWS tI (.aWS aC aC))) 2 (.Z 14)) (.Z 20)) <|
           .aWT (.lit 62 aE 1) (.p1 aE tI (.Z 19)) <|
           .aWT (.aWZ 62 aE 32) (.aWU aC aC (aG (.aWS tI (.aWS tI (.aWS aC aC))) 3 (.Z 14)) (.Z 22)) <|
           .aWT (.ar .add .i64) (.aWU tI tI (.p1 tI (.aWS tI (.aWS aC aC)) (.Z 14)) (.ci .i64 1)) <|
           .aWV 0 (aQ (.aWS tI (.aWS tI (.aWS aC aC))) [(.Z 24),(aG (.aWS aE tI) 1 (.Z 19)),(.Z 21),(.Z 23)])) (
           .aWT .slen (.Z 0) <|
           .aWT (.cmp .neq .i64) (.aWU tI tI (aO (.aWS tI (.aWS tI (.aWS aC aC))) 1 (.Z 14)) (.Z 18)) <|
           .ite (.Z 19) (
            .ret (.aWU aH .bool (aQ aH [(.nl 49 aM),(.nl 57 aB),(.nl 62 aE),(.nl 62 aE)]) (.cb false))) (
            .aWT (.seq false) (.aWU .str .str (.Z 0) (.cs ⟨#[]⟩)) <|
            .ite (.Z 20) (
             .ret (.aWU aH .bool (aQ aH [(.nl 49 aM),(.nl 57 aB),(.nl 62 aE),(.nl 62 aE)]) (.cb false))) (
             .call 4 (aQ aH [(aG (.aWS tI (.aWS tI aS)) 2 (.Z 2)),(aG (.aWS tI (.aWS tI (.slice 57 aB))) 2 (.Z 8)),(aG (.aWS tI (.aWS tI (.aWS aC aC))) 2 (.Z 14))]) <|
             .aWT (.seq true) (.aWU .str .str (.Z 21) (.Z 0)) <|
             .ite (.Z 22) (
              .ret (.aWU aH .bool (aQ aH [(.nl 49 aM),(.nl 57 aB),(.nl 62 aE),(.nl 62 aE)]) (.cb false))) (
              .ret (.aWU aH .bool (aQ aH [(aG (.aWS tI (.aWS tI aS)) 2 (.Z 2)),(aG (.aWS tI (.aWS tI (.slice 57 aB))) 2 (.Z 8)),(aG (.aWS tI (.aWS tI (.aWS aC aC))) 2 (.Z 14))]) (.cb true))))))) (
          .aWT .slen (.Z 0) <|
          .aWT (.cmp .neq .i64) (.aWU tI tI (aO (.aWS tI (.aWS tI (.aWS aC aC))) 1 (.Z 14)) (.Z 17)) <|
          .ite (.Z 18) (
           .ret (.aWU aH .bool (aQ aH [(.nl 49 aM),(.nl 57 aB),(.nl 62 aE),(.nl 62 aE)]) (.cb false))) (
           .aWT (.seq false) (.aWU .str .str (.Z 0) (.cs ⟨#[]⟩)) <|
           .ite (.Z 19) (
            .ret (.aWU aH .bool (aQ aH [(.nl 49 aM),(.nl 57 aB),(.nl 62 aE),(.nl 62 aE)]) (.cb false))) (
            .call 4 (aQ aH [(aG (.aWS tI (.aWS tI aS)) 2 (.Z 2)),(aG (.aWS tI (.aWS tI (.slice 57 aB))) 2 (.Z 8)),(aG (.aWS tI (.aWS tI (.aWS aC aC))) 2 (.Z 14))]) <|
            .aWT (.seq true) (.aWU .str .str (.Z 20) (.Z 0)) <|
            .ite (.Z 21) (
             .ret (.aWU aH .bool (aQ aH [(.nl 49 aM),(.nl 57 aB),(.nl 62 aE),(.nl 62 aE)]) (.cb false))) (
             .ret (.aWU aH .bool (aQ aH [(aG (.aWS tI (.aWS tI aS)) 2 (.Z 2)),(aG (.aWS tI (.aWS tI (.slice 57 aB))) 2 (.Z 8)),(aG (.aWS tI (.aWS tI (.aWS aC aC))) 2 (.Z 14))]) (.cb true)))))))) (
       .loop (.aWS tI (.aWS tI (.aWS aC aC))) (aQ (.aWS tI (.aWS tI (.aWS aC aC))) [(.ci .i64 1),(aO (.aWS tI (.aWS tI (.slice 57 aB))) 1 (.Z 8)),(.nl 62 aE),(.nl 62 aE)]) <|
        .aWT (.aWW 57 aB) (aG (.aWS tI (.aWS tI (.slice 57 aB))) 2 (.Z 8)) <|
        .aWT (.cmp .lss .i64) (.aWU tI tI (.p1 tI (.aWS tI (.aWS aC aC)) (.Z 13)) (.Z 14)) <|
        .ite (.Z 15) (
         .aWT (.cmp .geq .i64) (.aWU tI tI (aO (.aWS tI (.aWS tI (.aWS aC aC))) 1 (.Z 13)) (.ci .i64 0)) <|
         .ite (.Z 16) (
          .call 3 (.aWU .str tI (.Z 0) (aO (.aWS tI (.aWS tI (.aWS aC aC))) 1 (.Z 13))) <|
          .call 3 (.aWU .str tI (.Z 0) (aG (.aWS aE tI) 1 (.Z 17))) <|
          .aWT (.lit 62 aE 1) (.p1 aE tI (.Z 17)) <|
          .aWT (.aWZ 62 aE 32) (.aWU aC aC (aO (.aWS tI (.aWS tI (.aWS aC aC))) 2 (.Z 13)) (.Z 19)) <|
          .aWT (.lit 62 aE 1) (.p1 aE tI (.Z 18)) <|
          .aWT (.aWZ 62 aE 32) (.aWU aC aC (aG (.aWS tI (.aWS tI (.aWS aC aC))) 3 (.Z 13)) (.Z 21)) <|
          .aWT (.ar .add .i64) (.aWU tI tI (.p1 tI (.aWS tI (.aWS aC aC)) (.Z 13)) (.ci .i64 1)) <|
          .aWV 0 (aQ (.aWS tI (.aWS tI (.aWS aC aC))) [(.Z 23),(aG (.aWS aE tI) 1 (.Z 18)),(.Z 20),(.Z 22)])) (
          .aWT .slen (.Z 0) <|
          .aWT (.cmp .neq .i64) (.aWU tI tI (aO (.aWS tI (.aWS tI (.aWS aC aC))) 1 (.Z 13)) (.Z 17)) <|
          .ite (.Z 18) (
           .ret (.aWU aH .bool (aQ aH [(.nl 49 aM),(.nl 57 aB),(.nl 62 aE),(.nl 62 aE)]) (.cb false))) (
           .aWT (.seq false) (.aWU .str .str (.Z 0) (.cs ⟨#[]⟩)) <|
           .ite (.Z 19) (
            .ret (.aWU aH .bool (aQ aH [(.nl 49 aM),(.nl 57 aB),(.nl 62 aE),(.nl 62 aE)]) (.cb false))) (
            .call 4 (aQ aH [(aG (.aWS tI (.aWS tI aS)) 2 (.Z 2)),(aG (.aWS tI (.aWS tI (.slice 57 aB))) 2 (.Z 8)),(aG (.aWS tI (.aWS tI (.aWS aC aC))) 2 (.Z 13))]) <|
            .aWT (.seq true) (.aWU .str .str (.Z 20) (.Z 0)) <|
            .ite (.Z 21) (
             .ret (.aWU aH .bool (aQ aH [(.nl 49 aM),(.nl 57 aB),(.nl 62 aE),(.nl 62 aE)]) (.cb false))) (
             .ret (.aWU aH .bool (aQ aH [(aG (.aWS tI (.aWS tI aS)) 2 (.Z 2)),(aG (.aWS tI (.aWS tI (.slice 57 aB))) 2 (.Z 8)),(aG (.aWS tI (.aWS tI (.aWS aC aC))) 2 (.Z 13))]) (.cb true))))))) (
         .aWT .slen (.Z 0) <|
         .aWT (.cmp .neq .i64) (.aWU tI tI (aO (.aWS tI (.aWS tI (.aWS aC aC))) 1 (.Z 13)) (.Z 16)) <|
         .ite (.Z 17) (
          .ret (.aWU aH .bool (aQ aH [(.nl 49 aM),(.nl 57 aB),(.nl 62 aE),(.nl 62 aE)]) (.cb false))) (
          .aWT (.seq false) (.aWU .str .str (.Z 0) (.cs ⟨#[]⟩)) <|
          .ite (.Z 18) (
           .ret (.aWU aH .bool (aQ aH [(.nl 49 aM),(.nl 57 aB),(.nl 62 aE),(.nl 62 aE)]) (.cb false))) (
           .call 4 (aQ aH [(aG (.aWS tI (.aWS tI aS)) 2 (.Z 2)),(aG (.aWS tI (.aWS tI (.slice 57 aB))) 2 (.Z 8)),(aG (.aWS tI (.aWS tI (.aWS aC aC))) 2 (.Z 13))]) <|
           .aWT (.seq true) (.aWU .str .str (.Z 19) (.Z 0)) <|
           .ite (.Z 20) (
            .ret (.aWU aH .bool (aQ aH [(.nl 49 aM),(.nl 57 aB),(.nl 62 aE),(.nl 62 aE)]) (.cb false))) (
            .ret (.aWU aH .bool (aQ aH [(aG (.aWS tI (.aWS tI aS)) 2 (.Z 2)),(aG (.aWS tI (.aWS tI (.slice 57 aB))) 2 (.Z 8)),(aG (.aWS tI (.aWS tI (.aWS aC aC))) 2 (.Z 13))]) (.cb true)))))))) (
      .loop (.aWS tI (.aWS tI (.aWS aC aC))) (aQ (.aWS tI (.aWS tI (.aWS aC aC))) [(.ci .i64 1),(aO (.aWS tI (.aWS tI (.slice 57 aB))) 1 (.Z 8)),(.nl 62 aE),(.nl 62 aE)]) <|
       .aWT (.aWW 57 aB) (aG (.aWS tI (.aWS tI (.slice 57 aB))) 2 (.Z 8)) <|
       .aWT (.cmp .lss .i64) (.aWU tI tI (.p1 tI (.aWS tI (.aWS aC aC)) (.Z 12)) (.Z 13)) <|
       .ite (.Z 14) (
        .aWT (.cmp .geq .i64) (.aWU tI tI (aO (.aWS tI (.aWS tI (.aWS aC aC))) 1 (.Z 12)) (.ci .i64 0)) <|
        .ite (.Z 15) (
         .call 3 (.aWU .str tI (.Z 0) (aO (.aWS tI (.aWS tI (.aWS aC aC))) 1 (.Z 12))) <|
         .call 3 (.aWU .str tI (.Z 0) (aG (.aWS aE tI) 1 (.Z 16))) <|
         .aWT (.lit 62 aE 1) (.p1 aE tI (.Z 16)) <|
         .aWT (.aWZ 62 aE 32) (.aWU aC aC (aO (.aWS tI (.aWS tI (.aWS aC aC))) 2 (.Z 12)) (.Z 18)) <|
         .aWT (.lit 62 aE 1) (.p1 aE tI (.Z 17)) <|
         .aWT (.aWZ 62 aE 32) (.aWU aC aC (aG (.aWS tI (.aWS tI (.aWS aC aC))) 3 (.Z 12)) (.Z 20)) <|
         .aWT (.ar .add .i64) (.aWU tI tI (.p1 tI (.aWS tI (.aWS aC aC)) (.Z 12)) (.ci .i64 1)) <|
         .aWV 0 (aQ (.aWS tI (.aWS tI (.aWS aC aC))) [(.Z 22),(aG (.aWS aE tI) 1 (.Z 17)),(.Z 19),(.Z 21)])) (
         .aWT .slen (.Z 0) <|
         .aWT (.cmp .neq .i64) (.aWU tI tI (aO (.aWS tI (.aWS tI (.aWS aC aC))) 1 (.Z 12)) (.Z 16)) <|
         .ite (.Z 17) (
          .ret (.aWU aH .bool (aQ aH [(.nl 49 aM),(.nl 57 aB),(.nl 62 aE),(.nl 62 aE)]) (.cb false))) (
          .aWT (.seq false) (.aWU .str .str (.Z 0) (.cs ⟨#[]⟩)) <|
          .ite (.Z 18) (
           .ret (.aWU aH .bool (aQ aH [(.nl 49 aM),(.nl 57 aB),(.nl 62 aE),(.nl 62 aE)]) (.cb false))) (
           .call 4 (aQ aH [(aG (.aWS tI (.aWS tI aS)) 2 (.Z 2)),(aG (.aWS tI (.aWS tI (.slice 57 aB))) 2 (.Z 8)),(aG (.aWS tI (.aWS tI (.aWS aC aC))) 2 (.Z 12))]) <|
           .aWT (.seq true) (.aWU .str .str (.Z 19) (.Z 0)) <|
           .ite (.Z 20) (
            .ret (.aWU aH .bool (aQ aH [(.nl 49 aM),(.nl 57 aB),(.nl 62 aE),(.nl 62 aE)]) (.cb false))) (
            .ret (.aWU aH .bool (aQ aH [(aG (.aWS tI (.aWS tI aS)) 2 (.Z 2)),(aG (.aWS tI (.aWS tI (.slice 57 aB))) 2 (.Z 8)),(aG (.aWS tI (.aWS tI (.aWS aC aC))) 2 (.Z 12))]) (.cb true))))))) (
        .aWT .slen (.Z 0) <|
        .aWT (.cmp .neq .i64) (.aWU tI tI (aO (.aWS tI (.aWS tI (.aWS aC aC))) 1 (.Z 12)) (.Z 15)) <|
        .ite (.Z 16) (
         .ret (.aWU aH .bool (aQ aH [(.nl 49 aM),(.nl 57 aB),(.nl 62 aE),(.nl 62 aE)]) (.cb false))) (
         .aWT (.seq false) (.aWU .str .str (.Z 0) (.cs ⟨#[]⟩)) <|
         .ite (.Z 17) (
          .ret (.aWU aH .bool (aQ aH [(.nl 49 aM),(.nl 57 aB),(.nl 62 aE),(.nl 62 aE)]) (.cb false))) (
          .call 4 (aQ aH [(aG (.aWS tI (.aWS tI aS)) 2 (.Z 2)),(aG (.aWS tI (.aWS tI (.slice 57 aB))) 2 (.Z 8)),(aG (.aWS tI (.aWS tI (.aWS aC aC))) 2 (.Z 12))]) <|
          .aWT (.seq true) (.aWU .str .str (.Z 18) (.Z 0)) <|
          .ite (.Z 19) (
           .ret (.aWU aH .bool (aQ aH [(.nl 49 aM),(.nl 57 aB),(.nl 62 aE),(.nl 62 aE)]) (.cb false))) (
           .ret (.aWU aH .bool (aQ aH [(aG (.aWS tI (.aWS tI aS)) 2 (.Z 2)),(aG (.aWS tI (.aWS tI (.slice 57 aB))) 2 (.Z 8)),(aG (.aWS tI (.aWS tI (.aWS aC aC))) 2 (.Z 12))]) (.cb true))))))))) (
   .loop (.aWS tI (.aWS tI (.slice 57 aB))) (aQ (.aWS tI (.aWS tI (.slice 57 aB))) [(.ci .i64 0),(aO (.aWS tI (.aWS tI aS)) 1 (.Z 2)),(.nl 57 aB)]) <|
    .aWT (.aWX 3 tI) (.aWU aA tI (.p1 aA tI (.Z 1)) (.ci .i64 1)) <|
    .aWT (.aWX 3 tI) (.aWU aA tI (.p1 aA tI (.Z 1)) (.ci .i64 1)) <|
    .aWT (.cmp .lss .i64) (.aWU tI tI (.p1 tI (.aWS tI (.slice 57 aB)) (.Z 7)) (.Z 9)) <|
    .ite (.Z 10) (
     .aWT (.cmp .lss .i64) (.aWU tI tI (.p1 tI (.aWS tI (.slice 57 aB)) (.Z 7)) (.ci .i64 4)) <|
     .ite (.Z 11) (
      .aWT (.cmp .geq .i64) (.aWU tI tI (aO (.aWS tI (.aWS tI (.slice 57 aB))) 1 (.Z 7)) (.ci .i64 0)) <|
      .ite (.Z 12) (
       .call 2 (.aWU .str tI (.Z 0) (aO (.aWS tI (.aWS tI (.slice 57 aB))) 1 (.Z 7))) <|
       .aWT (.lit 57 aB 1) (.p1 aB tI (.Z 13)) <|
       .aWT (.aWZ 57 aB 248) (.aWU (.slice 57 aB) (.slice 57 aB) (aG (.aWS tI (.aWS tI (.slice 57 aB))) 2 (.Z 7)) (.Z 14)) <|
       .aWT (.ar .add .i64) (.aWU tI tI (.p1 tI (.aWS tI (.slice 57 aB)) (.Z 7)) (.ci .i64 1)) <|
       .aWV 0 (aQ (.aWS tI (.aWS tI (.slice 57 aB))) [(.Z 16),(aG (.aWS aB tI) 1 (.Z 13)),(.Z 15)])) (
       .loop (.aWS tI (.aWS tI (.aWS aC aC))) (aQ (.aWS tI (.aWS tI (.aWS aC aC))) [(.ci .i64 1),(aO (.aWS tI (.aWS tI (.slice 57 aB))) 1 (.Z 7)),(.nl 62 aE),(.nl 62 aE)]) <|
        .aWT (.aWW 57 aB) (aG (.aWS tI (.aWS tI (.slice 57 aB))) 2 (.Z 7)) <|
        .aWT (.cmp .lss .i64) (.aWU tI tI (.p1 tI (.aWS tI (.aWS aC aC)) (.Z 13)) (.Z 14)) <|
        .ite (.Z 15) (
         .aWT (.cmp .geq .i64) (.aWU tI tI (aO (.aWS tI (.aWS tI (.aWS aC aC))) 1 (.Z 13)) (.ci .i64 0)) <|
         .ite (.Z 16) (
          .call 3 (.aWU .str tI (.Z 0) (aO (.aWS tI (.aWS tI (.aWS aC aC))) 1 (.Z 13))) <|
          .call 3 (.aWU .str tI (.Z 0) (aG (.aWS aE tI) 1 (.Z 17))) <|
          .aWT (.lit 62 aE 1) (.p1 aE tI (.Z 17)) <|
          .aWT (.aWZ 62 aE 32) (.aWU aC aC (aO (.aWS tI (.aWS tI (.aWS aC aC))) 2 (.Z 13)) (.Z 19)) <|
          .aWT (.lit 62 aE 1) (.p1 aE tI (.Z 18)) <|
          .aWT (.aWZ 62 aE 32) (.aWU aC aC (aG (.aWS tI (.aWS tI (.aWS aC aC))) 3 (.Z 13)) (.Z 21)) <|
          .aWT (.ar .add .i64) (.aWU tI tI (.p1 tI (.aWS tI (.aWS aC aC)) (.Z 13)) (.ci .i64 1)) <|
          .aWV 0 (aQ (.aWS tI (.aWS tI (.aWS aC aC))) [(.Z 23),(aG (.aWS aE tI) 1 (.Z 18)),(.Z 20),(.Z 22)])) (
          .aWT .slen (.Z 0) <|
          .aWT (.cmp .neq .i64) (.aWU tI tI (aO (.aWS tI (.aWS tI (.aWS aC aC))) 1 (.Z 13)) (.Z 17)) <|
          .ite (.Z 18) (
           .ret (.aWU aH .bool (aQ aH [(.nl 49 aM),(.nl 57 aB),(.nl 62 aE),(.nl 62 aE)]) (.cb false))) (
           .aWT (.seq false) (.aWU .str .str (.Z 0) (.cs ⟨#[]⟩)) <|
           .ite (.Z 19) (
            .ret (.aWU aH .bool (aQ aH [(.nl 49 aM),(.nl 57 aB),(.nl 62 aE),(.nl 62 aE)]) (.cb false))) (
            .call 4 (aQ aH [(aG (.aWS tI (.aWS tI aS)) 2 (.Z 2)),(aG (.aWS tI (.aWS tI (.slice 57 aB))) 2 (.Z 7)),(aG (.aWS tI (.aWS tI (.aWS aC aC))) 2 (.Z 13))]) <|
            .aWT (.seq true) (.aWU .str .str (.Z 20) (.Z 0)) <|
            .ite (.Z 21) (
             .ret (.aWU aH .bool (aQ aH [(.nl 49 aM),(.nl 57 aB),(.nl 62 aE),(.nl 62 aE)]) (.cb false))) (
             .ret (.aWU aH .bool (aQ aH [(aG (.aWS tI (.aWS tI aS)) 2 (.Z 2)),(aG (.aWS tI (.aWS tI (.slice 57 aB))) 2 (.Z 7)),(aG (.aWS tI (.aWS tI (.aWS aC aC))) 2 (.Z 13))]) (.cb true))))))) (
         .aWT .slen (.Z 0) <|
         .aWT (.cmp .neq .i64) (.aWU tI tI (aO (.aWS tI (.aWS tI (.aWS aC aC))) 1 (.Z 13)) (.Z 16)) <|
         .ite (.Z 17) (
          .ret (.aWU aH .bool (aQ aH [(.nl 49 aM),(.nl 57 aB),(.nl 62 aE),(.nl 62 aE)]) (.cb false))) (
          .aWT (.seq false) (.aWU .str .str (.Z 0) (.cs ⟨#[]⟩)) <|
          .ite (.Z 18) (
           .ret (.aWU aH .bool (aQ aH [(.nl 49 aM),(.nl 57 aB),(.nl 62 aE),(.nl 62 aE)]) (.cb false))) (
           .call 4 (aQ aH [(aG (.aWS tI (.aWS tI aS)) 2 (.Z 2)),(aG (.aWS tI (.aWS tI (.slice 57 aB))) 2 (.Z 7)),(aG (.aWS tI (.aWS tI (.aWS aC aC))) 2 (.Z 13))]) <|
           .aWT (.seq true) (.aWU .str .str (.Z 19) (.Z 0)) <|
           .ite (.Z 20) (
            .ret (.aWU aH .bool (aQ aH [(.nl 49 aM),(.nl 57 aB),(.nl 62 aE),(.nl 62 aE)]) (.cb false))) (
            .ret (.aWU aH .bool (aQ aH [(aG (.aWS tI (.aWS tI aS)) 2 (.Z 2)),(aG (.aWS tI (.aWS tI (.slice 57 aB))) 2 (.Z 7)),(aG (.aWS tI (.aWS tI (.aWS aC aC))) 2 (.Z 13))]) (.cb true)))))))) (
      .loop (.aWS tI (.aWS tI (.aWS aC aC))) (aQ (.aWS tI (.aWS tI (.aWS aC aC))) [(.ci .i64 1),(aO (.aWS tI (.aWS tI (.slice 57 aB))) 1 (.Z 7)),(.nl 62 aE),(.nl 62 aE)]) <|
       .aWT (.aWW 57 aB) (aG (.aWS tI (.aWS tI (.slice 57 aB))) 2 (.Z 7)) <|
       .aWT (.cmp .lss .i64) (.aWU tI tI (.p1 tI (.aWS tI (.aWS aC aC)) (.Z 12)) (.Z 13)) <|
       .ite (.Z 14) (
        .aWT (.cmp .geq .i64) (.aWU tI tI (aO (.aWS tI (.aWS tI (.aWS aC aC))) 1 (.Z 12)) (.ci .i64 0)) <|
        .ite (.Z 15) (
         .call 3 (.aWU .str tI (.Z 0) (aO (.aWS tI (.aWS tI (.aWS aC aC))) 1 (.Z 12))) <|
         .call 3 (.aWU .str tI (.Z 0) (aG (.aWS aE tI) 1 (.Z 16))) <|
         .aWT (.lit 62 aE 1) (.p1 aE tI (.Z 16)) <|
         .aWT (.aWZ 62 aE 32) (.aWU aC aC (aO (.aWS tI (.aWS tI (.aWS aC aC))) 2 (.Z 12)) (.Z 18)) <|
         .aWT (.lit 62 aE 1) (.p1 aE tI (.Z 17)) <|
         .aWT (.aWZ 62 aE 32) (.aWU aC aC (aG (.aWS tI (.aWS tI (.aWS aC aC))) 3 (.Z 12)) (.Z 20)) <|
         .aWT (.ar .add .i64) (.aWU tI tI (.p1 tI (.aWS tI (.aWS aC aC)) (.Z 12)) (.ci .i64 1)) <|
         .aWV 0 (aQ (.aWS tI (.aWS tI (.aWS aC aC))) [(.Z 22),(aG (.aWS aE tI) 1 (.Z 17)),(.Z 19),(.Z 21)])) (
         .aWT .slen (.Z 0) <|
         .aWT (.cmp .neq .i64) (.aWU tI tI (aO (.aWS tI (.aWS tI (.aWS aC aC))) 1 (.Z 12)) (.Z 16)) <|
         .ite (.Z 17) (
          .ret (.aWU aH .bool (aQ aH [(.nl 49 aM),(.nl 57 aB),(.nl 62 aE),(.nl 62 aE)]) (.cb false))) (
          .aWT (.seq false) (.aWU .str .str (.Z 0) (.cs ⟨#[]⟩)) <|
          .ite (.Z 18) (
           .ret (.aWU aH .bool (aQ aH [(.nl 49 aM),(.nl 57 aB),(.nl 62 aE),(.nl 62 aE)]) (.cb false))) (
           .call 4 (aQ aH [(aG (.aWS tI (.aWS tI aS)) 2 (.Z 2)),(aG (.aWS tI (.aWS tI (.slice 57 aB))) 2 (.Z 7)),(aG (.aWS tI (.aWS tI (.aWS aC aC))) 2 (.Z 12))]) <|
           .aWT (.seq true) (.aWU .str .str (.Z 19) (.Z 0)) <|
           .ite (.Z 20) (
            .ret (.aWU aH .bool (aQ aH [(.nl 49 aM),(.nl 57 aB),(.nl 62 aE),(.nl 62 aE)]) (.cb false))) (
            .ret (.aWU aH .bool (aQ aH [(aG (.aWS tI (.aWS tI aS)) 2 (.Z 2)),(aG (.aWS tI (.aWS tI (.slice 57 aB))) 2 (.Z 7)),(aG (.aWS tI (.aWS tI (.aWS aC aC))) 2 (.Z 12))]) (.cb true))))))) (
        .aWT .slen (.Z 0) <|
        .aWT (.cmp .neq .i64) (.aWU tI tI (aO (.aWS tI (.aWS tI (.aWS aC aC))) 1 (.Z 12)) (.Z 15)) <|
        .ite (.Z 16) (
         .ret (.aWU aH .bool (aQ aH [(.nl 49 aM),(.nl 57 aB),(.nl 62 aE),(.nl 62 aE)]) (.cb false))) (
         .aWT (.seq false) (.aWU .str .str (.Z 0) (.cs ⟨#[]⟩)) <|
         .ite (.Z 17) (
          .ret (.aWU aH .bool (aQ aH [(.nl 49 aM),(.nl 57 aB),(.nl 62 aE),(.nl 62 aE)]) (.cb false))) (
          .call 4 (aQ aH [(aG (.aWS tI (.aWS tI aS)) 2 (.Z 2)),(aG (.aWS tI (.aWS tI (.slice 57 aB))) 2 (.Z 7)),(aG (.aWS tI (.aWS tI (.aWS aC aC))) 2 (.Z 12))]) <|
          .aWT (.seq true) (.aWU .str .str (.Z 18) (.Z 0)) <|
          .ite (.Z 19) (
           .ret (.aWU aH .bool (aQ aH [(.nl 49 aM),(.nl 57 aB),(.nl 62 aE),(.nl 62 aE)]) (.cb false))) (
           .ret (.aWU aH .bool (aQ aH [(aG (.aWS tI (.aWS tI aS)) 2 (.Z 2)),(aG (.aWS tI (.aWS tI (.slice 57 aB))) 2 (.Z 7)),(aG (.aWS tI (.aWS tI (.aWS aC aC))) 2 (.Z 12))]) (.cb true)))))))) (
     .loop (.aWS tI (.aWS tI (.aWS aC aC))) (aQ (.aWS tI (.aWS tI (.aWS aC aC))) [(.ci .i64 1),(aO (.aWS tI (.aWS tI (.slice 57 aB))) 1 (.Z 7)),(.nl 62 aE),(.nl 62 aE)]) <|
      .aWT (.aWW 57 aB) (aG (.aWS tI (.aWS tI (.slice 57 aB))) 2 (.Z 7)) <|
      .aWT (.cmp .lss .i64) (.aWU tI tI (.p1 tI (.aWS tI (.aWS aC aC)) (.Z 11)) (.Z 12)) <|
      .ite (.Z 13) (
       .aWT (.cmp .geq .i64) (.aWU tI tI (aO (.aWS tI (.aWS tI (.aWS aC aC))) 1 (.Z 11)) (.ci .i64 0)) <|
       .ite (.Z 14) (
        .call 3 (.aWU .str tI (.Z 0) (aO (.aWS tI (.aWS tI (.aWS aC aC))) 1 (.Z 11))) <|
        .call 3 (.aWU .str tI (.Z 0) (aG (.aWS aE tI) 1 (.Z 15))) <|
        .aWT (.lit 62 aE 1) (.p1 aE tI (.Z 15)) <|
        .aWT (.aWZ 62 aE 32) (.aWU aC aC (aO (.aWS tI (.aWS tI (.aWS aC aC))) 2 (.Z 11)) (.Z 17)) <|
        .aWT (.lit 62 aE 1) (.p1 aE tI (.Z 16)) <|
        .aWT (.aWZ 62 aE 32) (.aWU aC aC (aG (.aWS tI (.aWS tI (.aWS aC aC))) 3 (.Z 11)) (.Z 19)) <|
        .aWT (.ar .add .i64) (.aWU tI tI (.p1 tI (.aWS tI (.aWS aC aC)) (.Z 11)) (.ci .i64 1)) <|
        .aWV 0 (aQ (.aWS tI (.aWS tI (.aWS aC aC))) [(.Z 21),(aG (.aWS aE tI) 1 (.Z 16)),(.Z 18),(.Z 20)])) (
        .aWT .slen (.Z 0) <|
        .aWT (.cmp .neq .i64) (.aWU tI tI (aO (.aWS tI (.aWS tI (.aWS aC aC))) 1 (.Z 11)) (.Z 15)) <|
        .ite (.Z 16) (
         .ret (.aWU aH .bool (aQ aH [(.nl 49 aM),(.nl 57 aB),(.nl 62 aE),(.nl 62 aE)]) (.cb false))) (
         .aWT (.seq false) (.aWU .str .str (.Z 0) (.cs ⟨#[]⟩)) <|
         .ite (.Z 17) (
          .ret (.aWU aH .bool (aQ aH [(.nl 49 aM),(.nl 57 aB),(.nl 62 aE),(.nl 62 aE)]) (.cb false))) (
          .call 4 (aQ aH [(aG (.aWS tI (.aWS tI aS)) 2 (.Z 2)),(aG (.aWS tI (.aWS tI (.slice 57 aB))) 2 (.Z 7)),(aG (.aWS tI (.aWS tI (.aWS aC aC))) 2 (.Z 11))]) <|
          .aWT (.seq true) (.aWU .str .str (.Z 18) (.Z 0)) <|
          .ite (.Z 19) (
           .ret (.aWU aH .bool (aQ aH [(.nl 49 aM),(.nl 57 aB),(.nl 62 aE),(.nl 62 aE)]) (.cb false))) (
           .ret (.aWU aH .bool (aQ aH [(aG (.aWS tI (.aWS tI aS)) 2 (.Z 2)),(aG (.aWS tI (.aWS tI (.slice 57 aB))) 2 (.Z 7)),(aG (.aWS tI (.aWS tI (.aWS aC aC))) 2 (.Z 11))]) (.cb true))))))) (
       .aWT .slen (.Z 0) <|
       .aWT (.cmp .neq .i64) (.aWU tI tI (aO (.aWS tI (.aWS tI (.aWS aC aC))) 1 (.Z 11)) (.Z 14)) <|
       .ite (.Z 15) (
        .ret (.aWU aH .bool (aQ aH [(.nl 49 aM),(.nl 57 aB),(.nl 62 aE),(.nl 62 aE)]) (.cb false))) (
        .aWT (.seq false) (.aWU .str .str (.Z 0) (.cs ⟨#[]⟩)) <|
        .ite (.Z 16) (
         .ret (.aWU aH .bool (aQ aH [(.nl 49 aM),(.nl 57 aB),(.nl 62 aE),(.nl 62 aE)]) (.cb false))) (
         .call 4 (aQ aH [(aG (.aWS tI (.aWS tI aS)) 2 (.Z 2)),(aG (.aWS tI (.aWS tI (.slice 57 aB))) 2 (.Z 7)),(aG (.aWS tI (.aWS tI (.aWS aC aC))) 2 (.Z 11))]) <|
         .aWT (.seq true) (.aWU .str .str (.Z 17) (.Z 0)) <|
         .ite (.Z 18) (
          .ret (.aWU aH .bool (aQ aH [(.nl 49 aM),(.nl 57 aB),(.nl 62 aE),(.nl 62 aE)]) (.cb false))) (
          .ret (.aWU aH .bool (aQ aH [(aG (.aWS tI (.aWS tI aS)) 2 (.Z 2)),(aG (.aWS tI (.aWS tI (.slice 57 aB))) 2 (.Z 7)),(aG (.aWS tI (.aWS tI (.aWS aC aC))) 2 (.Z 11))]) (.cb true))))))))) (
  .loop (.aWS tI (.aWS tI (.slice 57 aB))) (aQ (.aWS tI (.aWS tI (.slice 57 aB))) [(.ci .i64 0),(aO (.aWS tI (.aWS tI aS)) 1 (.Z 2)),(.nl 57 aB)]) <|
   .aWT (.aWX 3 tI) (.aWU aA tI (.p1 aA tI (.Z 1)) (.ci .i64 1)) <|
   .aWT (.aWX 3 tI) (.aWU aA tI (.p1 aA tI (.Z 1)) (.ci .i64 1)) <|
   .aWT (.cmp .lss .i64) (.aWU tI tI (.p1 tI (.aWS tI (.slice 57 aB)) (.Z 6)) (.Z 8)) <|
   .ite (.Z 9) (
    .aWT (.cmp .lss .i64) (.aWU tI tI (.p1 tI (.aWS tI (.slice 57 aB)) (.Z 6)) (.ci .i64 4)) <|
    .ite (.Z 10) (
     .aWT (.cmp .geq .i64) (.aWU tI tI (aO (.aWS tI (.aWS tI (.slice 57 aB))) 1 (.Z 6)) (.ci .i64 0)) <|
     .ite (.Z 11) (
      .call 2 (.aWU .str tI (.Z 0) (aO (.aWS tI (.aWS tI (.slice 57 aB))) 1 (.Z 6))) <|
      .aWT (.lit 57 aB 1) (.p1 aB tI (.Z 12)) <|
      .aWT (.aWZ 57 aB 248) (.aWU (.slice 57 aB) (.slice 57 aB) (aG (.aWS tI (.aWS tI (.slice 57 aB))) 2 (.Z 6)) (.Z 13)) <|
      .aWT (.ar .add .i64) (.aWU tI tI (.p1 tI (.aWS tI (.slice 57 aB)) (.Z 6)) (.ci .i64 1)) <|
      .aWV 0 (aQ (.aWS tI (.aWS tI (.slice 57 aB))) [(.Z 15),(aG (.aWS aB tI) 1 (.Z 12)),(.Z 14)])) (
      .loop (.aWS tI (.aWS tI (.aWS aC aC))) (aQ (.aWS tI (.aWS tI (.aWS aC aC))) [(.ci .i64 1),(aO (.aWS tI (.aWS tI (.slice 57 aB))) 1 (.Z 6)),(.nl 62 aE),(.nl 62 aE)]) <|
       .aWT (.aWW 57 aB) (aG (.aWS tI (.aWS tI (.slice 57 aB))) 2 (.Z 6)) <|
       .aWT (.cmp .lss .i64) (.aWU tI tI (.p1 tI (.aWS tI (.aWS aC aC)) (.Z 12)) (.Z 13)) <|
       .ite (.Z 14) (
        .aWT (.cmp .geq .i64) (.aWU tI tI (aO (.aWS tI (.aWS tI (.aWS aC aC))) 1 (.Z 12)) (.ci .i64 0)) <|
        .ite (.Z 15) (
         .call 3 (.aWU .str tI (.Z 0) (aO (.aWS tI (.aWS tI (.aWS aC aC))) 1 (.Z 12))) <|
         .call 3 (.aWU .str tI (.Z 0) (aG (.aWS aE tI) 1 (.Z 16))) <|
         .aWT (.lit 62 aE 1) (.p1 aE tI (.Z 16)) <|
         .aWT (.aWZ 62 aE 32) (.aWU aC aC (aO (.aWS tI (.aWS tI (.aWS aC aC))) 2 (.Z 12)) (.Z 18)) <|
         .aWT (.lit 62 aE 1) (.p1 aE tI (.Z 17)) <|
         .aWT (.aWZ 62 aE 32) (.aWU aC aC (aG (.aWS tI (.aWS tI (.aWS aC aC))) 3 (.Z 12)) (.Z 20)) <|
         .aWT (.ar .add .i64) (.aWU tI tI (.p1 tI (.aWS tI (.aWS aC aC)) (.Z 12)) (.ci .i64 1)) <|
         .aWV 0 (aQ (.aWS tI (.aWS tI (.aWS aC aC))) [(.Z 22),(aG (.aWS aE tI) 1 (.Z 17)),(.Z 19),(.Z 21)])) (
         .aWT .slen (.Z 0) <|
         .aWT (.cmp .neq .i64) (.aWU tI tI (aO (.aWS tI (.aWS tI (.aWS aC aC))) 1 (.Z 12)) (.Z 16)) <|
         .ite (.Z 17) (
          .ret (.aWU aH .bool (aQ aH [(.nl 49 aM),(.nl 57 aB),(.nl 62 aE),(.nl 62 aE)]) (.cb false))) (
          .aWT (.seq false) (.aWU .str .str (.Z 0) (.cs ⟨#[]⟩)) <|
          .ite (.Z 18) (
           .ret (.aWU aH .bool (aQ aH [(.nl 49 aM),(.nl 57 aB),(.nl 62 aE),(.nl 62 aE)]) (.cb false))) (
           .call 4 (aQ aH [(aG (.aWS tI (.aWS tI aS)) 2 (.Z 2)),(aG (.aWS tI (.aWS tI (.slice 57 aB))) 2 (.Z 6)),(aG (.aWS tI (.aWS tI (.aWS aC aC))) 2 (.Z 12))]) <|
           .aWT (.seq true) (.aWU .str .str (.Z 19) (.Z 0)) <|
           .ite (.Z 20) (
            .ret (.aWU aH .bool (aQ aH [(.nl 49 aM),(.nl 57 aB),(.nl 62 aE),(.nl 62 aE)]) (.cb false))) (
            .ret (.aWU aH .bool (aQ aH [(aG (.aWS tI (.aWS tI aS)) 2 (.Z 2)),(aG (.aWS tI (.aWS tI (.slice 57 aB))) 2 (.Z 6)),(aG (.aWS tI (.aWS tI (.aWS aC aC))) 2 (.Z 12))]) (.cb true))))))) (
        .aWT .slen (.Z 0) <|
        .aWT (.cmp .neq .i64) (.aWU tI tI (aO (.aWS tI (.aWS tI (.aWS aC aC))) 1 (.Z 12)) (.Z 15)) <|
        .ite (.Z 16) (
         .ret (.aWU aH .bool (aQ aH [(.nl 49 aM),(.nl 57 aB),(.nl 62 aE),(.nl 62 aE)]) (.cb false))) (
         .aWT (.seq false) (.aWU .str .str (.Z 0) (.cs ⟨#[]⟩)) <|
         .ite (.Z 17) (
          .ret (.aWU aH .bool (aQ aH [(.nl 49 aM),(.nl 57 aB),(.nl 62 aE),(.nl 62 aE)]) (.cb false))) (
          .call 4 (aQ aH [(aG (.aWS tI (.aWS tI aS)) 2 (.Z 2)),(aG (.aWS tI (.aWS tI (.slice 57 aB))) 2 (.Z 6)),(aG (.aWS tI (.aWS tI (.aWS aC aC))) 2 (.Z 12))]) <|
          .aWT (.seq true) (.aWU .str .str (.Z 18) (.Z 0)) <|
          .ite (.Z 19) (
           .ret (.aWU aH .bool (aQ aH [(.nl 49 aM),(.nl 57 aB),(.nl 62 aE),(.nl 62 aE)]) (.cb false))) (
           .ret (.aWU aH .bool (aQ aH [(aG (.aWS tI (.aWS tI aS)) 2 (.Z 2)),(aG (.aWS tI (.aWS tI (.slice 57 aB))) 2 (.Z 6)),(aG (.aWS tI (.aWS tI (.aWS aC aC))) 2 (.Z 12))]) (.cb true)))))))) (
     .loop (.aWS tI (.aWS tI (.aWS aC aC))) (aQ (.aWS tI (.aWS tI (.aWS aC aC))) [(.ci .i64 1),(aO (.aWS tI (.aWS tI (.slice 57 aB))) 1 (.Z 6)),(.nl 62 aE),(.nl 62 aE)]) <|
      .aWT (.aWW 57 aB) (aG (.aWS tI (.aWS tI (.slice 57 aB))) 2 (.Z 6)) <|
      .aWT (.cmp .lss .i64) (.aWU tI tI (.p1 tI (.aWS tI (.aWS aC aC)) (.Z 11)) (.Z 12)) <|
      .ite (.Z 13) (
       .aWT (.cmp .geq .i64) (.aWU tI tI (aO (.aWS tI (.aWS tI (.aWS aC aC))) 1 (.Z 11)) (.ci .i64 0)) <|
       .ite (.Z 14) (
        .call 3 (.aWU .str tI (.Z 0) (aO (.aWS tI (.aWS tI (.aWS aC aC))) 1 (.Z 11))) <|
        .call 3 (.aWU .str tI (.Z 0) (aG (.aWS aE tI) 1 (.Z 15))) <|
        .aWT (.lit 62 aE 1) (.p1 aE tI (.Z 15)) <|
        .aWT (.aWZ 62 aE 32) (.aWU aC aC (aO (.aWS tI (.aWS tI (.aWS aC aC))) 2 (.Z 11)) (.Z 17)) <|
        .aWT (.lit 62 aE 1) (.p1 aE tI (.Z 16)) <|
        .aWT (.aWZ 62 aE 32) (.aWU aC aC (aG (.aWS tI (.aWS tI (.aWS aC aC))) 3 (.Z 11)) (.Z 19)) <|
        .aWT (.ar .add .i64) (.aWU tI tI (.p1 tI (.aWS tI (.aWS aC aC)) (.Z 11)) (.ci .i64 1)) <|
        .aWV 0 (aQ (.aWS tI (.aWS tI (.aWS aC aC))) [(.Z 21),(aG (.aWS aE tI) 1 (.Z 16)),(.Z 18),(.Z 20)])) (
        .aWT .slen (.Z 0) <|
        .aWT (.cmp .neq .i64) (.aWU tI tI (aO (.aWS tI (.aWS tI (.aWS aC aC))) 1 (.Z 11)) (.Z 15)) <|
        .ite (.Z 16) (
         .ret (.aWU aH .bool (aQ aH [(.nl 49 aM),(.nl 57 aB),(.nl 62 aE),(.nl 62 aE)]) (.cb false))) (
         .aWT (.seq false) (.aWU .str .str (.Z 0) (.cs ⟨#[]⟩)) <|
         .ite (.Z 17) (
          .ret (.aWU aH .bool (aQ aH [(.nl 49 aM),(.nl 57 aB),(.nl 62 aE),(.nl 62 aE)]) (.cb false))) (
          .call 4 (aQ aH [(aG (.aWS tI (.aWS tI aS)) 2 (.Z 2)),(aG (.aWS tI (.aWS tI (.slice 57 aB))) 2 (.Z 6)),(aG (.aWS tI (.aWS tI (.aWS aC aC))) 2 (.Z 11))]) <|
          .aWT (.seq true) (.aWU .str .str (.Z 18) (.Z 0)) <|
          .ite (.Z 19) (
           .ret (.aWU aH .bool (aQ aH [(.nl 49 aM),(.nl 57 aB),(.nl 62 aE),(.nl 62 aE)]) (.cb false))) (
           .ret (.aWU aH .bool (aQ aH [(aG (.aWS tI (.aWS tI aS)) 2 (.Z 2)),(aG (.aWS tI (.aWS tI (.slice 57 aB))) 2 (.Z 6)),(aG (.aWS tI (.aWS tI (.aWS aC aC))) 2 (.Z 11))]) (.cb true))))))) (
       .aWT .slen (.Z 0) <|
       .aWT (.cmp .neq .i64) (.aWU tI tI (aO (.aWS tI (.aWS tI (.aWS aC aC))) 1 (.Z 11)) (.Z 14)) <|
       .ite (.Z 15) (
        .ret (.aWU aH .bool (aQ aH [(.nl 49 aM),(.nl 57 aB),(.nl 62 aE),(.nl 62 aE)]) (.cb false))) (
        .aWT (.seq false) (.aWU .str .str (.Z 0) (.cs ⟨#[]⟩)) <|
        .ite (.Z 16) (
         .ret (.aWU aH .bool (aQ aH [(.nl 49 aM),(.nl 57 aB),(.nl 62 aE),(.nl 62 aE)]) (.cb false))) (
         .call 4 (aQ aH [(aG (.aWS tI (.aWS tI aS)) 2 (.Z 2)),(aG (.aWS tI (.aWS tI (.slice 57 aB))) 2 (.Z 6)),(aG (.aWS tI (.aWS tI (.aWS aC aC))) 2 (.Z 11))]) <|
         .aWT (.seq true) (.aWU .str .str (.Z 17) (.Z 0)) <|
         .ite (.Z 18) (
          .ret (.aWU aH .bool (aQ aH [(.nl 49 aM),(.nl 57 aB),(.nl 62 aE),(.nl 62 aE)]) (.cb false))) (
          .ret (.aWU aH .bool (aQ aH [(aG (.aWS tI (.aWS tI aS)) 2 (.Z 2)),(aG (.aWS tI (.aWS tI (.slice 57 aB))) 2 (.Z 6)),(aG (.aWS tI (.aWS tI (.aWS aC aC))) 2 (.Z 11))]) (.cb true)))))))) (
    .loop (.aWS tI (.aWS tI (.aWS aC aC))) (aQ (.aWS tI (.aWS tI (.aWS aC aC))) [(.ci .i64 1),(aO (.aWS tI (.aWS tI (.slice 57 aB))) 1 (.Z 6)),(.nl 62 aE),(.nl 62 aE)]) <|
     .aWT (.aWW 57 aB) (aG (.aWS tI (.aWS tI (.slice 57 aB))) 2 (.Z 6)) <|
     .aWT (.cmp .lss .i64) (.aWU tI tI (.p1 tI (.aWS tI (.aWS aC aC)) (.Z 10)) (.Z 11)) <|
     .ite (.Z 12) (
      .aWT (.cmp .geq .i64) (.aWU tI tI (aO (.aWS tI (.aWS tI (.aWS aC aC))) 1 (.Z 10)) (.ci .i64 0)) <|
      .ite (.Z 13) (
       .call 3 (.aWU .str tI (.Z 0) (aO (.aWS tI (.aWS tI (.aWS aC aC))) 1 (.Z 10))) <|
       .call 3 (.aWU .str tI (.Z 0) (aG (.aWS aE tI) 1 (.Z 14))) <|
       .aWT (.lit 62 aE 1) (.p1 aE tI (.Z 14)) <|
       .aWT (.aWZ 62 aE 32) (.aWU aC aC (aO (.aWS tI (.aWS tI (.aWS aC aC))) 2 (.Z 10)) (.Z 16)) <|
       .aWT (.lit 62 aE 1) (.p1 aE tI (.Z 15)) <|
       .aWT (.aWZ 62 aE 32) (.aWU aC aC (aG (.aWS tI (.aWS tI (.aWS aC aC))) 3 (.Z 10)) (.Z 18)) <|
       .aWT (.ar .add .i64) (.aWU tI tI (.p1 tI (.aWS tI (.aWS aC aC)) (.Z 10)) (.ci .i64 1)) <|
       .aWV 0 (aQ (.aWS tI (.aWS tI (.aWS aC aC))) [(.Z 20),(aG (.aWS aE tI) 1 (.Z 15)),(.Z 17),(.Z 19)])) (
       .aWT .slen (.Z 0) <|
       .aWT (.cmp .neq .i64) (.aWU tI tI (aO (.aWS tI (.aWS tI (.aWS aC aC))) 1 (.Z 10)) (.Z 14)) <|
       .ite (.Z 15) (
        .ret (.aWU aH .bool (aQ aH [(.nl 49 aM),(.nl 57 aB),(.nl 62 aE),(.nl 62 aE)]) (.cb false))) (
        .aWT (.seq false) (.aWU .str .str (.Z 0) (.cs ⟨#[]⟩)) <|
        .ite (.Z 16) (
         .ret (.aWU aH .bool (aQ aH [(.nl 49 aM),(.nl 57 aB),(.nl 62 aE),(.nl 62 aE)]) (.cb false))) (
         .call 4 (aQ aH [(aG (.aWS tI (.aWS tI aS)) 2 (.Z 2)),(aG (.aWS tI (.aWS tI (.slice 57 aB))) 2 (.Z 6)),(aG (.aWS tI (.aWS tI (.aWS aC aC))) 2 (.Z 10))]) <|
         .aWT (.seq true) (.aWU .str .str (.Z 17) (.Z 0)) <|
         .ite (.Z 18) (
          .ret (.aWU aH .bool (aQ aH [(.nl 49 aM),(.nl 57 aB),(.nl 62 aE),(.nl 62 aE)]) (.cb false))) (
          .ret (.aWU aH .bool (aQ aH [(aG (.aWS tI (.aWS tI aS)) 2 (.Z 2)),(aG (.aWS tI (.aWS tI (.slice 57 aB))) 2 (.Z 6)),(aG (.aWS tI (.aWS tI (.aWS aC aC))) 2 (.Z 10))]) (.cb true))))))) (
      .aWT .slen (.Z 0) <|
      .aWT (.cmp .neq .i64) (.aWU tI tI (aO (.aWS tI (.aWS tI (.aWS aC aC))) 1 (.Z 10)) (.Z 13)) <|
      .ite (.Z 14) (
       .ret (.aWU aH .bool (aQ aH [(.nl 49 aM),(.nl 57 aB),(.nl 62 aE),(.nl 62 aE)]) (.cb false))) (
       .aWT (.seq false) (.aWU .str .str (.Z 0) (.cs ⟨#[]⟩)) <|
       .ite (.Z 15) (
        .ret (.aWU aH .bool (aQ aH [(.nl 49 aM),(.nl 57 aB),(.nl 62 aE),(.nl 62 aE)]) (.cb false))) (
        .call 4 (aQ aH [(aG (.aWS tI (.aWS tI aS)) 2 (.Z 2)),(aG (.aWS tI (.aWS tI (.slice 57 aB))) 2 (.Z 6)),(aG (.aWS tI (.aWS tI (.aWS aC aC))) 2 (.Z 10))]) <|
        .aWT (.seq true) (.aWU .str .str (.Z 16) (.Z 0)) <|
        .ite (.Z 17) (
         .ret (.aWU aH .bool (aQ aH [(.nl 49 aM),(.nl 57 aB),(.nl 62 aE),(.nl 62 aE)]) (.cb false))) (
         .ret (.aWU aH .bool (aQ aH [(aG (.aWS tI (.aWS tI aS)) 2 (.Z 2)),(aG (.aWS tI (.aWS tI (.slice 57 aB))) 2 (.Z 6)),(aG (.aWS tI (.aWS tI (.aWS aC aC))) 2 (.Z 10))]) (.cb true))))))))
set_option maxRecDepth 100000 in
theorem aGP:cW Tryz.prog [gT,dE,kZ,gO,lI] lJ false 3000 ⟨[(2989,1002,[.dr 25,.dr 24,.dr 21,.dr 23,.dr 22,.dr 20,.tm 7 0,.tm 6 0,.sl 11]),(2979,11008,fG 38 26++[.dr 7,.tm 12 0,.tm 6 0,.sl 12]),(2969,91014,fG 74 62++[.dr 12,.dr 5,.tm 15 0,.tm 6 0,.sl 13,.sl 14]),(2969,43013,fG 74 62++[.dr 12,.dr 5,.tm 15 0,.tm 6 0,.sl 13,.sl 14]),(2969,19012,fG 74 62++[.dr 12,.dr 5,.tm 15 0,.tm 6 0,.sl 13,.sl 14]),(2979,5007,fG 38 26++[.dr 7,.tm 12 0,.tm 6 0,.sl 12]),(2969,45013,fG 74 62++[.dr 12,.dr 5,.tm 15 0,.tm 6 0,.sl 13,.sl 14]),(2969,21012,fG 74 62++[.dr 12,.dr 5,.tm 15 0,.tm 6 0,.sl 13,.sl 14]),(2969,9011,fG 74 62++[.dr 12,.dr 5,.tm 15 0,.tm 6 0,.sl 13,.sl 14]),(2979,2006,fG 38 26++[.dr 7,.tm 12 0,.tm 6 0,.sl 12]),(2969,22012,fG 74 62++[.dr 12,.dr 5,.tm 15 0,.tm 6 0,.sl 13,.sl 14]),(2969,10011,fG 74 62++[.dr 12,.dr 5,.tm 15 0,.tm 6 0,.sl 13,.sl 14]),(2969,4010,fG 74 62++[.dr 12,.dr 5,.tm 15 0,.tm 6 0,.sl 13,.sl 14])],[(2976,15010,[],[16,17]),(2968,123015,[],[16,17,18,19,20,21,22,23,24]),(2956,475020,[],[16]),(2954,475022,[],[19]),(2956,235019,[],[16]),(2954,235021,[],[19]),(2956,115018,[],[16]),(2954,115020,[],[19]),(2968,61014,[],[16,17,18,19,20,21,22,23,24]),(2956,237019,[],[16]),(2954,237021,[],[19]),(2956,117018,[],[16]),(2954,117020,[],[19]),(2956,57017,[],[16]),(2954,57019,[],[19]),(2968,30013,[],[16,17,18,19,20,21,22,23,24]),(2956,118018,[],[16]),(2954,118020,[],[19]),(2956,58017,[],[16]),(2954,58019,[],[19]),(2956,28016,[],[16]),(2954,28018,[],[19])]⟩ = .ok sB:=by kernel_rfl
set_option maxHeartbeats 8000000 in
theorem aGY (x:ByteArray) (hx:okD .str x) (hp:(fun x=>x.size≤100000000) x):sB.wp [gT,dE,kZ,gO,lI] [⟨.str,x⟩] [] (fun v=>v.as (.aWS aH .bool)=(fun x=>aLC x) x):=by
 have hz:x.size≤100000000:=hp
 obtain ⟨s,rfl⟩:∃ s,s=x:=⟨_,rfl⟩
 have hp0:PB s 0:=⟨by omega,by omega⟩
 delta sB gT dE kZ gO lI;refine jN ?_
 have h8:=rL (s:=s) (p:=0) (show 0≤(2:Int) by decide)
 have g0:=qS s 2 0 hp0
 have hv0:aAW s=P1Q s (jP s 2 0).1 [] (cU (xJ s) (min ((jP s 2 0).1.getD 0 0).toNat 5) (jP s 2 0).2):=rfl
 obtain ⟨W,hW⟩:∃ W,W=aAW s:=⟨_,rfl⟩
 have hI:=aUF hW.symm
 rw[← hW] at hv0
 clear hW
 simp only[dzx,Int.reduceToNat]
 generalize (jP s 2 0).1=H at *
 generalize (jP s 2 0).2=p0 at *
 (repeat' first|intro _|(with_reducible apply And.intro))
 all_goals first|omega|exact hp0|skip
 have z0:H.getD 0 (aV tI)=H.getD 0 0:=rfl
 have z1:H.getD 1 (aV tI)=H.getD 1 0:=rfl
 rw[z0,z1]
 refine ⟨fun t=>∃ k:Nat,t.1=(k:Int)∧(t.2.2:List lA).length=k∧k≤min (H.getD 0 0).toNat 5∧PB s t.2.1∧W=P1Q s H t.2.2 (cU (xJ s) (min (H.getD 0 0).toNat 5 - k) t.2.1),fun t=>(5 - (t.1:Int)).toNat,⟨0,rfl,rfl,by omega,g0.1,hv0⟩,fun t _ hJ=>?_⟩
 obtain ⟨i,r1,a1⟩:Int × (Int × List lA):=t
 obtain ⟨k1,rfl,hl,hk,hPr1,hvr1⟩:=hJ
 dsimp only at hl hk hPr1 hvr1 ⊢
 have hPar1:-1≤r1:=hPr1.1
 have hPbr1:r1≤(s.size:Int):=hPr1.2
 refine ⟨by omega,fun _=>⟨by omega,fun _=>⟨fun ha=>⟨fun hb=>⟨fun hc=>?_,fun hc=>?_⟩,fun hb=>?_⟩,fun ha=>?_⟩⟩⟩
 ·obtain ⟨m,hm⟩:∃ m,(min (H.getD 0 0).toNat 5 - k1)=m+1:=⟨(min (H.getD 0 0).toNat 5 - k1) - 1,by omega⟩
  rw[hm,lD _ m hc] at hvr1
  have hp1:=jH s r1 hPr1
  have hpa:-1≤(fI s r1).2:=hp1.1.1
  have hpb:(fI s r1).2≤(s.size:Int):=hp1.1.2
  have hp2:=aUN s r1 hPr1
  (repeat' first|intro _|(with_reducible apply And.intro))
  all_goals first|omega|exact hPr1|exact hp1.1|(unfold maxLen;omega)|skip
  refine ⟨k1+1,rfl,by (first|omega|(simp only[List.length_append,List.length_cons,List.length_nil];omega)),by omega,hp2.1,?_⟩
  rw[show min (H.getD 0 0).toNat 5 - (k1+1)=m by omega,hvr1]
  show P1Q s H a1 ((xJ s r1).1 :: _,_)=P1Q s H (a1++[(xJ s r1).1]) _
  unfold P1Q;simp only[List.append_assoc,List.singleton_append];rfl
 all_goals
  have hwr1:W=P2Q s a1 [] (cU (kI s) (min (H.getD 1 0).toNat 4) r1):=by
   first|rw[kS (xJ s) _ hc] at hvr1|rw[show (min (H.getD 0 0).toNat 5 - k1)=0 by omega] at hvr1
   rw[hvr1];unfold P1Q;simp only[List.append_nil,cU]
  clear hvr1
  refine ⟨fun t=>∃ k:Nat,t.1=(k:Int)∧(t.2.2:List bA).length=k∧k≤min (H.getD 1 0).toNat 4∧PB s t.2.1∧W=P2Q s a1 t.2.2 (cU (kI s) (min (H.getD 1 0).toNat 4 - k) t.2.1),fun t=>(4 - (t.1:Int)).toNat,⟨0,rfl,rfl,by omega,hPr1,hwr1⟩,fun t _ hJ=>?_⟩
  obtain ⟨i,r2,a2⟩:Int × (Int × List bA):=t
  obtain ⟨k2,rfl,hl2,hk2,hPr2,hvr2⟩:=hJ
  dsimp only at hl2 hk2 hPr2 hvr2 ⊢
  have hPar2:-1≤r2:=hPr2.1
  have hPbr2:r2≤(s.size:Int):=hPr2.2
  refine ⟨by omega,fun _=>⟨by omega,fun _=>⟨fun ha=>⟨fun hb=>⟨fun hc=>?_,fun hc=>?_⟩,fun hb=>?_⟩,fun ha=>?_⟩⟩⟩
  ·obtain ⟨m,hm⟩:∃ m,(min (H.getD 1 0).toNat 4 - k2)=m+1:=⟨(min (H.getD 1 0).toNat 4 - k2) - 1,by omega⟩
   rw[hm,lD _ m hc] at hvr2
   have hp2:=aRB s r2 hPr2
   (repeat' first|intro _|(with_reducible apply And.intro))
   all_goals first|omega|exact hPr2|(unfold maxLen;omega)|skip
   refine ⟨k2+1,rfl,by (first|omega|(simp only[List.length_append,List.length_cons,List.length_nil];omega)),by omega,hp2.1,?_⟩
   rw[show min (H.getD 1 0).toNat 4 - (k2+1)=m by omega,hvr2]
   show P2Q s a1 a2 ((kI s r2).1 :: _,_)=P2Q s a1 (a2++[(kI s r2).1]) _
   unfold P2Q;simp only[List.append_assoc,List.singleton_append]
  all_goals
   have hwr2:W=P3Q a1 a2 [] [] (cU (qqQ s) (a2.length - 1) r2):=by
    first|rw[kS (kI s) _ hc] at hvr2|rw[show (min (H.getD 1 0).toNat 4 - k2)=0 by omega] at hvr2
    rw[hvr2];unfold P2Q;simp only[List.append_nil,cU]
   clear hvr2
   have ha4:a2.length≤4:=by omega
   refine ⟨fun t=>∃ k:Nat,t.1=(k:Int)+1∧(t.2.2.1:List bK).length=k∧(t.2.2.2:List bK).length=k∧k≤a2.length - 1∧PB s t.2.1∧W=P3Q a1 a2 t.2.2.1 t.2.2.2 (cU (qqQ s) (a2.length - 1 - k) t.2.1),fun t=>(5 - (t.1:Int)).toNat,⟨0,rfl,rfl,rfl,by omega,hPr2,hwr2⟩,fun t _ hJ=>?_⟩
   obtain ⟨i,r3,c1,c2⟩:Int × (Int × (List bK × List bK)):=t
   obtain ⟨k3,rfl,hl3,hl4,hk3,hPr3,hvr3⟩:=hJ
   dsimp only at hl3 hl4 hk3 hPr3 hvr3 ⊢
   have hPar3:-1≤r3:=hPr3.1
   have hPbr3:r3≤(s.size:Int):=hPr3.2
   refine fun _=>⟨fun ha=>⟨fun hc=>?_,fun hc=>?_⟩,fun ha=>?_⟩
   ·obtain ⟨m,hm⟩:∃ m,(a2.length - 1 - k3)=m+1:=⟨(a2.length - 1 - k3) - 1,by omega⟩
    rw[hm,lD _ m hc] at hvr3
    have hp1:=aC9 s r3 hPr3
    have hp2:=aWO s r3 hPr3
    (repeat' first|intro _|(with_reducible apply And.intro))
    all_goals first|omega|exact hPr3|exact hp1.1|(unfold maxLen;omega)|skip
    refine ⟨k3+1,rfl,by (first|omega|(simp only[List.length_append,List.length_cons,List.length_nil];omega)),by (first|omega|(simp only[List.length_append,List.length_cons,List.length_nil];omega)),by omega,hp2.1,?_⟩
    rw[show a2.length - 1 - (k3+1)=m by omega,hvr3]
    show P3Q a1 a2 c1 c2 ((qqQ s r3).1 :: _,_)=P3Q a1 a2 (c1++[(qqQ s r3).1.1]) (c2++[(qqQ s r3).1.2]) _
    unfold P3Q;simp only[List.append_assoc,List.singleton_append,List.map_cons];rfl
   all_goals
    have hwr3:W=((a1,a2,c1,c2),r3):=by
     first|rw[kS (qqQ s) _ hc] at hvr3|rw[show (a2.length - 1 - k3)=0 by omega] at hvr3
     rw[hvr3];unfold P3Q;simp only[List.append_nil,cU,List.map_nil]
    clear hvr3
    rw[hwr3] at hI
    rw[hI]
    try intro _
    refine ⟨fun h=>?_,fun h=>⟨fun h2=>?_,fun h2 _=>⟨fun h3=>?_,fun h3=>?_⟩⟩⟩
    ·rw[if_pos (.inl h)];rfl
    ·rw[if_pos (.inr (.inl (by first|exact h2|exact Classical.not_not.1 h2)))];rfl
    ·rw[if_pos (.inr (.inr (by first|exact h3|exact Classical.not_not.1 h3)))];rfl
    ·rw[if_neg (fun hh=>hh.elim (fun a=>a h) (fun hh=>hh.elim h2 (fun a=>a (by first|exact h3|exact Classical.not_not.1 h3))))]
set_option maxHeartbeats 8000000 in
theorem aGW:Con.Holds Tryz.prog lJ:=aX bI (aR zZ (aR oW (aR aHY (aR zK (aR aGH aY))))) aGP aGY
end Go.Proofs.YtlabadaccldkaaaGreat
