/- Read12: lemmas. No conditions. -/
import Derived.Test.YtlabadaccldkaaaGreatRead11
import Derived.Test.YtlabadaccldkaaaGreatShow4
namespace Go.Proofs.YtlabadaccldkaaaGreat
open Go.ChangeShapes Go.WideShapes Go.ChangeAt Go.RowKit Go.Deep
set_option linter.unusedVariables false
set_option linter.unusedSimpArgs false
theorem aQ9 {r:fA} (hP:lM r) (hb:r.2.2=false) (h:(eH r).2.2.2=false):@LE.le Int _ (r.2.1+8) (eH r).2.2.1:=by
 obtain ⟨s,q,b⟩:=r
 obtain ⟨h0,h1⟩:=hP
 dsimp only at h0 h1 hb
 subst hb
 obtain ⟨n,hn⟩:=Int.eq_ofNat_of_zero_le h0
 have e:((s,(q,false)):fA)=lW s n:=by rw[hn];rfl
 rw[e] at h ⊢
 have h2:=aS3 h
 have e2:(lW s n).2.1=(n:Int):=rfl
 rw[e2]
 exact h2
theorem aUE {s:ByteArray} {V:dH × fA} (h:xN (lW s 0)=V):xG s=if V.2.2.2=true∨s=⟨#[]⟩∨¬ jQ V.1=s then (aFW,false) else (V.1,true):=by unfold xG;rw[h]
theorem aW7 (s:ByteArray):lM (lW s 0):=⟨by show (0:Int)≤((0:Nat):Int);omega,by show ((0:Nat):Int)≤s.size;omega⟩
noncomputable def lE:Con:=⟨14,.str,(.aWS aH .bool),[.val ⟨false,.str,[]⟩],[⟨true,aH,[2,2,2,2]⟩,⟨false,.bool,[0]⟩],false,none,
 ((fun x=>x.size≤100000000):(ByteArray)→Prop),
 ((fun x=>xG x):(ByteArray)→(dH × Bool))⟩
def rW:T:=.call 0 (.aWU (.aWS .str (.aWS tI .bool)) tI (aQ (.aWS .str (.aWS tI .bool)) [(.Z 0),(.ci .i64 0),(.cb false)]) (.ci .i64 2)) <|.loop (.aWS tI (.aWS aS (.aWS .str (.aWS tI .bool)))) (aQ (.aWS tI (.aWS aS (.aWS .str (.aWS tI .bool)))) [(.ci .i64 0),(.nl 49 aM),(aG (.aWS aA (.aWS .str (.aWS tI .bool))) 1 (.Z 1))]) <|
 .aWT (.aWX 3 tI) (.aWU aA tI (.p1 aA (.aWS .str (.aWS tI .bool)) (.Z 1)) (.ci .i64 0)) <|
 .aWT (.aWX 3 tI) (.aWU aA tI (.p1 aA (.aWS .str (.aWS tI .bool)) (.Z 1)) (.ci .i64 0)) <|
 .aWT (.cmp .lss .i64) (.aWU tI tI (.p1 tI (.aWS aS (.aWS .str (.aWS tI .bool))) (.Z 2)) (.Z 4)) <|
 .ite (.Z 5) (
  .aWT .not (aG (.aWS tI (.aWS aS (.aWS .str (.aWS tI .bool)))) 4 (.Z 2)) <|
  .ite (.Z 6) (
   .call 1 (aG (.aWS tI (.aWS aS (.aWS .str (.aWS tI .bool)))) 2 (.Z 2)) <|
   .call 1 (aG (.aWS aA (.aWS .str (.aWS tI .bool))) 1 (.Z 7)) <|
   .aWT (.lit 49 aM 1) (.aWU aA aA (.p1 aA (.aWS .str (.aWS tI .bool)) (.Z 7)) (.p1 aA (.aWS .str (.aWS tI .bool)) (.Z 8))) <|
   .aWT (.aWZ 49 aM 48) (.aWU aS aS (aO (.aWS tI (.aWS aS (.aWS .str (.aWS tI .bool)))) 1 (.Z 2)) (.Z 9)) <|
   .aWT (.ar .add .i64) (.aWU tI tI (.p1 tI (.aWS aS (.aWS .str (.aWS tI .bool))) (.Z 2)) (.ci .i64 1)) <|
   .aWV 0 (aQ (.aWS tI (.aWS aS (.aWS .str (.aWS tI .bool)))) [(.Z 11),(.Z 10),(aG (.aWS aA (.aWS .str (.aWS tI .bool))) 1 (.Z 8))])) (
   .loop (.aWS tI (.aWS (.slice 57 aB) (.aWS .str (.aWS tI .bool)))) (aQ (.aWS tI (.aWS (.slice 57 aB) (.aWS .str (.aWS tI .bool)))) [(.ci .i64 0),(.nl 57 aB),(aG (.aWS tI (.aWS aS (.aWS .str (.aWS tI .bool)))) 2 (.Z 2))]) <|
    .aWT (.aWX 3 tI) (.aWU aA tI (.p1 aA (.aWS .str (.aWS tI .bool)) (.Z 1)) (.ci .i64 1)) <|
    .aWT (.aWX 3 tI) (.aWU aA tI (.p1 aA (.aWS .str (.aWS tI .bool)) (.Z 1)) (.ci .i64 1)) <|
    .aWT (.cmp .lss .i64) (.aWU tI tI (.p1 tI (.aWS (.slice 57 aB) (.aWS .str (.aWS tI .bool))) (.Z 7)) (.Z 9)) <|
    .ite (.Z 10) (
     .aWT .not (aG (.aWS tI (.aWS (.slice 57 aB) (.aWS .str (.aWS tI .bool)))) 4 (.Z 7)) <|
     .ite (.Z 11) (
      .call 2 (aG (.aWS tI (.aWS (.slice 57 aB) (.aWS .str (.aWS tI .bool)))) 2 (.Z 7)) <|
      .aWT (.lit 57 aB 1) (.p1 aB (.aWS .str (.aWS tI .bool)) (.Z 12)) <|
      .aWT (.aWZ 57 aB 248) (.aWU (.slice 57 aB) (.slice 57 aB) (aO (.aWS tI (.aWS (.slice 57 aB) (.aWS .str (.aWS tI .bool)))) 1 (.Z 7)) (.Z 13)) <|
      .aWT (.ar .add .i64) (.aWU tI tI (.p1 tI (.aWS (.slice 57 aB) (.aWS .str (.aWS tI .bool))) (.Z 7)) (.ci .i64 1)) <|
      .aWV 0 (aQ (.aWS tI (.aWS (.slice 57 aB) (.aWS .str (.aWS tI .bool)))) [(.Z 15),(.Z 14),(aG (.aWS aB (.aWS .str (.aWS tI .bool))) 1 (.Z 12))])) (
      .loop (.aWS tI (.aWS aC (.aWS aC (.aWS .str (.aWS tI .bool))))) (aQ (.aWS tI (.aWS aC (.aWS aC (.aWS .str (.aWS tI .bool))))) [(.ci .i64 1),(.nl 62 aE),(.nl 62 aE),(aG (.aWS tI (.aWS (.slice 57 aB) (.aWS .str (.aWS tI .bool)))) 2 (.Z 7))]) <|
       .aWT (.aWX 3 tI) (.aWU aA tI (.p1 aA (.aWS .str (.aWS tI .bool)) (.Z 1)) (.ci .i64 1)) <|
       .aWT (.aWX 3 tI) (.aWU aA tI (.p1 aA (.aWS .str (.aWS tI .bool)) (.Z 1)) (.ci .i64 1)) <|
       .aWT (.cmp .lss .i64) (.aWU tI tI (.p1 tI (.aWS aC (.aWS aC (.aWS .str (.aWS tI .bool)))) (.Z 12)) (.Z 14)) <|
       .ite (.Z 15) (
        .aWT .not (aG (.aWS tI (.aWS aC (.aWS aC (.aWS .str (.aWS tI .bool))))) 5 (.Z 12)) <|
        .ite (.Z 16) (
         .call 3 (aG (.aWS tI (.aWS aC (.aWS aC (.aWS .str (.aWS tI .bool))))) 3 (.Z 12)) <|
         .call 3 (aG (.aWS aE (.aWS .str (.aWS tI .bool))) 1 (.Z 17)) <|
         .aWT (.lit 62 aE 1) (.p1 aE (.aWS .str (.aWS tI .bool)) (.Z 17)) <|
         .aWT (.aWZ 62 aE 32) (.aWU aC aC (aO (.aWS tI (.aWS aC (.aWS aC (.aWS .str (.aWS tI .bool))))) 1 (.Z 12)) (.Z 19)) <|
         .aWT (.lit 62 aE 1) (.p1 aE (.aWS .str (.aWS tI .bool)) (.Z 18)) <|
         .aWT (.aWZ 62 aE 32) (.aWU aC aC (aO (.aWS tI (.aWS aC (.aWS aC (.aWS .str (.aWS tI .bool))))) 2 (.Z 12)) (.Z 21)) <|
         .aWT (.ar .add .i64) (.aWU tI tI (.p1 tI (.aWS aC (.aWS aC (.aWS .str (.aWS tI .bool)))) (.Z 12)) (.ci .i64 1)) <|
         .aWV 0 (aQ (.aWS tI (.aWS aC (.aWS aC (.aWS .str (.aWS tI .bool))))) [(.Z 23),(.Z 20),(.Z 22),(aG (.aWS aE (.aWS .str (.aWS tI .bool))) 1 (.Z 18))])) (
         .ite (aG (.aWS tI (.aWS aC (.aWS aC (.aWS .str (.aWS tI .bool))))) 5 (.Z 12)) (
          .ret (.aWU aH .bool (aQ aH [(.nl 49 aM),(.nl 57 aB),(.nl 62 aE),(.nl 62 aE)]) (.cb false))) (
          .aWT (.seq false) (.aWU .str .str (.Z 0) (.cs ⟨#[]⟩)) <|
          .ite (.Z 17) (
           .ret (.aWU aH .bool (aQ aH [(.nl 49 aM),(.nl 57 aB),(.nl 62 aE),(.nl 62 aE)]) (.cb false))) (
           .call 4 (aQ aH [(aO (.aWS tI (.aWS aS (.aWS .str (.aWS tI .bool)))) 1 (.Z 2)),(aO (.aWS tI (.aWS (.slice 57 aB) (.aWS .str (.aWS tI .bool)))) 1 (.Z 7)),(aO (.aWS tI (.aWS aC (.aWS aC (.aWS .str (.aWS tI .bool))))) 1 (.Z 12)),(aO (.aWS tI (.aWS aC (.aWS aC (.aWS .str (.aWS tI .bool))))) 2 (.Z 12))]) <|
           .aWT (.seq true) (.aWU .str .str (.Z 18) (.Z 0)) <|
           .ite (.Z 19) (
            .ret (.aWU aH .bool (aQ aH [(.nl 49 aM),(.nl 57 aB),(.nl 62 aE),(.nl 62 aE)]) (.cb false))) (
            .ret (.aWU aH .bool (aQ aH [(aO (.aWS tI (.aWS aS (.aWS .str (.aWS tI .bool)))) 1 (.Z 2)),(aO (.aWS tI (.aWS (.slice 57 aB) (.aWS .str (.aWS tI .bool)))) 1 (.Z 7)),(aO (.aWS tI (.aWS aC (.aWS aC (.aWS .str (.aWS tI .bool))))) 1 (.Z 12)),(aO (.aWS tI (.aWS aC (.aWS aC (.aWS .str (.aWS tI .bool))))) 2 (.Z 12))]) (.cb true))))))) (
        .ite (aG (.aWS tI (.aWS aC (.aWS aC (.aWS .str (.aWS tI .bool))))) 5 (.Z 12)) (
         .ret (.aWU aH .bool (aQ aH [(.nl 49 aM),(.nl 57 aB),(.nl 62 aE),(.nl 62 aE)]) (.cb false))) (
         .aWT (.seq false) (.aWU .str .str (.Z 0) (.cs ⟨#[]⟩)) <|
         .ite (.Z 16) (
          .ret (.aWU aH .bool (aQ aH [(.nl 49 aM),(.nl 57 aB),(.nl 62 aE),(.nl 62 aE)]) (.cb false))) (
          .call 4 (aQ aH [(aO (.aWS tI (.aWS aS (.aWS .str (.aWS tI .bool)))) 1 (.Z 2)),(aO (.aWS tI (.aWS (.slice 57 aB) (.aWS .str (.aWS tI .bool)))) 1 (.Z 7)),(aO (.aWS tI (.aWS aC (.aWS aC (.aWS .str (.aWS tI .bool))))) 1 (.Z 12)),(aO (.aWS tI (.aWS aC (.aWS aC (.aWS .str (.aWS tI .bool))))) 2 (.Z 12))]) <|
          .aWT (.seq true) (.aWU .str .str (.Z 17) (.Z 0)) <|
          .ite (.Z 18) (
           .ret (.aWU aH .bool (aQ aH [(.nl 49 aM),(.nl 57 aB),(.nl 62 aE),(.nl 62 aE)]) (.cb false))) (
           .ret (.aWU aH .bool (aQ aH [(aO (.aWS tI (.aWS aS (.aWS .str (.aWS tI .bool)))) 1 (.Z 2)),(aO (.aWS tI (.aWS (.slice 57 aB) (.aWS .str (.aWS tI .bool)))) 1 (.Z 7)),(aO (.aWS tI (.aWS aC (.aWS aC (.aWS .str (.aWS tI .bool))))) 1 (.Z 12)),(aO (.aWS tI (.aWS aC (.aWS aC (.aWS .str (.aWS tI .bool))))) 2 (.Z 12))]) (.cb true)))))))) (
     .loop (.aWS tI (.aWS aC (.aWS aC (.aWS .str (.aWS tI .bool))))) (aQ (.aWS tI (.aWS aC (.aWS aC (.aWS .str (.aWS tI .bool))))) [(.ci .i64 1),(.nl 62 aE),(.nl 62 aE),(aG (.aWS tI (.aWS (.slice 57 aB) (.aWS .str (.aWS tI .bool)))) 2 (.Z 7))]) <|
      .aWT (.aWX 3 tI) (.aWU aA tI (.p1 aA (.aWS .str (.aWS tI .bool)) (.Z 1)) (.ci .i64 1)) <|
      .aWT (.aWX 3 tI) (.aWU aA tI (.p1 aA (.aWS .str (.aWS tI .bool)) (.Z 1)) (.ci .i64 1)) <|
      .aWT (.cmp .lss .i64) (.aWU tI tI (.p1 tI (.aWS aC (.aWS aC (.aWS .str (.aWS tI .bool)))) (.Z 11)) (.Z 13)) <|
      .ite (.Z 14) (
       .aWT .not (aG (.aWS tI (.aWS aC (.aWS aC (.aWS .str (.aWS tI .bool))))) 5 (.Z 11)) <|
       .ite (.Z 15) (
        .call 3 (aG (.aWS tI (.aWS aC (.aWS aC (.aWS .str (.aWS tI .bool))))) 3 (.Z 11)) <|
        .call 3 (aG (.aWS aE (.aWS .str (.aWS tI .bool))) 1 (.Z 16)) <|
        .aWT (.lit 62 aE 1) (.p1 aE (.aWS .str (.aWS tI .bool)) (.Z 16)) <|
        .aWT (.aWZ 62 aE 32) (.aWU aC aC (aO (.aWS tI (.aWS aC (.aWS aC (.aWS .str (.aWS tI .bool))))) 1 (.Z 11)) (.Z 18)) <|
        .aWT (.lit 62 aE 1) (.p1 aE (.aWS .str (.aWS tI .bool)) (.Z 17)) <|
        .aWT (.aWZ 62 aE 32) (.aWU aC aC (aO (.aWS tI (.aWS aC (.aWS aC (.aWS .str (.aWS tI .bool))))) 2 (.Z 11)) (.Z 20)) <|
        .aWT (.ar .add .i64) (.aWU tI tI (.p1 tI (.aWS aC (.aWS aC (.aWS .str (.aWS tI .bool)))) (.Z 11)) (.ci .i64 1)) <|
        .aWV 0 (aQ (.aWS tI (.aWS aC (.aWS aC (.aWS .str (.aWS tI .bool))))) [(.Z 22),(.Z 19),(.Z 21),(aG (.aWS aE (.aWS .str (.aWS tI .bool))) 1 (.Z 17))])) (
        .ite (aG (.aWS tI (.aWS aC (.aWS aC (.aWS .str (.aWS tI .bool))))) 5 (.Z 11)) (
         .ret (.aWU aH .bool (aQ aH [(.nl 49 aM),(.nl 57 aB),(.nl 62 aE),(.nl 62 aE)]) (.cb false))) (
         .aWT (.seq false) (.aWU .str .str (.Z 0) (.cs ⟨#[]⟩)) <|
         .ite (.Z 16) (
          .ret (.aWU aH .bool (aQ aH [(.nl 49 aM),(.nl 57 aB),(.nl 62 aE),(.nl 62 aE)]) (.cb false))) (
          .call 4 (aQ aH [(aO (.aWS tI (.aWS aS (.aWS .str (.aWS tI .bool)))) 1 (.Z 2)),(aO (.aWS tI (.aWS (.slice 57 aB) (.aWS .str (.aWS tI .bool)))) 1 (.Z 7)),(aO (.aWS tI (.aWS aC (.aWS aC (.aWS .str (.aWS tI .bool))))) 1 (.Z 11)),(aO (.aWS tI (.aWS aC (.aWS aC (.aWS .str (.aWS tI .bool))))) 2 (.Z 11))]) <|
          .aWT (.seq true) (.aWU .str .str (.Z 17) (.Z 0)) <|
          .ite (.Z 18) (
           .ret (.aWU aH .bool (aQ aH [(.nl 49 aM),(.nl 57 aB),(.nl 62 aE),(.nl 62 aE)]) (.cb false))) (
           .ret (.aWU aH .bool (aQ aH [(aO (.aWS tI (.aWS aS (.aWS .str (.aWS tI .bool)))) 1 (.Z 2)),(aO (.aWS tI (.aWS (.slice 57 aB) (.aWS .str (.aWS tI .bool)))) 1 (.Z 7)),(aO (.aWS tI (.aWS aC (.aWS aC (.aWS .str (.aWS tI .bool))))) 1 (.Z 11)),(aO (.aWS tI (.aWS aC (.aWS aC (.aWS .str (.aWS tI .bool))))) 2 (.Z 11))]) (.cb true))))))) (
       .ite (aG (.aWS tI (.aWS aC (.aWS aC (.aWS .str (.aWS tI .bool))))) 5 (.Z 11)) (
        .ret (.aWU aH .bool (aQ aH [(.nl 49 aM),(.nl 57 aB),(.nl 62 aE),(.nl 62 aE)]) (.cb false))) (
        .aWT (.seq false) (.aWU .str .str (.Z 0) (.cs ⟨#[]⟩)) <|
        .ite (.Z 15) (
         .ret (.aWU aH .bool (aQ aH [(.nl 49 aM),(.nl 57 aB),(.nl 62 aE),(.nl 62 aE)]) (.cb false))) (
         .call 4 (aQ aH [(aO (.aWS tI (.aWS aS (.aWS .str (.aWS tI .bool)))) 1 (.Z 2)),(aO (.aWS tI (.aWS (.slice 57 aB) (.aWS .str (.aWS tI .bool)))) 1 (.Z 7)),(aO (.aWS tI (.aWS aC (.aWS aC (.aWS .str (.aWS tI .bool))))) 1 (.Z 11)),(aO (.aWS tI (.aWS aC (.aWS aC (.aWS .str (.aWS tI .bool))))) 2 (.Z 11))]) <|
         .aWT (.seq true) (.aWU .str .str (.Z 16) (.Z 0)) <|
         .ite (.Z 17) (
          .ret (.aWU aH .bool (aQ aH [(.nl 49 aM),(.nl 57 aB),(.nl 62 aE),(.nl 62 aE)]) (.cb false))) (
          .ret (.aWU aH .bool (aQ aH [(aO (.aWS tI (.aWS aS (.aWS .str (.aWS tI .bool)))) 1 (.Z 2)),(aO (.aWS tI (.aWS (.slice 57 aB) (.aWS .str (.aWS tI .bool)))) 1 (.Z 7)),(aO (.aWS tI (.aWS aC (.aWS aC (.aWS .str (.aWS tI .bool))))) 1 (.Z 11)),(aO (.aWS tI (.aWS aC (.aWS aC (.aWS .str (.aWS tI .bool))))) 2 (.Z 11))]) (.cb true))))))))) (
  .loop (.aWS tI (.aWS (.slice 57 aB) (.aWS .str (.aWS tI .bool)))) (aQ (.aWS tI (.aWS (.slice 57 aB) (.aWS .str (.aWS tI .bool)))) [(.ci .i64 0),(.nl 57 aB),(aG (.aWS tI (.aWS aS (.aWS .str (.aWS tI .bool)))) 2 (.Z 2))]) <|
   .aWT (.aWX 3 tI) (.aWU aA tI (.p1 aA (.aWS .str (.aWS tI .bool)) (.Z 1)) (.ci .i64 1)) <|
   .aWT (.aWX 3 tI) (.aWU aA tI (.p1 aA (.aWS .str (.aWS tI .bool)) (.Z 1)) (.ci .i64 1)) <|
   .aWT (.cmp .lss .i64) (.aWU tI tI (.p1 tI (.aWS (.slice 57 aB) (.aWS .str (.aWS tI .bool))) (.Z 6)) (.Z 8)) <|
   .ite (.Z 9) (
    .aWT .not (aG (.aWS tI (.aWS (.slice 57 aB) (.aWS .str (.aWS tI .bool)))) 4 (.Z 6)) <|
    .ite (.Z 10) (
     .call 2 (aG (.aWS tI (.aWS (.slice 57 aB) (.aWS .str (.aWS tI .bool)))) 2 (.Z 6)) <|
     .aWT (.lit 57 aB 1) (.p1 aB (.aWS .str (.aWS tI .bool)) (.Z 11)) <|
     .aWT (.aWZ 57 aB 248) (.aWU (.slice 57 aB) (.slice 57 aB) (aO (.aWS tI (.aWS (.slice 57 aB) (.aWS .str (.aWS tI .bool)))) 1 (.Z 6)) (.Z 12)) <|
     .aWT (.ar .add .i64) (.aWU tI tI (.p1 tI (.aWS (.slice 57 aB) (.aWS .str (.aWS tI .bool))) (.Z 6)) (.ci .i64 1)) <|
     .aWV 0 (aQ (.aWS tI (.aWS (.slice 57 aB) (.aWS .str (.aWS tI .bool)))) [(.Z 14),(.Z 13),(aG (.aWS aB (.aWS .str (.aWS tI .bool))) 1 (.Z 11))])) (
     .loop (.aWS tI (.aWS aC (.aWS aC (.aWS .str (.aWS tI .bool))))) (aQ (.aWS tI (.aWS aC (.aWS aC (.aWS .str (.aWS tI .bool))))) [(.ci .i64 1),(.nl 62 aE),(.nl 62 aE),(aG (.aWS tI (.aWS (.slice 57 aB) (.aWS .str (.aWS tI .bool)))) 2 (.Z 6))]) <|
      .aWT (.aWX 3 tI) (.aWU aA tI (.p1 aA (.aWS .str (.aWS tI .bool)) (.Z 1)) (.ci .i64 1)) <|
      .aWT (.aWX 3 tI) (.aWU aA tI (.p1 aA (.aWS .str (.aWS tI .bool)) (.Z 1)) (.ci .i64 1)) <|
      .aWT (.cmp .lss .i64) (.aWU tI tI (.p1 tI (.aWS aC (.aWS aC (.aWS .str (.aWS tI .bool)))) (.Z 11)) (.Z 13)) <|
      .ite (.Z 14) (
       .aWT .not (aG (.aWS tI (.aWS aC (.aWS aC (.aWS .str (.aWS tI .bool))))) 5 (.Z 11)) <|
       .ite (.Z 15) (
        .call 3 (aG (.aWS tI (.aWS aC (.aWS aC (.aWS .str (.aWS tI .bool))))) 3 (.Z 11)) <|
        .call 3 (aG (.aWS aE (.aWS .str (.aWS tI .bool))) 1 (.Z 16)) <|
        .aWT (.lit 62 aE 1) (.p1 aE (.aWS .str (.aWS tI .bool)) (.Z 16)) <|
        .aWT (.aWZ 62 aE 32) (.aWU aC aC (aO (.aWS tI (.aWS aC (.aWS aC (.aWS .str (.aWS tI .bool))))) 1 (.Z 11)) (.Z 18)) <|
        .aWT (.lit 62 aE 1) (.p1 aE (.aWS .str (.aWS tI .bool)) (.Z 17)) <|
        .aWT (.aWZ 62 aE 32) (.aWU aC aC (aO (.aWS tI (.aWS aC (.aWS aC (.aWS .str (.aWS tI .bool))))) 2 (.Z 11)) (.Z 20)) <|
        .aWT (.ar .add .i64) (.aWU tI tI (.p1 tI (.aWS aC (.aWS aC (.aWS .str (.aWS tI .bool)))) (.Z 11)) (.ci .i64 1)) <|
        .aWV 0 (aQ (.aWS tI (.aWS aC (.aWS aC (.aWS .str (.aWS tI .bool))))) [(.Z 22),(.Z 19),(.Z 21),(aG (.aWS aE (.aWS .str (.aWS tI .bool))) 1 (.Z 17))])) (
        .ite (aG (.aWS tI (.aWS aC (.aWS aC (.aWS .str (.aWS tI .bool))))) 5 (.Z 11)) (
         .ret (.aWU aH .bool (aQ aH [(.nl 49 aM),(.nl 57 aB),(.nl 62 aE),(.nl 62 aE)]) (.cb false))) (
         .aWT (.seq false) (.aWU .str .str (.Z 0) (.cs ⟨#[]⟩)) <|
         .ite (.Z 16) (
          .ret (.aWU aH .bool (aQ aH [(.nl 49 aM),(.nl 57 aB),(.nl 62 aE),(.nl 62 aE)]) (.cb false))) (
          .call 4 (aQ aH [(aO (.aWS tI (.aWS aS (.aWS .str (.aWS tI .bool)))) 1 (.Z 2)),(aO (.aWS tI (.aWS (.slice 57 aB) (.aWS .str (.aWS tI .bool)))) 1 (.Z 6)),(aO (.aWS tI (.aWS aC (.aWS aC (.aWS .str (.aWS tI .bool))))) 1 (.Z 11)),(aO (.aWS tI (.aWS aC (.aWS aC (.aWS .str (.aWS tI .bool))))) 2 (.Z 11))]) <|
          .aWT (.seq true) (.aWU .str .str (.Z 17) (.Z 0)) <|
          .ite (.Z 18) (
           .ret (.aWU aH .bool (aQ aH [(.nl 49 aM),(.nl 57 aB),(.nl 62 aE),(.nl 62 aE)]) (.cb false))) (
           .ret (.aWU aH .bool (aQ aH [(aO (.aWS tI (.aWS aS (.aWS .str (.aWS tI .bool)))) 1 (.Z 2)),(aO (.aWS tI (.aWS (.slice 57 aB) (.aWS .str (.aWS tI .bool)))) 1 (.Z 6)),(aO (.aWS tI (.aWS aC (.aWS aC (.aWS .str (.aWS tI .bool))))) 1 (.Z 11)),(aO (.aWS tI (.aWS aC (.aWS aC (.aWS .str (.aWS tI .bool))))) 2 (.Z 11))]) (.cb true))))))) (
       .ite (aG (.aWS tI (.aWS aC (.aWS aC (.aWS .str (.aWS tI .bool))))) 5 (.Z 11)) (
        .ret (.aWU aH .bool (aQ aH [(.nl 49 aM),(.nl 57 aB),(.nl 62 aE),(.nl 62 aE)]) (.cb false))) (
        .aWT (.seq false) (.aWU .str .str (.Z 0) (.cs ⟨#[]⟩)) <|
        .ite (.Z 15) (
         .ret (.aWU aH .bool (aQ aH [(.nl 49 aM),(.nl 57 aB),(.nl 62 aE),(.nl 62 aE)]) (.cb false))) (
         .call 4 (aQ aH [(aO (.aWS tI (.aWS aS (.aWS .str (.aWS tI .bool)))) 1 (.Z 2)),(aO (.aWS tI (.aWS (.slice 57 aB) (.aWS .str (.aWS tI .bool)))) 1 (.Z 6)),(aO (.aWS tI (.aWS aC (.aWS aC (.aWS .str (.aWS tI .bool))))) 1 (.Z 11)),(aO (.aWS tI (.aWS aC (.aWS aC (.aWS .str (.aWS tI .bool))))) 2 (.Z 11))]) <|
         .aWT (.seq true) (.aWU .str .str (.Z 16) (.Z 0)) <|
         .ite (.Z 17) (
          .ret (.aWU aH .bool (aQ aH [(.nl 49 aM),(.nl 57 aB),(.nl 62 aE),(.nl 62 aE)]) (.cb false))) (
          .ret (.aWU aH .bool (aQ aH [(aO (.aWS tI (.aWS aS (.aWS .str (.aWS tI .bool)))) 1 (.Z 2)),(aO (.aWS tI (.aWS (.slice 57 aB) (.aWS .str (.aWS tI .bool)))) 1 (.Z 6)),(aO (.aWS tI (.aWS aC (.aWS aC (.aWS .str (.aWS tI .bool))))) 1 (.Z 11)),(aO (.aWS tI (.aWS aC (.aWS aC (.aWS .str (.aWS tI .bool))))) 2 (.Z 11))]) (.cb true)))))))) (
    .loop (.aWS tI (.aWS aC (.aWS aC (.aWS .str (.aWS tI .bool))))) (aQ (.aWS tI (.aWS aC (.aWS aC (.aWS .str (.aWS tI .bool))))) [(.ci .i64 1),(.nl 62 aE),(.nl 62 aE),(aG (.aWS tI (.aWS (.slice 57 aB) (.aWS .str (.aWS tI .bool)))) 2 (.Z 6))]) <|
     .aWT (.aWX 3 tI) (.aWU aA tI (.p1 aA (.aWS .str (.aWS tI .bool)) (.Z 1)) (.ci .i64 1)) <|
     .aWT (.aWX 3 tI) (.aWU aA tI (.p1 aA (.aWS .str (.aWS tI .bool)) (.Z 1)) (.ci .i64 1)) <|
     .aWT (.cmp .lss .i64) (.aWU tI tI (.p1 tI (.aWS aC (.aWS aC (.aWS .str (.aWS tI .bool)))) (.Z 10)) (.Z 12)) <|
     .ite (.Z 13) (
      .aWT .not (aG (.aWS tI (.aWS aC (.aWS aC (.aWS .str (.aWS tI .bool))))) 5 (.Z 10)) <|
      .ite (.Z 14) (
       .call 3 (aG (.aWS tI (.aWS aC (.aWS aC (.aWS .str (.aWS tI .bool))))) 3 (.Z 10)) <|
       .call 3 (aG (.aWS aE (.aWS .str (.aWS tI .bool))) 1 (.Z 15)) <|
       .aWT (.lit 62 aE 1) (.p1 aE (.aWS .str (.aWS tI .bool)) (.Z 15)) <|
       .aWT (.aWZ 62 aE 32) (.aWU aC aC (aO (.aWS tI (.aWS aC (.aWS aC (.aWS .str (.aWS tI .bool))))) 1 (.Z 10)) (.Z 17)) <|
       .aWT (.lit 62 aE 1) (.p1 aE (.aWS .str (.aWS tI .bool)) (.Z 16)) <|
       .aWT (.aWZ 62 aE 32) (.aWU aC aC (aO (.aWS tI (.aWS aC (.aWS aC (.aWS .str (.aWS tI .bool))))) 2 (.Z 10)) (.Z 19)) <|
       .aWT (.ar .add .i64) (.aWU tI tI (.p1 tI (.aWS aC (.aWS aC (.aWS .str (.aWS tI .bool)))) (.Z 10)) (.ci .i64 1)) <|
       .aWV 0 (aQ (.aWS tI (.aWS aC (.aWS aC (.aWS .str (.aWS tI .bool))))) [(.Z 21),(.Z 18),(.Z 20),(aG (.aWS aE (.aWS .str (.aWS tI .bool))) 1 (.Z 16))])) (
       .ite (aG (.aWS tI (.aWS aC (.aWS aC (.aWS .str (.aWS tI .bool))))) 5 (.Z 10)) (
        .ret (.aWU aH .bool (aQ aH [(.nl 49 aM),(.nl 57 aB),(.nl 62 aE),(.nl 62 aE)]) (.cb false))) (
        .aWT (.seq false) (.aWU .str .str (.Z 0) (.cs ⟨#[]⟩)) <|
        .ite (.Z 15) (
         .ret (.aWU aH .bool (aQ aH [(.nl 49 aM),(.nl 57 aB),(.nl 62 aE),(.nl 62 aE)]) (.cb false))) (
         .call 4 (aQ aH [(aO (.aWS tI (.aWS aS (.aWS .str (.aWS tI .bool)))) 1 (.Z 2)),(aO (.aWS tI (.aWS (.slice 57 aB) (.aWS .str (.aWS tI .bool)))) 1 (.Z 6)),(aO (.aWS tI (.aWS aC (.aWS aC (.aWS .str (.aWS tI .bool))))) 1 (.Z 10)),(aO (.aWS tI (.aWS aC (.aWS aC (.aWS .str (.aWS tI .bool))))) 2 (.Z 10))]) <|
         .aWT (.seq true) (.aWU .str .str (.Z 16) (.Z 0)) <|
         .ite (.Z 17) (
          .ret (.aWU aH .bool (aQ aH [(.nl 49 aM),(.nl 57 aB),(.nl 62 aE),(.nl 62 aE)]) (.cb false))) (
          .ret (.aWU aH .bool (aQ aH [(aO (.aWS tI (.aWS aS (.aWS .str (.aWS tI .bool)))) 1 (.Z 2)),(aO (.aWS tI (.aWS (.slice 57 aB) (.aWS .str (.aWS tI .bool)))) 1 (.Z 6)),(aO (.aWS tI (.aWS aC (.aWS aC (.aWS .str (.aWS tI .bool))))) 1 (.Z 10)),(aO (.aWS tI (.aWS aC (.aWS aC (.aWS .str (.aWS tI .bool))))) 2 (.Z 10))]) (.cb true))))))) (
      .ite (aG (.aWS tI (.aWS aC (.aWS aC (.aWS .str (.aWS tI .bool))))) 5 (.Z 10)) (
       .ret (.aWU aH .bool (aQ aH [(.nl 49 aM),(.nl 57 aB),(.nl 62 aE),(.nl 62 aE)]) (.cb false))) (
       .aWT (.seq false) (.aWU .str .str (.Z 0) (.cs ⟨#[]⟩)) <|
       .ite (.Z 14) (
        .ret (.aWU aH .bool (aQ aH [(.nl 49 aM),(.nl 57 aB),(.nl 62 aE),(.nl 62 aE)]) (.cb false))) (
        .call 4 (aQ aH [(aO (.aWS tI (.aWS aS (.aWS .str (.aWS tI .bool)))) 1 (.Z 2)),(aO (.aWS tI (.aWS (.slice 57 aB) (.aWS .str (.aWS tI .bool)))) 1 (.Z 6)),(aO (.aWS tI (.aWS aC (.aWS aC (.aWS .str (.aWS tI .bool))))) 1 (.Z 10)),(aO (.aWS tI (.aWS aC (.aWS aC (.aWS .str (.aWS tI .bool))))) 2 (.Z 10))]) <|
        .aWT (.seq true) (.aWU .str .str (.Z 15) (.Z 0)) <|
        .ite (.Z 16) (
         .ret (.aWU aH .bool (aQ aH [(.nl 49 aM),(.nl 57 aB),(.nl 62 aE),(.nl 62 aE)]) (.cb false))) (
         .ret (.aWU aH .bool (aQ aH [(aO (.aWS tI (.aWS aS (.aWS .str (.aWS tI .bool)))) 1 (.Z 2)),(aO (.aWS tI (.aWS (.slice 57 aB) (.aWS .str (.aWS tI .bool)))) 1 (.Z 6)),(aO (.aWS tI (.aWS aC (.aWS aC (.aWS .str (.aWS tI .bool))))) 1 (.Z 10)),(aO (.aWS tI (.aWS aC (.aWS aC (.aWS .str (.aWS tI .bool))))) 2 (.Z 10))]) (.cb true))))))))
set_option maxRecDepth 100000 in
theorem aHT:cW Tryz.prog [cN,bS,gI,gS,lB] lE false 3000 ⟨[(2987,1002,fG 19 14++[.tm 7 0,.sl 13,.bx 6 0,.bx 6 1,.bx 6 2]),(2977,5007,fG 31 20++[.dr 7,.tm 10 0,.sl 14,.bx 6 0,.bx 6 1,.bx 6 2]),(2967,21012,fG 57 46++[.dr 10,.tm 11 0,.sl 15,.sl 16,.bx 6 0,.bx 6 1,.bx 6 2]),(2967,9011,fG 57 46++[.dr 10,.tm 11 0,.sl 15,.sl 16,.bx 6 0,.bx 6 1,.bx 6 2]),(2977,2006,fG 31 20++[.dr 7,.tm 10 0,.sl 14,.bx 6 0,.bx 6 1,.bx 6 2]),(2967,10011,fG 57 46++[.dr 10,.tm 11 0,.sl 15,.sl 16,.bx 6 0,.bx 6 1,.bx 6 2]),(2967,4010,fG 57 46++[.dr 10,.tm 11 0,.sl 15,.sl 16,.bx 6 0,.bx 6 1,.bx 6 2])],[(2975,7009,[],[17,18])]⟩ = .ok rW:=by kernel_rfl
set_option maxHeartbeats 8000000 in
theorem aI1 (x:ByteArray) (hx:okD .str x) (hp:(fun x=>x.size≤100000000) x):rW.wp [cN,bS,gI,gS,lB] [⟨.str,x⟩] [] (fun v=>v.as (.aWS aH .bool)=(fun x=>xG x) x):=by
 have hz:x.size≤100000000:=hp
 have hp0:=aW7 x
 delta rW cN bS gI gS lB;refine jN ?_
 have e0:((x,((0:Int),false)):fA)=lW x 0:=rfl
 rw[e0]
 have h8:=lU (r:=lW x 0) (show 0≤(2:Int) by decide)
 have hP:=jF 2 hp0
 have n0:=rA (r:=lW x 0) (n:=2) (i:=0)
 have n1:=rA (r:=lW x 0) (n:=2) (i:=1)
 have hv0:xN (lW x 0)=P1 (bP (lW x 0) 2).1 [] (dG tE ((bP (lW x 0) 2).1.getD 0 0).toNat (bP (lW x 0) 2).2):=rfl
 have hx0:(lW x 0).1=x:=rfl
 obtain ⟨W,hW⟩:∃ W,W=xN (lW x 0):=⟨_,rfl⟩
 have hI:=aUE hW.symm
 rw[← hW] at hv0
 clear hW
 simp only[dzx,Int.reduceToNat]
 generalize lW x 0=ra at *
 generalize (bP ra 2).1=H at *
 generalize (bP ra 2).2=r0 at *
 (repeat' first|intro _|(with_reducible apply And.intro))
 all_goals first|omega|exact hp0|skip
 have z0:H.getD 0 (aV tI)=H.getD 0 0:=rfl
 have z1:H.getD 1 (aV tI)=H.getD 1 0:=rfl
 rw[z0,z1]
 refine ⟨fun t=>∃ k:Nat,t.1=(k:Int)∧(t.2.1:List lA).length=k∧(k:Int)≤max 0 (H.getD 0 0)∧lM t.2.2∧t.2.2.1=x∧W=P1 H t.2.1 (dG tE ((H.getD 0 0).toNat - k) t.2.2),fun t=>(H.getD 0 0 - (t.1:Int)).toNat,⟨0,rfl,rfl,by omega,hP.1,hP.2.trans hx0,hv0⟩,fun t _ hJ=>?_⟩
 obtain ⟨i,a1,r1⟩:Int × (List lA × fA):=t
 obtain ⟨k1,rfl,hl,hk,hPr1,hx1,hvr1⟩:=hJ
 dsimp only at hl hk hPr1 hx1 hvr1 ⊢
 refine ⟨by omega,fun _=>⟨by omega,fun _=>⟨fun hlt=>⟨fun hb=>?_,fun hb=>?_⟩,fun hge=>?_⟩⟩⟩
 ·obtain ⟨m,hm⟩:∃ m,(H.getD 0 0).toNat - k1=m+1:=⟨(H.getD 0 0).toNat - k1 - 1,by omega⟩
  rw[hm,iT tE m hb] at hvr1
  have hp1:=jJ hPr1
  have hpp:=aUG hPr1
  (repeat' first|intro _|(with_reducible apply And.intro))
  all_goals first|omega|exact hPr1|exact hp1.1|(unfold maxLen;omega)|skip
  refine ⟨k1+1,rfl,by (first|omega|(simp only[List.length_append,List.length_cons,List.length_nil];omega)),by omega,hpp.1,hpp.2.trans hx1,?_⟩
  rw[show (H.getD 0 0).toNat - (k1+1)=m by omega,hvr1]
  show P1 H a1 ((tE r1).1 :: _,_)=P1 H (a1++[(tE r1).1]) _
  unfold P1;simp only[List.append_assoc,List.singleton_append];rfl
 all_goals
  have hwr1:W=P2 H a1 [] (dG eH (H.getD 1 0).toNat r1):=by
   first|rw[iJ tE _ hb] at hvr1|rw[show (H.getD 0 0).toNat - k1=0 by omega] at hvr1
   rw[hvr1];unfold P1;simp only[List.append_nil,dG]
  clear hvr1
  refine ⟨fun t=>∃ k:Nat,t.1=(k:Int)∧(t.2.1:List bA).length=k∧((k:Int)≤max 0 (H.getD 1 0)∧8 * k≤x.size+8∧(t.2.2.2.2=false→8 * (k:Int)≤t.2.2.2.1))∧lM t.2.2∧t.2.2.1=x∧W=P2 H a1 t.2.1 (dG eH ((H.getD 1 0).toNat - k) t.2.2),fun t=>(H.getD 1 0 - (t.1:Int)).toNat,
   ⟨0,rfl,rfl,⟨by omega,by omega,fun _=>hPr1.1⟩,hPr1,hx1,hwr1⟩,fun t _ hJ=>?_⟩
  obtain ⟨i,a2,r2⟩:Int × (List bA × fA):=t
  obtain ⟨k2,rfl,hl2,⟨hk2,hs2,hs3⟩,hPr2,hx2,hvr2⟩:=hJ
  dsimp only at hl2 hk2 hs2 hs3 hPr2 hx2 hvr2 ⊢
  refine ⟨by omega,fun _=>⟨by omega,fun _=>⟨fun hlt=>⟨fun hb=>?_,fun hb=>?_⟩,fun hge=>?_⟩⟩⟩
  ·obtain ⟨m,hm⟩:∃ m,(H.getD 1 0).toNat - k2=m+1:=⟨(H.getD 1 0).toNat - k2 - 1,by omega⟩
   rw[hm,iT eH m hb] at hvr2
   have hpp:=aRI hPr2
   have h8r:=fun h=>aQ9 hPr2 hb h
   have q1:=hs3 hb
   have q2:r2.2.1≤(r2.1.size:Int):=hPr2.2
   rw[hx2] at q2
   (repeat' first|intro _|(with_reducible apply And.intro))
   all_goals first|omega|exact hPr2|(unfold maxLen;omega)|skip
   refine ⟨k2+1,rfl,by (first|omega|(simp only[List.length_append,List.length_cons,List.length_nil];omega)),⟨by omega,by omega,fun h=>by have h4:=h8r h;exact Int.le_trans (by omega) h4⟩,hpp.1,hpp.2.trans hx2,?_⟩
   rw[show (H.getD 1 0).toNat - (k2+1)=m by omega,hvr2]
   show P2 H a1 a2 ((eH r2).1 :: _,_)=P2 H a1 (a2++[(eH r2).1]) _
   unfold P2;simp only[List.append_assoc,List.singleton_append]
  all_goals
   have hwr2:W=P3 a1 a2 [] [] (dG qqF (H.getD 1 0 - 1).toNat r2):=by
    first|rw[iJ eH _ hb] at hvr2|rw[show (H.getD 1 0).toNat - k2=0 by omega] at hvr2
    rw[hvr2];unfold P2;simp only[List.append_nil,dG]
   clear hvr2
   refine ⟨fun t=>∃ k:Nat,t.1=(k:Int)+1∧(t.2.1:List bK).length=k∧(t.2.2.1:List bK).length=k∧(k:Int)≤max 0 (H.getD 1 0 - 1)∧lM t.2.2.2∧t.2.2.2.1=x∧W=P3 a1 a2 t.2.1 t.2.2.1 (dG qqF ((H.getD 1 0 - 1).toNat - k) t.2.2.2),fun t=>(H.getD 1 0 - (t.1:Int)).toNat,
    ⟨0,rfl,rfl,rfl,by omega,hPr2,hx2,hwr2⟩,fun t _ hJ=>?_⟩
   obtain ⟨i,c1,c2,r3⟩:Int × (List bK × (List bK × fA)):=t
   obtain ⟨k3,rfl,hl3,hl4,hk3,hPr3,hx3,hvr3⟩:=hJ
   dsimp only at hl3 hl4 hk3 hPr3 hx3 hvr3 ⊢
   refine ⟨by omega,fun _=>⟨by omega,fun _=>⟨fun hlt=>⟨fun hb=>?_,fun hb=>?_⟩,fun hge=>?_⟩⟩⟩
   ·obtain ⟨m,hm⟩:∃ m,(H.getD 1 0 - 1).toNat - k3=m+1:=⟨(H.getD 1 0 - 1).toNat - k3 - 1,by omega⟩
    rw[hm,iT qqF m hb] at hvr3
    have hp1:=aDD hPr3
    have hpp:=aWJ hPr3
    (repeat' first|intro _|(with_reducible apply And.intro))
    all_goals first|omega|exact hPr3|exact hp1.1|(unfold maxLen;omega)|skip
    refine ⟨k3+1,rfl,by (first|omega|(simp only[List.length_append,List.length_cons,List.length_nil];omega)),by (first|omega|(simp only[List.length_append,List.length_cons,List.length_nil];omega)),by omega,hpp.1,hpp.2.trans hx3,?_⟩
    rw[show (H.getD 1 0 - 1).toNat - (k3+1)=m by omega,hvr3]
    show P3 a1 a2 c1 c2 ((qqF r3).1 :: _,_)=P3 a1 a2 (c1++[(qqF r3).1.1]) (c2++[(qqF r3).1.2]) _
    unfold P3;simp only[List.append_assoc,List.singleton_append,List.map_cons];rfl
   all_goals
    have hwr3:W=((a1,a2,c1,c2),r3):=by
     first|rw[iJ qqF _ hb] at hvr3|rw[show (H.getD 1 0 - 1).toNat - k3=0 by omega] at hvr3
     rw[hvr3];unfold P3;simp only[List.append_nil,dG,List.map_nil]
    clear hvr3
    rw[hwr3] at hI
    rw[hI]
    refine ⟨fun h=>?_,fun h=>⟨fun h2=>?_,fun h2 _=>⟨fun h3=>?_,fun h3=>?_⟩⟩⟩
    ·rw[if_pos (.inl h)];rfl
    ·rw[if_pos (.inr (.inl (by first|exact h2|exact Classical.not_not.1 h2)))];rfl
    ·rw[if_pos (.inr (.inr (by first|exact h3|exact Classical.not_not.1 h3)))];rfl
    ·rw[if_neg (fun hh=>hh.elim (fun a=>Bool.noConfusion (a.symm.trans h)) (fun hh=>hh.elim h2 (fun a=>a (by first|exact h3|exact Classical.not_not.1 h3))))]
set_option maxHeartbeats 8000000 in
theorem aGC:Con.Holds Tryz.prog lE:=aX bI (aR nK (aR iY (aR aA3 (aR aAM (aR aI8 aY))))) aHT aI1
end Go.Proofs.YtlabadaccldkaaaGreat
