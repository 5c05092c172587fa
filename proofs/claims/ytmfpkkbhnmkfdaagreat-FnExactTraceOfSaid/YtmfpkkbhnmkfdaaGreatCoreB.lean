/- CoreB: trees, and what they say. -/
import Derived.Test.YtmfpkkbhnmkfdaaGreatCore7
namespace Go.Proofs.YtmfpkkbhnmkfdaaGreat
open Go.ChangeShapes Go.WideShapes Go.ChangeAt Go.RowKit Go.Deep
set_option linter.unusedVariables false
set_option linter.unusedSimpArgs false
theorem eW {s:bA} {m:Int} {t:List Int} (h:fV s = false∨dR s.2.2.2.2.2.1 m < 0∨aGI s.2.2.1 (lP s m) = false∨eX (gC s m t).1 (iZ s.2.2.1) = false):s = sD s m t:=by
 unfold sD;rw [if_neg]
 unfold aUL
 simp only [Bool.and_eq_true,decide_eq_true_eq]
 rintro ⟨h1,h2,h3,h4⟩
 rcases h with h | h | h | h
 ·rw [h] at h1;cases h1
 ·omega
 ·rw [h] at h3;cases h3
 ·rw [h] at h4;cases h4
theorem rG {s:bA} {m:Int} {t:List Int} (h1:fV s = true) (h2:0≤dR s.2.2.2.2.2.1 m) (h3:aGI s.2.2.1 (lP s m) = true) (h4:eX (gC s m t).1 (iZ s.2.2.1) = true):bCA s m t = sD s m t:=by
 unfold sD;rw [if_pos]
 unfold aUL
 simp only [Bool.and_eq_true,decide_eq_true_eq]
 exact ⟨h1,h2,h3,h4⟩
theorem aZH {s:bA} {m:Int} (h:s.2.2.2.2.1 = true):lP s m = s.2.2.2.2.2.2.1:=if_pos h
theorem bA9 {s:bA} {m:Int} (h:s.2.2.2.2.1 = false):lP s m = (s.2.2.2.2.2.1.getD (dR s.2.2.2.2.2.1 m).toNat (aS aC)).2:=if_neg (by rw [h];simp)
theorem aLM {s:bA} {m:Int} {t:List Int} (h:s.2.2.2.1 = true):gC s m t = jO eI (List.getD (lP s m) s.2.2.1.length (aS aB)) t:=if_pos h
theorem aJZ {s:bA} {m:Int} {t:List Int} (h:s.2.2.2.1 = false):s.2.2.2.2.2.2.2.2.2.1 = (gC s m t).1:=by unfold gC;rw [if_neg (by rw [h];simp)]
theorem aK7 {s:bA} {m:Int} {t:List Int} (h:s.2.2.2.1 = false):(gC s m t).2 = false:=by unfold gC;rw [if_neg (by rw [h];simp)]
theorem xS {m:List iC} {r:dD} (h:¬ r.length = m.length + 1∨nZ m r m.length = false):aGI m r = false:=by
 unfold aGI
 rcases h with h | h
 ·rw [decide_eq_false h];rfl
 ·rw [h,Bool.and_false]
theorem xY {m:List iC} {r:dD} (h:r.length = m.length + 1) (h2:nZ m r m.length = true):aGI m r = true:=by
 unfold aGI;rw [decide_eq_true h,h2];rfl
theorem rK {s:bA} {r:dD} {d:List Int} (l:Int) (b:Bool) (h:fV s = true):iJ ((oG s.2.2.1 r d).1,l,b):=by
 have hm:=((cK _).1 ((eF s).1 h).1).2.1
 refine ⟨?_,fun y hy=>Nat.le_trans (aFJ _ _ _ _ _ y hy) (by decide)⟩
 show (eC _ _ _ _ _).1.length≤1000000000
 rw [yF];omega
theorem nP {s:bA} {m:Int} {t:List Int} {g:fH} (h:0≤dR s.2.2.2.2.2.1 m) (e:g = gK s.2.2.2.2.2.2.2.2.2.2.2 ((oG s.2.2.1 (lP s m) (gC s m t).1).1,0,(gC s m t).2 || (oG s.2.2.1 (lP s m) (gC s m t).1).2.2)) :
  (s.1,s.2.1,s.2.2.1,s.2.2.2.1,s.2.2.2.2.1,List.drop 0 (List.take (dR s.2.2.2.2.2.1 m).toNat s.2.2.2.2.2.1) ++ List.drop (dR s.2.2.2.2.2.1 m + 1).toNat (List.take (List.length s.2.2.2.2.2.1) s.2.2.2.2.2.1),([]:dD),s.2.2.2.2.2.2.2.1,s.2.2.2.2.2.2.2.2.1,([]:List Int),(oG s.2.2.1 (lP s m) (gC s m t).1).2.1,g) = bCA s m t:=by
 rw [List.take_length,show (dR s.2.2.2.2.2.1 m + 1).toNat = (dR s.2.2.2.2.2.1 m).toNat + 1 by omega,e];rfl
noncomputable def mE:Con:=⟨129,(.pair aA aD),aA,[.val ⟨true,aA,[]⟩,.val ⟨false,tI,[]⟩,.val ⟨false,aB,[]⟩],[⟨true,aA,[0,0,0,0,0,0,0,0,0,0,0,0,0,0]⟩],false,none,
 ((fun x=>aW aA x.1≤1000000000):(bA × cE)→Prop),
 ((fun x=>sD x.1 x.2.1 x.2.2):(bA × cE)→(bA))⟩
def vB:T :=
 .call 0 (.p1 aA aD (.vr 0)) <|
 .call 1 (.mk2 (.slice 186 aC) tI (aJ aA 5 (.p1 aA aD (.vr 0))) (aJ (.pair aA aD) 1 (.vr 0))) <|
 .call 2 (.p1 aA aD (.vr 0)) <|
 .prim .not (.vr 3) <|
 .ite (.vr 4) (
  .ret (.vr 1)) (
  .prim (.cmp .lss .i64) (.mk2 tI tI (.vr 2) (.ci .i64 0)) <|
  .ite (.vr 5) (
   .ret (.vr 1)) (
   .prim (.lidx 186 aC) (.mk2 (.slice 186 aC) tI (aJ aA 5 (.vr 1)) (.vr 2)) <|
   .prim (.lidx 186 aC) (.mk2 (.slice 186 aC) tI (aJ aA 5 (.vr 1)) (.vr 2)) <|
   .ite (aJ aA 4 (.p1 aA aD (.vr 0))) (
    .prim (.llen 219 aZ) (aJ aA 2 (.p1 aA aD (.vr 0))) <|
    .prim (.llen 188 aB) (aJ aA 6 (.vr 1)) <|
    .prim (.ar .add .i64) (.mk2 tI tI (.vr 8) (.ci .i64 1)) <|
    .prim (.cmp .neq .i64) (.mk2 tI tI (.vr 9) (.vr 10)) <|
    .ite (.vr 11) (
     .ret (.vr 1)) (
     .call 3 (bF (.pair aN (.pair aG tI)) [(aJ aA 2 (.p1 aA aD (.vr 0))),(aJ aA 6 (.vr 1)),(.vr 8)]) <|
     .prim .not (.vr 12) <|
     .ite (.vr 13) (
      .ret (.vr 1)) (
      .ite (aJ aA 3 (.p1 aA aD (.vr 0))) (
       .prim (.lidx 188 aB) (.mk2 aG tI (aJ aA 6 (.vr 1)) (.vr 8)) <|
       .prim (.lidx 188 aB) (.mk2 aG tI (aJ aA 6 (.vr 1)) (.vr 8)) <|
       .call 4 (.mk2 aB aB (.vr 15) (aQ (.pair aA aD) 2 (.vr 0))) <|
       .call 5 (.p1 aA aD (.vr 0)) <|
       .call 6 (.vr 17) <|
       .call 7 (.mk2 aB tI (.p1 aB .bool (.vr 16)) (.vr 18)) <|
       .prim .not (.vr 19) <|
       .ite (.vr 20) (
        .ret (.vr 1)) (
        .call 8 (bF (.pair aN (.pair aG aB)) [(aJ aA 2 (.p1 aA aD (.vr 0))),(aJ aA 6 (.vr 1)),(.p1 aB .bool (.vr 16))]) <|
        .ite (aQ (.pair aB .bool) 1 (.vr 16)) (
         .call 9 (bF (.pair aM aM) [(aQ aA 11 (.vr 1)),(.p1 aG (.pair aB .bool) (.vr 21)),(.ci .i64 0),(.cb true)]) <|
         .prim (.ar .add .i64) (.mk2 tI tI (.vr 2) (.ci .i64 1)) <|
         .prim (.lidx 186 aC) (.mk2 (.slice 186 aC) tI (aJ aA 5 (.vr 1)) (.vr 2)) <|
         .prim (.lidx 186 aC) (.mk2 (.slice 186 aC) tI (aJ aA 5 (.vr 1)) (.ci .i64 0)) <|
         .prim (.llen 186 aC) (aJ aA 5 (.vr 1)) <|
         .prim (.lsub 186 aC) (bF (.pair (.slice 186 aC) aO) [(aJ aA 5 (.vr 1)),(.vr 23),(.vr 26)]) <|
         .prim (.lsub 186 aC) (bF (.pair (.slice 186 aC) aO) [(aJ aA 5 (.vr 1)),(.vr 2),(.vr 23)]) <|
         .prim (.lsub 186 aC) (bF (.pair (.slice 186 aC) aO) [(aJ aA 5 (.vr 1)),(.ci .i64 0),(.vr 2)]) <|
         .prim (.llen 186 aC) (aJ aA 5 (.vr 1)) <|
         .prim (.lsub 186 aC) (bF (.pair (.slice 186 aC) aO) [(aJ aA 5 (.vr 1)),(.vr 23),(.vr 30)]) <|
         .prim (.lapp 186 aC 32) (.mk2 (.slice 186 aC) (.slice 186 aC) (.vr 29) (.vr 31)) <|
         .ret (bF aA [(.p1 tI cT (.vr 1)),(aJ aA 1 (.vr 1)),(aJ aA 2 (.vr 1)),(aJ aA 3 (.vr 1)),(aJ aA 4 (.vr 1)),(.vr 32),(.nl 188 aB),(aJ aA 7 (.vr 1)),(aJ aA 8 (.vr 1)),(.nl 3 tI),(aJ (.pair aG (.pair aB .bool)) 1 (.vr 21)),(.vr 22)])) (
         .call 9 (bF (.pair aM aM) [(aQ aA 11 (.vr 1)),(.p1 aG (.pair aB .bool) (.vr 21)),(.ci .i64 0),(aQ (.pair aG (.pair aB .bool)) 2 (.vr 21))]) <|
         .prim (.ar .add .i64) (.mk2 tI tI (.vr 2) (.ci .i64 1)) <|
         .prim (.lidx 186 aC) (.mk2 (.slice 186 aC) tI (aJ aA 5 (.vr 1)) (.vr 2)) <|
         .prim (.lidx 186 aC) (.mk2 (.slice 186 aC) tI (aJ aA 5 (.vr 1)) (.ci .i64 0)) <|
         .prim (.llen 186 aC) (aJ aA 5 (.vr 1)) <|
         .prim (.lsub 186 aC) (bF (.pair (.slice 186 aC) aO) [(aJ aA 5 (.vr 1)),(.vr 23),(.vr 26)]) <|
         .prim (.lsub 186 aC) (bF (.pair (.slice 186 aC) aO) [(aJ aA 5 (.vr 1)),(.vr 2),(.vr 23)]) <|
         .prim (.lsub 186 aC) (bF (.pair (.slice 186 aC) aO) [(aJ aA 5 (.vr 1)),(.ci .i64 0),(.vr 2)]) <|
         .prim (.llen 186 aC) (aJ aA 5 (.vr 1)) <|
         .prim (.lsub 186 aC) (bF (.pair (.slice 186 aC) aO) [(aJ aA 5 (.vr 1)),(.vr 23),(.vr 30)]) <|
         .prim (.lapp 186 aC 32) (.mk2 (.slice 186 aC) (.slice 186 aC) (.vr 29) (.vr 31)) <|
         .ret (bF aA [(.p1 tI cT (.vr 1)),(aJ aA 1 (.vr 1)),(aJ aA 2 (.vr 1)),(aJ aA 3 (.vr 1)),(aJ aA 4 (.vr 1)),(.vr 32),(.nl 188 aB),(aJ aA 7 (.vr 1)),(aJ aA 8 (.vr 1)),(.nl 3 tI),(aJ (.pair aG (.pair aB .bool)) 1 (.vr 21)),(.vr 22)])))) (
       .call 5 (.p1 aA aD (.vr 0)) <|
       .call 6 (.vr 14) <|
       .call 7 (.mk2 aB tI (aJ aA 9 (.vr 1)) (.vr 15)) <|
       .prim .not (.vr 16) <|
       .ite (.vr 17) (
        .ret (.vr 1)) (
        .call 8 (bF (.pair aN (.pair aG aB)) [(aJ aA 2 (.p1 aA aD (.vr 0))),(aJ aA 6 (.vr 1)),(aJ aA 9 (.vr 1))]) <|
        .call 9 (bF (.pair aM aM) [(aQ aA 11 (.vr 1)),(.p1 aG (.pair aB .bool) (.vr 18)),(.ci .i64 0),(aQ (.pair aG (.pair aB .bool)) 2 (.vr 18))]) <|
        .prim (.ar .add .i64) (.mk2 tI tI (.vr 2) (.ci .i64 1)) <|
        .prim (.lidx 186 aC) (.mk2 (.slice 186 aC) tI (aJ aA 5 (.vr 1)) (.vr 2)) <|
        .prim (.lidx 186 aC) (.mk2 (.slice 186 aC) tI (aJ aA 5 (.vr 1)) (.ci .i64 0)) <|
        .prim (.llen 186 aC) (aJ aA 5 (.vr 1)) <|
        .prim (.lsub 186 aC) (bF (.pair (.slice 186 aC) aO) [(aJ aA 5 (.vr 1)),(.vr 20),(.vr 23)]) <|
        .prim (.lsub 186 aC) (bF (.pair (.slice 186 aC) aO) [(aJ aA 5 (.vr 1)),(.vr 2),(.vr 20)]) <|
        .prim (.lsub 186 aC) (bF (.pair (.slice 186 aC) aO) [(aJ aA 5 (.vr 1)),(.ci .i64 0),(.vr 2)]) <|
        .prim (.llen 186 aC) (aJ aA 5 (.vr 1)) <|
        .prim (.lsub 186 aC) (bF (.pair (.slice 186 aC) aO) [(aJ aA 5 (.vr 1)),(.vr 20),(.vr 27)]) <|
        .prim (.lapp 186 aC 32) (.mk2 (.slice 186 aC) (.slice 186 aC) (.vr 26) (.vr 28)) <|
        .ret (bF aA [(.p1 tI cT (.vr 1)),(aJ aA 1 (.vr 1)),(aJ aA 2 (.vr 1)),(aJ aA 3 (.vr 1)),(aJ aA 4 (.vr 1)),(.vr 29),(.nl 188 aB),(aJ aA 7 (.vr 1)),(aJ aA 8 (.vr 1)),(.nl 3 tI),(aJ (.pair aG (.pair aB .bool)) 1 (.vr 18)),(.vr 19)])))))) (
    .prim (.llen 219 aZ) (aJ aA 2 (.p1 aA aD (.vr 0))) <|
    .prim (.llen 188 aB) (aQ aC 1 (.vr 7)) <|
    .prim (.ar .add .i64) (.mk2 tI tI (.vr 8) (.ci .i64 1)) <|
    .prim (.cmp .neq .i64) (.mk2 tI tI (.vr 9) (.vr 10)) <|
    .ite (.vr 11) (
     .ret (.vr 1)) (
     .call 3 (bF (.pair aN (.pair aG tI)) [(aJ aA 2 (.p1 aA aD (.vr 0))),(aQ aC 1 (.vr 7)),(.vr 8)]) <|
     .prim .not (.vr 12) <|
     .ite (.vr 13) (
      .ret (.vr 1)) (
      .ite (aJ aA 3 (.p1 aA aD (.vr 0))) (
       .prim (.lidx 188 aB) (.mk2 aG tI (aQ aC 1 (.vr 7)) (.vr 8)) <|
       .call 4 (.mk2 aB aB (.vr 14) (aQ (.pair aA aD) 2 (.vr 0))) <|
       .call 5 (.p1 aA aD (.vr 0)) <|
       .call 6 (.vr 16) <|
       .call 7 (.mk2 aB tI (.p1 aB .bool (.vr 15)) (.vr 17)) <|
       .prim .not (.vr 18) <|
       .ite (.vr 19) (
        .ret (.vr 1)) (
        .call 8 (bF (.pair aN (.pair aG aB)) [(aJ aA 2 (.p1 aA aD (.vr 0))),(aQ aC 1 (.vr 7)),(.p1 aB .bool (.vr 15))]) <|
        .ite (aQ (.pair aB .bool) 1 (.vr 15)) (
         .call 9 (bF (.pair aM aM) [(aQ aA 11 (.vr 1)),(.p1 aG (.pair aB .bool) (.vr 20)),(.ci .i64 0),(.cb true)]) <|
         .prim (.ar .add .i64) (.mk2 tI tI (.vr 2) (.ci .i64 1)) <|
         .prim (.lidx 186 aC) (.mk2 (.slice 186 aC) tI (aJ aA 5 (.vr 1)) (.vr 2)) <|
         .prim (.lidx 186 aC) (.mk2 (.slice 186 aC) tI (aJ aA 5 (.vr 1)) (.ci .i64 0)) <|
         .prim (.llen 186 aC) (aJ aA 5 (.vr 1)) <|
         .prim (.lsub 186 aC) (bF (.pair (.slice 186 aC) aO) [(aJ aA 5 (.vr 1)),(.vr 22),(.vr 25)]) <|
         .prim (.lsub 186 aC) (bF (.pair (.slice 186 aC) aO) [(aJ aA 5 (.vr 1)),(.vr 2),(.vr 22)]) <|
         .prim (.lsub 186 aC) (bF (.pair (.slice 186 aC) aO) [(aJ aA 5 (.vr 1)),(.ci .i64 0),(.vr 2)]) <|
         .prim (.llen 186 aC) (aJ aA 5 (.vr 1)) <|
         .prim (.lsub 186 aC) (bF (.pair (.slice 186 aC) aO) [(aJ aA 5 (.vr 1)),(.vr 22),(.vr 29)]) <|
         .prim (.lapp 186 aC 32) (.mk2 (.slice 186 aC) (.slice 186 aC) (.vr 28) (.vr 30)) <|
         .ret (bF aA [(.p1 tI cT (.vr 1)),(aJ aA 1 (.vr 1)),(aJ aA 2 (.vr 1)),(aJ aA 3 (.vr 1)),(aJ aA 4 (.vr 1)),(.vr 31),(.nl 188 aB),(aJ aA 7 (.vr 1)),(aJ aA 8 (.vr 1)),(.nl 3 tI),(aJ (.pair aG (.pair aB .bool)) 1 (.vr 20)),(.vr 21)])) (
         .call 9 (bF (.pair aM aM) [(aQ aA 11 (.vr 1)),(.p1 aG (.pair aB .bool) (.vr 20)),(.ci .i64 0),(aQ (.pair aG (.pair aB .bool)) 2 (.vr 20))]) <|
         .prim (.ar .add .i64) (.mk2 tI tI (.vr 2) (.ci .i64 1)) <|
         .prim (.lidx 186 aC) (.mk2 (.slice 186 aC) tI (aJ aA 5 (.vr 1)) (.vr 2)) <|
         .prim (.lidx 186 aC) (.mk2 (.slice 186 aC) tI (aJ aA 5 (.vr 1)) (.ci .i64 0)) <|
         .prim (.llen 186 aC) (aJ aA 5 (.vr 1)) <|
         .prim (.lsub 186 aC) (bF (.pair (.slice 186 aC) aO) [(aJ aA 5 (.vr 1)),(.vr 22),(.vr 25)]) <|
         .prim (.lsub 186 aC) (bF (.pair (.slice 186 aC) aO) [(aJ aA 5 (.vr 1)),(.vr 2),(.vr 22)]) <|
         .prim (.lsub 186 aC) (bF (.pair (.slice 186 aC) aO) [(aJ aA 5 (.vr 1)),(.ci .i64 0),(.vr 2)]) <|
         .prim (.llen 186 aC) (aJ aA 5 (.vr 1)) <|
         .prim (.lsub 186 aC) (bF (.pair (.slice 186 aC) aO) [(aJ aA 5 (.vr 1)),(.vr 22),(.vr 29)]) <|
         .prim (.lapp 186 aC 32) (.mk2 (.slice 186 aC) (.slice 186 aC) (.vr 28) (.vr 30)) <|
         .ret (bF aA [(.p1 tI cT (.vr 1)),(aJ aA 1 (.vr 1)),(aJ aA 2 (.vr 1)),(aJ aA 3 (.vr 1)),(aJ aA 4 (.vr 1)),(.vr 31),(.nl 188 aB),(aJ aA 7 (.vr 1)),(aJ aA 8 (.vr 1)),(.nl 3 tI),(aJ (.pair aG (.pair aB .bool)) 1 (.vr 20)),(.vr 21)])))) (
       .call 5 (.p1 aA aD (.vr 0)) <|
       .call 6 (.vr 14) <|
       .call 7 (.mk2 aB tI (aJ aA 9 (.vr 1)) (.vr 15)) <|
       .prim .not (.vr 16) <|
       .ite (.vr 17) (
        .ret (.vr 1)) (
        .call 8 (bF (.pair aN (.pair aG aB)) [(aJ aA 2 (.p1 aA aD (.vr 0))),(aQ aC 1 (.vr 7)),(aJ aA 9 (.vr 1))]) <|
        .call 9 (bF (.pair aM aM) [(aQ aA 11 (.vr 1)),(.p1 aG (.pair aB .bool) (.vr 18)),(.ci .i64 0),(aQ (.pair aG (.pair aB .bool)) 2 (.vr 18))]) <|
        .prim (.ar .add .i64) (.mk2 tI tI (.vr 2) (.ci .i64 1)) <|
        .prim (.lidx 186 aC) (.mk2 (.slice 186 aC) tI (aJ aA 5 (.vr 1)) (.vr 2)) <|
        .prim (.lidx 186 aC) (.mk2 (.slice 186 aC) tI (aJ aA 5 (.vr 1)) (.ci .i64 0)) <|
        .prim (.llen 186 aC) (aJ aA 5 (.vr 1)) <|
        .prim (.lsub 186 aC) (bF (.pair (.slice 186 aC) aO) [(aJ aA 5 (.vr 1)),(.vr 20),(.vr 23)]) <|
        .prim (.lsub 186 aC) (bF (.pair (.slice 186 aC) aO) [(aJ aA 5 (.vr 1)),(.vr 2),(.vr 20)]) <|
        .prim (.lsub 186 aC) (bF (.pair (.slice 186 aC) aO) [(aJ aA 5 (.vr 1)),(.ci .i64 0),(.vr 2)]) <|
        .prim (.llen 186 aC) (aJ aA 5 (.vr 1)) <|
        .prim (.lsub 186 aC) (bF (.pair (.slice 186 aC) aO) [(aJ aA 5 (.vr 1)),(.vr 20),(.vr 27)]) <|
        .prim (.lapp 186 aC 32) (.mk2 (.slice 186 aC) (.slice 186 aC) (.vr 26) (.vr 28)) <|
        .ret (bF aA [(.p1 tI cT (.vr 1)),(aJ aA 1 (.vr 1)),(aJ aA 2 (.vr 1)),(aJ aA 3 (.vr 1)),(aJ aA 4 (.vr 1)),(.vr 29),(.nl 188 aB),(aJ aA 7 (.vr 1)),(aJ aA 8 (.vr 1)),(.nl 3 tI),(aJ (.pair aG (.pair aB .bool)) 1 (.vr 18)),(.vr 19)]))))))))
set_option maxRecDepth 100000 in
theorem aLJ:bS Tryz.prog [cW,dZ,dX,jP,kG,dU,iG,bV,qE,lT] mE false 3000 ⟨[],[(2961,164021,[],[15,31]),(2951,420023,[103,108],[]),(2951,292023,[103,108],[]),(2961,132018,[],[15,18]),(2951,132020,[103,108],[]),(2961,160020,[],[31]),(2951,416022,[103,108],[]),(2951,288022,[103,108],[]),(2961,128018,[],[18]),(2951,128020,[103,108],[])]⟩ = .ok vB:=by kernel_rfl
set_option maxHeartbeats 1000000 in
theorem aKR (x:bA × cE) (hx:okD (.pair aA aD) x) (hp:(fun x=>aW aA x.1≤1000000000) x):vB.wp [cW,dZ,dX,jP,kG,dU,iG,bV,qE,lT] [⟨(.pair aA aD),x⟩] [] (fun v=>v.as aA = (fun x=>sD x.1 x.2.1 x.2.2) x):=by
 obtain ⟨s,m,t⟩:=x
 delta vB cW dZ dX jP kG dU iG bV qE lT;refine eS ?_;try with_reducible exact True.intro
 (refine gR ?_;try with_reducible exact True.intro)
 refine ⟨hp,fun _ _=>⟨fun h=>eW (.inl h),fun h1=>⟨fun h=>eW (.inr (.inl h)),fun h2=>?_⟩⟩⟩
 have hf2:dR s.2.2.2.2.2.1 m < (s.2.2.2.2.2.1.length:Int):=(vU s.2.2.2.2.2.1 m s.2.2.2.2.2.1.length).2
 have hm:=(eF s).1 h1
 have hn8:=(cK _).1 hm.1
 have hst:=(lN (t:=aA) hp).2.2.2.2.2.1.1
 replace hst:List.length s.2.2.2.2.2.1≤1000000000:=hst
 have hgs:iJ s.2.2.2.2.2.2.2.2.2.2.2:=aN8 (lN (t:=aA) hp).2.2.2.2.2.2.2.2.2.2.2
 refine ⟨by omega,fun _=>⟨by omega,fun _=>⟨fun hre=>?_,fun hre=>?_⟩⟩⟩
 ·rw [show s.2.2.2.2.2.2.1 = lP s m from (aZH hre).symm]
  refine fun _ _=>⟨by omega,fun _=>⟨fun h=>eW (.inr (.inr (.inl (xS (.inl (by omega)))))),fun hlen=>⟨⟨hm.1,by omega⟩,fun h=>eW (.inr (.inr (.inl (xS (.inr h))))),fun hrow=>⟨fun hla=>?_,fun hla=>?_⟩⟩⟩⟩
  ·rw [show jO eI (List.getD (lP s m) s.2.2.1.length (aS aB)) t = gC s m t from (aLM hla).symm]
   (repeat' first | intro _ | (with_reducible apply And.intro))
   all_goals first | omega | (unfold maxLen;omega) | exact eW (.inr (.inr (.inr (by assumption)))) | exact ⟨by omega,by omega⟩ | exact hgs | exact rK _ _ h1 | (simp only [List.length_append,List.length_drop,List.length_take];omega) | (simp only [List.length_append,List.length_drop,List.length_take];unfold maxLen;omega) | skip
   all_goals refine (nP (by omega) ?_).trans (rG h1 h2 (xY (by omega) hrow) (by assumption))
   all_goals first | rfl | (rw [gP (by assumption)];done) | (rw [show (gC s m t).2 = true by assumption,Bool.true_or];done) | (rw [show (gC s m t).2 = false by assumption,Bool.false_or];done) | skip
  ·have hgg:s.2.2.2.2.2.2.2.2.2.1 = (gC s m t).1:=aJZ hla
   have hg0:(gC s m t).2 = false:=aK7 hla
   rw [hgg]
   (repeat' first | intro _ | (with_reducible apply And.intro))
   all_goals first | omega | (unfold maxLen;omega) | exact eW (.inr (.inr (.inr (by assumption)))) | exact ⟨by omega,by omega⟩ | exact hgs | exact rK _ _ h1 | (simp only [List.length_append,List.length_drop,List.length_take];omega) | (simp only [List.length_append,List.length_drop,List.length_take];unfold maxLen;omega) | skip
   all_goals refine (nP (by omega) ?_).trans (rG h1 h2 (xY (by omega) hrow) (by assumption))
   all_goals first | rfl | (rw [gP (by assumption)];done) | (rw [show (gC s m t).2 = true by assumption,Bool.true_or];done) | (rw [show (gC s m t).2 = false by assumption,Bool.false_or];done) | skip
 ·rw [show (List.getD s.2.2.2.2.2.1 (dR s.2.2.2.2.2.1 m).toNat (aS aC)).2 = lP s m from (bA9 hre).symm]
  refine fun _ _=>⟨by omega,fun _=>⟨fun h=>eW (.inr (.inr (.inl (xS (.inl (by omega)))))),fun hlen=>⟨⟨hm.1,by omega⟩,fun h=>eW (.inr (.inr (.inl (xS (.inr h))))),fun hrow=>⟨fun hla=>?_,fun hla=>?_⟩⟩⟩⟩
  ·rw [show jO eI (List.getD (lP s m) s.2.2.1.length (aS aB)) t = gC s m t from (aLM hla).symm]
   (repeat' first | intro _ | (with_reducible apply And.intro))
   all_goals first | omega | (unfold maxLen;omega) | exact eW (.inr (.inr (.inr (by assumption)))) | exact ⟨by omega,by omega⟩ | exact hgs | exact rK _ _ h1 | (simp only [List.length_append,List.length_drop,List.length_take];omega) | (simp only [List.length_append,List.length_drop,List.length_take];unfold maxLen;omega) | skip
   all_goals refine (nP (by omega) ?_).trans (rG h1 h2 (xY (by omega) hrow) (by assumption))
   all_goals first | rfl | (rw [gP (by assumption)];done) | (rw [show (gC s m t).2 = true by assumption,Bool.true_or];done) | (rw [show (gC s m t).2 = false by assumption,Bool.false_or];done) | skip
  ·have hgg:s.2.2.2.2.2.2.2.2.2.1 = (gC s m t).1:=aJZ hla
   have hg0:(gC s m t).2 = false:=aK7 hla
   rw [hgg]
   (repeat' first | intro _ | (with_reducible apply And.intro))
   all_goals first | omega | (unfold maxLen;omega) | exact eW (.inr (.inr (.inr (by assumption)))) | exact ⟨by omega,by omega⟩ | exact hgs | exact rK _ _ h1 | (simp only [List.length_append,List.length_drop,List.length_take];omega) | (simp only [List.length_append,List.length_drop,List.length_take];unfold maxLen;omega) | skip
   all_goals refine (nP (by omega) ?_).trans (rG h1 h2 (xY (by omega) hrow) (by assumption))
   all_goals first | rfl | (rw [gP (by assumption)];done) | (rw [show (gC s m t).2 = true by assumption,Bool.true_or];done) | (rw [show (gC s m t).2 = false by assumption,Bool.false_or];done) | skip
set_option maxHeartbeats 1000000 in
theorem aKP:Con.Holds Tryz.prog mE:=aT aY (aK nB (aK sE (aK rI (aK aF9 (aK aGK (aK qT (aK aC9 (aK jG (aK aQS (aK aKJ aU)))))))))) aLJ fun x hx hp=>aKR x hx hp
noncomputable def lU:Con:=⟨121,(.pair aA aD),aA,[.val ⟨true,aA,[]⟩,.val ⟨false,tI,[]⟩,.val ⟨false,aB,[]⟩],[⟨true,aA,[0,0,0,0,0,0,0,0,0,0,0,0,0,0]⟩],true,none,
 ((fun x=>aW aA x.1≤1000000000):(bA × cE)→Prop),
 ((fun x=>sD x.1 x.2.1 x.2.2):(bA × cE)→(bA))⟩
def tT:T :=
 .call 0 (.p1 aA aD (.vr 0)) <|
 .call 1 (.mk2 (.slice 186 aC) tI (aJ aA 5 (.p1 aA aD (.vr 0))) (aJ (.pair aA aD) 1 (.vr 0))) <|
 .call 2 (.p1 aA aD (.vr 0)) <|
 .prim .not (.vr 3) <|
 .ite (.vr 4) (
  .ret (.vr 1)) (
  .prim (.cmp .lss .i64) (.mk2 tI tI (.vr 2) (.ci .i64 0)) <|
  .ite (.vr 5) (
   .ret (.vr 1)) (
   .prim (.lidx 186 aC) (.mk2 (.slice 186 aC) tI (aJ aA 5 (.p1 aA aD (.vr 0))) (.vr 2)) <|
   .ite (aJ aA 4 (.p1 aA aD (.vr 0))) (
    .prim (.llen 188 aB) (aJ aA 6 (.p1 aA aD (.vr 0))) <|
    .prim (.llen 219 aZ) (aJ aA 2 (.p1 aA aD (.vr 0))) <|
    .prim (.ar .add .i64) (.mk2 tI tI (.vr 8) (.ci .i64 1)) <|
    .prim (.cmp .neq .i64) (.mk2 tI tI (.vr 7) (.vr 9)) <|
    .ite (.vr 10) (
     .ret (.vr 1)) (
     .loop tI (.ci .i64 0) <|
      .prim (.llen 219 aZ) (aJ aA 2 (.p1 aA aD (.vr 0))) <|
      .prim (.cmp .lss .i64) (.mk2 tI tI (.vr 11) (.vr 12)) <|
      .ite (.vr 13) (
       .prim (.lidx 188 aB) (.mk2 aG tI (aJ aA 6 (.p1 aA aD (.vr 0))) (.vr 11)) <|
       .call 3 (.vr 14) <|
       .prim .not (.vr 15) <|
       .ite (.vr 16) (
        .ret (.vr 1)) (
        .prim (.lidx 188 aB) (.mk2 aG tI (aJ aA 6 (.p1 aA aD (.vr 0))) (.vr 11)) <|
        .prim (.llen 3 tI) (.vr 17) <|
        .prim (.lidx 219 aZ) (.mk2 aN tI (aJ aA 2 (.p1 aA aD (.vr 0))) (.vr 11)) <|
        .prim (.cmp .neq .i64) (.mk2 tI tI (.vr 18) (aJ aZ 1 (.vr 19))) <|
        .ite (.vr 20) (
         .ret (.vr 1)) (
         .prim (.ar .add .i64) (.mk2 tI tI (.vr 11) (.ci .i64 1)) <|
         .again 0 (.vr 21)))) (
       .ite (aJ aA 3 (.p1 aA aD (.vr 0))) (
        .prim (.llen 219 aZ) (aJ aA 2 (.p1 aA aD (.vr 0))) <|
        .prim (.lidx 188 aB) (.mk2 aG tI (aJ aA 6 (.p1 aA aD (.vr 0))) (.vr 14)) <|
        .call 4 (.mk2 aB aB (.vr 15) (aQ (.pair aA aD) 2 (.vr 0))) <|
        .prim (.llen 3 tI) (.p1 aB .bool (.vr 16)) <|
        .prim (.llen 219 aZ) (aJ aA 2 (.p1 aA aD (.vr 0))) <|
        .prim (.ar .sub .i64) (.mk2 tI tI (.vr 18) (.ci .i64 1)) <|
        .prim (.lidx 219 aZ) (.mk2 aN tI (aJ aA 2 (.p1 aA aD (.vr 0))) (.vr 19)) <|
        .prim (.cmp .neq .i64) (.mk2 tI tI (.vr 17) (aJ aZ 2 (.vr 20))) <|
        .ite (.vr 21) (
         .ret (.vr 1)) (
         .call 3 (.p1 aB .bool (.vr 16)) <|
         .prim .not (.vr 22) <|
         .ite (.vr 23) (
          .ret (.vr 1)) (
          .call 5 (bF (.pair aN (.pair aG aB)) [(aJ aA 2 (.p1 aA aD (.vr 0))),(aJ aA 6 (.p1 aA aD (.vr 0))),(.p1 aB .bool (.vr 16))]) <|
          .ite (aQ (.pair aB .bool) 1 (.vr 16)) (
           .call 6 (bF (.pair aM aM) [(aQ aA 11 (.p1 aA aD (.vr 0))),(.p1 aG (.pair aB .bool) (.vr 24)),(.ci .i64 0),(.cb true)]) <|
           .prim (.ar .add .i64) (.mk2 tI tI (.vr 2) (.ci .i64 1)) <|
           .prim (.lidx 186 aC) (.mk2 (.slice 186 aC) tI (aJ aA 5 (.vr 1)) (.vr 2)) <|
           .prim (.lidx 186 aC) (.mk2 (.slice 186 aC) tI (aJ aA 5 (.vr 1)) (.ci .i64 0)) <|
           .prim (.llen 186 aC) (aJ aA 5 (.vr 1)) <|
           .prim (.lsub 186 aC) (bF (.pair (.slice 186 aC) aO) [(aJ aA 5 (.vr 1)),(.vr 26),(.vr 29)]) <|
           .prim (.lsub 186 aC) (bF (.pair (.slice 186 aC) aO) [(aJ aA 5 (.vr 1)),(.vr 2),(.vr 26)]) <|
           .prim (.lsub 186 aC) (bF (.pair (.slice 186 aC) aO) [(aJ aA 5 (.vr 1)),(.ci .i64 0),(.vr 2)]) <|
           .prim (.llen 186 aC) (aJ aA 5 (.vr 1)) <|
           .prim (.lsub 186 aC) (bF (.pair (.slice 186 aC) aO) [(aJ aA 5 (.vr 1)),(.vr 26),(.vr 33)]) <|
           .prim (.lapp 186 aC 32) (.mk2 (.slice 186 aC) (.slice 186 aC) (.vr 32) (.vr 34)) <|
           .ret (bF aA [(.p1 tI cT (.vr 1)),(aJ aA 1 (.vr 1)),(aJ aA 2 (.vr 1)),(aJ aA 3 (.vr 1)),(aJ aA 4 (.vr 1)),(.vr 35),(.nl 188 aB),(aJ aA 7 (.vr 1)),(aJ aA 8 (.vr 1)),(.nl 3 tI),(aJ (.pair aG (.pair aB .bool)) 1 (.vr 24)),(.vr 25)])) (
           .call 6 (bF (.pair aM aM) [(aQ aA 11 (.p1 aA aD (.vr 0))),(.p1 aG (.pair aB .bool) (.vr 24)),(.ci .i64 0),(aQ (.pair aG (.pair aB .bool)) 2 (.vr 24))]) <|
           .prim (.ar .add .i64) (.mk2 tI tI (.vr 2) (.ci .i64 1)) <|
           .prim (.lidx 186 aC) (.mk2 (.slice 186 aC) tI (aJ aA 5 (.vr 1)) (.vr 2)) <|
           .prim (.lidx 186 aC) (.mk2 (.slice 186 aC) tI (aJ aA 5 (.vr 1)) (.ci .i64 0)) <|
           .prim (.llen 186 aC) (aJ aA 5 (.vr 1)) <|
           .prim (.lsub 186 aC) (bF (.pair (.slice 186 aC) aO) [(aJ aA 5 (.vr 1)),(.vr 26),(.vr 29)]) <|
           .prim (.lsub 186 aC) (bF (.pair (.slice 186 aC) aO) [(aJ aA 5 (.vr 1)),(.vr 2),(.vr 26)]) <|
           .prim (.lsub 186 aC) (bF (.pair (.slice 186 aC) aO) [(aJ aA 5 (.vr 1)),(.ci .i64 0),(.vr 2)]) <|
           .prim (.llen 186 aC) (aJ aA 5 (.vr 1)) <|
           .prim (.lsub 186 aC) (bF (.pair (.slice 186 aC) aO) [(aJ aA 5 (.vr 1)),(.vr 26),(.vr 33)]) <|
           .prim (.lapp 186 aC 32) (.mk2 (.slice 186 aC) (.slice 186 aC) (.vr 32) (.vr 34)) <|
           .ret (bF aA [(.p1 tI cT (.vr 1)),(aJ aA 1 (.vr 1)),(aJ aA 2 (.vr 1)),(aJ aA 3 (.vr 1)),(aJ aA 4 (.vr 1)),(.vr 35),(.nl 188 aB),(aJ aA 7 (.vr 1)),(aJ aA 8 (.vr 1)),(.nl 3 tI),(aJ (.pair aG (.pair aB .bool)) 1 (.vr 24)),(.vr 25)]))))) (
        .prim (.llen 3 tI) (aJ aA 9 (.p1 aA aD (.vr 0))) <|
        .prim (.llen 219 aZ) (aJ aA 2 (.p1 aA aD (.vr 0))) <|
        .prim (.ar .sub .i64) (.mk2 tI tI (.vr 15) (.ci .i64 1)) <|
        .prim (.lidx 219 aZ) (.mk2 aN tI (aJ aA 2 (.p1 aA aD (.vr 0))) (.vr 16)) <|
        .prim (.cmp .neq .i64) (.mk2 tI tI (.vr 14) (aJ aZ 2 (.vr 17))) <|
        .ite (.vr 18) (
         .ret (.vr 1)) (
         .call 3 (aJ aA 9 (.p1 aA aD (.vr 0))) <|
         .prim .not (.vr 19) <|
         .ite (.vr 20) (
          .ret (.vr 1)) (
          .call 5 (bF (.pair aN (.pair aG aB)) [(aJ aA 2 (.p1 aA aD (.vr 0))),(aJ aA 6 (.p1 aA aD (.vr 0))),(aJ aA 9 (.p1 aA aD (.vr 0)))]) <|
          .call 6 (bF (.pair aM aM) [(aQ aA 11 (.p1 aA aD (.vr 0))),(.p1 aG (.pair aB .bool) (.vr 21)),(.ci .i64 0),(aQ (.pair aG (.pair aB .bool)) 2 (.vr 21))]) <|
          .prim (.ar .add .i64) (.mk2 tI tI (.vr 2) (.ci .i64 1)) <|
          .prim (.lidx 186 aC) (.mk2 (.slice 186 aC) tI (aJ aA 5 (.vr 1)) (.vr 2)) <|
          .prim (.lidx 186 aC) (.mk2 (.slice 186 aC) tI (aJ aA 5 (.vr 1)) (.ci .i64 0)) <|
          .prim (.llen 186 aC) (aJ aA 5 (.vr 1)) <|
          .prim (.lsub 186 aC) (bF (.pair (.slice 186 aC) aO) [(aJ aA 5 (.vr 1)),(.vr 23),(.vr 26)]) <|
          .prim (.lsub 186 aC) (bF (.pair (.slice 186 aC) aO) [(aJ aA 5 (.vr 1)),(.vr 2),(.vr 23)]) <|
          .prim (.lsub 186 aC) (bF (.pair (.slice 186 aC) aO) [(aJ aA 5 (.vr 1)),(.ci .i64 0),(.vr 2)]) <|
          .prim (.llen 186 aC) (aJ aA 5 (.vr 1)) <|
          .prim (.lsub 186 aC) (bF (.pair (.slice 186 aC) aO) [(aJ aA 5 (.vr 1)),(.vr 23),(.vr 30)]) <|
          .prim (.lapp 186 aC 32) (.mk2 (.slice 186 aC) (.slice 186 aC) (.vr 29) (.vr 31)) <|
          .ret (bF aA [(.p1 tI cT (.vr 1)),(aJ aA 1 (.vr 1)),(aJ aA 2 (.vr 1)),(aJ aA 3 (.vr 1)),(aJ aA 4 (.vr 1)),(.vr 32),(.nl 188 aB),(aJ aA 7 (.vr 1)),(aJ aA 8 (.vr 1)),(.nl 3 tI),(aJ (.pair aG (.pair aB .bool)) 1 (.vr 21)),(.vr 22)]))))))) (
    .prim (.llen 188 aB) (aQ aC 1 (.vr 6)) <|
    .prim (.llen 219 aZ) (aJ aA 2 (.p1 aA aD (.vr 0))) <|
    .prim (.ar .add .i64) (.mk2 tI tI (.vr 8) (.ci .i64 1)) <|
    .prim (.cmp .neq .i64) (.mk2 tI tI (.vr 7) (.vr 9)) <|
    .ite (.vr 10) (
     .ret (.vr 1)) (
     .loop tI (.ci .i64 0) <|
      .prim (.llen 219 aZ) (aJ aA 2 (.p1 aA aD (.vr 0))) <|
      .prim (.cmp .lss .i64) (.mk2 tI tI (.vr 11) (.vr 12)) <|
      .ite (.vr 13) (
       .prim (.lidx 188 aB) (.mk2 aG tI (aQ aC 1 (.vr 6)) (.vr 11)) <|
       .call 3 (.vr 14) <|
       .prim .not (.vr 15) <|
       .ite (.vr 16) (
        .ret (.vr 1)) (
        .prim (.lidx 188 aB) (.mk2 aG tI (aQ aC 1 (.vr 6)) (.vr 11)) <|
        .prim (.llen 3 tI) (.vr 17) <|
        .prim (.lidx 219 aZ) (.mk2 aN tI (aJ aA 2 (.p1 aA aD (.vr 0))) (.vr 11)) <|
        .prim (.cmp .neq .i64) (.mk2 tI tI (.vr 18) (aJ aZ 1 (.vr 19))) <|
        .ite (.vr 20) (
         .ret (.vr 1)) (
         .prim (.ar .add .i64) (.mk2 tI tI (.vr 11) (.ci .i64 1)) <|
         .again 0 (.vr 21)))) (
       .ite (aJ aA 3 (.p1 aA aD (.vr 0))) (
        .prim (.llen 219 aZ) (aJ aA 2 (.p1 aA aD (.vr 0))) <|
        .prim (.lidx 188 aB) (.mk2 aG tI (aQ aC 1 (.vr 6)) (.vr 14)) <|
        .call 4 (.mk2 aB aB (.vr 15) (aQ (.pair aA aD) 2 (.vr 0))) <|
        .prim (.llen 3 tI) (.p1 aB .bool (.vr 16)) <|
        .prim (.llen 219 aZ) (aJ aA 2 (.p1 aA aD (.vr 0))) <|
        .prim (.ar .sub .i64) (.mk2 tI tI (.vr 18) (.ci .i64 1)) <|
        .prim (.lidx 219 aZ) (.mk2 aN tI (aJ aA 2 (.p1 aA aD (.vr 0))) (.vr 19)) <|
        .prim (.cmp .neq .i64) (.mk2 tI tI (.vr 17) (aJ aZ 2 (.vr 20))) <|
        .ite (.vr 21) (
         .ret (.vr 1)) (
         .call 3 (.p1 aB .bool (.vr 16)) <|
         .prim .not (.vr 22) <|
         .ite (.vr 23) (
          .ret (.vr 1)) (
          .call 5 (bF (.pair aN (.pair aG aB)) [(aJ aA 2 (.p1 aA aD (.vr 0))),(aQ aC 1 (.vr 6)),(.p1 aB .bool (.vr 16))]) <|
          .ite (aQ (.pair aB .bool) 1 (.vr 16)) (
           .call 6 (bF (.pair aM aM) [(aQ aA 11 (.p1 aA aD (.vr 0))),(.p1 aG (.pair aB .bool) (.vr 24)),(.ci .i64 0),(.cb true)]) <|
           .prim (.ar .add .i64) (.mk2 tI tI (.vr 2) (.ci .i64 1)) <|
           .prim (.lidx 186 aC) (.mk2 (.slice 186 aC) tI (aJ aA 5 (.vr 1)) (.vr 2)) <|
           .prim (.lidx 186 aC) (.mk2 (.slice 186 aC) tI (aJ aA 5 (.vr 1)) (.ci .i64 0)) <|
           .prim (.llen 186 aC) (aJ aA 5 (.vr 1)) <|
           .prim (.lsub 186 aC) (bF (.pair (.slice 186 aC) aO) [(aJ aA 5 (.vr 1)),(.vr 26),(.vr 29)]) <|
           .prim (.lsub 186 aC) (bF (.pair (.slice 186 aC) aO) [(aJ aA 5 (.vr 1)),(.vr 2),(.vr 26)]) <|
           .prim (.lsub 186 aC) (bF (.pair (.slice 186 aC) aO) [(aJ aA 5 (.vr 1)),(.ci .i64 0),(.vr 2)]) <|
           .prim (.llen 186 aC) (aJ aA 5 (.vr 1)) <|
           .prim (.lsub 186 aC) (bF (.pair (.slice 186 aC) aO) [(aJ aA 5 (.vr 1)),(.vr 26),(.vr 33)]) <|
           .prim (.lapp 186 aC 32) (.mk2 (.slice 186 aC) (.slice 186 aC) (.vr 32) (.vr 34)) <|
           .ret (bF aA [(.p1 tI cT (.vr 1)),(aJ aA 1 (.vr 1)),(aJ aA 2 (.vr 1)),(aJ aA 3 (.vr 1)),(aJ aA 4 (.vr 1)),(.vr 35),(.nl 188 aB),(aJ aA 7 (.vr 1)),(aJ aA 8 (.vr 1)),(.nl 3 tI),(aJ (.pair aG (.pair aB .bool)) 1 (.vr 24)),(.vr 25)])) (
           .call 6 (bF (.pair aM aM) [(aQ aA 11 (.p1 aA aD (.vr 0))),(.p1 aG (.pair aB .bool) (.vr 24)),(.ci .i64 0),(aQ (.pair aG (.pair aB .bool)) 2 (.vr 24))]) <|
           .prim (.ar .add .i64) (.mk2 tI tI (.vr 2) (.ci .i64 1)) <|
           .prim (.lidx 186 aC) (.mk2 (.slice 186 aC) tI (aJ aA 5 (.vr 1)) (.vr 2)) <|
           .prim (.lidx 186 aC) (.mk2 (.slice 186 aC) tI (aJ aA 5 (.vr 1)) (.ci .i64 0)) <|
           .prim (.llen 186 aC) (aJ aA 5 (.vr 1)) <|
           .prim (.lsub 186 aC) (bF (.pair (.slice 186 aC) aO) [(aJ aA 5 (.vr 1)),(.vr 26),(.vr 29)]) <|
           .prim (.lsub 186 aC) (bF (.pair (.slice 186 aC) aO) [(aJ aA 5 (.vr 1)),(.vr 2),(.vr 26)]) <|
           .prim (.lsub 186 aC) (bF (.pair (.slice 186 aC) aO) [(aJ aA 5 (.vr 1)),(.ci .i64 0),(.vr 2)]) <|
           .prim (.llen 186 aC) (aJ aA 5 (.vr 1)) <|
           .prim (.lsub 186 aC) (bF (.pair (.slice 186 aC) aO) [(aJ aA 5 (.vr 1)),(.vr 26),(.vr 33)]) <|
           .prim (.lapp 186 aC 32) (.mk2 (.slice 186 aC) (.slice 186 aC) (.vr 32) (.vr 34)) <|
           .ret (bF aA [(.p1 tI cT (.vr 1)),(aJ aA 1 (.vr 1)),(aJ aA 2 (.vr 1)),(aJ aA 3 (.vr 1)),(aJ aA 4 (.vr 1)),(.vr 35),(.nl 188 aB),(aJ aA 7 (.vr 1)),(aJ aA 8 (.vr 1)),(.nl 3 tI),(aJ (.pair aG (.pair aB .bool)) 1 (.vr 24)),(.vr 25)]))))) (
        .prim (.llen 3 tI) (aJ aA 9 (.p1 aA aD (.vr 0))) <|
        .prim (.llen 219 aZ) (aJ aA 2 (.p1 aA aD (.vr 0))) <|
        .prim (.ar .sub .i64) (.mk2 tI tI (.vr 15) (.ci .i64 1)) <|
        .prim (.lidx 219 aZ) (.mk2 aN tI (aJ aA 2 (.p1 aA aD (.vr 0))) (.vr 16)) <|
        .prim (.cmp .neq .i64) (.mk2 tI tI (.vr 14) (aJ aZ 2 (.vr 17))) <|
        .ite (.vr 18) (
         .ret (.vr 1)) (
         .call 3 (aJ aA 9 (.p1 aA aD (.vr 0))) <|
         .prim .not (.vr 19) <|
         .ite (.vr 20) (
          .ret (.vr 1)) (
          .call 5 (bF (.pair aN (.pair aG aB)) [(aJ aA 2 (.p1 aA aD (.vr 0))),(aQ aC 1 (.vr 6)),(aJ aA 9 (.p1 aA aD (.vr 0)))]) <|
          .call 6 (bF (.pair aM aM) [(aQ aA 11 (.p1 aA aD (.vr 0))),(.p1 aG (.pair aB .bool) (.vr 21)),(.ci .i64 0),(aQ (.pair aG (.pair aB .bool)) 2 (.vr 21))]) <|
          .prim (.ar .add .i64) (.mk2 tI tI (.vr 2) (.ci .i64 1)) <|
          .prim (.lidx 186 aC) (.mk2 (.slice 186 aC) tI (aJ aA 5 (.vr 1)) (.vr 2)) <|
          .prim (.lidx 186 aC) (.mk2 (.slice 186 aC) tI (aJ aA 5 (.vr 1)) (.ci .i64 0)) <|
          .prim (.llen 186 aC) (aJ aA 5 (.vr 1)) <|
          .prim (.lsub 186 aC) (bF (.pair (.slice 186 aC) aO) [(aJ aA 5 (.vr 1)),(.vr 23),(.vr 26)]) <|
          .prim (.lsub 186 aC) (bF (.pair (.slice 186 aC) aO) [(aJ aA 5 (.vr 1)),(.vr 2),(.vr 23)]) <|
          .prim (.lsub 186 aC) (bF (.pair (.slice 186 aC) aO) [(aJ aA 5 (.vr 1)),(.ci .i64 0),(.vr 2)]) <|
          .prim (.llen 186 aC) (aJ aA 5 (.vr 1)) <|
          .prim (.lsub 186 aC) (bF (.pair (.slice 186 aC) aO) [(aJ aA 5 (.vr 1)),(.vr 23),(.vr 30)]) <|
          .prim (.lapp 186 aC 32) (.mk2 (.slice 186 aC) (.slice 186 aC) (.vr 29) (.vr 31)) <|
          .ret (bF aA [(.p1 tI cT (.vr 1)),(aJ aA 1 (.vr 1)),(aJ aA 2 (.vr 1)),(aJ aA 3 (.vr 1)),(aJ aA 4 (.vr 1)),(.vr 32),(.nl 188 aB),(aJ aA 7 (.vr 1)),(aJ aA 8 (.vr 1)),(.nl 3 tI),(aJ (.pair aG (.pair aB .bool)) 1 (.vr 21)),(.vr 22)])))))))))
set_option maxRecDepth 100000 in
theorem aJX:bS Tryz.prog [dV,dY,dT,bJ,kH,pP,mC] lU false 3000 ⟨[(2968,20011,mL 51 33 ++ mL 31 19 ++ [.dr 0,.dr 1,.tm 12 0]),(2968,16011,mL 51 43 ++ mL 40 33 ++ mL 31 19 ++ [.dr 0,.dr 1,.tm 12 0])],[(2947,292024,[],[31]),(2935,804026,[146,151],[]),(2935,548026,[146,151],[]),(2939,260023,[146,151],[]),(2947,288024,[],[31]),(2935,800026,[146,151],[]),(2935,544026,[146,151],[]),(2939,256023,[146,151],[])]⟩ = .ok tT:=by kernel_rfl
set_option maxHeartbeats 1000000 in
theorem aM1 (x:bA × cE) (hx:okD (.pair aA aD) x) (hp:(fun x=>aW aA x.1≤1000000000) x):tT.wp [dV,dY,dT,bJ,kH,pP,mC] [⟨(.pair aA aD),x⟩] [] (fun v=>v.as aA = (fun x=>sD x.1 x.2.1 x.2.2) x):=by
 obtain ⟨s,m,t⟩:=x
 delta tT dV dY dT bJ kH pP mC;refine eS ?_;try with_reducible exact True.intro
 (refine gR ?_;try with_reducible exact True.intro)
 refine ⟨hp,fun _ _=>⟨fun h=>eW (.inl h),fun h1=>⟨fun h=>eW (.inr (.inl h)),fun h2=>?_⟩⟩⟩
 have hf2:dR s.2.2.2.2.2.1 m < (s.2.2.2.2.2.1.length:Int):=(vU s.2.2.2.2.2.1 m s.2.2.2.2.2.1.length).2
 have hm:=(eF s).1 h1
 have hn8:=(cK _).1 hm.1
 have hou:(List.getD s.2.2.1 (s.2.2.1.length - 1) (aS aZ)).2.2.1 = iZ s.2.2.1:=by unfold iZ;rw [if_pos hm.1];rfl
 have hst:=(lN (t:=aA) hp).2.2.2.2.2.1.1
 replace hst:List.length s.2.2.2.2.2.1≤1000000000:=hst
 have hgs:iJ s.2.2.2.2.2.2.2.2.2.2.2:=aN8 (lN (t:=aA) hp).2.2.2.2.2.2.2.2.2.2.2
 refine ⟨by omega,fun _=>⟨fun hre=>?_,fun hre=>?_⟩⟩
 ·rw [show s.2.2.2.2.2.2.1 = lP s m from (aZH hre).symm]
  refine fun _ _=>⟨by omega,fun _=>⟨fun h=>eW (.inr (.inr (.inl (xS (.inl (by omega)))))),fun hlen=>?_⟩⟩
  refine aDX (fun k=>(k:Int)) (fun k=>∀ i,i < k→eX (List.getD (lP s m) i []) (fI s.2.2.1 i) = true) s.2.2.1.length rfl (fun i hi=>absurd hi (Nat.not_lt_zero _)) fun I μ k hk hG _ go=>?_
  try dsimp only
  (refine gR ?_;try with_reducible exact True.intro)
  intro _
  constructor
  ·intro hlt
   have hk':k < s.2.2.1.length:=by omega
   have esz:fI s.2.2.1 k = (List.getD s.2.2.1 k (aS aZ)).2.1:=if_pos hk'
   have bad:¬ eX (List.getD (lP s m) k []) (fI s.2.2.1 k) = true→s = sD s m t:=fun h=>eW (.inr (.inr (.inl (xS (.inr (Bool.eq_false_iff.2 fun hh=>h ((lF _ _ _).1 hh k hk')))))))
   rw [bY,esz] at bad
   (repeat' first | intro _ | (refine go _ ?_ ?_ ?_) | (refine go _ ?_ ?_) | (with_reducible apply And.intro))
   all_goals first | omega | exact bad (fun h=>Bool.noConfusion (h.1.symm.trans (by assumption:_ = false))) | exact bad (fun h=>absurd h.2 (by assumption)) | exact xF hG ((bY _ _).2 ⟨by assumption,by rw [esz];assumption⟩) _ (by assumption) | rfl | skip
  ·intro hge
   have hk':k = s.2.2.1.length:=by omega
   subst hk'
   have hrow:nZ s.2.2.1 (lP s m) s.2.2.1.length = true:=(lF _ _ _).2 hG
   clear go hG
   refine ⟨fun hla=>?_,fun hla=>?_⟩
   ·rw [show jO eI (List.getD (lP s m) s.2.2.1.length (aS aB)) t = gC s m t from (aLM hla).symm]
    (repeat' first | intro _ | (with_reducible apply And.intro))
    all_goals first | omega | exact eW (.inr (.inr (.inr (Bool.eq_false_iff.2 fun h=>absurd ((bY _ _).1 h).2 (by first | assumption | (rw [← hou];assumption)))))) | exact eW (.inr (.inr (.inr (wK (by assumption)).symm))) | exact ⟨hn8.2.1,by omega⟩ | (unfold maxLen;omega) | exact eW (.inr (.inr (.inr (by assumption)))) | exact ⟨by omega,by omega⟩ | exact hgs | exact rK _ _ h1 | (simp only [List.length_append,List.length_drop,List.length_take];omega) | (simp only [List.length_append,List.length_drop,List.length_take];unfold maxLen;omega) | skip
    all_goals refine (nP (by omega) ?_).trans (rG h1 h2 (xY (by omega) hrow) ((bY _ _).2 ⟨by assumption,by rw [← hou];assumption⟩))
    all_goals first | rfl | (rw [gP (by assumption)];done) | (rw [show (gC s m t).2 = true by assumption,Bool.true_or];done) | (rw [show (gC s m t).2 = false by assumption,Bool.false_or];done) | skip
   ·have hgg:s.2.2.2.2.2.2.2.2.2.1 = (gC s m t).1:=aJZ hla
    have hg0:(gC s m t).2 = false:=aK7 hla
    rw [hgg]
    (repeat' first | intro _ | (with_reducible apply And.intro))
    all_goals first | omega | exact eW (.inr (.inr (.inr (Bool.eq_false_iff.2 fun h=>absurd ((bY _ _).1 h).2 (by first | assumption | (rw [← hou];assumption)))))) | exact eW (.inr (.inr (.inr (wK (by assumption)).symm))) | exact ⟨hn8.2.1,by omega⟩ | (unfold maxLen;omega) | exact eW (.inr (.inr (.inr (by assumption)))) | exact ⟨by omega,by omega⟩ | exact hgs | exact rK _ _ h1 | (simp only [List.length_append,List.length_drop,List.length_take];omega) | (simp only [List.length_append,List.length_drop,List.length_take];unfold maxLen;omega) | skip
    all_goals refine (nP (by omega) ?_).trans (rG h1 h2 (xY (by omega) hrow) ((bY _ _).2 ⟨by assumption,by rw [← hou];assumption⟩))
    all_goals first | rfl | (rw [gP (by assumption)];done) | (rw [show (gC s m t).2 = true by assumption,Bool.true_or];done) | (rw [show (gC s m t).2 = false by assumption,Bool.false_or];done) | skip
 ·rw [show (List.getD s.2.2.2.2.2.1 (dR s.2.2.2.2.2.1 m).toNat (aS aC)).2 = lP s m from (bA9 hre).symm]
  refine fun _ _=>⟨by omega,fun _=>⟨fun h=>eW (.inr (.inr (.inl (xS (.inl (by omega)))))),fun hlen=>?_⟩⟩
  refine aDX (fun k=>(k:Int)) (fun k=>∀ i,i < k→eX (List.getD (lP s m) i []) (fI s.2.2.1 i) = true) s.2.2.1.length rfl (fun i hi=>absurd hi (Nat.not_lt_zero _)) fun I μ k hk hG _ go=>?_
  try dsimp only
  (refine gR ?_;try with_reducible exact True.intro)
  intro _
  constructor
  ·intro hlt
   have hk':k < s.2.2.1.length:=by omega
   have esz:fI s.2.2.1 k = (List.getD s.2.2.1 k (aS aZ)).2.1:=if_pos hk'
   have bad:¬ eX (List.getD (lP s m) k []) (fI s.2.2.1 k) = true→s = sD s m t:=fun h=>eW (.inr (.inr (.inl (xS (.inr (Bool.eq_false_iff.2 fun hh=>h ((lF _ _ _).1 hh k hk')))))))
   rw [bY,esz] at bad
   (repeat' first | intro _ | (refine go _ ?_ ?_ ?_) | (refine go _ ?_ ?_) | (with_reducible apply And.intro))
   all_goals first | omega | exact bad (fun h=>Bool.noConfusion (h.1.symm.trans (by assumption:_ = false))) | exact bad (fun h=>absurd h.2 (by assumption)) | exact xF hG ((bY _ _).2 ⟨by assumption,by rw [esz];assumption⟩) _ (by assumption) | rfl | skip
  ·intro hge
   have hk':k = s.2.2.1.length:=by omega
   subst hk'
   have hrow:nZ s.2.2.1 (lP s m) s.2.2.1.length = true:=(lF _ _ _).2 hG
   clear go hG
   refine ⟨fun hla=>?_,fun hla=>?_⟩
   ·rw [show jO eI (List.getD (lP s m) s.2.2.1.length (aS aB)) t = gC s m t from (aLM hla).symm]
    (repeat' first | intro _ | (with_reducible apply And.intro))
    all_goals first | omega | exact eW (.inr (.inr (.inr (Bool.eq_false_iff.2 fun h=>absurd ((bY _ _).1 h).2 (by first | assumption | (rw [← hou];assumption)))))) | exact eW (.inr (.inr (.inr (wK (by assumption)).symm))) | exact ⟨hn8.2.1,by omega⟩ | (unfold maxLen;omega) | exact eW (.inr (.inr (.inr (by assumption)))) | exact ⟨by omega,by omega⟩ | exact hgs | exact rK _ _ h1 | (simp only [List.length_append,List.length_drop,List.length_take];omega) | (simp only [List.length_append,List.length_drop,List.length_take];unfold maxLen;omega) | skip
    all_goals refine (nP (by omega) ?_).trans (rG h1 h2 (xY (by omega) hrow) ((bY _ _).2 ⟨by assumption,by rw [← hou];assumption⟩))
    all_goals first | rfl | (rw [gP (by assumption)];done) | (rw [show (gC s m t).2 = true by assumption,Bool.true_or];done) | (rw [show (gC s m t).2 = false by assumption,Bool.false_or];done) | skip
   ·have hgg:s.2.2.2.2.2.2.2.2.2.1 = (gC s m t).1:=aJZ hla
    have hg0:(gC s m t).2 = false:=aK7 hla
    rw [hgg]
    (repeat' first | intro _ | (with_reducible apply And.intro))
    all_goals first | omega | exact eW (.inr (.inr (.inr (Bool.eq_false_iff.2 fun h=>absurd ((bY _ _).1 h).2 (by first | assumption | (rw [← hou];assumption)))))) | exact eW (.inr (.inr (.inr (wK (by assumption)).symm))) | exact ⟨hn8.2.1,by omega⟩ | (unfold maxLen;omega) | exact eW (.inr (.inr (.inr (by assumption)))) | exact ⟨by omega,by omega⟩ | exact hgs | exact rK _ _ h1 | (simp only [List.length_append,List.length_drop,List.length_take];omega) | (simp only [List.length_append,List.length_drop,List.length_take];unfold maxLen;omega) | skip
    all_goals refine (nP (by omega) ?_).trans (rG h1 h2 (xY (by omega) hrow) ((bY _ _).2 ⟨by assumption,by rw [← hou];assumption⟩))
    all_goals first | rfl | (rw [gP (by assumption)];done) | (rw [show (gC s m t).2 = true by assumption,Bool.true_or];done) | (rw [show (gC s m t).2 = false by assumption,Bool.false_or];done) | skip
set_option maxHeartbeats 1000000 in
theorem aKT:Con.Holds Tryz.prog lU:=aT aY (aK rC (aK rS (aK qZ (aK fC (aK aEM (aK aSV (aK aLH aU))))))) aJX fun x hx hp=>aM1 x hx hp
end Go.Proofs.YtmfpkkbhnmkfdaaGreat
