/- LawSh: trees, and what they say. -/
import Derived.Test.YtahggdiafncdhaaDraw2
namespace Go.Proofs.Ytahggdiafncdhaa
open Go.ChangeShapes Go.WideShapes Go.ChangeAt Go.RowKit Go.Deep
set_option linter.unusedVariables false
set_option linter.unusedSimpArgs false


/-! laws.FnShares -/

noncomputable def c_w_FnShares : Con := ⟨3, (.slice 5 (.int .u8)), .bool, [.val ⟨false, (.slice 5 (.int .u8)), []⟩], [⟨false, .bool, [0]⟩], false, none,
  ((fun _ => True) : (List Int) → Prop),
  ((fun _ => true) : (List Int) → (Bool))⟩
def t_w_FnShares : T :=
  .call 0 (.vr 0) <|
  .ite (.vr 1) (
   .ret (.cb true)) (
   .call 1 (.vr 0) <|
   .call 2 (.vr 2) <|
   .prim (.cmp .lss .i64) (.mk2 tI tI (prA (.pair tBatch tI) 1 (.vr 2)) (.ci .i64 1)) <|
   .ite (.vr 4) (
    .prim (.llen 30 tBatch) (.vr 3) <|
    .prim (.cmp .eql .i64) (.mk2 tI tI (.vr 5) (.ci .i64 0)) <|
    .ret (.vr 6)) (
    .prim (.cmp .gtr .i64) (.mk2 tI tI (prA (.pair tBatch tI) 1 (.vr 2)) (.ci .i64 4)) <|
    .ite (.vr 5) (
     .prim (.llen 30 tBatch) (.vr 3) <|
     .prim (.cmp .eql .i64) (.mk2 tI tI (.vr 6) (.ci .i64 0)) <|
     .ret (.vr 7)) (
     .loop tIns (.mk2 tI tI (.ci .i64 0) (.ci .i64 0)) <|
      .prim (.llen 30 tBatch) (.vr 3) <|
      .prim (.cmp .lss .i64) (.mk2 tI tI (.p1 tI tI (.vr 6)) (.vr 7)) <|
      .ite (.vr 8) (
       .prim (.lidx 30 tBatch) (.mk2 (.slice 30 tBatch) tI (.vr 3) (.p1 tI tI (.vr 6))) <|
       .prim (.lidx 30 tBatch) (.mk2 (.slice 30 tBatch) tI (.vr 3) (.p1 tI tI (.vr 6))) <|
       .prim (.llen 34 tPair) (.vr 10) <|
       .prim (.ar .add .i64) (.mk2 tI tI (prA tIns 1 (.vr 6)) (.vr 11)) <|
       .prim (.llen 34 tPair) (.p1 tBatch tI (.vr 2)) <|
       .prim (.cmp .gtr .i64) (.mk2 tI tI (.vr 12) (.vr 13)) <|
       .ite (.vr 14) (
        .ret (.cb false)) (
        .prim (.llen 34 tPair) (.p1 tBatch tI (.vr 2)) <|
        .prim (.quo .i64) (.mk2 tI tI (.vr 15) (prA (.pair tBatch tI) 1 (.vr 2))) <|
        .prim (.cmp .neq .i64) (.mk2 tI tI (.vr 11) (.vr 16)) <|
        .ite (.vr 17) (
         .prim (.llen 34 tPair) (.p1 tBatch tI (.vr 2)) <|
         .prim (.quo .i64) (.mk2 tI tI (.vr 18) (prA (.pair tBatch tI) 1 (.vr 2))) <|
         .prim (.ar .add .i64) (.mk2 tI tI (.vr 19) (.ci .i64 1)) <|
         .prim (.cmp .neq .i64) (.mk2 tI tI (.vr 11) (.vr 20)) <|
         .ite (.vr 21) (
          .ret (.cb false)) (
          .prim (.cmp .gtr .i64) (.mk2 tI tI (.p1 tI tI (.vr 6)) (.ci .i64 0)) <|
          .ite (.vr 22) (
           .prim (.ar .sub .i64) (.mk2 tI tI (.p1 tI tI (.vr 6)) (.ci .i64 1)) <|
           .prim (.lidx 30 tBatch) (.mk2 (.slice 30 tBatch) tI (.vr 3) (.vr 23)) <|
           .prim (.lidx 30 tBatch) (.mk2 (.slice 30 tBatch) tI (.vr 3) (.vr 23)) <|
           .prim (.llen 34 tPair) (.vr 25) <|
           .prim (.cmp .gtr .i64) (.mk2 tI tI (.vr 11) (.vr 26)) <|
           .ite (.vr 27) (
            .ret (.cb false)) (
            .loop tI (.ci .i64 0) <|
             .prim (.cmp .lss .i64) (.mk2 tI tI (.vr 28) (.vr 11)) <|
             .ite (.vr 29) (
              .prim (.ar .add .i64) (.mk2 tI tI (prA tIns 1 (.vr 6)) (.vr 28)) <|
              .prim (.lidx 30 tBatch) (.mk2 (.slice 30 tBatch) tI (.vr 3) (.p1 tI tI (.vr 6))) <|
              .prim (.lidx 30 tBatch) (.mk2 (.slice 30 tBatch) tI (.vr 3) (.p1 tI tI (.vr 6))) <|
              .prim (.lidx 34 tPair) (.mk2 tBatch tI (.vr 32) (.vr 28)) <|
              .prim (.lidx 34 tPair) (.mk2 tBatch tI (.p1 tBatch tI (.vr 2)) (.vr 30)) <|
              .call 3 (.mk2 tInts tInts (.p1 tInts tInts (.vr 33)) (.p1 tInts tInts (.vr 34))) <|
              .prim .not (.vr 35) <|
              .ite (.vr 36) (
               .ret (.cb false)) (
               .prim (.ar .add .i64) (.mk2 tI tI (prA tIns 1 (.vr 6)) (.vr 28)) <|
               .prim (.lidx 30 tBatch) (.mk2 (.slice 30 tBatch) tI (.vr 3) (.p1 tI tI (.vr 6))) <|
               .prim (.lidx 30 tBatch) (.mk2 (.slice 30 tBatch) tI (.vr 3) (.p1 tI tI (.vr 6))) <|
               .prim (.lidx 34 tPair) (.mk2 tBatch tI (.vr 39) (.vr 28)) <|
               .prim (.lidx 34 tPair) (.mk2 tBatch tI (.p1 tBatch tI (.vr 2)) (.vr 37)) <|
               .call 3 (.mk2 tInts tInts (prA tPair 1 (.vr 40)) (prA tPair 1 (.vr 41))) <|
               .prim .not (.vr 42) <|
               .ite (.vr 43) (
                .ret (.cb false)) (
                .prim (.ar .add .i64) (.mk2 tI tI (.vr 28) (.ci .i64 1)) <|
                .again 0 (.vr 44)))) (
              .prim (.ar .add .i64) (.mk2 tI tI (prA tIns 1 (.vr 6)) (.vr 11)) <|
              .prim (.ar .add .i64) (.mk2 tI tI (.p1 tI tI (.vr 6)) (.ci .i64 1)) <|
              .again 1 (.mk2 tI tI (.vr 31) (.vr 30))))) (
           .loop tI (.ci .i64 0) <|
            .prim (.cmp .lss .i64) (.mk2 tI tI (.vr 23) (.vr 11)) <|
            .ite (.vr 24) (
             .prim (.ar .add .i64) (.mk2 tI tI (prA tIns 1 (.vr 6)) (.vr 23)) <|
             .prim (.lidx 30 tBatch) (.mk2 (.slice 30 tBatch) tI (.vr 3) (.p1 tI tI (.vr 6))) <|
             .prim (.lidx 30 tBatch) (.mk2 (.slice 30 tBatch) tI (.vr 3) (.p1 tI tI (.vr 6))) <|
             .prim (.lidx 34 tPair) (.mk2 tBatch tI (.vr 27) (.vr 23)) <|
             .prim (.lidx 34 tPair) (.mk2 tBatch tI (.p1 tBatch tI (.vr 2)) (.vr 25)) <|
             .call 3 (.mk2 tInts tInts (.p1 tInts tInts (.vr 28)) (.p1 tInts tInts (.vr 29))) <|
             .prim .not (.vr 30) <|
             .ite (.vr 31) (
              .ret (.cb false)) (
              .prim (.ar .add .i64) (.mk2 tI tI (prA tIns 1 (.vr 6)) (.vr 23)) <|
              .prim (.lidx 30 tBatch) (.mk2 (.slice 30 tBatch) tI (.vr 3) (.p1 tI tI (.vr 6))) <|
              .prim (.lidx 30 tBatch) (.mk2 (.slice 30 tBatch) tI (.vr 3) (.p1 tI tI (.vr 6))) <|
              .prim (.lidx 34 tPair) (.mk2 tBatch tI (.vr 34) (.vr 23)) <|
              .prim (.lidx 34 tPair) (.mk2 tBatch tI (.p1 tBatch tI (.vr 2)) (.vr 32)) <|
              .call 3 (.mk2 tInts tInts (prA tPair 1 (.vr 35)) (prA tPair 1 (.vr 36))) <|
              .prim .not (.vr 37) <|
              .ite (.vr 38) (
               .ret (.cb false)) (
               .prim (.ar .add .i64) (.mk2 tI tI (.vr 23) (.ci .i64 1)) <|
               .again 0 (.vr 39)))) (
             .prim (.ar .add .i64) (.mk2 tI tI (prA tIns 1 (.vr 6)) (.vr 11)) <|
             .prim (.ar .add .i64) (.mk2 tI tI (.p1 tI tI (.vr 6)) (.ci .i64 1)) <|
             .again 1 (.mk2 tI tI (.vr 26) (.vr 25)))))) (
         .prim (.cmp .gtr .i64) (.mk2 tI tI (.p1 tI tI (.vr 6)) (.ci .i64 0)) <|
         .ite (.vr 18) (
          .prim (.ar .sub .i64) (.mk2 tI tI (.p1 tI tI (.vr 6)) (.ci .i64 1)) <|
          .prim (.lidx 30 tBatch) (.mk2 (.slice 30 tBatch) tI (.vr 3) (.vr 19)) <|
          .prim (.lidx 30 tBatch) (.mk2 (.slice 30 tBatch) tI (.vr 3) (.vr 19)) <|
          .prim (.llen 34 tPair) (.vr 21) <|
          .prim (.cmp .gtr .i64) (.mk2 tI tI (.vr 11) (.vr 22)) <|
          .ite (.vr 23) (
           .ret (.cb false)) (
           .loop tI (.ci .i64 0) <|
            .prim (.cmp .lss .i64) (.mk2 tI tI (.vr 24) (.vr 11)) <|
            .ite (.vr 25) (
             .prim (.ar .add .i64) (.mk2 tI tI (prA tIns 1 (.vr 6)) (.vr 24)) <|
             .prim (.lidx 30 tBatch) (.mk2 (.slice 30 tBatch) tI (.vr 3) (.p1 tI tI (.vr 6))) <|
             .prim (.lidx 30 tBatch) (.mk2 (.slice 30 tBatch) tI (.vr 3) (.p1 tI tI (.vr 6))) <|
             .prim (.lidx 34 tPair) (.mk2 tBatch tI (.vr 28) (.vr 24)) <|
             .prim (.lidx 34 tPair) (.mk2 tBatch tI (.p1 tBatch tI (.vr 2)) (.vr 26)) <|
             .call 3 (.mk2 tInts tInts (.p1 tInts tInts (.vr 29)) (.p1 tInts tInts (.vr 30))) <|
             .prim .not (.vr 31) <|
             .ite (.vr 32) (
              .ret (.cb false)) (
              .prim (.ar .add .i64) (.mk2 tI tI (prA tIns 1 (.vr 6)) (.vr 24)) <|
              .prim (.lidx 30 tBatch) (.mk2 (.slice 30 tBatch) tI (.vr 3) (.p1 tI tI (.vr 6))) <|
              .prim (.lidx 30 tBatch) (.mk2 (.slice 30 tBatch) tI (.vr 3) (.p1 tI tI (.vr 6))) <|
              .prim (.lidx 34 tPair) (.mk2 tBatch tI (.vr 35) (.vr 24)) <|
              .prim (.lidx 34 tPair) (.mk2 tBatch tI (.p1 tBatch tI (.vr 2)) (.vr 33)) <|
              .call 3 (.mk2 tInts tInts (prA tPair 1 (.vr 36)) (prA tPair 1 (.vr 37))) <|
              .prim .not (.vr 38) <|
              .ite (.vr 39) (
               .ret (.cb false)) (
               .prim (.ar .add .i64) (.mk2 tI tI (.vr 24) (.ci .i64 1)) <|
               .again 0 (.vr 40)))) (
             .prim (.ar .add .i64) (.mk2 tI tI (prA tIns 1 (.vr 6)) (.vr 11)) <|
             .prim (.ar .add .i64) (.mk2 tI tI (.p1 tI tI (.vr 6)) (.ci .i64 1)) <|
             .again 1 (.mk2 tI tI (.vr 27) (.vr 26))))) (
          .loop tI (.ci .i64 0) <|
           .prim (.cmp .lss .i64) (.mk2 tI tI (.vr 19) (.vr 11)) <|
           .ite (.vr 20) (
            .prim (.ar .add .i64) (.mk2 tI tI (prA tIns 1 (.vr 6)) (.vr 19)) <|
            .prim (.lidx 30 tBatch) (.mk2 (.slice 30 tBatch) tI (.vr 3) (.p1 tI tI (.vr 6))) <|
            .prim (.lidx 30 tBatch) (.mk2 (.slice 30 tBatch) tI (.vr 3) (.p1 tI tI (.vr 6))) <|
            .prim (.lidx 34 tPair) (.mk2 tBatch tI (.vr 23) (.vr 19)) <|
            .prim (.lidx 34 tPair) (.mk2 tBatch tI (.p1 tBatch tI (.vr 2)) (.vr 21)) <|
            .call 3 (.mk2 tInts tInts (.p1 tInts tInts (.vr 24)) (.p1 tInts tInts (.vr 25))) <|
            .prim .not (.vr 26) <|
            .ite (.vr 27) (
             .ret (.cb false)) (
             .prim (.ar .add .i64) (.mk2 tI tI (prA tIns 1 (.vr 6)) (.vr 19)) <|
             .prim (.lidx 30 tBatch) (.mk2 (.slice 30 tBatch) tI (.vr 3) (.p1 tI tI (.vr 6))) <|
             .prim (.lidx 30 tBatch) (.mk2 (.slice 30 tBatch) tI (.vr 3) (.p1 tI tI (.vr 6))) <|
             .prim (.lidx 34 tPair) (.mk2 tBatch tI (.vr 30) (.vr 19)) <|
             .prim (.lidx 34 tPair) (.mk2 tBatch tI (.p1 tBatch tI (.vr 2)) (.vr 28)) <|
             .call 3 (.mk2 tInts tInts (prA tPair 1 (.vr 31)) (prA tPair 1 (.vr 32))) <|
             .prim .not (.vr 33) <|
             .ite (.vr 34) (
              .ret (.cb false)) (
              .prim (.ar .add .i64) (.mk2 tI tI (.vr 19) (.ci .i64 1)) <|
              .again 0 (.vr 35)))) (
            .prim (.ar .add .i64) (.mk2 tI tI (prA tIns 1 (.vr 6)) (.vr 11)) <|
            .prim (.ar .add .i64) (.mk2 tI tI (.p1 tI tI (.vr 6)) (.ci .i64 1)) <|
            .again 1 (.mk2 tI tI (.vr 22) (.vr 21))))))) (
       .prim (.llen 30 tBatch) (.vr 3) <|
       .prim (.cmp .eql .i64) (.mk2 tI tI (.vr 9) (prA (.pair tBatch tI) 1 (.vr 2))) <|
       .ite (.vr 10) (
        .prim (.llen 34 tPair) (.p1 tBatch tI (.vr 2)) <|
        .prim (.cmp .eql .i64) (.mk2 tI tI (prA tIns 1 (.vr 6)) (.vr 11)) <|
        .ret (.vr 12)) (
        .ret (.cb false))))))
set_option maxRecDepth 100000 in
theorem e_w_FnShares : exFn Try.prog [c_w_big, c_s_DrawShares, c_i_Shares, c_w_sameInts] c_w_FnShares false 3000 ⟨[(2977, 8006, drd 25 15 ++ [.dr 12, .dr 14, .dr 13, .dr 11, .dr 10, .dr 0, .tm 7 0, .tm 6 0]), (2958, 680028, [.tm 9 0]), (2958, 296023, [.tm 9 0]), (2958, 328024, [.tm 9 0]), (2958, 136019, [.tm 9 0])], []⟩ = .ok t_w_FnShares := by kernel_rfl
/- loops: (Int) × (Int) ¦ Int ¦ Int ¦ Int ¦ Int -/
theorem v_w_FnShares (x : List Int) (hx : okD (.slice 5 (.int .u8)) x) (hp : (fun _ => True) x) : t_w_FnShares.wp [c_w_big, c_s_DrawShares, c_i_Shares, c_w_sameInts] [⟨(.slice 5 (.int .u8)), x⟩] [] (fun v => v.as .bool = (fun _ => true) x) := by
  delta t_w_FnShares c_w_big c_s_DrawShares c_i_Shares c_w_sameInts; refine vcx ?_; try with_reducible exact True.intro
  (refine dcx ?_; try with_reducible exact True.intro)
  refine ⟨fun _ => trivial, fun hb => ⟨by omega, fun _ => ?_⟩⟩
  have q := q_s_DrawShares x hx (by show List.length x ≤ 1048576; omega)
  generalize f_s_DrawShares x = r at q ⊢
  obtain ⟨b, n⟩ := r
  obtain ⟨kq, uq1, uq2⟩ := q
  change List PairD at b
  change List.length b ≤ 6 at uq1
  dsimp only at uq2 ⊢
  refine ⟨⟨by omega, fun p hp => by have := uq2 p hp; omega⟩, fun _ => ⟨fun h _ => by unfold sharesF; rw [if_pos (by omega)]; rfl, fun h => ⟨fun h' _ => by unfold sharesF; rw [if_pos (by omega)]; rfl, fun h' => ?_⟩⟩⟩
  obtain ⟨N, rfl⟩ : ∃ N : Nat, n = (N : Int) := ⟨n.toNat, by omega⟩
  have hN : 1 ≤ N := by omega
  have e : sharesF b (N : Int) = mp N (segS b N) := by unfold sharesF; rw [if_neg (by omega), Int.toNat_natCast]
  have hlen : (mp N (segS b N)).length = N := mp_len _ _
  rw [e]
  refine loopF (fun k => ((k : Int), ((offS (b.length / N) (b.length % N) k : Nat) : Int))) N rfl fun I μ k hk _ go => ?_
  try dsimp only
  (refine dcx ?_; try with_reducible exact True.intro)
  rw [hlen, nd_t]
  have hq : b.length / N ≤ b.length := Nat.div_le_self _ _
  have hq0 : (0 : Int) ≤ ((b.length / N : Nat) : Int) := Int.natCast_nonneg _
  have e0 := offS_le (L := b.length) (N := N) (i := k) hN hk
  have eS : offS (b.length / N) (b.length % N) (k + 1) = offS (b.length / N) (b.length % N) k + b.length / N + (if k < b.length % N then 1 else 0) := rfl
  refine fun _ => ⟨fun hlt => ?_, fun hge => ?_⟩
  · have hk' : k < N := by omega
    have e1 := offS_le (L := b.length) (N := N) (i := k + 1) hN hk'
    have hsl := segS_len (l := b) hN hk'
    have hprev : 0 < k → (segS b N (k - 1)).length = b.length / N + (if k - 1 < b.length % N then 1 else 0) := fun h => segS_len (l := b) hN (by omega)
    have hg : (mp N (segS b N)).getD k (zeroD tBatch) = segS b N k := mp_getD _ _ _ hk'
    have hg1 : (mp N (segS b N)).getD (k - 1) (zeroD tBatch) = segS b N (k - 1) := mp_getD _ _ _ (by omega)
    rw [hg, hg1]
    rw [eS] at e1
    have hat : ∀ j (hj : j < (segS b N k).length), ∃ hk : offS (b.length / N) (b.length % N) k + j < b.length, (segS b N k)[j] = b[offS (b.length / N) (b.length % N) k + j] := fun j hj => segS_at hN hk' hj
    have hgo : ∀ y, y = ((k : Int) + 1, ((offS (b.length / N) (b.length % N) k : Nat) : Int) + ((segS b N k).length : Int)) → I y ∧ μ y < μ ((k : Int), ((offS (b.length / N) (b.length % N) k : Nat) : Int)) := fun y h => go y hk' (h.trans (pk (by rw [hsl, eS]; push_cast; omega)))
    clear go
    have hmono : 0 < k → (segS b N k).length ≤ (segS b N (k - 1)).length := fun h => by
      rw [hsl, hprev h]
      split
      · rw [if_pos (by omega)]; exact Nat.le_refl _
      · omega
    have hb1 : (segS b N k).length ≤ b.length / N + 1 := by rw [hsl]; split <;> omega
    have hb2 : b.length / N ≤ (segS b N k).length := by rw [hsl]; omega
    rw [← eS] at e1
    have e3 : offS (b.length / N) (b.length % N) k + (segS b N k).length ≤ b.length := by rw [hsl]; rw [eS] at e1; omega
    clear hsl hprev eS hg hg1 e1 e hlen
    generalize segS b N (k - 1) = S0 at *
    generalize segS b N k = S at *
    generalize offS (b.length / N) (b.length % N) k = o at *
    generalize b.length / N = q at *
    (repeat' first | intro _ | (with_reducible apply And.intro))
    all_goals first | omega | (exfalso; omega) | skip
    all_goals
      refine loopF (fun j => (j : Int)) S.length rfl fun I2 μ2 j hj _ go2 => ?_
      try dsimp only
      (refine dcx ?_; try with_reducible exact True.intro)
      refine ⟨fun hlt2 => ?_, fun hge2 => ?_⟩
      · have hj' : j < S.length := by omega
        obtain ⟨hk2, e2⟩ := hat j hj'
        rw [show ((o : Int) + (j : Int)).toNat = o + j by omega, getD_at hj', getD_at hk2, e2]
        (repeat' first | intro _ | (with_reducible apply And.intro))
        all_goals first | omega | rfl | trivial | (exfalso; simp_all; done) | exact (go2 _ hj' pk1).1 | exact (go2 _ hj' pk1).2
      · (repeat' first | intro _ | (with_reducible apply And.intro))
        all_goals first | omega | exact (hgo _ rfl).1 | exact (hgo _ rfl).2
  · have : k = N := by omega
    subst this
    rw [offS_end hN]
    (repeat' first | intro _ | (with_reducible apply And.intro))
    all_goals first | omega | rfl | trivial | (exfalso; omega) | simp
theorem h_w_FnShares : Con.Holds Try.prog c_w_FnShares := tree_ok mixedP (consAt h_w_big (consAt h_s_DrawShares (consAt h_i_Shares (consAt h_w_sameInts consNil)))) e_w_FnShares fun x hx hp => v_w_FnShares x hx hp
end Go.Proofs.Ytahggdiafncdhaa
