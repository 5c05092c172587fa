/- Ring2: trees, and what they say. -/
import Derived.Test.YtahggdiafncdhaaGr2
namespace Go.Proofs.Ytahggdiafncdhaa
open Go.ChangeShapes Go.WideShapes Go.ChangeAt Go.RowKit Go.Deep
set_option linter.unusedVariables false
set_option linter.unusedSimpArgs false
def RingB (r : RingD) : Prop := r.1.length ≤ 1000000000 ∧ ∀ g ∈ r.1, GradsB g
def ringStep (r : RingD) : RingD :=
  if r.2 < 0 ∨ 2 * (r.1.length : Int) - 3 < r.2 then r
  else if r.2 < (r.1.length : Int) - 1 then (r.1.set (r.2 + 1).toNat (addGrads (r.1.getD r.2.toNat ([], 0, false)) (r.1.getD (r.2 + 1).toNat ([], 0, false))), r.2 + 1)
  else (r.1.set (r.2 - ((r.1.length : Int) - 1)).toNat (r.1.getD ((r.1.length : Int) - 1).toNat ([], 0, false)), r.2 + 1)
theorem getD_ok {α : Type} {Q : α → Prop} {l : List α} (h : ∀ g ∈ l, Q g) {i : Nat} (hi : i < l.length) {d : α} : Q (l.getD i d) := by rw [getD_at hi]; exact h _ (List.getElem_mem hi)

/-! impl.RingStep -/

noncomputable def c_i_RingStep : Con := ⟨23, tRing, tRing, [.val ⟨true, tRing, []⟩], [⟨true, tRing, [2, 0]⟩], false, none,
  ((fun x => RingB x) : ((List GradsD) × Int) → Prop),
  ((fun x => ringStep x) : ((List GradsD) × Int) → ((List GradsD) × Int))⟩
def t_i_RingStep : T :=
  .prim (.llen 37 tGrads) (.p1 (.slice 37 tGrads) tI (.vr 0)) <|
  .loop (.pair tI (.slice 37 tGrads)) (.mk2 tI (.slice 37 tGrads) (.ci .i64 0) (.nl 37 tGrads)) <|
   .prim (.cmp .lss .i64) (.mk2 tI tI (.p1 tI (.slice 37 tGrads) (.vr 2)) (.vr 1)) <|
   .ite (.vr 3) (
    .prim (.lidx 37 tGrads) (.mk2 (.slice 37 tGrads) tI (.p1 (.slice 37 tGrads) tI (.vr 0)) (.p1 tI (.slice 37 tGrads) (.vr 2))) <|
    .call 0 (.vr 4) <|
    .prim (.lit 37 tGrads 1) (.vr 5) <|
    .prim (.lapp 37 tGrads 40) (.mk2 (.slice 37 tGrads) (.slice 37 tGrads) (prA (.pair tI (.slice 37 tGrads)) 1 (.vr 2)) (.vr 6)) <|
    .prim (.ar .add .i64) (.mk2 tI tI (.p1 tI (.slice 37 tGrads) (.vr 2)) (.ci .i64 1)) <|
    .again 0 (.mk2 tI (.slice 37 tGrads) (.vr 8) (.vr 7))) (
    .prim (.llen 37 tGrads) (.p1 (.slice 37 tGrads) tI (.vr 0)) <|
    .prim (.cmp .lss .i64) (.mk2 tI tI (prA tRing 1 (.vr 0)) (.ci .i64 0)) <|
    .ite (.vr 5) (
     .ret (.mk2 (.slice 37 tGrads) tI (prA (.pair tI (.slice 37 tGrads)) 1 (.vr 2)) (prA tRing 1 (.vr 0)))) (
     .prim (.ar .mul .i64) (.mk2 tI tI (.ci .i64 2) (.vr 4)) <|
     .prim (.ar .sub .i64) (.mk2 tI tI (.vr 6) (.ci .i64 3)) <|
     .prim (.cmp .gtr .i64) (.mk2 tI tI (prA tRing 1 (.vr 0)) (.vr 7)) <|
     .ite (.vr 8) (
      .ret (.mk2 (.slice 37 tGrads) tI (prA (.pair tI (.slice 37 tGrads)) 1 (.vr 2)) (prA tRing 1 (.vr 0)))) (
      .prim (.ar .sub .i64) (.mk2 tI tI (.vr 4) (.ci .i64 2)) <|
      .prim (.cmp .leq .i64) (.mk2 tI tI (prA tRing 1 (.vr 0)) (.vr 9)) <|
      .ite (.vr 10) (
       .prim (.ar .add .i64) (.mk2 tI tI (prA tRing 1 (.vr 0)) (.ci .i64 1)) <|
       .prim (.ar .add .i64) (.mk2 tI tI (prA tRing 1 (.vr 0)) (.ci .i64 1)) <|
       .prim (.lidx 37 tGrads) (.mk2 (.slice 37 tGrads) tI (.p1 (.slice 37 tGrads) tI (.vr 0)) (prA tRing 1 (.vr 0))) <|
       .prim (.lidx 37 tGrads) (.mk2 (.slice 37 tGrads) tI (.p1 (.slice 37 tGrads) tI (.vr 0)) (.vr 12)) <|
       .call 1 (.mk2 tGrads tGrads (.vr 13) (.vr 14)) <|
       .prim (.lidx 37 tGrads) (.mk2 (.slice 37 tGrads) tI (prA (.pair tI (.slice 37 tGrads)) 1 (.vr 2)) (.vr 11)) <|
       .prim (.lset 37 tGrads) (mkA (.pair (.slice 37 tGrads) (.pair tI tGrads)) [(prA (.pair tI (.slice 37 tGrads)) 1 (.vr 2)), (.vr 11), (.vr 15)]) <|
       .prim (.ar .add .i64) (.mk2 tI tI (prA tRing 1 (.vr 0)) (.ci .i64 1)) <|
       .ret (.mk2 (.slice 37 tGrads) tI (.vr 17) (.vr 18))) (
       .prim (.ar .sub .i64) (.mk2 tI tI (.vr 4) (.ci .i64 1)) <|
       .prim (.ar .sub .i64) (.mk2 tI tI (prA tRing 1 (.vr 0)) (.vr 11)) <|
       .prim (.ar .sub .i64) (.mk2 tI tI (.vr 4) (.ci .i64 1)) <|
       .prim (.lidx 37 tGrads) (.mk2 (.slice 37 tGrads) tI (.p1 (.slice 37 tGrads) tI (.vr 0)) (.vr 13)) <|
       .call 0 (.vr 14) <|
       .prim (.lidx 37 tGrads) (.mk2 (.slice 37 tGrads) tI (prA (.pair tI (.slice 37 tGrads)) 1 (.vr 2)) (.vr 12)) <|
       .prim (.lset 37 tGrads) (mkA (.pair (.slice 37 tGrads) (.pair tI tGrads)) [(prA (.pair tI (.slice 37 tGrads)) 1 (.vr 2)), (.vr 12), (.vr 15)]) <|
       .prim (.ar .add .i64) (.mk2 tI tI (prA tRing 1 (.vr 0)) (.ci .i64 1)) <|
       .ret (.mk2 (.slice 37 tGrads) tI (.vr 17) (.vr 18))))))
set_option maxRecDepth 100000 in
theorem e_i_RingStep : exFn Try.prog [c_i_copyGrads, c_i_AddGrads] c_i_RingStep false 3000 ⟨[(2991, 1002, drd 11 8 ++ [.dr 0, .tm 14 0, .sl 6])], [(2981, 3005, [21], []), (2972, 24011, [60], []), (2972, 16011, [74], [])]⟩ = .ok t_i_RingStep := by kernel_rfl
/- loops: (Int) × (List ((List (List (Int))) × ((Int) × (Bool)))) -/
theorem v_i_RingStep (x : (List GradsD) × Int) (hx : okD tRing x) (hp : (fun x => RingB x) x) : t_i_RingStep.wp [c_i_copyGrads, c_i_AddGrads] [⟨tRing, x⟩] [] (fun v => v.as tRing = (fun x => ringStep x) x) := by
  obtain ⟨l, st⟩ := x
  obtain ⟨hl, hg⟩ : RingB (l, st) := hp
  dsimp only at hl hg
  have hst : -9223372036854775808 ≤ st ∧ st ≤ 9223372036854775807 := hx.2
  delta t_i_RingStep c_i_copyGrads c_i_AddGrads; refine vcx ?_; try with_reducible exact True.intro
  intro _
  refine ⟨fun s => ∃ k : Nat, k ≤ l.length ∧ s = ((k : Int), l.take k), fun s => l.length - (s.1 : Int).toNat, ⟨0, by omega, by simp⟩, fun s _ hI => ?_⟩
  obtain ⟨k, hk, rfl⟩ := hI
  dsimp only
  (refine dcx ?_; try with_reducible exact True.intro)
  constructor
  · intro hlt
    have hk' : k < l.length := by omega
    rw [getD_at hk']
    have hm := hg _ (List.getElem_mem hk')
    have hl2 : (l.take k).length = k := List.length_take_of_le hk
    (repeat' first | intro _ | (with_reducible apply And.intro))
    all_goals first | omega | (unfold maxLen; omega) | exact hm | (exact ⟨k + 1, by omega, by rw [take_at hk']; rfl⟩)
  · intro hge
    have : k = l.length := by omega
    subst this
    rw [List.take_length]
    (repeat' first | intro _ | (with_reducible apply And.intro))
    all_goals first | omega | (unfold maxLen; omega) | (exact getD_ok hg (by omega)) | skip
    all_goals unfold ringStep
    all_goals dsimp only
    · rw [if_pos (by omega)]
    · rw [if_pos (by omega)]
    · rw [if_neg (by omega), if_pos (by omega)]; rfl
    · rw [if_neg (by omega), if_neg (by omega), toNat_pred]; rfl
theorem h_i_RingStep : Con.Holds Try.prog c_i_RingStep := tree_ok mixedP (consAt h_i_copyGrads (consAt h_i_AddGrads consNil)) e_i_RingStep fun x hx hp => v_i_RingStep x hx hp
end Go.Proofs.Ytahggdiafncdhaa
