/- Dec3: trees, and what they say. -/
import Derived.Test.YtahggdiafncdhaaDoorDec2
import Derived.Test.YtahggdiafncdhaaDoorLoop
namespace Go.Proofs.YtahggdiafncdhaaDoor
open Go.ChangeShapes Go.WideShapes Go.ChangeAt Go.RowKit Go.Deep
set_option linter.unusedVariables false
set_option linter.unusedSimpArgs false
def insW (k : Int) : ByteArray :=
  if k = 1 then ⟨#[114, 101, 99, 118]⟩ else if k = 2 then ⟨#[102, 119, 100]⟩ else if k = 3 then ⟨#[115, 101, 110, 100]⟩ else if k = 4 then ⟨#[114, 101, 99, 118, 103]⟩ else
  if k = 5 then ⟨#[114, 101, 100, 111]⟩ else if k = 6 then ⟨#[98, 119, 100]⟩ else if k = 7 then ⟨#[115, 101, 110, 100, 103]⟩ else if k = 8 then ⟨#[102, 108, 117, 115, 104]⟩ else ⟨#[]⟩
theorem insW_size (k : Int) : (insW k).size ≤ 5 := by
  unfold insW
  repeat' split
  all_goals decide
def sp : ByteArray := ⟨#[32]⟩
theorem sp_size : sp.size = 1 := rfl
def insS (p : Int × Int) : ByteArray := insW p.1 ++ decS p.2
theorem insS_size {p : Int × Int} (h : inK .i64 p.2) : (insS p).size ≤ 26 := by
  have h1 := insW_size p.1
  have h2 := decS_size h
  unfold insS
  rw [ba_size]; omega
def planS (l : List (Int × Int)) : ByteArray := joinB (l.map insS) sp
theorem takeN {α : Type} {l : List α} {k : Nat} (h : k < l.length) : l.take (k + 1) = l.take k ++ [l[k]] := List.take_succ_eq_append_getElem h
theorem planS_size {l : List (Int × Int)} (h : ∀ p ∈ l, inK .i64 p.2) : (planS l).size ≤ l.length * 27 := by
  have := joinB_size (B := 26) (xs := l.map insS) (sep := sp) (fun x hx => by
    obtain ⟨p, hp, rfl⟩ := List.mem_map.1 hx
    exact insS_size (h p hp))
  rw [List.length_map, sp_size] at this
  exact this
theorem planS_next {l : List (Int × Int)} {k : Nat} (h : k < l.length) (h0 : 0 < k) : planS (l.take (k + 1)) = planS (l.take k) ++ sp ++ insW l[k].1 ++ decS l[k].2 := by
  unfold planS
  rw [takeN h, List.map_append, List.map_cons, List.map_nil, joinB_snoc (by simp; constructor; omega; intro e; subst e; simp at h)]
  unfold insS
  rw [← ByteArray.append_assoc]
theorem planS_one {l : List (Int × Int)} (h : 0 < l.length) : planS (l.take 1) = planS (l.take 0) ++ insW l[0].1 ++ decS l[0].2 := by
  unfold planS
  rw [takeN h, List.take_zero, List.nil_append, List.map_cons, List.map_nil, joinB_one, joinB_nil, nil_app]
  rfl
theorem set_next {α : Type} {l : List α} {z : α} {k : Nat} (h : k < l.length) : (l.take k ++ List.replicate (l.length - k) z).set k l[k] = l.take (k + 1) ++ List.replicate (l.length - (k + 1)) z := by
  have e : l.length - k = (l.length - (k + 1)) + 1 := by omega
  have hl : (l.take k).length = k := by rw [List.length_take]; omega
  rw [e, List.replicate_succ, List.set_append_right _ _ (by omega), hl, Nat.sub_self, List.set_cons_zero, takeN h, List.append_assoc]
  rfl
theorem okD_mem {e : TypeId} {t : Ty} {l : List t.D} (h : okD (.slice e t) l) : ∀ x ∈ l, okD t x := h.2

/-! impl.InsWord -/

noncomputable def c_i_InsWord : Con := ⟨29, tI, .str, [.val ⟨false, tI, []⟩], [⟨false, .str, [0]⟩], false, none,
  ((fun _ => True) : (Int) → Prop),
  ((fun x => insW x) : (Int) → (ByteArray))⟩
def t_i_InsWord : T :=
  .prim (.cmp .eql .i64) (.mk2 tI tI (.vr 0) (.ci .i64 1)) <|
  .ite (.vr 1) (
   .ret (.cs ⟨#[114, 101, 99, 118]⟩)) (
   .prim (.cmp .eql .i64) (.mk2 tI tI (.vr 0) (.ci .i64 2)) <|
   .ite (.vr 2) (
    .ret (.cs ⟨#[102, 119, 100]⟩)) (
    .prim (.cmp .eql .i64) (.mk2 tI tI (.vr 0) (.ci .i64 3)) <|
    .ite (.vr 3) (
     .ret (.cs ⟨#[115, 101, 110, 100]⟩)) (
     .prim (.cmp .eql .i64) (.mk2 tI tI (.vr 0) (.ci .i64 4)) <|
     .ite (.vr 4) (
      .ret (.cs ⟨#[114, 101, 99, 118, 103]⟩)) (
      .prim (.cmp .eql .i64) (.mk2 tI tI (.vr 0) (.ci .i64 5)) <|
      .ite (.vr 5) (
       .ret (.cs ⟨#[114, 101, 100, 111]⟩)) (
       .prim (.cmp .eql .i64) (.mk2 tI tI (.vr 0) (.ci .i64 6)) <|
       .ite (.vr 6) (
        .ret (.cs ⟨#[98, 119, 100]⟩)) (
        .prim (.cmp .eql .i64) (.mk2 tI tI (.vr 0) (.ci .i64 7)) <|
        .ite (.vr 7) (
         .ret (.cs ⟨#[115, 101, 110, 100, 103]⟩)) (
         .prim (.cmp .eql .i64) (.mk2 tI tI (.vr 0) (.ci .i64 8)) <|
         .ite (.vr 8) (
          .ret (.cs ⟨#[102, 108, 117, 115, 104]⟩)) (
          .ret (.cs ⟨#[]⟩)))))))))
set_option maxRecDepth 100000 in
theorem e_i_InsWord : exFn Tryd.prog [] c_i_InsWord false 3000 ⟨[], []⟩ = .ok t_i_InsWord := by kernel_rfl
theorem v_i_InsWord (x : Int) (hx : okD tI x) (hp : (fun _ => True) x) : t_i_InsWord.wp [] [⟨tI, x⟩] [] (fun v => v.as .str = (fun x => insW x) x) := by
  delta t_i_InsWord; refine vcx ?_; try with_reducible exact True.intro
  (refine dcx ?_; try with_reducible exact True.intro)
  unfold insW
  (repeat' first | intro _ | (with_reducible apply And.intro))
  all_goals simp [*]
theorem h_i_InsWord : Con.Holds Tryd.prog c_i_InsWord := tree_ok mixedP consNil e_i_InsWord fun x hx hp => v_i_InsWord x hx hp

/-! spec.InsWord -/

noncomputable def c_s_InsWord : Con := ⟨26, tI, .str, [.val ⟨false, tI, []⟩], [⟨false, .str, [0]⟩], false, none,
  ((fun _ => True) : (Int) → Prop),
  ((fun x => insW x) : (Int) → (ByteArray))⟩
def t_s_InsWord : T :=
  .call 0 (mkA (.pair tI tIns) [(.vr 0), (.ci .i64 1), (.ci .i64 8)]) <|
  .prim .not (.vr 1) <|
  .ite (.vr 2) (
   .ret (.cs ⟨#[]⟩)) (
   .prim (.lit 9 .str 8) (mkA (.pair .str (.pair .str (.pair .str (.pair .str (.pair .str (.pair .str (.pair .str .str))))))) [(.cs ⟨#[114, 101, 99, 118]⟩), (.cs ⟨#[102, 119, 100]⟩), (.cs ⟨#[115, 101, 110, 100]⟩), (.cs ⟨#[114, 101, 99, 118, 103]⟩), (.cs ⟨#[114, 101, 100, 111]⟩), (.cs ⟨#[98, 119, 100]⟩), (.cs ⟨#[115, 101, 110, 100, 103]⟩), (.cs ⟨#[102, 108, 117, 115, 104]⟩)]) <|
   .prim (.ar .sub .i64) (.mk2 tI tI (.vr 0) (.ci .i64 1)) <|
   .prim (.lidx 9 .str) (.mk2 (.slice 9 .str) tI (.vr 3) (.vr 4)) <|
   .prim (.lidx 9 .str) (.mk2 (.slice 9 .str) tI (.vr 3) (.vr 4)) <|
   .ret (.vr 6))
set_option maxRecDepth 100000 in
theorem e_s_InsWord : exFn Tryd.prog [c_s_l1In] c_s_InsWord false 3000 ⟨[], []⟩ = .ok t_s_InsWord := by kernel_rfl
theorem v_s_InsWord (x : Int) (hx : okD tI x) (hp : (fun _ => True) x) : t_s_InsWord.wp [c_s_l1In] [⟨tI, x⟩] [] (fun v => v.as .str = (fun x => insW x) x) := by
  delta t_s_InsWord c_s_l1In; refine vcx ?_; try with_reducible exact True.intro
  refine ⟨fun h => ?_, fun h => ?_⟩
  · have h1 : x ≤ 0 ∨ 9 ≤ x := by simp at h; omega
    unfold insW
    rw [if_neg (by omega), if_neg (by omega), if_neg (by omega), if_neg (by omega), if_neg (by omega), if_neg (by omega), if_neg (by omega), if_neg (by omega)]
  · have h1 : x = 1 ∨ x = 2 ∨ x = 3 ∨ x = 4 ∨ x = 5 ∨ x = 6 ∨ x = 7 ∨ x = 8 := by simp at h; omega
    rcases h1 with rfl | rfl | rfl | rfl | rfl | rfl | rfl | rfl <;> ((repeat' first | intro _ | (with_reducible apply And.intro)) <;> first | decide | rfl | omega)
theorem h_s_InsWord : Con.Holds Tryd.prog c_s_InsWord := tree_ok mixedP (consAt h_s_l1In consNil) e_s_InsWord fun x hx hp => v_s_InsWord x hx hp

/-! impl.ShowPlan -/

noncomputable def c_i_ShowPlan : Con := ⟨10, tPlan, .str, [.val ⟨false, tPlan, []⟩], [⟨false, .str, [0]⟩], false, none,
  ((fun x => x.length ≤ 1048576) : (List InsD) → Prop),
  ((fun x => planS x) : (List InsD) → (ByteArray))⟩
def t_i_ShowPlan : T :=
  .prim (.llen 55 tIns) (.vr 0) <|
  .loop (.pair tI (.slice 9 .str)) (.mk2 tI (.slice 9 .str) (.ci .i64 0) (.nl 9 .str)) <|
   .prim (.cmp .lss .i64) (.mk2 tI tI (.p1 tI (.slice 9 .str) (.vr 2)) (.vr 1)) <|
   .ite (.vr 3) (
    .prim (.lidx 55 tIns) (.mk2 tPlan tI (.vr 0) (.p1 tI (.slice 9 .str) (.vr 2))) <|
    .call 0 (.p1 tI tI (.vr 4)) <|
    .call 1 (prA tIns 1 (.vr 4)) <|
    .prim .sadd (.mk2 .str .str (.vr 5) (.vr 6)) <|
    .prim (.lit 9 .str 1) (.vr 7) <|
    .prim (.lapp 9 .str 16) (.mk2 (.slice 9 .str) (.slice 9 .str) (prA (.pair tI (.slice 9 .str)) 1 (.vr 2)) (.vr 8)) <|
    .prim (.ar .add .i64) (.mk2 tI tI (.p1 tI (.slice 9 .str) (.vr 2)) (.ci .i64 1)) <|
    .again 0 (.mk2 tI (.slice 9 .str) (.vr 10) (.vr 9))) (
    .call 2 (.mk2 (.slice 9 .str) .str (prA (.pair tI (.slice 9 .str)) 1 (.vr 2)) (.cs ⟨#[32]⟩)) <|
    .ret (.vr 4))
set_option maxRecDepth 100000 in
theorem e_i_ShowPlan : exFn Tryd.prog [c_i_InsWord, c_i_Dec, c_t_Join] c_i_ShowPlan false 3000 ⟨[(2991, 1002, [.dr 6, .dr 0, .tm 9 0, .on 3, .sl 1])], []⟩ = .ok t_i_ShowPlan := by kernel_rfl
/- loops: (Int) × (List (ByteArray)) -/
theorem v_i_ShowPlan (x : List InsD) (hx : okD tPlan x) (hp : (fun x => x.length ≤ 1048576) x) : t_i_ShowPlan.wp [c_i_InsWord, c_i_Dec, c_t_Join] [⟨tPlan, x⟩] [] (fun v => v.as .str = (fun x => planS x) x) := by
  have hpl : x.length ≤ 1048576 := hp
  have hm : ∀ p ∈ x, inK .i64 p.2 := fun p h => (hx.2 p h).2
  delta t_i_ShowPlan c_i_InsWord c_i_Dec c_t_Join; refine vcx ?_; try with_reducible exact True.intro
  refine fun _ => loopF (fun k => ((k : Int), (x.take k).map insS)) x.length rfl fun I μ k hk _ go => ?_
  try dsimp only
  (refine dcx ?_; try with_reducible exact True.intro)
  have hl : ((x.take k).map insS).length = k := by rw [List.length_map, List.length_take]; omega
  refine ⟨fun hlt => ?_, fun hge => ?_⟩
  · have hk' : k < x.length := by omega
    have s1 := insW_size (x[k]'hk').1
    have s2 := decS_size (hm (x[k]'hk') (List.getElem_mem hk'))
    rw [getD_at hk', hl]
    (repeat' first | intro _ | (refine go2 _ ?_ ?_ ?_) | (refine go2 _ ?_ ?_) | (refine go _ ?_ ?_ ?_) | (refine go _ ?_ ?_) | (with_reducible apply And.intro))
    all_goals first | omega | (unfold maxLen; omega) | skip
    exact pk (by rw [takeN hk', List.map_append]; rfl)
  · have : k = x.length := by omega
    subst this
    have h2 := planS_size hm
    rw [List.take_length]
    unfold planS at h2 ⊢
    (repeat' first | intro _ | (with_reducible apply And.intro))
    all_goals first | omega | (rw [List.length_map]; omega) | (unfold sp at h2; omega) | rfl
theorem h_i_ShowPlan : Con.Holds Tryd.prog c_i_ShowPlan := tree_ok mixedP (consAt h_i_InsWord (consAt h_i_Dec (consAt h_t_Join consNil))) e_i_ShowPlan fun x hx hp => v_i_ShowPlan x hx hp

/-! spec.ShowPlan -/

noncomputable def c_s_ShowPlan : Con := ⟨8, tPlan, .str, [.val ⟨false, tPlan, []⟩], [⟨false, .str, [0]⟩], false, none,
  ((fun x => x.length ≤ 1048576) : (List InsD) → Prop),
  ((fun x => planS x) : (List InsD) → (ByteArray))⟩
def t_s_ShowPlan : T :=
  .loop (.pair tI .str) (.mk2 tI .str (.ci .i64 0) (.cs ⟨#[]⟩)) <|
   .prim (.llen 55 tIns) (.vr 0) <|
   .prim (.cmp .lss .i64) (.mk2 tI tI (.p1 tI .str (.vr 1)) (.vr 2)) <|
   .ite (.vr 3) (
    .prim (.cmp .gtr .i64) (.mk2 tI tI (.p1 tI .str (.vr 1)) (.ci .i64 0)) <|
    .ite (.vr 4) (
     .prim .sadd (.mk2 .str .str (prA (.pair tI .str) 1 (.vr 1)) (.cs ⟨#[32]⟩)) <|
     .prim (.lidx 55 tIns) (.mk2 tPlan tI (.vr 0) (.p1 tI .str (.vr 1))) <|
     .prim (.lidx 55 tIns) (.mk2 tPlan tI (.vr 0) (.p1 tI .str (.vr 1))) <|
     .call 0 (.p1 tI tI (.vr 6)) <|
     .prim .sadd (.mk2 .str .str (.vr 5) (.vr 8)) <|
     .call 1 (prA tIns 1 (.vr 7)) <|
     .prim .sadd (.mk2 .str .str (.vr 9) (.vr 10)) <|
     .prim (.ar .add .i64) (.mk2 tI tI (.p1 tI .str (.vr 1)) (.ci .i64 1)) <|
     .again 0 (.mk2 tI .str (.vr 12) (.vr 11))) (
     .prim (.lidx 55 tIns) (.mk2 tPlan tI (.vr 0) (.p1 tI .str (.vr 1))) <|
     .prim (.lidx 55 tIns) (.mk2 tPlan tI (.vr 0) (.p1 tI .str (.vr 1))) <|
     .call 0 (.p1 tI tI (.vr 5)) <|
     .prim .sadd (.mk2 .str .str (prA (.pair tI .str) 1 (.vr 1)) (.vr 7)) <|
     .call 1 (prA tIns 1 (.vr 6)) <|
     .prim .sadd (.mk2 .str .str (.vr 8) (.vr 9)) <|
     .prim (.ar .add .i64) (.mk2 tI tI (.p1 tI .str (.vr 1)) (.ci .i64 1)) <|
     .again 0 (.mk2 tI .str (.vr 11) (.vr 10)))) (
    .ret (prA (.pair tI .str) 1 (.vr 1)))
set_option maxRecDepth 100000 in
theorem e_s_ShowPlan : exFn Tryd.prog [c_s_InsWord, c_s_Dec] c_s_ShowPlan false 3000 ⟨[(2991, 1001, [.tm 4 0, .tm 3 0])], []⟩ = .ok t_s_ShowPlan := by kernel_rfl
/- loops: (Int) × (ByteArray) -/
theorem v_s_ShowPlan (x : List InsD) (hx : okD tPlan x) (hp : (fun x => x.length ≤ 1048576) x) : t_s_ShowPlan.wp [c_s_InsWord, c_s_Dec] [⟨tPlan, x⟩] [] (fun v => v.as .str = (fun x => planS x) x) := by
  have hpl : x.length ≤ 1048576 := hp
  have hm : ∀ p ∈ x, inK .i64 p.2 := fun p h => (hx.2 p h).2
  delta t_s_ShowPlan c_s_InsWord c_s_Dec; refine vcx ?_; try with_reducible exact True.intro
  refine loopF (fun k => ((k : Int), planS (x.take k))) x.length rfl fun I μ k hk _ go => ?_
  try dsimp only
  (refine dcx ?_; try with_reducible exact True.intro)
  have h2 := planS_size (l := x.take k) (fun p h => hm p (List.mem_of_mem_take h))
  rw [List.length_take] at h2
  refine fun _ => ⟨fun hlt => ?_, fun hge => ?_⟩
  · have hk' : k < x.length := by omega
    have s1 := insW_size (x[k]'hk').1
    have s2 := decS_size (hm (x[k]'hk') (List.getElem_mem hk'))
    have s3 : (⟨#[32]⟩ : ByteArray).size = 1 := rfl
    rw [getD_at hk']
    have n1 : 0 < k → planS (x.take (k + 1)) = planS (x.take k) ++ ⟨#[32]⟩ ++ insW x[k].1 ++ decS x[k].2 := fun h => planS_next hk' h
    have n0 : k = 0 → planS (x.take (k + 1)) = planS (x.take k) ++ insW x[k].1 ++ decS x[k].2 := fun h => by subst h; exact planS_one hk'
    (repeat' first | intro _ | (refine go2 _ ?_ ?_ ?_) | (refine go2 _ ?_ ?_) | (refine go _ ?_ ?_ ?_) | (refine go _ ?_ ?_) | (with_reducible apply And.intro))
    all_goals first | omega | ((try simp only [ba_size]); unfold maxLen; omega) | skip
    all_goals first | exact pk (n1 (by omega)).symm | exact pk (n0 (by omega)).symm
  · have : k = x.length := by omega
    subst this
    rw [List.take_length]
theorem h_s_ShowPlan : Con.Holds Tryd.prog c_s_ShowPlan := tree_ok mixedP (consAt h_s_InsWord (consAt h_s_Dec consNil)) e_s_ShowPlan fun x hx hp => v_s_ShowPlan x hx hp

/-! laws.szInsS -/

noncomputable def c_w_szInsS : Con := ⟨7, (.pair (.slice 57 tIns) tI), tI, [.val ⟨false, (.slice 57 tIns), []⟩, .val ⟨false, tI, []⟩], [⟨false, tI, [0]⟩], false, none,
  ((fun x => x.2 = 1048576) : ((List InsD) × Int) → Prop),
  ((fun x => if x.1.length ≤ 1048576 then x.2 - (x.1.length : Int) else -1) : ((List InsD) × Int) → (Int))⟩
def t_w_szInsS : T :=
  .prim (.llen 57 tIns) (.p1 (.slice 57 tIns) tI (.vr 0)) <|
  .prim (.ar .sub .i64) (.mk2 tI tI (prA (.pair (.slice 57 tIns) tI) 1 (.vr 0)) (.vr 1)) <|
  .prim (.cmp .lss .i64) (.mk2 tI tI (.vr 2) (.ci .i64 0)) <|
  .ite (.vr 3) (
   .ret (.ci .i64 (-1))) (
   .ret (.vr 2))
set_option maxRecDepth 100000 in
theorem e_w_szInsS : exFn Tryd.prog [] c_w_szInsS false 3000 ⟨[], []⟩ = .ok t_w_szInsS := by kernel_rfl
theorem v_w_szInsS (x : (List InsD) × Int) (hx : okD (.pair (.slice 57 tIns) tI) x) (hp : (fun x => x.2 = 1048576) x) : t_w_szInsS.wp [] [⟨(.pair (.slice 57 tIns) tI), x⟩] [] (fun v => v.as tI = (fun x => if x.1.length ≤ 1048576 then x.2 - (x.1.length : Int) else -1) x) := by
  obtain ⟨l, n⟩ := x
  obtain rfl : n = 1048576 := hp
  have hl := len_max (show List.length l ≤ maxLen from hx.1.1)
  delta t_w_szInsS; refine vcx ?_; try with_reducible exact True.intro
  (refine dcx ?_; try with_reducible exact True.intro)
  (repeat' first | intro _ | (with_reducible apply And.intro))
  all_goals first | omega | (rw [if_neg (by omega)]) | (rw [if_pos (by omega)])
theorem h_w_szInsS : Con.Holds Tryd.prog c_w_szInsS := tree_ok mixedP consNil e_w_szInsS fun x hx hp => v_w_szInsS x hx hp

/-! laws.toIns -/

noncomputable def c_w_toIns : Con := ⟨28, tIns, tIns, [.val ⟨true, tIns, []⟩], [⟨true, tIns, [0, 0]⟩], false, none,
  ((fun _ => True) : (Int × Int) → Prop),
  ((fun x => x) : (Int × Int) → (Int × Int))⟩
def t_w_toIns : T :=
  .ret (.vr 0)
set_option maxRecDepth 100000 in
theorem e_w_toIns : exFn Tryd.prog [] c_w_toIns false 3000 ⟨[], []⟩ = .ok t_w_toIns := by kernel_rfl
theorem v_w_toIns (x : Int × Int) (hx : okD tIns x) (hp : (fun _ => True) x) : t_w_toIns.wp [] [⟨tIns, x⟩] [] (fun v => v.as tIns = (fun x => x) x) := by
  delta t_w_toIns; refine vcx ?_; try with_reducible exact True.intro
theorem h_w_toIns : Con.Holds Tryd.prog c_w_toIns := tree_ok mixedP consNil e_w_toIns fun x hx hp => v_w_toIns x hx hp

/-! laws.toInsS -/

noncomputable def c_w_toInsS : Con := ⟨9, (.slice 57 tIns), tPlan, [.val ⟨false, (.slice 57 tIns), []⟩], [⟨false, tPlan, [2]⟩], false, none,
  ((fun x => x.length ≤ 1048576) : (List InsD) → Prop),
  ((fun x => x) : (List InsD) → (List InsD))⟩
def t_w_toInsS : T :=
  .prim (.llen 57 tIns) (.vr 0) <|
  .prim (.rep 55 tIns 16) (.vr 1) <|
  .loop (.pair tI tPlan) (.mk2 tI tPlan (.ci .i64 0) (.vr 2)) <|
   .prim (.llen 57 tIns) (.vr 0) <|
   .prim (.cmp .lss .i64) (.mk2 tI tI (.p1 tI tPlan (.vr 3)) (.vr 4)) <|
   .ite (.vr 5) (
    .prim (.lidx 57 tIns) (.mk2 (.slice 57 tIns) tI (.vr 0) (.p1 tI tPlan (.vr 3))) <|
    .call 0 (.vr 6) <|
    .prim (.lidx 55 tIns) (.mk2 tPlan tI (prA (.pair tI tPlan) 1 (.vr 3)) (.p1 tI tPlan (.vr 3))) <|
    .prim (.lset 55 tIns) (mkA (.pair tPlan (.pair tI tIns)) [(prA (.pair tI tPlan) 1 (.vr 3)), (.p1 tI tPlan (.vr 3)), (.vr 7)]) <|
    .prim (.ar .add .i64) (.mk2 tI tI (.p1 tI tPlan (.vr 3)) (.ci .i64 1)) <|
    .again 0 (.mk2 tI tPlan (.vr 10) (.vr 9))) (
    .ret (prA (.pair tI tPlan) 1 (.vr 3)))
set_option maxRecDepth 100000 in
theorem e_w_toInsS : exFn Tryd.prog [c_w_toIns] c_w_toInsS false 3000 ⟨[(2991, 1003, drd 7 5 ++ [.tm 4 0, .sl 1])], []⟩ = .ok t_w_toInsS := by kernel_rfl
/- loops: (Int) × (List ((Int) × (Int))) -/
theorem v_w_toInsS (x : List InsD) (hx : okD (.slice 57 tIns) x) (hp : (fun x => x.length ≤ 1048576) x) : t_w_toInsS.wp [c_w_toIns] [⟨(.slice 57 tIns), x⟩] [] (fun v => v.as tPlan = (fun x => x) x) := by
  have hpl : x.length ≤ 1048576 := hp
  delta t_w_toInsS c_w_toIns; refine vcx ?_; try with_reducible exact True.intro
  (refine dcx ?_; try with_reducible exact True.intro)
  refine fun _ => ⟨by unfold repC; exact ⟨by omega, by omega, by omega⟩, fun _ => loopF (fun k => ((k : Int), x.take k ++ List.replicate (x.length - k) (zeroD tIns))) x.length rfl fun I μ k hk _ go => ?_⟩
  try dsimp only
  (refine dcx ?_; try with_reducible exact True.intro)
  have hl : (x.take k).length + (List.replicate (x.length - k) (zeroD tIns)).length = x.length := by rw [List.length_take, List.length_replicate]; omega
  refine fun _ => ⟨fun hlt => ?_, fun hge => ?_⟩
  · have hk' : k < x.length := by omega
    rw [getD_at hk']
    (repeat' first | intro _ | (refine go2 _ ?_ ?_ ?_) | (refine go2 _ ?_ ?_) | (refine go _ ?_ ?_ ?_) | (refine go _ ?_ ?_) | (with_reducible apply And.intro))
    all_goals first | omega | skip
    exact pk (set_next hk')
  · have : k = x.length := by omega
    subst this
    rw [Nat.sub_self, List.replicate_zero, List.append_nil, List.take_length]
theorem h_w_toInsS : Con.Holds Tryd.prog c_w_toInsS := tree_ok mixedP (consAt h_w_toIns consNil) e_w_toInsS fun x hx hp => v_w_toInsS x hx hp

/-! laws.eqIns -/

noncomputable def c_w_eqIns : Con := ⟨32, (.pair tIns tIns), .bool, [.val ⟨true, tIns, []⟩, .val ⟨true, tIns, []⟩], [⟨false, .bool, [0]⟩], false, none,
  ((fun x => x.1 = x.2) : (InsD × InsD) → Prop),
  ((fun _ => true) : (InsD × InsD) → (Bool))⟩
def t_w_eqIns : T :=
  .prim (.cmp .neq .i64) (.mk2 tI tI (.p1 tI tI (.p1 tIns tIns (.vr 0))) (pjA (.pair tIns tIns) 1 (.vr 0))) <|
  .ite (.vr 1) (
   .ret (.cb false)) (
   .prim (.cmp .neq .i64) (.mk2 tI tI (prA tIns 1 (.p1 tIns tIns (.vr 0))) (prA (.pair tIns tIns) 2 (.vr 0))) <|
   .ite (.vr 2) (
    .ret (.cb false)) (
    .ret (.cb true)))
set_option maxRecDepth 100000 in
theorem e_w_eqIns : exFn Tryd.prog [] c_w_eqIns false 3000 ⟨[], []⟩ = .ok t_w_eqIns := by kernel_rfl
theorem v_w_eqIns (x : InsD × InsD) (hx : okD (.pair tIns tIns) x) (hp : (fun x => x.1 = x.2) x) : t_w_eqIns.wp [] [⟨(.pair tIns tIns), x⟩] [] (fun v => v.as .bool = (fun _ => true) x) := by
  obtain ⟨a, b⟩ := x
  obtain rfl : a = b := hp
  delta t_w_eqIns; refine vcx ?_; try with_reducible exact True.intro
  simp
theorem h_w_eqIns : Con.Holds Tryd.prog c_w_eqIns := tree_ok mixedP consNil e_w_eqIns fun x hx hp => v_w_eqIns x hx hp

/-! laws.eqInsS -/

noncomputable def c_w_eqInsS : Con := ⟨11, (.pair tPlan tPlan), .bool, [.val ⟨false, tPlan, []⟩, .val ⟨false, tPlan, []⟩], [⟨false, .bool, [0]⟩], false, none,
  ((fun x => x.1 = x.2) : ((List InsD) × (List InsD)) → Prop),
  ((fun _ => true) : ((List InsD) × (List InsD)) → (Bool))⟩
def t_w_eqInsS : T :=
  .prim (.llen 55 tIns) (.p1 tPlan tPlan (.vr 0)) <|
  .prim (.llen 55 tIns) (prA (.pair tPlan tPlan) 1 (.vr 0)) <|
  .prim (.cmp .neq .i64) (.mk2 tI tI (.vr 1) (.vr 2)) <|
  .ite (.vr 3) (
   .ret (.cb false)) (
   .loop tI (.ci .i64 0) <|
    .prim (.llen 55 tIns) (.p1 tPlan tPlan (.vr 0)) <|
    .prim (.cmp .lss .i64) (.mk2 tI tI (.vr 4) (.vr 5)) <|
    .ite (.vr 6) (
     .prim (.lidx 55 tIns) (.mk2 tPlan tI (.p1 tPlan tPlan (.vr 0)) (.vr 4)) <|
     .prim (.lidx 55 tIns) (.mk2 tPlan tI (prA (.pair tPlan tPlan) 1 (.vr 0)) (.vr 4)) <|
     .call 0 (.mk2 tIns tIns (.vr 7) (.vr 8)) <|
     .prim .not (.vr 9) <|
     .ite (.vr 10) (
      .ret (.cb false)) (
      .prim (.ar .add .i64) (.mk2 tI tI (.vr 4) (.ci .i64 1)) <|
      .again 0 (.vr 11))) (
     .ret (.cb true)))
set_option maxRecDepth 100000 in
theorem e_w_eqInsS : exFn Tryd.prog [c_w_eqIns] c_w_eqInsS false 3000 ⟨[(2988, 2004, drd 10 6 ++ [.tm 5 0])], []⟩ = .ok t_w_eqInsS := by kernel_rfl
/- loops: Int -/
theorem v_w_eqInsS (x : (List InsD) × (List InsD)) (hx : okD (.pair tPlan tPlan) x) (hp : (fun x => x.1 = x.2) x) : t_w_eqInsS.wp [c_w_eqIns] [⟨(.pair tPlan tPlan), x⟩] [] (fun v => v.as .bool = (fun _ => true) x) := by
  obtain ⟨a, b⟩ := x
  obtain rfl : a = b := hp
  have hl := len_max (show List.length a ≤ maxLen from hx.1.1)
  delta t_w_eqInsS c_w_eqIns; refine vcx ?_; try with_reducible exact True.intro
  (refine dcx ?_; try with_reducible exact True.intro)
  refine fun _ _ => ⟨fun h => absurd trivial h, fun _ => loopF (fun k => (k : Int)) a.length rfl fun I μ k hk _ go => ?_⟩
  try dsimp only
  (refine dcx ?_; try with_reducible exact True.intro)
  refine fun _ => ⟨fun hlt => ?_, fun hge => trivial⟩
  have hk' : k < a.length := by omega
  (repeat' first | intro _ | (refine go2 _ ?_ ?_ ?_) | (refine go2 _ ?_ ?_) | (refine go _ ?_ ?_ ?_) | (refine go _ ?_ ?_) | (with_reducible apply And.intro))
  all_goals first | omega | rfl | trivial | (exfalso; simp_all; done) | skip
theorem h_w_eqInsS : Con.Holds Tryd.prog c_w_eqInsS := tree_ok mixedP (consAt h_w_eqIns consNil) e_w_eqInsS fun x hx hp => v_w_eqInsS x hx hp

/-! laws.FnExactShowPlan -/

noncomputable def c_w_FnExactShowPlan : Con := ⟨3, (.slice 57 tIns), .bool, [.val ⟨false, (.slice 57 tIns), []⟩], [⟨false, .bool, [0]⟩], false, none,
  ((fun _ => True) : (List InsD) → Prop),
  ((fun _ => true) : (List InsD) → (Bool))⟩
def t_w_FnExactShowPlan : T :=
  .call 0 (.mk2 (.slice 57 tIns) tI (.vr 0) (.ci .i64 1048576)) <|
  .prim (.cmp .lss .i64) (.mk2 tI tI (.vr 1) (.ci .i64 0)) <|
  .ite (.vr 2) (
   .ret (.cb true)) (
   .call 1 (.vr 0) <|
   .call 2 (.vr 3) <|
   .call 1 (.vr 0) <|
   .call 3 (.vr 5) <|
   .prim (.seq true) (.mk2 .str .str (.vr 6) (.vr 4)) <|
   .ite (.vr 7) (
    .ret (.cb false)) (
    .call 1 (.vr 0) <|
    .call 4 (.mk2 tPlan tPlan (.vr 5) (.vr 8)) <|
    .prim .not (.vr 9) <|
    .ite (.vr 10) (
     .ret (.cb false)) (
     .ret (.cb true))))
set_option maxRecDepth 100000 in
theorem e_w_FnExactShowPlan : exFn Tryd.prog [c_w_szInsS, c_w_toInsS, c_s_ShowPlan, c_i_ShowPlan, c_w_eqInsS] c_w_FnExactShowPlan false 3000 ⟨[], []⟩ = .ok t_w_FnExactShowPlan := by kernel_rfl
theorem v_w_FnExactShowPlan (x : List InsD) (hx : okD (.slice 57 tIns) x) (hp : (fun _ => True) x) : t_w_FnExactShowPlan.wp [c_w_szInsS, c_w_toInsS, c_s_ShowPlan, c_i_ShowPlan, c_w_eqInsS] [⟨(.slice 57 tIns), x⟩] [] (fun v => v.as .bool = (fun _ => true) x) := by
  delta t_w_FnExactShowPlan c_w_szInsS c_w_toInsS c_s_ShowPlan c_i_ShowPlan c_w_eqInsS; refine vcx ?_; try with_reducible exact True.intro
  (refine dcx ?_; try with_reducible exact True.intro)
  refine fun _ => ⟨fun _ => trivial, fun h => ?_⟩
  have hl : x.length ≤ 1048576 := by
    by_cases h2 : x.length ≤ 1048576
    · exact h2
    · rw [if_neg h2] at h; omega
  (repeat' first | intro _ | (with_reducible apply And.intro))
  all_goals first | exact hl | rfl | trivial | (exfalso; simp_all; done) | skip
theorem h_w_FnExactShowPlan : Con.Holds Tryd.prog c_w_FnExactShowPlan := tree_ok mixedP (consAt h_w_szInsS (consAt h_w_toInsS (consAt h_s_ShowPlan (consAt h_i_ShowPlan (consAt h_w_eqInsS consNil))))) e_w_FnExactShowPlan fun x hx hp => v_w_FnExactShowPlan x hx hp
end Go.Proofs.YtahggdiafncdhaaDoor
