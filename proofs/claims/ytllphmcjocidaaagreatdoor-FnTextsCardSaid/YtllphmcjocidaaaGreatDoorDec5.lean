/- Dec5: trees, and what they say. -/
import Derived.Test.YtllphmcjocidaaaGreatDoorLaw4
namespace Go.Proofs.YtllphmcjocidaaaGreatDoor
open Go.ChangeShapes Go.WideShapes Go.ChangeAt Go.RowKit Go.Deep
set_option linter.unusedVariables false
set_option linter.unusedSimpArgs false
def nlB : ByteArray := ⟨#[10]⟩
def modS (l : List OpD) : ByteArray := (l.map fun o => opT o ++ nlB).foldl (fun s x => s ++ x) ⟨#[]⟩
theorem modS_next {l : List OpD} {k : Nat} (h : k < l.length) : modS (l.take (k + 1)) = modS (l.take k) ++ (opT l[k] ++ nlB) := by
  unfold modS
  rw [takeN h, List.map_append, List.foldl_append]
  rfl
theorem fold_size (B : Nat) : (l : List ByteArray) → (s : ByteArray) → (∀ x ∈ l, x.size ≤ B) → (l.foldl (fun s x => s ++ x) s).size ≤ s.size + l.length * B
  | [], s, _ => by simp
  | x :: l, s, h => by
    have h1 := fold_size B l (s ++ x) (fun y hy => h y (List.mem_cons_of_mem _ hy))
    have h2 := h x (by simp)
    rw [ba_size] at h1
    show (l.foldl (fun s x => s ++ x) (s ++ x)).size ≤ _
    rw [List.length_cons, Nat.succ_mul]
    omega
theorem modS_size (l : List OpD) : (modS l).size ≤ l.length * 1756 := by
  have h := fold_size 1756 (l.map fun o => opT o ++ nlB) ⟨#[]⟩ (fun x hx => by
    obtain ⟨o, _, rfl⟩ := List.mem_map.1 hx
    have := opT_size o
    have e : nlB.size = 1 := rfl
    rw [ba_size]; omega)
  rw [List.length_map] at h
  have e : (⟨#[]⟩ : ByteArray).size = 0 := rfl
  unfold modS
  omega
def modelT (m : List OpD) : ByteArray := if modelB m = true then modS m else ⟨#[]⟩

/-! impl.ShowModel -/

noncomputable def c_i_ShowModel : Con := ⟨15, tModel, .str, [.val ⟨true, tModel, []⟩], [⟨false, .str, [0]⟩], false, none,
  ((fun _ => True) : (ModelD) → Prop),
  ((fun x => modelT x) : (ModelD) → (ByteArray))⟩
def t_i_ShowModel : T :=
  .call 0 (.vr 0) <|
  .prim .not (.vr 1) <|
  .ite (.vr 2) (
   .ret (.cs ⟨#[]⟩)) (
   .prim (.llen 34 tOp) (.vr 0) <|
   .loop (.pair tI .str) (.mk2 tI .str (.ci .i64 0) (.cs ⟨#[]⟩)) <|
    .prim (.cmp .lss .i64) (.mk2 tI tI (.p1 tI .str (.vr 4)) (.vr 3)) <|
    .ite (.vr 5) (
     .prim (.lidx 34 tOp) (.mk2 tModel tI (.vr 0) (.p1 tI .str (.vr 4))) <|
     .call 1 (.vr 6) <|
     .prim .sadd (.mk2 .str .str (.vr 7) (.cs ⟨#[10]⟩)) <|
     .prim .sadd (.mk2 .str .str (prA (.pair tI .str) 1 (.vr 4)) (.vr 8)) <|
     .prim (.ar .add .i64) (.mk2 tI tI (.p1 tI .str (.vr 4)) (.ci .i64 1)) <|
     .again 0 (.mk2 tI .str (.vr 10) (.vr 9))) (
     .ret (prA (.pair tI .str) 1 (.vr 4))))
set_option maxRecDepth 100000 in
theorem e_i_ShowModel : exFn Tryz.prog [c_i_ModelOk, c_i_ShowOp] c_i_ShowModel false 3000 ⟨[(2986, 2004, drd 9 6 ++ [.dr 1, .dr 0, .tm 12 0, .tm 3 0])], []⟩ = .ok t_i_ShowModel := by kernel_rfl
/- loops: (Int) × (ByteArray) -/
theorem v_i_ShowModel (x : ModelD) (hx : okD tModel x) (hp : (fun _ => True) x) : t_i_ShowModel.wp [c_i_ModelOk, c_i_ShowOp] [⟨tModel, x⟩] [] (fun v => v.as .str = (fun x => modelT x) x) := by
  delta t_i_ShowModel c_i_ModelOk c_i_ShowOp; refine vcx ?_; try with_reducible exact True.intro
  (refine dcx ?_; try with_reducible exact True.intro)
  unfold modelT
  refine ⟨fun h => by rw [if_neg (by rw [h]; decide)], fun h => ?_⟩
  rw [if_pos h]
  have hl := ((modelB_iff x).1 h).2.1
  refine fun _ => loopF (fun k => ((k : Int), modS (x.take k))) x.length rfl fun I μ k hk _ go => ?_
  try dsimp only
  (refine dcx ?_; try with_reducible exact True.intro)
  have hs := modS_size (x.take k)
  rw [List.length_take] at hs
  refine ⟨fun hlt => ?_, fun hge => ?_⟩
  · have hk' : k < x.length := by omega
    have s1 := opT_size (x[k]'hk')
    have e : (⟨#[10]⟩ : ByteArray).size = 1 := rfl
    rw [getD_at hk']
    (repeat' first | intro _ | (refine go2 _ ?_ ?_ ?_) | (refine go2 _ ?_ ?_) | (refine go _ ?_ ?_ ?_) | (refine go _ ?_ ?_) | (with_reducible apply And.intro))
    all_goals first | omega | ((try simp only [ba_size]); unfold maxLen; omega) | exact pk (modS_next hk').symm
  · have : k = x.length := by omega
    subst this
    rw [List.take_length]
theorem h_i_ShowModel : Con.Holds Tryz.prog c_i_ShowModel := tree_ok mixedP (consAt h_i_ModelOk (consAt h_i_ShowOp consNil)) e_i_ShowModel fun x hx hp => v_i_ShowModel x hx hp

/-! spec.ShowModel -/

noncomputable def c_s_ShowModel : Con := ⟨24, tModel, .str, [.val ⟨true, tModel, []⟩], [⟨false, .str, [0]⟩], false, none,
  ((fun _ => True) : (ModelD) → Prop),
  ((fun x => modelT x) : (ModelD) → (ByteArray))⟩
def t_s_ShowModel : T :=
  .call 0 (.vr 0) <|
  .prim .not (.vr 1) <|
  .ite (.vr 2) (
   .ret (.cs ⟨#[]⟩)) (
   .loop (.pair tI .str) (.mk2 tI .str (.ci .i64 0) (.cs ⟨#[]⟩)) <|
    .prim (.llen 34 tOp) (.vr 0) <|
    .prim (.cmp .lss .i64) (.mk2 tI tI (.p1 tI .str (.vr 3)) (.vr 4)) <|
    .ite (.vr 5) (
     .prim (.lidx 34 tOp) (.mk2 tModel tI (.vr 0) (.p1 tI .str (.vr 3))) <|
     .call 1 (.vr 6) <|
     .prim .sadd (.mk2 .str .str (prA (.pair tI .str) 1 (.vr 3)) (.vr 7)) <|
     .prim .sadd (.mk2 .str .str (.vr 8) (.cs ⟨#[10]⟩)) <|
     .prim (.ar .add .i64) (.mk2 tI tI (.p1 tI .str (.vr 3)) (.ci .i64 1)) <|
     .again 0 (.mk2 tI .str (.vr 10) (.vr 9))) (
     .ret (prA (.pair tI .str) 1 (.vr 3))))
set_option maxRecDepth 100000 in
theorem e_s_ShowModel : exFn Tryz.prog [c_s_ModelOk, c_s_ShowOp] c_s_ShowModel false 3000 ⟨[(2986, 2003, drd 7 5 ++ [.dr 0, .tm 4 0, .tm 3 0])], []⟩ = .ok t_s_ShowModel := by kernel_rfl
/- loops: (Int) × (ByteArray) -/
theorem v_s_ShowModel (x : ModelD) (hx : okD tModel x) (hp : (fun _ => True) x) : t_s_ShowModel.wp [c_s_ModelOk, c_s_ShowOp] [⟨tModel, x⟩] [] (fun v => v.as .str = (fun x => modelT x) x) := by
  delta t_s_ShowModel c_s_ModelOk c_s_ShowOp; refine vcx ?_; try with_reducible exact True.intro
  (refine dcx ?_; try with_reducible exact True.intro)
  unfold modelT
  refine ⟨fun h => by rw [if_neg (by rw [h]; decide)], fun h => ?_⟩
  rw [if_pos h]
  have hl := ((modelB_iff x).1 h).2.1
  refine loopF (fun k => ((k : Int), modS (x.take k))) x.length rfl fun I μ k hk _ go => ?_
  try dsimp only
  (refine dcx ?_; try with_reducible exact True.intro)
  have hs := modS_size (x.take k)
  rw [List.length_take] at hs
  refine fun _ => ⟨fun hlt => ?_, fun hge => ?_⟩
  · have hk' : k < x.length := by omega
    have s1 := opT_size (x[k]'hk')
    have e : (⟨#[10]⟩ : ByteArray).size = 1 := rfl
    rw [getD_at hk']
    (repeat' first | intro _ | (refine go2 _ ?_ ?_ ?_) | (refine go2 _ ?_ ?_) | (refine go _ ?_ ?_ ?_) | (refine go _ ?_ ?_) | (with_reducible apply And.intro))
    all_goals first | omega | ((try simp only [ba_size]); unfold maxLen; omega) | exact pk ((modS_next hk').trans ByteArray.append_assoc.symm).symm
  · have : k = x.length := by omega
    subst this
    rw [List.take_length]
theorem h_s_ShowModel : Con.Holds Tryz.prog c_s_ShowModel := tree_ok mixedP (consAt h_s_ModelOk (consAt h_s_ShowOp consNil)) e_s_ShowModel fun x hx hp => v_s_ShowModel x hx hp

/-! laws.eqOpS -/

noncomputable def c_w_eqOpS : Con := ⟨28, (.pair tModel tModel), .bool, [.val ⟨false, tModel, []⟩, .val ⟨false, tModel, []⟩], [⟨false, .bool, [0]⟩], false, none,
  ((fun x => x.1 = x.2) : (ModelD × ModelD) → Prop),
  ((fun _ => true) : (ModelD × ModelD) → (Bool))⟩
def t_w_eqOpS : T :=
  .prim (.llen 34 tOp) (.p1 tModel tModel (.vr 0)) <|
  .prim (.llen 34 tOp) (prA (.pair tModel tModel) 1 (.vr 0)) <|
  .prim (.cmp .neq .i64) (.mk2 tI tI (.vr 1) (.vr 2)) <|
  .ite (.vr 3) (
   .ret (.cb false)) (
   .loop tI (.ci .i64 0) <|
    .prim (.llen 34 tOp) (.p1 tModel tModel (.vr 0)) <|
    .prim (.cmp .lss .i64) (.mk2 tI tI (.vr 4) (.vr 5)) <|
    .ite (.vr 6) (
     .prim (.lidx 34 tOp) (.mk2 tModel tI (.p1 tModel tModel (.vr 0)) (.vr 4)) <|
     .prim (.lidx 34 tOp) (.mk2 tModel tI (prA (.pair tModel tModel) 1 (.vr 0)) (.vr 4)) <|
     .call 0 (.mk2 tOp tOp (.vr 7) (.vr 8)) <|
     .prim .not (.vr 9) <|
     .ite (.vr 10) (
      .ret (.cb false)) (
      .prim (.ar .add .i64) (.mk2 tI tI (.vr 4) (.ci .i64 1)) <|
      .again 0 (.vr 11))) (
     .ret (.cb true)))
set_option maxRecDepth 100000 in
theorem e_w_eqOpS : exFn Tryz.prog [c_w_eqOp] c_w_eqOpS false 3000 ⟨[(2988, 2004, drd 10 6 ++ [.tm 5 0])], []⟩ = .ok t_w_eqOpS := by kernel_rfl
/- loops: Int -/
theorem v_w_eqOpS (x : ModelD × ModelD) (hx : okD (.pair tModel tModel) x) (hp : (fun x => x.1 = x.2) x) : t_w_eqOpS.wp [c_w_eqOp] [⟨(.pair tModel tModel), x⟩] [] (fun v => v.as .bool = (fun _ => true) x) := by
  obtain ⟨a, b⟩ := x
  obtain rfl : a = b := hp
  have hl := len_max (show List.length a ≤ maxLen from hx.1.1)
  delta t_w_eqOpS c_w_eqOp; refine vcx ?_; try with_reducible exact True.intro
  (refine dcx ?_; try with_reducible exact True.intro)
  refine fun _ _ => ⟨fun h => absurd trivial h, fun _ => loopF (fun k => (k : Int)) a.length rfl fun I μ k hk _ go => ?_⟩
  try dsimp only
  (refine dcx ?_; try with_reducible exact True.intro)
  refine fun _ => ⟨fun hlt => ?_, fun hge => trivial⟩
  have hk' : k < a.length := by omega
  (repeat' first | intro _ | (refine go2 _ ?_ ?_ ?_) | (refine go2 _ ?_ ?_) | (refine go _ ?_ ?_ ?_) | (refine go _ ?_ ?_) | (with_reducible apply And.intro))
  all_goals first | omega | rfl | trivial | (exfalso; simp_all; done) | skip
theorem h_w_eqOpS : Con.Holds Tryz.prog c_w_eqOpS := tree_ok mixedP (consAt h_w_eqOp consNil) e_w_eqOpS fun x hx hp => v_w_eqOpS x hx hp

/-! laws.eqModel -/

noncomputable def c_w_eqModel : Con := ⟨7, (.pair tModel tModel), .bool, [.val ⟨true, tModel, []⟩, .val ⟨true, tModel, []⟩], [⟨false, .bool, [0]⟩], false, none,
  ((fun x => x.1 = x.2) : (ModelD × ModelD) → Prop),
  ((fun _ => true) : (ModelD × ModelD) → (Bool))⟩
def t_w_eqModel : T :=
  .call 0 (.vr 0) <|
  .prim .not (.vr 1) <|
  .ite (.vr 2) (
   .ret (.cb false)) (
   .ret (.cb true))
set_option maxRecDepth 100000 in
theorem e_w_eqModel : exFn Tryz.prog [c_w_eqOpS] c_w_eqModel false 3000 ⟨[], []⟩ = .ok t_w_eqModel := by kernel_rfl
theorem v_w_eqModel (x : ModelD × ModelD) (hx : okD (.pair tModel tModel) x) (hp : (fun x => x.1 = x.2) x) : t_w_eqModel.wp [c_w_eqOpS] [⟨(.pair tModel tModel), x⟩] [] (fun v => v.as .bool = (fun _ => true) x) := by
  obtain ⟨a, b⟩ := x
  obtain rfl : a = b := hp
  delta t_w_eqModel c_w_eqOpS; refine vcx ?_; try with_reducible exact True.intro
  simp
theorem h_w_eqModel : Con.Holds Tryz.prog c_w_eqModel := tree_ok mixedP (consAt h_w_eqOpS consNil) e_w_eqModel fun x hx hp => v_w_eqModel x hx hp
end Go.Proofs.YtllphmcjocidaaaGreatDoor
