/- A part of a row's element, met once: read, and written anew. No program in sight. -/
import Derived.Test.YtllphmcjocidaaaGreatDoorCe
namespace Go.Proofs.YtllphmcjocidaaaGreatDoor
open Go.ChangeShapes Go.WideShapes Go.ChangeAt Go.RowKit Go.Deep
set_option linter.unusedVariables false
set_option linter.unusedSimpArgs false
def subP : Ty → List Bool → Ty
  | .pair a _, false :: π => subP a π
  | .pair _ b, true :: π => subP b π
  | t, _ => t
def getP : (t : Ty) → (π : List Bool) → t.D → (subP t π).D
  | .pair a _, false :: π, x => getP a π x.1
  | .pair _ b, true :: π, x => getP b π x.2
  | .pair _ _, [], x => x
  | .int _, _, x => x
  | .bool, _, x => x
  | .str, _, x => x
  | .slice _ _, _, x => x
def putP : (t : Ty) → (π : List Bool) → t.D → (subP t π).D → t.D
  | .pair a _, false :: π, x, v => (putP a π x.1 v, x.2)
  | .pair _ b, true :: π, x, v => (x.1, putP b π x.2 v)
  | .pair _ _, [], _, v => v
  | .int _, _, _, v => v
  | .bool, _, _, v => v
  | .str, _, _, v => v
  | .slice _ _, _, _, v => v
def offP : Ty → List Bool → Nat
  | .pair a _, false :: π => offP a π
  | .pair a b, true :: π => a.n + offP b π
  | _, _ => 0
/-- What a part needs, and what it gives back. -/
def PathU (t : Ty) (π : List Bool) (w : World) (c : List Value) (d : t.D) (bl : List Nat) : Prop :=
  ∃ c1 cu c2 b1 bu b2, c = c1 ++ (cu ++ c2) ∧ c1.length = offP t π ∧ bl = b1 ++ (bu ++ b2) ∧ Un (subP t π) w cu (getP t π d) bu ∧
    ∀ w' cu' v', (∀ q, q ∈ b1 ∨ q ∈ b2 → w'.heap[q]? = w.heap[q]?) → Un (subP t π) w' cu' v' bu → Un t w' (c1 ++ (cu' ++ c2)) (putP t π d v') bl
theorem un_path : (t : Ty) → (π : List Bool) → (w : World) → (c : List Value) → (d : t.D) → (bl : List Nat) → Un t w c d bl → PathU t π w c d bl
  | .pair a b, false :: π, w, c, d, bl, h => by
    obtain ⟨x1, x2, y1, y2, rfl, rfl, h1, h2⟩ := h
    obtain ⟨c1, cu, c2, b1, bu, b2, rfl, hl, rfl, hu, hk⟩ := un_path a π w x1 d.1 y1 h1
    refine ⟨c1, cu, c2 ++ x2, b1, bu, b2 ++ y2, by simp, hl, by simp, hu, fun w' cu' v' hw hv => ?_⟩
    refine ⟨c1 ++ (cu' ++ c2), x2, b1 ++ (bu ++ b2), y2, by simp, rfl, hk w' cu' v' (fun q hq => hw q ?_) hv, Un.keep _ _ _ _ (fun q hq => hw q ?_) h2⟩
    · rcases hq with hq | hq
      · exact .inl hq
      · exact .inr (by simp [hq])
    · exact .inr (by simp [hq])
  | .pair a b, true :: π, w, c, d, bl, h => by
    obtain ⟨x1, x2, y1, y2, rfl, rfl, h1, h2⟩ := h
    obtain ⟨c1, cu, c2, b1, bu, b2, rfl, hl, rfl, hu, hk⟩ := un_path b π w x2 d.2 y2 h2
    refine ⟨x1 ++ c1, cu, c2, y1 ++ b1, bu, b2, by simp, by rw [List.length_append, Un.length h1, hl]; rfl, by simp, hu, fun w' cu' v' hw hv => ?_⟩
    refine ⟨x1, c1 ++ (cu' ++ c2), y1, b1 ++ (bu ++ b2), by simp, by simp, Un.keep _ _ _ _ (fun q hq => hw q ?_) h1, hk w' cu' v' (fun q hq => hw q ?_) hv⟩
    · exact .inl (by simp [hq])
    · rcases hq with hq | hq
      · exact .inl (by simp [hq])
      · exact .inr hq
  | .pair a b, [], w, c, d, bl, h => ⟨[], c, [], [], bl, [], by simp, rfl, by simp, h, fun w' cu' v' _ hv => by rw [List.nil_append, List.append_nil]; exact hv⟩
  | .int k, π, w, c, d, bl, h => ⟨[], c, [], [], bl, [], by simp, rfl, by simp, h, fun w' cu' v' _ hv => by rw [List.nil_append, List.append_nil]; exact hv⟩
  | .bool, π, w, c, d, bl, h => ⟨[], c, [], [], bl, [], by simp, rfl, by simp, h, fun w' cu' v' _ hv => by rw [List.nil_append, List.append_nil]; exact hv⟩
  | .str, π, w, c, d, bl, h => ⟨[], c, [], [], bl, [], by simp, rfl, by simp, h, fun w' cu' v' _ hv => by rw [List.nil_append, List.append_nil]; exact hv⟩
  | .slice e t, π, w, c, d, bl, h => ⟨[], c, [], [], bl, [], by simp, rfl, by simp, h, fun w' cu' v' _ hv => by rw [List.nil_append, List.append_nil]; exact hv⟩
theorem nodup_mid {b1 bu b2 : List Nat} (h : (b1 ++ (bu ++ b2)).Nodup) : bu.Nodup ∧ ∀ q, q ∈ b1 ∨ q ∈ b2 → q ∉ bu := by
  simp only [List.nodup_append, List.mem_append] at h
  obtain ⟨h1, ⟨h2, h3, h4⟩, h5⟩ := h
  exact ⟨h2, fun q hq hb => hq.elim (fun h => h5 q h q (.inl hb) rfl) (fun h => h4 q hb q h rfl)⟩
section
variable {t : Ty} {e : TypeId} {w : World} {v : Value} {M : List t.D} {bl : List Nat} {x : t.D} {k : Nat}
theorem un_leaf (h : Un (.slice e t) w [v] (M.set k x) bl) (hnd : bl.Nodup) (hk : k < M.length) (π : List Bool) :
    ∃ b cap cu bu, v = .slice (some ⟨b, 0, none⟩) M.length cap ∧ b ∈ bl ∧ (∀ j, w.frozen? ⟨b, j, none⟩ = false) ∧ (∀ j (hj : j < cu.length), w.cell? ⟨b, k * t.n + (offP t π + j), none⟩ = some cu[j]) ∧
      Un (subP t π) w cu (getP t π x) bu ∧ bu.Nodup ∧ (∀ q ∈ bu, q ∈ bl) ∧
      (∀ w' v', (∀ q, q ∉ bu → q < w.heap.size → w'.heap[q]? = w.heap[q]?) → Un (subP t π) w' cu v' bu → Un (.slice e t) w' [v] (M.set k (putP t π x v')) bl) ∧
      (∀ u v', cu.length = 1 → Un (subP t π) w [u] v' bu → Un (.slice e t) (w.setCell ⟨b, k * t.n + offP t π, none⟩ u) [v] (M.set k (putP t π x v')) bl) := by
  have hk' : k < (M.set k x).length := by rw [List.length_set]; exact hk
  obtain ⟨b, cap, c, bk, hv, hb, hz, hfz, hcl, hc, hR, hsub, hnb, hno, hU, hV⟩ := un_lens h hnd k hk'
  rw [List.getElem_set_self] at hR
  have hlt := un_lt _ _ _ _ _ hR
  obtain ⟨c1, cu, c2, b1, bu, b2, rfl, hl, rfl, hu, hp⟩ := un_path t π w c x bk hR
  obtain ⟨n1, n2⟩ := nodup_mid hnb
  refine ⟨b, cap, cu, bu, by rw [hv, List.length_set], hb, hfz, fun j hj => ?_, hu, n1, fun q hq => hsub q (by simp [hq]), fun w' v' hw hv' => ?_, fun u v' h1 hv' => ?_⟩
  · have h2 := hc (offP t π + j) (by simp only [List.length_append]; omega)
    rw [h2]
    congr 1
    rw [List.getElem_append_right (by omega), List.getElem_append_left (by omega)]
    congr 1; omega
  · have h3 := hU w' _ (fun q hq hz => hw q (fun hm => hq (by simp [hm])) hz) (hp w' cu v' (fun q hq => hw q (n2 q hq) (hlt q (by rcases hq with hq | hq <;> simp [hq]))) hv')
    rwa [List.set_set] at h3
  · obtain ⟨z, rfl⟩ : ∃ z, cu = [z] := by
      match cu, h1 with
      | [z], _ => exact ⟨z, rfl⟩
    have h3 := hV (offP t π) u _ (by simp only [List.length_append, List.length_cons]; omega) (by
      have h4 := hp w [u] v' (fun _ _ => rfl) hv'
      rw [List.set_append_right _ _ (by omega), hl, Nat.sub_self]
      exact h4)
    rwa [List.set_set] at h3
end
section
variable {t : Ty} {w : World} {c : List Value} {d : t.D} {bl : List Nat}
theorem un_rd (h : Un t w c d bl) : rd t w c d := RdG.rd (fun b hb => un_lt _ _ _ _ _ h b hb) (Un.rdg _ _ _ _ h)
/-- The same of a struct's own cells. -/
theorem un_top (h : Un t w c d bl) (hnd : bl.Nodup) (π : List Bool) : ∃ bu, Un (subP t π) w ((c.drop (offP t π)).take (subP t π).n) (getP t π d) bu ∧ bu.Nodup ∧ (∀ q ∈ bu, q ∈ bl) ∧
    ∀ w' v', (∀ q, q ∉ bu → q < w.heap.size → w'.heap[q]? = w.heap[q]?) → Un (subP t π) w' ((c.drop (offP t π)).take (subP t π).n) v' bu → Un t w' c (putP t π d v') bl := by
  have hlt := un_lt _ _ _ _ _ h
  obtain ⟨c1, cu, c2, b1, bu, b2, rfl, hl, rfl, hu, hp⟩ := un_path t π w c d bl h
  obtain ⟨n1, n2⟩ := nodup_mid hnd
  have e : ((c1 ++ (cu ++ c2)).drop (offP t π)).take (subP t π).n = cu := by
    rw [← hl, List.drop_left, ← Un.length hu, List.take_left]
  rw [e]
  exact ⟨bu, hu, n1, fun q hq => by simp [hq], fun w' v' hw hv => hp w' cu v' (fun q hq => hw q (n2 q hq) (hlt q (by rcases hq with hq | hq <;> simp [hq]))) hv⟩
end
end Go.Proofs.YtllphmcjocidaaaGreatDoor
