/- TextJoins: of two parts, one behind the other, the bytes are those of both; what covers spans holds each of them. The pure statement, over lists and numbers. Conditions: none beyond what the arguments read as. -/
import Derived.Test.YtobmgnndndklbaaInTextJoins
namespace Go.Proofs.Ytobmgnndndklbaa.Pure
set_option linter.unusedVariables false
set_option linter.unusedSimpArgs false
open Go.RowKit Go.Proofs.YtobmgnndndklbaaW.PrintWords Go.Proofs.YtobmgnndndklbaaW.PrintLast Go.Proofs.YtobmgnndndklbaaW.PrintMore Go.Proofs.Ytobmgnndndklbaa.PAll Go.Proofs.Ytobmgnndndklbaa.Frame

theorem holds_eq (a b c d : Int) : text_Holds.f a b c d = some (decide (a ≤ c ∧ d ≤ b)) := by
  unfold text_Holds.f
  by_cases h : c ≥ a
  · rw [if_pos h]
    have : a ≤ c := h
    simp [this]
  · rw [if_neg h]
    have : ¬ a ≤ c := h
    simp [this]
theorem meets_eq (a b c d : Int) : text_Meets.f a b c d = some (decide (a < b ∧ a < d ∧ c < b ∧ c < d)) := by
  unfold text_Meets.f
  congr 1
  rw [decide_eq_decide]
  unfold mx mn
  split <;> split <;> omega
theorem alive_ge (k : Nat) : oriellaw01_alive.f (20 + k) = some true := by
  induction k with
  | zero => kernel_rfl
  | succ k ih => exact oriellaw01_alive.mono _ _ ih
theorem alive_yes (k : Nat) (h : 20 ≤ k) : oriellaw01_alive.f k = some true := by
  have := alive_ge (k - 20)
  rwa [show 20 + (k - 20) = k by omega] at this
theorem wrap_id {x : Int} (h0 : -9223372036854775808 ≤ x) (h1 : x ≤ 9223372036854775807) : wrap64 x = x := by
  unfold wrap64
  omega
theorem right_eq (s : ByteArray) (a b : Int) : text_Right.f s a b = some (decide (0 ≤ a ∧ a ≤ b ∧ b ≤ s.size)) := by
  unfold text_Right.f
  by_cases h : a ≥ 0
  · rw [if_pos h]
    have h' : 0 ≤ a := h
    by_cases h2 : b ≥ a
    · rw [if_pos h2]
      have h2' : a ≤ b := h2
      simp [h', h2']
    · rw [if_neg h2]
      have h2' : ¬ a ≤ b := h2
      simp [h2']
  · rw [if_neg h]
    have h' : ¬ 0 ≤ a := h
    simp [h']
theorem part_yes (s : ByteArray) (a b : Int) (h : 0 ≤ a ∧ a ≤ b ∧ b ≤ s.size) : text_Part.f s a b = some (s.extract a.toNat b.toNat, 0) := by
  unfold text_Part.f
  rw [right_eq, Option.bind_some, if_pos (by simpa using h), if_pos h.1, if_pos h.2.1, if_pos h.2.2]
theorem part_no (s : ByteArray) (a b : Int) (h : ¬ (0 ≤ a ∧ a ≤ b ∧ b ≤ s.size)) : text_Part.f s a b = some (⟨#[]⟩, 2) := by
  unfold text_Part.f
  rw [right_eq, Option.bind_some, if_neg (by simpa using h)]
theorem cover_l0 (l : List S23) (hl : l.length ≤ 9223372036854775807) (d : Nat) : ∀ (k : Nat) (i c0 c1 : Int), 0 ≤ i → i ≤ l.length → (l.length : Int) - i = d → d < k →
    ∃ m M, text_Cover.l0 k l (l.length : Int) i c0 c1 = some (m, M, true) ∧ m ≤ c0 ∧ c1 ≤ M ∧ (∀ j, i ≤ j → j < l.length → m ≤ (rd_T23 l j).f0 ∧ (rd_T23 l j).f1 ≤ M) ∧
      (m = c0 ∨ ∃ j, i ≤ j ∧ j < l.length ∧ (rd_T23 l j).f0 = m) ∧ (M = c1 ∨ ∃ j, i ≤ j ∧ j < l.length ∧ (rd_T23 l j).f1 = M) := by
  induction d with
  | zero =>
    intro k i c0 c1 h0 h1 hd hk
    obtain ⟨k, rfl⟩ : ∃ m, k = m + 1 := ⟨k - 1, by omega⟩
    refine ⟨c0, c1, ?_, Int.le_refl _, Int.le_refl _, fun j _ _ => by omega, .inl rfl, .inl rfl⟩
    simp only [text_Cover.l0]
    rw [if_neg (by omega)]
  | succ d ih =>
    intro k i c0 c1 h0 h1 hd hk
    obtain ⟨k, rfl⟩ : ∃ m, k = m + 1 := ⟨k - 1, by omega⟩
    have hlt : i < (l.length : Int) := by omega
    obtain ⟨m, M, hr, e0, e1, e2, e3, e4⟩ := ih k (i + 1) (mn c0 (rd_T23 l i).f0) (mx c1 (rd_T23 l i).f1) (by omega) (by omega) (by omega) (by omega)
    have hmn : mn c0 (rd_T23 l i).f0 ≤ c0 ∧ mn c0 (rd_T23 l i).f0 ≤ (rd_T23 l i).f0 ∧ (mn c0 (rd_T23 l i).f0 = c0 ∨ mn c0 (rd_T23 l i).f0 = (rd_T23 l i).f0) := by
      unfold mn; split <;> omega
    have hmx : c1 ≤ mx c1 (rd_T23 l i).f1 ∧ (rd_T23 l i).f1 ≤ mx c1 (rd_T23 l i).f1 ∧ (mx c1 (rd_T23 l i).f1 = c1 ∨ mx c1 (rd_T23 l i).f1 = (rd_T23 l i).f1) := by
      unfold mx; split <;> omega
    generalize hu : mn c0 (rd_T23 l i).f0 = u at *
    generalize hv : mx c1 (rd_T23 l i).f1 = v at *
    refine ⟨m, M, ?_, by omega, by omega, fun j hj hj2 => ?_, ?_, ?_⟩
    · simp only [text_Cover.l0]
      rw [if_pos hlt, if_pos h0, if_pos hlt, wrap_id (by omega) (by omega), hu, hv]
      exact hr
    · by_cases hji : j = i
      · subst hji; omega
      · exact e2 j (by omega) hj2
    · rcases e3 with e3 | ⟨j, h3, h4, h5⟩
      · rcases hmn.2.2 with h | h
        · left; omega
        · right; exact ⟨i, Int.le_refl _, hlt, by omega⟩
      · right; exact ⟨j, by omega, h4, h5⟩
    · rcases e4 with e4 | ⟨j, h3, h4, h5⟩
      · rcases hmx.2.2 with h | h
        · left; omega
        · right; exact ⟨i, Int.le_refl _, hlt, by omega⟩
      · right; exact ⟨j, by omega, h4, h5⟩

theorem main_l0 (l : List S23) (m M : Int) (hl : l.length ≤ 9223372036854775807) (hb : ∀ j : Int, 0 ≤ j → j < (l.length : Int) → m ≤ (rd_T23 l j).f0 ∧ (rd_T23 l j).f1 ≤ M) (d : Nat) : ∀ (k : Nat) (i : Int) (lo hi : Bool), 0 ≤ i → i ≤ l.length → (l.length : Int) - i = d → d + 21 < k →
    (lo = true ∨ ∃ j, i ≤ j ∧ j < l.length ∧ (rd_T23 l j).f0 = m) → (hi = true ∨ ∃ j, i ≤ j ∧ j < l.length ∧ (rd_T23 l j).f1 = M) →
    oriellaw01_TextJoins.l0 k true lo hi l (l.length : Int) i m M = some true := by
  induction d with
  | zero =>
    intro k i lo hi h0 h1 hd hk hlo hhi
    obtain ⟨k, rfl⟩ : ∃ m, k = m + 1 := ⟨k - 1, by omega⟩
    have e1 : lo = true := by
      rcases hlo with h | ⟨j, h3, h4, _⟩
      · exact h
      · omega
    have e2 : hi = true := by
      rcases hhi with h | ⟨j, h3, h4, _⟩
      · exact h
      · omega
    subst e1 e2
    simp only [oriellaw01_TextJoins.l0]
    rw [if_neg (by omega), alive_yes k (by omega)]
    rfl
  | succ d ih =>
    intro k i lo hi h0 h1 hd hk hlo hhi
    obtain ⟨k, rfl⟩ : ∃ m, k = m + 1 := ⟨k - 1, by omega⟩
    have hlt : i < (l.length : Int) := by omega
    have hbi := hb i h0 hlt
    have step : ∀ lo' hi' : Bool, (lo' = true ∨ (rd_T23 l i).f0 ≠ m ∧ lo = false) → (hi' = true ∨ (rd_T23 l i).f1 ≠ M ∧ hi = false) → oriellaw01_TextJoins.l0 k true lo' hi' l (l.length : Int) (i + 1) m M = some true := by
      intro lo' hi' a b
      refine ih k (i + 1) lo' hi' (by omega) (by omega) (by omega) (by omega) ?_ ?_
      · rcases a with a | ⟨a, a2⟩
        · exact .inl a
        · right
          rcases hlo with h | ⟨j, h3, h4, h5⟩
          · rw [a2] at h; cases h
          · exact ⟨j, (by
              have e : j ≠ i := fun e => a (e ▸ h5)
              omega), h4, h5⟩
      · rcases b with a | ⟨a, a2⟩
        · exact .inl a
        · right
          rcases hhi with h | ⟨j, h3, h4, h5⟩
          · rw [a2] at h; cases h
          · exact ⟨j, (by
              have e : j ≠ i := fun e => a (e ▸ h5)
              omega), h4, h5⟩
    simp only [oriellaw01_TextJoins.l0, holds_eq, meets_eq, Option.bind_some]
    rw [if_pos hlt, if_pos h0, if_pos hlt, if_pos (by simpa using hbi), wrap_id (by omega) (by omega)]
    rw [if_neg (by
      have : decide (m < M ∧ m < (rd_T23 l i).f1 ∧ (rd_T23 l i).f0 < M ∧ (rd_T23 l i).f0 < (rd_T23 l i).f1) = decide ((rd_T23 l i).f0 < (rd_T23 l i).f1 ∧ (rd_T23 l i).f0 < M ∧ m < (rd_T23 l i).f1 ∧ m < M) := by
        rw [decide_eq_decide]; omega
      simp [this])]
    cases lo <;> cases hi
    · rw [if_neg (by simp), if_neg (by simp)]
      exact step _ _ (by by_cases e : (rd_T23 l i).f0 = m <;> simp [e]) (by by_cases e : (rd_T23 l i).f1 = M <;> simp [e])
    · rw [if_neg (by simp), if_pos rfl]
      exact step _ _ (by by_cases e : (rd_T23 l i).f0 = m <;> simp [e]) (.inl rfl)
    · rw [if_pos rfl, if_neg (by simp)]
      exact step _ _ (.inl rfl) (by by_cases e : (rd_T23 l i).f1 = M <;> simp [e])
    · rw [if_pos rfl, if_pos rfl]
      exact step _ _ (.inl rfl) (.inl rfl)
theorem j1_yes (l : List S23) (hl : l.length ≤ 100) (k : Nat) (hk : 200 ≤ k) : oriellaw01_TextJoins.j1 (k + 1) l false = some true := by
  simp only [oriellaw01_TextJoins.j1]
  rw [if_neg (by simp)]
  by_cases h : l.length = 0
  · have : l = [] := List.eq_nil_of_length_eq_zero h
    subst this
    have e : text_Cover.f k [] = some (0, 0, false) := rfl
    rw [e]
    obtain ⟨k, rfl⟩ : ∃ m, k = m + 1 := ⟨k - 1, by omega⟩
    simp only [Option.bind_some, oriellaw01_TextJoins.l0]
    simp [alive_yes k (by omega)]
  · obtain ⟨m, M, hr, e0, e1, e2, e3, e4⟩ := cover_l0 l (by omega) l.length k 0 (rd_T23 l 0).f0 (rd_T23 l 0).f1 (by omega) (by omega) (by omega) (by omega)
    have e : text_Cover.f k l = some (m, M, true) := by
      unfold text_Cover.f
      rw [if_neg (by omega), if_pos (by omega), hr]
    rw [e]
    simp only [Option.bind_some]
    rw [if_neg (by
      have : 0 < l.length := by omega
      simp [this])]
    refine main_l0 l m M (by omega) e2 l.length k 0 false false (by omega) (by omega) (by omega) (by omega) (.inr ?_) (.inr ?_)
    · rcases e3 with h | ⟨j, h⟩
      · exact ⟨0, by omega, by omega, h.symm⟩
      · exact ⟨j, h⟩
    · rcases e4 with h | ⟨j, h⟩
      · exact ⟨0, by omega, by omega, h.symm⟩
      · exact ⟨j, h⟩
theorem extract_join (s : ByteArray) (a b c : Nat) (h1 : a ≤ b) (h2 : b ≤ c) (h3 : c ≤ s.size) : s.extract a b ++ s.extract b c = s.extract a c := by
  rw [ByteArray.extract_append_extract, Nat.min_eq_left h1, Nat.max_eq_right h2]
theorem TextJoins : oriellaw01_TextJoins.Pure := by
  intro s a b c l _ _ _ _ _
  refine ⟨300, ?_⟩
  unfold oriellaw01_TextJoins.f
  have yes : oriellaw01_TextJoins.j0 300 s a b c l true = some true := by
    simp only [oriellaw01_TextJoins.j0]
    rw [alive_yes 299 (by omega)]
    rfl
  by_cases h : (s.size : Int) > 1000
  · rw [if_pos h]; exact yes
  · rw [if_neg h]
    by_cases h2 : (l.length : Int) > 100
    · rw [show decide ((l.length : Int) > 100) = true by simpa using h2]; exact yes
    · rw [show decide ((l.length : Int) > 100) = false by simpa using h2]
      have hj := j1_yes l (by omega) 298 (by omega)
      simp only [oriellaw01_TextJoins.j0]
      rw [if_neg (by simp)]
      by_cases p1 : 0 ≤ a ∧ a ≤ b ∧ b ≤ s.size
      · by_cases p2 : 0 ≤ b ∧ b ≤ c ∧ c ≤ s.size
        · have p3 : 0 ≤ a ∧ a ≤ c ∧ c ≤ s.size := by omega
          rw [part_yes s a b p1, part_yes s b c p2, part_yes s a c p3]
          simp only [Option.bind_some, oriellaw01_No.f]
          rw [if_pos (show wrap64 (0 + 0) = 0 by kernel_rfl), if_pos trivial, if_pos (by simp only [ByteArray.size_extract]; omega), extract_join s _ _ _ (by omega) (by omega) (by omega)]
          simpa using hj
        · rw [part_yes s a b p1, part_no s b c p2]
          obtain ⟨x, e, he⟩ : ∃ x e, text_Part.f s a c = some (x, e) := by
            by_cases p3 : 0 ≤ a ∧ a ≤ c ∧ c ≤ s.size
            · exact ⟨_, _, part_yes s a c p3⟩
            · exact ⟨_, _, part_no s a c p3⟩
          rw [he]
          simp only [Option.bind_some, oriellaw01_No.f]
          rw [if_neg (show ¬ wrap64 (0 + 2) = 0 by rw [wrap_id (by omega) (by omega)]; omega)]
          exact hj
      · rw [part_no s a b p1]
        obtain ⟨y, f, hf, h0⟩ : ∃ y f, text_Part.f s b c = some (y, f) ∧ 0 ≤ f ∧ f ≤ 2 := by
          by_cases p3 : 0 ≤ b ∧ b ≤ c ∧ c ≤ s.size
          · exact ⟨_, _, part_yes s b c p3, by omega, by omega⟩
          · exact ⟨_, _, part_no s b c p3, by omega, by omega⟩
        obtain ⟨x, e, he⟩ : ∃ x e, text_Part.f s a c = some (x, e) := by
          by_cases p3 : 0 ≤ a ∧ a ≤ c ∧ c ≤ s.size
          · exact ⟨_, _, part_yes s a c p3⟩
          · exact ⟨_, _, part_no s a c p3⟩
        rw [hf, he]
        simp only [Option.bind_some, oriellaw01_No.f]
        rw [if_neg (by rw [wrap_id (by omega) (by omega)]; omega)]
        exact hj

end Go.Proofs.Ytobmgnndndklbaa.Pure
