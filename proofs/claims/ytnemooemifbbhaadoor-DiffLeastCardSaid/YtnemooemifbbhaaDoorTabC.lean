/- The document's table, walked: it is the table of the greatest common rows. A plain law. Conditions: the lists' lengths, as each theorem says. -/
import Derived.Test.YtnemooemifbbhaaDoorTabB
import Derived.Test.YtnemooemifbbhaaDoorPDLx8
namespace Go.Proofs.YtnemooemifbbhaaDoor.TabC
open Go Go.RowKit Go.Proofs.YtnemooemifbbhaaDoorW.PrintWords Go.Proofs.YtnemooemifbbhaaDoor.PDL Go.Proofs.YtnemooemifbbhaaDoor.TabB
set_option linter.unusedVariables false
set_option linter.unusedSimpArgs false
theorem wid {x : Int} (h0 : -9223372036854775808 ≤ x) (h1 : x ≤ 9223372036854775807) : wrap64 x = x := by
  unfold wrap64
  omega
theorem rd_part (a b : List ByteArray) (i k : Int) (j q : Nat) (hj : j ≤ a.length) (hq : q ≤ b.length) : rd (rd_L4 (tpart a b i k) (j : Int)) (q : Int) = if i < (j : Int) ∨ i = (j : Int) ∧ k < (q : Int) then (lcs (a.drop j) (b.drop q) : Int) else 0 := by
  have := part_at a b i k j q hj hq
  simpa [rd, rd_L4] using this
theorem len_part (a b : List ByteArray) (i k : Int) (j : Nat) (hj : j ≤ a.length) : (rd_L4 (tpart a b i k) (j : Int)).length = b.length + 1 := by
  have := part_row_len a b i k j hj
  simpa [rd_L4] using this
theorem rdOf_get (l : List ByteArray) (i : Nat) (h : i < l.length) : rdOf ByteArray.empty l (i : Int) = l[i] := by
  simp [rdOf, h]
theorem R_l2 (a b : List ByteArray) (ha : a.length ≤ 1000000) (hb : b.length ≤ 1000000) (i : Nat) (hi : i < a.length) (R : List (List Int))
    (hR : Ev (fun k => orielref27_Rests.l1 k a b (tpart a b ((i : Int) - 1) ((b.length : Int) - 1)) ((i : Int) - 1)) R) :
    ∀ q : Nat, q ≤ b.length → Ev (fun k => orielref27_Rests.l2 k a b (tpart a b (i : Int) ((q : Int) - 1)) (i : Int) ((q : Int) - 1)) R := by
  intro q
  induction q with
  | zero =>
    intro _
    refine Ev.step (fun k => ?_) hR
    simp only [orielref27_Rests.l2]
    rw [if_neg (by omega), wid (by omega) (by omega), show ((0 : Nat) : Int) - 1 = -1 from rfl, part_next]
  | succ q ih =>
    intro hq
    refine Ev.step (fun k => ?_) (ih (by omega))
    rw [show ((q + 1 : Nat) : Int) - 1 = (q : Int) by omega]
    have hs := part_set a b i q hi (by omega)
    have hst := lcs_step a b i q hi (by omega)
    have hle := lcs_le _ (a.drop (i + 1)) (b.drop (q + 1)) (Nat.le_refl _)
    rw [List.length_drop] at hle
    have e1 : wrap64 ((i : Int) + 1) = ((i + 1 : Nat) : Int) := by rw [wid (by omega) (by omega)]; omega
    have e2 : wrap64 ((q : Int) + 1) = ((q + 1 : Nat) : Int) := by rw [wid (by omega) (by omega)]; omega
    have e3 : wrap64 ((q : Int) - 1) = (q : Int) - 1 := wid (by omega) (by omega)
    simp only [orielref27_Rests.l2, e1, e2, e3]
    rw [if_pos (by omega), if_pos (by omega), if_pos (by omega), if_pos (by omega), if_pos (by omega)]
    rw [rdOf_get a i hi, rdOf_get b q (by omega)]
    rw [rd_part a b i q (i + 1) (q + 1) (by omega) (by omega), rd_part a b i q (i + 1) q (by omega) (by omega), rd_part a b i q i (q + 1) (by omega) (by omega)]
    rw [if_pos (show (i : Int) < ((i + 1 : Nat) : Int) ∨ _ from .inl (by omega)), if_pos (show (i : Int) < ((i + 1 : Nat) : Int) ∨ _ from .inl (by omega)), if_pos (show (i : Int) < (i : Int) ∨ (i : Int) = (i : Int) ∧ (q : Int) < ((q + 1 : Nat) : Int) from .inr ⟨rfl, by omega⟩)]
    simp only [len_part a b _ _ (i + 1) (by omega), len_part a b _ _ i (by omega), part_len]
    by_cases c : a[i] = b[q]
    · rw [if_pos (by rw [c]), if_pos (by omega), if_pos (by omega), if_pos (by omega), if_pos (by omega), if_pos (by omega), if_pos (by omega)]
      rw [if_pos c] at hst
      rw [wid (by omega) (by omega), ← hs, hst]
      simp only [rd_L4, Int.toNat_natCast]
      rfl
    · rw [if_neg (fun e => c (by
        rw [ByteArray.toList_eq, ByteArray.toList_eq] at e
        exact ByteArray.ext (Array.toList_inj.mp e))), if_pos (by omega), if_pos (by omega), if_pos (by omega), if_pos (by omega), if_pos (by omega), if_pos (by omega), if_pos (by omega)]
      rw [if_neg c] at hst
      rw [← hs, hst]
      have em : mx (lcs (a.drop (i + 1)) (b.drop q) : Int) (lcs (a.drop i) (b.drop (q + 1)) : Int) = ((max (lcs (a.drop (i + 1)) (b.drop q)) (lcs (a.drop i) (b.drop (q + 1))) : Nat) : Int) := by
        unfold mx
        split <;> omega
      rw [em]
      simp only [rd_L4, Int.toNat_natCast]
theorem R_l1 (a b : List ByteArray) (ha : a.length ≤ 1000000) (hb : b.length ≤ 1000000) : ∀ i : Nat, i ≤ a.length → Ev (fun k => orielref27_Rests.l1 k a b (tpart a b ((i : Int) - 1) ((b.length : Int) - 1)) ((i : Int) - 1)) (tpart a b (-1) ((b.length : Int) - 1)) := by
  intro i
  induction i with
  | zero =>
    intro _
    refine Ev.step (fun k => ?_) (Ev.now _)
    simp only [orielref27_Rests.l1]
    rw [if_neg (by omega)]
    rfl
  | succ i ih =>
    intro hi
    refine Ev.step (fun k => ?_) (R_l2 a b ha hb i (by omega) _ (ih (by omega)) b.length (Nat.le_refl _))
    simp only [orielref27_Rests.l1]
    rw [if_pos (by omega), wid (by omega) (by omega), show ((i + 1 : Nat) : Int) - 1 = (i : Int) by omega]
/-- What the first loop leaves: rows of noughts up to a place. -/
theorem R_l0 (a b : List ByteArray) (ha : a.length ≤ 1000000) (hb : b.length ≤ 1000000) : ∀ d i : Nat, i + d = a.length + 1 → Ev (fun k => orielref27_Rests.l0 k a b (List.replicate i (List.replicate (b.length + 1) 0) ++ List.replicate d []) (i : Int)) (tpart a b (-1) ((b.length : Int) - 1)) := by
  intro d
  induction d with
  | zero =>
    intro i h
    refine Ev.step (fun k => ?_) (R_l1 a b ha hb a.length (Nat.le_refl _))
    simp only [orielref27_Rests.l0]
    rw [if_neg (by omega), wid (by omega) (by omega), part_first, List.replicate_zero, List.append_nil, show i = a.length + 1 by omega]
  | succ d ih =>
    intro i h
    refine Ev.step (fun k => ?_) (ih (i + 1) (by omega))
    have e1 : wrap64 ((b.length : Int) + 1) = ((b.length + 1 : Nat) : Int) := by rw [wid (by omega) (by omega)]; omega
    have e2 : wrap64 ((i : Int) + 1) = ((i + 1 : Nat) : Int) := by rw [wid (by omega) (by omega)]; omega
    simp only [orielref27_Rests.l0, e1, e2, Int.toNat_natCast]
    rw [if_pos (by omega), if_pos (by omega), if_pos (by omega), if_pos (by omega), if_pos (by simp only [List.length_append, List.length_replicate]; omega)]
    congr 1
    rw [List.replicate_succ (n := d), List.set_append_right _ _ (by simp), List.length_replicate, Nat.sub_self, List.set_cons_zero, List.replicate_succ' (n := i), List.append_assoc]
    rfl
/-- The document's table. -/
theorem Rests_ev (a b : List ByteArray) (ha : a.length ≤ 1000000) (hb : b.length ≤ 1000000) : Ev (fun k => orielref27_Rests.f k a b) (tpart a b (-1) ((b.length : Int) - 1)) := by
  refine Ev.congr (fun k => ?_) (R_l0 a b ha hb (a.length + 1) 0 (by omega))
  have e1 : wrap64 ((a.length : Int) + 1) = ((a.length + 1 : Nat) : Int) := by rw [wid (by omega) (by omega)]; omega
  simp only [orielref27_Rests.f, e1, Int.toNat_natCast]
  rw [if_pos (by omega), if_pos (by omega)]
  rfl
end Go.Proofs.YtnemooemifbbhaaDoor.TabC
