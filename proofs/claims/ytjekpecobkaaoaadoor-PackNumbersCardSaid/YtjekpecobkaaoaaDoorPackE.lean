/- The document's reading of a number: it is the program's. Plain theorems; no condition but those of each theorem. -/
import Derived.Test.YtjekpecobkaaoaaDoorPackD
namespace Go.Proofs.YtjekpecobkaaoaaDoor.PackE
open Go Go.RowKit Go.Proofs.YtjekpecobkaaoaaDoorW.PrintWords Go.Proofs.YtjekpecobkaaoaaDoorW.PrintLast Go.Proofs.YtjekpecobkaaoaaDoorW.PrintMore Go.Proofs.YtjekpecobkaaoaaDoor.PAll Go.Proofs.YtjekpecobkaaoaaDoor.PackA Go.Proofs.YtjekpecobkaaoaaDoor.PackB Go.Proofs.YtjekpecobkaaoaaDoor.PackC Go.Proofs.YtjekpecobkaaoaaDoor.PackD
set_option linter.unusedVariables false
set_option linter.unusedSimpArgs false
abbrev T3 := Int × Int × Int
theorem evs {α : Type} {x : Option α} {r : α} (h : x = some r) : Ev (fun _ : Nat => x) r := by
  rw [h]
  exact Ev.now r
theorem scan_ok (q : T3) (f : Nat) : ∀ (w : Nat) (l pre rest : List Int), w < 128 ^ (f + 1) → l.length ≤ 100000 → l = pre ++ (pb w ++ rest) → pre.length + (pb w).length ≤ 10 →
    Ev (fun k => orielref03_Get.j1 k l ((pre.length : Int) + (pb w).length - 1)) q → Ev (fun k => orielref03_Get.l0 k l (pre.length : Int)) q := by
  induction f with
  | zero =>
    intro w l pre rest hw hl he h10 h
    have hw' : w < 128 := by simpa using hw
    rw [pb_small hw'] at he h h10
    simp only [List.length_cons, List.length_nil] at h h10
    have hlen : l.length = pre.length + (1 + rest.length) := by rw [he]; simp only [List.length_append, List.length_cons, List.length_nil] <;> omega
    have e2 : rd l (pre.length : Int) = (w : Int) := by rw [he]; exact rd_mid pre (w : Int) rest
    rw [show (pre.length : Int) + ((0 + 1 : Nat) : Int) - 1 = (pre.length : Int) by omega] at h
    refine Ev.step (fun k => ?_) h
    simp only [orielref03_Get.l0]
    rw [if_pos (by omega), if_pos (by omega), if_pos (by omega), e2, if_neg (by omega)]
  | succ f ih =>
    intro w l pre rest hw hl he h10 h
    by_cases c : 128 ≤ w
    · rw [pb_big c] at he h h10
      simp only [List.length_cons] at h h10
      have hlen : l.length = pre.length + (1 + ((pb (w / 128)).length + rest.length)) := by rw [he]; simp only [List.length_append, List.length_cons]; omega
      have e2 : rd l (pre.length : Int) = ((w % 128 + 128 : Nat) : Int) := by rw [he]; exact rd_mid pre _ _
      have hi := ih (w / 128) l (pre ++ [((w % 128 + 128 : Nat) : Int)]) rest (by rw [Nat.div_lt_iff_lt_mul (by omega)]; rwa [Nat.pow_succ] at hw) hl (by rw [he]; simp) (by rw [List.length_append]; simp only [List.length_cons, List.length_nil]; omega) (by
        rw [show (((pre ++ [((w % 128 + 128 : Nat) : Int)]).length : Nat) : Int) + ((pb (w / 128)).length : Int) - 1 = (pre.length : Int) + (((pb (w / 128)).length + 1 : Nat) : Int) - 1 by rw [List.length_append]; simp only [List.length_cons, List.length_nil]; omega]
        exact h)
      rw [show (((pre ++ [((w % 128 + 128 : Nat) : Int)]).length : Nat) : Int) = (pre.length : Int) + 1 by simp] at hi
      refine Ev.step (fun k => ?_) hi
      simp only [orielref03_Get.l0]
      rw [if_pos (by omega), if_pos (by omega), if_pos (by omega), e2, if_pos (by omega), wrap_id (by omega) (by omega)]
    · rw [pb_small (by omega)] at he h h10
      simp only [List.length_cons, List.length_nil] at h h10
      have hlen : l.length = pre.length + (1 + rest.length) := by rw [he]; simp only [List.length_append, List.length_cons, List.length_nil] <;> omega
      have e2 : rd l (pre.length : Int) = (w : Int) := by rw [he]; exact rd_mid pre (w : Int) rest
      rw [show (pre.length : Int) + ((0 + 1 : Nat) : Int) - 1 = (pre.length : Int) by omega] at h
      refine Ev.step (fun k => ?_) h
      simp only [orielref03_Get.l0]
      rw [if_pos (by omega), if_pos (by omega), if_pos (by omega), e2, if_neg (by omega)]
theorem sum_ok (q : T3) (x5 : Int) (f : Nat) : ∀ (w : Nat) (l pre rest : List Int), w < 128 ^ (f + 1) → w < 18446744073709551616 → l.length ≤ 100000 → l = pre ++ (pb w ++ rest) →
    Ev (fun k => orielref03_Get.l1 k l x5 (w : Int) ((pre.length : Int) - 1)) q → Ev (fun k => orielref03_Get.l1 k l x5 0 ((pre.length : Int) + (pb w).length - 1)) q := by
  have small : ∀ (w : Nat) (l pre rest : List Int), w < 128 → l.length ≤ 100000 → l = pre ++ (pb w ++ rest) → Ev (fun k => orielref03_Get.l1 k l x5 (w : Int) ((pre.length : Int) - 1)) q → Ev (fun k => orielref03_Get.l1 k l x5 0 ((pre.length : Int) + (pb w).length - 1)) q := by
    intro w l pre rest hw hl he h
    rw [pb_small hw] at he ⊢
    have hlen : l.length = pre.length + (1 + rest.length) := by rw [he]; simp only [List.length_append, List.length_cons, List.length_nil] <;> omega
    have e2 : rd l (pre.length : Int) = (w : Int) := by rw [he]; exact rd_mid pre (w : Int) rest
    rw [show (pre.length : Int) + (([(w : Int)].length : Nat) : Int) - 1 = (pre.length : Int) by simp]
    refine Ev.step (fun k => ?_) h
    simp only [orielref03_Get.l1]
    rw [if_pos (by omega), if_pos (by omega), if_pos (by omega), e2, Int.tmod_eq_emod_of_nonneg (by omega), wrap_id (by omega) (by omega), uwrap_id (x := 0 * 128) (by omega) (by omega), uwrap_id (x := (w : Int) % 128) (by omega) (by omega), uwrap_id (by omega) (by omega), show (0 : Int) * 128 + (w : Int) % 128 = w by omega]
  induction f with
  | zero =>
    intro w l pre rest hw h64 hl he h
    exact small w l pre rest (by simpa using hw) hl he h
  | succ f ih =>
    intro w l pre rest hw h64 hl he h
    by_cases c : 128 ≤ w
    · rw [pb_big c] at he ⊢
      have hlen : l.length = pre.length + (1 + ((pb (w / 128)).length + rest.length)) := by rw [he]; simp only [List.length_append, List.length_cons]; omega
      have e2 : rd l (pre.length : Int) = ((w % 128 + 128 : Nat) : Int) := by rw [he]; exact rd_mid pre _ _
      have hi := ih (w / 128) l (pre ++ [((w % 128 + 128 : Nat) : Int)]) rest (by rw [Nat.div_lt_iff_lt_mul (by omega)]; rwa [Nat.pow_succ] at hw) (by omega) hl (by rw [he]; simp) (by
        rw [show (((pre ++ [((w % 128 + 128 : Nat) : Int)]).length : Nat) : Int) - 1 = (pre.length : Int) by simp]
        refine Ev.step (fun k => ?_) h
        simp only [orielref03_Get.l1]
        rw [if_pos (by omega), if_pos (by omega), if_pos (by omega), e2, Int.tmod_eq_emod_of_nonneg (by omega), wrap_id (by omega) (by omega), uwrap_id (x := ((w / 128 : Nat) : Int) * 128) (by omega) (by omega), uwrap_id (x := ((w % 128 + 128 : Nat) : Int) % 128) (by omega) (by omega), uwrap_id (by omega) (by omega), show ((w / 128 : Nat) : Int) * 128 + ((w % 128 + 128 : Nat) : Int) % 128 = (w : Int) by omega])
      rw [show (((pre ++ [((w % 128 + 128 : Nat) : Int)]).length : Nat) : Int) + ((pb (w / 128)).length : Int) - 1 = (pre.length : Int) + (((((w % 128 + 128 : Nat) : Int) :: pb (w / 128)).length : Nat) : Int) - 1 by rw [List.length_append]; simp only [List.length_cons, List.length_nil]; omega] at hi
      exact hi
    · exact small w l pre rest (by omega) hl he h
theorem RGet_pb (n : Nat) (h : n < 18446744073709551616) (rest : List Int) (hl : rest.length ≤ 90000) : Ev (fun k => orielref03_Get.f k (pb n ++ rest)) ((n : Int), ((pb n).length : Int), 0) := by
  have h10 := pb_len10 n h
  have hlen : (pb n ++ rest).length = (pb n).length + rest.length := List.length_append
  unfold orielref03_Get.f
  refine Ev.ite_neg (by omega) ?_
  refine scan_ok _ 9 n (pb n ++ rest) [] rest (by omega) (by omega) rfl (by simp only [List.length_nil]; omega) ?_
  have hs : Ev (fun k => orielref03_Get.l1 k (pb n ++ rest) ((pb n).length : Int) 0 ((pb n).length - 1)) ((n : Int), ((pb n).length : Int), 0) := by
    have := sum_ok ((n : Int), ((pb n).length : Int), 0) ((pb n).length : Int) 9 n (pb n ++ rest) [] rest (by omega) h (by omega) rfl (by
      refine Ev.step (fun k => by
        simp only [orielref03_Get.l1]
        rw [if_neg (by simp)]) ?_
      refine Ev.bind (Bytes_ev n h) ?_
      refine Ev.ite_pos (by omega) (Ev.ite_pos (by omega) ?_)
      rw [show (((pb n).length : Int)).toNat = (pb n).length by omega, List.take_left]
      exact Ev.bind (evs (Equal_self (pb n))) (Ev.ite_pos rfl (Ev.now _)))
    simpa using this
  refine Ev.step (fun k => ?_) (Ev.step (f := fun k => orielref03_Get.l1 k (pb n ++ rest) ((pb n).length : Int) 0 ((pb n).length - 1)) (g := fun k => orielref03_Get.j2 k (pb n ++ rest) ((pb n).length : Int) false) (fun k => ?_) hs)
  · have hw : wrap64 (((0 : Nat) : Int) + ((pb n).length : Int) - 1 + 1) = ((pb n).length : Int) := by
      rw [wrap_id (by omega) (by omega)]
      omega
    simp only [orielref03_Get.j1, List.length_nil, hw]
    rw [if_neg (by omega), decide_eq_false (by omega)]
  · simp only [orielref03_Get.j2]
    rw [if_neg (by simp), wrap_id (by omega) (by omega)]
theorem scan_any (l : List Int) (hl : l.length ≤ 100000) (d : Nat) : ∀ i : Nat, i + d = 11 → i ≤ l.length → ∃ j : Nat, j ≤ 11 ∧ j ≤ l.length ∧ ∀ q : T3, Ev (fun k => orielref03_Get.j1 k l (j : Int)) q → Ev (fun k => orielref03_Get.l0 k l (i : Int)) q := by
  induction d with
  | zero =>
    intro i hi hil
    refine ⟨i, by omega, hil, fun q h => Ev.step (fun k => ?_) h⟩
    simp only [orielref03_Get.l0]
    by_cases c : (i : Int) < l.length
    · rw [if_pos c, if_neg (by omega)]
    · rw [if_neg c]
  | succ d ih =>
    intro i hi hil
    by_cases c : i < l.length
    · by_cases c2 : i < 10
      · by_cases c3 : rd l (i : Int) ≥ 128
        · obtain ⟨j, h1, h2, h3⟩ := ih (i + 1) (by omega) (by omega)
          refine ⟨j, h1, h2, fun q h => Ev.step (fun k => ?_) (h3 q h)⟩
          simp only [orielref03_Get.l0]
          rw [if_pos (by omega), if_pos (by omega), if_pos (by omega), if_pos c3, wrap_id (by omega) (by omega)]
          rfl
        · refine ⟨i, by omega, hil, fun q h => Ev.step (fun k => ?_) h⟩
          simp only [orielref03_Get.l0]
          rw [if_pos (by omega), if_pos (by omega), if_pos (by omega), if_neg c3]
      · refine ⟨i, by omega, hil, fun q h => Ev.step (fun k => ?_) h⟩
        simp only [orielref03_Get.l0]
        rw [if_pos (by omega), if_neg (by omega)]
    · refine ⟨i, by omega, hil, fun q h => Ev.step (fun k => ?_) h⟩
      simp only [orielref03_Get.l0]
      rw [if_neg (by omega)]
theorem sum_any (l : List Int) (x5 : Int) (hl : l.length ≤ 100000) (hb : ∀ x ∈ l, 0 ≤ x ∧ x < 256) (d : Nat) : ∀ (x6 : Nat), x6 < 18446744073709551616 → d ≤ l.length → ∃ n : Nat, n < 18446744073709551616 ∧ ∀ q : T3, Ev (fun k => orielref03_Get.l1 k l x5 (n : Int) (-1)) q → Ev (fun k => orielref03_Get.l1 k l x5 (x6 : Int) ((d : Int) - 1)) q := by
  induction d with
  | zero => intro x6 h _; exact ⟨x6, h, fun q hq => hq⟩
  | succ d ih =>
    intro x6 h hd
    obtain ⟨n, h1, h2⟩ := ih (IntKind.u64.wrap ((IntKind.u64.wrap ((x6 : Int) * 128)) + (IntKind.u64.wrap (Int.tmod (rd l (d : Int)) 128)))).toNat (by rw [IntKind.wrap_u64]; omega) (by omega)
    refine ⟨n, h1, fun q hq => Ev.step (fun k => ?_) (h2 q hq)⟩
    simp only [orielref03_Get.l1]
    rw [show ((d + 1 : Nat) : Int) - 1 = (d : Int) by omega, if_pos (by omega), if_pos (by omega), if_pos (by omega), wrap_id (by omega) (by omega), Int.toNat_of_nonneg (by rw [IntKind.wrap_u64]; omega)]
theorem RGet_sound (l : List Int) (hl : l.length ≤ 90000) (hb : ∀ x ∈ l, 0 ≤ x ∧ x < 256) : ∃ x, Ev (fun k => orielref03_Get.f k l) x ∧ ((x = (0, 0, 9) ∧ l ≠ []) ∨ (x = (0, 0, 2) ∧ l = []) ∨ ∃ (n : Nat) (rest : List Int), n < 18446744073709551616 ∧ l = pb n ++ rest ∧ x = ((n : Int), ((pb n).length : Int), 0)) := by
  by_cases h : l = []
  · subst h
    refine ⟨(0, 0, 2), ?_, .inr (.inl ⟨rfl, rfl⟩)⟩
    unfold orielref03_Get.f
    exact Ev.ite_pos rfl (Ev.now _)
  · have hlen : 0 < l.length := List.length_pos_iff.mpr h
    obtain ⟨j, h1, h2, h3⟩ := scan_any l (by omega) 11 0 (by omega) (by omega)
    have hbad : Ev (fun k => orielref03_Get.j2 k l ((j : Int) + 1) true) ((0, 0, 9) : T3) := Ev.step (f := fun _ => some (0, 0, 9)) (fun k => by simp only [orielref03_Get.j2]; rw [if_true]) (Ev.now _)
    have hj : ∀ (b : Bool) (q : T3), b = decide (j + 1 > l.length ∨ j + 1 > 10) → Ev (fun k => orielref03_Get.j2 k l ((j : Int) + 1) b) q → Ev (fun k => orielref03_Get.f k l) q := by
      intro b q hb' hq
      unfold orielref03_Get.f
      refine Ev.ite_neg (by omega) (h3 q ?_)
      refine Ev.step (fun k => ?_) hq
      simp only [orielref03_Get.j1]
      rw [wrap_id (by omega) (by omega), hb']
      by_cases c : (j : Int) + 1 > l.length
      · rw [if_pos c, decide_eq_true (by omega)]
      · rw [if_neg c]
        congr 1
        rw [decide_eq_decide]
        omega
    by_cases c : j + 1 > l.length ∨ j + 1 > 10
    · exact ⟨(0, 0, 9), hj true _ (by rw [decide_eq_true c]) hbad, .inl ⟨rfl, h⟩⟩
    · obtain ⟨n, hn, hn2⟩ := sum_any l ((j : Int) + 1) (by omega) hb (j + 1) 0 (by omega) (by omega)
      have hpb := pb_bytes 9 n (by omega)
      have htake : ∀ x ∈ l.take (((j : Int) + 1)).toNat, 0 ≤ x ∧ x < 256 := fun x hx => hb x (List.mem_of_mem_take hx)
      have hfin : ∀ q : T3, (if decide (pb n = l.take (((j : Int) + 1)).toNat) = true then ((n : Int), (j : Int) + 1, (0 : Int)) else (0, 0, 9)) = q → Ev (fun k => orielref03_Get.f k l) q := by
        intro q hq
        refine hj false q (by rw [decide_eq_false c]) ?_
        refine Ev.step (f := fun k => orielref03_Get.l1 k l ((j : Int) + 1) 0 (((j + 1 : Nat) : Int) - 1)) (fun k => ?_) (hn2 q ?_)
        · simp only [orielref03_Get.j2]
          rw [if_neg (by simp), wrap_id (by omega) (by omega), show (j : Int) + 1 - 1 = ((j + 1 : Nat) : Int) - 1 by omega]
        · refine Ev.step (fun k => by
            simp only [orielref03_Get.l1]
            rw [if_neg (by omega)]) ?_
          refine Ev.bind (Bytes_ev n hn) ?_
          refine Ev.ite_pos (by omega) (Ev.ite_pos (by omega) ?_)
          refine Ev.bind (evs (Equal_eq _ _ hpb htake)) ?_
          by_cases e : decide (pb n = l.take (((j : Int) + 1)).toNat) = true
          · rw [if_pos e] at hq
            exact Ev.ite_pos e (Ev.val hq)
          · rw [if_neg e] at hq
            exact Ev.ite_neg e (Ev.val hq)
      by_cases e : pb n = l.take (((j : Int) + 1)).toNat
      · have hl2 : (pb n).length = j + 1 := by rw [e, List.length_take]; omega
        refine ⟨_, hfin _ rfl, .inr (.inr ⟨n, l.drop (((j : Int) + 1)).toNat, hn, ?_, ?_⟩)⟩
        · rw [e, List.take_append_drop]
        · rw [if_pos (decide_eq_true e), hl2]
          rfl
      · exact ⟨(0, 0, 9), hfin _ (by rw [if_neg (by simpa using e)]), .inl ⟨rfl, h⟩⟩
/-- Both readings are one. -/
theorem Gets (l : List Int) (hl : l.length ≤ 90000) (hb : ∀ x ∈ l, 0 ≤ x ∧ x < 256) : ∃ x, Ev (fun k => pack_Get.f k l) x ∧ Ev (fun k => orielref03_Get.f k l) x := by
  obtain ⟨x, hx, hx2⟩ := Get_sound l (by omega) hb
  obtain ⟨y, hy, hy2⟩ := RGet_sound l hl hb
  refine ⟨x, hx, ?_⟩
  have : y = x := by
    rcases hx2 with ⟨h1, h2⟩ | ⟨h1, h2⟩ | ⟨n, rest, h1, h2, h3⟩
    · rcases hy2 with ⟨g1, g2⟩ | ⟨g1, g2⟩ | ⟨n, rest, g1, g2, g3⟩
      · rw [h1, g1]
      · exact absurd g2 h2
      · have hr : rest.length ≤ l.length := by rw [g2, List.length_append]; omega
        have := Get_pb n g1 rest (by omega)
        rw [← g2] at this
        exact g3.trans (Ev.unique this hx)
    · rcases hy2 with ⟨g1, g2⟩ | ⟨g1, g2⟩ | ⟨n, rest, g1, g2, g3⟩
      · exact absurd h2 g2
      · rw [h1, g1]
      · have := (pb_len10 n g1).2
        have : l.length = (pb n).length + rest.length := by rw [g2, List.length_append]
        rw [h2] at this
        simp at this
        omega
    · have hr : rest.length ≤ l.length := by rw [h2, List.length_append]; omega
      have := RGet_pb n h1 rest (by omega)
      rw [← h2] at this
      exact (Ev.unique hy this).trans h3.symm
  rw [← this]
  exact hy
end Go.Proofs.YtjekpecobkaaoaaDoor.PackE
