/- PackPlaces: how any place is packed, or that it can't be, is as the document says; packed places rise as their parts do, and lead back to them. The pure statement. Conditions: none beyond what the arguments read as. -/
import Derived.Test.YtjekpecobkaaoaaDoorInPackPlaces
import Derived.Laws.BitsLemmas
import Derived.Laws.Bits64b
import Derived.Laws.Bits64
namespace Go.Proofs.YtjekpecobkaaoaaDoor.Pure
set_option linter.unusedVariables false
set_option linter.unusedSimpArgs false
open Go Go.RowKit Go.Proofs.YtjekpecobkaaoaaDoorW.PrintWords Go.Proofs.YtjekpecobkaaoaaDoorW.PrintLast Go.Proofs.YtjekpecobkaaoaaDoorW.PrintMore Go.Proofs.YtjekpecobkaaoaaDoor.PPl Go.Proofs.YtjekpecobkaaoaaDoor.Frame

theorem pl_alive : Ev (fun k => oriellaw03_alive.f k) true := Ev.of (fun k => oriellaw03_alive.mono k) (k := 80) (by kernel_rfl)
theorem pl_tail : Ev (fun k => (oriellaw03_alive.f k).bind fun t => some t) true := Ev.bind (f := fun _ t => some t) pl_alive (Ev.now _)
theorem pl_wrap {x : Int} (h0 : -9223372036854775808 ≤ x) (h1 : x ≤ 9223372036854775807) : wrap64 x = x := by
  unfold wrap64
  omega
theorem pl_uwrap {x : Int} (h0 : 0 ≤ x) (h1 : x < 18446744073709551616) : IntKind.u64.wrap x = x := by
  rw [IntKind.wrap_u64]
  omega
theorem pl_pos {α : Type} {c : Prop} [Decidable c] {f g : Nat → Option α} {r : α} (h : c) (k : Ev f r) : Ev (fun n => if c then f n else g n) r := by
  simp only [if_pos h]; exact k
theorem pl_neg {α : Type} {c : Prop} [Decidable c] {f g : Nat → Option α} {r : α} (h : ¬ c) (k : Ev g r) : Ev (fun n => if c then f n else g n) r := by
  simp only [if_neg h]; exact k
theorem pl_evs {α : Type} {x : Option α} {r : α} (h : x = some r) : Ev (fun _ : Nat => x) r := by
  rw [h]
  exact Ev.now r
theorem pl_i64 {x : Int} (h : (inK .i64) x) : -9223372036854775808 ≤ x ∧ x ≤ 9223372036854775807 := by
  have h' : (decide (IntKind.i64.min ≤ x) && decide (x ≤ IntKind.i64.max)) = true := h
  simp [IntKind.min, IntKind.max, IntKind.signed, IntKind.bits] at h'
  omega
theorem fits_eq (n : Int) (L : Nat) (hL : L ≤ 64) : pack_fits.f n (L : Int) = some (decide (0 ≤ n ∧ n < 2 ^ L)) := by
  unfold pack_fits.f
  by_cases c : n ≥ 0
  · rw [if_pos c, if_pos (by omega)]
    unfold shr
    rw [show min ((L : Int)).toNat IntKind.i64.bits = L from (by show min ((L : Int)).toNat 64 = L; omega)]
    obtain ⟨m, rfl⟩ := Int.eq_ofNat_of_zero_le c
    have hp : 0 < 2 ^ L := Nat.two_pow_pos L
    have e : ((m : Int) / 2 ^ L) = ((m / 2 ^ L : Nat) : Int) := by simp
    have e2 : ((2 : Int) ^ L) = ((2 ^ L : Nat) : Int) := by simp
    rw [e, e2]
    congr 1
    rw [Bool.eq_iff_iff]
    simp only [beq_iff_eq, decide_eq_true_eq]
    constructor
    · intro h
      have h' : m / 2 ^ L = 0 := by omega
      have := (Nat.div_eq_zero_iff_lt hp).mp h'
      omega
    · intro h
      have : m / 2 ^ L = 0 := (Nat.div_eq_zero_iff_lt hp).mpr (by omega)
      omega
  · rw [if_neg c]
    congr 1
    symm
    exact decide_eq_false (fun h => c h.1)
def OK3 (a b c : Int) : Prop := (0 ≤ a ∧ a < 65536) ∧ (0 ≤ b ∧ b < 16777216) ∧ (0 ≤ c ∧ c < 16777216)
instance (a b c : Int) : Decidable (OK3 a b c) := by unfold OK3; infer_instance
def pk (a b c : Int) : Int := (a * 16777216 + b) * 16777216 + c
theorem Place_no (a b c : Int) (h : ¬ OK3 a b c) : pack_Place.f a b c = some (0, 2) := by
  unfold pack_Place.f
  have f0 := fits_eq a 16 (by omega)
  have f1 := fits_eq b 24 (by omega)
  have f2 := fits_eq c 24 (by omega)
  rw [show ((16 : Nat) : Int) = 16 from rfl, show (2 : Int) ^ 16 = 65536 from rfl] at f0
  rw [show ((24 : Nat) : Int) = 24 from rfl, show (2 : Int) ^ 24 = 16777216 from rfl] at f1 f2
  rw [f0, f1, f2]
  simp only [Option.bind_some, decide_eq_true_eq]
  by_cases h0 : 0 ≤ a ∧ a < 65536
  · rw [if_pos h0]
    by_cases h1 : 0 ≤ b ∧ b < 16777216
    · rw [if_pos h1]
      by_cases h2 : 0 ≤ c ∧ c < 16777216
      · exact absurd ⟨h0, h1, h2⟩ h
      · rw [if_neg h2]
    · rw [if_neg h1]
  · rw [if_neg h0]
theorem or_two (A B s : Nat) (hB : B < 2 ^ s) (h : A * 2 ^ s + B < 18446744073709551616) : bits .or .u64 ((A * 2 ^ s : Nat) : Int) (B : Int) = ((A * 2 ^ s + B : Nat) : Int) := by
  rw [bits_or_u64_nat (A * 2 ^ s) B (by omega) (by omega), Nat.mul_comm A (2 ^ s), ← Nat.two_pow_add_eq_or_of_lt hB A]
theorem or48 (A B : Nat) (hB : B < 281474976710656) (h : A * 281474976710656 + B < 18446744073709551616) : Go.bits .or .u64 ((A * 281474976710656 : Nat) : Int) (B : Int) = ((A * 281474976710656 + B : Nat) : Int) := by
  have e : (281474976710656 : Nat) = 2 ^ 48 := rfl
  rw [e] at hB h ⊢
  exact or_two A B 48 hB h
theorem or24 (A B : Nat) (hB : B < 16777216) (h : A * 16777216 + B < 18446744073709551616) : Go.bits .or .u64 ((A * 16777216 : Nat) : Int) (B : Int) = ((A * 16777216 + B : Nat) : Int) := by
  have e : (16777216 : Nat) = 2 ^ 24 := rfl
  rw [e] at hB h ⊢
  exact or_two A B 24 hB h
theorem Place_yes (a b c : Int) (h : OK3 a b c) : pack_Place.f a b c = some (pk a b c, 0) := by
  unfold pack_Place.f
  have f0 := fits_eq a 16 (by omega)
  have f1 := fits_eq b 24 (by omega)
  have f2 := fits_eq c 24 (by omega)
  rw [show ((16 : Nat) : Int) = 16 from rfl, show (2 : Int) ^ 16 = 65536 from rfl] at f0
  rw [show ((24 : Nat) : Int) = 24 from rfl, show (2 : Int) ^ 24 = 16777216 from rfl] at f1 f2
  rw [f0, f1, f2]
  obtain ⟨h0, h1, h2⟩ := h
  simp only [Option.bind_some, decide_eq_true_eq]
  rw [if_pos h0, if_pos h1, if_pos h2]
  obtain ⟨A, rfl⟩ := Int.eq_ofNat_of_zero_le h0.1
  obtain ⟨B, rfl⟩ := Int.eq_ofNat_of_zero_le h1.1
  obtain ⟨C, rfl⟩ := Int.eq_ofNat_of_zero_le h2.1
  have e0 : IntKind.u64.wrap (IntKind.u64.wrap (A : Int) * 281474976710656) = ((A * 281474976710656 : Nat) : Int) := by
    rw [pl_uwrap (x := (A : Int)) (by omega) (by omega), pl_uwrap (by omega) (by omega)]
    omega
  have e1 : IntKind.u64.wrap (IntKind.u64.wrap (B : Int) * 16777216) = ((B * 16777216 : Nat) : Int) := by
    rw [pl_uwrap (x := (B : Int)) (by omega) (by omega), pl_uwrap (by omega) (by omega)]
    omega
  have e2 : IntKind.u64.wrap (C : Int) = (C : Int) := pl_uwrap (by omega) (by omega)
  have o1 := or48 A (B * 16777216) (by omega) (by omega)
  have o2 := or24 (A * 16777216 + B) C (by omega) (by omega)
  have o3 : A * 281474976710656 + B * 16777216 = (A * 16777216 + B) * 16777216 := by omega
  rw [e0, e1, e2, o1, o3, o2]
  unfold pk
  congr 2
theorem Parts_eq (a b c : Int) (h : OK3 a b c) : pack_Parts.f (pk a b c) = some (a, b, c) := by
  obtain ⟨h0, h1, h2⟩ := h
  obtain ⟨A, rfl⟩ := Int.eq_ofNat_of_zero_le h0.1
  obtain ⟨B, rfl⟩ := Int.eq_ofNat_of_zero_le h1.1
  obtain ⟨C, rfl⟩ := Int.eq_ofNat_of_zero_le h2.1
  unfold pack_Parts.f
  have e : pk (A : Int) (B : Int) (C : Int) = (((A * 16777216 + B) * 16777216 + C : Nat) : Int) := by unfold pk; omega
  rw [e]
  generalize hX : (A * 16777216 + B) * 16777216 + C = X
  have hb : X < 18446744073709551616 := by omega
  have m1 := bits_and_u64_nat (X / 16777216) 16777215 (by omega) (by omega)
  have m2 := bits_and_u64_nat X 16777215 hb (by omega)
  rw [show (16777215 : Nat) = 2 ^ 24 - 1 from rfl, Nat.and_two_pow_sub_one_eq_mod] at m1 m2
  rw [show ((X : Int) / 16777216) = ((X / 16777216 : Nat) : Int) by omega]
  rw [show Go.bits .and .u64 ((X / 16777216 : Nat) : Int) 16777215 = ((X / 16777216 % 2 ^ 24 : Nat) : Int) from m1, show Go.bits .and .u64 (X : Int) 16777215 = ((X % 2 ^ 24 : Nat) : Int) from m2]
  have q1 : X / 16777216 = A * 16777216 + B := by omega
  have q2 : X / 281474976710656 = A := by omega
  have q3 : (X : Int) / 281474976710656 = (A : Int) := by omega
  rw [q1, q3, pl_wrap (by omega) (by omega), pl_wrap (by omega) (by omega), pl_wrap (by omega) (by omega)]
  have r1 : (A * 16777216 + B) % 2 ^ 24 = B := by omega
  have r2 : X % 2 ^ 24 = C := by omega
  rw [r1, r2]
theorem pk_range (a b c : Int) (h : OK3 a b c) : 0 ≤ pk a b c ∧ pk a b c < 18446744073709551616 := by
  unfold OK3 at h
  unfold pk
  omega
theorem pk_lt (a b c d e f : Int) (h : OK3 a b c) (k : OK3 d e f) : pk a b c < pk d e f ↔ (a < d ∨ a = d ∧ (b < e ∨ b = e ∧ c < f)) := by
  unfold OK3 at h k
  unfold pk
  constructor <;> intro hh <;> omega
theorem pk_eq (a b c d e f : Int) (h : OK3 a b c) (k : OK3 d e f) : pk a b c = pk d e f ↔ (a = d ∧ b = e ∧ c = f) := by
  unfold OK3 at h k
  unfold pk
  constructor <;> intro hh <;> omega
theorem eq_bool (a b c d e f : Int) (h : OK3 a b c) (k : OK3 d e f) : ((pk a b c == pk d e f) == (a == d && (b == e && (c == f)))) = true := by
  have := pk_eq a b c d e f h k
  rw [beq_iff_eq, Bool.eq_iff_iff]
  simp only [beq_iff_eq, Bool.and_eq_true]
  exact this
/-- The end: both places are there. -/
theorem pl_j2 (a b c d e f y g : Int) (h : OK3 a b c) (hy : (OK3 d e f ∧ y = pk d e f ∧ g = 0) ∨ (¬ OK3 d e f ∧ y = 0 ∧ g = 2)) : Ev (fun K => oriellaw03_PackPlaces.j2 K (pk a b c) y g false a b c d e f) true := by
  refine Ev.step (fun K => by simp only [oriellaw03_PackPlaces.j2]; rw [if_neg (by simp)]) ?_
  refine Ev.bind (pl_evs (r := g) rfl) ?_
  rcases hy with ⟨k, rfl, rfl⟩ | ⟨k, rfl, rfl⟩
  · have L := pk_lt a b c d e f h k
    have B := eq_bool a b c d e f h k
    refine pl_pos rfl ?_
    by_cases c0 : a < d
    · refine pl_pos c0 (pl_pos ?_ (pl_pos B pl_tail))
      rw [decide_eq_true (L.mpr (.inl c0))]
      rfl
    · refine pl_neg c0 ?_
      by_cases c1 : a = d
      · refine pl_pos c1 ?_
        by_cases c2 : b < e
        · refine pl_pos c2 (pl_pos ?_ (pl_pos B pl_tail))
          rw [decide_eq_true (L.mpr (.inr ⟨c1, .inl c2⟩))]
          rfl
        · refine pl_neg c2 ?_
          by_cases c3 : b = e
          · refine pl_pos c3 (pl_pos ?_ (pl_pos B pl_tail))
            by_cases c4 : c < f
            · rw [decide_eq_true c4, decide_eq_true (L.mpr (.inr ⟨c1, .inr ⟨c3, c4⟩⟩))]
              rfl
            · rw [decide_eq_false c4, decide_eq_false (fun hh => by have := L.mp hh; omega)]
              rfl
          · refine pl_neg c3 (pl_pos ?_ (pl_pos B pl_tail))
            rw [decide_eq_false (fun hh => by have := L.mp hh; omega)]
            rfl
      · refine pl_neg c1 (pl_pos ?_ (pl_pos B pl_tail))
        rw [decide_eq_false (fun hh => by have := L.mp hh; omega)]
        rfl
  · exact pl_neg (by decide) pl_tail
theorem pl_j1_no (x y g a b c d e f : Int) : Ev (fun K => oriellaw03_PackPlaces.j1 K x y g false false a b c d e f) true := by
  refine Ev.step (fun K => by simp only [oriellaw03_PackPlaces.j1]; rw [if_neg (by simp), if_neg (by simp)]) ?_
  exact pl_tail
theorem pl_j0 (a b c d e f x n y g : Int) (is : Bool) (his : is = decide (OK3 a b c)) (hx : (OK3 a b c ∧ x = pk a b c ∧ n = 0) ∨ (¬ OK3 a b c ∧ x = 0 ∧ n = 2)) (hy : (OK3 d e f ∧ y = pk d e f ∧ g = 0) ∨ (¬ OK3 d e f ∧ y = 0 ∧ g = 2)) :
    Ev (fun K => oriellaw03_PackPlaces.j0 K x n y g is a b c d e f) true := by
  rcases hx with ⟨h, rfl, rfl⟩ | ⟨h, rfl, rfl⟩
  · rw [decide_eq_true h] at his
    subst his
    refine Ev.step (fun K => by rw [oriellaw03_PackPlaces.j0]) ?_
    refine Ev.bind (pl_evs (r := 0) rfl) ?_
    refine pl_neg (by simp) (pl_pos rfl ?_)
    refine Ev.step (fun K => by simp only [oriellaw03_PackPlaces.j1]; rw [if_neg (by simp), if_pos trivial]) ?_
    refine Ev.bind (pl_evs (Parts_eq a b c h)) ?_
    refine pl_pos rfl (pl_pos rfl (pl_pos rfl ?_))
    have hw : IntKind.u64.wrap ((IntKind.u64.wrap ((IntKind.u64.wrap ((IntKind.u64.wrap ((IntKind.u64.wrap (a)) * 16777216)) + (IntKind.u64.wrap (b)))) * 16777216)) + (IntKind.u64.wrap (c))) = pk a b c := by
      unfold OK3 at h
      unfold pk
      rw [pl_uwrap (x := a) (by omega) (by omega), pl_uwrap (x := b) (by omega) (by omega), pl_uwrap (x := c) (by omega) (by omega), pl_uwrap (x := a * 16777216) (by omega) (by omega), pl_uwrap (x := a * 16777216 + b) (by omega) (by omega), pl_uwrap (x := (a * 16777216 + b) * 16777216) (by omega) (by omega), pl_uwrap (by omega) (by omega)]
    rw [hw, show (pk a b c != pk a b c) = false by simp]
    exact pl_j2 a b c d e f y g h hy
  · rw [decide_eq_false h] at his
    subst his
    refine Ev.step (fun K => by rw [oriellaw03_PackPlaces.j0]) ?_
    refine Ev.bind (pl_evs (r := 2) rfl) ?_
    refine pl_neg (by simp) (pl_neg (by simp) ?_)
    refine Ev.bind (pl_evs (r := 2) rfl) ?_
    refine pl_pos rfl ?_
    rw [show ((0 : Int) != 0) = false from rfl]
    exact pl_j1_no _ _ _ _ _ _ _ _ _
theorem place_any (a b c : Int) : ∃ x n, pack_Place.f a b c = some (x, n) ∧ ((OK3 a b c ∧ x = pk a b c ∧ n = 0) ∨ (¬ OK3 a b c ∧ x = 0 ∧ n = 2)) := by
  by_cases h : OK3 a b c
  · exact ⟨_, _, Place_yes a b c h, .inl ⟨h, rfl, rfl⟩⟩
  · exact ⟨_, _, Place_no a b c h, .inr ⟨h, rfl, rfl⟩⟩
theorem PackPlaces : oriellaw03_PackPlaces.Pure := by
  rintro ⟨a, b, c⟩ ⟨d, e, f⟩ _ _
  refine Ev.rounds ?_
  unfold oriellaw03_PackPlaces.f
  obtain ⟨x, n, hx, hx2⟩ := place_any a b c
  obtain ⟨y, g, hy, hy2⟩ := place_any d e f
  refine Ev.bind (pl_evs hx) ?_
  refine Ev.bind (pl_evs hy) ?_
  by_cases c0 : a ≥ 0
  · refine pl_pos c0 ?_
    by_cases c1 : a < 65536
    · refine pl_pos c1 ?_
      by_cases c2 : b ≥ 0
      · refine pl_pos c2 ?_
        by_cases c3 : b < 16777216
        · refine pl_pos c3 ?_
          by_cases c4 : c ≥ 0
          · refine pl_pos c4 ?_
            refine pl_j0 a b c d e f x n y g _ ?_ hx2 hy2
            by_cases c5 : c < 16777216
            · rw [decide_eq_true c5, decide_eq_true (show OK3 a b c from ⟨⟨c0, c1⟩, ⟨c2, c3⟩, ⟨c4, c5⟩⟩)]
            · rw [decide_eq_false c5, decide_eq_false (show ¬ OK3 a b c from fun h => c5 h.2.2.2)]
          · exact pl_neg c4 (pl_j0 a b c d e f x n y g _ (decide_eq_false (show ¬ OK3 a b c from fun h => c4 h.2.2.1)).symm hx2 hy2)
        · exact pl_neg c3 (pl_j0 a b c d e f x n y g _ (decide_eq_false (show ¬ OK3 a b c from fun h => c3 h.2.1.2)).symm hx2 hy2)
      · exact pl_neg c2 (pl_j0 a b c d e f x n y g _ (decide_eq_false (show ¬ OK3 a b c from fun h => c2 h.2.1.1)).symm hx2 hy2)
    · exact pl_neg c1 (pl_j0 a b c d e f x n y g _ (decide_eq_false (show ¬ OK3 a b c from fun h => c1 h.1.2)).symm hx2 hy2)
  · exact pl_neg c0 (pl_j0 a b c d e f x n y g _ (decide_eq_false (show ¬ OK3 a b c from fun h => c0 h.1.1)).symm hx2 hy2)

end Go.Proofs.YtjekpecobkaaoaaDoor.Pure
