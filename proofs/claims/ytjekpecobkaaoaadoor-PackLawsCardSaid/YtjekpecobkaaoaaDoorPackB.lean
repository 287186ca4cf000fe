/- A number's bytes as a plain list: Put, Bytes, Get and the document's answers as plain functions of lists. Plain theorems; no condition but those of each theorem. -/
import Derived.Test.YtjekpecobkaaoaaDoorPackA
import Derived.Test.YtjekpecobkaaoaaDoorPAllx16
import Derived.Test.YtjekpecobkaaoaaDoorPAllx15
namespace Go.Proofs.YtjekpecobkaaoaaDoor.PackB
open Go Go.RowKit Go.Proofs.YtjekpecobkaaoaaDoorW.PrintWords Go.Proofs.YtjekpecobkaaoaaDoorW.PrintLast Go.Proofs.YtjekpecobkaaoaaDoorW.PrintMore Go.Proofs.YtjekpecobkaaoaaDoor.PAll Go.Proofs.YtjekpecobkaaoaaDoor.PackA
set_option linter.unusedVariables false
set_option linter.unusedSimpArgs false
/-- A number's bytes. -/
def pb (n : Nat) : List Int := if h : 128 ≤ n then ((n % 128 + 128 : Nat) : Int) :: pb (n / 128) else [(n : Int)]
termination_by n
decreasing_by omega
theorem pb_small {n : Nat} (h : n < 128) : pb n = [(n : Int)] := by rw [pb, dif_neg (by omega)]
theorem pb_big {n : Nat} (h : 128 ≤ n) : pb n = ((n % 128 + 128 : Nat) : Int) :: pb (n / 128) := by rw [pb, dif_pos h]
theorem or128 : ∀ c : Fin 256, bits .or .u8 ((c.val : Nat) : Int) 128 = ((c.val % 128 + 128 : Nat) : Int) := by decide +kernel
theorem not128 : ∀ c : Fin 256, bits .andNot .u8 ((c.val : Nat) : Int) 128 = ((c.val % 128 : Nat) : Int) := by decide +kernel
theorem or_byte (n : Nat) : bits .or .u8 ((n : Int) % 256) 128 = ((n % 128 + 128 : Nat) : Int) := by
  have := or128 ⟨n % 256, by omega⟩
  rw [show ((n : Int) % 256) = ((n % 256 : Nat) : Int) by omega]
  simp only at this
  rw [this]
  omega
theorem not_byte (c : Nat) (h : c < 256) : bits .andNot .u8 (c : Int) 128 = ((c % 128 : Nat) : Int) := not128 ⟨c, h⟩
theorem pb_len (f : Nat) : ∀ n : Nat, n < 128 ^ (f + 1) → (pb n).length ≤ f + 1 ∧ 1 ≤ (pb n).length := by
  induction f with
  | zero => intro n h; rw [pb_small (by simpa using h)]; simp
  | succ f ih =>
    intro n h
    by_cases c : 128 ≤ n
    · rw [pb_big c]
      have := ih (n / 128) (by rw [Nat.div_lt_iff_lt_mul (by omega)]; rwa [Nat.pow_succ] at h)
      simp only [List.length_cons]
      omega
    · rw [pb_small (by omega)]
      simp
theorem pb_len10 (n : Nat) (h : n < 18446744073709551616) : (pb n).length ≤ 10 ∧ 1 ≤ (pb n).length := pb_len 9 n (by omega)
theorem pb_bytes (f : Nat) : ∀ n : Nat, n < 128 ^ (f + 1) → ∀ x ∈ pb n, 0 ≤ x ∧ x < 256 := by
  induction f with
  | zero => intro n h x hx; rw [pb_small (by simpa using h)] at hx; simp at hx; omega
  | succ f ih =>
    intro n h x hx
    by_cases c : 128 ≤ n
    · rw [pb_big c] at hx
      cases hx with
      | head => omega
      | tail _ hx => exact ih (n / 128) (by rw [Nat.div_lt_iff_lt_mul (by omega)]; rwa [Nat.pow_succ] at h) x hx
    · rw [pb_small (by omega)] at hx; simp at hx; omega
theorem Put_ev (f : Nat) : ∀ (n : Nat) (l : List Int), n < 128 ^ (f + 1) → l.length + f < 70368744177664 → Ev (fun k => pack_Put.f k l (n : Int)) (l ++ pb n) := by
  induction f with
  | zero =>
    intro n l h hl
    have h' : n < 128 := by simpa using h
    refine Ev.step (f := fun _ => some (l ++ [(n : Int) % 256])) (fun k => ?_) (Ev.val (by rw [pb_small h', show (n : Int) % 256 = n by omega]))
    simp only [pack_Put.f]
    rw [if_neg (by omega), if_pos (by omega)]
  | succ f ih =>
    intro n l h hl
    by_cases c : 128 ≤ n
    · have := ih (n / 128) (l ++ [((n % 128 + 128 : Nat) : Int)]) (by rw [Nat.div_lt_iff_lt_mul (by omega)]; rwa [Nat.pow_succ] at h) (by simp; omega)
      rw [pb_big c, show l ++ ((n % 128 + 128 : Nat) : Int) :: pb (n / 128) = l ++ [((n % 128 + 128 : Nat) : Int)] ++ pb (n / 128) by simp]
      refine Ev.step (fun k => ?_) this
      simp only [pack_Put.f]
      rw [if_pos (by omega), if_pos (by omega), or_byte, show (n : Int) / 128 = ((n / 128 : Nat) : Int) by omega]
    · refine Ev.step (f := fun _ => some (l ++ [(n : Int) % 256])) (fun k => ?_) (Ev.val (by rw [pb_small (by omega), show (n : Int) % 256 = n by omega]))
      simp only [pack_Put.f]
      rw [if_neg (by omega), if_pos (by omega)]
theorem Put10 (n : Nat) (h : n < 18446744073709551616) (l : List Int) (hl : l.length ≤ 1000000) : Ev (fun k => pack_Put.f k l (n : Int)) (l ++ pb n) := Put_ev 9 n l (by omega) (by omega)
theorem Bytes_l0 (f : Nat) : ∀ (n : Nat) (l : List Int) (i : Int), n < 128 ^ (f + 1) → n < 18446744073709551616 → i + f = 9 → l.length + f < 70368744177664 → Ev (fun k => orielref03_Bytes.l0 k (n : Int) l i) (l ++ pb n) := by
  induction f with
  | zero =>
    intro n l i h h64 hi hl
    have h' : n < 128 := by simpa using h
    refine Ev.step (f := fun _ => some (l ++ [(Int.tmod (n : Int) 128) % 256])) (fun k => ?_) (Ev.val (by rw [pb_small h', Int.tmod_eq_emod_of_nonneg (by omega)]; congr 2; omega))
    simp only [orielref03_Bytes.l0]
    rw [if_pos (by omega), Int.tdiv_eq_ediv_of_nonneg (by omega), uwrap_id (by omega) (by omega), if_pos (by omega), if_pos (by omega)]
  | succ f ih =>
    intro n l i h h64 hi hl
    by_cases c : 128 ≤ n
    · have := ih (n / 128) (l ++ [((n % 128 + 128 : Nat) : Int)]) (i + 1) (by rw [Nat.div_lt_iff_lt_mul (by omega)]; rwa [Nat.pow_succ] at h) (by omega) (by omega) (by simp; omega)
      rw [pb_big c, show l ++ ((n % 128 + 128 : Nat) : Int) :: pb (n / 128) = l ++ [((n % 128 + 128 : Nat) : Int)] ++ pb (n / 128) by simp]
      refine Ev.step (fun k => ?_) this
      simp only [orielref03_Bytes.l0]
      rw [if_pos (by omega), Int.tdiv_eq_ediv_of_nonneg (by omega), Int.tmod_eq_emod_of_nonneg (by omega), uwrap_id (x := (n : Int) / 128) (by omega) (by omega), uwrap_id (x := (n : Int) % 128 + 128) (by omega) (by omega), if_neg (by omega), if_pos (by omega), wrap_id (by omega) (by omega),
        show (n : Int) / 128 = ((n / 128 : Nat) : Int) by omega, show ((n : Int) % 128 + 128) % 256 = ((n % 128 + 128 : Nat) : Int) by omega]
    · refine Ev.step (f := fun _ => some (l ++ [(Int.tmod (n : Int) 128) % 256])) (fun k => ?_) (Ev.val (by rw [pb_small (by omega), Int.tmod_eq_emod_of_nonneg (by omega)]; congr 2; omega))
      simp only [orielref03_Bytes.l0]
      rw [if_pos (by omega), Int.tdiv_eq_ediv_of_nonneg (by omega), uwrap_id (by omega) (by omega), if_pos (by omega), if_pos (by omega)]
theorem Bytes_ev (n : Nat) (h : n < 18446744073709551616) : Ev (fun k => orielref03_Bytes.f k (n : Int)) (pb n) := by
  have := Bytes_l0 9 n [] 0 (by omega) h (by omega) (by simp)
  unfold orielref03_Bytes.f
  simpa using this
/-! ### Get -/
theorem rd_mid (pre : List Int) (x : Int) (r : List Int) : rd (pre ++ x :: r) (pre.length : Int) = x := by
  unfold rd
  rw [List.getD_eq_getElem?_getD]
  simp
theorem shl_eq (a s : Nat) (hs : s < 64) (h : a * 2 ^ s < 18446744073709551616) : shl .u64 (a : Int) (s : Int) = ((a * 2 ^ s : Nat) : Int) := by
  unfold shl
  rw [show min ((s : Int)).toNat IntKind.u64.bits = s from (by show min ((s : Int)).toNat 64 = s; omega), show (a : Int) * 2 ^ s = ((a * 2 ^ s : Nat) : Int) by simp, uwrap_id (by omega) (by omega)]
theorem shl_wrap (a s : Nat) (hs : s < 64) : shl .u64 (a : Int) (s : Int) = ((a * 2 ^ s % 18446744073709551616 : Nat) : Int) := by
  unfold shl
  rw [show min ((s : Int)).toNat IntKind.u64.bits = s from (by show min ((s : Int)).toNat 64 = s; omega), show (a : Int) * 2 ^ s = ((a * 2 ^ s : Nat) : Int) by simp, IntKind.wrap_u64]
  omega
theorem shr_eq (a s : Nat) (hs : s < 64) : shr .u64 (a : Int) (s : Int) = ((a / 2 ^ s : Nat) : Int) := by
  unfold shr
  rw [show min ((s : Int)).toNat IntKind.u64.bits = s from (by show min ((s : Int)).toNat 64 = s; omega)]
  simp
theorem or_eq (v a s : Nat) (hv : v < 2 ^ s) (h : v + a * 2 ^ s < 18446744073709551616) : bits .or .u64 (v : Int) ((a * 2 ^ s : Nat) : Int) = ((v + a * 2 ^ s : Nat) : Int) := by
  rw [bits_or_u64_nat v (a * 2 ^ s) (by omega) (by omega), Nat.or_comm, Nat.mul_comm a (2 ^ s), ← Nat.two_pow_add_eq_or_of_lt hv a, Nat.add_comm]
theorem not_step (c : Nat) (h : c < 256) : IntKind.u64.wrap (bits .andNot .u8 (c : Int) 128) = ((c % 128 : Nat) : Int) := by
  rw [not_byte c h, uwrap_id (by omega) (by omega)]
/-- What is told of a byte that ends a number. -/
theorem Get_last (l : List Int) (c v i : Nat) (hi : 7 * i < 64) (hc : c < 128) (hz : ¬ (c = 0 ∧ 0 < i)) (hv : v < 2 ^ (7 * i)) (h : v + c * 2 ^ (7 * i) < 18446744073709551616) :
    Ev (fun k => pack_Get.j1 k (v : Int) (i : Int) (c : Int) ((7 * i : Nat) : Int) ((c : Nat) : Int) l (l.length : Int) (i : Int) false) (((v + c * 2 ^ (7 * i) : Nat) : Int), (i : Int) + 1, 0) := by
  refine Ev.step (f := fun _ => some (((v + c * 2 ^ (7 * i) : Nat) : Int), (i : Int) + 1, 0)) (fun k => ?_) (Ev.now _)
  simp only [pack_Get.j1]
  rw [if_neg (by simp), if_pos (by omega), if_pos (by omega), shl_eq c (7 * i) hi (by omega), or_eq v c (7 * i) hv h, wrap_id (by omega) (by omega)]
  by_cases c0 : (c : Int) = 0
  · rw [if_pos c0, if_neg (by omega)]
  · rw [if_neg c0]
theorem Get_more (l : List Int) (c a v i : Nat) (hi : 7 * i < 64) (hc : 128 ≤ c) (hv : v < 2 ^ (7 * i)) (h : v + a * 2 ^ (7 * i) < 18446744073709551616) (q : Int × Int × Int)
    (hq : Ev (fun k => pack_Get.l0 k ((v + a * 2 ^ (7 * i) : Nat) : Int) l (l.length : Int) ((i : Int) + 1)) q) :
    Ev (fun k => pack_Get.j1 k (v : Int) (i : Int) (c : Int) ((7 * i : Nat) : Int) ((a : Nat) : Int) l (l.length : Int) (i : Int) false) q := by
  refine Ev.step (fun k => ?_) hq
  simp only [pack_Get.j1]
  rw [if_neg (by simp), if_pos (by omega), if_neg (by omega), shl_eq a (7 * i) hi (by omega), or_eq v a (7 * i) hv h, wrap_id (by omega) (by omega)]
theorem Get_bad (l : List Int) (v i x7 x8 x9 : Int) : Ev (fun k => pack_Get.j1 k v i x7 x8 x9 l (l.length : Int) i true) (0, 0, 9) := by
  refine Ev.step (f := fun _ => some (0, 0, 9)) (fun k => ?_) (Ev.now _)
  simp only [pack_Get.j1]
  rw [if_true]
/-- One round of Get. -/
theorem Get_round (l pre r : List Int) (c v i : Nat) (hl : l.length ≤ 1000000) (he : l = pre ++ (c : Int) :: r) (hp : pre.length = i) (hc : c < 256) (q : Int × Int × Int)
    (h1 : 64 ≤ 7 * i → q = (0, 0, 9)) (h2 : 7 * i < 64 → 18446744073709551616 ≤ (c % 128) * 2 ^ (7 * i) → q = (0, 0, 9))
    (h3 : 7 * i < 64 → (c % 128) * 2 ^ (7 * i) < 18446744073709551616 → Ev (fun k => pack_Get.j1 k (v : Int) (i : Int) (c : Int) ((7 * i : Nat) : Int) ((c % 128 : Nat) : Int) l (l.length : Int) (i : Int) false) q) :
    Ev (fun k => pack_Get.l0 k (v : Int) l (l.length : Int) (i : Int)) q := by
  have hlen : l.length = i + 1 + r.length := by rw [he]; simp only [List.length_append, List.length_cons]; omega
  have e2 : rd l (i : Int) = (c : Int) := by rw [he, ← hp]; exact rd_mid pre (c : Int) r
  refine Ev.step (fun k => by
    simp only [pack_Get.l0]
    rw [if_pos (by omega), if_pos (by omega), if_pos (by omega), e2, not_step c hc, wrap_id (by omega) (by omega), show 7 * (i : Int) = ((7 * i : Nat) : Int) by omega]) ?_
  by_cases s : 64 ≤ 7 * i
  · rw [h1 s]
    exact Ev.ite_pos (by omega) (Get_bad l v i _ _ _)
  · refine Ev.ite_neg (by omega) (Ev.ite_pos (by omega) ?_)
    rw [shl_wrap _ _ (by omega), shr_eq _ _ (by omega)]
    by_cases z : (c % 128) * 2 ^ (7 * i) < 18446744073709551616
    · rw [Nat.mod_eq_of_lt z, Nat.mul_div_cancel _ (Nat.two_pow_pos _), show ((((c % 128 : Nat) : Int) != ((c % 128 : Nat) : Int))) = false by simp]
      exact h3 (by omega) z
    · rw [h2 (by omega) (by omega), show ((((c % 128) * 2 ^ (7 * i) % 18446744073709551616 / 2 ^ (7 * i) : Nat) : Int) != ((c % 128 : Nat) : Int)) = true by
        rw [bne_iff_ne]
        intro hh
        have hh' : (c % 128) * 2 ^ (7 * i) % 18446744073709551616 / 2 ^ (7 * i) = c % 128 := by omega
        have := Nat.div_mul_le_self ((c % 128) * 2 ^ (7 * i) % 18446744073709551616) (2 ^ (7 * i))
        rw [hh'] at this
        have := Nat.mod_lt ((c % 128) * 2 ^ (7 * i)) (show 0 < 18446744073709551616 by omega)
        omega]
      exact Get_bad l v i _ _ _
theorem pow_bound (i : Nat) (h : 2 ^ (7 * i) < 18446744073709551616) : 7 * i < 64 := by
  rcases Nat.lt_or_ge (7 * i) 64 with h' | h'
  · exact h'
  · have := Nat.pow_le_pow_right (show 0 < 2 by omega) h'
    omega
theorem pow_step (i : Nat) : 2 ^ (7 * (i + 1)) = 128 * 2 ^ (7 * i) := by
  rw [show 7 * (i + 1) = 7 * i + 7 by omega, Nat.pow_add]
  omega
theorem split_sum (v a w P : Nat) : v + a * P + w * (128 * P) = v + (a + 128 * w) * P := by
  rw [Nat.add_mul, Nat.mul_comm 128 w, Nat.mul_assoc]
  omega
theorem Get_ok (f : Nat) : ∀ (w : Nat) (l pre rest : List Int) (v i : Nat), w < 128 ^ (f + 1) → l.length ≤ 1000000 → l = pre ++ (pb w ++ rest) → pre.length = i → v < 2 ^ (7 * i) → (0 < i → 1 ≤ w) → v + w * 2 ^ (7 * i) < 18446744073709551616 → 7 * i < 64 →
    Ev (fun k => pack_Get.l0 k (v : Int) l (l.length : Int) (i : Int)) (((v + w * 2 ^ (7 * i) : Nat) : Int), (i : Int) + (pb w).length, 0) := by
  induction f with
  | zero =>
    intro w l pre rest v i hw hl he hp hv hi h64 hi7
    have hw' : w < 128 := by simpa using hw
    rw [pb_small hw'] at he ⊢
    refine Get_round l pre rest w v i hl (by rw [he]; simp) hp (by omega) _ (by omega) (fun _ h => by rw [Nat.mod_eq_of_lt hw'] at h; omega) (fun h1 h2 => ?_)
    rw [Nat.mod_eq_of_lt hw']
    exact Get_last l w v i h1 hw' (by omega) hv h64
  | succ f ih =>
    intro w l pre rest v i hw hl he hp hv hi h64 hi7
    by_cases c : 128 ≤ w
    · rw [pb_big c] at he ⊢
      have hsum : v + w * 2 ^ (7 * i) = v + (w % 128) * 2 ^ (7 * i) + (w / 128) * 2 ^ (7 * (i + 1)) := by
        rw [pow_step]
        have : w = w % 128 + 128 * (w / 128) := by omega
        have h2 : w * 2 ^ (7 * i) = (w % 128) * 2 ^ (7 * i) + (w / 128) * (128 * 2 ^ (7 * i)) := by
          rw [← Nat.mul_assoc, ← Nat.add_mul]
          congr 1
          omega
        omega
      have hlow : v + (w % 128) * 2 ^ (7 * i) < 2 ^ (7 * (i + 1)) := by
        rw [pow_step]
        have := Nat.mul_le_mul_right (2 ^ (7 * i)) (show w % 128 ≤ 127 by omega)
        omega
      have hone : 1 * 2 ^ (7 * (i + 1)) ≤ (w / 128) * 2 ^ (7 * (i + 1)) := Nat.mul_le_mul_right _ (by omega)
      have hi8 : 7 * (i + 1) < 64 := pow_bound (i + 1) (by omega)
      have := ih (w / 128) l (pre ++ [((w % 128 + 128 : Nat) : Int)]) rest (v + (w % 128) * 2 ^ (7 * i)) (i + 1) (by rw [Nat.div_lt_iff_lt_mul (by omega)]; rwa [Nat.pow_succ] at hw) hl (by rw [he]; simp) (by simp [hp]) hlow (fun _ => by omega) (by omega) hi8
      rw [← hsum] at this
      refine Get_round l pre (pb (w / 128) ++ rest) (w % 128 + 128) v i hl (by rw [he]; simp) hp (by omega) _ (by omega) (fun _ h => by rw [show (w % 128 + 128) % 128 = w % 128 by omega] at h; omega) (fun h1 h2 => ?_)
      rw [show (w % 128 + 128) % 128 = w % 128 by omega]
      refine Get_more l (w % 128 + 128) (w % 128) v i h1 (by omega) hv (by omega) _ ?_
      rw [show ((i : Int) + 1) = ((i + 1 : Nat) : Int) by omega]
      simp only [List.length_cons]
      rw [show (i : Int) + (((pb (w / 128)).length + 1 : Nat) : Int) = ((i + 1 : Nat) : Int) + ((pb (w / 128)).length : Int) by omega]
      exact this
    · rw [pb_small (by omega)] at he ⊢
      refine Get_round l pre rest w v i hl (by rw [he]; simp) hp (by omega) _ (by omega) (fun _ h => by rw [Nat.mod_eq_of_lt (by omega)] at h; omega) (fun h1 h2 => ?_)
      rw [Nat.mod_eq_of_lt (by omega)]
      exact Get_last l w v i h1 (by omega) (by omega) hv h64
theorem Get_pb (n : Nat) (h : n < 18446744073709551616) (rest : List Int) (hl : rest.length ≤ 900000) : Ev (fun k => pack_Get.f k (pb n ++ rest)) ((n : Int), ((pb n).length : Int), 0) := by
  have h1 := pb_len10 n h
  unfold pack_Get.f
  refine Ev.ite_neg (by simp only [List.length_append]; omega) ?_
  have := Get_ok 9 n (pb n ++ rest) [] rest 0 0 (by omega) (by simp only [List.length_append]; omega) rfl rfl (by simp) (by omega) (by simpa using h) (by omega)
  simpa using this
theorem Get_sound0 (l : List Int) (hl : l.length ≤ 1000000) : ∀ (r pre : List Int) (v i : Nat), l = pre ++ r → (∀ x ∈ r, 0 ≤ x ∧ x < 256) → pre.length = i → v < 2 ^ (7 * i) → v < 18446744073709551616 → (∀ w : Nat, (0 < i → 1 ≤ w) → pb (v + w * 2 ^ (7 * i)) = pre ++ pb w) →
    ∃ x, Ev (fun k => pack_Get.l0 k (v : Int) l (l.length : Int) (i : Int)) x ∧ (x = (0, 0, 9) ∨ ∃ (n : Nat) (rest : List Int), n < 18446744073709551616 ∧ l = pb n ++ rest ∧ x = ((n : Int), ((pb n).length : Int), 0)) := by
  intro r
  induction r with
  | nil =>
    intro pre v i he hb hp hv hv64 hpre
    refine ⟨(0, 0, 9), Ev.step (f := fun _ => some (0, 0, 9)) (fun k => ?_) (Ev.now _), .inl rfl⟩
    simp only [pack_Get.l0]
    rw [if_neg (by rw [he]; simp; omega)]
  | cons x r ih =>
    intro pre v i he hb hp hv hv64 hpre
    have hx := hb x List.mem_cons_self
    obtain ⟨c, rfl⟩ := Int.eq_ofNat_of_zero_le hx.1
    have hc : c < 256 := by omega
    by_cases s : 64 ≤ 7 * i
    · exact ⟨_, Get_round l pre r c v i hl he hp hc (0, 0, 9) (fun _ => rfl) (fun _ _ => rfl) (fun h => by omega), .inl rfl⟩
    · by_cases z : 18446744073709551616 ≤ (c % 128) * 2 ^ (7 * i)
      · exact ⟨_, Get_round l pre r c v i hl he hp hc (0, 0, 9) (fun _ => rfl) (fun _ _ => rfl) (fun _ h => by omega), .inl rfl⟩
      · have hdvd : 2 ^ 64 = 2 ^ (64 - 7 * i) * 2 ^ (7 * i) := by rw [← Nat.pow_add]; congr 1; omega
        have hsum : v + (c % 128) * 2 ^ (7 * i) < 18446744073709551616 := by
          have h1 : c % 128 < 2 ^ (64 - 7 * i) := by
            have : (c % 128) * 2 ^ (7 * i) < 2 ^ (64 - 7 * i) * 2 ^ (7 * i) := by rw [← hdvd]; omega
            exact Nat.lt_of_mul_lt_mul_right this
          have h2 : (c % 128 + 1) * 2 ^ (7 * i) ≤ 2 ^ (64 - 7 * i) * 2 ^ (7 * i) := Nat.mul_le_mul_right _ h1
          rw [← hdvd, Nat.add_mul] at h2
          omega
        by_cases d : c < 128
        · by_cases e : c = 0 ∧ 0 < i
          · refine ⟨_, Get_round l pre r c v i hl he hp hc (0, 0, 9) (fun _ => rfl) (fun _ _ => rfl) (fun _ _ => ?_), .inl rfl⟩
            refine Ev.step (f := fun _ => some (0, 0, 9)) (fun k => ?_) (Ev.now _)
            simp only [pack_Get.j1]
            rw [if_neg (by simp), if_pos (by omega), if_pos (by omega), if_pos (by omega), if_pos (by omega)]
          · have hpb := hpre c (by omega)
            rw [pb_small d] at hpb
            refine ⟨_, Get_round l pre r c v i hl he hp hc (((v + c * 2 ^ (7 * i) : Nat) : Int), (i : Int) + 1, 0) (by omega) (by omega) (fun h1 h2 => ?_), .inr ⟨v + c * 2 ^ (7 * i), r, ?_, ?_, ?_⟩⟩
            · rw [Nat.mod_eq_of_lt d]
              exact Get_last l c v i h1 d e hv (by rw [Nat.mod_eq_of_lt d] at hsum; exact hsum)
            · rw [Nat.mod_eq_of_lt d] at hsum; exact hsum
            · rw [hpb, he]; simp
            · rw [hpb]; simp [hp]
        · have hlow : v + (c % 128) * 2 ^ (7 * i) < 2 ^ (7 * (i + 1)) := by
            rw [pow_step]
            have := Nat.mul_le_mul_right (2 ^ (7 * i)) (show c % 128 ≤ 127 by omega)
            omega
          obtain ⟨y, hy, hy2⟩ := ih (pre ++ [(c : Int)]) (v + (c % 128) * 2 ^ (7 * i)) (i + 1) (by rw [he]; simp) (fun x hx => hb x (List.mem_cons_of_mem _ hx)) (by simp [hp]) hlow hsum (fun w hw => by
            have h1 := hpre (c % 128 + 128 * w) (by omega)
            rw [pow_step, split_sum, h1]
            have hw1 := hw (by omega)
            rw [pb_big (n := c % 128 + 128 * w) (by omega), show (c % 128 + 128 * w) % 128 + 128 = c by omega, show (c % 128 + 128 * w) / 128 = w by omega]
            simp)
          refine ⟨y, Get_round l pre r c v i hl he hp hc y (by omega) (by omega) (fun h1 h2 => ?_), hy2⟩
          refine Get_more l c (c % 128) v i h1 (by omega) hv hsum y ?_
          rw [show ((i : Int) + 1) = ((i + 1 : Nat) : Int) by omega]
          exact hy
theorem Get_sound (l : List Int) (hl : l.length ≤ 1000000) (hb : ∀ x ∈ l, 0 ≤ x ∧ x < 256) : ∃ x, Ev (fun k => pack_Get.f k l) x ∧ ((x = (0, 0, 9) ∧ l ≠ []) ∨ (x = (0, 0, 2) ∧ l = []) ∨ ∃ (n : Nat) (rest : List Int), n < 18446744073709551616 ∧ l = pb n ++ rest ∧ x = ((n : Int), ((pb n).length : Int), 0)) := by
  by_cases h : l = []
  · subst h
    refine ⟨(0, 0, 2), ?_, .inr (.inl ⟨rfl, rfl⟩)⟩
    unfold pack_Get.f
    exact Ev.ite_pos rfl (Ev.now _)
  · have hlen : 0 < l.length := List.length_pos_iff.mpr h
    obtain ⟨x, hx, hx2⟩ := Get_sound0 l hl l [] 0 0 rfl hb rfl (by simp) (by omega) (fun w _ => by simp)
    refine ⟨x, ?_, ?_⟩
    · unfold pack_Get.f
      refine Ev.ite_neg (by omega) ?_
      exact hx
    · rcases hx2 with h2 | h2
      · exact .inl ⟨h2, h⟩
      · exact .inr (.inr h2)
end Go.Proofs.YtjekpecobkaaoaaDoor.PackB
