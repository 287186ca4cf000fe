/- Numbers with a sign, and lists of them, as plain functions; when two rows of bytes are the same string. Plain theorems; no condition but those of each theorem. -/
import Derived.Test.YtjekpecobkaaoaaDoorPackB
import Derived.Test.YtjekpecobkaaoaaDoorPAllx19
import Derived.Test.YtjekpecobkaaoaaDoorPAllx18
namespace Go.Proofs.YtjekpecobkaaoaaDoor.PackC
open Go Go.RowKit Go.Proofs.YtjekpecobkaaoaaDoorW.PrintWords Go.Proofs.YtjekpecobkaaoaaDoorW.PrintLast Go.Proofs.YtjekpecobkaaoaaDoorW.PrintMore Go.Proofs.YtjekpecobkaaoaaDoor.PAll Go.Proofs.YtjekpecobkaaoaaDoor.PackA Go.Proofs.YtjekpecobkaaoaaDoor.PackB
set_option linter.unusedVariables false
set_option linter.unusedSimpArgs false
def zig (m : Int) : Nat := if 0 ≤ m then (2 * m).toNat else (-2 * m - 1).toNat
def zag (n : Nat) : Int := if n % 2 = 0 then ((n / 2 : Nat) : Int) else -((n / 2 : Nat) : Int) - 1
theorem zag_zig (m : Int) : zag (zig m) = m := by
  unfold zag zig
  split <;> split <;> omega
theorem zig_zag (n : Nat) : zig (zag n) = n := by
  unfold zag zig
  split <;> split <;> omega
theorem zig_range (m : Int) (h0 : -9223372036854775808 ≤ m) (h1 : m ≤ 9223372036854775807) : zig m < 18446744073709551616 := by
  unfold zig
  split <;> omega
theorem zag_range (n : Nat) (h : n < 18446744073709551616) : -9223372036854775808 ≤ zag n ∧ zag n ≤ 9223372036854775807 := by
  unfold zag
  split <;> omega
theorem xor_ones (a : Nat) (h : a < 18446744073709551616) : a ^^^ 18446744073709551615 = 18446744073709551615 - a := by
  have h1 := congrArg BitVec.toNat (BitVec.xor_allOnes (x := BitVec.ofNat 64 a))
  rw [BitVec.toNat_xor, BitVec.toNat_not, BitVec.toNat_allOnes, BitVec.toNat_ofNat, Nat.mod_eq_of_lt (by omega)] at h1
  exact h1
theorem Zig_eq (m : Int) (h0 : -9223372036854775808 ≤ m) (h1 : m ≤ 9223372036854775807) : pack_Zig.f m = some ((zig m : Nat) : Int) := by
  unfold pack_Zig.f zig
  congr 1
  by_cases c : 0 ≤ m
  · rw [if_pos c, uwrap_id c (by omega), uwrap_id (x := m * 2) (by omega) (by omega), show m / 9223372036854775808 = 0 by omega, uwrap_id (x := 0) (by omega) (by omega)]
    have := bits_xor_u64_nat (2 * m).toNat 0 (by omega) (by omega)
    rw [Nat.xor_zero] at this
    rw [show m * 2 = (((2 * m).toNat : Nat) : Int) by omega]
    exact this
  · rw [if_neg c, show IntKind.u64.wrap m = m + 18446744073709551616 by rw [IntKind.wrap_u64]; omega, show IntKind.u64.wrap ((m + 18446744073709551616) * 2) = (((2 * m + 18446744073709551616).toNat : Nat) : Int) by rw [IntKind.wrap_u64]; omega,
      show IntKind.u64.wrap (m / 9223372036854775808) = ((18446744073709551615 : Nat) : Int) by rw [IntKind.wrap_u64]; omega, bits_xor_u64_nat _ _ (by omega) (by omega), xor_ones _ (by omega)]
    omega
theorem xor_i64_zero (a : Nat) (h : a < 9223372036854775808) : bits .xor .i64 (a : Int) 0 = (a : Int) := by
  show IntKind.i64.wrap ((BitVec.ofInt 64 (a : Int) ^^^ BitVec.ofInt 64 0).toNat : Int) = _
  rw [BitVec.toNat_xor, BitVec.ofInt_natCast, BitVec.toNat_ofNat, Nat.mod_eq_of_lt (by omega), show (BitVec.ofInt 64 0).toNat = 0 by decide, Nat.xor_zero, IntKind.wrap_i64]
  omega
theorem xor_i64_ones (a : Nat) (h : a < 9223372036854775808) : bits .xor .i64 (a : Int) (-1) = -(a : Int) - 1 := by
  show IntKind.i64.wrap ((BitVec.ofInt 64 (a : Int) ^^^ BitVec.ofInt 64 (-1)).toNat : Int) = _
  rw [BitVec.toNat_xor, BitVec.ofInt_natCast, BitVec.toNat_ofNat, Nat.mod_eq_of_lt (by omega), show (BitVec.ofInt 64 (-1)).toNat = 18446744073709551615 by decide, xor_ones _ (by omega), IntKind.wrap_i64]
  omega
theorem Zag_eq (n : Nat) (h : n < 18446744073709551616) : pack_Zag.f (n : Int) = some (zag n) := by
  unfold pack_Zag.f zag
  congr 1
  have h1 := bits_and_u64_nat n 1 h (by omega)
  rw [Nat.and_one_is_mod] at h1
  rw [show (n : Int) / 2 = ((n / 2 : Nat) : Int) by omega, wrap_id (x := ((n / 2 : Nat) : Int)) (by omega) (by omega), show bits .and .u64 (n : Int) 1 = ((n % 2 : Nat) : Int) from h1, wrap_id (x := ((n % 2 : Nat) : Int)) (by omega) (by omega), wrap_id (x := -((n % 2 : Nat) : Int)) (by omega) (by omega)]
  by_cases c : n % 2 = 0
  · rw [if_pos c, c]
    exact xor_i64_zero _ (by omega)
  · rw [if_neg c, show n % 2 = 1 by omega]
    exact xor_i64_ones _ (by omega)
theorem RZig_eq (m : Int) (h0 : -9223372036854775808 ≤ m) (h1 : m ≤ 9223372036854775807) : orielref03_Zig.f m = some ((zig m : Nat) : Int) := by
  unfold orielref03_Zig.f zig
  by_cases c : 0 ≤ m
  · rw [if_pos (show m ≥ 0 from c), if_pos c, uwrap_id c (by omega), uwrap_id (x := 2 * m) (by omega) (by omega)]
    congr 1
    omega
  · rw [if_neg (show ¬ m ≥ 0 from c), if_neg c, wrap_id (x := m + 1) (by omega) (by omega), wrap_id (x := -(m + 1)) (by omega) (by omega), uwrap_id (x := -(m + 1)) (by omega) (by omega), uwrap_id (x := 2 * -(m + 1)) (by omega) (by omega), uwrap_id (by omega) (by omega)]
    congr 1
    omega
/-- A list's numbers' bytes, one behind the other. -/
def lb : List Int → List Int
  | [] => []
  | m :: r => pb (zig m) ++ lb r
theorem Bytes_l0 (l : List Int) (hl : l.length ≤ 10000) (hb : ∀ x ∈ l, -9223372036854775808 ≤ x ∧ x ≤ 9223372036854775807) : ∀ (r pre out : List Int), l = pre ++ r → out.length + 10 * r.length ≤ 200000 → Ev (fun k => pack_Bytes.l0 k out l (l.length : Int) (pre.length : Int)) (out ++ lb r) := by
  intro r
  induction r with
  | nil =>
    intro pre out he ho
    refine Ev.step (f := fun _ => some out) (fun k => ?_) (Ev.val (by simp [lb]))
    simp only [pack_Bytes.l0]
    rw [if_neg (by rw [he]; simp)]
  | cons x r ih =>
    intro pre out he ho
    have hx := hb x (by rw [he]; simp)
    have hlen : l.length = pre.length + 1 + r.length := by rw [he]; simp only [List.length_append, List.length_cons]; omega
    have e2 : rd l (pre.length : Int) = x := by rw [he]; exact rd_mid pre x r
    have hz := zig_range x hx.1 hx.2
    have h10 := pb_len10 (zig x) hz
    simp only [List.length_cons] at ho
    have hi := ih (pre ++ [x]) (out ++ pb (zig x)) (by rw [he]; simp) (by rw [List.length_append]; omega)
    rw [show (((pre ++ [x]).length : Nat) : Int) = (pre.length : Int) + 1 by simp] at hi
    refine Ev.step (fun k => by
      simp only [pack_Bytes.l0]
      rw [if_pos (by omega), if_pos (by omega), if_pos (by omega), e2, Zig_eq x hx.1 hx.2, Option.bind_some, wrap_id (x := (pre.length : Int) + 1) (by omega) (by omega)]) ?_
    refine Ev.bind (Put10 (zig x) hz out (by omega)) ?_
    simp only [lb, ← List.append_assoc]
    exact hi
theorem Bytes_list (l : List Int) (hl : l.length ≤ 10000) (hb : ∀ x ∈ l, -9223372036854775808 ≤ x ∧ x ≤ 9223372036854775807) : Ev (fun k => pack_Bytes.f k l) (pb l.length ++ lb l) := by
  unfold pack_Bytes.f
  rw [uwrap_id (by omega) (by omega)]
  have h10 := pb_len10 l.length (by omega)
  have h1 := Put10 l.length (by omega) [] (by simp)
  refine Ev.bind h1 ?_
  exact Bytes_l0 l hl hb l [] ([] ++ pb l.length) rfl (by simp only [List.nil_append]; omega)
theorem lb_bytes (l : List Int) (hb : ∀ x ∈ l, -9223372036854775808 ≤ x ∧ x ≤ 9223372036854775807) : ∀ x ∈ lb l, 0 ≤ x ∧ x < 256 := by
  induction l with
  | nil => intro x hx; cases hx
  | cons m r ih =>
    intro x hx
    have hm := hb m List.mem_cons_self
    rcases List.mem_append.mp hx with h | h
    · exact pb_bytes 9 (zig m) (by have := zig_range m hm.1 hm.2; omega) x h
    · exact ih (fun y hy => hb y (List.mem_cons_of_mem _ hy)) x h
theorem lb_len (l : List Int) (hb : ∀ x ∈ l, -9223372036854775808 ≤ x ∧ x ≤ 9223372036854775807) : (lb l).length ≤ 10 * l.length ∧ l.length ≤ (lb l).length := by
  induction l with
  | nil => simp [lb]
  | cons m r ih =>
    have hm := hb m List.mem_cons_self
    have h1 := pb_len10 (zig m) (zig_range m hm.1 hm.2)
    have h2 := ih (fun y hy => hb y (List.mem_cons_of_mem _ hy))
    simp only [lb, List.length_append, List.length_cons]
    omega
/-- What Ints reads of a list's bytes. -/
theorem Ints_ok (b : List Int) (hl : b.length ≤ 500000) (N : Nat) (hN : N ≤ 10000) : ∀ (r pre : List Int) (done : List Int), b = pre ++ lb r → (∀ x ∈ r, -9223372036854775808 ≤ x ∧ x ≤ 9223372036854775807) → done.length + r.length = N →
    Ev (fun k => pack_Ints.l0 k b (pre.length : Int) done (N : Int) (done.length : Int)) (done ++ r, 0) := by
  intro r
  induction r with
  | nil =>
    intro pre done he hb hd
    simp only [List.length_nil] at hd
    refine Ev.step (f := fun _ => some (done, 0)) (fun k => ?_) (Ev.val (by simp))
    simp only [pack_Ints.l0]
    rw [if_neg (by omega), if_neg (by rw [he]; simp [lb])]
  | cons m r ih =>
    intro pre done he hb hd
    have hm := hb m List.mem_cons_self
    have hz := zig_range m hm.1 hm.2
    have h10 := pb_len10 (zig m) hz
    simp only [List.length_cons] at hd
    have hlen : b.length = pre.length + ((pb (zig m)).length + (lb r).length) := by rw [he]; simp only [lb, List.length_append]
    have hdrop : b.drop ((pre.length : Int)).toNat = pb (zig m) ++ lb r := by
      rw [he, show ((pre.length : Int)).toNat = pre.length by omega, List.drop_left]
      rfl
    have hi := ih (pre ++ pb (zig m)) (done ++ [m]) (by rw [he]; simp [lb]) (fun x hx => hb x (List.mem_cons_of_mem _ hx)) (by simp; omega)
    rw [show (((pre ++ pb (zig m)).length : Nat) : Int) = (pre.length : Int) + (pb (zig m)).length by simp, show (((done ++ [m]).length : Nat) : Int) = (done.length : Int) + 1 by simp, show done ++ [m] ++ r = done ++ m :: r by simp] at hi
    refine Ev.step (fun k => by
      simp only [pack_Ints.l0]
      rw [if_pos (by omega), if_pos (by omega), if_pos (by omega), hdrop]) ?_
    refine Ev.bind (Get_pb (zig m) hz (lb r) (by omega)) ?_
    refine Ev.ite_pos rfl ?_
    simp only [Zag_eq (zig m) hz, zag_zig, Option.bind_some]
    refine Ev.ite_pos (by omega) ?_
    rw [wrap_id (by omega) (by omega), wrap_id (by omega) (by omega)]
    exact hi
theorem Ints_list (l : List Int) (hl : l.length ≤ 10000) (hb : ∀ x ∈ l, -9223372036854775808 ≤ x ∧ x ≤ 9223372036854775807) : Ev (fun k => pack_Ints.f k (pb l.length ++ lb l)) (l, 0) := by
  have h10 := pb_len10 l.length (by omega)
  have h1 := lb_len l hb
  unfold pack_Ints.f
  refine Ev.bind (Get_pb l.length (by omega) (lb l) (by omega)) ?_
  refine Ev.ite_pos rfl ?_
  have hle : decide (((l.length : Nat) : Int) > IntKind.u64.wrap (((pb l.length ++ lb l).length : Nat) : Int)) = false := by
    rw [uwrap_id (by omega) (by rw [List.length_append]; omega), decide_eq_false_iff_not, List.length_append]
    omega
  simp only [hle]
  have hi := Ints_ok (pb l.length ++ lb l) (by rw [List.length_append]; omega) l.length hl l (pb l.length) [] rfl hb (by simp)
  refine Ev.step (fun k => ?_) hi
  simp only [pack_Ints.j0]
  rw [if_neg (by simp), wrap_id (by omega) (by omega)]
  rfl
end Go.Proofs.YtjekpecobkaaoaaDoor.PackC
