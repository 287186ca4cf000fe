/- Sets as rows of words: Join and Rest as plain functions, their laws, lists of sets, and how many members a set has. Plain theorems; no condition but those of each theorem. -/
import Derived.Test.YtjekpecobkaaoaaDoorPackA
import Derived.Test.YtjekpecobkaaoaaDoorPAllx4
import Derived.Test.YtjekpecobkaaoaaDoorPAllx22
import Derived.Test.YtjekpecobkaaoaaDoorPackB
import Derived.Test.YtjekpecobkaaoaaDoorPAllx7
import Derived.Test.YtjekpecobkaaoaaDoorPAllx10
import Derived.Test.YtjekpecobkaaoaaDoorPAllx23
namespace Go.Proofs.YtjekpecobkaaoaaDoor.PackF
open Go Go.RowKit Go.Proofs.YtjekpecobkaaoaaDoorW.PrintWords Go.Proofs.YtjekpecobkaaoaaDoorW.PrintLast Go.Proofs.YtjekpecobkaaoaaDoorW.PrintMore Go.Proofs.YtjekpecobkaaoaaDoor.PAll Go.Proofs.YtjekpecobkaaoaaDoor.PackA
set_option linter.unusedVariables false
set_option linter.unusedSimpArgs false
/-- A set of at most 1024 words. -/
def WS (s : List Int) : Prop := s.length ≤ 1024 ∧ ∀ x ∈ s, 0 ≤ x ∧ x < 18446744073709551616
def wd (s : List Int) (i : Nat) : Nat := (s.getD i 0).toNat
theorem wd_lt {s : List Int} (h : WS s) (i : Nat) : wd s i < 18446744073709551616 := by
  unfold wd
  rw [List.getD_eq_getElem?_getD]
  cases hi : s[i]? with
  | none => simp
  | some x =>
    have := h.2 x (List.mem_of_getElem? hi)
    simp only [Option.getD_some]
    omega
theorem word_eq {s : List Int} (h : WS s) (i : Nat) : pack_Set_word.f s (i : Int) = some ((wd s i : Nat) : Int) := by
  unfold pack_Set_word.f wd
  rw [if_neg (by omega)]
  by_cases c : s.length ≤ i
  · rw [if_pos (by omega), List.getD_eq_getElem?_getD, List.getElem?_eq_none c]
    rfl
  · have hm : s[i] ∈ s := List.getElem_mem (by omega)
    have := h.2 _ hm
    have hl := h.1
    rw [if_neg (by omega), if_neg (by omega), if_pos (by omega), if_pos (by omega)]
    unfold rd
    rw [List.getD_eq_getElem?_getD, List.getD_eq_getElem?_getD, show ((i : Int)).toNat = i by omega, List.getElem?_eq_getElem (by omega), Option.getD_some, Int.toNat_of_nonneg this.1]
theorem words_eq {s : List Int} (h : WS s) : pack_Set_words.f s = some (s.length : Int) := by
  unfold pack_Set_words.f mn
  have := h.1
  congr 1
  split <;> omega
theorem set_mid (pre : List Int) (y z : Int) (r : List Int) : (pre ++ y :: r).set pre.length z = pre ++ z :: r := by
  induction pre with
  | nil => rfl
  | cons x pre ih => simp only [List.cons_append, List.length_cons, List.set_cons_succ, ih]
/-- Word by word. -/
def both (f : Nat → Nat → Nat) (s t : List Int) : Nat → Nat → List Int
  | _, 0 => []
  | i, d + 1 => ((f (wd s i) (wd t i) : Nat) : Int) :: both f s t (i + 1) d
theorem both_len (f : Nat → Nat → Nat) (s t : List Int) (d : Nat) : ∀ i, (both f s t i d).length = d := by
  induction d with
  | zero => intro i; rfl
  | succ d ih => intro i; simp [both, ih]
theorem both_wd (f : Nat → Nat → Nat) (s t : List Int) (d : Nat) : ∀ i j, wd (both f s t i d) j = if j < d then f (wd s (i + j)) (wd t (i + j)) else 0 := by
  induction d with
  | zero => intro i j; simp [both, wd]
  | succ d ih =>
    intro i j
    cases j with
    | zero => simp [both, wd]
    | succ j =>
      have := ih (i + 1) j
      simp only [both, wd, List.getD_cons_succ] at this ⊢
      rw [this, show i + 1 + j = i + (j + 1) by omega]
      by_cases c : j < d
      · rw [if_pos c, if_pos (by omega)]
      · rw [if_neg c, if_neg (by omega)]
theorem both_ws (f : Nat → Nat → Nat) (hf : ∀ a b, a < 18446744073709551616 → b < 18446744073709551616 → f a b < 18446744073709551616) {s t : List Int} (hs : WS s) (ht : WS t) (d : Nat) (hd : d ≤ 1024) (i : Nat) : WS (both f s t i d) := by
  refine ⟨by rw [both_len]; exact hd, ?_⟩
  clear hd
  induction d generalizing i with
  | zero => intro x hx; cases hx
  | succ d ih =>
    intro x hx
    cases hx with
    | head => have := hf _ _ (wd_lt hs i) (wd_lt ht i); omega
    | tail _ hx => exact ih (i + 1) x hx
def joinL (s t : List Int) : List Int := both (fun a b => a ||| b) s t 0 (max s.length t.length)
theorem join_op (a b : Nat) (ha : a < 18446744073709551616) (hb : b < 18446744073709551616) : pack_Set_Join_op.f (a : Int) (b : Int) = some ((a ||| b : Nat) : Int) := by
  unfold pack_Set_Join_op.f
  rw [bits_or_u64_nat a b ha hb]
theorem Join_l0 {s t : List Int} (hs : WS s) (ht : WS t) (N : Nat) (hN : N ≤ 1024) : ∀ (r pre : List Int), pre.length + r.length = N →
    Ev (fun k => pack_Set_Join_both.l0 k s t (pre ++ r) (N : Int) (pre.length : Int)) (pre ++ both (fun a b => a ||| b) s t pre.length r.length) := by
  intro r
  induction r with
  | nil =>
    intro pre h
    simp only [List.length_nil] at h
    refine Ev.step (f := fun _ => some (pre ++ [])) (fun k => ?_) (Ev.val (by simp [both]))
    simp only [pack_Set_Join_both.l0]
    rw [if_neg (by omega)]
  | cons y r ih =>
    intro pre h
    simp only [List.length_cons] at h
    have hi := ih (pre ++ [((wd s pre.length ||| wd t pre.length : Nat) : Int)]) (by simp; omega)
    simp only [List.length_append, List.length_cons, List.length_nil] at hi
    refine Ev.step (fun k => ?_) (f := fun k => pack_Set_Join_both.l0 k s t (pre ++ ((wd s pre.length ||| wd t pre.length : Nat) : Int) :: r) (N : Int) ((pre.length : Int) + 1)) ?_
    · simp only [pack_Set_Join_both.l0]
      rw [if_pos (by omega), word_eq hs, word_eq ht, Option.bind_some, Option.bind_some, join_op _ _ (wd_lt hs _) (wd_lt ht _), Option.bind_some, if_pos (by omega), if_pos (by simp only [List.length_append, List.length_cons]; omega), show ((pre.length : Int)).toNat = pre.length by omega, set_mid, wrap_id (by omega) (by omega)]
    · rw [List.length_cons, show pre ++ both (fun a b => a ||| b) s t pre.length (r.length + 1) = pre ++ [((wd s pre.length ||| wd t pre.length : Nat) : Int)] ++ both (fun a b => a ||| b) s t (pre.length + 1) r.length by simp [both]]
      rw [show pre ++ ((wd s pre.length ||| wd t pre.length : Nat) : Int) :: r = pre ++ [((wd s pre.length ||| wd t pre.length : Nat) : Int)] ++ r by simp]
      simpa using hi
theorem Join_ev {s t : List Int} (hs : WS s) (ht : WS t) : Ev (fun k => pack_Set_Join.f k s t) (joinL s t) := by
  unfold pack_Set_Join.f pack_Set_Join_both.f
  have h1 := hs.1
  have h2 := ht.1
  simp only [words_eq hs, words_eq ht, Option.bind_some]
  have hm : mx (s.length : Int) (t.length : Int) = ((max s.length t.length : Nat) : Int) := by unfold mx; split <;> omega
  rw [hm]
  refine Ev.ite_pos (by omega) (Ev.ite_pos (by omega) ?_)
  have := Join_l0 hs ht (max s.length t.length) (by omega) (List.replicate (max s.length t.length) 0) [] (by simp)
  simp only [List.length_replicate, List.nil_append, List.length_nil] at this
  rw [show (((max s.length t.length : Nat) : Int)).toNat = max s.length t.length by omega]
  simp only [List.length_replicate]
  exact this
/-- The bits that the second one has not. -/
def andn (a b : Nat) : Nat := a ^^^ (a &&& b)
def restL (s t : List Int) : List Int := both andn s t 0 (max s.length t.length)
theorem andn_testBit (a b i : Nat) : (andn a b).testBit i = (a.testBit i && !b.testBit i) := by
  unfold andn
  rw [Nat.testBit_xor, Nat.testBit_and]
  cases a.testBit i <;> cases b.testBit i <;> rfl
theorem andn_lt (a b : Nat) (ha : a < 18446744073709551616) : andn a b < 18446744073709551616 := by
  have h : a &&& b < 2 ^ 64 := Nat.lt_of_le_of_lt Nat.and_le_left (by omega)
  have := Nat.xor_lt_two_pow (n := 64) (show a < 2 ^ 64 by omega) h
  unfold andn
  omega
theorem rest_op (a b : Nat) (ha : a < 18446744073709551616) (hb : b < 18446744073709551616) : pack_Set_Rest_op.f (a : Int) (b : Int) = some ((andn a b : Nat) : Int) := by
  unfold pack_Set_Rest_op.f
  congr 1
  show IntKind.u64.wrap ((BitVec.ofInt 64 (a : Int) &&& ~~~ BitVec.ofInt 64 (b : Int)).toNat : Int) = _
  rw [BitVec.toNat_and, BitVec.toNat_not, BitVec.ofInt_natCast, BitVec.ofInt_natCast, BitVec.toNat_ofNat, BitVec.toNat_ofNat, Nat.mod_eq_of_lt (by omega), Nat.mod_eq_of_lt (by omega)]
  have he : a &&& (2 ^ 64 - 1 - b) = andn a b := by
    apply Nat.eq_of_testBit_eq
    intro i
    rw [andn_testBit, Nat.testBit_and, show 2 ^ 64 - 1 - b = 2 ^ 64 - (b + 1) by omega, Nat.testBit_two_pow_sub_succ (by omega)]
    by_cases c : i < 64
    · rw [decide_eq_true c, Bool.true_and]
    · have : a.testBit i = false := Nat.testBit_lt_two_pow (Nat.lt_of_lt_of_le (show a < 2 ^ 64 by omega) (Nat.pow_le_pow_right (by omega) (by omega)))
      rw [this]
      rfl
  rw [he, uwrap_id (by omega) (by have := andn_lt a b ha; omega)]
theorem Rest_l0 {s t : List Int} (hs : WS s) (ht : WS t) (N : Nat) (hN : N ≤ 1024) : ∀ (r pre : List Int), pre.length + r.length = N →
    Ev (fun k => pack_Set_Rest_both.l0 k s t (pre ++ r) (N : Int) (pre.length : Int)) (pre ++ both andn s t pre.length r.length) := by
  intro r
  induction r with
  | nil =>
    intro pre h
    simp only [List.length_nil] at h
    refine Ev.step (f := fun _ => some (pre ++ [])) (fun k => ?_) (Ev.val (by simp [both]))
    simp only [pack_Set_Rest_both.l0]
    rw [if_neg (by omega)]
  | cons y r ih =>
    intro pre h
    simp only [List.length_cons] at h
    have hi := ih (pre ++ [((andn (wd s pre.length) (wd t pre.length) : Nat) : Int)]) (by simp; omega)
    simp only [List.length_append, List.length_cons, List.length_nil] at hi
    refine Ev.step (fun k => ?_) (f := fun k => pack_Set_Rest_both.l0 k s t (pre ++ ((andn (wd s pre.length) (wd t pre.length) : Nat) : Int) :: r) (N : Int) ((pre.length : Int) + 1)) ?_
    · simp only [pack_Set_Rest_both.l0]
      rw [if_pos (by omega), word_eq hs, word_eq ht, Option.bind_some, Option.bind_some, rest_op _ _ (wd_lt hs _) (wd_lt ht _), Option.bind_some, if_pos (by omega), if_pos (by simp only [List.length_append, List.length_cons]; omega), show ((pre.length : Int)).toNat = pre.length by omega, set_mid, wrap_id (by omega) (by omega)]
    · rw [List.length_cons, show pre ++ both andn s t pre.length (r.length + 1) = pre ++ [((andn (wd s pre.length) (wd t pre.length) : Nat) : Int)] ++ both andn s t (pre.length + 1) r.length by simp [both]]
      rw [show pre ++ ((andn (wd s pre.length) (wd t pre.length) : Nat) : Int) :: r = pre ++ [((andn (wd s pre.length) (wd t pre.length) : Nat) : Int)] ++ r by simp]
      simpa using hi
theorem Rest_ev {s t : List Int} (hs : WS s) (ht : WS t) : Ev (fun k => pack_Set_Rest.f k s t) (restL s t) := by
  unfold pack_Set_Rest.f pack_Set_Rest_both.f
  have h1 := hs.1
  have h2 := ht.1
  simp only [words_eq hs, words_eq ht, Option.bind_some]
  have hm : mx (s.length : Int) (t.length : Int) = ((max s.length t.length : Nat) : Int) := by unfold mx; split <;> omega
  rw [hm]
  refine Ev.ite_pos (by omega) (Ev.ite_pos (by omega) ?_)
  have := Rest_l0 hs ht (max s.length t.length) (by omega) (List.replicate (max s.length t.length) 0) [] (by simp)
  simp only [List.length_replicate, List.nil_append, List.length_nil] at this
  rw [show (((max s.length t.length : Nat) : Int)).toNat = max s.length t.length by omega]
  simp only [List.length_replicate]
  exact this
end Go.Proofs.YtjekpecobkaaoaaDoor.PackF
namespace Go.Proofs.YtjekpecobkaaoaaDoor.PackG
open Go Go.RowKit Go.Proofs.YtjekpecobkaaoaaDoorW.PrintWords Go.Proofs.YtjekpecobkaaoaaDoorW.PrintLast Go.Proofs.YtjekpecobkaaoaaDoorW.PrintMore Go.Proofs.YtjekpecobkaaoaaDoor.PAll Go.Proofs.YtjekpecobkaaoaaDoor.PackA Go.Proofs.YtjekpecobkaaoaaDoor.PackB Go.Proofs.YtjekpecobkaaoaaDoor.PackF
set_option linter.unusedVariables false
set_option linter.unusedSimpArgs false
theorem evs {α : Type} {x : Option α} {r : α} (h : x = some r) : Ev (fun _ : Nat => x) r := by
  rw [h]
  exact Ev.now r
theorem or_lt (a b : Nat) (ha : a < 18446744073709551616) (hb : b < 18446744073709551616) : (a ||| b) < 18446744073709551616 := by
  have := Nat.or_lt_two_pow (n := 64) (show a < 2 ^ 64 by omega) (show b < 2 ^ 64 by omega)
  omega
theorem join_ws {s t : List Int} (hs : WS s) (ht : WS t) : WS (joinL s t) := both_ws _ or_lt hs ht _ (by have := hs.1; have := ht.1; omega) 0
theorem rest_ws {s t : List Int} (hs : WS s) (ht : WS t) : WS (restL s t) := both_ws _ (fun a b ha _ => andn_lt a b ha) hs ht _ (by have := hs.1; have := ht.1; omega) 0
theorem may_eq (n : Int) : pack_may.f n = some (decide (0 ≤ n ∧ n ≤ 65535)) := by
  unfold pack_may.f
  by_cases c : 0 ≤ n
  · simp [c]
  · simp [c]
theorem one_ws (n : Int) (h0 : 0 ≤ n) (h1 : n ≤ 65535) : WS (List.replicate (n / 64).toNat 0 ++ [shl .u64 1 (n % 64)]) := by
  constructor
  · simp only [List.length_append, List.length_replicate, List.length_cons, List.length_nil]
    omega
  · intro x hx
    rcases List.mem_append.mp hx with h | h
    · have := List.eq_of_mem_replicate h
      omega
    · simp only [List.mem_singleton] at h
      subst h
      obtain ⟨m, hm⟩ := Int.eq_ofNat_of_zero_le (show 0 ≤ n % 64 by omega)
      rw [hm]
      have := shl_wrap 1 m (by omega)
      rw [show ((1 : Nat) : Int) = 1 from rfl] at this
      rw [this]
      omega
theorem With_ev {s : List Int} (hs : WS s) (n : Int) (hn0 : -9223372036854775808 ≤ n) (hn1 : n ≤ 9223372036854775807) : ∃ t, WS t ∧ Ev (fun k => pack_Set_With.f k s n) t := by
  by_cases c : 0 ≤ n ∧ n ≤ 65535
  · have h1 := one_ws n c.1 c.2
    refine ⟨_, join_ws hs h1, ?_⟩
    unfold pack_Set_With.f
    refine Ev.bind (evs (may_eq n)) ?_
    rw [decide_eq_true c]
    rw [Int.tdiv_eq_ediv_of_nonneg c.1, Int.tmod_eq_emod_of_nonneg c.1, wrap_id (by omega) (by omega)]
    refine Ev.ite_pos rfl (Ev.ite_pos (by omega) (Ev.ite_pos (by omega) (Ev.some_bind (Ev.ite_pos (by omega) (Ev.some_bind (Ev.ite_pos ?_ ?_))))))
    · simp only [List.length_replicate, List.length_cons, List.length_nil]
      omega
    · exact Ev.bind (f := fun _ t => some t) (Join_ev hs h1) (Ev.now _)
  · refine ⟨s, hs, ?_⟩
    unfold pack_Set_With.f
    refine Ev.bind (evs (may_eq n)) ?_
    rw [decide_eq_false c]
    refine Ev.ite_neg (by simp) ?_
    refine Ev.bind (f := fun _ t => some t) (evs (r := s) ?_) (Ev.now _)
    unfold pack_Set_uint64.f
    have := hs.1
    rw [if_pos (by omega)]
theorem Of_l0 (l : List Int) (hl : l.length ≤ 100000) (hb : ∀ x ∈ l, -9223372036854775808 ≤ x ∧ x ≤ 9223372036854775807) : ∀ (r pre s : List Int), l = pre ++ r → WS s → ∃ t, WS t ∧ Ev (fun k => pack_Of.l0 k s l (l.length : Int) (pre.length : Int)) t := by
  intro r
  induction r with
  | nil =>
    intro pre s he hs
    refine ⟨s, hs, Ev.step (f := fun _ => some s) (fun k => ?_) (Ev.now _)⟩
    simp only [pack_Of.l0]
    rw [if_neg (by rw [he]; simp)]
  | cons x r ih =>
    intro pre s he hs
    have hx := hb x (by rw [he]; simp)
    have hlen : l.length = pre.length + 1 + r.length := by rw [he]; simp only [List.length_append, List.length_cons]; omega
    have e2 : rd l (pre.length : Int) = x := by rw [he]; exact rd_mid pre x r
    obtain ⟨t, ht, hte⟩ := With_ev hs x hx.1 hx.2
    obtain ⟨u, hu, hue⟩ := ih (pre ++ [x]) t (by rw [he]; simp) ht
    rw [show (((pre ++ [x]).length : Nat) : Int) = (pre.length : Int) + 1 by simp] at hue
    refine ⟨u, hu, Ev.step (fun k => by
      simp only [pack_Of.l0]
      rw [if_pos (by omega), if_pos (by omega), if_pos (by omega), e2, wrap_id (x := (pre.length : Int) + 1) (by omega) (by omega)]) ?_⟩
    exact Ev.bind hte hue
theorem Of_ev (l : List Int) (hl : l.length ≤ 100000) (hb : ∀ x ∈ l, -9223372036854775808 ≤ x ∧ x ≤ 9223372036854775807) : ∃ t, WS t ∧ Ev (fun k => pack_Of.f k l) t :=
  Of_l0 l hl hb l [] [] rfl ⟨by simp, fun x hx => by cases hx⟩
theorem tz_some (w : Nat) (h : w < 18446744073709551616) : bits_TrailingZeros64.f (w : Int) = some ((Lib.ctz 64 w : Nat) : Int) := by
  unfold bits_TrailingZeros64.f
  rw [if_pos (by omega), show ((w : Int)).toNat = w by omega]
theorem clear_low (w c : Nat) (h0 : w ≠ 0) (h : w < 18446744073709551616) (hd : w % 2 ^ c = 0) : bits .and .u64 (w : Int) (IntKind.u64.wrap ((w : Int) - 1)) = ((w &&& (w - 1) : Nat) : Int) ∧ (w &&& (w - 1)) < 18446744073709551616 ∧ (w &&& (w - 1)) % 2 ^ (c + 1) = 0 := by
  refine ⟨?_, Nat.lt_of_le_of_lt Nat.and_le_left h, ?_⟩
  · rw [show (w : Int) - 1 = ((w - 1 : Nat) : Int) by omega, uwrap_id (by omega) (by omega)]
    exact bits_and_u64_nat w (w - 1) h (by omega)
  · rw [Nat.and_mod_two_pow]
    have hp : 2 ^ (c + 1) = 2 * 2 ^ c := by rw [Nat.pow_succ]; omega
    have hpos := Nat.two_pow_pos c
    obtain ⟨q, hq⟩ := Nat.dvd_of_mod_eq_zero hd
    rcases Nat.mod_two_eq_zero_or_one q with e | e
    · have : w % 2 ^ (c + 1) = 0 := by
        obtain ⟨u, hu⟩ : ∃ u, q = 2 * u := ⟨q / 2, by omega⟩
        rw [hq, hu, hp, show 2 ^ c * (2 * u) = 2 * 2 ^ c * u by rw [Nat.mul_comm 2 (2 ^ c), Nat.mul_assoc]]
        exact Nat.mul_mod_right _ _
      rw [this, Nat.zero_and]
    · obtain ⟨u, hu⟩ : ∃ u, q = 2 * u + 1 := ⟨q / 2, by omega⟩
      have hw : w = 2 ^ (c + 1) * u + 2 ^ c := by
        rw [hq, hu, hp, Nat.mul_add, Nat.mul_one, ← Nat.mul_assoc, Nat.mul_comm (2 ^ c) 2]
      have h1 : w % 2 ^ (c + 1) = 2 ^ c := by
        rw [hw, Nat.mul_add_mod]
        exact Nat.mod_eq_of_lt (by omega)
      have h2 : (w - 1) % 2 ^ (c + 1) = 2 ^ c - 1 := by
        rw [show w - 1 = 2 ^ (c + 1) * u + (2 ^ c - 1) by omega, Nat.mul_add_mod]
        exact Nat.mod_eq_of_lt (by omega)
      rw [h1, h2, Nat.and_two_pow_sub_one_eq_mod, Nat.mod_self]
theorem List_l1 (s : List Int) (x4 x7 : Int) (i : Nat) (hi : i ≤ 2000) (d : Nat) : ∀ (c w : Nat) (out : List Int), c + d = 64 → w < 18446744073709551616 → w % 2 ^ c = 0 → out.length + d ≤ 1000000 →
    ∃ out' : List Int, out'.length ≤ out.length + d ∧ ∀ q, Ev (fun k => pack_Set_List.l0 k s out' x7 ((i : Int) + 1)) q → Ev (fun k => pack_Set_List.l1 k s out x4 (w : Int) x7 (i : Int)) q := by
  induction d with
  | zero =>
    intro c w out hc hw hd ho
    have hw0 : w = 0 := by
      rw [show c = 64 by omega] at hd
      omega
    subst hw0
    refine ⟨out, by omega, fun q hq => Ev.step (fun k => ?_) hq⟩
    simp only [pack_Set_List.l1]
    rw [if_pos (by rfl), wrap_id (by omega) (by omega)]
  | succ d ih =>
    intro c w out hc hw hd ho
    by_cases h0 : w = 0
    · subst h0
      refine ⟨out, by omega, fun q hq => Ev.step (fun k => ?_) hq⟩
      simp only [pack_Set_List.l1]
      rw [if_pos (by rfl), wrap_id (by omega) (by omega)]
    · obtain ⟨e1, e2, e3⟩ := clear_low w c h0 hw hd
      obtain ⟨out', h1, h2⟩ := ih (c + 1) (w &&& (w - 1)) (out ++ [wrap64 ((wrap64 (64 * x4)) + ((Lib.ctz 64 w : Nat) : Int))]) (by omega) e2 e3 (by simp; omega)
      refine ⟨out', by simp at h1; omega, fun q hq => Ev.step (fun k => ?_) (h2 q hq)⟩
      simp only [pack_Set_List.l1]
      rw [if_neg (by omega), tz_some w hw, Option.bind_some, if_pos (by omega), e1]
theorem List_l0 {s : List Int} (hs : WS s) : ∀ (r pre out : List Int), s = pre ++ r → out.length ≤ 64 * pre.length → ∃ t, t.length ≤ 65536 ∧ Ev (fun k => pack_Set_List.l0 k s out (s.length : Int) (pre.length : Int)) t := by
  intro r
  induction r with
  | nil =>
    intro pre out he ho
    have := hs.1
    have hp : pre.length = s.length := by rw [he]; simp
    refine ⟨out, by omega, Ev.step (f := fun _ => some out) (fun k => ?_) (Ev.now _)⟩
    simp only [pack_Set_List.l0]
    rw [if_neg (by omega)]
  | cons x r ih =>
    intro pre out he ho
    have hx := hs.2 x (by rw [he]; simp)
    obtain ⟨w, rfl⟩ := Int.eq_ofNat_of_zero_le hx.1
    have hl := hs.1
    have hlen : s.length = pre.length + 1 + r.length := by rw [he]; simp only [List.length_append, List.length_cons]; omega
    have e2 : rd s (pre.length : Int) = (w : Int) := by rw [he]; exact rd_mid pre (w : Int) r
    obtain ⟨out', h1, h2⟩ := List_l1 s (pre.length : Int) (s.length : Int) pre.length (by omega) 64 0 w out (by omega) (by omega) (by rw [Nat.pow_zero]; exact Nat.mod_one _) (by omega)
    obtain ⟨t, h3, h4⟩ := ih (pre ++ [(w : Int)]) out' (by rw [he]; simp) (by simp; omega)
    rw [show (((pre ++ [(w : Int)]).length : Nat) : Int) = (pre.length : Int) + 1 by simp] at h4
    refine ⟨t, h3, Ev.step (fun k => ?_) (h2 t h4)⟩
    simp only [pack_Set_List.l0]
    rw [if_pos (by omega), if_pos (by omega), if_pos (by omega), e2]
theorem List_ev {s : List Int} (hs : WS s) : ∃ t, t.length ≤ 65536 ∧ Ev (fun k => pack_Set_List.f k s) t := by
  obtain ⟨t, h1, h2⟩ := List_l0 hs s [] [] rfl (by simp)
  refine ⟨t, h1, ?_⟩
  unfold pack_Set_List.f
  simp only [words_eq hs, Option.bind_some]
  exact h2
end Go.Proofs.YtjekpecobkaaoaaDoor.PackG
namespace Go.Proofs.YtjekpecobkaaoaaDoor.PackH
open Go Go.RowKit Go.Proofs.YtjekpecobkaaoaaDoorW.PrintWords Go.Proofs.YtjekpecobkaaoaaDoorW.PrintLast Go.Proofs.YtjekpecobkaaoaaDoorW.PrintMore Go.Proofs.YtjekpecobkaaoaaDoor.PAll Go.Proofs.YtjekpecobkaaoaaDoor.PackA Go.Proofs.YtjekpecobkaaoaaDoor.PackF
set_option linter.unusedVariables false
set_option linter.unusedSimpArgs false
theorem both_ext (f g : Nat → Nat → Nat) (s t u v : List Int) (h : ∀ i, f (wd s i) (wd t i) = g (wd u i) (wd v i)) (d : Nat) : ∀ i, both f s t i d = both g u v i d := by
  induction d with
  | zero => intro i; rfl
  | succ d ih => intro i; simp only [both, h i, ih (i + 1)]
theorem wd_beyond (s : List Int) (i : Nat) (h : s.length ≤ i) : wd s i = 0 := by
  unfold wd
  rw [List.getD_eq_getElem?_getD, List.getElem?_eq_none h]
  rfl
theorem join_len (s t : List Int) : (joinL s t).length = max s.length t.length := both_len _ _ _ _ _
theorem rest_len (s t : List Int) : (restL s t).length = max s.length t.length := both_len _ _ _ _ _
theorem join_wd (s t : List Int) (i : Nat) : wd (joinL s t) i = wd s i ||| wd t i := by
  unfold joinL
  rw [both_wd, Nat.zero_add]
  by_cases c : i < max s.length t.length
  · rw [if_pos c]
  · rw [if_neg c, wd_beyond s i (by omega), wd_beyond t i (by omega)]
    rfl
theorem rest_wd (s t : List Int) (i : Nat) : wd (restL s t) i = andn (wd s i) (wd t i) := by
  unfold restL
  rw [both_wd, Nat.zero_add]
  by_cases c : i < max s.length t.length
  · rw [if_pos c]
  · rw [if_neg c, wd_beyond s i (by omega), wd_beyond t i (by omega)]
    rfl
theorem self_eq {s : List Int} (hs : ∀ x ∈ s, 0 ≤ x) : ∀ (r pre : List Int), s = pre ++ r → r = both (fun a _ => a) s s pre.length r.length := by
  intro r
  induction r with
  | nil => intro pre _; rfl
  | cons x r ih =>
    intro pre he
    have hx := hs x (by rw [he]; simp)
    have hw : ((wd s pre.length : Nat) : Int) = x := by
      unfold wd
      rw [he, List.getD_eq_getElem?_getD, List.getElem?_append_right (by omega), Nat.sub_self]
      simp only [List.getElem?_cons_zero, Option.getD_some]
      omega
    have := ih (pre ++ [x]) (by rw [he]; simp)
    simp only [List.length_cons, both, hw]
    rw [show (pre ++ [x]).length = pre.length + 1 by simp] at this
    rw [← this]
theorem join_comm (s t : List Int) : joinL s t = joinL t s := by
  unfold joinL
  rw [Nat.max_comm]
  exact both_ext _ _ _ _ _ _ (fun i => Nat.or_comm _ _) _ _
theorem join_assoc (s t u : List Int) : joinL (joinL s t) u = joinL s (joinL t u) := by
  show both _ _ _ 0 (max (joinL s t).length u.length) = both _ _ _ 0 (max s.length (joinL t u).length)
  rw [join_len, join_len, Nat.max_assoc]
  exact both_ext _ _ _ _ _ _ (fun i => by rw [join_wd, join_wd, Nat.or_assoc]) _ _
theorem join_self {s : List Int} (hs : WS s) : joinL s s = s := by
  have h := self_eq (fun x hx => (hs.2 x hx).1) s [] rfl
  show both _ s s 0 (max s.length s.length) = s
  rw [Nat.max_self]
  refine Eq.trans ?_ h.symm
  exact both_ext _ _ _ _ _ _ (fun i => Nat.or_self _) _ _
theorem rest_rest (s t u : List Int) : restL (restL s t) u = restL s (joinL t u) := by
  show both _ _ _ 0 (max (restL s t).length u.length) = both _ _ _ 0 (max s.length (joinL t u).length)
  rw [join_len, rest_len, Nat.max_assoc]
  refine both_ext _ _ _ _ _ _ (fun i => ?_) _ _
  rw [join_wd, rest_wd]
  apply Nat.eq_of_testBit_eq
  intro j
  rw [andn_testBit, andn_testBit, andn_testBit, Nat.testBit_or]
  cases (wd s i).testBit j <;> cases (wd t i).testBit j <;> cases (wd u i).testBit j <;> rfl
theorem rest_join (s t : List Int) : joinL (restL s t) t = joinL s t := by
  show both _ _ _ 0 (max (restL s t).length t.length) = both _ _ _ 0 (max s.length t.length)
  rw [rest_len, show max (max s.length t.length) t.length = max s.length t.length by omega]
  refine both_ext _ _ _ _ _ _ (fun i => ?_) _ _
  rw [rest_wd]
  apply Nat.eq_of_testBit_eq
  intro j
  rw [Nat.testBit_or, Nat.testBit_or, andn_testBit]
  cases (wd s i).testBit j <;> cases (wd t i).testBit j <;> rfl
end Go.Proofs.YtjekpecobkaaoaaDoor.PackH
namespace Go.Proofs.YtjekpecobkaaoaaDoor.PackI
open Go Go.RowKit Go.Proofs.YtjekpecobkaaoaaDoorW.PrintWords Go.Proofs.YtjekpecobkaaoaaDoorW.PrintLast Go.Proofs.YtjekpecobkaaoaaDoorW.PrintMore Go.Proofs.YtjekpecobkaaoaaDoor.PAll Go.Proofs.YtjekpecobkaaoaaDoor.PackA Go.Proofs.YtjekpecobkaaoaaDoor.PackF Go.Proofs.YtjekpecobkaaoaaDoor.PackH
set_option linter.unusedVariables false
set_option linter.unusedSimpArgs false
/-- The number of bits below a place. -/
def pc : Nat → Nat → Nat
  | 0, _ => 0
  | n + 1, w => pc n w + (w.testBit n).toNat
theorem pc_join (n a b : Nat) : pc n (a ||| b) = pc n (andn a b) + pc n b := by
  induction n with
  | zero => rfl
  | succ n ih =>
    simp only [pc, ih, Nat.testBit_or, andn_testBit]
    cases a.testBit n <;> cases b.testBit n <;> simp <;> omega
theorem and_digit (q r M m : Nat) (hr : r < 256) (hm : m < 256) : (256 * q + r) &&& (256 * M + m) = 256 * (q &&& M) + (r &&& m) := by
  have h1 : ((256 * q + r) &&& (256 * M + m)) / 2 ^ 8 = (256 * q + r) / 2 ^ 8 &&& (256 * M + m) / 2 ^ 8 := Nat.and_div_two_pow
  have h2 : ((256 * q + r) &&& (256 * M + m)) % 2 ^ 8 = (256 * q + r) % 2 ^ 8 &&& (256 * M + m) % 2 ^ 8 := Nat.and_mod_two_pow
  rw [show (256 * q + r) / 2 ^ 8 = q by omega, show (256 * M + m) / 2 ^ 8 = M by omega] at h1
  rw [show (256 * q + r) % 2 ^ 8 = r by omega, show (256 * M + m) % 2 ^ 8 = m by omega] at h2
  omega
/-- Bytes as a number, the least first. -/
def val : List Nat → Nat
  | [] => 0
  | r :: l => 256 * val l + r
def mask (c : Nat) : Nat → Nat
  | 0 => 0
  | n + 1 => 256 * mask c n + c
def b1 (r : Nat) : Nat := (r / 2 &&& 0x55) + (r &&& 0x55)
def b2 (r : Nat) : Nat := (r / 4 &&& 0x33) + (r &&& 0x33)
def b3 (r : Nat) : Nat := (r / 16 + r) &&& 0x0f
theorem f1 : ∀ r : Fin 256, (128 + r.val / 2) &&& 0x55 = (r.val / 2) &&& 0x55 := by decide +kernel
theorem f2 : ∀ r : Fin 256, ∀ e : Fin 4, (64 * e.val + r.val / 4) &&& 0x33 = (r.val / 4) &&& 0x33 := by decide +kernel
theorem f3 : ∀ r : Fin 256, b3 (b2 (b1 r.val)) = pc 8 r.val ∧ b2 (b1 r.val) % 16 ≤ 4 ∧ b2 (b1 r.val) / 16 ≤ 4 := by decide +kernel
theorem t1 (l : List Nat) (h : ∀ r ∈ l, r < 256) : ((val l / 2) &&& mask 0x55 l.length) + (val l &&& mask 0x55 l.length) = val (l.map b1) := by
  induction l with
  | nil => rfl
  | cons r l ih =>
    have hr := h r List.mem_cons_self
    have hi := ih (fun x hx => h x (List.mem_cons_of_mem _ hx))
    simp only [val, mask, List.length_cons, List.map_cons]
    rw [show (256 * val l + r) / 2 = 256 * (val l / 2) + (128 * (val l % 2) + r / 2) by omega, and_digit _ _ _ _ (by omega) (by omega), and_digit _ _ _ _ hr (by omega), ← hi]
    have : (128 * (val l % 2) + r / 2) &&& 0x55 = (r / 2) &&& 0x55 := by
      rcases Nat.mod_two_eq_zero_or_one (val l) with e | e
      · rw [e]; simp
      · rw [e]; exact f1 ⟨r, hr⟩
    rw [this]
    unfold b1
    omega
theorem t2 (l : List Nat) (h : ∀ r ∈ l, r < 256) : ((val l / 4) &&& mask 0x33 l.length) + (val l &&& mask 0x33 l.length) = val (l.map b2) := by
  induction l with
  | nil => rfl
  | cons r l ih =>
    have hr := h r List.mem_cons_self
    have hi := ih (fun x hx => h x (List.mem_cons_of_mem _ hx))
    simp only [val, mask, List.length_cons, List.map_cons]
    rw [show (256 * val l + r) / 4 = 256 * (val l / 4) + (64 * (val l % 4) + r / 4) by omega, and_digit _ _ _ _ (by omega) (by omega), and_digit _ _ _ _ hr (by omega), ← hi]
    have : (64 * (val l % 4) + r / 4) &&& 0x33 = (r / 4) &&& 0x33 := f2 ⟨r, hr⟩ ⟨val l % 4, by omega⟩
    rw [this]
    unfold b2
    omega
theorem t3 (l : List Nat) (h : ∀ r ∈ l, r % 16 ≤ 4 ∧ r / 16 ≤ 4) : (val l / 16 + val l) &&& mask 0x0f l.length = val (l.map b3) := by
  induction l with
  | nil => rfl
  | cons r l ih =>
    have hr := h r List.mem_cons_self
    have hi := ih (fun x hx => h x (List.mem_cons_of_mem _ hx))
    have hv : val l % 16 ≤ 4 := by
      cases l with
      | nil => simp [val]
      | cons x l =>
        have := (h x (by simp)).1
        simp only [val]
        omega
    simp only [val, mask, List.length_cons, List.map_cons]
    rw [show (256 * val l + r) / 16 + (256 * val l + r) = 256 * (val l / 16 + val l) + (16 * (val l % 16) + (r / 16 + r)) by omega, and_digit _ _ _ _ (by omega) (by omega), ← hi]
    have : (16 * (val l % 16) + (r / 16 + r)) &&& 0x0f = (r / 16 + r) &&& 0x0f := by
      have e1 := Nat.and_two_pow_sub_one_eq_mod (16 * (val l % 16) + (r / 16 + r)) 4
      have e2 := Nat.and_two_pow_sub_one_eq_mod (r / 16 + r) 4
      have e3 : (16 * (val l % 16) + (r / 16 + r)) % 2 ^ 4 = (r / 16 + r) % 2 ^ 4 := by omega
      exact e1.trans (e3.trans e2.symm)
    rw [this]
    rfl
theorem val_lt (l : List Nat) (h : ∀ r ∈ l, r < 256) : val l < 256 ^ l.length := by
  induction l with
  | nil => simp [val]
  | cons r l ih =>
    have h1 := h r List.mem_cons_self
    have h2 := ih (fun x hx => h x (List.mem_cons_of_mem _ hx))
    simp only [val, List.length_cons, Nat.pow_succ]
    omega
theorem b1_lt (r : Nat) : b1 r < 256 := by
  unfold b1
  have h1 : (r / 2 &&& 0x55) ≤ 0x55 := Nat.and_le_right
  have h2 : (r &&& 0x55) ≤ 0x55 := Nat.and_le_right
  omega
theorem b2_lt (r : Nat) : b2 r < 256 := by
  unfold b2
  have h1 : (r / 4 &&& 0x33) ≤ 0x33 := Nat.and_le_right
  have h2 : (r &&& 0x33) ≤ 0x33 := Nat.and_le_right
  omega
theorem pc_add (m n w : Nat) : pc (m + n) w = pc m w + pc n (w / 2 ^ m) := by
  induction n with
  | zero => rfl
  | succ n ih =>
    rw [← Nat.add_assoc]
    simp only [pc, ih, Nat.testBit_div_two_pow]
    rw [Nat.add_comm n m, Nat.add_assoc]
theorem pc_mod (n w : Nat) : ∀ k, n ≤ k → pc n (w % 2 ^ k) = pc n w := by
  induction n with
  | zero => intro k _; rfl
  | succ n ih =>
    intro k h
    simp only [pc, ih k (by omega), Nat.testBit_mod_two_pow]
    rw [decide_eq_true (by omega), Bool.true_and]
theorem pc_le (n w : Nat) : pc n w ≤ n := by
  induction n with
  | zero => exact Nat.le_refl _
  | succ n ih =>
    simp only [pc]
    have : (w.testBit n).toNat ≤ 1 := Bool.toNat_le _
    omega
end Go.Proofs.YtjekpecobkaaoaaDoor.PackI
namespace Go.Proofs.YtjekpecobkaaoaaDoor.PackJ
open Go Go.RowKit Go.Proofs.YtjekpecobkaaoaaDoorW.PrintWords Go.Proofs.YtjekpecobkaaoaaDoorW.PrintLast Go.Proofs.YtjekpecobkaaoaaDoorW.PrintMore Go.Proofs.YtjekpecobkaaoaaDoor.PAll Go.Proofs.YtjekpecobkaaoaaDoor.PackA Go.Proofs.YtjekpecobkaaoaaDoor.PackF Go.Proofs.YtjekpecobkaaoaaDoor.PackI
set_option linter.unusedVariables false
set_option linter.unusedSimpArgs false
def dig : Nat → Nat → List Nat
  | 0, _ => []
  | n + 1, w => w % 256 :: dig n (w / 256)
theorem dig_len (n w : Nat) : (dig n w).length = n := by
  induction n generalizing w with
  | zero => rfl
  | succ n ih => simp [dig, ih]
theorem dig_lt (n w : Nat) : ∀ r ∈ dig n w, r < 256 := by
  induction n generalizing w with
  | zero => intro r hr; cases hr
  | succ n ih =>
    intro r hr
    cases hr with
    | head => omega
    | tail _ hr => exact ih _ r hr
theorem dig_val (n : Nat) : ∀ w, w < 256 ^ n → val (dig n w) = w := by
  induction n with
  | zero =>
    intro w h
    have h' : w = 0 := by simpa using h
    rw [h']
    rfl
  | succ n ih =>
    intro w h
    simp only [dig, val]
    rw [ih (w / 256) (by rw [Nat.div_lt_iff_lt_mul (by omega)]; rwa [Nat.pow_succ] at h)]
    omega
theorem stage1 (w : Nat) (h : w < 18446744073709551616) : IntKind.u64.wrap ((Go.bits .and .u64 ((w : Int) / 2) 6148914691236517205) + (Go.bits .and .u64 (w : Int) 6148914691236517205)) = ((val ((dig 8 w).map b1) : Nat) : Int) := by
  have h1 := t1 (dig 8 w) (dig_lt 8 w)
  rw [dig_val 8 w (by omega), dig_len, show mask 0x55 8 = 6148914691236517205 from rfl] at h1
  have h2 := val_lt ((dig 8 w).map b1) (fun r hr => by obtain ⟨x, _, rfl⟩ := List.mem_map.mp hr; exact b1_lt x)
  rw [List.length_map, dig_len] at h2
  have e1 := bits_and_u64_nat (w / 2) 6148914691236517205 (by omega) (by omega)
  have e2 := bits_and_u64_nat w 6148914691236517205 h (by omega)
  rw [show (w : Int) / 2 = ((w / 2 : Nat) : Int) by omega]
  rw [show (Go.bits .and .u64 ((w / 2 : Nat) : Int) 6148914691236517205) = ((w / 2 &&& 6148914691236517205 : Nat) : Int) from e1, show (Go.bits .and .u64 (w : Int) 6148914691236517205) = ((w &&& 6148914691236517205 : Nat) : Int) from e2, uwrap_id (by omega) (by omega)]
  omega
theorem stage2 (l : List Nat) (hl : l.length = 8) (hb : ∀ r ∈ l, r < 256) : IntKind.u64.wrap ((Go.bits .and .u64 (((val l : Nat) : Int) / 4) 3689348814741910323) + (Go.bits .and .u64 ((val l : Nat) : Int) 3689348814741910323)) = ((val (l.map b2) : Nat) : Int) := by
  have h1 := t2 l hb
  rw [hl, show mask 0x33 8 = 3689348814741910323 from rfl] at h1
  have h0 := val_lt l hb
  have h2 := val_lt (l.map b2) (fun r hr => by obtain ⟨x, _, rfl⟩ := List.mem_map.mp hr; exact b2_lt x)
  rw [hl] at h0
  rw [List.length_map, hl] at h2
  have e1 := bits_and_u64_nat (val l / 4) 3689348814741910323 (by omega) (by omega)
  have e2 := bits_and_u64_nat (val l) 3689348814741910323 (by omega) (by omega)
  rw [show ((val l : Nat) : Int) / 4 = ((val l / 4 : Nat) : Int) by omega]
  rw [show (Go.bits .and .u64 ((val l / 4 : Nat) : Int) 3689348814741910323) = ((val l / 4 &&& 3689348814741910323 : Nat) : Int) from e1, show (Go.bits .and .u64 ((val l : Nat) : Int) 3689348814741910323) = ((val l &&& 3689348814741910323 : Nat) : Int) from e2, uwrap_id (by omega) (by omega)]
  omega
theorem stage3 (l : List Nat) (hl : l.length = 8) (hn : ∀ r ∈ l, r % 16 ≤ 4 ∧ r / 16 ≤ 4) : Go.bits .and .u64 (IntKind.u64.wrap (((val l : Nat) : Int) / 16 + ((val l : Nat) : Int))) 1085102592571150095 = ((val (l.map b3) : Nat) : Int) := by
  have h1 := t3 l hn
  rw [hl, show mask 0x0f 8 = 1085102592571150095 from rfl] at h1
  have h0 : val l < 9 * 256 ^ 7 * 16 := by
    match l, hl with
    | [a, b, c, d, e, f, g, k], _ =>
      have := hn k (by simp)
      have := hn a (by simp)
      have := hn b (by simp)
      have := hn c (by simp)
      have := hn d (by simp)
      have := hn e (by simp)
      have := hn f (by simp)
      have := hn g (by simp)
      simp only [val]
      omega
  rw [show ((val l : Nat) : Int) / 16 + ((val l : Nat) : Int) = ((val l / 16 + val l : Nat) : Int) by omega, uwrap_id (by omega) (by omega), show Go.bits .and .u64 ((val l / 16 + val l : Nat) : Int) 1085102592571150095 = ((val l / 16 + val l &&& 1085102592571150095 : Nat) : Int) from bits_and_u64_nat (val l / 16 + val l) 1085102592571150095 (by omega) (by omega), h1]
theorem and127 (x : Nat) (h : x < 9223372036854775808) : Go.bits .and .i64 (x : Int) 127 = ((x % 128 : Nat) : Int) := by
  have := (bits_nat .i64 63 (by decide) (fun n h0 h1 => by rw [IntKind.wrap_i64]; omega) x 127 (by omega) (by omega)).1
  rw [show (127 : Nat) = 2 ^ 7 - 1 from rfl, Nat.and_two_pow_sub_one_eq_mod] at this
  exact this
theorem and127' (E S : Int) (h0 : 0 ≤ E) (h1 : E < 9223372036854775808) (h2 : E % 128 = S) : Go.bits .and .i64 (wrap64 E) 127 = S := by
  obtain ⟨x, rfl⟩ := Int.eq_ofNat_of_zero_le h0
  rw [wrap_id (by omega) (by omega), and127 x (by omega)]
  omega
theorem pc_dig (n : Nat) : ∀ w, pc (8 * n) w = ((dig n w).map (pc 8)).foldr (· + ·) 0 := by
  induction n with
  | zero => intro w; rfl
  | succ n ih =>
    intro w
    rw [show 8 * (n + 1) = 8 + 8 * n by omega, pc_add, ih (w / 2 ^ 8)]
    simp only [dig, List.map_cons, List.foldr_cons]
    rw [show w % 256 = w % 2 ^ 8 from rfl, pc_mod 8 w 8 (by omega)]
theorem div_low (r B : Nat) (h : r < 256) : (r + 256 * B) / 256 = B := by omega
theorem div_two (r s B : Nat) (h : r < 256) (h2 : s < 256) : (r + 256 * (s + 256 * B)) / 65536 = B := by omega
theorem div_four (r s t u B : Nat) (h : r < 256) (h2 : s < 256) (h3 : t < 256) (h4 : u < 256) : (r + 256 * (s + 256 * (t + 256 * (u + 256 * B)))) / 4294967296 = B := by omega
theorem step_wrap (X d : Nat) (Y : Nat) (hX : X < 4611686018427387904) (hY : Y = X + X / d) : IntKind.u64.wrap ((X : Int) + (X : Int) / (d : Int)) = (Y : Int) := by
  have h : X / d ≤ X := Nat.div_le_self _ _
  have e : (X : Int) / (d : Int) = ((X / d : Nat) : Int) := by simp
  rw [e]
  generalize X / d = q at h hY ⊢
  rw [uwrap_id (by omega) (by omega), hY]
  omega
theorem low_mod (s T r V : Nat) (h : s + r ≤ 127) : (s + 256 * T + (r + 256 * V)) % 128 = s + r := by omega
theorem low_sum (X a b c d e f g k : Nat) (h : a ≤ 8 ∧ b ≤ 8 ∧ c ≤ 8 ∧ d ≤ 8 ∧ e ≤ 8 ∧ f ≤ 8 ∧ g ≤ 8 ∧ k ≤ 8) (X1 X2 X3 X4 X5 X6 : Nat)
    (h0 : X = a + 256 * X1) (h1 : X1 = b + 256 * X2) (h2 : X2 = c + 256 * X3) (h3 : X3 = d + 256 * X4) (h4 : X4 = e + 256 * X5) (h5 : X5 = f + 256 * X6) (h6 : X6 = g + 256 * k) :
    ∃ Y Z W : Nat, Y = X + X / 256 ∧ Z = Y + Y / 65536 ∧ W = Z + Z / 4294967296 ∧ X < 1152921504606846976 ∧ Y < 2305843009213693952 ∧ Z < 4611686018427387904 ∧ W < 9223372036854775808 ∧ W % 128 = a + b + c + d + e + f + g + k := by
  have hb : X < 1152921504606846976 := by omega
  have q1 : X / 256 = X1 := by rw [h0]; exact div_low _ _ (by omega)
  have y0 : X + X1 = (a + b) + 256 * ((b + c) + 256 * (X2 + X3)) := by omega
  have q2 : (X + X1) / 65536 = X2 + X3 := by rw [y0]; exact div_two _ _ _ (by omega) (by omega)
  have z0 : X + X1 + (X2 + X3) = (a + b + c + d) + 256 * ((b + c + d + e) + 256 * ((c + d + e + f) + 256 * ((d + e + f + g) + 256 * (X4 + X5 + (X6 + k))))) := by omega
  have q3 : (X + X1 + (X2 + X3)) / 4294967296 = X4 + X5 + (X6 + k) := by rw [z0]; exact div_four _ _ _ _ _ (by omega) (by omega) (by omega) (by omega)
  have w1 : X4 + X5 + (X6 + k) = (e + f + g + k) + 256 * (X5 + X6 + k) := by omega
  have w2 : (X + X1 + (X2 + X3) + (X4 + X5 + (X6 + k))) % 128 = a + b + c + d + e + f + g + k := by
    rw [z0]
    rw [w1, low_mod _ _ _ _ (by clear z0 y0 q1 q2 q3 hb w1 h0 h1 h2 h3 h4 h5 h6; omega)]
    clear z0 y0 q1 q2 q3 hb w1 h0 h1 h2 h3 h4 h5 h6
    omega
  clear z0 y0 w1
  have c1 : X1 ≤ X := by clear q1 q2 q3 w2; omega
  have c2 : X2 ≤ X1 := by clear q1 q2 q3 w2; omega
  have c3 : X3 ≤ X2 := by clear q1 q2 q3 w2; omega
  have c4 : X4 ≤ X3 := by clear q1 q2 q3 w2; omega
  have c5 : X5 ≤ X4 := by clear q1 q2 q3 w2; omega
  have c6 : X6 + k ≤ X5 + 8 := by clear q1 q2 q3 w2; omega
  have c7 : 256 * X1 ≤ X := by clear q1 q2 q3 w2; omega
  clear h0 h1 h2 h3 h4 h5 h6
  have b1 : X + X1 < 2305843009213693952 := by clear q1 q2 q3 w2; omega
  have b2 : X + X1 + (X2 + X3) < 4611686018427387904 := by clear q1 q2 q3 w2; omega
  have b3 : X + X1 + (X2 + X3) + (X4 + X5 + (X6 + k)) < 9223372036854775808 := by clear q1 q2 q3 w2; omega
  exact ⟨X + X1, X + X1 + (X2 + X3), X + X1 + (X2 + X3) + (X4 + X5 + (X6 + k)), by rw [q1], by rw [q2], by rw [q3], hb, b1, b2, b3, w2⟩
theorem Ones (w : Nat) (h : w < 18446744073709551616) : bits_OnesCount64.f (w : Int) = some ((pc 64 w : Nat) : Int) := by
  unfold bits_OnesCount64.f
  rw [stage1 w h, stage2 ((dig 8 w).map b1) (by rw [List.length_map, dig_len]) (fun r hr => by obtain ⟨x, _, rfl⟩ := List.mem_map.mp hr; exact b1_lt x)]
  have hn : ∀ r ∈ ((dig 8 w).map b1).map b2, r % 16 ≤ 4 ∧ r / 16 ≤ 4 := fun r hr => by
    obtain ⟨y, hy, rfl⟩ := List.mem_map.mp hr
    obtain ⟨x, hx, rfl⟩ := List.mem_map.mp hy
    exact (f3 ⟨x, dig_lt 8 w x hx⟩).2
  rw [stage3 (((dig 8 w).map b1).map b2) (by rw [List.length_map, List.length_map, dig_len]) hn]
  have hm : (((dig 8 w).map b1).map b2).map b3 = (dig 8 w).map (pc 8) := by
    rw [List.map_map, List.map_map]
    exact List.map_congr_left (fun x hx => (f3 ⟨x, dig_lt 8 w x hx⟩).1)
  rw [hm]
  have hp := pc_dig 8 w
  rw [show 8 * 8 = 64 from rfl] at hp
  rw [hp]
  congr 1
  generalize hd : dig 8 w = l
  have hl : l.length = 8 := by rw [← hd, dig_len]
  match l, hl with
  | [a, b, c, d, e, f, g, k], _ =>
    obtain ⟨Y, Z, W, hY, hZ, hW, bX, bY, bZ, bW, hm⟩ := low_sum (val ([a, b, c, d, e, f, g, k].map (pc 8))) (pc 8 a) (pc 8 b) (pc 8 c) (pc 8 d) (pc 8 e) (pc 8 f) (pc 8 g) (pc 8 k) ⟨pc_le 8 a, pc_le 8 b, pc_le 8 c, pc_le 8 d, pc_le 8 e, pc_le 8 f, pc_le 8 g, pc_le 8 k⟩
      (val ([b, c, d, e, f, g, k].map (pc 8))) (val ([c, d, e, f, g, k].map (pc 8))) (val ([d, e, f, g, k].map (pc 8))) (val ([e, f, g, k].map (pc 8))) (val ([f, g, k].map (pc 8))) (val ([g, k].map (pc 8)))
      (Nat.add_comm _ _) (Nat.add_comm _ _) (Nat.add_comm _ _) (Nat.add_comm _ _) (Nat.add_comm _ _) (Nat.add_comm _ _) (by simp only [List.map_cons, List.map_nil, val]; omega)
    have s1 : IntKind.u64.wrap (((val ([a, b, c, d, e, f, g, k].map (pc 8)) : Nat) : Int) + ((val ([a, b, c, d, e, f, g, k].map (pc 8)) : Nat) : Int) / 256) = (Y : Int) := step_wrap _ 256 Y (Nat.lt_trans bX (by decide)) hY
    have s2 : IntKind.u64.wrap ((Y : Int) + (Y : Int) / 65536) = (Z : Int) := step_wrap _ 65536 Z (Nat.lt_trans bY (by decide)) hZ
    have s3 : IntKind.u64.wrap ((Z : Int) + (Z : Int) / 4294967296) = (W : Int) := step_wrap _ 4294967296 W bZ hW
    rw [s1, s2, s3]
    refine and127' _ _ (by omega) (by omega) ?_
    have e1 : (List.map (pc 8) [a, b, c, d, e, f, g, k]).foldr (· + ·) 0 = pc 8 a + pc 8 b + pc 8 c + pc 8 d + pc 8 e + pc 8 f + pc 8 g + pc 8 k := by
      simp only [List.map_cons, List.map_nil, List.foldr_cons, List.foldr_nil, Nat.add_zero, ← Nat.add_assoc]
    rw [e1, ← hm]
    clear hm hY hZ hW s1 s2 s3
    omega
end Go.Proofs.YtjekpecobkaaoaaDoor.PackJ
namespace Go.Proofs.YtjekpecobkaaoaaDoor.PackK
open Go Go.RowKit Go.Proofs.YtjekpecobkaaoaaDoorW.PrintWords Go.Proofs.YtjekpecobkaaoaaDoorW.PrintLast Go.Proofs.YtjekpecobkaaoaaDoorW.PrintMore Go.Proofs.YtjekpecobkaaoaaDoor.PAll Go.Proofs.YtjekpecobkaaoaaDoor.PackA Go.Proofs.YtjekpecobkaaoaaDoor.PackB Go.Proofs.YtjekpecobkaaoaaDoor.PackF Go.Proofs.YtjekpecobkaaoaaDoor.PackH Go.Proofs.YtjekpecobkaaoaaDoor.PackI Go.Proofs.YtjekpecobkaaoaaDoor.PackJ
set_option linter.unusedVariables false
set_option linter.unusedSimpArgs false
/-- The bits of some words from one on. -/
def cntW (s : List Int) : Nat → Nat → Nat
  | _, 0 => 0
  | i, d + 1 => pc 64 (wd s i) + cntW s (i + 1) d
theorem cntW_le (s : List Int) (d : Nat) : ∀ i, cntW s i d ≤ 64 * d := by
  induction d with
  | zero => intro i; simp [cntW]
  | succ d ih =>
    intro i
    have := ih (i + 1)
    have := pc_le 64 (wd s i)
    simp only [cntW]
    omega
theorem Len_l0 {s : List Int} (hs : WS s) (d : Nat) : ∀ (i n : Nat), i + d = s.length → n ≤ 64 * i → Ev (fun k => pack_Set_Len.l0 k s (n : Int) (s.length : Int) (i : Int)) ((n + cntW s i d : Nat) : Int) := by
  have hl := hs.1
  induction d with
  | zero =>
    intro i n hi hn
    refine Ev.step (f := fun _ => some (n : Int)) (fun k => ?_) (Ev.val (by simp [cntW]))
    simp only [pack_Set_Len.l0]
    rw [if_neg (by omega)]
  | succ d ih =>
    intro i n hi hn
    have hp := pc_le 64 (wd s i)
    have hx : s[i] ∈ s := List.getElem_mem (by omega)
    have hr : rd s (i : Int) = ((wd s i : Nat) : Int) := by
      unfold rd wd
      rw [show ((i : Int)).toNat = i by omega, List.getD_eq_getElem?_getD, List.getElem?_eq_getElem (by omega), Option.getD_some]
      have := (hs.2 _ hx).1
      omega
    have hi2 := ih (i + 1) (n + pc 64 (wd s i)) (by omega) (by omega)
    rw [show n + cntW s i (d + 1) = n + pc 64 (wd s i) + cntW s (i + 1) d by simp only [cntW]; omega]
    refine Ev.step (fun k => ?_) hi2
    simp only [pack_Set_Len.l0]
    rw [if_pos (by omega), if_pos (by omega), if_pos (by omega), hr, Ones _ (wd_lt hs i), Option.bind_some, wrap_id (by omega) (by omega), wrap_id (by omega) (by omega), show (n : Int) + ((pc 64 (wd s i) : Nat) : Int) = ((n + pc 64 (wd s i) : Nat) : Int) by omega, show (i : Int) + 1 = ((i + 1 : Nat) : Int) by omega]
theorem Len_ev {s : List Int} (hs : WS s) : Ev (fun k => pack_Set_Len.f k s) ((cntW s 0 s.length : Nat) : Int) := by
  unfold pack_Set_Len.f
  simp only [words_eq hs, Option.bind_some]
  have := Len_l0 hs s.length 0 0 (by omega) (by omega)
  simpa using this
/-- Words beyond the end have no bits. -/
theorem cntW_beyond (s : List Int) (d : Nat) : ∀ i, s.length ≤ i → cntW s i d = 0 := by
  induction d with
  | zero => intro i _; rfl
  | succ d ih =>
    intro i h
    simp only [cntW]
    rw [ih (i + 1) (by omega), wd_beyond s i h]
    rfl
theorem cntW_add (s : List Int) (d e : Nat) : ∀ i, cntW s i (d + e) = cntW s i d + cntW s (i + d) e := by
  induction d with
  | zero => intro i; simp [cntW]
  | succ d ih =>
    intro i
    rw [show d + 1 + e = (d + e) + 1 by omega]
    simp only [cntW, ih (i + 1)]
    rw [show i + 1 + d = i + (d + 1) by omega]
    omega
theorem cntW_more (s : List Int) (n : Nat) (h : s.length ≤ n) : cntW s 0 n = cntW s 0 s.length := by
  obtain ⟨d, rfl⟩ := Nat.exists_eq_add_of_le h
  rw [cntW_add, cntW_beyond s d (0 + s.length) (by omega), Nat.add_zero]
theorem cntW_join (s t : List Int) (d : Nat) : ∀ i, cntW (joinL s t) i d = cntW (restL s t) i d + cntW t i d := by
  induction d with
  | zero => intro i; rfl
  | succ d ih =>
    intro i
    simp only [cntW, ih (i + 1), join_wd, rest_wd, pc_join]
    omega
theorem len_law (s t : List Int) : cntW (restL s t) 0 (restL s t).length + cntW t 0 t.length = cntW (joinL s t) 0 (joinL s t).length := by
  rw [join_len, rest_len, cntW_join s t (max s.length t.length) 0, cntW_more t (max s.length t.length) (by omega)]
end Go.Proofs.YtjekpecobkaaoaaDoor.PackK
