/- The greatest common row that is taken along the table: what the walked function tells, and its contract. Conditions: at most a million lines each. -/
import Derived.Test.YtnemooemifbbhaaDoorTabE
namespace Go.Proofs.YtnemooemifbbhaaDoor.Fill
open Go Go.RowKit Go.Proofs.YtnemooemifbbhaaDoorW.PrintWords Go.Proofs.YtnemooemifbbhaaDoorW.PrintLast Go.Proofs.YtnemooemifbbhaaDoorW.PrintMore Go.Proofs.YtnemooemifbbhaaDoor.PDT Go.Proofs.YtnemooemifbbhaaDoor.TabB Go.Proofs.YtnemooemifbbhaaDoor.TabD
set_option linter.unusedVariables false
set_option linter.unusedSimpArgs false
theorem wid {x : Int} (h0 : -9223372036854775808 ≤ x) (h1 : x ≤ 9223372036854775807) : wrap64 x = x := by
 unfold wrap64
 omega
theorem rd_part (a b : List ByteArray) (i k : Int) (j q : Nat) (hj : j ≤ a.length) (hq : q ≤ b.length) : rd (rd_L4 (tpart a b i k) (j : Int)) (q : Int) = if i < (j : Int) ∨ i = (j : Int) ∧ k < (q : Int) then (lcs (a.drop j) (b.drop q) : Int) else 0 := by
 have := part_at a b i k j q hj hq
 simpa [rd, rd_L4] using this
theorem len_part (a b : List ByteArray) (i k : Int) (j : Nat) (hj : j ≤ a.length) : (rd_L4 (tpart a b i k) (j : Int)).length = b.length + 1 := by
 have := part_row_len a b i k j hj
 simpa [rd_L4] using this
theorem rdOf_get (l : List ByteArray) (i : Nat) (h : i < l.length) : rdOf ByteArray.empty l (i : Int) = l[i] := by
 simp [rdOf, h]
theorem at_part (a b : List ByteArray) (i k : Int) (j q : Nat) (hj : j ≤ a.length) (hq : q ≤ b.length) : diff_table_at.f (tpart a b i k) (j : Int) (q : Int) = some (if i < (j : Int) ∨ i = (j : Int) ∧ k < (q : Int) then (lcs (a.drop j) (b.drop q) : Int) else 0) := by
 unfold diff_table_at.f
 rw [if_pos (by omega), if_pos (by rw [part_len]; omega), if_pos (by omega), if_pos (by rw [len_part a b i k j hj]; omega), rd_part a b i k j q hj hq]
theorem bytes_ne {x y : ByteArray} (c : x ≠ y) : ¬ x.toList = y.toList := fun e => c (by
 rw [ByteArray.toList_eq, ByteArray.toList_eq] at e
 exact ByteArray.ext (Array.toList_inj.mp e))
theorem F_l2 (a b : List ByteArray) (ha : a.length ≤ 1000000) (hb : b.length ≤ 1000000) (i : Nat) (hi : i < a.length) (R : List (List Int))
  (hR : Ev (fun k => diff_fill.l1 k a b (tpart a b ((i : Int) - 1) ((b.length : Int) - 1)) ((i : Int) - 1)) R) :
  ∀ q : Nat, q ≤ b.length → Ev (fun k => diff_fill.l2 k a b (tpart a b (i : Int) ((q : Int) - 1)) (i : Int) ((q : Int) - 1)) R := by
 intro q
 induction q with
 | zero =>
  intro _
  refine Ev.step (fun k => ?_) hR
  simp only [diff_fill.l2]
  rw [if_neg (by omega), wid (by omega) (by omega), show ((0 : Nat) : Int) - 1 = -1 from rfl, part_next]
 | succ q ih =>
  intro hq
  refine Ev.step (fun k => ?_) (ih (by omega))
  rw [show ((q + 1 : Nat) : Int) - 1 = (q : Int) by omega]
  have hs := part_set a b i q hi (by omega)
  have hst := lcs_step a b i q hi (by omega)
  have hle := lcs_le _ (a.drop (i + 1)) (b.drop (q + 1)) (Nat.le_refl _)
  rw [List.length_drop] at hle
  have e1 : wrap64 ((i : Int) + 1) = ((i + 1 : Nat) : Int) := by rw [wid (by omega) (by omega)]; omega
  have e2 : wrap64 ((q : Int) + 1) = ((q + 1 : Nat) : Int) := by rw [wid (by omega) (by omega)]; omega
  have e3 : wrap64 ((q : Int) - 1) = (q : Int) - 1 := wid (by omega) (by omega)
  simp only [diff_fill.l2, e1, e2, e3]
  have A1 := at_part a b i q (i + 1) q (by omega) (by omega)
  have A2 := at_part a b i q i (q + 1) (by omega) (by omega)
  have A3 := at_part a b i q (i + 1) (q + 1) (by omega) (by omega)
  rw [if_pos (.inl (by omega))] at A1 A3
  rw [if_pos (.inr ⟨rfl, by omega⟩)] at A2
  rw [if_pos (by omega), A1, A2, A3]
  simp only [Option.bind_some]
  rw [if_pos (show 0 ≤ (i : Int) by omega), if_pos (show (i : Int) < (a.length : Int) by omega), if_pos (show 0 ≤ (q : Int) by omega), if_pos (show (q : Int) < (b.length : Int) by omega)]
  rw [rdOf_get a i hi, rdOf_get b q (by omega)]
  simp only [len_part a b _ _ i (by omega), part_len]
  rw [if_pos (show (i : Int) < ((a.length + 1 : Nat) : Int) by omega), if_pos (show (q : Int) < ((b.length + 1 : Nat) : Int) by omega), if_pos (show (i : Int) < ((a.length + 1 : Nat) : Int) by omega), if_pos (show (q : Int) < ((b.length + 1 : Nat) : Int) by omega)]
  by_cases c : a[i] = b[q]
  ·rw [if_pos (by rw [c])]
   rw [if_pos c] at hst
   rw [wid (by omega) (by omega), ← hs, hst]
   simp only [rd_L4, Int.toNat_natCast]
   rfl
  ·rw [if_neg (bytes_ne c)]
   rw [if_neg c] at hst
   rw [← hs, hst]
   have em : mx (lcs (a.drop (i + 1)) (b.drop q) : Int) (lcs (a.drop i) (b.drop (q + 1)) : Int) = ((max (lcs (a.drop (i + 1)) (b.drop q)) (lcs (a.drop i) (b.drop (q + 1))) : Nat) : Int) := by
    unfold mx
    split <;> omega
   rw [em]
   simp only [rd_L4, Int.toNat_natCast]
theorem F_l1 (a b : List ByteArray) (ha : a.length ≤ 1000000) (hb : b.length ≤ 1000000) : ∀ i : Nat, i ≤ a.length → Ev (fun k => diff_fill.l1 k a b (tpart a b ((i : Int) - 1) ((b.length : Int) - 1)) ((i : Int) - 1)) (tpart a b (-1) ((b.length : Int) - 1)) := by
 intro i
 induction i with
 | zero =>
  intro _
  refine Ev.step (fun k => ?_) (Ev.now _)
  simp only [diff_fill.l1]
  rw [if_neg (by omega)]
  rfl
 | succ i ih =>
  intro hi
  refine Ev.step (fun k => ?_) (F_l2 a b ha hb i (by omega) _ (ih (by omega)) b.length (Nat.le_refl _))
  simp only [diff_fill.l1]
  rw [if_pos (by omega), wid (by omega) (by omega), show ((i + 1 : Nat) : Int) - 1 = (i : Int) by omega]
theorem F_l0 (a b : List ByteArray) (ha : a.length ≤ 1000000) (hb : b.length ≤ 1000000) : ∀ d i : Nat, i + d = a.length + 1 → Ev (fun k => diff_fill.l0 k a b (List.replicate i (List.replicate (b.length + 1) 0) ++ List.replicate d []) ((a.length + 1 : Nat) : Int) (i : Int)) (tpart a b (-1) ((b.length : Int) - 1)) := by
 intro d
 induction d with
 | zero =>
  intro i h
  refine Ev.step (fun k => ?_) (F_l1 a b ha hb a.length (Nat.le_refl _))
  simp only [diff_fill.l0]
  rw [if_neg (by omega), wid (by omega) (by omega), part_first, List.replicate_zero, List.append_nil, show i = a.length + 1 by omega]
 | succ d ih =>
  intro i h
  refine Ev.step (fun k => ?_) (ih (i + 1) (by omega))
  have e1 : wrap64 ((b.length : Int) + 1) = ((b.length + 1 : Nat) : Int) := by rw [wid (by omega) (by omega)]; omega
  have e2 : wrap64 ((i : Int) + 1) = ((i + 1 : Nat) : Int) := by rw [wid (by omega) (by omega)]; omega
  simp only [diff_fill.l0, e1, e2, Int.toNat_natCast]
  rw [if_pos (by omega), if_pos (by omega), if_pos (by omega), if_pos (by omega), if_pos (by simp only [List.length_append, List.length_replicate]; omega)]
  congr 1
  rw [List.replicate_succ (n := d), List.set_append_right _ _ (by simp), List.length_replicate, Nat.sub_self, List.set_cons_zero, List.replicate_succ' (n := i), List.append_assoc]
  rfl
theorem fill_ev (a b : List ByteArray) (ha : a.length ≤ 1000000) (hb : b.length ≤ 1000000) : Ev (fun k => diff_fill.f k a b) (tpart a b (-1) ((b.length : Int) - 1)) := by
 refine Ev.congr (fun k => ?_) (F_l0 a b ha hb (a.length + 1) 0 (by omega))
 have e1 : wrap64 ((a.length : Int) + 1) = ((a.length + 1 : Nat) : Int) := by rw [wid (by omega) (by omega)]; omega
 simp only [diff_fill.f, e1, Int.toNat_natCast, Option.bind_some, List.length_replicate]
 rw [if_pos (by omega), if_pos (by omega)]
 rfl
def pr (p : Nat × Nat) : S36 := ⟨(p.1 : Int), (p.2 : Int)⟩
def pairs (a b : List ByteArray) : List S36 := (greedy a b (a.length + b.length) 0 0).map pr
theorem C_l0 (a b : List ByteArray) (ha : a.length ≤ 1000000) (hb : b.length ≤ 1000000) : ∀ (n i k : Nat) (acc : List S36), i ≤ a.length → k ≤ b.length → (a.length - i) + (b.length - k) ≤ n → acc.length ≤ i →
  Ev (fun q => diff_Common.l0 q a b (tpart a b (-1) ((b.length : Int) - 1)) acc (i : Int) (k : Int)) (acc ++ (greedy a b n i k).map pr) := by
 intro n
 induction n with
 | zero =>
  intro i k acc hi hk h hacc
  refine Ev.step (f := fun q => diff_Common.j1 q a b (tpart a b (-1) ((b.length : Int) - 1)) acc (i : Int) (k : Int) false) (fun q => ?_) (Ev.step (fun q => ?_) (Ev.now _))
  ·simp only [diff_Common.l0]
   rw [if_neg (by omega)]
  ·simp only [diff_Common.j1, greedy, List.map_nil, List.append_nil]
   rw [if_neg (by decide)]
 | succ n ih =>
  intro i k acc hi hk h hacc
  rw [greedy]
  by_cases c : i < a.length ∧ k < b.length
  ·have e1 : wrap64 ((i : Int) + 1) = ((i + 1 : Nat) : Int) := by rw [wid (by omega) (by omega)]; omega
   have e2 : wrap64 ((k : Int) + 1) = ((k + 1 : Nat) : Int) := by rw [wid (by omega) (by omega)]; omega
   have hj : ∀ q, diff_Common.l0 (q + 1) a b (tpart a b (-1) ((b.length : Int) - 1)) acc (i : Int) (k : Int) = diff_Common.j1 q a b (tpart a b (-1) ((b.length : Int) - 1)) acc (i : Int) (k : Int) true := by
    intro q
    simp only [diff_Common.l0]
    rw [if_pos (by omega), decide_eq_true (show (k : Int) < (b.length : Int) by omega)]
   have A1 := at_part a b (-1) ((b.length : Int) - 1) (i + 1) k (by omega) (by omega)
   have A2 := at_part a b (-1) ((b.length : Int) - 1) i (k + 1) (by omega) (by omega)
   rw [if_pos (Or.inl (by omega))] at A1 A2
   refine Ev.step hj ?_
   rw [dif_pos c]
   by_cases g : a[i]'c.1 = b[k]'c.2
   ·rw [if_pos g]
    have := ih (i + 1) (k + 1) (acc ++ [pr (i, k)]) (by omega) (by omega) (by omega) (by simp; omega)
    rw [List.append_assoc] at this
    refine Ev.step (fun q => ?_) this
    simp only [diff_Common.j1, e1, e2]
    rw [if_pos trivial, if_pos (by omega), if_pos (by omega), if_pos (by omega), if_pos (by omega), rdOf_get a i c.1, rdOf_get b k c.2, if_pos (by rw [g]), if_pos (by omega)]
    rfl
   ·rw [if_neg g]
    by_cases f : lcs (a.drop i) (b.drop (k + 1)) ≤ lcs (a.drop (i + 1)) (b.drop k)
    ·rw [if_pos f]
     refine Ev.step (fun q => ?_) (ih (i + 1) k acc (by omega) (by omega) (by omega) (by omega))
     simp only [diff_Common.j1, e1, e2]
     rw [if_pos trivial, if_pos (by omega), if_pos (by omega), if_pos (by omega), if_pos (by omega), rdOf_get a i c.1, rdOf_get b k c.2, if_neg (bytes_ne g), A1, A2]
     simp only [Option.bind_some]
     rw [if_pos (by omega)]
    ·rw [if_neg f]
     refine Ev.step (fun q => ?_) (ih i (k + 1) acc (by omega) (by omega) (by omega) (by omega))
     simp only [diff_Common.j1, e1, e2]
     rw [if_pos trivial, if_pos (by omega), if_pos (by omega), if_pos (by omega), if_pos (by omega), rdOf_get a i c.1, rdOf_get b k c.2, if_neg (bytes_ne g), A1, A2]
     simp only [Option.bind_some]
     rw [if_neg (by omega)]
  ·rw [dif_neg c]
   refine Ev.step (f := fun q => diff_Common.j1 q a b (tpart a b (-1) ((b.length : Int) - 1)) acc (i : Int) (k : Int) false) (fun q => ?_) (Ev.step (fun q => ?_) (Ev.now _))
   ·simp only [diff_Common.l0]
    by_cases hi' : i < a.length
    ·rw [if_pos (by omega), decide_eq_false (by omega)]
    ·rw [if_neg (by omega)]
   ·simp only [diff_Common.j1, List.map_nil, List.append_nil]
    rw [if_neg (by decide)]
theorem common_ev (a b : List ByteArray) (ha : a.length ≤ 1000000) (hb : b.length ≤ 1000000) : Ev (fun k => diff_Common.f k a b) (pairs a b) := by
 refine Ev.bind (g := fun k => diff_fill.f k a b) (f := fun k t => diff_Common.l0 k a b t ([] : List S36) 0 0) (fill_ev a b ha hb) ?_
 exact C_l0 a b ha hb (a.length + b.length) 0 0 [] (by omega) (by omega) (by omega) (by simp)
theorem common (A0 : Option Addr) (c0 : Nat) (l0 : List ByteArray) (A1 : Option Addr) (c1 : Nat) (l1 : List ByteArray) (w : World) (hr0 : Kd.C Kd.string w A0 l0.length l0) (hc0 : l0.length ≤ c0) (hr1 : Kd.C Kd.string w A1 l1.length l1) (hc1 : l1.length ≤ c1) (ha : l0.length ≤ 1000000) (hb : l1.length ≤ 1000000) :
  Calls Tryd.prog 14 #[.slice A0 l0.length c0, .slice A1 l1.length c1] w fun e w' => ∃ v0_ : Value, e = .returned (v0_) ∧ Kd.R k36 36 w' w.heap.size (fun _ => True) v0_ (pairs l0 l1) ∧ Below w.heap.size w w' := by
 obtain ⟨k, h⟩ := (common_ev l0 l1 ha hb).rounds
 exact diff_Common.calls k A0 c0 l0 A1 c1 l1 _ w hr0 hc0 hr1 hc1 h
end Go.Proofs.YtnemooemifbbhaaDoor.Fill
