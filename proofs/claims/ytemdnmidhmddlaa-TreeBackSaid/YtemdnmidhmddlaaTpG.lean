/- Several texts of this session's, one behind the other: what each proves stands ahead of it. -/
import Derived.Test.YtemdnmidhmddlaaTrC
import Derived.Test.YtemdnmidhmddlaaPAllx3
import Derived.Test.YtemdnmidhmddlaaPAllx7
import Derived.Test.YtemdnmidhmddlaaTrF
import Derived.Test.YtemdnmidhmddlaaPAllx5
import Derived.Test.YtemdnmidhmddlaaTrE
import Derived.Test.YtemdnmidhmddlaaPAllx12
import Derived.Test.YtemdnmidhmddlaaPAllx13
/- How many parts, how many names, the rows of a branch: what the document's functions answer. Conditions: as the theorems say. -/
namespace Go.Proofs.Ytemdnmidhmddlaa.Tree
open Go Go.RowKit Go.Proofs.YtemdnmidhmddlaaW.PrintWords Go.Proofs.YtemdnmidhmddlaaW.PrintLast Go.Proofs.YtemdnmidhmddlaaW.PrintMore Go.Proofs.Ytemdnmidhmddlaa.PAll
set_option linter.unusedVariables false
set_option linter.unusedSimpArgs false
theorem szL_one (x : S25) : szL [x] = 1 + szL x.f5 := by rw [szL_cons, szL_nil]; omega
theorem rd25 {l : List S25} {i : Nat} {y : S25} (h : l[i]? = some y) : rd_T25 l (i : Int) = y := by
 unfold rd_T25
 rw [Int.toNat_natCast, List.getD_eq_getElem?_getD, h]
 rfl
theorem wnat (n : Nat) (h : n ≤ 9223372036854775807) : wrap64 (n : Int) = (n : Int) := wid (by omega) (by omega)
theorem take1 {α : Type} {l : List α} {i : Nat} {y : α} (h : l[i]? = some y) : l.take (i + 1) = l.take i ++ [y] := by
 have hi := (List.getElem?_eq_some_iff.mp h).1
 rw [List.take_succ_eq_append_getElem hi]
 rw [List.getElem?_eq_getElem hi] at h
 rw [Option.some.inj h]
theorem size_ev : ∀ (N : Nat) (x : S25), SizeOf.sizeOf x < N → ∀ most : Nat, most ≤ 1000000 → Ev (fun k => orielref06_Size.f k x.f0 x.f1 x.f2 x.f3 x.f4 x.f5 (most : Int)) ((min (szL [x]) (most + 1) : Nat) : Int)
 | 0, x, h, _, _ => absurd h (Nat.not_lt_zero _)
 | N + 1, x, hx, most, hm => by
  have loop : ∀ (d i c : Nat), x.f5.length = i + d → c = min (1 + szL (x.f5.take i)) (most + 1) → i ≤ most + 1 → (c ≤ most → i < c) → Ev (fun k => orielref06_Size.l0 k (most : Int) (c : Int) (i : Int) x.f0 x.f1 x.f2 x.f3 x.f4 x.f5) ((min (szL [x]) (most + 1) : Nat) : Int) := by
   intro d
   induction d with
   | zero =>
    intro i c h hc _ _
    have e : x.f5.take i = x.f5 := List.take_of_length_le (by omega)
    rw [e] at hc
    rw [szL_one, ← hc]
    exact Ev.step (f := fun _ => some (c : Int)) (fun k => by rw [orielref06_Size.l0, if_neg (by omega)]) (Ev.now _)
   | succ d ih =>
    intro i c h hc hi1 hic
    have hi : i < x.f5.length := by omega
    obtain ⟨y, hy⟩ : ∃ y, x.f5[i]? = some y := ⟨x.f5[i], List.getElem?_eq_getElem hi⟩
    have ht := take1 hy
    have hmono := szL_take x.f5 (i + 1)
    by_cases q : c ≤ most
    ·have hlt := hic q
     have hcc : c = 1 + szL (x.f5.take i) := by omega
     have hmem := List.mem_of_getElem? hy
     have hsz := List.sizeOf_lt_of_mem hmem
     have hs2 := szx x
     have key := size_ev N y (by omega) (most - c) (by omega)
     have hy1 : 1 ≤ szL [y] := by rw [szL_one]; omega
     have hst : szL (x.f5.take (i + 1)) = szL (x.f5.take i) + szL [y] := by rw [ht, szL_app]
     obtain ⟨mm, hmm⟩ : ∃ mm, min (szL [y]) (most - c + 1) = mm := ⟨_, rfl⟩
     rw [hmm] at key
     have hm1 : mm ≤ most - c + 1 := by omega
     have key2 := ih (i + 1) (c + mm) (by omega) (by rw [hst]; omega) (by omega) (by omega)
     have o1 : (i : Int) < (x.f5.length : Int) := by omega
     have o2 : (c : Int) ≤ (most : Int) := by omega
     have o3 : (0 : Int) ≤ (i : Int) := by omega
     have e1 : wrap64 ((most : Int) - (c : Int)) = ((most - c : Nat) : Int) := by
      have h : (most : Int) - (c : Int) = ((most - c : Nat) : Int) := by omega
      rw [h]
      exact wnat (most - c) (by omega)
     have e3 : wrap64 ((i : Int) + 1) = ((i + 1 : Nat) : Int) := wnat (i + 1) (by omega)
     have e2 : wrap64 ((c : Int) + (mm : Int)) = ((c + mm : Nat) : Int) := by rw [← Int.natCast_add]; exact wnat (c + mm) (by omega)
     refine Ev.step (fun k => ?_) (Ev.bind (f := fun k t => orielref06_Size.l0 k (most : Int) (wrap64 ((c : Int) + t)) ((i + 1 : Nat) : Int) x.f0 x.f1 x.f2 x.f3 x.f4 x.f5) key (by rw [e2]; exact key2))
     rw [orielref06_Size.l0, if_pos o1, if_pos o2, if_pos o3, rd25 hy, e1, e3]
    ·have e : ((min (szL [x]) (most + 1) : Nat) : Int) = (c : Int) := by
      rw [szL_one]
      have := szL_take x.f5 i
      omega
     have o1 : (i : Int) < (x.f5.length : Int) := by omega
     have o2 : ¬ (c : Int) ≤ (most : Int) := by omega
     rw [e]
     exact Ev.step (f := fun _ => some (c : Int)) (fun k => by rw [orielref06_Size.l0, if_pos o1, if_neg o2]) (Ev.now _)
  have h := loop x.f5.length 0 1 (by omega) (by rw [List.take_zero, szL_nil]; omega) (by omega) (by omega)
  exact Ev.step (fun k => by rw [orielref06_Size.f]; rfl) h
def nmT : List S25 → Nat
 | [] => 0
 | x :: r => min x.f4.length 1000 + nmT x.f5 + nmT r
termination_by l => SizeOf.sizeOf l
decreasing_by all_goals first | exact szk _ _ | exact szr _ _
theorem nmT_nil : nmT [] = 0 := by rw [nmT]
theorem nmT_cons (x : S25) (r : List S25) : nmT (x :: r) = min x.f4.length 1000 + nmT x.f5 + nmT r := by rw [nmT]
theorem nmT_one (x : S25) : nmT [x] = min x.f4.length 1000 + nmT x.f5 := by rw [nmT_cons, nmT_nil]; omega
theorem nmT_app : ∀ (a b : List S25), nmT (a ++ b) = nmT a + nmT b
 | [], b => by rw [List.nil_append, nmT_nil, Nat.zero_add]
 | x :: r, b => by rw [List.cons_append, nmT_cons, nmT_cons, nmT_app r b]; omega
theorem nmT_take (l : List S25) (i : Nat) : nmT (l.take i) ≤ nmT l := by
 have h := nmT_app (l.take i) (l.drop i)
 rw [List.take_append_drop] at h
 omega
theorem nmT_mem {l : List S25} {y : S25} (h : y ∈ l) : nmT [y] ≤ nmT l := by
 obtain ⟨a, b, rfl⟩ := List.append_of_mem h
 rw [nmT_app, nmT_one, nmT_cons]
 omega
theorem szL_mem2 {l : List S25} {y : S25} (h : y ∈ l) : szL [y] ≤ szL l := by
 obtain ⟨a, b, rfl⟩ := List.append_of_mem h
 rw [szL_app, szL_one, szL_cons]
 omega
theorem nmT_le : ∀ (n : Nat) (l : List S25), SizeOf.sizeOf l < n → nmT l ≤ 1000 * szL l
 | 0, _, h => absurd h (Nat.not_lt_zero _)
 | n + 1, [], _ => by rw [nmT_nil]; omega
 | n + 1, x :: r, h => by
  have h1 := szk x r
  have h2 := szr x r
  have i1 := nmT_le n x.f5 (by omega)
  have i2 := nmT_le n r (by omega)
  rw [nmT_cons, szL_cons]
  omega
theorem mn_nat (a b : Nat) : mn (a : Int) (b : Int) = ((min a b : Nat) : Int) := by
 unfold mn
 by_cases h : (b : Int) < (a : Int)
 ·rw [if_pos h]; omega
 ·rw [if_neg h]; omega
theorem names_ev : ∀ (N : Nat) (x : S25), SizeOf.sizeOf x < N → szL [x] ≤ 1000000 → Ev (fun k => oriellaw06_names.f k x.f0 x.f1 x.f2 x.f3 x.f4 x.f5) ((nmT [x] : Nat) : Int)
 | 0, x, h, _ => absurd h (Nat.not_lt_zero _)
 | N + 1, x, hx, hs => by
  have hs1 := szL_one x
  have hlk := len_le_szL x.f5
  have hb : nmT x.f5 ≤ 1000 * szL x.f5 := nmT_le _ x.f5 (Nat.lt_succ_self _)
  have loop : ∀ (d i c : Nat), x.f5.length = i + d → c = min x.f4.length 1000 + nmT (x.f5.take i) → Ev (fun k => oriellaw06_names.l0 k (c : Int) x.f5 (x.f5.length : Int) (i : Int)) ((nmT [x] : Nat) : Int) := by
   intro d
   induction d with
   | zero =>
    intro i c h hc
    have e : x.f5.take i = x.f5 := List.take_of_length_le (by omega)
    rw [e, ← nmT_one] at hc
    subst hc
    have o1 : ¬ (i : Int) < (x.f5.length : Int) := by omega
    exact Ev.step (f := fun _ => some ((nmT [x] : Nat) : Int)) (fun k => by rw [oriellaw06_names.l0, if_neg o1]) (Ev.now _)
   | succ d ih =>
    intro i c h hc
    have hi : i < x.f5.length := by omega
    obtain ⟨y, hy⟩ : ∃ y, x.f5[i]? = some y := ⟨x.f5[i], List.getElem?_eq_getElem hi⟩
    have ht := take1 hy
    have hmem := List.mem_of_getElem? hy
    have hsz := List.sizeOf_lt_of_mem hmem
    have hs2 := szx x
    have hsy := szL_mem2 hmem
    have key := names_ev N y (by omega) (by omega)
    have hst : nmT (x.f5.take (i + 1)) = nmT (x.f5.take i) + nmT [y] := by rw [ht, nmT_app]
    have hle := nmT_take x.f5 (i + 1)
    have key2 := ih (i + 1) (c + nmT [y]) (by omega) (by rw [hst]; omega)
    have o1 : (i : Int) < (x.f5.length : Int) := by omega
    have o3 : (0 : Int) ≤ (i : Int) := by omega
    have hcb : c + nmT [y] ≤ 9223372036854775807 := by omega
    have e3 : wrap64 ((i : Int) + 1) = ((i + 1 : Nat) : Int) := wnat (i + 1) (by omega)
    have e2 : wrap64 ((c : Int) + ((nmT [y] : Nat) : Int)) = ((c + nmT [y] : Nat) : Int) := by rw [← Int.natCast_add]; exact wnat (c + nmT [y]) hcb
    refine Ev.step (fun k => ?_) (Ev.bind (f := fun k t => oriellaw06_names.l0 k (wrap64 ((c : Int) + t)) x.f5 (x.f5.length : Int) ((i + 1 : Nat) : Int)) key (by rw [e2]; exact key2))
    rw [oriellaw06_names.l0, if_pos o1, if_pos o3, if_pos o1, rd25 hy, e3]
  have h := loop x.f5.length 0 (min x.f4.length 1000) (by omega) (by rw [List.take_zero, nmT_nil]; omega)
  exact Ev.step (fun k => by rw [oriellaw06_names.f, show (1000 : Int) = ((1000 : Nat) : Int) from rfl, mn_nat]; rfl) h
def fewB (x : S25) : Bool := decide (szL [x] ≤ 150) && decide (nmT [x] ≤ 500)
theorem few_ev (x : S25) : Ev (fun k => oriellaw06_few.f k x.f0 x.f1 x.f2 x.f3 x.f4 x.f5) (fewB x) := by
 have h1 := size_ev _ x (Nat.lt_succ_self _) 150 (by omega)
 by_cases c : szL [x] ≤ 150
 ·have h2 := names_ev _ x (Nat.lt_succ_self _) (by omega)
  have e1 : ((min (szL [x]) (150 + 1) : Nat) : Int) ≤ 150 := by omega
  have e2 : fewB x = decide (((nmT [x] : Nat) : Int) ≤ 500) := by
   unfold fewB
   rw [decide_eq_true c, Bool.true_and, Bool.eq_iff_iff, decide_eq_true_iff, decide_eq_true_iff]
   omega
  rw [e2]
  refine Ev.congr (fun k => ?_) (Ev.bind (f := fun k t109 => (if t109 ≤ 150 then ((oriellaw06_names.f k x.f0 x.f1 x.f2 x.f3 x.f4 x.f5).bind fun t110 => (some (decide (t110 ≤ 500)))) else (some false))) h1 (Ev.congr (fun k => if_pos e1) (Ev.bind (f := fun _ t110 => some (decide (t110 ≤ 500))) h2 (Ev.now _))))
  rfl
 ·have e1 : ¬ ((min (szL [x]) (150 + 1) : Nat) : Int) ≤ 150 := by omega
  have e2 : fewB x = false := by
   unfold fewB
   rw [decide_eq_false c, Bool.false_and]
  rw [e2]
  refine Ev.congr (fun k => ?_) (Ev.bind (f := fun k t109 => (if t109 ≤ 150 then ((oriellaw06_names.f k x.f0 x.f1 x.f2 x.f3 x.f4 x.f5).bind fun t110 => (some (decide (t110 ≤ 500)))) else (some false))) h1 (Ev.congr (fun k => if_neg e1) (Ev.now false)))
  rfl
theorem few_ (x : S25) (A4 A5 : Option Addr) (c4 c5 : Nat) (w : World) (h4 : Kd.C (Kd.int .i64) w A4 x.f4.length x.f4) (l4 : x.f4.length ≤ c4) (h5 : Kd.C k25 w A5 x.f5.length x.f5) (l5 : x.f5.length ≤ c5) :
  Calls Try.prog 8 #[.agg #[.int .i64 x.f0, .int .i64 x.f1, .int .i64 x.f2, .int .i64 x.f3, .slice A4 x.f4.length c4, .slice A5 x.f5.length c5]] w fun e w' => e = .returned (.bool (fewB x)) ∧ Below w.heap.size w w' := by
 obtain ⟨k, hk⟩ := (few_ev x).rounds
 exact oriellaw06_few.calls k x.f0 x.f1 x.f2 x.f3 A4 c4 x.f4 A5 c5 x.f5 _ w h4 l4 h5 l5 hk
theorem goodB_of : ∀ (n : Nat) (x : S25), SizeOf.sizeOf x < n → nmT [x] ≤ 500 → GoodB x
 | 0, _, h, _ => absurd h (Nat.not_lt_zero _)
 | n + 1, x, h, hn => by
  rw [nmT_one] at hn
  refine .mk x (by omega) (fun y hy => goodB_of n y ?_ ?_)
  ·have h1 := List.sizeOf_lt_of_mem hy
   have h2 := szx x
   omega
  ·have := nmT_mem hy
   omega
theorem fewB_t {x : S25} (h : fewB x = true) : szL [x] ≤ 150 ∧ nmT [x] ≤ 500 ∧ GoodB x := by
 unfold fewB at h
 rw [Bool.and_eq_true, decide_eq_true_iff, decide_eq_true_iff] at h
 exact ⟨h.1, h.2, goodB_of _ x (Nat.lt_succ_self _) h.2⟩
/-! ### rows -/
def rwL : List S25 → Int → Int → Nat → List S46
 | [], _, _, _ => []
 | x :: r, up, d, m => (⟨x, up, d⟩ : S46) :: (rwL x.f5 (m : Int) (d + 1) (m + 1) ++ rwL r up d (m + 1 + szL x.f5))
termination_by l => SizeOf.sizeOf l
decreasing_by all_goals first | exact szk _ _ | exact szr _ _
theorem rwL_nil (up d : Int) (m : Nat) : rwL [] up d m = [] := by rw [rwL]
theorem rwL_cons (x : S25) (r : List S25) (up d : Int) (m : Nat) : rwL (x :: r) up d m = (⟨x, up, d⟩ : S46) :: (rwL x.f5 (m : Int) (d + 1) (m + 1) ++ rwL r up d (m + 1 + szL x.f5)) := by rw [rwL]
theorem rwL_len : ∀ (n : Nat) (l : List S25) (up d : Int) (m : Nat), SizeOf.sizeOf l < n → (rwL l up d m).length = szL l
 | 0, _, _, _, _, h => absurd h (Nat.not_lt_zero _)
 | n + 1, [], _, _, _, _ => by rw [rwL_nil, szL_nil]; rfl
 | n + 1, x :: r, up, d, m, h => by
  have h1 := szk x r
  have h2 := szr x r
  rw [rwL_cons, szL_cons, List.length_cons, List.length_append, rwL_len n _ _ _ _ (by omega), rwL_len n _ _ _ _ (by omega)]
  omega
theorem rw_len (l : List S25) (up d : Int) (m : Nat) : (rwL l up d m).length = szL l := rwL_len _ l up d m (Nat.lt_succ_self _)
theorem rwL_app (b : List S25) (up d : Int) : ∀ (a : List S25) (m : Nat), rwL (a ++ b) up d m = rwL a up d m ++ rwL b up d (m + szL a)
 | [], m => by rw [List.nil_append, rwL_nil, szL_nil, List.nil_append, Nat.add_zero]
 | x :: r, m => by
  rw [List.cons_append, rwL_cons, rwL_cons, rwL_app b up d r, szL_cons, List.cons_append, List.append_assoc, show m + 1 + szL x.f5 + szL r = m + (1 + szL x.f5 + szL r) by omega]
theorem rows_ev : ∀ (N : Nat) (x : S25), SizeOf.sizeOf x < N → ∀ (up : Int) (d m : Nat), d + szL [x] ≤ 2000000 → m + szL [x] ≤ 1000000 → Ev (fun k => orielref06_rows.f k x.f0 x.f1 x.f2 x.f3 x.f4 x.f5 up (d : Int) (m : Int)) (rwL [x] up (d : Int) m)
 | 0, x, h, _, _, _, _, _ => absurd h (Nat.not_lt_zero _)
 | N + 1, x, hx, up, d, m, hd, hm => by
  have hs1 := szL_one x
  have hlk := len_le_szL x.f5
  have ex : (⟨x.f0, x.f1, x.f2, x.f3, x.f4, x.f5⟩ : S25) = x := by cases x; rfl
  have loop : ∀ (q i : Nat) (out : List S46), x.f5.length = i + q → out = (⟨x, up, (d : Int)⟩ : S46) :: rwL (x.f5.take i) (m : Int) ((d : Int) + 1) (m + 1) → Ev (fun k => orielref06_rows.l0 k (d : Int) (m : Int) out (i : Int) x.f0 x.f1 x.f2 x.f3 x.f4 x.f5) (rwL [x] up (d : Int) m) := by
   intro q
   induction q with
   | zero =>
    intro i out h hc
    have e : x.f5.take i = x.f5 := List.take_of_length_le (by omega)
    have e2 : rwL [x] up (d : Int) m = out := by rw [hc, e, rwL_cons, rwL_nil, List.append_nil]
    rw [e2]
    have o1 : ¬ (i : Int) < (x.f5.length : Int) := by omega
    exact Ev.step (f := fun _ => some out) (fun k => by rw [orielref06_rows.l0, if_neg o1]) (Ev.now _)
   | succ q ih =>
    intro i out h hc
    have hi : i < x.f5.length := by omega
    obtain ⟨y, hy⟩ : ∃ y, x.f5[i]? = some y := ⟨x.f5[i], List.getElem?_eq_getElem hi⟩
    have ht := take1 hy
    have hmem := List.mem_of_getElem? hy
    have hsz := List.sizeOf_lt_of_mem hmem
    have hs2 := szx x
    have hsy := szL_mem2 hmem
    have hol : out.length = 1 + szL (x.f5.take i) := by rw [hc, List.length_cons, rw_len]; omega
    have hst : szL (x.f5.take (i + 1)) = szL (x.f5.take i) + szL [y] := by rw [ht, szL_app]
    have hle := szL_take x.f5 (i + 1)
    have key := rows_ev N y (by omega) (m : Int) (d + 1) (m + out.length) (by omega) (by omega)
    have hlen := rw_len [y] (m : Int) (((d + 1 : Nat)) : Int) (m + out.length)
    have key2 := ih (i + 1) (out ++ rwL [y] (m : Int) (((d + 1 : Nat)) : Int) (m + out.length)) (by omega) (by
     rw [ht, rwL_app, hc, List.cons_append, List.length_cons, rw_len, show m + (szL (x.f5.take i) + 1) = m + 1 + szL (x.f5.take i) by omega]
     rfl)
    have o1 : (i : Int) < (x.f5.length : Int) := by omega
    have o3 : (0 : Int) ≤ (i : Int) := by omega
    have o4 : out.length + (rwL [y] (m : Int) (((d + 1 : Nat)) : Int) (m + out.length)).length < 1466015503701 := by rw [hlen]; omega
    have e3 : wrap64 ((i : Int) + 1) = ((i + 1 : Nat) : Int) := wnat (i + 1) (by omega)
    have e4 : wrap64 ((d : Int) + 1) = ((d + 1 : Nat) : Int) := wnat (d + 1) (by omega)
    have e5 : wrap64 ((m : Int) + (out.length : Int)) = ((m + out.length : Nat) : Int) := by rw [← Int.natCast_add]; exact wnat (m + out.length) (by omega)
    refine Ev.step (fun k => ?_) (Ev.bind (f := fun k t => if out.length + t.length < 1466015503701 then (orielref06_rows.l0 k (d : Int) (m : Int) (out ++ t) ((i + 1 : Nat) : Int) x.f0 x.f1 x.f2 x.f3 x.f4 x.f5) else none) key (Ev.congr (fun k => if_pos o4) key2))
    rw [orielref06_rows.l0, if_pos o1, if_pos o3, rd25 hy, e3, e4, e5]
  have h := loop x.f5.length 0 [(⟨x, up, (d : Int)⟩ : S46)] (by omega) (by rw [List.take_zero, rwL_nil])
  exact Ev.step (fun k => by rw [orielref06_rows.f, ex]; rfl) h
theorem Rows_ (x : S25) (A4 A5 : Option Addr) (c4 c5 : Nat) (w : World) (hs : szL [x] ≤ 1000000) (h4 : Kd.C (Kd.int .i64) w A4 x.f4.length x.f4) (l4 : x.f4.length ≤ c4) (h5 : Kd.C k25 w A5 x.f5.length x.f5) (l5 : x.f5.length ≤ c5) :
  Calls Try.prog 12 #[.agg #[.int .i64 x.f0, .int .i64 x.f1, .int .i64 x.f2, .int .i64 x.f3, .slice A4 x.f4.length c4, .slice A5 x.f5.length c5]] w fun e w' => ∃ A c, e = .returned (.slice A (rwL [x] (-1) 1 0).length c) ∧ (rwL [x] (-1) 1 0).length ≤ c ∧ Kd.C k46 w' A (rwL [x] (-1) 1 0).length (rwL [x] (-1) 1 0) ∧ Below w.heap.size w w' := by
 have h := rows_ev _ x (Nat.lt_succ_self _) (-1) 1 0 (by omega) (by omega)
 have h2 : Ev (fun k => orielref06_Rows.f k x.f0 x.f1 x.f2 x.f3 x.f4 x.f5) (rwL [x] (-1) 1 0) := Ev.congr (fun k => rfl) (Ev.bind (f := fun _ t => some t) h (Ev.now _))
 obtain ⟨k, hk⟩ := h2.rounds
 refine (orielref06_Rows.calls k x.f0 x.f1 x.f2 x.f3 (fun k_ => k_ < w.heap.size) A4 c4 x.f4 (fun k_ => k_ < w.heap.size) A5 c5 x.f5 _ w (Kd.V_mk l4 (Kd.C_F (Kd.heap_int .i64) h4)) (Kd.V_mk l5 (Kd.C_F k25_heap h5)) hk).mono ?_
 rintro e w' ⟨v, rfl, hN, hB⟩
 obtain ⟨A', c', rfl, h1, h2⟩ := Kd.N_reads hN
 exact ⟨A', c', rfl, h1, h2, hB⟩
end Go.Proofs.Ytemdnmidhmddlaa.Tree
/- Within: what is asked of the tree and what the document says, as lists. Conditions: as the theorems say. -/
namespace Go.Proofs.Ytemdnmidhmddlaa.Tree
open Go Go.RowKit Go.Proofs.YtemdnmidhmddlaaW.PrintWords Go.Proofs.YtemdnmidhmddlaaW.PrintLast Go.Proofs.YtemdnmidhmddlaaW.PrintMore Go.Proofs.Ytemdnmidhmddlaa.PAll
set_option linter.unusedVariables false
set_option linter.unusedSimpArgs false
def Seg (ks : List S39) (rl : List S46) (l : List S25) (up d : Int) (m : Nat) : Prop :=
 (∃ a b, ks = a ++ (knL l up m ++ b) ∧ a.length = m) ∧ (∃ a b, rl = a ++ (rwL l up d m ++ b) ∧ a.length = m)
structure Node (ks : List S39) (rl : List S46) (e : S46) (m : Nat) : Prop where
 hk : ∃ nx, ks[m]? = some (⟨e.f0.f0, e.f0.f1, e.f0.f2, e.f0.f3, e.f1, fst e.f0.f5 (m + 1), nx⟩ : S39)
 hr : rl[m]? = some e
 hs : Seg ks rl e.f0.f5 (m : Int) (e.f2 + 1) (m + 1)
theorem at_mid {α : Type} (a b : List α) (x : α) : (a ++ x :: b)[a.length]? = some x := by
 rw [List.getElem?_append_right (Nat.le_refl _), Nat.sub_self, List.getElem?_cons_zero]
theorem Seg.cons {ks : List S39} {rl : List S46} {x : S25} {r : List S25} {up d : Int} {m : Nat} (h : Seg ks rl (x :: r) up d m) :
  ks[m]? = some (⟨x.f0, x.f1, x.f2, x.f3, up, fst x.f5 (m + 1), fst r (m + 1 + szL x.f5)⟩ : S39) ∧ Node ks rl ⟨x, up, d⟩ m ∧ Seg ks rl r up d (m + 1 + szL x.f5) := by
 obtain ⟨⟨a, b, hk, ha⟩, ⟨a2, b2, hr, ha2⟩⟩ := h
 rw [knL_cons] at hk
 rw [rwL_cons] at hr
 have k0 : ks[m]? = some (⟨x.f0, x.f1, x.f2, x.f3, up, fst x.f5 (m + 1), fst r (m + 1 + szL x.f5)⟩ : S39) := by
  rw [hk, ← ha, List.cons_append]
  exact at_mid _ _ _
 have r0 : rl[m]? = some (⟨x, up, d⟩ : S46) := by
  rw [hr, ← ha2, List.cons_append]
  exact at_mid _ _ _
 have s1 : Seg ks rl x.f5 (m : Int) (d + 1) (m + 1) :=
  ⟨⟨a ++ [_], knL r up (m + 1 + szL x.f5) ++ b, by rw [hk]; simp only [List.cons_append, List.append_assoc, List.nil_append]; rfl, by rw [List.length_append, ha]; rfl⟩,
   ⟨a2 ++ [_], rwL r up d (m + 1 + szL x.f5) ++ b2, by rw [hr]; simp only [List.cons_append, List.append_assoc, List.nil_append]; rfl, by rw [List.length_append, ha2]; rfl⟩⟩
 have s2 : Seg ks rl r up d (m + 1 + szL x.f5) :=
  ⟨⟨a ++ (_ :: knL x.f5 (m : Int) (m + 1)), b, by rw [hk]; simp only [List.cons_append, List.append_assoc, List.nil_append]; rfl, by rw [List.length_append, List.length_cons, kn_len, ha]; omega⟩,
   ⟨a2 ++ (_ :: rwL x.f5 (m : Int) (d + 1) (m + 1)), b2, by rw [hr]; simp only [List.cons_append, List.append_assoc, List.nil_append]; rfl, by rw [List.length_append, List.length_cons, rw_len, ha2]; omega⟩⟩
 exact ⟨k0, ⟨⟨_, k0⟩, r0, s1⟩, s2⟩
theorem Seg.whole (x : S25) : Seg (knL [x] (-1) 0) (rwL [x] (-1) 1 0) [x] (-1) 1 0 :=
 ⟨⟨[], [], by rw [List.append_nil, List.nil_append], rfl⟩, ⟨[], [], by rw [List.append_nil, List.nil_append], rfl⟩⟩
theorem rd39 {l : List S39} {i : Nat} {y : S39} (h : l[i]? = some y) : rd_T39 l (i : Int) = y := by
 unfold rd_T39
 rw [Int.toNat_natCast, List.getD_eq_getElem?_getD, h]
 rfl
theorem rd46 {l : List S46} {i : Nat} {y : S46} (h : l[i]? = some y) : rd_T46 l (i : Int) = y := by
 unfold rd_T46
 rw [Int.toNat_natCast, List.getD_eq_getElem?_getD, h]
 rfl
theorem has_at {ks : List S39} {m : Nat} {k : S39} (h : ks[m]? = some k) : hasB ks (m : Int) = true := by
 have := (List.getElem?_eq_some_iff.mp h).1
 exact decide_eq_true ⟨by omega, by omega⟩
def kpL : List S25 → Nat → List Int
 | [], _ => []
 | x :: r, m => (m : Int) :: kpL r (m + 1 + szL x.f5)
theorem kpL_len : ∀ (l : List S25) (m : Nat), (kpL l m).length = l.length
 | [], _ => rfl
 | x :: r, m => by rw [kpL, List.length_cons, kpL_len r, List.length_cons]
theorem chain_ {ks : List S39} {rl : List S46} : ∀ (l : List S25) (up d : Int) (m : Nat), Seg ks rl l up d m → ChainK ks (fst l m) (kpL l m)
 | [], _, _, _, _ => .nil
 | x :: r, up, d, m, h => by
  obtain ⟨hk, _, hs⟩ := h.cons
  rw [kpL, fst_ne (by simp)]
  refine .cons (has_at hk) ?_
  rw [rd39 hk]
  exact chain_ r up d _ hs
theorem ChainK.has {ks : List S39} {k : Int} {l : List Int} (h : ChainK ks k l) : ∀ q ∈ l, hasB ks q = true := by
 induction h with
 | nil => exact fun q hq => by cases hq
 | cons h1 _ ih =>
  intro q hq
  rcases List.mem_cons.mp hq with rfl | hq
  ·exact h1
  ·exact ih q hq
def ndL : List S25 → Int → Int → Nat → List (S46 × Nat)
 | [], _, _, _ => []
 | x :: r, up, d, m => (⟨x, up, d⟩, m) :: ndL r up d (m + 1 + szL x.f5)
def holdS (x : S25) (tok : Int) : Bool := decide (x.f2 ≤ tok) && decide (tok < x.f3)
def prS (e : S46 × Nat) : Int × Int := ((e.2 : Int), e.1.f2)
def gdL (tok : Int) : List S25 → Int → Nat → List (Int × Int)
 | [], _, _ => []
 | x :: r, d, m => (if holdS x tok = true then ((m : Int), d) :: gdL tok x.f5 (d + 1) (m + 1) else []) ++ gdL tok r d (m + 1 + szL x.f5)
termination_by l => SizeOf.sizeOf l
decreasing_by all_goals first | exact szk _ _ | exact szr _ _
def gdN (tok : Int) (e : S46 × Nat) : List (Int × Int) := prS e :: gdL tok e.1.f0.f5 (e.1.f2 + 1) (e.2 + 1)
/-! ### the greatest one -/
def LeP (q p : Int × Int) : Prop := q.2 < p.2 ∨ (q.2 = p.2 ∧ q.1 ≤ p.1)
def Mx (S : List (Int × Int)) (p : Int × Int) : Prop := p ∈ S ∧ ∀ q ∈ S, LeP q p
theorem Mx.congr {S T : List (Int × Int)} {p : Int × Int} (h : Mx S p) (e : ∀ q, q ∈ S ↔ q ∈ T) : Mx T p := ⟨(e p).mp h.1, fun q hq => h.2 q ((e q).mpr hq)⟩
theorem Mx.upd {S : List (Int × Int)} {x p : Int × Int} {b d : Int} (h : Mx (upd x b d :: S) p) : Mx ((b, d) :: x :: S) p := by
 obtain ⟨h1, h2⟩ := h
 have h3 := h2 _ List.mem_cons_self
 unfold Tree.upd at h1 h3
 by_cases c : x.2 > d ∨ (x.2 = d ∧ x.1 > b)
 ·rw [if_pos c] at h1 h3
  refine ⟨?_, ?_⟩
  ·rcases List.mem_cons.mp h1 with rfl | h1
   ·simp
   ·simp [h1]
  ·intro q hq
   rcases List.mem_cons.mp hq with rfl | hq
   ·unfold LeP at h3 ⊢; omega
   ·rcases List.mem_cons.mp hq with rfl | hq
    ·exact h3
    ·exact h2 q (List.mem_cons_of_mem _ hq)
 ·rw [if_neg c] at h1 h3
  refine ⟨?_, ?_⟩
  ·rcases List.mem_cons.mp h1 with rfl | h1
   ·simp
   ·simp [h1]
  ·intro q hq
   rcases List.mem_cons.mp hq with rfl | hq
   ·exact h3
   ·rcases List.mem_cons.mp hq with rfl | hq
    ·unfold LeP at h3 ⊢; simp only at h3; omega
    ·exact h2 q (List.mem_cons_of_mem _ hq)
/-! ### what is asked of the tree -/
def smQ (Q : List (S46 × Nat)) : Nat := (Q.map (fun e => szL [e.1.f0])).sum
end Go.Proofs.Ytemdnmidhmddlaa.Tree
/- R.Within, and that it is the same. Conditions: as the theorems say. -/
namespace Go.Proofs.Ytemdnmidhmddlaa.Tree
open Go Go.RowKit Go.Proofs.YtemdnmidhmddlaaW.PrintWords Go.Proofs.YtemdnmidhmddlaaW.PrintLast Go.Proofs.YtemdnmidhmddlaaW.PrintMore Go.Proofs.Ytemdnmidhmddlaa.PAll
set_option linter.unusedVariables false
set_option linter.unusedSimpArgs false
inductive GoodN (rl : List S46) (tok : Int) : Nat → Prop
 | root {n : Nat} {e : S46} : rl[n]? = some e → e.f1 = -1 → holdS e.f0 tok = true → GoodN rl tok n
 | kid {n u : Nat} {e : S46} : rl[n]? = some e → e.f1 = (u : Int) → GoodN rl tok u → holdS e.f0 tok = true → GoodN rl tok n
def UpG (rl : List S46) (tok : Int) (up : Int) : Prop := up = -1 ∨ ∃ u : Nat, up = (u : Int) ∧ GoodN rl tok u
theorem GoodN.mk {rl : List S46} {tok : Int} {n : Nat} {e : S46} (h : rl[n]? = some e) (hu : UpG rl tok e.f1) (hh : holdS e.f0 tok = true) : GoodN rl tok n := by
 rcases hu with hu | ⟨u, hu, hg⟩
 ·exact .root h hu hh
 ·exact .kid h hu hg hh
theorem GoodN.inv {rl : List S46} {tok : Int} {n : Nat} {e : S46} (h : rl[n]? = some e) (g : GoodN rl tok n) : UpG rl tok e.f1 ∧ holdS e.f0 tok = true := by
 cases g with
 | root h1 h2 h3 =>
  rw [h] at h1
  obtain rfl := Option.some.inj h1
  exact ⟨Or.inl h2, h3⟩
 | kid h1 h2 h3 h4 =>
  rw [h] at h1
  obtain rfl := Option.some.inj h1
  exact ⟨Or.inr ⟨_, h2, h3⟩, h4⟩
def UpOk (rl : List S46) : Prop := ∀ (n : Nat) (e : S46), rl[n]? = some e → -1 ≤ e.f1 ∧ e.f1 < (n : Int)
/-! ### the document's -/
open Classical in
noncomputable def goodI (rl : List S46) (tok : Int) (k : Int) : Bool := decide (UpG rl tok k)
open Classical in
theorem goodI_neg (rl : List S46) (tok : Int) : goodI rl tok (-1) = true := by
 unfold goodI
 exact decide_eq_true (Or.inl rfl)
open Classical in
theorem goodI_iff {rl : List S46} {tok : Int} {n : Nat} : goodI rl tok (n : Int) = true ↔ GoodN rl tok n := by
 unfold goodI
 rw [decide_eq_true_iff]
 constructor
 ·rintro (h | ⟨u, h, g⟩)
  ·omega
  ·obtain rfl : n = u := by omega
   exact g
 ·exact fun g => Or.inr ⟨n, rfl, g⟩
open Classical in
theorem goodI_at {rl : List S46} {tok : Int} {n : Nat} {e : S46} (h : rl[n]? = some e) : goodI rl tok (n : Int) = (holdS e.f0 tok && goodI rl tok e.f1) := by
 rw [Bool.eq_iff_iff, goodI_iff, Bool.and_eq_true]
 constructor
 ·intro g
  obtain ⟨h1, h2⟩ := GoodN.inv h g
  exact ⟨h2, by unfold goodI; exact decide_eq_true h1⟩
 ·rintro ⟨h1, h2⟩
  unfold goodI at h2
  exact .mk h (of_decide_eq_true h2) h1
theorem inner_ {rl : List S46} {tok b : Int} {n : Nat} {R : Int} (hu : UpOk rl) : ∀ (K : Nat) (k : Int), k < (K : Int) → -1 ≤ k → k < (rl.length : Int) → ∀ all : Bool,
  Ev (fun j => orielref06_Within.l1 j rl tok b (n : Int) (all && goodI rl tok k) (-1)) R → Ev (fun j => orielref06_Within.l1 j rl tok b (n : Int) all k) R
 | K, k, hk, h1, h2, all, h => by
  by_cases c : k = -1
  ·subst c
   rw [goodI_neg, Bool.and_true] at h
   exact h
  ·obtain ⟨m, rfl⟩ : ∃ m : Nat, k = (m : Int) := ⟨k.toNat, by omega⟩
   cases K with
   | zero => omega
   | succ K =>
    have hm : m < rl.length := by omega
    obtain ⟨e, he⟩ : ∃ e, rl[m]? = some e := ⟨rl[m], List.getElem?_eq_getElem hm⟩
    have hue := hu m e he
    have o1 : (m : Int) ≥ 0 := by omega
    have o2 : (0 : Int) ≤ (m : Int) := by omega
    have ih := inner_ (tok := tok) (b := b) (n := n) (R := R) hu K e.f1 (by omega) hue.1 (by omega) (all && holdS e.f0 tok) (by rw [Bool.and_assoc, ← goodI_at he]; exact h)
    refine Ev.step (fun j => ?_) ih
    rw [orielref06_Within.l1, if_pos o1]
    cases all with
    | false => rw [if_neg (by decide), if_pos o2, if_pos h2, rd46 he, Bool.false_and]
    | true =>
     rw [if_pos rfl, if_pos o2, if_pos h2, rd46 he, Bool.true_and]
     unfold holdS
     by_cases c2 : e.f0.f2 ≤ tok
     ·rw [if_pos c2, decide_eq_true c2, Bool.true_and]
     ·rw [if_neg c2, decide_eq_false c2, Bool.false_and]
def BestOf (rl : List S46) (tok : Int) (n : Nat) (b : Int) : Prop :=
 (b = -1 ∧ ∀ u < n, ¬ GoodN rl tok u) ∨ ∃ (c : Nat) (e : S46), b = (c : Int) ∧ rl[c]? = some e ∧ GoodN rl tok c ∧ c < n ∧ ∀ (u : Nat) (e2 : S46), u < n → rl[u]? = some e2 → GoodN rl tok u → LeP ((u : Int), e2.f2) ((c : Int), e.f2)
end Go.Proofs.Ytemdnmidhmddlaa.Tree
/- How the nodes of a tree stand to one another: kids, the next one, what lies above and below. Conditions: as the theorems say. -/
namespace Go.Proofs.Ytemdnmidhmddlaa.Tree
open Go Go.RowKit Go.Proofs.YtemdnmidhmddlaaW.PrintWords Go.Proofs.YtemdnmidhmddlaaW.PrintLast Go.Proofs.YtemdnmidhmddlaaW.PrintMore Go.Proofs.Ytemdnmidhmddlaa.PAll
set_option linter.unusedVariables false
set_option linter.unusedSimpArgs false
theorem node_at {ks : List S39} {rl : List S46} : ∀ (N : Nat) (l : List S25) (up d : Int) (m : Nat), SizeOf.sizeOf l < N → Seg ks rl l up d m → ∀ n, m ≤ n → n < m + szL l → ∃ e, Node ks rl e n ∧ n + szL [e.f0] ≤ m + szL l
 | 0, _, _, _, _, h, _, _, _, _ => absurd h (Nat.not_lt_zero _)
 | N + 1, [], _, _, m, _, _, n, h1, h2 => by rw [szL_nil] at h2; omega
 | N + 1, x :: r, up, d, m, hN, h, n, h1, h2 => by
  obtain ⟨hk, hn, hs⟩ := h.cons
  have z1 := szk x r
  have z2 := szr x r
  have hz := szL_cons x r
  by_cases c1 : n = m
  ·subst c1
   exact ⟨_, hn, by show n + szL [x] ≤ _; rw [szL_one]; omega⟩
  ·by_cases c2 : n < m + 1 + szL x.f5
   ·obtain ⟨e, he, hb⟩ := node_at N x.f5 (m : Int) (d + 1) (m + 1) (by omega) hn.hs n (by omega) (by omega)
    exact ⟨e, he, by omega⟩
   ·obtain ⟨e, he, hb⟩ := node_at N r up d _ (by omega) hs n (by omega) (by omega)
    exact ⟨e, he, by omega⟩
theorem nm_rw : ∀ (N : Nat) (l : List S25) (up d : Int) (m : Nat), SizeOf.sizeOf l < N → nmL l = (rwL l up d m).map (fun e => e.f0.f4)
 | 0, _, _, _, _, h => absurd h (Nat.not_lt_zero _)
 | N + 1, [], _, _, _, _ => by rw [nmL_nil, rwL_nil]; rfl
 | N + 1, x :: r, up, d, m, hN => by
  have z1 := szk x r
  have z2 := szr x r
  rw [nmL_cons, rwL_cons, List.map_cons, List.map_append, ← nm_rw N x.f5 _ _ _ (by omega), ← nm_rw N r _ _ _ (by omega)]
/-! ### kids -/
def idxs (p : S46 → Bool) : List S46 → Nat → List Int
 | [], _ => []
 | e :: r, i => if p e = true then (i : Int) :: idxs p r (i + 1) else idxs p r (i + 1)
def isUp (u : Int) (e : S46) : Bool := decide (e.f1 = u)
/-! ### the next one -/
def nxt (n : Int) : List Int → Int → Int
 | [], v => v
 | m :: r, v => nxt n r (if m > n ∧ v < 0 then m else v)
/-! ### what lies above -/
inductive PathR (rl : List S46) : Int → List Int → Prop
 | nil {n : Int} : n < 0 → PathR rl n []
 | cons {n : Nat} {e : S46} {l : List Int} : rl[n]? = some e → PathR rl e.f1 l → PathR rl (n : Int) ((n : Int) :: l)
/-! ### what lies below -/
def rng (n : Nat) (s : Nat) : List Int := (List.range' n s).map (fun i : Nat => (i : Int))
def rgN (e : S46 × Nat) : List Int := rng e.2 (szL [e.1.f0])
end Go.Proofs.Ytemdnmidhmddlaa.Tree
/- How often each node is a kid. Conditions: as the theorems say. -/
namespace Go.Proofs.Ytemdnmidhmddlaa.Tree
open Go Go.RowKit Go.Proofs.YtemdnmidhmddlaaW.PrintWords Go.Proofs.YtemdnmidhmddlaaW.PrintLast Go.Proofs.YtemdnmidhmddlaaW.PrintMore Go.Proofs.Ytemdnmidhmddlaa.PAll
set_option linter.unusedVariables false
set_option linter.unusedSimpArgs false
def cnts (s : Nat) (L : List Int) : List Int := (List.range s).map (fun k : Nat => ((L.count (k : Int) : Nat) : Int))
def allK (rl : List S46) : Nat → List Int
 | 0 => []
 | n + 1 => allK rl n ++ idxs (isUp (n : Int)) rl 0
end Go.Proofs.Ytemdnmidhmddlaa.Tree
/- R.Kids, R.Below: what they answer. Conditions: as the theorems say. -/
namespace Go.Proofs.Ytemdnmidhmddlaa.Tree
open Go Go.RowKit Go.Proofs.YtemdnmidhmddlaaW.PrintWords Go.Proofs.YtemdnmidhmddlaaW.PrintLast Go.Proofs.YtemdnmidhmddlaaW.PrintMore Go.Proofs.Ytemdnmidhmddlaa.PAll
set_option linter.unusedVariables false
set_option linter.unusedSimpArgs false
theorem Seg.row {ks : List S39} {rl : List S46} {l : List S25} {up d : Int} {m : Nat} (h : Seg ks rl l up d m) {k : Nat} (h1 : m ≤ k) (h2 : k < m + szL l) : rl[k]? = (rwL l up d m)[k - m]? := by
 obtain ⟨_, a, b, hr, ha⟩ := h
 have hl := rw_len l up d m
 rw [hr, List.getElem?_append_right (by omega), ha, List.getElem?_append_left (by omega)]
end Go.Proofs.Ytemdnmidhmddlaa.Tree
/- The next one of a node, its names, the nodes below one, as TreeMakes asks them. Conditions: as the theorems say. -/
namespace Go.Proofs.Ytemdnmidhmddlaa.Tree
open Go Go.RowKit Go.Proofs.YtemdnmidhmddlaaW.PrintWords Go.Proofs.YtemdnmidhmddlaaW.PrintLast Go.Proofs.YtemdnmidhmddlaaW.PrintMore Go.Proofs.Ytemdnmidhmddlaa.PAll
set_option linter.unusedVariables false
set_option linter.unusedSimpArgs false
theorem names_at (x : S25) {m : Nat} {e : S46} {kk : S39} (h : (rwL [x] (-1) 1 0)[m]? = some e) (hk : (knL [x] (-1) 0)[m]? = some kk) : namesF (knL [x] (-1) 0) (nmL [x]) (m : Int) = e.f0.f4 := by
 unfold namesF
 rw [if_pos (has_at hk), nm_rw _ [x] (-1) 1 0 (Nat.lt_succ_self _)]
 unfold rdN
 rw [Int.toNat_natCast, List.getD_eq_getElem?_getD, List.getElem?_map, h]
 rfl
theorem rw_nmT : ∀ (N : Nat) (l : List S25) (up d : Int) (m : Nat), SizeOf.sizeOf l < N → ∀ e ∈ rwL l up d m, nmT [e.f0] ≤ nmT l
 | 0, _, _, _, _, h, _, _ => absurd h (Nat.not_lt_zero _)
 | N + 1, [], _, _, _, _, e, he => by rw [rwL_nil] at he; cases he
 | N + 1, x :: r, up, d, m, hN, e, he => by
  have z1 := szk x r
  have z2 := szr x r
  have h1 := nmT_cons x r
  have h2 := nmT_one x
  rw [rwL_cons] at he
  rcases List.mem_cons.mp he with rfl | he
  ·show nmT [x] ≤ _
   omega
  ·rcases List.mem_append.mp he with he | he
   ·have := rw_nmT N x.f5 _ _ _ (by omega) e he
    omega
   ·have := rw_nmT N r _ _ _ (by omega) e he
    omega
theorem rw_names (x : S25) (hs : nmT [x] ≤ 500) {m : Nat} {e : S46} (h : (rwL [x] (-1) 1 0)[m]? = some e) : e.f0.f4.length ≤ 500 := by
 have h1 := rw_nmT _ [x] (-1) 1 0 (Nat.lt_succ_self _) e (List.mem_of_getElem? h)
 have h2 := nmT_one e.f0
 omega
def bl (m s j : Nat) : List Int := rng m (min (j - m) s)
theorem PathR.inv {rl : List S46} {n : Int} {l : List Int} (h : PathR rl n l) : (n < 0 ∧ l = []) ∨ ∃ (k : Nat) (e : S46) (r : List Int), n = (k : Int) ∧ rl[k]? = some e ∧ l = n :: r ∧ PathR rl e.f1 r := by
 cases h with
 | nil h1 => exact Or.inl ⟨h1, rfl⟩
 | @cons k e r h1 h2 => exact Or.inr ⟨k, e, r, rfl, h1, rfl, h2⟩
def HeldM (w : World) (g : Nat) (a : Addr) (k0 k1 k2 k3 k4 k5 k6 : Int) (r4 : Value) (r7 : Int) : Prop :=
 w.cell? ⟨g, 0, none⟩ = some (.int .i64 k0) ∧ w.cell? ⟨g, 1, none⟩ = some (.int .i64 k1) ∧ w.cell? ⟨g, 2, none⟩ = some (.int .i64 k2) ∧ w.cell? ⟨g, 3, none⟩ = some (.int .i64 k3) ∧ w.cell? ⟨g, 4, none⟩ = some (.int .i64 k4) ∧ w.cell? ⟨g, 5, none⟩ = some (.int .i64 k5) ∧ w.cell? ⟨g, 6, none⟩ = some (.int .i64 k6) ∧
 w.cell? a = some (.int .i64 k0) ∧ w.cell? ⟨a.block, a.off + 1, none⟩ = some (.int .i64 k1) ∧ w.cell? ⟨a.block, a.off + 2, none⟩ = some (.int .i64 k2) ∧ w.cell? ⟨a.block, a.off + 3, none⟩ = some (.int .i64 k3) ∧ w.cell? ⟨a.block, a.off + 4, none⟩ = some r4 ∧ w.cell? ⟨a.block, a.off + 6, none⟩ = some (.int .i64 k4) ∧ w.cell? ⟨a.block, a.off + 7, none⟩ = some (.int .i64 r7)
end Go.Proofs.Ytemdnmidhmddlaa.Tree
