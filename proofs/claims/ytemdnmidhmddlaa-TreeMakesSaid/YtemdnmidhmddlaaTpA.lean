/- How many parts, how many names, the rows of a branch: what the document's functions answer. Conditions: as the theorems say. -/
import Derived.Test.YtemdnmidhmddlaaTrC
import Derived.Test.YtemdnmidhmddlaaPAllx3
import Derived.Test.YtemdnmidhmddlaaPAllx7
namespace Go.Proofs.Ytemdnmidhmddlaa.Tree
open Go Go.RowKit Go.Proofs.YtemdnmidhmddlaaW.PrintWords Go.Proofs.YtemdnmidhmddlaaW.PrintLast Go.Proofs.YtemdnmidhmddlaaW.PrintMore Go.Proofs.Ytemdnmidhmddlaa.PAll
set_option linter.unusedVariables false
set_option linter.unusedSimpArgs false
theorem szL_one (x : S25) : szL [x] = 1 + szL x.f5 := by rw [szL_cons, szL_nil]; omega
theorem rd25 {l : List S25} {i : Nat} {y : S25} (h : l[i]? = some y) : rd_T25 l (i : Int) = y := by
  unfold rd_T25
  rw [Int.toNat_natCast, List.getD_eq_getElem?_getD, h]
  rfl
theorem wnat (n : Nat) (h : n ≤ 9223372036854775807) : wrap64 (n : Int) = (n : Int) := wid (by omega) (by omega)
theorem take1 {α : Type} {l : List α} {i : Nat} {y : α} (h : l[i]? = some y) : l.take (i + 1) = l.take i ++ [y] := by
  have hi := (List.getElem?_eq_some_iff.mp h).1
  rw [List.take_succ_eq_append_getElem hi]
  rw [List.getElem?_eq_getElem hi] at h
  rw [Option.some.inj h]
theorem size_ev : ∀ (N : Nat) (x : S25), SizeOf.sizeOf x < N → ∀ most : Nat, most ≤ 1000000 → Ev (fun k => orielref06_Size.f k x.f0 x.f1 x.f2 x.f3 x.f4 x.f5 (most : Int)) ((min (szL [x]) (most + 1) : Nat) : Int)
  | 0, x, h, _, _ => absurd h (Nat.not_lt_zero _)
  | N + 1, x, hx, most, hm => by
    have loop : ∀ (d i c : Nat), x.f5.length = i + d → c = min (1 + szL (x.f5.take i)) (most + 1) → i ≤ most + 1 → (c ≤ most → i < c) → Ev (fun k => orielref06_Size.l0 k (most : Int) (c : Int) (i : Int) x.f0 x.f1 x.f2 x.f3 x.f4 x.f5) ((min (szL [x]) (most + 1) : Nat) : Int) := by
      intro d
      induction d with
      | zero =>
        intro i c h hc _ _
        have e : x.f5.take i = x.f5 := List.take_of_length_le (by omega)
        rw [e] at hc
        rw [szL_one, ← hc]
        exact Ev.step (f := fun _ => some (c : Int)) (fun k => by rw [orielref06_Size.l0, if_neg (by omega)]) (Ev.now _)
      | succ d ih =>
        intro i c h hc hi1 hic
        have hi : i < x.f5.length := by omega
        obtain ⟨y, hy⟩ : ∃ y, x.f5[i]? = some y := ⟨x.f5[i], List.getElem?_eq_getElem hi⟩
        have ht := take1 hy
        have hmono := szL_take x.f5 (i + 1)
        by_cases q : c ≤ most
        · have hlt := hic q
          have hcc : c = 1 + szL (x.f5.take i) := by omega
          have hmem := List.mem_of_getElem? hy
          have hsz := List.sizeOf_lt_of_mem hmem
          have hs2 := szx x
          have key := size_ev N y (by omega) (most - c) (by omega)
          have hy1 : 1 ≤ szL [y] := by rw [szL_one]; omega
          have hst : szL (x.f5.take (i + 1)) = szL (x.f5.take i) + szL [y] := by rw [ht, szL_app]
          obtain ⟨mm, hmm⟩ : ∃ mm, min (szL [y]) (most - c + 1) = mm := ⟨_, rfl⟩
          rw [hmm] at key
          have hm1 : mm ≤ most - c + 1 := by omega
          have key2 := ih (i + 1) (c + mm) (by omega) (by rw [hst]; omega) (by omega) (by omega)
          have o1 : (i : Int) < (x.f5.length : Int) := by omega
          have o2 : (c : Int) ≤ (most : Int) := by omega
          have o3 : (0 : Int) ≤ (i : Int) := by omega
          have e1 : wrap64 ((most : Int) - (c : Int)) = ((most - c : Nat) : Int) := by
            have h : (most : Int) - (c : Int) = ((most - c : Nat) : Int) := by omega
            rw [h]
            exact wnat (most - c) (by omega)
          have e3 : wrap64 ((i : Int) + 1) = ((i + 1 : Nat) : Int) := wnat (i + 1) (by omega)
          have e2 : wrap64 ((c : Int) + (mm : Int)) = ((c + mm : Nat) : Int) := by rw [← Int.natCast_add]; exact wnat (c + mm) (by omega)
          refine Ev.step (fun k => ?_) (Ev.bind (f := fun k t => orielref06_Size.l0 k (most : Int) (wrap64 ((c : Int) + t)) ((i + 1 : Nat) : Int) x.f0 x.f1 x.f2 x.f3 x.f4 x.f5) key (by rw [e2]; exact key2))
          rw [orielref06_Size.l0, if_pos o1, if_pos o2, if_pos o3, rd25 hy, e1, e3]
        · have e : ((min (szL [x]) (most + 1) : Nat) : Int) = (c : Int) := by
            rw [szL_one]
            have := szL_take x.f5 i
            omega
          have o1 : (i : Int) < (x.f5.length : Int) := by omega
          have o2 : ¬ (c : Int) ≤ (most : Int) := by omega
          rw [e]
          exact Ev.step (f := fun _ => some (c : Int)) (fun k => by rw [orielref06_Size.l0, if_pos o1, if_neg o2]) (Ev.now _)
    have h := loop x.f5.length 0 1 (by omega) (by rw [List.take_zero, szL_nil]; omega) (by omega) (by omega)
    exact Ev.step (fun k => by rw [orielref06_Size.f]; rfl) h
/-- How many names, of each part at most a thousand. -/
def nmT : List S25 → Nat
  | [] => 0
  | x :: r => min x.f4.length 1000 + nmT x.f5 + nmT r
termination_by l => SizeOf.sizeOf l
decreasing_by all_goals first | exact szk _ _ | exact szr _ _
theorem nmT_nil : nmT [] = 0 := by rw [nmT]
theorem nmT_cons (x : S25) (r : List S25) : nmT (x :: r) = min x.f4.length 1000 + nmT x.f5 + nmT r := by rw [nmT]
theorem nmT_one (x : S25) : nmT [x] = min x.f4.length 1000 + nmT x.f5 := by rw [nmT_cons, nmT_nil]; omega
theorem nmT_app : ∀ (a b : List S25), nmT (a ++ b) = nmT a + nmT b
  | [], b => by rw [List.nil_append, nmT_nil, Nat.zero_add]
  | x :: r, b => by rw [List.cons_append, nmT_cons, nmT_cons, nmT_app r b]; omega
theorem nmT_take (l : List S25) (i : Nat) : nmT (l.take i) ≤ nmT l := by
  have h := nmT_app (l.take i) (l.drop i)
  rw [List.take_append_drop] at h
  omega
theorem nmT_mem {l : List S25} {y : S25} (h : y ∈ l) : nmT [y] ≤ nmT l := by
  obtain ⟨a, b, rfl⟩ := List.append_of_mem h
  rw [nmT_app, nmT_one, nmT_cons]
  omega
theorem szL_mem2 {l : List S25} {y : S25} (h : y ∈ l) : szL [y] ≤ szL l := by
  obtain ⟨a, b, rfl⟩ := List.append_of_mem h
  rw [szL_app, szL_one, szL_cons]
  omega
theorem nmT_le : ∀ (n : Nat) (l : List S25), SizeOf.sizeOf l < n → nmT l ≤ 1000 * szL l
  | 0, _, h => absurd h (Nat.not_lt_zero _)
  | n + 1, [], _ => by rw [nmT_nil]; omega
  | n + 1, x :: r, h => by
    have h1 := szk x r
    have h2 := szr x r
    have i1 := nmT_le n x.f5 (by omega)
    have i2 := nmT_le n r (by omega)
    rw [nmT_cons, szL_cons]
    omega
theorem mn_nat (a b : Nat) : mn (a : Int) (b : Int) = ((min a b : Nat) : Int) := by
  unfold mn
  by_cases h : (b : Int) < (a : Int)
  · rw [if_pos h]; omega
  · rw [if_neg h]; omega
theorem names_ev : ∀ (N : Nat) (x : S25), SizeOf.sizeOf x < N → szL [x] ≤ 1000000 → Ev (fun k => oriellaw06_names.f k x.f0 x.f1 x.f2 x.f3 x.f4 x.f5) ((nmT [x] : Nat) : Int)
  | 0, x, h, _ => absurd h (Nat.not_lt_zero _)
  | N + 1, x, hx, hs => by
    have hs1 := szL_one x
    have hlk := len_le_szL x.f5
    have hb : nmT x.f5 ≤ 1000 * szL x.f5 := nmT_le _ x.f5 (Nat.lt_succ_self _)
    have loop : ∀ (d i c : Nat), x.f5.length = i + d → c = min x.f4.length 1000 + nmT (x.f5.take i) → Ev (fun k => oriellaw06_names.l0 k (c : Int) x.f5 (x.f5.length : Int) (i : Int)) ((nmT [x] : Nat) : Int) := by
      intro d
      induction d with
      | zero =>
        intro i c h hc
        have e : x.f5.take i = x.f5 := List.take_of_length_le (by omega)
        rw [e, ← nmT_one] at hc
        subst hc
        have o1 : ¬ (i : Int) < (x.f5.length : Int) := by omega
        exact Ev.step (f := fun _ => some ((nmT [x] : Nat) : Int)) (fun k => by rw [oriellaw06_names.l0, if_neg o1]) (Ev.now _)
      | succ d ih =>
        intro i c h hc
        have hi : i < x.f5.length := by omega
        obtain ⟨y, hy⟩ : ∃ y, x.f5[i]? = some y := ⟨x.f5[i], List.getElem?_eq_getElem hi⟩
        have ht := take1 hy
        have hmem := List.mem_of_getElem? hy
        have hsz := List.sizeOf_lt_of_mem hmem
        have hs2 := szx x
        have hsy := szL_mem2 hmem
        have key := names_ev N y (by omega) (by omega)
        have hst : nmT (x.f5.take (i + 1)) = nmT (x.f5.take i) + nmT [y] := by rw [ht, nmT_app]
        have hle := nmT_take x.f5 (i + 1)
        have key2 := ih (i + 1) (c + nmT [y]) (by omega) (by rw [hst]; omega)
        have o1 : (i : Int) < (x.f5.length : Int) := by omega
        have o3 : (0 : Int) ≤ (i : Int) := by omega
        have hcb : c + nmT [y] ≤ 9223372036854775807 := by omega
        have e3 : wrap64 ((i : Int) + 1) = ((i + 1 : Nat) : Int) := wnat (i + 1) (by omega)
        have e2 : wrap64 ((c : Int) + ((nmT [y] : Nat) : Int)) = ((c + nmT [y] : Nat) : Int) := by rw [← Int.natCast_add]; exact wnat (c + nmT [y]) hcb
        refine Ev.step (fun k => ?_) (Ev.bind (f := fun k t => oriellaw06_names.l0 k (wrap64 ((c : Int) + t)) x.f5 (x.f5.length : Int) ((i + 1 : Nat) : Int)) key (by rw [e2]; exact key2))
        rw [oriellaw06_names.l0, if_pos o1, if_pos o3, if_pos o1, rd25 hy, e3]
    have h := loop x.f5.length 0 (min x.f4.length 1000) (by omega) (by rw [List.take_zero, nmT_nil]; omega)
    exact Ev.step (fun k => by rw [oriellaw06_names.f, show (1000 : Int) = ((1000 : Nat) : Int) from rfl, mn_nat]; rfl) h
/-- Is a branch gone through? -/
def fewB (x : S25) : Bool := decide (szL [x] ≤ 150) && decide (nmT [x] ≤ 500)
theorem few_ev (x : S25) : Ev (fun k => oriellaw06_few.f k x.f0 x.f1 x.f2 x.f3 x.f4 x.f5) (fewB x) := by
  have h1 := size_ev _ x (Nat.lt_succ_self _) 150 (by omega)
  by_cases c : szL [x] ≤ 150
  · have h2 := names_ev _ x (Nat.lt_succ_self _) (by omega)
    have e1 : ((min (szL [x]) (150 + 1) : Nat) : Int) ≤ 150 := by omega
    have e2 : fewB x = decide (((nmT [x] : Nat) : Int) ≤ 500) := by
      unfold fewB
      rw [decide_eq_true c, Bool.true_and, Bool.eq_iff_iff, decide_eq_true_iff, decide_eq_true_iff]
      omega
    rw [e2]
    refine Ev.congr (fun k => ?_) (Ev.bind (f := fun k t109 => (if t109 ≤ 150 then ((oriellaw06_names.f k x.f0 x.f1 x.f2 x.f3 x.f4 x.f5).bind fun t110 => (some (decide (t110 ≤ 500)))) else (some false))) h1 (Ev.congr (fun k => if_pos e1) (Ev.bind (f := fun _ t110 => some (decide (t110 ≤ 500))) h2 (Ev.now _))))
    rfl
  · have e1 : ¬ ((min (szL [x]) (150 + 1) : Nat) : Int) ≤ 150 := by omega
    have e2 : fewB x = false := by
      unfold fewB
      rw [decide_eq_false c, Bool.false_and]
    rw [e2]
    refine Ev.congr (fun k => ?_) (Ev.bind (f := fun k t109 => (if t109 ≤ 150 then ((oriellaw06_names.f k x.f0 x.f1 x.f2 x.f3 x.f4 x.f5).bind fun t110 => (some (decide (t110 ≤ 500)))) else (some false))) h1 (Ev.congr (fun k => if_neg e1) (Ev.now false)))
    rfl
theorem few_ (x : S25) (A4 A5 : Option Addr) (c4 c5 : Nat) (w : World) (h4 : Kd.C (Kd.int .i64) w A4 x.f4.length x.f4) (l4 : x.f4.length ≤ c4) (h5 : Kd.C k25 w A5 x.f5.length x.f5) (l5 : x.f5.length ≤ c5) :
    Calls Try.prog 8 #[.agg #[.int .i64 x.f0, .int .i64 x.f1, .int .i64 x.f2, .int .i64 x.f3, .slice A4 x.f4.length c4, .slice A5 x.f5.length c5]] w fun e w' => e = .returned (.bool (fewB x)) ∧ Below w.heap.size w w' := by
  obtain ⟨k, hk⟩ := (few_ev x).rounds
  exact oriellaw06_few.calls k x.f0 x.f1 x.f2 x.f3 A4 c4 x.f4 A5 c5 x.f5 _ w h4 l4 h5 l5 hk
theorem goodB_of : ∀ (n : Nat) (x : S25), SizeOf.sizeOf x < n → nmT [x] ≤ 500 → GoodB x
  | 0, _, h, _ => absurd h (Nat.not_lt_zero _)
  | n + 1, x, h, hn => by
    rw [nmT_one] at hn
    refine .mk x (by omega) (fun y hy => goodB_of n y ?_ ?_)
    · have h1 := List.sizeOf_lt_of_mem hy
      have h2 := szx x
      omega
    · have := nmT_mem hy
      omega
theorem fewB_t {x : S25} (h : fewB x = true) : szL [x] ≤ 150 ∧ nmT [x] ≤ 500 ∧ GoodB x := by
  unfold fewB at h
  rw [Bool.and_eq_true, decide_eq_true_iff, decide_eq_true_iff] at h
  exact ⟨h.1, h.2, goodB_of _ x (Nat.lt_succ_self _) h.2⟩
/-! ### rows -/
/-- The rows of branches that lie beside one another, from m on. -/
def rwL : List S25 → Int → Int → Nat → List S46
  | [], _, _, _ => []
  | x :: r, up, d, m => (⟨x, up, d⟩ : S46) :: (rwL x.f5 (m : Int) (d + 1) (m + 1) ++ rwL r up d (m + 1 + szL x.f5))
termination_by l => SizeOf.sizeOf l
decreasing_by all_goals first | exact szk _ _ | exact szr _ _
theorem rwL_nil (up d : Int) (m : Nat) : rwL [] up d m = [] := by rw [rwL]
theorem rwL_cons (x : S25) (r : List S25) (up d : Int) (m : Nat) : rwL (x :: r) up d m = (⟨x, up, d⟩ : S46) :: (rwL x.f5 (m : Int) (d + 1) (m + 1) ++ rwL r up d (m + 1 + szL x.f5)) := by rw [rwL]
theorem rwL_len : ∀ (n : Nat) (l : List S25) (up d : Int) (m : Nat), SizeOf.sizeOf l < n → (rwL l up d m).length = szL l
  | 0, _, _, _, _, h => absurd h (Nat.not_lt_zero _)
  | n + 1, [], _, _, _, _ => by rw [rwL_nil, szL_nil]; rfl
  | n + 1, x :: r, up, d, m, h => by
    have h1 := szk x r
    have h2 := szr x r
    rw [rwL_cons, szL_cons, List.length_cons, List.length_append, rwL_len n _ _ _ _ (by omega), rwL_len n _ _ _ _ (by omega)]
    omega
theorem rw_len (l : List S25) (up d : Int) (m : Nat) : (rwL l up d m).length = szL l := rwL_len _ l up d m (Nat.lt_succ_self _)
theorem rwL_app (b : List S25) (up d : Int) : ∀ (a : List S25) (m : Nat), rwL (a ++ b) up d m = rwL a up d m ++ rwL b up d (m + szL a)
  | [], m => by rw [List.nil_append, rwL_nil, szL_nil, List.nil_append, Nat.add_zero]
  | x :: r, m => by
    rw [List.cons_append, rwL_cons, rwL_cons, rwL_app b up d r, szL_cons, List.cons_append, List.append_assoc, show m + 1 + szL x.f5 + szL r = m + (1 + szL x.f5 + szL r) by omega]
theorem rows_ev : ∀ (N : Nat) (x : S25), SizeOf.sizeOf x < N → ∀ (up : Int) (d m : Nat), d + szL [x] ≤ 2000000 → m + szL [x] ≤ 1000000 → Ev (fun k => orielref06_rows.f k x.f0 x.f1 x.f2 x.f3 x.f4 x.f5 up (d : Int) (m : Int)) (rwL [x] up (d : Int) m)
  | 0, x, h, _, _, _, _, _ => absurd h (Nat.not_lt_zero _)
  | N + 1, x, hx, up, d, m, hd, hm => by
    have hs1 := szL_one x
    have hlk := len_le_szL x.f5
    have ex : (⟨x.f0, x.f1, x.f2, x.f3, x.f4, x.f5⟩ : S25) = x := by cases x; rfl
    have loop : ∀ (q i : Nat) (out : List S46), x.f5.length = i + q → out = (⟨x, up, (d : Int)⟩ : S46) :: rwL (x.f5.take i) (m : Int) ((d : Int) + 1) (m + 1) → Ev (fun k => orielref06_rows.l0 k (d : Int) (m : Int) out (i : Int) x.f0 x.f1 x.f2 x.f3 x.f4 x.f5) (rwL [x] up (d : Int) m) := by
      intro q
      induction q with
      | zero =>
        intro i out h hc
        have e : x.f5.take i = x.f5 := List.take_of_length_le (by omega)
        have e2 : rwL [x] up (d : Int) m = out := by rw [hc, e, rwL_cons, rwL_nil, List.append_nil]
        rw [e2]
        have o1 : ¬ (i : Int) < (x.f5.length : Int) := by omega
        exact Ev.step (f := fun _ => some out) (fun k => by rw [orielref06_rows.l0, if_neg o1]) (Ev.now _)
      | succ q ih =>
        intro i out h hc
        have hi : i < x.f5.length := by omega
        obtain ⟨y, hy⟩ : ∃ y, x.f5[i]? = some y := ⟨x.f5[i], List.getElem?_eq_getElem hi⟩
        have ht := take1 hy
        have hmem := List.mem_of_getElem? hy
        have hsz := List.sizeOf_lt_of_mem hmem
        have hs2 := szx x
        have hsy := szL_mem2 hmem
        have hol : out.length = 1 + szL (x.f5.take i) := by rw [hc, List.length_cons, rw_len]; omega
        have hst : szL (x.f5.take (i + 1)) = szL (x.f5.take i) + szL [y] := by rw [ht, szL_app]
        have hle := szL_take x.f5 (i + 1)
        have key := rows_ev N y (by omega) (m : Int) (d + 1) (m + out.length) (by omega) (by omega)
        have hlen := rw_len [y] (m : Int) (((d + 1 : Nat)) : Int) (m + out.length)
        have key2 := ih (i + 1) (out ++ rwL [y] (m : Int) (((d + 1 : Nat)) : Int) (m + out.length)) (by omega) (by
          rw [ht, rwL_app, hc, List.cons_append, List.length_cons, rw_len, show m + (szL (x.f5.take i) + 1) = m + 1 + szL (x.f5.take i) by omega]
          rfl)
        have o1 : (i : Int) < (x.f5.length : Int) := by omega
        have o3 : (0 : Int) ≤ (i : Int) := by omega
        have o4 : out.length + (rwL [y] (m : Int) (((d + 1 : Nat)) : Int) (m + out.length)).length < 1466015503701 := by rw [hlen]; omega
        have e3 : wrap64 ((i : Int) + 1) = ((i + 1 : Nat) : Int) := wnat (i + 1) (by omega)
        have e4 : wrap64 ((d : Int) + 1) = ((d + 1 : Nat) : Int) := wnat (d + 1) (by omega)
        have e5 : wrap64 ((m : Int) + (out.length : Int)) = ((m + out.length : Nat) : Int) := by rw [← Int.natCast_add]; exact wnat (m + out.length) (by omega)
        refine Ev.step (fun k => ?_) (Ev.bind (f := fun k t => if out.length + t.length < 1466015503701 then (orielref06_rows.l0 k (d : Int) (m : Int) (out ++ t) ((i + 1 : Nat) : Int) x.f0 x.f1 x.f2 x.f3 x.f4 x.f5) else none) key (Ev.congr (fun k => if_pos o4) key2))
        rw [orielref06_rows.l0, if_pos o1, if_pos o3, rd25 hy, e3, e4, e5]
    have h := loop x.f5.length 0 [(⟨x, up, (d : Int)⟩ : S46)] (by omega) (by rw [List.take_zero, rwL_nil])
    exact Ev.step (fun k => by rw [orielref06_rows.f, ex]; rfl) h
theorem Rows_ (x : S25) (A4 A5 : Option Addr) (c4 c5 : Nat) (w : World) (hs : szL [x] ≤ 1000000) (h4 : Kd.C (Kd.int .i64) w A4 x.f4.length x.f4) (l4 : x.f4.length ≤ c4) (h5 : Kd.C k25 w A5 x.f5.length x.f5) (l5 : x.f5.length ≤ c5) :
    Calls Try.prog 12 #[.agg #[.int .i64 x.f0, .int .i64 x.f1, .int .i64 x.f2, .int .i64 x.f3, .slice A4 x.f4.length c4, .slice A5 x.f5.length c5]] w fun e w' => ∃ A c, e = .returned (.slice A (rwL [x] (-1) 1 0).length c) ∧ (rwL [x] (-1) 1 0).length ≤ c ∧ Kd.C k46 w' A (rwL [x] (-1) 1 0).length (rwL [x] (-1) 1 0) ∧ Below w.heap.size w w' := by
  have h := rows_ev _ x (Nat.lt_succ_self _) (-1) 1 0 (by omega) (by omega)
  have h2 : Ev (fun k => orielref06_Rows.f k x.f0 x.f1 x.f2 x.f3 x.f4 x.f5) (rwL [x] (-1) 1 0) := Ev.congr (fun k => rfl) (Ev.bind (f := fun _ t => some t) h (Ev.now _))
  obtain ⟨k, hk⟩ := h2.rounds
  refine (orielref06_Rows.calls k x.f0 x.f1 x.f2 x.f3 (fun k_ => k_ < w.heap.size) A4 c4 x.f4 (fun k_ => k_ < w.heap.size) A5 c5 x.f5 _ w (Kd.V_mk l4 (Kd.C_F (Kd.heap_int .i64) h4)) (Kd.V_mk l5 (Kd.C_F k25_heap h5)) hk).mono ?_
  rintro e w' ⟨v, rfl, hN, hB⟩
  obtain ⟨A', c', rfl, h1, h2⟩ := Kd.N_reads hN
  exact ⟨A', c', rfl, h1, h2, hB⟩
end Go.Proofs.Ytemdnmidhmddlaa.Tree
