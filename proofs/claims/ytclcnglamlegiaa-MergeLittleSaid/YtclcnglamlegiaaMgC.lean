/- What steps come to: the files behind them, the least stretches in which texts differ, merge.Net as a plain function. Plain theorems; no condition but those of each theorem. -/
import Derived.Test.YtclcnglamlegiaaMgB
import Derived.Test.YtclcnglamlegiaaPMLx13
namespace Go.Proofs.Ytclcnglamlegiaa.Mg
open Go Go.RowKit Go.Proofs.YtclcnglamlegiaaW.PrintWords Go.Proofs.YtclcnglamlegiaaW.PrintLast Go.Proofs.YtclcnglamlegiaaW.PrintMore Go.Proofs.Ytclcnglamlegiaa.PML
open Go.Proofs.Ytclcnglamlegiaa.Trial (ofl eof)
set_option linter.unusedVariables false
set_option linter.unusedSimpArgs false
/-! ### the files behind each step -/
def eachS : List S36 → List (List S34) → Nat → List S36 × Int × Int × Int × Int
  | a, [], _ => (a, 0, 0, 0, 0)
  | a, L :: r, i => if okT (fault a L) then eachS (edA L 0 a) r (i + 1) else ([], (i : Int), fault a L)
def txts (s : List (List S34)) : Int := (s.map txt).sum
theorem txts_cons (L : List S34) (r : List (List S34)) : txts (L :: r) = txt L + txts r := by simp [txts]
theorem txts_nonneg : ∀ s : List (List S34), 0 ≤ txts s
  | [] => Int.le_refl _
  | L :: r => by
    have := txts_nonneg r
    have := txt_nonneg L
    rw [txts_cons]
    omega
theorem rdL4 (pre : List (List S34)) (x : List S34) (r : List (List S34)) : rd_L4 (pre ++ x :: r) (pre.length : Int) = x := by
  unfold rd_L4
  rw [List.getD_eq_getElem?_getD]
  simp
theorem each_l0 (s : List (List S34)) (hs : s.length ≤ 1000000) (hL : ∀ L ∈ s, L.length ≤ 1000000) : ∀ (r pre : List (List S34)) (a : List S36) (n : Int), s = pre ++ r → fits n a → n + txts r ≤ 1000000000 →
    Ev (fun k => merge_each.l0 k a s (s.length : Int) (pre.length : Int)) (eachS a r pre.length) := by
  intro r
  induction r with
  | nil =>
    intro pre a n he hf hn
    have q : ¬ ((pre.length : Int) < (s.length : Int)) := by rw [he]; simp
    exact Ev.step (f := fun _ => some (a, 0, 0, 0, 0)) (fun k => by rw [merge_each.l0, if_neg q]) (Ev.now _)
  | cons L r ih =>
    intro pre a n he hf hn
    have hlen : s.length = pre.length + 1 + r.length := by rw [he]; simp only [List.length_append, List.length_cons]; omega
    have q1 : (pre.length : Int) < (s.length : Int) := by omega
    have q2 : (0 : Int) ≤ (pre.length : Int) := Int.natCast_nonneg _
    have e : rd_L4 s (pre.length : Int) = L := by rw [he]; exact rdL4 pre L r
    rw [txts_cons] at hn
    have h1 := txts_nonneg r
    have hap := Apply_ev' a L (hL L (by rw [he]; simp)) n hf (by omega)
    refine Ev.step (f := fun k => (trial_Apply.f k a L).bind fun bt116 => (if (!(bt116.2.1 == 0) || (!(bt116.2.2.1 == 0) || (!(bt116.2.2.2 == 0)))) = true then (some (([] : List (S36)), (pre.length : Int), bt116.2.1, bt116.2.2.1, bt116.2.2.2)) else ((merge_Net_1.f a L).bind fun _ => (merge_each.l0 k bt116.1 s (s.length : Int) (wrap64 ((pre.length : Int) + 1)))))) (fun k => by rw [merge_each.l0, if_pos q1, if_pos q2, if_pos q1, e]) ?_
    refine Ev.bind (f := fun k t => _) hap ?_
    unfold eachS
    by_cases c : okT (fault a L)
    · rw [if_pos c, if_pos c]
      refine Ev.ite_neg (show ¬ ((!((0 : Int) == 0) || (!((0 : Int) == 0) || (!((0 : Int) == 0)))) = true) by decide) ?_
      have hi := ih (pre ++ [L]) (edA L 0 a) (n + txt L) (by rw [he]; simp) (edA_fits a L n c hf) (by omega)
      rw [List.length_append] at hi
      rw [wsucc pre.length (by omega)]
      exact hi
    · rw [if_neg c, if_neg c]
      refine Ev.ite_pos ?_ (Ev.now _)
      have e : ((fault a L).1 == 0) = false := beq_eq_false_iff_ne.mpr (fault_ne a L c)
      show (!((fault a L).1 == 0) || _) = true
      rw [e]
      rfl
theorem each_ev (a : List S36) (s : List (List S34)) (hs : s.length ≤ 1000000) (hL : ∀ L ∈ s, L.length ≤ 1000000) (n : Int) (hf : fits n a) (hn : n + txts s ≤ 1000000000) : Ev (fun k => merge_each.f k a s) (eachS a s 0) :=
  each_l0 s hs hL s [] a n rfl hf hn
/-- Behind steps that are all right: as many files, each as small as the texts let it be. -/
theorem eachS_ok : ∀ (s : List (List S34)) (a : List S36) (i : Nat) (n : Int), fits n a → okT (eachS a s i).2.2 → (eachS a s i).1.length = a.length ∧ fits (n + txts s) (eachS a s i).1 ∧ (eachS a s i).2.1 = 0
  | [], a, i, n, hf, h => ⟨rfl, by rw [show txts [] = 0 from rfl, Int.add_zero]; exact hf, rfl⟩
  | L :: r, a, i, n, hf, h => by
    unfold eachS at h ⊢
    by_cases c : okT (fault a L)
    · rw [if_pos c] at h ⊢
      obtain ⟨h1, h2, h3⟩ := eachS_ok r (edA L 0 a) (i + 1) (n + txt L) (edA_fits a L n c hf) h
      rw [edA_len] at h1
      rw [txts_cons, ← Int.add_assoc]
      exact ⟨h1, h2, h3⟩
    · rw [if_neg c] at h
      exact absurd h c
theorem eachS_bad : ∀ (s : List (List S34)) (a : List S36) (i : Nat), ¬ okT (eachS a s i).2.2 → (eachS a s i).1 = [] ∧ (eachS a s i).2.2.1 ≠ 0
  | [], a, i, h => absurd rfl h
  | L :: r, a, i, h => by
    unfold eachS at h ⊢
    by_cases c : okT (fault a L)
    · rw [if_pos c] at h ⊢
      exact eachS_bad r (edA L 0 a) (i + 1) h
    · rw [if_neg c] at h ⊢
      exact ⟨rfl, fault_ne a L c⟩
/-! ### texts that begin, and end, alike -/
def lcp : List UInt8 → List UInt8 → Nat
  | x :: s, y :: t => if x = y then lcp s t + 1 else 0
  | _, _ => 0
theorem lcp_nl (t : List UInt8) : lcp [] t = 0 := by cases t <;> rfl
theorem lcp_nr (s : List UInt8) : lcp s [] = 0 := by cases s <;> rfl
theorem lcp_le : ∀ s t : List UInt8, lcp s t ≤ s.length ∧ lcp s t ≤ t.length
  | [], t => by simp [lcp]
  | _ :: _, [] => by simp [lcp]
  | x :: s, y :: t => by
    unfold lcp
    have := lcp_le s t
    split <;> simp only [List.length_cons] <;> omega
theorem lcp_take : ∀ s t : List UInt8, s.take (lcp s t) = t.take (lcp s t)
  | [], t => by simp [lcp]
  | _ :: _, [] => by simp [lcp]
  | x :: s, y :: t => by
    unfold lcp
    by_cases c : x = y
    · rw [if_pos c, List.take_succ_cons, List.take_succ_cons, c, lcp_take s t]
    · rw [if_neg c]; simp
theorem lcp_next : ∀ s t : List UInt8, lcp s t < s.length → lcp s t < t.length → s[lcp s t]? ≠ t[lcp s t]?
  | [], t, h, _ => by simp at h
  | _ :: _, [], _, h => by simp at h
  | x :: s, y :: t, h1, h2 => by
    unfold lcp at h1 h2 ⊢
    by_cases c : x = y
    · rw [if_pos c] at h1 h2 ⊢
      simp only [List.getElem?_cons_succ]
      exact lcp_next s t (by simpa using h1) (by simpa using h2)
    · rw [if_neg c]
      simpa using c
theorem lcp_drop : ∀ (s t : List UInt8) (n : Nat), n < lcp s t → s[n]? = t[n]?
  | [], t, n, h => by simp [lcp] at h
  | _ :: _, [], n, h => by simp [lcp] at h
  | x :: s, y :: t, n, h => by
    unfold lcp at h
    by_cases c : x = y
    · rw [if_pos c] at h
      cases n with
      | zero => simp [c]
      | succ n => simp only [List.getElem?_cons_succ]; exact lcp_drop s t n (by omega)
    · rw [if_neg c] at h
      omega
/-- From a place on at which two texts agree so far, the rest agrees as far as told. -/
theorem lcp_from : ∀ (s t : List UInt8) (n : Nat), n ≤ lcp s t → lcp (s.drop n) (t.drop n) = lcp s t - n
  | s, t, 0, _ => by simp
  | [], t, n + 1, h => by simp [lcp] at h
  | _ :: _, [], n + 1, h => by simp [lcp] at h
  | x :: s, y :: t, n + 1, h => by
    unfold lcp at h
    by_cases c : x = y
    · rw [if_pos c] at h
      rw [List.drop_succ_cons, List.drop_succ_cons, lcp_from s t n (by omega), lcp, if_pos c]
      omega
    · rw [if_neg c] at h
      omega
theorem bt_get (s : ByteArray) (i : Nat) (h : i < s.size) : bt s (i : Int) = (((bs s)[i]'(by rw [bs_len]; exact h)).toNat : Int) := by
  unfold bt
  rw [dif_pos (by simpa using h)]
  rfl
theorem bt_drop (s : ByteArray) (i : Nat) (c : UInt8) (r : List UInt8) (he : (bs s).drop i = c :: r) : i < s.size ∧ bt s (i : Int) = (c.toNat : Int) := by
  have h : i < (bs s).length := by
    have := congrArg List.length he
    rw [List.length_drop, List.length_cons] at this
    omega
  have h2 := List.drop_eq_getElem_cons h
  rw [he] at h2
  injection h2 with h3 _
  rw [bs_len] at h
  refine ⟨h, ?_⟩
  rw [bt_get s i h, ← h3]
theorem bt_back (s : ByteArray) (i : Nat) (c : UInt8) (r : List UInt8) (he : (bs s).reverse.drop i = c :: r) : i < s.size ∧ bt s ((s.size : Int) - 1 - (i : Int)) = (c.toNat : Int) := by
  have h : i < (bs s).reverse.length := by
    have := congrArg List.length he
    rw [List.length_drop, List.length_cons] at this
    omega
  have h2 := List.drop_eq_getElem_cons h
  rw [he] at h2
  injection h2 with h3 _
  rw [List.getElem_reverse] at h3
  rw [List.length_reverse, bs_len] at h
  refine ⟨h, ?_⟩
  have e : (s.size : Int) - 1 - (i : Int) = ((s.size - 1 - i : Nat) : Int) := by omega
  rw [e, bt_get s (s.size - 1 - i) (by omega), h3]
  congr 3
theorem u8 {x y : UInt8} : ((x.toNat : Int) = (y.toNat : Int)) ↔ x = y := by
  rw [Int.ofNat_inj]
  exact UInt8.toNat_inj
theorem drop_next {α : Type} {l : List α} {n : Nat} {x : α} {r : List α} (h : l.drop n = x :: r) : l.drop (n + 1) = r := by rw [← List.drop_drop, h]; rfl
theorem ahead_l0 (s t : ByteArray) (hs : s.size ≤ 1000000000) : ∀ (u v : List UInt8) (n : Nat), (bs s).drop n = u → (bs t).drop n = v → Ev (fun k => merge_ahead.l0 k s t (n : Int)) ((n + lcp u v : Nat) : Int) := by
  intro u
  induction u with
  | nil =>
    intro v n h1 h2
    have h := List.drop_eq_nil_iff.mp h1
    rw [bs_len] at h
    have q : ¬ ((n : Int) < (s.size : Int)) := by omega
    refine Ev.step (f := fun k => merge_ahead.j1 k s t (n : Int) false) (fun k => by rw [merge_ahead.l0, if_neg q]) ?_
    exact Ev.step (f := fun _ => some (n : Int)) (fun k => by rw [merge_ahead.j1, if_neg (by decide)]) (by rw [lcp_nl]; exact Ev.now _)
  | cons x u ih =>
    intro v n h1 h2
    obtain ⟨g1, g2⟩ := bt_drop s n x u h1
    have q : (n : Int) < (s.size : Int) := by omega
    cases v with
    | nil =>
      have h := List.drop_eq_nil_iff.mp h2
      rw [bs_len] at h
      have q2 : decide ((n : Int) < (t.size : Int)) = false := decide_eq_false (by omega)
      refine Ev.step (f := fun k => merge_ahead.j1 k s t (n : Int) false) (fun k => by rw [merge_ahead.l0, if_pos q, q2]) ?_
      exact Ev.step (f := fun _ => some (n : Int)) (fun k => by rw [merge_ahead.j1, if_neg (by decide)]) (by rw [lcp_nr]; exact Ev.now _)
    | cons y v =>
      obtain ⟨g3, g4⟩ := bt_drop t n y v h2
      have q2 : (n : Int) < (t.size : Int) := by omega
      refine Ev.step (f := fun k => merge_ahead.j1 k s t (n : Int) true) (fun k => by rw [merge_ahead.l0, if_pos q, decide_eq_true q2]) ?_
      by_cases c : x = y
      · have e : n + lcp (x :: u) (y :: v) = n + 1 + lcp u v := by rw [lcp, if_pos c]; omega
        rw [e]
        refine Ev.step (fun k => ?_) (ih v (n + 1) (drop_next h1) (drop_next h2))
        rw [merge_ahead.j1, if_pos rfl, if_pos (Int.natCast_nonneg n), if_pos q, if_pos q2, g2, g4, if_pos (u8.mpr c), wsucc n (by omega)]
      · have e : n + lcp (x :: u) (y :: v) = n := by rw [lcp, if_neg c, Nat.add_zero]
        rw [e]
        refine Ev.step (f := fun _ => some (n : Int)) (fun k => ?_) (Ev.now _)
        rw [merge_ahead.j1, if_pos rfl, if_pos (Int.natCast_nonneg n), if_pos q, if_pos q2, g2, g4, if_neg (fun h => c (u8.mp h))]
theorem ahead_ev (s t : ByteArray) (hs : s.size ≤ 1000000000) : Ev (fun k => merge_ahead.f k s t) ((lcp (bs s) (bs t) : Nat) : Int) := by
  have := ahead_l0 s t hs (bs s) (bs t) 0 rfl rfl
  rw [Nat.zero_add] at this
  exact this
theorem behind_l0 (s t : ByteArray) (hs : s.size ≤ 1000000000) (ht : t.size ≤ 1000000000) : ∀ (u v : List UInt8) (n : Nat), (bs s).reverse.drop n = u → (bs t).reverse.drop n = v → Ev (fun k => merge_behind.l0 k s t (n : Int)) ((n + lcp u v : Nat) : Int) := by
  intro u
  induction u with
  | nil =>
    intro v n h1 h2
    have h := List.drop_eq_nil_iff.mp h1
    rw [List.length_reverse, bs_len] at h
    have q : ¬ ((n : Int) < (s.size : Int)) := by omega
    exact Ev.step (f := fun _ => some (n : Int)) (fun k => by rw [merge_behind.l0, if_neg q]) (by rw [lcp_nl]; exact Ev.now _)
  | cons x u ih =>
    intro v n h1 h2
    obtain ⟨g1, g2⟩ := bt_back s n x u h1
    have q : (n : Int) < (s.size : Int) := by omega
    cases v with
    | nil =>
      have h := List.drop_eq_nil_iff.mp h2
      rw [List.length_reverse, bs_len] at h
      have q2 : ¬ ((n : Int) < (t.size : Int)) := by omega
      exact Ev.step (f := fun _ => some (n : Int)) (fun k => by rw [merge_behind.l0, if_pos q, if_neg q2]) (by rw [lcp_nr]; exact Ev.now _)
    | cons y v =>
      obtain ⟨g3, g4⟩ := bt_back t n y v h2
      have q2 : (n : Int) < (t.size : Int) := by omega
      have w1 : wrap64 ((s.size : Int) - 1) = (s.size : Int) - 1 := wid (by omega) (by omega)
      have w2 : wrap64 ((s.size : Int) - 1 - (n : Int)) = (s.size : Int) - 1 - (n : Int) := wid (by omega) (by omega)
      have w3 : wrap64 ((t.size : Int) - 1) = (t.size : Int) - 1 := wid (by omega) (by omega)
      have w4 : wrap64 ((t.size : Int) - 1 - (n : Int)) = (t.size : Int) - 1 - (n : Int) := wid (by omega) (by omega)
      have q3 : 0 ≤ (s.size : Int) - 1 - (n : Int) := by omega
      have q4 : (s.size : Int) - 1 - (n : Int) < (s.size : Int) := by omega
      have q5 : 0 ≤ (t.size : Int) - 1 - (n : Int) := by omega
      have q6 : (t.size : Int) - 1 - (n : Int) < (t.size : Int) := by omega
      by_cases c : x = y
      · have e : n + lcp (x :: u) (y :: v) = n + 1 + lcp u v := by rw [lcp, if_pos c]; omega
        rw [e]
        refine Ev.step (fun k => ?_) (ih v (n + 1) (drop_next h1) (drop_next h2))
        rw [merge_behind.l0, w1, w2, w3, w4, if_pos q, if_pos q2, if_pos q3, if_pos q4, if_pos q5, if_pos q6, g2, g4, if_pos (u8.mpr c), wsucc n (by omega)]
      · have e : n + lcp (x :: u) (y :: v) = n := by rw [lcp, if_neg c, Nat.add_zero]
        rw [e]
        refine Ev.step (f := fun _ => some (n : Int)) (fun k => ?_) (Ev.now _)
        rw [merge_behind.l0, w1, w2, w3, w4, if_pos q, if_pos q2, if_pos q3, if_pos q4, if_pos q5, if_pos q6, g2, g4, if_neg (fun h => c (u8.mp h))]
theorem behind_ev (s t : ByteArray) (hs : s.size ≤ 1000000000) (ht : t.size ≤ 1000000000) : Ev (fun k => merge_behind.f k s t) ((lcp (bs s).reverse (bs t).reverse : Nat) : Int) := by
  have := behind_l0 s t hs ht (bs s).reverse (bs t).reverse 0 rfl rfl
  rw [Nat.zero_add] at this
  exact this
/-! ### the least stretch -/
def pre (s t : ByteArray) : Nat := lcp (bs s) (bs t)
def suf (s t : ByteArray) : Nat := lcp ((bs s).drop (pre s t)).reverse ((bs t).drop (pre s t)).reverse
theorem pre_le (s t : ByteArray) : pre s t ≤ s.size ∧ pre s t ≤ t.size := by
  have := lcp_le (bs s) (bs t)
  rw [bs_len, bs_len] at this
  exact this
theorem suf_le (s t : ByteArray) : pre s t + suf s t ≤ s.size ∧ pre s t + suf s t ≤ t.size := by
  have h := lcp_le ((bs s).drop (pre s t)).reverse ((bs t).drop (pre s t)).reverse
  rw [List.length_reverse, List.length_reverse, List.length_drop, List.length_drop, bs_len, bs_len] at h
  have := pre_le s t
  unfold suf
  omega
theorem bs_from (s : ByteArray) (n : Nat) (h : n ≤ s.size) : bs (s.extract n s.size) = (bs s).drop n := by
  have := bs_extract s (n : Int) (s.size : Int) (by simp)
  rw [Int.toNat_natCast, Int.toNat_natCast] at this
  rw [this]
  unfold seg
  rw [Int.toNat_natCast, Int.toNat_natCast]
  exact List.take_of_length_le (by rw [List.length_drop, bs_len]; exact Nat.le_refl _)
theorem bs_mid (s : ByteArray) (n m : Nat) (h : m ≤ s.size) : bs (s.extract n m) = ((bs s).drop n).take (m - n) := by
  have := bs_extract s (n : Int) (m : Int) (by simpa using h)
  rw [Int.toNat_natCast, Int.toNat_natCast] at this
  rw [this]
  unfold seg
  rw [Int.toNat_natCast, Int.toNat_natCast]
theorem toList_inj {s t : ByteArray} : s.toList = t.toList ↔ s = t :=
  ⟨fun h => bs_inj (by rw [toList_eq, toList_eq] at h; exact h), fun h => h ▸ rfl⟩
def mid (s t : ByteArray) : ByteArray := t.extract (pre s t) (t.size - suf s t)
def tightS (s t : ByteArray) : Int × Int × ByteArray × Bool :=
  if s = t then (0, 0, (⟨#[]⟩ : ByteArray), false) else ((pre s t : Int), ((s.size - suf s t : Nat) : Int), mid s t, true)
theorem tight_ev (s t : ByteArray) (hs : s.size ≤ 1000000000) (ht : t.size ≤ 1000000000) : Ev (fun k => merge_tight.f k s t) (tightS s t) := by
  unfold merge_tight.f tightS
  by_cases c : s = t
  · rw [if_pos c]
    exact Ev.ite_pos (toList_inj.mpr c) (Ev.now _)
  · rw [if_neg c]
    refine Ev.ite_neg (fun h => c (toList_inj.mp h)) ?_
    refine Ev.bind (f := fun k t => _) (ahead_ev s t hs) ?_
    have p1 := pre_le s t
    have p2 := suf_le s t
    have q1 : ((lcp (bs s) (bs t) : Nat) : Int) ≤ (s.size : Int) := by have := p1.1; unfold pre at this; omega
    have q2 : ((lcp (bs s) (bs t) : Nat) : Int) ≤ (t.size : Int) := by have := p1.2; unfold pre at this; omega
    refine Ev.ite_pos (Int.natCast_nonneg _) (Ev.ite_pos q1 (Ev.ite_pos q2 ?_))
    rw [Int.toNat_natCast]
    change Ev (fun n => (merge_behind.f n (s.extract (pre s t) s.size) (t.extract (pre s t) t.size)).bind fun t125 => _) _
    have hb := behind_ev (s.extract (pre s t) s.size) (t.extract (pre s t) t.size) (by rw [← bs_len, bs_from s _ p1.1, List.length_drop, bs_len]; omega) (by rw [← bs_len, bs_from t _ p1.2, List.length_drop, bs_len]; omega)
    rw [bs_from s _ p1.1, bs_from t _ p1.2] at hb
    refine Ev.bind (f := fun k t => _) hb ?_
    change Ev (fun n => if ((pre s t : Nat) : Int) ≤ wrap64 ((t.size : Int) - ((suf s t : Nat) : Int)) then (if wrap64 ((t.size : Int) - ((suf s t : Nat) : Int)) ≤ (t.size : Int) then some (((pre s t : Nat) : Int), wrap64 ((s.size : Int) - ((suf s t : Nat) : Int)), t.extract (pre s t) (wrap64 ((t.size : Int) - ((suf s t : Nat) : Int))).toNat, true) else none) else none) _
    have w1 : wrap64 ((t.size : Int) - ((suf s t : Nat) : Int)) = ((t.size - suf s t : Nat) : Int) := by rw [wid (by omega) (by omega)]; omega
    have w2 : wrap64 ((s.size : Int) - ((suf s t : Nat) : Int)) = ((s.size - suf s t : Nat) : Int) := by rw [wid (by omega) (by omega)]; omega
    rw [w1, w2, Int.toNat_natCast]
    exact Ev.ite_pos (by omega) (Ev.ite_pos (by omega) (Ev.now _))
/-! ### merge.Net -/
def tch (i : Nat) (s t : ByteArray) : S34 := ⟨(i : Int), (pre s t : Int), ((s.size - suf s t : Nat) : Int), mid s t⟩
def netS : Nat → List S36 → List S36 → List S34
  | i, x :: a, y :: b => if x.f1 = y.f1 then netS (i + 1) a b else tch i x.f1 y.f1 :: netS (i + 1) a b
  | _, _, _ => []
theorem check_one (n : Int) (e : S58) (h : okE n e) : checkSpec n [e] = 0 := by
  have h2 : allOk n [e] = true := by
    unfold allOk
    rw [decide_eq_true h]
    rfl
  have h3 : 0 ≤ n := by
    unfold okE at h
    omega
  unfold checkSpec
  rw [if_pos ⟨h2, h3⟩, if_pos (show apart [e] = true from rfl)]
theorem Net_l0 (a last : List S36) (ha : a.length ≤ 1000000) (hsa : ∀ x ∈ a, x.f1.size ≤ 1000000000) (hsl : ∀ x ∈ last, x.f1.size ≤ 1000000000) : ∀ (xs ys p q : List S36) (out : List S34), a = p ++ xs → last = q ++ ys → p.length = q.length → xs.length = ys.length → out.length ≤ p.length →
    Ev (fun k => merge_Net.l0 k last out a (a.length : Int) (p.length : Int)) (out ++ netS p.length xs ys, 0, 0, 0, 0) := by
  intro xs
  induction xs with
  | nil =>
    intro ys p q out h1 h2 h3 h4 h5
    have c : ¬ ((p.length : Int) < (a.length : Int)) := by rw [h1]; simp
    refine Ev.step (f := fun _ => some (out, 0, 0, 0, 0)) (fun k => by rw [merge_Net.l0, if_neg c]) ?_
    have e : netS p.length [] ys = [] := by cases ys <;> rfl
    rw [e, List.append_nil]
    exact Ev.now _
  | cons x xs ih =>
    intro ys p q out h1 h2 h3 h4 h5
    cases ys with
    | nil => simp at h4
    | cons y ys =>
      have hlen : a.length = p.length + 1 + xs.length := by rw [h1]; simp only [List.length_append, List.length_cons]; omega
      have hlen2 : last.length = q.length + 1 + ys.length := by rw [h2]; simp only [List.length_append, List.length_cons]; omega
      have q1 : (p.length : Int) < (a.length : Int) := by omega
      have q2 : (0 : Int) ≤ (p.length : Int) := Int.natCast_nonneg _
      have q3 : (p.length : Int) < (last.length : Int) := by omega
      have e1 : rd_T36 a (p.length : Int) = x := by rw [h1]; exact rd36 p x xs
      have e2 : rd_T36 last (p.length : Int) = y := by rw [h2, h3]; exact rd36 q y ys
      have s1 := hsa x (by rw [h1]; simp)
      have s2 := hsl y (by rw [h2]; simp)
      refine Ev.step (f := fun k => (merge_tight.f k x.f1 y.f1).bind fun bt138 => (if bt138.2.2.2 = true then ((edit_Check.f k ((x.f1).size : Int) (([(⟨bt138.1, bt138.2.1, bt138.2.2.1⟩ : S58)] : List (S58)))).bind fun t146 => (if t146 = 0 then (if out.length < 3518437208883 then (merge_Net.l0 k last (out ++ [(⟨(p.length : Int), bt138.1, bt138.2.1, bt138.2.2.1⟩ : S34)]) a (a.length : Int) (wrap64 ((p.length : Int) + 1))) else (none)) else (merge_Net.l0 k last out a (a.length : Int) (wrap64 ((p.length : Int) + 1))))) else (merge_Net.l0 k last out a (a.length : Int) (wrap64 ((p.length : Int) + 1))))) (fun k => by rw [merge_Net.l0, if_pos q1, if_pos q2, if_pos q1, if_pos q3, e1, e2]) ?_
      refine Ev.bind (f := fun k t => _) (tight_ev x.f1 y.f1 s1 s2) ?_
      rw [wsucc p.length (by omega)]
      unfold tightS netS
      by_cases c : x.f1 = y.f1
      · rw [if_pos c, if_pos c]
        refine Ev.ite_neg (by decide) ?_
        have := ih ys (p ++ [x]) (q ++ [y]) out (by rw [h1, app36]) (by rw [h2, app36]) (by simp [h3]) (by simpa using h4) (by simp; omega)
        rw [List.length_append] at this
        exact this
      · rw [if_neg c, if_neg c]
        refine Ev.ite_pos rfl ?_
        have p1 := suf_le x.f1 y.f1
        have hk := Check_ev (x.f1.size : Int) [(⟨(pre x.f1 y.f1 : Int), ((x.f1.size - suf x.f1 y.f1 : Nat) : Int), mid x.f1 y.f1⟩ : S58)] (by simp)
        rw [check_one _ _ ⟨Int.natCast_nonneg _, by show ((pre x.f1 y.f1 : Nat) : Int) ≤ ((x.f1.size - suf x.f1 y.f1 : Nat) : Int); omega, by show ((x.f1.size - suf x.f1 y.f1 : Nat) : Int) ≤ _; omega⟩] at hk
        refine Ev.bind (f := fun k t => _) hk (Ev.ite_pos rfl (Ev.ite_pos (by omega) ?_))
        have := ih ys (p ++ [x]) (q ++ [y]) (out ++ [tch p.length x.f1 y.f1]) (by rw [h1, app36]) (by rw [h2, app36]) (by simp [h3]) (by simpa using h4) (by simp; omega)
        rw [List.length_append, List.append_assoc] at this
        exact this
theorem Net_ev (a : List S36) (s : List (List S34)) (hs : s.length ≤ 1000000) (hL : ∀ L ∈ s, L.length ≤ 1000000) (n : Int) (hf : fits n a) (hn : n + txts s ≤ 1000000000) :
    Ev (fun k => merge_Net.f k a s) (if okT (eachS a s 0).2.2 then (netS 0 a (eachS a s 0).1, 0, 0, 0, 0) else ([], (eachS a s 0).2.1, (eachS a s 0).2.2)) := by
  unfold merge_Net.f
  refine Ev.bind (f := fun k t => _) (each_ev a s hs hL n hf hn) ?_
  by_cases c : okT (eachS a s 0).2.2
  · rw [if_pos c]
    obtain ⟨h1, h2, h3⟩ := eachS_ok s a 0 n hf c
    have c' : (eachS a s 0).2.2 = (0, 0, 0) := c
    rw [c']
    refine Ev.ite_neg (by decide) ?_
    have h0 := txts_nonneg s
    have := Net_l0 a (eachS a s 0).1 (by have := hf.1; omega) (fun x hx => by have := hf.2 x hx; omega) (fun x hx => by have := h2.2 x hx; omega) a (eachS a s 0).1 [] [] [] rfl rfl rfl h1.symm (Nat.le_refl _)
    exact this
  · rw [if_neg c]
    refine Ev.ite_pos ?_ (Ev.now _)
    have e : ((eachS a s 0).2.2.1 == 0) = false := beq_eq_false_iff_ne.mpr (eachS_bad s a 0 c).2
    rw [e]
    rfl
end Go.Proofs.Ytclcnglamlegiaa.Mg
