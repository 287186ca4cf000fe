/- The stretches that edits leave, as plain lists: Kept as a plain function, and that they stand in both texts. Plain theorems; no condition but those of each theorem. -/
import Derived.Test.YtmgeheomokjimaaEditB
import Derived.Test.YtmgeheomokjimaaPAllx5
namespace Go.Proofs.Ytmgeheomokjimaa.EditC
open Go.RowKit Go.Proofs.YtmgeheomokjimaaW.PrintWords Go.Proofs.YtmgeheomokjimaaW.PrintLast Go.Proofs.YtmgeheomokjimaaW.PrintMore Go.Proofs.Ytmgeheomokjimaa.PAll Go.Proofs.Ytmgeheomokjimaa.Frame Go.Proofs.Ytmgeheomokjimaa.EditA Go.Proofs.Ytmgeheomokjimaa.EditB
set_option linter.unusedVariables false
set_option linter.unusedSimpArgs false

theorem rd_int (pre : List Int) (x : Int) (r : List Int) : rd (pre ++ x :: r) (pre.length : Int) = x := by
  unfold rd
  rw [List.getD_eq_getElem?_getD]
  simp
theorem rd_pair (pre : List S45) (x : S45) (r : List S45) : rd_T45 (pre ++ x :: r) (pre.length : Int) = x := by
  unfold rd_T45
  rw [List.getD_eq_getElem?_getD]
  simp
/-- The stretches left from a place on. -/
def kP (n : Int) : List S47 → Int → List S45
  | [], a => if a < n then [(⟨a, n⟩ : S45)] else []
  | x :: r, a => (if a < x.f0 then [(⟨a, x.f0⟩ : S45)] else []) ++ kP n r x.f1
/-- Where these begin, then. -/
def kT (n : Int) : List S47 → Int → Int → List Int
  | [], a, m => if a < n then [a + m] else []
  | x :: r, a, m => (if a < x.f0 then [a + m] else []) ++ kT n r x.f1 (m + (x.f2.size - (x.f1 - x.f0)))
theorem kPT_len (n : Int) (l : List S47) : ∀ a m : Int, (kP n l a).length = (kT n l a m).length := by
  induction l with
  | nil => intro a m; simp only [kP, kT]; split <;> rfl
  | cons x r ih =>
    intro a m
    simp only [kP, kT, List.length_append, ih x.f1 (m + (x.f2.size - (x.f1 - x.f0)))]
    split <;> rfl
theorem kP_len (n : Int) (l : List S47) : ∀ a : Int, (kP n l a).length ≤ l.length + 1 := by
  induction l with
  | nil => intro a; simp only [kP]; split <;> simp
  | cons x r ih =>
    intro a
    have := ih x.f1
    simp only [kP, List.length_append, List.length_cons]
    split <;> simp <;> omega
theorem keptGo_eq (n : Int) (hn : n ≤ 1000000000) (l : List S47) : ∀ (a m : Int) (out : List S45) (tl : List Int), Chain n a l → m + sumSize l ≤ 1000000000 → -a ≤ m →
    keepO (keptGo l a m out tl).2.2.1 (keptGo l a m out tl).1 n = out ++ kP n l a ∧ keepT (keptGo l a m out tl).2.2.2 (keptGo l a m out tl).1 (keptGo l a m out tl).2.1 n = tl ++ kT n l a m := by
  induction l with
  | nil =>
    intro a m out tl hc h1 h2
    have h3 := hc.le
    simp only [sumSize] at h1
    rw [show keptGo [] a m out tl = (a, m, out, tl) from rfl]
    unfold keepO keepT kP kT
    dsimp only
    rw [wrap_id (x := a + m) (by omega) (by omega)]
    by_cases c : a < n
    · rw [if_pos c, if_pos c, if_pos c, if_pos c]
      exact ⟨rfl, rfl⟩
    · rw [if_neg c, if_neg c, if_neg c, if_neg c]
      simp
  | cons x r ih =>
    intro a m out tl hc h1 h2
    obtain ⟨c0, c1, c2, c3⟩ := hc
    have c4 := c3.le
    simp only [sumSize] at h1
    have h5 := sumSize_nonneg r
    simp only [keptGo]
    rw [wrap_id (x := x.f1 - x.f0) (by omega) (by omega), wrap_id (x := (x.f2.size : Int) - (x.f1 - x.f0)) (by omega) (by omega), wrap_id (x := m + ((x.f2.size : Int) - (x.f1 - x.f0))) (by omega) (by omega)]
    have hi := ih x.f1 (m + ((x.f2.size : Int) - (x.f1 - x.f0))) (keepO out a x.f0) (keepT tl a m x.f0) c3 (by omega) (by omega)
    rw [hi.1, hi.2]
    simp only [keepO, keepT, kP, kT]
    rw [wrap_id (x := a + m) (by omega) (by omega)]
    constructor
    · split <;> simp
    · split <;> simp
theorem Kept_ev (n : Int) (hn : n ≤ 1000000000) (l : List S47) (hl : l.length ≤ 100) (hz : sumSize l ≤ 1000000000) :
    Ev (fun k => edit_Kept.f k n l) (if checkSpec n l = 0 then (kP n l 0, kT n l 0 0, 0) else ([], [], checkSpec n l)) := by
  unfold edit_Kept.f
  refine Ev.bind (Check_ev n l (by omega)) ?_
  by_cases c : checkSpec n l = 0
  · refine Ev.ite_pos c (Ev.ite_pos (by omega) (Ev.val ?_))
    rw [if_pos c]
    have := keptGo_eq n hn l 0 0 [] [] (chain_zero c) (by omega) (by omega)
    unfold keptAll
    rw [this.1, this.2]
    rfl
  · refine Ev.ite_neg c ?_
    rw [if_neg c]
    exact Ev.now _

/-- Stretches that stand in both texts, each behind the one ahead of it. -/
def Stand (S T : List UInt8) : Int → Int → List S45 → List Int → Prop
  | _, _, [], [] => True
  | last, tl, p :: ks, q :: ts => last ≤ p.f0 ∧ p.f0 < p.f1 ∧ p.f1 ≤ S.length ∧ tl ≤ q ∧ q + p.f1 - p.f0 ≤ T.length ∧ seg S p.f0 p.f1 = seg T q (q + p.f1 - p.f0) ∧ Stand S T p.f1 (q + p.f1 - p.f0) ks ts
  | _, _, _, _ => False
def sumP : List S45 → Int
  | [] => 0
  | p :: r => p.f1 - p.f0 + sumP r
theorem sumP_append (a b : List S45) : sumP (a ++ b) = sumP a + sumP b := by
  induction a with
  | nil => simp [sumP]
  | cons x r ih => simp only [List.cons_append, sumP, ih]; omega
theorem Stand.weak {S T : List UInt8} {last tl last' tl' : Int} {ks : List S45} {ts : List Int} (h : Stand S T last tl ks ts) (h1 : last' ≤ last) (h2 : tl' ≤ tl) : Stand S T last' tl' ks ts := by
  cases ks with
  | nil => cases ts with
    | nil => trivial
    | cons q ts => exact h.elim
  | cons p ks => cases ts with
    | nil => exact h.elim
    | cons q ts =>
      obtain ⟨a, b, c, d, e⟩ := h
      exact ⟨by omega, b, c, by omega, e⟩
theorem Stand.opt {S T : List UInt8} {a e m : Int} {ks : List S45} {ts : List Int} (h : Stand S T e (e + m) ks ts) (he : a ≤ e) (hS : e ≤ S.length) (hT : e + m ≤ T.length) (hs : a < e → seg S a e = seg T (a + m) (e + m)) :
    Stand S T a (a + m) ((if a < e then [(⟨a, e⟩ : S45)] else []) ++ ks) ((if a < e then [a + m] else []) ++ ts) := by
  by_cases c : a < e
  · rw [if_pos c, if_pos c]
    refine ⟨Int.le_refl _, c, hS, Int.le_refl _, ?_, ?_, ?_⟩
    · dsimp only; omega
    · dsimp only
      rw [show a + m + e - a = e + m by omega]
      exact hs c
    · dsimp only
      rw [show a + m + e - a = e + m by omega]
      exact h
  · rw [if_neg c, if_neg c]
    exact h.weak (by omega) (by omega)
theorem stand_of (s : ByteArray) (l : List S47) : ∀ (a m : Int) (pre T : List UInt8), Chain s.size a l → T = pre ++ app (bs s) l a → (pre.length : Int) = a + m →
    Stand (bs s) T a (a + m) (kP s.size l a) (kT s.size l a m) ∧ (T.length : Int) = pre.length + sumP (kP s.size l a) + sumSize l := by
  induction l with
  | nil =>
    intro a m pre T hc hT hp
    have h := hc.le
    have hTl : (T.length : Int) = s.size + m := by rw [hT]; simp only [app, List.length_append, List.length_drop, bs_len]; omega
    constructor
    · simp only [kP, kT]
      have h0 : Stand (bs s) T (s.size : Int) ((s.size : Int) + m) [] [] := trivial
      have := h0.opt (a := a) (by omega) (by rw [bs_len]; omega) (by omega) (fun c => ?_)
      · simpa using this
      · unfold seg
        rw [hT, show (a + m).toNat = pre.length by omega, List.drop_left]
        simp only [app]
        rw [show ((s.size : Int) + m).toNat - pre.length = (s.size : Int).toNat - a.toNat by omega]
    · rw [hTl]
      simp only [kP, sumSize]
      split
      · simp only [sumP]; omega
      · simp only [sumP]; omega
  | cons x r ih =>
    intro a m pre T hc hT hp
    obtain ⟨h0, h1, h2, h3⟩ := hc
    have h4 := h3.le
    have hsl : (seg (bs s) a x.f0).length = x.f0.toNat - a.toNat := seg_len _ _ _ (by rw [bs_len]; omega)
    have hi := ih x.f1 (m + (x.f2.size - (x.f1 - x.f0))) (pre ++ seg (bs s) a x.f0 ++ bs x.f2) T h3 (by rw [hT]; simp [app, List.append_assoc]) (by
      rw [List.length_append, List.length_append, hsl, bs_len]
      omega)
    have hTl : T.length = pre.length + (x.f0.toNat - a.toNat) + x.f2.size + (app (bs s) r x.f1).length := by
      rw [hT]
      simp only [app, List.length_append, hsl, bs_len]
      omega
    constructor
    · simp only [kP, kT]
      refine (hi.1.weak h2 (tl' := x.f0 + m) (by omega)).opt h1 (by rw [bs_len]; omega) (by omega) (fun c => ?_)
      unfold seg
      rw [hT, show (a + m).toNat = pre.length by omega, List.drop_left]
      simp only [app]
      rw [List.append_assoc, show (x.f0 + m).toNat - pre.length = (seg (bs s) a x.f0).length by omega, List.take_left]
      rfl
    · rw [hi.2]
      simp only [kP, sumP_append, sumSize, List.length_append, hsl, bs_len]
      split
      · simp only [sumP]; omega
      · simp only [sumP]; omega
end Go.Proofs.Ytmgeheomokjimaa.EditC
