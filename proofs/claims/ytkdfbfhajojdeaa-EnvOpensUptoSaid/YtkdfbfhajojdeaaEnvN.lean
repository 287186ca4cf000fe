/- orielref11.Visible keeps what is bound. Conditions: as the theorems say. -/
import Derived.Test.YtkdfbfhajojdeaaEnvM
import Derived.Test.YtkdfbfhajojdeaaPOPx4
namespace Go.Proofs.Ytkdfbfhajojdeaa.Env
open Go Go.RowKit Go.Proofs.YtkdfbfhajojdeaaW.PrintWords Go.Proofs.YtkdfbfhajojdeaaW.PrintLast Go.Proofs.YtkdfbfhajojdeaaW.PrintMore Go.Proofs.Ytkdfbfhajojdeaa.POP
set_option linter.unusedVariables false
set_option linter.unusedSimpArgs false
theorem selS_app : ∀ (a b d : List S26), selS d (a ++ b) = selS d a ++ selS (d ++ a) b
  | [], b, d => by rw [List.nil_append, List.append_nil]; rfl
  | x :: a, b, d => by
    have h := selS_app a b (d ++ [x])
    rw [List.append_assoc] at h
    rw [List.cons_append, selS, selS]
    by_cases c : (!(d.any (fun y => keyEq (K26 y) (K26 x)))) = true
    · rw [if_pos c, if_pos c, h]
      rfl
    · rw [if_neg c, if_neg c, h]
      rfl
theorem selS_len : ∀ (d l : List S26), (selS d l).length ≤ l.length
  | _, [] => Nat.le_refl _
  | d, x :: r => by
    have := selS_len (d ++ [x]) r
    rw [selS]
    by_cases c : (!(d.any (fun y => keyEq (K26 y) (K26 x)))) = true
    · rw [if_pos c, List.length_cons, List.length_cons]
      omega
    · rw [if_neg c, List.length_cons]
      omega
def visR : List S26 → List S26
  | [] => []
  | x :: r => if r.any (fun y => keyEq (K26 y) (K26 x)) = true then visR r else x :: visR r
theorem visS_eq : ∀ l : List S26, visS l = visR l
  | [] => rfl
  | x :: r => by
    have h := visS_eq r
    unfold visS at h ⊢
    rw [List.reverse_cons, selS_app, List.nil_append, List.reverse_append, h, visR, selS, List.any_reverse]
    cases r.any (fun y => keyEq (K26 y) (K26 x)) <;> rfl
def lastS (k : S28) (l : List S26) : Nat → Int
  | 0 => -1
  | j + 1 => if keyEq (K26 (l.getD j z26)) k = true then (j : Int) else lastS k l j
theorem lastS_le (k : S28) (l : List S26) : ∀ j, lastS k l j < (j : Int)
  | 0 => by rw [lastS]; decide
  | j + 1 => by
    have := lastS_le k l j
    rw [lastS]
    by_cases c : keyEq (K26 (l.getD j z26)) k = true
    · rw [if_pos c]
      omega
    · rw [if_neg c]
      omega
theorem keyIff (x : S26) (k : S28) : keyEq (K26 x) k = true ↔ (x.f0 = k.f0 ∧ x.f1.toList = k.f1.toList) := by
  unfold keyEq K26
  rw [Bool.and_eq_true, beq_iff_eq, beq_iff_eq]
theorem find_ev (l : List S26) (k : S28) (hl : l.length ≤ 1599289640400) : ∀ j, j ≤ l.length → Ev (fun n => orielref11_Find.l0 n l k.f0 k.f1 ((j : Int) - 1)) (lastS k l j)
  | 0, _ => Ev.step (f := fun _ => some (-1)) (fun n => by
      rw [orielref11_Find.l0, if_neg (by decide)]) (Ev.now _)
  | j + 1, hj => by
    have e0 : ((j + 1 : Nat) : Int) - 1 = (j : Int) := by omega
    have ge : (j : Int) ≥ 0 := by omega
    have lt : (j : Int) < (l.length : Int) := by omega
    have hr : rd_T26 l (j : Int) = l.getD j z26 := by unfold rd_T26; rw [Int.toNat_natCast]
    have ih := find_ev l k hl j (by omega)
    rw [e0, lastS]
    by_cases c : keyEq (K26 (l.getD j z26)) k = true
    · have c2 := (keyIff _ _).mp c
      rw [if_pos c]
      exact Ev.step (f := fun _ => some (j : Int)) (fun n => by rw [orielref11_Find.l0, if_pos ge, if_pos (show (0 : Int) ≤ j from ge), if_pos lt, hr, if_pos c2.1, if_pos c2.2]) (Ev.now _)
    · rw [if_neg c]
      have ew : wrap64 ((j : Int) - 1) = (j : Int) - 1 := wid (by omega) (by omega)
      refine Ev.step (fun n => ?_) ih
      rw [orielref11_Find.l0, if_pos ge, if_pos (show (0 : Int) ≤ j from ge), if_pos lt, hr, ew]
      by_cases d : (l.getD j z26).f0 = k.f0
      · rw [if_pos d, if_neg (fun h => c ((keyIff _ _).mpr ⟨d, h⟩))]
      · rw [if_neg d]
theorem lastS_at (k : S28) (l pre r : List S26) (x : S26) (hl : l = pre ++ x :: r) (hx : keyEq (K26 x) k = true) : ∀ m, m ≤ r.length → (lastS k l (pre.length + 1 + m) = (pre.length : Int) ↔ (r.take m).any (fun y => keyEq (K26 y) k) = false)
  | 0, _ => by
    have hg : l.getD pre.length z26 = x := by rw [hl, List.getD_eq_getElem?_getD, List.getElem?_append_right (Nat.le_refl _), Nat.sub_self]; rfl
    rw [Nat.add_zero, lastS, hg, if_pos hx, List.take_zero]
    exact ⟨fun _ => rfl, fun _ => rfl⟩
  | m + 1, hm => by
    have hg : l.getD (pre.length + 1 + m) z26 = r[m] := by
      rw [hl, List.getD_eq_getElem?_getD, List.getElem?_append_right (by omega), show pre.length + 1 + m - pre.length = m + 1 by omega, List.getElem?_cons_succ, List.getElem?_eq_getElem (by omega)]
      rfl
    have ih := lastS_at k l pre r x hl hx m (by omega)
    rw [show pre.length + 1 + (m + 1) = (pre.length + 1 + m) + 1 by omega, lastS, hg, List.take_succ_eq_append_getElem (by omega), List.any_append, Bool.or_eq_false_iff]
    by_cases c : keyEq (K26 r[m]) k = true
    · rw [if_pos c]
      refine ⟨fun h => absurd h (by omega), fun h => ?_⟩
      have h2 := h.2
      rw [List.any_cons, c] at h2
      cases h2
    · have c2 : keyEq (K26 r[m]) k = false := by simpa using c
      rw [if_neg c, ih, List.any_cons, c2]
      exact ⟨fun h => ⟨h, rfl⟩, fun h => h.1⟩
theorem vis_ev (l : List S26) (hl : l.length ≤ 1599289640400) : ∀ (r pre out : List S26), l = pre ++ r → out.length ≤ pre.length → Ev (fun n => orielref11_Visible.l0 n l out (pre.length : Int)) (out ++ visR r)
  | [], pre, out, he, ho => by
    have q : ¬ ((pre.length : Int) < (l.length : Int)) := by rw [he]; simp
    rw [visR, List.append_nil]
    exact Ev.step (f := fun _ => some out) (fun n => by rw [orielref11_Visible.l0, if_neg q]) (Ev.now _)
  | x :: r, pre, out, he, ho => by
    have hlen : l.length = pre.length + 1 + r.length := by rw [he]; simp only [List.length_append, List.length_cons]; omega
    have q1 : (pre.length : Int) < (l.length : Int) := by omega
    have q2 : (0 : Int) ≤ (pre.length : Int) := by omega
    have hr : rd_T26 l (pre.length : Int) = x := by
      unfold rd_T26
      rw [he, Int.toNat_natCast, List.getD_eq_getElem?_getD, List.getElem?_append_right (Nat.le_refl _), Nat.sub_self]
      rfl
    have ew : wrap64 ((pre.length : Int) + 1) = ((pre ++ [x]).length : Int) := by
      rw [wid (by omega) (by omega), List.length_append]
      rfl
    have hF : Ev (fun n => orielref11_Find.f n l x.f0 x.f1) (lastS (K26 x) l l.length) := by
      have h := find_ev l (K26 x) hl l.length (Nat.le_refl _)
      refine Ev.congr (fun n => ?_) h
      show orielref11_Find.l0 n l x.f0 x.f1 (wrap64 ((l.length : Int) - 1)) = _
      rw [wid (by omega) (by omega)]
      rfl
    have hA := lastS_at (K26 x) l pre r x he ((keyIff _ _).mpr ⟨rfl, rfl⟩) r.length (Nat.le_refl _)
    rw [List.take_length, ← hlen] at hA
    have step : ∀ n, orielref11_Visible.l0 (n + 1) l out (pre.length : Int) = (orielref11_Find.f n l x.f0 x.f1).bind fun t109 => (if t109 = (pre.length : Int) then (if out.length < 1599289640401 then (orielref11_Visible.l0 n l (out ++ [x]) ((pre ++ [x]).length : Int)) else (none)) else (orielref11_Visible.l0 n l out ((pre ++ [x]).length : Int))) := fun n => by
      have ex : (⟨x.f0, x.f1, x.f2, x.f3, x.f4, x.f5⟩ : S26) = x := by cases x; rfl
      rw [orielref11_Visible.l0, if_pos q1, if_pos q2, hr, ew, ex]
    refine Ev.step step (Ev.bind hF ?_)
    by_cases c : lastS (K26 x) l l.length = (pre.length : Int)
    · have c2 := hA.mp c
      have ih := vis_ev l hl r (pre ++ [x]) (out ++ [x]) (by rw [he, List.append_assoc]; rfl) (by rw [List.length_append, List.length_append]; simpa using ho)
      rw [visR, if_neg (by rw [c2]; decide)]
      rw [List.append_assoc] at ih
      refine Ev.congr (fun n => ?_) ih
      rw [if_pos c, if_pos (by omega)]
    · have c2 : r.any (fun y => keyEq (K26 y) (K26 x)) = true := by
        cases h : r.any (fun y => keyEq (K26 y) (K26 x)) with
        | true => rfl
        | false => exact absurd (hA.mpr h) c
      have ih := vis_ev l hl r (pre ++ [x]) out (by rw [he, List.append_assoc]; rfl) (by rw [List.length_append]; omega)
      rw [visR, if_pos c2]
      refine Ev.congr (fun n => ?_) ih
      rw [if_neg c]
theorem vis_ (l : List S26) (A : Option Addr) (c : Nat) (w : World) (hC : Kd.C k26 w A l.length l) (hc : l.length ≤ c) (hl : l.length ≤ 1599289640400) :
    Calls Try.prog 23 #[.slice A l.length c] w fun e w' => ∃ A' c', e = .returned (.slice A' (visS l).length c') ∧ (visS l).length ≤ c' ∧ Kd.C k26 w' A' (visS l).length (visS l) ∧ Below w.heap.size w w' := by
  have h := vis_ev l hl l [] [] rfl (Nat.le_refl _)
  rw [List.nil_append, ← visS_eq] at h
  obtain ⟨k, hk⟩ := h.rounds
  refine (orielref11_Visible.calls k (fun k_ => k_ < w.heap.size) A c l (visS l) w (Kd.V_mk hc (Kd.C_F k26_heap hC)) hk).mono ?_
  rintro e w' ⟨v, rfl, hN, hB⟩
  obtain ⟨A', c', rfl, h1, h2⟩ := Kd.N_reads hN
  exact ⟨A', c', rfl, h1, h2, hB⟩
end Go.Proofs.Ytkdfbfhajojdeaa.Env
