/- The first name that is there twice, by the law's own search and by env.Twice: the plain law. Conditions: none beyond what the argument reads as. -/
import Derived.Test.YtkdfbfhajojdeaaInEnvTwice
namespace Go.Proofs.Ytkdfbfhajojdeaa.Pure
open Go Go.RowKit Go.Proofs.Ytkdfbfhajojdeaa.PET Go.Proofs.YtkdfbfhajojdeaaW.PrintWords Go.Proofs.YtkdfbfhajojdeaaW.PrintLast Go.Proofs.Ytkdfbfhajojdeaa.Env Go.Proofs.Ytkdfbfhajojdeaa.Frame
set_option linter.unusedVariables false
set_option linter.unusedSimpArgs false
theorem Ev.ite_pos {α : Type} {c : Prop} [Decidable c] {f g : Nat → Option α} {r : α} (h : c) (k : Ev f r) : Ev (fun n => if c then f n else g n) r := by
  simpa [h] using k
theorem Ev.ite_neg {α : Type} {c : Prop} [Decidable c] {f g : Nat → Option α} {r : α} (h : ¬ c) (k : Ev g r) : Ev (fun n => if c then f n else g n) r := by
  simpa [h] using k
theorem wsucc (n : Nat) (h : n < 1000000000000) : wrap64 ((n : Int) + 1) = ((n + 1 : Nat) : Int) := by
  rw [wid (by omega) (by omega)]
  omega
def K (x : S26) : S28 := ⟨x.f0, x.f1⟩
theorem alive2 : Ev (fun _ => (oriellaw11_alive.f).bind fun t => some t) true := Ev.now true
def st (k : S28) (i : Int) : List S28 → Int → Bool → Int × Bool
  | [], a, b => (a, b)
  | y :: r, a, b => if keyEq y k = true then (if b = true then st k i r a b else st k i r i true) else st k i r a b
theorem st_true (k : S28) (i : Int) : ∀ (r : List S28) (a : Int), st k i r a true = (a, true)
  | [], a => rfl
  | y :: r, a => by
    rw [st, st_true, if_pos rfl]
    by_cases c : keyEq y k = true
    · rw [if_pos c]
    · rw [if_neg c]
theorem st_false (k : S28) (i : Int) : ∀ (r : List S28) (a : Int), st k i r a false = if r.any (fun y => keyEq y k) = true then (i, true) else (a, false)
  | [], a => rfl
  | y :: r, a => by
    rw [st, List.any_cons]
    by_cases c : keyEq y k = true
    · rw [if_pos c, if_neg (by decide), st_true, c, Bool.true_or, if_pos rfl]
    · have c2 : keyEq y k = false := by simpa using c
      rw [if_neg c, st_false, c2, Bool.false_or]
theorem inner (l : List S26) (d : List S28) (hd : d.length ≤ 1000) (k : S28) (i : Int) (R : Bool) : ∀ (r pre : List S28) (a : Int) (b : Bool), d = pre ++ r →
    Ev (fun n => oriellaw11_EnvTwice.l0 n (d ++ [k]) (st k i r a b).1 (st k i r a b).2 l (l.length : Int) (wrap64 (i + 1))) R →
    Ev (fun n => oriellaw11_EnvTwice.l1 n d a b i l (l.length : Int) i (d.length : Int) (pre.length : Int) k.f0 k.f1) R := by
  intro r
  induction r with
  | nil =>
    intro pre a b he H
    have q : ¬ ((pre.length : Int) < (d.length : Int)) := by rw [he]; simp
    exact Ev.step (fun n => by
      rw [oriellaw11_EnvTwice.l1, if_neg q, if_pos (show d.length < 5864062014805 by omega)]
      rfl) H
  | cons y r ih =>
    intro pre a b he H
    have hlen : d.length = pre.length + 1 + r.length := by rw [he]; simp only [List.length_append, List.length_cons]; omega
    have q1 : (pre.length : Int) < (d.length : Int) := by omega
    have q2 : (0 : Int) ≤ (pre.length : Int) := Int.natCast_nonneg _
    have hrd : rd_T28 d (pre.length : Int) = y := by
      unfold rd_T28
      rw [he, Int.toNat_natCast, List.getD_eq_getElem?_getD, List.getElem?_append_right (Nat.le_refl _), Nat.sub_self]
      rfl
    have e : ∀ a b, st k i (y :: r) a b = if keyEq y k = true then (if b = true then st k i r a b else st k i r i true) else st k i r a b := fun _ _ => rfl
    rw [e] at H
    by_cases c : keyEq y k = true
    · rw [if_pos c] at H
      cases b with
      | true =>
        rw [if_pos rfl] at H
        have hi := ih (pre ++ [y]) a true (by rw [he]; simp) H
        rw [List.length_append] at hi
        refine Ev.step (fun n => ?_) hi
        rw [oriellaw11_EnvTwice.l1, if_pos q1, if_pos q2, if_pos q1, hrd, if_pos (show (y.f0 == k.f0 && (y.f1.toList == k.f1.toList)) = true from c), if_pos rfl, wsucc pre.length (by omega)]
        rfl
      | false =>
        rw [if_neg (by decide)] at H
        have hi := ih (pre ++ [y]) i true (by rw [he]; simp) H
        rw [List.length_append] at hi
        refine Ev.step (fun n => ?_) hi
        rw [oriellaw11_EnvTwice.l1, if_pos q1, if_pos q2, if_pos q1, hrd, if_pos (show (y.f0 == k.f0 && (y.f1.toList == k.f1.toList)) = true from c), if_neg (by decide), wsucc pre.length (by omega)]
        rfl
    · rw [if_neg c] at H
      have hi := ih (pre ++ [y]) a b (by rw [he]; simp) H
      rw [List.length_append] at hi
      refine Ev.step (fun n => ?_) hi
      rw [oriellaw11_EnvTwice.l1, if_pos q1, if_pos q2, if_pos q1, hrd, if_neg (show ¬ (y.f0 == k.f0 && (y.f1.toList == k.f1.toList)) = true from c), wsucc pre.length (by omega)]
      rfl
theorem twG_snoc (k : S28) : ∀ (d e : List S28), twG e (d ++ [k]) = if (twG e d).2 = true then twG e d else if (e ++ d).any (fun y => keyEq y k) = true then (((e ++ d).length : Int), true) else (0, false)
  | [], e => by
    rw [List.nil_append, List.append_nil]
    rfl
  | x :: d, e => by
    rw [List.cons_append, twG, twG]
    by_cases c : e.any (fun y => keyEq y x) = true
    · rw [if_pos c, if_pos c, if_pos rfl]
    · rw [if_neg c, if_neg c, twG_snoc k d (e ++ [x]), List.append_assoc]
      rfl
theorem twG_no : ∀ (d e : List S28), (twG e d).2 = false → (twG e d).1 = 0
  | [], e, _ => rfl
  | x :: d, e, h => by
    rw [twG] at h ⊢
    by_cases c : e.any (fun y => keyEq y x) = true
    · rw [if_pos c] at h
      cases h
    · rw [if_neg c] at h ⊢
      exact twG_no d _ h
theorem outer (l : List S26) (hl : l.length ≤ 200) (hg : ∀ x ∈ l, wfK (K x)) : ∀ (r pre : List S26), l = pre ++ r →
    Ev (fun n => oriellaw11_EnvTwice.l0 n (pre.map K) (twG [] (pre.map K)).1 (twG [] (pre.map K)).2 l (l.length : Int) (pre.length : Int)) true := by
  intro r
  induction r with
  | nil =>
    intro pre he
    rw [List.append_nil] at he
    have q : ¬ ((pre.length : Int) < (l.length : Int)) := by rw [he]; omega
    refine Ev.step (f := fun _ => (env_Twice.f (pre.map K)).bind fun bt102 => (if bt102.1 = (twG [] (pre.map K)).1 then (if (bt102.2 == (twG [] (pre.map K)).2) = true then ((oriellaw11_alive.f).bind fun t104 => (some t104)) else (none)) else (none))) (fun n => by rw [oriellaw11_EnvTwice.l0, if_neg q]) ?_
    have hf : env_Twice.f (pre.map K) = some (twG [] (pre.map K)) := by
      unfold env_Twice.f twiceF
      rw [if_pos ⟨fun x hx => by
        obtain ⟨y, hy, rfl⟩ := List.mem_map.mp hx
        exact hg y (by rw [he]; exact hy), by rw [List.length_map, ← he]; omega⟩]
    rw [hf]
    show Ev (fun _ => if (twG [] (pre.map K)).1 = (twG [] (pre.map K)).1 then (if ((twG [] (pre.map K)).2 == (twG [] (pre.map K)).2) = true then ((oriellaw11_alive.f).bind fun t104 => (some t104)) else (none)) else (none)) true
    exact Ev.ite_pos rfl (Ev.ite_pos (by simp) alive2)
  | cons x r ih =>
    intro pre he
    have hlen : l.length = pre.length + 1 + r.length := by rw [he]; simp only [List.length_append, List.length_cons]; omega
    have q1 : (pre.length : Int) < (l.length : Int) := by omega
    have q2 : (0 : Int) ≤ (pre.length : Int) := Int.natCast_nonneg _
    have hrd : rd_T26 l (pre.length : Int) = x := by
      unfold rd_T26
      rw [he, Int.toNat_natCast, List.getD_eq_getElem?_getD, List.getElem?_append_right (Nat.le_refl _), Nat.sub_self]
      rfl
    have hi := ih (pre ++ [x]) (by rw [he]; simp)
    rw [List.map_append, List.map_singleton, List.length_append, List.length_singleton, twG_snoc, List.nil_append] at hi
    refine Ev.step (f := fun n => oriellaw11_EnvTwice.l1 n (pre.map K) (twG [] (pre.map K)).1 (twG [] (pre.map K)).2 (pre.length : Int) l (l.length : Int) (pre.length : Int) ((pre.map K).length : Int) ((([] : List S28).length : Nat) : Int) (K x).f0 (K x).f1) (fun n => by
      rw [oriellaw11_EnvTwice.l0, if_pos q1, if_pos q2, if_pos q1, hrd]
      rfl) ?_
    refine inner l (pre.map K) (by rw [List.length_map]; omega) (K x) (pre.length : Int) true (pre.map K) [] _ _ rfl ?_
    rw [wsucc pre.length (by omega)]
    cases hb : (twG [] (pre.map K)).2 with
    | true =>
      rw [hb, if_pos rfl, hb] at hi
      rw [st_true]
      exact hi
    | false =>
      rw [hb, if_neg (by decide)] at hi
      rw [st_false, twG_no _ _ hb]
      rw [List.length_map] at hi
      exact hi
theorem EnvTwice : oriellaw11_EnvTwice.Pure := by
  intro l g
  refine Ev.rounds ?_
  unfold oriellaw11_EnvTwice.f
  by_cases c : (l.length : Int) > 200
  · exact Ev.ite_pos c alive2
  · refine Ev.ite_neg c ?_
    exact outer l (by omega) (fun x hx => by
      cases g.2 x hx with
      | mk _ h0 h1 => exact ⟨h0, h1⟩) l [] rfl
end Go.Proofs.Ytkdfbfhajojdeaa.Pure
