/- R.Within, and that it is the same. Conditions: as the theorems say. -/
import Derived.Test.YtemdnmidhmddlaaTpB
namespace Go.Proofs.Ytemdnmidhmddlaa.Tree
open Go Go.RowKit Go.Proofs.YtemdnmidhmddlaaW.PrintWords Go.Proofs.YtemdnmidhmddlaaW.PrintLast Go.Proofs.YtemdnmidhmddlaaW.PrintMore Go.Proofs.Ytemdnmidhmddlaa.PAll
set_option linter.unusedVariables false
set_option linter.unusedSimpArgs false
/-- A row in which a token lies, and in all above it. -/
inductive GoodN (rl : List S46) (tok : Int) : Nat → Prop
  | root {n : Nat} {e : S46} : rl[n]? = some e → e.f1 = -1 → holdS e.f0 tok = true → GoodN rl tok n
  | kid {n u : Nat} {e : S46} : rl[n]? = some e → e.f1 = (u : Int) → GoodN rl tok u → holdS e.f0 tok = true → GoodN rl tok n
def UpG (rl : List S46) (tok : Int) (up : Int) : Prop := up = -1 ∨ ∃ u : Nat, up = (u : Int) ∧ GoodN rl tok u
theorem GoodN.mk {rl : List S46} {tok : Int} {n : Nat} {e : S46} (h : rl[n]? = some e) (hu : UpG rl tok e.f1) (hh : holdS e.f0 tok = true) : GoodN rl tok n := by
  rcases hu with hu | ⟨u, hu, hg⟩
  · exact .root h hu hh
  · exact .kid h hu hg hh
theorem GoodN.inv {rl : List S46} {tok : Int} {n : Nat} {e : S46} (h : rl[n]? = some e) (g : GoodN rl tok n) : UpG rl tok e.f1 ∧ holdS e.f0 tok = true := by
  cases g with
  | root h1 h2 h3 =>
    rw [h] at h1
    obtain rfl := Option.some.inj h1
    exact ⟨Or.inl h2, h3⟩
  | kid h1 h2 h3 h4 =>
    rw [h] at h1
    obtain rfl := Option.some.inj h1
    exact ⟨Or.inr ⟨_, h2, h3⟩, h4⟩
theorem GoodN.lt {rl : List S46} {tok : Int} {n : Nat} (g : GoodN rl tok n) : ∃ e, rl[n]? = some e := by
  cases g with
  | root h1 _ _ => exact ⟨_, h1⟩
  | kid h1 _ _ _ => exact ⟨_, h1⟩
theorem gd_sound {ks : List S39} {rl : List S46} {tok : Int} : ∀ (N : Nat) (l : List S25) (up d : Int) (m : Nat), SizeOf.sizeOf l < N → Seg ks rl l up d m → UpG rl tok up → ∀ q ∈ gdL tok l d m, ∃ (n : Nat) (e : S46), q = ((n : Int), e.f2) ∧ rl[n]? = some e ∧ GoodN rl tok n
  | 0, _, _, _, _, h, _, _, _, _ => absurd h (Nat.not_lt_zero _)
  | N + 1, [], _, _, _, _, _, _, q, hq => by rw [gdL_nil] at hq; cases hq
  | N + 1, x :: r, up, d, m, hN, h, hu, q, hq => by
    obtain ⟨hk, hn, hs⟩ := h.cons
    have z1 := szk x r
    have z2 := szr x r
    rw [gdL_cons] at hq
    rcases List.mem_append.mp hq with hq | hq
    · by_cases c : holdS x tok = true
      · rw [if_pos c] at hq
        have g : GoodN rl tok m := .mk hn.hr hu c
        rcases List.mem_cons.mp hq with rfl | hq
        · exact ⟨m, _, rfl, hn.hr, g⟩
        · exact gd_sound N x.f5 (m : Int) (d + 1) (m + 1) (by omega) hn.hs (Or.inr ⟨m, rfl, g⟩) q hq
      · rw [if_neg c] at hq
        cases hq
    · exact gd_sound N r up d _ (by omega) hs hu q hq
theorem gd_full {ks : List S39} {rl : List S46} {tok : Int} : ∀ (N : Nat) (l : List S25) (up d : Int) (m : Nat), SizeOf.sizeOf l < N → Seg ks rl l up d m → ∀ n : Nat, m ≤ n → n < m + szL l → GoodN rl tok n → UpG rl tok up ∧ ∃ e, rl[n]? = some e ∧ ((n : Int), e.f2) ∈ gdL tok l d m
  | 0, _, _, _, _, h, _, _, _, _, _ => absurd h (Nat.not_lt_zero _)
  | N + 1, [], _, _, m, _, _, n, h1, h2, _ => by rw [szL_nil] at h2; omega
  | N + 1, x :: r, up, d, m, hN, h, n, h1, h2, g => by
    obtain ⟨hk, hn, hs⟩ := h.cons
    have z1 := szk x r
    have z2 := szr x r
    rw [szL_cons] at h2
    rw [gdL_cons]
    by_cases c1 : n = m
    · subst c1
      obtain ⟨hu, hh⟩ := GoodN.inv hn.hr g
      refine ⟨hu, _, hn.hr, List.mem_append_left _ ?_⟩
      rw [if_pos (by exact hh)]
      exact List.mem_cons_self
    · by_cases c2 : n < m + 1 + szL x.f5
      · obtain ⟨hu, e, he, hm⟩ := gd_full N x.f5 (m : Int) (d + 1) (m + 1) (by omega) hn.hs n (by omega) (by omega) g
        rcases hu with hu | ⟨u, hu, hg⟩
        · omega
        · obtain rfl : m = u := by omega
          obtain ⟨hu2, hh⟩ := GoodN.inv hn.hr hg
          refine ⟨hu2, e, he, List.mem_append_left _ ?_⟩
          rw [if_pos (by exact hh)]
          exact List.mem_cons_of_mem _ hm
      · obtain ⟨hu, e, he, hm⟩ := gd_full N r up d _ (by omega) hs n (by omega) (by omega) g
        exact ⟨hu, e, he, List.mem_append_right _ hm⟩
/-- Rows lie behind what they lie in. -/
def UpOk (rl : List S46) : Prop := ∀ (n : Nat) (e : S46), rl[n]? = some e → -1 ≤ e.f1 ∧ e.f1 < (n : Int)
theorem up_ok : ∀ (N : Nat) (l : List S25) (up d : Int) (m : Nat), SizeOf.sizeOf l < N → -1 ≤ up → up < (m : Int) → ∀ (n : Nat) (e : S46), (rwL l up d m)[n]? = some e → -1 ≤ e.f1 ∧ e.f1 < ((m + n : Nat) : Int)
  | 0, _, _, _, _, h, _, _, _, _, _ => absurd h (Nat.not_lt_zero _)
  | N + 1, [], _, _, m, _, _, _, n, e, h => by rw [rwL_nil] at h; cases h
  | N + 1, x :: r, up, d, m, hN, h0, h1, n, e, h => by
    have z1 := szk x r
    have z2 := szr x r
    rw [rwL_cons] at h
    cases n with
    | zero =>
      rw [List.getElem?_cons_zero] at h
      obtain rfl := Option.some.inj h
      exact ⟨h0, by show up < _; omega⟩
    | succ n =>
      rw [List.getElem?_cons_succ] at h
      have hl := rw_len x.f5 (m : Int) (d + 1) (m + 1)
      by_cases c : n < szL x.f5
      · rw [List.getElem?_append_left (by omega)] at h
        have := up_ok N x.f5 (m : Int) (d + 1) (m + 1) (by omega) (by omega) (by omega) n e h
        omega
      · rw [List.getElem?_append_right (by omega), hl] at h
        have := up_ok N r up d (m + 1 + szL x.f5) (by omega) h0 (by omega) (n - szL x.f5) e h
        omega
theorem upOk_of (x : S25) : UpOk (rwL [x] (-1) 1 0) := fun n e h => by
  have := up_ok _ [x] (-1) 1 0 (Nat.lt_succ_self _) (by omega) (by omega) n e h
  omega
/-! ### the document's -/
open Classical in
noncomputable def goodI (rl : List S46) (tok : Int) (k : Int) : Bool := decide (UpG rl tok k)
open Classical in
theorem goodI_neg (rl : List S46) (tok : Int) : goodI rl tok (-1) = true := by
  unfold goodI
  exact decide_eq_true (Or.inl rfl)
open Classical in
theorem goodI_iff {rl : List S46} {tok : Int} {n : Nat} : goodI rl tok (n : Int) = true ↔ GoodN rl tok n := by
  unfold goodI
  rw [decide_eq_true_iff]
  constructor
  · rintro (h | ⟨u, h, g⟩)
    · omega
    · obtain rfl : n = u := by omega
      exact g
  · exact fun g => Or.inr ⟨n, rfl, g⟩
open Classical in
theorem goodI_at {rl : List S46} {tok : Int} {n : Nat} {e : S46} (h : rl[n]? = some e) : goodI rl tok (n : Int) = (holdS e.f0 tok && goodI rl tok e.f1) := by
  rw [Bool.eq_iff_iff, goodI_iff, Bool.and_eq_true]
  constructor
  · intro g
    obtain ⟨h1, h2⟩ := GoodN.inv h g
    exact ⟨h2, by unfold goodI; exact decide_eq_true h1⟩
  · rintro ⟨h1, h2⟩
    unfold goodI at h2
    exact .mk h (of_decide_eq_true h2) h1
theorem inner_ {rl : List S46} {tok b : Int} {n : Nat} {R : Int} (hu : UpOk rl) : ∀ (K : Nat) (k : Int), k < (K : Int) → -1 ≤ k → k < (rl.length : Int) → ∀ all : Bool,
    Ev (fun j => orielref06_Within.l1 j rl tok b (n : Int) (all && goodI rl tok k) (-1)) R → Ev (fun j => orielref06_Within.l1 j rl tok b (n : Int) all k) R
  | K, k, hk, h1, h2, all, h => by
    by_cases c : k = -1
    · subst c
      rw [goodI_neg, Bool.and_true] at h
      exact h
    · obtain ⟨m, rfl⟩ : ∃ m : Nat, k = (m : Int) := ⟨k.toNat, by omega⟩
      cases K with
      | zero => omega
      | succ K =>
        have hm : m < rl.length := by omega
        obtain ⟨e, he⟩ : ∃ e, rl[m]? = some e := ⟨rl[m], List.getElem?_eq_getElem hm⟩
        have hue := hu m e he
        have o1 : (m : Int) ≥ 0 := by omega
        have o2 : (0 : Int) ≤ (m : Int) := by omega
        have ih := inner_ (tok := tok) (b := b) (n := n) (R := R) hu K e.f1 (by omega) hue.1 (by omega) (all && holdS e.f0 tok) (by rw [Bool.and_assoc, ← goodI_at he]; exact h)
        refine Ev.step (fun j => ?_) ih
        rw [orielref06_Within.l1, if_pos o1]
        cases all with
        | false => rw [if_neg (by decide), if_pos o2, if_pos h2, rd46 he, Bool.false_and]
        | true =>
          rw [if_pos rfl, if_pos o2, if_pos h2, rd46 he, Bool.true_and]
          unfold holdS
          by_cases c2 : e.f0.f2 ≤ tok
          · rw [if_pos c2, decide_eq_true c2, Bool.true_and]
          · rw [if_neg c2, decide_eq_false c2, Bool.false_and]
/-- The best one of the first n rows. -/
def BestOf (rl : List S46) (tok : Int) (n : Nat) (b : Int) : Prop :=
  (b = -1 ∧ ∀ u < n, ¬ GoodN rl tok u) ∨ ∃ (c : Nat) (e : S46), b = (c : Int) ∧ rl[c]? = some e ∧ GoodN rl tok c ∧ c < n ∧ ∀ (u : Nat) (e2 : S46), u < n → rl[u]? = some e2 → GoodN rl tok u → LeP ((u : Int), e2.f2) ((c : Int), e.f2)
theorem outer_ {rl : List S46} {tok : Int} (hu : UpOk rl) (hl : rl.length ≤ 1000000) : ∀ (q n : Nat) (b : Int), rl.length = n + q → BestOf rl tok n b → ∃ R, BestOf rl tok rl.length R ∧ Ev (fun j => orielref06_Within.l0 j rl tok b (n : Int)) R
  | 0, n, b, h, hb => ⟨b, by rw [h, Nat.add_zero]; exact hb, Ev.step (f := fun _ => some b) (fun j => by rw [orielref06_Within.l0, if_neg (by omega)]) (Ev.now _)⟩
  | q + 1, n, b, h, hb => by
    have hn : n < rl.length := by omega
    obtain ⟨e, he⟩ : ∃ e, rl[n]? = some e := ⟨rl[n], List.getElem?_eq_getElem hn⟩
    have o1 : (n : Int) < (rl.length : Int) := by omega
    have e3 : wrap64 ((n : Int) + 1) = ((n + 1 : Nat) : Int) := wnat (n + 1) (by omega)
    have go : ∀ b2 : Int, BestOf rl tok (n + 1) b2 → (∀ j, orielref06_Within.l1 (j + 1) rl tok b (n : Int) (goodI rl tok (n : Int)) (-1) = orielref06_Within.l0 j rl tok b2 (wrap64 ((n : Int) + 1))) → ∃ R, BestOf rl tok rl.length R ∧ Ev (fun j => orielref06_Within.l0 j rl tok b (n : Int)) R := by
      intro b2 hb2 hst
      obtain ⟨R, hR, hE⟩ := outer_ hu hl q (n + 1) b2 (by omega) hb2
      refine ⟨R, hR, Ev.step (fun j => by rw [orielref06_Within.l0, if_pos o1]) (inner_ hu (n + 1) (n : Int) (by omega) (by omega) o1 true ?_)⟩
      rw [Bool.true_and]
      exact Ev.step hst (by rw [e3]; exact hE)
    have o3 : ¬ ((-1 : Int) ≥ 0) := by omega
    have o4 : (0 : Int) ≤ (n : Int) := by omega
    by_cases g : GoodN rl tok n
    · have gI : goodI rl tok (n : Int) = true := goodI_iff.mpr g
      rcases hb with ⟨hb, hno⟩ | ⟨c, ec, hb, hc, hg, hlt, hmax⟩
      · refine go (n : Int) (Or.inr ⟨n, e, rfl, he, g, by omega, fun u e2 h1 h2 h3 => ?_⟩) (fun j => ?_)
        · by_cases cu : u = n
          · subst cu
            rw [he] at h2
            obtain rfl := Option.some.inj h2
            exact Or.inr ⟨rfl, Int.le_refl _⟩
          · exact absurd h3 (hno u (by omega))
        · rw [gI, orielref06_Within.l1, if_neg o3, if_pos rfl, if_pos (by omega)]
      · have b0 : ¬ b < 0 := by omega
        have b1 : 0 ≤ b := by omega
        have b2 : b < (rl.length : Int) := by omega
        by_cases cd : e.f2 ≥ ec.f2
        · refine go (n : Int) (Or.inr ⟨n, e, rfl, he, g, by omega, fun u e2 h1 h2 h3 => ?_⟩) (fun j => ?_)
          · by_cases cu : u = n
            · subst cu
              rw [he] at h2
              obtain rfl := Option.some.inj h2
              exact Or.inr ⟨rfl, Int.le_refl _⟩
            · have := hmax u e2 (by omega) h2 h3
              unfold LeP at this ⊢
              simp only at this ⊢
              omega
          · rw [gI, orielref06_Within.l1, if_neg o3, if_pos rfl, if_neg b0, if_pos o4, if_pos o1, if_pos b1, if_pos b2, rd46 he, hb, rd46 hc, if_pos cd]
        · refine go b (Or.inr ⟨c, ec, hb, hc, hg, by omega, fun u e2 h1 h2 h3 => ?_⟩) (fun j => ?_)
          · by_cases cu : u = n
            · subst cu
              rw [he] at h2
              obtain rfl := Option.some.inj h2
              exact Or.inl (by show e.f2 < ec.f2; omega)
            · exact hmax u e2 (by omega) h2 h3
          · rw [gI, orielref06_Within.l1, if_neg o3, if_pos rfl, if_neg b0, if_pos o4, if_pos o1, if_pos b1, if_pos b2, rd46 he, hb, rd46 hc, if_neg cd]
    · have gI : goodI rl tok (n : Int) = false := by
        rw [← Bool.not_eq_true]
        exact fun h => g (goodI_iff.mp h)
      refine go b ?_ (fun j => by rw [gI, orielref06_Within.l1, if_neg o3, if_neg (by decide)])
      rcases hb with ⟨hb, hno⟩ | ⟨c, ec, hb, hc, hg, hlt, hmax⟩
      · refine Or.inl ⟨hb, fun u h1 h2 => ?_⟩
        by_cases cu : u = n
        · subst cu; exact g h2
        · exact hno u (by omega) h2
      · refine Or.inr ⟨c, ec, hb, hc, hg, by omega, fun u e2 h1 h2 h3 => ?_⟩
        by_cases cu : u = n
        · subst cu; exact absurd h3 g
        · exact hmax u e2 (by omega) h2 h3
/-- What both answer. -/
theorem within_ev (x : S25) (tok : Int) (hs : szL [x] ≤ 100000) : ∃ nr r, ((0 < (knL [x] (-1) 0).length ∧ holdB (knL [x] (-1) 0) 0 tok = true) → WithK (knL [x] (-1) 0) tok nr [(0, 1)] 0 1 r) ∧ (¬ (0 < (knL [x] (-1) 0).length ∧ holdB (knL [x] (-1) 0) 0 tok = true) → r = -1) ∧ Ev (fun k => orielref06_Within.f k (rwL [x] (-1) 1 0) tok) r := by
  have hu := upOk_of x
  have hlr := rw_len [x] (-1) 1 0
  have hlk := kn_len [x] (-1) 0
  have hz := szL_one x
  have hS := Seg.whole x
  obtain ⟨hk, hn, _⟩ := hS.cons
  have hh : holdB (knL [x] (-1) 0) 0 tok = holdS x tok := by
    unfold holdB holdS
    rw [show (0 : Int) = ((0 : Nat) : Int) from rfl, rd39 hk]
  obtain ⟨R, hR, hE⟩ := outer_ (tok := tok) hu (by omega) _ 0 (-1) (by rw [Nat.zero_add]) (Or.inl ⟨rfl, fun u h => by omega⟩)
  have hf := fun (n : Nat) (g : GoodN (rwL [x] (-1) 1 0) tok n) => gd_full (tok := tok) _ [x] (-1) 1 0 (Nat.lt_succ_self _) hS n (Nat.zero_le _) (by obtain ⟨e, he⟩ := g.lt; have := (List.getElem?_eq_some_iff.mp he).1; omega) g
  have hd := gd_sound (tok := tok) _ [x] (-1) 1 0 (Nat.lt_succ_self _) hS (Or.inl rfl)
  by_cases c : holdS x tok = true
  · obtain ⟨nr, p, hw, hx⟩ := bfs (ks := knL [x] (-1) 0) (rl := rwL [x] (-1) 1 0) tok _ [(⟨x, -1, 1⟩, 0)] 0 1 (Nat.lt_succ_self _) (by rw [smQ_cons]; show szL [x] + 0 ≤ _; omega) (fun e he => by
      rw [List.mem_singleton] at he
      subst he
      exact ⟨hn, by show (0 : Int) ≤ 1; decide, by show (1 : Int) + (szL [x] : Int) ≤ _; omega⟩)
    have hg : Mx (gdL tok [x] 1 0) p := hx.congr (fun q => by
      rw [gdL_cons, if_pos c, gdL_nil, List.append_nil, List.flatMap_cons, List.flatMap_nil, List.append_nil]
      unfold gdN prS
      simp only [List.mem_cons]
      constructor
      · rintro (h | h | h)
        · exact Or.inl h
        · exact Or.inl h
        · exact Or.inr h
      · rintro (h | h)
        · exact Or.inl h
        · exact Or.inr (Or.inr h))
    have g0 : GoodN (rwL [x] (-1) 1 0) tok 0 := .mk hn.hr (Or.inl rfl) c
    have hp : R = p.1 := by
      rcases hR with ⟨_, hno⟩ | ⟨cc, ec, hb, hc, hgd, hlt, hmax⟩
      · exact absurd g0 (hno 0 (by omega))
      · obtain ⟨_, e2, he2, hm⟩ := hf cc hgd
        rw [hc] at he2
        obtain rfl := Option.some.inj he2
        have : Mx (gdL tok [x] 1 0) ((cc : Int), ec.f2) := ⟨hm, fun q hq => by
          obtain ⟨n, e, rfl, h1, h2⟩ := hd q hq
          exact hmax n e (List.getElem?_eq_some_iff.mp h1).1 h1 h2⟩
        rw [hg.uniq this, hb]
    exact ⟨nr, R, fun _ => by rw [hp]; exact hw, fun h => absurd ⟨by omega, by rw [hh]; exact c⟩ h, hE⟩
  · refine ⟨0, R, fun h => absurd (by rw [← hh]; exact h.2) c, fun _ => ?_, hE⟩
    rcases hR with ⟨h, _⟩ | ⟨cc, ec, hb, hc, hgd, hlt, hmax⟩
    · exact h
    · obtain ⟨_, e2, he2, hm⟩ := hf cc hgd
      rw [gdL_cons, if_neg c, gdL_nil] at hm
      cases hm
end Go.Proofs.Ytemdnmidhmddlaa.Tree
