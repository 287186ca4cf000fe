/- PackSets: what any sets have, joined, without one another, with a number more and one less, is what lists say. The pure statement. Conditions: none beyond what the arguments read as. -/
import Derived.Test.YtjekpecobkaaoaaDoorInPackSets
import Derived.Test.YtjekpecobkaaoaaDoorPackQ
namespace Go.Proofs.YtjekpecobkaaoaaDoor.Pure
set_option linter.unusedVariables false
set_option linter.unusedSimpArgs false
open Go Go.RowKit Go.Proofs.YtjekpecobkaaoaaDoorW.PrintWords Go.Proofs.YtjekpecobkaaoaaDoorW.PrintLast Go.Proofs.YtjekpecobkaaoaaDoorW.PrintMore Go.Proofs.YtjekpecobkaaoaaDoor.PAll Go.Proofs.YtjekpecobkaaoaaDoor.Frame Go.Proofs.YtjekpecobkaaoaaDoor.PackA Go.Proofs.YtjekpecobkaaoaaDoor.PackB Go.Proofs.YtjekpecobkaaoaaDoor.PackD Go.Proofs.YtjekpecobkaaoaaDoor.PackF Go.Proofs.YtjekpecobkaaoaaDoor.PackG Go.Proofs.YtjekpecobkaaoaaDoor.PackS Go.Proofs.YtjekpecobkaaoaaDoor.PackT

theorem ps_i64 {x : Int} (h : (inK .i64) x) : -9223372036854775808 ≤ x ∧ x ≤ 9223372036854775807 := by
  have h' : (decide (IntKind.i64.min ≤ x) && decide (x ≤ IntKind.i64.max)) = true := h
  simp [IntKind.min, IntKind.max, IntKind.signed, IntKind.bits] at h'
  omega
theorem ps_u64 {x : Int} (h : (inK .u64) x) : 0 ≤ x ∧ x < 18446744073709551616 := by
  have h' : (decide (IntKind.u64.min ≤ x) && decide (x ≤ IntKind.u64.max)) = true := h
  simp [IntKind.min, IntKind.max, IntKind.signed, IntKind.bits] at h'
  omega
theorem ps_ints (t u : List Int) (h : t.length ≤ 65536) (e : t = u) : Ev (fun k => oriellaw01_Ints.f k t u) true := by
  have := LInts_ev t u (by omega)
  rwa [decide_eq_true e] at this
theorem ps_evs {α : Type} {x : Option α} {r : α} (h : x = some r) : Ev (fun _ : Nat => x) r := by
  rw [h]
  exact Ev.now r
theorem ps_j0_true (s t l : List Int) (n : Int) : Ev (fun K => oriellaw03_PackSets.j0 K s t l n true) true := by
  refine Ev.step (fun k => ?_) alive_tail
  simp only [oriellaw03_PackSets.j0]
  rw [if_true]
/-- The loop that gathers the rest. -/
theorem ps_l0 (s l : List Int) (n : Int) (a b own x y : List Int) (ha : a.length ≤ 65536) (hb : b.length ≤ 65536) (q : Bool)
    (hq : Ev (fun k => oriellaw03_PackSets.l1 k s l n a b own x y (a.filter (fun m => !decide (m ∈ b))) [] a (a.length : Int) 0) q) :
    ∀ (r pre : List Int), a = pre ++ r → Ev (fun k => oriellaw03_PackSets.l0 k s l n a b own x y (pre.filter (fun m => !decide (m ∈ b))) a (a.length : Int) (pre.length : Int)) q := by
  intro r
  induction r with
  | nil =>
    intro pre he
    rw [List.append_nil] at he
    subst he
    refine Ev.step (fun k => ?_) hq
    simp only [oriellaw03_PackSets.l0]
    rw [if_neg (by omega)]
  | cons z r ih =>
    intro pre he
    have hlen : a.length = pre.length + 1 + r.length := by rw [he]; simp only [List.length_append, List.length_cons]; omega
    have e2 : rd a (pre.length : Int) = z := by rw [he]; exact rd_mid pre z r
    have hi := ih (pre ++ [z]) (by rw [he]; simp)
    rw [show (((pre ++ [z]).length : Nat) : Int) = (pre.length : Int) + 1 by simp, List.filter_append] at hi
    have hf := List.length_filter_le (fun m => !decide (m ∈ b)) pre
    refine Ev.step (fun k => by simp only [oriellaw03_PackSets.l0]; rw [if_pos (by omega), if_pos (by omega), if_pos (by omega), e2, wrap_id (x := (pre.length : Int) + 1) (by omega) (by omega)]) ?_
    refine Ev.bind (In_ev b z (by omega)) ?_
    by_cases c : z ∈ b
    · refine Ev.ite_pos (decide_eq_true c) ?_
      rw [List.filter_cons_of_neg (by simp [c]), List.filter_nil, List.append_nil] at hi
      exact hi
    · refine Ev.ite_neg (by simp [c]) (Ev.ite_pos (by omega) ?_)
      rw [List.filter_cons_of_pos (by simp [c]), List.filter_nil] at hi
      exact hi
/-- The loop that gathers all but one. -/
theorem ps_l1 (s l : List Int) (n : Int) (a b own x y rest : List Int) (ha : a.length ≤ 65536) (q : Bool)
    (hq : Ev (fun k => oriellaw03_PackSets.l1 k s l n a b own x y rest (a.filter (fun m => !decide (m = n))) a (a.length : Int) (a.length : Int)) q) :
    ∀ (r pre : List Int), a = pre ++ r → Ev (fun k => oriellaw03_PackSets.l1 k s l n a b own x y rest (pre.filter (fun m => !decide (m = n))) a (a.length : Int) (pre.length : Int)) q := by
  intro r
  induction r with
  | nil =>
    intro pre he
    rw [List.append_nil] at he
    subst he
    exact hq
  | cons z r ih =>
    intro pre he
    have hlen : a.length = pre.length + 1 + r.length := by rw [he]; simp only [List.length_append, List.length_cons]; omega
    have e2 : rd a (pre.length : Int) = z := by rw [he]; exact rd_mid pre z r
    have hi := ih (pre ++ [z]) (by rw [he]; simp)
    rw [show (((pre ++ [z]).length : Nat) : Int) = (pre.length : Int) + 1 by simp, List.filter_append] at hi
    have hf := List.length_filter_le (fun m => !decide (m = n)) pre
    refine Ev.step (fun k => by simp only [oriellaw03_PackSets.l1]; rw [if_pos (by omega), if_pos (by omega), if_pos (by omega), e2, wrap_id (x := (pre.length : Int) + 1) (by omega) (by omega)]) ?_
    by_cases c : z = n
    · refine Ev.ite_pos c ?_
      rw [List.filter_cons_of_neg (by simp [c]), List.filter_nil, List.append_nil] at hi
      exact hi
    · refine Ev.ite_neg c (Ev.ite_pos (by omega) ?_)
      rw [List.filter_cons_of_pos (by simp [c]), List.filter_nil] at hi
      exact hi
theorem ps_l2 (s : List Int) (hs : s.length ≤ 2000) : ∀ (r pre : List Int), s = pre ++ r → Ev (fun k => oriellaw03_PackSets.l2 k s s (s.length : Int) (pre.length : Int)) true := by
  intro r
  induction r with
  | nil =>
    intro pre he
    rw [List.append_nil] at he
    subst he
    refine Ev.step (fun k => ?_) alive_tail
    simp only [oriellaw03_PackSets.l2]
    rw [if_neg (by omega)]
  | cons z r ih =>
    intro pre he
    have hlen : s.length = pre.length + 1 + r.length := by rw [he]; simp only [List.length_append, List.length_cons]; omega
    have hi := ih (pre ++ [z]) (by rw [he]; simp)
    rw [show (((pre ++ [z]).length : Nat) : Int) = (pre.length : Int) + 1 by simp] at hi
    refine Ev.step (fun k => ?_) hi
    simp only [oriellaw03_PackSets.l2]
    rw [if_pos (by omega), if_pos (by omega), if_pos (by omega), if_pos (by omega), if_pos trivial, wrap_id (x := (pre.length : Int) + 1) (by omega) (by omega)]
theorem ps_j4 (s : List Int) (hs : s.length ≤ 2000) : Ev (fun k => oriellaw03_PackSets.j4 k s s false) true := by
  refine Ev.step (fun k => by simp only [oriellaw03_PackSets.j4]; rw [if_neg (by simp)]) ?_
  exact ps_l2 s hs s [] rfl
theorem inl_append (a b : List Int) (m : Nat) : inl (a ++ b) m = (inl a m || inl b m) := by
  unfold inl
  rw [Bool.eq_iff_iff]
  simp
theorem inl_filt (p : Nat → Bool) (m : Nat) (hm : m < 65536) : inl (filt p) m = p m := by
  unfold inl filt
  rw [Bool.eq_iff_iff, decide_eq_true_eq, mem_filtTo, Int.toNat_natCast]
  exact ⟨fun h => h.2.2, fun h => ⟨by omega, by omega, h⟩⟩
theorem ps_j3 {s t : List Int} (n : Int) (hs : GS s) (ht : GS t) (hn0 : -9223372036854775808 ≤ n) (hn1 : n ≤ 9223372036854775807) :
    Ev (fun k => oriellaw03_PackSets.j3 k s n (filt (memw s)) (filt (memw t)) s s t false) true := by
  have la := filtTo_len 65536 (memw s)
  have lb := filtTo_len 65536 (memw t)
  change (filt (memw s)).length ≤ 65536 at la
  change (filt (memw t)).length ≤ 65536 at lb
  refine Ev.step (fun k => by simp only [oriellaw03_PackSets.j3]; rw [if_neg (by simp)]) ?_
  have h4 := ps_j4 s hs.1
  by_cases c : wrap64 (((filt (memw s)).length : Int) + ((filt (memw t)).length : Int)) ≤ 300
  · refine Ev.ite_pos c ?_
    obtain ⟨u, hu, eu, mu⟩ := GJoin_ev hs ht
    obtain ⟨v, hv, _, ev, mv⟩ := GWith_ev hs n hn0 hn1
    refine Ev.bind eu ?_
    refine Ev.bind (GList_ev (ws_gs hu)) ?_
    refine Ev.some_bind ?_
    refine Ev.ite_pos (by simp only [List.length_nil]; omega) ?_
    refine Ev.some_bind ?_
    refine Ev.ite_pos (by simp only [List.nil_append]; omega) ?_
    refine Ev.bind (Rising_ev _ ?_) ?_
    · simp only [List.nil_append, List.length_append]
      rw [wrap_id (by omega) (by omega)] at c
      omega
    refine Ev.bind (ps_ints _ _ (filtTo_len _ _) (filt_congr (fun m hm => ?_))) ?_
    · rw [mu m hm, List.nil_append, inl_append, inl_filt _ m hm, inl_filt _ m hm]
    refine Ev.ite_pos rfl ?_
    refine Ev.bind ev ?_
    refine Ev.bind (GList_ev hv) ?_
    refine Ev.some_bind ?_
    refine Ev.ite_pos (by simp only [List.length_nil]; omega) ?_
    refine Ev.some_bind ?_
    refine Ev.ite_pos (by simp only [List.nil_append]; omega) ?_
    refine Ev.bind (Rising_ev _ ?_) ?_
    · simp only [List.nil_append, List.length_append, List.length_cons, List.length_nil]
      omega
    refine Ev.bind (ps_ints _ _ (filtTo_len _ _) (filt_congr (fun m hm => ?_))) ?_
    · rw [mv m hm, List.nil_append, inl_append, inl_filt _ m hm]
      congr 1
      unfold inl
      simp
    exact h4
  · exact Ev.ite_neg c h4
theorem ps_j0 {s t l : List Int} (n : Int) (hs : GS s) (ht : GS t) (hl : l.length ≤ 100) (gl : ∀ x ∈ l, -9223372036854775808 ≤ x ∧ x ≤ 9223372036854775807) (hn0 : -9223372036854775808 ≤ n) (hn1 : n ≤ 9223372036854775807) :
    Ev (fun K => oriellaw03_PackSets.j0 K s t l n false) true := by
  have la := filtTo_len 65536 (memw s)
  have lb := filtTo_len 65536 (memw t)
  change (filt (memw s)).length ≤ 65536 at la
  change (filt (memw t)).length ≤ 65536 at lb
  have hsl := hs.1
  have hi0 := filtTo_len 65536 (memw s)
  refine Ev.step (fun k => by simp only [oriellaw03_PackSets.j0]; rw [if_neg (by simp)]) ?_
  refine Ev.bind (RList_ev hs) ?_
  refine Ev.bind (RList_ev ht) ?_
  refine Ev.some_bind ?_
  refine Ev.ite_pos (by simp only [List.length_nil]; omega) ?_
  rw [List.nil_append]
  refine ps_l0 s l n (filt (memw s)) (filt (memw t)) s s t la lb true ?_ (filt (memw s)) [] (List.nil_append _).symm
  refine ps_l1 s l n (filt (memw s)) (filt (memw t)) s s t _ la true ?_ (filt (memw s)) [] (List.nil_append _).symm
  refine Ev.step (fun k => by simp only [oriellaw03_PackSets.l1]; rw [if_neg (by omega)]) ?_
  refine Ev.bind (GList_ev hs) ?_
  refine Ev.bind (ps_ints _ _ la rfl) ?_
  refine Ev.ite_pos rfl ?_
  refine Ev.bind (GLen_ev hs) ?_
  refine Ev.ite_pos rfl ?_
  refine Ev.bind (ps_evs (GHas_eq hs n hn0 hn1)) ?_
  refine Ev.bind (In_ev _ n (by omega)) ?_
  refine Ev.ite_neg (by simp) ?_
  obtain ⟨u, hu, eu, mu⟩ := GRest_ev hs ht
  refine Ev.bind eu ?_
  refine Ev.bind (GList_ev (ws_gs hu)) ?_
  refine Ev.bind (ps_ints _ _ (filtTo_len _ _) ?_) ?_
  · have e : (filt (memw s)).filter (fun m => !decide (m ∈ filt (memw t))) = (filt (memw s)).filter (fun x => (fun k => !memw t k) x.toNat) := by
      refine List.filter_congr (fun m hm => ?_)
      have h := mem_filtTo.mp hm
      refine congrArg not ?_
      rw [Bool.eq_iff_iff, decide_eq_true_eq]
      unfold filt
      rw [mem_filtTo]
      exact ⟨fun hh => hh.2.2, fun hh => ⟨h.1, h.2.1, hh⟩⟩
    rw [e]
    refine Eq.trans ?_ (filt_filter (memw s) (fun k => !memw t k)).symm
    exact filt_congr (fun m hm => mu m hm)
  refine Ev.ite_pos rfl ?_
  obtain ⟨v, hv, ev, mv⟩ := GWithout_ev hs n hn0 hn1
  refine Ev.bind ev ?_
  refine Ev.bind (GList_ev (ws_gs hv)) ?_
  refine Ev.bind (ps_ints _ _ (filtTo_len _ _) ?_) ?_
  · have e : (filt (memw s)).filter (fun m => !decide (m = n)) = (filt (memw s)).filter (fun x : Int => (fun k : Nat => !decide ((k : Int) = n)) x.toNat) := by
      refine List.filter_congr (fun m hm => ?_)
      have h := mem_filtTo.mp hm
      show (!decide (m = n)) = !decide (((m.toNat : Nat) : Int) = n)
      rw [Int.toNat_of_nonneg h.1]
    rw [e]
    refine Eq.trans ?_ (filt_filter (memw s) (fun k => !decide ((k : Int) = n))).symm
    exact filt_congr (fun m hm => mv m hm)
  refine Ev.ite_pos rfl ?_
  obtain ⟨o, ho, eo, mo⟩ := GOf_ev l (by omega) gl
  refine Ev.bind eo ?_
  refine Ev.bind (GList_ev (ws_gs ho)) ?_
  refine Ev.bind (Rising_ev l (by omega)) ?_
  refine Ev.bind (ps_ints _ _ (filtTo_len _ _) (filt_congr (fun m hm => mo m hm))) ?_
  exact ps_j3 n hs ht hn0 hn1
theorem PackSets : oriellaw03_PackSets.Pure := by
  intro s t l n gs gt gl gn
  refine Ev.rounds ?_
  unfold oriellaw03_PackSets.f
  have hn := ps_i64 gn
  by_cases h1 : (s.length : Int) > 1100
  · exact Ev.ite_pos h1 (ps_j0_true s t l n)
  · refine Ev.ite_neg h1 ?_
    by_cases h2 : (t.length : Int) > 1100
    · exact Ev.ite_pos h2 (ps_j0_true s t l n)
    · refine Ev.ite_neg h2 ?_
      by_cases h3 : (l.length : Int) > 100
      · rw [decide_eq_true h3]
        exact ps_j0_true s t l n
      · rw [decide_eq_false h3]
        exact ps_j0 n ⟨by omega, fun x hx => ps_u64 (gs.2 x hx)⟩ ⟨by omega, fun x hx => ps_u64 (gt.2 x hx)⟩ (by omega) (fun x hx => ps_i64 (gl.2 x hx)) hn.1 hn.2

end Go.Proofs.YtjekpecobkaaoaaDoor.Pure
