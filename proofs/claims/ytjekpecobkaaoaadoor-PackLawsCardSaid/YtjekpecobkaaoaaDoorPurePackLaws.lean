/- PackLaws: sets are joined in any order, and within one another as one likes; what has neither of two is what has not both joined; a set and its rest by another one are joined what both joined are. The pure statement. Conditions: none beyond what the arguments read as. -/
import Derived.Test.YtjekpecobkaaoaaDoorInPackLaws
import Derived.Test.YtjekpecobkaaoaaDoorPackF
import Derived.Test.YtjekpecobkaaoaaDoorPackD
namespace Go.Proofs.YtjekpecobkaaoaaDoor.Pure
set_option linter.unusedVariables false
set_option linter.unusedSimpArgs false
open Go Go.RowKit Go.Proofs.YtjekpecobkaaoaaDoorW.PrintWords Go.Proofs.YtjekpecobkaaoaaDoorW.PrintLast Go.Proofs.YtjekpecobkaaoaaDoorW.PrintMore Go.Proofs.YtjekpecobkaaoaaDoor.PAll Go.Proofs.YtjekpecobkaaoaaDoor.Frame Go.Proofs.YtjekpecobkaaoaaDoor.PackA Go.Proofs.YtjekpecobkaaoaaDoor.PackB Go.Proofs.YtjekpecobkaaoaaDoor.PackD Go.Proofs.YtjekpecobkaaoaaDoor.PackF Go.Proofs.YtjekpecobkaaoaaDoor.PackG Go.Proofs.YtjekpecobkaaoaaDoor.PackH Go.Proofs.YtjekpecobkaaoaaDoor.PackK

theorem laws_i64 {x : Int} (h : (inK .i64) x) : -9223372036854775808 ≤ x ∧ x ≤ 9223372036854775807 := by
  have h' : (decide (IntKind.i64.min ≤ x) && decide (x ≤ IntKind.i64.max)) = true := h
  simp [IntKind.min, IntKind.max, IntKind.signed, IntKind.bits] at h'
  omega
theorem ints_same (t : List Int) (h : t.length ≤ 65536) : Ev (fun k => oriellaw01_Ints.f k t t) true := by
  have := LInts_ev t t (by omega)
  rwa [decide_eq_true rfl] at this
theorem laws_j0_true (l m n : List Int) : Ev (fun K => oriellaw03_PackLaws.j0 K l m n true) true := by
  refine Ev.step (fun k => ?_) alive_tail
  simp only [oriellaw03_PackLaws.j0]
  rw [if_true]
/-- The second half: rests, and the number of members. -/
theorem laws_j1 {x y z : List Int} (hx : WS x) (hy : WS y) (hz : WS z) : Ev (fun K => oriellaw03_PackLaws.j1 K x y z false) true := by
  have hr := rest_ws hx hy
  have hj := join_ws hx hy
  obtain ⟨t1, b1, e1⟩ := List_ev (rest_ws hr hz)
  obtain ⟨t2, b2, e2⟩ := List_ev hj
  have c1 := cntW_le (restL x y) (restL x y).length 0
  have c2 := cntW_le y y.length 0
  have d1 := hr.1
  have d2 := hy.1
  refine Ev.step (fun K => by simp only [oriellaw03_PackLaws.j1]; rw [if_neg (by simp)]) ?_
  refine Ev.bind (Rest_ev hx hy) ?_
  refine Ev.bind (Rest_ev hr hz) ?_
  refine Ev.bind e1 ?_
  refine Ev.bind (Join_ev hy hz) ?_
  refine Ev.bind (Rest_ev hx (join_ws hy hz)) ?_
  rw [← rest_rest]
  refine Ev.bind e1 ?_
  refine Ev.bind (ints_same t1 b1) ?_
  refine Ev.ite_pos rfl ?_
  refine Ev.bind (Rest_ev hx hy) ?_
  refine Ev.bind (Join_ev hr hy) ?_
  rw [rest_join]
  refine Ev.bind e2 ?_
  refine Ev.bind (Join_ev hx hy) ?_
  refine Ev.bind e2 ?_
  refine Ev.bind (ints_same t2 b2) ?_
  refine Ev.ite_pos rfl ?_
  refine Ev.bind (Rest_ev hx hy) ?_
  refine Ev.bind (Len_ev hr) ?_
  refine Ev.bind (Len_ev hy) ?_
  refine Ev.bind (Join_ev hx hy) ?_
  refine Ev.bind (Len_ev hj) ?_
  refine Ev.ite_pos ?_ alive_tail
  rw [wrap_id (by omega) (by omega), ← len_law]
  omega
theorem laws_j0 {a b c : List Int} (ha : a.length ≤ 100) (hb : b.length ≤ 100) (hc : c.length ≤ 100) (ga : ∀ x ∈ a, -9223372036854775808 ≤ x ∧ x ≤ 9223372036854775807) (gb : ∀ x ∈ b, -9223372036854775808 ≤ x ∧ x ≤ 9223372036854775807) (gc : ∀ x ∈ c, -9223372036854775808 ≤ x ∧ x ≤ 9223372036854775807) :
    Ev (fun K => oriellaw03_PackLaws.j0 K a b c false) true := by
  obtain ⟨x, hx, ex⟩ := Of_ev a (by omega) ga
  obtain ⟨y, hy, ey⟩ := Of_ev b (by omega) gb
  obtain ⟨z, hz, ez⟩ := Of_ev c (by omega) gc
  have hj := join_ws hx hy
  obtain ⟨t1, b1, e1⟩ := List_ev hj
  obtain ⟨t2, b2, e2⟩ := List_ev (join_ws hj hz)
  obtain ⟨t3, b3, e3⟩ := List_ev hx
  refine Ev.step (fun K => by simp only [oriellaw03_PackLaws.j0]; rw [if_neg (by simp)]) ?_
  refine Ev.bind ex ?_
  refine Ev.bind ey ?_
  refine Ev.bind ez ?_
  refine Ev.bind (Join_ev hx hy) ?_
  refine Ev.bind e1 ?_
  refine Ev.bind (Join_ev hy hx) ?_
  rw [join_comm y x]
  refine Ev.bind e1 ?_
  refine Ev.bind (ints_same t1 b1) ?_
  refine Ev.ite_pos rfl ?_
  refine Ev.bind (Join_ev hx hy) ?_
  refine Ev.bind (Join_ev hj hz) ?_
  refine Ev.bind e2 ?_
  refine Ev.bind (Join_ev hy hz) ?_
  refine Ev.bind (Join_ev hx (join_ws hy hz)) ?_
  rw [← join_assoc]
  refine Ev.bind e2 ?_
  refine Ev.bind (ints_same t2 b2) ?_
  refine Ev.ite_pos rfl ?_
  refine Ev.bind (Join_ev hx hx) ?_
  rw [join_self hx]
  refine Ev.bind e3 ?_
  refine Ev.bind e3 ?_
  refine Ev.bind (ints_same t3 b3) ?_
  exact laws_j1 hx hy hz
theorem PackLaws : oriellaw03_PackLaws.Pure := by
  intro a b c ga gb gc
  refine Ev.rounds ?_
  unfold oriellaw03_PackLaws.f
  by_cases h1 : (a.length : Int) > 100
  · exact Ev.ite_pos h1 (laws_j0_true a b c)
  · refine Ev.ite_neg h1 ?_
    by_cases h2 : (b.length : Int) > 100
    · exact Ev.ite_pos h2 (laws_j0_true a b c)
    · refine Ev.ite_neg h2 ?_
      by_cases h3 : (c.length : Int) > 100
      · rw [decide_eq_true h3]
        exact laws_j0_true a b c
      · rw [decide_eq_false h3]
        exact laws_j0 (by omega) (by omega) (by omega) (fun x hx => laws_i64 (ga.2 x hx)) (fun x hx => laws_i64 (gb.2 x hx)) (fun x hx => laws_i64 (gc.2 x hx))

end Go.Proofs.YtjekpecobkaaoaaDoor.Pure
