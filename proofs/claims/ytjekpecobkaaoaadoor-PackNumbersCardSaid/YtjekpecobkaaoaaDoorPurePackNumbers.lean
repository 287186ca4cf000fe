/- PackNumbers: a number's bytes, and the number with which any bytes begin, or that there is none, is as the document says. The pure statement. Conditions: none beyond what the arguments read as. -/
import Derived.Test.YtjekpecobkaaoaaDoorInPackNumbers
import Derived.Test.YtjekpecobkaaoaaDoorPackE
namespace Go.Proofs.YtjekpecobkaaoaaDoor.Pure
set_option linter.unusedVariables false
set_option linter.unusedSimpArgs false
open Go Go.RowKit Go.Proofs.YtjekpecobkaaoaaDoorW.PrintWords Go.Proofs.YtjekpecobkaaoaaDoorW.PrintLast Go.Proofs.YtjekpecobkaaoaaDoorW.PrintMore Go.Proofs.YtjekpecobkaaoaaDoor.PAll Go.Proofs.YtjekpecobkaaoaaDoor.Frame Go.Proofs.YtjekpecobkaaoaaDoor.PackA Go.Proofs.YtjekpecobkaaoaaDoor.PackB Go.Proofs.YtjekpecobkaaoaaDoor.PackC Go.Proofs.YtjekpecobkaaoaaDoor.PackD Go.Proofs.YtjekpecobkaaoaaDoor.PackE

theorem No_ev (e : Int) : Ev (fun _ => oriellaw01_No.f e) e := Ev.now e
theorem j0_true (n : Int) (l k : List Int) : Ev (fun K => oriellaw03_PackNumbers.j0 K n l k true) true := by
  refine Ev.step (fun k => ?_) alive_tail
  simp only [oriellaw03_PackNumbers.j0]
  rw [if_true]
theorem j1_ev (b : List Int) (hl : b.length ≤ 100) (hb : ∀ x ∈ b, 0 ≤ x ∧ x < 256) : Ev (fun K => oriellaw03_PackNumbers.j1 K b false) true := by
  refine Ev.step (fun K => by simp only [oriellaw03_PackNumbers.j1]; rw [if_neg (by simp)]) ?_
  obtain ⟨x, h1, h2⟩ := Gets b (by omega) hb
  refine Ev.bind h1 (Ev.bind h2 (Ev.ite_pos rfl (Ev.ite_pos rfl ?_)))
  exact Ev.bind (No_ev _) (Ev.ite_pos rfl alive_tail)
theorem numbers_ev (N : Nat) (hN : N < 18446744073709551616) (a b : List Int) (ha : a.length ≤ 100) (hl : b.length ≤ 100) (hb : ∀ x ∈ b, 0 ≤ x ∧ x < 256) : Ev (fun K => oriellaw03_PackNumbers.j0 K (N : Int) a b false) true := by
  refine Ev.step (fun K => by simp only [oriellaw03_PackNumbers.j0]; rw [if_neg (by simp)]) ?_
  have h10 := pb_len10 N hN
  have h7 : (([] ++ a) ++ [7, 7, 7] : List Int).length = a.length + 3 := by simp
  have e1 : ([] ++ a : List Int) = a := List.nil_append a
  refine Ev.some_bind (Ev.ite_pos (by simp only [List.length_nil]; omega) (Ev.some_bind (Ev.some_bind (Ev.ite_pos (by rw [e1]; simp only [List.length_cons, List.length_nil]; omega) (Ev.some_bind (Ev.ite_pos (by omega) (Ev.ite_pos (by rw [h7]; omega) ?_)))))))
  have ht : (([] ++ a) ++ [7, 7, 7] : List Int).take (((a.length : Int) : Int)).toNat = a := by
    rw [e1, show ((a.length : Int)).toNat = a.length by omega, List.take_left]
  have hP : Ev (fun k => pack_Put.f k ((([] ++ a) ++ [7, 7, 7] : List Int).take (((a.length : Int) : Int)).toNat) (N : Int)) (a ++ pb N) := by
    rw [ht]
    exact Put10 N hN a (by omega)
  refine Ev.bind hP ?_
  refine Ev.some_bind (Ev.ite_pos (by simp only [List.length_nil]; omega) (Ev.some_bind ?_))
  refine Ev.bind (Bytes_ev N hN) (Ev.ite_pos (by rw [e1]; omega) ?_)
  refine Ev.bind (evs (Equal_self (a ++ pb N))) (Ev.ite_pos rfl (Ev.ite_pos (by rw [h7]; omega) ?_))
  have hr : rd (([] ++ a) ++ [7, 7, 7] : List Int) (a.length : Int) = 7 := by
    rw [e1]
    exact rd_mid a 7 [7, 7]
  rw [hr]
  exact j1_ev b hl hb
theorem PackNumbers : oriellaw03_PackNumbers.Pure := by
  intro n a b hn ha hb0
  have hn' : (decide (IntKind.u64.min ≤ n) && decide (n ≤ IntKind.u64.max)) = true := hn
  simp [IntKind.min, IntKind.max, IntKind.signed, IntKind.bits] at hn'
  obtain ⟨N, rfl⟩ := Int.eq_ofNat_of_zero_le hn'.1
  have hN : N < 18446744073709551616 := by omega
  have hb : ∀ x ∈ b, 0 ≤ x ∧ x < 256 := fun x hx => by
    have h : (decide (IntKind.u8.min ≤ x) && decide (x ≤ IntKind.u8.max)) = true := hb0.2 x hx
    simp [IntKind.min, IntKind.max, IntKind.signed, IntKind.bits] at h
    omega
  refine Ev.rounds ?_
  unfold oriellaw03_PackNumbers.f
  by_cases c : (a.length : Int) > 100
  · exact Ev.ite_pos c (j0_true _ a b)
  · refine Ev.ite_neg c ?_
    by_cases d : (b.length : Int) > 100
    · rw [decide_eq_true d]
      exact j0_true _ a b
    · rw [decide_eq_false d]
      exact numbers_ev N hN a b (by omega) (by omega) hb

end Go.Proofs.YtjekpecobkaaoaaDoor.Pure
