/- PackBack: numbers, with a sign or without, and lists of them, are read from their bytes as they were; unlike lists have unlike bytes. The pure statement. Conditions: none beyond what the arguments read as. -/
import Derived.Test.YtjekpecobkaaoaaDoorInPackBack
import Derived.Test.YtjekpecobkaaoaaDoorPackD
namespace Go.Proofs.YtjekpecobkaaoaaDoor.Pure
set_option linter.unusedVariables false
set_option linter.unusedSimpArgs false
open Go Go.RowKit Go.Proofs.YtjekpecobkaaoaaDoorW.PrintWords Go.Proofs.YtjekpecobkaaoaaDoorW.PrintLast Go.Proofs.YtjekpecobkaaoaaDoorW.PrintMore Go.Proofs.YtjekpecobkaaoaaDoor.PAll Go.Proofs.YtjekpecobkaaoaaDoor.Frame Go.Proofs.YtjekpecobkaaoaaDoor.PackA Go.Proofs.YtjekpecobkaaoaaDoor.PackB Go.Proofs.YtjekpecobkaaoaaDoor.PackC Go.Proofs.YtjekpecobkaaoaaDoor.PackD

theorem No_ev (e : Int) : Ev (fun _ => oriellaw01_No.f e) e := Ev.now e
theorem evs {α : Type} {x : Option α} {r : α} (h : x = some r) : Ev (fun _ : Nat => x) r := by
  rw [h]
  exact Ev.now r
theorem j0_true (n m : Int) (l k : List Int) : Ev (fun K => oriellaw03_PackBack.j0 K n m l k true) true := by
  refine Ev.step (fun k => ?_) alive_tail
  simp only [oriellaw03_PackBack.j0]
  rw [if_true]
theorem i64_in {x : Int} (h : (inK .i64) x) : -9223372036854775808 ≤ x ∧ x ≤ 9223372036854775807 := by
  have h' : (decide (IntKind.i64.min ≤ x) && decide (x ≤ IntKind.i64.max)) = true := h
  simp [IntKind.min, IntKind.max, IntKind.signed, IntKind.bits] at h'
  omega
theorem lists_ev (l k : List Int) (hl : l.length ≤ 200) (hk : k.length ≤ 200) (hbl : ∀ x ∈ l, -9223372036854775808 ≤ x ∧ x ≤ 9223372036854775807) (hbk : ∀ x ∈ k, -9223372036854775808 ≤ x ∧ x ≤ 9223372036854775807) :
    Ev (fun K => oriellaw03_PackBack.j1 K l k false) true := by
  refine Ev.step (fun K => by simp only [oriellaw03_PackBack.j1]; rw [if_neg (by simp)]) ?_
  have h1 := Bytes_list l (by omega) hbl
  have h2 := Bytes_list k (by omega) hbk
  have h3 := Ints_list l (by omega) hbl
  have h4 := Ints_list k (by omega) hbk
  refine Ev.bind h1 (Ev.bind h2 (Ev.bind h3 ?_))
  refine Ev.bind (No_ev 0) (Ev.ite_pos rfl ?_)
  have h5 := LInts_ev l l (by omega)
  rw [decide_eq_true rfl] at h5
  refine Ev.bind h5 (Ev.ite_pos rfl ?_)
  have hby : ∀ (l : List Int), l.length ≤ 200 → (∀ x ∈ l, -9223372036854775808 ≤ x ∧ x ≤ 9223372036854775807) → ∀ x ∈ pb l.length ++ lb l, 0 ≤ x ∧ x < 256 := fun l hl hb x hx => by
    rcases List.mem_append.mp hx with h | h
    · exact pb_bytes 9 l.length (by omega) x h
    · exact lb_bytes l hb x h
  simp only [Equal_eq _ _ (hby l hl hbl) (hby k hk hbk), Option.bind_some]
  have h6 := LInts_ev l k (by omega)
  refine Ev.bind h6 ?_
  refine Ev.ite_pos ?_ alive_tail
  by_cases c : l = k
  · subst c
    simp
  · rw [decide_eq_false c, decide_eq_false (fun h => ?_)]
    · rfl
    · rw [h] at h3
      have := Ev.unique h3 h4
      exact c (congrArg Prod.fst this)
theorem PackBack : oriellaw03_PackBack.Pure := by
  intro n m l k hn hm hl hk
  have hn' : (decide (IntKind.u64.min ≤ n) && decide (n ≤ IntKind.u64.max)) = true := hn
  simp [IntKind.min, IntKind.max, IntKind.signed, IntKind.bits] at hn'
  obtain ⟨N, rfl⟩ := Int.eq_ofNat_of_zero_le hn'.1
  have hN : N < 18446744073709551616 := by omega
  have hm' := i64_in hm
  refine Ev.rounds ?_
  unfold oriellaw03_PackBack.f
  by_cases c : (l.length : Int) > 200
  · exact Ev.ite_pos c (j0_true _ m l k)
  · refine Ev.ite_neg c ?_
    by_cases d : (k.length : Int) > 200
    · rw [decide_eq_true d]
      exact j0_true _ m l k
    · rw [decide_eq_false d]
      refine Ev.step (fun K => by simp only [oriellaw03_PackBack.j0]; rw [if_neg (by simp)]) ?_
      have hP := Put10 N hN [] (by simp)
      rw [List.nil_append] at hP
      have hG := Get_pb N hN [] (by simp)
      rw [List.append_nil] at hG
      refine Ev.bind hP (Ev.bind hG ?_)
      refine Ev.bind (No_ev 0) (Ev.ite_pos rfl (Ev.ite_pos rfl ?_))
      refine Ev.bind hP (Ev.ite_pos rfl ?_)
      have hz := zig_range m hm'.1 hm'.2
      have hg := zag_range N hN
      have e1 : Ev (fun _ : Nat => pack_Zig.f m) ((zig m : Nat) : Int) := evs (Zig_eq m hm'.1 hm'.2)
      have e2 : Ev (fun _ : Nat => pack_Zag.f ((zig m : Nat) : Int)) m := evs (by rw [Zag_eq (zig m) hz, zag_zig])
      have e3 : Ev (fun _ : Nat => orielref03_Zig.f m) ((zig m : Nat) : Int) := evs (RZig_eq m hm'.1 hm'.2)
      have e4 : Ev (fun _ : Nat => pack_Zag.f ((N : Nat) : Int)) (zag N) := evs (Zag_eq N hN)
      have e5 : Ev (fun _ : Nat => pack_Zig.f (zag N)) ((N : Nat) : Int) := evs (by rw [Zig_eq (zag N) hg.1 hg.2, zig_zag])
      refine Ev.bind e1 (Ev.bind e2 (Ev.ite_pos rfl ?_))
      refine Ev.bind e1 (Ev.bind e3 (Ev.ite_pos rfl ?_))
      refine Ev.bind e4 (Ev.bind e5 ?_)
      rw [show ((((N : Nat) : Int)) != ((N : Nat) : Int)) = false by simp]
      exact lists_ev l k (by omega) (by omega) (fun x hx => i64_in (hl.2 x hx)) (fun x hx => i64_in (hk.2 x hx))

end Go.Proofs.YtjekpecobkaaoaaDoor.Pure
