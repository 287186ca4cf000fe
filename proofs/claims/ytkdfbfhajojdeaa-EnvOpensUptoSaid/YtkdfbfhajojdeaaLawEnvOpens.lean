/- The row of the law EnvOpens: where the arguments are together of bulk at most 1048576, the call returns true and each argument reads as before. Out of its pure statement and the contract of its call. Written by ownrow.py, a program of this session, in the form of the kit's printed rows. -/
import Derived.Test.YtkdfbfhajojdeaaRows
import Derived.Test.YtkdfbfhajojdeaaPureEnvOpens
import Derived.WalkKit
import Derived.ProofKit
import Derived.OpenShut
import Derived.ShutString
import Derived.ChangeOld
import Derived.Below
import Derived.Deep.CondSized
namespace Go.Proofs.Ytkdfbfhajojdeaa.envOpens
open Go.ChangeShapes Go.WideShapes Go.ChangeAt Go.RowKit
open Go.ChangeMaps (open_string shut_string)
open Go.Proofs.YtkdfbfhajojdeaaW.PrintWords Go.Proofs.Ytkdfbfhajojdeaa.POP Go.Proofs.Ytkdfbfhajojdeaa.Frame
set_option linter.unusedVariables false
theorem own : ownKnob Try.prog.godebug = none := by kernel_rfl
theorem laidOut : laidOutB Try.prog = true := by kernel_rfl
/-- A slice is no longer than its bulk. -/
theorem bulk_len {H : Type} {enc : TypeId × Value → H} {w : World} {base : Nat} {held : Bool} {A : Option Addr} {len cap : Nat} {D : DataW H} {p : List MemPlace} (h : DataW.Trod enc Try.prog w base (fun _ => true) held 22 (.slice A len cap) D p) : len ≤ Rows.uptoBulk D := by
  obtain ⟨m, hm⟩ := h
  have key : ∀ l : List (DataW H), l.length ≤ Rows.uptoBulkAll l := fun l => by
    induction l with
    | nil => exact Nat.zero_le _
    | cons x r ih =>
      have h1 : 1 ≤ Rows.uptoBulk x := by
        cases x with
        | lit l => cases l <;> simp [Rows.uptoBulk]
        | _ => simp [Rows.uptoBulk]
      simp only [Rows.uptoBulkAll, List.length_cons]
      omega
  rcases DataW.trod_slice Try.underlying22 hm with ⟨h1, h2⟩ | ⟨a, len', cap', elems, rest, n, hfu, h1, h2, hb, hl, hmx, hlen, hel, _, _⟩
  · have h1' : Value.slice A len cap = Value.slice none 0 0 := by simpa [Value.cells] using h1
    injection h1' with _ h1' _
    omega
  · have h1' : Value.slice A len cap = Value.slice (some a) len' cap' := by simpa [Value.cells] using h1
    injection h1' with _ h1' _
    have h2' : D = .slice (elems.map (·.1)) (rest.map (·.1)) := (congrArg Prod.fst h2)
    rw [h2']
    have h3 := key (elems.map (·.1))
    rw [List.length_map] at h3
    simp only [Rows.uptoBulk]
    omega
set_option maxRecDepth 100000 in
theorem lifted (os : Os) (started : os.Started) (H : Type) (enc : TypeId × Value → H) (F : Stop.Interp) :
    ReturnsInHanded {} Try.checked os 5 .any ((Rows.OpenSpec.upto Rows.envOpensSpec).pre6 enc Try.prog Try.f5 Rows.envOpensUptoRow.domain false) (((Rows.OpenSpec.upto Rows.envOpensSpec).at F).post enc Try.prog Try.f5 false true false false) := by
  refine returnsInHanded_of_cond_sized (C := Try.checked) (s := Rows.OpenSpec.upto Rows.envOpensSpec) (k := Rows.uptoSmall) rfl own started (by kernel_rfl) Try.func5
    (OpenSpec.witness (enc := enc) (C := Try.checked) (s := Rows.OpenSpec.upto Rows.envOpensSpec) (k := Rows.uptoSmall) rfl false ⟨#[], #[.slice none 0 0, .slice none 0 0, .int .i64 0], []⟩ 8 (by kernel_rfl) (by kernel_rfl) (by kernel_rfl)
      (x := ([.nil, .nil, .lit (.int .i64 0)], [], [])) (by kernel_rfl) rfl (by kernel_rfl)) ?_
  intro W base args ds gs before hval0 hW _ hcnd hsz0 _
  have hval : ∀ (j : Nat) t v, Try.f5.params[j]? = some t → args[j]? = some v → Value.okWide Try.prog W .any base t v := hval0
  have hW' := hW
  obtain ⟨p, q, hA0, hV, rfl, hfz, hnd⟩ := hW
  have hA : DataW.TrodAll enc Try.prog W 0 (fun _ => true) true Try.f5.params.toList args.toList ds p := hA0
  rw [Try.params5] at hA hval
  obtain ⟨v0, vs0, d0, ds0, p0, q0, hargs, rfl, rfl, h0, r0⟩ := trodAll_cons hA
  obtain ⟨v1, vs1, d1, ds1, p1, q1, rfl, rfl, rfl, h1, r1⟩ := trodAll_cons r0
  obtain ⟨v2, vs2, d2, ds2, p2, q2, rfl, rfl, rfl, h2, r2⟩ := trodAll_cons r1
  obtain ⟨rfl, rfl, rfl⟩ := trodAll_nil r2
  obtain rfl : args = #[v0, v1, v2] := by cases args; simp_all
  obtain ⟨rfl, rfl⟩ := trodVars_none hV
  have k0 := h0
  have lt0 : ∀ x ∈ p0, x.block < W.heap.size := by obtain ⟨m, hm⟩ := k0; exact DataW.trod_lt m _ _ _ hm
  obtain ⟨A0, len0, cap0, rfl⟩ := okWide_slice Try.underlying22 (hval 0 22 v0 rfl rfl)
  have w0 : ∀ n ∈ d0.weights Try.prog 22, n ≤ reachBytes := fun n hn => of_decide_eq_true (List.all_eq_true.1 hsz0 n (DataW.weights_mem_each (j := 0) (t := 22) (d := d0) rfl rfl n hn))
  obtain ⟨a0, rfl, hc0, hC0, g0⟩ := RdW.arg (fun N => (RdW.slice Try.underlying22 (by kernel_rfl) (rdW26 N)).imp rfl (fun _ _ _ h => h) (fun _ h => h) (Nat.le_succ N)) h0 w0
  have k1 := h1
  have lt1 : ∀ x ∈ p1, x.block < W.heap.size := by obtain ⟨m, hm⟩ := k1; exact DataW.trod_lt m _ _ _ hm
  obtain ⟨A1, len1, cap1, rfl⟩ := okWide_slice Try.underlying22 (hval 1 22 v1 rfl rfl)
  have w1 : ∀ n ∈ d1.weights Try.prog 22, n ≤ reachBytes := fun n hn => of_decide_eq_true (List.all_eq_true.1 hsz0 n (DataW.weights_mem_each (j := 1) (t := 22) (d := d1) rfl rfl n hn))
  obtain ⟨a1, rfl, hc1, hC1, g1⟩ := RdW.arg (fun N => (RdW.slice Try.underlying22 (by kernel_rfl) (rdW26 N)).imp rfl (fun _ _ _ h => h) (fun _ h => h) (Nat.le_succ N)) h1 w1
  have k2 := h2
  have lt2 : ∀ x ∈ p2, x.block < W.heap.size := by obtain ⟨m, hm⟩ := k2; exact DataW.trod_lt m _ _ _ hm
  obtain ⟨a2, rfl, rfl, rfl, g2⟩ := open_int Try.underlying3 (hval 2 3 v2 rfl rfl) h2
  have bk : Rows.uptoBulkAll ([d0, d1, .lit (.int .i64 a2)] ++ []) ≤ 1048576 := of_decide_eq_true hcnd
  simp only [List.append_nil, Rows.uptoBulkAll] at bk
  have b0 := bulk_len k0
  have b1 := bulk_len k1
  obtain ⟨k, hP⟩ := Pure.EnvOpens a0 a1 a2 g0 g1 (by omega) (by omega)
  clear hA0 hval0 hsz0
  refine (oriellaw11_EnvOpens.calls k _ _ a0 _ _ a1 a2 true W hC0 hc0 hC1 hc1 hP).mono fun e W' ⟨he, bel0⟩ => ?_
  have bel : Below W.heap.size W W' := bel0
  subst he
  exact ⟨_, rfl, _, _, _, [], _, [], hW', trodAll_mk1 (shut_bool Try.underlying4 _), (trodAll_cons_mk (Below.trod laidOut (by kernel_rfl) (of_decide_eq_true (by kernel_rfl)) k0 bel lt0) (trodAll_cons_mk (Below.trod laidOut (by kernel_rfl) (of_decide_eq_true (by kernel_rfl)) k1 bel lt1) (trodAll_cons_mk (Below.trod laidOut (by kernel_rfl) (of_decide_eq_true (by kernel_rfl)) k2 bel lt2) trodAll_mk0))), rfl, bel.frame _, fun h => by cases h⟩
theorem over : Rows.EnvOpensUptoSaid :=
  OpenClaim.holds_of_cond 5 Try.f5 rfl rfl rfl rfl rfl rfl rfl ⟨rfl, rfl, rfl, rfl, rfl⟩ rfl rfl rfl rfl rfl (by kernel_rfl) Try.func5 (by kernel_rfl)
    (of_decide_eq_true (by kernel_rfl)) (by unfold Func.isWrapper; first | (rw [if_pos (by decide +kernel)]; kernel_rfl) | (rw [if_neg (by decide +kernel)]; exact ⟨rfl, rfl⟩))
    (fun os started H enc _ F => lifted os started H enc F)
theorem proved : Rows.EnvOpensUptoSaid := over
#print axioms proved
end Go.Proofs.Ytkdfbfhajojdeaa.envOpens
namespace Go.Proofs.Ytkdfbfhajojdeaa
/-- The row, under a short name, for the claim. -/
theorem envOpensUpto_holds : Rows.EnvOpensUptoSaid := envOpens.proved
end Go.Proofs.Ytkdfbfhajojdeaa
