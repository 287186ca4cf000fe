/- visible, and the functions that some asks. Conditions: as the theorems say. -/
import Derived.Test.YtkdfbfhajojdeaaEnvG26
import Derived.Test.YtkdfbfhajojdeaaEnvG27
namespace Go.Proofs.Ytkdfbfhajojdeaa.Env
open Go Go.RowKit Go.Proofs.YtkdfbfhajojdeaaW.PrintWords Go.Proofs.YtkdfbfhajojdeaaW.PrintLast Go.Proofs.YtkdfbfhajojdeaaW.PrintMore Go.Proofs.Ytkdfbfhajojdeaa.POP
attribute [local go_sem high] eqA28
set_option linter.unusedVariables false
set_option linter.unusedSimpArgs false
set_option maxHeartbeats 8000000 in
set_option maxRecDepth 100000 in
theorem every_ (p : Option Addr) (w : World) : Calls Try.prog 26 #[.pointer p] w fun e w' => e = .returned (.bool true) ∧ w' = w := by
  go_enter Try.func26, Try.ntmps26
  go_wp2
  go_ret
  exact ⟨rfl, rfl⟩
noncomputable local instance : DecidableEq S28 := fun a b => Classical.propDecidable _
def seenF (d : Ch) (k : S28) : Option Value := if d.any (fun y => keyEq y.2.k k) = true then some (.bool true) else none
def decV (d : Ch) (x : Nat × Nd) : Bool := !(d.any (fun y => keyEq y.2.k x.2.k))
theorem seen_put (d : Ch) (x : Nat × Nd) : (fun y => if y = x.2.k then some (.bool true) else seenF d y) = seenF (d ++ [x]) := by
  funext y
  unfold seenF
  rw [List.any_append]
  by_cases c : y = x.2.k
  · rw [if_pos c, if_pos (by rw [Bool.or_eq_true]; exact .inr (by simp [(keyEq_iff x.2.k y).mpr c.symm]))]
  · have : keyEq x.2.k y = false := by
      cases h : keyEq x.2.k y with
      | false => rfl
      | true => exact absurd ((keyEq_iff _ _).mp h).symm c
    have e2 : ([x].any fun y_1 => keyEq y_1.2.k y) = false := by simp only [List.any_cons, List.any_nil, this, Bool.or_false]
    rw [if_neg c, e2, Bool.or_false]
theorem seen_dec (d : Ch) (x : Nat × Nd) : (seenF d x.2.k).getD (.bool false) = .bool (!(decV d x)) := by
  unfold seenF decV
  rw [Bool.not_not]
  cases d.any (fun y => keyEq y.2.k x.2.k) <;> rfl
/-- What visible's function keeps: the variable, the map. -/
def VI (gs b : Nat) (d : Ch) (w : World) : Prop := w.heap[gs]? = some (.cells #[.map (some b)] 49 (0, 0)) ∧ MapK.MapAt Try.prog 28 kv w b d.length (seenF d)
theorem zr4 (w : World) : (zeroValue 4).run Try.prog w = .ok (.bool false) w := by
  have h : Try.t4.zero = some (.bool false) := by kernel_rfl
  simp [zeroValue, Try.underlying4, h]
set_option maxHeartbeats 8000000 in
set_option maxRecDepth 100000 in
theorem vstep (w0 : World) (gs b : Nat) (hb0 : w0.heap.size ≤ b) (l : Ch) (hw : ∀ x ∈ l, wfK x.2.k) (d : Ch) (x : Nat × Nd) (r : Ch) (w : World) (hl : l = d ++ x :: r) (hA : At w (x :: r)) (hI : VI gs b d w) (hB : Below w0.heap.size w0 w) :
    Calls Try.prog 27 #[.pointer (ptr (x :: r)), .pointer (some ⟨gs, 0, none⟩)] w fun e w' => e = .returned (.bool (decV d x)) ∧ VI gs b (d ++ [x]) w' ∧ Below w0.heap.size w0 w' ∧ TK (fun _ => False) w w' := by
  obtain ⟨g, e⟩ := x
  obtain ⟨lk, hk⟩ := key28 e.k (hw (g, e) (by rw [hl]; simp))
  have hK := Maps.Keyed.of_law law28
  have HA := Aside0.mk hA
  have HI := Aside0.mk hI
  have HB := Aside0.mk hB
  have HKY := Aside0.mk hk
  have HT := Aside0.mk (TK.refl (fun _ => False) w)
  have hp : ptr ((g, e) :: r) = some ⟨g, 0, none⟩ := rfl
  rw [hp]
  clear hA hI hB hk hw hl hp
  go_enter Try.func27, Try.ntmps27
  go_wp2
  refine start_ (n := 8) (S := fun w' => w'.cell? ⟨gs, 0, none⟩ = some (.map (some b)) ∧ w'.cell? ⟨g, 1, none⟩ = some (.int .i64 e.k.f0) ∧ w'.cell? ⟨g, 2, none⟩ = some (.string e.k.f1) ∧ MapK.MapAt Try.prog 28 kv w' b d.length (seenF d)) (ds := []) #[false, false, false, false, false, false, false, false] (by kernel_rfl) rfl rfl ⟨(blk_cell HI.out.1 0).trans rfl, (blk_cell HA.out.1 1).trans rfl, (blk_cell HA.out.1 2).trans rfl, HI.out.2.below (below_drew1 (Below.refl _ _))⟩ (fun hHeld => ?_)
  have n_ := Aside0.mk (At.below HA.out (below_drew1 (Below.refl _ _)))
  clear HA
  have HA := n_
  clear n_
  have n_ := Aside0.mk ((⟨blk_drew HI.out.1, HI.out.2.below (below_drew1 (Below.refl _ _))⟩ : VI gs b d w.drew))
  clear HI
  have HI := n_
  clear n_
  have n_ := Aside0.mk (below_drew1 HB.out)
  clear HB
  have HB := n_
  clear n_
  have n_ := Aside0.mk (TK.below (T := fun _ => False) (below_drew1 (Below.refl w.heap.size w)))
  clear HT
  have HT := n_
  clear n_
  generalize w.drew = w1 at HA HI HB HT hHeld ⊢
  refine pure_ (i := 1) (N := some 6) (v := ?_) (a' := ?_) #[false, true, false, false, false, false, false, false] rfl rfl (by kernel_rfl) (fun _ _ _ h => h) (Or.inl ⟨by rfl, ?_⟩) ?_ ?_
  rotate_left
  · intro w'
    go_simp
    with_reducible rfl
  rotate_left
  · simp only [Act.put, List.setIfInBounds_toArray, List.set_cons_zero, List.set_cons_succ, i64_w, i32_w]
    rfl
  refine pure_ (i := 2) (N := some 7) (v := ?_) (a' := ?_) #[false, true, true, false, false, false, false, false] rfl rfl (by kernel_rfl) (fun _ _ _ h => h) (Or.inl ⟨by rfl, ?_⟩) ?_ ?_
  rotate_left
  · intro w'
    go_simp
    with_reducible rfl
  rotate_left
  · simp only [Act.put, List.setIfInBounds_toArray, List.set_cons_zero, List.set_cons_succ, i64_w, i32_w]
    rfl
  refine pure_ (i := 3) (N := some 8) (v := ?_) (a' := ?_) #[false, true, true, true, false, false, false, false] rfl rfl (by kernel_rfl) (fun _ _ _ h => h) (Or.inl ⟨by rfl, ?_⟩) ?_ ?_
  rotate_left
  · intro w'
    go_simp
    with_reducible rfl
  rotate_left
  · simp only [Act.put, List.setIfInBounds_toArray, List.set_cons_zero, List.set_cons_succ, i64_w, i32_w]
    rfl
  refine take_ (i := 0) (N := some 5) (v := ?_) (a' := ?_) #[true, true, true, true, false, false, false, false] rfl rfl (by kernel_rfl) (fun _ _ _ h => h) (Or.inl ⟨by rfl, ?_⟩) hHeld ?_ ?_
  rotate_left
  · rintro w' ⟨s0, s1, s2, s3⟩
    go_simp
    with_reducible rfl
  rotate_left
  · simp only [Act.put, List.setIfInBounds_toArray, List.set_cons_zero, List.set_cons_succ, i64_w, i32_w]
    rfl
  refine take_ (i := 4) (N := some 9) (v := ?_) (a' := ?_) #[true, true, true, true, true, false, false, false] rfl rfl (by kernel_rfl) (fun _ _ _ h => h) (Or.inl ⟨by rfl, ?_⟩) hHeld ?_ ?_
  rotate_left
  · rintro w' ⟨s0, s1, s2, s3⟩
    go_simp
    with_reducible rfl
  rotate_left
  · simp only [Act.put, List.setIfInBounds_toArray, List.set_cons_zero, List.set_cons_succ, i64_w, i32_w]
    rfl
  refine take_ (i := 5) (N := some 10) (v := ?_) (a' := ?_) #[true, true, true, true, true, true, false, false] rfl rfl (by kernel_rfl) (fun _ _ _ h => h) (Or.inl ⟨by rfl, ?_⟩) hHeld ?_ ?_
  rotate_left
  · rintro w' ⟨s0, s1, s2, s3⟩
    have hk_ : (Instr.lookup 49 (.map (some b)) (.agg #[.int .i64 e.k.f0, .string e.k.f1]) false).run Try.prog w' = .ok (.bool (!(decV d (g, e)))) w' := by
      rw [← seen_dec]
      exact s3.look hK kv_inj Try.underlying49 (zr4 w') e.k HKY.out
    go_simp
    with_reducible rfl
  rotate_left
  · simp only [Act.put, List.setIfInBounds_toArray, List.set_cons_zero, List.set_cons_succ, i64_w, i32_w]
    rfl
  refine pure_ (i := 6) (N := some 11) (v := ?_) (a' := ?_) #[true, true, true, true, true, true, true, false] rfl rfl (by kernel_rfl) (fun _ _ _ h => h) (Or.inl ⟨by rfl, ?_⟩) ?_ ?_
  rotate_left
  · intro w'
    go_simp
    with_reducible rfl
  rotate_left
  · simp only [Act.put, List.setIfInBounds_toArray, List.set_cons_zero, List.set_cons_succ, i64_w, i32_w]
    rfl
  refine pure_ (i := 7) (N := some 4) (v := ?_) (a' := ?_) #[true, true, true, true, true, true, true, true] rfl rfl (by kernel_rfl) (fun _ _ _ h => h) (Or.inl ⟨by rfl, ?_⟩) ?_ ?_
  rotate_left
  · intro w'
    go_simp
    with_reducible rfl
  rotate_left
  · simp only [Act.put, List.setIfInBounds_toArray, List.set_cons_zero, List.set_cons_succ, i64_w, i32_w]
    rfl
  refine done_ (by kernel_rfl) ?_
  go_wp2
  clear hHeld
  refine start_ (n := 6) (S := fun w' => w'.cell? ⟨gs, 0, none⟩ = some (.map (some b)) ∧ w'.cell? ⟨g, 1, none⟩ = some (.int .i64 e.k.f0) ∧ w'.cell? ⟨g, 2, none⟩ = some (.string e.k.f1)) (ds := [5]) #[false, false, false, false, false, false] (by kernel_rfl) rfl rfl ⟨(blk_cell HI.out.1 0).trans rfl, (blk_cell HA.out.1 1).trans rfl, (blk_cell HA.out.1 2).trans rfl⟩ (fun hHeld => ?_)
  have n_ := Aside0.mk (At.below HA.out (below_drew1 (Below.refl _ _)))
  clear HA
  have HA := n_
  clear n_
  have n_ := Aside0.mk ((⟨blk_drew HI.out.1, HI.out.2.below (below_drew1 (Below.refl _ _))⟩ : VI gs b d w1.drew))
  clear HI
  have HI := n_
  clear n_
  have n_ := Aside0.mk (below_drew1 HB.out)
  clear HB
  have HB := n_
  clear n_
  have n_ := Aside0.mk (HT.out.trans (TK.below (T := fun _ => False) (below_drew1 (Below.refl w1.heap.size w1))))
  clear HT
  have HT := n_
  clear n_
  generalize w1.drew = w2 at HA HI HB HT hHeld ⊢
  refine pure_ (i := 1) (N := some 13) (v := ?_) (a' := ?_) #[false, true, false, false, false, false] rfl rfl (by kernel_rfl) (fun _ _ _ h => h) (Or.inl ⟨by rfl, ?_⟩) ?_ ?_
  rotate_left
  · intro w'
    go_simp
    with_reducible rfl
  rotate_left
  · simp only [Act.put, List.setIfInBounds_toArray, List.set_cons_zero, List.set_cons_succ, i64_w, i32_w]
    rfl
  refine pure_ (i := 2) (N := some 14) (v := ?_) (a' := ?_) #[false, true, true, false, false, false] rfl rfl (by kernel_rfl) (fun _ _ _ h => h) (Or.inl ⟨by rfl, ?_⟩) ?_ ?_
  rotate_left
  · intro w'
    go_simp
    with_reducible rfl
  rotate_left
  · simp only [Act.put, List.setIfInBounds_toArray, List.set_cons_zero, List.set_cons_succ, i64_w, i32_w]
    rfl
  refine pure_ (i := 3) (N := some 15) (v := ?_) (a' := ?_) #[false, true, true, true, false, false] rfl rfl (by kernel_rfl) (fun _ _ _ h => h) (Or.inl ⟨by rfl, ?_⟩) ?_ ?_
  rotate_left
  · intro w'
    go_simp
    with_reducible rfl
  rotate_left
  · simp only [Act.put, List.setIfInBounds_toArray, List.set_cons_zero, List.set_cons_succ, i64_w, i32_w]
    rfl
  refine take_ (i := 0) (N := some 12) (v := ?_) (a' := ?_) #[true, true, true, true, false, false] rfl rfl (by kernel_rfl) (fun _ _ _ h => h) (Or.inl ⟨by rfl, ?_⟩) hHeld ?_ ?_
  rotate_left
  · rintro w' ⟨s0, s1, s2⟩
    go_simp
    with_reducible rfl
  rotate_left
  · simp only [Act.put, List.setIfInBounds_toArray, List.set_cons_zero, List.set_cons_succ, i64_w, i32_w]
    rfl
  refine take_ (i := 4) (N := some 16) (v := ?_) (a' := ?_) #[true, true, true, true, true, false] rfl rfl (by kernel_rfl) (fun _ _ _ h => h) (Or.inl ⟨by rfl, ?_⟩) hHeld ?_ ?_
  rotate_left
  · rintro w' ⟨s0, s1, s2⟩
    go_simp
    with_reducible rfl
  rotate_left
  · simp only [Act.put, List.setIfInBounds_toArray, List.set_cons_zero, List.set_cons_succ, i64_w, i32_w]
    rfl
  refine last_ (i := 5) (N := none) #[true, true, true, true, true, true] rfl rfl (by kernel_rfl) (by decide) (fun K hK2 => ?_)
  refine MapK.put_step (kv := kv) (w := w2) (by rfl) rfl (by rfl) 4 hK kv_inj Try.underlying49 (by first | rfl | (go_simp; done) | (go_simp; rfl)) HI.out.2 e.k (.bool true) (by first | rfl | (go_simp; done) | (go_simp; rfl)) (by first | rfl | (go_simp; done) | (go_simp; rfl)) HKY.out (fun w3 m3 hg3 => ?_)
  have G3 : ∀ (g2 : Nat) (cs : Array Value) (t : Nat), w2.heap[g2]? = some (.cells cs t (0, 0)) → w3.heap[g2]? = some (.cells cs t (0, 0)) := fun g2 cs t h2 => (hg3.block g2 (Array.getElem?_eq_some_iff.mp h2).1 (fun e_ => HI.out.2.ne h2 (Option.some.inj e_).symm)).trans h2
  have HI3 : Aside0 (VI gs b (d ++ [(g, e)]) w3) := ⟨⟨G3 _ _ _ HI.out.1, by rw [List.length_append, List.length_singleton, ← seen_put d (g, e)]; exact m3⟩⟩
  have HB3 := Aside0.mk (HB.out.grown hg3 HB.out.size (fun k_ hk_ => by cases hk_; exact hb0))
  have HT3 := Aside0.mk (HT.out.trans (⟨hg3.size, fun g2 cs t h2 _ => G3 g2 cs t h2⟩ : TK (fun _ => False) w2 w3))
  refine hK2.out _ _ ?_
  clear hK2 K
  refine done_ (by kernel_rfl) ?_
  go_wp2
  go_ret
  exact ⟨by simp, HI3.out, HB3.out, HT3.out⟩
end Go.Proofs.Ytkdfbfhajojdeaa.Env
