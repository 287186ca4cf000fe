/- Environments with their parts in memory; oriellaw11.Made. Conditions: as the theorems say. -/
import Derived.Test.YtkdfbfhajojdeaaEnvI
namespace Go.Proofs.Ytkdfbfhajojdeaa.Env
open Go Go.RowKit Go.Proofs.YtkdfbfhajojdeaaW.PrintWords Go.Proofs.YtkdfbfhajojdeaaW.PrintLast Go.Proofs.YtkdfbfhajojdeaaW.PrintMore Go.Proofs.Ytkdfbfhajojdeaa.POP
set_option linter.unusedVariables false
set_option linter.unusedSimpArgs false
/-- An environment made of bindings, with those that their items hold. -/
inductive EnvAt (w : World) : Option Addr → List S26 → Prop
  | nil : EnvAt w none []
  | snoc {p : Option Addr} {l : List S26} {g : Nat} {x : S26} {pa pr : Option Addr} : EnvAt w p l → w.heap[g]? = some (.cells (ndCells p ⟨⟨x.f0, x.f1⟩, x.f2, x.f3, pa, pr⟩) 54 (0, 0)) → EnvAt w pa x.f4 → EnvAt w pr x.f5 → EnvAt w (some ⟨g, 0, none⟩) (l ++ [x])
theorem EnvAt.same {w w1 : World} (hs : ∀ (g : Nat) (cs : Array Value), w.heap[g]? = some (.cells cs 54 (0, 0)) → w1.heap[g]? = some (.cells cs 54 (0, 0))) {p : Option Addr} {l : List S26} (h : EnvAt w p l) : EnvAt w1 p l := by
  induction h with
  | nil => exact .nil
  | snoc _ hc _ _ i1 i2 i3 => exact .snoc i1 (hs _ _ hc) i2 i3
theorem EnvAt.under {w w1 : World} {p : Option Addr} {l : List S26} (h : EnvAt w p l) (hb : Below w.heap.size w w1) : EnvAt w1 p l := h.same (fun _ _ h2 => blk_below h2 hb)
theorem EnvAt.far {w : World} {p : Option Addr} {l : List S26} (h : EnvAt w p l) {g : Nat} {cs : Array Value} {t : Nat} (hg : w.heap[g]? = some (.cells cs t (0, 0))) (ht : t ≠ 54) (j : Nat) (u : Value) : EnvAt (w.setCell ⟨g, j, none⟩ u) p l :=
  h.same (fun g2 cs2 h2 => blk_far h2 (blk_ne h2 hg (Ne.symm ht)) u)
/-- Lists of bindings that are short, of keys that a map takes, all the way down. -/
inductive GoodT : S26 → Prop
  | mk (x : S26) : wfK ⟨x.f0, x.f1⟩ → x.f4.length ≤ 1599289640400 → (∀ y ∈ x.f4, GoodT y) → x.f5.length ≤ 1599289640400 → (∀ y ∈ x.f5, GoodT y) → GoodT x
def GoodL (l : List S26) : Prop := l.length ≤ 1599289640400 ∧ ∀ y ∈ l, GoodT y
theorem GoodT.k {x : S26} (h : GoodT x) : wfK ⟨x.f0, x.f1⟩ := by cases h; assumption
theorem GoodT.p4 {x : S26} (h : GoodT x) : GoodL x.f4 := by cases h with | mk _ _ a b _ _ => exact ⟨a, b⟩
theorem GoodT.p5 {x : S26} (h : GoodT x) : GoodL x.f5 := by cases h with | mk _ _ _ _ a b => exact ⟨a, b⟩
theorem sz4 (x : S26) : SizeOf.sizeOf x.f4 < SizeOf.sizeOf x := by
  cases x
  simp only [S26.mk.sizeOf_spec]
  omega
theorem sz5 (x : S26) : SizeOf.sizeOf x.f5 < SizeOf.sizeOf x := by
  cases x
  simp only [S26.mk.sizeOf_spec]
  omega
theorem held6 {g : Nat} {v0 v1 v2 v3 v4 v5 : Value} {w : World} (h : w.heap[g]? = some (.cells #[v0, v1, v2, v3, v4, v5] 26 (0, 0))) : w.cell? ⟨g, 0, none⟩ = some v0 ∧ w.cell? ⟨g, 1, none⟩ = some v1 ∧ w.cell? ⟨g, 2, none⟩ = some v2 ∧ w.cell? ⟨g, 3, none⟩ = some v3 ∧ w.cell? ⟨g, 4, none⟩ = some v4 ∧ w.cell? ⟨g, 5, none⟩ = some v5 :=
  ⟨(blk_cell h 0).trans rfl, (blk_cell h 1).trans rfl, (blk_cell h 2).trans rfl, (blk_cell h 3).trans rfl, (blk_cell h 4).trans rfl, (blk_cell h 5).trans rfl⟩
set_option maxHeartbeats 8000000 in
set_option maxRecDepth 100000 in
theorem made_ (n : Nat) : ∀ (l : List S26), SizeOf.sizeOf l < n → ∀ (p0 : Option Addr) (l00 : List S26) (A : Option Addr) (c : Nat) (w : World), Kd.C k26 w A l.length l → GoodL l → EnvAt w p0 l00 →
    Calls Try.prog 9 #[.pointer p0, .slice A l.length c] w fun e w' => ∃ p, e = .returned (.pointer p) ∧ EnvAt w' p (l00 ++ l) ∧ Below w.heap.size w w' := by
  induction n with
  | zero => intro l h; exact absurd h (Nat.not_lt_zero _)
  | succ n ih =>
  intro l hn p0 l00 A c w hr hg he
  have IH := Aside0.mk ih
  have HR := Aside0.mk hr
  have HG := Aside0.mk hg
  have HE0 := Aside0.mk he
  have HS := Aside0.mk hn
  have HM := Aside0.mk (Below.refl w.heap.size w)
  have hu26 := Try.underlying26
  clear ih hr hg he hn
  go_enter Try.func9, Try.ntmps9
  go_wp2
  have HE1 : Aside0 (∃ w1, w1 = w ∧ EnvAt w1 p0 (l00 ++ l.take 0)) := ⟨w, rfl, by rw [List.take_zero, List.append_nil]; exact HE0.out⟩
  go_loopg [0, 9] (l.length + 1) (fun kq v0 v9 w' => ∃ (i : Nat) (a : Int) (p : Option Addr), v0 = .pointer p ∧ v9 = .int .i64 a ∧ Aside0 (a = (i : Int)) ∧ Aside0 (kq + i = l.length + 1 ∧ i ≤ l.length) ∧ Aside0 (EnvAt w' p (l00 ++ l.take i)) ∧ Aside0 (Below w.heap.size w w'))
  case atStart => exact ⟨0, 0, p0, rfl, rfl, ⟨rfl⟩, ⟨⟨by omega, by omega⟩⟩, ⟨by rw [List.take_zero, List.append_nil]; exact EnvAt.under HE0.out (by repeat (first | (with_reducible first | exact HM.out | apply below_alloc | apply pw_below_drewN | apply below_drew1) | exact HM.out))⟩, ⟨(by repeat (first | (with_reducible first | exact HM.out | apply below_alloc | apply pw_below_drewN | apply below_drew1) | exact HM.out))⟩⟩
  case round =>
    clear HE0 HE1 HM
    obtain ⟨i, a, p, rfl, rfl, HE, HK, HA, HB⟩ := hrel
    cases gk with
    | zero => have := HK.out; omega
    | succ k1 =>
      have HM := Aside0.mk (Below.refl wr.heap.size wr)
      by_cases c : a < (l.length : Int)
      · have c0b : decide (a < (l.length : Int)) = true := decide_eq_true c
        have hi : i < l.length := by have := HE.out; omega
        have p1 : (0 : Int) ≤ a := by have := HE.out; omega
        have q1 : a < (l.length : Int) := c
        obtain ⟨ad, A4, c4, A5, c5, ead, hx0, hx1, hx2, hx3, hx4, hx5, l4, g4, l5, g5⟩ := at_T26 HR.out a p1 q1
        cases ead
        replace hx0 := (HB.out.cell (World.block_lt_of_cell? w _ hx0)).trans hx0
        replace hx1 := (HB.out.cell (World.block_lt_of_cell? w _ hx1)).trans hx1
        replace hx2 := (HB.out.cell (World.block_lt_of_cell? w _ hx2)).trans hx2
        replace hx3 := (HB.out.cell (World.block_lt_of_cell? w _ hx3)).trans hx3
        replace hx4 := (HB.out.cell (World.block_lt_of_cell? w _ hx4)).trans hx4
        replace hx5 := (HB.out.cell (World.block_lt_of_cell? w _ hx5)).trans hx5
        obtain ⟨x, hx⟩ : ∃ x, l[i]? = some x := ⟨l[i], List.getElem?_eq_getElem hi⟩
        have hrd : rd_T26 l a = x := by unfold rd_T26; rw [HE.out, Int.toNat_natCast, List.getD_eq_getElem?_getD, hx]; rfl
        rw [hrd] at hx0 hx1 hx2 hx3 hx4 hx5 g4 g5
        have hmem := List.mem_of_getElem? hx
        have HX := Aside0.mk (HG.out.2 x hmem)
        have HZ4 : Aside0 (SizeOf.sizeOf x.f4 < n) := ⟨by have h1_ := sz4 x; have h2_ := List.sizeOf_lt_of_mem hmem; have h3_ := HS.out; omega⟩
        have HZ5 : Aside0 (SizeOf.sizeOf x.f5 < n) := ⟨by have h1_ := sz5 x; have h2_ := List.sizeOf_lt_of_mem hmem; have h3_ := HS.out; omega⟩
        have htk : Aside0 (l00 ++ l.take (i + 1) = (l00 ++ l.take i) ++ [x]) := ⟨by rw [List.take_succ_eq_append_getElem hi, List.append_assoc]; rw [List.getElem?_eq_getElem hi] at hx; rw [Option.some.inj hx]⟩
        have G4 := Aside0.mk g4
        have G5 := Aside0.mk g5
        have ew : wrap64 (a + 1) = a + 1 := wid (by have := HE.out; omega) (by have := HE.out; have := HG.out.1; omega)
        replace p1 := eq_true p1
        replace q1 := eq_true q1
        clear hrd hx c hmem g4 g5 l4 l5
        go_wp2_with (first | ((with_reducible refine gate_dst (N := 6) rfl ?_); refine box_event ?hg (N := 6) ?hd (cs := #[.int .i64 0, .string (⟨#[]⟩ : ByteArray), .int .i64 0, .int .i64 0, .slice none 0 0, .slice none 0 0]) (t := 26) ?hr ?_; (case hd => rfl); (case hg => rfl); (case hr => first | (go_simp; done) | (go_simp; rfl)); intro gb hg w1 hbox hb; have BK := Aside0.mk hbox; have GB := Aside0.mk ((by rw [hg]; exact (below_size (below_step HB.out (by repeat (first | (with_reducible first | exact HM.out | apply below_alloc | apply pw_below_drewN | apply below_drew1) | exact HM.out))))) : w.heap.size ≤ gb); have n0_ := Aside0.mk (below_step (by repeat (first | (with_reducible first | exact HM.out | apply below_alloc | apply pw_below_drewN | apply below_drew1) | exact HM.out)) hb); clear HM; have HM := n0_; clear n0_ hb hbox hg; have b0 : w1.cell? ⟨gb, 0, none⟩ = some (.int .i64 0) := (blk_cell BK.out 0).trans rfl; have b1 : w1.cell? ⟨gb, 1, none⟩ = some (.string ⟨#[]⟩) := (blk_cell BK.out 1).trans rfl; have b2 : w1.cell? ⟨gb, 2, none⟩ = some (.int .i64 0) := (blk_cell BK.out 2).trans rfl; have b3 : w1.cell? ⟨gb, 3, none⟩ = some (.int .i64 0) := (blk_cell BK.out 3).trans rfl; have b4 : w1.cell? ⟨gb, 4, none⟩ = some (.slice none 0 0) := (blk_cell BK.out 4).trans rfl; have b5 : w1.cell? ⟨gb, 5, none⟩ = some (.slice none 0 0) := (blk_cell BK.out 5).trans rfl; have f0 := blk_frozen BK.out 0; have f1 := blk_frozen BK.out 1; have f2 := blk_frozen BK.out 2; have f3 := blk_frozen BK.out 3; have f4 := blk_frozen BK.out 4; have f5 := blk_frozen BK.out 5))
        have BK0 := Aside0.mk (blk_put BK.out 0 (.int .i64 x.f0) rfl)
        have BK1 := Aside0.mk (blk_put BK0.out 1 (.string x.f1) rfl)
        have BK2 := Aside0.mk (blk_put BK1.out 2 (.int .i64 x.f2) rfl)
        have BK3 := Aside0.mk (blk_put BK2.out 3 (.int .i64 x.f3) rfl)
        have BK4 := Aside0.mk (blk_put BK3.out 4 (.slice A4 x.f4.length c4) rfl)
        have BK5 := Aside0.mk (blk_put BK4.out 5 (.slice A5 x.f5.length c5) rfl)
        have BKX := Aside0.mk (show (((((((w1.setCell ⟨gb, 0, none⟩ (.int .i64 x.f0)).setCell ⟨gb, 1, none⟩ (.string x.f1)).setCell ⟨gb, 2, none⟩ (.int .i64 x.f2)).setCell ⟨gb, 3, none⟩ (.int .i64 x.f3)).setCell ⟨gb, 4, none⟩ (.slice A4 x.f4.length c4)).setCell ⟨gb, 5, none⟩ (.slice A5 x.f5.length c5)).heap[gb]? = some (.cells #[.int .i64 x.f0, .string x.f1, .int .i64 x.f2, .int .i64 x.f3, .slice A4 x.f4.length c4, .slice A5 x.f5.length c5] 26 (0, 0))) from BK5.out)
        have HAX := Aside0.mk ((((((((HA.out.under HM.out).far BK.out (by decide) 0 (.int .i64 x.f0)).far BK0.out (by decide) 1 (.string x.f1)).far BK1.out (by decide) 2 (.int .i64 x.f2)).far BK2.out (by decide) 3 (.int .i64 x.f3)).far BK3.out (by decide) 4 (.slice A4 x.f4.length c4))).far BK4.out (by decide) 5 (.slice A5 x.f5.length c5))
        have HBX := Aside0.mk (below_set (below_set (below_set (below_set (below_set (below_set (below_step HB.out HM.out) GB.out (v := .int .i64 x.f0) (j := 0)) GB.out (v := .string x.f1) (j := 1)) GB.out (v := .int .i64 x.f2) (j := 2)) GB.out (v := .int .i64 x.f3) (j := 3)) GB.out (v := .slice A4 x.f4.length c4) (j := 4)) GB.out (v := .slice A5 x.f5.length c5) (j := 5))
        clear BK BK0 BK1 BK2 BK3 BK4 BK5 HA HB b0 b1 b2 b3 b4 b5 f0 f1 f2 f3 f4 f5 GB HM hx0 hx1 hx2 hx3 hx4 hx5
        generalize ((((((w1.setCell ⟨gb, 0, none⟩ (.int .i64 x.f0)).setCell ⟨gb, 1, none⟩ (.string x.f1)).setCell ⟨gb, 2, none⟩ (.int .i64 x.f2)).setCell ⟨gb, 3, none⟩ (.int .i64 x.f3)).setCell ⟨gb, 4, none⟩ (.slice A4 x.f4.length c4)).setCell ⟨gb, 5, none⟩ (.slice A5 x.f5.length c5)) = w2 at BKX HAX HBX ⊢
        refine start_ (n := 19) (S := fun w' => w'.cell? ⟨gb, 0, none⟩ = some (.int .i64 x.f0) ∧ w'.cell? ⟨gb, 1, none⟩ = some (.string x.f1) ∧ w'.cell? ⟨gb, 2, none⟩ = some (.int .i64 x.f2) ∧ w'.cell? ⟨gb, 3, none⟩ = some (.int .i64 x.f3) ∧ w'.cell? ⟨gb, 4, none⟩ = some (.slice A4 x.f4.length c4) ∧ w'.cell? ⟨gb, 5, none⟩ = some (.slice A5 x.f5.length c5)) (ds := []) #[false, false, false, false, false, false, false, false, false, false, false, false, false, false, false, false, false, false, false] (by kernel_rfl) rfl rfl (held6 (blk_drew BKX.out)) (fun hHeld => ?_)
        have n_ := Aside0.mk (EnvAt.under HAX.out (below_drew1 (Below.refl _ _)))
        clear HAX
        have HAX := n_
        clear n_
        have n_ := Aside0.mk (blk_drew BKX.out)
        clear BKX
        have BKX := n_
        clear n_
        have n_ := Aside0.mk (below_drew1 HBX.out)
        clear HBX
        have HBX := n_
        clear n_
        generalize w2.drew = w3 at BKX HAX HBX hHeld ⊢
        refine pure_ (i := 0) (N := some 13) (v := ?_) (a' := ?_) #[true, false, false, false, false, false, false, false, false, false, false, false, false, false, false, false, false, false, false] rfl rfl (by kernel_rfl) (fun _ _ _ h => h) (Or.inl ⟨by rfl, ?_⟩) ?_ ?_
        rotate_left
        · intro w'
          go_simp
          with_reducible rfl
        rotate_left
        · simp only [Act.put, List.setIfInBounds_toArray, List.set_cons_zero, List.set_cons_succ, i64_w, i32_w]
          rfl
        refine pure_ (i := 1) (N := some 14) (v := ?_) (a' := ?_) #[true, true, false, false, false, false, false, false, false, false, false, false, false, false, false, false, false, false, false] rfl rfl (by kernel_rfl) (fun _ _ _ h => h) (Or.inl ⟨by rfl, ?_⟩) ?_ ?_
        rotate_left
        · intro w'
          go_simp
          with_reducible rfl
        rotate_left
        · simp only [Act.put, List.setIfInBounds_toArray, List.set_cons_zero, List.set_cons_succ, i64_w, i32_w]
          rfl
        refine pure_ (i := 3) (N := some 16) (v := ?_) (a' := ?_) #[true, true, false, true, false, false, false, false, false, false, false, false, false, false, false, false, false, false, false] rfl rfl (by kernel_rfl) (fun _ _ _ h => h) (Or.inl ⟨by rfl, ?_⟩) ?_ ?_
        rotate_left
        · intro w'
          go_simp
          with_reducible rfl
        rotate_left
        · simp only [Act.put, List.setIfInBounds_toArray, List.set_cons_zero, List.set_cons_succ, i64_w, i32_w]
          rfl
        refine pure_ (i := 6) (N := some 19) (v := ?_) (a' := ?_) #[true, true, false, true, false, false, true, false, false, false, false, false, false, false, false, false, false, false, false] rfl rfl (by kernel_rfl) (fun _ _ _ h => h) (Or.inl ⟨by rfl, ?_⟩) ?_ ?_
        rotate_left
        · intro w'
          go_simp
          with_reducible rfl
        rotate_left
        · simp only [Act.put, List.setIfInBounds_toArray, List.set_cons_zero, List.set_cons_succ, i64_w, i32_w]
          rfl
        refine pure_ (i := 8) (N := some 21) (v := ?_) (a' := ?_) #[true, true, false, true, false, false, true, false, true, false, false, false, false, false, false, false, false, false, false] rfl rfl (by kernel_rfl) (fun _ _ _ h => h) (Or.inl ⟨by rfl, ?_⟩) ?_ ?_
        rotate_left
        · intro w'
          go_simp
          with_reducible rfl
        rotate_left
        · simp only [Act.put, List.setIfInBounds_toArray, List.set_cons_zero, List.set_cons_succ, i64_w, i32_w]
          rfl
        refine pure_ (i := 10) (N := some 23) (v := ?_) (a' := ?_) #[true, true, false, true, false, false, true, false, true, false, true, false, false, false, false, false, false, false, false] rfl rfl (by kernel_rfl) (fun _ _ _ h => h) (Or.inl ⟨by rfl, ?_⟩) ?_ ?_
        rotate_left
        · intro w'
          go_simp
          with_reducible rfl
        rotate_left
        · simp only [Act.put, List.setIfInBounds_toArray, List.set_cons_zero, List.set_cons_succ, i64_w, i32_w]
          rfl
        refine pure_ (i := 13) (N := some 26) (v := ?_) (a' := ?_) #[true, true, false, true, false, false, true, false, true, false, true, false, false, true, false, false, false, false, false] rfl rfl (by kernel_rfl) (fun _ _ _ h => h) (Or.inl ⟨by rfl, ?_⟩) ?_ ?_
        rotate_left
        · intro w'
          go_simp
          with_reducible rfl
        rotate_left
        · simp only [Act.put, List.setIfInBounds_toArray, List.set_cons_zero, List.set_cons_succ, i64_w, i32_w]
          rfl
        refine take_ (i := 2) (N := some 15) (v := ?_) (a' := ?_) #[true, true, true, true, false, false, true, false, true, false, true, false, false, true, false, false, false, false, false] rfl rfl (by kernel_rfl) (fun _ _ _ h => h) (Or.inl ⟨by rfl, ?_⟩) hHeld ?_ ?_
        rotate_left
        · rintro w' ⟨s0, s1, s2, s3, s4, s5⟩
          go_simp
          with_reducible rfl
        rotate_left
        · simp only [Act.put, List.setIfInBounds_toArray, List.set_cons_zero, List.set_cons_succ, i64_w, i32_w]
          rfl
        refine take_ (i := 4) (N := some 17) (v := ?_) (a' := ?_) #[true, true, true, true, true, false, true, false, true, false, true, false, false, true, false, false, false, false, false] rfl rfl (by kernel_rfl) (fun _ _ _ h => h) (Or.inl ⟨by rfl, ?_⟩) hHeld ?_ ?_
        rotate_left
        · rintro w' ⟨s0, s1, s2, s3, s4, s5⟩
          go_simp
          with_reducible rfl
        rotate_left
        · simp only [Act.put, List.setIfInBounds_toArray, List.set_cons_zero, List.set_cons_succ, i64_w, i32_w]
          rfl
        refine take_ (i := 7) (N := some 20) (v := ?_) (a' := ?_) #[true, true, true, true, true, false, true, true, true, false, true, false, false, true, false, false, false, false, false] rfl rfl (by kernel_rfl) (fun _ _ _ h => h) (Or.inl ⟨by rfl, ?_⟩) hHeld ?_ ?_
        rotate_left
        · rintro w' ⟨s0, s1, s2, s3, s4, s5⟩
          go_simp
          with_reducible rfl
        rotate_left
        · simp only [Act.put, List.setIfInBounds_toArray, List.set_cons_zero, List.set_cons_succ, i64_w, i32_w]
          rfl
        refine take_ (i := 9) (N := some 22) (v := ?_) (a' := ?_) #[true, true, true, true, true, false, true, true, true, true, true, false, false, true, false, false, false, false, false] rfl rfl (by kernel_rfl) (fun _ _ _ h => h) (Or.inl ⟨by rfl, ?_⟩) hHeld ?_ ?_
        rotate_left
        · rintro w' ⟨s0, s1, s2, s3, s4, s5⟩
          go_simp
          with_reducible rfl
        rotate_left
        · simp only [Act.put, List.setIfInBounds_toArray, List.set_cons_zero, List.set_cons_succ, i64_w, i32_w]
          rfl
        refine take_ (i := 11) (N := some 24) (v := ?_) (a' := ?_) #[true, true, true, true, true, false, true, true, true, true, true, true, false, true, false, false, false, false, false] rfl rfl (by kernel_rfl) (fun _ _ _ h => h) (Or.inl ⟨by rfl, ?_⟩) hHeld ?_ ?_
        rotate_left
        · rintro w' ⟨s0, s1, s2, s3, s4, s5⟩
          go_simp
          with_reducible rfl
        rotate_left
        · simp only [Act.put, List.setIfInBounds_toArray, List.set_cons_zero, List.set_cons_succ, i64_w, i32_w]
          rfl
        refine take_ (i := 14) (N := some 27) (v := ?_) (a' := ?_) #[true, true, true, true, true, false, true, true, true, true, true, true, false, true, true, false, false, false, false] rfl rfl (by kernel_rfl) (fun _ _ _ h => h) (Or.inl ⟨by rfl, ?_⟩) hHeld ?_ ?_
        rotate_left
        · rintro w' ⟨s0, s1, s2, s3, s4, s5⟩
          go_simp
          with_reducible rfl
        rotate_left
        · simp only [Act.put, List.setIfInBounds_toArray, List.set_cons_zero, List.set_cons_succ, i64_w, i32_w]
          rfl
        refine pure_ (i := 5) (N := some 18) (v := ?_) (a' := ?_) #[true, true, true, true, true, true, true, true, true, true, true, true, false, true, true, false, false, false, false] rfl rfl (by kernel_rfl) (fun _ _ _ h => h) (Or.inl ⟨by rfl, ?_⟩) ?_ ?_
        rotate_left
        · intro w'
          go_simp
          with_reducible rfl
        rotate_left
        · simp only [Act.put, List.setIfInBounds_toArray, List.set_cons_zero, List.set_cons_succ, i64_w, i32_w]
          rfl
        refine one_ (i := 12) (N := some 25) #[true, true, true, true, true, true, true, true, true, true, true, true, true, true, true, false, false, false, false] rfl rfl (by kernel_rfl) (by decide) (fun K hK => ?_)
        refine goes_ Try.func9 (by kernel_rfl) rfl #[.pointer none, .slice A4 x.f4.length c4] (by rfl) rfl rfl (by (try simp only [List.map_toArray, List.map_cons, List.map_nil]); first | done | rfl) ?_
        refine (IH.out x.f4 HZ4.out none [] A4 c4 w3 (Kd.C_below G4.out HBX.out) HX.out.p4 .nil).mono ?_
        rintro e w4 ⟨p4, rfl, he4, hb4⟩
        refine ⟨_, rfl, ?_⟩
        rw [List.nil_append] at he4
        have E4 := Aside0.mk he4
        have HA4 := Aside0.mk (EnvAt.under HAX.out hb4)
        have BK4 := Aside0.mk (blk_below BKX.out hb4)
        have HB4 := Aside0.mk (below_step HBX.out hb4)
        clear HAX BKX HBX he4 hb4
        refine hK.out _ _ (held6 BK4.out) (fun hHeld => ?_)
        clear hK K
        refine norm_ (a' := ?_) ?_ ?_
        rotate_left
        · show Act.put _ (some 25) _ = _
          simp only [Act.put, List.setIfInBounds_toArray, List.set_cons_zero, List.set_cons_succ, i64_w, i32_w]
          rfl
        refine one_ (i := 15) (N := some 28) #[true, true, true, true, true, true, true, true, true, true, true, true, true, true, true, true, false, false, false] rfl rfl (by kernel_rfl) (by decide) (fun K hK => ?_)
        refine goes_ Try.func9 (by kernel_rfl) rfl #[.pointer none, .slice A5 x.f5.length c5] (by rfl) rfl rfl (by (try simp only [List.map_toArray, List.map_cons, List.map_nil]); first | done | rfl) ?_
        refine (IH.out x.f5 HZ5.out none [] A5 c5 w4 (Kd.C_below G5.out HB4.out) HX.out.p5 .nil).mono ?_
        rintro e w5 ⟨p5, rfl, he5, hb5⟩
        refine ⟨_, rfl, ?_⟩
        rw [List.nil_append] at he5
        have E5 := Aside0.mk he5
        have E45 := Aside0.mk (EnvAt.under E4.out hb5)
        have HA5 := Aside0.mk (EnvAt.under HA4.out hb5)
        have BK5 := Aside0.mk (blk_below BK4.out hb5)
        have HB5 := Aside0.mk (below_step HB4.out hb5)
        clear HA4 BK4 HB4 E4 he5 hb5
        refine hK.out _ _ (held6 BK5.out) (fun hHeld => ?_)
        clear hK K
        refine norm_ (a' := ?_) ?_ ?_
        rotate_left
        · show Act.put _ (some 28) _ = _
          simp only [Act.put, List.setIfInBounds_toArray, List.set_cons_zero, List.set_cons_succ, i64_w, i32_w]
          rfl
        refine pure_ (i := 16) (N := some 29) (v := ?_) (a' := ?_) #[true, true, true, true, true, true, true, true, true, true, true, true, true, true, true, true, true, false, false] rfl rfl (by kernel_rfl) (fun _ _ _ h => h) (Or.inl ⟨by rfl, ?_⟩) ?_ ?_
        rotate_left
        · intro w'
          go_simp
          with_reducible rfl
        rotate_left
        · simp only [Act.put, List.setIfInBounds_toArray, List.set_cons_zero, List.set_cons_succ, i64_w, i32_w]
          rfl
        refine one_ (i := 17) (N := some 30) #[true, true, true, true, true, true, true, true, true, true, true, true, true, true, true, true, true, true, false] rfl rfl (by kernel_rfl) (by decide) (fun K hK => ?_)
        refine goes_ Try.func19 (by kernel_rfl) rfl #[.pointer p, .agg #[.int .i64 x.f0, .string x.f1], .agg #[.int .i64 x.f2, .int .i64 x.f3, .pointer p4, .pointer p5]] (by rfl) rfl rfl (by (try simp only [List.map_toArray, List.map_cons, List.map_nil]); first | done | rfl) ?_
        refine (with_ p ⟨⟨x.f0, x.f1⟩, x.f2, x.f3, p4, p5⟩ w5).mono ?_
        rintro e w6 ⟨g6, rfl, hg6, hc6, hb6⟩
        refine ⟨_, rfl, ?_⟩
        have HA6 : Aside0 (EnvAt w6 (some ⟨g6, 0, none⟩) (l00 ++ l.take (i + 1))) := ⟨by rw [htk.out]; exact .snoc (HA5.out.under hb6) hc6 (E45.out.under hb6) (E5.out.under hb6)⟩
        have BK6 := Aside0.mk (blk_below BK5.out hb6)
        have HB6 := Aside0.mk (below_step HB5.out hb6)
        clear HA5 BK5 HB5 E45 E5 hg6 hc6 hb6
        refine hK.out _ _ (held6 BK6.out) (fun hHeld => ?_)
        clear hK K
        refine norm_ (a' := ?_) ?_ ?_
        rotate_left
        · show Act.put _ (some 30) _ = _
          simp only [Act.put, List.setIfInBounds_toArray, List.set_cons_zero, List.set_cons_succ, i64_w, i32_w]
          rfl
        refine pure_ (i := 18) (N := some 0) (v := ?_) (a' := ?_) #[true, true, true, true, true, true, true, true, true, true, true, true, true, true, true, true, true, true, true] rfl rfl (by kernel_rfl) (fun _ _ _ h => h) (Or.inl ⟨by rfl, ?_⟩) ?_ ?_
        rotate_left
        · intro w'
          go_simp
          with_reducible rfl
        rotate_left
        · simp only [Act.put, List.setIfInBounds_toArray, List.set_cons_zero, List.set_cons_succ, i64_w, i32_w]
          rfl
        refine done_ (by kernel_rfl) ?_
        clear hHeld
        go_wp2
        go_roundg k1
        case measure => omega
        case rel => exact ⟨i + 1, a + 1, some ⟨g6, 0, none⟩, rfl, by rw [ew], ⟨by rw [HE.out]; rfl⟩, ⟨by have := HK.out; omega⟩, HA6, HB6⟩
      · have c0b : decide (a < (l.length : Int)) = false := decide_eq_false c
        have ei : i = l.length := by have := HE.out; have := HK.out; omega
        go_wp2
        go_ret
        exact ⟨p, rfl, by have h_ := HA.out; rw [ei, List.take_length] at h_; exact h_, HB.out⟩
end Go.Proofs.Ytkdfbfhajojdeaa.Env
