/- Environments in memory: bindings that are never written again; With, Find. Conditions: as the theorems say. -/
import Derived.Test.YtkdfbfhajojdeaaMapK
import Derived.Test.YtkdfbfhajojdeaaPOPx1
namespace Go.Proofs.Ytkdfbfhajojdeaa.Env
open Go Go.RowKit Go.Proofs.YtkdfbfhajojdeaaW.PrintWords Go.Proofs.YtkdfbfhajojdeaaW.PrintLast Go.Proofs.YtkdfbfhajojdeaaW.PrintMore Go.Proofs.Ytkdfbfhajojdeaa.POP
attribute [local go_sem high] eqA28
set_option linter.unusedVariables false
set_option linter.unusedSimpArgs false
/-- A binding: its key, its item (of which the parts are told as values). -/
structure Nd where
  k : S28
  dc : Int
  vi : Int
  pa : Option Addr
  pr : Option Addr
/-- Bindings, the youngest first, each with its block. -/
abbrev Ch := List (Nat × Nd)
def ptr : Ch → Option Addr
  | [] => none
  | (g, _) :: _ => some ⟨g, 0, none⟩
def ndCells (u : Option Addr) (e : Nd) : Array Value := #[.pointer u, .int .i64 e.k.f0, .string e.k.f1, .int .i64 e.dc, .int .i64 e.vi, .pointer e.pa, .pointer e.pr]
/-- They lie in memory. -/
def At (w : World) : Ch → Prop
  | [] => True
  | (g, e) :: r => w.heap[g]? = some (.cells (ndCells (ptr r) e) 54 (0, 0)) ∧ At w r
theorem At.below {w w1 : World} : ∀ {l : Ch}, At w l → Below w.heap.size w w1 → At w1 l
  | [], _, _ => trivial
  | (g, e) :: r, h, hb => ⟨blk_below h.1 hb, At.below h.2 hb⟩
theorem At.same {w w1 : World} (hs : ∀ (g : Nat) (cs : Array Value), w.heap[g]? = some (.cells cs 54 (0, 0)) → w1.heap[g]? = some (.cells cs 54 (0, 0))) : ∀ {l : Ch}, At w l → At w1 l
  | [], _ => trivial
  | (g, e) :: r, h => ⟨hs g _ h.1, At.same hs h.2⟩
theorem At.far {w : World} {l : Ch} (h : At w l) {g : Nat} {cs : Array Value} {t : Nat} (hg : w.heap[g]? = some (.cells cs t (0, 0))) (ht : t ≠ 54) (j : Nat) (u : Value) : At (w.setCell ⟨g, j, none⟩ u) l :=
  h.same (fun g2 cs2 h2 => blk_far h2 (blk_ne h2 hg (Ne.symm ht)) u)
theorem At.grown {w w1 : World} {l : Ch} (h : At w l) {v : Value} {t : Nat} (hty : ∀ k, v.ownBlock = some k → ∃ cells, w.heap[k]? = some (.cells cells t (0, 0))) (ht : t ≠ 54) (hg : w.grownBy w1 v.ownBlock) : At w1 l :=
  h.same (fun g2 cs2 h2 => (hg.block g2 (Array.getElem?_eq_some_iff.mp h2).1 (fun e => by
    obtain ⟨cells, hc⟩ := hty g2 e.symm
    rw [hc] at h2
    injection h2 with h2
    injection h2 with _ h2 _
    exact ht h2)).trans h2)
set_option maxHeartbeats 8000000 in
set_option maxRecDepth 100000 in
theorem with_ (u : Option Addr) (e : Nd) (w : World) :
    Calls Try.prog 19 #[.pointer u, .agg #[.int .i64 e.k.f0, .string e.k.f1], .agg #[.int .i64 e.dc, .int .i64 e.vi, .pointer e.pa, .pointer e.pr]] w fun x w' => ∃ g, x = .returned (.pointer (some ⟨g, 0, none⟩)) ∧ w.heap.size ≤ g ∧ w'.heap[g]? = some (.cells (ndCells u e) 54 (0, 0)) ∧ Below w.heap.size w w' := by
  go_enter Try.func19, Try.ntmps19
  go_wp2
  go_ret
  refine ⟨_, rfl, by omega, ?_, below_alloc (below_alloc (below_alloc (Below.refl _ _) _) _) _⟩
  have h := (MapKept.heap_alloc ((w.alloc (.cells #[.int .i64 e.k.f0, .string e.k.f1] 28)).alloc (.cells #[.int .i64 e.dc, .int .i64 e.vi, .pointer e.pa, .pointer e.pr] 41)) (.cells (ndCells u e) 54)).1
  simpa [ndCells] using h
/-- What a key is bound to. -/
def find (k : S28) : Ch → Option Nd
  | [] => none
  | (_, e) :: r => if e.k.f0 == k.f0 && e.k.f1.toList == k.f1.toList then some e else find k r
def itemV : Option Nd → Value
  | none => .agg #[.int .i64 0, .int .i64 0, .pointer none, .pointer none]
  | some e => .agg #[.int .i64 e.dc, .int .i64 e.vi, .pointer e.pa, .pointer e.pr]
set_option maxHeartbeats 8000000 in
set_option maxRecDepth 100000 in
theorem find_ (l : Ch) (k : S28) (w : World) (hl : At w l) :
    Calls Try.prog 15 #[.pointer (ptr l), .agg #[.int .i64 k.f0, .string k.f1]] w fun x w' => x = .returned (.tuple #[itemV (find k l), .bool (find k l).isSome]) ∧ Below w.heap.size w w' := by
  have HL := Aside0.mk hl
  have HM := Aside0.mk (Below.refl w.heap.size w)
  have hu28 := Try.underlying28
  have hu41 := Try.underlying41
  have hu54 := Try.underlying54
  clear hl
  go_enter Try.func15, Try.ntmps15
  go_wp2_with (first | ((with_reducible refine gate_dst (N := 3) rfl ?_); refine box_event ?hg (N := 3) ?hd (cs := #[.int .i64 k.f0, .string k.f1]) (t := 28) ?hr ?_; (case hd => rfl); (case hg => rfl); (case hr => first | (go_simp; done) | (go_simp; rfl)); intro g3 hg w1 hbox hb; have n0_ := Aside0.mk (below_step (by repeat (first | (with_reducible first | exact HM.out | apply below_alloc | apply pw_below_drewN | apply below_drew1) | exact HM.out)) hb); have BK3 := Aside0.mk hbox; have GE3 := Aside0.mk ((by rw [hg]; exact (below_size (by repeat (first | (with_reducible first | exact HM.out | apply below_alloc | apply pw_below_drewN | apply below_drew1) | exact HM.out)))) : w.heap.size ≤ g3); clear HM; have HM := n0_; clear n0_ hb hbox hg) | ((with_reducible refine gate_dst (N := 4) rfl ?_); refine box_event ?hg (N := 4) ?hd (cs := #[.int .i64 0, .int .i64 0, .pointer none, .pointer none]) (t := 41) ?hr ?_; (case hd => rfl); (case hg => rfl); (case hr => first | (go_simp; done) | (go_simp; rfl)); intro g4 hg w2 hbox hb; have n0_ := Aside0.mk (below_step (by repeat (first | (with_reducible first | exact HM.out | apply below_alloc | apply pw_below_drewN | apply below_drew1) | exact HM.out)) hb); have BK4 := Aside0.mk hbox; have GE4 := Aside0.mk ((by rw [hg]; exact (below_size (by repeat (first | (with_reducible first | exact HM.out | apply below_alloc | apply pw_below_drewN | apply below_drew1) | exact HM.out)))) : w.heap.size ≤ g4); have n1_ := Aside0.mk (blk_below (by (with_reducible repeat (first | refine blk_drewN ?_ _ | refine blk_drew ?_ | refine blk_alloc ?_ _)); exact BK3.out) hb); have NE := Aside0.mk ((by rw [hg]; exact Nat.ne_of_lt (Array.getElem?_eq_some_iff.mp BK3.out).1) : g3 ≠ g4); clear BK3; have BK3 := n1_; clear n1_; clear HM; have HM := n0_; clear n0_ hb hbox hg))
  have HL2 := Aside0.mk (HL.out.below HM.out)
  go_loopg [6] (l.length + 1) (fun kq v6 w' => ∃ (l' : Ch), v6 = .pointer (ptr l') ∧ Aside0 (kq = l'.length + 1) ∧ Aside0 (find k l = find k l') ∧ Aside0 (At w' l') ∧ Aside0 (w'.heap[g3]? = some (.cells #[.int .i64 k.f0, .string k.f1] 28 (0, 0))) ∧ Aside0 (w'.heap[g4]? = some (.cells #[.int .i64 0, .int .i64 0, .pointer none, .pointer none] 41 (0, 0))) ∧ Aside0 (Below w.heap.size w w'))
  case atStart => exact ⟨l, rfl, ⟨rfl⟩, ⟨rfl⟩, HL2, BK3, BK4, HM⟩
  case round =>
    clear HL HL2 BK3 BK4 HM
    obtain ⟨l', rfl, HK, HF, HL, BK3, BK4, HM⟩ := hrel
    cases gk with
    | zero => have := HK.out; omega
    | succ k1 =>
      have b4_0 : wr.cell? ⟨g4, 0, none⟩ = some (.int .i64 0) := (blk_cell BK4.out 0).trans rfl
      have b4_1 : wr.cell? ⟨g4, 1, none⟩ = some (.int .i64 0) := (blk_cell BK4.out 1).trans rfl
      have b4_2 : wr.cell? ⟨g4, 2, none⟩ = some (.pointer none) := (blk_cell BK4.out 2).trans rfl
      have b4_3 : wr.cell? ⟨g4, 3, none⟩ = some (.pointer none) := (blk_cell BK4.out 3).trans rfl
      have f4_0 := blk_frozen BK4.out 0
      have f4_1 := blk_frozen BK4.out 1
      have f4_2 := blk_frozen BK4.out 2
      have f4_3 := blk_frozen BK4.out 3
      cases l' with
      | nil =>
        have hp : ptr ([] : Ch) = none := rfl
        rw [hp]
        have HF2 := HF.out
        go_wp2
        refine bodyPost_ret (results_list (rs := [.cell 4 41, .tmp 5]) rfl (by simp) (.cell g4 41 #[.int .i64 0, .int .i64 0, .pointer none, .pointer none] (0, 0) _ rfl (blk_put (blk_put (blk_put (blk_put BK4.out 0 _ rfl) 1 _ rfl) 2 _ rfl) 3 _ rfl) Try.underlying41 rfl (by kernel_rfl) (.tmp .nil))) rfl ?_
        exact ⟨by rw [HF2]; rfl, below_set (below_set (below_set (below_set HM.out GE4.out) GE4.out) GE4.out) GE4.out⟩
      | cons x r =>
        obtain ⟨g, e⟩ := x
        have hp : ptr ((g, e) :: r) = some ⟨g, 0, none⟩ := rfl
        rw [hp]
        clear hp
        have x1 : wr.cell? ⟨g, 1, none⟩ = some (.int .i64 e.k.f0) := (blk_cell HL.out.1 1).trans rfl
        have x2 : wr.cell? ⟨g, 2, none⟩ = some (.string e.k.f1) := (blk_cell HL.out.1 2).trans rfl
        have y0 : wr.cell? ⟨g3, 0, none⟩ = some (.int .i64 k.f0) := (blk_cell BK3.out 0).trans rfl
        have y1 : wr.cell? ⟨g3, 1, none⟩ = some (.string k.f1) := (blk_cell BK3.out 1).trans rfl
        go_wp2
        refine start_ (n := 6) (S := fun w' => w'.cell? ⟨g, 1, none⟩ = some (.int .i64 e.k.f0) ∧ w'.cell? ⟨g, 2, none⟩ = some (.string e.k.f1) ∧ w'.cell? ⟨g3, 0, none⟩ = some (.int .i64 k.f0) ∧ w'.cell? ⟨g3, 1, none⟩ = some (.string k.f1)) (ds := []) #[false, false, false, false, false, false] (by kernel_rfl) rfl rfl ⟨x1, x2, y0, y1⟩ (fun hHeld => ?_)
        have n_ := Aside0.mk (At.below HL.out (below_drew1 (Below.refl _ _)))
        clear HL
        have HL := n_
        clear n_
        have n_ := Aside0.mk (blk_drew BK3.out)
        clear BK3
        have BK3 := n_
        clear n_
        have n_ := Aside0.mk (blk_drew BK4.out)
        clear BK4
        have BK4 := n_
        clear n_
        have n_ := Aside0.mk (below_drew1 HM.out)
        clear HM
        have HM := n_
        clear n_
        clear x1 x2 y0 y1 b4_0 b4_1 b4_2 b4_3 f4_0 f4_1 f4_2 f4_3
        generalize wr.drew = wd at HL BK3 BK4 HM hHeld ⊢
        refine pure_ (i := 0) (N := some 14) (v := ?_) (a' := ?_) #[true, false, false, false, false, false] rfl rfl (by kernel_rfl) (fun _ _ _ h => h) (Or.inl ⟨by rfl, ?_⟩) ?_ ?_
        rotate_left
        · intro w'
          go_simp
          with_reducible rfl
        rotate_left
        · simp only [Act.put, List.setIfInBounds_toArray, List.set_cons_zero, List.set_cons_succ, i64_w, i32_w]
          rfl
        refine pure_ (i := 1) (N := some 15) (v := ?_) (a' := ?_) #[true, true, false, false, false, false] rfl rfl (by kernel_rfl) (fun _ _ _ h => h) (Or.inl ⟨by rfl, ?_⟩) ?_ ?_
        rotate_left
        · intro w'
          go_simp
          with_reducible rfl
        rotate_left
        · simp only [Act.put, List.setIfInBounds_toArray, List.set_cons_zero, List.set_cons_succ, i64_w, i32_w]
          rfl
        refine pure_ (i := 2) (N := some 16) (v := ?_) (a' := ?_) #[true, true, true, false, false, false] rfl rfl (by kernel_rfl) (fun _ _ _ h => h) (Or.inl ⟨by rfl, ?_⟩) ?_ ?_
        rotate_left
        · intro w'
          go_simp
          with_reducible rfl
        rotate_left
        · simp only [Act.put, List.setIfInBounds_toArray, List.set_cons_zero, List.set_cons_succ, i64_w, i32_w]
          rfl
        refine take_ (i := 3) (N := some 17) (v := ?_) (a' := ?_) #[true, true, true, true, false, false] rfl rfl (by kernel_rfl) (fun _ _ _ h => h) (Or.inl ⟨by rfl, ?_⟩) hHeld ?_ ?_
        rotate_left
        · rintro w' ⟨s0, s1, s2, s3⟩
          go_simp
          with_reducible rfl
        rotate_left
        · simp only [Act.put, List.setIfInBounds_toArray, List.set_cons_zero, List.set_cons_succ, i64_w, i32_w]
          rfl
        refine take_ (i := 4) (N := some 18) (v := ?_) (a' := ?_) #[true, true, true, true, true, false] rfl rfl (by kernel_rfl) (fun _ _ _ h => h) (Or.inl ⟨by rfl, ?_⟩) hHeld ?_ ?_
        rotate_left
        · rintro w' ⟨s0, s1, s2, s3⟩
          go_simp
          with_reducible rfl
        rotate_left
        · simp only [Act.put, List.setIfInBounds_toArray, List.set_cons_zero, List.set_cons_succ, i64_w, i32_w]
          rfl
        refine pure_ (i := 5) (N := some 19) (v := ?_) (a' := ?_) #[true, true, true, true, true, true] rfl rfl (by kernel_rfl) (fun _ _ _ h => h) (Or.inl ⟨by rfl, ?_⟩) ?_ ?_
        rotate_left
        · intro w'
          go_simp
          with_reducible rfl
        rotate_left
        · simp only [Act.put, List.setIfInBounds_toArray, List.set_cons_zero, List.set_cons_succ, i64_w, i32_w]
          rfl
        refine done_ (by kernel_rfl) ?_
        clear hHeld
        have x0 : wd.cell? ⟨g, 0, none⟩ = some (.pointer (ptr r)) := (blk_cell HL.out.1 0).trans rfl
        have x3 : wd.cell? ⟨g, 3, none⟩ = some (.int .i64 e.dc) := (blk_cell HL.out.1 3).trans rfl
        have x4 : wd.cell? ⟨g, 4, none⟩ = some (.int .i64 e.vi) := (blk_cell HL.out.1 4).trans rfl
        have x5 : wd.cell? ⟨g, 5, none⟩ = some (.pointer e.pa) := (blk_cell HL.out.1 5).trans rfl
        have x6 : wd.cell? ⟨g, 6, none⟩ = some (.pointer e.pr) := (blk_cell HL.out.1 6).trans rfl
        have b4_0 : wd.cell? ⟨g4, 0, none⟩ = some (.int .i64 0) := (blk_cell BK4.out 0).trans rfl
        have b4_1 : wd.cell? ⟨g4, 1, none⟩ = some (.int .i64 0) := (blk_cell BK4.out 1).trans rfl
        have b4_2 : wd.cell? ⟨g4, 2, none⟩ = some (.pointer none) := (blk_cell BK4.out 2).trans rfl
        have b4_3 : wd.cell? ⟨g4, 3, none⟩ = some (.pointer none) := (blk_cell BK4.out 3).trans rfl
        have f4_0 := blk_frozen BK4.out 0
        have f4_1 := blk_frozen BK4.out 1
        have f4_2 := blk_frozen BK4.out 2
        have f4_3 := blk_frozen BK4.out 3
        generalize hc : (e.k.f0 == k.f0 && e.k.f1.toList == k.f1.toList) = bv
        have Hc := Aside0.mk hc
        clear hc
        cases bv with
        | true =>
          have HF2 : find k l = some e := by rw [HF.out, find, if_pos Hc.out]
          go_wp2
          refine bodyPost_ret (results_list (rs := [.cell 4 41, .tmp 5]) rfl (by simp) (.cell g4 41 #[.int .i64 e.dc, .int .i64 e.vi, .pointer e.pa, .pointer e.pr] (0, 0) _ rfl (blk_put (blk_put (blk_put (blk_put BK4.out 0 _ rfl) 1 _ rfl) 2 _ rfl) 3 _ rfl) Try.underlying41 rfl (by kernel_rfl) (.tmp .nil))) rfl ?_
          exact ⟨by rw [HF2]; rfl, below_set (below_set (below_set (below_set HM.out GE4.out) GE4.out) GE4.out) GE4.out⟩
        | false =>
          have HF2 : Aside0 (find k l = find k r) := ⟨by rw [HF.out, find, if_neg (by rw [Hc.out]; decide)]⟩
          go_wp2
          go_roundg k1
          case measure => omega
          case rel => exact ⟨r, rfl, ⟨by have := HK.out; rw [List.length_cons] at this; omega⟩, HF2, ⟨HL.out.2⟩, BK3, BK4, HM⟩
end Go.Proofs.Ytkdfbfhajojdeaa.Env
