/- env.Twice. Conditions: as the theorems say. -/
import Derived.Test.YtkdfbfhajojdeaaEnvI
namespace Go.Proofs.Ytkdfbfhajojdeaa.Env
open Go Go.RowKit Go.Proofs.YtkdfbfhajojdeaaW.PrintWords Go.Proofs.YtkdfbfhajojdeaaW.PrintLast Go.Proofs.YtkdfbfhajojdeaaW.PrintMore Go.Proofs.Ytkdfbfhajojdeaa.PET
attribute [local go_sem high] eqA28
set_option linter.unusedVariables false
set_option linter.unusedSimpArgs false
instance (k : S28) : Decidable (wfK k) := by unfold wfK; infer_instance
/-- The first key that is there twice. -/
def twG : List S28 → List S28 → Int × Bool
  | _, [] => (0, false)
  | d, x :: r => if d.any (fun y => keyEq y x) = true then ((d.length : Int), true) else twG (d ++ [x]) r
def twiceF (l : List S28) : Option (Int × Bool) := if (∀ x ∈ l, wfK x) ∧ l.length ≤ 1000000 then some (twG [] l) else none
def seenK (d : List S28) (k : S28) : Option Value := if d.any (fun y => keyEq y k) = true then some (.bool true) else none
noncomputable local instance : DecidableEq S28 := fun a b => Classical.propDecidable _
theorem seenK_put (d : List S28) (x : S28) : (fun y => if y = x then some (.bool true) else seenK d y) = seenK (d ++ [x]) := by
  funext y
  unfold seenK
  rw [List.any_append]
  by_cases c : y = x
  · rw [if_pos c, if_pos (by rw [Bool.or_eq_true]; exact .inr (by simp [(keyEq_iff x y).mpr c.symm]))]
  · have : keyEq x y = false := by
      cases h : keyEq x y with
      | false => rfl
      | true => exact absurd ((keyEq_iff _ _).mp h).symm c
    have e2 : ([x].any fun y_1 => keyEq y_1 y) = false := by simp only [List.any_cons, List.any_nil, this, Bool.or_false]
    rw [if_neg c, e2, Bool.or_false]
theorem seenK_get (d : List S28) (x : S28) : (seenK d x).getD (.bool false) = .bool (d.any (fun y => keyEq y x)) := by
  unfold seenK
  cases d.any (fun y => keyEq y x) <;> rfl
set_option maxHeartbeats 8000000 in
set_option maxRecDepth 100000 in
theorem twice (A0 : Option Addr) (c0 : Nat) (l0 : List S28) (r1 : Int) (r2 : Bool) (w : World) (hr0 : Kd.C k28 w A0 l0.length l0) (hc0 : l0.length ≤ c0) (h : twiceF l0 = some (r1, r2)) :
    Calls Try.prog 7 #[.slice A0 l0.length c0] w fun e w' => e = .returned (.tuple #[.int .i64 r1, .bool r2]) ∧ Below w.heap.size w w' := by
  unfold twiceF at h
  by_cases hh : (∀ x ∈ l0, wfK x) ∧ l0.length ≤ 1000000
  case neg => rw [if_neg hh] at h; cases h
  rw [if_pos hh] at h
  injection h with h
  have HH := Aside0.mk h
  have HW := Aside0.mk hh.1
  have HN := Aside0.mk hh.2
  have HR0 := Aside0.mk hr0
  have HM := Aside0.mk (Below.refl w.heap.size w)
  have hu28 := Try.underlying28
  have hK := Maps.Keyed.of_law law28
  have hmm := @run_makeMap Try.prog
  clear h hh hr0 hc0
  go_enter Try.func7, Try.ntmps7
  go_wp2
  go_loopg [10] (l0.length + 1) (fun kq v10 w' => ∃ (i : Nat) (a : Int), v10 = .int .i64 a ∧ Aside0 (a = (i : Int)) ∧ Aside0 (kq + i = l0.length + 1 ∧ i ≤ l0.length) ∧ Aside0 (twG (l0.take i) (l0.drop i) = (r1, r2)) ∧ Aside0 (MapK.MapAt Try.prog 28 kv w' w.heap.size i (seenK (l0.take i))) ∧ Aside0 (Below w.heap.size w w'))
  case atStart => exact ⟨0, 0, rfl, ⟨rfl⟩, ⟨⟨by omega, by omega⟩⟩, HH, ⟨by first | exact MapK.made Try.prog 28 kv w | exact (MapK.made Try.prog 28 kv w).below (by repeat (first | (with_reducible first | exact Below.refl _ _ | apply below_alloc | apply pw_below_drewN | apply below_drew1)))⟩, ⟨(by repeat (first | (with_reducible first | exact HM.out | apply below_alloc | apply pw_below_drewN | apply below_drew1) | exact HM.out))⟩⟩
  case round =>
    clear HH HM
    obtain ⟨i, a, rfl, HE, HK, HT, MP, HB⟩ := hrel
    cases gk with
    | zero => have := HK.out; omega
    | succ k1 =>
      have HM := Aside0.mk (Below.refl wr.heap.size wr)
      by_cases c : a < (l0.length : Int)
      · have c0b : decide (a < (l0.length : Int)) = true := decide_eq_true c
        have hi : i < l0.length := by have := HE.out; omega
        have p1 : (0 : Int) ≤ a := by have := HE.out; omega
        have q1 : a < (l0.length : Int) := c
        obtain ⟨ad, ead, hx0, hx1⟩ := at_T28 HR0.out a p1 q1
        cases ead
        replace hx0 := (HB.out.cell (World.block_lt_of_cell? w _ hx0)).trans hx0
        replace hx1 := (HB.out.cell (World.block_lt_of_cell? w _ hx1)).trans hx1
        obtain ⟨e, he⟩ : ∃ e, l0[i]? = some e := ⟨l0[i], List.getElem?_eq_getElem hi⟩
        have hrd : rd_T28 l0 a = e := by unfold rd_T28; rw [HE.out, Int.toNat_natCast, List.getD_eq_getElem?_getD, he]; rfl
        rw [hrd] at hx0 hx1
        obtain ⟨lk, hk⟩ := key28 e (HW.out e (List.mem_of_getElem? he))
        have HKY := Aside0.mk hk
        have hdr : l0.drop i = e :: l0.drop (i + 1) := by rw [List.drop_eq_getElem_cons hi]; rw [List.getElem?_eq_getElem hi] at he; rw [Option.some.inj he]
        have htk : l0.take (i + 1) = l0.take i ++ [e] := by rw [List.take_succ_eq_append_getElem hi]; rw [List.getElem?_eq_getElem hi] at he; rw [Option.some.inj he]
        have HD := Aside0.mk hdr
        have HTK := Aside0.mk htk
        have ew : wrap64 (a + 1) = a + 1 := wid (by have := HE.out; omega) (by have := HE.out; have := HN.out; omega)
        replace p1 := eq_true p1
        replace q1 := eq_true q1
        clear hdr htk hk hrd he c
        cases hs : (l0.take i).any (fun y => keyEq y e) with
        | true =>
          have HT2 := HT.out
          rw [HD.out, twG, if_pos hs] at HT2
          injection HT2 with t1 t2
          subst t1
          subst t2
          have hlen : Aside0 (((l0.take i).length : Int) = a) := ⟨by rw [List.length_take, Nat.min_eq_left (by omega), HE.out]⟩
          go_wp2_with (first | ((with_reducible refine gate_dst (N := 6) rfl ?_); refine box_event ?hg (N := 6) ?hd (cs := #[.int .i64 0, .string (⟨#[]⟩ : ByteArray)]) (t := 28) ?hr ?_; (case hd => rfl); (case hg => rfl); (case hr => first | (go_simp; done) | (go_simp; rfl)); intro gb hg w1 hbox hb; have BK := Aside0.mk hbox; have GB := Aside0.mk ((by rw [hg]; exact (below_size (below_step HB.out (by repeat (first | (with_reducible first | exact HM.out | apply below_alloc | apply pw_below_drewN | apply below_drew1) | exact HM.out))))) : w.heap.size ≤ gb); have n0_ := Aside0.mk (below_step (by repeat (first | (with_reducible first | exact HM.out | apply below_alloc | apply pw_below_drewN | apply below_drew1) | exact HM.out)) hb); clear HM; have HM := n0_; clear n0_ hb hbox hg; have MP1 := Aside0.mk (MP.out.below HM.out); have b0 : w1.cell? ⟨gb, 0, none⟩ = some (.int .i64 0) := (blk_cell BK.out 0).trans rfl; have b1 : w1.cell? ⟨gb, 1, none⟩ = some (.string ⟨#[]⟩) := (blk_cell BK.out 1).trans rfl; have f0 := blk_frozen BK.out 0; have f1 := blk_frozen BK.out 1; have nb := MP1.out.ne BK.out; have MP2 := Aside0.mk ((MP1.out.far (p := ⟨gb, 0, none⟩) nb (.int .i64 e.f0)).far (p := ⟨gb, 1, none⟩) nb (.string e.f1)); have HB2 := Aside0.mk (below_set (below_set (below_step HB.out HM.out) GB.out (v := .int .i64 e.f0) (j := 0)) GB.out (v := .string e.f1) (j := 1)); clear nb) | ((with_reducible refine gate_dst (N := 17) rfl ?_); refine MapK.look' (kv := kv) rfl _ _ _ rfl 4 hK kv_inj Try.underlying49 (zr4 _) ?hm MP2.out e ?hx HKY.out (v := .bool true) ?hv ?_; (case hm => first | rfl | (go_simp; done) | (go_simp; rfl)); (case hx => first | rfl | (go_simp; done) | (go_simp; rfl)); (case hv => rw [seenK_get, hs])))
          go_ret2
          exact ⟨by rw [hlen.out]; rfl, HB2.out⟩
        | false =>
          have HT2 := HT.out
          rw [HD.out, twG, if_neg (by rw [hs]; decide), ← HTK.out] at HT2
          have HT3 := Aside0.mk HT2
          clear HT2
          go_wp2_with (first | ((with_reducible refine gate_dst (N := 6) rfl ?_); refine box_event ?hg (N := 6) ?hd (cs := #[.int .i64 0, .string (⟨#[]⟩ : ByteArray)]) (t := 28) ?hr ?_; (case hd => rfl); (case hg => rfl); (case hr => first | (go_simp; done) | (go_simp; rfl)); intro gb hg w1 hbox hb; have BK := Aside0.mk hbox; have GB := Aside0.mk ((by rw [hg]; exact (below_size (below_step HB.out (by repeat (first | (with_reducible first | exact HM.out | apply below_alloc | apply pw_below_drewN | apply below_drew1) | exact HM.out))))) : w.heap.size ≤ gb); have n0_ := Aside0.mk (below_step (by repeat (first | (with_reducible first | exact HM.out | apply below_alloc | apply pw_below_drewN | apply below_drew1) | exact HM.out)) hb); clear HM; have HM := n0_; clear n0_ hb hbox hg; have MP1 := Aside0.mk (MP.out.below HM.out); have b0 : w1.cell? ⟨gb, 0, none⟩ = some (.int .i64 0) := (blk_cell BK.out 0).trans rfl; have b1 : w1.cell? ⟨gb, 1, none⟩ = some (.string ⟨#[]⟩) := (blk_cell BK.out 1).trans rfl; have f0 := blk_frozen BK.out 0; have f1 := blk_frozen BK.out 1; have nb := MP1.out.ne BK.out; have MP2 := Aside0.mk ((MP1.out.far (p := ⟨gb, 0, none⟩) nb (.int .i64 e.f0)).far (p := ⟨gb, 1, none⟩) nb (.string e.f1)); have HB2 := Aside0.mk (below_set (below_set (below_step HB.out HM.out) GB.out (v := .int .i64 e.f0) (j := 0)) GB.out (v := .string e.f1) (j := 1)); clear nb) | ((with_reducible refine gate_dst (N := 17) rfl ?_); refine MapK.look' (kv := kv) rfl _ _ _ rfl 4 hK kv_inj Try.underlying49 (zr4 _) ?hm MP2.out e ?hx HKY.out (v := .bool false) ?hv ?_; (case hm => first | rfl | (go_simp; done) | (go_simp; rfl)); (case hx => first | rfl | (go_simp; done) | (go_simp; rfl)); (case hv => rw [seenK_get, hs])) | (refine MapK.put' (kv := kv) rfl _ _ _ _ rfl 4 hK kv_inj Try.underlying49 ?pm MP2.out e (.bool true) ?px ?pv HKY.out (fun w9 m9 hg9 => ?_); (case pm => first | rfl | (go_simp; done) | (go_simp; rfl)); (case px => first | rfl | (go_simp; done) | (go_simp; rfl)); (case pv => first | rfl | (go_simp; done) | (go_simp; rfl)); have MP9 := Aside0.mk m9; have HB9 := Aside0.mk (HB2.out.grown hg9 HB2.out.size (fun k_ hk_ => by cases hk_; exact Nat.le_refl _)); clear m9 hg9))
          go_roundg k1
          case measure => omega
          case rel => exact ⟨i + 1, a + 1, by rw [ew], ⟨by rw [HE.out]; rfl⟩, ⟨by have := HK.out; omega⟩, HT3, ⟨by rw [HTK.out, ← seenK_put]; exact MP9.out⟩, HB9⟩
      · have c0b : decide (a < (l0.length : Int)) = false := decide_eq_false c
        have ei : i = l0.length := by have := HE.out; have := HK.out; omega
        have HT2 := HT.out
        rw [ei, List.drop_length, twG] at HT2
        injection HT2 with t1 t2
        subst t1
        subst t2
        go_wp2
        go_ret2
        exact ⟨rfl, HB.out⟩
end Go.Proofs.Ytkdfbfhajojdeaa.Env
