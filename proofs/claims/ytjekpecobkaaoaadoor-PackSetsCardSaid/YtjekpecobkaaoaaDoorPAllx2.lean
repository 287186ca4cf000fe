-- Written by ownprint.py, a program of this session (out of the kit's print, with contracts of the session's own).
import Derived.Test.YtjekpecobkaaoaaDoorPAllx0
namespace Go.Proofs.YtjekpecobkaaoaaDoor.PAll
open Go.RowKit Go.Proofs.YtjekpecobkaaoaaDoorW.PrintWords Go.Proofs.YtjekpecobkaaoaaDoorW.PrintLast Go.Proofs.YtjekpecobkaaoaaDoorW.PrintMore
attribute [local go_sem] max2_int min2_int max_two min_two max_three min_three max_four min_four   -- for this text's walks alone
set_option linter.unusedVariables false
set_option linter.unusedSimpArgs false

/-! ### pack_Put: function 16 -/
def pack_Put.f : Nat → List Int → Int → Option (List Int)
  | 0, _, _ => none
  | k + 1, l, n => if 128 ≤ n then (if l.length < 70368744177664 then pack_Put.f k (l ++ [bits .or .u8 (n % 256) 128]) (n / 128) else none) else (if l.length < 70368744177664 then some (l ++ [n % 256]) else none)
theorem pack_Put.mono : ∀ a0 a1 k, LeO (pack_Put.f k a0 a1) (pack_Put.f (k + 1) a0 a1) := by
  intro a0 a1 k
  induction k generalizing a0 a1 with
  | zero => intro r h; simp [pack_Put.f] at h
  | succ k ih =>
    rw [pack_Put.f, pack_Put.f]
    exact LeO.ite (LeO.ite (ih _ _) (LeO.refl _)) (LeO.refl _)
/-- A row of bytes of the call's own, or one that came in and has no room. -/
def PutOwn (e : Nat) (w : World) (base : Nat) (v : Value) (xs : List Int) : Prop :=
  (∃ A, v = .slice A xs.length xs.length ∧ Kd.C (Kd.int .u8) w A xs.length xs) ∨ Kd.R (Kd.int .u8) e w base (fun _ => True) v xs
theorem PutOwn.below {e : Nat} {w w1 : World} {base : Nat} {v : Value} {xs : List Int} (h : PutOwn e w base v xs) (hb : Below w.heap.size w w1) : PutOwn e w1 base v xs := by
  rcases h with ⟨A, hv, hc⟩ | h
  · exact .inl ⟨A, hv, Kd.C_below hc hb⟩
  · exact .inr (Kd.R_below h hb)
theorem put_append {P : Program} {ops : Array Oper} {rest : List Oper} {o : Oper} {a : Act} {Q : Exit → Act → World → Prop} {w0 W : World} (base : Nat) (hgd : o.guard = none) (s x : Operand) (t e : TypeId)
    (ho : o.op = .call { callee := .builtin .append, args := #[s, x], argTypes := #[t, t] }) (ht : P.underlying t = some (.slice e)) (hinfo : (P.info? e).map (fun i => (i.zero, i.size, i.bytes)) = some (some (.int .u8 0), 1, 1))
    (v : Value) (xs : List Int) (p : Int) (hs : a.eval s = v) (hx : a.eval x = .slice (some ⟨W.heap.size, 0, none⟩) 1 1) (HO : PutOwn e W base v xs) (HB : Below base w0 W) (hbase : base ≤ W.heap.size) (hl : xs.length + 1 ≤ 140737488355328)
    (h : ∀ v1 w1, Kd.R (Kd.int .u8) e w1 base (fun _ => True) v1 (xs ++ [p]) → Below base w0 w1 → wpList P ops Q rest (a.put o.dst v1) w1) : wpList P ops Q (o :: rest) a (W.alloc (.cells #[.int .u8 p] e)) := by
  rcases HO with ⟨A, rfl, hc⟩ | HO
  · obtain ⟨i0, hi, hzz⟩ := Option.map_eq_some_iff.1 hinfo
    simp only [Prod.mk.injEq] at hzz
    obtain ⟨hz0, hz1, hz2⟩ := hzz
    have hc' := Kd.C_alloc hc (.cells #[.int .u8 p] e)
    refine wpList_append_grows (W.alloc (.cells #[.int .u8 p] e)) hgd s x t ho e i0 (.int .u8 0) 1 1 ht hi hz0 hz1 hz2 rfl (by omega) A xs.length xs.length (nums .u8 xs) hs ?_ (by rw [nums_length]; omega) ?_ ⟨W.heap.size, 0, none⟩ 1 1 [.int .u8 p] hx rfl
      (World.news_of_block (cs := #[.int .u8 p]) (t := e) (fr := (0, 0)) (heap_alloc_new W _)) (by simp [Value.oneCell']) (by omega) (by simp only [maxLen]; omega) (by omega) ?_
    · intro hA
      rcases Nat.eq_zero_or_pos xs.length with h0 | h0
      · exact ⟨h0, h0⟩
      · obtain ⟨ad, had, _⟩ := hc.2.2 h0
        rw [hA] at had
        cases had
    · intro b hA j u hj
      have hjl : j < xs.length := by
        have := (List.getElem?_eq_some_iff.mp hj).1
        rwa [nums_length] at this
      obtain ⟨ad, had, hcell⟩ := Kd.at_int hc' (j : Int) (by omega) (by omega)
      rw [hA] at had
      obtain rfl := Option.some.inj had
      rw [show ((j : Int)).toNat = j by omega] at hcell
      rw [hcell]
      have hu : u = .int .u8 (rd xs (j : Int)) := by
        simp only [nums, List.getElem?_map, List.getElem?_eq_getElem hjl, Option.map_some] at hj
        rw [← Option.some.inj hj]
        unfold rd
        rw [List.getD_eq_getElem?_getD, show ((j : Int)).toNat = j by omega, List.getElem?_eq_getElem hjl]
        rfl
      rw [hu]
    · intro v1 w1 hown hg
      refine h v1 w1 ⟨fun _ _ => trivial, nums .u8 xs ++ [.int .u8 p], ?_, ?_⟩ ((HB.alloc hbase _).grown hg (by simp; omega) (fun _ hk => by cases hk))
      · rw [List.length_append]
        exact own_weaken hown (by simp; omega)
      · refine ⟨by rw [List.length_append, nums_length, List.length_append]; exact (Nat.mul_one _).symm, fun j q hj => ?_⟩
        have hall : nums .u8 xs ++ [.int .u8 p] = nums .u8 (xs ++ [p]) := by rw [nums_append]; rfl
        rw [hall]
        show ((nums .u8 (xs ++ [p])).drop (j * 1)).take 1 = [Value.int .u8 q]
        have hjl := (List.getElem?_eq_some_iff.mp hj).1
        have hjq := (List.getElem?_eq_some_iff.mp hj).2
        have he : (nums .u8 (xs ++ [p]))[j]'(by rw [nums_length]; exact hjl) = Value.int .u8 q := by
          unfold nums
          rw [List.getElem_map, hjq]
        rw [Nat.mul_one, List.drop_eq_getElem_cons (by rw [nums_length]; exact hjl), he]
        rfl
  · refine Kd.R_append (Kd.int .u8) (w0 := w0) base hgd s x t e (.int .u8 0) 1 ho ht hinfo rfl (by decide) (by omega) v xs p [.int .u8 p] (fun _ => True) (fun _ => False) hs hx rfl (fun _ hk => hk.elim) (fun _ _ => trivial) HO HB hbase (by omega) ?_
    intro v1 w1 ho hb _ _
    exact h v1 w1 ho hb
theorem clip_calls (A : Option Addr) (n c : Nat) (w : World) (h : n ≤ c) :
    Calls Tryd.prog 39 #[.slice A n c] w fun e w' => e = .returned (.slice A n n) ∧ w' = w := by
  go_enter Tryd.func39, Tryd.ntmps39
  go_wp2
  go_ret
  exact ⟨rfl, rfl⟩
set_option maxHeartbeats 8000000 in
set_option maxRecDepth 100000 in
theorem pack_Put.calls (k : Nat) (A0 : Option Addr) (c0 : Nat) (l0 : List Int) (a1 : Int) (r : List Int) (w : World) (hr0 : Kd.C (Kd.int .u8) w A0 l0.length l0) (hc0 : l0.length ≤ c0) (h : pack_Put.f k l0 a1 = some r) :
    Calls Tryd.prog 16 #[.slice A0 l0.length c0, .int .u64 a1] w fun e w' => ∃ v0_ : Value, e = .returned (v0_) ∧ Kd.R (Kd.int .u8) 5 w' w.heap.size (fun _ => True) v0_ r ∧ Below w.heap.size w w' := by
  have HR := Aside0.mk hr0
  have HC := Aside0.mk hc0
  clear hr0 hc0
  have HB := Aside0.mk (Below.refl w.heap.size w)
  have H' := Aside0.mk h
  clear h
  go_enter Tryd.func16, Tryd.ntmps16
  go_wp2_with (first | (go_at_call 39; refine (clip_calls A0 l0.length c0 _ HC.out).mono ?_; rintro e w1 ⟨rfl, hw⟩; subst w1) | fail)
  go_loopg [0, 1] k (fun kq v0 v1 w' => ∃ (x0 : List Int) (x1 : Int), v1 = .int .u64 x1 ∧ Aside0 (pack_Put.f kq x0 x1 = some r) ∧ Aside0 (kq ≤ k) ∧ Aside0 (PutOwn 5 w' w.heap.size v0 x0) ∧ Aside0 (Below w.heap.size w w'))
  case atStart => exact ⟨l0, a1, rfl, H', ⟨Nat.le_refl _⟩, ⟨.inl ⟨A0, rfl, Kd.C_below HR.out (by repeat (first | (with_reducible first | exact HB.out | apply below_alloc | apply pw_below_drewN | apply below_drew1) | exact HB.out))⟩⟩, ⟨by repeat (first | (with_reducible first | exact HB.out | apply below_alloc | apply pw_below_drewN | apply below_drew1) | exact HB.out)⟩⟩
  case round =>
    clear H' HB
    obtain ⟨x0, x1, rfl, HA, HK1, HO, HB⟩ := hrel
    cases gk with
    | zero => exact absurd HA.out (by simp [pack_Put.f])
    | succ k1 =>
      have H := HA.out
      clear HA
      simp only [pack_Put.f] at H
      by_cases c2 : 128 ≤ x1
      · rw [if_pos c2] at H
        have c2b0 : decide (128 ≤ x1) = true := decide_eq_true c2
        clear c2
        by_cases c4 : x0.length < 70368744177664
        · rw [if_pos c4] at H
          have LM := Aside0.mk c4
          clear c4
          have H' := Aside0.mk H
          clear H
          go_wp2_with (first | ((with_reducible refine gate_builtin (b := .append) (xs := #[.tmp 9, .tmp 13]) rfl ?_); at_builtin; refine put_append (w0 := w) w.heap.size rfl (.tmp 9) (.tmp 13) 35 5 rfl Tryd.underlying35 info5 u0 x0 (bits .or .u8 (x1 % 256) 128) rfl rfl ?aO ?aB ?aS ?aL ?_; (case aO => exact (HO.out.below (by repeat (first | (with_reducible first | exact Below.refl _ _ | apply below_alloc | apply pw_below_drewN | apply below_drew1) | exact Below.refl _ _)))); (case aB => exact (by repeat (first | (with_reducible first | exact HB.out | apply below_alloc | apply pw_below_drewN | apply below_drew1) | exact HB.out))); (case aS => exact (below_size (by repeat (first | (with_reducible first | exact HB.out | apply below_alloc | apply pw_below_drewN | apply below_drew1) | exact HB.out)))); (case aL => have := LM.out; omega); intro v1 w5 ho hb; have n0_ := Aside0.mk hb; have n1_ := Aside0.mk ho; clear HB HO; have HB := n0_; have HO := n1_; clear n0_ n1_ ho hb))
          go_roundg k1
          case measure => have := HK1.out; omega
          case rel => exact ⟨_, _, rfl, H', ⟨by have := HK1.out; omega⟩, ⟨.inr (by (with_reducible repeat (first | apply Kd.R_alloc | apply Kd.R_drewN | apply Kd.R_drew)); exact HO.out)⟩, ⟨(by repeat (first | (with_reducible first | exact HB.out | apply below_alloc | apply pw_below_drewN | apply below_drew1) | exact HB.out))⟩⟩
        · rw [if_neg c4] at H
          exact absurd H (by simp)
      · rw [if_neg c2] at H
        have c2b0 : decide (128 ≤ x1) = false := decide_eq_false c2
        clear c2
        by_cases c4 : x0.length < 70368744177664
        · rw [if_pos c4] at H
          have LM := Aside0.mk c4
          clear c4
          obtain rfl := Option.some.inj H
          go_wp2_with (first | ((with_reducible refine gate_builtin (b := .append) (xs := #[.tmp 17, .tmp 20]) rfl ?_); at_builtin; refine put_append (w0 := w) w.heap.size rfl (.tmp 17) (.tmp 20) 35 5 rfl Tryd.underlying35 info5 u0 x0 (x1 % 256) rfl rfl ?aO ?aB ?aS ?aL ?_; (case aO => exact (HO.out.below (by repeat (first | (with_reducible first | exact Below.refl _ _ | apply below_alloc | apply pw_below_drewN | apply below_drew1) | exact Below.refl _ _)))); (case aB => exact (by repeat (first | (with_reducible first | exact HB.out | apply below_alloc | apply pw_below_drewN | apply below_drew1) | exact HB.out))); (case aS => exact (below_size (by repeat (first | (with_reducible first | exact HB.out | apply below_alloc | apply pw_below_drewN | apply below_drew1) | exact HB.out)))); (case aL => have := LM.out; omega); intro v1 w5 ho hb; have n0_ := Aside0.mk hb; have n1_ := Aside0.mk ho; clear HB HO; have HB := n0_; have HO := n1_; clear n0_ n1_ ho hb))
          go_ret
          exact ⟨_, rfl, by (with_reducible repeat (first | apply Kd.R_alloc | apply Kd.R_drewN | apply Kd.R_drew)); exact HO.out, (by repeat (first | (with_reducible first | exact HB.out | apply below_alloc | apply pw_below_drewN | apply below_drew1) | exact HB.out))⟩
        · rw [if_neg c4] at H
          exact absurd H (by simp)

/-! ### pack_Set_words: function 42 -/
def pack_Set_words.f (l0 : List Int) : Option (Int) := some (mn (l0.length : Int) 1024)
set_option maxHeartbeats 8000000 in
set_option maxRecDepth 100000 in
theorem pack_Set_words.calls (A0 : Option Addr) (c0 : Nat) (l0 : List Int) (r : Int) (w : World) (hr0 : Kd.C (Kd.int .u64) w A0 l0.length l0) (hc0 : l0.length ≤ c0) (h : pack_Set_words.f l0 = some r) :
    Calls Tryd.prog 42 #[.slice A0 l0.length c0] w fun e w' => e = .returned (.int .i64 r) ∧ Below w.heap.size w w' := by
  have HR0 := Aside0.mk hr0
  have HC0 := Aside0.mk hc0
  clear hr0 hc0
  have HB := Aside0.mk (Below.refl w.heap.size w)
  have H : (some (mn (l0.length : Int) 1024)) = some r := h
  clear h
  obtain ⟨ji2, hji2⟩ : ∃ j_ : Int, (mn (l0.length : Int) 1024) = j_ := ⟨_, rfl⟩
  replace H : (some ji2) = some r := by first | (rw [hji2] at H; exact H) | (simp only [hji2] at H ⊢; exact H)
  (try (have hji2h : ji2 ≤ 1024 := by (rw [← hji2]; unfold mn; (repeat' split) <;> omega)))
  (try (have hji2g : ji2 ≤ 64 := by omega))
  (try (have hji2l : 0 ≤ ji2 := by (rw [← hji2]; unfold mn; (repeat' split) <;> omega)))
  (try (have hji2m : 0 ≤ ji2 := by omega))
  have hji2_ : (if 1024 < (l0.length : Int) then 1024 else (l0.length : Int)) = ji2 := hji2
  obtain rfl := Option.some.inj H
  go_enter Tryd.func42, Tryd.ntmps42
  go_wp2
  go_ret
  exact ⟨by first | rfl | (simp [errW_none, errW_some] <;> rfl) | (simp only [← hji2]; first | rfl | (simp [errW_none, errW_some] <;> rfl)) | (simp [*, errW_none, errW_some] <;> rfl), by repeat (first | (with_reducible first | exact HB.out | apply below_alloc | apply pw_below_drewN | apply below_drew1) | exact HB.out)⟩

end Go.Proofs.YtjekpecobkaaoaaDoor.PAll
