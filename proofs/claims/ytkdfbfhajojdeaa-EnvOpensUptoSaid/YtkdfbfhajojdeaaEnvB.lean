/- Rows of environments: slices.Reverse; what calls leave that write no cells. Conditions: as the theorems say. -/
import Derived.Test.YtkdfbfhajojdeaaEnvA
namespace Go.Proofs.Ytkdfbfhajojdeaa.Env
open Go Go.RowKit Go.Proofs.YtkdfbfhajojdeaaW.PrintWords Go.Proofs.YtkdfbfhajojdeaaW.PrintLast Go.Proofs.YtkdfbfhajojdeaaW.PrintMore Go.Proofs.Ytkdfbfhajojdeaa.POP
set_option linter.unusedVariables false
set_option linter.unusedSimpArgs false
theorem wid {x : Int} (h0 : -9223372036854775808 ≤ x) (h1 : x ≤ 9223372036854775807) : wrap64 x = x := by
  unfold wrap64
  omega
/-- A pointer to a binding's block. -/
def kp : Kd Nat := Kd.scalar (fun g => .pointer (some ⟨g, 0, none⟩)) (fun _ => rfl)
/-- Blocks of types that are none of T stay. -/
structure TK (T : Nat → Prop) (w w' : World) : Prop where
  sz : w.heap.size ≤ w'.heap.size
  bl : ∀ (g : Nat) (cs : Array Value) (t : Nat), w.heap[g]? = some (.cells cs t (0, 0)) → ¬ T t → w'.heap[g]? = some (.cells cs t (0, 0))
section
variable {T : Nat → Prop} {w w' w1 w2 : World}
theorem TK.refl (T : Nat → Prop) (w : World) : TK T w w := ⟨Nat.le_refl _, fun _ _ _ h _ => h⟩
theorem TK.below (hb : Below w.heap.size w w') : TK T w w' := ⟨hb.size, fun g cs t h _ => (hb.block g (Array.getElem?_eq_some_iff.mp h).1).trans h⟩
theorem TK.trans (h1 : TK T w w1) (h2 : TK T w1 w2) : TK T w w2 := ⟨Nat.le_trans h1.sz h2.sz, fun g cs t h ht => h2.bl g cs t (h1.bl g cs t h ht) ht⟩
theorem TK.set {g : Nat} {cs : Array Value} {t : Nat} (h : TK T w w1) (hg : w1.heap[g]? = some (.cells cs t (0, 0))) (ht : T t) (j : Nat) (v : Value) : TK T w (w1.setCell ⟨g, j, none⟩ v) :=
  ⟨by rw [World.size_setCell]; exact h.sz, fun g2 cs2 t2 h2 ht2 => by
    have h3 := h.bl g2 cs2 t2 h2 ht2
    have hne : g2 ≠ g := by
      rintro rfl
      rw [hg] at h3
      injection h3 with h3
      injection h3 with _ h3 _
      exact ht2 (h3 ▸ ht)
    exact (Below.heap_setCell w1 ⟨g, j, none⟩ v g2 hne).trans h3⟩
theorem TK.new {g j : Nat} {v : Value} (h : TK T w w1) (hg : w.heap.size ≤ g) : TK T w (w1.setCell ⟨g, j, none⟩ v) :=
  ⟨by rw [World.size_setCell]; exact h.sz, fun g2 cs2 t2 h2 ht2 => by
    have hlt := (Array.getElem?_eq_some_iff.mp h2).1
    exact (Below.heap_setCell w1 ⟨g, j, none⟩ v g2 (by show g2 ≠ g; omega)).trans (h.bl g2 cs2 t2 h2 ht2)⟩
theorem TK.grown {v : Value} {e : Nat} (h : TK T w w1) (hty : ∀ k, v.ownBlock = some k → ∃ cells, w1.heap[k]? = some (.cells cells e (0, 0))) (ht : T e) (hg : w1.grownBy w2 v.ownBlock) : TK T w w2 :=
  ⟨Nat.le_trans h.sz hg.size, fun g2 cs2 t2 h2 ht2 => by
    have h3 := h.bl g2 cs2 t2 h2 ht2
    refine (hg.block g2 (Array.getElem?_eq_some_iff.mp h3).1 (fun e2 => ?_)).trans h3
    obtain ⟨cells, hc⟩ := hty g2 e2.symm
    rw [hc] at h3
    injection h3 with h3
    injection h3 with _ h3 _
    exact ht2 (h3 ▸ ht)⟩
theorem R_tk {α : Type} {d : Kd α} {e base : Nat} {ok : Nat → Prop} {v : Value} {xs : List α} (h : d.R e w base ok v xs) (hq : ∀ q, q ∈ e :: d.E → ¬ T q) (ht : TK T w w') : d.R e w' base ok v xs :=
  Kd.R_mono (Kd.R_move (Kd.R_bound h) (fun k hk => by
    obtain ⟨_, _, _, q, hm, cells, hc⟩ := hk
    rw [hc, ht.bl k cells q hc (hq q hm)])) (fun _ hk => hk.1)
theorem TK.grownNew {v : Value} (h : TK T w w1) (hn : ∀ k, v.ownBlock = some k → w.heap.size ≤ k) (hg : w1.grownBy w2 v.ownBlock) : TK T w w2 :=
  ⟨Nat.le_trans h.sz hg.size, fun g2 cs2 t2 h2 ht2 => by
    have h3 := h.bl g2 cs2 t2 h2 ht2
    refine (hg.block g2 (Array.getElem?_eq_some_iff.mp h3).1 (fun e2 => ?_)).trans h3
    have h4 := hn g2 e2.symm
    have h5 := (Array.getElem?_eq_some_iff.mp h2).1
    omega⟩
end
/-- i places at either end hold what the other end held. -/
def RevI {α : Type} (xs : List α) (i : Nat) (ys : List α) : Prop :=
  ys.length = xs.length ∧ ∀ q, ys[q]? = if q < i ∨ (xs.length - i ≤ q ∧ q < xs.length) then xs[xs.length - 1 - q]? else xs[q]?
theorem rev0 {α : Type} (xs : List α) : RevI xs 0 xs := ⟨rfl, fun q => by rw [if_neg (by omega)]⟩
theorem rev_end {α : Type} {xs ys : List α} {i : Nat} (h : RevI xs i ys) (hi : ¬ ((i : Int) < (xs.length : Int) - 1 - (i : Int))) (h2 : 2 * i ≤ xs.length) : ys = xs.reverse := by
  apply List.ext_getElem?
  intro q
  rw [h.2 q]
  by_cases hq : q < xs.length
  · rw [List.getElem?_reverse hq]
    by_cases c : q < i ∨ (xs.length - i ≤ q ∧ q < xs.length)
    · rw [if_pos c]
    · rw [if_neg c, show xs.length - 1 - q = q by omega]
  · rw [if_neg (by omega), List.getElem?_eq_none (by omega), List.getElem?_eq_none (by rw [List.length_reverse]; omega)]
theorem rev_step {α : Type} {xs ys : List α} {i : Nat} (z : α) (h : RevI xs i ys) (hi : (i : Int) < (xs.length : Int) - 1 - (i : Int)) :
    RevI xs (i + 1) ((ys.set i (ys.getD (xs.length - 1 - i) z)).set (xs.length - 1 - i) (ys.getD i z)) := by
  obtain ⟨hl, h⟩ := h
  refine ⟨by rw [List.length_set, List.length_set, hl], fun q => ?_⟩
  have e1 : ys.getD (xs.length - 1 - i) z = xs.getD (xs.length - 1 - i) z := by
    rw [List.getD_eq_getElem?_getD, List.getD_eq_getElem?_getD, h, if_neg (by omega)]
  have e2 : ys.getD i z = xs.getD i z := by
    rw [List.getD_eq_getElem?_getD, List.getD_eq_getElem?_getD, h, if_neg (by omega)]
  rw [e1, e2, List.getElem?_set, List.length_set, hl]
  by_cases c1 : xs.length - 1 - i = q
  · subst c1
    rw [if_pos rfl, if_pos (by omega), if_pos (by omega), show xs.length - 1 - (xs.length - 1 - i) = i by omega, List.getD_eq_getElem?_getD, List.getElem?_eq_getElem (by omega)]
    rfl
  · rw [if_neg c1, List.getElem?_set, hl]
    by_cases c2 : i = q
    · subst c2
      rw [if_pos rfl, if_pos (by omega), if_pos (by omega), List.getD_eq_getElem?_getD, List.getElem?_eq_getElem (by omega)]
      rfl
    · rw [if_neg c2, h]
      by_cases c3 : q < i ∨ (xs.length - i ≤ q ∧ q < xs.length)
      · rw [if_pos c3, if_pos (by omega)]
      · rw [if_neg c3, if_neg (by omega)]
theorem gdrew (w : World) (row : Option Nat) : w.grownBy w.drew row := ⟨rfl, rfl, rfl, Nat.le_refl _, fun _ _ _ => rfl⟩
/-- Two elements of a row change places. -/
theorem swapR {w : World} {base g c n : Nat} {ys : List Nat} (h : Kd.R kp 33 w base (fun _ => True) (.slice (some ⟨g, 0, none⟩) n c) ys) (i j : Int) (p1 : 0 ≤ i) (q1 : i < n) (p2 : 0 ≤ j) (q2 : j < n) (y1 y2 : Nat) :
    Kd.R kp 33 ((w.setCell ⟨g, i.toNat, none⟩ (.pointer (some ⟨y2, 0, none⟩))).setCell ⟨g, j.toNat, none⟩ (.pointer (some ⟨y1, 0, none⟩))) base (fun _ => True) (.slice (some ⟨g, 0, none⟩) n c) ((ys.set i.toNat y2).set j.toNat y1) ∧
    w.grownBy ((w.setCell ⟨g, i.toNat, none⟩ (.pointer (some ⟨y2, 0, none⟩))).setCell ⟨g, j.toNat, none⟩ (.pointer (some ⟨y1, 0, none⟩))) (some g) := by
  have key : ∀ (w : World) (ys : List Nat) (i : Int) (x : Nat), Kd.R kp 33 w base (fun _ => True) (.slice (some ⟨g, 0, none⟩) n c) ys → 0 ≤ i → i < n →
      Kd.R kp 33 (w.setCell ⟨g, i.toNat, none⟩ (.pointer (some ⟨x, 0, none⟩))) base (fun _ => True) (.slice (some ⟨g, 0, none⟩) n c) (ys.set i.toNat x) ∧ w.grownBy (w.setCell ⟨g, i.toNat, none⟩ (.pointer (some ⟨x, 0, none⟩))) (some g) := by
    intro w ys i x h p q
    obtain ⟨ce, hl, hM, hc, hf⟩ := Kd.R_elem h 0 i p q
    obtain rfl : ce = [.pointer (some ⟨ys.getD i.toNat 0, 0, none⟩)] := hM
    have r := Kd.R_seg h i p q (seg := [.pointer (some ⟨x, 0, none⟩)]) (j := 0) hl hc (show 1 ≤ 1 from Nat.le_refl 1) (x' := x) (okp := fun k => True ∧ k ≠ g) (show kp.M w base _ x [.pointer (some ⟨x, 0, none⟩)] from rfl) (fun _ hk => hk)
    rw [show kp.sz = 1 from rfl, Nat.mul_one, Nat.add_zero] at r
    exact r
  obtain ⟨r1, g1⟩ := key w ys i _ h p1 q1
  obtain ⟨r2, g2⟩ := key _ _ j _ r1 p2 q2
  exact ⟨r2, g1.trans g2⟩
set_option maxHeartbeats 8000000 in
set_option maxRecDepth 100000 in
theorem urev (w0 w : World) (A : Option Addr) (c : Nat) (xs : List Nat) (hR : Kd.R kp 33 w w0.heap.size (fun _ => True) (.slice A xs.length c) xs) (hB : Below w0.heap.size w0 w) (hn : xs.length ≤ 1599289640400) :
    Calls Try.prog 30 #[.slice A xs.length c] w fun e w' => e = .returned (.tuple #[]) ∧ Kd.R kp 33 w' w0.heap.size (fun _ => True) (.slice A xs.length c) xs.reverse ∧ Below w0.heap.size w0 w' ∧ w.grownBy w' (Value.slice A xs.length c).ownBlock := by
  have HR := Aside0.mk hR
  have HB := Aside0.mk hB
  have HN := Aside0.mk hn
  clear hR hB hn
  have HG := Aside0.mk (World.grownBy.refl w (Value.slice A xs.length c).ownBlock)
  go_enter Try.func30, Try.ntmps30
  go_wp2
  go_loopg [2, 3] (xs.length + 1) (fun kq v2 v3 w' => ∃ (i : Nat) (a b : Int) (ys : List Nat), v2 = .int .i64 a ∧ v3 = .int .i64 b ∧ Aside0 (a = (i : Int) ∧ b = (xs.length : Int) - 1 - (i : Int)) ∧ Aside0 (kq + i = xs.length + 1 ∧ 2 * i ≤ xs.length) ∧ Aside0 (RevI xs i ys) ∧ Aside0 (Kd.R kp 33 w' w0.heap.size (fun _ => True) (.slice A xs.length c) ys) ∧ Aside0 (Below w0.heap.size w0 w') ∧ Aside0 (w.grownBy w' (Value.slice A xs.length c).ownBlock))
  case atStart => exact ⟨0, 0, (xs.length : Int) - 1, xs, rfl, by rw [wid (x := (xs.length : Int) - 1) (by omega) (by have := HN.out; omega)], ⟨⟨rfl, by simp⟩⟩, ⟨⟨by omega, by omega⟩⟩, ⟨rev0 xs⟩, HR, HB, HG⟩
  case round =>
    clear HR HB HG
    obtain ⟨i, a, b, ys, rfl, rfl, HE, HK, HI, HR, HB, HG⟩ := hrel
    cases gk with
    | zero => have := HK.out; omega
    | succ k1 =>
      by_cases c4 : a < b
      · have c4b0 : decide (a < b) = true := decide_eq_true c4
        have hl := HI.out.1
        have ea : Aside0 (a.toNat = i) := ⟨by have := HE.out; omega⟩
        have eb : Aside0 (b.toNat = xs.length - 1 - i) := ⟨by have := HE.out; omega⟩
        have c4n : (i : Int) < (xs.length : Int) - 1 - (i : Int) := by have := HE.out; omega
        have ew1 : wrap64 (a + 1) = a + 1 := wid (by have := HE.out; omega) (by have := HE.out; have := HN.out; omega)
        have ew2 : wrap64 (b - 1) = b - 1 := wid (by have := HE.out; omega) (by have := HE.out; have := HN.out; omega)
        have HR' : Kd.R kp 33 wr w0.heap.size (fun _ => True) (.slice A ys.length c) ys := by rw [hl]; exact HR.out
        obtain ⟨g, cap, eg, gb, gl, _⟩ := Kd.R_form HR' (by omega)
        injection eg with ea _ ec
        subst ea
        subst ec
        have p1 : (0 : Int) ≤ a := by have := HE.out; omega
        have q1 : a < (xs.length : Int) := by have := HE.out; omega
        have p2 : (0 : Int) ≤ b := by have := HE.out; omega
        have q2 : b < (xs.length : Int) := by have := HE.out; omega
        obtain ⟨ce1, hl1, hM1, hc1, hf1⟩ := Kd.R_elem HR.out 0 a p1 q1
        obtain rfl : ce1 = [.pointer (some ⟨ys.getD a.toNat 0, 0, none⟩)] := hM1
        obtain ⟨ce2, hl2, hM2, hc2, hf2⟩ := Kd.R_elem HR.out 0 b p2 q2
        obtain rfl : ce2 = [.pointer (some ⟨ys.getD b.toNat 0, 0, none⟩)] := hM2
        have hx1 := hc1 0 _ rfl
        have hx2 := hc2 0 _ rfl
        obtain ⟨y1, hy1⟩ : ∃ y, ys.getD a.toNat 0 = y := ⟨_, rfl⟩
        obtain ⟨y2, hy2⟩ : ∃ y, ys.getD b.toNat 0 = y := ⟨_, rfl⟩
        rw [hy1] at hx1
        rw [hy2] at hx2
        have Hy1 := Aside0.mk hy1
        have Hy2 := Aside0.mk hy2
        clear hy1 hy2
        have hne : a.toNat ≠ b.toNat := by have := HE.out; omega
        have hne' := Ne.symm hne
        rw [show kp.sz = 1 from rfl, Nat.mul_one, Nat.add_zero] at hx1 hx2
        have hg1 := hf1 0
        have hg2 := hf2 0
        rw [show kp.sz = 1 from rfl, Nat.mul_one, Nat.add_zero] at hg1 hg2
        replace p1 := eq_true p1
        replace q1 := eq_true q1
        replace p2 := eq_true p2
        replace q2 := eq_true q2
        go_wp2
        refine start_ (n := 16) (S := fun w' => w'.cell? ⟨g, a.toNat, none⟩ = some (.pointer (some ⟨y1, 0, none⟩)) ∧ w'.cell? ⟨g, b.toNat, none⟩ = some (.pointer (some ⟨y2, 0, none⟩))) (ds := [13, 15]) #[false, false, false, false, false, false, false, false, false, false, false, false, false, false, false, false] (by kernel_rfl) rfl rfl ⟨hx1, hx2⟩ (fun hHeld => ?_)
        have n0_ := Aside0.mk (Kd.R_drew HR.out)
        have n1_ := Aside0.mk (below_drew1 HB.out)
        have n2_ := Aside0.mk (HG.out.trans (gdrew wr _))
        have f1 : wr.drew.frozen? ⟨g, a.toNat, none⟩ = false := hg1
        have f2 : wr.drew.frozen? ⟨g, b.toNat, none⟩ = false := hg2
        clear HR HB HG HR' hx1 hx2 hg1 hg2 hc1 hc2 hf1 hf2 hl1 hl2 gl
        have HR := n0_
        have HB := n1_
        have HG := n2_
        clear n0_ n1_ n2_
        generalize wr.drew = w1 at HR HB HG f1 f2 hHeld ⊢
        have hx1 := hHeld.1
        have hx2 := hHeld.2
        refine pure_ (i := 0) (N := some 14) (v := ?_) (a' := ?_) #[true, false, false, false, false, false, false, false, false, false, false, false, false, false, false, false] rfl rfl (by kernel_rfl) (fun _ _ _ h => h) (Or.inl ⟨by rfl, ?_⟩) ?_ ?_
        rotate_left
        · intro w'
          go_simp
          with_reducible rfl
        rotate_left
        · simp only [Act.put, List.setIfInBounds_toArray, List.set_cons_zero, List.set_cons_succ, i64_w, i32_w]
          rfl
        refine pure_ (i := 1) (N := some 15) (v := ?_) (a' := ?_) #[true, true, false, false, false, false, false, false, false, false, false, false, false, false, false, false] rfl rfl (by kernel_rfl) (fun _ _ _ h => h) (Or.inl ⟨by rfl, ?_⟩) ?_ ?_
        rotate_left
        · intro w'
          go_simp
          with_reducible rfl
        rotate_left
        · simp only [Act.put, List.setIfInBounds_toArray, List.set_cons_zero, List.set_cons_succ, i64_w, i32_w]
          rfl
        refine pure_ (i := 2) (N := some 16) (v := ?_) (a' := ?_) #[true, true, true, false, false, false, false, false, false, false, false, false, false, false, false, false] rfl rfl (by kernel_rfl) (fun _ _ _ h => h) (Or.inl ⟨by rfl, ?_⟩) ?_ ?_
        rotate_left
        · intro w'
          go_simp
          with_reducible rfl
        rotate_left
        · simp only [Act.put, List.setIfInBounds_toArray, List.set_cons_zero, List.set_cons_succ, i64_w, i32_w]
          rfl
        refine pure_ (i := 3) (N := some 17) (v := ?_) (a' := ?_) #[true, true, true, true, false, false, false, false, false, false, false, false, false, false, false, false] rfl rfl (by kernel_rfl) (fun _ _ _ h => h) (Or.inl ⟨by rfl, ?_⟩) ?_ ?_
        rotate_left
        · intro w'
          go_simp
          with_reducible rfl
        rotate_left
        · simp only [Act.put, List.setIfInBounds_toArray, List.set_cons_zero, List.set_cons_succ, i64_w, i32_w]
          rfl
        refine pure_ (i := 4) (N := some 18) (v := ?_) (a' := ?_) #[true, true, true, true, true, false, false, false, false, false, false, false, false, false, false, false] rfl rfl (by kernel_rfl) (fun _ _ _ h => h) (Or.inl ⟨by rfl, ?_⟩) ?_ ?_
        rotate_left
        · intro w'
          go_simp
          with_reducible rfl
        rotate_left
        · simp only [Act.put, List.setIfInBounds_toArray, List.set_cons_zero, List.set_cons_succ, i64_w, i32_w]
          rfl
        refine pure_ (i := 5) (N := some 19) (v := ?_) (a' := ?_) #[true, true, true, true, true, true, false, false, false, false, false, false, false, false, false, false] rfl rfl (by kernel_rfl) (fun _ _ _ h => h) (Or.inl ⟨by rfl, ?_⟩) ?_ ?_
        rotate_left
        · intro w'
          go_simp
          with_reducible rfl
        rotate_left
        · simp only [Act.put, List.setIfInBounds_toArray, List.set_cons_zero, List.set_cons_succ, i64_w, i32_w]
          rfl
        refine pure_ (i := 6) (N := some 20) (v := ?_) (a' := ?_) #[true, true, true, true, true, true, true, false, false, false, false, false, false, false, false, false] rfl rfl (by kernel_rfl) (fun _ _ _ h => h) (Or.inl ⟨by rfl, ?_⟩) ?_ ?_
        rotate_left
        · intro w'
          go_simp
          with_reducible rfl
        rotate_left
        · simp only [Act.put, List.setIfInBounds_toArray, List.set_cons_zero, List.set_cons_succ, i64_w, i32_w]
          rfl
        refine pure_ (i := 8) (N := some 22) (v := ?_) (a' := ?_) #[true, true, true, true, true, true, true, false, true, false, false, false, false, false, false, false] rfl rfl (by kernel_rfl) (fun _ _ _ h => h) (Or.inl ⟨by rfl, ?_⟩) ?_ ?_
        rotate_left
        · intro w'
          go_simp
          with_reducible rfl
        rotate_left
        · simp only [Act.put, List.setIfInBounds_toArray, List.set_cons_zero, List.set_cons_succ, i64_w, i32_w]
          rfl
        refine pure_ (i := 9) (N := some 23) (v := ?_) (a' := ?_) #[true, true, true, true, true, true, true, false, true, true, false, false, false, false, false, false] rfl rfl (by kernel_rfl) (fun _ _ _ h => h) (Or.inl ⟨by rfl, ?_⟩) ?_ ?_
        rotate_left
        · intro w'
          go_simp
          with_reducible rfl
        rotate_left
        · simp only [Act.put, List.setIfInBounds_toArray, List.set_cons_zero, List.set_cons_succ, i64_w, i32_w]
          rfl
        refine pure_ (i := 10) (N := some 24) (v := ?_) (a' := ?_) #[true, true, true, true, true, true, true, false, true, true, true, false, false, false, false, false] rfl rfl (by kernel_rfl) (fun _ _ _ h => h) (Or.inl ⟨by rfl, ?_⟩) ?_ ?_
        rotate_left
        · intro w'
          go_simp
          with_reducible rfl
        rotate_left
        · simp only [Act.put, List.setIfInBounds_toArray, List.set_cons_zero, List.set_cons_succ, i64_w, i32_w]
          rfl
        refine take_ (i := 7) (N := some 21) (v := ?_) (a' := ?_) #[true, true, true, true, true, true, true, true, true, true, true, false, false, false, false, false] rfl rfl (by kernel_rfl) (fun _ _ _ h => h) (Or.inl ⟨by rfl, ?_⟩) hHeld ?_ ?_
        rotate_left
        · rintro w' ⟨s0, s1⟩
          go_simp
          with_reducible rfl
        rotate_left
        · simp only [Act.put, List.setIfInBounds_toArray, List.set_cons_zero, List.set_cons_succ, i64_w, i32_w]
          rfl
        refine take_ (i := 11) (N := some 25) (v := ?_) (a' := ?_) #[true, true, true, true, true, true, true, true, true, true, true, true, false, false, false, false] rfl rfl (by kernel_rfl) (fun _ _ _ h => h) (Or.inl ⟨by rfl, ?_⟩) hHeld ?_ ?_
        rotate_left
        · rintro w' ⟨s0, s1⟩
          go_simp
          with_reducible rfl
        rotate_left
        · simp only [Act.put, List.setIfInBounds_toArray, List.set_cons_zero, List.set_cons_succ, i64_w, i32_w]
          rfl
        refine pure_ (i := 12) (N := some 26) (v := ?_) (a' := ?_) #[true, true, true, true, true, true, true, true, true, true, true, true, true, false, false, false] rfl rfl (by kernel_rfl) (fun _ _ _ h => h) (Or.inl ⟨by rfl, ?_⟩) ?_ ?_
        rotate_left
        · intro w'
          go_simp
          with_reducible rfl
        rotate_left
        · simp only [Act.put, List.setIfInBounds_toArray, List.set_cons_zero, List.set_cons_succ, i64_w, i32_w]
          rfl
        refine last_ (i := 13) (N := none) #[true, true, true, true, true, true, true, true, true, true, true, true, true, true, false, false] rfl rfl (by kernel_rfl) (by decide) (fun K hK => ?_)
        refine skip_ (w1 := ?_) (by rfl) rfl ?_ ?_
        rotate_left
        · go_simp
          rfl
        refine hK.out _ _ ?_
        clear hK K
        refine pure_ (i := 14) (N := some 27) (v := ?_) (a' := ?_) #[true, true, true, true, true, true, true, true, true, true, true, true, true, true, true, false] rfl rfl (by kernel_rfl) (fun _ _ _ h => h) (Or.inl ⟨by rfl, ?_⟩) ?_ ?_
        rotate_left
        · intro w'
          go_simp
          with_reducible rfl
        rotate_left
        · simp only [Act.put, List.setIfInBounds_toArray, List.set_cons_zero, List.set_cons_succ, i64_w, i32_w]
          rfl
        obtain ⟨zs0, hzs0⟩ := cell?_setCell_some (w := w1) (p := ⟨g, a.toNat, none⟩) (x := .pointer (some ⟨y2, 0, none⟩)) (q := ⟨g, b.toNat, none⟩) (v := .pointer (some ⟨y2, 0, none⟩)) (by assumption)
        refine last_ (i := 15) (N := none) #[true, true, true, true, true, true, true, true, true, true, true, true, true, true, true, true] rfl rfl (by kernel_rfl) (by decide) (fun K hK => ?_)
        refine skip_ (w1 := ?_) (by rfl) rfl ?_ ?_
        rotate_left
        · go_simp
          rfl
        refine hK.out _ _ ?_
        clear hK K
        refine done_ (by kernel_rfl) ?_
        obtain ⟨R3, G3⟩ := swapR HR.out a b (of_eq_true p1) (of_eq_true q1) (of_eq_true p2) (of_eq_true q2) y1 y2
        have rs : RevI xs (i + 1) ((ys.set a.toNat (ys.getD b.toNat 0)).set b.toNat (ys.getD a.toNat 0)) := by rw [ea.out, eb.out]; exact rev_step 0 HI.out c4n
        rw [Hy1.out, Hy2.out] at rs
        try go_wp2
        go_roundg k1
        case measure => omega
        case rel => exact ⟨i + 1, a + 1, b - 1, _, by rw [ew1], by rw [ew2], ⟨by have := HE.out; omega⟩, ⟨by have := HK.out; omega⟩, ⟨rs⟩, ⟨R3⟩, ⟨below_set (below_set HB.out gb) gb⟩, ⟨HG.out.trans G3⟩⟩
      · have c4b0 : decide (a < b) = false := decide_eq_false c4
        go_wp2
        go_end0
        exact ⟨rfl, rev_end HI.out (by have := HE.out; omega) HK.out.2 ▸ HR.out, HB.out, HG.out⟩
end Go.Proofs.Ytkdfbfhajojdeaa.Env
