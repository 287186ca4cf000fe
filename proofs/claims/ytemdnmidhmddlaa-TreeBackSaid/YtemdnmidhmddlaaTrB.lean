/- tree.Make: its literal, the tree that it makes. Conditions: as the theorems say. -/
import Derived.Test.YtemdnmidhmddlaaTrA
import Derived.WalkSpells
namespace Go.Proofs.Ytemdnmidhmddlaa.Tree
open Go Go.RowKit Go.Proofs.YtemdnmidhmddlaaW.PrintWords Go.Proofs.YtemdnmidhmddlaaW.PrintLast Go.Proofs.YtemdnmidhmddlaaW.PrintMore Go.Proofs.Ytemdnmidhmddlaa.PAll
set_option linter.unusedVariables false
set_option linter.unusedSimpArgs false
theorem wid {x : Int} (h0 : -9223372036854775808 ≤ x) (h1 : x ≤ 9223372036854775807) : wrap64 x = x := by
 unfold wrap64
 omega
abbrev kn : Kd (List Int) := Kd.slice 3 (Kd.int .i64)
def rdN (xs : List (List Int)) (i : Int) : (List Int) := xs.getD i.toNat ([] : List Int)
theorem atN {w : World} {A : Option Addr} {n : Nat} {xs : List (List Int)} (h : Kd.C kn w A n xs) (i : Int) (h0 : 0 ≤ i) (h1 : i < n) : ∃ ad A0 c0, A = some ad ∧ w.cell? (ad.add i.toNat) = some (.slice A0 (rdN xs i).length c0) ∧ (rdN xs i).length ≤ c0 ∧ (Kd.int .i64).C w A0 (rdN xs i).length (rdN xs i) := by
 obtain ⟨ad, c, e, _, hK, hc0⟩ := Kd.C_get h ([] : List Int) i h0 h1
 have hc : ∀ j u, c[j]? = some u → w.cell? (ad.add (i.toNat * 1 + j)) = some u := hc0
 obtain ⟨A0, c0, rfl, l0, g0⟩ := hK
 exact ⟨ad, A0, c0, e, by have hq := hc 0 _ rfl; rwa [Nat.mul_one, Nat.add_zero] at hq, l0, g0⟩
theorem info39 : (Try.prog.info? 39).map (fun i => (i.zero, i.size, i.bytes)) = some (some (.agg #[.int .i64 0, .int .i64 0, .int .i64 0, .int .i64 0, .int .i64 0, .int .i64 0, .int .i64 0]), 7, 56) := by kernel_rfl
theorem info22 : (Try.prog.info? 22).map (fun i => (i.zero, i.size, i.bytes)) = some (some (.slice none 0 0), 1, 24) := by kernel_rfl
set_option maxHeartbeats 8000000 in
set_option maxRecDepth 100000 in
theorem clone_ (A0 : Option Addr) (c0 : Nat) (l0 : List Int) (w : World) (hr0 : Kd.C (Kd.int .i64) w A0 l0.length l0) (hl : l0.length < 17592186044416) :
  Calls Try.prog 32 #[.slice A0 l0.length c0] w fun e w' => ∃ v0_ : Value, e = .returned (v0_) ∧ Kd.R (Kd.int .i64) 3 w' w.heap.size (fun _ => True) v0_ l0 ∧ Below w.heap.size w w' := by
 have HR := Aside0.mk hr0
 have LM := Aside0.mk hl
 clear hr0 hl
 have HB := Aside0.mk (Below.refl w.heap.size w)
 cases A0 with
 | none =>
  have h0 : l0.length = 0 := by
   rcases Nat.eq_zero_or_pos l0.length with h | h
   ·exact h
   ·obtain ⟨ad, had, _⟩ := HR.out.2.2 h
    cases had
  obtain rfl := List.length_eq_zero_iff.mp h0
  have hq := fun w => Lib.run_eql_slice_nil (P := Try.prog) w 22 3 none 0 c0 0 0 Try.underlying22
  go_enter Try.func32, Try.ntmps32
  go_wp2
  go_ret
  exact ⟨_, rfl, Kd.R_nil _ _ _ _ _, HB.out⟩
 | some ad =>
  have hq := fun w => Lib.run_eql_slice_nil (P := Try.prog) w 22 3 (some ad) l0.length c0 0 0 Try.underlying22
  go_enter Try.func32, Try.ntmps32
  go_wp2_with (first | ((with_reducible refine gate_builtin (b := .append) (xs := #[.tmp 5, .tmp 6]) rfl ?_); at_builtin; refine Kd.R_append_rows (Kd.int .i64) (w0 := w) w.heap.size rfl (.tmp 5) (.tmp 6) 22 3 (.int .i64 0) 8 rfl Try.underlying22 info3 rfl (by decide) (by omega) (.slice (some ⟨w.heap.size, 0, none⟩) 0 0) ([] : List Int) l0 _ _ _ (fun _ => True) (fun _ => False) rfl rfl ?aO ?aR (fun _ _ h => h) (fun _ h => h.elim) ?aF ?aB ?aS ?aL ?_; (case aR => exact Kd.C_alloc HR.out _); (case aB => exact below_alloc HB.out _); (case aF => exact (fun _ _ => trivial)); (case aO => exact ⟨fun _ _ => trivial, [], own_lit w w.heap.size 3 .i64 [] (Nat.le_refl _) (by simp), Reps.none _ _⟩); (case aS => exact below_size (below_alloc HB.out _)); (case aL => have := LM.out; simp only [List.length_nil]; omega); intro v181 w17 ho hb hg hat; rw [List.nil_append] at ho; have n0_ := Aside0.mk hb; have HO := Aside0.mk ho; clear HB; have HB := n0_; clear n0_ ho hb hg hat))
  go_ret
  exact ⟨_, rfl, HO.out, HB.out⟩
structure TK (T : Nat → Prop) (w w' : World) : Prop where
 sz : w.heap.size ≤ w'.heap.size
 bl : ∀ (g : Nat) (cs : Array Value) (t : Nat), w.heap[g]? = some (.cells cs t (0, 0)) → ¬ T t → w'.heap[g]? = some (.cells cs t (0, 0))
section
variable {T : Nat → Prop} {w w' w1 w2 : World}
theorem TK.refl (T : Nat → Prop) (w : World) : TK T w w := ⟨Nat.le_refl _, fun _ _ _ h _ => h⟩
theorem TK.below (hb : Below w.heap.size w w') : TK T w w' := ⟨hb.size, fun g cs t h _ => (hb.block g (Array.getElem?_eq_some_iff.mp h).1).trans h⟩
theorem TK.trans (h1 : TK T w w1) (h2 : TK T w1 w2) : TK T w w2 := ⟨Nat.le_trans h1.sz h2.sz, fun g cs t h ht => h2.bl g cs t (h1.bl g cs t h ht) ht⟩
theorem TK.set {g : Nat} {cs : Array Value} {t : Nat} (h : TK T w w1) (hg : w1.heap[g]? = some (.cells cs t (0, 0))) (ht : T t) (j : Nat) (v : Value) : TK T w (w1.setCell ⟨g, j, none⟩ v) :=
 ⟨by rw [World.size_setCell]; exact h.sz, fun g2 cs2 t2 h2 ht2 => by
  have h3 := h.bl g2 cs2 t2 h2 ht2
  have hne : g2 ≠ g := by
   rintro rfl
   rw [hg] at h3
   injection h3 with h3
   injection h3 with _ h3 _
   exact ht2 (h3 ▸ ht)
  exact (Below.heap_setCell w1 ⟨g, j, none⟩ v g2 hne).trans h3⟩
theorem TK.new {g j : Nat} {v : Value} (h : TK T w w1) (hg : w.heap.size ≤ g) : TK T w (w1.setCell ⟨g, j, none⟩ v) :=
 ⟨by rw [World.size_setCell]; exact h.sz, fun g2 cs2 t2 h2 ht2 => by
  have hlt := (Array.getElem?_eq_some_iff.mp h2).1
  exact (Below.heap_setCell w1 ⟨g, j, none⟩ v g2 (by show g2 ≠ g; omega)).trans (h.bl g2 cs2 t2 h2 ht2)⟩
theorem TK.grown {v : Value} {e : Nat} (h : TK T w w1) (hty : ∀ k, v.ownBlock = some k → ∃ cells, w1.heap[k]? = some (.cells cells e (0, 0))) (ht : T e) (hg : w1.grownBy w2 v.ownBlock) : TK T w w2 :=
 ⟨Nat.le_trans h.sz hg.size, fun g2 cs2 t2 h2 ht2 => by
  have h3 := h.bl g2 cs2 t2 h2 ht2
  refine (hg.block g2 (Array.getElem?_eq_some_iff.mp h3).1 (fun e2 => ?_)).trans h3
  obtain ⟨cells, hc⟩ := hty g2 e2.symm
  rw [hc] at h3
  injection h3 with h3
  injection h3 with _ h3 _
  exact ht2 (h3 ▸ ht)⟩
end
def TT (t : Nat) : Prop := t = 39 ∨ t = 22 ∨ t = 54
structure TSt (w0 w : World) (gt gl gT : Nat) (vk vn : Value) (ks : List S39) (ns : List (List Int)) : Prop where
 hP : w.heap[gt]? = some (.cells #[.pointer (some ⟨gT, 0, none⟩)] 27 (0, 0))
 hL : w.heap[gl]? = some (.cells #[.func (.func 31) #[] #[.pointer (some ⟨gt, 0, none⟩), .pointer (some ⟨gl, 0, none⟩)]] 35 (0, 0))
 hT : w.heap[gT]? = some (.cells #[vk, vn] 54 (0, 0))
 hk : Kd.R k39 39 w w0.heap.size (fun _ => True) vk ks
 hn : Kd.R kn 22 w w0.heap.size (fun _ => True) vn ns
 hb : Below w0.heap.size w0 w
 lT : w0.heap.size ≤ gT
theorem R_other {α : Type} {d : Kd α} {e e' : Nat} {w : World} {base : Nat} {ok : Nat → Prop} {u : Value} {xs : List α} {g : Nat} {cs : Array Value} (h : d.R e w base ok u xs) (hg : w.heap[g]? = some (.cells cs e' (0, 0))) (ht : ∀ q, q ∈ e :: d.E → q ≠ e') (j : Nat) (v : Value) : d.R e (w.setCell ⟨g, j, none⟩ v) base ok u xs := by
 refine Kd.R_step (Kd.R_bound h) (fun k hk hlt => Below.heap_setCell w ⟨g, j, none⟩ v k (fun he => ?_)) |> (Kd.R_mono · (fun _ hk => hk.1))
 obtain ⟨_, _, _, q, hq, cells, hc⟩ := hk
 change k = g at he
 rw [he, hg] at hc
 injection hc with hc
 injection hc with _ hc
 exact ht q hq hc.symm
namespace TSt
variable {w0 w w1 : World} {gt gl gT : Nat} {vk vn : Value} {ks : List S39} {ns : List (List Int)}
theorem below (h : TSt w0 w gt gl gT vk vn ks ns) (hb : Below w.heap.size w w1) : TSt w0 w1 gt gl gT vk vn ks ns :=
 ⟨blk_below h.hP hb, blk_below h.hL hb, blk_below h.hT hb, Kd.R_below h.hk hb, Kd.R_below h.hn hb, below_step h.hb hb, h.lT⟩
theorem drew (h : TSt w0 w gt gl gT vk vn ks ns) : TSt w0 w.drew gt gl gT vk vn ks ns := h.below (below_drew (Below.refl _ _))
theorem far39 (h : Kd.R k39 39 w w0.heap.size (fun _ => True) vk ks) (hg : w.grownBy w1 vk.ownBlock) {g : Nat} {cs : Array Value} {e : TypeId} (hh : w.heap[g]? = some (.cells cs e (0, 0))) (he : e ≠ 39) : w1.heap[g]? = some (.cells cs e (0, 0)) :=
 blk_grown hh hg (fun e_ => (Kd.R_typed h _ e_.symm).elim fun _ hc => blk_ne hh hc he rfl)
theorem far22 (h : Kd.R kn 22 w w0.heap.size (fun _ => True) vn ns) (hg : w.grownBy w1 vn.ownBlock) {g : Nat} {cs : Array Value} {e : TypeId} (hh : w.heap[g]? = some (.cells cs e (0, 0))) (he : e ≠ 22) : w1.heap[g]? = some (.cells cs e (0, 0)) :=
 blk_grown hh hg (fun e_ => (Kd.R_typed h _ e_.symm).elim fun _ hc => blk_ne hh hc he rfl)
theorem appK (h : TSt w0 w gt gl gT vk vn ks ns) {v2 : Value} {ks2 : List S39} (hb : Below w0.heap.size w0 w1) (hr : Kd.R k39 39 w1 w0.heap.size (fun _ => True) v2 ks2) (hg : w.grownBy w1 vk.ownBlock) :
  w1.heap[gT]? = some (.cells #[vk, vn] 54 (0, 0)) ∧ TSt w0 (w1.setCell ⟨gT, 0, none⟩ v2) gt gl gT v2 vn ks2 ns := by
 have hT := far39 h.hk hg h.hT (by decide)
 have hP := far39 h.hk hg h.hP (by decide)
 have hL := far39 h.hk hg h.hL (by decide)
 have hn := Kd.R_over' h.hn (Kd.R_typed h.hk) (by decide) hg
 exact ⟨hT, ⟨blk_far hP (blk_ne hP hT (by decide)) _, blk_far hL (blk_ne hL hT (by decide)) _, blk_put hT 0 _ rfl, R_other hr hT (by decide) 0 _, R_other hn hT (by decide) 0 _, below_set hb h.lT, h.lT⟩⟩
theorem appN (h : TSt w0 w gt gl gT vk vn ks ns) {v2 : Value} {ns2 : List (List Int)} (hb : Below w0.heap.size w0 w1) (hr : Kd.R kn 22 w1 w0.heap.size (fun _ => True) v2 ns2) (hg : w.grownBy w1 vn.ownBlock) :
  w1.heap[gT]? = some (.cells #[vk, vn] 54 (0, 0)) ∧ TSt w0 (w1.setCell ⟨gT, 1, none⟩ v2) gt gl gT vk v2 ks ns2 := by
 have hT := far22 h.hn hg h.hT (by decide)
 have hP := far22 h.hn hg h.hP (by decide)
 have hL := far22 h.hn hg h.hL (by decide)
 have hk := Kd.R_over' h.hk (Kd.R_typed h.hn) (by decide) hg
 exact ⟨hT, ⟨blk_far hP (blk_ne hP hT (by decide)) _, blk_far hL (blk_ne hL hT (by decide)) _, blk_put hT 1 _ rfl, R_other hk hT (by decide) 1 _, R_other hr hT (by decide) 1 _, below_set hb h.lT, h.lT⟩⟩
theorem setK {g c n : Nat} (h : TSt w0 w gt gl gT (.slice (some ⟨g, 0, none⟩) n c) vn ks ns) (i : Int) (h0 : 0 ≤ i) (h1 : i < n) (v : Int) :
  (TSt w0 (w.setCell ⟨g, i.toNat * 7 + 5, none⟩ (.int .i64 v)) gt gl gT (.slice (some ⟨g, 0, none⟩) n c) vn (ks.set i.toNat (setF (ks.getD i.toNat z39) v)) ns) ∧ (TSt w0 (w.setCell ⟨g, i.toNat * 7 + 6, none⟩ (.int .i64 v)) gt gl gT (.slice (some ⟨g, 0, none⟩) n c) vn (ks.set i.toNat (setN (ks.getD i.toNat z39) v)) ns) := by
 have hne : ks ≠ [] := by
  rintro rfl
  have := (Kd.R_reads' h.hk).1
  rw [List.length_nil] at this
  omega
 have hgb : w0.heap.size ≤ g := by
  obtain ⟨inner, ho⟩ := Kd.R_own h.hk
  exact own_base ho g (by simp [Value.ownBlock])
 obtain ⟨ce, hl, hM, hc, hf⟩ := Kd.R_elem h.hk z39 i h0 h1
 obtain rfl := k39_openM hM
 have key : ∀ (j : Nat) (x' : S39) (w1 : World), w1 = w.setCell ⟨g, i.toNat * 7 + j, none⟩ (.int .i64 v) → Kd.R k39 39 w1 w0.heap.size (fun _ => True) (.slice (some ⟨g, 0, none⟩) n c) (ks.set i.toNat x') ∧ w.grownBy w1 (some g) → TSt w0 w1 gt gl gT (.slice (some ⟨g, 0, none⟩) n c) vn (ks.set i.toNat x') ns := by
  rintro j x' w1 rfl ⟨hr, hg⟩
  have hg' : w.grownBy (w.setCell ⟨g, i.toNat * 7 + j, none⟩ (.int .i64 v)) (Value.slice (some ⟨g, 0, none⟩) n c).ownBlock := hg
  exact ⟨far39 h.hk hg' h.hP (by decide), far39 h.hk hg' h.hL (by decide), far39 h.hk hg' h.hT (by decide), hr, Kd.R_over' h.hn (Kd.R_typed h.hk) (by decide) hg', below_set h.hb hgb, h.lT⟩
 refine ⟨key 5 _ _ rfl ?_, key 6 _ _ rfl ?_⟩
 ·exact Kd.R_seg h.hk i h0 h1 (seg := [.int .i64 v]) (j := 5) hl hc (show 6 ≤ 7 by decide) (x' := setF (ks.getD i.toNat z39) v) (okp := fun k => True ∧ k ≠ g) (k39_mkM _ _ _ _) (fun _ hk => hk)
 ·exact Kd.R_seg h.hk i h0 h1 (seg := [.int .i64 v]) (j := 6) hl hc (show 7 ≤ 7 by decide) (x' := setN (ks.getD i.toNat z39) v) (okp := fun k => True ∧ k ≠ g) (k39_mkM _ _ _ _) (fun _ hk => hk)
end TSt
end Go.Proofs.Ytemdnmidhmddlaa.Tree
