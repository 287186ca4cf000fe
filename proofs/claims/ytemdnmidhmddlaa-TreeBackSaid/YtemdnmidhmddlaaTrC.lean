/- tree.Make's literal, and Make, walked. Conditions: as the theorems say. -/
import Derived.Test.YtemdnmidhmddlaaTrB
import Derived.Laws.EntriesVeiled
namespace Go.Proofs.Ytemdnmidhmddlaa.Tree
open Go Go.RowKit Go.Proofs.YtemdnmidhmddlaaW.PrintWords Go.Proofs.YtemdnmidhmddlaaW.PrintLast Go.Proofs.YtemdnmidhmddlaaW.PrintMore Go.Proofs.Ytemdnmidhmddlaa.PAll
set_option linter.unusedVariables false
set_option linter.unusedSimpArgs false
inductive GoodB : S25 → Prop
 | mk (x : S25) : x.f4.length < 17592186044416 → (∀ y ∈ x.f5, GoodB y) → GoodB x
theorem GoodB.n {x : S25} (h : GoodB x) : x.f4.length < 17592186044416 := by cases h; assumption
theorem GoodB.k {x : S25} (h : GoodB x) : ∀ y ∈ x.f5, GoodB y := by cases h; assumption
theorem held6 {g : Nat} {v0 v1 v2 v3 v4 v5 : Value} {w : World} (h : w.heap[g]? = some (.cells #[v0, v1, v2, v3, v4, v5] 25 (0, 0))) : w.cell? ⟨g, 0, none⟩ = some v0 ∧ w.cell? ⟨g, 1, none⟩ = some v1 ∧ w.cell? ⟨g, 2, none⟩ = some v2 ∧ w.cell? ⟨g, 3, none⟩ = some v3 ∧ w.cell? ⟨g, 4, none⟩ = some v4 ∧ w.cell? ⟨g, 5, none⟩ = some v5 :=
 ⟨(blk_cell h 0).trans rfl, (blk_cell h 1).trans rfl, (blk_cell h 2).trans rfl, (blk_cell h 3).trans rfl, (blk_cell h 4).trans rfl, (blk_cell h 5).trans rfl⟩
theorem heldR2 {gt gT gb : Nat} {w0 w : World} {gl : Nat} {vk vn : Value} {ks : List S39} {ns : List (List Int)} {v0 v1 v2 v3 v4 v5 : Value} (h : TSt w0 w gt gl gT vk vn ks ns) (hb : w.heap[gb]? = some (.cells #[v0, v1, v2, v3, v4, v5] 25 (0, 0))) :
  w.cell? ⟨gt, 0, none⟩ = some (.pointer (some ⟨gT, 0, none⟩)) ∧ w.cell? ⟨gT, 0, none⟩ = some vk ∧ w.cell? ⟨gT, 1, none⟩ = some vn ∧ w.cell? ⟨gb, 0, none⟩ = some v0 ∧ w.cell? ⟨gb, 1, none⟩ = some v1 ∧ w.cell? ⟨gb, 2, none⟩ = some v2 ∧ w.cell? ⟨gb, 3, none⟩ = some v3 ∧ w.cell? ⟨gb, 4, none⟩ = some v4 :=
 ⟨(blk_cell h.hP 0).trans rfl, (blk_cell h.hT 0).trans rfl, (blk_cell h.hT 1).trans rfl, (blk_cell hb 0).trans rfl, (blk_cell hb 1).trans rfl, (blk_cell hb 2).trans rfl, (blk_cell hb 3).trans rfl, (blk_cell hb 4).trans rfl⟩
def headK (x : S25) (up : Int) (l : List S25) (n : Nat) : S39 := ⟨x.f0, x.f1, x.f2, x.f3, up, fst l (n + 1), -1⟩
theorem fst_ne {l : List S25} (h : l ≠ []) (m : Nat) : fst l m = (m : Int) := by
 unfold fst
 rw [if_neg (fun e => h (List.isEmpty_iff.mp e))]
theorem lay0 (ks : List S39) (x y : S25) (up : Int) (r : List S39) (v : Int) (hv : v = ((ks.length + 1 : Nat) : Int)) :
  (ks ++ (headK x up [] ks.length :: r)).set ks.length (setF ((ks ++ (headK x up [] ks.length :: r)).getD ks.length z39) v) = ks ++ (headK x up [y] ks.length :: r) := by
 subst hv
 rw [List.getD_eq_getElem?_getD, List.getElem?_append_right (Nat.le_refl _), Nat.sub_self, List.getElem?_cons_zero, List.set_append_right _ _ (Nat.le_refl _), Nat.sub_self, List.set_cons_zero]
 rfl
theorem lay1 (ks : List S39) (x y : S25) (up : Int) (l : List S25) (hl : l ≠ []) (v : Int) (hv : v = ((ks.length + 1 + szL l : Nat) : Int)) :
  (ks ++ (headK x up l ks.length :: (knL l (ks.length : Int) (ks.length + 1) ++ knL [y] (ks.length : Int) (ks.length + 1 + szL l)))).set (lastL l (ks.length + 1)) (setN ((ks ++ (headK x up l ks.length :: (knL l (ks.length : Int) (ks.length + 1) ++ knL [y] (ks.length : Int) (ks.length + 1 + szL l)))).getD (lastL l (ks.length + 1)) z39) v) = ks ++ (headK x up (l ++ [y]) ks.length :: knL (l ++ [y]) (ks.length : Int) (ks.length + 1)) := by
 subst hv
 have hge := lastL_ge l (ks.length + 1)
 have hlt := lastL_lt l (ks.length + 1) hl
 have hk := kn_len l (ks.length : Int) (ks.length + 1)
 have hs := knL_snoc (ks.length : Int) y l (ks.length + 1) hl
 obtain ⟨d, hd⟩ : ∃ d, lastL l (ks.length + 1) = (ks.length + 1) + d := ⟨_, (Nat.add_sub_cancel' hge).symm⟩
 rw [hd, Nat.add_sub_cancel_left] at hs
 have e1 : (ks ++ (headK x up l ks.length :: (knL l (ks.length : Int) (ks.length + 1) ++ knL [y] (ks.length : Int) (ks.length + 1 + szL l)))).getD (ks.length + 1 + d) z39 = (knL l (ks.length : Int) (ks.length + 1)).getD d z39 := by
  rw [List.getD_eq_getElem?_getD, List.getElem?_append_right (by omega), show ks.length + 1 + d - ks.length = d + 1 by omega, List.getElem?_cons_succ, List.getElem?_append_left (by omega), List.getD_eq_getElem?_getD]
 rw [hd, e1, List.set_append_right _ _ (by omega), show ks.length + 1 + d - ks.length = d + 1 by omega, List.set_cons_succ, List.set_append_left _ _ (by omega), hs]
 unfold headK
 rw [fst_ne hl, fst_ne (show l ++ [y] ≠ [] by simp)]
theorem len_le_szL : ∀ l : List S25, l.length ≤ szL l
 | [] => Nat.zero_le _
 | x :: r => by
  have := len_le_szL r
  rw [szL_cons, List.length_cons]
  omega
theorem szL_take (l : List S25) (i : Nat) : szL (l.take i) ≤ szL l := by
 have h := szL_app (l.take i) (l.drop i)
 rw [List.take_append_drop] at h
 omega
def lastI (l : List S25) (m : Nat) : Int := if l.isEmpty = true then -1 else (lastL l m : Int)
theorem TSt.far25 {w0 w : World} {gt gl gT : Nat} {vk vn : Value} {ks : List S39} {ns : List (List Int)} (h : TSt w0 w gt gl gT vk vn ks ns) {g : Nat} {cs : Array Value} (hg : w.heap[g]? = some (.cells cs 25 (0, 0))) (hge : w0.heap.size ≤ g) (j : Nat) (v : Value) : TSt w0 (w.setCell ⟨g, j, none⟩ v) gt gl gT vk vn ks ns :=
 ⟨blk_far h.hP (blk_ne h.hP hg (by decide)) _, blk_far h.hL (blk_ne h.hL hg (by decide)) _, blk_far h.hT (blk_ne h.hT hg (by decide)) _, R_other h.hk hg (by decide) j _, R_other h.hn hg (by decide) j _, below_set h.hb hge, h.lT⟩
def LayAt (n : Nat) : Prop := ∀ (x : S25) (up : Int) (A4 A5 : Option Addr) (c4 c5 : Nat) (w0 w : World) (gt gl gT : Nat) (vk vn : Value) (ks : List S39) (ns : List (List Int)), SizeOf.sizeOf x < n → GoodB x → TSt w0 w gt gl gT vk vn ks ns → ks.length = ns.length → ks.length + szL [x] ≤ 1000000 →
  Kd.C (Kd.int .i64) w0 A4 x.f4.length x.f4 → Kd.C k25 w0 A5 x.f5.length x.f5 →
  Calls Try.prog 31 #[.agg #[.int .i64 x.f0, .int .i64 x.f1, .int .i64 x.f2, .int .i64 x.f3, .slice A4 x.f4.length c4, .slice A5 x.f5.length c5], .int .i64 up, .pointer (some ⟨gt, 0, none⟩), .pointer (some ⟨gl, 0, none⟩)] w fun e w' =>
   ∃ vk2 vn2, e = .returned (.int .i64 (ks.length : Int)) ∧ TSt w0 w' gt gl gT vk2 vn2 (ks ++ knL [x] up ks.length) (ns ++ nmL [x]) ∧ TK TT w w'
set_option maxHeartbeats 16000000 in
set_option maxRecDepth 100000 in
theorem layround (n : Nat) (ih : LayAt n) : LayAt (n + 1) := by
 intro x up A4 A5 c4 c5 w0 w gt gl gT vk vn ks ns hz hg hS hlen hsz hC4 hC5
 have IH := Aside0.mk ih
 have HZ := Aside0.mk hz
 have HG := Aside0.mk hg
 have S0 := Aside0.mk hS
 have LEN := Aside0.mk hlen
 have SZ := Aside0.mk hsz
 have C4 := Aside0.mk hC4
 have C5 := Aside0.mk hC5
 have HM := Aside0.mk (Below.refl w.heap.size w)
 clear ih hz hg hS hlen hsz hC4 hC5
 obtain ⟨Ak, ck, ek⟩ := Kd.R_slice S0.out.hk
 subst ek
 obtain ⟨An, cn, en⟩ := Kd.R_slice S0.out.hn
 subst en
 go_enter Try.func31, Try.ntmps31
 have t0 : w.cell? ⟨gt, 0, none⟩ = some (.pointer (some ⟨gT, 0, none⟩)) := (blk_cell S0.out.hP 0).trans rfl
 go_upto_region 1 with (first | ((with_reducible refine gate_dst (N := 4) rfl ?_); refine box_event ?hg (N := 4) ?hd (cs := #[.int .i64 x.f0, .int .i64 x.f1, .int .i64 x.f2, .int .i64 x.f3, .slice A4 x.f4.length c4, .slice A5 x.f5.length c5]) (t := 25) ?hr ?_; (case hd => rfl); (case hg => rfl); (case hr => first | (go_simp; done) | (go_simp; rfl)); intro gb hg w1 hbox hb; have B1 := Aside0.mk hbox; have S1 := Aside0.mk (S0.out.below hb); have T1 := Aside0.mk (TK.below (T := TT) hb); have G1 := Aside0.mk ((by rw [hg]; exact S0.out.hb.size) : w0.heap.size ≤ gb); clear hg hb hbox))
 have t0 : w1.cell? ⟨gt, 0, none⟩ = some (.pointer (some ⟨gT, 0, none⟩)) := (blk_cell S1.out.hP 0).trans rfl
 have t1 : w1.cell? ⟨gT, 0, none⟩ = some (.slice Ak ks.length ck) := (blk_cell S1.out.hT 0).trans rfl
 go_wp2
 clear t0 t1
 refine start_ (n := 20) (S := fun w' => w'.cell? ⟨gt, 0, none⟩ = some (.pointer (some ⟨gT, 0, none⟩)) ∧ w'.cell? ⟨gT, 0, none⟩ = some (.slice Ak ks.length ck) ∧ w'.cell? ⟨gT, 1, none⟩ = some (.slice An ns.length cn) ∧ w'.cell? ⟨gb, 0, none⟩ = some (.int .i64 x.f0) ∧ w'.cell? ⟨gb, 1, none⟩ = some (.int .i64 x.f1) ∧ w'.cell? ⟨gb, 2, none⟩ = some (.int .i64 x.f2) ∧ w'.cell? ⟨gb, 3, none⟩ = some (.int .i64 x.f3) ∧ w'.cell? ⟨gb, 4, none⟩ = some (.slice A4 x.f4.length c4)) (ds := [19]) #[false, false, false, false, false, false, false, false, false, false, false, false, false, false, false, false, false, false, false, false] (by kernel_rfl) rfl rfl (heldR2 S1.out.drew (blk_drew B1.out)) (fun hHeld => ?_)
 have n_ := Aside0.mk (S1.out.drew)
 clear S1
 have S1 := n_
 clear n_
 have n_ := Aside0.mk (T1.out.trans (TK.below (below_drew1 (Below.refl _ _))))
 clear T1
 have T1 := n_
 clear n_
 have n_ := Aside0.mk (blk_drew B1.out)
 clear B1
 have B1 := n_
 clear n_
 generalize w1.drew = w2 at S1 B1 T1 hHeld ⊢
 refine take_ (i := 0) (N := some 17) (v := ?_) (a' := ?_) #[true, false, false, false, false, false, false, false, false, false, false, false, false, false, false, false, false, false, false, false] rfl rfl (by kernel_rfl) (fun _ _ _ h => h) (Or.inl ⟨by rfl, ?_⟩) hHeld ?_ ?_
 rotate_left
 ·rintro w' ⟨s0, s1, s2, s3, s4, s5, s6, s7⟩
  go_simp
  with_reducible rfl
 rotate_left
 ·simp only [Act.put, List.setIfInBounds_toArray, List.set_cons_zero, List.set_cons_succ, i64_w, i32_w]
  rfl
 refine take_ (i := 1) (N := some 18) (v := ?_) (a' := ?_) #[true, true, false, false, false, false, false, false, false, false, false, false, false, false, false, false, false, false, false, false] rfl rfl (by kernel_rfl) (fun _ _ _ h => h) (Or.inl ⟨by rfl, ?_⟩) hHeld ?_ ?_
 rotate_left
 ·rintro w' ⟨s0, s1, s2, s3, s4, s5, s6, s7⟩
  go_simp
  with_reducible rfl
 rotate_left
 ·simp only [Act.put, List.setIfInBounds_toArray, List.set_cons_zero, List.set_cons_succ, i64_w, i32_w]
  rfl
 refine pure_ (i := 2) (N := some 19) (v := ?_) (a' := ?_) #[true, true, true, false, false, false, false, false, false, false, false, false, false, false, false, false, false, false, false, false] rfl rfl (by kernel_rfl) (fun _ _ _ h => h) (Or.inl ⟨by rfl, ?_⟩) ?_ ?_
 rotate_left
 ·intro w'
  go_simp
  with_reducible rfl
 rotate_left
 ·simp only [Act.put, List.setIfInBounds_toArray, List.set_cons_zero, List.set_cons_succ, i64_w, i32_w]
  rfl
 refine pure_ (i := 3) (N := some 20) (v := ?_) (a' := ?_) #[true, true, true, true, false, false, false, false, false, false, false, false, false, false, false, false, false, false, false, false] rfl rfl (by kernel_rfl) (fun _ _ _ h => h) (Or.inl ⟨by rfl, ?_⟩) ?_ ?_
 rotate_left
 ·intro w'
  go_simp
  with_reducible rfl
 rotate_left
 ·simp only [Act.put, List.setIfInBounds_toArray, List.set_cons_zero, List.set_cons_succ, i64_w, i32_w]
  rfl
 refine take_ (i := 4) (N := some 21) (v := ?_) (a' := ?_) #[true, true, true, true, true, false, false, false, false, false, false, false, false, false, false, false, false, false, false, false] rfl rfl (by kernel_rfl) (fun _ _ _ h => h) (Or.inl ⟨by rfl, ?_⟩) hHeld ?_ ?_
 rotate_left
 ·rintro w' ⟨s0, s1, s2, s3, s4, s5, s6, s7⟩
  go_simp
  with_reducible rfl
 rotate_left
 ·simp only [Act.put, List.setIfInBounds_toArray, List.set_cons_zero, List.set_cons_succ, i64_w, i32_w]
  rfl
 refine pure_ (i := 5) (N := some 22) (v := ?_) (a' := ?_) #[true, true, true, true, true, true, false, false, false, false, false, false, false, false, false, false, false, false, false, false] rfl rfl (by kernel_rfl) (fun _ _ _ h => h) (Or.inl ⟨by rfl, ?_⟩) ?_ ?_
 rotate_left
 ·intro w'
  go_simp
  with_reducible rfl
 rotate_left
 ·simp only [Act.put, List.setIfInBounds_toArray, List.set_cons_zero, List.set_cons_succ, i64_w, i32_w]
  rfl
 refine take_ (i := 6) (N := some 23) (v := ?_) (a' := ?_) #[true, true, true, true, true, true, true, false, false, false, false, false, false, false, false, false, false, false, false, false] rfl rfl (by kernel_rfl) (fun _ _ _ h => h) (Or.inl ⟨by rfl, ?_⟩) hHeld ?_ ?_
 rotate_left
 ·rintro w' ⟨s0, s1, s2, s3, s4, s5, s6, s7⟩
  go_simp
  with_reducible rfl
 rotate_left
 ·simp only [Act.put, List.setIfInBounds_toArray, List.set_cons_zero, List.set_cons_succ, i64_w, i32_w]
  rfl
 refine pure_ (i := 7) (N := some 24) (v := ?_) (a' := ?_) #[true, true, true, true, true, true, true, true, false, false, false, false, false, false, false, false, false, false, false, false] rfl rfl (by kernel_rfl) (fun _ _ _ h => h) (Or.inl ⟨by rfl, ?_⟩) ?_ ?_
 rotate_left
 ·intro w'
  go_simp
  with_reducible rfl
 rotate_left
 ·simp only [Act.put, List.setIfInBounds_toArray, List.set_cons_zero, List.set_cons_succ, i64_w, i32_w]
  rfl
 refine take_ (i := 8) (N := some 25) (v := ?_) (a' := ?_) #[true, true, true, true, true, true, true, true, true, false, false, false, false, false, false, false, false, false, false, false] rfl rfl (by kernel_rfl) (fun _ _ _ h => h) (Or.inl ⟨by rfl, ?_⟩) hHeld ?_ ?_
 rotate_left
 ·rintro w' ⟨s0, s1, s2, s3, s4, s5, s6, s7⟩
  go_simp
  with_reducible rfl
 rotate_left
 ·simp only [Act.put, List.setIfInBounds_toArray, List.set_cons_zero, List.set_cons_succ, i64_w, i32_w]
  rfl
 refine pure_ (i := 9) (N := some 26) (v := ?_) (a' := ?_) #[true, true, true, true, true, true, true, true, true, true, false, false, false, false, false, false, false, false, false, false] rfl rfl (by kernel_rfl) (fun _ _ _ h => h) (Or.inl ⟨by rfl, ?_⟩) ?_ ?_
 rotate_left
 ·intro w'
  go_simp
  with_reducible rfl
 rotate_left
 ·simp only [Act.put, List.setIfInBounds_toArray, List.set_cons_zero, List.set_cons_succ, i64_w, i32_w]
  rfl
 refine take_ (i := 10) (N := some 27) (v := ?_) (a' := ?_) #[true, true, true, true, true, true, true, true, true, true, true, false, false, false, false, false, false, false, false, false] rfl rfl (by kernel_rfl) (fun _ _ _ h => h) (Or.inl ⟨by rfl, ?_⟩) hHeld ?_ ?_
 rotate_left
 ·rintro w' ⟨s0, s1, s2, s3, s4, s5, s6, s7⟩
  go_simp
  with_reducible rfl
 rotate_left
 ·simp only [Act.put, List.setIfInBounds_toArray, List.set_cons_zero, List.set_cons_succ, i64_w, i32_w]
  rfl
 refine pure_ (i := 11) (N := some 28) (v := ?_) (a' := ?_) #[true, true, true, true, true, true, true, true, true, true, true, true, false, false, false, false, false, false, false, false] rfl rfl (by kernel_rfl) (fun _ _ _ h => h) (Or.inl ⟨by rfl, ?_⟩) ?_ ?_
 rotate_left
 ·intro w'
  go_simp
  with_reducible rfl
 rotate_left
 ·simp only [Act.put, List.setIfInBounds_toArray, List.set_cons_zero, List.set_cons_succ, i64_w, i32_w]
  rfl
 refine take_ (i := 12) (N := some 29) (v := ?_) (a' := ?_) #[true, true, true, true, true, true, true, true, true, true, true, true, true, false, false, false, false, false, false, false] rfl rfl (by kernel_rfl) (fun _ _ _ h => h) (Or.inl ⟨by rfl, ?_⟩) hHeld ?_ ?_
 rotate_left
 ·rintro w' ⟨s0, s1, s2, s3, s4, s5, s6, s7⟩
  go_simp
  with_reducible rfl
 rotate_left
 ·simp only [Act.put, List.setIfInBounds_toArray, List.set_cons_zero, List.set_cons_succ, i64_w, i32_w]
  rfl
 refine pure_ (i := 13) (N := some 30) (v := ?_) (a' := ?_) #[true, true, true, true, true, true, true, true, true, true, true, true, true, true, false, false, false, false, false, false] rfl rfl (by kernel_rfl) (fun _ _ _ h => h) (Or.inl ⟨by rfl, ?_⟩) ?_ ?_
 rotate_left
 ·intro w'
  go_simp
  with_reducible rfl
 rotate_left
 ·simp only [Act.put, List.setIfInBounds_toArray, List.set_cons_zero, List.set_cons_succ, i64_w, i32_w]
  rfl
 refine pure_ (i := 14) (N := some 31) (v := ?_) (a' := ?_) #[true, true, true, true, true, true, true, true, true, true, true, true, true, true, true, false, false, false, false, false] rfl rfl (by kernel_rfl) (fun _ _ _ h => h) (Or.inl ⟨by rfl, ?_⟩) ?_ ?_
 rotate_left
 ·intro w'
  go_simp
  with_reducible rfl
 rotate_left
 ·simp only [Act.put, List.setIfInBounds_toArray, List.set_cons_zero, List.set_cons_succ, i64_w, i32_w]
  rfl
 refine one_ (i := 15) (N := some 32) #[true, true, true, true, true, true, true, true, true, true, true, true, true, true, true, true, false, false, false, false] rfl rfl (by kernel_rfl) (by decide) (fun K hK => ?_)
 refine event_step (w1 := w2.alloc (.cells #[.int .i64 x.f0, .int .i64 x.f1, .int .i64 x.f2, .int .i64 x.f3, .int .i64 up, .int .i64 (-1), .int .i64 (-1)] 39)) (v := .slice (some ⟨w2.heap.size, 0, none⟩) 1 1) (by rfl) ?_ ?_
 ·first | (go_simp; done) | (go_simp; rfl)
 refine hK.out _ _ (heldR2 (S1.out.below (below_alloc (Below.refl _ _) _)) (blk_below B1.out (below_alloc (Below.refl _ _) _))) (fun hHeld2 => ?_)
 clear hK K
 refine norm_ (a' := ?_) ?_ ?_
 rotate_left
 ·show Act.put _ (some 32) _ = _
  simp only [Act.put, List.setIfInBounds_toArray, List.set_cons_zero, List.set_cons_succ, i64_w, i32_w]
  rfl
 refine one_ (i := 16) (N := some 33) #[true, true, true, true, true, true, true, true, true, true, true, true, true, true, true, true, true, false, false, false] rfl rfl (by kernel_rfl) (by decide) (fun K hK => ?_)
 refine Kd.R_append_step k39 (w0 := w0) w0.heap.size (by rfl) (.tmp 21) (.tmp 32) 51 39 (.agg #[.int .i64 0, .int .i64 0, .int .i64 0, .int .i64 0, .int .i64 0, .int .i64 0, .int .i64 0]) 56 rfl Try.underlying51 info39 rfl (by decide) (by omega) (.slice Ak ks.length ck) ks (⟨x.f0, x.f1, x.f2, x.f3, up, -1, -1⟩ : S39) [.int .i64 x.f0, .int .i64 x.f1, .int .i64 x.f2, .int .i64 x.f3, .int .i64 up, .int .i64 (-1), .int .i64 (-1)] (fun _ => True) (fun _ => False) (by first | rfl | (go_simp; done) | (go_simp; rfl)) (by first | rfl | (go_simp; done) | (go_simp; rfl)) (k39_mkM _ _ _ (⟨x.f0, x.f1, x.f2, x.f3, up, -1, -1⟩ : S39)) (fun _ hk => hk.elim) (fun _ _ => trivial) S1.out.hk S1.out.hb S1.out.hb.size (by have := SZ.out; omega) ?_
 intro v2 w3 hr3 hb3 hg3 _
 have A3 := S1.out.appK hb3 hr3 hg3
 have n_ := Aside0.mk (T1.out.grown (Kd.R_typed S1.out.hk) (Or.inl rfl) hg3)
 clear T1
 have T1 := n_
 clear n_
 have B3 := Aside0.mk (blk_grown B1.out hg3 (fun e_ => ((Kd.R_typed S1.out.hk) _ e_.symm).elim fun _ hc => blk_ne B1.out hc (by decide) rfl))
 have O3 := A3.1
 have o3 : w3.cell? ⟨gT, 0, none⟩ = some (.slice Ak ks.length ck) := (blk_cell O3 0).trans rfl
 have f3 := blk_frozen O3 0
 have P3 := TSt.far39 S1.out.hk hg3 S1.out.hP (by decide)
 have S3 := Aside0.mk A3.2
 clear A3
 refine hK.out _ _ ⟨(blk_cell P3 0).trans rfl, o3, (blk_cell O3 1).trans rfl, (blk_cell B3.out 0).trans rfl, (blk_cell B3.out 1).trans rfl, (blk_cell B3.out 2).trans rfl, (blk_cell B3.out 3).trans rfl, (blk_cell B3.out 4).trans rfl⟩ (fun hHeld3 => ?_)
 clear hK K P3
 refine norm_ (a' := ?_) ?_ ?_
 rotate_left
 ·show Act.put _ (some 33) _ = _
  simp only [Act.put, List.setIfInBounds_toArray, List.set_cons_zero, List.set_cons_succ, i64_w, i32_w]
  rfl
 refine pure_ (i := 17) (N := some 34) (v := ?_) (a' := ?_) #[true, true, true, true, true, true, true, true, true, true, true, true, true, true, true, true, true, true, false, false] rfl rfl (by kernel_rfl) (fun _ _ _ h => h) (Or.inl ⟨by rfl, ?_⟩) ?_ ?_
 rotate_left
 ·intro w'
  go_simp
  with_reducible rfl
 rotate_left
 ·simp only [Act.put, List.setIfInBounds_toArray, List.set_cons_zero, List.set_cons_succ, i64_w, i32_w]
  rfl
 refine pure_ (i := 18) (N := some 35) (v := ?_) (a' := ?_) #[true, true, true, true, true, true, true, true, true, true, true, true, true, true, true, true, true, true, true, false] rfl rfl (by kernel_rfl) (fun _ _ _ h => h) (Or.inl ⟨by rfl, ?_⟩) ?_ ?_
 rotate_left
 ·intro w'
  go_simp
  with_reducible rfl
 rotate_left
 ·simp only [Act.put, List.setIfInBounds_toArray, List.set_cons_zero, List.set_cons_succ, i64_w, i32_w]
  rfl
 refine last_ (i := 19) (N := none) #[true, true, true, true, true, true, true, true, true, true, true, true, true, true, true, true, true, true, true, true] rfl rfl (by kernel_rfl) (by decide) (fun K hK => ?_)
 obtain ⟨A2_, c2_, ev_⟩ := Kd.R_slice hr3
 rw [List.length_append, List.length_singleton] at ev_
 refine skip_ (w1 := w3.setCell ⟨gT, 0, none⟩ v2) (by rfl) rfl ?_ ?_
 ·simp only [ev_]; first | (go_simp; done) | (go_simp; rfl)
 have n_ := Aside0.mk (T1.out.set O3 (Or.inr (Or.inr rfl)) 0 v2)
 clear T1
 have T1 := n_
 clear n_
 have B4 := Aside0.mk (blk_far (p := ⟨gT, 0, none⟩) B3.out (blk_ne B3.out O3 (by decide)) v2)
 clear B3 O3 o3 f3
 generalize w3.setCell ⟨gT, 0, none⟩ v2 = w4 at S3 B4 T1 ⊢
 refine hK.out _ _ ?_
 clear hK K
 refine done_ (by kernel_rfl) ?_
 clear hHeld hHeld2 hHeld3 hr3 hb3 hg3 S1 B1 S0
 subst ev_
 go_wp2
 refine start_ (n := 13) (S := fun w' => w'.cell? ⟨gt, 0, none⟩ = some (.pointer (some ⟨gT, 0, none⟩)) ∧ w'.cell? ⟨gT, 0, none⟩ = some (.slice A2_ (ks.length + 1) c2_) ∧ w'.cell? ⟨gT, 1, none⟩ = some (.slice An ns.length cn) ∧ w'.cell? ⟨gb, 0, none⟩ = some (.int .i64 x.f0) ∧ w'.cell? ⟨gb, 1, none⟩ = some (.int .i64 x.f1) ∧ w'.cell? ⟨gb, 2, none⟩ = some (.int .i64 x.f2) ∧ w'.cell? ⟨gb, 3, none⟩ = some (.int .i64 x.f3) ∧ w'.cell? ⟨gb, 4, none⟩ = some (.slice A4 x.f4.length c4)) (ds := [12]) #[false, false, false, false, false, false, false, false, false, false, false, false, false] (by kernel_rfl) rfl rfl (heldR2 S3.out.drew (blk_drew B4.out)) (fun hHeld => ?_)
 have n_ := Aside0.mk (S3.out.drew)
 clear S3
 have S3 := n_
 clear n_
 have n_ := Aside0.mk (T1.out.trans (TK.below (below_drew1 (Below.refl _ _))))
 clear T1
 have T1 := n_
 clear n_
 have n_ := Aside0.mk (blk_drew B4.out)
 clear B4
 have B4 := n_
 clear n_
 generalize w4.drew = w5 at S3 B4 T1 hHeld ⊢
 refine take_ (i := 0) (N := some 36) (v := ?_) (a' := ?_) #[true, false, false, false, false, false, false, false, false, false, false, false, false] rfl rfl (by kernel_rfl) (fun _ _ _ h => h) (Or.inl ⟨by rfl, ?_⟩) hHeld ?_ ?_
 rotate_left
 ·rintro w' ⟨s0, s1, s2, s3, s4, s5, s6, s7⟩
  go_simp
  with_reducible rfl
 rotate_left
 ·simp only [Act.put, List.setIfInBounds_toArray, List.set_cons_zero, List.set_cons_succ, i64_w, i32_w]
  rfl
 refine take_ (i := 1) (N := some 37) (v := ?_) (a' := ?_) #[true, true, false, false, false, false, false, false, false, false, false, false, false] rfl rfl (by kernel_rfl) (fun _ _ _ h => h) (Or.inl ⟨by rfl, ?_⟩) hHeld ?_ ?_
 rotate_left
 ·rintro w' ⟨s0, s1, s2, s3, s4, s5, s6, s7⟩
  go_simp
  with_reducible rfl
 rotate_left
 ·simp only [Act.put, List.setIfInBounds_toArray, List.set_cons_zero, List.set_cons_succ, i64_w, i32_w]
  rfl
 refine pure_ (i := 2) (N := some 38) (v := ?_) (a' := ?_) #[true, true, true, false, false, false, false, false, false, false, false, false, false] rfl rfl (by kernel_rfl) (fun _ _ _ h => h) (Or.inl ⟨by rfl, ?_⟩) ?_ ?_
 rotate_left
 ·intro w'
  go_simp
  with_reducible rfl
 rotate_left
 ·simp only [Act.put, List.setIfInBounds_toArray, List.set_cons_zero, List.set_cons_succ, i64_w, i32_w]
  rfl
 refine pure_ (i := 3) (N := some 39) (v := ?_) (a' := ?_) #[true, true, true, true, false, false, false, false, false, false, false, false, false] rfl rfl (by kernel_rfl) (fun _ _ _ h => h) (Or.inl ⟨by rfl, ?_⟩) ?_ ?_
 rotate_left
 ·intro w'
  go_simp
  with_reducible rfl
 rotate_left
 ·simp only [Act.put, List.setIfInBounds_toArray, List.set_cons_zero, List.set_cons_succ, i64_w, i32_w]
  rfl
 refine take_ (i := 4) (N := some 40) (v := ?_) (a' := ?_) #[true, true, true, true, true, false, false, false, false, false, false, false, false] rfl rfl (by kernel_rfl) (fun _ _ _ h => h) (Or.inl ⟨by rfl, ?_⟩) hHeld ?_ ?_
 rotate_left
 ·rintro w' ⟨s0, s1, s2, s3, s4, s5, s6, s7⟩
  go_simp
  with_reducible rfl
 rotate_left
 ·simp only [Act.put, List.setIfInBounds_toArray, List.set_cons_zero, List.set_cons_succ, i64_w, i32_w]
  rfl
 refine pure_ (i := 5) (N := some 41) (v := ?_) (a' := ?_) #[true, true, true, true, true, true, false, false, false, false, false, false, false] rfl rfl (by kernel_rfl) (fun _ _ _ h => h) (Or.inl ⟨by rfl, ?_⟩) ?_ ?_
 rotate_left
 ·intro w'
  go_simp
  with_reducible rfl
 rotate_left
 ·simp only [Act.put, List.setIfInBounds_toArray, List.set_cons_zero, List.set_cons_succ, i64_w, i32_w]
  rfl
 refine take_ (i := 6) (N := some 42) (v := ?_) (a' := ?_) #[true, true, true, true, true, true, true, false, false, false, false, false, false] rfl rfl (by kernel_rfl) (fun _ _ _ h => h) (Or.inl ⟨by rfl, ?_⟩) hHeld ?_ ?_
 rotate_left
 ·rintro w' ⟨s0, s1, s2, s3, s4, s5, s6, s7⟩
  go_simp
  with_reducible rfl
 rotate_left
 ·simp only [Act.put, List.setIfInBounds_toArray, List.set_cons_zero, List.set_cons_succ, i64_w, i32_w]
  rfl
 refine one_ (i := 7) (N := some 43) #[true, true, true, true, true, true, true, true, false, false, false, false, false] rfl rfl (by kernel_rfl) (by decide) (fun K hK => ?_)
 refine goes_ Try.func32 (by kernel_rfl) rfl #[.slice A4 x.f4.length c4] (by rfl) rfl rfl (by (try simp only [List.map_toArray, List.map_cons, List.map_nil]); first | done | rfl) ?_
 refine (clone_ A4 c4 x.f4 w5 (Kd.C_below C4.out S3.out.hb) HG.out.n).mono ?_
 rintro e w6 ⟨vc, rfl, hrc, hbc⟩
 refine ⟨_, rfl, ?_⟩
 have RC := Aside0.mk (Kd.R_lower (Kd.R_newR hrc S3.out.hn) S3.out.hb.size)
 have n_ := Aside0.mk (S3.out.below hbc)
 clear S3
 have S3 := n_
 clear n_
 have n_ := Aside0.mk (T1.out.trans (TK.below hbc))
 clear T1
 have T1 := n_
 clear n_
 have n_ := Aside0.mk (blk_below B4.out hbc)
 clear B4
 have B4 := n_
 clear n_
 clear hrc hbc
 refine hK.out _ _ (heldR2 S3.out B4.out) (fun hHeld2 => ?_)
 clear hK K
 refine norm_ (a' := ?_) ?_ ?_
 rotate_left
 ·show Act.put _ (some 43) _ = _
  simp only [Act.put, List.setIfInBounds_toArray, List.set_cons_zero, List.set_cons_succ, i64_w, i32_w]
  rfl
 refine one_ (i := 8) (N := some 44) #[true, true, true, true, true, true, true, true, true, false, false, false, false] rfl rfl (by kernel_rfl) (by decide) (fun K hK => ?_)
 obtain ⟨Ac, cc, ec⟩ := Kd.R_slice RC.out
 subst ec
 refine event_step (w1 := w6.alloc (.cells #[.slice Ac x.f4.length cc] 22)) (v := .slice (some ⟨w6.heap.size, 0, none⟩) 1 1) (by rfl) ?_ ?_
 ·first | (go_simp; done) | (go_simp; rfl)
 refine hK.out _ _ (heldR2 (S3.out.below (below_alloc (Below.refl _ _) _)) (blk_below B4.out (below_alloc (Below.refl _ _) _))) (fun hHeld3 => ?_)
 clear hK K
 refine norm_ (a' := ?_) ?_ ?_
 rotate_left
 ·show Act.put _ (some 44) _ = _
  simp only [Act.put, List.setIfInBounds_toArray, List.set_cons_zero, List.set_cons_succ, i64_w, i32_w]
  rfl
 refine one_ (i := 9) (N := some 45) #[true, true, true, true, true, true, true, true, true, true, false, false, false] rfl rfl (by kernel_rfl) (by decide) (fun K hK => ?_)
 refine Kd.R_append_step kn (w0 := w0) w0.heap.size (by rfl) (.tmp 40) (.tmp 44) 52 22 (.slice none 0 0) 24 rfl Try.underlying52 info22 rfl (show 0 < kn.sz from Nat.one_pos) (by omega) (.slice An ns.length cn) ns x.f4 [.slice Ac x.f4.length cc] (fun _ => True) (fun k => True ∧ some k ≠ (Value.slice An ns.length cn).ownBlock) (by first | rfl | (go_simp; done) | (go_simp; rfl)) (by first | rfl | (go_simp; done) | (go_simp; rfl)) ?aP (fun _ hk => hk) (fun _ _ => trivial) S3.out.hn S3.out.hb S3.out.hb.size (by have := SZ.out; have := LEN.out; omega) ?_
 case aP => exact ⟨_, rfl, RC.out⟩
 intro v2 w7 hr3 hb3 hg3 _
 have A3 := S3.out.appN hb3 hr3 hg3
 have n_ := Aside0.mk (T1.out.grown (Kd.R_typed S3.out.hn) (Or.inr (Or.inl rfl)) hg3)
 clear T1
 have T1 := n_
 clear n_
 have B5 := Aside0.mk (blk_grown B4.out hg3 (fun e_ => ((Kd.R_typed S3.out.hn) _ e_.symm).elim fun _ hc => blk_ne B4.out hc (by decide) rfl))
 have O3 := A3.1
 have o3 : w7.cell? ⟨gT, 1, none⟩ = some (.slice An ns.length cn) := (blk_cell O3 1).trans rfl
 have f3 := blk_frozen O3 1
 have P3 := TSt.far22 S3.out.hn hg3 S3.out.hP (by decide)
 have S5 := Aside0.mk A3.2
 clear A3
 refine hK.out _ _ ⟨(blk_cell P3 0).trans rfl, (blk_cell O3 0).trans rfl, o3, (blk_cell B5.out 0).trans rfl, (blk_cell B5.out 1).trans rfl, (blk_cell B5.out 2).trans rfl, (blk_cell B5.out 3).trans rfl, (blk_cell B5.out 4).trans rfl⟩ (fun hHeld4 => ?_)
 clear hK K P3
 refine norm_ (a' := ?_) ?_ ?_
 rotate_left
 ·show Act.put _ (some 45) _ = _
  simp only [Act.put, List.setIfInBounds_toArray, List.set_cons_zero, List.set_cons_succ, i64_w, i32_w]
  rfl
 refine pure_ (i := 10) (N := some 46) (v := ?_) (a' := ?_) #[true, true, true, true, true, true, true, true, true, true, true, false, false] rfl rfl (by kernel_rfl) (fun _ _ _ h => h) (Or.inl ⟨by rfl, ?_⟩) ?_ ?_
 rotate_left
 ·intro w'
  go_simp
  with_reducible rfl
 rotate_left
 ·simp only [Act.put, List.setIfInBounds_toArray, List.set_cons_zero, List.set_cons_succ, i64_w, i32_w]
  rfl
 refine pure_ (i := 11) (N := some 47) (v := ?_) (a' := ?_) #[true, true, true, true, true, true, true, true, true, true, true, true, false] rfl rfl (by kernel_rfl) (fun _ _ _ h => h) (Or.inl ⟨by rfl, ?_⟩) ?_ ?_
 rotate_left
 ·intro w'
  go_simp
  with_reducible rfl
 rotate_left
 ·simp only [Act.put, List.setIfInBounds_toArray, List.set_cons_zero, List.set_cons_succ, i64_w, i32_w]
  rfl
 refine last_ (i := 12) (N := none) #[true, true, true, true, true, true, true, true, true, true, true, true, true] rfl rfl (by kernel_rfl) (by decide) (fun K hK => ?_)
 obtain ⟨A3_, c3_, ev_⟩ := Kd.R_slice hr3
 rw [List.length_append, List.length_singleton] at ev_
 refine skip_ (w1 := w7.setCell ⟨gT, 1, none⟩ v2) (by rfl) rfl ?_ ?_
 ·simp only [ev_]; first | (go_simp; done) | (go_simp; rfl)
 have n_ := Aside0.mk (T1.out.set O3 (Or.inr (Or.inr rfl)) 1 v2)
 clear T1
 have T1 := n_
 clear n_
 have B6 := Aside0.mk (blk_far (p := ⟨gT, 1, none⟩) B5.out (blk_ne B5.out O3 (by decide)) v2)
 clear B5 O3 o3 f3
 generalize w7.setCell ⟨gT, 1, none⟩ v2 = w8 at S5 B6 T1 ⊢
 refine hK.out _ _ ?_
 clear hK K
 refine done_ (by kernel_rfl) ?_
 clear hHeld hHeld2 hHeld3 hHeld4 hr3 hb3 hg3 S3 B4 RC
 subst ev_
 have y5 : w8.cell? ⟨gb, 5, none⟩ = some (.slice A5 x.f5.length c5) := (blk_cell B6.out 5).trans rfl
 have KN : Aside0 ((knL [] (ks.length : Int) (ks.length + 1)) = [] ∧ fst ([] : List S25) (ks.length + 1) = -1) := ⟨⟨knL_nil _ _, rfl⟩⟩
 go_wp2
 have EH : Aside0 (ks ++ [(⟨x.f0, x.f1, x.f2, x.f3, up, -1, -1⟩ : S39)] = ks ++ (headK x up (x.f5.take 0) ks.length :: knL (x.f5.take 0) (ks.length : Int) (ks.length + 1)) ∧ ns ++ [x.f4] = ns ++ (x.f4 :: nmL (x.f5.take 0))) := ⟨by rw [List.take_zero, knL_nil, nmL_nil]; exact ⟨rfl, rfl⟩⟩
 have S6 : Aside0 (∃ vk vn, TSt w0 w8 gt gl gT vk vn (ks ++ (headK x up (x.f5.take 0) ks.length :: knL (x.f5.take 0) (ks.length : Int) (ks.length + 1))) (ns ++ (x.f4 :: nmL (x.f5.take 0)))) := ⟨_, _, by rw [← EH.out.1, ← EH.out.2]; exact S5.out⟩
 have K5 : Aside0 (x.f5.length ≤ 1000000) := ⟨by have h1_ := SZ.out; rw [szL_cons, szL_nil] at h1_; have h2_ := len_le_szL x.f5; omega⟩
 clear KN EH y5
 go_loopg [8, 51] (x.f5.length + 1) (fun kq v8 v51 w' => ∃ (i : Nat) (a : Int), v8 = .int .i64 (lastI (x.f5.take i) (ks.length + 1)) ∧ v51 = .int .i64 a ∧ Aside0 (a = (i : Int)) ∧ Aside0 (kq + i = x.f5.length + 1 ∧ i ≤ x.f5.length) ∧ Aside0 (∃ vk vn, TSt w0 w' gt gl gT vk vn (ks ++ (headK x up (x.f5.take i) ks.length :: knL (x.f5.take i) (ks.length : Int) (ks.length + 1))) (ns ++ (x.f4 :: nmL (x.f5.take i)))) ∧ Aside0 (w'.heap[gb]? = some (.cells #[.int .i64 x.f0, .int .i64 x.f1, .int .i64 x.f2, .int .i64 x.f3, .slice A4 x.f4.length c4, .slice A5 x.f5.length c5] 25 (0, 0))) ∧ Aside0 (TK TT w w'))
 case atStart => exact ⟨0, 0, rfl, rfl, ⟨rfl⟩, ⟨⟨by omega, by omega⟩⟩, S6, B6, T1⟩
 case round =>
  clear S6 S5 B6 T1
  obtain ⟨i, a, rfl, rfl, HE, HK, SS0, B6, T1⟩ := hrel
  cases gk with
  | zero => have := HK.out; omega
  | succ k1 =>
   obtain ⟨vk, vn, hss⟩ := SS0.out
   have SS := Aside0.mk hss
   clear hss SS0
   by_cases cc : a < (x.f5.length : Int)
   ·have c0b : decide (a < (x.f5.length : Int)) = true := decide_eq_true cc
    have hi : i < x.f5.length := by have := HE.out; omega
    have p1 : (0 : Int) ≤ a := by have := HE.out; omega
    have q1 : a < (x.f5.length : Int) := cc
    obtain ⟨ad, D4, e4, D5, e5, ead, hy0, hy1, hy2, hy3, hy4, hy5, l4, g4, l5, g5⟩ := at_T25 C5.out a p1 q1
    cases ead
    obtain ⟨y, hy⟩ : ∃ y, x.f5[i]? = some y := ⟨x.f5[i], List.getElem?_eq_getElem hi⟩
    have hry : rd_T25 x.f5 a = y := by unfold rd_T25; rw [HE.out, Int.toNat_natCast, List.getD_eq_getElem?_getD, hy]; rfl
    rw [hry] at hy0 hy1 hy2 hy3 hy4 hy5 l4 g4 l5 g5
    have hmem := List.mem_of_getElem? hy
    have CY4 := Aside0.mk g4
    have CY5 := Aside0.mk g5
    have GY := Aside0.mk (HG.out.k y hmem)
    have ZY : Aside0 (SizeOf.sizeOf y < n) := ⟨by have h1_ := szx x; have h2_ := List.sizeOf_lt_of_mem hmem; have h3_ := HZ.out; omega⟩
    have TK_ : Aside0 (x.f5.take (i + 1) = x.f5.take i ++ [y]) := ⟨by rw [List.take_succ_eq_append_getElem hi]; rw [List.getElem?_eq_getElem hi] at hy; rw [Option.some.inj hy]⟩
    have SM : Aside0 (szL (x.f5.take (i + 1)) ≤ szL x.f5) := ⟨szL_take x.f5 (i + 1)⟩
    have ew : wrap64 (a + 1) = a + 1 := wid (by have := HE.out; omega) (by have := HE.out; have := K5.out; omega)
    replace hy0 := (SS.out.hb.cell (World.block_lt_of_cell? w0 _ hy0)).trans hy0
    replace hy1 := (SS.out.hb.cell (World.block_lt_of_cell? w0 _ hy1)).trans hy1
    replace hy2 := (SS.out.hb.cell (World.block_lt_of_cell? w0 _ hy2)).trans hy2
    replace hy3 := (SS.out.hb.cell (World.block_lt_of_cell? w0 _ hy3)).trans hy3
    replace hy4 := (SS.out.hb.cell (World.block_lt_of_cell? w0 _ hy4)).trans hy4
    replace hy5 := (SS.out.hb.cell (World.block_lt_of_cell? w0 _ hy5)).trans hy5
    replace p1 := eq_true p1
    replace q1 := eq_true q1
    clear hry hy hmem g4 g5 l4 l5 cc
    go_upto_region 8 with (first | ((with_reducible refine gate_dst (N := 10) rfl ?_); refine box_event ?hg (N := 10) ?hd (cs := #[.int .i64 0, .int .i64 0, .int .i64 0, .int .i64 0, .slice none 0 0, .slice none 0 0]) (t := 25) ?hr ?_; (case hd => rfl); (case hg => rfl); (case hr => first | (go_simp; done) | (go_simp; rfl)); intro gy hg w_gy hbox hb; have Bgy := Aside0.mk hbox; have S9 := Aside0.mk (SS.out.below hb); have T2 := Aside0.mk (T1.out.trans (TK.below hb)); have L2 := Aside0.mk ((by rw [hg]; exact T1.out.sz) : w.heap.size ≤ gy); have NN := Aside0.mk (Nat.ne_of_lt (Nat.lt_of_lt_of_le (Array.getElem?_eq_some_iff.mp B6.out).1 (by rw [hg]; exact Nat.le_refl _)) : gb ≠ gy); have B7 := Aside0.mk (blk_below B6.out hb); have Ggy := Aside0.mk ((by rw [hg]; exact SS.out.hb.size) : w0.heap.size ≤ gy); have cgy_0 : w_gy.cell? ⟨gy, 0, none⟩ = some (.int .i64 0) := (blk_cell Bgy.out 0).trans rfl; have fgy_0 := blk_frozen Bgy.out 0; have cgy_1 : w_gy.cell? ⟨gy, 1, none⟩ = some (.int .i64 0) := (blk_cell Bgy.out 1).trans rfl; have fgy_1 := blk_frozen Bgy.out 1; have cgy_2 : w_gy.cell? ⟨gy, 2, none⟩ = some (.int .i64 0) := (blk_cell Bgy.out 2).trans rfl; have fgy_2 := blk_frozen Bgy.out 2; have cgy_3 : w_gy.cell? ⟨gy, 3, none⟩ = some (.int .i64 0) := (blk_cell Bgy.out 3).trans rfl; have fgy_3 := blk_frozen Bgy.out 3; have cgy_4 : w_gy.cell? ⟨gy, 4, none⟩ = some (.slice none 0 0) := (blk_cell Bgy.out 4).trans rfl; have fgy_4 := blk_frozen Bgy.out 4; have cgy_5 : w_gy.cell? ⟨gy, 5, none⟩ = some (.slice none 0 0) := (blk_cell Bgy.out 5).trans rfl; have fgy_5 := blk_frozen Bgy.out 5; clear hbox hb hg))
    have Bgy_0 := Aside0.mk (blk_put Bgy.out 0 (.int .i64 y.f0) rfl)
    have Bgy_1 := Aside0.mk (blk_put Bgy_0.out 1 (.int .i64 y.f1) rfl)
    have Bgy_2 := Aside0.mk (blk_put Bgy_1.out 2 (.int .i64 y.f2) rfl)
    have Bgy_3 := Aside0.mk (blk_put Bgy_2.out 3 (.int .i64 y.f3) rfl)
    have Bgy_4 := Aside0.mk (blk_put Bgy_3.out 4 (.slice D4 y.f4.length e4) rfl)
    have Bgy_5 := Aside0.mk (blk_put Bgy_4.out 5 (.slice D5 y.f5.length e5) rfl)
    have S10 := Aside0.mk (TSt.far25 (TSt.far25 (TSt.far25 (TSt.far25 (TSt.far25 (TSt.far25 S9.out Bgy.out Ggy.out 0 (.int .i64 y.f0)) Bgy_0.out Ggy.out 1 (.int .i64 y.f1)) Bgy_1.out Ggy.out 2 (.int .i64 y.f2)) Bgy_2.out Ggy.out 3 (.int .i64 y.f3)) Bgy_3.out Ggy.out 4 (.slice D4 y.f4.length e4)) Bgy_4.out Ggy.out 5 (.slice D5 y.f5.length e5))
    have T3 := Aside0.mk (TK.new (j := 5) (v := .slice D5 y.f5.length e5) (TK.new (j := 4) (v := .slice D4 y.f4.length e4) (TK.new (j := 3) (v := .int .i64 y.f3) (TK.new (j := 2) (v := .int .i64 y.f2) (TK.new (j := 1) (v := .int .i64 y.f1) (TK.new (j := 0) (v := .int .i64 y.f0) T2.out L2.out) L2.out) L2.out) L2.out) L2.out) L2.out)
    have B8 := Aside0.mk (blk_far (p := ⟨gy, 5, none⟩) (blk_far (p := ⟨gy, 4, none⟩) (blk_far (p := ⟨gy, 3, none⟩) (blk_far (p := ⟨gy, 2, none⟩) (blk_far (p := ⟨gy, 1, none⟩) (blk_far (p := ⟨gy, 0, none⟩) B7.out NN.out (.int .i64 y.f0)) NN.out (.int .i64 y.f1)) NN.out (.int .i64 y.f2)) NN.out (.int .i64 y.f3)) NN.out (.slice D4 y.f4.length e4)) NN.out (.slice D5 y.f5.length e5))
    have X8 := Aside0.mk (show (((((((w_gy.setCell ⟨gy, 0, none⟩ (.int .i64 y.f0)).setCell ⟨gy, 1, none⟩ (.int .i64 y.f1)).setCell ⟨gy, 2, none⟩ (.int .i64 y.f2)).setCell ⟨gy, 3, none⟩ (.int .i64 y.f3)).setCell ⟨gy, 4, none⟩ (.slice D4 y.f4.length e4)).setCell ⟨gy, 5, none⟩ (.slice D5 y.f5.length e5))).heap[gy]? = some (.cells #[.int .i64 y.f0, .int .i64 y.f1, .int .i64 y.f2, .int .i64 y.f3, .slice D4 y.f4.length e4, .slice D5 y.f5.length e5] 25 (0, 0)) from Bgy_5.out)
    clear Bgy Bgy_0 Bgy_1 Bgy_2 Bgy_3 Bgy_4 Bgy_5 S9 B7 SS B6 T1 T2 hy0 hy1 hy2 hy3 hy4 hy5 cgy_0 fgy_0 cgy_1 fgy_1 cgy_2 fgy_2 cgy_3 fgy_3 cgy_4 fgy_4 cgy_5 fgy_5
    generalize ((((((w_gy.setCell ⟨gy, 0, none⟩ (.int .i64 y.f0)).setCell ⟨gy, 1, none⟩ (.int .i64 y.f1)).setCell ⟨gy, 2, none⟩ (.int .i64 y.f2)).setCell ⟨gy, 3, none⟩ (.int .i64 y.f3)).setCell ⟨gy, 4, none⟩ (.slice D4 y.f4.length e4)).setCell ⟨gy, 5, none⟩ (.slice D5 y.f5.length e5)) = w9 at S10 B8 X8 T3 ⊢
    have z0 : w9.cell? ⟨gl, 0, none⟩ = some (.func (.func 31) #[] #[.pointer (some ⟨gt, 0, none⟩), .pointer (some ⟨gl, 0, none⟩)]) := (blk_cell S10.out.hL 0).trans rfl
    have z1 : w9.cell? ⟨gy, 0, none⟩ = some (.int .i64 y.f0) := (blk_cell X8.out 0).trans rfl
    have z2 : w9.cell? ⟨gy, 1, none⟩ = some (.int .i64 y.f1) := (blk_cell X8.out 1).trans rfl
    have z3 : w9.cell? ⟨gy, 2, none⟩ = some (.int .i64 y.f2) := (blk_cell X8.out 2).trans rfl
    have z4 : w9.cell? ⟨gy, 3, none⟩ = some (.int .i64 y.f3) := (blk_cell X8.out 3).trans rfl
    have z5 : w9.cell? ⟨gy, 4, none⟩ = some (.slice D4 y.f4.length e4) := (blk_cell X8.out 4).trans rfl
    have z6 : w9.cell? ⟨gy, 5, none⟩ = some (.slice D5 y.f5.length e5) := (blk_cell X8.out 5).trans rfl
    have LK : Aside0 ((ks ++ (headK x up (x.f5.take i) ks.length :: knL (x.f5.take i) (ks.length : Int) (ks.length + 1))).length = ks.length + 1 + szL (x.f5.take i)) := ⟨by rw [List.length_append, List.length_cons, kn_len]; omega⟩
    have LN : Aside0 ((ks ++ (headK x up (x.f5.take i) ks.length :: knL (x.f5.take i) (ks.length : Int) (ks.length + 1))).length = (ns ++ (x.f4 :: nmL (x.f5.take i))).length) := ⟨by rw [LK.out, List.length_append, List.length_cons, nm_len, LEN.out]; omega⟩
    have SI : Aside0 (ks.length + 1 + szL (x.f5.take i) + szL [y] ≤ 1000000) := ⟨by have h1_ := SM.out; have h2_ := SZ.out; rw [TK_.out, szL_app] at h1_; rw [szL_cons, szL_nil] at h2_; omega⟩
    obtain ⟨mi, hmi⟩ : ∃ mi : Int, mi = ((ks ++ (headK x up (x.f5.take i) ks.length :: knL (x.f5.take i) (ks.length : Int) (ks.length + 1))).length : Int) := ⟨_, rfl⟩
    have HMI := Aside0.mk hmi
    have EMI : Aside0 (mi = ((ks.length + 1 + szL (x.f5.take i) : Nat) : Int)) := ⟨by rw [hmi, LK.out]⟩
    clear hmi
    go_upto_region 9 with (first | (go_at_call 31; refine (IH.out y (ks.length : Int) D4 D5 e4 e5 w0 _ gt gl gT vk vn (ks ++ (headK x up (x.f5.take i) ks.length :: knL (x.f5.take i) (ks.length : Int) (ks.length + 1))) (ns ++ (x.f4 :: nmL (x.f5.take i))) ZY.out GY.out S10.out LN.out (by rw [LK.out]; exact SI.out) CY4.out CY5.out).mono ?_; rintro e w10 ⟨vk2, vn2, he, hss, htk⟩; rw [← HMI.out] at he; subst he; have S11 := Aside0.mk hss; have B9 := Aside0.mk (htk.bl _ _ _ B8.out (by unfold TT; decide)); have T4 := Aside0.mk (T3.out.trans htk); clear hss htk))
    clear z0 z1 z2 z3 z4 z5 z6 S10 B8 X8 T3
    rw [LK.out] at S11
    obtain ⟨Az, cz, ez⟩ := Kd.R_slice S11.out.hk
    subst ez
    have LZ : Aside0 (((ks ++ (headK x up (x.f5.take i) ks.length :: knL (x.f5.take i) (ks.length : Int) (ks.length + 1))) ++ knL [y] (ks.length : Int) (ks.length + 1 + szL (x.f5.take i))).length = ks.length + 1 + szL (x.f5.take i) + szL [y]) := ⟨by rw [List.length_append, LK.out, kn_len]⟩
    have YP : Aside0 (1 ≤ szL [y]) := ⟨by rw [szL_cons]; omega⟩
    obtain ⟨lz, hlz⟩ : ∃ lz, lz = ((ks ++ (headK x up (x.f5.take i) ks.length :: knL (x.f5.take i) (ks.length : Int) (ks.length + 1))) ++ knL [y] (ks.length : Int) (ks.length + 1 + szL (x.f5.take i))).length := ⟨_, rfl⟩
    have HLZ := Aside0.mk hlz
    have S12 : Aside0 (TSt w0 w10 gt gl gT (.slice Az lz cz) vn2 ((ks ++ (headK x up (x.f5.take i) ks.length :: knL (x.f5.take i) (ks.length : Int) (ks.length + 1))) ++ knL [y] (ks.length : Int) (ks.length + 1 + szL (x.f5.take i))) ((ns ++ (x.f4 :: nmL (x.f5.take i))) ++ nmL [y])) := ⟨by rw [hlz]; exact S11.out⟩
    clear hlz S11
    obtain ⟨gz, _, egz, _, _, _⟩ := Kd.R_form (show Kd.R k39 39 w10 w0.heap.size (fun _ => True) (.slice Az ((ks ++ (headK x up (x.f5.take i) ks.length :: knL (x.f5.take i) (ks.length : Int) (ks.length + 1))) ++ knL [y] (ks.length : Int) (ks.length + 1 + szL (x.f5.take i))).length cz) _ from HLZ.out ▸ S12.out.hk) (by have := LZ.out; have := YP.out; omega)
    injection egz with egz _ _
    subst egz
    have t0 : w10.cell? ⟨gt, 0, none⟩ = some (.pointer (some ⟨gT, 0, none⟩)) := (blk_cell S12.out.hP 0).trans rfl
    have t1 : w10.cell? ⟨gT, 0, none⟩ = some (.slice (some ⟨gz, 0, none⟩) lz cz) := (blk_cell S12.out.hT 0).trans rfl
    have ERG : x.f5.take (i + 1) = x.f5.take i ++ [y] := TK_.out
    have EN : Aside0 ((ns ++ (x.f4 :: nmL (x.f5.take i))) ++ nmL [y] = ns ++ (x.f4 :: nmL (x.f5.take (i + 1)))) := ⟨by rw [ERG, nmL_app, List.append_assoc, List.cons_append]⟩
    have EL : Aside0 (mi = lastI (x.f5.take (i + 1)) (ks.length + 1)) := ⟨by
     rw [ERG]
     unfold lastI
     rw [if_neg (by simp), lastL_snoc, EMI.out]⟩
    clear ERG
    by_cases ci : i = 0
    ·have TE : Aside0 (x.f5.take i = []) := ⟨by rw [ci]; rfl⟩
     have lb : lastI (x.f5.take i) (ks.length + 1) = -1 := by rw [TE.out]; rfl
     have p2 : (0 : Int) ≤ (ks.length : Int) := by omega
     have q2 : (ks.length : Int) < (lz : Int) := by have := LZ.out; have := YP.out; have := HLZ.out; omega
     have S13 := Aside0.mk (S12.out.setK (ks.length : Int) p2 q2 mi).1
     obtain ⟨ce, hl1, hM1, hc1, hf1⟩ := Kd.R_elem S12.out.hk z39 (ks.length : Int) p2 q2
     obtain rfl := k39_openM hM1
     have x5 := hc1 5 _ rfl
     have f5 := hf1 5
     rw [show k39.sz = 7 from rfl] at x5 f5
     have T5 := Aside0.mk ((T4.out.trans (TK.refl TT _)))
     obtain ⟨cs39, h39⟩ := Kd.R_typed S12.out.hk gz rfl
     have T6 := Aside0.mk (T4.out.set h39 (Or.inl rfl) ((ks.length : Int).toNat * 7 + 5) (.int .i64 mi))
     have B10 := Aside0.mk (blk_far (p := ⟨gz, (ks.length : Int).toNat * 7 + 5, none⟩) B9.out (blk_ne B9.out h39 (by decide)) (.int .i64 mi))
     have E1 : Aside0 ((((ks ++ (headK x up (x.f5.take i) ks.length :: knL (x.f5.take i) (ks.length : Int) (ks.length + 1))) ++ knL [y] (ks.length : Int) (ks.length + 1 + szL (x.f5.take i))).set (ks.length : Int).toNat (setF (((ks ++ (headK x up (x.f5.take i) ks.length :: knL (x.f5.take i) (ks.length : Int) (ks.length + 1))) ++ knL [y] (ks.length : Int) (ks.length + 1 + szL (x.f5.take i))).getD (ks.length : Int).toNat z39) mi)) = ks ++ (headK x up (x.f5.take (i + 1)) ks.length :: knL (x.f5.take (i + 1)) (ks.length : Int) (ks.length + 1))) := ⟨by
      rw [TK_.out, TE.out, Int.toNat_natCast, knL_nil, szL_nil, List.append_assoc, List.cons_append, List.nil_append, Nat.add_zero, List.nil_append]
      exact lay0 ks x y up _ mi (by rw [EMI.out, TE.out, szL_nil])⟩
     rw [E1.out, EN.out] at S13
     rw [Int.toNat_natCast] at S13 x5 f5 T6 B10
     rw [lb]
     replace p2 := eq_true p2
     replace q2 := eq_true q2
     clear hl1 hM1 hc1 hf1 h39 S12 B9 T4 T5 E1 EN
     go_wp2
     go_roundg k1
     case measure => omega
     case rel => exact ⟨i + 1, a + 1, by rw [← EL.out], by first | rfl | rw [ew], ⟨by rw [HE.out]; rfl⟩, ⟨by have := HK.out; omega⟩, ⟨_, _, S13.out⟩, B10, T6⟩
    ·have TN : x.f5.take i ≠ [] := fun h => by
      have h2 := congrArg List.length h
      rw [List.length_take, List.length_nil] at h2
      omega
     obtain ⟨li, hli⟩ : ∃ li : Nat, li = lastL (x.f5.take i) (ks.length + 1) := ⟨_, rfl⟩
     have LI := Aside0.mk hli
     have LL : Aside0 (ks.length + 1 ≤ li ∧ li < ks.length + 1 + szL (x.f5.take i)) := ⟨by rw [hli]; exact ⟨lastL_ge _ _, lastL_lt _ _ TN⟩⟩
     have lb : lastI (x.f5.take i) (ks.length + 1) = (li : Int) := by unfold lastI; rw [if_neg (fun e => TN (List.isEmpty_iff.mp e)), hli]
     have lc : ((li : Int) == -1) = false := by rw [beq_eq_false_iff_ne]; omega
     have p2 : (0 : Int) ≤ (li : Int) := by omega
     have q2 : (li : Int) < (lz : Int) := by have := LZ.out; have := YP.out; have := HLZ.out; have := LL.out; omega
     have S13 := Aside0.mk (S12.out.setK (li : Int) p2 q2 mi).2
     obtain ⟨ce, hl1, hM1, hc1, hf1⟩ := Kd.R_elem S12.out.hk z39 (li : Int) p2 q2
     obtain rfl := k39_openM hM1
     have x5 := hc1 6 _ rfl
     have f5 := hf1 6
     rw [show k39.sz = 7 from rfl] at x5 f5
     obtain ⟨cs39, h39⟩ := Kd.R_typed S12.out.hk gz rfl
     have T6 := Aside0.mk (T4.out.set h39 (Or.inl rfl) ((li : Int).toNat * 7 + 6) (.int .i64 mi))
     have B10 := Aside0.mk (blk_far (p := ⟨gz, (li : Int).toNat * 7 + 6, none⟩) B9.out (blk_ne B9.out h39 (by decide)) (.int .i64 mi))
     have E1 : Aside0 ((((ks ++ (headK x up (x.f5.take i) ks.length :: knL (x.f5.take i) (ks.length : Int) (ks.length + 1))) ++ knL [y] (ks.length : Int) (ks.length + 1 + szL (x.f5.take i))).set (li : Int).toNat (setN (((ks ++ (headK x up (x.f5.take i) ks.length :: knL (x.f5.take i) (ks.length : Int) (ks.length + 1))) ++ knL [y] (ks.length : Int) (ks.length + 1 + szL (x.f5.take i))).getD (li : Int).toNat z39) mi)) = ks ++ (headK x up (x.f5.take (i + 1)) ks.length :: knL (x.f5.take (i + 1)) (ks.length : Int) (ks.length + 1))) := ⟨by
      rw [TK_.out, Int.toNat_natCast, hli, List.append_assoc, List.cons_append]
      exact lay1 ks x y up (x.f5.take i) TN mi EMI.out⟩
     rw [E1.out, EN.out] at S13
     rw [Int.toNat_natCast] at S13 x5 f5 T6 B10
     rw [lb]
     replace p2 := eq_true p2
     replace q2 := eq_true q2
     clear hl1 hM1 hc1 hf1 h39 S12 B9 T4 E1 EN hli TN
     go_wp2
     go_roundg k1
     case measure => omega
     case rel => exact ⟨i + 1, a + 1, by rw [← EL.out], by first | rfl | rw [ew], ⟨by rw [HE.out]; rfl⟩, ⟨by have := HK.out; omega⟩, ⟨_, _, S13.out⟩, B10, T6⟩
   ·have c0b : decide (a < (x.f5.length : Int)) = false := decide_eq_false cc
    have ei : i = x.f5.length := by have := HE.out; have := HK.out; omega
    go_wp2
    go_ret
    refine ⟨rfl, ⟨vk, vn, ?_⟩, T1.out⟩
    have h_ := SS.out
    rw [ei, List.take_length] at h_
    rw [knL_cons, nmL_cons, knL_nil, nmL_nil, List.append_nil, List.append_nil]
    exact h_
theorem lay_ : ∀ n, LayAt n
 | 0 => fun x up A4 A5 c4 c5 w0 w gt gl gT vk vn ks ns h => absurd h (Nat.not_lt_zero _)
 | n + 1 => layround n (lay_ n)
def TreeAt (w : World) (g : Nat) (ks : List S39) (ns : List (List Int)) : Prop :=
 ∃ A0 c0 A1 c1, w.heap[g]? = some (.cells #[.slice A0 ks.length c0, .slice A1 ns.length c1] 54 (0, 0)) ∧ ks.length ≤ c0 ∧ ns.length ≤ c1 ∧ Kd.C k39 w A0 ks.length ks ∧ Kd.C kn w A1 ns.length ns
theorem TreeAt.below {w w1 : World} {g : Nat} {ks : List S39} {ns : List (List Int)} (h : TreeAt w g ks ns) (hb : Below w.heap.size w w1) : TreeAt w1 g ks ns := by
 obtain ⟨A0, c0, A1, c1, h1, h2, h3, h4, h5⟩ := h
 exact ⟨A0, c0, A1, c1, blk_below h1 hb, h2, h3, Kd.C_below h4 hb, Kd.C_below h5 hb⟩
set_option maxHeartbeats 8000000 in
set_option maxRecDepth 100000 in
theorem make_ (x : S25) (A4 A5 : Option Addr) (c4 c5 : Nat) (w : World) (hg : GoodB x) (hsz : szL [x] ≤ 1000000) (hC4 : Kd.C (Kd.int .i64) w A4 x.f4.length x.f4) (hC5 : Kd.C k25 w A5 x.f5.length x.f5) :
  Calls Try.prog 9 #[.agg #[.int .i64 x.f0, .int .i64 x.f1, .int .i64 x.f2, .int .i64 x.f3, .slice A4 x.f4.length c4, .slice A5 x.f5.length c5]] w fun e w' =>
   ∃ g, e = .returned (.pointer (some ⟨g, 0, none⟩)) ∧ TreeAt w' g (knL [x] (-1) 0) (nmL [x]) ∧ Below w.heap.size w w' := by
 have hmf : ∀ (fn : Fn) (first cap : Array Value) (w : World), (Instr.makeFunc fn first cap).run Try.prog w = .ok (.func fn first cap) w := fun _ _ _ _ => rfl
 have HG := Aside0.mk hg
 have SZ := Aside0.mk hsz
 have C4 := Aside0.mk hC4
 have C5 := Aside0.mk hC5
 have HM := Aside0.mk (Below.refl w.heap.size w)
 clear hg hsz hC4 hC5
 go_enter Try.func9, Try.ntmps9
 go_upto_region 2 with (first | ((with_reducible refine gate_dst (N := 1) rfl ?_); refine box_event ?hg (N := 1) ?hd (cs := #[.int .i64 x.f0, .int .i64 x.f1, .int .i64 x.f2, .int .i64 x.f3, .slice A4 x.f4.length c4, .slice A5 x.f5.length c5]) (t := 25) ?hr ?_; (case hd => rfl); (case hg => rfl); (case hr => first | (go_simp; done) | (go_simp; rfl)); intro gx hg w_gx hbox hb; have Bgx := Aside0.mk hbox; have Ggx := Aside0.mk ((by rw [hg]; exact (below_size (by repeat (first | (with_reducible first | exact HM.out | apply below_alloc | apply pw_below_drewN | apply below_drew1) | exact HM.out)))) : w.heap.size ≤ gx); have n0_ := Aside0.mk (below_step (by repeat (first | (with_reducible first | exact HM.out | apply below_alloc | apply pw_below_drewN | apply below_drew1) | exact HM.out)) hb); clear HM; have HM := n0_; clear n0_; clear hbox hb hg) | ((with_reducible refine gate_dst (N := 6) rfl ?_); refine box_event ?hg (N := 6) ?hd (cs := #[.slice none 0 0, .slice none 0 0]) (t := 54) ?hr ?_; (case hd => rfl); (case hg => rfl); (case hr => first | (go_simp; done) | (go_simp; rfl)); intro gT hg w_gT hbox hb; have BgT := Aside0.mk hbox; have n1_ := Aside0.mk (blk_below Bgx.out hb); clear Bgx; have Bgx := n1_; clear n1_; have GgT := Aside0.mk ((by rw [hg]; exact (below_size (by repeat (first | (with_reducible first | exact HM.out | apply below_alloc | apply pw_below_drewN | apply below_drew1) | exact HM.out)))) : w.heap.size ≤ gT); have n0_ := Aside0.mk (below_step (by repeat (first | (with_reducible first | exact HM.out | apply below_alloc | apply pw_below_drewN | apply below_drew1) | exact HM.out)) hb); clear HM; have HM := n0_; clear n0_; clear hbox hb hg) | ((with_reducible refine gate_dst (N := 3) rfl ?_); refine box_event ?hg (N := 3) ?hd (cs := #[.pointer none]) (t := 27) ?hr ?_; (case hd => rfl); (case hg => rfl); (case hr => first | (go_simp; done) | (go_simp; rfl)); intro gt hg w_gt hbox hb; have Bgt := Aside0.mk hbox; have n1_ := Aside0.mk (blk_below Bgx.out hb); clear Bgx; have Bgx := n1_; clear n1_; have n1_ := Aside0.mk (blk_below BgT.out hb); clear BgT; have BgT := n1_; clear n1_; have Ggt := Aside0.mk ((by rw [hg]; exact (below_size (by repeat (first | (with_reducible first | exact HM.out | apply below_alloc | apply pw_below_drewN | apply below_drew1) | exact HM.out)))) : w.heap.size ≤ gt); have n0_ := Aside0.mk (below_step (by repeat (first | (with_reducible first | exact HM.out | apply below_alloc | apply pw_below_drewN | apply below_drew1) | exact HM.out)) hb); clear HM; have HM := n0_; clear n0_; have cgt_0 : w_gt.cell? ⟨gt, 0, none⟩ = some (.pointer none) := (blk_cell Bgt.out 0).trans rfl; have fgt_0 := blk_frozen Bgt.out 0; clear hbox hb hg))
 have Bt := Aside0.mk (blk_put Bgt.out 0 (.pointer (some ⟨gT, 0, none⟩)) rfl)
 have Bx := Aside0.mk (blk_far (p := ⟨gt, 0, none⟩) Bgx.out (blk_ne Bgx.out Bgt.out (by decide)) (.pointer (some ⟨gT, 0, none⟩)))
 have BT := Aside0.mk (blk_far (p := ⟨gt, 0, none⟩) BgT.out (blk_ne BgT.out Bgt.out (by decide)) (.pointer (some ⟨gT, 0, none⟩)))
 have n0_ := Aside0.mk (below_set HM.out Ggt.out (v := .pointer (some ⟨gT, 0, none⟩)) (j := 0))
 clear HM Bgt Bgx BgT cgt_0 fgt_0
 have HM := n0_
 clear n0_
 generalize w_gt.setCell ⟨gt, 0, none⟩ (.pointer (some ⟨gT, 0, none⟩)) = w1 at Bt Bx BT HM ⊢
 go_upto_region 4 with (first | ((with_reducible refine gate_dst (N := 4) rfl ?_); refine box_event ?hg (N := 4) ?hd (cs := #[.nilFunc]) (t := 35) ?hr ?_; (case hd => rfl); (case hg => rfl); (case hr => first | (go_simp; done) | (go_simp; rfl)); intro gl hg w_gl hbox hb; have Bgl := Aside0.mk hbox; have n1_ := Aside0.mk (blk_below Bx.out hb); clear Bx; have Bx := n1_; clear n1_; have n1_ := Aside0.mk (blk_below Bt.out hb); clear Bt; have Bt := n1_; clear n1_; have n1_ := Aside0.mk (blk_below BT.out hb); clear BT; have BT := n1_; clear n1_; have Ggl := Aside0.mk ((by rw [hg]; exact (below_size (by repeat (first | (with_reducible first | exact HM.out | apply below_alloc | apply pw_below_drewN | apply below_drew1) | exact HM.out)))) : w.heap.size ≤ gl); have n0_ := Aside0.mk (below_step (by repeat (first | (with_reducible first | exact HM.out | apply below_alloc | apply pw_below_drewN | apply below_drew1) | exact HM.out)) hb); clear HM; have HM := n0_; clear n0_; have cgl_0 : w_gl.cell? ⟨gl, 0, none⟩ = some (.nilFunc) := (blk_cell Bgl.out 0).trans rfl; have fgl_0 := blk_frozen Bgl.out 0; clear hbox hb hg))
 have Bl := Aside0.mk (blk_put Bgl.out 0 (.func (.func 31) #[] #[.pointer (some ⟨gt, 0, none⟩), .pointer (some ⟨gl, 0, none⟩)]) rfl)
 have Bx2 := Aside0.mk (blk_far (p := ⟨gl, 0, none⟩) Bx.out (blk_ne Bx.out Bgl.out (by decide)) (.func (.func 31) #[] #[.pointer (some ⟨gt, 0, none⟩), .pointer (some ⟨gl, 0, none⟩)]))
 have Bt2 := Aside0.mk (blk_far (p := ⟨gl, 0, none⟩) Bt.out (blk_ne Bt.out Bgl.out (by decide)) (.func (.func 31) #[] #[.pointer (some ⟨gt, 0, none⟩), .pointer (some ⟨gl, 0, none⟩)]))
 have BT2 := Aside0.mk (blk_far (p := ⟨gl, 0, none⟩) BT.out (blk_ne BT.out Bgl.out (by decide)) (.func (.func 31) #[] #[.pointer (some ⟨gt, 0, none⟩), .pointer (some ⟨gl, 0, none⟩)]))
 have n0_ := Aside0.mk (below_set HM.out Ggl.out (v := .func (.func 31) #[] #[.pointer (some ⟨gt, 0, none⟩), .pointer (some ⟨gl, 0, none⟩)]) (j := 0))
 clear HM Bgl Bx Bt BT cgl_0 fgl_0
 have HM := n0_
 clear n0_
 generalize w_gl.setCell ⟨gl, 0, none⟩ (.func (.func 31) #[] #[.pointer (some ⟨gt, 0, none⟩), .pointer (some ⟨gl, 0, none⟩)]) = w2 at Bl Bx2 Bt2 BT2 HM ⊢
 have S0 : Aside0 (TSt w w2 gt gl gT (.slice none 0 0) (.slice none 0 0) [] []) := ⟨⟨Bt2.out, Bl.out, BT2.out, Kd.R_nil _ _ _ _ _, Kd.R_nil _ _ _ _ _, HM.out, GgT.out⟩⟩
 have z0 : w2.cell? ⟨gl, 0, none⟩ = some (.func (.func 31) #[] #[.pointer (some ⟨gt, 0, none⟩), .pointer (some ⟨gl, 0, none⟩)]) := (blk_cell Bl.out 0).trans rfl
 have z1 : w2.cell? ⟨gx, 0, none⟩ = some (.int .i64 x.f0) := (blk_cell Bx2.out 0).trans rfl
 have z2 : w2.cell? ⟨gx, 1, none⟩ = some (.int .i64 x.f1) := (blk_cell Bx2.out 1).trans rfl
 have z3 : w2.cell? ⟨gx, 2, none⟩ = some (.int .i64 x.f2) := (blk_cell Bx2.out 2).trans rfl
 have z4 : w2.cell? ⟨gx, 3, none⟩ = some (.int .i64 x.f3) := (blk_cell Bx2.out 3).trans rfl
 have z5 : w2.cell? ⟨gx, 4, none⟩ = some (.slice A4 x.f4.length c4) := (blk_cell Bx2.out 4).trans rfl
 have z6 : w2.cell? ⟨gx, 5, none⟩ = some (.slice A5 x.f5.length c5) := (blk_cell Bx2.out 5).trans rfl
 go_upto_region 5 with (first | (go_at_call 31; refine (lay_ (SizeOf.sizeOf x + 1) x (-1) A4 A5 c4 c5 w _ gt gl gT (.slice none 0 0) (.slice none 0 0) [] [] (Nat.lt_succ_self _) HG.out S0.out rfl (by have := SZ.out; rw [List.length_nil]; omega) C4.out C5.out).mono ?_; rintro e w3 ⟨vk, vn, rfl, hss, htk⟩; have S1 := Aside0.mk hss; clear hss htk))
 clear z0 z1 z2 z3 z4 z5 z6
 have t0 : w3.cell? ⟨gt, 0, none⟩ = some (.pointer (some ⟨gT, 0, none⟩)) := (blk_cell S1.out.hP 0).trans rfl
 go_wp2
 go_ret
 obtain ⟨Ak, ck, ek, hkc, hC1⟩ := Kd.R_reads S1.out.hk
 obtain ⟨An, cn, en, hnc, hC2⟩ := Kd.R_reads S1.out.hn
 subst ek
 subst en
 exact ⟨gT, rfl, ⟨Ak, ck, An, cn, S1.out.hT, hkc, hnc, hC1, hC2⟩, S1.out.hb⟩
end Go.Proofs.Ytemdnmidhmddlaa.Tree
