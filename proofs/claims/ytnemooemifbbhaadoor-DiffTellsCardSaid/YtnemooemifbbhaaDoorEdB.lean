/- Several texts of this session's, one behind the other: what each proves stands ahead of it. -/
import Derived.Test.YtnemooemifbbhaaDoorPDTx0
import Derived.Test.YtnemooemifbbhaaDoorPDTx4
import Derived.Test.YtnemooemifbbhaaDoorPDTx6s
import Derived.Test.YtnemooemifbbhaaDoorTabF
namespace Go.Proofs.YtnemooemifbbhaaDoor.Fill
open Go Go.RowKit Go.Proofs.YtnemooemifbbhaaDoorW.PrintWords Go.Proofs.YtnemooemifbbhaaDoorW.PrintLast Go.Proofs.YtnemooemifbbhaaDoorW.PrintMore Go.Proofs.YtnemooemifbbhaaDoor.PDT
set_option linter.unusedVariables false
set_option linter.unusedSimpArgs false
structure St (w0 w : World) (gi gk go gx gt gy : Nat) (Ax Ay : Option Addr) (cx cy : Nat) (xs ys : List Int) (t : ByteArray) (vp : Value) (ps : List S36) (i k : Int) (vo : Value) (out : List S56) : Prop where
 hI : w.heap[gi]? = some (.cells #[.int .i64 i] 3 (0, 0))
 hK : w.heap[gk]? = some (.cells #[.int .i64 k] 3 (0, 0))
 hO : w.heap[go]? = some (.cells #[vo] 31 (0, 0))
 hX : w.heap[gx]? = some (.cells #[.slice Ax xs.length cx] 37 (0, 0))
 hT : w.heap[gt]? = some (.cells #[.string t] 9 (0, 0))
 hY : w.heap[gy]? = some (.cells #[.slice Ay ys.length cy] 37 (0, 0))
 hx : Kd.R (Kd.int .i64) 3 w w0.heap.size (fun q => q ≠ gi ∧ q ≠ gk) (.slice Ax xs.length cx) xs
 hy : Kd.R (Kd.int .i64) 3 w w0.heap.size (fun q => q ≠ gi ∧ q ≠ gk) (.slice Ay ys.length cy) ys
 ho : Kd.R k56 56 w w0.heap.size (fun _ => True) vo out
 hp : Kd.R k36 36 w w0.heap.size (fun _ => True) vp ps
 hb : Below w0.heap.size w0 w
 li : w0.heap.size ≤ gi
 lk : w0.heap.size ≤ gk
 lo : w0.heap.size ≤ go
 ne : gi ≠ gk
theorem R_other {α : Type} {d : Kd α} {e e' : Nat} {w : World} {base : Nat} {ok : Nat → Prop} {u : Value} {xs : List α} {g : Nat} {cs : Array Value} (h : d.R e w base ok u xs) (hg : w.heap[g]? = some (.cells cs e' (0, 0))) (ht : ∀ q, q ∈ e :: d.E → q ≠ e') (v : Value) : d.R e (w.setCell ⟨g, 0, none⟩ v) base ok u xs := by
 refine Kd.R_step (Kd.R_bound h) (fun k hk hlt => Below.heap_setCell w ⟨g, 0, none⟩ v k (fun he => ?_)) |> (Kd.R_mono · (fun _ hk => hk.1))
 obtain ⟨_, _, _, q, hq, cells, hc⟩ := hk
 change k = g at he
 rw [he, hg] at hc
 injection hc with hc
 injection hc with _ hc
 exact ht q hq hc.symm
namespace St
variable {w0 w w1 : World} {gi gk go gx gt gy : Nat} {Ax Ay : Option Addr} {cx cy : Nat} {xs ys : List Int} {t : ByteArray} {vp : Value} {ps : List S36} {i k : Int} {vo : Value} {out : List S56}
theorem below (h : St w0 w gi gk go gx gt gy Ax Ay cx cy xs ys t vp ps i k vo out) (hb : Below w.heap.size w w1) : St w0 w1 gi gk go gx gt gy Ax Ay cx cy xs ys t vp ps i k vo out :=
 ⟨blk_below h.hI hb, blk_below h.hK hb, blk_below h.hO hb, blk_below h.hX hb, blk_below h.hT hb, blk_below h.hY hb, Kd.R_below h.hx hb, Kd.R_below h.hy hb, Kd.R_below h.ho hb, Kd.R_below h.hp hb, below_step h.hb hb, h.li, h.lk, h.lo, h.ne⟩
theorem drew (h : St w0 w gi gk go gx gt gy Ax Ay cx cy xs ys t vp ps i k vo out) : St w0 w.drew gi gk go gx gt gy Ax Ay cx cy xs ys t vp ps i k vo out := h.below (below_drew (Below.refl _ _))
theorem setI (h : St w0 w gi gk go gx gt gy Ax Ay cx cy xs ys t vp ps i k vo out) (i' : Int) : St w0 (w.setCell ⟨gi, 0, none⟩ (.int .i64 i')) gi gk go gx gt gy Ax Ay cx cy xs ys t vp ps i' k vo out :=
 ⟨blk_put h.hI 0 _ rfl, blk_far h.hK (Ne.symm h.ne) _, blk_far h.hO (blk_ne h.hO h.hI (by decide)) _, blk_far h.hX (blk_ne h.hX h.hI (by decide)) _, blk_far h.hT (blk_ne h.hT h.hI (by decide)) _, blk_far h.hY (blk_ne h.hY h.hI (by decide)) _,
  Kd.R_far h.hx (fun _ hq => hq.1) _, Kd.R_far h.hy (fun _ hq => hq.1) _, R_other h.ho h.hI (by decide) _, R_other h.hp h.hI (by decide) _, below_set h.hb h.li, h.li, h.lk, h.lo, h.ne⟩
theorem setK (h : St w0 w gi gk go gx gt gy Ax Ay cx cy xs ys t vp ps i k vo out) (k' : Int) : St w0 (w.setCell ⟨gk, 0, none⟩ (.int .i64 k')) gi gk go gx gt gy Ax Ay cx cy xs ys t vp ps i k' vo out :=
 ⟨blk_far h.hI h.ne _, blk_put h.hK 0 _ rfl, blk_far h.hO (blk_ne h.hO h.hK (by decide)) _, blk_far h.hX (blk_ne h.hX h.hK (by decide)) _, blk_far h.hT (blk_ne h.hT h.hK (by decide)) _, blk_far h.hY (blk_ne h.hY h.hK (by decide)) _,
  Kd.R_far h.hx (fun _ hq => hq.2) _, Kd.R_far h.hy (fun _ hq => hq.2) _, R_other h.ho h.hK (by decide) _, R_other h.hp h.hK (by decide) _, below_set h.hb h.lk, h.li, h.lk, h.lo, h.ne⟩
theorem app (h : St w0 w gi gk go gx gt gy Ax Ay cx cy xs ys t vp ps i k vo out) {v2 : Value} {out2 : List S56} (hb : Below w0.heap.size w0 w1) (hr : Kd.R k56 56 w1 w0.heap.size (fun _ => True) v2 out2) (hg : w.grownBy w1 vo.ownBlock) : w1.heap[go]? = some (.cells #[vo] 31 (0, 0)) ∧ St w0 (w1.setCell ⟨go, 0, none⟩ v2) gi gk go gx gt gy Ax Ay cx cy xs ys t vp ps i k v2 out2 := by
 have ty := Kd.R_typed h.ho
 have far : ∀ {g : Nat} {cs : Array Value} {e : TypeId}, w.heap[g]? = some (.cells cs e (0, 0)) → e ≠ 56 → w1.heap[g]? = some (.cells cs e (0, 0)) := fun hh he => blk_grown hh hg (fun e_ => (ty _ e_.symm).elim fun _ hc => blk_ne hh hc he rfl)
 have hO := far h.hO (by decide)
 have hI := far h.hI (by decide)
 have hK := far h.hK (by decide)
 have hX := far h.hX (by decide)
 have hT := far h.hT (by decide)
 have hY := far h.hY (by decide)
 have hx := Kd.R_over' h.hx ty (by decide) hg
 have hy := Kd.R_over' h.hy ty (by decide) hg
 have hp := Kd.R_over' h.hp ty (by decide) hg
 exact ⟨hO, ⟨blk_far hI (blk_ne hI hO (by decide)) _, blk_far hK (blk_ne hK hO (by decide)) _, blk_put hO 0 _ rfl, blk_far hX (blk_ne hX hO (by decide)) _, blk_far hT (blk_ne hT hO (by decide)) _, blk_far hY (blk_ne hY hO (by decide)) _,
  R_other hx hO (by decide) _, R_other hy hO (by decide) _, R_other hr hO (by decide) _, R_other hp hO (by decide) _, below_set hb h.lo, h.li, h.lk, h.lo, h.ne⟩⟩
theorem withP {vp2 : Value} {ps2 : List S36} (h : St w0 w gi gk go gx gt gy Ax Ay cx cy xs ys t vp ps i k vo out) (hp : Kd.R k36 36 w w0.heap.size (fun _ => True) vp2 ps2) : St w0 w gi gk go gx gt gy Ax Ay cx cy xs ys t vp2 ps2 i k vo out :=
 ⟨h.hI, h.hK, h.hO, h.hX, h.hT, h.hY, h.hx, h.hy, h.ho, hp, h.hb, h.li, h.lk, h.lo, h.ne⟩
end St
def runE (t : ByteArray) (xs ys : List Int) (i k : Int) (out : List S56) (p : S36) : Option (List S56) :=
 if i < p.f0 ∨ k < p.f1 then
  if (0 ≤ i ∧ i < (xs.length : Int) ∧ 0 ≤ p.f0 ∧ p.f0 < (xs.length : Int)) ∧ (0 ≤ k ∧ k < (ys.length : Int) ∧ 0 ≤ p.f1 ∧ p.f1 < (ys.length : Int)) ∧ (0 ≤ rd ys k ∧ rd ys k ≤ rd ys p.f1 ∧ rd ys p.f1 ≤ (t.size : Int)) ∧ out.length < 4398046511104 then
   some (out ++ [(⟨rd xs i, rd xs p.f0, t.extract (rd ys k).toNat (rd ys p.f1).toNat⟩ : S56)]) else none
 else some out
theorem cellA {w : World} {a : Addr} {v : Value} {o : Obj} (h : w.cell? a = some v) : (w.alloc o).cell? a = some v := ((below_alloc (Below.refl w.heap.size w) o).cell (World.block_lt_of_cell? w _ h)).trans h
set_option maxHeartbeats 8000000 in
set_option maxRecDepth 100000 in
theorem step (w0 w : World) (gi gk go gx gt gy : Nat) (Ax Ay : Option Addr) (cx cy : Nat) (xs ys : List Int) (t : ByteArray) (vp : Value) (ps : List S36) (i k : Int) (vo : Value) (out out2 : List S56) (p0 p1 : Int) (hS : St w0 w gi gk go gx gt gy Ax Ay cx cy xs ys t vp ps i k vo out) (h : runE t xs ys i k out ⟨p0, p1⟩ = some out2) :
  Calls Tryd.prog 34 #[.agg #[.int .i64 p0, .int .i64 p1], .pointer (some ⟨gi, 0, none⟩), .pointer (some ⟨gk, 0, none⟩), .pointer (some ⟨go, 0, none⟩), .pointer (some ⟨gx, 0, none⟩), .pointer (some ⟨gt, 0, none⟩), .pointer (some ⟨gy, 0, none⟩)] w fun e w' => e = .returned (.tuple #[]) ∧ ∃ vo2 : Value, St w0 w' gi gk go gx gt gy Ax Ay cx cy xs ys t vp ps (wrap64 (p0 + 1)) (wrap64 (p1 + 1)) vo2 out2 := by
 have H0 := Aside0.mk hS
 clear hS
 unfold runE at h
 by_cases c : i < p0 ∨ k < p1
 ·rw [if_pos c] at h
  by_cases q : (0 ≤ i ∧ i < (xs.length : Int) ∧ 0 ≤ p0 ∧ p0 < (xs.length : Int)) ∧ (0 ≤ k ∧ k < (ys.length : Int) ∧ 0 ≤ p1 ∧ p1 < (ys.length : Int)) ∧ (0 ≤ rd ys k ∧ rd ys k ≤ rd ys p1 ∧ rd ys p1 ≤ (t.size : Int)) ∧ out.length < 4398046511104
  ·rw [if_pos q] at h
   obtain rfl := Option.some.inj h
   clear h
   obtain ⟨q0, q1, q2, q3⟩ := q
   replace q3 := Aside0.mk q3
   have z0 := eq_true q0.1
   have z1 := eq_true q0.2.1
   have z2 := eq_true q0.2.2.1
   have z3 := eq_true q0.2.2.2
   have z4 := eq_true q1.1
   have z5 := eq_true q1.2.1
   have z6 := eq_true q1.2.2.1
   have z7 := eq_true q1.2.2.2
   have z8 := eq_true q2.1
   have z9 := eq_true q2.2.1
   have z10 := eq_true q2.2.2
   by_cases c1 : i < p0
   ·have b1 : decide (i < p0) = true := decide_eq_true c1
    clear c
    go_enter Tryd.func34, Tryd.ntmps34
    go_wp2_with (first | ((with_reducible refine gate_dst (N := 7) rfl ?_); refine box_event ?hg (N := 7) ?hd (cs := #[.int .i64 p0, .int .i64 p1]) (t := 36) ?hr ?_; (case hd => rfl); (case hg => rfl); (case hr => first | (go_simp; done) | (go_simp; rfl)); intro gp hgp w1 hbox hb; have P := Aside0.mk hbox; have H := Aside0.mk (H0.out.below hb); have cp0 : w1.cell? ⟨gp, 0, none⟩ = some (.int .i64 p0) := (blk_cell hbox 0).trans rfl; have cp1 : w1.cell? ⟨gp, 1, none⟩ = some (.int .i64 p1) := (blk_cell hbox 1).trans rfl; have ci1 : w1.cell? ⟨gi, 0, none⟩ = some (.int .i64 i) := (blk_cell H.out.hI 0).trans rfl; have ck1 : w1.cell? ⟨gk, 0, none⟩ = some (.int .i64 k) := (blk_cell H.out.hK 0).trans rfl; clear hbox hb hgp))
    clear cp0 cp1 ci1 ck1
    have H1 := H
    have P1 := P
    obtain ⟨ax, ex1, xi⟩ := Kd.at_int (Kd.R_reads' H1.out.hx).2.2 i q0.1 q0.2.1
    obtain ⟨ax2, ex2, xp⟩ := Kd.at_int (Kd.R_reads' H1.out.hx).2.2 p0 q0.2.2.1 q0.2.2.2
    obtain ⟨ay, ey1, yk⟩ := Kd.at_int (Kd.R_reads' H1.out.hy).2.2 k q1.1 q1.2.1
    obtain ⟨ay2, ey2, yp⟩ := Kd.at_int (Kd.R_reads' H1.out.hy).2.2 p1 q1.2.2.1 q1.2.2.2
    subst ex1
    obtain rfl := Option.some.inj ex2
    subst ey1
    obtain rfl := Option.some.inj ey2
    clear H1 P1
    refine start_ (n := 25) (S := fun w' => w'.cell? ⟨go, 0, none⟩ = some vo ∧ w'.cell? ⟨gx, 0, none⟩ = some (.slice (some ax) xs.length cx) ∧ w'.cell? ⟨gi, 0, none⟩ = some (.int .i64 i) ∧ w'.cell? (ax.add i.toNat) = some (.int .i64 (rd xs i)) ∧ w'.cell? ⟨gp, 0, none⟩ = some (.int .i64 p0) ∧ w'.cell? (ax.add p0.toNat) = some (.int .i64 (rd xs p0)) ∧ w'.cell? ⟨gt, 0, none⟩ = some (.string t) ∧ w'.cell? ⟨gy, 0, none⟩ = some (.slice (some ay) ys.length cy) ∧ w'.cell? ⟨gk, 0, none⟩ = some (.int .i64 k) ∧ w'.cell? (ay.add k.toNat) = some (.int .i64 (rd ys k)) ∧ w'.cell? ⟨gp, 1, none⟩ = some (.int .i64 p1) ∧ w'.cell? (ay.add p1.toNat) = some (.int .i64 (rd ys p1))) (ds := [23, 24]) #[false, false, false, false, false, false, false, false, false, false, false, false, false, false, false, false, false, false, false, false, false, false, false, false, false] (by kernel_rfl) rfl rfl ?_ (fun hHeld => ?_)
    ·exact ⟨(blk_cell H.out.hO 0).trans rfl, (blk_cell H.out.hX 0).trans rfl, (blk_cell H.out.hI 0).trans rfl, xi, (blk_cell P.out 0).trans rfl, xp, (blk_cell H.out.hT 0).trans rfl, (blk_cell H.out.hY 0).trans rfl, (blk_cell H.out.hK 0).trans rfl, yk, (blk_cell P.out 1).trans rfl, yp⟩
    have H1 := Aside0.mk H.out.drew
    have P1 := Aside0.mk (blk_drew P.out)
    clear H P
    generalize w1.drew = w2 at H1 P1 hHeld ⊢
    refine take_ (i := 0) (N := some 18) (v := ?_) (a' := ?_) #[true, false, false, false, false, false, false, false, false, false, false, false, false, false, false, false, false, false, false, false, false, false, false, false, false] rfl rfl (by kernel_rfl) (fun _ _ _ h => h) (Or.inl ⟨by rfl, ?_⟩) hHeld ?_ ?_
    rotate_left
    ·rintro w' ⟨s0, s1, s2, s3, s4, s5, s6, s7, s8, s9, s10, s11⟩
     go_simp
     with_reducible rfl
    rotate_left
    ·simp only [Act.put, List.setIfInBounds_toArray, List.set_cons_zero, List.set_cons_succ, i64_w, i32_w]
     rfl
    refine take_ (i := 1) (N := some 19) (v := ?_) (a' := ?_) #[true, true, false, false, false, false, false, false, false, false, false, false, false, false, false, false, false, false, false, false, false, false, false, false, false] rfl rfl (by kernel_rfl) (fun _ _ _ h => h) (Or.inl ⟨by rfl, ?_⟩) hHeld ?_ ?_
    rotate_left
    ·rintro w' ⟨s0, s1, s2, s3, s4, s5, s6, s7, s8, s9, s10, s11⟩
     go_simp
     with_reducible rfl
    rotate_left
    ·simp only [Act.put, List.setIfInBounds_toArray, List.set_cons_zero, List.set_cons_succ, i64_w, i32_w]
     rfl
    refine take_ (i := 2) (N := some 20) (v := ?_) (a' := ?_) #[true, true, true, false, false, false, false, false, false, false, false, false, false, false, false, false, false, false, false, false, false, false, false, false, false] rfl rfl (by kernel_rfl) (fun _ _ _ h => h) (Or.inl ⟨by rfl, ?_⟩) hHeld ?_ ?_
    rotate_left
    ·rintro w' ⟨s0, s1, s2, s3, s4, s5, s6, s7, s8, s9, s10, s11⟩
     go_simp
     with_reducible rfl
    rotate_left
    ·simp only [Act.put, List.setIfInBounds_toArray, List.set_cons_zero, List.set_cons_succ, i64_w, i32_w]
     rfl
    refine pure_ (i := 3) (N := some 21) (v := ?_) (a' := ?_) #[true, true, true, true, false, false, false, false, false, false, false, false, false, false, false, false, false, false, false, false, false, false, false, false, false] rfl rfl (by kernel_rfl) (fun _ _ _ h => h) (Or.inl ⟨by rfl, ?_⟩) ?_ ?_
    rotate_left
    ·intro w'
     go_simp
     with_reducible rfl
    rotate_left
    ·simp only [Act.put, List.setIfInBounds_toArray, List.set_cons_zero, List.set_cons_succ, i64_w, i32_w]
     rfl
    refine take_ (i := 4) (N := some 22) (v := ?_) (a' := ?_) #[true, true, true, true, true, false, false, false, false, false, false, false, false, false, false, false, false, false, false, false, false, false, false, false, false] rfl rfl (by kernel_rfl) (fun _ _ _ h => h) (Or.inl ⟨by rfl, ?_⟩) hHeld ?_ ?_
    rotate_left
    ·rintro w' ⟨s0, s1, s2, s3, s4, s5, s6, s7, s8, s9, s10, s11⟩
     go_simp
     with_reducible rfl
    rotate_left
    ·simp only [Act.put, List.setIfInBounds_toArray, List.set_cons_zero, List.set_cons_succ, i64_w, i32_w]
     rfl
    refine take_ (i := 5) (N := some 23) (v := ?_) (a' := ?_) #[true, true, true, true, true, true, false, false, false, false, false, false, false, false, false, false, false, false, false, false, false, false, false, false, false] rfl rfl (by kernel_rfl) (fun _ _ _ h => h) (Or.inl ⟨by rfl, ?_⟩) hHeld ?_ ?_
    rotate_left
    ·rintro w' ⟨s0, s1, s2, s3, s4, s5, s6, s7, s8, s9, s10, s11⟩
     go_simp
     with_reducible rfl
    rotate_left
    ·simp only [Act.put, List.setIfInBounds_toArray, List.set_cons_zero, List.set_cons_succ, i64_w, i32_w]
     rfl
    refine pure_ (i := 6) (N := some 24) (v := ?_) (a' := ?_) #[true, true, true, true, true, true, true, false, false, false, false, false, false, false, false, false, false, false, false, false, false, false, false, false, false] rfl rfl (by kernel_rfl) (fun _ _ _ h => h) (Or.inl ⟨by rfl, ?_⟩) ?_ ?_
    rotate_left
    ·intro w'
     go_simp
     with_reducible rfl
    rotate_left
    ·simp only [Act.put, List.setIfInBounds_toArray, List.set_cons_zero, List.set_cons_succ, i64_w, i32_w]
     rfl
    refine take_ (i := 7) (N := some 25) (v := ?_) (a' := ?_) #[true, true, true, true, true, true, true, true, false, false, false, false, false, false, false, false, false, false, false, false, false, false, false, false, false] rfl rfl (by kernel_rfl) (fun _ _ _ h => h) (Or.inl ⟨by rfl, ?_⟩) hHeld ?_ ?_
    rotate_left
    ·rintro w' ⟨s0, s1, s2, s3, s4, s5, s6, s7, s8, s9, s10, s11⟩
     go_simp
     with_reducible rfl
    rotate_left
    ·simp only [Act.put, List.setIfInBounds_toArray, List.set_cons_zero, List.set_cons_succ, i64_w, i32_w]
     rfl
    refine pure_ (i := 8) (N := some 26) (v := ?_) (a' := ?_) #[true, true, true, true, true, true, true, true, true, false, false, false, false, false, false, false, false, false, false, false, false, false, false, false, false] rfl rfl (by kernel_rfl) (fun _ _ _ h => h) (Or.inl ⟨by rfl, ?_⟩) ?_ ?_
    rotate_left
    ·intro w'
     go_simp
     with_reducible rfl
    rotate_left
    ·simp only [Act.put, List.setIfInBounds_toArray, List.set_cons_zero, List.set_cons_succ, i64_w, i32_w]
     rfl
    refine take_ (i := 9) (N := some 27) (v := ?_) (a' := ?_) #[true, true, true, true, true, true, true, true, true, true, false, false, false, false, false, false, false, false, false, false, false, false, false, false, false] rfl rfl (by kernel_rfl) (fun _ _ _ h => h) (Or.inl ⟨by rfl, ?_⟩) hHeld ?_ ?_
    rotate_left
    ·rintro w' ⟨s0, s1, s2, s3, s4, s5, s6, s7, s8, s9, s10, s11⟩
     go_simp
     with_reducible rfl
    rotate_left
    ·simp only [Act.put, List.setIfInBounds_toArray, List.set_cons_zero, List.set_cons_succ, i64_w, i32_w]
     rfl
    refine take_ (i := 10) (N := some 28) (v := ?_) (a' := ?_) #[true, true, true, true, true, true, true, true, true, true, true, false, false, false, false, false, false, false, false, false, false, false, false, false, false] rfl rfl (by kernel_rfl) (fun _ _ _ h => h) (Or.inl ⟨by rfl, ?_⟩) hHeld ?_ ?_
    rotate_left
    ·rintro w' ⟨s0, s1, s2, s3, s4, s5, s6, s7, s8, s9, s10, s11⟩
     go_simp
     with_reducible rfl
    rotate_left
    ·simp only [Act.put, List.setIfInBounds_toArray, List.set_cons_zero, List.set_cons_succ, i64_w, i32_w]
     rfl
    refine take_ (i := 11) (N := some 29) (v := ?_) (a' := ?_) #[true, true, true, true, true, true, true, true, true, true, true, true, false, false, false, false, false, false, false, false, false, false, false, false, false] rfl rfl (by kernel_rfl) (fun _ _ _ h => h) (Or.inl ⟨by rfl, ?_⟩) hHeld ?_ ?_
    rotate_left
    ·rintro w' ⟨s0, s1, s2, s3, s4, s5, s6, s7, s8, s9, s10, s11⟩
     go_simp
     with_reducible rfl
    rotate_left
    ·simp only [Act.put, List.setIfInBounds_toArray, List.set_cons_zero, List.set_cons_succ, i64_w, i32_w]
     rfl
    refine take_ (i := 12) (N := some 30) (v := ?_) (a' := ?_) #[true, true, true, true, true, true, true, true, true, true, true, true, true, false, false, false, false, false, false, false, false, false, false, false, false] rfl rfl (by kernel_rfl) (fun _ _ _ h => h) (Or.inl ⟨by rfl, ?_⟩) hHeld ?_ ?_
    rotate_left
    ·rintro w' ⟨s0, s1, s2, s3, s4, s5, s6, s7, s8, s9, s10, s11⟩
     go_simp
     with_reducible rfl
    rotate_left
    ·simp only [Act.put, List.setIfInBounds_toArray, List.set_cons_zero, List.set_cons_succ, i64_w, i32_w]
     rfl
    refine pure_ (i := 13) (N := some 31) (v := ?_) (a' := ?_) #[true, true, true, true, true, true, true, true, true, true, true, true, true, true, false, false, false, false, false, false, false, false, false, false, false] rfl rfl (by kernel_rfl) (fun _ _ _ h => h) (Or.inl ⟨by rfl, ?_⟩) ?_ ?_
    rotate_left
    ·intro w'
     go_simp
     with_reducible rfl
    rotate_left
    ·simp only [Act.put, List.setIfInBounds_toArray, List.set_cons_zero, List.set_cons_succ, i64_w, i32_w]
     rfl
    refine take_ (i := 14) (N := some 32) (v := ?_) (a' := ?_) #[true, true, true, true, true, true, true, true, true, true, true, true, true, true, true, false, false, false, false, false, false, false, false, false, false] rfl rfl (by kernel_rfl) (fun _ _ _ h => h) (Or.inl ⟨by rfl, ?_⟩) hHeld ?_ ?_
    rotate_left
    ·rintro w' ⟨s0, s1, s2, s3, s4, s5, s6, s7, s8, s9, s10, s11⟩
     go_simp
     with_reducible rfl
    rotate_left
    ·simp only [Act.put, List.setIfInBounds_toArray, List.set_cons_zero, List.set_cons_succ, i64_w, i32_w]
     rfl
    refine take_ (i := 15) (N := some 33) (v := ?_) (a' := ?_) #[true, true, true, true, true, true, true, true, true, true, true, true, true, true, true, true, false, false, false, false, false, false, false, false, false] rfl rfl (by kernel_rfl) (fun _ _ _ h => h) (Or.inl ⟨by rfl, ?_⟩) hHeld ?_ ?_
    rotate_left
    ·rintro w' ⟨s0, s1, s2, s3, s4, s5, s6, s7, s8, s9, s10, s11⟩
     go_simp
     with_reducible rfl
    rotate_left
    ·simp only [Act.put, List.setIfInBounds_toArray, List.set_cons_zero, List.set_cons_succ, i64_w, i32_w]
     rfl
    refine pure_ (i := 16) (N := some 34) (v := ?_) (a' := ?_) #[true, true, true, true, true, true, true, true, true, true, true, true, true, true, true, true, true, false, false, false, false, false, false, false, false] rfl rfl (by kernel_rfl) (fun _ _ _ h => h) (Or.inl ⟨by rfl, ?_⟩) ?_ ?_
    rotate_left
    ·intro w'
     go_simp
     with_reducible rfl
    rotate_left
    ·simp only [Act.put, List.setIfInBounds_toArray, List.set_cons_zero, List.set_cons_succ, i64_w, i32_w]
     rfl
    refine take_ (i := 17) (N := some 35) (v := ?_) (a' := ?_) #[true, true, true, true, true, true, true, true, true, true, true, true, true, true, true, true, true, true, false, false, false, false, false, false, false] rfl rfl (by kernel_rfl) (fun _ _ _ h => h) (Or.inl ⟨by rfl, ?_⟩) hHeld ?_ ?_
    rotate_left
    ·rintro w' ⟨s0, s1, s2, s3, s4, s5, s6, s7, s8, s9, s10, s11⟩
     go_simp
     with_reducible rfl
    rotate_left
    ·simp only [Act.put, List.setIfInBounds_toArray, List.set_cons_zero, List.set_cons_succ, i64_w, i32_w]
     rfl
    refine pure_ (i := 18) (N := some 36) (v := ?_) (a' := ?_) #[true, true, true, true, true, true, true, true, true, true, true, true, true, true, true, true, true, true, true, false, false, false, false, false, false] rfl rfl (by kernel_rfl) (fun _ _ _ h => h) (Or.inl ⟨by rfl, ?_⟩) ?_ ?_
    rotate_left
    ·intro w'
     go_simp
     with_reducible rfl
    rotate_left
    ·simp only [Act.put, List.setIfInBounds_toArray, List.set_cons_zero, List.set_cons_succ, i64_w, i32_w]
     rfl
    refine take_ (i := 19) (N := some 37) (v := ?_) (a' := ?_) #[true, true, true, true, true, true, true, true, true, true, true, true, true, true, true, true, true, true, true, true, false, false, false, false, false] rfl rfl (by kernel_rfl) (fun _ _ _ h => h) (Or.inl ⟨by rfl, ?_⟩) hHeld ?_ ?_
    rotate_left
    ·rintro w' ⟨s0, s1, s2, s3, s4, s5, s6, s7, s8, s9, s10, s11⟩
     go_simp
     with_reducible rfl
    rotate_left
    ·simp only [Act.put, List.setIfInBounds_toArray, List.set_cons_zero, List.set_cons_succ, i64_w, i32_w]
     rfl
    refine pure_ (i := 20) (N := some 38) (v := ?_) (a' := ?_) #[true, true, true, true, true, true, true, true, true, true, true, true, true, true, true, true, true, true, true, true, true, false, false, false, false] rfl rfl (by kernel_rfl) (fun _ _ _ h => h) (Or.inl ⟨by rfl, ?_⟩) ?_ ?_
    rotate_left
    ·intro w'
     go_simp
     with_reducible rfl
    rotate_left
    ·simp only [Act.put, List.setIfInBounds_toArray, List.set_cons_zero, List.set_cons_succ, i64_w, i32_w]
     rfl
    refine pure_ (i := 21) (N := some 39) (v := ?_) (a' := ?_) #[true, true, true, true, true, true, true, true, true, true, true, true, true, true, true, true, true, true, true, true, true, true, false, false, false] rfl rfl (by kernel_rfl) (fun _ _ _ h => h) (Or.inl ⟨by rfl, ?_⟩) ?_ ?_
    rotate_left
    ·intro w'
     go_simp
     with_reducible rfl
    rotate_left
    ·simp only [Act.put, List.setIfInBounds_toArray, List.set_cons_zero, List.set_cons_succ, i64_w, i32_w]
     rfl
    refine one_ (i := 22) (N := some 40) #[true, true, true, true, true, true, true, true, true, true, true, true, true, true, true, true, true, true, true, true, true, true, true, false, false] rfl rfl (by kernel_rfl) (by decide) (fun K hK => ?_)
    refine event_step (w1 := w2.alloc (.cells #[.int .i64 (rd xs i), .int .i64 (rd xs p0), .string (t.extract (rd ys k).toNat (rd ys p1).toNat)] 56)) (v := .slice (some ⟨w2.heap.size, 0, none⟩) 1 1) (by rfl) ?_ ?_
    ·first | (go_simp; done) | (go_simp; rfl)
    refine hK.out _ _ ?_ (fun hHeld2 => ?_)
    ·obtain ⟨s0, s1, s2, s3, s4, s5, s6, s7, s8, s9, s10, s11⟩ := hHeld
     exact ⟨cellA s0, cellA s1, cellA s2, cellA s3, cellA s4, cellA s5, cellA s6, cellA s7, cellA s8, cellA s9, cellA s10, cellA s11⟩
    clear hK K
    simp only [Act.put, List.setIfInBounds_toArray, List.set_cons_zero, List.set_cons_succ, i64_w, i32_w]
    refine last_ (i := 23) (N := some 41) #[true, true, true, true, true, true, true, true, true, true, true, true, true, true, true, true, true, true, true, true, true, true, true, true, false] rfl rfl (by kernel_rfl) (by decide) (fun K hK => ?_)
    refine Kd.R_append_step k56 (w0 := w0) w0.heap.size rfl (.tmp 18) (.tmp 40) 31 56 (.agg #[(.int .i64 0), (.int .i64 0), (.string ⟨#[]⟩)]) 32 rfl Tryd.underlying31 info56 rfl (by decide) (by omega) vo out (⟨rd xs i, rd xs p0, t.extract (rd ys k).toNat (rd ys p1).toNat⟩ : S56) [.int .i64 (rd xs i), .int .i64 (rd xs p0), .string (t.extract (rd ys k).toNat (rd ys p1).toNat)] (fun _ => True) (fun _ => False) (by first | rfl | (go_simp; done) | (go_simp; rfl)) (by first | rfl | (go_simp; done) | (go_simp; rfl)) (k56_mkM _ _ _ (⟨rd xs i, rd xs p0, t.extract (rd ys k).toNat (rd ys p1).toNat⟩ : S56)) (fun _ hk => hk.elim) (fun _ _ => trivial) H1.out.ho H1.out.hb H1.out.hb.size (by have := q3.out; omega) ?_
    intro v2 w3 hr3 hb3 hg3 _
    have A3 := H1.out.app hb3 hr3 hg3
    have P3 := Aside0.mk (blk_grown P1.out hg3 (fun e_ => ((Kd.R_typed H1.out.ho) _ e_.symm).elim fun _ hc => blk_ne P1.out hc (by decide) rfl))
    have O3 := A3.1
    have o3 : w3.cell? ⟨go, 0, none⟩ = some vo := (blk_cell O3 0).trans rfl
    have f3 := blk_frozen O3 0
    have H3 := Aside0.mk A3.2
    clear A3
    refine hK.out _ _ ?_
    clear hK K
    simp only [Act.put, List.setIfInBounds_toArray, List.set_cons_zero, List.set_cons_succ, i64_w, i32_w]
    refine last_ (i := 24) (N := none) #[true, true, true, true, true, true, true, true, true, true, true, true, true, true, true, true, true, true, true, true, true, true, true, true, true] rfl rfl (by kernel_rfl) (by decide) (fun K hK => ?_)
    obtain ⟨A2_, c2_, ev_⟩ := Kd.R_slice hr3
    refine skip_ (w1 := w3.setCell ⟨go, 0, none⟩ v2) (by rfl) rfl ?_ ?_
    ·simp only [ev_]; first | (go_simp; done) | (go_simp; rfl)
    have P4 := Aside0.mk (blk_far (p := ⟨go, 0, none⟩) P3.out (blk_ne P3.out O3 (by decide)) v2)
    clear P3 O3 o3 f3
    generalize w3.setCell ⟨go, 0, none⟩ v2 = w4 at H3 P4 ⊢
    refine hK.out _ _ ?_
    clear hK K
    refine done_ (by kernel_rfl) ?_
    clear xi xp yk yp hHeld hHeld2 hr3 hb3 hg3 ev_ P1 H1
    have H := H3
    have P := P4
    clear H3 P4
    try go_wp2
    refine start_ (n := 8) (S := fun w' => w'.cell? ⟨gp, 0, none⟩ = some (.int .i64 p0) ∧ w'.cell? ⟨gp, 1, none⟩ = some (.int .i64 p1)) (ds := [7]) #[false, false, false, false, false, false, false, false] (by kernel_rfl) rfl rfl ?_ (fun hHeld => ?_)
    ·exact ⟨(blk_cell P.out 0).trans rfl, (blk_cell P.out 1).trans rfl⟩
    have H5 := Aside0.mk H.out.drew
    have P5 := Aside0.mk (blk_drew P.out)
    clear H P
    generalize w4.drew = w5 at H5 P5 hHeld ⊢
    refine pure_ (i := 0) (N := some 42) (v := ?_) (a' := ?_) #[true, false, false, false, false, false, false, false] rfl rfl (by kernel_rfl) (fun _ _ _ h => h) (Or.inl ⟨by rfl, ?_⟩) ?_ ?_
    rotate_left
    ·intro w'
     go_simp
     with_reducible rfl
    rotate_left
    ·simp only [Act.put, List.setIfInBounds_toArray, List.set_cons_zero, List.set_cons_succ, i64_w, i32_w]
     rfl
    refine pure_ (i := 3) (N := some 45) (v := ?_) (a' := ?_) #[true, false, false, true, false, false, false, false] rfl rfl (by kernel_rfl) (fun _ _ _ h => h) (Or.inl ⟨by rfl, ?_⟩) ?_ ?_
    rotate_left
    ·intro w'
     go_simp
     with_reducible rfl
    rotate_left
    ·simp only [Act.put, List.setIfInBounds_toArray, List.set_cons_zero, List.set_cons_succ, i64_w, i32_w]
     rfl
    refine take_ (i := 1) (N := some 43) (v := ?_) (a' := ?_) #[true, true, false, true, false, false, false, false] rfl rfl (by kernel_rfl) (fun _ _ _ h => h) (Or.inl ⟨by rfl, ?_⟩) hHeld ?_ ?_
    rotate_left
    ·rintro w' ⟨s0, s1⟩
     go_simp
     with_reducible rfl
    rotate_left
    ·simp only [Act.put, List.setIfInBounds_toArray, List.set_cons_zero, List.set_cons_succ, i64_w, i32_w]
     rfl
    refine take_ (i := 4) (N := some 46) (v := ?_) (a' := ?_) #[true, true, false, true, true, false, false, false] rfl rfl (by kernel_rfl) (fun _ _ _ h => h) (Or.inl ⟨by rfl, ?_⟩) hHeld ?_ ?_
    rotate_left
    ·rintro w' ⟨s0, s1⟩
     go_simp
     with_reducible rfl
    rotate_left
    ·simp only [Act.put, List.setIfInBounds_toArray, List.set_cons_zero, List.set_cons_succ, i64_w, i32_w]
     rfl
    refine pure_ (i := 2) (N := some 44) (v := ?_) (a' := ?_) #[true, true, true, true, true, false, false, false] rfl rfl (by kernel_rfl) (fun _ _ _ h => h) (Or.inl ⟨by rfl, ?_⟩) ?_ ?_
    rotate_left
    ·intro w'
     go_simp
     with_reducible rfl
    rotate_left
    ·simp only [Act.put, List.setIfInBounds_toArray, List.set_cons_zero, List.set_cons_succ, i64_w, i32_w]
     rfl
    refine pure_ (i := 5) (N := some 47) (v := ?_) (a' := ?_) #[true, true, true, true, true, true, false, false] rfl rfl (by kernel_rfl) (fun _ _ _ h => h) (Or.inl ⟨by rfl, ?_⟩) ?_ ?_
    rotate_left
    ·intro w'
     go_simp
     with_reducible rfl
    rotate_left
    ·simp only [Act.put, List.setIfInBounds_toArray, List.set_cons_zero, List.set_cons_succ, i64_w, i32_w]
     rfl
    refine one_ (i := 6) (N := none) #[true, true, true, true, true, true, true, false] rfl rfl (by kernel_rfl) (by decide) (fun K hK => ?_)
    refine skip_ (w1 := w5.setCell ⟨gi, 0, none⟩ (.int .i64 (wrap64 (p0 + 1)))) (by rfl) rfl ?_ ?_
    ·have c_ := (blk_cell H5.out.hI 0).trans rfl; have f_ := blk_frozen H5.out.hI 0; first | (go_simp; done) | (go_simp; rfl)
    have H6 := Aside0.mk (H5.out.setI (wrap64 (p0 + 1)))
    have P6 := Aside0.mk (blk_far (p := ⟨gi, 0, none⟩) P5.out (blk_ne P5.out H5.out.hI (by decide)) (.int .i64 (wrap64 (p0 + 1))))
    generalize w5.setCell ⟨gi, 0, none⟩ (.int .i64 (wrap64 (p0 + 1))) = w6 at H6 P6 ⊢
    refine hK.out _ _ ⟨(blk_cell P6.out 0).trans rfl, (blk_cell P6.out 1).trans rfl⟩ (fun hHeld3 => ?_)
    clear hK K hHeld
    refine last_ (i := 7) (N := none) #[true, true, true, true, true, true, true, true] rfl rfl (by kernel_rfl) (by decide) (fun K hK => ?_)
    refine skip_ (w1 := w6.setCell ⟨gk, 0, none⟩ (.int .i64 (wrap64 (p1 + 1)))) (by rfl) rfl ?_ ?_
    ·have c_ := (blk_cell H6.out.hK 0).trans rfl; have f_ := blk_frozen H6.out.hK 0; first | (go_simp; done) | (go_simp; rfl)
    have H7 := Aside0.mk (H6.out.setK (wrap64 (p1 + 1)))
    generalize w6.setCell ⟨gk, 0, none⟩ (.int .i64 (wrap64 (p1 + 1))) = w7 at H7 ⊢
    refine hK.out _ _ ?_
    clear hK K hHeld3
    refine done_ (by kernel_rfl) ?_
    try go_wp2
    go_end0
    exact ⟨rfl, _, H7.out⟩
   ·have c2 : k < p1 := c.resolve_left c1
    have b1 : decide (i < p0) = false := decide_eq_false c1
    have b2 : decide (k < p1) = true := decide_eq_true c2
    clear c
    go_enter Tryd.func34, Tryd.ntmps34
    go_wp2_with (first | ((with_reducible refine gate_dst (N := 7) rfl ?_); refine box_event ?hg (N := 7) ?hd (cs := #[.int .i64 p0, .int .i64 p1]) (t := 36) ?hr ?_; (case hd => rfl); (case hg => rfl); (case hr => first | (go_simp; done) | (go_simp; rfl)); intro gp hgp w1 hbox hb; have P := Aside0.mk hbox; have H := Aside0.mk (H0.out.below hb); have cp0 : w1.cell? ⟨gp, 0, none⟩ = some (.int .i64 p0) := (blk_cell hbox 0).trans rfl; have cp1 : w1.cell? ⟨gp, 1, none⟩ = some (.int .i64 p1) := (blk_cell hbox 1).trans rfl; have ci1 : w1.cell? ⟨gi, 0, none⟩ = some (.int .i64 i) := (blk_cell H.out.hI 0).trans rfl; have ck1 : w1.cell? ⟨gk, 0, none⟩ = some (.int .i64 k) := (blk_cell H.out.hK 0).trans rfl; clear hbox hb hgp))
    clear cp0 cp1 ci1 ck1
    have H1 := H
    have P1 := P
    obtain ⟨ax, ex1, xi⟩ := Kd.at_int (Kd.R_reads' H1.out.hx).2.2 i q0.1 q0.2.1
    obtain ⟨ax2, ex2, xp⟩ := Kd.at_int (Kd.R_reads' H1.out.hx).2.2 p0 q0.2.2.1 q0.2.2.2
    obtain ⟨ay, ey1, yk⟩ := Kd.at_int (Kd.R_reads' H1.out.hy).2.2 k q1.1 q1.2.1
    obtain ⟨ay2, ey2, yp⟩ := Kd.at_int (Kd.R_reads' H1.out.hy).2.2 p1 q1.2.2.1 q1.2.2.2
    subst ex1
    obtain rfl := Option.some.inj ex2
    subst ey1
    obtain rfl := Option.some.inj ey2
    clear H1 P1
    refine start_ (n := 25) (S := fun w' => w'.cell? ⟨go, 0, none⟩ = some vo ∧ w'.cell? ⟨gx, 0, none⟩ = some (.slice (some ax) xs.length cx) ∧ w'.cell? ⟨gi, 0, none⟩ = some (.int .i64 i) ∧ w'.cell? (ax.add i.toNat) = some (.int .i64 (rd xs i)) ∧ w'.cell? ⟨gp, 0, none⟩ = some (.int .i64 p0) ∧ w'.cell? (ax.add p0.toNat) = some (.int .i64 (rd xs p0)) ∧ w'.cell? ⟨gt, 0, none⟩ = some (.string t) ∧ w'.cell? ⟨gy, 0, none⟩ = some (.slice (some ay) ys.length cy) ∧ w'.cell? ⟨gk, 0, none⟩ = some (.int .i64 k) ∧ w'.cell? (ay.add k.toNat) = some (.int .i64 (rd ys k)) ∧ w'.cell? ⟨gp, 1, none⟩ = some (.int .i64 p1) ∧ w'.cell? (ay.add p1.toNat) = some (.int .i64 (rd ys p1))) (ds := [23, 24]) #[false, false, false, false, false, false, false, false, false, false, false, false, false, false, false, false, false, false, false, false, false, false, false, false, false] (by kernel_rfl) rfl rfl ?_ (fun hHeld => ?_)
    ·exact ⟨(blk_cell H.out.hO 0).trans rfl, (blk_cell H.out.hX 0).trans rfl, (blk_cell H.out.hI 0).trans rfl, xi, (blk_cell P.out 0).trans rfl, xp, (blk_cell H.out.hT 0).trans rfl, (blk_cell H.out.hY 0).trans rfl, (blk_cell H.out.hK 0).trans rfl, yk, (blk_cell P.out 1).trans rfl, yp⟩
    have H1 := Aside0.mk H.out.drew
    have P1 := Aside0.mk (blk_drew P.out)
    clear H P
    generalize w1.drew = w2 at H1 P1 hHeld ⊢
    refine take_ (i := 0) (N := some 18) (v := ?_) (a' := ?_) #[true, false, false, false, false, false, false, false, false, false, false, false, false, false, false, false, false, false, false, false, false, false, false, false, false] rfl rfl (by kernel_rfl) (fun _ _ _ h => h) (Or.inl ⟨by rfl, ?_⟩) hHeld ?_ ?_
    rotate_left
    ·rintro w' ⟨s0, s1, s2, s3, s4, s5, s6, s7, s8, s9, s10, s11⟩
     go_simp
     with_reducible rfl
    rotate_left
    ·simp only [Act.put, List.setIfInBounds_toArray, List.set_cons_zero, List.set_cons_succ, i64_w, i32_w]
     rfl
    refine take_ (i := 1) (N := some 19) (v := ?_) (a' := ?_) #[true, true, false, false, false, false, false, false, false, false, false, false, false, false, false, false, false, false, false, false, false, false, false, false, false] rfl rfl (by kernel_rfl) (fun _ _ _ h => h) (Or.inl ⟨by rfl, ?_⟩) hHeld ?_ ?_
    rotate_left
    ·rintro w' ⟨s0, s1, s2, s3, s4, s5, s6, s7, s8, s9, s10, s11⟩
     go_simp
     with_reducible rfl
    rotate_left
    ·simp only [Act.put, List.setIfInBounds_toArray, List.set_cons_zero, List.set_cons_succ, i64_w, i32_w]
     rfl
    refine take_ (i := 2) (N := some 20) (v := ?_) (a' := ?_) #[true, true, true, false, false, false, false, false, false, false, false, false, false, false, false, false, false, false, false, false, false, false, false, false, false] rfl rfl (by kernel_rfl) (fun _ _ _ h => h) (Or.inl ⟨by rfl, ?_⟩) hHeld ?_ ?_
    rotate_left
    ·rintro w' ⟨s0, s1, s2, s3, s4, s5, s6, s7, s8, s9, s10, s11⟩
     go_simp
     with_reducible rfl
    rotate_left
    ·simp only [Act.put, List.setIfInBounds_toArray, List.set_cons_zero, List.set_cons_succ, i64_w, i32_w]
     rfl
    refine pure_ (i := 3) (N := some 21) (v := ?_) (a' := ?_) #[true, true, true, true, false, false, false, false, false, false, false, false, false, false, false, false, false, false, false, false, false, false, false, false, false] rfl rfl (by kernel_rfl) (fun _ _ _ h => h) (Or.inl ⟨by rfl, ?_⟩) ?_ ?_
    rotate_left
    ·intro w'
     go_simp
     with_reducible rfl
    rotate_left
    ·simp only [Act.put, List.setIfInBounds_toArray, List.set_cons_zero, List.set_cons_succ, i64_w, i32_w]
     rfl
    refine take_ (i := 4) (N := some 22) (v := ?_) (a' := ?_) #[true, true, true, true, true, false, false, false, false, false, false, false, false, false, false, false, false, false, false, false, false, false, false, false, false] rfl rfl (by kernel_rfl) (fun _ _ _ h => h) (Or.inl ⟨by rfl, ?_⟩) hHeld ?_ ?_
    rotate_left
    ·rintro w' ⟨s0, s1, s2, s3, s4, s5, s6, s7, s8, s9, s10, s11⟩
     go_simp
     with_reducible rfl
    rotate_left
    ·simp only [Act.put, List.setIfInBounds_toArray, List.set_cons_zero, List.set_cons_succ, i64_w, i32_w]
     rfl
    refine take_ (i := 5) (N := some 23) (v := ?_) (a' := ?_) #[true, true, true, true, true, true, false, false, false, false, false, false, false, false, false, false, false, false, false, false, false, false, false, false, false] rfl rfl (by kernel_rfl) (fun _ _ _ h => h) (Or.inl ⟨by rfl, ?_⟩) hHeld ?_ ?_
    rotate_left
    ·rintro w' ⟨s0, s1, s2, s3, s4, s5, s6, s7, s8, s9, s10, s11⟩
     go_simp
     with_reducible rfl
    rotate_left
    ·simp only [Act.put, List.setIfInBounds_toArray, List.set_cons_zero, List.set_cons_succ, i64_w, i32_w]
     rfl
    refine pure_ (i := 6) (N := some 24) (v := ?_) (a' := ?_) #[true, true, true, true, true, true, true, false, false, false, false, false, false, false, false, false, false, false, false, false, false, false, false, false, false] rfl rfl (by kernel_rfl) (fun _ _ _ h => h) (Or.inl ⟨by rfl, ?_⟩) ?_ ?_
    rotate_left
    ·intro w'
     go_simp
     with_reducible rfl
    rotate_left
    ·simp only [Act.put, List.setIfInBounds_toArray, List.set_cons_zero, List.set_cons_succ, i64_w, i32_w]
     rfl
    refine take_ (i := 7) (N := some 25) (v := ?_) (a' := ?_) #[true, true, true, true, true, true, true, true, false, false, false, false, false, false, false, false, false, false, false, false, false, false, false, false, false] rfl rfl (by kernel_rfl) (fun _ _ _ h => h) (Or.inl ⟨by rfl, ?_⟩) hHeld ?_ ?_
    rotate_left
    ·rintro w' ⟨s0, s1, s2, s3, s4, s5, s6, s7, s8, s9, s10, s11⟩
     go_simp
     with_reducible rfl
    rotate_left
    ·simp only [Act.put, List.setIfInBounds_toArray, List.set_cons_zero, List.set_cons_succ, i64_w, i32_w]
     rfl
    refine pure_ (i := 8) (N := some 26) (v := ?_) (a' := ?_) #[true, true, true, true, true, true, true, true, true, false, false, false, false, false, false, false, false, false, false, false, false, false, false, false, false] rfl rfl (by kernel_rfl) (fun _ _ _ h => h) (Or.inl ⟨by rfl, ?_⟩) ?_ ?_
    rotate_left
    ·intro w'
     go_simp
     with_reducible rfl
    rotate_left
    ·simp only [Act.put, List.setIfInBounds_toArray, List.set_cons_zero, List.set_cons_succ, i64_w, i32_w]
     rfl
    refine take_ (i := 9) (N := some 27) (v := ?_) (a' := ?_) #[true, true, true, true, true, true, true, true, true, true, false, false, false, false, false, false, false, false, false, false, false, false, false, false, false] rfl rfl (by kernel_rfl) (fun _ _ _ h => h) (Or.inl ⟨by rfl, ?_⟩) hHeld ?_ ?_
    rotate_left
    ·rintro w' ⟨s0, s1, s2, s3, s4, s5, s6, s7, s8, s9, s10, s11⟩
     go_simp
     with_reducible rfl
    rotate_left
    ·simp only [Act.put, List.setIfInBounds_toArray, List.set_cons_zero, List.set_cons_succ, i64_w, i32_w]
     rfl
    refine take_ (i := 10) (N := some 28) (v := ?_) (a' := ?_) #[true, true, true, true, true, true, true, true, true, true, true, false, false, false, false, false, false, false, false, false, false, false, false, false, false] rfl rfl (by kernel_rfl) (fun _ _ _ h => h) (Or.inl ⟨by rfl, ?_⟩) hHeld ?_ ?_
    rotate_left
    ·rintro w' ⟨s0, s1, s2, s3, s4, s5, s6, s7, s8, s9, s10, s11⟩
     go_simp
     with_reducible rfl
    rotate_left
    ·simp only [Act.put, List.setIfInBounds_toArray, List.set_cons_zero, List.set_cons_succ, i64_w, i32_w]
     rfl
    refine take_ (i := 11) (N := some 29) (v := ?_) (a' := ?_) #[true, true, true, true, true, true, true, true, true, true, true, true, false, false, false, false, false, false, false, false, false, false, false, false, false] rfl rfl (by kernel_rfl) (fun _ _ _ h => h) (Or.inl ⟨by rfl, ?_⟩) hHeld ?_ ?_
    rotate_left
    ·rintro w' ⟨s0, s1, s2, s3, s4, s5, s6, s7, s8, s9, s10, s11⟩
     go_simp
     with_reducible rfl
    rotate_left
    ·simp only [Act.put, List.setIfInBounds_toArray, List.set_cons_zero, List.set_cons_succ, i64_w, i32_w]
     rfl
    refine take_ (i := 12) (N := some 30) (v := ?_) (a' := ?_) #[true, true, true, true, true, true, true, true, true, true, true, true, true, false, false, false, false, false, false, false, false, false, false, false, false] rfl rfl (by kernel_rfl) (fun _ _ _ h => h) (Or.inl ⟨by rfl, ?_⟩) hHeld ?_ ?_
    rotate_left
    ·rintro w' ⟨s0, s1, s2, s3, s4, s5, s6, s7, s8, s9, s10, s11⟩
     go_simp
     with_reducible rfl
    rotate_left
    ·simp only [Act.put, List.setIfInBounds_toArray, List.set_cons_zero, List.set_cons_succ, i64_w, i32_w]
     rfl
    refine pure_ (i := 13) (N := some 31) (v := ?_) (a' := ?_) #[true, true, true, true, true, true, true, true, true, true, true, true, true, true, false, false, false, false, false, false, false, false, false, false, false] rfl rfl (by kernel_rfl) (fun _ _ _ h => h) (Or.inl ⟨by rfl, ?_⟩) ?_ ?_
    rotate_left
    ·intro w'
     go_simp
     with_reducible rfl
    rotate_left
    ·simp only [Act.put, List.setIfInBounds_toArray, List.set_cons_zero, List.set_cons_succ, i64_w, i32_w]
     rfl
    refine take_ (i := 14) (N := some 32) (v := ?_) (a' := ?_) #[true, true, true, true, true, true, true, true, true, true, true, true, true, true, true, false, false, false, false, false, false, false, false, false, false] rfl rfl (by kernel_rfl) (fun _ _ _ h => h) (Or.inl ⟨by rfl, ?_⟩) hHeld ?_ ?_
    rotate_left
    ·rintro w' ⟨s0, s1, s2, s3, s4, s5, s6, s7, s8, s9, s10, s11⟩
     go_simp
     with_reducible rfl
    rotate_left
    ·simp only [Act.put, List.setIfInBounds_toArray, List.set_cons_zero, List.set_cons_succ, i64_w, i32_w]
     rfl
    refine take_ (i := 15) (N := some 33) (v := ?_) (a' := ?_) #[true, true, true, true, true, true, true, true, true, true, true, true, true, true, true, true, false, false, false, false, false, false, false, false, false] rfl rfl (by kernel_rfl) (fun _ _ _ h => h) (Or.inl ⟨by rfl, ?_⟩) hHeld ?_ ?_
    rotate_left
    ·rintro w' ⟨s0, s1, s2, s3, s4, s5, s6, s7, s8, s9, s10, s11⟩
     go_simp
     with_reducible rfl
    rotate_left
    ·simp only [Act.put, List.setIfInBounds_toArray, List.set_cons_zero, List.set_cons_succ, i64_w, i32_w]
     rfl
    refine pure_ (i := 16) (N := some 34) (v := ?_) (a' := ?_) #[true, true, true, true, true, true, true, true, true, true, true, true, true, true, true, true, true, false, false, false, false, false, false, false, false] rfl rfl (by kernel_rfl) (fun _ _ _ h => h) (Or.inl ⟨by rfl, ?_⟩) ?_ ?_
    rotate_left
    ·intro w'
     go_simp
     with_reducible rfl
    rotate_left
    ·simp only [Act.put, List.setIfInBounds_toArray, List.set_cons_zero, List.set_cons_succ, i64_w, i32_w]
     rfl
    refine take_ (i := 17) (N := some 35) (v := ?_) (a' := ?_) #[true, true, true, true, true, true, true, true, true, true, true, true, true, true, true, true, true, true, false, false, false, false, false, false, false] rfl rfl (by kernel_rfl) (fun _ _ _ h => h) (Or.inl ⟨by rfl, ?_⟩) hHeld ?_ ?_
    rotate_left
    ·rintro w' ⟨s0, s1, s2, s3, s4, s5, s6, s7, s8, s9, s10, s11⟩
     go_simp
     with_reducible rfl
    rotate_left
    ·simp only [Act.put, List.setIfInBounds_toArray, List.set_cons_zero, List.set_cons_succ, i64_w, i32_w]
     rfl
    refine pure_ (i := 18) (N := some 36) (v := ?_) (a' := ?_) #[true, true, true, true, true, true, true, true, true, true, true, true, true, true, true, true, true, true, true, false, false, false, false, false, false] rfl rfl (by kernel_rfl) (fun _ _ _ h => h) (Or.inl ⟨by rfl, ?_⟩) ?_ ?_
    rotate_left
    ·intro w'
     go_simp
     with_reducible rfl
    rotate_left
    ·simp only [Act.put, List.setIfInBounds_toArray, List.set_cons_zero, List.set_cons_succ, i64_w, i32_w]
     rfl
    refine take_ (i := 19) (N := some 37) (v := ?_) (a' := ?_) #[true, true, true, true, true, true, true, true, true, true, true, true, true, true, true, true, true, true, true, true, false, false, false, false, false] rfl rfl (by kernel_rfl) (fun _ _ _ h => h) (Or.inl ⟨by rfl, ?_⟩) hHeld ?_ ?_
    rotate_left
    ·rintro w' ⟨s0, s1, s2, s3, s4, s5, s6, s7, s8, s9, s10, s11⟩
     go_simp
     with_reducible rfl
    rotate_left
    ·simp only [Act.put, List.setIfInBounds_toArray, List.set_cons_zero, List.set_cons_succ, i64_w, i32_w]
     rfl
    refine pure_ (i := 20) (N := some 38) (v := ?_) (a' := ?_) #[true, true, true, true, true, true, true, true, true, true, true, true, true, true, true, true, true, true, true, true, true, false, false, false, false] rfl rfl (by kernel_rfl) (fun _ _ _ h => h) (Or.inl ⟨by rfl, ?_⟩) ?_ ?_
    rotate_left
    ·intro w'
     go_simp
     with_reducible rfl
    rotate_left
    ·simp only [Act.put, List.setIfInBounds_toArray, List.set_cons_zero, List.set_cons_succ, i64_w, i32_w]
     rfl
    refine pure_ (i := 21) (N := some 39) (v := ?_) (a' := ?_) #[true, true, true, true, true, true, true, true, true, true, true, true, true, true, true, true, true, true, true, true, true, true, false, false, false] rfl rfl (by kernel_rfl) (fun _ _ _ h => h) (Or.inl ⟨by rfl, ?_⟩) ?_ ?_
    rotate_left
    ·intro w'
     go_simp
     with_reducible rfl
    rotate_left
    ·simp only [Act.put, List.setIfInBounds_toArray, List.set_cons_zero, List.set_cons_succ, i64_w, i32_w]
     rfl
    refine one_ (i := 22) (N := some 40) #[true, true, true, true, true, true, true, true, true, true, true, true, true, true, true, true, true, true, true, true, true, true, true, false, false] rfl rfl (by kernel_rfl) (by decide) (fun K hK => ?_)
    refine event_step (w1 := w2.alloc (.cells #[.int .i64 (rd xs i), .int .i64 (rd xs p0), .string (t.extract (rd ys k).toNat (rd ys p1).toNat)] 56)) (v := .slice (some ⟨w2.heap.size, 0, none⟩) 1 1) (by rfl) ?_ ?_
    ·first | (go_simp; done) | (go_simp; rfl)
    refine hK.out _ _ ?_ (fun hHeld2 => ?_)
    ·obtain ⟨s0, s1, s2, s3, s4, s5, s6, s7, s8, s9, s10, s11⟩ := hHeld
     exact ⟨cellA s0, cellA s1, cellA s2, cellA s3, cellA s4, cellA s5, cellA s6, cellA s7, cellA s8, cellA s9, cellA s10, cellA s11⟩
    clear hK K
    simp only [Act.put, List.setIfInBounds_toArray, List.set_cons_zero, List.set_cons_succ, i64_w, i32_w]
    refine last_ (i := 23) (N := some 41) #[true, true, true, true, true, true, true, true, true, true, true, true, true, true, true, true, true, true, true, true, true, true, true, true, false] rfl rfl (by kernel_rfl) (by decide) (fun K hK => ?_)
    refine Kd.R_append_step k56 (w0 := w0) w0.heap.size rfl (.tmp 18) (.tmp 40) 31 56 (.agg #[(.int .i64 0), (.int .i64 0), (.string ⟨#[]⟩)]) 32 rfl Tryd.underlying31 info56 rfl (by decide) (by omega) vo out (⟨rd xs i, rd xs p0, t.extract (rd ys k).toNat (rd ys p1).toNat⟩ : S56) [.int .i64 (rd xs i), .int .i64 (rd xs p0), .string (t.extract (rd ys k).toNat (rd ys p1).toNat)] (fun _ => True) (fun _ => False) (by first | rfl | (go_simp; done) | (go_simp; rfl)) (by first | rfl | (go_simp; done) | (go_simp; rfl)) (k56_mkM _ _ _ (⟨rd xs i, rd xs p0, t.extract (rd ys k).toNat (rd ys p1).toNat⟩ : S56)) (fun _ hk => hk.elim) (fun _ _ => trivial) H1.out.ho H1.out.hb H1.out.hb.size (by have := q3.out; omega) ?_
    intro v2 w3 hr3 hb3 hg3 _
    have A3 := H1.out.app hb3 hr3 hg3
    have P3 := Aside0.mk (blk_grown P1.out hg3 (fun e_ => ((Kd.R_typed H1.out.ho) _ e_.symm).elim fun _ hc => blk_ne P1.out hc (by decide) rfl))
    have O3 := A3.1
    have o3 : w3.cell? ⟨go, 0, none⟩ = some vo := (blk_cell O3 0).trans rfl
    have f3 := blk_frozen O3 0
    have H3 := Aside0.mk A3.2
    clear A3
    refine hK.out _ _ ?_
    clear hK K
    simp only [Act.put, List.setIfInBounds_toArray, List.set_cons_zero, List.set_cons_succ, i64_w, i32_w]
    refine last_ (i := 24) (N := none) #[true, true, true, true, true, true, true, true, true, true, true, true, true, true, true, true, true, true, true, true, true, true, true, true, true] rfl rfl (by kernel_rfl) (by decide) (fun K hK => ?_)
    obtain ⟨A2_, c2_, ev_⟩ := Kd.R_slice hr3
    refine skip_ (w1 := w3.setCell ⟨go, 0, none⟩ v2) (by rfl) rfl ?_ ?_
    ·simp only [ev_]; first | (go_simp; done) | (go_simp; rfl)
    have P4 := Aside0.mk (blk_far (p := ⟨go, 0, none⟩) P3.out (blk_ne P3.out O3 (by decide)) v2)
    clear P3 O3 o3 f3
    generalize w3.setCell ⟨go, 0, none⟩ v2 = w4 at H3 P4 ⊢
    refine hK.out _ _ ?_
    clear hK K
    refine done_ (by kernel_rfl) ?_
    clear xi xp yk yp hHeld hHeld2 hr3 hb3 hg3 ev_ P1 H1
    have H := H3
    have P := P4
    clear H3 P4
    try go_wp2
    refine start_ (n := 8) (S := fun w' => w'.cell? ⟨gp, 0, none⟩ = some (.int .i64 p0) ∧ w'.cell? ⟨gp, 1, none⟩ = some (.int .i64 p1)) (ds := [7]) #[false, false, false, false, false, false, false, false] (by kernel_rfl) rfl rfl ?_ (fun hHeld => ?_)
    ·exact ⟨(blk_cell P.out 0).trans rfl, (blk_cell P.out 1).trans rfl⟩
    have H5 := Aside0.mk H.out.drew
    have P5 := Aside0.mk (blk_drew P.out)
    clear H P
    generalize w4.drew = w5 at H5 P5 hHeld ⊢
    refine pure_ (i := 0) (N := some 42) (v := ?_) (a' := ?_) #[true, false, false, false, false, false, false, false] rfl rfl (by kernel_rfl) (fun _ _ _ h => h) (Or.inl ⟨by rfl, ?_⟩) ?_ ?_
    rotate_left
    ·intro w'
     go_simp
     with_reducible rfl
    rotate_left
    ·simp only [Act.put, List.setIfInBounds_toArray, List.set_cons_zero, List.set_cons_succ, i64_w, i32_w]
     rfl
    refine pure_ (i := 3) (N := some 45) (v := ?_) (a' := ?_) #[true, false, false, true, false, false, false, false] rfl rfl (by kernel_rfl) (fun _ _ _ h => h) (Or.inl ⟨by rfl, ?_⟩) ?_ ?_
    rotate_left
    ·intro w'
     go_simp
     with_reducible rfl
    rotate_left
    ·simp only [Act.put, List.setIfInBounds_toArray, List.set_cons_zero, List.set_cons_succ, i64_w, i32_w]
     rfl
    refine take_ (i := 1) (N := some 43) (v := ?_) (a' := ?_) #[true, true, false, true, false, false, false, false] rfl rfl (by kernel_rfl) (fun _ _ _ h => h) (Or.inl ⟨by rfl, ?_⟩) hHeld ?_ ?_
    rotate_left
    ·rintro w' ⟨s0, s1⟩
     go_simp
     with_reducible rfl
    rotate_left
    ·simp only [Act.put, List.setIfInBounds_toArray, List.set_cons_zero, List.set_cons_succ, i64_w, i32_w]
     rfl
    refine take_ (i := 4) (N := some 46) (v := ?_) (a' := ?_) #[true, true, false, true, true, false, false, false] rfl rfl (by kernel_rfl) (fun _ _ _ h => h) (Or.inl ⟨by rfl, ?_⟩) hHeld ?_ ?_
    rotate_left
    ·rintro w' ⟨s0, s1⟩
     go_simp
     with_reducible rfl
    rotate_left
    ·simp only [Act.put, List.setIfInBounds_toArray, List.set_cons_zero, List.set_cons_succ, i64_w, i32_w]
     rfl
    refine pure_ (i := 2) (N := some 44) (v := ?_) (a' := ?_) #[true, true, true, true, true, false, false, false] rfl rfl (by kernel_rfl) (fun _ _ _ h => h) (Or.inl ⟨by rfl, ?_⟩) ?_ ?_
    rotate_left
    ·intro w'
     go_simp
     with_reducible rfl
    rotate_left
    ·simp only [Act.put, List.setIfInBounds_toArray, List.set_cons_zero, List.set_cons_succ, i64_w, i32_w]
     rfl
    refine pure_ (i := 5) (N := some 47) (v := ?_) (a' := ?_) #[true, true, true, true, true, true, false, false] rfl rfl (by kernel_rfl) (fun _ _ _ h => h) (Or.inl ⟨by rfl, ?_⟩) ?_ ?_
    rotate_left
    ·intro w'
     go_simp
     with_reducible rfl
    rotate_left
    ·simp only [Act.put, List.setIfInBounds_toArray, List.set_cons_zero, List.set_cons_succ, i64_w, i32_w]
     rfl
    refine one_ (i := 6) (N := none) #[true, true, true, true, true, true, true, false] rfl rfl (by kernel_rfl) (by decide) (fun K hK => ?_)
    refine skip_ (w1 := w5.setCell ⟨gi, 0, none⟩ (.int .i64 (wrap64 (p0 + 1)))) (by rfl) rfl ?_ ?_
    ·have c_ := (blk_cell H5.out.hI 0).trans rfl; have f_ := blk_frozen H5.out.hI 0; first | (go_simp; done) | (go_simp; rfl)
    have H6 := Aside0.mk (H5.out.setI (wrap64 (p0 + 1)))
    have P6 := Aside0.mk (blk_far (p := ⟨gi, 0, none⟩) P5.out (blk_ne P5.out H5.out.hI (by decide)) (.int .i64 (wrap64 (p0 + 1))))
    generalize w5.setCell ⟨gi, 0, none⟩ (.int .i64 (wrap64 (p0 + 1))) = w6 at H6 P6 ⊢
    refine hK.out _ _ ⟨(blk_cell P6.out 0).trans rfl, (blk_cell P6.out 1).trans rfl⟩ (fun hHeld3 => ?_)
    clear hK K hHeld
    refine last_ (i := 7) (N := none) #[true, true, true, true, true, true, true, true] rfl rfl (by kernel_rfl) (by decide) (fun K hK => ?_)
    refine skip_ (w1 := w6.setCell ⟨gk, 0, none⟩ (.int .i64 (wrap64 (p1 + 1)))) (by rfl) rfl ?_ ?_
    ·have c_ := (blk_cell H6.out.hK 0).trans rfl; have f_ := blk_frozen H6.out.hK 0; first | (go_simp; done) | (go_simp; rfl)
    have H7 := Aside0.mk (H6.out.setK (wrap64 (p1 + 1)))
    generalize w6.setCell ⟨gk, 0, none⟩ (.int .i64 (wrap64 (p1 + 1))) = w7 at H7 ⊢
    refine hK.out _ _ ?_
    clear hK K hHeld3
    refine done_ (by kernel_rfl) ?_
    try go_wp2
    go_end0
    exact ⟨rfl, _, H7.out⟩
  ·rw [if_neg q] at h
   cases h
 ·rw [if_neg c] at h
  obtain rfl := Option.some.inj h
  clear h
  have b1 : decide (i < p0) = false := decide_eq_false (fun e => c (.inl e))
  have b2 : decide (k < p1) = false := decide_eq_false (fun e => c (.inr e))
  clear c
  go_enter Tryd.func34, Tryd.ntmps34
  go_wp2_with (first | ((with_reducible refine gate_dst (N := 7) rfl ?_); refine box_event ?hg (N := 7) ?hd (cs := #[.int .i64 p0, .int .i64 p1]) (t := 36) ?hr ?_; (case hd => rfl); (case hg => rfl); (case hr => first | (go_simp; done) | (go_simp; rfl)); intro gp hgp w1 hbox hb; have P := Aside0.mk hbox; have H := Aside0.mk (H0.out.below hb); have cp0 : w1.cell? ⟨gp, 0, none⟩ = some (.int .i64 p0) := (blk_cell hbox 0).trans rfl; have cp1 : w1.cell? ⟨gp, 1, none⟩ = some (.int .i64 p1) := (blk_cell hbox 1).trans rfl; have ci1 : w1.cell? ⟨gi, 0, none⟩ = some (.int .i64 i) := (blk_cell H.out.hI 0).trans rfl; have ck1 : w1.cell? ⟨gk, 0, none⟩ = some (.int .i64 k) := (blk_cell H.out.hK 0).trans rfl; clear hbox hb hgp))
  clear cp0 cp1 ci1 ck1
  refine start_ (n := 8) (S := fun w' => w'.cell? ⟨gp, 0, none⟩ = some (.int .i64 p0) ∧ w'.cell? ⟨gp, 1, none⟩ = some (.int .i64 p1)) (ds := [7]) #[false, false, false, false, false, false, false, false] (by kernel_rfl) rfl rfl ?_ (fun hHeld => ?_)
  ·exact ⟨(blk_cell P.out 0).trans rfl, (blk_cell P.out 1).trans rfl⟩
  have H5 := Aside0.mk H.out.drew
  have P5 := Aside0.mk (blk_drew P.out)
  clear H P
  generalize w1.drew = w5 at H5 P5 hHeld ⊢
  refine pure_ (i := 0) (N := some 42) (v := ?_) (a' := ?_) #[true, false, false, false, false, false, false, false] rfl rfl (by kernel_rfl) (fun _ _ _ h => h) (Or.inl ⟨by rfl, ?_⟩) ?_ ?_
  rotate_left
  ·intro w'
   go_simp
   with_reducible rfl
  rotate_left
  ·simp only [Act.put, List.setIfInBounds_toArray, List.set_cons_zero, List.set_cons_succ, i64_w, i32_w]
   rfl
  refine pure_ (i := 3) (N := some 45) (v := ?_) (a' := ?_) #[true, false, false, true, false, false, false, false] rfl rfl (by kernel_rfl) (fun _ _ _ h => h) (Or.inl ⟨by rfl, ?_⟩) ?_ ?_
  rotate_left
  ·intro w'
   go_simp
   with_reducible rfl
  rotate_left
  ·simp only [Act.put, List.setIfInBounds_toArray, List.set_cons_zero, List.set_cons_succ, i64_w, i32_w]
   rfl
  refine take_ (i := 1) (N := some 43) (v := ?_) (a' := ?_) #[true, true, false, true, false, false, false, false] rfl rfl (by kernel_rfl) (fun _ _ _ h => h) (Or.inl ⟨by rfl, ?_⟩) hHeld ?_ ?_
  rotate_left
  ·rintro w' ⟨s0, s1⟩
   go_simp
   with_reducible rfl
  rotate_left
  ·simp only [Act.put, List.setIfInBounds_toArray, List.set_cons_zero, List.set_cons_succ, i64_w, i32_w]
   rfl
  refine take_ (i := 4) (N := some 46) (v := ?_) (a' := ?_) #[true, true, false, true, true, false, false, false] rfl rfl (by kernel_rfl) (fun _ _ _ h => h) (Or.inl ⟨by rfl, ?_⟩) hHeld ?_ ?_
  rotate_left
  ·rintro w' ⟨s0, s1⟩
   go_simp
   with_reducible rfl
  rotate_left
  ·simp only [Act.put, List.setIfInBounds_toArray, List.set_cons_zero, List.set_cons_succ, i64_w, i32_w]
   rfl
  refine pure_ (i := 2) (N := some 44) (v := ?_) (a' := ?_) #[true, true, true, true, true, false, false, false] rfl rfl (by kernel_rfl) (fun _ _ _ h => h) (Or.inl ⟨by rfl, ?_⟩) ?_ ?_
  rotate_left
  ·intro w'
   go_simp
   with_reducible rfl
  rotate_left
  ·simp only [Act.put, List.setIfInBounds_toArray, List.set_cons_zero, List.set_cons_succ, i64_w, i32_w]
   rfl
  refine pure_ (i := 5) (N := some 47) (v := ?_) (a' := ?_) #[true, true, true, true, true, true, false, false] rfl rfl (by kernel_rfl) (fun _ _ _ h => h) (Or.inl ⟨by rfl, ?_⟩) ?_ ?_
  rotate_left
  ·intro w'
   go_simp
   with_reducible rfl
  rotate_left
  ·simp only [Act.put, List.setIfInBounds_toArray, List.set_cons_zero, List.set_cons_succ, i64_w, i32_w]
   rfl
  refine one_ (i := 6) (N := none) #[true, true, true, true, true, true, true, false] rfl rfl (by kernel_rfl) (by decide) (fun K hK => ?_)
  refine skip_ (w1 := w5.setCell ⟨gi, 0, none⟩ (.int .i64 (wrap64 (p0 + 1)))) (by rfl) rfl ?_ ?_
  ·have c_ := (blk_cell H5.out.hI 0).trans rfl; have f_ := blk_frozen H5.out.hI 0; first | (go_simp; done) | (go_simp; rfl)
  have H6 := Aside0.mk (H5.out.setI (wrap64 (p0 + 1)))
  have P6 := Aside0.mk (blk_far (p := ⟨gi, 0, none⟩) P5.out (blk_ne P5.out H5.out.hI (by decide)) (.int .i64 (wrap64 (p0 + 1))))
  generalize w5.setCell ⟨gi, 0, none⟩ (.int .i64 (wrap64 (p0 + 1))) = w6 at H6 P6 ⊢
  refine hK.out _ _ ⟨(blk_cell P6.out 0).trans rfl, (blk_cell P6.out 1).trans rfl⟩ (fun hHeld3 => ?_)
  clear hK K hHeld
  refine last_ (i := 7) (N := none) #[true, true, true, true, true, true, true, true] rfl rfl (by kernel_rfl) (by decide) (fun K hK => ?_)
  refine skip_ (w1 := w6.setCell ⟨gk, 0, none⟩ (.int .i64 (wrap64 (p1 + 1)))) (by rfl) rfl ?_ ?_
  ·have c_ := (blk_cell H6.out.hK 0).trans rfl; have f_ := blk_frozen H6.out.hK 0; first | (go_simp; done) | (go_simp; rfl)
  have H7 := Aside0.mk (H6.out.setK (wrap64 (p1 + 1)))
  generalize w6.setCell ⟨gk, 0, none⟩ (.int .i64 (wrap64 (p1 + 1))) = w7 at H7 ⊢
  refine hK.out _ _ ?_
  clear hK K hHeld3
  refine done_ (by kernel_rfl) ?_
  try go_wp2
  go_end0
  exact ⟨rfl, _, H7.out⟩
end Go.Proofs.YtnemooemifbbhaaDoor.Fill
namespace Go.Proofs.YtnemooemifbbhaaDoor.Fill
open Go Go.RowKit Go.Proofs.YtnemooemifbbhaaDoorW.PrintWords Go.Proofs.YtnemooemifbbhaaDoorW.PrintLast Go.Proofs.YtnemooemifbbhaaDoorW.PrintMore Go.Proofs.YtnemooemifbbhaaDoor.PDT
set_option linter.unusedVariables false
set_option linter.unusedSimpArgs false
def runs (t : ByteArray) (xs ys : List Int) : Int → Int → List S56 → List S36 → Option (List S56)
 | _, _, out, [] => some out
 | i, k, out, p :: r => (runE t xs ys i k out p).bind fun o => runs t xs ys (wrap64 (p.f0 + 1)) (wrap64 (p.f1 + 1)) o r
theorem pairs_len (a b : List ByteArray) : (pairs a b).length ≤ a.length := by
 unfold pairs
 rw [List.length_map, TabD.greedy_len a b _ 0 0 (by omega)]
 exact TabB.lcs_le _ _ _ (Nat.le_refl _)
set_option maxHeartbeats 8000000 in
set_option maxRecDepth 100000 in
theorem edits (k : Nat) (a0 a1 : ByteArray) (a b : List ByteArray) (x y : List Int) (out : List S56) (w : World) (hA : diff_Lines.f k a0 = some a) (hB : diff_Lines.f k a1 = some b) (hX : diff_starts.f k a = some x) (hY : diff_starts.f k b = some y)
  (la : a.length ≤ 1000000) (lb : b.length ≤ 1000000) (hR : runs a1 x y 0 0 [] (pairs a b ++ [(⟨(a.length : Int), (b.length : Int)⟩ : S36)]) = some out) :
  Calls Tryd.prog 17 #[.string a0, .string a1] w fun e w' => ∃ v0_ : Value, e = .returned (v0_) ∧ Kd.R k56 56 w' w.heap.size (fun _ => True) v0_ out ∧ Below w.heap.size w w' := by
 have hmf : ∀ (fn : Fn) (first cap : Array Value) (w : World), (Instr.makeFunc fn first cap).run Tryd.prog w = .ok (.func fn first cap) w := fun _ _ _ _ => rfl
 have GA := Aside0.mk hA
 have GB := Aside0.mk hB
 have GX := Aside0.mk hX
 have GY := Aside0.mk hY
 have GR := Aside0.mk hR
 have La := Aside0.mk la
 have Lb := Aside0.mk lb
 clear hA hB hX hY hR la lb
 go_enter Tryd.func17, Tryd.ntmps17
 go_wp2_with (first | ((with_reducible refine gate_dst (N := 3) rfl ?_); refine box_event ?hg (N := 3) ?hd (cs := #[.string a1]) (t := 9) ?hr ?_; (case hd => rfl); (case hg => rfl); (case hr => first | (go_simp; done) | (go_simp; rfl)); intro gt hgt w1 hbox hb; have T1 := Aside0.mk hbox; have HB := Aside0.mk hb; clear hbox hb hgt))
 refine start_ (n := 6) (S := fun w' => w'.cell? ⟨gt, 0, none⟩ = some (.string a1)) (ds := []) #[false, false, false, false, false, false] (by kernel_rfl) rfl rfl ?_ (fun hHeld => ?_)
 ·exact (blk_cell T1.out 0).trans rfl
 have T2 := Aside0.mk (blk_drew T1.out)
 have HB2 := Aside0.mk (below_drew1 HB.out)
 clear T1 HB
 generalize w1.drew = w2 at T2 HB2 hHeld ⊢
 refine pure_ (i := 0) (N := some 15) (v := ?_) (a' := ?_) #[true, false, false, false, false, false] rfl rfl (by kernel_rfl) (fun _ _ _ h => h) (Or.inl ⟨by rfl, ?_⟩) ?_ ?_
 rotate_left
 ·intro w'
  go_simp
  with_reducible rfl
 rotate_left
 ·simp only [Act.put, List.setIfInBounds_toArray, List.set_cons_zero, List.set_cons_succ, i64_w, i32_w]
  rfl
 refine take_ (i := 2) (N := some 17) (v := ?_) (a' := ?_) #[true, false, true, false, false, false] rfl rfl (by kernel_rfl) (fun _ _ _ h => h) (Or.inl ⟨by rfl, ?_⟩) hHeld ?_ ?_
 rotate_left
 ·intro w' s0
  go_simp
  with_reducible rfl
 rotate_left
 ·simp only [Act.put, List.setIfInBounds_toArray, List.set_cons_zero, List.set_cons_succ, i64_w, i32_w]
  rfl
 refine one_ (i := 1) (N := some 16) #[true, true, true, false, false, false] rfl rfl (by kernel_rfl) (by decide) (fun K hK => ?_)
 refine goes_ Tryd.func10 (by kernel_rfl) rfl #[.string a0] (by rfl) rfl rfl (by first | rfl | (go_simp; done) | (go_simp; rfl)) ?_
 with_reducible refine (diff_Lines.calls k a0 a _ GA.out).mono ?_
 rintro e w3 ⟨va, rfl, hr, hb⟩
 refine ⟨_, rfl, ?_⟩
 have T3 := Aside0.mk (blk_below T2.out hb)
 have HB3 := Aside0.mk (below_step HB2.out hb)
 have RA := Aside0.mk (Kd.R_lower hr HB2.out.size)
 refine hK.out _ _ ((blk_cell T3.out 0).trans rfl) (fun hHeld2 => ?_)
 clear hK K T2 HB2 hr hb
 simp only [Act.put, List.setIfInBounds_toArray, List.set_cons_zero, List.set_cons_succ, i64_w, i32_w]
 refine one_ (i := 3) (N := some 18) #[true, true, true, true, false, false] rfl rfl (by kernel_rfl) (by decide) (fun K hK => ?_)
 refine goes_ Tryd.func10 (by kernel_rfl) rfl #[.string a1] (by rfl) rfl rfl (by first | rfl | (go_simp; done) | (go_simp; rfl)) ?_
 with_reducible refine (diff_Lines.calls k a1 b _ GB.out).mono ?_
 rintro e w4 ⟨vb, rfl, hr, hb⟩
 refine ⟨_, rfl, ?_⟩
 have T4 := Aside0.mk (blk_below T3.out hb)
 have HB4 := Aside0.mk (below_step HB3.out hb)
 have RA4 := Aside0.mk (Kd.R_below RA.out hb)
 have RB4 := Aside0.mk (Kd.R_lower hr HB3.out.size)
 refine hK.out _ _ ((blk_cell T4.out 0).trans rfl) (fun hHeld3 => ?_)
 clear hK K T3 HB3 RA hr hb
 simp only [Act.put, List.setIfInBounds_toArray, List.set_cons_zero, List.set_cons_succ, i64_w, i32_w]
 refine pure_ (i := 4) (N := some 5) (v := ?_) (a' := ?_) #[true, true, true, true, true, false] rfl rfl (by kernel_rfl) (fun _ _ _ h => h) (Or.inl ⟨by rfl, ?_⟩) ?_ ?_
 rotate_left
 ·intro w'
  go_simp
  with_reducible rfl
 rotate_left
 ·simp only [Act.put, List.setIfInBounds_toArray, List.set_cons_zero, List.set_cons_succ, i64_w, i32_w]
  rfl
 refine pure_ (i := 5) (N := some 6) (v := ?_) (a' := ?_) #[true, true, true, true, true, true] rfl rfl (by kernel_rfl) (fun _ _ _ h => h) (Or.inl ⟨by rfl, ?_⟩) ?_ ?_
 rotate_left
 ·intro w'
  go_simp
  with_reducible rfl
 rotate_left
 ·simp only [Act.put, List.setIfInBounds_toArray, List.set_cons_zero, List.set_cons_succ, i64_w, i32_w]
  rfl
 refine done_ (by kernel_rfl) ?_
 obtain ⟨Aa, ca, ea⟩ := Kd.R_slice RA4.out
 subst ea
 obtain ⟨Ab, cb, eb⟩ := Kd.R_slice RB4.out
 subst eb
 go_wp2_with (first | (go_at_call 33; (with_reducible refine (diff_starts.calls k _ _ a x _ ?side1 ?side2 GX.out).mono ?_); (case side1 => exact (Kd.R_reads' RA4.out).2.2); (case side2 => exact (Kd.R_reads' RA4.out).2.1); rintro e w5 ⟨vx, rfl, hr, hb⟩; obtain ⟨Ax, cx, e_⟩ := Kd.R_slice hr; subst e_; have T5 := Aside0.mk (blk_below T4.out hb); have HB5 := Aside0.mk (below_step HB4.out hb); have RA5 := Aside0.mk (Kd.R_below RA4.out hb); have RB5 := Aside0.mk (Kd.R_below RB4.out hb); have RX5 := Aside0.mk (Kd.R_lower hr HB4.out.size); clear T4 HB4 RA4 RB4 hr hb) | (go_at_call 33; (with_reducible refine (diff_starts.calls k _ _ b y _ ?side1 ?side2 GY.out).mono ?_); (case side1 => exact (Kd.R_reads' RB5.out).2.2); (case side2 => exact (Kd.R_reads' RB5.out).2.1); rintro e w6 ⟨vy, rfl, hr, hb⟩; obtain ⟨Ay, cy, e_⟩ := Kd.R_slice hr; subst e_; have T6 := Aside0.mk (blk_below T5.out hb); have HB6 := Aside0.mk (below_step HB5.out hb); have RA6 := Aside0.mk (Kd.R_below RA5.out hb); have RB6 := Aside0.mk (Kd.R_below RB5.out hb); have RX6 := Aside0.mk (Kd.R_below RX5.out hb); have RY6 := Aside0.mk (Kd.R_lower hr HB5.out.size); have D6 := Aside0.mk (Below.refl w6.heap.size w6); clear T5 HB5 RA5 RB5 RX5 hr hb) | ((with_reducible refine gate_dst (N := 7) rfl ?_); refine box_event ?hg (N := 7) ?hd (cs := #[.slice none 0 0]) (t := 37) ?hr ?_; (case hd => rfl); (case hg => rfl); (case hr => first | (go_simp; done) | (go_simp; rfl)); intro gx hg_ w7 hbox hb; have X7 := Aside0.mk hbox; have D7 := Aside0.mk (below_step D6.out hb); have Lx := Aside0.mk (show w6.heap.size ≤ gx from by rw [hg_]; exact D6.out.size); clear D6 hbox hb hg_) | ((with_reducible refine gate_dst (N := 8) rfl ?_); refine box_event ?hg (N := 8) ?hd (cs := #[.slice none 0 0]) (t := 37) ?hr ?_; (case hd => rfl); (case hg => rfl); (case hr => first | (go_simp; done) | (go_simp; rfl)); intro gy hg_ w8 hbox hb; have Y8 := Aside0.mk hbox; have X8 := Aside0.mk (blk_below X7.out hb); have Nxy := Aside0.mk (show gx ≠ gy from by rw [hg_]; exact Nat.ne_of_lt (blk_lt X7.out)); have D8 := Aside0.mk (below_step D7.out hb); have Ly := Aside0.mk (show w6.heap.size ≤ gy from by rw [hg_]; exact D7.out.size); have cx8 : w8.cell? ⟨gx, 0, none⟩ = some (.slice none 0 0) := (blk_cell X8.out 0).trans rfl; have fx8 := blk_frozen X8.out 0; clear D7 X7 hbox hb hg_) | ((with_reducible refine gate_store (t := 37) (p := 7) rfl ?_); refine store_event (t := 37) (p := 7) (v := ?vo_w9) (w1 := (w8.setCell ⟨gx, 0, none⟩ (.slice Ax x.length cx))) ?hg ?ho ?hn ?hr ?_; (case ho => rfl); (case hg => rfl); (case hn => rfl); (case hr => first | (go_simp; done) | (go_simp; rfl)); intro w9 hw; have X9 := Aside0.mk (show w9.heap[gx]? = some (.cells #[.slice Ax x.length cx] 37 (0, 0)) from by rw [hw]; exact blk_put X8.out 0 _ rfl); have Y9 := Aside0.mk (show w9.heap[gy]? = some (.cells #[.slice none 0 0] 37 (0, 0)) from by rw [hw]; exact blk_far Y8.out (Ne.symm Nxy.out) _); have D9 := Aside0.mk (show Below w6.heap.size w6 w9 from by rw [hw]; exact below_set D8.out Lx.out); have cy9 : w9.cell? ⟨gy, 0, none⟩ = some (.slice none 0 0) := (blk_cell Y9.out 0).trans rfl; have fy9 := blk_frozen Y9.out 0; clear hw X8 Y8 D8 cx8 fx8) | ((with_reducible refine gate_store (t := 37) (p := 8) rfl ?_); refine store_event (t := 37) (p := 8) (v := ?vo_w10) (w1 := (w9.setCell ⟨gy, 0, none⟩ (.slice Ay y.length cy))) ?hg ?ho ?hn ?hr ?_; (case ho => rfl); (case hg => rfl); (case hn => rfl); (case hr => first | (go_simp; done) | (go_simp; rfl)); intro w10 hw; have Y10 := Aside0.mk (show w10.heap[gy]? = some (.cells #[.slice Ay y.length cy] 37 (0, 0)) from by rw [hw]; exact blk_put Y9.out 0 _ rfl); have X10 := Aside0.mk (show w10.heap[gx]? = some (.cells #[.slice Ax x.length cx] 37 (0, 0)) from by rw [hw]; exact blk_far X9.out Nxy.out _); have D10 := Aside0.mk (show Below w6.heap.size w6 w10 from by rw [hw]; exact below_set D9.out Ly.out); clear hw X9 Y9 D9 cy9 fy9 Nxy) | ((with_reducible refine gate_dst (N := 9) rfl ?_); refine box_event ?hg (N := 9) ?hd (cs := #[.slice none 0 0]) (t := 31) ?hr ?_; (case hd => rfl); (case hg => rfl); (case hr => first | (go_simp; done) | (go_simp; rfl)); intro go hg_ w11 hbox hb; have O11 := Aside0.mk hbox; have X11 := Aside0.mk (blk_below X10.out hb); have Y11 := Aside0.mk (blk_below Y10.out hb); have D11 := Aside0.mk (below_step D10.out hb); have Lo := Aside0.mk (show w6.heap.size ≤ go from by rw [hg_]; exact D10.out.size); clear D10 X10 Y10 hbox hb hg_) | ((with_reducible refine gate_dst (N := 10) rfl ?_); refine box_event ?hg (N := 10) ?hd (cs := #[.int .i64 0]) (t := 3) ?hr ?_; (case hd => rfl); (case hg => rfl); (case hr => first | (go_simp; done) | (go_simp; rfl)); intro gi hg_ w12 hbox hb; have I12 := Aside0.mk hbox; have O12 := Aside0.mk (blk_below O11.out hb); have X12 := Aside0.mk (blk_below X11.out hb); have Y12 := Aside0.mk (blk_below Y11.out hb); have D12 := Aside0.mk (below_step D11.out hb); have Li := Aside0.mk (show w6.heap.size ≤ gi from by rw [hg_]; exact D11.out.size); clear D11 X11 Y11 O11 hbox hb hg_) | ((with_reducible refine gate_dst (N := 11) rfl ?_); refine box_event ?hg (N := 11) ?hd (cs := #[.int .i64 0]) (t := 3) ?hr ?_; (case hd => rfl); (case hg => rfl); (case hr => first | (go_simp; done) | (go_simp; rfl)); intro gh hg_ w13 hbox hb; have K13 := Aside0.mk hbox; have I13 := Aside0.mk (blk_below I12.out hb); have O13 := Aside0.mk (blk_below O12.out hb); have X13 := Aside0.mk (blk_below X12.out hb); have Y13 := Aside0.mk (blk_below Y12.out hb); have Nik := Aside0.mk (show gi ≠ gh from by rw [hg_]; exact Nat.ne_of_lt (blk_lt I12.out)); have D13 := Aside0.mk (below_step D12.out hb); have Lk := Aside0.mk (show w6.heap.size ≤ gh from by rw [hg_]; exact D12.out.size); have far : ∀ q, q < w6.heap.size → q ≠ gi ∧ q ≠ gh := (fun q hq => ⟨fun e_ => absurd Li.out (by rw [← e_]; exact Nat.not_le_of_lt hq), fun e_ => absurd Lk.out (by rw [← e_]; exact Nat.not_le_of_lt hq)⟩); have S13 : Aside0 (St w w13 gi gh go gx gt gy Ax Ay cx cy x y a1 (.slice none 0 0) [] 0 0 (.slice none 0 0) []) := ⟨⟨I13.out, K13.out, O13.out, X13.out, blk_below T6.out D13.out, Y13.out, Kd.R_below (Kd.R_mono (Kd.R_bound RX6.out) (fun q hq => far q hq.2.2.1)) D13.out, Kd.R_below (Kd.R_mono (Kd.R_bound RY6.out) (fun q hq => far q hq.2.2.1)) D13.out, Kd.R_nil _ _ _ _ _, Kd.R_nil _ _ _ _ _, below_step HB6.out D13.out, Nat.le_trans HB6.out.size Li.out, Nat.le_trans HB6.out.size Lk.out, Nat.le_trans HB6.out.size Lo.out, Nik.out⟩⟩; have RA13 := Aside0.mk (Kd.R_below RA6.out D13.out); have RB13 := Aside0.mk (Kd.R_below RB6.out D13.out); have ci13 : w13.cell? ⟨gi, 0, none⟩ = some (.int .i64 0) := (blk_cell I13.out 0).trans rfl; have fi13 := blk_frozen I13.out 0; have I13' := I13; clear far I12 O12 X12 Y12 D12 hbox hb hg_ I13 O13 X13 Y13 K13 D13 Li Lk Lo Lx Ly Nik T6 RX6 RY6 RA6 RB6 HB6) | ((with_reducible refine gate_store (t := 3) (p := 10) rfl ?_); refine store_event (t := 3) (p := 10) (v := ?vo_w14) (w1 := (w13.setCell ⟨gi, 0, none⟩ (.int .i64 0))) ?hg ?ho ?hn ?hr ?_; (case ho => rfl); (case hg => rfl); (case hn => rfl); (case hr => first | (go_simp; done) | (go_simp; rfl)); intro w14 hw; have S14 : Aside0 (St w w14 gi gh go gx gt gy Ax Ay cx cy x y a1 (.slice none 0 0) [] 0 0 (.slice none 0 0) []) := ⟨by rw [hw]; exact S13.out.setI 0⟩; have RA14 := Aside0.mk (show Kd.R Kd.string 9 w14 w.heap.size (fun _ => True) (.slice Aa a.length ca) a from by rw [hw]; exact R_other RA13.out I13'.out (by decide) _); have RB14 := Aside0.mk (show Kd.R Kd.string 9 w14 w.heap.size (fun _ => True) (.slice Ab b.length cb) b from by rw [hw]; exact R_other RB13.out I13'.out (by decide) _); have ck14 : w14.cell? ⟨gh, 0, none⟩ = some (.int .i64 0) := (blk_cell S14.out.hK 0).trans rfl; have fk14 := blk_frozen S14.out.hK 0; clear hw S13 RA13 RB13 ci13 fi13 I13') | ((with_reducible refine gate_store (t := 3) (p := 11) rfl ?_); refine store_event (t := 3) (p := 11) (v := ?vo_w15) (w1 := (w14.setCell ⟨gh, 0, none⟩ (.int .i64 0))) ?hg ?ho ?hn ?hr ?_; (case ho => rfl); (case hg => rfl); (case hn => rfl); (case hr => first | (go_simp; done) | (go_simp; rfl)); intro w15 hw; have S15 : Aside0 (St w w15 gi gh go gx gt gy Ax Ay cx cy x y a1 (.slice none 0 0) [] 0 0 (.slice none 0 0) []) := ⟨by rw [hw]; exact S14.out.setK 0⟩; have RA15 := Aside0.mk (show Kd.R Kd.string 9 w15 w.heap.size (fun _ => True) (.slice Aa a.length ca) a from by rw [hw]; exact R_other RA14.out S14.out.hK (by decide) _); have RB15 := Aside0.mk (show Kd.R Kd.string 9 w15 w.heap.size (fun _ => True) (.slice Ab b.length cb) b from by rw [hw]; exact R_other RB14.out S14.out.hK (by decide) _); clear hw S14 RA14 RB14 ck14 fk14) | (go_at_call 14; (with_reducible refine (common _ _ a _ _ b _ ?side1 ?side2 ?side3 ?side4 La.out Lb.out).mono ?_); (case side1 => exact (Kd.R_reads' RA15.out).2.2); (case side2 => exact (Kd.R_reads' RA15.out).2.1); (case side3 => exact (Kd.R_reads' RB15.out).2.2); (case side4 => exact (Kd.R_reads' RB15.out).2.1); rintro e w16 ⟨vp, rfl, hr, hb⟩; obtain ⟨Ap, cp, e_⟩ := Kd.R_slice hr; subst e_; have S16 := Aside0.mk ((S15.out.below hb).withP (Kd.R_lower hr S15.out.hb.size)); clear S15 RA15 RB15 hr hb))
 go_loopg [28] ((pairs a b).length) (fun kq v28 w' => ∃ (j : Nat) (i_ k_ : Int) (vo : Value) (o : List S56), v28 = .int .i64 (j : Int) ∧ Aside0 (kq + j = (pairs a b).length) ∧ Aside0 (runs a1 x y i_ k_ o ((pairs a b).drop j ++ [(⟨(a.length : Int), (b.length : Int)⟩ : S36)]) = some out) ∧ Aside0 (St w w' gi gh go gx gt gy Ax Ay cx cy x y a1 (.slice Ap (pairs a b).length cp) (pairs a b) i_ k_ vo o))
 case atStart => exact ⟨0, 0, 0, _, [], (by first | rfl | (simp; done)), ⟨Nat.add_zero _⟩, ⟨by rw [List.drop_zero]; exact GR.out⟩, S16⟩
 case round =>
  clear S16
  obtain ⟨j, i_, k_, vo, o, rfl, HN, HR, HS⟩ := hrel
  by_cases c : (j : Int) < ((pairs a b).length : Int)
  ·have cd_ : decide ((j : Int) < ((pairs a b).length : Int)) = true := decide_eq_true c
   have hd : (pairs a b).drop j = rd_T36 (pairs a b) (j : Int) :: (pairs a b).drop (j + 1) := by
    rw [List.drop_eq_getElem_cons (show j < (pairs a b).length by omega)]
    simp [rd_T36, show j < (pairs a b).length by omega]
   have H := HR.out
   clear HR
   rw [hd, List.cons_append] at H
   clear hd
   generalize hp_ : rd_T36 (pairs a b) (j : Int) = p at H
   obtain ⟨f0, f1⟩ := p
   simp only [runs] at H
   obtain ⟨o2, h2, H3⟩ := Option.bind_eq_some_iff.mp H
   have G2 := Aside0.mk h2
   have HR := Aside0.mk H3
   clear H h2 H3
   have pj : 0 ≤ (j : Int) := by omega
   obtain ⟨ad, ea_, h0, h1⟩ := at_T36 (Kd.R_reads' HS.out.hp).2.2 (j : Int) pj c
   rw [hp_] at h0 h1
   simp only [Int.toNat_natCast] at h0 h1
   subst ea_
   clear hp_
   have cj := eq_true c
   have pj' := eq_true pj
   go_wp2_with (first | ((with_reducible refine gate_dst (N := 14) rfl ?_); refine box_event ?hg (N := 14) ?hd (cs := #[.int .i64 0, .int .i64 0]) (t := 36) ?hr ?_; (case hd => rfl); (case hg => rfl); (case hr => first | (go_simp; done) | (go_simp; rfl)); intro gp hg_ w18 hbox hb; have P18 := Aside0.mk hbox; have HS18 := Aside0.mk (HS.out.below hb); have HB18 := Aside0.mk hb; have Lp := Aside0.mk (show wr.heap.size ≤ gp from by rw [hg_]; exact Nat.le_refl _); have c0_ : w18.cell? ⟨gp, 0, none⟩ = some (.int .i64 0) := (blk_cell hbox 0).trans rfl; have c1_ : w18.cell? ⟨gp, 1, none⟩ = some (.int .i64 0) := (blk_cell hbox 1).trans rfl; have f0_ := blk_frozen hbox 0; have f1_ := blk_frozen hbox 1; clear hbox hb hg_) | ((with_reducible refine gate_store (t := 36) (p := 14) rfl ?_); refine store_event (t := 36) (p := 14) (v := ?vo_w19) (w1 := ((w18.setCell ⟨gp, 0, none⟩ (.int .i64 f0)).setCell ⟨gp, 1, none⟩ (.int .i64 f1))) ?hg ?ho ?hn ?hr ?_; (case ho => rfl); (case hg => rfl); (case hn => rfl); (case hr => first | (go_simp; done) | (go_simp; rfl)); intro w19 hw; have P19 := Aside0.mk (show w19.heap[gp]? = some (.cells #[.int .i64 f0, .int .i64 f1] 36 (0, 0)) from by rw [hw]; exact blk_put (blk_put P18.out 0 _ rfl) 1 _ rfl); have HS19 := Aside0.mk (HS.out.below (show Below wr.heap.size wr w19 from by rw [hw]; exact below_set (below_set HB18.out Lp.out) Lp.out)); have c0_ : w19.cell? ⟨gp, 0, none⟩ = some (.int .i64 f0) := (blk_cell P19.out 0).trans rfl; have c1_ : w19.cell? ⟨gp, 1, none⟩ = some (.int .i64 f1) := (blk_cell P19.out 1).trans rfl; clear hw HS18 P18 HB18 Lp) | (go_at_call 34; (with_reducible refine (step w _ gi gh go gx gt gy Ax Ay cx cy x y a1 _ _ i_ k_ vo o o2 f0 f1 HS19.out G2.out).mono ?_); rintro e w20 ⟨rfl, vo2, hS20⟩; have S20 := Aside0.mk hS20; clear hS20 HS19 P19 c0_ c1_))
   have hj : wrap64 ((j : Int) + 1) = ((j + 1 : Nat) : Int) := by
    have h1_ := pairs_len a b
    have h2_ := La.out
    rw [wid (by omega) (by omega)]
    omega
   go_roundg ((pairs a b).length - (j + 1))
   case measure => have := HN.out; omega
   case rel => exact ⟨j + 1, _, _, _, _, (by first | rfl | (rw [hj]) | (simp only [i64_w, hj]; done) | (simp [hj]; done)), ⟨by omega⟩, HR, S20⟩
  ·have cd_ : decide ((j : Int) < ((pairs a b).length : Int)) = false := decide_eq_false c
   have hd : (pairs a b).drop j = [] := List.drop_eq_nil_of_le (by omega)
   have H := HR.out
   rw [hd] at H
   simp only [List.nil_append, runs] at H
   clear HR hd
   obtain ⟨o2, h2, H3⟩ := Option.bind_eq_some_iff.mp H
   obtain rfl := Option.some.inj H3
   have G2 := Aside0.mk h2
   clear H h2 H3
   go_wp2_with (first | (go_at_call 34; (with_reducible refine (step w _ gi gh go gx gt gy Ax Ay cx cy x y a1 _ _ i_ k_ vo o o2 (a.length : Int) (b.length : Int) HS.out G2.out).mono ?_); rintro e w20 ⟨rfl, vo2, hS20⟩; have S20 := Aside0.mk hS20; have co_ : w20.cell? ⟨go, 0, none⟩ = some vo2 := (blk_cell hS20.hO 0).trans rfl; obtain ⟨A2_, c2_, ev_⟩ := Kd.R_slice hS20.ho; subst ev_; clear hS20))
   go_ret
   exact ⟨_, rfl, S20.out.ho, S20.out.hb⟩
end Go.Proofs.YtnemooemifbbhaaDoor.Fill
