-- Written by ownprint.py, a program of this session (out of the kit's print, with contracts of the session's own).
import Derived.Test.YtmgeheomokjimaaPSox0
import Derived.Test.YtmgeheomokjimaaPSox3
namespace Go.Proofs.Ytmgeheomokjimaa.PSo
open Go.RowKit Go.Proofs.YtmgeheomokjimaaW.PrintWords Go.Proofs.YtmgeheomokjimaaW.PrintLast Go.Proofs.YtmgeheomokjimaaW.PrintMore
attribute [local go_sem] max2_int min2_int max_two min_two max_three min_three max_four min_four   -- for this text's walks alone
set_option linter.unusedVariables false
set_option linter.unusedSimpArgs false
def keepO (out : List S45) (at_ end_ : Int) : List S45 := if at_ < end_ then out ++ [(⟨at_, end_⟩ : S45)] else out
def keepT (tl : List Int) (at_ more end_ : Int) : List Int := if at_ < end_ then tl ++ [wrap64 (at_ + more)] else tl
def keptGo : List S47 → Int → Int → List S45 → List Int → Int × Int × List S45 × List Int
 | [], at_, more, out, tl => (at_, more, out, tl)
 | x :: r, at_, more, out, tl => keptGo r x.f1 (wrap64 (more + wrap64 ((x.f2.size : Int) - wrap64 (x.f1 - x.f0)))) (keepO out at_ x.f0) (keepT tl at_ more x.f0)
def keptAll (a0 : Int) (l1 : List S47) : List S45 × List Int × Int :=
 (keepO (keptGo l1 0 0 [] []).2.2.1 (keptGo l1 0 0 [] []).1 a0, keepT (keptGo l1 0 0 [] []).2.2.2 (keptGo l1 0 0 [] []).1 (keptGo l1 0 0 [] []).2.1 a0, 0)
def edit_Kept.f (k : Nat) (a0 : Int) (l1 : List S47) : Option (List S45 × List Int × Int) :=
 (edit_Check.f k a0 l1).bind fun e => if e = 0 then (if l1.length < 4398046511103 then some (keptAll a0 l1) else none) else some ([], [], e)
theorem edit_Kept.mono : ∀ a0 a1 k, LeO (edit_Kept.f k a0 a1) (edit_Kept.f (k + 1) a0 a1) := by
 intro a0 a1 k
 unfold edit_Kept.f
 exact LeO.bind (edit_Check.mono _ _ _) (fun _ => LeO.refl _)
structure KSt (w0 w : World) (gA gO gT gM : Nat) (at_ more : Int) (vo vt : Value) (out : List S45) (tl : List Int) : Prop where
 bA : w.heap[gA]? = some (.cells #[.int .i64 at_] 3 (0, 0))
 bO : w.heap[gO]? = some (.cells #[vo] 25 (0, 0))
 bT : w.heap[gT]? = some (.cells #[vt] 26 (0, 0))
 bM : w.heap[gM]? = some (.cells #[.int .i64 more] 3 (0, 0))
 rO : Kd.R k45 45 w w0.heap.size (fun _ => True) vo out
 rT : Kd.R (Kd.int .i64) 3 w w0.heap.size (fun k => k ≠ gA ∧ k ≠ gM) vt tl
 bel : Below w0.heap.size w0 w
 gA0 : w0.heap.size ≤ gA
 gO0 : w0.heap.size ≤ gO
 gT0 : w0.heap.size ≤ gT
 gM0 : w0.heap.size ≤ gM
 ne : gA ≠ gM
set_option maxHeartbeats 8000000 in
set_option maxRecDepth 100000 in
theorem keep_no (w0 w : World) (gA gO gT gM : Nat) (at_ more : Int) (vo vt : Value) (out : List S45) (tl : List Int) (end_ : Int) (h : KSt w0 w gA gO gT gM at_ more vo vt out tl) (hle : ¬ at_ < end_) :
  Calls Try.prog 27 #[.int .i64 end_, .pointer (some ⟨gA, 0, none⟩), .pointer (some ⟨gO, 0, none⟩), .pointer (some ⟨gT, 0, none⟩), .pointer (some ⟨gM, 0, none⟩)] w fun e w' => e = .returned (.tuple #[]) ∧ w' = w := by
 have hc0 : w.cell? ⟨gA, 0, none⟩ = some (.int .i64 at_) := (blk_cell h.bA 0).trans rfl
 go_enter Try.func27, Try.ntmps27
 go_wp2
 go_end0
 exact ⟨rfl, rfl⟩
def KeepX (w w' : World) : Prop := ∀ (g : Nat) (cs : Array Value), w.heap[g]? = some (Obj.cells cs 47 (0, 0)) → w'.heap[g]? = some (Obj.cells cs 47 (0, 0))
theorem KSt.push_out {w0 w w1 : World} {gA gO gT gM : Nat} {at_ more : Int} {vo vt v1 : Value} {out : List S45} {tl : List Int} {x : S45} (h : KSt w0 w gA gO gT gM at_ more vo vt out tl)
  (ho : Kd.R k45 45 w1 w0.heap.size (fun _ => True) v1 (out ++ [x])) (hb : Below w0.heap.size w0 w1) (hg : w.grownBy w1 vo.ownBlock) :
  (w1.heap[gO]? = some (.cells #[vo] 25 (0, 0))) ∧ KSt w0 (w1.setCell ⟨gO, 0, none⟩ v1) gA gO gT gM at_ more v1 vt (out ++ [x]) tl ∧ KeepX w (w1.setCell ⟨gO, 0, none⟩ v1) := by
 have nA : some gA ≠ vo.ownBlock := Kd.R_ne h.rO h.bA (by decide)
 have nO : some gO ≠ vo.ownBlock := Kd.R_ne h.rO h.bO (by decide)
 have nT : some gT ≠ vo.ownBlock := Kd.R_ne h.rO h.bT (by decide)
 have nM : some gM ≠ vo.ownBlock := Kd.R_ne h.rO h.bM (by decide)
 have bO1 := blk_grown h.bO hg nO
 have bA1 := blk_grown h.bA hg nA
 have bT1 := blk_grown h.bT hg nT
 have bM1 := blk_grown h.bM hg nM
 refine ⟨bO1, ⟨?_, ?_, ?_, ?_, ?_, ?_, ?_, h.gA0, h.gO0, h.gT0, h.gM0, h.ne⟩, fun g cs hg0 => ?_⟩
 ·exact blk_far bA1 (blk_ne bA1 bO1 (by decide)) _
 ·exact blk_put bO1 0 _ rfl
 ·exact blk_far bT1 (blk_ne bT1 bO1 (by decide)) _
 ·exact blk_far bM1 (blk_ne bM1 bO1 (by decide)) _
 ·exact Kd.R_set ho bO1 (by decide) 0 _
 ·exact Kd.R_set (Kd.R_over' h.rT (Kd.R_typed h.rO) (by decide) hg) bO1 (by decide) 0 _
 ·exact hb.setCell h.gO0 _
 ·have h1 := blk_grown hg0 hg (Kd.R_ne h.rO hg0 (by decide))
  exact blk_far h1 (blk_ne h1 bO1 (by decide)) _
theorem KSt.push_to {w0 w w1 : World} {gA gO gT gM : Nat} {at_ more : Int} {vo vt v1 : Value} {out : List S45} {tl : List Int} {x : Int} (h : KSt w0 w gA gO gT gM at_ more vo vt out tl)
  (ho : Kd.R (Kd.int .i64) 3 w1 w0.heap.size (fun k => k ≠ gA ∧ k ≠ gM) v1 (tl ++ [x])) (hb : Below w0.heap.size w0 w1) (hg : w.grownBy w1 vt.ownBlock) :
  (w1.heap[gT]? = some (.cells #[vt] 26 (0, 0))) ∧ KSt w0 (w1.setCell ⟨gT, 0, none⟩ v1) gA gO gT gM at_ more vo v1 out (tl ++ [x]) ∧ KeepX w (w1.setCell ⟨gT, 0, none⟩ v1) := by
 have nA : some gA ≠ vt.ownBlock := fun e => (h.rT.1 gA e.symm).1 rfl
 have nO : some gO ≠ vt.ownBlock := Kd.R_ne h.rT h.bO (by decide)
 have nT : some gT ≠ vt.ownBlock := Kd.R_ne h.rT h.bT (by decide)
 have nM : some gM ≠ vt.ownBlock := fun e => (h.rT.1 gM e.symm).2 rfl
 have bO1 := blk_grown h.bO hg nO
 have bA1 := blk_grown h.bA hg nA
 have bT1 := blk_grown h.bT hg nT
 have bM1 := blk_grown h.bM hg nM
 refine ⟨bT1, ⟨?_, ?_, ?_, ?_, ?_, ?_, ?_, h.gA0, h.gO0, h.gT0, h.gM0, h.ne⟩, fun g cs hg0 => ?_⟩
 ·exact blk_far bA1 (blk_ne bA1 bT1 (by decide)) _
 ·exact blk_far bO1 (blk_ne bO1 bT1 (by decide)) _
 ·exact blk_put bT1 0 _ rfl
 ·exact blk_far bM1 (blk_ne bM1 bT1 (by decide)) _
 ·exact Kd.R_set (Kd.R_over' h.rO (Kd.R_typed h.rT) (by decide) hg) bT1 (by decide) 0 _
 ·exact Kd.R_set ho bT1 (by decide) 0 _
 ·exact hb.setCell h.gT0 _
 ·have h1 := blk_grown hg0 hg (Kd.R_ne h.rT hg0 (by decide))
  exact blk_far h1 (blk_ne h1 bT1 (by decide)) _
theorem R_sl {α : Type} {d : Kd α} {e : Nat} {w : World} {base : Nat} {ok : Nat → Prop} {v : Value} {xs : List α} (h : d.R e w base ok v xs) : ∃ A n c, v = .slice A n c := by
 obtain ⟨A, c, h⟩ := Kd.R_slice h
 exact ⟨A, _, c, h⟩
set_option maxHeartbeats 8000000 in
set_option maxRecDepth 100000 in
theorem keep_yes (w0 w : World) (gA gO gT gM : Nat) (at_ more : Int) (vo vt : Value) (out : List S45) (tl : List Int) (end_ : Int) (h : KSt w0 w gA gO gT gM at_ more vo vt out tl) (hlt : at_ < end_) (hlo : out.length < 4398046511104) (hlt2 : tl.length < 4398046511104) :
  Calls Try.prog 27 #[.int .i64 end_, .pointer (some ⟨gA, 0, none⟩), .pointer (some ⟨gO, 0, none⟩), .pointer (some ⟨gT, 0, none⟩), .pointer (some ⟨gM, 0, none⟩)] w fun e w' => e = .returned (.tuple #[]) ∧ ∃ vo' vt', KSt w0 w' gA gO gT gM at_ more vo' vt' (out ++ [⟨at_, end_⟩]) (tl ++ [wrap64 (at_ + more)]) ∧ KeepX w w' := by
 have hc0 : w.cell? ⟨gA, 0, none⟩ = some (.int .i64 at_) := (blk_cell h.bA 0).trans rfl
 have hc1 : w.cell? ⟨gO, 0, none⟩ = some vo := (blk_cell h.bO 0).trans rfl
 have H := Aside0.mk h
 clear h
 have hu45 := Try.underlying45
 go_enter Try.func27, Try.ntmps27
 go_upto_region 2 with (first | ((with_reducible refine gate_builtin (b := .append) (xs := #[.tmp 9, .tmp 13]) rfl ?_); at_builtin; refine Kd.R_append k45 (w0 := w0) w0.heap.size rfl (.tmp 9) (.tmp 13) 25 45 (.agg #[(.int .i64 0), (.int .i64 0)]) 16 rfl Try.underlying25 info45 rfl (by decide) (by omega) vo out (⟨at_, end_⟩ : S45) [.int .i64 at_, .int .i64 end_] (fun _ => True) (fun _ => False) rfl rfl ?aP (fun _ hk => hk.elim) ?aF ?aO ?aB ?aS ?aL ?_; (case aP => exact k45_mkM _ _ _ (⟨at_, end_⟩ : S45)); (case aB => exact H.out.bel); (case aF => exact fun _ _ => trivial); (case aO => exact H.out.rO); (case aS => exact H.out.bel.size); (case aL => omega); intro v1 w1 ho hb hg hat; obtain ⟨A1, n1, c1, rfl⟩ := R_sl ho; have hp := Aside0.mk (KSt.push_out H.out ho hb hg); clear H hc0 hc1 ho hb hg hat; have hc1 : w1.cell? ⟨gO, 0, none⟩ = some vo := (blk_cell hp.out.1 0).trans rfl; have hf1 := blk_frozen hp.out.1 0; have hc2 : (w1.setCell ⟨gO, 0, none⟩ (.slice A1 n1 c1)).cell? ⟨gA, 0, none⟩ = some (.int .i64 at_) := (blk_cell hp.out.2.1.bA 0).trans rfl; have hc3 : (w1.setCell ⟨gO, 0, none⟩ (.slice A1 n1 c1)).cell? ⟨gT, 0, none⟩ = some vt := (blk_cell hp.out.2.1.bT 0).trans rfl; have hc4 : (w1.setCell ⟨gO, 0, none⟩ (.slice A1 n1 c1)).cell? ⟨gM, 0, none⟩ = some (.int .i64 more) := (blk_cell hp.out.2.1.bM 0).trans rfl))
 have hp2 := Aside0.mk hp.out.2.1
 have hx1 := Aside0.mk hp.out.2.2
 clear hp hc1 hf1
 generalize (w1.setCell ⟨gO, 0, none⟩ (.slice A1 n1 c1)) = w3 at hp2 hx1 hc2 hc3 hc4 ⊢
 have hp := hp2
 clear hp2
 go_wp2_with (first | ((with_reducible refine gate_builtin (b := .append) (xs := #[.tmp 15, .tmp 19]) rfl ?_); at_builtin; refine Kd.R_append (Kd.int .i64) (w0 := w0) w0.heap.size rfl (.tmp 15) (.tmp 19) 26 3 (.int .i64 0) 8 rfl Try.underlying26 info3 rfl (by decide) (by omega) vt tl (wrap64 (at_ + more)) [.int .i64 (wrap64 (at_ + more))] (fun k => k ≠ gA ∧ k ≠ gM) (fun _ => False) rfl rfl ?bP (fun _ hk => hk.elim) ?bF ?bO ?bB ?bS ?bL ?_; (case bP => rfl); (case bB => exact hp.out.bel); (case bF => exact fun k hk => ⟨Nat.ne_of_gt (Nat.lt_of_lt_of_le (blk_lt hp.out.bA) hk), Nat.ne_of_gt (Nat.lt_of_lt_of_le (blk_lt hp.out.bM) hk)⟩); (case bO => exact hp.out.rT); (case bS => exact hp.out.bel.size); (case bL => omega); intro v2 w2 ho hb hg hat; obtain ⟨A2, n2, c2, rfl⟩ := R_sl ho; have hq := Aside0.mk (KSt.push_to hp.out ho hb hg); clear hp hc2 hc3 hc4 ho hb hg hat; have hc1 : w2.cell? ⟨gT, 0, none⟩ = some vt := (blk_cell hq.out.1 0).trans rfl; have hf1 := blk_frozen hq.out.1 0))
 go_end0
 exact ⟨rfl, _, _, hq.out.2.1, fun g cs h => hq.out.2.2 g cs (hx1.out g cs h)⟩
theorem keepO_len (out : List S45) (a b : Int) : (keepO out a b).length ≤ out.length + 1 := by
 unfold keepO; split <;> simp
theorem keepT_len (tl : List Int) (a m b : Int) : (keepT tl a m b).length ≤ tl.length + 1 := by
 unfold keepT; split <;> simp
theorem keep_any (w0 w : World) (gA gO gT gM : Nat) (at_ more : Int) (vo vt : Value) (out : List S45) (tl : List Int) (end_ : Int) (h : KSt w0 w gA gO gT gM at_ more vo vt out tl) (hlo : out.length < 4398046511104) (hlt2 : tl.length < 4398046511104) :
  Calls Try.prog 27 #[.int .i64 end_, .pointer (some ⟨gA, 0, none⟩), .pointer (some ⟨gO, 0, none⟩), .pointer (some ⟨gT, 0, none⟩), .pointer (some ⟨gM, 0, none⟩)] w fun e w' => e = .returned (.tuple #[]) ∧ ∃ vo' vt', KSt w0 w' gA gO gT gM at_ more vo' vt' (keepO out at_ end_) (keepT tl at_ more end_) ∧ KeepX w w' := by
 by_cases c : at_ < end_
 ·unfold keepO keepT
  rw [if_pos c, if_pos c]
  exact keep_yes w0 w gA gO gT gM at_ more vo vt out tl end_ h c hlo hlt2
 ·unfold keepO keepT
  rw [if_neg c, if_neg c]
  refine (keep_no w0 w gA gO gT gM at_ more vo vt out tl end_ h c).mono ?_
  rintro e w' ⟨he, rfl⟩
  exact ⟨he, _, _, h, fun g cs hg => hg⟩
theorem KSt.of_below {w0 w w1 : World} {gA gO gT gM : Nat} {at_ more : Int} {vo vt : Value} {out : List S45} {tl : List Int} (h : KSt w0 w gA gO gT gM at_ more vo vt out tl) (hb : Below w.heap.size w w1) : KSt w0 w1 gA gO gT gM at_ more vo vt out tl :=
 ⟨blk_below h.bA hb, blk_below h.bO hb, blk_below h.bT hb, blk_below h.bM hb, Kd.R_below h.rO hb, Kd.R_below h.rT hb, below_then h.bel h.bel.size hb, h.gA0, h.gO0, h.gT0, h.gM0, h.ne⟩
theorem KSt.setA {w0 w : World} {gA gO gT gM : Nat} {at_ more : Int} {vo vt : Value} {out : List S45} {tl : List Int} (h : KSt w0 w gA gO gT gM at_ more vo vt out tl) (x : Int) : KSt w0 (w.setCell ⟨gA, 0, none⟩ (.int .i64 x)) gA gO gT gM x more vo vt out tl :=
 ⟨blk_put h.bA 0 _ rfl, blk_far h.bO (blk_ne h.bO h.bA (by decide)) _, blk_far h.bT (blk_ne h.bT h.bA (by decide)) _, blk_far h.bM (fun e => h.ne e.symm) _, Kd.R_set h.rO h.bA (by decide) 0 _, Kd.R_far h.rT (fun k hk => hk.1) _, h.bel.setCell h.gA0 _, h.gA0, h.gO0, h.gT0, h.gM0, h.ne⟩
theorem KSt.setM {w0 w : World} {gA gO gT gM : Nat} {at_ more : Int} {vo vt : Value} {out : List S45} {tl : List Int} (h : KSt w0 w gA gO gT gM at_ more vo vt out tl) (x : Int) : KSt w0 (w.setCell ⟨gM, 0, none⟩ (.int .i64 x)) gA gO gT gM at_ x vo vt out tl :=
 ⟨blk_far h.bA h.ne _, blk_far h.bO (blk_ne h.bO h.bM (by decide)) _, blk_far h.bT (blk_ne h.bT h.bM (by decide)) _, blk_put h.bM 0 _ rfl, Kd.R_set h.rO h.bM (by decide) 0 _, Kd.R_far h.rT (fun k hk => hk.2) _, h.bel.setCell h.gM0 _, h.gA0, h.gO0, h.gT0, h.gM0, h.ne⟩
theorem drop_rd_E (l : List S47) (x : Int) (h0 : 0 ≤ x) (h : x < l.length) : l.drop x.toNat = rd_T47 l x :: l.drop (x + 1).toNat := by
 have hx : x.toNat < l.length := by omega
 rw [List.drop_eq_getElem_cons hx, show (x + 1).toNat = x.toNat + 1 by omega]
 unfold rd_T47
 rw [List.getD_eq_getElem?_getD, List.getElem?_eq_getElem hx]
 rfl
theorem KSt_start (w w1 : World) (hb : Below w.heap.size w w1) : KSt w ((((w1.alloc (.cells #[.slice none 0 0] 25)).alloc (.cells #[.slice none 0 0] 26)).alloc (.cells #[.int .i64 0] 3)).alloc (.cells #[.int .i64 0] 3)) (w1.heap.size + 1 + 1) w1.heap.size (w1.heap.size + 1) (w1.heap.size + 1 + 1 + 1) 0 0 (.slice none 0 0) (.slice none 0 0) [] [] := by
 have hz := hb.size
 refine ⟨?_, ?_, ?_, ?_, Kd.R_nil _ _ _ _ _, Kd.R_nil _ _ _ _ _, below_alloc (below_alloc (below_alloc (below_alloc hb _) _) _) _, by omega, by omega, by omega, by omega, by omega⟩
 ·refine blk_alloc ?_ _
  have := blk_new ((w1.alloc (.cells #[.slice none 0 0] 25)).alloc (.cells #[.slice none 0 0] 26)) (.cells #[.int .i64 0] 3)
  simpa using this
 ·exact blk_alloc (blk_alloc (blk_alloc (blk_new w1 _) _) _) _
 ·refine blk_alloc (blk_alloc ?_ _) _
  have := blk_new (w1.alloc (.cells #[.slice none 0 0] 25)) (.cells #[.slice none 0 0] 26)
  simpa using this
 ·have := blk_new (((w1.alloc (.cells #[.slice none 0 0] 25)).alloc (.cells #[.slice none 0 0] 26)).alloc (.cells #[.int .i64 0] 3)) (.cells #[.int .i64 0] 3)
  simpa using this
set_option maxHeartbeats 8000000 in
set_option maxRecDepth 100000 in
theorem edit_Kept.calls (k : Nat) (a0 : Int) (A1 : Option Addr) (c1 : Nat) (l1 : List S47) (r1 : List S45) (r2 : List Int) (r3 : Int) (w : World) (hr1 : Kd.C k47 w A1 l1.length l1) (hc1 : l1.length ≤ c1) (h : edit_Kept.f k a0 l1 = some (r1, r2, r3)) :
  Calls Try.prog 11 #[.int .i64 a0, .slice A1 l1.length c1] w fun e w' => ∃ v0_ v1_ : Value, e = .returned (.tuple #[v0_, v1_, .int .i64 r3]) ∧ Kd.R k45 45 w' w.heap.size (fun _ => True) v0_ r1 ∧ Kd.R (Kd.int .i64) 3 w' w.heap.size (fun _ => True) v1_ r2 ∧ Below w.heap.size w w' := by
 unfold edit_Kept.f at h
 replace h := Option.bind_eq_some_iff.mp h
 obtain ⟨t, hA, h⟩ := h
 have HA := Aside0.mk hA
 have HR := Aside0.mk hr1
 have HC := Aside0.mk hc1
 have hm : l1.length ≤ 9223372036854775807 := hr1.2.1
 clear hA hr1 hc1
 by_cases c : t = 0
 ·rw [if_pos c] at h
  by_cases c2 : l1.length < 4398046511103
  ·rw [if_pos c2] at h
   have HF := Aside0.mk (Option.some.inj h)
   clear h
   subst c
   have hu := Try.underlying47
   go_enter Try.func11, Try.ntmps11
   go_wp2_with fail
   refine (edit_Check.calls k a0 _ _ l1 0 _ HR.out HC.out HA.out).mono ?_
   rintro e w1 ⟨rfl, hb⟩
   go_wp2_with fail
   have HK := KSt_start w w1 hb
   clear hb
   generalize w1.heap.size + 1 + 1 + 1 = gM at HK ⊢
   generalize w1.heap.size + 1 + 1 = gA at HK ⊢
   generalize w1.heap.size + 1 = gT at HK ⊢
   generalize w1.heap.size = gO at HK ⊢
   generalize ((((w1.alloc (.cells #[.slice none 0 0] 25)).alloc (.cells #[.slice none 0 0] 26)).alloc (.cells #[.int .i64 0] 3)).alloc (.cells #[.int .i64 0] 3)) = wL at HK ⊢
   have HK0 := Aside0.mk HK
   clear HK
   go_loopw [24] (fun i wr => ∃ (x at_ more : Int) (vo vt : Value) (out : List S45) (tl : List Int), i = .int .i64 x ∧ 0 ≤ x ∧ x ≤ l1.length ∧ Aside0 (keptGo (l1.drop x.toNat) at_ more out tl = keptGo l1 0 0 [] []) ∧ Aside0 (out.length ≤ x) ∧ Aside0 (tl.length ≤ x) ∧ Aside0 (KSt w wr gA gO gT gM at_ more vo vt out tl)) (fun i _ => l1.length - (intOf i).toNat)
   case atStart => exact ⟨0, 0, 0, _, _, [], [], rfl, by omega, by omega, ⟨rfl⟩, ⟨by simp⟩, ⟨by simp⟩, HK0⟩
   case round =>
    obtain ⟨x, at_, more, vo, vt, out, tl, rfl, hx0, hx1, HG, HL1, HL2, HK⟩ := hrel
    clear HK0
    by_cases hlt : x < l1.length
    ·obtain ⟨ad, e, hy0, hy1, hy2⟩ := at_T47 HR.out x hx0 hlt
     cases e
     replace hy0 := (HK.out.bel.cell (World.block_lt_of_cell? w _ hy0)).trans hy0
     replace hy1 := (HK.out.bel.cell (World.block_lt_of_cell? w _ hy1)).trans hy1
     replace hy2 := (HK.out.bel.cell (World.block_lt_of_cell? w _ hy2)).trans hy2
     have p1 := eq_true hx0
     have q1 := eq_true hlt
     go_wp2_with fail
     have HX := Aside0.mk (blk_new wr (.cells #[.int .i64 (rd_T47 l1 x).f0, .int .i64 (rd_T47 l1 x).f1, .string (rd_T47 l1 x).f2] 47))
     have HK2 := Aside0.mk (KSt.of_below HK.out (below_alloc (Below.refl _ _) (.cells #[.int .i64 (rd_T47 l1 x).f0, .int .i64 (rd_T47 l1 x).f1, .string (rd_T47 l1 x).f2] 47)))
     clear HK hy0 hy1 hy2
     generalize (wr.alloc (.cells #[.int .i64 (rd_T47 l1 x).f0, .int .i64 (rd_T47 l1 x).f1, .string (rd_T47 l1 x).f2] 47)) = w2 at HX HK2 ⊢
     generalize wr.heap.size = gX at HX ⊢
     refine (keep_any w w2 gA gO gT gM at_ more vo vt out tl (rd_T47 l1 x).f0 HK2.out (by have := HL1.out; omega) (by have := HL2.out; omega)).mono ?_
     rintro e w3 ⟨rfl, vo2, vt2, hk3, hx3⟩
     have HX3 := Aside0.mk (hx3 _ _ HX.out)
     have HK3 := Aside0.mk hk3
     clear HK2 HX hk3 hx3
     have hz0 : w3.cell? ⟨gX, 0, none⟩ = some (.int .i64 (rd_T47 l1 x).f0) := (blk_cell HX3.out 0).trans rfl
     have hz1 : w3.cell? ⟨gX, 1, none⟩ = some (.int .i64 (rd_T47 l1 x).f1) := (blk_cell HX3.out 1).trans rfl
     have ha : w3.cell? ⟨gA, 0, none⟩ = some (.int .i64 at_) := (blk_cell HK3.out.bA 0).trans rfl
     have hfa := blk_frozen HK3.out.bA 0
     go_upto_region 13 with (fail)
     have HK4 := Aside0.mk (KSt.setA HK3.out (rd_T47 l1 x).f1)
     have HX4 := Aside0.mk (blk_far (p := ⟨gA, 0, none⟩) HX3.out (blk_ne HX3.out HK3.out.bA (by decide)) (.int .i64 (rd_T47 l1 x).f1))
     clear HK3 HX3 hz0 hz1 ha hfa
     generalize (w3.setCell ⟨gA, 0, none⟩ (.int .i64 (rd_T47 l1 x).f1)) = w4 at HK4 HX4 ⊢
     have hz0 : w4.cell? ⟨gX, 0, none⟩ = some (.int .i64 (rd_T47 l1 x).f0) := (blk_cell HX4.out 0).trans rfl
     have hz1 : w4.cell? ⟨gX, 1, none⟩ = some (.int .i64 (rd_T47 l1 x).f1) := (blk_cell HX4.out 1).trans rfl
     have hz2 : w4.cell? ⟨gX, 2, none⟩ = some (.string (rd_T47 l1 x).f2) := (blk_cell HX4.out 2).trans rfl
     have ha : w4.cell? ⟨gM, 0, none⟩ = some (.int .i64 more) := (blk_cell HK4.out.bM 0).trans rfl
     have hfa := blk_frozen HK4.out.bM 0
     go_wp2_with fail
     go_roundw
     case rel =>
      refine ⟨x + 1, (rd_T47 l1 x).f1, wrap64 (more + wrap64 (((rd_T47 l1 x).f2.size : Int) - wrap64 ((rd_T47 l1 x).f1 - (rd_T47 l1 x).f0))), vo2, vt2, keepO out at_ (rd_T47 l1 x).f0, keepT tl at_ more (rd_T47 l1 x).f0, rfl, by omega, by omega, ⟨?_⟩, ⟨?_⟩, ⟨?_⟩, ⟨?_⟩⟩
      ·have hg := HG.out
       rw [drop_rd_E l1 x hx0 hlt] at hg
       exact hg
      ·have := keepO_len out at_ (rd_T47 l1 x).f0
       have := HL1.out
       omega
      ·have := keepT_len tl at_ more (rd_T47 l1 x).f0
       have := HL2.out
       omega
      ·exact KSt.setM HK4.out _
     case measure => simp [intOf]; omega
    ·have hxe : x = l1.length := by omega
     subst hxe
     go_wp2_with fail
     refine (keep_any w wr gA gO gT gM at_ more vo vt out tl a0 HK.out (by have := HL1.out; omega) (by have := HL2.out; omega)).mono ?_
     rintro e w3 ⟨rfl, vo2, vt2, hk3, hx3⟩
     have HK3 := Aside0.mk hk3
     clear HK hk3 hx3
     obtain ⟨A2, n2, c2, rfl⟩ := R_sl HK3.out.rO
     obtain ⟨A3, n3, c3, rfl⟩ := R_sl HK3.out.rT
     have ho : w3.cell? ⟨gO, 0, none⟩ = some (.slice A2 n2 c2) := (blk_cell HK3.out.bO 0).trans rfl
     have ht : w3.cell? ⟨gT, 0, none⟩ = some (.slice A3 n3 c3) := (blk_cell HK3.out.bT 0).trans rfl
     go_wp2_with fail
     go_quiet (fail)
     go_wp2
     go_ret3
     have hg := HG.out
     rw [show ((l1.length : Int)).toNat = l1.length by omega, List.drop_length] at hg
     have hf := HF.out
     unfold keptAll at hf
     rw [← hg] at hf
     obtain ⟨e1, hf⟩ := Prod.mk.inj hf
     obtain ⟨e2, e3⟩ := Prod.mk.inj hf
     subst e1 e2 e3
     exact ⟨_, _, rfl, HK3.out.rO, Kd.R_mono HK3.out.rT (fun _ _ => trivial), pw_below_drewN HK3.out.bel _⟩
  ·rw [if_neg c2] at h
   cases h
 ·rw [if_neg c] at h
  have HF := Aside0.mk (Option.some.inj h)
  clear h
  have c4b0 : (t == 0) = false := beq_eq_false_iff_ne.mpr c
  have c4b1 : (t != 0) = true := bne_iff_ne.mpr c
  clear c
  go_enter Try.func11, Try.ntmps11
  go_wp2_with (go_at_call 22; (with_reducible refine (edit_Check.calls k a0 _ _ l1 t _ HR.out HC.out HA.out).mono ?_); rintro e w1 ⟨rfl, hb⟩)
  obtain ⟨rfl, hq⟩ := Prod.mk.inj HF.out
  obtain ⟨rfl, rfl⟩ := Prod.mk.inj hq
  go_ret3
  exact ⟨_, _, rfl, Kd.R_nil _ _ _ _ _, Kd.R_nil _ _ _ _ _, hb⟩
end Go.Proofs.Ytmgeheomokjimaa.PSo
