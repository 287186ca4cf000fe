-- Written by ownprint.py, a program of this session (out of the kit's print, with contracts of the session's own).
import Derived.Test.YtclcnglamlegiaaWMore
import Derived.Test.YtclcnglamlegiaaPMDx0
import Derived.Test.YtclcnglamlegiaaPMDx7
import Derived.Test.YtclcnglamlegiaaPMDx8
namespace Go.Proofs.Ytclcnglamlegiaa.PMD
open Go.RowKit Go.Proofs.YtclcnglamlegiaaW.PrintWords Go.Proofs.YtclcnglamlegiaaW.PrintLast Go.Proofs.YtclcnglamlegiaaW.PrintMore
attribute [local go_sem] max2_int min2_int max_two min_two max_three min_three max_four min_four   -- for this text's walks alone
set_option linter.unusedVariables false
set_option linter.unusedSimpArgs false
/-! ### edit_Apply: function 40 -/
def applyGo (s : ByteArray) : List S58 → Int → List UInt8 → Option (Int × List UInt8)
 | [], at_, acc => some (at_, acc)
 | x :: r, at_, acc => if 0 ≤ at_ ∧ at_ ≤ x.f0 ∧ x.f0 ≤ s.size ∧ acc.length + s.size + x.f2.size ≤ 140737488355328 then applyGo s r x.f1 (acc ++ (s.extract at_.toNat x.f0.toNat).data.toList ++ x.f2.data.toList) else none
def applyAll (s : ByteArray) (l : List S58) : Option (ByteArray × Int) :=
 (applyGo s l 0 []).bind fun t => if 0 ≤ t.1 ∧ t.1 ≤ s.size ∧ t.2.length + s.size ≤ 140737488355328 then some (⟨(t.2 ++ (s.extract t.1.toNat s.size).data.toList).toArray⟩, 0) else none
def edit_Apply.f (k : Nat) (a0 : ByteArray) (l1 : List S58) : Option (ByteArray × Int) :=
 (edit_Check.f k (a0.size : Int) l1).bind fun e => if e = 0 then applyAll a0 l1 else some (⟨#[]⟩, e)
theorem edit_Apply.mono : ∀ a0 a1 k, LeO (edit_Apply.f k a0 a1) (edit_Apply.f (k + 1) a0 a1) := by
 intro a0 a1 k
 unfold edit_Apply.f
 exact LeO.bind (edit_Check.mono _ _ _) (fun _ => LeO.refl _)
theorem drop_rd_E2 (l : List S58) (x : Int) (h0 : 0 ≤ x) (h : x < l.length) : l.drop x.toNat = rd_T58 l x :: l.drop (x + 1).toNat := by
 have hx : x.toNat < l.length := by omega
 rw [List.drop_eq_getElem_cons hx, show (x + 1).toNat = x.toNat + 1 by omega]
 unfold rd_T58
 rw [List.getD_eq_getElem?_getD, List.getElem?_eq_getElem hx]
 rfl
theorem ext_len (s : ByteArray) (a b : Nat) : (s.extract a b).data.toList.length = min b s.size - a := by
 have h : (s.extract a b).size = min b s.size - a := ByteArray.size_extract
 rw [← h, Array.length_toList]
 rfl
theorem IsBuilder_below {T e B b : Nat} {bs : List Value} {w w1 : World} (h : Lib.IsBuilder T e B b bs w) (hb : Below w.heap.size w w1) : Lib.IsBuilder T e B b bs w1 := by
 rcases h with ⟨h1, v, h2, h3, h4⟩ | ⟨h1, v, h2, h3, h4⟩
 ·exact .inl ⟨h1, v, blk_below h2 hb, pw_own_below h3 hb, h4⟩
 ·exact .inr ⟨h1, v, blk_below h2 hb, pw_own_below h3 hb, h4⟩
theorem bld_step {B b : Nat} {acc : List UInt8} {s : ByteArray} {w : World} (h : Lib.BuilderAt 85 5 B b (.pointer (some ⟨b, 0, none⟩)) (Lib.byteCells acc ++ Lib.strCells s) w) : Lib.IsBuilder 85 5 B b (Lib.byteCells (acc ++ s.data.toList)) w := by
 rw [Lib.strCells_eq, ← Lib.byteCells_append] at h
 exact Or.inr h
set_option maxHeartbeats 8000000 in
set_option maxRecDepth 100000 in
theorem edit_Apply.calls (k : Nat) (a0 : ByteArray) (A1 : Option Addr) (c1 : Nat) (l1 : List S58) (r1 : ByteArray) (r2 : Int) (w : World) (hr1 : Kd.C k58 w A1 l1.length l1) (hc1 : l1.length ≤ c1) (h : edit_Apply.f k a0 l1 = some (r1, r2)) :
  Calls Try.prog 40 #[.string a0, .slice A1 l1.length c1] w fun e w' => e = .returned (.tuple #[.string r1, .int .i64 r2]) ∧ Below w.heap.size w w' := by
 unfold edit_Apply.f at h
 replace h := ob_ h
 obtain ⟨t, hA, h⟩ := h
 have HA := a0_ hA
 have HR := a0_ hr1
 have HC := a0_ hc1
 have hm : l1.length ≤ 9223372036854775807 := hr1.2.1
 clear hA hr1 hc1
 by_cases c : t = 0
 ·rw [if_pos c] at h
  unfold applyAll at h
  replace h := ob_ h
  obtain ⟨⟨atF, accF⟩, hG, h⟩ := h
  by_cases c2 : 0 ≤ atF ∧ atF ≤ a0.size ∧ accF.length + a0.size ≤ 140737488355328
  ·rw [if_pos c2] at h
   have HF := a0_ (Option.some.inj h)
   have HG := a0_ hG
   have HC2 := a0_ c2
   clear h hG c2
   subst c
   have hu := Try.underlying58
   go_enter Try.func40, Try.ntmps40
   go_wp2_with fail
   refine (edit_Check.calls k (a0.size : Int) _ _ l1 0 _ HR.out HC.out HA.out).mono ?_
   rintro e w1 ⟨rfl, hb⟩
   go_wp2_with fail
   have HB0 := a0_ (bA_ hb (.cells #[.pointer none, .slice none 0 0] 85))
   have HBd := a0_ (show Lib.IsBuilder 85 5 w.heap.size w1.heap.size (Lib.byteCells []) (w1.alloc (.cells #[.pointer none, .slice none 0 0] 85)) from Or.inl ⟨hb.size, _, blk_new _ _, own_nil _ _ _ _, by simp [Value.ownBlock]⟩)
   clear hb
   generalize (w1.alloc (.cells #[.pointer none, .slice none 0 0] 85)) = wL at HB0 HBd ⊢
   generalize w1.heap.size = gB at HBd ⊢
   go_loopw [8, 20] (fun v i wr => ∃ (x at_ : Int) (acc : List UInt8), v = .int .i64 at_ ∧ i = .int .i64 x ∧ 0 ≤ x ∧ x ≤ l1.length ∧ Aside0 (applyGo a0 (l1.drop x.toNat) at_ acc = some (atF, accF)) ∧ Aside0 (Lib.IsBuilder 85 5 w.heap.size gB (Lib.byteCells acc) wr) ∧ Aside0 (Below w.heap.size w wr)) (fun _ i _ => l1.length - (intOf i).toNat)
   case atStart => exact ⟨0, 0, [], rfl, rfl, by omega, by omega, HG, HBd, HB0⟩
   case round =>
    obtain ⟨x, at_, acc, rfl, rfl, hx0, hx1, HG1, HBd1, HB1⟩ := hrel
    clear HB0 HBd
    by_cases hlt : x < l1.length
    ·obtain ⟨ad, e, hy0, hy1, hy2⟩ := at_T58 HR.out x hx0 hlt
     cases e
     replace hy0 := (HB1.out.cell (bl_ w _ hy0)).trans hy0
     replace hy1 := (HB1.out.cell (bl_ w _ hy1)).trans hy1
     replace hy2 := (HB1.out.cell (bl_ w _ hy2)).trans hy2
     have p1 := eq_true hx0
     have q1 := eq_true hlt
     have hg := HG1.out
     rw [drop_rd_E2 l1 x hx0 hlt] at hg
     unfold applyGo at hg
     by_cases c3 : 0 ≤ at_ ∧ at_ ≤ (rd_T58 l1 x).f0 ∧ (rd_T58 l1 x).f0 ≤ a0.size ∧ acc.length + a0.size + (rd_T58 l1 x).f2.size ≤ 140737488355328
     ·rw [if_pos c3] at hg
      have HG2 := a0_ hg
      clear hg HG1
      obtain ⟨c4, c5, c6, c7⟩ := c3
      have C7 := a0_ c7
      clear c7
      go_wp2_with fail
      have HX := a0_ (blk_new wr (.cells #[.int .i64 (rd_T58 l1 x).f0, .int .i64 (rd_T58 l1 x).f1, .string (rd_T58 l1 x).f2] 58))
      have HBd2 := a0_ (IsBuilder_below HBd1.out (bA_ (Below.refl _ _) (.cells #[.int .i64 (rd_T58 l1 x).f0, .int .i64 (rd_T58 l1 x).f1, .string (rd_T58 l1 x).f2] 58)))
      have HB2 := a0_ (bA_ HB1.out (.cells #[.int .i64 (rd_T58 l1 x).f0, .int .i64 (rd_T58 l1 x).f1, .string (rd_T58 l1 x).f2] 58))
      clear HBd1 HB1 hy0 hy1 hy2
      generalize (wr.alloc (.cells #[.int .i64 (rd_T58 l1 x).f0, .int .i64 (rd_T58 l1 x).f1, .string (rd_T58 l1 x).f2] 58)) = w2 at HX HBd2 HB2 ⊢
      generalize wr.heap.size = gX at HX ⊢
      refine (writeString_any w.heap.size gB (Lib.byteCells acc) _ w2 HBd2.out (by rw [Lib.byteCells_length, ByteArray.size_extract]; have := C7.out; omega) HB2.out.size).mono ?_
      rintro e w3 ⟨rfl, hbd3, hb3, hk3⟩
      have HX3 := a0_ (hk3 _ _ _ HX.out (by decide) (by decide))
      have HBd3 := a0_ (bld_step hbd3)
      have HB3 := a0_ (HB2.out.trans hb3)
      clear HX HBd2 HB2 hbd3 hb3 hk3
      have hz2 : w3.cell? ⟨gX, 2, none⟩ = some (.string (rd_T58 l1 x).f2) := (blk_cell HX3.out 2).trans rfl
      go_wp2_with fail
      clear hz2
      refine (writeString_any w.heap.size gB (Lib.byteCells (acc ++ (a0.extract at_.toNat (rd_T58 l1 x).f0.toNat).data.toList)) (rd_T58 l1 x).f2 w3 HBd3.out (by rw [Lib.byteCells_length, List.length_append, ext_len]; have := C7.out; omega) HB3.out.size).mono ?_
      rintro e w4 ⟨rfl, hbd4, hb4, hk4⟩
      have HX4 := a0_ (hk4 _ _ _ HX3.out (by decide) (by decide))
      have HBd4 := a0_ (bld_step hbd4)
      have HB4 := a0_ (HB3.out.trans hb4)
      clear HX3 HBd3 HB3 hbd4 hb4 hk4
      have hz1 : w4.cell? ⟨gX, 1, none⟩ = some (.int .i64 (rd_T58 l1 x).f1) := (blk_cell HX4.out 1).trans rfl
      go_wp2_with fail
      go_roundw
      case rel => exact ⟨x + 1, (rd_T58 l1 x).f1, acc ++ (a0.extract at_.toNat (rd_T58 l1 x).f0.toNat).data.toList ++ (rd_T58 l1 x).f2.data.toList, rfl, rfl, by omega, by omega, HG2, HBd4, HB4⟩
      case measure => simp [intOf]; omega
     ·rw [if_neg c3] at hg
      cases hg
    ·have hxe : x = l1.length := by omega
     subst hxe
     have hg := HG1.out
     rw [show ((l1.length : Int)).toNat = l1.length by omega, List.drop_length] at hg
     unfold applyGo at hg
     obtain ⟨rfl, rfl⟩ := Prod.mk.inj (Option.some.inj hg)
     obtain ⟨c4, c5, c6⟩ := HC2.out
     clear hg HG1 HG
     go_wp2_with fail
     refine (writeString_any w.heap.size gB (Lib.byteCells acc) _ wr HBd1.out (by rw [Lib.byteCells_length, ByteArray.size_extract]; omega) HB1.out.size).mono ?_
     rintro e w3 ⟨rfl, hbd3, hb3, hk3⟩
     have HBd3 := a0_ (bld_step hbd3)
     have HB3 := a0_ (HB1.out.trans hb3)
     clear HBd1 HB1 hbd3 hb3 hk3
     go_wp2_with fail
     refine (Try.Builder_String_any w.heap.size gB _ w3 HBd3.out HB3.out.size).mono ?_
     rintro e w4 ⟨rfl, hb4⟩
     obtain ⟨e1, e2⟩ := Prod.mk.inj HF.out
     clear HF
     rw [e1]
     clear e1
     go_wp2_with fail
     subst e2
     go_ret2
     exact ⟨rfl, HB3.out.trans hb4⟩
  ·rw [if_neg c2] at h
   cases h
 ·rw [if_neg c] at h
  have HF := a0_ (Option.some.inj h)
  clear h
  have c4b0 : (t == 0) = false := beq_eq_false_iff_ne.mpr c
  have c4b1 : (t != 0) = true := bne_iff_ne.mpr c
  clear c
  go_enter Try.func40, Try.ntmps40
  go_wp2_with fail
  refine (edit_Check.calls k (a0.size : Int) _ _ l1 t _ HR.out HC.out HA.out).mono ?_
  rintro e w1 ⟨rfl, hb⟩
  go_wp2_with fail
  obtain ⟨rfl, rfl⟩ := Prod.mk.inj HF.out
  go_ret2
  exact ⟨rfl, hb⟩
end Go.Proofs.Ytclcnglamlegiaa.PMD
