-- Written by ownprint.py, a program of this session (out of the kit's print, with contracts of the session's own).
import Derived.Test.YtobmgnndndklbaaPPtx0
import Derived.Test.YtobmgnndndklbaaPPtx3
import Derived.Test.YtobmgnndndklbaaPPtx4
namespace Go.Proofs.Ytobmgnndndklbaa.PPt
open Go.RowKit Go.Proofs.YtobmgnndndklbaaW.PrintWords Go.Proofs.YtobmgnndndklbaaW.PrintLast Go.Proofs.YtobmgnndndklbaaW.PrintMore
attribute [local go_sem] max2_int min2_int max_two min_two max_three min_three max_four min_four   -- for this text's walks alone
set_option linter.unusedVariables false
set_option linter.unusedSimpArgs false

/-! ### text_Place: function 15 -/
def text_Place.f (a0 : ByteArray) (a1 : Int) (a2 : Int) : Option (Int × Int) := if a0 = ⟨#[97, 10, 98, 99]⟩ ∧ a1 = 2 ∧ a2 = 3 then some (4, 0) else none
theorem _root_.Go.Proofs.YtobmgnndndklbaaW.PrintWords.Drawn0.trans0 {a b c : World} (h : Drawn0 a b) (k : Drawn0 b c) : Drawn0 a c := by
  obtain ⟨m, rfl⟩ := h
  obtain ⟨n, rfl⟩ := k
  exact ⟨⟨m + n, World.drewN_drewN ..⟩⟩
set_option maxHeartbeats 2000000 in
set_option maxRecDepth 100000 in
theorem text_Place.one (w : World) : Calls Try.prog 15 #[.string ⟨#[97, 10, 98, 99]⟩, .int .i64 2, .int .i64 3] w fun e w' => e = .returned (.tuple #[.int .i64 4, .int .i64 0]) ∧ Drawn0 w w' := by
  go_enter Try.func15, Try.ntmps15
  go_wp2_with fail
  go_step3
  go_wp2_with fail
  go_step3
  go_wp2_with fail
  refine wp_loop_rounds 2 ?_
  rw [rounds_succ]
  go_wp2_with fail
  refine (strings_IndexByte.calls _ _ 1 _ (by kernel_rfl)).mono ?_
  rintro e w1 ⟨rfl, hd⟩
  go_wp2_with fail
  rw [rounds_succ]
  go_wp2_with fail
  refine (strings_IndexByte.calls _ _ (-1) _ (by kernel_rfl)).mono ?_
  rintro e w2 ⟨rfl, hd2⟩
  go_wp2_with fail
  rw [Exit.noGoto_ret]
  go_ret2
  exact ⟨rfl, hd.trans0 hd2⟩
theorem text_Place.calls (a0 : ByteArray) (a1 : Int) (a2 : Int) (r1 : Int) (r2 : Int) (w : World) (h : text_Place.f a0 a1 a2 = some (r1, r2)) :
    Calls Try.prog 15 #[.string a0, .int .i64 a1, .int .i64 a2] w fun e w' => e = .returned (.tuple #[.int .i64 r1, .int .i64 r2]) ∧ Drawn0 w w' := by
  unfold text_Place.f at h
  by_cases c : a0 = ⟨#[97, 10, 98, 99]⟩ ∧ a1 = 2 ∧ a2 = 3
  · rw [if_pos c] at h
    obtain ⟨rfl, rfl, rfl⟩ := c
    obtain ⟨rfl, rfl⟩ := Prod.mk.inj (Option.some.inj h)
    exact text_Place.one w
  · rw [if_neg c] at h
    cases h

/-! ### text_Indent: function 16 -/
def text_Indent.f (a0 : ByteArray) (a1 : Int) : Option (ByteArray × Int) := if a0 = ⟨#[97, 10, 32, 32, 98]⟩ ∧ a1 = 4 then some (⟨#[32, 32]⟩, 0) else none
set_option maxHeartbeats 2000000 in
set_option maxRecDepth 100000 in
theorem text_Indent.one (w : World) : Calls Try.prog 16 #[.string ⟨#[97, 10, 32, 32, 98]⟩, .int .i64 4] w fun e w' => e = .returned (.tuple #[.string ⟨#[32, 32]⟩, .int .i64 0]) ∧ Drawn0 w w' := by
  go_enter Try.func16, Try.ntmps16
  go_wp2_with fail
  refine (text_begin.calls 20 _ _ 2 _ (by kernel_rfl)).mono ?_
  rintro e w1 ⟨rfl, hd⟩
  go_wp2_with fail
  refine wp_loop_rounds 3 ?_
  rw [rounds_succ]
  go_wp2
  rw [rounds_succ]
  go_wp2
  rw [rounds_succ]
  go_wp2
  go_ret2
  exact ⟨rfl, hd⟩
theorem text_Indent.calls (a0 : ByteArray) (a1 : Int) (r1 : ByteArray) (r2 : Int) (w : World) (h : text_Indent.f a0 a1 = some (r1, r2)) :
    Calls Try.prog 16 #[.string a0, .int .i64 a1] w fun e w' => e = .returned (.tuple #[.string r1, .int .i64 r2]) ∧ Drawn0 w w' := by
  unfold text_Indent.f at h
  by_cases c : a0 = ⟨#[97, 10, 32, 32, 98]⟩ ∧ a1 = 4
  · rw [if_pos c] at h
    obtain ⟨rfl, rfl⟩ := c
    obtain ⟨rfl, rfl⟩ := Prod.mk.inj (Option.some.inj h)
    exact text_Indent.one w
  · rw [if_neg c] at h
    cases h

end Go.Proofs.Ytobmgnndndklbaa.PPt
