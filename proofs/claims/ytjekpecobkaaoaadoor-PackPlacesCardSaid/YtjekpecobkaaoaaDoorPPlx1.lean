-- Written by ownprint.py, a program of this session (out of the kit's print, with contracts of the session's own).
import Derived.Test.YtjekpecobkaaoaaDoorPPlx0
namespace Go.Proofs.YtjekpecobkaaoaaDoor.PPl
open Go.RowKit Go.Proofs.YtjekpecobkaaoaaDoorW.PrintWords Go.Proofs.YtjekpecobkaaoaaDoorW.PrintLast Go.Proofs.YtjekpecobkaaoaaDoorW.PrintMore
attribute [local go_sem] max2_int min2_int max_two min_two max_three min_three max_four min_four   -- for this text's walks alone
set_option linter.unusedVariables false
set_option linter.unusedSimpArgs false

theorem eqA22 (d : Nat) (w : World) (x0 y0 : Int) (x1 y1 : Int) (x2 y2 : Int) :
    (Op.equalIn (d + 2) 22 (.agg #[.int .i64 x0, .int .i64 x1, .int .i64 x2]) (.agg #[.int .i64 y0, .int .i64 y1, .int .i64 y2])).run Tryd.prog w = .ok (x0 == y0 && (x1 == y1 && (x2 == y2))) w := by
  have h0 := run_equalIn_int (P := Tryd.prog) w d 3 .i64 .i64 x0 y0 Tryd.underlying3
  have h1 := run_equalIn_int (P := Tryd.prog) w d 3 .i64 .i64 x1 y1 Tryd.underlying3
  have h2 := run_equalIn_int (P := Tryd.prog) w d 3 .i64 .i64 x2 y2 Tryd.underlying3
  have hs : (sizeOf 3).run Tryd.prog w = .ok 1 w := by kernel_rfl
  have p0 : ∀ z0 z1 z2 : Int, (part 3 #[.int .i64 z0, .int .i64 z1, .int .i64 z2] 0).run Tryd.prog w = .ok (.int .i64 z0) w := fun _ _ _ => by kernel_rfl
  have p1 : ∀ z0 z1 z2 : Int, (part 3 #[.int .i64 z0, .int .i64 z1, .int .i64 z2] 1).run Tryd.prog w = .ok (.int .i64 z1) w := fun _ _ _ => by kernel_rfl
  have p2 : ∀ z0 z1 z2 : Int, (part 3 #[.int .i64 z0, .int .i64 z1, .int .i64 z2] 2).run Tryd.prog w = .ok (.int .i64 z2) w := fun _ _ _ => by kernel_rfl
  unfold Op.equalIn
  simp only [Sem.run_bind, run_underlying Tryd.underlying22, Result.andThen_ok, hs]
  rw [Std.Legacy.Range.forIn_eq_forIn_range', show List.range' ([:3] : Std.Legacy.Range).start ([:3] : Std.Legacy.Range).size ([:3] : Std.Legacy.Range).step = [0, 1, 2] from rfl]
  simp only [List.forIn_cons, List.forIn_nil, Sem.run_bind, Nat.zero_mul, Nat.mul_one, p0, p1, p2, Result.andThen_ok, h0, h1, h2, Sem.run_ite, Sem.run_pure]
  generalize (x0 == y0) = b0 at h0 ⊢
  generalize (x1 == y1) = b1 at h1 ⊢
  generalize (x2 == y2) = b2 at h2 ⊢
  cases b0 <;> cases b1 <;> cases b2 <;> simp [p1, p2, h1, h2]
end Go.Proofs.YtjekpecobkaaoaaDoor.PPl
