/- visible. Conditions: as the theorems say. -/
import Derived.Test.YtkdfbfhajojdeaaEnvD
namespace Go.Proofs.Ytkdfbfhajojdeaa.Env
open Go Go.RowKit Go.Proofs.YtkdfbfhajojdeaaW.PrintWords Go.Proofs.YtkdfbfhajojdeaaW.PrintLast Go.Proofs.YtkdfbfhajojdeaaW.PrintMore Go.Proofs.Ytkdfbfhajojdeaa.POP
set_option linter.unusedVariables false
set_option linter.unusedSimpArgs false
/-- The bindings to which keys are bound, the youngest first. -/
def visC (l : Ch) : Ch := selC decV [] l
set_option maxHeartbeats 8000000 in
set_option maxRecDepth 100000 in
theorem visible_ (l : Ch) (w : World) (hl : At w l) (hw : ∀ x ∈ l, wfK x.2.k) (hn : l.length ≤ 1599289640400) :
    Calls Try.prog 21 #[.pointer (ptr l)] w fun e w' => ∃ v : Value, e = .returned v ∧ Kd.R kp 33 w' w.heap.size (fun _ => True) v ((visC l).map (·.1)).reverse ∧ Below w.heap.size w w' := by
  have hmf : ∀ (fn : Fn) (first cap : Array Value) (w : World), (Instr.makeFunc fn first cap).run Try.prog w = .ok (.func fn first cap) w := fun _ _ _ _ => rfl
  have hmm := @run_makeMap Try.prog
  have HL := Aside0.mk hl
  have HN := Aside0.mk hn
  have HW := Aside0.mk hw
  have HM := Aside0.mk (Below.refl w.heap.size w)
  clear hl hn hw
  go_enter Try.func21, Try.ntmps21
  go_wp2_with (first | ((with_reducible refine gate_dst (N := 3) rfl ?_); refine box_event ?hg (N := 3) ?hd (cs := #[.map none]) (t := 49) ?hr ?_; (case hd => rfl); (case hg => rfl); (case hr => first | (go_simp; done) | (go_simp; rfl)); intro gs hg w1 hbox hb; have MP := Aside0.mk ((MapK.made Try.prog 28 kv w).below hb); have BK3 := Aside0.mk hbox; have GE3 := Aside0.mk ((by rw [hg]; exact (below_size (by repeat (first | (with_reducible first | exact HM.out | apply below_alloc | apply pw_below_drewN | apply below_drew1) | exact HM.out)))) : w.heap.size ≤ gs); have n0_ := Aside0.mk (below_step (by repeat (first | (with_reducible first | exact HM.out | apply below_alloc | apply pw_below_drewN | apply below_drew1) | exact HM.out)) hb); clear HM; have HM := n0_; clear n0_ hb hbox hg; have c3 : w1.cell? ⟨gs, 0, none⟩ = some (.map none) := (blk_cell BK3.out 0).trans rfl; have f3 := blk_frozen BK3.out 0) | ((with_reducible refine gate_callee (f := 25) rfl ?_); refine goesL_ (some 7) rfl rfl Try.func25 (by kernel_rfl) rfl #[.pointer (ptr l), .pointer none, .func (.func 27) #[] #[.pointer (some ⟨gs, 0, none⟩)]] rfl (by (try simp only [List.map_toArray, List.map_cons, List.map_nil]); first | done | rfl) ?_; have HV : Aside0 (VI gs w.heap.size [] (w1.setCell ⟨gs, 0, none⟩ (.map (some w.heap.size)))) := ⟨blk_put BK3.out 0 _ rfl, (MP.out.far (p := ⟨gs, 0, none⟩) (MP.out.ne BK3.out) _)⟩; have HB2 := Aside0.mk (below_set HM.out GE3.out (v := .map (some w.heap.size)) (j := 0)); refine (some27 gs l none w _ decV (VI gs w.heap.size) (At.below HL.out HB2.out) HB2.out HV.out HN.out ?ipb ?ib ?ig ?ist).mono ?_; (case ipb => exact fun a h => by cases h); (case ib => exact fun d w1 w2 h hb => ⟨blk_below h.1 hb, h.2.below hb⟩); (case ig => exact fun d w1 w2 v h hty hg => ⟨blk_grown h.1 hg (fun e => by obtain ⟨cells, hc⟩ := hty _ e.symm; rw [h.1] at hc; injection hc with hc; injection hc with _ hc _; exact absurd hc (by decide)), h.2.grown hg (fun e => by obtain ⟨cells, hc⟩ := hty _ e.symm; exact h.2.ne hc rfl)⟩); (case ist => exact fun d x r w2 hl hA hI hB => vstep w gs w.heap.size (Nat.le_refl _) l HW.out d x r w2 hl hA hI hB); rintro e w5 ⟨v, rfl, hr, hb, ht, hi⟩; refine ⟨_, rfl, ?_⟩; rw [upto_none] at hr; have HR5 := Aside0.mk hr; have HB5 := Aside0.mk hb; clear hr hb ht hi))
  go_ret
  exact ⟨_, rfl, HR5.out, HB5.out⟩
end Go.Proofs.Ytkdfbfhajojdeaa.Env
