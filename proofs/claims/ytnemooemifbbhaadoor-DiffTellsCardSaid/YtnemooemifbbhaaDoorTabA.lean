/- The table's rows, read: the method 'at' over a table whose rows stand anywhere. A contract walked by hand. Conditions: the table's block and its rows, as the theorem says. -/
import Derived.Test.YtnemooemifbbhaaDoorPDTx0
namespace Go.Proofs.YtnemooemifbbhaaDoor.TabA
open Go.RowKit Go.Proofs.YtnemooemifbbhaaDoorW.PrintWords Go.Proofs.YtnemooemifbbhaaDoorW.PrintLast Go.Proofs.YtnemooemifbbhaaDoorW.PrintMore Go.Proofs.YtnemooemifbbhaaDoor.PDT
set_option linter.unusedVariables false
set_option linter.unusedSimpArgs false
theorem tab_at (g : Nat) (v0 v1 : Value) (rest : List (List Int)) (A2 : Option Addr) (c2 : Nat) (a1 a2 : Int) (w : World)
  (hG : w.heap[g]? = some (.cells #[v0, v1, .slice A2 rest.length c2] 95 (0, 0))) (hC : Kd.C (Kd.slice 3 (Kd.int .i64)) w A2 rest.length rest)
  (h0 : 0 ≤ a1) (h1 : a1 < (rest.length : Int)) (h2 : 0 ≤ a2) (h3 : a2 < ((rd_L4 rest a1).length : Int)) :
  Calls Tryd.prog 32 #[.pointer (some ⟨g, 0, none⟩), .int .i64 a1, .int .i64 a2] w fun e w' => e = .returned (.int .i64 (rd (rd_L4 rest a1) a2)) ∧ Drawn0 w w' := by
 have hc : w.cell? ⟨g, 2, none⟩ = some (.slice A2 rest.length c2) := (blk_cell hG 2).trans rfl
 obtain ⟨ad, A, c, e, hx, hl, hi⟩ := at_L4 hC a1 h0 h1
 cases e
 obtain ⟨ae, e, hy⟩ := Kd.at_int hi a2 h2 h3
 cases e
 have p0 := eq_true h0
 have p1 := eq_true h1
 have p2 := eq_true h2
 have p3 := eq_true h3
 go_enter Tryd.func32, Tryd.ntmps32
 go_wp2
 go_ret
 exact ⟨rfl, Drawn0.refl _⟩
end Go.Proofs.YtnemooemifbbhaaDoor.TabA
