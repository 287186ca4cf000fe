/- The next one of a node, its names, the nodes below one, as TreeMakes asks them. Conditions: as the theorems say. -/
import Derived.Test.YtemdnmidhmddlaaTpF
namespace Go.Proofs.Ytemdnmidhmddlaa.Tree
open Go Go.RowKit Go.Proofs.YtemdnmidhmddlaaW.PrintWords Go.Proofs.YtemdnmidhmddlaaW.PrintLast Go.Proofs.YtemdnmidhmddlaaW.PrintMore Go.Proofs.Ytemdnmidhmddlaa.PAll
set_option linter.unusedVariables false
set_option linter.unusedSimpArgs false
theorem up_next (x : S25) {m : Nat} {e : S46} {k0 k1 k2 k3 k4 k5 nx : Int} (h : (rwL [x] (-1) 1 0)[m]? = some e) (hk : (knL [x] (-1) 0)[m]? = some (⟨k0, k1, k2, k3, k4, k5, nx⟩ : S39)) : (e.f1 = -1 ∧ nx = -1) ∨ ∃ (u : Nat) (eu : S46), e.f1 = (u : Int) ∧ u < m ∧ (rwL [x] (-1) 1 0)[u]? = some eu ∧ nxt (m : Int) (kpL eu.f0.f5 (u + 1)) (-1) = nx ∧ (kpL eu.f0.f5 (u + 1)).length ≤ szL [x] := by
  have hl := rw_len [x] (-1) 1 0
  have hm := (List.getElem?_eq_some_iff.mp h).1
  rcases up_0 x h with ⟨h0, h1⟩ | ⟨h0, h1, h2⟩
  · subst h0
    rw [knL_cons, List.getElem?_cons_zero] at hk
    have := Option.some.inj hk
    injection this with _ _ _ _ _ _ h7
    exact Or.inl ⟨h1, by rw [← h7]; rfl⟩
  · obtain ⟨u, hu⟩ : ∃ u : Nat, e.f1 = (u : Int) := ⟨e.f1.toNat, by omega⟩
    obtain ⟨eu, heu⟩ : ∃ eu, (rwL [x] (-1) 1 0)[u]? = some eu := ⟨_, List.getElem?_eq_getElem (by omega)⟩
    obtain ⟨e2, hno, hsz⟩ := node_at _ [x] (-1) 1 0 (Nat.lt_succ_self _) (Seg.whole x) u (Nat.zero_le _) (by omega)
    obtain rfl : e2 = eu := Option.some.inj (hno.hr.symm.trans heu)
    have := nxt_eq (chain_ _ _ _ _ hno.hs) (kp_inc _ _) (m : Int) (up_kid x h hu heu)
    rw [rd39 hk] at this
    exact Or.inr ⟨u, e2, hu, by omega, heu, this, by rw [kpL_len]; have h3 := len_le_szL e2.f0.f5; have h4 := szL_one e2.f0; omega⟩
theorem nxt_drop {n v : Int} {l : List Int} {j : Nat} {k : Int} (h : l[j]? = some k) : nxt n (l.drop j) v = nxt n (l.drop (j + 1)) (if k > n ∧ v < 0 then k else v) := by
  obtain ⟨hj, e⟩ := List.getElem?_eq_some_iff.mp h
  rw [List.drop_eq_getElem_cons hj, nxt, e]
theorem names_at (x : S25) {m : Nat} {e : S46} {kk : S39} (h : (rwL [x] (-1) 1 0)[m]? = some e) (hk : (knL [x] (-1) 0)[m]? = some kk) : namesF (knL [x] (-1) 0) (nmL [x]) (m : Int) = e.f0.f4 := by
  unfold namesF
  rw [if_pos (has_at hk), nm_rw _ [x] (-1) 1 0 (Nat.lt_succ_self _)]
  unfold rdN
  rw [Int.toNat_natCast, List.getD_eq_getElem?_getD, List.getElem?_map, h]
  rfl
theorem rw_nmT : ∀ (N : Nat) (l : List S25) (up d : Int) (m : Nat), SizeOf.sizeOf l < N → ∀ e ∈ rwL l up d m, nmT [e.f0] ≤ nmT l
  | 0, _, _, _, _, h, _, _ => absurd h (Nat.not_lt_zero _)
  | N + 1, [], _, _, _, _, e, he => by rw [rwL_nil] at he; cases he
  | N + 1, x :: r, up, d, m, hN, e, he => by
    have z1 := szk x r
    have z2 := szr x r
    have h1 := nmT_cons x r
    have h2 := nmT_one x
    rw [rwL_cons] at he
    rcases List.mem_cons.mp he with rfl | he
    · show nmT [x] ≤ _
      omega
    · rcases List.mem_append.mp he with he | he
      · have := rw_nmT N x.f5 _ _ _ (by omega) e he
        omega
      · have := rw_nmT N r _ _ _ (by omega) e he
        omega
theorem rw_names (x : S25) (hs : nmT [x] ≤ 500) {m : Nat} {e : S46} (h : (rwL [x] (-1) 1 0)[m]? = some e) : e.f0.f4.length ≤ 500 := by
  have h1 := rw_nmT _ [x] (-1) 1 0 (Nat.lt_succ_self _) e (List.mem_of_getElem? h)
  have h2 := nmT_one e.f0
  omega
def bl (m s j : Nat) : List Int := rng m (min (j - m) s)
theorem bl_zero (m s : Nat) : bl m s 0 = [] := by
  unfold bl
  rw [show min (0 - m) s = 0 by omega, rng_zero]
theorem bl_in {m s j : Nat} (h : m ≤ j ∧ j < m + s) : bl m s (j + 1) = bl m s j ++ [(j : Int)] := by
  unfold bl
  rw [show min (j + 1 - m) s = (j - m) + 1 by omega, show min (j - m) s = j - m by omega, ← rng_app, show m + (j - m) = j by omega, rng_succ, rng_zero]
theorem bl_out {m s j : Nat} (h : ¬ (m ≤ j ∧ j < m + s)) : bl m s (j + 1) = bl m s j := by
  unfold bl
  rw [show min (j + 1 - m) s = min (j - m) s by omega]
theorem bl_end {m s j : Nat} (h : m + s ≤ j) : bl m s j = rng m s := by
  unfold bl
  rw [show min (j - m) s = s by omega]
theorem rng_len (m s : Nat) : (rng m s).length = s := by
  unfold rng
  rw [List.length_map, List.length_range']
theorem bl_len (m s j : Nat) : (bl m s j).length ≤ s := by
  unfold bl
  rw [rng_len]
  omega
theorem PathR.inv {rl : List S46} {n : Int} {l : List Int} (h : PathR rl n l) : (n < 0 ∧ l = []) ∨ ∃ (k : Nat) (e : S46) (r : List Int), n = (k : Int) ∧ rl[k]? = some e ∧ l = n :: r ∧ PathR rl e.f1 r := by
  cases h with
  | nil h1 => exact Or.inl ⟨h1, rfl⟩
  | @cons k e r h1 h2 => exact Or.inr ⟨k, e, r, rfl, h1, rfl, h2⟩
/-- What TreeMakes' last row reads: the knot and the row. -/
def HeldM (w : World) (g : Nat) (a : Addr) (k0 k1 k2 k3 k4 k5 k6 : Int) (r4 : Value) (r7 : Int) : Prop :=
  w.cell? ⟨g, 0, none⟩ = some (.int .i64 k0) ∧ w.cell? ⟨g, 1, none⟩ = some (.int .i64 k1) ∧ w.cell? ⟨g, 2, none⟩ = some (.int .i64 k2) ∧ w.cell? ⟨g, 3, none⟩ = some (.int .i64 k3) ∧ w.cell? ⟨g, 4, none⟩ = some (.int .i64 k4) ∧ w.cell? ⟨g, 5, none⟩ = some (.int .i64 k5) ∧ w.cell? ⟨g, 6, none⟩ = some (.int .i64 k6) ∧
  w.cell? a = some (.int .i64 k0) ∧ w.cell? ⟨a.block, a.off + 1, none⟩ = some (.int .i64 k1) ∧ w.cell? ⟨a.block, a.off + 2, none⟩ = some (.int .i64 k2) ∧ w.cell? ⟨a.block, a.off + 3, none⟩ = some (.int .i64 k3) ∧ w.cell? ⟨a.block, a.off + 4, none⟩ = some r4 ∧ w.cell? ⟨a.block, a.off + 6, none⟩ = some (.int .i64 k4) ∧ w.cell? ⟨a.block, a.off + 7, none⟩ = some (.int .i64 r7)
end Go.Proofs.Ytemdnmidhmddlaa.Tree
