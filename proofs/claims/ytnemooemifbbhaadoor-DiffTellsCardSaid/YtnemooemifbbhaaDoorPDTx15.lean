-- Written by ownprint.py, a program of this session (out of the kit's print, with contracts of the session's own).
import Derived.Test.YtnemooemifbbhaaDoorPDTx0
namespace Go.Proofs.YtnemooemifbbhaaDoor.PDT
open Go.RowKit Go.Proofs.YtnemooemifbbhaaDoorW.PrintWords Go.Proofs.YtnemooemifbbhaaDoorW.PrintLast Go.Proofs.YtnemooemifbbhaaDoorW.PrintMore
attribute [local go_sem] max2_int min2_int max_two min_two max_three min_three max_four min_four   -- for this text's walks alone
set_option linter.unusedVariables false
set_option linter.unusedSimpArgs false
/-! ### diff_number: function 60 -/
def numL : List UInt8 → Int → Int
 | [], n => n
 | c :: l, n => if c.toNat < 48 ∨ c.toNat > 57 then -1 else numL l (10 * n + ((c.toNat : Int) - 48))
def numF (s : ByteArray) : Int := if s.size = 0 ∨ s.size > 9 ∨ (s.size > 1 ∧ (s.data.toList.headD 0).toNat = 48) then -1 else numL s.data.toList 0
theorem num_wid {x : Int} (h0 : -9223372036854775808 ≤ x) (h1 : x ≤ 9223372036854775807) : wrap64 x = x := by
 unfold wrap64
 omega
set_option maxHeartbeats 4000000 in
set_option maxRecDepth 100000 in
theorem num_ (s : ByteArray) (w : World) :
  Calls Tryd.prog 60 #[.string s] w fun e w' => e = .returned (.int .i64 (numF s)) ∧ Below w.heap.size w w' := by
 by_cases h0 : s.size = 0
 ·have e : s = ⟨#[]⟩ := by
   rcases s with ⟨⟨l⟩⟩
   cases l with
   | nil => rfl
   | cons a l => exact absurd h0 (by simp [ByteArray.size])
  subst e
  go_enter Tryd.func60, Tryd.ntmps60
  go_wp2
  go_ret
  exact ⟨rfl, Below.refl _ _⟩
 ·have n1 : ¬ s.toList = [] := fun h => h0 (by rw [(toList_nil_iff_emptyBytes s).mp h]; rfl)
  have n2 : s.toList.isEmpty = false := by
   cases hh : s.toList with
   | nil => exact absurd hh n1
   | cons a l => rfl
  by_cases c9 : 9 < s.size
  ·have EF : Aside0 (numF s = -1) := ⟨by unfold numF; rw [if_pos (Or.inr (Or.inl c9))]⟩
   have c9i : (9 : Int) < (s.size : Int) := by omega
   rw [EF.out]
   go_enter Tryd.func60, Tryd.ntmps60
   go_wp2
   go_ret
   exact ⟨rfl, Below.refl _ _⟩
  ·have c9i : (s.size : Int) ≤ 9 := by omega
   have hp : 0 < s.size := by omega
   obtain ⟨a0, l0, hl⟩ : ∃ a l, s.data.toList = a :: l := by
    rcases s with ⟨⟨l⟩⟩
    cases l with
    | nil => exact absurd rfl h0
    | cons a l => exact ⟨a, l, rfl⟩
   have hs0 : s[0] = a0 := by
    have h1 : s.data.toList[0]? = some a0 := by rw [hl]; rfl
    have h2 : s.data.toList[0]? = some s[0] := by
     rw [Array.getElem?_toList, Array.getElem?_eq_getElem (show 0 < s.data.size from hp)]
     rfl
    exact Option.some.inj (h2.symm.trans h1)
   by_cases c1 : 1 < s.size ∧ a0.toNat = 48
   ·have EF : Aside0 (numF s = -1) := ⟨by unfold numF; rw [if_pos (Or.inr (Or.inr ⟨c1.1, by rw [hl]; exact c1.2⟩))]⟩
    have c2i : (1 : Int) < (s.size : Int) := by omega
    have t1 : (((s[0].toNat : Nat) : Int) == 48) = true := by rw [hs0, c1.2]; rfl
    rw [EF.out]
    clear hs0 hl
    go_enter Tryd.func60, Tryd.ntmps60
    go_wp2
    go_ret
    exact ⟨rfl, Below.refl _ _⟩
   ·have EF : Aside0 (numF s = numL s.data.toList 0) := ⟨by unfold numF; rw [if_neg (fun h => by rcases h with h | h | ⟨h, h2⟩; exact h0 h; exact c9 h; exact c1 ⟨h, by rw [hl] at h2; exact h2⟩)]⟩
    have hcv := fun (w : World) => run_bytes_of_string (P := Tryd.prog) w 9 77 5 s Tryd.underlying9 Tryd.underlying77 Tryd.underlying5
    have tt : ¬ (1 : Int) < (s.size : Int) ∨ ((1 : Int) < (s.size : Int) ∧ (((s[0].toNat : Nat) : Int) == 48) = false) := by
     by_cases h : 1 < s.size
     ·refine Or.inr ⟨by omega, beq_eq_false_iff_ne.mpr (fun h2 => c1 ⟨h, ?_⟩)⟩
      rw [hs0] at h2
      omega
     ·exact Or.inl (by omega)
    have HS9 := Aside0.mk c9i
    have HP := Aside0.mk hp
    rw [EF.out]
    clear EF hl hs0 c1
    have hcell : ∀ (j : Nat) (c : UInt8), s.data.toList[j]? = some c → (w.alloc (.cells (bytesRow s (grownCap w s.size 0 5)) 5 ((bytesRow s (grownCap w s.size 0 5)).size, (bytesRow s (grownCap w s.size 0 5)).size + 1))).drew.cell? ⟨w.heap.size, j, none⟩ = some (.int .u8 (c.toNat : Int)) := fun j c hj => by
     rw [Array.getElem?_toList] at hj
     obtain ⟨h1, h2⟩ := Array.getElem?_eq_some_iff.mp hj
     have h3 := cell_of_row _ w.heap.size j _ _ _ (blk_new w.drew (.cells (bytesRow s (grownCap w s.size 0 5)) 5 ((bytesRow s (grownCap w s.size 0 5)).size, (bytesRow s (grownCap w s.size 0 5)).size + 1)))
     refine Eq.trans (show _ = _ from h3) ?_
     rw [bytesRow_at s _ j h1, h2]
    have HCL := Aside0.mk hcell
    have HBL := Aside0.mk (below_drew1 (below_alloc (Below.refl w.heap.size w) (.cells (bytesRow s (grownCap w s.size 0 5)) 5 ((bytesRow s (grownCap w s.size 0 5)).size, (bytesRow s (grownCap w s.size 0 5)).size + 1))))
    clear hcell
    rcases tt with tt | ⟨t0, tt⟩
    all_goals
     go_enter Tryd.func60, Tryd.ntmps60
     go_wp2
     clear hcv tt n1 n2 c9 c9i h0
     try clear t0
     generalize (w.alloc (.cells (bytesRow s (grownCap w s.size 0 5)) 5 ((bytesRow s (grownCap w s.size 0 5)).size, (bytesRow s (grownCap w s.size 0 5)).size + 1))).drew = wL at HCL HBL ⊢
     have HM := Aside0.mk (Below.refl wL.heap.size wL)
     have EQ : Aside0 (numL s.data.toList 0 = numL (s.data.toList.drop 0) 0) := ⟨rfl⟩
     go_loopg [3, 26] (s.size + 1) (fun kq v3 v26 w' => ∃ (i : Nat) (a n : Int), v3 = .int .i64 n ∧ v26 = .int .i64 a ∧ Aside0 (a = (i : Int)) ∧ Aside0 (kq + i = s.size + 1 ∧ i ≤ s.size) ∧ Aside0 (numL s.data.toList 0 = numL (s.data.toList.drop i) n) ∧ Aside0 (0 ≤ n ∧ n < 10 ^ i) ∧ Aside0 (Below wL.heap.size wL w'))
     case atStart => exact ⟨0, 0, 0, rfl, rfl, ⟨rfl⟩, ⟨⟨by omega, by omega⟩⟩, EQ, ⟨by decide⟩, HM⟩
     case round =>
      clear EQ HM
      obtain ⟨i, a, n, rfl, rfl, HE, HK, EQ, HNB, HM⟩ := hrel
      cases gk with
      | zero => have := HK.out; omega
      | succ k1 =>
       by_cases cc : a < (s.size : Int)
       ·have c0b : decide (a < (s.size : Int)) = true := decide_eq_true cc
        have hj : i < s.data.toList.length := by rw [data_length]; have := HE.out; omega
        obtain ⟨c, hc⟩ : ∃ c, s.data.toList[i]? = some c := ⟨_, List.getElem?_eq_getElem hj⟩
        have hx := HCL.out i c hc
        have p1 : (0 : Int) ≤ a := by have := HE.out; omega
        have q1 : a < (s.size : Int) := cc
        obtain ⟨cv, hcv⟩ : ∃ cv : Int, (c.toNat : Int) = cv := ⟨_, rfl⟩
        have xk : wr.cell? ⟨w.heap.size, a.toNat, none⟩ = some (.int .u8 cv) := by
         rw [← hcv, show a.toNat = i by have := HE.out; omega]
         exact (HM.out.cell (World.block_lt_of_cell? wL _ hx)).trans hx
        have CV := Aside0.mk hcv
        have ED : Aside0 (s.data.toList.drop i = c :: s.data.toList.drop (i + 1)) := ⟨by
         obtain ⟨hi, e⟩ := List.getElem?_eq_some_iff.mp hc
         rw [List.drop_eq_getElem_cons hi, e]⟩
        have PB : Aside0 ((10 : Int) ^ i ≤ 100000000 ∧ (10 : Int) ^ (i + 1) = 10 ^ i * 10) := ⟨(show ∀ q : Nat, q < 9 → (10 : Int) ^ q ≤ 100000000 by decide) i (by have := HE.out; have := HS9.out; omega), Int.pow_succ _ _⟩
        have bn0 : 0 ≤ n := HNB.out.1
        have bn1 : n ≤ 100000000 := by have := HNB.out.2; have := PB.out.1; omega
        have e1 : wrap64 (a + 1) = a + 1 := num_wid (by omega) (by have := HS9.out; omega)
        have e2 : wrap64 (10 * n) = 10 * n := num_wid (by omega) (by omega)
        replace p1 := eq_true p1
        replace q1 := eq_true q1
        clear hc hx hcv hj cc
        by_cases cl : cv < 48
        ·have ER : Aside0 (numL s.data.toList 0 = -1) := ⟨by rw [EQ.out, ED.out, numL, if_pos (Or.inl (by have := CV.out; omega))]⟩
         go_wp2
         go_ret
         exact ⟨by rw [ER.out]; rfl, below_step HBL.out HM.out⟩
        ·by_cases cg : cv > 57
         ·have cl2 : 48 ≤ cv := by omega
          have cg2 : 57 < cv := cg
          have ER : Aside0 (numL s.data.toList 0 = -1) := ⟨by rw [EQ.out, ED.out, numL, if_pos (Or.inr (by have := CV.out; omega))]⟩
          go_wp2
          go_ret
          exact ⟨by rw [ER.out]; rfl, below_step HBL.out HM.out⟩
         ·have cl2 : 48 ≤ cv := by omega
          have cg2 : cv ≤ 57 := by omega
          have ER : Aside0 (numL s.data.toList 0 = numL (s.data.toList.drop (i + 1)) (10 * n + (cv - 48))) := ⟨by rw [EQ.out, ED.out, numL, if_neg (by have := CV.out; omega), CV.out]⟩
          have NB2 : Aside0 (0 ≤ 10 * n + (cv - 48) ∧ 10 * n + (cv - 48) < 10 ^ (i + 1)) := ⟨by
           have h1 := HNB.out
           rw [PB.out.2]
           generalize (10 : Int) ^ i = Q at h1 ⊢
           omega⟩
          have e3 : wrap64 (10 * n + (cv - 48)) = 10 * n + (cv - 48) := num_wid (by omega) (by omega)
          clear cl cg
          go_wp2
          go_roundg k1
          case measure => omega
          case rel => exact ⟨i + 1, a + 1, 10 * n + (cv - 48), by first | rfl | rw [e3] | rw [e2, e3], by first | rfl | rw [e1], ⟨by rw [HE.out]; rfl⟩, ⟨by have := HK.out; have := HE.out; have := HS9.out; constructor; omega; exact Nat.succ_le_of_lt (by have h_ := of_eq_true q1; omega)⟩, ER, NB2, HM⟩
       ·have c0b : decide (a < (s.size : Int)) = false := decide_eq_false cc
        have ER : Aside0 (numL s.data.toList 0 = n) := ⟨by rw [EQ.out, List.drop_eq_nil_of_le (by rw [data_length]; have := HE.out; omega), numL]⟩
        clear cc
        go_wp2
        go_ret
        exact ⟨by rw [ER.out]; rfl, below_step HBL.out HM.out⟩
def diff_number.f (a0 : ByteArray) : Option Int := some (numF a0)
theorem diff_number.calls (a0 : ByteArray) (r : Int) (w : World) (h : diff_number.f a0 = some r) :
  Calls Tryd.prog 60 #[.string a0] w fun e w' => e = .returned (.int .i64 r) ∧ Below w.heap.size w w' := by
 obtain rfl := Option.some.inj h
 exact num_ a0 w
end Go.Proofs.YtnemooemifbbhaaDoor.PDT
