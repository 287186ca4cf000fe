-- Written by ownprint.py, a program of this session (out of the kit's print, with contracts of the session's own).
import Derived.Test.YtnemooemifbbhaaDoorPDTx0
import Derived.Test.YtnemooemifbbhaaDoorPDTx9
namespace Go.Proofs.YtnemooemifbbhaaDoor.PDT
open Go.RowKit Go.Proofs.YtnemooemifbbhaaDoorW.PrintWords Go.Proofs.YtnemooemifbbhaaDoorW.PrintLast Go.Proofs.YtnemooemifbbhaaDoorW.PrintMore
attribute [local go_sem] max2_int min2_int max_two min_two max_three min_three max_four min_four   -- for this text's walks alone
set_option linter.unusedVariables false
set_option linter.unusedSimpArgs false
/-! ### report_Quote: function 43 -/
def hexd (n : Nat) : UInt8 := if n < 10 then UInt8.ofNat (48 + n) else UInt8.ofNat (87 + n)
def qtB (c : UInt8) : List UInt8 := if c.toNat = 34 ∨ c.toNat = 92 then [92, c] else if c.toNat = 10 then [92, 110] else if c.toNat < 32 ∨ c.toNat > 126 then [92, 120, hexd (c.toNat / 16), hexd (c.toNat % 16)] else [c]
def qtL (l : List UInt8) : List UInt8 := 34 :: (l.flatMap qtB ++ [34])
theorem bld_byte {B b : Nat} {acc : List UInt8} {c : UInt8} {w : World} (h : Lib.BuilderAt 79 5 B b (.pointer (some ⟨b, 0, none⟩)) (Lib.byteCells acc ++ [.int .u8 (c.toNat : Int)]) w) : Lib.IsBuilder 79 5 B b (Lib.byteCells (acc ++ [c])) w := by
 rw [Lib.byteCells_append]
 exact Or.inr h
theorem bld_str {B b : Nat} {acc : List UInt8} {s : ByteArray} {w : World} (h : Lib.BuilderAt 79 5 B b (.pointer (some ⟨b, 0, none⟩)) (Lib.byteCells acc ++ Lib.strCells s) w) : Lib.IsBuilder 79 5 B b (Lib.byteCells (acc ++ s.data.toList)) w := by
 rw [Lib.strCells_eq, ← Lib.byteCells_append] at h
 exact Or.inr h
theorem qtB_len (c : UInt8) : (qtB c).length ≤ 4 := by
 unfold qtB
 split
 ·show 2 ≤ 4
  omega
 ·split
  ·show 2 ≤ 4
   omega
  ·split
   ·exact Nat.le_refl 4
   ·show 1 ≤ 4
    omega
theorem qt_len : ∀ l : List UInt8, (l.flatMap qtB).length ≤ 4 * l.length
 | [] => Nat.le_refl _
 | c :: l => by
  have h1 := qtB_len c
  have h2 := qt_len l
  rw [List.flatMap_cons, List.length_append, List.length_cons]
  omega
theorem dig_at : ∀ (n : Nat) (h : n < 16), ((⟨#[48, 49, 50, 51, 52, 53, 54, 55, 56, 57, 97, 98, 99, 100, 101, 102]⟩ : ByteArray)[n]'h) = hexd n := by decide
set_option maxHeartbeats 8000000 in
set_option maxRecDepth 100000 in
theorem quote_ (s : ByteArray) (hs : s.size ≤ 1000000000) (w : World) :
  Calls Tryd.prog 43 #[.string s] w fun e w' => e = .returned (.string ⟨(qtL s.data.toList).toArray⟩) ∧ Below w.heap.size w w' := by
 have HS := Aside0.mk hs
 clear hs
 go_enter Tryd.func43, Tryd.ntmps43
 go_wp2_with fail
 have HB := Aside0.mk (below_alloc (Below.refl w.heap.size w) (.cells #[.pointer none, .slice none 0 0] 79))
 have HD := Aside0.mk (show Lib.IsBuilder 79 5 w.heap.size w.heap.size (Lib.byteCells []) (w.alloc (.cells #[.pointer none, .slice none 0 0] 79)) from Or.inl ⟨Nat.le_refl _, _, blk_new _ _, own_nil _ _ _ _, by simp [Value.ownBlock]⟩)
 generalize (w.alloc (.cells #[.pointer none, .slice none 0 0] 79)) = wL at HB HD ⊢
 refine (writeByte_any w.heap.size w.heap.size (Lib.byteCells []) 34 wL HD.out (by decide) HB.out.size).mono ?_
 rintro e w2 ⟨rfl, hd, hb⟩
 have n_ : Aside0 (Lib.IsBuilder 79 5 w.heap.size w.heap.size (Lib.byteCells ([34] ++ (s.data.toList.take 0).flatMap qtB)) w2) := ⟨bld_byte (acc := []) (c := 34) hd⟩
 have HB2 := Aside0.mk (HB.out.trans hb)
 clear HD HB hd hb
 go_wp2_with fail
 go_loopg [9] (s.size + 1) (fun kq v9 w' => ∃ (i : Nat) (a : Int), v9 = .int .i64 a ∧ Aside0 (a = (i : Int)) ∧ Aside0 (kq + i = s.size + 1 ∧ i ≤ s.size) ∧ Aside0 (Lib.IsBuilder 79 5 w.heap.size w.heap.size (Lib.byteCells ([34] ++ (s.data.toList.take i).flatMap qtB)) w') ∧ Aside0 (Below w.heap.size w w'))
 case atStart => exact ⟨0, 0, rfl, ⟨rfl⟩, ⟨⟨by omega, by omega⟩⟩, n_, HB2⟩
 case round =>
  clear n_ HB2
  obtain ⟨i, a, rfl, HE, HK, HD, HB⟩ := hrel
  cases gk with
  | zero => have := HK.out; omega
  | succ k1 =>
   by_cases cc : a < (s.size : Int)
   ·have c0b : decide (a < (s.size : Int)) = true := decide_eq_true cc
    have hj : i < s.data.toList.length := by rw [data_length]; have := HE.out; omega
    have p1 : (0 : Int) ≤ a := by have := HE.out; omega
    have q1 : a < (s.size : Int) := cc
    have hlt : a.toNat < s.size := by have := HE.out; rw [data_length] at hj; omega
    obtain ⟨c, ec⟩ : ∃ c, s[a.toNat] = c := ⟨_, rfl⟩
    obtain ⟨cv, hcv⟩ : ∃ cv : Int, (c.toNat : Int) = cv := ⟨_, rfl⟩
    obtain ⟨acc, hacc⟩ : ∃ acc, [34] ++ (s.data.toList.take i).flatMap qtB = acc := ⟨_, rfl⟩
    have LA : Aside0 (acc.length ≤ 4000000001) := ⟨by
     rw [← hacc, List.length_append]
     have h1 := qt_len (s.data.toList.take i)
     have h2 : (s.data.toList.take i).length ≤ i := List.length_take_le _ _
     have := HS.out
     have := HK.out
     show 1 + _ ≤ _
     omega⟩
    have EA : Aside0 ([34] ++ (s.data.toList.take (i + 1)).flatMap qtB = acc ++ qtB c) := ⟨by
     have h1 : s.data.toList[i]? = some c := by
      rw [List.getElem?_eq_getElem hj, ← ec]
      congr 1
      rw [Array.getElem_toList]
      show s.data[i] = s.data[a.toNat]
      congr 1
      have := HE.out
      omega
     obtain ⟨hi, e⟩ := List.getElem?_eq_some_iff.mp h1
     rw [List.take_succ_eq_append_getElem hi, List.flatMap_append, e, ← List.append_assoc, hacc, List.flatMap_cons, List.flatMap_nil, List.append_nil]⟩
    rw [hacc] at HD
    have CV := Aside0.mk hcv
    have e1 : wrap64 (a + 1) = a + 1 := by
     have := HE.out
     have := HS.out
     unfold wrap64
     omega
    replace p1 := eq_true p1
    replace q1 := eq_true q1
    clear hacc hj cc
    have c255 : 0 ≤ cv ∧ cv < 256 := by
     have h1 := c.toNat_lt
     omega
    have C255 := Aside0.mk c255
    clear c255
    by_cases h34 : cv = 34
    ·have QB : Aside0 (qtB c = [92, c]) := ⟨by unfold qtB; rw [if_pos (Or.inl (by have := CV.out; omega))]⟩
     subst h34
     go_wp2_with fail
     refine (writeByte_any w.heap.size w.heap.size (Lib.byteCells acc) 92 _ HD.out (by rw [Lib.byteCells_length]; have := LA.out; first | omega | (rw [List.length_append, List.length_singleton]; omega)) HB.out.size).mono ?_
     rintro e w5 ⟨rfl, hd, hb⟩
     have n_ := Aside0.mk (bld_byte (acc := acc) (c := 92) hd)
     have m_ := Aside0.mk (HB.out.trans hb)
     clear HD HB hd hb
     have HD := n_
     have HB := m_
     clear n_ m_
     go_wp2_with fail
     refine (writeByte_any w.heap.size w.heap.size (Lib.byteCells (acc ++ [92])) 34 _ HD.out (by rw [Lib.byteCells_length]; have := LA.out; first | omega | (rw [List.length_append, List.length_singleton]; omega)) HB.out.size).mono ?_
     rintro e w6 ⟨rfl, hd, hb⟩
     rw [← CV.out] at hd
     have n_ := Aside0.mk (bld_byte (acc := (acc ++ [92])) (c := c) hd)
     have m_ := Aside0.mk (HB.out.trans hb)
     clear HD HB hd hb
     have HD := n_
     have HB := m_
     clear n_ m_
     rw [List.append_assoc] at HD
     go_wp2_with fail
     go_roundg k1
     case measure => omega
     case rel => exact ⟨i + 1, a + 1, by first | rfl | rw [e1], ⟨by rw [HE.out]; rfl⟩, ⟨by have := HK.out; have h_ := of_eq_true q1; have := HE.out; omega⟩, ⟨by rw [EA.out, QB.out]; exact HD.out⟩, HB⟩
    by_cases h92 : cv = 92
    ·have QB : Aside0 (qtB c = [92, c]) := ⟨by unfold qtB; rw [if_pos (Or.inr (by have := CV.out; omega))]⟩
     have t34 : (cv == 34) = false := beq_eq_false_iff_ne.mpr h34
     clear t34 h34
     subst h92
     go_wp2_with fail
     refine (writeByte_any w.heap.size w.heap.size (Lib.byteCells acc) 92 _ HD.out (by rw [Lib.byteCells_length]; have := LA.out; first | omega | (rw [List.length_append, List.length_singleton]; omega)) HB.out.size).mono ?_
     rintro e w5 ⟨rfl, hd, hb⟩
     have n_ := Aside0.mk (bld_byte (acc := acc) (c := 92) hd)
     have m_ := Aside0.mk (HB.out.trans hb)
     clear HD HB hd hb
     have HD := n_
     have HB := m_
     clear n_ m_
     go_wp2_with fail
     refine (writeByte_any w.heap.size w.heap.size (Lib.byteCells (acc ++ [92])) 92 _ HD.out (by rw [Lib.byteCells_length]; have := LA.out; first | omega | (rw [List.length_append, List.length_singleton]; omega)) HB.out.size).mono ?_
     rintro e w6 ⟨rfl, hd, hb⟩
     rw [← CV.out] at hd
     have n_ := Aside0.mk (bld_byte (acc := (acc ++ [92])) (c := c) hd)
     have m_ := Aside0.mk (HB.out.trans hb)
     clear HD HB hd hb
     have HD := n_
     have HB := m_
     clear n_ m_
     rw [List.append_assoc] at HD
     go_wp2_with fail
     go_roundg k1
     case measure => omega
     case rel => exact ⟨i + 1, a + 1, by first | rfl | rw [e1], ⟨by rw [HE.out]; rfl⟩, ⟨by have := HK.out; have h_ := of_eq_true q1; have := HE.out; omega⟩, ⟨by rw [EA.out, QB.out]; exact HD.out⟩, HB⟩
    have t34 : (cv == 34) = false := beq_eq_false_iff_ne.mpr h34
    have t92 : (cv == 92) = false := beq_eq_false_iff_ne.mpr h92
    by_cases h10 : cv = 10
    ·have QB : Aside0 (qtB c = [92, 110]) := ⟨by unfold qtB; rw [if_neg (by have := CV.out; omega), if_pos (by have := CV.out; omega)]⟩
     clear t34 t92 h34 h92
     subst h10
     go_wp2_with fail
     refine (writeString_any w.heap.size w.heap.size (Lib.byteCells acc) ⟨#[92, 110]⟩ _ HD.out (by rw [Lib.byteCells_length]; have := LA.out; show _ + 2 ≤ _; omega) HB.out.size).mono ?_
     rintro e w5 ⟨rfl, hd, hb, _⟩
     have n_ := Aside0.mk (bld_str (acc := acc) (s := ⟨#[92, 110]⟩) hd)
     have m_ := Aside0.mk (HB.out.trans hb)
     clear HD HB hd hb
     have HD := n_
     have HB := m_
     clear n_ m_
     go_wp2_with fail
     go_roundg k1
     case measure => omega
     case rel => exact ⟨i + 1, a + 1, by first | rfl | rw [e1], ⟨by rw [HE.out]; rfl⟩, ⟨by have := HK.out; have h_ := of_eq_true q1; have := HE.out; omega⟩, ⟨by rw [EA.out, QB.out]; exact HD.out⟩, HB⟩
    have t10 : (cv == 10) = false := beq_eq_false_iff_ne.mpr h10
    by_cases hx : 32 ≤ cv ∧ cv ≤ 126
    ·have QB : Aside0 (qtB c = [c]) := ⟨by unfold qtB; rw [if_neg (by have := CV.out; omega), if_neg (by have := CV.out; omega), if_neg (by have := CV.out; omega)]⟩
     have x1 : 32 ≤ cv := hx.1
     have x2 : cv ≤ 126 := hx.2
     clear hx h34 h92 h10
     go_wp2_with fail
     refine (writeByte_any w.heap.size w.heap.size (Lib.byteCells acc) cv _ HD.out (by rw [Lib.byteCells_length]; have := LA.out; first | omega | (rw [List.length_append, List.length_singleton]; omega)) HB.out.size).mono ?_
     rintro e w5 ⟨rfl, hd, hb⟩
     rw [← CV.out] at hd
     have n_ := Aside0.mk (bld_byte (acc := acc) (c := c) hd)
     have m_ := Aside0.mk (HB.out.trans hb)
     clear HD HB hd hb
     have HD := n_
     have HB := m_
     clear n_ m_
     go_wp2_with fail
     go_roundg k1
     case measure => omega
     case rel => exact ⟨i + 1, a + 1, by first | rfl | rw [e1], ⟨by rw [HE.out]; rfl⟩, ⟨by have := HK.out; have h_ := of_eq_true q1; have := HE.out; omega⟩, ⟨by rw [EA.out, QB.out]; exact HD.out⟩, HB⟩
    have QB : Aside0 (qtB c = [92, 120, hexd (c.toNat / 16), hexd (c.toNat % 16)]) := ⟨by unfold qtB; rw [if_neg (by have := CV.out; omega), if_neg (by have := CV.out; omega), if_pos (by have := CV.out; omega)]⟩
    rcases (show cv < 32 ∨ (32 ≤ cv ∧ 126 < cv) by omega) with x1 | ⟨x1, x2⟩
    all_goals
     clear hx h34 h92 h10
     have b1 : (0 : Int) ≤ cv := C255.out.1
     have b2 : cv / 16 < 16 := by have := C255.out.2; omega
     have b3 : (0 : Int) ≤ cv / 16 := by omega
     have b4 : (cv / 16).toNat < 16 := by omega
     have b5 : (0 : Int) ≤ cv % 16 := by omega
     have b6 : cv % 16 < 16 := by omega
     have b7 : (cv % 16).toNat < 16 := by omega
     have g1 : ((⟨#[48, 49, 50, 51, 52, 53, 54, 55, 56, 57, 97, 98, 99, 100, 101, 102]⟩ : ByteArray)[(cv / 16).toNat]'b4) = hexd (c.toNat / 16) := by
      rw [dig_at _ b4]
      congr 1
      have := CV.out
      omega
     have g2 : ((⟨#[48, 49, 50, 51, 52, 53, 54, 55, 56, 57, 97, 98, 99, 100, 101, 102]⟩ : ByteArray)[(cv % 16).toNat]'b7) = hexd (c.toNat % 16) := by
      rw [dig_at _ b7]
      congr 1
      have := CV.out
      omega
     obtain ⟨d1, hd1⟩ : ∃ d, hexd (c.toNat / 16) = d := ⟨_, rfl⟩
     obtain ⟨d2, hd2⟩ : ∃ d, hexd (c.toNat % 16) = d := ⟨_, rfl⟩
     rw [hd1] at g1
     rw [hd2] at g2
     rw [hd1, hd2] at QB
     clear hd1 hd2
     go_wp2_with fail
     refine (writeString_any w.heap.size w.heap.size (Lib.byteCells acc) ⟨#[92, 120]⟩ _ HD.out (by rw [Lib.byteCells_length]; have := LA.out; show _ + 2 ≤ _; omega) HB.out.size).mono ?_
     rintro e w5 ⟨rfl, hd, hb, _⟩
     have n_ := Aside0.mk (bld_str (acc := acc) (s := ⟨#[92, 120]⟩) hd)
     have m_ := Aside0.mk (HB.out.trans hb)
     clear HD HB hd hb
     have HD := n_
     have HB := m_
     clear n_ m_
     go_wp2_with fail
     have n_ : Aside0 (Lib.IsBuilder 79 5 w.heap.size w.heap.size (Lib.byteCells (acc ++ [92, 120])) w5) := HD
     clear HD
     have HD := n_
     clear n_
     refine (writeByte_any w.heap.size w.heap.size (Lib.byteCells (acc ++ [92, 120])) _ _ HD.out (by rw [Lib.byteCells_length]; have := LA.out; simp only [List.length_append, List.length_cons, List.length_nil]; omega) HB.out.size).mono ?_
     rintro e w6 ⟨rfl, hd, hb⟩
     have n_ := Aside0.mk (bld_byte (acc := (acc ++ [92, 120])) (c := d1) hd)
     have m_ := Aside0.mk (HB.out.trans hb)
     clear HD HB hd hb
     have HD := n_
     have HB := m_
     clear n_ m_
     go_wp2_with fail
     refine (writeByte_any w.heap.size w.heap.size (Lib.byteCells (acc ++ [92, 120] ++ [d1])) _ _ HD.out (by rw [Lib.byteCells_length]; have := LA.out; simp only [List.length_append, List.length_cons, List.length_nil]; omega) HB.out.size).mono ?_
     rintro e w7 ⟨rfl, hd, hb⟩
     have n_ := Aside0.mk (bld_byte (acc := (acc ++ [92, 120] ++ [d1])) (c := d2) hd)
     have m_ := Aside0.mk (HB.out.trans hb)
     clear HD HB hd hb
     have HD := n_
     have HB := m_
     clear n_ m_
     rw [List.append_assoc, List.append_assoc] at HD
     go_wp2_with fail
     go_roundg k1
     case measure => omega
     case rel => exact ⟨i + 1, a + 1, by first | rfl | rw [e1], ⟨by rw [HE.out]; rfl⟩, ⟨by have := HK.out; have h_ := of_eq_true q1; have := HE.out; omega⟩, ⟨by rw [EA.out, QB.out]; exact HD.out⟩, HB⟩
   ·have c0b : decide (a < (s.size : Int)) = false := decide_eq_false cc
    have EI : Aside0 ([34] ++ (s.data.toList.take i).flatMap qtB = [34] ++ s.data.toList.flatMap qtB) := ⟨by rw [List.take_of_length_le (by rw [data_length]; have := HE.out; omega)]⟩
    rw [EI.out] at HD
    have LA : Aside0 (([34] ++ s.data.toList.flatMap qtB).length ≤ 4000000001) := ⟨by
     rw [List.length_append]
     have h1 := qt_len s.data.toList
     rw [data_length] at h1
     have := HS.out
     show 1 + _ ≤ _
     omega⟩
    clear cc EI
    go_wp2_with fail
    refine (writeByte_any w.heap.size w.heap.size (Lib.byteCells ([34] ++ s.data.toList.flatMap qtB)) 34 _ HD.out (by rw [Lib.byteCells_length]; have := LA.out; first | omega | (rw [List.length_append, List.length_singleton]; omega)) HB.out.size).mono ?_
    rintro e w5 ⟨rfl, hd, hb⟩
    have n_ := Aside0.mk (bld_byte (acc := ([34] ++ s.data.toList.flatMap qtB)) (c := 34) hd)
    have m_ := Aside0.mk (HB.out.trans hb)
    clear HD HB hd hb
    have HD := n_
    have HB := m_
    clear n_ m_
    go_wp2_with fail
    refine (Tryd.Builder_String_any w.heap.size w.heap.size _ _ HD.out HB.out.size).mono ?_
    rintro e w6 ⟨rfl, hb⟩
    go_wp2_with fail
    go_ret
    exact ⟨by unfold qtL; rfl, HB.out.trans hb⟩
def report_Quote.f (a0 : ByteArray) : Option ByteArray := if a0.size ≤ 1000000000 then some ⟨(qtL a0.data.toList).toArray⟩ else none
theorem report_Quote.calls (a0 : ByteArray) (r : ByteArray) (w : World) (h : report_Quote.f a0 = some r) :
  Calls Tryd.prog 43 #[.string a0] w fun e w' => e = .returned (.string r) ∧ Below w.heap.size w w' := by
 unfold report_Quote.f at h
 by_cases c : a0.size ≤ 1000000000
 ·rw [if_pos c] at h
  obtain rfl := Option.some.inj h
  exact quote_ a0 c w
 ·rw [if_neg c] at h
  cases h
end Go.Proofs.YtnemooemifbbhaaDoor.PDT
