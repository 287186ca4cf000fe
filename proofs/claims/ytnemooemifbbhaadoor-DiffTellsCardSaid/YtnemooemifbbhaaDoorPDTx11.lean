-- Written by ownprint.py, a program of this session (out of the kit's print, with contracts of the session's own).
import Derived.Test.YtnemooemifbbhaaDoorPDTx0
import Derived.Test.YtnemooemifbbhaaDoorPDTx8
import Derived.Test.YtnemooemifbbhaaDoorPDTx9
import Derived.Test.YtnemooemifbbhaaDoorPDTx10
namespace Go.Proofs.YtnemooemifbbhaaDoor.PDT
open Go.RowKit Go.Proofs.YtnemooemifbbhaaDoorW.PrintWords Go.Proofs.YtnemooemifbbhaaDoorW.PrintLast Go.Proofs.YtnemooemifbbhaaDoorW.PrintMore
attribute [local go_sem] max2_int min2_int max_two min_two max_three min_three max_four min_four   -- for this text's walks alone
set_option linter.unusedVariables false
set_option linter.unusedSimpArgs false
/-! ### diff_Tell: function 25 -/
def tellL (x : S56) : List UInt8 := Lib.itoa x.f0 ++ [32] ++ Lib.itoa x.f1 ++ [32] ++ qtL x.f2.data.toList ++ [10]
def tellF (l : List S56) : ByteArray := ⟨(l.flatMap tellL).toArray⟩
theorem itoa_len {x : Int} (h0 : 0 ≤ x) (h1 : x ≤ 900) : (Lib.itoa x).length ≤ 3 := by
 unfold Lib.itoa
 rw [if_neg (by omega), Lib.decDigits_length]
 by_cases a : x.toNat < 10
 ·rw [Lib.nDigits_small a]
  decide
 ·rw [Lib.nDigits_big a]
  by_cases b : x.toNat / 10 < 10
  ·rw [Lib.nDigits_small b]
   decide
  ·rw [Lib.nDigits_big b, Lib.nDigits_small (by omega)]
   decide
theorem tellL_len {x : S56} (h : (0 ≤ x.f0 ∧ x.f0 ≤ 900) ∧ (0 ≤ x.f1 ∧ x.f1 ≤ 900) ∧ x.f2.size ≤ 100000) : (tellL x).length ≤ 500000 := by
 have h1 := itoa_len h.1.1 h.1.2
 have h2 := itoa_len h.2.1.1 h.2.1.2
 have h3 := qt_len x.f2.data.toList
 rw [data_length] at h3
 have h4 := h.2.2
 unfold tellL qtL
 simp only [List.length_append, List.length_cons, List.length_nil]
 omega
theorem tell_len : ∀ l : List S56, (∀ x ∈ l, (0 ≤ x.f0 ∧ x.f0 ≤ 900) ∧ (0 ≤ x.f1 ∧ x.f1 ≤ 900) ∧ x.f2.size ≤ 100000) → (l.flatMap tellL).length ≤ 500000 * l.length
 | [], _ => Nat.le_refl _
 | x :: l, h => by
  have h1 := tellL_len (h x (List.mem_cons_self ..))
  have h2 := tell_len l (fun y hy => h y (List.mem_cons_of_mem _ hy))
  rw [List.flatMap_cons, List.length_append, List.length_cons]
  omega
theorem isB_below {T e B b : Nat} {bs : List Value} {w w' : World} (h : Lib.IsBuilder T e B b bs w) (hb : Below w.heap.size w w') : Lib.IsBuilder T e B b bs w' := by
 have key : ∀ p, Lib.BuilderAt T e B b p bs w → Lib.BuilderAt T e B b p bs w' := by
  rintro p ⟨hB, v, hk, hown, hne⟩
  have e1 : ∀ g o, w.heap[g]? = some o → w'.heap[g]? = some o := fun g o hg => by rw [hb.block g (blk_lt hg)]; exact hg
  refine ⟨hB, v, e1 _ _ hk, ⟨hown.1, ?_⟩, hne⟩
  rcases hown.2 with hn | ⟨g, cap, cur, h1, h2, h3, rest⟩
  ·exact Or.inl hn
  ·exact Or.inr ⟨g, cap, cur, h1, h2, e1 _ _ h3, rest⟩
 rcases h with h | h
 ·exact Or.inl (key _ h)
 ·exact Or.inr (key _ h)
theorem held3 {w : World} {g : Nat} {a b c : Value} {t : TypeId} (h : w.heap[g]? = some (.cells #[a, b, c] t (0, 0))) : w.cell? ⟨g, 0, none⟩ = some a ∧ w.cell? ⟨g, 1, none⟩ = some b ∧ w.cell? ⟨g, 2, none⟩ = some c :=
 ⟨(blk_cell h 0).trans rfl, (blk_cell h 1).trans rfl, (blk_cell h 2).trans rfl⟩
def diff_Tell.f (k : Nat) (a0 : ByteArray) (l1 : List S56) : Option (ByteArray × Int) :=
 (edit_Check.f k (a0.size : Int) l1).bind fun e => if e = 0 then (if l1.length ≤ 1000 ∧ (l1.all fun x => decide ((0 ≤ x.f0 ∧ x.f0 ≤ 900) ∧ (0 ≤ x.f1 ∧ x.f1 ≤ 900) ∧ x.f2.size ≤ 100000)) = true then some (tellF l1, 0) else none) else some (⟨#[]⟩, e)
theorem diff_Tell.mono : ∀ a0 a1 k, LeO (diff_Tell.f k a0 a1) (diff_Tell.f (k + 1) a0 a1) := by
 intro a0 a1 k
 unfold diff_Tell.f
 exact LeO.bind (edit_Check.mono _ _ _) (fun _ => LeO.refl _)
set_option maxHeartbeats 8000000 in
set_option maxRecDepth 100000 in
theorem diff_Tell.calls (k : Nat) (a0 : ByteArray) (A1 : Option Addr) (c1 : Nat) (l1 : List S56) (r1 : ByteArray) (r2 : Int) (w : World) (hr1 : Kd.C k56 w A1 l1.length l1) (hc1 : l1.length ≤ c1) (hT : PowW w) (h : diff_Tell.f k a0 l1 = some (r1, r2)) :
  Calls Tryd.prog 25 #[.string a0, .slice A1 l1.length c1] w fun e w' => e = .returned (.tuple #[.string r1, .int .i64 r2]) ∧ Below w.heap.size w w' := by
 unfold diff_Tell.f at h
 obtain ⟨t, hA, h⟩ := Option.bind_eq_some_iff.mp h
 have HA := Aside0.mk hA
 have HR := Aside0.mk hr1
 have HC := Aside0.mk hc1
 have HP := Aside0.mk hT
 clear hA hr1 hc1 hT
 by_cases c : t = 0
 ·rw [if_pos c] at h
  by_cases c2 : l1.length ≤ 1000 ∧ (l1.all fun x => decide ((0 ≤ x.f0 ∧ x.f0 ≤ 900) ∧ (0 ≤ x.f1 ∧ x.f1 ≤ 900) ∧ x.f2.size ≤ 100000)) = true
  ·rw [if_pos c2] at h
   obtain ⟨rfl, rfl⟩ := Prod.mk.inj (Option.some.inj h)
   subst c
   have HL := Aside0.mk c2
   clear c2 h
   go_enter Tryd.func25, Tryd.ntmps25
   go_wp2_with fail
   refine (edit_Check.calls k (a0.size : Int) _ _ l1 0 _ HR.out HC.out HA.out).mono ?_
   rintro e w1 ⟨rfl, hb⟩
   go_wp2_with fail
   have HB := Aside0.mk (below_alloc hb (.cells #[.pointer none, .slice none 0 0] 79))
   have HD := Aside0.mk (show Lib.IsBuilder 79 5 w.heap.size w1.heap.size (Lib.byteCells ((l1.take 0).flatMap tellL)) (w1.alloc (.cells #[.pointer none, .slice none 0 0] 79)) from Or.inl ⟨hb.size, _, blk_new _ _, own_nil _ _ _ _, by simp [Value.ownBlock]⟩)
   clear hb
   generalize (w1.alloc (.cells #[.pointer none, .slice none 0 0] 79)) = wL at HB HD ⊢
   generalize w1.heap.size = gB at HD ⊢
   go_loopg [19] (l1.length + 1) (fun kq v19 w' => ∃ (i : Nat) (a : Int), v19 = .int .i64 a ∧ Aside0 (a = (i : Int)) ∧ Aside0 (kq + i = l1.length + 1 ∧ i ≤ l1.length) ∧ Aside0 (Lib.IsBuilder 79 5 w.heap.size gB (Lib.byteCells ((l1.take i).flatMap tellL)) w') ∧ Aside0 (Below w.heap.size w w'))
   case atStart => exact ⟨0, 0, rfl, ⟨rfl⟩, ⟨⟨by omega, by omega⟩⟩, HD, HB⟩
   case round =>
    clear HD HB
    obtain ⟨i, a, rfl, HE, HK, HD, HB⟩ := hrel
    cases gk with
    | zero => have := HK.out; omega
    | succ k1 =>
     by_cases cc : a < (l1.length : Int)
     ·have c0b : decide (a < (l1.length : Int)) = true := decide_eq_true cc
      have p1 : (0 : Int) ≤ a := by have := HE.out; omega
      have q1 : a < (l1.length : Int) := cc
      obtain ⟨ad, eA, hy0, hy1, hy2⟩ := at_T56 (Kd.C_below HR.out HB.out) a p1 q1
      subst eA
      replace p1 := eq_true p1
      replace q1 := eq_true q1
      clear cc
      go_upto_region 8 with (first | fail)
      have hj : i < l1.length := by have := HE.out; have h_ := of_eq_true q1; omega
      obtain ⟨x, hx⟩ : ∃ x, rd_T56 l1 a = x := ⟨_, rfl⟩
      have hxi : l1[i]? = some x := by
       rw [← hx, HE.out, List.getElem?_eq_getElem hj]
       simp [rd_T56, hj]
      have XB : Aside0 ((0 ≤ x.f0 ∧ x.f0 ≤ 900) ∧ (0 ≤ x.f1 ∧ x.f1 ≤ 900) ∧ x.f2.size ≤ 100000) := ⟨of_decide_eq_true (List.all_eq_true.mp HL.out.2 x (List.mem_of_getElem? hxi))⟩
      obtain ⟨acc, hacc⟩ : ∃ acc, (l1.take i).flatMap tellL = acc := ⟨_, rfl⟩
      have LA : Aside0 (acc.length ≤ 500000000) := ⟨by
       have h1 := tell_len (l1.take i) (fun y hy => of_decide_eq_true (List.all_eq_true.mp HL.out.2 y (List.mem_of_mem_take hy)))
       have h2 : (l1.take i).length ≤ i := List.length_take_le _ _
       have := HL.out.1
       rw [← hacc]
       omega⟩
      have EA : Aside0 ((l1.take (i + 1)).flatMap tellL = acc ++ tellL x) := ⟨by
       obtain ⟨hi, e⟩ := List.getElem?_eq_some_iff.mp hxi
       rw [List.take_succ_eq_append_getElem hi, List.flatMap_append, e, hacc, List.flatMap_cons, List.flatMap_nil, List.append_nil]⟩
      rw [hacc] at HD
      rw [hx]
      clear hy0 hy1 hy2 hx hxi hacc
      have NA := below_alloc (Below.refl wr.heap.size wr) (.cells #[.int .i64 x.f0, .int .i64 x.f1, .string x.f2] 56)
      have BK : Aside0 ((wr.alloc (.cells #[.int .i64 x.f0, .int .i64 x.f1, .string x.f2] 56)).heap[wr.heap.size]? = some (.cells #[.int .i64 x.f0, .int .i64 x.f1, .string x.f2] 56 (0, 0))) := ⟨blk_new _ _⟩
      have n_ := Aside0.mk (isB_below HD.out NA)
      clear HD
      have HD := n_
      clear n_
      have n_ := Aside0.mk (HB.out.trans (NA.mono HB.out.size))
      clear HB
      have HB := n_
      clear n_
      clear NA
      generalize wr.alloc (.cells #[.int .i64 x.f0, .int .i64 x.f1, .string x.f2] 56) = w7 at BK HD HB ⊢
      generalize wr.heap.size = g9 at BK ⊢
      obtain ⟨T1, eT1⟩ : ∃ T : ByteArray, (⟨(Lib.itoa x.f0).toArray⟩ : ByteArray) = T := ⟨_, rfl⟩
      obtain ⟨T2, eT2⟩ : ∃ T : ByteArray, (⟨(Lib.itoa x.f1).toArray⟩ : ByteArray) = T := ⟨_, rfl⟩
      obtain ⟨T3, eT3⟩ : ∃ T : ByteArray, (⟨(qtL x.f2.data.toList).toArray⟩ : ByteArray) = T := ⟨_, rfl⟩
      have S1 : T1.size ≤ 3 := by rw [← eT1]; show (Lib.itoa x.f0).toArray.size ≤ 3; rw [List.size_toArray]; exact itoa_len XB.out.1.1 XB.out.1.2
      have S2 : T2.size ≤ 3 := by rw [← eT2]; show (Lib.itoa x.f1).toArray.size ≤ 3; rw [List.size_toArray]; exact itoa_len XB.out.2.1.1 XB.out.2.1.2
      have S3 : T3.size ≤ 400002 := by
       rw [← eT3]
       show (qtL x.f2.data.toList).toArray.size ≤ _
       rw [List.size_toArray]
       unfold qtL
       have h3 := qt_len x.f2.data.toList
       rw [data_length] at h3
       have h4 := XB.out.2.2
       simp only [List.length_append, List.length_cons, List.length_nil]
       omega
      have b1 : (9223372036854775807 < T1.size + 1) = False := eq_false (by omega)
      have b2 : (9223372036854775807 < T1.size + 1 + T2.size) = False := eq_false (by omega)
      have b3 : (9223372036854775807 < T1.size + 1 + T2.size + 1) = False := eq_false (by omega)
      have b4 : (9223372036854775807 < T1.size + 1 + T2.size + 1 + T3.size) = False := eq_false (by omega)
      have b5 : (9223372036854775807 < T1.size + 1 + T2.size + 1 + T3.size + 1) = False := eq_false (by omega)
      have SS := Aside0.mk (show T1.size ≤ 3 ∧ T2.size ≤ 3 ∧ T3.size ≤ 400002 from ⟨S1, S2, S3⟩)
      have EE := Aside0.mk (show (⟨(Lib.itoa x.f0).toArray⟩ : ByteArray) = T1 ∧ (⟨(Lib.itoa x.f1).toArray⟩ : ByteArray) = T2 ∧ (⟨(qtL x.f2.data.toList).toArray⟩ : ByteArray) = T3 from ⟨eT1, eT2, eT3⟩)
      clear S1 S2 S3 eT1 eT2 eT3
      refine start_ (n := 15) (S := fun w' => w'.cell? ⟨g9, 0, none⟩ = some (.int .i64 x.f0) ∧ w'.cell? ⟨g9, 1, none⟩ = some (.int .i64 x.f1) ∧ w'.cell? ⟨g9, 2, none⟩ = some (.string x.f2)) (ds := []) #[false, false, false, false, false, false, false, false, false, false, false, false, false, false, false] (by kernel_rfl) rfl rfl (held3 (blk_drew BK.out)) (fun hHeld => ?_)
      have n_ := Aside0.mk (blk_drew BK.out)
      clear BK
      have BK := n_
      clear n_
      have n_ := Aside0.mk (below_drew1 HB.out)
      clear HB
      have HB := n_
      clear n_
      have n_ : Aside0 (Lib.IsBuilder 79 5 w.heap.size gB (Lib.byteCells acc) w7.drew) := ⟨HD.out⟩
      clear HD
      have HD := n_
      clear n_
      generalize w7.drew = w8 at BK HB HD hHeld ⊢
      refine pure_ (i := 0) (N := some 23) (v := ?_) (a' := ?_) #[true, false, false, false, false, false, false, false, false, false, false, false, false, false, false] rfl rfl (by kernel_rfl) (fun _ _ _ h => h) (Or.inl ⟨by rfl, ?_⟩) ?_ ?_
      rotate_left
      ·intro w'
       go_simp
       with_reducible rfl
      rotate_left
      ·simp only [Act.put, List.setIfInBounds_toArray, List.set_cons_zero, List.set_cons_succ, i64_w, i32_w]
       rfl
      refine take_ (i := 1) (N := some 24) (v := ?_) (a' := ?_) #[true, true, false, false, false, false, false, false, false, false, false, false, false, false, false] rfl rfl (by kernel_rfl) (fun _ _ _ h => h) (Or.inl ⟨by rfl, ?_⟩) hHeld ?_ ?_
      rotate_left
      ·rintro w' ⟨s0, s1, s2⟩
       go_simp
       with_reducible rfl
      rotate_left
      ·simp only [Act.put, List.setIfInBounds_toArray, List.set_cons_zero, List.set_cons_succ, i64_w, i32_w]
       rfl
      refine pure_ (i := 4) (N := some 27) (v := ?_) (a' := ?_) #[true, true, false, false, true, false, false, false, false, false, false, false, false, false, false] rfl rfl (by kernel_rfl) (fun _ _ _ h => h) (Or.inl ⟨by rfl, ?_⟩) ?_ ?_
      rotate_left
      ·intro w'
       go_simp
       with_reducible rfl
      rotate_left
      ·simp only [Act.put, List.setIfInBounds_toArray, List.set_cons_zero, List.set_cons_succ, i64_w, i32_w]
       rfl
      refine take_ (i := 5) (N := some 28) (v := ?_) (a' := ?_) #[true, true, false, false, true, true, false, false, false, false, false, false, false, false, false] rfl rfl (by kernel_rfl) (fun _ _ _ h => h) (Or.inl ⟨by rfl, ?_⟩) hHeld ?_ ?_
      rotate_left
      ·rintro w' ⟨s0, s1, s2⟩
       go_simp
       with_reducible rfl
      rotate_left
      ·simp only [Act.put, List.setIfInBounds_toArray, List.set_cons_zero, List.set_cons_succ, i64_w, i32_w]
       rfl
      refine pure_ (i := 9) (N := some 32) (v := ?_) (a' := ?_) #[true, true, false, false, true, true, false, false, false, true, false, false, false, false, false] rfl rfl (by kernel_rfl) (fun _ _ _ h => h) (Or.inl ⟨by rfl, ?_⟩) ?_ ?_
      rotate_left
      ·intro w'
       go_simp
       with_reducible rfl
      rotate_left
      ·simp only [Act.put, List.setIfInBounds_toArray, List.set_cons_zero, List.set_cons_succ, i64_w, i32_w]
       rfl
      refine take_ (i := 10) (N := some 33) (v := ?_) (a' := ?_) #[true, true, false, false, true, true, false, false, false, true, true, false, false, false, false] rfl rfl (by kernel_rfl) (fun _ _ _ h => h) (Or.inl ⟨by rfl, ?_⟩) hHeld ?_ ?_
      rotate_left
      ·rintro w' ⟨s0, s1, s2⟩
       go_simp
       with_reducible rfl
      rotate_left
      ·simp only [Act.put, List.setIfInBounds_toArray, List.set_cons_zero, List.set_cons_succ, i64_w, i32_w]
       rfl
      refine one_ (i := 2) (N := some 25) #[true, true, true, false, true, true, false, false, false, true, true, false, false, false, false] rfl rfl (by kernel_rfl) (by decide) (fun K hK => ?_)
      refine goes_ Tryd.func42 (by kernel_rfl) rfl #[.int .i64 x.f0] (by rfl) rfl rfl (by (try simp only [List.map_toArray, List.map_cons, List.map_nil]); first | done | rfl) ?_
      refine (strconv_Itoa.calls x.f0 T1 _ (HP.out.below HB.out) (by unfold strconv_Itoa.f; rw [if_pos (by have := XB.out; omega), EE.out.1])).mono ?_
      rintro e_ w9 ⟨rfl, hb⟩
      refine ⟨_, rfl, ?_⟩
      have n_ := Aside0.mk (blk_below BK.out hb)
      clear BK
      have BK := n_
      clear n_
      have n_ := Aside0.mk (isB_below HD.out hb)
      clear HD
      have HD := n_
      clear n_
      have n_ := Aside0.mk (HB.out.trans (hb.mono HB.out.size))
      clear HB
      have HB := n_
      clear n_
      clear hb
      refine hK.out _ _ (held3 BK.out) (fun hHeld => ?_)
      clear hK K
      refine norm_ (a' := ?_) ?_ ?_
      rotate_left
      ·show Act.put _ (some 25) _ = _
       simp only [Act.put, List.setIfInBounds_toArray, List.set_cons_zero, List.set_cons_succ, i64_w, i32_w]
       rfl
      refine pure_ (i := 3) (N := some 26) (v := ?_) (a' := ?_) #[true, true, true, true, true, true, false, false, false, true, true, false, false, false, false] rfl rfl (by kernel_rfl) (fun _ _ _ h => h) (Or.inl ⟨by rfl, ?_⟩) ?_ ?_
      rotate_left
      ·intro w'
       go_simp
       with_reducible rfl
      rotate_left
      ·simp only [Act.put, List.setIfInBounds_toArray, List.set_cons_zero, List.set_cons_succ, i64_w, i32_w]
       rfl
      refine one_ (i := 6) (N := some 29) #[true, true, true, true, true, true, true, false, false, true, true, false, false, false, false] rfl rfl (by kernel_rfl) (by decide) (fun K hK => ?_)
      refine goes_ Tryd.func42 (by kernel_rfl) rfl #[.int .i64 x.f1] (by rfl) rfl rfl (by (try simp only [List.map_toArray, List.map_cons, List.map_nil]); first | done | rfl) ?_
      refine (strconv_Itoa.calls x.f1 T2 _ (HP.out.below HB.out) (by unfold strconv_Itoa.f; rw [if_pos (by have := XB.out; omega), EE.out.2.1])).mono ?_
      rintro e_ w10 ⟨rfl, hb⟩
      refine ⟨_, rfl, ?_⟩
      have n_ := Aside0.mk (blk_below BK.out hb)
      clear BK
      have BK := n_
      clear n_
      have n_ := Aside0.mk (isB_below HD.out hb)
      clear HD
      have HD := n_
      clear n_
      have n_ := Aside0.mk (HB.out.trans (hb.mono HB.out.size))
      clear HB
      have HB := n_
      clear n_
      clear hb
      refine hK.out _ _ (held3 BK.out) (fun hHeld => ?_)
      clear hK K
      refine norm_ (a' := ?_) ?_ ?_
      rotate_left
      ·show Act.put _ (some 29) _ = _
       simp only [Act.put, List.setIfInBounds_toArray, List.set_cons_zero, List.set_cons_succ, i64_w, i32_w]
       rfl
      refine pure_ (i := 7) (N := some 30) (v := ?_) (a' := ?_) #[true, true, true, true, true, true, true, true, false, true, true, false, false, false, false] rfl rfl (by kernel_rfl) (fun _ _ _ h => h) (Or.inl ⟨by rfl, ?_⟩) ?_ ?_
      rotate_left
      ·intro w'
       go_simp
       with_reducible rfl
      rotate_left
      ·simp only [Act.put, List.setIfInBounds_toArray, List.set_cons_zero, List.set_cons_succ, i64_w, i32_w]
       rfl
      refine pure_ (i := 8) (N := some 31) (v := ?_) (a' := ?_) #[true, true, true, true, true, true, true, true, true, true, true, false, false, false, false] rfl rfl (by kernel_rfl) (fun _ _ _ h => h) (Or.inl ⟨by rfl, ?_⟩) ?_ ?_
      rotate_left
      ·intro w'
       go_simp
       with_reducible rfl
      rotate_left
      ·simp only [Act.put, List.setIfInBounds_toArray, List.set_cons_zero, List.set_cons_succ, i64_w, i32_w]
       rfl
      refine one_ (i := 11) (N := some 34) #[true, true, true, true, true, true, true, true, true, true, true, true, false, false, false] rfl rfl (by kernel_rfl) (by decide) (fun K hK => ?_)
      refine goes_ Tryd.func43 (by kernel_rfl) rfl #[.string x.f2] (by rfl) rfl rfl (by (try simp only [List.map_toArray, List.map_cons, List.map_nil]); first | done | rfl) ?_
      refine (quote_ x.f2 (by have := XB.out.2.2; omega) _).mono ?_
      rintro e_ w11 ⟨rfl, hb⟩
      rw [EE.out.2.2]
      refine ⟨_, rfl, ?_⟩
      have n_ := Aside0.mk (blk_below BK.out hb)
      clear BK
      have BK := n_
      clear n_
      have n_ := Aside0.mk (isB_below HD.out hb)
      clear HD
      have HD := n_
      clear n_
      have n_ := Aside0.mk (HB.out.trans (hb.mono HB.out.size))
      clear HB
      have HB := n_
      clear n_
      clear hb
      refine hK.out _ _ (held3 BK.out) (fun hHeld => ?_)
      clear hK K
      refine norm_ (a' := ?_) ?_ ?_
      rotate_left
      ·show Act.put _ (some 34) _ = _
       simp only [Act.put, List.setIfInBounds_toArray, List.set_cons_zero, List.set_cons_succ, i64_w, i32_w]
       rfl
      refine pure_ (i := 12) (N := some 35) (v := ?_) (a' := ?_) #[true, true, true, true, true, true, true, true, true, true, true, true, true, false, false] rfl rfl (by kernel_rfl) (fun _ _ _ h => h) (Or.inl ⟨by rfl, ?_⟩) ?_ ?_
      rotate_left
      ·intro w'
       go_simp
       with_reducible rfl
      rotate_left
      ·simp only [Act.put, List.setIfInBounds_toArray, List.set_cons_zero, List.set_cons_succ, i64_w, i32_w]
       rfl
      refine pure_ (i := 13) (N := some 36) (v := ?_) (a' := ?_) #[true, true, true, true, true, true, true, true, true, true, true, true, true, true, false] rfl rfl (by kernel_rfl) (fun _ _ _ h => h) (Or.inl ⟨by rfl, ?_⟩) ?_ ?_
      rotate_left
      ·intro w'
       go_simp
       with_reducible rfl
      rotate_left
      ·simp only [Act.put, List.setIfInBounds_toArray, List.set_cons_zero, List.set_cons_succ, i64_w, i32_w]
       rfl
      refine one_ (i := 14) (N := some 37) #[true, true, true, true, true, true, true, true, true, true, true, true, true, true, true] rfl rfl (by kernel_rfl) (by decide) (fun K hK => ?_)
      refine goes_ Tryd.func40 (by kernel_rfl) rfl #[.pointer (some ⟨gB, 0, none⟩), .string ((((T1 ++ ⟨#[32]⟩) ++ T2) ++ ⟨#[32]⟩) ++ T3 ++ ⟨#[10]⟩)] (by rfl) rfl rfl (by (try simp only [List.map_toArray, List.map_cons, List.map_nil]); first | done | rfl) ?_
      refine (writeString_any w.heap.size gB (Lib.byteCells acc) _ _ HD.out (by rw [Lib.byteCells_length]; have := LA.out; have := SS.out; simp only [ByteArray.size_append]; show _ + (_ + 1 + _ + 1 + _ + 1) ≤ _; omega) HB.out.size).mono ?_
      rintro e_ w12 ⟨rfl, hd, hb, hk⟩
      refine ⟨_, rfl, ?_⟩
      have ET : ((((T1 ++ ⟨#[32]⟩) ++ T2) ++ ⟨#[32]⟩) ++ T3 ++ (⟨#[10]⟩ : ByteArray)).data.toList = tellL x := by
       rw [← EE.out.1, ← EE.out.2.1, ← EE.out.2.2]
       unfold tellL
       simp only [ByteArray.data_append, Array.toList_append]
      have n_ := Aside0.mk (bld_str hd)
      rw [ET] at n_
      clear ET hd HD
      have HD := n_
      clear n_
      have n_ := Aside0.mk (HB.out.trans hb)
      clear HB
      have HB := n_
      clear n_
      refine hK.out _ _ (held3 (hk _ _ _ BK.out (by decide) (by decide))) (fun hHeld => ?_)
      clear hb BK hHeld hk
      clear hK K
      refine norm_ (a' := ?_) ?_ ?_
      rotate_left
      ·show Act.put _ (some 37) _ = _
       simp only [Act.put, List.setIfInBounds_toArray, List.set_cons_zero, List.set_cons_succ, i64_w, i32_w]
       rfl
      refine done_ (by kernel_rfl) ?_
      have e1 : wrap64 (a + 1) = a + 1 := by
       have := HE.out
       have := HL.out.1
       unfold wrap64
       omega
      go_wp2_with fail
      go_roundg k1
      case measure => omega
      case rel => exact ⟨i + 1, a + 1, by first | rfl | rw [e1], ⟨by rw [HE.out]; rfl⟩, ⟨by have := HK.out; have h_ := of_eq_true q1; have := HE.out; omega⟩, ⟨by rw [EA.out]; exact HD.out⟩, HB⟩
     ·have c0b : decide (a < (l1.length : Int)) = false := decide_eq_false cc
      have EI : Aside0 ((l1.take i).flatMap tellL = l1.flatMap tellL) := ⟨by rw [List.take_of_length_le (by have := HE.out; omega)]⟩
      rw [EI.out] at HD
      clear cc EI
      go_wp2_with fail
      refine (Tryd.Builder_String_any w.heap.size gB _ _ HD.out HB.out.size).mono ?_
      rintro e w6 ⟨rfl, hb⟩
      go_wp2_with fail
      go_ret2
      exact ⟨rfl, HB.out.trans hb⟩
  ·rw [if_neg c2] at h
   cases h
 ·rw [if_neg c] at h
  obtain ⟨rfl, rfl⟩ := Prod.mk.inj (Option.some.inj h)
  have cb : (t == 0) = false := beq_eq_false_iff_ne.mpr c
  have cb2 : (t != 0) = true := bne_iff_ne.mpr c
  clear c h
  go_enter Tryd.func25, Tryd.ntmps25
  go_wp2_with fail
  refine (edit_Check.calls k (a0.size : Int) _ _ l1 _ _ HR.out HC.out HA.out).mono ?_
  rintro e w1 ⟨rfl, hb⟩
  go_wp2_with fail
  go_ret2
  exact ⟨rfl, hb⟩
end Go.Proofs.YtnemooemifbbhaaDoor.PDT
