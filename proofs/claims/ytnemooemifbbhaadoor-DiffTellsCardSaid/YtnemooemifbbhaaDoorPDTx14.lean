-- Written by ownprint.py, a program of this session (out of the kit's print, with contracts of the session's own).
import Derived.Test.YtnemooemifbbhaaDoorPDTx0
import Derived.Test.YtnemooemifbbhaaDoorPDTx9
import Derived.Test.YtnemooemifbbhaaDoorPDTx10
import Derived.Test.YtnemooemifbbhaaDoorPDTx13
namespace Go.Proofs.YtnemooemifbbhaaDoor.PDT
open Go.RowKit Go.Proofs.YtnemooemifbbhaaDoorW.PrintWords Go.Proofs.YtnemooemifbbhaaDoorW.PrintLast Go.Proofs.YtnemooemifbbhaaDoorW.PrintMore
attribute [local go_sem] max2_int min2_int max_two min_two max_three min_three max_four min_four   -- for this text's walks alone
set_option linter.unusedVariables false
set_option linter.unusedSimpArgs false
/-! ### report_Unquote: function 59 -/
def unqGo (k : Nat) : Nat → ByteArray → List UInt8 → Option (Option (List UInt8))
 | 0, _, _ => none
 | n + 1, s, out => if s.size = 0 then some (some out) else (report_one.f k s).bind fun t => if t.2 = 0 then some none else if 1 ≤ t.2 ∧ t.2 ≤ (s.size : Int) ∧ 0 ≤ t.1 ∧ t.1 < 256 then unqGo k n (s.extract t.2.toNat s.size) (out ++ [UInt8.ofNat t.1.toNat]) else none
theorem unqGo_mono (k : Nat) : ∀ (n : Nat) (s : ByteArray) (out : List UInt8), LeO (unqGo k n s out) (unqGo (k + 1) n s out)
 | 0, _, _ => LeO.none _
 | n + 1, s, out => by
  unfold unqGo
  refine LeO.ite (LeO.refl _) (LeO.bind (report_one.mono _ _) (fun t => LeO.ite (LeO.refl _) (LeO.ite (unqGo_mono k n _ _) (LeO.refl _))))
def unqEnd (a0 : ByteArray) (t : Option (List UInt8)) : ByteArray × Bool := match t with
 | none => (⟨#[]⟩, false)
 | some out => if (⟨(qtL out).toArray⟩ : ByteArray) = a0 then (⟨out.toArray⟩, true) else (⟨#[]⟩, false)
def report_Unquote.f (k : Nat) (a0 : ByteArray) : Option (ByteArray × Bool) :=
 if a0.size ≤ 200000000 then (if a0.size < 2 then some (⟨#[]⟩, false) else if bt a0 0 = 34 ∧ bt a0 ((a0.size : Int) - 1) = 34 then (unqGo k (a0.size + 1) (a0.extract 1 (a0.size - 1)) []).bind fun t => some (unqEnd a0 t) else some (⟨#[]⟩, false)) else none
theorem report_Unquote.mono : ∀ a0 k, LeO (report_Unquote.f k a0) (report_Unquote.f (k + 1) a0) := by
 intro a0 k
 unfold report_Unquote.f
 exact LeO.ite (LeO.ite (LeO.refl _) (LeO.ite (LeO.bind (unqGo_mono _ _ _ _) (fun _ => LeO.refl _)) (LeO.refl _))) (LeO.refl _)
theorem isBld_below {T e B b : Nat} {bs : List Value} {w w' : World} (h : Lib.IsBuilderF T e B b bs w) (hb : Below w.heap.size w w') : Lib.IsBuilderF T e B b bs w' := by
 have key : ∀ p, Lib.BuilderAtF T e B b p bs w → Lib.BuilderAtF T e B b p bs w' := by
  rintro p ⟨hB, v, hk, hown, hne⟩
  have e1 : ∀ g o, w.heap[g]? = some o → w'.heap[g]? = some o := fun g o hg => by rw [hb.block g (blk_lt hg)]; exact hg
  refine ⟨hB, v, e1 _ _ hk, ⟨hown.1, ?_⟩, hne⟩
  rcases hown.2 with hn | ⟨g, cap, cur, fz, h1, h2, h3, rest⟩
  ·exact Or.inl hn
  ·exact Or.inr ⟨g, cap, cur, fz, h1, h2, e1 _ _ h3, rest⟩
 rcases h with h | h
 ·exact Or.inl (key _ h)
 ·exact Or.inr (key _ h)
set_option maxHeartbeats 8000000 in
set_option maxRecDepth 100000 in
theorem report_Unquote.calls (k : Nat) (a0 : ByteArray) (r1 : ByteArray) (r2 : Bool) (w : World) (h : report_Unquote.f k a0 = some (r1, r2)) :
  Calls Tryd.prog 59 #[.string a0] w fun e w' => e = .returned (.tuple #[.string r1, .bool r2]) ∧ Below w.heap.size w w' := by
 unfold report_Unquote.f at h
 by_cases cz : a0.size ≤ 200000000
 ·rw [if_pos cz] at h
  by_cases c2 : a0.size < 2
  ·rw [if_pos c2] at h
   obtain ⟨rfl, rfl⟩ := Prod.mk.inj (Option.some.inj h)
   have d1 : decide ((a0.size : Int) < 2) = true := decide_eq_true (by omega)
   have d2 : decide (a0.size < 2) = true := decide_eq_true (by omega)
   clear c2 cz h
   go_enter Tryd.func59, Tryd.ntmps59
   go_wp2
   repeat (go_quiet (fail); try go_wp2)
   go_ret2
   exact ⟨rfl, Below.refl _ _⟩
  ·rw [if_neg c2] at h
   have d1 : decide ((a0.size : Int) < 2) = false := decide_eq_false (by omega)
   have d2 : decide (a0.size < 2) = false := decide_eq_false (by omega)
   obtain ⟨j, hj⟩ : ∃ j : Int, j = (a0.size : Int) - 1 := ⟨_, rfl⟩
   have hjw : IntKind.i64.wrap ((a0.size : Int) - 1) = j := by
    rw [i64_w, hj]
    unfold wrap64
    omega
   have hx0 : ∀ h : 0 < a0.size, ((a0[0]'h).toNat : Int) = bt a0 0 := bt_at a0 0
   have hxj : ∀ h : j.toNat < a0.size, ((a0[j.toNat]'h).toNat : Int) = bt a0 j := bt_at a0 j
   rw [← hj] at h
   have q0 : (0 < a0.size) = True := eq_true (by omega)
   have q0i : (0 < (a0.size : Int)) = True := eq_true (by omega)
   have qj0 : (0 ≤ j) = True := eq_true (by omega)
   have qj1 : (j.toNat < a0.size) = True := eq_true (by omega)
   have qj2 : (j < (a0.size : Int)) = True := eq_true (by omega)
   have qj3 : decide (0 ≤ j) = true := decide_eq_true (by omega)
   have qj4 : decide (j < (a0.size : Int)) = true := decide_eq_true (by omega)
   by_cases ca : bt a0 0 = 34
   ·have ca0 : (bt a0 0 == 34) = true := beq_iff_eq.mpr ca
    have ca1 : (bt a0 0 != 34) = false := bne_eq_false_iff_eq.mpr ca
    by_cases cb : bt a0 j = 34
    ·rw [if_pos ⟨ca, cb⟩] at h
     have cb0 : (bt a0 j == 34) = true := beq_iff_eq.mpr cb
     have cb1 : (bt a0 j != 34) = false := bne_eq_false_iff_eq.mpr cb
     have qj5 : (1 ≤ j) = True := eq_true (by omega)
     have qj6 : (j ≤ (a0.size : Int)) = True := eq_true (by omega)
     have qj7 : decide (1 ≤ j) = true := decide_eq_true (by omega)
     have qj8 : decide (j ≤ (a0.size : Int)) = true := decide_eq_true (by omega)
     obtain ⟨t, hG, h⟩ := Option.bind_eq_some_iff.mp h
     have ej : j.toNat = a0.size - 1 := by omega
     rw [← ej] at hG
     have HG := Aside0.mk hG
     have HE := Aside0.mk h
     have HZ := Aside0.mk cz
     have HJ := Aside0.mk hj
     have HS := Aside0.mk (show (a0.extract 1 j.toNat).size + 2 = a0.size by rw [ByteArray.size_extract]; omega)
     clear c2 cz hj h hG ca cb ej
     go_enter Tryd.func59, Tryd.ntmps59
     go_wp2_with fail
     repeat (go_quiet (fail); try go_wp2_with fail)
     have HB := Aside0.mk (below_alloc (Below.refl w.heap.size w) (.cells #[.pointer none, .slice none 0 0] 79))
     have HD := Aside0.mk (show Lib.IsBuilder 79 5 w.heap.size w.heap.size (Lib.byteCells []) (w.alloc (.cells #[.pointer none, .slice none 0 0] 79)) from Or.inl ⟨Nat.le_refl _, _, blk_new _ _, own_nil _ _ _ _, by simp [Value.ownBlock]⟩)
     generalize (w.alloc (.cells #[.pointer none, .slice none 0 0] 79)) = wL at HB HD ⊢
     clear d1 d2 hjw hx0 hxj q0 q0i qj0 qj1 qj2 qj3 qj4 ca0 ca1 cb0 cb1 qj5 qj6 qj7 qj8
     go_loopg [5, 6, 7] (a0.size + 1) (fun kq v5 v6 v7 w' => ∃ (s : ByteArray) (out : List UInt8), v5 = .string s ∧ Aside0 (unqGo k kq s out = some t) ∧ Aside0 (kq ≤ a0.size + 1 ∧ s.size ≤ a0.size ∧ out.length + s.size ≤ a0.size) ∧ Aside0 (Lib.IsBuilder 79 5 w.heap.size w.heap.size (Lib.byteCells out) w') ∧ Aside0 (Below w.heap.size w w'))
     case atStart => exact ⟨_, [], rfl, HG, ⟨⟨Nat.le_refl _, by have := HS.out; omega, by have := HS.out; show 0 + _ ≤ _; omega⟩⟩, HD, HB⟩
     case round =>
      clear HG HD HB HJ HS
      obtain ⟨s, out, rfl, HG, HK, HD, HB⟩ := hrel
      cases gk with
      | zero => exact absurd HG.out (by simp [unqGo])
      | succ k1 =>
       have H := HG.out
       clear HG
       simp only [unqGo] at H
       by_cases cs : s.size = 0
       ·rw [if_pos cs] at H
        have et := Option.some.inj H
        have es : s = ⟨#[]⟩ := by
         rcases s with ⟨⟨l⟩⟩
         cases l with
         | nil => rfl
         | cons a l => exact absurd cs (by simp [ByteArray.size])
        subst es
        subst et
        have HEE := HE.out
        clear HE H cs
        have LQ : Aside0 (out.length ≤ 200000000) := ⟨by have := HK.out; have := HZ.out; omega⟩
        have HF := Aside0.mk (Lib.IsBuilderF.of HD.out)
        clear HD
        go_wp2_with fail
        refine (Tryd.Builder_String_any_f w.heap.size w.heap.size _ _ HF.out HB.out.size).mono ?_
        rintro e w2 ⟨rfl, hf, hb⟩
        have n_ := Aside0.mk hf
        have m_ := Aside0.mk (HB.out.trans hb)
        clear HF HB hf hb
        have HF := n_
        have HB := m_
        clear n_ m_
        go_wp2_with fail
        refine (quote_ ⟨out.toArray⟩ (by have := LQ.out; show out.toArray.size ≤ _; rw [List.size_toArray]; omega) _).mono ?_
        rintro e w3 ⟨rfl, hb⟩
        have n_ := Aside0.mk (isBld_below HF.out hb)
        have m_ := Aside0.mk (HB.out.trans (hb.mono HB.out.size))
        clear HF HB hb
        have HF := n_
        have HB := m_
        clear n_ m_
        have eo : (⟨(qtL (⟨out.toArray⟩ : ByteArray).data.toList).toArray⟩ : ByteArray) = ⟨(qtL out).toArray⟩ := rfl
        rw [eo]
        clear eo
        by_cases ce : (⟨(qtL out).toArray⟩ : ByteArray) = a0
        ·have eu : unqEnd a0 (some out) = (⟨out.toArray⟩, true) := if_pos ce
         rw [eu] at HEE
         obtain ⟨rfl, rfl⟩ := Prod.mk.inj (Option.some.inj HEE)
         have t1 : ((⟨(qtL out).toArray⟩ : ByteArray).toList == a0.toList) = true := by rw [ce]; exact beq_self_eq_true _
         clear eu HEE ce
         generalize (⟨(qtL out).toArray⟩ : ByteArray) = qs at t1 ⊢
         go_wp2_with fail
         refine (Tryd.Builder_String_any_f w.heap.size w.heap.size _ _ HF.out HB.out.size).mono ?_
         rintro e w4 ⟨rfl, _, hb⟩
         go_wp2_with fail
         go_ret2
         exact ⟨rfl, HB.out.trans hb⟩
        ·have eu : unqEnd a0 (some out) = (⟨#[]⟩, false) := if_neg ce
         rw [eu] at HEE
         obtain ⟨rfl, rfl⟩ := Prod.mk.inj (Option.some.inj HEE)
         clear eu HEE
         generalize (⟨(qtL out).toArray⟩ : ByteArray) = qs at ce ⊢
         have t1 : (qs.toList == a0.toList) = false := beq_eq_false_iff_ne.mpr (fun h => ce (by rw [ByteArray.toList_eq, ByteArray.toList_eq] at h; exact ByteArray.ext (Array.toList_inj.mp h)))
         clear ce
         go_wp2_with fail
         go_ret2
         exact ⟨rfl, HB.out⟩
       ·rw [if_neg cs] at H
        have n1 : ¬ s.toList = [] := fun h => cs (by rw [(toList_nil_iff_emptyBytes s).mp h]; rfl)
        have n2 : s.toList.isEmpty = false := by
         cases hh : s.toList with
         | nil => exact absurd hh n1
         | cons a l => rfl
        obtain ⟨⟨c, n⟩, A1, H⟩ := Option.bind_eq_some_iff.mp H
        have HA := Aside0.mk A1
        by_cases cn : n = 0
        ·subst cn
         rw [if_pos rfl] at H
         have et := Option.some.inj H
         subst et
         obtain ⟨rfl, rfl⟩ := Prod.mk.inj (Option.some.inj HE.out)
         clear H HE A1 cs
         go_wp2_with fail
         refine (report_one.calls k s c 0 _ HA.out).mono ?_
         rintro e w5 ⟨rfl, ⟨nd, rfl⟩⟩
         go_wp2_with fail
         go_ret2
         exact ⟨rfl, pw_below_drewN HB.out nd⟩
        ·rw [if_neg cn] at H
         by_cases cr : 1 ≤ n ∧ n ≤ (s.size : Int) ∧ 0 ≤ c ∧ c < 256
         ·rw [if_pos cr] at H
          have H' := Aside0.mk H
          have HR := Aside0.mk cr
          have p1 : (n == 0) = false := beq_eq_false_iff_ne.mpr cn
          have p2 : (0 ≤ n) = True := eq_true (by omega)
          have p3 : (n ≤ (s.size : Int)) = True := eq_true (by omega)
          clear H A1 cs cn cr
          go_wp2_with fail
          refine (report_one.calls k s c n _ HA.out).mono ?_
          rintro e w5 ⟨rfl, ⟨nd, rfl⟩⟩
          go_wp2_with fail
          have HD1 : Aside0 (Lib.IsBuilder 79 5 w.heap.size w.heap.size (Lib.byteCells out) (wr.drewN nd)) := ⟨HD.out⟩
          have HB1 := Aside0.mk (pw_below_drewN HB.out nd)
          clear HD HB
          generalize wr.drewN nd = wd at HD1 HB1 ⊢
          refine (writeByte_any w.heap.size w.heap.size (Lib.byteCells out) c _ HD1.out (by rw [Lib.byteCells_length]; have := HK.out; have := HZ.out; omega) HB1.out.size).mono ?_
          rintro e w6 ⟨rfl, hd, hb⟩
          have ec : c = ((UInt8.ofNat c.toNat).toNat : Int) := by
           rw [UInt8.toNat_ofNat_of_lt' (by have := HR.out; show c.toNat < 256; omega)]
           have := HR.out
           omega
          have n_ : Aside0 (Lib.IsBuilder 79 5 w.heap.size w.heap.size (Lib.byteCells (out ++ [UInt8.ofNat c.toNat])) w6) := by
           generalize UInt8.ofNat c.toNat = c8 at ec ⊢
           rw [ec] at hd
           exact ⟨bld_byte hd⟩
          have m_ := Aside0.mk (HB1.out.trans hb)
          clear HD1 HB1 hd hb ec
          go_wp2_with fail
          go_roundg k1
          case measure => omega
          case rel => exact ⟨_, _, rfl, H', ⟨by have := HK.out; have := HR.out; rw [ByteArray.size_extract, List.length_append, List.length_singleton]; omega⟩, n_, m_⟩
         ·rw [if_neg cr] at H
          cases H
    ·rw [if_neg (fun h => cb h.2)] at h
     obtain ⟨rfl, rfl⟩ := Prod.mk.inj (Option.some.inj h)
     have cb0 : (bt a0 j == 34) = false := beq_eq_false_iff_ne.mpr cb
     have cb1 : (bt a0 j != 34) = true := bne_iff_ne.mpr cb
     clear c2 cz hj h ca cb
     go_enter Tryd.func59, Tryd.ntmps59
     go_wp2
     repeat (go_quiet (fail); try go_wp2)
     go_ret2
     exact ⟨rfl, Below.refl _ _⟩
   ·rw [if_neg (fun h => ca h.1)] at h
    obtain ⟨rfl, rfl⟩ := Prod.mk.inj (Option.some.inj h)
    have ca0 : (bt a0 0 == 34) = false := beq_eq_false_iff_ne.mpr ca
    have ca1 : (bt a0 0 != 34) = true := bne_iff_ne.mpr ca
    clear c2 cz hj h ca
    go_enter Tryd.func59, Tryd.ntmps59
    go_wp2
    repeat (go_quiet (fail); try go_wp2)
    go_ret2
    exact ⟨rfl, Below.refl _ _⟩
 ·rw [if_neg cz] at h
  cases h
end Go.Proofs.YtnemooemifbbhaaDoor.PDT
