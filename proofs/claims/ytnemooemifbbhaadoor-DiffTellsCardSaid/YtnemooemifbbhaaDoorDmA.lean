/- Several texts of this session's, one behind the other: what each proves stands ahead of it. -/
import Derived.Test.YtnemooemifbbhaaDoorPDTx4
import Derived.Test.YtnemooemifbbhaaDoorTabF
import Derived.Test.YtnemooemifbbhaaDoorPDTx6s
import Derived.Test.YtnemooemifbbhaaDoorPDTx6
import Derived.Test.YtnemooemifbbhaaDoorPDTx7
namespace Go.Proofs.YtnemooemifbbhaaDoor.Dm
open Go Go.RowKit Go.Proofs.YtnemooemifbbhaaDoorW.PrintWords Go.Proofs.YtnemooemifbbhaaDoorW.PrintLast Go.Proofs.YtnemooemifbbhaaDoorW.PrintMore Go.Proofs.YtnemooemifbbhaaDoor.PDT
set_option linter.unusedVariables false
set_option linter.unusedSimpArgs false
theorem wid {x : Int} (h0 : -9223372036854775808 ≤ x) (h1 : x ≤ 9223372036854775807) : wrap64 x = x := by
 unfold wrap64
 omega
theorem Ev.ite_pos {α : Type} {c : Prop} [Decidable c] {f g : Nat → Option α} {r : α} (h : c) (k : Ev f r) : Ev (fun n => if c then f n else g n) r := by
 simp only [if_pos h]; exact k
theorem Ev.ite_neg {α : Type} {c : Prop} [Decidable c] {f g : Nat → Option α} {r : α} (h : ¬ c) (k : Ev g r) : Ev (fun n => if c then f n else g n) r := by
 simp only [if_neg h]; exact k
theorem toList_eq (s : ByteArray) : s.toList = s.data.toList := ByteArray.toList_eq s
def bs (s : ByteArray) : List UInt8 := s.data.toList
def ofL (l : List UInt8) : ByteArray := ⟨l.toArray⟩
theorem bs_ofL (l : List UInt8) : bs (ofL l) = l := rfl
theorem ofL_bs (s : ByteArray) : ofL (bs s) = s := by cases s; rfl
theorem bs_len (s : ByteArray) : (bs s).length = s.size := rfl
theorem ofL_size (l : List UInt8) : (ofL l).size = l.length := by
 show (ofL l).data.size = _
 simp [ofL]
theorem bs_ext {a b : ByteArray} (h : bs a = bs b) : a = b := by rw [← ofL_bs a, ← ofL_bs b, h]
theorem bs_extract (s : ByteArray) (a b : Nat) : bs (s.extract a b) = ((bs s).drop a).take (b - a) := by
 unfold bs
 rw [ByteArray.data_extract, Array.toList_extract, List.extract_eq_take_drop]
theorem extract_ofL (l : List UInt8) (a b : Nat) : (ofL l).extract a b = ofL ((l.drop a).take (b - a)) := bs_ext (by rw [bs_extract, bs_ofL, bs_ofL])
def spl : List UInt8 → List (List UInt8)
 | [] => [[]]
 | c :: r => if c = 10 then [10] :: spl r else match spl r with
  | h :: t => (c :: h) :: t
  | [] => [[c]]
def conh (cur : List UInt8) : List (List UInt8) → List (List UInt8)
 | h :: t => (cur ++ h) :: t
 | [] => []
def dle (L : List (List UInt8)) : List (List UInt8) := if L.getLast? = some [] then L.dropLast else L
def gl : List UInt8 → List UInt8 → List (List UInt8)
 | _, [] => []
 | cur, c :: r => if c = 10 then (cur ++ [c]) :: gl [] r else if r = [] then [cur ++ [c]] else gl (cur ++ [c]) r
def lns (l : List UInt8) : List (List UInt8) := gl [] l
def lines (s : ByteArray) : List ByteArray := (lns (bs s)).map ofL
theorem spl_ne (l : List UInt8) : spl l ≠ [] := by
 cases l with
 | nil => simp [spl]
 | cons c r =>
  rw [spl]
  split
  ·simp
  ·split <;> simp
theorem spl_cons (c : UInt8) (r : List UInt8) (hc : c ≠ 10) : ∃ h t, spl r = h :: t ∧ spl (c :: r) = (c :: h) :: t := by
 obtain ⟨h, t, e⟩ := List.exists_cons_of_ne_nil (spl_ne r)
 refine ⟨h, t, e, ?_⟩
 rw [spl, if_neg hc, e]
theorem spl_len (l : List UInt8) : (spl l).length = l.count 10 + 1 := by
 induction l with
 | nil => rfl
 | cons c r ih =>
  by_cases hc : c = 10
  ·rw [spl, if_pos hc, hc, List.count_cons_self, List.length_cons, ih]
  ·obtain ⟨h, t, e1, e2⟩ := spl_cons c r hc
   rw [e2, List.count_cons_of_ne (by simpa using fun e => hc e), ← ih, e1]
   rfl
theorem conh_nil (L : List (List UInt8)) : conh [] L = L := by cases L <;> rfl
theorem dle_cons (x : List UInt8) (L : List (List UInt8)) (h : L ≠ []) : dle (x :: L) = x :: dle L := by
 obtain ⟨y, M, rfl⟩ := List.exists_cons_of_ne_nil h
 unfold dle
 rw [List.getLast?_cons_cons]
 split <;> simp
theorem gl_spl : ∀ (l cur : List UInt8), (l ≠ [] ∨ cur = []) → gl cur l = dle (conh cur (spl l))
 | [], cur, h => by
  have : cur = [] := h.resolve_left (by simp)
  subst this
  rfl
 | c :: r, cur, h => by
  rw [gl]
  by_cases hc : c = 10
  ·rw [if_pos hc, spl, if_pos hc, hc]
   show _ = dle ((cur ++ [10]) :: spl r)
   rw [dle_cons _ _ (spl_ne r), gl_spl r [] (.inr rfl), conh_nil]
  ·rw [if_neg hc]
   by_cases hr : r = []
   ·subst hr
    rw [if_pos rfl, spl, if_neg hc]
    show [cur ++ [c]] = dle [cur ++ [c]]
    unfold dle
    rw [if_neg (by simp)]
   ·rw [if_neg hr, gl_spl r (cur ++ [c]) (.inl hr)]
    obtain ⟨h', t, e1, e2⟩ := spl_cons c r hc
    rw [e2, e1]
    simp [conh]
theorem lns_spl (l : List UInt8) : lns l = dle (spl l) := by
 unfold lns
 rw [gl_spl l [] (.inr rfl), conh_nil]
theorem gl_flat : ∀ (l cur : List UInt8), (l ≠ [] ∨ cur = []) → (gl cur l).flatten = cur ++ l
 | [], cur, h => by
  have : cur = [] := h.resolve_left (by simp)
  subst this
  rfl
 | c :: r, cur, h => by
  rw [gl]
  by_cases hc : c = 10
  ·rw [if_pos hc, List.flatten_cons, gl_flat r [] (.inr rfl)]
   simp
  ·rw [if_neg hc]
   by_cases hr : r = []
   ·subst hr
    rw [if_pos rfl]
    simp
   ·rw [if_neg hr, gl_flat r _ (.inl hr)]
    simp
theorem gl_len : ∀ (l cur : List UInt8), (gl cur l).length ≤ l.length
 | [], cur => Nat.le_refl _
 | c :: r, cur => by
  rw [gl]
  split
  ·simp only [List.length_cons]
   have := gl_len r []
   omega
  ·split
   ·simp
   ·have := gl_len r (cur ++ [c])
    simp only [List.length_cons]
    omega
theorem gl_ne : ∀ (l cur : List UInt8), ∀ x ∈ gl cur l, x ≠ []
 | [], cur, x, h => by cases h
 | c :: r, cur, x, h => by
  rw [gl] at h
  split at h
  ·rcases List.mem_cons.mp h with rfl | h
   ·simp
   ·exact gl_ne r [] x h
  ·split at h
   ·rcases List.mem_cons.mp h with rfl | h
    ·simp
    ·cases h
   ·exact gl_ne r _ x h
theorem lines_flat (s : ByteArray) : ((lines s).map bs).flatten = bs s := by
 unfold lines
 rw [List.map_map, show bs ∘ ofL = id from rfl, List.map_id]
 exact gl_flat _ _ (.inr rfl)
theorem lines_len (s : ByteArray) : (lines s).length ≤ s.size := by
 unfold lines
 rw [List.length_map]
 exact gl_len _ _
theorem lines_ne (s : ByteArray) : ∀ x ∈ lines s, 0 < x.size := by
 intro x hx
 obtain ⟨y, hy, rfl⟩ := List.mem_map.mp hx
 rw [ofL_size]
 exact List.length_pos_iff.mpr (gl_ne _ _ y hy)
/-! ### strings.SplitAfter -/
theorem idx_none : ∀ l : List UInt8, Lib.indexByte l 10 = -1 → spl l = [l]
 | [], _ => rfl
 | c :: r, h => by
  unfold Lib.indexByte at h
  by_cases hc : c = 10
  ·rw [if_pos (by simp [hc])] at h
   cases h
  ·rw [if_neg (by simpa using hc)] at h
   have hr : Lib.indexByte r 10 = -1 := by
    by_cases e : (Lib.indexByte r 10 == -1) = true
    ·simpa using e
    ·rw [if_neg e] at h
     have := Lib.indexByte_ge r 10
     omega
   rw [spl, if_neg hc, idx_none r hr]
theorem idx_some : ∀ (l : List UInt8), Lib.indexByte l 10 ≠ -1 → 0 ≤ Lib.indexByte l 10 ∧ (Lib.indexByte l 10).toNat < l.length ∧ spl l = l.take ((Lib.indexByte l 10).toNat + 1) :: spl (l.drop ((Lib.indexByte l 10).toNat + 1))
 | [], h => absurd rfl h
 | c :: r, h => by
  unfold Lib.indexByte at h ⊢
  by_cases hc : c = 10
  ·rw [if_pos (by simp [hc])]
   refine ⟨by omega, by simp, ?_⟩
   rw [spl, if_pos hc]
   simp [hc]
  ·rw [if_neg (by simpa using hc)] at h ⊢
   by_cases e : Lib.indexByte r 10 = -1
   ·rw [if_pos (by simp [e])] at h
    exact absurd rfl h
   ·rw [if_neg (by simpa using e)]
    obtain ⟨h1, h2, h3⟩ := idx_some r e
    refine ⟨by omega, by simp only [List.length_cons]; omega, ?_⟩
    obtain ⟨h', t, e1, e2⟩ := spl_cons c r hc
    have e3 : (Lib.indexByte r 10 + 1).toNat = (Lib.indexByte r 10).toNat + 1 := by omega
    rw [e2, e3]
    rw [e1] at h3
    injection h3 with h4 h5
    rw [h4, h5]
    simp
theorem split_l0 (sep : ByteArray) (hsep : sep = ⟨#[10]⟩) (n : Nat) (hn : n ≤ 1000000) : ∀ (d : Nat) (i : Nat) (l : List UInt8) (A : List ByteArray), i + d = n → l.count 10 = d → l.length ≤ 1000000 → A.length = n + 1 →
  Ev (fun k => strings_genSplit.l0 k (ofL l) sep 1 (n : Int) A (i : Int)) (A.take i ++ (spl l).map ofL) := by
 intro d
 induction d with
 | zero =>
  intro i l A hi hc hl hA
  have hs : spl l = [l] := by
   have := spl_len l
   rw [hc] at this
   obtain ⟨h, t, e⟩ := List.exists_cons_of_ne_nil (spl_ne l)
   by_cases hx : Lib.indexByte l 10 = -1
   ·exact idx_none l hx
   ·obtain ⟨h1, h2, h3⟩ := idx_some l hx
    rw [h3, List.length_cons] at this
    have h4 := spl_len (l.drop ((Lib.indexByte l 10).toNat + 1))
    omega
  refine Ev.step (f := fun _ => some (A.take i ++ (spl l).map ofL)) (fun k => ?_) (Ev.now _)
  have e1 : wrap64 ((i : Int) + 1) = ((i + 1 : Nat) : Int) := by rw [wid (by omega) (by omega)]; omega
  simp only [strings_genSplit.l0, e1, Int.toNat_natCast]
  rw [if_neg (by omega), if_pos (by omega), if_pos (by omega), if_pos (by omega), if_pos (by omega), hs]
  congr 1
  rw [List.take_add_one, List.getElem?_set_self (by omega), List.take_set_of_le (Nat.le_refl _)]
  rfl
 | succ d ih =>
  intro i l A hi hc hl hA
  have hx : Lib.indexByte l 10 ≠ -1 := fun e => by
   have h4 := spl_len l
   rw [idx_none l e, hc] at h4
   simp at h4
  obtain ⟨h1, h2, h3⟩ := idx_some l hx
  generalize ho : Lib.indexByte l 10 = o at h1 h2 h3
  obtain ⟨m, rfl⟩ := Int.eq_ofNat_of_zero_le h1
  simp only [Int.toNat_natCast] at h2 h3
  have hc2 : (l.drop (m + 1)).count 10 = d := by
   have h4 := spl_len l
   rw [h3, List.length_cons, spl_len, hc] at h4
   omega
  have hi2 := ih (i + 1) (l.drop (m + 1)) (A.set i (ofL (l.take (m + 1)))) (by omega) hc2 (by rw [List.length_drop]; omega) (by rw [List.length_set]; exact hA)
  have e0 : (A.set i (ofL (l.take (m + 1)))).take (i + 1) = A.take i ++ [ofL (l.take (m + 1))] := by
   rw [List.take_add_one, List.getElem?_set_self (by omega), List.take_set_of_le (Nat.le_refl _)]
   rfl
  rw [e0] at hi2
  rw [h3, List.map_cons, List.append_cons]
  refine Ev.step (fun k => ?_) hi2
  have hI : strings_Index.f (ofL l) sep = some (m : Int) := by
   unfold strings_Index.f
   rw [if_pos hsep, show (ofL l).data.toList = l from rfl, ho]
  clear ho hx hc ih
  have e1 : wrap64 ((i : Int) + 1) = ((i + 1 : Nat) : Int) := by rw [wid (by omega) (by omega)]; omega
  have e2 : wrap64 ((m : Int) + 1) = ((m + 1 : Nat) : Int) := by rw [wid (by omega) (by omega)]; omega
  have e3 : (sep.size : Int) = 1 := by rw [hsep]; rfl
  have q0 : (i : Int) < (n : Int) := by omega
  rw [strings_genSplit.l0, if_pos q0, hI, Option.bind_some, if_neg (Int.not_lt.mpr h1), e3, e2, e1]
  have q1 : (0 : Int) ≤ ((m + 1 : Nat) : Int) := Int.natCast_nonneg _
  have q2 : ((m + 1 : Nat) : Int) ≤ ((ofL l).size : Int) := by rw [ofL_size]; omega
  have q3 : (0 : Int) ≤ (i : Int) := Int.natCast_nonneg _
  have q4 : (i : Int) < (A.length : Int) := by omega
  rw [if_pos q1, if_pos q2, if_pos q3, if_pos q4, if_pos q1, if_pos q2, Int.toNat_natCast, Int.toNat_natCast, ofL_size]
  rw [extract_ofL, extract_ofL, List.drop_zero, Nat.sub_zero, ← List.length_drop, List.take_length]
theorem Lines_ev (s : ByteArray) (hs : s.size ≤ 900000) : Ev (fun k => diff_Lines.f k s) (lines s) := by
 have hcnt : (bs s).count 10 ≤ s.size := by have := List.count_le_length (a := (10 : UInt8)) (l := bs s); rwa [bs_len] at this
 have hS : Ev (fun k => strings_SplitAfter.f k s (⟨#[10]⟩ : ByteArray)) ((spl (bs s)).map ofL) := by
  unfold strings_SplitAfter.f
  refine Ev.bind (f := fun _ t => some t) (a := (spl (bs s)).map ofL) ?_ (Ev.now _)
  unfold strings_genSplit.f
  refine Ev.ite_neg (by decide) (Ev.ite_neg (by rw [toList_eq]; simp) (Ev.ite_pos (by decide) ?_))
  have hcn : strings_Count.f s (⟨#[10]⟩ : ByteArray) = some (((bs s).count 10 : Nat) : Int) := by
   unfold strings_Count.f
   rw [if_pos rfl]
   rfl
  simp only [hcn, Option.bind_some]
  have h0 := split_l0 (⟨#[10]⟩ : ByteArray) rfl ((bs s).count 10) (by omega) ((bs s).count 10) 0 (bs s) (List.replicate ((bs s).count 10 + 1) (⟨#[]⟩ : ByteArray)) (by omega) rfl (by rw [bs_len]; omega) (by simp)
  rw [List.take_zero, List.nil_append, ofL_bs] at h0
  refine Ev.step (fun k => ?_) h0
  have e1 : wrap64 ((((bs s).count 10 : Nat) : Int) + 1) = (((bs s).count 10 + 1 : Nat) : Int) := by rw [wid (by omega) (by omega)]; omega
  have e2 : wrap64 ((s.size : Int) + 1) = ((s.size + 1 : Nat) : Int) := by rw [wid (by omega) (by omega)]; omega
  have e3 : mn (((bs s).count 10 + 1 : Nat) : Int) ((s.size + 1 : Nat) : Int) = (((bs s).count 10 + 1 : Nat) : Int) := by unfold mn; split <;> omega
  have e4 : wrap64 ((((bs s).count 10 + 1 : Nat) : Int) - 1) = (((bs s).count 10 : Nat) : Int) := by rw [wid (by omega) (by omega)]; omega
  simp only [strings_genSplit.j0, e1, e2, e3, e4, Int.toNat_natCast]
  rw [if_pos (by omega), if_pos (by omega)]
  rfl
 unfold diff_Lines.f
 refine Ev.bind (f := fun k t121 => _) hS ?_
 have hne : spl (bs s) ≠ [] := spl_ne _
 have hl : (spl (bs s)).length = (bs s).count 10 + 1 := spl_len _
 have e1 : wrap64 ((((spl (bs s)).map ofL).length : Int) - 1) = (((bs s).count 10 : Nat) : Int) := by rw [List.length_map, hl, wid (by omega) (by omega)]; omega
 simp only [e1, Int.toNat_natCast]
 refine Ev.ite_pos (by omega) (Ev.ite_pos (by rw [List.length_map, hl]; omega) ?_)
 have hlast : rdOf ByteArray.empty ((spl (bs s)).map ofL) (((bs s).count 10 : Nat) : Int) = ofL ((spl (bs s)).getLast hne) := by
  simp only [rdOf, Int.toNat_natCast]
  rw [List.getD_eq_getElem?_getD, List.getElem?_map, List.getLast_eq_getElem hne, List.getElem?_eq_getElem (by omega)]
  simp [hl]
 rw [hlast, toList_eq]
 unfold lines
 rw [lns_spl]
 unfold dle
 rw [List.getLast?_eq_some_getLast hne]
 by_cases c : (spl (bs s)).getLast hne = []
 ·refine Ev.ite_pos c (Ev.ite_pos (by rw [List.length_map, hl]; omega) ?_)
  rw [if_pos (by rw [c]), List.dropLast_eq_take, hl, Nat.add_sub_cancel, List.map_take]
  exact Ev.now _
 ·refine Ev.ite_neg c ?_
  rw [if_neg (fun e => c (Option.some.inj e))]
  exact Ev.now _
end Go.Proofs.YtnemooemifbbhaaDoor.Dm
namespace Go.Proofs.YtnemooemifbbhaaDoor.Dm
open Go Go.RowKit Go.Proofs.YtnemooemifbbhaaDoorW.PrintWords Go.Proofs.YtnemooemifbbhaaDoorW.PrintLast Go.Proofs.YtnemooemifbbhaaDoorW.PrintMore Go.Proofs.YtnemooemifbbhaaDoor.PDT Go.Proofs.YtnemooemifbbhaaDoor.TabB Go.Proofs.YtnemooemifbbhaaDoor.TabD
set_option linter.unusedVariables false
set_option linter.unusedSimpArgs false
theorem wsucc (n : Nat) (h : n ≤ 4000000) : wrap64 ((n : Int) + 1) = ((n + 1 : Nat) : Int) := by rw [wid (by omega) (by omega)]; omega
theorem wadd (m n : Nat) (h : m + n ≤ 4000000000) : wrap64 ((m : Int) + (n : Int)) = ((m + n : Nat) : Int) := by rw [wid (by omega) (by omega)]; omega
def flat (l : List ByteArray) : List UInt8 := (l.map bs).flatten
def off (l : List ByteArray) (i : Nat) : Nat := (flat (l.take i)).length
def cat (l : List ByteArray) (i j : Nat) : List UInt8 := flat ((l.drop i).take (j - i))
theorem flat_app (a b : List ByteArray) : flat (a ++ b) = flat a ++ flat b := by simp [flat]
theorem flat_one (x : ByteArray) : flat [x] = bs x := by simp [flat]
theorem off_succ (l : List ByteArray) (i : Nat) (h : i < l.length) : off l (i + 1) = off l i + l[i].size := by
 unfold off
 rw [List.take_add_one, List.getElem?_eq_getElem h]
 simp only [Option.toList_some, flat_app, flat_one, List.length_append, bs_len]
theorem off_le (l : List ByteArray) (i : Nat) : off l i ≤ (flat l).length := by
 have : flat l = flat (l.take i) ++ flat (l.drop i) := by rw [← flat_app, List.take_append_drop]
 rw [this, List.length_append]
 unfold off
 omega
theorem off_cat (l : List ByteArray) (i j : Nat) (h : i ≤ j) : flat (l.take j) = flat (l.take i) ++ cat l i j := by
 unfold cat
 rw [← flat_app]
 congr 1
 have := List.take_add (l := l) (i := i) (j := j - i)
 rwa [show i + (j - i) = j by omega] at this
theorem off_add (l : List ByteArray) (i j : Nat) (h : i ≤ j) : off l j = off l i + (cat l i j).length := by
 unfold off
 rw [off_cat l i j h, List.length_append]
theorem off_mono (l : List ByteArray) (i j : Nat) (h : i ≤ j) : off l i ≤ off l j := by rw [off_add l i j h]; omega
theorem seg_cat (l : List ByteArray) (i j : Nat) (h : i ≤ j) : ((flat l).drop (off l i)).take (off l j - off l i) = cat l i j := by
 have e1 : flat l = flat (l.take j) ++ flat (l.drop j) := by rw [← flat_app, List.take_append_drop]
 have e2 := off_add l i j h
 rw [e1, off_cat l i j h, List.append_assoc, List.drop_append_of_le_length (by unfold off; omega), List.drop_of_length_le (by unfold off; omega), List.nil_append, e2, Nat.add_sub_cancel_left, List.take_append_of_le_length (Nat.le_refl _), List.take_length]
/-! ### diff.starts -/
def stl (l : List ByteArray) (n : Nat) : List Int := (List.range n).map fun i => (off l i : Int)
theorem stl_len (l : List ByteArray) (n : Nat) : (stl l n).length = n := by simp [stl]
theorem stl_rd (l : List ByteArray) (n i : Nat) (h : i < n) : rd (stl l n) (i : Int) = (off l i : Int) := by
 simp [rd, stl, h]
theorem stl_succ (l : List ByteArray) (n : Nat) : stl l (n + 1) = stl l n ++ [(off l n : Int)] := by
 simp [stl, List.range_succ]
theorem starts_l0 (l : List ByteArray) (hl : l.length ≤ 1000000) (hf : (flat l).length ≤ 1000000000) : ∀ (d i : Nat), i + d = l.length → Ev (fun k => diff_starts.l0 k (stl l (i + 1)) l (l.length : Int) (i : Int)) (stl l (l.length + 1)) := by
 intro d
 induction d with
 | zero =>
  intro i h
  have : i = l.length := by omega
  subst this
  refine Ev.step (f := fun _ => some (stl l (l.length + 1))) (fun k => ?_) (Ev.now _)
  simp only [diff_starts.l0]
  rw [if_neg (by omega)]
 | succ d ih =>
  intro i h
  refine Ev.step (fun k => ?_) (ih (i + 1) (by omega))
  have e1 := wsucc i (by omega)
  have hi : i < l.length := by omega
  have hr : rdOf ByteArray.empty l (i : Int) = l[i] := by simp [rdOf, hi]
  have ho := off_succ l i hi
  have hb := off_le l (i + 1)
  have e2 := wadd (off l i) l[i].size (by omega)
  rw [← ho] at e2
  have q1 : (i : Int) < (l.length : Int) := by omega
  have q2 : (0 : Int) ≤ (i : Int) := Int.natCast_nonneg _
  have q3 : (i : Int) < ((stl l (i + 1)).length : Int) := by rw [stl_len]; omega
  have q4 : (stl l (i + 1)).length < 17592186044416 := by rw [stl_len]; omega
  rw [diff_starts.l0, if_pos q1, if_pos q2, if_pos q1, if_pos q3, if_pos q4, stl_rd l _ i (Nat.lt_succ_self i), hr, e1, e2, ← stl_succ]
theorem starts_ev (l : List ByteArray) (hl : l.length ≤ 1000000) (hf : (flat l).length ≤ 1000000000) : Ev (fun k => diff_starts.f k l) (stl l (l.length + 1)) := by
 unfold diff_starts.f
 exact starts_l0 l hl hf l.length 0 (by omega)
/-! ### the edits of a row of pairs -/
def chain (a b : List ByteArray) : Nat → Nat → List (Nat × Nat) → Prop
 | _, _, [] => True
 | i, k, p :: r => i ≤ p.1 ∧ k ≤ p.2 ∧ p.1 ≤ a.length ∧ p.2 ≤ b.length ∧ chain a b (p.1 + 1) (p.2 + 1) r
def es (a b : List ByteArray) : Nat → Nat → List (Nat × Nat) → List S56
 | _, _, [] => []
 | i, k, p :: r => (if i < p.1 ∨ k < p.2 then [(⟨(off a i : Int), (off a p.1 : Int), ofL (cat b k p.2)⟩ : S56)] else []) ++ es a b (p.1 + 1) (p.2 + 1) r
theorem chain_weak (a b : List ByteArray) {i k i' k' : Nat} (hi : i' ≤ i) (hk : k' ≤ k) : ∀ {L : List (Nat × Nat)}, chain a b i k L → chain a b i' k' L
 | [], _ => trivial
 | p :: r, h => ⟨Nat.le_trans hi h.1, Nat.le_trans hk h.2.1, h.2.2⟩
theorem chain_greedy (a b : List ByteArray) : ∀ (n i k : Nat), i ≤ a.length → k ≤ b.length → chain a b i k (greedy a b n i k ++ [(a.length, b.length)]) := by
 intro n
 induction n with
 | zero => intro i k hi hk; exact ⟨hi, hk, Nat.le_refl _, Nat.le_refl _, trivial⟩
 | succ n ih =>
  intro i k hi hk
  rw [greedy]
  by_cases c : i < a.length ∧ k < b.length
  ·rw [dif_pos c]
   by_cases e : a[i]'c.1 = b[k]'c.2
   ·rw [if_pos e]
    exact ⟨Nat.le_refl _, Nat.le_refl _, hi, hk, ih (i + 1) (k + 1) c.1 c.2⟩
   ·rw [if_neg e]
    split
    ·exact chain_weak a b (Nat.le_succ i) (Nat.le_refl k) (ih (i + 1) k c.1 hk)
    ·exact chain_weak a b (Nat.le_refl i) (Nat.le_succ k) (ih i (k + 1) hi c.2)
  ·rw [dif_neg c]; exact ⟨hi, hk, Nat.le_refl _, Nat.le_refl _, trivial⟩
theorem runs_es (a b : List ByteArray) (t : ByteArray) (ht : bs t = flat b) (ha : a.length ≤ 1000000) (hb : b.length ≤ 1000000) (hfb : (flat b).length ≤ 1000000000) : ∀ (L : List (Nat × Nat)) (i k : Nat) (out : List S56), chain a b i k L → out.length + L.length ≤ 4000000 →
  Fill.runs t (stl a (a.length + 1)) (stl b (b.length + 1)) (i : Int) (k : Int) out (L.map Fill.pr) = some (out ++ es a b i k L)
 | [], i, k, out, _, _ => by simp [Fill.runs, es]
 | p :: r, i, k, out, h, hl => by
  obtain ⟨h1, h2, h3, h4, h5⟩ := h
  have hts : t.size = (flat b).length := by rw [← ht, bs_len]
  simp only [List.length_cons] at hl
  have hrun : Fill.runE t (stl a (a.length + 1)) (stl b (b.length + 1)) (i : Int) (k : Int) out (Fill.pr p) = some (out ++ (if i < p.1 ∨ k < p.2 then [(⟨(off a i : Int), (off a p.1 : Int), ofL (cat b k p.2)⟩ : S56)] else [])) := by
   have r1 := stl_rd a (a.length + 1) i (by omega)
   have r2 := stl_rd a (a.length + 1) p.1 (by omega)
   have r3 := stl_rd b (b.length + 1) k (by omega)
   have r4 := stl_rd b (b.length + 1) p.2 (by omega)
   show Fill.runE t (stl a (a.length + 1)) (stl b (b.length + 1)) (i : Int) (k : Int) out ⟨(p.1 : Int), (p.2 : Int)⟩ = _
   unfold Fill.runE
   by_cases c : i < p.1 ∨ k < p.2
   ·have q0 : (i : Int) < (p.1 : Int) ∨ (k : Int) < (p.2 : Int) := by omega
    have o1 := off_mono b k p.2 h2
    have o2 := off_le b p.2
    have q1 : (0 ≤ (i : Int) ∧ (i : Int) < ((stl a (a.length + 1)).length : Int) ∧ 0 ≤ (p.1 : Int) ∧ (p.1 : Int) < ((stl a (a.length + 1)).length : Int)) ∧ (0 ≤ (k : Int) ∧ (k : Int) < ((stl b (b.length + 1)).length : Int) ∧ 0 ≤ (p.2 : Int) ∧ (p.2 : Int) < ((stl b (b.length + 1)).length : Int)) ∧ (0 ≤ rd (stl b (b.length + 1)) (k : Int) ∧ rd (stl b (b.length + 1)) (k : Int) ≤ rd (stl b (b.length + 1)) (p.2 : Int) ∧ rd (stl b (b.length + 1)) (p.2 : Int) ≤ (t.size : Int)) ∧ out.length < 4398046511104 := by
     rw [r3, r4, stl_len, stl_len, hts]
     exact ⟨⟨by omega, by omega, by omega, by omega⟩, ⟨by omega, by omega, by omega, by omega⟩, ⟨by omega, by omega, by omega⟩, by omega⟩
    rw [if_pos q0, if_pos c]
    have : t.extract ((off b k : Int)).toNat ((off b p.2 : Int)).toNat = ofL (cat b k p.2) := bs_ext (by rw [bs_extract, ht, Int.toNat_natCast, Int.toNat_natCast, seg_cat b k p.2 h2]; rfl)
    rw [if_pos q1]
    show some (out ++ [(⟨rd (stl a (a.length + 1)) (i : Int), rd (stl a (a.length + 1)) (p.1 : Int), t.extract (rd (stl b (b.length + 1)) (k : Int)).toNat (rd (stl b (b.length + 1)) (p.2 : Int)).toNat⟩ : S56)]) = _
    rw [r1, r2, r3, r4, this]
   ·have q0 : ¬ ((i : Int) < (p.1 : Int) ∨ (k : Int) < (p.2 : Int)) := by omega
    rw [if_neg q0, if_neg c, List.append_nil]
  rw [List.map_cons, Fill.runs, hrun, Option.bind_some, es]
  have hi := runs_es a b t ht ha hb hfb r (p.1 + 1) (p.2 + 1) (out ++ (if i < p.1 ∨ k < p.2 then [(⟨(off a i : Int), (off a p.1 : Int), ofL (cat b k p.2)⟩ : S56)] else [])) h5 (by
   rw [List.length_append]
   have : (if i < p.1 ∨ k < p.2 then [(⟨(off a i : Int), (off a p.1 : Int), ofL (cat b k p.2)⟩ : S56)] else []).length ≤ 1 := by split <;> simp
   omega)
  rw [show wrap64 ((Fill.pr p).f0 + 1) = ((p.1 + 1 : Nat) : Int) from wsucc p.1 (Nat.le_trans h3 (Nat.le_trans ha (by decide))), show wrap64 ((Fill.pr p).f1 + 1) = ((p.2 + 1 : Nat) : Int) from wsucc p.2 (Nat.le_trans h4 (Nat.le_trans hb (by decide))), hi, List.append_assoc]
def allp (a b : List ByteArray) : List (Nat × Nat) := greedy a b (a.length + b.length) 0 0 ++ [(a.length, b.length)]
def edits (s t : ByteArray) : List S56 := es (lines s) (lines t) 0 0 (allp (lines s) (lines t))
theorem allp_map (a b : List ByteArray) : (allp a b).map Fill.pr = Fill.pairs a b ++ [(⟨(a.length : Int), (b.length : Int)⟩ : S36)] := by
 unfold allp Fill.pairs
 rw [List.map_append]
 rfl
theorem greedy_short (a b : List ByteArray) : (greedy a b (a.length + b.length) 0 0).length ≤ a.length := by
 rw [greedy_len a b _ 0 0 (by omega)]
 exact lcs_le _ _ _ (Nat.le_refl _)
theorem allp_len (a b : List ByteArray) : (allp a b).length ≤ a.length + 1 := by
 unfold allp
 rw [List.length_append]
 have := greedy_short a b
 simp only [List.length_cons, List.length_nil]
 omega
theorem flat_lines (s : ByteArray) : flat (lines s) = bs s := lines_flat s
theorem Edits_ev (s t : ByteArray) (hs : s.size ≤ 900000) (ht : t.size ≤ 900000) : Ev (fun k => diff_Edits.f k s t) (edits s t) := by
 have la := lines_len s
 have lb := lines_len t
 unfold diff_Edits.f
 refine Ev.bind (f := fun k a => _) (Lines_ev s hs) (Ev.bind (f := fun k b => _) (Lines_ev t ht) (Ev.bind (f := fun k x => _) (starts_ev (lines s) (by omega) (by rw [flat_lines, bs_len]; omega)) (Ev.bind (f := fun k y => _) (starts_ev (lines t) (by omega) (by rw [flat_lines, bs_len]; omega)) (Ev.ite_pos ⟨by omega, by omega⟩ ?_))))
 rw [← allp_map]
 have h := runs_es (lines s) (lines t) t (flat_lines t).symm (by omega) (by omega) (by rw [flat_lines, bs_len]; omega) (allp (lines s) (lines t)) 0 0 [] (chain_greedy _ _ _ 0 0 (Nat.zero_le _) (Nat.zero_le _)) (by have := allp_len (lines s) (lines t); simp only [List.length_nil]; omega)
 have h2 : Fill.runs t (stl (lines s) ((lines s).length + 1)) (stl (lines t) ((lines t).length + 1)) 0 0 [] ((allp (lines s) (lines t)).map Fill.pr) = some (edits s t) := h
 simp only [h2]
 exact Ev.now _
end Go.Proofs.YtnemooemifbbhaaDoor.Dm
namespace Go.Proofs.YtnemooemifbbhaaDoor.Dm
open Go Go.RowKit Go.Proofs.YtnemooemifbbhaaDoorW.PrintWords Go.Proofs.YtnemooemifbbhaaDoorW.PrintLast Go.Proofs.YtnemooemifbbhaaDoorW.PrintMore Go.Proofs.YtnemooemifbbhaaDoor.PDT Go.Proofs.YtnemooemifbbhaaDoor.TabB Go.Proofs.YtnemooemifbbhaaDoor.TabD
set_option linter.unusedVariables false
set_option linter.unusedSimpArgs false
theorem Same_l0 (l : List S56) (hl : l.length ≤ 2000000) : ∀ (d i : Nat), i + d = l.length → Ev (fun k => orielref02_Same.l0 k l l (i : Int)) true := by
 intro d
 induction d with
 | zero =>
  intro i h
  have q1 : ¬ ((i : Int) < (l.length : Int)) := by omega
  refine Ev.step (f := fun _ => some true) (fun k => ?_) (Ev.now _)
  rw [orielref02_Same.l0, if_neg q1]
 | succ d ih =>
  intro i h
  have q1 : (i : Int) < (l.length : Int) := by omega
  have q2 : (0 : Int) ≤ (i : Int) := Int.natCast_nonneg _
  refine Ev.step (fun k => ?_) (ih (i + 1) (by omega))
  rw [orielref02_Same.l0, if_pos q1, if_pos q2, if_pos q1, if_neg (by simp), wsucc i (by omega)]
theorem Same_ev (l : List S56) (hl : l.length ≤ 2000000) : Ev (fun k => orielref02_Same.f k l l) true := by
 unfold orielref02_Same.f
 exact Ev.ite_pos rfl (Same_l0 l hl l.length 0 (by omega))
theorem ex_lines1 : lines (⟨#[97, 10, 98, 10]⟩ : ByteArray) = [⟨#[97, 10]⟩, ⟨#[98, 10]⟩] := rfl
theorem ex_lines2 : lines (⟨#[97, 10, 99, 10, 98, 10]⟩ : ByteArray) = [⟨#[97, 10]⟩, ⟨#[99, 10]⟩, ⟨#[98, 10]⟩] := rfl
theorem ex_lines3 : lines (⟨#[97, 10, 98]⟩ : ByteArray) = [⟨#[97, 10]⟩, ⟨#[98]⟩] := rfl
theorem ex_allp : allp [(⟨#[97, 10]⟩ : ByteArray), ⟨#[98, 10]⟩] [(⟨#[97, 10]⟩ : ByteArray), ⟨#[99, 10]⟩, ⟨#[98, 10]⟩] = [(0, 0), (1, 2), (2, 3)] := by
 have n1 : ¬ ((⟨#[98, 10]⟩ : ByteArray) = ⟨#[99, 10]⟩) := by decide
 simp [allp, greedy, lcs, n1]
theorem ex_edits : edits (⟨#[97, 10, 98, 10]⟩ : ByteArray) (⟨#[97, 10, 99, 10, 98, 10]⟩ : ByteArray) = [(⟨2, 2, (⟨#[99, 10]⟩ : ByteArray)⟩ : S56)] := by
 unfold edits
 rw [ex_lines1, ex_lines2, ex_allp]
 rfl
theorem alive_ev : Ev (fun k => oriellaw27_alive.f k) true := by
 unfold oriellaw27_alive.f
 refine Ev.bind (f := fun k t => _) (Edits_ev _ _ (by decide) (by decide)) ?_
 rw [ex_edits]
 refine Ev.bind (f := fun k t => _) (Same_ev _ (by decide)) (Ev.ite_pos rfl ?_)
 refine Ev.bind (f := fun k t => _) (Lines_ev _ (by decide)) ?_
 rw [ex_lines3]
 exact Ev.now _
end Go.Proofs.YtnemooemifbbhaaDoor.Dm
