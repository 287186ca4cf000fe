/- Several texts of this session's, one behind the other: what each proves stands ahead of it. -/
import Derived.Test.YtnemooemifbbhaaDoorPDFx6
import Derived.Test.YtnemooemifbbhaaDoorTabF
import Derived.Test.YtnemooemifbbhaaDoorPDFx8s
import Derived.Test.YtnemooemifbbhaaDoorPDFx8
import Derived.Test.YtnemooemifbbhaaDoorPDFx9
import Derived.Test.YtnemooemifbbhaaDoorPDFx12
import Derived.Test.YtnemooemifbbhaaDoorPDFx15
import Derived.Test.YtnemooemifbbhaaDoorPDFx16
import Derived.Test.YtnemooemifbbhaaDoorPDFx11
import Derived.Test.YtnemooemifbbhaaDoorPDFx13
import Derived.Test.YtnemooemifbbhaaDoorPDFx14
import Derived.Test.YtnemooemifbbhaaDoorPDFx17
import Derived.Test.YtnemooemifbbhaaDoorPDFx18
import Derived.Test.YtnemooemifbbhaaDoorPDFx10
/- A text's lines: what the program's and the document's functions tell are the same lists. Plain lists; no condition but those of each theorem. -/
namespace Go.Proofs.YtnemooemifbbhaaDoor.Dm
open Go Go.RowKit Go.Proofs.YtnemooemifbbhaaDoorW.PrintWords Go.Proofs.YtnemooemifbbhaaDoorW.PrintLast Go.Proofs.YtnemooemifbbhaaDoorW.PrintMore Go.Proofs.YtnemooemifbbhaaDoor.PDF
set_option linter.unusedVariables false
set_option linter.unusedSimpArgs false
theorem wid {x : Int} (h0 : -9223372036854775808 ≤ x) (h1 : x ≤ 9223372036854775807) : wrap64 x = x := by
  unfold wrap64
  omega
theorem Ev.ite_pos {α : Type} {c : Prop} [Decidable c] {f g : Nat → Option α} {r : α} (h : c) (k : Ev f r) : Ev (fun n => if c then f n else g n) r := by
  simp only [if_pos h]; exact k
theorem Ev.ite_neg {α : Type} {c : Prop} [Decidable c] {f g : Nat → Option α} {r : α} (h : ¬ c) (k : Ev g r) : Ev (fun n => if c then f n else g n) r := by
  simp only [if_neg h]; exact k
theorem Ev.some_bind {α β : Type} {a : α} {f : Nat → α → Option β} {r : β} (k : Ev (fun n => f n a) r) : Ev (fun n => (some a).bind (f n)) r := k
theorem toList_eq (s : ByteArray) : s.toList = s.data.toList := ByteArray.toList_eq s
/-- A text's bytes; a text of bytes. -/
def bs (s : ByteArray) : List UInt8 := s.data.toList
def ofL (l : List UInt8) : ByteArray := ⟨l.toArray⟩
theorem bs_ofL (l : List UInt8) : bs (ofL l) = l := rfl
theorem ofL_bs (s : ByteArray) : ofL (bs s) = s := by cases s; rfl
theorem bs_len (s : ByteArray) : (bs s).length = s.size := rfl
theorem ofL_size (l : List UInt8) : (ofL l).size = l.length := by
  show (ofL l).data.size = _
  simp [ofL]
theorem bs_ext {a b : ByteArray} (h : bs a = bs b) : a = b := by rw [← ofL_bs a, ← ofL_bs b, h]
theorem bs_extract (s : ByteArray) (a b : Nat) : bs (s.extract a b) = ((bs s).drop a).take (b - a) := by
  unfold bs
  rw [ByteArray.data_extract, Array.toList_extract, List.extract_eq_take_drop]
theorem extract_ofL (l : List UInt8) (a b : Nat) : (ofL l).extract a b = ofL ((l.drop a).take (b - a)) := bs_ext (by rw [bs_extract, bs_ofL, bs_ofL])
/-- Cut behind each line's end: the last piece may be empty. -/
def spl : List UInt8 → List (List UInt8)
  | [] => [[]]
  | c :: r => if c = 10 then [10] :: spl r else match spl r with
    | h :: t => (c :: h) :: t
    | [] => [[c]]
def conh (cur : List UInt8) : List (List UInt8) → List (List UInt8)
  | h :: t => (cur ++ h) :: t
  | [] => []
def dle (L : List (List UInt8)) : List (List UInt8) := if L.getLast? = some [] then L.dropLast else L
/-- The lines, a begun one's bytes first. -/
def gl : List UInt8 → List UInt8 → List (List UInt8)
  | _, [] => []
  | cur, c :: r => if c = 10 then (cur ++ [c]) :: gl [] r else if r = [] then [cur ++ [c]] else gl (cur ++ [c]) r
def lns (l : List UInt8) : List (List UInt8) := gl [] l
def lines (s : ByteArray) : List ByteArray := (lns (bs s)).map ofL
theorem spl_ne (l : List UInt8) : spl l ≠ [] := by
  cases l with
  | nil => simp [spl]
  | cons c r =>
    rw [spl]
    split
    · simp
    · split <;> simp
theorem spl_cons (c : UInt8) (r : List UInt8) (hc : c ≠ 10) : ∃ h t, spl r = h :: t ∧ spl (c :: r) = (c :: h) :: t := by
  obtain ⟨h, t, e⟩ := List.exists_cons_of_ne_nil (spl_ne r)
  refine ⟨h, t, e, ?_⟩
  rw [spl, if_neg hc, e]
theorem spl_len (l : List UInt8) : (spl l).length = l.count 10 + 1 := by
  induction l with
  | nil => rfl
  | cons c r ih =>
    by_cases hc : c = 10
    · rw [spl, if_pos hc, hc, List.count_cons_self, List.length_cons, ih]
    · obtain ⟨h, t, e1, e2⟩ := spl_cons c r hc
      rw [e2, List.count_cons_of_ne (by simpa using fun e => hc e), ← ih, e1]
      rfl
theorem conh_nil (L : List (List UInt8)) : conh [] L = L := by cases L <;> rfl
theorem dle_cons (x : List UInt8) (L : List (List UInt8)) (h : L ≠ []) : dle (x :: L) = x :: dle L := by
  obtain ⟨y, M, rfl⟩ := List.exists_cons_of_ne_nil h
  unfold dle
  rw [List.getLast?_cons_cons]
  split <;> simp
theorem gl_spl : ∀ (l cur : List UInt8), (l ≠ [] ∨ cur = []) → gl cur l = dle (conh cur (spl l))
  | [], cur, h => by
    have : cur = [] := h.resolve_left (by simp)
    subst this
    rfl
  | c :: r, cur, h => by
    rw [gl]
    by_cases hc : c = 10
    · rw [if_pos hc, spl, if_pos hc, hc]
      show _ = dle ((cur ++ [10]) :: spl r)
      rw [dle_cons _ _ (spl_ne r), gl_spl r [] (.inr rfl), conh_nil]
    · rw [if_neg hc]
      by_cases hr : r = []
      · subst hr
        rw [if_pos rfl, spl, if_neg hc]
        show [cur ++ [c]] = dle [cur ++ [c]]
        unfold dle
        rw [if_neg (by simp)]
      · rw [if_neg hr, gl_spl r (cur ++ [c]) (.inl hr)]
        obtain ⟨h', t, e1, e2⟩ := spl_cons c r hc
        rw [e2, e1]
        simp [conh]
theorem lns_spl (l : List UInt8) : lns l = dle (spl l) := by
  unfold lns
  rw [gl_spl l [] (.inr rfl), conh_nil]
theorem gl_flat : ∀ (l cur : List UInt8), (l ≠ [] ∨ cur = []) → (gl cur l).flatten = cur ++ l
  | [], cur, h => by
    have : cur = [] := h.resolve_left (by simp)
    subst this
    rfl
  | c :: r, cur, h => by
    rw [gl]
    by_cases hc : c = 10
    · rw [if_pos hc, List.flatten_cons, gl_flat r [] (.inr rfl)]
      simp
    · rw [if_neg hc]
      by_cases hr : r = []
      · subst hr
        rw [if_pos rfl]
        simp
      · rw [if_neg hr, gl_flat r _ (.inl hr)]
        simp
theorem gl_len : ∀ (l cur : List UInt8), (gl cur l).length ≤ l.length
  | [], cur => Nat.le_refl _
  | c :: r, cur => by
    rw [gl]
    split
    · simp only [List.length_cons]
      have := gl_len r []
      omega
    · split
      · simp
      · have := gl_len r (cur ++ [c])
        simp only [List.length_cons]
        omega
theorem gl_ne : ∀ (l cur : List UInt8), ∀ x ∈ gl cur l, x ≠ []
  | [], cur, x, h => by cases h
  | c :: r, cur, x, h => by
    rw [gl] at h
    split at h
    · rcases List.mem_cons.mp h with rfl | h
      · simp
      · exact gl_ne r [] x h
    · split at h
      · rcases List.mem_cons.mp h with rfl | h
        · simp
        · cases h
      · exact gl_ne r _ x h
theorem lines_flat (s : ByteArray) : ((lines s).map bs).flatten = bs s := by
  unfold lines
  rw [List.map_map, show bs ∘ ofL = id from rfl, List.map_id]
  exact gl_flat _ _ (.inr rfl)
theorem lines_len (s : ByteArray) : (lines s).length ≤ s.size := by
  unfold lines
  rw [List.length_map]
  exact gl_len _ _
theorem lines_ne (s : ByteArray) : ∀ x ∈ lines s, 0 < x.size := by
  intro x hx
  obtain ⟨y, hy, rfl⟩ := List.mem_map.mp hx
  rw [ofL_size]
  exact List.length_pos_iff.mpr (gl_ne _ _ y hy)
/-! ### strings.SplitAfter -/
theorem idx_none : ∀ l : List UInt8, Lib.indexByte l 10 = -1 → spl l = [l]
  | [], _ => rfl
  | c :: r, h => by
    unfold Lib.indexByte at h
    by_cases hc : c = 10
    · rw [if_pos (by simp [hc])] at h
      cases h
    · rw [if_neg (by simpa using hc)] at h
      have hr : Lib.indexByte r 10 = -1 := by
        by_cases e : (Lib.indexByte r 10 == -1) = true
        · simpa using e
        · rw [if_neg e] at h
          have := Lib.indexByte_ge r 10
          omega
      rw [spl, if_neg hc, idx_none r hr]
theorem idx_some : ∀ (l : List UInt8), Lib.indexByte l 10 ≠ -1 → 0 ≤ Lib.indexByte l 10 ∧ (Lib.indexByte l 10).toNat < l.length ∧ spl l = l.take ((Lib.indexByte l 10).toNat + 1) :: spl (l.drop ((Lib.indexByte l 10).toNat + 1))
  | [], h => absurd rfl h
  | c :: r, h => by
    unfold Lib.indexByte at h ⊢
    by_cases hc : c = 10
    · rw [if_pos (by simp [hc])]
      refine ⟨by omega, by simp, ?_⟩
      rw [spl, if_pos hc]
      simp [hc]
    · rw [if_neg (by simpa using hc)] at h ⊢
      by_cases e : Lib.indexByte r 10 = -1
      · rw [if_pos (by simp [e])] at h
        exact absurd rfl h
      · rw [if_neg (by simpa using e)]
        obtain ⟨h1, h2, h3⟩ := idx_some r e
        refine ⟨by omega, by simp only [List.length_cons]; omega, ?_⟩
        obtain ⟨h', t, e1, e2⟩ := spl_cons c r hc
        have e3 : (Lib.indexByte r 10 + 1).toNat = (Lib.indexByte r 10).toNat + 1 := by omega
        rw [e2, e3]
        rw [e1] at h3
        injection h3 with h4 h5
        rw [h4, h5]
        simp
theorem split_l0 (sep : ByteArray) (hsep : sep = ⟨#[10]⟩) (n : Nat) (hn : n ≤ 1000000) : ∀ (d : Nat) (i : Nat) (l : List UInt8) (A : List ByteArray), i + d = n → l.count 10 = d → l.length ≤ 1000000 → A.length = n + 1 →
    Ev (fun k => strings_genSplit.l0 k (ofL l) sep 1 (n : Int) A (i : Int)) (A.take i ++ (spl l).map ofL) := by
  intro d
  induction d with
  | zero =>
    intro i l A hi hc hl hA
    have hs : spl l = [l] := by
      have := spl_len l
      rw [hc] at this
      obtain ⟨h, t, e⟩ := List.exists_cons_of_ne_nil (spl_ne l)
      by_cases hx : Lib.indexByte l 10 = -1
      · exact idx_none l hx
      · obtain ⟨h1, h2, h3⟩ := idx_some l hx
        rw [h3, List.length_cons] at this
        have h4 := spl_len (l.drop ((Lib.indexByte l 10).toNat + 1))
        omega
    refine Ev.step (f := fun _ => some (A.take i ++ (spl l).map ofL)) (fun k => ?_) (Ev.now _)
    have e1 : wrap64 ((i : Int) + 1) = ((i + 1 : Nat) : Int) := by rw [wid (by omega) (by omega)]; omega
    simp only [strings_genSplit.l0, e1, Int.toNat_natCast]
    rw [if_neg (by omega), if_pos (by omega), if_pos (by omega), if_pos (by omega), if_pos (by omega), hs]
    congr 1
    rw [List.take_add_one, List.getElem?_set_self (by omega), List.take_set_of_le (Nat.le_refl _)]
    rfl
  | succ d ih =>
    intro i l A hi hc hl hA
    have hx : Lib.indexByte l 10 ≠ -1 := fun e => by
      have h4 := spl_len l
      rw [idx_none l e, hc] at h4
      simp at h4
    obtain ⟨h1, h2, h3⟩ := idx_some l hx
    generalize ho : Lib.indexByte l 10 = o at h1 h2 h3
    obtain ⟨m, rfl⟩ := Int.eq_ofNat_of_zero_le h1
    simp only [Int.toNat_natCast] at h2 h3
    have hc2 : (l.drop (m + 1)).count 10 = d := by
      have h4 := spl_len l
      rw [h3, List.length_cons, spl_len, hc] at h4
      omega
    have hi2 := ih (i + 1) (l.drop (m + 1)) (A.set i (ofL (l.take (m + 1)))) (by omega) hc2 (by rw [List.length_drop]; omega) (by rw [List.length_set]; exact hA)
    have e0 : (A.set i (ofL (l.take (m + 1)))).take (i + 1) = A.take i ++ [ofL (l.take (m + 1))] := by
      rw [List.take_add_one, List.getElem?_set_self (by omega), List.take_set_of_le (Nat.le_refl _)]
      rfl
    rw [e0] at hi2
    rw [h3, List.map_cons, List.append_cons]
    refine Ev.step (fun k => ?_) hi2
    have hI : strings_Index.f (ofL l) sep = some (m : Int) := by
      unfold strings_Index.f
      rw [if_pos hsep, show (ofL l).data.toList = l from rfl, ho]
    clear ho hx hc ih
    have e1 : wrap64 ((i : Int) + 1) = ((i + 1 : Nat) : Int) := by rw [wid (by omega) (by omega)]; omega
    have e2 : wrap64 ((m : Int) + 1) = ((m + 1 : Nat) : Int) := by rw [wid (by omega) (by omega)]; omega
    have e3 : (sep.size : Int) = 1 := by rw [hsep]; rfl
    have q0 : (i : Int) < (n : Int) := by omega
    rw [strings_genSplit.l0, if_pos q0, hI, Option.bind_some, if_neg (Int.not_lt.mpr h1), e3, e2, e1]
    have q1 : (0 : Int) ≤ ((m + 1 : Nat) : Int) := Int.natCast_nonneg _
    have q2 : ((m + 1 : Nat) : Int) ≤ ((ofL l).size : Int) := by rw [ofL_size]; omega
    have q3 : (0 : Int) ≤ (i : Int) := Int.natCast_nonneg _
    have q4 : (i : Int) < (A.length : Int) := by omega
    rw [if_pos q1, if_pos q2, if_pos q3, if_pos q4, if_pos q1, if_pos q2, Int.toNat_natCast, Int.toNat_natCast, ofL_size]
    rw [extract_ofL, extract_ofL, List.drop_zero, Nat.sub_zero, ← List.length_drop, List.take_length]
theorem Lines_ev (s : ByteArray) (hs : s.size ≤ 900000) : Ev (fun k => diff_Lines.f k s) (lines s) := by
  have hcnt : (bs s).count 10 ≤ s.size := by have := List.count_le_length (a := (10 : UInt8)) (l := bs s); rwa [bs_len] at this
  have hS : Ev (fun k => strings_SplitAfter.f k s (⟨#[10]⟩ : ByteArray)) ((spl (bs s)).map ofL) := by
    unfold strings_SplitAfter.f
    refine Ev.bind (f := fun _ t => some t) (a := (spl (bs s)).map ofL) ?_ (Ev.now _)
    unfold strings_genSplit.f
    refine Ev.ite_neg (by decide) (Ev.ite_neg (by rw [toList_eq]; simp) (Ev.ite_pos (by decide) ?_))
    have hcn : strings_Count.f s (⟨#[10]⟩ : ByteArray) = some (((bs s).count 10 : Nat) : Int) := by
      unfold strings_Count.f
      rw [if_pos rfl]
      rfl
    simp only [hcn, Option.bind_some]
    have h0 := split_l0 (⟨#[10]⟩ : ByteArray) rfl ((bs s).count 10) (by omega) ((bs s).count 10) 0 (bs s) (List.replicate ((bs s).count 10 + 1) (⟨#[]⟩ : ByteArray)) (by omega) rfl (by rw [bs_len]; omega) (by simp)
    rw [List.take_zero, List.nil_append, ofL_bs] at h0
    refine Ev.step (fun k => ?_) h0
    have e1 : wrap64 ((((bs s).count 10 : Nat) : Int) + 1) = (((bs s).count 10 + 1 : Nat) : Int) := by rw [wid (by omega) (by omega)]; omega
    have e2 : wrap64 ((s.size : Int) + 1) = ((s.size + 1 : Nat) : Int) := by rw [wid (by omega) (by omega)]; omega
    have e3 : mn (((bs s).count 10 + 1 : Nat) : Int) ((s.size + 1 : Nat) : Int) = (((bs s).count 10 + 1 : Nat) : Int) := by unfold mn; split <;> omega
    have e4 : wrap64 ((((bs s).count 10 + 1 : Nat) : Int) - 1) = (((bs s).count 10 : Nat) : Int) := by rw [wid (by omega) (by omega)]; omega
    simp only [strings_genSplit.j0, e1, e2, e3, e4, Int.toNat_natCast]
    rw [if_pos (by omega), if_pos (by omega)]
    rfl
  unfold diff_Lines.f
  refine Ev.bind (f := fun k t121 => _) hS ?_
  have hne : spl (bs s) ≠ [] := spl_ne _
  have hl : (spl (bs s)).length = (bs s).count 10 + 1 := spl_len _
  have e1 : wrap64 ((((spl (bs s)).map ofL).length : Int) - 1) = (((bs s).count 10 : Nat) : Int) := by rw [List.length_map, hl, wid (by omega) (by omega)]; omega
  simp only [e1, Int.toNat_natCast]
  refine Ev.ite_pos (by omega) (Ev.ite_pos (by rw [List.length_map, hl]; omega) ?_)
  have hlast : rdOf ByteArray.empty ((spl (bs s)).map ofL) (((bs s).count 10 : Nat) : Int) = ofL ((spl (bs s)).getLast hne) := by
    simp only [rdOf, Int.toNat_natCast]
    rw [List.getD_eq_getElem?_getD, List.getElem?_map, List.getLast_eq_getElem hne, List.getElem?_eq_getElem (by omega)]
    simp [hl]
  rw [hlast, toList_eq]
  unfold lines
  rw [lns_spl]
  unfold dle
  rw [List.getLast?_eq_some_getLast hne]
  by_cases c : (spl (bs s)).getLast hne = []
  · refine Ev.ite_pos c (Ev.ite_pos (by rw [List.length_map, hl]; omega) ?_)
    rw [if_pos (by rw [c]), List.dropLast_eq_take, hl, Nat.add_sub_cancel, List.map_take]
    exact Ev.now _
  · refine Ev.ite_neg c ?_
    rw [if_neg (fun e => c (Option.some.inj e))]
    exact Ev.now _
end Go.Proofs.YtnemooemifbbhaaDoor.Dm
/- The edits that turn a text into another one: what the program's and the document's functions tell is the same list. Plain lists; no condition but those of each theorem. -/
namespace Go.Proofs.YtnemooemifbbhaaDoor.Dm
open Go Go.RowKit Go.Proofs.YtnemooemifbbhaaDoorW.PrintWords Go.Proofs.YtnemooemifbbhaaDoorW.PrintLast Go.Proofs.YtnemooemifbbhaaDoorW.PrintMore Go.Proofs.YtnemooemifbbhaaDoor.PDF Go.Proofs.YtnemooemifbbhaaDoor.TabB Go.Proofs.YtnemooemifbbhaaDoor.TabD
set_option linter.unusedVariables false
set_option linter.unusedSimpArgs false
theorem wsucc (n : Nat) (h : n ≤ 4000000) : wrap64 ((n : Int) + 1) = ((n + 1 : Nat) : Int) := by rw [wid (by omega) (by omega)]; omega
theorem wadd (m n : Nat) (h : m + n ≤ 4000000000) : wrap64 ((m : Int) + (n : Int)) = ((m + n : Nat) : Int) := by rw [wid (by omega) (by omega)]; omega
/-- All bytes of lines; where a line begins; the bytes of the lines from one to another. -/
def flat (l : List ByteArray) : List UInt8 := (l.map bs).flatten
def off (l : List ByteArray) (i : Nat) : Nat := (flat (l.take i)).length
def cat (l : List ByteArray) (i j : Nat) : List UInt8 := flat ((l.drop i).take (j - i))
theorem flat_app (a b : List ByteArray) : flat (a ++ b) = flat a ++ flat b := by simp [flat]
theorem flat_one (x : ByteArray) : flat [x] = bs x := by simp [flat]
theorem off_succ (l : List ByteArray) (i : Nat) (h : i < l.length) : off l (i + 1) = off l i + l[i].size := by
  unfold off
  rw [List.take_add_one, List.getElem?_eq_getElem h]
  simp only [Option.toList_some, flat_app, flat_one, List.length_append, bs_len]
theorem off_zero (l : List ByteArray) : off l 0 = 0 := rfl
theorem off_le (l : List ByteArray) (i : Nat) : off l i ≤ (flat l).length := by
  have : flat l = flat (l.take i) ++ flat (l.drop i) := by rw [← flat_app, List.take_append_drop]
  rw [this, List.length_append]
  unfold off
  omega
theorem off_cat (l : List ByteArray) (i j : Nat) (h : i ≤ j) : flat (l.take j) = flat (l.take i) ++ cat l i j := by
  unfold cat
  rw [← flat_app]
  congr 1
  have := List.take_add (l := l) (i := i) (j := j - i)
  rwa [show i + (j - i) = j by omega] at this
theorem off_add (l : List ByteArray) (i j : Nat) (h : i ≤ j) : off l j = off l i + (cat l i j).length := by
  unfold off
  rw [off_cat l i j h, List.length_append]
theorem off_mono (l : List ByteArray) (i j : Nat) (h : i ≤ j) : off l i ≤ off l j := by rw [off_add l i j h]; omega
theorem off_over (l : List ByteArray) (i : Nat) (h : l.length ≤ i) : off l i = (flat l).length := by unfold off; rw [List.take_of_length_le h]
theorem seg_cat (l : List ByteArray) (i j : Nat) (h : i ≤ j) : ((flat l).drop (off l i)).take (off l j - off l i) = cat l i j := by
  have e1 : flat l = flat (l.take j) ++ flat (l.drop j) := by rw [← flat_app, List.take_append_drop]
  have e2 := off_add l i j h
  rw [e1, off_cat l i j h, List.append_assoc, List.drop_append_of_le_length (by unfold off; omega), List.drop_of_length_le (by unfold off; omega), List.nil_append, e2, Nat.add_sub_cancel_left, List.take_append_of_le_length (Nat.le_refl _), List.take_length]
theorem cat_self (l : List ByteArray) (i : Nat) : cat l i i = [] := by unfold cat; simp [flat]
theorem cat_step (l : List ByteArray) (i j : Nat) (h : i < j) (hi : i < l.length) : cat l i j = bs l[i] ++ cat l (i + 1) j := by
  unfold cat
  rw [List.drop_eq_getElem_cons hi, show j - i = (j - (i + 1)) + 1 by omega, List.take_succ_cons]
  rfl
/-! ### diff.starts -/
def stl (l : List ByteArray) (n : Nat) : List Int := (List.range n).map fun i => (off l i : Int)
theorem stl_len (l : List ByteArray) (n : Nat) : (stl l n).length = n := by simp [stl]
theorem stl_rd (l : List ByteArray) (n i : Nat) (h : i < n) : rd (stl l n) (i : Int) = (off l i : Int) := by
  simp [rd, stl, h]
theorem stl_succ (l : List ByteArray) (n : Nat) : stl l (n + 1) = stl l n ++ [(off l n : Int)] := by
  simp [stl, List.range_succ]
theorem starts_l0 (l : List ByteArray) (hl : l.length ≤ 1000000) (hf : (flat l).length ≤ 1000000000) : ∀ (d i : Nat), i + d = l.length → Ev (fun k => diff_starts.l0 k (stl l (i + 1)) l (l.length : Int) (i : Int)) (stl l (l.length + 1)) := by
  intro d
  induction d with
  | zero =>
    intro i h
    have : i = l.length := by omega
    subst this
    refine Ev.step (f := fun _ => some (stl l (l.length + 1))) (fun k => ?_) (Ev.now _)
    simp only [diff_starts.l0]
    rw [if_neg (by omega)]
  | succ d ih =>
    intro i h
    refine Ev.step (fun k => ?_) (ih (i + 1) (by omega))
    have e1 := wsucc i (by omega)
    have hi : i < l.length := by omega
    have hr : rdOf ByteArray.empty l (i : Int) = l[i] := by simp [rdOf, hi]
    have ho := off_succ l i hi
    have hb := off_le l (i + 1)
    have e2 := wadd (off l i) l[i].size (by omega)
    rw [← ho] at e2
    have q1 : (i : Int) < (l.length : Int) := by omega
    have q2 : (0 : Int) ≤ (i : Int) := Int.natCast_nonneg _
    have q3 : (i : Int) < ((stl l (i + 1)).length : Int) := by rw [stl_len]; omega
    have q4 : (stl l (i + 1)).length < 17592186044416 := by rw [stl_len]; omega
    rw [diff_starts.l0, if_pos q1, if_pos q2, if_pos q1, if_pos q3, if_pos q4, stl_rd l _ i (Nat.lt_succ_self i), hr, e1, e2, ← stl_succ]
theorem starts_ev (l : List ByteArray) (hl : l.length ≤ 1000000) (hf : (flat l).length ≤ 1000000000) : Ev (fun k => diff_starts.f k l) (stl l (l.length + 1)) := by
  unfold diff_starts.f
  exact starts_l0 l hl hf l.length 0 (by omega)
/-! ### the edits of a row of pairs -/
def chain (a b : List ByteArray) : Nat → Nat → List (Nat × Nat) → Prop
  | _, _, [] => True
  | i, k, p :: r => i ≤ p.1 ∧ k ≤ p.2 ∧ p.1 ≤ a.length ∧ p.2 ≤ b.length ∧ chain a b (p.1 + 1) (p.2 + 1) r
def es (a b : List ByteArray) : Nat → Nat → List (Nat × Nat) → List S56
  | _, _, [] => []
  | i, k, p :: r => (if i < p.1 ∨ k < p.2 then [(⟨(off a i : Int), (off a p.1 : Int), ofL (cat b k p.2)⟩ : S56)] else []) ++ es a b (p.1 + 1) (p.2 + 1) r
theorem chain_weak (a b : List ByteArray) {i k i' k' : Nat} (hi : i' ≤ i) (hk : k' ≤ k) : ∀ {L : List (Nat × Nat)}, chain a b i k L → chain a b i' k' L
  | [], _ => trivial
  | p :: r, h => ⟨Nat.le_trans hi h.1, Nat.le_trans hk h.2.1, h.2.2⟩
theorem chain_greedy (a b : List ByteArray) : ∀ (n i k : Nat), i ≤ a.length → k ≤ b.length → chain a b i k (greedy a b n i k ++ [(a.length, b.length)]) := by
  intro n
  induction n with
  | zero => intro i k hi hk; exact ⟨hi, hk, Nat.le_refl _, Nat.le_refl _, trivial⟩
  | succ n ih =>
    intro i k hi hk
    rw [greedy]
    by_cases c : i < a.length ∧ k < b.length
    · rw [dif_pos c]
      by_cases e : a[i]'c.1 = b[k]'c.2
      · rw [if_pos e]
        exact ⟨Nat.le_refl _, Nat.le_refl _, hi, hk, ih (i + 1) (k + 1) c.1 c.2⟩
      · rw [if_neg e]
        split
        · exact chain_weak a b (Nat.le_succ i) (Nat.le_refl k) (ih (i + 1) k c.1 hk)
        · exact chain_weak a b (Nat.le_refl i) (Nat.le_succ k) (ih i (k + 1) hi c.2)
    · rw [dif_neg c]; exact ⟨hi, hk, Nat.le_refl _, Nat.le_refl _, trivial⟩
theorem runs_es (a b : List ByteArray) (t : ByteArray) (ht : bs t = flat b) (ha : a.length ≤ 1000000) (hb : b.length ≤ 1000000) (hfb : (flat b).length ≤ 1000000000) : ∀ (L : List (Nat × Nat)) (i k : Nat) (out : List S56), chain a b i k L → out.length + L.length ≤ 4000000 →
    Fill.runs t (stl a (a.length + 1)) (stl b (b.length + 1)) (i : Int) (k : Int) out (L.map Fill.pr) = some (out ++ es a b i k L)
  | [], i, k, out, _, _ => by simp [Fill.runs, es]
  | p :: r, i, k, out, h, hl => by
    obtain ⟨h1, h2, h3, h4, h5⟩ := h
    have hts : t.size = (flat b).length := by rw [← ht, bs_len]
    simp only [List.length_cons] at hl
    have hrun : Fill.runE t (stl a (a.length + 1)) (stl b (b.length + 1)) (i : Int) (k : Int) out (Fill.pr p) = some (out ++ (if i < p.1 ∨ k < p.2 then [(⟨(off a i : Int), (off a p.1 : Int), ofL (cat b k p.2)⟩ : S56)] else [])) := by
      have r1 := stl_rd a (a.length + 1) i (by omega)
      have r2 := stl_rd a (a.length + 1) p.1 (by omega)
      have r3 := stl_rd b (b.length + 1) k (by omega)
      have r4 := stl_rd b (b.length + 1) p.2 (by omega)
      show Fill.runE t (stl a (a.length + 1)) (stl b (b.length + 1)) (i : Int) (k : Int) out ⟨(p.1 : Int), (p.2 : Int)⟩ = _
      unfold Fill.runE
      by_cases c : i < p.1 ∨ k < p.2
      · have q0 : (i : Int) < (p.1 : Int) ∨ (k : Int) < (p.2 : Int) := by omega
        have o1 := off_mono b k p.2 h2
        have o2 := off_le b p.2
        have q1 : (0 ≤ (i : Int) ∧ (i : Int) < ((stl a (a.length + 1)).length : Int) ∧ 0 ≤ (p.1 : Int) ∧ (p.1 : Int) < ((stl a (a.length + 1)).length : Int)) ∧ (0 ≤ (k : Int) ∧ (k : Int) < ((stl b (b.length + 1)).length : Int) ∧ 0 ≤ (p.2 : Int) ∧ (p.2 : Int) < ((stl b (b.length + 1)).length : Int)) ∧ (0 ≤ rd (stl b (b.length + 1)) (k : Int) ∧ rd (stl b (b.length + 1)) (k : Int) ≤ rd (stl b (b.length + 1)) (p.2 : Int) ∧ rd (stl b (b.length + 1)) (p.2 : Int) ≤ (t.size : Int)) ∧ out.length < 4398046511104 := by
          rw [r3, r4, stl_len, stl_len, hts]
          exact ⟨⟨by omega, by omega, by omega, by omega⟩, ⟨by omega, by omega, by omega, by omega⟩, ⟨by omega, by omega, by omega⟩, by omega⟩
        rw [if_pos q0, if_pos c]
        have : t.extract ((off b k : Int)).toNat ((off b p.2 : Int)).toNat = ofL (cat b k p.2) := bs_ext (by rw [bs_extract, ht, Int.toNat_natCast, Int.toNat_natCast, seg_cat b k p.2 h2]; rfl)
        rw [if_pos q1]
        show some (out ++ [(⟨rd (stl a (a.length + 1)) (i : Int), rd (stl a (a.length + 1)) (p.1 : Int), t.extract (rd (stl b (b.length + 1)) (k : Int)).toNat (rd (stl b (b.length + 1)) (p.2 : Int)).toNat⟩ : S56)]) = _
        rw [r1, r2, r3, r4, this]
      · have q0 : ¬ ((i : Int) < (p.1 : Int) ∨ (k : Int) < (p.2 : Int)) := by omega
        rw [if_neg q0, if_neg c, List.append_nil]
    rw [List.map_cons, Fill.runs, hrun, Option.bind_some, es]
    have hi := runs_es a b t ht ha hb hfb r (p.1 + 1) (p.2 + 1) (out ++ (if i < p.1 ∨ k < p.2 then [(⟨(off a i : Int), (off a p.1 : Int), ofL (cat b k p.2)⟩ : S56)] else [])) h5 (by
      rw [List.length_append]
      have : (if i < p.1 ∨ k < p.2 then [(⟨(off a i : Int), (off a p.1 : Int), ofL (cat b k p.2)⟩ : S56)] else []).length ≤ 1 := by split <;> simp
      omega)
    rw [show wrap64 ((Fill.pr p).f0 + 1) = ((p.1 + 1 : Nat) : Int) from wsucc p.1 (Nat.le_trans h3 (Nat.le_trans ha (by decide))), show wrap64 ((Fill.pr p).f1 + 1) = ((p.2 + 1 : Nat) : Int) from wsucc p.2 (Nat.le_trans h4 (Nat.le_trans hb (by decide))), hi, List.append_assoc]
/-- The pairs, the end's behind them. -/
def allp (a b : List ByteArray) : List (Nat × Nat) := greedy a b (a.length + b.length) 0 0 ++ [(a.length, b.length)]
/-- What turns a text into another one. -/
def edits (s t : ByteArray) : List S56 := es (lines s) (lines t) 0 0 (allp (lines s) (lines t))
theorem allp_map (a b : List ByteArray) : (allp a b).map Fill.pr = Fill.pairs a b ++ [(⟨(a.length : Int), (b.length : Int)⟩ : S36)] := by
  unfold allp Fill.pairs
  rw [List.map_append]
  rfl
theorem greedy_short (a b : List ByteArray) : (greedy a b (a.length + b.length) 0 0).length ≤ a.length := by
  rw [greedy_len a b _ 0 0 (by omega)]
  exact lcs_le _ _ _ (Nat.le_refl _)
theorem allp_len (a b : List ByteArray) : (allp a b).length ≤ a.length + 1 := by
  unfold allp
  rw [List.length_append]
  have := greedy_short a b
  simp only [List.length_cons, List.length_nil]
  omega
theorem flat_lines (s : ByteArray) : flat (lines s) = bs s := lines_flat s
theorem Edits_ev (s t : ByteArray) (hs : s.size ≤ 900000) (ht : t.size ≤ 900000) : Ev (fun k => diff_Edits.f k s t) (edits s t) := by
  have la := lines_len s
  have lb := lines_len t
  unfold diff_Edits.f
  refine Ev.bind (f := fun k a => _) (Lines_ev s hs) (Ev.bind (f := fun k b => _) (Lines_ev t ht) (Ev.bind (f := fun k x => _) (starts_ev (lines s) (by omega) (by rw [flat_lines, bs_len]; omega)) (Ev.bind (f := fun k y => _) (starts_ev (lines t) (by omega) (by rw [flat_lines, bs_len]; omega)) (Ev.ite_pos ⟨by omega, by omega⟩ ?_))))
  rw [← allp_map]
  have h := runs_es (lines s) (lines t) t (flat_lines t).symm (by omega) (by omega) (by rw [flat_lines, bs_len]; omega) (allp (lines s) (lines t)) 0 0 [] (chain_greedy _ _ _ 0 0 (Nat.zero_le _) (Nat.zero_le _)) (by have := allp_len (lines s) (lines t); simp only [List.length_nil]; omega)
  have h2 : Fill.runs t (stl (lines s) ((lines s).length + 1)) (stl (lines t) ((lines t).length + 1)) 0 0 [] ((allp (lines s) (lines t)).map Fill.pr) = some (edits s t) := h
  simp only [h2]
  exact Ev.now _
theorem es_len (a b : List ByteArray) : ∀ (L : List (Nat × Nat)) (i k : Nat), (es a b i k L).length ≤ L.length
  | [], i, k => Nat.le_refl _
  | p :: r, i, k => by
    rw [es, List.length_append, List.length_cons]
    have h1 := es_len a b r (p.1 + 1) (p.2 + 1)
    have h2 : (if i < p.1 ∨ k < p.2 then [(⟨(off a i : Int), (off a p.1 : Int), ofL (cat b k p.2)⟩ : S56)] else []).length ≤ 1 := by split <;> simp
    omega
theorem edits_len (s t : ByteArray) : (edits s t).length ≤ s.size + 1 := by
  have h1 := es_len (lines s) (lines t) (allp (lines s) (lines t)) 0 0
  have h2 := allp_len (lines s) (lines t)
  have h3 := lines_len s
  unfold edits
  omega
theorem es_len' (s t : ByteArray) : (edits s t).length ≤ s.size + 1 := edits_len s t
end Go.Proofs.YtnemooemifbbhaaDoor.Dm
/- The chapter's example holds. Plain lists; no condition. -/
namespace Go.Proofs.YtnemooemifbbhaaDoor.Dm
open Go Go.RowKit Go.Proofs.YtnemooemifbbhaaDoorW.PrintWords Go.Proofs.YtnemooemifbbhaaDoorW.PrintLast Go.Proofs.YtnemooemifbbhaaDoorW.PrintMore Go.Proofs.YtnemooemifbbhaaDoor.PDF Go.Proofs.YtnemooemifbbhaaDoor.TabB Go.Proofs.YtnemooemifbbhaaDoor.TabD
set_option linter.unusedVariables false
set_option linter.unusedSimpArgs false
theorem Same_l0 (l : List S56) (hl : l.length ≤ 2000000) : ∀ (d i : Nat), i + d = l.length → Ev (fun k => orielref02_Same.l0 k l l (i : Int)) true := by
  intro d
  induction d with
  | zero =>
    intro i h
    have q1 : ¬ ((i : Int) < (l.length : Int)) := by omega
    refine Ev.step (f := fun _ => some true) (fun k => ?_) (Ev.now _)
    rw [orielref02_Same.l0, if_neg q1]
  | succ d ih =>
    intro i h
    have q1 : (i : Int) < (l.length : Int) := by omega
    have q2 : (0 : Int) ≤ (i : Int) := Int.natCast_nonneg _
    refine Ev.step (fun k => ?_) (ih (i + 1) (by omega))
    rw [orielref02_Same.l0, if_pos q1, if_pos q2, if_pos q1, if_neg (by simp), wsucc i (by omega)]
theorem Same_ev (l : List S56) (hl : l.length ≤ 2000000) : Ev (fun k => orielref02_Same.f k l l) true := by
  unfold orielref02_Same.f
  exact Ev.ite_pos rfl (Same_l0 l hl l.length 0 (by omega))
theorem ex_lines1 : lines (⟨#[97, 10, 98, 10]⟩ : ByteArray) = [⟨#[97, 10]⟩, ⟨#[98, 10]⟩] := rfl
theorem ex_lines2 : lines (⟨#[97, 10, 99, 10, 98, 10]⟩ : ByteArray) = [⟨#[97, 10]⟩, ⟨#[99, 10]⟩, ⟨#[98, 10]⟩] := rfl
theorem ex_lines3 : lines (⟨#[97, 10, 98]⟩ : ByteArray) = [⟨#[97, 10]⟩, ⟨#[98]⟩] := rfl
theorem ex_allp : allp [(⟨#[97, 10]⟩ : ByteArray), ⟨#[98, 10]⟩] [(⟨#[97, 10]⟩ : ByteArray), ⟨#[99, 10]⟩, ⟨#[98, 10]⟩] = [(0, 0), (1, 2), (2, 3)] := by
  have n1 : ¬ ((⟨#[98, 10]⟩ : ByteArray) = ⟨#[99, 10]⟩) := by decide
  simp [allp, greedy, lcs, n1]
theorem ex_edits : edits (⟨#[97, 10, 98, 10]⟩ : ByteArray) (⟨#[97, 10, 99, 10, 98, 10]⟩ : ByteArray) = [(⟨2, 2, (⟨#[99, 10]⟩ : ByteArray)⟩ : S56)] := by
  unfold edits
  rw [ex_lines1, ex_lines2, ex_allp]
  rfl
theorem alive_ev : Ev (fun k => oriellaw27_alive.f k) true := by
  unfold oriellaw27_alive.f
  refine Ev.bind (f := fun k t => _) (Edits_ev _ _ (by decide) (by decide)) ?_
  rw [ex_edits]
  refine Ev.bind (f := fun k t => _) (Same_ev _ (by decide)) (Ev.ite_pos rfl ?_)
  refine Ev.bind (f := fun k t => _) (Lines_ev _ (by decide)) ?_
  rw [ex_lines3]
  exact Ev.now _
end Go.Proofs.YtnemooemifbbhaaDoor.Dm
/- The edits that turn a text into another one: their order, and of a text to itself. Plain lists; no condition but those of each theorem. -/
namespace Go.Proofs.YtnemooemifbbhaaDoor.Dm
open Go Go.RowKit Go.Proofs.YtnemooemifbbhaaDoorW.PrintWords Go.Proofs.YtnemooemifbbhaaDoorW.PrintLast Go.Proofs.YtnemooemifbbhaaDoorW.PrintMore Go.Proofs.YtnemooemifbbhaaDoor.PDF Go.Proofs.YtnemooemifbbhaaDoor.TabB Go.Proofs.YtnemooemifbbhaaDoor.TabD
set_option linter.unusedVariables false
set_option linter.unusedSimpArgs false
/-- Pairs of like lines, in order, from two places on. -/
def chainG (a b : List ByteArray) : Nat → Nat → List (Nat × Nat) → Prop
  | i, k, [] => i ≤ a.length ∧ k ≤ b.length
  | i, k, p :: r => i ≤ p.1 ∧ k ≤ p.2 ∧ (∃ h : p.1 < a.length ∧ p.2 < b.length, a[p.1]'h.1 = b[p.2]'h.2) ∧ chainG a b (p.1 + 1) (p.2 + 1) r
theorem chainG_weak (a b : List ByteArray) {i k i' k' : Nat} (hi : i' ≤ i) (hk : k' ≤ k) : ∀ {L : List (Nat × Nat)}, chainG a b i k L → chainG a b i' k' L
  | [], h => ⟨Nat.le_trans hi h.1, Nat.le_trans hk h.2⟩
  | p :: r, h => ⟨Nat.le_trans hi h.1, Nat.le_trans hk h.2.1, h.2.2⟩
theorem chainG_greedy (a b : List ByteArray) : ∀ (n i k : Nat), i ≤ a.length → k ≤ b.length → chainG a b i k (greedy a b n i k) := by
  intro n
  induction n with
  | zero => intro i k hi hk; exact ⟨hi, hk⟩
  | succ n ih =>
    intro i k hi hk
    rw [greedy]
    by_cases c : i < a.length ∧ k < b.length
    · rw [dif_pos c]
      by_cases e : a[i]'c.1 = b[k]'c.2
      · rw [if_pos e]
        exact ⟨Nat.le_refl _, Nat.le_refl _, ⟨c, e⟩, ih (i + 1) (k + 1) c.1 c.2⟩
      · rw [if_neg e]
        split
        · exact chainG_weak a b (Nat.le_succ i) (Nat.le_refl k) (ih (i + 1) k c.1 hk)
        · exact chainG_weak a b (Nat.le_refl i) (Nat.le_succ k) (ih i (k + 1) hi c.2)
    · rw [dif_neg c]; exact ⟨hi, hk⟩
/-- One edit, if there is one. -/
def ed1 (a b : List ByteArray) (i k : Nat) (p : Nat × Nat) : List S56 := if i < p.1 ∨ k < p.2 then [(⟨(off a i : Int), (off a p.1 : Int), ofL (cat b k p.2)⟩ : S56)] else []
theorem es_cons (a b : List ByteArray) (i k : Nat) (p : Nat × Nat) (r : List (Nat × Nat)) : es a b i k (p :: r) = ed1 a b i k p ++ es a b (p.1 + 1) (p.2 + 1) r := rfl
theorem es_end (a b : List ByteArray) (i k : Nat) : es a b i k [(a.length, b.length)] = ed1 a b i k (a.length, b.length) := by rw [es_cons, es, List.append_nil]
/-! ### right -/
theorem es_order (a b : List ByteArray) (hne : ∀ x ∈ a, 0 < x.size) : ∀ (L : List (Nat × Nat)) (i k : Nat), chainG a b i k L →
    (∀ x ∈ es a b i k (L ++ [(a.length, b.length)]), (off a i : Int) ≤ x.f0 ∧ x.f0 ≤ x.f1 ∧ x.f1 ≤ ((flat a).length : Int)) ∧ (es a b i k (L ++ [(a.length, b.length)])).Pairwise (fun x y => x.f1 < y.f0)
  | [], i, k, h => by
    rw [List.nil_append, es_end]
    unfold ed1
    split
    · refine ⟨fun x hx => ?_, List.pairwise_singleton _ _⟩
      rw [List.mem_singleton] at hx
      subst hx
      refine ⟨Int.le_refl _, ?_, ?_⟩
      · exact Int.ofNat_le.mpr (off_mono a i a.length h.1)
      · exact Int.ofNat_le.mpr (off_le a a.length)
    · exact ⟨fun x hx => (by cases hx), List.Pairwise.nil⟩
  | p :: r, i, k, h => by
    obtain ⟨h1, h2, ⟨h3, h4⟩, h5⟩ := h
    obtain ⟨q1, q2⟩ := es_order a b hne r (p.1 + 1) (p.2 + 1) h5
    rw [List.cons_append, es_cons]
    have hs := off_succ a p.1 h3.1
    have hpos := hne _ (List.getElem_mem h3.1)
    have hm := off_mono a i p.1 h1
    have hl := off_le a p.1
    have he : ∀ x ∈ ed1 a b i k p, x.f0 = (off a i : Int) ∧ x.f1 = (off a p.1 : Int) := by
      intro x hx
      unfold ed1 at hx
      split at hx
      · rw [List.mem_singleton] at hx
        subst hx
        exact ⟨rfl, rfl⟩
      · cases hx
    refine ⟨fun x hx => ?_, ?_⟩
    · rcases List.mem_append.mp hx with hx | hx
      · obtain ⟨e1, e2⟩ := he x hx
        rw [e1, e2]
        exact ⟨Int.le_refl _, Int.ofNat_le.mpr hm, Int.ofNat_le.mpr hl⟩
      · obtain ⟨e1, e2, e3⟩ := q1 x hx
        have : off a i ≤ off a (p.1 + 1) := by omega
        exact ⟨Int.le_trans (Int.ofNat_le.mpr this) e1, e2, e3⟩
    · rw [List.pairwise_append]
      refine ⟨?_, q2, fun x hx y hy => ?_⟩
      · unfold ed1
        split
        · exact List.pairwise_singleton _ _
        · exact List.Pairwise.nil
      · obtain ⟨e1, e2⟩ := he x hx
        obtain ⟨e3, _, _⟩ := q1 y hy
        rw [e2]
        exact Int.lt_of_lt_of_le (Int.ofNat_lt.mpr (by omega)) e3
theorem rd56 (l : List S56) (i : Nat) (h : i < l.length) : rd_T56 l (i : Int) = l[i] := by simp [rd_T56, h]
theorem seg_more (l : List ByteArray) (at_ i j : Nat) (h1 : at_ ≤ off l i) (h2 : i ≤ j) : ((flat l).drop at_).take (off l j - at_) = ((flat l).drop at_).take (off l i - at_) ++ cat l i j := by
  have e := seg_cat l i j h2
  have e2 := off_mono l i j h2
  rw [← e, show off l j - at_ = (off l i - at_) + (off l j - off l i) by omega, List.take_add, List.drop_drop, show at_ + (off l i - at_) = off l i by omega]
theorem cat_one (l : List ByteArray) (i : Nat) (h : i < l.length) : cat l i (i + 1) = bs l[i] := by
  rw [cat_step l i (i + 1) (Nat.lt_succ_self i) h, cat_self, List.append_nil]
theorem edits_right (s t : ByteArray) : (∀ x ∈ edits s t, 0 ≤ x.f0 ∧ x.f0 ≤ x.f1 ∧ x.f1 ≤ (s.size : Int)) ∧ (edits s t).Pairwise (fun x y => x.f1 < y.f0) := by
  obtain ⟨h1, h2⟩ := es_order (lines s) (lines t) (lines_ne s) (greedy (lines s) (lines t) ((lines s).length + (lines t).length) 0 0) 0 0 (chainG_greedy _ _ _ 0 0 (Nat.zero_le _) (Nat.zero_le _))
  refine ⟨fun x hx => ?_, h2⟩
  obtain ⟨e1, e2, e3⟩ := h1 x hx
  rw [flat_lines, bs_len] at e3
  exact ⟨Int.le_trans (Int.natCast_nonneg _) e1, e2, e3⟩
/-! ### of a text to itself -/
theorem es_diag (a : List ByteArray) : ∀ (n i : Nat), i ≤ a.length → a.length - i ≤ n → es a a i i (greedy a a n i i ++ [(a.length, a.length)]) = [] := by
  intro n
  induction n with
  | zero =>
    intro i h1 h2
    have : i = a.length := by omega
    subst this
    rw [greedy, List.nil_append, es_end]
    unfold ed1
    rw [if_neg (by simp)]
  | succ n ih =>
    intro i h1 h2
    rw [greedy]
    by_cases c : i < a.length ∧ i < a.length
    · rw [dif_pos c, if_pos rfl, List.cons_append, es_cons, ih (i + 1) c.1 (by omega)]
      unfold ed1
      rw [if_neg (by simp)]
      rfl
    · rw [dif_neg c]
      have : i = a.length := by omega
      subst this
      rw [List.nil_append, es_end]
      unfold ed1
      rw [if_neg (by simp)]
theorem edits_self (s : ByteArray) : edits s s = [] := es_diag (lines s) _ 0 (Nat.zero_le _) (by omega)
end Go.Proofs.YtnemooemifbbhaaDoor.Dm
/- The document's answer to edits, byte by byte, and what it makes of the edits that turn a text into another one. Plain lists; no condition but those of each theorem. -/
namespace Go.Proofs.YtnemooemifbbhaaDoor.Df
open Go Go.RowKit Go.Proofs.YtnemooemifbbhaaDoorW.PrintWords Go.Proofs.YtnemooemifbbhaaDoorW.PrintLast Go.Proofs.YtnemooemifbbhaaDoorW.PrintMore Go.Proofs.YtnemooemifbbhaaDoor.PDF
set_option linter.unusedVariables false
set_option linter.unusedSimpArgs false
theorem wrap_id {x : Int} (h0 : -9223372036854775808 ≤ x) (h1 : x ≤ 9223372036854775807) : wrap64 x = x := by
  unfold wrap64
  omega
theorem Ev.ite_pos {α : Type} {c : Prop} [Decidable c] {f g : Nat → Option α} {r : α} (h : c) (k : Ev f r) : Ev (fun n => if c then f n else g n) r := by
  simp only [if_pos h]; exact k
theorem Ev.ite_neg {α : Type} {c : Prop} [Decidable c] {f g : Nat → Option α} {r : α} (h : ¬ c) (k : Ev g r) : Ev (fun n => if c then f n else g n) r := by
  simp only [if_neg h]; exact k
theorem Ev.val {α : Type} {r q : α} (h : r = q) : Ev (fun _ => some r) q := h ▸ Ev.now r
theorem rd_mid (pre : List S56) (x : S56) (r : List S56) : rd_T56 (pre ++ x :: r) (pre.length : Int) = x := by
  unfold rd_T56
  rw [List.getD_eq_getElem?_getD]
  simp
def sumSize : List S56 → Int
  | [] => 0
  | x :: r => (x.f2.size : Int) + sumSize r
theorem sumSize_nonneg (l : List S56) : 0 ≤ sumSize l := by
  induction l with
  | nil => exact Int.le_refl _
  | cons x r ih => unfold sumSize; omega
theorem sumSize_append (a b : List S56) : sumSize (a ++ b) = sumSize a + sumSize b := by
  induction a with
  | nil => simp [sumSize]
  | cons x r ih => simp only [List.cons_append, sumSize, ih]; omega
/-- The bytes of a string. -/
def bs (s : ByteArray) : List UInt8 := s.data.toList
theorem bs_len (s : ByteArray) : (bs s).length = s.size := by unfold bs; rw [Array.length_toList]; rfl
theorem bs_inj {s t : ByteArray} (h : bs s = bs t) : s = t := by
  obtain ⟨⟨s⟩⟩ := s
  obtain ⟨⟨t⟩⟩ := t
  simp only [bs] at h
  subst h
  rfl
theorem bs_mk (l : List UInt8) : bs ⟨l.toArray⟩ = l := by simp [bs]
/-- The bytes from one place up to another one. -/
def seg (S : List UInt8) (a b : Int) : List UInt8 := (S.drop a.toNat).take (b.toNat - a.toNat)
theorem bs_extract (s : ByteArray) (a b : Int) (h : b.toNat ≤ s.size) : bs (s.extract a.toNat b.toNat) = seg (bs s) a b := by
  unfold bs seg
  rw [ByteArray.data_extract, Array.toList_extract]
theorem seg_len (S : List UInt8) (a b : Int) (h : b.toNat ≤ S.length) : (seg S a b).length = b.toNat - a.toNat := by
  unfold seg
  rw [List.length_take, List.length_drop]
  omega
/-- Edits that go on from a place, within n bytes. -/
def Chain (n : Int) : Int → List S56 → Prop
  | a, [] => 0 ≤ a ∧ a ≤ n
  | a, x :: r => 0 ≤ a ∧ a ≤ x.f0 ∧ x.f0 ≤ x.f1 ∧ Chain n x.f1 r
theorem Chain.le {n a : Int} {l : List S56} (h : Chain n a l) : 0 ≤ a ∧ a ≤ n := by
  induction l generalizing a with
  | nil => exact h
  | cons x r ih =>
    obtain ⟨h0, h1, h2, h3⟩ := h
    have := ih h3
    omega
def app (S : List UInt8) : List S56 → Int → List UInt8
  | [], a => S.drop a.toNat
  | x :: r, a => seg S a x.f0 ++ bs x.f2 ++ app S r x.f1
/-- Does no edit take a byte? -/
def unt : List S56 → Int → Bool
  | [], _ => true
  | x :: r, i => !(decide (x.f0 ≤ i ∧ i < x.f1)) && unt r i
theorem taken_l0 (i : Int) (l : List S56) (hl : l.length ≤ 9223372036854775807) : ∀ (r pre : List S56), l = pre ++ r → ∃ v : Int, Ev (fun k => orielref02_taken.l0 k i l (pre.length : Int)) v ∧ (v < 0 ↔ unt r i = true) := by
  intro r
  induction r with
  | nil =>
    intro pre he
    refine ⟨-1, Ev.step (f := fun _ => some (-1)) (fun k => ?_) (Ev.now _), by simp [unt]⟩
    simp only [orielref02_taken.l0]
    rw [if_neg (by rw [he]; simp)]
  | cons x r ih =>
    intro pre he
    have hlen : l.length = pre.length + 1 + r.length := by rw [he]; simp only [List.length_append, List.length_cons]; omega
    have e2 : rd_T56 l (pre.length : Int) = x := by rw [he]; exact rd_mid pre x r
    by_cases c : x.f0 ≤ i ∧ i < x.f1
    · refine ⟨(pre.length : Int), Ev.step (f := fun _ => some (pre.length : Int)) (fun k => ?_) (Ev.now _), ?_⟩
      · simp only [orielref02_taken.l0]
        rw [if_pos (by omega), if_pos (by omega), e2, if_pos c.1, if_pos c.2]
      · simp only [unt, c, and_self, decide_true, Bool.not_true, Bool.false_and]
        constructor
        · intro h; omega
        · intro h; cases h
    · obtain ⟨v, hv, hv2⟩ := ih (pre ++ [x]) (by rw [he]; simp)
      refine ⟨v, ?_, ?_⟩
      · refine Ev.step (fun k => ?_) hv
        simp only [orielref02_taken.l0]
        rw [if_pos (by omega), if_pos (by omega), e2, wrap_id (x := (pre.length : Int) + 1) (by omega) (by omega), show (((pre ++ [x]).length : Nat) : Int) = (pre.length : Int) + 1 by simp]
        by_cases d : x.f0 ≤ i
        · rw [if_pos d, if_neg (by omega)]
        · rw [if_neg d]
      · rw [hv2]
        simp only [unt, c, decide_false, Bool.not_false, Bool.true_and]
theorem taken_ev (i : Int) (l : List S56) (hl : l.length ≤ 9223372036854775807) : ∃ v : Int, Ev (fun k => orielref02_taken.f k i l) v ∧ (v < 0 ↔ unt l i = true) := taken_l0 i l hl l [] rfl
theorem unt_late (i : Int) (l : List S56) (h : ∀ x ∈ l, i < x.f0) : unt l i = true := by
  induction l with
  | nil => rfl
  | cons x r ih =>
    have := h x List.mem_cons_self
    simp only [unt]
    rw [ih (fun y hy => h y (List.mem_cons_of_mem _ hy)), decide_eq_false (by omega)]
    rfl
/-! ### byte by byte -/
def insAt : List S56 → Int → List UInt8
  | [], _ => []
  | x :: r, i => (if x.f0 = i then bs x.f2 else []) ++ insAt r i
def stepA (S : List UInt8) (l : List S56) (i : Nat) : List UInt8 := insAt l i ++ (if i < S.length ∧ unt l i = true then (S.drop i).take 1 else [])
def refGo (S : List UInt8) (l : List S56) : Nat → Nat → List UInt8
  | _, 0 => []
  | i, d + 1 => stepA S l i ++ refGo S l (i + 1) d
theorem refGo_add (S : List UInt8) (l : List S56) (d e : Nat) : ∀ i, refGo S l i (d + e) = refGo S l i d ++ refGo S l (i + d) e := by
  induction d with
  | zero => intro i; simp [refGo]
  | succ d ih =>
    intro i
    rw [show d + 1 + e = (d + e) + 1 by omega]
    simp only [refGo, ih (i + 1), List.append_assoc]
    rw [show i + 1 + d = i + (d + 1) by omega]
theorem refGo_congr (S : List UInt8) (l r : List S56) (d : Nat) : ∀ i, (∀ j, i ≤ j → j < i + d → stepA S l j = stepA S r j) → refGo S l i d = refGo S r i d := by
  induction d with
  | zero => intro i _; rfl
  | succ d ih =>
    intro i h
    simp only [refGo]
    rw [h i (Nat.le_refl _) (by omega), ih (i + 1) (fun j h1 h2 => h j (by omega) (by omega))]
theorem refGo_keep (S : List UInt8) (l : List S56) (d : Nat) : ∀ i, i + d ≤ S.length → (∀ j : Nat, i ≤ j → j < i + d → insAt l j = [] ∧ unt l j = true) → refGo S l i d = (S.drop i).take d := by
  induction d with
  | zero => intro i _ _; simp [refGo]
  | succ d ih =>
    intro i hi h
    have h0 := h i (Nat.le_refl _) (by omega)
    simp only [refGo]
    rw [ih (i + 1) (by omega) (fun j h1 h2 => h j (by omega) (by omega))]
    unfold stepA
    rw [h0.1, if_pos ⟨by omega, h0.2⟩, List.nil_append]
    rw [show d + 1 = 1 + d by omega, List.take_add, List.drop_drop]
theorem refGo_none (S : List UInt8) (l : List S56) (d : Nat) : ∀ i, (∀ j : Nat, i ≤ j → j < i + d → stepA S l j = []) → refGo S l i d = [] := by
  induction d with
  | zero => intro i _; rfl
  | succ d ih =>
    intro i h
    simp only [refGo]
    rw [h i (Nat.le_refl _) (by omega), ih (i + 1) (fun j h1 h2 => h j (by omega) (by omega))]
    rfl
theorem insAt_late (i : Int) (l : List S56) (h : ∀ x ∈ l, i < x.f0) : insAt l i = [] := by
  induction l with
  | nil => rfl
  | cons x r ih =>
    have := h x List.mem_cons_self
    simp only [insAt]
    rw [if_neg (by omega), ih (fun y hy => h y (List.mem_cons_of_mem _ hy))]
    rfl
theorem insAt_len (i : Int) (l : List S56) : ((insAt l i).length : Int) ≤ sumSize l := by
  induction l with
  | nil => simp [insAt, sumSize]
  | cons x r ih =>
    simp only [insAt, sumSize, List.length_append]
    have := sumSize_nonneg r
    split
    · rw [bs_len]; omega
    · simp only [List.length_nil]; omega
/-- Each edit begins behind the end of the one ahead of it. -/
def behind : Int → List S56 → Prop
  | _, [] => True
  | a, x :: r => a < x.f0 ∧ behind x.f1 r
theorem behind_all {n : Int} {a : Int} {l : List S56} (hb : behind a l) (hc : Chain n a l) : ∀ x ∈ l, a < x.f0 := by
  induction l generalizing a with
  | nil => intro x hx; cases hx
  | cons y l ih =>
    intro x hx
    rcases List.mem_cons.mp hx with rfl | hx
    · exact hb.1
    · have := ih hb.2 hc.2.2.2 x hx
      have h1 := hc.2.2.1
      have h2 := hb.1
      omega
theorem refGo_app (S : List UInt8) (l : List S56) : ∀ a : Nat, Chain S.length a l → (∀ x r, l = x :: r → behind x.f1 r) → refGo S l a (S.length + 1 - a) = app S l a := by
  induction l with
  | nil =>
    intro a hc _
    obtain ⟨h0, h1⟩ := hc
    rw [show S.length + 1 - a = (S.length - a) + 1 by omega, refGo_add, refGo_keep S [] (S.length - a) a (by omega) (fun j _ _ => ⟨rfl, rfl⟩)]
    simp only [refGo, stepA, insAt, app]
    rw [if_neg (by omega), List.take_of_length_le (by rw [List.length_drop]; omega)]
    simp
  | cons x r ih =>
    intro a hc hb
    have hb' := hb x r rfl
    obtain ⟨h0, h1, h2, h3⟩ := hc
    have hle := h3.le
    obtain ⟨p, hp⟩ := Int.eq_ofNat_of_zero_le (show 0 ≤ x.f0 by omega)
    obtain ⟨e, he⟩ := Int.eq_ofNat_of_zero_le (show 0 ≤ x.f1 by omega)
    have far := behind_all hb' h3
    have hr : ∀ y r', r = y :: r' → behind y.f1 r' := fun y r' ey => by subst ey; exact hb'.2
    have ihr := ih e (by rw [← he]; exact h3) hr
    simp only [app]
    rw [hp, he]
    rw [hp] at h1 h2
    rw [he] at h2 far
    -- up to the edit
    have k1 : refGo S (x :: r) a (p - a) = (S.drop a).take (p - a) := refGo_keep S (x :: r) (p - a) a (by omega) (fun j hj1 hj2 => by
      constructor
      · exact insAt_late _ _ (fun y hy => by
          rcases List.mem_cons.mp hy with rfl | hy
          · omega
          · have := far y hy; omega)
      · exact unt_late _ _ (fun y hy => by
          rcases List.mem_cons.mp hy with rfl | hy
          · omega
          · have := far y hy; omega))
    have hseg : seg S a p = (S.drop a).take (p - a) := by unfold seg; simp
    -- the edit's own place
    have step_at : stepA S (x :: r) p = bs x.f2 ++ (if p < S.length ∧ (!(decide ((p : Int) < e)) && unt r p) = true then (S.drop p).take 1 else []) := by
      unfold stepA
      simp only [insAt, unt, hp, he]
      rw [if_pos trivial, insAt_late (p : Int) r (fun y hy => by have := far y hy; omega), List.append_nil, show decide ((p : Int) ≤ (p : Int) ∧ (p : Int) < (e : Int)) = decide ((p : Int) < (e : Int)) by simp]
    have later : ∀ j : Nat, p < j → e ≤ j → stepA S (x :: r) j = stepA S r j := fun j hj1 hj2 => by
      unfold stepA
      simp only [insAt, unt, hp, he]
      rw [if_neg (by omega), List.nil_append, decide_eq_false (by omega)]
      simp
    by_cases c : e = p
    · -- nothing is taken
      subst c
      have k2 : refGo S (x :: r) e (S.length + 1 - e) = bs x.f2 ++ refGo S r e (S.length + 1 - e) := by
        rw [show S.length + 1 - e = (S.length - e) + 1 by omega]
        simp only [refGo]
        rw [step_at, refGo_congr S (x :: r) r (S.length - e) (e + 1) (fun j hj1 hj2 => later j (by omega) (by omega))]
        have : stepA S r e = (if e < S.length ∧ (!(decide ((e : Int) < e)) && unt r e) = true then (S.drop e).take 1 else []) := by
          unfold stepA
          rw [insAt_late (e : Int) r far, List.nil_append]
          simp
        rw [this, List.append_assoc]
      rw [show S.length + 1 - a = (e - a) + (S.length + 1 - e) by omega, refGo_add, k1, show a + (e - a) = e by omega, k2, ihr, hseg, List.append_assoc]
    · have k2 : refGo S (x :: r) p (e - p) = bs x.f2 := by
        rw [show e - p = (e - p - 1) + 1 by omega]
        simp only [refGo]
        rw [step_at, decide_eq_true (show (p : Int) < e by omega)]
        rw [refGo_none S (x :: r) (e - p - 1) (p + 1) (fun j hj1 hj2 => by
          unfold stepA
          simp only [insAt, unt, hp, he]
          rw [if_neg (by omega), insAt_late (j : Int) r (fun y hy => by have := far y hy; omega), decide_eq_true (show (p : Int) ≤ (j : Int) ∧ (j : Int) < e by omega)]
          simp)]
        simp
      have k3 : refGo S (x :: r) e (S.length + 1 - e) = refGo S r e (S.length + 1 - e) := refGo_congr S (x :: r) r _ e (fun j hj1 hj2 => later j (by omega) hj1)
      rw [show S.length + 1 - a = (p - a) + ((e - p) + (S.length + 1 - e)) by omega, refGo_add, k1, show a + (p - a) = p by omega, refGo_add, k2, show p + (e - p) = e by omega, k3, ihr, hseg, List.append_assoc]
theorem bs_append (a b : ByteArray) : bs (a ++ b) = bs a ++ bs b := by
  unfold bs
  rw [ByteArray.data_append, Array.toList_append]
theorem mk_append (A : List UInt8) (x : ByteArray) : (⟨A.toArray⟩ : ByteArray) ++ x = ⟨(A ++ bs x).toArray⟩ := by
  apply bs_inj
  rw [bs_append, bs_mk]
  exact (bs_mk (A ++ bs x)).symm
theorem mk_size (A : List UInt8) : (⟨A.toArray⟩ : ByteArray).size = A.length := by
  rw [← bs_len, bs_mk]
theorem RA_l1 (s : ByteArray) (l : List S56) (hl : l.length ≤ 10000) (i : Nat) (q : ByteArray × Int) : ∀ (r pre : List S56) (A : List UInt8), l = pre ++ r → (A.length : Int) + sumSize r ≤ 1000000000 →
    Ev (fun k => orielref02_Apply.l1 k s l ⟨(A ++ insAt r i).toArray⟩ (i : Int) (l.length : Int)) q → Ev (fun k => orielref02_Apply.l1 k s l ⟨A.toArray⟩ (i : Int) (pre.length : Int)) q := by
  intro r
  induction r with
  | nil =>
    intro pre A he hb hq
    rw [List.append_nil] at he
    subst he
    simp only [insAt, List.append_nil] at hq
    exact hq
  | cons x r ih =>
    intro pre A he hb hq
    have hlen : l.length = pre.length + 1 + r.length := by rw [he]; simp only [List.length_append, List.length_cons]; omega
    have e2 : rd_T56 l (pre.length : Int) = x := by rw [he]; exact rd_mid pre x r
    have hnn := sumSize_nonneg r
    simp only [sumSize] at hb
    simp only [insAt] at hq
    by_cases c : x.f0 = (i : Int)
    · rw [if_pos c, ← List.append_assoc] at hq
      have hi := ih (pre ++ [x]) (A ++ bs x.f2) (by rw [he]; simp) (by rw [List.length_append, bs_len]; omega) hq
      rw [show (((pre ++ [x]).length : Nat) : Int) = (pre.length : Int) + 1 by simp] at hi
      refine Ev.step (fun k => ?_) hi
      simp only [orielref02_Apply.l1]
      rw [if_pos (by omega), if_pos (by omega), e2, if_pos c, mk_size, if_pos (by omega), mk_append, wrap_id (x := (pre.length : Int) + 1) (by omega) (by omega)]
    · rw [if_neg c, List.nil_append] at hq
      have hi := ih (pre ++ [x]) A (by rw [he]; simp) (by omega) hq
      rw [show (((pre ++ [x]).length : Nat) : Int) = (pre.length : Int) + 1 by simp] at hi
      refine Ev.step (fun k => ?_) hi
      simp only [orielref02_Apply.l1]
      rw [if_pos (by omega), if_pos (by omega), e2, if_neg c, wrap_id (x := (pre.length : Int) + 1) (by omega) (by omega)]
theorem RA_l0 (s : ByteArray) (hs : s.size ≤ 2000) (l : List S56) (hl : l.length ≤ 10000) (hz : sumSize l ≤ 10000) : ∀ (d i : Nat) (A : List UInt8), i + d = s.size + 1 → A.length ≤ 20000 * i →
    Ev (fun k => orielref02_Apply.l0 k s l ⟨A.toArray⟩ (i : Int)) (⟨(A ++ refGo (bs s) l i d).toArray⟩, 0) := by
  intro d
  induction d with
  | zero =>
    intro i A hi hA
    refine Ev.step (f := fun _ => some (⟨A.toArray⟩, 0)) (fun k => ?_) (Ev.val (by simp [refGo]))
    simp only [orielref02_Apply.l0]
    rw [if_neg (by omega)]
  | succ d ih =>
    intro i A hi hA
    have hil := insAt_len (i : Int) l
    refine Ev.step (fun k => by simp only [orielref02_Apply.l0]; rw [if_pos (by omega)]) ?_
    refine RA_l1 s l hl i _ l [] A rfl (by omega) ?_
    obtain ⟨v, hv, hv2⟩ := taken_ev (i : Int) l (by omega)
    have hstep : ∀ B, stepA (bs s) l i = insAt l i ++ B → B.length ≤ 1 → Ev (fun k => orielref02_Apply.l0 k s l ⟨(A ++ insAt l i ++ B).toArray⟩ ((i : Int) + 1)) (⟨(A ++ refGo (bs s) l i (d + 1)).toArray⟩, 0) := fun B hB hB1 => by
      have := ih (i + 1) (A ++ insAt l i ++ B) (by omega) (by simp only [List.length_append]; omega)
      simp only [refGo]
      rw [hB, show A ++ (insAt l i ++ B ++ refGo (bs s) l (i + 1) d) = A ++ insAt l i ++ B ++ refGo (bs s) l (i + 1) d by simp [List.append_assoc], show (i : Int) + 1 = ((i + 1 : Nat) : Int) by omega]
      exact this
    by_cases c : i < s.size
    · refine Ev.step (fun k => by simp only [orielref02_Apply.l1]; rw [if_neg (by omega), if_pos (by omega)]) ?_
      refine Ev.bind hv ?_
      by_cases cv : v < 0
      · refine Ev.ite_pos cv ?_
        rw [wrap_id (x := (i : Int) + 1) (by omega) (by omega)]
        have hex : bs (s.extract (i : Int).toNat ((i : Int) + 1).toNat) = ((bs s).drop i).take 1 := by
          rw [bs_extract s (i : Int) ((i : Int) + 1) (by omega)]
          unfold seg
          rw [show ((i : Int)).toNat = i by omega, show ((i : Int) + 1).toNat - i = 1 by omega]
        have hsz : (s.extract (i : Int).toNat ((i : Int) + 1).toNat).size = 1 := by
          rw [← bs_len, hex, List.length_take, List.length_drop, bs_len]
          omega
        refine Ev.ite_pos (by omega) (Ev.ite_pos (by omega) (Ev.ite_pos (by omega) (Ev.ite_pos ?_ ?_)))
        · rw [hsz, mk_size]
          simp only [List.length_append]
          omega
        · rw [mk_append, hex]
          refine hstep _ ?_ (by rw [List.length_take]; omega)
          unfold stepA
          rw [if_pos ⟨by rw [bs_len]; exact c, hv2.mp cv⟩]
      · refine Ev.ite_neg cv ?_
        rw [wrap_id (x := (i : Int) + 1) (by omega) (by omega)]
        have := hstep [] (by unfold stepA; rw [if_neg (fun h => cv (hv2.mpr h.2))]) (by simp)
        rw [List.append_nil] at this
        exact this
    · refine Ev.step (fun k => by simp only [orielref02_Apply.l1]; rw [if_neg (by omega), if_neg (by omega), wrap_id (x := (i : Int) + 1) (by omega) (by omega)]) ?_
      have := hstep [] (by unfold stepA; rw [if_neg (fun h => c (by have := h.1; rw [bs_len] at this; exact this))]) (by simp)
      rw [List.append_nil] at this
      exact this
/-! ### right edits -/
open Go.Proofs.YtnemooemifbbhaaDoor.Dm (wsucc rd56 flat off cat es ed1 es_cons es_end chain chainG edits lines flat_lines off_mono off_le off_cat off_succ off_add off_over seg_more cat_one cat_step chainG_greedy chain_greedy edits_right es_len' ofL allp)
theorem RC_l1 (l : List S56) (hl : l.length ≤ 2000000) (hp : l.Pairwise (fun x y => x.f1 < y.f0)) : ∀ (d i : Nat), i + 1 + d = l.length ∨ (l = [] ∧ i = 0) → Ev (fun k => orielref02_Check.l1 k l ((i + 1 : Nat) : Int)) 0 := by
  intro d
  induction d with
  | zero =>
    intro i h
    have q1 : ¬ (((i + 1 : Nat) : Int) < (l.length : Int)) := by
      rcases h with h | ⟨h, _⟩
      · omega
      · rw [h]; simp only [List.length_nil]; omega
    refine Ev.step (f := fun _ => some 0) (fun k => ?_) (Ev.now _)
    rw [orielref02_Check.l1, if_neg q1]
  | succ d ih =>
    intro i h
    by_cases hn : l = []
    · subst hn
      have q1 : ¬ (((i + 1 : Nat) : Int) < (([] : List S56).length : Int)) := by simp only [List.length_nil]; omega
      refine Ev.step (f := fun _ => some 0) (fun k => ?_) (Ev.now _)
      rw [orielref02_Check.l1, if_neg q1]
    · have hi : i + 1 + (d + 1) = l.length := h.resolve_right (fun e => hn e.1)
      have q1 : ((i + 1 : Nat) : Int) < (l.length : Int) := by omega
      have q2 : (0 : Int) ≤ ((i + 1 : Nat) : Int) := Int.natCast_nonneg _
      have q3 : (0 : Int) ≤ (i : Int) := Int.natCast_nonneg _
      have q4 : (i : Int) < (l.length : Int) := by omega
      have w1 : wrap64 (((i + 1 : Nat) : Int) - 1) = (i : Int) := by rw [Dm.wid (by omega) (by omega)]; omega
      have hlt := (List.pairwise_iff_getElem.mp hp) i (i + 1) (by omega) (by omega) (by omega)
      have q5 : ¬ ((l[i + 1]'(by omega)).f0 ≤ (l[i]'(by omega)).f1) := by omega
      refine Ev.step (fun k => ?_) (ih (i + 1) (.inl (by omega)))
      rw [orielref02_Check.l1, w1, if_pos q1, if_pos q2, if_pos q3, if_pos q4, rd56 l (i + 1) (by omega), rd56 l i (by omega), if_neg q5, wsucc (i + 1) (by omega)]
theorem RC_l0 (n : Nat) (l : List S56) (hl : l.length ≤ 2000000) (hr : ∀ x ∈ l, 0 ≤ x.f0 ∧ x.f0 ≤ x.f1 ∧ x.f1 ≤ (n : Int)) (hp : l.Pairwise (fun x y => x.f1 < y.f0)) : ∀ (d i : Nat), i + d = l.length → Ev (fun k => orielref02_Check.l0 k (n : Int) l (i : Int)) 0 := by
  intro d
  induction d with
  | zero =>
    intro i h
    have q1 : ¬ ((i : Int) < (l.length : Int)) := by omega
    have := RC_l1 l hl hp (l.length - 1) 0 (by
      by_cases c : l = []
      · exact .inr ⟨c, rfl⟩
      · have := List.length_pos_iff.mpr c
        exact .inl (by omega))
    refine Ev.step (fun k => ?_) this
    rw [orielref02_Check.l0, if_neg q1]
    rfl
  | succ d ih =>
    intro i h
    have hi : i < l.length := by omega
    have q1 : (i : Int) < (l.length : Int) := by omega
    have q2 : (0 : Int) ≤ (i : Int) := Int.natCast_nonneg _
    obtain ⟨r1, r2, r3⟩ := hr _ (List.getElem_mem hi)
    have q3 : ¬ ((l[i]).f0 < 0) := by omega
    have q4 : ¬ ((l[i]).f1 < (l[i]).f0) := by omega
    have q5 : decide ((l[i]).f1 > (n : Int)) = false := decide_eq_false (by omega)
    refine Ev.step (f := fun k => orielref02_Check.j1 k (n : Int) l (i : Int) false) (fun k => by rw [orielref02_Check.l0, if_pos q1, if_pos q2, rd56 l i hi, if_neg q3, if_neg q4, q5]) (Ev.step (fun k => ?_) (ih (i + 1) (by omega)))
    rw [orielref02_Check.j1, if_neg (by decide), wsucc i (by omega)]
theorem RCheck_ok (n : Nat) (l : List S56) (hl : l.length ≤ 2000000) (hr : ∀ x ∈ l, 0 ≤ x.f0 ∧ x.f0 ≤ x.f1 ∧ x.f1 ≤ (n : Int)) (hp : l.Pairwise (fun x y => x.f1 < y.f0)) : Ev (fun k => orielref02_Check.f k (n : Int) l) 0 := by
  unfold orielref02_Check.f
  exact Ev.ite_neg (by omega) (RC_l0 n l hl hr hp l.length 0 (by omega))
theorem chain_of (n : Int) : ∀ (l : List S56) (a : Int), 0 ≤ a → a ≤ n → (∀ x ∈ l, a ≤ x.f0 ∧ x.f0 ≤ x.f1 ∧ x.f1 ≤ n) → l.Pairwise (fun x y => x.f1 < y.f0) → Chain n a l
  | [], a, h0, h1, _, _ => ⟨h0, h1⟩
  | x :: r, a, h0, h1, hr, hp => by
    obtain ⟨r1, r2, r3⟩ := hr x List.mem_cons_self
    obtain ⟨p1, p2⟩ := List.pairwise_cons.mp hp
    refine ⟨h0, r1, r2, chain_of n r x.f1 (by omega) r3 (fun y hy => ?_) p2⟩
    have := hr y (List.mem_cons_of_mem _ hy)
    have := p1 y hy
    omega
theorem behind_pw : ∀ (r : List S56) (a : Int), (∀ y ∈ r, a < y.f0) → r.Pairwise (fun x y => x.f1 < y.f0) → behind a r
  | [], _, _, _ => trivial
  | x :: r, a, h, hp => by
    obtain ⟨p1, p2⟩ := List.pairwise_cons.mp hp
    exact ⟨h x List.mem_cons_self, behind_pw r x.f1 p1 p2⟩
/-! ### what the edits that turn a text into another one make of it -/
theorem app_one (a b : List ByteArray) (i k : Nat) (p : Nat × Nat) (R : List S56) (at_ : Nat) (acc : List UInt8) (h1 : i ≤ p.1) (h2 : k ≤ p.2) (hat : at_ ≤ off a i) (hacc : acc ++ ((flat a).drop at_).take (off a i - at_) = flat (b.take k)) :
    ∃ (at2 : Nat) (acc2 : List UInt8), acc ++ app (flat a) (ed1 a b i k p ++ R) (at_ : Int) = acc2 ++ app (flat a) R (at2 : Int) ∧ at2 ≤ off a p.1 ∧ acc2 ++ ((flat a).drop at2).take (off a p.1 - at2) = flat (b.take p.2) := by
  unfold ed1
  by_cases c : i < p.1 ∨ k < p.2
  · rw [if_pos c]
    refine ⟨off a p.1, acc ++ ((flat a).drop at_).take (off a i - at_) ++ cat b k p.2, ?_, Nat.le_refl _, ?_⟩
    · show acc ++ (seg (flat a) (at_ : Int) (off a i : Int) ++ bs (ofL (cat b k p.2)) ++ app (flat a) R (off a p.1 : Int)) = _
      have e1 : seg (flat a) (at_ : Int) (off a i : Int) = ((flat a).drop at_).take (off a i - at_) := by unfold seg; simp
      have e2 : bs (ofL (cat b k p.2)) = cat b k p.2 := bs_mk _
      rw [e1, e2]
      simp only [List.append_assoc]
    · rw [Nat.sub_self, List.take_zero, List.append_nil, hacc, ← off_cat b k p.2 h2]
  · rw [if_neg c, List.nil_append]
    have e1 : i = p.1 := by omega
    have e2 : k = p.2 := by omega
    refine ⟨at_, acc, rfl, ?_, ?_⟩
    · rw [← e1]; exact hat
    · rw [← e1, ← e2]; exact hacc
theorem app_all (a b : List ByteArray) : ∀ (L : List (Nat × Nat)) (i k at_ : Nat) (acc : List UInt8), chainG a b i k L → at_ ≤ off a i → acc ++ ((flat a).drop at_).take (off a i - at_) = flat (b.take k) →
    acc ++ app (flat a) (es a b i k (L ++ [(a.length, b.length)])) (at_ : Int) = flat b
  | [], i, k, at_, acc, h, hat, hacc => by
    rw [List.nil_append, es_end]
    obtain ⟨at2, acc2, e1, e2, e3⟩ := app_one a b i k (a.length, b.length) [] at_ acc h.1 h.2 hat hacc
    rw [List.append_nil] at e1
    have o : off a a.length = (flat a).length := off_over a a.length (Nat.le_refl _)
    simp only [o, List.take_length] at e3
    rw [e1, ← e3]
    congr 1
    show (flat a).drop ((at2 : Int)).toNat = _
    rw [Int.toNat_natCast, List.take_of_length_le (by rw [List.length_drop]; omega)]
  | p :: r, i, k, at_, acc, h, hat, hacc => by
    obtain ⟨h1, h2, ⟨h3, h4⟩, h5⟩ := h
    rw [List.cons_append, es_cons]
    obtain ⟨at2, acc2, e1, e2, e3⟩ := app_one a b i k p (es a b (p.1 + 1) (p.2 + 1) (r ++ [(a.length, b.length)])) at_ acc h1 h2 hat hacc
    rw [e1]
    have o := off_mono a p.1 (p.1 + 1) (Nat.le_succ _)
    refine app_all a b r (p.1 + 1) (p.2 + 1) at2 acc2 h5 (Nat.le_trans e2 o) ?_
    rw [seg_more a at2 p.1 (p.1 + 1) e2 (Nat.le_succ _), ← List.append_assoc, e3, cat_one a p.1 h3.1, h4, off_cat b p.2 (p.2 + 1) (Nat.le_succ _), cat_one b p.2 h3.2]
theorem sum_es (a b : List ByteArray) : ∀ (L : List (Nat × Nat)) (i k : Nat), chain a b i k L → sumSize (es a b i k L) + (off b k : Int) ≤ ((flat b).length : Int)
  | [], i, k, _ => by
    show (0 : Int) + _ ≤ _
    have := off_le b k
    omega
  | p :: r, i, k, h => by
    obtain ⟨h1, h2, h3, h4, h5⟩ := h
    have hi := sum_es a b r (p.1 + 1) (p.2 + 1) h5
    have o := off_mono b p.2 (p.2 + 1) (Nat.le_succ _)
    have o2 := off_add b k p.2 h2
    rw [es_cons, sumSize_append]
    have : sumSize (ed1 a b i k p) ≤ ((cat b k p.2).length : Int) := by
      unfold ed1
      split
      · show ((ofL (cat b k p.2)).size : Int) + 0 ≤ _
        rw [Dm.ofL_size]
        omega
      · exact Int.natCast_nonneg _
    omega
theorem RApply_edits (s t : ByteArray) (hs : s.size ≤ 2000) (ht : t.size ≤ 2000) : Ev (fun k => orielref02_Apply.f k s (edits s t)) (t, 0) := by
  obtain ⟨h1, h2⟩ := edits_right s t
  have hlen := es_len' s t
  have hsum : sumSize (edits s t) ≤ (t.size : Int) := by
    have := sum_es (lines s) (lines t) (allp (lines s) (lines t)) 0 0 (chain_greedy _ _ _ 0 0 (Nat.zero_le _) (Nat.zero_le _))
    rw [flat_lines] at this
    have e : ((Dm.bs t).length : Int) = (t.size : Int) := rfl
    rw [e] at this
    have e0 : (off (lines t) 0 : Int) = 0 := rfl
    rw [e0, Int.add_zero] at this
    exact this
  unfold orielref02_Apply.f
  refine Ev.bind (f := fun k e => _) (RCheck_ok s.size (edits s t) (by omega) h1 h2) (Ev.ite_pos rfl ?_)
  have h := RA_l0 s hs (edits s t) (by omega) (by omega) (s.size + 1) 0 [] (by omega) (by simp)
  have hb : ∀ x r, edits s t = x :: r → behind x.f1 r := fun x r e => by
    rw [e] at h2
    obtain ⟨p1, p2⟩ := List.pairwise_cons.mp h2
    exact behind_pw r x.f1 p1 p2
  have h3 := refGo_app (bs s) (edits s t) 0 (by rw [bs_len]; exact chain_of s.size (edits s t) 0 (by omega) (by omega) h1 h2) hb
  rw [bs_len, Nat.sub_zero] at h3
  have h4 := app_all (lines s) (lines t) (TabD.greedy (lines s) (lines t) ((lines s).length + (lines t).length) 0 0) 0 0 0 [] (chainG_greedy _ _ _ 0 0 (Nat.zero_le _) (Nat.zero_le _)) (Nat.zero_le _) (by simp [Dm.off_zero, flat])
  rw [flat_lines, flat_lines, List.nil_append] at h4
  have h5 : app (bs s) (edits s t) 0 = bs t := h4
  rw [show ((0 : Nat) : Int) = 0 from rfl] at h3 h
  rw [h3, h5, List.nil_append] at h
  have e : (⟨(bs t).toArray⟩ : ByteArray) = t := by cases t; rfl
  rw [e] at h
  exact h
end Go.Proofs.YtnemooemifbbhaaDoor.Df
/- What turns files into others, and what the document's answer makes of it. Plain lists; no condition but those of each theorem. -/
namespace Go.Proofs.YtnemooemifbbhaaDoor.Dc
open Go Go.RowKit Go.Proofs.YtnemooemifbbhaaDoorW.PrintWords Go.Proofs.YtnemooemifbbhaaDoorW.PrintLast Go.Proofs.YtnemooemifbbhaaDoorW.PrintMore Go.Proofs.YtnemooemifbbhaaDoor.PDF Go.Proofs.YtnemooemifbbhaaDoor.Dm
set_option linter.unusedVariables false
set_option linter.unusedSimpArgs false
theorem rd43 (l : List S43) (i : Nat) (h : i < l.length) : rd_T43 l (i : Int) = l[i] := by simp [rd_T43, h]
theorem rd70 (l : List S70) (i : Nat) (h : i < l.length) : rd_T70 l (i : Int) = l[i] := by simp [rd_T70, h]
theorem rd43_mid (pre : List S43) (x : S43) (r : List S43) (l : List S43) (h : l = pre ++ x :: r) : rd_T43 l (pre.length : Int) = x := by
  subst h
  unfold rd_T43
  rw [List.getD_eq_getElem?_getD]
  simp
theorem name_eq {x y : ByteArray} (h : x.toList = y.toList) : x = y := bs_ext (by rw [toList_eq, toList_eq] at h; exact h)
/-! ### few -/
def szs : List S43 → Int
  | [] => 0
  | x :: r => (x.f1.size : Int) + szs r
theorem few_l0 (l : List S43) (hl : l.length ≤ 9223372036854775807) : ∀ (r pre : List S43) (n : Int), l = pre ++ r → pre.length ≤ 5 → 0 ≤ n → n ≤ 10000 * pre.length →
    ∃ b, Ev (fun k => orielref10_Few.l0 k l n (pre.length : Int)) b ∧ (b = true → l.length ≤ 4 ∧ n ≤ 1500 ∧ ∀ x ∈ r, x.f1.size ≤ 1500) := by
  intro r
  induction r with
  | nil =>
    intro pre n he hp h0 hn
    simp only [List.append_nil] at he
    subst he
    have q1 : ¬ ((l.length : Int) < (l.length : Int)) := Int.lt_irrefl _
    by_cases h4 : (l.length : Int) ≤ 4
    · refine ⟨decide (n ≤ 1500), Ev.step (f := fun _ => some (decide (n ≤ 1500))) (fun k => by rw [orielref10_Few.l0, if_neg q1, if_pos h4]) (Ev.now _), fun h => ?_⟩
      have := of_decide_eq_true h
      exact ⟨by omega, this, fun x hx => by cases hx⟩
    · exact ⟨false, Ev.step (f := fun _ => some false) (fun k => by rw [orielref10_Few.l0, if_neg q1, if_neg h4]) (Ev.now _), fun h => by cases h⟩
  | cons x r ih =>
    intro pre n he hp h0 hn
    have hlen : l.length = pre.length + 1 + r.length := by rw [he]; simp only [List.length_append, List.length_cons]; omega
    have q1 : (pre.length : Int) < (l.length : Int) := by omega
    have hrd := rd43_mid pre x r l he
    by_cases h4 : (pre.length : Int) ≤ 4
    · have q3 : (0 : Int) ≤ (pre.length : Int) := Int.natCast_nonneg _
      have m1 : 0 ≤ mn (x.f1.size : Int) 5000 ∧ mn (x.f1.size : Int) 5000 ≤ 5000 ∧ (mn (x.f1.size : Int) 5000 ≤ 1500 → x.f1.size ≤ 1500) := by unfold mn; split <;> omega
      have m2 : 0 ≤ mn (x.f0.size : Int) 5000 ∧ mn (x.f0.size : Int) 5000 ≤ 5000 := by unfold mn; split <;> omega
      obtain ⟨u, hu⟩ : ∃ u, u = mn (x.f1.size : Int) 5000 := ⟨_, rfl⟩
      obtain ⟨v, hv⟩ : ∃ v, v = mn (x.f0.size : Int) 5000 := ⟨_, rfl⟩
      rw [← hu] at m1
      rw [← hv] at m2
      have w1 : wrap64 (n + u) = n + u := wid (by omega) (by omega)
      have w2 : wrap64 (n + u + v) = n + u + v := wid (by omega) (by omega)
      obtain ⟨b, hb1, hb2⟩ := ih (pre ++ [x]) (n + u + v) (by rw [he]; simp) (by simp; omega) (by omega) (by simp only [List.length_append, List.length_cons, List.length_nil]; omega)
      refine ⟨b, Ev.step (fun k => ?_) hb1, fun h => ?_⟩
      · rw [orielref10_Few.l0, if_pos q1, if_pos h4, if_pos q3, hrd, ← hu, ← hv, w1, w2, wsucc pre.length (by omega), List.length_append]
        rfl
      · obtain ⟨g1, g2, g3⟩ := hb2 h
        refine ⟨g1, by omega, fun y hy => ?_⟩
        rcases List.mem_cons.mp hy with rfl | hy
        · exact m1.2.2 (by omega)
        · exact g3 y hy
    · have q4 : ¬ ((l.length : Int) ≤ 4) := by omega
      exact ⟨false, Ev.step (f := fun _ => some false) (fun k => by rw [orielref10_Few.l0, if_pos q1, if_neg h4, if_neg q4]) (Ev.now _), fun h => by cases h⟩
theorem few_ev (l : List S43) (hl : l.length ≤ 9223372036854775807) : ∃ b, Ev (fun k => orielref10_Few.f k l) b ∧ (b = true → l.length ≤ 4 ∧ ∀ x ∈ l, x.f1.size ≤ 1500) := by
  obtain ⟨b, h1, h2⟩ := few_l0 l hl l [] 0 rfl (by decide) (Int.le_refl _) (by simp)
  exact ⟨b, h1, fun h => ⟨(h2 h).1, (h2 h).2.2⟩⟩
/-! ### diff.Files -/
def chg (i : Nat) (x : S56) : S70 := ⟨(i : Int), x.f0, x.f1, x.f2⟩
def chgs (i : Nat) : List S43 → List S43 → List S70
  | [], _ => []
  | _ :: _, [] => []
  | x :: xs, y :: ys => (edits x.f1 y.f1).map (chg i) ++ chgs (i + 1) xs ys
def nm : List S43 → List S43 → Bool
  | [], _ => true
  | _ :: _, [] => false
  | x :: xs, y :: ys => (x.f0.toList == y.f0.toList) && nm xs ys
/-- Few files, of few bytes. -/
def small (l : List S43) : Prop := l.length ≤ 4 ∧ ∀ x ∈ l, x.f1.size ≤ 1500
theorem Files_l1 (b : List S43) (acc : List S70) (i : Nat) (a : List S43) (n : Int) (E : List S56) (hE : E.length ≤ 2000) (hacc : acc.length ≤ 100000) (R : List S70 × Bool) (h : Ev (fun k => diff_Files.l0 k b (acc ++ E.map (chg i)) a n (wrap64 ((i : Int) + 1))) R) :
    ∀ (d j : Nat), j + d = E.length → Ev (fun k => diff_Files.l1 k b (acc ++ (E.take j).map (chg i)) (i : Int) a n (i : Int) E (E.length : Int) (j : Int)) R := by
  intro d
  induction d with
  | zero =>
    intro j hj
    have q1 : ¬ ((j : Int) < (E.length : Int)) := by omega
    rw [List.take_of_length_le (by omega)]
    refine Ev.step (fun k => ?_) h
    rw [diff_Files.l1, if_neg q1]
  | succ d ih =>
    intro j hj
    have hj2 : j < E.length := by omega
    have q1 : (j : Int) < (E.length : Int) := by omega
    have q2 : (0 : Int) ≤ (j : Int) := Int.natCast_nonneg _
    have q3 : (acc ++ (E.take j).map (chg i)).length < 3518437208883 := by
      rw [List.length_append, List.length_map, List.length_take]
      omega
    have hi := ih (j + 1) (by omega)
    rw [List.take_add_one, List.getElem?_eq_getElem hj2, Option.toList_some, List.map_append, ← List.append_assoc] at hi
    refine Ev.step (fun k => ?_) hi
    rw [diff_Files.l1, if_pos q1, if_pos q2, if_pos q1, if_pos q3, rd56 E j hj2, wsucc j (by omega)]
    rfl
theorem Files_l0 (a b : List S43) (hab : a.length = b.length) (ha : small a) (hb : small b) : ∀ (xs ys : List S43) (i : Nat) (acc : List S70), a.drop i = xs → b.drop i = ys → acc.length ≤ 2000 * i →
    Ev (fun k => diff_Files.l0 k b acc a (a.length : Int) (i : Int)) (if nm xs ys = true then (acc ++ chgs i xs ys, true) else ([], false)) := by
  intro xs
  induction xs with
  | nil =>
    intro ys i acc h1 h2 hacc
    have hi : a.length ≤ i := List.drop_eq_nil_iff.mp h1
    have q1 : ¬ ((i : Int) < (a.length : Int)) := by omega
    refine Ev.step (f := fun _ => some (acc, true)) (fun k => by rw [diff_Files.l0, if_neg q1]) ?_
    show Ev _ (acc ++ [], true)
    rw [List.append_nil]
    exact Ev.now _
  | cons x xs ih =>
    intro ys i acc h1 h2 hacc
    have hi : i < a.length := by
      have := congrArg List.length h1
      rw [List.length_drop, List.length_cons] at this
      omega
    have hib : i < b.length := by omega
    have hx : a[i] = x := by
      have := List.drop_eq_getElem_cons hi
      rw [h1] at this
      injection this with e _
      exact e.symm
    obtain ⟨y, ys', rfl⟩ : ∃ y ys', ys = y :: ys' := by
      rw [List.drop_eq_getElem_cons hib] at h2
      exact ⟨_, _, h2.symm⟩
    have hy : b[i] = y := by
      have := List.drop_eq_getElem_cons hib
      rw [h2] at this
      injection this with e _
      exact e.symm
    have h1' : a.drop (i + 1) = xs := by rw [← List.drop_drop, h1]; rfl
    have h2' : b.drop (i + 1) = ys' := by rw [← List.drop_drop, h2]; rfl
    have q1 : (i : Int) < (a.length : Int) := by omega
    have q2 : (0 : Int) ≤ (i : Int) := Int.natCast_nonneg _
    have q3 : (i : Int) < (b.length : Int) := by omega
    have sx : x.f1.size ≤ 1500 := ha.2 x (by rw [← hx]; exact List.getElem_mem hi)
    have sy : y.f1.size ≤ 1500 := hb.2 y (by rw [← hy]; exact List.getElem_mem hib)
    have hal := ha.1
    have hst : ∀ k, diff_Files.l0 (k + 1) b acc a (a.length : Int) (i : Int) = if x.f0.toList = y.f0.toList then ((diff_Edits.f k x.f1 y.f1).bind fun t154 => (diff_Files.l1 k b acc (i : Int) a (a.length : Int) (i : Int) t154 (t154.length : Int) 0)) else (some (([] : List S70), false)) := by
      intro k
      rw [diff_Files.l0, if_pos q1, if_pos q2, if_pos q1, if_pos q3, rd43 a i hi, rd43 b i hib, hx, hy]
    refine Ev.step hst ?_
    by_cases c : x.f0.toList = y.f0.toList
    · have hn : nm (x :: xs) (y :: ys') = nm xs ys' := by rw [nm, c]; simp
      refine Ev.ite_pos c ?_
      rw [hn]
      refine Ev.bind (f := fun k t => _) (Edits_ev x.f1 y.f1 (by omega) (by omega)) ?_
      have hel := es_len' x.f1 y.f1
      have := Files_l1 b acc i a (a.length : Int) (edits x.f1 y.f1) (by omega) (by omega) (if nm xs ys' = true then (acc ++ chgs i (x :: xs) (y :: ys'), true) else ([], false)) (by
        rw [wsucc i (by omega)]
        have := ih ys' (i + 1) (acc ++ (edits x.f1 y.f1).map (chg i)) h1' h2' (by rw [List.length_append, List.length_map]; omega)
        rw [List.append_assoc] at this
        exact this) (edits x.f1 y.f1).length 0 (Nat.zero_add _)
      rw [List.take_zero, List.map_nil, List.append_nil] at this
      exact this
    · have hn : nm (x :: xs) (y :: ys') = false := by rw [nm]; simp [c]
      refine Ev.ite_neg c ?_
      rw [hn, if_neg (by decide)]
      exact Ev.now _
theorem Files_ev (a b : List S43) (ha : small a) (hb : small b) : Ev (fun k => diff_Files.f k a b) (if a.length = b.length ∧ nm a b = true then (chgs 0 a b, true) else ([], false)) := by
  unfold diff_Files.f
  by_cases c : a.length = b.length
  · refine Ev.ite_pos (by omega) ?_
    have := Files_l0 a b c ha hb a b 0 [] rfl rfl (Nat.zero_le _)
    rw [List.nil_append] at this
    by_cases d : nm a b = true
    · rw [if_pos ⟨c, d⟩]
      rw [if_pos d] at this
      exact this
    · rw [if_neg (fun h => d h.2)]
      rw [if_neg d] at this
      exact this
  · refine Ev.ite_neg (by omega) ?_
    rw [if_neg (fun h => c h.1)]
    exact Ev.now _
/-! ### a file's own -/
def ofl (i : Nat) (L : List S70) : List S56 := (L.filter fun x => x.f0 == (i : Int)).map fun x => (⟨x.f1, x.f2, x.f3⟩ : S56)
theorem ofl_app (i : Nat) (L M : List S70) : ofl i (L ++ M) = ofl i L ++ ofl i M := by simp [ofl]
theorem ofl_same (i : Nat) (E : List S56) : ofl i (E.map (chg i)) = E := by
  induction E with
  | nil => rfl
  | cons x r ih =>
    unfold ofl at ih ⊢
    rw [List.map_cons, List.filter_cons, if_pos (by simp [chg]), List.map_cons, ih]
    rfl
theorem ofl_other (i j : Nat) (h : i ≠ j) (E : List S56) : ofl i (E.map (chg j)) = [] := by
  induction E with
  | nil => rfl
  | cons x r ih =>
    unfold ofl at ih ⊢
    rw [List.map_cons, List.filter_cons, if_neg (by simp [chg]; omega), ih]
theorem ofl_none (i : Nat) : ∀ (xs ys : List S43) (j : Nat), i < j → ofl i (chgs j xs ys) = []
  | [], _, j, _ => rfl
  | _ :: _, [], j, _ => rfl
  | x :: xs, y :: ys, j, h => by rw [chgs, ofl_app, ofl_other i j (by omega), ofl_none i xs ys (j + 1) (by omega)]; rfl
theorem ofl_chgs : ∀ (xs ys : List S43) (j i : Nat) (hx : i < xs.length) (hy : i < ys.length), ofl (j + i) (chgs j xs ys) = edits (xs[i]).f1 (ys[i]).f1
  | x :: xs, y :: ys, j, 0, _, _ => by
    rw [chgs, ofl_app, Nat.add_zero, ofl_same, ofl_none j xs ys (j + 1) (Nat.lt_succ_self j), List.append_nil]
    rfl
  | x :: xs, y :: ys, j, i + 1, hx, hy => by
    rw [chgs, ofl_app, ofl_other (j + (i + 1)) j (by omega), List.nil_append, show j + (i + 1) = (j + 1) + i by omega]
    exact ofl_chgs xs ys (j + 1) i (by simpa using hx) (by simpa using hy)
theorem Of_l0 (L : List S70) (hL : L.length ≤ 1000000) (i : Nat) : ∀ (r : List S70) (n : Nat) (out : List S56), L.drop n = r → out.length ≤ n → Ev (fun k => orielref17_Of.l0 k (i : Int) L out (n : Int)) (out ++ ofl i r) := by
  intro r
  induction r with
  | nil =>
    intro n out h ho
    have hn : L.length ≤ n := List.drop_eq_nil_iff.mp h
    have q1 : ¬ ((n : Int) < (L.length : Int)) := by omega
    refine Ev.step (f := fun _ => some out) (fun k => by rw [orielref17_Of.l0, if_neg q1]) ?_
    show Ev _ (out ++ [])
    rw [List.append_nil]
    exact Ev.now _
  | cons x r ih =>
    intro n out h ho
    have hn : n < L.length := by
      have := congrArg List.length h
      rw [List.length_drop, List.length_cons] at this
      omega
    have hx : L[n] = x := by
      have := List.drop_eq_getElem_cons hn
      rw [h] at this
      injection this with e _
      exact e.symm
    have h' : L.drop (n + 1) = r := by rw [← List.drop_drop, h]; rfl
    have q1 : (n : Int) < (L.length : Int) := by omega
    have q2 : (0 : Int) ≤ (n : Int) := Int.natCast_nonneg _
    have q3 : out.length < 4398046511104 := by omega
    by_cases c : x.f0 = (i : Int)
    · have e : ofl i (x :: r) = (⟨x.f1, x.f2, x.f3⟩ : S56) :: ofl i r := by
        unfold ofl
        rw [List.filter_cons, if_pos (by simp [c])]
        rfl
      rw [e]
      have := ih (n + 1) (out ++ [(⟨x.f1, x.f2, x.f3⟩ : S56)]) h' (by simp; omega)
      rw [List.append_assoc] at this
      refine Ev.step (fun k => ?_) this
      rw [orielref17_Of.l0, if_pos q1, if_pos q2, rd70 L n hn, hx, if_pos c, if_pos q3, wsucc n (by omega)]
    · have e : ofl i (x :: r) = ofl i r := by
        unfold ofl
        rw [List.filter_cons, if_neg (by simpa using c)]
      rw [e]
      refine Ev.step (fun k => ?_) (ih (n + 1) out h' (by omega))
      rw [orielref17_Of.l0, if_pos q1, if_pos q2, rd70 L n hn, hx, if_neg c, wsucc n (by omega)]
theorem Of_ev (L : List S70) (hL : L.length ≤ 1000000) (i : Nat) : Ev (fun k => orielref17_Of.f k (i : Int) L) (ofl i L) := by
  have := Of_l0 L hL i L 0 [] rfl (Nat.zero_le _)
  rw [List.nil_append] at this
  exact this
theorem chgs_mem : ∀ (xs ys : List S43) (j : Nat) (x : S70), x ∈ chgs j xs ys → (j : Int) ≤ x.f0 ∧ x.f0 < ((j + xs.length : Nat) : Int)
  | [], _, j, x, h => by cases h
  | _ :: _, [], j, x, h => by cases h
  | a :: xs, y :: ys, j, x, h => by
    rw [chgs] at h
    rcases List.mem_append.mp h with h | h
    · obtain ⟨e, _, rfl⟩ := List.mem_map.mp h
      refine ⟨Int.le_refl _, ?_⟩
      show (j : Int) < _
      simp only [List.length_cons]
      omega
    · obtain ⟨h1, h2⟩ := chgs_mem xs ys (j + 1) x h
      simp only [List.length_cons]
      omega
theorem chgs_order : ∀ (xs ys : List S43) (j : Nat), (chgs j xs ys).Pairwise fun x y => x.f0 ≤ y.f0
  | [], _, j => List.Pairwise.nil
  | _ :: _, [], j => List.Pairwise.nil
  | a :: xs, y :: ys, j => by
    rw [chgs, List.pairwise_append]
    refine ⟨?_, chgs_order xs ys (j + 1), fun x hx z hz => ?_⟩
    · rw [List.pairwise_map]
      exact List.pairwise_of_forall (fun _ _ => Int.le_refl _)
    · obtain ⟨e, _, rfl⟩ := List.mem_map.mp hx
      obtain ⟨h1, _⟩ := chgs_mem xs ys (j + 1) z hz
      show (j : Int) ≤ z.f0
      omega
theorem chgs_len : ∀ (xs ys : List S43) (j : Nat), (∀ x ∈ xs, x.f1.size ≤ 1500) → (chgs j xs ys).length ≤ 2000 * xs.length
  | [], _, j, _ => Nat.zero_le _
  | _ :: _, [], j, _ => Nat.zero_le _
  | a :: xs, y :: ys, j, h => by
    rw [chgs, List.length_append, List.length_map, List.length_cons]
    have h1 := es_len' a.f1 y.f1
    have h2 := h a List.mem_cons_self
    have h3 := chgs_len xs ys (j + 1) (fun x hx => h x (List.mem_cons_of_mem _ hx))
    omega
/-! ### right -/
theorem TC_l2 (a b : List S43) (hab : a.length = b.length) (ha : small a) (hb : small b) : ∀ (d i : Nat), i + d = a.length → Ev (fun k => orielref17_Check.l2 k a (chgs 0 a b) (i : Int)) (0, 0, 0) := by
  intro d
  induction d with
  | zero =>
    intro i h
    have q1 : ¬ ((i : Int) < (a.length : Int)) := by omega
    exact Ev.step (f := fun _ => some (0, 0, 0)) (fun k => by rw [orielref17_Check.l2, if_neg q1]) (Ev.now _)
  | succ d ih =>
    intro i h
    have hi : i < a.length := by omega
    have q1 : (i : Int) < (a.length : Int) := by omega
    have q2 : (0 : Int) ≤ (i : Int) := Int.natCast_nonneg _
    have hal := ha.1
    have hL := chgs_len a b 0 ha.2
    have sx := ha.2 _ (List.getElem_mem hi)
    have ho : ofl i (chgs 0 a b) = edits (a[i]).f1 (b[i]'(by omega)).f1 := by
      have := ofl_chgs a b 0 i hi (by omega)
      rwa [Nat.zero_add] at this
    obtain ⟨e1, e2⟩ := edits_right (a[i]).f1 (b[i]'(by omega)).f1
    have e3 := es_len' (a[i]).f1 (b[i]'(by omega)).f1
    refine Ev.step (f := fun k => (orielref17_Of.f k (i : Int) (chgs 0 a b)).bind fun t187 => ((orielref02_Check.f k (((a[i]).f1).size : Int) t187).bind fun t190 => (if t190 = 0 then (orielref17_Check.l2 k a (chgs 0 a b) (wrap64 ((i : Int) + 1))) else (some (t190, (i : Int), 0))))) (fun k => by rw [orielref17_Check.l2, if_pos q1, if_pos q2, rd43 a i hi]) ?_
    refine Ev.bind (f := fun k t => _) (Of_ev (chgs 0 a b) (by omega) i) ?_
    rw [ho]
    refine Ev.bind (f := fun k t => _) (Df.RCheck_ok (a[i]).f1.size (edits (a[i]).f1 (b[i]'(by omega)).f1) (by omega) e1 e2) (Ev.ite_pos rfl ?_)
    rw [wsucc i (by omega)]
    exact ih (i + 1) (by omega)
theorem TC_l1 (a : List S43) (L : List S70) (hL : L.length ≤ 1000000) (hp : L.Pairwise fun x y => x.f0 ≤ y.f0) (H : Ev (fun k => orielref17_Check.l2 k a L 0) (0, 0, 0)) : ∀ (d i : Nat), i + 1 + d = L.length ∨ (L = [] ∧ i = 0) → Ev (fun k => orielref17_Check.l1 k a L ((i + 1 : Nat) : Int)) (0, 0, 0) := by
  intro d
  induction d with
  | zero =>
    intro i h
    have q1 : ¬ (((i + 1 : Nat) : Int) < (L.length : Int)) := by
      rcases h with h | ⟨h, _⟩
      · omega
      · rw [h]; simp only [List.length_nil]; omega
    refine Ev.step (fun k => ?_) H
    rw [orielref17_Check.l1, if_neg q1]
  | succ d ih =>
    intro i h
    by_cases hn : L = []
    · have q1 : ¬ (((i + 1 : Nat) : Int) < (L.length : Int)) := by rw [hn]; simp only [List.length_nil]; omega
      refine Ev.step (fun k => ?_) H
      rw [orielref17_Check.l1, if_neg q1]
    · have hi : i + 1 + (d + 1) = L.length := h.resolve_right (fun e => hn e.1)
      have q1 : ((i + 1 : Nat) : Int) < (L.length : Int) := by omega
      have q2 : (0 : Int) ≤ ((i + 1 : Nat) : Int) := Int.natCast_nonneg _
      have q3 : (0 : Int) ≤ (i : Int) := Int.natCast_nonneg _
      have q4 : (i : Int) < (L.length : Int) := by omega
      have w1 : wrap64 (((i + 1 : Nat) : Int) - 1) = (i : Int) := by rw [wid (by omega) (by omega)]; omega
      have hlt := (List.pairwise_iff_getElem.mp hp) i (i + 1) (by omega) (by omega) (by omega)
      have q5 : ¬ ((L[i + 1]'(by omega)).f0 < (L[i]'(by omega)).f0) := by omega
      refine Ev.step (fun k => ?_) (ih (i + 1) (.inl (by omega)))
      rw [orielref17_Check.l1, w1, if_pos q1, if_pos q2, if_pos q3, if_pos q4, rd70 L (i + 1) (by omega), rd70 L i (by omega), if_neg q5, wsucc (i + 1) (by omega)]
theorem TC_l0 (a : List S43) (L : List S70) (hL : L.length ≤ 1000000) (hr : ∀ x ∈ L, 0 ≤ x.f0 ∧ x.f0 < (a.length : Int)) (H : Ev (fun k => orielref17_Check.l1 k a L 1) (0, 0, 0)) : ∀ (d i : Nat), i + d = L.length → Ev (fun k => orielref17_Check.l0 k a L (i : Int)) (0, 0, 0) := by
  intro d
  induction d with
  | zero =>
    intro i h
    have q1 : ¬ ((i : Int) < (L.length : Int)) := by omega
    refine Ev.step (fun k => ?_) H
    rw [orielref17_Check.l0, if_neg q1]
  | succ d ih =>
    intro i h
    have hi : i < L.length := by omega
    have q1 : (i : Int) < (L.length : Int) := by omega
    have q2 : (0 : Int) ≤ (i : Int) := Int.natCast_nonneg _
    obtain ⟨r1, r2⟩ := hr _ (List.getElem_mem hi)
    have q3 : ¬ ((L[i]).f0 < 0) := by omega
    have q4 : ¬ ((L[i]).f0 ≥ (a.length : Int)) := by omega
    refine Ev.step (fun k => ?_) (ih (i + 1) (by omega))
    rw [orielref17_Check.l0, if_pos q1, if_pos q2, rd70 L i hi, if_neg q3, if_neg q4, wsucc i (by omega)]
theorem TCheck_ev (a b : List S43) (hab : a.length = b.length) (ha : small a) (hb : small b) : Ev (fun k => orielref17_Check.f k a (chgs 0 a b)) (0, 0, 0) := by
  have hL := chgs_len a b 0 ha.2
  have hal := ha.1
  refine TC_l0 a (chgs 0 a b) (by omega) (fun x hx => ?_) ?_ (chgs 0 a b).length 0 (Nat.zero_add _)
  · obtain ⟨h1, h2⟩ := chgs_mem a b 0 x hx
    omega
  · refine TC_l1 a (chgs 0 a b) (by omega) (chgs_order a b 0) (TC_l2 a b hab ha hb a.length 0 (Nat.zero_add _)) ((chgs 0 a b).length - 1) 0 ?_
    by_cases c : chgs 0 a b = []
    · exact .inr ⟨c, rfl⟩
    · have := List.length_pos_iff.mpr c
      exact .inl (by omega)
/-! ### what they make -/
theorem TA_l0 (a b : List S43) (hab : a.length = b.length) (ha : small a) (hb : small b) : ∀ (xs ys : List S43) (pre : List S43), a.drop pre.length = xs → b.drop pre.length = ys → Ev (fun k => orielref17_Apply.l0 k a (chgs 0 a b) (pre ++ xs) (pre.length : Int)) (pre ++ List.zipWith (fun x y => (⟨x.f0, y.f1⟩ : S43)) xs ys, 0, 0, 0) := by
  intro xs
  induction xs with
  | nil =>
    intro ys pre h1 h2
    have q1 : ¬ ((pre.length : Int) < ((pre ++ ([] : List S43)).length : Int)) := by simp
    refine Ev.step (f := fun _ => some (pre ++ ([] : List S43), 0, 0, 0)) (fun k => by rw [orielref17_Apply.l0, if_neg q1]) ?_
    exact Ev.now _
  | cons x xs ih =>
    intro ys pre h1 h2
    have hi : pre.length < a.length := by
      have := congrArg List.length h1
      rw [List.length_drop, List.length_cons] at this
      omega
    have hib : pre.length < b.length := by omega
    have hx : a[pre.length] = x := by
      have := List.drop_eq_getElem_cons hi
      rw [h1] at this
      injection this with e _
      exact e.symm
    obtain ⟨y, ys', rfl⟩ : ∃ y ys', ys = y :: ys' := by
      rw [List.drop_eq_getElem_cons hib] at h2
      exact ⟨_, _, h2.symm⟩
    have hy : b[pre.length] = y := by
      have := List.drop_eq_getElem_cons hib
      rw [h2] at this
      injection this with e _
      exact e.symm
    have h1' : a.drop (pre.length + 1) = xs := by rw [← List.drop_drop, h1]; rfl
    have h2' : b.drop (pre.length + 1) = ys' := by rw [← List.drop_drop, h2]; rfl
    have hal := ha.1
    have hL := chgs_len a b 0 ha.2
    have sx : x.f1.size ≤ 1500 := ha.2 x (by rw [← hx]; exact List.getElem_mem hi)
    have sy : y.f1.size ≤ 1500 := hb.2 y (by rw [← hy]; exact List.getElem_mem hib)
    have ho : ofl pre.length (chgs 0 a b) = edits x.f1 y.f1 := by
      have := ofl_chgs a b 0 pre.length hi hib
      rw [Nat.zero_add, hx, hy] at this
      exact this
    have q1 : (pre.length : Int) < ((pre ++ x :: xs).length : Int) := by simp only [List.length_append, List.length_cons]; omega
    have q2 : (0 : Int) ≤ (pre.length : Int) := Int.natCast_nonneg _
    have q3 : (pre.length : Int) < (a.length : Int) := by omega
    have e1 := rd43 a pre.length hi
    rw [hx] at e1
    have e2 := rd43_mid pre x xs (pre ++ x :: xs) rfl
    refine Ev.step (f := fun k => (orielref17_Of.f k (pre.length : Int) (chgs 0 a b)).bind fun t209 => ((orielref02_Apply.f k x.f1 t209).bind fun bt212 => (orielref17_Apply.l0 k a (chgs 0 a b) ((pre ++ x :: xs).set ((pre.length : Int)).toNat (⟨x.f0, bt212.1⟩ : S43)) (wrap64 ((pre.length : Int) + 1))))) (fun k => by rw [orielref17_Apply.l0, if_pos q1, if_pos q2, if_pos q3, e1, e2]) ?_
    refine Ev.bind (f := fun k t => _) (Of_ev (chgs 0 a b) (by omega) pre.length) ?_
    rw [ho]
    refine Ev.bind (f := fun k t => _) (Df.RApply_edits x.f1 y.f1 (by omega) (by omega)) ?_
    have hset : (pre ++ x :: xs).set ((pre.length : Int)).toNat (⟨x.f0, y.f1⟩ : S43) = (pre ++ [(⟨x.f0, y.f1⟩ : S43)]) ++ xs := by
      rw [Int.toNat_natCast, List.set_append_right _ _ (Nat.le_refl _), Nat.sub_self, List.set_cons_zero, List.append_assoc]
      rfl
    rw [hset, wsucc pre.length (by omega)]
    have := ih ys' (pre ++ [(⟨x.f0, y.f1⟩ : S43)]) (by rw [List.length_append]; exact h1') (by rw [List.length_append]; exact h2')
    rw [List.length_append] at this
    have e : pre ++ [(⟨x.f0, y.f1⟩ : S43)] ++ List.zipWith (fun x y => (⟨x.f0, y.f1⟩ : S43)) xs ys' = pre ++ List.zipWith (fun x y => (⟨x.f0, y.f1⟩ : S43)) (x :: xs) (y :: ys') := by rw [List.append_assoc]; rfl
    rw [e] at this
    exact this
theorem zip_same : ∀ (a b : List S43), a.length = b.length → nm a b = true → List.zipWith (fun x y => (⟨x.f0, y.f1⟩ : S43)) a b = b
  | [], [], _, _ => rfl
  | x :: xs, y :: ys, h, hn => by
    rw [nm, Bool.and_eq_true] at hn
    have h1 : x.f0 = y.f0 := name_eq (by simpa using hn.1)
    rw [List.zipWith_cons_cons, zip_same xs ys (by simpa using h) hn.2, h1]
  | [], _ :: _, h, _ => by simp at h
  | _ :: _, [], h, _ => by simp at h
theorem TApply_ev (a b : List S43) (hab : a.length = b.length) (hn : nm a b = true) (ha : small a) (hb : small b) : Ev (fun k => orielref17_Apply.f k a (chgs 0 a b)) (b, 0, 0, 0) := by
  have hal := ha.1
  unfold orielref17_Apply.f
  refine Ev.bind (f := fun k t => _) (TCheck_ev a b hab ha hb) (Ev.ite_neg (by decide) ?_)
  simp only [Option.bind_some, List.nil_append, List.length_nil]
  refine Ev.ite_pos (by omega) ?_
  have := TA_l0 a b hab ha hb a b [] rfl rfl
  rw [zip_same a b hab hn] at this
  exact this
theorem TF_l0 (l : List S43) (hl : l.length ≤ 1000000) : ∀ (d i : Nat), i + d = l.length → Ev (fun k => orielref17_Files.l0 k l l (i : Int)) true := by
  intro d
  induction d with
  | zero =>
    intro i h
    have q1 : ¬ ((i : Int) < (l.length : Int)) := by omega
    refine Ev.step (f := fun _ => some true) (fun k => ?_) (Ev.now _)
    rw [orielref17_Files.l0, if_neg q1]
  | succ d ih =>
    intro i h
    have q1 : (i : Int) < (l.length : Int) := by omega
    have q2 : (0 : Int) ≤ (i : Int) := Int.natCast_nonneg _
    refine Ev.step (fun k => ?_) (ih (i + 1) (by omega))
    rw [orielref17_Files.l0, if_pos q1, if_pos q2, if_pos q1, if_neg (by simp), wsucc i (by omega)]
theorem TFiles_ev (l : List S43) (hl : l.length ≤ 1000000) : Ev (fun k => orielref17_Files.f k l l) true := by
  unfold orielref17_Files.f
  exact Ev.ite_pos rfl (TF_l0 l hl l.length 0 (by omega))
end Go.Proofs.YtnemooemifbbhaaDoor.Dc
