/- When rows are the same; what Ints tells of any bytes. Plain theorems; no condition but those of each theorem. -/
import Derived.Test.YtjekpecobkaaoaaDoorPackC
import Derived.Test.YtjekpecobkaaoaaDoorPAllx8
import Derived.Test.YtjekpecobkaaoaaDoorPAllx13
namespace Go.Proofs.YtjekpecobkaaoaaDoor.PackD
open Go Go.RowKit Go.Proofs.YtjekpecobkaaoaaDoorW.PrintWords Go.Proofs.YtjekpecobkaaoaaDoorW.PrintLast Go.Proofs.YtjekpecobkaaoaaDoorW.PrintMore Go.Proofs.YtjekpecobkaaoaaDoor.PAll Go.Proofs.YtjekpecobkaaoaaDoor.PackA Go.Proofs.YtjekpecobkaaoaaDoor.PackB Go.Proofs.YtjekpecobkaaoaaDoor.PackC
set_option linter.unusedVariables false
set_option linter.unusedSimpArgs false
theorem Ev.unique {α : Type} {g : Nat → Option α} {r q : α} (h : Ev g r) (k : Ev g q) : r = q := by
  obtain ⟨K, h⟩ := h
  obtain ⟨L, k⟩ := k
  have := (h (max K L) (Nat.le_max_left _ _)).symm.trans (k (max K L) (Nat.le_max_right _ _))
  exact Option.some.inj this
theorem toList_loop (s : ByteArray) (d : Nat) : ∀ (i : Nat) (r : List UInt8), s.size - i = d → ByteArray.toList.loop s i r = r.reverse ++ s.data.toList.drop i := by
  induction d with
  | zero =>
    intro i r h
    rw [ByteArray.toList.loop, if_neg (by omega), List.drop_of_length_le (by rw [Array.length_toList]; show s.size ≤ i; omega)]
    simp
  | succ d ih =>
    intro i r h
    have hi : i < s.data.toList.length := by rw [Array.length_toList]; show i < s.size; omega
    rw [ByteArray.toList.loop, if_pos (by omega), ih (i + 1) _ (by omega), List.drop_eq_getElem_cons hi]
    have : s.get! i = s.data.toList[i] := by
      show s.data[i]! = _
      rw [getElem!_pos s.data i (by rw [← Array.length_toList]; exact hi)]
      simp
    rw [this]
    simp
theorem toList_eq (s : ByteArray) : s.toList = s.data.toList := by
  unfold ByteArray.toList
  rw [toList_loop s s.size 0 [] (by omega)]
  simp
theorem nums_inj : ∀ (a b : List Int), (∀ x ∈ a, 0 ≤ x ∧ x < 256) → (∀ x ∈ b, 0 ≤ x ∧ x < 256) → (a.map fun n => UInt8.ofNat n.toNat) = (b.map fun n => UInt8.ofNat n.toNat) → a = b := by
  intro a
  induction a with
  | nil => intro b _ _ h; cases b with
    | nil => rfl
    | cons y r => simp at h
  | cons x r ih =>
    intro b ha hb h
    cases b with
    | nil => simp at h
    | cons y s =>
      simp only [List.map_cons, List.cons.injEq] at h
      have hx := ha x List.mem_cons_self
      have hy := hb y List.mem_cons_self
      have h1 := congrArg UInt8.toNat h.1
      rw [UInt8.toNat_ofNat', UInt8.toNat_ofNat'] at h1
      have : x = y := by omega
      rw [this, ih s (fun z hz => ha z (List.mem_cons_of_mem _ hz)) (fun z hz => hb z (List.mem_cons_of_mem _ hz)) h.2]
theorem Equal_eq (a b : List Int) (ha : ∀ x ∈ a, 0 ≤ x ∧ x < 256) (hb : ∀ x ∈ b, 0 ≤ x ∧ x < 256) : orielref03_Equal.f a b = some (decide (a = b)) := by
  unfold orielref03_Equal.f
  congr 1
  by_cases c : a = b
  · subst c
    simp
  · rw [decide_eq_false c]
    rw [beq_eq_false_iff_ne]
    intro h
    rw [toList_eq, toList_eq] at h
    exact c (nums_inj a b ha hb (by simpa [strOfNums] using h))
theorem Equal_self (a : List Int) : orielref03_Equal.f a a = some true := by
  unfold orielref03_Equal.f
  simp
theorem LInts_l0 (l m : List Int) (hl : l.length ≤ 1000000) (hlm : l.length = m.length) : ∀ (r s pre pre' : List Int), l = pre ++ r → m = pre' ++ s → pre.length = pre'.length → Ev (fun k => oriellaw01_Ints.l0 k l m (l.length : Int) (pre.length : Int)) (decide (r = s)) := by
  intro r
  induction r with
  | nil =>
    intro s pre pre' he he' hp
    have hs : s = [] := by
      have : l.length = pre.length := by rw [he]; simp
      have h2 : m.length = pre'.length + s.length := by rw [he']; simp
      exact List.length_eq_zero_iff.mp (by omega)
    subst hs
    refine Ev.step (f := fun _ => some true) (fun k => ?_) (Ev.now _)
    simp only [oriellaw01_Ints.l0]
    rw [if_neg (by rw [he]; simp)]
  | cons x r ih =>
    intro s pre pre' he he' hp
    have h1 : l.length = pre.length + 1 + r.length := by rw [he]; simp only [List.length_append, List.length_cons]; omega
    cases s with
    | nil =>
      have : m.length = pre'.length := by rw [he']; simp
      omega
    | cons y s =>
      have e1 : rd l (pre.length : Int) = x := by rw [he]; exact rd_mid pre x r
      have e2 : rd m (pre.length : Int) = y := by rw [he', hp]; exact rd_mid pre' y s
      by_cases c : x = y
      · have hi := ih s (pre ++ [x]) (pre' ++ [y]) (by rw [he]; simp) (by rw [he']; simp) (by simp [hp])
        rw [show decide (x :: r = y :: s) = decide (r = s) by simp [c]]
        rw [show (((pre ++ [x]).length : Nat) : Int) = (pre.length : Int) + 1 by simp] at hi
        refine Ev.step (fun k => ?_) hi
        simp only [oriellaw01_Ints.l0]
        rw [if_pos (by omega), if_pos (by omega), if_pos (by omega), if_pos (by omega), e1, e2, if_pos c, wrap_id (by omega) (by omega)]
      · rw [decide_eq_false (by simp [c])]
        refine Ev.step (f := fun _ => some false) (fun k => ?_) (Ev.now _)
        simp only [oriellaw01_Ints.l0]
        rw [if_pos (by omega), if_pos (by omega), if_pos (by omega), if_pos (by omega), e1, e2, if_neg c]
theorem LInts_ev (l m : List Int) (hl : l.length ≤ 1000000) : Ev (fun k => oriellaw01_Ints.f k l m) (decide (l = m)) := by
  unfold oriellaw01_Ints.f
  by_cases c : l.length = m.length
  · exact Ev.ite_pos (by omega) (LInts_l0 l m hl c l m [] [] rfl rfl rfl)
  · refine Ev.ite_neg (by omega) ?_
    rw [decide_eq_false (fun h => c (by rw [h]))]
    exact Ev.now _
theorem lb_snoc (l : List Int) (m : Int) : lb (l ++ [m]) = lb l ++ pb (zig m) := by
  induction l with
  | nil => simp [lb]
  | cons x r ih => simp [lb, ih]
/-- Ints of any bytes: either none, or these are a list's. -/
theorem Ints_sound0 (b : List Int) (hl : b.length ≤ 100000) (N : Nat) (hN : N ≤ 100000) : ∀ (d : Nat) (r pre done : List Int), b = pre ++ r → (∀ x ∈ r, 0 ≤ x ∧ x < 256) → done.length + d = N → pre = pb N ++ lb done → (∀ x ∈ done, -9223372036854775808 ≤ x ∧ x ≤ 9223372036854775807) →
    ∃ x, Ev (fun k => pack_Ints.l0 k b (pre.length : Int) done (N : Int) (done.length : Int)) x ∧ (x = ([], 9) ∨ ∃ l : List Int, l.length = N ∧ b = pb N ++ lb l ∧ x = (l, 0) ∧ ∀ y ∈ l, -9223372036854775808 ≤ y ∧ y ≤ 9223372036854775807) := by
  intro d
  induction d with
  | zero =>
    intro r pre done he hb hd hp hr
    have hlen : b.length = pre.length + r.length := by rw [he]; simp
    by_cases c : 0 < r.length
    · refine ⟨([], 9), Ev.step (f := fun _ => some ([], 9)) (fun k => ?_) (Ev.now _), .inl rfl⟩
      simp only [pack_Ints.l0]
      rw [if_neg (by omega), if_pos (by omega)]
    · have : r = [] := List.length_eq_zero_iff.mp (by omega)
      subst this
      refine ⟨(done, 0), Ev.step (f := fun _ => some (done, 0)) (fun k => ?_) (Ev.now _), .inr ⟨done, by omega, by rw [he, hp]; simp, rfl, hr⟩⟩
      simp only [pack_Ints.l0]
      rw [if_neg (by omega), if_neg (by omega)]
  | succ d ih =>
    intro r pre done he hb hd hp hr
    have hlen : b.length = pre.length + r.length := by rw [he]; simp
    have hdrop : b.drop ((pre.length : Int)).toNat = r := by rw [he, show ((pre.length : Int)).toNat = pre.length by omega, List.drop_left]
    obtain ⟨g, hg, hg2⟩ := Get_sound r (by omega) hb
    have hstart : ∀ k, pack_Ints.l0 (k + 1) b (pre.length : Int) done (N : Int) (done.length : Int) = ((pack_Get.f k r).bind fun bt230 => (if bt230.2.2 = 0 then ((pack_Zag.f bt230.1).bind fun t233 => (if done.length < 17592186044416 then (pack_Ints.l0 k b (wrap64 ((pre.length : Int) + bt230.2.1)) (done ++ [t233]) (N : Int) (wrap64 ((done.length : Int) + 1))) else (none))) else (some (([] : List Int), 9)))) := by
      intro k
      simp only [pack_Ints.l0]
      rw [if_pos (by omega), if_pos (by omega), if_pos (by omega), hdrop]
    rcases hg2 with ⟨rfl, _⟩ | ⟨rfl, _⟩ | ⟨n, rest, hn, hrest, rfl⟩
    · exact ⟨([], 9), Ev.step hstart (Ev.bind hg (Ev.ite_neg (by decide) (Ev.now _))), .inl rfl⟩
    · exact ⟨([], 9), Ev.step hstart (Ev.bind hg (Ev.ite_neg (by decide) (Ev.now _))), .inl rfl⟩
    · have hpl := pb_len10 n hn
      have hrl : r.length = (pb n).length + rest.length := by rw [hrest]; simp
      obtain ⟨x, hx, hx2⟩ := ih rest (pre ++ pb n) (done ++ [zag n]) (by rw [he, hrest]; simp) (fun y hy => hb y (by rw [hrest]; exact List.mem_append_right _ hy)) (by simp; omega) (by rw [lb_snoc, zig_zag, hp]; simp) (fun y hy => by
        rcases List.mem_append.mp hy with h | h
        · exact hr y h
        · simp only [List.mem_singleton] at h
          subst h
          exact zag_range n hn)
      refine ⟨x, Ev.step hstart (Ev.bind hg (Ev.ite_pos rfl ?_)), hx2⟩
      simp only [Zag_eq n hn, Option.bind_some]
      refine Ev.ite_pos (by omega) ?_
      rw [wrap_id (by omega) (by omega), wrap_id (by omega) (by omega)]
      rw [show (((pre ++ pb n).length : Nat) : Int) = (pre.length : Int) + (pb n).length by simp, show (((done ++ [zag n]).length : Nat) : Int) = (done.length : Int) + 1 by simp] at hx
      exact hx
theorem Ints_sound (b : List Int) (hl : b.length ≤ 100000) (hb : ∀ x ∈ b, 0 ≤ x ∧ x < 256) :
    ∃ x, Ev (fun k => pack_Ints.f k b) x ∧ (x = ([], 9) ∨ ∃ l : List Int, l.length ≤ b.length ∧ b = pb l.length ++ lb l ∧ x = (l, 0) ∧ ∀ y ∈ l, -9223372036854775808 ≤ y ∧ y ≤ 9223372036854775807) := by
  obtain ⟨g, hg, hg2⟩ := Get_sound b (by omega) hb
  have hbad : ∀ u v : Int, Ev (fun k => pack_Ints.j0 k b u v true) (([] : List Int), 9) := fun u v => Ev.step (f := fun _ => some ([], 9)) (fun k => by simp only [pack_Ints.j0]; rw [if_true]) (Ev.now _)
  rcases hg2 with ⟨rfl, _⟩ | ⟨rfl, _⟩ | ⟨n, rest, hn, hrest, rfl⟩
  · exact ⟨([], 9), by unfold pack_Ints.f; exact Ev.bind hg (Ev.ite_neg (by decide) (hbad _ _)), .inl rfl⟩
  · exact ⟨([], 9), by unfold pack_Ints.f; exact Ev.bind hg (Ev.ite_neg (by decide) (hbad _ _)), .inl rfl⟩
  · have hpl := pb_len10 n hn
    by_cases c : b.length < n
    · refine ⟨([], 9), ?_, .inl rfl⟩
      unfold pack_Ints.f
      refine Ev.bind hg (Ev.ite_pos rfl ?_)
      rw [uwrap_id (by omega) (by omega), decide_eq_true (by show ((b.length : Nat) : Int) < (n : Int); omega)]
      exact hbad _ _
    · obtain ⟨x, hx, hx2⟩ := Ints_sound0 b hl n (by omega) n rest (pb n) [] hrest (fun y hy => hb y (by rw [hrest]; exact List.mem_append_right _ hy)) (by simp) (by simp [lb]) (fun y hy => by cases hy)
      refine ⟨x, ?_, ?_⟩
      · unfold pack_Ints.f
        refine Ev.bind hg (Ev.ite_pos rfl ?_)
        rw [uwrap_id (by omega) (by omega), decide_eq_false (by show ¬ ((b.length : Nat) : Int) < (n : Int); omega)]
        refine Ev.step (fun k => ?_) hx
        simp only [pack_Ints.j0]
        rw [if_neg (by simp), wrap_id (by omega) (by omega)]
        rfl
      · rcases hx2 with h | ⟨l, h1, h2, h3, h4⟩
        · exact .inl h
        · exact .inr ⟨l, by omega, by rw [h1]; exact h2, h3, h4⟩
end Go.Proofs.YtjekpecobkaaoaaDoor.PackD
