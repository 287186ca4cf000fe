/- EditSorted: edits in order are the same edits, each as often; in order once more they stay; what is right is in order. The pure statement. Conditions: none beyond what the arguments read as. -/
import Derived.Test.YtmgeheomokjimaaInEditSorted
import Derived.Test.YtmgeheomokjimaaEditG
import Derived.Test.YtmgeheomokjimaaSortC
namespace Go.Proofs.Ytmgeheomokjimaa.Pure
set_option linter.unusedVariables false
set_option linter.unusedSimpArgs false
open Go Go.RowKit Go.Proofs.YtmgeheomokjimaaW.PrintWords Go.Proofs.YtmgeheomokjimaaW.PrintLast Go.Proofs.YtmgeheomokjimaaW.PrintMore Go.Proofs.Ytmgeheomokjimaa.PSo Go.Proofs.Ytmgeheomokjimaa.Frame

open Go.Proofs.Ytmgeheomokjimaa.EditA Go.Proofs.Ytmgeheomokjimaa.EditB Go.Proofs.Ytmgeheomokjimaa.EditG Go.Proofs.Ytmgeheomokjimaa.SortC
open Go.Proofs.Ytmgeheomokjimaa.SortA (klt tlt PO SS lst lst_len rd_lst tlt_asymm)
theorem es_alive : Ev (fun k => oriellaw02_alive.f k) true := Ev.of (fun k => oriellaw02_alive.mono k) (k := 30) (by kernel_rfl)
theorem es_tail : Ev (fun k => (oriellaw02_alive.f k).bind fun t => some t) true := Ev.bind (f := fun _ t => some t) es_alive (Ev.now _)
theorem es_j0_true (s : ByteArray) (l : List S47) : Ev (fun k => oriellaw02_EditSorted.j0 k s l true) true := by
  refine Ev.step (fun k => ?_) es_tail
  simp only [oriellaw02_EditSorted.j0]
  rw [if_true]
/-- A list in order is its own order. -/
theorem num_order {l : List S47} (h : ∀ i j, i < j → j < l.length → ¬ klt (num l j).1 (num l i).1) : Order l (num l) := by
  refine ⟨SortA.PO.refl _ _ _, fun i j _ hij hj => ?_⟩
  by_cases c : klt (num l i).1 (num l j).1
  · exact .inl c
  · exact .inr ⟨h i j hij hj, hij⟩
theorem sorted_same {l : List S47} {h : Nat → SortA.T} (H : Order l h) (hs : ∀ i j, i < j → j < l.length → ¬ klt (num l j).1 (num l i).1) : lst h l.length = l := by
  rw [lst_congr (fun i hi => Order.unique H (num_order hs) i hi), lst_num]
theorem num_lst (h : Nat → SortA.T) (n i : Nat) (hi : i < n) : (num (lst h n) i).1 = (h i).1 := by
  unfold num lst
  simp [List.getD_eq_getElem?_getD, List.getElem?_map, List.getElem?_range hi]
/-- The order has each edit as often as the list. -/
theorem order_perm {l : List S47} {h : Nat → SortA.T} (H : Order l h) : (lst h l.length).Perm l := by
  have nd1 : ((List.range l.length).map h).Nodup := by
    rw [List.Nodup, List.pairwise_map]
    refine List.Pairwise.imp_of_mem (R := fun a b => a < b) (fun {a b} ha hb hab e => ?_) List.pairwise_lt_range
    have t := H.2 a b (Nat.zero_le _) hab (List.mem_range.mp hb)
    rw [e] at t
    exact tlt_asymm t t
  have nd2 : ((List.range l.length).map (num l)).Nodup := by
    rw [List.Nodup, List.pairwise_map]
    refine List.Pairwise.imp_of_mem (R := fun a b => a < b) (fun {a b} ha hb hab e => ?_) List.pairwise_lt_range
    have := congrArg Prod.snd e
    simp only [num] at this
    omega
  have hp : ((List.range l.length).map h).Perm ((List.range l.length).map (num l)) := by
    rw [List.perm_ext_iff_of_nodup nd1 nd2]
    intro x
    rw [List.mem_map, List.mem_map]
    constructor
    · rintro ⟨i, hi, rfl⟩
      obtain ⟨j, _, hj, e⟩ := H.1.2.1 i (Nat.zero_le _) (List.mem_range.mp hi)
      exact ⟨j, List.mem_range.mpr hj, e.symm⟩
    · rintro ⟨j, hj, rfl⟩
      obtain ⟨i, _, hi, e⟩ := H.1.2.2 j (Nat.zero_le _) (List.mem_range.mp hj)
      exact ⟨i, List.mem_range.mpr hi, e⟩
  have hq := hp.map Prod.fst
  rw [List.map_map, List.map_map] at hq
  have e1 : lst h l.length = (List.range l.length).map (Prod.fst ∘ h) := rfl
  have e2 : lst (num l) l.length = (List.range l.length).map (Prod.fst ∘ num l) := rfl
  rw [← e1, ← e2, lst_num] at hq
  exact hq
def eqB (x y : S47) : Bool := y.f0 == x.f0 && (y.f1 == x.f1 && (y.f2.toList == x.f2.toList))
theorem rd_pre (pre : List S47) (x : S47) (r : List S47) : rd_T47 (pre ++ x :: r) (pre.length : Int) = x := rd_mid pre x r
/-- The loop that counts. -/
theorem es_l1 (s : ByteArray) (l a : List S47) (hl : l.length ≤ 60) (ha : a.length = l.length) (hp : a.Perm l) (y : List S47) (n i : Int) (x : S47) (q : Bool) (hq : Ev (fun k => oriellaw02_EditSorted.l0 k s l a y n (wrap64 (i + 1))) q) :
    ∀ (d : Nat) (r1 r2 p1 p2 : List S47), r1.length = d → l = p1 ++ r1 → a = p2 ++ r2 → p1.length = p2.length →
      Ev (fun k => oriellaw02_EditSorted.l1 k s l a ((p1.countP (eqB x) : Nat) : Int) ((p2.countP (eqB x) : Nat) : Int) y n i (l.length : Int) (p1.length : Int) x.f0 x.f1 x.f2) q := by
  intro d
  induction d with
  | zero =>
    intro r1 r2 p1 p2 hd h1 h2 h3
    obtain rfl : r1 = [] := List.length_eq_zero_iff.mp hd
    rw [List.append_nil] at h1
    subst h1
    have hr2 : r2 = [] := by
      have := congrArg List.length h2
      rw [List.length_append] at this
      exact List.length_eq_zero_iff.mp (by omega)
    subst hr2
    rw [List.append_nil] at h2
    subst h2
    refine Ev.step (fun k => ?_) hq
    simp only [oriellaw02_EditSorted.l1]
    rw [if_neg (by omega), if_pos (by rw [hp.countP_eq])]
  | succ d ih =>
    intro r1 r2 p1 p2 hd h1 h2 h3
    cases r1 with
    | nil => simp at hd
    | cons u r1 =>
      have hlen : l.length = p1.length + 1 + r1.length := by rw [h1]; simp only [List.length_append, List.length_cons]; omega
      cases r2 with
      | nil =>
        have := congrArg List.length h2
        rw [List.append_nil] at this
        omega
      | cons v r2 =>
        have e1 : rd_T47 l (p1.length : Int) = u := by rw [h1]; exact rd_pre p1 u r1
        have e2 : rd_T47 a (p1.length : Int) = v := by rw [h2, h3]; exact rd_pre p2 v r2
        have hi := ih r1 r2 (p1 ++ [u]) (p2 ++ [v]) (by simpa using hd) (by rw [h1]; simp) (by rw [h2]; simp) (by simp [h3])
        rw [show (((p1 ++ [u]).length : Nat) : Int) = (p1.length : Int) + 1 by simp, List.countP_append, List.countP_append, List.countP_singleton, List.countP_singleton] at hi
        have b1 := List.countP_le_length (p := eqB x) (l := p1)
        have b2 := List.countP_le_length (p := eqB x) (l := p2)
        refine Ev.step (fun k => by simp only [oriellaw02_EditSorted.l1]; rw [if_pos (by omega), if_pos (by omega), if_pos (by omega), e1, e2]) ?_
        rw [wrap_id (x := ((p1.countP (eqB x) : Nat) : Int) + 1) (by omega) (by omega), wrap_id (x := ((p2.countP (eqB x) : Nat) : Int) + 1) (by omega) (by omega), wrap_id (x := (p1.length : Int) + 1) (by omega) (by omega)]
        by_cases cu : eqB x u = true
        · refine Ev.ite_pos cu (Ev.ite_pos (by omega) ?_)
          rw [if_pos cu] at hi
          by_cases cv : eqB x v = true
          · refine Ev.ite_pos cv ?_
            rw [if_pos cv] at hi
            exact hi
          · refine Ev.ite_neg cv ?_
            rw [if_neg cv] at hi
            exact hi
        · refine Ev.ite_neg cu (Ev.ite_pos (by omega) ?_)
          rw [if_neg cu] at hi
          by_cases cv : eqB x v = true
          · refine Ev.ite_pos cv ?_
            rw [if_pos cv] at hi
            exact hi
          · refine Ev.ite_neg cv ?_
            rw [if_neg cv] at hi
            exact hi
theorem es_l0 (s : ByteArray) (l a : List S47) (hl : l.length ≤ 60) (ha : a.length = l.length) (hp : a.Perm l) (q : Bool) (hq : Ev (fun k => oriellaw02_EditSorted.l2 k s l a 1) q) : ∀ (r pre : List S47), l = pre ++ r → Ev (fun k => oriellaw02_EditSorted.l0 k s l a l (l.length : Int) (pre.length : Int)) q := by
  intro r
  induction r with
  | nil =>
    intro pre he
    rw [List.append_nil] at he
    subst he
    refine Ev.step (fun k => ?_) hq
    simp only [oriellaw02_EditSorted.l0]
    rw [if_neg (by omega)]
  | cons x r ih =>
    intro pre he
    have hlen : l.length = pre.length + 1 + r.length := by rw [he]; simp only [List.length_append, List.length_cons]; omega
    have e2 : rd_T47 l (pre.length : Int) = x := by rw [he]; exact rd_pre pre x r
    have hi := ih (pre ++ [x]) (by rw [he]; simp)
    rw [show (((pre ++ [x]).length : Nat) : Int) = (pre.length : Int) + 1 by simp] at hi
    have hi2 : Ev (fun k => oriellaw02_EditSorted.l0 k s l a l (l.length : Int) (wrap64 ((pre.length : Int) + 1))) q := by
      rw [wrap_id (x := (pre.length : Int) + 1) (by omega) (by omega)]
      exact hi
    have h1 := es_l1 s l a hl ha hp l (l.length : Int) (pre.length : Int) x q hi2 l.length l a [] [] rfl rfl rfl rfl
    refine Ev.step (fun k => ?_) h1
    simp only [oriellaw02_EditSorted.l0]
    rw [if_pos (by omega), if_pos (by omega), if_pos (by omega), e2]
    rfl
theorem es_l2 (s : ByteArray) (l a : List S47) (hl : a.length ≤ 60) (hs : ∀ i j, i < j → j < a.length → ¬ klt (num a j).1 (num a i).1) (q : Bool)
    (hq : Ev (fun k => (edit_Check.f k (s.size : Int) l).bind fun t280 => (if t280 = 0 then ((orielref02_Same.f k a l).bind fun t281 => (if t281 = true then ((oriellaw02_alive.f k).bind fun t282 => (some t282)) else (none))) else ((oriellaw02_alive.f k).bind fun t283 => (some t283)))) q) :
    ∀ (d i : Nat), i + d = a.length ∨ (a.length < i ∧ d = 0) → 1 ≤ i → Ev (fun k => oriellaw02_EditSorted.l2 k s l a (i : Int)) q := by
  intro d
  induction d with
  | zero =>
    intro i hi h1
    refine Ev.step (fun k => ?_) hq
    simp only [oriellaw02_EditSorted.l2]
    rw [if_neg (by omega)]
  | succ d ih =>
    intro i hi h1
    have rdn : ∀ j : Nat, rd_T47 a (j : Int) = (num a j).1 := fun j => by
      unfold rd_T47 num
      rw [show ((j : Int)).toNat = j by omega]
    have h := hs (i - 1) i (by omega) (by omega)
    unfold klt at h
    have hi2 := ih (i + 1) (.inl (by omega)) (by omega)
    rw [show ((i + 1 : Nat) : Int) = (i : Int) + 1 by omega] at hi2
    refine Ev.step (fun k => by simp only [oriellaw02_EditSorted.l2]; rw [if_pos (by omega), wrap_id (x := (i : Int) - 1) (by omega) (by omega), show (i : Int) - 1 = ((i - 1 : Nat) : Int) by omega, if_pos (by omega), if_pos (by omega), if_pos (by omega), rdn, rdn, wrap_id (x := (i : Int) + 1) (by omega) (by omega)]) ?_
    refine Ev.ite_neg (by omega) ?_
    by_cases c : (num a (i - 1)).1.f0 = (num a i).1.f0
    · exact Ev.ite_pos c (Ev.ite_neg (by omega) hi2)
    · exact Ev.ite_neg c hi2
theorem chain_sorted {n a : Int} {l : List S47} (hc : Chain n a l) : ∀ i j, i < j → j < l.length → ¬ klt (num l j).1 (num l i).1 := by
  have get : ∀ (l : List S47) (a : Int), Chain n a l → ∀ i, i < l.length → a ≤ (num l i).1.f0 ∧ (num l i).1.f0 ≤ (num l i).1.f1 := by
    intro l
    induction l with
    | nil => intro a _ i hi; simp at hi
    | cons x r ih =>
      intro a hc i hi
      obtain ⟨h0, h1, h2, h3⟩ := hc
      cases i with
      | zero => exact ⟨h1, h2⟩
      | succ i =>
        have := ih x.f1 h3 i (by simpa using hi)
        have e : (num (x :: r) (i + 1)).1 = (num r i).1 := by simp [num]
        rw [e]
        omega
  induction l generalizing a with
  | nil => intro i j _ hj; simp at hj
  | cons x r ih =>
    obtain ⟨h0, h1, h2, h3⟩ := hc
    intro i j hij hj
    obtain ⟨j', rfl⟩ : ∃ j', j = j' + 1 := ⟨j - 1, by omega⟩
    have e : (num (x :: r) (j' + 1)).1 = (num r j').1 := by simp [num]
    have hj' : j' < r.length := by simpa using hj
    cases i with
    | zero =>
      have e0 : (num (x :: r) 0).1 = x := by simp [num]
      have := get r x.f1 h3 j' hj'
      rw [e, e0]
      unfold klt
      omega
    | succ i =>
      have e1 : (num (x :: r) (i + 1)).1 = (num r i).1 := by simp [num]
      rw [e, e1]
      exact ih h3 i j' (by omega) hj'
theorem es_j0_few (s : ByteArray) (l : List S47) (hs : s.size ≤ 400) (hl : l.length ≤ 60) : Ev (fun k => oriellaw02_EditSorted.j0 k s l false) true := by
  obtain ⟨h, H, hS⟩ := Sorted_ev l (by omega)
  have hlen := lst_len h l.length
  have hord : ∀ i j, i < j → j < (lst h l.length).length → ¬ klt (num (lst h l.length) j).1 (num (lst h l.length) i).1 := fun i j hij hj => by
    rw [hlen] at hj
    rw [num_lst h _ j hj, num_lst h _ i (by omega)]
    have t := H.2 i j (Nat.zero_le _) hij hj
    intro c
    rcases t with t | t
    · unfold klt at t c
      omega
    · exact t.1 c
  obtain ⟨h2, H2, hS2⟩ := Sorted_ev (lst h l.length) (by omega)
  rw [sorted_same H2 hord] at hS2
  refine Ev.step (fun k => by simp only [oriellaw02_EditSorted.j0]; rw [if_neg (by simp)]) ?_
  refine Ev.bind hS ?_
  refine Ev.ite_pos (by rw [hlen]) ?_
  refine Ev.bind hS2 ?_
  refine Ev.bind (Same_ev _ (by omega)) ?_
  refine Ev.step (fun k => by simp only [oriellaw02_EditSorted.j1]; rw [if_neg (by simp)]) ?_
  refine es_l0 s l (lst h l.length) hl hlen (order_perm H) true ?_ l [] rfl
  refine es_l2 s l (lst h l.length) (by omega) hord true ?_ ((lst h l.length).length - 1) 1 (by omega) (Nat.le_refl _)
  refine Ev.bind (Check_ev (s.size : Int) l (by omega)) ?_
  by_cases c : checkSpec (s.size : Int) l = 0
  · refine Ev.ite_pos c ?_
    rw [sorted_same H (chain_sorted (chain_zero c))]
    refine Ev.bind (Same_ev _ (by omega)) ?_
    exact Ev.ite_pos rfl es_tail
  · exact Ev.ite_neg c es_tail
theorem EditSorted : oriellaw02_EditSorted.Pure := by
  intro s l hs hl
  have hl' : l.length ≤ 9223372036854775807 := hl.1
  refine Ev.rounds ?_
  unfold oriellaw02_EditSorted.f
  by_cases h : (s.size : Int) > 400
  · exact Ev.ite_pos h (es_j0_true s l)
  · refine Ev.ite_neg h ?_
    obtain ⟨b, hb, hb2⟩ := few_ev l hl'
    refine Ev.bind hb ?_
    cases b with
    | false => exact es_j0_true s l
    | true => exact es_j0_few s l (by omega) (hb2 rfl).1

end Go.Proofs.Ytmgeheomokjimaa.Pure
