/- What steps come to takes no byte, at its ends, that it puts there again; files that are as they were are not touched, and each other one is once: the plain law. Conditions: none beyond what the arguments read as. -/
import Derived.Test.YtclcnglamlegiaaMgD
import Derived.Test.YtclcnglamlegiaaInMergeLittle
namespace Go.Proofs.Ytclcnglamlegiaa.Pure
open Go.RowKit Go.Proofs.Ytclcnglamlegiaa.PML Go.Proofs.YtclcnglamlegiaaW.PrintWords Go.Proofs.YtclcnglamlegiaaW.PrintLast Go.Proofs.Ytclcnglamlegiaa.Mg
set_option linter.unusedVariables false
set_option linter.unusedSimpArgs false
theorem alive2 : Ev (fun k => (oriellaw35_alive.f k).bind fun t => some t) true := Ev.bind (f := fun k b => some b) alive_ev (Ev.now _)
theorem no_ev (a : List S36) (s : List (List S34)) : Ev (fun k => oriellaw35_MergeLittle.j0 k a s true) true :=
  Ev.step (f := fun k => (oriellaw35_alive.f k).bind fun t178 => some t178) (fun k => by rw [oriellaw35_MergeLittle.j0, if_pos rfl]) alive2
/-- A change of one file of them, that takes the least stretch in which two texts differ. -/
def goodC (a : List S36) (c : S34) : Prop := ∃ (j : Nat) (x : S36) (t : ByteArray), a[j]? = some x ∧ c = tch j x.f1 t ∧ x.f1 ≠ t
def incC : Int → List S34 → Prop
  | _, [] => True
  | last, c :: r => last < c.f0 ∧ incC c.f0 r
theorem net_inc : ∀ (xs ys : List S36) (i : Nat) (last : Int), last < (i : Int) → incC last (netS i xs ys)
  | [], ys, i, last, _ => by cases ys <;> exact trivial
  | _ :: _, [], i, last, _ => trivial
  | x :: xs, y :: ys, i, last, h => by
    unfold netS
    split
    · exact net_inc xs ys (i + 1) last (by omega)
    · exact ⟨h, net_inc xs ys (i + 1) (i : Int) (by omega)⟩
theorem net_good (a : List S36) : ∀ (xs ys : List S36) (pre : List S36), a = pre ++ xs → ∀ c ∈ netS pre.length xs ys, goodC a c
  | [], ys, pre, _, c, h => by cases ys <;> cases h
  | _ :: _, [], pre, _, c, h => by cases h
  | x :: xs, y :: ys, pre, he, c, h => by
    have ih := net_good a xs ys (pre ++ [x]) (by rw [he]; simp)
    rw [List.length_append] at ih
    unfold netS at h
    by_cases e : x.f1 = y.f1
    · rw [if_pos e] at h
      exact ih c h
    · rw [if_neg e] at h
      rcases List.mem_cons.mp h with rfl | h
      · exact ⟨pre.length, x, y.f1, by rw [he, List.getElem?_append_right (Nat.le_refl _), Nat.sub_self, List.getElem?_cons_zero], rfl, e⟩
      · exact ih c h
theorem bt_head (s : ByteArray) (c : UInt8) (r : List UInt8) (h : bs s = c :: r) : bt s 0 = (c.toNat : Int) := (bt_drop s 0 c r h).2
theorem bt_last (s : ByteArray) (c : UInt8) (r : List UInt8) (h : (bs s).reverse = c :: r) : bt s ((s.size : Int) - 1) = (c.toNat : Int) := by
  have := (bt_back s 0 c r h).2
  rw [show ((s.size : Int) - 1 - ((0 : Nat) : Int)) = (s.size : Int) - 1 by omega] at this
  exact this
/-- The two stretches: what is taken, what is put there. -/
theorem parts (s t : ByteArray) (h : s ≠ t) : s.extract (pre s t) (s.size - suf s t) ≠ mid s t ∧
    (∀ (c d : UInt8) (r q : List UInt8), bs (s.extract (pre s t) (s.size - suf s t)) = c :: r → bs (mid s t) = d :: q → c ≠ d) ∧
    (∀ (c d : UInt8) (r q : List UInt8), (bs (s.extract (pre s t) (s.size - suf s t))).reverse = c :: r → (bs (mid s t)).reverse = d :: q → c ≠ d) := by
  have p1 := pre_le s t
  have p2 := suf_le s t
  have e1 : bs (s.extract (pre s t) (s.size - suf s t)) = ((bs s).drop (pre s t)).take (s.size - suf s t - pre s t) := bs_mid s (pre s t) (s.size - suf s t) (by omega)
  have e2 : bs (mid s t) = ((bs t).drop (pre s t)).take (t.size - suf s t - pre s t) := bs_mid t (pre s t) (t.size - suf s t) (by omega)
  obtain ⟨A, hA⟩ : ∃ A, A = (bs s).drop (pre s t) := ⟨_, rfl⟩
  obtain ⟨B, hB⟩ : ∃ B, B = (bs t).drop (pre s t) := ⟨_, rfl⟩
  have lA : A.length = s.size - pre s t := by rw [hA, List.length_drop, bs_len]
  have lB : B.length = t.size - pre s t := by rw [hB, List.length_drop, bs_len]
  have hm : suf s t = lcp A.reverse B.reverse := by rw [hA, hB]; rfl
  have htl : A.drop (A.length - suf s t) = B.drop (B.length - suf s t) := by
    have := lcp_take A.reverse B.reverse
    rw [← hm, List.take_reverse, List.take_reverse] at this
    exact List.reverse_inj.mp this
  rw [← hA, show s.size - suf s t - pre s t = A.length - suf s t by omega] at e1
  rw [← hB, show t.size - suf s t - pre s t = B.length - suf s t by omega] at e2
  have hhd : (bs s).take (pre s t) = (bs t).take (pre s t) := lcp_take (bs s) (bs t)
  refine ⟨fun e => h ?_, fun c d r q h1 h2 => ?_, fun c d r q h1 h2 => ?_⟩
  · have e3 := congrArg bs e
    rw [e1, e2] at e3
    have e4 : A = B := by
      rw [← List.take_append_drop (A.length - suf s t) A, ← List.take_append_drop (B.length - suf s t) B, e3, htl]
    refine bs_inj ?_
    rw [← List.take_append_drop (pre s t) (bs s), ← List.take_append_drop (pre s t) (bs t), hhd, ← hA, ← hB, e4]
  · rw [e1] at h1
    rw [e2] at h2
    have a1 : A[0]? = some c := by
      have := congrArg (fun l => l[0]?) h1
      simp only [List.getElem?_cons_zero] at this
      rw [List.getElem?_take] at this
      split at this
      · exact this
      · cases this
    have b1 : B[0]? = some d := by
      have := congrArg (fun l => l[0]?) h2
      simp only [List.getElem?_cons_zero] at this
      rw [List.getElem?_take] at this
      split at this
      · exact this
      · cases this
    have ha : 0 < A.length := (List.getElem?_eq_some_iff.mp a1).1
    have hb : 0 < B.length := (List.getElem?_eq_some_iff.mp b1).1
    have hn := lcp_next (bs s) (bs t) (by rw [bs_len]; show pre s t < _; omega) (by rw [bs_len]; show pre s t < _; omega)
    change (bs s)[pre s t]? ≠ (bs t)[pre s t]? at hn
    rw [hA, List.getElem?_drop, Nat.add_zero] at a1
    rw [hB, List.getElem?_drop, Nat.add_zero] at b1
    rw [a1, b1] at hn
    exact fun e => hn (by rw [e])
  · have g1 : (A.reverse.drop (suf s t)) = c :: r := by
      rw [List.drop_reverse, ← e1, h1]
    have g2 : (B.reverse.drop (suf s t)) = d :: q := by
      rw [List.drop_reverse, ← e2, h2]
    have n1 : A.reverse[suf s t]? = some c := by
      have := congrArg (fun l => l[0]?) g1
      simp only [List.getElem?_cons_zero, List.getElem?_drop, Nat.add_zero] at this
      exact this
    have n2 : B.reverse[suf s t]? = some d := by
      have := congrArg (fun l => l[0]?) g2
      simp only [List.getElem?_cons_zero, List.getElem?_drop, Nat.add_zero] at this
      exact this
    have hn := lcp_next A.reverse B.reverse (by rw [← hm]; exact (List.getElem?_eq_some_iff.mp n1).1) (by rw [← hm]; exact (List.getElem?_eq_some_iff.mp n2).1)
    rw [← hm, n1, n2] at hn
    exact fun e => hn (by rw [e])
theorem loop_ev (a : List S36) (ha : a.length ≤ 4) (hsz : ∀ x ∈ a, x.f1.size ≤ 1000000) (out : List S34) (hl : out.length ≤ 1000000) : ∀ (r p : List S34) (last : Int), out = p ++ r → incC last r → (∀ c ∈ r, goodC a c) → (∀ c ∈ r, c.f3.size ≤ 1000000) →
    Ev (fun k => oriellaw35_MergeLittle.l0 k a last out (out.length : Int) (p.length : Int)) true := by
  intro r
  induction r with
  | nil =>
    intro p last he _ _ _
    have q : ¬ ((p.length : Int) < (out.length : Int)) := by rw [he]; simp
    exact Ev.step (f := fun k => (oriellaw35_alive.f k).bind fun t188 => some t188) (fun k => by rw [oriellaw35_MergeLittle.l0, if_neg q]) alive2
  | cons c r ih =>
    intro p last he hi hg hz
    have hlen : out.length = p.length + 1 + r.length := by rw [he]; simp only [List.length_append, List.length_cons]; omega
    have q1 : (p.length : Int) < (out.length : Int) := by omega
    have q2 : (0 : Int) ≤ (p.length : Int) := Int.natCast_nonneg _
    have e : rd_T34 out (p.length : Int) = c := by rw [he]; exact Mg.rd34 p c r
    obtain ⟨j, x, t, hx, rfl, hne⟩ := hg c List.mem_cons_self
    have hi1 : last < (j : Int) := hi.1
    have hj : j < a.length := (List.getElem?_eq_some_iff.mp hx).1
    have hxe : rd_T36 a (j : Int) = x := by
      unfold rd_T36
      rw [List.getD_eq_getElem?_getD, Int.toNat_natCast, hx]
      rfl
    have p2 := suf_le x.f1 t
    have sx := hsz x (List.mem_of_getElem? hx)
    have st : (mid x.f1 t).size ≤ 1000000 := hz _ List.mem_cons_self
    have hrec := ih (p ++ [tch j x.f1 t]) (j : Int) (by rw [he]; simp) hi.2 (fun c hc => hg c (List.mem_cons_of_mem _ hc)) (fun c hc => hz c (List.mem_cons_of_mem _ hc))
    rw [List.length_append] at hrec
    have c1 : ¬ ((j : Int) ≤ last) := by omega
    have c2 : ¬ ((j : Int) ≥ (a.length : Int)) := by omega
    have c3 : ¬ (((pre x.f1 t : Nat) : Int) < 0) := by omega
    have c4 : ¬ (((x.f1.size - suf x.f1 t : Nat) : Int) < ((pre x.f1 t : Nat) : Int)) := by omega
    have c5 : (0 : Int) ≤ (j : Int) := Int.natCast_nonneg _
    have c6 : (j : Int) < (a.length : Int) := by omega
    have c7 : decide (((x.f1.size - suf x.f1 t : Nat) : Int) > (x.f1.size : Int)) = false := decide_eq_false (by omega)
    refine Ev.step (f := fun k => oriellaw35_MergeLittle.j2 k a out (out.length : Int) (p.length : Int) false (j : Int) ((pre x.f1 t : Nat) : Int) ((x.f1.size - suf x.f1 t : Nat) : Int) (mid x.f1 t)) (fun k => ?_) ?_
    · rw [oriellaw35_MergeLittle.l0, if_pos q1, if_pos q2, if_pos q1, e]
      show (if (j : Int) ≤ last then none else if (j : Int) ≥ (a.length : Int) then none else if ((pre x.f1 t : Nat) : Int) < 0 then none else if ((x.f1.size - suf x.f1 t : Nat) : Int) < ((pre x.f1 t : Nat) : Int) then none else if (0 : Int) ≤ (j : Int) then (if (j : Int) < (a.length : Int) then oriellaw35_MergeLittle.j2 k a out (out.length : Int) (p.length : Int) (decide (((x.f1.size - suf x.f1 t : Nat) : Int) > (((rd_T36 a (j : Int)).f1).size : Int))) (j : Int) ((pre x.f1 t : Nat) : Int) ((x.f1.size - suf x.f1 t : Nat) : Int) (mid x.f1 t) else none) else none) = _
      rw [if_neg c1, if_neg c2, if_neg c3, if_neg c4, if_pos c5, if_pos c6, hxe, c7]
    · obtain ⟨g1, g2, g3⟩ := parts x.f1 t hne
      obtain ⟨W, hW⟩ : ∃ W, W = x.f1.extract (pre x.f1 t) (x.f1.size - suf x.f1 t) := ⟨_, rfl⟩
      obtain ⟨M, hM⟩ : ∃ M, M = mid x.f1 t := ⟨_, rfl⟩
      rw [← hW, ← hM] at g1 g2 g3
      rw [← hM] at st
      have lW : W.size ≤ 1000000 := by
        rw [← bs_len, hW, bs_mid _ _ _ (by omega), List.length_take, List.length_drop, bs_len]
        omega
      have k1 : (0 : Int) ≤ ((pre x.f1 t : Nat) : Int) := Int.natCast_nonneg _
      have k2 : ((pre x.f1 t : Nat) : Int) ≤ ((x.f1.size - suf x.f1 t : Nat) : Int) := by omega
      have k3 : ((x.f1.size - suf x.f1 t : Nat) : Int) ≤ (x.f1.size : Int) := by omega
      have k4 : ¬ (W.toList = M.toList) := fun h => g1 (toList_inj.mp h)
      have hf : ¬ (false = true) := by decide
      rw [← hM]
      have hrec' : Ev (fun k => oriellaw35_MergeLittle.l0 k a (j : Int) out (out.length : Int) (wrap64 ((p.length : Int) + 1))) true := by rw [wsucc p.length (by omega)]; exact hrec
      cases hw : bs W with
      | nil =>
        have k5 : W.toList = ([] : List UInt8) := by rw [toList_eq, hw]
        refine Ev.step (fun k => ?_) hrec'
        rw [oriellaw35_MergeLittle.j2, if_neg hf, if_pos c5, if_pos c6, hxe, if_pos k1, if_pos k2, if_pos k3, Int.toNat_natCast, Int.toNat_natCast, ← hW, if_neg k4, if_pos k5]
      | cons cw rw_ =>
        have k5 : ¬ (W.toList = ([] : List UInt8)) := by rw [toList_eq, hw]; simp
        cases hm : bs M with
        | nil =>
          have k6 : M.toList = ([] : List UInt8) := by rw [toList_eq, hm]
          refine Ev.step (fun k => ?_) hrec'
          rw [oriellaw35_MergeLittle.j2, if_neg hf, if_pos c5, if_pos c6, hxe, if_pos k1, if_pos k2, if_pos k3, Int.toNat_natCast, Int.toNat_natCast, ← hW, if_neg k4, if_neg k5, if_pos k6]
        | cons cm rm =>
          have k6 : ¬ (M.toList = ([] : List UInt8)) := by rw [toList_eq, hm]; simp
          have z1 : 0 < W.size := by rw [← bs_len, hw]; simp
          have z2 : 0 < M.size := by rw [← bs_len, hm]; simp
          have k7 : (0 : Int) < (W.size : Int) := by omega
          have k8 : (0 : Int) < (M.size : Int) := by omega
          have k9 : ¬ (bt W 0 = bt M 0) := by
            rw [bt_head W cw rw_ hw, bt_head M cm rm hm]
            exact fun h => g2 cw cm rw_ rm hw hm (u8.mp h)
          obtain ⟨cw', rw', hwr⟩ : ∃ c r, (bs W).reverse = c :: r := by
            cases h : (bs W).reverse with
            | nil => rw [hw] at h; simp at h
            | cons c r => exact ⟨c, r, rfl⟩
          obtain ⟨cm', rm', hmr⟩ : ∃ c r, (bs M).reverse = c :: r := by
            cases h : (bs M).reverse with
            | nil => rw [hm] at h; simp at h
            | cons c r => exact ⟨c, r, rfl⟩
          have k10 : ¬ (bt W ((W.size : Int) - 1) = bt M ((M.size : Int) - 1)) := by
            rw [bt_last W cw' rw' hwr, bt_last M cm' rm' hmr]
            exact fun h => g3 cw' cm' rw' rm' hwr hmr (u8.mp h)
          have w1 : wrap64 ((W.size : Int) - 1) = (W.size : Int) - 1 := wid (by omega) (by omega)
          have w2 : wrap64 ((M.size : Int) - 1) = (M.size : Int) - 1 := wid (by omega) (by omega)
          have k11 : (0 : Int) ≤ (W.size : Int) - 1 := by omega
          have k12 : (W.size : Int) - 1 < (W.size : Int) := by omega
          have k13 : (0 : Int) ≤ (M.size : Int) - 1 := by omega
          have k14 : (M.size : Int) - 1 < (M.size : Int) := by omega
          refine Ev.step (fun k => ?_) hrec'
          rw [oriellaw35_MergeLittle.j2, if_neg hf, if_pos c5, if_pos c6, hxe, if_pos k1, if_pos k2, if_pos k3, Int.toNat_natCast, Int.toNat_natCast, ← hW, if_neg k4, if_neg k5, if_neg k6, if_pos k7, if_pos k8, if_neg k9, w1, w2, if_pos k11, if_pos k12, if_pos k13, if_pos k14, if_neg k10]
theorem net_len : ∀ (xs ys : List S36) (i : Nat), (netS i xs ys).length ≤ xs.length
  | [], ys, i => by cases ys <;> exact Nat.zero_le _
  | _ :: _, [], i => Nat.zero_le _
  | x :: xs, y :: ys, i => by
    have := net_len xs ys (i + 1)
    unfold netS
    split <;> simp only [List.length_cons] <;> omega
theorem net_size (N : Nat) : ∀ (xs ys : List S36) (i : Nat), (∀ y ∈ ys, y.f1.size ≤ N) → ∀ c ∈ netS i xs ys, c.f3.size ≤ N
  | [], ys, i, _, c, h => by cases ys <;> cases h
  | _ :: _, [], i, _, c, h => by cases h
  | x :: xs, y :: ys, i, hy, c, h => by
    have ih := net_size N xs ys (i + 1) (fun z hz => hy z (List.mem_cons_of_mem _ hz))
    unfold netS at h
    split at h
    · exact ih c h
    · rcases List.mem_cons.mp h with rfl | h
      · have := hy y List.mem_cons_self
        have p2 := suf_le x.f1 y.f1
        show (mid x.f1 y.f1).size ≤ N
        rw [← bs_len, mid, bs_mid _ _ _ (by omega), List.length_take, List.length_drop, bs_len]
        omega
      · exact ih c h
theorem yes_ev (a : List S36) (s : List (List S34)) (ha : fits 1500 a) (hs : sfits s) : Ev (fun k => oriellaw35_MergeLittle.j0 k a s false) true := by
  have hf : ¬ (false = true) := by decide
  have hN := Net_ev a s (by have := hs.1; omega) (fun L hL => by have := hs.2.1 L hL; omega) 1500 ha (by have := hs.2.2; omega)
  refine Ev.step (f := fun k => (merge_Net.f k a s).bind fun bt179 => (if (!(bt179.2.2.1 == 0) || (!(bt179.2.2.2.1 == 0) || (!(bt179.2.2.2.2 == 0)))) = true then (if (bt179.1.length : Int) = 0 then ((oriellaw35_alive.f k).bind fun t187 => (some t187)) else (none)) else (oriellaw35_MergeLittle.l0 k a (-1) bt179.1 (bt179.1.length : Int) 0))) (fun k => by rw [oriellaw35_MergeLittle.j0, if_neg hf]) ?_
  refine Ev.bind (f := fun k t => _) hN ?_
  by_cases c : okT (eachS a s 0).2.2
  · rw [if_pos c]
    refine Ev.ite_neg (show ¬ ((!((0 : Int) == 0) || (!((0 : Int) == 0) || (!((0 : Int) == 0)))) = true) by decide) ?_
    obtain ⟨h1, h2, h3⟩ := eachS_ok s a 0 1500 ha c
    have hn := net_len a (eachS a s 0).1 0
    exact loop_ev a ha.1 (fun x hx => by have := ha.2 x hx; omega) (netS 0 a (eachS a s 0).1) (by have := ha.1; omega) (netS 0 a (eachS a s 0).1) [] (-1) rfl (net_inc _ _ 0 (-1) (by decide)) (net_good a a _ [] rfl)
      (net_size 1000000 a (eachS a s 0).1 0 (fun y hy => by have := h2.2 y hy; have := hs.2.2; omega))
  · rw [if_neg c]
    have e : ((eachS a s 0).2.2.1 == 0) = false := beq_eq_false_iff_ne.mpr (eachS_bad s a 0 c).2
    refine Ev.ite_pos (by rw [e]; rfl) (Ev.ite_pos rfl alive2)
theorem MergeLittle : oriellaw35_MergeLittle.Pure := by
  intro a s ga gs
  have la : a.length ≤ 9223372036854775807 := ga.1
  have ls : s.length ≤ 9223372036854775807 := gs.1
  refine Ev.rounds ?_
  obtain ⟨u, hu1, hu2⟩ := few_ev a la
  obtain ⟨v, hv1, hv2⟩ := sfew_ev s ls
  unfold oriellaw35_MergeLittle.f
  refine Ev.bind (f := fun k t => _) hu1 ?_
  cases u with
  | false => exact Ev.ite_neg (by decide) (no_ev a s)
  | true =>
    refine Ev.ite_pos rfl ?_
    refine Ev.bind (f := fun k t => _) hv1 ?_
    cases v with
    | false => exact no_ev a s
    | true => exact yes_ev a s (hu2 rfl) (hv2 rfl)
end Go.Proofs.Ytclcnglamlegiaa.Pure
