/- How any edits are told, and which edits any text tells, is as the document says; what was told is read: the plain law. Conditions: none beyond what the arguments read as. -/
import Derived.Test.YtnemooemifbbhaaDoorDtG
import Derived.Test.YtnemooemifbbhaaDoorInDiffTells
namespace Go.Proofs.YtnemooemifbbhaaDoor.Pure
open Go.RowKit Go.Proofs.YtnemooemifbbhaaDoor.PDT Go.Proofs.YtnemooemifbbhaaDoorW.PrintWords Go.Proofs.YtnemooemifbbhaaDoorW.PrintLast Go.Proofs.YtnemooemifbbhaaDoor.Dm
set_option linter.unusedVariables false
set_option linter.unusedSimpArgs false
theorem allOk_mem (n : Int) : ∀ (l : List S56), allOk n l = true → ∀ x ∈ l, okE n x
 | [], _, x, h => by cases h
 | y :: l, h, x, hx => by
  rw [allOk, Bool.and_eq_true] at h
  rcases List.mem_cons.mp hx with rfl | hx
  ·exact of_decide_eq_true h.1
  ·exact allOk_mem n l h.2 x hx
theorem tell_small {x : S56} (h : goodT x) (h2 : x.f2.size ≤ 600) : (tellL x).length ≤ 5000 := by
 have h1 := itoa_len h.1.1 h.1.2
 have h3 := itoa_len h.2.1.1 h.2.1.2
 have h4 := qt_len x.f2.data.toList
 rw [data_length] at h4
 unfold tellL qtL
 simp only [List.length_append, List.length_cons, List.length_nil]
 generalize (Lib.itoa x.f0).length = a at h1 ⊢
 generalize (Lib.itoa x.f1).length = b at h3 ⊢
 generalize (x.f2.data.toList.flatMap qtB).length = c at h4 ⊢
 omega
theorem tells_small : ∀ l : List S56, (∀ x ∈ l, goodT x ∧ x.f2.size ≤ 600) → (l.flatMap tellL).length ≤ 5000 * l.length
 | [], _ => Nat.le_refl _
 | x :: l, h => by
  have h1 := tell_small (h x (List.mem_cons_self ..)).1 (h x (List.mem_cons_self ..)).2
  have h2 := tells_small l (fun y hy => h y (List.mem_cons_of_mem _ hy))
  rw [List.flatMap_cons, List.length_append, List.length_cons]
  generalize (tellL x).length = a at h1 ⊢
  generalize (l.flatMap tellL).length = b at h2 ⊢
  omega
theorem readR_len : ∀ (r : List ByteArray) (l : List S56), readR r = some l → l.length = r.length
 | [], l, h => by
  rw [readR] at h
  rw [← Option.some.inj h]
  rfl
 | x :: r, l, h => by
  rw [readR] at h
  split at h
  ·cases h1 : lineR (x.extract 0 (x.size - 1)) with
   | none => rw [h1] at h; cases h
   | some e =>
    rw [h1] at h
    cases h2 : readR r with
    | none => rw [h2] at h; cases h
    | some m =>
     rw [h2] at h
     rw [← Option.some.inj h, List.length_cons, List.length_cons, readR_len r m h2]
  ·cases h
theorem alive2 : Ev (fun k => (oriellaw27_alive.f k).bind fun t => some t) true := Ev.bind (f := fun k b => some b) alive_ev (Ev.now _)
theorem main_ev (s : ByteArray) (l : List S56) (p : ByteArray) (hs : s.size ≤ 400) (hl : l.length ≤ 40) (hx : ∀ x ∈ l, x.f2.size ≤ 600) (hp : p.size ≤ 500) : Ev (fun k => oriellaw27_DiffTells.j2 k s l p false) true := by
 refine Ev.step (fun k => oriellaw27_DiffTells.j2.eq_2 s l p false k) ?_
 refine Ev.ite_neg (by decide) ?_
 have hR : ∀ (f : Nat → (List S56 × Bool) → (List S56 × Bool) → Option Bool), Ev (fun k => f k (readE [] (readR (lines p))) (readE [] (readR (lines p)))) true → Ev (fun k => (diff_Read.f k p).bind fun b1 => (orielref27_Read.f k p).bind fun b2 => f k b1 b2) true := fun f h =>
  Ev.bind (f := fun k b1 => (orielref27_Read.f k p).bind fun b2 => f k b1 b2) (Read_ev p (by omega)) (Ev.bind (f := fun k b2 => f k _ b2) (RRead_ev p (by omega)) h)
 have hlen : (readE [] (readR (lines p))).1.length ≤ 2000000 := by
  have h1 := lines_len p
  cases h : readR (lines p) with
  | none => exact Nat.zero_le _
  | some m =>
   have := readR_len _ _ h
   show ([] ++ m).length ≤ _
   rw [List.nil_append]
   omega
 have hb : ∀ b : Bool, ¬ ((b != b) = true) := by decide
 have hi : ∀ i : Int, (i != i) = false := fun i => by simp
 by_cases c : checkSpec (s.size : Int) l = 0
 ·obtain ⟨h1, h2, h3⟩ := check_zero c
  have hg : ∀ x ∈ l, goodT x := fun x hm => by
   have := allOk_mem _ l h1 x hm
   unfold okE at this
   have := hx x hm
   unfold goodT
   omega
  refine Ev.bind (f := fun k bt256 => _) (Tell_ev s l (by omega) c hg) ?_
  refine hR (fun k bt258 bt262 => _) ?_
  refine Ev.ite_neg (hb _) ?_
  refine Ev.bind (f := fun k t266 => _) (Same_ev _ hlen) (Ev.ite_pos rfl ?_)
  refine Ev.bind (f := fun k t267 => _) (RCheck_ev (s.size : Int) l (by omega)) ?_
  rw [c]
  refine Ev.step (fun k => oriellaw27_DiffTells.j3.eq_2 l (tellF l) 0 ((0 : Int) != 0) k) ?_
  refine Ev.ite_neg (by decide) (Ev.ite_pos rfl ?_)
  have ht := tells_small l (fun x hm => ⟨hg x hm, hx x hm⟩)
  refine Ev.bind (f := fun k bt269 => _) (Read_tell l (by show (ofL (l.flatMap tellL)).size ≤ _; rw [ofL_size]; omega) hg) ?_
  refine Ev.bind (f := fun k t273 => _) (RTell_ev l (by omega) hg) ?_
  refine Ev.ite_pos rfl (Ev.ite_pos rfl ?_)
  exact Ev.bind (f := fun k t274 => _) (Same_ev l (by omega)) (Ev.ite_pos rfl alive2)
 ·refine Ev.bind (f := fun k bt256 => _) (Tell_no s l (by omega) c) ?_
  refine hR (fun k bt258 bt262 => _) ?_
  refine Ev.ite_neg (hb _) ?_
  refine Ev.bind (f := fun k t266 => _) (Same_ev _ hlen) (Ev.ite_pos rfl ?_)
  refine Ev.bind (f := fun k t267 => _) (RCheck_ev (s.size : Int) l (by omega)) ?_
  refine Ev.step (fun k => oriellaw27_DiffTells.j3.eq_2 l (⟨#[]⟩ : ByteArray) (checkSpec (s.size : Int) l) (checkSpec (s.size : Int) l != checkSpec (s.size : Int) l) k) ?_
  refine Ev.ite_neg (by rw [hi]; decide) (Ev.ite_neg c (Ev.ite_pos ?_ alive2))
  rw [toList_eq]
theorem no_ev (s : ByteArray) (l : List S56) (p : ByteArray) : Ev (fun k => oriellaw27_DiffTells.j2 k s l p true) true := Ev.step (f := fun k => (oriellaw27_alive.f k).bind fun t => some t) (fun k => by rw [oriellaw27_DiffTells.j2, if_pos rfl]) alive2
theorem j1_ev (s : ByteArray) (l : List S56) (p : ByteArray) (m : Int) (hm : m ≤ 600 → l.length ≤ 40 → ∀ x ∈ l, x.f2.size ≤ 600) : Ev (fun k => oriellaw27_DiffTells.j1 k s l p m) true := by
 refine Ev.step (fun k => oriellaw27_DiffTells.j1.eq_2 s l p m k) ?_
 unfold oriellaw27_few.f
 simp only [Option.bind_some]
 by_cases c1 : (s.size : Int) ≤ 400
 ·refine Ev.ite_pos (decide_eq_true c1) ?_
  by_cases c2 : (l.length : Int) > 40
  ·exact Ev.ite_pos c2 (no_ev s l p)
  ·refine Ev.ite_neg c2 ?_
   by_cases c3 : m > 600
   ·exact Ev.ite_pos c3 (no_ev s l p)
   ·refine Ev.ite_neg c3 ?_
    by_cases c4 : (p.size : Int) > 500
    ·rw [decide_eq_true c4]
     exact no_ev s l p
    ·rw [decide_eq_false c4]
     exact main_ev s l p (by omega) (by omega) (hm (by omega) (by omega)) (by omega)
 ·exact Ev.ite_neg (by rw [decide_eq_false c1]; decide) (no_ev s l p)
theorem loop_ev (s : ByteArray) (l : List S56) (p : ByteArray) (hl : l.length ≤ 9223372036854775807) : ∀ (r pre : List S56) (n : Int), l = pre ++ r → pre.length ≤ 41 → 0 ≤ n → n ≤ 5000 * (pre.length : Int) → (n ≤ 600 → ∀ x ∈ pre, x.f2.size ≤ 600) →
  Ev (fun k => oriellaw27_DiffTells.l0 k s l p n (pre.length : Int)) true := by
 intro r
 induction r with
 | nil =>
  intro pre n he _ h0 h1 h2
  refine Ev.step (fun k => ?_) (j1_ev s l p n (fun hm _ => by rw [he, List.append_nil]; exact h2 hm))
  rw [oriellaw27_DiffTells.l0, if_neg (by rw [he, List.append_nil]; omega)]
 | cons x r ih =>
  intro pre n he hp h0 h1 h2
  have hlen : l.length = pre.length + r.length + 1 := by rw [he, List.length_append, List.length_cons]; omega
  have e1 : rd_T56 l (pre.length : Int) = x := by rw [he]; exact rd_mid pre x r
  by_cases c : pre.length ≤ 40
  ·have ei : wrap64 ((pre.length : Int) + 1) = ((pre.length + 1 : Nat) : Int) := wsucc _ (by omega)
   have hmn : 0 ≤ mn ((x.f2.size : Nat) : Int) 5000 ∧ mn ((x.f2.size : Nat) : Int) 5000 ≤ 5000 ∧ (mn ((x.f2.size : Nat) : Int) 5000 ≤ 600 → x.f2.size ≤ 600) := by unfold mn; split <;> omega
   obtain ⟨m, hm⟩ : ∃ m, mn ((x.f2.size : Nat) : Int) 5000 = m := ⟨_, rfl⟩
   rw [hm] at hmn
   have ew : wrap64 (n + m) = n + m := wid (by omega) (by omega)
   have hn := ih (pre ++ [x]) (n + m) (by rw [he, List.append_assoc]; rfl) (by rw [List.length_append, List.length_singleton]; clear ei ew; omega) (by clear ei ew; omega) (by rw [List.length_append, List.length_singleton]; clear ei ew; omega) (fun h y hy => by
    rcases List.mem_append.mp hy with hy | hy
    ·exact h2 (by clear ei ew; omega) y hy
    ·rw [List.mem_singleton] at hy
     rw [hy]
     exact hmn.2.2 (by clear ei ew; omega))
   rw [show (pre ++ [x]).length = pre.length + 1 by rw [List.length_append, List.length_singleton]] at hn
   refine Ev.step (fun k => ?_) hn
   rw [oriellaw27_DiffTells.l0, if_pos (by clear ei ew; omega), if_pos (by clear ei ew; omega), if_pos (by clear ei ew; omega), e1, hm, ew, ei]
  ·refine Ev.step (fun k => ?_) (j1_ev s l p n (fun _ h => by omega))
   rw [oriellaw27_DiffTells.l0, if_pos (by omega), if_neg (by omega)]
theorem DiffTells : oriellaw27_DiffTells.Pure := by
 intro s l p gs gl gp
 have la : l.length ≤ 9223372036854775807 := gl.1
 refine Ev.rounds ?_
 exact loop_ev s l p la l [] 0 rfl (by decide) (by decide) (by decide) (fun _ x h => by cases h)
end Go.Proofs.YtnemooemifbbhaaDoor.Pure
