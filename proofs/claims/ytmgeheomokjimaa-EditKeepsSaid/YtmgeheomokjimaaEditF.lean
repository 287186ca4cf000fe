/- The document's stretches, byte by byte, are the program's. Plain theorems; no condition but those of each theorem. -/
import Derived.Test.YtmgeheomokjimaaEditE
namespace Go.Proofs.Ytmgeheomokjimaa.EditF
open Go.RowKit Go.Proofs.YtmgeheomokjimaaW.PrintWords Go.Proofs.YtmgeheomokjimaaW.PrintLast Go.Proofs.YtmgeheomokjimaaW.PrintMore Go.Proofs.Ytmgeheomokjimaa.PAll Go.Proofs.Ytmgeheomokjimaa.Frame Go.Proofs.Ytmgeheomokjimaa.EditA Go.Proofs.Ytmgeheomokjimaa.EditB Go.Proofs.Ytmgeheomokjimaa.EditC Go.Proofs.Ytmgeheomokjimaa.EditE
set_option linter.unusedVariables false
set_option linter.unusedSimpArgs false

theorem set_last {α : Type} (out : List α) (y z : α) : (out ++ [y]).set out.length z = out ++ [z] := by
  induction out with
  | nil => rfl
  | cons x r ih => simp only [List.cons_append, List.length_cons, List.set_cons_succ, ih]
/-- Does no edit begin at a place? -/
def noAt (i : Int) : List S47 → Bool
  | [] => true
  | x :: r => (x.f0 != i) && noAt i r
theorem noAt_true (i : Int) (l : List S47) (h : ∀ x ∈ l, x.f0 ≠ i) : noAt i l = true := by
  induction l with
  | nil => rfl
  | cons x r ih =>
    simp only [noAt, Bool.and_eq_true, bne_iff_ne, ne_eq]
    exact ⟨h x List.mem_cons_self, ih (fun y hy => h y (List.mem_cons_of_mem _ hy))⟩
theorem noAt_false (i : Int) (l : List S47) (x : S47) (hx : x ∈ l) (h : x.f0 = i) : noAt i l = false := by
  induction l with
  | nil => cases hx
  | cons y r ih =>
    cases hx with
    | head => simp [noAt, h]
    | tail _ hx => simp [noAt, ih hx]
theorem RKept_l1 (n : Int) (l : List S47) (hl : l.length ≤ 100) (out : List S45) (tt : List Int) (i : Int) (q : List S45 × List Int × Int) : ∀ (r pre : List S47) (b : Bool), l = pre ++ r →
    Ev (fun k => orielref02_Kept.l1 k n l out tt (b && noAt i r) i (l.length : Int)) q → Ev (fun k => orielref02_Kept.l1 k n l out tt b i (pre.length : Int)) q := by
  intro r
  induction r with
  | nil =>
    intro pre b he h
    have hp : pre.length = l.length := by rw [he]; simp
    rw [hp]
    simpa [noAt] using h
  | cons x r ih =>
    intro pre b he h
    have hlen : l.length = pre.length + 1 + r.length := by rw [he]; simp only [List.length_append, List.length_cons]; omega
    have e2 : rd_T47 l (pre.length : Int) = x := by rw [he]; exact rd_mid pre x r
    have hi := ih (pre ++ [x]) (b && (x.f0 != i)) (by rw [he]; simp) (by rw [Bool.and_assoc]; exact h)
    rw [show (((pre ++ [x]).length : Nat) : Int) = (pre.length : Int) + 1 by simp] at hi
    refine Ev.step (fun k => ?_) hi
    simp only [orielref02_Kept.l1]
    rw [if_pos (by omega), e2, wrap_id (x := (pre.length : Int) + 1) (by omega) (by omega)]
    cases b with
    | true => rw [if_pos rfl, if_pos (by omega), Bool.true_and]
    | false => rw [if_neg (by simp), Bool.false_and]
/-- A step of the scan, once it is told whether a stretch goes on. -/
theorem RKept_step (n : Int) (hn : n ≤ 4000) (l : List S47) (hl : l.length ≤ 100) (hz : sumSize l ≤ 6000) (hck : checkSpec n l = 0) (out : List S45) (tt : List Int) (b : Bool) (i : Int) (q : List S45 × List Int × Int) (hi : i < n)
    (h : Ev (fun k => (orielref02_Map.f k n i l).bind fun bt151 => (if bt151.2 = true then (if (b && noAt i l) = true then (if 0 ≤ (wrap64 ((out.length : Int) - 1)) then (if (wrap64 ((out.length : Int) - 1)) < (out.length : Int) then (orielref02_Kept.l0 k n l (out.set ((wrap64 ((out.length : Int) - 1)) : Int).toNat (⟨(rd_T45 out (wrap64 ((out.length : Int) - 1))).f0, wrap64 (i + 1)⟩ : S45)) tt true (wrap64 (i + 1))) else (none)) else (none)) else (if out.length < 8796093022208 then ((some (out ++ [(⟨i, i⟩ : S45)] : List (S45))).bind fun y154 => (if tt.length < 17592186044416 then (if 0 ≤ (wrap64 ((y154.length : Int) - 1)) then (if (wrap64 ((y154.length : Int) - 1)) < (y154.length : Int) then (orielref02_Kept.l0 k n l (y154.set ((wrap64 ((y154.length : Int) - 1)) : Int).toNat (⟨(rd_T45 y154 (wrap64 ((y154.length : Int) - 1))).f0, wrap64 (i + 1)⟩ : S45)) (tt ++ [bt151.1]) true (wrap64 (i + 1))) else (none)) else (none)) else (none))) else (none))) else (orielref02_Kept.l0 k n l out tt false (wrap64 (i + 1))))) q) :
    Ev (fun k => orielref02_Kept.l0 k n l out tt b i) q := by
  refine Ev.step (fun k => by simp only [orielref02_Kept.l0]; rw [if_pos hi]) ?_
  refine RKept_l1 n l hl out tt i q l [] b rfl ?_
  refine Ev.step (fun k => ?_) h
  simp only [orielref02_Kept.l1]
  rw [if_neg (by omega)]
section
variable (n : Int) (hn : n ≤ 4000) (l : List S47) (hl : l.length ≤ 100) (hz : sumSize l ≤ 6000) (hck : checkSpec n l = 0)
include hn hl hz hck
/-- A byte that is taken: no stretch goes on. -/
theorem RKept_none (out : List S45) (tt : List Int) (b : Bool) (i : Int) (q : List S45 × List Int × Int) (h0 : 0 ≤ i) (hi : i < n) (hm : mapS n l 0 0 i = none)
    (h : Ev (fun k => orielref02_Kept.l0 k n l out tt false (i + 1)) q) : Ev (fun k => orielref02_Kept.l0 k n l out tt b i) q := by
  refine RKept_step n hn l hl hz hck out tt b i q hi ?_
  have hM := RMap_ev n i hn l hl hz
  rw [if_pos hck, hm] at hM
  refine Ev.bind hM ?_
  refine Ev.ite_neg (by simp [asMap]) ?_
  rw [wrap_id (x := i + 1) (by omega) (by omega)]
  exact h
/-- A byte that begins a stretch. -/
theorem RKept_new (out : List S45) (tt : List Int) (b : Bool) (i v : Int) (q : List S45 × List Int × Int) (h0 : 0 ≤ i) (hi : i < n) (ho : out.length ≤ 1000) (ht : tt.length ≤ 1000) (hm : mapS n l 0 0 i = some v) (hb : (b && noAt i l) = false)
    (h : Ev (fun k => orielref02_Kept.l0 k n l (out ++ [(⟨i, i + 1⟩ : S45)]) (tt ++ [v]) true (i + 1)) q) : Ev (fun k => orielref02_Kept.l0 k n l out tt b i) q := by
  refine RKept_step n hn l hl hz hck out tt b i q hi ?_
  have hM := RMap_ev n i hn l hl hz
  rw [if_pos hck, hm] at hM
  refine Ev.bind hM ?_
  refine Ev.ite_pos rfl (Ev.ite_neg (by rw [hb]; simp) (Ev.ite_pos (by omega) (Ev.some_bind (Ev.ite_pos (by omega) ?_))))
  have hlen : (((out ++ [(⟨i, i⟩ : S45)]).length : Nat) : Int) = out.length + 1 := by simp
  rw [hlen, wrap_id (x := (out.length : Int) + 1 - 1) (by omega) (by omega), wrap_id (x := i + 1) (by omega) (by omega), show (out.length : Int) + 1 - 1 = out.length by omega]
  refine Ev.ite_pos (by omega) (Ev.ite_pos (by omega) ?_)
  rw [rd_pair out (⟨i, i⟩ : S45) [], show ((out.length : Int)).toNat = out.length by simp, set_last]
  exact h
/-- A byte that goes on in a stretch. -/
theorem RKept_more (out : List S45) (p : S45) (tt : List Int) (i v : Int) (q : List S45 × List Int × Int) (h0 : 0 ≤ i) (hi : i < n) (ho : out.length ≤ 1000) (hm : mapS n l 0 0 i = some v) (hb : noAt i l = true)
    (h : Ev (fun k => orielref02_Kept.l0 k n l (out ++ [(⟨p.f0, i + 1⟩ : S45)]) tt true (i + 1)) q) : Ev (fun k => orielref02_Kept.l0 k n l (out ++ [p]) tt true i) q := by
  refine RKept_step n hn l hl hz hck (out ++ [p]) tt true i q hi ?_
  have hM := RMap_ev n i hn l hl hz
  rw [if_pos hck, hm] at hM
  refine Ev.bind hM ?_
  refine Ev.ite_pos rfl (Ev.ite_pos (by rw [hb]; rfl) ?_)
  have hlen : (((out ++ [p]).length : Nat) : Int) = out.length + 1 := by simp
  rw [hlen, wrap_id (x := (out.length : Int) + 1 - 1) (by omega) (by omega), wrap_id (x := i + 1) (by omega) (by omega), show (out.length : Int) + 1 - 1 = out.length by omega]
  refine Ev.ite_pos (by omega) (Ev.ite_pos (by omega) ?_)
  rw [rd_pair out p [], show ((out.length : Int)).toNat = out.length by simp, set_last]
  exact h
/-- Within a gap, up to its end. -/
theorem RKept_gap (out : List S45) (tt : List Int) (a e m : Int) (q : List S45 × List Int × Int) (h0 : 0 ≤ a) (he : e ≤ n) (ho : out.length ≤ 1000) (ht : tt.length ≤ 1000) (hm : ∀ i : Int, a ≤ i → i < e → mapS n l 0 0 i = some (i + m)) (hb : ∀ i : Int, a < i → i < e → noAt i l = true) (c : Bool) (hc : a < e → (c && noAt a l) = false)
    (h : ∀ b : Bool, (a < e → b = true) → (a = e → b = c) → Ev (fun k => orielref02_Kept.l0 k n l (out ++ if a < e then [(⟨a, e⟩ : S45)] else []) (tt ++ if a < e then [a + m] else []) b e) q) : ∀ (d : Nat) (i : Int) (b : Bool), i + d = e → a ≤ i → (a < i → b = true) → (a = i → b = c) →
    Ev (fun k => orielref02_Kept.l0 k n l (out ++ if a < i then [(⟨a, i⟩ : S45)] else []) (tt ++ if a < i then [a + m] else []) b i) q := by
  intro d
  induction d with
  | zero =>
    intro i b hd ha hb1 hb2
    have : i = e := by omega
    subst this
    exact h b hb1 hb2
  | succ d ih =>
    intro i b hd ha hb1 hb2
    have hi := ih (i + 1) true (by omega) (by omega) (fun _ => rfl) (fun h => by omega)
    rw [if_pos (by omega), if_pos (by omega)] at hi
    by_cases g : a < i
    · rw [if_pos g, if_pos g, hb1 g]
      exact RKept_more n hn l hl hz hck out (⟨a, i⟩ : S45) (tt ++ [a + m]) i (i + m) q (by omega) (by omega) ho (hm i ha (by omega)) (hb i g (by omega)) hi
    · have : i = a := by omega
      subst this
      rw [if_neg g, if_neg g, List.append_nil, List.append_nil]
      exact RKept_new n hn l hl hz hck out tt b i (i + m) q h0 (by omega) ho ht (hm i ha (by omega)) (by rw [hb2 rfl]; exact hc (by omega)) hi
/-- Over the bytes that an edit takes. -/
theorem RKept_over (out : List S45) (tt : List Int) (q : List S45 × List Int × Int) (e : Int) (he : e ≤ n) (h : Ev (fun k => orielref02_Kept.l0 k n l out tt false e) q) : ∀ (d : Nat) (i : Int) (b : Bool), i + (d + 1 : Nat) = e → 0 ≤ i → (∀ j : Int, i ≤ j → j < e → mapS n l 0 0 j = none) →
    Ev (fun k => orielref02_Kept.l0 k n l out tt b i) q := by
  intro d
  induction d with
  | zero =>
    intro i b hd h0 hm
    refine RKept_none n hn l hl hz hck out tt b i q h0 (by omega) (hm i (Int.le_refl _) (by omega)) ?_
    rw [show i + 1 = e by omega]
    exact h
  | succ d ih =>
    intro i b hd h0 hm
    exact RKept_none n hn l hl hz hck out tt b i q h0 (by omega) (hm i (Int.le_refl _) (by omega)) (ih (i + 1) false (by omega) (by omega) (fun j h1 h2 => hm j (by omega) h2))
theorem RKept_go : ∀ (r pre : List S47) (a m : Int) (out : List S45) (tt : List Int) (c : Bool), l = pre ++ r → Chain n a r → (∀ x ∈ pre, x.f0 ≤ a) → (∀ i : Int, a ≤ i → mapS n l 0 0 i = mapS n r a m i) → out.length ≤ pre.length → tt.length ≤ pre.length → (c && noAt a l) = false ∨ (∃ x ∈ r, x.f0 = a) →
    Ev (fun k => orielref02_Kept.l0 k n l out tt c a) (out ++ kP n r a, tt ++ kT n r a m, 0) := by
  intro r
  induction r with
  | nil =>
    intro pre a m out tt c he hc hpre hm ho ht hopen
    have h4 := hc.le
    have hlen : l.length = pre.length := by rw [he]; simp
    have hg := RKept_gap n hn l hl hz hck out tt a n m (out ++ kP n [] a, tt ++ kT n [] a m, 0) h4.1 (Int.le_refl _) (by omega) (by omega)
      (fun i h1 h2 => by rw [hm i h1]; simp only [mapS]; rw [if_pos ⟨h1, h2⟩])
      (fun i h1 h2 => noAt_true i l (fun x hx => by
        rw [he, List.append_nil] at hx
        have := hpre x hx
        omega))
      c (fun hae => by
        rcases hopen with h | ⟨x, hx, _⟩
        · exact h
        · cases hx)
      (fun b h1 h2 => by
        refine Ev.step (f := fun _ => some (out ++ kP n [] a, tt ++ kT n [] a m, 0)) (fun k => ?_) (Ev.now _)
        simp only [orielref02_Kept.l0]
        rw [if_neg (by omega)]
        rfl) (n - a).toNat a c (by omega) (Int.le_refl _) (fun h => by omega) (fun _ => rfl)
    rw [if_neg (by omega), if_neg (by omega), List.append_nil, List.append_nil] at hg
    exact hg
  | cons x r ih =>
    intro pre a m out tt c he hc hpre hm ho ht hopen
    obtain ⟨c0, c1, c2, c3⟩ := hc
    have h4 := c3.le
    have hlen : l.length = pre.length + 1 + r.length := by rw [he]; simp only [List.length_append, List.length_cons]; omega
    have hxl : x ∈ l := by rw [he]; simp
    have hlate : ∀ y ∈ r, x.f1 ≤ y.f0 := fun y hy => (Chain.ahead c3 y hy).1
    have hg := RKept_gap n hn l hl hz hck out tt a x.f0 m (out ++ kP n (x :: r) a, tt ++ kT n (x :: r) a m, 0) c0 (by omega) (by omega) (by omega)
      (fun i h1 h2 => by rw [hm i h1]; simp only [mapS]; rw [if_pos ⟨h1, h2⟩])
      (fun i h1 h2 => noAt_true i l (fun y hy => by
        rw [he] at hy
        rcases List.mem_append.mp hy with h | h
        · have := hpre y h
          omega
        · cases h with
          | head => omega
          | tail _ h => have := hlate y h; omega))
      c (fun hae => by
        rcases hopen with h | ⟨y, hy, hya⟩
        · exact h
        · cases hy with
          | head => omega
          | tail _ h => have := hlate y h; omega)
      (fun b h1 h2 => by
        have hi := fun c' hc' => ih (pre ++ [x]) x.f1 (m + (x.f2.size - (x.f1 - x.f0))) (out ++ if a < x.f0 then [(⟨a, x.f0⟩ : S45)] else []) (tt ++ if a < x.f0 then [a + m] else []) c' (by rw [he]; simp) c3
          (fun y hy => by
            rcases List.mem_append.mp hy with h | h
            · have := hpre y h
              omega
            · simp only [List.mem_singleton] at h
              subst h
              exact c2)
          (fun i hi => by rw [hm i (by omega)]; simp only [mapS]; rw [if_neg (by omega)])
          (by simp only [List.length_append, List.length_cons, List.length_nil]; split <;> simp <;> omega) (by simp only [List.length_append, List.length_cons, List.length_nil]; split <;> simp <;> omega) (Or.inl hc')
        simp only [kP, kT, ← List.append_assoc]
        by_cases z : x.f0 = x.f1
        · have := hi b (by rw [noAt_false x.f1 l x hxl z]; simp)
          rw [← z] at this ⊢
          exact this
        · refine RKept_over n hn l hl hz hck _ _ _ x.f1 (by omega) (hi false (by simp)) ((x.f1 - x.f0).toNat - 1) x.f0 b (by omega) (by omega) (fun j hj1 hj2 => ?_)
          rw [hm j (by omega)]
          simp only [mapS]
          rw [if_neg (by omega)]
          have hn' : ∀ (r : List S47) (a m : Int), Chain n a r → j < a → mapS n r a m j = none := by
            intro r
            induction r with
            | nil => intro a m _ h; simp only [mapS]; rw [if_neg (by omega)]
            | cons y r ih =>
              intro a m hc h
              obtain ⟨d0, d1, d2, d3⟩ := hc
              simp only [mapS]
              rw [if_neg (by omega)]
              exact ih y.f1 _ d3 (by omega)
          exact hn' r x.f1 _ c3 hj2) (x.f0 - a).toNat a c (by omega) (Int.le_refl _) (fun h => by omega) (fun _ => rfl)
    rw [if_neg (by omega), if_neg (by omega), List.append_nil, List.append_nil] at hg
    exact hg
end
theorem RKept_ev (n : Int) (hn : n ≤ 4000) (l : List S47) (hl : l.length ≤ 100) (hz : sumSize l ≤ 6000) :
    Ev (fun k => orielref02_Kept.f k n l) (if checkSpec n l = 0 then (kP n l 0, kT n l 0 0, 0) else ([], [], checkSpec n l)) := by
  unfold orielref02_Kept.f
  refine Ev.bind (RCheck_ev n l (by omega)) ?_
  by_cases c : checkSpec n l = 0
  · refine Ev.ite_pos c ?_
    rw [if_pos c]
    have := RKept_go n hn l hl hz c l [] 0 0 [] [] false rfl (chain_zero c) (fun x hx => by cases hx) (fun _ _ => rfl) (by simp) (by simp) (Or.inl rfl)
    simpa using this
  · refine Ev.ite_neg c ?_
    rw [if_neg c]
    exact Ev.now _
end Go.Proofs.Ytmgeheomokjimaa.EditF
