/- The law EnvSame walked: which environments say the same. Conditions: as the theorems say. -/
import Derived.Test.YtkdfbfhajojdeaaEnvO
import Derived.Test.YtkdfbfhajojdeaaPESx2
namespace Go.Proofs.Ytkdfbfhajojdeaa.Env
open Go Go.RowKit Go.Proofs.YtkdfbfhajojdeaaW.PrintWords Go.Proofs.YtkdfbfhajojdeaaW.PrintLast Go.Proofs.YtkdfbfhajojdeaaW.PrintMore Go.Proofs.Ytkdfbfhajojdeaa.PES
set_option linter.unusedVariables false
set_option linter.unusedSimpArgs false
theorem rowS_symm {s : List S26 → List S26 → Bool} (h : ∀ l m, s l m = s m l) : ∀ x y, rowS s x y = rowS s y x
  | [], [] => rfl
  | [], _ :: _ => rfl
  | _ :: _, [] => rfl
  | a :: x, b :: y => by
    have e1 : keyEq (K26 a) (K26 b) = keyEq (K26 b) (K26 a) := by
      rw [Bool.eq_iff_iff, keyEq_iff, keyEq_iff]
      exact eq_comm
    have e2 : (a.f2 == b.f2) = (b.f2 == a.f2) := by
      rw [Bool.eq_iff_iff, beq_iff_eq, beq_iff_eq]
      exact eq_comm
    rw [rowS, rowS, rowS_symm h x y]
    unfold nodeS
    rw [e1, e2, h a.f4, h a.f5]
theorem sameN_symm : ∀ n l m, sameN n l m = sameN n m l
  | 0, _, _ => rfl
  | n + 1, l, m => rowS_symm (sameN_symm n) _ _
theorem rowS_refl {s : List S26 → List S26 → Bool} (h : ∀ l, s l l = true) : ∀ x, rowS s x x = true
  | [] => rfl
  | a :: x => by
    rw [rowS, rowS_refl h x]
    unfold nodeS
    rw [h, h, (keyEq_iff _ _).mpr rfl, beq_self_eq_true]
    rfl
theorem sameN_refl : ∀ n l, sameN n l l = true
  | 0, _ => rfl
  | n + 1, l => rowS_refl (sameN_refl n) _
theorem rowS_trans {s : List S26 → List S26 → Bool} (h : ∀ l m r, s l m = true → s m r = true → s l r = true) : ∀ x y z, rowS s x y = true → rowS s y z = true → rowS s x z = true
  | [], [], z, _, h2 => h2
  | [], _ :: _, _, h1, _ => by cases h1
  | _ :: _, [], _, h1, _ => by cases h1
  | _ :: _, _ :: _, [], _, h2 => by cases h2
  | a :: x, b :: y, c :: z, h1, h2 => by
    unfold rowS nodeS at h1 h2 ⊢
    simp only [Bool.and_eq_true, beq_iff_eq, keyEq_iff] at h1 h2 ⊢
    obtain ⟨⟨⟨⟨a1, a2⟩, a3⟩, a4⟩, a5⟩ := h1
    obtain ⟨⟨⟨⟨b1, b2⟩, b3⟩, b4⟩, b5⟩ := h2
    exact ⟨⟨⟨⟨a1.trans b1, a2.trans b2⟩, h _ _ _ a3 b3⟩, h _ _ _ a4 b4⟩, rowS_trans h x y z a5 b5⟩
theorem sameN_trans : ∀ n l m r, sameN n l m = true → sameN n m r = true → sameN n l r = true
  | 0, _, _, _, _, _ => rfl
  | n + 1, l, m, r, h1, h2 => rowS_trans (sameN_trans n) _ _ _ h1 h2
end Go.Proofs.Ytkdfbfhajojdeaa.Env
namespace Go.Proofs.Ytkdfbfhajojdeaa.Same
open Go Go.RowKit Go.Proofs.YtkdfbfhajojdeaaW.PrintWords Go.Proofs.YtkdfbfhajojdeaaW.PrintLast Go.Proofs.YtkdfbfhajojdeaaW.PrintMore Go.Proofs.Ytkdfbfhajojdeaa.PES Go.Proofs.Ytkdfbfhajojdeaa.Env
set_option linter.unusedVariables false
set_option linter.unusedSimpArgs false
theorem below_refl_of {n : Nat} {w w' : World} (_ : Below n w w') : Below w'.heap.size w' w' := Below.refl _ _
noncomputable def lawF (k : Nat) (l0 l1 l2 : List S26) : Option Bool :=
  (orielref11_Size.f k l0 60).bind fun _ => (orielref11_Size.f k l1 60).bind fun _ => (orielref11_Size.f k l2 60).bind fun _ =>
    haveI := Classical.propDecidable (GoodL l0 ∧ GoodL l1 ∧ GoodL l2)
    if GoodL l0 ∧ GoodL l1 ∧ GoodL l2 then some true else none
theorem lawF_open {k : Nat} {l0 l1 l2 : List S26} {r : Bool} (h : lawF k l0 l1 l2 = some r) : r = true ∧ GoodL l0 ∧ GoodL l1 ∧ GoodL l2 ∧ ∃ r0 r1 r2, orielref11_Size.f k l0 60 = some r0 ∧ orielref11_Size.f k l1 60 = some r1 ∧ orielref11_Size.f k l2 60 = some r2 := by
  unfold lawF at h
  obtain ⟨r0, h0, h⟩ := Option.bind_eq_some_iff.mp h
  obtain ⟨r1, h1, h⟩ := Option.bind_eq_some_iff.mp h
  obtain ⟨r2, h2, h⟩ := Option.bind_eq_some_iff.mp h
  by_cases g : GoodL l0 ∧ GoodL l1 ∧ GoodL l2
  · rw [if_pos g] at h
    exact ⟨(Option.some.inj h).symm, g.1, g.2.1, g.2.2, r0, r1, r2, h0, h1, h2⟩
  · rw [if_neg g] at h
    cases h
set_option maxHeartbeats 32000000 in
set_option maxRecDepth 100000 in
theorem law (k : Nat) (A0 : Option Addr) (c0 : Nat) (l0 : List S26) (A1 : Option Addr) (c1 : Nat) (l1 : List S26) (A2 : Option Addr) (c2 : Nat) (l2 : List S26) (r : Bool) (w : World) (hr0 : Kd.C k26 w A0 l0.length l0) (hc0 : l0.length ≤ c0) (hr1 : Kd.C k26 w A1 l1.length l1) (hc1 : l1.length ≤ c1) (hr2 : Kd.C k26 w A2 l2.length l2) (hc2 : l2.length ≤ c2) (h : lawF k l0 l1 l2 = some r) :
    Calls Try.prog 4 #[.slice A0 l0.length c0, .slice A1 l1.length c1, .slice A2 l2.length c2] w fun e w' => e = .returned (.bool r) ∧ Below w.heap.size w w' := by
  obtain ⟨rfl, g0, g1, g2, r0, r1, r2, s0, s1, s2⟩ := lawF_open h
  obtain ⟨N, hN⟩ : ∃ N, N = SizeOf.sizeOf l0 + SizeOf.sizeOf l1 + SizeOf.sizeOf l2 + 1 := ⟨_, rfl⟩
  have HN0 : Aside0 (SizeOf.sizeOf l0 < N) := ⟨by omega⟩
  have HN1 : Aside0 (SizeOf.sizeOf l1 < N) := ⟨by omega⟩
  have HN2 : Aside0 (SizeOf.sizeOf l2 < N) := ⟨by omega⟩
  have HR0 := Aside0.mk hr0
  have HR1 := Aside0.mk hr1
  have HR2 := Aside0.mk hr2
  have HC0 := Aside0.mk hc0
  have HC1 := Aside0.mk hc1
  have HC2 := Aside0.mk hc2
  have HG0 := Aside0.mk g0
  have HG1 := Aside0.mk g1
  have HG2 := Aside0.mk g2
  have HS0 := Aside0.mk s0
  have HS1 := Aside0.mk s1
  have HS2 := Aside0.mk s2
  have HM := Aside0.mk (Below.refl w.heap.size w)
  clear hN hr0 hr1 hr2 hc0 hc1 hc2 g0 g1 g2 s0 s1 s2 h
  by_cases q0 : r0 > 60
  case pos =>
    have b0 : decide (r0 > 60) = true := decide_eq_true q0
    go_enter Try.func4, Try.ntmps4
    go_wp2_with (first | (go_at_call_of 8 (Value.slice A0 l0.length c0); refine (orielref11_Size.calls k A0 c0 l0 60 r0 _ (Kd.C_below HR0.out (by repeat (first | (with_reducible first | exact HM.out | apply below_alloc | apply pw_below_drewN | apply below_drew1) | exact HM.out))) HC0.out HS0.out).mono ?_; rintro e w9 ⟨rfl, hb⟩; have n_ := Aside0.mk (below_step (by repeat (first | (with_reducible first | exact HM.out | apply below_alloc | apply pw_below_drewN | apply below_drew1) | exact HM.out)) hb); clear HM; have HM := n_; clear n_ hb) | (go_at_call_of 8 (Value.slice A1 l1.length c1); refine (orielref11_Size.calls k A1 c1 l1 60 r1 _ (Kd.C_below HR1.out (by repeat (first | (with_reducible first | exact HM.out | apply below_alloc | apply pw_below_drewN | apply below_drew1) | exact HM.out))) HC1.out HS1.out).mono ?_; rintro e w9 ⟨rfl, hb⟩; have n_ := Aside0.mk (below_step (by repeat (first | (with_reducible first | exact HM.out | apply below_alloc | apply pw_below_drewN | apply below_drew1) | exact HM.out)) hb); clear HM; have HM := n_; clear n_ hb) | (go_at_call_of 8 (Value.slice A2 l2.length c2); refine (orielref11_Size.calls k A2 c2 l2 60 r2 _ (Kd.C_below HR2.out (by repeat (first | (with_reducible first | exact HM.out | apply below_alloc | apply pw_below_drewN | apply below_drew1) | exact HM.out))) HC2.out HS2.out).mono ?_; rintro e w9 ⟨rfl, hb⟩; have n_ := Aside0.mk (below_step (by repeat (first | (with_reducible first | exact HM.out | apply below_alloc | apply pw_below_drewN | apply below_drew1) | exact HM.out)) hb); clear HM; have HM := n_; clear n_ hb) | (go_at_call 6; refine (alive _).mono ?_; rintro e w9 ⟨rfl, hb⟩; have n_ := Aside0.mk (below_step (by repeat (first | (with_reducible first | exact HM.out | apply below_alloc | apply pw_below_drewN | apply below_drew1) | exact HM.out)) hb); clear HM; have HM := n_; clear n_ hb))
    go_ret
    exact ⟨rfl, HM.out⟩
  have b0 : decide (r0 > 60) = false := decide_eq_false q0
  by_cases q1 : r1 > 60
  case pos =>
    have b1 : decide (r1 > 60) = true := decide_eq_true q1
    go_enter Try.func4, Try.ntmps4
    go_wp2_with (first | (go_at_call_of 8 (Value.slice A0 l0.length c0); refine (orielref11_Size.calls k A0 c0 l0 60 r0 _ (Kd.C_below HR0.out (by repeat (first | (with_reducible first | exact HM.out | apply below_alloc | apply pw_below_drewN | apply below_drew1) | exact HM.out))) HC0.out HS0.out).mono ?_; rintro e w9 ⟨rfl, hb⟩; have n_ := Aside0.mk (below_step (by repeat (first | (with_reducible first | exact HM.out | apply below_alloc | apply pw_below_drewN | apply below_drew1) | exact HM.out)) hb); clear HM; have HM := n_; clear n_ hb) | (go_at_call_of 8 (Value.slice A1 l1.length c1); refine (orielref11_Size.calls k A1 c1 l1 60 r1 _ (Kd.C_below HR1.out (by repeat (first | (with_reducible first | exact HM.out | apply below_alloc | apply pw_below_drewN | apply below_drew1) | exact HM.out))) HC1.out HS1.out).mono ?_; rintro e w9 ⟨rfl, hb⟩; have n_ := Aside0.mk (below_step (by repeat (first | (with_reducible first | exact HM.out | apply below_alloc | apply pw_below_drewN | apply below_drew1) | exact HM.out)) hb); clear HM; have HM := n_; clear n_ hb) | (go_at_call_of 8 (Value.slice A2 l2.length c2); refine (orielref11_Size.calls k A2 c2 l2 60 r2 _ (Kd.C_below HR2.out (by repeat (first | (with_reducible first | exact HM.out | apply below_alloc | apply pw_below_drewN | apply below_drew1) | exact HM.out))) HC2.out HS2.out).mono ?_; rintro e w9 ⟨rfl, hb⟩; have n_ := Aside0.mk (below_step (by repeat (first | (with_reducible first | exact HM.out | apply below_alloc | apply pw_below_drewN | apply below_drew1) | exact HM.out)) hb); clear HM; have HM := n_; clear n_ hb) | (go_at_call 6; refine (alive _).mono ?_; rintro e w9 ⟨rfl, hb⟩; have n_ := Aside0.mk (below_step (by repeat (first | (with_reducible first | exact HM.out | apply below_alloc | apply pw_below_drewN | apply below_drew1) | exact HM.out)) hb); clear HM; have HM := n_; clear n_ hb))
    go_ret
    exact ⟨rfl, HM.out⟩
  have b1 : decide (r1 > 60) = false := decide_eq_false q1
  by_cases q2 : r2 > 60
  case pos =>
    have b2 : decide (r2 > 60) = true := decide_eq_true q2
    go_enter Try.func4, Try.ntmps4
    go_wp2_with (first | (go_at_call_of 8 (Value.slice A0 l0.length c0); refine (orielref11_Size.calls k A0 c0 l0 60 r0 _ (Kd.C_below HR0.out (by repeat (first | (with_reducible first | exact HM.out | apply below_alloc | apply pw_below_drewN | apply below_drew1) | exact HM.out))) HC0.out HS0.out).mono ?_; rintro e w9 ⟨rfl, hb⟩; have n_ := Aside0.mk (below_step (by repeat (first | (with_reducible first | exact HM.out | apply below_alloc | apply pw_below_drewN | apply below_drew1) | exact HM.out)) hb); clear HM; have HM := n_; clear n_ hb) | (go_at_call_of 8 (Value.slice A1 l1.length c1); refine (orielref11_Size.calls k A1 c1 l1 60 r1 _ (Kd.C_below HR1.out (by repeat (first | (with_reducible first | exact HM.out | apply below_alloc | apply pw_below_drewN | apply below_drew1) | exact HM.out))) HC1.out HS1.out).mono ?_; rintro e w9 ⟨rfl, hb⟩; have n_ := Aside0.mk (below_step (by repeat (first | (with_reducible first | exact HM.out | apply below_alloc | apply pw_below_drewN | apply below_drew1) | exact HM.out)) hb); clear HM; have HM := n_; clear n_ hb) | (go_at_call_of 8 (Value.slice A2 l2.length c2); refine (orielref11_Size.calls k A2 c2 l2 60 r2 _ (Kd.C_below HR2.out (by repeat (first | (with_reducible first | exact HM.out | apply below_alloc | apply pw_below_drewN | apply below_drew1) | exact HM.out))) HC2.out HS2.out).mono ?_; rintro e w9 ⟨rfl, hb⟩; have n_ := Aside0.mk (below_step (by repeat (first | (with_reducible first | exact HM.out | apply below_alloc | apply pw_below_drewN | apply below_drew1) | exact HM.out)) hb); clear HM; have HM := n_; clear n_ hb) | (go_at_call 6; refine (alive _).mono ?_; rintro e w9 ⟨rfl, hb⟩; have n_ := Aside0.mk (below_step (by repeat (first | (with_reducible first | exact HM.out | apply below_alloc | apply pw_below_drewN | apply below_drew1) | exact HM.out)) hb); clear HM; have HM := n_; clear n_ hb))
    go_ret
    exact ⟨rfl, HM.out⟩
  have b2 : decide (r2 > 60) = false := decide_eq_false q2
  go_enter Try.func4, Try.ntmps4
  go_upto_region 3 with (first | (go_at_call_of 8 (Value.slice A0 l0.length c0); refine (orielref11_Size.calls k A0 c0 l0 60 r0 _ (Kd.C_below HR0.out (by repeat (first | (with_reducible first | exact HM.out | apply below_alloc | apply pw_below_drewN | apply below_drew1) | exact HM.out))) HC0.out HS0.out).mono ?_; rintro e w9 ⟨rfl, hb⟩; have n_ := Aside0.mk (below_step (by repeat (first | (with_reducible first | exact HM.out | apply below_alloc | apply pw_below_drewN | apply below_drew1) | exact HM.out)) hb); clear HM; have HM := n_; clear n_ hb) | (go_at_call_of 8 (Value.slice A1 l1.length c1); refine (orielref11_Size.calls k A1 c1 l1 60 r1 _ (Kd.C_below HR1.out (by repeat (first | (with_reducible first | exact HM.out | apply below_alloc | apply pw_below_drewN | apply below_drew1) | exact HM.out))) HC1.out HS1.out).mono ?_; rintro e w9 ⟨rfl, hb⟩; have n_ := Aside0.mk (below_step (by repeat (first | (with_reducible first | exact HM.out | apply below_alloc | apply pw_below_drewN | apply below_drew1) | exact HM.out)) hb); clear HM; have HM := n_; clear n_ hb) | (go_at_call_of 8 (Value.slice A2 l2.length c2); refine (orielref11_Size.calls k A2 c2 l2 60 r2 _ (Kd.C_below HR2.out (by repeat (first | (with_reducible first | exact HM.out | apply below_alloc | apply pw_below_drewN | apply below_drew1) | exact HM.out))) HC2.out HS2.out).mono ?_; rintro e w9 ⟨rfl, hb⟩; have n_ := Aside0.mk (below_step (by repeat (first | (with_reducible first | exact HM.out | apply below_alloc | apply pw_below_drewN | apply below_drew1) | exact HM.out)) hb); clear HM; have HM := n_; clear n_ hb) | (go_at_call 6; refine (alive _).mono ?_; rintro e w9 ⟨rfl, hb⟩; have n_ := Aside0.mk (below_step (by repeat (first | (with_reducible first | exact HM.out | apply below_alloc | apply pw_below_drewN | apply below_drew1) | exact HM.out)) hb); clear HM; have HM := n_; clear n_ hb))
  go_upto_region 4 with (first | (go_at_call_of 9 (Value.slice A0 l0.length c0); refine (made_ N l0 HN0.out none [] A0 c0 _ (Kd.C_below HR0.out (by repeat (first | (with_reducible first | exact HM.out | apply below_alloc | apply pw_below_drewN | apply below_drew1) | exact HM.out))) HG0.out .nil).mono ?_; rintro e w9 ⟨p0, rfl, he, hb⟩; rw [List.nil_append] at he; have E0 := Aside0.mk he; have n_ := Aside0.mk (below_step (by repeat (first | (with_reducible first | exact HM.out | apply below_alloc | apply pw_below_drewN | apply below_drew1) | exact HM.out)) hb); clear HM; have HM := n_; clear n_ hb; clear he) | (go_at_call_of 9 (Value.slice A1 l1.length c1); refine (made_ N l1 HN1.out none [] A1 c1 _ (Kd.C_below HR1.out (by repeat (first | (with_reducible first | exact HM.out | apply below_alloc | apply pw_below_drewN | apply below_drew1) | exact HM.out))) HG1.out .nil).mono ?_; rintro e w9 ⟨p1, rfl, he, hb⟩; rw [List.nil_append] at he; have E1 := Aside0.mk he; have E0_ := Aside0.mk (EnvAt.under E0.out hb); clear E0; have E0 := E0_; clear E0_; have n_ := Aside0.mk (below_step (by repeat (first | (with_reducible first | exact HM.out | apply below_alloc | apply pw_below_drewN | apply below_drew1) | exact HM.out)) hb); clear HM; have HM := n_; clear n_ hb; clear he) | (go_at_call_of 9 (Value.slice A2 l2.length c2); refine (made_ N l2 HN2.out none [] A2 c2 _ (Kd.C_below HR2.out (by repeat (first | (with_reducible first | exact HM.out | apply below_alloc | apply pw_below_drewN | apply below_drew1) | exact HM.out))) HG2.out .nil).mono ?_; rintro e w9 ⟨p2, rfl, he, hb⟩; rw [List.nil_append] at he; have E2 := Aside0.mk he; have E0_ := Aside0.mk (EnvAt.under E0.out hb); clear E0; have E0 := E0_; clear E0_; have E1_ := Aside0.mk (EnvAt.under E1.out hb); clear E1; have E1 := E1_; clear E1_; have n_ := Aside0.mk (below_step (by repeat (first | (with_reducible first | exact HM.out | apply below_alloc | apply pw_below_drewN | apply below_drew1) | exact HM.out)) hb); clear HM; have HM := n_; clear n_ hb; clear he))
  obtain ⟨b01, e01⟩ : ∃ b, sameN N l0 l1 = b := ⟨_, rfl⟩
  obtain ⟨b12, e12⟩ : ∃ b, sameN N l1 l2 = b := ⟨_, rfl⟩
  obtain ⟨b02, e02⟩ : ∃ b, sameN N l0 l2 = b := ⟨_, rfl⟩
  have HT : b01 = true → b12 = true → b02 = true := fun h1 h2 => by rw [← e02]; exact sameN_trans N _ _ _ (e01.trans h1) (e12.trans h2)
  have SX : ∀ (i j : List S26) (p q : Option Addr) (b : Bool), sameN N i j = b → SizeOf.sizeOf i < N → GoodL i → GoodL j → ∀ wz, EnvAt wz p i → EnvAt wz q j → Aside0 (∀ w2, Below wz.heap.size wz w2 → Calls Try.prog 10 #[.pointer p, .pointer q] w2 fun e w' => e = .returned (.bool b) ∧ Below w2.heap.size w2 w') :=
    fun i j p q b he hi gi gj wz h1 h2 => ⟨fun w2 hb => he ▸ same_ N i j p q w2 hi gi gj (h1.under hb) (h2.under hb)⟩
  have S01 := SX l0 l1 p0 p1 b01 e01 HN0.out HG0.out HG1.out _ E0.out E1.out
  have S10 := SX l1 l0 p1 p0 b01 ((sameN_symm N l1 l0).trans e01) HN1.out HG1.out HG0.out _ E1.out E0.out
  have S00 := SX l0 l0 p0 p0 true (sameN_refl N l0) HN0.out HG0.out HG0.out _ E0.out E0.out
  have S12 := SX l1 l2 p1 p2 b12 e12 HN1.out HG1.out HG2.out _ E1.out E2.out
  have S02 := SX l0 l2 p0 p2 b02 e02 HN0.out HG0.out HG2.out _ E0.out E2.out
  have SR : Aside0 (∀ w2, Below w.heap.size w w2 → Calls Try.prog 11 #[.slice A0 l0.length c0, .slice A1 l1.length c1] w2 fun e w' => e = .returned (.bool b01) ∧ Below w2.heap.size w2 w') :=
    ⟨fun w2 hb => e01 ▸ refsame_ N l0 l1 A0 A1 c0 c1 w2 HN0.out HG0.out HG1.out (Kd.C_below HR0.out hb) HC0.out (Kd.C_below HR1.out hb) HC1.out⟩
  have HW := HM
  clear HM
  have HM := Aside0.mk (below_refl_of HW.out)
  cases b01 <;> cases b12 <;> cases b02 <;> first | exact absurd (HT rfl rfl) (by decide) | skip
  all_goals (clear HT e01 e12 e02)
  all_goals (go_wp2_with (first | (go_at_call 10; with_reducible refine (S01.out _ (by repeat (first | (with_reducible first | exact HM.out | apply below_alloc | apply pw_below_drewN | apply below_drew1) | exact HM.out))).mono ?_; rintro e w9 ⟨rfl, hb⟩; have n_ := Aside0.mk (below_step (by repeat (first | (with_reducible first | exact HM.out | apply below_alloc | apply pw_below_drewN | apply below_drew1) | exact HM.out)) hb); clear HM; have HM := n_; clear n_ hb) | (go_at_call 10; with_reducible refine (S10.out _ (by repeat (first | (with_reducible first | exact HM.out | apply below_alloc | apply pw_below_drewN | apply below_drew1) | exact HM.out))).mono ?_; rintro e w9 ⟨rfl, hb⟩; have n_ := Aside0.mk (below_step (by repeat (first | (with_reducible first | exact HM.out | apply below_alloc | apply pw_below_drewN | apply below_drew1) | exact HM.out)) hb); clear HM; have HM := n_; clear n_ hb) | (go_at_call 10; with_reducible refine (S00.out _ (by repeat (first | (with_reducible first | exact HM.out | apply below_alloc | apply pw_below_drewN | apply below_drew1) | exact HM.out))).mono ?_; rintro e w9 ⟨rfl, hb⟩; have n_ := Aside0.mk (below_step (by repeat (first | (with_reducible first | exact HM.out | apply below_alloc | apply pw_below_drewN | apply below_drew1) | exact HM.out)) hb); clear HM; have HM := n_; clear n_ hb) | (go_at_call 10; with_reducible refine (S12.out _ (by repeat (first | (with_reducible first | exact HM.out | apply below_alloc | apply pw_below_drewN | apply below_drew1) | exact HM.out))).mono ?_; rintro e w9 ⟨rfl, hb⟩; have n_ := Aside0.mk (below_step (by repeat (first | (with_reducible first | exact HM.out | apply below_alloc | apply pw_below_drewN | apply below_drew1) | exact HM.out)) hb); clear HM; have HM := n_; clear n_ hb) | (go_at_call 10; with_reducible refine (S02.out _ (by repeat (first | (with_reducible first | exact HM.out | apply below_alloc | apply pw_below_drewN | apply below_drew1) | exact HM.out))).mono ?_; rintro e w9 ⟨rfl, hb⟩; have n_ := Aside0.mk (below_step (by repeat (first | (with_reducible first | exact HM.out | apply below_alloc | apply pw_below_drewN | apply below_drew1) | exact HM.out)) hb); clear HM; have HM := n_; clear n_ hb) | (go_at_call 11; refine (SR.out _ (below_step HW.out (by repeat (first | (with_reducible first | exact HM.out | apply below_alloc | apply pw_below_drewN | apply below_drew1) | exact HM.out)))).mono ?_; rintro e w9 ⟨rfl, hb⟩; have n_ := Aside0.mk (below_step (by repeat (first | (with_reducible first | exact HM.out | apply below_alloc | apply pw_below_drewN | apply below_drew1) | exact HM.out)) hb); clear HM; have HM := n_; clear n_ hb) | (go_at_call 6; refine (alive _).mono ?_; rintro e w9 ⟨rfl, hb⟩; have n_ := Aside0.mk (below_step (by repeat (first | (with_reducible first | exact HM.out | apply below_alloc | apply pw_below_drewN | apply below_drew1) | exact HM.out)) hb); clear HM; have HM := n_; clear n_ hb)))
  all_goals go_ret
  all_goals exact ⟨rfl, below_step HW.out HM.out⟩
end Go.Proofs.Ytkdfbfhajojdeaa.Same
