/- The law EnvOpens walked: what names are bound to behind an open. Conditions: as the theorems say. -/
import Derived.Test.YtkdfbfhajojdeaaEnvS
import Derived.Test.YtkdfbfhajojdeaaPOPx2
import Derived.Test.YtkdfbfhajojdeaaPOPx5
namespace Go.Proofs.Ytkdfbfhajojdeaa.Env
open Go Go.RowKit Go.ChangeMaps Go.Proofs.YtkdfbfhajojdeaaW.PrintWords Go.Proofs.YtkdfbfhajojdeaaW.PrintLast Go.Proofs.YtkdfbfhajojdeaaW.PrintMore Go.Proofs.Ytkdfbfhajojdeaa.POP
set_option linter.unusedVariables false
set_option linter.unusedSimpArgs false
/-! ### what a key is bound to -/
theorem find_selC (k : S28) : ∀ (d c : Ch), find k (selC decV d c) = if d.any (fun y => keyEq y.2.k k) = true then none else find k c
  | d, [] => by
    rw [selC]
    by_cases h : d.any (fun y => keyEq y.2.k k) = true
    · rw [if_pos h]; rfl
    · rw [if_neg h]
  | d, (g, e) :: r => by
    have ih := find_selC k (d ++ [(g, e)]) r
    rw [List.any_append, List.any_cons, List.any_nil, Bool.or_false] at ih
    rw [selC]
    by_cases q : keyEq e.k k = true
    · have ek := (keyEq_iff _ _).mp q
      by_cases h : d.any (fun y => keyEq y.2.k k) = true
      · have hd : ¬ decV d (g, e) = true := by unfold decV; show ¬ (!(d.any fun z => keyEq z.2.k e.k)) = true; rw [ek, h]; decide
        rw [if_pos h, if_neg hd, ih, if_pos (by rw [h]; rfl)]
      · have hd : decV d (g, e) = true := by unfold decV; show (!(d.any fun z => keyEq z.2.k e.k)) = true; rw [ek]; simpa using h
        rw [if_neg h, if_pos hd, find_hit q, find_hit q]
    · have q2 : keyEq e.k k = false := by simpa using q
      rw [q2, Bool.or_false] at ih
      rw [find_go q2]
      by_cases c : decV d (g, e) = true
      · rw [if_pos c, find_go q2, ih]
      · rw [if_neg c, ih]
theorem find_vis (k : S28) (c : Ch) : find k (visC c) = find k c := (find_selC k [] c).trans (if_neg (fun h => by cases h))
theorem find_app (k : S28) : ∀ (c d : Ch), find k (c ++ d) = (find k c).orElse (fun _ => find k d)
  | [], d => rfl
  | (g, e) :: r, d => by
    by_cases q : keyEq e.k k = true
    · rw [List.cons_append, find_hit q, find_hit q]; rfl
    · have q2 : keyEq e.k k = false := by simpa using q
      rw [List.cons_append, find_go q2, find_go q2, find_app k r d]
theorem find_thr (k : S28) (via : Int) : ∀ (l2 c : Ch), l2.map (·.2) = c.map (fun x => x.2.thr via) → find k l2 = (find k c).map (Nd.thr via)
  | [], [], _ => rfl
  | [], _ :: _, h => by cases h
  | _ :: _, [], h => by cases h
  | (g, e) :: r, (g', e') :: r', h => by
    rw [List.map_cons, List.map_cons] at h
    injection h with h1 h2
    have h1' : e = e'.thr via := h1
    subst h1'
    by_cases q : keyEq e'.k k = true
    · rw [find_hit (show keyEq (e'.thr via).k k = true from q), find_hit q]; rfl
    · have q2 : keyEq e'.k k = false := by simpa using q
      rw [find_go (show keyEq (e'.thr via).k k = false from q2), find_go q2, find_thr k via r r' h2]
def nd0 : Nd := ⟨⟨0, ⟨#[]⟩⟩, 0, 0, none, none⟩
theorem itemV_get (o : Option Nd) : itemV o = .agg #[.int .i64 (o.getD nd0).dc, .int .i64 (o.getD nd0).vi, .pointer (o.getD nd0).pa, .pointer (o.getD nd0).pr] := by cases o <;> rfl
/-- What the law asks of any key. -/
theorem open_find (k : S28) (via : Int) (l2 lp l0 : Ch) (h : l2.map (·.2) = (visC lp).map (fun x => x.2.thr via)) :
    ((find k lp).isSome = true → (find k (l2 ++ l0)).isSome = true ∧ (find k (l2 ++ l0)).getD nd0 = ((find k lp).getD nd0).thr via) ∧ ((find k lp).isSome = false → find k (l2 ++ l0) = find k l0) := by
  rw [find_app, find_thr k via l2 (visC lp) h, find_vis]
  cases find k lp with
  | none => exact ⟨fun h => (by cases h), fun _ => rfl⟩
  | some e => exact ⟨fun _ => ⟨rfl, rfl⟩, fun h => (by cases h)⟩
theorem upto_app (pb : Option Addr) (d : Ch) : ∀ (c : Ch), (∀ x ∈ c, ¬ some (⟨x.1, 0, none⟩ : Addr) = pb) → upto pb (c ++ d) = c ++ upto pb d
  | [], _ => rfl
  | x :: r, h => by
    rw [List.cons_append, upto_go (h x List.mem_cons_self), upto_app pb d r (fun y hy => h y (List.mem_cons_of_mem _ hy))]
    rfl
theorem upto_own : ∀ (c : Ch), upto (ptr c) c = []
  | [] => rfl
  | (g, e) :: r => upto_hit rfl
theorem At.app {w : World} : ∀ {c d : Ch}, At w (c ++ d) → At w d
  | [], _, h => h
  | _ :: r, d, h => At.app (c := r) h.2
/-- A binding through another open. -/
def thrS (via : Int) (x : S26) : S26 := ⟨x.f0, x.f1, x.f2, via, x.f4, x.f5⟩
def opn (l m : List S26) (via : Int) : List S26 := l ++ (visS m).map (thrS via)
theorem AlV.thr {w : World} {c : Ch} {l : List S26} (via : Int) (h : AlV w c l) : ∀ {l2 : Ch}, l2.map (·.2) = c.map (fun x => x.2.thr via) → AlV w l2 (l.map (thrS via)) := by
  induction h with
  | nil =>
    intro l2 h
    cases l2 with
    | nil => exact .nil
    | cons _ _ => cases h
  | cons a b v e1 e2 hr ih =>
    intro l2 h
    cases l2 with
    | nil => cases h
    | cons y r2 =>
      obtain ⟨g2, n2⟩ := y
      rw [List.map_cons, List.map_cons] at h
      injection h with h1 h2
      have h1' : n2 = Nd.thr via _ := h1
      subst h1'
      exact .cons a b rfl e1 e2 (ih h2)
theorem goodT_thr {x : S26} (via : Int) (h : GoodT x) : GoodT (thrS via x) := by
  cases h with
  | mk _ a b c d e => exact .mk _ a b c d e
theorem visS_len (l : List S26) : (visS l).length ≤ l.length := by
  unfold visS
  rw [List.length_reverse]
  have h := selS_len [] l.reverse
  rw [List.length_reverse] at h
  exact h
theorem goodL_opn {l m : List S26} (via : Int) (hl : GoodL l) (hm : GoodL m) (hn : l.length + m.length ≤ 1599289640400) : GoodL (opn l m via) := by
  refine ⟨?_, fun x hx => ?_⟩
  · unfold opn
    rw [List.length_append, List.length_map]
    have := visS_len m
    omega
  · rcases List.mem_append.mp hx with h | h
    · exact hl.2 x h
    · obtain ⟨y, hy, rfl⟩ := List.mem_map.mp h
      exact goodT_thr via (hm.2 y (visS_mem hy))
theorem neq33 (w : World) (p : Option Addr) : (binOp .neq 33 (.pointer p) (.pointer p)).run Try.prog w = .ok (.bool false) w := by
  simp only [binOp]
  simp [Op.equal, Op.maxDepth, eq33 9999 w p]
theorem open_ev (l m : List S26) (via : Int) (hm : m.length ≤ 1599289640400) (hn : l.length + m.length ≤ 1599289640400) : Ev (fun n => orielref11_Open.f n l m via) (opn l m via) := by
  have loop : ∀ (r pre out : List S26), visS m = pre ++ r → out = l ++ pre.map (thrS via) → Ev (fun n => orielref11_Open.l0 n via out (visS m) (pre.length : Int)) (out ++ r.map (thrS via)) := by
    intro r
    induction r with
    | nil =>
      intro pre out he ho
      have q : ¬ ((pre.length : Int) < ((visS m).length : Int)) := by rw [he]; simp
      rw [List.map_nil, List.append_nil]
      exact Ev.step (f := fun _ => some out) (fun n => by rw [orielref11_Open.l0, if_neg q]) (Ev.now _)
    | cons x r ih =>
      intro pre out he ho
      have hv := visS_len m
      have hlen : (visS m).length = pre.length + 1 + r.length := by rw [he]; simp only [List.length_append, List.length_cons]; omega
      have q1 : (pre.length : Int) < ((visS m).length : Int) := by omega
      have q2 : (0 : Int) ≤ (pre.length : Int) := by omega
      have ol : out.length < 1599289640401 := by rw [ho, List.length_append, List.length_map]; omega
      have hr : rd_T26 (visS m) (pre.length : Int) = x := by
        unfold rd_T26
        rw [he, Int.toNat_natCast, List.getD_eq_getElem?_getD, List.getElem?_append_right (Nat.le_refl _), Nat.sub_self]
        rfl
      have ew : wrap64 ((pre.length : Int) + 1) = ((pre ++ [x]).length : Int) := by
        rw [wid (by omega) (by omega), List.length_append]
        rfl
      have h := ih (pre ++ [x]) (out ++ [thrS via x]) (by rw [he, List.append_assoc]; rfl) (by rw [ho, List.map_append, List.append_assoc]; rfl)
      rw [List.append_assoc] at h
      exact Ev.step (fun n => by rw [orielref11_Open.l0, if_pos q1, if_pos q2, if_pos ol, hr, ew]; rfl) h
  have hv := vis_ev m hm m [] [] rfl (Nat.le_refl _)
  rw [List.nil_append, ← visS_eq] at hv
  have h := loop (visS m) [] l rfl (by rw [List.map_nil, List.append_nil])
  have hl : l.length < 1599289640401 := by omega
  refine Ev.congr (fun n => ?_) (Ev.bind (f := fun n t => orielref11_Open.l0 n via l t 0) hv h)
  show orielref11_Open.f n l m via = _
  rw [orielref11_Open.f, Option.bind_some, List.nil_append, if_pos (by simpa using hl)]
  rfl
theorem opn_ (l m : List S26) (via : Int) (A B : Option Addr) (c d : Nat) (w : World) (hA : Kd.C k26 w A l.length l) (hc : l.length ≤ c) (hB : Kd.C k26 w B m.length m) (hd : m.length ≤ d) (hm : m.length ≤ 1599289640400) (hn : l.length + m.length ≤ 1599289640400) :
    Calls Try.prog 17 #[.slice A l.length c, .slice B m.length d, .int .i64 via] w fun e w' => ∃ A' c', e = .returned (.slice A' (opn l m via).length c') ∧ (opn l m via).length ≤ c' ∧ Kd.C k26 w' A' (opn l m via).length (opn l m via) ∧ Below w.heap.size w w' := by
  obtain ⟨k, hk⟩ := (open_ev l m via hm hn).rounds
  refine (orielref11_Open.calls k (fun k_ => k_ < w.heap.size) A c l (fun k_ => k_ < w.heap.size) B d m via (opn l m via) w (Kd.V_mk hc (Kd.C_F k26_heap hA)) (Kd.V_mk hd (Kd.C_F k26_heap hB)) hk).mono ?_
  rintro e w' ⟨v, rfl, hN, hB⟩
  obtain ⟨A', c', rfl, h1, h2⟩ := Kd.N_reads hN
  exact ⟨A', c', rfl, h1, h2, hB⟩
set_option maxHeartbeats 8000000 in
set_option maxRecDepth 100000 in
theorem few_ (k : Nat) (A : Option Addr) (c : Nat) (l : List S26) (r : Int) (w : World) (hA : Kd.C k26 w A l.length l) (hc : l.length ≤ c) (h : orielref11_Size.f k l 120 = some r) :
    Calls Try.prog 12 #[.slice A l.length c] w fun e w' => e = .returned (.bool (decide (r ≤ 120))) ∧ Below w.heap.size w w' := by
  have HA := Aside0.mk hA
  have HC := Aside0.mk hc
  have HS := Aside0.mk h
  have HM := Aside0.mk (Below.refl w.heap.size w)
  clear hA hc h
  go_enter Try.func12, Try.ntmps12
  go_wp2_with (first | (go_at_call 8; refine (orielref11_Size.calls k A c l 120 r _ (Kd.C_below HA.out (by repeat (first | (with_reducible first | exact HM.out | apply below_alloc | apply pw_below_drewN | apply below_drew1) | exact HM.out))) HC.out HS.out).mono ?_; rintro e w9 ⟨rfl, hb⟩; have n_ := Aside0.mk (below_step (by repeat (first | (with_reducible first | exact HM.out | apply below_alloc | apply pw_below_drewN | apply below_drew1) | exact HM.out)) hb); clear HM; have HM := n_; clear n_ hb))
  go_ret
  exact ⟨rfl, HM.out⟩
end Go.Proofs.Ytkdfbfhajojdeaa.Env
namespace Go.Proofs.Ytkdfbfhajojdeaa.Opens
open Go Go.RowKit Go.ChangeMaps Go.Proofs.YtkdfbfhajojdeaaW.PrintWords Go.Proofs.YtkdfbfhajojdeaaW.PrintLast Go.Proofs.YtkdfbfhajojdeaaW.PrintMore Go.Proofs.Ytkdfbfhajojdeaa.POP Go.Proofs.Ytkdfbfhajojdeaa.Env
attribute [local go_sem high] eqA28
set_option linter.unusedVariables false
set_option linter.unusedSimpArgs false
theorem below_refl_of {n : Nat} {w w' : World} (_ : Below n w w') : Below w'.heap.size w' w' := Below.refl _ _
theorem goodK (l : List S26) (g : GoodL l) {w : World} {c : Ch} (h : AlV w c l.reverse) : ∀ x ∈ c, wfK x.2.k := Al.wf h.al (fun x hx => g.2 x (List.mem_reverse.mp hx))
noncomputable def lawF (k : Nat) (l0 l1 : List S26) (via : Int) : Option Bool :=
  (orielref11_Size.f k l0 120).bind fun _ => (orielref11_Size.f k l1 120).bind fun _ =>
    haveI := Classical.propDecidable (GoodL l0 ∧ GoodL l1 ∧ l0.length + l1.length ≤ 1599289640000)
    if GoodL l0 ∧ GoodL l1 ∧ l0.length + l1.length ≤ 1599289640000 then some true else none
theorem lawF_open {k : Nat} {l0 l1 : List S26} {via : Int} {r : Bool} (h : lawF k l0 l1 via = some r) : r = true ∧ GoodL l0 ∧ GoodL l1 ∧ l0.length + l1.length ≤ 1599289640000 ∧ ∃ r0 r1, orielref11_Size.f k l0 120 = some r0 ∧ orielref11_Size.f k l1 120 = some r1 := by
  unfold lawF at h
  obtain ⟨r0, h0, h⟩ := Option.bind_eq_some_iff.mp h
  obtain ⟨r1, h1, h⟩ := Option.bind_eq_some_iff.mp h
  by_cases g : GoodL l0 ∧ GoodL l1 ∧ l0.length + l1.length ≤ 1599289640000
  · rw [if_pos g] at h
    exact ⟨(Option.some.inj h).symm, g.1, g.2.1, g.2.2, r0, r1, h0, h1⟩
  · rw [if_neg g] at h
    cases h
set_option maxHeartbeats 64000000 in
set_option maxRecDepth 100000 in
theorem law (k : Nat) (A0 : Option Addr) (c0 : Nat) (l0 : List S26) (A1 : Option Addr) (c1 : Nat) (l1 : List S26) (via : Int) (r : Bool) (w : World) (hr0 : Kd.C k26 w A0 l0.length l0) (hc0 : l0.length ≤ c0) (hr1 : Kd.C k26 w A1 l1.length l1) (hc1 : l1.length ≤ c1) (h : lawF k l0 l1 via = some r) :
    Calls Try.prog 5 #[.slice A0 l0.length c0, .slice A1 l1.length c1, .int .i64 via] w fun e w' => e = .returned (.bool r) ∧ Below w.heap.size w w' := by
  obtain ⟨rfl, g0, g1, hlen, r0, r1, s0, s1⟩ := lawF_open h
  have HR0 := Aside0.mk hr0
  have HR1 := Aside0.mk hr1
  have HC0 := Aside0.mk hc0
  have HC1 := Aside0.mk hc1
  have HG0 := Aside0.mk g0
  have HG1 := Aside0.mk g1
  have HLN := Aside0.mk hlen
  have HS0 := Aside0.mk s0
  have HS1 := Aside0.mk s1
  have HM := Aside0.mk (Below.refl w.heap.size w)
  clear hr0 hr1 hc0 hc1 g0 g1 hlen s0 s1 h
  by_cases q0 : r0 ≤ 120
  case neg =>
    have b0 : decide (r0 ≤ 120) = false := decide_eq_false q0
    go_enter Try.func5, Try.ntmps5
    go_wp2_with (first | (go_at_call_of 12 (Value.slice A0 l0.length c0); refine (few_ k A0 c0 l0 r0 _ (Kd.C_below HR0.out (by repeat (first | (with_reducible first | exact HM.out | apply below_alloc | apply pw_below_drewN | apply below_drew1) | exact HM.out))) HC0.out HS0.out).mono ?_; rintro e w9 ⟨rfl, hb⟩; have n_ := Aside0.mk (below_step (by repeat (first | (with_reducible first | exact HM.out | apply below_alloc | apply pw_below_drewN | apply below_drew1) | exact HM.out)) hb); clear HM; have HM := n_; clear n_ hb) | (go_at_call_of 12 (Value.slice A1 l1.length c1); refine (few_ k A1 c1 l1 r1 _ (Kd.C_below HR1.out (by repeat (first | (with_reducible first | exact HM.out | apply below_alloc | apply pw_below_drewN | apply below_drew1) | exact HM.out))) HC1.out HS1.out).mono ?_; rintro e w9 ⟨rfl, hb⟩; have n_ := Aside0.mk (below_step (by repeat (first | (with_reducible first | exact HM.out | apply below_alloc | apply pw_below_drewN | apply below_drew1) | exact HM.out)) hb); clear HM; have HM := n_; clear n_ hb) | (go_at_call 6; refine (alive _).mono ?_; rintro e w9 ⟨rfl, hb⟩; have n_ := Aside0.mk (below_step (by repeat (first | (with_reducible first | exact HM.out | apply below_alloc | apply pw_below_drewN | apply below_drew1) | exact HM.out)) hb); clear HM; have HM := n_; clear n_ hb))
    go_ret
    exact ⟨rfl, HM.out⟩
  have b0 : decide (r0 ≤ 120) = true := decide_eq_true q0
  by_cases q1 : r1 ≤ 120
  case neg =>
    have b1 : decide (r1 ≤ 120) = false := decide_eq_false q1
    go_enter Try.func5, Try.ntmps5
    go_wp2_with (first | (go_at_call_of 12 (Value.slice A0 l0.length c0); refine (few_ k A0 c0 l0 r0 _ (Kd.C_below HR0.out (by repeat (first | (with_reducible first | exact HM.out | apply below_alloc | apply pw_below_drewN | apply below_drew1) | exact HM.out))) HC0.out HS0.out).mono ?_; rintro e w9 ⟨rfl, hb⟩; have n_ := Aside0.mk (below_step (by repeat (first | (with_reducible first | exact HM.out | apply below_alloc | apply pw_below_drewN | apply below_drew1) | exact HM.out)) hb); clear HM; have HM := n_; clear n_ hb) | (go_at_call_of 12 (Value.slice A1 l1.length c1); refine (few_ k A1 c1 l1 r1 _ (Kd.C_below HR1.out (by repeat (first | (with_reducible first | exact HM.out | apply below_alloc | apply pw_below_drewN | apply below_drew1) | exact HM.out))) HC1.out HS1.out).mono ?_; rintro e w9 ⟨rfl, hb⟩; have n_ := Aside0.mk (below_step (by repeat (first | (with_reducible first | exact HM.out | apply below_alloc | apply pw_below_drewN | apply below_drew1) | exact HM.out)) hb); clear HM; have HM := n_; clear n_ hb) | (go_at_call 6; refine (alive _).mono ?_; rintro e w9 ⟨rfl, hb⟩; have n_ := Aside0.mk (below_step (by repeat (first | (with_reducible first | exact HM.out | apply below_alloc | apply pw_below_drewN | apply below_drew1) | exact HM.out)) hb); clear HM; have HM := n_; clear n_ hb))
    go_ret
    exact ⟨rfl, HM.out⟩
  have b1 : decide (r1 ≤ 120) = true := decide_eq_true q1
  go_enter Try.func5, Try.ntmps5
  go_upto_region 3 with (first | (go_at_call_of 12 (Value.slice A0 l0.length c0); refine (few_ k A0 c0 l0 r0 _ (Kd.C_below HR0.out (by repeat (first | (with_reducible first | exact HM.out | apply below_alloc | apply pw_below_drewN | apply below_drew1) | exact HM.out))) HC0.out HS0.out).mono ?_; rintro e w9 ⟨rfl, hb⟩; have n_ := Aside0.mk (below_step (by repeat (first | (with_reducible first | exact HM.out | apply below_alloc | apply pw_below_drewN | apply below_drew1) | exact HM.out)) hb); clear HM; have HM := n_; clear n_ hb) | (go_at_call_of 12 (Value.slice A1 l1.length c1); refine (few_ k A1 c1 l1 r1 _ (Kd.C_below HR1.out (by repeat (first | (with_reducible first | exact HM.out | apply below_alloc | apply pw_below_drewN | apply below_drew1) | exact HM.out))) HC1.out HS1.out).mono ?_; rintro e w9 ⟨rfl, hb⟩; have n_ := Aside0.mk (below_step (by repeat (first | (with_reducible first | exact HM.out | apply below_alloc | apply pw_below_drewN | apply below_drew1) | exact HM.out)) hb); clear HM; have HM := n_; clear n_ hb))
  go_upto_region 4 with (first | (go_at_call_of 9 (Value.slice A0 l0.length c0); refine (made_ (SizeOf.sizeOf l0 + 1) l0 (Nat.lt_succ_self _) none [] A0 c0 _ (Kd.C_below HR0.out (by repeat (first | (with_reducible first | exact HM.out | apply below_alloc | apply pw_below_drewN | apply below_drew1) | exact HM.out))) HG0.out .nil).mono ?_; rintro e w9 ⟨p0, rfl, he, hb⟩; rw [List.nil_append] at he; have E0 := Aside0.mk he; clear he; have n_ := Aside0.mk (below_step (by repeat (first | (with_reducible first | exact HM.out | apply below_alloc | apply pw_below_drewN | apply below_drew1) | exact HM.out)) hb); clear HM; have HM := n_; clear n_ hb) | (go_at_call_of 9 (Value.slice A1 l1.length c1); refine (made_ (SizeOf.sizeOf l1 + 1) l1 (Nat.lt_succ_self _) none [] A1 c1 _ (Kd.C_below HR1.out (by repeat (first | (with_reducible first | exact HM.out | apply below_alloc | apply pw_below_drewN | apply below_drew1) | exact HM.out))) HG1.out .nil).mono ?_; rintro e w9 ⟨p1, rfl, he, hb⟩; rw [List.nil_append] at he; have E1 := Aside0.mk he; have E0_ := Aside0.mk (EnvAt.under E0.out hb); clear E0; have E0 := E0_; clear E0_ he; have n_ := Aside0.mk (below_step (by repeat (first | (with_reducible first | exact HM.out | apply below_alloc | apply pw_below_drewN | apply below_drew1) | exact HM.out)) hb); clear HM; have HM := n_; clear n_ hb))
  obtain ⟨ca, rfl, hca, hla⟩ := E0.out.chainV
  obtain ⟨cp, rfl, hcp, hlp⟩ := E1.out.chainV
  have CA := Aside0.mk hca
  have LA := Aside0.mk hla
  have CP := Aside0.mk hcp
  have LP := Aside0.mk hlp
  have WA := Aside0.mk (goodK l0 HG0.out hla)
  have WP := Aside0.mk (goodK l1 HG1.out hlp)
  have NA : Aside0 (ca.length = l0.length) := ⟨by rw [hla.al.len, List.length_reverse]⟩
  have NP : Aside0 (cp.length = l1.length) := ⟨by rw [hlp.al.len, List.length_reverse]⟩
  clear hca hla hcp hlp E0 E1
  go_upto_region 5 with (first | (go_at_call 13; refine (open_ ca cp via _ CA.out CP.out WP.out (by have h1_ := NP.out; have h2_ := HG1.out.1; omega)).mono ?_; rintro e w9 ⟨l2, rfl, hat, hmp, hnew, hb⟩; have AO := Aside0.mk hat; have MO := Aside0.mk hmp; have NW := Aside0.mk hnew; have n1_ := Aside0.mk hb; have n_ := Aside0.mk (below_step (by repeat (first | (with_reducible first | exact HM.out | apply below_alloc | apply pw_below_drewN | apply below_drew1) | exact HM.out)) hb); clear HM; have HM := n_; clear n_ hb))
  have LA2 := Aside0.mk (LA.out.under n1_.out)
  have LP2 := Aside0.mk (LP.out.under n1_.out)
  have CA2 := Aside0.mk (At.below CA.out n1_.out)
  have CP2 := Aside0.mk (At.below CP.out n1_.out)
  have VP2 : Aside0 (AlV _ (visC cp) (visS l1).reverse) := ⟨by have h_ := LP2.out.sel (d := []) (dl := []) .nil; unfold visS; rw [List.reverse_reverse]; exact h_⟩
  have L2V := Aside0.mk (VP2.out.thr via MO.out)
  have LO : Aside0 (AlV _ (l2 ++ ca) (opn l0 l1 via).reverse) := ⟨by have h_ := L2V.out.app LA2.out; unfold opn; rw [List.reverse_append, ← List.map_reverse]; exact h_⟩
  have GO := Aside0.mk (goodL_opn via HG0.out HG1.out (by have := HLN.out; omega))
  have WO := Aside0.mk (goodK _ GO.out LO.out)
  have EO := Aside0.mk (LO.out.env AO.out)
  have EA := Aside0.mk (LA2.out.env CA2.out)
  have EP := Aside0.mk (LP2.out.env CP2.out)
  have NO : Aside0 ((l2 ++ ca).length ≤ 1599289640000) := ⟨by have h1_ := congrArg List.length MO.out; rw [List.length_map, List.length_map] at h1_; have h2_ : (visC cp).length ≤ cp.length := selC_len [] cp; have h3_ := NP.out; have h4_ := NA.out; have h5_ := HLN.out; rw [List.length_append]; omega⟩
  have UP : Aside0 (upto (ptr ca) (l2 ++ ca) = l2) := ⟨by
    rw [upto_app, upto_own, List.append_nil]
    intro x hx hq
    have h1_ := NW.out x hx
    cases ca with
    | nil => cases hq
    | cons y r =>
      obtain ⟨g, e⟩ := y
      have h2_ := (Array.getElem?_eq_some_iff.mp CA.out.1).1
      injection hq with hq
      injection hq with hq
      omega⟩
  have PB : Aside0 (∀ a, ptr ca = some a → ∃ cs t, w9.heap[a.block]? = some (.cells cs t (0, 0))) := ⟨fun a h_ => by
    cases ca with
    | nil => cases h_
    | cons y r =>
      obtain ⟨g, e⟩ := y
      cases h_
      exact ⟨_, _, CA2.out.1⟩⟩
  rw [List.reverse_reverse] at EO EA EP
  clear CA CP LA LP n1_ LA2 LP2
  have HO := Aside0.mk (below_refl_of HM.out)
  have HW := HM
  clear HM
  obtain ⟨ks, hks⟩ : ∃ ks, ks = (visC (l2 ++ ca)).reverse.map (·.2.k) := ⟨_, rfl⟩
  have KS : Aside0 (ks.length ≤ 1599289640000) := ⟨by rw [hks, List.length_map, List.length_reverse]; have h2_ : (visC (l2 ++ ca)).length ≤ (l2 ++ ca).length := selC_len [] (l2 ++ ca); have := NO.out; omega⟩
  have HKS := Aside0.mk hks
  clear hks
  obtain ⟨kk, hkk⟩ : ∃ kk, kk = ks ++ [(⟨1, ⟨#[120]⟩⟩ : S28)] := ⟨_, rfl⟩
  have HKK := Aside0.mk hkk
  have KK : Aside0 (kk.length ≤ 1599289640001) := ⟨by rw [hkk, List.length_append]; have := KS.out; show ks.length + 1 ≤ _; omega⟩
  clear hkk
  have HM := Aside0.mk (below_refl_of HW.out)
  go_wp2_with (first | ((with_reducible refine gate_callee (f := 14) rfl ?_); refine goesL_ (some 36) rfl rfl Try.func14 (by kernel_rfl) rfl #[.pointer (ptr (l2 ++ ca))] rfl (by (try simp only [List.map_toArray, List.map_cons, List.map_nil]); first | done | rfl) ?_; refine (keys_ (l2 ++ ca) _ (At.below AO.out (by repeat (first | (with_reducible first | exact HM.out | apply below_alloc | apply pw_below_drewN | apply below_drew1) | exact HM.out))) WO.out (by have := NO.out; omega)).mono ?_; rintro e w1 ⟨v1, rfl, hr, hb⟩; refine ⟨_, rfl, ?_⟩; rw [← HKS.out] at hr; have HR := Aside0.mk (Kd.R_lower hr (below_size (by repeat (first | (with_reducible first | exact HM.out | apply below_alloc | apply pw_below_drewN | apply below_drew1) | exact HM.out)))); clear hr; have n_ := Aside0.mk (below_step (by repeat (first | (with_reducible first | exact HM.out | apply below_alloc | apply pw_below_drewN | apply below_drew1) | exact HM.out)) hb); clear HM; have HM := n_; clear n_ hb) | ((with_reducible refine gate_builtin (b := .append) (xs := #[.tmp 36, .tmp 38]) rfl ?_); at_builtin; refine Kd.R_append k28 (w0 := w9) w9.heap.size rfl (.tmp 36) (.tmp 38) 24 28 (.agg #[(.int .i64 0), (.string ⟨#[]⟩)]) 24 rfl Try.underlying24 info28 rfl (by decide) (by omega) v1 ks ⟨1, ⟨#[120]⟩⟩ [.int .i64 1, .string ⟨#[120]⟩] (fun _ => True) (fun _ => False) rfl (by first | (go_simp; done) | (go_simp; rfl)) ?aP (fun _ hk => hk.elim) ?aF ?aO ?aB ?aS ?aL ?_; (case aP => exact k28_mkM _ _ _ ⟨1, ⟨#[120]⟩⟩); (case aF => exact (fun _ _ => trivial)); (case aO => exact (by (with_reducible repeat (first | apply Kd.R_alloc | apply Kd.R_drewN | apply Kd.R_drew)); exact HR.out)); (case aB => exact (by repeat (first | (with_reducible first | exact HM.out | apply below_alloc | apply pw_below_drewN | apply below_drew1) | exact HM.out))); (case aS => exact (below_size (by repeat (first | (with_reducible first | exact HM.out | apply below_alloc | apply pw_below_drewN | apply below_drew1) | exact HM.out)))); (case aL => have := KS.out; omega); intro v6 w6 ho6 hb6 hg6 hat6; rw [← HKK.out] at ho6; have HR6 := Aside0.mk ho6; clear HM; have HM := Aside0.mk hb6; clear ho6 hb6 hg6 hat6; obtain ⟨Av, cv, ev⟩ := Kd.R_slice HR6.out; subst ev))
  have HB := Aside0.mk (below_refl_of HM.out)
  have HN := HM
  clear HM HR HKS KS HKK
  go_loopg [41] (kk.length + 1) (fun kq v41 w' => ∃ (i : Nat) (a : Int), v41 = .int .i64 a ∧ Aside0 (a = (i : Int)) ∧ Aside0 (kq + i = kk.length + 1 ∧ i ≤ kk.length) ∧ Aside0 (Below w6.heap.size w6 w'))
  case atStart => exact ⟨0, 0, rfl, ⟨rfl⟩, ⟨⟨by omega, by omega⟩⟩, HB⟩
  case round =>
    clear HB
    obtain ⟨i, a, rfl, HE, HK, HB⟩ := hrel
    cases gk with
    | zero => have := HK.out; omega
    | succ k1 =>
      by_cases cc : a < (kk.length : Int)
      · have c0b : decide (a < (kk.length : Int)) = true := decide_eq_true cc
        have hi : i < kk.length := by have := HE.out; omega
        have p1 : (0 : Int) ≤ a := by have := HE.out; omega
        have q1' : a < (kk.length : Int) := cc
        have HRW := Aside0.mk (Kd.R_below HR6.out HB.out)
        obtain ⟨gk_, ckk, ekk, _, _, _⟩ := Kd.R_form HRW.out (by omega)
        injection ekk with ek1 ek2 ek3
        subst ek1
        subst ek3
        clear ek2
        obtain ⟨ce, hl1, hM1, hc1, hf1⟩ := Kd.R_elem HRW.out ⟨0, ⟨#[]⟩⟩ a p1 q1'
        obtain rfl := k28_openM hM1
        have hk0 := hc1 0 _ rfl
        have hk1 := hc1 1 _ rfl
        rw [show k28.sz = 2 from rfl] at hk0 hk1
        have hk0' : wr.cell? ⟨gk_, a.toNat * 2, none⟩ = some (.int .i64 (kk.getD a.toNat ⟨0, ⟨#[]⟩⟩).f0) := hk0
        have hk1' : wr.cell? ⟨gk_, a.toNat * 2 + 1, none⟩ = some (.string (kk.getD a.toNat ⟨0, ⟨#[]⟩⟩).f1) := hk1
        clear hk0 hk1 hc1 hf1 hl1 hM1
        generalize kk.getD a.toNat ⟨0, ⟨#[]⟩⟩ = kx at hk0' hk1'
        have ew : wrap64 (a + 1) = a + 1 := wid (by have := HE.out; omega) (by have := HE.out; have := KK.out; omega)
        replace p1 := eq_true p1
        replace q1' := eq_true q1'
        have HM := Aside0.mk (below_refl_of HB.out)
        have HQ0 := open_find kx via l2 cp ca MO.out
        obtain ⟨X, eX⟩ : ∃ X, (find kx (l2 ++ ca)).getD nd0 = X := ⟨_, rfl⟩
        obtain ⟨bx, ebx⟩ : ∃ b, (find kx (l2 ++ ca)).isSome = b := ⟨_, rfl⟩
        obtain ⟨Y, eY⟩ : ∃ X, (find kx cp).getD nd0 = X := ⟨_, rfl⟩
        obtain ⟨b2, eb2⟩ : ∃ b, (find kx cp).isSome = b := ⟨_, rfl⟩
        obtain ⟨Z, eZ⟩ : ∃ X, (find kx ca).getD nd0 = X := ⟨_, rfl⟩
        obtain ⟨bz, ebz⟩ : ∃ b, (find kx ca).isSome = b := ⟨_, rfl⟩
        have HQ : Aside0 ((b2 = true → bx = true ∧ X.dc = Y.dc ∧ X.vi = via ∧ X.pa = Y.pa) ∧ (b2 = false → bx = bz ∧ X = Z)) := ⟨by
          rw [← eb2, ← ebx, ← eX, ← eY, ← ebz, ← eZ]
          exact ⟨fun h => ⟨(HQ0.1 h).1, by rw [(HQ0.1 h).2]; rfl, by rw [(HQ0.1 h).2]; rfl, by rw [(HQ0.1 h).2]; rfl⟩, fun h => by rw [HQ0.2 h]; exact ⟨rfl, rfl⟩⟩⟩
        have EX := Aside0.mk eX
        have EBX := Aside0.mk ebx
        have EY := Aside0.mk eY
        have EB2 := Aside0.mk eb2
        have EZ := Aside0.mk eZ
        have EBZ := Aside0.mk ebz
        clear eX ebx eY eb2 eZ ebz HQ0 cc
        go_upto_region 8 with (first | ((with_reducible refine gate_dst (N := 11) rfl ?_); refine box_event ?hg (N := 11) ?hd (cs := #[.int .i64 0, .string (⟨#[]⟩ : ByteArray)]) (t := 28) ?hr ?_; (case hd => rfl); (case hg => rfl); (case hr => first | (go_simp; done) | (go_simp; rfl)); intro g11 hg w_g11 hbox hb; have Bg11 := Aside0.mk hbox; have Gg11 := Aside0.mk ((by rw [hg]; exact (below_size (by repeat (first | (with_reducible first | exact HM.out | apply below_alloc | apply pw_below_drewN | apply below_drew1) | exact HM.out)))) : wr.heap.size ≤ g11); have n0_ := Aside0.mk (below_step (by repeat (first | (with_reducible first | exact HM.out | apply below_alloc | apply pw_below_drewN | apply below_drew1) | exact HM.out)) hb); clear HM; have HM := n0_; clear n0_; have cg11_0 : w_g11.cell? ⟨g11, 0, none⟩ = some (.int .i64 0) := (blk_cell Bg11.out 0).trans rfl; have fg11_0 := blk_frozen Bg11.out 0; have cg11_1 : w_g11.cell? ⟨g11, 1, none⟩ = some (.string (⟨#[]⟩ : ByteArray)) := (blk_cell Bg11.out 1).trans rfl; have fg11_1 := blk_frozen Bg11.out 1; clear hbox hb hg))
        have Bg11_0 := Aside0.mk (blk_put Bg11.out 0 (.int .i64 kx.f0) rfl)
        have Bg11_1 := Aside0.mk (blk_put Bg11_0.out 1 (.string kx.f1) rfl)
        have Xg11 := Aside0.mk (show (((w_g11.setCell ⟨g11, 0, none⟩ (.int .i64 kx.f0)).setCell ⟨g11, 1, none⟩ (.string kx.f1))).heap[g11]? = some (.cells #[.int .i64 kx.f0, .string kx.f1] 28 (0, 0)) from Bg11_1.out)
        have n0_ := Aside0.mk (below_set (below_set HM.out Gg11.out (v := .int .i64 kx.f0) (j := 0)) Gg11.out (v := .string kx.f1) (j := 1))
        clear HM
        have HM := n0_
        clear n0_
        clear Bg11 Bg11_0 Bg11_1 cg11_0 fg11_0 cg11_1 fg11_1
        generalize ((w_g11.setCell ⟨g11, 0, none⟩ (.int .i64 kx.f0)).setCell ⟨g11, 1, none⟩ (.string kx.f1)) = w7 at Xg11 HM  ⊢
        clear hk0' hk1'
        have k0_ : w7.cell? ⟨g11, 0, none⟩ = some (.int .i64 kx.f0) := (blk_cell Xg11.out 0).trans rfl
        have k1_ : w7.cell? ⟨g11, 1, none⟩ = some (.string kx.f1) := (blk_cell Xg11.out 1).trans rfl
        go_upto_region 9 with (first | ((with_reducible refine gate_callee (f := 15) rfl ?_); refine goesL_ (some 48) rfl rfl Try.func15 (by kernel_rfl) rfl #[.pointer (ptr (l2 ++ ca)), .agg #[.int .i64 kx.f0, .string kx.f1]] rfl (by (try simp only [List.map_toArray, List.map_cons, List.map_nil]); first | done | rfl) ?_; refine (find_ (l2 ++ ca) kx _ (At.below (At.below (At.below AO.out HN.out) HB.out) HM.out)).mono ?_; rintro e7 wc ⟨rfl, hb⟩; rw [itemV_get, EX.out, EBX.out]; refine ⟨_, rfl, ?_⟩; have n1_ := Aside0.mk (blk_below Xg11.out hb); clear Xg11; have Xg11 := n1_; clear n1_; have n0_ := Aside0.mk (below_step HM.out hb); clear HM; have HM := n0_; clear n0_ hb k0_ k1_) | ((with_reducible refine gate_dst (N := 12) rfl ?_); refine box_event ?hg (N := 12) ?hd (cs := #[.int .i64 0, .int .i64 0, .pointer none, .pointer none]) (t := 41) ?hr ?_; (case hd => rfl); (case hg => rfl); (case hr => first | (go_simp; done) | (go_simp; rfl)); intro g12 hg w_g12 hbox hb; have Bg12 := Aside0.mk hbox; have Gg12 := Aside0.mk ((by rw [hg]; exact (below_size (by repeat (first | (with_reducible first | exact HM.out | apply below_alloc | apply pw_below_drewN | apply below_drew1) | exact HM.out)))) : wr.heap.size ≤ g12); have n0_ := Aside0.mk (below_step (by repeat (first | (with_reducible first | exact HM.out | apply below_alloc | apply pw_below_drewN | apply below_drew1) | exact HM.out)) hb); clear HM; have HM := n0_; clear n0_; have cg12_0 : w_g12.cell? ⟨g12, 0, none⟩ = some (.int .i64 0) := (blk_cell Bg12.out 0).trans rfl; have fg12_0 := blk_frozen Bg12.out 0; have cg12_1 : w_g12.cell? ⟨g12, 1, none⟩ = some (.int .i64 0) := (blk_cell Bg12.out 1).trans rfl; have fg12_1 := blk_frozen Bg12.out 1; have cg12_2 : w_g12.cell? ⟨g12, 2, none⟩ = some (.pointer none) := (blk_cell Bg12.out 2).trans rfl; have fg12_2 := blk_frozen Bg12.out 2; have cg12_3 : w_g12.cell? ⟨g12, 3, none⟩ = some (.pointer none) := (blk_cell Bg12.out 3).trans rfl; have fg12_3 := blk_frozen Bg12.out 3; have Ng11_g12 := Aside0.mk ((by have h1_ := (Array.getElem?_eq_some_iff.mp Xg11.out).1; omega) : g11 ≠ g12); have n1_ := Aside0.mk (blk_below Xg11.out hb); clear Xg11; have Xg11 := n1_; clear n1_; clear hbox hb hg))
        have Bg12_0 := Aside0.mk (blk_put Bg12.out 0 (.int .i64 X.dc) rfl)
        have Bg12_1 := Aside0.mk (blk_put Bg12_0.out 1 (.int .i64 X.vi) rfl)
        have Bg12_2 := Aside0.mk (blk_put Bg12_1.out 2 (.pointer X.pa) rfl)
        have Bg12_3 := Aside0.mk (blk_put Bg12_2.out 3 (.pointer X.pr) rfl)
        have Xg12 := Aside0.mk (show (((((w_g12.setCell ⟨g12, 0, none⟩ (.int .i64 X.dc)).setCell ⟨g12, 1, none⟩ (.int .i64 X.vi)).setCell ⟨g12, 2, none⟩ (.pointer X.pa)).setCell ⟨g12, 3, none⟩ (.pointer X.pr))).heap[g12]? = some (.cells #[.int .i64 X.dc, .int .i64 X.vi, .pointer X.pa, .pointer X.pr] 41 (0, 0)) from Bg12_3.out)
        have n0_ := Aside0.mk (below_set (below_set (below_set (below_set HM.out Gg12.out (v := .int .i64 X.dc) (j := 0)) Gg12.out (v := .int .i64 X.vi) (j := 1)) Gg12.out (v := .pointer X.pa) (j := 2)) Gg12.out (v := .pointer X.pr) (j := 3))
        clear HM
        have HM := n0_
        clear n0_
        have n0_ := Aside0.mk (blk_far (blk_far (blk_far (blk_far Xg11.out (show g11 ≠ (⟨g12, 0, none⟩ : Addr).block from Ng11_g12.out) (.int .i64 X.dc)) (show g11 ≠ (⟨g12, 1, none⟩ : Addr).block from Ng11_g12.out) (.int .i64 X.vi)) (show g11 ≠ (⟨g12, 2, none⟩ : Addr).block from Ng11_g12.out) (.pointer X.pa)) (show g11 ≠ (⟨g12, 3, none⟩ : Addr).block from Ng11_g12.out) (.pointer X.pr))
        clear Xg11
        have Xg11 := n0_
        clear n0_
        clear Bg12 Bg12_0 Bg12_1 Bg12_2 Bg12_3 cg12_0 fg12_0 cg12_1 fg12_1 cg12_2 fg12_2 cg12_3 fg12_3
        generalize ((((w_g12.setCell ⟨g12, 0, none⟩ (.int .i64 X.dc)).setCell ⟨g12, 1, none⟩ (.int .i64 X.vi)).setCell ⟨g12, 2, none⟩ (.pointer X.pa)).setCell ⟨g12, 3, none⟩ (.pointer X.pr)) = w8 at Xg12 HM Xg11 ⊢
        have k0_ : w8.cell? ⟨g11, 0, none⟩ = some (.int .i64 kx.f0) := (blk_cell Xg11.out 0).trans rfl
        have k1_ : w8.cell? ⟨g11, 1, none⟩ = some (.string kx.f1) := (blk_cell Xg11.out 1).trans rfl
        go_upto_region 10 with (first | ((with_reducible refine gate_callee (f := 15) rfl ?_); refine goesL_ (some 54) rfl rfl Try.func15 (by kernel_rfl) rfl #[.pointer (ptr cp), .agg #[.int .i64 kx.f0, .string kx.f1]] rfl (by (try simp only [List.map_toArray, List.map_cons, List.map_nil]); first | done | rfl) ?_; refine (find_ cp kx _ (At.below (At.below (At.below CP2.out HN.out) HB.out) HM.out)).mono ?_; rintro e7 wc ⟨rfl, hb⟩; rw [itemV_get, EY.out, EB2.out]; refine ⟨_, rfl, ?_⟩; have n1_ := Aside0.mk (blk_below Xg11.out hb); clear Xg11; have Xg11 := n1_; clear n1_; have n1_ := Aside0.mk (blk_below Xg12.out hb); clear Xg12; have Xg12 := n1_; clear n1_; have n0_ := Aside0.mk (below_step HM.out hb); clear HM; have HM := n0_; clear n0_ hb k0_ k1_) | ((with_reducible refine gate_dst (N := 14) rfl ?_); refine box_event ?hg (N := 14) ?hd (cs := #[.int .i64 0, .int .i64 0, .pointer none, .pointer none]) (t := 41) ?hr ?_; (case hd => rfl); (case hg => rfl); (case hr => first | (go_simp; done) | (go_simp; rfl)); intro g14 hg w_g14 hbox hb; have Bg14 := Aside0.mk hbox; have Gg14 := Aside0.mk ((by rw [hg]; exact (below_size (by repeat (first | (with_reducible first | exact HM.out | apply below_alloc | apply pw_below_drewN | apply below_drew1) | exact HM.out)))) : wr.heap.size ≤ g14); have n0_ := Aside0.mk (below_step (by repeat (first | (with_reducible first | exact HM.out | apply below_alloc | apply pw_below_drewN | apply below_drew1) | exact HM.out)) hb); clear HM; have HM := n0_; clear n0_; have cg14_0 : w_g14.cell? ⟨g14, 0, none⟩ = some (.int .i64 0) := (blk_cell Bg14.out 0).trans rfl; have fg14_0 := blk_frozen Bg14.out 0; have cg14_1 : w_g14.cell? ⟨g14, 1, none⟩ = some (.int .i64 0) := (blk_cell Bg14.out 1).trans rfl; have fg14_1 := blk_frozen Bg14.out 1; have cg14_2 : w_g14.cell? ⟨g14, 2, none⟩ = some (.pointer none) := (blk_cell Bg14.out 2).trans rfl; have fg14_2 := blk_frozen Bg14.out 2; have cg14_3 : w_g14.cell? ⟨g14, 3, none⟩ = some (.pointer none) := (blk_cell Bg14.out 3).trans rfl; have fg14_3 := blk_frozen Bg14.out 3; have Ng11_g14 := Aside0.mk ((by have h1_ := (Array.getElem?_eq_some_iff.mp Xg11.out).1; omega) : g11 ≠ g14); have Ng12_g14 := Aside0.mk ((by have h1_ := (Array.getElem?_eq_some_iff.mp Xg12.out).1; omega) : g12 ≠ g14); have n1_ := Aside0.mk (blk_below Xg11.out hb); clear Xg11; have Xg11 := n1_; clear n1_; have n1_ := Aside0.mk (blk_below Xg12.out hb); clear Xg12; have Xg12 := n1_; clear n1_; clear hbox hb hg))
        have Bg14_0 := Aside0.mk (blk_put Bg14.out 0 (.int .i64 Y.dc) rfl)
        have Bg14_1 := Aside0.mk (blk_put Bg14_0.out 1 (.int .i64 Y.vi) rfl)
        have Bg14_2 := Aside0.mk (blk_put Bg14_1.out 2 (.pointer Y.pa) rfl)
        have Bg14_3 := Aside0.mk (blk_put Bg14_2.out 3 (.pointer Y.pr) rfl)
        have Xg14 := Aside0.mk (show (((((w_g14.setCell ⟨g14, 0, none⟩ (.int .i64 Y.dc)).setCell ⟨g14, 1, none⟩ (.int .i64 Y.vi)).setCell ⟨g14, 2, none⟩ (.pointer Y.pa)).setCell ⟨g14, 3, none⟩ (.pointer Y.pr))).heap[g14]? = some (.cells #[.int .i64 Y.dc, .int .i64 Y.vi, .pointer Y.pa, .pointer Y.pr] 41 (0, 0)) from Bg14_3.out)
        have n0_ := Aside0.mk (below_set (below_set (below_set (below_set HM.out Gg14.out (v := .int .i64 Y.dc) (j := 0)) Gg14.out (v := .int .i64 Y.vi) (j := 1)) Gg14.out (v := .pointer Y.pa) (j := 2)) Gg14.out (v := .pointer Y.pr) (j := 3))
        clear HM
        have HM := n0_
        clear n0_
        have n0_ := Aside0.mk (blk_far (blk_far (blk_far (blk_far Xg11.out (show g11 ≠ (⟨g14, 0, none⟩ : Addr).block from Ng11_g14.out) (.int .i64 Y.dc)) (show g11 ≠ (⟨g14, 1, none⟩ : Addr).block from Ng11_g14.out) (.int .i64 Y.vi)) (show g11 ≠ (⟨g14, 2, none⟩ : Addr).block from Ng11_g14.out) (.pointer Y.pa)) (show g11 ≠ (⟨g14, 3, none⟩ : Addr).block from Ng11_g14.out) (.pointer Y.pr))
        clear Xg11
        have Xg11 := n0_
        clear n0_
        have n0_ := Aside0.mk (blk_far (blk_far (blk_far (blk_far Xg12.out (show g12 ≠ (⟨g14, 0, none⟩ : Addr).block from Ng12_g14.out) (.int .i64 Y.dc)) (show g12 ≠ (⟨g14, 1, none⟩ : Addr).block from Ng12_g14.out) (.int .i64 Y.vi)) (show g12 ≠ (⟨g14, 2, none⟩ : Addr).block from Ng12_g14.out) (.pointer Y.pa)) (show g12 ≠ (⟨g14, 3, none⟩ : Addr).block from Ng12_g14.out) (.pointer Y.pr))
        clear Xg12
        have Xg12 := n0_
        clear n0_
        clear Bg14 Bg14_0 Bg14_1 Bg14_2 Bg14_3 cg14_0 fg14_0 cg14_1 fg14_1 cg14_2 fg14_2 cg14_3 fg14_3
        generalize ((((w_g14.setCell ⟨g14, 0, none⟩ (.int .i64 Y.dc)).setCell ⟨g14, 1, none⟩ (.int .i64 Y.vi)).setCell ⟨g14, 2, none⟩ (.pointer Y.pa)).setCell ⟨g14, 3, none⟩ (.pointer Y.pr)) = w9 at Xg14 HM Xg11 Xg12 ⊢
        have k0_ : w9.cell? ⟨g11, 0, none⟩ = some (.int .i64 kx.f0) := (blk_cell Xg11.out 0).trans rfl
        have k1_ : w9.cell? ⟨g11, 1, none⟩ = some (.string kx.f1) := (blk_cell Xg11.out 1).trans rfl
        go_upto_region 11 with (first | ((with_reducible refine gate_callee (f := 15) rfl ?_); refine goesL_ (some 60) rfl rfl Try.func15 (by kernel_rfl) rfl #[.pointer (ptr ca), .agg #[.int .i64 kx.f0, .string kx.f1]] rfl (by (try simp only [List.map_toArray, List.map_cons, List.map_nil]); first | done | rfl) ?_; refine (find_ ca kx _ (At.below (At.below (At.below CA2.out HN.out) HB.out) HM.out)).mono ?_; rintro e7 wc ⟨rfl, hb⟩; rw [itemV_get, EZ.out, EBZ.out]; refine ⟨_, rfl, ?_⟩; have n1_ := Aside0.mk (blk_below Xg11.out hb); clear Xg11; have Xg11 := n1_; clear n1_; have n1_ := Aside0.mk (blk_below Xg12.out hb); clear Xg12; have Xg12 := n1_; clear n1_; have n1_ := Aside0.mk (blk_below Xg14.out hb); clear Xg14; have Xg14 := n1_; clear n1_; have n0_ := Aside0.mk (below_step HM.out hb); clear HM; have HM := n0_; clear n0_ hb k0_ k1_) | ((with_reducible refine gate_dst (N := 16) rfl ?_); refine box_event ?hg (N := 16) ?hd (cs := #[.int .i64 0, .int .i64 0, .pointer none, .pointer none]) (t := 41) ?hr ?_; (case hd => rfl); (case hg => rfl); (case hr => first | (go_simp; done) | (go_simp; rfl)); intro g16 hg w_g16 hbox hb; have Bg16 := Aside0.mk hbox; have Gg16 := Aside0.mk ((by rw [hg]; exact (below_size (by repeat (first | (with_reducible first | exact HM.out | apply below_alloc | apply pw_below_drewN | apply below_drew1) | exact HM.out)))) : wr.heap.size ≤ g16); have n0_ := Aside0.mk (below_step (by repeat (first | (with_reducible first | exact HM.out | apply below_alloc | apply pw_below_drewN | apply below_drew1) | exact HM.out)) hb); clear HM; have HM := n0_; clear n0_; have cg16_0 : w_g16.cell? ⟨g16, 0, none⟩ = some (.int .i64 0) := (blk_cell Bg16.out 0).trans rfl; have fg16_0 := blk_frozen Bg16.out 0; have cg16_1 : w_g16.cell? ⟨g16, 1, none⟩ = some (.int .i64 0) := (blk_cell Bg16.out 1).trans rfl; have fg16_1 := blk_frozen Bg16.out 1; have cg16_2 : w_g16.cell? ⟨g16, 2, none⟩ = some (.pointer none) := (blk_cell Bg16.out 2).trans rfl; have fg16_2 := blk_frozen Bg16.out 2; have cg16_3 : w_g16.cell? ⟨g16, 3, none⟩ = some (.pointer none) := (blk_cell Bg16.out 3).trans rfl; have fg16_3 := blk_frozen Bg16.out 3; have Ng11_g16 := Aside0.mk ((by have h1_ := (Array.getElem?_eq_some_iff.mp Xg11.out).1; omega) : g11 ≠ g16); have Ng12_g16 := Aside0.mk ((by have h1_ := (Array.getElem?_eq_some_iff.mp Xg12.out).1; omega) : g12 ≠ g16); have Ng14_g16 := Aside0.mk ((by have h1_ := (Array.getElem?_eq_some_iff.mp Xg14.out).1; omega) : g14 ≠ g16); have n1_ := Aside0.mk (blk_below Xg11.out hb); clear Xg11; have Xg11 := n1_; clear n1_; have n1_ := Aside0.mk (blk_below Xg12.out hb); clear Xg12; have Xg12 := n1_; clear n1_; have n1_ := Aside0.mk (blk_below Xg14.out hb); clear Xg14; have Xg14 := n1_; clear n1_; clear hbox hb hg))
        have Bg16_0 := Aside0.mk (blk_put Bg16.out 0 (.int .i64 Z.dc) rfl)
        have Bg16_1 := Aside0.mk (blk_put Bg16_0.out 1 (.int .i64 Z.vi) rfl)
        have Bg16_2 := Aside0.mk (blk_put Bg16_1.out 2 (.pointer Z.pa) rfl)
        have Bg16_3 := Aside0.mk (blk_put Bg16_2.out 3 (.pointer Z.pr) rfl)
        have Xg16 := Aside0.mk (show (((((w_g16.setCell ⟨g16, 0, none⟩ (.int .i64 Z.dc)).setCell ⟨g16, 1, none⟩ (.int .i64 Z.vi)).setCell ⟨g16, 2, none⟩ (.pointer Z.pa)).setCell ⟨g16, 3, none⟩ (.pointer Z.pr))).heap[g16]? = some (.cells #[.int .i64 Z.dc, .int .i64 Z.vi, .pointer Z.pa, .pointer Z.pr] 41 (0, 0)) from Bg16_3.out)
        have n0_ := Aside0.mk (below_set (below_set (below_set (below_set HM.out Gg16.out (v := .int .i64 Z.dc) (j := 0)) Gg16.out (v := .int .i64 Z.vi) (j := 1)) Gg16.out (v := .pointer Z.pa) (j := 2)) Gg16.out (v := .pointer Z.pr) (j := 3))
        clear HM
        have HM := n0_
        clear n0_
        have n0_ := Aside0.mk (blk_far (blk_far (blk_far (blk_far Xg11.out (show g11 ≠ (⟨g16, 0, none⟩ : Addr).block from Ng11_g16.out) (.int .i64 Z.dc)) (show g11 ≠ (⟨g16, 1, none⟩ : Addr).block from Ng11_g16.out) (.int .i64 Z.vi)) (show g11 ≠ (⟨g16, 2, none⟩ : Addr).block from Ng11_g16.out) (.pointer Z.pa)) (show g11 ≠ (⟨g16, 3, none⟩ : Addr).block from Ng11_g16.out) (.pointer Z.pr))
        clear Xg11
        have Xg11 := n0_
        clear n0_
        have n0_ := Aside0.mk (blk_far (blk_far (blk_far (blk_far Xg12.out (show g12 ≠ (⟨g16, 0, none⟩ : Addr).block from Ng12_g16.out) (.int .i64 Z.dc)) (show g12 ≠ (⟨g16, 1, none⟩ : Addr).block from Ng12_g16.out) (.int .i64 Z.vi)) (show g12 ≠ (⟨g16, 2, none⟩ : Addr).block from Ng12_g16.out) (.pointer Z.pa)) (show g12 ≠ (⟨g16, 3, none⟩ : Addr).block from Ng12_g16.out) (.pointer Z.pr))
        clear Xg12
        have Xg12 := n0_
        clear n0_
        have n0_ := Aside0.mk (blk_far (blk_far (blk_far (blk_far Xg14.out (show g14 ≠ (⟨g16, 0, none⟩ : Addr).block from Ng14_g16.out) (.int .i64 Z.dc)) (show g14 ≠ (⟨g16, 1, none⟩ : Addr).block from Ng14_g16.out) (.int .i64 Z.vi)) (show g14 ≠ (⟨g16, 2, none⟩ : Addr).block from Ng14_g16.out) (.pointer Z.pa)) (show g14 ≠ (⟨g16, 3, none⟩ : Addr).block from Ng14_g16.out) (.pointer Z.pr))
        clear Xg14
        have Xg14 := n0_
        clear n0_
        clear Bg16 Bg16_0 Bg16_1 Bg16_2 Bg16_3 cg16_0 fg16_0 cg16_1 fg16_1 cg16_2 fg16_2 cg16_3 fg16_3
        generalize ((((w_g16.setCell ⟨g16, 0, none⟩ (.int .i64 Z.dc)).setCell ⟨g16, 1, none⟩ (.int .i64 Z.vi)).setCell ⟨g16, 2, none⟩ (.pointer Z.pa)).setCell ⟨g16, 3, none⟩ (.pointer Z.pr)) = w10 at Xg16 HM Xg11 Xg12 Xg14 ⊢
        cases b2 with
        | true =>
          obtain ⟨hbx, h1, h2, h3⟩ := HQ.out.1 rfl
          subst hbx
          have x0 : w10.cell? ⟨g12, 0, none⟩ = some (.int .i64 Y.dc) := (blk_cell Xg12.out 0).trans (by rw [← h1]; rfl)
          have x1 : w10.cell? ⟨g12, 1, none⟩ = some (.int .i64 via) := (blk_cell Xg12.out 1).trans (by rw [← h2]; rfl)
          have x2 : w10.cell? ⟨g12, 2, none⟩ = some (.pointer Y.pa) := (blk_cell Xg12.out 2).trans (by rw [← h3]; rfl)
          have y0 : w10.cell? ⟨g14, 0, none⟩ = some (.int .i64 Y.dc) := (blk_cell Xg14.out 0).trans rfl
          have y2 : w10.cell? ⟨g14, 2, none⟩ = some (.pointer Y.pa) := (blk_cell Xg14.out 2).trans rfl
          have e33 : (binOp .neq 33 (.pointer Y.pa) (.pointer Y.pa)).run Try.prog w10 = .ok (.bool false) w10 := neq33 _ _
          have e3a : (Y.dc != Y.dc) = false := bne_self_eq_false _
          have e3b : (via != via) = false := bne_self_eq_false _
          clear h1 h2 h3 EX EBX EY EB2 EZ EBZ
          go_wp2
          go_roundg k1
          case measure => omega
          case rel => exact ⟨i + 1, a + 1, by first | rfl | rw [ew], ⟨by rw [HE.out]; rfl⟩, ⟨by have := HK.out; omega⟩, ⟨below_step HB.out HM.out⟩⟩
        | false =>
          obtain ⟨hbx, hX⟩ := HQ.out.2 rfl
          clear EX EBX EY EB2 EZ EBZ HQ
          subst hbx
          subst hX
          have x0 : w10.cell? ⟨g12, 0, none⟩ = some (.int .i64 X.dc) := (blk_cell Xg12.out 0).trans rfl
          have x1 : w10.cell? ⟨g12, 1, none⟩ = some (.int .i64 X.vi) := (blk_cell Xg12.out 1).trans rfl
          have x2 : w10.cell? ⟨g12, 2, none⟩ = some (.pointer X.pa) := (blk_cell Xg12.out 2).trans rfl
          have x3 : w10.cell? ⟨g12, 3, none⟩ = some (.pointer X.pr) := (blk_cell Xg12.out 3).trans rfl
          have z0 : w10.cell? ⟨g16, 0, none⟩ = some (.int .i64 X.dc) := (blk_cell Xg16.out 0).trans rfl
          have z1 : w10.cell? ⟨g16, 1, none⟩ = some (.int .i64 X.vi) := (blk_cell Xg16.out 1).trans rfl
          have z2 : w10.cell? ⟨g16, 2, none⟩ = some (.pointer X.pa) := (blk_cell Xg16.out 2).trans rfl
          have z3 : w10.cell? ⟨g16, 3, none⟩ = some (.pointer X.pr) := (blk_cell Xg16.out 3).trans rfl
          have e41a : (Op.equalIn 9999 33 (.pointer X.pa) (.pointer X.pa)).run Try.prog w10 = .ok true w10 := eq33 9998 _ _
          have e41b : (Op.equalIn 9999 33 (.pointer X.pr) (.pointer X.pr)).run Try.prog w10 = .ok true w10 := eq33 9998 _ _
          have e4 : (bx != bx) = false := bne_self_eq_false _
          go_wp2
          go_roundg k1
          case measure => omega
          case rel => exact ⟨i + 1, a + 1, by first | rfl | rw [ew], ⟨by rw [HE.out]; rfl⟩, ⟨by have := HK.out; omega⟩, ⟨below_step HB.out HM.out⟩⟩
      · have c0b : decide (a < (kk.length : Int)) = false := decide_eq_false cc
        have HM := Aside0.mk (below_step HN.out HB.out)
        clear HN HB HR6 KK
        have GN : Aside0 (GoodL (opn [] l1 via)) := ⟨goodL_opn via ⟨Nat.zero_le _, fun x hx => by cases hx⟩ HG1.out (by have := HLN.out; show 0 + l1.length ≤ _; omega)⟩
        go_wp2_with (first | (go_at_call_of 17 (Value.slice A0 l0.length c0); refine (opn_ l0 l1 via A0 A1 c0 c1 _ (Kd.C_below HR0.out (below_step HW.out (by repeat (first | (with_reducible first | exact HM.out | apply below_alloc | apply pw_below_drewN | apply below_drew1) | exact HM.out)))) HC0.out (Kd.C_below HR1.out (below_step HW.out (by repeat (first | (with_reducible first | exact HM.out | apply below_alloc | apply pw_below_drewN | apply below_drew1) | exact HM.out)))) HC1.out HG1.out.1 (by have := HLN.out; omega)).mono ?_; rintro e w11 ⟨A7, c7, rfl, h7, hC7, hb⟩; have n_ := Aside0.mk (below_step (by repeat (first | (with_reducible first | exact HM.out | apply below_alloc | apply pw_below_drewN | apply below_drew1) | exact HM.out)) hb); clear HM; have HM := n_; clear n_; clear hb; have C7 := Aside0.mk hC7; have H7 := Aside0.mk h7; clear hC7 h7) | (go_at_call_of 16 (Value.pointer (ptr (l2 ++ ca))); refine (is_ (SizeOf.sizeOf (opn l0 l1 via) + 1) (opn l0 l1 via) _ A7 c7 _ (Nat.lt_succ_self _) GO.out (EO.out.under (by repeat (first | (with_reducible first | exact HM.out | apply below_alloc | apply pw_below_drewN | apply below_drew1) | exact HM.out))) C7.out H7.out).mono ?_; rintro e w12 ⟨rfl, hb⟩; have n_ := Aside0.mk (below_step (by repeat (first | (with_reducible first | exact HM.out | apply below_alloc | apply pw_below_drewN | apply below_drew1) | exact HM.out)) hb); clear HM; have HM := n_; clear n_; clear hb) | (go_at_call_of 16 (Value.slice A0 l0.length c0); refine (is_ (SizeOf.sizeOf l0 + 1) l0 _ A0 c0 _ (Nat.lt_succ_self _) HG0.out (EA.out.under (by repeat (first | (with_reducible first | exact HM.out | apply below_alloc | apply pw_below_drewN | apply below_drew1) | exact HM.out))) (Kd.C_below HR0.out (below_step HW.out (by repeat (first | (with_reducible first | exact HM.out | apply below_alloc | apply pw_below_drewN | apply below_drew1) | exact HM.out)))) HC0.out).mono ?_; rintro e w13 ⟨rfl, hb⟩; have n_ := Aside0.mk (below_step (by repeat (first | (with_reducible first | exact HM.out | apply below_alloc | apply pw_below_drewN | apply below_drew1) | exact HM.out)) hb); clear HM; have HM := n_; clear n_; clear hb) | (go_at_call_of 16 (Value.slice A1 l1.length c1); refine (is_ (SizeOf.sizeOf l1 + 1) l1 _ A1 c1 _ (Nat.lt_succ_self _) HG1.out (EP.out.under (by repeat (first | (with_reducible first | exact HM.out | apply below_alloc | apply pw_below_drewN | apply below_drew1) | exact HM.out))) (Kd.C_below HR1.out (below_step HW.out (by repeat (first | (with_reducible first | exact HM.out | apply below_alloc | apply pw_below_drewN | apply below_drew1) | exact HM.out)))) HC1.out).mono ?_; rintro e w14 ⟨rfl, hb⟩; have n_ := Aside0.mk (below_step (by repeat (first | (with_reducible first | exact HM.out | apply below_alloc | apply pw_below_drewN | apply below_drew1) | exact HM.out)) hb); clear HM; have HM := n_; clear n_; clear hb) | (go_at_call 18; refine (since_ (l2 ++ ca) (ptr ca) _ (At.below AO.out (by repeat (first | (with_reducible first | exact HM.out | apply below_alloc | apply pw_below_drewN | apply below_drew1) | exact HM.out))) (by have := NO.out; omega) (fun a h_ => by obtain ⟨cs, t, hc⟩ := PB.out a h_; exact ⟨cs, t, blk_below hc (by repeat (first | (with_reducible first | exact HM.out | apply below_alloc | apply pw_below_drewN | apply below_drew1) | exact HM.out))⟩)).mono ?_; rintro e w15 ⟨l3, rfl, hat, hmp, hb⟩; rw [UP.out] at hmp; have n_ := Aside0.mk (below_step (by repeat (first | (with_reducible first | exact HM.out | apply below_alloc | apply pw_below_drewN | apply below_drew1) | exact HM.out)) hb); clear HM; have HM := n_; clear n_; have A3 := Aside0.mk hat; have V3 := Aside0.mk ((VP2.out.under HM.out).thr via (hmp.trans MO.out)); have E3 := Aside0.mk (V3.out.env A3.out); clear hb hat hmp) | (go_at_call_of 17 (Value.slice none 0 0); refine (opn_ [] l1 via none A1 0 c1 _ (Kd.C_nil _ _) (Nat.le_refl _) (Kd.C_below HR1.out (below_step HW.out (by repeat (first | (with_reducible first | exact HM.out | apply below_alloc | apply pw_below_drewN | apply below_drew1) | exact HM.out)))) HC1.out HG1.out.1 (by have := HLN.out; show 0 + l1.length ≤ _; omega)).mono ?_; rintro e w16 ⟨A8, c8, rfl, h8, hC8, hb⟩; have n_ := Aside0.mk (below_step (by repeat (first | (with_reducible first | exact HM.out | apply below_alloc | apply pw_below_drewN | apply below_drew1) | exact HM.out)) hb); clear HM; have HM := n_; clear n_; have n1_ := Aside0.mk (E3.out.under hb); clear E3; have E3 := n1_; clear n1_ hb; have C8 := Aside0.mk hC8; have H8 := Aside0.mk h8; clear hC8 h8) | (go_at_call_of 16 (Value.pointer (ptr l3)); refine (is_ (SizeOf.sizeOf (opn [] l1 via) + 1) (opn [] l1 via) _ A8 c8 _ (Nat.lt_succ_self _) GN.out (by have h_ := E3.out; rw [List.map_reverse, List.reverse_reverse] at h_; exact h_) C8.out H8.out).mono ?_; rintro e w17 ⟨rfl, hb⟩; have n_ := Aside0.mk (below_step (by repeat (first | (with_reducible first | exact HM.out | apply below_alloc | apply pw_below_drewN | apply below_drew1) | exact HM.out)) hb); clear HM; have HM := n_; clear n_; clear hb) | (go_at_call 6; refine (alive _).mono ?_; rintro e w18 ⟨rfl, hb⟩; have n_ := Aside0.mk (below_step (by repeat (first | (with_reducible first | exact HM.out | apply below_alloc | apply pw_below_drewN | apply below_drew1) | exact HM.out)) hb); clear HM; have HM := n_; clear n_; clear hb))
        go_ret
        exact ⟨rfl, below_step HW.out HM.out⟩
end Go.Proofs.Ytkdfbfhajojdeaa.Opens
