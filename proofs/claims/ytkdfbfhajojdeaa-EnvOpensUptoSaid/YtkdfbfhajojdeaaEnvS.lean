/- Tables and what is bound: as lists. Conditions: as the theorems say. -/
import Derived.Test.YtkdfbfhajojdeaaEnvR
namespace Go.Proofs.Ytkdfbfhajojdeaa.Env
open Go Go.RowKit Go.ChangeMaps Go.Proofs.YtkdfbfhajojdeaaW.PrintWords Go.Proofs.YtkdfbfhajojdeaaW.PrintLast Go.Proofs.YtkdfbfhajojdeaaW.PrintMore Go.Proofs.Ytkdfbfhajojdeaa.POP
attribute [local go_sem high] eqA28
set_option linter.unusedVariables false
set_option linter.unusedSimpArgs false
noncomputable local instance : DecidableEq S28 := fun a b => Classical.propDecidable _
/-! ### what is bound, once -/
theorem selC_new : ∀ {d c : Ch} {x : Nat × Nd}, x ∈ selC decV d c → d.any (fun y => keyEq y.2.k x.2.k) = false
  | _, [], _, h => by cases h
  | d, y :: r, x, h => by
    rw [selC] at h
    by_cases q : decV d y = true
    · rw [if_pos q] at h
      rcases List.mem_cons.mp h with rfl | h
      · simpa [decV] using q
      · have h2 := selC_new h
        rw [List.any_append, Bool.or_eq_false_iff] at h2
        exact h2.1
    · rw [if_neg q] at h
      have h2 := selC_new h
      rw [List.any_append, Bool.or_eq_false_iff] at h2
      exact h2.1
theorem find_hit {k : S28} {g : Nat} {e : Nd} {r : Ch} (h : keyEq e.k k = true) : find k ((g, e) :: r) = some e := by rw [find, if_pos (by unfold keyEq at h; exact h)]
theorem find_go {k : S28} {g : Nat} {e : Nd} {r : Ch} (h : keyEq e.k k = false) : find k ((g, e) :: r) = find k r := by rw [find, if_neg (by unfold keyEq at h; rw [h]; decide)]
theorem selC_find : ∀ {d c : Ch} {x : Nat × Nd}, x ∈ selC decV d c → find x.2.k c = some x.2
  | _, [], _, h => by cases h
  | d, y :: r, x, h => by
    rw [selC] at h
    by_cases q : decV d y = true
    · rw [if_pos q] at h
      rcases List.mem_cons.mp h with rfl | h
      · exact find_hit ((keyEq_iff _ _).mpr rfl)
      · have h2 := selC_new h
        rw [List.any_append, Bool.or_eq_false_iff, List.any_cons, Bool.or_eq_false_iff] at h2
        exact (find_go h2.2.1).trans (selC_find h)
    · rw [if_neg q] at h
      have h2 := selC_new h
      rw [List.any_append, Bool.or_eq_false_iff, List.any_cons, Bool.or_eq_false_iff] at h2
      exact (find_go h2.2.1).trans (selC_find h)
theorem find_sel : ∀ {d c : Ch} {k : S28} {e : Nd}, find k c = some e → d.any (fun y => keyEq y.2.k k) = false → ∃ g, (g, e) ∈ selC decV d c ∧ e.k = k
  | _, [], _, _, h, _ => by cases h
  | d, (g, y) :: r, k, e, h, hd => by
    by_cases q : keyEq y.k k = true
    · rw [find_hit q] at h
      obtain rfl := Option.some.inj h
      have ek := (keyEq_iff _ _).mp q
      refine ⟨g, ?_, ek⟩
      rw [selC, if_pos (by unfold decV; show (!d.any fun z => keyEq z.2.k y.k) = true; rw [ek, hd]; rfl)]
      exact List.mem_cons_self
    · have q2 : keyEq y.k k = false := by simpa using q
      rw [find_go q2] at h
      obtain ⟨g2, h2, h3⟩ := find_sel (d := d ++ [(g, y)]) h (by rw [List.any_append, hd, List.any_cons, q2]; rfl)
      refine ⟨g2, ?_, h3⟩
      rw [selC]
      by_cases c : decV d (g, y) = true
      · rw [if_pos c]
        exact List.mem_cons_of_mem _ h2
      · rw [if_neg c]
        exact h2
theorem selC_nodup : ∀ (d c : Ch), ((selC decV d c).map (·.2.k)).Nodup
  | _, [] => List.nodup_nil
  | d, y :: r => by
    have ih := selC_nodup (d ++ [y]) r
    rw [selC]
    by_cases q : decV d y = true
    · rw [if_pos q, List.map_cons, List.nodup_cons]
      refine ⟨fun h => ?_, ih⟩
      obtain ⟨x, hx, ex⟩ := List.mem_map.mp h
      have h2 := selC_new hx
      rw [List.any_append, Bool.or_eq_false_iff, List.any_cons, Bool.or_eq_false_iff] at h2
      have h3 := h2.2.1
      rw [(keyEq_iff _ _).mpr ex.symm] at h3
      cases h3
    · rw [if_neg q]
      exact ih
theorem len_of_same {α : Type} : ∀ {l m : List α}, l.Nodup → m.Nodup → (∀ x, x ∈ l ↔ x ∈ m) → l.length = m.length := fun h1 h2 h => ((List.perm_ext_iff_of_nodup h1 h2).mpr h).length_eq
theorem nodup_map {α β : Type} {f : α → β} (hf : ∀ x y, f x = f y → x = y) : ∀ {l : List α}, l.Nodup → (l.map f).Nodup
  | [], _ => List.nodup_nil
  | x :: r, h => by
    rw [List.nodup_cons] at h
    rw [List.map_cons, List.nodup_cons]
    refine ⟨fun q => ?_, nodup_map hf h.2⟩
    obtain ⟨y, hy, e⟩ := List.mem_map.mp q
    exact h.1 (hf _ _ e ▸ hy)
/-- A table has as many entries as keys are bound. -/
theorem table_len {w : World} {b n : Nat} {c : Ch} (h : MapK.MapAt Try.prog 28 kv w b n (tabF c)) : ∃ es clock, w.heap[b]? = some (.map es clock) ∧ es.size = (visC c).length := by
  obtain ⟨es, clock, hb, hn, hd, h1, h2⟩ := h
  refine ⟨es, clock, hb, ?_⟩
  have q := len_of_same hd (nodup_map kv_inj (selC_nodup [] c)) (fun v => ?_)
  · rw [List.length_map, List.length_map, List.length_map] at q
    rw [show (visC c).length = (selC decV [] c).length from rfl, ← q, Array.length_toList]
  · constructor
    · intro hv
      obtain ⟨e, he, rfl⟩ := List.mem_map.mp hv
      obtain ⟨x, l, ek, _, hf⟩ := h1 e he
      unfold tabF at hf
      obtain ⟨e2, he2, _⟩ := Option.map_eq_some_iff.mp hf
      obtain ⟨g, hg, ek2⟩ := find_sel (d := []) he2 rfl
      rw [ek]
      exact List.mem_map.mpr ⟨x, List.mem_map.mpr ⟨(g, e2), hg, ek2⟩, rfl⟩
    · intro hv
      obtain ⟨k, hk, rfl⟩ := List.mem_map.mp hv
      obtain ⟨x, hx, rfl⟩ := List.mem_map.mp hk
      obtain ⟨e, he, ek⟩ := h2 x.2.k (itm x.2) (by unfold tabF; rw [selC_find hx]; rfl)
      exact List.mem_map.mpr ⟨e, he, ek⟩
theorem mlen {w : World} {b n : Nat} {c : Ch} (h : MapK.MapAt Try.prog 28 kv w b n (tabF c)) (r : TypeId) : (Builtin.len_ #[57] r #[.map (some b)]).run Try.prog w = .ok (.int .i64 (visC c).length) w := by
  obtain ⟨es, clock, hb, hs⟩ := table_len h
  simp [Builtin.len_, run_underlying Try.underlying57, MapKept.run_getObj_map hb, goInt, Result.andThen, hs]
theorem look2 {w : World} {b n : Nat} {c : Ch} (h : MapK.MapAt Try.prog 28 kv w b n (tabF c)) {e : Nd} (hf : find e.k c = some e) (hk : wfK e.k) : (Instr.lookup 57 (.map (some b)) (.agg #[.int .i64 e.k.f0, .string e.k.f1]) true).run Try.prog w = .ok (.tuple #[.agg #[.int .i64 e.dc, .int .i64 e.vi, .pointer e.pa, .pointer e.pr], .bool true]) w := by
  have K := Go.Maps.Keyed.of_law law28
  obtain ⟨l, hl⟩ := key28 e.k hk
  have ht : tabF c e.k = some (itm e) := by unfold tabF; rw [hf]; rfl
  obtain ⟨es, clock, hb, _, h1⟩ := h.find K kv_inj e.k hl
  show (Instr.lookup 57 (.map (some b)) (kv e.k) true).run Try.prog w = _
  rcases h1 with ⟨r1, r2⟩ | ⟨j, e0, r1, r2, r3, r4⟩
  · rw [ht] at r2
    cases r2
  · rw [ht] at r4
    have r5 := (Option.some.inj r4).symm
    simp [Instr.lookup, run_underlying Try.underlying57, MapKept.run_getObj_map hb, K.check w es.isEmpty hl, r1, Result.andThen, r5, itm]
/-! ### bindings and those of which they were made, with the opens through which they came -/
inductive AlV (w : World) : Ch → List S26 → Prop
  | nil : AlV w [] []
  | cons {g : Nat} {e : Nd} {r : Ch} {x : S26} {l : List S26} : e.k = K26 x → e.dc = x.f2 → e.vi = x.f3 → EnvAt w e.pa x.f4 → EnvAt w e.pr x.f5 → AlV w r l → AlV w ((g, e) :: r) (x :: l)
section
variable {w w1 : World} {c c2 : Ch} {l l2 : List S26}
theorem AlV.al (h : AlV w c l) : Al w c l := by
  induction h with
  | nil => exact .nil
  | cons a b v e1 e2 _ ih => exact .cons a b e1 e2 ih
theorem AlV.under (h : AlV w c l) (hb : Below w.heap.size w w1) : AlV w1 c l := by
  induction h with
  | nil => exact .nil
  | cons a b v e1 e2 _ ih => exact .cons a b v (e1.under hb) (e2.under hb) ih
theorem AlV.app (h : AlV w c l) (h2 : AlV w c2 l2) : AlV w (c ++ c2) (l ++ l2) := by
  induction h with
  | nil => exact h2
  | cons a b v e1 e2 _ ih => exact .cons a b v e1 e2 ih
theorem AlV.rev (h : AlV w c l) : AlV w c.reverse l.reverse := by
  induction h with
  | nil => exact .nil
  | cons a b v e1 e2 _ ih =>
    rw [List.reverse_cons, List.reverse_cons]
    exact ih.app (.cons a b v e1 e2 .nil)
theorem AlV.sel (h : AlV w c l) : ∀ {d : Ch} {dl : List S26}, Al w d dl → AlV w (selC decV d c) (selS dl l) := by
  induction h with
  | nil => intro d dl _; exact .nil
  | cons a b v e1 e2 hr ih =>
    rename_i g e r x l
    intro d dl hd
    have hd2 := hd.app (Al.cons (g := g) a b e1 e2 .nil)
    have hq : decV d (g, e) = !(dl.any (fun y => keyEq (K26 y) (K26 x))) := by unfold decV; rw [hd.any, a]
    rw [selC, selS, hq]
    by_cases c : (!(dl.any (fun y => keyEq (K26 y) (K26 x)))) = true
    · rw [if_pos c, if_pos c]
      exact .cons a b v e1 e2 (ih hd2)
    · rw [if_neg c, if_neg c]
      exact ih hd2
theorem AlV.get (h : AlV w c l) : ∀ {i : Nat} {g : Nat} {e : Nd}, c[i]? = some (g, e) → ∃ x, l[i]? = some x ∧ e.k = K26 x ∧ e.dc = x.f2 ∧ e.vi = x.f3 ∧ EnvAt w e.pa x.f4 ∧ EnvAt w e.pr x.f5 := by
  induction h with
  | nil => intro i g e h; cases h
  | cons a b v e1 e2 hr ih =>
    intro i g e h
    cases i with
    | zero =>
      injection h with h
      injection h with h1 h2
      subst h1
      subst h2
      exact ⟨_, rfl, a, b, v, e1, e2⟩
    | succ i => exact ih h
theorem EnvAt.chainV {p : Option Addr} (h : EnvAt w p l) : ∃ c : Ch, p = ptr c ∧ At w c ∧ AlV w c l.reverse := by
  induction h with
  | nil => exact ⟨[], rfl, trivial, .nil⟩
  | snoc h1 hc e1 e2 ih _ _ =>
    obtain ⟨c, rfl, ha, hl⟩ := ih
    refine ⟨(_, _) :: c, rfl, ⟨hc, ha⟩, ?_⟩
    rw [List.reverse_append]
    exact .cons rfl rfl rfl e1 e2 hl
theorem AlV.env (h : AlV w c l) : At w c → EnvAt w (ptr c) l.reverse := by
  induction h with
  | nil => intro _; exact .nil
  | cons a b v e1 e2 hr ih =>
    rename_i g e r x l
    intro ha
    rw [List.reverse_cons]
    refine .snoc (ih ha.2) ?_ e1 e2
    have hc := ha.1
    obtain ⟨k, dc, vi, pa, pr⟩ := e
    simp only at a b v
    subst a
    subst b
    subst v
    exact hc
end
theorem len1 {P : Program} {w : World} {ops : Array Oper} {rest : List Oper} {o : Oper} {a : Act} {Q : Exit → Act → World → Prop} (hg : o.guard = none) (m : Operand) (t : TypeId) (hop : o.op = Op.call { callee := Callee.builtin Builtin.len, args := #[m], argTypes := #[t] }) {v : Value} {n : Int} (hm : a.eval m = v) (hr : ∀ r, (Builtin.len_ #[t] r #[v]).run P w = .ok (.int .i64 n) w)
    (hK : wpList P ops Q rest (a.put o.dst (.int .i64 n)) w) : wpList P ops Q (o :: rest) a w := by
  refine wpList_plain hg fun K' hK' => ?_
  unfold Oper.wp
  simp [execOp, hop, resolve, invoke, builtin, hm, hr, Result.andThen]
  exact hK' _ _ hK
/-- The first i of n are done. -/
def pfx (n i : Nat) : Array Bool := ((List.range n).map (fun j => decide (j < i))).toArray
theorem held16b {p0 p1 p2 p3 p4 p5 p6 p7 p8 p9 p10 p11 p12 p13 p14 p15 : Addr} {v0 v1 v2 v3 v4 v5 v6 v7 v8 v9 v10 v11 v12 v13 v14 v15 : Value} {w w' : World} (h : w.cell? p0 = some v0 ∧ w.cell? p1 = some v1 ∧ w.cell? p2 = some v2 ∧ w.cell? p3 = some v3 ∧ w.cell? p4 = some v4 ∧ w.cell? p5 = some v5 ∧ w.cell? p6 = some v6 ∧ w.cell? p7 = some v7 ∧ w.cell? p8 = some v8 ∧ w.cell? p9 = some v9 ∧ w.cell? p10 = some v10 ∧ w.cell? p11 = some v11 ∧ w.cell? p12 = some v12 ∧ w.cell? p13 = some v13 ∧ w.cell? p14 = some v14 ∧ w.cell? p15 = some v15) (hb : Below w.heap.size w w') :
    w'.cell? p0 = some v0 ∧ w'.cell? p1 = some v1 ∧ w'.cell? p2 = some v2 ∧ w'.cell? p3 = some v3 ∧ w'.cell? p4 = some v4 ∧ w'.cell? p5 = some v5 ∧ w'.cell? p6 = some v6 ∧ w'.cell? p7 = some v7 ∧ w'.cell? p8 = some v8 ∧ w'.cell? p9 = some v9 ∧ w'.cell? p10 = some v10 ∧ w'.cell? p11 = some v11 ∧ w'.cell? p12 = some v12 ∧ w'.cell? p13 = some v13 ∧ w'.cell? p14 = some v14 ∧ w'.cell? p15 = some v15 :=
  have k : ∀ (p : Addr) (v : Value), w.cell? p = some v → w'.cell? p = some v := fun p v h => (hb.cell (World.block_lt_of_cell? w _ h)).trans h
  ⟨k _ _ h.1, k _ _ h.2.1, k _ _ h.2.2.1, k _ _ h.2.2.2.1, k _ _ h.2.2.2.2.1, k _ _ h.2.2.2.2.2.1, k _ _ h.2.2.2.2.2.2.1, k _ _ h.2.2.2.2.2.2.2.1, k _ _ h.2.2.2.2.2.2.2.2.1, k _ _ h.2.2.2.2.2.2.2.2.2.1, k _ _ h.2.2.2.2.2.2.2.2.2.2.1, k _ _ h.2.2.2.2.2.2.2.2.2.2.2.1, k _ _ h.2.2.2.2.2.2.2.2.2.2.2.2.1, k _ _ h.2.2.2.2.2.2.2.2.2.2.2.2.2.1, k _ _ h.2.2.2.2.2.2.2.2.2.2.2.2.2.2.1, k _ _ h.2.2.2.2.2.2.2.2.2.2.2.2.2.2.2⟩
theorem lookup1 {P : Program} {w : World} {ops : Array Oper} {rest : List Oper} {o : Oper} {a : Act} {Q : Exit → Act → World → Prop} (hg : o.guard = none) (m x : Operand) (t : TypeId) (hop : o.op = Op.lookup t m x true) {mv xv v : Value} (hm : a.eval m = mv) (hx : a.eval x = xv) (hr : (Instr.lookup t mv xv true).run P w = .ok v w)
    (hK : wpList P ops Q rest (a.put o.dst v) w) : wpList P ops Q (o :: rest) a w := by
  refine wpList_plain hg fun K' hK' => ?_
  unfold Oper.wp
  simp [execOp, hop, hm, hx, hr, Result.andThen]
  exact hK' _ _ hK
theorem eq33 (d : Nat) (w : World) (p : Option Addr) : (Op.equalIn (d + 1) 33 (.pointer p) (.pointer p)).run Try.prog w = .ok true w := by
  obtain ⟨j, hj, hjs⟩ := Option.map_eq_some_iff.1 (show (Try.prog.info? 54).map (·.size) = some 7 by kernel_rfl)
  cases p with
  | none => simp [Op.equalIn, run_underlying Try.underlying33]
  | some a => simp [Op.equalIn, run_underlying Try.underlying33, sizeOf, typeInfo, hj, hjs, run_sameAddr_same]
theorem neq41 (w : World) (x y : Int) (p q : Option Addr) : (binOp .neq 41 (.agg #[.int .i64 x, .int .i64 y, .pointer p, .pointer q]) (.agg #[.int .i64 x, .int .i64 y, .pointer p, .pointer q])).run Try.prog w = .ok (.bool false) w := by
  have h : ∀ d : Nat, (Op.equalIn (d + 2) 41 (.agg #[.int .i64 x, .int .i64 y, .pointer p, .pointer q]) (.agg #[.int .i64 x, .int .i64 y, .pointer p, .pointer q])).run Try.prog w = .ok true w := fun d => by
    have e : (x == x && (y == y && (true && true))) = true := by simp
    rw [← e]
    refine eqA_of Try.underlying41 (by kernel_rfl) ?_
    refine eqf_cons (by rfl) (by go_simp; rfl) (by go_simp; rfl) (by go_simp) ?_
    refine eqf_cons (by rfl) (by go_simp; rfl) (by go_simp; rfl) (by go_simp) ?_
    refine eqf_cons (by rfl) (by first | (go_simp; done) | (go_simp; rfl)) (by first | (go_simp; done) | (go_simp; rfl)) (eq33 _ w p) ?_
    exact eqf_last (by rfl) (by first | (go_simp; done) | (go_simp; rfl)) (by first | (go_simp; done) | (go_simp; rfl)) (eq33 _ w q)
  simp only [binOp]
  simp [Op.equal, Op.maxDepth, h 9998]
def IsAt (n : Nat) : Prop := ∀ (l : List S26) (p A : Option Addr) (c : Nat) (w : World), SizeOf.sizeOf l < n → GoodL l → EnvAt w p l → Kd.C k26 w A l.length l → l.length ≤ c →
    Calls Try.prog 16 #[.pointer p, .slice A l.length c] w fun e w' => e = .returned (.bool true) ∧ Below w.heap.size w w'
set_option maxHeartbeats 64000000 in
set_option maxRecDepth 100000 in
theorem isround (n : Nat) (ih : IsAt n) : IsAt (n + 1) := by
  intro l p A cA w hz gl hp hA hcA
  obtain ⟨c, rfl, hat, hal⟩ := hp.chainV
  have IH := Aside0.mk ih
  have HZ : Aside0 (∀ x ∈ visS l, SizeOf.sizeOf x ≤ n) := ⟨fun x hx => by have h_ := List.sizeOf_lt_of_mem (visS_mem hx); omega⟩
  have GL : Aside0 (∀ x ∈ visS l, GoodT x) := ⟨fun x hx => gl.2 x (visS_mem hx)⟩
  have LC : Aside0 (c.length ≤ 1599289640400) := ⟨by rw [hal.al.len, List.length_reverse]; exact gl.1⟩
  have WF : Aside0 (∀ x ∈ c, wfK x.2.k) := ⟨Al.wf hal.al (fun x hx => gl.2 x (List.mem_reverse.mp hx))⟩
  have L1 := Aside0.mk gl.1
  have AV : Aside0 (AlV w (visC c).reverse (visS l)) := ⟨(hal.sel .nil).rev⟩
  have FD : Aside0 (∀ x ∈ visC c, find x.2.k c = some x.2 ∧ wfK x.2.k) := ⟨fun x hx => ⟨selC_find hx, WF.out x (selC_mem hx)⟩⟩
  have VL : Aside0 ((visC c).length = (visS l).length) := ⟨by have := AV.out.al.len; rw [List.length_reverse] at this; exact this⟩
  have LV : Aside0 ((visS l).length ≤ 1599289640400) := ⟨by unfold visS; rw [List.length_reverse]; have h_ := selS_len [] l.reverse; rw [List.length_reverse] at h_; have := gl.1; omega⟩
  have HAT := Aside0.mk hat
  have HA := Aside0.mk hA
  have HCA := Aside0.mk hcA
  have HM := Aside0.mk (Below.refl w.heap.size w)
  clear ih hz gl hp hal hat hA hcA
  generalize hxs : visS l = xs at HZ GL AV VL LV
  have EX := Aside0.mk hxs
  clear hxs
  go_enter Try.func16, Try.ntmps16
  go_upto_region 2 with (first | ((with_reducible refine gate_callee (f := 14) rfl ?_); refine goesL_ (some 15) rfl rfl Try.func14 (by kernel_rfl) rfl #[.pointer (ptr c)] rfl (by (try simp only [List.map_toArray, List.map_cons, List.map_nil]); first | done | rfl) ?_; refine (keys_ c _ (At.below HAT.out (by repeat (first | (with_reducible first | exact HM.out | apply below_alloc | apply pw_below_drewN | apply below_drew1) | exact HM.out))) WF.out LC.out).mono ?_; rintro e w1 ⟨v1, rfl, hr, hb⟩; refine ⟨_, rfl, ?_⟩; have HM1 := Aside0.mk (below_step (by repeat (first | (with_reducible first | exact HM.out | apply below_alloc | apply pw_below_drewN | apply below_drew1) | exact HM.out)) hb); have HR1 := Aside0.mk (Kd.R_lower hr (below_size (by repeat (first | (with_reducible first | exact HM.out | apply below_alloc | apply pw_below_drewN | apply below_drew1) | exact HM.out)))); clear hr hb; obtain ⟨Ak, ck, ek⟩ := Kd.R_slice HR1.out; subst ek; rw [List.length_map, List.length_reverse, VL.out] at HR1 ⊢) | ((with_reducible refine gate_callee (f := 23) rfl ?_); refine goesL_ (some 17) rfl rfl Try.func23 (by kernel_rfl) rfl #[.slice A l.length cA] rfl (by (try simp only [List.map_toArray, List.map_cons, List.map_nil]); first | done | rfl) ?_; refine (vis_ l A cA _ (Kd.C_below HA.out HM1.out) HCA.out L1.out).mono ?_; rintro e w2 ⟨A2, c2, rfl, hc, hC, hb⟩; refine ⟨_, rfl, ?_⟩; rw [EX.out] at hc hC ⊢; have HV2 := Aside0.mk hC; have HC2 := Aside0.mk hc; have HM2 := Aside0.mk (below_step HM1.out hb); have HR2 := Aside0.mk (Kd.R_below HR1.out hb); clear hc hC hb) | ((with_reducible refine gate_callee (f := 24) rfl ?_); refine goesL_ (some 19) rfl rfl Try.func24 (by kernel_rfl) rfl #[.pointer (ptr c)] rfl (by (try simp only [List.map_toArray, List.map_cons, List.map_nil]); first | done | rfl) ?_; refine (table_ c _ (At.below HAT.out HM2.out) WF.out LC.out).mono ?_; rintro e w3 ⟨b3, rfl, hmp, hb3, hb⟩; refine ⟨_, rfl, ?_⟩; have MP := Aside0.mk hmp; have HV := Aside0.mk (Kd.C_below HV2.out hb); have HR := Aside0.mk (Kd.R_below HR2.out hb); have HM3 := Aside0.mk (below_step HM2.out hb); clear hmp hb3 hb))
  clear HR1 HV2 HR2
  have AT3 := Aside0.mk (At.below HAT.out HM3.out)
  have AV3 := Aside0.mk (AV.out.under HM3.out)
  clear HAT AV HA HCA
  have c0 : (((xs.length : Int)) != ((xs.length : Int))) = false := bne_self_eq_false _
  have hml : (Builtin.len_ #[57] 3 #[.map (some b3)]).run Try.prog w3 = .ok (.int .i64 (xs.length : Int)) w3 := by rw [mlen MP.out 3, VL.out]
  have HW := Aside0.mk (Below.refl w3.heap.size w3)
  go_wp2
  clear hml
  go_loopg [34] (xs.length + 1) (fun kq v34 w' => ∃ (i : Nat) (a : Int), v34 = .int .i64 a ∧ Aside0 (a = (i : Int)) ∧ Aside0 (kq + i = xs.length + 1 ∧ i ≤ xs.length) ∧ Aside0 (Below w3.heap.size w3 w'))
  case atStart => exact ⟨0, 0, rfl, ⟨rfl⟩, ⟨⟨by omega, by omega⟩⟩, ⟨(by repeat (first | (with_reducible first | exact HW.out | apply below_alloc | apply pw_below_drewN | apply below_drew1) | exact HW.out))⟩⟩
  case round =>
    clear HW HM
    obtain ⟨i, a, rfl, HE, HK, HW⟩ := hrel
    cases gk with
    | zero => have := HK.out; omega
    | succ k1 =>
      by_cases cc : a < (xs.length : Int)
      · have c0b : decide (a < (xs.length : Int)) = true := decide_eq_true cc
        have hi : i < xs.length := by have := HE.out; omega
        have p1 : (0 : Int) ≤ a := by have := HE.out; omega
        have q1 : a < (xs.length : Int) := cc
        obtain ⟨bd, B4, d4, B5, d5, ebd, hy0, hy1, hy2, hy3, hy4, hy5, m4, k4, m5, k5⟩ := at_T26 (Kd.C_below HV.out HW.out) a p1 q1
        cases ebd
        obtain ⟨y, hy⟩ : ∃ y, xs[i]? = some y := ⟨xs[i], List.getElem?_eq_getElem hi⟩
        have hry : rd_T26 xs a = y := by unfold rd_T26; rw [HE.out, Int.toNat_natCast, List.getD_eq_getElem?_getD, hy]; rfl
        rw [hry] at hy0 hy1 hy2 hy3 hy4 hy5 m4 k4 m5 k5
        have hi2 : i < (visC c).reverse.length := by rw [List.length_reverse, VL.out]; exact hi
        obtain ⟨⟨g, e⟩, hge⟩ : ∃ q, (visC c).reverse[i]? = some q := ⟨_, List.getElem?_eq_getElem hi2⟩
        have hmc : (g, e) ∈ visC c := List.mem_reverse.mp (List.mem_of_getElem? hge)
        obtain ⟨y2, hy', ek, edc, evi, epa, epr⟩ := AV3.out.get hge
        obtain rfl : y2 = y := by rw [hy] at hy'; exact (Option.some.inj hy').symm
        have FE := Aside0.mk (FD.out _ hmc).1
        have WE := Aside0.mk (FD.out _ hmc).2
        have EK := Aside0.mk ek
        have EP4 := Aside0.mk epa
        have EP5 := Aside0.mk epr
        have hkl : ((visC c).reverse.map (·.2.k)).length = xs.length := by rw [List.length_map, List.length_reverse, VL.out]
        have HRW := Aside0.mk (Kd.R_below HR.out HW.out)
        obtain ⟨gk_, ckk, ekk, _, _, _⟩ := Kd.R_form HRW.out (by rw [hkl]; omega)
        injection ekk with ek1 ek2 ek3
        subst ek1
        subst ek3
        clear ek2
        obtain ⟨ce, hl1, hM1, hc1, hf1⟩ := Kd.R_elem HRW.out ⟨0, ⟨#[]⟩⟩ a p1 q1
        obtain rfl := k28_openM hM1
        have hgd : ((visC c).reverse.map (·.2.k)).getD a.toNat ⟨0, ⟨#[]⟩⟩ = e.k := by rw [HE.out, Int.toNat_natCast, List.getD_eq_getElem?_getD, List.getElem?_map, hge]; rfl
        rw [hgd] at hc1
        have hk0 := hc1 0 _ rfl
        have hk1 := hc1 1 _ rfl
        rw [show k28.sz = 2 from rfl] at hk0 hk1
        have R4 : Aside0 (∀ w9, Below wr.heap.size wr w9 → Calls Try.prog 16 #[.pointer e.pa, .slice B4 y2.f4.length d4] w9 fun e w' => e = .returned (.bool true) ∧ Below w9.heap.size w9 w') :=
          ⟨fun w9 hb => IH.out y2.f4 e.pa B4 d4 w9 (Nat.lt_of_lt_of_le (sz4 y2) (HZ.out y2 (List.mem_of_getElem? hy))) (GL.out y2 (List.mem_of_getElem? hy)).p4 ((EP4.out.under HW.out).under hb) (Kd.C_below k4 hb) m4⟩
        have R5 : Aside0 (∀ w9, Below wr.heap.size wr w9 → Calls Try.prog 16 #[.pointer e.pr, .slice B5 y2.f5.length d5] w9 fun e w' => e = .returned (.bool true) ∧ Below w9.heap.size w9 w') :=
          ⟨fun w9 hb => IH.out y2.f5 e.pr B5 d5 w9 (Nat.lt_of_lt_of_le (sz5 y2) (HZ.out y2 (List.mem_of_getElem? hy))) (GL.out y2 (List.mem_of_getElem? hy)).p5 ((EP5.out.under HW.out).under hb) (Kd.C_below k5 hb) m5⟩
        have ew : wrap64 (a + 1) = a + 1 := wid (by have := HE.out; omega) (by have := HE.out; have := LV.out; omega)
        replace p1 := eq_true p1
        replace q1 := eq_true q1
        have HWR := Aside0.mk (Below.refl wr.heap.size wr)
        have ED := Aside0.mk edc
        have EV := Aside0.mk evi
        clear hry hy hy' hge hgd hc1 hf1 hl1 k4 k5 m4 m5 ek edc evi epa epr hkl cc hmc hi2
        obtain ⟨k, dc, vi, pa, pr⟩ := e
        have ek := EK.out
        have edc := ED.out
        have evi := EV.out
        simp only at ek edc evi
        subst ek
        subst edc
        subst evi
        have FE2 : Aside0 (find (K26 y2) c = some ⟨K26 y2, y2.f2, y2.f3, pa, pr⟩) := ⟨FE.out⟩
        have WE2 : Aside0 (wfK (K26 y2)) := ⟨WE.out⟩
        have hk0' : wr.cell? ⟨gk_, a.toNat * 2, none⟩ = some (.int .i64 y2.f0) := hk0
        have hk1' : wr.cell? ⟨gk_, a.toNat * 2 + 1, none⟩ = some (.string y2.f1) := hk1
        clear EK ED EV FE WE hk0 hk1 hM1
        have HK0 := Aside0.mk hk0'
        have HK1 := Aside0.mk hk1'
        clear hk0' hk1'
        generalize hyy : y2 = y at *
        clear hyy
        have HM := HWR
        go_upto_region 7 with (first | ((with_reducible refine gate_dst (N := 9) rfl ?_); refine box_event ?hg (N := 9) ?hd (cs := #[.int .i64 0, .string (⟨#[]⟩ : ByteArray), .int .i64 0, .int .i64 0, .slice none 0 0, .slice none 0 0]) (t := 26) ?hr ?_; (case hd => rfl); (case hg => rfl); (case hr => first | (go_simp; done) | (go_simp; rfl)); intro g9 hg w_g9 hbox hb; have Bg9 := Aside0.mk hbox; have Gg9 := Aside0.mk ((by rw [hg]; exact (below_size (by repeat (first | (with_reducible first | exact HM.out | apply below_alloc | apply pw_below_drewN | apply below_drew1) | exact HM.out)))) : wr.heap.size ≤ g9); have n0_ := Aside0.mk (below_step (by repeat (first | (with_reducible first | exact HM.out | apply below_alloc | apply pw_below_drewN | apply below_drew1) | exact HM.out)) hb); clear HM; have HM := n0_; clear n0_ hg; have cg9_0 : w_g9.cell? ⟨g9, 0, none⟩ = some (.int .i64 0) := (blk_cell Bg9.out 0).trans rfl; have fg9_0 := blk_frozen Bg9.out 0; have cg9_1 : w_g9.cell? ⟨g9, 1, none⟩ = some (.string (⟨#[]⟩ : ByteArray)) := (blk_cell Bg9.out 1).trans rfl; have fg9_1 := blk_frozen Bg9.out 1; have cg9_2 : w_g9.cell? ⟨g9, 2, none⟩ = some (.int .i64 0) := (blk_cell Bg9.out 2).trans rfl; have fg9_2 := blk_frozen Bg9.out 2; have cg9_3 : w_g9.cell? ⟨g9, 3, none⟩ = some (.int .i64 0) := (blk_cell Bg9.out 3).trans rfl; have fg9_3 := blk_frozen Bg9.out 3; have cg9_4 : w_g9.cell? ⟨g9, 4, none⟩ = some (.slice none 0 0) := (blk_cell Bg9.out 4).trans rfl; have fg9_4 := blk_frozen Bg9.out 4; have cg9_5 : w_g9.cell? ⟨g9, 5, none⟩ = some (.slice none 0 0) := (blk_cell Bg9.out 5).trans rfl; have fg9_5 := blk_frozen Bg9.out 5; clear hbox hb))
        have Bg9_0 := Aside0.mk (blk_put Bg9.out 0 (.int .i64 y.f0) rfl)
        have Bg9_1 := Aside0.mk (blk_put Bg9_0.out 1 (.string y.f1) rfl)
        have Bg9_2 := Aside0.mk (blk_put Bg9_1.out 2 (.int .i64 y.f2) rfl)
        have Bg9_3 := Aside0.mk (blk_put Bg9_2.out 3 (.int .i64 y.f3) rfl)
        have Bg9_4 := Aside0.mk (blk_put Bg9_3.out 4 (.slice B4 y.f4.length d4) rfl)
        have Bg9_5 := Aside0.mk (blk_put Bg9_4.out 5 (.slice B5 y.f5.length d5) rfl)
        have Xg9 := Aside0.mk (show (((((((w_g9.setCell ⟨g9, 0, none⟩ (.int .i64 y.f0)).setCell ⟨g9, 1, none⟩ (.string y.f1)).setCell ⟨g9, 2, none⟩ (.int .i64 y.f2)).setCell ⟨g9, 3, none⟩ (.int .i64 y.f3)).setCell ⟨g9, 4, none⟩ (.slice B4 y.f4.length d4)).setCell ⟨g9, 5, none⟩ (.slice B5 y.f5.length d5))).heap[g9]? = some (.cells #[.int .i64 y.f0, .string y.f1, .int .i64 y.f2, .int .i64 y.f3, .slice B4 y.f4.length d4, .slice B5 y.f5.length d5] 26 (0, 0)) from Bg9_5.out)
        have n0_ := Aside0.mk (below_set (below_set (below_set (below_set (below_set (below_set HM.out Gg9.out (v := .int .i64 y.f0) (j := 0)) Gg9.out (v := .string y.f1) (j := 1)) Gg9.out (v := .int .i64 y.f2) (j := 2)) Gg9.out (v := .int .i64 y.f3) (j := 3)) Gg9.out (v := .slice B4 y.f4.length d4) (j := 4)) Gg9.out (v := .slice B5 y.f5.length d5) (j := 5))
        clear HM
        have HM := n0_
        clear n0_
        clear Bg9 Bg9_0 Bg9_1 Bg9_2 Bg9_3 Bg9_4 Bg9_5 cg9_0 fg9_0 cg9_1 fg9_1 cg9_2 fg9_2 cg9_3 fg9_3 cg9_4 fg9_4 cg9_5 fg9_5
        generalize ((((((w_g9.setCell ⟨g9, 0, none⟩ (.int .i64 y.f0)).setCell ⟨g9, 1, none⟩ (.string y.f1)).setCell ⟨g9, 2, none⟩ (.int .i64 y.f2)).setCell ⟨g9, 3, none⟩ (.int .i64 y.f3)).setCell ⟨g9, 4, none⟩ (.slice B4 y.f4.length d4)).setCell ⟨g9, 5, none⟩ (.slice B5 y.f5.length d5)) = w6 at Xg9 HM  ⊢
        have hk0 := (HM.out.cell (World.block_lt_of_cell? wr _ HK0.out)).trans HK0.out
        have hk1 := (HM.out.cell (World.block_lt_of_cell? wr _ HK1.out)).trans HK1.out
        clear hy0 hy1 hy2 hy3 hy4 hy5
        go_upto_region 8 with (first | ((with_reducible refine gate_callee (f := 15) rfl ?_); refine goesL_ (some 45) rfl rfl Try.func15 (by kernel_rfl) rfl #[.pointer (ptr c), .agg #[.int .i64 y.f0, .string y.f1]] rfl (by (try simp only [List.map_toArray, List.map_cons, List.map_nil]); first | done | rfl) ?_; refine (find_ c (K26 y) _ (At.below (At.below AT3.out HW.out) HM.out)).mono ?_; rintro e7 w7 ⟨rfl, hb⟩; rw [FE2.out]; refine ⟨_, rfl, ?_⟩; have n0_ := Aside0.mk (below_step HM.out hb); clear HM; have HM := n0_; clear n0_; have n1_ := Aside0.mk (blk_below Xg9.out hb); clear Xg9; have Xg9 := n1_; clear n1_ hb hk0 hk1; dsimp only [itemV, Option.isSome]) | ((with_reducible refine gate_dst (N := 10) rfl ?_); refine box_event ?hg (N := 10) ?hd (cs := #[.int .i64 0, .int .i64 0, .pointer none, .pointer none]) (t := 41) ?hr ?_; (case hd => rfl); (case hg => rfl); (case hr => first | (go_simp; done) | (go_simp; rfl)); intro g10 hg w_g10 hbox hb; have Bg10 := Aside0.mk hbox; have Gg10 := Aside0.mk ((by rw [hg]; exact (below_size (by repeat (first | (with_reducible first | exact HM.out | apply below_alloc | apply pw_below_drewN | apply below_drew1) | exact HM.out)))) : wr.heap.size ≤ g10); have n0_ := Aside0.mk (below_step (by repeat (first | (with_reducible first | exact HM.out | apply below_alloc | apply pw_below_drewN | apply below_drew1) | exact HM.out)) hb); clear HM; have HM := n0_; clear n0_ hg; have cg10_0 : w_g10.cell? ⟨g10, 0, none⟩ = some (.int .i64 0) := (blk_cell Bg10.out 0).trans rfl; have fg10_0 := blk_frozen Bg10.out 0; have cg10_1 : w_g10.cell? ⟨g10, 1, none⟩ = some (.int .i64 0) := (blk_cell Bg10.out 1).trans rfl; have fg10_1 := blk_frozen Bg10.out 1; have cg10_2 : w_g10.cell? ⟨g10, 2, none⟩ = some (.pointer none) := (blk_cell Bg10.out 2).trans rfl; have fg10_2 := blk_frozen Bg10.out 2; have cg10_3 : w_g10.cell? ⟨g10, 3, none⟩ = some (.pointer none) := (blk_cell Bg10.out 3).trans rfl; have fg10_3 := blk_frozen Bg10.out 3; have Ng9_g10 := Aside0.mk (blk_ne (blk_below Xg9.out hb) hbox (by decide)); have n1_ := Aside0.mk (blk_below Xg9.out hb); clear Xg9; have Xg9 := n1_; clear n1_; clear hbox hb))
        have Bg10_0 := Aside0.mk (blk_put Bg10.out 0 (.int .i64 y.f2) rfl)
        have Bg10_1 := Aside0.mk (blk_put Bg10_0.out 1 (.int .i64 y.f3) rfl)
        have Bg10_2 := Aside0.mk (blk_put Bg10_1.out 2 (.pointer pa) rfl)
        have Bg10_3 := Aside0.mk (blk_put Bg10_2.out 3 (.pointer pr) rfl)
        have Xg10 := Aside0.mk (show (((((w_g10.setCell ⟨g10, 0, none⟩ (.int .i64 y.f2)).setCell ⟨g10, 1, none⟩ (.int .i64 y.f3)).setCell ⟨g10, 2, none⟩ (.pointer pa)).setCell ⟨g10, 3, none⟩ (.pointer pr))).heap[g10]? = some (.cells #[.int .i64 y.f2, .int .i64 y.f3, .pointer pa, .pointer pr] 41 (0, 0)) from Bg10_3.out)
        have n0_ := Aside0.mk (below_set (below_set (below_set (below_set HM.out Gg10.out (v := .int .i64 y.f2) (j := 0)) Gg10.out (v := .int .i64 y.f3) (j := 1)) Gg10.out (v := .pointer pa) (j := 2)) Gg10.out (v := .pointer pr) (j := 3))
        clear HM
        have HM := n0_
        clear n0_
        have n0_ := Aside0.mk (blk_far (blk_far (blk_far (blk_far Xg9.out (show g9 ≠ (⟨g10, 0, none⟩ : Addr).block from Ng9_g10.out) (.int .i64 y.f2)) (show g9 ≠ (⟨g10, 1, none⟩ : Addr).block from Ng9_g10.out) (.int .i64 y.f3)) (show g9 ≠ (⟨g10, 2, none⟩ : Addr).block from Ng9_g10.out) (.pointer pa)) (show g9 ≠ (⟨g10, 3, none⟩ : Addr).block from Ng9_g10.out) (.pointer pr))
        clear Xg9
        have Xg9 := n0_
        clear n0_
        clear Bg10 Bg10_0 Bg10_1 Bg10_2 Bg10_3 cg10_0 fg10_0 cg10_1 fg10_1 cg10_2 fg10_2 cg10_3 fg10_3
        generalize ((((w_g10.setCell ⟨g10, 0, none⟩ (.int .i64 y.f2)).setCell ⟨g10, 1, none⟩ (.int .i64 y.f3)).setCell ⟨g10, 2, none⟩ (.pointer pa)).setCell ⟨g10, 3, none⟩ (.pointer pr)) = w8 at Xg10 HM Xg9 ⊢
        have hk0 := (HM.out.cell (World.block_lt_of_cell? wr _ HK0.out)).trans HK0.out
        have hk1 := (HM.out.cell (World.block_lt_of_cell? wr _ HK1.out)).trans HK1.out
        have LK := Aside0.mk (look2 (e := ⟨K26 y, y.f2, y.f3, pa, pr⟩) (MP.out.below (below_step HW.out HM.out)) FE2.out WE2.out)
        go_upto_region 9 with (first | ((with_reducible refine gate_dst (N := 54) rfl ?_); refine lookup1 rfl _ _ _ rfl (by first | rfl | (go_simp; rfl)) (by first | rfl | (go_simp; rfl)) LK.out ?_) | ((with_reducible refine gate_dst (N := 12) rfl ?_); refine box_event ?hg (N := 12) ?hd (cs := #[.int .i64 0, .int .i64 0, .pointer none, .pointer none]) (t := 41) ?hr ?_; (case hd => rfl); (case hg => rfl); (case hr => first | (go_simp; done) | (go_simp; rfl)); intro g12 hg w_g12 hbox hb; have Bg12 := Aside0.mk hbox; have Gg12 := Aside0.mk ((by rw [hg]; exact (below_size (by repeat (first | (with_reducible first | exact HM.out | apply below_alloc | apply pw_below_drewN | apply below_drew1) | exact HM.out)))) : wr.heap.size ≤ g12); have n0_ := Aside0.mk (below_step (by repeat (first | (with_reducible first | exact HM.out | apply below_alloc | apply pw_below_drewN | apply below_drew1) | exact HM.out)) hb); clear HM; have HM := n0_; clear n0_; have cg12_0 : w_g12.cell? ⟨g12, 0, none⟩ = some (.int .i64 0) := (blk_cell Bg12.out 0).trans rfl; have fg12_0 := blk_frozen Bg12.out 0; have cg12_1 : w_g12.cell? ⟨g12, 1, none⟩ = some (.int .i64 0) := (blk_cell Bg12.out 1).trans rfl; have fg12_1 := blk_frozen Bg12.out 1; have cg12_2 : w_g12.cell? ⟨g12, 2, none⟩ = some (.pointer none) := (blk_cell Bg12.out 2).trans rfl; have fg12_2 := blk_frozen Bg12.out 2; have cg12_3 : w_g12.cell? ⟨g12, 3, none⟩ = some (.pointer none) := (blk_cell Bg12.out 3).trans rfl; have fg12_3 := blk_frozen Bg12.out 3; have Ng9_g12 := Aside0.mk (blk_ne (blk_below Xg9.out hb) hbox (by decide)); have Ng10_g12 := Aside0.mk ((by have h1_ := (Array.getElem?_eq_some_iff.mp Xg10.out).1; omega) : g10 ≠ g12); have n1_ := Aside0.mk (blk_below Xg9.out hb); clear Xg9; have Xg9 := n1_; clear n1_; have n1_ := Aside0.mk (blk_below Xg10.out hb); clear Xg10; have Xg10 := n1_; clear n1_; clear hbox hb hg))
        have Bg12_0 := Aside0.mk (blk_put Bg12.out 0 (.int .i64 y.f2) rfl)
        have Bg12_1 := Aside0.mk (blk_put Bg12_0.out 1 (.int .i64 y.f3) rfl)
        have Bg12_2 := Aside0.mk (blk_put Bg12_1.out 2 (.pointer pa) rfl)
        have Bg12_3 := Aside0.mk (blk_put Bg12_2.out 3 (.pointer pr) rfl)
        have Xg12 := Aside0.mk (show (((((w_g12.setCell ⟨g12, 0, none⟩ (.int .i64 y.f2)).setCell ⟨g12, 1, none⟩ (.int .i64 y.f3)).setCell ⟨g12, 2, none⟩ (.pointer pa)).setCell ⟨g12, 3, none⟩ (.pointer pr))).heap[g12]? = some (.cells #[.int .i64 y.f2, .int .i64 y.f3, .pointer pa, .pointer pr] 41 (0, 0)) from Bg12_3.out)
        have n0_ := Aside0.mk (below_set (below_set (below_set (below_set HM.out Gg12.out (v := .int .i64 y.f2) (j := 0)) Gg12.out (v := .int .i64 y.f3) (j := 1)) Gg12.out (v := .pointer pa) (j := 2)) Gg12.out (v := .pointer pr) (j := 3))
        clear HM
        have HM := n0_
        clear n0_
        have n0_ := Aside0.mk (blk_far (blk_far (blk_far (blk_far Xg9.out (show g9 ≠ (⟨g12, 0, none⟩ : Addr).block from Ng9_g12.out) (.int .i64 y.f2)) (show g9 ≠ (⟨g12, 1, none⟩ : Addr).block from Ng9_g12.out) (.int .i64 y.f3)) (show g9 ≠ (⟨g12, 2, none⟩ : Addr).block from Ng9_g12.out) (.pointer pa)) (show g9 ≠ (⟨g12, 3, none⟩ : Addr).block from Ng9_g12.out) (.pointer pr))
        clear Xg9
        have Xg9 := n0_
        clear n0_
        have n0_ := Aside0.mk (blk_far (blk_far (blk_far (blk_far Xg10.out (show g10 ≠ (⟨g12, 0, none⟩ : Addr).block from Ng10_g12.out) (.int .i64 y.f2)) (show g10 ≠ (⟨g12, 1, none⟩ : Addr).block from Ng10_g12.out) (.int .i64 y.f3)) (show g10 ≠ (⟨g12, 2, none⟩ : Addr).block from Ng10_g12.out) (.pointer pa)) (show g10 ≠ (⟨g12, 3, none⟩ : Addr).block from Ng10_g12.out) (.pointer pr))
        clear Xg10
        have Xg10 := n0_
        clear n0_
        clear Bg12 Bg12_0 Bg12_1 Bg12_2 Bg12_3 cg12_0 fg12_0 cg12_1 fg12_1 cg12_2 fg12_2 cg12_3 fg12_3
        generalize ((((w_g12.setCell ⟨g12, 0, none⟩ (.int .i64 y.f2)).setCell ⟨g12, 1, none⟩ (.int .i64 y.f3)).setCell ⟨g12, 2, none⟩ (.pointer pa)).setCell ⟨g12, 3, none⟩ (.pointer pr)) = w10 at Xg12 HM Xg9 Xg10 ⊢
        clear hk0 hk1 LK
        have HH : Aside0 ((fun w' : World => w'.cell? ⟨gk_, a.toNat * 2, none⟩ = some (.int .i64 y.f0) ∧ w'.cell? ⟨gk_, a.toNat * 2 + 1, none⟩ = some (.string y.f1) ∧ w'.cell? ⟨g9, 0, none⟩ = some (.int .i64 y.f0) ∧ w'.cell? ⟨g9, 1, none⟩ = some (.string y.f1) ∧ w'.cell? ⟨g9, 2, none⟩ = some (.int .i64 y.f2) ∧ w'.cell? ⟨g9, 3, none⟩ = some (.int .i64 y.f3) ∧ w'.cell? ⟨g9, 4, none⟩ = some (.slice B4 y.f4.length d4) ∧ w'.cell? ⟨g9, 5, none⟩ = some (.slice B5 y.f5.length d5) ∧ w'.cell? ⟨g10, 0, none⟩ = some (.int .i64 y.f2) ∧ w'.cell? ⟨g10, 1, none⟩ = some (.int .i64 y.f3) ∧ w'.cell? ⟨g10, 2, none⟩ = some (.pointer pa) ∧ w'.cell? ⟨g10, 3, none⟩ = some (.pointer pr) ∧ w'.cell? ⟨g12, 0, none⟩ = some (.int .i64 y.f2) ∧ w'.cell? ⟨g12, 1, none⟩ = some (.int .i64 y.f3) ∧ w'.cell? ⟨g12, 2, none⟩ = some (.pointer pa) ∧ w'.cell? ⟨g12, 3, none⟩ = some (.pointer pr)) w10) := ⟨(HM.out.cell (World.block_lt_of_cell? wr _ HK0.out)).trans HK0.out, (HM.out.cell (World.block_lt_of_cell? wr _ HK1.out)).trans HK1.out, (blk_cell Xg9.out 0).trans rfl, (blk_cell Xg9.out 1).trans rfl, (blk_cell Xg9.out 2).trans rfl, (blk_cell Xg9.out 3).trans rfl, (blk_cell Xg9.out 4).trans rfl, (blk_cell Xg9.out 5).trans rfl, (blk_cell Xg10.out 0).trans rfl, (blk_cell Xg10.out 1).trans rfl, (blk_cell Xg10.out 2).trans rfl, (blk_cell Xg10.out 3).trans rfl, (blk_cell Xg12.out 0).trans rfl, (blk_cell Xg12.out 1).trans rfl, (blk_cell Xg12.out 2).trans rfl, (blk_cell Xg12.out 3).trans rfl⟩
        refine start_ (n := 53) (S := fun w' => w'.cell? ⟨gk_, a.toNat * 2, none⟩ = some (.int .i64 y.f0) ∧ w'.cell? ⟨gk_, a.toNat * 2 + 1, none⟩ = some (.string y.f1) ∧ w'.cell? ⟨g9, 0, none⟩ = some (.int .i64 y.f0) ∧ w'.cell? ⟨g9, 1, none⟩ = some (.string y.f1) ∧ w'.cell? ⟨g9, 2, none⟩ = some (.int .i64 y.f2) ∧ w'.cell? ⟨g9, 3, none⟩ = some (.int .i64 y.f3) ∧ w'.cell? ⟨g9, 4, none⟩ = some (.slice B4 y.f4.length d4) ∧ w'.cell? ⟨g9, 5, none⟩ = some (.slice B5 y.f5.length d5) ∧ w'.cell? ⟨g10, 0, none⟩ = some (.int .i64 y.f2) ∧ w'.cell? ⟨g10, 1, none⟩ = some (.int .i64 y.f3) ∧ w'.cell? ⟨g10, 2, none⟩ = some (.pointer pa) ∧ w'.cell? ⟨g10, 3, none⟩ = some (.pointer pr) ∧ w'.cell? ⟨g12, 0, none⟩ = some (.int .i64 y.f2) ∧ w'.cell? ⟨g12, 1, none⟩ = some (.int .i64 y.f3) ∧ w'.cell? ⟨g12, 2, none⟩ = some (.pointer pa) ∧ w'.cell? ⟨g12, 3, none⟩ = some (.pointer pr)) (ds := []) (pfx 53 0) (by kernel_rfl) rfl rfl (held16b HH.out (below_drew1 (Below.refl _ _))) (fun hHeld => ?_)
        have n0_ := Aside0.mk (below_drew1 HM.out)
        clear HM HH Xg9 Xg10 Xg12 HK0 HK1
        have HM := n0_
        clear n0_
        have e41 : ∀ w' : World, (binOp .neq 41 (.agg #[.int .i64 y.f2, .int .i64 y.f3, .pointer pa, .pointer pr]) (.agg #[.int .i64 y.f2, .int .i64 y.f3, .pointer pa, .pointer pr])).run Try.prog w' = .ok (.bool false) w' := fun w' => neq41 w' _ _ _ _
        have e3a : (y.f2 != y.f2) = false := bne_self_eq_false _
        have e3b : (y.f3 != y.f3) = false := bne_self_eq_false _
        have e28 : (!(y.f0 == y.f0 && (y.f1.toList == y.f1.toList))) = false := by simp
        generalize w10.drew = wd at HM hHeld ⊢
        refine pure_ (i := 0) (N := some 57) (v := ?_) (a' := ?_) (pfx 53 1) rfl rfl (by as_aux_lemma => kernel_rfl) (fun _ _ _ h => h) (Or.inl ⟨by rfl, ?_⟩) ?_ ?_
        rotate_left
        · intro w'; go_simp; with_reducible rfl
        rotate_left
        · simp only [Act.put, List.setIfInBounds_toArray, List.set_cons_zero, List.set_cons_succ, i64_w, i32_w]; rfl
        refine pure_ (i := 1) (N := some 58) (v := ?_) (a' := ?_) (pfx 53 2) rfl rfl (by as_aux_lemma => kernel_rfl) (fun _ _ _ h => h) (Or.inl ⟨by rfl, ?_⟩) ?_ ?_
        rotate_left
        · intro w'; go_simp; with_reducible rfl
        rotate_left
        · simp only [Act.put, List.setIfInBounds_toArray, List.set_cons_zero, List.set_cons_succ, i64_w, i32_w]; rfl
        refine pure_ (i := 2) (N := some 59) (v := ?_) (a' := ?_) (pfx 53 3) rfl rfl (by as_aux_lemma => kernel_rfl) (fun _ _ _ h => h) (Or.inl ⟨by rfl, ?_⟩) ?_ ?_
        rotate_left
        · intro w'; go_simp; with_reducible rfl
        rotate_left
        · simp only [Act.put, List.setIfInBounds_toArray, List.set_cons_zero, List.set_cons_succ, i64_w, i32_w]; rfl
        refine pure_ (i := 3) (N := some 60) (v := ?_) (a' := ?_) (pfx 53 4) rfl rfl (by as_aux_lemma => kernel_rfl) (fun _ _ _ h => h) (Or.inl ⟨by rfl, ?_⟩) ?_ ?_
        rotate_left
        · intro w'; go_simp; with_reducible rfl
        rotate_left
        · simp only [Act.put, List.setIfInBounds_toArray, List.set_cons_zero, List.set_cons_succ, i64_w, i32_w]; rfl
        refine pure_ (i := 4) (N := some 61) (v := ?_) (a' := ?_) (pfx 53 5) rfl rfl (by as_aux_lemma => kernel_rfl) (fun _ _ _ h => h) (Or.inl ⟨by rfl, ?_⟩) ?_ ?_
        rotate_left
        · intro w'; go_simp; with_reducible rfl
        rotate_left
        · simp only [Act.put, List.setIfInBounds_toArray, List.set_cons_zero, List.set_cons_succ, i64_w, i32_w]; rfl
        refine pure_ (i := 5) (N := some 62) (v := ?_) (a' := ?_) (pfx 53 6) rfl rfl (by as_aux_lemma => kernel_rfl) (fun _ _ _ h => h) (Or.inl ⟨by rfl, ?_⟩) ?_ ?_
        rotate_left
        · intro w'; go_simp; with_reducible rfl
        rotate_left
        · simp only [Act.put, List.setIfInBounds_toArray, List.set_cons_zero, List.set_cons_succ, i64_w, i32_w]; rfl
        refine pure_ (i := 6) (N := some 63) (v := ?_) (a' := ?_) (pfx 53 7) rfl rfl (by as_aux_lemma => kernel_rfl) (fun _ _ _ h => h) (Or.inl ⟨by rfl, ?_⟩) ?_ ?_
        rotate_left
        · intro w'; go_simp; with_reducible rfl
        rotate_left
        · simp only [Act.put, List.setIfInBounds_toArray, List.set_cons_zero, List.set_cons_succ, i64_w, i32_w]; rfl
        refine take_ (i := 7) (N := some 64) (v := ?_) (a' := ?_) (pfx 53 8) rfl rfl (by as_aux_lemma => kernel_rfl) (fun _ _ _ h => h) (Or.inl ⟨by rfl, ?_⟩) hHeld ?_ ?_
        rotate_left
        · (rintro w' ⟨s0, s1, s2, s3, s4, s5, s6, s7, s8, s9, s10, s11, s12, s13, s14, s15⟩); go_simp; with_reducible rfl
        rotate_left
        · simp only [Act.put, List.setIfInBounds_toArray, List.set_cons_zero, List.set_cons_succ, i64_w, i32_w]; rfl
        refine take_ (i := 8) (N := some 65) (v := ?_) (a' := ?_) (pfx 53 9) rfl rfl (by as_aux_lemma => kernel_rfl) (fun _ _ _ h => h) (Or.inl ⟨by rfl, ?_⟩) hHeld ?_ ?_
        rotate_left
        · (rintro w' ⟨s0, s1, s2, s3, s4, s5, s6, s7, s8, s9, s10, s11, s12, s13, s14, s15⟩); go_simp; with_reducible rfl
        rotate_left
        · simp only [Act.put, List.setIfInBounds_toArray, List.set_cons_zero, List.set_cons_succ, i64_w, i32_w]; rfl
        refine pure_ (i := 9) (N := some 66) (v := ?_) (a' := ?_) (pfx 53 10) rfl rfl (by as_aux_lemma => kernel_rfl) (fun _ _ _ h => h) (Or.inl ⟨by rfl, ?_⟩) ?_ ?_
        rotate_left
        · intro w'; go_simp; with_reducible rfl
        rotate_left
        · simp only [Act.put, List.setIfInBounds_toArray, List.set_cons_zero, List.set_cons_succ, i64_w, i32_w]; rfl
        refine pure_ (i := 10) (N := some 67) (v := ?_) (a' := ?_) (pfx 53 11) rfl rfl (by as_aux_lemma => kernel_rfl) (fun _ _ _ h => h) (Or.inl ⟨by rfl, ?_⟩) ?_ ?_
        rotate_left
        · intro w'; go_simp; with_reducible rfl
        rotate_left
        · simp only [Act.put, List.setIfInBounds_toArray, List.set_cons_zero, List.set_cons_succ, i64_w, i32_w]; rfl
        refine pure_ (i := 11) (N := some 68) (v := ?_) (a' := ?_) (pfx 53 12) rfl rfl (by as_aux_lemma => kernel_rfl) (fun _ _ _ h => h) (Or.inl ⟨by rfl, ?_⟩) ?_ ?_
        rotate_left
        · intro w'; go_simp; with_reducible rfl
        rotate_left
        · simp only [Act.put, List.setIfInBounds_toArray, List.set_cons_zero, List.set_cons_succ, i64_w, i32_w]; rfl
        refine pure_ (i := 12) (N := some 69) (v := ?_) (a' := ?_) (pfx 53 13) rfl rfl (by as_aux_lemma => kernel_rfl) (fun _ _ _ h => h) (Or.inl ⟨by rfl, ?_⟩) ?_ ?_
        rotate_left
        · intro w'; go_simp; with_reducible rfl
        rotate_left
        · simp only [Act.put, List.setIfInBounds_toArray, List.set_cons_zero, List.set_cons_succ, i64_w, i32_w]; rfl
        refine pure_ (i := 13) (N := some 70) (v := ?_) (a' := ?_) (pfx 53 14) rfl rfl (by as_aux_lemma => kernel_rfl) (fun _ _ _ h => h) (Or.inl ⟨by rfl, ?_⟩) ?_ ?_
        rotate_left
        · intro w'; go_simp; with_reducible rfl
        rotate_left
        · simp only [Act.put, List.setIfInBounds_toArray, List.set_cons_zero, List.set_cons_succ, i64_w, i32_w]; rfl
        refine pure_ (i := 14) (N := some 71) (v := ?_) (a' := ?_) (pfx 53 15) rfl rfl (by as_aux_lemma => kernel_rfl) (fun _ _ _ h => h) (Or.inl ⟨by rfl, ?_⟩) ?_ ?_
        rotate_left
        · intro w'; go_simp; with_reducible rfl
        rotate_left
        · simp only [Act.put, List.setIfInBounds_toArray, List.set_cons_zero, List.set_cons_succ, i64_w, i32_w]; rfl
        refine take_ (i := 15) (N := some 72) (v := ?_) (a' := ?_) (pfx 53 16) rfl rfl (by as_aux_lemma => kernel_rfl) (fun _ _ _ h => h) (Or.inl ⟨by rfl, ?_⟩) hHeld ?_ ?_
        rotate_left
        · (rintro w' ⟨s0, s1, s2, s3, s4, s5, s6, s7, s8, s9, s10, s11, s12, s13, s14, s15⟩); go_simp; with_reducible rfl
        rotate_left
        · simp only [Act.put, List.setIfInBounds_toArray, List.set_cons_zero, List.set_cons_succ, i64_w, i32_w]; rfl
        refine pure_ (i := 16) (N := some 73) (v := ?_) (a' := ?_) (pfx 53 17) rfl rfl (by as_aux_lemma => kernel_rfl) (fun _ _ _ h => h) (Or.inl ⟨by rfl, ?_⟩) ?_ ?_
        rotate_left
        · intro w'; go_simp; with_reducible rfl
        rotate_left
        · simp only [Act.put, List.setIfInBounds_toArray, List.set_cons_zero, List.set_cons_succ, i64_w, i32_w]; rfl
        refine take_ (i := 17) (N := some 74) (v := ?_) (a' := ?_) (pfx 53 18) rfl rfl (by as_aux_lemma => kernel_rfl) (fun _ _ _ h => h) (Or.inl ⟨by rfl, ?_⟩) hHeld ?_ ?_
        rotate_left
        · (rintro w' ⟨s0, s1, s2, s3, s4, s5, s6, s7, s8, s9, s10, s11, s12, s13, s14, s15⟩); go_simp; with_reducible rfl
        rotate_left
        · simp only [Act.put, List.setIfInBounds_toArray, List.set_cons_zero, List.set_cons_succ, i64_w, i32_w]; rfl
        refine pure_ (i := 18) (N := some 75) (v := ?_) (a' := ?_) (pfx 53 19) rfl rfl (by as_aux_lemma => kernel_rfl) (fun _ _ _ h => h) (Or.inl ⟨by rfl, ?_⟩) ?_ ?_
        rotate_left
        · intro w'; go_simp; with_reducible rfl
        rotate_left
        · simp only [Act.put, List.setIfInBounds_toArray, List.set_cons_zero, List.set_cons_succ, i64_w, i32_w]; rfl
        refine take_ (i := 19) (N := some 76) (v := ?_) (a' := ?_) (pfx 53 20) rfl rfl (by as_aux_lemma => kernel_rfl) (fun _ _ _ h => h) (Or.inl ⟨by rfl, ?_⟩) hHeld ?_ ?_
        rotate_left
        · (rintro w' ⟨s0, s1, s2, s3, s4, s5, s6, s7, s8, s9, s10, s11, s12, s13, s14, s15⟩); go_simp; with_reducible rfl
        rotate_left
        · simp only [Act.put, List.setIfInBounds_toArray, List.set_cons_zero, List.set_cons_succ, i64_w, i32_w]; rfl
        refine pure_ (i := 20) (N := some 77) (v := ?_) (a' := ?_) (pfx 53 21) rfl rfl (by as_aux_lemma => kernel_rfl) (fun _ _ _ h => h) (Or.inl ⟨by rfl, ?_⟩) ?_ ?_
        rotate_left
        · intro w'; go_simp; with_reducible rfl
        rotate_left
        · simp only [Act.put, List.setIfInBounds_toArray, List.set_cons_zero, List.set_cons_succ, i64_w, i32_w]; rfl
        refine pure_ (i := 21) (N := some 78) (v := ?_) (a' := ?_) (pfx 53 22) rfl rfl (by as_aux_lemma => kernel_rfl) (fun _ _ _ h => h) (Or.inl ⟨by rfl, ?_⟩) ?_ ?_
        rotate_left
        · intro w'; go_simp; with_reducible rfl
        rotate_left
        · simp only [Act.put, List.setIfInBounds_toArray, List.set_cons_zero, List.set_cons_succ, i64_w, i32_w]; rfl
        refine pure_ (i := 22) (N := some 79) (v := ?_) (a' := ?_) (pfx 53 23) rfl rfl (by as_aux_lemma => kernel_rfl) (fun _ _ _ h => h) (Or.inl ⟨by rfl, ?_⟩) ?_ ?_
        rotate_left
        · intro w'; go_simp; with_reducible rfl
        rotate_left
        · simp only [Act.put, List.setIfInBounds_toArray, List.set_cons_zero, List.set_cons_succ, i64_w, i32_w]; rfl
        refine pure_ (i := 23) (N := some 80) (v := ?_) (a' := ?_) (pfx 53 24) rfl rfl (by as_aux_lemma => kernel_rfl) (fun _ _ _ h => h) (Or.inl ⟨by rfl, ?_⟩) ?_ ?_
        rotate_left
        · intro w'; go_simp; with_reducible rfl
        rotate_left
        · simp only [Act.put, List.setIfInBounds_toArray, List.set_cons_zero, List.set_cons_succ, i64_w, i32_w]; rfl
        refine pure_ (i := 24) (N := some 81) (v := ?_) (a' := ?_) (pfx 53 25) rfl rfl (by as_aux_lemma => kernel_rfl) (fun _ _ _ h => h) (Or.inl ⟨by rfl, ?_⟩) ?_ ?_
        rotate_left
        · intro w'; go_simp; with_reducible rfl
        rotate_left
        · simp only [Act.put, List.setIfInBounds_toArray, List.set_cons_zero, List.set_cons_succ, i64_w, i32_w]; rfl
        refine take_ (i := 25) (N := some 82) (v := ?_) (a' := ?_) (pfx 53 26) rfl rfl (by as_aux_lemma => kernel_rfl) (fun _ _ _ h => h) (Or.inl ⟨by rfl, ?_⟩) hHeld ?_ ?_
        rotate_left
        · (rintro w' ⟨s0, s1, s2, s3, s4, s5, s6, s7, s8, s9, s10, s11, s12, s13, s14, s15⟩); go_simp; with_reducible rfl
        rotate_left
        · simp only [Act.put, List.setIfInBounds_toArray, List.set_cons_zero, List.set_cons_succ, i64_w, i32_w]; rfl
        refine pure_ (i := 26) (N := some 83) (v := ?_) (a' := ?_) (pfx 53 27) rfl rfl (by as_aux_lemma => kernel_rfl) (fun _ _ _ h => h) (Or.inl ⟨by rfl, ?_⟩) ?_ ?_
        rotate_left
        · intro w'; go_simp; with_reducible rfl
        rotate_left
        · simp only [Act.put, List.setIfInBounds_toArray, List.set_cons_zero, List.set_cons_succ, i64_w, i32_w]; rfl
        refine take_ (i := 27) (N := some 84) (v := ?_) (a' := ?_) (pfx 53 28) rfl rfl (by as_aux_lemma => kernel_rfl) (fun _ _ _ h => h) (Or.inl ⟨by rfl, ?_⟩) hHeld ?_ ?_
        rotate_left
        · (rintro w' ⟨s0, s1, s2, s3, s4, s5, s6, s7, s8, s9, s10, s11, s12, s13, s14, s15⟩); go_simp; with_reducible rfl
        rotate_left
        · simp only [Act.put, List.setIfInBounds_toArray, List.set_cons_zero, List.set_cons_succ, i64_w, i32_w]; rfl
        refine pure_ (i := 28) (N := some 85) (v := ?_) (a' := ?_) (pfx 53 29) rfl rfl (by as_aux_lemma => kernel_rfl) (fun _ _ _ h => h) (Or.inl ⟨by rfl, ?_⟩) ?_ ?_
        rotate_left
        · intro w'; go_simp; with_reducible rfl
        rotate_left
        · simp only [Act.put, List.setIfInBounds_toArray, List.set_cons_zero, List.set_cons_succ, i64_w, i32_w]; rfl
        refine pure_ (i := 29) (N := some 86) (v := ?_) (a' := ?_) (pfx 53 30) rfl rfl (by as_aux_lemma => kernel_rfl) (fun _ _ _ h => h) (Or.inl ⟨by rfl, ?_⟩) ?_ ?_
        rotate_left
        · intro w'; go_simp; with_reducible rfl
        rotate_left
        · simp only [Act.put, List.setIfInBounds_toArray, List.set_cons_zero, List.set_cons_succ, i64_w, i32_w]; rfl
        refine pure_ (i := 30) (N := some 87) (v := ?_) (a' := ?_) (pfx 53 31) rfl rfl (by as_aux_lemma => kernel_rfl) (fun _ _ _ h => h) (Or.inl ⟨by rfl, ?_⟩) ?_ ?_
        rotate_left
        · intro w'; go_simp; with_reducible rfl
        rotate_left
        · simp only [Act.put, List.setIfInBounds_toArray, List.set_cons_zero, List.set_cons_succ, i64_w, i32_w]; rfl
        refine pure_ (i := 31) (N := some 88) (v := ?_) (a' := ?_) (pfx 53 32) rfl rfl (by as_aux_lemma => kernel_rfl) (fun _ _ _ h => h) (Or.inl ⟨by rfl, ?_⟩) ?_ ?_
        rotate_left
        · intro w'; go_simp; with_reducible rfl
        rotate_left
        · simp only [Act.put, List.setIfInBounds_toArray, List.set_cons_zero, List.set_cons_succ, i64_w, i32_w]; rfl
        refine take_ (i := 32) (N := some 89) (v := ?_) (a' := ?_) (pfx 53 33) rfl rfl (by as_aux_lemma => kernel_rfl) (fun _ _ _ h => h) (Or.inl ⟨by rfl, ?_⟩) hHeld ?_ ?_
        rotate_left
        · (rintro w' ⟨s0, s1, s2, s3, s4, s5, s6, s7, s8, s9, s10, s11, s12, s13, s14, s15⟩); go_simp; with_reducible rfl
        rotate_left
        · simp only [Act.put, List.setIfInBounds_toArray, List.set_cons_zero, List.set_cons_succ, i64_w, i32_w]; rfl
        refine pure_ (i := 33) (N := some 90) (v := ?_) (a' := ?_) (pfx 53 34) rfl rfl (by as_aux_lemma => kernel_rfl) (fun _ _ _ h => h) (Or.inl ⟨by rfl, ?_⟩) ?_ ?_
        rotate_left
        · intro w'; go_simp; with_reducible rfl
        rotate_left
        · simp only [Act.put, List.setIfInBounds_toArray, List.set_cons_zero, List.set_cons_succ, i64_w, i32_w]; rfl
        refine take_ (i := 34) (N := some 91) (v := ?_) (a' := ?_) (pfx 53 35) rfl rfl (by as_aux_lemma => kernel_rfl) (fun _ _ _ h => h) (Or.inl ⟨by rfl, ?_⟩) hHeld ?_ ?_
        rotate_left
        · (rintro w' ⟨s0, s1, s2, s3, s4, s5, s6, s7, s8, s9, s10, s11, s12, s13, s14, s15⟩); go_simp; with_reducible rfl
        rotate_left
        · simp only [Act.put, List.setIfInBounds_toArray, List.set_cons_zero, List.set_cons_succ, i64_w, i32_w]; rfl
        refine pure_ (i := 35) (N := some 92) (v := ?_) (a' := ?_) (pfx 53 36) rfl rfl (by as_aux_lemma => kernel_rfl) (fun _ _ _ h => h) (Or.inl ⟨by rfl, ?_⟩) ?_ ?_
        rotate_left
        · intro w'; go_simp; with_reducible rfl
        rotate_left
        · simp only [Act.put, List.setIfInBounds_toArray, List.set_cons_zero, List.set_cons_succ, i64_w, i32_w]; rfl
        refine pure_ (i := 36) (N := some 93) (v := ?_) (a' := ?_) (pfx 53 37) rfl rfl (by as_aux_lemma => kernel_rfl) (fun _ _ _ h => h) (Or.inl ⟨by rfl, ?_⟩) ?_ ?_
        rotate_left
        · intro w'; go_simp; with_reducible rfl
        rotate_left
        · simp only [Act.put, List.setIfInBounds_toArray, List.set_cons_zero, List.set_cons_succ, i64_w, i32_w]; rfl
        refine pure_ (i := 37) (N := some 94) (v := ?_) (a' := ?_) (pfx 53 38) rfl rfl (by as_aux_lemma => kernel_rfl) (fun _ _ _ h => h) (Or.inl ⟨by rfl, ?_⟩) ?_ ?_
        rotate_left
        · intro w'; go_simp; with_reducible rfl
        rotate_left
        · simp only [Act.put, List.setIfInBounds_toArray, List.set_cons_zero, List.set_cons_succ, i64_w, i32_w]; rfl
        refine pure_ (i := 38) (N := some 95) (v := ?_) (a' := ?_) (pfx 53 39) rfl rfl (by as_aux_lemma => kernel_rfl) (fun _ _ _ h => h) (Or.inl ⟨by rfl, ?_⟩) ?_ ?_
        rotate_left
        · intro w'; go_simp; with_reducible rfl
        rotate_left
        · simp only [Act.put, List.setIfInBounds_toArray, List.set_cons_zero, List.set_cons_succ, i64_w, i32_w]; rfl
        refine take_ (i := 39) (N := some 96) (v := ?_) (a' := ?_) (pfx 53 40) rfl rfl (by as_aux_lemma => kernel_rfl) (fun _ _ _ h => h) (Or.inl ⟨by rfl, ?_⟩) hHeld ?_ ?_
        rotate_left
        · (rintro w' ⟨s0, s1, s2, s3, s4, s5, s6, s7, s8, s9, s10, s11, s12, s13, s14, s15⟩); go_simp; with_reducible rfl
        rotate_left
        · simp only [Act.put, List.setIfInBounds_toArray, List.set_cons_zero, List.set_cons_succ, i64_w, i32_w]; rfl
        refine pure_ (i := 40) (N := some 97) (v := ?_) (a' := ?_) (pfx 53 41) rfl rfl (by as_aux_lemma => kernel_rfl) (fun _ _ _ h => h) (Or.inl ⟨by rfl, ?_⟩) ?_ ?_
        rotate_left
        · intro w'; go_simp; with_reducible rfl
        rotate_left
        · simp only [Act.put, List.setIfInBounds_toArray, List.set_cons_zero, List.set_cons_succ, i64_w, i32_w]; rfl
        refine take_ (i := 41) (N := some 98) (v := ?_) (a' := ?_) (pfx 53 42) rfl rfl (by as_aux_lemma => kernel_rfl) (fun _ _ _ h => h) (Or.inl ⟨by rfl, ?_⟩) hHeld ?_ ?_
        rotate_left
        · (rintro w' ⟨s0, s1, s2, s3, s4, s5, s6, s7, s8, s9, s10, s11, s12, s13, s14, s15⟩); go_simp; with_reducible rfl
        rotate_left
        · simp only [Act.put, List.setIfInBounds_toArray, List.set_cons_zero, List.set_cons_succ, i64_w, i32_w]; rfl
        refine one_ (i := 42) (N := some 99) (pfx 53 43) rfl rfl (by as_aux_lemma => kernel_rfl) (by decide) (fun K hK => ?_)
        refine goes_ Try.func16 (by kernel_rfl) rfl #[.pointer pa, .slice B4 y.f4.length d4] (by rfl) rfl rfl (by (try simp only [List.map_toArray, List.map_cons, List.map_nil]); first | done | rfl) ?_
        refine (R4.out _ HM.out).mono ?_
        rintro e9 v42 ⟨rfl, hb⟩
        refine ⟨_, rfl, ?_⟩
        have n_ := Aside0.mk (below_step HM.out hb)
        clear HM
        have HM := n_
        clear n_
        refine hK.out _ _ (held16b hHeld hb) (fun hHeld => ?_)
        clear hK K hb
        refine norm_ (a' := ?_) ?_ ?_
        rotate_left
        · (show Act.put _ (some 99) _ = _); simp only [Act.put, List.setIfInBounds_toArray, List.set_cons_zero, List.set_cons_succ, i64_w, i32_w]; rfl
        refine pure_ (i := 43) (N := some 100) (v := ?_) (a' := ?_) (pfx 53 44) rfl rfl (by as_aux_lemma => kernel_rfl) (fun _ _ _ h => h) (Or.inl ⟨by rfl, ?_⟩) ?_ ?_
        rotate_left
        · intro w'; go_simp; with_reducible rfl
        rotate_left
        · simp only [Act.put, List.setIfInBounds_toArray, List.set_cons_zero, List.set_cons_succ, i64_w, i32_w]; rfl
        refine pure_ (i := 44) (N := some 101) (v := ?_) (a' := ?_) (pfx 53 45) rfl rfl (by as_aux_lemma => kernel_rfl) (fun _ _ _ h => h) (Or.inl ⟨by rfl, ?_⟩) ?_ ?_
        rotate_left
        · intro w'; go_simp; with_reducible rfl
        rotate_left
        · simp only [Act.put, List.setIfInBounds_toArray, List.set_cons_zero, List.set_cons_succ, i64_w, i32_w]; rfl
        refine pure_ (i := 45) (N := some 102) (v := ?_) (a' := ?_) (pfx 53 46) rfl rfl (by as_aux_lemma => kernel_rfl) (fun _ _ _ h => h) (Or.inl ⟨by rfl, ?_⟩) ?_ ?_
        rotate_left
        · intro w'; go_simp; with_reducible rfl
        rotate_left
        · simp only [Act.put, List.setIfInBounds_toArray, List.set_cons_zero, List.set_cons_succ, i64_w, i32_w]; rfl
        refine pure_ (i := 46) (N := some 103) (v := ?_) (a' := ?_) (pfx 53 47) rfl rfl (by as_aux_lemma => kernel_rfl) (fun _ _ _ h => h) (Or.inl ⟨by rfl, ?_⟩) ?_ ?_
        rotate_left
        · intro w'; go_simp; with_reducible rfl
        rotate_left
        · simp only [Act.put, List.setIfInBounds_toArray, List.set_cons_zero, List.set_cons_succ, i64_w, i32_w]; rfl
        refine take_ (i := 47) (N := some 104) (v := ?_) (a' := ?_) (pfx 53 48) rfl rfl (by as_aux_lemma => kernel_rfl) (fun _ _ _ h => h) (Or.inl ⟨by rfl, ?_⟩) hHeld ?_ ?_
        rotate_left
        · (rintro w' ⟨s0, s1, s2, s3, s4, s5, s6, s7, s8, s9, s10, s11, s12, s13, s14, s15⟩); go_simp; with_reducible rfl
        rotate_left
        · simp only [Act.put, List.setIfInBounds_toArray, List.set_cons_zero, List.set_cons_succ, i64_w, i32_w]; rfl
        refine pure_ (i := 48) (N := some 105) (v := ?_) (a' := ?_) (pfx 53 49) rfl rfl (by as_aux_lemma => kernel_rfl) (fun _ _ _ h => h) (Or.inl ⟨by rfl, ?_⟩) ?_ ?_
        rotate_left
        · intro w'; go_simp; with_reducible rfl
        rotate_left
        · simp only [Act.put, List.setIfInBounds_toArray, List.set_cons_zero, List.set_cons_succ, i64_w, i32_w]; rfl
        refine take_ (i := 49) (N := some 106) (v := ?_) (a' := ?_) (pfx 53 50) rfl rfl (by as_aux_lemma => kernel_rfl) (fun _ _ _ h => h) (Or.inl ⟨by rfl, ?_⟩) hHeld ?_ ?_
        rotate_left
        · (rintro w' ⟨s0, s1, s2, s3, s4, s5, s6, s7, s8, s9, s10, s11, s12, s13, s14, s15⟩); go_simp; with_reducible rfl
        rotate_left
        · simp only [Act.put, List.setIfInBounds_toArray, List.set_cons_zero, List.set_cons_succ, i64_w, i32_w]; rfl
        refine one_ (i := 50) (N := some 107) (pfx 53 51) rfl rfl (by as_aux_lemma => kernel_rfl) (by decide) (fun K hK => ?_)
        refine goes_ Try.func16 (by kernel_rfl) rfl #[.pointer pr, .slice B5 y.f5.length d5] (by rfl) rfl rfl (by (try simp only [List.map_toArray, List.map_cons, List.map_nil]); first | done | rfl) ?_
        refine (R5.out _ HM.out).mono ?_
        rintro e9 v50 ⟨rfl, hb⟩
        refine ⟨_, rfl, ?_⟩
        have n_ := Aside0.mk (below_step HM.out hb)
        clear HM
        have HM := n_
        clear n_
        refine hK.out _ _ (held16b hHeld hb) (fun hHeld => ?_)
        clear hK K hb
        refine norm_ (a' := ?_) ?_ ?_
        rotate_left
        · (show Act.put _ (some 107) _ = _); simp only [Act.put, List.setIfInBounds_toArray, List.set_cons_zero, List.set_cons_succ, i64_w, i32_w]; rfl
        refine pure_ (i := 51) (N := some 108) (v := ?_) (a' := ?_) (pfx 53 52) rfl rfl (by as_aux_lemma => kernel_rfl) (fun _ _ _ h => h) (Or.inl ⟨by rfl, ?_⟩) ?_ ?_
        rotate_left
        · intro w'; go_simp; with_reducible rfl
        rotate_left
        · simp only [Act.put, List.setIfInBounds_toArray, List.set_cons_zero, List.set_cons_succ, i64_w, i32_w]; rfl
        refine pure_ (i := 52) (N := some 109) (v := ?_) (a' := ?_) (pfx 53 53) rfl rfl (by as_aux_lemma => kernel_rfl) (fun _ _ _ h => h) (Or.inl ⟨by rfl, ?_⟩) ?_ ?_
        rotate_left
        · intro w'; go_simp; with_reducible rfl
        rotate_left
        · simp only [Act.put, List.setIfInBounds_toArray, List.set_cons_zero, List.set_cons_succ, i64_w, i32_w]; rfl
        refine done_ (by kernel_rfl) ?_
        clear hHeld
        go_wp2
        go_roundg k1
        case measure => omega
        case rel => exact ⟨i + 1, a + 1, by first | rfl | rw [ew], ⟨by rw [HE.out]; rfl⟩, ⟨by have := HK.out; omega⟩, ⟨below_step HW.out HM.out⟩⟩
      · have c0b : decide (a < (xs.length : Int)) = false := decide_eq_false cc
        go_wp2
        go_ret
        exact ⟨rfl, below_step HM3.out HW.out⟩
theorem is_ : ∀ n, IsAt n
  | 0 => fun l p A c w h => absurd h (Nat.not_lt_zero _)
  | n + 1 => isround n (is_ n)
end Go.Proofs.Ytkdfbfhajojdeaa.Env
