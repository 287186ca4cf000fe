/- maps.Copy of a map of one entry. Conditions: as the theorems say. -/
import Derived.Test.YtkdfbfhajojdeaaEnvQ
import Derived.Maps.RangeWalk
namespace Go.Proofs.Ytkdfbfhajojdeaa.Env
open Go Go.RowKit Go.ChangeMaps Go.Proofs.YtkdfbfhajojdeaaW.PrintWords Go.Proofs.YtkdfbfhajojdeaaW.PrintLast Go.Proofs.YtkdfbfhajojdeaaW.PrintMore Go.Proofs.Ytkdfbfhajojdeaa.POP
set_option linter.unusedVariables false
set_option linter.unusedSimpArgs false
noncomputable local instance : DecidableEq S28 := fun a b => Classical.propDecidable _
/-- Block b is a map of one entry. -/
def OneAt (w : World) (b : Nat) (key v : Value) : Prop := w.heap[b]? = some (.map #[⟨key, v, 0⟩] 1)
theorem OneAt.made {w : World} {b : Nat} {t k e : TypeId} {key v : Value} {l : Lit} (K : Go.Maps.Keyed Try.prog k) (ht : Try.prog.underlying t = some (.map k e)) (hb : w.heap[b]? = some (.map #[] 0)) (hkey : keyOf Try.prog k key = some l) :
    ∃ w', (Instr.mapUpdate t (.map (some b)) key v).run Try.prog w = .ok () w' ∧ OneAt w' b key v ∧ w.grownBy w' (some b) := by
  have hblt : b < w.heap.size := (Array.getElem?_eq_some_iff.mp hb).1
  have r1 : (Instr.findKey k key ([] : List MapEntry)).run Try.prog w = .ok none w := by
    rcases K.find w hkey [] (fun e he => by cases he) with ⟨r1, _⟩ | ⟨j, e, _, r2, _⟩
    · exact r1
    · cases r2
  refine ⟨setBlock w b (.map (#[].push ⟨key, v, 0⟩) (0 + 1)), ?_, by simp [OneAt, setBlock, hblt], rfl, rfl, rfl, by simp [setBlock], fun i hi hne => ?_⟩
  · simp [Instr.mapUpdate, run_underlying ht, MapKept.run_getObj_map hb, K.check w false hkey, r1, MapKept.run_setObj_map _ hb, Result.andThen, setBlock]
  · have : b ≠ i := fun e => hne (by rw [e])
    simp [setBlock, this]
section
variable {P : Program} {w : World} {ops : Array Oper} {rest : List Oper} {o : Oper} {a : Act} {Q : Exit → Act → World → Prop}
/-- 'range m', at the operation. -/
theorem range1 (hg : o.guard = none) (m : Operand) (t : TypeId) (hop : o.op = Op.range t m) (k e : TypeId) (ht : P.underlying t = some (.map k e)) {b : Nat} {es : Array MapEntry} {clock : Nat} (hm : a.eval m = .map (some b)) (hb : w.heap[b]? = some (.map es clock))
    (hK : wpList P ops Q rest (a.put o.dst (.pointer (some ⟨w.heap.size, 0, none⟩))) (w.alloc (.mapIter (some b) clock #[] clock))) : wpList P ops Q (o :: rest) a w := by
  refine wpList_plain hg fun K' hK' => ?_
  unfold Oper.wp
  simp [execOp, hop, hm, run_range_map w t k e b es clock ht hb, Result.andThen]
  exact hK' _ _ hK
/-- The step over a map of one entry that is to come. -/
theorem next1 (hg : o.guard = none) (it : Operand) (hop : o.op = Op.next it false) {r b : Nat} {key v : Value} (hit : a.eval it = .pointer (some ⟨r, 0, none⟩)) (hr : w.heap[r]? = some (.mapIter (some b) 1 #[] 1)) (hb : w.heap[b]? = some (.map #[⟨key, v, 0⟩] 1))
    (hK : ∀ w', w.grownBy w' (some r) → w'.heap[r]? = some (.mapIter (some b) 1 #[0] 1) → (Instr.entry (.pointer (some ⟨r, 0, none⟩))).run P w' = .ok (.tuple #[key, v]) w' → wpList P ops Q rest (a.put o.dst (.tuple #[.bool true, key, v])) w') : wpList P ops Q (o :: rest) a w := by
  refine wpList_plain hg fun K' hK' => ?_
  have hlt : r < w.heap.size := (Array.getElem?_eq_some_iff.mp hr).1
  unfold Oper.wp
  rcases run_next_at (P := P) w o.type r b 1 1 #[] #[⟨key, v, 0⟩] 1 hr hb (by simp) (Nat.le_refl _) with ⟨h0, _⟩ | ⟨e, he, w1, hw1, hrun⟩
  · simp [leftOf] at h0
  · have ee : e = ⟨key, v, 0⟩ := by simpa [leftOf] using he
    subst ee
    simp [execOp, hop, hit, hrun, Result.andThen]
    have hsz : w1.heap.size = w.heap.size := by rcases hw1 with rfl | rfl <;> rfl
    have hh : ∀ i : Nat, w1.heap[i]? = w.heap[i]? := fun i => by rcases hw1 with rfl | rfl <;> rfl
    have hg1 : w.grownBy w1 (some r) := by
      rcases hw1 with rfl | rfl
      · exact World.grownBy.refl _ _
      · exact gdrew _ _
    have hg2 : w1.grownBy (setBlock w1 r (.mapIter (some b) 1 #[0] 1)) (some r) := ⟨rfl, rfl, rfl, by simp [setBlock], fun i hi hne => by
      have : r ≠ i := fun e => hne (by rw [e])
      simp [setBlock, this]⟩
    have hbr : b ≠ r := by
      rintro rfl
      rw [hr] at hb
      cases hb
    refine hK' _ _ (hK _ (hg1.trans hg2) (by simp [setBlock, hsz, hlt]) ?_)
    exact run_entry_at _ r b 1 #[] #[⟨key, v, 0⟩] 1 ⟨key, v, 0⟩ (by simp [setBlock, hsz, hlt]) (by simp only [setBlock]; rw [Array.getElem?_setIfInBounds_ne (Ne.symm hbr), hh]; exact hb) (by simp) (by simp)
/-- The step when it has come. -/
theorem next0 (hg : o.guard = none) (it : Operand) (hop : o.op = Op.next it false) {r b : Nat} {key v : Value} (hit : a.eval it = .pointer (some ⟨r, 0, none⟩)) (hr : w.heap[r]? = some (.mapIter (some b) 1 #[0] 1)) (hb : w.heap[b]? = some (.map #[⟨key, v, 0⟩] 1))
    (hK : wpList P ops Q rest (a.put o.dst (.tuple #[.bool false])) w) : wpList P ops Q (o :: rest) a w := by
  refine wpList_plain hg fun K' hK' => ?_
  unfold Oper.wp
  rcases run_next_at (P := P) w o.type r b 1 1 #[0] #[⟨key, v, 0⟩] 1 hr hb (by simp) (Nat.le_refl _) with ⟨h0, hrun⟩ | ⟨e, he, w1, hw1, hrun⟩
  · simp [execOp, hop, hit, hrun, Result.andThen]
    exact hK' _ _ hK
  · simp [leftOf] at he
end
def itm (e : Nd) : Value := .agg #[.int .i64 e.dc, .int .i64 e.vi, .pointer e.pa, .pointer e.pr]
set_option maxHeartbeats 8000000 in
set_option maxRecDepth 100000 in
theorem copy_ (bd bs n : Nat) (f : S28 → Option Value) (k : S28) (e : Nd) (w : World) (hk : wfK k) (hd : MapK.MapAt Try.prog 28 kv w bd n f) (hs : OneAt w bs (kv k) (itm e)) (hne : bd ≠ bs) :
    Calls Try.prog 29 #[.map (some bd), .map (some bs)] w fun x w' => x = .returned (.tuple #[]) ∧ MapK.MapAt Try.prog 28 kv w' bd (n + 1) (fun y => if y = k then some (itm e) else f y) ∧ w.grownBy w' (some bd) := by
  obtain ⟨lk, hk⟩ := key28 k hk
  have hK := Go.Maps.Keyed.of_law law28
  have HD := Aside0.mk hd
  have HS := Aside0.mk hs
  have HNE := Aside0.mk hne
  have HKY := Aside0.mk hk
  have HG := Aside0.mk (World.grownBy.refl w (some bd))
  clear hd hs hne hk
  go_enter Try.func29, Try.ntmps29
  go_wp2_with (first | (at_range; refine range1 rfl _ 57 rfl 28 41 Try.underlying57 rfl HS.out ?_))
  go_frame
  obtain ⟨r, hr⟩ : ∃ r, r = w.heap.size := ⟨_, rfl⟩
  rw [← hr]
  have R0 : Aside0 ((w.alloc (.mapIter (some bs) 1 #[] 1)).heap[r]? = some (.mapIter (some bs) 1 #[] 1)) := ⟨by rw [hr]; exact heap_alloc_new w _⟩
  have NBD : Aside0 (bd ≠ r) := ⟨by have := HD.out.lt; omega⟩
  have NBS : Aside0 (bs ≠ r) := ⟨by have := (Array.getElem?_eq_some_iff.mp HS.out).1; omega⟩
  have RS : Aside0 (w.heap.size ≤ r) := ⟨by omega⟩
  have HG1 : Aside0 (w.grownBy (w.alloc (.mapIter (some bs) 1 #[] 1)) (some bd)) := ⟨World.grownBy_alloc w _ _⟩
  have HD1 : Aside0 (MapK.MapAt Try.prog 28 kv (w.alloc (.mapIter (some bs) 1 #[] 1)) bd n f) := ⟨HD.out.grown (World.grownBy_alloc w _ none) (by simp)⟩
  have HS1 : Aside0 (OneAt (w.alloc (.mapIter (some bs) 1 #[] 1)) bs (kv k) (itm e)) := ⟨(heap_alloc_old w _ (Array.getElem?_eq_some_iff.mp HS.out).1).trans HS.out⟩
  clear HD HS HG hr
  go_loopg [8] 2 (fun kq v8 w' => ∃ (i : Nat), Aside0 (kq + i = 2 ∧ i ≤ 1) ∧ Aside0 (w'.heap[r]? = some (.mapIter (some bs) 1 (if i = 0 then #[] else #[0]) 1)) ∧ Aside0 (MapK.MapAt Try.prog 28 kv w' bd (n + i) (fun y => if i ≠ 0 ∧ y = k then some (itm e) else f y)) ∧ Aside0 (OneAt w' bs (kv k) (itm e)) ∧ Aside0 (w.grownBy w' (some bd)))
  case atStart => exact ⟨0, ⟨⟨rfl, by omega⟩⟩, R0, ⟨by simpa using HD1.out⟩, HS1, HG1⟩
  case round =>
    clear R0 HD1 HS1 HG1
    obtain ⟨i, HK, HR, HD, HS, HG⟩ := hrel
    obtain rfl | rfl : i = 0 ∨ i = 1 := by have := HK.out; omega
    · obtain rfl : gk = 2 := by have := HK.out; omega
      have HR1 : wr.heap[r]? = some (.mapIter (some bs) 1 #[] 1) := HR.out
      have HR2 := Aside0.mk HR1
      clear HR HR1
      go_wp2_with (first | (at_next; refine next1 rfl _ rfl (r := r) (b := bs) (key := .agg #[.int .i64 k.f0, .string k.f1]) (v := .agg #[.int .i64 e.dc, .int .i64 e.vi, .pointer e.pa, .pointer e.pr]) rfl HR2.out HS.out ?_; intro w1 hg1 hr1 hen; have HG1 := Aside0.mk hg1; have R1 := Aside0.mk hr1; have HM := Aside0.mk (Below.refl w1.heap.size w1); clear hg1 hr1) | ((with_reducible refine gate_dst (N := 4) rfl ?_); refine box_event ?hg (N := 4) ?hd (cs := #[.int .i64 0, .string (⟨#[]⟩ : ByteArray)]) (t := 28) ?hr ?_; (case hd => rfl); (case hg => rfl); (case hr => first | (go_simp; done) | (go_simp; rfl)); intro g4 hg w2 hbox hb; have Bg4 := Aside0.mk hbox; have Gg4 := Aside0.mk ((by rw [hg]; exact (below_size (by repeat (first | (with_reducible first | exact HM.out | apply below_alloc | apply pw_below_drewN | apply below_drew1) | exact HM.out)))) : w1.heap.size ≤ g4); have n0_ := Aside0.mk (below_step (by repeat (first | (with_reducible first | exact HM.out | apply below_alloc | apply pw_below_drewN | apply below_drew1) | exact HM.out)) hb); clear HM; have HM := n0_; clear n0_ hg; clear hb hbox) | ((with_reducible refine gate_dst (N := 5) rfl ?_); refine box_event ?hg (N := 5) ?hd (cs := #[.int .i64 0, .int .i64 0, .pointer none, .pointer none]) (t := 41) ?hr ?_; (case hd => rfl); (case hg => rfl); (case hr => first | (go_simp; done) | (go_simp; rfl)); intro g5 hg w2 hbox hb; have hg5 := hg; have Bg5 := Aside0.mk hbox; have Gg5 := Aside0.mk ((by rw [hg]; exact (below_size (by repeat (first | (with_reducible first | exact HM.out | apply below_alloc | apply pw_below_drewN | apply below_drew1) | exact HM.out)))) : w1.heap.size ≤ g5); have n0_ := Aside0.mk (below_step (by repeat (first | (with_reducible first | exact HM.out | apply below_alloc | apply pw_below_drewN | apply below_drew1) | exact HM.out)) hb); clear HM; have HM := n0_; clear n0_ hg; have cg5_0 : w2.cell? ⟨g5, 0, none⟩ = some (.int .i64 0) := (blk_cell Bg5.out 0).trans rfl; have fg5_0 := blk_frozen Bg5.out 0; have cg5_1 : w2.cell? ⟨g5, 1, none⟩ = some (.int .i64 0) := (blk_cell Bg5.out 1).trans rfl; have fg5_1 := blk_frozen Bg5.out 1; have cg5_2 : w2.cell? ⟨g5, 2, none⟩ = some (.pointer none) := (blk_cell Bg5.out 2).trans rfl; have fg5_2 := blk_frozen Bg5.out 2; have cg5_3 : w2.cell? ⟨g5, 3, none⟩ = some (.pointer none) := (blk_cell Bg5.out 3).trans rfl; have fg5_3 := blk_frozen Bg5.out 3; have B4_ := Aside0.mk (blk_below (by (with_reducible repeat (first | refine blk_drewN ?_ _ | refine blk_drew ?_ | refine blk_alloc ?_ _)); exact Bg4.out) hb); have NE := Aside0.mk ((Nat.ne_of_lt (Nat.lt_of_lt_of_le (Array.getElem?_eq_some_iff.mp Bg4.out).1 (by rw [hg5]; exact Nat.le_refl _))) : g4 ≠ g5); have ne45 := NE.out; have ne54 := Ne.symm NE.out; have cg4_0 : w2.cell? ⟨g4, 0, none⟩ = some (.int .i64 0) := (blk_cell B4_.out 0).trans rfl; have fg4_0 := blk_frozen B4_.out 0; have cg4_1 : w2.cell? ⟨g4, 1, none⟩ = some (.string ⟨#[]⟩) := (blk_cell B4_.out 1).trans rfl; have fg4_1 := blk_frozen B4_.out 1; clear hb hbox hg5) | (at_mapUpdate; have HMX := Aside0.mk (below_set (below_set (below_set (below_set (below_set (below_set HM.out Gg4.out) Gg4.out) Gg5.out) Gg5.out) Gg5.out) Gg5.out : Below w1.heap.size w1 ((((((w2.setCell ⟨g4, 0, none⟩ (.int .i64 k.f0)).setCell ⟨g4, 1, none⟩ (.string k.f1)).setCell ⟨g5, 0, none⟩ (.int .i64 e.dc)).setCell ⟨g5, 1, none⟩ (.int .i64 e.vi)).setCell ⟨g5, 2, none⟩ (.pointer e.pa)).setCell ⟨g5, 3, none⟩ (.pointer e.pr))); have MP2 := Aside0.mk ((HD.out.grown HG1.out (fun e_ => NBD.out (Option.some.inj e_))).below HMX.out); refine MapK.put' (kv := kv) rfl _ _ _ _ rfl 41 hK kv_inj Try.underlying57 ?pm MP2.out k (itm e) ?px ?pv HKY.out (fun w9 m9 hg9 => ?_); (case pm => first | rfl | (go_simp; done) | (go_simp; rfl)); (case px => first | rfl | (go_simp; done) | (go_simp; rfl)); (case pv => first | rfl | (go_simp; done) | (go_simp; rfl)); have R9 : Aside0 (w9.heap[r]? = some (.mapIter (some bs) 1 #[0] 1)) := ⟨(hg9.block r (Nat.lt_of_lt_of_le (Array.getElem?_eq_some_iff.mp R1.out).1 HMX.out.size) (fun e_ => NBD.out (Option.some.inj e_).symm)).trans ((HMX.out.block r (Array.getElem?_eq_some_iff.mp R1.out).1).trans R1.out)⟩; have M9 := Aside0.mk m9; have S1 := Aside0.mk ((HG1.out.block bs (Array.getElem?_eq_some_iff.mp HS.out).1 (fun e_ => NBS.out (Option.some.inj e_))).trans HS.out); have S9 : Aside0 (OneAt w9 bs (kv k) (itm e)) := ⟨(hg9.block bs (Nat.lt_of_lt_of_le (Array.getElem?_eq_some_iff.mp S1.out).1 HMX.out.size) (fun e_ => HNE.out (Option.some.inj e_).symm)).trans ((HMX.out.block bs (Array.getElem?_eq_some_iff.mp S1.out).1).trans S1.out)⟩; have G9 := Aside0.mk ((HG.out.andThen HG1.out (fun j ej => .inl (by cases ej; exact RS.out))).trans ((⟨HMX.out.os, HMX.out.tape, HMX.out.output, HMX.out.size, fun i hi _ => HMX.out.block i hi⟩ : w1.grownBy _ (some bd)).trans hg9)); clear m9 hg9))
      go_roundg 1
      case measure => omega
      case rel => exact ⟨1, ⟨⟨rfl, by omega⟩⟩, R9, ⟨by simpa using M9.out⟩, S9, G9⟩
    · obtain rfl : gk = 1 := by have := HK.out; omega
      have HR1 : wr.heap[r]? = some (.mapIter (some bs) 1 #[0] 1) := HR.out
      have HR2 := Aside0.mk HR1
      clear HR HR1
      go_wp2_with (first | (at_next; refine next0 rfl _ rfl (r := r) (b := bs) rfl HR2.out HS.out ?_))
      go_end0
      exact ⟨rfl, by simpa using HD.out, HG.out⟩

theorem TK.map {w w1 : World} {b : Nat} {es : Array MapEntry} {c : Nat} (hb : w.heap[b]? = some (.map es c)) (hg : w.grownBy w1 (some b)) : TK (fun _ => False) w w1 :=
  ⟨hg.size, fun g cs t h _ => (hg.block g (Array.getElem?_eq_some_iff.mp h).1 (fun e => by
    cases e
    rw [hb] at h
    cases h)).trans h⟩
/-- What a table holds. -/
def tabF (c : Ch) (k : S28) : Option Value := (find k c).map itm
theorem tab_put (c : Ch) (g : Nat) (e : Nd) : (fun y => if y = e.k then some (itm e) else tabF c y) = tabF ((g, e) :: c) := by
  funext y
  show _ = (find y ((g, e) :: c)).map itm
  rw [find]
  by_cases h : y = e.k
  · have h2 : (e.k.f0 == y.f0 && e.k.f1.toList == y.f1.toList) = true := (keyEq_iff _ _).mpr h.symm
    rw [if_pos h, if_pos h2]
    rfl
  · have h2 : ¬ (e.k.f0 == y.f0 && e.k.f1.toList == y.f1.toList) = true := fun q => h ((keyEq_iff _ _).mp q).symm
    rw [if_neg h, if_neg h2]
    rfl
theorem held6c {g : Nat} {e : Nd} {u : Option Addr} {w : World} (h : w.heap[g]? = some (.cells (ndCells u e) 54 (0, 0))) : w.cell? ⟨g, 1, none⟩ = some (.int .i64 e.k.f0) ∧ w.cell? ⟨g, 2, none⟩ = some (.string e.k.f1) ∧ w.cell? ⟨g, 3, none⟩ = some (.int .i64 e.dc) ∧ w.cell? ⟨g, 4, none⟩ = some (.int .i64 e.vi) ∧ w.cell? ⟨g, 5, none⟩ = some (.pointer e.pa) ∧ w.cell? ⟨g, 6, none⟩ = some (.pointer e.pr) :=
  ⟨(blk_cell h 1).trans rfl, (blk_cell h 2).trans rfl, (blk_cell h 3).trans rfl, (blk_cell h 4).trans rfl, (blk_cell h 5).trans rfl, (blk_cell h 6).trans rfl⟩
set_option maxHeartbeats 8000000 in
set_option maxRecDepth 100000 in
theorem table_ (l : Ch) (w : World) (hl : At w l) (hw : ∀ x ∈ l, wfK x.2.k) (hn : l.length ≤ 1599289640400) :
    Calls Try.prog 24 #[.pointer (ptr l)] w fun x w' => ∃ b, x = .returned (.map (some b)) ∧ MapK.MapAt Try.prog 28 kv w' b l.length (tabF l) ∧ w.heap.size ≤ b ∧ Below w.heap.size w w' := by
  have hmm := @run_makeMap Try.prog
  have hK := Go.Maps.Keyed.of_law law28
  have HL := Aside0.mk hl
  have HN := Aside0.mk hn
  have HW := Aside0.mk hw
  have HM := Aside0.mk (Below.refl w.heap.size w)
  obtain ⟨vs, hvs⟩ : ∃ vs, vs = l.reverse := ⟨_, rfl⟩
  have hgs : ((selC (fun _ _ => true) [] (upto none l)).map (·.1)).reverse = vs.map (·.1) := by rw [selC_all, upto_none, hvs, List.map_reverse]
  have HVM : Aside0 (∀ x ∈ vs, x ∈ l) := ⟨fun x hx => by rw [hvs, List.mem_reverse] at hx; exact hx⟩
  have HVL : Aside0 (vs.length = l.length) := ⟨by rw [hvs, List.length_reverse]⟩
  have HGS := Aside0.mk hgs
  have HVS := Aside0.mk hvs
  clear hl hn hw hgs hvs
  go_enter Try.func24, Try.ntmps24
  go_upto_region 2 with (first | fail)
  have MP := Aside0.mk (MapK.made Try.prog 28 kv w)
  have HM1 : Aside0 (Below w.heap.size w (w.alloc (.map #[] 0))) := ⟨below_alloc HM.out _⟩
  have HL1 : Aside0 (At (w.alloc (.map #[] 0)) l) := ⟨At.below HL.out HM1.out⟩
  obtain ⟨b, eb⟩ : ∃ b, b = w.heap.size := ⟨_, rfl⟩
  have EB : Aside0 (w.heap.size ≤ b) := ⟨by omega⟩
  rw [← eb] at MP ⊢
  clear eb HL HM hmm
  generalize w.alloc (.map #[] 0) = w0 at MP HM1 HL1 ⊢
  have HM := Aside0.mk (Below.refl w0.heap.size w0)
  go_wp2_with (first | ((with_reducible refine gate_callee (f := 25) rfl ?_); refine goesL_ (some 8) rfl rfl Try.func25 (by kernel_rfl) rfl #[.pointer (ptr l), .pointer none, .func (.func 26) #[] #[]] rfl (by (try simp only [List.map_toArray, List.map_cons, List.map_nil]); first | done | rfl) ?_; refine (some26 l none w0 _ (fun _ _ => true) (fun _ _ => True) (At.below HL1.out (by repeat (first | (with_reducible first | exact HM.out | apply below_alloc | apply pw_below_drewN | apply below_drew1) | exact HM.out))) (by repeat (first | (with_reducible first | exact HM.out | apply below_alloc | apply pw_below_drewN | apply below_drew1) | exact HM.out)) trivial HN.out ?ipb ?ib ?ig ?ist).mono ?_; (case ipb => exact fun a h => by cases h); (case ib => exact fun _ _ _ _ _ => trivial); (case ig => exact fun _ _ _ _ _ _ _ => trivial); (case ist => exact fun d x r w2 _ _ _ hB => (every_ _ w2).mono (fun e w3 ⟨he, hw3⟩ => ⟨he, trivial, hw3 ▸ hB, hw3 ▸ TK.refl _ _⟩)); rintro e w1 ⟨v1, rfl, hr, hb, ht, -⟩; refine ⟨_, rfl, ?_⟩; rw [HGS.out] at hr; have HR := Aside0.mk (Kd.R_lower hr HM1.out.size); have HL2 := Aside0.mk (At.same (fun g2 cs2 h2 => ht.bl g2 cs2 54 h2 (fun h => h)) (At.below HL1.out (by repeat (first | (with_reducible first | exact HM.out | apply below_alloc | apply pw_below_drewN | apply below_drew1) | exact HM.out)))); have MP1 := Aside0.mk (MP.out.below hb); have HM2 := Aside0.mk (below_step HM1.out hb); clear hr hb ht; obtain ⟨Av, cv, ev⟩ := Kd.R_slice HR.out; subst ev; rw [List.length_map] at HR ⊢))
  clear HM MP HM1 HL1
  go_loopg [10] (vs.length + 1) (fun kq v10 w' => ∃ (i : Nat) (a : Int), v10 = .int .i64 a ∧ Aside0 (a = (i : Int)) ∧ Aside0 (kq + i = vs.length + 1 ∧ i ≤ vs.length) ∧ Aside0 (MapK.MapAt Try.prog 28 kv w' b i (tabF (vs.take i).reverse)) ∧ Aside0 (Kd.R kp 33 w' w.heap.size (fun _ => True) (.slice Av vs.length cv) (vs.map (·.1))) ∧ Aside0 (At w' l) ∧ Aside0 (Below w.heap.size w w'))
  case atStart => exact ⟨0, 0, rfl, ⟨rfl⟩, ⟨⟨by omega, by omega⟩⟩, MP1, HR, HL2, HM2⟩
  case round =>
    clear MP1 HR HL2 HM2
    obtain ⟨i, a, rfl, HE, HK, MP, HR, HL, HM⟩ := hrel
    cases gk with
    | zero => have := HK.out; omega
    | succ k1 =>
      by_cases c : a < (vs.length : Int)
      · have c0 : decide (a < (vs.length : Int)) = true := decide_eq_true c
        have hi : i < vs.length := by have := HE.out; omega
        have HV0 : Kd.R kp 33 wr w.heap.size (fun _ => True) (.slice Av (vs.map (·.1)).length cv) (vs.map (·.1)) := by rw [List.length_map]; exact HR.out
        obtain ⟨g0, cap, eg, gb, gl, _⟩ := Kd.R_form HV0 (by rw [List.length_map]; omega)
        injection eg with ea _ ec
        subst ea
        subst ec
        have p1 : (0 : Int) ≤ a := by have := HE.out; omega
        have q1 : a < (vs.length : Int) := c
        obtain ⟨ce, hl1, hM1, hc1, hf1⟩ := Kd.R_elem HR.out 0 a p1 q1
        obtain rfl : ce = [.pointer (some ⟨(vs.map (·.1)).getD a.toNat 0, 0, none⟩)] := hM1
        have hx1 := hc1 0 _ rfl
        obtain ⟨x, hx⟩ : ∃ x, vs[i]? = some x := ⟨vs[i], List.getElem?_eq_getElem hi⟩
        obtain ⟨g, e⟩ := x
        have hgd : (vs.map (·.1)).getD a.toNat 0 = g := by rw [HE.out, Int.toNat_natCast, List.getD_eq_getElem?_getD, List.getElem?_map, hx]; rfl
        rw [hgd] at hx1
        rw [show kp.sz = 1 from rfl, Nat.mul_one, Nat.add_zero] at hx1
        have hmm := HVM.out _ (List.mem_of_getElem? hx)
        obtain ⟨u, hcu⟩ := At.mem HL.out hmm
        have CU := Aside0.mk hcu
        have WK := Aside0.mk (HW.out _ hmm)
        have ht : Aside0 ((vs.take (i + 1)).reverse = (g, e) :: (vs.take i).reverse) := ⟨by rw [List.take_succ_eq_append_getElem hi, List.reverse_append]; rw [List.getElem?_eq_getElem hi] at hx; rw [Option.some.inj hx]; rfl⟩
        have ew : wrap64 (a + 1) = a + 1 := wid (by have := HE.out; omega) (by have := HE.out; have := HVL.out; have := HN.out; omega)
        replace p1 := eq_true p1
        replace q1 := eq_true q1
        clear hl1 hc1 hf1 hgd hx HV0 gl hcu hmm
        go_wp2
        refine start_ (n := 13) (S := fun w' => w'.cell? ⟨g, 1, none⟩ = some (.int .i64 e.k.f0) ∧ w'.cell? ⟨g, 2, none⟩ = some (.string e.k.f1) ∧ w'.cell? ⟨g, 3, none⟩ = some (.int .i64 e.dc) ∧ w'.cell? ⟨g, 4, none⟩ = some (.int .i64 e.vi) ∧ w'.cell? ⟨g, 5, none⟩ = some (.pointer e.pa) ∧ w'.cell? ⟨g, 6, none⟩ = some (.pointer e.pr)) (ds := []) #[false, false, false, false, false, false, false, false, false, false, false, false, false] (by kernel_rfl) rfl rfl (held6c (blk_drew CU.out)) (fun hHeld => ?_)
        have n_ := Aside0.mk (At.below HL.out (below_drew1 (Below.refl _ _)))
        clear HL
        have HL := n_
        clear n_
        have n_ := Aside0.mk (Kd.R_drew HR.out)
        clear HR
        have HR := n_
        clear n_
        have n_ := Aside0.mk (below_drew1 HM.out)
        clear HM
        have HM := n_
        clear n_
        have n_ := Aside0.mk (blk_drew CU.out)
        clear CU
        have CU := n_
        clear n_
        have n_ := Aside0.mk (MP.out.below (below_drew1 (Below.refl _ _)))
        clear MP
        have MP := n_
        clear n_
        clear hx1
        generalize wr.drew = w2 at HL HR HM CU MP hHeld ⊢
        refine pure_ (i := 0) (N := some 14) (v := ?_) (a' := ?_) #[true, false, false, false, false, false, false, false, false, false, false, false, false] rfl rfl (by kernel_rfl) (fun _ _ _ h => h) (Or.inl ⟨by rfl, ?_⟩) ?_ ?_
        rotate_left
        · intro w'
          go_simp
          with_reducible rfl
        rotate_left
        · simp only [Act.put, List.setIfInBounds_toArray, List.set_cons_zero, List.set_cons_succ, i64_w, i32_w]
          rfl
        refine pure_ (i := 2) (N := some 16) (v := ?_) (a' := ?_) #[true, false, true, false, false, false, false, false, false, false, false, false, false] rfl rfl (by kernel_rfl) (fun _ _ _ h => h) (Or.inl ⟨by rfl, ?_⟩) ?_ ?_
        rotate_left
        · intro w'
          go_simp
          with_reducible rfl
        rotate_left
        · simp only [Act.put, List.setIfInBounds_toArray, List.set_cons_zero, List.set_cons_succ, i64_w, i32_w]
          rfl
        refine pure_ (i := 3) (N := some 17) (v := ?_) (a' := ?_) #[true, false, true, true, false, false, false, false, false, false, false, false, false] rfl rfl (by kernel_rfl) (fun _ _ _ h => h) (Or.inl ⟨by rfl, ?_⟩) ?_ ?_
        rotate_left
        · intro w'
          go_simp
          with_reducible rfl
        rotate_left
        · simp only [Act.put, List.setIfInBounds_toArray, List.set_cons_zero, List.set_cons_succ, i64_w, i32_w]
          rfl
        refine pure_ (i := 4) (N := some 18) (v := ?_) (a' := ?_) #[true, false, true, true, true, false, false, false, false, false, false, false, false] rfl rfl (by kernel_rfl) (fun _ _ _ h => h) (Or.inl ⟨by rfl, ?_⟩) ?_ ?_
        rotate_left
        · intro w'
          go_simp
          with_reducible rfl
        rotate_left
        · simp only [Act.put, List.setIfInBounds_toArray, List.set_cons_zero, List.set_cons_succ, i64_w, i32_w]
          rfl
        refine pure_ (i := 6) (N := some 20) (v := ?_) (a' := ?_) #[true, false, true, true, true, false, true, false, false, false, false, false, false] rfl rfl (by kernel_rfl) (fun _ _ _ h => h) (Or.inl ⟨by rfl, ?_⟩) ?_ ?_
        rotate_left
        · intro w'
          go_simp
          with_reducible rfl
        rotate_left
        · simp only [Act.put, List.setIfInBounds_toArray, List.set_cons_zero, List.set_cons_succ, i64_w, i32_w]
          rfl
        refine pure_ (i := 7) (N := some 21) (v := ?_) (a' := ?_) #[true, false, true, true, true, false, true, true, false, false, false, false, false] rfl rfl (by kernel_rfl) (fun _ _ _ h => h) (Or.inl ⟨by rfl, ?_⟩) ?_ ?_
        rotate_left
        · intro w'
          go_simp
          with_reducible rfl
        rotate_left
        · simp only [Act.put, List.setIfInBounds_toArray, List.set_cons_zero, List.set_cons_succ, i64_w, i32_w]
          rfl
        refine pure_ (i := 8) (N := some 22) (v := ?_) (a' := ?_) #[true, false, true, true, true, false, true, true, true, false, false, false, false] rfl rfl (by kernel_rfl) (fun _ _ _ h => h) (Or.inl ⟨by rfl, ?_⟩) ?_ ?_
        rotate_left
        · intro w'
          go_simp
          with_reducible rfl
        rotate_left
        · simp only [Act.put, List.setIfInBounds_toArray, List.set_cons_zero, List.set_cons_succ, i64_w, i32_w]
          rfl
        refine take_ (i := 5) (N := some 19) (v := ?_) (a' := ?_) #[true, false, true, true, true, true, true, true, true, false, false, false, false] rfl rfl (by kernel_rfl) (fun _ _ _ h => h) (Or.inl ⟨by rfl, ?_⟩) hHeld ?_ ?_
        rotate_left
        · rintro w' ⟨s0, s1, s2, s3, s4, s5⟩
          go_simp
          with_reducible rfl
        rotate_left
        · simp only [Act.put, List.setIfInBounds_toArray, List.set_cons_zero, List.set_cons_succ, i64_w, i32_w]
          rfl
        refine take_ (i := 9) (N := some 23) (v := ?_) (a' := ?_) #[true, false, true, true, true, true, true, true, true, true, false, false, false] rfl rfl (by kernel_rfl) (fun _ _ _ h => h) (Or.inl ⟨by rfl, ?_⟩) hHeld ?_ ?_
        rotate_left
        · rintro w' ⟨s0, s1, s2, s3, s4, s5⟩
          go_simp
          with_reducible rfl
        rotate_left
        · simp only [Act.put, List.setIfInBounds_toArray, List.set_cons_zero, List.set_cons_succ, i64_w, i32_w]
          rfl
        refine one_ (i := 1) (N := some 15) #[true, true, true, true, true, true, true, true, true, true, false, false, false] rfl rfl (by kernel_rfl) (by decide) (fun K hK => ?_)
        refine value_ (w1 := w2.alloc (.map #[] 0)) (v := .map (some w2.heap.size)) (by rfl) rfl rfl ?_
        have NB : Aside0 (b ≠ w2.heap.size) := ⟨Nat.ne_of_lt MP.out.lt⟩
        have MN := Aside0.mk (heap_alloc_new w2 (.map #[] 0))
        have GN := Aside0.mk HM.out.size
        have n_ := Aside0.mk (At.below HL.out (below_alloc (Below.refl w2.heap.size w2) (.map #[] 0)))
        clear HL
        have HL := n_
        clear n_
        have n_ := Aside0.mk (Kd.R_below HR.out (below_alloc (Below.refl w2.heap.size w2) (.map #[] 0)))
        clear HR
        have HR := n_
        clear n_
        have n_ := Aside0.mk (below_alloc HM.out (.map #[] 0))
        clear HM
        have HM := n_
        clear n_
        have n_ := Aside0.mk (blk_below CU.out (below_alloc (Below.refl w2.heap.size w2) (.map #[] 0)))
        clear CU
        have CU := n_
        clear n_
        have n_ := Aside0.mk (MP.out.below (below_alloc (Below.refl w2.heap.size w2) (.map #[] 0)))
        clear MP
        have MP := n_
        clear n_
        generalize w2.alloc (.map #[] 0) = w3 at HL HR HM CU MP MN ⊢
        generalize w2.heap.size = bs at NB MN GN ⊢
        refine hK.out _ _ (held6c CU.out) (fun hHeld => ?_)
        clear hK K
        refine norm_ (a' := ?_) ?_ ?_
        rotate_left
        · show Act.put _ (some 15) _ = _
          simp only [Act.put, List.setIfInBounds_toArray, List.set_cons_zero, List.set_cons_succ, i64_w, i32_w]
          rfl
        obtain ⟨lk, hlk⟩ := key28 e.k WK.out
        obtain ⟨w4, hrun, one4, hg4⟩ := OneAt.made (v := itm e) hK Try.underlying57 MN.out hlk
        refine one_ (i := 10) (N := none) #[true, true, true, true, true, true, true, true, true, true, true, false, false] rfl rfl (by kernel_rfl) (by decide) (fun K hK => ?_)
        refine skip_ (w1 := w4) (by rfl) rfl ?_ ?_
        · have hrun2 : (Instr.mapUpdate 57 (.map (some bs)) (.agg #[.int .i64 e.k.f0, .string e.k.f1]) (.agg #[.int .i64 e.dc, .int .i64 e.vi, .pointer e.pa, .pointer e.pr])).run Try.prog w3 = .ok () w4 := hrun
          go_simp
        have HG4 := Aside0.mk hg4
        have O4 := Aside0.mk one4
        have T4 := Aside0.mk (TK.map MN.out hg4)
        clear hrun one4 hg4 hlk lk
        have n_ := Aside0.mk (At.same (fun g2 cs2 h2 => T4.out.bl g2 cs2 54 h2 (fun h => h)) HL.out)
        clear HL
        have HL := n_
        clear n_
        have n_ := Aside0.mk (T4.out.bl _ _ _ CU.out (fun h => h))
        clear CU
        have CU := n_
        clear n_
        have n_ := Aside0.mk (R_tk HR.out (fun _ _ h => h) T4.out)
        clear HR
        have HR := n_
        clear n_
        have n_ := Aside0.mk (MP.out.grown HG4.out (fun e_ => NB.out (Option.some.inj e_)))
        clear MP
        have MP := n_
        clear n_
        have n_ := Aside0.mk (HM.out.grown HG4.out HM.out.size (fun k_ hk_ => by cases hk_; exact GN.out))
        clear HM
        have HM := n_
        clear n_
        clear T4 HG4 MN
        refine hK.out _ _ (held6c CU.out) (fun hHeld => ?_)
        clear hK K
        refine pure_ (i := 11) (N := some 24) (v := ?_) (a' := ?_) #[true, true, true, true, true, true, true, true, true, true, true, true, false] rfl rfl (by kernel_rfl) (fun _ _ _ h => h) (Or.inl ⟨by rfl, ?_⟩) ?_ ?_
        rotate_left
        · intro w'
          go_simp
          with_reducible rfl
        rotate_left
        · simp only [Act.put, List.setIfInBounds_toArray, List.set_cons_zero, List.set_cons_succ, i64_w, i32_w]
          rfl
        refine one_ (i := 12) (N := some 25) #[true, true, true, true, true, true, true, true, true, true, true, true, true] rfl rfl (by kernel_rfl) (by decide) (fun K hK => ?_)
        refine goes_ Try.func29 (by kernel_rfl) rfl #[.map (some b), .map (some bs)] (by rfl) rfl rfl (by (try simp only [List.map_toArray, List.map_cons, List.map_nil]); first | done | rfl) ?_
        refine (copy_ b bs i (tabF (vs.take i).reverse) e.k e w4 WK.out MP.out O4.out NB.out).mono ?_
        rintro x w5 ⟨rfl, hm5, hg5⟩
        refine ⟨_, rfl, ?_⟩
        rw [tab_put _ g, ← ht.out] at hm5
        have MP5 := Aside0.mk hm5
        obtain ⟨es4, c4, hb4⟩ := MP.out.block
        have T5 := Aside0.mk (TK.map hb4 hg5)
        have HL5 := Aside0.mk (At.same (fun g2 cs2 h2 => T5.out.bl g2 cs2 54 h2 (fun h => h)) HL.out)
        have CU5 := Aside0.mk (T5.out.bl _ _ _ CU.out (fun h => h))
        have HR5 := Aside0.mk (R_tk HR.out (fun _ _ h => h) T5.out)
        have HM5 := Aside0.mk (HM.out.grown hg5 HM.out.size (fun k_ hk_ => by cases hk_; exact EB.out))
        clear HL CU HR HM MP O4 T5 hm5 hg5 hb4
        refine hK.out _ _ (held6c CU5.out) (fun hHeld => ?_)
        clear hK K
        refine norm_ (a' := ?_) ?_ ?_
        rotate_left
        · show Act.put _ (some 25) _ = _
          simp only [Act.put, List.setIfInBounds_toArray, List.set_cons_zero, List.set_cons_succ, i64_w, i32_w]
          rfl
        refine done_ (by kernel_rfl) ?_
        clear hHeld
        go_wp2
        go_roundg k1
        case measure => omega
        case rel => exact ⟨i + 1, a + 1, by rw [ew], ⟨by rw [HE.out]; rfl⟩, ⟨by have := HK.out; omega⟩, MP5, HR5, HL5, HM5⟩
      · have c0 : decide (a < (vs.length : Int)) = false := decide_eq_false c
        have ei : i = vs.length := by have := HE.out; have := HK.out; omega
        go_wp2
        go_ret
        exact ⟨b, rfl, by have h_ := MP.out; rw [ei, List.take_length, HVS.out, List.reverse_reverse, List.length_reverse] at h_; exact h_, EB.out, HM.out⟩
end Go.Proofs.Ytkdfbfhajojdeaa.Env
