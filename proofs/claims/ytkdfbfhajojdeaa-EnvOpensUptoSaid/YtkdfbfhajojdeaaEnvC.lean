/- What some and its kin compute. Conditions: as the theorems say. -/
import Derived.Test.YtkdfbfhajojdeaaEnvB
import Derived.LaidEqlPtr
import Derived.DeepKeys4
import Derived.Lib.Builder
namespace Go.Proofs.Ytkdfbfhajojdeaa.Env
open Go Go.RowKit Go.Proofs.YtkdfbfhajojdeaaW.PrintWords Go.Proofs.YtkdfbfhajojdeaaW.PrintLast Go.Proofs.YtkdfbfhajojdeaaW.PrintMore Go.Proofs.Ytkdfbfhajojdeaa.POP
set_option linter.unusedVariables false
set_option linter.unusedSimpArgs false
/-- The bindings behind another environment's. -/
def upto (pb : Option Addr) : Ch → Ch
  | [] => []
  | x :: r => if some (⟨x.1, 0, none⟩ : Addr) = pb then [] else x :: upto pb r
/-- Those that are asked for, the youngest first. -/
def selC (dec : Ch → Nat × Nd → Bool) : Ch → Ch → Ch
  | _, [] => []
  | d, x :: r => if dec d x = true then x :: selC dec (d ++ [x]) r else selC dec (d ++ [x]) r
theorem selC_all : ∀ (d l : Ch), selC (fun _ _ => true) d l = l
  | _, [] => rfl
  | d, x :: r => by rw [selC, if_pos rfl, selC_all]
theorem selC_mem {dec : Ch → Nat × Nd → Bool} : ∀ {d l : Ch} {x : Nat × Nd}, x ∈ selC dec d l → x ∈ l
  | _, [], _, h => h
  | d, y :: r, x, h => by
    rw [selC] at h
    by_cases c : dec d y = true
    · rw [if_pos c] at h
      rcases List.mem_cons.mp h with rfl | h
      · exact List.mem_cons_self
      · exact List.mem_cons_of_mem _ (selC_mem h)
    · rw [if_neg c] at h
      exact List.mem_cons_of_mem _ (selC_mem h)
theorem upto_none : ∀ l : Ch, upto none l = l
  | [] => rfl
  | x :: r => by rw [upto, if_neg (by simp), upto_none]
theorem upto_mem {pb : Option Addr} : ∀ {l : Ch} {x : Nat × Nd}, x ∈ upto pb l → x ∈ l
  | [], _, h => h
  | y :: r, x, h => by
    rw [upto] at h
    by_cases c : some (⟨y.1, 0, none⟩ : Addr) = pb
    · rw [if_pos c] at h
      cases h
    · rw [if_neg c] at h
      rcases List.mem_cons.mp h with rfl | h
      · exact List.mem_cons_self
      · exact List.mem_cons_of_mem _ (upto_mem h)
theorem At.mem {w : World} : ∀ {l : Ch} {g : Nat} {e : Nd}, At w l → (g, e) ∈ l → ∃ u, w.heap[g]? = some (.cells (ndCells u e) 54 (0, 0))
  | [], _, _, _, h => by cases h
  | (g', e') :: r, g, e, h, hm => by
    rcases List.mem_cons.mp hm with q | q
    · injection q with q1 q2
      subst q1
      subst q2
      exact ⟨_, h.1⟩
    · exact At.mem h.2 q
/-! ### keys -/
def kv (k : S28) : Value := .agg #[.int .i64 k.f0, .string k.f1]
def keyEq (a b : S28) : Bool := a.f0 == b.f0 && a.f1.toList == b.f1.toList
theorem kv_inj (x y : S28) (h : kv x = kv y) : x = y := by
  unfold kv at h
  injection h with h
  have h1 := congrArg (·[0]?) h
  have h2 := congrArg (·[1]?) h
  simp only [List.getElem?_toArray, List.getElem?_cons_zero, List.getElem?_cons_succ, Option.some.injEq, Value.int.injEq, Value.string.injEq, true_and] at h1 h2
  cases x
  cases y
  simp only at h1 h2
  subst h1
  subst h2
  rfl
theorem toList_loop (s : ByteArray) (d : Nat) : ∀ (i : Nat) (r : List UInt8), s.size - i = d → ByteArray.toList.loop s i r = r.reverse ++ s.data.toList.drop i := by
  induction d with
  | zero =>
    intro i r h
    rw [ByteArray.toList.loop, if_neg (by omega), List.drop_of_length_le (by rw [Array.length_toList]; show s.size ≤ i; omega)]
    simp
  | succ d ih =>
    intro i r h
    have hi : i < s.data.toList.length := by rw [Array.length_toList]; show i < s.size; omega
    rw [ByteArray.toList.loop, if_pos (by omega), ih (i + 1) _ (by omega), List.drop_eq_getElem_cons hi]
    have : s.get! i = s.data.toList[i] := by
      show s.data[i]! = _
      rw [getElem!_pos s.data i (by rw [← Array.length_toList]; exact hi)]
      simp
    rw [this]
    simp
theorem toList_eq (s : ByteArray) : s.toList = s.data.toList := by
  unfold ByteArray.toList
  rw [toList_loop s s.size 0 [] (by omega)]
  simp
theorem toList_inj' {s t : ByteArray} (h : s.toList = t.toList) : s = t := by
  rw [toList_eq, toList_eq] at h
  cases s
  cases t
  congr 1
  exact Array.toList_inj.mp h
theorem keyEq_iff (x y : S28) : keyEq x y = true ↔ x = y := by
  constructor
  · intro h
    unfold keyEq at h
    rw [Bool.and_eq_true, beq_iff_eq, beq_iff_eq] at h
    cases x
    cases y
    simp only at h
    obtain ⟨h1, h2⟩ := h
    subst h1
    rw [toList_inj' h2]
  · rintro rfl
    unfold keyEq
    simp
/-- A key that can stand in memory. -/
def wfK (k : S28) : Prop := (Lit.int .i64 k.f0).wf = true ∧ k.f1.size ≤ maxLen
theorem law28 : WideMaps.KeyLaw Try.prog 28 := deep_law_laid (m := 2) (show laidOutB Try.prog = true by kernel_rfl) (by omega) (of_decide_eq_true (by kernel_rfl)) (by kernel_rfl) (by kernel_rfl)
theorem formed28 (k : S28) : (kv k).formed Try.prog 28 = true := by
  have hc : Try.prog.cellsOf 28 = 2 := by kernel_rfl
  simp [kv, Value.formed, Try.underlying28, hc]
theorem key28 (k : S28) (h : wfK k) : ∃ l, keyOf Try.prog 28 (kv k) = some l := by
  have hk : Try.prog.keyType 28 = true := by kernel_rfl
  have hc : Try.prog.cellsOf 28 = 2 := by kernel_rfl
  have hc3 : Try.prog.cellsOf 3 = 1 := by kernel_rfl
  have hc9 : Try.prog.cellsOf 9 = 1 := by kernel_rfl
  obtain ⟨d, hd⟩ : ∃ d, Try.prog.types.size = d + 1 := ⟨Try.prog.types.size - 1, by have : 0 < Try.prog.types.size := of_decide_eq_true (by kernel_rfl); omega⟩
  have h3 : Try.prog.keyLits (d + 1) 3 [.int .i64 k.f0] = some [.int .i64 k.f0] := by
    simp [Program.keyLits, Try.underlying3, h.1]
  have h9 : Try.prog.keyLits (d + 1) 9 [.string k.f1] = some [.string k.f1.data.toList] := by
    simp [Program.keyLits, Try.underlying9, h.2]
  have h28 : Try.prog.keyLits (d + 1 + 1) 28 [.int .i64 k.f0, .string k.f1] = some [.int .i64 k.f0, .string k.f1.data.toList] := by
    unfold Program.keyLits
    simp only [Try.underlying28]
    simp [hc, hc3, hc9, h3, h9]
  unfold keyOf
  simp only [Try.underlying28, hk, formed28, Bool.and_self, if_true, hd]
  show ∃ l, Option.map _ (Try.prog.keyLits (d + 1 + 1) 28 [.int .i64 k.f0, .string k.f1]) = some l
  rw [h28]
  exact ⟨_, rfl⟩
theorem info33 : (Try.prog.info? 33).map (fun i => (i.zero, i.size, i.bytes)) = some (some (.pointer none), 1, 8) := by kernel_rfl
theorem nq_same (w : World) (a : Addr) : (binOp .neq 33 (.pointer (some a)) (.pointer (some a))).run Try.prog w = .ok (.bool false) w := by
  obtain ⟨j, hj, _⟩ := Option.map_eq_some_iff.1 (show (Try.prog.info? 54).map (·.size) = some 7 by kernel_rfl)
  exact Lib.run_neq_ptr_same w a Try.underlying33 hj
theorem nq_other (w : World) {g : Nat} {cs : Array Value} (hg : w.heap[g]? = some (.cells cs 54 (0, 0))) (pb : Option Addr) (hpb : ∀ a, pb = some a → ∃ ca t, w.heap[a.block]? = some (.cells ca t (0, 0))) (hne : ¬ some (⟨g, 0, none⟩ : Addr) = pb) :
    (binOp .neq 33 (.pointer (some ⟨g, 0, none⟩)) (.pointer pb)).run Try.prog w = .ok (.bool true) w := by
  obtain ⟨j, hj, hjs⟩ := Option.map_eq_some_iff.1 (show (Try.prog.info? 54).map (·.size) = some 7 by kernel_rfl)
  cases pb with
  | none =>
    have h : ∀ d : Nat, (Op.equalIn (d + 1) 33 (.pointer (some ⟨g, 0, none⟩)) (.pointer none)).run Try.prog w = .ok false w := fun d => by
      simp [Op.equalIn, run_underlying Try.underlying33]
    simp only [binOp]
    simp [Op.equal, Op.maxDepth, h 9999]
  | some a =>
    obtain ⟨ca, t, ha⟩ := hpb a rfl
    have h1 := run_eql_ptr_other w Try.underlying33 hj (by rw [hjs]; decide) (fun e => hne (by rw [e])) (show w.heap[(⟨g, 0, none⟩ : Addr).block]? = _ from hg) ha
    have h2 : ∀ d : Nat, (Op.equalIn (d + 1) 33 (.pointer (some ⟨g, 0, none⟩)) (.pointer (some a))).run Try.prog w = .ok false w := fun d => by
      simp [Op.equalIn, run_underlying Try.underlying33, sizeOf, typeInfo, hj, hjs, run_sameAddr_other w (a := ⟨g, 0, none⟩) (b := a) (fun e => hne (by rw [e])) hg ha]
    simp only [binOp]
    simp [Op.equal, Op.maxDepth, h2 9999]
theorem upto_nil (pb : Option Addr) : upto pb [] = [] := rfl
theorem upto_hit {pb : Option Addr} {x : Nat × Nd} {r : Ch} (h : some (⟨x.1, 0, none⟩ : Addr) = pb) : upto pb (x :: r) = [] := by rw [upto, if_pos h]
theorem upto_go {pb : Option Addr} {x : Nat × Nd} {r : Ch} (h : ¬ some (⟨x.1, 0, none⟩ : Addr) = pb) : upto pb (x :: r) = x :: upto pb r := by rw [upto, if_neg h]
end Go.Proofs.Ytkdfbfhajojdeaa.Env
