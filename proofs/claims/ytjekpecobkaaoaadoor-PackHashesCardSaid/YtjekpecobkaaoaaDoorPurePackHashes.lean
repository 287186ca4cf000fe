/- PackHashes: a text's hash is as the document says. The pure statement. Conditions: none beyond what the argument reads as. -/
import Derived.Test.YtjekpecobkaaoaaDoorInPackHashes
import Derived.Test.YtjekpecobkaaoaaDoorPackA
namespace Go.Proofs.YtjekpecobkaaoaaDoor.Pure
set_option linter.unusedVariables false
set_option linter.unusedSimpArgs false
open Go Go.RowKit Go.Proofs.YtjekpecobkaaoaaDoorW.PrintWords Go.Proofs.YtjekpecobkaaoaaDoorW.PrintLast Go.Proofs.YtjekpecobkaaoaaDoorW.PrintMore Go.Proofs.YtjekpecobkaaoaaDoor.PAll Go.Proofs.YtjekpecobkaaoaaDoor.Frame Go.Proofs.YtjekpecobkaaoaaDoor.PackA

/-- One step of the hash. -/
def step (x b : Int) : Int := ((x.toNat ^^^ b.toNat : Nat) : Int) * 16777619 % 4294967296
theorem step_range (x b : Int) : 0 ≤ step x b ∧ step x b < 4294967296 := by unfold step; omega
theorem step_a (x b : Int) (h0 : 0 ≤ x) (h1 : x < 4294967296) (b0 : 0 ≤ b) (b1 : b < 256) : ((bits .xor .u32 x (b % 4294967296)) * 16777619) % 4294967296 = step x b := by
  obtain ⟨n, rfl⟩ := Int.eq_ofNat_of_zero_le h0
  obtain ⟨m, rfl⟩ := Int.eq_ofNat_of_zero_le b0
  rw [show (m : Int) % 4294967296 = m by omega, xor_u32 n m (by omega) (by omega)]
  rfl
theorem step_b (x b : Int) (h0 : 0 ≤ x) (h1 : x < 4294967296) (b0 : 0 ≤ b) (b1 : b < 256) : Int.tmod (IntKind.u64.wrap ((bits .xor .u64 x (IntKind.u64.wrap b)) * 16777619)) 4294967296 = step x b := by
  obtain ⟨n, rfl⟩ := Int.eq_ofNat_of_zero_le h0
  obtain ⟨m, rfl⟩ := Int.eq_ofNat_of_zero_le b0
  have hx : n ^^^ m < 2 ^ 32 := Nat.xor_lt_two_pow (by omega) (by omega)
  rw [uwrap_id (x := (m : Int)) (by omega) (by omega), bits_xor_u64_nat n m (by omega) (by omega), uwrap_id (by omega) (by omega), Int.tmod_eq_emod_of_nonneg (by omega)]
  rfl
def hash (s : ByteArray) : Nat → Int → Int → Int
  | 0, _, x => x
  | d + 1, i, x => hash s d (i + 1) (step x (bt s i))
theorem hash_range (s : ByteArray) (d : Nat) : ∀ i x : Int, 0 ≤ x → x < 4294967296 → 0 ≤ hash s d i x ∧ hash s d i x < 4294967296 := by
  induction d with
  | zero => intro i x h0 h1; exact ⟨h0, h1⟩
  | succ d ih =>
    intro i x h0 h1
    have := step_range x (bt s i)
    exact ih (i + 1) _ this.1 this.2
theorem Hash_l0 (s : ByteArray) (hs : s.size ≤ 100000) (d : Nat) : ∀ i x : Int, 0 ≤ i → i + d = s.size → 0 ≤ x → x < 4294967296 → Ev (fun k => pack_Hash.l0 k s x (s.size : Int) i) (hash s d i x) := by
  induction d with
  | zero =>
    intro i x h0 h1 h2 h3
    refine Ev.step (f := fun _ => some x) (fun k => ?_) (Ev.now _)
    simp only [pack_Hash.l0]
    rw [if_neg (by omega)]
  | succ d ih =>
    intro i x h0 h1 h2 h3
    have hb := bt_lt s i
    have hr := step_range x (bt s i)
    refine Ev.step (fun k => ?_) (ih (i + 1) _ (by omega) (by omega) hr.1 hr.2)
    simp only [pack_Hash.l0]
    rw [if_pos (by omega), if_pos (by omega), if_pos (by omega), step_a x _ h2 h3 hb.1 hb.2, wrap_id (by omega) (by omega)]
theorem RHash_l0 (s : ByteArray) (hs : s.size ≤ 100000) (d : Nat) : ∀ i x : Int, 0 ≤ i → i + d = s.size → 0 ≤ x → x < 4294967296 → Ev (fun k => orielref03_Hash.l0 k s x i) (hash s d i x) := by
  induction d with
  | zero =>
    intro i x h0 h1 h2 h3
    refine Ev.step (f := fun _ => some x) (fun k => ?_) (Ev.now _)
    simp only [orielref03_Hash.l0]
    rw [if_neg (by omega), show x % 4294967296 = x by omega]
  | succ d ih =>
    intro i x h0 h1 h2 h3
    have hb := bt_lt s i
    have hr := step_range x (bt s i)
    refine Ev.step (fun k => ?_) (ih (i + 1) _ (by omega) (by omega) hr.1 hr.2)
    simp only [orielref03_Hash.l0]
    rw [if_pos (by omega), if_pos (by omega), step_b x _ h2 h3 hb.1 hb.2, wrap_id (by omega) (by omega)]
theorem empty_ev : Ev (fun k => pack_Hash.f k (⟨#[]⟩ : ByteArray)) 2166136261 := Hash_l0 ⟨#[]⟩ (by decide) 0 0 2166136261 (by omega) rfl (by omega) (by omega)
theorem PackHashes : oriellaw03_PackHashes.Pure := by
  intro s hs
  refine Ev.rounds ?_
  unfold oriellaw03_PackHashes.f
  by_cases c : (s.size : Int) > 1000
  · refine Ev.ite_pos c (Ev.bind empty_ev ?_)
    exact Ev.ite_pos rfl alive_tail
  · refine Ev.ite_neg c ?_
    have h1 := Hash_l0 s (by omega) s.size 0 2166136261 (by omega) (by omega) (by omega) (by omega)
    have h2 := RHash_l0 s (by omega) s.size 0 2166136261 (by omega) (by omega) (by omega) (by omega)
    refine Ev.bind h1 (Ev.bind h2 ?_)
    refine Ev.ite_pos rfl (Ev.bind empty_ev ?_)
    exact Ev.ite_pos rfl alive_tail

end Go.Proofs.YtjekpecobkaaoaaDoor.Pure
