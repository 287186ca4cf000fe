/- EditStands: what no edit takes stands in both texts, in order; all else is what edits put there. The pure statement. Conditions: none beyond what the arguments read as. -/
import Derived.Test.YtmgeheomokjimaaInEditStands
import Derived.Test.YtmgeheomokjimaaEditC
namespace Go.Proofs.Ytmgeheomokjimaa.Pure
set_option linter.unusedVariables false
set_option linter.unusedSimpArgs false
open Go.RowKit Go.Proofs.YtmgeheomokjimaaW.PrintWords Go.Proofs.YtmgeheomokjimaaW.PrintLast Go.Proofs.YtmgeheomokjimaaW.PrintMore Go.Proofs.Ytmgeheomokjimaa.PAll Go.Proofs.Ytmgeheomokjimaa.Frame

open Go.Proofs.Ytmgeheomokjimaa.EditA Go.Proofs.Ytmgeheomokjimaa.EditB Go.Proofs.Ytmgeheomokjimaa.EditC
theorem alive_ev : Ev (fun k => oriellaw02_alive.f k) true := Ev.of (fun k => oriellaw02_alive.mono k) (k := 30) (by kernel_rfl)
theorem No_ev (e : Int) : Ev (fun _ => oriellaw01_No.f e) e := Ev.now e
theorem alive_tail : Ev (fun k => (oriellaw02_alive.f k).bind fun t => some t) true := Ev.bind (f := fun _ t => some t) alive_ev (Ev.now _)
theorem j0_true (s : ByteArray) (l : List S47) : Ev (fun k => oriellaw02_EditStands.j0 k s l true) true := by
  refine Ev.step (fun k => ?_) alive_tail
  simp only [oriellaw02_EditStands.j0]
  rw [if_true]
theorem l1_ev (t : ByteArray) (all : Int) (l : List S47) (hl : l.length ≤ 60) (hz : sumSize l ≤ 2000) (h0 : 0 ≤ all) (h1 : all ≤ 10000) (he : (t.size : Int) = all + sumSize l) : ∀ (r pre : List S47) (n : Int), l = pre ++ r → n = sumSize pre →
    Ev (fun k => oriellaw02_EditStands.l1 k t all n l (l.length : Int) (pre.length : Int)) true := by
  intro r
  induction r with
  | nil =>
    intro pre n hp hn
    simp only [List.append_nil] at hp
    subst hp
    have := sumSize_nonneg l
    refine Ev.step (fun k => ?_) alive_tail
    simp only [oriellaw02_EditStands.l1]
    rw [if_neg (by omega), wrap_id (by omega) (by omega), if_pos (by omega)]
  | cons x r ih =>
    intro pre n hp hn
    have h2 := sumSize_append pre (x :: r)
    rw [← hp] at h2
    simp only [sumSize] at h2
    have h3 := sumSize_nonneg pre
    have h4 := sumSize_nonneg r
    have hlen : l.length = pre.length + 1 + r.length := by rw [hp]; simp only [List.length_append, List.length_cons]; omega
    have hi := ih (pre ++ [x]) (n + x.f2.size) (by rw [hp]; simp) (by rw [sumSize_append, hn]; simp [sumSize])
    have e2 : rd_T47 l (pre.length : Int) = x := by rw [hp]; exact rd_mid pre x r
    refine Ev.step (fun k => ?_) hi
    simp only [oriellaw02_EditStands.l1]
    rw [if_pos (by omega), if_pos (by omega), if_pos (by omega), e2, wrap_id (by omega) (by omega), wrap_id (by omega) (by omega)]
    simp
theorem seg_toList (s : ByteArray) (a b : Int) (h : b.toNat ≤ s.size) : (s.extract a.toNat b.toNat).toList = seg (bs s) a b := by
  rw [toList_eq, bs_extract s a b h]
theorem l0_ev (s t : ByteArray) (l : List S47) (K : List S45) (Q : List Int) (hs : s.size ≤ 2000) (ht : t.size ≤ 5000) (hl : l.length ≤ 60) (hz : sumSize l ≤ 2000) (hK : K.length = Q.length) (hKl : K.length ≤ 100) (he : (t.size : Int) = sumP K + sumSize l) :
    ∀ (ks : List S45) (ts : List Int) (pk : List S45) (pt : List Int) (all last tl : Int), K = pk ++ ks → Q = pt ++ ts → pk.length = pt.length → Stand (bs s) (bs t) last tl ks ts → 0 ≤ tl → 0 ≤ last → last ≤ 2000 →
      (pk = [] ∨ ∃ pk' p pt' q, pk = pk' ++ [p] ∧ pt = pt' ++ [q] ∧ pk'.length = pt'.length ∧ tl = q + p.f1 - p.f0 ∧ 0 ≤ q ∧ q ≤ 5000 ∧ 0 ≤ p.f0 ∧ p.f0 ≤ 2000 ∧ 0 ≤ p.f1 ∧ p.f1 ≤ 2000) → all = sumP pk → 0 ≤ all → all ≤ last →
      Ev (fun k => oriellaw02_EditStands.l0 k s l t K Q all last K (K.length : Int) (pk.length : Int)) true := by
  intro ks
  induction ks with
  | nil =>
    intro ts pk pt all last tl hk hq hpl hS h0 h1 h2 hprev ha ha0 hal
    simp only [List.append_nil] at hk
    subst hk
    refine Ev.step (fun k => ?_) (l1_ev t all l hl hz ha0 (by omega) (by rw [he, ha]) l [] 0 rfl rfl)
    simp only [oriellaw02_EditStands.l0]
    rw [if_neg (by omega)]
    rfl
  | cons p ks ih =>
    intro ts pk pt all last tl hk hq hpl hS h0 h1 h2 hprev ha ha0 hal
    cases ts with
    | nil => exact hS.elim
    | cons q ts =>
      obtain ⟨a1, a2, a3, a4, a5, a6, a7⟩ := hS
      rw [bs_len] at a3 a5
      have hlk : K.length = pk.length + 1 + ks.length := by rw [hk]; simp only [List.length_append, List.length_cons]; omega
      have e1 : rd_T45 K (pk.length : Int) = p := by rw [hk]; exact rd_pair pk p ks
      have e2 : rd Q (pk.length : Int) = q := by rw [hq, hpl]; exact rd_int pt q ts
      have hi := ih ts (pk ++ [p]) (pt ++ [q]) (all + p.f1 - p.f0) p.f1 (q + p.f1 - p.f0) (by rw [hk]; simp) (by rw [hq]; simp) (by simp [hpl]) a7 (by omega) (by omega) (by omega)
        (Or.inr ⟨pk, p, pt, q, rfl, rfl, hpl, rfl, by omega, by omega, by omega, by omega, by omega, by omega⟩) (by rw [sumP_append, ha]; simp only [sumP]; omega) (by omega) (by omega)
      have hne : ((s.extract (p.f0 : Int).toNat (p.f1 : Int).toNat).toList != (t.extract (q : Int).toNat ((q + p.f1 - p.f0) : Int).toNat).toList) = false := by
        rw [seg_toList s p.f0 p.f1 (by omega), seg_toList t q (q + p.f1 - p.f0) (by omega), a6]
        simp
      have hj : Ev (fun k => oriellaw02_EditStands.j3 k s l t K Q all (pk.length : Int) K (K.length : Int) (pk.length : Int) false p.f0 p.f1) true := by
        refine Ev.step (fun k => ?_) hi
        simp only [oriellaw02_EditStands.j3]
        rw [if_neg (by simp), wrap_id (x := all + p.f1) (by omega) (by omega), wrap_id (x := all + p.f1 - p.f0) (by omega) (by omega), wrap_id (x := (pk.length : Int) + 1) (by omega) (by omega),
          show (((pk ++ [p]).length : Nat) : Int) = (pk.length : Int) + 1 by simp]
        by_cases c : pk.length = 0
        · rw [if_neg (by omega)]
        · obtain hp | ⟨pk', p', pt', q', b1, b2, b3, b4, b5, b6, b7, b8, b9, b10⟩ := hprev
          · rw [hp] at c; exact absurd rfl c
          · have hl' : pk.length = pk'.length + 1 := by rw [b1]; simp
            have e3 : wrap64 ((pk.length : Int) - 1) = (pk'.length : Int) := by rw [wrap_id (by omega) (by omega)]; omega
            have e4 : rd_T45 K (pk'.length : Int) = p' := by
              rw [hk, b1, List.append_assoc]; exact rd_pair pk' p' _
            have e5 : rd Q (pk'.length : Int) = q' := by
              rw [hq, b2, b3, List.append_assoc]; exact rd_int pt' q' _
            rw [if_pos (by omega), if_pos (by omega), if_pos (by omega), e3, if_pos (by omega), if_pos (by omega), if_pos (by omega), e2, e4, e5, wrap_id (x := q' + p'.f1) (by omega) (by omega), wrap_id (x := q' + p'.f1 - p'.f0) (by omega) (by omega), if_neg (by omega)]
      refine Ev.step (fun k => ?_) hj
      simp only [oriellaw02_EditStands.l0]
      rw [e1, e2, wrap_id (x := q + p.f1) (by omega) (by omega), wrap_id (x := q + p.f1 - p.f0) (by omega) (by omega)]
      rw [if_pos (by omega), if_pos (by omega), if_pos (by omega), if_neg (by omega), if_neg (by omega), if_neg (by omega), if_pos (by omega), if_neg (by omega), if_neg (by omega), if_pos (by omega), if_pos (by omega), if_pos (by omega), if_pos (by omega), if_pos (by omega), if_pos (by omega), hne]
theorem j0_few (s : ByteArray) (l : List S47) (hs : s.size ≤ 2000) (hl : l.length ≤ 60) (hz : sumSize l ≤ 2000) : Ev (fun k => oriellaw02_EditStands.j0 k s l false) true := by
  have hA := Apply_ev s l (by omega) (by omega)
  have hB := Kept_ev (s.size : Int) (by omega) l (by omega) (by omega)
  refine Ev.step (fun k => by simp only [oriellaw02_EditStands.j0]; rw [if_neg (by simp)]) ?_
  refine Ev.bind hA ?_
  refine Ev.bind hB ?_
  by_cases c : checkSpec s.size l = 0
  · simp only [if_pos c]
    have hc := chain_zero c
    have hal := app_len (bs s) l 0 (by rw [bs_len]; exact hc)
    rw [bs_len] at hal
    refine Ev.bind (No_ev 0) ?_
    refine Ev.ite_pos rfl ?_
    refine Ev.bind (No_ev 0) ?_
    have hsz : ((⟨(app (bs s) l 0).toArray⟩ : ByteArray).size : Int) = (app (bs s) l 0).length := by rw [← bs_len, bs_mk (app (bs s) l 0)]
    have hst := stand_of s l 0 0 [] (app (bs s) l 0) hc rfl rfl
    have hkl := kP_len s.size l 0
    have hkt := kPT_len s.size l 0 0
    have hl0 := l0_ev s ⟨(app (bs s) l 0).toArray⟩ l (kP s.size l 0) (kT s.size l 0 0) hs (by omega) hl hz hkt (by omega) (by rw [hsz, hst.2]; simp) (kP s.size l 0) (kT s.size l 0 0) [] [] 0 0 0 rfl rfl rfl
      (by rw [bs_mk (app (bs s) l 0)]; exact hst.1) (by omega) (by omega) (by omega) (Or.inl rfl) rfl (by omega) (by omega)
    refine Ev.step (fun k => ?_) hl0
    simp only [oriellaw02_EditStands.j1]
    rw [if_neg (by simp), if_pos (by omega)]
    rfl
  · simp only [if_neg c]
    have hj : Ev (fun k => oriellaw02_EditStands.j1 k s l ⟨#[]⟩ (checkSpec s.size l) [] [] (checkSpec s.size l) true) true := by
      refine Ev.step (fun k => by simp only [oriellaw02_EditStands.j1]; rw [if_true]) ?_
      refine Ev.bind (No_ev _) ?_
      refine Ev.bind (No_ev _) ?_
      exact Ev.ite_pos rfl alive_tail
    refine Ev.bind (No_ev _) ?_
    exact Ev.ite_neg c hj
theorem EditStands : oriellaw02_EditStands.Pure := by
  intro s l hs hl
  have hl' : l.length ≤ 9223372036854775807 := hl.1
  refine Ev.rounds ?_
  unfold oriellaw02_EditStands.f
  by_cases h : (s.size : Int) > 2000
  · exact Ev.ite_pos h (j0_true s l)
  · refine Ev.ite_neg h ?_
    obtain ⟨b, hb, hb2⟩ := few_ev l hl'
    refine Ev.bind hb ?_
    cases b with
    | false => exact j0_true s l
    | true => exact j0_few s l (by omega) (hb2 rfl).1 (hb2 rfl).2

end Go.Proofs.Ytmgeheomokjimaa.Pure
