/- EditThen: one edit makes of a text what two lists of edits make of it, one behind the other. The pure statement. Conditions: none beyond what the arguments read as. -/
import Derived.Test.YtmgeheomokjimaaInEditThen
import Derived.Test.YtmgeheomokjimaaEditD
namespace Go.Proofs.Ytmgeheomokjimaa.Pure
set_option linter.unusedVariables false
set_option linter.unusedSimpArgs false
open Go.RowKit Go.Proofs.YtmgeheomokjimaaW.PrintWords Go.Proofs.YtmgeheomokjimaaW.PrintLast Go.Proofs.YtmgeheomokjimaaW.PrintMore Go.Proofs.Ytmgeheomokjimaa.PAll Go.Proofs.Ytmgeheomokjimaa.Frame

open Go.Proofs.Ytmgeheomokjimaa.EditA Go.Proofs.Ytmgeheomokjimaa.EditB Go.Proofs.Ytmgeheomokjimaa.EditD
theorem alive_ev : Ev (fun k => oriellaw02_alive.f k) true := Ev.of (fun k => oriellaw02_alive.mono k) (k := 30) (by kernel_rfl)
theorem No_ev (e : Int) : Ev (fun _ => oriellaw01_No.f e) e := Ev.now e
theorem alive_tail : Ev (fun k => (oriellaw02_alive.f k).bind fun t => some t) true := Ev.bind (f := fun _ t => some t) alive_ev (Ev.now _)
theorem j0_true (s : ByteArray) (l m : List S47) : Ev (fun k => oriellaw02_EditThen.j0 k s l m true) true := by
  refine Ev.step (fun k => ?_) alive_tail
  simp only [oriellaw02_EditThen.j0]
  rw [if_true]
theorem size_mk (l : List UInt8) : (⟨l.toArray⟩ : ByteArray).size = l.length := by rw [← bs_len, bs_mk l]
theorem j0_few (s : ByteArray) (l m : List S47) (hs : s.size ≤ 1000) (hl : l.length ≤ 60) (hz : sumSize l ≤ 2000) (hm : m.length ≤ 60) (hzm : sumSize m ≤ 2000) : Ev (fun k => oriellaw02_EditThen.j0 k s l m false) true := by
  have hA := Apply_ev s l (by omega) (by omega)
  refine Ev.step (fun k => by simp only [oriellaw02_EditThen.j0]; rw [if_neg (by simp)]) ?_
  refine Ev.bind hA ?_
  by_cases c : checkSpec s.size l = 0
  · have hc := chain_zero c
    have hcb : Chain (bs s).length 0 l := by rw [bs_len]; exact hc
    have hal := app_len (bs s) l 0 hcb
    have ham := app_more (bs s) l 0 hcb
    rw [bs_len] at hal ham
    rw [if_pos c] at hA ⊢
    have hts := size_mk (app (bs s) l 0)
    have hB := Apply_ev ⟨(app (bs s) l 0).toArray⟩ m (by omega) (by omega)
    rw [bs_mk (app (bs s) l 0)] at hB
    refine Ev.bind hB ?_
    by_cases d : checkSpec ((⟨(app (bs s) l 0).toArray⟩ : ByteArray).size : Int) m = 0
    · have hd := chain_zero d
      rw [hts] at hd
      have hal2 := app_len (app (bs s) l 0) m 0 hd
      rw [if_pos d] at hB ⊢
      have hus := size_mk (app (app (bs s) l 0) m 0)
      have hok := allOk_mem (check_zero c).1
      have hok2 := allOk_mem (check_zero d).1
      rw [hts] at hok2
      obtain ⟨a, e, ⟨b0, b1, b2, b3, b4, b5⟩, b6⟩ := Then_l0 s ⟨(app (app (bs s) l 0) m 0).toArray⟩ (by omega) (by omega) l m (by omega) (by omega) hc (by omega) ((app (bs s) l 0).length : Int) (by omega) (by omega) hok2 l [] (s.size : Int) 0 rfl (by omega) (by omega) (by omega) (by omega) hok
      by_cases n : l.length + m.length = 0
      · have hThen : Ev (fun k => edit_Then.f k s l m) ([], 0) := by
          unfold edit_Then.f
          refine Ev.bind hA (Ev.ite_pos rfl (Ev.bind hB (Ev.ite_pos rfl ?_)))
          have := b6 (fun h => absurd n h)
          unfold one at this
          rw [if_pos n] at this
          exact this
        have hl0 : l = [] := List.length_eq_zero_iff.mp (by omega)
        have hm0 : m = [] := List.length_eq_zero_iff.mp (by omega)
        subst hl0
        subst hm0
        have hF := Apply_ev s [] (by simp) (by simp only [sumSize]; omega)
        rw [if_pos c] at hF
        refine Ev.bind hThen ?_
        refine Ev.bind (No_ev 0) ?_
        refine Ev.ite_pos rfl ?_
        refine Ev.bind (No_ev 0) ?_
        refine Ev.ite_pos rfl ?_
        refine Ev.bind hF ?_
        refine Ev.bind (No_ev 0) ?_
        refine Ev.bind (No_ev 0) ?_
        refine Ev.ite_pos (by kernel_rfl) ?_
        refine Ev.ite_pos (by rw [toList_eq, toList_eq]; dsimp only; rw [bs_mk (app (bs s) [] 0), bs_mk (app (app (bs s) [] 0) [] 0)]; simp [app]) ?_
        refine Ev.ite_pos (by simp) ?_
        refine Ev.ite_neg (by simp) ?_
        refine Ev.ite_pos (by kernel_rfl) ?_
        exact alive_tail
      · have hae : a ≤ e := by
          cases l with
          | cons x r =>
            have h1 := b4 x List.mem_cons_self
            have h2 := hok x List.mem_cons_self
            unfold okE at h2
            omega
          | nil =>
            cases m with
            | nil => exact absurd rfl n
            | cons y r =>
              have h1 := b5 y List.mem_cons_self
              have h2 := hok2 y List.mem_cons_self
              unfold okE at h2
              simp only [ahd] at h1
              omega
        obtain ⟨M, hM⟩ := one_frame (bs s) l m a e b0 hae (by rw [bs_len]; exact b3) hcb hd b4 b5
        have hl1 : (seg (bs s) 0 a).length = a.toNat := by rw [seg_len (bs s) 0 a (by rw [bs_len]; omega)]; omega
        have hl2 : ((bs s).drop e.toNat).length = s.size - e.toNat := by rw [List.length_drop, bs_len]
        have hul : ((app (app (bs s) l 0) m 0).length : Int) = a + M.length + (s.size - e) := by rw [hM]; simp only [List.length_append, hl1, hl2]; omega
        have hub : (((⟨(app (app (bs s) l 0) m 0).toArray⟩ : ByteArray).size : Nat) : Int) - ((s.size : Int) - e) = a + M.length := by rw [hus]; omega
        have hThen : Ev (fun k => edit_Then.f k s l m) ([(⟨a, e, (⟨(app (app (bs s) l 0) m 0).toArray⟩ : ByteArray).extract a.toNat (a + M.length).toNat⟩ : S47)], 0) := by
          unfold edit_Then.f
          refine Ev.bind hA (Ev.ite_pos rfl (Ev.bind hB (Ev.ite_pos rfl ?_)))
          have := b6 (fun _ => by rw [hub]; omega)
          unfold one at this
          rw [if_neg n, hub] at this
          exact this
        have hext : bs ((⟨(app (app (bs s) l 0) m 0).toArray⟩ : ByteArray).extract a.toNat (a + M.length).toNat) = M := by
          rw [bs_extract _ a (a + M.length) (by rw [hus]; omega), bs_mk (app (app (bs s) l 0) m 0), hM]
          unfold seg
          have hl1' : (List.take (a.toNat - (0 : Int).toNat) (List.drop (0 : Int).toNat (bs s))).length = a.toNat := hl1
          rw [List.append_assoc, show List.drop a.toNat (List.take (a.toNat - (0 : Int).toNat) (List.drop (0 : Int).toNat (bs s)) ++ (M ++ List.drop e.toNat (bs s))) = M ++ List.drop e.toNat (bs s) from List.drop_left' hl1',
            show (a + (M.length : Int)).toNat - a.toNat = M.length by omega]
          exact List.take_left
        generalize hx : (⟨a, e, (⟨(app (app (bs s) l 0) m 0).toArray⟩ : ByteArray).extract a.toNat (a + M.length).toNat⟩ : S47) = x at hThen
        have hx0 : x.f0 = a := by rw [← hx]
        have hx1 : x.f1 = e := by rw [← hx]
        have hx2 : bs x.f2 = M := by rw [← hx]; exact hext
        have hxs : x.f2.size = M.length := by rw [← bs_len, hx2]
        have hck : checkSpec s.size [x] = 0 := by
          unfold checkSpec
          rw [if_pos ⟨by simp only [allOk, okE, hx0, hx1]; simp; omega, by omega⟩]; rfl
        have hF := Apply_ev s [x] (by simp) (by simp only [sumSize, hxs]; omega)
        rw [if_pos hck] at hF
        have hres : app (bs s) [x] 0 = app (app (bs s) l 0) m 0 := by
          rw [hM]
          simp only [app, hx0, hx1, hx2]
        rw [hres] at hF
        refine Ev.bind hThen ?_
        refine Ev.bind (No_ev 0) ?_
        refine Ev.ite_pos rfl ?_
        refine Ev.bind (No_ev 0) ?_
        refine Ev.ite_pos rfl ?_
        refine Ev.bind hF ?_
        refine Ev.bind (No_ev 0) ?_
        refine Ev.bind (No_ev 0) ?_
        refine Ev.ite_pos (by kernel_rfl) ?_
        refine Ev.ite_pos rfl ?_
        refine Ev.ite_pos (by simp) ?_
        refine Ev.ite_pos (by simp) ?_
        exact alive_tail
    · rw [if_neg d] at hB ⊢
      have hThen : Ev (fun k => edit_Then.f k s l m) ([], checkSpec ((⟨(app (bs s) l 0).toArray⟩ : ByteArray).size : Int) m) := by
        unfold edit_Then.f
        exact Ev.bind hA (Ev.ite_pos rfl (Ev.bind hB (Ev.ite_neg d (Ev.now _))))
      refine Ev.bind hThen ?_
      refine Ev.bind (No_ev 0) ?_
      refine Ev.ite_pos rfl ?_
      refine Ev.bind (No_ev _) ?_
      refine Ev.ite_neg d ?_
      refine Ev.bind (No_ev _) ?_
      refine Ev.bind (No_ev _) ?_
      refine Ev.ite_pos rfl ?_
      refine Ev.ite_pos (by simp) ?_
      exact alive_tail
  · rw [if_neg c] at hA ⊢
    have hThen : Ev (fun k => edit_Then.f k s l m) ([], checkSpec s.size l) := by
      unfold edit_Then.f
      exact Ev.bind hA (Ev.ite_neg c (Ev.now _))
    have hB := Apply_ev ⟨#[]⟩ m (by omega) (by rw [show (⟨#[]⟩ : ByteArray).size = 0 from rfl]; omega)
    refine Ev.bind hB ?_
    refine Ev.bind hThen ?_
    refine Ev.bind (No_ev _) ?_
    refine Ev.ite_neg c ?_
    refine Ev.bind (No_ev _) ?_
    refine Ev.bind (No_ev _) ?_
    refine Ev.ite_pos rfl ?_
    refine Ev.ite_pos (by simp) ?_
    exact alive_tail
theorem EditThen : oriellaw02_EditThen.Pure := by
  intro s l m hs hl hm
  have hl' : l.length ≤ 9223372036854775807 := hl.1
  have hm' : m.length ≤ 9223372036854775807 := hm.1
  refine Ev.rounds ?_
  unfold oriellaw02_EditThen.f
  by_cases h : (s.size : Int) > 1000
  · exact Ev.ite_pos h (j0_true s l m)
  · refine Ev.ite_neg h ?_
    obtain ⟨b, hb, hb2⟩ := few_ev l hl'
    refine Ev.bind hb ?_
    cases b with
    | false => exact Ev.ite_neg (by simp) (j0_true s l m)
    | true =>
      refine Ev.ite_pos rfl ?_
      obtain ⟨b', hb', hb2'⟩ := few_ev m hm'
      refine Ev.bind hb' ?_
      cases b' with
      | false => exact j0_true s l m
      | true => exact j0_few s l m (by omega) (hb2 rfl).1 (hb2 rfl).2 (hb2' rfl).1 (hb2' rfl).2

end Go.Proofs.Ytmgeheomokjimaa.Pure
