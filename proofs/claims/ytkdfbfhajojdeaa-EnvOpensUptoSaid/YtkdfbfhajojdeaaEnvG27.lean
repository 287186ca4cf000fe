/- some: the bindings behind another environment's that a function asks for, walked with function 27. Conditions: as the theorem says. -/
import Derived.Test.YtkdfbfhajojdeaaEnvC
namespace Go.Proofs.Ytkdfbfhajojdeaa.Env
open Go Go.RowKit Go.Proofs.YtkdfbfhajojdeaaW.PrintWords Go.Proofs.YtkdfbfhajojdeaaW.PrintLast Go.Proofs.YtkdfbfhajojdeaaW.PrintMore Go.Proofs.Ytkdfbfhajojdeaa.POP
set_option linter.unusedVariables false
set_option linter.unusedSimpArgs false
set_option maxHeartbeats 8000000 in
set_option maxRecDepth 100000 in
theorem some27 (gs : Nat) (l : Ch) (pb : Option Addr) (w0 w : World) (dec : Ch → Nat × Nd → Bool) (I : Ch → World → Prop) (hl : At w l) (hb : Below w0.heap.size w0 w) (hI : I [] w) (hn : l.length ≤ 1599289640400) (hpb : ∀ a, pb = some a → ∃ ca t, w.heap[a.block]? = some (.cells ca t (0, 0)))
    (hIb : ∀ d w w', I d w → Below w.heap.size w w' → I d w') (hIg : ∀ d w w' (v : Value), I d w → (∀ k, v.ownBlock = some k → ∃ cells, w.heap[k]? = some (.cells cells 33 (0, 0))) → w.grownBy w' v.ownBlock → I d w')
    (hstep : ∀ (d : Ch) (x : Nat × Nd) (r : Ch) (w : World), l = d ++ x :: r → At w (x :: r) → I d w → Below w0.heap.size w0 w → Calls Try.prog 27 #[.pointer (ptr (x :: r)), .pointer (some ⟨gs, 0, none⟩)] w fun e w' => e = .returned (.bool (dec d x)) ∧ I (d ++ [x]) w' ∧ Below w0.heap.size w0 w' ∧ TK (fun _ => False) w w') :
    Calls Try.prog 25 #[.pointer (ptr l), .pointer pb, .func (.func 27) #[] #[.pointer (some ⟨gs, 0, none⟩)]] w fun e w' => ∃ v : Value, e = .returned v ∧ Kd.R kp 33 w' w0.heap.size (fun _ => True) v ((selC dec [] (upto pb l)).map (·.1)).reverse ∧ Below w0.heap.size w0 w' ∧ TK (fun _ => False) w w' ∧ I (upto pb l) w' := by
  have hu51 := Try.underlying51
  have HL := Aside0.mk hl
  have HB := Aside0.mk hb
  have HI := Aside0.mk hI
  have HN := Aside0.mk hn
  have HPB := Aside0.mk hpb
  clear hl hb hI hn hpb
  go_enter Try.func25, Try.ntmps25
  go_wp2
  go_loopg [7, 8] (l.length + 1) (fun kq v7 v8 w' => ∃ (d r : Ch) (out : List Nat), v8 = .pointer (ptr r) ∧ Aside0 (kq = r.length + 1) ∧ Aside0 (upto pb l = d ++ upto pb r) ∧ Aside0 ((selC dec [] (upto pb l)).map (·.1) = out ++ (selC dec d (upto pb r)).map (·.1)) ∧ Aside0 (Kd.R kp 33 w' w0.heap.size (fun _ => True) v7 out) ∧ Aside0 (∀ k, v7.ownBlock = some k → w.heap.size ≤ k) ∧ Aside0 (At w' r) ∧ Aside0 (I d w') ∧ Aside0 (Below w0.heap.size w0 w') ∧ Aside0 (TK (fun _ => False) w w') ∧ Aside0 (out.length + r.length ≤ l.length ∧ l = d ++ r))
  case atStart => exact ⟨[], l, [], rfl, ⟨rfl⟩, ⟨rfl⟩, ⟨rfl⟩, ⟨Kd.R_nil _ _ _ _ _⟩, ⟨fun k hk => by cases hk⟩, HL, HI, HB, ⟨TK.refl _ _⟩, ⟨by simp, rfl⟩⟩
  case round =>
    clear HL HB HI
    obtain ⟨d, r, out, rfl, HK, HU, HS, HR, HNW, HL, HI, HB, HT, HLN⟩ := hrel
    cases gk with
    | zero => have := HK.out; omega
    | succ k1 =>
      have HM := Aside0.mk (Below.refl wr.heap.size wr)
      cases r with
      | nil =>
        have hp : ptr ([] : Ch) = none := rfl
        rw [hp]
        obtain ⟨Ao, co, ev⟩ := Kd.R_slice HR.out
        subst ev
        have HU2 : (selC dec d (upto pb [])).map (·.1) = [] := rfl
        have HU3 : upto pb [] = [] := rfl
        go_wp2_with (first | ((with_reducible refine gate_callee (f := 30) rfl ?_); refine goesL_ (some 29) rfl rfl Try.func30 (by kernel_rfl) rfl #[.slice Ao out.length co] rfl (by (try simp only [List.map_toArray, List.map_cons, List.map_nil]); first | done | rfl) ?_; refine (urev w0 _ Ao co out HR.out HB.out (by have h1_ := HLN.out.1; have h2_ := HN.out; omega)).mono ?_; rintro e w5 ⟨rfl, hr, hb, hg⟩; refine ⟨_, rfl, ?_⟩; have HR5 := Aside0.mk hr; have HB5 := Aside0.mk hb; have HT5 := Aside0.mk (HT.out.grownNew HNW.out hg); have HI5 := Aside0.mk (hIg _ _ _ _ HI.out (Kd.R_typed HR.out) hg); clear hr hb hg))
        go_ret
        exact ⟨_, rfl, by rw [HS.out, HU2, List.append_nil]; exact HR5.out, HB5.out, HT5.out, by rw [HU.out, HU3, List.append_nil]; exact HI5.out⟩
      | cons x r =>
        obtain ⟨g, e⟩ := x
        have hp : ptr ((g, e) :: r) = some ⟨g, 0, none⟩ := rfl
        rw [hp]
        clear hp
        by_cases c : some (⟨g, 0, none⟩ : Addr) = pb
        · have HU3 : upto pb ((g, e) :: r) = [] := upto_hit c
          have HU2 : (selC dec d (upto pb ((g, e) :: r))).map (·.1) = [] := by rw [HU3]; rfl
          have hq := nq_same wr ⟨g, 0, none⟩
          subst c
          obtain ⟨Ao, co, ev⟩ := Kd.R_slice HR.out
          subst ev
          go_wp2_with (first | ((with_reducible refine gate_callee (f := 30) rfl ?_); refine goesL_ (some 29) rfl rfl Try.func30 (by kernel_rfl) rfl #[.slice Ao out.length co] rfl (by (try simp only [List.map_toArray, List.map_cons, List.map_nil]); first | done | rfl) ?_; refine (urev w0 _ Ao co out HR.out HB.out (by have h1_ := HLN.out.1; have h2_ := HN.out; omega)).mono ?_; rintro e w5 ⟨rfl, hr, hb, hg⟩; refine ⟨_, rfl, ?_⟩; have HR5 := Aside0.mk hr; have HB5 := Aside0.mk hb; have HT5 := Aside0.mk (HT.out.grownNew HNW.out hg); have HI5 := Aside0.mk (hIg _ _ _ _ HI.out (Kd.R_typed HR.out) hg); clear hr hb hg))
          go_ret
          exact ⟨_, rfl, by rw [HS.out, HU2, List.append_nil]; exact HR5.out, HB5.out, HT5.out, by rw [HU.out, HU3, List.append_nil]; exact HI5.out⟩
        · have hq := nq_other wr HL.out.1 pb (fun a ha => by
            obtain ⟨ca, t, h_⟩ := HPB.out a ha
            exact ⟨ca, t, HT.out.bl _ _ _ h_ (fun h => h)⟩) c
          have HC := Aside0.mk c
          clear c
          cases hdv : dec d (g, e) with
          | true =>
            go_wp2_with (first | (go_at_call 27; refine (hstep d (g, e) r _ HLN.out.2 HL.out HI.out HB.out).mono ?_; rintro x w5 ⟨hx, hi5, hb5, ht5⟩; rw [hdv] at hx; subst hx; have HI5 := Aside0.mk hi5; have HB5 := Aside0.mk hb5; have HT5 := Aside0.mk (HT.out.trans ht5); have HR5 := Aside0.mk (R_tk HR.out (fun _ _ h => h) ht5); have HL5 := Aside0.mk (At.same (fun g2 cs2 h2 => ht5.bl g2 cs2 54 h2 (fun h => h)) HL.out); clear hi5 hb5 ht5; have x0 : w5.cell? ⟨g, 0, none⟩ = some (.pointer (ptr r)) := (blk_cell HL5.out.1 0).trans rfl) | ((with_reducible refine gate_builtin (b := .append) (xs := #[.tmp 24, .tmp 26]) rfl ?_); at_builtin; refine Kd.R_append kp (w0 := w0) w0.heap.size rfl (.tmp 24) (.tmp 26) 51 33 (.pointer none) 8 rfl Try.underlying51 info33 rfl (by decide) (by omega) u7 out g [.pointer (some ⟨g, 0, none⟩)] (fun _ => True) (fun _ => False) rfl (by first | (go_simp; done) | (go_simp; rfl)) ?aP (fun _ hk => hk.elim) ?aF ?aO ?aB ?aS ?aL ?_; (case aP => exact (show kp.M _ _ _ g [.pointer (some ⟨g, 0, none⟩)] from rfl)); (case aF => exact (fun _ _ => trivial)); (case aO => exact HR5.out); (case aB => exact HB5.out); (case aS => exact HB5.out.size); (case aL => have h1_ := HLN.out.1; have h2_ := HN.out; omega); intro v6 w6 ho6 hb6 hg6 hat6; have HR6 := Aside0.mk ho6; have HB6 := Aside0.mk hb6; have HT6 := Aside0.mk (HT5.out.grownNew HNW.out hg6); have HL6 := Aside0.mk (HL5.out.grown (Kd.R_typed HR5.out) (by decide) hg6); have HI6 := Aside0.mk (hIg _ _ _ _ HI5.out (Kd.R_typed HR5.out) hg6); have HNW6 : Aside0 (∀ k, v6.ownBlock = some k → w.heap.size ≤ k) := ⟨fun k hk => by rcases hat6 with h_ | ⟨b_, h1_, h2_⟩; exact HNW.out k (h_ ▸ hk); rw [hk] at h1_; injection h1_ with h1_; subst h1_; exact Nat.le_trans HT5.out.sz h2_⟩; clear ho6 hb6 hg6 hat6; have x0' : w6.cell? ⟨g, 0, none⟩ = some (.pointer (ptr r)) := (blk_cell HL6.out.1 0).trans rfl))
            go_roundg k1
            case measure => omega
            case rel => exact ⟨d ++ [(g, e)], r, out ++ [g], rfl, ⟨by have := HK.out; rw [List.length_cons] at this; omega⟩, ⟨by rw [HU.out, upto_go HC.out, List.append_assoc]; rfl⟩, ⟨by rw [HS.out, upto_go HC.out, selC, if_pos hdv, List.append_assoc]; rfl⟩, HR6, HNW6, ⟨HL6.out.2⟩, HI6, HB6, HT6, ⟨by have := HLN.out.1; rw [List.length_cons] at this; rw [List.length_append, List.length_singleton]; omega, by rw [List.append_assoc]; exact HLN.out.2⟩⟩
          | false =>
            go_wp2_with (first | (go_at_call 27; refine (hstep d (g, e) r _ HLN.out.2 HL.out HI.out HB.out).mono ?_; rintro x w5 ⟨hx, hi5, hb5, ht5⟩; rw [hdv] at hx; subst hx; have HI5 := Aside0.mk hi5; have HB5 := Aside0.mk hb5; have HT5 := Aside0.mk (HT.out.trans ht5); have HR5 := Aside0.mk (R_tk HR.out (fun _ _ h => h) ht5); have HL5 := Aside0.mk (At.same (fun g2 cs2 h2 => ht5.bl g2 cs2 54 h2 (fun h => h)) HL.out); clear hi5 hb5 ht5; have x0 : w5.cell? ⟨g, 0, none⟩ = some (.pointer (ptr r)) := (blk_cell HL5.out.1 0).trans rfl))
            go_roundg k1
            case measure => omega
            case rel => exact ⟨d ++ [(g, e)], r, out, rfl, ⟨by have := HK.out; rw [List.length_cons] at this; omega⟩, ⟨by rw [HU.out, upto_go HC.out, List.append_assoc]; rfl⟩, ⟨by rw [HS.out, upto_go HC.out, selC, if_neg (by rw [hdv]; decide)]⟩, HR5, HNW, ⟨HL5.out.2⟩, HI5, HB5, HT5, ⟨by have := HLN.out.1; rw [List.length_cons] at this; omega, by rw [List.append_assoc]; exact HLN.out.2⟩⟩
end Go.Proofs.Ytkdfbfhajojdeaa.Env
