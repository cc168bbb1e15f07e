/- SpansCut: the law answers true, from its first line on: plain lists and numbers. -/
import Derived.Test.YtmoagoopdfpcnaaEPCut
namespace Go.Proofs.Ytmoagoopdfpcnaa.Q
open Go.RowKit Go.Proofs.YtmoagoopdfpcnaaW.PrintWords Go.Proofs.YtmoagoopdfpcnaaW.PrintLast Go.Proofs.YtmoagoopdfpcnaaW.PrintMore Go.Proofs.Ytmoagoopdfpcnaa.SpMath
set_option linter.unusedVariables false
set_option linter.unusedSimpArgs false

/-! ### The bound on the number of cuts -/
theorem cutS_two (m : Int) (s : S31) : (cutS m s).length ≤ 2 := by
  unfold cutS cutL
  split <;> split <;> simp
theorem cutAll_len (m : Int) : ∀ F : List S31, (F.flatMap (cutS m)).length ≤ 2 * F.length
  | [] => by simp
  | s :: F => by
    have h1 := cutS_two m s
    have h2 := cutAll_len m F
    rw [List.flatMap_cons, List.length_append, List.length_cons]; omega
theorem cutsP_eighty (m : Int) : ∀ SS : List (List Sp), (∀ T ∈ SS, T.length ≤ 40) → (cutsP m (SS.map (·.map mk))).length ≤ SS.length * 80
  | [], _ => by simp [cutsP]
  | T :: SS, h => by
    have h1 := cutsP_eighty m SS (fun U hU => h U (List.mem_cons_of_mem _ hU))
    have h2 := h T List.mem_cons_self
    have h3 := cutAll_len m (formS (T.map mk))
    have h4 : (formS (T.map mk)).length ≤ T.length := by
      unfold formS
      rw [List.length_map]
      refine Nat.le_trans (form_len _) ?_
      rw [List.length_map, List.length_map]; exact Nat.le_refl _
    unfold cutsP at h1 ⊢
    rw [List.map_cons, List.flatMap_cons, List.length_append, List.length_cons]
    omega
theorem starts_len (m : Int) (SS : List (List Sp)) (h : ∀ T ∈ SS, T.length ≤ 40) : (startsP m (SS.map (·.map mk))).length ≤ SS.length * 80 := by
  unfold startsP
  refine Nat.le_trans (compact_len _) ?_
  unfold sortU
  rw [List.length_mergeSort]
  exact cutsP_eighty m SS h

set_option maxHeartbeats 4000000 in
theorem cutE_l0 (m : Int) (hm0 : 0 ≤ m) (hm : m ≤ 4294967295) (SS : List (List Sp)) (hSl : SS.length ≤ 12) (hS : ∀ T ∈ SS, ∀ s ∈ T, okS s) (x2 : Int) (hx0 : 0 ≤ x2) (hx1 : x2 ≤ 4294967295) : ∀ (d i : Nat), i + d = SS.length → (∀ T ∈ SS.take i, T.length ≤ 40) →
    Ev (fun k => waymarklaw02_SpansCut_E.l0 k m (SS.map (·.map mk)) x2 (i : Int)) true
  | 0, i, hi, hlen => by
    rw [List.take_of_length_le (by omega)] at hlen
    have hS2 : ∀ T ∈ SS, (∀ s ∈ T, okS s) ∧ T.length ≤ 1000000 := fun T hT => ⟨hS T hT, Nat.le_trans (hlen T hT) (by omega)⟩
    have hsl := starts_len m SS hlen
    have hri := startsP_rises m (SS.map (·.map mk))
    have e2 := pieces_f m hm0 hm SS hS2 (by omega)
    obtain ⟨st, hst⟩ : ∃ st, st = startsP m (SS.map (·.map mk)) := ⟨_, rfl⟩
    rw [← hst] at hsl hri e2
    have hmem : ∀ y, y ∈ st ↔ (0 < y ∧ y ≤ m) ∧ chgB SS y = true := fun y => (hri.2 y).trans (cutsP_iff m SS y)
    have hst5 : st.length ≤ 100000 := by
      have := Nat.mul_le_mul_right 80 hSl; omega
    have hl1 := cutE_l1 m hm0 hm SS (by omega) (fun T hT => (hS2 T hT).2) x2 hx0 hx1 st hst5 hri.1 (fun y hy => ((hmem y).1 hy).1) hmem (segP m 0 st).length 0 (Nat.zero_add _)
    have hfin : finP (piecesP m st) = (segP m 0 st, 0) := by
      unfold finP
      have h2 := Nat.mul_le_mul_right 80 hSl
      rw [piecesP_len, if_neg (by omega), piecesP_seg]
    rw [hfin] at e2
    have hlen2 := segP_len m st 0
    have hw : wrap64 (((segP m 0 st).length : Int) - 1) = (st.length : Int) := by rw [hlen2]; unfold wrap64; omega
    have hr0 : (rd_T31 (segP m 0 st) 0).f0 = 0 := by
      cases st <;> rfl
    have hrl : (rd_T31 (segP m 0 st) (st.length : Int)).f1 = m := by
      have hh : st.length < (segP m 0 st).length := by omega
      unfold rd_T31
      rw [Int.toNat_natCast, List.getD_eq_getElem?_getD, List.getElem?_eq_getElem hh]
      show ((segP m 0 st)[st.length]).f1 = m
      rw [segP_at m st 0 st.length hh]
      show (st.map (· - 1) ++ [m]).getD st.length 0 = m
      rw [List.getD_eq_getElem?_getD, List.getElem?_append_right (by simp)]; simp
    obtain ⟨L, hL⟩ : ∃ L, L = segP m 0 st := ⟨_, rfl⟩
    rw [← hL] at e2 hl1 hw hr0 hrl hlen2
    refine Ev.step (f := fun k => (waymarklaw02_awake.f k).bind fun t634 => (if t634 = true then (if ((L, (0 : Int)) : List S31 × Int).2 = 0 then (if (L.length : Int) = 0 then (waymarklaw02_SpansCut_E.j1 k m (SS.map (·.map mk)) x2 L true) else (if 0 < (L.length : Int) then (if ((rd_T31 L 0).f0) = 0 then (if 0 ≤ (wrap64 ((L.length : Int) - 1)) then (if (wrap64 ((L.length : Int) - 1)) < (L.length : Int) then (waymarklaw02_SpansCut_E.j1 k m (SS.map (·.map mk)) x2 L (((rd_T31 L (wrap64 ((L.length : Int) - 1))).f1) != m)) else (none)) else (none)) else (waymarklaw02_SpansCut_E.j1 k m (SS.map (·.map mk)) x2 L true)) else (none))) else (waymarklaw02_SpansCut_E.j1 k m (SS.map (·.map mk)) x2 L true)) else (waymarklaw02_SpansCut_E.j1 k m (SS.map (·.map mk)) x2 L true))) (fun k => ?_) ?_
    · simp only [waymarklaw02_SpansCut_E.l0]
      rw [if_neg (by rw [List.length_map]; omega), e2]
      rfl
    · refine Ev.bind awake_ev ?_
      have hg : Ev (fun k => waymarklaw02_SpansCut_E.j1 k m (SS.map (·.map mk)) x2 L false) true := by
        refine Ev.step (f := fun k => waymarklaw02_SpansCut_E.l1 k m (SS.map (·.map mk)) x2 L 0 ((0 : Nat) : Int)) (fun k => ?_) ?_
        · simp only [waymarklaw02_SpansCut_E.j1, Bool.false_eq_true, if_false]; rfl
        · exact hl1
      rw [hw, hr0, hrl, bne_self_eq_false]
      simp only [if_true]
      have q1 : ¬ ((L.length : Int) = 0) := by omega
      have q2 : 0 < (L.length : Int) := by omega
      have q3 : (0 : Int) ≤ (st.length : Int) := by omega
      have q4 : (st.length : Int) < (L.length : Int) := by omega
      simp only [if_neg q1, if_pos q2, if_pos q3, if_pos q4]
      exact hg
  | d + 1, i, hi, hlen => by
    have hil : i < SS.length := by omega
    have hrd := rd_sets SS i hil
    by_cases h : SS[i].length > 40
    · refine Ev.step (f := fun k => (waymarklaw02_awake.f k).bind fun t => some t) (fun k => ?_) (Ev.bind (f := fun _ t => some t) awake_ev (Ev.now _))
      simp only [waymarklaw02_SpansCut_E.l0]
      rw [if_pos (by rw [List.length_map]; omega), if_pos (by omega), hrd, if_pos (by rw [List.length_map]; omega)]
    · have ih := cutE_l0 m hm0 hm SS hSl hS x2 hx0 hx1 d (i + 1) (by omega) (fun T hT => by
        rw [List.take_succ_eq_append_getElem hil, List.mem_append] at hT
        rcases hT with hT | hT
        · exact hlen T hT
        · rw [List.mem_singleton] at hT; subst hT; omega)
      refine Ev.step (f := fun k => waymarklaw02_SpansCut_E.l0 k m (SS.map (·.map mk)) x2 ((i + 1 : Nat) : Int)) (fun k => ?_) ih
      simp only [waymarklaw02_SpansCut_E.l0]
      rw [if_pos (by rw [List.length_map]; omega), if_pos (by omega), hrd, if_neg (by rw [List.length_map]; omega), wr1n i SS.length hil (by omega)]

set_option maxHeartbeats 4000000 in
theorem cutT_l0 (m : Int) (hm0 : 0 ≤ m) (hm : m ≤ 4294967295) (SS : List (List Sp)) (hSl : SS.length ≤ 12) (hS : ∀ T ∈ SS, ∀ s ∈ T, okS s) (x2 : Int) (hx0 : 0 ≤ x2) (hx1 : x2 ≤ 4294967295) : ∀ (d i : Nat), i + d = SS.length → (∀ T ∈ SS.take i, T.length ≤ 40) →
    Ev (fun k => waymarklaw02_SpansCut_T.l0 k m (SS.map (·.map mk)) x2 (i : Int)) true
  | 0, i, hi, hlen => by
    rw [List.take_of_length_le (by omega)] at hlen
    have hS2 : ∀ T ∈ SS, (∀ s ∈ T, okS s) ∧ T.length ≤ 1000000 := fun T hT => ⟨hS T hT, Nat.le_trans (hlen T hT) (by omega)⟩
    have hsl := starts_len m SS hlen
    have hri := startsP_rises m (SS.map (·.map mk))
    have e2 := pieces_f m hm0 hm SS hS2 (by omega)
    obtain ⟨st, hst⟩ : ∃ st, st = startsP m (SS.map (·.map mk)) := ⟨_, rfl⟩
    rw [← hst] at hsl hri e2
    have hmem : ∀ y, y ∈ st ↔ (0 < y ∧ y ≤ m) ∧ chgB SS y = true := fun y => (hri.2 y).trans (cutsP_iff m SS y)
    have hst5 : st.length ≤ 100000 := by
      have := Nat.mul_le_mul_right 80 hSl; omega
    have hl1 := cutT_l1 m hm0 hm SS (by omega) (fun T hT => (hS2 T hT).2) x2 hx0 hx1 st hst5 hri.1 (fun y hy => ((hmem y).1 hy).1) hmem (segP m 0 st).length 0 (Nat.zero_add _)
    have hfin : finP (piecesP m st) = (segP m 0 st, 0) := by
      unfold finP
      have h2 := Nat.mul_le_mul_right 80 hSl
      rw [piecesP_len, if_neg (by omega), piecesP_seg]
    rw [hfin] at e2
    have hlen2 := segP_len m st 0
    have hw : wrap64 (((segP m 0 st).length : Int) - 1) = (st.length : Int) := by rw [hlen2]; unfold wrap64; omega
    have hr0 : (rd_T31 (segP m 0 st) 0).f0 = 0 := by
      cases st <;> rfl
    have hrl : (rd_T31 (segP m 0 st) (st.length : Int)).f1 = m := by
      have hh : st.length < (segP m 0 st).length := by omega
      unfold rd_T31
      rw [Int.toNat_natCast, List.getD_eq_getElem?_getD, List.getElem?_eq_getElem hh]
      show ((segP m 0 st)[st.length]).f1 = m
      rw [segP_at m st 0 st.length hh]
      show (st.map (· - 1) ++ [m]).getD st.length 0 = m
      rw [List.getD_eq_getElem?_getD, List.getElem?_append_right (by simp)]; simp
    obtain ⟨L, hL⟩ : ∃ L, L = segP m 0 st := ⟨_, rfl⟩
    rw [← hL] at e2 hl1 hw hr0 hrl hlen2
    refine Ev.step (f := fun k => (waymarklaw02_awake.f k).bind fun t634 => (if t634 = true then (if ((L, (0 : Int)) : List S31 × Int).2 = 0 then (if (L.length : Int) = 0 then (waymarklaw02_SpansCut_T.j1 k m (SS.map (·.map mk)) x2 L true) else (if 0 < (L.length : Int) then (if ((rd_T31 L 0).f0) = 0 then (if 0 ≤ (wrap64 ((L.length : Int) - 1)) then (if (wrap64 ((L.length : Int) - 1)) < (L.length : Int) then (waymarklaw02_SpansCut_T.j1 k m (SS.map (·.map mk)) x2 L (((rd_T31 L (wrap64 ((L.length : Int) - 1))).f1) != m)) else (none)) else (none)) else (waymarklaw02_SpansCut_T.j1 k m (SS.map (·.map mk)) x2 L true)) else (none))) else (waymarklaw02_SpansCut_T.j1 k m (SS.map (·.map mk)) x2 L true)) else (waymarklaw02_SpansCut_T.j1 k m (SS.map (·.map mk)) x2 L true))) (fun k => ?_) ?_
    · simp only [waymarklaw02_SpansCut_T.l0]
      rw [if_neg (by rw [List.length_map]; omega), e2]
      rfl
    · refine Ev.bind awake_ev ?_
      have hg : Ev (fun k => waymarklaw02_SpansCut_T.j1 k m (SS.map (·.map mk)) x2 L false) true := by
        refine Ev.step (f := fun k => waymarklaw02_SpansCut_T.l1 k m (SS.map (·.map mk)) x2 L 0 ((0 : Nat) : Int)) (fun k => ?_) ?_
        · simp only [waymarklaw02_SpansCut_T.j1, Bool.false_eq_true, if_false]; rfl
        · exact hl1
      rw [hw, hr0, hrl, bne_self_eq_false]
      simp only [if_true]
      have q1 : ¬ ((L.length : Int) = 0) := by omega
      have q2 : 0 < (L.length : Int) := by omega
      have q3 : (0 : Int) ≤ (st.length : Int) := by omega
      have q4 : (st.length : Int) < (L.length : Int) := by omega
      simp only [if_neg q1, if_pos q2, if_pos q3, if_pos q4]
      exact hg
  | d + 1, i, hi, hlen => by
    have hil : i < SS.length := by omega
    have hrd := rd_sets SS i hil
    by_cases h : SS[i].length > 40
    · refine Ev.step (f := fun k => (waymarklaw02_awake.f k).bind fun t => some t) (fun k => ?_) (Ev.bind (f := fun _ t => some t) awake_ev (Ev.now _))
      simp only [waymarklaw02_SpansCut_T.l0]
      rw [if_pos (by rw [List.length_map]; omega), if_pos (by omega), hrd, if_pos (by rw [List.length_map]; omega)]
    · have ih := cutT_l0 m hm0 hm SS hSl hS x2 hx0 hx1 d (i + 1) (by omega) (fun T hT => by
        rw [List.take_succ_eq_append_getElem hil, List.mem_append] at hT
        rcases hT with hT | hT
        · exact hlen T hT
        · rw [List.mem_singleton] at hT; subst hT; omega)
      refine Ev.step (f := fun k => waymarklaw02_SpansCut_T.l0 k m (SS.map (·.map mk)) x2 ((i + 1 : Nat) : Int)) (fun k => ?_) ih
      simp only [waymarklaw02_SpansCut_T.l0]
      rw [if_pos (by rw [List.length_map]; omega), if_pos (by omega), hrd, if_neg (by rw [List.length_map]; omega), wr1n i SS.length hil (by omega)]

end Go.Proofs.Ytmoagoopdfpcnaa.Q
