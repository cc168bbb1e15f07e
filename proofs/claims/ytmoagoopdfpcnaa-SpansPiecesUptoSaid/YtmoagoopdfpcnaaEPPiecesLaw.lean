/- SpansPieces: the law answers true: plain lists and numbers. -/
import Derived.Test.YtmoagoopdfpcnaaEPPieces
import Derived.Test.YtmoagoopdfpcnaaQx37
import Derived.Test.YtmoagoopdfpcnaaQx38
namespace Go.Proofs.Ytmoagoopdfpcnaa.Q
open Go.RowKit Go.Proofs.YtmoagoopdfpcnaaW.PrintWords Go.Proofs.YtmoagoopdfpcnaaW.PrintLast Go.Proofs.YtmoagoopdfpcnaaW.PrintMore Go.Proofs.Ytmoagoopdfpcnaa.SpMath
set_option linter.unusedVariables false
set_option linter.unusedSimpArgs false
def lenSum : List (List Sp) → Nat
  | [] => 0
  | T :: SS => T.length + lenSum SS
theorem lenSum_mem : ∀ {SS : List (List Sp)} {T : List Sp}, T ∈ SS → T.length ≤ lenSum SS
  | U :: SS, T, h => by
    rcases List.mem_cons.1 h with rfl | h
    · unfold lenSum; omega
    · have := lenSum_mem h; unfold lenSum; omega
theorem lenSum_le : ∀ {SS : List (List Sp)}, (∀ T ∈ SS, T.length ≤ 17592186044416) → lenSum SS ≤ 17592186044416 * SS.length
  | [], _ => by simp [lenSum]
  | U :: SS, h => by
    have h1 := h U (by simp)
    have h2 := lenSum_le (SS := SS) (fun T hT => h T (by simp [hT]))
    unfold lenSum
    rw [List.length_cons]; omega
theorem lenSum_take (SS : List (List Sp)) (i : Nat) (h : i < SS.length) : lenSum (SS.take (i + 1)) = lenSum (SS.take i) + SS[i].length := by
  induction SS generalizing i with
  | nil => simp at h
  | cons T SS ih =>
    cases i with
    | zero => simp [lenSum]
    | succ i =>
      rw [List.take_succ_cons, List.take_succ_cons, List.getElem_cons_succ]
      unfold lenSum
      rw [ih i (by simpa using h)]; omega

theorem piecesE_l2 (want b : List S31) (hb : b = want) (hn : want.length ≤ 1000000) : ∀ (d i : Nat) (a : List S31), i + d = 70 → a.length = want.length + i → Ev (fun k => waymarklaw02_SpansPieces_E.l2 k want a b (i : Int)) true
  | 0, i, a, hi, ha => by
    have hS : Ev (fun k => waymarkref02_Spans.f k b want) true := by
      have := refSpans_ev (want.map sp) (want.map sp) (by rw [List.length_map]; omega)
      rw [map_mk_sp] at this
      rw [hb]
      exact Ev.eq this (by simp)
    refine Ev.step (f := fun k => (waymarkref02_Spans.f k b want).bind fun t => some t) (fun k => ?_) (Ev.bind (f := fun _ t => some t) hS (Ev.now _))
    simp only [waymarklaw02_SpansPieces_E.l2]
    rw [if_neg (by omega), if_pos (by unfold wrap64; omega)]
  | d + 1, i, a, hi, ha => by
    refine Ev.step (f := fun k => waymarklaw02_SpansPieces_E.l2 k want (a ++ [(⟨0, 0⟩ : S31)]) b ((i + 1 : Nat) : Int)) (fun k => ?_) (piecesE_l2 want b hb hn d (i + 1) _ (by omega) (by rw [List.length_append, List.length_singleton]; omega))
    simp only [waymarklaw02_SpansPieces_E.l2]
    rw [if_pos (by omega), if_pos (by omega), wr1n i 70 (by omega) (by omega)]
theorem piecesE_l1 (want b : List S31) (hb : b = want) (hn : want.length ≤ 1000000) : ∀ (d i : Nat) (a : List S31), i + d = want.length → a.length = want.length → Ev (fun k => waymarklaw02_SpansPieces_E.l1 k want a b (i : Int)) true
  | 0, i, a, hi, ha => by
    refine Ev.step (f := fun k => waymarklaw02_SpansPieces_E.l2 k want a b ((0 : Nat) : Int)) (fun k => ?_) (piecesE_l2 want b hb hn 70 0 a (by omega) (by omega))
    simp only [waymarklaw02_SpansPieces_E.l1]
    rw [if_neg (by omega)]
    rfl
  | d + 1, i, a, hi, ha => by
    refine Ev.step (f := fun k => waymarklaw02_SpansPieces_E.l1 k want (a.set ((i : Int)).toNat (⟨99, (rd_T31 a (i : Int)).f1⟩ : S31)) b ((i + 1 : Nat) : Int)) (fun k => ?_) (piecesE_l1 want b hb hn d (i + 1) _ (by omega) (by rw [List.length_set]; exact ha))
    simp only [waymarklaw02_SpansPieces_E.l1]
    rw [if_pos (by omega), if_pos (by omega), wr1n i want.length (by omega) (by omega)]
theorem piecesE_l0 (m : Int) (hm0 : 0 ≤ m) (hm : m ≤ 4294967295) (SS : List (List Sp)) (hS : ∀ T ∈ SS, (∀ s ∈ T, okS s) ∧ T.length ≤ 17592186044416) (hSl : SS.length ≤ 20) : ∀ (d i : Nat), i + d = SS.length →
    Ev (fun k => waymarklaw02_SpansPieces_E.l0 k m (SS.map (·.map mk)) (lenSum (SS.take i) : Int) (i : Int)) true
  | 0, i, hi => by
    rw [List.take_of_length_le (by omega)]
    by_cases h : lenSum SS > 200
    · refine Ev.step (f := fun k => (waymarklaw02_awake.f k).bind fun t => some t) (fun k => ?_) (Ev.bind (f := fun _ t => some t) awake_ev (Ev.now _))
      simp only [waymarklaw02_SpansPieces_E.l0]
      rw [if_neg (by rw [List.length_map]; omega), if_pos (by omega)]
    · have hS2 : ∀ T ∈ SS, (∀ s ∈ T, okS s) ∧ T.length ≤ 1000000 := fun T hT => ⟨(hS T hT).1, by have := lenSum_mem hT; omega⟩
      have e1 := refPieces_ev m hm0 hm SS hS2 (by omega)
      have e2 := pieces_f m hm0 hm SS hS2 (by omega)
      obtain ⟨r, hr⟩ : ∃ r, r = finP (piecesP m (startsP m (SS.map (·.map mk)))) := ⟨_, rfl⟩
      have hrl : r.1.length ≤ 1000000 := by
        rw [hr]; unfold finP
        split
        · simp
        · rename_i hh; show (piecesP m (startsP m (SS.map (·.map mk)))).length ≤ 1000000; omega
      rw [← hr] at e1 e2
      have hSp : Ev (fun k => waymarkref02_Spans.f k r.1 r.1) true := by
        have := refSpans_ev (r.1.map sp) (r.1.map sp) (by rw [List.length_map]; omega)
        rw [map_mk_sp] at this
        exact Ev.eq this (by simp)
      refine Ev.step (f := fun k => (waymarkref02_Pieces.f k m (SS.map (·.map mk))).bind fun bt586 => ((spans_Pieces.f m (SS.map (·.map mk))).bind fun bt590 => ((spans_Pieces.f m (SS.map (·.map mk))).bind fun bt594 => (if bt586.2 = bt590.2 then (if bt586.2 = bt594.2 then ((waymarkref02_Spans.f k bt590.1 bt586.1).bind fun t598 => (waymarklaw02_SpansPieces_E.j1 k bt586.1 bt590.1 bt594.1 (!t598))) else (waymarklaw02_SpansPieces_E.j1 k bt586.1 bt590.1 bt594.1 true)) else (waymarklaw02_SpansPieces_E.j1 k bt586.1 bt590.1 bt594.1 true))))) (fun k => ?_) (Ev.bind e1 ?_)
      · simp only [waymarklaw02_SpansPieces_E.l0]
        rw [if_neg (by rw [List.length_map]; omega), if_neg (by omega)]
      · rw [e2]
        simp only [Option.bind_some, if_true]
        refine Ev.bind hSp ?_
        refine Ev.step (f := fun k => waymarklaw02_SpansPieces_E.l1 k r.1 r.1 r.1 ((0 : Nat) : Int)) (fun k => ?_) (piecesE_l1 r.1 r.1 rfl hrl r.1.length 0 r.1 (by omega) rfl)
        simp only [waymarklaw02_SpansPieces_E.j1]
        rfl
  | d + 1, i, hi => by
    have hil : i < SS.length := by omega
    have hb := lenSum_le (SS := SS.take i) (fun T hT => (hS T (List.mem_of_mem_take hT)).2)
    have hb2 := (hS SS[i] (List.getElem_mem hil)).2
    rw [List.length_take] at hb
    refine Ev.step (f := fun k => waymarklaw02_SpansPieces_E.l0 k m (SS.map (·.map mk)) (lenSum (SS.take (i + 1)) : Int) ((i + 1 : Nat) : Int)) (fun k => ?_) (piecesE_l0 m hm0 hm SS hS hSl d (i + 1) (by omega))
    simp only [waymarklaw02_SpansPieces_E.l0]
    rw [if_pos (by rw [List.length_map]; omega), if_pos (by omega), rd_sets SS i hil, List.length_map, wr1n i SS.length hil (by omega), lenSum_take SS i hil, show wrap64 ((lenSum (SS.take i) : Int) + (SS[i].length : Int)) = ((lenSum (SS.take i) + SS[i].length : Nat) : Int) by unfold wrap64; omega]

theorem piecesT_l2 (want b : List S31) (hb : b = want) (hn : want.length ≤ 1000000) : ∀ (d i : Nat) (a : List S31), i + d = 70 → a.length = want.length + i → Ev (fun k => waymarklaw02_SpansPieces_T.l2 k want a b (i : Int)) true
  | 0, i, a, hi, ha => by
    have hS : Ev (fun k => waymarkref02_Spans.f k b want) true := by
      have := refSpans_ev (want.map sp) (want.map sp) (by rw [List.length_map]; omega)
      rw [map_mk_sp] at this
      rw [hb]
      exact Ev.eq this (by simp)
    refine Ev.step (f := fun k => (waymarkref02_Spans.f k b want).bind fun t => some t) (fun k => ?_) (Ev.bind (f := fun _ t => some t) hS (Ev.now _))
    simp only [waymarklaw02_SpansPieces_T.l2]
    rw [if_neg (by omega), if_pos (by unfold wrap64; omega)]
  | d + 1, i, a, hi, ha => by
    refine Ev.step (f := fun k => waymarklaw02_SpansPieces_T.l2 k want (a ++ [(⟨0, 0⟩ : S31)]) b ((i + 1 : Nat) : Int)) (fun k => ?_) (piecesT_l2 want b hb hn d (i + 1) _ (by omega) (by rw [List.length_append, List.length_singleton]; omega))
    simp only [waymarklaw02_SpansPieces_T.l2]
    rw [if_pos (by omega), if_pos (by omega), wr1n i 70 (by omega) (by omega)]
theorem piecesT_l1 (want b : List S31) (hb : b = want) (hn : want.length ≤ 1000000) : ∀ (d i : Nat) (a : List S31), i + d = want.length → a.length = want.length → Ev (fun k => waymarklaw02_SpansPieces_T.l1 k want a b (i : Int)) true
  | 0, i, a, hi, ha => by
    refine Ev.step (f := fun k => waymarklaw02_SpansPieces_T.l2 k want a b ((0 : Nat) : Int)) (fun k => ?_) (piecesT_l2 want b hb hn 70 0 a (by omega) (by omega))
    simp only [waymarklaw02_SpansPieces_T.l1]
    rw [if_neg (by omega)]
    rfl
  | d + 1, i, a, hi, ha => by
    refine Ev.step (f := fun k => waymarklaw02_SpansPieces_T.l1 k want (a.set ((i : Int)).toNat (⟨99, (rd_T31 a (i : Int)).f1⟩ : S31)) b ((i + 1 : Nat) : Int)) (fun k => ?_) (piecesT_l1 want b hb hn d (i + 1) _ (by omega) (by rw [List.length_set]; exact ha))
    simp only [waymarklaw02_SpansPieces_T.l1]
    rw [if_pos (by omega), if_pos (by omega), wr1n i want.length (by omega) (by omega)]
theorem piecesT_l0 (m : Int) (hm0 : 0 ≤ m) (hm : m ≤ 4294967295) (SS : List (List Sp)) (hS : ∀ T ∈ SS, (∀ s ∈ T, okS s) ∧ T.length ≤ 17592186044416) (hSl : SS.length ≤ 20) : ∀ (d i : Nat), i + d = SS.length →
    Ev (fun k => waymarklaw02_SpansPieces_T.l0 k m (SS.map (·.map mk)) (lenSum (SS.take i) : Int) (i : Int)) true
  | 0, i, hi => by
    rw [List.take_of_length_le (by omega)]
    by_cases h : lenSum SS > 200
    · refine Ev.step (f := fun k => (waymarklaw02_awake.f k).bind fun t => some t) (fun k => ?_) (Ev.bind (f := fun _ t => some t) awake_ev (Ev.now _))
      simp only [waymarklaw02_SpansPieces_T.l0]
      rw [if_neg (by rw [List.length_map]; omega), if_pos (by omega)]
    · have hS2 : ∀ T ∈ SS, (∀ s ∈ T, okS s) ∧ T.length ≤ 1000000 := fun T hT => ⟨(hS T hT).1, by have := lenSum_mem hT; omega⟩
      have e1 := refPieces_ev m hm0 hm SS hS2 (by omega)
      have e2 := pieces_f m hm0 hm SS hS2 (by omega)
      obtain ⟨r, hr⟩ : ∃ r, r = finP (piecesP m (startsP m (SS.map (·.map mk)))) := ⟨_, rfl⟩
      have hrl : r.1.length ≤ 1000000 := by
        rw [hr]; unfold finP
        split
        · simp
        · rename_i hh; show (piecesP m (startsP m (SS.map (·.map mk)))).length ≤ 1000000; omega
      rw [← hr] at e1 e2
      have hSp : Ev (fun k => waymarkref02_Spans.f k r.1 r.1) true := by
        have := refSpans_ev (r.1.map sp) (r.1.map sp) (by rw [List.length_map]; omega)
        rw [map_mk_sp] at this
        exact Ev.eq this (by simp)
      refine Ev.step (f := fun k => (waymarkref02_Pieces.f k m (SS.map (·.map mk))).bind fun bt586 => ((spans_Pieces.f m (SS.map (·.map mk))).bind fun bt590 => ((spans_Pieces.f m (SS.map (·.map mk))).bind fun bt594 => (if bt586.2 = bt590.2 then (if bt586.2 = bt594.2 then ((waymarkref02_Spans.f k bt590.1 bt586.1).bind fun t598 => (waymarklaw02_SpansPieces_T.j1 k bt586.1 bt590.1 bt594.1 (!t598))) else (waymarklaw02_SpansPieces_T.j1 k bt586.1 bt590.1 bt594.1 true)) else (waymarklaw02_SpansPieces_T.j1 k bt586.1 bt590.1 bt594.1 true))))) (fun k => ?_) (Ev.bind e1 ?_)
      · simp only [waymarklaw02_SpansPieces_T.l0]
        rw [if_neg (by rw [List.length_map]; omega), if_neg (by omega)]
      · rw [e2]
        simp only [Option.bind_some, if_true]
        refine Ev.bind hSp ?_
        refine Ev.step (f := fun k => waymarklaw02_SpansPieces_T.l1 k r.1 r.1 r.1 ((0 : Nat) : Int)) (fun k => ?_) (piecesT_l1 r.1 r.1 rfl hrl r.1.length 0 r.1 (by omega) rfl)
        simp only [waymarklaw02_SpansPieces_T.j1]
        rfl
  | d + 1, i, hi => by
    have hil : i < SS.length := by omega
    have hb := lenSum_le (SS := SS.take i) (fun T hT => (hS T (List.mem_of_mem_take hT)).2)
    have hb2 := (hS SS[i] (List.getElem_mem hil)).2
    rw [List.length_take] at hb
    refine Ev.step (f := fun k => waymarklaw02_SpansPieces_T.l0 k m (SS.map (·.map mk)) (lenSum (SS.take (i + 1)) : Int) ((i + 1 : Nat) : Int)) (fun k => ?_) (piecesT_l0 m hm0 hm SS hS hSl d (i + 1) (by omega))
    simp only [waymarklaw02_SpansPieces_T.l0]
    rw [if_pos (by rw [List.length_map]; omega), if_pos (by omega), rd_sets SS i hil, List.length_map, wr1n i SS.length hil (by omega), lenSum_take SS i hil, show wrap64 ((lenSum (SS.take i) : Int) + (SS[i].length : Int)) = ((lenSum (SS.take i) + SS[i].length : Nat) : Int) by unfold wrap64; omega]
end Go.Proofs.Ytmoagoopdfpcnaa.Q
