/- SpansAsks: the law answers true, for whatever sets: plain lists and numbers. -/
import Derived.Test.YtmoagoopdfpcnaaEPMade
import Derived.Test.YtmoagoopdfpcnaaQx31
namespace Go.Proofs.Ytmoagoopdfpcnaa.Q
open Go.RowKit Go.Proofs.YtmoagoopdfpcnaaW.PrintWords Go.Proofs.YtmoagoopdfpcnaaW.PrintLast Go.Proofs.YtmoagoopdfpcnaaW.PrintMore Go.Proofs.Ytmoagoopdfpcnaa.SpMath
set_option linter.unusedVariables false

theorem made_ev (m : Int) (hm0 : 0 ≤ m) (hm : m ≤ 4294967295) (L M : List Sp) (hL : ∀ s ∈ L, okS s) (hM : ∀ s ∈ M, okS s) (hLl : L.length ≤ 1000000) (hMl : M.length ≤ 1000000) (how : Int) :
    ∃ R : List Sp, Ev (fun k => waymarkref02_made.f k m (L.map mk) (M.map mk) how) (R.map mk) ∧ InForm R ∧ (∀ x, Mem R x ↔ 0 ≤ x ∧ x ≤ m ∧ soB L M how x = true) ∧ R.length ≤ 4000001 := by
  obtain ⟨rest, h1, h2, h3, h4⟩ := cuts_ev m hm0 hm [L, M] (by intro T hT; simp at hT; rcases hT with rfl | rfl; exact ⟨hL, hLl⟩; exact ⟨hM, hMl⟩) (by simp)
  have hL2 := h3 L (by simp)
  have hM2 := h3 M (by simp)
  simp only [List.length_cons, List.length_nil] at h4
  obtain ⟨q1, q2⟩ := made_ok h2 (so_const hL2 hM2 hL hM how)
  refine ⟨_, ?_, q1, q2, ?_⟩
  · unfold waymarkref02_made.f
    refine Ev.bind (f := fun k t317 => waymarkref02_made.l0 k m (L.map mk) (M.map mk) how ([] : List S31) t317 0) (g := fun k => cuts2.f k m (L.map mk) (M.map mk)) h1 ?_
    have := made_loop m hm0 hm L M hLl hMl how (0 :: rest) h2 (by simp; omega) (0 :: rest).length 0 [] (by simp) (by simp) (by simp) (by simp; omega)
    exact this
  · have a1 := foldl_put_len (segs m (soB L M how) (0 :: rest)) []
    have a2 : ∀ l : List Int, (segs m (soB L M how) l).length ≤ l.length := by
      intro l
      induction l with
      | nil => simp [segs]
      | cons c l ih => simp only [segs, List.length_cons]; split; exact Nat.succ_le_succ ih; exact Nat.le_succ_of_le ih
    have a3 := a2 (0 :: rest)
    show ((segs m (soB L M how) (0 :: rest)).foldl put []).length ≤ 4000001
    have a4 : (0 :: rest).length = rest.length + 1 := rfl
    have a5 : ([] : List Sp).length = 0 := rfl
    omega

theorem refForm_ev (L : List Sp) (hL : ∀ s ∈ L, okS s) (hLl : L.length ≤ 1000000) : Ev (fun k => waymarkref02_Form.f k (L.map mk)) ((formF L).map mk) := by
  obtain ⟨R, h1, h2, h3, _⟩ := made_ev 4294967295 (by omega) (by omega) L [] hL (by simp) hLl (by simp) 1
  have e : R = formF L := form_unique _ _ h2 (form_ok L).1 (fun x => by
    rw [h3, (form_ok L).2]
    unfold soB
    rw [if_pos rfl, show memB [] x = false from rfl, Bool.or_false, memB_iff]
    refine ⟨fun h => h.2.2, fun h => ?_⟩
    obtain ⟨s, hs, a1, a2⟩ := h
    have := hL s hs
    unfold okS at this
    exact ⟨by omega, by omega, ⟨s, hs, a1, a2⟩⟩)
  rw [e] at h1
  unfold waymarkref02_Form.f
  exact Ev.bind (f := fun _ t => some t) h1 (Ev.now _)

theorem refCount_loop (F : List Sp) (hF : ∀ s ∈ F, okS s ∧ s.1 ≤ s.2) (hn : F.length ≤ 1000000000000) : ∀ (d i : Nat) (acc : Int), i + d = F.length → 0 ≤ acc → acc + cnt (F.drop i) ≤ 4294967296 →
    Ev (fun k => waymarkref02_Count.l0 k acc (F.map mk) (i : Int)) (acc + cnt (F.drop i))
  | 0, i, acc, h, h0, h1 => by
    rw [List.drop_of_length_le (by omega)]
    exact Ev.step (f := fun k => some acc) (fun k => by simp only [waymarkref02_Count.l0]; rw [if_neg (by rw [List.length_map]; omega)]) (Ev.eq (Ev.now _) (by simp [cnt]))
  | d + 1, i, acc, h, h0, h1 => by
    have hi : i < F.length := by omega
    have hd : cnt (F.drop i) = F[i].2 - F[i].1 + 1 + cnt (F.drop (i + 1)) := by rw [List.drop_eq_getElem_cons hi]; rfl
    obtain ⟨⟨q0, q1, q2, q3⟩, q4⟩ := hF F[i] (List.getElem_mem hi)
    have hz := cnt_nonneg (F.drop (i + 1)) (fun s hs => (hF s (List.mem_of_mem_drop hs)).2)
    rw [hd] at h1
    have ih := refCount_loop F hF hn d (i + 1) (acc + (F[i].2 - F[i].1 + 1)) (by omega) (by omega) (by omega)
    refine Ev.step (f := fun k => waymarkref02_Count.l0 k (acc + (F[i].2 - F[i].1 + 1)) (F.map mk) ((i + 1 : Nat) : Int)) (fun k => ?_) (Ev.eq ih (by rw [hd]; omega))
    simp only [waymarkref02_Count.l0]
    rw [if_pos (by rw [List.length_map]; omega), if_pos (by omega), rdmk F i hi, wr1 i F.length hi (by omega)]
    have e : (IntKind.u64.wrap ((IntKind.u64.wrap ((IntKind.u64.wrap (acc + (IntKind.u64.wrap ((mk F[i]).f1)))) - (IntKind.u64.wrap ((mk F[i]).f0)))) + 1)) = acc + (F[i].2 - F[i].1 + 1) := by
      show (IntKind.u64.wrap ((IntKind.u64.wrap ((IntKind.u64.wrap (acc + (IntKind.u64.wrap (F[i].2)))) - (IntKind.u64.wrap (F[i].1)))) + 1)) = acc + (F[i].2 - F[i].1 + 1)
      simp [IntKind.wrap, IntKind.bits, IntKind.signed]; omega
    rw [e]
theorem refCount_ev (A : List Sp) (hA : ∀ s ∈ A, okS s) (hn : A.length ≤ 1000000) : Ev (fun k => waymarkref02_Count.f k (A.map mk)) (cnt (formF A)) := by
  unfold waymarkref02_Count.f
  refine Ev.bind (f := fun k t362 => waymarkref02_Count.l0 k 0 t362 0) (refForm_ev A hA hn) ?_
  have h1 := form_len A
  have h2 := form_okS hA
  have h3 := (form_ok A).1
  have := refCount_loop (formF A) (fun s hs => ⟨h2 s hs, h3.1 s hs⟩) (by omega) (formF A).length 0 0 (by omega) (by omega) (by rw [List.drop_zero]; have := cnt_le h3 h2; omega)
  simpa using this

theorem refSpans_loop (A B : List Sp) (hl : A.length = B.length) (hn : A.length ≤ 1000000000000) : ∀ (d i : Nat), i + d = A.length → Ev (fun k => waymarkref02_Spans.l0 k (A.map mk) (B.map mk) (i : Int)) (decide (A.drop i = B.drop i))
  | 0, i, h => by
    rw [List.drop_of_length_le (by omega), List.drop_of_length_le (by omega)]
    exact Ev.step (f := fun k => some true) (fun k => by simp only [waymarkref02_Spans.l0]; rw [if_neg (by rw [List.length_map]; omega)]) (Ev.eq (Ev.now _) (by simp))
  | d + 1, i, h => by
    have hi : i < A.length := by omega
    have hj : i < B.length := by omega
    have ih := refSpans_loop A B hl hn d (i + 1) (by omega)
    have hd : (A.drop i = B.drop i) ↔ (A[i] = B[i] ∧ A.drop (i + 1) = B.drop (i + 1)) := by
      rw [List.drop_eq_getElem_cons hi, List.drop_eq_getElem_cons hj, List.cons.injEq]
    have hc : ((!(((mk A[i]).f0) == ((mk B[i]).f0)) || (!(((mk A[i]).f1) == ((mk B[i]).f1)))) = true) ↔ ¬ A[i] = B[i] := by
      show ((!((A[i].1) == (B[i].1)) || (!((A[i].2) == (B[i].2)))) = true) ↔ _
      rw [Prod.ext_iff]
      by_cases h1 : A[i].1 = B[i].1 <;> by_cases h2 : A[i].2 = B[i].2 <;> simp [h1, h2]
    by_cases he : A[i] = B[i]
    · refine Ev.step (f := fun k => waymarkref02_Spans.l0 k (A.map mk) (B.map mk) ((i + 1 : Nat) : Int)) (fun k => ?_) (Ev.eq ih (decide_eq_decide.2 (by rw [hd]; simp [he])))
      simp only [waymarkref02_Spans.l0]
      rw [if_pos (by rw [List.length_map]; omega), if_pos (by omega), if_pos (by rw [List.length_map]; omega), rdmk A i hi, rdmk B i hj, if_neg (fun h => hc.1 h he), wr1 i A.length hi (by omega)]
    · refine Ev.step (f := fun k => some false) (fun k => ?_) (Ev.eq (Ev.now _) (decide_eq_false (fun h => he (hd.1 h).1)).symm)
      simp only [waymarkref02_Spans.l0]
      rw [if_pos (by rw [List.length_map]; omega), if_pos (by omega), if_pos (by rw [List.length_map]; omega), rdmk A i hi, rdmk B i hj, if_pos (hc.2 he)]
theorem refSpans_ev (A B : List Sp) (hn : A.length ≤ 1000000000000) : Ev (fun k => waymarkref02_Spans.f k (A.map mk) (B.map mk)) (decide (A = B)) := by
  unfold waymarkref02_Spans.f
  rw [List.length_map, List.length_map]
  by_cases hl : A.length = B.length
  · simp only [if_pos (show (A.length : Int) = (B.length : Int) by omega)]
    exact Ev.eq (refSpans_loop A B hl hn A.length 0 (by omega)) (by rw [List.drop_zero, List.drop_zero])
  · simp only [if_neg (show ¬ (A.length : Int) = (B.length : Int) by omega)]
    exact Ev.eq (Ev.now _) (decide_eq_false (fun h => hl (by rw [h]))).symm

theorem asks0 (L M : List Sp) (hL : ∀ s ∈ L, okS s) (hM : ∀ s ∈ M, okS s) (hLl : L.length ≤ 200) (hMl : M.length ≤ 200) : Ev (fun k => waymarklaw02_SpansAsks.j0 k (L.map mk) (M.map mk) ((formF L).map mk) false) true := by
  have hf := form_len L
  refine Ev.succ ?_
  simp only [waymarklaw02_SpansAsks.j0, Bool.false_eq_true, if_false]
  refine Ev.bind (same_ev L M hL hM (by omega) (by omega)) ?_
  refine Ev.bind (refForm_ev M hM (by omega)) ?_
  refine Ev.bind (refSpans_ev (formF L) (formF M) (by omega)) ?_
  simp only [beq_self_eq_true, if_true]
  refine Ev.bind (same_ev L (formF L) hL (form_okS hL) (by omega) (by omega)) ?_
  rw [form_of_form (form_ok L).1]
  exact Ev.eq (Ev.now _) (by simp)

theorem least_ev (L : List Sp) (hL : ∀ s ∈ L, okS s) (hLl : L.length ≤ 1000000) : Ev (fun k => spans_Least.f k (L.map mk)) (match formF L with | [] => (0, false) | s :: _ => (s.1, true)) := by
  unfold spans_Least.f
  refine Ev.bind (form_ev L hL (by omega)) ?_
  cases formF L with
  | nil => exact Ev.now _
  | cons s F =>
    refine Ev.congr (fun k => ?_) (Ev.now _)
    rw [if_neg (by simp <;> omega), if_pos (by simp <;> omega)]
    rfl

theorem asks_ev (L M : List Sp) (hL : ∀ s ∈ L, okS s) (hM : ∀ s ∈ M, okS s) : Ev (fun k => waymarklaw02_SpansAsks.f k (L.map mk) (M.map mk)) true := by
  have hawake : Ev (fun k => (waymarklaw02_awake.f k).bind fun t379 => (some t379)) true := Ev.bind (f := fun _ t => some t) awake_ev (Ev.now _)
  unfold waymarklaw02_SpansAsks.f waymarklaw02_large.f
  rw [List.length_map, List.length_map]
  by_cases h1 : (L.length : Int) > 200
  · simp only [if_pos h1, Option.bind_some, if_true]
    exact hawake
  · simp only [if_neg h1, Option.bind_some]
    by_cases h2 : (M.length : Int) > 200
    · simp only [decide_eq_true h2, if_true]
      exact hawake
    · simp only [decide_eq_false h2, Bool.false_eq_true, if_false]
      have h0 := asks0 L M hL hM (by omega) (by omega)
      refine Ev.bind (refForm_ev L hL (by omega)) ?_
      refine Ev.bind (least_ev L hL (by omega)) ?_
      refine Ev.bind (count_ev L hL (by omega)) ?_
      refine Ev.bind (refCount_ev L hL (by omega)) ?_
      simp only [if_true]
      cases hF : formF L with
      | nil =>
        rw [hF] at h0
        simp only [List.map_nil, List.length_nil]
        exact h0
      | cons s F =>
        rw [hF] at h0
        refine Ev.congr (fun k => ?_) h0
        have e1 : (rd_T31 (List.map mk (s :: F)) 0).f0 = s.1 := rfl
        rw [if_neg (by simp <;> omega), if_pos rfl, if_pos (by simp <;> omega), e1]
        exact if_pos rfl

end Go.Proofs.Ytmoagoopdfpcnaa.Q
