/- Counting, sameness, the awake test: what the printed functions answer. -/
import Derived.Test.YtmoagoopdfpcnaaDoorEPForm
import Derived.Test.YtmoagoopdfpcnaaDoorEHas
import Derived.Test.YtmoagoopdfpcnaaDoorQx34
import Derived.Test.YtmoagoopdfpcnaaDoorQx36
import Derived.Test.YtmoagoopdfpcnaaDoorQx38
namespace Go.Proofs.YtmoagoopdfpcnaaDoor.Q
open Go.RowKit Go.Proofs.YtmoagoopdfpcnaaDoorW.PrintWords Go.Proofs.YtmoagoopdfpcnaaDoorW.PrintLast Go.Proofs.YtmoagoopdfpcnaaDoorW.PrintMore Go.Proofs.YtmoagoopdfpcnaaDoor.SpMath
set_option linter.unusedVariables false

/-! ### Is a number in a set? -/
def memB (L : List Sp) (x : Int) : Bool := L.any fun s => decide (s.1 ≤ x) && decide (x ≤ s.2)
theorem memB_iff (L : List Sp) (x : Int) : memB L x = true ↔ Mem L x := by
  unfold memB Mem
  simp [List.any_eq_true]
theorem memB_eq {L M : List Sp} {x y : Int} (h : Mem L x ↔ Mem M y) : memB L x = memB M y := by
  rw [Bool.eq_iff_iff, memB_iff, memB_iff]; exact h
theorem has_mk (L : List Sp) (x : Int) : spans_Has.f (L.map mk) x = some (memB L x) := by
  unfold spans_Has.f memB
  rw [List.any_map]
  rfl
theorem nonneg_okS {A : List Sp} (hA : ∀ s ∈ A, okS s) : Nonneg A := fun s hs => (hA s hs).1
end Go.Proofs.YtmoagoopdfpcnaaDoor.Q

namespace Go.Proofs.YtmoagoopdfpcnaaDoor.Q
open Go.RowKit Go.Proofs.YtmoagoopdfpcnaaDoorW.PrintWords Go.Proofs.YtmoagoopdfpcnaaDoorW.PrintLast Go.Proofs.YtmoagoopdfpcnaaDoorW.PrintMore Go.Proofs.YtmoagoopdfpcnaaDoor.SpMath
set_option linter.unusedVariables false


/-! ### How many -/
def cnt : List Sp → Int
  | [] => 0
  | s :: L => s.2 - s.1 + 1 + cnt L
theorem cnt_append : ∀ (A B : List Sp), cnt (A ++ B) = cnt A + cnt B
  | [], B => by simp [cnt]
  | s :: A, B => by simp only [List.cons_append, cnt]; rw [cnt_append A B]; omega
theorem cnt_nonneg : ∀ (A : List Sp), (∀ s ∈ A, s.1 ≤ s.2) → 0 ≤ cnt A
  | [], _ => by simp [cnt]
  | s :: A, h => by
    have h1 := cnt_nonneg A (fun t ht => h t (List.mem_cons_of_mem _ ht))
    have h2 := h s List.mem_cons_self
    simp only [cnt]; omega
theorem not_cnt_loop (m : Int) : ∀ (A : List Sp) (r : List Sp × Int), InForm A → (∀ s ∈ A, r.2 ≤ s.1 ∧ s.2 ≤ m) → r.2 ≤ m + 1 → cnt (notEnd m (A.foldl (notStep m) r)) + cnt A = cnt r.1 + (m + 1 - r.2)
  | [], r, _, _, h => by
    unfold notEnd
    by_cases hc : r.2 ≤ m
    · rw [List.foldl_nil, if_pos hc, cnt_append]; simp only [cnt]; omega
    · rw [List.foldl_nil, if_neg hc]; simp only [cnt]; omega
  | s :: A, r, hi, hr, h => by
    obtain ⟨i1, i2, i3⟩ := inForm_cons.1 hi
    obtain ⟨h1, h2⟩ := hr s List.mem_cons_self
    have ih := not_cnt_loop m A (notStep m r s) i3 (fun t ht => ⟨by have := i2 t ht; show s.2 + 1 ≤ t.1; omega, (hr t (List.mem_cons_of_mem _ ht)).2⟩) (by show s.2 + 1 ≤ m + 1; omega)
    simp only [List.foldl_cons, cnt]
    have e : cnt (notStep m r s).1 + (m + 1 - (s.2 + 1)) + (s.2 - s.1 + 1) = cnt r.1 + (m + 1 - r.2) := by
      unfold notStep
      by_cases hc : s.1 > r.2 ∧ r.2 ≤ m
      · simp only [if_pos hc, cnt_append, cnt]; omega
      · simp only [if_neg hc]; omega
    have e2 : (notStep m r s).2 = s.2 + 1 := rfl
    rw [e2] at ih
    omega
theorem not_cnt {A : List Sp} {m : Int} (hm : 0 ≤ m) (hA : InForm A) (hb : ∀ s ∈ A, 0 ≤ s.1 ∧ s.2 ≤ m) : cnt (notF A m) + cnt A = m + 1 := by
  unfold notF
  rw [form_of_form hA]
  have := not_cnt_loop m A ([], 0) hA hb (by show 0 ≤ m + 1; omega)
  simpa [cnt] using this
theorem cnt_le {A : List Sp} (hA : InForm A) (ho : ∀ s ∈ A, okS s) : cnt A ≤ 4294967296 := by
  have h1 := not_cnt (m := 4294967295) (by omega) hA (fun s hs => ⟨(ho s hs).1, (ho s hs).2.2.2⟩)
  have h2 := cnt_nonneg (notF A 4294967295) (not_ok A 4294967295 (nonneg_okS ho)).1.1
  omega

theorem count_loop (F : List Sp) (hF : ∀ s ∈ F, okS s ∧ s.1 ≤ s.2) (hn : F.length ≤ 1000000000000) : ∀ (d i : Nat) (acc : Int), i + d = F.length → 0 ≤ acc → acc + cnt (F.drop i) ≤ 4294967296 →
    Ev (fun k => spans_Count.l0 k acc (F.map mk) (F.length : Int) (i : Int)) (acc + cnt (F.drop i))
  | 0, i, acc, h, h0, h1 => by
    rw [List.drop_of_length_le (by omega)]
    exact Ev.step (f := fun k => some acc) (fun k => by simp only [spans_Count.l0]; rw [if_neg (by omega)]) (Ev.eq (Ev.now _) (by simp [cnt]))
  | d + 1, i, acc, h, h0, h1 => by
    have hi : i < F.length := by omega
    have hd : cnt (F.drop i) = F[i].2 - F[i].1 + 1 + cnt (F.drop (i + 1)) := by rw [List.drop_eq_getElem_cons hi]; rfl
    obtain ⟨⟨q0, q1, q2, q3⟩, q4⟩ := hF F[i] (List.getElem_mem hi)
    have hz := cnt_nonneg (F.drop (i + 1)) (fun s hs => (hF s (List.mem_of_mem_drop hs)).2)
    rw [hd] at h1
    have ih := count_loop F hF hn d (i + 1) (acc + (F[i].2 - F[i].1 + 1)) (by omega) (by omega) (by omega)
    refine Ev.step (f := fun k => spans_Count.l0 k (acc + (F[i].2 - F[i].1 + 1)) (F.map mk) (F.length : Int) ((i + 1 : Nat) : Int)) (fun k => ?_) (Ev.eq ih (by rw [hd]; omega))
    simp only [spans_Count.l0]
    rw [if_pos (by omega), if_pos (by omega), if_pos (by rw [List.length_map]; omega), rdmk F i hi, wr1 i F.length hi (by omega)]
    have e : IntKind.u64.wrap (acc + ((((mk F[i]).f1 - (mk F[i]).f0) % 4294967296) + 1)) = acc + (F[i].2 - F[i].1 + 1) := by
      show IntKind.u64.wrap (acc + (((F[i].2 - F[i].1) % 4294967296) + 1)) = acc + (F[i].2 - F[i].1 + 1)
      simp [IntKind.wrap, IntKind.bits, IntKind.signed]; omega
    rw [e]
theorem count_ev (A : List Sp) (hA : ∀ s ∈ A, okS s) (hn : A.length ≤ 1000000000000) : Ev (fun k => spans_Count.f k (A.map mk)) (cnt (formF A)) := by
  unfold spans_Count.f
  refine Ev.bind (f := fun k t293 => spans_Count.l0 k 0 t293 (t293.length : Int) 0) (form_ev A hA hn) ?_
  rw [List.length_map]
  have h1 := form_len A
  have h2 := form_okS hA
  have h3 := (form_ok A).1
  have := count_loop (formF A) (fun s hs => ⟨h2 s hs, h3.1 s hs⟩) (by omega) (formF A).length 0 0 (by omega) (by omega) (by rw [List.drop_zero]; have := cnt_le h3 h2; omega)
  simpa using this

/-! ### The same -/
theorem mk_inj {s t : Sp} : mk s = mk t ↔ s = t := by
  unfold mk
  cases s; cases t
  simp
theorem equal_loop (A B : List Sp) (hl : A.length = B.length) (hn : A.length ≤ 1000000000000) : ∀ (d i : Nat), i + d = A.length → Ev (fun k => slices_Equal_api_Span_api_Span.l0 k (A.map mk) (B.map mk) (A.length : Int) (i : Int)) (decide (A.drop i = B.drop i))
  | 0, i, h => by
    rw [List.drop_of_length_le (by omega), List.drop_of_length_le (by omega)]
    exact Ev.step (f := fun k => some true) (fun k => by simp only [slices_Equal_api_Span_api_Span.l0]; rw [if_neg (by omega)]) (Ev.eq (Ev.now _) (by simp))
  | d + 1, i, h => by
    have hi : i < A.length := by omega
    have hj : i < B.length := by omega
    have ih := equal_loop A B hl hn d (i + 1) (by omega)
    have hd : (A.drop i = B.drop i) ↔ (A[i] = B[i] ∧ A.drop (i + 1) = B.drop (i + 1)) := by
      rw [List.drop_eq_getElem_cons hi, List.drop_eq_getElem_cons hj, List.cons.injEq]
    have hc : ((!(((mk A[i]).f0) == ((mk B[i]).f0)) || (!(((mk A[i]).f1) == ((mk B[i]).f1)))) = true) ↔ ¬ A[i] = B[i] := by
      show ((!((A[i].1) == (B[i].1)) || (!((A[i].2) == (B[i].2)))) = true) ↔ _
      rw [Prod.ext_iff]
      by_cases h1 : A[i].1 = B[i].1 <;> by_cases h2 : A[i].2 = B[i].2 <;> simp [h1, h2]
    by_cases he : A[i] = B[i]
    · refine Ev.step (f := fun k => slices_Equal_api_Span_api_Span.l0 k (A.map mk) (B.map mk) (A.length : Int) ((i + 1 : Nat) : Int)) (fun k => ?_) (Ev.eq ih (decide_eq_decide.2 (by rw [hd]; simp [he])))
      simp only [slices_Equal_api_Span_api_Span.l0]
      rw [if_pos (by omega), if_pos (by omega), if_pos (by rw [List.length_map]; omega), if_pos (by rw [List.length_map]; omega), rdmk A i hi, rdmk B i hj, if_neg (fun h => hc.1 h he), wr1 i A.length hi (by omega)]
    · refine Ev.step (f := fun k => some false) (fun k => ?_) (Ev.eq (Ev.now _) (decide_eq_false (fun h => he (hd.1 h).1)).symm)
      simp only [slices_Equal_api_Span_api_Span.l0]
      rw [if_pos (by omega), if_pos (by omega), if_pos (by rw [List.length_map]; omega), if_pos (by rw [List.length_map]; omega), rdmk A i hi, rdmk B i hj, if_pos (hc.2 he)]
theorem equal_ev (A B : List Sp) (hn : A.length ≤ 1000000000000) : Ev (fun k => slices_Equal_api_Span_api_Span.f k (A.map mk) (B.map mk)) (decide (A = B)) := by
  unfold slices_Equal_api_Span_api_Span.f
  rw [List.length_map, List.length_map]
  by_cases hl : A.length = B.length
  · simp only [if_pos (show (A.length : Int) = (B.length : Int) by omega)]
    exact Ev.eq (equal_loop A B hl hn A.length 0 (by omega)) (by rw [List.drop_zero, List.drop_zero])
  · simp only [if_neg (show ¬ (A.length : Int) = (B.length : Int) by omega)]
    exact Ev.eq (Ev.now _) (decide_eq_false (fun h => hl (by rw [h]))).symm
theorem same_ev (A B : List Sp) (hA : ∀ s ∈ A, okS s) (hB : ∀ s ∈ B, okS s) (hAl : A.length ≤ 1000000000000) (hBl : B.length ≤ 1000000000000) : Ev (fun k => spans_Same.f k (A.map mk) (B.map mk)) (decide (formF A = formF B)) := by
  unfold spans_Same.f
  refine Ev.bind (f := fun k t372 => (spans_Form.f k (B.map mk)).bind fun t375 => ((slices_Equal_api_Span_api_Span.f k t372 t375).bind fun t378 => (some t378))) (form_ev A hA hAl) ?_
  refine Ev.bind (f := fun k t375 => (slices_Equal_api_Span_api_Span.f k ((formF A).map mk) t375).bind fun t378 => (some t378)) (form_ev B hB hBl) ?_
  have := form_len A
  exact Ev.bind (f := fun _ t => some t) (equal_ev _ _ (by omega)) (Ev.now _)

/-! ### Awake -/
theorem inForm_one {s : Sp} (h : s.1 ≤ s.2) : InForm [s] := ⟨by simpa using h, List.pairwise_singleton _ _⟩
theorem form_awake : formF [(4, 6), (1, 3)] = [(1, 6)] := by
  refine form_of (inForm_one (by decide)) (fun x => ?_)
  simp only [mem_cons, mem_nil, or_false]
  omega
theorem form_16 : formF [(1, 6)] = [(1, 6)] := form_of_form (inForm_one (by decide))
theorem awake_ev : Ev (fun k => waymarklaw02_awake.f k) true := by
  unfold waymarklaw02_awake.f
  have h1 : Ev (fun k => spans_Form.f k (([(⟨4, 6⟩ : S36), (⟨1, 3⟩ : S36)] : List (S36)))) [(⟨1, 6⟩ : S36)] := by
    have := form_ev [(4, 6), (1, 3)] (by intro s hs; simp at hs; rcases hs with rfl | rfl <;> (unfold okS; decide)) (by simp)
    rw [form_awake] at this
    exact this
  have h2 : Ev (fun k => spans_Count.f k [(⟨1, 6⟩ : S36)]) 6 := by
    have := count_ev [(1, 6)] (by intro s hs; simp at hs; subst hs; (unfold okS; decide)) (by simp)
    rw [form_16] at this
    exact this
  refine Ev.bind (f := fun k t301 => if (t301.length : Int) = 1 then (if 0 < (t301.length : Int) then (if (((rd_T36 t301 0).f0) == 1 && (((rd_T36 t301 0).f1) == 6)) = true then ((spans_Count.f k t301).bind fun t305 => (if t305 = 6 then ((spans_Has.f t301 5).bind fun t306 => (if t306 = true then ((spans_Has.f t301 7).bind fun t307 => (some (!t307))) else (some false))) else (some false))) else (some false)) else (none)) else (some false)) h1 ?_
  refine Ev.congr (f := fun k => (spans_Count.f k [(⟨1, 6⟩ : S36)]).bind fun t305 => (if t305 = 6 then ((spans_Has.f [(⟨1, 6⟩ : S36)] 5).bind fun t306 => (if t306 = true then ((spans_Has.f [(⟨1, 6⟩ : S36)] 7).bind fun t307 => (some (!t307))) else (some false))) else (some false))) (fun k => by
    rw [if_pos (by rfl), if_pos (by simp), if_pos (by rfl)]) ?_
  exact Ev.bind (f := fun _ t305 => (if t305 = 6 then ((spans_Has.f [(⟨1, 6⟩ : S36)] 5).bind fun t306 => (if t306 = true then ((spans_Has.f [(⟨1, 6⟩ : S36)] 7).bind fun t307 => (some (!t307))) else (some false))) else (some false))) h2 (Ev.all fun k => by rfl)

end Go.Proofs.YtmoagoopdfpcnaaDoor.Q
