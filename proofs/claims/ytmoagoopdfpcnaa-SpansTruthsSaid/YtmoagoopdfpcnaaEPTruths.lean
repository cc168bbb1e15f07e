/- SpansTruths: the law answers true, for whatever sets and numbers: plain lists and numbers. -/
import Derived.Test.YtmoagoopdfpcnaaEPCount
import Derived.Test.YtmoagoopdfpcnaaQx35
namespace Go.Proofs.Ytmoagoopdfpcnaa.Q
open Go.RowKit Go.Proofs.YtmoagoopdfpcnaaW.PrintWords Go.Proofs.YtmoagoopdfpcnaaW.PrintLast Go.Proofs.YtmoagoopdfpcnaaW.PrintMore Go.Proofs.Ytmoagoopdfpcnaa.SpMath
set_option linter.unusedVariables false

section
variable (L M : List Sp) (hL : ∀ s ∈ L, okS s) (hM : ∀ s ∈ M, okS s) (hLl : L.length ≤ 200) (hMl : M.length ≤ 200) (m x : Int) (hm0 : 0 ≤ m) (hm : m ≤ 4294967295) (hx0 : 0 ≤ x) (hx : x ≤ 4294967295)

theorem mem_up (m x : Int) : Mem [((0 : Int), m)] x ↔ 0 ≤ x ∧ x ≤ m := mem_one _ _
include hL hLl hm0 hm in
theorem truths2 : Ev (fun k => waymarklaw02_SpansTruths.j2 k (L.map mk) m ((notF L m).map mk) false) true := by
  have okU : ∀ s ∈ [((0 : Int), m)], okS s := by intro s hs; rw [List.mem_singleton.1 hs]; unfold okS; exact ⟨by omega, by omega, hm0, hm⟩
  have hA := and_ok L [((0 : Int), m)]
  have okA := and_okS hL okU
  have hN := not_ok L m (nonneg_okS hL)
  have okN := not_okS hm hL
  have lA := and_len L [((0 : Int), m)]
  have lN := not_len L m
  simp only [List.length_cons, List.length_nil] at lA
  have eA : formF (andF L [((0 : Int), m)]) = andF L [((0 : Int), m)] := form_of_form hA.1
  have eN : formF (notF L m) = notF L m := form_of_form hN.1
  have e1 : notF (andF L [((0 : Int), m)]) m = notF L m := form_unique _ _ (not_ok _ m (nonneg_okS okA)).1 hN.1 (fun y => by rw [(not_ok _ m (nonneg_okS okA)).2, hN.2, hA.2, mem_up]; constructor <;> rintro ⟨h1, h2, h3⟩ <;> exact ⟨h1, h2, fun h => h3 (by first | exact ⟨h, h1, h2⟩ | exact h.1)⟩)
  have hc : cnt (notF L m) + cnt (andF L [((0 : Int), m)]) = m + 1 := by
    have := not_cnt hm0 hA.1 (fun s hs => by
      have h2 := hA.1.1 s hs
      have q1 := (hA.2 s.1).1 ⟨s, hs, by omega, h2⟩
      have q2 := (hA.2 s.2).1 ⟨s, hs, h2, by omega⟩
      rw [mem_up] at q1 q2
      exact ⟨q1.2.1, q2.2.2⟩)
    rwa [e1] at this
  have p1 := cnt_nonneg _ hA.1.1
  have p2 := cnt_nonneg _ hN.1.1
  have eU : formF [((0 : Int), m)] = [((0 : Int), m)] := form_of_form (inForm_one hm0)
  have eO : formF (orF (andF L [((0 : Int), m)]) (notF L m)) = [((0 : Int), m)] := by
    refine form_of (inForm_one hm0) (fun y => ?_)
    rw [or_ok, hA.2, hN.2, mem_up]
    constructor
    · rintro (⟨_, h⟩ | ⟨h1, h2, _⟩)
      · exact h
      · exact ⟨h1, h2⟩
    · intro h
      by_cases hl : Mem L y
      · exact Or.inl ⟨hl, h⟩
      · exact Or.inr ⟨h.1, h.2, hl⟩
  refine Ev.step (f := fun k => (spans_And.f k (L.map mk) ([((0 : Int), m)].map mk)).bind fun t553 => ((spans_Count.f k t553).bind fun t556 => ((spans_Count.f k ((notF L m).map mk)).bind fun t557 => (if (IntKind.u64.wrap (t556 + t557)) = (IntKind.u64.wrap ((IntKind.u64.wrap (m)) + 1)) then ((spans_Or.f k t553 ((notF L m).map mk)).bind fun t558 => ((spans_Same.f k t558 ([((0 : Int), m)].map mk)).bind fun t564 => (some t564))) else (none))))) (fun k => by simp only [waymarklaw02_SpansTruths.j2]; rw [if_neg (by simp)]; rfl) ?_
  refine Ev.bind (f := fun k t553 => ((spans_Count.f k t553).bind fun t556 => ((spans_Count.f k ((notF L m).map mk)).bind fun t557 => (if (IntKind.u64.wrap (t556 + t557)) = (IntKind.u64.wrap ((IntKind.u64.wrap (m)) + 1)) then ((spans_Or.f k t553 ((notF L m).map mk)).bind fun t558 => ((spans_Same.f k t558 ([((0 : Int), m)].map mk)).bind fun t564 => (some t564))) else (none))))) (and_ev L _ hL okU (by omega) (by simp)) ?_
  refine Ev.bind (f := fun k t556 => ((spans_Count.f k ((notF L m).map mk)).bind fun t557 => (if (IntKind.u64.wrap (t556 + t557)) = (IntKind.u64.wrap ((IntKind.u64.wrap (m)) + 1)) then ((spans_Or.f k ((andF L [((0 : Int), m)]).map mk) ((notF L m).map mk)).bind fun t558 => ((spans_Same.f k t558 ([((0 : Int), m)].map mk)).bind fun t564 => (some t564))) else (none)))) (count_ev _ okA (by omega)) ?_
  refine Ev.bind (f := fun k t557 => (if (IntKind.u64.wrap (cnt (formF (andF L [((0 : Int), m)])) + t557)) = (IntKind.u64.wrap ((IntKind.u64.wrap (m)) + 1)) then ((spans_Or.f k ((andF L [((0 : Int), m)]).map mk) ((notF L m).map mk)).bind fun t558 => ((spans_Same.f k t558 ([((0 : Int), m)].map mk)).bind fun t564 => (some t564))) else (none))) (count_ev _ okN (by omega)) ?_
  have hw : (IntKind.u64.wrap (cnt (formF (andF L [((0 : Int), m)])) + cnt (formF (notF L m)))) = (IntKind.u64.wrap ((IntKind.u64.wrap (m)) + 1)) := by
    rw [eA, eN, show cnt (andF L [((0 : Int), m)]) + cnt (notF L m) = m + 1 by omega]
    simp [IntKind.wrap, IntKind.bits, IntKind.signed]
  simp only [if_pos hw]
  refine Ev.bind (f := fun k t558 => ((spans_Same.f k t558 ([((0 : Int), m)].map mk)).bind fun t564 => (some t564))) (or_ev _ _ okA okN (by omega) (by omega)) ?_
  have lO := or_len (andF L [((0 : Int), m)]) (notF L m)
  refine Ev.bind (f := fun _ t => some t) (same_ev _ _ (or_okS okA okN) okU (by omega) (by simp)) ?_
  rw [eO, eU]
  exact Ev.eq (Ev.now _) (by simp)

include hL hLl hm0 hm hx0 in
theorem truths1 : Ev (fun k => waymarklaw02_SpansTruths.j1 k (L.map mk) m x (memB L x) false) true := by
  have hN := not_ok L m (nonneg_okS hL)
  have okN := not_okS hm hL
  have lN := not_len L m
  have hE : andF L (notF L m) = [] := form_unique _ _ (and_ok _ _).1 inForm_nil (fun y => by rw [(and_ok _ _).2, hN.2, mem_nil]; exact ⟨fun ⟨h1, _, _, h2⟩ => h2 h1, False.elim⟩)
  have h2 := truths2 L hL hLl m hm0 hm
  refine Ev.step (f := fun k => (spans_Not.f k (L.map mk) m).bind fun t540 => ((spans_Has.f t540 x).bind fun t543 => (if x ≤ m then (if (t543 != (!(memB L x))) = true then (waymarklaw02_SpansTruths.j2 k (L.map mk) m t540 true) else ((spans_And.f k (L.map mk) t540).bind fun t544 => (waymarklaw02_SpansTruths.j2 k (L.map mk) m t540 ((t544.length : Int) != 0)))) else (if (t543 != false) = true then (waymarklaw02_SpansTruths.j2 k (L.map mk) m t540 true) else ((spans_And.f k (L.map mk) t540).bind fun t547 => (waymarklaw02_SpansTruths.j2 k (L.map mk) m t540 ((t547.length : Int) != 0))))))) (fun k => by simp only [waymarklaw02_SpansTruths.j1]; rw [if_neg (by simp)]) ?_
  refine Ev.bind (f := fun k t540 => ((spans_Has.f t540 x).bind fun t543 => (if x ≤ m then (if (t543 != (!(memB L x))) = true then (waymarklaw02_SpansTruths.j2 k (L.map mk) m t540 true) else ((spans_And.f k (L.map mk) t540).bind fun t544 => (waymarklaw02_SpansTruths.j2 k (L.map mk) m t540 ((t544.length : Int) != 0)))) else (if (t543 != false) = true then (waymarklaw02_SpansTruths.j2 k (L.map mk) m t540 true) else ((spans_And.f k (L.map mk) t540).bind fun t547 => (waymarklaw02_SpansTruths.j2 k (L.map mk) m t540 ((t547.length : Int) != 0))))))) (not_ev L m hm0 hm hL (by omega)) ?_
  have hand : Ev (fun k => (spans_And.f k (L.map mk) ((notF L m).map mk)).bind fun t544 => (waymarklaw02_SpansTruths.j2 k (L.map mk) m ((notF L m).map mk) ((t544.length : Int) != 0))) true := by
    refine Ev.bind (f := fun k t544 => (waymarklaw02_SpansTruths.j2 k (L.map mk) m ((notF L m).map mk) ((t544.length : Int) != 0))) (and_ev L _ hL okN (by omega) (by omega)) ?_
    rw [hE]
    exact h2
  simp only [has_mk, Option.bind_some]
  by_cases hc : x ≤ m
  · have e : memB (notF L m) x = !(memB L x) := by
      rw [Bool.eq_iff_iff, memB_iff, hN.2]
      have := memB_iff L x
      cases hb : memB L x
      · rw [hb] at this; simp only [Bool.not_false, iff_true]; exact ⟨hx0, hc, fun h => by have := this.2 h; cases this⟩
      · rw [hb] at this; simp only [Bool.not_true]; exact ⟨fun h => absurd (this.1 rfl) h.2.2, fun h => by cases h⟩
    simp only [if_pos hc, e, bne_self_eq_false]
    exact hand
  · have e : memB (notF L m) x = false := by
      rw [Bool.eq_false_iff]
      intro h
      exact hc ((hN.2 x).1 ((memB_iff _ _).1 h)).2.1
    simp only [if_neg hc, e, bne_self_eq_false]
    exact hand

include hL hM hLl hMl hm0 hm hx0 in
theorem truths0 : Ev (fun k => waymarklaw02_SpansTruths.j0 k (L.map mk) (M.map mk) m x false) true := by
  have h1 := truths1 L hL hLl m x hm0 hm hx0
  have lA := and_len L M
  have hmul : L.length * M.length ≤ 200 * 200 := Nat.mul_le_mul hLl hMl
  have eF : memB (formF L) x = memB L x := memB_eq ((form_ok L).2 x)
  have eO : memB (orF L M) x = (memB L x || memB M x) := by rw [Bool.eq_iff_iff, memB_iff, or_ok, Bool.or_eq_true, memB_iff, memB_iff]
  have eA : memB (andF L M) x = (memB L x && memB M x) := by rw [Bool.eq_iff_iff, memB_iff, (and_ok L M).2, Bool.and_eq_true, memB_iff, memB_iff]
  have eL : memB (lessF L M) x = (memB L x && !(memB M x)) := by
    rw [Bool.eq_iff_iff, memB_iff, less_ok L M hL hM, Bool.and_eq_true, memB_iff]
    have := memB_iff M x
    cases hb : memB M x
    · rw [hb] at this; simp only [Bool.not_false, and_true]; exact ⟨fun h => h.1, fun h => ⟨h, fun h2 => by have := this.2 h2; cases this⟩⟩
    · rw [hb] at this; simp only [Bool.not_true]; exact ⟨fun h => absurd (this.1 rfl) h.2, fun h => by cases h.2⟩
  refine Ev.succ ?_
  simp only [waymarklaw02_SpansTruths.j0, has_mk, Option.bind_some, Bool.false_eq_true, if_false]
  refine Ev.bind (has_ev L x (by omega)) ?_
  refine Ev.bind (has_ev M x (by omega)) ?_
  simp only [bne_self_eq_false, Bool.false_eq_true, if_false]
  refine Ev.bind (form_ev L hL (by omega)) ?_
  simp only [has_mk, Option.bind_some, eF, bne_self_eq_false, Bool.false_eq_true, if_false]
  refine Ev.bind (or_ev L M hL hM (by omega) (by omega)) ?_
  simp only [has_mk, Option.bind_some, eO]
  cases hp : memB L x
  · rw [hp] at h1 eA eL
    simp only [Bool.false_eq_true, if_false, Bool.false_or, bne_self_eq_false]
    refine Ev.bind (and_ev L M hL hM (by omega) (by omega)) ?_
    simp only [has_mk, Option.bind_some, eA, Bool.false_and, bne_self_eq_false, Bool.false_eq_true, if_false]
    refine Ev.bind (less_ev L M hL hM (by omega) (by omega)) ?_
    simp only [has_mk, Option.bind_some, eL, Bool.false_and, bne_self_eq_false]
    exact h1
  · rw [hp] at h1 eA eL
    simp only [if_true, Bool.true_or, bne_self_eq_false, Bool.false_eq_true, if_false]
    refine Ev.bind (and_ev L M hL hM (by omega) (by omega)) ?_
    simp only [has_mk, Option.bind_some, eA, Bool.true_and, bne_self_eq_false, Bool.false_eq_true, if_false]
    refine Ev.bind (less_ev L M hL hM (by omega) (by omega)) ?_
    simp only [has_mk, Option.bind_some, eL, Bool.true_and, bne_self_eq_false]
    exact h1
end

theorem truths_ev (L M : List Sp) (hL : ∀ s ∈ L, okS s) (hM : ∀ s ∈ M, okS s) (m x : Int) (hm0 : 0 ≤ m) (hm : m ≤ 4294967295) (hx0 : 0 ≤ x) :
    Ev (fun k => waymarklaw02_SpansTruths.f k (L.map mk) (M.map mk) m x) true := by
  have hawake : Ev (fun k => waymarklaw02_SpansTruths.j0 k (L.map mk) (M.map mk) m x true) true := by
    refine Ev.step (f := fun k => (waymarklaw02_awake.f k).bind fun t512 => (some t512)) (fun k => by simp only [waymarklaw02_SpansTruths.j0, if_true]) ?_
    exact Ev.bind (f := fun _ t => some t) awake_ev (Ev.now _)
  unfold waymarklaw02_SpansTruths.f waymarklaw02_large.f
  rw [List.length_map, List.length_map]
  by_cases h1 : (L.length : Int) > 200
  · simp only [if_pos h1, Option.bind_some, if_true]
    exact hawake
  · simp only [if_neg h1, Option.bind_some]
    by_cases h2 : (M.length : Int) > 200
    · simp only [decide_eq_true h2, if_true]
      exact hawake
    · simp only [decide_eq_false h2, Bool.false_eq_true, if_false]
      refine Ev.bind awake_ev ?_
      exact truths0 L M hL hM (by omega) (by omega) m x hm0 hm hx0

end Go.Proofs.Ytmoagoopdfpcnaa.Q
