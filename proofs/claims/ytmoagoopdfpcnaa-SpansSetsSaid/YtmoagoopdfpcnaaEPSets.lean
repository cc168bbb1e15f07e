/- SpansSets: what the law's calls answer, plain lists and numbers; and the law's call, for whatever sets. -/
import Derived.Test.YtmoagoopdfpcnaaEPAsks
import Derived.Test.YtmoagoopdfpcnaaESets
namespace Go.Proofs.Ytmoagoopdfpcnaa.Q
open Go.RowKit Go.Proofs.YtmoagoopdfpcnaaW.PrintWords Go.Proofs.YtmoagoopdfpcnaaW.PrintLast Go.Proofs.YtmoagoopdfpcnaaW.PrintMore Go.Proofs.Ytmoagoopdfpcnaa.SpMath
set_option linter.unusedVariables false
set_option linter.unusedSimpArgs false

theorem made_eq (m : Int) (hm0 : 0 ≤ m) (hm : m ≤ 4294967295) (L M : List Sp) (hL : ∀ s ∈ L, okS s) (hM : ∀ s ∈ M, okS s) (hLl : L.length ≤ 1000000) (hMl : M.length ≤ 1000000) (how : Int) (T : List Sp) (hT : InForm T)
    (h : ∀ x, Mem T x ↔ (0 ≤ x ∧ x ≤ m ∧ soB L M how x = true)) : Ev (fun k => waymarkref02_made.f k m (L.map mk) (M.map mk) how) (T.map mk) := by
  obtain ⟨R, h1, h2, h3, _⟩ := made_ev m hm0 hm L M hL hM hLl hMl how
  have e : R = T := form_unique _ _ h2 hT (fun x => by rw [h3, h])
  rw [e] at h1
  exact h1
theorem mem_okS {L : List Sp} (hL : ∀ s ∈ L, okS s) {x : Int} (h : Mem L x) : 0 ≤ x ∧ x ≤ 4294967295 := by
  obtain ⟨s, hs, a1, a2⟩ := h
  have := hL s hs
  unfold okS at this
  omega
section
variable {L M : List Sp} (hL : ∀ s ∈ L, okS s) (hM : ∀ s ∈ M, okS s) (hLl : L.length ≤ 200) (hMl : M.length ≤ 200)
include hL hM hLl hMl
theorem refOr_ev : Ev (fun k => waymarkref02_Or.f k (L.map mk) (M.map mk)) ((orF L M).map mk) := by
  unfold waymarkref02_Or.f
  refine Ev.bind (f := fun _ t => some t) (made_eq 4294967295 (by omega) (by omega) L M hL hM (by omega) (by omega) 1 (orF L M) (form_ok _).1 (fun x => ?_)) (Ev.now _)
  rw [or_ok]
  unfold soB
  rw [if_pos rfl, Bool.or_eq_true, memB_iff, memB_iff]
  refine ⟨fun h => ?_, fun h => h.2.2⟩
  rcases h with h | h
  · have := mem_okS hL h; exact ⟨this.1, this.2, Or.inl h⟩
  · have := mem_okS hM h; exact ⟨this.1, this.2, Or.inr h⟩
theorem refAnd_ev : Ev (fun k => waymarkref02_And.f k (L.map mk) (M.map mk)) ((andF L M).map mk) := by
  unfold waymarkref02_And.f
  refine Ev.bind (f := fun _ t => some t) (made_eq 4294967295 (by omega) (by omega) L M hL hM (by omega) (by omega) 2 (andF L M) (and_ok _ _).1 (fun x => ?_)) (Ev.now _)
  rw [(and_ok L M).2]
  unfold soB
  rw [if_neg (by decide), if_pos rfl, Bool.and_eq_true, memB_iff, memB_iff]
  refine ⟨fun h => ?_, fun h => h.2.2⟩
  have := mem_okS hL h.1; exact ⟨this.1, this.2, h⟩
theorem refLess_ev : Ev (fun k => waymarkref02_Less.f k (L.map mk) (M.map mk)) ((lessF L M).map mk) := by
  unfold waymarkref02_Less.f
  refine Ev.bind (f := fun _ t => some t) (made_eq 4294967295 (by omega) (by omega) L M hL hM (by omega) (by omega) 3 (lessF L M) (and_ok _ _).1 (fun x => ?_)) (Ev.now _)
  rw [less_ok L M hL hM]
  unfold soB
  rw [if_neg (by decide), if_neg (by decide), if_pos rfl, Bool.and_eq_true, memB_iff, Bool.not_eq_true', ← Bool.not_eq_true, memB_iff]
  refine ⟨fun h => ?_, fun h => h.2.2⟩
  have := mem_okS hL h.1; exact ⟨this.1, this.2, h⟩
omit hM hMl in
theorem refNot_ev (m : Int) (hm0 : 0 ≤ m) (hm : m ≤ 4294967295) : Ev (fun k => waymarkref02_Not.f k (L.map mk) m) ((notF L m).map mk) := by
  unfold waymarkref02_Not.f
  refine Ev.bind (f := fun _ t => some t) (made_eq m hm0 hm L [] hL (by simp) (by omega) (by simp) 4 (notF L m) (not_ok _ _ (nonneg_okS hL)).1 (fun x => ?_)) (Ev.now _)
  rw [(not_ok L m (nonneg_okS hL)).2]
  unfold soB
  rw [if_neg (by decide), if_neg (by decide), if_neg (by decide), Bool.not_eq_true', ← Bool.not_eq_true, memB_iff]
end
theorem spans_same (A : List Sp) (h : A.length ≤ 1000000000000) : Ev (fun k => waymarkref02_Spans.f k (A.map mk) (A.map mk)) true := Ev.eq (refSpans_ev A A h) (by simp)

set_option maxHeartbeats 1000000 in
set_option maxRecDepth 100000 in
theorem sets_law (A0 : Option Addr) (c0 : Nat) (l0 : List S31) (A1 : Option Addr) (c1 : Nat) (l1 : List S31) (m x : Int) (w : World)
    (hr0 : Kd.C k31 w A0 l0.length l0) (hc0 : l0.length ≤ c0) (ho0 : ∀ y ∈ l0, ok31 y) (hr1 : Kd.C k31 w A1 l1.length l1) (hc1 : l1.length ≤ c1) (ho1 : ∀ y ∈ l1, ok31 y) (hm0 : 0 ≤ m) (hm : m ≤ 4294967295) :
    Calls Try.prog 7 #[.slice A0 l0.length c0, .slice A1 l1.length c1, .int .u32 m, .int .u32 x] w fun e w' => e = .returned (.bool true) ∧ Below w.heap.size w w' := by
  by_cases hs : l0.length ≤ 200 ∧ l1.length ≤ 200
  · obtain ⟨L, hLe⟩ : ∃ L : List Sp, l0 = L.map mk := ⟨_, (map_mk_sp l0).symm⟩
    obtain ⟨M, hMe⟩ : ∃ M : List Sp, l1 = M.map mk := ⟨_, (map_mk_sp l1).symm⟩
    have hL : ∀ s ∈ L, okS s := fun s hs' => by
      have := okS_of ho0 (sp (mk s)) (by rw [hLe, List.map_map]; exact List.mem_map.2 ⟨s, hs', rfl⟩)
      exact this
    have hM : ∀ s ∈ M, okS s := fun s hs' => by
      have := okS_of ho1 (sp (mk s)) (by rw [hMe, List.map_map]; exact List.mem_map.2 ⟨s, hs', rfl⟩)
      exact this
    have hLl : L.length ≤ 200 := by have := hs.1; rw [hLe, List.length_map] at this; exact this
    have hMl : M.length ≤ 200 := by have := hs.2; rw [hMe, List.length_map] at this; exact this
    have q0 := form_len L
    have q1 := or_len L M
    have q2 := and_len L M
    have q2' : L.length * M.length ≤ 200 * 200 := Nat.mul_le_mul hLl hMl
    have q3 := and_len L (notF M 4294967295)
    have q4 := not_len M 4294967295
    have q3' : L.length * (notF M 4294967295).length ≤ 200 * 201 := Nat.mul_le_mul hLl (by omega)
    have q5 := not_len L m
    have q3'' : (lessF L M).length ≤ 200 * 201 := by unfold lessF; omega
    obtain ⟨K0, r0⟩ := refForm_ev L hL (by omega)
    obtain ⟨K1, r1⟩ := refOr_ev hL hM hLl hMl
    obtain ⟨K2, r2⟩ := refAnd_ev hL hM hLl hMl
    obtain ⟨K3, r3⟩ := refLess_ev hL hM hLl hMl
    obtain ⟨K4, r4⟩ := refNot_ev hL hLl m hm0 hm
    obtain ⟨K5, e0⟩ := spans_same (formF L) (by omega)
    obtain ⟨K6, e1⟩ := spans_same (orF L M) (by omega)
    obtain ⟨K7, e2⟩ := spans_same (andF L M) (by omega)
    obtain ⟨K8, e3⟩ := spans_same (lessF L M) (by omega)
    obtain ⟨K9, e4⟩ := spans_same (notF L m) (by omega)
    obtain ⟨K10, e5⟩ := spans_same L (by omega)
    obtain ⟨K11, e6⟩ := spans_same M (by omega)
    obtain ⟨K12, p1⟩ := has_ev L x (by omega)
    obtain ⟨K13, s0⟩ := form_ev L hL (by omega)
    obtain ⟨K14, s1⟩ := or_ev L M hL hM (by omega) (by omega)
    obtain ⟨K15, s2⟩ := and_ev L M hL hM (by omega) (by omega)
    obtain ⟨K16, s3⟩ := less_ev L M hL hM (by omega) (by omega)
    obtain ⟨K17, s4⟩ := not_ev L m hm0 hm hL (by omega)
    have hz := fun K => fun (h : K ≤ K0 + K1 + K2 + K3 + K4 + K5 + K6 + K7 + K8 + K9 + K10 + K11 + K12 + K13 + K14 + K15 + K16 + K17) => h
    obtain ⟨k, hk⟩ : ∃ k, k = K0 + K1 + K2 + K3 + K4 + K5 + K6 + K7 + K8 + K9 + K10 + K11 + K12 + K13 + K14 + K15 + K16 + K17 := ⟨_, rfl⟩
    subst hLe
    subst hMe
    refine sets1 A0 c0 _ A1 c1 _ m x w k hr0 hc0 hr1 hc1 hs.1 hs.2 ((formF L).map mk) ((orF L M).map mk) ((andF L M).map mk) ((lessF L M).map mk) ((notF L m).map mk) ?_
      (r0 k (by omega)) (r1 k (by omega)) (r2 k (by omega)) (r3 k (by omega)) (r4 k (by omega)) (e0 k (by omega)) (e1 k (by omega)) (e2 k (by omega)) (e3 k (by omega)) (e4 k (by omega)) (e5 k (by omega)) (e6 k (by omega))
      (memB L x) (has_mk L x) (p1 k (by omega)) (s0 k (by omega)) (s1 k (by omega)) (s2 k (by omega)) (s3 k (by omega)) (s4 k (by omega))
    intro j F hF
    match j, hF with
    | 0, hF => obtain rfl := Option.some.inj hF; rw [List.length_map]; omega
    | 1, hF => obtain rfl := Option.some.inj hF; rw [List.length_map]; omega
    | 2, hF => obtain rfl := Option.some.inj hF; rw [List.length_map]; omega
    | 3, hF => obtain rfl := Option.some.inj hF; rw [List.length_map]; omega
    | 4, hF => obtain rfl := Option.some.inj hF; rw [List.length_map]; omega
  · obtain ⟨k, hk⟩ := awake_ev.rounds
    have hlarge : waymarklaw02_large.f l0 l1 = some true := by
      unfold waymarklaw02_large.f
      by_cases h1 : (l0.length : Int) > 200
      · rw [if_pos h1]
      · rw [if_neg h1, decide_eq_true (by omega)]
    have hLG := Aside0.mk (fun W => fun (hb : Below w.heap.size w W) => waymarklaw02_large.calls A0 c0 l0 A1 c1 l1 true W (Kd.C_below hr0 hb) hc0 (Kd.C_below hr1 hb) hc1 hlarge)
    have hAW := Aside0.mk (fun W => waymarklaw02_awake.calls k true W hk)
    clear hk hlarge hs hr0 hr1 ho0 ho1
    go_enter Try.func7, Try.ntmps7
    go_wp2_with (first | (go_at_call 34; refine (hLG.out _ (Below.refl _ _)).mono ?_; rintro e w1 ⟨rfl, hd1⟩; have hb1 := Aside0.mk (hd1.below); clear hd1) | (go_at_call 35; refine (hAW.out _).mono ?_; rintro e w2 ⟨rfl, hb2⟩; have hb2A := Aside0.mk hb2; clear hb2))
    go_ret
    exact ⟨rfl, below_step hb1.out hb2A.out⟩
end Go.Proofs.Ytmoagoopdfpcnaa.Q
