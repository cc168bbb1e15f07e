/- How many numbers a set has, whether two sets are the same, and that the program is awake: plain lists and numbers. -/
import Derived.Test.YtmoagoopdfpcnaaEPForm
import Derived.Test.YtmoagoopdfpcnaaEHas
import Derived.Test.YtmoagoopdfpcnaaEOr
import Derived.Test.YtmoagoopdfpcnaaQx24
import Derived.Test.YtmoagoopdfpcnaaQx25
import Derived.Test.YtmoagoopdfpcnaaQx29
import Derived.Test.YtmoagoopdfpcnaaQx33
import Derived.Test.YtmoagoopdfpcnaaQx34
namespace Go.Proofs.Ytmoagoopdfpcnaa.Q
open Go.RowKit Go.Proofs.YtmoagoopdfpcnaaW.PrintWords Go.Proofs.YtmoagoopdfpcnaaW.PrintLast Go.Proofs.YtmoagoopdfpcnaaW.PrintMore Go.Proofs.Ytmoagoopdfpcnaa.SpMath
set_option linter.unusedVariables false

/-! ### Is a number in a set? -/
def memB (L : List Sp) (x : Int) : Bool := L.any fun s => decide (s.1 ≤ x) && decide (x ≤ s.2)
theorem memB_iff (L : List Sp) (x : Int) : memB L x = true ↔ Mem L x := by
  unfold memB Mem
  simp [List.any_eq_true]
theorem memB_eq {L M : List Sp} {x y : Int} (h : Mem L x ↔ Mem M y) : memB L x = memB M y := by
  rw [Bool.eq_iff_iff, memB_iff, memB_iff]; exact h
theorem has_mk (L : List Sp) (x : Int) : spans_Has.f (L.map mk) x = some (memB L x) := by
  unfold spans_Has.f memB
  rw [List.any_map]
  rfl
theorem memB_cons (s : Sp) (L : List Sp) (x : Int) : memB (s :: L) x = (decide (s.1 ≤ x) && decide (x ≤ s.2) || memB L x) := rfl
theorem has_loop (L : List Sp) (x : Int) (hn : L.length ≤ 1000000000000) : ∀ (d i : Nat), i + d = L.length → Ev (fun k => waymarkref02_Has.l0 k (L.map mk) x (i : Int)) (memB (L.drop i) x)
  | 0, i, h => by
    rw [List.drop_of_length_le (by omega)]
    exact Ev.step (f := fun k => some false) (fun k => by simp only [waymarkref02_Has.l0]; rw [if_neg (by rw [List.length_map]; omega)]) (Ev.now _)
  | d + 1, i, h => by
    have hi : i < L.length := by omega
    have ih := has_loop L x hn d (i + 1) (by omega)
    rw [List.drop_eq_getElem_cons hi]
    by_cases h1 : L[i].1 ≤ x
    · by_cases h2 : x ≤ L[i].2
      · refine Ev.step (f := fun k => some true) (fun k => ?_) (Ev.eq (Ev.now _) (by rw [memB_cons]; simp [h1, h2]))
        simp only [waymarkref02_Has.l0]
        rw [if_pos (by rw [List.length_map]; omega), if_pos (by omega), rdmk L i hi, if_pos (show (mk L[i]).f0 ≤ x from h1), if_pos (show x ≤ (mk L[i]).f1 from h2)]
      · refine Ev.step (f := fun k => waymarkref02_Has.l0 k (L.map mk) x ((i + 1 : Nat) : Int)) (fun k => ?_) (Ev.eq ih (by rw [memB_cons]; simp [h2]))
        simp only [waymarkref02_Has.l0]
        rw [if_pos (by rw [List.length_map]; omega), if_pos (by omega), rdmk L i hi, if_pos (show (mk L[i]).f0 ≤ x from h1), if_neg (show ¬ x ≤ (mk L[i]).f1 from h2), wr1 i L.length hi (by omega)]
    · refine Ev.step (f := fun k => waymarkref02_Has.l0 k (L.map mk) x ((i + 1 : Nat) : Int)) (fun k => ?_) (Ev.eq ih (by rw [memB_cons]; simp [h1]))
      simp only [waymarkref02_Has.l0]
      rw [if_pos (by rw [List.length_map]; omega), if_pos (by omega), rdmk L i hi, if_neg (show ¬ (mk L[i]).f0 ≤ x from h1), wr1 i L.length hi (by omega)]
theorem has_ev (L : List Sp) (x : Int) (hn : L.length ≤ 1000000000000) : Ev (fun k => waymarkref02_Has.f k (L.map mk) x) (memB L x) := has_loop L x hn L.length 0 (by omega)

/-! ### In both -/
theorem mn_min (a b : Int) : mn a b = min a b := by unfold mn; split <;> omega
theorem meet_okS {s t : Sp} (hs : okS s) (ht : okS t) : okS (meet s t) := by
  unfold okS meet at *
  simp only
  omega
theorem meets_okS {A B : List Sp} (hA : ∀ s ∈ A, okS s) (hB : ∀ s ∈ B, okS s) : ∀ s ∈ meets A B, okS s := by
  intro s hs
  unfold meets at hs
  rw [List.mem_flatMap] at hs
  obtain ⟨a, ha, hs⟩ := hs
  obtain ⟨b, hb, rfl⟩ := List.mem_map.1 (List.mem_filter.1 hs).1
  exact meet_okS (hA a ha) (hB b hb)
theorem meets_len (A B : List Sp) : (meets A B).length ≤ A.length * B.length := by
  induction A with
  | nil => simp [meets]
  | cons a A ih =>
    unfold meets at *
    rw [List.flatMap_cons, List.length_append, List.length_cons, Nat.succ_mul]
    have h1 : ((B.map (meet a)).filter fun x => decide (x.1 ≤ x.2)).length ≤ B.length := by
      have := List.length_filter_le (fun x : Sp => decide (x.1 ≤ x.2)) (B.map (meet a))
      rwa [List.length_map] at this
    omega

theorem and_l1 (B F G : List Sp) (s : Sp) (j : Nat) (r : List S31) (hG : G.length ≤ 1000000) : ∀ (d i : Nat) (out : List Sp), i + d = G.length → out.length + d ≤ 1000000000000 →
    Ev (fun k => spans_And.l0 k (B.map mk) ((out ++ ((G.drop i).map (meet s)).filter fun x => decide (x.1 ≤ x.2)).map mk) (F.map mk) (F.length : Int) (wrap64 ((j : Int) + 1))) r →
    Ev (fun k => spans_And.l1 k (B.map mk) (out.map mk) (F.map mk) (F.length : Int) (j : Int) (G.map mk) (G.length : Int) (i : Int) s.1 s.2) r
  | 0, i, out, h, hl, he => by
    rw [List.drop_of_length_le (by omega)] at he
    simp only [List.map_nil, List.filter_nil, List.append_nil] at he
    exact Ev.step (f := fun k => spans_And.l0 k (B.map mk) (out.map mk) (F.map mk) (F.length : Int) (wrap64 ((j : Int) + 1))) (fun k => by simp only [spans_And.l1]; rw [if_neg (by omega)]) he
  | d + 1, i, out, h, hl, he => by
    have hi : i < G.length := by omega
    rw [List.drop_eq_getElem_cons hi, List.map_cons, List.filter_cons] at he
    by_cases hm : (meet s G[i]).1 ≤ (meet s G[i]).2
    · simp only [hm, decide_true, if_true] at he
      refine Ev.step (f := fun k => spans_And.l1 k (B.map mk) ((out ++ [meet s G[i]]).map mk) (F.map mk) (F.length : Int) (j : Int) (G.map mk) (G.length : Int) ((i + 1 : Nat) : Int) s.1 s.2) (fun k => ?_) (and_l1 B F G s j r hG d (i + 1) (out ++ [meet s G[i]]) (by omega) (by simp; omega) (by simpa using he))
      simp only [spans_And.l1]
      rw [if_pos (by omega), if_pos (by omega), if_pos (by rw [List.length_map]; omega), rdmk G i hi, mx_max, mn_min, if_pos (show max s.1 (mk G[i]).f0 ≤ min s.2 (mk G[i]).f1 from hm), if_pos (by rw [List.length_map]; omega), wr1 i G.length hi (by omega), List.map_append]
      rfl
    · simp only [hm, decide_false] at he
      refine Ev.step (f := fun k => spans_And.l1 k (B.map mk) (out.map mk) (F.map mk) (F.length : Int) (j : Int) (G.map mk) (G.length : Int) ((i + 1 : Nat) : Int) s.1 s.2) (fun k => ?_) (and_l1 B F G s j r hG d (i + 1) out (by omega) (by omega) (by simpa using he))
      simp only [spans_And.l1]
      rw [if_pos (by omega), if_pos (by omega), if_pos (by rw [List.length_map]; omega), rdmk G i hi, mx_max, mn_min, if_neg (show ¬ max s.1 (mk G[i]).f0 ≤ min s.2 (mk G[i]).f1 from hm), wr1 i G.length hi (by omega)]

theorem and_l0 (B F : List Sp) (hB : ∀ s ∈ B, okS s) (hBl : B.length ≤ 1000000) (hF : ∀ s ∈ F, okS s) (hFl : F.length ≤ 1000000) : ∀ (d j : Nat) (out : List Sp), j + d = F.length → (∀ s ∈ out, okS s) → out.length + d * (formF B).length ≤ 1000000000000 →
    Ev (fun k => spans_And.l0 k (B.map mk) (out.map mk) (F.map mk) (F.length : Int) (j : Int)) ((formF (out ++ meets (F.drop j) (formF B))).map mk)
  | 0, j, out, h, ho, hl => by
    rw [List.drop_of_length_le (by omega), show meets [] (formF B) = [] from rfl, List.append_nil]
    refine Ev.step (f := fun k => (spans_Form.f k (out.map mk)).bind fun t412 => (some t412)) (fun k => by simp only [spans_And.l0]; rw [if_neg (by omega)]) ?_
    exact Ev.bind (f := fun _ t => some t) (form_ev out ho (by omega)) (Ev.now _)
  | d + 1, j, out, h, ho, hl => by
    have hj : j < F.length := by omega
    have hb := form_len B
    have hG := form_okS hB
    rw [Nat.succ_mul] at hl
    have hml : (((formF B).map (meet F[j])).filter fun x => decide (x.1 ≤ x.2)).length ≤ (formF B).length := by
      have := List.length_filter_le (fun x : Sp => decide (x.1 ≤ x.2)) ((formF B).map (meet F[j]))
      rwa [List.length_map] at this
    have hd : meets (F.drop j) (formF B) = (((formF B).map (meet F[j])).filter fun x => decide (x.1 ≤ x.2)) ++ meets (F.drop (j + 1)) (formF B) := by
      rw [List.drop_eq_getElem_cons hj]; rfl
    rw [hd, ← List.append_assoc]
    have ih := and_l0 B F hB hBl hF hFl d (j + 1) (out ++ (((formF B).map (meet F[j])).filter fun x => decide (x.1 ≤ x.2))) (by omega) (fun s hs => by
      rcases List.mem_append.1 hs with h | h
      · exact ho s h
      · obtain ⟨b, hb, rfl⟩ := List.mem_map.1 (List.mem_filter.1 h).1
        exact meet_okS (hF _ (List.getElem_mem hj)) (hG b hb)) (by rw [List.length_append]; omega)
    rw [← wr1 j F.length hj (by omega)] at ih
    refine Ev.step (f := fun k => (spans_Form.f k (B.map mk)).bind fun t417 => (spans_And.l1 k (B.map mk) (out.map mk) (F.map mk) (F.length : Int) (j : Int) t417 (t417.length : Int) 0 F[j].1 F[j].2)) (fun k => ?_) ?_
    · simp only [spans_And.l0]
      rw [if_pos (by omega), if_pos (by omega), if_pos (by rw [List.length_map]; omega), rdmk F j hj]
      rfl
    · refine Ev.bind (f := fun k t417 => spans_And.l1 k (B.map mk) (out.map mk) (F.map mk) (F.length : Int) (j : Int) t417 (t417.length : Int) 0 F[j].1 F[j].2) (form_ev B hB (by omega)) ?_
      rw [List.length_map]
      exact and_l1 B F (formF B) F[j] j _ (by omega) (formF B).length 0 out (by omega) (by omega) (by rw [List.drop_zero]; exact ih)

theorem and_ev (A B : List Sp) (hA : ∀ s ∈ A, okS s) (hB : ∀ s ∈ B, okS s) (hAl : A.length ≤ 1000000) (hBl : B.length ≤ 1000000) : Ev (fun k => spans_And.f k (A.map mk) (B.map mk)) ((andF A B).map mk) := by
  unfold spans_And.f andF
  refine Ev.bind (f := fun k t409 => spans_And.l0 k (B.map mk) ([] : List S31) t409 (t409.length : Int) 0) (form_ev A hA (by omega)) ?_
  rw [List.length_map]
  have hf := form_len A
  have hg := form_len B
  have := and_l0 B (formF A) hB hBl (form_okS hA) (by omega) (formF A).length 0 [] (by omega) (by simp) (by
    have h1 : (formF A).length * (formF B).length ≤ 1000000 * 1000000 := Nat.mul_le_mul (by omega) (by omega)
    simp only [List.length_nil]; omega)
  simpa using this
theorem and_okS {A B : List Sp} (hA : ∀ s ∈ A, okS s) (hB : ∀ s ∈ B, okS s) : ∀ s ∈ andF A B, okS s := form_okS (meets_okS (form_okS hA) (form_okS hB))
theorem and_len (A B : List Sp) : (andF A B).length ≤ A.length * B.length := by
  unfold andF
  have h1 := form_len (meets (formF A) (formF B))
  have h2 := meets_len (formF A) (formF B)
  have h3 : (formF A).length * (formF B).length ≤ A.length * B.length := Nat.mul_le_mul (form_len A) (form_len B)
  omega

/-! ### Not in a set -/
theorem not_loop (m : Int) (hm0 : 0 ≤ m) (hm : m ≤ 4294967295) (F : List Sp) (hF : ∀ s ∈ F, okS s) (hn : F.length ≤ 1000000) : ∀ (d i : Nat) (r : List Sp × Int), i + d = F.length → 0 ≤ r.2 → r.2 ≤ 4294967296 → r.1.length + d ≤ 10000000 →
    Ev (fun k => spans_Not.l0 k m (r.1.map mk) r.2 (F.map mk) (F.length : Int) (i : Int)) ((notEnd m ((F.drop i).foldl (notStep m) r)).map mk)
  | 0, i, r, h, h0, h1, hl => by
    rw [List.drop_of_length_le (by omega), List.foldl_nil]
    have hw : IntKind.u64.wrap m = m := by simp [IntKind.wrap, IntKind.bits, IntKind.signed]; omega
    unfold notEnd
    by_cases hc : r.2 ≤ m
    · rw [if_pos hc]
      refine Ev.step (f := fun k => some ((r.1 ++ [(r.2, m)]).map mk)) (fun k => ?_) (Ev.now _)
      simp only [spans_Not.l0]
      rw [if_neg (by omega), hw, if_pos hc, if_pos (by rw [List.length_map]; omega), show r.2 % 4294967296 = r.2 by omega, List.map_append]
      rfl
    · rw [if_neg hc]
      refine Ev.step (f := fun k => some (r.1.map mk)) (fun k => ?_) (Ev.now _)
      simp only [spans_Not.l0]
      rw [if_neg (by omega), hw, if_neg hc]
  | d + 1, i, r, h, h0, h1, hl => by
    have hi : i < F.length := by omega
    rw [List.drop_eq_getElem_cons hi, List.foldl_cons]
    obtain ⟨q0, q1, q2, q3⟩ := hF F[i] (List.getElem_mem hi)
    have hw : IntKind.u64.wrap m = m := by simp [IntKind.wrap, IntKind.bits, IntKind.signed]; omega
    have hw0 : IntKind.u64.wrap (mk F[i]).f0 = F[i].1 := by show IntKind.u64.wrap F[i].1 = F[i].1; simp [IntKind.wrap, IntKind.bits, IntKind.signed]; omega
    have hw1 : IntKind.u64.wrap ((IntKind.u64.wrap (mk F[i]).f1) + 1) = F[i].2 + 1 := by
      show IntKind.u64.wrap ((IntKind.u64.wrap F[i].2) + 1) = F[i].2 + 1
      simp [IntKind.wrap, IntKind.bits, IntKind.signed]; omega
    have hns : (notStep m r F[i]).2 = F[i].2 + 1 := rfl
    have hnl : (notStep m r F[i]).1.length ≤ r.1.length + 1 := by unfold notStep; dsimp only; split <;> simp
    have ih := not_loop m hm0 hm F hF hn d (i + 1) (notStep m r F[i]) (by omega) (by omega) (by omega) (by omega)
    refine Ev.step (f := fun k => spans_Not.l0 k m ((notStep m r F[i]).1.map mk) (notStep m r F[i]).2 (F.map mk) (F.length : Int) ((i + 1 : Nat) : Int)) (fun k => ?_) ih
    simp only [spans_Not.l0]
    rw [if_pos (by omega), if_pos (by omega), if_pos (by rw [List.length_map]; omega), rdmk F i hi, hw0, hw1, hw, wr1 i F.length hi (by omega)]
    unfold notStep
    by_cases c1 : F[i].1 > r.2
    · by_cases c2 : r.2 ≤ m
      · rw [if_pos c1, if_pos c2, if_pos (by rw [List.length_map]; omega)]
        simp only [if_pos (And.intro c1 c2)]
        rw [show r.2 % 4294967296 = r.2 by omega, mn_min, show ((mk F[i]).f0 - 1) % 4294967296 = F[i].1 - 1 by show (F[i].1 - 1) % 4294967296 = F[i].1 - 1; omega, List.map_append]
        rfl
      · rw [if_pos c1, if_neg c2]
        simp only [if_neg (fun h : F[i].1 > r.2 ∧ r.2 ≤ m => c2 h.2)]
    · rw [if_neg c1]
      simp only [if_neg (fun h : F[i].1 > r.2 ∧ r.2 ≤ m => c1 h.1)]

theorem not_ev (A : List Sp) (m : Int) (hm0 : 0 ≤ m) (hm : m ≤ 4294967295) (hA : ∀ s ∈ A, okS s) (hAl : A.length ≤ 1000000) : Ev (fun k => spans_Not.f k (A.map mk) m) ((notF A m).map mk) := by
  unfold spans_Not.f notF
  refine Ev.bind (f := fun k t426 => spans_Not.l0 k m ([] : List S31) 0 t426 (t426.length : Int) 0) (form_ev A hA (by omega)) ?_
  rw [List.length_map]
  have hf := form_len A
  have := not_loop m hm0 hm (formF A) (form_okS hA) (by omega) (formF A).length 0 ([], 0) (by omega) (by simp) (by simp) (by simp; omega)
  simpa using this

theorem not_fold_len (m : Int) : ∀ (F : List Sp) (r : List Sp × Int), (F.foldl (notStep m) r).1.length ≤ r.1.length + F.length
  | [], r => by simp
  | s :: F, r => by
    have h1 := not_fold_len m F (notStep m r s)
    have h2 : (notStep m r s).1.length ≤ r.1.length + 1 := by unfold notStep; dsimp only; split <;> simp
    simp only [List.foldl_cons, List.length_cons]
    omega
theorem not_len (A : List Sp) (m : Int) : (notF A m).length ≤ A.length + 1 := by
  unfold notF notEnd
  have h1 := not_fold_len m (formF A) ([], 0)
  have h2 := form_len A
  simp only [List.length_nil] at h1
  split
  · simp; omega
  · omega
theorem nonneg_okS {A : List Sp} (hA : ∀ s ∈ A, okS s) : Nonneg A := fun s hs => (hA s hs).1
theorem not_okS {A : List Sp} {m : Int} (hm : m ≤ 4294967295) (hA : ∀ s ∈ A, okS s) : ∀ s ∈ notF A m, okS s := by
  obtain ⟨h1, h2⟩ := not_ok A m (nonneg_okS hA)
  intro s hs
  have hs2 := h1.1 s hs
  have q1 := (h2 s.1).1 ⟨s, hs, by omega, hs2⟩
  have q2 := (h2 s.2).1 ⟨s, hs, hs2, by omega⟩
  unfold okS
  omega
theorem less_ev (A B : List Sp) (hA : ∀ s ∈ A, okS s) (hB : ∀ s ∈ B, okS s) (hAl : A.length ≤ 1000000) (hBl : B.length ≤ 999999) : Ev (fun k => spans_Less.f k (A.map mk) (B.map mk)) ((lessF A B).map mk) := by
  unfold spans_Less.f lessF
  refine Ev.bind (f := fun k t437 => (spans_And.f k (A.map mk) t437).bind fun t440 => (some t440)) (not_ev B 4294967295 (by omega) (by omega) hB (by omega)) ?_
  have h1 := not_len B 4294967295
  exact Ev.bind (f := fun _ t => some t) (and_ev A _ hA (not_okS (by omega) hB) hAl (by omega)) (Ev.now _)
theorem less_ok (A B : List Sp) (hA : ∀ s ∈ A, okS s) (hB : ∀ s ∈ B, okS s) (x : Int) : Mem (lessF A B) x ↔ Mem A x ∧ ¬ Mem B x := by
  unfold lessF
  rw [(and_ok _ _).2, (not_ok B 4294967295 (nonneg_okS hB)).2]
  constructor
  · rintro ⟨h1, _, _, h2⟩; exact ⟨h1, h2⟩
  · rintro ⟨h1, h2⟩
    obtain ⟨s, hs, h3, h4⟩ := h1
    have := hA s hs
    unfold okS at this
    exact ⟨⟨s, hs, h3, h4⟩, by omega, by omega, h2⟩

/-! ### In either -/
theorem or_ev (A B : List Sp) (hA : ∀ s ∈ A, okS s) (hB : ∀ s ∈ B, okS s) (hAl : A.length ≤ 1000000) (hBl : B.length ≤ 1000000) : Ev (fun k => spans_Or.f k (A.map mk) (B.map mk)) ((orF A B).map mk) := by
  unfold spans_Or.f orF
  refine Ev.bind (f := fun k t => spans_Form.f k t) (a := (A ++ B).map mk) ?_ (form_ev (A ++ B) (fun s hs => (List.mem_append.1 hs).elim (hA s) (hB s)) (by rw [List.length_append]; omega))
  have r0 : rd_L12 [A.map mk, B.map mk] 0 = A.map mk := rfl
  have r1 : rd_L12 [A.map mk, B.map mk] 1 = B.map mk := rfl
  have w1 : wrap64 (0 + 1) = 1 := by kernel_rfl
  have w2 : wrap64 (1 + 1) = 2 := by kernel_rfl
  have wa : wrap64 (0 + ((A.map mk).length : Int)) = (A.length : Int) := by rw [List.length_map]; unfold wrap64; omega
  have wb : wrap64 ((A.length : Int) + ((B.map mk).length : Int)) = ((A.length + B.length : Nat) : Int) := by rw [List.length_map]; unfold wrap64; omega
  have h4 : Ev (fun k => slices_Concat_api_Span_api_Span.l1 k ((A ++ B).map mk) [A.map mk, B.map mk] 2 2) ((A ++ B).map mk) :=
    Ev.step (f := fun _ => some ((A ++ B).map mk)) (fun k => by simp only [slices_Concat_api_Span_api_Span.l1]; rw [if_neg (by omega)]) (Ev.now _)
  have h3 : Ev (fun k => slices_Concat_api_Span_api_Span.l1 k (A.map mk) [A.map mk, B.map mk] 2 1) ((A ++ B).map mk) := by
    refine Ev.step (fun k => ?_) h4
    simp only [slices_Concat_api_Span_api_Span.l1]
    rw [if_pos (by omega), if_pos (by omega), if_pos (by simp), r1, if_pos (by rw [List.length_map, List.length_map]; omega), w2, ← List.map_append]
  have h2 : Ev (fun k => slices_Concat_api_Span_api_Span.l1 k [] [A.map mk, B.map mk] 2 0) ((A ++ B).map mk) := by
    refine Ev.step (fun k => ?_) h3
    simp only [slices_Concat_api_Span_api_Span.l1]
    rw [if_pos (by omega), if_pos (by omega), if_pos (by simp), r0, if_pos (by rw [List.length_map]; simp; omega), w1, List.nil_append]
  have g2 : Ev (fun k => slices_Concat_api_Span_api_Span.l0 k [A.map mk, B.map mk] ((A.length + B.length : Nat) : Int) [A.map mk, B.map mk] 2 2) ((A ++ B).map mk) := by
    refine Ev.step (fun k => ?_) h2
    simp only [slices_Concat_api_Span_api_Span.l0]
    rw [if_neg (by omega)]
    unfold slices_Grow_api_Span_api_Span.f
    rw [if_pos (by omega)]
    rfl
  have g1 : Ev (fun k => slices_Concat_api_Span_api_Span.l0 k [A.map mk, B.map mk] (A.length : Int) [A.map mk, B.map mk] 2 1) ((A ++ B).map mk) := by
    refine Ev.step (fun k => ?_) g2
    simp only [slices_Concat_api_Span_api_Span.l0]
    rw [if_pos (by omega), if_pos (by omega), if_pos (by simp), r1, wb, if_neg (by omega), w2]
  unfold slices_Concat_api_Span_api_Span.f
  refine Ev.step (fun k => ?_) g1
  simp only [slices_Concat_api_Span_api_Span.l0, List.length_cons, List.length_nil]
  rw [if_pos (by omega), if_pos (by omega), if_pos (by omega), r0, wa, if_neg (by omega), w1]
  rfl
theorem or_ok (A B : List Sp) (x : Int) : Mem (orF A B) x ↔ Mem A x ∨ Mem B x := by unfold orF; rw [(form_ok _).2, mem_append]
theorem or_okS {A B : List Sp} (hA : ∀ s ∈ A, okS s) (hB : ∀ s ∈ B, okS s) : ∀ s ∈ orF A B, okS s := form_okS (fun s hs => (List.mem_append.1 hs).elim (hA s) (hB s))
theorem or_len (A B : List Sp) : (orF A B).length ≤ A.length + B.length := by
  have := form_len (A ++ B); rw [List.length_append] at this; exact this

end Go.Proofs.Ytmoagoopdfpcnaa.Q

namespace Go.Proofs.Ytmoagoopdfpcnaa.Q
open Go.RowKit Go.Proofs.YtmoagoopdfpcnaaW.PrintWords Go.Proofs.YtmoagoopdfpcnaaW.PrintLast Go.Proofs.YtmoagoopdfpcnaaW.PrintMore Go.Proofs.Ytmoagoopdfpcnaa.SpMath
set_option linter.unusedVariables false


/-! ### How many -/
def cnt : List Sp → Int
  | [] => 0
  | s :: L => s.2 - s.1 + 1 + cnt L
theorem cnt_append : ∀ (A B : List Sp), cnt (A ++ B) = cnt A + cnt B
  | [], B => by simp [cnt]
  | s :: A, B => by simp only [List.cons_append, cnt]; rw [cnt_append A B]; omega
theorem cnt_nonneg : ∀ (A : List Sp), (∀ s ∈ A, s.1 ≤ s.2) → 0 ≤ cnt A
  | [], _ => by simp [cnt]
  | s :: A, h => by
    have h1 := cnt_nonneg A (fun t ht => h t (List.mem_cons_of_mem _ ht))
    have h2 := h s List.mem_cons_self
    simp only [cnt]; omega
theorem not_cnt_loop (m : Int) : ∀ (A : List Sp) (r : List Sp × Int), InForm A → (∀ s ∈ A, r.2 ≤ s.1 ∧ s.2 ≤ m) → r.2 ≤ m + 1 → cnt (notEnd m (A.foldl (notStep m) r)) + cnt A = cnt r.1 + (m + 1 - r.2)
  | [], r, _, _, h => by
    unfold notEnd
    by_cases hc : r.2 ≤ m
    · rw [List.foldl_nil, if_pos hc, cnt_append]; simp only [cnt]; omega
    · rw [List.foldl_nil, if_neg hc]; simp only [cnt]; omega
  | s :: A, r, hi, hr, h => by
    obtain ⟨i1, i2, i3⟩ := inForm_cons.1 hi
    obtain ⟨h1, h2⟩ := hr s List.mem_cons_self
    have ih := not_cnt_loop m A (notStep m r s) i3 (fun t ht => ⟨by have := i2 t ht; show s.2 + 1 ≤ t.1; omega, (hr t (List.mem_cons_of_mem _ ht)).2⟩) (by show s.2 + 1 ≤ m + 1; omega)
    simp only [List.foldl_cons, cnt]
    have e : cnt (notStep m r s).1 + (m + 1 - (s.2 + 1)) + (s.2 - s.1 + 1) = cnt r.1 + (m + 1 - r.2) := by
      unfold notStep
      by_cases hc : s.1 > r.2 ∧ r.2 ≤ m
      · simp only [if_pos hc, cnt_append, cnt]; omega
      · simp only [if_neg hc]; omega
    have e2 : (notStep m r s).2 = s.2 + 1 := rfl
    rw [e2] at ih
    omega
theorem not_cnt {A : List Sp} {m : Int} (hm : 0 ≤ m) (hA : InForm A) (hb : ∀ s ∈ A, 0 ≤ s.1 ∧ s.2 ≤ m) : cnt (notF A m) + cnt A = m + 1 := by
  unfold notF
  rw [form_of_form hA]
  have := not_cnt_loop m A ([], 0) hA hb (by show 0 ≤ m + 1; omega)
  simpa [cnt] using this
theorem cnt_le {A : List Sp} (hA : InForm A) (ho : ∀ s ∈ A, okS s) : cnt A ≤ 4294967296 := by
  have h1 := not_cnt (m := 4294967295) (by omega) hA (fun s hs => ⟨(ho s hs).1, (ho s hs).2.2.2⟩)
  have h2 := cnt_nonneg (notF A 4294967295) (not_ok A 4294967295 (nonneg_okS ho)).1.1
  omega

theorem count_loop (F : List Sp) (hF : ∀ s ∈ F, okS s ∧ s.1 ≤ s.2) (hn : F.length ≤ 1000000000000) : ∀ (d i : Nat) (acc : Int), i + d = F.length → 0 ≤ acc → acc + cnt (F.drop i) ≤ 4294967296 →
    Ev (fun k => spans_Count.l0 k acc (F.map mk) (F.length : Int) (i : Int)) (acc + cnt (F.drop i))
  | 0, i, acc, h, h0, h1 => by
    rw [List.drop_of_length_le (by omega)]
    exact Ev.step (f := fun k => some acc) (fun k => by simp only [spans_Count.l0]; rw [if_neg (by omega)]) (Ev.eq (Ev.now _) (by simp [cnt]))
  | d + 1, i, acc, h, h0, h1 => by
    have hi : i < F.length := by omega
    have hd : cnt (F.drop i) = F[i].2 - F[i].1 + 1 + cnt (F.drop (i + 1)) := by rw [List.drop_eq_getElem_cons hi]; rfl
    obtain ⟨⟨q0, q1, q2, q3⟩, q4⟩ := hF F[i] (List.getElem_mem hi)
    have hz := cnt_nonneg (F.drop (i + 1)) (fun s hs => (hF s (List.mem_of_mem_drop hs)).2)
    rw [hd] at h1
    have ih := count_loop F hF hn d (i + 1) (acc + (F[i].2 - F[i].1 + 1)) (by omega) (by omega) (by omega)
    refine Ev.step (f := fun k => spans_Count.l0 k (acc + (F[i].2 - F[i].1 + 1)) (F.map mk) (F.length : Int) ((i + 1 : Nat) : Int)) (fun k => ?_) (Ev.eq ih (by rw [hd]; omega))
    simp only [spans_Count.l0]
    rw [if_pos (by omega), if_pos (by omega), if_pos (by rw [List.length_map]; omega), rdmk F i hi, wr1 i F.length hi (by omega)]
    have e : IntKind.u64.wrap (acc + ((((mk F[i]).f1 - (mk F[i]).f0) % 4294967296) + 1)) = acc + (F[i].2 - F[i].1 + 1) := by
      show IntKind.u64.wrap (acc + (((F[i].2 - F[i].1) % 4294967296) + 1)) = acc + (F[i].2 - F[i].1 + 1)
      simp [IntKind.wrap, IntKind.bits, IntKind.signed]; omega
    rw [e]
theorem count_ev (A : List Sp) (hA : ∀ s ∈ A, okS s) (hn : A.length ≤ 1000000000000) : Ev (fun k => spans_Count.f k (A.map mk)) (cnt (formF A)) := by
  unfold spans_Count.f
  refine Ev.bind (f := fun k t293 => spans_Count.l0 k 0 t293 (t293.length : Int) 0) (form_ev A hA hn) ?_
  rw [List.length_map]
  have h1 := form_len A
  have h2 := form_okS hA
  have h3 := (form_ok A).1
  have := count_loop (formF A) (fun s hs => ⟨h2 s hs, h3.1 s hs⟩) (by omega) (formF A).length 0 0 (by omega) (by omega) (by rw [List.drop_zero]; have := cnt_le h3 h2; omega)
  simpa using this

/-! ### The same -/
theorem mk_inj {s t : Sp} : mk s = mk t ↔ s = t := by
  unfold mk
  cases s; cases t
  simp
theorem equal_loop (A B : List Sp) (hl : A.length = B.length) (hn : A.length ≤ 1000000000000) : ∀ (d i : Nat), i + d = A.length → Ev (fun k => slices_Equal_api_Span_api_Span.l0 k (A.map mk) (B.map mk) (A.length : Int) (i : Int)) (decide (A.drop i = B.drop i))
  | 0, i, h => by
    rw [List.drop_of_length_le (by omega), List.drop_of_length_le (by omega)]
    exact Ev.step (f := fun k => some true) (fun k => by simp only [slices_Equal_api_Span_api_Span.l0]; rw [if_neg (by omega)]) (Ev.eq (Ev.now _) (by simp))
  | d + 1, i, h => by
    have hi : i < A.length := by omega
    have hj : i < B.length := by omega
    have ih := equal_loop A B hl hn d (i + 1) (by omega)
    have hd : (A.drop i = B.drop i) ↔ (A[i] = B[i] ∧ A.drop (i + 1) = B.drop (i + 1)) := by
      rw [List.drop_eq_getElem_cons hi, List.drop_eq_getElem_cons hj, List.cons.injEq]
    have hc : ((!(((mk A[i]).f0) == ((mk B[i]).f0)) || (!(((mk A[i]).f1) == ((mk B[i]).f1)))) = true) ↔ ¬ A[i] = B[i] := by
      show ((!((A[i].1) == (B[i].1)) || (!((A[i].2) == (B[i].2)))) = true) ↔ _
      rw [Prod.ext_iff]
      by_cases h1 : A[i].1 = B[i].1 <;> by_cases h2 : A[i].2 = B[i].2 <;> simp [h1, h2]
    by_cases he : A[i] = B[i]
    · refine Ev.step (f := fun k => slices_Equal_api_Span_api_Span.l0 k (A.map mk) (B.map mk) (A.length : Int) ((i + 1 : Nat) : Int)) (fun k => ?_) (Ev.eq ih (decide_eq_decide.2 (by rw [hd]; simp [he])))
      simp only [slices_Equal_api_Span_api_Span.l0]
      rw [if_pos (by omega), if_pos (by omega), if_pos (by rw [List.length_map]; omega), if_pos (by rw [List.length_map]; omega), rdmk A i hi, rdmk B i hj, if_neg (fun h => hc.1 h he), wr1 i A.length hi (by omega)]
    · refine Ev.step (f := fun k => some false) (fun k => ?_) (Ev.eq (Ev.now _) (decide_eq_false (fun h => he (hd.1 h).1)).symm)
      simp only [slices_Equal_api_Span_api_Span.l0]
      rw [if_pos (by omega), if_pos (by omega), if_pos (by rw [List.length_map]; omega), if_pos (by rw [List.length_map]; omega), rdmk A i hi, rdmk B i hj, if_pos (hc.2 he)]
theorem equal_ev (A B : List Sp) (hn : A.length ≤ 1000000000000) : Ev (fun k => slices_Equal_api_Span_api_Span.f k (A.map mk) (B.map mk)) (decide (A = B)) := by
  unfold slices_Equal_api_Span_api_Span.f
  rw [List.length_map, List.length_map]
  by_cases hl : A.length = B.length
  · simp only [if_pos (show (A.length : Int) = (B.length : Int) by omega)]
    exact Ev.eq (equal_loop A B hl hn A.length 0 (by omega)) (by rw [List.drop_zero, List.drop_zero])
  · simp only [if_neg (show ¬ (A.length : Int) = (B.length : Int) by omega)]
    exact Ev.eq (Ev.now _) (decide_eq_false (fun h => hl (by rw [h]))).symm
theorem same_ev (A B : List Sp) (hA : ∀ s ∈ A, okS s) (hB : ∀ s ∈ B, okS s) (hAl : A.length ≤ 1000000000000) (hBl : B.length ≤ 1000000000000) : Ev (fun k => spans_Same.f k (A.map mk) (B.map mk)) (decide (formF A = formF B)) := by
  unfold spans_Same.f
  refine Ev.bind (f := fun k t372 => (spans_Form.f k (B.map mk)).bind fun t375 => ((slices_Equal_api_Span_api_Span.f k t372 t375).bind fun t378 => (some t378))) (form_ev A hA hAl) ?_
  refine Ev.bind (f := fun k t375 => (slices_Equal_api_Span_api_Span.f k ((formF A).map mk) t375).bind fun t378 => (some t378)) (form_ev B hB hBl) ?_
  have := form_len A
  exact Ev.bind (f := fun _ t => some t) (equal_ev _ _ (by omega)) (Ev.now _)

/-! ### Awake -/
theorem inForm_one {s : Sp} (h : s.1 ≤ s.2) : InForm [s] := ⟨by simpa using h, List.pairwise_singleton _ _⟩
theorem form_awake : formF [(4, 6), (1, 3)] = [(1, 6)] := by
  refine form_of (inForm_one (by decide)) (fun x => ?_)
  simp only [mem_cons, mem_nil, or_false]
  omega
theorem form_16 : formF [(1, 6)] = [(1, 6)] := form_of_form (inForm_one (by decide))
theorem awake_ev : Ev (fun k => waymarklaw02_awake.f k) true := by
  unfold waymarklaw02_awake.f
  have h1 : Ev (fun k => spans_Form.f k (([(⟨4, 6⟩ : S31), (⟨1, 3⟩ : S31)] : List (S31)))) [(⟨1, 6⟩ : S31)] := by
    have := form_ev [(4, 6), (1, 3)] (by intro s hs; simp at hs; rcases hs with rfl | rfl <;> (unfold okS; decide)) (by simp)
    rw [form_awake] at this
    exact this
  have h2 : Ev (fun k => spans_Count.f k [(⟨1, 6⟩ : S31)]) 6 := by
    have := count_ev [(1, 6)] (by intro s hs; simp at hs; subst hs; (unfold okS; decide)) (by simp)
    rw [form_16] at this
    exact this
  refine Ev.bind (f := fun k t301 => if (t301.length : Int) = 1 then (if 0 < (t301.length : Int) then (if (((rd_T31 t301 0).f0) == 1 && (((rd_T31 t301 0).f1) == 6)) = true then ((spans_Count.f k t301).bind fun t305 => (if t305 = 6 then ((spans_Has.f t301 5).bind fun t306 => (if t306 = true then ((spans_Has.f t301 7).bind fun t307 => (some (!t307))) else (some false))) else (some false))) else (some false)) else (none)) else (some false)) h1 ?_
  refine Ev.congr (f := fun k => (spans_Count.f k [(⟨1, 6⟩ : S31)]).bind fun t305 => (if t305 = 6 then ((spans_Has.f [(⟨1, 6⟩ : S31)] 5).bind fun t306 => (if t306 = true then ((spans_Has.f [(⟨1, 6⟩ : S31)] 7).bind fun t307 => (some (!t307))) else (some false))) else (some false))) (fun k => by
    rw [if_pos (by rfl), if_pos (by simp), if_pos (by rfl)]) ?_
  exact Ev.bind (f := fun _ t305 => (if t305 = 6 then ((spans_Has.f [(⟨1, 6⟩ : S31)] 5).bind fun t306 => (if t306 = true then ((spans_Has.f [(⟨1, 6⟩ : S31)] 7).bind fun t307 => (some (!t307))) else (some false))) else (some false))) h2 (Ev.all fun k => by rfl)

end Go.Proofs.Ytmoagoopdfpcnaa.Q
