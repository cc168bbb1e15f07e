/- SpansCut: the law answers true: plain lists and numbers. -/
import Derived.Test.YtmoagoopdfpcnaaEPCutA
import Derived.Test.YtmoagoopdfpcnaaQx39
import Derived.Test.YtmoagoopdfpcnaaQx40
namespace Go.Proofs.Ytmoagoopdfpcnaa.Q
open Go.RowKit Go.Proofs.YtmoagoopdfpcnaaW.PrintWords Go.Proofs.YtmoagoopdfpcnaaW.PrintLast Go.Proofs.YtmoagoopdfpcnaaW.PrintMore Go.Proofs.Ytmoagoopdfpcnaa.SpMath
set_option linter.unusedVariables false
set_option linter.unusedSimpArgs false

/-! ### The pieces, one by one -/
def segP (m : Int) : Int → List Int → List S31
  | c, [] => [⟨c, m⟩]
  | c, x :: r => ⟨c, x - 1⟩ :: segP m x r
theorem fold_segP (m : Int) : ∀ (st : List Int) (out : List S31) (c : Int), st.foldl (stepP m) (out ++ [⟨c, m⟩]) = out ++ segP m c st
  | [], out, c => rfl
  | x :: st, out, c => by
    have e : stepP m (out ++ [⟨c, m⟩]) x = (out ++ [⟨c, x - 1⟩]) ++ [⟨x, m⟩] := by
      unfold stepP
      have h1 : (out ++ [(⟨c, m⟩ : S31)]).length - 1 = out.length := by simp
      rw [h1, List.getD_eq_getElem?_getD, List.getElem?_append_right (Nat.le_refl _), Nat.sub_self, List.set_append_right _ _ (Nat.le_refl _), Nat.sub_self]
      rfl
    rw [List.foldl_cons, e, fold_segP m st]
    simp [segP]
theorem piecesP_seg (m : Int) (st : List Int) : piecesP m st = segP m 0 st := fold_segP m st [] 0
theorem segP_len (m : Int) : ∀ (st : List Int) (c : Int), (segP m c st).length = st.length + 1
  | [], c => rfl
  | x :: st, c => by rw [segP, List.length_cons, segP_len m st, List.length_cons]
theorem segP_at (m : Int) : ∀ (st : List Int) (c : Int) (i : Nat) (h : i < (segP m c st).length), (segP m c st)[i] = ⟨(c :: st).getD i 0, (st.map (· - 1) ++ [m]).getD i 0⟩
  | [], c, i, h => by
    have : i = 0 := by rw [segP_len] at h; simpa using h
    subst this; rfl
  | x :: st, c, 0, h => rfl
  | x :: st, c, i + 1, h => by
    simp only [segP, List.getElem_cons_succ]
    rw [segP_at m st x i]
    simp

set_option maxHeartbeats 4000000 in
theorem cutE_l2 (m : Int) (SS : List (List Sp)) (hSl : SS.length ≤ 100) (hS : ∀ T ∈ SS, T.length ≤ 1000000) (x2 : Int) (L : List S31) (n : Int) (i : Nat) (hi : i < L.length) (y : Int) (hlo : 0 ≤ L[i].f0 ∧ L[i].f0 ≤ 4294967295)
    (hsame : ∀ T ∈ SS, memB T L[i].f0 = memB T L[i].f1 ∧ memB T L[i].f0 = memB T y) (hl1 : Ev (fun k => waymarklaw02_SpansCut_E.l1 k m (SS.map (·.map mk)) x2 L n ((i + 1 : Nat) : Int)) true) (hLl : L.length ≤ 1000000)
    (h0 : 0 < i → 0 < L[i].f0) : ∀ (d j : Nat) (c : Bool), j + d = SS.length → (c = false → 0 < i) → (c || (SS.drop j).any (chgX L[i].f0)) = true →
    Ev (fun k => waymarklaw02_SpansCut_E.l2 k m (SS.map (·.map mk)) x2 L n (i : Int) y c (j : Int)) true
  | 0, j, c, hj, hc0, hc => by
    rw [List.drop_of_length_le (by omega), List.any_nil, Bool.or_false] at hc
    subst hc
    refine Ev.step (f := fun k => waymarklaw02_SpansCut_E.l1 k m (SS.map (·.map mk)) x2 L n ((i + 1 : Nat) : Int)) (fun k => ?_) hl1
    simp only [waymarklaw02_SpansCut_E.l2]
    rw [if_neg (by rw [List.length_map]; omega), if_pos trivial, wr1n i L.length hi (by omega)]
  | d + 1, j, c, hj, hc0, hc => by
    have hjl : j < SS.length := by omega
    have hT := List.getElem_mem hjl
    have hlen := hS SS[j] hT
    have e1 := has_ev SS[j] L[i].f0 (by omega)
    have e2 := has_ev SS[j] L[i].f1 (by omega)
    have e3 := has_ev SS[j] y (by omega)
    have e4 := has_ev SS[j] (L[i].f0 - 1) (by omega)
    obtain ⟨s1, s2⟩ := hsame SS[j] hT
    have hrd : rd_T31 L (i : Int) = L[i] := by unfold rd_T31; rw [Int.toNat_natCast, List.getD_eq_getElem?_getD, List.getElem?_eq_getElem hi]; rfl
    have hd : SS.drop j = SS[j] :: SS.drop (j + 1) := List.drop_eq_getElem_cons hjl
    rw [hd, List.any_cons] at hc
    refine Ev.step (f := fun k => (waymarkref02_Has.f k (SS[j].map mk) L[i].f0).bind fun t648 => ((waymarkref02_Has.f k (SS[j].map mk) L[i].f1).bind fun t651 => (if (t648 != t651) = true then (none) else ((waymarkref02_Has.f k (SS[j].map mk) y).bind fun t653 => (if (t648 != t653) = true then (none) else (if c = true then (waymarklaw02_SpansCut_E.l2 k m (SS.map (·.map mk)) x2 L n (i : Int) y true ((j + 1 : Nat) : Int)) else ((waymarkref02_Has.f k (SS[j].map mk) ((L[i].f0 - 1) % 4294967296)).bind fun t656 => (waymarklaw02_SpansCut_E.l2 k m (SS.map (·.map mk)) x2 L n (i : Int) y (t648 != t656) ((j + 1 : Nat) : Int))))))))) (fun k => ?_) ?_
    · simp only [waymarklaw02_SpansCut_E.l2]
      rw [if_pos (by rw [List.length_map]; omega), if_pos (by omega), if_pos (by omega), if_pos (by omega), rd_sets SS j hjl, hrd, wr1n j SS.length hjl (by omega)]
    · refine Ev.bind e1 (Ev.bind e2 ?_)
      simp only [← s1, bne_self_eq_false, Bool.false_eq_true, if_false]
      refine Ev.bind e3 ?_
      simp only [← s2, bne_self_eq_false, Bool.false_eq_true, if_false]
      cases c with
      | true =>
        simp only [if_true]
        exact cutE_l2 m SS hSl hS x2 L n i hi y hlo hsame hl1 hLl h0 d (j + 1) true (by omega) (by simp) (by simp)
      | false =>
        simp only [Bool.false_eq_true, if_false]
        have hi0 := hc0 rfl
        have h00 := h0 hi0
        rw [show (L[i].f0 - 1) % 4294967296 = L[i].f0 - 1 by omega]
        refine Ev.bind e4 ?_
        rw [Bool.false_or] at hc
        exact cutE_l2 m SS hSl hS x2 L n i hi y hlo hsame hl1 hLl h0 d (j + 1) _ (by omega) (fun _ => hi0) hc
set_option maxHeartbeats 4000000 in
theorem cutE_l1 (m : Int) (hm0 : 0 ≤ m) (hm : m ≤ 4294967295) (SS : List (List Sp)) (hSl : SS.length ≤ 100) (hS : ∀ T ∈ SS, T.length ≤ 1000000) (x2 : Int) (hx0 : 0 ≤ x2) (hx1 : x2 ≤ 4294967295) (st : List Int) (hst : st.length ≤ 100000) (hp : st.Pairwise (· < ·)) (hr : ∀ y ∈ st, 0 < y ∧ y ≤ m)
    (hmem : ∀ y, y ∈ st ↔ (0 < y ∧ y ≤ m) ∧ chgB SS y = true) : ∀ (d i : Nat), i + d = (segP m 0 st).length →
    Ev (fun k => waymarklaw02_SpansCut_E.l1 k m (SS.map (·.map mk)) x2 (segP m 0 st) (((0 :: st) ++ [m + 1]).getD i 0) (i : Int)) true
  | 0, i, hi => by
    rw [segP_len] at hi
    refine Ev.step (f := fun k => some true) (fun k => ?_) (Ev.now _)
    have hlen := segP_len m st 0
    simp only [waymarklaw02_SpansCut_E.l1]
    rw [if_neg (by omega), show ((0 :: st) ++ [m + 1]).getD i 0 = m + 1 by
      rw [List.getD_eq_getElem?_getD, List.getElem?_append_right (by rw [List.length_cons]; omega), show i - (0 :: st).length = 0 by rw [List.length_cons]; omega]; rfl]
    have e : IntKind.u64.wrap (IntKind.u64.wrap m + 1) = m + 1 := by simp [IntKind.wrap, IntKind.bits, IntKind.signed]; omega
    rw [e]; simp
  | d + 1, i, hi => by
    have hlen := segP_len m st 0
    have hil : i < (segP m 0 st).length := by omega
    have ih := cutE_l1 m hm0 hm SS hSl hS x2 hx0 hx1 st hst hp hr hmem d (i + 1) (by omega)
    have hat := segP_at m st 0 i hil
    have hist : i ≤ st.length := by omega
    -- the bounds of the piece
    obtain ⟨lo, hlo⟩ : ∃ lo, lo = (0 :: st).getD i 0 := ⟨_, rfl⟩
    obtain ⟨hi', hhi⟩ : ∃ h, h = (st.map (· - 1) ++ [m]).getD i 0 := ⟨_, rfl⟩
    have hf0 : (segP m 0 st)[i].f0 = lo := by rw [hat, hlo]
    have hf1 : (segP m 0 st)[i].f1 = hi' := by rw [hat, hhi]
    have hlo0 : (i = 0 → lo = 0) ∧ (0 < i → lo ∈ st) := by
      refine ⟨fun h => by subst h; rw [hlo]; rfl, fun h => ?_⟩
      obtain ⟨j, rfl⟩ : ∃ j, i = j + 1 := ⟨i - 1, by omega⟩
      rw [hlo, List.getD_cons_succ, List.getD_eq_getElem?_getD, List.getElem?_eq_getElem (by omega)]
      exact List.getElem_mem _
    have hlob : 0 ≤ lo ∧ lo ≤ m := by
      rcases Nat.eq_zero_or_pos i with h | h
      · have := hlo0.1 h; omega
      · have := hr lo (hlo0.2 h); omega
    have hnext : (i < st.length → ((0 :: st) ++ [m + 1]).getD (i + 1) 0 = hi' + 1 ∧ hi' + 1 ∈ st) ∧ (i = st.length → ((0 :: st) ++ [m + 1]).getD (i + 1) 0 = hi' + 1 ∧ hi' = m) := by
      refine ⟨fun h => ?_, fun h => ?_⟩
      · have e1 : hi' = st[i] - 1 := by rw [hhi, List.getD_eq_getElem?_getD, List.getElem?_append_left (by simpa using h), List.getElem?_map, List.getElem?_eq_getElem h]; rfl
        have e2 : ((0 :: st) ++ [m + 1]).getD (i + 1) 0 = st[i] := by rw [List.cons_append, List.getD_cons_succ, List.getD_eq_getElem?_getD, List.getElem?_append_left h, List.getElem?_eq_getElem h]; rfl
        rw [e2, e1, show st[i] - 1 + 1 = st[i] by omega]
        exact ⟨rfl, List.getElem_mem h⟩
      · subst h
        have e1 : hi' = m := by rw [hhi, List.getD_eq_getElem?_getD, List.getElem?_append_right (by simp)]; simp
        have e2 : ((0 :: st) ++ [m + 1]).getD (st.length + 1) 0 = m + 1 := by rw [List.cons_append, List.getD_cons_succ, List.getD_eq_getElem?_getD, List.getElem?_append_right (by simp)]; simp
        rw [e2, e1]; exact ⟨rfl, rfl⟩
    have hacc : ((0 :: st) ++ [m + 1]).getD (i + 1) 0 = hi' + 1 := by
      rcases Nat.lt_or_eq_of_le hist with h | h
      · exact (hnext.1 h).1
      · exact (hnext.2 h).1
    have hcur : ((0 :: st) ++ [m + 1]).getD i 0 = lo := by
      rw [hlo, List.getD_eq_getElem?_getD, List.getElem?_append_left (by rw [List.length_cons]; omega), ← List.getD_eq_getElem?_getD]
    -- nothing of st lies strictly inside
    have hin : ∀ y, lo < y → y ≤ hi' → y ∉ st := by
      intro y h1 h2 hy
      obtain ⟨j, hj, rfl⟩ := List.getElem_of_mem hy
      have hpp := List.pairwise_iff_getElem.1 hp
      rcases Nat.lt_or_ge j i with h | h
      · -- st[j] with j < i: at most lo
        have e : lo = st[i - 1]'(by omega) := by
          rw [hlo]
          obtain ⟨q, rfl⟩ : ∃ q, i = q + 1 := ⟨i - 1, by omega⟩
          rw [List.getD_cons_succ, List.getD_eq_getElem?_getD, List.getElem?_eq_getElem (by omega)]; rfl
        rcases Nat.lt_or_eq_of_le (show j ≤ i - 1 by omega) with h3 | h3
        · have := hpp j (i - 1) (by omega) (by omega) h3; omega
        · subst h3; omega
      · have e : hi' = st[i]'(by omega) - 1 := by
          rw [hhi, List.getD_eq_getElem?_getD, List.getElem?_append_left (by simp; omega), List.getElem?_map, List.getElem?_eq_getElem (by omega)]; rfl
        rcases Nat.lt_or_eq_of_le h with h3 | h3
        · have := hpp i j (by omega) (by omega) h3; omega
        · subst h3; omega
    have hhib : lo ≤ hi' ∧ hi' ≤ m := by
      rcases Nat.lt_or_eq_of_le hist with h | h
      · have h1 := hr _ (hnext.1 h).2
        refine ⟨?_, by omega⟩
        have e : hi' = st[i] - 1 := by rw [hhi, List.getD_eq_getElem?_getD, List.getElem?_append_left (by simpa using h), List.getElem?_map, List.getElem?_eq_getElem h]; rfl
        rcases Nat.eq_zero_or_pos i with h0 | h0
        · have := hlo0.1 h0; omega
        · have e2 : lo = st[i - 1]'(by omega) := by
            rw [hlo]
            obtain ⟨q, rfl⟩ : ∃ q, i = q + 1 := ⟨i - 1, by omega⟩
            rw [List.getD_cons_succ, List.getD_eq_getElem?_getD, List.getElem?_eq_getElem (by omega)]; rfl
          have := List.pairwise_iff_getElem.1 hp (i - 1) i (by omega) h (by omega)
          omega
      · have := (hnext.2 h).2; omega
    have hconst : ∀ T ∈ SS, ∀ y, lo ≤ y → y ≤ hi' → memB T lo = memB T y := by
      intro T hT y h1 h2
      have hC : Const m (memB T) st := fun x a b c => by
        rcases Decidable.em (memB T x = memB T (x - 1)) with h | h
        · exact h
        · exact absurd ((hmem x).2 ⟨⟨a, b⟩, List.any_eq_true.2 ⟨T, hT, by simpa using h⟩⟩) c
      have := const_run hC lo hlob.1 (y - lo).toNat (by omega) (fun z z1 z2 => hin z z1 (by omega))
      rw [show lo + ((y - lo).toNat : Int) = y by omega] at this
      exact this.symm
    rw [hacc] at ih
    rw [hcur]
    -- the number inside
    have w1 : IntKind.u64.wrap hi' = hi' := by simp [IntKind.wrap, IntKind.bits, IntKind.signed]; omega
    have w2 : IntKind.u64.wrap lo = lo := by simp [IntKind.wrap, IntKind.bits, IntKind.signed]; omega
    have w3 : IntKind.u64.wrap (hi' - lo) = hi' - lo := by simp [IntKind.wrap, IntKind.bits, IntKind.signed]; omega
    have w4 : IntKind.u64.wrap (hi' - lo + 1) = hi' - lo + 1 := by simp [IntKind.wrap, IntKind.bits, IntKind.signed]; omega
    have w5 : IntKind.u64.wrap x2 = x2 := by simp [IntKind.wrap, IntKind.bits, IntKind.signed]; omega
    have w6 : IntKind.u64.wrap (lo + hi') = lo + hi' := by simp [IntKind.wrap, IntKind.bits, IntKind.signed]; omega
    have w7 : IntKind.u64.wrap (lo + hi' - lo) = hi' := by simp [IntKind.wrap, IntKind.bits, IntKind.signed]; omega
    have w8 : IntKind.u64.wrap (hi' + 1) = hi' + 1 := by simp [IntKind.wrap, IntKind.bits, IntKind.signed]; omega
    have ht0 : 0 ≤ Int.tmod x2 (hi' - lo + 1) := Int.tmod_nonneg _ hx0
    have ht1 : Int.tmod x2 (hi' - lo + 1) < hi' - lo + 1 := Int.tmod_lt_of_pos _ (by omega)
    obtain ⟨y, hy⟩ : ∃ y, y = (lo + (Int.tmod x2 (hi' - lo + 1)) % 4294967296) % 4294967296 := ⟨_, rfl⟩
    have hyv : y = lo + Int.tmod x2 (hi' - lo + 1) := by rw [hy]; generalize Int.tmod x2 (hi' - lo + 1) = z at ht0 ht1; omega
    have hrd : rd_T31 (segP m 0 st) (i : Int) = (segP m 0 st)[i] := by unfold rd_T31; rw [Int.toNat_natCast, List.getD_eq_getElem?_getD, List.getElem?_eq_getElem hil]; rfl
    have hl2 := cutE_l2 m SS hSl hS x2 (segP m 0 st) (hi' + 1) i hil y (by rw [hf0]; omega) (fun T hT => by rw [hf0, hf1]; exact ⟨hconst T hT hi' hhib.1 (Int.le_refl _), hconst T hT y (by omega) (by omega)⟩) ih (by omega) (fun h => by rw [hf0]; exact (hr lo (hlo0.2 h)).1) SS.length 0 (decide (i = 0)) (by omega) (fun h => by simpa using Nat.pos_of_ne_zero (of_decide_eq_false h)) (by
      rw [List.drop_zero, hf0]
      rcases Nat.eq_zero_or_pos i with h | h
      · simp [h]
      · have := ((hmem lo).1 (hlo0.2 h)).2
        rw [Bool.or_eq_true]; exact Or.inr this)
    have hj3 : Ev (fun k => waymarklaw02_SpansCut_E.j3 k m (SS.map (·.map mk)) x2 (segP m 0 st) lo (i : Int) false) true := by
      refine Ev.step (f := fun k => waymarklaw02_SpansCut_E.l2 k m (SS.map (·.map mk)) x2 (segP m 0 st) (hi' + 1) (i : Int) y (decide (i = 0)) ((0 : Nat) : Int)) (fun k => ?_) hl2
      simp only [waymarklaw02_SpansCut_E.j3, Bool.false_eq_true, if_false]
      rw [if_pos (by omega), if_pos (by omega), hrd, hf0, hf1, w1, w2, w3, w4, if_neg (by omega), w5, w6, w7, w8, hy, show ((i : Int) == 0) = decide (i = 0) by cases i <;> simp <;> omega]
      rfl
    refine Ev.step (f := fun k => waymarklaw02_SpansCut_E.j3 k m (SS.map (·.map mk)) x2 (segP m 0 st) lo (i : Int) false) (fun k => ?_) hj3
    simp only [waymarklaw02_SpansCut_E.l1]
    rw [if_pos (by omega), if_pos (by omega), hrd, hf0, hf1, if_neg (by omega)]
    by_cases hi0 : i = 0
    · rw [if_neg (by omega)]
    · obtain ⟨q, rfl⟩ : ∃ q, i = q + 1 := ⟨i - 1, by omega⟩
      have hw : wrap64 (((q + 1 : Nat) : Int) - 1) = (q : Int) := by unfold wrap64; omega
      rw [if_pos (by omega), hw, if_pos (by omega), if_pos (by omega)]
      have hrq : rd_T31 (segP m 0 st) (q : Int) = (segP m 0 st)[q]'(by omega) := by unfold rd_T31; rw [Int.toNat_natCast, List.getD_eq_getElem?_getD, List.getElem?_eq_getElem (by omega)]; rfl
      have hqf : (segP m 0 st)[q].f1 = lo - 1 := by
        rw [segP_at m st 0 q (by omega), hlo, List.getD_cons_succ]
        show (st.map (· - 1) ++ [m]).getD q 0 = st.getD q 0 - 1
        rw [List.getD_eq_getElem?_getD, List.getD_eq_getElem?_getD, List.getElem?_append_left (by simp; omega), List.getElem?_map, List.getElem?_eq_getElem (by omega)]; rfl
      rw [hrq, hqf, show (lo - 1 + 1) % 4294967296 = lo by omega, bne_self_eq_false]

set_option maxHeartbeats 4000000 in
theorem cutT_l2 (m : Int) (SS : List (List Sp)) (hSl : SS.length ≤ 100) (hS : ∀ T ∈ SS, T.length ≤ 1000000) (x2 : Int) (L : List S31) (n : Int) (i : Nat) (hi : i < L.length) (y : Int) (hlo : 0 ≤ L[i].f0 ∧ L[i].f0 ≤ 4294967295)
    (hsame : ∀ T ∈ SS, memB T L[i].f0 = memB T L[i].f1 ∧ memB T L[i].f0 = memB T y) (hl1 : Ev (fun k => waymarklaw02_SpansCut_T.l1 k m (SS.map (·.map mk)) x2 L n ((i + 1 : Nat) : Int)) true) (hLl : L.length ≤ 1000000)
    (h0 : 0 < i → 0 < L[i].f0) : ∀ (d j : Nat) (c : Bool), j + d = SS.length → (c = false → 0 < i) → (c || (SS.drop j).any (chgX L[i].f0)) = true →
    Ev (fun k => waymarklaw02_SpansCut_T.l2 k m (SS.map (·.map mk)) x2 L n (i : Int) y c (j : Int)) true
  | 0, j, c, hj, hc0, hc => by
    rw [List.drop_of_length_le (by omega), List.any_nil, Bool.or_false] at hc
    subst hc
    refine Ev.step (f := fun k => waymarklaw02_SpansCut_T.l1 k m (SS.map (·.map mk)) x2 L n ((i + 1 : Nat) : Int)) (fun k => ?_) hl1
    simp only [waymarklaw02_SpansCut_T.l2]
    rw [if_neg (by rw [List.length_map]; omega), if_pos trivial, wr1n i L.length hi (by omega)]
  | d + 1, j, c, hj, hc0, hc => by
    have hjl : j < SS.length := by omega
    have hT := List.getElem_mem hjl
    have hlen := hS SS[j] hT
    have e1 := has_ev SS[j] L[i].f0 (by omega)
    have e2 := has_ev SS[j] L[i].f1 (by omega)
    have e3 := has_ev SS[j] y (by omega)
    have e4 := has_ev SS[j] (L[i].f0 - 1) (by omega)
    obtain ⟨s1, s2⟩ := hsame SS[j] hT
    have hrd : rd_T31 L (i : Int) = L[i] := by unfold rd_T31; rw [Int.toNat_natCast, List.getD_eq_getElem?_getD, List.getElem?_eq_getElem hi]; rfl
    have hd : SS.drop j = SS[j] :: SS.drop (j + 1) := List.drop_eq_getElem_cons hjl
    rw [hd, List.any_cons] at hc
    refine Ev.step (f := fun k => (waymarkref02_Has.f k (SS[j].map mk) L[i].f0).bind fun t648 => ((waymarkref02_Has.f k (SS[j].map mk) L[i].f1).bind fun t651 => (if (t648 != t651) = true then (none) else ((waymarkref02_Has.f k (SS[j].map mk) y).bind fun t653 => (if (t648 != t653) = true then (none) else (if c = true then (waymarklaw02_SpansCut_T.l2 k m (SS.map (·.map mk)) x2 L n (i : Int) y true ((j + 1 : Nat) : Int)) else ((waymarkref02_Has.f k (SS[j].map mk) ((L[i].f0 - 1) % 4294967296)).bind fun t656 => (waymarklaw02_SpansCut_T.l2 k m (SS.map (·.map mk)) x2 L n (i : Int) y (t648 != t656) ((j + 1 : Nat) : Int))))))))) (fun k => ?_) ?_
    · simp only [waymarklaw02_SpansCut_T.l2]
      rw [if_pos (by rw [List.length_map]; omega), if_pos (by omega), if_pos (by omega), if_pos (by omega), rd_sets SS j hjl, hrd, wr1n j SS.length hjl (by omega)]
    · refine Ev.bind e1 (Ev.bind e2 ?_)
      simp only [← s1, bne_self_eq_false, Bool.false_eq_true, if_false]
      refine Ev.bind e3 ?_
      simp only [← s2, bne_self_eq_false, Bool.false_eq_true, if_false]
      cases c with
      | true =>
        simp only [if_true]
        exact cutT_l2 m SS hSl hS x2 L n i hi y hlo hsame hl1 hLl h0 d (j + 1) true (by omega) (by simp) (by simp)
      | false =>
        simp only [Bool.false_eq_true, if_false]
        have hi0 := hc0 rfl
        have h00 := h0 hi0
        rw [show (L[i].f0 - 1) % 4294967296 = L[i].f0 - 1 by omega]
        refine Ev.bind e4 ?_
        rw [Bool.false_or] at hc
        exact cutT_l2 m SS hSl hS x2 L n i hi y hlo hsame hl1 hLl h0 d (j + 1) _ (by omega) (fun _ => hi0) hc
set_option maxHeartbeats 4000000 in
theorem cutT_l1 (m : Int) (hm0 : 0 ≤ m) (hm : m ≤ 4294967295) (SS : List (List Sp)) (hSl : SS.length ≤ 100) (hS : ∀ T ∈ SS, T.length ≤ 1000000) (x2 : Int) (hx0 : 0 ≤ x2) (hx1 : x2 ≤ 4294967295) (st : List Int) (hst : st.length ≤ 100000) (hp : st.Pairwise (· < ·)) (hr : ∀ y ∈ st, 0 < y ∧ y ≤ m)
    (hmem : ∀ y, y ∈ st ↔ (0 < y ∧ y ≤ m) ∧ chgB SS y = true) : ∀ (d i : Nat), i + d = (segP m 0 st).length →
    Ev (fun k => waymarklaw02_SpansCut_T.l1 k m (SS.map (·.map mk)) x2 (segP m 0 st) (((0 :: st) ++ [m + 1]).getD i 0) (i : Int)) true
  | 0, i, hi => by
    rw [segP_len] at hi
    refine Ev.step (f := fun k => some true) (fun k => ?_) (Ev.now _)
    have hlen := segP_len m st 0
    simp only [waymarklaw02_SpansCut_T.l1]
    rw [if_neg (by omega), show ((0 :: st) ++ [m + 1]).getD i 0 = m + 1 by
      rw [List.getD_eq_getElem?_getD, List.getElem?_append_right (by rw [List.length_cons]; omega), show i - (0 :: st).length = 0 by rw [List.length_cons]; omega]; rfl]
    have e : IntKind.u64.wrap (IntKind.u64.wrap m + 1) = m + 1 := by simp [IntKind.wrap, IntKind.bits, IntKind.signed]; omega
    rw [e]; simp
  | d + 1, i, hi => by
    have hlen := segP_len m st 0
    have hil : i < (segP m 0 st).length := by omega
    have ih := cutT_l1 m hm0 hm SS hSl hS x2 hx0 hx1 st hst hp hr hmem d (i + 1) (by omega)
    have hat := segP_at m st 0 i hil
    have hist : i ≤ st.length := by omega
    -- the bounds of the piece
    obtain ⟨lo, hlo⟩ : ∃ lo, lo = (0 :: st).getD i 0 := ⟨_, rfl⟩
    obtain ⟨hi', hhi⟩ : ∃ h, h = (st.map (· - 1) ++ [m]).getD i 0 := ⟨_, rfl⟩
    have hf0 : (segP m 0 st)[i].f0 = lo := by rw [hat, hlo]
    have hf1 : (segP m 0 st)[i].f1 = hi' := by rw [hat, hhi]
    have hlo0 : (i = 0 → lo = 0) ∧ (0 < i → lo ∈ st) := by
      refine ⟨fun h => by subst h; rw [hlo]; rfl, fun h => ?_⟩
      obtain ⟨j, rfl⟩ : ∃ j, i = j + 1 := ⟨i - 1, by omega⟩
      rw [hlo, List.getD_cons_succ, List.getD_eq_getElem?_getD, List.getElem?_eq_getElem (by omega)]
      exact List.getElem_mem _
    have hlob : 0 ≤ lo ∧ lo ≤ m := by
      rcases Nat.eq_zero_or_pos i with h | h
      · have := hlo0.1 h; omega
      · have := hr lo (hlo0.2 h); omega
    have hnext : (i < st.length → ((0 :: st) ++ [m + 1]).getD (i + 1) 0 = hi' + 1 ∧ hi' + 1 ∈ st) ∧ (i = st.length → ((0 :: st) ++ [m + 1]).getD (i + 1) 0 = hi' + 1 ∧ hi' = m) := by
      refine ⟨fun h => ?_, fun h => ?_⟩
      · have e1 : hi' = st[i] - 1 := by rw [hhi, List.getD_eq_getElem?_getD, List.getElem?_append_left (by simpa using h), List.getElem?_map, List.getElem?_eq_getElem h]; rfl
        have e2 : ((0 :: st) ++ [m + 1]).getD (i + 1) 0 = st[i] := by rw [List.cons_append, List.getD_cons_succ, List.getD_eq_getElem?_getD, List.getElem?_append_left h, List.getElem?_eq_getElem h]; rfl
        rw [e2, e1, show st[i] - 1 + 1 = st[i] by omega]
        exact ⟨rfl, List.getElem_mem h⟩
      · subst h
        have e1 : hi' = m := by rw [hhi, List.getD_eq_getElem?_getD, List.getElem?_append_right (by simp)]; simp
        have e2 : ((0 :: st) ++ [m + 1]).getD (st.length + 1) 0 = m + 1 := by rw [List.cons_append, List.getD_cons_succ, List.getD_eq_getElem?_getD, List.getElem?_append_right (by simp)]; simp
        rw [e2, e1]; exact ⟨rfl, rfl⟩
    have hacc : ((0 :: st) ++ [m + 1]).getD (i + 1) 0 = hi' + 1 := by
      rcases Nat.lt_or_eq_of_le hist with h | h
      · exact (hnext.1 h).1
      · exact (hnext.2 h).1
    have hcur : ((0 :: st) ++ [m + 1]).getD i 0 = lo := by
      rw [hlo, List.getD_eq_getElem?_getD, List.getElem?_append_left (by rw [List.length_cons]; omega), ← List.getD_eq_getElem?_getD]
    -- nothing of st lies strictly inside
    have hin : ∀ y, lo < y → y ≤ hi' → y ∉ st := by
      intro y h1 h2 hy
      obtain ⟨j, hj, rfl⟩ := List.getElem_of_mem hy
      have hpp := List.pairwise_iff_getElem.1 hp
      rcases Nat.lt_or_ge j i with h | h
      · -- st[j] with j < i: at most lo
        have e : lo = st[i - 1]'(by omega) := by
          rw [hlo]
          obtain ⟨q, rfl⟩ : ∃ q, i = q + 1 := ⟨i - 1, by omega⟩
          rw [List.getD_cons_succ, List.getD_eq_getElem?_getD, List.getElem?_eq_getElem (by omega)]; rfl
        rcases Nat.lt_or_eq_of_le (show j ≤ i - 1 by omega) with h3 | h3
        · have := hpp j (i - 1) (by omega) (by omega) h3; omega
        · subst h3; omega
      · have e : hi' = st[i]'(by omega) - 1 := by
          rw [hhi, List.getD_eq_getElem?_getD, List.getElem?_append_left (by simp; omega), List.getElem?_map, List.getElem?_eq_getElem (by omega)]; rfl
        rcases Nat.lt_or_eq_of_le h with h3 | h3
        · have := hpp i j (by omega) (by omega) h3; omega
        · subst h3; omega
    have hhib : lo ≤ hi' ∧ hi' ≤ m := by
      rcases Nat.lt_or_eq_of_le hist with h | h
      · have h1 := hr _ (hnext.1 h).2
        refine ⟨?_, by omega⟩
        have e : hi' = st[i] - 1 := by rw [hhi, List.getD_eq_getElem?_getD, List.getElem?_append_left (by simpa using h), List.getElem?_map, List.getElem?_eq_getElem h]; rfl
        rcases Nat.eq_zero_or_pos i with h0 | h0
        · have := hlo0.1 h0; omega
        · have e2 : lo = st[i - 1]'(by omega) := by
            rw [hlo]
            obtain ⟨q, rfl⟩ : ∃ q, i = q + 1 := ⟨i - 1, by omega⟩
            rw [List.getD_cons_succ, List.getD_eq_getElem?_getD, List.getElem?_eq_getElem (by omega)]; rfl
          have := List.pairwise_iff_getElem.1 hp (i - 1) i (by omega) h (by omega)
          omega
      · have := (hnext.2 h).2; omega
    have hconst : ∀ T ∈ SS, ∀ y, lo ≤ y → y ≤ hi' → memB T lo = memB T y := by
      intro T hT y h1 h2
      have hC : Const m (memB T) st := fun x a b c => by
        rcases Decidable.em (memB T x = memB T (x - 1)) with h | h
        · exact h
        · exact absurd ((hmem x).2 ⟨⟨a, b⟩, List.any_eq_true.2 ⟨T, hT, by simpa using h⟩⟩) c
      have := const_run hC lo hlob.1 (y - lo).toNat (by omega) (fun z z1 z2 => hin z z1 (by omega))
      rw [show lo + ((y - lo).toNat : Int) = y by omega] at this
      exact this.symm
    rw [hacc] at ih
    rw [hcur]
    -- the number inside
    have w1 : IntKind.u64.wrap hi' = hi' := by simp [IntKind.wrap, IntKind.bits, IntKind.signed]; omega
    have w2 : IntKind.u64.wrap lo = lo := by simp [IntKind.wrap, IntKind.bits, IntKind.signed]; omega
    have w3 : IntKind.u64.wrap (hi' - lo) = hi' - lo := by simp [IntKind.wrap, IntKind.bits, IntKind.signed]; omega
    have w4 : IntKind.u64.wrap (hi' - lo + 1) = hi' - lo + 1 := by simp [IntKind.wrap, IntKind.bits, IntKind.signed]; omega
    have w5 : IntKind.u64.wrap x2 = x2 := by simp [IntKind.wrap, IntKind.bits, IntKind.signed]; omega
    have w6 : IntKind.u64.wrap (lo + hi') = lo + hi' := by simp [IntKind.wrap, IntKind.bits, IntKind.signed]; omega
    have w7 : IntKind.u64.wrap (lo + hi' - lo) = hi' := by simp [IntKind.wrap, IntKind.bits, IntKind.signed]; omega
    have w8 : IntKind.u64.wrap (hi' + 1) = hi' + 1 := by simp [IntKind.wrap, IntKind.bits, IntKind.signed]; omega
    have ht0 : 0 ≤ Int.tmod x2 (hi' - lo + 1) := Int.tmod_nonneg _ hx0
    have ht1 : Int.tmod x2 (hi' - lo + 1) < hi' - lo + 1 := Int.tmod_lt_of_pos _ (by omega)
    obtain ⟨y, hy⟩ : ∃ y, y = (lo + (Int.tmod x2 (hi' - lo + 1)) % 4294967296) % 4294967296 := ⟨_, rfl⟩
    have hyv : y = lo + Int.tmod x2 (hi' - lo + 1) := by rw [hy]; generalize Int.tmod x2 (hi' - lo + 1) = z at ht0 ht1; omega
    have hrd : rd_T31 (segP m 0 st) (i : Int) = (segP m 0 st)[i] := by unfold rd_T31; rw [Int.toNat_natCast, List.getD_eq_getElem?_getD, List.getElem?_eq_getElem hil]; rfl
    have hl2 := cutT_l2 m SS hSl hS x2 (segP m 0 st) (hi' + 1) i hil y (by rw [hf0]; omega) (fun T hT => by rw [hf0, hf1]; exact ⟨hconst T hT hi' hhib.1 (Int.le_refl _), hconst T hT y (by omega) (by omega)⟩) ih (by omega) (fun h => by rw [hf0]; exact (hr lo (hlo0.2 h)).1) SS.length 0 (decide (i = 0)) (by omega) (fun h => by simpa using Nat.pos_of_ne_zero (of_decide_eq_false h)) (by
      rw [List.drop_zero, hf0]
      rcases Nat.eq_zero_or_pos i with h | h
      · simp [h]
      · have := ((hmem lo).1 (hlo0.2 h)).2
        rw [Bool.or_eq_true]; exact Or.inr this)
    have hj3 : Ev (fun k => waymarklaw02_SpansCut_T.j3 k m (SS.map (·.map mk)) x2 (segP m 0 st) lo (i : Int) false) true := by
      refine Ev.step (f := fun k => waymarklaw02_SpansCut_T.l2 k m (SS.map (·.map mk)) x2 (segP m 0 st) (hi' + 1) (i : Int) y (decide (i = 0)) ((0 : Nat) : Int)) (fun k => ?_) hl2
      simp only [waymarklaw02_SpansCut_T.j3, Bool.false_eq_true, if_false]
      rw [if_pos (by omega), if_pos (by omega), hrd, hf0, hf1, w1, w2, w3, w4, if_neg (by omega), w5, w6, w7, w8, hy, show ((i : Int) == 0) = decide (i = 0) by cases i <;> simp <;> omega]
      rfl
    refine Ev.step (f := fun k => waymarklaw02_SpansCut_T.j3 k m (SS.map (·.map mk)) x2 (segP m 0 st) lo (i : Int) false) (fun k => ?_) hj3
    simp only [waymarklaw02_SpansCut_T.l1]
    rw [if_pos (by omega), if_pos (by omega), hrd, hf0, hf1, if_neg (by omega)]
    by_cases hi0 : i = 0
    · rw [if_neg (by omega)]
    · obtain ⟨q, rfl⟩ : ∃ q, i = q + 1 := ⟨i - 1, by omega⟩
      have hw : wrap64 (((q + 1 : Nat) : Int) - 1) = (q : Int) := by unfold wrap64; omega
      rw [if_pos (by omega), hw, if_pos (by omega), if_pos (by omega)]
      have hrq : rd_T31 (segP m 0 st) (q : Int) = (segP m 0 st)[q]'(by omega) := by unfold rd_T31; rw [Int.toNat_natCast, List.getD_eq_getElem?_getD, List.getElem?_eq_getElem (by omega)]; rfl
      have hqf : (segP m 0 st)[q].f1 = lo - 1 := by
        rw [segP_at m st 0 q (by omega), hlo, List.getD_cons_succ]
        show (st.map (· - 1) ++ [m]).getD q 0 = st.getD q 0 - 1
        rw [List.getD_eq_getElem?_getD, List.getD_eq_getElem?_getD, List.getElem?_append_left (by simp; omega), List.getElem?_map, List.getElem?_eq_getElem (by omega)]; rfl
      rw [hrq, hqf, show (lo - 1 + 1) % 4294967296 = lo by omega, bne_self_eq_false]
end Go.Proofs.Ytmoagoopdfpcnaa.Q
