/- SpansCut: of spans.Pieces, what its starts and its pieces are: plain lists and numbers. -/
import Derived.Test.YtmoagoopdfpcnaaEPCount
import Derived.Test.YtmoagoopdfpcnaaEPieces
namespace Go.Proofs.Ytmoagoopdfpcnaa.Q
open Go.RowKit Go.Proofs.YtmoagoopdfpcnaaW.PrintWords Go.Proofs.YtmoagoopdfpcnaaW.PrintLast Go.Proofs.YtmoagoopdfpcnaaW.PrintMore Go.Proofs.Ytmoagoopdfpcnaa.SpMath
set_option linter.unusedVariables false
set_option linter.unusedSimpArgs false

/-! ### Rising lists -/
theorem rd_sets (SS : List (List Sp)) (j : Nat) (h : j < SS.length) : rd_L12 (SS.map (·.map mk)) (j : Int) = SS[j].map mk := by
  unfold rd_L12
  rw [Int.toNat_natCast, List.getD_eq_getElem?_getD, List.getElem?_map, List.getElem?_eq_getElem h]; rfl

theorem strict_ext : ∀ (a b : List Int), a.Pairwise (· < ·) → b.Pairwise (· < ·) → (∀ x, x ∈ a ↔ x ∈ b) → a = b
  | [], [], _, _, _ => rfl
  | [], y :: b, _, _, h => absurd ((h y).2 (by simp)) (by simp)
  | x :: a, [], _, _, h => absurd ((h x).1 (by simp)) (by simp)
  | x :: a, y :: b, ha, hb, h => by
    rw [List.pairwise_cons] at ha hb
    have e : x = y := by
      rcases List.mem_cons.1 ((h x).1 (by simp)) with h1 | h1
      · exact h1
      · have h2 := hb.1 x h1
        rcases List.mem_cons.1 ((h y).2 (by simp)) with h3 | h3
        · exact h3.symm
        · have := ha.1 y h3; omega
    subst e
    rw [strict_ext a b ha.2 hb.2 (fun z => ?_)]
    constructor
    · intro hz
      have h1 := ha.1 z hz
      rcases List.mem_cons.1 ((h z).1 (by simp [hz])) with h2 | h2
      · omega
      · exact h2
    · intro hz
      have h1 := hb.1 z hz
      rcases List.mem_cons.1 ((h z).2 (by simp [hz])) with h2 | h2
      · omega
      · exact h2

/-- compact, as a walk over the list. -/
theorem compactUpTo_rises (d : Array Int) (hs : ∀ i j, i ≤ j → j < d.size → d[i]! ≤ d[j]!) : ∀ m, m ≤ d.size → (Lib.compactUpTo d m).Pairwise (· < ·) ∧ (∀ y, y ∈ Lib.compactUpTo d m ↔ ∃ j, j < m ∧ d[j]! = y)
  | 0, _ => ⟨by simp [Lib.compactUpTo], fun y => by simp [Lib.compactUpTo]⟩
  | m + 1, hm => by
    obtain ⟨h1, h2⟩ := compactUpTo_rises d hs m (by omega)
    rw [Lib.compactUpTo_succ]
    by_cases hk : Lib.keeps d m = true
    · rw [if_pos hk]
      refine ⟨List.pairwise_append.2 ⟨h1, List.pairwise_singleton _ _, fun x hx y hy => ?_⟩, fun y => ?_⟩
      · rw [List.mem_singleton] at hy
        subst hy
        obtain ⟨j, hj, rfl⟩ := (h2 x).1 hx
        have h3 := hs j (m - 1) (by omega) (by omega)
        have h4 := hs (m - 1) m (by omega) (by omega)
        unfold Lib.keeps at hk
        have h5 := of_decide_eq_true hk
        rcases h5 with h5 | h5
        · omega
        · omega
      · rw [List.mem_append, h2, List.mem_singleton]
        constructor
        · rintro (⟨j, hj, rfl⟩ | rfl)
          · exact ⟨j, by omega, rfl⟩
          · exact ⟨m, by omega, rfl⟩
        · rintro ⟨j, hj, rfl⟩
          by_cases e : j = m
          · subst e; exact Or.inr rfl
          · exact Or.inl ⟨j, by omega, rfl⟩
    · rw [if_neg hk, List.append_nil]
      refine ⟨h1, fun y => ?_⟩
      rw [h2]
      constructor
      · rintro ⟨j, hj, rfl⟩; exact ⟨j, by omega, rfl⟩
      · rintro ⟨j, hj, rfl⟩
        by_cases e : j = m
        · subst e
          unfold Lib.keeps at hk
          have h5 : ¬ (j = 0 ∨ d[j]! ≠ d[j - 1]!) := fun h => hk (decide_eq_true h)
          have h6 : j ≠ 0 := fun h => h5 (Or.inl h)
          have h7 : d[j]! = d[j - 1]! := by
            rcases Decidable.em (d[j]! = d[j - 1]!) with h | h
            · exact h
            · exact absurd (Or.inr h) h5
          exact ⟨j - 1, by omega, h7.symm⟩
        · exact ⟨j, by omega, rfl⟩
theorem sortU_sorted (l : List Int) : (sortU l).Pairwise (· ≤ ·) := by
  have h := List.pairwise_mergeSort (le := fun x y : Int => decide (x ≤ y)) (by intro a b c h1 h2; simp at h1 h2 ⊢; omega) (by intro a b; simp; omega) l
  unfold sortU
  exact h.imp (fun h => by simpa using h)
theorem startsP_rises (m : Int) (sets : List (List S31)) : (startsP m sets).Pairwise (· < ·) ∧ ∀ y, y ∈ startsP m sets ↔ y ∈ cutsP m sets := by
  unfold startsP Lib.compact
  have hsz : (sortU (cutsP m sets)).toArray.size = (sortU (cutsP m sets)).length := by simp
  have hget : ∀ j, j < (sortU (cutsP m sets)).length → (sortU (cutsP m sets)).toArray[j]! = (sortU (cutsP m sets)).getD j 0 := fun j hj => by
    rw [getElem!_pos _ j (by simpa using hj), List.getD_eq_getElem?_getD, List.getElem?_eq_getElem hj]; simp
  obtain ⟨h1, h2⟩ := compactUpTo_rises (sortU (cutsP m sets)).toArray (fun i j hij hj => by
    have hj' : j < (sortU (cutsP m sets)).length := by simpa using hj
    rw [hget i (by omega), hget j hj', List.getD_eq_getElem?_getD, List.getD_eq_getElem?_getD, List.getElem?_eq_getElem (by omega), List.getElem?_eq_getElem hj']
    simp only [Option.getD_some]
    rcases Nat.lt_or_eq_of_le hij with h | h
    · exact List.pairwise_iff_getElem.1 (sortU_sorted (cutsP m sets)) i j (by omega) hj' h
    · subst h; exact Int.le_refl _) _ (Nat.le_of_eq hsz.symm)
  refine ⟨h1, fun y => ?_⟩
  rw [h2]
  constructor
  · rintro ⟨j, hj, rfl⟩
    rw [hget j hj, List.getD_eq_getElem?_getD, List.getElem?_eq_getElem hj]
    have : (sortU (cutsP m sets))[j] ∈ sortU (cutsP m sets) := List.getElem_mem hj
    unfold sortU at this
    rw [List.mem_mergeSort] at this
    exact this
  · intro hy
    have hy2 : y ∈ sortU (cutsP m sets) := by unfold sortU; rw [List.mem_mergeSort]; exact hy
    obtain ⟨j, hj, rfl⟩ := List.getElem_of_mem hy2
    exact ⟨j, hj, by rw [hget j hj, List.getD_eq_getElem?_getD, List.getElem?_eq_getElem hj]; rfl⟩

/-! ### Where a set begins or ends -/
theorem form_ends {F : List Sp} (hF : InForm F) (x : Int) : (∃ s, s ∈ F ∧ (x = s.1 ∨ x = s.2 + 1)) ↔ memB F x ≠ memB F (x - 1) := by
  have hp := hF.2
  have key : ∀ s, s ∈ F → ∀ t, t ∈ F → s = t ∨ s.2 + 1 < t.1 ∨ t.2 + 1 < s.1 := by
    intro s hs t ht
    obtain ⟨i, hi, rfl⟩ := List.getElem_of_mem hs
    obtain ⟨j, hj, rfl⟩ := List.getElem_of_mem ht
    rcases Nat.lt_trichotomy i j with h | h | h
    · exact Or.inr (Or.inl (List.pairwise_iff_getElem.1 hp i j hi hj h))
    · subst h; exact Or.inl rfl
    · exact Or.inr (Or.inr (List.pairwise_iff_getElem.1 hp j i hj hi h))
  constructor
  · rintro ⟨s, hs, h1 | h1⟩
    · have a : memB F x = true := (memB_iff F x).2 ⟨s, hs, by omega, by have := hF.1 s hs; omega⟩
      have b : memB F (x - 1) = false := by
        rw [← Bool.not_eq_true, memB_iff]
        rintro ⟨t, ht, h2, h3⟩
        have := hF.1 s hs
        have := hF.1 t ht
        rcases key s hs t ht with e | e | e
        · subst e; omega
        · omega
        · omega
      rw [a, b]; simp
    · have a : memB F (x - 1) = true := (memB_iff F (x - 1)).2 ⟨s, hs, by have := hF.1 s hs; omega, by omega⟩
      have b : memB F x = false := by
        rw [← Bool.not_eq_true, memB_iff]
        rintro ⟨t, ht, h2, h3⟩
        have := hF.1 s hs
        have := hF.1 t ht
        rcases key s hs t ht with e | e | e
        · subst e; omega
        · omega
        · omega
      rw [a, b]; simp
  · intro h
    cases ha : memB F x with
    | true =>
      rw [ha] at h
      have hb : memB F (x - 1) = false := by cases hb : memB F (x - 1) with
        | true => rw [hb] at h; exact absurd rfl h
        | false => rfl
      obtain ⟨s, hs, h1, h2⟩ := (memB_iff F x).1 ha
      rw [← Bool.not_eq_true, memB_iff] at hb
      refine ⟨s, hs, Or.inl ?_⟩
      rcases Decidable.em (s.1 < x) with h3 | h3
      · exact absurd ⟨s, hs, by omega, by omega⟩ hb
      · omega
    | false =>
      rw [ha] at h
      have hb : memB F (x - 1) = true := by cases hb : memB F (x - 1) with
        | true => rfl
        | false => rw [hb] at h; exact absurd rfl h
      obtain ⟨s, hs, h1, h2⟩ := (memB_iff F (x - 1)).1 hb
      rw [← Bool.not_eq_true, memB_iff] at ha
      refine ⟨s, hs, Or.inr ?_⟩
      rcases Decidable.em (s.2 < x) with h3 | h3
      · omega
      · exact absurd ⟨s, hs, by omega, by omega⟩ ha
def chgB (SS : List (List Sp)) (x : Int) : Bool := SS.any fun T => memB T x != memB T (x - 1)
theorem cutsP_iff (m : Int) (SS : List (List Sp)) (y : Int) : y ∈ cutsP m (SS.map (·.map mk)) ↔ (0 < y ∧ y ≤ m) ∧ chgB SS y = true := by
  unfold cutsP chgB
  rw [List.mem_flatMap, List.any_eq_true]
  have hm : ∀ T : List Sp, formS (T.map mk) = (formF T).map mk := fun T => by
    unfold formS
    rw [List.map_map]
    congr 2
    exact (List.map_congr_left (fun s _ => rfl)).trans (List.map_id T)
  have hT : ∀ T : List Sp, (memB T y != memB T (y - 1)) = true ↔ ∃ s, s ∈ formF T ∧ (y = s.1 ∨ y = s.2 + 1) := fun T => by
    rw [form_ends (form_ok T).1, bne_iff_ne]
    rw [memB_eq ((form_ok T).2 y).symm, memB_eq ((form_ok T).2 (y - 1)).symm]
  have hc : ∀ x, y ∈ cutL m x ↔ (0 < y ∧ y ≤ m) ∧ y = x := fun x => by
    unfold cutL
    split
    · rename_i h; rw [List.mem_singleton]; constructor
      · intro e; subst e; exact ⟨h, rfl⟩
      · exact fun e => e.2
    · rename_i h; constructor
      · intro e; cases e
      · rintro ⟨h1, rfl⟩; exact absurd h1 h
  constructor
  · rintro ⟨l, hl, h⟩
    obtain ⟨T, hTm, rfl⟩ := List.mem_map.1 hl
    rw [hm, List.mem_flatMap] at h
    obtain ⟨s', hs', h⟩ := h
    obtain ⟨s, hs, rfl⟩ := List.mem_map.1 hs'
    unfold cutS at h
    rw [List.mem_append, hc, hc] at h
    rcases h with h | h
    · exact ⟨h.1, T, hTm, (hT T).2 ⟨s, hs, Or.inl h.2⟩⟩
    · exact ⟨h.1, T, hTm, (hT T).2 ⟨s, hs, Or.inr h.2⟩⟩
  · rintro ⟨h0, T, hTm, h⟩
    obtain ⟨s, hs, h⟩ := (hT T).1 h
    refine ⟨T.map mk, List.mem_map.2 ⟨T, hTm, rfl⟩, ?_⟩
    rw [hm, List.mem_flatMap]
    refine ⟨mk s, List.mem_map.2 ⟨s, hs, rfl⟩, ?_⟩
    unfold cutS
    rw [List.mem_append, hc, hc]
    rcases h with h | h
    · exact Or.inl ⟨h0, h⟩
    · exact Or.inr ⟨h0, h⟩
def chgX (x : Int) (T : List Sp) : Bool := memB T x != memB T (x - 1)
theorem wr1n (i n : Nat) (h : i < n) (hn : n ≤ 9223372036854775807) : wrap64 ((i : Int) + 1) = ((i + 1 : Nat) : Int) := by unfold wrap64; omega
def finP (out : List S31) : List S31 × Int := if out.length > 65536 then ([], 1) else (out, 0)
theorem stepP_len (m : Int) (out : List S31) (x : Int) : (stepP m out x).length = out.length + 1 := by unfold stepP; simp
theorem foldP_len (m : Int) : ∀ (st : List Int) (out : List S31), (st.foldl (stepP m) out).length = out.length + st.length
  | [], out => by simp
  | x :: st, out => by rw [List.foldl_cons, foldP_len m st, stepP_len, List.length_cons]; omega
theorem piecesP_len (m : Int) (st : List Int) : (piecesP m st).length = st.length + 1 := by unfold piecesP; rw [foldP_len]; simp; omega
theorem okP_mk {T : List Sp} (h : ∀ s ∈ T, okS s) (hl : T.length ≤ 1000000) : okP (T.map mk) = true := by
  unfold okP
  rw [Bool.and_eq_true]
  refine ⟨by simpa using hl, List.all_eq_true.2 (fun x hx => ?_)⟩
  obtain ⟨s, hs, rfl⟩ := List.mem_map.1 hx
  have := h s hs
  unfold okS at this
  show (decide (0 ≤ s.1) && decide (s.1 ≤ 4294967295) && decide (0 ≤ s.2) && decide (s.2 ≤ 4294967295)) = true
  simp; omega
theorem pieces_f (m : Int) (hm0 : 0 ≤ m) (hm : m ≤ 4294967295) (SS : List (List Sp)) (hS : ∀ T ∈ SS, (∀ s ∈ T, okS s) ∧ T.length ≤ 1000000) (hSl : SS.length ≤ 100) :
    spans_Pieces.f m (SS.map (·.map mk)) = some (finP (piecesP m (startsP m (SS.map (·.map mk))))) := by
  unfold spans_Pieces.f finP
  rw [if_neg (by rw [List.length_map]; omega), if_pos ⟨List.all_eq_true.2 (fun l hl => by
    obtain ⟨T, hT, rfl⟩ := List.mem_map.1 hl
    exact okP_mk (hS T hT).1 (hS T hT).2), hm0, hm⟩, piecesP_len]
  by_cases h : (startsP m (SS.map (·.map mk))).length + 1 > 65536
  · rw [if_pos h, if_pos h]
  · rw [if_neg h, if_neg h]

end Go.Proofs.Ytmoagoopdfpcnaa.Q
