/- The reference's filters are the program's: plain lists and numbers. -/
import Derived.Test.YtmoagoopdfpcnaaEAddr
import Derived.Test.YtmoagoopdfpcnaaEOp
import Derived.Test.YtmoagoopdfpcnaaQx5
import Derived.Test.YtmoagoopdfpcnaaQx12
import Derived.OpenShut
namespace Go.Proofs.Ytmoagoopdfpcnaa.Q
open Go.RowKit Go.Proofs.YtmoagoopdfpcnaaW.PrintWords Go.Proofs.YtmoagoopdfpcnaaW.PrintLast Go.Proofs.YtmoagoopdfpcnaaW.PrintMore
set_option linter.unusedVariables false

theorem w64 (i n : Nat) (h : i < n) (hn : n ≤ 9223372036854775807) : wrap64 ((i : Int) + 1) = ((i + 1 : Nat) : Int) := by unfold wrap64; omega
theorem rd33 (l : List S33) (i : Nat) (h : i < l.length) : rd_T33 l (i : Int) = l[i] := by
  unfold rd_T33
  rw [Int.toNat_natCast, List.getD_eq_getElem?_getD, List.getElem?_eq_getElem h]; rfl
theorem drop_any {α : Type} (p : α → Bool) (l : List α) (i : Nat) (h : i < l.length) : (l.drop i).any p = (p l[i] || (l.drop (i + 1)).any p) := by
  rw [List.drop_eq_getElem_cons h, List.any_cons]

theorem ok29.r {x : S29} (h : ok29 x) : 0 ≤ x.f0 ∧ x.f0 ≤ 4294967295 := bounds_u32 h.1

theorem may_ev (x : S33) (h : ok33 x) : Ev (fun k => waymarkref10_May.f k x.f0 x.f1 x.f2.f0 x.f2.f1 x.f3.f0 x.f3.f1 x.f4.f0 x.f4.f1 x.f5.f0 x.f5.f1) (mayB x) := by
  obtain ⟨_, _, h2, h3, _, _⟩ := h
  unfold waymarkref10_May.f mayB portsB
  by_cases c1 : x.f1 ≥ -1
  · by_cases c2 : x.f1 ≤ 255
    · simp only [c1, c2, if_true, decide_true, Bool.true_and]
      refine Ev.bind (f := fun k t104 => (if t104 = 0 then ((waymarkref01_Check.f k x.f3.f0 x.f3.f1).bind fun t105 => (if t105 = 0 then (if x.f4.f0 ≤ x.f4.f1 then (if x.f4.f1 ≤ 65535 then (if x.f5.f0 ≤ x.f5.f1 then (some (decide (x.f5.f1 ≤ 65535))) else (some false)) else (some false)) else (some false)) else (some false))) else (some false))) (refCheck_ev _ _ h2.r) ?_
      by_cases c3 : chk x.f2.f0 x.f2.f1 = 0
      · simp only [c3, if_true, decide_true, Bool.true_and]
        refine Ev.bind (f := fun k t105 => (if t105 = 0 then (if x.f4.f0 ≤ x.f4.f1 then (if x.f4.f1 ≤ 65535 then (if x.f5.f0 ≤ x.f5.f1 then (some (decide (x.f5.f1 ≤ 65535))) else (some false)) else (some false)) else (some false)) else (some false))) (refCheck_ev _ _ h3.r) (Ev.all fun k => ?_)
        by_cases c4 : chk x.f3.f0 x.f3.f1 = 0 <;> by_cases c5 : x.f4.f0 ≤ x.f4.f1 <;> by_cases c6 : x.f4.f1 ≤ 65535 <;> by_cases c7 : x.f5.f0 ≤ x.f5.f1 <;> simp [c4, c5, c6, c7]
      · simp only [c3, if_false, decide_false, Bool.false_and]
        exact Ev.now _
    · simp only [c1, c2, if_true, if_false, decide_false, Bool.and_false, Bool.false_and]
      exact Ev.now _
  · simp only [c1, if_false, decide_false, Bool.false_and]
    exact Ev.now _

theorem refCheck_loop (a : ByteArray) (l : List S33) (hl : ∀ x ∈ l, ok33 x) (hn : l.length ≤ 9223372036854775807) : ∀ d i : Nat, i + d = l.length →
    Ev (fun k => waymarkref10_Check.l0 k (i : Int) a l) (if (l.drop i).any (fun x => !mayB x) = true then 121 else 0)
  | 0, i, h => by
    refine Ev.step (f := fun _ => some 0) (fun k => by simp only [waymarkref10_Check.l0]; rw [if_neg (by omega)]) ?_
    rw [List.drop_of_length_le (by omega)]
    exact Ev.now _
  | d + 1, i, h => by
    have hi : i < l.length := by omega
    refine Ev.step (f := fun k => (waymarkref10_May.f k ((rd_T33 l i).f0) ((rd_T33 l i).f1) ((rd_T33 l i).f2.f0) ((rd_T33 l i).f2.f1) ((rd_T33 l i).f3.f0) ((rd_T33 l i).f3.f1) ((rd_T33 l i).f4.f0) ((rd_T33 l i).f4.f1) ((rd_T33 l i).f5.f0) ((rd_T33 l i).f5.f1)).bind fun t108 => (if t108 = true then (waymarkref10_Check.l0 k (wrap64 ((i : Int) + 1)) a l) else (some 121)))
      (fun k => by simp only [waymarkref10_Check.l0]; rw [if_pos (by omega), if_pos (by omega)]) ?_
    rw [rd33 l i hi, w64 i l.length hi hn, drop_any _ l i hi]
    refine Ev.bind (f := fun k t108 => (if t108 = true then (waymarkref10_Check.l0 k ((i + 1 : Nat) : Int) a l) else (some 121))) (may_ev _ (hl _ (List.getElem_mem hi))) ?_
    cases hm : mayB l[i] with
    | true => simpa using refCheck_loop a l hl hn d (i + 1) (by omega)
    | false => simpa using Ev.now (121 : Int)

theorem refCheckF_ev (a : ByteArray) (l : List S33) (hl : ∀ x ∈ l, ok33 x) (hn : l.length ≤ 9223372036854775807) : Ev (fun k => waymarkref10_Check.f k a l) (checkF l) := by
  unfold waymarkref10_Check.f checkF
  by_cases h : 256 < l.length
  · rw [if_pos (Or.inl h)]
    exact Ev.congr (fun k => if_pos (by omega)) (Ev.now _)
  · refine Ev.congr (fun k => if_neg (by omega)) ?_
    have h1 := refCheck_loop a l hl hn l.length 0 (by omega)
    simp only [List.drop_zero] at h1
    refine Ev.eq h1 ?_
    by_cases h2 : l.any (fun x => !mayB x) = true
    · rw [if_pos h2, if_pos (.inr h2)]
    · rw [if_neg h2, if_neg (by rintro (h3 | h3); exact h h3; exact h2 h3)]

theorem fits_ev (x : S33) (y : S40) (h : ok33 x) (hy : ok40 y) : Ev (fun k => waymarkref10_Fits.f k x.f0 x.f1 x.f2.f0 x.f2.f1 x.f3.f0 x.f3.f1 x.f4.f0 x.f4.f1 x.f5.f0 x.f5.f1 y.f0 y.f1 y.f2 y.f3 y.f4) (fitsB x y.f0 y.f1 y.f2 y.f3 y.f4) := by
  obtain ⟨_, _, h2, h3, _, _⟩ := h
  obtain ⟨y0, y1, _⟩ := hy
  have y0 := bounds_u32 y0
  have y1 := bounds_u32 y1
  unfold waymarkref10_Fits.f fitsB spanB
  refine Ev.bind (f := fun k t135 => (if t135 = 0 then ((waymarkref01_Check.f k x.f3.f0 x.f3.f1).bind fun t136 => (waymarkref10_Fits.j0 k (t136 != 0) x.f0 x.f1 x.f2.f0 x.f2.f1 x.f3.f0 x.f3.f1 x.f4.f0 x.f4.f1 x.f5.f0 x.f5.f1 y.f0 y.f1 y.f2 y.f3 y.f4)) else (waymarkref10_Fits.j0 k true x.f0 x.f1 x.f2.f0 x.f2.f1 x.f3.f0 x.f3.f1 x.f4.f0 x.f4.f1 x.f5.f0 x.f5.f1 y.f0 y.f1 y.f2 y.f3 y.f4))) (refCheck_ev _ _ h2.r) ?_
  by_cases c1 : chk x.f2.f0 x.f2.f1 = 0
  · simp only [c1, if_true, decide_true, Bool.true_and]
    refine Ev.bind (f := fun k t136 => (waymarkref10_Fits.j0 k (t136 != 0) x.f0 x.f1 x.f2.f0 x.f2.f1 x.f3.f0 x.f3.f1 x.f4.f0 x.f4.f1 x.f5.f0 x.f5.f1 y.f0 y.f1 y.f2 y.f3 y.f4)) (refCheck_ev _ _ h3.r) ?_
    by_cases c2 : chk x.f3.f0 x.f3.f1 = 0
    · simp only [c2, decide_true, Bool.true_and]
      refine Ev.step (f := fun k => _) (fun k => by simp only [waymarkref10_Fits.j0]; rfl) ?_
      simp only [bne_self_eq_false, Bool.false_eq_true, if_false]
      refine Ev.bind (f := fun k t137 => _) (refIn_ev _ _ _ y0 h2.r) ?_
      cases c3 : inB y.f0 x.f2.f0 x.f2.f1 with
      | false => simpa using Ev.now false
      | true =>
        simp only [if_true, Bool.true_and]
        refine Ev.bind (f := fun k t138 => _) (refIn_ev _ _ _ y1 h3.r) (Ev.all fun k => ?_)
        cases c4 : inB y.f1 x.f3.f0 x.f3.f1 <;> by_cases c5 : x.f1 = -1 <;> by_cases c6 : x.f1 = wrap64 y.f2 <;> by_cases c7 : y.f3 % 4294967296 ≥ x.f4.f0 <;> by_cases c8 : y.f3 % 4294967296 ≤ x.f4.f1 <;> by_cases c9 : y.f4 % 4294967296 ≥ x.f5.f0 <;> simp [c5, c6, c7, c8, c9] <;> omega
    · have c2' : (chk x.f3.f0 x.f3.f1 != 0) = true := by simpa using c2
      simp only [c2', c2, decide_false, Bool.false_and]
      exact Ev.step (f := fun _ => some false) (fun k => by simp [waymarkref10_Fits.j0]) (Ev.now _)
  · simp only [c1, if_false, decide_false, Bool.false_and]
    exact Ev.step (f := fun _ => some false) (fun k => by simp [waymarkref10_Fits.j0]) (Ev.now _)


theorem idxI_drop_miss {α : Type} (p : α → Bool) (l : List α) (i : Nat) (h : i < l.length) (hp : p l[i] = false) : (if (l.drop i).any p then idxI p (l.drop i) + i else -1) = (if (l.drop (i + 1)).any p then idxI p (l.drop (i + 1)) + ((i + 1 : Nat) : Int) else -1) := by
  rw [List.drop_eq_getElem_cons h, List.any_cons, hp, Bool.false_or]
  by_cases hc : (l.drop (i + 1)).any p = true
  · rw [if_pos hc, if_pos hc]
    unfold idxI
    rw [List.findIdx?_cons, hp]
    have : (l.drop (i + 1)).findIdx? p ≠ none := by
      intro hn
      rw [List.findIdx?_eq_none_iff] at hn
      obtain ⟨x, hx, hpx⟩ := List.any_eq_true.1 hc
      rw [hn x hx] at hpx
      cases hpx
    cases hf : (l.drop (i + 1)).findIdx? p with
    | none => exact absurd hf this
    | some j => simp; omega
  · rw [if_neg hc, if_neg hc]
theorem idxI_start {α : Type} (p : α → Bool) (l : List α) : idxI p l = (if (l.drop 0).any p then idxI p (l.drop 0) + ((0 : Nat) : Int) else -1) := by
  rw [List.drop_zero]
  by_cases hc : l.any p = true
  · rw [if_pos hc]; simp
  · rw [if_neg hc]
    unfold idxI
    have : l.findIdx? p = none := by
      rw [List.findIdx?_eq_none_iff]
      intro x hx
      cases hpx : p x with
      | false => rfl
      | true => exact absurd (List.any_eq_true.2 ⟨x, hx, hpx⟩) hc
    rw [this]
theorem idxI_drop_hit {α : Type} (p : α → Bool) (l : List α) (i : Nat) (h : i < l.length) (hp : p l[i] = true) : (if (l.drop i).any p then idxI p (l.drop i) + (i : Int) else -1) = i := by
  rw [List.drop_eq_getElem_cons h, List.any_cons, hp, Bool.true_or, if_pos rfl]
  unfold idxI
  rw [List.findIdx?_cons, hp]
  simp
theorem idxI_lt {α : Type} (p : α → Bool) (l : List α) : idxI p l < l.length ∧ (0 ≤ idxI p l ∨ idxI p l = -1) := by
  unfold idxI
  cases hf : l.findIdx? p with
  | none => simp; omega
  | some j =>
    obtain ⟨hj, _⟩ := List.findIdx?_eq_some_iff_getElem.1 hf
    simp; omega

theorem refDecides_loop (a : ByteArray) (l : List S33) (y : S40) (hl : ∀ x ∈ l, ok33 x) (hy : ok40 y) (hn : l.length ≤ 9223372036854775807) : ∀ d i : Nat, i + d = l.length →
    Ev (fun k => waymarkref10_Decides.l0 k (i : Int) a l y.f0 y.f1 y.f2 y.f3 y.f4) (if (l.drop i).any (fun x => fitsB x y.f0 y.f1 y.f2 y.f3 y.f4) then idxI (fun x => fitsB x y.f0 y.f1 y.f2 y.f3 y.f4) (l.drop i) + (i : Int) else -1)
  | 0, i, h => by
    refine Ev.step (f := fun _ => some (-1)) (fun k => by simp only [waymarkref10_Decides.l0]; rw [if_neg (by omega)]) ?_
    rw [List.drop_of_length_le (by omega)]
    exact Ev.now _
  | d + 1, i, h => by
    have hi : i < l.length := by omega
    refine Ev.step (f := fun k => (waymarkref10_Fits.f k ((rd_T33 l i).f0) ((rd_T33 l i).f1) ((rd_T33 l i).f2.f0) ((rd_T33 l i).f2.f1) ((rd_T33 l i).f3.f0) ((rd_T33 l i).f3.f1) ((rd_T33 l i).f4.f0) ((rd_T33 l i).f4.f1) ((rd_T33 l i).f5.f0) ((rd_T33 l i).f5.f1) y.f0 y.f1 y.f2 y.f3 y.f4).bind fun t142 => (if t142 = true then (some (i : Int)) else (waymarkref10_Decides.l0 k (wrap64 ((i : Int) + 1)) a l y.f0 y.f1 y.f2 y.f3 y.f4)))
      (fun k => by simp only [waymarkref10_Decides.l0]; rw [if_pos (by omega), if_pos (by omega)]) ?_
    rw [rd33 l i hi, w64 i l.length hi hn]
    refine Ev.bind (f := fun k t142 => (if t142 = true then (some (i : Int)) else (waymarkref10_Decides.l0 k ((i + 1 : Nat) : Int) a l y.f0 y.f1 y.f2 y.f3 y.f4))) (fits_ev _ y (hl _ (List.getElem_mem hi)) hy) ?_
    cases hm : fitsB l[i] y.f0 y.f1 y.f2 y.f3 y.f4 with
    | true =>
      rw [idxI_drop_hit (fun x => fitsB x y.f0 y.f1 y.f2 y.f3 y.f4) l i hi hm]
      simpa using Ev.now (i : Int)
    | false =>
      rw [idxI_drop_miss (fun x => fitsB x y.f0 y.f1 y.f2 y.f3 y.f4) l i hi hm]
      simpa using refDecides_loop a l y hl hy hn d (i + 1) (by omega)
theorem refDecides_ev (a : ByteArray) (l : List S33) (y : S40) (hl : ∀ x ∈ l, ok33 x) (hy : ok40 y) (hn : l.length ≤ 9223372036854775807) :
    Ev (fun k => waymarkref10_Decides.f k a l y.f0 y.f1 y.f2 y.f3 y.f4) (idxI (fun x => fitsB x y.f0 y.f1 y.f2 y.f3 y.f4) l) := by
  rw [idxI_start]
  exact refDecides_loop a l y hl hy hn l.length 0 (by omega)
/-- Is a header permitted? -/
def permB (l : List S33) (y : S40) : Bool := let i := idxI (fun x => fitsB x y.f0 y.f1 y.f2 y.f3 y.f4) l; decide (0 ≤ i) && (rd_T33 l i).f0
theorem refPermits_ev (a : ByteArray) (l : List S33) (y : S40) (hl : ∀ x ∈ l, ok33 x) (hy : ok40 y) (hn : l.length ≤ 9223372036854775807) :
    Ev (fun k => waymarkref10_Permits.f k a l y.f0 y.f1 y.f2 y.f3 y.f4) (permB l y) := by
  unfold waymarkref10_Permits.f permB
  refine Ev.bind (f := fun k t145 => (if t145 ≥ 0 then (if 0 ≤ t145 then (if t145 < (l.length : Int) then (some ((rd_T33 l t145).f0)) else (none)) else (none)) else (some false))) (refDecides_ev a l y hl hy hn) (Ev.all fun k => ?_)
  obtain ⟨h1, h2⟩ := idxI_lt (fun x => fitsB x y.f0 y.f1 y.f2 y.f3 y.f4) l
  generalize idxI (fun x => fitsB x y.f0 y.f1 y.f2 y.f3 y.f4) l = i at *
  by_cases h3 : 0 ≤ i
  · simp [h3, h1]
  · simp [h3]
theorem permits_some (a : ByteArray) (l : List S33) (y : S40) : filter_Permits.f a l y.f0 y.f1 y.f2 y.f3 y.f4 = some (if checkF l = 0 then (permB l y, 0) else (false, checkF l)) := by
  unfold filter_Permits.f filter_Decides.f decidesF permB
  simp only [Option.bind_some]
  by_cases h : checkF l = 0
  · simp only [h, if_true]
    obtain ⟨h1, h2⟩ := idxI_lt (fun x => fitsB x y.f0 y.f1 y.f2 y.f3 y.f4) l
    generalize idxI (fun x => fitsB x y.f0 y.f1 y.f2 y.f3 y.f4) l = i at *
    by_cases h3 : 0 ≤ i
    · simp [h3, h1]
    · simp [h3]
  · simp [h]
theorem rules_loop (l : List S33) (hn : l.length ≤ 9223372036854775807) : ∀ d i : Nat, i + d = l.length → Ev (fun k => waymarkref10_Rules.l0 k l l (i : Int)) true
  | 0, i, h => Ev.step (f := fun _ => some true) (fun k => by simp only [waymarkref10_Rules.l0]; rw [if_neg (by omega)]) (Ev.now _)
  | d + 1, i, h => by
    have hi : i < l.length := by omega
    refine Ev.step (f := fun k => waymarkref10_Rules.l0 k l l ((i + 1 : Nat) : Int)) (fun k => ?_) (rules_loop l hn d (i + 1) (by omega))
    simp only [waymarkref10_Rules.l0]
    rw [if_pos (by omega), if_pos (by omega), if_pos (by omega), if_neg (by simp), w64 i l.length hi hn]
theorem rules_ev (l : List S33) (hn : l.length ≤ 9223372036854775807) : Ev (fun k => waymarkref10_Rules.f k l l) true :=
  Ev.congr (fun k => if_pos rfl) (rules_loop l hn l.length 0 (by omega))

end Go.Proofs.Ytmoagoopdfpcnaa.Q
