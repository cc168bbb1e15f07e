/- Functions of Go's library on texts, as the printed texts ask them: strings.Cut, Split, Join, strconv.Itoa, FormatUint. -/
import Derived.Test.YtmoagoopdfpcnaaDoorVAll
import Derived.Test.YtmoagoopdfpcnaaDoorEGl
namespace Go.Proofs.YtmoagoopdfpcnaaDoor.Q
open Go.RowKit Go.Proofs.YtmoagoopdfpcnaaDoorW.PrintWords
set_option linter.unusedVariables false
set_option linter.unusedSimpArgs false

theorem below_grow {w : World} (q : Nat) (os : Array Obj) : Below w.heap.size w (Sort.grow (w.drewN q) os) :=
  ⟨rfl, rfl, rfl, by simp [Sort.grow], fun i hi => by
    show ((w.drewN q).heap ++ os)[i]? = _
    rw [Array.getElem?_append_left (by show i < w.heap.size; omega)]
    rfl⟩

/-! ### strconv.Itoa -/
def strconv_Itoa.f (a0 : Int) : Option ByteArray := if -9223372036854775808 ≤ a0 ∧ a0 ≤ 9223372036854775807 then some ⟨(Lib.itoa a0).toArray⟩ else none
theorem strconv_Itoa.calls (a0 : Int) (r : ByteArray) (w : World) (hG : Gl w) (h : strconv_Itoa.f a0 = some r) :
    Calls Tryd.prog 45 #[.int .i64 a0] w fun e w' => e = .returned (.string r) ∧ Below w.heap.size w w' := by
  unfold strconv_Itoa.f at h
  split at h
  · rename_i hb
    cases h
    refine (Tryd.strconv_Itoa a0 hb.1 hb.2 w hG.tab).mono ?_
    rintro e w' ⟨he, k, os, rfl⟩
    exact ⟨he, below_grow k os⟩
  · cases h

/-! ### strings.Cut -/
def strings_Cut.f (a0 a1 : ByteArray) : Option (ByteArray × ByteArray × Bool) :=
  if a0.size < 4294967281 then some (⟨(Lib.cut a0.data.toList a1.data.toList).1.toArray⟩, ⟨(Lib.cut a0.data.toList a1.data.toList).2.1.toArray⟩, (Lib.cut a0.data.toList a1.data.toList).2.2) else none
theorem strings_Cut.calls (a0 a1 : ByteArray) (r1 r2 : ByteArray) (r3 : Bool) (w : World) (hG : Gs w) (h : strings_Cut.f a0 a1 = some (r1, r2, r3)) :
    Calls Tryd.prog 41 #[.string a0, .string a1] w fun e w' => e = .returned (.tuple #[.string r1, .string r2, .bool r3]) ∧ Below w.heap.size w w' := by
  unfold strings_Cut.f at h
  split at h
  · rename_i hb
    cases h
    obtain ⟨m, hm⟩ := hG.max
    refine (Tryd.strings_Cut a0 a1 m w hb hm).mono ?_
    rintro e w' ⟨he, n, rfl⟩
    exact ⟨he, pw_below_drewN (Below.refl _ _) n⟩
  · cases h

/-! ### strings.Split -/
theorem row_strings (W : World) (xs : List ByteArray) (hl : xs.length ≤ 9223372036854775807) : Kd.R Kd.string 9 (W.alloc (.cells (xs.map Value.string).toArray 9)) W.heap.size (fun _ => True) (.slice (some ⟨W.heap.size, 0, none⟩) xs.length xs.length) xs := by
  refine ⟨fun _ _ => trivial, xs.map Value.string, ⟨by show (xs.map Value.string).length = xs.length * 1; simp, Or.inr ⟨W.heap.size, xs.length, (xs.map Value.string).toArray, rfl, Nat.le_refl _, blk_new W _, Nat.le_refl _, by unfold maxLen; omega, by show (xs.map Value.string).toArray.size = xs.length * 1; simp, ?_⟩⟩, ⟨by show (xs.map Value.string).length = xs.length * 1; simp, fun j p hj => ?_⟩⟩
  · show (xs.map Value.string).take (xs.length * 1) = xs.map Value.string
    rw [List.take_of_length_le (by simp)]
  · show ((xs.map Value.string).drop (j * 1)).take 1 = [Value.string p]
    have hjl := (List.getElem?_eq_some_iff.1 hj).1
    rw [Nat.mul_one, List.drop_eq_getElem_cons (by simpa using hjl), List.take_succ_cons, List.take_zero, List.getElem_map]
    rw [List.getElem?_eq_getElem hjl] at hj
    rw [Option.some.inj hj]
def strings_Split.f (a0 a1 : ByteArray) : Option (List ByteArray) := if a0.size < 4294967281 ∧ 1 ≤ a1.size then some (Lib.splitB a1 0 (Lib.countB a0 a1) a0) else none
theorem strings_Split.calls (a0 a1 : ByteArray) (r : List ByteArray) (w : World) (hG : Gs w) (h : strings_Split.f a0 a1 = some r) :
    Calls Tryd.prog 53 #[.string a0, .string a1] w fun e w' => ∃ v0_ : Value, e = .returned (v0_) ∧ Kd.R Kd.string 9 w' w.heap.size (fun _ => True) v0_ r ∧ Below w.heap.size w w' := by
  unfold strings_Split.f at h
  split at h
  · rename_i hb
    cases h
    obtain ⟨m, hm⟩ := hG.max
    refine (Tryd.strings_Split a0 a1 m w hb.1 hm hb.2).mono ?_
    rintro e w' ⟨he, rfl⟩
    have hl := Lib.splitB_all a1 hb.2 0 _ a0 rfl
    have hc := Lib.countB_le a1 hb.2 a0.size a0 (Nat.le_refl _)
    have hR := row_strings w (Lib.splitB a1 0 (Lib.countB a0 a1) a0) (by rw [hl]; omega)
    refine ⟨_, he, ?_, below_alloc (Below.refl _ _) _⟩
    rw [hl] at hR
    exact hR
  · cases h

/-! ### strings.Join -/
def strings_Join.f (l0 : List ByteArray) (a1 : ByteArray) : Option ByteArray :=
  if l0.length ≤ 140737488355328 ∧ (Lib.join (l0.map (·.data.toList)) a1.data.toList).length ≤ 140737488355328 then some ⟨(Lib.join (l0.map (·.data.toList)) a1.data.toList).toArray⟩ else none
theorem strings_Join.calls (A0 : Option Addr) (c0 : Nat) (l0 : List ByteArray) (a1 : ByteArray) (r : ByteArray) (w : World) (hr0 : Kd.C Kd.string w A0 l0.length l0) (hc0 : l0.length ≤ c0) (h : strings_Join.f l0 a1 = some r) :
    Calls Tryd.prog 50 #[.slice A0 l0.length c0, .string a1] w fun e w' => e = .returned (.string r) ∧ Below w.heap.size w w' := by
  unfold strings_Join.f at h
  split at h
  · rename_i hb
    cases h
    rcases Nat.eq_zero_or_pos l0.length with h0 | h0
    · have : l0 = [] := List.eq_nil_of_length_eq_zero h0
      subst this
      refine (Tryd.strings_Join_none A0 c0 a1 w).mono ?_
      rintro e w' ⟨he, rfl⟩
      exact ⟨he, Below.refl _ _⟩
    · obtain ⟨ad, rfl, hc⟩ := hr0.2.2 h0
      have hcell : ∀ (j : Nat) x, l0[j]? = some x → w.cell? (ad.add j) = some (.string x) := fun j x hj => by
        obtain ⟨c, hcl, hK, hcc⟩ := hc j x hj
        have hK' : c = [Value.string x] := hK
        have := hcc 0 (.string x) (by rw [hK']; rfl)
        rwa [Nat.add_zero, show j * Kd.string.sz = j from Nat.mul_one j] at this
      obtain ⟨x0, hx0⟩ : ∃ x, l0[0]? = some x := ⟨_, List.getElem?_eq_getElem h0⟩
      have hsp : ad.spot = none := by
        have h1 := hcell 0 x0 hx0
        obtain ⟨b, o, s⟩ := ad
        cases s with
        | none => rfl
        | some s =>
          simp [Addr.add, World.cell?] at h1
          split at h1
          · cases h1
          · rename_i hx
            exact absurd h1 (by simp)
      obtain ⟨b, o, s⟩ := ad
      cases hsp
      have hcell2 : ∀ (j : Nat) x, l0[j]? = some x → w.cell? ⟨b, o + j, none⟩ = some (.string x) := fun j x hj => by
        have := hcell j x hj
        rcases Nat.eq_zero_or_pos j with h | h
        · subst h; simpa [Addr.add] using this
        · simpa [Addr.add, Nat.ne_of_gt h] using this
      have hbk : b < w.heap.size := World.block_lt_of_cell? w _ (hcell2 0 x0 hx0)
      exact Tryd.strings_Join b o c0 l0 a1 w hcell2 hbk hb.1 hc0 hb.2
  · cases h
end Go.Proofs.YtmoagoopdfpcnaaDoor.Q
