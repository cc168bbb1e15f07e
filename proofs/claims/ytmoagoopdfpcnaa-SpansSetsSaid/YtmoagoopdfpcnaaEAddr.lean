/- Prefixes: the reference's check and membership, in numbers, are the program's. Plain arithmetic. -/
import Derived.Test.YtmoagoopdfpcnaaQx3
import Derived.Test.YtmoagoopdfpcnaaQx9
import Derived.Test.YtmoagoopdfpcnaaEFilter
import Derived.Laws.BitsAllLaws
import Derived.Laws.BitsLemmas
namespace Go.Proofs.Ytmoagoopdfpcnaa.Q
open Go.RowKit Go.Proofs.YtmoagoopdfpcnaaW.PrintWords Go.Proofs.YtmoagoopdfpcnaaW.PrintLast Go.Proofs.YtmoagoopdfpcnaaW.PrintMore
set_option linter.unusedVariables false

/-- From some number of rounds on. -/
theorem Ev.eq {α : Type} {g : Nat → Option α} {r r' : α} (h : Ev g r) (e : r = r') : Ev g r' := e ▸ h
theorem Ev.all {α : Type} {g : Nat → Option α} {r : α} (h : ∀ k, g k = some r) : Ev g r := ⟨0, fun k _ => h k⟩

theorem hi_mask (a m : Nat) (ha : a < 4294967296) (hm : m ≤ 32) : a &&& (4294967295 - (2 ^ m - 1)) = a / 2 ^ m * 2 ^ m := by
  have e : 4294967295 - (2 ^ m - 1) = 2 ^ m * (2 ^ (32 - m) - 1) := by
    have h1 : 2 ^ m * 2 ^ (32 - m) = 4294967296 := by rw [← Nat.pow_add, show m + (32 - m) = 32 from by omega]
    have h2 : 0 < 2 ^ m := Nat.pow_pos (by omega)
    rw [Nat.mul_sub, h1, Nat.mul_one]
    omega
  rw [e]
  apply Nat.eq_of_testBit_eq
  intro i
  rw [Nat.testBit_and, Nat.testBit_two_pow_mul, Nat.testBit_two_pow_sub_one, Nat.mul_comm, Nat.testBit_two_pow_mul, Nat.testBit_div_two_pow]
  by_cases h : m ≤ i
  · rw [show i - m + m = i from by omega]
    by_cases h3 : i < 32
    · simp [h, show i - m < 32 - m from by omega]
    · have : a.testBit i = false := Nat.testBit_lt_two_pow (Nat.lt_of_lt_of_le ha (by rw [show (4294967296 : Nat) = 2 ^ 32 from rfl]; exact Nat.pow_le_pow_right (by omega) (by omega)))
      simp [this]
  · simp [h]

/-- How many addresses are in a prefix of b bits. -/
def sz (b : Int) : Nat := 2 ^ (32 - b).toNat
theorem sz_pos (b : Int) : 0 < sz b := Nat.pow_pos (by omega)
theorem sz_le (b : Int) (h0 : 0 ≤ b) : sz b ≤ 4294967296 := by
  unfold sz
  rw [show (4294967296 : Nat) = 2 ^ 32 from rfl]
  exact Nat.pow_le_pow_right (by omega) (by omega)
theorem behind_all : ∀ m : Fin 33, behindP (32 - (m.val : Int)) = ((2 ^ m.val - 1 : Nat) : Int) := by decide +kernel
theorem size_all : ∀ m : Fin 33, waymarkref01_size.f 40 (32 - (m.val : Int)) = some ((2 ^ m.val : Nat) : Int) := by decide +kernel
theorem bits_of (b : Int) (h0 : 0 ≤ b) (h1 : b ≤ 32) : ∃ m : Fin 33, b = 32 - (m.val : Int) ∧ (32 - b).toNat = m.val := ⟨⟨(32 - b).toNat, by omega⟩, by simp; omega, rfl⟩
theorem behind_sz (b : Int) (h0 : 0 ≤ b) (h1 : b ≤ 32) : behindP b = ((sz b - 1 : Nat) : Int) := by
  obtain ⟨m, hm, h2⟩ := bits_of b h0 h1
  unfold sz
  rw [h2, ← behind_all m, ← hm]
theorem size_ev (b : Int) (h0 : 0 ≤ b) (h1 : b ≤ 32) : Ev (fun k => waymarkref01_size.f k b) (sz b : Int) := by
  obtain ⟨m, hm, h2⟩ := bits_of b h0 h1
  refine Ev.of (k := 40) (fun k => waymarkref01_size.mono b k) ?_
  show waymarkref01_size.f 40 b = _
  unfold sz
  rw [h2, hm]
  exact size_all m

theorem chk_nums (a b : Int) (ha : 0 ≤ a ∧ a ≤ 4294967295) : chk a b = if b < 0 ∨ b > 32 then 1 else if a.toNat % sz b = 0 then 0 else 10 := by
  unfold chk
  by_cases h : b < 0 ∨ b > 32
  · rw [if_pos h, if_pos h]
  · rw [if_neg h, if_neg h, behind_sz b (by omega) (by omega)]
    have h1 := sz_le b (by omega)
    have h2 := sz_pos b
    rw [Go.u32_and a _ (by omega) (by omega) (by omega) (by omega), Int.toNat_natCast]
    unfold sz
    rw [Nat.and_two_pow_sub_one_eq_mod]
    generalize a.toNat % 2 ^ (32 - b).toNat = n
    by_cases h3 : n = 0
    · subst h3; rfl
    · rw [if_pos (by omega), if_neg h3]
theorem chk0 (a b : Int) (ha : 0 ≤ a ∧ a ≤ 4294967295) : chk a b = 0 ↔ (0 ≤ b ∧ b ≤ 32) ∧ a.toNat % sz b = 0 := by
  rw [chk_nums a b ha]
  by_cases h : b < 0 ∨ b > 32
  · rw [if_pos h]; omega
  · rw [if_neg h]
    by_cases h3 : a.toNat % sz b = 0 <;> simp [h3] <;> omega

theorem refCheck_ev (a b : Int) (ha : 0 ≤ a ∧ a ≤ 4294967295) : Ev (fun k => waymarkref01_Check.f k a b) (chk a b) := by
  rw [chk_nums a b ha]
  unfold waymarkref01_Check.f
  by_cases h0 : b < 0
  · simp only [h0, if_true, true_or]
    exact Ev.step (f := fun _ => some 1) (fun k => by simp [waymarkref01_Check.j0]) (Ev.now _)
  · by_cases h1 : b > 32
    · simp only [h0, h1, if_false, if_true, decide_true, or_true]
      exact Ev.step (f := fun _ => some 1) (fun k => by simp [waymarkref01_Check.j0]) (Ev.now _)
    · simp only [h0, h1, if_false, decide_false, or_self]
      refine Ev.step (f := fun k => (waymarkref01_size.f k b).bind fun t102 => (if t102 = 0 then (none) else (if (Int.tmod (IntKind.u64.wrap a) t102) = 0 then (some 0) else (some 10)))) (fun k => by simp [waymarkref01_Check.j0]) ?_
      refine Ev.bind (f := fun _ t102 => (if t102 = 0 then (none) else (if (Int.tmod (IntKind.u64.wrap a) t102) = 0 then (some 0) else (some 10)))) (size_ev b (by omega) (by omega)) ?_
      refine Ev.all fun k => ?_
      have h2 := sz_pos b
      rw [if_neg (by omega)]
      have e1 : IntKind.u64.wrap a = (a.toNat : Int) := by simp [IntKind.wrap, IntKind.bits, IntKind.signed]; omega
      have e2 : Int.tmod (IntKind.u64.wrap a) (sz b : Int) = ((a.toNat % sz b : Nat) : Int) := by
        rw [e1, Int.tmod_eq_emod_of_nonneg (by omega), Int.natCast_emod]
      rw [e2]
      generalize a.toNat % sz b = n
      by_cases h3 : n = 0
      · subst h3; rfl
      · rw [if_neg (by omega), if_neg h3]

theorem in_nums (x a b : Int) (hx : 0 ≤ x ∧ x ≤ 4294967295) (ha : 0 ≤ a ∧ a ≤ 4294967295) (h : chk a b = 0) : (Go.bits .andNot .u32 x (behindP b) == a) = decide (x ≥ a ∧ x - a < sz b) := by
  obtain ⟨⟨h0, h1⟩, hm⟩ := (chk0 a b ha).1 h
  have hs := sz_le b h0
  have hp := sz_pos b
  rw [behind_sz b h0 h1, Go.u32_andNot x _ (by omega) (by omega) (by omega) (by omega), Int.toNat_natCast]
  have e := hi_mask x.toNat (32 - b).toNat (by omega) (by omega)
  rw [show (2 : Nat) ^ (32 - b).toNat = sz b from rfl] at e
  rw [e]
  have hd := Nat.div_add_mod x.toNat (sz b)
  have hl := Nat.mod_lt x.toNat hp
  have hda := Nat.div_add_mod a.toNat (sz b)
  generalize sz b = s at *
  generalize x.toNat / s = q at *
  generalize a.toNat / s = qa at *
  rw [Bool.eq_iff_iff, beq_iff_eq, decide_eq_true_iff]
  have e3 : q * s = s * q := Nat.mul_comm _ _
  constructor
  · intro h5
    omega
  · rintro ⟨h5, h6⟩
    have : q = qa := by
      rcases Nat.lt_trichotomy q qa with h7 | h7 | h7
      · have h8 : s * (q + 1) ≤ s * qa := Nat.mul_le_mul_left _ h7
        rw [Nat.mul_add] at h8
        omega
      · exact h7
      · have h8 : s * (qa + 1) ≤ s * q := Nat.mul_le_mul_left _ h7
        rw [Nat.mul_add] at h8
        omega
    subst this
    omega

theorem refIn_ev (x a b : Int) (hx : 0 ≤ x ∧ x ≤ 4294967295) (ha : 0 ≤ a ∧ a ≤ 4294967295) : Ev (fun k => waymarkref01_In.f k x a b) (inB x a b) := by
  unfold waymarkref01_In.f inB
  refine Ev.bind (f := fun k t131 => (if t131 = 0 then (if x ≥ a then ((waymarkref01_size.f k b).bind fun t132 => (some (decide ((IntKind.u64.wrap ((IntKind.u64.wrap x) - (IntKind.u64.wrap a))) < t132)))) else (some false)) else (some false))) (refCheck_ev a b ha) ?_
  by_cases h : chk a b = 0
  · obtain ⟨⟨h0, h1⟩, hm⟩ := (chk0 a b ha).1 h
    simp only [h, if_true, decide_true, Bool.true_and]
    rw [in_nums x a b hx ha h]
    by_cases h2 : x ≥ a
    · simp only [h2, if_true, true_and]
      refine Ev.bind (f := fun _ t132 => some (decide ((IntKind.u64.wrap ((IntKind.u64.wrap x) - (IntKind.u64.wrap a))) < t132))) (size_ev b h0 h1) (Ev.all fun k => ?_)
      congr 2
      simp [IntKind.wrap, IntKind.bits, IntKind.signed]
      omega
    · simp only [h2, if_false, false_and, decide_false]
      exact Ev.now _
  · simp only [h, if_false, decide_false, Bool.false_and]
    exact Ev.now _

end Go.Proofs.Ytmoagoopdfpcnaa.Q
