/- strconv.ParseUint, Atoi as the walks ask them; a few bits. -/
import Derived.Test.YtmoagoopdfpcnaaDoorEStr
import Derived.Test.YtmoagoopdfpcnaaDoorEText
import Derived.Lib.AtoiErrMem
import Derived.Laws.BitsLemmas
namespace Go.Proofs.YtmoagoopdfpcnaaDoor.Q
open Go.RowKit Go.Proofs.YtmoagoopdfpcnaaDoorW.PrintWords Go.Proofs.YtmoagoopdfpcnaaDoor.Txt
set_option linter.unusedVariables false
set_option linter.unusedSimpArgs false

theorem wraps_u32 (n : Int) (h₀ : 0 ≤ n) (h₁ : n < 2 ^ 32) : IntKind.u32.wrap n = n := by rw [IntKind.wrap_u32]; omega
theorem u32_and16 {x : Int} (h₀ : 0 ≤ x) (h₁ : x < 4294967296) : bits .and .u32 x 65535 = x % 65536 := bits_mask .u32 32 (by decide) wraps_u32 16 (by decide) x h₀ h₁
theorem u32_or16 {x y : Int} (hx₀ : 0 ≤ x) (hx : x % 65536 = 0) (hx₁ : x < 4294967296) (h₀ : 0 ≤ y) (h₁ : y < 65536) : bits .or .u32 x y = x + y := bits_join .u32 32 (by decide) wraps_u32 16 x y hx₀ hx hx₁ h₀ h₁ (by omega)
theorem u32_or8 {x y : Int} (hx₀ : 0 ≤ x) (hx : x % 256 = 0) (hx₁ : x < 4294967296) (h₀ : 0 ≤ y) (h₁ : y < 256) : bits .or .u32 x y = x + y := bits_join .u32 32 (by decide) wraps_u32 8 x y hx₀ hx hx₁ h₀ h₁ (by omega)

theorem okU_some {B : Nat} {l : List UInt8} {u : Int} (h : okU B l = some u) : ∃ v : Nat, u = v ∧ Lib.parseUintB B l = .ok v ∧ v ≤ 2 ^ B - 1 := by
  unfold okU at h
  split at h
  · rename_i v hv
    cases h
    exact ⟨v, rfl, hv, Lib.parseUintB_le hv⟩
  · cases h
theorem okU_none {B : Nat} {l : List UInt8} (h : okU B l = none) : Lib.parseUintB B l = Lib.parseUintB B [] ∨ Lib.parseUintB B l = .range := by
  unfold okU at h
  split at h
  · cases h
  · rename_i hn
    cases hq : Lib.parseUintB B l with
    | ok v => exact absurd hq (hn v)
    | range => exact .inr rfl
    | _ => exact .inl rfl
/-! ### ParseUint at base 10, 8 bits -/
theorem pu_good8 (s : ByteArray) (hs : s.size ≤ 281474976710656) (u : Int) (h : okU 8 s.data.toList = some u) (w : World) :
    Calls Tryd.prog 42 #[.string s, .int .i64 10, .int .i64 8] w fun e w' => e = .returned (.tuple #[.int .u64 u, .nilIface]) ∧ Below w.heap.size w w' := by
  obtain ⟨v, rfl, hv, _⟩ := okU_some h
  refine (Tryd.strconv_ParseUint_10_at8_ok s (by omega) v hv w).mono ?_
  rintro e w' ⟨he, rfl | rfl⟩
  · exact ⟨he, Below.refl _ _⟩
  · exact ⟨he, Lib.bytesWorld_below _ _ _⟩
theorem pu_bad8 (s : ByteArray) (hs : s.size ≤ 281474976710656) (h : okU 8 s.data.toList = none) (w : World) (hG : Gs w) :
    Calls Tryd.prog 42 #[.string s, .int .i64 10, .int .i64 8] w fun e w' => ∃ (x : Int) (N : Nat), e = .returned (.tuple #[.int .u64 x, .iface 165 (.pointer (some ⟨N, 0, none⟩))]) ∧ Below w.heap.size w w' := by
  rcases okU_none h with hq | hq
  · obtain ⟨tp, p, hv⟩ := hG.syn
    exact (Tryd.strconv_ParseUint_10_at8_syntax_var s hs hq tp p w hv).mono fun e w' ⟨N, he, _, _, hb⟩ => ⟨_, N, he, hb⟩
  · obtain ⟨tp, p, hv⟩ := hG.rng
    exact (Tryd.strconv_ParseUint_10_at8_range_var s hs hq tp p w hv).mono fun e w' ⟨N, he, _, _, hb⟩ => ⟨_, N, he, hb⟩
/-! ### ParseUint at base 10, 16 bits -/
theorem pu_good16 (s : ByteArray) (hs : s.size ≤ 281474976710656) (u : Int) (h : okU 16 s.data.toList = some u) (w : World) :
    Calls Tryd.prog 42 #[.string s, .int .i64 10, .int .i64 16] w fun e w' => e = .returned (.tuple #[.int .u64 u, .nilIface]) ∧ Below w.heap.size w w' := by
  obtain ⟨v, rfl, hv, _⟩ := okU_some h
  refine (Tryd.strconv_ParseUint_10_at16_ok s (by omega) v hv w).mono ?_
  rintro e w' ⟨he, rfl | rfl⟩
  · exact ⟨he, Below.refl _ _⟩
  · exact ⟨he, Lib.bytesWorld_below _ _ _⟩
theorem pu_bad16 (s : ByteArray) (hs : s.size ≤ 281474976710656) (h : okU 16 s.data.toList = none) (w : World) (hG : Gs w) :
    Calls Tryd.prog 42 #[.string s, .int .i64 10, .int .i64 16] w fun e w' => ∃ (x : Int) (N : Nat), e = .returned (.tuple #[.int .u64 x, .iface 165 (.pointer (some ⟨N, 0, none⟩))]) ∧ Below w.heap.size w w' := by
  rcases okU_none h with hq | hq
  · obtain ⟨tp, p, hv⟩ := hG.syn
    exact (Tryd.strconv_ParseUint_10_at16_syntax_var s hs hq tp p w hv).mono fun e w' ⟨N, he, _, _, hb⟩ => ⟨_, N, he, hb⟩
  · obtain ⟨tp, p, hv⟩ := hG.rng
    exact (Tryd.strconv_ParseUint_10_at16_range_var s hs hq tp p w hv).mono fun e w' ⟨N, he, _, _, hb⟩ => ⟨_, N, he, hb⟩
/-! ### ParseUint at base 10, 32 bits -/
theorem pu_good32 (s : ByteArray) (hs : s.size ≤ 281474976710656) (u : Int) (h : okU 32 s.data.toList = some u) (w : World) :
    Calls Tryd.prog 42 #[.string s, .int .i64 10, .int .i64 32] w fun e w' => e = .returned (.tuple #[.int .u64 u, .nilIface]) ∧ Below w.heap.size w w' := by
  obtain ⟨v, rfl, hv, _⟩ := okU_some h
  refine (Tryd.strconv_ParseUint_10_at32_ok s (by omega) v hv w).mono ?_
  rintro e w' ⟨he, rfl | rfl⟩
  · exact ⟨he, Below.refl _ _⟩
  · exact ⟨he, Lib.bytesWorld_below _ _ _⟩
theorem pu_bad32 (s : ByteArray) (hs : s.size ≤ 281474976710656) (h : okU 32 s.data.toList = none) (w : World) (hG : Gs w) :
    Calls Tryd.prog 42 #[.string s, .int .i64 10, .int .i64 32] w fun e w' => ∃ (x : Int) (N : Nat), e = .returned (.tuple #[.int .u64 x, .iface 165 (.pointer (some ⟨N, 0, none⟩))]) ∧ Below w.heap.size w w' := by
  rcases okU_none h with hq | hq
  · obtain ⟨tp, p, hv⟩ := hG.syn
    exact (Tryd.strconv_ParseUint_10_at32_syntax_var s hs hq tp p w hv).mono fun e w' ⟨N, he, _, _, hb⟩ => ⟨_, N, he, hb⟩
  · obtain ⟨tp, p, hv⟩ := hG.rng
    exact (Tryd.strconv_ParseUint_10_at32_range_var s hs hq tp p w hv).mono fun e w' ⟨N, he, _, _, hb⟩ => ⟨_, N, he, hb⟩
/-! ### Atoi -/
theorem atoi_good (s : ByteArray) (hs : s.size ≤ 281474976710656) (v : Int) (h : Lib.atoiAll s.data.toList = .ok v) (w : World) :
    Calls Tryd.prog 132 #[.string s] w fun e w' => e = .returned (.tuple #[.int .i64 v, .nilIface]) ∧ Below w.heap.size w w' := by
  refine (Tryd.strconv_Atoi_ok s (by omega) v h w).mono ?_
  rintro e w' ⟨he, rfl | ⟨t, rfl⟩⟩
  · exact ⟨he, Below.refl _ _⟩
  · exact ⟨he, Lib.bytesWorld_below _ _ _⟩
/-- The number beside the error. -/
def badN (l : List UInt8) : Int := match Lib.atoiAll l with
  | .range => Lib.atoiSat l
  | _ => 0
theorem atoi_bad (s : ByteArray) (hs : s.size ≤ 281474976710656) (h : ∀ v, Lib.atoiAll s.data.toList ≠ .ok v) (w : World) (hG : Gs w) :
    Calls Tryd.prog 132 #[.string s] w fun e w' => ∃ (N : Nat), e = .returned (.tuple #[.int .i64 (badN s.data.toList), .iface 165 (.pointer (some ⟨N, 0, none⟩))]) ∧ Below w.heap.size w w' := by
  unfold badN
  cases hq : Lib.atoiAll s.data.toList with
  | ok v => exact absurd hq (h v)
  | range =>
    obtain ⟨tp, p, hv⟩ := hG.rng
    exact (Tryd.strconv_Atoi_range_var s hs hq tp p w hv).mono fun e w' ⟨N, he, _, _, hb⟩ => ⟨N, he, hb⟩
  | _ =>
    obtain ⟨tp, p, hv⟩ := hG.syn
    exact (Tryd.strconv_Atoi_syntax_var s hs hq tp p w hv).mono fun e w' ⟨N, he, _, _, hb⟩ => ⟨N, he, hb⟩
theorem eq_bytes (l : List UInt8) (s : ByteArray) : ((⟨l.toArray⟩ : ByteArray).toList == s.toList) = decide (l = s.data.toList) := by
  rw [ByteArray.toList_eq, ByteArray.toList_eq, Bool.eq_iff_iff]
  simp
end Go.Proofs.YtmoagoopdfpcnaaDoor.Q
