/- strconv.ParseUint at base 10 as the printed texts of filter.Parse and spans.Parse ask it. -/
import Derived.Test.YtmoagoopdfpcnaaDoorEPu
namespace Go.Proofs.YtmoagoopdfpcnaaDoor.Q
open Go.RowKit Go.Proofs.YtmoagoopdfpcnaaDoorW.PrintWords Go.Proofs.YtmoagoopdfpcnaaDoor.Txt
set_option linter.unusedVariables false
set_option linter.unusedSimpArgs false

def strconv_ParseUint.f (s : ByteArray) (b n : Int) : Option (Int × Option Int) :=
  if b = 10 ∧ (n = 8 ∨ n = 32) ∧ s.size ≤ 281474976710656 then (match okU n.toNat s.data.toList with
    | some u => some (u, none)
    | none => some (0, some 0)) else none
theorem strconv_ParseUint.good (s : ByteArray) (b n u : Int) (o : Option Int) (w : World) (hG : Gs w) (h : strconv_ParseUint.f s b n = some (u, none)) :
    Calls Tryd.prog 42 #[.string s, .int .i64 b, .int .i64 n] w fun e w' => e = .returned (.tuple #[.int .u64 u, .nilIface]) ∧ Below w.heap.size w w' := by
  unfold strconv_ParseUint.f at h
  split at h
  · rename_i hc
    obtain ⟨rfl, hn, hs⟩ := hc
    cases hq : okU n.toNat s.data.toList with
    | none => rw [hq] at h; cases h
    | some v =>
      rw [hq] at h
      simp only [Option.some.injEq, Prod.mk.injEq, and_true] at h
      subst h
      rcases hn with rfl | rfl
      · exact pu_good8 s hs v hq w
      · exact pu_good32 s hs v hq w
  · cases h
theorem strconv_ParseUint.bad (s : ByteArray) (b n u : Int) (o : Option Int) (w : World) (hG : Gs w) (q : Int) (h : strconv_ParseUint.f s b n = some (u, some q)) :
    Calls Tryd.prog 42 #[.string s, .int .i64 b, .int .i64 n] w fun e w' => ∃ (x : Int) (N : Nat), e = .returned (.tuple #[.int .u64 x, .iface 165 (.pointer (some ⟨N, 0, none⟩))]) ∧ Below w.heap.size w w' := by
  unfold strconv_ParseUint.f at h
  split at h
  · rename_i hc
    obtain ⟨rfl, hn, hs⟩ := hc
    cases hq : okU n.toNat s.data.toList with
    | some v => rw [hq] at h; simp at h
    | none =>
      rcases hn with rfl | rfl
      · exact pu_bad8 s hs hq w hG
      · exact pu_bad32 s hs hq w hG
  · cases h
theorem strconv_ParseUint.any (s : ByteArray) (b n u : Int) (o : Option Int) (w : World) (hG : Gs w) (h : strconv_ParseUint.f s b n = some (u, o)) :
    Calls Tryd.prog 42 #[.string s, .int .i64 b, .int .i64 n] w fun e w' => ∃ (x : Int) (v : Value), e = .returned (.tuple #[.int .u64 x, v]) ∧ Below w.heap.size w w' := by
  cases o with
  | none => exact (strconv_ParseUint.good s b n u none w hG h).mono fun e w' ⟨he, hb⟩ => ⟨u, _, he, hb⟩
  | some q => exact (strconv_ParseUint.bad s b n u none w hG q h).mono fun e w' ⟨x, N, he, hb⟩ => ⟨x, _, he, hb⟩
end Go.Proofs.YtmoagoopdfpcnaaDoor.Q
