/- FilterBack's law: the plain law. -/
import Derived.Test.YtmoagoopdfpcnaaDoorEFLawC
import Derived.Test.YtmoagoopdfpcnaaDoorQx29
namespace Go.Proofs.YtmoagoopdfpcnaaDoor.Q
open Go.RowKit Go.Proofs.YtmoagoopdfpcnaaDoorW.PrintWords Go.Proofs.YtmoagoopdfpcnaaDoor.Txt
set_option linter.unusedVariables false
set_option linter.unusedSimpArgs false
set_option maxRecDepth 100000 in
theorem awake10 : waymarklaw10_awake.f = some true := by kernel_rfl
theorem fparse_some {s : ByteArray} (hs : s.size < 4294967281) : filter_Parse.f s = some (match ruleF (bl s) with | some r => outR r | none => outZ) := by
  unfold filter_Parse.f
  rw [if_pos hs]
  show (match ruleF (bl s) with | some r => some (outR r) | none => some outZ) = _
  cases ruleF (bl s) <;> rfl
theorem back_j1 {s : ByteArray} (hs : s.size < 4294967281) {k : Nat} (hk : 3 ≤ k) : waymarklaw10_FilterBack.j1 (k + 1) s = some true := by
  rw [waymarklaw10_FilterBack.j1, fparse_some hs]
  simp only [Option.bind_some]
  cases hq : ruleF (bl s) with
  | none => rfl
  | some r =>
    obtain ⟨hm, hb, hk2⟩ := rule_says hq
    have ht := text_good hk hk2 hm
    simp only [outR, if_true, ht, Option.bind_some, Option.some.injEq]
    rw [hb, mk_bl]
    exact beq_self_eq_true _
theorem back_some {r : Rule} (h : kindR r) (s : ByteArray) : waymarklaw10_FilterBack.f 10 r.permit r.proto r.src.1 r.src.2 r.dst.1 r.dst.2 r.sp.1 r.sp.2 r.dp.1 r.dp.2 s = some true := by
  unfold waymarklaw10_FilterBack.f
  by_cases hz : (s.size : Int) > 2000
  · rw [if_pos hz, waymarklaw10_FilterBack.j0, if_pos rfl, awake10]
    rfl
  · rw [if_neg hz, awake10]
    simp only [Option.bind_some, Bool.not_true]
    have hs : s.size < 4294967281 := by omega
    rw [waymarklaw10_FilterBack.j0, if_neg (by decide)]
    cases hm : mayF r with
    | false =>
      rw [text_bad (by omega) h hm]
      simp only [Option.bind_some]
      rw [if_neg (by decide)]
      exact back_j1 hs (by omega)
    | true =>
      rw [text_good (by omega) h hm]
      simp only [Option.bind_some, if_true]
      have hl := rule_short h hm
      have hsz : (⟨(ruleB r).toArray⟩ : ByteArray).size < 4294967281 := by rw [ba_size]; omega
      rw [fparse_some hsz, bl_mk, rule_back h hm]
      simp only [Option.bind_some, outR, if_true]
      rw [if_neg (by simp)]
      exact back_j1 hs (by omega)
end Go.Proofs.YtmoagoopdfpcnaaDoor.Q
