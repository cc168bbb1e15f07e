/- FilterDecides: for every filter, every list of headers and every rule the law answers true. -/
import Derived.Test.YtmoagoopdfpcnaaRows
import Derived.Test.YtmoagoopdfpcnaaEPFilterLaw
import Derived.Test.YtmoagoopdfpcnaaEOp
import Derived.WalkKit
import Derived.ProofKit
import Derived.OpenShut
import Derived.ShutString
import Derived.ChangeOld
import Derived.Below
import Derived.SizedLaws
namespace Go.Proofs.Ytmoagoopdfpcnaa.filterDecides
open Go.ChangeShapes Go.WideShapes Go.ChangeAt Go.RowKit Go.Proofs.YtmoagoopdfpcnaaW.PrintWords Go.Proofs.Ytmoagoopdfpcnaa.Q
open Go.ChangeMaps (open_string shut_string)
set_option linter.unusedVariables false
theorem own : ownKnob Try.prog.godebug = none := by kernel_rfl
theorem laidOut : laidOutB Try.prog = true := by kernel_rfl

theorem walk (a0_0 : ByteArray) (A0_1 : Option Addr) (c0_1 : Nat) (l0_1 : List S33) (A1 : Option Addr) (c1 : Nat) (l1 : List S40) (x2 : S33) (w : World)
    (hr0_1 : Kd.C k33 w A0_1 l0_1.length l0_1) (hc0_1 : l0_1.length ≤ c0_1) (ho0 : ∀ x ∈ l0_1, ok33 x) (hr1 : Kd.C k40 w A1 l1.length l1) (hc1 : l1.length ≤ c1) (ho1 : ∀ x ∈ l1, ok40 x) (ho2 : ok33 x2) :
    Calls Try.prog 3 #[.agg #[.string a0_0, .slice A0_1 l0_1.length c0_1], .slice A1 l1.length c1, .agg #[.bool x2.f0, .int .i64 x2.f1, .int .u32 x2.f2.f0, .int .i64 x2.f2.f1, .int .u32 x2.f3.f0, .int .i64 x2.f3.f1, .int .u32 x2.f4.f0, .int .u32 x2.f4.f1, .int .u32 x2.f5.f0, .int .u32 x2.f5.f1]] w fun e w' => e = .returned (.bool true) ∧ Below w.heap.size w w' := by
  have hm : l1.length ≤ 9223372036854775807 := hr1.2.1
  by_cases h : l0_1.length ≤ 300
  · obtain ⟨k, hk⟩ := (fd_E a0_0 l0_1 l1 x2 ho0 h ho1 hm ho2).rounds
    exact waymarklaw10_FilterDecides_E.calls k a0_0 A0_1 c0_1 l0_1 A1 c1 l1 _ _ _ _ _ _ _ _ _ _ true w hr0_1 hc0_1 hr1 hc1 hk
  · obtain ⟨k, hk⟩ := (fd_T a0_0 l0_1 l1 x2 ho0 (by omega) ho1 hm ho2).rounds
    exact waymarklaw10_FilterDecides_T.calls k a0_0 A0_1 c0_1 l0_1 A1 c1 l1 _ _ _ _ _ _ _ _ _ _ true w hr0_1 hc0_1 hr1 hc1 hk

set_option maxRecDepth 100000 in
theorem lifted (os : Os) (started : os.Started) (H : Type) (enc : TypeId × Value → H) :
    ReturnsInHanded {} Try.checked os 3 .any (Rows.filterDecidesSpec.pre6 enc Try.prog Try.f3 Rows.filterDecidesRow.domain false) (Rows.filterDecidesSpec.post enc Try.prog Try.f3 false true false false) := by
  refine returnsInHanded_of_change_sized (C := Try.checked) own started (by kernel_rfl) Try.func3
    (ChangeSpec.witness6 (enc := enc) (C := Try.checked) false ⟨#[], #[.agg #[.string ByteArray.empty, .slice none 0 0], .slice none 0 0, .agg #[.bool false, .int .i64 0, .int .u32 0, .int .i64 0, .int .u32 0, .int .i64 0, .int .u32 0, .int .u32 0, .int .u32 0, .int .u32 0]], []⟩ 8 (by kernel_rfl) (by kernel_rfl) (by kernel_rfl) (by kernel_rfl)) ?_
  intro W base args ds gs before hval0 hW hcnd hsz0 _
  have hval : ∀ (j : Nat) t v, Try.f3.params[j]? = some t → args[j]? = some v → Value.okWide Try.prog W .any base t v := hval0
  have hW' := hW
  obtain ⟨p, q, hA0, hV, rfl, hfz, hnd⟩ := hW
  have hA : DataW.TrodAll enc Try.prog W 0 (fun _ => true) true Try.f3.params.toList args.toList ds p := hA0
  rw [Try.params3] at hA hval
  obtain ⟨v0, vs0, d0, ds0, p0, q0, hargs, rfl, rfl, h0, r0⟩ := trodAll_cons hA
  obtain ⟨v1, vs1, d1, ds1, p1, q1, rfl, rfl, rfl, h1, r1⟩ := trodAll_cons r0
  obtain ⟨v2, vs2, d2, ds2, p2, q2, rfl, rfl, rfl, h2, r2⟩ := trodAll_cons r1
  obtain ⟨rfl, rfl, rfl⟩ := trodAll_nil r2
  obtain rfl : args = #[v0, v1, v2] := by cases args; simp_all
  obtain ⟨rfl, rfl⟩ := trodVars_none hV
  have lt0 : ∀ x ∈ p0, x.block < W.heap.size := by obtain ⟨m, hm⟩ := h0; exact DataW.trod_lt m _ _ _ hm
  have lt1 : ∀ x ∈ p1, x.block < W.heap.size := by obtain ⟨m, hm⟩ := h1; exact DataW.trod_lt m _ _ _ hm
  have lt2 : ∀ x ∈ p2, x.block < W.heap.size := by obtain ⟨m, hm⟩ := h2; exact DataW.trod_lt m _ _ _ hm
  obtain ⟨y0, ⟨_, _, e0, rfl, ⟨A0_1, c0_1, rfl, hc0_1, hr0_1⟩⟩, _, _, ho0⟩ := Opens.arg op24 h0
  obtain ⟨l1, ⟨A1, c1, e1, hc1, hr1⟩, _, ho1⟩ := Opens.arg (Opens.slice Try.underlying25 cel40 op40) h1
  obtain ⟨x2, hk2, ho2⟩ := Opens.arg op33 h2
  have e2 := k33_open hk2
  obtain rfl := arg_struct Try.underlying24 (hval 0 24 v0 rfl rfl) e0
  obtain rfl := arg_slice Try.underlying25 (hval 1 25 v1 rfl rfl) e1
  obtain rfl := arg_struct Try.underlying33 (hval 2 33 v2 rfl rfl) e2
  clear hA0 hval0 hsz0
  refine (walk _ A0_1 c0_1 _ A1 c1 l1 x2 W hr0_1 hc0_1 ho0 hr1 hc1 ho1 ho2).mono fun e W' ⟨he, bel⟩ => ?_
  subst he
  exact ⟨_, rfl, _, _, _, [], _, [], hW', trodAll_mk1 (shut_bool Try.underlying4 _), (trodAll_cons_mk (Below.trod laidOut (by kernel_rfl) (of_decide_eq_true (by kernel_rfl)) h0 bel lt0) (trodAll_cons_mk (Below.trod laidOut (by kernel_rfl) (of_decide_eq_true (by kernel_rfl)) h1 bel lt1) (trodAll_cons_mk (Below.trod laidOut (by kernel_rfl) (of_decide_eq_true (by kernel_rfl)) h2 bel lt2) trodAll_mk0))), rfl, bel.frame _, fun h => by cases h⟩

theorem over : Rows.filterDecidesRow.holds Try.pinned (OpenSpec.ofChange Rows.filterDecidesSpec) :=
  OpenClaim.holds_of_wide 3 Try.f3 rfl rfl rfl rfl rfl rfl rfl ⟨rfl, rfl, rfl, rfl, rfl⟩ rfl rfl rfl rfl rfl (by kernel_rfl) Try.func3 (by kernel_rfl)
    (of_decide_eq_true (by kernel_rfl)) (by unfold Func.isWrapper; first | (rw [if_pos (by decide +kernel)]; kernel_rfl) | (rw [if_neg (by decide +kernel)]; exact ⟨rfl, rfl⟩))
    (fun os started H enc _ => lifted os started H enc)
theorem proved : Rows.FilterDecidesSaid := over
end Go.Proofs.Ytmoagoopdfpcnaa.filterDecides
namespace Go.Proofs.Ytmoagoopdfpcnaa
/-- The row, under a short name, for the claim. -/
theorem filterDecides_holds : Rows.FilterDecidesSaid := filterDecides.proved
end Go.Proofs.Ytmoagoopdfpcnaa
