/- SpansSets: for every two sets and every two numbers the law answers true. -/
import Derived.Test.YtmoagoopdfpcnaaRows
import Derived.Test.YtmoagoopdfpcnaaEPSets
import Derived.Test.YtmoagoopdfpcnaaEOp
import Derived.WalkKit
import Derived.ProofKit
import Derived.OpenShut
import Derived.ShutString
import Derived.ChangeOld
import Derived.Below
import Derived.SizedLaws
namespace Go.Proofs.Ytmoagoopdfpcnaa.spansSets
open Go.ChangeShapes Go.WideShapes Go.ChangeAt Go.RowKit Go.Proofs.YtmoagoopdfpcnaaW.PrintWords Go.Proofs.Ytmoagoopdfpcnaa.Q
open Go.ChangeMaps (open_string shut_string)
set_option linter.unusedVariables false
theorem own : ownKnob Try.prog.godebug = none := by kernel_rfl
theorem laidOut : laidOutB Try.prog = true := by kernel_rfl

theorem arg_int {P : Program} {w : World} {r : Reach} {b0 : Nat} {t : TypeId} {k : IntKind} {v : Value} (ht : P.underlying t = some (.int k)) (hv : Value.okWide P w r b0 t v) {n : Int} (h : v.cells.toList = [.int k n]) : v = .int k n := by
  obtain ⟨m, rfl⟩ := okWide_int ht hv
  simpa [Value.cells] using h

theorem walk (A0 : Option Addr) (c0 : Nat) (l0 : List S31) (A1 : Option Addr) (c1 : Nat) (l1 : List S31) (m x : Int) (w : World)
    (hr0 : Kd.C k31 w A0 l0.length l0) (hc0 : l0.length ≤ c0) (ho0 : ∀ y ∈ l0, ok31 y) (hr1 : Kd.C k31 w A1 l1.length l1) (hc1 : l1.length ≤ c1) (ho1 : ∀ y ∈ l1, ok31 y) (hm : (Lit.int .u32 m).wf = true) (hx : (Lit.int .u32 x).wf = true) :
    Calls Try.prog 7 #[.slice A0 l0.length c0, .slice A1 l1.length c1, .int .u32 m, .int .u32 x] w fun e w' => e = .returned (.bool true) ∧ Below w.heap.size w w' := by
  have hm := bounds_u32 hm
  have hx := bounds_u32 hx
  exact sets_law A0 c0 l0 A1 c1 l1 m x w hr0 hc0 ho0 hr1 hc1 ho1 hm.1 hm.2

set_option maxRecDepth 100000 in
theorem lifted (os : Os) (started : os.Started) (H : Type) (enc : TypeId × Value → H) :
    ReturnsInHanded {} Try.checked os 7 .any (Rows.spansSetsSpec.pre6 enc Try.prog Try.f7 Rows.spansSetsRow.domain false) (Rows.spansSetsSpec.post enc Try.prog Try.f7 false true false false) := by
  refine returnsInHanded_of_change_sized (C := Try.checked) own started (by kernel_rfl) Try.func7
    (ChangeSpec.witness6 (enc := enc) (C := Try.checked) false ⟨#[], #[.slice none 0 0, .slice none 0 0, .int .u32 0, .int .u32 0], []⟩ 8 (by kernel_rfl) (by kernel_rfl) (by kernel_rfl) (by kernel_rfl)) ?_
  intro W base args ds gs before hval0 hW hcnd hsz0 _
  have hval : ∀ (j : Nat) t v, Try.f7.params[j]? = some t → args[j]? = some v → Value.okWide Try.prog W .any base t v := hval0
  have hW' := hW
  obtain ⟨p, q, hA0, hV, rfl, hfz, hnd⟩ := hW
  have hA : DataW.TrodAll enc Try.prog W 0 (fun _ => true) true Try.f7.params.toList args.toList ds p := hA0
  rw [Try.params7] at hA hval
  obtain ⟨v0, vs0, d0, ds0, p0, q0, hargs, rfl, rfl, h0, r0⟩ := trodAll_cons hA
  obtain ⟨v1, vs1, d1, ds1, p1, q1, rfl, rfl, rfl, h1, r1⟩ := trodAll_cons r0
  obtain ⟨v2, vs2, d2, ds2, p2, q2, rfl, rfl, rfl, h2, r2⟩ := trodAll_cons r1
  obtain ⟨v3, vs3, d3, ds3, p3, q3, rfl, rfl, rfl, h3, r3⟩ := trodAll_cons r2
  obtain ⟨rfl, rfl, rfl⟩ := trodAll_nil r3
  obtain rfl : args = #[v0, v1, v2, v3] := by cases args; simp_all
  obtain ⟨rfl, rfl⟩ := trodVars_none hV
  have lt0 : ∀ x ∈ p0, x.block < W.heap.size := by obtain ⟨m, hm⟩ := h0; exact DataW.trod_lt m _ _ _ hm
  have lt1 : ∀ x ∈ p1, x.block < W.heap.size := by obtain ⟨m, hm⟩ := h1; exact DataW.trod_lt m _ _ _ hm
  have lt2 : ∀ x ∈ p2, x.block < W.heap.size := by obtain ⟨m, hm⟩ := h2; exact DataW.trod_lt m _ _ _ hm
  have lt3 : ∀ x ∈ p3, x.block < W.heap.size := by obtain ⟨m, hm⟩ := h3; exact DataW.trod_lt m _ _ _ hm
  obtain ⟨l0, ⟨A0, c0, e0, hc0, hr0⟩, _, ho0⟩ := Opens.arg (Opens.slice Try.underlying71 cel31 op31) h0
  obtain ⟨l1, ⟨A1, c1, e1, hc1, hr1⟩, _, ho1⟩ := Opens.arg (Opens.slice Try.underlying71 cel31 op31) h1
  obtain ⟨n2, e2, ho2⟩ := Opens.arg (Opens.int Try.underlying26) h2
  obtain ⟨n3, e3, ho3⟩ := Opens.arg (Opens.int Try.underlying26) h3
  obtain rfl := arg_slice Try.underlying71 (hval 0 71 v0 rfl rfl) e0
  obtain rfl := arg_slice Try.underlying71 (hval 1 71 v1 rfl rfl) e1
  obtain rfl : v2 = .int .u32 n2 := arg_int Try.underlying26 (hval 2 26 v2 rfl rfl) e2
  obtain rfl : v3 = .int .u32 n3 := arg_int Try.underlying26 (hval 3 26 v3 rfl rfl) e3
  clear hA0 hval0 hsz0
  refine (walk A0 c0 l0 A1 c1 l1 n2 n3 W hr0 hc0 ho0 hr1 hc1 ho1 ho2 ho3).mono fun e W' ⟨he, bel⟩ => ?_
  subst he
  exact ⟨_, rfl, _, _, _, [], _, [], hW', trodAll_mk1 (shut_bool Try.underlying4 _), (trodAll_cons_mk (Below.trod laidOut (by kernel_rfl) (of_decide_eq_true (by kernel_rfl)) h0 bel lt0) (trodAll_cons_mk (Below.trod laidOut (by kernel_rfl) (of_decide_eq_true (by kernel_rfl)) h1 bel lt1) (trodAll_cons_mk (Below.trod laidOut (by kernel_rfl) (of_decide_eq_true (by kernel_rfl)) h2 bel lt2) (trodAll_cons_mk (Below.trod laidOut (by kernel_rfl) (of_decide_eq_true (by kernel_rfl)) h3 bel lt3) trodAll_mk0)))), rfl, bel.frame _, fun h => by cases h⟩

theorem over : Rows.spansSetsRow.holds Try.pinned (OpenSpec.ofChange Rows.spansSetsSpec) :=
  OpenClaim.holds_of_wide 7 Try.f7 rfl rfl rfl rfl rfl rfl rfl ⟨rfl, rfl, rfl, rfl, rfl⟩ rfl rfl rfl rfl rfl (by kernel_rfl) Try.func7 (by kernel_rfl)
    (of_decide_eq_true (by kernel_rfl)) (by unfold Func.isWrapper; first | (rw [if_pos (by decide +kernel)]; kernel_rfl) | (rw [if_neg (by decide +kernel)]; exact ⟨rfl, rfl⟩))
    (fun os started H enc _ => lifted os started H enc)
theorem proved : Rows.SpansSetsSaid := over
end Go.Proofs.Ytmoagoopdfpcnaa.spansSets
namespace Go.Proofs.Ytmoagoopdfpcnaa
/-- The row, under a short name, for the claim. -/
theorem spansSets_holds : Rows.SpansSetsSaid := spansSets.proved
end Go.Proofs.Ytmoagoopdfpcnaa
