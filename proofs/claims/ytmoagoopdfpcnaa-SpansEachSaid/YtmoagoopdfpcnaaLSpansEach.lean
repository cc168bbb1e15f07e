/- SpansEach: for every set and every number the law answers true. -/
import Derived.Test.YtmoagoopdfpcnaaRows
import Derived.Test.YtmoagoopdfpcnaaEEachL
import Derived.Test.YtmoagoopdfpcnaaEPAsks
import Derived.Test.YtmoagoopdfpcnaaEOp
import Derived.WalkKit
import Derived.ProofKit
import Derived.OpenShut
import Derived.ShutString
import Derived.ChangeOld
import Derived.Below
import Derived.SizedLaws
namespace Go.Proofs.Ytmoagoopdfpcnaa.spansEach
open Go.ChangeShapes Go.WideShapes Go.ChangeAt Go.RowKit Go.Proofs.YtmoagoopdfpcnaaW.PrintWords Go.Proofs.Ytmoagoopdfpcnaa.Q
open Go.ChangeMaps (open_string shut_string)
open Go.Proofs.Ytmoagoopdfpcnaa.SpMath
set_option linter.unusedVariables false
theorem own : ownKnob Try.prog.godebug = none := by kernel_rfl
theorem laidOut : laidOutB Try.prog = true := by kernel_rfl

theorem arg_int {P : Program} {w : World} {r : Reach} {b0 : Nat} {t : TypeId} {k : IntKind} {v : Value} (ht : P.underlying t = some (.int k)) (hv : Value.okWide P w r b0 t v) {n : Int} (h : v.cells.toList = [.int k n]) : v = .int k n := by
  obtain ⟨m, rfl⟩ := okWide_int ht hv
  simpa [Value.cells] using h

theorem walk (A0 : Option Addr) (c0 : Nat) (l0 : List S31) (m : Int) (w : World)
    (hr0 : Kd.C k31 w A0 l0.length l0) (hc0 : l0.length ≤ c0) (ho0 : ∀ y ∈ l0, ok31 y) :
    Calls Try.prog 5 #[.slice A0 l0.length c0, .int .i64 m] w fun e w' => e = .returned (.bool true) ∧ Below w.heap.size w w' := by
  by_cases hl : l0.length ≤ 200
  · have hS := okS_of ho0
    have hlm : (l0.map sp).length ≤ 1000000 := by rw [List.length_map]; omega
    obtain ⟨k1, h1⟩ := form_ev (l0.map sp) hS (by omega)
    obtain ⟨k2, h2⟩ := refForm_ev (l0.map sp) hS hlm
    have e1 := h1 (max k1 k2) (Nat.le_max_left _ _)
    have e2 := h2 (max k1 k2) (Nat.le_max_right _ _)
    simp only [map_mk_sp] at e1 e2
    have hf := form_ok (l0.map sp)
    have hfl := form_len (l0.map sp)
    rw [List.length_map] at hfl
    refine each_walk (max k1 k2) A0 c0 l0 m w ((formF (l0.map sp)).map mk) hr0 hc0 hl (by rw [List.length_map]; omega) (fun s hs => ?_) e1 e2
    obtain ⟨t, ht, rfl⟩ := List.mem_map.1 hs
    have a1 := form_okS hS t ht
    have a2 := hf.1.1 t ht
    exact ⟨a1.1, a2, a1.2.2.2⟩
  · obtain ⟨k, hk⟩ := awake_ev
    exact each_large k A0 c0 l0 m w hr0 hc0 (by omega) (hk k (Nat.le_refl _))

set_option maxRecDepth 100000 in
theorem lifted (os : Os) (started : os.Started) (H : Type) (enc : TypeId × Value → H) :
    ReturnsInHanded {} Try.checked os 5 .any (Rows.spansEachSpec.pre6 enc Try.prog Try.f5 Rows.spansEachRow.domain false) (Rows.spansEachSpec.post enc Try.prog Try.f5 false true false false) := by
  refine returnsInHanded_of_change_sized (C := Try.checked) own started (by kernel_rfl) Try.func5
    (ChangeSpec.witness6 (enc := enc) (C := Try.checked) false ⟨#[], #[.slice none 0 0, .int .i64 0], []⟩ 8 (by kernel_rfl) (by kernel_rfl) (by kernel_rfl) (by kernel_rfl)) ?_
  intro W base args ds gs before hval0 hW hcnd hsz0 _
  have hval : ∀ (j : Nat) t v, Try.f5.params[j]? = some t → args[j]? = some v → Value.okWide Try.prog W .any base t v := hval0
  have hW' := hW
  obtain ⟨p, q, hA0, hV, rfl, hfz, hnd⟩ := hW
  have hA : DataW.TrodAll enc Try.prog W 0 (fun _ => true) true Try.f5.params.toList args.toList ds p := hA0
  rw [Try.params5] at hA hval
  obtain ⟨v0, vs0, d0, ds0, p0, q0, hargs, rfl, rfl, h0, r0⟩ := trodAll_cons hA
  obtain ⟨v1, vs1, d1, ds1, p1, q1, rfl, rfl, rfl, h1, r1⟩ := trodAll_cons r0
  obtain ⟨rfl, rfl, rfl⟩ := trodAll_nil r1
  obtain rfl : args = #[v0, v1] := by cases args; simp_all
  obtain ⟨rfl, rfl⟩ := trodVars_none hV
  have lt0 : ∀ x ∈ p0, x.block < W.heap.size := by obtain ⟨m, hm⟩ := h0; exact DataW.trod_lt m _ _ _ hm
  have lt1 : ∀ x ∈ p1, x.block < W.heap.size := by obtain ⟨m, hm⟩ := h1; exact DataW.trod_lt m _ _ _ hm
  obtain ⟨l0, ⟨A0, c0, e0, hc0, hr0⟩, _, ho0⟩ := Opens.arg (Opens.slice Try.underlying71 cel31 op31) h0
  obtain ⟨n1, e1, ho1⟩ := Opens.arg (Opens.int Try.underlying3) h1
  obtain rfl := arg_slice Try.underlying71 (hval 0 71 v0 rfl rfl) e0
  obtain rfl : v1 = .int .i64 n1 := arg_int Try.underlying3 (hval 1 3 v1 rfl rfl) e1
  clear hA0 hval0 hsz0
  refine (walk A0 c0 l0 n1 W hr0 hc0 ho0).mono fun e W' ⟨he, bel⟩ => ?_
  subst he
  exact ⟨_, rfl, _, _, _, [], _, [], hW', trodAll_mk1 (shut_bool Try.underlying4 _), (trodAll_cons_mk (Below.trod laidOut (by kernel_rfl) (of_decide_eq_true (by kernel_rfl)) h0 bel lt0) (trodAll_cons_mk (Below.trod laidOut (by kernel_rfl) (of_decide_eq_true (by kernel_rfl)) h1 bel lt1) trodAll_mk0)), rfl, bel.frame _, fun h => by cases h⟩

theorem over : Rows.spansEachRow.holds Try.pinned (OpenSpec.ofChange Rows.spansEachSpec) :=
  OpenClaim.holds_of_wide 5 Try.f5 rfl rfl rfl rfl rfl rfl rfl ⟨rfl, rfl, rfl, rfl, rfl⟩ rfl rfl rfl rfl rfl (by kernel_rfl) Try.func5 (by kernel_rfl)
    (of_decide_eq_true (by kernel_rfl)) (by unfold Func.isWrapper; first | (rw [if_pos (by decide +kernel)]; kernel_rfl) | (rw [if_neg (by decide +kernel)]; exact ⟨rfl, rfl⟩))
    (fun os started H enc _ => lifted os started H enc)
theorem proved : Rows.SpansEachSaid := over
end Go.Proofs.Ytmoagoopdfpcnaa.spansEach
namespace Go.Proofs.Ytmoagoopdfpcnaa
/-- The row, under a short name, for the claim. -/
theorem spansEach_holds : Rows.SpansEachSaid := spansEach.proved
end Go.Proofs.Ytmoagoopdfpcnaa
