/- SpansAsks: for every two sets the law answers true. -/
import Derived.Test.YtmoagoopdfpcnaaRows
import Derived.Test.YtmoagoopdfpcnaaEPAsks
import Derived.Test.YtmoagoopdfpcnaaEOp
import Derived.WalkKit
import Derived.ProofKit
import Derived.OpenShut
import Derived.ShutString
import Derived.ChangeOld
import Derived.Below
import Derived.SizedLaws
namespace Go.Proofs.Ytmoagoopdfpcnaa.spansAsks
open Go.ChangeShapes Go.WideShapes Go.ChangeAt Go.RowKit Go.Proofs.YtmoagoopdfpcnaaW.PrintWords Go.Proofs.Ytmoagoopdfpcnaa.Q
open Go.ChangeMaps (open_string shut_string)
set_option linter.unusedVariables false
theorem own : ownKnob Try.prog.godebug = none := by kernel_rfl
theorem laidOut : laidOutB Try.prog = true := by kernel_rfl

theorem walk (A0 : Option Addr) (c0 : Nat) (l0 : List S31) (A1 : Option Addr) (c1 : Nat) (l1 : List S31) (w : World)
    (hr0 : Kd.C k31 w A0 l0.length l0) (hc0 : l0.length ≤ c0) (ho0 : ∀ y ∈ l0, ok31 y) (hr1 : Kd.C k31 w A1 l1.length l1) (hc1 : l1.length ≤ c1) (ho1 : ∀ y ∈ l1, ok31 y) :
    Calls Try.prog 6 #[.slice A0 l0.length c0, .slice A1 l1.length c1] w fun e w' => e = .returned (.bool true) ∧ Below w.heap.size w w' := by
  obtain ⟨k, hk⟩ := (asks_ev (l0.map sp) (l1.map sp) (okS_of ho0) (okS_of ho1)).rounds
  rw [map_mk_sp, map_mk_sp] at hk
  exact waymarklaw02_SpansAsks.calls k A0 c0 l0 A1 c1 l1 true w hr0 hc0 hr1 hc1 hk

set_option maxRecDepth 100000 in
theorem lifted (os : Os) (started : os.Started) (H : Type) (enc : TypeId × Value → H) :
    ReturnsInHanded {} Try.checked os 6 .any (Rows.spansAsksSpec.pre6 enc Try.prog Try.f6 Rows.spansAsksRow.domain false) (Rows.spansAsksSpec.post enc Try.prog Try.f6 false true false false) := by
  refine returnsInHanded_of_change_sized (C := Try.checked) own started (by kernel_rfl) Try.func6
    (ChangeSpec.witness6 (enc := enc) (C := Try.checked) false ⟨#[], #[.slice none 0 0, .slice none 0 0], []⟩ 8 (by kernel_rfl) (by kernel_rfl) (by kernel_rfl) (by kernel_rfl)) ?_
  intro W base args ds gs before hval0 hW hcnd hsz0 _
  have hval : ∀ (j : Nat) t v, Try.f6.params[j]? = some t → args[j]? = some v → Value.okWide Try.prog W .any base t v := hval0
  have hW' := hW
  obtain ⟨p, q, hA0, hV, rfl, hfz, hnd⟩ := hW
  have hA : DataW.TrodAll enc Try.prog W 0 (fun _ => true) true Try.f6.params.toList args.toList ds p := hA0
  rw [Try.params6] at hA hval
  obtain ⟨v0, vs0, d0, ds0, p0, q0, hargs, rfl, rfl, h0, r0⟩ := trodAll_cons hA
  obtain ⟨v1, vs1, d1, ds1, p1, q1, rfl, rfl, rfl, h1, r1⟩ := trodAll_cons r0
  obtain ⟨rfl, rfl, rfl⟩ := trodAll_nil r1
  obtain rfl : args = #[v0, v1] := by cases args; simp_all
  obtain ⟨rfl, rfl⟩ := trodVars_none hV
  have lt0 : ∀ x ∈ p0, x.block < W.heap.size := by obtain ⟨m, hm⟩ := h0; exact DataW.trod_lt m _ _ _ hm
  have lt1 : ∀ x ∈ p1, x.block < W.heap.size := by obtain ⟨m, hm⟩ := h1; exact DataW.trod_lt m _ _ _ hm
  obtain ⟨l0, ⟨A0, c0, e0, hc0, hr0⟩, _, ho0⟩ := Opens.arg (Opens.slice Try.underlying71 cel31 op31) h0
  obtain ⟨l1, ⟨A1, c1, e1, hc1, hr1⟩, _, ho1⟩ := Opens.arg (Opens.slice Try.underlying71 cel31 op31) h1
  obtain rfl := arg_slice Try.underlying71 (hval 0 71 v0 rfl rfl) e0
  obtain rfl := arg_slice Try.underlying71 (hval 1 71 v1 rfl rfl) e1
  clear hA0 hval0 hsz0
  refine (walk A0 c0 l0 A1 c1 l1 W hr0 hc0 ho0 hr1 hc1 ho1).mono fun e W' ⟨he, bel⟩ => ?_
  subst he
  exact ⟨_, rfl, _, _, _, [], _, [], hW', trodAll_mk1 (shut_bool Try.underlying4 _), (trodAll_cons_mk (Below.trod laidOut (by kernel_rfl) (of_decide_eq_true (by kernel_rfl)) h0 bel lt0) (trodAll_cons_mk (Below.trod laidOut (by kernel_rfl) (of_decide_eq_true (by kernel_rfl)) h1 bel lt1) trodAll_mk0)), rfl, bel.frame _, fun h => by cases h⟩

theorem over : Rows.spansAsksRow.holds Try.pinned (OpenSpec.ofChange Rows.spansAsksSpec) :=
  OpenClaim.holds_of_wide 6 Try.f6 rfl rfl rfl rfl rfl rfl rfl ⟨rfl, rfl, rfl, rfl, rfl⟩ rfl rfl rfl rfl rfl (by kernel_rfl) Try.func6 (by kernel_rfl)
    (of_decide_eq_true (by kernel_rfl)) (by unfold Func.isWrapper; first | (rw [if_pos (by decide +kernel)]; kernel_rfl) | (rw [if_neg (by decide +kernel)]; exact ⟨rfl, rfl⟩))
    (fun os started H enc _ => lifted os started H enc)
theorem proved : Rows.SpansAsksSaid := over
end Go.Proofs.Ytmoagoopdfpcnaa.spansAsks
namespace Go.Proofs.Ytmoagoopdfpcnaa
/-- The row, under a short name, for the claim. -/
theorem spansAsks_holds : Rows.SpansAsksSaid := spansAsks.proved
end Go.Proofs.Ytmoagoopdfpcnaa
