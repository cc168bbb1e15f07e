/- SpansCut: for every number and every sets the law answers true. -/
import Derived.Test.YtmoagoopdfpcnaaRows
import Derived.Test.YtmoagoopdfpcnaaEPCutLaw
import Derived.Test.YtmoagoopdfpcnaaEOp
import Derived.WalkKit
import Derived.ProofKit
import Derived.OpenShut
import Derived.ShutString
import Derived.ChangeOld
import Derived.Below
import Derived.SizedLaws
namespace Go.Proofs.Ytmoagoopdfpcnaa.spansCut
open Go.ChangeShapes Go.WideShapes Go.ChangeAt Go.RowKit Go.Deep Go.Proofs.YtmoagoopdfpcnaaW.PrintWords Go.Proofs.Ytmoagoopdfpcnaa.Q
open Go.ChangeMaps (open_string shut_string)
set_option linter.unusedVariables false
theorem own : ownKnob Try.prog.godebug = none := by kernel_rfl
theorem laidOut : laidOutB Try.prog = true := by kernel_rfl

theorem arg_int {P : Program} {w : World} {r : Reach} {b0 : Nat} {t : TypeId} {k : IntKind} {v : Value} (ht : P.underlying t = some (.int k)) (hv : Value.okWide P w r b0 t v) {n : Int} (h : v.cells.toList = [.int k n]) : v = .int k n := by
  obtain ⟨m, rfl⟩ := okWide_int ht hv
  simpa [Value.cells] using h

theorem cel71 : Try.prog.cellsOf 71 = 1 := by kernel_rfl

theorem walk (m : Int) (A1 : Option Addr) (c1 : Nat) (l1 : List (List S31)) (x : Int) (w : World) (hm : (Lit.int .u32 m).wf = true) (hx : (Lit.int .u32 x).wf = true) (hr1 : Kd.C (Kd.slice 31 k31) w A1 l1.length l1) (hc1 : l1.length ≤ c1) (ho : ∀ l ∈ l1, ∀ s ∈ l, ok31 s) :
    Calls Try.prog 10 #[.int .u32 m, .slice A1 l1.length c1, .int .u32 x] w fun e w' => e = .returned (.bool true) ∧ Below w.heap.size w w' := by
  have hm := bounds_u32 hm
  have hx := bounds_u32 hx
  have hmap : ∀ L : List (List S31), (L.map (·.map sp)).map (·.map mk) = L := fun L => by
    rw [List.map_map]
    exact (List.map_congr_left (fun l _ => map_mk_sp l)).trans (List.map_id L)
  have hS : ∀ L : List (List S31), (∀ l ∈ L, ∀ s ∈ l, ok31 s) → ∀ T ∈ L.map (·.map sp), ∀ s ∈ T, okS s := fun L hL T hT => by
    obtain ⟨l, hl, rfl⟩ := List.mem_map.1 hT
    exact okS_of (hL l hl)
  by_cases h12 : l1.length > 12
  · have hT := cutT_l0 m hm.1 hm.2 ((l1.take 12).map (·.map sp)) (by rw [List.length_map, List.length_take]; omega) (hS _ (fun l hl => ho l (List.mem_of_mem_take hl))) x hx.1 hx.2 _ 0 (Nat.zero_add _) (by simp)
    obtain ⟨k, hk⟩ := hT.rounds
    rw [hmap] at hk
    refine waymarklaw02_SpansCut_T.calls k m A1 c1 l1 x true w hr1 hc1 ?_
    unfold waymarklaw02_SpansCut_T.f
    rw [if_pos (by omega), if_pos (by omega)]
    exact hk
  · have hE := cutE_l0 m hm.1 hm.2 (l1.map (·.map sp)) (by rw [List.length_map]; omega) (hS _ ho) x hx.1 hx.2 _ 0 (Nat.zero_add _) (by simp)
    obtain ⟨k, hk⟩ := hE.rounds
    rw [hmap] at hk
    refine waymarklaw02_SpansCut_E.calls k m A1 c1 l1 x true w hr1 hc1 ?_
    unfold waymarklaw02_SpansCut_E.f
    rw [if_neg (by omega)]
    exact hk

set_option maxRecDepth 100000 in
theorem lifted (os : Os) (started : os.Started) (H : Type) (enc : TypeId × Value → H) :
    ReturnsInHanded {} Try.checked os 10 .any (Rows.spansCutSpec.pre6 enc Try.prog Try.f10 Rows.spansCutRow.domain false) (Rows.spansCutSpec.post enc Try.prog Try.f10 false true false false) := by
  refine returnsInHanded_of_change_sized (C := Try.checked) own started (by kernel_rfl) Try.func10
    (ChangeSpec.witness6 (enc := enc) (C := Try.checked) false ⟨#[], #[.int .u32 0, .slice none 0 0, .int .u32 0], []⟩ 8 (by kernel_rfl) (by kernel_rfl) (by kernel_rfl) (by kernel_rfl)) ?_
  intro W base args ds gs before hval0 hW hcnd hsz0 _
  have hval : ∀ (j : Nat) t v, Try.f10.params[j]? = some t → args[j]? = some v → Value.okWide Try.prog W .any base t v := hval0
  have hW' := hW
  obtain ⟨p, q, hA0, hV, rfl, hfz, hnd⟩ := hW
  have hA : DataW.TrodAll enc Try.prog W 0 (fun _ => true) true Try.f10.params.toList args.toList ds p := hA0
  rw [Try.params10] at hA hval
  obtain ⟨v0, vs0, d0, ds0, p0, q0, hargs, rfl, rfl, h0, r0⟩ := trodAll_cons hA
  obtain ⟨v1, vs1, d1, ds1, p1, q1, rfl, rfl, rfl, h1, r1⟩ := trodAll_cons r0
  obtain ⟨v2, vs2, d2, ds2, p2, q2, rfl, rfl, rfl, h2, r2⟩ := trodAll_cons r1
  obtain ⟨rfl, rfl, rfl⟩ := trodAll_nil r2
  obtain rfl : args = #[v0, v1, v2] := by cases args; simp_all
  obtain ⟨rfl, rfl⟩ := trodVars_none hV
  have lt0 : ∀ x ∈ p0, x.block < W.heap.size := by obtain ⟨m, hm⟩ := h0; exact DataW.trod_lt m _ _ _ hm
  have lt1 : ∀ x ∈ p1, x.block < W.heap.size := by obtain ⟨m, hm⟩ := h1; exact DataW.trod_lt m _ _ _ hm
  have lt2 : ∀ x ∈ p2, x.block < W.heap.size := by obtain ⟨m, hm⟩ := h2; exact DataW.trod_lt m _ _ _ hm
  obtain ⟨n0, e0, ho0⟩ := Opens.arg (Opens.int Try.underlying26) h0
  obtain ⟨l1, ⟨A1, c1, e1, hc1, hr1⟩, _, ho1⟩ := Opens.arg (Opens.slice Try.underlying84 cel71 (Opens.slice Try.underlying71 cel31 op31)) h1
  obtain ⟨n2, e2, ho2⟩ := Opens.arg (Opens.int Try.underlying26) h2
  obtain rfl : v0 = .int .u32 n0 := arg_int Try.underlying26 (hval 0 26 v0 rfl rfl) e0
  obtain rfl := arg_slice Try.underlying84 (hval 1 84 v1 rfl rfl) e1
  obtain rfl : v2 = .int .u32 n2 := arg_int Try.underlying26 (hval 2 26 v2 rfl rfl) e2
  clear hA0 hval0 hsz0
  refine (walk n0 A1 c1 l1 n2 W ho0 ho2 hr1 hc1 (fun l hl => (ho1 l hl).2)).mono fun e W' ⟨he, bel⟩ => ?_
  subst he
  exact ⟨_, rfl, _, _, _, [], _, [], hW', trodAll_mk1 (shut_bool Try.underlying4 _), (trodAll_cons_mk (Below.trod laidOut (by kernel_rfl) (of_decide_eq_true (by kernel_rfl)) h0 bel lt0) (trodAll_cons_mk (Below.trod laidOut (by kernel_rfl) (of_decide_eq_true (by kernel_rfl)) h1 bel lt1) (trodAll_cons_mk (Below.trod laidOut (by kernel_rfl) (of_decide_eq_true (by kernel_rfl)) h2 bel lt2) trodAll_mk0))), rfl, bel.frame _, fun h => by cases h⟩

theorem over : Rows.spansCutRow.holds Try.pinned (OpenSpec.ofChange Rows.spansCutSpec) :=
  OpenClaim.holds_of_wide 10 Try.f10 rfl rfl rfl rfl rfl rfl rfl ⟨rfl, rfl, rfl, rfl, rfl⟩ rfl rfl rfl rfl rfl (by kernel_rfl) Try.func10 (by kernel_rfl)
    (of_decide_eq_true (by kernel_rfl)) (by unfold Func.isWrapper; first | (rw [if_pos (by decide +kernel)]; kernel_rfl) | (rw [if_neg (by decide +kernel)]; exact ⟨rfl, rfl⟩))
    (fun os started H enc _ => lifted os started H enc)
theorem proved : Rows.SpansCutSaid := over
end Go.Proofs.Ytmoagoopdfpcnaa.spansCut
namespace Go.Proofs.Ytmoagoopdfpcnaa
/-- The row, under a short name, for the claim. -/
theorem spansCut_holds : Rows.SpansCutSaid := spansCut.proved
end Go.Proofs.Ytmoagoopdfpcnaa
