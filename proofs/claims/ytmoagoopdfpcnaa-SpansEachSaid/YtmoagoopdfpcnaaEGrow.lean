/- slices.Grow of nil: room for so many spans, no span in it. -/
import Derived.Test.YtmoagoopdfpcnaaQx0
namespace Go.Proofs.Ytmoagoopdfpcnaa.Q
open Go.RowKit Go.Proofs.YtmoagoopdfpcnaaW.PrintWords Go.Proofs.YtmoagoopdfpcnaaW.PrintLast Go.Proofs.YtmoagoopdfpcnaaW.PrintMore
attribute [local go_sem] max2_int min2_int max_two min_two max_three min_three max_four min_four
set_option linter.unusedVariables false
set_option linter.unusedSimpArgs false

def slices_Grow_api_Span_api_Span.f (l : List S31) (n : Int) : Option (List S31) := if 0 ≤ n ∧ n < 17592186044416 then some l else none

theorem R_take0 {w : World} {base g n cap : Nat} {ok : Nat → Prop} {xs : List S31} (h : Kd.R k31 31 w base ok (.slice (some ⟨g, 0, none⟩) n cap) xs) : Kd.R k31 31 w base ok (.slice (some ⟨g, 0, none⟩) 0 cap) [] := by
  obtain ⟨h0, inner, ⟨hl, ho⟩, hr⟩ := h
  rcases ho with ⟨hv, _⟩ | ⟨g', cap', cur, hv, hbg, hg, hnc, hcm, hcs, ht⟩
  · cases hv
  · cases hv
    exact ⟨fun k hk => h0 k (by simpa [Value.ownBlock] using hk), [], ⟨by simp, Or.inr ⟨g, cap, cur, rfl, hbg, hg, by simp, hcm, hcs, by simp⟩⟩, Reps.none _ _⟩

set_option maxHeartbeats 2000000 in
theorem grow_nil (x : Int) (r : List S31) (w : World) (h : slices_Grow_api_Span_api_Span.f [] x = some r) :
    Calls Try.prog 111 #[.slice none 0 0, .int .i64 x] w fun e w' => ∃ v0_ : Value, e = .returned (v0_) ∧ Kd.R k31 31 w' w.heap.size (fun _ => True) v0_ r ∧ Below w.heap.size w w' := by
  unfold slices_Grow_api_Span_api_Span.f at h
  by_cases hx : 0 ≤ x ∧ x < 17592186044416
  · rw [if_pos hx] at h
    obtain rfl := Option.some.inj h
    obtain ⟨h0, h1⟩ := hx
    have hw0 : IntKind.i64.wrap (0 - 0) = 0 := by kernel_rfl
    have hwx : IntKind.i64.wrap (x - 0) = x := by rw [Int.sub_zero]; exact (i64_w x).trans (by unfold wrap64; omega)
    have hwy : IntKind.i64.wrap x = x := by exact (i64_w x).trans (by unfold wrap64; omega)
    have c0 : decide (x < 0) = false := decide_eq_false (by omega)
    by_cases hp : 0 < x
    · have c1 : decide (0 < x) = true := decide_eq_true hp
      go_enter Try.func111, Try.ntmps111
      go_wp2_with (first | ((with_reducible refine gate_builtin (b := .append) (xs := #[.tmp 20, .tmp 21]) rfl ?_); at_builtin; refine Kd.R_append_zeros k31 (w0 := w) w.heap.size rfl (.tmp 20) (.tmp 21) 71 3 31 (.agg #[(.int .u32 0), (.int .u32 0)]) 8 rfl Try.underlying71 Try.underlying3 info31 rfl (by decide) (by omega) (.slice none 0 0) [] z31 x (fun _ => True) rfl rfl ?aZ ?aF ?aO h0 ?aB ?aS ?aL ?_; (case aZ => exact k31_mkM _ _ _ z31); (case aF => exact fun _ _ => trivial); (case aO => exact Kd.R_nil _ _ _ _ _); (case aB => exact Below.refl _ _); (case aS => exact Nat.le_refl _); (case aL => simp only [List.length_nil]; omega); intro v1 w1 ho hb hg hat; obtain ⟨g, co, eo, hbg, hglt, hcells⟩ := Kd.R_form ho (by simp; omega); subst eo; clear hcells hat hg))
      try go_wp2
      go_ret
      exact ⟨_, rfl, R_take0 ho, hb⟩
    · obtain rfl : x = 0 := by omega
      go_enter Try.func111, Try.ntmps111
      go_wp2
      go_ret
      exact ⟨_, rfl, Kd.R_nil _ _ _ _ _, Below.refl _ _⟩
  · rw [if_neg hx] at h
    cases h

end Go.Proofs.Ytmoagoopdfpcnaa.Q
