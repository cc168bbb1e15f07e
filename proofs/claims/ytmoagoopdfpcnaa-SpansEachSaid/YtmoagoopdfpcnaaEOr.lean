/- spans.Or: two sets' spans, one behind the other, in their form. -/
import Derived.Test.YtmoagoopdfpcnaaQx0
import Derived.Test.YtmoagoopdfpcnaaQx23
import Derived.Test.YtmoagoopdfpcnaaQx45
namespace Go.Proofs.Ytmoagoopdfpcnaa.Q
open Go.RowKit Go.Proofs.YtmoagoopdfpcnaaW.PrintWords Go.Proofs.YtmoagoopdfpcnaaW.PrintLast Go.Proofs.YtmoagoopdfpcnaaW.PrintMore
set_option linter.unusedVariables false
set_option linter.unusedSimpArgs false

def spans_Or.f (k : Nat) (l0 l1 : List S31) : Option (List S31) := (slices_Concat_api_Span_api_Span.f k [l0, l1]).bind fun t => spans_Form.f k t
theorem spans_Or.mono : ∀ a0 a1 k, LeO (spans_Or.f k a0 a1) (spans_Or.f (k + 1) a0 a1) := by
  intro a0 a1 k
  unfold spans_Or.f
  exact LeO.bind (slices_Concat_api_Span_api_Span.mono _ _) (fun _ => spans_Form.mono _ _)

set_option maxHeartbeats 2000000 in
theorem spans_Or.calls (k : Nat) (A0 : Option Addr) (c0 : Nat) (l0 : List S31) (A1 : Option Addr) (c1 : Nat) (l1 : List S31) (r : List S31) (w : World) (hr0 : Kd.C k31 w A0 l0.length l0) (hc0 : l0.length ≤ c0) (hr1 : Kd.C k31 w A1 l1.length l1) (hc1 : l1.length ≤ c1) (hk : spans_Or.f k l0 l1 = some r) :
    Calls Try.prog 48 #[.slice A0 l0.length c0, .slice A1 l1.length c1] w fun e w' => ∃ v0_ : Value, e = .returned (v0_) ∧ Kd.R k31 31 w' w.heap.size (fun _ => True) v0_ r ∧ Below w.heap.size w w' := by
  obtain ⟨t, h1, h2⟩ := Option.bind_eq_some_iff.1 hk
  clear hk
  have hcon : ∀ w1, w1 = w.alloc (.cells #[.slice A0 l0.length c0, .slice A1 l1.length c1] 71) → Calls Try.prog 87 #[.slice (some ⟨w.heap.size, 0, none⟩) 2 2] w1 fun e w' => ∃ v0_ : Value, e = .returned (v0_) ∧ Kd.R k31 31 w' w.heap.size (fun _ => True) v0_ t ∧ Below w.heap.size w w' := by
    intro w1 hw1
    have hb1 : Below w.heap.size w w1 := by rw [hw1]; exact below_alloc (Below.refl _ _) _
    have hblk : w1.heap[w.heap.size]? = some (.cells #[.slice A0 l0.length c0, .slice A1 l1.length c1] 71) := by rw [hw1]; exact blk_new w _
    refine (slices_Concat_api_Span_api_Span.calls k (some ⟨w.heap.size, 0, none⟩) 2 [l0, l1] t w1 ⟨rfl, by simp, fun _ => ⟨_, rfl, fun j p hj => ?_⟩⟩ (Nat.le_refl _) h1).mono fun e w' ⟨v0, he, hR, hB⟩ => ⟨v0, he, Kd.R_lower hR hb1.size, hb1.trans (hB.mono hb1.size)⟩
    match j, hj with
    | 0, hj =>
      obtain rfl := Option.some.inj hj
      refine ⟨[.slice A0 l0.length c0], rfl, ⟨A0, c0, rfl, hc0, Kd.C_below hr0 hb1⟩, fun i u hu => ?_⟩
      match i, hu with
      | 0, hu => obtain rfl := Option.some.inj hu; rw [add_plain]; exact (blk_cell hblk 0).trans rfl
    | 1, hj =>
      obtain rfl := Option.some.inj hj
      refine ⟨[.slice A1 l1.length c1], rfl, ⟨A1, c1, rfl, hc1, Kd.C_below hr1 hb1⟩, fun i u hu => ?_⟩
      match i, hu with
      | 0, hu => obtain rfl := Option.some.inj hu; rw [add_plain]; exact (blk_cell hblk 1).trans rfl
  have hform : ∀ A c w1, Below w.heap.size w w1 → Kd.C k31 w1 A t.length t → t.length ≤ c → Calls Try.prog 47 #[.slice A t.length c] w1 fun e w' => ∃ v0_ : Value, e = .returned (v0_) ∧ Kd.R k31 31 w' w.heap.size (fun _ => True) v0_ r ∧ Below w.heap.size w w' := by
    intro A c w1 hb hC hc
    exact (spans_Form.calls k A c t r w1 hC hc h2).mono fun e w' ⟨v0, he, hR, hB⟩ => ⟨v0, he, Kd.R_lower hR hb.size, hb.trans (hB.mono hb.size)⟩
  clear hr0 hr1 h1 h2
  go_enter Try.func48, Try.ntmps48
  go_wp2_with (first | (go_at_call 87; refine (hcon _ rfl).mono ?_; rintro e w2 ⟨v2, rfl, hR2, hB2⟩; obtain ⟨A2, c2, rfl, hc2, hC2⟩ := Kd.R_reads hR2) | (go_at_call 47; refine (hform _ _ _ hB2 hC2 hc2).mono ?_; rintro e w3 ⟨v3, rfl, hR3, hB3⟩))
  go_ret
  exact ⟨_, rfl, hR3, hB3⟩

end Go.Proofs.Ytmoagoopdfpcnaa.Q
