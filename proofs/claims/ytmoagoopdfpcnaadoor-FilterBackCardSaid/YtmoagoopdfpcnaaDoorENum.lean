/- addr.number: a number in its one form. -/
import Derived.Test.YtmoagoopdfpcnaaDoorEPu
namespace Go.Proofs.YtmoagoopdfpcnaaDoor.Q
open Go.RowKit Go.Proofs.YtmoagoopdfpcnaaDoorW.PrintWords Go.Proofs.YtmoagoopdfpcnaaDoor.Txt
set_option linter.unusedVariables false
set_option linter.unusedSimpArgs false

def addr_number.f (a0 : ByteArray) (a1 : Int) : Option (Int × Bool) :=
  if a0.size ≤ 281474976710656 then (match Lib.atoiAll a0.data.toList with
    | .ok v => some (v, decide (0 ≤ v) && decide (v ≤ a1) && decide (Lib.itoa v = a0.data.toList))
    | _ => some (badN a0.data.toList, false)) else none

set_option maxHeartbeats 1000000 in
set_option maxRecDepth 100000 in
theorem addr_number.calls (a0 : ByteArray) (a1 : Int) (r1 : Int) (r2 : Bool) (w : World) (hG : Gs w) (h : addr_number.f a0 a1 = some (r1, r2)) :
    Calls Tryd.prog 92 #[.string a0, .int .i64 a1] w fun e w' => e = .returned (.tuple #[.int .i64 r1, .bool r2]) ∧ Below w.heap.size w w' := by
  unfold addr_number.f at h
  split at h
  · rename_i hs
    by_cases hq : ∃ v, Lib.atoiAll a0.data.toList = .ok v
    · obtain ⟨v, hv⟩ := hq
      rw [hv] at h
      simp only [Option.some.injEq, Prod.mk.injEq] at h
      obtain ⟨rfl, rfl⟩ := h
      have hA := atoi_good a0 hs v hv w
      have hb := Lib.atoiAll_bounds hv
      have hI := fun (W : World) (h1 : Below w.heap.size w W) => strconv_Itoa.calls v ⟨(Lib.itoa v).toArray⟩ W (hG.below h1).gl (by unfold strconv_Itoa.f; rw [if_pos hb])
      have hE := eq_bytes (Lib.itoa v) a0
      clear hG hv
      by_cases h0 : 0 ≤ v
      · have d0 : decide (0 ≤ v) = true := decide_eq_true h0
        by_cases h1 : v ≤ a1
        · have d1 : decide (v ≤ a1) = true := decide_eq_true h1
          have hR : (decide (0 ≤ v) && decide (v ≤ a1) && decide (Lib.itoa v = a0.data.toList)) = ((⟨(Lib.itoa v).toArray⟩ : ByteArray).toList == a0.toList) := by rw [d0, d1, hE]; rfl
          have HR := Aside0.mk hR
          rw [hR]
          clear hE hR
          generalize (⟨(Lib.itoa v).toArray⟩ : ByteArray) = T at *
          go_enter Tryd.func92, Tryd.ntmps92
          go_wp2_with (first | (go_at_call 132; refine hA.mono ?_; rintro e w1 ⟨rfl, hb1⟩) | (go_at_call 45; refine (hI _ hb1).mono ?_; rintro e w2 ⟨rfl, hb2⟩))
          go_ret2
          exact ⟨rfl, hb1.trans (hb2.mono hb1.size)⟩
        · have d1 : decide (v ≤ a1) = false := decide_eq_false h1
          have hR : (decide (0 ≤ v) && decide (v ≤ a1) && decide (Lib.itoa v = a0.data.toList)) = false := by rw [d1]; simp
          rw [hR]
          clear hE hR hI
          go_enter Tryd.func92, Tryd.ntmps92
          go_wp2_with (go_at_call 132; refine hA.mono ?_; rintro e w1 ⟨rfl, hb1⟩)
          go_ret2
          exact ⟨rfl, hb1⟩
      · have d0 : decide (0 ≤ v) = false := decide_eq_false h0
        have hR : (decide (0 ≤ v) && decide (v ≤ a1) && decide (Lib.itoa v = a0.data.toList)) = false := by rw [d0]; simp
        rw [hR]
        clear hE hR hI
        go_enter Tryd.func92, Tryd.ntmps92
        go_wp2_with (go_at_call 132; refine hA.mono ?_; rintro e w1 ⟨rfl, hb1⟩)
        go_ret2
        exact ⟨rfl, hb1⟩
    · have hn : ∀ v, Lib.atoiAll a0.data.toList ≠ .ok v := fun v hv => hq ⟨v, hv⟩
      have hA := atoi_bad a0 hs hn w hG
      have hr : r1 = badN a0.data.toList ∧ r2 = false := by
        cases hz : Lib.atoiAll a0.data.toList with
        | ok v => exact absurd hz (hn v)
        | _ => rw [hz] at h; simp only [Option.some.injEq, Prod.mk.injEq] at h; exact ⟨h.1.symm, h.2.symm⟩
      obtain ⟨rfl, rfl⟩ := hr
      clear h hG
      generalize badN a0.data.toList = x at *
      go_enter Tryd.func92, Tryd.ntmps92
      go_wp2_with (go_at_call 132; refine hA.mono ?_; rintro e w1 ⟨N, rfl, hb1⟩)
      go_ret2
      exact ⟨rfl, hb1⟩
  · cases h
end Go.Proofs.YtmoagoopdfpcnaaDoor.Q
