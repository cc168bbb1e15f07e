/- slices.Compact at []uint32, where the row is one's own. -/
import Derived.Test.YtmoagoopdfpcnaaEUSort
import Derived.Test.YtmoagoopdfpcnaaUCompact
namespace Go.Proofs.Ytmoagoopdfpcnaa.Q
open Go.RowKit Go.Proofs.YtmoagoopdfpcnaaW.PrintWords Go.Sort Go.Proofs
set_option linter.unusedVariables false
set_option linter.unusedSimpArgs false

theorem compact_len (xs : List Int) : (Lib.compact xs).length ≤ xs.length := by
  unfold Lib.compact Lib.compactUpTo
  rw [List.length_map]
  exact Nat.le_trans (List.length_filter_le _ _) (by simp)
/-- slices.Compact of a row of one's own. -/
theorem slices_Compact_uint32_uint32.own (base : Nat) (P0_ : Nat → Prop) (u : Value) (l0 : List Int) (w0 w : World) (hB : Below base w0 w) (ho0 : Kd.R kU 26 w base P0_ u l0) :
    Calls Try.prog 93 #[u] w fun e w' => ∃ v : Value, e = .returned v ∧ v.ownBlock = u.ownBlock ∧ Kd.R kU 26 w' base P0_ v (Lib.compact l0) ∧ Below base w0 w' ∧ Kept w w' (fun k_ => u.ownBlock = some k_) := by
  obtain ⟨A, c, hu, hlc, hC⟩ := Kd.R_reads ho0
  have hmax := hC.2.1
  rcases hA : A with _ | ad
  · have hl0 : l0 = [] := by
      rcases Nat.eq_zero_or_pos l0.length with h | h
      · exact List.eq_nil_of_length_eq_zero h
      · obtain ⟨ad, ha, _⟩ := hC.2.2 h
        rw [hA] at ha; cases ha
    subst hl0
    rw [hu, hA]
    refine (u_Compact_empty none c w).mono fun e w' ⟨he, hw⟩ => ?_
    subst hw
    rw [hu, hA] at ho0
    rw [show Lib.compact ([] : List Int) = [] from rfl]
    exact ⟨_, he, rfl, ho0, hB, Kept.refl _ _⟩
  · obtain ⟨g, hg0⟩ : ∃ g, u = .slice (some ⟨g, 0, none⟩) l0.length c := by
      obtain ⟨hP, inner, ⟨hlen, ho⟩, hrep⟩ := ho0
      rcases ho with ⟨hv, _⟩ | ⟨g', cap', cur, hv, _⟩
      · rw [hu, hA] at hv; cases hv
      · rw [hu] at hv ⊢
        injection hv with ha hn hc
        exact ⟨g', by rw [ha]⟩
    subst hg0
    obtain ⟨hok, hb, hlt, hn, hc, cur, hg, hm, hs, ht⟩ := u_open ho0
    have hH := u_holds rfl hg ht
    refine (u_Compact g 0 c l0 w hH hmax hc).mono fun e w' ⟨he, n, hw⟩ => ?_
    have hw2 : w' = grow (putRow (Value.int .u32) (Sort.ahead w n) g 0 (Lib.compact l0 ++ List.replicate (l0.length - (Lib.compact l0).length) 0).toArray) #[] := by rw [grow_empty]; exact hw
    clear hw
    subst hw2
    have hl := compact_len l0
    have hL : (Lib.compact l0 ++ List.replicate (l0.length - (Lib.compact l0).length) 0).length = l0.length := by simp; omega
    refine ⟨_, he, rfl, ?_, ?_, ?_⟩
    · refine u_shut hok hb rfl (Nat.le_trans hl hc) (cur := putCells (Value.int .u32) 0 (Lib.compact l0 ++ List.replicate (l0.length - (Lib.compact l0).length) 0).toArray cur) ?_ hm (by simp [putCells, hs]) ?_
      · rw [u_block hlt, if_pos rfl, hg]; rfl
      · have h1 := u_put_take (Lib.compact l0 ++ List.replicate (l0.length - (Lib.compact l0).length) 0).toArray cur (by rw [List.size_toArray, hL, hs]; exact hc)
        rw [List.size_toArray, hL] at h1
        have h2 := congrArg (List.take (Lib.compact l0).length) h1
        rw [List.take_take, Nat.min_eq_left hl] at h2
        rw [h2]
        simp [List.take_append]
    · refine ⟨hB.os, hB.tape, hB.output, Nat.le_trans hB.size (u_size _ _ _ _ _), fun k hk => ?_⟩
      rw [u_block (by omega), if_neg (by omega)]
      exact hB.block k hk
    · refine ⟨u_size _ _ _ _ _, fun k hk hn => ?_⟩
      rw [u_block hk, if_neg (fun h => hn (by subst h; simp [Value.ownBlock]))]
end Go.Proofs.Ytmoagoopdfpcnaa.Q
