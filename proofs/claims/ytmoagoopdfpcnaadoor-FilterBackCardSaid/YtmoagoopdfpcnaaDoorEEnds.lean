/- filter.ends: the ends of a span's text. -/
import Derived.Test.YtmoagoopdfpcnaaDoorELParse
import Derived.Laws.Rows
namespace Go.Proofs.YtmoagoopdfpcnaaDoor.Q
open Go.RowKit Go.Proofs.YtmoagoopdfpcnaaDoorW.PrintWords Go.Proofs.YtmoagoopdfpcnaaDoor.Txt
set_option linter.unusedVariables false
set_option linter.unusedSimpArgs false

def filter_ends.f (a0 : ByteArray) : Option (Int × Int) := if a0.size < 4294967281 then some (endsF a0.data.toList) else none

theorem row_two {W : World} {b : Nat} {t : TypeId} {u v x y : Value} (h : W.heap[b]? = some (.cells #[u, v] t (0, 0))) :
    ((W.setCell ⟨b, 0, none⟩ x).setCell ⟨b, 1, none⟩ y).heap[b]? = some (.cells #[x, y] t (0, 0)) := by
  have hl := (Array.getElem?_eq_some_iff.1 h).1
  simp [World.setCell, Array.getElem?_modify, h]

set_option maxHeartbeats 2000000 in
set_option maxRecDepth 100000 in
theorem filter_ends.calls (a0 : ByteArray) (r1 r2 : Int) (w : World) (hG : Gs w) (h : filter_ends.f a0 = some (r1, r2)) :
    Calls Tryd.prog 54 #[.string a0] w fun e w' => e = .returned (.agg #[.int .u32 r1, .int .u32 r2]) ∧ Below w.heap.size w w' := by
  unfold filter_ends.f at h
  split at h
  · rename_i hs
    simp only [Option.some.injEq] at h
    have hC := fun (W : World) (hb : Below w.heap.size w W) => strings_Cut.calls a0 ⟨#[45]⟩ ⟨(Lib.cut a0.data.toList [45]).1.toArray⟩ ⟨(Lib.cut a0.data.toList [45]).2.1.toArray⟩ (Lib.cut a0.data.toList [45]).2.2 W (hG.below hb) (by unfold strings_Cut.f; rw [if_pos hs])
    have hz := cut_size a0.data.toList [45]
    have hal : a0.data.toList.length = a0.size := Array.length_toList
    have zA : (⟨(Lib.cut a0.data.toList [45]).1.toArray⟩ : ByteArray).size ≤ 281474976710656 := by rw [ba_size]; omega
    have zB : (⟨(Lib.cut a0.data.toList [45]).2.1.toArray⟩ : ByteArray).size ≤ 281474976710656 := by rw [ba_size]; omega
    unfold endsF at h
    cases hA : okU 16 (Lib.cut a0.data.toList [45]).1 with
    | none =>
      rw [hA] at h
      simp only [Prod.mk.injEq] at h
      obtain ⟨rfl, rfl⟩ := h
      have hPA := fun (W : World) (hb : Below w.heap.size w W) => pu_bad16 ⟨(Lib.cut a0.data.toList [45]).1.toArray⟩ zA hA W (hG.below hb)
      have hPB : ∀ (W : World), Below w.heap.size w W → Calls Tryd.prog 42 #[.string ⟨(Lib.cut a0.data.toList [45]).2.1.toArray⟩, .int .i64 10, .int .i64 16] W fun e w' => ∃ (x : Int) (v : Value), e = .returned (.tuple #[.int .u64 x, v]) ∧ Below W.heap.size W w' := fun W hb => by
        cases hB : okU 16 (Lib.cut a0.data.toList [45]).2.1 with
        | none => exact (pu_bad16 ⟨(Lib.cut a0.data.toList [45]).2.1.toArray⟩ zB hB W (hG.below hb)).mono fun e w' ⟨x, N, he, hb⟩ => ⟨x, _, he, hb⟩
        | some u => exact (pu_good16 ⟨(Lib.cut a0.data.toList [45]).2.1.toArray⟩ zB u hB W).mono fun e w' ⟨he, hb⟩ => ⟨u, _, he, hb⟩
      clear hG hA hz hal zA zB
      generalize (⟨(Lib.cut a0.data.toList [45]).1.toArray⟩ : ByteArray) = sA at *
      generalize (⟨(Lib.cut a0.data.toList [45]).2.1.toArray⟩ : ByteArray) = sB at *
      generalize (Lib.cut a0.data.toList [45]).2.2 = tw at *
      go_enter Tryd.func54, Tryd.ntmps54
      go_wp2_with (first | (go_at_call 41; refine (hC _ (below_alloc (Below.refl _ _) _)).mono ?_; rintro e w1 ⟨rfl, hb1_⟩; have bx1 := Aside0.mk (blk_below (blk_new w (.cells #[.int .u32 0, .int .u32 0] 36)) hb1_); have hb1 := (below_alloc (Below.refl w.heap.size w) (.cells #[.int .u32 0, .int .u32 0] 36)).trans (hb1_.mono (by simp)); clear hC hb1_) | (go_at_call 42; refine (hPA _ hb1).mono ?_; rintro e w2 ⟨x, N, rfl, hb2⟩; have hb2' := hb1.trans (hb2.mono hb1.size); clear hPA) | (go_at_call 42; refine (hPB _ hb2').mono ?_; rintro e w3 ⟨y, v, rfl, hb3⟩; have bx3 := blk_below (blk_below bx1.out hb2) hb3; have y0 := (blk_cell bx3 0).trans rfl; have y1 := (blk_cell bx3 1).trans rfl; have f0 := blk_frozen bx3 0; have f1 := blk_frozen bx3 1; have hbz := Aside0.mk (hb2'.trans (hb3.mono hb2'.size)); have bx3_ := Aside0.mk bx3; clear bx3 hb3; clear hPB))
      refine bodyPost_ret (v := .agg #[.int .u32 1, .int .u32 0]) (results_cell_row rfl _ _ w.heap.size 36 _ (0, 0) _ rfl (row_two bx3_.out) Tryd.underlying36 rfl (by kernel_rfl)) rfl ⟨rfl, ?_⟩
      exact (hbz.out.setCell (p := ⟨w.heap.size, 0, none⟩) (Nat.le_refl _) _).setCell (p := ⟨w.heap.size, 1, none⟩) (Nat.le_refl _) _
    | some m =>
      cases hB : okU 16 (Lib.cut a0.data.toList [45]).2.1 with
      | none =>
        rw [hA, hB] at h
        simp only [Prod.mk.injEq] at h
        obtain ⟨rfl, rfl⟩ := h
        have hPA := fun (W : World) (hb : Below w.heap.size w W) => pu_good16 ⟨(Lib.cut a0.data.toList [45]).1.toArray⟩ zA m hA W
        have hPB := fun (W : World) (hb : Below w.heap.size w W) => pu_bad16 ⟨(Lib.cut a0.data.toList [45]).2.1.toArray⟩ zB hB W (hG.below hb)
        clear hG hA hB hz hal zA zB
        generalize (⟨(Lib.cut a0.data.toList [45]).1.toArray⟩ : ByteArray) = sA at *
        generalize (⟨(Lib.cut a0.data.toList [45]).2.1.toArray⟩ : ByteArray) = sB at *
        generalize (Lib.cut a0.data.toList [45]).2.2 = tw at *
        go_enter Tryd.func54, Tryd.ntmps54
        go_wp2_with (first | (go_at_call 41; refine (hC _ (below_alloc (Below.refl _ _) _)).mono ?_; rintro e w1 ⟨rfl, hb1_⟩; have bx1 := Aside0.mk (blk_below (blk_new w (.cells #[.int .u32 0, .int .u32 0] 36)) hb1_); have hb1 := (below_alloc (Below.refl w.heap.size w) (.cells #[.int .u32 0, .int .u32 0] 36)).trans (hb1_.mono (by simp)); clear hC hb1_) | (go_at_call 42; refine (hPA _ hb1).mono ?_; rintro e w2 ⟨rfl, hb2⟩; have hb2' := hb1.trans (hb2.mono hb1.size); clear hPA) | (go_at_call 42; refine (hPB _ hb2').mono ?_; rintro e w3 ⟨y, v, rfl, hb3⟩; have bx3 := blk_below (blk_below bx1.out hb2) hb3; have y0 := (blk_cell bx3 0).trans rfl; have y1 := (blk_cell bx3 1).trans rfl; have f0 := blk_frozen bx3 0; have f1 := blk_frozen bx3 1; have hbz := Aside0.mk (hb2'.trans (hb3.mono hb2'.size)); have bx3_ := Aside0.mk bx3; clear bx3 hb3; clear hPB))
        refine bodyPost_ret (v := .agg #[.int .u32 1, .int .u32 0]) (results_cell_row rfl _ _ w.heap.size 36 _ (0, 0) _ rfl (row_two bx3_.out) Tryd.underlying36 rfl (by kernel_rfl)) rfl ⟨rfl, ?_⟩
        exact (hbz.out.setCell (p := ⟨w.heap.size, 0, none⟩) (Nat.le_refl _) _).setCell (p := ⟨w.heap.size, 1, none⟩) (Nat.le_refl _) _
      | some n =>
        rw [hA, hB] at h
        simp only [Prod.mk.injEq] at h
        obtain ⟨rfl, rfl⟩ := h
        have hPA := fun (W : World) (hb : Below w.heap.size w W) => pu_good16 ⟨(Lib.cut a0.data.toList [45]).1.toArray⟩ zA m hA W
        have hPB := fun (W : World) (hb : Below w.heap.size w W) => pu_good16 ⟨(Lib.cut a0.data.toList [45]).2.1.toArray⟩ zB n hB W
        obtain ⟨m', rfl, _, hm⟩ := okU_some hA
        obtain ⟨n', rfl, _, hn⟩ := okU_some hB
        have e16 : (2 : Nat) ^ 16 - 1 = 65535 := by decide
        rw [e16] at hm hn
        have k1 : IntKind.u32.wrap (m' : Int) = (m' : Int) := wraps_u32 _ (by omega) (by omega)
        have k2 : IntKind.u32.wrap (n' : Int) = (n' : Int) := wraps_u32 _ (by omega) (by omega)
        clear hG hA hB hz hal zA zB
        generalize (⟨(Lib.cut a0.data.toList [45]).1.toArray⟩ : ByteArray) = sA at *
        generalize (⟨(Lib.cut a0.data.toList [45]).2.1.toArray⟩ : ByteArray) = sB at *
        generalize (Lib.cut a0.data.toList [45]).2.2 = tw at *
        go_enter Tryd.func54, Tryd.ntmps54
        go_wp2_with (first | (go_at_call 41; refine (hC _ (below_alloc (Below.refl _ _) _)).mono ?_; rintro e w1 ⟨rfl, hb1_⟩; have bx1 := Aside0.mk (blk_below (blk_new w (.cells #[.int .u32 0, .int .u32 0] 36)) hb1_); have hb1 := (below_alloc (Below.refl w.heap.size w) (.cells #[.int .u32 0, .int .u32 0] 36)).trans (hb1_.mono (by simp)); clear hC hb1_) | (go_at_call 42; refine (hPA _ hb1).mono ?_; rintro e w2 ⟨rfl, hb2⟩; have hb2' := hb1.trans (hb2.mono hb1.size); clear hPA) | (go_at_call 42; refine (hPB _ hb2').mono ?_; rintro e w3 ⟨rfl, hb3⟩; have bx3 := blk_below (blk_below bx1.out hb2) hb3; have y0 := (blk_cell bx3 0).trans rfl; have y1 := (blk_cell bx3 1).trans rfl; have f0 := blk_frozen bx3 0; have f1 := blk_frozen bx3 1; have hbz := Aside0.mk (hb2'.trans (hb3.mono hb2'.size)); have bx3_ := Aside0.mk bx3; clear bx3 hb3; clear hPB))
        refine bodyPost_ret (v := .agg #[.int .u32 m', .int .u32 n']) (results_cell_row rfl _ _ w.heap.size 36 _ (0, 0) _ rfl (row_two bx3_.out) Tryd.underlying36 rfl (by kernel_rfl)) rfl ⟨rfl, ?_⟩
        exact (hbz.out.setCell (p := ⟨w.heap.size, 0, none⟩) (Nat.le_refl _) _).setCell (p := ⟨w.heap.size, 1, none⟩) (Nat.le_refl _) _
  · cases h
end Go.Proofs.YtmoagoopdfpcnaaDoor.Q
