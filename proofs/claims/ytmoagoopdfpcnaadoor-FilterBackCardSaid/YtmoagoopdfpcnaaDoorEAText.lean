/- addr.Text: an address's text. -/
import Derived.Test.YtmoagoopdfpcnaaDoorELParse
import Derived.Laws.Rows
namespace Go.Proofs.YtmoagoopdfpcnaaDoor.Q
open Go.RowKit Go.Proofs.YtmoagoopdfpcnaaDoorW.PrintWords Go.Proofs.YtmoagoopdfpcnaaDoor.Txt
set_option linter.unusedVariables false
set_option linter.unusedSimpArgs false

theorem mod256 (x : Int) : 0 ≤ x % 256 ∧ x % 256 ≤ 4294967295 := by omega
theorem mod256b (x : Int) : -9223372036854775808 ≤ x % 256 ∧ x % 256 ≤ 9223372036854775807 := by omega
theorem u32_and8 {x : Int} (h₀ : 0 ≤ x) (h₁ : x < 4294967296) : bits .and .u32 x 255 = x % 256 := bits_mask .u32 32 (by decide) wraps_u32 8 (by decide) x h₀ h₁
theorem blk_set {W : World} {b : Nat} {t : TypeId} {cs : Array Value} (h : W.heap[b]? = some (.cells cs t (0, 0))) (o : Nat) (v : Value) : (W.setCell ⟨b, o, none⟩ v).heap[b]? = some (.cells (cs.setIfInBounds o v) t (0, 0)) := by
  simp [World.setCell, Array.getElem?_modify, h]
def addr_Text.f (a0 : Int) : Option ByteArray := if 0 ≤ a0 ∧ a0 ≤ 4294967295 then some ⟨(addrB a0).toArray⟩ else none

set_option maxHeartbeats 4000000 in
set_option maxRecDepth 100000 in
theorem addr_Text.calls (a0 : Int) (r : ByteArray) (w : World) (hG : Gl w) (h : addr_Text.f a0 = some r) :
    Calls Tryd.prog 89 #[.int .u32 a0] w fun e w' => e = .returned (.string r) ∧ Below w.heap.size w w' := by
  unfold addr_Text.f at h
  split at h
  · rename_i ha
    obtain ⟨h0, h1⟩ := ha
    cases h
    have k0 : wrap64 (bits .and .u32 (a0 / 16777216) 255) = a0 / 16777216 % 256 := by rw [u32_and8 (by omega) (by omega)]; exact w64 (mod256b _).1 (mod256b _).2
    have k1 : wrap64 (bits .and .u32 (a0 / 65536) 255) = a0 / 65536 % 256 := by rw [u32_and8 (by omega) (by omega)]; exact w64 (mod256b _).1 (mod256b _).2
    have k2 : wrap64 (bits .and .u32 (a0 / 256) 255) = a0 / 256 % 256 := by rw [u32_and8 (by omega) (by omega)]; exact w64 (mod256b _).1 (mod256b _).2
    have k3 : wrap64 (bits .and .u32 a0 255) = a0 % 256 := by rw [u32_and8 (by omega) (by omega)]; exact w64 (mod256b _).1 (mod256b _).2
    have hI0 := fun (W : World) (hb : Below w.heap.size w W) => strconv_Itoa.calls (a0 / 16777216 % 256) (⟨(Lib.itoa (a0 / 16777216 % 256)).toArray⟩ : ByteArray) W (hG.below hb) (itoa_some (mod256 _).1 (mod256 _).2)
    have hI1 := fun (W : World) (hb : Below w.heap.size w W) => strconv_Itoa.calls (a0 / 65536 % 256) (⟨(Lib.itoa (a0 / 65536 % 256)).toArray⟩ : ByteArray) W (hG.below hb) (itoa_some (mod256 _).1 (mod256 _).2)
    have hI2 := fun (W : World) (hb : Below w.heap.size w W) => strconv_Itoa.calls (a0 / 256 % 256) (⟨(Lib.itoa (a0 / 256 % 256)).toArray⟩ : ByteArray) W (hG.below hb) (itoa_some (mod256 _).1 (mod256 _).2)
    have hI3 := fun (W : World) (hb : Below w.heap.size w W) => strconv_Itoa.calls (a0 % 256) (⟨(Lib.itoa (a0 % 256)).toArray⟩ : ByteArray) W (hG.below hb) (itoa_some (mod256 _).1 (mod256 _).2)
    have hlen : (addrB a0).length ≤ 140737488355328 := by
      have l0 := itoa_short (n := a0 / 16777216 % 256) (mod256 _).1 (mod256 _).2
      have l1 := itoa_short (n := a0 / 65536 % 256) (mod256 _).1 (mod256 _).2
      have l2 := itoa_short (n := a0 / 256 % 256) (mod256 _).1 (mod256 _).2
      have l3 := itoa_short (n := a0 % 256) (mod256 _).1 (mod256 _).2
      unfold addrB addrW
      rw [join_cons2, join_cons2, join_cons2, join_single]
      simp only [List.length_append, List.length_cons, List.length_nil]
      omega
    have hJ := fun (W : World) (c0 : Nat) (hcell : ∀ (j : Nat) x, [(⟨(Lib.itoa (a0 / 16777216 % 256)).toArray⟩ : ByteArray), (⟨(Lib.itoa (a0 / 65536 % 256)).toArray⟩ : ByteArray), (⟨(Lib.itoa (a0 / 256 % 256)).toArray⟩ : ByteArray), (⟨(Lib.itoa (a0 % 256)).toArray⟩ : ByteArray)][j]? = some x → W.cell? ⟨w.heap.size, 0 + j, none⟩ = some (.string x)) (hlt : w.heap.size < W.heap.size) (hc : 4 ≤ c0) => Tryd.strings_Join w.heap.size 0 c0 [(⟨(Lib.itoa (a0 / 16777216 % 256)).toArray⟩ : ByteArray), (⟨(Lib.itoa (a0 / 65536 % 256)).toArray⟩ : ByteArray), (⟨(Lib.itoa (a0 / 256 % 256)).toArray⟩ : ByteArray), (⟨(Lib.itoa (a0 % 256)).toArray⟩ : ByteArray)] ⟨#[46]⟩ W hcell hlt (by simp) hc hlen
    have eJ : (⟨(Lib.join (List.map (fun x => x.data.toList) [(⟨(Lib.itoa (a0 / 16777216 % 256)).toArray⟩ : ByteArray), (⟨(Lib.itoa (a0 / 65536 % 256)).toArray⟩ : ByteArray), (⟨(Lib.itoa (a0 / 256 % 256)).toArray⟩ : ByteArray), (⟨(Lib.itoa (a0 % 256)).toArray⟩ : ByteArray)]) (⟨#[46]⟩ : ByteArray).data.toList).toArray⟩ : ByteArray) = ⟨(addrB a0).toArray⟩ := rfl
    rw [eJ] at hJ
    clear eJ hlen hG h0 h1
    generalize (⟨(Lib.itoa (a0 / 16777216 % 256)).toArray⟩ : ByteArray) = s0 at *
    generalize (⟨(Lib.itoa (a0 / 65536 % 256)).toArray⟩ : ByteArray) = s1 at *
    generalize (⟨(Lib.itoa (a0 / 256 % 256)).toArray⟩ : ByteArray) = s2 at *
    generalize (⟨(Lib.itoa (a0 % 256)).toArray⟩ : ByteArray) = s3 at *
    generalize (⟨(addrB a0).toArray⟩ : ByteArray) = sJ at *
    go_enter Tryd.func89, Tryd.ntmps89
    go_wp2
    refine wp_loop_rounds 5 ?_
    rw [rounds_succ]
    go_wp2_with (first | (go_at_call 45; refine (hI0 _ (below_alloc (Below.refl w.heap.size w) _)).mono ?_; rintro e v0 ⟨rfl, hc0⟩; have bx0 := Aside0.mk (blk_below (blk_new w _) hc0); have y0 := (blk_cell bx0.out 0).trans rfl; have f0 := blk_frozen bx0.out 0; have hb0 := Aside0.mk (Below.trans (below_alloc (Below.refl w.heap.size w) _) (hc0.mono (by simp))); clear hc0 hI0))
    rw [rounds_succ]
    go_wp2_with (first | (go_at_call 45; refine (hI1 _ (below_set hb0.out (g := w.heap.size) (Nat.le_refl _))).mono ?_; rintro e v1 ⟨rfl, hc1⟩; have bx1 := Aside0.mk (blk_below (blk_set bx0.out 0 _) hc1); have y1 := (blk_cell bx1.out 1).trans rfl; have f1 := blk_frozen bx1.out 1; have hb1 := Aside0.mk (Below.trans (below_set hb0.out (g := w.heap.size) (Nat.le_refl _)) (hc1.mono (by simp; exact hb0.out.size))); clear hc1 hI1))
    rw [rounds_succ]
    go_wp2_with (first | (go_at_call 45; refine (hI2 _ (below_set hb1.out (g := w.heap.size) (Nat.le_refl _))).mono ?_; rintro e v2 ⟨rfl, hc2⟩; have bx2 := Aside0.mk (blk_below (blk_set bx1.out 1 _) hc2); have y2 := (blk_cell bx2.out 2).trans rfl; have f2 := blk_frozen bx2.out 2; have hb2 := Aside0.mk (Below.trans (below_set hb1.out (g := w.heap.size) (Nat.le_refl _)) (hc2.mono (by simp; exact hb1.out.size))); clear hc2 hI2))
    rw [rounds_succ]
    go_wp2_with (first | (go_at_call 45; refine (hI3 _ (below_set hb2.out (g := w.heap.size) (Nat.le_refl _))).mono ?_; rintro e v3 ⟨rfl, hc3⟩; have bx3 := Aside0.mk (blk_below (blk_set bx2.out 2 _) hc3); have y3 := (blk_cell bx3.out 3).trans rfl; have f3 := blk_frozen bx3.out 3; have hb3 := Aside0.mk (Below.trans (below_set hb2.out (g := w.heap.size) (Nat.le_refl _)) (hc3.mono (by simp; exact hb2.out.size))); clear hc3 hI3))
    rw [rounds_succ]
    have hal : Tryd.prog.arrayLen 174 = 4 := by kernel_rfl
    have bx4 := blk_set bx3.out 3 (.string s3)
    have hb4 := below_set (j := 3) (v := .string s3) hb3.out (g := w.heap.size) (Nat.le_refl _)
    have hcell : ∀ (j : Nat) x, [s0, s1, s2, s3][j]? = some x → (v3.setCell ⟨w.heap.size, 3, none⟩ (.string s3)).cell? ⟨w.heap.size, 0 + j, none⟩ = some (.string x) := by
      intro j x hj
      rw [Nat.zero_add, blk_cell bx4]
      match j, hj with
      | 0, hj => cases hj; rfl
      | 1, hj => cases hj; rfl
      | 2, hj => cases hj; rfl
      | 3, hj => cases hj; rfl
      | n + 4, hj => simp at hj
    have hJ2 := hJ _ 4 hcell (blk_lt bx4) (Nat.le_refl _)
    clear hJ hcell bx4 y0 y1 y2 y3 f0 f1 f2 f3
    go_wp2_with (go_at_call 50; refine hJ2.mono ?_; rintro e v4 ⟨rfl, hc4⟩)
    go_ret
    exact ⟨rfl, hb4.trans (hc4.mono hb4.size)⟩
  · cases h
end Go.Proofs.YtmoagoopdfpcnaaDoor.Q
