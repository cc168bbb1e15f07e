/- SpansEach where the set is too large. -/
import Derived.Test.YtmoagoopdfpcnaaEEachB
namespace Go.Proofs.Ytmoagoopdfpcnaa.Q
open Go.RowKit Go.Shelf Go.Proofs.YtmoagoopdfpcnaaW.PrintWords Go.Proofs.YtmoagoopdfpcnaaW.PrintLast Go.Proofs.YtmoagoopdfpcnaaW.PrintMore
set_option linter.unusedVariables false
set_option linter.unusedSimpArgs false

set_option maxHeartbeats 1000000 in
set_option maxRecDepth 100000 in
theorem each_large (k : Nat) (A0 : Option Addr) (c0 : Nat) (l0 : List S31) (leave : Int) (w : World) (hr0 : Kd.C k31 w A0 l0.length l0) (hc0 : l0.length ≤ c0) (hl0 : 200 < l0.length) (hw : waymarklaw02_awake.f k = some true) :
    Calls Try.prog 5 #[.slice A0 l0.length c0, .int .i64 leave] w fun e w' => e = .returned (.bool true) ∧ Below w.heap.size w w' := by
  have hlarge : waymarklaw02_large.f l0 [] = some true := by
    unfold waymarklaw02_large.f
    rw [if_pos (by omega)]
  have hLG := fun W => fun (hb : Below w.heap.size w W) => waymarklaw02_large.calls A0 c0 l0 none 0 [] true W (Kd.C_below hr0 hb) hc0 (Kd.C_nil _ _) (Nat.le_refl _) hlarge
  have hAW := fun W => waymarklaw02_awake.calls k true W hw
  clear hlarge hr0 hw
  go_enter Try.func5, Try.ntmps5
  go_wp2_with (first | (go_at_call 34; refine (hLG _ (by repeat (first | exact Below.refl _ _ | apply below_alloc))).mono ?_; rintro e w1 ⟨rfl, hd1⟩; have hz1 := Aside0.mk (show w1.heap.size = w.heap.size + 2 from by obtain ⟨⟨n, rfl⟩⟩ := hd1; simp); have hx4 := Aside0.mk (show w1.heap[w.heap.size + 1]? = some (Obj.cells #[Value.bool false] 4) from by obtain ⟨⟨n, rfl⟩⟩ := hd1; have h_ := blk_new (w.alloc (Obj.cells #[Value.int IntKind.i64 leave] 3)) (Obj.cells #[Value.bool false] 4); rw [World.size_alloc] at h_; exact h_); have hb1 := Aside0.mk (Below.trans (show Below w.heap.size w _ from by repeat (first | exact Below.refl _ _ | apply below_alloc)) (hd1.below.mono (by simp; omega))); clear hd1) | (go_at_call 35; refine (hAW _).mono ?_; rintro e w2 ⟨rfl, hb2⟩; have hx5 : w2.cell? ⟨w.heap.size + 1, 0, none⟩ = some (.bool false) := (blk_cell (blk_below hx4.out hb2) 0).trans rfl; have hf5 : w2.frozen? ⟨w.heap.size + 1, 0, none⟩ = false := blk_frozen (blk_below hx4.out hb2) 0; have hbb := Aside0.mk (hb1.out.trans (hb2.mono (by have := hz1.out; omega))); clear hb2))
  refine bodyPost_ret (v := .bool true) (results_five _ _ _ _ (by rfl) (World.cell?_setCell_same' _ _ _ (by rw [hx5]; rfl))) rfl ⟨rfl, hbb.out.setCell (p := ⟨w.heap.size + 1, 0, none⟩) (by simp) _⟩
end Go.Proofs.Ytmoagoopdfpcnaa.Q
