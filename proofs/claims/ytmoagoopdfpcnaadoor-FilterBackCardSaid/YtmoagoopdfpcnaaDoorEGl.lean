/- What the package-level variables of Go's library hold, as long as only new memory is written. -/
import Derived.Test.YtmoagoopdfpcnaaDoorShelf
import Derived.Below
namespace Go.Proofs.YtmoagoopdfpcnaaDoor.Q
open Go.RowKit
set_option linter.unusedVariables false

theorem var_below {P : Program} {w W : World} {name : String} {cs : Array Value} (h : w.var? P name = some cs) (hb : Below w.heap.size w W) : W.var? P name = some cs := by
  unfold World.var? at h ⊢
  cases hg : P.globalNamed name with
  | none => rw [hg] at h; exact h
  | some g =>
    rw [hg] at h
    simp only [Option.bind_some] at h ⊢
    cases hh : w.heap[g]? with
    | none => rw [hh] at h; cases h
    | some o =>
      rw [hb.block g (Array.getElem?_eq_some_iff.1 hh).1]
      exact h
/-- The table of the powers of ten is as Go's text lays it. -/
structure Gl (w : World) : Prop where
  tab : Lib.TabIs Tryd.prog w "internal/strconv.uint64pow10" .u64 Lib.pow10Tab
theorem Gl.below {w W : World} (h : Gl w) (hb : Below w.heap.size w W) : Gl W := ⟨var_below h.tab hb⟩
/-- .. and the sentinels of strconv are errors, internal/bytealg.MaxLen is a number. -/
structure Gs (w : World) : Prop where
  gl : Gl w
  syn : ∃ tp p, w.var? Tryd.prog "strconv.ErrSyntax" = some #[.iface tp p]
  rng : ∃ tp p, w.var? Tryd.prog "strconv.ErrRange" = some #[.iface tp p]
  max : ∃ m : Int, w.cell? ⟨0, 0, none⟩ = some (.int .i64 m)
theorem Gs.below {w W : World} (h : Gs w) (hb : Below w.heap.size w W) : Gs W := by
  obtain ⟨h1, ⟨a, b, h2⟩, ⟨c, d, h3⟩, ⟨m, h4⟩⟩ := h
  refine ⟨h1.below hb, ⟨a, b, var_below h2 hb⟩, ⟨c, d, var_below h3 hb⟩, ⟨m, ?_⟩⟩
  have hlt := World.block_lt_of_cell? w _ h4
  exact (hb.cell hlt).trans h4
end Go.Proofs.YtmoagoopdfpcnaaDoor.Q
