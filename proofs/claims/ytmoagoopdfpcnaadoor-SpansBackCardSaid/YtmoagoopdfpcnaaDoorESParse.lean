/- spans.Parse, as the printed texts ask it. -/
import Derived.Test.YtmoagoopdfpcnaaDoorESLaw
namespace Go.Proofs.YtmoagoopdfpcnaaDoor.Q
open Go.RowKit Go.Proofs.YtmoagoopdfpcnaaDoorW.PrintWords Go.Proofs.YtmoagoopdfpcnaaDoor.Txt Go.Proofs.YtmoagoopdfpcnaaDoor.SpMath
def spans_Parse.f (a0 : ByteArray) : Option (List S36 × Int) := if a0.size ≤ 500000 then some (outL (parseF (bl a0))) else none
theorem spans_Parse.calls (a0 : ByteArray) (r1 : List (S36)) (r2 : Int) (w : World) (hG : Gs w) (h : spans_Parse.f a0 = some (r1, r2)) :
    Calls Tryd.prog 33 #[.string a0] w fun e w' => ∃ v0_ : Value, e = .returned (.tuple #[v0_, .int .i64 r2]) ∧ Kd.R k36 36 w' w.heap.size (fun _ => True) v0_ r1 ∧ Below w.heap.size w w' := by
  unfold spans_Parse.f at h
  split at h
  · rename_i hs
    obtain ⟨k0, hk0⟩ := parse_ev hs
    exact spans_ParseK.calls k0 a0 r1 r2 w hG ((hk0 k0 (Nat.le_refl _)).trans h)
  · cases h
end Go.Proofs.YtmoagoopdfpcnaaDoor.Q
