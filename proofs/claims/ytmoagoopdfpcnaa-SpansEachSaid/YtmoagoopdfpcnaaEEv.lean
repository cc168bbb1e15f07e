/- From some number of rounds on. -/
import Derived.Test.YtmoagoopdfpcnaaVAll
namespace Go.Proofs.Ytmoagoopdfpcnaa.Q
open Go.RowKit Go.Proofs.YtmoagoopdfpcnaaW.PrintWords
theorem Ev.eq {α : Type} {g : Nat → Option α} {r r' : α} (h : Ev g r) (e : r = r') : Ev g r' := e ▸ h
theorem Ev.all {α : Type} {g : Nat → Option α} {r : α} (h : ∀ k, g k = some r) : Ev g r := ⟨0, fun k _ => h k⟩
theorem Ev.succ {α : Type} {g : Nat → Option α} {r : α} (h : Ev (fun k => g (k + 1)) r) : Ev g r := Ev.step (fun _ => rfl) h
end Go.Proofs.Ytmoagoopdfpcnaa.Q
