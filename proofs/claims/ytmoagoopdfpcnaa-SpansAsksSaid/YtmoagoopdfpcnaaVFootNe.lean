/- Words of the walks: what these claims use of them. -/
import Derived.Test.YtmoagoopdfpcnaaVN
namespace Go.Proofs.YtmoagoopdfpcnaaW.PrintWords
open Go.RowKit
namespace Kd
section
variable {α : Type} {d : Kd α} {W : World} {g n : Nat} {S ok : Nat → Prop} {A : Option Addr} {ad : Addr} {xs : List α}
end
end Kd
end Go.Proofs.YtmoagoopdfpcnaaW.PrintWords
