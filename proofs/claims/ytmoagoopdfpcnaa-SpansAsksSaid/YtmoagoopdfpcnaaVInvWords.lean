/- Words of the walks: what these claims use of them. -/
import Derived.Test.YtmoagoopdfpcnaaVInv
import Derived.Test.YtmoagoopdfpcnaaVFootNe
namespace Go.Proofs.YtmoagoopdfpcnaaW.PrintWords
open Go.RowKit
end Go.Proofs.YtmoagoopdfpcnaaW.PrintWords
namespace Go.Proofs.YtmoagoopdfpcnaaW.PrintLast
section
variable {ops : Array Oper} {a : Act} {o og : Oper} {g : Nat} {t : Tmp} {u : Bool}
end
end Go.Proofs.YtmoagoopdfpcnaaW.PrintLast
