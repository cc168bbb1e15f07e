/- Words of the walks: what these claims use of them. -/
import Derived.Test.YtmoagoopdfpcnaaVTab
namespace Go.Proofs.YtmoagoopdfpcnaaW.PrintLast
section
variable {P : Program} {ops : Array Oper} {Q : Exit → Act → World → Prop} {md : Region.Mode} {S : World → Prop} {ds : List Nat} {T : Bool × List (List Nat × List Nat)}
end
end Go.Proofs.YtmoagoopdfpcnaaW.PrintLast
