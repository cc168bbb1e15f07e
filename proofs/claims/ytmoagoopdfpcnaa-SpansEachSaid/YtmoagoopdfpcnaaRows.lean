/-
  No cell of these rows narrows 'for every input' (looked for: loops, veiled, ifaces, maps, wideKeys, modest, calm, conditions, laid).
  DERIVED. THE GIVEN ROWS OF THIS SEAT. 9 by the template 'for every input the law returns true; each argument reads behind the call as it read before'; 0 by the template 'total and deterministic' (their statements: YtmoagoopdfpcnaaTotals.lean).
  GIVEN WITH THE SEED: the statements are not yours to turn. If you find one false, say at which input.
  Laid BY PROGRAM, IN A SANDBOX (cutbox-rows.mjs): the forced cells as the released guide's own fill.sh prints them over the translation 07494733493f39ac… (all of the seat's roots in one cut). By AI agents, Wed Nov 11 2026. No macro, syntax, notation, axiom, sorry.
-/
import Derived.Test.YtmoagoopdfpcnaaChecked
import GoSem.Claim
import GoSem.ClaimJoined
import GoSem.ClaimMapViews
import Derived.JoinedTies
import Derived.KernelRfl
namespace Go.Proofs.Ytmoagoopdfpcnaa
/- THE CELL 'sum', in the pinned program and in every row, IS THE sha256 OF THE DUMP (.gsa) THAT YtmoagoopdfpcnaaProg.lean LOADS. Nothing in Lean hashes anything: it is a label: what it is worth is what the hold of that sum in a sandbox is worth. -/
noncomputable def Try.pinned : Pinned := { name := "ytmoagoopdfpcnaa", sum := "07494733493f39ac8348765189c95749d37b29c60d857392762953f960060a23", checked := Try.checked }
namespace Rows
def none {H : Type} : Left H := { results := [], args := [] }

/-- 'waymarklaw10.FilterDecides': WHATEVER THE INPUT: true; the input reads as it did. -/
def filterDecidesSpec : ChangeSpec := { name := "filterDecides", fn := fun _ => fun
  | [d1, d2, d3] => { results := [.lit (.bool true)], args := [d1, d2, d3] }
  | _ => none }
def filterDecidesRow : OpenClaim := { program := "ytmoagoopdfpcnaa", sum := "07494733493f39ac8348765189c95749d37b29c60d857392762953f960060a23", func := "waymark/waymarklaw10.FilterDecides", spec := "filterDecides", unfollowed := true, recurses := true, plainKeys := false, apart := false }
def FilterDecidesSaid : Prop := filterDecidesRow.holds Try.pinned (OpenSpec.ofChange filterDecidesSpec)

/-- ITS FALSE NEIGHBOUR: 'it returns false'. Refute it at one input. -/
def filterDecidesWrong : ChangeSpec := { name := "filterDecides", fn := fun _ => fun
  | [d1, d2, d3] => { results := [.lit (.bool false)], args := [d1, d2, d3] }
  | _ => none }
def FilterDecidesWrongFalsely : Prop := filterDecidesRow.holds Try.pinned (OpenSpec.ofChange filterDecidesWrong)

/-- 'waymarklaw09.ListsDecide': WHATEVER THE INPUT: true; the input reads as it did. -/
def listsDecideSpec : ChangeSpec := { name := "listsDecide", fn := fun _ => fun
  | [d1, d2, d3, d4, d5] => { results := [.lit (.bool true)], args := [d1, d2, d3, d4, d5] }
  | _ => none }
def listsDecideRow : OpenClaim := { program := "ytmoagoopdfpcnaa", sum := "07494733493f39ac8348765189c95749d37b29c60d857392762953f960060a23", func := "waymark/waymarklaw09.ListsDecide", spec := "listsDecide", unfollowed := true, recurses := true, plainKeys := false, apart := false }
def ListsDecideSaid : Prop := listsDecideRow.holds Try.pinned (OpenSpec.ofChange listsDecideSpec)

/-- ITS FALSE NEIGHBOUR: 'it returns false'. Refute it at one input. -/
def listsDecideWrong : ChangeSpec := { name := "listsDecide", fn := fun _ => fun
  | [d1, d2, d3, d4, d5] => { results := [.lit (.bool false)], args := [d1, d2, d3, d4, d5] }
  | _ => none }
def ListsDecideWrongFalsely : Prop := listsDecideRow.holds Try.pinned (OpenSpec.ofChange listsDecideWrong)

/-- 'waymarklaw02.SpansEach': WHATEVER THE INPUT: true; the input reads as it did. -/
def spansEachSpec : ChangeSpec := { name := "spansEach", fn := fun _ => fun
  | [d1, d2] => { results := [.lit (.bool true)], args := [d1, d2] }
  | _ => none }
def spansEachRow : OpenClaim := { program := "ytmoagoopdfpcnaa", sum := "07494733493f39ac8348765189c95749d37b29c60d857392762953f960060a23", func := "waymark/waymarklaw02.SpansEach", spec := "spansEach", unfollowed := true, recurses := true, plainKeys := false, apart := false }
def SpansEachSaid : Prop := spansEachRow.holds Try.pinned (OpenSpec.ofChange spansEachSpec)

/-- ITS FALSE NEIGHBOUR: 'it returns false'. Refute it at one input. -/
def spansEachWrong : ChangeSpec := { name := "spansEach", fn := fun _ => fun
  | [d1, d2] => { results := [.lit (.bool false)], args := [d1, d2] }
  | _ => none }
def SpansEachWrongFalsely : Prop := spansEachRow.holds Try.pinned (OpenSpec.ofChange spansEachWrong)

/-- 'waymarklaw02.SpansAsks': WHATEVER THE INPUT: true; the input reads as it did. -/
def spansAsksSpec : ChangeSpec := { name := "spansAsks", fn := fun _ => fun
  | [d1, d2] => { results := [.lit (.bool true)], args := [d1, d2] }
  | _ => none }
def spansAsksRow : OpenClaim := { program := "ytmoagoopdfpcnaa", sum := "07494733493f39ac8348765189c95749d37b29c60d857392762953f960060a23", func := "waymark/waymarklaw02.SpansAsks", spec := "spansAsks", unfollowed := true, recurses := true, plainKeys := false, apart := false }
def SpansAsksSaid : Prop := spansAsksRow.holds Try.pinned (OpenSpec.ofChange spansAsksSpec)

/-- ITS FALSE NEIGHBOUR: 'it returns false'. Refute it at one input. -/
def spansAsksWrong : ChangeSpec := { name := "spansAsks", fn := fun _ => fun
  | [d1, d2] => { results := [.lit (.bool false)], args := [d1, d2] }
  | _ => none }
def SpansAsksWrongFalsely : Prop := spansAsksRow.holds Try.pinned (OpenSpec.ofChange spansAsksWrong)

/-- 'waymarklaw02.SpansSets': WHATEVER THE INPUT: true; the input reads as it did. -/
def spansSetsSpec : ChangeSpec := { name := "spansSets", fn := fun _ => fun
  | [d1, d2, d3, d4] => { results := [.lit (.bool true)], args := [d1, d2, d3, d4] }
  | _ => none }
def spansSetsRow : OpenClaim := { program := "ytmoagoopdfpcnaa", sum := "07494733493f39ac8348765189c95749d37b29c60d857392762953f960060a23", func := "waymark/waymarklaw02.SpansSets", spec := "spansSets", unfollowed := true, recurses := true, plainKeys := false, apart := false }
def SpansSetsSaid : Prop := spansSetsRow.holds Try.pinned (OpenSpec.ofChange spansSetsSpec)

/-- ITS FALSE NEIGHBOUR: 'it returns false'. Refute it at one input. -/
def spansSetsWrong : ChangeSpec := { name := "spansSets", fn := fun _ => fun
  | [d1, d2, d3, d4] => { results := [.lit (.bool false)], args := [d1, d2, d3, d4] }
  | _ => none }
def SpansSetsWrongFalsely : Prop := spansSetsRow.holds Try.pinned (OpenSpec.ofChange spansSetsWrong)

/-- 'waymarklaw02.SpansTruths': WHATEVER THE INPUT: true; the input reads as it did. -/
def spansTruthsSpec : ChangeSpec := { name := "spansTruths", fn := fun _ => fun
  | [d1, d2, d3, d4] => { results := [.lit (.bool true)], args := [d1, d2, d3, d4] }
  | _ => none }
def spansTruthsRow : OpenClaim := { program := "ytmoagoopdfpcnaa", sum := "07494733493f39ac8348765189c95749d37b29c60d857392762953f960060a23", func := "waymark/waymarklaw02.SpansTruths", spec := "spansTruths", unfollowed := true, recurses := true, plainKeys := false, apart := false }
def SpansTruthsSaid : Prop := spansTruthsRow.holds Try.pinned (OpenSpec.ofChange spansTruthsSpec)

/-- ITS FALSE NEIGHBOUR: 'it returns false'. Refute it at one input. -/
def spansTruthsWrong : ChangeSpec := { name := "spansTruths", fn := fun _ => fun
  | [d1, d2, d3, d4] => { results := [.lit (.bool false)], args := [d1, d2, d3, d4] }
  | _ => none }
def SpansTruthsWrongFalsely : Prop := spansTruthsRow.holds Try.pinned (OpenSpec.ofChange spansTruthsWrong)

/-- 'waymarklaw02.SpansPieces': WHATEVER THE INPUT: true; the input reads as it did. -/
def spansPiecesSpec : ChangeSpec := { name := "spansPieces", fn := fun _ => fun
  | [d1, d2] => { results := [.lit (.bool true)], args := [d1, d2] }
  | _ => none }
def spansPiecesRow : OpenClaim := { program := "ytmoagoopdfpcnaa", sum := "07494733493f39ac8348765189c95749d37b29c60d857392762953f960060a23", func := "waymark/waymarklaw02.SpansPieces", spec := "spansPieces", unfollowed := true, recurses := true, plainKeys := false, apart := false }
def SpansPiecesSaid : Prop := spansPiecesRow.holds Try.pinned (OpenSpec.ofChange spansPiecesSpec)

/-- ITS FALSE NEIGHBOUR: 'it returns false'. Refute it at one input. -/
def spansPiecesWrong : ChangeSpec := { name := "spansPieces", fn := fun _ => fun
  | [d1, d2] => { results := [.lit (.bool false)], args := [d1, d2] }
  | _ => none }
def SpansPiecesWrongFalsely : Prop := spansPiecesRow.holds Try.pinned (OpenSpec.ofChange spansPiecesWrong)

/-- 'waymarklaw02.SpansCut': WHATEVER THE INPUT: true; the input reads as it did. -/
def spansCutSpec : ChangeSpec := { name := "spansCut", fn := fun _ => fun
  | [d1, d2, d3] => { results := [.lit (.bool true)], args := [d1, d2, d3] }
  | _ => none }
def spansCutRow : OpenClaim := { program := "ytmoagoopdfpcnaa", sum := "07494733493f39ac8348765189c95749d37b29c60d857392762953f960060a23", func := "waymark/waymarklaw02.SpansCut", spec := "spansCut", unfollowed := true, recurses := true, plainKeys := false, apart := false }
def SpansCutSaid : Prop := spansCutRow.holds Try.pinned (OpenSpec.ofChange spansCutSpec)

/-- ITS FALSE NEIGHBOUR: 'it returns false'. Refute it at one input. -/
def spansCutWrong : ChangeSpec := { name := "spansCut", fn := fun _ => fun
  | [d1, d2, d3] => { results := [.lit (.bool false)], args := [d1, d2, d3] }
  | _ => none }
def SpansCutWrongFalsely : Prop := spansCutRow.holds Try.pinned (OpenSpec.ofChange spansCutWrong)

/-- 'waymarklaw10.FilterNames': WHATEVER THE INPUT: true; the input reads as it did. -/
def filterNamesSpec : ChangeSpec := { name := "filterNames", fn := fun _ => fun
  | [] => { results := [.lit (.bool true)], args := [] }
  | _ => none }
def filterNamesRow : OpenClaim := { program := "ytmoagoopdfpcnaa", sum := "07494733493f39ac8348765189c95749d37b29c60d857392762953f960060a23", func := "waymark/waymarklaw10.FilterNames", spec := "filterNames", unfollowed := true, recurses := true, plainKeys := false, apart := false }
def FilterNamesSaid : Prop := filterNamesRow.holds Try.pinned (OpenSpec.ofChange filterNamesSpec)

/-- ITS FALSE NEIGHBOUR: 'it returns false'. Refute it at one input. -/
def filterNamesWrong : ChangeSpec := { name := "filterNames", fn := fun _ => fun
  | [] => { results := [.lit (.bool false)], args := [] }
  | _ => none }
def FilterNamesWrongFalsely : Prop := filterNamesRow.holds Try.pinned (OpenSpec.ofChange filterNamesWrong)

/- THE SECOND FORM. 'bulk': how many values and letters a reading holds, each counted each time it is reached (what is shared counts as often as it is met; a slice's spare places count too). A statement '..UptoSaid' is the law's where the arguments, and the package variables that the reading takes, are together of bulk at most 1048576: NARROWER than '..Said'. Prove '..Said' where nothing that the law and all that it calls make is longer than what came in: it says more and counts as full. Else prove '..UptoSaid'. A law counts once. -/
mutual
def uptoBulk {H : Type} : DataW H → Nat
  | .lit (.string bytes) => bytes.length + 1
  | .lit _ => 1
  | .nil => 1
  | .ptr d => uptoBulk d + 1
  | .slice elems spare => uptoBulkAll elems + uptoBulkAll spare + 1
  | .agg parts => uptoBulkAll parts + 1
  | .iface _ d => uptoBulk d + 1
  | .map entries => uptoBulkEntries entries + 1
  | .held _ => 1
def uptoBulkAll {H : Type} : List (DataW H) → Nat
  | [] => 0
  | d :: r => uptoBulk d + uptoBulkAll r
def uptoBulkEntries {H : Type} : List (Lit × DataW H) → Nat
  | [] => 0
  | x :: r => uptoBulkEntry x + uptoBulkEntries r
def uptoBulkEntry {H : Type} : Lit × DataW H → Nat
  | (.string bytes, d) => bytes.length + uptoBulk d + 1
  | (_, d) => uptoBulk d + 1
 end
def uptoSmall : (H : Type) → List (DataW H) → Bool := fun _ ds => decide (uptoBulkAll ds ≤ 1048576)
def OpenSpec.upto (s : _root_.Go.ChangeSpec) : _root_.Go.OpenSpec := { _root_.Go.OpenSpec.ofChange s with cond := some uptoSmall }

/-- 'waymarklaw10.FilterDecides', WHERE WHAT IT READS IS OF BULK AT MOST 1048576: true; the input reads as it did. -/
def filterDecidesUptoRow : OpenClaim := { program := "ytmoagoopdfpcnaa", sum := "07494733493f39ac8348765189c95749d37b29c60d857392762953f960060a23", func := "waymark/waymarklaw10.FilterDecides", spec := "filterDecides", unfollowed := true, recurses := true, plainKeys := false, apart := false, narrowed := true }
def FilterDecidesUptoSaid : Prop := filterDecidesUptoRow.holds Try.pinned (OpenSpec.upto filterDecidesSpec)

/-- 'waymarklaw09.ListsDecide', WHERE WHAT IT READS IS OF BULK AT MOST 1048576: true; the input reads as it did. -/
def listsDecideUptoRow : OpenClaim := { program := "ytmoagoopdfpcnaa", sum := "07494733493f39ac8348765189c95749d37b29c60d857392762953f960060a23", func := "waymark/waymarklaw09.ListsDecide", spec := "listsDecide", unfollowed := true, recurses := true, plainKeys := false, apart := false, narrowed := true }
def ListsDecideUptoSaid : Prop := listsDecideUptoRow.holds Try.pinned (OpenSpec.upto listsDecideSpec)

/-- 'waymarklaw02.SpansEach', WHERE WHAT IT READS IS OF BULK AT MOST 1048576: true; the input reads as it did. -/
def spansEachUptoRow : OpenClaim := { program := "ytmoagoopdfpcnaa", sum := "07494733493f39ac8348765189c95749d37b29c60d857392762953f960060a23", func := "waymark/waymarklaw02.SpansEach", spec := "spansEach", unfollowed := true, recurses := true, plainKeys := false, apart := false, narrowed := true }
def SpansEachUptoSaid : Prop := spansEachUptoRow.holds Try.pinned (OpenSpec.upto spansEachSpec)

/-- 'waymarklaw02.SpansAsks', WHERE WHAT IT READS IS OF BULK AT MOST 1048576: true; the input reads as it did. -/
def spansAsksUptoRow : OpenClaim := { program := "ytmoagoopdfpcnaa", sum := "07494733493f39ac8348765189c95749d37b29c60d857392762953f960060a23", func := "waymark/waymarklaw02.SpansAsks", spec := "spansAsks", unfollowed := true, recurses := true, plainKeys := false, apart := false, narrowed := true }
def SpansAsksUptoSaid : Prop := spansAsksUptoRow.holds Try.pinned (OpenSpec.upto spansAsksSpec)

/-- 'waymarklaw02.SpansSets', WHERE WHAT IT READS IS OF BULK AT MOST 1048576: true; the input reads as it did. -/
def spansSetsUptoRow : OpenClaim := { program := "ytmoagoopdfpcnaa", sum := "07494733493f39ac8348765189c95749d37b29c60d857392762953f960060a23", func := "waymark/waymarklaw02.SpansSets", spec := "spansSets", unfollowed := true, recurses := true, plainKeys := false, apart := false, narrowed := true }
def SpansSetsUptoSaid : Prop := spansSetsUptoRow.holds Try.pinned (OpenSpec.upto spansSetsSpec)

/-- 'waymarklaw02.SpansTruths', WHERE WHAT IT READS IS OF BULK AT MOST 1048576: true; the input reads as it did. -/
def spansTruthsUptoRow : OpenClaim := { program := "ytmoagoopdfpcnaa", sum := "07494733493f39ac8348765189c95749d37b29c60d857392762953f960060a23", func := "waymark/waymarklaw02.SpansTruths", spec := "spansTruths", unfollowed := true, recurses := true, plainKeys := false, apart := false, narrowed := true }
def SpansTruthsUptoSaid : Prop := spansTruthsUptoRow.holds Try.pinned (OpenSpec.upto spansTruthsSpec)

/-- 'waymarklaw02.SpansPieces', WHERE WHAT IT READS IS OF BULK AT MOST 1048576: true; the input reads as it did. -/
def spansPiecesUptoRow : OpenClaim := { program := "ytmoagoopdfpcnaa", sum := "07494733493f39ac8348765189c95749d37b29c60d857392762953f960060a23", func := "waymark/waymarklaw02.SpansPieces", spec := "spansPieces", unfollowed := true, recurses := true, plainKeys := false, apart := false, narrowed := true }
def SpansPiecesUptoSaid : Prop := spansPiecesUptoRow.holds Try.pinned (OpenSpec.upto spansPiecesSpec)

/-- 'waymarklaw02.SpansCut', WHERE WHAT IT READS IS OF BULK AT MOST 1048576: true; the input reads as it did. -/
def spansCutUptoRow : OpenClaim := { program := "ytmoagoopdfpcnaa", sum := "07494733493f39ac8348765189c95749d37b29c60d857392762953f960060a23", func := "waymark/waymarklaw02.SpansCut", spec := "spansCut", unfollowed := true, recurses := true, plainKeys := false, apart := false, narrowed := true }
def SpansCutUptoSaid : Prop := spansCutUptoRow.holds Try.pinned (OpenSpec.upto spansCutSpec)

/-- 'waymarklaw10.FilterNames', WHERE WHAT IT READS IS OF BULK AT MOST 1048576: true; the input reads as it did. -/
def filterNamesUptoRow : OpenClaim := { program := "ytmoagoopdfpcnaa", sum := "07494733493f39ac8348765189c95749d37b29c60d857392762953f960060a23", func := "waymark/waymarklaw10.FilterNames", spec := "filterNames", unfollowed := true, recurses := true, plainKeys := false, apart := false, narrowed := true }
def FilterNamesUptoSaid : Prop := filterNamesUptoRow.holds Try.pinned (OpenSpec.upto filterNamesSpec)

end Rows
end Go.Proofs.Ytmoagoopdfpcnaa
