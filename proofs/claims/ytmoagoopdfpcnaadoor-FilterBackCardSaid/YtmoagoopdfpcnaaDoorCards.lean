/-
  DERIVED. GIVEN WITH THE SEED: THE CARDS: each row of YtmoagoopdfpcnaaDoorRows.lean that lists a variable, with what it lists TIED to the program's text (the seventh form; the later family's looks); each row that meets fmt, with fmt's text TOLD by the authors' own Lean function (tested against real Go, not proved from fmt's source: count such statements apart). THE CARD IS WHAT COUNTS. Prove the row's statement (the work); the ties are given (YtmoagoopdfpcnaaDoorTie.lean); close each card by the builder's one call (the guide's Derived/Test/ToyasCard.lean, 'card_holds'). Laid BY PROGRAM, IN A SANDBOX (cutbox-door.mjs). By AI agents, Wed Nov 11 2026. No macro, syntax, notation, axiom, sorry.
-/
import Derived.Test.YtmoagoopdfpcnaaDoorRows
import GoSem.ClaimSeven
namespace Go.Proofs.YtmoagoopdfpcnaaDoor
namespace Rows

/-- THE TIED CARD OF 'waymarklaw09.ListsForms'. -/
def listsFormsCard : Claim7 := { stood := { row := listsFormsRow, standIns := [], harness := (true, "87b878f23daca925876a879afc0b8c069f86236743802c33614d505fe9a665d0"), looks := true }, kinds := [], alts := [], laidByText := true, laidKinds := [.data, .data, .data, .sentinel, .sentinel], laidTests := true, laidLooks := .later }
def ListsFormsCardSaid : Prop := Claim7.holds Tryd.pinned (.plain (OpenSpec.ofChange listsFormsSpec)) listsFormsCard

/-- THE TIED CARD OF 'waymarklaw10.FilterBack'. -/
def filterBackCard : Claim7 := { stood := { row := filterBackRow, standIns := [], harness := (true, "87b878f23daca925876a879afc0b8c069f86236743802c33614d505fe9a665d0"), looks := true }, kinds := [], alts := [], laidByText := true, laidKinds := [.data, .data, .data, .data, .sentinel, .sentinel, .pinned], laidTests := true, laidLooks := .later }
def FilterBackCardSaid : Prop := Claim7.holds Tryd.pinned (.plain (OpenSpec.ofChange filterBackSpec)) filterBackCard

/-- THE TIED CARD OF 'waymarklaw09.ListsFirst'. -/
def listsFirstCard : Claim7 := { stood := { row := listsFirstRow, standIns := [], harness := (true, "87b878f23daca925876a879afc0b8c069f86236743802c33614d505fe9a665d0"), looks := true }, kinds := [], alts := [], laidByText := true, laidKinds := [.data, .data, .data, .sentinel, .sentinel], laidTests := true, laidLooks := .later }
def ListsFirstCardSaid : Prop := Claim7.holds Tryd.pinned (.plain (OpenSpec.ofChange listsFirstSpec)) listsFirstCard

/-- THE TIED CARD OF 'waymarklaw09.ListsInForm'. -/
def listsInFormCard : Claim7 := { stood := { row := listsInFormRow, standIns := [], harness := (true, "87b878f23daca925876a879afc0b8c069f86236743802c33614d505fe9a665d0"), looks := true }, kinds := [], alts := [], laidByText := true, laidKinds := [.data, .data, .data, .sentinel, .sentinel], laidTests := true, laidLooks := .later }
def ListsInFormCardSaid : Prop := Claim7.holds Tryd.pinned (.plain (OpenSpec.ofChange listsInFormSpec)) listsInFormCard

/-- THE TIED CARD OF 'waymarklaw02.SpansNames'. -/
def spansNamesCard : Claim7 := { stood := { row := spansNamesRow, standIns := [], harness := (true, "87b878f23daca925876a879afc0b8c069f86236743802c33614d505fe9a665d0"), looks := true }, kinds := [], alts := [], laidByText := true, laidKinds := [.data, .data, .data], laidTests := true, laidLooks := .later }
def SpansNamesCardSaid : Prop := Claim7.holds Tryd.pinned (.plain (OpenSpec.ofChange spansNamesSpec)) spansNamesCard

/-- THE TIED CARD OF 'waymarklaw02.SpansBack'. -/
def spansBackCard : Claim7 := { stood := { row := spansBackRow, standIns := [], harness := (true, "87b878f23daca925876a879afc0b8c069f86236743802c33614d505fe9a665d0"), looks := true }, kinds := [], alts := [], laidByText := true, laidKinds := [.data, .data, .data, .data, .sentinel, .sentinel, .pinned], laidTests := true, laidLooks := .later }
def SpansBackCardSaid : Prop := Claim7.holds Tryd.pinned (.plain (OpenSpec.ofChange spansBackSpec)) spansBackCard

/-- THE SECOND FORM's CARD OF 'waymarklaw09.ListsForms'. -/
def listsFormsUptoCard : Claim7 := { stood := { row := listsFormsUptoRow, standIns := [], harness := (true, "87b878f23daca925876a879afc0b8c069f86236743802c33614d505fe9a665d0"), looks := true }, kinds := [], alts := [], laidByText := true, laidKinds := [.data, .data, .data, .sentinel, .sentinel], laidTests := true, laidLooks := .later }
def ListsFormsUptoCardSaid : Prop := Claim7.holds Tryd.pinned (.plain (OpenSpec.upto listsFormsSpec)) listsFormsUptoCard

/-- THE SECOND FORM's CARD OF 'waymarklaw10.FilterBack'. -/
def filterBackUptoCard : Claim7 := { stood := { row := filterBackUptoRow, standIns := [], harness := (true, "87b878f23daca925876a879afc0b8c069f86236743802c33614d505fe9a665d0"), looks := true }, kinds := [], alts := [], laidByText := true, laidKinds := [.data, .data, .data, .data, .sentinel, .sentinel, .pinned], laidTests := true, laidLooks := .later }
def FilterBackUptoCardSaid : Prop := Claim7.holds Tryd.pinned (.plain (OpenSpec.upto filterBackSpec)) filterBackUptoCard

/-- THE SECOND FORM's CARD OF 'waymarklaw09.ListsFirst'. -/
def listsFirstUptoCard : Claim7 := { stood := { row := listsFirstUptoRow, standIns := [], harness := (true, "87b878f23daca925876a879afc0b8c069f86236743802c33614d505fe9a665d0"), looks := true }, kinds := [], alts := [], laidByText := true, laidKinds := [.data, .data, .data, .sentinel, .sentinel], laidTests := true, laidLooks := .later }
def ListsFirstUptoCardSaid : Prop := Claim7.holds Tryd.pinned (.plain (OpenSpec.upto listsFirstSpec)) listsFirstUptoCard

/-- THE SECOND FORM's CARD OF 'waymarklaw09.ListsInForm'. -/
def listsInFormUptoCard : Claim7 := { stood := { row := listsInFormUptoRow, standIns := [], harness := (true, "87b878f23daca925876a879afc0b8c069f86236743802c33614d505fe9a665d0"), looks := true }, kinds := [], alts := [], laidByText := true, laidKinds := [.data, .data, .data, .sentinel, .sentinel], laidTests := true, laidLooks := .later }
def ListsInFormUptoCardSaid : Prop := Claim7.holds Tryd.pinned (.plain (OpenSpec.upto listsInFormSpec)) listsInFormUptoCard

/-- THE SECOND FORM's CARD OF 'waymarklaw02.SpansNames'. -/
def spansNamesUptoCard : Claim7 := { stood := { row := spansNamesUptoRow, standIns := [], harness := (true, "87b878f23daca925876a879afc0b8c069f86236743802c33614d505fe9a665d0"), looks := true }, kinds := [], alts := [], laidByText := true, laidKinds := [.data, .data, .data], laidTests := true, laidLooks := .later }
def SpansNamesUptoCardSaid : Prop := Claim7.holds Tryd.pinned (.plain (OpenSpec.upto spansNamesSpec)) spansNamesUptoCard

/-- THE SECOND FORM's CARD OF 'waymarklaw02.SpansBack'. -/
def spansBackUptoCard : Claim7 := { stood := { row := spansBackUptoRow, standIns := [], harness := (true, "87b878f23daca925876a879afc0b8c069f86236743802c33614d505fe9a665d0"), looks := true }, kinds := [], alts := [], laidByText := true, laidKinds := [.data, .data, .data, .data, .sentinel, .sentinel, .pinned], laidTests := true, laidLooks := .later }
def SpansBackUptoCardSaid : Prop := Claim7.holds Tryd.pinned (.plain (OpenSpec.upto spansBackSpec)) spansBackUptoCard
end Rows
end Go.Proofs.YtmoagoopdfpcnaaDoor
