/- The kinds of the rows' arguments, opened: written by a program (wip/main/genopen.py) for this claim. -/
import Derived.Test.YtmoagoopdfpcnaaQx0
import Derived.Test.YtmoagoopdfpcnaaEOpen
namespace Go.Proofs.Ytmoagoopdfpcnaa.Q
open Go.RowKit Go.Proofs.YtmoagoopdfpcnaaW.PrintWords
set_option linter.unusedVariables false
theorem cel3 : Try.prog.cellsOf 3 = 1 := by kernel_rfl
theorem cel4 : Try.prog.cellsOf 4 = 1 := by kernel_rfl
theorem cel5 : Try.prog.cellsOf 5 = 1 := by kernel_rfl
theorem cel9 : Try.prog.cellsOf 9 = 1 := by kernel_rfl
theorem cel22 : Try.prog.cellsOf 22 = 1 := by kernel_rfl
theorem cel24 : Try.prog.cellsOf 24 = 2 := by kernel_rfl
theorem cel26 : Try.prog.cellsOf 26 = 1 := by kernel_rfl
theorem cel27 : Try.prog.cellsOf 27 = 1 := by kernel_rfl
theorem cel29 : Try.prog.cellsOf 29 = 2 := by kernel_rfl
theorem cel31 : Try.prog.cellsOf 31 = 2 := by kernel_rfl
theorem cel33 : Try.prog.cellsOf 33 = 10 := by kernel_rfl
theorem cel38 : Try.prog.cellsOf 38 = 1 := by kernel_rfl
theorem cel40 : Try.prog.cellsOf 40 = 5 := by kernel_rfl
theorem cel49 : Try.prog.cellsOf 49 = 1 := by kernel_rfl
theorem cel50 : Try.prog.cellsOf 50 = 1 := by kernel_rfl
theorem cel51 : Try.prog.cellsOf 51 = 1 := by kernel_rfl
theorem cel53 : Try.prog.cellsOf 53 = 2 := by kernel_rfl
theorem cel55 : Try.prog.cellsOf 55 = 2 := by kernel_rfl
theorem cel67 : Try.prog.cellsOf 67 = 5 := by kernel_rfl
theorem cel69 : Try.prog.cellsOf 69 = 2 := by kernel_rfl
def ok29 (x : S29) : Prop := (Lit.int .u32 x.f0).wf = true ∧ (Lit.int .i64 x.f1).wf = true
theorem op29 : Opens Try.prog 29 k29 ok29 := Opens.iso (g := fun y => (⟨y.1, y.2⟩ : S29)) (Opens.struct Try.underlying29 cel29 (OpensFrom.next (total := 2) (i := 0) (off := 0) (off' := 1) (ft := 27) rfl rfl rfl (by rw [cel27]) (Opens.int Try.underlying27) (OpensFrom.last (total := 2) (i := 1) (off := 1) (ft := 3) rfl rfl rfl (by rw [cel3]) (Opens.int Try.underlying3)))) (fun _ => rfl)
def ok31 (x : S31) : Prop := (Lit.int .u32 x.f0).wf = true ∧ (Lit.int .u32 x.f1).wf = true
theorem op31 : Opens Try.prog 31 k31 ok31 := Opens.iso (g := fun y => (⟨y.1, y.2⟩ : S31)) (Opens.struct Try.underlying31 cel31 (OpensFrom.next (total := 2) (i := 0) (off := 0) (off' := 1) (ft := 26) rfl rfl rfl (by rw [cel26]) (Opens.int Try.underlying26) (OpensFrom.last (total := 2) (i := 1) (off := 1) (ft := 26) rfl rfl rfl (by rw [cel26]) (Opens.int Try.underlying26)))) (fun _ => rfl)
def ok33 (x : S33) : Prop := True ∧ (Lit.int .i64 x.f1).wf = true ∧ ok29 x.f2 ∧ ok29 x.f3 ∧ ok31 x.f4 ∧ ok31 x.f5
theorem op33 : Opens Try.prog 33 k33 ok33 := Opens.iso (g := fun y => (⟨y.1, y.2.1, y.2.2.1, y.2.2.2.1, y.2.2.2.2.1, y.2.2.2.2.2⟩ : S33)) (Opens.struct Try.underlying33 cel33 (OpensFrom.next (total := 10) (i := 0) (off := 0) (off' := 1) (ft := 4) rfl rfl rfl (by rw [cel4]) (Opens.bool Try.underlying4) (OpensFrom.next (total := 10) (i := 1) (off := 1) (off' := 2) (ft := 3) rfl rfl rfl (by rw [cel3]) (Opens.int Try.underlying3) (OpensFrom.next (total := 10) (i := 2) (off := 2) (off' := 4) (ft := 29) rfl rfl rfl (by rw [cel29]) op29 (OpensFrom.next (total := 10) (i := 3) (off := 4) (off' := 6) (ft := 29) rfl rfl rfl (by rw [cel29]) op29 (OpensFrom.next (total := 10) (i := 4) (off := 6) (off' := 8) (ft := 31) rfl rfl rfl (by rw [cel31]) op31 (OpensFrom.last (total := 10) (i := 5) (off := 8) (ft := 31) rfl rfl rfl (by rw [cel31]) op31))))))) (fun _ => rfl)
def ok40 (x : S40) : Prop := (Lit.int .u32 x.f0).wf = true ∧ (Lit.int .u32 x.f1).wf = true ∧ (Lit.int .u8 x.f2).wf = true ∧ (Lit.int .u16 x.f3).wf = true ∧ (Lit.int .u16 x.f4).wf = true
theorem op40 : Opens Try.prog 40 k40 ok40 := Opens.iso (g := fun y => (⟨y.1, y.2.1, y.2.2.1, y.2.2.2.1, y.2.2.2.2⟩ : S40)) (Opens.struct Try.underlying40 cel40 (OpensFrom.next (total := 5) (i := 0) (off := 0) (off' := 1) (ft := 27) rfl rfl rfl (by rw [cel27]) (Opens.int Try.underlying27) (OpensFrom.next (total := 5) (i := 1) (off := 1) (off' := 2) (ft := 27) rfl rfl rfl (by rw [cel27]) (Opens.int Try.underlying27) (OpensFrom.next (total := 5) (i := 2) (off := 2) (off' := 3) (ft := 5) rfl rfl rfl (by rw [cel5]) (Opens.int Try.underlying5) (OpensFrom.next (total := 5) (i := 3) (off := 3) (off' := 4) (ft := 38) rfl rfl rfl (by rw [cel38]) (Opens.int Try.underlying38) (OpensFrom.last (total := 5) (i := 4) (off := 4) (ft := 38) rfl rfl rfl (by rw [cel38]) (Opens.int Try.underlying38))))))) (fun _ => rfl)
def ok67 (x : S67) : Prop := True ∧ ok29 x.f1 ∧ (Lit.int .i64 x.f2).wf = true ∧ (Lit.int .i64 x.f3).wf = true
theorem op67 : Opens Try.prog 67 k67 ok67 := Opens.iso (g := fun y => (⟨y.1, y.2.1, y.2.2.1, y.2.2.2⟩ : S67)) (Opens.struct Try.underlying67 cel67 (OpensFrom.next (total := 5) (i := 0) (off := 0) (off' := 1) (ft := 4) rfl rfl rfl (by rw [cel4]) (Opens.bool Try.underlying4) (OpensFrom.next (total := 5) (i := 1) (off := 1) (off' := 3) (ft := 29) rfl rfl rfl (by rw [cel29]) op29 (OpensFrom.next (total := 5) (i := 2) (off := 3) (off' := 4) (ft := 3) rfl rfl rfl (by rw [cel3]) (Opens.int Try.underlying3) (OpensFrom.last (total := 5) (i := 3) (off := 4) (ft := 3) rfl rfl rfl (by rw [cel3]) (Opens.int Try.underlying3)))))) (fun _ => rfl)
def ok69 (x : S69) : Prop := True ∧ (x.f1.length ≤ maxLen ∧ ∀ x_ ∈ x.f1, (Lit.int .u32 x_).wf = true)
theorem op69 : Opens Try.prog 69 k69 ok69 := Opens.iso (g := fun y => (⟨y.1, y.2⟩ : S69)) (Opens.struct Try.underlying69 cel69 (OpensFrom.next (total := 2) (i := 0) (off := 0) (off' := 1) (ft := 4) rfl rfl rfl (by rw [cel4]) (Opens.bool Try.underlying4) (OpensFrom.last (total := 2) (i := 1) (off := 1) (ft := 51) rfl rfl rfl (by rw [cel51]) (Opens.slice Try.underlying51 cel26 (Opens.int Try.underlying26))))) (fun _ => rfl)
theorem op24 : Opens Try.prog 24 (Kd.pair Kd.string (Kd.slice 33 k33)) (fun y : (ByteArray × (List S33)) => (y.1.size ≤ maxLen ∧ (y.2.length ≤ maxLen ∧ ∀ x_ ∈ y.2, ok33 x_))) := Opens.struct Try.underlying24 cel24 (OpensFrom.next (total := 2) (i := 0) (off := 0) (off' := 1) (ft := 9) rfl rfl rfl (by rw [cel9]) (Opens.string Try.underlying9) (OpensFrom.last (total := 2) (i := 1) (off := 1) (ft := 22) rfl rfl rfl (by rw [cel22]) (Opens.slice Try.underlying22 cel33 op33)))
theorem op53 : Opens Try.prog 53 (Kd.pair Kd.string (Kd.slice 67 k67)) (fun y : (ByteArray × (List S67)) => (y.1.size ≤ maxLen ∧ (y.2.length ≤ maxLen ∧ ∀ x_ ∈ y.2, ok67 x_))) := Opens.struct Try.underlying53 cel53 (OpensFrom.next (total := 2) (i := 0) (off := 0) (off' := 1) (ft := 9) rfl rfl rfl (by rw [cel9]) (Opens.string Try.underlying9) (OpensFrom.last (total := 2) (i := 1) (off := 1) (ft := 49) rfl rfl rfl (by rw [cel49]) (Opens.slice Try.underlying49 cel67 op67)))
theorem op55 : Opens Try.prog 55 (Kd.pair Kd.string (Kd.slice 69 k69)) (fun y : (ByteArray × (List S69)) => (y.1.size ≤ maxLen ∧ (y.2.length ≤ maxLen ∧ ∀ x_ ∈ y.2, ok69 x_))) := Opens.struct Try.underlying55 cel55 (OpensFrom.next (total := 2) (i := 0) (off := 0) (off' := 1) (ft := 9) rfl rfl rfl (by rw [cel9]) (Opens.string Try.underlying9) (OpensFrom.last (total := 2) (i := 1) (off := 1) (ft := 50) rfl rfl rfl (by rw [cel50]) (Opens.slice Try.underlying50 cel69 op69)))
end Go.Proofs.Ytmoagoopdfpcnaa.Q
