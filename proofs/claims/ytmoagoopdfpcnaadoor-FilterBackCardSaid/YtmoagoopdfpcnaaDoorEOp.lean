/- The kinds of the structs, as the rows hand them in; what the tables' conditions give; the wrap that keeps the world's shape. -/
import Derived.Test.YtmoagoopdfpcnaaDoorRows
import Derived.Test.YtmoagoopdfpcnaaDoorEOpen
import Derived.Test.YtmoagoopdfpcnaaDoorEGl
import Derived.Test.YtmoagoopdfpcnaaDoorQx0
import Derived.WalkKit
import Derived.ProofKit
import Derived.OpenShut
import Derived.ShutString
import Derived.ChangeOld
import Derived.Below
import Derived.SizedLaws
import Derived.HandedShaped
import Derived.LaidLaws
import Derived.Lay
import Derived.MakeChecks
import Derived.LaidMore
import Derived.Lib.LaidTab
import Derived.Shelf.Vars
namespace Go.Proofs.YtmoagoopdfpcnaaDoor.Q
open Go.RowKit Go.Proofs.YtmoagoopdfpcnaaDoorW.PrintWords Go.ChangeShapes
set_option linter.unusedVariables false
theorem cel3 : Tryd.prog.cellsOf 3 = 1 := by kernel_rfl
theorem cel4 : Tryd.prog.cellsOf 4 = 1 := by kernel_rfl
theorem cel9 : Tryd.prog.cellsOf 9 = 1 := by kernel_rfl
theorem cel23 : Tryd.prog.cellsOf 23 = 1 := by kernel_rfl
theorem cel32 : Tryd.prog.cellsOf 32 = 1 := by kernel_rfl
theorem cel34 : Tryd.prog.cellsOf 34 = 2 := by kernel_rfl
theorem cel36 : Tryd.prog.cellsOf 36 = 2 := by kernel_rfl
theorem cel38 : Tryd.prog.cellsOf 38 = 10 := by kernel_rfl
def ok34 (x : S34) : Prop := (Lit.int .u32 x.f0).wf = true ∧ (Lit.int .i64 x.f1).wf = true
theorem op34 : Opens Tryd.prog 34 k34 ok34 := Opens.iso (g := fun y => (⟨y.1, y.2⟩ : S34)) (Opens.struct Tryd.underlying34 cel34 (OpensFrom.next (total := 2) (i := 0) (off := 0) (off' := 1) (ft := 32) rfl rfl rfl (by rw [cel32]) (Opens.int Tryd.underlying32) (OpensFrom.last (total := 2) (i := 1) (off := 1) (ft := 3) rfl rfl rfl (by rw [cel3]) (Opens.int Tryd.underlying3)))) (fun _ => rfl)
def ok36 (x : S36) : Prop := (Lit.int .u32 x.f0).wf = true ∧ (Lit.int .u32 x.f1).wf = true
theorem op36 : Opens Tryd.prog 36 k36 ok36 := Opens.iso (g := fun y => (⟨y.1, y.2⟩ : S36)) (Opens.struct Tryd.underlying36 cel36 (OpensFrom.next (total := 2) (i := 0) (off := 0) (off' := 1) (ft := 23) rfl rfl rfl (by rw [cel23]) (Opens.int Tryd.underlying23) (OpensFrom.last (total := 2) (i := 1) (off := 1) (ft := 23) rfl rfl rfl (by rw [cel23]) (Opens.int Tryd.underlying23)))) (fun _ => rfl)
def ok38 (x : S38) : Prop := True ∧ (Lit.int .i64 x.f1).wf = true ∧ ok34 x.f2 ∧ ok34 x.f3 ∧ ok36 x.f4 ∧ ok36 x.f5
theorem op38 : Opens Tryd.prog 38 k38 ok38 := Opens.iso (g := fun y => (⟨y.1, y.2.1, y.2.2.1, y.2.2.2.1, y.2.2.2.2.1, y.2.2.2.2.2⟩ : S38)) (Opens.struct Tryd.underlying38 cel38 (OpensFrom.next (total := 10) (i := 0) (off := 0) (off' := 1) (ft := 4) rfl rfl rfl (by rw [cel4]) (Opens.bool Tryd.underlying4) (OpensFrom.next (total := 10) (i := 1) (off := 1) (off' := 2) (ft := 3) rfl rfl rfl (by rw [cel3]) (Opens.int Tryd.underlying3) (OpensFrom.next (total := 10) (i := 2) (off := 2) (off' := 4) (ft := 34) rfl rfl rfl (by rw [cel34]) op34 (OpensFrom.next (total := 10) (i := 3) (off := 4) (off' := 6) (ft := 34) rfl rfl rfl (by rw [cel34]) op34 (OpensFrom.next (total := 10) (i := 4) (off := 6) (off' := 8) (ft := 36) rfl rfl rfl (by rw [cel36]) op36 (OpensFrom.last (total := 10) (i := 5) (off := 8) (ft := 36) rfl rfl rfl (by rw [cel36]) op36))))))) (fun _ => rfl)

/-! ### What the conditions on the listed variables give -/
theorem gPow : Tryd.prog.globalNamed "internal/strconv.uint64pow10" = some 3 := by kernel_rfl
theorem gSyn : Tryd.prog.globalNamed "strconv.ErrSyntax" = some 1 := by kernel_rfl
theorem gRng : Tryd.prog.globalNamed "strconv.ErrRange" = some 2 := by kernel_rfl
theorem tPow : (Tryd.prog.globals[3]?).map (·.type) = some 205 := by kernel_rfl
theorem tSyn : (Tryd.prog.globals[1]?).map (·.type) = some 79 := by kernel_rfl
theorem tRng : (Tryd.prog.globals[2]?).map (·.type) = some 79 := by kernel_rfl
theorem celU64 : Tryd.prog.cellsOf 66 = 1 := by kernel_rfl
theorem celPow : Tryd.prog.cellsOf 205 = 20 := by kernel_rfl
abbrev laid7 : List (String × DataW Unit) := [("math/bits.deBruijn32tab", Rows.laid_math_bits_deBruijn32tab), ("math/bits.deBruijn64tab", Rows.laid_math_bits_deBruijn64tab), ("internal/strconv.uint64pow10", Rows.laid_internal_strconv_uint64pow10), ("unicode/utf8.acceptRanges", Rows.laid_unicode_utf8_acceptRanges), ("strconv.ErrRange", Rows.laid_strconv_ErrRange), ("strconv.ErrSyntax", Rows.laid_strconv_ErrSyntax), ("unicode/utf8.first", Rows.laid_unicode_utf8_first)]
theorem one_cell {W : World} {n : String} {cs : Array Value} {v : Value} (h : W.var? Tryd.prog n = some cs) (e : cs.toList = [v]) : W.var? Tryd.prog n = some #[v] := by
  obtain ⟨l⟩ := cs
  rw [h]
  exact congrArg (fun l => some (List.toArray l)) e
theorem gs_of_laid7 {W : World} (h : laidMetH Tryd.prog laid7 W) (hm : ∃ m : Int, W.cell? ⟨0, 0, none⟩ = some (.int .i64 m)) : Gs W := by
  rw [MakeChecks.laidMetH_plain _ _ _ (by kernel_rfl)] at h
  obtain ⟨ps, ⟨_, _, _, _, _, _, _, _, _, _, ⟨_, _, _, _, _, _, _, _, _, _, ⟨g2, t2, cs2, f2, p2, q2, hg2, ht2, hv2, hd2, ⟨_, _, _, _, _, _, _, _, _, _, ⟨g4, t4, cs4, f4, p4, q4, hg4, ht4, hv4, hd4, ⟨g5, t5, cs5, f5, p5, q5, hg5, ht5, hv5, hd5, _, _⟩, _⟩, _⟩, _⟩, _⟩, _⟩, _⟩ := h
  obtain rfl := Option.some.inj (gPow.symm.trans hg2)
  obtain rfl := Option.some.inj (gRng.symm.trans hg4)
  obtain rfl := Option.some.inj (gSyn.symm.trans hg5)
  obtain rfl := Option.some.inj (tPow.symm.trans ht2)
  obtain rfl := Option.some.inj (tRng.symm.trans ht4)
  obtain rfl := Option.some.inj (tSyn.symm.trans ht5)
  have e2 : cs2.toList = Lib.pow10Tab.map (fun z => Value.int .u64 z) := Lib.cells_of_tab Tryd.underlying205 Tryd.underlying66 celU64 celPow hd2
  obtain ⟨_, u4, v4, e4, _, _⟩ := iface_of_trod Tryd.underlying79 hd4
  obtain ⟨_, u5, v5, e5, _, _⟩ := iface_of_trod Tryd.underlying79 hd5
  refine ⟨⟨?_⟩, ⟨u5, v5, one_cell hv5 e5⟩, ⟨u4, v4, one_cell hv4 e4⟩, hm⟩
  show W.var? Tryd.prog _ = _
  rw [hv2, ← e2]
theorem max_of_shape {W : World} (h : W.ShapedOpen Tryd.prog) : ∃ m : Int, W.cell? ⟨0, 0, none⟩ = some (.int .i64 m) :=
  cell_of_shapedOpen_int h (t := 3) (zero := #[.int .i64 0]) (of_decide_eq_true (by kernel_rfl)) (by kernel_rfl) rfl (by kernel_rfl) (by kernel_rfl) Tryd.underlying3

/-- The wrap, with a condition beside and the world's shape kept. -/
theorem returnsInHanded_and_shaped {H : Type} {enc : TypeId × Value → H} {a : Assume} {C : Checked} {os : Os} {f : FuncId} {fn : Func} {s : ChangeSpec} {conds : List PathCond} {apart fresh handsOn again : Bool} {X : World → Array Value → Prop}
    (hX : ∀ (w w' : World) (args : Array Value), w.heap = w'.heap → X w args → X w' args)
    (own : ownKnob C.prog.godebug = none) (started : os.Started) (noInit : C.prog.inits.idxOf? f = none) (hfn : C.prog.funcs[f]? = some fn)
    (witness : ∃ (w : World) (tape : Tape) (i : Input), w.os = os ∧ (w.forCall tape i).Shaped C.prog ∧ i.vars = [] ∧ Input.okWide C.prog (w.forCall tape i) .any w.heap.size f i ∧
      ((s.pre enc C.prog fn conds apart (w.forCall tape i).memory i.args ∧ X (w.forCall tape i).memory i.args) ∧ sizedMet enc C.prog fn (OpenSpec.ofChange s) apart (w.forCall tape i).memory i.args) ∧ a.holds C.prog (lone (Frame.enter C.prog f i.args .normal) [] (w.forCall tape i)))
    (contract : ∀ (W : World) (base : Nat) (args : Array Value) (ds gs : List (DataW H)) (before : List MemPlace),
      (∀ (j : Nat) t v, fn.params[j]? = some t → args[j]? = some v → Value.okWide C.prog W .any base t v) →
      DataW.Whole enc C.prog fn.params.toList s.vars apart W args.toList ds gs before →
      W.ShapedOpen C.prog → X W args →
      Calls C.prog f args W fun e W' => ∃ v, e = .returned v ∧ s.post enc C.prog fn apart fresh handsOn again W args v W') :
    ReturnsInHanded a C os f .any (fun w args => (s.pre enc C.prog fn conds apart w args ∧ X w args) ∧ sizedMet enc C.prog fn (OpenSpec.ofChange s) apart w args) (s.post enc C.prog fn apart fresh handsOn again) := by
  refine returnsInHanded_of_calls own started noInit witness ?_
  intro w tape i _ hsh _ hok hpre hholds
  obtain ⟨_, _, _, fn', hfn', _, _, _, _, hval⟩ := hok
  have e : fn' = fn := Option.some.inj (hfn'.symm.trans hfn)
  subst e
  obtain ⟨⟨⟨ds, gs, before, hw, hc⟩, hx⟩, hz⟩ := hpre
  have hw' := DataW.Whole.of_heap (w' := w.forCall tape i) (by rfl) hw
  refine (contract (w.forCall tape i) w.heap.size i.args ds gs before hval hw' hsh (hX _ _ _ (by rfl) hx)).mono fun e W' ⟨v, he, hp⟩ => ?_
  subst he
  exact ChangeSpec.post_blind hp
end Go.Proofs.YtmoagoopdfpcnaaDoor.Q
