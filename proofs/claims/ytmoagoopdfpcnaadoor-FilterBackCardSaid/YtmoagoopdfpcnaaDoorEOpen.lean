/- An argument of a row, opened to its cells by its kind: whole numbers, bools, strings, structs, slices of these, one in another. -/
import Derived.Test.YtmoagoopdfpcnaaDoorQx0
import Derived.Deep.Slices
import Derived.ChangeArms
import Derived.WideShapes
import Derived.SizedLaws
import Derived.OpenShut
namespace Go.Proofs.YtmoagoopdfpcnaaDoorW.PrintWords
open Go.RowKit Go.Deep Go.WideShapes Go.ChangeShapes

/-- What reads as a datum of type t has the cells of kind d, and ok holds of it. -/
def Opens {α : Type} (P : Program) (t : TypeId) (d : Kd α) (ok : α → Prop) : Prop :=
  ∀ {H : Type} (enc : TypeId × Value → H) (w : World) (base : Nat) (spare : Nat → Bool) (held : Bool) (fuel : Nat) (cs : List Value) (x : DataW H × List MemPlace),
    DataW.trod enc P w base spare held fuel t cs = some x → ∃ y, d.K w y cs ∧ ok y

section
variable {P : Program} {α β : Type}
theorem Opens.int {t : TypeId} {k : IntKind} (ht : P.underlying t = some (.int k)) : Opens P t (Kd.int k) (fun n => (Lit.int k n).wf = true) :=
  fun enc w base spare held fuel cs x h => by
    obtain ⟨n, rfl, _, hw⟩ := DataW.trod_int ht h
    exact ⟨n, rfl, hw⟩
theorem Opens.bool {t : TypeId} (ht : P.underlying t = some .bool) : Opens P t Kd.bool (fun _ => True) :=
  fun enc w base spare held fuel cs x h => by
    obtain ⟨b, rfl, _⟩ := DataW.trod_bool ht h
    exact ⟨b, rfl, trivial⟩
theorem Opens.string {t : TypeId} (ht : P.underlying t = some .string) : Opens P t Kd.string (fun s => s.size ≤ maxLen) :=
  fun enc w base spare held fuel cs x h => by
    obtain ⟨s, rfl, _, hs⟩ := DataW.trod_string ht h
    exact ⟨s, rfl, hs⟩
theorem Opens.imp {t : TypeId} {d : Kd α} {ok ok' : α → Prop} (h : Opens P t d ok) (hi : ∀ y, ok y → ok' y) : Opens P t d ok' :=
  fun enc w base spare held fuel cs x hx => let ⟨y, h1, h2⟩ := h enc w base spare held fuel cs x hx; ⟨y, h1, hi y h2⟩

theorem list_choice {α : Type} {R : Nat → α → Prop} : ∀ (n : Nat), (∀ i, i < n → ∃ y, R i y) → ∃ l : List α, l.length = n ∧ ∀ i y, l[i]? = some y → R i y
  | 0, _ => ⟨[], rfl, fun i y h => by simp at h⟩
  | n + 1, h => by
    obtain ⟨l, hl, hr⟩ := list_choice n (fun i hi => h i (by omega))
    obtain ⟨y, hy⟩ := h n (by omega)
    refine ⟨l ++ [y], by simp [hl], fun i z hz => ?_⟩
    rcases Nat.lt_or_ge i l.length with hi | hi
    · rw [List.getElem?_append_left hi] at hz
      exact hr i z hz
    · have : i = n := by
        have := (List.getElem?_eq_some_iff.1 hz).1
        simp at this
        omega
      subst this
      rw [← hl] at hz
      have : y = z := by simpa using hz
      subst this
      exact hy

theorem Opens.slice {t e : TypeId} {d : Kd α} {ok : α → Prop} (ht : P.underlying t = some (.slice e)) (hc : P.cellsOf e = d.sz) (h : Opens P e d ok) :
    Opens P t (Kd.slice e d) (fun l => l.length ≤ maxLen ∧ ∀ x ∈ l, ok x) :=
  fun enc w base spare held fuel cs x hx => by
    rcases open_slice ht hx with ⟨rfl, _⟩ | ⟨a, len, cap, m, n, D, Pl, rfl, hb, hl, hm, hmm, _, hi⟩
    · exact ⟨[], ⟨none, 0, rfl, Nat.le_refl _, rfl, by simp, fun hp => absurd hp (by simp)⟩, by simp, by simp⟩
    · have hlm : len ≤ m := by rw [hmm]; split <;> omega
      obtain ⟨l, hlen, hr⟩ := list_choice (R := fun i y => (∃ c : List Value, c.length = d.sz ∧ d.K w y c ∧ ∀ j u, c[j]? = some u → w.cell? (a.add (i * d.sz + j)) = some u) ∧ ok y) len (fun i hil => by
        obtain ⟨cs', hcs, htr⟩ := hi i (by omega)
        obtain ⟨y, hK, hok⟩ := h enc w base spare held n cs' _ htr
        rw [hc] at hcs
        obtain ⟨_, hcl, hat⟩ := World.cells?_some hcs
        refine ⟨y, ⟨cs', hcl, hK, fun j u hu => ?_⟩, hok⟩
        have hj : j < d.sz := by rw [← hcl]; exact (List.getElem?_eq_some_iff.1 hu).1
        rw [← Go.Deep.add_add, hat j hj, hu])
      have h63 : len ≤ maxLen := Nat.le_trans hl hm
      refine ⟨l, ⟨some a, cap, by rw [hlen], by omega, rfl, by rw [hlen]; unfold maxLen at h63; omega, fun hp => ⟨a, rfl, fun j p hj => ?_⟩⟩, by omega, fun y hy => ?_⟩
      · exact (hr j p hj).1
      · obtain ⟨j, hj, rfl⟩ := List.getElem_of_mem hy
        exact (hr j _ (List.getElem?_eq_getElem hj)).2

/-- The fields of a struct from the one at offset 'off' on. -/
def OpensFrom (P : Program) (fs : Array Field) (total _i off : Nat) (d : Kd α) (ok : α → Prop) : Prop :=
  ∀ {H : Type} (enc : TypeId × Value → H) (w : World) (base : Nat) (spare : Nat → Bool) (held : Bool) (n : Nat) (cs : List Value) (xs : List (DataW H × List MemPlace)), cs.length = total → xs.length = fs.size →
    (∀ (j : Nat) (f : Field), fs[j]? = some f → DataW.trod enc P w base spare held n f.type ((cs.drop f.offset).take (P.cellsOf f.type)) = xs[j]?) → ∃ y, d.K w y (cs.drop off) ∧ ok y
theorem OpensFrom.last {fs : Array Field} {total i off : Nat} {f : Field} {ft : TypeId} {d : Kd α} {ok : α → Prop} (hf : fs[i]? = some f) (ho : f.offset = off) (hft : f.type = ft) (hs : P.cellsOf ft = total - off) (h : Opens P ft d ok) : OpensFrom P fs total i off d ok :=
  fun enc w base spare held n cs xs hl hx ha => by
    subst hft
    have hi := (Array.getElem?_eq_some_iff.1 hf).1
    have h1 := ha i f hf
    rw [ho, hs, List.take_of_length_le (by rw [List.length_drop]; omega), List.getElem?_eq_getElem (by omega)] at h1
    exact h enc w base spare held n _ _ h1
theorem OpensFrom.next {fs : Array Field} {total i off off' : Nat} {f : Field} {ft : TypeId} {a : Kd α} {b : Kd β} {oka : α → Prop} {okb : β → Prop} (hf : fs[i]? = some f) (ho : f.offset = off) (hft : f.type = ft) (hs : off' = off + P.cellsOf ft)
    (h : Opens P ft a oka) (hr : OpensFrom P fs total (i + 1) off' b okb) : OpensFrom P fs total i off (Kd.pair a b) (fun y => oka y.1 ∧ okb y.2) :=
  fun enc w base spare held n cs xs hl hx ha => by
    subst hft
    have hi := (Array.getElem?_eq_some_iff.1 hf).1
    have h1 := ha i f hf
    rw [ho, List.getElem?_eq_getElem (by omega)] at h1
    obtain ⟨y, hy, hoy⟩ := h enc w base spare held n _ _ h1
    obtain ⟨z, hz, hoz⟩ := hr enc w base spare held n cs xs hl hx ha
    refine ⟨(y, z), ⟨_, _, ?_, hy, hz⟩, hoy, hoz⟩
    rw [hs, ← List.drop_drop, List.take_append_drop]
theorem Opens.struct {t : TypeId} {fs : Array Field} {total : Nat} {d : Kd α} {ok : α → Prop} (ht : P.underlying t = some (.struct fs)) (hC : P.cellsOf t = total) (h : OpensFrom P fs total 0 0 d ok) : Opens P t d ok :=
  fun enc w base spare held fuel cs x hx => by
    obtain ⟨xs, n, rfl, _, hl, hxl, ha⟩ := DataW.trod_struct ht hx
    exact h enc w base spare held n cs xs (hl.trans hC) hxl ha
theorem Opens.iso {t : TypeId} {d : Kd α} {ok : α → Prop} {f : β → α} {g : α → β} (h : Opens P t d ok) (hg : ∀ y, f (g y) = y) : Opens P t (Kd.iso d f) (fun y => ok (f y)) :=
  fun enc w base spare held fuel cs x hx => by
    obtain ⟨y, hy, ho⟩ := h enc w base spare held fuel cs x hx
    exact ⟨g y, by show d.K w (f (g y)) cs; rw [hg]; exact hy, by show ok (f (g y)); rw [hg]; exact ho⟩

/-! ### An argument -/
section
variable {H : Type} {enc : TypeId × Value → H} {w : World} {base base' : Nat} {spare : Nat → Bool} {held : Bool}
theorem Opens.arg {t : TypeId} {d : Kd α} {ok : α → Prop} (ho : Opens P t d ok) {v : Value} {x : DataW H} {ps : List MemPlace} (h : DataW.Trod enc P w base spare held t v x ps) : ∃ y, d.K w y v.cells.toList ∧ ok y := by
  obtain ⟨fuel, hf⟩ := h
  exact ho enc w base spare held fuel _ _ hf
theorem arg_struct {r : Reach} {b0 : Nat} {t : TypeId} {fs : Array Field} {v : Value} (ht : P.underlying t = some (.struct fs)) (hv : Value.okWide P w r b0 t v) {cs : List Value} (h : v.cells.toList = cs) : v = .agg cs.toArray := by
  obtain ⟨a, rfl, _⟩ := okWide_struct ht hv
  simp only [Value.cells] at h
  rw [← h]
theorem arg_slice {r : Reach} {b0 : Nat} {t e : TypeId} {v : Value} (ht : P.underlying t = some (.slice e)) (hv : Value.okWide P w r b0 t v) {u : Value} (h : v.cells.toList = [u]) : v = u := by
  obtain ⟨a, n, c, rfl⟩ := okWide_slice ht hv
  simpa [Value.cells] using h
theorem arg_one {v u : Value} (h : v.cells.toList = [u]) (h1 : ∀ cs, v ≠ .agg cs) (h2 : ∀ cs, v ≠ .tuple cs) : v = u := by
  cases v <;> simp_all [Value.cells]
end
end
end Go.Proofs.YtmoagoopdfpcnaaDoorW.PrintWords
