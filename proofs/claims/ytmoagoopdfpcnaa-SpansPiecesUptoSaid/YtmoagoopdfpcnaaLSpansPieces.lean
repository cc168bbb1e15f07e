/- SpansPieces: for every number and every sets of bounded bulk the law answers true. -/
import Derived.Test.YtmoagoopdfpcnaaRows
import Derived.Test.YtmoagoopdfpcnaaEPPiecesLaw
import Derived.Test.YtmoagoopdfpcnaaEOp
import Derived.WalkKit
import Derived.ProofKit
import Derived.OpenShut
import Derived.ShutString
import Derived.ChangeOld
import Derived.Below
import Derived.SizedLaws
import Derived.JoinedCond
namespace Go.Proofs.Ytmoagoopdfpcnaa.spansPieces
open Go.ChangeShapes Go.WideShapes Go.ChangeAt Go.RowKit Go.Deep Go.Proofs.YtmoagoopdfpcnaaW.PrintWords Go.Proofs.Ytmoagoopdfpcnaa.Q
open Go.ChangeMaps (open_string shut_string)
set_option linter.unusedVariables false
theorem own : ownKnob Try.prog.godebug = none := by kernel_rfl
theorem laidOut : laidOutB Try.prog = true := by kernel_rfl

theorem arg_int {P : Program} {w : World} {r : Reach} {b0 : Nat} {t : TypeId} {k : IntKind} {v : Value} (ht : P.underlying t = some (.int k)) (hv : Value.okWide P w r b0 t v) {n : Int} (h : v.cells.toList = [.int k n]) : v = .int k n := by
  obtain ⟨m, rfl⟩ := okWide_int ht hv
  simpa [Value.cells] using h

theorem cel71 : Try.prog.cellsOf 71 = 1 := by kernel_rfl

/-! ### Bulk -/
theorem bulk_one {H : Type} (d : DataW H) : 1 ≤ Rows.uptoBulk d := by
  cases d with
  | lit l => cases l <;> simp [Rows.uptoBulk]
  | nil => simp [Rows.uptoBulk]
  | ptr d => simp [Rows.uptoBulk]
  | slice elems spare => simp [Rows.uptoBulk]
  | agg parts => simp [Rows.uptoBulk]
  | iface t d => simp [Rows.uptoBulk]
  | map entries => simp [Rows.uptoBulk]
  | held h => simp [Rows.uptoBulk]
theorem bulk_mem {H : Type} {d : DataW H} : ∀ {l : List (DataW H)}, d ∈ l → Rows.uptoBulk d ≤ Rows.uptoBulkAll l
  | x :: r, h => by
    simp only [Rows.uptoBulkAll]
    rcases List.mem_cons.1 h with e | e
    · subst e; omega
    · have := bulk_mem e; omega
theorem bulk_len {H : Type} : ∀ l : List (DataW H), l.length ≤ Rows.uptoBulkAll l
  | [] => by simp
  | x :: r => by have h1 := bulk_one x; have h2 := bulk_len r; simp only [Rows.uptoBulkAll, List.length_cons]; omega
theorem set_open {H : Type} {enc : TypeId × Value → H} {w : World} {base : Nat} {spare : Nat → Bool} {held : Bool} {fuel : Nat} {cs : List Value} {x : DataW H × List MemPlace} (h : DataW.trod enc Try.prog w base spare held fuel 71 cs = some x) :
    ∃ y : List S31, (Kd.slice 31 k31).K w y cs ∧ (∀ s ∈ y, ok31 s) ∧ y.length ≤ Rows.uptoBulk x.1 := by
  obtain ⟨y, hK, _, hok⟩ := Opens.slice Try.underlying71 cel31 op31 enc w base spare held fuel cs x h
  refine ⟨y, hK, hok, ?_⟩
  obtain ⟨A, c, hcs, hlc, hC⟩ := hK
  rcases open_slice Try.underlying71 h with ⟨rfl, rfl⟩ | ⟨a, len, cap, m, n, D, Pl, hcs2, hb, hl, hm, hmm, rfl, hi⟩
  · injection hcs with h1
    injection h1 with _ h2
    omega
  · rw [hcs2] at hcs
    injection hcs with h1
    injection h1 with _ h2
    have h3 := bulk_len ((List.range len).map D)
    rw [List.length_map, List.length_range] at h3
    simp only [Rows.uptoBulk]
    omega
theorem sets_open {H : Type} {enc : TypeId × Value → H} {w : World} {base : Nat} {spare : Nat → Bool} {held : Bool} {fuel : Nat} {cs : List Value} {x : DataW H × List MemPlace} (h : DataW.trod enc Try.prog w base spare held fuel 84 cs = some x) :
    ∃ y : List (List S31), (Kd.slice 71 (Kd.slice 31 k31)).K w y cs ∧ ∀ l ∈ y, (∀ s ∈ l, ok31 s) ∧ l.length ≤ Rows.uptoBulk x.1 := by
  rcases open_slice Try.underlying84 h with ⟨rfl, rfl⟩ | ⟨a, len, cap, m, n, D, Pl, rfl, hb, hl, hm, hmm, rfl, hi⟩
  · exact ⟨[], ⟨none, 0, rfl, Nat.le_refl _, rfl, by simp, fun hp => absurd hp (by simp)⟩, by simp⟩
  · have hlm : len ≤ m := by rw [hmm]; split <;> omega
    obtain ⟨l, hlen, hr⟩ := list_choice (R := fun i (y : List S31) => (∃ c : List Value, c.length = (Kd.slice 31 k31).sz ∧ (Kd.slice 31 k31).K w y c ∧ ∀ j u, c[j]? = some u → w.cell? (a.add (i * (Kd.slice 31 k31).sz + j)) = some u) ∧ (∀ s ∈ y, ok31 s) ∧ y.length ≤ Rows.uptoBulk (D i)) len (fun i hil => by
      obtain ⟨cs', hcs, htr⟩ := hi i (by omega)
      obtain ⟨y, hK, hok, hy⟩ := set_open htr
      rw [cel71] at hcs
      obtain ⟨_, hcl, hat⟩ := World.cells?_some hcs
      refine ⟨y, ⟨cs', hcl, hK, fun j u hu => ?_⟩, hok, hy⟩
      have hj : j < 1 := by rw [← hcl]; exact (List.getElem?_eq_some_iff.1 hu).1
      show w.cell? (a.add (i * 1 + j)) = some u
      rw [← Go.Deep.add_add, hat j hj, hu])
    have h63 : len ≤ maxLen := Nat.le_trans hl hm
    refine ⟨l, ⟨some a, cap, by rw [hlen], by omega, rfl, by rw [hlen]; unfold maxLen at h63; omega, fun hp => ⟨a, rfl, fun j p hj => (hr j p hj).1⟩⟩, fun y hy => ?_⟩
    obtain ⟨j, hj, rfl⟩ := List.getElem_of_mem hy
    have h1 := (hr j _ (List.getElem?_eq_getElem hj)).2
    refine ⟨h1.1, Nat.le_trans h1.2 ?_⟩
    have h2 : D j ∈ (List.range len).map D := List.mem_map.2 ⟨j, List.mem_range.2 (by omega), rfl⟩
    have h3 := bulk_mem h2
    simp only [Rows.uptoBulk]
    omega

theorem walk (m : Int) (A1 : Option Addr) (c1 : Nat) (l1 : List (List S31)) (w : World) (hm : (Lit.int .u32 m).wf = true) (hr1 : Kd.C (Kd.slice 31 k31) w A1 l1.length l1) (hc1 : l1.length ≤ c1) (ho : ∀ l ∈ l1, (∀ s ∈ l, ok31 s) ∧ l.length ≤ 17592186044416) :
    Calls Try.prog 9 #[.int .u32 m, .slice A1 l1.length c1] w fun e w' => e = .returned (.bool true) ∧ Below w.heap.size w w' := by
  have hm := bounds_u32 hm
  have hmap : ∀ L : List (List S31), (L.map (·.map sp)).map (·.map mk) = L := fun L => by
    rw [List.map_map]
    exact (List.map_congr_left (fun l _ => map_mk_sp l)).trans (List.map_id L)
  have hS : ∀ L : List (List S31), (∀ l ∈ L, (∀ s ∈ l, ok31 s) ∧ l.length ≤ 17592186044416) → ∀ T ∈ L.map (·.map sp), (∀ s ∈ T, okS s) ∧ T.length ≤ 17592186044416 := fun L hL T hT => by
    obtain ⟨l, hl, rfl⟩ := List.mem_map.1 hT
    exact ⟨okS_of (hL l hl).1, by rw [List.length_map]; exact (hL l hl).2⟩
  by_cases h20 : l1.length > 20
  · have hT := piecesT_l0 m hm.1 hm.2 ((l1.take 20).map (·.map sp)) (hS _ (fun l hl => ho l (List.mem_of_mem_take hl))) (by rw [List.length_map, List.length_take]; omega) _ 0 (Nat.zero_add _)
    obtain ⟨k, hk⟩ := hT.rounds
    rw [hmap] at hk
    refine waymarklaw02_SpansPieces_T.calls k m A1 c1 l1 true w hr1 hc1 ?_
    unfold waymarklaw02_SpansPieces_T.f
    rw [if_pos (by omega), if_pos (by omega)]
    exact hk
  · have hE := piecesE_l0 m hm.1 hm.2 (l1.map (·.map sp)) (hS _ ho) (by rw [List.length_map]; omega) _ 0 (Nat.zero_add _)
    obtain ⟨k, hk⟩ := hE.rounds
    rw [hmap] at hk
    refine waymarklaw02_SpansPieces_E.calls k m A1 c1 l1 true w hr1 hc1 ?_
    unfold waymarklaw02_SpansPieces_E.f
    rw [if_neg (by omega)]
    exact hk

set_option maxRecDepth 100000 in
theorem lifted (os : Os) (started : os.Started) (H : Type) (enc : TypeId × Value → H) (F : Stop.Interp) :
    ReturnsInHanded {} Try.checked os 9 .any ((Rows.OpenSpec.upto Rows.spansPiecesSpec).pre6 enc Try.prog Try.f9 Rows.spansPiecesUptoRow.domain false) (((Rows.OpenSpec.upto Rows.spansPiecesSpec).at F).post enc Try.prog Try.f9 false true false false) := by
  refine returnsInHanded_of_cond (C := Try.checked) (s := Rows.OpenSpec.upto Rows.spansPiecesSpec) (k := Rows.uptoSmall) rfl own started (by kernel_rfl) Try.func9
    (OpenSpec.witness (enc := enc) (C := Try.checked) (s := Rows.OpenSpec.upto Rows.spansPiecesSpec) (k := Rows.uptoSmall) rfl false ⟨#[], #[.int .u32 0, .slice none 0 0], []⟩ 8 (by kernel_rfl) (by kernel_rfl) (by kernel_rfl)
      (x := ([.lit (.int .u32 0), .nil], [], [])) (by kernel_rfl) rfl (by kernel_rfl)) ?_
  intro W base args ds gs before hval0 hW hcnd hk _
  have hval : ∀ (j : Nat) t v, Try.f9.params[j]? = some t → args[j]? = some v → Value.okWide Try.prog W .any base t v := hval0
  have hW' := hW
  obtain ⟨p, q, hA0, hV, rfl, hfz, hnd⟩ := hW
  have hA : DataW.TrodAll enc Try.prog W 0 (fun _ => true) true Try.f9.params.toList args.toList ds p := hA0
  rw [Try.params9] at hA hval
  obtain ⟨v0, vs0, d0, ds0, p0, q0, hargs, rfl, rfl, h0, r0⟩ := trodAll_cons hA
  obtain ⟨v1, vs1, d1, ds1, p1, q1, rfl, rfl, rfl, h1, r1⟩ := trodAll_cons r0
  obtain ⟨rfl, rfl, rfl⟩ := trodAll_nil r1
  obtain rfl : args = #[v0, v1] := by cases args; simp_all
  obtain ⟨rfl, rfl⟩ := trodVars_none hV
  have lt0 : ∀ x ∈ p0, x.block < W.heap.size := by obtain ⟨m, hm⟩ := h0; exact DataW.trod_lt m _ _ _ hm
  have lt1 : ∀ x ∈ p1, x.block < W.heap.size := by obtain ⟨m, hm⟩ := h1; exact DataW.trod_lt m _ _ _ hm
  have hbulk : Rows.uptoBulk d1 ≤ 1048576 := by
    have h := of_decide_eq_true hk
    simp only [Rows.uptoBulkAll, List.append_nil] at h
    omega
  obtain ⟨n0, e0, ho0⟩ := Opens.arg (Opens.int Try.underlying26) h0
  obtain ⟨l1, ⟨A1, c1, e1, hc1, hr1⟩, ho1⟩ : ∃ y : List (List S31), (Kd.slice 71 (Kd.slice 31 k31)).K W y v1.cells.toList ∧ ∀ l ∈ y, (∀ s ∈ l, ok31 s) ∧ l.length ≤ Rows.uptoBulk d1 := by
    obtain ⟨fuel, hf⟩ := h1
    exact sets_open hf
  obtain rfl : v0 = .int .u32 n0 := arg_int Try.underlying26 (hval 0 26 v0 rfl rfl) e0
  obtain rfl := arg_slice Try.underlying84 (hval 1 84 v1 rfl rfl) e1
  clear hA0 hval0
  refine (walk n0 A1 c1 l1 W ho0 hr1 hc1 (fun l hl => ⟨(ho1 l hl).1, Nat.le_trans (ho1 l hl).2 (by omega)⟩)).mono fun e W' ⟨he, bel⟩ => ?_
  subst he
  exact ⟨_, rfl, _, _, _, [], _, [], hW', trodAll_mk1 (shut_bool Try.underlying4 _), (trodAll_cons_mk (Below.trod laidOut (by kernel_rfl) (of_decide_eq_true (by kernel_rfl)) h0 bel lt0) (trodAll_cons_mk (Below.trod laidOut (by kernel_rfl) (of_decide_eq_true (by kernel_rfl)) h1 bel lt1) trodAll_mk0)), rfl, bel.frame _, fun h => by cases h⟩

theorem over : Rows.spansPiecesUptoRow.holds Try.pinned (Rows.OpenSpec.upto Rows.spansPiecesSpec) :=
  OpenClaim.holds_of_cond 9 Try.f9 rfl rfl rfl rfl rfl rfl rfl ⟨rfl, rfl, rfl, rfl, rfl⟩ rfl rfl rfl rfl rfl (by kernel_rfl) Try.func9 (by kernel_rfl)
    (of_decide_eq_true (by kernel_rfl)) (by unfold Func.isWrapper; first | (rw [if_pos (by decide +kernel)]; kernel_rfl) | (rw [if_neg (by decide +kernel)]; exact ⟨rfl, rfl⟩))
    (fun os started H enc _ F => lifted os started H enc F)
theorem proved : Rows.SpansPiecesUptoSaid := over
end Go.Proofs.Ytmoagoopdfpcnaa.spansPieces
namespace Go.Proofs.Ytmoagoopdfpcnaa
/-- The row, under a short name, for the claim. -/
theorem spansPieces_holds : Rows.SpansPiecesUptoSaid := spansPieces.proved
end Go.Proofs.Ytmoagoopdfpcnaa
