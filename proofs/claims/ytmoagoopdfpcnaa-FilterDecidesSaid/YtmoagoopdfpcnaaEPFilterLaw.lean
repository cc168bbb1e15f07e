/- FilterDecides, the plain law: at every filter, all headers, every rule. -/
import Derived.Test.YtmoagoopdfpcnaaEPFilter
import Derived.Test.YtmoagoopdfpcnaaQx14
import Derived.Test.YtmoagoopdfpcnaaQx15
namespace Go.Proofs.Ytmoagoopdfpcnaa.Q
open Go.RowKit Go.Proofs.YtmoagoopdfpcnaaW.PrintWords Go.Proofs.YtmoagoopdfpcnaaW.PrintLast Go.Proofs.YtmoagoopdfpcnaaW.PrintMore
set_option linter.unusedVariables false

theorem awake10 : waymarklaw10_awake.f = some true := by decide +kernel
theorem progFits_ev (x : S33) (y : S40) : Ev (fun k => filter_Fits.f k x.f0 x.f1 x.f2.f0 x.f2.f1 x.f3.f0 x.f3.f1 x.f4.f0 x.f4.f1 x.f5.f0 x.f5.f1 y.f0 y.f1 y.f2 y.f3 y.f4) (fitsB x y.f0 y.f1 y.f2 y.f3 y.f4) :=
  Ev.of (k := 1) (fun k => filter_Fits.mono _ _ _ _ _ _ _ _ _ _ _ _ _ _ _ k) (fits_some x y.f0 y.f1 y.f2 y.f3 y.f4)
theorem rd40 (l : List S40) (i : Nat) (h : i < l.length) : rd_T40 l (i : Int) = l[i] := by
  unfold rd_T40
  rw [Int.toNat_natCast, List.getD_eq_getElem?_getD, List.getElem?_eq_getElem h]; rfl
theorem checkF_two (l : List S33) : checkF l = 0 ∨ checkF l = 121 := by unfold checkF; split <;> simp

theorem fd_end_E (a : ByteArray) (l : List S33) (asks : List S40) (x : S33) (c : Int) (hn : l.length ≤ 9223372036854775807) (i : Int) :
    Ev (fun k => waymarklaw10_FilterDecides_E.j1 k asks c i false a l x.f0 x.f1 x.f2.f0 x.f2.f1 x.f3.f0 x.f3.f1 x.f4.f0 x.f4.f1 x.f5.f0 x.f5.f1 a l) true := by
  refine Ev.step (f := fun k => (waymarkref10_Rules.f k l l).bind fun t169 => (if t169 = true then ((waymarklaw10_awake.f).bind fun t170 => (some t170)) else (none))) (fun k => by simp only [waymarklaw10_FilterDecides_E.j1]; rw [if_neg (by simp)]) ?_
  refine Ev.bind (f := fun _ t169 => (if t169 = true then ((waymarklaw10_awake.f).bind fun t170 => (some t170)) else (none))) (rules_ev l hn) (Ev.all fun k => ?_)
  rw [awake10]; rfl
theorem fd_loop_E (a : ByteArray) (l : List S33) (asks : List S40) (x : S33) (hl : ∀ x ∈ l, ok33 x) (hn : l.length ≤ 9223372036854775807) (ha : ∀ y ∈ asks, ok40 y) (hm : asks.length ≤ 9223372036854775807) (hx : ok33 x) : ∀ d i : Nat, i + d = asks.length →
    Ev (fun k => waymarklaw10_FilterDecides_E.l0 k asks (checkF l) (i : Int) a l x.f0 x.f1 x.f2.f0 x.f2.f1 x.f3.f0 x.f3.f1 x.f4.f0 x.f4.f1 x.f5.f0 x.f5.f1 a l) true
  | 0, i, h => by
    refine Ev.step (fun k => ?_) (fd_end_E a l asks x (checkF l) hn (i : Int))
    simp only [waymarklaw10_FilterDecides_E.l0]
    rw [if_neg (by omega)]
  | d + 1, i, h => by
    have hi : i < asks.length := by omega
    have ih := fd_loop_E a l asks x hl hn ha hm hx d (i + 1) (by omega)
    by_cases h30 : (i : Int) < 30
    · refine Ev.step (f := fun k => waymarklaw10_FilterDecides_E.j1 k asks (checkF l) (i : Int) true a l x.f0 x.f1 x.f2.f0 x.f2.f1 x.f3.f0 x.f3.f1 x.f4.f0 x.f4.f1 x.f5.f0 x.f5.f1 a l) (fun k => by simp only [waymarklaw10_FilterDecides_E.l0]; rw [if_pos (by omega), decide_eq_true h30]) ?_
      refine Ev.step (f := fun k => _) (fun k => by simp only [waymarklaw10_FilterDecides_E.j1]; rw [if_pos trivial, if_pos (by omega), if_pos (by omega), rd40 asks i hi]) ?_
      have hy := ha _ (List.getElem_mem hi)
      refine Ev.bind (a := decidesF l asks[i].f0 asks[i].f1 asks[i].f2 asks[i].f3 asks[i].f4) (f := fun k bt172 => _) (Ev.all fun k => rfl) ?_
      refine Ev.bind (f := fun k bt175 => _) (Ev.all fun k => permits_some a l asks[i]) ?_
      refine Ev.bind (f := fun k t178 => _) (progFits_ev x asks[i]) ?_
      refine Ev.bind (f := fun k t180 => _) (fits_ev x asks[i] hx hy) ?_
      simp only [bne_self_eq_false, Bool.false_eq_true, if_false]
      unfold decidesF
      rcases checkF_two l with hc | hc
      · simp only [hc, if_true, bne_self_eq_false] at ih ⊢
        refine Ev.step (f := fun k => _) (fun k => by simp only [waymarklaw10_FilterDecides_E.j2]; rw [if_neg (by simp), if_pos trivial, if_pos (by omega), if_pos (by omega), rd40 asks i hi, w64 i asks.length hi hm]) ?_
        refine Ev.bind (f := fun k t182 => _) (refDecides_ev a l asks[i] hl hy hn) ?_
        simp only [if_true]
        refine Ev.bind (f := fun k t184 => _) (refPermits_ev a l asks[i] hl hy hn) ?_
        simp only [bne_self_eq_false, Bool.false_eq_true, if_false]
        exact ih
      · simp only [hc, show ((121 : Int) = 0) = False from by simp, if_false, if_true, bne_self_eq_false] at ih ⊢
        refine Ev.step (f := fun k => _) (fun k => by simp only [waymarklaw10_FilterDecides_E.j2]; rw [if_neg (by simp), if_neg (by simp), if_pos trivial, if_neg (by simp), w64 i asks.length hi hm]) ?_
        exact ih
    · refine Ev.step (fun k => ?_) (fd_end_E a l asks x (checkF l) hn (i : Int))
      simp only [waymarklaw10_FilterDecides_E.l0]
      rw [if_pos (by omega), decide_eq_false h30]
theorem fd_end_T (a : ByteArray) (l : List S33) (asks : List S40) (x : S33) (c : Int) (hn : l.length ≤ 9223372036854775807) (i : Int) :
    Ev (fun k => waymarklaw10_FilterDecides_T.j1 k asks c i false a l x.f0 x.f1 x.f2.f0 x.f2.f1 x.f3.f0 x.f3.f1 x.f4.f0 x.f4.f1 x.f5.f0 x.f5.f1 a l) true := by
  refine Ev.step (f := fun k => (waymarkref10_Rules.f k l l).bind fun t169 => (if t169 = true then ((waymarklaw10_awake.f).bind fun t170 => (some t170)) else (none))) (fun k => by simp only [waymarklaw10_FilterDecides_T.j1]; rw [if_neg (by simp)]) ?_
  refine Ev.bind (f := fun _ t169 => (if t169 = true then ((waymarklaw10_awake.f).bind fun t170 => (some t170)) else (none))) (rules_ev l hn) (Ev.all fun k => ?_)
  rw [awake10]; rfl
theorem fd_loop_T (a : ByteArray) (l : List S33) (asks : List S40) (x : S33) (hl : ∀ x ∈ l, ok33 x) (hn : l.length ≤ 9223372036854775807) (ha : ∀ y ∈ asks, ok40 y) (hm : asks.length ≤ 9223372036854775807) (hx : ok33 x) : ∀ d i : Nat, i + d = asks.length →
    Ev (fun k => waymarklaw10_FilterDecides_T.l0 k asks (checkF l) (i : Int) a l x.f0 x.f1 x.f2.f0 x.f2.f1 x.f3.f0 x.f3.f1 x.f4.f0 x.f4.f1 x.f5.f0 x.f5.f1 a l) true
  | 0, i, h => by
    refine Ev.step (fun k => ?_) (fd_end_T a l asks x (checkF l) hn (i : Int))
    simp only [waymarklaw10_FilterDecides_T.l0]
    rw [if_neg (by omega)]
  | d + 1, i, h => by
    have hi : i < asks.length := by omega
    have ih := fd_loop_T a l asks x hl hn ha hm hx d (i + 1) (by omega)
    by_cases h30 : (i : Int) < 30
    · refine Ev.step (f := fun k => waymarklaw10_FilterDecides_T.j1 k asks (checkF l) (i : Int) true a l x.f0 x.f1 x.f2.f0 x.f2.f1 x.f3.f0 x.f3.f1 x.f4.f0 x.f4.f1 x.f5.f0 x.f5.f1 a l) (fun k => by simp only [waymarklaw10_FilterDecides_T.l0]; rw [if_pos (by omega), decide_eq_true h30]) ?_
      refine Ev.step (f := fun k => _) (fun k => by simp only [waymarklaw10_FilterDecides_T.j1]; rw [if_pos trivial, if_pos (by omega), if_pos (by omega), rd40 asks i hi]) ?_
      have hy := ha _ (List.getElem_mem hi)
      refine Ev.bind (a := decidesF l asks[i].f0 asks[i].f1 asks[i].f2 asks[i].f3 asks[i].f4) (f := fun k bt172 => _) (Ev.all fun k => rfl) ?_
      refine Ev.bind (f := fun k bt175 => _) (Ev.all fun k => permits_some a l asks[i]) ?_
      refine Ev.bind (f := fun k t178 => _) (progFits_ev x asks[i]) ?_
      refine Ev.bind (f := fun k t180 => _) (fits_ev x asks[i] hx hy) ?_
      simp only [bne_self_eq_false, Bool.false_eq_true, if_false]
      unfold decidesF
      rcases checkF_two l with hc | hc
      · simp only [hc, if_true, bne_self_eq_false] at ih ⊢
        refine Ev.step (f := fun k => _) (fun k => by simp only [waymarklaw10_FilterDecides_T.j2]; rw [if_neg (by simp), if_pos trivial, if_pos (by omega), if_pos (by omega), rd40 asks i hi, w64 i asks.length hi hm]) ?_
        refine Ev.bind (f := fun k t182 => _) (refDecides_ev a l asks[i] hl hy hn) ?_
        simp only [if_true]
        refine Ev.bind (f := fun k t184 => _) (refPermits_ev a l asks[i] hl hy hn) ?_
        simp only [bne_self_eq_false, Bool.false_eq_true, if_false]
        exact ih
      · simp only [hc, show ((121 : Int) = 0) = False from by simp, if_false, if_true, bne_self_eq_false] at ih ⊢
        refine Ev.step (f := fun k => _) (fun k => by simp only [waymarklaw10_FilterDecides_T.j2]; rw [if_neg (by simp), if_neg (by simp), if_pos trivial, if_neg (by simp), w64 i asks.length hi hm]) ?_
        exact ih
    · refine Ev.step (fun k => ?_) (fd_end_T a l asks x (checkF l) hn (i : Int))
      simp only [waymarklaw10_FilterDecides_T.l0]
      rw [if_pos (by omega), decide_eq_false h30]

theorem fd_E (a : ByteArray) (l : List S33) (asks : List S40) (x : S33) (hl : ∀ x ∈ l, ok33 x) (hn : l.length ≤ 300) (ha : ∀ y ∈ asks, ok40 y) (hm : asks.length ≤ 9223372036854775807) (hx : ok33 x) :
    Ev (fun k => waymarklaw10_FilterDecides_E.f k a l asks x.f0 x.f1 x.f2.f0 x.f2.f1 x.f3.f0 x.f3.f1 x.f4.f0 x.f4.f1 x.f5.f0 x.f5.f1) true := by
  unfold waymarklaw10_FilterDecides_E.f
  refine Ev.congr (fun k => if_neg (by omega)) ?_
  simp only [Option.bind_some, List.nil_append, List.length_nil, Nat.zero_add]
  refine Ev.congr (fun k => if_pos (by omega)) ?_
  refine Ev.bind (f := fun k t167 => _) (refCheckF_ev a l hl (by omega)) ?_
  refine Ev.bind (a := checkF l) (f := fun k t168 => _) (Ev.all fun k => rfl) ?_
  simp only [if_true]
  exact fd_loop_E a l asks x hl (by omega) ha hm hx asks.length 0 (by omega)
theorem fd_T (a : ByteArray) (l : List S33) (asks : List S40) (x : S33) (hl : ∀ x ∈ l, ok33 x) (hn : 300 < l.length) (ha : ∀ y ∈ asks, ok40 y) (hm : asks.length ≤ 9223372036854775807) (hx : ok33 x) :
    Ev (fun k => waymarklaw10_FilterDecides_T.f k a l asks x.f0 x.f1 x.f2.f0 x.f2.f1 x.f3.f0 x.f3.f1 x.f4.f0 x.f4.f1 x.f5.f0 x.f5.f1) true := by
  unfold waymarklaw10_FilterDecides_T.f
  refine Ev.congr (fun k => if_pos (by omega)) ?_
  refine Ev.congr (fun k => if_pos (by omega)) ?_
  simp only [Option.bind_some, List.nil_append, List.length_nil, Nat.zero_add]
  have hl' : ∀ x ∈ l.take 300, ok33 x := fun x hx => hl x (List.mem_of_mem_take hx)
  have hn' : (l.take 300).length ≤ 300 := by rw [List.length_take]; omega
  generalize l.take 300 = l' at hl' hn' ⊢
  refine Ev.congr (fun k => if_pos (by omega)) ?_
  refine Ev.bind (f := fun k t167 => _) (refCheckF_ev a l' hl' (by omega)) ?_
  refine Ev.bind (a := checkF l') (f := fun k t168 => _) (Ev.all fun k => rfl) ?_
  simp only [if_true]
  exact fd_loop_T a l' asks x hl' (by omega) ha hm hx asks.length 0 (by omega)

end Go.Proofs.Ytmoagoopdfpcnaa.Q
