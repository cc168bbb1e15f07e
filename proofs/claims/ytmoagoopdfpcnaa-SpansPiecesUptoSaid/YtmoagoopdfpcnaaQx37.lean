-- Written by a program of this session (wip/myprint) out of the translation, for this claim.
-- narrow
import Derived.Test.YtmoagoopdfpcnaaQx0
import Derived.Test.YtmoagoopdfpcnaaQx24
import Derived.Test.YtmoagoopdfpcnaaQx30
import Derived.Test.YtmoagoopdfpcnaaQx36
import Derived.Test.YtmoagoopdfpcnaaEPieces
namespace Go.Proofs.Ytmoagoopdfpcnaa.Q
open Go.RowKit Go.Proofs.YtmoagoopdfpcnaaW.PrintWords Go.Proofs.YtmoagoopdfpcnaaW.PrintLast Go.Proofs.YtmoagoopdfpcnaaW.PrintMore
attribute [local go_sem] max2_int min2_int max_two min_two max_three min_three max_four min_four   -- for this text's walks alone
set_option linter.unusedVariables false
set_option linter.unusedSimpArgs false

/-! ### waymarklaw02_SpansPieces_E: function 9 -/
mutual
def waymarklaw02_SpansPieces_E.l0 : Nat → Int → List (List (S31)) → Int → Int → Option (Bool)
 | 0, _, _, _, _ => none
 | k + 1, x0, x1, x5, x6 => if x6 < (x1.length : Int) then (if 0 ≤ x6 then (waymarklaw02_SpansPieces_E.l0 k x0 x1 (wrap64 (x5 + ((rd_L12 x1 x6).length : Int))) (wrap64 (x6 + 1))) else (none)) else (if x5 > 200 then ((waymarklaw02_awake.f k).bind fun t585 => (some t585)) else ((waymarkref02_Pieces.f k x0 x1).bind fun bt586 => ((spans_Pieces.f x0 x1).bind fun bt590 => ((spans_Pieces.f x0 x1).bind fun bt594 => (if bt586.2 = bt590.2 then (if bt586.2 = bt594.2 then ((waymarkref02_Spans.f k bt590.1 bt586.1).bind fun t598 => (waymarklaw02_SpansPieces_E.j1 k bt586.1 bt590.1 bt594.1 (!t598))) else (waymarklaw02_SpansPieces_E.j1 k bt586.1 bt590.1 bt594.1 true)) else (waymarklaw02_SpansPieces_E.j1 k bt586.1 bt590.1 bt594.1 true))))))
def waymarklaw02_SpansPieces_E.j1 : Nat → List (S31) → List (S31) → List (S31) → Bool → Option (Bool)
 | 0, _, _, _, _ => none
 | k + 1, x7, x9, x11, x67 => if x67 = true then (none) else (waymarklaw02_SpansPieces_E.l1 k x7 x9 x11 0)
def waymarklaw02_SpansPieces_E.l1 : Nat → List (S31) → List (S31) → List (S31) → Int → Option (Bool)
 | 0, _, _, _, _ => none
 | k + 1, x7, x9, x11, x13 => if x13 < (x9.length : Int) then (if 0 ≤ x13 then (waymarklaw02_SpansPieces_E.l1 k x7 (x9.set (x13 : Int).toNat (⟨99, (rd_T31 x9 x13).f1⟩ : S31)) x11 (wrap64 (x13 + 1))) else (none)) else (waymarklaw02_SpansPieces_E.l2 k x7 x9 x11 0)
def waymarklaw02_SpansPieces_E.l2 : Nat → List (S31) → List (S31) → List (S31) → Int → Option (Bool)
 | 0, _, _, _, _ => none
 | k + 1, x7, x9, x11, x14 => if x14 < 70 then (if x9.length < 17592186044416 then (waymarklaw02_SpansPieces_E.l2 k x7 (x9 ++ [(⟨0, 0⟩ : S31)]) x11 (wrap64 (x14 + 1))) else (none)) else (if (x9.length : Int) = (wrap64 ((x7.length : Int) + 70)) then ((waymarkref02_Spans.f k x11 x7).bind fun t603 => (some t603)) else (none))
end
def waymarklaw02_SpansPieces_E.f (k : Nat) (a0 : Int) (l1 : List (List (S31))) : Option (Bool) := if (l1.length : Int) > 20 then (none) else (waymarklaw02_SpansPieces_E.l0 k a0 l1 0 0)
theorem waymarklaw02_SpansPieces_E.mono_l : ∀ k, (∀ y0 y1 y2 y3, LeO (waymarklaw02_SpansPieces_E.l0 k y0 y1 y2 y3) (waymarklaw02_SpansPieces_E.l0 (k + 1) y0 y1 y2 y3)) ∧ (∀ y0 y1 y2 y3, LeO (waymarklaw02_SpansPieces_E.j1 k y0 y1 y2 y3) (waymarklaw02_SpansPieces_E.j1 (k + 1) y0 y1 y2 y3)) ∧ (∀ y0 y1 y2 y3, LeO (waymarklaw02_SpansPieces_E.l1 k y0 y1 y2 y3) (waymarklaw02_SpansPieces_E.l1 (k + 1) y0 y1 y2 y3)) ∧ (∀ y0 y1 y2 y3, LeO (waymarklaw02_SpansPieces_E.l2 k y0 y1 y2 y3) (waymarklaw02_SpansPieces_E.l2 (k + 1) y0 y1 y2 y3))
 | 0 => ⟨fun _ _ _ _ r h => by simp [waymarklaw02_SpansPieces_E.l0] at h, fun _ _ _ _ r h => by simp [waymarklaw02_SpansPieces_E.j1] at h, fun _ _ _ _ r h => by simp [waymarklaw02_SpansPieces_E.l1] at h, fun _ _ _ _ r h => by simp [waymarklaw02_SpansPieces_E.l2] at h⟩
 | k + 1 => by
  obtain ⟨ih0, ih1, ih2, ih3⟩ := waymarklaw02_SpansPieces_E.mono_l k
  refine ⟨?_, ?_, ?_, ?_⟩
  ·intro y0 y1 y2 y3
   unfold waymarklaw02_SpansPieces_E.l0
   repeat' first
   | (with_reducible exact ih0 _ _ _ _)
   | (with_reducible exact ih1 _ _ _ _)
   | (with_reducible exact ih2 _ _ _ _)
   | (with_reducible exact ih3 _ _ _ _)
   | (with_reducible exact waymarklaw02_awake.mono _)
   | (with_reducible exact waymarkref02_Pieces.mono _ _ _)
   | (with_reducible exact waymarkref02_Spans.mono _ _ _)
   | (with_reducible exact LeO.refl _)
   | (with_reducible exact LeO.none _)
   | (with_reducible refine LeO.ite ?_ ?_)
   | (with_reducible refine LeO.bind ?_ (fun _ => ?_))
   | exact ih0 _ _ _ _
   | exact ih1 _ _ _ _
   | exact ih2 _ _ _ _
   | exact ih3 _ _ _ _
   | exact waymarklaw02_awake.mono _
   | exact waymarkref02_Pieces.mono _ _ _
   | exact waymarkref02_Spans.mono _ _ _
   | exact LeO.none _
   | refine LeO.ite ?_ ?_
   | refine LeO.bind ?_ (fun _ => ?_)
  ·intro y0 y1 y2 y3
   unfold waymarklaw02_SpansPieces_E.j1
   repeat' first
   | (with_reducible exact ih0 _ _ _ _)
   | (with_reducible exact ih1 _ _ _ _)
   | (with_reducible exact ih2 _ _ _ _)
   | (with_reducible exact ih3 _ _ _ _)
   | (with_reducible exact waymarklaw02_awake.mono _)
   | (with_reducible exact waymarkref02_Pieces.mono _ _ _)
   | (with_reducible exact waymarkref02_Spans.mono _ _ _)
   | (with_reducible exact LeO.refl _)
   | (with_reducible exact LeO.none _)
   | (with_reducible refine LeO.ite ?_ ?_)
   | (with_reducible refine LeO.bind ?_ (fun _ => ?_))
   | exact ih0 _ _ _ _
   | exact ih1 _ _ _ _
   | exact ih2 _ _ _ _
   | exact ih3 _ _ _ _
   | exact waymarklaw02_awake.mono _
   | exact waymarkref02_Pieces.mono _ _ _
   | exact waymarkref02_Spans.mono _ _ _
   | exact LeO.none _
   | refine LeO.ite ?_ ?_
   | refine LeO.bind ?_ (fun _ => ?_)
  ·intro y0 y1 y2 y3
   unfold waymarklaw02_SpansPieces_E.l1
   repeat' first
   | (with_reducible exact ih0 _ _ _ _)
   | (with_reducible exact ih1 _ _ _ _)
   | (with_reducible exact ih2 _ _ _ _)
   | (with_reducible exact ih3 _ _ _ _)
   | (with_reducible exact waymarklaw02_awake.mono _)
   | (with_reducible exact waymarkref02_Pieces.mono _ _ _)
   | (with_reducible exact waymarkref02_Spans.mono _ _ _)
   | (with_reducible exact LeO.refl _)
   | (with_reducible exact LeO.none _)
   | (with_reducible refine LeO.ite ?_ ?_)
   | (with_reducible refine LeO.bind ?_ (fun _ => ?_))
   | exact ih0 _ _ _ _
   | exact ih1 _ _ _ _
   | exact ih2 _ _ _ _
   | exact ih3 _ _ _ _
   | exact waymarklaw02_awake.mono _
   | exact waymarkref02_Pieces.mono _ _ _
   | exact waymarkref02_Spans.mono _ _ _
   | exact LeO.none _
   | refine LeO.ite ?_ ?_
   | refine LeO.bind ?_ (fun _ => ?_)
  ·intro y0 y1 y2 y3
   unfold waymarklaw02_SpansPieces_E.l2
   repeat' first
   | (with_reducible exact ih0 _ _ _ _)
   | (with_reducible exact ih1 _ _ _ _)
   | (with_reducible exact ih2 _ _ _ _)
   | (with_reducible exact ih3 _ _ _ _)
   | (with_reducible exact waymarklaw02_awake.mono _)
   | (with_reducible exact waymarkref02_Pieces.mono _ _ _)
   | (with_reducible exact waymarkref02_Spans.mono _ _ _)
   | (with_reducible exact LeO.refl _)
   | (with_reducible exact LeO.none _)
   | (with_reducible refine LeO.ite ?_ ?_)
   | (with_reducible refine LeO.bind ?_ (fun _ => ?_))
   | exact ih0 _ _ _ _
   | exact ih1 _ _ _ _
   | exact ih2 _ _ _ _
   | exact ih3 _ _ _ _
   | exact waymarklaw02_awake.mono _
   | exact waymarkref02_Pieces.mono _ _ _
   | exact waymarkref02_Spans.mono _ _ _
   | exact LeO.none _
   | refine LeO.ite ?_ ?_
   | refine LeO.bind ?_ (fun _ => ?_)
theorem waymarklaw02_SpansPieces_E.mono : ∀ a0 a1 k, LeO (waymarklaw02_SpansPieces_E.f k a0 a1) (waymarklaw02_SpansPieces_E.f (k + 1) a0 a1) := by
 intro a0 a1 k
 obtain ⟨ih0, ih1, ih2, ih3⟩ := waymarklaw02_SpansPieces_E.mono_l k
 unfold waymarklaw02_SpansPieces_E.f
 repeat' first
   | (with_reducible exact ih0 _ _ _ _)
   | (with_reducible exact ih1 _ _ _ _)
   | (with_reducible exact ih2 _ _ _ _)
   | (with_reducible exact ih3 _ _ _ _)
   | (with_reducible exact waymarklaw02_awake.mono _)
   | (with_reducible exact waymarkref02_Pieces.mono _ _ _)
   | (with_reducible exact waymarkref02_Spans.mono _ _ _)
   | (with_reducible exact LeO.refl _)
   | (with_reducible exact LeO.none _)
   | (with_reducible refine LeO.ite ?_ ?_)
   | (with_reducible refine LeO.bind ?_ (fun _ => ?_))
   | exact ih0 _ _ _ _
   | exact ih1 _ _ _ _
   | exact ih2 _ _ _ _
   | exact ih3 _ _ _ _
   | exact waymarklaw02_awake.mono _
   | exact waymarkref02_Pieces.mono _ _ _
   | exact waymarkref02_Spans.mono _ _ _
   | exact LeO.none _
   | refine LeO.ite ?_ ?_
   | refine LeO.bind ?_ (fun _ => ?_)
set_option maxHeartbeats 8000000 in
set_option maxRecDepth 100000 in
theorem waymarklaw02_SpansPieces_E.calls (k : Nat) (a0 : Int) (A1 : Option Addr) (c1 : Nat) (l1 : List (List (S31))) (r : Bool) (w : World) (hr1 : Kd.C (Kd.slice 31 k31) w A1 l1.length l1) (hc1 : l1.length ≤ c1) (h : waymarklaw02_SpansPieces_E.f k a0 l1 = some r) :
  Calls Try.prog 9 #[.int .u32 a0, .slice A1 l1.length c1] w fun e w' => e = .returned (.bool r) ∧ Below w.heap.size w w' := by
 have hu31 := Try.underlying31
 have HR1 := Aside0.mk hr1
 have HC1 := Aside0.mk hc1
 clear hr1 hc1
 have HB := Aside0.mk (Below.refl w.heap.size w)
 have H : (if (l1.length : Int) > 20 then (none) else (waymarklaw02_SpansPieces_E.l0 k a0 l1 0 0)) = some r := h
 clear h
 by_cases c3 : (l1.length : Int) > 20
 ·rw [if_pos c3] at H
  exact absurd H (by simp)
 ·rw [if_neg c3] at H
  have c3b0 : decide (20 < (l1.length : Int)) = false := decide_eq_false c3
  have c3b1 : decide (20 < l1.length) = false := decide_eq_false (by omega)
  clear c3
  have H' := Aside0.mk H
  clear H
  go_enter Try.func9, Try.ntmps9
  go_wp2
  go_loopg [5, 6] k (fun kq v5 v6 w' => ∃ (x5_1 : Int) (x6_1 : Int), v5 = .int .i64 x5_1 ∧ v6 = .int .i64 x6_1 ∧ Aside0 (waymarklaw02_SpansPieces_E.l0 kq a0 l1 x5_1 x6_1 = some r) ∧ Aside0 (kq ≤ k) ∧ Aside0 (Below w.heap.size w w'))
  case atStart => exact ⟨(0), (0), (by first | rfl | (simp; done) | (simp [*]; done)), (by first | rfl | (simp; done) | (simp [*]; done)), H', ⟨Nat.le_refl _⟩, ⟨by repeat (first | (with_reducible first | exact HB.out | apply below_alloc | apply pw_below_drewN | apply below_drew1) | exact HB.out)⟩⟩
  case round =>
   clear H'
   try clear c1
   try clear p2
   try clear c3
   try clear c3b0
   try clear c3b1
   obtain ⟨x5_1, x6_1, rfl, rfl, HA, HK1, HB⟩ := hrel
   cases gk with
   | zero => exact absurd HA.out (by simp [waymarklaw02_SpansPieces_E.l0])
   | succ k1 =>
    have H := HA.out
    clear HA
    simp only [waymarklaw02_SpansPieces_E.l0] at H
    by_cases c4 : x6_1 < (l1.length : Int)
    ·rw [if_pos c4] at H
     have c4b0 : decide (x6_1 < (l1.length : Int)) = true := decide_eq_true c4
     clear c4
     by_cases c5 : 0 ≤ x6_1
     ·rw [if_pos c5] at H
      have c5b0 : decide (0 ≤ x6_1) = true := decide_eq_true c5
      clear c5
      have H' := Aside0.mk H
      clear H
      have p584 : 0 ≤ (x6_1 : Int) := of_decide_eq_true (by first | (with_reducible assumption) | assumption)
      have q584 : x6_1 < (l1.length : Int) := of_decide_eq_true (by first | (with_reducible assumption) | assumption)
      obtain ⟨ad584, A584_0, c584_0, e584, hx584_0, hl584_0, hi584_0⟩ := at_L12 HR1.out x6_1 p584 q584
      cases e584
      replace hx584_0 := pw_cell_below HB.out hx584_0
      have HR584_0 := Aside0.mk hi584_0
      have HC584_0 := Aside0.mk hl584_0
      clear hi584_0 hl584_0
      replace p584 := eq_true p584
      replace q584 := eq_true q584
      go_wp2
      go_roundg k1
      case measure => have := HK1.out; omega
      case rel => exact ⟨(wrap64 (x5_1 + ((rd_L12 l1 x6_1).length : Int))), (wrap64 (x6_1 + 1)), (by first | rfl | (simp; done) | (simp [*]; done)), (by first | rfl | (simp; done) | (simp [*]; done)), H', ⟨by have := HK1.out; omega⟩, ⟨by repeat (first | (with_reducible first | exact HB.out | apply below_alloc | apply pw_below_drewN | apply below_drew1) | exact HB.out)⟩⟩
     ·rw [if_neg c5] at H
      exact absurd H (by simp)
    ·rw [if_neg c4] at H
     have c4b0 : decide (x6_1 < (l1.length : Int)) = false := decide_eq_false c4
     clear c4
     by_cases c6 : x5_1 > 200
     ·rw [if_pos c6] at H
      have c6b0 : decide (200 < x5_1) = true := decide_eq_true c6
      clear c6
      replace H := Option.bind_eq_some_iff.mp H
      obtain ⟨t585, A70, H⟩ := H
      replace H : (some t585) = some r := H
      have A7 := Aside0.mk A70
      clear A70
      obtain rfl := Option.some.inj H
      go_wp2_with (first | ((with_reducible refine gate_callee (f := 35) rfl ?_); refine goesL_ (some 35) rfl rfl Try.func35 (by kernel_rfl) rfl #[] rfl (by (try simp only [List.map_toArray, List.map_cons, List.map_nil]); first | done | rfl | (simp only [List.length_drop, List.length_take]; rfl)) ?_; (with_reducible refine (waymarklaw02_awake.calls k1  t585 _ A7.out).mono ?_); rintro e w8 ⟨rfl, hb⟩; refine ⟨_, rfl, ?_⟩; have n0_ := Aside0.mk (below_step (by repeat (first | (with_reducible first | exact HB.out | apply below_alloc | apply pw_below_drewN | apply below_drew1) | exact HB.out)) hb); clear HB; have HB := n0_; clear n0_; (try clear hb); (try clear hb2); (try clear hk); (try clear hi)))
      go_ret
      exact ⟨by first | rfl | (simp [errW_none, errW_some] <;> rfl) | (simp [*, errW_none, errW_some] <;> rfl), by repeat (first | (with_reducible first | exact HB.out | apply below_alloc | apply pw_below_drewN | apply below_drew1) | exact HB.out)⟩
     ·rw [if_neg c6] at H
      have c6b0 : decide (200 < x5_1) = false := decide_eq_false c6
      clear c6
      replace H := Option.bind_eq_some_iff.mp H
      obtain ⟨⟨t586, t587⟩, A90, H⟩ := H
      replace H : ((spans_Pieces.f a0 l1).bind fun bt590 => ((spans_Pieces.f a0 l1).bind fun bt594 => (if t587 = bt590.2 then (if t587 = bt594.2 then ((waymarkref02_Spans.f k1 bt590.1 t586).bind fun t598 => (waymarklaw02_SpansPieces_E.j1 k1 t586 bt590.1 bt594.1 (!t598))) else (waymarklaw02_SpansPieces_E.j1 k1 t586 bt590.1 bt594.1 true)) else (waymarklaw02_SpansPieces_E.j1 k1 t586 bt590.1 bt594.1 true)))) = some r := H
      have A9 := Aside0.mk A90
      clear A90
      replace H := Option.bind_eq_some_iff.mp H
      obtain ⟨⟨t590, t591⟩, A100, H⟩ := H
      replace H : ((spans_Pieces.f a0 l1).bind fun bt594 => (if t587 = t591 then (if t587 = bt594.2 then ((waymarkref02_Spans.f k1 t590 t586).bind fun t598 => (waymarklaw02_SpansPieces_E.j1 k1 t586 t590 bt594.1 (!t598))) else (waymarklaw02_SpansPieces_E.j1 k1 t586 t590 bt594.1 true)) else (waymarklaw02_SpansPieces_E.j1 k1 t586 t590 bt594.1 true))) = some r := H
      have A10 := Aside0.mk A100
      clear A100
      replace H := Option.bind_eq_some_iff.mp H
      obtain ⟨⟨t594, t595⟩, A110, H⟩ := H
      replace H : (if t587 = t591 then (if t587 = t595 then ((waymarkref02_Spans.f k1 t590 t586).bind fun t598 => (waymarklaw02_SpansPieces_E.j1 k1 t586 t590 t594 (!t598))) else (waymarklaw02_SpansPieces_E.j1 k1 t586 t590 t594 true)) else (waymarklaw02_SpansPieces_E.j1 k1 t586 t590 t594 true)) = some r := H
      have A11 := Aside0.mk A110
      clear A110
      have HC12 := Aside0.mk H
      clear H
      go_upto_region 13 with (first | ((with_reducible refine gate_callee (f := 54) rfl ?_); refine goesL_ (some 39) rfl rfl Try.func54 (by kernel_rfl) rfl #[.int .u32 a0, .slice A1 l1.length c1] rfl (by (try simp only [List.map_toArray, List.map_cons, List.map_nil]); first | done | rfl | (simp only [List.length_drop, List.length_take]; rfl)) ?_; (with_reducible refine (waymarkref02_Pieces.calls k1 a0 _ _ l1 t586 t587 _ ?side1 ?side2 A9.out).mono ?_); (case side1 => repeat (first | exact (Kd.C_below HR1.out HB.out) | (with_reducible refine Kd.C_alloc ?_ _) | (with_reducible refine Kd.C_drewN ?_ _) | (with_reducible refine Kd.C_drew ?_))); (case side2 => exact HC1.out); rintro e w13 ⟨v588, rfl, ho0, hb⟩; refine ⟨_, rfl, ?_⟩; have n0_ := Aside0.mk (Kd.R_lower ho0 (below_size (by repeat (first | (with_reducible first | exact HB.out | apply below_alloc | apply pw_below_drewN | apply below_drew1) | exact HB.out)))); have n1_ := Aside0.mk (below_step (by repeat (first | (with_reducible first | exact HB.out | apply below_alloc | apply pw_below_drewN | apply below_drew1) | exact HB.out)) hb); clear HB; have HO589 := n0_; have HB := n1_; clear n0_ n1_; (try clear hb); (try clear hb2); (try clear hk); (try clear hi); (try clear ho0)) | ((with_reducible refine gate_callee (f := 55) rfl ?_); refine goesL_ (some 45) rfl rfl Try.func55 (by kernel_rfl) rfl #[.int .u32 a0, .slice A1 l1.length c1] rfl (by (try simp only [List.map_toArray, List.map_cons, List.map_nil]); first | done | rfl | (simp only [List.length_drop, List.length_take]; rfl)) ?_; (with_reducible refine (spans_Pieces.calls a0 _ _ l1 t590 t591 _ ?side1 ?side2 A10.out).mono ?_); (case side1 => repeat (first | exact (Kd.C_below HR1.out HB.out) | (with_reducible refine Kd.C_alloc ?_ _) | (with_reducible refine Kd.C_drewN ?_ _) | (with_reducible refine Kd.C_drew ?_))); (case side2 => exact HC1.out); rintro e w14 ⟨v592, rfl, ho0, hb⟩; refine ⟨_, rfl, ?_⟩; have n0_ := Aside0.mk (Kd.R_elder' (by (with_reducible repeat (first | apply Kd.R_alloc | apply Kd.R_drewN | apply Kd.R_drew)); exact HO589.out) (Kd.R_base ho0) hb); have n1_ := Aside0.mk (Kd.R_lower (Kd.R_new' ho0 (Kd.R_lt (by (with_reducible repeat (first | apply Kd.R_alloc | apply Kd.R_drewN | apply Kd.R_drew)); exact HO589.out))) (below_size (by repeat (first | (with_reducible first | exact HB.out | apply below_alloc | apply pw_below_drewN | apply below_drew1) | exact HB.out)))); have n2_ := Aside0.mk (below_step (by repeat (first | (with_reducible first | exact HB.out | apply below_alloc | apply pw_below_drewN | apply below_drew1) | exact HB.out)) hb); clear HO589; clear HB; have HO589 := n0_; have HO593 := n1_; have HB := n2_; clear n0_ n1_ n2_; (try clear hb); (try clear hb2); (try clear hk); (try clear hi); (try clear ho0)) | ((with_reducible refine gate_callee (f := 55) rfl ?_); refine goesL_ (some 51) rfl rfl Try.func55 (by kernel_rfl) rfl #[.int .u32 a0, .slice A1 l1.length c1] rfl (by (try simp only [List.map_toArray, List.map_cons, List.map_nil]); first | done | rfl | (simp only [List.length_drop, List.length_take]; rfl)) ?_; (with_reducible refine (spans_Pieces.calls a0 _ _ l1 t594 t595 _ ?side1 ?side2 A11.out).mono ?_); (case side1 => repeat (first | exact (Kd.C_below HR1.out HB.out) | (with_reducible refine Kd.C_alloc ?_ _) | (with_reducible refine Kd.C_drewN ?_ _) | (with_reducible refine Kd.C_drew ?_))); (case side2 => exact HC1.out); rintro e w15 ⟨v596, rfl, ho0, hb⟩; refine ⟨_, rfl, ?_⟩; have n0_ := Aside0.mk (Kd.R_elder' (by (with_reducible repeat (first | apply Kd.R_alloc | apply Kd.R_drewN | apply Kd.R_drew)); exact HO589.out) (Kd.R_base ho0) hb); have n1_ := Aside0.mk (Kd.R_elder' (by (with_reducible repeat (first | apply Kd.R_alloc | apply Kd.R_drewN | apply Kd.R_drew)); exact HO593.out) (Kd.R_base ho0) hb); have n2_ := Aside0.mk (Kd.R_lower (Kd.R_new' (Kd.R_new' ho0 (Kd.R_lt (by (with_reducible repeat (first | apply Kd.R_alloc | apply Kd.R_drewN | apply Kd.R_drew)); exact HO589.out))) (Kd.R_lt (by (with_reducible repeat (first | apply Kd.R_alloc | apply Kd.R_drewN | apply Kd.R_drew)); exact HO593.out))) (below_size (by repeat (first | (with_reducible first | exact HB.out | apply below_alloc | apply pw_below_drewN | apply below_drew1) | exact HB.out)))); have n3_ := Aside0.mk (below_step (by repeat (first | (with_reducible first | exact HB.out | apply below_alloc | apply pw_below_drewN | apply below_drew1) | exact HB.out)) hb); clear HO589; clear HO593; clear HB; have HO589 := n0_; have HO593 := n1_; have HO597 := n2_; have HB := n3_; clear n0_ n1_ n2_ n3_; (try clear hb); (try clear hb2); (try clear hk); (try clear hi); (try clear ho0)))
      (try simp only [Act.put, List.setIfInBounds_toArray, List.set_cons_zero, List.set_cons_succ])
      go_cut [67] (fun v67 wc => ∃ (kq : Nat) (x67_11 : Bool), v67 = .bool x67_11 ∧ Aside0 (waymarklaw02_SpansPieces_E.j1 kq t586 t590 t594 x67_11 = some r) ∧ Aside0 (kq ≤ k1) ∧ Aside0 (Kd.R k31 31 wc w.heap.size (fun k_ => some k_ ≠ (v592 : Value).ownBlock ∧ some k_ ≠ (v596 : Value).ownBlock) v588 t586) ∧ Aside0 (Kd.R k31 31 wc w.heap.size (fun k_ => some k_ ≠ (v588 : Value).ownBlock ∧ some k_ ≠ (v596 : Value).ownBlock) v592 t590) ∧ Aside0 (Kd.R k31 31 wc w.heap.size (fun k_ => some k_ ≠ (v588 : Value).ownBlock ∧ some k_ ≠ (v592 : Value).ownBlock) v596 t594) ∧ Aside0 (Below w.heap.size w wc))
      case first =>
       have H := HC12.out
       clear HC12
       by_cases c16 : t587 = t591
       ·rw [if_pos c16] at H
        have c16b0 : (t587 == t591) = true := beq_iff_eq.mpr c16
        have c16b1 : (t587 != t591) = false := bne_eq_false_iff_eq.mpr c16
        clear c16
        (first | rw [c16b0] | (simp only [i64_w, i32_w]; rw [c16b0]) | skip)
        by_cases c17 : t587 = t595
        ·rw [if_pos c17] at H
         have c17b0 : (t587 == t595) = true := beq_iff_eq.mpr c17
         have c17b1 : (t587 != t595) = false := bne_eq_false_iff_eq.mpr c17
         clear c17
         replace H := Option.bind_eq_some_iff.mp H
         obtain ⟨t598, A180, H⟩ := H
         replace H : (waymarklaw02_SpansPieces_E.j1 k1 t586 t590 t594 (!t598)) = some r := H
         have A18 := Aside0.mk A180
         clear A180
         have H' := Aside0.mk H
         clear H
         obtain ⟨Ao19, co19, eo19⟩ := Kd.R_slice HO593.out
         subst eo19
         obtain ⟨Ao20, co20, eo20⟩ := Kd.R_slice HO589.out
         subst eo20
         go_wp2_with (first | (go_at_call 42; (with_reducible refine (waymarkref02_Spans.calls k1 _ _ t590 _ _ t586 t598 _ ?side1 ?side2 ?side3 ?side4 A18.out).mono ?_); (case side1 => repeat (first | exact (Kd.R_reads' HO593.out).2.2 | (with_reducible refine Kd.C_alloc ?_ _) | (with_reducible refine Kd.C_drewN ?_ _) | (with_reducible refine Kd.C_drew ?_))); (case side2 => exact (Kd.R_reads' HO593.out).2.1); (case side3 => repeat (first | exact (Kd.R_reads' HO589.out).2.2 | (with_reducible refine Kd.C_alloc ?_ _) | (with_reducible refine Kd.C_drewN ?_ _) | (with_reducible refine Kd.C_drew ?_))); (case side4 => exact (Kd.R_reads' HO589.out).2.1); rintro e w' ⟨rfl, ⟨nd, rfl⟩⟩))
         go_meet
         case rel => exact ⟨_, (!t598), (by first | rfl | (simp; done) | (simp [*]; done)), H', ⟨by have := HK1.out; first | omega | exact Nat.le_refl _⟩, ⟨by (with_reducible repeat (first | apply Kd.R_alloc | apply Kd.R_drewN | apply Kd.R_drew)); exact Kd.R_mono HO589.out (fun _ hk => ⟨hk.1.2, hk.2⟩)⟩, ⟨by (with_reducible repeat (first | apply Kd.R_alloc | apply Kd.R_drewN | apply Kd.R_drew)); exact Kd.R_mono HO593.out (fun _ hk => ⟨hk.1.2, hk.2⟩)⟩, ⟨by (with_reducible repeat (first | apply Kd.R_alloc | apply Kd.R_drewN | apply Kd.R_drew)); exact Kd.R_mono HO597.out (fun _ hk => ⟨hk.1.2, hk.2⟩)⟩, ⟨by repeat (first | (with_reducible first | exact HB.out | apply below_alloc | apply pw_below_drewN | apply below_drew1) | exact HB.out)⟩⟩
        ·rw [if_neg c17] at H
         have c17b0 : (t587 == t595) = false := beq_eq_false_iff_ne.mpr c17
         have c17b1 : (t587 != t595) = true := bne_iff_ne.mpr c17
         have H' := Aside0.mk H
         clear H
         go_wp2
         go_meet
         case rel => exact ⟨_, (true), (by first | rfl | (simp; done) | (simp [*]; done)), H', ⟨by have := HK1.out; first | omega | exact Nat.le_refl _⟩, ⟨by (with_reducible repeat (first | apply Kd.R_alloc | apply Kd.R_drewN | apply Kd.R_drew)); exact Kd.R_mono HO589.out (fun _ hk => ⟨hk.1.2, hk.2⟩)⟩, ⟨by (with_reducible repeat (first | apply Kd.R_alloc | apply Kd.R_drewN | apply Kd.R_drew)); exact Kd.R_mono HO593.out (fun _ hk => ⟨hk.1.2, hk.2⟩)⟩, ⟨by (with_reducible repeat (first | apply Kd.R_alloc | apply Kd.R_drewN | apply Kd.R_drew)); exact Kd.R_mono HO597.out (fun _ hk => ⟨hk.1.2, hk.2⟩)⟩, ⟨by repeat (first | (with_reducible first | exact HB.out | apply below_alloc | apply pw_below_drewN | apply below_drew1) | exact HB.out)⟩⟩
       ·rw [if_neg c16] at H
        have c16b0 : (t587 == t591) = false := beq_eq_false_iff_ne.mpr c16
        have c16b1 : (t587 != t591) = true := bne_iff_ne.mpr c16
        (first | rw [c16b0] | (simp only [i64_w, i32_w]; rw [c16b0]) | skip)
        have H' := Aside0.mk H
        clear H
        go_wp2
        go_meet
        case rel => exact ⟨_, (true), (by first | rfl | (simp; done) | (simp [*]; done)), H', ⟨by have := HK1.out; first | omega | exact Nat.le_refl _⟩, ⟨by (with_reducible repeat (first | apply Kd.R_alloc | apply Kd.R_drewN | apply Kd.R_drew)); exact Kd.R_mono HO589.out (fun _ hk => ⟨hk.1.2, hk.2⟩)⟩, ⟨by (with_reducible repeat (first | apply Kd.R_alloc | apply Kd.R_drewN | apply Kd.R_drew)); exact Kd.R_mono HO593.out (fun _ hk => ⟨hk.1.2, hk.2⟩)⟩, ⟨by (with_reducible repeat (first | apply Kd.R_alloc | apply Kd.R_drewN | apply Kd.R_drew)); exact Kd.R_mono HO597.out (fun _ hk => ⟨hk.1.2, hk.2⟩)⟩, ⟨by repeat (first | (with_reducible first | exact HB.out | apply below_alloc | apply pw_below_drewN | apply below_drew1) | exact HB.out)⟩⟩
      case rest =>
       clear HC12
       try clear c1
       try clear p2
       try clear c3
       try clear c3b0
       try clear c3b1
       try clear c4
       try clear c4b0
       try clear c5
       try clear c5b0
       try clear p5
       try clear q5
       try clear hx5
       try clear c6
       try clear c6b0
       try clear p6
       try clear c9
       try clear c16
       try clear c16b0
       try clear c16b1
       try clear c17
       try clear c17b0
       try clear c17b1
       try clear hx584_0
       try clear p2
       try clear p584
       try clear q584
       obtain ⟨kq, x67_11, rfl, HA, HJ11, HO_7, HO_9, HO_11, HB⟩ := hcut
       cases kq with
       | zero => exact absurd HA.out (by simp [waymarklaw02_SpansPieces_E.j1])
       | succ kj11 =>
        have H := HA.out
        clear HA
        simp only [waymarklaw02_SpansPieces_E.j1] at H
        by_cases c21 : x67_11 = true
        ·subst c21
         have H1 : (none) = some r := by rw [if_pos rfl] at H; exact H
         clear H
         have H := H1
         clear H1
         exact absurd H (by simp)
        ·replace c21 := Bool.eq_false_iff.mpr c21
         subst c21
         have H1 : (waymarklaw02_SpansPieces_E.l1 kj11 t586 t590 t594 0) = some r := by rw [if_neg (show ¬ (false = true) by decide)] at H; exact H
         clear H
         have H := H1
         clear H1
         have H' := Aside0.mk H
         clear H
         go_wp2
         go_loopg [13] kj11 (fun kq v13 w' => ∃ (x9_3 : List (S31)) (x13_3 : Int), v13 = .int .i64 x13_3 ∧ Aside0 (waymarklaw02_SpansPieces_E.l1 kq t586 x9_3 t594 x13_3 = some r) ∧ Aside0 (kq ≤ kj11) ∧ Aside0 (Kd.R k31 31 w' w.heap.size (fun k_ => some k_ ≠ (v592 : Value).ownBlock ∧ some k_ ≠ (v596 : Value).ownBlock) v588 t586) ∧ Aside0 (Kd.R k31 31 w' w.heap.size (fun k_ => some k_ ≠ (v588 : Value).ownBlock ∧ some k_ ≠ (v596 : Value).ownBlock) v592 x9_3) ∧ Aside0 (Kd.R k31 31 w' w.heap.size (fun k_ => some k_ ≠ (v588 : Value).ownBlock ∧ some k_ ≠ (v592 : Value).ownBlock) v596 t594) ∧ Aside0 (Below w.heap.size w w'))
         case atStart => exact ⟨(t590), (0), (by first | rfl | (simp; done) | (simp [*]; done)), H', ⟨Nat.le_refl _⟩, ⟨by (with_reducible repeat (first | apply Kd.R_alloc | apply Kd.R_drewN | apply Kd.R_drew)); exact HO_7.out⟩, ⟨by (with_reducible repeat (first | apply Kd.R_alloc | apply Kd.R_drewN | apply Kd.R_drew)); exact HO_9.out⟩, ⟨by (with_reducible repeat (first | apply Kd.R_alloc | apply Kd.R_drewN | apply Kd.R_drew)); exact HO_11.out⟩, ⟨by repeat (first | (with_reducible first | exact HB.out | apply below_alloc | apply pw_below_drewN | apply below_drew1) | exact HB.out)⟩⟩
         case round =>
          clear H'
          try clear c1
          try clear c2
          try clear p2
          try clear c3
          try clear c3b0
          try clear c3b1
          try clear c4
          try clear c4b0
          try clear c5
          try clear c5b0
          try clear p5
          try clear q5
          try clear hx5
          try clear c6
          try clear c6b0
          try clear p6
          try clear c9
          try clear c16
          try clear c16b0
          try clear c16b1
          try clear c17
          try clear c17b0
          try clear c17b1
          try clear c21
          try clear hx584_0
          try clear p2
          try clear p5
          try clear p584
          try clear p6
          try clear q5
          try clear q584
          obtain ⟨x9_3, x13_3, rfl, HA, HK3, HO_7, HO_9, HO_11, HB⟩ := hrel
          cases gk with
          | zero => exact absurd HA.out (by simp [waymarklaw02_SpansPieces_E.l1])
          | succ k3 =>
           have H := HA.out
           clear HA
           simp only [waymarklaw02_SpansPieces_E.l1] at H
           by_cases c22 : x13_3 < (x9_3.length : Int)
           ·rw [if_pos c22] at H
            have c22b0 : decide (x13_3 < (x9_3.length : Int)) = true := decide_eq_true c22
            clear c22
            by_cases c23 : 0 ≤ x13_3
            ·rw [if_pos c23] at H
             have c23b0 : decide (0 ≤ x13_3) = true := decide_eq_true c23
             clear c23
             obtain ⟨y599, hy599⟩ : ∃ y_ : List (S31), y_ = (x9_3.set (x13_3 : Int).toNat (⟨99, (rd_T31 x9_3 x13_3).f1⟩ : S31)) := ⟨_, rfl⟩
             replace H : (waymarklaw02_SpansPieces_E.l1 k3 t586 y599 t594 (wrap64 (x13_3 + 1))) = some r := by first | (rw [hy599]; with_reducible exact H) | (have H2_ := (Option.bind_some _ _).symm.trans H; rw [hy599]; with_reducible exact H2_) | (have H2_ := (Option.bind_some _ _).symm.trans H; with_reducible exact H2_) | with_reducible exact H | (rw [hy599]; exact H) | exact H
             have Ny599 := Aside0.mk hy599
             clear hy599
             have H' := Aside0.mk H
             clear H
             obtain ⟨Ao25, co25, eo25⟩ := Kd.R_slice HO_9.out
             subst eo25
             have p24 : 0 ≤ (x13_3 : Int) := of_decide_eq_true (by first | (with_reducible assumption) | assumption)
             have q24 : (x13_3 : Int) < ((x9_3.length : Int) : Int) := of_decide_eq_true (by first | (with_reducible assumption) | assumption)
             obtain ⟨go24, co24, eo24, gb24, gl24, cl24, HG24⟩ := Kd.R_form HO_9.out (by omega)
             (first | cases eo24 | (injection eo24 with ea_ en_ ec_; (first | subst ea_ | (injection ea_ with ea_; subst ea_)); subst ec_; clear en_))
             have GB24 := Aside0.mk gb24
             have GG24 := Aside0.mk HG24
             clear gb24 gl24 HG24
             obtain ⟨ce24, hcl24, hM24, hcc24, hfr24⟩ := Kd.R_elem HO_9.out z31 (x13_3 : Int) p24 q24
             obtain rfl := k31_openM hM24
             have hx24_0 : wr.cell? ⟨go24, (x13_3 : Int).toNat * 2, none⟩ = some (.int .u32 ((rd_T31 x9_3 x13_3).f0)) := hcc24 0 _ rfl
             have hx24_1 : wr.cell? ⟨go24, (x13_3 : Int).toNat * 2 + 1, none⟩ = some (.int .u32 ((rd_T31 x9_3 x13_3).f1)) := hcc24 1 _ rfl
             have hf24_0 : wr.frozen? ⟨go24, (x13_3 : Int).toNat * 2, none⟩ = false := hfr24 0
             have hf24_1 : wr.frozen? ⟨go24, (x13_3 : Int).toNat * 2 + 1, none⟩ = false := hfr24 1
             clear hcl24 hcc24 hfr24 hM24
             replace p24 := eq_true p24
             replace q24 := eq_true q24
             have HX26 := Aside0.mk (show Kd.R k31 31 wr w.heap.size (fun k_ => some k_ ≠ (v588 : Value).ownBlock ∧ some k_ ≠ (v596 : Value).ownBlock) (.slice (some ⟨go24, 0, none⟩) x9_3.length co25) x9_3 from (by (with_reducible repeat (first | apply Kd.R_alloc | apply Kd.R_drewN | apply Kd.R_drew)); exact HO_9.out))
             obtain ⟨ce26, hcl26, hM26, hcc26, hfr26⟩ := Kd.R_elem HX26.out z31 (x13_3 : Int) (of_decide_eq_true (by first | (with_reducible assumption) | assumption)) (by have h_ : (x13_3 : Int) < ((x9_3.length : Int) : Int) := of_decide_eq_true (by first | (with_reducible assumption) | assumption); first | exact h_ | (have e_ := (Kd.R_reads' HO_9.out).1; omega) | simpa using h_)
             obtain rfl := k31_openM hM26
             have HP26 := Kd.R_seg HX26.out (x13_3 : Int) (of_decide_eq_true (by first | (with_reducible assumption) | assumption)) (by have h_ : (x13_3 : Int) < ((x9_3.length : Int) : Int) := of_decide_eq_true (by first | (with_reducible assumption) | assumption); first | exact h_ | (have e_ := (Kd.R_reads' HO_9.out).1; omega) | simpa using h_) (seg := [.int .u32 99]) (j := 0) hcl26 hcc26 (show 1 ≤ 2 from by decide) (x' := (⟨99, (rd_T31 x9_3 x13_3).f1⟩ : S31)) (k31_mkM _ _ _ (⟨99, (rd_T31 x9_3 x13_3).f1⟩ : S31) ) (fun _ hk => hk)
             have hx26_0 := hcc26 0 _ rfl
             (try simp only [show (k31).sz = 2 from rfl, Nat.mul_one, Nat.add_zero] at hx26_0)
             have hf26_0 := hfr26 0
             (try simp only [show (k31).sz = 2 from rfl, Nat.mul_one, Nat.add_zero] at hf26_0)
             clear hcl26 hcc26 hfr26 hM26
             go_wp2_with (first | ((with_reducible refine gate_store (t := 26) (p := 77) rfl ?_); refine store_event (t := 26) (p := 77) (v := ?vo_w27) (w1 := (wr.setCell ⟨go24, (x13_3 : Int).toNat * 2, none⟩ (.int .u32 99))) ?hg ?ho ?hn ?hr ?_; (case ho => rfl); (case hg => rfl); (case hn => rfl); (case hr => first | (go_simp; done) | (go_simp; rfl)); intro w27 hw; have hg : wr.grownBy w27 (some go24) := (by rw [hw]; exact HP26.2); have hp_ : Kd.R k31 31 w27 w.heap.size (fun k_ => some k_ ≠ (v588 : Value).ownBlock ∧ some k_ ≠ (v596 : Value).ownBlock) (.slice (some ⟨go24, 0, none⟩) x9_3.length co25) y599 := (by rw [hw, Ny599.out]; exact HP26.1); clear HP26; have n0_ := Aside0.mk (Kd.R_after (v := (.slice (some ⟨go24, 0, none⟩) x9_3.length co25)) (v1 := (.slice (some ⟨go24, 0, none⟩) x9_3.length co25)) (ok := (fun k_ => some k_ ≠ (v596 : Value).ownBlock)) (by (with_reducible repeat (first | apply Kd.R_alloc | apply Kd.R_drewN | apply Kd.R_drew)); exact Kd.R_mono HO_7.out (fun _ hk => ⟨hk.2, hk.1⟩)) hg (.inl rfl)); have n1_ := Aside0.mk (hp_); have n2_ := Aside0.mk (Kd.R_after (v := (.slice (some ⟨go24, 0, none⟩) x9_3.length co25)) (v1 := (.slice (some ⟨go24, 0, none⟩) x9_3.length co25)) (ok := (fun k_ => some k_ ≠ (v588 : Value).ownBlock)) (by (with_reducible repeat (first | apply Kd.R_alloc | apply Kd.R_drewN | apply Kd.R_drew)); exact HO_11.out) hg (.inl rfl)); have n3_ := Aside0.mk ((by rw [hw]; exact below_set (HB.out) GB24.out : Below w.heap.size w w27)); clear HO_7; clear HO_9; clear HO_11; clear HB; have HO_7 := n0_; have HO_9 := n1_; have HO_11 := n2_; have HB := n3_; clear n0_ n1_ n2_ n3_; clear hg hw hp_))
             go_roundg k3
             case measure => have := HK1.out; have := HJ11.out; have := HK3.out; omega
             case rel => exact ⟨(y599), (wrap64 (x13_3 + 1)), (by first | rfl | (simp; done) | (simp [*]; done)), H', ⟨by have := HK1.out; have := HJ11.out; have := HK3.out; omega⟩, ⟨by (with_reducible repeat (first | apply Kd.R_alloc | apply Kd.R_drewN | apply Kd.R_drew)); exact Kd.R_mono HO_7.out (fun _ hk => ⟨hk.2, hk.1⟩)⟩, ⟨by (with_reducible repeat (first | apply Kd.R_alloc | apply Kd.R_drewN | apply Kd.R_drew)); exact HO_9.out⟩, ⟨by (with_reducible repeat (first | apply Kd.R_alloc | apply Kd.R_drewN | apply Kd.R_drew)); exact HO_11.out⟩, ⟨by repeat (first | (with_reducible first | exact HB.out | apply below_alloc | apply pw_below_drewN | apply below_drew1) | exact HB.out)⟩⟩
            ·rw [if_neg c23] at H
             exact absurd H (by simp)
           ·rw [if_neg c22] at H
            have c22b0 : decide (x13_3 < (x9_3.length : Int)) = false := decide_eq_false c22
            clear c22
            have H' := Aside0.mk H
            clear H
            obtain ⟨Ao28, co28, eo28⟩ := Kd.R_slice HO_9.out
            subst eo28
            go_wp2
            go_loopg [9, 14] k3 (fun kq v9 v14 w' => ∃ (x9_4 : List (S31)) (x14_4 : Int), v14 = .int .i64 x14_4 ∧ Aside0 (waymarklaw02_SpansPieces_E.l2 kq t586 x9_4 t594 x14_4 = some r) ∧ Aside0 (kq ≤ k3) ∧ Aside0 (Kd.R k31 31 w' w.heap.size (fun k_ => some k_ ≠ (v9 : Value).ownBlock ∧ some k_ ≠ (v596 : Value).ownBlock) v588 t586) ∧ Aside0 (Kd.R k31 31 w' w.heap.size (fun k_ => some k_ ≠ (v588 : Value).ownBlock ∧ some k_ ≠ (v596 : Value).ownBlock) v9 x9_4) ∧ Aside0 (Kd.R k31 31 w' w.heap.size (fun k_ => some k_ ≠ (v588 : Value).ownBlock ∧ some k_ ≠ (v9 : Value).ownBlock) v596 t594) ∧ Aside0 (Below w.heap.size w w'))
            case atStart => exact ⟨(x9_3), (0), (by first | rfl | (simp; done) | (simp [*]; done)), H', ⟨Nat.le_refl _⟩, ⟨by (with_reducible repeat (first | apply Kd.R_alloc | apply Kd.R_drewN | apply Kd.R_drew)); exact HO_7.out⟩, ⟨by (with_reducible repeat (first | apply Kd.R_alloc | apply Kd.R_drewN | apply Kd.R_drew)); exact HO_9.out⟩, ⟨by (with_reducible repeat (first | apply Kd.R_alloc | apply Kd.R_drewN | apply Kd.R_drew)); exact HO_11.out⟩, ⟨by repeat (first | (with_reducible first | exact HB.out | apply below_alloc | apply pw_below_drewN | apply below_drew1) | exact HB.out)⟩⟩
            case round =>
             clear H'
             try clear c1
             try clear c2
             try clear p2
             try clear q2
             try clear hx2
             try clear hf2
             try clear c3
             try clear c3b0
             try clear c3b1
             try clear c4
             try clear c4b0
             try clear c5
             try clear c5b0
             try clear p5
             try clear q5
             try clear hx5
             try clear c6
             try clear c6b0
             try clear p6
             try clear c9
             try clear c16
             try clear c16b0
             try clear c16b1
             try clear c17
             try clear c17b0
             try clear c17b1
             try clear c21
             try clear c22
             try clear c22b0
             try clear c23
             try clear c23b0
             try clear c24
             try clear p24
             try clear q24
             try clear hx24
             try clear hf24
             try clear c26
             try clear hx26
             try clear hf26
             try clear hx24_0
             try clear hx24_1
             try clear hx26_0
             try clear hx584_0
             try clear p2
             try clear p24
             try clear p5
             try clear p584
             try clear p6
             try clear q24
             try clear q5
             try clear q584
             obtain ⟨x9_4, x14_4, rfl, HA, HK4, HO_7, HO_9, HO_11, HB⟩ := hrel
             cases gk with
             | zero => exact absurd HA.out (by simp [waymarklaw02_SpansPieces_E.l2])
             | succ k4 =>
              have H := HA.out
              clear HA
              simp only [waymarklaw02_SpansPieces_E.l2] at H
              by_cases c29 : x14_4 < 70
              ·rw [if_pos c29] at H
               have c29b0 : decide (x14_4 < 70) = true := decide_eq_true c29
               clear c29
               by_cases c30 : x9_4.length < 17592186044416
               ·rw [if_pos c30] at H
                have LMc30 := Aside0.mk c30
                clear c30
                obtain ⟨y600, hy600⟩ : ∃ y_ : List (S31), y_ = (x9_4 ++ [(⟨0, 0⟩ : S31)]) := ⟨_, rfl⟩
                replace H : (waymarklaw02_SpansPieces_E.l2 k4 t586 y600 t594 (wrap64 (x14_4 + 1))) = some r := by first | (rw [hy600]; with_reducible exact H) | (have H2_ := (Option.bind_some _ _).symm.trans H; rw [hy600]; with_reducible exact H2_) | (have H2_ := (Option.bind_some _ _).symm.trans H; with_reducible exact H2_) | with_reducible exact H | (rw [hy600]; exact H) | exact H
                have Ny600 := Aside0.mk hy600
                clear hy600
                have H' := Aside0.mk H
                clear H
                go_wp2_with (first | ((with_reducible refine gate_builtin (b := .append) (xs := #[.tmp 82, .tmp 84]) rfl ?_); at_builtin; refine Kd.R_append k31 (w0 := w) w.heap.size rfl (.tmp 82) (.tmp 84) 71 31 (.agg #[(.int .u32 0), (.int .u32 0)]) 8 rfl Try.underlying71 info31 rfl (by decide) (by omega) u9 x9_4 (⟨0, 0⟩ : S31) [.int .u32 0, .int .u32 0] (fun k_ => some k_ ≠ (v588 : Value).ownBlock ∧ some k_ ≠ (v596 : Value).ownBlock) (fun _ => False) rfl rfl ?aP (fun _ hk => hk.elim) ?aF ?aO ?aB ?aS ?aL ?_; (case aP => exact k31_mkM _ _ _ (⟨0, 0⟩ : S31)); (case aB => exact (by repeat (first | (with_reducible first | exact HB.out | apply below_alloc | apply pw_below_drewN | apply below_drew1) | exact HB.out))); (case aF => exact (fun k_ hk => ⟨Kd.fresh' (Kd.R_lt (by (with_reducible repeat (first | apply Kd.R_alloc | apply Kd.R_drewN | apply Kd.R_drew)); exact HO_7.out)) k_ hk, Kd.fresh' (Kd.R_lt (by (with_reducible repeat (first | apply Kd.R_alloc | apply Kd.R_drewN | apply Kd.R_drew)); exact HO_11.out)) k_ hk⟩)); (case aO => exact (by (with_reducible repeat (first | apply Kd.R_alloc | apply Kd.R_drewN | apply Kd.R_drew)); exact HO_9.out)); (case aS => exact (below_size (by repeat (first | (with_reducible first | exact HB.out | apply below_alloc | apply pw_below_drewN | apply below_drew1) | exact HB.out)))); (case aL => have := LMc30.out; omega); intro v601 w31 ho hb hg hat; rw [← Ny600.out] at ho; have n0_ := Aside0.mk (Kd.R_after (ok := (fun k_ => some k_ ≠ (v596 : Value).ownBlock)) (by (with_reducible repeat (first | apply Kd.R_alloc | apply Kd.R_drewN | apply Kd.R_drew)); exact Kd.R_mono HO_7.out (fun _ hk => ⟨hk.2, hk.1⟩)) hg hat); have n1_ := Aside0.mk (Kd.R_after (ok := (fun k_ => some k_ ≠ (v588 : Value).ownBlock)) (by (with_reducible repeat (first | apply Kd.R_alloc | apply Kd.R_drewN | apply Kd.R_drew)); exact HO_11.out) hg hat); have n2_ := Aside0.mk (hb); have n3_ := Aside0.mk (ho); clear HO_7; clear HO_11; clear HB; clear HO_9; have HO_7 := n0_; have HO_11 := n1_; have HB := n2_; have HO602 := n3_; clear n0_ n1_ n2_ n3_; clear ho hb hg hat))
                go_roundg k4
                case measure => have := HK1.out; have := HJ11.out; have := HK3.out; have := HK4.out; omega
                case rel => exact ⟨(y600), (wrap64 (x14_4 + 1)), (by first | rfl | (simp; done) | (simp [*]; done)), H', ⟨by have := HK1.out; have := HJ11.out; have := HK3.out; have := HK4.out; omega⟩, ⟨by (with_reducible repeat (first | apply Kd.R_alloc | apply Kd.R_drewN | apply Kd.R_drew)); exact Kd.R_mono HO_7.out (fun _ hk => ⟨hk.2, hk.1⟩)⟩, ⟨by (with_reducible repeat (first | apply Kd.R_alloc | apply Kd.R_drewN | apply Kd.R_drew)); exact HO602.out⟩, ⟨by (with_reducible repeat (first | apply Kd.R_alloc | apply Kd.R_drewN | apply Kd.R_drew)); exact HO_11.out⟩, ⟨by repeat (first | (with_reducible first | exact HB.out | apply below_alloc | apply pw_below_drewN | apply below_drew1) | exact HB.out)⟩⟩
               ·rw [if_neg c30] at H
                exact absurd H (by simp)
              ·rw [if_neg c29] at H
               have c29b0 : decide (x14_4 < 70) = false := decide_eq_false c29
               clear c29
               by_cases c32 : (x9_4.length : Int) = (wrap64 ((t586.length : Int) + 70))
               ·rw [if_pos c32] at H
                have c32b0 : ((x9_4.length : Int) == (wrap64 ((t586.length : Int) + 70))) = true := beq_iff_eq.mpr c32
                have c32b1 : ((x9_4.length : Int) != (wrap64 ((t586.length : Int) + 70))) = false := bne_eq_false_iff_eq.mpr c32
                clear c32
                replace H := Option.bind_eq_some_iff.mp H
                obtain ⟨t603, A330, H⟩ := H
                replace H : (some t603) = some r := H
                have A33 := Aside0.mk A330
                clear A330
                obtain rfl := Option.some.inj H
                obtain ⟨Ao34, co34, eo34⟩ := Kd.R_slice HO_9.out
                subst eo34
                obtain ⟨Ao35, co35, eo35⟩ := Kd.R_slice HO_7.out
                subst eo35
                obtain ⟨Ao36, co36, eo36⟩ := Kd.R_slice HO_11.out
                subst eo36
                go_wp2_with (first | (go_at_call 42; (with_reducible refine (waymarkref02_Spans.calls k4 _ _ t594 _ _ t586 t603 _ ?side1 ?side2 ?side3 ?side4 A33.out).mono ?_); (case side1 => repeat (first | exact (Kd.R_reads' HO_11.out).2.2 | (with_reducible refine Kd.C_alloc ?_ _) | (with_reducible refine Kd.C_drewN ?_ _) | (with_reducible refine Kd.C_drew ?_))); (case side2 => exact (Kd.R_reads' HO_11.out).2.1); (case side3 => repeat (first | exact (Kd.R_reads' HO_7.out).2.2 | (with_reducible refine Kd.C_alloc ?_ _) | (with_reducible refine Kd.C_drewN ?_ _) | (with_reducible refine Kd.C_drew ?_))); (case side4 => exact (Kd.R_reads' HO_7.out).2.1); rintro e w' ⟨rfl, ⟨nd, rfl⟩⟩))
                go_ret
                exact ⟨by first | rfl | (simp [errW_none, errW_some] <;> rfl) | (simp [*, errW_none, errW_some] <;> rfl), by repeat (first | (with_reducible first | exact HB.out | apply below_alloc | apply pw_below_drewN | apply below_drew1) | exact HB.out)⟩
               ·rw [if_neg c32] at H
                exact absurd H (by simp)

end Go.Proofs.Ytmoagoopdfpcnaa.Q
