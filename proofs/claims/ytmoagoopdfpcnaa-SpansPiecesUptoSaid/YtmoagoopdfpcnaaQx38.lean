-- Written by a program of this session (wip/myprint) out of the translation, for this claim.
-- narrow
import Derived.Test.YtmoagoopdfpcnaaQx0
import Derived.Test.YtmoagoopdfpcnaaQx24
import Derived.Test.YtmoagoopdfpcnaaQx30
import Derived.Test.YtmoagoopdfpcnaaQx36
import Derived.Test.YtmoagoopdfpcnaaEPieces
namespace Go.Proofs.Ytmoagoopdfpcnaa.Q
open Go.RowKit Go.Proofs.YtmoagoopdfpcnaaW.PrintWords Go.Proofs.YtmoagoopdfpcnaaW.PrintLast Go.Proofs.YtmoagoopdfpcnaaW.PrintMore
attribute [local go_sem] max2_int min2_int max_two min_two max_three min_three max_four min_four   -- for this text's walks alone
set_option linter.unusedVariables false
set_option linter.unusedSimpArgs false

/-! ### waymarklaw02_SpansPieces_T: function 9 -/
mutual
def waymarklaw02_SpansPieces_T.l0 : Nat → Int → List (List (S31)) → Int → Int → Option (Bool)
 | 0, _, _, _, _ => none
 | k + 1, x0, x1, x5, x6 => if x6 < (x1.length : Int) then (if 0 ≤ x6 then (waymarklaw02_SpansPieces_T.l0 k x0 x1 (wrap64 (x5 + ((rd_L12 x1 x6).length : Int))) (wrap64 (x6 + 1))) else (none)) else (if x5 > 200 then ((waymarklaw02_awake.f k).bind fun t609 => (some t609)) else ((waymarkref02_Pieces.f k x0 x1).bind fun bt610 => ((spans_Pieces.f x0 x1).bind fun bt614 => ((spans_Pieces.f x0 x1).bind fun bt618 => (if bt610.2 = bt614.2 then (if bt610.2 = bt618.2 then ((waymarkref02_Spans.f k bt614.1 bt610.1).bind fun t622 => (waymarklaw02_SpansPieces_T.j1 k bt610.1 bt614.1 bt618.1 (!t622))) else (waymarklaw02_SpansPieces_T.j1 k bt610.1 bt614.1 bt618.1 true)) else (waymarklaw02_SpansPieces_T.j1 k bt610.1 bt614.1 bt618.1 true))))))
def waymarklaw02_SpansPieces_T.j1 : Nat → List (S31) → List (S31) → List (S31) → Bool → Option (Bool)
 | 0, _, _, _, _ => none
 | k + 1, x7, x9, x11, x67 => if x67 = true then (none) else (waymarklaw02_SpansPieces_T.l1 k x7 x9 x11 0)
def waymarklaw02_SpansPieces_T.l1 : Nat → List (S31) → List (S31) → List (S31) → Int → Option (Bool)
 | 0, _, _, _, _ => none
 | k + 1, x7, x9, x11, x13 => if x13 < (x9.length : Int) then (if 0 ≤ x13 then (waymarklaw02_SpansPieces_T.l1 k x7 (x9.set (x13 : Int).toNat (⟨99, (rd_T31 x9 x13).f1⟩ : S31)) x11 (wrap64 (x13 + 1))) else (none)) else (waymarklaw02_SpansPieces_T.l2 k x7 x9 x11 0)
def waymarklaw02_SpansPieces_T.l2 : Nat → List (S31) → List (S31) → List (S31) → Int → Option (Bool)
 | 0, _, _, _, _ => none
 | k + 1, x7, x9, x11, x14 => if x14 < 70 then (if x9.length < 17592186044416 then (waymarklaw02_SpansPieces_T.l2 k x7 (x9 ++ [(⟨0, 0⟩ : S31)]) x11 (wrap64 (x14 + 1))) else (none)) else (if (x9.length : Int) = (wrap64 ((x7.length : Int) + 70)) then ((waymarkref02_Spans.f k x11 x7).bind fun t627 => (some t627)) else (none))
end
def waymarklaw02_SpansPieces_T.f (k : Nat) (a0 : Int) (l1 : List (List (S31))) : Option (Bool) := if (l1.length : Int) > 20 then (if 20 ≤ (l1.length : Int) then (waymarklaw02_SpansPieces_T.l0 k a0 (l1.take 20) 0 0) else (none)) else (none)
theorem waymarklaw02_SpansPieces_T.mono_l : ∀ k, (∀ y0 y1 y2 y3, LeO (waymarklaw02_SpansPieces_T.l0 k y0 y1 y2 y3) (waymarklaw02_SpansPieces_T.l0 (k + 1) y0 y1 y2 y3)) ∧ (∀ y0 y1 y2 y3, LeO (waymarklaw02_SpansPieces_T.j1 k y0 y1 y2 y3) (waymarklaw02_SpansPieces_T.j1 (k + 1) y0 y1 y2 y3)) ∧ (∀ y0 y1 y2 y3, LeO (waymarklaw02_SpansPieces_T.l1 k y0 y1 y2 y3) (waymarklaw02_SpansPieces_T.l1 (k + 1) y0 y1 y2 y3)) ∧ (∀ y0 y1 y2 y3, LeO (waymarklaw02_SpansPieces_T.l2 k y0 y1 y2 y3) (waymarklaw02_SpansPieces_T.l2 (k + 1) y0 y1 y2 y3))
 | 0 => ⟨fun _ _ _ _ r h => by simp [waymarklaw02_SpansPieces_T.l0] at h, fun _ _ _ _ r h => by simp [waymarklaw02_SpansPieces_T.j1] at h, fun _ _ _ _ r h => by simp [waymarklaw02_SpansPieces_T.l1] at h, fun _ _ _ _ r h => by simp [waymarklaw02_SpansPieces_T.l2] at h⟩
 | k + 1 => by
  obtain ⟨ih0, ih1, ih2, ih3⟩ := waymarklaw02_SpansPieces_T.mono_l k
  refine ⟨?_, ?_, ?_, ?_⟩
  ·intro y0 y1 y2 y3
   unfold waymarklaw02_SpansPieces_T.l0
   repeat' first
   | (with_reducible exact ih0 _ _ _ _)
   | (with_reducible exact ih1 _ _ _ _)
   | (with_reducible exact ih2 _ _ _ _)
   | (with_reducible exact ih3 _ _ _ _)
   | (with_reducible exact waymarklaw02_awake.mono _)
   | (with_reducible exact waymarkref02_Pieces.mono _ _ _)
   | (with_reducible exact waymarkref02_Spans.mono _ _ _)
   | (with_reducible exact LeO.refl _)
   | (with_reducible exact LeO.none _)
   | (with_reducible refine LeO.ite ?_ ?_)
   | (with_reducible refine LeO.bind ?_ (fun _ => ?_))
   | exact ih0 _ _ _ _
   | exact ih1 _ _ _ _
   | exact ih2 _ _ _ _
   | exact ih3 _ _ _ _
   | exact waymarklaw02_awake.mono _
   | exact waymarkref02_Pieces.mono _ _ _
   | exact waymarkref02_Spans.mono _ _ _
   | exact LeO.none _
   | refine LeO.ite ?_ ?_
   | refine LeO.bind ?_ (fun _ => ?_)
  ·intro y0 y1 y2 y3
   unfold waymarklaw02_SpansPieces_T.j1
   repeat' first
   | (with_reducible exact ih0 _ _ _ _)
   | (with_reducible exact ih1 _ _ _ _)
   | (with_reducible exact ih2 _ _ _ _)
   | (with_reducible exact ih3 _ _ _ _)
   | (with_reducible exact waymarklaw02_awake.mono _)
   | (with_reducible exact waymarkref02_Pieces.mono _ _ _)
   | (with_reducible exact waymarkref02_Spans.mono _ _ _)
   | (with_reducible exact LeO.refl _)
   | (with_reducible exact LeO.none _)
   | (with_reducible refine LeO.ite ?_ ?_)
   | (with_reducible refine LeO.bind ?_ (fun _ => ?_))
   | exact ih0 _ _ _ _
   | exact ih1 _ _ _ _
   | exact ih2 _ _ _ _
   | exact ih3 _ _ _ _
   | exact waymarklaw02_awake.mono _
   | exact waymarkref02_Pieces.mono _ _ _
   | exact waymarkref02_Spans.mono _ _ _
   | exact LeO.none _
   | refine LeO.ite ?_ ?_
   | refine LeO.bind ?_ (fun _ => ?_)
  ·intro y0 y1 y2 y3
   unfold waymarklaw02_SpansPieces_T.l1
   repeat' first
   | (with_reducible exact ih0 _ _ _ _)
   | (with_reducible exact ih1 _ _ _ _)
   | (with_reducible exact ih2 _ _ _ _)
   | (with_reducible exact ih3 _ _ _ _)
   | (with_reducible exact waymarklaw02_awake.mono _)
   | (with_reducible exact waymarkref02_Pieces.mono _ _ _)
   | (with_reducible exact waymarkref02_Spans.mono _ _ _)
   | (with_reducible exact LeO.refl _)
   | (with_reducible exact LeO.none _)
   | (with_reducible refine LeO.ite ?_ ?_)
   | (with_reducible refine LeO.bind ?_ (fun _ => ?_))
   | exact ih0 _ _ _ _
   | exact ih1 _ _ _ _
   | exact ih2 _ _ _ _
   | exact ih3 _ _ _ _
   | exact waymarklaw02_awake.mono _
   | exact waymarkref02_Pieces.mono _ _ _
   | exact waymarkref02_Spans.mono _ _ _
   | exact LeO.none _
   | refine LeO.ite ?_ ?_
   | refine LeO.bind ?_ (fun _ => ?_)
  ·intro y0 y1 y2 y3
   unfold waymarklaw02_SpansPieces_T.l2
   repeat' first
   | (with_reducible exact ih0 _ _ _ _)
   | (with_reducible exact ih1 _ _ _ _)
   | (with_reducible exact ih2 _ _ _ _)
   | (with_reducible exact ih3 _ _ _ _)
   | (with_reducible exact waymarklaw02_awake.mono _)
   | (with_reducible exact waymarkref02_Pieces.mono _ _ _)
   | (with_reducible exact waymarkref02_Spans.mono _ _ _)
   | (with_reducible exact LeO.refl _)
   | (with_reducible exact LeO.none _)
   | (with_reducible refine LeO.ite ?_ ?_)
   | (with_reducible refine LeO.bind ?_ (fun _ => ?_))
   | exact ih0 _ _ _ _
   | exact ih1 _ _ _ _
   | exact ih2 _ _ _ _
   | exact ih3 _ _ _ _
   | exact waymarklaw02_awake.mono _
   | exact waymarkref02_Pieces.mono _ _ _
   | exact waymarkref02_Spans.mono _ _ _
   | exact LeO.none _
   | refine LeO.ite ?_ ?_
   | refine LeO.bind ?_ (fun _ => ?_)
theorem waymarklaw02_SpansPieces_T.mono : ∀ a0 a1 k, LeO (waymarklaw02_SpansPieces_T.f k a0 a1) (waymarklaw02_SpansPieces_T.f (k + 1) a0 a1) := by
 intro a0 a1 k
 obtain ⟨ih0, ih1, ih2, ih3⟩ := waymarklaw02_SpansPieces_T.mono_l k
 unfold waymarklaw02_SpansPieces_T.f
 repeat' first
   | (with_reducible exact ih0 _ _ _ _)
   | (with_reducible exact ih1 _ _ _ _)
   | (with_reducible exact ih2 _ _ _ _)
   | (with_reducible exact ih3 _ _ _ _)
   | (with_reducible exact waymarklaw02_awake.mono _)
   | (with_reducible exact waymarkref02_Pieces.mono _ _ _)
   | (with_reducible exact waymarkref02_Spans.mono _ _ _)
   | (with_reducible exact LeO.refl _)
   | (with_reducible exact LeO.none _)
   | (with_reducible refine LeO.ite ?_ ?_)
   | (with_reducible refine LeO.bind ?_ (fun _ => ?_))
   | exact ih0 _ _ _ _
   | exact ih1 _ _ _ _
   | exact ih2 _ _ _ _
   | exact ih3 _ _ _ _
   | exact waymarklaw02_awake.mono _
   | exact waymarkref02_Pieces.mono _ _ _
   | exact waymarkref02_Spans.mono _ _ _
   | exact LeO.none _
   | refine LeO.ite ?_ ?_
   | refine LeO.bind ?_ (fun _ => ?_)
set_option maxHeartbeats 8000000 in
set_option maxRecDepth 100000 in
theorem waymarklaw02_SpansPieces_T.calls (k : Nat) (a0 : Int) (A1 : Option Addr) (c1 : Nat) (l1 : List (List (S31))) (r : Bool) (w : World) (hr1 : Kd.C (Kd.slice 31 k31) w A1 l1.length l1) (hc1 : l1.length ≤ c1) (h : waymarklaw02_SpansPieces_T.f k a0 l1 = some r) :
  Calls Try.prog 9 #[.int .u32 a0, .slice A1 l1.length c1] w fun e w' => e = .returned (.bool r) ∧ Below w.heap.size w w' := by
 have hu31 := Try.underlying31
 have HR1 := Aside0.mk hr1
 have HC1 := Aside0.mk hc1
 clear hr1 hc1
 have HB := Aside0.mk (Below.refl w.heap.size w)
 have H : (if (l1.length : Int) > 20 then (if 20 ≤ (l1.length : Int) then (waymarklaw02_SpansPieces_T.l0 k a0 (l1.take 20) 0 0) else (none)) else (none)) = some r := h
 clear h
 by_cases c3 : (l1.length : Int) > 20
 ·rw [if_pos c3] at H
  have c3b0 : decide (20 < (l1.length : Int)) = true := decide_eq_true c3
  have c3b1 : decide (20 < l1.length) = true := decide_eq_true (by omega)
  clear c3
  by_cases c4 : 20 ≤ (l1.length : Int)
  ·rw [if_pos c4] at H
   have c4b0 := eq_true c4
   have c4b1 : decide (20 ≤ (l1.length : Int)) = true := decide_eq_true c4
   clear c4
   obtain ⟨y604, hy604⟩ : ∃ y_ : List (List (S31)), y_ = (l1.take 20) := ⟨_, rfl⟩
   replace H : (waymarklaw02_SpansPieces_T.l0 k a0 y604 0 0) = some r := by first | (rw [hy604]; with_reducible exact H) | (have H2_ := (Option.bind_some _ _).symm.trans H; rw [hy604]; with_reducible exact H2_) | (have H2_ := (Option.bind_some _ _).symm.trans H; with_reducible exact H2_) | with_reducible exact H | (rw [hy604]; exact H) | exact H
   have Ny604 := Aside0.mk hy604
   clear hy604
   have H' := Aside0.mk H
   clear H
   have q5 : (20 : Int) ≤ ((l1.length : Int) : Int) := of_decide_eq_true (by first | (with_reducible assumption) | assumption)
   obtain ⟨i05, hi05, _, hsz5, _⟩ := info_parts info71
   have hroom5 : l1.length ≤ c1 := HC1.out
   have hC5 : Kd.C (Kd.slice 31 k31) _ A1 l1.length l1 := HR1.out
   have hcut5 := cut_to (P := Try.prog) 84 71 .i64 Try.underlying84 hi05 A1 l1.length c1 20 (by omega) q5 hroom5
   have hr5 := Kd.C_take (m := 20) hC5 (by omega)
   have hy5 : y604.length = (20 : Int).toNat := (by rw [Ny604.out, List.length_take]; omega)
   rw [← Ny604.out] at hr5
   rw [← hy5] at hcut5
   have HR607 := Aside0.mk hr5
   have HC607 := Aside0.mk (show y604.length ≤ c1 from by omega)
   clear hr5 hC5 hroom5 hi05 hsz5
   have KY5 := Aside0.mk hy5
   clear hy5
   replace q5 := eq_true q5
   go_enter Try.func9, Try.ntmps9
   go_wp2
   go_loopg [5, 6] k (fun kq v5 v6 w' => ∃ (x5_1 : Int) (x6_1 : Int), v5 = .int .i64 x5_1 ∧ v6 = .int .i64 x6_1 ∧ Aside0 (waymarklaw02_SpansPieces_T.l0 kq a0 y604 x5_1 x6_1 = some r) ∧ Aside0 (kq ≤ k) ∧ Aside0 (Below w.heap.size w w'))
   case atStart => exact ⟨(0), (0), (by first | rfl | (simp; done) | (simp [*]; done)), (by first | rfl | (simp; done) | (simp [*]; done)), H', ⟨Nat.le_refl _⟩, ⟨by repeat (first | (with_reducible first | exact HB.out | apply below_alloc | apply pw_below_drewN | apply below_drew1) | exact HB.out)⟩⟩
   case round =>
    clear H'
    try clear c1
    try clear p2
    try clear c3
    try clear c3b0
    try clear c3b1
    try clear c4
    try clear c4b0
    try clear c4b1
    try clear q5
    try clear q5
    obtain ⟨x5_1, x6_1, rfl, rfl, HA, HK1, HB⟩ := hrel
    cases gk with
    | zero => exact absurd HA.out (by simp [waymarklaw02_SpansPieces_T.l0])
    | succ k1 =>
     have H := HA.out
     clear HA
     simp only [waymarklaw02_SpansPieces_T.l0] at H
     by_cases c6 : x6_1 < (y604.length : Int)
     ·rw [if_pos c6] at H
      have c6b0 : decide (x6_1 < (y604.length : Int)) = true := decide_eq_true c6
      clear c6
      by_cases c7 : 0 ≤ x6_1
      ·rw [if_pos c7] at H
       have c7b0 : decide (0 ≤ x6_1) = true := decide_eq_true c7
       clear c7
       have H' := Aside0.mk H
       clear H
       have p608 : 0 ≤ (x6_1 : Int) := of_decide_eq_true (by first | (with_reducible assumption) | assumption)
       have q608 : x6_1 < (y604.length : Int) := of_decide_eq_true (by first | (with_reducible assumption) | assumption)
       obtain ⟨ad608, A608_0, c608_0, e608, hx608_0, hl608_0, hi608_0⟩ := at_L12 HR607.out x6_1 p608 q608
       cases e608
       replace hx608_0 := pw_cell_below HB.out hx608_0
       have HR608_0 := Aside0.mk hi608_0
       have HC608_0 := Aside0.mk hl608_0
       clear hi608_0 hl608_0
       replace p608 := eq_true p608
       replace q608 := eq_true q608
       go_wp2
       go_roundg k1
       case measure => have := HK1.out; omega
       case rel => exact ⟨(wrap64 (x5_1 + ((rd_L12 y604 x6_1).length : Int))), (wrap64 (x6_1 + 1)), (by first | rfl | (simp; done) | (simp [*]; done)), (by first | rfl | (simp; done) | (simp [*]; done)), H', ⟨by have := HK1.out; omega⟩, ⟨by repeat (first | (with_reducible first | exact HB.out | apply below_alloc | apply pw_below_drewN | apply below_drew1) | exact HB.out)⟩⟩
      ·rw [if_neg c7] at H
       exact absurd H (by simp)
     ·rw [if_neg c6] at H
      have c6b0 : decide (x6_1 < (y604.length : Int)) = false := decide_eq_false c6
      clear c6
      by_cases c8 : x5_1 > 200
      ·rw [if_pos c8] at H
       have c8b0 : decide (200 < x5_1) = true := decide_eq_true c8
       clear c8
       replace H := Option.bind_eq_some_iff.mp H
       obtain ⟨t609, A90, H⟩ := H
       replace H : (some t609) = some r := H
       have A9 := Aside0.mk A90
       clear A90
       obtain rfl := Option.some.inj H
       go_wp2_with (first | ((with_reducible refine gate_callee (f := 35) rfl ?_); refine goesL_ (some 35) rfl rfl Try.func35 (by kernel_rfl) rfl #[] rfl (by (try simp only [List.map_toArray, List.map_cons, List.map_nil]); first | done | rfl | (simp only [List.length_drop, List.length_take]; rfl)) ?_; (with_reducible refine (waymarklaw02_awake.calls k1  t609 _ A9.out).mono ?_); rintro e w10 ⟨rfl, hb⟩; refine ⟨_, rfl, ?_⟩; have n0_ := Aside0.mk (below_step (by repeat (first | (with_reducible first | exact HB.out | apply below_alloc | apply pw_below_drewN | apply below_drew1) | exact HB.out)) hb); clear HB; have HB := n0_; clear n0_; (try clear hb); (try clear hb2); (try clear hk); (try clear hi)))
       go_ret
       exact ⟨by first | rfl | (simp [errW_none, errW_some] <;> rfl) | (simp [*, errW_none, errW_some] <;> rfl), by repeat (first | (with_reducible first | exact HB.out | apply below_alloc | apply pw_below_drewN | apply below_drew1) | exact HB.out)⟩
      ·rw [if_neg c8] at H
       have c8b0 : decide (200 < x5_1) = false := decide_eq_false c8
       clear c8
       replace H := Option.bind_eq_some_iff.mp H
       obtain ⟨⟨t610, t611⟩, A110, H⟩ := H
       replace H : ((spans_Pieces.f a0 y604).bind fun bt614 => ((spans_Pieces.f a0 y604).bind fun bt618 => (if t611 = bt614.2 then (if t611 = bt618.2 then ((waymarkref02_Spans.f k1 bt614.1 t610).bind fun t622 => (waymarklaw02_SpansPieces_T.j1 k1 t610 bt614.1 bt618.1 (!t622))) else (waymarklaw02_SpansPieces_T.j1 k1 t610 bt614.1 bt618.1 true)) else (waymarklaw02_SpansPieces_T.j1 k1 t610 bt614.1 bt618.1 true)))) = some r := H
       have A11 := Aside0.mk A110
       clear A110
       replace H := Option.bind_eq_some_iff.mp H
       obtain ⟨⟨t614, t615⟩, A120, H⟩ := H
       replace H : ((spans_Pieces.f a0 y604).bind fun bt618 => (if t611 = t615 then (if t611 = bt618.2 then ((waymarkref02_Spans.f k1 t614 t610).bind fun t622 => (waymarklaw02_SpansPieces_T.j1 k1 t610 t614 bt618.1 (!t622))) else (waymarklaw02_SpansPieces_T.j1 k1 t610 t614 bt618.1 true)) else (waymarklaw02_SpansPieces_T.j1 k1 t610 t614 bt618.1 true))) = some r := H
       have A12 := Aside0.mk A120
       clear A120
       replace H := Option.bind_eq_some_iff.mp H
       obtain ⟨⟨t618, t619⟩, A130, H⟩ := H
       replace H : (if t611 = t615 then (if t611 = t619 then ((waymarkref02_Spans.f k1 t614 t610).bind fun t622 => (waymarklaw02_SpansPieces_T.j1 k1 t610 t614 t618 (!t622))) else (waymarklaw02_SpansPieces_T.j1 k1 t610 t614 t618 true)) else (waymarklaw02_SpansPieces_T.j1 k1 t610 t614 t618 true)) = some r := H
       have A13 := Aside0.mk A130
       clear A130
       have HC14 := Aside0.mk H
       clear H
       go_upto_region 13 with (first | ((with_reducible refine gate_callee (f := 54) rfl ?_); refine goesL_ (some 39) rfl rfl Try.func54 (by kernel_rfl) rfl #[.int .u32 a0, (.slice A1 y604.length c1)] rfl (by (try simp only [List.map_toArray, List.map_cons, List.map_nil]); first | done | rfl | (simp only [List.length_drop, List.length_take]; rfl)) ?_; (with_reducible refine (waymarkref02_Pieces.calls k1 a0 _ _ y604 t610 t611 _ ?side1 ?side2 A11.out).mono ?_); (case side1 => repeat (first | exact (Kd.C_below HR607.out HB.out) | (with_reducible refine Kd.C_alloc ?_ _) | (with_reducible refine Kd.C_drewN ?_ _) | (with_reducible refine Kd.C_drew ?_))); (case side2 => exact HC607.out); rintro e w15 ⟨v612, rfl, ho0, hb⟩; refine ⟨_, rfl, ?_⟩; have n0_ := Aside0.mk (Kd.R_lower ho0 (below_size (by repeat (first | (with_reducible first | exact HB.out | apply below_alloc | apply pw_below_drewN | apply below_drew1) | exact HB.out)))); have n1_ := Aside0.mk (below_step (by repeat (first | (with_reducible first | exact HB.out | apply below_alloc | apply pw_below_drewN | apply below_drew1) | exact HB.out)) hb); clear HB; have HO613 := n0_; have HB := n1_; clear n0_ n1_; (try clear hb); (try clear hb2); (try clear hk); (try clear hi); (try clear ho0)) | ((with_reducible refine gate_callee (f := 55) rfl ?_); refine goesL_ (some 45) rfl rfl Try.func55 (by kernel_rfl) rfl #[.int .u32 a0, (.slice A1 y604.length c1)] rfl (by (try simp only [List.map_toArray, List.map_cons, List.map_nil]); first | done | rfl | (simp only [List.length_drop, List.length_take]; rfl)) ?_; (with_reducible refine (spans_Pieces.calls a0 _ _ y604 t614 t615 _ ?side1 ?side2 A12.out).mono ?_); (case side1 => repeat (first | exact (Kd.C_below HR607.out HB.out) | (with_reducible refine Kd.C_alloc ?_ _) | (with_reducible refine Kd.C_drewN ?_ _) | (with_reducible refine Kd.C_drew ?_))); (case side2 => exact HC607.out); rintro e w16 ⟨v616, rfl, ho0, hb⟩; refine ⟨_, rfl, ?_⟩; have n0_ := Aside0.mk (Kd.R_elder' (by (with_reducible repeat (first | apply Kd.R_alloc | apply Kd.R_drewN | apply Kd.R_drew)); exact HO613.out) (Kd.R_base ho0) hb); have n1_ := Aside0.mk (Kd.R_lower (Kd.R_new' ho0 (Kd.R_lt (by (with_reducible repeat (first | apply Kd.R_alloc | apply Kd.R_drewN | apply Kd.R_drew)); exact HO613.out))) (below_size (by repeat (first | (with_reducible first | exact HB.out | apply below_alloc | apply pw_below_drewN | apply below_drew1) | exact HB.out)))); have n2_ := Aside0.mk (below_step (by repeat (first | (with_reducible first | exact HB.out | apply below_alloc | apply pw_below_drewN | apply below_drew1) | exact HB.out)) hb); clear HO613; clear HB; have HO613 := n0_; have HO617 := n1_; have HB := n2_; clear n0_ n1_ n2_; (try clear hb); (try clear hb2); (try clear hk); (try clear hi); (try clear ho0)) | ((with_reducible refine gate_callee (f := 55) rfl ?_); refine goesL_ (some 51) rfl rfl Try.func55 (by kernel_rfl) rfl #[.int .u32 a0, (.slice A1 y604.length c1)] rfl (by (try simp only [List.map_toArray, List.map_cons, List.map_nil]); first | done | rfl | (simp only [List.length_drop, List.length_take]; rfl)) ?_; (with_reducible refine (spans_Pieces.calls a0 _ _ y604 t618 t619 _ ?side1 ?side2 A13.out).mono ?_); (case side1 => repeat (first | exact (Kd.C_below HR607.out HB.out) | (with_reducible refine Kd.C_alloc ?_ _) | (with_reducible refine Kd.C_drewN ?_ _) | (with_reducible refine Kd.C_drew ?_))); (case side2 => exact HC607.out); rintro e w17 ⟨v620, rfl, ho0, hb⟩; refine ⟨_, rfl, ?_⟩; have n0_ := Aside0.mk (Kd.R_elder' (by (with_reducible repeat (first | apply Kd.R_alloc | apply Kd.R_drewN | apply Kd.R_drew)); exact HO613.out) (Kd.R_base ho0) hb); have n1_ := Aside0.mk (Kd.R_elder' (by (with_reducible repeat (first | apply Kd.R_alloc | apply Kd.R_drewN | apply Kd.R_drew)); exact HO617.out) (Kd.R_base ho0) hb); have n2_ := Aside0.mk (Kd.R_lower (Kd.R_new' (Kd.R_new' ho0 (Kd.R_lt (by (with_reducible repeat (first | apply Kd.R_alloc | apply Kd.R_drewN | apply Kd.R_drew)); exact HO613.out))) (Kd.R_lt (by (with_reducible repeat (first | apply Kd.R_alloc | apply Kd.R_drewN | apply Kd.R_drew)); exact HO617.out))) (below_size (by repeat (first | (with_reducible first | exact HB.out | apply below_alloc | apply pw_below_drewN | apply below_drew1) | exact HB.out)))); have n3_ := Aside0.mk (below_step (by repeat (first | (with_reducible first | exact HB.out | apply below_alloc | apply pw_below_drewN | apply below_drew1) | exact HB.out)) hb); clear HO613; clear HO617; clear HB; have HO613 := n0_; have HO617 := n1_; have HO621 := n2_; have HB := n3_; clear n0_ n1_ n2_ n3_; (try clear hb); (try clear hb2); (try clear hk); (try clear hi); (try clear ho0)))
       (try simp only [Act.put, List.setIfInBounds_toArray, List.set_cons_zero, List.set_cons_succ])
       go_cut [67] (fun v67 wc => ∃ (kq : Nat) (x67_13 : Bool), v67 = .bool x67_13 ∧ Aside0 (waymarklaw02_SpansPieces_T.j1 kq t610 t614 t618 x67_13 = some r) ∧ Aside0 (kq ≤ k1) ∧ Aside0 (Kd.R k31 31 wc w.heap.size (fun k_ => some k_ ≠ (v616 : Value).ownBlock ∧ some k_ ≠ (v620 : Value).ownBlock) v612 t610) ∧ Aside0 (Kd.R k31 31 wc w.heap.size (fun k_ => some k_ ≠ (v612 : Value).ownBlock ∧ some k_ ≠ (v620 : Value).ownBlock) v616 t614) ∧ Aside0 (Kd.R k31 31 wc w.heap.size (fun k_ => some k_ ≠ (v612 : Value).ownBlock ∧ some k_ ≠ (v616 : Value).ownBlock) v620 t618) ∧ Aside0 (Below w.heap.size w wc))
       case first =>
        have H := HC14.out
        clear HC14
        by_cases c18 : t611 = t615
        ·rw [if_pos c18] at H
         have c18b0 : (t611 == t615) = true := beq_iff_eq.mpr c18
         have c18b1 : (t611 != t615) = false := bne_eq_false_iff_eq.mpr c18
         clear c18
         (first | rw [c18b0] | (simp only [i64_w, i32_w]; rw [c18b0]) | skip)
         by_cases c19 : t611 = t619
         ·rw [if_pos c19] at H
          have c19b0 : (t611 == t619) = true := beq_iff_eq.mpr c19
          have c19b1 : (t611 != t619) = false := bne_eq_false_iff_eq.mpr c19
          clear c19
          replace H := Option.bind_eq_some_iff.mp H
          obtain ⟨t622, A200, H⟩ := H
          replace H : (waymarklaw02_SpansPieces_T.j1 k1 t610 t614 t618 (!t622)) = some r := H
          have A20 := Aside0.mk A200
          clear A200
          have H' := Aside0.mk H
          clear H
          obtain ⟨Ao21, co21, eo21⟩ := Kd.R_slice HO617.out
          subst eo21
          obtain ⟨Ao22, co22, eo22⟩ := Kd.R_slice HO613.out
          subst eo22
          go_wp2_with (first | (go_at_call 42; (with_reducible refine (waymarkref02_Spans.calls k1 _ _ t614 _ _ t610 t622 _ ?side1 ?side2 ?side3 ?side4 A20.out).mono ?_); (case side1 => repeat (first | exact (Kd.R_reads' HO617.out).2.2 | (with_reducible refine Kd.C_alloc ?_ _) | (with_reducible refine Kd.C_drewN ?_ _) | (with_reducible refine Kd.C_drew ?_))); (case side2 => exact (Kd.R_reads' HO617.out).2.1); (case side3 => repeat (first | exact (Kd.R_reads' HO613.out).2.2 | (with_reducible refine Kd.C_alloc ?_ _) | (with_reducible refine Kd.C_drewN ?_ _) | (with_reducible refine Kd.C_drew ?_))); (case side4 => exact (Kd.R_reads' HO613.out).2.1); rintro e w' ⟨rfl, ⟨nd, rfl⟩⟩))
          go_meet
          case rel => exact ⟨_, (!t622), (by first | rfl | (simp; done) | (simp [*]; done)), H', ⟨by have := HK1.out; first | omega | exact Nat.le_refl _⟩, ⟨by (with_reducible repeat (first | apply Kd.R_alloc | apply Kd.R_drewN | apply Kd.R_drew)); exact Kd.R_mono HO613.out (fun _ hk => ⟨hk.1.2, hk.2⟩)⟩, ⟨by (with_reducible repeat (first | apply Kd.R_alloc | apply Kd.R_drewN | apply Kd.R_drew)); exact Kd.R_mono HO617.out (fun _ hk => ⟨hk.1.2, hk.2⟩)⟩, ⟨by (with_reducible repeat (first | apply Kd.R_alloc | apply Kd.R_drewN | apply Kd.R_drew)); exact Kd.R_mono HO621.out (fun _ hk => ⟨hk.1.2, hk.2⟩)⟩, ⟨by repeat (first | (with_reducible first | exact HB.out | apply below_alloc | apply pw_below_drewN | apply below_drew1) | exact HB.out)⟩⟩
         ·rw [if_neg c19] at H
          have c19b0 : (t611 == t619) = false := beq_eq_false_iff_ne.mpr c19
          have c19b1 : (t611 != t619) = true := bne_iff_ne.mpr c19
          have H' := Aside0.mk H
          clear H
          go_wp2
          go_meet
          case rel => exact ⟨_, (true), (by first | rfl | (simp; done) | (simp [*]; done)), H', ⟨by have := HK1.out; first | omega | exact Nat.le_refl _⟩, ⟨by (with_reducible repeat (first | apply Kd.R_alloc | apply Kd.R_drewN | apply Kd.R_drew)); exact Kd.R_mono HO613.out (fun _ hk => ⟨hk.1.2, hk.2⟩)⟩, ⟨by (with_reducible repeat (first | apply Kd.R_alloc | apply Kd.R_drewN | apply Kd.R_drew)); exact Kd.R_mono HO617.out (fun _ hk => ⟨hk.1.2, hk.2⟩)⟩, ⟨by (with_reducible repeat (first | apply Kd.R_alloc | apply Kd.R_drewN | apply Kd.R_drew)); exact Kd.R_mono HO621.out (fun _ hk => ⟨hk.1.2, hk.2⟩)⟩, ⟨by repeat (first | (with_reducible first | exact HB.out | apply below_alloc | apply pw_below_drewN | apply below_drew1) | exact HB.out)⟩⟩
        ·rw [if_neg c18] at H
         have c18b0 : (t611 == t615) = false := beq_eq_false_iff_ne.mpr c18
         have c18b1 : (t611 != t615) = true := bne_iff_ne.mpr c18
         (first | rw [c18b0] | (simp only [i64_w, i32_w]; rw [c18b0]) | skip)
         have H' := Aside0.mk H
         clear H
         go_wp2
         go_meet
         case rel => exact ⟨_, (true), (by first | rfl | (simp; done) | (simp [*]; done)), H', ⟨by have := HK1.out; first | omega | exact Nat.le_refl _⟩, ⟨by (with_reducible repeat (first | apply Kd.R_alloc | apply Kd.R_drewN | apply Kd.R_drew)); exact Kd.R_mono HO613.out (fun _ hk => ⟨hk.1.2, hk.2⟩)⟩, ⟨by (with_reducible repeat (first | apply Kd.R_alloc | apply Kd.R_drewN | apply Kd.R_drew)); exact Kd.R_mono HO617.out (fun _ hk => ⟨hk.1.2, hk.2⟩)⟩, ⟨by (with_reducible repeat (first | apply Kd.R_alloc | apply Kd.R_drewN | apply Kd.R_drew)); exact Kd.R_mono HO621.out (fun _ hk => ⟨hk.1.2, hk.2⟩)⟩, ⟨by repeat (first | (with_reducible first | exact HB.out | apply below_alloc | apply pw_below_drewN | apply below_drew1) | exact HB.out)⟩⟩
       case rest =>
        clear HC14
        try clear c1
        try clear p2
        try clear c3
        try clear c3b0
        try clear c3b1
        try clear c4
        try clear c4b0
        try clear c4b1
        try clear c5
        try clear q5
        try clear c6
        try clear c6b0
        try clear p6
        try clear q6
        try clear hx6
        try clear c7
        try clear c7b0
        try clear c8
        try clear c8b0
        try clear c9
        try clear c18
        try clear c18b0
        try clear c18b1
        try clear c19
        try clear c19b0
        try clear c19b1
        try clear hx608_0
        try clear p2
        try clear p608
        try clear q5
        try clear q608
        obtain ⟨kq, x67_13, rfl, HA, HJ13, HO_7, HO_9, HO_11, HB⟩ := hcut
        cases kq with
        | zero => exact absurd HA.out (by simp [waymarklaw02_SpansPieces_T.j1])
        | succ kj13 =>
         have H := HA.out
         clear HA
         simp only [waymarklaw02_SpansPieces_T.j1] at H
         by_cases c23 : x67_13 = true
         ·subst c23
          have H1 : (none) = some r := by rw [if_pos rfl] at H; exact H
          clear H
          have H := H1
          clear H1
          exact absurd H (by simp)
         ·replace c23 := Bool.eq_false_iff.mpr c23
          subst c23
          have H1 : (waymarklaw02_SpansPieces_T.l1 kj13 t610 t614 t618 0) = some r := by rw [if_neg (show ¬ (false = true) by decide)] at H; exact H
          clear H
          have H := H1
          clear H1
          have H' := Aside0.mk H
          clear H
          go_wp2
          go_loopg [13] kj13 (fun kq v13 w' => ∃ (x9_3 : List (S31)) (x13_3 : Int), v13 = .int .i64 x13_3 ∧ Aside0 (waymarklaw02_SpansPieces_T.l1 kq t610 x9_3 t618 x13_3 = some r) ∧ Aside0 (kq ≤ kj13) ∧ Aside0 (Kd.R k31 31 w' w.heap.size (fun k_ => some k_ ≠ (v616 : Value).ownBlock ∧ some k_ ≠ (v620 : Value).ownBlock) v612 t610) ∧ Aside0 (Kd.R k31 31 w' w.heap.size (fun k_ => some k_ ≠ (v612 : Value).ownBlock ∧ some k_ ≠ (v620 : Value).ownBlock) v616 x9_3) ∧ Aside0 (Kd.R k31 31 w' w.heap.size (fun k_ => some k_ ≠ (v612 : Value).ownBlock ∧ some k_ ≠ (v616 : Value).ownBlock) v620 t618) ∧ Aside0 (Below w.heap.size w w'))
          case atStart => exact ⟨(t614), (0), (by first | rfl | (simp; done) | (simp [*]; done)), H', ⟨Nat.le_refl _⟩, ⟨by (with_reducible repeat (first | apply Kd.R_alloc | apply Kd.R_drewN | apply Kd.R_drew)); exact HO_7.out⟩, ⟨by (with_reducible repeat (first | apply Kd.R_alloc | apply Kd.R_drewN | apply Kd.R_drew)); exact HO_9.out⟩, ⟨by (with_reducible repeat (first | apply Kd.R_alloc | apply Kd.R_drewN | apply Kd.R_drew)); exact HO_11.out⟩, ⟨by repeat (first | (with_reducible first | exact HB.out | apply below_alloc | apply pw_below_drewN | apply below_drew1) | exact HB.out)⟩⟩
          case round =>
           clear H'
           try clear c1
           try clear c2
           try clear p2
           try clear c3
           try clear c3b0
           try clear c3b1
           try clear c4
           try clear c4b0
           try clear c4b1
           try clear c5
           try clear q5
           try clear c6
           try clear c6b0
           try clear p6
           try clear q6
           try clear hx6
           try clear c7
           try clear c7b0
           try clear c8
           try clear c8b0
           try clear c9
           try clear c18
           try clear c18b0
           try clear c18b1
           try clear c19
           try clear c19b0
           try clear c19b1
           try clear c23
           try clear hx608_0
           try clear p2
           try clear p6
           try clear p608
           try clear q5
           try clear q6
           try clear q608
           obtain ⟨x9_3, x13_3, rfl, HA, HK3, HO_7, HO_9, HO_11, HB⟩ := hrel
           cases gk with
           | zero => exact absurd HA.out (by simp [waymarklaw02_SpansPieces_T.l1])
           | succ k3 =>
            have H := HA.out
            clear HA
            simp only [waymarklaw02_SpansPieces_T.l1] at H
            by_cases c24 : x13_3 < (x9_3.length : Int)
            ·rw [if_pos c24] at H
             have c24b0 : decide (x13_3 < (x9_3.length : Int)) = true := decide_eq_true c24
             clear c24
             by_cases c25 : 0 ≤ x13_3
             ·rw [if_pos c25] at H
              have c25b0 : decide (0 ≤ x13_3) = true := decide_eq_true c25
              clear c25
              obtain ⟨y623, hy623⟩ : ∃ y_ : List (S31), y_ = (x9_3.set (x13_3 : Int).toNat (⟨99, (rd_T31 x9_3 x13_3).f1⟩ : S31)) := ⟨_, rfl⟩
              replace H : (waymarklaw02_SpansPieces_T.l1 k3 t610 y623 t618 (wrap64 (x13_3 + 1))) = some r := by first | (rw [hy623]; with_reducible exact H) | (have H2_ := (Option.bind_some _ _).symm.trans H; rw [hy623]; with_reducible exact H2_) | (have H2_ := (Option.bind_some _ _).symm.trans H; with_reducible exact H2_) | with_reducible exact H | (rw [hy623]; exact H) | exact H
              have Ny623 := Aside0.mk hy623
              clear hy623
              have H' := Aside0.mk H
              clear H
              obtain ⟨Ao27, co27, eo27⟩ := Kd.R_slice HO_9.out
              subst eo27
              have p26 : 0 ≤ (x13_3 : Int) := of_decide_eq_true (by first | (with_reducible assumption) | assumption)
              have q26 : (x13_3 : Int) < ((x9_3.length : Int) : Int) := of_decide_eq_true (by first | (with_reducible assumption) | assumption)
              obtain ⟨go26, co26, eo26, gb26, gl26, cl26, HG26⟩ := Kd.R_form HO_9.out (by omega)
              (first | cases eo26 | (injection eo26 with ea_ en_ ec_; (first | subst ea_ | (injection ea_ with ea_; subst ea_)); subst ec_; clear en_))
              have GB26 := Aside0.mk gb26
              have GG26 := Aside0.mk HG26
              clear gb26 gl26 HG26
              obtain ⟨ce26, hcl26, hM26, hcc26, hfr26⟩ := Kd.R_elem HO_9.out z31 (x13_3 : Int) p26 q26
              obtain rfl := k31_openM hM26
              have hx26_0 : wr.cell? ⟨go26, (x13_3 : Int).toNat * 2, none⟩ = some (.int .u32 ((rd_T31 x9_3 x13_3).f0)) := hcc26 0 _ rfl
              have hx26_1 : wr.cell? ⟨go26, (x13_3 : Int).toNat * 2 + 1, none⟩ = some (.int .u32 ((rd_T31 x9_3 x13_3).f1)) := hcc26 1 _ rfl
              have hf26_0 : wr.frozen? ⟨go26, (x13_3 : Int).toNat * 2, none⟩ = false := hfr26 0
              have hf26_1 : wr.frozen? ⟨go26, (x13_3 : Int).toNat * 2 + 1, none⟩ = false := hfr26 1
              clear hcl26 hcc26 hfr26 hM26
              replace p26 := eq_true p26
              replace q26 := eq_true q26
              have HX28 := Aside0.mk (show Kd.R k31 31 wr w.heap.size (fun k_ => some k_ ≠ (v612 : Value).ownBlock ∧ some k_ ≠ (v620 : Value).ownBlock) (.slice (some ⟨go26, 0, none⟩) x9_3.length co27) x9_3 from (by (with_reducible repeat (first | apply Kd.R_alloc | apply Kd.R_drewN | apply Kd.R_drew)); exact HO_9.out))
              obtain ⟨ce28, hcl28, hM28, hcc28, hfr28⟩ := Kd.R_elem HX28.out z31 (x13_3 : Int) (of_decide_eq_true (by first | (with_reducible assumption) | assumption)) (by have h_ : (x13_3 : Int) < ((x9_3.length : Int) : Int) := of_decide_eq_true (by first | (with_reducible assumption) | assumption); first | exact h_ | (have e_ := (Kd.R_reads' HO_9.out).1; omega) | simpa using h_)
              obtain rfl := k31_openM hM28
              have HP28 := Kd.R_seg HX28.out (x13_3 : Int) (of_decide_eq_true (by first | (with_reducible assumption) | assumption)) (by have h_ : (x13_3 : Int) < ((x9_3.length : Int) : Int) := of_decide_eq_true (by first | (with_reducible assumption) | assumption); first | exact h_ | (have e_ := (Kd.R_reads' HO_9.out).1; omega) | simpa using h_) (seg := [.int .u32 99]) (j := 0) hcl28 hcc28 (show 1 ≤ 2 from by decide) (x' := (⟨99, (rd_T31 x9_3 x13_3).f1⟩ : S31)) (k31_mkM _ _ _ (⟨99, (rd_T31 x9_3 x13_3).f1⟩ : S31) ) (fun _ hk => hk)
              have hx28_0 := hcc28 0 _ rfl
              (try simp only [show (k31).sz = 2 from rfl, Nat.mul_one, Nat.add_zero] at hx28_0)
              have hf28_0 := hfr28 0
              (try simp only [show (k31).sz = 2 from rfl, Nat.mul_one, Nat.add_zero] at hf28_0)
              clear hcl28 hcc28 hfr28 hM28
              go_wp2_with (first | ((with_reducible refine gate_store (t := 26) (p := 77) rfl ?_); refine store_event (t := 26) (p := 77) (v := ?vo_w29) (w1 := (wr.setCell ⟨go26, (x13_3 : Int).toNat * 2, none⟩ (.int .u32 99))) ?hg ?ho ?hn ?hr ?_; (case ho => rfl); (case hg => rfl); (case hn => rfl); (case hr => first | (go_simp; done) | (go_simp; rfl)); intro w29 hw; have hg : wr.grownBy w29 (some go26) := (by rw [hw]; exact HP28.2); have hp_ : Kd.R k31 31 w29 w.heap.size (fun k_ => some k_ ≠ (v612 : Value).ownBlock ∧ some k_ ≠ (v620 : Value).ownBlock) (.slice (some ⟨go26, 0, none⟩) x9_3.length co27) y623 := (by rw [hw, Ny623.out]; exact HP28.1); clear HP28; have n0_ := Aside0.mk (Kd.R_after (v := (.slice (some ⟨go26, 0, none⟩) x9_3.length co27)) (v1 := (.slice (some ⟨go26, 0, none⟩) x9_3.length co27)) (ok := (fun k_ => some k_ ≠ (v620 : Value).ownBlock)) (by (with_reducible repeat (first | apply Kd.R_alloc | apply Kd.R_drewN | apply Kd.R_drew)); exact Kd.R_mono HO_7.out (fun _ hk => ⟨hk.2, hk.1⟩)) hg (.inl rfl)); have n1_ := Aside0.mk (hp_); have n2_ := Aside0.mk (Kd.R_after (v := (.slice (some ⟨go26, 0, none⟩) x9_3.length co27)) (v1 := (.slice (some ⟨go26, 0, none⟩) x9_3.length co27)) (ok := (fun k_ => some k_ ≠ (v612 : Value).ownBlock)) (by (with_reducible repeat (first | apply Kd.R_alloc | apply Kd.R_drewN | apply Kd.R_drew)); exact HO_11.out) hg (.inl rfl)); have n3_ := Aside0.mk ((by rw [hw]; exact below_set (HB.out) GB26.out : Below w.heap.size w w29)); clear HO_7; clear HO_9; clear HO_11; clear HB; have HO_7 := n0_; have HO_9 := n1_; have HO_11 := n2_; have HB := n3_; clear n0_ n1_ n2_ n3_; clear hg hw hp_))
              go_roundg k3
              case measure => have := HK1.out; have := HJ13.out; have := HK3.out; omega
              case rel => exact ⟨(y623), (wrap64 (x13_3 + 1)), (by first | rfl | (simp; done) | (simp [*]; done)), H', ⟨by have := HK1.out; have := HJ13.out; have := HK3.out; omega⟩, ⟨by (with_reducible repeat (first | apply Kd.R_alloc | apply Kd.R_drewN | apply Kd.R_drew)); exact Kd.R_mono HO_7.out (fun _ hk => ⟨hk.2, hk.1⟩)⟩, ⟨by (with_reducible repeat (first | apply Kd.R_alloc | apply Kd.R_drewN | apply Kd.R_drew)); exact HO_9.out⟩, ⟨by (with_reducible repeat (first | apply Kd.R_alloc | apply Kd.R_drewN | apply Kd.R_drew)); exact HO_11.out⟩, ⟨by repeat (first | (with_reducible first | exact HB.out | apply below_alloc | apply pw_below_drewN | apply below_drew1) | exact HB.out)⟩⟩
             ·rw [if_neg c25] at H
              exact absurd H (by simp)
            ·rw [if_neg c24] at H
             have c24b0 : decide (x13_3 < (x9_3.length : Int)) = false := decide_eq_false c24
             clear c24
             have H' := Aside0.mk H
             clear H
             obtain ⟨Ao30, co30, eo30⟩ := Kd.R_slice HO_9.out
             subst eo30
             go_wp2
             go_loopg [9, 14] k3 (fun kq v9 v14 w' => ∃ (x9_4 : List (S31)) (x14_4 : Int), v14 = .int .i64 x14_4 ∧ Aside0 (waymarklaw02_SpansPieces_T.l2 kq t610 x9_4 t618 x14_4 = some r) ∧ Aside0 (kq ≤ k3) ∧ Aside0 (Kd.R k31 31 w' w.heap.size (fun k_ => some k_ ≠ (v9 : Value).ownBlock ∧ some k_ ≠ (v620 : Value).ownBlock) v612 t610) ∧ Aside0 (Kd.R k31 31 w' w.heap.size (fun k_ => some k_ ≠ (v612 : Value).ownBlock ∧ some k_ ≠ (v620 : Value).ownBlock) v9 x9_4) ∧ Aside0 (Kd.R k31 31 w' w.heap.size (fun k_ => some k_ ≠ (v612 : Value).ownBlock ∧ some k_ ≠ (v9 : Value).ownBlock) v620 t618) ∧ Aside0 (Below w.heap.size w w'))
             case atStart => exact ⟨(x9_3), (0), (by first | rfl | (simp; done) | (simp [*]; done)), H', ⟨Nat.le_refl _⟩, ⟨by (with_reducible repeat (first | apply Kd.R_alloc | apply Kd.R_drewN | apply Kd.R_drew)); exact HO_7.out⟩, ⟨by (with_reducible repeat (first | apply Kd.R_alloc | apply Kd.R_drewN | apply Kd.R_drew)); exact HO_9.out⟩, ⟨by (with_reducible repeat (first | apply Kd.R_alloc | apply Kd.R_drewN | apply Kd.R_drew)); exact HO_11.out⟩, ⟨by repeat (first | (with_reducible first | exact HB.out | apply below_alloc | apply pw_below_drewN | apply below_drew1) | exact HB.out)⟩⟩
             case round =>
              clear H'
              try clear c1
              try clear c2
              try clear p2
              try clear q2
              try clear hx2
              try clear hf2
              try clear c3
              try clear c3b0
              try clear c3b1
              try clear c4
              try clear c4b0
              try clear c4b1
              try clear c5
              try clear q5
              try clear c6
              try clear c6b0
              try clear p6
              try clear q6
              try clear hx6
              try clear c7
              try clear c7b0
              try clear c8
              try clear c8b0
              try clear c9
              try clear c18
              try clear c18b0
              try clear c18b1
              try clear c19
              try clear c19b0
              try clear c19b1
              try clear c23
              try clear c24
              try clear c24b0
              try clear c25
              try clear c25b0
              try clear c26
              try clear p26
              try clear q26
              try clear hx26
              try clear hf26
              try clear c28
              try clear hx28
              try clear hf28
              try clear hx26_0
              try clear hx26_1
              try clear hx28_0
              try clear hx608_0
              try clear p2
              try clear p26
              try clear p6
              try clear p608
              try clear q26
              try clear q5
              try clear q6
              try clear q608
              obtain ⟨x9_4, x14_4, rfl, HA, HK4, HO_7, HO_9, HO_11, HB⟩ := hrel
              cases gk with
              | zero => exact absurd HA.out (by simp [waymarklaw02_SpansPieces_T.l2])
              | succ k4 =>
               have H := HA.out
               clear HA
               simp only [waymarklaw02_SpansPieces_T.l2] at H
               by_cases c31 : x14_4 < 70
               ·rw [if_pos c31] at H
                have c31b0 : decide (x14_4 < 70) = true := decide_eq_true c31
                clear c31
                by_cases c32 : x9_4.length < 17592186044416
                ·rw [if_pos c32] at H
                 have LMc32 := Aside0.mk c32
                 clear c32
                 obtain ⟨y624, hy624⟩ : ∃ y_ : List (S31), y_ = (x9_4 ++ [(⟨0, 0⟩ : S31)]) := ⟨_, rfl⟩
                 replace H : (waymarklaw02_SpansPieces_T.l2 k4 t610 y624 t618 (wrap64 (x14_4 + 1))) = some r := by first | (rw [hy624]; with_reducible exact H) | (have H2_ := (Option.bind_some _ _).symm.trans H; rw [hy624]; with_reducible exact H2_) | (have H2_ := (Option.bind_some _ _).symm.trans H; with_reducible exact H2_) | with_reducible exact H | (rw [hy624]; exact H) | exact H
                 have Ny624 := Aside0.mk hy624
                 clear hy624
                 have H' := Aside0.mk H
                 clear H
                 go_wp2_with (first | ((with_reducible refine gate_builtin (b := .append) (xs := #[.tmp 82, .tmp 84]) rfl ?_); at_builtin; refine Kd.R_append k31 (w0 := w) w.heap.size rfl (.tmp 82) (.tmp 84) 71 31 (.agg #[(.int .u32 0), (.int .u32 0)]) 8 rfl Try.underlying71 info31 rfl (by decide) (by omega) u9 x9_4 (⟨0, 0⟩ : S31) [.int .u32 0, .int .u32 0] (fun k_ => some k_ ≠ (v612 : Value).ownBlock ∧ some k_ ≠ (v620 : Value).ownBlock) (fun _ => False) rfl rfl ?aP (fun _ hk => hk.elim) ?aF ?aO ?aB ?aS ?aL ?_; (case aP => exact k31_mkM _ _ _ (⟨0, 0⟩ : S31)); (case aB => exact (by repeat (first | (with_reducible first | exact HB.out | apply below_alloc | apply pw_below_drewN | apply below_drew1) | exact HB.out))); (case aF => exact (fun k_ hk => ⟨Kd.fresh' (Kd.R_lt (by (with_reducible repeat (first | apply Kd.R_alloc | apply Kd.R_drewN | apply Kd.R_drew)); exact HO_7.out)) k_ hk, Kd.fresh' (Kd.R_lt (by (with_reducible repeat (first | apply Kd.R_alloc | apply Kd.R_drewN | apply Kd.R_drew)); exact HO_11.out)) k_ hk⟩)); (case aO => exact (by (with_reducible repeat (first | apply Kd.R_alloc | apply Kd.R_drewN | apply Kd.R_drew)); exact HO_9.out)); (case aS => exact (below_size (by repeat (first | (with_reducible first | exact HB.out | apply below_alloc | apply pw_below_drewN | apply below_drew1) | exact HB.out)))); (case aL => have := LMc32.out; omega); intro v625 w33 ho hb hg hat; rw [← Ny624.out] at ho; have n0_ := Aside0.mk (Kd.R_after (ok := (fun k_ => some k_ ≠ (v620 : Value).ownBlock)) (by (with_reducible repeat (first | apply Kd.R_alloc | apply Kd.R_drewN | apply Kd.R_drew)); exact Kd.R_mono HO_7.out (fun _ hk => ⟨hk.2, hk.1⟩)) hg hat); have n1_ := Aside0.mk (Kd.R_after (ok := (fun k_ => some k_ ≠ (v612 : Value).ownBlock)) (by (with_reducible repeat (first | apply Kd.R_alloc | apply Kd.R_drewN | apply Kd.R_drew)); exact HO_11.out) hg hat); have n2_ := Aside0.mk (hb); have n3_ := Aside0.mk (ho); clear HO_7; clear HO_11; clear HB; clear HO_9; have HO_7 := n0_; have HO_11 := n1_; have HB := n2_; have HO626 := n3_; clear n0_ n1_ n2_ n3_; clear ho hb hg hat))
                 go_roundg k4
                 case measure => have := HK1.out; have := HJ13.out; have := HK3.out; have := HK4.out; omega
                 case rel => exact ⟨(y624), (wrap64 (x14_4 + 1)), (by first | rfl | (simp; done) | (simp [*]; done)), H', ⟨by have := HK1.out; have := HJ13.out; have := HK3.out; have := HK4.out; omega⟩, ⟨by (with_reducible repeat (first | apply Kd.R_alloc | apply Kd.R_drewN | apply Kd.R_drew)); exact Kd.R_mono HO_7.out (fun _ hk => ⟨hk.2, hk.1⟩)⟩, ⟨by (with_reducible repeat (first | apply Kd.R_alloc | apply Kd.R_drewN | apply Kd.R_drew)); exact HO626.out⟩, ⟨by (with_reducible repeat (first | apply Kd.R_alloc | apply Kd.R_drewN | apply Kd.R_drew)); exact HO_11.out⟩, ⟨by repeat (first | (with_reducible first | exact HB.out | apply below_alloc | apply pw_below_drewN | apply below_drew1) | exact HB.out)⟩⟩
                ·rw [if_neg c32] at H
                 exact absurd H (by simp)
               ·rw [if_neg c31] at H
                have c31b0 : decide (x14_4 < 70) = false := decide_eq_false c31
                clear c31
                by_cases c34 : (x9_4.length : Int) = (wrap64 ((t610.length : Int) + 70))
                ·rw [if_pos c34] at H
                 have c34b0 : ((x9_4.length : Int) == (wrap64 ((t610.length : Int) + 70))) = true := beq_iff_eq.mpr c34
                 have c34b1 : ((x9_4.length : Int) != (wrap64 ((t610.length : Int) + 70))) = false := bne_eq_false_iff_eq.mpr c34
                 clear c34
                 replace H := Option.bind_eq_some_iff.mp H
                 obtain ⟨t627, A350, H⟩ := H
                 replace H : (some t627) = some r := H
                 have A35 := Aside0.mk A350
                 clear A350
                 obtain rfl := Option.some.inj H
                 obtain ⟨Ao36, co36, eo36⟩ := Kd.R_slice HO_9.out
                 subst eo36
                 obtain ⟨Ao37, co37, eo37⟩ := Kd.R_slice HO_7.out
                 subst eo37
                 obtain ⟨Ao38, co38, eo38⟩ := Kd.R_slice HO_11.out
                 subst eo38
                 go_wp2_with (first | (go_at_call 42; (with_reducible refine (waymarkref02_Spans.calls k4 _ _ t618 _ _ t610 t627 _ ?side1 ?side2 ?side3 ?side4 A35.out).mono ?_); (case side1 => repeat (first | exact (Kd.R_reads' HO_11.out).2.2 | (with_reducible refine Kd.C_alloc ?_ _) | (with_reducible refine Kd.C_drewN ?_ _) | (with_reducible refine Kd.C_drew ?_))); (case side2 => exact (Kd.R_reads' HO_11.out).2.1); (case side3 => repeat (first | exact (Kd.R_reads' HO_7.out).2.2 | (with_reducible refine Kd.C_alloc ?_ _) | (with_reducible refine Kd.C_drewN ?_ _) | (with_reducible refine Kd.C_drew ?_))); (case side4 => exact (Kd.R_reads' HO_7.out).2.1); rintro e w' ⟨rfl, ⟨nd, rfl⟩⟩))
                 go_ret
                 exact ⟨by first | rfl | (simp [errW_none, errW_some] <;> rfl) | (simp [*, errW_none, errW_some] <;> rfl), by repeat (first | (with_reducible first | exact HB.out | apply below_alloc | apply pw_below_drewN | apply below_drew1) | exact HB.out)⟩
                ·rw [if_neg c34] at H
                 exact absurd H (by simp)
  ·rw [if_neg c4] at H
   exact absurd H (by simp)
 ·rw [if_neg c3] at H
  exact absurd H (by simp)

end Go.Proofs.Ytmoagoopdfpcnaa.Q
