-- Written by a program of this session (wip/myprint) out of the translation, for this claim.
-- narrow
import Derived.Test.YtmoagoopdfpcnaaQx0
import Derived.Test.YtmoagoopdfpcnaaQx24
import Derived.Test.YtmoagoopdfpcnaaQx25
import Derived.Test.YtmoagoopdfpcnaaEPieces
namespace Go.Proofs.Ytmoagoopdfpcnaa.Q
open Go.RowKit Go.Proofs.YtmoagoopdfpcnaaW.PrintWords Go.Proofs.YtmoagoopdfpcnaaW.PrintLast Go.Proofs.YtmoagoopdfpcnaaW.PrintMore
attribute [local go_sem] max2_int min2_int max_two min_two max_three min_three max_four min_four   -- for this text's walks alone
set_option linter.unusedVariables false
set_option linter.unusedSimpArgs false
theorem u32x40 (x y : Int) : (x + y) % 4294967296 = (x + y % 4294967296) % 4294967296 := by omega
theorem u32w40 (z : Int) : IntKind.u32.wrap z = z % 4294967296 := by simp [IntKind.wrap, IntKind.bits, IntKind.signed]

/-! ### waymarklaw02_SpansCut_T: function 10 -/
mutual
def waymarklaw02_SpansCut_T.l0 : Nat → Int → List (List (S31)) → Int → Int → Option (Bool)
 | 0, _, _, _, _ => none
 | k + 1, x0, x1, x2, x7 => if x7 < (x1.length : Int) then (if 0 ≤ x7 then (if ((rd_L12 x1 x7).length : Int) > 40 then ((waymarklaw02_awake.f k).bind fun t662 => (some t662)) else (waymarklaw02_SpansCut_T.l0 k x0 x1 x2 (wrap64 (x7 + 1)))) else (none)) else ((spans_Pieces.f x0 x1).bind fun bt663 => ((waymarklaw02_awake.f k).bind fun t667 => (if t667 = true then (if bt663.2 = 0 then (if (bt663.1.length : Int) = 0 then (waymarklaw02_SpansCut_T.j1 k x0 x1 x2 bt663.1 true) else (if 0 < (bt663.1.length : Int) then (if ((rd_T31 bt663.1 0).f0) = 0 then (if 0 ≤ (wrap64 ((bt663.1.length : Int) - 1)) then (if (wrap64 ((bt663.1.length : Int) - 1)) < (bt663.1.length : Int) then (waymarklaw02_SpansCut_T.j1 k x0 x1 x2 bt663.1 (((rd_T31 bt663.1 (wrap64 ((bt663.1.length : Int) - 1))).f1) != x0)) else (none)) else (none)) else (waymarklaw02_SpansCut_T.j1 k x0 x1 x2 bt663.1 true)) else (none))) else (waymarklaw02_SpansCut_T.j1 k x0 x1 x2 bt663.1 true)) else (waymarklaw02_SpansCut_T.j1 k x0 x1 x2 bt663.1 true))))
def waymarklaw02_SpansCut_T.j1 : Nat → Int → List (List (S31)) → Int → List (S31) → Bool → Option (Bool)
 | 0, _, _, _, _, _ => none
 | k + 1, x0, x1, x2, x8, x68 => if x68 = true then (none) else (waymarklaw02_SpansCut_T.l1 k x0 x1 x2 x8 0 0)
def waymarklaw02_SpansCut_T.l1 : Nat → Int → List (List (S31)) → Int → List (S31) → Int → Int → Option (Bool)
 | 0, _, _, _, _, _, _ => none
 | k + 1, x0, x1, x2, x8, x10, x11 => if x11 < (x8.length : Int) then (if 0 ≤ x11 then (if ((rd_T31 x8 x11).f0) > ((rd_T31 x8 x11).f1) then (waymarklaw02_SpansCut_T.j3 k x0 x1 x2 x8 x10 x11 true) else (if x11 > 0 then (if 0 ≤ (wrap64 (x11 - 1)) then (if (wrap64 (x11 - 1)) < (x8.length : Int) then (waymarklaw02_SpansCut_T.j3 k x0 x1 x2 x8 x10 x11 (((rd_T31 x8 x11).f0) != ((((rd_T31 x8 (wrap64 (x11 - 1))).f1) + 1) % 4294967296))) else (none)) else (none)) else (waymarklaw02_SpansCut_T.j3 k x0 x1 x2 x8 x10 x11 false))) else (none)) else (some (x10 == (IntKind.u64.wrap ((IntKind.u64.wrap (x0)) + 1))))
def waymarklaw02_SpansCut_T.j3 : Nat → Int → List (List (S31)) → Int → List (S31) → Int → Int → Bool → Option (Bool)
 | 0, _, _, _, _, _, _, _ => none
 | k + 1, x0, x1, x2, x8, x10, x11, x104 => if x104 = true then (none) else (if 0 ≤ x11 then (if x11 < (x8.length : Int) then (if (IntKind.u64.wrap ((IntKind.u64.wrap ((IntKind.u64.wrap ((rd_T31 x8 x11).f1)) - (IntKind.u64.wrap ((rd_T31 x8 x11).f0)))) + 1)) = 0 then (none) else (waymarklaw02_SpansCut_T.l2 k x0 x1 x2 x8 (IntKind.u64.wrap ((IntKind.u64.wrap ((IntKind.u64.wrap (x10 + (IntKind.u64.wrap ((rd_T31 x8 x11).f1)))) - (IntKind.u64.wrap ((rd_T31 x8 x11).f0)))) + 1)) x11 ((((rd_T31 x8 x11).f0) + ((Int.tmod (IntKind.u64.wrap (x2)) (IntKind.u64.wrap ((IntKind.u64.wrap ((IntKind.u64.wrap ((rd_T31 x8 x11).f1)) - (IntKind.u64.wrap ((rd_T31 x8 x11).f0)))) + 1))) % 4294967296)) % 4294967296) (x11 == 0) 0)) else (none)) else (none))
def waymarklaw02_SpansCut_T.l2 : Nat → Int → List (List (S31)) → Int → List (S31) → Int → Int → Int → Bool → Int → Option (Bool)
 | 0, _, _, _, _, _, _, _, _, _ => none
 | k + 1, x0, x1, x2, x8, x10, x11, x12, x13, x14 => if x14 < (x1.length : Int) then (if 0 ≤ x14 then (if 0 ≤ x11 then (if x11 < (x8.length : Int) then ((waymarkref02_Has.f k (rd_L12 x1 x14) ((rd_T31 x8 x11).f0)).bind fun t681 => ((waymarkref02_Has.f k (rd_L12 x1 x14) ((rd_T31 x8 x11).f1)).bind fun t684 => (if (t681 != t684) = true then (none) else ((waymarkref02_Has.f k (rd_L12 x1 x14) x12).bind fun t686 => (if (t681 != t686) = true then (none) else (if x13 = true then (waymarklaw02_SpansCut_T.l2 k x0 x1 x2 x8 x10 x11 x12 true (wrap64 (x14 + 1))) else ((waymarkref02_Has.f k (rd_L12 x1 x14) ((((rd_T31 x8 x11).f0) - 1) % 4294967296)).bind fun t689 => (waymarklaw02_SpansCut_T.l2 k x0 x1 x2 x8 x10 x11 x12 (t681 != t689) (wrap64 (x14 + 1)))))))))) else (none)) else (none)) else (none)) else (if x13 = true then (waymarklaw02_SpansCut_T.l1 k x0 x1 x2 x8 x10 (wrap64 (x11 + 1))) else (none))
end
def waymarklaw02_SpansCut_T.f (k : Nat) (a0 : Int) (l1 : List (List (S31))) (a2 : Int) : Option (Bool) := if (l1.length : Int) > 12 then (if 12 ≤ (l1.length : Int) then (waymarklaw02_SpansCut_T.l0 k a0 (l1.take 12) a2 0) else (none)) else (none)
theorem waymarklaw02_SpansCut_T.mono_l : ∀ k, (∀ y0 y1 y2 y3, LeO (waymarklaw02_SpansCut_T.l0 k y0 y1 y2 y3) (waymarklaw02_SpansCut_T.l0 (k + 1) y0 y1 y2 y3)) ∧ (∀ y0 y1 y2 y3 y4, LeO (waymarklaw02_SpansCut_T.j1 k y0 y1 y2 y3 y4) (waymarklaw02_SpansCut_T.j1 (k + 1) y0 y1 y2 y3 y4)) ∧ (∀ y0 y1 y2 y3 y4 y5, LeO (waymarklaw02_SpansCut_T.l1 k y0 y1 y2 y3 y4 y5) (waymarklaw02_SpansCut_T.l1 (k + 1) y0 y1 y2 y3 y4 y5)) ∧ (∀ y0 y1 y2 y3 y4 y5 y6, LeO (waymarklaw02_SpansCut_T.j3 k y0 y1 y2 y3 y4 y5 y6) (waymarklaw02_SpansCut_T.j3 (k + 1) y0 y1 y2 y3 y4 y5 y6)) ∧ (∀ y0 y1 y2 y3 y4 y5 y6 y7 y8, LeO (waymarklaw02_SpansCut_T.l2 k y0 y1 y2 y3 y4 y5 y6 y7 y8) (waymarklaw02_SpansCut_T.l2 (k + 1) y0 y1 y2 y3 y4 y5 y6 y7 y8))
 | 0 => ⟨fun _ _ _ _ r h => by simp [waymarklaw02_SpansCut_T.l0] at h, fun _ _ _ _ _ r h => by simp [waymarklaw02_SpansCut_T.j1] at h, fun _ _ _ _ _ _ r h => by simp [waymarklaw02_SpansCut_T.l1] at h, fun _ _ _ _ _ _ _ r h => by simp [waymarklaw02_SpansCut_T.j3] at h, fun _ _ _ _ _ _ _ _ _ r h => by simp [waymarklaw02_SpansCut_T.l2] at h⟩
 | k + 1 => by
  obtain ⟨ih0, ih1, ih2, ih3, ih4⟩ := waymarklaw02_SpansCut_T.mono_l k
  refine ⟨?_, ?_, ?_, ?_, ?_⟩
  ·intro y0 y1 y2 y3
   unfold waymarklaw02_SpansCut_T.l0
   repeat' first
   | (with_reducible exact ih0 _ _ _ _)
   | (with_reducible exact ih1 _ _ _ _ _)
   | (with_reducible exact ih2 _ _ _ _ _ _)
   | (with_reducible exact ih3 _ _ _ _ _ _ _)
   | (with_reducible exact ih4 _ _ _ _ _ _ _ _ _)
   | (with_reducible exact waymarklaw02_awake.mono _)
   | (with_reducible exact waymarkref02_Has.mono _ _ _)
   | (with_reducible exact LeO.refl _)
   | (with_reducible exact LeO.none _)
   | (with_reducible refine LeO.ite ?_ ?_)
   | (with_reducible refine LeO.bind ?_ (fun _ => ?_))
   | exact ih0 _ _ _ _
   | exact ih1 _ _ _ _ _
   | exact ih2 _ _ _ _ _ _
   | exact ih3 _ _ _ _ _ _ _
   | exact ih4 _ _ _ _ _ _ _ _ _
   | exact waymarklaw02_awake.mono _
   | exact waymarkref02_Has.mono _ _ _
   | exact LeO.none _
   | refine LeO.ite ?_ ?_
   | refine LeO.bind ?_ (fun _ => ?_)
  ·intro y0 y1 y2 y3 y4
   unfold waymarklaw02_SpansCut_T.j1
   repeat' first
   | (with_reducible exact ih0 _ _ _ _)
   | (with_reducible exact ih1 _ _ _ _ _)
   | (with_reducible exact ih2 _ _ _ _ _ _)
   | (with_reducible exact ih3 _ _ _ _ _ _ _)
   | (with_reducible exact ih4 _ _ _ _ _ _ _ _ _)
   | (with_reducible exact waymarklaw02_awake.mono _)
   | (with_reducible exact waymarkref02_Has.mono _ _ _)
   | (with_reducible exact LeO.refl _)
   | (with_reducible exact LeO.none _)
   | (with_reducible refine LeO.ite ?_ ?_)
   | (with_reducible refine LeO.bind ?_ (fun _ => ?_))
   | exact ih0 _ _ _ _
   | exact ih1 _ _ _ _ _
   | exact ih2 _ _ _ _ _ _
   | exact ih3 _ _ _ _ _ _ _
   | exact ih4 _ _ _ _ _ _ _ _ _
   | exact waymarklaw02_awake.mono _
   | exact waymarkref02_Has.mono _ _ _
   | exact LeO.none _
   | refine LeO.ite ?_ ?_
   | refine LeO.bind ?_ (fun _ => ?_)
  ·intro y0 y1 y2 y3 y4 y5
   unfold waymarklaw02_SpansCut_T.l1
   repeat' first
   | (with_reducible exact ih0 _ _ _ _)
   | (with_reducible exact ih1 _ _ _ _ _)
   | (with_reducible exact ih2 _ _ _ _ _ _)
   | (with_reducible exact ih3 _ _ _ _ _ _ _)
   | (with_reducible exact ih4 _ _ _ _ _ _ _ _ _)
   | (with_reducible exact waymarklaw02_awake.mono _)
   | (with_reducible exact waymarkref02_Has.mono _ _ _)
   | (with_reducible exact LeO.refl _)
   | (with_reducible exact LeO.none _)
   | (with_reducible refine LeO.ite ?_ ?_)
   | (with_reducible refine LeO.bind ?_ (fun _ => ?_))
   | exact ih0 _ _ _ _
   | exact ih1 _ _ _ _ _
   | exact ih2 _ _ _ _ _ _
   | exact ih3 _ _ _ _ _ _ _
   | exact ih4 _ _ _ _ _ _ _ _ _
   | exact waymarklaw02_awake.mono _
   | exact waymarkref02_Has.mono _ _ _
   | exact LeO.none _
   | refine LeO.ite ?_ ?_
   | refine LeO.bind ?_ (fun _ => ?_)
  ·intro y0 y1 y2 y3 y4 y5 y6
   unfold waymarklaw02_SpansCut_T.j3
   repeat' first
   | (with_reducible exact ih0 _ _ _ _)
   | (with_reducible exact ih1 _ _ _ _ _)
   | (with_reducible exact ih2 _ _ _ _ _ _)
   | (with_reducible exact ih3 _ _ _ _ _ _ _)
   | (with_reducible exact ih4 _ _ _ _ _ _ _ _ _)
   | (with_reducible exact waymarklaw02_awake.mono _)
   | (with_reducible exact waymarkref02_Has.mono _ _ _)
   | (with_reducible exact LeO.refl _)
   | (with_reducible exact LeO.none _)
   | (with_reducible refine LeO.ite ?_ ?_)
   | (with_reducible refine LeO.bind ?_ (fun _ => ?_))
   | exact ih0 _ _ _ _
   | exact ih1 _ _ _ _ _
   | exact ih2 _ _ _ _ _ _
   | exact ih3 _ _ _ _ _ _ _
   | exact ih4 _ _ _ _ _ _ _ _ _
   | exact waymarklaw02_awake.mono _
   | exact waymarkref02_Has.mono _ _ _
   | exact LeO.none _
   | refine LeO.ite ?_ ?_
   | refine LeO.bind ?_ (fun _ => ?_)
  ·intro y0 y1 y2 y3 y4 y5 y6 y7 y8
   unfold waymarklaw02_SpansCut_T.l2
   repeat' first
   | (with_reducible exact ih0 _ _ _ _)
   | (with_reducible exact ih1 _ _ _ _ _)
   | (with_reducible exact ih2 _ _ _ _ _ _)
   | (with_reducible exact ih3 _ _ _ _ _ _ _)
   | (with_reducible exact ih4 _ _ _ _ _ _ _ _ _)
   | (with_reducible exact waymarklaw02_awake.mono _)
   | (with_reducible exact waymarkref02_Has.mono _ _ _)
   | (with_reducible exact LeO.refl _)
   | (with_reducible exact LeO.none _)
   | (with_reducible refine LeO.ite ?_ ?_)
   | (with_reducible refine LeO.bind ?_ (fun _ => ?_))
   | exact ih0 _ _ _ _
   | exact ih1 _ _ _ _ _
   | exact ih2 _ _ _ _ _ _
   | exact ih3 _ _ _ _ _ _ _
   | exact ih4 _ _ _ _ _ _ _ _ _
   | exact waymarklaw02_awake.mono _
   | exact waymarkref02_Has.mono _ _ _
   | exact LeO.none _
   | refine LeO.ite ?_ ?_
   | refine LeO.bind ?_ (fun _ => ?_)
theorem waymarklaw02_SpansCut_T.mono : ∀ a0 a1 a2 k, LeO (waymarklaw02_SpansCut_T.f k a0 a1 a2) (waymarklaw02_SpansCut_T.f (k + 1) a0 a1 a2) := by
 intro a0 a1 a2 k
 obtain ⟨ih0, ih1, ih2, ih3, ih4⟩ := waymarklaw02_SpansCut_T.mono_l k
 unfold waymarklaw02_SpansCut_T.f
 repeat' first
   | (with_reducible exact ih0 _ _ _ _)
   | (with_reducible exact ih1 _ _ _ _ _)
   | (with_reducible exact ih2 _ _ _ _ _ _)
   | (with_reducible exact ih3 _ _ _ _ _ _ _)
   | (with_reducible exact ih4 _ _ _ _ _ _ _ _ _)
   | (with_reducible exact waymarklaw02_awake.mono _)
   | (with_reducible exact waymarkref02_Has.mono _ _ _)
   | (with_reducible exact LeO.refl _)
   | (with_reducible exact LeO.none _)
   | (with_reducible refine LeO.ite ?_ ?_)
   | (with_reducible refine LeO.bind ?_ (fun _ => ?_))
   | exact ih0 _ _ _ _
   | exact ih1 _ _ _ _ _
   | exact ih2 _ _ _ _ _ _
   | exact ih3 _ _ _ _ _ _ _
   | exact ih4 _ _ _ _ _ _ _ _ _
   | exact waymarklaw02_awake.mono _
   | exact waymarkref02_Has.mono _ _ _
   | exact LeO.none _
   | refine LeO.ite ?_ ?_
   | refine LeO.bind ?_ (fun _ => ?_)
set_option maxHeartbeats 8000000 in
set_option maxRecDepth 100000 in
theorem waymarklaw02_SpansCut_T.calls (k : Nat) (a0 : Int) (A1 : Option Addr) (c1 : Nat) (l1 : List (List (S31))) (a2 : Int) (r : Bool) (w : World) (hr1 : Kd.C (Kd.slice 31 k31) w A1 l1.length l1) (hc1 : l1.length ≤ c1) (h : waymarklaw02_SpansCut_T.f k a0 l1 a2 = some r) :
  Calls Try.prog 10 #[.int .u32 a0, .slice A1 l1.length c1, .int .u32 a2] w fun e w' => e = .returned (.bool r) ∧ Below w.heap.size w w' := by
 have HR1 := Aside0.mk hr1
 have HC1 := Aside0.mk hc1
 clear hr1 hc1
 have HB := Aside0.mk (Below.refl w.heap.size w)
 have H : (if (l1.length : Int) > 12 then (if 12 ≤ (l1.length : Int) then (waymarklaw02_SpansCut_T.l0 k a0 (l1.take 12) a2 0) else (none)) else (none)) = some r := h
 clear h
 by_cases c4 : (l1.length : Int) > 12
 ·rw [if_pos c4] at H
  have c4b0 : decide (12 < (l1.length : Int)) = true := decide_eq_true c4
  have c4b1 : decide (12 < l1.length) = true := decide_eq_true (by omega)
  clear c4
  by_cases c5 : 12 ≤ (l1.length : Int)
  ·rw [if_pos c5] at H
   have c5b0 := eq_true c5
   have c5b1 : decide (12 ≤ (l1.length : Int)) = true := decide_eq_true c5
   clear c5
   obtain ⟨y657, hy657⟩ : ∃ y_ : List (List (S31)), y_ = (l1.take 12) := ⟨_, rfl⟩
   replace H : (waymarklaw02_SpansCut_T.l0 k a0 y657 a2 0) = some r := by first | (rw [hy657]; with_reducible exact H) | (have H2_ := (Option.bind_some _ _).symm.trans H; rw [hy657]; with_reducible exact H2_) | (have H2_ := (Option.bind_some _ _).symm.trans H; with_reducible exact H2_) | with_reducible exact H | (rw [hy657]; exact H) | exact H
   have Ny657 := Aside0.mk hy657
   clear hy657
   have H' := Aside0.mk H
   clear H
   have q6 : (12 : Int) ≤ ((l1.length : Int) : Int) := of_decide_eq_true (by first | (with_reducible assumption) | assumption)
   obtain ⟨i06, hi06, _, hsz6, _⟩ := info_parts info71
   have hroom6 : l1.length ≤ c1 := HC1.out
   have hC6 : Kd.C (Kd.slice 31 k31) _ A1 l1.length l1 := HR1.out
   have hcut6 := cut_to (P := Try.prog) 84 71 .i64 Try.underlying84 hi06 A1 l1.length c1 12 (by omega) q6 hroom6
   have hr6 := Kd.C_take (m := 12) hC6 (by omega)
   have hy6 : y657.length = (12 : Int).toNat := (by rw [Ny657.out, List.length_take]; omega)
   rw [← Ny657.out] at hr6
   rw [← hy6] at hcut6
   have HR660 := Aside0.mk hr6
   have HC660 := Aside0.mk (show y657.length ≤ c1 from by omega)
   clear hr6 hC6 hroom6 hi06 hsz6
   have KY6 := Aside0.mk hy6
   clear hy6
   replace q6 := eq_true q6
   go_enter Try.func10, Try.ntmps10
   go_wp2
   repeat (go_quiet (fail); try go_wp2)
   go_loopg [7] k (fun kq v7 w' => ∃ (x7_1 : Int), v7 = .int .i64 x7_1 ∧ Aside0 (waymarklaw02_SpansCut_T.l0 kq a0 y657 a2 x7_1 = some r) ∧ Aside0 (kq ≤ k) ∧ Aside0 (Below w.heap.size w w'))
   case atStart => exact ⟨(0), (by first | rfl | (simp; done) | (simp [*]; done)), H', ⟨Nat.le_refl _⟩, ⟨by repeat (first | (with_reducible first | exact HB.out | apply below_alloc | apply pw_below_drewN | apply below_drew1) | exact HB.out)⟩⟩
   case round =>
    clear H'
    try clear c1
    try clear p2
    try clear c4
    try clear c4b0
    try clear c4b1
    try clear c5
    try clear c5b0
    try clear c5b1
    try clear q6
    try clear q6
    obtain ⟨x7_1, rfl, HA, HK1, HB⟩ := hrel
    cases gk with
    | zero => exact absurd HA.out (by simp [waymarklaw02_SpansCut_T.l0])
    | succ k1 =>
     have H := HA.out
     clear HA
     simp only [waymarklaw02_SpansCut_T.l0] at H
     by_cases c7 : x7_1 < (y657.length : Int)
     ·rw [if_pos c7] at H
      have c7b0 : decide (x7_1 < (y657.length : Int)) = true := decide_eq_true c7
      clear c7
      by_cases c8 : 0 ≤ x7_1
      ·rw [if_pos c8] at H
       have c8b0 : decide (0 ≤ x7_1) = true := decide_eq_true c8
       clear c8
       by_cases c9 : ((rd_L12 y657 x7_1).length : Int) > 40
       ·as_aux_lemma =>
        rw [if_pos c9] at H
        have c9b0 : decide (40 < ((rd_L12 y657 x7_1).length : Int)) = true := decide_eq_true c9
        have c9b1 : decide (40 < (rd_L12 y657 x7_1).length) = true := decide_eq_true (by omega)
        clear c9
        replace H := Option.bind_eq_some_iff.mp H
        obtain ⟨t662, A100, H⟩ := H
        replace H : (some t662) = some r := H
        have A10 := Aside0.mk A100
        clear A100
        obtain rfl := Option.some.inj H
        have p661 : 0 ≤ (x7_1 : Int) := of_decide_eq_true (by first | (with_reducible assumption) | assumption)
        have q661 : x7_1 < (y657.length : Int) := of_decide_eq_true (by first | (with_reducible assumption) | assumption)
        obtain ⟨ad661, A661_0, c661_0, e661, hx661_0, hl661_0, hi661_0⟩ := at_L12 HR660.out x7_1 p661 q661
        cases e661
        replace hx661_0 := pw_cell_below HB.out hx661_0
        have HR661_0 := Aside0.mk hi661_0
        have HC661_0 := Aside0.mk hl661_0
        clear hi661_0 hl661_0
        replace p661 := eq_true p661
        replace q661 := eq_true q661
        go_wp2_with (first | (go_at_call 35; (with_reducible refine (waymarklaw02_awake.calls k1  t662 _ A10.out).mono ?_); rintro e w11 ⟨rfl, hb⟩; have n0_ := Aside0.mk (below_step (by repeat (first | (with_reducible first | exact HB.out | apply below_alloc | apply pw_below_drewN | apply below_drew1) | exact HB.out)) hb); clear HB; have HB := n0_; clear n0_; (try clear hb); (try clear hb2); (try clear hk); (try clear hi)))
        repeat (go_quiet (first | (go_at_call 35; (with_reducible refine (waymarklaw02_awake.calls k1  t662 _ A10.out).mono ?_); rintro e w11 ⟨rfl, hb⟩; have n0_ := Aside0.mk (below_step (by repeat (first | (with_reducible first | exact HB.out | apply below_alloc | apply pw_below_drewN | apply below_drew1) | exact HB.out)) hb); clear HB; have HB := n0_; clear n0_; (try clear hb); (try clear hb2); (try clear hk); (try clear hi))); try go_wp2_with (first | (go_at_call 35; (with_reducible refine (waymarklaw02_awake.calls k1  t662 _ A10.out).mono ?_); rintro e w11 ⟨rfl, hb⟩; have n0_ := Aside0.mk (below_step (by repeat (first | (with_reducible first | exact HB.out | apply below_alloc | apply pw_below_drewN | apply below_drew1) | exact HB.out)) hb); clear HB; have HB := n0_; clear n0_; (try clear hb); (try clear hb2); (try clear hk); (try clear hi))))
        go_ret
        exact ⟨by first | rfl | (simp [errW_none, errW_some] <;> rfl) | (simp [*, errW_none, errW_some] <;> rfl), by repeat (first | (with_reducible first | exact HB.out | apply below_alloc | apply pw_below_drewN | apply below_drew1) | exact HB.out)⟩
       ·as_aux_lemma =>
        rw [if_neg c9] at H
        have c9b0 : decide (40 < ((rd_L12 y657 x7_1).length : Int)) = false := decide_eq_false c9
        have c9b1 : decide (40 < (rd_L12 y657 x7_1).length) = false := decide_eq_false (by omega)
        clear c9
        have H' := Aside0.mk H
        clear H
        have p661 : 0 ≤ (x7_1 : Int) := of_decide_eq_true (by first | (with_reducible assumption) | assumption)
        have q661 : x7_1 < (y657.length : Int) := of_decide_eq_true (by first | (with_reducible assumption) | assumption)
        obtain ⟨ad661, A661_0, c661_0, e661, hx661_0, hl661_0, hi661_0⟩ := at_L12 HR660.out x7_1 p661 q661
        cases e661
        replace hx661_0 := pw_cell_below HB.out hx661_0
        have HR661_0 := Aside0.mk hi661_0
        have HC661_0 := Aside0.mk hl661_0
        clear hi661_0 hl661_0
        replace p661 := eq_true p661
        replace q661 := eq_true q661
        go_wp2
        repeat (go_quiet (fail); try go_wp2)
        go_roundg k1
        case measure => have := HK1.out; omega
        case rel => exact ⟨(wrap64 (x7_1 + 1)), (by first | rfl | (simp; done) | (simp [*]; done)), H', ⟨by have := HK1.out; omega⟩, ⟨by repeat (first | (with_reducible first | exact HB.out | apply below_alloc | apply pw_below_drewN | apply below_drew1) | exact HB.out)⟩⟩
      ·rw [if_neg c8] at H
       exact absurd H (by simp)
     ·rw [if_neg c7] at H
      have c7b0 : decide (x7_1 < (y657.length : Int)) = false := decide_eq_false c7
      clear c7
      replace H := Option.bind_eq_some_iff.mp H
      obtain ⟨⟨t663, t664⟩, A120, H⟩ := H
      replace H : ((waymarklaw02_awake.f k1).bind fun t667 => (if t667 = true then (if t664 = 0 then (if (t663.length : Int) = 0 then (waymarklaw02_SpansCut_T.j1 k1 a0 y657 a2 t663 true) else (if 0 < (t663.length : Int) then (if ((rd_T31 t663 0).f0) = 0 then (if 0 ≤ (wrap64 ((t663.length : Int) - 1)) then (if (wrap64 ((t663.length : Int) - 1)) < (t663.length : Int) then (waymarklaw02_SpansCut_T.j1 k1 a0 y657 a2 t663 (((rd_T31 t663 (wrap64 ((t663.length : Int) - 1))).f1) != a0)) else (none)) else (none)) else (waymarklaw02_SpansCut_T.j1 k1 a0 y657 a2 t663 true)) else (none))) else (waymarklaw02_SpansCut_T.j1 k1 a0 y657 a2 t663 true)) else (waymarklaw02_SpansCut_T.j1 k1 a0 y657 a2 t663 true))) = some r := H
      have A12 := Aside0.mk A120
      clear A120
      have HC13 := Aside0.mk H
      clear H
      go_upto_region 9 with (first | (go_at_call 55; (with_reducible refine (spans_Pieces.calls a0 _ _ y657 t663 t664 _ ?side1 ?side2 A12.out).mono ?_); (case side1 => repeat (first | exact (Kd.C_below HR660.out HB.out) | (with_reducible refine Kd.C_alloc ?_ _) | (with_reducible refine Kd.C_drewN ?_ _) | (with_reducible refine Kd.C_drew ?_))); (case side2 => exact HC660.out); rintro e w14 ⟨v665, rfl, ho0, hb⟩; have n0_ := Aside0.mk (Kd.R_lower ho0 (below_size (by repeat (first | (with_reducible first | exact HB.out | apply below_alloc | apply pw_below_drewN | apply below_drew1) | exact HB.out)))); have n1_ := Aside0.mk (below_step (by repeat (first | (with_reducible first | exact HB.out | apply below_alloc | apply pw_below_drewN | apply below_drew1) | exact HB.out)) hb); clear HB; have HO666 := n0_; have HB := n1_; clear n0_ n1_; (try clear hb); (try clear hb2); (try clear hk); (try clear hi); (try clear ho0)))
      repeat (go_quiet (first | (go_at_call 55; (with_reducible refine (spans_Pieces.calls a0 _ _ y657 t663 t664 _ ?side1 ?side2 A12.out).mono ?_); (case side1 => repeat (first | exact (Kd.C_below HR660.out HB.out) | (with_reducible refine Kd.C_alloc ?_ _) | (with_reducible refine Kd.C_drewN ?_ _) | (with_reducible refine Kd.C_drew ?_))); (case side2 => exact HC660.out); rintro e w14 ⟨v665, rfl, ho0, hb⟩; have n0_ := Aside0.mk (Kd.R_lower ho0 (below_size (by repeat (first | (with_reducible first | exact HB.out | apply below_alloc | apply pw_below_drewN | apply below_drew1) | exact HB.out)))); have n1_ := Aside0.mk (below_step (by repeat (first | (with_reducible first | exact HB.out | apply below_alloc | apply pw_below_drewN | apply below_drew1) | exact HB.out)) hb); clear HB; have HO666 := n0_; have HB := n1_; clear n0_ n1_; (try clear hb); (try clear hb2); (try clear hk); (try clear hi); (try clear ho0))); go_upto_region 9 with (first | (go_at_call 55; (with_reducible refine (spans_Pieces.calls a0 _ _ y657 t663 t664 _ ?side1 ?side2 A12.out).mono ?_); (case side1 => repeat (first | exact (Kd.C_below HR660.out HB.out) | (with_reducible refine Kd.C_alloc ?_ _) | (with_reducible refine Kd.C_drewN ?_ _) | (with_reducible refine Kd.C_drew ?_))); (case side2 => exact HC660.out); rintro e w14 ⟨v665, rfl, ho0, hb⟩; have n0_ := Aside0.mk (Kd.R_lower ho0 (below_size (by repeat (first | (with_reducible first | exact HB.out | apply below_alloc | apply pw_below_drewN | apply below_drew1) | exact HB.out)))); have n1_ := Aside0.mk (below_step (by repeat (first | (with_reducible first | exact HB.out | apply below_alloc | apply pw_below_drewN | apply below_drew1) | exact HB.out)) hb); clear HB; have HO666 := n0_; have HB := n1_; clear n0_ n1_; (try clear hb); (try clear hb2); (try clear hk); (try clear hi); (try clear ho0))))
      (try simp only [Act.put, List.setIfInBounds_toArray, List.set_cons_zero, List.set_cons_succ])
      go_cut [68] (fun v68 wc => ∃ (kq : Nat) (x68_12 : Bool), v68 = .bool x68_12 ∧ Aside0 (waymarklaw02_SpansCut_T.j1 kq a0 y657 a2 t663 x68_12 = some r) ∧ Aside0 (kq ≤ k1) ∧ Aside0 (Kd.R k31 31 wc w.heap.size (fun _ => True) v665 t663) ∧ Aside0 (Below w.heap.size w wc))
      case first =>
       have H := HC13.out
       clear HC13
       replace H := Option.bind_eq_some_iff.mp H
       obtain ⟨t667, A150, H⟩ := H
       replace H : (if t667 = true then (if t664 = 0 then (if (t663.length : Int) = 0 then (waymarklaw02_SpansCut_T.j1 k1 a0 y657 a2 t663 true) else (if 0 < (t663.length : Int) then (if ((rd_T31 t663 0).f0) = 0 then (if 0 ≤ (wrap64 ((t663.length : Int) - 1)) then (if (wrap64 ((t663.length : Int) - 1)) < (t663.length : Int) then (waymarklaw02_SpansCut_T.j1 k1 a0 y657 a2 t663 (((rd_T31 t663 (wrap64 ((t663.length : Int) - 1))).f1) != a0)) else (none)) else (none)) else (waymarklaw02_SpansCut_T.j1 k1 a0 y657 a2 t663 true)) else (none))) else (waymarklaw02_SpansCut_T.j1 k1 a0 y657 a2 t663 true)) else (waymarklaw02_SpansCut_T.j1 k1 a0 y657 a2 t663 true)) = some r := H
       have A15 := Aside0.mk A150
       clear A150
       by_cases c16 : t667 = true
       ·subst c16
        have H1 : (if t664 = 0 then (if (t663.length : Int) = 0 then (waymarklaw02_SpansCut_T.j1 k1 a0 y657 a2 t663 true) else (if 0 < (t663.length : Int) then (if ((rd_T31 t663 0).f0) = 0 then (if 0 ≤ (wrap64 ((t663.length : Int) - 1)) then (if (wrap64 ((t663.length : Int) - 1)) < (t663.length : Int) then (waymarklaw02_SpansCut_T.j1 k1 a0 y657 a2 t663 (((rd_T31 t663 (wrap64 ((t663.length : Int) - 1))).f1) != a0)) else (none)) else (none)) else (waymarklaw02_SpansCut_T.j1 k1 a0 y657 a2 t663 true)) else (none))) else (waymarklaw02_SpansCut_T.j1 k1 a0 y657 a2 t663 true)) = some r := by rw [if_pos rfl] at H; exact H
        clear H
        have H := H1
        clear H1
        by_cases c17 : t664 = 0
        ·rw [if_pos c17] at H
         have c17b0 : (t664 == 0) = true := beq_iff_eq.mpr c17
         have c17b1 : (t664 != 0) = false := bne_eq_false_iff_eq.mpr c17
         clear c17
         (first | rw [c17b0] | (simp only [i64_w, i32_w]; rw [c17b0]) | skip)
         by_cases c18 : (t663.length : Int) = 0
         ·as_aux_lemma =>
          rw [if_pos c18] at H
          have c18b0 : ((t663.length : Int) == 0) = true := beq_iff_eq.mpr c18
          have c18b1 : ((t663.length : Int) != 0) = false := bne_eq_false_iff_eq.mpr c18
          clear c18
          have H' := Aside0.mk H
          clear H
          go_wp2_with (first | (go_at_call 35; (with_reducible refine (waymarklaw02_awake.calls k1  true _ A15.out).mono ?_); rintro e w19 ⟨rfl, hb⟩; have n0_ := Aside0.mk (Kd.R_below (by (with_reducible repeat (first | apply Kd.R_alloc | apply Kd.R_drewN | apply Kd.R_drew)); exact HO666.out) hb); have n1_ := Aside0.mk (below_step (by repeat (first | (with_reducible first | exact HB.out | apply below_alloc | apply pw_below_drewN | apply below_drew1) | exact HB.out)) hb); clear HO666; clear HB; have HO666 := n0_; have HB := n1_; clear n0_ n1_; (try clear hb); (try clear hb2); (try clear hk); (try clear hi); obtain ⟨Ao20, co20, eo20⟩ := Kd.R_slice HO666.out; subst eo20))
          repeat (go_quiet (first | (go_at_call 35; (with_reducible refine (waymarklaw02_awake.calls k1  true _ A15.out).mono ?_); rintro e w19 ⟨rfl, hb⟩; have n0_ := Aside0.mk (Kd.R_below (by (with_reducible repeat (first | apply Kd.R_alloc | apply Kd.R_drewN | apply Kd.R_drew)); exact HO666.out) hb); have n1_ := Aside0.mk (below_step (by repeat (first | (with_reducible first | exact HB.out | apply below_alloc | apply pw_below_drewN | apply below_drew1) | exact HB.out)) hb); clear HO666; clear HB; have HO666 := n0_; have HB := n1_; clear n0_ n1_; (try clear hb); (try clear hb2); (try clear hk); (try clear hi); obtain ⟨Ao20, co20, eo20⟩ := Kd.R_slice HO666.out; subst eo20)); try go_wp2_with (first | (go_at_call 35; (with_reducible refine (waymarklaw02_awake.calls k1  true _ A15.out).mono ?_); rintro e w19 ⟨rfl, hb⟩; have n0_ := Aside0.mk (Kd.R_below (by (with_reducible repeat (first | apply Kd.R_alloc | apply Kd.R_drewN | apply Kd.R_drew)); exact HO666.out) hb); have n1_ := Aside0.mk (below_step (by repeat (first | (with_reducible first | exact HB.out | apply below_alloc | apply pw_below_drewN | apply below_drew1) | exact HB.out)) hb); clear HO666; clear HB; have HO666 := n0_; have HB := n1_; clear n0_ n1_; (try clear hb); (try clear hb2); (try clear hk); (try clear hi); obtain ⟨Ao20, co20, eo20⟩ := Kd.R_slice HO666.out; subst eo20)))
          go_meet
          case rel => exact ⟨_, (true), (by first | rfl | (simp; done) | (simp [*]; done)), H', ⟨by have := HK1.out; first | omega | exact Nat.le_refl _⟩, ⟨by (with_reducible repeat (first | apply Kd.R_alloc | apply Kd.R_drewN | apply Kd.R_drew)); exact HO666.out⟩, ⟨by repeat (first | (with_reducible first | exact HB.out | apply below_alloc | apply pw_below_drewN | apply below_drew1) | exact HB.out)⟩⟩
         ·rw [if_neg c18] at H
          have c18b0 : ((t663.length : Int) == 0) = false := beq_eq_false_iff_ne.mpr c18
          have c18b1 : ((t663.length : Int) != 0) = true := bne_iff_ne.mpr c18
          have c18b2 : ¬ (t663 = []) := fun h_ => c18 (by rw [h_]; rfl)
          by_cases c21 : 0 < (t663.length : Int)
          ·rw [if_pos c21] at H
           have c21b0 : decide (0 < (t663.length : Int)) = true := decide_eq_true c21
           have c21b1 : decide (0 < t663.length) = true := decide_eq_true (by omega)
           clear c21
           by_cases c22 : ((rd_T31 t663 0).f0) = 0
           ·rw [if_pos c22] at H
            have c22b0 : (((rd_T31 t663 0).f0) == 0) = true := beq_iff_eq.mpr c22
            have c22b1 : (((rd_T31 t663 0).f0) != 0) = false := bne_eq_false_iff_eq.mpr c22
            clear c22
            obtain ⟨ji23, hji23⟩ : ∃ j_ : Int, (wrap64 ((t663.length : Int) - 1)) = j_ := ⟨_, rfl⟩
            replace H : (if 0 ≤ (ji23) then (if (ji23) < (t663.length : Int) then (waymarklaw02_SpansCut_T.j1 k1 a0 y657 a2 t663 (((rd_T31 t663 (ji23)).f1) != a0)) else (none)) else (none)) = some r := by first | (rw [hji23] at H; exact H) | (simp only [hji23] at H ⊢; exact H)
            (try rw [hji23] at A15)
            have hji23w : (IntKind.i64.wrap ((t663.length : Int) - 1)) = ji23 := (i64_w _).trans hji23
            by_cases c24 : 0 ≤ (ji23)
            ·rw [if_pos c24] at H
             have c24b0 : decide (0 ≤ (ji23)) = true := decide_eq_true c24
             clear c24
             by_cases c25 : (ji23) < (t663.length : Int)
             ·as_aux_lemma =>
              rw [if_pos c25] at H
              have c25b0 : decide ((ji23) < (t663.length : Int)) = true := decide_eq_true c25
              clear c25
              have H' := Aside0.mk H
              clear H
              go_wp2_with (first | (go_at_call 35; (with_reducible refine (waymarklaw02_awake.calls k1  true _ A15.out).mono ?_); rintro e w26 ⟨rfl, hb⟩; have n0_ := Aside0.mk (Kd.R_below (by (with_reducible repeat (first | apply Kd.R_alloc | apply Kd.R_drewN | apply Kd.R_drew)); exact HO666.out) hb); have n1_ := Aside0.mk (below_step (by repeat (first | (with_reducible first | exact HB.out | apply below_alloc | apply pw_below_drewN | apply below_drew1) | exact HB.out)) hb); clear HO666; clear HB; have HO666 := n0_; have HB := n1_; clear n0_ n1_; (try clear hb); (try clear hb2); (try clear hk); (try clear hi); obtain ⟨Ao27, co27, eo27⟩ := Kd.R_slice HO666.out; subst eo27; have p668 : 0 ≤ (0 : Int) := (by omega); have q668 : 0 < (t663.length : Int) := of_decide_eq_true (by first | (with_reducible assumption) | assumption); obtain ⟨ad668, e668, hx668_0, hx668_1⟩ := at_T31 (Kd.R_reads' HO666.out).2.2 0 p668 q668; cases e668; have qi668 : (0 < t663.length) = True := eq_true (by omega); (try rw [show ((0 : Int)).toNat = 0 from rfl] at hx668_0); (try rw [show 0 * 2 = 0 from rfl] at hx668_0); (try rw [Addr.add_zero'] at hx668_0); (try rw [show ((0 : Int)).toNat = 0 from rfl] at hx668_1); (try rw [show 0 * 2 = 0 from rfl] at hx668_1); (try rw [Addr.add_zero'] at hx668_1); replace p668 := eq_true p668; replace q668 := eq_true q668; have p669 : 0 ≤ ((ji23) : Int) := of_decide_eq_true (by first | (with_reducible assumption) | assumption); have q669 : (ji23) < (t663.length : Int) := of_decide_eq_true (by first | (with_reducible assumption) | assumption); obtain ⟨ad669, e669, hx669_0, hx669_1⟩ := at_T31 (Kd.R_reads' HO666.out).2.2 (ji23) p669 q669; obtain rfl : ad668 = ad669 := (by injection e669); replace p669 := eq_true p669; replace q669 := eq_true q669))
              repeat (go_quiet (first | (go_at_call 35; (with_reducible refine (waymarklaw02_awake.calls k1  true _ A15.out).mono ?_); rintro e w26 ⟨rfl, hb⟩; have n0_ := Aside0.mk (Kd.R_below (by (with_reducible repeat (first | apply Kd.R_alloc | apply Kd.R_drewN | apply Kd.R_drew)); exact HO666.out) hb); have n1_ := Aside0.mk (below_step (by repeat (first | (with_reducible first | exact HB.out | apply below_alloc | apply pw_below_drewN | apply below_drew1) | exact HB.out)) hb); clear HO666; clear HB; have HO666 := n0_; have HB := n1_; clear n0_ n1_; (try clear hb); (try clear hb2); (try clear hk); (try clear hi); obtain ⟨Ao27, co27, eo27⟩ := Kd.R_slice HO666.out; subst eo27; have p668 : 0 ≤ (0 : Int) := (by omega); have q668 : 0 < (t663.length : Int) := of_decide_eq_true (by first | (with_reducible assumption) | assumption); obtain ⟨ad668, e668, hx668_0, hx668_1⟩ := at_T31 (Kd.R_reads' HO666.out).2.2 0 p668 q668; cases e668; have qi668 : (0 < t663.length) = True := eq_true (by omega); (try rw [show ((0 : Int)).toNat = 0 from rfl] at hx668_0); (try rw [show 0 * 2 = 0 from rfl] at hx668_0); (try rw [Addr.add_zero'] at hx668_0); (try rw [show ((0 : Int)).toNat = 0 from rfl] at hx668_1); (try rw [show 0 * 2 = 0 from rfl] at hx668_1); (try rw [Addr.add_zero'] at hx668_1); replace p668 := eq_true p668; replace q668 := eq_true q668; have p669 : 0 ≤ ((ji23) : Int) := of_decide_eq_true (by first | (with_reducible assumption) | assumption); have q669 : (ji23) < (t663.length : Int) := of_decide_eq_true (by first | (with_reducible assumption) | assumption); obtain ⟨ad669, e669, hx669_0, hx669_1⟩ := at_T31 (Kd.R_reads' HO666.out).2.2 (ji23) p669 q669; obtain rfl : ad668 = ad669 := (by injection e669); replace p669 := eq_true p669; replace q669 := eq_true q669)); try go_wp2_with (first | (go_at_call 35; (with_reducible refine (waymarklaw02_awake.calls k1  true _ A15.out).mono ?_); rintro e w26 ⟨rfl, hb⟩; have n0_ := Aside0.mk (Kd.R_below (by (with_reducible repeat (first | apply Kd.R_alloc | apply Kd.R_drewN | apply Kd.R_drew)); exact HO666.out) hb); have n1_ := Aside0.mk (below_step (by repeat (first | (with_reducible first | exact HB.out | apply below_alloc | apply pw_below_drewN | apply below_drew1) | exact HB.out)) hb); clear HO666; clear HB; have HO666 := n0_; have HB := n1_; clear n0_ n1_; (try clear hb); (try clear hb2); (try clear hk); (try clear hi); obtain ⟨Ao27, co27, eo27⟩ := Kd.R_slice HO666.out; subst eo27; have p668 : 0 ≤ (0 : Int) := (by omega); have q668 : 0 < (t663.length : Int) := of_decide_eq_true (by first | (with_reducible assumption) | assumption); obtain ⟨ad668, e668, hx668_0, hx668_1⟩ := at_T31 (Kd.R_reads' HO666.out).2.2 0 p668 q668; cases e668; have qi668 : (0 < t663.length) = True := eq_true (by omega); (try rw [show ((0 : Int)).toNat = 0 from rfl] at hx668_0); (try rw [show 0 * 2 = 0 from rfl] at hx668_0); (try rw [Addr.add_zero'] at hx668_0); (try rw [show ((0 : Int)).toNat = 0 from rfl] at hx668_1); (try rw [show 0 * 2 = 0 from rfl] at hx668_1); (try rw [Addr.add_zero'] at hx668_1); replace p668 := eq_true p668; replace q668 := eq_true q668; have p669 : 0 ≤ ((ji23) : Int) := of_decide_eq_true (by first | (with_reducible assumption) | assumption); have q669 : (ji23) < (t663.length : Int) := of_decide_eq_true (by first | (with_reducible assumption) | assumption); obtain ⟨ad669, e669, hx669_0, hx669_1⟩ := at_T31 (Kd.R_reads' HO666.out).2.2 (ji23) p669 q669; obtain rfl : ad668 = ad669 := (by injection e669); replace p669 := eq_true p669; replace q669 := eq_true q669)))
              go_meet
              case rel => exact ⟨_, ((((rd_T31 t663 (ji23)).f1) != a0)), (by first | rfl | (simp; done) | (simp only [← hji23] <;> (first | rfl | simp)) | (simp [*]; done)), H', ⟨by have := HK1.out; first | omega | exact Nat.le_refl _⟩, ⟨by (with_reducible repeat (first | apply Kd.R_alloc | apply Kd.R_drewN | apply Kd.R_drew)); exact HO666.out⟩, ⟨by repeat (first | (with_reducible first | exact HB.out | apply below_alloc | apply pw_below_drewN | apply below_drew1) | exact HB.out)⟩⟩
             ·rw [if_neg c25] at H
              exact absurd H (by simp)
            ·rw [if_neg c24] at H
             exact absurd H (by simp)
           ·as_aux_lemma =>
            rw [if_neg c22] at H
            have c22b0 : (((rd_T31 t663 0).f0) == 0) = false := beq_eq_false_iff_ne.mpr c22
            have c22b1 : (((rd_T31 t663 0).f0) != 0) = true := bne_iff_ne.mpr c22
            have H' := Aside0.mk H
            clear H
            go_wp2_with (first | (go_at_call 35; (with_reducible refine (waymarklaw02_awake.calls k1  true _ A15.out).mono ?_); rintro e w28 ⟨rfl, hb⟩; have n0_ := Aside0.mk (Kd.R_below (by (with_reducible repeat (first | apply Kd.R_alloc | apply Kd.R_drewN | apply Kd.R_drew)); exact HO666.out) hb); have n1_ := Aside0.mk (below_step (by repeat (first | (with_reducible first | exact HB.out | apply below_alloc | apply pw_below_drewN | apply below_drew1) | exact HB.out)) hb); clear HO666; clear HB; have HO666 := n0_; have HB := n1_; clear n0_ n1_; (try clear hb); (try clear hb2); (try clear hk); (try clear hi); obtain ⟨Ao29, co29, eo29⟩ := Kd.R_slice HO666.out; subst eo29; have p668 : 0 ≤ (0 : Int) := (by omega); have q668 : 0 < (t663.length : Int) := of_decide_eq_true (by first | (with_reducible assumption) | assumption); obtain ⟨ad668, e668, hx668_0, hx668_1⟩ := at_T31 (Kd.R_reads' HO666.out).2.2 0 p668 q668; cases e668; have qi668 : (0 < t663.length) = True := eq_true (by omega); (try rw [show ((0 : Int)).toNat = 0 from rfl] at hx668_0); (try rw [show 0 * 2 = 0 from rfl] at hx668_0); (try rw [Addr.add_zero'] at hx668_0); (try rw [show ((0 : Int)).toNat = 0 from rfl] at hx668_1); (try rw [show 0 * 2 = 0 from rfl] at hx668_1); (try rw [Addr.add_zero'] at hx668_1); replace p668 := eq_true p668; replace q668 := eq_true q668))
            repeat (go_quiet (first | (go_at_call 35; (with_reducible refine (waymarklaw02_awake.calls k1  true _ A15.out).mono ?_); rintro e w28 ⟨rfl, hb⟩; have n0_ := Aside0.mk (Kd.R_below (by (with_reducible repeat (first | apply Kd.R_alloc | apply Kd.R_drewN | apply Kd.R_drew)); exact HO666.out) hb); have n1_ := Aside0.mk (below_step (by repeat (first | (with_reducible first | exact HB.out | apply below_alloc | apply pw_below_drewN | apply below_drew1) | exact HB.out)) hb); clear HO666; clear HB; have HO666 := n0_; have HB := n1_; clear n0_ n1_; (try clear hb); (try clear hb2); (try clear hk); (try clear hi); obtain ⟨Ao29, co29, eo29⟩ := Kd.R_slice HO666.out; subst eo29; have p668 : 0 ≤ (0 : Int) := (by omega); have q668 : 0 < (t663.length : Int) := of_decide_eq_true (by first | (with_reducible assumption) | assumption); obtain ⟨ad668, e668, hx668_0, hx668_1⟩ := at_T31 (Kd.R_reads' HO666.out).2.2 0 p668 q668; cases e668; have qi668 : (0 < t663.length) = True := eq_true (by omega); (try rw [show ((0 : Int)).toNat = 0 from rfl] at hx668_0); (try rw [show 0 * 2 = 0 from rfl] at hx668_0); (try rw [Addr.add_zero'] at hx668_0); (try rw [show ((0 : Int)).toNat = 0 from rfl] at hx668_1); (try rw [show 0 * 2 = 0 from rfl] at hx668_1); (try rw [Addr.add_zero'] at hx668_1); replace p668 := eq_true p668; replace q668 := eq_true q668)); try go_wp2_with (first | (go_at_call 35; (with_reducible refine (waymarklaw02_awake.calls k1  true _ A15.out).mono ?_); rintro e w28 ⟨rfl, hb⟩; have n0_ := Aside0.mk (Kd.R_below (by (with_reducible repeat (first | apply Kd.R_alloc | apply Kd.R_drewN | apply Kd.R_drew)); exact HO666.out) hb); have n1_ := Aside0.mk (below_step (by repeat (first | (with_reducible first | exact HB.out | apply below_alloc | apply pw_below_drewN | apply below_drew1) | exact HB.out)) hb); clear HO666; clear HB; have HO666 := n0_; have HB := n1_; clear n0_ n1_; (try clear hb); (try clear hb2); (try clear hk); (try clear hi); obtain ⟨Ao29, co29, eo29⟩ := Kd.R_slice HO666.out; subst eo29; have p668 : 0 ≤ (0 : Int) := (by omega); have q668 : 0 < (t663.length : Int) := of_decide_eq_true (by first | (with_reducible assumption) | assumption); obtain ⟨ad668, e668, hx668_0, hx668_1⟩ := at_T31 (Kd.R_reads' HO666.out).2.2 0 p668 q668; cases e668; have qi668 : (0 < t663.length) = True := eq_true (by omega); (try rw [show ((0 : Int)).toNat = 0 from rfl] at hx668_0); (try rw [show 0 * 2 = 0 from rfl] at hx668_0); (try rw [Addr.add_zero'] at hx668_0); (try rw [show ((0 : Int)).toNat = 0 from rfl] at hx668_1); (try rw [show 0 * 2 = 0 from rfl] at hx668_1); (try rw [Addr.add_zero'] at hx668_1); replace p668 := eq_true p668; replace q668 := eq_true q668)))
            go_meet
            case rel => exact ⟨_, (true), (by first | rfl | (simp; done) | (simp [*]; done)), H', ⟨by have := HK1.out; first | omega | exact Nat.le_refl _⟩, ⟨by (with_reducible repeat (first | apply Kd.R_alloc | apply Kd.R_drewN | apply Kd.R_drew)); exact HO666.out⟩, ⟨by repeat (first | (with_reducible first | exact HB.out | apply below_alloc | apply pw_below_drewN | apply below_drew1) | exact HB.out)⟩⟩
          ·rw [if_neg c21] at H
           exact absurd H (by simp)
        ·as_aux_lemma =>
         rw [if_neg c17] at H
         have c17b0 : (t664 == 0) = false := beq_eq_false_iff_ne.mpr c17
         have c17b1 : (t664 != 0) = true := bne_iff_ne.mpr c17
         (first | rw [c17b0] | (simp only [i64_w, i32_w]; rw [c17b0]) | skip)
         have H' := Aside0.mk H
         clear H
         go_wp2_with (first | (go_at_call 35; (with_reducible refine (waymarklaw02_awake.calls k1  true _ A15.out).mono ?_); rintro e w30 ⟨rfl, hb⟩; have n0_ := Aside0.mk (Kd.R_below (by (with_reducible repeat (first | apply Kd.R_alloc | apply Kd.R_drewN | apply Kd.R_drew)); exact HO666.out) hb); have n1_ := Aside0.mk (below_step (by repeat (first | (with_reducible first | exact HB.out | apply below_alloc | apply pw_below_drewN | apply below_drew1) | exact HB.out)) hb); clear HO666; clear HB; have HO666 := n0_; have HB := n1_; clear n0_ n1_; (try clear hb); (try clear hb2); (try clear hk); (try clear hi)))
         repeat (go_quiet (first | (go_at_call 35; (with_reducible refine (waymarklaw02_awake.calls k1  true _ A15.out).mono ?_); rintro e w30 ⟨rfl, hb⟩; have n0_ := Aside0.mk (Kd.R_below (by (with_reducible repeat (first | apply Kd.R_alloc | apply Kd.R_drewN | apply Kd.R_drew)); exact HO666.out) hb); have n1_ := Aside0.mk (below_step (by repeat (first | (with_reducible first | exact HB.out | apply below_alloc | apply pw_below_drewN | apply below_drew1) | exact HB.out)) hb); clear HO666; clear HB; have HO666 := n0_; have HB := n1_; clear n0_ n1_; (try clear hb); (try clear hb2); (try clear hk); (try clear hi))); try go_wp2_with (first | (go_at_call 35; (with_reducible refine (waymarklaw02_awake.calls k1  true _ A15.out).mono ?_); rintro e w30 ⟨rfl, hb⟩; have n0_ := Aside0.mk (Kd.R_below (by (with_reducible repeat (first | apply Kd.R_alloc | apply Kd.R_drewN | apply Kd.R_drew)); exact HO666.out) hb); have n1_ := Aside0.mk (below_step (by repeat (first | (with_reducible first | exact HB.out | apply below_alloc | apply pw_below_drewN | apply below_drew1) | exact HB.out)) hb); clear HO666; clear HB; have HO666 := n0_; have HB := n1_; clear n0_ n1_; (try clear hb); (try clear hb2); (try clear hk); (try clear hi))))
         go_meet
         case rel => exact ⟨_, (true), (by first | rfl | (simp; done) | (simp [*]; done)), H', ⟨by have := HK1.out; first | omega | exact Nat.le_refl _⟩, ⟨by (with_reducible repeat (first | apply Kd.R_alloc | apply Kd.R_drewN | apply Kd.R_drew)); exact HO666.out⟩, ⟨by repeat (first | (with_reducible first | exact HB.out | apply below_alloc | apply pw_below_drewN | apply below_drew1) | exact HB.out)⟩⟩
       ·as_aux_lemma =>
        replace c16 := Bool.eq_false_iff.mpr c16
        subst c16
        have H1 : (waymarklaw02_SpansCut_T.j1 k1 a0 y657 a2 t663 true) = some r := by rw [if_neg (show ¬ (false = true) by decide)] at H; exact H
        clear H
        have H := H1
        clear H1
        have H' := Aside0.mk H
        clear H
        go_wp2_with (first | (go_at_call 35; (with_reducible refine (waymarklaw02_awake.calls k1  false _ A15.out).mono ?_); rintro e w31 ⟨rfl, hb⟩; have n0_ := Aside0.mk (Kd.R_below (by (with_reducible repeat (first | apply Kd.R_alloc | apply Kd.R_drewN | apply Kd.R_drew)); exact HO666.out) hb); have n1_ := Aside0.mk (below_step (by repeat (first | (with_reducible first | exact HB.out | apply below_alloc | apply pw_below_drewN | apply below_drew1) | exact HB.out)) hb); clear HO666; clear HB; have HO666 := n0_; have HB := n1_; clear n0_ n1_; (try clear hb); (try clear hb2); (try clear hk); (try clear hi)))
        repeat (go_quiet (first | (go_at_call 35; (with_reducible refine (waymarklaw02_awake.calls k1  false _ A15.out).mono ?_); rintro e w31 ⟨rfl, hb⟩; have n0_ := Aside0.mk (Kd.R_below (by (with_reducible repeat (first | apply Kd.R_alloc | apply Kd.R_drewN | apply Kd.R_drew)); exact HO666.out) hb); have n1_ := Aside0.mk (below_step (by repeat (first | (with_reducible first | exact HB.out | apply below_alloc | apply pw_below_drewN | apply below_drew1) | exact HB.out)) hb); clear HO666; clear HB; have HO666 := n0_; have HB := n1_; clear n0_ n1_; (try clear hb); (try clear hb2); (try clear hk); (try clear hi))); try go_wp2_with (first | (go_at_call 35; (with_reducible refine (waymarklaw02_awake.calls k1  false _ A15.out).mono ?_); rintro e w31 ⟨rfl, hb⟩; have n0_ := Aside0.mk (Kd.R_below (by (with_reducible repeat (first | apply Kd.R_alloc | apply Kd.R_drewN | apply Kd.R_drew)); exact HO666.out) hb); have n1_ := Aside0.mk (below_step (by repeat (first | (with_reducible first | exact HB.out | apply below_alloc | apply pw_below_drewN | apply below_drew1) | exact HB.out)) hb); clear HO666; clear HB; have HO666 := n0_; have HB := n1_; clear n0_ n1_; (try clear hb); (try clear hb2); (try clear hk); (try clear hi))))
        go_meet
        case rel => exact ⟨_, (true), (by first | rfl | (simp; done) | (simp [*]; done)), H', ⟨by have := HK1.out; first | omega | exact Nat.le_refl _⟩, ⟨by (with_reducible repeat (first | apply Kd.R_alloc | apply Kd.R_drewN | apply Kd.R_drew)); exact HO666.out⟩, ⟨by repeat (first | (with_reducible first | exact HB.out | apply below_alloc | apply pw_below_drewN | apply below_drew1) | exact HB.out)⟩⟩
      case rest =>
       clear HC13
       try clear c1
       try clear c2
       try clear p2
       try clear c4
       try clear c4b0
       try clear c4b1
       try clear c5
       try clear c5b0
       try clear c5b1
       try clear c6
       try clear p6
       try clear q6
       try clear hx6
       try clear qi6
       try clear c7
       try clear c7b0
       try clear c8
       try clear c8b0
       try clear c9
       try clear c9b0
       try clear c9b1
       try clear c10
       try clear c16
       try clear c17
       try clear c17b0
       try clear c17b1
       try clear c18
       try clear c18b0
       try clear c18b1
       try clear c18b2
       try clear c21
       try clear c21b0
       try clear c21b1
       try clear c22
       try clear c22b0
       try clear c22b1
       try clear c24
       try clear c24b0
       try clear c25
       try clear c25b0
       try clear hx661_0
       try clear hx668_0
       try clear hx668_1
       try clear hx669_0
       try clear hx669_1
       try clear p2
       try clear p661
       try clear p668
       try clear p669
       try clear q6
       try clear q661
       try clear q668
       try clear q669
       obtain ⟨kq, x68_12, rfl, HA, HJ12, HO_8, HB⟩ := hcut
       cases kq with
       | zero => exact absurd HA.out (by simp [waymarklaw02_SpansCut_T.j1])
       | succ kj12 =>
        have H := HA.out
        clear HA
        simp only [waymarklaw02_SpansCut_T.j1] at H
        by_cases c32 : x68_12 = true
        ·subst c32
         have H1 : (none) = some r := by rw [if_pos rfl] at H; exact H
         clear H
         have H := H1
         clear H1
         exact absurd H (by simp)
        ·replace c32 := Bool.eq_false_iff.mpr c32
         subst c32
         have H1 : (waymarklaw02_SpansCut_T.l1 kj12 a0 y657 a2 t663 0 0) = some r := by rw [if_neg (show ¬ (false = true) by decide)] at H; exact H
         clear H
         have H := H1
         clear H1
         have H' := Aside0.mk H
         clear H
         go_wp2
         repeat (go_quiet (fail); try go_wp2)
         go_loopg [10, 11] kj12 (fun kq v10 v11 w' => ∃ (x10_3 : Int) (x11_3 : Int), v10 = .int .u64 x10_3 ∧ v11 = .int .i64 x11_3 ∧ Aside0 (waymarklaw02_SpansCut_T.l1 kq a0 y657 a2 t663 x10_3 x11_3 = some r) ∧ Aside0 (kq ≤ kj12) ∧ Aside0 (Kd.R k31 31 w' w.heap.size (fun _ => True) v665 t663) ∧ Aside0 (Below w.heap.size w w'))
         case atStart => exact ⟨(0), (0), (by first | rfl | (simp; done) | (simp [*]; done)), (by first | rfl | (simp; done) | (simp [*]; done)), H', ⟨Nat.le_refl _⟩, ⟨by (with_reducible repeat (first | apply Kd.R_alloc | apply Kd.R_drewN | apply Kd.R_drew)); exact HO_8.out⟩, ⟨by repeat (first | (with_reducible first | exact HB.out | apply below_alloc | apply pw_below_drewN | apply below_drew1) | exact HB.out)⟩⟩
         case round =>
          clear H'
          try clear c1
          try clear c2
          try clear p2
          try clear c3
          try clear c4
          try clear c4b0
          try clear c4b1
          try clear c5
          try clear c5b0
          try clear c5b1
          try clear c6
          try clear p6
          try clear q6
          try clear hx6
          try clear qi6
          try clear c7
          try clear c7b0
          try clear c8
          try clear c8b0
          try clear c9
          try clear c9b0
          try clear c9b1
          try clear c10
          try clear c16
          try clear c17
          try clear c17b0
          try clear c17b1
          try clear c18
          try clear c18b0
          try clear c18b1
          try clear c18b2
          try clear c21
          try clear c21b0
          try clear c21b1
          try clear c22
          try clear c22b0
          try clear c22b1
          try clear c24
          try clear c24b0
          try clear c25
          try clear c25b0
          try clear c32
          try clear hx661_0
          try clear hx668_0
          try clear hx668_1
          try clear hx669_0
          try clear hx669_1
          try clear p2
          try clear p6
          try clear p661
          try clear p668
          try clear p669
          try clear q6
          try clear q661
          try clear q668
          try clear q669
          obtain ⟨x10_3, x11_3, rfl, rfl, HA, HK3, HO_8, HB⟩ := hrel
          cases gk with
          | zero => exact absurd HA.out (by simp [waymarklaw02_SpansCut_T.l1])
          | succ k3 =>
           have H := HA.out
           clear HA
           simp only [waymarklaw02_SpansCut_T.l1] at H
           by_cases c33 : x11_3 < (t663.length : Int)
           ·rw [if_pos c33] at H
            have c33b0 : decide (x11_3 < (t663.length : Int)) = true := decide_eq_true c33
            clear c33
            have HC34 := Aside0.mk H
            clear H
            obtain ⟨Ao35, co35, eo35⟩ := Kd.R_slice HO_8.out
            subst eo35
            go_upto_region 15 with (fail)
            repeat (go_quiet (fail); go_upto_region 15 with (fail))
            go_cut [104] (fun v104 wc => ∃ (kq : Nat) (x104_33 : Bool), v104 = .bool x104_33 ∧ Aside0 (waymarklaw02_SpansCut_T.j3 kq a0 y657 a2 t663 x10_3 x11_3 x104_33 = some r) ∧ Aside0 (kq ≤ k3) ∧ Aside0 (Kd.R k31 31 wc w.heap.size (fun _ => True) (.slice Ao35 t663.length co35) t663) ∧ Aside0 (Below w.heap.size w wc))
            case first =>
             have H := HC34.out
             clear HC34
             by_cases c36 : 0 ≤ x11_3
             ·rw [if_pos c36] at H
              have c36b0 : decide (0 ≤ x11_3) = true := decide_eq_true c36
              clear c36
              (first | rw [c36b0] | (simp only [i64_w, i32_w]; rw [c36b0]) | skip)
              by_cases c37 : ((rd_T31 t663 x11_3).f0) > ((rd_T31 t663 x11_3).f1)
              ·as_aux_lemma =>
               rw [if_pos c37] at H
               have c37b0 : decide (((rd_T31 t663 x11_3).f1) < ((rd_T31 t663 x11_3).f0)) = true := decide_eq_true c37
               clear c37
               have H' := Aside0.mk H
               clear H
               have p670 : 0 ≤ (x11_3 : Int) := of_decide_eq_true (by first | (with_reducible assumption) | assumption)
               have q670 : x11_3 < (t663.length : Int) := of_decide_eq_true (by first | (with_reducible assumption) | assumption)
               obtain ⟨ad670, e670, hx670_0, hx670_1⟩ := at_T31 (Kd.R_reads' HO_8.out).2.2 x11_3 p670 q670
               cases e670
               replace p670 := eq_true p670
               replace q670 := eq_true q670
               have p671 : 0 ≤ (x11_3 : Int) := of_decide_eq_true (by first | (with_reducible assumption) | assumption)
               have q671 : x11_3 < (t663.length : Int) := of_decide_eq_true (by first | (with_reducible assumption) | assumption)
               obtain ⟨ad671, e671, hx671_0, hx671_1⟩ := at_T31 (Kd.R_reads' HO_8.out).2.2 x11_3 p671 q671
               obtain rfl : ad670 = ad671 := (by injection e671)
               replace p671 := eq_true p671
               replace q671 := eq_true q671
               go_wp2
               repeat (go_quiet (fail); try go_wp2)
               go_meet
               case rel => exact ⟨_, (true), (by first | rfl | (simp; done) | (simp [*]; done)), H', ⟨by have := HK1.out; have := HJ12.out; have := HK3.out; first | omega | exact Nat.le_refl _⟩, ⟨by (with_reducible repeat (first | apply Kd.R_alloc | apply Kd.R_drewN | apply Kd.R_drew)); exact HO_8.out⟩, ⟨by repeat (first | (with_reducible first | exact HB.out | apply below_alloc | apply pw_below_drewN | apply below_drew1) | exact HB.out)⟩⟩
              ·rw [if_neg c37] at H
               have c37b0 : decide (((rd_T31 t663 x11_3).f1) < ((rd_T31 t663 x11_3).f0)) = false := decide_eq_false c37
               clear c37
               by_cases c38 : x11_3 > 0
               ·rw [if_pos c38] at H
                have c38b0 : decide (0 < x11_3) = true := decide_eq_true c38
                clear c38
                obtain ⟨ji39, hji39⟩ : ∃ j_ : Int, (wrap64 (x11_3 - 1)) = j_ := ⟨_, rfl⟩
                replace H : (if 0 ≤ (ji39) then (if (ji39) < (t663.length : Int) then (waymarklaw02_SpansCut_T.j3 k3 a0 y657 a2 t663 x10_3 x11_3 (((rd_T31 t663 x11_3).f0) != ((((rd_T31 t663 (ji39)).f1) + 1) % 4294967296))) else (none)) else (none)) = some r := by first | (rw [hji39] at H; exact H) | (simp only [hji39] at H ⊢; exact H)
                have hji39w : (IntKind.i64.wrap (x11_3 - 1)) = ji39 := (i64_w _).trans hji39
                by_cases c40 : 0 ≤ (ji39)
                ·rw [if_pos c40] at H
                 have c40b0 : decide (0 ≤ (ji39)) = true := decide_eq_true c40
                 clear c40
                 by_cases c41 : (ji39) < (t663.length : Int)
                 ·as_aux_lemma =>
                  rw [if_pos c41] at H
                  have c41b0 : decide ((ji39) < (t663.length : Int)) = true := decide_eq_true c41
                  clear c41
                  have H' := Aside0.mk H
                  clear H
                  have p670 : 0 ≤ (x11_3 : Int) := of_decide_eq_true (by first | (with_reducible assumption) | assumption)
                  have q670 : x11_3 < (t663.length : Int) := of_decide_eq_true (by first | (with_reducible assumption) | assumption)
                  obtain ⟨ad670, e670, hx670_0, hx670_1⟩ := at_T31 (Kd.R_reads' HO_8.out).2.2 x11_3 p670 q670
                  cases e670
                  replace p670 := eq_true p670
                  replace q670 := eq_true q670
                  have p671 : 0 ≤ (x11_3 : Int) := of_decide_eq_true (by first | (with_reducible assumption) | assumption)
                  have q671 : x11_3 < (t663.length : Int) := of_decide_eq_true (by first | (with_reducible assumption) | assumption)
                  obtain ⟨ad671, e671, hx671_0, hx671_1⟩ := at_T31 (Kd.R_reads' HO_8.out).2.2 x11_3 p671 q671
                  obtain rfl : ad670 = ad671 := (by injection e671)
                  replace p671 := eq_true p671
                  replace q671 := eq_true q671
                  have p672 : 0 ≤ (x11_3 : Int) := of_decide_eq_true (by first | (with_reducible assumption) | assumption)
                  have q672 : x11_3 < (t663.length : Int) := of_decide_eq_true (by first | (with_reducible assumption) | assumption)
                  obtain ⟨ad672, e672, hx672_0, hx672_1⟩ := at_T31 (Kd.R_reads' HO_8.out).2.2 x11_3 p672 q672
                  obtain rfl : ad670 = ad672 := (by injection e672)
                  replace p672 := eq_true p672
                  replace q672 := eq_true q672
                  have p673 : 0 ≤ ((ji39) : Int) := of_decide_eq_true (by first | (with_reducible assumption) | assumption)
                  have q673 : (ji39) < (t663.length : Int) := of_decide_eq_true (by first | (with_reducible assumption) | assumption)
                  obtain ⟨ad673, e673, hx673_0, hx673_1⟩ := at_T31 (Kd.R_reads' HO_8.out).2.2 (ji39) p673 q673
                  obtain rfl : ad670 = ad673 := (by injection e673)
                  replace p673 := eq_true p673
                  replace q673 := eq_true q673
                  go_wp2
                  repeat (go_quiet (fail); try go_wp2)
                  go_meet
                  case rel => exact ⟨_, ((((rd_T31 t663 x11_3).f0) != ((((rd_T31 t663 (ji39)).f1) + 1) % 4294967296))), (by first | rfl | (simp; done) | (simp only [← hji39] <;> (first | rfl | simp)) | (simp [*]; done)), H', ⟨by have := HK1.out; have := HJ12.out; have := HK3.out; first | omega | exact Nat.le_refl _⟩, ⟨by (with_reducible repeat (first | apply Kd.R_alloc | apply Kd.R_drewN | apply Kd.R_drew)); exact HO_8.out⟩, ⟨by repeat (first | (with_reducible first | exact HB.out | apply below_alloc | apply pw_below_drewN | apply below_drew1) | exact HB.out)⟩⟩
                 ·rw [if_neg c41] at H
                  exact absurd H (by simp)
                ·rw [if_neg c40] at H
                 exact absurd H (by simp)
               ·as_aux_lemma =>
                rw [if_neg c38] at H
                have c38b0 : decide (0 < x11_3) = false := decide_eq_false c38
                clear c38
                have H' := Aside0.mk H
                clear H
                have p670 : 0 ≤ (x11_3 : Int) := of_decide_eq_true (by first | (with_reducible assumption) | assumption)
                have q670 : x11_3 < (t663.length : Int) := of_decide_eq_true (by first | (with_reducible assumption) | assumption)
                obtain ⟨ad670, e670, hx670_0, hx670_1⟩ := at_T31 (Kd.R_reads' HO_8.out).2.2 x11_3 p670 q670
                cases e670
                replace p670 := eq_true p670
                replace q670 := eq_true q670
                have p671 : 0 ≤ (x11_3 : Int) := of_decide_eq_true (by first | (with_reducible assumption) | assumption)
                have q671 : x11_3 < (t663.length : Int) := of_decide_eq_true (by first | (with_reducible assumption) | assumption)
                obtain ⟨ad671, e671, hx671_0, hx671_1⟩ := at_T31 (Kd.R_reads' HO_8.out).2.2 x11_3 p671 q671
                obtain rfl : ad670 = ad671 := (by injection e671)
                replace p671 := eq_true p671
                replace q671 := eq_true q671
                go_wp2
                repeat (go_quiet (fail); try go_wp2)
                go_meet
                case rel => exact ⟨_, (false), (by first | rfl | (simp; done) | (simp [*]; done)), H', ⟨by have := HK1.out; have := HJ12.out; have := HK3.out; first | omega | exact Nat.le_refl _⟩, ⟨by (with_reducible repeat (first | apply Kd.R_alloc | apply Kd.R_drewN | apply Kd.R_drew)); exact HO_8.out⟩, ⟨by repeat (first | (with_reducible first | exact HB.out | apply below_alloc | apply pw_below_drewN | apply below_drew1) | exact HB.out)⟩⟩
             ·rw [if_neg c36] at H
              exact absurd H (by simp)
            case rest =>
             clear HC34
             try clear c1
             try clear c2
             try clear p2
             try clear c3
             try clear c4
             try clear c4b0
             try clear c4b1
             try clear c5
             try clear c5b0
             try clear c5b1
             try clear c6
             try clear p6
             try clear q6
             try clear hx6
             try clear qi6
             try clear c7
             try clear c7b0
             try clear c8
             try clear c8b0
             try clear c9
             try clear c9b0
             try clear c9b1
             try clear c10
             try clear c16
             try clear c17
             try clear c17b0
             try clear c17b1
             try clear c18
             try clear c18b0
             try clear c18b1
             try clear c18b2
             try clear c21
             try clear c21b0
             try clear c21b1
             try clear c22
             try clear c22b0
             try clear c22b1
             try clear c24
             try clear c24b0
             try clear c25
             try clear c25b0
             try clear c32
             try clear c33
             try clear c33b0
             try clear c36
             try clear c36b0
             try clear c37
             try clear c37b0
             try clear c38
             try clear c38b0
             try clear c40
             try clear c40b0
             try clear c41
             try clear c41b0
             try clear hx661_0
             try clear hx668_0
             try clear hx668_1
             try clear hx669_0
             try clear hx669_1
             try clear hx670_0
             try clear hx670_1
             try clear hx671_0
             try clear hx671_1
             try clear hx672_0
             try clear hx672_1
             try clear hx673_0
             try clear hx673_1
             try clear p2
             try clear p6
             try clear p661
             try clear p668
             try clear p669
             try clear p670
             try clear p671
             try clear p672
             try clear p673
             try clear q6
             try clear q661
             try clear q668
             try clear q669
             try clear q670
             try clear q671
             try clear q672
             try clear q673
             obtain ⟨kq, x104_33, rfl, HA, HJ33, HO_8, HB⟩ := hcut
             cases kq with
             | zero => exact absurd HA.out (by simp [waymarklaw02_SpansCut_T.j3])
             | succ kj33 =>
              have H := HA.out
              clear HA
              simp only [waymarklaw02_SpansCut_T.j3] at H
              by_cases c42 : x104_33 = true
              ·subst c42
               have H1 : (none) = some r := by rw [if_pos rfl] at H; exact H
               clear H
               have H := H1
               clear H1
               exact absurd H (by simp)
              ·replace c42 := Bool.eq_false_iff.mpr c42
               subst c42
               have H1 : (if 0 ≤ x11_3 then (if x11_3 < (t663.length : Int) then (if (IntKind.u64.wrap ((IntKind.u64.wrap ((IntKind.u64.wrap ((rd_T31 t663 x11_3).f1)) - (IntKind.u64.wrap ((rd_T31 t663 x11_3).f0)))) + 1)) = 0 then (none) else (waymarklaw02_SpansCut_T.l2 kj33 a0 y657 a2 t663 (IntKind.u64.wrap ((IntKind.u64.wrap ((IntKind.u64.wrap (x10_3 + (IntKind.u64.wrap ((rd_T31 t663 x11_3).f1)))) - (IntKind.u64.wrap ((rd_T31 t663 x11_3).f0)))) + 1)) x11_3 ((((rd_T31 t663 x11_3).f0) + ((Int.tmod (IntKind.u64.wrap (a2)) (IntKind.u64.wrap ((IntKind.u64.wrap ((IntKind.u64.wrap ((rd_T31 t663 x11_3).f1)) - (IntKind.u64.wrap ((rd_T31 t663 x11_3).f0)))) + 1))) % 4294967296)) % 4294967296) (x11_3 == 0) 0)) else (none)) else (none)) = some r := by rw [if_neg (show ¬ (false = true) by decide)] at H; exact H
               clear H
               have H := H1
               clear H1
               by_cases c43 : 0 ≤ x11_3
               ·rw [if_pos c43] at H
                have c43b0 : decide (0 ≤ x11_3) = true := decide_eq_true c43
                clear c43
                by_cases c44 : x11_3 < (t663.length : Int)
                ·rw [if_pos c44] at H
                 have c44b0 : decide (x11_3 < (t663.length : Int)) = true := decide_eq_true c44
                 clear c44
                 by_cases c45 : (IntKind.u64.wrap ((IntKind.u64.wrap ((IntKind.u64.wrap ((rd_T31 t663 x11_3).f1)) - (IntKind.u64.wrap ((rd_T31 t663 x11_3).f0)))) + 1)) = 0
                 ·rw [if_pos c45] at H
                  exact absurd H (by simp)
                 ·rw [if_neg c45] at H
                  have c45b0 : ((IntKind.u64.wrap ((IntKind.u64.wrap ((IntKind.u64.wrap ((rd_T31 t663 x11_3).f1)) - (IntKind.u64.wrap ((rd_T31 t663 x11_3).f0)))) + 1)) == 0) = false := beq_eq_false_iff_ne.mpr c45
                  have c45b1 : ((IntKind.u64.wrap ((IntKind.u64.wrap ((IntKind.u64.wrap ((rd_T31 t663 x11_3).f1)) - (IntKind.u64.wrap ((rd_T31 t663 x11_3).f0)))) + 1)) != 0) = true := bne_iff_ne.mpr c45
                  have H' := Aside0.mk H
                  clear H
                  have p674 : 0 ≤ (x11_3 : Int) := of_decide_eq_true (by first | (with_reducible assumption) | assumption)
                  have q674 : x11_3 < (t663.length : Int) := of_decide_eq_true (by first | (with_reducible assumption) | assumption)
                  obtain ⟨ad674, e674, hx674_0, hx674_1⟩ := at_T31 (Kd.R_reads' HO_8.out).2.2 x11_3 p674 q674
                  cases e674
                  replace p674 := eq_true p674
                  replace q674 := eq_true q674
                  have p675 : 0 ≤ (x11_3 : Int) := of_decide_eq_true (by first | (with_reducible assumption) | assumption)
                  have q675 : x11_3 < (t663.length : Int) := of_decide_eq_true (by first | (with_reducible assumption) | assumption)
                  obtain ⟨ad675, e675, hx675_0, hx675_1⟩ := at_T31 (Kd.R_reads' HO_8.out).2.2 x11_3 p675 q675
                  obtain rfl : ad674 = ad675 := (by injection e675)
                  replace p675 := eq_true p675
                  replace q675 := eq_true q675
                  have p676 : 0 ≤ (x11_3 : Int) := of_decide_eq_true (by first | (with_reducible assumption) | assumption)
                  have q676 : x11_3 < (t663.length : Int) := of_decide_eq_true (by first | (with_reducible assumption) | assumption)
                  obtain ⟨ad676, e676, hx676_0, hx676_1⟩ := at_T31 (Kd.R_reads' HO_8.out).2.2 x11_3 p676 q676
                  obtain rfl : ad674 = ad676 := (by injection e676)
                  replace p676 := eq_true p676
                  replace q676 := eq_true q676
                  have p677 : 0 ≤ (x11_3 : Int) := of_decide_eq_true (by first | (with_reducible assumption) | assumption)
                  have q677 : x11_3 < (t663.length : Int) := of_decide_eq_true (by first | (with_reducible assumption) | assumption)
                  obtain ⟨ad677, e677, hx677_0, hx677_1⟩ := at_T31 (Kd.R_reads' HO_8.out).2.2 x11_3 p677 q677
                  obtain rfl : ad674 = ad677 := (by injection e677)
                  replace p677 := eq_true p677
                  replace q677 := eq_true q677
                  have p678 : 0 ≤ (x11_3 : Int) := of_decide_eq_true (by first | (with_reducible assumption) | assumption)
                  have q678 : x11_3 < (t663.length : Int) := of_decide_eq_true (by first | (with_reducible assumption) | assumption)
                  obtain ⟨ad678, e678, hx678_0, hx678_1⟩ := at_T31 (Kd.R_reads' HO_8.out).2.2 x11_3 p678 q678
                  obtain rfl : ad674 = ad678 := (by injection e678)
                  replace p678 := eq_true p678
                  replace q678 := eq_true q678
                  go_wp2
                  repeat (go_quiet (fail); try go_wp2)
                  try simp only [← u32x40]
                  go_loopg [13, 14] kj33 (fun kq v13 v14 w' => ∃ (x13_5 : Bool) (x14_5 : Int), v13 = .bool x13_5 ∧ v14 = .int .i64 x14_5 ∧ Aside0 (waymarklaw02_SpansCut_T.l2 kq a0 y657 a2 t663 (IntKind.u64.wrap ((IntKind.u64.wrap ((IntKind.u64.wrap (x10_3 + (IntKind.u64.wrap ((rd_T31 t663 x11_3).f1)))) - (IntKind.u64.wrap ((rd_T31 t663 x11_3).f0)))) + 1)) x11_3 ((((rd_T31 t663 x11_3).f0) + ((Int.tmod (IntKind.u64.wrap (a2)) (IntKind.u64.wrap ((IntKind.u64.wrap ((IntKind.u64.wrap ((rd_T31 t663 x11_3).f1)) - (IntKind.u64.wrap ((rd_T31 t663 x11_3).f0)))) + 1))) % 4294967296)) % 4294967296) x13_5 x14_5 = some r) ∧ Aside0 (kq ≤ kj33) ∧ Aside0 (Kd.R k31 31 w' w.heap.size (fun _ => True) (.slice (some ad674) t663.length co35) t663) ∧ Aside0 (Below w.heap.size w w'))
                  case atStart => exact ⟨((x11_3 == 0)), (0), (by first | rfl | (simp; done) | (simp [*]; done)), (by first | rfl | (simp; done) | (simp [*]; done)), H', ⟨Nat.le_refl _⟩, ⟨by (with_reducible repeat (first | apply Kd.R_alloc | apply Kd.R_drewN | apply Kd.R_drew)); exact HO_8.out⟩, ⟨by repeat (first | (with_reducible first | exact HB.out | apply below_alloc | apply pw_below_drewN | apply below_drew1) | exact HB.out)⟩⟩
                  case round =>
                   clear H'
                   try clear c1
                   try clear c2
                   try clear p2
                   try clear c3
                   try clear c4
                   try clear c4b0
                   try clear c4b1
                   try clear c5
                   try clear c5b0
                   try clear c5b1
                   try clear c6
                   try clear p6
                   try clear q6
                   try clear hx6
                   try clear qi6
                   try clear c7
                   try clear c7b0
                   try clear c8
                   try clear c8b0
                   try clear c9
                   try clear c9b0
                   try clear c9b1
                   try clear c10
                   try clear c16
                   try clear c17
                   try clear c17b0
                   try clear c17b1
                   try clear c18
                   try clear c18b0
                   try clear c18b1
                   try clear c18b2
                   try clear c21
                   try clear c21b0
                   try clear c21b1
                   try clear c22
                   try clear c22b0
                   try clear c22b1
                   try clear c24
                   try clear c24b0
                   try clear c25
                   try clear c25b0
                   try clear c32
                   try clear c33
                   try clear c33b0
                   try clear c36
                   try clear c36b0
                   try clear c37
                   try clear c37b0
                   try clear c38
                   try clear c38b0
                   try clear c40
                   try clear c40b0
                   try clear c41
                   try clear c41b0
                   try clear c42
                   try clear c43
                   try clear c43b0
                   try clear c44
                   try clear c44b0
                   try clear c45
                   try clear c45b0
                   try clear c45b1
                   try clear hx661_0
                   try clear hx668_0
                   try clear hx668_1
                   try clear hx669_0
                   try clear hx669_1
                   try clear hx670_0
                   try clear hx670_1
                   try clear hx671_0
                   try clear hx671_1
                   try clear hx672_0
                   try clear hx672_1
                   try clear hx673_0
                   try clear hx673_1
                   try clear hx674_0
                   try clear hx674_1
                   try clear hx675_0
                   try clear hx675_1
                   try clear hx676_0
                   try clear hx676_1
                   try clear hx677_0
                   try clear hx677_1
                   try clear hx678_0
                   try clear hx678_1
                   try clear p2
                   try clear p6
                   try clear p661
                   try clear p668
                   try clear p669
                   try clear p670
                   try clear p671
                   try clear p672
                   try clear p673
                   try clear p674
                   try clear p675
                   try clear p676
                   try clear p677
                   try clear p678
                   try clear q6
                   try clear q661
                   try clear q668
                   try clear q669
                   try clear q670
                   try clear q671
                   try clear q672
                   try clear q673
                   try clear q674
                   try clear q675
                   try clear q676
                   try clear q677
                   try clear q678
                   obtain ⟨x13_5, x14_5, rfl, rfl, HA, HK5, HO_8, HB⟩ := hrel
                   cases gk with
                   | zero => exact absurd HA.out (by simp [waymarklaw02_SpansCut_T.l2])
                   | succ k5 =>
                    have H := HA.out
                    clear HA
                    simp only [waymarklaw02_SpansCut_T.l2] at H
                    by_cases c46 : x14_5 < (y657.length : Int)
                    ·rw [if_pos c46] at H
                     have c46b0 : decide (x14_5 < (y657.length : Int)) = true := decide_eq_true c46
                     clear c46
                     by_cases c47 : 0 ≤ x14_5
                     ·rw [if_pos c47] at H
                      have c47b0 : decide (0 ≤ x14_5) = true := decide_eq_true c47
                      clear c47
                      by_cases c48 : 0 ≤ x11_3
                      ·rw [if_pos c48] at H
                       have c48b0 : decide (0 ≤ x11_3) = true := decide_eq_true c48
                       clear c48
                       by_cases c49 : x11_3 < (t663.length : Int)
                       ·rw [if_pos c49] at H
                        have c49b0 : decide (x11_3 < (t663.length : Int)) = true := decide_eq_true c49
                        clear c49
                        replace H := Option.bind_eq_some_iff.mp H
                        obtain ⟨t681, A500, H⟩ := H
                        replace H : ((waymarkref02_Has.f k5 (rd_L12 y657 x14_5) ((rd_T31 t663 x11_3).f1)).bind fun t684 => (if (t681 != t684) = true then (none) else ((waymarkref02_Has.f k5 (rd_L12 y657 x14_5) ((((rd_T31 t663 x11_3).f0) + ((Int.tmod (IntKind.u64.wrap (a2)) (IntKind.u64.wrap ((IntKind.u64.wrap ((IntKind.u64.wrap ((rd_T31 t663 x11_3).f1)) - (IntKind.u64.wrap ((rd_T31 t663 x11_3).f0)))) + 1))) % 4294967296)) % 4294967296)).bind fun t686 => (if (t681 != t686) = true then (none) else (if x13_5 = true then (waymarklaw02_SpansCut_T.l2 k5 a0 y657 a2 t663 (IntKind.u64.wrap ((IntKind.u64.wrap ((IntKind.u64.wrap (x10_3 + (IntKind.u64.wrap ((rd_T31 t663 x11_3).f1)))) - (IntKind.u64.wrap ((rd_T31 t663 x11_3).f0)))) + 1)) x11_3 ((((rd_T31 t663 x11_3).f0) + ((Int.tmod (IntKind.u64.wrap (a2)) (IntKind.u64.wrap ((IntKind.u64.wrap ((IntKind.u64.wrap ((rd_T31 t663 x11_3).f1)) - (IntKind.u64.wrap ((rd_T31 t663 x11_3).f0)))) + 1))) % 4294967296)) % 4294967296) true (wrap64 (x14_5 + 1))) else ((waymarkref02_Has.f k5 (rd_L12 y657 x14_5) ((((rd_T31 t663 x11_3).f0) - 1) % 4294967296)).bind fun t689 => (waymarklaw02_SpansCut_T.l2 k5 a0 y657 a2 t663 (IntKind.u64.wrap ((IntKind.u64.wrap ((IntKind.u64.wrap (x10_3 + (IntKind.u64.wrap ((rd_T31 t663 x11_3).f1)))) - (IntKind.u64.wrap ((rd_T31 t663 x11_3).f0)))) + 1)) x11_3 ((((rd_T31 t663 x11_3).f0) + ((Int.tmod (IntKind.u64.wrap (a2)) (IntKind.u64.wrap ((IntKind.u64.wrap ((IntKind.u64.wrap ((rd_T31 t663 x11_3).f1)) - (IntKind.u64.wrap ((rd_T31 t663 x11_3).f0)))) + 1))) % 4294967296)) % 4294967296) (t681 != t689) (wrap64 (x14_5 + 1))))))))) = some r := H
                        have A50 := Aside0.mk A500
                        clear A500
                        replace H := Option.bind_eq_some_iff.mp H
                        obtain ⟨t684, A510, H⟩ := H
                        replace H : (if (t681 != t684) = true then (none) else ((waymarkref02_Has.f k5 (rd_L12 y657 x14_5) ((((rd_T31 t663 x11_3).f0) + ((Int.tmod (IntKind.u64.wrap (a2)) (IntKind.u64.wrap ((IntKind.u64.wrap ((IntKind.u64.wrap ((rd_T31 t663 x11_3).f1)) - (IntKind.u64.wrap ((rd_T31 t663 x11_3).f0)))) + 1))) % 4294967296)) % 4294967296)).bind fun t686 => (if (t681 != t686) = true then (none) else (if x13_5 = true then (waymarklaw02_SpansCut_T.l2 k5 a0 y657 a2 t663 (IntKind.u64.wrap ((IntKind.u64.wrap ((IntKind.u64.wrap (x10_3 + (IntKind.u64.wrap ((rd_T31 t663 x11_3).f1)))) - (IntKind.u64.wrap ((rd_T31 t663 x11_3).f0)))) + 1)) x11_3 ((((rd_T31 t663 x11_3).f0) + ((Int.tmod (IntKind.u64.wrap (a2)) (IntKind.u64.wrap ((IntKind.u64.wrap ((IntKind.u64.wrap ((rd_T31 t663 x11_3).f1)) - (IntKind.u64.wrap ((rd_T31 t663 x11_3).f0)))) + 1))) % 4294967296)) % 4294967296) true (wrap64 (x14_5 + 1))) else ((waymarkref02_Has.f k5 (rd_L12 y657 x14_5) ((((rd_T31 t663 x11_3).f0) - 1) % 4294967296)).bind fun t689 => (waymarklaw02_SpansCut_T.l2 k5 a0 y657 a2 t663 (IntKind.u64.wrap ((IntKind.u64.wrap ((IntKind.u64.wrap (x10_3 + (IntKind.u64.wrap ((rd_T31 t663 x11_3).f1)))) - (IntKind.u64.wrap ((rd_T31 t663 x11_3).f0)))) + 1)) x11_3 ((((rd_T31 t663 x11_3).f0) + ((Int.tmod (IntKind.u64.wrap (a2)) (IntKind.u64.wrap ((IntKind.u64.wrap ((IntKind.u64.wrap ((rd_T31 t663 x11_3).f1)) - (IntKind.u64.wrap ((rd_T31 t663 x11_3).f0)))) + 1))) % 4294967296)) % 4294967296) (t681 != t689) (wrap64 (x14_5 + 1)))))))) = some r := H
                        have A51 := Aside0.mk A510
                        clear A510
                        by_cases c52 : (t681 != t684) = true
                        ·rw [if_pos c52] at H
                         exact absurd H (by simp)
                        ·rw [if_neg c52] at H
                         have c52b0 : (t681 != t684) = false := by simpa using c52
                         (try (have c52b1 : decide (t681 = t684) = true := by simpa using c52))
                         (try (have c52b2 : (t681 == t684) = true := by simpa using c52))
                         clear c52
                         replace H := Option.bind_eq_some_iff.mp H
                         obtain ⟨t686, A530, H⟩ := H
                         replace H : (if (t681 != t686) = true then (none) else (if x13_5 = true then (waymarklaw02_SpansCut_T.l2 k5 a0 y657 a2 t663 (IntKind.u64.wrap ((IntKind.u64.wrap ((IntKind.u64.wrap (x10_3 + (IntKind.u64.wrap ((rd_T31 t663 x11_3).f1)))) - (IntKind.u64.wrap ((rd_T31 t663 x11_3).f0)))) + 1)) x11_3 ((((rd_T31 t663 x11_3).f0) + ((Int.tmod (IntKind.u64.wrap (a2)) (IntKind.u64.wrap ((IntKind.u64.wrap ((IntKind.u64.wrap ((rd_T31 t663 x11_3).f1)) - (IntKind.u64.wrap ((rd_T31 t663 x11_3).f0)))) + 1))) % 4294967296)) % 4294967296) true (wrap64 (x14_5 + 1))) else ((waymarkref02_Has.f k5 (rd_L12 y657 x14_5) ((((rd_T31 t663 x11_3).f0) - 1) % 4294967296)).bind fun t689 => (waymarklaw02_SpansCut_T.l2 k5 a0 y657 a2 t663 (IntKind.u64.wrap ((IntKind.u64.wrap ((IntKind.u64.wrap (x10_3 + (IntKind.u64.wrap ((rd_T31 t663 x11_3).f1)))) - (IntKind.u64.wrap ((rd_T31 t663 x11_3).f0)))) + 1)) x11_3 ((((rd_T31 t663 x11_3).f0) + ((Int.tmod (IntKind.u64.wrap (a2)) (IntKind.u64.wrap ((IntKind.u64.wrap ((IntKind.u64.wrap ((rd_T31 t663 x11_3).f1)) - (IntKind.u64.wrap ((rd_T31 t663 x11_3).f0)))) + 1))) % 4294967296)) % 4294967296) (t681 != t689) (wrap64 (x14_5 + 1)))))) = some r := H
                         have A53 := Aside0.mk A530
                         clear A530
                         by_cases c54 : (t681 != t686) = true
                         ·rw [if_pos c54] at H
                          exact absurd H (by simp)
                         ·rw [if_neg c54] at H
                          have c54b0 : (t681 != t686) = false := by simpa using c54
                          (try (have c54b1 : decide (t681 = t686) = true := by simpa using c54))
                          (try (have c54b2 : (t681 == t686) = true := by simpa using c54))
                          clear c54
                          by_cases c55 : x13_5 = true
                          ·as_aux_lemma =>
                           subst c55
                           have H1 : (waymarklaw02_SpansCut_T.l2 k5 a0 y657 a2 t663 (IntKind.u64.wrap ((IntKind.u64.wrap ((IntKind.u64.wrap (x10_3 + (IntKind.u64.wrap ((rd_T31 t663 x11_3).f1)))) - (IntKind.u64.wrap ((rd_T31 t663 x11_3).f0)))) + 1)) x11_3 ((((rd_T31 t663 x11_3).f0) + ((Int.tmod (IntKind.u64.wrap (a2)) (IntKind.u64.wrap ((IntKind.u64.wrap ((IntKind.u64.wrap ((rd_T31 t663 x11_3).f1)) - (IntKind.u64.wrap ((rd_T31 t663 x11_3).f0)))) + 1))) % 4294967296)) % 4294967296) true (wrap64 (x14_5 + 1))) = some r := by rw [if_pos rfl] at H; exact H
                           clear H
                           have H := H1
                           clear H1
                           have H' := Aside0.mk H
                           clear H
                           have p679 : 0 ≤ (x14_5 : Int) := of_decide_eq_true (by first | (with_reducible assumption) | assumption)
                           have q679 : x14_5 < (y657.length : Int) := of_decide_eq_true (by first | (with_reducible assumption) | assumption)
                           obtain ⟨ad679, A679_0, c679_0, e679, hx679_0, hl679_0, hi679_0⟩ := at_L12 HR660.out x14_5 p679 q679
                           cases e679
                           replace hx679_0 := pw_cell_below HB.out hx679_0
                           have HR679_0 := Aside0.mk hi679_0
                           have HC679_0 := Aside0.mk hl679_0
                           clear hi679_0 hl679_0
                           replace p679 := eq_true p679
                           replace q679 := eq_true q679
                           have p680 : 0 ≤ (x11_3 : Int) := of_decide_eq_true (by first | (with_reducible assumption) | assumption)
                           have q680 : x11_3 < (t663.length : Int) := of_decide_eq_true (by first | (with_reducible assumption) | assumption)
                           obtain ⟨ad680, e680, hx680_0, hx680_1⟩ := at_T31 (Kd.R_reads' HO_8.out).2.2 x11_3 p680 q680
                           obtain rfl : ad674 = ad680 := (by injection e680)
                           replace p680 := eq_true p680
                           replace q680 := eq_true q680
                           go_wp2_with (first | (go_at_call 53; (with_reducible refine (waymarkref02_Has.calls k5 _ _ (rd_L12 y657 x14_5) ((rd_T31 t663 x11_3).f0) t681 _ ?side1 ?side2 A50.out).mono ?_); (case side1 => repeat (first | exact (Kd.C_below HR679_0.out HB.out) | (with_reducible refine Kd.C_alloc ?_ _) | (with_reducible refine Kd.C_drewN ?_ _) | (with_reducible refine Kd.C_drew ?_))); (case side2 => exact HC679_0.out); rintro e w' ⟨rfl, ⟨nd, rfl⟩⟩; (try first | exact ⟨rfl, _, World.drewN_drewN _ _ _⟩ | exact ⟨rfl, _, Eq.trans (World.drewN_drewN _ _ _) (congrArg (World.drewN _) (Nat.add_assoc _ _ _))⟩); have p682 : 0 ≤ (x14_5 : Int) := of_decide_eq_true (by first | (with_reducible assumption) | assumption); have q682 : x14_5 < (y657.length : Int) := of_decide_eq_true (by first | (with_reducible assumption) | assumption); obtain ⟨ad682, A682_0, c682_0, e682, hx682_0, hl682_0, hi682_0⟩ := at_L12 HR660.out x14_5 p682 q682; obtain rfl : ad679 = ad682 := (by injection e682); replace hx682_0 := pw_cell_below HB.out hx682_0; have HR682_0 := Aside0.mk hi682_0; have HC682_0 := Aside0.mk hl682_0; clear hi682_0 hl682_0; replace p682 := eq_true p682; replace q682 := eq_true q682; have ea_ := Option.some.inj (hx679_0.symm.trans hx682_0); injection ea_ with ea_ en_ ec_; subst ea_; subst ec_; clear en_; have p683 : 0 ≤ (x11_3 : Int) := of_decide_eq_true (by first | (with_reducible assumption) | assumption); have q683 : x11_3 < (t663.length : Int) := of_decide_eq_true (by first | (with_reducible assumption) | assumption); obtain ⟨ad683, e683, hx683_0, hx683_1⟩ := at_T31 (Kd.R_reads' HO_8.out).2.2 x11_3 p683 q683; obtain rfl : ad674 = ad683 := (by injection e683); replace p683 := eq_true p683; replace q683 := eq_true q683) | (go_at_call 53; (with_reducible refine (waymarkref02_Has.calls k5 _ _ (rd_L12 y657 x14_5) ((rd_T31 t663 x11_3).f1) t684 _ ?side1 ?side2 A51.out).mono ?_); (case side1 => repeat (first | exact (Kd.C_below HR682_0.out (by repeat (first | (with_reducible first | exact HB.out | apply below_alloc | apply pw_below_drewN | apply below_drew1) | exact HB.out))) | (with_reducible refine Kd.C_alloc ?_ _) | (with_reducible refine Kd.C_drewN ?_ _) | (with_reducible refine Kd.C_drew ?_))); (case side2 => exact HC682_0.out); rintro e w' ⟨rfl, ⟨nd, rfl⟩⟩; (try first | exact ⟨rfl, _, World.drewN_drewN _ _ _⟩ | exact ⟨rfl, _, Eq.trans (World.drewN_drewN _ _ _) (congrArg (World.drewN _) (Nat.add_assoc _ _ _))⟩); have p685 : 0 ≤ (x14_5 : Int) := of_decide_eq_true (by first | (with_reducible assumption) | assumption); have q685 : x14_5 < (y657.length : Int) := of_decide_eq_true (by first | (with_reducible assumption) | assumption); obtain ⟨ad685, A685_0, c685_0, e685, hx685_0, hl685_0, hi685_0⟩ := at_L12 HR660.out x14_5 p685 q685; obtain rfl : ad679 = ad685 := (by injection e685); replace hx685_0 := pw_cell_below HB.out hx685_0; have HR685_0 := Aside0.mk hi685_0; have HC685_0 := Aside0.mk hl685_0; clear hi685_0 hl685_0; replace p685 := eq_true p685; replace q685 := eq_true q685; have ea_ := Option.some.inj (hx679_0.symm.trans hx685_0); injection ea_ with ea_ en_ ec_; subst ea_; subst ec_; clear en_) | (go_at_call 53; (with_reducible refine (waymarkref02_Has.calls k5 _ _ (rd_L12 y657 x14_5) ((((rd_T31 t663 x11_3).f0) + (Int.tmod (IntKind.u64.wrap (a2)) (IntKind.u64.wrap ((IntKind.u64.wrap ((IntKind.u64.wrap ((rd_T31 t663 x11_3).f1)) - (IntKind.u64.wrap ((rd_T31 t663 x11_3).f0)))) + 1)))) % 4294967296) t686 _ ?side1 ?side2 (by rw [u32x40]; exact A53.out)).mono ?_); (case side1 => repeat (first | exact (Kd.C_below HR685_0.out (by repeat (first | (with_reducible first | exact HB.out | apply below_alloc | apply pw_below_drewN | apply below_drew1) | exact HB.out))) | (with_reducible refine Kd.C_alloc ?_ _) | (with_reducible refine Kd.C_drewN ?_ _) | (with_reducible refine Kd.C_drew ?_))); (case side2 => exact HC685_0.out); rintro e w' ⟨rfl, ⟨nd, rfl⟩⟩; (try first | exact ⟨rfl, _, World.drewN_drewN _ _ _⟩ | exact ⟨rfl, _, Eq.trans (World.drewN_drewN _ _ _) (congrArg (World.drewN _) (Nat.add_assoc _ _ _))⟩)))
                           repeat (go_quiet (first | (go_at_call 53; (with_reducible refine (waymarkref02_Has.calls k5 _ _ (rd_L12 y657 x14_5) ((rd_T31 t663 x11_3).f0) t681 _ ?side1 ?side2 A50.out).mono ?_); (case side1 => repeat (first | exact (Kd.C_below HR679_0.out HB.out) | (with_reducible refine Kd.C_alloc ?_ _) | (with_reducible refine Kd.C_drewN ?_ _) | (with_reducible refine Kd.C_drew ?_))); (case side2 => exact HC679_0.out); rintro e w' ⟨rfl, ⟨nd, rfl⟩⟩; (try first | exact ⟨rfl, _, World.drewN_drewN _ _ _⟩ | exact ⟨rfl, _, Eq.trans (World.drewN_drewN _ _ _) (congrArg (World.drewN _) (Nat.add_assoc _ _ _))⟩); have p682 : 0 ≤ (x14_5 : Int) := of_decide_eq_true (by first | (with_reducible assumption) | assumption); have q682 : x14_5 < (y657.length : Int) := of_decide_eq_true (by first | (with_reducible assumption) | assumption); obtain ⟨ad682, A682_0, c682_0, e682, hx682_0, hl682_0, hi682_0⟩ := at_L12 HR660.out x14_5 p682 q682; obtain rfl : ad679 = ad682 := (by injection e682); replace hx682_0 := pw_cell_below HB.out hx682_0; have HR682_0 := Aside0.mk hi682_0; have HC682_0 := Aside0.mk hl682_0; clear hi682_0 hl682_0; replace p682 := eq_true p682; replace q682 := eq_true q682; have ea_ := Option.some.inj (hx679_0.symm.trans hx682_0); injection ea_ with ea_ en_ ec_; subst ea_; subst ec_; clear en_; have p683 : 0 ≤ (x11_3 : Int) := of_decide_eq_true (by first | (with_reducible assumption) | assumption); have q683 : x11_3 < (t663.length : Int) := of_decide_eq_true (by first | (with_reducible assumption) | assumption); obtain ⟨ad683, e683, hx683_0, hx683_1⟩ := at_T31 (Kd.R_reads' HO_8.out).2.2 x11_3 p683 q683; obtain rfl : ad674 = ad683 := (by injection e683); replace p683 := eq_true p683; replace q683 := eq_true q683) | (go_at_call 53; (with_reducible refine (waymarkref02_Has.calls k5 _ _ (rd_L12 y657 x14_5) ((rd_T31 t663 x11_3).f1) t684 _ ?side1 ?side2 A51.out).mono ?_); (case side1 => repeat (first | exact (Kd.C_below HR682_0.out (by repeat (first | (with_reducible first | exact HB.out | apply below_alloc | apply pw_below_drewN | apply below_drew1) | exact HB.out))) | (with_reducible refine Kd.C_alloc ?_ _) | (with_reducible refine Kd.C_drewN ?_ _) | (with_reducible refine Kd.C_drew ?_))); (case side2 => exact HC682_0.out); rintro e w' ⟨rfl, ⟨nd, rfl⟩⟩; (try first | exact ⟨rfl, _, World.drewN_drewN _ _ _⟩ | exact ⟨rfl, _, Eq.trans (World.drewN_drewN _ _ _) (congrArg (World.drewN _) (Nat.add_assoc _ _ _))⟩); have p685 : 0 ≤ (x14_5 : Int) := of_decide_eq_true (by first | (with_reducible assumption) | assumption); have q685 : x14_5 < (y657.length : Int) := of_decide_eq_true (by first | (with_reducible assumption) | assumption); obtain ⟨ad685, A685_0, c685_0, e685, hx685_0, hl685_0, hi685_0⟩ := at_L12 HR660.out x14_5 p685 q685; obtain rfl : ad679 = ad685 := (by injection e685); replace hx685_0 := pw_cell_below HB.out hx685_0; have HR685_0 := Aside0.mk hi685_0; have HC685_0 := Aside0.mk hl685_0; clear hi685_0 hl685_0; replace p685 := eq_true p685; replace q685 := eq_true q685; have ea_ := Option.some.inj (hx679_0.symm.trans hx685_0); injection ea_ with ea_ en_ ec_; subst ea_; subst ec_; clear en_) | (go_at_call 53; (with_reducible refine (waymarkref02_Has.calls k5 _ _ (rd_L12 y657 x14_5) ((((rd_T31 t663 x11_3).f0) + (Int.tmod (IntKind.u64.wrap (a2)) (IntKind.u64.wrap ((IntKind.u64.wrap ((IntKind.u64.wrap ((rd_T31 t663 x11_3).f1)) - (IntKind.u64.wrap ((rd_T31 t663 x11_3).f0)))) + 1)))) % 4294967296) t686 _ ?side1 ?side2 (by rw [u32x40]; exact A53.out)).mono ?_); (case side1 => repeat (first | exact (Kd.C_below HR685_0.out (by repeat (first | (with_reducible first | exact HB.out | apply below_alloc | apply pw_below_drewN | apply below_drew1) | exact HB.out))) | (with_reducible refine Kd.C_alloc ?_ _) | (with_reducible refine Kd.C_drewN ?_ _) | (with_reducible refine Kd.C_drew ?_))); (case side2 => exact HC685_0.out); rintro e w' ⟨rfl, ⟨nd, rfl⟩⟩; (try first | exact ⟨rfl, _, World.drewN_drewN _ _ _⟩ | exact ⟨rfl, _, Eq.trans (World.drewN_drewN _ _ _) (congrArg (World.drewN _) (Nat.add_assoc _ _ _))⟩))); try go_wp2_with (first | (go_at_call 53; (with_reducible refine (waymarkref02_Has.calls k5 _ _ (rd_L12 y657 x14_5) ((rd_T31 t663 x11_3).f0) t681 _ ?side1 ?side2 A50.out).mono ?_); (case side1 => repeat (first | exact (Kd.C_below HR679_0.out HB.out) | (with_reducible refine Kd.C_alloc ?_ _) | (with_reducible refine Kd.C_drewN ?_ _) | (with_reducible refine Kd.C_drew ?_))); (case side2 => exact HC679_0.out); rintro e w' ⟨rfl, ⟨nd, rfl⟩⟩; (try first | exact ⟨rfl, _, World.drewN_drewN _ _ _⟩ | exact ⟨rfl, _, Eq.trans (World.drewN_drewN _ _ _) (congrArg (World.drewN _) (Nat.add_assoc _ _ _))⟩); have p682 : 0 ≤ (x14_5 : Int) := of_decide_eq_true (by first | (with_reducible assumption) | assumption); have q682 : x14_5 < (y657.length : Int) := of_decide_eq_true (by first | (with_reducible assumption) | assumption); obtain ⟨ad682, A682_0, c682_0, e682, hx682_0, hl682_0, hi682_0⟩ := at_L12 HR660.out x14_5 p682 q682; obtain rfl : ad679 = ad682 := (by injection e682); replace hx682_0 := pw_cell_below HB.out hx682_0; have HR682_0 := Aside0.mk hi682_0; have HC682_0 := Aside0.mk hl682_0; clear hi682_0 hl682_0; replace p682 := eq_true p682; replace q682 := eq_true q682; have ea_ := Option.some.inj (hx679_0.symm.trans hx682_0); injection ea_ with ea_ en_ ec_; subst ea_; subst ec_; clear en_; have p683 : 0 ≤ (x11_3 : Int) := of_decide_eq_true (by first | (with_reducible assumption) | assumption); have q683 : x11_3 < (t663.length : Int) := of_decide_eq_true (by first | (with_reducible assumption) | assumption); obtain ⟨ad683, e683, hx683_0, hx683_1⟩ := at_T31 (Kd.R_reads' HO_8.out).2.2 x11_3 p683 q683; obtain rfl : ad674 = ad683 := (by injection e683); replace p683 := eq_true p683; replace q683 := eq_true q683) | (go_at_call 53; (with_reducible refine (waymarkref02_Has.calls k5 _ _ (rd_L12 y657 x14_5) ((rd_T31 t663 x11_3).f1) t684 _ ?side1 ?side2 A51.out).mono ?_); (case side1 => repeat (first | exact (Kd.C_below HR682_0.out (by repeat (first | (with_reducible first | exact HB.out | apply below_alloc | apply pw_below_drewN | apply below_drew1) | exact HB.out))) | (with_reducible refine Kd.C_alloc ?_ _) | (with_reducible refine Kd.C_drewN ?_ _) | (with_reducible refine Kd.C_drew ?_))); (case side2 => exact HC682_0.out); rintro e w' ⟨rfl, ⟨nd, rfl⟩⟩; (try first | exact ⟨rfl, _, World.drewN_drewN _ _ _⟩ | exact ⟨rfl, _, Eq.trans (World.drewN_drewN _ _ _) (congrArg (World.drewN _) (Nat.add_assoc _ _ _))⟩); have p685 : 0 ≤ (x14_5 : Int) := of_decide_eq_true (by first | (with_reducible assumption) | assumption); have q685 : x14_5 < (y657.length : Int) := of_decide_eq_true (by first | (with_reducible assumption) | assumption); obtain ⟨ad685, A685_0, c685_0, e685, hx685_0, hl685_0, hi685_0⟩ := at_L12 HR660.out x14_5 p685 q685; obtain rfl : ad679 = ad685 := (by injection e685); replace hx685_0 := pw_cell_below HB.out hx685_0; have HR685_0 := Aside0.mk hi685_0; have HC685_0 := Aside0.mk hl685_0; clear hi685_0 hl685_0; replace p685 := eq_true p685; replace q685 := eq_true q685; have ea_ := Option.some.inj (hx679_0.symm.trans hx685_0); injection ea_ with ea_ en_ ec_; subst ea_; subst ec_; clear en_) | (go_at_call 53; (with_reducible refine (waymarkref02_Has.calls k5 _ _ (rd_L12 y657 x14_5) ((((rd_T31 t663 x11_3).f0) + (Int.tmod (IntKind.u64.wrap (a2)) (IntKind.u64.wrap ((IntKind.u64.wrap ((IntKind.u64.wrap ((rd_T31 t663 x11_3).f1)) - (IntKind.u64.wrap ((rd_T31 t663 x11_3).f0)))) + 1)))) % 4294967296) t686 _ ?side1 ?side2 (by rw [u32x40]; exact A53.out)).mono ?_); (case side1 => repeat (first | exact (Kd.C_below HR685_0.out (by repeat (first | (with_reducible first | exact HB.out | apply below_alloc | apply pw_below_drewN | apply below_drew1) | exact HB.out))) | (with_reducible refine Kd.C_alloc ?_ _) | (with_reducible refine Kd.C_drewN ?_ _) | (with_reducible refine Kd.C_drew ?_))); (case side2 => exact HC685_0.out); rintro e w' ⟨rfl, ⟨nd, rfl⟩⟩; (try first | exact ⟨rfl, _, World.drewN_drewN _ _ _⟩ | exact ⟨rfl, _, Eq.trans (World.drewN_drewN _ _ _) (congrArg (World.drewN _) (Nat.add_assoc _ _ _))⟩))))
                           go_roundg k5
                           case measure => have := HK1.out; have := HJ12.out; have := HK3.out; have := HJ33.out; have := HK5.out; omega
                           case rel => exact ⟨(true), (wrap64 (x14_5 + 1)), (by first | rfl | (simp; done) | (simp [*]; done)), (by first | rfl | (simp; done) | (simp [*]; done)), H', ⟨by have := HK1.out; have := HJ12.out; have := HK3.out; have := HJ33.out; have := HK5.out; omega⟩, ⟨by (with_reducible repeat (first | apply Kd.R_alloc | apply Kd.R_drewN | apply Kd.R_drew)); exact HO_8.out⟩, ⟨by repeat (first | (with_reducible first | exact HB.out | apply below_alloc | apply pw_below_drewN | apply below_drew1) | exact HB.out)⟩⟩
                          ·as_aux_lemma =>
                           replace c55 := Bool.eq_false_iff.mpr c55
                           subst c55
                           have H1 : ((waymarkref02_Has.f k5 (rd_L12 y657 x14_5) ((((rd_T31 t663 x11_3).f0) - 1) % 4294967296)).bind fun t689 => (waymarklaw02_SpansCut_T.l2 k5 a0 y657 a2 t663 (IntKind.u64.wrap ((IntKind.u64.wrap ((IntKind.u64.wrap (x10_3 + (IntKind.u64.wrap ((rd_T31 t663 x11_3).f1)))) - (IntKind.u64.wrap ((rd_T31 t663 x11_3).f0)))) + 1)) x11_3 ((((rd_T31 t663 x11_3).f0) + ((Int.tmod (IntKind.u64.wrap (a2)) (IntKind.u64.wrap ((IntKind.u64.wrap ((IntKind.u64.wrap ((rd_T31 t663 x11_3).f1)) - (IntKind.u64.wrap ((rd_T31 t663 x11_3).f0)))) + 1))) % 4294967296)) % 4294967296) (t681 != t689) (wrap64 (x14_5 + 1)))) = some r := by rw [if_neg (show ¬ (false = true) by decide)] at H; exact H
                           clear H
                           have H := H1
                           clear H1
                           replace H := Option.bind_eq_some_iff.mp H
                           obtain ⟨t689, A560, H⟩ := H
                           replace H : (waymarklaw02_SpansCut_T.l2 k5 a0 y657 a2 t663 (IntKind.u64.wrap ((IntKind.u64.wrap ((IntKind.u64.wrap (x10_3 + (IntKind.u64.wrap ((rd_T31 t663 x11_3).f1)))) - (IntKind.u64.wrap ((rd_T31 t663 x11_3).f0)))) + 1)) x11_3 ((((rd_T31 t663 x11_3).f0) + ((Int.tmod (IntKind.u64.wrap (a2)) (IntKind.u64.wrap ((IntKind.u64.wrap ((IntKind.u64.wrap ((rd_T31 t663 x11_3).f1)) - (IntKind.u64.wrap ((rd_T31 t663 x11_3).f0)))) + 1))) % 4294967296)) % 4294967296) (t681 != t689) (wrap64 (x14_5 + 1))) = some r := H
                           have A56 := Aside0.mk A560
                           clear A560
                           have H' := Aside0.mk H
                           clear H
                           have p679 : 0 ≤ (x14_5 : Int) := of_decide_eq_true (by first | (with_reducible assumption) | assumption)
                           have q679 : x14_5 < (y657.length : Int) := of_decide_eq_true (by first | (with_reducible assumption) | assumption)
                           obtain ⟨ad679, A679_0, c679_0, e679, hx679_0, hl679_0, hi679_0⟩ := at_L12 HR660.out x14_5 p679 q679
                           cases e679
                           replace hx679_0 := pw_cell_below HB.out hx679_0
                           have HR679_0 := Aside0.mk hi679_0
                           have HC679_0 := Aside0.mk hl679_0
                           clear hi679_0 hl679_0
                           replace p679 := eq_true p679
                           replace q679 := eq_true q679
                           have p680 : 0 ≤ (x11_3 : Int) := of_decide_eq_true (by first | (with_reducible assumption) | assumption)
                           have q680 : x11_3 < (t663.length : Int) := of_decide_eq_true (by first | (with_reducible assumption) | assumption)
                           obtain ⟨ad680, e680, hx680_0, hx680_1⟩ := at_T31 (Kd.R_reads' HO_8.out).2.2 x11_3 p680 q680
                           obtain rfl : ad674 = ad680 := (by injection e680)
                           replace p680 := eq_true p680
                           replace q680 := eq_true q680
                           go_wp2_with (first | (go_at_call 53; (with_reducible refine (waymarkref02_Has.calls k5 _ _ (rd_L12 y657 x14_5) ((rd_T31 t663 x11_3).f0) t681 _ ?side1 ?side2 A50.out).mono ?_); (case side1 => repeat (first | exact (Kd.C_below HR679_0.out HB.out) | (with_reducible refine Kd.C_alloc ?_ _) | (with_reducible refine Kd.C_drewN ?_ _) | (with_reducible refine Kd.C_drew ?_))); (case side2 => exact HC679_0.out); rintro e w' ⟨rfl, ⟨nd, rfl⟩⟩; (try first | exact ⟨rfl, _, World.drewN_drewN _ _ _⟩ | exact ⟨rfl, _, Eq.trans (World.drewN_drewN _ _ _) (congrArg (World.drewN _) (Nat.add_assoc _ _ _))⟩); have p682 : 0 ≤ (x14_5 : Int) := of_decide_eq_true (by first | (with_reducible assumption) | assumption); have q682 : x14_5 < (y657.length : Int) := of_decide_eq_true (by first | (with_reducible assumption) | assumption); obtain ⟨ad682, A682_0, c682_0, e682, hx682_0, hl682_0, hi682_0⟩ := at_L12 HR660.out x14_5 p682 q682; obtain rfl : ad679 = ad682 := (by injection e682); replace hx682_0 := pw_cell_below HB.out hx682_0; have HR682_0 := Aside0.mk hi682_0; have HC682_0 := Aside0.mk hl682_0; clear hi682_0 hl682_0; replace p682 := eq_true p682; replace q682 := eq_true q682; have ea_ := Option.some.inj (hx679_0.symm.trans hx682_0); injection ea_ with ea_ en_ ec_; subst ea_; subst ec_; clear en_; have p683 : 0 ≤ (x11_3 : Int) := of_decide_eq_true (by first | (with_reducible assumption) | assumption); have q683 : x11_3 < (t663.length : Int) := of_decide_eq_true (by first | (with_reducible assumption) | assumption); obtain ⟨ad683, e683, hx683_0, hx683_1⟩ := at_T31 (Kd.R_reads' HO_8.out).2.2 x11_3 p683 q683; obtain rfl : ad674 = ad683 := (by injection e683); replace p683 := eq_true p683; replace q683 := eq_true q683) | (go_at_call 53; (with_reducible refine (waymarkref02_Has.calls k5 _ _ (rd_L12 y657 x14_5) ((rd_T31 t663 x11_3).f1) t684 _ ?side1 ?side2 A51.out).mono ?_); (case side1 => repeat (first | exact (Kd.C_below HR682_0.out (by repeat (first | (with_reducible first | exact HB.out | apply below_alloc | apply pw_below_drewN | apply below_drew1) | exact HB.out))) | (with_reducible refine Kd.C_alloc ?_ _) | (with_reducible refine Kd.C_drewN ?_ _) | (with_reducible refine Kd.C_drew ?_))); (case side2 => exact HC682_0.out); rintro e w' ⟨rfl, ⟨nd, rfl⟩⟩; (try first | exact ⟨rfl, _, World.drewN_drewN _ _ _⟩ | exact ⟨rfl, _, Eq.trans (World.drewN_drewN _ _ _) (congrArg (World.drewN _) (Nat.add_assoc _ _ _))⟩); have p685 : 0 ≤ (x14_5 : Int) := of_decide_eq_true (by first | (with_reducible assumption) | assumption); have q685 : x14_5 < (y657.length : Int) := of_decide_eq_true (by first | (with_reducible assumption) | assumption); obtain ⟨ad685, A685_0, c685_0, e685, hx685_0, hl685_0, hi685_0⟩ := at_L12 HR660.out x14_5 p685 q685; obtain rfl : ad679 = ad685 := (by injection e685); replace hx685_0 := pw_cell_below HB.out hx685_0; have HR685_0 := Aside0.mk hi685_0; have HC685_0 := Aside0.mk hl685_0; clear hi685_0 hl685_0; replace p685 := eq_true p685; replace q685 := eq_true q685; have ea_ := Option.some.inj (hx679_0.symm.trans hx685_0); injection ea_ with ea_ en_ ec_; subst ea_; subst ec_; clear en_) | (go_at_call 53; (with_reducible refine (waymarkref02_Has.calls k5 _ _ (rd_L12 y657 x14_5) ((((rd_T31 t663 x11_3).f0) + (Int.tmod (IntKind.u64.wrap (a2)) (IntKind.u64.wrap ((IntKind.u64.wrap ((IntKind.u64.wrap ((rd_T31 t663 x11_3).f1)) - (IntKind.u64.wrap ((rd_T31 t663 x11_3).f0)))) + 1)))) % 4294967296) t686 _ ?side1 ?side2 (by rw [u32x40]; exact A53.out)).mono ?_); (case side1 => repeat (first | exact (Kd.C_below HR685_0.out (by repeat (first | (with_reducible first | exact HB.out | apply below_alloc | apply pw_below_drewN | apply below_drew1) | exact HB.out))) | (with_reducible refine Kd.C_alloc ?_ _) | (with_reducible refine Kd.C_drewN ?_ _) | (with_reducible refine Kd.C_drew ?_))); (case side2 => exact HC685_0.out); rintro e w' ⟨rfl, ⟨nd, rfl⟩⟩; (try first | exact ⟨rfl, _, World.drewN_drewN _ _ _⟩ | exact ⟨rfl, _, Eq.trans (World.drewN_drewN _ _ _) (congrArg (World.drewN _) (Nat.add_assoc _ _ _))⟩); have p687 : 0 ≤ (x14_5 : Int) := of_decide_eq_true (by first | (with_reducible assumption) | assumption); have q687 : x14_5 < (y657.length : Int) := of_decide_eq_true (by first | (with_reducible assumption) | assumption); obtain ⟨ad687, A687_0, c687_0, e687, hx687_0, hl687_0, hi687_0⟩ := at_L12 HR660.out x14_5 p687 q687; obtain rfl : ad679 = ad687 := (by injection e687); replace hx687_0 := pw_cell_below HB.out hx687_0; have HR687_0 := Aside0.mk hi687_0; have HC687_0 := Aside0.mk hl687_0; clear hi687_0 hl687_0; replace p687 := eq_true p687; replace q687 := eq_true q687; have ea_ := Option.some.inj (hx679_0.symm.trans hx687_0); injection ea_ with ea_ en_ ec_; subst ea_; subst ec_; clear en_; have p688 : 0 ≤ (x11_3 : Int) := of_decide_eq_true (by first | (with_reducible assumption) | assumption); have q688 : x11_3 < (t663.length : Int) := of_decide_eq_true (by first | (with_reducible assumption) | assumption); obtain ⟨ad688, e688, hx688_0, hx688_1⟩ := at_T31 (Kd.R_reads' HO_8.out).2.2 x11_3 p688 q688; obtain rfl : ad674 = ad688 := (by injection e688); replace p688 := eq_true p688; replace q688 := eq_true q688) | (go_at_call 53; (with_reducible refine (waymarkref02_Has.calls k5 _ _ (rd_L12 y657 x14_5) (IntKind.u32.wrap (((rd_T31 t663 x11_3).f0) - 1)) t689 _ ?side1 ?side2 (by rw [u32w40]; exact A56.out)).mono ?_); (case side1 => repeat (first | exact (Kd.C_below HR687_0.out (by repeat (first | (with_reducible first | exact HB.out | apply below_alloc | apply pw_below_drewN | apply below_drew1) | exact HB.out))) | (with_reducible refine Kd.C_alloc ?_ _) | (with_reducible refine Kd.C_drewN ?_ _) | (with_reducible refine Kd.C_drew ?_))); (case side2 => exact HC687_0.out); rintro e w' ⟨rfl, ⟨nd, rfl⟩⟩; (try first | exact ⟨rfl, _, World.drewN_drewN _ _ _⟩ | exact ⟨rfl, _, Eq.trans (World.drewN_drewN _ _ _) (congrArg (World.drewN _) (Nat.add_assoc _ _ _))⟩)))
                           repeat (go_quiet (first | (go_at_call 53; (with_reducible refine (waymarkref02_Has.calls k5 _ _ (rd_L12 y657 x14_5) ((rd_T31 t663 x11_3).f0) t681 _ ?side1 ?side2 A50.out).mono ?_); (case side1 => repeat (first | exact (Kd.C_below HR679_0.out HB.out) | (with_reducible refine Kd.C_alloc ?_ _) | (with_reducible refine Kd.C_drewN ?_ _) | (with_reducible refine Kd.C_drew ?_))); (case side2 => exact HC679_0.out); rintro e w' ⟨rfl, ⟨nd, rfl⟩⟩; (try first | exact ⟨rfl, _, World.drewN_drewN _ _ _⟩ | exact ⟨rfl, _, Eq.trans (World.drewN_drewN _ _ _) (congrArg (World.drewN _) (Nat.add_assoc _ _ _))⟩); have p682 : 0 ≤ (x14_5 : Int) := of_decide_eq_true (by first | (with_reducible assumption) | assumption); have q682 : x14_5 < (y657.length : Int) := of_decide_eq_true (by first | (with_reducible assumption) | assumption); obtain ⟨ad682, A682_0, c682_0, e682, hx682_0, hl682_0, hi682_0⟩ := at_L12 HR660.out x14_5 p682 q682; obtain rfl : ad679 = ad682 := (by injection e682); replace hx682_0 := pw_cell_below HB.out hx682_0; have HR682_0 := Aside0.mk hi682_0; have HC682_0 := Aside0.mk hl682_0; clear hi682_0 hl682_0; replace p682 := eq_true p682; replace q682 := eq_true q682; have ea_ := Option.some.inj (hx679_0.symm.trans hx682_0); injection ea_ with ea_ en_ ec_; subst ea_; subst ec_; clear en_; have p683 : 0 ≤ (x11_3 : Int) := of_decide_eq_true (by first | (with_reducible assumption) | assumption); have q683 : x11_3 < (t663.length : Int) := of_decide_eq_true (by first | (with_reducible assumption) | assumption); obtain ⟨ad683, e683, hx683_0, hx683_1⟩ := at_T31 (Kd.R_reads' HO_8.out).2.2 x11_3 p683 q683; obtain rfl : ad674 = ad683 := (by injection e683); replace p683 := eq_true p683; replace q683 := eq_true q683) | (go_at_call 53; (with_reducible refine (waymarkref02_Has.calls k5 _ _ (rd_L12 y657 x14_5) ((rd_T31 t663 x11_3).f1) t684 _ ?side1 ?side2 A51.out).mono ?_); (case side1 => repeat (first | exact (Kd.C_below HR682_0.out (by repeat (first | (with_reducible first | exact HB.out | apply below_alloc | apply pw_below_drewN | apply below_drew1) | exact HB.out))) | (with_reducible refine Kd.C_alloc ?_ _) | (with_reducible refine Kd.C_drewN ?_ _) | (with_reducible refine Kd.C_drew ?_))); (case side2 => exact HC682_0.out); rintro e w' ⟨rfl, ⟨nd, rfl⟩⟩; (try first | exact ⟨rfl, _, World.drewN_drewN _ _ _⟩ | exact ⟨rfl, _, Eq.trans (World.drewN_drewN _ _ _) (congrArg (World.drewN _) (Nat.add_assoc _ _ _))⟩); have p685 : 0 ≤ (x14_5 : Int) := of_decide_eq_true (by first | (with_reducible assumption) | assumption); have q685 : x14_5 < (y657.length : Int) := of_decide_eq_true (by first | (with_reducible assumption) | assumption); obtain ⟨ad685, A685_0, c685_0, e685, hx685_0, hl685_0, hi685_0⟩ := at_L12 HR660.out x14_5 p685 q685; obtain rfl : ad679 = ad685 := (by injection e685); replace hx685_0 := pw_cell_below HB.out hx685_0; have HR685_0 := Aside0.mk hi685_0; have HC685_0 := Aside0.mk hl685_0; clear hi685_0 hl685_0; replace p685 := eq_true p685; replace q685 := eq_true q685; have ea_ := Option.some.inj (hx679_0.symm.trans hx685_0); injection ea_ with ea_ en_ ec_; subst ea_; subst ec_; clear en_) | (go_at_call 53; (with_reducible refine (waymarkref02_Has.calls k5 _ _ (rd_L12 y657 x14_5) ((((rd_T31 t663 x11_3).f0) + (Int.tmod (IntKind.u64.wrap (a2)) (IntKind.u64.wrap ((IntKind.u64.wrap ((IntKind.u64.wrap ((rd_T31 t663 x11_3).f1)) - (IntKind.u64.wrap ((rd_T31 t663 x11_3).f0)))) + 1)))) % 4294967296) t686 _ ?side1 ?side2 (by rw [u32x40]; exact A53.out)).mono ?_); (case side1 => repeat (first | exact (Kd.C_below HR685_0.out (by repeat (first | (with_reducible first | exact HB.out | apply below_alloc | apply pw_below_drewN | apply below_drew1) | exact HB.out))) | (with_reducible refine Kd.C_alloc ?_ _) | (with_reducible refine Kd.C_drewN ?_ _) | (with_reducible refine Kd.C_drew ?_))); (case side2 => exact HC685_0.out); rintro e w' ⟨rfl, ⟨nd, rfl⟩⟩; (try first | exact ⟨rfl, _, World.drewN_drewN _ _ _⟩ | exact ⟨rfl, _, Eq.trans (World.drewN_drewN _ _ _) (congrArg (World.drewN _) (Nat.add_assoc _ _ _))⟩); have p687 : 0 ≤ (x14_5 : Int) := of_decide_eq_true (by first | (with_reducible assumption) | assumption); have q687 : x14_5 < (y657.length : Int) := of_decide_eq_true (by first | (with_reducible assumption) | assumption); obtain ⟨ad687, A687_0, c687_0, e687, hx687_0, hl687_0, hi687_0⟩ := at_L12 HR660.out x14_5 p687 q687; obtain rfl : ad679 = ad687 := (by injection e687); replace hx687_0 := pw_cell_below HB.out hx687_0; have HR687_0 := Aside0.mk hi687_0; have HC687_0 := Aside0.mk hl687_0; clear hi687_0 hl687_0; replace p687 := eq_true p687; replace q687 := eq_true q687; have ea_ := Option.some.inj (hx679_0.symm.trans hx687_0); injection ea_ with ea_ en_ ec_; subst ea_; subst ec_; clear en_; have p688 : 0 ≤ (x11_3 : Int) := of_decide_eq_true (by first | (with_reducible assumption) | assumption); have q688 : x11_3 < (t663.length : Int) := of_decide_eq_true (by first | (with_reducible assumption) | assumption); obtain ⟨ad688, e688, hx688_0, hx688_1⟩ := at_T31 (Kd.R_reads' HO_8.out).2.2 x11_3 p688 q688; obtain rfl : ad674 = ad688 := (by injection e688); replace p688 := eq_true p688; replace q688 := eq_true q688) | (go_at_call 53; (with_reducible refine (waymarkref02_Has.calls k5 _ _ (rd_L12 y657 x14_5) (IntKind.u32.wrap (((rd_T31 t663 x11_3).f0) - 1)) t689 _ ?side1 ?side2 (by rw [u32w40]; exact A56.out)).mono ?_); (case side1 => repeat (first | exact (Kd.C_below HR687_0.out (by repeat (first | (with_reducible first | exact HB.out | apply below_alloc | apply pw_below_drewN | apply below_drew1) | exact HB.out))) | (with_reducible refine Kd.C_alloc ?_ _) | (with_reducible refine Kd.C_drewN ?_ _) | (with_reducible refine Kd.C_drew ?_))); (case side2 => exact HC687_0.out); rintro e w' ⟨rfl, ⟨nd, rfl⟩⟩; (try first | exact ⟨rfl, _, World.drewN_drewN _ _ _⟩ | exact ⟨rfl, _, Eq.trans (World.drewN_drewN _ _ _) (congrArg (World.drewN _) (Nat.add_assoc _ _ _))⟩))); try go_wp2_with (first | (go_at_call 53; (with_reducible refine (waymarkref02_Has.calls k5 _ _ (rd_L12 y657 x14_5) ((rd_T31 t663 x11_3).f0) t681 _ ?side1 ?side2 A50.out).mono ?_); (case side1 => repeat (first | exact (Kd.C_below HR679_0.out HB.out) | (with_reducible refine Kd.C_alloc ?_ _) | (with_reducible refine Kd.C_drewN ?_ _) | (with_reducible refine Kd.C_drew ?_))); (case side2 => exact HC679_0.out); rintro e w' ⟨rfl, ⟨nd, rfl⟩⟩; (try first | exact ⟨rfl, _, World.drewN_drewN _ _ _⟩ | exact ⟨rfl, _, Eq.trans (World.drewN_drewN _ _ _) (congrArg (World.drewN _) (Nat.add_assoc _ _ _))⟩); have p682 : 0 ≤ (x14_5 : Int) := of_decide_eq_true (by first | (with_reducible assumption) | assumption); have q682 : x14_5 < (y657.length : Int) := of_decide_eq_true (by first | (with_reducible assumption) | assumption); obtain ⟨ad682, A682_0, c682_0, e682, hx682_0, hl682_0, hi682_0⟩ := at_L12 HR660.out x14_5 p682 q682; obtain rfl : ad679 = ad682 := (by injection e682); replace hx682_0 := pw_cell_below HB.out hx682_0; have HR682_0 := Aside0.mk hi682_0; have HC682_0 := Aside0.mk hl682_0; clear hi682_0 hl682_0; replace p682 := eq_true p682; replace q682 := eq_true q682; have ea_ := Option.some.inj (hx679_0.symm.trans hx682_0); injection ea_ with ea_ en_ ec_; subst ea_; subst ec_; clear en_; have p683 : 0 ≤ (x11_3 : Int) := of_decide_eq_true (by first | (with_reducible assumption) | assumption); have q683 : x11_3 < (t663.length : Int) := of_decide_eq_true (by first | (with_reducible assumption) | assumption); obtain ⟨ad683, e683, hx683_0, hx683_1⟩ := at_T31 (Kd.R_reads' HO_8.out).2.2 x11_3 p683 q683; obtain rfl : ad674 = ad683 := (by injection e683); replace p683 := eq_true p683; replace q683 := eq_true q683) | (go_at_call 53; (with_reducible refine (waymarkref02_Has.calls k5 _ _ (rd_L12 y657 x14_5) ((rd_T31 t663 x11_3).f1) t684 _ ?side1 ?side2 A51.out).mono ?_); (case side1 => repeat (first | exact (Kd.C_below HR682_0.out (by repeat (first | (with_reducible first | exact HB.out | apply below_alloc | apply pw_below_drewN | apply below_drew1) | exact HB.out))) | (with_reducible refine Kd.C_alloc ?_ _) | (with_reducible refine Kd.C_drewN ?_ _) | (with_reducible refine Kd.C_drew ?_))); (case side2 => exact HC682_0.out); rintro e w' ⟨rfl, ⟨nd, rfl⟩⟩; (try first | exact ⟨rfl, _, World.drewN_drewN _ _ _⟩ | exact ⟨rfl, _, Eq.trans (World.drewN_drewN _ _ _) (congrArg (World.drewN _) (Nat.add_assoc _ _ _))⟩); have p685 : 0 ≤ (x14_5 : Int) := of_decide_eq_true (by first | (with_reducible assumption) | assumption); have q685 : x14_5 < (y657.length : Int) := of_decide_eq_true (by first | (with_reducible assumption) | assumption); obtain ⟨ad685, A685_0, c685_0, e685, hx685_0, hl685_0, hi685_0⟩ := at_L12 HR660.out x14_5 p685 q685; obtain rfl : ad679 = ad685 := (by injection e685); replace hx685_0 := pw_cell_below HB.out hx685_0; have HR685_0 := Aside0.mk hi685_0; have HC685_0 := Aside0.mk hl685_0; clear hi685_0 hl685_0; replace p685 := eq_true p685; replace q685 := eq_true q685; have ea_ := Option.some.inj (hx679_0.symm.trans hx685_0); injection ea_ with ea_ en_ ec_; subst ea_; subst ec_; clear en_) | (go_at_call 53; (with_reducible refine (waymarkref02_Has.calls k5 _ _ (rd_L12 y657 x14_5) ((((rd_T31 t663 x11_3).f0) + (Int.tmod (IntKind.u64.wrap (a2)) (IntKind.u64.wrap ((IntKind.u64.wrap ((IntKind.u64.wrap ((rd_T31 t663 x11_3).f1)) - (IntKind.u64.wrap ((rd_T31 t663 x11_3).f0)))) + 1)))) % 4294967296) t686 _ ?side1 ?side2 (by rw [u32x40]; exact A53.out)).mono ?_); (case side1 => repeat (first | exact (Kd.C_below HR685_0.out (by repeat (first | (with_reducible first | exact HB.out | apply below_alloc | apply pw_below_drewN | apply below_drew1) | exact HB.out))) | (with_reducible refine Kd.C_alloc ?_ _) | (with_reducible refine Kd.C_drewN ?_ _) | (with_reducible refine Kd.C_drew ?_))); (case side2 => exact HC685_0.out); rintro e w' ⟨rfl, ⟨nd, rfl⟩⟩; (try first | exact ⟨rfl, _, World.drewN_drewN _ _ _⟩ | exact ⟨rfl, _, Eq.trans (World.drewN_drewN _ _ _) (congrArg (World.drewN _) (Nat.add_assoc _ _ _))⟩); have p687 : 0 ≤ (x14_5 : Int) := of_decide_eq_true (by first | (with_reducible assumption) | assumption); have q687 : x14_5 < (y657.length : Int) := of_decide_eq_true (by first | (with_reducible assumption) | assumption); obtain ⟨ad687, A687_0, c687_0, e687, hx687_0, hl687_0, hi687_0⟩ := at_L12 HR660.out x14_5 p687 q687; obtain rfl : ad679 = ad687 := (by injection e687); replace hx687_0 := pw_cell_below HB.out hx687_0; have HR687_0 := Aside0.mk hi687_0; have HC687_0 := Aside0.mk hl687_0; clear hi687_0 hl687_0; replace p687 := eq_true p687; replace q687 := eq_true q687; have ea_ := Option.some.inj (hx679_0.symm.trans hx687_0); injection ea_ with ea_ en_ ec_; subst ea_; subst ec_; clear en_; have p688 : 0 ≤ (x11_3 : Int) := of_decide_eq_true (by first | (with_reducible assumption) | assumption); have q688 : x11_3 < (t663.length : Int) := of_decide_eq_true (by first | (with_reducible assumption) | assumption); obtain ⟨ad688, e688, hx688_0, hx688_1⟩ := at_T31 (Kd.R_reads' HO_8.out).2.2 x11_3 p688 q688; obtain rfl : ad674 = ad688 := (by injection e688); replace p688 := eq_true p688; replace q688 := eq_true q688) | (go_at_call 53; (with_reducible refine (waymarkref02_Has.calls k5 _ _ (rd_L12 y657 x14_5) (IntKind.u32.wrap (((rd_T31 t663 x11_3).f0) - 1)) t689 _ ?side1 ?side2 (by rw [u32w40]; exact A56.out)).mono ?_); (case side1 => repeat (first | exact (Kd.C_below HR687_0.out (by repeat (first | (with_reducible first | exact HB.out | apply below_alloc | apply pw_below_drewN | apply below_drew1) | exact HB.out))) | (with_reducible refine Kd.C_alloc ?_ _) | (with_reducible refine Kd.C_drewN ?_ _) | (with_reducible refine Kd.C_drew ?_))); (case side2 => exact HC687_0.out); rintro e w' ⟨rfl, ⟨nd, rfl⟩⟩; (try first | exact ⟨rfl, _, World.drewN_drewN _ _ _⟩ | exact ⟨rfl, _, Eq.trans (World.drewN_drewN _ _ _) (congrArg (World.drewN _) (Nat.add_assoc _ _ _))⟩))))
                           go_roundg k5
                           case measure => have := HK1.out; have := HJ12.out; have := HK3.out; have := HJ33.out; have := HK5.out; omega
                           case rel => exact ⟨((t681 != t689)), (wrap64 (x14_5 + 1)), (by first | rfl | (simp; done) | (simp [*]; done)), (by first | rfl | (simp; done) | (simp [*]; done)), H', ⟨by have := HK1.out; have := HJ12.out; have := HK3.out; have := HJ33.out; have := HK5.out; omega⟩, ⟨by (with_reducible repeat (first | apply Kd.R_alloc | apply Kd.R_drewN | apply Kd.R_drew)); exact HO_8.out⟩, ⟨by repeat (first | (with_reducible first | exact HB.out | apply below_alloc | apply pw_below_drewN | apply below_drew1) | exact HB.out)⟩⟩
                       ·rw [if_neg c49] at H
                        exact absurd H (by simp)
                      ·rw [if_neg c48] at H
                       exact absurd H (by simp)
                     ·rw [if_neg c47] at H
                      exact absurd H (by simp)
                    ·rw [if_neg c46] at H
                     have c46b0 : decide (x14_5 < (y657.length : Int)) = false := decide_eq_false c46
                     clear c46
                     by_cases c57 : x13_5 = true
                     ·as_aux_lemma =>
                      subst c57
                      have H1 : (waymarklaw02_SpansCut_T.l1 k5 a0 y657 a2 t663 (IntKind.u64.wrap ((IntKind.u64.wrap ((IntKind.u64.wrap (x10_3 + (IntKind.u64.wrap ((rd_T31 t663 x11_3).f1)))) - (IntKind.u64.wrap ((rd_T31 t663 x11_3).f0)))) + 1)) (wrap64 (x11_3 + 1))) = some r := by rw [if_pos rfl] at H; exact H
                      clear H
                      have H := H1
                      clear H1
                      have H' := Aside0.mk H
                      clear H
                      go_wp2
                      repeat (go_quiet (fail); try go_wp2)
                      go_roundg k5
                      case measure => have := HK1.out; have := HJ12.out; have := HK3.out; have := HJ33.out; have := HK5.out; omega
                      case rel => exact ⟨((IntKind.u64.wrap ((IntKind.u64.wrap ((IntKind.u64.wrap (x10_3 + (IntKind.u64.wrap ((rd_T31 t663 x11_3).f1)))) - (IntKind.u64.wrap ((rd_T31 t663 x11_3).f0)))) + 1))), (wrap64 (x11_3 + 1)), (by first | rfl | (simp; done) | (simp [*]; done)), (by first | rfl | (simp; done) | (simp [*]; done)), H', ⟨by have := HK1.out; have := HJ12.out; have := HK3.out; have := HJ33.out; have := HK5.out; omega⟩, ⟨by (with_reducible repeat (first | apply Kd.R_alloc | apply Kd.R_drewN | apply Kd.R_drew)); exact HO_8.out⟩, ⟨by repeat (first | (with_reducible first | exact HB.out | apply below_alloc | apply pw_below_drewN | apply below_drew1) | exact HB.out)⟩⟩
                     ·replace c57 := Bool.eq_false_iff.mpr c57
                      subst c57
                      have H1 : (none) = some r := by rw [if_neg (show ¬ (false = true) by decide)] at H; exact H
                      clear H
                      have H := H1
                      clear H1
                      exact absurd H (by simp)
                ·rw [if_neg c44] at H
                 exact absurd H (by simp)
               ·rw [if_neg c43] at H
                exact absurd H (by simp)
           ·as_aux_lemma =>
            rw [if_neg c33] at H
            have c33b0 : decide (x11_3 < (t663.length : Int)) = false := decide_eq_false c33
            clear c33
            obtain rfl := Option.some.inj H
            obtain ⟨Ao58, co58, eo58⟩ := Kd.R_slice HO_8.out
            subst eo58
            go_wp2
            repeat (go_quiet (fail); try go_wp2)
            go_ret
            exact ⟨by first | rfl | (simp [errW_none, errW_some] <;> rfl) | (simp [*, errW_none, errW_some] <;> rfl), by repeat (first | (with_reducible first | exact HB.out | apply below_alloc | apply pw_below_drewN | apply below_drew1) | exact HB.out)⟩
  ·rw [if_neg c5] at H
   exact absurd H (by simp)
 ·rw [if_neg c4] at H
  exact absurd H (by simp)

end Go.Proofs.Ytmoagoopdfpcnaa.Q
