-- Written by a program of this session (wip/myprint) out of the translation, for this claim.
-- narrow
import Derived.Test.YtmoagoopdfpcnaaQx0
import Derived.Test.YtmoagoopdfpcnaaQx24
import Derived.Test.YtmoagoopdfpcnaaQx25
import Derived.Test.YtmoagoopdfpcnaaEPieces
namespace Go.Proofs.Ytmoagoopdfpcnaa.Q
open Go.RowKit Go.Proofs.YtmoagoopdfpcnaaW.PrintWords Go.Proofs.YtmoagoopdfpcnaaW.PrintLast Go.Proofs.YtmoagoopdfpcnaaW.PrintMore
attribute [local go_sem] max2_int min2_int max_two min_two max_three min_three max_four min_four   -- for this text's walks alone
set_option linter.unusedVariables false
set_option linter.unusedSimpArgs false
theorem u32x39 (x y : Int) : (x + y) % 4294967296 = (x + y % 4294967296) % 4294967296 := by omega
theorem u32w39 (z : Int) : IntKind.u32.wrap z = z % 4294967296 := by simp [IntKind.wrap, IntKind.bits, IntKind.signed]

/-! ### waymarklaw02_SpansCut_E: function 10 -/
mutual
def waymarklaw02_SpansCut_E.l0 : Nat → Int → List (List (S31)) → Int → Int → Option (Bool)
 | 0, _, _, _, _ => none
 | k + 1, x0, x1, x2, x7 => if x7 < (x1.length : Int) then (if 0 ≤ x7 then (if ((rd_L12 x1 x7).length : Int) > 40 then ((waymarklaw02_awake.f k).bind fun t629 => (some t629)) else (waymarklaw02_SpansCut_E.l0 k x0 x1 x2 (wrap64 (x7 + 1)))) else (none)) else ((spans_Pieces.f x0 x1).bind fun bt630 => ((waymarklaw02_awake.f k).bind fun t634 => (if t634 = true then (if bt630.2 = 0 then (if (bt630.1.length : Int) = 0 then (waymarklaw02_SpansCut_E.j1 k x0 x1 x2 bt630.1 true) else (if 0 < (bt630.1.length : Int) then (if ((rd_T31 bt630.1 0).f0) = 0 then (if 0 ≤ (wrap64 ((bt630.1.length : Int) - 1)) then (if (wrap64 ((bt630.1.length : Int) - 1)) < (bt630.1.length : Int) then (waymarklaw02_SpansCut_E.j1 k x0 x1 x2 bt630.1 (((rd_T31 bt630.1 (wrap64 ((bt630.1.length : Int) - 1))).f1) != x0)) else (none)) else (none)) else (waymarklaw02_SpansCut_E.j1 k x0 x1 x2 bt630.1 true)) else (none))) else (waymarklaw02_SpansCut_E.j1 k x0 x1 x2 bt630.1 true)) else (waymarklaw02_SpansCut_E.j1 k x0 x1 x2 bt630.1 true))))
def waymarklaw02_SpansCut_E.j1 : Nat → Int → List (List (S31)) → Int → List (S31) → Bool → Option (Bool)
 | 0, _, _, _, _, _ => none
 | k + 1, x0, x1, x2, x8, x68 => if x68 = true then (none) else (waymarklaw02_SpansCut_E.l1 k x0 x1 x2 x8 0 0)
def waymarklaw02_SpansCut_E.l1 : Nat → Int → List (List (S31)) → Int → List (S31) → Int → Int → Option (Bool)
 | 0, _, _, _, _, _, _ => none
 | k + 1, x0, x1, x2, x8, x10, x11 => if x11 < (x8.length : Int) then (if 0 ≤ x11 then (if ((rd_T31 x8 x11).f0) > ((rd_T31 x8 x11).f1) then (waymarklaw02_SpansCut_E.j3 k x0 x1 x2 x8 x10 x11 true) else (if x11 > 0 then (if 0 ≤ (wrap64 (x11 - 1)) then (if (wrap64 (x11 - 1)) < (x8.length : Int) then (waymarklaw02_SpansCut_E.j3 k x0 x1 x2 x8 x10 x11 (((rd_T31 x8 x11).f0) != ((((rd_T31 x8 (wrap64 (x11 - 1))).f1) + 1) % 4294967296))) else (none)) else (none)) else (waymarklaw02_SpansCut_E.j3 k x0 x1 x2 x8 x10 x11 false))) else (none)) else (some (x10 == (IntKind.u64.wrap ((IntKind.u64.wrap (x0)) + 1))))
def waymarklaw02_SpansCut_E.j3 : Nat → Int → List (List (S31)) → Int → List (S31) → Int → Int → Bool → Option (Bool)
 | 0, _, _, _, _, _, _, _ => none
 | k + 1, x0, x1, x2, x8, x10, x11, x104 => if x104 = true then (none) else (if 0 ≤ x11 then (if x11 < (x8.length : Int) then (if (IntKind.u64.wrap ((IntKind.u64.wrap ((IntKind.u64.wrap ((rd_T31 x8 x11).f1)) - (IntKind.u64.wrap ((rd_T31 x8 x11).f0)))) + 1)) = 0 then (none) else (waymarklaw02_SpansCut_E.l2 k x0 x1 x2 x8 (IntKind.u64.wrap ((IntKind.u64.wrap ((IntKind.u64.wrap (x10 + (IntKind.u64.wrap ((rd_T31 x8 x11).f1)))) - (IntKind.u64.wrap ((rd_T31 x8 x11).f0)))) + 1)) x11 ((((rd_T31 x8 x11).f0) + ((Int.tmod (IntKind.u64.wrap (x2)) (IntKind.u64.wrap ((IntKind.u64.wrap ((IntKind.u64.wrap ((rd_T31 x8 x11).f1)) - (IntKind.u64.wrap ((rd_T31 x8 x11).f0)))) + 1))) % 4294967296)) % 4294967296) (x11 == 0) 0)) else (none)) else (none))
def waymarklaw02_SpansCut_E.l2 : Nat → Int → List (List (S31)) → Int → List (S31) → Int → Int → Int → Bool → Int → Option (Bool)
 | 0, _, _, _, _, _, _, _, _, _ => none
 | k + 1, x0, x1, x2, x8, x10, x11, x12, x13, x14 => if x14 < (x1.length : Int) then (if 0 ≤ x14 then (if 0 ≤ x11 then (if x11 < (x8.length : Int) then ((waymarkref02_Has.f k (rd_L12 x1 x14) ((rd_T31 x8 x11).f0)).bind fun t648 => ((waymarkref02_Has.f k (rd_L12 x1 x14) ((rd_T31 x8 x11).f1)).bind fun t651 => (if (t648 != t651) = true then (none) else ((waymarkref02_Has.f k (rd_L12 x1 x14) x12).bind fun t653 => (if (t648 != t653) = true then (none) else (if x13 = true then (waymarklaw02_SpansCut_E.l2 k x0 x1 x2 x8 x10 x11 x12 true (wrap64 (x14 + 1))) else ((waymarkref02_Has.f k (rd_L12 x1 x14) ((((rd_T31 x8 x11).f0) - 1) % 4294967296)).bind fun t656 => (waymarklaw02_SpansCut_E.l2 k x0 x1 x2 x8 x10 x11 x12 (t648 != t656) (wrap64 (x14 + 1)))))))))) else (none)) else (none)) else (none)) else (if x13 = true then (waymarklaw02_SpansCut_E.l1 k x0 x1 x2 x8 x10 (wrap64 (x11 + 1))) else (none))
end
def waymarklaw02_SpansCut_E.f (k : Nat) (a0 : Int) (l1 : List (List (S31))) (a2 : Int) : Option (Bool) := if (l1.length : Int) > 12 then (none) else (waymarklaw02_SpansCut_E.l0 k a0 l1 a2 0)
theorem waymarklaw02_SpansCut_E.mono_l : ∀ k, (∀ y0 y1 y2 y3, LeO (waymarklaw02_SpansCut_E.l0 k y0 y1 y2 y3) (waymarklaw02_SpansCut_E.l0 (k + 1) y0 y1 y2 y3)) ∧ (∀ y0 y1 y2 y3 y4, LeO (waymarklaw02_SpansCut_E.j1 k y0 y1 y2 y3 y4) (waymarklaw02_SpansCut_E.j1 (k + 1) y0 y1 y2 y3 y4)) ∧ (∀ y0 y1 y2 y3 y4 y5, LeO (waymarklaw02_SpansCut_E.l1 k y0 y1 y2 y3 y4 y5) (waymarklaw02_SpansCut_E.l1 (k + 1) y0 y1 y2 y3 y4 y5)) ∧ (∀ y0 y1 y2 y3 y4 y5 y6, LeO (waymarklaw02_SpansCut_E.j3 k y0 y1 y2 y3 y4 y5 y6) (waymarklaw02_SpansCut_E.j3 (k + 1) y0 y1 y2 y3 y4 y5 y6)) ∧ (∀ y0 y1 y2 y3 y4 y5 y6 y7 y8, LeO (waymarklaw02_SpansCut_E.l2 k y0 y1 y2 y3 y4 y5 y6 y7 y8) (waymarklaw02_SpansCut_E.l2 (k + 1) y0 y1 y2 y3 y4 y5 y6 y7 y8))
 | 0 => ⟨fun _ _ _ _ r h => by simp [waymarklaw02_SpansCut_E.l0] at h, fun _ _ _ _ _ r h => by simp [waymarklaw02_SpansCut_E.j1] at h, fun _ _ _ _ _ _ r h => by simp [waymarklaw02_SpansCut_E.l1] at h, fun _ _ _ _ _ _ _ r h => by simp [waymarklaw02_SpansCut_E.j3] at h, fun _ _ _ _ _ _ _ _ _ r h => by simp [waymarklaw02_SpansCut_E.l2] at h⟩
 | k + 1 => by
  obtain ⟨ih0, ih1, ih2, ih3, ih4⟩ := waymarklaw02_SpansCut_E.mono_l k
  refine ⟨?_, ?_, ?_, ?_, ?_⟩
  ·intro y0 y1 y2 y3
   unfold waymarklaw02_SpansCut_E.l0
   repeat' first
   | (with_reducible exact ih0 _ _ _ _)
   | (with_reducible exact ih1 _ _ _ _ _)
   | (with_reducible exact ih2 _ _ _ _ _ _)
   | (with_reducible exact ih3 _ _ _ _ _ _ _)
   | (with_reducible exact ih4 _ _ _ _ _ _ _ _ _)
   | (with_reducible exact waymarklaw02_awake.mono _)
   | (with_reducible exact waymarkref02_Has.mono _ _ _)
   | (with_reducible exact LeO.refl _)
   | (with_reducible exact LeO.none _)
   | (with_reducible refine LeO.ite ?_ ?_)
   | (with_reducible refine LeO.bind ?_ (fun _ => ?_))
   | exact ih0 _ _ _ _
   | exact ih1 _ _ _ _ _
   | exact ih2 _ _ _ _ _ _
   | exact ih3 _ _ _ _ _ _ _
   | exact ih4 _ _ _ _ _ _ _ _ _
   | exact waymarklaw02_awake.mono _
   | exact waymarkref02_Has.mono _ _ _
   | exact LeO.none _
   | refine LeO.ite ?_ ?_
   | refine LeO.bind ?_ (fun _ => ?_)
  ·intro y0 y1 y2 y3 y4
   unfold waymarklaw02_SpansCut_E.j1
   repeat' first
   | (with_reducible exact ih0 _ _ _ _)
   | (with_reducible exact ih1 _ _ _ _ _)
   | (with_reducible exact ih2 _ _ _ _ _ _)
   | (with_reducible exact ih3 _ _ _ _ _ _ _)
   | (with_reducible exact ih4 _ _ _ _ _ _ _ _ _)
   | (with_reducible exact waymarklaw02_awake.mono _)
   | (with_reducible exact waymarkref02_Has.mono _ _ _)
   | (with_reducible exact LeO.refl _)
   | (with_reducible exact LeO.none _)
   | (with_reducible refine LeO.ite ?_ ?_)
   | (with_reducible refine LeO.bind ?_ (fun _ => ?_))
   | exact ih0 _ _ _ _
   | exact ih1 _ _ _ _ _
   | exact ih2 _ _ _ _ _ _
   | exact ih3 _ _ _ _ _ _ _
   | exact ih4 _ _ _ _ _ _ _ _ _
   | exact waymarklaw02_awake.mono _
   | exact waymarkref02_Has.mono _ _ _
   | exact LeO.none _
   | refine LeO.ite ?_ ?_
   | refine LeO.bind ?_ (fun _ => ?_)
  ·intro y0 y1 y2 y3 y4 y5
   unfold waymarklaw02_SpansCut_E.l1
   repeat' first
   | (with_reducible exact ih0 _ _ _ _)
   | (with_reducible exact ih1 _ _ _ _ _)
   | (with_reducible exact ih2 _ _ _ _ _ _)
   | (with_reducible exact ih3 _ _ _ _ _ _ _)
   | (with_reducible exact ih4 _ _ _ _ _ _ _ _ _)
   | (with_reducible exact waymarklaw02_awake.mono _)
   | (with_reducible exact waymarkref02_Has.mono _ _ _)
   | (with_reducible exact LeO.refl _)
   | (with_reducible exact LeO.none _)
   | (with_reducible refine LeO.ite ?_ ?_)
   | (with_reducible refine LeO.bind ?_ (fun _ => ?_))
   | exact ih0 _ _ _ _
   | exact ih1 _ _ _ _ _
   | exact ih2 _ _ _ _ _ _
   | exact ih3 _ _ _ _ _ _ _
   | exact ih4 _ _ _ _ _ _ _ _ _
   | exact waymarklaw02_awake.mono _
   | exact waymarkref02_Has.mono _ _ _
   | exact LeO.none _
   | refine LeO.ite ?_ ?_
   | refine LeO.bind ?_ (fun _ => ?_)
  ·intro y0 y1 y2 y3 y4 y5 y6
   unfold waymarklaw02_SpansCut_E.j3
   repeat' first
   | (with_reducible exact ih0 _ _ _ _)
   | (with_reducible exact ih1 _ _ _ _ _)
   | (with_reducible exact ih2 _ _ _ _ _ _)
   | (with_reducible exact ih3 _ _ _ _ _ _ _)
   | (with_reducible exact ih4 _ _ _ _ _ _ _ _ _)
   | (with_reducible exact waymarklaw02_awake.mono _)
   | (with_reducible exact waymarkref02_Has.mono _ _ _)
   | (with_reducible exact LeO.refl _)
   | (with_reducible exact LeO.none _)
   | (with_reducible refine LeO.ite ?_ ?_)
   | (with_reducible refine LeO.bind ?_ (fun _ => ?_))
   | exact ih0 _ _ _ _
   | exact ih1 _ _ _ _ _
   | exact ih2 _ _ _ _ _ _
   | exact ih3 _ _ _ _ _ _ _
   | exact ih4 _ _ _ _ _ _ _ _ _
   | exact waymarklaw02_awake.mono _
   | exact waymarkref02_Has.mono _ _ _
   | exact LeO.none _
   | refine LeO.ite ?_ ?_
   | refine LeO.bind ?_ (fun _ => ?_)
  ·intro y0 y1 y2 y3 y4 y5 y6 y7 y8
   unfold waymarklaw02_SpansCut_E.l2
   repeat' first
   | (with_reducible exact ih0 _ _ _ _)
   | (with_reducible exact ih1 _ _ _ _ _)
   | (with_reducible exact ih2 _ _ _ _ _ _)
   | (with_reducible exact ih3 _ _ _ _ _ _ _)
   | (with_reducible exact ih4 _ _ _ _ _ _ _ _ _)
   | (with_reducible exact waymarklaw02_awake.mono _)
   | (with_reducible exact waymarkref02_Has.mono _ _ _)
   | (with_reducible exact LeO.refl _)
   | (with_reducible exact LeO.none _)
   | (with_reducible refine LeO.ite ?_ ?_)
   | (with_reducible refine LeO.bind ?_ (fun _ => ?_))
   | exact ih0 _ _ _ _
   | exact ih1 _ _ _ _ _
   | exact ih2 _ _ _ _ _ _
   | exact ih3 _ _ _ _ _ _ _
   | exact ih4 _ _ _ _ _ _ _ _ _
   | exact waymarklaw02_awake.mono _
   | exact waymarkref02_Has.mono _ _ _
   | exact LeO.none _
   | refine LeO.ite ?_ ?_
   | refine LeO.bind ?_ (fun _ => ?_)
theorem waymarklaw02_SpansCut_E.mono : ∀ a0 a1 a2 k, LeO (waymarklaw02_SpansCut_E.f k a0 a1 a2) (waymarklaw02_SpansCut_E.f (k + 1) a0 a1 a2) := by
 intro a0 a1 a2 k
 obtain ⟨ih0, ih1, ih2, ih3, ih4⟩ := waymarklaw02_SpansCut_E.mono_l k
 unfold waymarklaw02_SpansCut_E.f
 repeat' first
   | (with_reducible exact ih0 _ _ _ _)
   | (with_reducible exact ih1 _ _ _ _ _)
   | (with_reducible exact ih2 _ _ _ _ _ _)
   | (with_reducible exact ih3 _ _ _ _ _ _ _)
   | (with_reducible exact ih4 _ _ _ _ _ _ _ _ _)
   | (with_reducible exact waymarklaw02_awake.mono _)
   | (with_reducible exact waymarkref02_Has.mono _ _ _)
   | (with_reducible exact LeO.refl _)
   | (with_reducible exact LeO.none _)
   | (with_reducible refine LeO.ite ?_ ?_)
   | (with_reducible refine LeO.bind ?_ (fun _ => ?_))
   | exact ih0 _ _ _ _
   | exact ih1 _ _ _ _ _
   | exact ih2 _ _ _ _ _ _
   | exact ih3 _ _ _ _ _ _ _
   | exact ih4 _ _ _ _ _ _ _ _ _
   | exact waymarklaw02_awake.mono _
   | exact waymarkref02_Has.mono _ _ _
   | exact LeO.none _
   | refine LeO.ite ?_ ?_
   | refine LeO.bind ?_ (fun _ => ?_)
set_option maxHeartbeats 8000000 in
set_option maxRecDepth 100000 in
theorem waymarklaw02_SpansCut_E.calls (k : Nat) (a0 : Int) (A1 : Option Addr) (c1 : Nat) (l1 : List (List (S31))) (a2 : Int) (r : Bool) (w : World) (hr1 : Kd.C (Kd.slice 31 k31) w A1 l1.length l1) (hc1 : l1.length ≤ c1) (h : waymarklaw02_SpansCut_E.f k a0 l1 a2 = some r) :
  Calls Try.prog 10 #[.int .u32 a0, .slice A1 l1.length c1, .int .u32 a2] w fun e w' => e = .returned (.bool r) ∧ Below w.heap.size w w' := by
 have HR1 := Aside0.mk hr1
 have HC1 := Aside0.mk hc1
 clear hr1 hc1
 have HB := Aside0.mk (Below.refl w.heap.size w)
 have H : (if (l1.length : Int) > 12 then (none) else (waymarklaw02_SpansCut_E.l0 k a0 l1 a2 0)) = some r := h
 clear h
 by_cases c4 : (l1.length : Int) > 12
 ·rw [if_pos c4] at H
  exact absurd H (by simp)
 ·rw [if_neg c4] at H
  have c4b0 : decide (12 < (l1.length : Int)) = false := decide_eq_false c4
  have c4b1 : decide (12 < l1.length) = false := decide_eq_false (by omega)
  clear c4
  have H' := Aside0.mk H
  clear H
  go_enter Try.func10, Try.ntmps10
  go_wp2
  repeat (go_quiet (fail); try go_wp2)
  go_loopg [7] k (fun kq v7 w' => ∃ (x7_1 : Int), v7 = .int .i64 x7_1 ∧ Aside0 (waymarklaw02_SpansCut_E.l0 kq a0 l1 a2 x7_1 = some r) ∧ Aside0 (kq ≤ k) ∧ Aside0 (Below w.heap.size w w'))
  case atStart => exact ⟨(0), (by first | rfl | (simp; done) | (simp [*]; done)), H', ⟨Nat.le_refl _⟩, ⟨by repeat (first | (with_reducible first | exact HB.out | apply below_alloc | apply pw_below_drewN | apply below_drew1) | exact HB.out)⟩⟩
  case round =>
   clear H'
   try clear c1
   try clear p2
   try clear c4
   try clear c4b0
   try clear c4b1
   obtain ⟨x7_1, rfl, HA, HK1, HB⟩ := hrel
   cases gk with
   | zero => exact absurd HA.out (by simp [waymarklaw02_SpansCut_E.l0])
   | succ k1 =>
    have H := HA.out
    clear HA
    simp only [waymarklaw02_SpansCut_E.l0] at H
    by_cases c5 : x7_1 < (l1.length : Int)
    ·rw [if_pos c5] at H
     have c5b0 : decide (x7_1 < (l1.length : Int)) = true := decide_eq_true c5
     clear c5
     by_cases c6 : 0 ≤ x7_1
     ·rw [if_pos c6] at H
      have c6b0 : decide (0 ≤ x7_1) = true := decide_eq_true c6
      clear c6
      by_cases c7 : ((rd_L12 l1 x7_1).length : Int) > 40
      ·as_aux_lemma =>
       rw [if_pos c7] at H
       have c7b0 : decide (40 < ((rd_L12 l1 x7_1).length : Int)) = true := decide_eq_true c7
       have c7b1 : decide (40 < (rd_L12 l1 x7_1).length) = true := decide_eq_true (by omega)
       clear c7
       replace H := Option.bind_eq_some_iff.mp H
       obtain ⟨t629, A80, H⟩ := H
       replace H : (some t629) = some r := H
       have A8 := Aside0.mk A80
       clear A80
       obtain rfl := Option.some.inj H
       have p628 : 0 ≤ (x7_1 : Int) := of_decide_eq_true (by first | (with_reducible assumption) | assumption)
       have q628 : x7_1 < (l1.length : Int) := of_decide_eq_true (by first | (with_reducible assumption) | assumption)
       obtain ⟨ad628, A628_0, c628_0, e628, hx628_0, hl628_0, hi628_0⟩ := at_L12 HR1.out x7_1 p628 q628
       cases e628
       replace hx628_0 := pw_cell_below HB.out hx628_0
       have HR628_0 := Aside0.mk hi628_0
       have HC628_0 := Aside0.mk hl628_0
       clear hi628_0 hl628_0
       replace p628 := eq_true p628
       replace q628 := eq_true q628
       go_wp2_with (first | (go_at_call 35; (with_reducible refine (waymarklaw02_awake.calls k1  t629 _ A8.out).mono ?_); rintro e w9 ⟨rfl, hb⟩; have n0_ := Aside0.mk (below_step (by repeat (first | (with_reducible first | exact HB.out | apply below_alloc | apply pw_below_drewN | apply below_drew1) | exact HB.out)) hb); clear HB; have HB := n0_; clear n0_; (try clear hb); (try clear hb2); (try clear hk); (try clear hi)))
       repeat (go_quiet (first | (go_at_call 35; (with_reducible refine (waymarklaw02_awake.calls k1  t629 _ A8.out).mono ?_); rintro e w9 ⟨rfl, hb⟩; have n0_ := Aside0.mk (below_step (by repeat (first | (with_reducible first | exact HB.out | apply below_alloc | apply pw_below_drewN | apply below_drew1) | exact HB.out)) hb); clear HB; have HB := n0_; clear n0_; (try clear hb); (try clear hb2); (try clear hk); (try clear hi))); try go_wp2_with (first | (go_at_call 35; (with_reducible refine (waymarklaw02_awake.calls k1  t629 _ A8.out).mono ?_); rintro e w9 ⟨rfl, hb⟩; have n0_ := Aside0.mk (below_step (by repeat (first | (with_reducible first | exact HB.out | apply below_alloc | apply pw_below_drewN | apply below_drew1) | exact HB.out)) hb); clear HB; have HB := n0_; clear n0_; (try clear hb); (try clear hb2); (try clear hk); (try clear hi))))
       go_ret
       exact ⟨by first | rfl | (simp [errW_none, errW_some] <;> rfl) | (simp [*, errW_none, errW_some] <;> rfl), by repeat (first | (with_reducible first | exact HB.out | apply below_alloc | apply pw_below_drewN | apply below_drew1) | exact HB.out)⟩
      ·as_aux_lemma =>
       rw [if_neg c7] at H
       have c7b0 : decide (40 < ((rd_L12 l1 x7_1).length : Int)) = false := decide_eq_false c7
       have c7b1 : decide (40 < (rd_L12 l1 x7_1).length) = false := decide_eq_false (by omega)
       clear c7
       have H' := Aside0.mk H
       clear H
       have p628 : 0 ≤ (x7_1 : Int) := of_decide_eq_true (by first | (with_reducible assumption) | assumption)
       have q628 : x7_1 < (l1.length : Int) := of_decide_eq_true (by first | (with_reducible assumption) | assumption)
       obtain ⟨ad628, A628_0, c628_0, e628, hx628_0, hl628_0, hi628_0⟩ := at_L12 HR1.out x7_1 p628 q628
       cases e628
       replace hx628_0 := pw_cell_below HB.out hx628_0
       have HR628_0 := Aside0.mk hi628_0
       have HC628_0 := Aside0.mk hl628_0
       clear hi628_0 hl628_0
       replace p628 := eq_true p628
       replace q628 := eq_true q628
       go_wp2
       repeat (go_quiet (fail); try go_wp2)
       go_roundg k1
       case measure => have := HK1.out; omega
       case rel => exact ⟨(wrap64 (x7_1 + 1)), (by first | rfl | (simp; done) | (simp [*]; done)), H', ⟨by have := HK1.out; omega⟩, ⟨by repeat (first | (with_reducible first | exact HB.out | apply below_alloc | apply pw_below_drewN | apply below_drew1) | exact HB.out)⟩⟩
     ·rw [if_neg c6] at H
      exact absurd H (by simp)
    ·rw [if_neg c5] at H
     have c5b0 : decide (x7_1 < (l1.length : Int)) = false := decide_eq_false c5
     clear c5
     replace H := Option.bind_eq_some_iff.mp H
     obtain ⟨⟨t630, t631⟩, A100, H⟩ := H
     replace H : ((waymarklaw02_awake.f k1).bind fun t634 => (if t634 = true then (if t631 = 0 then (if (t630.length : Int) = 0 then (waymarklaw02_SpansCut_E.j1 k1 a0 l1 a2 t630 true) else (if 0 < (t630.length : Int) then (if ((rd_T31 t630 0).f0) = 0 then (if 0 ≤ (wrap64 ((t630.length : Int) - 1)) then (if (wrap64 ((t630.length : Int) - 1)) < (t630.length : Int) then (waymarklaw02_SpansCut_E.j1 k1 a0 l1 a2 t630 (((rd_T31 t630 (wrap64 ((t630.length : Int) - 1))).f1) != a0)) else (none)) else (none)) else (waymarklaw02_SpansCut_E.j1 k1 a0 l1 a2 t630 true)) else (none))) else (waymarklaw02_SpansCut_E.j1 k1 a0 l1 a2 t630 true)) else (waymarklaw02_SpansCut_E.j1 k1 a0 l1 a2 t630 true))) = some r := H
     have A10 := Aside0.mk A100
     clear A100
     have HC11 := Aside0.mk H
     clear H
     go_upto_region 9 with (first | (go_at_call 55; (with_reducible refine (spans_Pieces.calls a0 _ _ l1 t630 t631 _ ?side1 ?side2 A10.out).mono ?_); (case side1 => repeat (first | exact (Kd.C_below HR1.out HB.out) | (with_reducible refine Kd.C_alloc ?_ _) | (with_reducible refine Kd.C_drewN ?_ _) | (with_reducible refine Kd.C_drew ?_))); (case side2 => exact HC1.out); rintro e w12 ⟨v632, rfl, ho0, hb⟩; have n0_ := Aside0.mk (Kd.R_lower ho0 (below_size (by repeat (first | (with_reducible first | exact HB.out | apply below_alloc | apply pw_below_drewN | apply below_drew1) | exact HB.out)))); have n1_ := Aside0.mk (below_step (by repeat (first | (with_reducible first | exact HB.out | apply below_alloc | apply pw_below_drewN | apply below_drew1) | exact HB.out)) hb); clear HB; have HO633 := n0_; have HB := n1_; clear n0_ n1_; (try clear hb); (try clear hb2); (try clear hk); (try clear hi); (try clear ho0)))
     repeat (go_quiet (first | (go_at_call 55; (with_reducible refine (spans_Pieces.calls a0 _ _ l1 t630 t631 _ ?side1 ?side2 A10.out).mono ?_); (case side1 => repeat (first | exact (Kd.C_below HR1.out HB.out) | (with_reducible refine Kd.C_alloc ?_ _) | (with_reducible refine Kd.C_drewN ?_ _) | (with_reducible refine Kd.C_drew ?_))); (case side2 => exact HC1.out); rintro e w12 ⟨v632, rfl, ho0, hb⟩; have n0_ := Aside0.mk (Kd.R_lower ho0 (below_size (by repeat (first | (with_reducible first | exact HB.out | apply below_alloc | apply pw_below_drewN | apply below_drew1) | exact HB.out)))); have n1_ := Aside0.mk (below_step (by repeat (first | (with_reducible first | exact HB.out | apply below_alloc | apply pw_below_drewN | apply below_drew1) | exact HB.out)) hb); clear HB; have HO633 := n0_; have HB := n1_; clear n0_ n1_; (try clear hb); (try clear hb2); (try clear hk); (try clear hi); (try clear ho0))); go_upto_region 9 with (first | (go_at_call 55; (with_reducible refine (spans_Pieces.calls a0 _ _ l1 t630 t631 _ ?side1 ?side2 A10.out).mono ?_); (case side1 => repeat (first | exact (Kd.C_below HR1.out HB.out) | (with_reducible refine Kd.C_alloc ?_ _) | (with_reducible refine Kd.C_drewN ?_ _) | (with_reducible refine Kd.C_drew ?_))); (case side2 => exact HC1.out); rintro e w12 ⟨v632, rfl, ho0, hb⟩; have n0_ := Aside0.mk (Kd.R_lower ho0 (below_size (by repeat (first | (with_reducible first | exact HB.out | apply below_alloc | apply pw_below_drewN | apply below_drew1) | exact HB.out)))); have n1_ := Aside0.mk (below_step (by repeat (first | (with_reducible first | exact HB.out | apply below_alloc | apply pw_below_drewN | apply below_drew1) | exact HB.out)) hb); clear HB; have HO633 := n0_; have HB := n1_; clear n0_ n1_; (try clear hb); (try clear hb2); (try clear hk); (try clear hi); (try clear ho0))))
     (try simp only [Act.put, List.setIfInBounds_toArray, List.set_cons_zero, List.set_cons_succ])
     go_cut [68] (fun v68 wc => ∃ (kq : Nat) (x68_10 : Bool), v68 = .bool x68_10 ∧ Aside0 (waymarklaw02_SpansCut_E.j1 kq a0 l1 a2 t630 x68_10 = some r) ∧ Aside0 (kq ≤ k1) ∧ Aside0 (Kd.R k31 31 wc w.heap.size (fun _ => True) v632 t630) ∧ Aside0 (Below w.heap.size w wc))
     case first =>
      have H := HC11.out
      clear HC11
      replace H := Option.bind_eq_some_iff.mp H
      obtain ⟨t634, A130, H⟩ := H
      replace H : (if t634 = true then (if t631 = 0 then (if (t630.length : Int) = 0 then (waymarklaw02_SpansCut_E.j1 k1 a0 l1 a2 t630 true) else (if 0 < (t630.length : Int) then (if ((rd_T31 t630 0).f0) = 0 then (if 0 ≤ (wrap64 ((t630.length : Int) - 1)) then (if (wrap64 ((t630.length : Int) - 1)) < (t630.length : Int) then (waymarklaw02_SpansCut_E.j1 k1 a0 l1 a2 t630 (((rd_T31 t630 (wrap64 ((t630.length : Int) - 1))).f1) != a0)) else (none)) else (none)) else (waymarklaw02_SpansCut_E.j1 k1 a0 l1 a2 t630 true)) else (none))) else (waymarklaw02_SpansCut_E.j1 k1 a0 l1 a2 t630 true)) else (waymarklaw02_SpansCut_E.j1 k1 a0 l1 a2 t630 true)) = some r := H
      have A13 := Aside0.mk A130
      clear A130
      by_cases c14 : t634 = true
      ·subst c14
       have H1 : (if t631 = 0 then (if (t630.length : Int) = 0 then (waymarklaw02_SpansCut_E.j1 k1 a0 l1 a2 t630 true) else (if 0 < (t630.length : Int) then (if ((rd_T31 t630 0).f0) = 0 then (if 0 ≤ (wrap64 ((t630.length : Int) - 1)) then (if (wrap64 ((t630.length : Int) - 1)) < (t630.length : Int) then (waymarklaw02_SpansCut_E.j1 k1 a0 l1 a2 t630 (((rd_T31 t630 (wrap64 ((t630.length : Int) - 1))).f1) != a0)) else (none)) else (none)) else (waymarklaw02_SpansCut_E.j1 k1 a0 l1 a2 t630 true)) else (none))) else (waymarklaw02_SpansCut_E.j1 k1 a0 l1 a2 t630 true)) = some r := by rw [if_pos rfl] at H; exact H
       clear H
       have H := H1
       clear H1
       by_cases c15 : t631 = 0
       ·rw [if_pos c15] at H
        have c15b0 : (t631 == 0) = true := beq_iff_eq.mpr c15
        have c15b1 : (t631 != 0) = false := bne_eq_false_iff_eq.mpr c15
        clear c15
        (first | rw [c15b0] | (simp only [i64_w, i32_w]; rw [c15b0]) | skip)
        by_cases c16 : (t630.length : Int) = 0
        ·as_aux_lemma =>
         rw [if_pos c16] at H
         have c16b0 : ((t630.length : Int) == 0) = true := beq_iff_eq.mpr c16
         have c16b1 : ((t630.length : Int) != 0) = false := bne_eq_false_iff_eq.mpr c16
         clear c16
         have H' := Aside0.mk H
         clear H
         go_wp2_with (first | (go_at_call 35; (with_reducible refine (waymarklaw02_awake.calls k1  true _ A13.out).mono ?_); rintro e w17 ⟨rfl, hb⟩; have n0_ := Aside0.mk (Kd.R_below (by (with_reducible repeat (first | apply Kd.R_alloc | apply Kd.R_drewN | apply Kd.R_drew)); exact HO633.out) hb); have n1_ := Aside0.mk (below_step (by repeat (first | (with_reducible first | exact HB.out | apply below_alloc | apply pw_below_drewN | apply below_drew1) | exact HB.out)) hb); clear HO633; clear HB; have HO633 := n0_; have HB := n1_; clear n0_ n1_; (try clear hb); (try clear hb2); (try clear hk); (try clear hi); obtain ⟨Ao18, co18, eo18⟩ := Kd.R_slice HO633.out; subst eo18))
         repeat (go_quiet (first | (go_at_call 35; (with_reducible refine (waymarklaw02_awake.calls k1  true _ A13.out).mono ?_); rintro e w17 ⟨rfl, hb⟩; have n0_ := Aside0.mk (Kd.R_below (by (with_reducible repeat (first | apply Kd.R_alloc | apply Kd.R_drewN | apply Kd.R_drew)); exact HO633.out) hb); have n1_ := Aside0.mk (below_step (by repeat (first | (with_reducible first | exact HB.out | apply below_alloc | apply pw_below_drewN | apply below_drew1) | exact HB.out)) hb); clear HO633; clear HB; have HO633 := n0_; have HB := n1_; clear n0_ n1_; (try clear hb); (try clear hb2); (try clear hk); (try clear hi); obtain ⟨Ao18, co18, eo18⟩ := Kd.R_slice HO633.out; subst eo18)); try go_wp2_with (first | (go_at_call 35; (with_reducible refine (waymarklaw02_awake.calls k1  true _ A13.out).mono ?_); rintro e w17 ⟨rfl, hb⟩; have n0_ := Aside0.mk (Kd.R_below (by (with_reducible repeat (first | apply Kd.R_alloc | apply Kd.R_drewN | apply Kd.R_drew)); exact HO633.out) hb); have n1_ := Aside0.mk (below_step (by repeat (first | (with_reducible first | exact HB.out | apply below_alloc | apply pw_below_drewN | apply below_drew1) | exact HB.out)) hb); clear HO633; clear HB; have HO633 := n0_; have HB := n1_; clear n0_ n1_; (try clear hb); (try clear hb2); (try clear hk); (try clear hi); obtain ⟨Ao18, co18, eo18⟩ := Kd.R_slice HO633.out; subst eo18)))
         go_meet
         case rel => exact ⟨_, (true), (by first | rfl | (simp; done) | (simp [*]; done)), H', ⟨by have := HK1.out; first | omega | exact Nat.le_refl _⟩, ⟨by (with_reducible repeat (first | apply Kd.R_alloc | apply Kd.R_drewN | apply Kd.R_drew)); exact HO633.out⟩, ⟨by repeat (first | (with_reducible first | exact HB.out | apply below_alloc | apply pw_below_drewN | apply below_drew1) | exact HB.out)⟩⟩
        ·rw [if_neg c16] at H
         have c16b0 : ((t630.length : Int) == 0) = false := beq_eq_false_iff_ne.mpr c16
         have c16b1 : ((t630.length : Int) != 0) = true := bne_iff_ne.mpr c16
         have c16b2 : ¬ (t630 = []) := fun h_ => c16 (by rw [h_]; rfl)
         by_cases c19 : 0 < (t630.length : Int)
         ·rw [if_pos c19] at H
          have c19b0 : decide (0 < (t630.length : Int)) = true := decide_eq_true c19
          have c19b1 : decide (0 < t630.length) = true := decide_eq_true (by omega)
          clear c19
          by_cases c20 : ((rd_T31 t630 0).f0) = 0
          ·rw [if_pos c20] at H
           have c20b0 : (((rd_T31 t630 0).f0) == 0) = true := beq_iff_eq.mpr c20
           have c20b1 : (((rd_T31 t630 0).f0) != 0) = false := bne_eq_false_iff_eq.mpr c20
           clear c20
           obtain ⟨ji21, hji21⟩ : ∃ j_ : Int, (wrap64 ((t630.length : Int) - 1)) = j_ := ⟨_, rfl⟩
           replace H : (if 0 ≤ (ji21) then (if (ji21) < (t630.length : Int) then (waymarklaw02_SpansCut_E.j1 k1 a0 l1 a2 t630 (((rd_T31 t630 (ji21)).f1) != a0)) else (none)) else (none)) = some r := by first | (rw [hji21] at H; exact H) | (simp only [hji21] at H ⊢; exact H)
           (try rw [hji21] at A13)
           have hji21w : (IntKind.i64.wrap ((t630.length : Int) - 1)) = ji21 := (i64_w _).trans hji21
           by_cases c22 : 0 ≤ (ji21)
           ·rw [if_pos c22] at H
            have c22b0 : decide (0 ≤ (ji21)) = true := decide_eq_true c22
            clear c22
            by_cases c23 : (ji21) < (t630.length : Int)
            ·as_aux_lemma =>
             rw [if_pos c23] at H
             have c23b0 : decide ((ji21) < (t630.length : Int)) = true := decide_eq_true c23
             clear c23
             have H' := Aside0.mk H
             clear H
             go_wp2_with (first | (go_at_call 35; (with_reducible refine (waymarklaw02_awake.calls k1  true _ A13.out).mono ?_); rintro e w24 ⟨rfl, hb⟩; have n0_ := Aside0.mk (Kd.R_below (by (with_reducible repeat (first | apply Kd.R_alloc | apply Kd.R_drewN | apply Kd.R_drew)); exact HO633.out) hb); have n1_ := Aside0.mk (below_step (by repeat (first | (with_reducible first | exact HB.out | apply below_alloc | apply pw_below_drewN | apply below_drew1) | exact HB.out)) hb); clear HO633; clear HB; have HO633 := n0_; have HB := n1_; clear n0_ n1_; (try clear hb); (try clear hb2); (try clear hk); (try clear hi); obtain ⟨Ao25, co25, eo25⟩ := Kd.R_slice HO633.out; subst eo25; have p635 : 0 ≤ (0 : Int) := (by omega); have q635 : 0 < (t630.length : Int) := of_decide_eq_true (by first | (with_reducible assumption) | assumption); obtain ⟨ad635, e635, hx635_0, hx635_1⟩ := at_T31 (Kd.R_reads' HO633.out).2.2 0 p635 q635; cases e635; have qi635 : (0 < t630.length) = True := eq_true (by omega); (try rw [show ((0 : Int)).toNat = 0 from rfl] at hx635_0); (try rw [show 0 * 2 = 0 from rfl] at hx635_0); (try rw [Addr.add_zero'] at hx635_0); (try rw [show ((0 : Int)).toNat = 0 from rfl] at hx635_1); (try rw [show 0 * 2 = 0 from rfl] at hx635_1); (try rw [Addr.add_zero'] at hx635_1); replace p635 := eq_true p635; replace q635 := eq_true q635; have p636 : 0 ≤ ((ji21) : Int) := of_decide_eq_true (by first | (with_reducible assumption) | assumption); have q636 : (ji21) < (t630.length : Int) := of_decide_eq_true (by first | (with_reducible assumption) | assumption); obtain ⟨ad636, e636, hx636_0, hx636_1⟩ := at_T31 (Kd.R_reads' HO633.out).2.2 (ji21) p636 q636; obtain rfl : ad635 = ad636 := (by injection e636); replace p636 := eq_true p636; replace q636 := eq_true q636))
             repeat (go_quiet (first | (go_at_call 35; (with_reducible refine (waymarklaw02_awake.calls k1  true _ A13.out).mono ?_); rintro e w24 ⟨rfl, hb⟩; have n0_ := Aside0.mk (Kd.R_below (by (with_reducible repeat (first | apply Kd.R_alloc | apply Kd.R_drewN | apply Kd.R_drew)); exact HO633.out) hb); have n1_ := Aside0.mk (below_step (by repeat (first | (with_reducible first | exact HB.out | apply below_alloc | apply pw_below_drewN | apply below_drew1) | exact HB.out)) hb); clear HO633; clear HB; have HO633 := n0_; have HB := n1_; clear n0_ n1_; (try clear hb); (try clear hb2); (try clear hk); (try clear hi); obtain ⟨Ao25, co25, eo25⟩ := Kd.R_slice HO633.out; subst eo25; have p635 : 0 ≤ (0 : Int) := (by omega); have q635 : 0 < (t630.length : Int) := of_decide_eq_true (by first | (with_reducible assumption) | assumption); obtain ⟨ad635, e635, hx635_0, hx635_1⟩ := at_T31 (Kd.R_reads' HO633.out).2.2 0 p635 q635; cases e635; have qi635 : (0 < t630.length) = True := eq_true (by omega); (try rw [show ((0 : Int)).toNat = 0 from rfl] at hx635_0); (try rw [show 0 * 2 = 0 from rfl] at hx635_0); (try rw [Addr.add_zero'] at hx635_0); (try rw [show ((0 : Int)).toNat = 0 from rfl] at hx635_1); (try rw [show 0 * 2 = 0 from rfl] at hx635_1); (try rw [Addr.add_zero'] at hx635_1); replace p635 := eq_true p635; replace q635 := eq_true q635; have p636 : 0 ≤ ((ji21) : Int) := of_decide_eq_true (by first | (with_reducible assumption) | assumption); have q636 : (ji21) < (t630.length : Int) := of_decide_eq_true (by first | (with_reducible assumption) | assumption); obtain ⟨ad636, e636, hx636_0, hx636_1⟩ := at_T31 (Kd.R_reads' HO633.out).2.2 (ji21) p636 q636; obtain rfl : ad635 = ad636 := (by injection e636); replace p636 := eq_true p636; replace q636 := eq_true q636)); try go_wp2_with (first | (go_at_call 35; (with_reducible refine (waymarklaw02_awake.calls k1  true _ A13.out).mono ?_); rintro e w24 ⟨rfl, hb⟩; have n0_ := Aside0.mk (Kd.R_below (by (with_reducible repeat (first | apply Kd.R_alloc | apply Kd.R_drewN | apply Kd.R_drew)); exact HO633.out) hb); have n1_ := Aside0.mk (below_step (by repeat (first | (with_reducible first | exact HB.out | apply below_alloc | apply pw_below_drewN | apply below_drew1) | exact HB.out)) hb); clear HO633; clear HB; have HO633 := n0_; have HB := n1_; clear n0_ n1_; (try clear hb); (try clear hb2); (try clear hk); (try clear hi); obtain ⟨Ao25, co25, eo25⟩ := Kd.R_slice HO633.out; subst eo25; have p635 : 0 ≤ (0 : Int) := (by omega); have q635 : 0 < (t630.length : Int) := of_decide_eq_true (by first | (with_reducible assumption) | assumption); obtain ⟨ad635, e635, hx635_0, hx635_1⟩ := at_T31 (Kd.R_reads' HO633.out).2.2 0 p635 q635; cases e635; have qi635 : (0 < t630.length) = True := eq_true (by omega); (try rw [show ((0 : Int)).toNat = 0 from rfl] at hx635_0); (try rw [show 0 * 2 = 0 from rfl] at hx635_0); (try rw [Addr.add_zero'] at hx635_0); (try rw [show ((0 : Int)).toNat = 0 from rfl] at hx635_1); (try rw [show 0 * 2 = 0 from rfl] at hx635_1); (try rw [Addr.add_zero'] at hx635_1); replace p635 := eq_true p635; replace q635 := eq_true q635; have p636 : 0 ≤ ((ji21) : Int) := of_decide_eq_true (by first | (with_reducible assumption) | assumption); have q636 : (ji21) < (t630.length : Int) := of_decide_eq_true (by first | (with_reducible assumption) | assumption); obtain ⟨ad636, e636, hx636_0, hx636_1⟩ := at_T31 (Kd.R_reads' HO633.out).2.2 (ji21) p636 q636; obtain rfl : ad635 = ad636 := (by injection e636); replace p636 := eq_true p636; replace q636 := eq_true q636)))
             go_meet
             case rel => exact ⟨_, ((((rd_T31 t630 (ji21)).f1) != a0)), (by first | rfl | (simp; done) | (simp only [← hji21] <;> (first | rfl | simp)) | (simp [*]; done)), H', ⟨by have := HK1.out; first | omega | exact Nat.le_refl _⟩, ⟨by (with_reducible repeat (first | apply Kd.R_alloc | apply Kd.R_drewN | apply Kd.R_drew)); exact HO633.out⟩, ⟨by repeat (first | (with_reducible first | exact HB.out | apply below_alloc | apply pw_below_drewN | apply below_drew1) | exact HB.out)⟩⟩
            ·rw [if_neg c23] at H
             exact absurd H (by simp)
           ·rw [if_neg c22] at H
            exact absurd H (by simp)
          ·as_aux_lemma =>
           rw [if_neg c20] at H
           have c20b0 : (((rd_T31 t630 0).f0) == 0) = false := beq_eq_false_iff_ne.mpr c20
           have c20b1 : (((rd_T31 t630 0).f0) != 0) = true := bne_iff_ne.mpr c20
           have H' := Aside0.mk H
           clear H
           go_wp2_with (first | (go_at_call 35; (with_reducible refine (waymarklaw02_awake.calls k1  true _ A13.out).mono ?_); rintro e w26 ⟨rfl, hb⟩; have n0_ := Aside0.mk (Kd.R_below (by (with_reducible repeat (first | apply Kd.R_alloc | apply Kd.R_drewN | apply Kd.R_drew)); exact HO633.out) hb); have n1_ := Aside0.mk (below_step (by repeat (first | (with_reducible first | exact HB.out | apply below_alloc | apply pw_below_drewN | apply below_drew1) | exact HB.out)) hb); clear HO633; clear HB; have HO633 := n0_; have HB := n1_; clear n0_ n1_; (try clear hb); (try clear hb2); (try clear hk); (try clear hi); obtain ⟨Ao27, co27, eo27⟩ := Kd.R_slice HO633.out; subst eo27; have p635 : 0 ≤ (0 : Int) := (by omega); have q635 : 0 < (t630.length : Int) := of_decide_eq_true (by first | (with_reducible assumption) | assumption); obtain ⟨ad635, e635, hx635_0, hx635_1⟩ := at_T31 (Kd.R_reads' HO633.out).2.2 0 p635 q635; cases e635; have qi635 : (0 < t630.length) = True := eq_true (by omega); (try rw [show ((0 : Int)).toNat = 0 from rfl] at hx635_0); (try rw [show 0 * 2 = 0 from rfl] at hx635_0); (try rw [Addr.add_zero'] at hx635_0); (try rw [show ((0 : Int)).toNat = 0 from rfl] at hx635_1); (try rw [show 0 * 2 = 0 from rfl] at hx635_1); (try rw [Addr.add_zero'] at hx635_1); replace p635 := eq_true p635; replace q635 := eq_true q635))
           repeat (go_quiet (first | (go_at_call 35; (with_reducible refine (waymarklaw02_awake.calls k1  true _ A13.out).mono ?_); rintro e w26 ⟨rfl, hb⟩; have n0_ := Aside0.mk (Kd.R_below (by (with_reducible repeat (first | apply Kd.R_alloc | apply Kd.R_drewN | apply Kd.R_drew)); exact HO633.out) hb); have n1_ := Aside0.mk (below_step (by repeat (first | (with_reducible first | exact HB.out | apply below_alloc | apply pw_below_drewN | apply below_drew1) | exact HB.out)) hb); clear HO633; clear HB; have HO633 := n0_; have HB := n1_; clear n0_ n1_; (try clear hb); (try clear hb2); (try clear hk); (try clear hi); obtain ⟨Ao27, co27, eo27⟩ := Kd.R_slice HO633.out; subst eo27; have p635 : 0 ≤ (0 : Int) := (by omega); have q635 : 0 < (t630.length : Int) := of_decide_eq_true (by first | (with_reducible assumption) | assumption); obtain ⟨ad635, e635, hx635_0, hx635_1⟩ := at_T31 (Kd.R_reads' HO633.out).2.2 0 p635 q635; cases e635; have qi635 : (0 < t630.length) = True := eq_true (by omega); (try rw [show ((0 : Int)).toNat = 0 from rfl] at hx635_0); (try rw [show 0 * 2 = 0 from rfl] at hx635_0); (try rw [Addr.add_zero'] at hx635_0); (try rw [show ((0 : Int)).toNat = 0 from rfl] at hx635_1); (try rw [show 0 * 2 = 0 from rfl] at hx635_1); (try rw [Addr.add_zero'] at hx635_1); replace p635 := eq_true p635; replace q635 := eq_true q635)); try go_wp2_with (first | (go_at_call 35; (with_reducible refine (waymarklaw02_awake.calls k1  true _ A13.out).mono ?_); rintro e w26 ⟨rfl, hb⟩; have n0_ := Aside0.mk (Kd.R_below (by (with_reducible repeat (first | apply Kd.R_alloc | apply Kd.R_drewN | apply Kd.R_drew)); exact HO633.out) hb); have n1_ := Aside0.mk (below_step (by repeat (first | (with_reducible first | exact HB.out | apply below_alloc | apply pw_below_drewN | apply below_drew1) | exact HB.out)) hb); clear HO633; clear HB; have HO633 := n0_; have HB := n1_; clear n0_ n1_; (try clear hb); (try clear hb2); (try clear hk); (try clear hi); obtain ⟨Ao27, co27, eo27⟩ := Kd.R_slice HO633.out; subst eo27; have p635 : 0 ≤ (0 : Int) := (by omega); have q635 : 0 < (t630.length : Int) := of_decide_eq_true (by first | (with_reducible assumption) | assumption); obtain ⟨ad635, e635, hx635_0, hx635_1⟩ := at_T31 (Kd.R_reads' HO633.out).2.2 0 p635 q635; cases e635; have qi635 : (0 < t630.length) = True := eq_true (by omega); (try rw [show ((0 : Int)).toNat = 0 from rfl] at hx635_0); (try rw [show 0 * 2 = 0 from rfl] at hx635_0); (try rw [Addr.add_zero'] at hx635_0); (try rw [show ((0 : Int)).toNat = 0 from rfl] at hx635_1); (try rw [show 0 * 2 = 0 from rfl] at hx635_1); (try rw [Addr.add_zero'] at hx635_1); replace p635 := eq_true p635; replace q635 := eq_true q635)))
           go_meet
           case rel => exact ⟨_, (true), (by first | rfl | (simp; done) | (simp [*]; done)), H', ⟨by have := HK1.out; first | omega | exact Nat.le_refl _⟩, ⟨by (with_reducible repeat (first | apply Kd.R_alloc | apply Kd.R_drewN | apply Kd.R_drew)); exact HO633.out⟩, ⟨by repeat (first | (with_reducible first | exact HB.out | apply below_alloc | apply pw_below_drewN | apply below_drew1) | exact HB.out)⟩⟩
         ·rw [if_neg c19] at H
          exact absurd H (by simp)
       ·as_aux_lemma =>
        rw [if_neg c15] at H
        have c15b0 : (t631 == 0) = false := beq_eq_false_iff_ne.mpr c15
        have c15b1 : (t631 != 0) = true := bne_iff_ne.mpr c15
        (first | rw [c15b0] | (simp only [i64_w, i32_w]; rw [c15b0]) | skip)
        have H' := Aside0.mk H
        clear H
        go_wp2_with (first | (go_at_call 35; (with_reducible refine (waymarklaw02_awake.calls k1  true _ A13.out).mono ?_); rintro e w28 ⟨rfl, hb⟩; have n0_ := Aside0.mk (Kd.R_below (by (with_reducible repeat (first | apply Kd.R_alloc | apply Kd.R_drewN | apply Kd.R_drew)); exact HO633.out) hb); have n1_ := Aside0.mk (below_step (by repeat (first | (with_reducible first | exact HB.out | apply below_alloc | apply pw_below_drewN | apply below_drew1) | exact HB.out)) hb); clear HO633; clear HB; have HO633 := n0_; have HB := n1_; clear n0_ n1_; (try clear hb); (try clear hb2); (try clear hk); (try clear hi)))
        repeat (go_quiet (first | (go_at_call 35; (with_reducible refine (waymarklaw02_awake.calls k1  true _ A13.out).mono ?_); rintro e w28 ⟨rfl, hb⟩; have n0_ := Aside0.mk (Kd.R_below (by (with_reducible repeat (first | apply Kd.R_alloc | apply Kd.R_drewN | apply Kd.R_drew)); exact HO633.out) hb); have n1_ := Aside0.mk (below_step (by repeat (first | (with_reducible first | exact HB.out | apply below_alloc | apply pw_below_drewN | apply below_drew1) | exact HB.out)) hb); clear HO633; clear HB; have HO633 := n0_; have HB := n1_; clear n0_ n1_; (try clear hb); (try clear hb2); (try clear hk); (try clear hi))); try go_wp2_with (first | (go_at_call 35; (with_reducible refine (waymarklaw02_awake.calls k1  true _ A13.out).mono ?_); rintro e w28 ⟨rfl, hb⟩; have n0_ := Aside0.mk (Kd.R_below (by (with_reducible repeat (first | apply Kd.R_alloc | apply Kd.R_drewN | apply Kd.R_drew)); exact HO633.out) hb); have n1_ := Aside0.mk (below_step (by repeat (first | (with_reducible first | exact HB.out | apply below_alloc | apply pw_below_drewN | apply below_drew1) | exact HB.out)) hb); clear HO633; clear HB; have HO633 := n0_; have HB := n1_; clear n0_ n1_; (try clear hb); (try clear hb2); (try clear hk); (try clear hi))))
        go_meet
        case rel => exact ⟨_, (true), (by first | rfl | (simp; done) | (simp [*]; done)), H', ⟨by have := HK1.out; first | omega | exact Nat.le_refl _⟩, ⟨by (with_reducible repeat (first | apply Kd.R_alloc | apply Kd.R_drewN | apply Kd.R_drew)); exact HO633.out⟩, ⟨by repeat (first | (with_reducible first | exact HB.out | apply below_alloc | apply pw_below_drewN | apply below_drew1) | exact HB.out)⟩⟩
      ·as_aux_lemma =>
       replace c14 := Bool.eq_false_iff.mpr c14
       subst c14
       have H1 : (waymarklaw02_SpansCut_E.j1 k1 a0 l1 a2 t630 true) = some r := by rw [if_neg (show ¬ (false = true) by decide)] at H; exact H
       clear H
       have H := H1
       clear H1
       have H' := Aside0.mk H
       clear H
       go_wp2_with (first | (go_at_call 35; (with_reducible refine (waymarklaw02_awake.calls k1  false _ A13.out).mono ?_); rintro e w29 ⟨rfl, hb⟩; have n0_ := Aside0.mk (Kd.R_below (by (with_reducible repeat (first | apply Kd.R_alloc | apply Kd.R_drewN | apply Kd.R_drew)); exact HO633.out) hb); have n1_ := Aside0.mk (below_step (by repeat (first | (with_reducible first | exact HB.out | apply below_alloc | apply pw_below_drewN | apply below_drew1) | exact HB.out)) hb); clear HO633; clear HB; have HO633 := n0_; have HB := n1_; clear n0_ n1_; (try clear hb); (try clear hb2); (try clear hk); (try clear hi)))
       repeat (go_quiet (first | (go_at_call 35; (with_reducible refine (waymarklaw02_awake.calls k1  false _ A13.out).mono ?_); rintro e w29 ⟨rfl, hb⟩; have n0_ := Aside0.mk (Kd.R_below (by (with_reducible repeat (first | apply Kd.R_alloc | apply Kd.R_drewN | apply Kd.R_drew)); exact HO633.out) hb); have n1_ := Aside0.mk (below_step (by repeat (first | (with_reducible first | exact HB.out | apply below_alloc | apply pw_below_drewN | apply below_drew1) | exact HB.out)) hb); clear HO633; clear HB; have HO633 := n0_; have HB := n1_; clear n0_ n1_; (try clear hb); (try clear hb2); (try clear hk); (try clear hi))); try go_wp2_with (first | (go_at_call 35; (with_reducible refine (waymarklaw02_awake.calls k1  false _ A13.out).mono ?_); rintro e w29 ⟨rfl, hb⟩; have n0_ := Aside0.mk (Kd.R_below (by (with_reducible repeat (first | apply Kd.R_alloc | apply Kd.R_drewN | apply Kd.R_drew)); exact HO633.out) hb); have n1_ := Aside0.mk (below_step (by repeat (first | (with_reducible first | exact HB.out | apply below_alloc | apply pw_below_drewN | apply below_drew1) | exact HB.out)) hb); clear HO633; clear HB; have HO633 := n0_; have HB := n1_; clear n0_ n1_; (try clear hb); (try clear hb2); (try clear hk); (try clear hi))))
       go_meet
       case rel => exact ⟨_, (true), (by first | rfl | (simp; done) | (simp [*]; done)), H', ⟨by have := HK1.out; first | omega | exact Nat.le_refl _⟩, ⟨by (with_reducible repeat (first | apply Kd.R_alloc | apply Kd.R_drewN | apply Kd.R_drew)); exact HO633.out⟩, ⟨by repeat (first | (with_reducible first | exact HB.out | apply below_alloc | apply pw_below_drewN | apply below_drew1) | exact HB.out)⟩⟩
     case rest =>
      clear HC11
      try clear c1
      try clear c2
      try clear p2
      try clear c4
      try clear c4b0
      try clear c4b1
      try clear c5
      try clear c5b0
      try clear c6
      try clear c6b0
      try clear p6
      try clear q6
      try clear hx6
      try clear qi6
      try clear c7
      try clear c7b0
      try clear c7b1
      try clear c10
      try clear c14
      try clear c15
      try clear c15b0
      try clear c15b1
      try clear c16
      try clear c16b0
      try clear c16b1
      try clear c16b2
      try clear c19
      try clear c19b0
      try clear c19b1
      try clear c20
      try clear c20b0
      try clear c20b1
      try clear c22
      try clear c22b0
      try clear c23
      try clear c23b0
      try clear hx628_0
      try clear hx635_0
      try clear hx635_1
      try clear hx636_0
      try clear hx636_1
      try clear p2
      try clear p628
      try clear p635
      try clear p636
      try clear q628
      try clear q635
      try clear q636
      obtain ⟨kq, x68_10, rfl, HA, HJ10, HO_8, HB⟩ := hcut
      cases kq with
      | zero => exact absurd HA.out (by simp [waymarklaw02_SpansCut_E.j1])
      | succ kj10 =>
       have H := HA.out
       clear HA
       simp only [waymarklaw02_SpansCut_E.j1] at H
       by_cases c30 : x68_10 = true
       ·subst c30
        have H1 : (none) = some r := by rw [if_pos rfl] at H; exact H
        clear H
        have H := H1
        clear H1
        exact absurd H (by simp)
       ·replace c30 := Bool.eq_false_iff.mpr c30
        subst c30
        have H1 : (waymarklaw02_SpansCut_E.l1 kj10 a0 l1 a2 t630 0 0) = some r := by rw [if_neg (show ¬ (false = true) by decide)] at H; exact H
        clear H
        have H := H1
        clear H1
        have H' := Aside0.mk H
        clear H
        go_wp2
        repeat (go_quiet (fail); try go_wp2)
        go_loopg [10, 11] kj10 (fun kq v10 v11 w' => ∃ (x10_3 : Int) (x11_3 : Int), v10 = .int .u64 x10_3 ∧ v11 = .int .i64 x11_3 ∧ Aside0 (waymarklaw02_SpansCut_E.l1 kq a0 l1 a2 t630 x10_3 x11_3 = some r) ∧ Aside0 (kq ≤ kj10) ∧ Aside0 (Kd.R k31 31 w' w.heap.size (fun _ => True) v632 t630) ∧ Aside0 (Below w.heap.size w w'))
        case atStart => exact ⟨(0), (0), (by first | rfl | (simp; done) | (simp [*]; done)), (by first | rfl | (simp; done) | (simp [*]; done)), H', ⟨Nat.le_refl _⟩, ⟨by (with_reducible repeat (first | apply Kd.R_alloc | apply Kd.R_drewN | apply Kd.R_drew)); exact HO_8.out⟩, ⟨by repeat (first | (with_reducible first | exact HB.out | apply below_alloc | apply pw_below_drewN | apply below_drew1) | exact HB.out)⟩⟩
        case round =>
         clear H'
         try clear c1
         try clear c2
         try clear p2
         try clear c3
         try clear c4
         try clear c4b0
         try clear c4b1
         try clear c5
         try clear c5b0
         try clear c6
         try clear c6b0
         try clear p6
         try clear q6
         try clear hx6
         try clear qi6
         try clear c7
         try clear c7b0
         try clear c7b1
         try clear c10
         try clear c14
         try clear c15
         try clear c15b0
         try clear c15b1
         try clear c16
         try clear c16b0
         try clear c16b1
         try clear c16b2
         try clear c19
         try clear c19b0
         try clear c19b1
         try clear c20
         try clear c20b0
         try clear c20b1
         try clear c22
         try clear c22b0
         try clear c23
         try clear c23b0
         try clear c30
         try clear hx628_0
         try clear hx635_0
         try clear hx635_1
         try clear hx636_0
         try clear hx636_1
         try clear p2
         try clear p6
         try clear p628
         try clear p635
         try clear p636
         try clear q6
         try clear q628
         try clear q635
         try clear q636
         obtain ⟨x10_3, x11_3, rfl, rfl, HA, HK3, HO_8, HB⟩ := hrel
         cases gk with
         | zero => exact absurd HA.out (by simp [waymarklaw02_SpansCut_E.l1])
         | succ k3 =>
          have H := HA.out
          clear HA
          simp only [waymarklaw02_SpansCut_E.l1] at H
          by_cases c31 : x11_3 < (t630.length : Int)
          ·rw [if_pos c31] at H
           have c31b0 : decide (x11_3 < (t630.length : Int)) = true := decide_eq_true c31
           clear c31
           have HC32 := Aside0.mk H
           clear H
           obtain ⟨Ao33, co33, eo33⟩ := Kd.R_slice HO_8.out
           subst eo33
           go_upto_region 15 with (fail)
           repeat (go_quiet (fail); go_upto_region 15 with (fail))
           go_cut [104] (fun v104 wc => ∃ (kq : Nat) (x104_31 : Bool), v104 = .bool x104_31 ∧ Aside0 (waymarklaw02_SpansCut_E.j3 kq a0 l1 a2 t630 x10_3 x11_3 x104_31 = some r) ∧ Aside0 (kq ≤ k3) ∧ Aside0 (Kd.R k31 31 wc w.heap.size (fun _ => True) (.slice Ao33 t630.length co33) t630) ∧ Aside0 (Below w.heap.size w wc))
           case first =>
            have H := HC32.out
            clear HC32
            by_cases c34 : 0 ≤ x11_3
            ·rw [if_pos c34] at H
             have c34b0 : decide (0 ≤ x11_3) = true := decide_eq_true c34
             clear c34
             (first | rw [c34b0] | (simp only [i64_w, i32_w]; rw [c34b0]) | skip)
             by_cases c35 : ((rd_T31 t630 x11_3).f0) > ((rd_T31 t630 x11_3).f1)
             ·as_aux_lemma =>
              rw [if_pos c35] at H
              have c35b0 : decide (((rd_T31 t630 x11_3).f1) < ((rd_T31 t630 x11_3).f0)) = true := decide_eq_true c35
              clear c35
              have H' := Aside0.mk H
              clear H
              have p637 : 0 ≤ (x11_3 : Int) := of_decide_eq_true (by first | (with_reducible assumption) | assumption)
              have q637 : x11_3 < (t630.length : Int) := of_decide_eq_true (by first | (with_reducible assumption) | assumption)
              obtain ⟨ad637, e637, hx637_0, hx637_1⟩ := at_T31 (Kd.R_reads' HO_8.out).2.2 x11_3 p637 q637
              cases e637
              replace p637 := eq_true p637
              replace q637 := eq_true q637
              have p638 : 0 ≤ (x11_3 : Int) := of_decide_eq_true (by first | (with_reducible assumption) | assumption)
              have q638 : x11_3 < (t630.length : Int) := of_decide_eq_true (by first | (with_reducible assumption) | assumption)
              obtain ⟨ad638, e638, hx638_0, hx638_1⟩ := at_T31 (Kd.R_reads' HO_8.out).2.2 x11_3 p638 q638
              obtain rfl : ad637 = ad638 := (by injection e638)
              replace p638 := eq_true p638
              replace q638 := eq_true q638
              go_wp2
              repeat (go_quiet (fail); try go_wp2)
              go_meet
              case rel => exact ⟨_, (true), (by first | rfl | (simp; done) | (simp [*]; done)), H', ⟨by have := HK1.out; have := HJ10.out; have := HK3.out; first | omega | exact Nat.le_refl _⟩, ⟨by (with_reducible repeat (first | apply Kd.R_alloc | apply Kd.R_drewN | apply Kd.R_drew)); exact HO_8.out⟩, ⟨by repeat (first | (with_reducible first | exact HB.out | apply below_alloc | apply pw_below_drewN | apply below_drew1) | exact HB.out)⟩⟩
             ·rw [if_neg c35] at H
              have c35b0 : decide (((rd_T31 t630 x11_3).f1) < ((rd_T31 t630 x11_3).f0)) = false := decide_eq_false c35
              clear c35
              by_cases c36 : x11_3 > 0
              ·rw [if_pos c36] at H
               have c36b0 : decide (0 < x11_3) = true := decide_eq_true c36
               clear c36
               obtain ⟨ji37, hji37⟩ : ∃ j_ : Int, (wrap64 (x11_3 - 1)) = j_ := ⟨_, rfl⟩
               replace H : (if 0 ≤ (ji37) then (if (ji37) < (t630.length : Int) then (waymarklaw02_SpansCut_E.j3 k3 a0 l1 a2 t630 x10_3 x11_3 (((rd_T31 t630 x11_3).f0) != ((((rd_T31 t630 (ji37)).f1) + 1) % 4294967296))) else (none)) else (none)) = some r := by first | (rw [hji37] at H; exact H) | (simp only [hji37] at H ⊢; exact H)
               have hji37w : (IntKind.i64.wrap (x11_3 - 1)) = ji37 := (i64_w _).trans hji37
               by_cases c38 : 0 ≤ (ji37)
               ·rw [if_pos c38] at H
                have c38b0 : decide (0 ≤ (ji37)) = true := decide_eq_true c38
                clear c38
                by_cases c39 : (ji37) < (t630.length : Int)
                ·as_aux_lemma =>
                 rw [if_pos c39] at H
                 have c39b0 : decide ((ji37) < (t630.length : Int)) = true := decide_eq_true c39
                 clear c39
                 have H' := Aside0.mk H
                 clear H
                 have p637 : 0 ≤ (x11_3 : Int) := of_decide_eq_true (by first | (with_reducible assumption) | assumption)
                 have q637 : x11_3 < (t630.length : Int) := of_decide_eq_true (by first | (with_reducible assumption) | assumption)
                 obtain ⟨ad637, e637, hx637_0, hx637_1⟩ := at_T31 (Kd.R_reads' HO_8.out).2.2 x11_3 p637 q637
                 cases e637
                 replace p637 := eq_true p637
                 replace q637 := eq_true q637
                 have p638 : 0 ≤ (x11_3 : Int) := of_decide_eq_true (by first | (with_reducible assumption) | assumption)
                 have q638 : x11_3 < (t630.length : Int) := of_decide_eq_true (by first | (with_reducible assumption) | assumption)
                 obtain ⟨ad638, e638, hx638_0, hx638_1⟩ := at_T31 (Kd.R_reads' HO_8.out).2.2 x11_3 p638 q638
                 obtain rfl : ad637 = ad638 := (by injection e638)
                 replace p638 := eq_true p638
                 replace q638 := eq_true q638
                 have p639 : 0 ≤ (x11_3 : Int) := of_decide_eq_true (by first | (with_reducible assumption) | assumption)
                 have q639 : x11_3 < (t630.length : Int) := of_decide_eq_true (by first | (with_reducible assumption) | assumption)
                 obtain ⟨ad639, e639, hx639_0, hx639_1⟩ := at_T31 (Kd.R_reads' HO_8.out).2.2 x11_3 p639 q639
                 obtain rfl : ad637 = ad639 := (by injection e639)
                 replace p639 := eq_true p639
                 replace q639 := eq_true q639
                 have p640 : 0 ≤ ((ji37) : Int) := of_decide_eq_true (by first | (with_reducible assumption) | assumption)
                 have q640 : (ji37) < (t630.length : Int) := of_decide_eq_true (by first | (with_reducible assumption) | assumption)
                 obtain ⟨ad640, e640, hx640_0, hx640_1⟩ := at_T31 (Kd.R_reads' HO_8.out).2.2 (ji37) p640 q640
                 obtain rfl : ad637 = ad640 := (by injection e640)
                 replace p640 := eq_true p640
                 replace q640 := eq_true q640
                 go_wp2
                 repeat (go_quiet (fail); try go_wp2)
                 go_meet
                 case rel => exact ⟨_, ((((rd_T31 t630 x11_3).f0) != ((((rd_T31 t630 (ji37)).f1) + 1) % 4294967296))), (by first | rfl | (simp; done) | (simp only [← hji37] <;> (first | rfl | simp)) | (simp [*]; done)), H', ⟨by have := HK1.out; have := HJ10.out; have := HK3.out; first | omega | exact Nat.le_refl _⟩, ⟨by (with_reducible repeat (first | apply Kd.R_alloc | apply Kd.R_drewN | apply Kd.R_drew)); exact HO_8.out⟩, ⟨by repeat (first | (with_reducible first | exact HB.out | apply below_alloc | apply pw_below_drewN | apply below_drew1) | exact HB.out)⟩⟩
                ·rw [if_neg c39] at H
                 exact absurd H (by simp)
               ·rw [if_neg c38] at H
                exact absurd H (by simp)
              ·as_aux_lemma =>
               rw [if_neg c36] at H
               have c36b0 : decide (0 < x11_3) = false := decide_eq_false c36
               clear c36
               have H' := Aside0.mk H
               clear H
               have p637 : 0 ≤ (x11_3 : Int) := of_decide_eq_true (by first | (with_reducible assumption) | assumption)
               have q637 : x11_3 < (t630.length : Int) := of_decide_eq_true (by first | (with_reducible assumption) | assumption)
               obtain ⟨ad637, e637, hx637_0, hx637_1⟩ := at_T31 (Kd.R_reads' HO_8.out).2.2 x11_3 p637 q637
               cases e637
               replace p637 := eq_true p637
               replace q637 := eq_true q637
               have p638 : 0 ≤ (x11_3 : Int) := of_decide_eq_true (by first | (with_reducible assumption) | assumption)
               have q638 : x11_3 < (t630.length : Int) := of_decide_eq_true (by first | (with_reducible assumption) | assumption)
               obtain ⟨ad638, e638, hx638_0, hx638_1⟩ := at_T31 (Kd.R_reads' HO_8.out).2.2 x11_3 p638 q638
               obtain rfl : ad637 = ad638 := (by injection e638)
               replace p638 := eq_true p638
               replace q638 := eq_true q638
               go_wp2
               repeat (go_quiet (fail); try go_wp2)
               go_meet
               case rel => exact ⟨_, (false), (by first | rfl | (simp; done) | (simp [*]; done)), H', ⟨by have := HK1.out; have := HJ10.out; have := HK3.out; first | omega | exact Nat.le_refl _⟩, ⟨by (with_reducible repeat (first | apply Kd.R_alloc | apply Kd.R_drewN | apply Kd.R_drew)); exact HO_8.out⟩, ⟨by repeat (first | (with_reducible first | exact HB.out | apply below_alloc | apply pw_below_drewN | apply below_drew1) | exact HB.out)⟩⟩
            ·rw [if_neg c34] at H
             exact absurd H (by simp)
           case rest =>
            clear HC32
            try clear c1
            try clear c2
            try clear p2
            try clear c3
            try clear c4
            try clear c4b0
            try clear c4b1
            try clear c5
            try clear c5b0
            try clear c6
            try clear c6b0
            try clear p6
            try clear q6
            try clear hx6
            try clear qi6
            try clear c7
            try clear c7b0
            try clear c7b1
            try clear c10
            try clear c14
            try clear c15
            try clear c15b0
            try clear c15b1
            try clear c16
            try clear c16b0
            try clear c16b1
            try clear c16b2
            try clear c19
            try clear c19b0
            try clear c19b1
            try clear c20
            try clear c20b0
            try clear c20b1
            try clear c22
            try clear c22b0
            try clear c23
            try clear c23b0
            try clear c30
            try clear c31
            try clear c31b0
            try clear c34
            try clear c34b0
            try clear c35
            try clear c35b0
            try clear c36
            try clear c36b0
            try clear c38
            try clear c38b0
            try clear c39
            try clear c39b0
            try clear hx628_0
            try clear hx635_0
            try clear hx635_1
            try clear hx636_0
            try clear hx636_1
            try clear hx637_0
            try clear hx637_1
            try clear hx638_0
            try clear hx638_1
            try clear hx639_0
            try clear hx639_1
            try clear hx640_0
            try clear hx640_1
            try clear p2
            try clear p6
            try clear p628
            try clear p635
            try clear p636
            try clear p637
            try clear p638
            try clear p639
            try clear p640
            try clear q6
            try clear q628
            try clear q635
            try clear q636
            try clear q637
            try clear q638
            try clear q639
            try clear q640
            obtain ⟨kq, x104_31, rfl, HA, HJ31, HO_8, HB⟩ := hcut
            cases kq with
            | zero => exact absurd HA.out (by simp [waymarklaw02_SpansCut_E.j3])
            | succ kj31 =>
             have H := HA.out
             clear HA
             simp only [waymarklaw02_SpansCut_E.j3] at H
             by_cases c40 : x104_31 = true
             ·subst c40
              have H1 : (none) = some r := by rw [if_pos rfl] at H; exact H
              clear H
              have H := H1
              clear H1
              exact absurd H (by simp)
             ·replace c40 := Bool.eq_false_iff.mpr c40
              subst c40
              have H1 : (if 0 ≤ x11_3 then (if x11_3 < (t630.length : Int) then (if (IntKind.u64.wrap ((IntKind.u64.wrap ((IntKind.u64.wrap ((rd_T31 t630 x11_3).f1)) - (IntKind.u64.wrap ((rd_T31 t630 x11_3).f0)))) + 1)) = 0 then (none) else (waymarklaw02_SpansCut_E.l2 kj31 a0 l1 a2 t630 (IntKind.u64.wrap ((IntKind.u64.wrap ((IntKind.u64.wrap (x10_3 + (IntKind.u64.wrap ((rd_T31 t630 x11_3).f1)))) - (IntKind.u64.wrap ((rd_T31 t630 x11_3).f0)))) + 1)) x11_3 ((((rd_T31 t630 x11_3).f0) + ((Int.tmod (IntKind.u64.wrap (a2)) (IntKind.u64.wrap ((IntKind.u64.wrap ((IntKind.u64.wrap ((rd_T31 t630 x11_3).f1)) - (IntKind.u64.wrap ((rd_T31 t630 x11_3).f0)))) + 1))) % 4294967296)) % 4294967296) (x11_3 == 0) 0)) else (none)) else (none)) = some r := by rw [if_neg (show ¬ (false = true) by decide)] at H; exact H
              clear H
              have H := H1
              clear H1
              by_cases c41 : 0 ≤ x11_3
              ·rw [if_pos c41] at H
               have c41b0 : decide (0 ≤ x11_3) = true := decide_eq_true c41
               clear c41
               by_cases c42 : x11_3 < (t630.length : Int)
               ·rw [if_pos c42] at H
                have c42b0 : decide (x11_3 < (t630.length : Int)) = true := decide_eq_true c42
                clear c42
                by_cases c43 : (IntKind.u64.wrap ((IntKind.u64.wrap ((IntKind.u64.wrap ((rd_T31 t630 x11_3).f1)) - (IntKind.u64.wrap ((rd_T31 t630 x11_3).f0)))) + 1)) = 0
                ·rw [if_pos c43] at H
                 exact absurd H (by simp)
                ·rw [if_neg c43] at H
                 have c43b0 : ((IntKind.u64.wrap ((IntKind.u64.wrap ((IntKind.u64.wrap ((rd_T31 t630 x11_3).f1)) - (IntKind.u64.wrap ((rd_T31 t630 x11_3).f0)))) + 1)) == 0) = false := beq_eq_false_iff_ne.mpr c43
                 have c43b1 : ((IntKind.u64.wrap ((IntKind.u64.wrap ((IntKind.u64.wrap ((rd_T31 t630 x11_3).f1)) - (IntKind.u64.wrap ((rd_T31 t630 x11_3).f0)))) + 1)) != 0) = true := bne_iff_ne.mpr c43
                 have H' := Aside0.mk H
                 clear H
                 have p641 : 0 ≤ (x11_3 : Int) := of_decide_eq_true (by first | (with_reducible assumption) | assumption)
                 have q641 : x11_3 < (t630.length : Int) := of_decide_eq_true (by first | (with_reducible assumption) | assumption)
                 obtain ⟨ad641, e641, hx641_0, hx641_1⟩ := at_T31 (Kd.R_reads' HO_8.out).2.2 x11_3 p641 q641
                 cases e641
                 replace p641 := eq_true p641
                 replace q641 := eq_true q641
                 have p642 : 0 ≤ (x11_3 : Int) := of_decide_eq_true (by first | (with_reducible assumption) | assumption)
                 have q642 : x11_3 < (t630.length : Int) := of_decide_eq_true (by first | (with_reducible assumption) | assumption)
                 obtain ⟨ad642, e642, hx642_0, hx642_1⟩ := at_T31 (Kd.R_reads' HO_8.out).2.2 x11_3 p642 q642
                 obtain rfl : ad641 = ad642 := (by injection e642)
                 replace p642 := eq_true p642
                 replace q642 := eq_true q642
                 have p643 : 0 ≤ (x11_3 : Int) := of_decide_eq_true (by first | (with_reducible assumption) | assumption)
                 have q643 : x11_3 < (t630.length : Int) := of_decide_eq_true (by first | (with_reducible assumption) | assumption)
                 obtain ⟨ad643, e643, hx643_0, hx643_1⟩ := at_T31 (Kd.R_reads' HO_8.out).2.2 x11_3 p643 q643
                 obtain rfl : ad641 = ad643 := (by injection e643)
                 replace p643 := eq_true p643
                 replace q643 := eq_true q643
                 have p644 : 0 ≤ (x11_3 : Int) := of_decide_eq_true (by first | (with_reducible assumption) | assumption)
                 have q644 : x11_3 < (t630.length : Int) := of_decide_eq_true (by first | (with_reducible assumption) | assumption)
                 obtain ⟨ad644, e644, hx644_0, hx644_1⟩ := at_T31 (Kd.R_reads' HO_8.out).2.2 x11_3 p644 q644
                 obtain rfl : ad641 = ad644 := (by injection e644)
                 replace p644 := eq_true p644
                 replace q644 := eq_true q644
                 have p645 : 0 ≤ (x11_3 : Int) := of_decide_eq_true (by first | (with_reducible assumption) | assumption)
                 have q645 : x11_3 < (t630.length : Int) := of_decide_eq_true (by first | (with_reducible assumption) | assumption)
                 obtain ⟨ad645, e645, hx645_0, hx645_1⟩ := at_T31 (Kd.R_reads' HO_8.out).2.2 x11_3 p645 q645
                 obtain rfl : ad641 = ad645 := (by injection e645)
                 replace p645 := eq_true p645
                 replace q645 := eq_true q645
                 go_wp2
                 repeat (go_quiet (fail); try go_wp2)
                 try simp only [← u32x39]
                 go_loopg [13, 14] kj31 (fun kq v13 v14 w' => ∃ (x13_5 : Bool) (x14_5 : Int), v13 = .bool x13_5 ∧ v14 = .int .i64 x14_5 ∧ Aside0 (waymarklaw02_SpansCut_E.l2 kq a0 l1 a2 t630 (IntKind.u64.wrap ((IntKind.u64.wrap ((IntKind.u64.wrap (x10_3 + (IntKind.u64.wrap ((rd_T31 t630 x11_3).f1)))) - (IntKind.u64.wrap ((rd_T31 t630 x11_3).f0)))) + 1)) x11_3 ((((rd_T31 t630 x11_3).f0) + ((Int.tmod (IntKind.u64.wrap (a2)) (IntKind.u64.wrap ((IntKind.u64.wrap ((IntKind.u64.wrap ((rd_T31 t630 x11_3).f1)) - (IntKind.u64.wrap ((rd_T31 t630 x11_3).f0)))) + 1))) % 4294967296)) % 4294967296) x13_5 x14_5 = some r) ∧ Aside0 (kq ≤ kj31) ∧ Aside0 (Kd.R k31 31 w' w.heap.size (fun _ => True) (.slice (some ad641) t630.length co33) t630) ∧ Aside0 (Below w.heap.size w w'))
                 case atStart => exact ⟨((x11_3 == 0)), (0), (by first | rfl | (simp; done) | (simp [*]; done)), (by first | rfl | (simp; done) | (simp [*]; done)), H', ⟨Nat.le_refl _⟩, ⟨by (with_reducible repeat (first | apply Kd.R_alloc | apply Kd.R_drewN | apply Kd.R_drew)); exact HO_8.out⟩, ⟨by repeat (first | (with_reducible first | exact HB.out | apply below_alloc | apply pw_below_drewN | apply below_drew1) | exact HB.out)⟩⟩
                 case round =>
                  clear H'
                  try clear c1
                  try clear c2
                  try clear p2
                  try clear c3
                  try clear c4
                  try clear c4b0
                  try clear c4b1
                  try clear c5
                  try clear c5b0
                  try clear c6
                  try clear c6b0
                  try clear p6
                  try clear q6
                  try clear hx6
                  try clear qi6
                  try clear c7
                  try clear c7b0
                  try clear c7b1
                  try clear c10
                  try clear c14
                  try clear c15
                  try clear c15b0
                  try clear c15b1
                  try clear c16
                  try clear c16b0
                  try clear c16b1
                  try clear c16b2
                  try clear c19
                  try clear c19b0
                  try clear c19b1
                  try clear c20
                  try clear c20b0
                  try clear c20b1
                  try clear c22
                  try clear c22b0
                  try clear c23
                  try clear c23b0
                  try clear c30
                  try clear c31
                  try clear c31b0
                  try clear c34
                  try clear c34b0
                  try clear c35
                  try clear c35b0
                  try clear c36
                  try clear c36b0
                  try clear c38
                  try clear c38b0
                  try clear c39
                  try clear c39b0
                  try clear c40
                  try clear c41
                  try clear c41b0
                  try clear c42
                  try clear c42b0
                  try clear c43
                  try clear c43b0
                  try clear c43b1
                  try clear hx628_0
                  try clear hx635_0
                  try clear hx635_1
                  try clear hx636_0
                  try clear hx636_1
                  try clear hx637_0
                  try clear hx637_1
                  try clear hx638_0
                  try clear hx638_1
                  try clear hx639_0
                  try clear hx639_1
                  try clear hx640_0
                  try clear hx640_1
                  try clear hx641_0
                  try clear hx641_1
                  try clear hx642_0
                  try clear hx642_1
                  try clear hx643_0
                  try clear hx643_1
                  try clear hx644_0
                  try clear hx644_1
                  try clear hx645_0
                  try clear hx645_1
                  try clear p2
                  try clear p6
                  try clear p628
                  try clear p635
                  try clear p636
                  try clear p637
                  try clear p638
                  try clear p639
                  try clear p640
                  try clear p641
                  try clear p642
                  try clear p643
                  try clear p644
                  try clear p645
                  try clear q6
                  try clear q628
                  try clear q635
                  try clear q636
                  try clear q637
                  try clear q638
                  try clear q639
                  try clear q640
                  try clear q641
                  try clear q642
                  try clear q643
                  try clear q644
                  try clear q645
                  obtain ⟨x13_5, x14_5, rfl, rfl, HA, HK5, HO_8, HB⟩ := hrel
                  cases gk with
                  | zero => exact absurd HA.out (by simp [waymarklaw02_SpansCut_E.l2])
                  | succ k5 =>
                   have H := HA.out
                   clear HA
                   simp only [waymarklaw02_SpansCut_E.l2] at H
                   by_cases c44 : x14_5 < (l1.length : Int)
                   ·rw [if_pos c44] at H
                    have c44b0 : decide (x14_5 < (l1.length : Int)) = true := decide_eq_true c44
                    clear c44
                    by_cases c45 : 0 ≤ x14_5
                    ·rw [if_pos c45] at H
                     have c45b0 : decide (0 ≤ x14_5) = true := decide_eq_true c45
                     clear c45
                     by_cases c46 : 0 ≤ x11_3
                     ·rw [if_pos c46] at H
                      have c46b0 : decide (0 ≤ x11_3) = true := decide_eq_true c46
                      clear c46
                      by_cases c47 : x11_3 < (t630.length : Int)
                      ·rw [if_pos c47] at H
                       have c47b0 : decide (x11_3 < (t630.length : Int)) = true := decide_eq_true c47
                       clear c47
                       replace H := Option.bind_eq_some_iff.mp H
                       obtain ⟨t648, A480, H⟩ := H
                       replace H : ((waymarkref02_Has.f k5 (rd_L12 l1 x14_5) ((rd_T31 t630 x11_3).f1)).bind fun t651 => (if (t648 != t651) = true then (none) else ((waymarkref02_Has.f k5 (rd_L12 l1 x14_5) ((((rd_T31 t630 x11_3).f0) + ((Int.tmod (IntKind.u64.wrap (a2)) (IntKind.u64.wrap ((IntKind.u64.wrap ((IntKind.u64.wrap ((rd_T31 t630 x11_3).f1)) - (IntKind.u64.wrap ((rd_T31 t630 x11_3).f0)))) + 1))) % 4294967296)) % 4294967296)).bind fun t653 => (if (t648 != t653) = true then (none) else (if x13_5 = true then (waymarklaw02_SpansCut_E.l2 k5 a0 l1 a2 t630 (IntKind.u64.wrap ((IntKind.u64.wrap ((IntKind.u64.wrap (x10_3 + (IntKind.u64.wrap ((rd_T31 t630 x11_3).f1)))) - (IntKind.u64.wrap ((rd_T31 t630 x11_3).f0)))) + 1)) x11_3 ((((rd_T31 t630 x11_3).f0) + ((Int.tmod (IntKind.u64.wrap (a2)) (IntKind.u64.wrap ((IntKind.u64.wrap ((IntKind.u64.wrap ((rd_T31 t630 x11_3).f1)) - (IntKind.u64.wrap ((rd_T31 t630 x11_3).f0)))) + 1))) % 4294967296)) % 4294967296) true (wrap64 (x14_5 + 1))) else ((waymarkref02_Has.f k5 (rd_L12 l1 x14_5) ((((rd_T31 t630 x11_3).f0) - 1) % 4294967296)).bind fun t656 => (waymarklaw02_SpansCut_E.l2 k5 a0 l1 a2 t630 (IntKind.u64.wrap ((IntKind.u64.wrap ((IntKind.u64.wrap (x10_3 + (IntKind.u64.wrap ((rd_T31 t630 x11_3).f1)))) - (IntKind.u64.wrap ((rd_T31 t630 x11_3).f0)))) + 1)) x11_3 ((((rd_T31 t630 x11_3).f0) + ((Int.tmod (IntKind.u64.wrap (a2)) (IntKind.u64.wrap ((IntKind.u64.wrap ((IntKind.u64.wrap ((rd_T31 t630 x11_3).f1)) - (IntKind.u64.wrap ((rd_T31 t630 x11_3).f0)))) + 1))) % 4294967296)) % 4294967296) (t648 != t656) (wrap64 (x14_5 + 1))))))))) = some r := H
                       have A48 := Aside0.mk A480
                       clear A480
                       replace H := Option.bind_eq_some_iff.mp H
                       obtain ⟨t651, A490, H⟩ := H
                       replace H : (if (t648 != t651) = true then (none) else ((waymarkref02_Has.f k5 (rd_L12 l1 x14_5) ((((rd_T31 t630 x11_3).f0) + ((Int.tmod (IntKind.u64.wrap (a2)) (IntKind.u64.wrap ((IntKind.u64.wrap ((IntKind.u64.wrap ((rd_T31 t630 x11_3).f1)) - (IntKind.u64.wrap ((rd_T31 t630 x11_3).f0)))) + 1))) % 4294967296)) % 4294967296)).bind fun t653 => (if (t648 != t653) = true then (none) else (if x13_5 = true then (waymarklaw02_SpansCut_E.l2 k5 a0 l1 a2 t630 (IntKind.u64.wrap ((IntKind.u64.wrap ((IntKind.u64.wrap (x10_3 + (IntKind.u64.wrap ((rd_T31 t630 x11_3).f1)))) - (IntKind.u64.wrap ((rd_T31 t630 x11_3).f0)))) + 1)) x11_3 ((((rd_T31 t630 x11_3).f0) + ((Int.tmod (IntKind.u64.wrap (a2)) (IntKind.u64.wrap ((IntKind.u64.wrap ((IntKind.u64.wrap ((rd_T31 t630 x11_3).f1)) - (IntKind.u64.wrap ((rd_T31 t630 x11_3).f0)))) + 1))) % 4294967296)) % 4294967296) true (wrap64 (x14_5 + 1))) else ((waymarkref02_Has.f k5 (rd_L12 l1 x14_5) ((((rd_T31 t630 x11_3).f0) - 1) % 4294967296)).bind fun t656 => (waymarklaw02_SpansCut_E.l2 k5 a0 l1 a2 t630 (IntKind.u64.wrap ((IntKind.u64.wrap ((IntKind.u64.wrap (x10_3 + (IntKind.u64.wrap ((rd_T31 t630 x11_3).f1)))) - (IntKind.u64.wrap ((rd_T31 t630 x11_3).f0)))) + 1)) x11_3 ((((rd_T31 t630 x11_3).f0) + ((Int.tmod (IntKind.u64.wrap (a2)) (IntKind.u64.wrap ((IntKind.u64.wrap ((IntKind.u64.wrap ((rd_T31 t630 x11_3).f1)) - (IntKind.u64.wrap ((rd_T31 t630 x11_3).f0)))) + 1))) % 4294967296)) % 4294967296) (t648 != t656) (wrap64 (x14_5 + 1)))))))) = some r := H
                       have A49 := Aside0.mk A490
                       clear A490
                       by_cases c50 : (t648 != t651) = true
                       ·rw [if_pos c50] at H
                        exact absurd H (by simp)
                       ·rw [if_neg c50] at H
                        have c50b0 : (t648 != t651) = false := by simpa using c50
                        (try (have c50b1 : decide (t648 = t651) = true := by simpa using c50))
                        (try (have c50b2 : (t648 == t651) = true := by simpa using c50))
                        clear c50
                        replace H := Option.bind_eq_some_iff.mp H
                        obtain ⟨t653, A510, H⟩ := H
                        replace H : (if (t648 != t653) = true then (none) else (if x13_5 = true then (waymarklaw02_SpansCut_E.l2 k5 a0 l1 a2 t630 (IntKind.u64.wrap ((IntKind.u64.wrap ((IntKind.u64.wrap (x10_3 + (IntKind.u64.wrap ((rd_T31 t630 x11_3).f1)))) - (IntKind.u64.wrap ((rd_T31 t630 x11_3).f0)))) + 1)) x11_3 ((((rd_T31 t630 x11_3).f0) + ((Int.tmod (IntKind.u64.wrap (a2)) (IntKind.u64.wrap ((IntKind.u64.wrap ((IntKind.u64.wrap ((rd_T31 t630 x11_3).f1)) - (IntKind.u64.wrap ((rd_T31 t630 x11_3).f0)))) + 1))) % 4294967296)) % 4294967296) true (wrap64 (x14_5 + 1))) else ((waymarkref02_Has.f k5 (rd_L12 l1 x14_5) ((((rd_T31 t630 x11_3).f0) - 1) % 4294967296)).bind fun t656 => (waymarklaw02_SpansCut_E.l2 k5 a0 l1 a2 t630 (IntKind.u64.wrap ((IntKind.u64.wrap ((IntKind.u64.wrap (x10_3 + (IntKind.u64.wrap ((rd_T31 t630 x11_3).f1)))) - (IntKind.u64.wrap ((rd_T31 t630 x11_3).f0)))) + 1)) x11_3 ((((rd_T31 t630 x11_3).f0) + ((Int.tmod (IntKind.u64.wrap (a2)) (IntKind.u64.wrap ((IntKind.u64.wrap ((IntKind.u64.wrap ((rd_T31 t630 x11_3).f1)) - (IntKind.u64.wrap ((rd_T31 t630 x11_3).f0)))) + 1))) % 4294967296)) % 4294967296) (t648 != t656) (wrap64 (x14_5 + 1)))))) = some r := H
                        have A51 := Aside0.mk A510
                        clear A510
                        by_cases c52 : (t648 != t653) = true
                        ·rw [if_pos c52] at H
                         exact absurd H (by simp)
                        ·rw [if_neg c52] at H
                         have c52b0 : (t648 != t653) = false := by simpa using c52
                         (try (have c52b1 : decide (t648 = t653) = true := by simpa using c52))
                         (try (have c52b2 : (t648 == t653) = true := by simpa using c52))
                         clear c52
                         by_cases c53 : x13_5 = true
                         ·as_aux_lemma =>
                          subst c53
                          have H1 : (waymarklaw02_SpansCut_E.l2 k5 a0 l1 a2 t630 (IntKind.u64.wrap ((IntKind.u64.wrap ((IntKind.u64.wrap (x10_3 + (IntKind.u64.wrap ((rd_T31 t630 x11_3).f1)))) - (IntKind.u64.wrap ((rd_T31 t630 x11_3).f0)))) + 1)) x11_3 ((((rd_T31 t630 x11_3).f0) + ((Int.tmod (IntKind.u64.wrap (a2)) (IntKind.u64.wrap ((IntKind.u64.wrap ((IntKind.u64.wrap ((rd_T31 t630 x11_3).f1)) - (IntKind.u64.wrap ((rd_T31 t630 x11_3).f0)))) + 1))) % 4294967296)) % 4294967296) true (wrap64 (x14_5 + 1))) = some r := by rw [if_pos rfl] at H; exact H
                          clear H
                          have H := H1
                          clear H1
                          have H' := Aside0.mk H
                          clear H
                          have p646 : 0 ≤ (x14_5 : Int) := of_decide_eq_true (by first | (with_reducible assumption) | assumption)
                          have q646 : x14_5 < (l1.length : Int) := of_decide_eq_true (by first | (with_reducible assumption) | assumption)
                          obtain ⟨ad646, A646_0, c646_0, e646, hx646_0, hl646_0, hi646_0⟩ := at_L12 HR1.out x14_5 p646 q646
                          cases e646
                          replace hx646_0 := pw_cell_below HB.out hx646_0
                          have HR646_0 := Aside0.mk hi646_0
                          have HC646_0 := Aside0.mk hl646_0
                          clear hi646_0 hl646_0
                          replace p646 := eq_true p646
                          replace q646 := eq_true q646
                          have p647 : 0 ≤ (x11_3 : Int) := of_decide_eq_true (by first | (with_reducible assumption) | assumption)
                          have q647 : x11_3 < (t630.length : Int) := of_decide_eq_true (by first | (with_reducible assumption) | assumption)
                          obtain ⟨ad647, e647, hx647_0, hx647_1⟩ := at_T31 (Kd.R_reads' HO_8.out).2.2 x11_3 p647 q647
                          obtain rfl : ad641 = ad647 := (by injection e647)
                          replace p647 := eq_true p647
                          replace q647 := eq_true q647
                          go_wp2_with (first | (go_at_call 53; (with_reducible refine (waymarkref02_Has.calls k5 _ _ (rd_L12 l1 x14_5) ((rd_T31 t630 x11_3).f0) t648 _ ?side1 ?side2 A48.out).mono ?_); (case side1 => repeat (first | exact (Kd.C_below HR646_0.out HB.out) | (with_reducible refine Kd.C_alloc ?_ _) | (with_reducible refine Kd.C_drewN ?_ _) | (with_reducible refine Kd.C_drew ?_))); (case side2 => exact HC646_0.out); rintro e w' ⟨rfl, ⟨nd, rfl⟩⟩; (try first | exact ⟨rfl, _, World.drewN_drewN _ _ _⟩ | exact ⟨rfl, _, Eq.trans (World.drewN_drewN _ _ _) (congrArg (World.drewN _) (Nat.add_assoc _ _ _))⟩); have p649 : 0 ≤ (x14_5 : Int) := of_decide_eq_true (by first | (with_reducible assumption) | assumption); have q649 : x14_5 < (l1.length : Int) := of_decide_eq_true (by first | (with_reducible assumption) | assumption); obtain ⟨ad649, A649_0, c649_0, e649, hx649_0, hl649_0, hi649_0⟩ := at_L12 HR1.out x14_5 p649 q649; obtain rfl : ad646 = ad649 := (by injection e649); replace hx649_0 := pw_cell_below HB.out hx649_0; have HR649_0 := Aside0.mk hi649_0; have HC649_0 := Aside0.mk hl649_0; clear hi649_0 hl649_0; replace p649 := eq_true p649; replace q649 := eq_true q649; have ea_ := Option.some.inj (hx646_0.symm.trans hx649_0); injection ea_ with ea_ en_ ec_; subst ea_; subst ec_; clear en_; have p650 : 0 ≤ (x11_3 : Int) := of_decide_eq_true (by first | (with_reducible assumption) | assumption); have q650 : x11_3 < (t630.length : Int) := of_decide_eq_true (by first | (with_reducible assumption) | assumption); obtain ⟨ad650, e650, hx650_0, hx650_1⟩ := at_T31 (Kd.R_reads' HO_8.out).2.2 x11_3 p650 q650; obtain rfl : ad641 = ad650 := (by injection e650); replace p650 := eq_true p650; replace q650 := eq_true q650) | (go_at_call 53; (with_reducible refine (waymarkref02_Has.calls k5 _ _ (rd_L12 l1 x14_5) ((rd_T31 t630 x11_3).f1) t651 _ ?side1 ?side2 A49.out).mono ?_); (case side1 => repeat (first | exact (Kd.C_below HR649_0.out (by repeat (first | (with_reducible first | exact HB.out | apply below_alloc | apply pw_below_drewN | apply below_drew1) | exact HB.out))) | (with_reducible refine Kd.C_alloc ?_ _) | (with_reducible refine Kd.C_drewN ?_ _) | (with_reducible refine Kd.C_drew ?_))); (case side2 => exact HC649_0.out); rintro e w' ⟨rfl, ⟨nd, rfl⟩⟩; (try first | exact ⟨rfl, _, World.drewN_drewN _ _ _⟩ | exact ⟨rfl, _, Eq.trans (World.drewN_drewN _ _ _) (congrArg (World.drewN _) (Nat.add_assoc _ _ _))⟩); have p652 : 0 ≤ (x14_5 : Int) := of_decide_eq_true (by first | (with_reducible assumption) | assumption); have q652 : x14_5 < (l1.length : Int) := of_decide_eq_true (by first | (with_reducible assumption) | assumption); obtain ⟨ad652, A652_0, c652_0, e652, hx652_0, hl652_0, hi652_0⟩ := at_L12 HR1.out x14_5 p652 q652; obtain rfl : ad646 = ad652 := (by injection e652); replace hx652_0 := pw_cell_below HB.out hx652_0; have HR652_0 := Aside0.mk hi652_0; have HC652_0 := Aside0.mk hl652_0; clear hi652_0 hl652_0; replace p652 := eq_true p652; replace q652 := eq_true q652; have ea_ := Option.some.inj (hx646_0.symm.trans hx652_0); injection ea_ with ea_ en_ ec_; subst ea_; subst ec_; clear en_) | (go_at_call 53; (with_reducible refine (waymarkref02_Has.calls k5 _ _ (rd_L12 l1 x14_5) ((((rd_T31 t630 x11_3).f0) + (Int.tmod (IntKind.u64.wrap (a2)) (IntKind.u64.wrap ((IntKind.u64.wrap ((IntKind.u64.wrap ((rd_T31 t630 x11_3).f1)) - (IntKind.u64.wrap ((rd_T31 t630 x11_3).f0)))) + 1)))) % 4294967296) t653 _ ?side1 ?side2 (by rw [u32x39]; exact A51.out)).mono ?_); (case side1 => repeat (first | exact (Kd.C_below HR652_0.out (by repeat (first | (with_reducible first | exact HB.out | apply below_alloc | apply pw_below_drewN | apply below_drew1) | exact HB.out))) | (with_reducible refine Kd.C_alloc ?_ _) | (with_reducible refine Kd.C_drewN ?_ _) | (with_reducible refine Kd.C_drew ?_))); (case side2 => exact HC652_0.out); rintro e w' ⟨rfl, ⟨nd, rfl⟩⟩; (try first | exact ⟨rfl, _, World.drewN_drewN _ _ _⟩ | exact ⟨rfl, _, Eq.trans (World.drewN_drewN _ _ _) (congrArg (World.drewN _) (Nat.add_assoc _ _ _))⟩)))
                          repeat (go_quiet (first | (go_at_call 53; (with_reducible refine (waymarkref02_Has.calls k5 _ _ (rd_L12 l1 x14_5) ((rd_T31 t630 x11_3).f0) t648 _ ?side1 ?side2 A48.out).mono ?_); (case side1 => repeat (first | exact (Kd.C_below HR646_0.out HB.out) | (with_reducible refine Kd.C_alloc ?_ _) | (with_reducible refine Kd.C_drewN ?_ _) | (with_reducible refine Kd.C_drew ?_))); (case side2 => exact HC646_0.out); rintro e w' ⟨rfl, ⟨nd, rfl⟩⟩; (try first | exact ⟨rfl, _, World.drewN_drewN _ _ _⟩ | exact ⟨rfl, _, Eq.trans (World.drewN_drewN _ _ _) (congrArg (World.drewN _) (Nat.add_assoc _ _ _))⟩); have p649 : 0 ≤ (x14_5 : Int) := of_decide_eq_true (by first | (with_reducible assumption) | assumption); have q649 : x14_5 < (l1.length : Int) := of_decide_eq_true (by first | (with_reducible assumption) | assumption); obtain ⟨ad649, A649_0, c649_0, e649, hx649_0, hl649_0, hi649_0⟩ := at_L12 HR1.out x14_5 p649 q649; obtain rfl : ad646 = ad649 := (by injection e649); replace hx649_0 := pw_cell_below HB.out hx649_0; have HR649_0 := Aside0.mk hi649_0; have HC649_0 := Aside0.mk hl649_0; clear hi649_0 hl649_0; replace p649 := eq_true p649; replace q649 := eq_true q649; have ea_ := Option.some.inj (hx646_0.symm.trans hx649_0); injection ea_ with ea_ en_ ec_; subst ea_; subst ec_; clear en_; have p650 : 0 ≤ (x11_3 : Int) := of_decide_eq_true (by first | (with_reducible assumption) | assumption); have q650 : x11_3 < (t630.length : Int) := of_decide_eq_true (by first | (with_reducible assumption) | assumption); obtain ⟨ad650, e650, hx650_0, hx650_1⟩ := at_T31 (Kd.R_reads' HO_8.out).2.2 x11_3 p650 q650; obtain rfl : ad641 = ad650 := (by injection e650); replace p650 := eq_true p650; replace q650 := eq_true q650) | (go_at_call 53; (with_reducible refine (waymarkref02_Has.calls k5 _ _ (rd_L12 l1 x14_5) ((rd_T31 t630 x11_3).f1) t651 _ ?side1 ?side2 A49.out).mono ?_); (case side1 => repeat (first | exact (Kd.C_below HR649_0.out (by repeat (first | (with_reducible first | exact HB.out | apply below_alloc | apply pw_below_drewN | apply below_drew1) | exact HB.out))) | (with_reducible refine Kd.C_alloc ?_ _) | (with_reducible refine Kd.C_drewN ?_ _) | (with_reducible refine Kd.C_drew ?_))); (case side2 => exact HC649_0.out); rintro e w' ⟨rfl, ⟨nd, rfl⟩⟩; (try first | exact ⟨rfl, _, World.drewN_drewN _ _ _⟩ | exact ⟨rfl, _, Eq.trans (World.drewN_drewN _ _ _) (congrArg (World.drewN _) (Nat.add_assoc _ _ _))⟩); have p652 : 0 ≤ (x14_5 : Int) := of_decide_eq_true (by first | (with_reducible assumption) | assumption); have q652 : x14_5 < (l1.length : Int) := of_decide_eq_true (by first | (with_reducible assumption) | assumption); obtain ⟨ad652, A652_0, c652_0, e652, hx652_0, hl652_0, hi652_0⟩ := at_L12 HR1.out x14_5 p652 q652; obtain rfl : ad646 = ad652 := (by injection e652); replace hx652_0 := pw_cell_below HB.out hx652_0; have HR652_0 := Aside0.mk hi652_0; have HC652_0 := Aside0.mk hl652_0; clear hi652_0 hl652_0; replace p652 := eq_true p652; replace q652 := eq_true q652; have ea_ := Option.some.inj (hx646_0.symm.trans hx652_0); injection ea_ with ea_ en_ ec_; subst ea_; subst ec_; clear en_) | (go_at_call 53; (with_reducible refine (waymarkref02_Has.calls k5 _ _ (rd_L12 l1 x14_5) ((((rd_T31 t630 x11_3).f0) + (Int.tmod (IntKind.u64.wrap (a2)) (IntKind.u64.wrap ((IntKind.u64.wrap ((IntKind.u64.wrap ((rd_T31 t630 x11_3).f1)) - (IntKind.u64.wrap ((rd_T31 t630 x11_3).f0)))) + 1)))) % 4294967296) t653 _ ?side1 ?side2 (by rw [u32x39]; exact A51.out)).mono ?_); (case side1 => repeat (first | exact (Kd.C_below HR652_0.out (by repeat (first | (with_reducible first | exact HB.out | apply below_alloc | apply pw_below_drewN | apply below_drew1) | exact HB.out))) | (with_reducible refine Kd.C_alloc ?_ _) | (with_reducible refine Kd.C_drewN ?_ _) | (with_reducible refine Kd.C_drew ?_))); (case side2 => exact HC652_0.out); rintro e w' ⟨rfl, ⟨nd, rfl⟩⟩; (try first | exact ⟨rfl, _, World.drewN_drewN _ _ _⟩ | exact ⟨rfl, _, Eq.trans (World.drewN_drewN _ _ _) (congrArg (World.drewN _) (Nat.add_assoc _ _ _))⟩))); try go_wp2_with (first | (go_at_call 53; (with_reducible refine (waymarkref02_Has.calls k5 _ _ (rd_L12 l1 x14_5) ((rd_T31 t630 x11_3).f0) t648 _ ?side1 ?side2 A48.out).mono ?_); (case side1 => repeat (first | exact (Kd.C_below HR646_0.out HB.out) | (with_reducible refine Kd.C_alloc ?_ _) | (with_reducible refine Kd.C_drewN ?_ _) | (with_reducible refine Kd.C_drew ?_))); (case side2 => exact HC646_0.out); rintro e w' ⟨rfl, ⟨nd, rfl⟩⟩; (try first | exact ⟨rfl, _, World.drewN_drewN _ _ _⟩ | exact ⟨rfl, _, Eq.trans (World.drewN_drewN _ _ _) (congrArg (World.drewN _) (Nat.add_assoc _ _ _))⟩); have p649 : 0 ≤ (x14_5 : Int) := of_decide_eq_true (by first | (with_reducible assumption) | assumption); have q649 : x14_5 < (l1.length : Int) := of_decide_eq_true (by first | (with_reducible assumption) | assumption); obtain ⟨ad649, A649_0, c649_0, e649, hx649_0, hl649_0, hi649_0⟩ := at_L12 HR1.out x14_5 p649 q649; obtain rfl : ad646 = ad649 := (by injection e649); replace hx649_0 := pw_cell_below HB.out hx649_0; have HR649_0 := Aside0.mk hi649_0; have HC649_0 := Aside0.mk hl649_0; clear hi649_0 hl649_0; replace p649 := eq_true p649; replace q649 := eq_true q649; have ea_ := Option.some.inj (hx646_0.symm.trans hx649_0); injection ea_ with ea_ en_ ec_; subst ea_; subst ec_; clear en_; have p650 : 0 ≤ (x11_3 : Int) := of_decide_eq_true (by first | (with_reducible assumption) | assumption); have q650 : x11_3 < (t630.length : Int) := of_decide_eq_true (by first | (with_reducible assumption) | assumption); obtain ⟨ad650, e650, hx650_0, hx650_1⟩ := at_T31 (Kd.R_reads' HO_8.out).2.2 x11_3 p650 q650; obtain rfl : ad641 = ad650 := (by injection e650); replace p650 := eq_true p650; replace q650 := eq_true q650) | (go_at_call 53; (with_reducible refine (waymarkref02_Has.calls k5 _ _ (rd_L12 l1 x14_5) ((rd_T31 t630 x11_3).f1) t651 _ ?side1 ?side2 A49.out).mono ?_); (case side1 => repeat (first | exact (Kd.C_below HR649_0.out (by repeat (first | (with_reducible first | exact HB.out | apply below_alloc | apply pw_below_drewN | apply below_drew1) | exact HB.out))) | (with_reducible refine Kd.C_alloc ?_ _) | (with_reducible refine Kd.C_drewN ?_ _) | (with_reducible refine Kd.C_drew ?_))); (case side2 => exact HC649_0.out); rintro e w' ⟨rfl, ⟨nd, rfl⟩⟩; (try first | exact ⟨rfl, _, World.drewN_drewN _ _ _⟩ | exact ⟨rfl, _, Eq.trans (World.drewN_drewN _ _ _) (congrArg (World.drewN _) (Nat.add_assoc _ _ _))⟩); have p652 : 0 ≤ (x14_5 : Int) := of_decide_eq_true (by first | (with_reducible assumption) | assumption); have q652 : x14_5 < (l1.length : Int) := of_decide_eq_true (by first | (with_reducible assumption) | assumption); obtain ⟨ad652, A652_0, c652_0, e652, hx652_0, hl652_0, hi652_0⟩ := at_L12 HR1.out x14_5 p652 q652; obtain rfl : ad646 = ad652 := (by injection e652); replace hx652_0 := pw_cell_below HB.out hx652_0; have HR652_0 := Aside0.mk hi652_0; have HC652_0 := Aside0.mk hl652_0; clear hi652_0 hl652_0; replace p652 := eq_true p652; replace q652 := eq_true q652; have ea_ := Option.some.inj (hx646_0.symm.trans hx652_0); injection ea_ with ea_ en_ ec_; subst ea_; subst ec_; clear en_) | (go_at_call 53; (with_reducible refine (waymarkref02_Has.calls k5 _ _ (rd_L12 l1 x14_5) ((((rd_T31 t630 x11_3).f0) + (Int.tmod (IntKind.u64.wrap (a2)) (IntKind.u64.wrap ((IntKind.u64.wrap ((IntKind.u64.wrap ((rd_T31 t630 x11_3).f1)) - (IntKind.u64.wrap ((rd_T31 t630 x11_3).f0)))) + 1)))) % 4294967296) t653 _ ?side1 ?side2 (by rw [u32x39]; exact A51.out)).mono ?_); (case side1 => repeat (first | exact (Kd.C_below HR652_0.out (by repeat (first | (with_reducible first | exact HB.out | apply below_alloc | apply pw_below_drewN | apply below_drew1) | exact HB.out))) | (with_reducible refine Kd.C_alloc ?_ _) | (with_reducible refine Kd.C_drewN ?_ _) | (with_reducible refine Kd.C_drew ?_))); (case side2 => exact HC652_0.out); rintro e w' ⟨rfl, ⟨nd, rfl⟩⟩; (try first | exact ⟨rfl, _, World.drewN_drewN _ _ _⟩ | exact ⟨rfl, _, Eq.trans (World.drewN_drewN _ _ _) (congrArg (World.drewN _) (Nat.add_assoc _ _ _))⟩))))
                          go_roundg k5
                          case measure => have := HK1.out; have := HJ10.out; have := HK3.out; have := HJ31.out; have := HK5.out; omega
                          case rel => exact ⟨(true), (wrap64 (x14_5 + 1)), (by first | rfl | (simp; done) | (simp [*]; done)), (by first | rfl | (simp; done) | (simp [*]; done)), H', ⟨by have := HK1.out; have := HJ10.out; have := HK3.out; have := HJ31.out; have := HK5.out; omega⟩, ⟨by (with_reducible repeat (first | apply Kd.R_alloc | apply Kd.R_drewN | apply Kd.R_drew)); exact HO_8.out⟩, ⟨by repeat (first | (with_reducible first | exact HB.out | apply below_alloc | apply pw_below_drewN | apply below_drew1) | exact HB.out)⟩⟩
                         ·as_aux_lemma =>
                          replace c53 := Bool.eq_false_iff.mpr c53
                          subst c53
                          have H1 : ((waymarkref02_Has.f k5 (rd_L12 l1 x14_5) ((((rd_T31 t630 x11_3).f0) - 1) % 4294967296)).bind fun t656 => (waymarklaw02_SpansCut_E.l2 k5 a0 l1 a2 t630 (IntKind.u64.wrap ((IntKind.u64.wrap ((IntKind.u64.wrap (x10_3 + (IntKind.u64.wrap ((rd_T31 t630 x11_3).f1)))) - (IntKind.u64.wrap ((rd_T31 t630 x11_3).f0)))) + 1)) x11_3 ((((rd_T31 t630 x11_3).f0) + ((Int.tmod (IntKind.u64.wrap (a2)) (IntKind.u64.wrap ((IntKind.u64.wrap ((IntKind.u64.wrap ((rd_T31 t630 x11_3).f1)) - (IntKind.u64.wrap ((rd_T31 t630 x11_3).f0)))) + 1))) % 4294967296)) % 4294967296) (t648 != t656) (wrap64 (x14_5 + 1)))) = some r := by rw [if_neg (show ¬ (false = true) by decide)] at H; exact H
                          clear H
                          have H := H1
                          clear H1
                          replace H := Option.bind_eq_some_iff.mp H
                          obtain ⟨t656, A540, H⟩ := H
                          replace H : (waymarklaw02_SpansCut_E.l2 k5 a0 l1 a2 t630 (IntKind.u64.wrap ((IntKind.u64.wrap ((IntKind.u64.wrap (x10_3 + (IntKind.u64.wrap ((rd_T31 t630 x11_3).f1)))) - (IntKind.u64.wrap ((rd_T31 t630 x11_3).f0)))) + 1)) x11_3 ((((rd_T31 t630 x11_3).f0) + ((Int.tmod (IntKind.u64.wrap (a2)) (IntKind.u64.wrap ((IntKind.u64.wrap ((IntKind.u64.wrap ((rd_T31 t630 x11_3).f1)) - (IntKind.u64.wrap ((rd_T31 t630 x11_3).f0)))) + 1))) % 4294967296)) % 4294967296) (t648 != t656) (wrap64 (x14_5 + 1))) = some r := H
                          have A54 := Aside0.mk A540
                          clear A540
                          have H' := Aside0.mk H
                          clear H
                          have p646 : 0 ≤ (x14_5 : Int) := of_decide_eq_true (by first | (with_reducible assumption) | assumption)
                          have q646 : x14_5 < (l1.length : Int) := of_decide_eq_true (by first | (with_reducible assumption) | assumption)
                          obtain ⟨ad646, A646_0, c646_0, e646, hx646_0, hl646_0, hi646_0⟩ := at_L12 HR1.out x14_5 p646 q646
                          cases e646
                          replace hx646_0 := pw_cell_below HB.out hx646_0
                          have HR646_0 := Aside0.mk hi646_0
                          have HC646_0 := Aside0.mk hl646_0
                          clear hi646_0 hl646_0
                          replace p646 := eq_true p646
                          replace q646 := eq_true q646
                          have p647 : 0 ≤ (x11_3 : Int) := of_decide_eq_true (by first | (with_reducible assumption) | assumption)
                          have q647 : x11_3 < (t630.length : Int) := of_decide_eq_true (by first | (with_reducible assumption) | assumption)
                          obtain ⟨ad647, e647, hx647_0, hx647_1⟩ := at_T31 (Kd.R_reads' HO_8.out).2.2 x11_3 p647 q647
                          obtain rfl : ad641 = ad647 := (by injection e647)
                          replace p647 := eq_true p647
                          replace q647 := eq_true q647
                          go_wp2_with (first | (go_at_call 53; (with_reducible refine (waymarkref02_Has.calls k5 _ _ (rd_L12 l1 x14_5) ((rd_T31 t630 x11_3).f0) t648 _ ?side1 ?side2 A48.out).mono ?_); (case side1 => repeat (first | exact (Kd.C_below HR646_0.out HB.out) | (with_reducible refine Kd.C_alloc ?_ _) | (with_reducible refine Kd.C_drewN ?_ _) | (with_reducible refine Kd.C_drew ?_))); (case side2 => exact HC646_0.out); rintro e w' ⟨rfl, ⟨nd, rfl⟩⟩; (try first | exact ⟨rfl, _, World.drewN_drewN _ _ _⟩ | exact ⟨rfl, _, Eq.trans (World.drewN_drewN _ _ _) (congrArg (World.drewN _) (Nat.add_assoc _ _ _))⟩); have p649 : 0 ≤ (x14_5 : Int) := of_decide_eq_true (by first | (with_reducible assumption) | assumption); have q649 : x14_5 < (l1.length : Int) := of_decide_eq_true (by first | (with_reducible assumption) | assumption); obtain ⟨ad649, A649_0, c649_0, e649, hx649_0, hl649_0, hi649_0⟩ := at_L12 HR1.out x14_5 p649 q649; obtain rfl : ad646 = ad649 := (by injection e649); replace hx649_0 := pw_cell_below HB.out hx649_0; have HR649_0 := Aside0.mk hi649_0; have HC649_0 := Aside0.mk hl649_0; clear hi649_0 hl649_0; replace p649 := eq_true p649; replace q649 := eq_true q649; have ea_ := Option.some.inj (hx646_0.symm.trans hx649_0); injection ea_ with ea_ en_ ec_; subst ea_; subst ec_; clear en_; have p650 : 0 ≤ (x11_3 : Int) := of_decide_eq_true (by first | (with_reducible assumption) | assumption); have q650 : x11_3 < (t630.length : Int) := of_decide_eq_true (by first | (with_reducible assumption) | assumption); obtain ⟨ad650, e650, hx650_0, hx650_1⟩ := at_T31 (Kd.R_reads' HO_8.out).2.2 x11_3 p650 q650; obtain rfl : ad641 = ad650 := (by injection e650); replace p650 := eq_true p650; replace q650 := eq_true q650) | (go_at_call 53; (with_reducible refine (waymarkref02_Has.calls k5 _ _ (rd_L12 l1 x14_5) ((rd_T31 t630 x11_3).f1) t651 _ ?side1 ?side2 A49.out).mono ?_); (case side1 => repeat (first | exact (Kd.C_below HR649_0.out (by repeat (first | (with_reducible first | exact HB.out | apply below_alloc | apply pw_below_drewN | apply below_drew1) | exact HB.out))) | (with_reducible refine Kd.C_alloc ?_ _) | (with_reducible refine Kd.C_drewN ?_ _) | (with_reducible refine Kd.C_drew ?_))); (case side2 => exact HC649_0.out); rintro e w' ⟨rfl, ⟨nd, rfl⟩⟩; (try first | exact ⟨rfl, _, World.drewN_drewN _ _ _⟩ | exact ⟨rfl, _, Eq.trans (World.drewN_drewN _ _ _) (congrArg (World.drewN _) (Nat.add_assoc _ _ _))⟩); have p652 : 0 ≤ (x14_5 : Int) := of_decide_eq_true (by first | (with_reducible assumption) | assumption); have q652 : x14_5 < (l1.length : Int) := of_decide_eq_true (by first | (with_reducible assumption) | assumption); obtain ⟨ad652, A652_0, c652_0, e652, hx652_0, hl652_0, hi652_0⟩ := at_L12 HR1.out x14_5 p652 q652; obtain rfl : ad646 = ad652 := (by injection e652); replace hx652_0 := pw_cell_below HB.out hx652_0; have HR652_0 := Aside0.mk hi652_0; have HC652_0 := Aside0.mk hl652_0; clear hi652_0 hl652_0; replace p652 := eq_true p652; replace q652 := eq_true q652; have ea_ := Option.some.inj (hx646_0.symm.trans hx652_0); injection ea_ with ea_ en_ ec_; subst ea_; subst ec_; clear en_) | (go_at_call 53; (with_reducible refine (waymarkref02_Has.calls k5 _ _ (rd_L12 l1 x14_5) ((((rd_T31 t630 x11_3).f0) + (Int.tmod (IntKind.u64.wrap (a2)) (IntKind.u64.wrap ((IntKind.u64.wrap ((IntKind.u64.wrap ((rd_T31 t630 x11_3).f1)) - (IntKind.u64.wrap ((rd_T31 t630 x11_3).f0)))) + 1)))) % 4294967296) t653 _ ?side1 ?side2 (by rw [u32x39]; exact A51.out)).mono ?_); (case side1 => repeat (first | exact (Kd.C_below HR652_0.out (by repeat (first | (with_reducible first | exact HB.out | apply below_alloc | apply pw_below_drewN | apply below_drew1) | exact HB.out))) | (with_reducible refine Kd.C_alloc ?_ _) | (with_reducible refine Kd.C_drewN ?_ _) | (with_reducible refine Kd.C_drew ?_))); (case side2 => exact HC652_0.out); rintro e w' ⟨rfl, ⟨nd, rfl⟩⟩; (try first | exact ⟨rfl, _, World.drewN_drewN _ _ _⟩ | exact ⟨rfl, _, Eq.trans (World.drewN_drewN _ _ _) (congrArg (World.drewN _) (Nat.add_assoc _ _ _))⟩); have p654 : 0 ≤ (x14_5 : Int) := of_decide_eq_true (by first | (with_reducible assumption) | assumption); have q654 : x14_5 < (l1.length : Int) := of_decide_eq_true (by first | (with_reducible assumption) | assumption); obtain ⟨ad654, A654_0, c654_0, e654, hx654_0, hl654_0, hi654_0⟩ := at_L12 HR1.out x14_5 p654 q654; obtain rfl : ad646 = ad654 := (by injection e654); replace hx654_0 := pw_cell_below HB.out hx654_0; have HR654_0 := Aside0.mk hi654_0; have HC654_0 := Aside0.mk hl654_0; clear hi654_0 hl654_0; replace p654 := eq_true p654; replace q654 := eq_true q654; have ea_ := Option.some.inj (hx646_0.symm.trans hx654_0); injection ea_ with ea_ en_ ec_; subst ea_; subst ec_; clear en_; have p655 : 0 ≤ (x11_3 : Int) := of_decide_eq_true (by first | (with_reducible assumption) | assumption); have q655 : x11_3 < (t630.length : Int) := of_decide_eq_true (by first | (with_reducible assumption) | assumption); obtain ⟨ad655, e655, hx655_0, hx655_1⟩ := at_T31 (Kd.R_reads' HO_8.out).2.2 x11_3 p655 q655; obtain rfl : ad641 = ad655 := (by injection e655); replace p655 := eq_true p655; replace q655 := eq_true q655) | (go_at_call 53; (with_reducible refine (waymarkref02_Has.calls k5 _ _ (rd_L12 l1 x14_5) (IntKind.u32.wrap (((rd_T31 t630 x11_3).f0) - 1)) t656 _ ?side1 ?side2 (by rw [u32w39]; exact A54.out)).mono ?_); (case side1 => repeat (first | exact (Kd.C_below HR654_0.out (by repeat (first | (with_reducible first | exact HB.out | apply below_alloc | apply pw_below_drewN | apply below_drew1) | exact HB.out))) | (with_reducible refine Kd.C_alloc ?_ _) | (with_reducible refine Kd.C_drewN ?_ _) | (with_reducible refine Kd.C_drew ?_))); (case side2 => exact HC654_0.out); rintro e w' ⟨rfl, ⟨nd, rfl⟩⟩; (try first | exact ⟨rfl, _, World.drewN_drewN _ _ _⟩ | exact ⟨rfl, _, Eq.trans (World.drewN_drewN _ _ _) (congrArg (World.drewN _) (Nat.add_assoc _ _ _))⟩)))
                          repeat (go_quiet (first | (go_at_call 53; (with_reducible refine (waymarkref02_Has.calls k5 _ _ (rd_L12 l1 x14_5) ((rd_T31 t630 x11_3).f0) t648 _ ?side1 ?side2 A48.out).mono ?_); (case side1 => repeat (first | exact (Kd.C_below HR646_0.out HB.out) | (with_reducible refine Kd.C_alloc ?_ _) | (with_reducible refine Kd.C_drewN ?_ _) | (with_reducible refine Kd.C_drew ?_))); (case side2 => exact HC646_0.out); rintro e w' ⟨rfl, ⟨nd, rfl⟩⟩; (try first | exact ⟨rfl, _, World.drewN_drewN _ _ _⟩ | exact ⟨rfl, _, Eq.trans (World.drewN_drewN _ _ _) (congrArg (World.drewN _) (Nat.add_assoc _ _ _))⟩); have p649 : 0 ≤ (x14_5 : Int) := of_decide_eq_true (by first | (with_reducible assumption) | assumption); have q649 : x14_5 < (l1.length : Int) := of_decide_eq_true (by first | (with_reducible assumption) | assumption); obtain ⟨ad649, A649_0, c649_0, e649, hx649_0, hl649_0, hi649_0⟩ := at_L12 HR1.out x14_5 p649 q649; obtain rfl : ad646 = ad649 := (by injection e649); replace hx649_0 := pw_cell_below HB.out hx649_0; have HR649_0 := Aside0.mk hi649_0; have HC649_0 := Aside0.mk hl649_0; clear hi649_0 hl649_0; replace p649 := eq_true p649; replace q649 := eq_true q649; have ea_ := Option.some.inj (hx646_0.symm.trans hx649_0); injection ea_ with ea_ en_ ec_; subst ea_; subst ec_; clear en_; have p650 : 0 ≤ (x11_3 : Int) := of_decide_eq_true (by first | (with_reducible assumption) | assumption); have q650 : x11_3 < (t630.length : Int) := of_decide_eq_true (by first | (with_reducible assumption) | assumption); obtain ⟨ad650, e650, hx650_0, hx650_1⟩ := at_T31 (Kd.R_reads' HO_8.out).2.2 x11_3 p650 q650; obtain rfl : ad641 = ad650 := (by injection e650); replace p650 := eq_true p650; replace q650 := eq_true q650) | (go_at_call 53; (with_reducible refine (waymarkref02_Has.calls k5 _ _ (rd_L12 l1 x14_5) ((rd_T31 t630 x11_3).f1) t651 _ ?side1 ?side2 A49.out).mono ?_); (case side1 => repeat (first | exact (Kd.C_below HR649_0.out (by repeat (first | (with_reducible first | exact HB.out | apply below_alloc | apply pw_below_drewN | apply below_drew1) | exact HB.out))) | (with_reducible refine Kd.C_alloc ?_ _) | (with_reducible refine Kd.C_drewN ?_ _) | (with_reducible refine Kd.C_drew ?_))); (case side2 => exact HC649_0.out); rintro e w' ⟨rfl, ⟨nd, rfl⟩⟩; (try first | exact ⟨rfl, _, World.drewN_drewN _ _ _⟩ | exact ⟨rfl, _, Eq.trans (World.drewN_drewN _ _ _) (congrArg (World.drewN _) (Nat.add_assoc _ _ _))⟩); have p652 : 0 ≤ (x14_5 : Int) := of_decide_eq_true (by first | (with_reducible assumption) | assumption); have q652 : x14_5 < (l1.length : Int) := of_decide_eq_true (by first | (with_reducible assumption) | assumption); obtain ⟨ad652, A652_0, c652_0, e652, hx652_0, hl652_0, hi652_0⟩ := at_L12 HR1.out x14_5 p652 q652; obtain rfl : ad646 = ad652 := (by injection e652); replace hx652_0 := pw_cell_below HB.out hx652_0; have HR652_0 := Aside0.mk hi652_0; have HC652_0 := Aside0.mk hl652_0; clear hi652_0 hl652_0; replace p652 := eq_true p652; replace q652 := eq_true q652; have ea_ := Option.some.inj (hx646_0.symm.trans hx652_0); injection ea_ with ea_ en_ ec_; subst ea_; subst ec_; clear en_) | (go_at_call 53; (with_reducible refine (waymarkref02_Has.calls k5 _ _ (rd_L12 l1 x14_5) ((((rd_T31 t630 x11_3).f0) + (Int.tmod (IntKind.u64.wrap (a2)) (IntKind.u64.wrap ((IntKind.u64.wrap ((IntKind.u64.wrap ((rd_T31 t630 x11_3).f1)) - (IntKind.u64.wrap ((rd_T31 t630 x11_3).f0)))) + 1)))) % 4294967296) t653 _ ?side1 ?side2 (by rw [u32x39]; exact A51.out)).mono ?_); (case side1 => repeat (first | exact (Kd.C_below HR652_0.out (by repeat (first | (with_reducible first | exact HB.out | apply below_alloc | apply pw_below_drewN | apply below_drew1) | exact HB.out))) | (with_reducible refine Kd.C_alloc ?_ _) | (with_reducible refine Kd.C_drewN ?_ _) | (with_reducible refine Kd.C_drew ?_))); (case side2 => exact HC652_0.out); rintro e w' ⟨rfl, ⟨nd, rfl⟩⟩; (try first | exact ⟨rfl, _, World.drewN_drewN _ _ _⟩ | exact ⟨rfl, _, Eq.trans (World.drewN_drewN _ _ _) (congrArg (World.drewN _) (Nat.add_assoc _ _ _))⟩); have p654 : 0 ≤ (x14_5 : Int) := of_decide_eq_true (by first | (with_reducible assumption) | assumption); have q654 : x14_5 < (l1.length : Int) := of_decide_eq_true (by first | (with_reducible assumption) | assumption); obtain ⟨ad654, A654_0, c654_0, e654, hx654_0, hl654_0, hi654_0⟩ := at_L12 HR1.out x14_5 p654 q654; obtain rfl : ad646 = ad654 := (by injection e654); replace hx654_0 := pw_cell_below HB.out hx654_0; have HR654_0 := Aside0.mk hi654_0; have HC654_0 := Aside0.mk hl654_0; clear hi654_0 hl654_0; replace p654 := eq_true p654; replace q654 := eq_true q654; have ea_ := Option.some.inj (hx646_0.symm.trans hx654_0); injection ea_ with ea_ en_ ec_; subst ea_; subst ec_; clear en_; have p655 : 0 ≤ (x11_3 : Int) := of_decide_eq_true (by first | (with_reducible assumption) | assumption); have q655 : x11_3 < (t630.length : Int) := of_decide_eq_true (by first | (with_reducible assumption) | assumption); obtain ⟨ad655, e655, hx655_0, hx655_1⟩ := at_T31 (Kd.R_reads' HO_8.out).2.2 x11_3 p655 q655; obtain rfl : ad641 = ad655 := (by injection e655); replace p655 := eq_true p655; replace q655 := eq_true q655) | (go_at_call 53; (with_reducible refine (waymarkref02_Has.calls k5 _ _ (rd_L12 l1 x14_5) (IntKind.u32.wrap (((rd_T31 t630 x11_3).f0) - 1)) t656 _ ?side1 ?side2 (by rw [u32w39]; exact A54.out)).mono ?_); (case side1 => repeat (first | exact (Kd.C_below HR654_0.out (by repeat (first | (with_reducible first | exact HB.out | apply below_alloc | apply pw_below_drewN | apply below_drew1) | exact HB.out))) | (with_reducible refine Kd.C_alloc ?_ _) | (with_reducible refine Kd.C_drewN ?_ _) | (with_reducible refine Kd.C_drew ?_))); (case side2 => exact HC654_0.out); rintro e w' ⟨rfl, ⟨nd, rfl⟩⟩; (try first | exact ⟨rfl, _, World.drewN_drewN _ _ _⟩ | exact ⟨rfl, _, Eq.trans (World.drewN_drewN _ _ _) (congrArg (World.drewN _) (Nat.add_assoc _ _ _))⟩))); try go_wp2_with (first | (go_at_call 53; (with_reducible refine (waymarkref02_Has.calls k5 _ _ (rd_L12 l1 x14_5) ((rd_T31 t630 x11_3).f0) t648 _ ?side1 ?side2 A48.out).mono ?_); (case side1 => repeat (first | exact (Kd.C_below HR646_0.out HB.out) | (with_reducible refine Kd.C_alloc ?_ _) | (with_reducible refine Kd.C_drewN ?_ _) | (with_reducible refine Kd.C_drew ?_))); (case side2 => exact HC646_0.out); rintro e w' ⟨rfl, ⟨nd, rfl⟩⟩; (try first | exact ⟨rfl, _, World.drewN_drewN _ _ _⟩ | exact ⟨rfl, _, Eq.trans (World.drewN_drewN _ _ _) (congrArg (World.drewN _) (Nat.add_assoc _ _ _))⟩); have p649 : 0 ≤ (x14_5 : Int) := of_decide_eq_true (by first | (with_reducible assumption) | assumption); have q649 : x14_5 < (l1.length : Int) := of_decide_eq_true (by first | (with_reducible assumption) | assumption); obtain ⟨ad649, A649_0, c649_0, e649, hx649_0, hl649_0, hi649_0⟩ := at_L12 HR1.out x14_5 p649 q649; obtain rfl : ad646 = ad649 := (by injection e649); replace hx649_0 := pw_cell_below HB.out hx649_0; have HR649_0 := Aside0.mk hi649_0; have HC649_0 := Aside0.mk hl649_0; clear hi649_0 hl649_0; replace p649 := eq_true p649; replace q649 := eq_true q649; have ea_ := Option.some.inj (hx646_0.symm.trans hx649_0); injection ea_ with ea_ en_ ec_; subst ea_; subst ec_; clear en_; have p650 : 0 ≤ (x11_3 : Int) := of_decide_eq_true (by first | (with_reducible assumption) | assumption); have q650 : x11_3 < (t630.length : Int) := of_decide_eq_true (by first | (with_reducible assumption) | assumption); obtain ⟨ad650, e650, hx650_0, hx650_1⟩ := at_T31 (Kd.R_reads' HO_8.out).2.2 x11_3 p650 q650; obtain rfl : ad641 = ad650 := (by injection e650); replace p650 := eq_true p650; replace q650 := eq_true q650) | (go_at_call 53; (with_reducible refine (waymarkref02_Has.calls k5 _ _ (rd_L12 l1 x14_5) ((rd_T31 t630 x11_3).f1) t651 _ ?side1 ?side2 A49.out).mono ?_); (case side1 => repeat (first | exact (Kd.C_below HR649_0.out (by repeat (first | (with_reducible first | exact HB.out | apply below_alloc | apply pw_below_drewN | apply below_drew1) | exact HB.out))) | (with_reducible refine Kd.C_alloc ?_ _) | (with_reducible refine Kd.C_drewN ?_ _) | (with_reducible refine Kd.C_drew ?_))); (case side2 => exact HC649_0.out); rintro e w' ⟨rfl, ⟨nd, rfl⟩⟩; (try first | exact ⟨rfl, _, World.drewN_drewN _ _ _⟩ | exact ⟨rfl, _, Eq.trans (World.drewN_drewN _ _ _) (congrArg (World.drewN _) (Nat.add_assoc _ _ _))⟩); have p652 : 0 ≤ (x14_5 : Int) := of_decide_eq_true (by first | (with_reducible assumption) | assumption); have q652 : x14_5 < (l1.length : Int) := of_decide_eq_true (by first | (with_reducible assumption) | assumption); obtain ⟨ad652, A652_0, c652_0, e652, hx652_0, hl652_0, hi652_0⟩ := at_L12 HR1.out x14_5 p652 q652; obtain rfl : ad646 = ad652 := (by injection e652); replace hx652_0 := pw_cell_below HB.out hx652_0; have HR652_0 := Aside0.mk hi652_0; have HC652_0 := Aside0.mk hl652_0; clear hi652_0 hl652_0; replace p652 := eq_true p652; replace q652 := eq_true q652; have ea_ := Option.some.inj (hx646_0.symm.trans hx652_0); injection ea_ with ea_ en_ ec_; subst ea_; subst ec_; clear en_) | (go_at_call 53; (with_reducible refine (waymarkref02_Has.calls k5 _ _ (rd_L12 l1 x14_5) ((((rd_T31 t630 x11_3).f0) + (Int.tmod (IntKind.u64.wrap (a2)) (IntKind.u64.wrap ((IntKind.u64.wrap ((IntKind.u64.wrap ((rd_T31 t630 x11_3).f1)) - (IntKind.u64.wrap ((rd_T31 t630 x11_3).f0)))) + 1)))) % 4294967296) t653 _ ?side1 ?side2 (by rw [u32x39]; exact A51.out)).mono ?_); (case side1 => repeat (first | exact (Kd.C_below HR652_0.out (by repeat (first | (with_reducible first | exact HB.out | apply below_alloc | apply pw_below_drewN | apply below_drew1) | exact HB.out))) | (with_reducible refine Kd.C_alloc ?_ _) | (with_reducible refine Kd.C_drewN ?_ _) | (with_reducible refine Kd.C_drew ?_))); (case side2 => exact HC652_0.out); rintro e w' ⟨rfl, ⟨nd, rfl⟩⟩; (try first | exact ⟨rfl, _, World.drewN_drewN _ _ _⟩ | exact ⟨rfl, _, Eq.trans (World.drewN_drewN _ _ _) (congrArg (World.drewN _) (Nat.add_assoc _ _ _))⟩); have p654 : 0 ≤ (x14_5 : Int) := of_decide_eq_true (by first | (with_reducible assumption) | assumption); have q654 : x14_5 < (l1.length : Int) := of_decide_eq_true (by first | (with_reducible assumption) | assumption); obtain ⟨ad654, A654_0, c654_0, e654, hx654_0, hl654_0, hi654_0⟩ := at_L12 HR1.out x14_5 p654 q654; obtain rfl : ad646 = ad654 := (by injection e654); replace hx654_0 := pw_cell_below HB.out hx654_0; have HR654_0 := Aside0.mk hi654_0; have HC654_0 := Aside0.mk hl654_0; clear hi654_0 hl654_0; replace p654 := eq_true p654; replace q654 := eq_true q654; have ea_ := Option.some.inj (hx646_0.symm.trans hx654_0); injection ea_ with ea_ en_ ec_; subst ea_; subst ec_; clear en_; have p655 : 0 ≤ (x11_3 : Int) := of_decide_eq_true (by first | (with_reducible assumption) | assumption); have q655 : x11_3 < (t630.length : Int) := of_decide_eq_true (by first | (with_reducible assumption) | assumption); obtain ⟨ad655, e655, hx655_0, hx655_1⟩ := at_T31 (Kd.R_reads' HO_8.out).2.2 x11_3 p655 q655; obtain rfl : ad641 = ad655 := (by injection e655); replace p655 := eq_true p655; replace q655 := eq_true q655) | (go_at_call 53; (with_reducible refine (waymarkref02_Has.calls k5 _ _ (rd_L12 l1 x14_5) (IntKind.u32.wrap (((rd_T31 t630 x11_3).f0) - 1)) t656 _ ?side1 ?side2 (by rw [u32w39]; exact A54.out)).mono ?_); (case side1 => repeat (first | exact (Kd.C_below HR654_0.out (by repeat (first | (with_reducible first | exact HB.out | apply below_alloc | apply pw_below_drewN | apply below_drew1) | exact HB.out))) | (with_reducible refine Kd.C_alloc ?_ _) | (with_reducible refine Kd.C_drewN ?_ _) | (with_reducible refine Kd.C_drew ?_))); (case side2 => exact HC654_0.out); rintro e w' ⟨rfl, ⟨nd, rfl⟩⟩; (try first | exact ⟨rfl, _, World.drewN_drewN _ _ _⟩ | exact ⟨rfl, _, Eq.trans (World.drewN_drewN _ _ _) (congrArg (World.drewN _) (Nat.add_assoc _ _ _))⟩))))
                          go_roundg k5
                          case measure => have := HK1.out; have := HJ10.out; have := HK3.out; have := HJ31.out; have := HK5.out; omega
                          case rel => exact ⟨((t648 != t656)), (wrap64 (x14_5 + 1)), (by first | rfl | (simp; done) | (simp [*]; done)), (by first | rfl | (simp; done) | (simp [*]; done)), H', ⟨by have := HK1.out; have := HJ10.out; have := HK3.out; have := HJ31.out; have := HK5.out; omega⟩, ⟨by (with_reducible repeat (first | apply Kd.R_alloc | apply Kd.R_drewN | apply Kd.R_drew)); exact HO_8.out⟩, ⟨by repeat (first | (with_reducible first | exact HB.out | apply below_alloc | apply pw_below_drewN | apply below_drew1) | exact HB.out)⟩⟩
                      ·rw [if_neg c47] at H
                       exact absurd H (by simp)
                     ·rw [if_neg c46] at H
                      exact absurd H (by simp)
                    ·rw [if_neg c45] at H
                     exact absurd H (by simp)
                   ·rw [if_neg c44] at H
                    have c44b0 : decide (x14_5 < (l1.length : Int)) = false := decide_eq_false c44
                    clear c44
                    by_cases c55 : x13_5 = true
                    ·as_aux_lemma =>
                     subst c55
                     have H1 : (waymarklaw02_SpansCut_E.l1 k5 a0 l1 a2 t630 (IntKind.u64.wrap ((IntKind.u64.wrap ((IntKind.u64.wrap (x10_3 + (IntKind.u64.wrap ((rd_T31 t630 x11_3).f1)))) - (IntKind.u64.wrap ((rd_T31 t630 x11_3).f0)))) + 1)) (wrap64 (x11_3 + 1))) = some r := by rw [if_pos rfl] at H; exact H
                     clear H
                     have H := H1
                     clear H1
                     have H' := Aside0.mk H
                     clear H
                     go_wp2
                     repeat (go_quiet (fail); try go_wp2)
                     go_roundg k5
                     case measure => have := HK1.out; have := HJ10.out; have := HK3.out; have := HJ31.out; have := HK5.out; omega
                     case rel => exact ⟨((IntKind.u64.wrap ((IntKind.u64.wrap ((IntKind.u64.wrap (x10_3 + (IntKind.u64.wrap ((rd_T31 t630 x11_3).f1)))) - (IntKind.u64.wrap ((rd_T31 t630 x11_3).f0)))) + 1))), (wrap64 (x11_3 + 1)), (by first | rfl | (simp; done) | (simp [*]; done)), (by first | rfl | (simp; done) | (simp [*]; done)), H', ⟨by have := HK1.out; have := HJ10.out; have := HK3.out; have := HJ31.out; have := HK5.out; omega⟩, ⟨by (with_reducible repeat (first | apply Kd.R_alloc | apply Kd.R_drewN | apply Kd.R_drew)); exact HO_8.out⟩, ⟨by repeat (first | (with_reducible first | exact HB.out | apply below_alloc | apply pw_below_drewN | apply below_drew1) | exact HB.out)⟩⟩
                    ·replace c55 := Bool.eq_false_iff.mpr c55
                     subst c55
                     have H1 : (none) = some r := by rw [if_neg (show ¬ (false = true) by decide)] at H; exact H
                     clear H
                     have H := H1
                     clear H1
                     exact absurd H (by simp)
               ·rw [if_neg c42] at H
                exact absurd H (by simp)
              ·rw [if_neg c41] at H
               exact absurd H (by simp)
          ·as_aux_lemma =>
           rw [if_neg c31] at H
           have c31b0 : decide (x11_3 < (t630.length : Int)) = false := decide_eq_false c31
           clear c31
           obtain rfl := Option.some.inj H
           obtain ⟨Ao56, co56, eo56⟩ := Kd.R_slice HO_8.out
           subst eo56
           go_wp2
           repeat (go_quiet (fail); try go_wp2)
           go_ret
           exact ⟨by first | rfl | (simp [errW_none, errW_some] <;> rfl) | (simp [*, errW_none, errW_some] <;> rfl), by repeat (first | (with_reducible first | exact HB.out | apply below_alloc | apply pw_below_drewN | apply below_drew1) | exact HB.out)⟩

end Go.Proofs.Ytmoagoopdfpcnaa.Q
