-- Written by a program of this session (wip/myprint) out of the translation, for this claim.
-- narrow
import Derived.Test.YtmoagoopdfpcnaaQx0
import Derived.Test.YtmoagoopdfpcnaaQx25
import Derived.Test.YtmoagoopdfpcnaaECuts
namespace Go.Proofs.Ytmoagoopdfpcnaa.Q
open Go.RowKit Go.Proofs.YtmoagoopdfpcnaaW.PrintWords Go.Proofs.YtmoagoopdfpcnaaW.PrintLast Go.Proofs.YtmoagoopdfpcnaaW.PrintMore
attribute [local go_sem] max2_int min2_int max_two min_two max_three min_three max_four min_four   -- for this text's walks alone
set_option linter.unusedVariables false
set_option linter.unusedSimpArgs false
theorem u32w36 (z : Int) : IntKind.u32.wrap z = z % 4294967296 := by simp [IntKind.wrap, IntKind.bits, IntKind.signed]

/-! ### waymarkref02_Pieces: function 54 -/
mutual
def waymarkref02_Pieces.l0 : Nat → Int → List (List (S31)) → List (S31) → List Int → Int → Option ((List (S31)) × Int)
 | 0, _, _, _, _, _ => none
 | k + 1, x0, x1, x6, x7, x8 => if x8 < (x7.length : Int) then (waymarkref02_Pieces.l1 k x0 x1 x6 x7 x8 (x8 == 0) 0) else (if (x6.length : Int) > 65536 then (some (([] : List (S31)), 1)) else (some (x6, 0)))
def waymarkref02_Pieces.l1 : Nat → Int → List (List (S31)) → List (S31) → List Int → Int → Bool → Int → Option ((List (S31)) × Int)
 | 0, _, _, _, _, _, _, _ => none
 | k + 1, x0, x1, x6, x7, x8, x9, x10 => if x10 < (x1.length : Int) then (waymarkref02_Pieces.j2 k x0 x1 x6 x7 x8 x9 x10 (!x9)) else (waymarkref02_Pieces.j2 k x0 x1 x6 x7 x8 x9 x10 false)
def waymarkref02_Pieces.j2 : Nat → Int → List (List (S31)) → List (S31) → List Int → Int → Bool → Int → Bool → Option ((List (S31)) × Int)
 | 0, _, _, _, _, _, _, _, _ => none
 | k + 1, x0, x1, x6, x7, x8, x9, x10, x32 => if x32 = true then (if 0 ≤ x10 then (if x10 < (x1.length : Int) then (if 0 ≤ x8 then (if x8 < (x7.length : Int) then ((waymarkref02_Has.f k (rd_L12 x1 x10) (rd x7 x8)).bind fun t570 => ((waymarkref02_Has.f k (rd_L12 x1 x10) (((rd x7 x8) - 1) % 4294967296)).bind fun t573 => (waymarkref02_Pieces.l1 k x0 x1 x6 x7 x8 (t570 != t573) (wrap64 (x10 + 1))))) else (none)) else (none)) else (none)) else (none)) else (if x9 = true then (if x8 > 0 then (if 0 ≤ x8 then (if x8 < (x7.length : Int) then (if 0 ≤ (wrap64 ((x6.length : Int) - 1)) then (if (wrap64 ((x6.length : Int) - 1)) < (x6.length : Int) then ((some (x6.set ((wrap64 ((x6.length : Int) - 1)) : Int).toNat (⟨(rd_T31 x6 (wrap64 ((x6.length : Int) - 1))).f0, ((rd x7 x8) - 1) % 4294967296⟩ : S31) : List (S31))).bind fun y575 => (if y575.length < 17592186044416 then (waymarkref02_Pieces.l0 k x0 x1 (y575 ++ [(⟨rd x7 x8, x0⟩ : S31)]) x7 (wrap64 (x8 + 1))) else (none))) else (none)) else (none)) else (none)) else (none)) else (if 0 ≤ x8 then (if x8 < (x7.length : Int) then (if x6.length < 17592186044416 then (waymarkref02_Pieces.l0 k x0 x1 (x6 ++ [(⟨rd x7 x8, x0⟩ : S31)]) x7 (wrap64 (x8 + 1))) else (none)) else (none)) else (none))) else (waymarkref02_Pieces.l0 k x0 x1 x6 x7 (wrap64 (x8 + 1))))
end
def waymarkref02_Pieces.f (k : Nat) (a0 : Int) (l1 : List (List (S31))) : Option ((List (S31)) × Int) := if (l1.length : Int) > 1024 then (some (([] : List (S31)), 1)) else ((waymarkref02_cuts.f k a0 l1).bind fun t565 => (waymarkref02_Pieces.l0 k a0 l1 ([] : List (S31)) t565 0))
theorem waymarkref02_Pieces.mono_l : ∀ k, (∀ y0 y1 y2 y3 y4, LeO (waymarkref02_Pieces.l0 k y0 y1 y2 y3 y4) (waymarkref02_Pieces.l0 (k + 1) y0 y1 y2 y3 y4)) ∧ (∀ y0 y1 y2 y3 y4 y5 y6, LeO (waymarkref02_Pieces.l1 k y0 y1 y2 y3 y4 y5 y6) (waymarkref02_Pieces.l1 (k + 1) y0 y1 y2 y3 y4 y5 y6)) ∧ (∀ y0 y1 y2 y3 y4 y5 y6 y7, LeO (waymarkref02_Pieces.j2 k y0 y1 y2 y3 y4 y5 y6 y7) (waymarkref02_Pieces.j2 (k + 1) y0 y1 y2 y3 y4 y5 y6 y7))
 | 0 => ⟨fun _ _ _ _ _ r h => by simp [waymarkref02_Pieces.l0] at h, fun _ _ _ _ _ _ _ r h => by simp [waymarkref02_Pieces.l1] at h, fun _ _ _ _ _ _ _ _ r h => by simp [waymarkref02_Pieces.j2] at h⟩
 | k + 1 => by
  obtain ⟨ih0, ih1, ih2⟩ := waymarkref02_Pieces.mono_l k
  refine ⟨?_, ?_, ?_⟩
  ·intro y0 y1 y2 y3 y4
   unfold waymarkref02_Pieces.l0
   repeat' first
   | (with_reducible exact ih0 _ _ _ _ _)
   | (with_reducible exact ih1 _ _ _ _ _ _ _)
   | (with_reducible exact ih2 _ _ _ _ _ _ _ _)
   | (with_reducible exact waymarkref02_Has.mono _ _ _)
   | (with_reducible exact waymarkref02_cuts.mono _ _ _)
   | (with_reducible exact LeO.refl _)
   | (with_reducible exact LeO.none _)
   | (with_reducible refine LeO.ite ?_ ?_)
   | (with_reducible refine LeO.bind ?_ (fun _ => ?_))
   | exact ih0 _ _ _ _ _
   | exact ih1 _ _ _ _ _ _ _
   | exact ih2 _ _ _ _ _ _ _ _
   | exact waymarkref02_Has.mono _ _ _
   | exact waymarkref02_cuts.mono _ _ _
   | exact LeO.none _
   | refine LeO.ite ?_ ?_
   | refine LeO.bind ?_ (fun _ => ?_)
  ·intro y0 y1 y2 y3 y4 y5 y6
   unfold waymarkref02_Pieces.l1
   repeat' first
   | (with_reducible exact ih0 _ _ _ _ _)
   | (with_reducible exact ih1 _ _ _ _ _ _ _)
   | (with_reducible exact ih2 _ _ _ _ _ _ _ _)
   | (with_reducible exact waymarkref02_Has.mono _ _ _)
   | (with_reducible exact waymarkref02_cuts.mono _ _ _)
   | (with_reducible exact LeO.refl _)
   | (with_reducible exact LeO.none _)
   | (with_reducible refine LeO.ite ?_ ?_)
   | (with_reducible refine LeO.bind ?_ (fun _ => ?_))
   | exact ih0 _ _ _ _ _
   | exact ih1 _ _ _ _ _ _ _
   | exact ih2 _ _ _ _ _ _ _ _
   | exact waymarkref02_Has.mono _ _ _
   | exact waymarkref02_cuts.mono _ _ _
   | exact LeO.none _
   | refine LeO.ite ?_ ?_
   | refine LeO.bind ?_ (fun _ => ?_)
  ·intro y0 y1 y2 y3 y4 y5 y6 y7
   unfold waymarkref02_Pieces.j2
   repeat' first
   | (with_reducible exact ih0 _ _ _ _ _)
   | (with_reducible exact ih1 _ _ _ _ _ _ _)
   | (with_reducible exact ih2 _ _ _ _ _ _ _ _)
   | (with_reducible exact waymarkref02_Has.mono _ _ _)
   | (with_reducible exact waymarkref02_cuts.mono _ _ _)
   | (with_reducible exact LeO.refl _)
   | (with_reducible exact LeO.none _)
   | (with_reducible refine LeO.ite ?_ ?_)
   | (with_reducible refine LeO.bind ?_ (fun _ => ?_))
   | exact ih0 _ _ _ _ _
   | exact ih1 _ _ _ _ _ _ _
   | exact ih2 _ _ _ _ _ _ _ _
   | exact waymarkref02_Has.mono _ _ _
   | exact waymarkref02_cuts.mono _ _ _
   | exact LeO.none _
   | refine LeO.ite ?_ ?_
   | refine LeO.bind ?_ (fun _ => ?_)
theorem waymarkref02_Pieces.mono : ∀ a0 a1 k, LeO (waymarkref02_Pieces.f k a0 a1) (waymarkref02_Pieces.f (k + 1) a0 a1) := by
 intro a0 a1 k
 obtain ⟨ih0, ih1, ih2⟩ := waymarkref02_Pieces.mono_l k
 unfold waymarkref02_Pieces.f
 repeat' first
   | (with_reducible exact ih0 _ _ _ _ _)
   | (with_reducible exact ih1 _ _ _ _ _ _ _)
   | (with_reducible exact ih2 _ _ _ _ _ _ _ _)
   | (with_reducible exact waymarkref02_Has.mono _ _ _)
   | (with_reducible exact waymarkref02_cuts.mono _ _ _)
   | (with_reducible exact LeO.refl _)
   | (with_reducible exact LeO.none _)
   | (with_reducible refine LeO.ite ?_ ?_)
   | (with_reducible refine LeO.bind ?_ (fun _ => ?_))
   | exact ih0 _ _ _ _ _
   | exact ih1 _ _ _ _ _ _ _
   | exact ih2 _ _ _ _ _ _ _ _
   | exact waymarkref02_Has.mono _ _ _
   | exact waymarkref02_cuts.mono _ _ _
   | exact LeO.none _
   | refine LeO.ite ?_ ?_
   | refine LeO.bind ?_ (fun _ => ?_)
set_option maxHeartbeats 8000000 in
set_option maxRecDepth 100000 in
theorem waymarkref02_Pieces.calls (k : Nat) (a0 : Int) (A1 : Option Addr) (c1 : Nat) (l1 : List (List (S31))) (r1 : List (S31)) (r2 : Int) (w : World) (hr1 : Kd.C (Kd.slice 31 k31) w A1 l1.length l1) (hc1 : l1.length ≤ c1) (h : waymarkref02_Pieces.f k a0 l1 = some (r1, r2)) :
  Calls Try.prog 54 #[.int .u32 a0, .slice A1 l1.length c1] w fun e w' => ∃ v0_ : Value, e = .returned (.tuple #[v0_, .int .i64 r2]) ∧ Kd.R k31 31 w' w.heap.size (fun _ => True) v0_ r1 ∧ Below w.heap.size w w' := by
 have hu31 := Try.underlying31
 have HR1 := Aside0.mk hr1
 have HC1 := Aside0.mk hc1
 clear hr1 hc1
 have HB := Aside0.mk (Below.refl w.heap.size w)
 have H : (if (l1.length : Int) > 1024 then (some (([] : List (S31)), 1)) else ((waymarkref02_cuts.f k a0 l1).bind fun t565 => (waymarkref02_Pieces.l0 k a0 l1 ([] : List (S31)) t565 0))) = some (r1, r2) := h
 clear h
 by_cases c3 : (l1.length : Int) > 1024
 ·rw [if_pos c3] at H
  have c3b0 : decide (1024 < (l1.length : Int)) = true := decide_eq_true c3
  have c3b1 : decide (1024 < l1.length) = true := decide_eq_true (by omega)
  clear c3
  simp only [Option.some.injEq, Prod.mk.injEq] at H
  obtain ⟨rfl, rfl⟩ := H
  go_enter Try.func54, Try.ntmps54
  go_wp2
  repeat (go_quiet (fail); try go_wp2)
  go_ret2
  exact ⟨_, by first | rfl | (simp [errW_none, errW_some] <;> rfl) | (simp [*, errW_none, errW_some] <;> rfl), by first | exact Kd.R_nil _ _ _ _ _ | exact Kd.N_nil _ _ _ _ _ | exact Kd.V_nil _ _ _ _ _ | exact Kd.Q_nil _ _ _ _ _ | exact Kd.S_nil _ _ _ _ _, by repeat (first | (with_reducible first | exact HB.out | apply below_alloc | apply pw_below_drewN | apply below_drew1) | exact HB.out)⟩
 ·rw [if_neg c3] at H
  have c3b0 : decide (1024 < (l1.length : Int)) = false := decide_eq_false c3
  have c3b1 : decide (1024 < l1.length) = false := decide_eq_false (by omega)
  clear c3
  replace H := Option.bind_eq_some_iff.mp H
  obtain ⟨t565, A40, H⟩ := H
  replace H : (waymarkref02_Pieces.l0 k a0 l1 ([] : List (S31)) t565 0) = some (r1, r2) := H
  have A4 := Aside0.mk A40
  clear A40
  have H' := Aside0.mk H
  clear H
  go_enter Try.func54, Try.ntmps54
  go_wp2_with (first | (go_at_call 90; (with_reducible refine (waymarkref02_cuts.calls k a0 _ _ l1 t565 _ ?side1 ?side2 A4.out).mono ?_); (case side1 => repeat (first | exact HR1.out | (with_reducible refine Kd.C_alloc ?_ _) | (with_reducible refine Kd.C_drewN ?_ _) | (with_reducible refine Kd.C_drew ?_))); (case side2 => exact HC1.out); rintro e w5 ⟨v566, rfl, ho0, hb⟩; have n0_ := Aside0.mk (Kd.R_lower ho0 (below_size (by repeat (first | (with_reducible first | exact HB.out | apply below_alloc | apply pw_below_drewN | apply below_drew1) | exact HB.out)))); have n1_ := Aside0.mk (below_step (by repeat (first | (with_reducible first | exact HB.out | apply below_alloc | apply pw_below_drewN | apply below_drew1) | exact HB.out)) hb); clear HB; have HO567 := n0_; have HB := n1_; clear n0_ n1_; (try clear hb); (try clear hb2); (try clear hk); (try clear hi); (try clear ho0)))
  repeat (go_quiet (first | (go_at_call 90; (with_reducible refine (waymarkref02_cuts.calls k a0 _ _ l1 t565 _ ?side1 ?side2 A4.out).mono ?_); (case side1 => repeat (first | exact HR1.out | (with_reducible refine Kd.C_alloc ?_ _) | (with_reducible refine Kd.C_drewN ?_ _) | (with_reducible refine Kd.C_drew ?_))); (case side2 => exact HC1.out); rintro e w5 ⟨v566, rfl, ho0, hb⟩; have n0_ := Aside0.mk (Kd.R_lower ho0 (below_size (by repeat (first | (with_reducible first | exact HB.out | apply below_alloc | apply pw_below_drewN | apply below_drew1) | exact HB.out)))); have n1_ := Aside0.mk (below_step (by repeat (first | (with_reducible first | exact HB.out | apply below_alloc | apply pw_below_drewN | apply below_drew1) | exact HB.out)) hb); clear HB; have HO567 := n0_; have HB := n1_; clear n0_ n1_; (try clear hb); (try clear hb2); (try clear hk); (try clear hi); (try clear ho0))); try go_wp2_with (first | (go_at_call 90; (with_reducible refine (waymarkref02_cuts.calls k a0 _ _ l1 t565 _ ?side1 ?side2 A4.out).mono ?_); (case side1 => repeat (first | exact HR1.out | (with_reducible refine Kd.C_alloc ?_ _) | (with_reducible refine Kd.C_drewN ?_ _) | (with_reducible refine Kd.C_drew ?_))); (case side2 => exact HC1.out); rintro e w5 ⟨v566, rfl, ho0, hb⟩; have n0_ := Aside0.mk (Kd.R_lower ho0 (below_size (by repeat (first | (with_reducible first | exact HB.out | apply below_alloc | apply pw_below_drewN | apply below_drew1) | exact HB.out)))); have n1_ := Aside0.mk (below_step (by repeat (first | (with_reducible first | exact HB.out | apply below_alloc | apply pw_below_drewN | apply below_drew1) | exact HB.out)) hb); clear HB; have HO567 := n0_; have HB := n1_; clear n0_ n1_; (try clear hb); (try clear hb2); (try clear hk); (try clear hi); (try clear ho0))))
  go_loopg [6, 8] k (fun kq v6 v8 w' => ∃ (x6_1 : List (S31)) (x8_1 : Int), v8 = .int .i64 x8_1 ∧ Aside0 (waymarkref02_Pieces.l0 kq a0 l1 x6_1 t565 x8_1 = some (r1, r2)) ∧ Aside0 (kq ≤ k) ∧ Aside0 (Kd.R k31 31 w' w.heap.size (fun _ => True) v6 x6_1) ∧ Aside0 (Kd.R (Kd.int .u32) 26 w' w.heap.size (fun _ => True) v566 t565) ∧ Aside0 (Below w.heap.size w w'))
  case atStart => exact ⟨(([] : List (S31))), (0), (by first | rfl | (simp; done) | (simp [*]; done)), H', ⟨Nat.le_refl _⟩, ⟨by first | exact Kd.R_nil _ _ _ _ _ | exact Kd.N_nil _ _ _ _ _ | exact Kd.V_nil _ _ _ _ _ | exact Kd.Q_nil _ _ _ _ _ | exact Kd.S_nil _ _ _ _ _⟩, ⟨by (with_reducible repeat (first | apply Kd.R_alloc | apply Kd.R_drewN | apply Kd.R_drew)); exact HO567.out⟩, ⟨by repeat (first | (with_reducible first | exact HB.out | apply below_alloc | apply pw_below_drewN | apply below_drew1) | exact HB.out)⟩⟩
  case round =>
   clear H'
   try clear c1
   try clear p2
   try clear c3
   try clear c3b0
   try clear c3b1
   try clear c5
   obtain ⟨x6_1, x8_1, rfl, HA, HK1, HO_6, HO_7, HB⟩ := hrel
   cases gk with
   | zero => exact absurd HA.out (by simp [waymarkref02_Pieces.l0])
   | succ k1 =>
    have H := HA.out
    clear HA
    simp only [waymarkref02_Pieces.l0] at H
    by_cases c6 : x8_1 < (t565.length : Int)
    ·rw [if_pos c6] at H
     have c6b0 : decide (x8_1 < (t565.length : Int)) = true := decide_eq_true c6
     clear c6
     have H' := Aside0.mk H
     clear H
     obtain ⟨Ao7, co7, eo7⟩ := Kd.R_slice HO_7.out
     subst eo7
     go_wp2
     repeat (go_quiet (fail); try go_wp2)
     go_loopg [9, 10] k1 (fun kq v9 v10 w' => ∃ (x9_2 : Bool) (x10_2 : Int), v9 = .bool x9_2 ∧ v10 = .int .i64 x10_2 ∧ Aside0 (waymarkref02_Pieces.l1 kq a0 l1 x6_1 t565 x8_1 x9_2 x10_2 = some (r1, r2)) ∧ Aside0 (kq ≤ k1) ∧ Aside0 (Kd.R k31 31 w' w.heap.size (fun _ => True) u6 x6_1) ∧ Aside0 (Kd.R (Kd.int .u32) 26 w' w.heap.size (fun _ => True) (.slice Ao7 t565.length co7) t565) ∧ Aside0 (Below w.heap.size w w'))
     case atStart => exact ⟨((x8_1 == 0)), (0), (by first | rfl | (simp; done) | (simp [*]; done)), (by first | rfl | (simp; done) | (simp [*]; done)), H', ⟨Nat.le_refl _⟩, ⟨by (with_reducible repeat (first | apply Kd.R_alloc | apply Kd.R_drewN | apply Kd.R_drew)); exact HO_6.out⟩, ⟨by (with_reducible repeat (first | apply Kd.R_alloc | apply Kd.R_drewN | apply Kd.R_drew)); exact HO_7.out⟩, ⟨by repeat (first | (with_reducible first | exact HB.out | apply below_alloc | apply pw_below_drewN | apply below_drew1) | exact HB.out)⟩⟩
     case round =>
      clear H'
      try clear c1
      try clear p2
      try clear c3
      try clear c3b0
      try clear c3b1
      try clear c5
      try clear c6
      try clear c6b0
      try clear p2
      obtain ⟨x9_2, x10_2, rfl, rfl, HA, HK2, HO_6, HO_7, HB⟩ := hrel
      cases gk with
      | zero => exact absurd HA.out (by simp [waymarkref02_Pieces.l1])
      | succ k2 =>
       have H := HA.out
       clear HA
       simp only [waymarkref02_Pieces.l1] at H
       have HC8 := Aside0.mk H
       clear H
       go_upto_region 10 with (fail)
       repeat (go_quiet (fail); go_upto_region 10 with (fail))
       go_cut [32] (fun v32 wc => ∃ (kq : Nat) (x32_7 : Bool), v32 = .bool x32_7 ∧ Aside0 (waymarkref02_Pieces.j2 kq a0 l1 x6_1 t565 x8_1 x9_2 x10_2 x32_7 = some (r1, r2)) ∧ Aside0 (kq ≤ k2) ∧ Aside0 (Kd.R k31 31 wc w.heap.size (fun _ => True) u6 x6_1) ∧ Aside0 (Kd.R (Kd.int .u32) 26 wc w.heap.size (fun _ => True) (.slice Ao7 t565.length co7) t565) ∧ Aside0 (Below w.heap.size w wc))
       case first =>
        have H := HC8.out
        clear HC8
        by_cases c9 : x10_2 < (l1.length : Int)
        ·rw [if_pos c9] at H
         have c9b0 : decide (x10_2 < (l1.length : Int)) = true := decide_eq_true c9
         clear c9
         (first | rw [c9b0] | (simp only [i64_w, i32_w]; rw [c9b0]) | skip)
         have H' := Aside0.mk H
         clear H
         go_wp2
         repeat (go_quiet (fail); try go_wp2)
         go_meet
         case rel => exact ⟨_, (!x9_2), (by first | rfl | (simp; done) | (simp [*]; done)), H', ⟨by have := HK1.out; have := HK2.out; first | omega | exact Nat.le_refl _⟩, ⟨by (with_reducible repeat (first | apply Kd.R_alloc | apply Kd.R_drewN | apply Kd.R_drew)); exact HO_6.out⟩, ⟨by (with_reducible repeat (first | apply Kd.R_alloc | apply Kd.R_drewN | apply Kd.R_drew)); exact HO_7.out⟩, ⟨by repeat (first | (with_reducible first | exact HB.out | apply below_alloc | apply pw_below_drewN | apply below_drew1) | exact HB.out)⟩⟩
        ·rw [if_neg c9] at H
         have c9b0 : decide (x10_2 < (l1.length : Int)) = false := decide_eq_false c9
         clear c9
         (first | rw [c9b0] | (simp only [i64_w, i32_w]; rw [c9b0]) | skip)
         have H' := Aside0.mk H
         clear H
         go_wp2
         repeat (go_quiet (fail); try go_wp2)
         go_meet
         case rel => exact ⟨_, (false), (by first | rfl | (simp; done) | (simp [*]; done)), H', ⟨by have := HK1.out; have := HK2.out; first | omega | exact Nat.le_refl _⟩, ⟨by (with_reducible repeat (first | apply Kd.R_alloc | apply Kd.R_drewN | apply Kd.R_drew)); exact HO_6.out⟩, ⟨by (with_reducible repeat (first | apply Kd.R_alloc | apply Kd.R_drewN | apply Kd.R_drew)); exact HO_7.out⟩, ⟨by repeat (first | (with_reducible first | exact HB.out | apply below_alloc | apply pw_below_drewN | apply below_drew1) | exact HB.out)⟩⟩
       case rest =>
        clear HC8
        try clear c1
        try clear p2
        try clear c3
        try clear c3b0
        try clear c3b1
        try clear c5
        try clear c6
        try clear c6b0
        try clear c9
        try clear c9b0
        try clear p2
        obtain ⟨kq, x32_7, rfl, HA, HJ7, HO_6, HO_7, HB⟩ := hcut
        cases kq with
        | zero => exact absurd HA.out (by simp [waymarkref02_Pieces.j2])
        | succ kj7 =>
         have H := HA.out
         clear HA
         simp only [waymarkref02_Pieces.j2] at H
         by_cases c10 : x32_7 = true
         ·subst c10
          have H1 : (if 0 ≤ x10_2 then (if x10_2 < (l1.length : Int) then (if 0 ≤ x8_1 then (if x8_1 < (t565.length : Int) then ((waymarkref02_Has.f kj7 (rd_L12 l1 x10_2) (rd t565 x8_1)).bind fun t570 => ((waymarkref02_Has.f kj7 (rd_L12 l1 x10_2) (((rd t565 x8_1) - 1) % 4294967296)).bind fun t573 => (waymarkref02_Pieces.l1 kj7 a0 l1 x6_1 t565 x8_1 (t570 != t573) (wrap64 (x10_2 + 1))))) else (none)) else (none)) else (none)) else (none)) = some (r1, r2) := by rw [if_pos rfl] at H; exact H
          clear H
          have H := H1
          clear H1
          by_cases c11 : 0 ≤ x10_2
          ·rw [if_pos c11] at H
           have c11b0 : decide (0 ≤ x10_2) = true := decide_eq_true c11
           clear c11
           by_cases c12 : x10_2 < (l1.length : Int)
           ·rw [if_pos c12] at H
            have c12b0 : decide (x10_2 < (l1.length : Int)) = true := decide_eq_true c12
            clear c12
            by_cases c13 : 0 ≤ x8_1
            ·rw [if_pos c13] at H
             have c13b0 : decide (0 ≤ x8_1) = true := decide_eq_true c13
             clear c13
             by_cases c14 : x8_1 < (t565.length : Int)
             ·rw [if_pos c14] at H
              have c14b0 : decide (x8_1 < (t565.length : Int)) = true := decide_eq_true c14
              clear c14
              replace H := Option.bind_eq_some_iff.mp H
              obtain ⟨t570, A150, H⟩ := H
              replace H : ((waymarkref02_Has.f kj7 (rd_L12 l1 x10_2) (((rd t565 x8_1) - 1) % 4294967296)).bind fun t573 => (waymarkref02_Pieces.l1 kj7 a0 l1 x6_1 t565 x8_1 (t570 != t573) (wrap64 (x10_2 + 1)))) = some (r1, r2) := H
              have A15 := Aside0.mk A150
              clear A150
              replace H := Option.bind_eq_some_iff.mp H
              obtain ⟨t573, A160, H⟩ := H
              replace H : (waymarkref02_Pieces.l1 kj7 a0 l1 x6_1 t565 x8_1 (t570 != t573) (wrap64 (x10_2 + 1))) = some (r1, r2) := H
              have A16 := Aside0.mk A160
              clear A160
              have H' := Aside0.mk H
              clear H
              have p568 : 0 ≤ (x10_2 : Int) := of_decide_eq_true (by first | (with_reducible assumption) | assumption)
              have q568 : x10_2 < (l1.length : Int) := of_decide_eq_true (by first | (with_reducible assumption) | assumption)
              obtain ⟨ad568, A568_0, c568_0, e568, hx568_0, hl568_0, hi568_0⟩ := at_L12 HR1.out x10_2 p568 q568
              cases e568
              replace hx568_0 := pw_cell_below HB.out hx568_0
              have HR568_0 := Aside0.mk hi568_0
              have HC568_0 := Aside0.mk hl568_0
              clear hi568_0 hl568_0
              replace p568 := eq_true p568
              replace q568 := eq_true q568
              have p569 : 0 ≤ (x8_1 : Int) := of_decide_eq_true (by first | (with_reducible assumption) | assumption)
              have q569 : x8_1 < (t565.length : Int) := of_decide_eq_true (by first | (with_reducible assumption) | assumption)
              obtain ⟨ad569, e569, hx569_0⟩ := Kd.at_int (Kd.R_reads' HO_7.out).2.2 x8_1 p569 q569
              cases e569
              replace p569 := eq_true p569
              replace q569 := eq_true q569
              go_wp2_with (first | (go_at_call 53; (with_reducible refine (waymarkref02_Has.calls kj7 _ _ (rd_L12 l1 x10_2) (rd t565 x8_1) t570 _ ?side1 ?side2 A15.out).mono ?_); (case side1 => repeat (first | exact (Kd.C_below HR568_0.out HB.out) | (with_reducible refine Kd.C_alloc ?_ _) | (with_reducible refine Kd.C_drewN ?_ _) | (with_reducible refine Kd.C_drew ?_))); (case side2 => exact HC568_0.out); rintro e w' ⟨rfl, ⟨nd, rfl⟩⟩; (try first | exact ⟨rfl, _, World.drewN_drewN _ _ _⟩ | exact ⟨rfl, _, Eq.trans (World.drewN_drewN _ _ _) (congrArg (World.drewN _) (Nat.add_assoc _ _ _))⟩); have p571 : 0 ≤ (x10_2 : Int) := of_decide_eq_true (by first | (with_reducible assumption) | assumption); have q571 : x10_2 < (l1.length : Int) := of_decide_eq_true (by first | (with_reducible assumption) | assumption); obtain ⟨ad571, A571_0, c571_0, e571, hx571_0, hl571_0, hi571_0⟩ := at_L12 HR1.out x10_2 p571 q571; obtain rfl : ad568 = ad571 := (by injection e571); replace hx571_0 := pw_cell_below HB.out hx571_0; have HR571_0 := Aside0.mk hi571_0; have HC571_0 := Aside0.mk hl571_0; clear hi571_0 hl571_0; replace p571 := eq_true p571; replace q571 := eq_true q571; have ea_ := Option.some.inj (hx568_0.symm.trans hx571_0); injection ea_ with ea_ en_ ec_; subst ea_; subst ec_; clear en_; have p572 : 0 ≤ (x8_1 : Int) := of_decide_eq_true (by first | (with_reducible assumption) | assumption); have q572 : x8_1 < (t565.length : Int) := of_decide_eq_true (by first | (with_reducible assumption) | assumption); obtain ⟨ad572, e572, hx572_0⟩ := Kd.at_int (Kd.R_reads' HO_7.out).2.2 x8_1 p572 q572; obtain rfl : ad569 = ad572 := (by injection e572); replace p572 := eq_true p572; replace q572 := eq_true q572) | (go_at_call 53; (with_reducible refine (waymarkref02_Has.calls kj7 _ _ (rd_L12 l1 x10_2) (IntKind.u32.wrap ((rd t565 x8_1) - 1)) t573 _ ?side1 ?side2 (by rw [u32w36]; exact A16.out)).mono ?_); (case side1 => repeat (first | exact (Kd.C_below HR571_0.out (by repeat (first | (with_reducible first | exact HB.out | apply below_alloc | apply pw_below_drewN | apply below_drew1) | exact HB.out))) | (with_reducible refine Kd.C_alloc ?_ _) | (with_reducible refine Kd.C_drewN ?_ _) | (with_reducible refine Kd.C_drew ?_))); (case side2 => exact HC571_0.out); rintro e w' ⟨rfl, ⟨nd, rfl⟩⟩; (try first | exact ⟨rfl, _, World.drewN_drewN _ _ _⟩ | exact ⟨rfl, _, Eq.trans (World.drewN_drewN _ _ _) (congrArg (World.drewN _) (Nat.add_assoc _ _ _))⟩)))
              repeat (go_quiet (first | (go_at_call 53; (with_reducible refine (waymarkref02_Has.calls kj7 _ _ (rd_L12 l1 x10_2) (rd t565 x8_1) t570 _ ?side1 ?side2 A15.out).mono ?_); (case side1 => repeat (first | exact (Kd.C_below HR568_0.out HB.out) | (with_reducible refine Kd.C_alloc ?_ _) | (with_reducible refine Kd.C_drewN ?_ _) | (with_reducible refine Kd.C_drew ?_))); (case side2 => exact HC568_0.out); rintro e w' ⟨rfl, ⟨nd, rfl⟩⟩; (try first | exact ⟨rfl, _, World.drewN_drewN _ _ _⟩ | exact ⟨rfl, _, Eq.trans (World.drewN_drewN _ _ _) (congrArg (World.drewN _) (Nat.add_assoc _ _ _))⟩); have p571 : 0 ≤ (x10_2 : Int) := of_decide_eq_true (by first | (with_reducible assumption) | assumption); have q571 : x10_2 < (l1.length : Int) := of_decide_eq_true (by first | (with_reducible assumption) | assumption); obtain ⟨ad571, A571_0, c571_0, e571, hx571_0, hl571_0, hi571_0⟩ := at_L12 HR1.out x10_2 p571 q571; obtain rfl : ad568 = ad571 := (by injection e571); replace hx571_0 := pw_cell_below HB.out hx571_0; have HR571_0 := Aside0.mk hi571_0; have HC571_0 := Aside0.mk hl571_0; clear hi571_0 hl571_0; replace p571 := eq_true p571; replace q571 := eq_true q571; have ea_ := Option.some.inj (hx568_0.symm.trans hx571_0); injection ea_ with ea_ en_ ec_; subst ea_; subst ec_; clear en_; have p572 : 0 ≤ (x8_1 : Int) := of_decide_eq_true (by first | (with_reducible assumption) | assumption); have q572 : x8_1 < (t565.length : Int) := of_decide_eq_true (by first | (with_reducible assumption) | assumption); obtain ⟨ad572, e572, hx572_0⟩ := Kd.at_int (Kd.R_reads' HO_7.out).2.2 x8_1 p572 q572; obtain rfl : ad569 = ad572 := (by injection e572); replace p572 := eq_true p572; replace q572 := eq_true q572) | (go_at_call 53; (with_reducible refine (waymarkref02_Has.calls kj7 _ _ (rd_L12 l1 x10_2) (IntKind.u32.wrap ((rd t565 x8_1) - 1)) t573 _ ?side1 ?side2 (by rw [u32w36]; exact A16.out)).mono ?_); (case side1 => repeat (first | exact (Kd.C_below HR571_0.out (by repeat (first | (with_reducible first | exact HB.out | apply below_alloc | apply pw_below_drewN | apply below_drew1) | exact HB.out))) | (with_reducible refine Kd.C_alloc ?_ _) | (with_reducible refine Kd.C_drewN ?_ _) | (with_reducible refine Kd.C_drew ?_))); (case side2 => exact HC571_0.out); rintro e w' ⟨rfl, ⟨nd, rfl⟩⟩; (try first | exact ⟨rfl, _, World.drewN_drewN _ _ _⟩ | exact ⟨rfl, _, Eq.trans (World.drewN_drewN _ _ _) (congrArg (World.drewN _) (Nat.add_assoc _ _ _))⟩))); try go_wp2_with (first | (go_at_call 53; (with_reducible refine (waymarkref02_Has.calls kj7 _ _ (rd_L12 l1 x10_2) (rd t565 x8_1) t570 _ ?side1 ?side2 A15.out).mono ?_); (case side1 => repeat (first | exact (Kd.C_below HR568_0.out HB.out) | (with_reducible refine Kd.C_alloc ?_ _) | (with_reducible refine Kd.C_drewN ?_ _) | (with_reducible refine Kd.C_drew ?_))); (case side2 => exact HC568_0.out); rintro e w' ⟨rfl, ⟨nd, rfl⟩⟩; (try first | exact ⟨rfl, _, World.drewN_drewN _ _ _⟩ | exact ⟨rfl, _, Eq.trans (World.drewN_drewN _ _ _) (congrArg (World.drewN _) (Nat.add_assoc _ _ _))⟩); have p571 : 0 ≤ (x10_2 : Int) := of_decide_eq_true (by first | (with_reducible assumption) | assumption); have q571 : x10_2 < (l1.length : Int) := of_decide_eq_true (by first | (with_reducible assumption) | assumption); obtain ⟨ad571, A571_0, c571_0, e571, hx571_0, hl571_0, hi571_0⟩ := at_L12 HR1.out x10_2 p571 q571; obtain rfl : ad568 = ad571 := (by injection e571); replace hx571_0 := pw_cell_below HB.out hx571_0; have HR571_0 := Aside0.mk hi571_0; have HC571_0 := Aside0.mk hl571_0; clear hi571_0 hl571_0; replace p571 := eq_true p571; replace q571 := eq_true q571; have ea_ := Option.some.inj (hx568_0.symm.trans hx571_0); injection ea_ with ea_ en_ ec_; subst ea_; subst ec_; clear en_; have p572 : 0 ≤ (x8_1 : Int) := of_decide_eq_true (by first | (with_reducible assumption) | assumption); have q572 : x8_1 < (t565.length : Int) := of_decide_eq_true (by first | (with_reducible assumption) | assumption); obtain ⟨ad572, e572, hx572_0⟩ := Kd.at_int (Kd.R_reads' HO_7.out).2.2 x8_1 p572 q572; obtain rfl : ad569 = ad572 := (by injection e572); replace p572 := eq_true p572; replace q572 := eq_true q572) | (go_at_call 53; (with_reducible refine (waymarkref02_Has.calls kj7 _ _ (rd_L12 l1 x10_2) (IntKind.u32.wrap ((rd t565 x8_1) - 1)) t573 _ ?side1 ?side2 (by rw [u32w36]; exact A16.out)).mono ?_); (case side1 => repeat (first | exact (Kd.C_below HR571_0.out (by repeat (first | (with_reducible first | exact HB.out | apply below_alloc | apply pw_below_drewN | apply below_drew1) | exact HB.out))) | (with_reducible refine Kd.C_alloc ?_ _) | (with_reducible refine Kd.C_drewN ?_ _) | (with_reducible refine Kd.C_drew ?_))); (case side2 => exact HC571_0.out); rintro e w' ⟨rfl, ⟨nd, rfl⟩⟩; (try first | exact ⟨rfl, _, World.drewN_drewN _ _ _⟩ | exact ⟨rfl, _, Eq.trans (World.drewN_drewN _ _ _) (congrArg (World.drewN _) (Nat.add_assoc _ _ _))⟩))))
              go_roundg kj7
              case measure => have := HK1.out; have := HK2.out; have := HJ7.out; omega
              case rel => exact ⟨((t570 != t573)), (wrap64 (x10_2 + 1)), (by first | rfl | (simp; done) | (simp [*]; done)), (by first | rfl | (simp; done) | (simp [*]; done)), H', ⟨by have := HK1.out; have := HK2.out; have := HJ7.out; omega⟩, ⟨by (with_reducible repeat (first | apply Kd.R_alloc | apply Kd.R_drewN | apply Kd.R_drew)); exact HO_6.out⟩, ⟨by (with_reducible repeat (first | apply Kd.R_alloc | apply Kd.R_drewN | apply Kd.R_drew)); exact HO_7.out⟩, ⟨by repeat (first | (with_reducible first | exact HB.out | apply below_alloc | apply pw_below_drewN | apply below_drew1) | exact HB.out)⟩⟩
             ·rw [if_neg c14] at H
              exact absurd H (by simp)
            ·rw [if_neg c13] at H
             exact absurd H (by simp)
           ·rw [if_neg c12] at H
            exact absurd H (by simp)
          ·rw [if_neg c11] at H
           exact absurd H (by simp)
         ·replace c10 := Bool.eq_false_iff.mpr c10
          subst c10
          have H1 : (if x9_2 = true then (if x8_1 > 0 then (if 0 ≤ x8_1 then (if x8_1 < (t565.length : Int) then (if 0 ≤ (wrap64 ((x6_1.length : Int) - 1)) then (if (wrap64 ((x6_1.length : Int) - 1)) < (x6_1.length : Int) then ((some (x6_1.set ((wrap64 ((x6_1.length : Int) - 1)) : Int).toNat (⟨(rd_T31 x6_1 (wrap64 ((x6_1.length : Int) - 1))).f0, ((rd t565 x8_1) - 1) % 4294967296⟩ : S31) : List (S31))).bind fun y575 => (if y575.length < 17592186044416 then (waymarkref02_Pieces.l0 kj7 a0 l1 (y575 ++ [(⟨rd t565 x8_1, a0⟩ : S31)]) t565 (wrap64 (x8_1 + 1))) else (none))) else (none)) else (none)) else (none)) else (none)) else (if 0 ≤ x8_1 then (if x8_1 < (t565.length : Int) then (if x6_1.length < 17592186044416 then (waymarkref02_Pieces.l0 kj7 a0 l1 (x6_1 ++ [(⟨rd t565 x8_1, a0⟩ : S31)]) t565 (wrap64 (x8_1 + 1))) else (none)) else (none)) else (none))) else (waymarkref02_Pieces.l0 kj7 a0 l1 x6_1 t565 (wrap64 (x8_1 + 1)))) = some (r1, r2) := by rw [if_neg (show ¬ (false = true) by decide)] at H; exact H
          clear H
          have H := H1
          clear H1
          by_cases c17 : x9_2 = true
          ·subst c17
           have H1 : (if x8_1 > 0 then (if 0 ≤ x8_1 then (if x8_1 < (t565.length : Int) then (if 0 ≤ (wrap64 ((x6_1.length : Int) - 1)) then (if (wrap64 ((x6_1.length : Int) - 1)) < (x6_1.length : Int) then ((some (x6_1.set ((wrap64 ((x6_1.length : Int) - 1)) : Int).toNat (⟨(rd_T31 x6_1 (wrap64 ((x6_1.length : Int) - 1))).f0, ((rd t565 x8_1) - 1) % 4294967296⟩ : S31) : List (S31))).bind fun y575 => (if y575.length < 17592186044416 then (waymarkref02_Pieces.l0 kj7 a0 l1 (y575 ++ [(⟨rd t565 x8_1, a0⟩ : S31)]) t565 (wrap64 (x8_1 + 1))) else (none))) else (none)) else (none)) else (none)) else (none)) else (if 0 ≤ x8_1 then (if x8_1 < (t565.length : Int) then (if x6_1.length < 17592186044416 then (waymarkref02_Pieces.l0 kj7 a0 l1 (x6_1 ++ [(⟨rd t565 x8_1, a0⟩ : S31)]) t565 (wrap64 (x8_1 + 1))) else (none)) else (none)) else (none))) = some (r1, r2) := by rw [if_pos rfl] at H; exact H
           clear H
           have H := H1
           clear H1
           by_cases c18 : x8_1 > 0
           ·rw [if_pos c18] at H
            have c18b0 : decide (0 < x8_1) = true := decide_eq_true c18
            clear c18
            by_cases c19 : 0 ≤ x8_1
            ·rw [if_pos c19] at H
             have c19b0 : decide (0 ≤ x8_1) = true := decide_eq_true c19
             clear c19
             by_cases c20 : x8_1 < (t565.length : Int)
             ·rw [if_pos c20] at H
              have c20b0 : decide (x8_1 < (t565.length : Int)) = true := decide_eq_true c20
              clear c20
              obtain ⟨ji21, hji21⟩ : ∃ j_ : Int, (wrap64 ((x6_1.length : Int) - 1)) = j_ := ⟨_, rfl⟩
              replace H : (if 0 ≤ (ji21) then (if (ji21) < (x6_1.length : Int) then ((some (x6_1.set ((ji21) : Int).toNat (⟨(rd_T31 x6_1 (ji21)).f0, ((rd t565 x8_1) - 1) % 4294967296⟩ : S31) : List (S31))).bind fun y575 => (if y575.length < 17592186044416 then (waymarkref02_Pieces.l0 kj7 a0 l1 (y575 ++ [(⟨rd t565 x8_1, a0⟩ : S31)]) t565 (wrap64 (x8_1 + 1))) else (none))) else (none)) else (none)) = some (r1, r2) := by first | (rw [hji21] at H; exact H) | (simp only [hji21] at H ⊢; exact H)
              have hji21w : (IntKind.i64.wrap ((x6_1.length : Int) - 1)) = ji21 := (i64_w _).trans hji21
              by_cases c22 : 0 ≤ (ji21)
              ·rw [if_pos c22] at H
               have c22b0 : decide (0 ≤ (ji21)) = true := decide_eq_true c22
               clear c22
               by_cases c23 : (ji21) < (x6_1.length : Int)
               ·rw [if_pos c23] at H
                have c23b0 : decide ((ji21) < (x6_1.length : Int)) = true := decide_eq_true c23
                clear c23
                obtain ⟨y575, hy575⟩ : ∃ y_ : List (S31), y_ = (x6_1.set ((ji21) : Int).toNat (⟨(rd_T31 x6_1 (ji21)).f0, ((rd t565 x8_1) - 1) % 4294967296⟩ : S31)) := ⟨_, rfl⟩
                replace H : (if y575.length < 17592186044416 then (waymarkref02_Pieces.l0 kj7 a0 l1 (y575 ++ [(⟨rd t565 x8_1, a0⟩ : S31)]) t565 (wrap64 (x8_1 + 1))) else (none)) = some (r1, r2) := by first | (rw [hy575]; with_reducible exact H) | (have H2_ := (Option.bind_some _ _).symm.trans H; rw [hy575]; with_reducible exact H2_) | (have H2_ := (Option.bind_some _ _).symm.trans H; with_reducible exact H2_) | with_reducible exact H | (rw [hy575]; exact H) | exact H
                have Ny575 := Aside0.mk hy575
                clear hy575
                by_cases c25 : y575.length < 17592186044416
                ·rw [if_pos c25] at H
                 have LMc25 := Aside0.mk c25
                 clear c25
                 obtain ⟨y577, hy577⟩ : ∃ y_ : List (S31), y_ = (y575 ++ [(⟨rd t565 x8_1, a0⟩ : S31)]) := ⟨_, rfl⟩
                 replace H : (waymarkref02_Pieces.l0 kj7 a0 l1 y577 t565 (wrap64 (x8_1 + 1))) = some (r1, r2) := by first | (rw [hy577]; with_reducible exact H) | (have H2_ := (Option.bind_some _ _).symm.trans H; rw [hy577]; with_reducible exact H2_) | (have H2_ := (Option.bind_some _ _).symm.trans H; with_reducible exact H2_) | with_reducible exact H | (rw [hy577]; exact H) | exact H
                 have Ny577 := Aside0.mk hy577
                 clear hy577
                 have H' := Aside0.mk H
                 clear H
                 obtain ⟨Ao26, co26, eo26⟩ := Kd.R_slice HO_6.out
                 subst eo26
                 have p574 : 0 ≤ (x8_1 : Int) := of_decide_eq_true (by first | (with_reducible assumption) | assumption)
                 have q574 : x8_1 < (t565.length : Int) := of_decide_eq_true (by first | (with_reducible assumption) | assumption)
                 obtain ⟨ad574, e574, hx574_0⟩ := Kd.at_int (Kd.R_reads' HO_7.out).2.2 x8_1 p574 q574
                 cases e574
                 replace p574 := eq_true p574
                 replace q574 := eq_true q574
                 have p24 : 0 ≤ ((ji21) : Int) := of_decide_eq_true (by first | (with_reducible assumption) | assumption)
                 have q24 : ((ji21) : Int) < ((x6_1.length : Int) : Int) := of_decide_eq_true (by first | (with_reducible assumption) | assumption)
                 obtain ⟨go24, co24, eo24, gb24, gl24, cl24, HG24⟩ := Kd.R_form HO_6.out (by omega)
                 (first | cases eo24 | (injection eo24 with ea_ en_ ec_; (first | subst ea_ | (injection ea_ with ea_; subst ea_)); subst ec_; clear en_))
                 have GB24 := Aside0.mk gb24
                 have GG24 := Aside0.mk HG24
                 clear gb24 gl24 HG24
                 obtain ⟨ce24, hcl24, hM24, hcc24, hfr24⟩ := Kd.R_elem HO_6.out z31 ((ji21) : Int) p24 q24
                 obtain rfl := k31_openM hM24
                 have hx24_0 : wc.cell? ⟨go24, ((ji21) : Int).toNat * 2, none⟩ = some (.int .u32 ((rd_T31 x6_1 (ji21)).f0)) := hcc24 0 _ rfl
                 have hx24_1 : wc.cell? ⟨go24, ((ji21) : Int).toNat * 2 + 1, none⟩ = some (.int .u32 ((rd_T31 x6_1 (ji21)).f1)) := hcc24 1 _ rfl
                 have hf24_0 : wc.frozen? ⟨go24, ((ji21) : Int).toNat * 2, none⟩ = false := hfr24 0
                 have hf24_1 : wc.frozen? ⟨go24, ((ji21) : Int).toNat * 2 + 1, none⟩ = false := hfr24 1
                 clear hcl24 hcc24 hfr24 hM24
                 replace p24 := eq_true p24
                 replace q24 := eq_true q24
                 have HX27 := Aside0.mk (show Kd.R k31 31 wc w.heap.size (fun _ => True) (.slice (some ⟨go24, 0, none⟩) x6_1.length co26) x6_1 from (by (with_reducible repeat (first | apply Kd.R_alloc | apply Kd.R_drewN | apply Kd.R_drew)); exact HO_6.out))
                 obtain ⟨ce27, hcl27, hM27, hcc27, hfr27⟩ := Kd.R_elem HX27.out z31 ((ji21) : Int) (of_decide_eq_true (by first | (with_reducible assumption) | assumption)) (by have h_ : ((ji21) : Int) < ((x6_1.length : Int) : Int) := of_decide_eq_true (by first | (with_reducible assumption) | assumption); first | exact h_ | (have e_ := (Kd.R_reads' HO_6.out).1; omega) | simpa using h_)
                 obtain rfl := k31_openM hM27
                 have HP27 := Kd.R_seg HX27.out ((ji21) : Int) (of_decide_eq_true (by first | (with_reducible assumption) | assumption)) (by have h_ : ((ji21) : Int) < ((x6_1.length : Int) : Int) := of_decide_eq_true (by first | (with_reducible assumption) | assumption); first | exact h_ | (have e_ := (Kd.R_reads' HO_6.out).1; omega) | simpa using h_) (seg := [.int .u32 (((rd t565 x8_1) - 1) % 4294967296)]) (j := 1) hcl27 hcc27 (show 2 ≤ 2 from by decide) (x' := (⟨(rd_T31 x6_1 (ji21)).f0, ((rd t565 x8_1) - 1) % 4294967296⟩ : S31)) (k31_mkM _ _ _ (⟨(rd_T31 x6_1 (ji21)).f0, ((rd t565 x8_1) - 1) % 4294967296⟩ : S31) ) (fun _ hk => hk)
                 have hx27_1 := hcc27 1 _ rfl
                 (try simp only [show (k31).sz = 2 from rfl, Nat.mul_one, Nat.add_zero] at hx27_1)
                 have hf27_1 := hfr27 1
                 (try simp only [show (k31).sz = 2 from rfl, Nat.mul_one, Nat.add_zero] at hf27_1)
                 clear hcl27 hcc27 hfr27 hM27
                 go_wp2_with (first | ((with_reducible refine gate_store (t := 26) (p := 69) rfl ?_); (try (rw [drewN_self wc]; generalize hq_ : World.drewN wc _ = wc; have n0_ := Aside0.mk (Kd.R_at hq_ HO_6.out); have n1_ := Aside0.mk (Kd.R_at hq_ HO_7.out); have n2_ := Aside0.mk (below_at hq_ HB.out); clear hq_ HO_6 HO_7 HB; have HO_6 := n0_; have HO_7 := n1_; have HB := n2_; clear n0_ n1_ n2_; (try (have HX27 := Aside0.mk (show Kd.R k31 31 wc w.heap.size (fun _ => True) (.slice (some ⟨go24, 0, none⟩) x6_1.length co26) x6_1 from (by (with_reducible repeat (first | apply Kd.R_alloc | apply Kd.R_drewN | apply Kd.R_drew)); exact HO_6.out)))); (try (obtain ⟨ce27, hcl27, hM27, hcc27, hfr27⟩ := Kd.R_elem HX27.out z31 ((ji21) : Int) (of_decide_eq_true (by first | (with_reducible assumption) | assumption)) (by have h_ : ((ji21) : Int) < ((x6_1.length : Int) : Int) := of_decide_eq_true (by first | (with_reducible assumption) | assumption); first | exact h_ | (have e_ := (Kd.R_reads' HO_6.out).1; omega) | simpa using h_))); (try (obtain rfl := k31_openM hM27)); (try (have HP27 := Kd.R_seg HX27.out ((ji21) : Int) (of_decide_eq_true (by first | (with_reducible assumption) | assumption)) (by have h_ : ((ji21) : Int) < ((x6_1.length : Int) : Int) := of_decide_eq_true (by first | (with_reducible assumption) | assumption); first | exact h_ | (have e_ := (Kd.R_reads' HO_6.out).1; omega) | simpa using h_) (seg := [.int .u32 (((rd t565 x8_1) - 1) % 4294967296)]) (j := 1) hcl27 hcc27 (show 2 ≤ 2 from by decide) (x' := (⟨(rd_T31 x6_1 (ji21)).f0, ((rd t565 x8_1) - 1) % 4294967296⟩ : S31)) (k31_mkM _ _ _ (⟨(rd_T31 x6_1 (ji21)).f0, ((rd t565 x8_1) - 1) % 4294967296⟩ : S31) ) (fun _ hk => hk))); (try (have hx27_1 := hcc27 1 _ rfl)); (try (try simp only [show (k31).sz = 2 from rfl, Nat.mul_one, Nat.add_zero] at hx27_1)); (try (have hf27_1 := hfr27 1)); (try (try simp only [show (k31).sz = 2 from rfl, Nat.mul_one, Nat.add_zero] at hf27_1)); (try (clear hcl27 hcc27 hfr27 hM27)))); refine store_event (t := 26) (p := 69) (v := ?vo_w28) (w1 := (wc.setCell ⟨go24, ((ji21) : Int).toNat * 2 + 1, none⟩ (.int .u32 (((rd t565 x8_1) - 1) % 4294967296)))) ?hg ?ho ?hn ?hr ?_; (case ho => rfl); (case hg => rfl); (case hn => rfl); (case hr => first | (go_simp; done) | (go_simp; rfl)); intro w28 hw; have hg : wc.grownBy w28 (some go24) := (by rw [hw]; exact HP27.2); have hp_ : Kd.R k31 31 w28 w.heap.size (fun _ => True) (.slice (some ⟨go24, 0, none⟩) x6_1.length co26) y575 := (by rw [hw, Ny575.out]; exact HP27.1); clear HP27; have n0_ := Aside0.mk (hp_); have n1_ := Aside0.mk (Kd.R_over' (v := (.slice (some ⟨go24, 0, none⟩) x6_1.length co26)) (by (with_reducible repeat (first | apply Kd.R_alloc | apply Kd.R_drewN | apply Kd.R_drew)); exact HO_7.out) (Kd.R_typed HO_6.out) (by decide) hg); have n2_ := Aside0.mk ((by rw [hw]; exact below_set (HB.out) GB24.out : Below w.heap.size w w28)); clear HO_6; clear HO_7; clear HB; have HO_6 := n0_; have HO_7 := n1_; have HB := n2_; clear n0_ n1_ n2_; clear hg hw hp_; have p576 : 0 ≤ (x8_1 : Int) := of_decide_eq_true (by first | (with_reducible assumption) | assumption); have q576 : x8_1 < (t565.length : Int) := of_decide_eq_true (by first | (with_reducible assumption) | assumption); obtain ⟨ad576, e576, hx576_0⟩ := Kd.at_int (Kd.R_reads' HO_7.out).2.2 x8_1 p576 q576; obtain rfl : ad574 = ad576 := (by injection e576); replace p576 := eq_true p576; replace q576 := eq_true q576) | ((with_reducible refine gate_builtin (b := .append) (xs := #[.tmp 70, .tmp 77]) rfl ?_); at_builtin; refine Kd.R_append k31 (w0 := w) w.heap.size rfl (.tmp 70) (.tmp 77) 71 31 (.agg #[(.int .u32 0), (.int .u32 0)]) 8 rfl Try.underlying71 info31 rfl (by decide) (by omega) (.slice (some ⟨go24, 0, none⟩) x6_1.length co26) y575 (⟨rd t565 x8_1, a0⟩ : S31) [.int .u32 (rd t565 x8_1), .int .u32 a0] (fun _ => True) (fun _ => False) rfl rfl ?aP (fun _ hk => hk.elim) ?aF ?aO ?aB ?aS ?aL ?_; (case aP => exact k31_mkM _ _ _ (⟨rd t565 x8_1, a0⟩ : S31)); (case aB => exact (by repeat (first | (with_reducible first | exact HB.out | apply below_alloc | apply pw_below_drewN | apply below_drew1) | exact HB.out))); (case aF => exact (fun _ _ => trivial)); (case aO => exact (by (with_reducible repeat (first | apply Kd.R_alloc | apply Kd.R_drewN | apply Kd.R_drew)); exact HO_6.out)); (case aS => exact (below_size (by repeat (first | (with_reducible first | exact HB.out | apply below_alloc | apply pw_below_drewN | apply below_drew1) | exact HB.out)))); (case aL => have := LMc25.out; omega); intro v578 w29 ho hb hg hat; rw [← Ny577.out] at ho; have n0_ := Aside0.mk (Kd.R_over' (by (with_reducible repeat (first | apply Kd.R_alloc | apply Kd.R_drewN | apply Kd.R_drew)); exact HO_7.out) (Kd.R_typed (by (with_reducible repeat (first | apply Kd.R_alloc | apply Kd.R_drewN | apply Kd.R_drew)); exact HO_6.out)) (by decide) hg); have n1_ := Aside0.mk (hb); have n2_ := Aside0.mk (ho); clear HO_7; clear HB; clear HO_6; have HO_7 := n0_; have HB := n1_; have HO579 := n2_; clear n0_ n1_ n2_; clear ho hb hg hat))
                 repeat (go_quiet (first | ((with_reducible refine gate_store (t := 26) (p := 69) rfl ?_); (try (rw [drewN_self wc]; generalize hq_ : World.drewN wc _ = wc; have n0_ := Aside0.mk (Kd.R_at hq_ HO_6.out); have n1_ := Aside0.mk (Kd.R_at hq_ HO_7.out); have n2_ := Aside0.mk (below_at hq_ HB.out); clear hq_ HO_6 HO_7 HB; have HO_6 := n0_; have HO_7 := n1_; have HB := n2_; clear n0_ n1_ n2_; (try (have HX27 := Aside0.mk (show Kd.R k31 31 wc w.heap.size (fun _ => True) (.slice (some ⟨go24, 0, none⟩) x6_1.length co26) x6_1 from (by (with_reducible repeat (first | apply Kd.R_alloc | apply Kd.R_drewN | apply Kd.R_drew)); exact HO_6.out)))); (try (obtain ⟨ce27, hcl27, hM27, hcc27, hfr27⟩ := Kd.R_elem HX27.out z31 ((ji21) : Int) (of_decide_eq_true (by first | (with_reducible assumption) | assumption)) (by have h_ : ((ji21) : Int) < ((x6_1.length : Int) : Int) := of_decide_eq_true (by first | (with_reducible assumption) | assumption); first | exact h_ | (have e_ := (Kd.R_reads' HO_6.out).1; omega) | simpa using h_))); (try (obtain rfl := k31_openM hM27)); (try (have HP27 := Kd.R_seg HX27.out ((ji21) : Int) (of_decide_eq_true (by first | (with_reducible assumption) | assumption)) (by have h_ : ((ji21) : Int) < ((x6_1.length : Int) : Int) := of_decide_eq_true (by first | (with_reducible assumption) | assumption); first | exact h_ | (have e_ := (Kd.R_reads' HO_6.out).1; omega) | simpa using h_) (seg := [.int .u32 (((rd t565 x8_1) - 1) % 4294967296)]) (j := 1) hcl27 hcc27 (show 2 ≤ 2 from by decide) (x' := (⟨(rd_T31 x6_1 (ji21)).f0, ((rd t565 x8_1) - 1) % 4294967296⟩ : S31)) (k31_mkM _ _ _ (⟨(rd_T31 x6_1 (ji21)).f0, ((rd t565 x8_1) - 1) % 4294967296⟩ : S31) ) (fun _ hk => hk))); (try (have hx27_1 := hcc27 1 _ rfl)); (try (try simp only [show (k31).sz = 2 from rfl, Nat.mul_one, Nat.add_zero] at hx27_1)); (try (have hf27_1 := hfr27 1)); (try (try simp only [show (k31).sz = 2 from rfl, Nat.mul_one, Nat.add_zero] at hf27_1)); (try (clear hcl27 hcc27 hfr27 hM27)))); refine store_event (t := 26) (p := 69) (v := ?vo_w28) (w1 := (wc.setCell ⟨go24, ((ji21) : Int).toNat * 2 + 1, none⟩ (.int .u32 (((rd t565 x8_1) - 1) % 4294967296)))) ?hg ?ho ?hn ?hr ?_; (case ho => rfl); (case hg => rfl); (case hn => rfl); (case hr => first | (go_simp; done) | (go_simp; rfl)); intro w28 hw; have hg : wc.grownBy w28 (some go24) := (by rw [hw]; exact HP27.2); have hp_ : Kd.R k31 31 w28 w.heap.size (fun _ => True) (.slice (some ⟨go24, 0, none⟩) x6_1.length co26) y575 := (by rw [hw, Ny575.out]; exact HP27.1); clear HP27; have n0_ := Aside0.mk (hp_); have n1_ := Aside0.mk (Kd.R_over' (v := (.slice (some ⟨go24, 0, none⟩) x6_1.length co26)) (by (with_reducible repeat (first | apply Kd.R_alloc | apply Kd.R_drewN | apply Kd.R_drew)); exact HO_7.out) (Kd.R_typed HO_6.out) (by decide) hg); have n2_ := Aside0.mk ((by rw [hw]; exact below_set (HB.out) GB24.out : Below w.heap.size w w28)); clear HO_6; clear HO_7; clear HB; have HO_6 := n0_; have HO_7 := n1_; have HB := n2_; clear n0_ n1_ n2_; clear hg hw hp_; have p576 : 0 ≤ (x8_1 : Int) := of_decide_eq_true (by first | (with_reducible assumption) | assumption); have q576 : x8_1 < (t565.length : Int) := of_decide_eq_true (by first | (with_reducible assumption) | assumption); obtain ⟨ad576, e576, hx576_0⟩ := Kd.at_int (Kd.R_reads' HO_7.out).2.2 x8_1 p576 q576; obtain rfl : ad574 = ad576 := (by injection e576); replace p576 := eq_true p576; replace q576 := eq_true q576) | ((with_reducible refine gate_builtin (b := .append) (xs := #[.tmp 70, .tmp 77]) rfl ?_); at_builtin; refine Kd.R_append k31 (w0 := w) w.heap.size rfl (.tmp 70) (.tmp 77) 71 31 (.agg #[(.int .u32 0), (.int .u32 0)]) 8 rfl Try.underlying71 info31 rfl (by decide) (by omega) (.slice (some ⟨go24, 0, none⟩) x6_1.length co26) y575 (⟨rd t565 x8_1, a0⟩ : S31) [.int .u32 (rd t565 x8_1), .int .u32 a0] (fun _ => True) (fun _ => False) rfl rfl ?aP (fun _ hk => hk.elim) ?aF ?aO ?aB ?aS ?aL ?_; (case aP => exact k31_mkM _ _ _ (⟨rd t565 x8_1, a0⟩ : S31)); (case aB => exact (by repeat (first | (with_reducible first | exact HB.out | apply below_alloc | apply pw_below_drewN | apply below_drew1) | exact HB.out))); (case aF => exact (fun _ _ => trivial)); (case aO => exact (by (with_reducible repeat (first | apply Kd.R_alloc | apply Kd.R_drewN | apply Kd.R_drew)); exact HO_6.out)); (case aS => exact (below_size (by repeat (first | (with_reducible first | exact HB.out | apply below_alloc | apply pw_below_drewN | apply below_drew1) | exact HB.out)))); (case aL => have := LMc25.out; omega); intro v578 w29 ho hb hg hat; rw [← Ny577.out] at ho; have n0_ := Aside0.mk (Kd.R_over' (by (with_reducible repeat (first | apply Kd.R_alloc | apply Kd.R_drewN | apply Kd.R_drew)); exact HO_7.out) (Kd.R_typed (by (with_reducible repeat (first | apply Kd.R_alloc | apply Kd.R_drewN | apply Kd.R_drew)); exact HO_6.out)) (by decide) hg); have n1_ := Aside0.mk (hb); have n2_ := Aside0.mk (ho); clear HO_7; clear HB; clear HO_6; have HO_7 := n0_; have HB := n1_; have HO579 := n2_; clear n0_ n1_ n2_; clear ho hb hg hat)); try go_wp2_with (first | ((with_reducible refine gate_store (t := 26) (p := 69) rfl ?_); (try (rw [drewN_self wc]; generalize hq_ : World.drewN wc _ = wc; have n0_ := Aside0.mk (Kd.R_at hq_ HO_6.out); have n1_ := Aside0.mk (Kd.R_at hq_ HO_7.out); have n2_ := Aside0.mk (below_at hq_ HB.out); clear hq_ HO_6 HO_7 HB; have HO_6 := n0_; have HO_7 := n1_; have HB := n2_; clear n0_ n1_ n2_; (try (have HX27 := Aside0.mk (show Kd.R k31 31 wc w.heap.size (fun _ => True) (.slice (some ⟨go24, 0, none⟩) x6_1.length co26) x6_1 from (by (with_reducible repeat (first | apply Kd.R_alloc | apply Kd.R_drewN | apply Kd.R_drew)); exact HO_6.out)))); (try (obtain ⟨ce27, hcl27, hM27, hcc27, hfr27⟩ := Kd.R_elem HX27.out z31 ((ji21) : Int) (of_decide_eq_true (by first | (with_reducible assumption) | assumption)) (by have h_ : ((ji21) : Int) < ((x6_1.length : Int) : Int) := of_decide_eq_true (by first | (with_reducible assumption) | assumption); first | exact h_ | (have e_ := (Kd.R_reads' HO_6.out).1; omega) | simpa using h_))); (try (obtain rfl := k31_openM hM27)); (try (have HP27 := Kd.R_seg HX27.out ((ji21) : Int) (of_decide_eq_true (by first | (with_reducible assumption) | assumption)) (by have h_ : ((ji21) : Int) < ((x6_1.length : Int) : Int) := of_decide_eq_true (by first | (with_reducible assumption) | assumption); first | exact h_ | (have e_ := (Kd.R_reads' HO_6.out).1; omega) | simpa using h_) (seg := [.int .u32 (((rd t565 x8_1) - 1) % 4294967296)]) (j := 1) hcl27 hcc27 (show 2 ≤ 2 from by decide) (x' := (⟨(rd_T31 x6_1 (ji21)).f0, ((rd t565 x8_1) - 1) % 4294967296⟩ : S31)) (k31_mkM _ _ _ (⟨(rd_T31 x6_1 (ji21)).f0, ((rd t565 x8_1) - 1) % 4294967296⟩ : S31) ) (fun _ hk => hk))); (try (have hx27_1 := hcc27 1 _ rfl)); (try (try simp only [show (k31).sz = 2 from rfl, Nat.mul_one, Nat.add_zero] at hx27_1)); (try (have hf27_1 := hfr27 1)); (try (try simp only [show (k31).sz = 2 from rfl, Nat.mul_one, Nat.add_zero] at hf27_1)); (try (clear hcl27 hcc27 hfr27 hM27)))); refine store_event (t := 26) (p := 69) (v := ?vo_w28) (w1 := (wc.setCell ⟨go24, ((ji21) : Int).toNat * 2 + 1, none⟩ (.int .u32 (((rd t565 x8_1) - 1) % 4294967296)))) ?hg ?ho ?hn ?hr ?_; (case ho => rfl); (case hg => rfl); (case hn => rfl); (case hr => first | (go_simp; done) | (go_simp; rfl)); intro w28 hw; have hg : wc.grownBy w28 (some go24) := (by rw [hw]; exact HP27.2); have hp_ : Kd.R k31 31 w28 w.heap.size (fun _ => True) (.slice (some ⟨go24, 0, none⟩) x6_1.length co26) y575 := (by rw [hw, Ny575.out]; exact HP27.1); clear HP27; have n0_ := Aside0.mk (hp_); have n1_ := Aside0.mk (Kd.R_over' (v := (.slice (some ⟨go24, 0, none⟩) x6_1.length co26)) (by (with_reducible repeat (first | apply Kd.R_alloc | apply Kd.R_drewN | apply Kd.R_drew)); exact HO_7.out) (Kd.R_typed HO_6.out) (by decide) hg); have n2_ := Aside0.mk ((by rw [hw]; exact below_set (HB.out) GB24.out : Below w.heap.size w w28)); clear HO_6; clear HO_7; clear HB; have HO_6 := n0_; have HO_7 := n1_; have HB := n2_; clear n0_ n1_ n2_; clear hg hw hp_; have p576 : 0 ≤ (x8_1 : Int) := of_decide_eq_true (by first | (with_reducible assumption) | assumption); have q576 : x8_1 < (t565.length : Int) := of_decide_eq_true (by first | (with_reducible assumption) | assumption); obtain ⟨ad576, e576, hx576_0⟩ := Kd.at_int (Kd.R_reads' HO_7.out).2.2 x8_1 p576 q576; obtain rfl : ad574 = ad576 := (by injection e576); replace p576 := eq_true p576; replace q576 := eq_true q576) | ((with_reducible refine gate_builtin (b := .append) (xs := #[.tmp 70, .tmp 77]) rfl ?_); at_builtin; refine Kd.R_append k31 (w0 := w) w.heap.size rfl (.tmp 70) (.tmp 77) 71 31 (.agg #[(.int .u32 0), (.int .u32 0)]) 8 rfl Try.underlying71 info31 rfl (by decide) (by omega) (.slice (some ⟨go24, 0, none⟩) x6_1.length co26) y575 (⟨rd t565 x8_1, a0⟩ : S31) [.int .u32 (rd t565 x8_1), .int .u32 a0] (fun _ => True) (fun _ => False) rfl rfl ?aP (fun _ hk => hk.elim) ?aF ?aO ?aB ?aS ?aL ?_; (case aP => exact k31_mkM _ _ _ (⟨rd t565 x8_1, a0⟩ : S31)); (case aB => exact (by repeat (first | (with_reducible first | exact HB.out | apply below_alloc | apply pw_below_drewN | apply below_drew1) | exact HB.out))); (case aF => exact (fun _ _ => trivial)); (case aO => exact (by (with_reducible repeat (first | apply Kd.R_alloc | apply Kd.R_drewN | apply Kd.R_drew)); exact HO_6.out)); (case aS => exact (below_size (by repeat (first | (with_reducible first | exact HB.out | apply below_alloc | apply pw_below_drewN | apply below_drew1) | exact HB.out)))); (case aL => have := LMc25.out; omega); intro v578 w29 ho hb hg hat; rw [← Ny577.out] at ho; have n0_ := Aside0.mk (Kd.R_over' (by (with_reducible repeat (first | apply Kd.R_alloc | apply Kd.R_drewN | apply Kd.R_drew)); exact HO_7.out) (Kd.R_typed (by (with_reducible repeat (first | apply Kd.R_alloc | apply Kd.R_drewN | apply Kd.R_drew)); exact HO_6.out)) (by decide) hg); have n1_ := Aside0.mk (hb); have n2_ := Aside0.mk (ho); clear HO_7; clear HB; clear HO_6; have HO_7 := n0_; have HB := n1_; have HO579 := n2_; clear n0_ n1_ n2_; clear ho hb hg hat)))
                 go_roundg kj7
                 case measure => have := HK1.out; have := HK2.out; have := HJ7.out; omega
                 case rel => exact ⟨(y577), (wrap64 (x8_1 + 1)), (by first | rfl | (simp; done) | (simp [*]; done)), H', ⟨by have := HK1.out; have := HK2.out; have := HJ7.out; omega⟩, ⟨by (with_reducible repeat (first | apply Kd.R_alloc | apply Kd.R_drewN | apply Kd.R_drew)); exact HO579.out⟩, ⟨by (with_reducible repeat (first | apply Kd.R_alloc | apply Kd.R_drewN | apply Kd.R_drew)); exact HO_7.out⟩, ⟨by repeat (first | (with_reducible first | exact HB.out | apply below_alloc | apply pw_below_drewN | apply below_drew1) | exact HB.out)⟩⟩
                ·rw [if_neg c25] at H
                 exact absurd H (by simp)
               ·rw [if_neg c23] at H
                exact absurd H (by simp)
              ·rw [if_neg c22] at H
               exact absurd H (by simp)
             ·rw [if_neg c20] at H
              exact absurd H (by simp)
            ·rw [if_neg c19] at H
             exact absurd H (by simp)
           ·rw [if_neg c18] at H
            have c18b0 : decide (0 < x8_1) = false := decide_eq_false c18
            clear c18
            by_cases c30 : 0 ≤ x8_1
            ·rw [if_pos c30] at H
             have c30b0 : decide (0 ≤ x8_1) = true := decide_eq_true c30
             clear c30
             by_cases c31 : x8_1 < (t565.length : Int)
             ·rw [if_pos c31] at H
              have c31b0 : decide (x8_1 < (t565.length : Int)) = true := decide_eq_true c31
              clear c31
              by_cases c32 : x6_1.length < 17592186044416
              ·rw [if_pos c32] at H
               have LMc32 := Aside0.mk c32
               clear c32
               obtain ⟨y581, hy581⟩ : ∃ y_ : List (S31), y_ = (x6_1 ++ [(⟨rd t565 x8_1, a0⟩ : S31)]) := ⟨_, rfl⟩
               replace H : (waymarkref02_Pieces.l0 kj7 a0 l1 y581 t565 (wrap64 (x8_1 + 1))) = some (r1, r2) := by first | (rw [hy581]; with_reducible exact H) | (have H2_ := (Option.bind_some _ _).symm.trans H; rw [hy581]; with_reducible exact H2_) | (have H2_ := (Option.bind_some _ _).symm.trans H; with_reducible exact H2_) | with_reducible exact H | (rw [hy581]; exact H) | exact H
               have Ny581 := Aside0.mk hy581
               clear hy581
               have H' := Aside0.mk H
               clear H
               have p580 : 0 ≤ (x8_1 : Int) := of_decide_eq_true (by first | (with_reducible assumption) | assumption)
               have q580 : x8_1 < (t565.length : Int) := of_decide_eq_true (by first | (with_reducible assumption) | assumption)
               obtain ⟨ad580, e580, hx580_0⟩ := Kd.at_int (Kd.R_reads' HO_7.out).2.2 x8_1 p580 q580
               cases e580
               replace p580 := eq_true p580
               replace q580 := eq_true q580
               go_wp2_with (first | ((with_reducible refine gate_builtin (b := .append) (xs := #[.tmp 70, .tmp 77]) rfl ?_); at_builtin; refine Kd.R_append k31 (w0 := w) w.heap.size rfl (.tmp 70) (.tmp 77) 71 31 (.agg #[(.int .u32 0), (.int .u32 0)]) 8 rfl Try.underlying71 info31 rfl (by decide) (by omega) u6 x6_1 (⟨rd t565 x8_1, a0⟩ : S31) [.int .u32 (rd t565 x8_1), .int .u32 a0] (fun _ => True) (fun _ => False) rfl rfl ?aP (fun _ hk => hk.elim) ?aF ?aO ?aB ?aS ?aL ?_; (case aP => exact k31_mkM _ _ _ (⟨rd t565 x8_1, a0⟩ : S31)); (case aB => exact (by repeat (first | (with_reducible first | exact HB.out | apply below_alloc | apply pw_below_drewN | apply below_drew1) | exact HB.out))); (case aF => exact (fun _ _ => trivial)); (case aO => exact (by (with_reducible repeat (first | apply Kd.R_alloc | apply Kd.R_drewN | apply Kd.R_drew)); exact HO_6.out)); (case aS => exact (below_size (by repeat (first | (with_reducible first | exact HB.out | apply below_alloc | apply pw_below_drewN | apply below_drew1) | exact HB.out)))); (case aL => have := LMc32.out; omega); intro v582 w33 ho hb hg hat; rw [← Ny581.out] at ho; have n0_ := Aside0.mk (Kd.R_over' (by (with_reducible repeat (first | apply Kd.R_alloc | apply Kd.R_drewN | apply Kd.R_drew)); exact HO_7.out) (Kd.R_typed (by (with_reducible repeat (first | apply Kd.R_alloc | apply Kd.R_drewN | apply Kd.R_drew)); exact HO_6.out)) (by decide) hg); have n1_ := Aside0.mk (hb); have n2_ := Aside0.mk (ho); clear HO_7; clear HB; clear HO_6; have HO_7 := n0_; have HB := n1_; have HO583 := n2_; clear n0_ n1_ n2_; clear ho hb hg hat))
               repeat (go_quiet (first | ((with_reducible refine gate_builtin (b := .append) (xs := #[.tmp 70, .tmp 77]) rfl ?_); at_builtin; refine Kd.R_append k31 (w0 := w) w.heap.size rfl (.tmp 70) (.tmp 77) 71 31 (.agg #[(.int .u32 0), (.int .u32 0)]) 8 rfl Try.underlying71 info31 rfl (by decide) (by omega) u6 x6_1 (⟨rd t565 x8_1, a0⟩ : S31) [.int .u32 (rd t565 x8_1), .int .u32 a0] (fun _ => True) (fun _ => False) rfl rfl ?aP (fun _ hk => hk.elim) ?aF ?aO ?aB ?aS ?aL ?_; (case aP => exact k31_mkM _ _ _ (⟨rd t565 x8_1, a0⟩ : S31)); (case aB => exact (by repeat (first | (with_reducible first | exact HB.out | apply below_alloc | apply pw_below_drewN | apply below_drew1) | exact HB.out))); (case aF => exact (fun _ _ => trivial)); (case aO => exact (by (with_reducible repeat (first | apply Kd.R_alloc | apply Kd.R_drewN | apply Kd.R_drew)); exact HO_6.out)); (case aS => exact (below_size (by repeat (first | (with_reducible first | exact HB.out | apply below_alloc | apply pw_below_drewN | apply below_drew1) | exact HB.out)))); (case aL => have := LMc32.out; omega); intro v582 w33 ho hb hg hat; rw [← Ny581.out] at ho; have n0_ := Aside0.mk (Kd.R_over' (by (with_reducible repeat (first | apply Kd.R_alloc | apply Kd.R_drewN | apply Kd.R_drew)); exact HO_7.out) (Kd.R_typed (by (with_reducible repeat (first | apply Kd.R_alloc | apply Kd.R_drewN | apply Kd.R_drew)); exact HO_6.out)) (by decide) hg); have n1_ := Aside0.mk (hb); have n2_ := Aside0.mk (ho); clear HO_7; clear HB; clear HO_6; have HO_7 := n0_; have HB := n1_; have HO583 := n2_; clear n0_ n1_ n2_; clear ho hb hg hat)); try go_wp2_with (first | ((with_reducible refine gate_builtin (b := .append) (xs := #[.tmp 70, .tmp 77]) rfl ?_); at_builtin; refine Kd.R_append k31 (w0 := w) w.heap.size rfl (.tmp 70) (.tmp 77) 71 31 (.agg #[(.int .u32 0), (.int .u32 0)]) 8 rfl Try.underlying71 info31 rfl (by decide) (by omega) u6 x6_1 (⟨rd t565 x8_1, a0⟩ : S31) [.int .u32 (rd t565 x8_1), .int .u32 a0] (fun _ => True) (fun _ => False) rfl rfl ?aP (fun _ hk => hk.elim) ?aF ?aO ?aB ?aS ?aL ?_; (case aP => exact k31_mkM _ _ _ (⟨rd t565 x8_1, a0⟩ : S31)); (case aB => exact (by repeat (first | (with_reducible first | exact HB.out | apply below_alloc | apply pw_below_drewN | apply below_drew1) | exact HB.out))); (case aF => exact (fun _ _ => trivial)); (case aO => exact (by (with_reducible repeat (first | apply Kd.R_alloc | apply Kd.R_drewN | apply Kd.R_drew)); exact HO_6.out)); (case aS => exact (below_size (by repeat (first | (with_reducible first | exact HB.out | apply below_alloc | apply pw_below_drewN | apply below_drew1) | exact HB.out)))); (case aL => have := LMc32.out; omega); intro v582 w33 ho hb hg hat; rw [← Ny581.out] at ho; have n0_ := Aside0.mk (Kd.R_over' (by (with_reducible repeat (first | apply Kd.R_alloc | apply Kd.R_drewN | apply Kd.R_drew)); exact HO_7.out) (Kd.R_typed (by (with_reducible repeat (first | apply Kd.R_alloc | apply Kd.R_drewN | apply Kd.R_drew)); exact HO_6.out)) (by decide) hg); have n1_ := Aside0.mk (hb); have n2_ := Aside0.mk (ho); clear HO_7; clear HB; clear HO_6; have HO_7 := n0_; have HB := n1_; have HO583 := n2_; clear n0_ n1_ n2_; clear ho hb hg hat)))
               go_roundg kj7
               case measure => have := HK1.out; have := HK2.out; have := HJ7.out; omega
               case rel => exact ⟨(y581), (wrap64 (x8_1 + 1)), (by first | rfl | (simp; done) | (simp [*]; done)), H', ⟨by have := HK1.out; have := HK2.out; have := HJ7.out; omega⟩, ⟨by (with_reducible repeat (first | apply Kd.R_alloc | apply Kd.R_drewN | apply Kd.R_drew)); exact HO583.out⟩, ⟨by (with_reducible repeat (first | apply Kd.R_alloc | apply Kd.R_drewN | apply Kd.R_drew)); exact HO_7.out⟩, ⟨by repeat (first | (with_reducible first | exact HB.out | apply below_alloc | apply pw_below_drewN | apply below_drew1) | exact HB.out)⟩⟩
              ·rw [if_neg c32] at H
               exact absurd H (by simp)
             ·rw [if_neg c31] at H
              exact absurd H (by simp)
            ·rw [if_neg c30] at H
             exact absurd H (by simp)
          ·replace c17 := Bool.eq_false_iff.mpr c17
           subst c17
           have H1 : (waymarkref02_Pieces.l0 kj7 a0 l1 x6_1 t565 (wrap64 (x8_1 + 1))) = some (r1, r2) := by rw [if_neg (show ¬ (false = true) by decide)] at H; exact H
           clear H
           have H := H1
           clear H1
           have H' := Aside0.mk H
           clear H
           go_wp2
           repeat (go_quiet (fail); try go_wp2)
           go_roundg kj7
           case measure => have := HK1.out; have := HK2.out; have := HJ7.out; omega
           case rel => exact ⟨(x6_1), (wrap64 (x8_1 + 1)), (by first | rfl | (simp; done) | (simp [*]; done)), H', ⟨by have := HK1.out; have := HK2.out; have := HJ7.out; omega⟩, ⟨by (with_reducible repeat (first | apply Kd.R_alloc | apply Kd.R_drewN | apply Kd.R_drew)); exact HO_6.out⟩, ⟨by (with_reducible repeat (first | apply Kd.R_alloc | apply Kd.R_drewN | apply Kd.R_drew)); exact HO_7.out⟩, ⟨by repeat (first | (with_reducible first | exact HB.out | apply below_alloc | apply pw_below_drewN | apply below_drew1) | exact HB.out)⟩⟩
    ·rw [if_neg c6] at H
     have c6b0 : decide (x8_1 < (t565.length : Int)) = false := decide_eq_false c6
     clear c6
     by_cases c34 : (x6_1.length : Int) > 65536
     ·rw [if_pos c34] at H
      have c34b0 : decide (65536 < (x6_1.length : Int)) = true := decide_eq_true c34
      have c34b1 : decide (65536 < x6_1.length) = true := decide_eq_true (by omega)
      clear c34
      simp only [Option.some.injEq, Prod.mk.injEq] at H
      obtain ⟨rfl, rfl⟩ := H
      obtain ⟨Ao35, co35, eo35⟩ := Kd.R_slice HO_7.out
      subst eo35
      obtain ⟨Ao36, co36, eo36⟩ := Kd.R_slice HO_6.out
      subst eo36
      go_wp2
      repeat (go_quiet (fail); try go_wp2)
      go_ret2
      exact ⟨_, by first | rfl | (simp [errW_none, errW_some] <;> rfl) | (simp [*, errW_none, errW_some] <;> rfl), by first | exact Kd.R_nil _ _ _ _ _ | exact Kd.N_nil _ _ _ _ _ | exact Kd.V_nil _ _ _ _ _ | exact Kd.Q_nil _ _ _ _ _ | exact Kd.S_nil _ _ _ _ _, by repeat (first | (with_reducible first | exact HB.out | apply below_alloc | apply pw_below_drewN | apply below_drew1) | exact HB.out)⟩
     ·rw [if_neg c34] at H
      have c34b0 : decide (65536 < (x6_1.length : Int)) = false := decide_eq_false c34
      have c34b1 : decide (65536 < x6_1.length) = false := decide_eq_false (by omega)
      clear c34
      simp only [Option.some.injEq, Prod.mk.injEq] at H
      obtain ⟨rfl, rfl⟩ := H
      obtain ⟨Ao37, co37, eo37⟩ := Kd.R_slice HO_7.out
      subst eo37
      obtain ⟨Ao38, co38, eo38⟩ := Kd.R_slice HO_6.out
      subst eo38
      go_wp2
      repeat (go_quiet (fail); try go_wp2)
      go_ret2
      exact ⟨_, by first | rfl | (simp [errW_none, errW_some] <;> rfl) | (simp [*, errW_none, errW_some] <;> rfl), by (with_reducible repeat (first | apply Kd.R_alloc | apply Kd.R_drewN | apply Kd.R_drew)); exact HO_6.out, by repeat (first | (with_reducible first | exact HB.out | apply below_alloc | apply pw_below_drewN | apply below_drew1) | exact HB.out)⟩

end Go.Proofs.Ytmoagoopdfpcnaa.Q
