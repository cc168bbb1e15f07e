-- Written by a program of this session (wip/myprint) out of the translation, for this claim.
-- narrow
import Derived.Test.YtmoagoopdfpcnaaQx0
import Derived.Test.YtmoagoopdfpcnaaQx3
import Derived.Test.YtmoagoopdfpcnaaQx9
namespace Go.Proofs.Ytmoagoopdfpcnaa.Q
open Go.RowKit Go.Proofs.YtmoagoopdfpcnaaW.PrintWords Go.Proofs.YtmoagoopdfpcnaaW.PrintLast Go.Proofs.YtmoagoopdfpcnaaW.PrintMore
attribute [local go_sem] max2_int min2_int max_two min_two max_three min_three max_four min_four   -- for this text's walks alone
set_option linter.unusedVariables false
set_option linter.unusedSimpArgs false

/-! ### waymarkref10_Fits: function 17 -/
def waymarkref10_Fits.j0 : Nat → Bool → Bool → Int → Int → Int → Int → Int → Int → Int → Int → Int → Int → Int → Int → Int → Int → Option (Bool)
 | 0, _, _, _, _, _, _, _, _, _, _, _, _, _, _, _, _ => none
 | k + 1, x14, x134000, x134001, x134002, x134003, x134004, x134005, x134006, x134007, x134008, x134009, x135000, x135001, x135002, x135003, x135004 => if x14 = true then (some false) else ((waymarkref01_In.f k x135000 x134002 x134003).bind fun t137 => (if t137 = true then ((waymarkref01_In.f k x135001 x134004 x134005).bind fun t138 => (if t138 = true then (if x134001 = (-1) then (if ((x135003) % 4294967296) ≥ x134006 then (if ((x135003) % 4294967296) ≤ x134007 then (if ((x135004) % 4294967296) ≥ x134008 then (some (decide (((x135004) % 4294967296) ≤ x134009))) else (some false)) else (some false)) else (some false)) else (if x134001 = (wrap64 (x135002)) then (if ((x135003) % 4294967296) ≥ x134006 then (if ((x135003) % 4294967296) ≤ x134007 then (if ((x135004) % 4294967296) ≥ x134008 then (some (decide (((x135004) % 4294967296) ≤ x134009))) else (some false)) else (some false)) else (some false)) else (some false))) else (some false))) else (some false)))
def waymarkref10_Fits.f (k : Nat) (a0_0 : Bool) (a0_1 : Int) (a0_2 : Int) (a0_3 : Int) (a0_4 : Int) (a0_5 : Int) (a0_6 : Int) (a0_7 : Int) (a0_8 : Int) (a0_9 : Int) (a1_0 : Int) (a1_1 : Int) (a1_2 : Int) (a1_3 : Int) (a1_4 : Int) : Option (Bool) := (waymarkref01_Check.f k a0_2 a0_3).bind fun t135 => (if t135 = 0 then ((waymarkref01_Check.f k a0_4 a0_5).bind fun t136 => (waymarkref10_Fits.j0 k (t136 != 0) a0_0 a0_1 a0_2 a0_3 a0_4 a0_5 a0_6 a0_7 a0_8 a0_9 a1_0 a1_1 a1_2 a1_3 a1_4)) else (waymarkref10_Fits.j0 k true a0_0 a0_1 a0_2 a0_3 a0_4 a0_5 a0_6 a0_7 a0_8 a0_9 a1_0 a1_1 a1_2 a1_3 a1_4))
theorem waymarkref10_Fits.mono_l : ∀ k, (∀ y0 y1 y2 y3 y4 y5 y6 y7 y8 y9 y10 y11 y12 y13 y14 y15, LeO (waymarkref10_Fits.j0 k y0 y1 y2 y3 y4 y5 y6 y7 y8 y9 y10 y11 y12 y13 y14 y15) (waymarkref10_Fits.j0 (k + 1) y0 y1 y2 y3 y4 y5 y6 y7 y8 y9 y10 y11 y12 y13 y14 y15))
 | 0 => fun _ _ _ _ _ _ _ _ _ _ _ _ _ _ _ _ r h => by simp [waymarkref10_Fits.j0] at h
 | k + 1 => by
  have ih0 := waymarkref10_Fits.mono_l k
  ·intro y0 y1 y2 y3 y4 y5 y6 y7 y8 y9 y10 y11 y12 y13 y14 y15
   unfold waymarkref10_Fits.j0
   repeat' first
   | (with_reducible exact ih0 _ _ _ _ _ _ _ _ _ _ _ _ _ _ _ _)
   | (with_reducible exact waymarkref01_Check.mono _ _ _)
   | (with_reducible exact waymarkref01_In.mono _ _ _ _)
   | (with_reducible exact LeO.refl _)
   | (with_reducible exact LeO.none _)
   | (with_reducible refine LeO.ite ?_ ?_)
   | (with_reducible refine LeO.bind ?_ (fun _ => ?_))
   | exact ih0 _ _ _ _ _ _ _ _ _ _ _ _ _ _ _ _
   | exact waymarkref01_Check.mono _ _ _
   | exact waymarkref01_In.mono _ _ _ _
   | exact LeO.none _
   | refine LeO.ite ?_ ?_
   | refine LeO.bind ?_ (fun _ => ?_)
theorem waymarkref10_Fits.mono : ∀ a0 a1 a2 a3 a4 a5 a6 a7 a8 a9 a10 a11 a12 a13 a14 k, LeO (waymarkref10_Fits.f k a0 a1 a2 a3 a4 a5 a6 a7 a8 a9 a10 a11 a12 a13 a14) (waymarkref10_Fits.f (k + 1) a0 a1 a2 a3 a4 a5 a6 a7 a8 a9 a10 a11 a12 a13 a14) := by
 intro a0 a1 a2 a3 a4 a5 a6 a7 a8 a9 a10 a11 a12 a13 a14 k
 have ih0 := waymarkref10_Fits.mono_l k
 unfold waymarkref10_Fits.f
 repeat' first
   | (with_reducible exact ih0 _ _ _ _ _ _ _ _ _ _ _ _ _ _ _ _)
   | (with_reducible exact waymarkref01_Check.mono _ _ _)
   | (with_reducible exact waymarkref01_In.mono _ _ _ _)
   | (with_reducible exact LeO.refl _)
   | (with_reducible exact LeO.none _)
   | (with_reducible refine LeO.ite ?_ ?_)
   | (with_reducible refine LeO.bind ?_ (fun _ => ?_))
   | exact ih0 _ _ _ _ _ _ _ _ _ _ _ _ _ _ _ _
   | exact waymarkref01_Check.mono _ _ _
   | exact waymarkref01_In.mono _ _ _ _
   | exact LeO.none _
   | refine LeO.ite ?_ ?_
   | refine LeO.bind ?_ (fun _ => ?_)
set_option maxHeartbeats 8000000 in
set_option maxRecDepth 100000 in
theorem waymarkref10_Fits.calls (k : Nat) (a0_0 : Bool) (a0_1 : Int) (a0_2 : Int) (a0_3 : Int) (a0_4 : Int) (a0_5 : Int) (a0_6 : Int) (a0_7 : Int) (a0_8 : Int) (a0_9 : Int) (a1_0 : Int) (a1_1 : Int) (a1_2 : Int) (a1_3 : Int) (a1_4 : Int) (r : Bool) (w : World) (h : waymarkref10_Fits.f k a0_0 a0_1 a0_2 a0_3 a0_4 a0_5 a0_6 a0_7 a0_8 a0_9 a1_0 a1_1 a1_2 a1_3 a1_4 = some r) :
  Calls Try.prog 17 #[.agg #[.bool a0_0, .int .i64 a0_1, .int .u32 a0_2, .int .i64 a0_3, .int .u32 a0_4, .int .i64 a0_5, .int .u32 a0_6, .int .u32 a0_7, .int .u32 a0_8, .int .u32 a0_9], .agg #[.int .u32 a1_0, .int .u32 a1_1, .int .u8 a1_2, .int .u16 a1_3, .int .u16 a1_4]] w fun e w' => e = .returned (.bool r) ∧ Below w.heap.size w w' := by
 have hu33 := Try.underlying33
 have hu40 := Try.underlying40
 have hu29 := Try.underlying29
 have HB := Aside0.mk (Below.refl w.heap.size w)
 have H : ((waymarkref01_Check.f k a0_2 a0_3).bind fun t135 => (if t135 = 0 then ((waymarkref01_Check.f k a0_4 a0_5).bind fun t136 => (waymarkref10_Fits.j0 k (t136 != 0) a0_0 a0_1 a0_2 a0_3 a0_4 a0_5 a0_6 a0_7 a0_8 a0_9 a1_0 a1_1 a1_2 a1_3 a1_4)) else (waymarkref10_Fits.j0 k true a0_0 a0_1 a0_2 a0_3 a0_4 a0_5 a0_6 a0_7 a0_8 a0_9 a1_0 a1_1 a1_2 a1_3 a1_4))) = some r := h
 clear h
 have HC3 := Aside0.mk H
 clear H
 go_enter Try.func17, Try.ntmps17
 go_upto_region 1 with (first | ((with_reducible refine gate_dst (N := 2) rfl ?_); refine box_event ?hg (N := 2) ?hd (cs := #[.bool a0_0, .int .i64 a0_1, .int .u32 a0_2, .int .i64 a0_3, .int .u32 a0_4, .int .i64 a0_5, .int .u32 a0_6, .int .u32 a0_7, .int .u32 a0_8, .int .u32 a0_9]) (t := 33) ?hr ?_; (case hd => rfl); (case hg => rfl); (case hr => first | (go_simp; done) | (go_simp; rfl)); intro gb133 hg w4 hbox hb; have n0_ := Aside0.mk (below_step (by repeat (first | (with_reducible first | exact HB.out | apply below_alloc | apply pw_below_drewN | apply below_drew1) | exact HB.out)) hb); have n1_ := Aside0.mk (hbox); have n2_ := Aside0.mk ((by rw [hg]; exact (below_size (by repeat (first | (with_reducible first | exact HB.out | apply below_alloc | apply pw_below_drewN | apply below_drew1) | exact HB.out))) : w.heap.size ≤ gb133)); have n3_ := Aside0.mk ((by rw [hg]; exact (below_size (by repeat (first | (with_reducible first | exact HB.out | apply below_alloc | apply pw_below_drewN | apply below_drew1) | exact HB.out))) : w.heap.size ≤ gb133)); clear HB; have HB := n0_; have BK133 := n1_; have GW133 := n2_; have GE133 := n3_; clear n0_ n1_ n2_ n3_; clear hb hbox hg) | ((with_reducible refine gate_dst (N := 3) rfl ?_); refine box_event ?hg (N := 3) ?hd (cs := #[.int .u32 a1_0, .int .u32 a1_1, .int .u8 a1_2, .int .u16 a1_3, .int .u16 a1_4]) (t := 40) ?hr ?_; (case hd => rfl); (case hg => rfl); (case hr => first | (go_simp; done) | (go_simp; rfl)); intro gb134 hg w5 hbox hb; have n0_ := Aside0.mk (blk_below (g := gb133) (o := .cells #[.bool a0_0, .int .i64 a0_1, .int .u32 a0_2, .int .i64 a0_3, .int .u32 a0_4, .int .i64 a0_5, .int .u32 a0_6, .int .u32 a0_7, .int .u32 a0_8, .int .u32 a0_9] 33 (0, 0)) (by (with_reducible repeat (first | refine blk_drewN ?_ _ | refine blk_drew ?_ | refine blk_alloc ?_ _)); exact BK133.out) hb); have n1_ := Aside0.mk (below_step (by repeat (first | (with_reducible first | exact HB.out | apply below_alloc | apply pw_below_drewN | apply below_drew1 | refine below_set ?_ GE133.out) | exact HB.out)) hb); have n2_ := Aside0.mk (hbox); have n3_ := Aside0.mk ((by rw [hg]; exact (below_size (by repeat (first | (with_reducible first | exact HB.out | apply below_alloc | apply pw_below_drewN | apply below_drew1 | refine below_set ?_ GE133.out) | exact HB.out))) : w.heap.size ≤ gb134)); have n4_ := Aside0.mk ((by rw [hg]; exact (below_size (by repeat (first | (with_reducible first | exact HB.out | apply below_alloc | apply pw_below_drewN | apply below_drew1 | refine below_set ?_ GE133.out) | exact HB.out))) : w.heap.size ≤ gb134)); have n5_ := Aside0.mk ((by rw [hg]; exact Nat.ne_of_lt (blk_lt (g := gb133) (o := .cells #[.bool a0_0, .int .i64 a0_1, .int .u32 a0_2, .int .i64 a0_3, .int .u32 a0_4, .int .i64 a0_5, .int .u32 a0_6, .int .u32 a0_7, .int .u32 a0_8, .int .u32 a0_9] 33 (0, 0)) (by (with_reducible repeat (first | refine blk_drewN ?_ _ | refine blk_drew ?_ | refine blk_alloc ?_ _)); exact BK133.out)) : gb133 ≠ gb134)); have n6_ := Aside0.mk ((by rw [hg]; exact Nat.ne_of_gt (blk_lt (g := gb133) (o := .cells #[.bool a0_0, .int .i64 a0_1, .int .u32 a0_2, .int .i64 a0_3, .int .u32 a0_4, .int .i64 a0_5, .int .u32 a0_6, .int .u32 a0_7, .int .u32 a0_8, .int .u32 a0_9] 33 (0, 0)) (by (with_reducible repeat (first | refine blk_drewN ?_ _ | refine blk_drew ?_ | refine blk_alloc ?_ _)); exact BK133.out)) : gb134 ≠ gb133)); clear BK133; clear HB; have BK133 := n0_; have HB := n1_; have BK134 := n2_; have GW134 := n3_; have GE134 := n4_; have NB133_134 := n5_; have NB134_133 := n6_; clear n0_ n1_ n2_ n3_ n4_ n5_ n6_; clear hb hbox hg))
 (try simp only [Act.put, List.setIfInBounds_toArray, List.set_cons_zero, List.set_cons_succ])
 go_cut [14] (fun v14 wc => ∃ (kq : Nat) (x14_2 : Bool), v14 = .bool x14_2 ∧ Aside0 (waymarkref10_Fits.j0 kq x14_2 a0_0 a0_1 a0_2 a0_3 a0_4 a0_5 a0_6 a0_7 a0_8 a0_9 a1_0 a1_1 a1_2 a1_3 a1_4 = some r) ∧ Aside0 (kq ≤ k) ∧ Aside0 (wc.heap[gb133]? = some (.cells #[.bool a0_0, .int .i64 a0_1, .int .u32 a0_2, .int .i64 a0_3, .int .u32 a0_4, .int .i64 a0_5, .int .u32 a0_6, .int .u32 a0_7, .int .u32 a0_8, .int .u32 a0_9] 33 (0, 0))) ∧ Aside0 (wc.heap[gb134]? = some (.cells #[.int .u32 a1_0, .int .u32 a1_1, .int .u8 a1_2, .int .u16 a1_3, .int .u16 a1_4] 40 (0, 0))) ∧ Aside0 (Below w.heap.size w wc))
 case first =>
  have H := HC3.out
  clear HC3
  replace H := Option.bind_eq_some_iff.mp H
  obtain ⟨t135, A60, H⟩ := H
  replace H : (if t135 = 0 then ((waymarkref01_Check.f k a0_4 a0_5).bind fun t136 => (waymarkref10_Fits.j0 k (t136 != 0) a0_0 a0_1 a0_2 a0_3 a0_4 a0_5 a0_6 a0_7 a0_8 a0_9 a1_0 a1_1 a1_2 a1_3 a1_4)) else (waymarkref10_Fits.j0 k true a0_0 a0_1 a0_2 a0_3 a0_4 a0_5 a0_6 a0_7 a0_8 a0_9 a1_0 a1_1 a1_2 a1_3 a1_4)) = some r := H
  have A6 := Aside0.mk A60
  clear A60
  by_cases c7 : t135 = 0
  ·rw [if_pos c7] at H
   have c7b0 : (t135 == 0) = true := beq_iff_eq.mpr c7
   have c7b1 : (t135 != 0) = false := bne_eq_false_iff_eq.mpr c7
   clear c7
   (first | rw [c7b0] | (simp only [i64_w, i32_w]; rw [c7b0]) | skip)
   replace H := Option.bind_eq_some_iff.mp H
   obtain ⟨t136, A80, H⟩ := H
   replace H : (waymarkref10_Fits.j0 k (t136 != 0) a0_0 a0_1 a0_2 a0_3 a0_4 a0_5 a0_6 a0_7 a0_8 a0_9 a1_0 a1_1 a1_2 a1_3 a1_4) = some r := H
   have A8 := Aside0.mk A80
   clear A80
   have H' := Aside0.mk H
   clear H
   have hnb9 := NB133_134.out
   have hnc9 := NB134_133.out
   have hcz10_0 : w5.cell? ⟨gb133, 0, none⟩ = some (.bool a0_0) := (blk_cell BK133.out 0).trans rfl
   have hcz10_1 : w5.cell? ⟨gb133, 1, none⟩ = some (.int .i64 a0_1) := (blk_cell BK133.out 1).trans rfl
   have hcz10_2 : w5.cell? ⟨gb133, 2, none⟩ = some (.int .u32 a0_2) := (blk_cell BK133.out 2).trans rfl
   have hcz10_3 : w5.cell? ⟨gb133, 3, none⟩ = some (.int .i64 a0_3) := (blk_cell BK133.out 3).trans rfl
   have hcz10_4 : w5.cell? ⟨gb133, 4, none⟩ = some (.int .u32 a0_4) := (blk_cell BK133.out 4).trans rfl
   have hcz10_5 : w5.cell? ⟨gb133, 5, none⟩ = some (.int .i64 a0_5) := (blk_cell BK133.out 5).trans rfl
   have hcz10_6 : w5.cell? ⟨gb133, 6, none⟩ = some (.int .u32 a0_6) := (blk_cell BK133.out 6).trans rfl
   have hcz10_7 : w5.cell? ⟨gb133, 7, none⟩ = some (.int .u32 a0_7) := (blk_cell BK133.out 7).trans rfl
   have hcz10_8 : w5.cell? ⟨gb133, 8, none⟩ = some (.int .u32 a0_8) := (blk_cell BK133.out 8).trans rfl
   have hcz10_9 : w5.cell? ⟨gb133, 9, none⟩ = some (.int .u32 a0_9) := (blk_cell BK133.out 9).trans rfl
   have hfz10_0 := blk_frozen BK133.out 0
   have hfz10_1 := blk_frozen BK133.out 1
   have hfz10_2 := blk_frozen BK133.out 2
   have hfz10_3 := blk_frozen BK133.out 3
   have hfz10_4 := blk_frozen BK133.out 4
   have hfz10_5 := blk_frozen BK133.out 5
   have hfz10_6 := blk_frozen BK133.out 6
   have hfz10_7 := blk_frozen BK133.out 7
   have hfz10_8 := blk_frozen BK133.out 8
   have hfz10_9 := blk_frozen BK133.out 9
   go_wp2_with (first | ((with_reducible refine gate_callee (f := 68) rfl ?_); refine goesL_ (some 7) rfl rfl Try.func68 (by kernel_rfl) rfl #[.agg #[.int .u32 a0_2, .int .i64 a0_3]] rfl (by (try simp only [List.map_toArray, List.map_cons, List.map_nil]); first | done | rfl | (simp only [List.length_drop, List.length_take]; rfl)) ?_; (with_reducible refine (waymarkref01_Check.calls k a0_2 a0_3 t135 _ A6.out).mono ?_); rintro e w11 ⟨rfl, hb⟩; refine ⟨_, rfl, ?_⟩; have n0_ := Aside0.mk (blk_below (g := gb133) (o := .cells #[.bool a0_0, .int .i64 a0_1, .int .u32 a0_2, .int .i64 a0_3, .int .u32 a0_4, .int .i64 a0_5, .int .u32 a0_6, .int .u32 a0_7, .int .u32 a0_8, .int .u32 a0_9] 33 (0, 0)) (by (with_reducible repeat (first | refine blk_drewN ?_ _ | refine blk_drew ?_ | refine blk_alloc ?_ _)); exact BK133.out) hb); have n1_ := Aside0.mk (blk_below (g := gb134) (o := .cells #[.int .u32 a1_0, .int .u32 a1_1, .int .u8 a1_2, .int .u16 a1_3, .int .u16 a1_4] 40 (0, 0)) (by (with_reducible repeat (first | refine blk_drewN ?_ _ | refine blk_drew ?_ | refine blk_alloc ?_ _)); exact BK134.out) hb); have n2_ := Aside0.mk (below_step (by repeat (first | (with_reducible first | exact HB.out | apply below_alloc | apply pw_below_drewN | apply below_drew1 | refine below_set ?_ GE133.out | refine below_set ?_ GE134.out) | exact HB.out)) hb); clear BK133; clear BK134; clear HB; have BK133 := n0_; have BK134 := n1_; have HB := n2_; clear n0_ n1_ n2_; (try clear hb); (try clear hb2); (try clear hk); (try clear hi); have hcz12_0 : w11.cell? ⟨gb133, 0, none⟩ = some (.bool a0_0) := (blk_cell BK133.out 0).trans rfl; have hcz12_1 : w11.cell? ⟨gb133, 1, none⟩ = some (.int .i64 a0_1) := (blk_cell BK133.out 1).trans rfl; have hcz12_2 : w11.cell? ⟨gb133, 2, none⟩ = some (.int .u32 a0_2) := (blk_cell BK133.out 2).trans rfl; have hcz12_3 : w11.cell? ⟨gb133, 3, none⟩ = some (.int .i64 a0_3) := (blk_cell BK133.out 3).trans rfl; have hcz12_4 : w11.cell? ⟨gb133, 4, none⟩ = some (.int .u32 a0_4) := (blk_cell BK133.out 4).trans rfl; have hcz12_5 : w11.cell? ⟨gb133, 5, none⟩ = some (.int .i64 a0_5) := (blk_cell BK133.out 5).trans rfl; have hcz12_6 : w11.cell? ⟨gb133, 6, none⟩ = some (.int .u32 a0_6) := (blk_cell BK133.out 6).trans rfl; have hcz12_7 : w11.cell? ⟨gb133, 7, none⟩ = some (.int .u32 a0_7) := (blk_cell BK133.out 7).trans rfl; have hcz12_8 : w11.cell? ⟨gb133, 8, none⟩ = some (.int .u32 a0_8) := (blk_cell BK133.out 8).trans rfl; have hcz12_9 : w11.cell? ⟨gb133, 9, none⟩ = some (.int .u32 a0_9) := (blk_cell BK133.out 9).trans rfl; have hfz12_0 := blk_frozen BK133.out 0; have hfz12_1 := blk_frozen BK133.out 1; have hfz12_2 := blk_frozen BK133.out 2; have hfz12_3 := blk_frozen BK133.out 3; have hfz12_4 := blk_frozen BK133.out 4; have hfz12_5 := blk_frozen BK133.out 5; have hfz12_6 := blk_frozen BK133.out 6; have hfz12_7 := blk_frozen BK133.out 7; have hfz12_8 := blk_frozen BK133.out 8; have hfz12_9 := blk_frozen BK133.out 9) | (go_at_call 68; (with_reducible refine (waymarkref01_Check.calls k a0_4 a0_5 t136 _ A8.out).mono ?_); rintro e w13 ⟨rfl, hb⟩; have n0_ := Aside0.mk (blk_below (g := gb133) (o := .cells #[.bool a0_0, .int .i64 a0_1, .int .u32 a0_2, .int .i64 a0_3, .int .u32 a0_4, .int .i64 a0_5, .int .u32 a0_6, .int .u32 a0_7, .int .u32 a0_8, .int .u32 a0_9] 33 (0, 0)) (by (with_reducible repeat (first | refine blk_drewN ?_ _ | refine blk_drew ?_ | refine blk_alloc ?_ _)); exact BK133.out) hb); have n1_ := Aside0.mk (blk_below (g := gb134) (o := .cells #[.int .u32 a1_0, .int .u32 a1_1, .int .u8 a1_2, .int .u16 a1_3, .int .u16 a1_4] 40 (0, 0)) (by (with_reducible repeat (first | refine blk_drewN ?_ _ | refine blk_drew ?_ | refine blk_alloc ?_ _)); exact BK134.out) hb); have n2_ := Aside0.mk (below_step (by repeat (first | (with_reducible first | exact HB.out | apply below_alloc | apply pw_below_drewN | apply below_drew1 | refine below_set ?_ GE133.out | refine below_set ?_ GE134.out) | exact HB.out)) hb); clear BK133; clear BK134; clear HB; have BK133 := n0_; have BK134 := n1_; have HB := n2_; clear n0_ n1_ n2_; (try clear hb); (try clear hb2); (try clear hk); (try clear hi)))
   go_meet
   case rel => exact ⟨_, ((t136 != 0)), (by first | rfl | (simp; done) | (simp [*]; done)), H', ⟨by first | omega | exact Nat.le_refl _⟩, ⟨by (with_reducible repeat (first | refine blk_drewN ?_ _ | refine blk_drew ?_ | refine blk_alloc ?_ _)); exact BK133.out⟩, ⟨by (with_reducible repeat (first | refine blk_drewN ?_ _ | refine blk_drew ?_ | refine blk_alloc ?_ _)); exact BK134.out⟩, ⟨by repeat (first | (with_reducible first | exact HB.out | apply below_alloc | apply pw_below_drewN | apply below_drew1 | refine below_set ?_ GE133.out | refine below_set ?_ GE134.out) | exact HB.out)⟩⟩
  ·rw [if_neg c7] at H
   have c7b0 : (t135 == 0) = false := beq_eq_false_iff_ne.mpr c7
   have c7b1 : (t135 != 0) = true := bne_iff_ne.mpr c7
   (first | rw [c7b0] | (simp only [i64_w, i32_w]; rw [c7b0]) | skip)
   have H' := Aside0.mk H
   clear H
   have hnb14 := NB133_134.out
   have hnc14 := NB134_133.out
   have hcz15_0 : w5.cell? ⟨gb133, 0, none⟩ = some (.bool a0_0) := (blk_cell BK133.out 0).trans rfl
   have hcz15_1 : w5.cell? ⟨gb133, 1, none⟩ = some (.int .i64 a0_1) := (blk_cell BK133.out 1).trans rfl
   have hcz15_2 : w5.cell? ⟨gb133, 2, none⟩ = some (.int .u32 a0_2) := (blk_cell BK133.out 2).trans rfl
   have hcz15_3 : w5.cell? ⟨gb133, 3, none⟩ = some (.int .i64 a0_3) := (blk_cell BK133.out 3).trans rfl
   have hcz15_4 : w5.cell? ⟨gb133, 4, none⟩ = some (.int .u32 a0_4) := (blk_cell BK133.out 4).trans rfl
   have hcz15_5 : w5.cell? ⟨gb133, 5, none⟩ = some (.int .i64 a0_5) := (blk_cell BK133.out 5).trans rfl
   have hcz15_6 : w5.cell? ⟨gb133, 6, none⟩ = some (.int .u32 a0_6) := (blk_cell BK133.out 6).trans rfl
   have hcz15_7 : w5.cell? ⟨gb133, 7, none⟩ = some (.int .u32 a0_7) := (blk_cell BK133.out 7).trans rfl
   have hcz15_8 : w5.cell? ⟨gb133, 8, none⟩ = some (.int .u32 a0_8) := (blk_cell BK133.out 8).trans rfl
   have hcz15_9 : w5.cell? ⟨gb133, 9, none⟩ = some (.int .u32 a0_9) := (blk_cell BK133.out 9).trans rfl
   have hfz15_0 := blk_frozen BK133.out 0
   have hfz15_1 := blk_frozen BK133.out 1
   have hfz15_2 := blk_frozen BK133.out 2
   have hfz15_3 := blk_frozen BK133.out 3
   have hfz15_4 := blk_frozen BK133.out 4
   have hfz15_5 := blk_frozen BK133.out 5
   have hfz15_6 := blk_frozen BK133.out 6
   have hfz15_7 := blk_frozen BK133.out 7
   have hfz15_8 := blk_frozen BK133.out 8
   have hfz15_9 := blk_frozen BK133.out 9
   go_wp2_with (first | ((with_reducible refine gate_callee (f := 68) rfl ?_); refine goesL_ (some 7) rfl rfl Try.func68 (by kernel_rfl) rfl #[.agg #[.int .u32 a0_2, .int .i64 a0_3]] rfl (by (try simp only [List.map_toArray, List.map_cons, List.map_nil]); first | done | rfl | (simp only [List.length_drop, List.length_take]; rfl)) ?_; (with_reducible refine (waymarkref01_Check.calls k a0_2 a0_3 t135 _ A6.out).mono ?_); rintro e w16 ⟨rfl, hb⟩; refine ⟨_, rfl, ?_⟩; have n0_ := Aside0.mk (blk_below (g := gb133) (o := .cells #[.bool a0_0, .int .i64 a0_1, .int .u32 a0_2, .int .i64 a0_3, .int .u32 a0_4, .int .i64 a0_5, .int .u32 a0_6, .int .u32 a0_7, .int .u32 a0_8, .int .u32 a0_9] 33 (0, 0)) (by (with_reducible repeat (first | refine blk_drewN ?_ _ | refine blk_drew ?_ | refine blk_alloc ?_ _)); exact BK133.out) hb); have n1_ := Aside0.mk (blk_below (g := gb134) (o := .cells #[.int .u32 a1_0, .int .u32 a1_1, .int .u8 a1_2, .int .u16 a1_3, .int .u16 a1_4] 40 (0, 0)) (by (with_reducible repeat (first | refine blk_drewN ?_ _ | refine blk_drew ?_ | refine blk_alloc ?_ _)); exact BK134.out) hb); have n2_ := Aside0.mk (below_step (by repeat (first | (with_reducible first | exact HB.out | apply below_alloc | apply pw_below_drewN | apply below_drew1 | refine below_set ?_ GE133.out | refine below_set ?_ GE134.out) | exact HB.out)) hb); clear BK133; clear BK134; clear HB; have BK133 := n0_; have BK134 := n1_; have HB := n2_; clear n0_ n1_ n2_; (try clear hb); (try clear hb2); (try clear hk); (try clear hi)))
   go_meet
   case rel => exact ⟨_, (true), (by first | rfl | (simp; done) | (simp [*]; done)), H', ⟨by first | omega | exact Nat.le_refl _⟩, ⟨by (with_reducible repeat (first | refine blk_drewN ?_ _ | refine blk_drew ?_ | refine blk_alloc ?_ _)); exact BK133.out⟩, ⟨by (with_reducible repeat (first | refine blk_drewN ?_ _ | refine blk_drew ?_ | refine blk_alloc ?_ _)); exact BK134.out⟩, ⟨by repeat (first | (with_reducible first | exact HB.out | apply below_alloc | apply pw_below_drewN | apply below_drew1 | refine below_set ?_ GE133.out | refine below_set ?_ GE134.out) | exact HB.out)⟩⟩
 case rest =>
  clear HC3
  try clear c1
  try clear p2
  try clear c6
  try clear c7
  try clear c7b0
  try clear c7b1
  try clear c9
  try clear c14
  try clear hcz10_0
  try clear hcz10_1
  try clear hcz10_2
  try clear hcz10_3
  try clear hcz10_4
  try clear hcz10_5
  try clear hcz10_6
  try clear hcz10_7
  try clear hcz10_8
  try clear hcz10_9
  try clear hcz12_0
  try clear hcz12_1
  try clear hcz12_2
  try clear hcz12_3
  try clear hcz12_4
  try clear hcz12_5
  try clear hcz12_6
  try clear hcz12_7
  try clear hcz12_8
  try clear hcz12_9
  try clear hcz15_0
  try clear hcz15_1
  try clear hcz15_2
  try clear hcz15_3
  try clear hcz15_4
  try clear hcz15_5
  try clear hcz15_6
  try clear hcz15_7
  try clear hcz15_8
  try clear hcz15_9
  try clear hfz10_0
  try clear hfz10_1
  try clear hfz10_2
  try clear hfz10_3
  try clear hfz10_4
  try clear hfz10_5
  try clear hfz10_6
  try clear hfz10_7
  try clear hfz10_8
  try clear hfz10_9
  try clear hfz12_0
  try clear hfz12_1
  try clear hfz12_2
  try clear hfz12_3
  try clear hfz12_4
  try clear hfz12_5
  try clear hfz12_6
  try clear hfz12_7
  try clear hfz12_8
  try clear hfz12_9
  try clear hfz15_0
  try clear hfz15_1
  try clear hfz15_2
  try clear hfz15_3
  try clear hfz15_4
  try clear hfz15_5
  try clear hfz15_6
  try clear hfz15_7
  try clear hfz15_8
  try clear hfz15_9
  obtain ⟨kq, x14_2, rfl, HA, HJ2, BK133, BK134, HB⟩ := hcut
  cases kq with
  | zero => exact absurd HA.out (by simp [waymarkref10_Fits.j0])
  | succ kj2 =>
   have H := HA.out
   clear HA
   simp only [waymarkref10_Fits.j0] at H
   by_cases c17 : x14_2 = true
   ·subst c17
    have H1 : (some false) = some r := by rw [if_pos rfl] at H; exact H
    clear H
    have H := H1
    clear H1
    obtain rfl := Option.some.inj H
    go_wp2
    go_ret
    exact ⟨by first | rfl | (simp [errW_none, errW_some] <;> rfl) | (simp [*, errW_none, errW_some] <;> rfl), by repeat (first | (with_reducible first | exact HB.out | apply below_alloc | apply pw_below_drewN | apply below_drew1 | refine below_set ?_ GE133.out | refine below_set ?_ GE134.out) | exact HB.out)⟩
   ·replace c17 := Bool.eq_false_iff.mpr c17
    subst c17
    have H1 : ((waymarkref01_In.f kj2 a1_0 a0_2 a0_3).bind fun t137 => (if t137 = true then ((waymarkref01_In.f kj2 a1_1 a0_4 a0_5).bind fun t138 => (if t138 = true then (if a0_1 = (-1) then (if ((a1_3) % 4294967296) ≥ a0_6 then (if ((a1_3) % 4294967296) ≤ a0_7 then (if ((a1_4) % 4294967296) ≥ a0_8 then (some (decide (((a1_4) % 4294967296) ≤ a0_9))) else (some false)) else (some false)) else (some false)) else (if a0_1 = (wrap64 (a1_2)) then (if ((a1_3) % 4294967296) ≥ a0_6 then (if ((a1_3) % 4294967296) ≤ a0_7 then (if ((a1_4) % 4294967296) ≥ a0_8 then (some (decide (((a1_4) % 4294967296) ≤ a0_9))) else (some false)) else (some false)) else (some false)) else (some false))) else (some false))) else (some false))) = some r := by rw [if_neg (show ¬ (false = true) by decide)] at H; exact H
    clear H
    have H := H1
    clear H1
    replace H := Option.bind_eq_some_iff.mp H
    obtain ⟨t137, A180, H⟩ := H
    replace H : (if t137 = true then ((waymarkref01_In.f kj2 a1_1 a0_4 a0_5).bind fun t138 => (if t138 = true then (if a0_1 = (-1) then (if ((a1_3) % 4294967296) ≥ a0_6 then (if ((a1_3) % 4294967296) ≤ a0_7 then (if ((a1_4) % 4294967296) ≥ a0_8 then (some (decide (((a1_4) % 4294967296) ≤ a0_9))) else (some false)) else (some false)) else (some false)) else (if a0_1 = (wrap64 (a1_2)) then (if ((a1_3) % 4294967296) ≥ a0_6 then (if ((a1_3) % 4294967296) ≤ a0_7 then (if ((a1_4) % 4294967296) ≥ a0_8 then (some (decide (((a1_4) % 4294967296) ≤ a0_9))) else (some false)) else (some false)) else (some false)) else (some false))) else (some false))) else (some false)) = some r := H
    have A18 := Aside0.mk A180
    clear A180
    by_cases c19 : t137 = true
    ·subst c19
     have H1 : ((waymarkref01_In.f kj2 a1_1 a0_4 a0_5).bind fun t138 => (if t138 = true then (if a0_1 = (-1) then (if ((a1_3) % 4294967296) ≥ a0_6 then (if ((a1_3) % 4294967296) ≤ a0_7 then (if ((a1_4) % 4294967296) ≥ a0_8 then (some (decide (((a1_4) % 4294967296) ≤ a0_9))) else (some false)) else (some false)) else (some false)) else (if a0_1 = (wrap64 (a1_2)) then (if ((a1_3) % 4294967296) ≥ a0_6 then (if ((a1_3) % 4294967296) ≤ a0_7 then (if ((a1_4) % 4294967296) ≥ a0_8 then (some (decide (((a1_4) % 4294967296) ≤ a0_9))) else (some false)) else (some false)) else (some false)) else (some false))) else (some false))) = some r := by rw [if_pos rfl] at H; exact H
     clear H
     have H := H1
     clear H1
     replace H := Option.bind_eq_some_iff.mp H
     obtain ⟨t138, A200, H⟩ := H
     replace H : (if t138 = true then (if a0_1 = (-1) then (if ((a1_3) % 4294967296) ≥ a0_6 then (if ((a1_3) % 4294967296) ≤ a0_7 then (if ((a1_4) % 4294967296) ≥ a0_8 then (some (decide (((a1_4) % 4294967296) ≤ a0_9))) else (some false)) else (some false)) else (some false)) else (if a0_1 = (wrap64 (a1_2)) then (if ((a1_3) % 4294967296) ≥ a0_6 then (if ((a1_3) % 4294967296) ≤ a0_7 then (if ((a1_4) % 4294967296) ≥ a0_8 then (some (decide (((a1_4) % 4294967296) ≤ a0_9))) else (some false)) else (some false)) else (some false)) else (some false))) else (some false)) = some r := H
     have A20 := Aside0.mk A200
     clear A200
     by_cases c21 : t138 = true
     ·subst c21
      have H1 : (if a0_1 = (-1) then (if ((a1_3) % 4294967296) ≥ a0_6 then (if ((a1_3) % 4294967296) ≤ a0_7 then (if ((a1_4) % 4294967296) ≥ a0_8 then (some (decide (((a1_4) % 4294967296) ≤ a0_9))) else (some false)) else (some false)) else (some false)) else (if a0_1 = (wrap64 (a1_2)) then (if ((a1_3) % 4294967296) ≥ a0_6 then (if ((a1_3) % 4294967296) ≤ a0_7 then (if ((a1_4) % 4294967296) ≥ a0_8 then (some (decide (((a1_4) % 4294967296) ≤ a0_9))) else (some false)) else (some false)) else (some false)) else (some false))) = some r := by rw [if_pos rfl] at H; exact H
      clear H
      have H := H1
      clear H1
      by_cases c22 : a0_1 = (-1)
      ·rw [if_pos c22] at H
       have c22b0 : (a0_1 == (-1)) = true := beq_iff_eq.mpr c22
       have c22b1 : (a0_1 != (-1)) = false := bne_eq_false_iff_eq.mpr c22
       clear c22
       by_cases c23 : ((a1_3) % 4294967296) ≥ a0_6
       ·rw [if_pos c23] at H
        have c23b0 : decide (a0_6 ≤ ((a1_3) % 4294967296)) = true := decide_eq_true c23
        clear c23
        by_cases c24 : ((a1_3) % 4294967296) ≤ a0_7
        ·rw [if_pos c24] at H
         have c24b0 : decide (((a1_3) % 4294967296) ≤ a0_7) = true := decide_eq_true c24
         clear c24
         by_cases c25 : ((a1_4) % 4294967296) ≥ a0_8
         ·rw [if_pos c25] at H
          have c25b0 : decide (a0_8 ≤ ((a1_4) % 4294967296)) = true := decide_eq_true c25
          clear c25
          obtain rfl := Option.some.inj H
          have hnb26 := NB134_133.out
          have hnc26 := NB133_134.out
          have hcz27_0 : wc.cell? ⟨gb134, 0, none⟩ = some (.int .u32 a1_0) := (blk_cell BK134.out 0).trans rfl
          have hcz27_1 : wc.cell? ⟨gb134, 1, none⟩ = some (.int .u32 a1_1) := (blk_cell BK134.out 1).trans rfl
          have hcz27_2 : wc.cell? ⟨gb134, 2, none⟩ = some (.int .u8 a1_2) := (blk_cell BK134.out 2).trans rfl
          have hcz27_3 : wc.cell? ⟨gb134, 3, none⟩ = some (.int .u16 a1_3) := (blk_cell BK134.out 3).trans rfl
          have hcz27_4 : wc.cell? ⟨gb134, 4, none⟩ = some (.int .u16 a1_4) := (blk_cell BK134.out 4).trans rfl
          have hfz27_0 := blk_frozen BK134.out 0
          have hfz27_1 := blk_frozen BK134.out 1
          have hfz27_2 := blk_frozen BK134.out 2
          have hfz27_3 := blk_frozen BK134.out 3
          have hfz27_4 := blk_frozen BK134.out 4
          have hcz28_0 : wc.cell? ⟨gb133, 0, none⟩ = some (.bool a0_0) := (blk_cell BK133.out 0).trans rfl
          have hcz28_1 : wc.cell? ⟨gb133, 1, none⟩ = some (.int .i64 a0_1) := (blk_cell BK133.out 1).trans rfl
          have hcz28_2 : wc.cell? ⟨gb133, 2, none⟩ = some (.int .u32 a0_2) := (blk_cell BK133.out 2).trans rfl
          have hcz28_3 : wc.cell? ⟨gb133, 3, none⟩ = some (.int .i64 a0_3) := (blk_cell BK133.out 3).trans rfl
          have hcz28_4 : wc.cell? ⟨gb133, 4, none⟩ = some (.int .u32 a0_4) := (blk_cell BK133.out 4).trans rfl
          have hcz28_5 : wc.cell? ⟨gb133, 5, none⟩ = some (.int .i64 a0_5) := (blk_cell BK133.out 5).trans rfl
          have hcz28_6 : wc.cell? ⟨gb133, 6, none⟩ = some (.int .u32 a0_6) := (blk_cell BK133.out 6).trans rfl
          have hcz28_7 : wc.cell? ⟨gb133, 7, none⟩ = some (.int .u32 a0_7) := (blk_cell BK133.out 7).trans rfl
          have hcz28_8 : wc.cell? ⟨gb133, 8, none⟩ = some (.int .u32 a0_8) := (blk_cell BK133.out 8).trans rfl
          have hcz28_9 : wc.cell? ⟨gb133, 9, none⟩ = some (.int .u32 a0_9) := (blk_cell BK133.out 9).trans rfl
          have hfz28_0 := blk_frozen BK133.out 0
          have hfz28_1 := blk_frozen BK133.out 1
          have hfz28_2 := blk_frozen BK133.out 2
          have hfz28_3 := blk_frozen BK133.out 3
          have hfz28_4 := blk_frozen BK133.out 4
          have hfz28_5 := blk_frozen BK133.out 5
          have hfz28_6 := blk_frozen BK133.out 6
          have hfz28_7 := blk_frozen BK133.out 7
          have hfz28_8 := blk_frozen BK133.out 8
          have hfz28_9 := blk_frozen BK133.out 9
          go_wp2_with (first | ((with_reducible refine gate_callee (f := 69) rfl ?_); refine goesL_ (some 19) rfl rfl Try.func69 (by kernel_rfl) rfl #[.int .u32 a1_0, .agg #[.int .u32 a0_2, .int .i64 a0_3]] rfl (by (try simp only [List.map_toArray, List.map_cons, List.map_nil]); first | done | rfl | (simp only [List.length_drop, List.length_take]; rfl)) ?_; (with_reducible refine (waymarkref01_In.calls kj2 a1_0 a0_2 a0_3 true _ A18.out).mono ?_); rintro e w29 ⟨rfl, hb⟩; refine ⟨_, rfl, ?_⟩; have n0_ := Aside0.mk (blk_below (g := gb133) (o := .cells #[.bool a0_0, .int .i64 a0_1, .int .u32 a0_2, .int .i64 a0_3, .int .u32 a0_4, .int .i64 a0_5, .int .u32 a0_6, .int .u32 a0_7, .int .u32 a0_8, .int .u32 a0_9] 33 (0, 0)) (by (with_reducible repeat (first | refine blk_drewN ?_ _ | refine blk_drew ?_ | refine blk_alloc ?_ _)); exact BK133.out) hb); have n1_ := Aside0.mk (blk_below (g := gb134) (o := .cells #[.int .u32 a1_0, .int .u32 a1_1, .int .u8 a1_2, .int .u16 a1_3, .int .u16 a1_4] 40 (0, 0)) (by (with_reducible repeat (first | refine blk_drewN ?_ _ | refine blk_drew ?_ | refine blk_alloc ?_ _)); exact BK134.out) hb); have n2_ := Aside0.mk (below_step (by repeat (first | (with_reducible first | exact HB.out | apply below_alloc | apply pw_below_drewN | apply below_drew1 | refine below_set ?_ GE133.out | refine below_set ?_ GE134.out) | exact HB.out)) hb); clear BK133; clear BK134; clear HB; have BK133 := n0_; have BK134 := n1_; have HB := n2_; clear n0_ n1_ n2_; (try clear hb); (try clear hb2); (try clear hk); (try clear hi); have hcz30_0 : w29.cell? ⟨gb134, 0, none⟩ = some (.int .u32 a1_0) := (blk_cell BK134.out 0).trans rfl; have hcz30_1 : w29.cell? ⟨gb134, 1, none⟩ = some (.int .u32 a1_1) := (blk_cell BK134.out 1).trans rfl; have hcz30_2 : w29.cell? ⟨gb134, 2, none⟩ = some (.int .u8 a1_2) := (blk_cell BK134.out 2).trans rfl; have hcz30_3 : w29.cell? ⟨gb134, 3, none⟩ = some (.int .u16 a1_3) := (blk_cell BK134.out 3).trans rfl; have hcz30_4 : w29.cell? ⟨gb134, 4, none⟩ = some (.int .u16 a1_4) := (blk_cell BK134.out 4).trans rfl; have hfz30_0 := blk_frozen BK134.out 0; have hfz30_1 := blk_frozen BK134.out 1; have hfz30_2 := blk_frozen BK134.out 2; have hfz30_3 := blk_frozen BK134.out 3; have hfz30_4 := blk_frozen BK134.out 4; have hcz31_0 : w29.cell? ⟨gb133, 0, none⟩ = some (.bool a0_0) := (blk_cell BK133.out 0).trans rfl; have hcz31_1 : w29.cell? ⟨gb133, 1, none⟩ = some (.int .i64 a0_1) := (blk_cell BK133.out 1).trans rfl; have hcz31_2 : w29.cell? ⟨gb133, 2, none⟩ = some (.int .u32 a0_2) := (blk_cell BK133.out 2).trans rfl; have hcz31_3 : w29.cell? ⟨gb133, 3, none⟩ = some (.int .i64 a0_3) := (blk_cell BK133.out 3).trans rfl; have hcz31_4 : w29.cell? ⟨gb133, 4, none⟩ = some (.int .u32 a0_4) := (blk_cell BK133.out 4).trans rfl; have hcz31_5 : w29.cell? ⟨gb133, 5, none⟩ = some (.int .i64 a0_5) := (blk_cell BK133.out 5).trans rfl; have hcz31_6 : w29.cell? ⟨gb133, 6, none⟩ = some (.int .u32 a0_6) := (blk_cell BK133.out 6).trans rfl; have hcz31_7 : w29.cell? ⟨gb133, 7, none⟩ = some (.int .u32 a0_7) := (blk_cell BK133.out 7).trans rfl; have hcz31_8 : w29.cell? ⟨gb133, 8, none⟩ = some (.int .u32 a0_8) := (blk_cell BK133.out 8).trans rfl; have hcz31_9 : w29.cell? ⟨gb133, 9, none⟩ = some (.int .u32 a0_9) := (blk_cell BK133.out 9).trans rfl; have hfz31_0 := blk_frozen BK133.out 0; have hfz31_1 := blk_frozen BK133.out 1; have hfz31_2 := blk_frozen BK133.out 2; have hfz31_3 := blk_frozen BK133.out 3; have hfz31_4 := blk_frozen BK133.out 4; have hfz31_5 := blk_frozen BK133.out 5; have hfz31_6 := blk_frozen BK133.out 6; have hfz31_7 := blk_frozen BK133.out 7; have hfz31_8 := blk_frozen BK133.out 8; have hfz31_9 := blk_frozen BK133.out 9) | (go_at_call 69; (with_reducible refine (waymarkref01_In.calls kj2 a1_1 a0_4 a0_5 true _ A20.out).mono ?_); rintro e w32 ⟨rfl, hb⟩; have n0_ := Aside0.mk (blk_below (g := gb133) (o := .cells #[.bool a0_0, .int .i64 a0_1, .int .u32 a0_2, .int .i64 a0_3, .int .u32 a0_4, .int .i64 a0_5, .int .u32 a0_6, .int .u32 a0_7, .int .u32 a0_8, .int .u32 a0_9] 33 (0, 0)) (by (with_reducible repeat (first | refine blk_drewN ?_ _ | refine blk_drew ?_ | refine blk_alloc ?_ _)); exact BK133.out) hb); have n1_ := Aside0.mk (blk_below (g := gb134) (o := .cells #[.int .u32 a1_0, .int .u32 a1_1, .int .u8 a1_2, .int .u16 a1_3, .int .u16 a1_4] 40 (0, 0)) (by (with_reducible repeat (first | refine blk_drewN ?_ _ | refine blk_drew ?_ | refine blk_alloc ?_ _)); exact BK134.out) hb); have n2_ := Aside0.mk (below_step (by repeat (first | (with_reducible first | exact HB.out | apply below_alloc | apply pw_below_drewN | apply below_drew1 | refine below_set ?_ GE133.out | refine below_set ?_ GE134.out) | exact HB.out)) hb); clear BK133; clear BK134; clear HB; have BK133 := n0_; have BK134 := n1_; have HB := n2_; clear n0_ n1_ n2_; (try clear hb); (try clear hb2); (try clear hk); (try clear hi); have hcz33_0 : w32.cell? ⟨gb133, 0, none⟩ = some (.bool a0_0) := (blk_cell BK133.out 0).trans rfl; have hcz33_1 : w32.cell? ⟨gb133, 1, none⟩ = some (.int .i64 a0_1) := (blk_cell BK133.out 1).trans rfl; have hcz33_2 : w32.cell? ⟨gb133, 2, none⟩ = some (.int .u32 a0_2) := (blk_cell BK133.out 2).trans rfl; have hcz33_3 : w32.cell? ⟨gb133, 3, none⟩ = some (.int .i64 a0_3) := (blk_cell BK133.out 3).trans rfl; have hcz33_4 : w32.cell? ⟨gb133, 4, none⟩ = some (.int .u32 a0_4) := (blk_cell BK133.out 4).trans rfl; have hcz33_5 : w32.cell? ⟨gb133, 5, none⟩ = some (.int .i64 a0_5) := (blk_cell BK133.out 5).trans rfl; have hcz33_6 : w32.cell? ⟨gb133, 6, none⟩ = some (.int .u32 a0_6) := (blk_cell BK133.out 6).trans rfl; have hcz33_7 : w32.cell? ⟨gb133, 7, none⟩ = some (.int .u32 a0_7) := (blk_cell BK133.out 7).trans rfl; have hcz33_8 : w32.cell? ⟨gb133, 8, none⟩ = some (.int .u32 a0_8) := (blk_cell BK133.out 8).trans rfl; have hcz33_9 : w32.cell? ⟨gb133, 9, none⟩ = some (.int .u32 a0_9) := (blk_cell BK133.out 9).trans rfl; have hfz33_0 := blk_frozen BK133.out 0; have hfz33_1 := blk_frozen BK133.out 1; have hfz33_2 := blk_frozen BK133.out 2; have hfz33_3 := blk_frozen BK133.out 3; have hfz33_4 := blk_frozen BK133.out 4; have hfz33_5 := blk_frozen BK133.out 5; have hfz33_6 := blk_frozen BK133.out 6; have hfz33_7 := blk_frozen BK133.out 7; have hfz33_8 := blk_frozen BK133.out 8; have hfz33_9 := blk_frozen BK133.out 9; have hcz34_0 : w32.cell? ⟨gb134, 0, none⟩ = some (.int .u32 a1_0) := (blk_cell BK134.out 0).trans rfl; have hcz34_1 : w32.cell? ⟨gb134, 1, none⟩ = some (.int .u32 a1_1) := (blk_cell BK134.out 1).trans rfl; have hcz34_2 : w32.cell? ⟨gb134, 2, none⟩ = some (.int .u8 a1_2) := (blk_cell BK134.out 2).trans rfl; have hcz34_3 : w32.cell? ⟨gb134, 3, none⟩ = some (.int .u16 a1_3) := (blk_cell BK134.out 3).trans rfl; have hcz34_4 : w32.cell? ⟨gb134, 4, none⟩ = some (.int .u16 a1_4) := (blk_cell BK134.out 4).trans rfl; have hfz34_0 := blk_frozen BK134.out 0; have hfz34_1 := blk_frozen BK134.out 1; have hfz34_2 := blk_frozen BK134.out 2; have hfz34_3 := blk_frozen BK134.out 3; have hfz34_4 := blk_frozen BK134.out 4))
          go_ret
          exact ⟨by first | rfl | (simp [errW_none, errW_some] <;> rfl) | (simp [*, errW_none, errW_some] <;> rfl), by repeat (first | (with_reducible first | exact HB.out | apply below_alloc | apply pw_below_drewN | apply below_drew1 | refine below_set ?_ GE133.out | refine below_set ?_ GE134.out) | exact HB.out)⟩
         ·rw [if_neg c25] at H
          have c25b0 : decide (a0_8 ≤ ((a1_4) % 4294967296)) = false := decide_eq_false c25
          clear c25
          obtain rfl := Option.some.inj H
          have hnb35 := NB134_133.out
          have hnc35 := NB133_134.out
          have hcz36_0 : wc.cell? ⟨gb134, 0, none⟩ = some (.int .u32 a1_0) := (blk_cell BK134.out 0).trans rfl
          have hcz36_1 : wc.cell? ⟨gb134, 1, none⟩ = some (.int .u32 a1_1) := (blk_cell BK134.out 1).trans rfl
          have hcz36_2 : wc.cell? ⟨gb134, 2, none⟩ = some (.int .u8 a1_2) := (blk_cell BK134.out 2).trans rfl
          have hcz36_3 : wc.cell? ⟨gb134, 3, none⟩ = some (.int .u16 a1_3) := (blk_cell BK134.out 3).trans rfl
          have hcz36_4 : wc.cell? ⟨gb134, 4, none⟩ = some (.int .u16 a1_4) := (blk_cell BK134.out 4).trans rfl
          have hfz36_0 := blk_frozen BK134.out 0
          have hfz36_1 := blk_frozen BK134.out 1
          have hfz36_2 := blk_frozen BK134.out 2
          have hfz36_3 := blk_frozen BK134.out 3
          have hfz36_4 := blk_frozen BK134.out 4
          have hcz37_0 : wc.cell? ⟨gb133, 0, none⟩ = some (.bool a0_0) := (blk_cell BK133.out 0).trans rfl
          have hcz37_1 : wc.cell? ⟨gb133, 1, none⟩ = some (.int .i64 a0_1) := (blk_cell BK133.out 1).trans rfl
          have hcz37_2 : wc.cell? ⟨gb133, 2, none⟩ = some (.int .u32 a0_2) := (blk_cell BK133.out 2).trans rfl
          have hcz37_3 : wc.cell? ⟨gb133, 3, none⟩ = some (.int .i64 a0_3) := (blk_cell BK133.out 3).trans rfl
          have hcz37_4 : wc.cell? ⟨gb133, 4, none⟩ = some (.int .u32 a0_4) := (blk_cell BK133.out 4).trans rfl
          have hcz37_5 : wc.cell? ⟨gb133, 5, none⟩ = some (.int .i64 a0_5) := (blk_cell BK133.out 5).trans rfl
          have hcz37_6 : wc.cell? ⟨gb133, 6, none⟩ = some (.int .u32 a0_6) := (blk_cell BK133.out 6).trans rfl
          have hcz37_7 : wc.cell? ⟨gb133, 7, none⟩ = some (.int .u32 a0_7) := (blk_cell BK133.out 7).trans rfl
          have hcz37_8 : wc.cell? ⟨gb133, 8, none⟩ = some (.int .u32 a0_8) := (blk_cell BK133.out 8).trans rfl
          have hcz37_9 : wc.cell? ⟨gb133, 9, none⟩ = some (.int .u32 a0_9) := (blk_cell BK133.out 9).trans rfl
          have hfz37_0 := blk_frozen BK133.out 0
          have hfz37_1 := blk_frozen BK133.out 1
          have hfz37_2 := blk_frozen BK133.out 2
          have hfz37_3 := blk_frozen BK133.out 3
          have hfz37_4 := blk_frozen BK133.out 4
          have hfz37_5 := blk_frozen BK133.out 5
          have hfz37_6 := blk_frozen BK133.out 6
          have hfz37_7 := blk_frozen BK133.out 7
          have hfz37_8 := blk_frozen BK133.out 8
          have hfz37_9 := blk_frozen BK133.out 9
          go_wp2_with (first | ((with_reducible refine gate_callee (f := 69) rfl ?_); refine goesL_ (some 19) rfl rfl Try.func69 (by kernel_rfl) rfl #[.int .u32 a1_0, .agg #[.int .u32 a0_2, .int .i64 a0_3]] rfl (by (try simp only [List.map_toArray, List.map_cons, List.map_nil]); first | done | rfl | (simp only [List.length_drop, List.length_take]; rfl)) ?_; (with_reducible refine (waymarkref01_In.calls kj2 a1_0 a0_2 a0_3 true _ A18.out).mono ?_); rintro e w38 ⟨rfl, hb⟩; refine ⟨_, rfl, ?_⟩; have n0_ := Aside0.mk (blk_below (g := gb133) (o := .cells #[.bool a0_0, .int .i64 a0_1, .int .u32 a0_2, .int .i64 a0_3, .int .u32 a0_4, .int .i64 a0_5, .int .u32 a0_6, .int .u32 a0_7, .int .u32 a0_8, .int .u32 a0_9] 33 (0, 0)) (by (with_reducible repeat (first | refine blk_drewN ?_ _ | refine blk_drew ?_ | refine blk_alloc ?_ _)); exact BK133.out) hb); have n1_ := Aside0.mk (blk_below (g := gb134) (o := .cells #[.int .u32 a1_0, .int .u32 a1_1, .int .u8 a1_2, .int .u16 a1_3, .int .u16 a1_4] 40 (0, 0)) (by (with_reducible repeat (first | refine blk_drewN ?_ _ | refine blk_drew ?_ | refine blk_alloc ?_ _)); exact BK134.out) hb); have n2_ := Aside0.mk (below_step (by repeat (first | (with_reducible first | exact HB.out | apply below_alloc | apply pw_below_drewN | apply below_drew1 | refine below_set ?_ GE133.out | refine below_set ?_ GE134.out) | exact HB.out)) hb); clear BK133; clear BK134; clear HB; have BK133 := n0_; have BK134 := n1_; have HB := n2_; clear n0_ n1_ n2_; (try clear hb); (try clear hb2); (try clear hk); (try clear hi); have hcz39_0 : w38.cell? ⟨gb134, 0, none⟩ = some (.int .u32 a1_0) := (blk_cell BK134.out 0).trans rfl; have hcz39_1 : w38.cell? ⟨gb134, 1, none⟩ = some (.int .u32 a1_1) := (blk_cell BK134.out 1).trans rfl; have hcz39_2 : w38.cell? ⟨gb134, 2, none⟩ = some (.int .u8 a1_2) := (blk_cell BK134.out 2).trans rfl; have hcz39_3 : w38.cell? ⟨gb134, 3, none⟩ = some (.int .u16 a1_3) := (blk_cell BK134.out 3).trans rfl; have hcz39_4 : w38.cell? ⟨gb134, 4, none⟩ = some (.int .u16 a1_4) := (blk_cell BK134.out 4).trans rfl; have hfz39_0 := blk_frozen BK134.out 0; have hfz39_1 := blk_frozen BK134.out 1; have hfz39_2 := blk_frozen BK134.out 2; have hfz39_3 := blk_frozen BK134.out 3; have hfz39_4 := blk_frozen BK134.out 4; have hcz40_0 : w38.cell? ⟨gb133, 0, none⟩ = some (.bool a0_0) := (blk_cell BK133.out 0).trans rfl; have hcz40_1 : w38.cell? ⟨gb133, 1, none⟩ = some (.int .i64 a0_1) := (blk_cell BK133.out 1).trans rfl; have hcz40_2 : w38.cell? ⟨gb133, 2, none⟩ = some (.int .u32 a0_2) := (blk_cell BK133.out 2).trans rfl; have hcz40_3 : w38.cell? ⟨gb133, 3, none⟩ = some (.int .i64 a0_3) := (blk_cell BK133.out 3).trans rfl; have hcz40_4 : w38.cell? ⟨gb133, 4, none⟩ = some (.int .u32 a0_4) := (blk_cell BK133.out 4).trans rfl; have hcz40_5 : w38.cell? ⟨gb133, 5, none⟩ = some (.int .i64 a0_5) := (blk_cell BK133.out 5).trans rfl; have hcz40_6 : w38.cell? ⟨gb133, 6, none⟩ = some (.int .u32 a0_6) := (blk_cell BK133.out 6).trans rfl; have hcz40_7 : w38.cell? ⟨gb133, 7, none⟩ = some (.int .u32 a0_7) := (blk_cell BK133.out 7).trans rfl; have hcz40_8 : w38.cell? ⟨gb133, 8, none⟩ = some (.int .u32 a0_8) := (blk_cell BK133.out 8).trans rfl; have hcz40_9 : w38.cell? ⟨gb133, 9, none⟩ = some (.int .u32 a0_9) := (blk_cell BK133.out 9).trans rfl; have hfz40_0 := blk_frozen BK133.out 0; have hfz40_1 := blk_frozen BK133.out 1; have hfz40_2 := blk_frozen BK133.out 2; have hfz40_3 := blk_frozen BK133.out 3; have hfz40_4 := blk_frozen BK133.out 4; have hfz40_5 := blk_frozen BK133.out 5; have hfz40_6 := blk_frozen BK133.out 6; have hfz40_7 := blk_frozen BK133.out 7; have hfz40_8 := blk_frozen BK133.out 8; have hfz40_9 := blk_frozen BK133.out 9) | (go_at_call 69; (with_reducible refine (waymarkref01_In.calls kj2 a1_1 a0_4 a0_5 true _ A20.out).mono ?_); rintro e w41 ⟨rfl, hb⟩; have n0_ := Aside0.mk (blk_below (g := gb133) (o := .cells #[.bool a0_0, .int .i64 a0_1, .int .u32 a0_2, .int .i64 a0_3, .int .u32 a0_4, .int .i64 a0_5, .int .u32 a0_6, .int .u32 a0_7, .int .u32 a0_8, .int .u32 a0_9] 33 (0, 0)) (by (with_reducible repeat (first | refine blk_drewN ?_ _ | refine blk_drew ?_ | refine blk_alloc ?_ _)); exact BK133.out) hb); have n1_ := Aside0.mk (blk_below (g := gb134) (o := .cells #[.int .u32 a1_0, .int .u32 a1_1, .int .u8 a1_2, .int .u16 a1_3, .int .u16 a1_4] 40 (0, 0)) (by (with_reducible repeat (first | refine blk_drewN ?_ _ | refine blk_drew ?_ | refine blk_alloc ?_ _)); exact BK134.out) hb); have n2_ := Aside0.mk (below_step (by repeat (first | (with_reducible first | exact HB.out | apply below_alloc | apply pw_below_drewN | apply below_drew1 | refine below_set ?_ GE133.out | refine below_set ?_ GE134.out) | exact HB.out)) hb); clear BK133; clear BK134; clear HB; have BK133 := n0_; have BK134 := n1_; have HB := n2_; clear n0_ n1_ n2_; (try clear hb); (try clear hb2); (try clear hk); (try clear hi); have hcz42_0 : w41.cell? ⟨gb133, 0, none⟩ = some (.bool a0_0) := (blk_cell BK133.out 0).trans rfl; have hcz42_1 : w41.cell? ⟨gb133, 1, none⟩ = some (.int .i64 a0_1) := (blk_cell BK133.out 1).trans rfl; have hcz42_2 : w41.cell? ⟨gb133, 2, none⟩ = some (.int .u32 a0_2) := (blk_cell BK133.out 2).trans rfl; have hcz42_3 : w41.cell? ⟨gb133, 3, none⟩ = some (.int .i64 a0_3) := (blk_cell BK133.out 3).trans rfl; have hcz42_4 : w41.cell? ⟨gb133, 4, none⟩ = some (.int .u32 a0_4) := (blk_cell BK133.out 4).trans rfl; have hcz42_5 : w41.cell? ⟨gb133, 5, none⟩ = some (.int .i64 a0_5) := (blk_cell BK133.out 5).trans rfl; have hcz42_6 : w41.cell? ⟨gb133, 6, none⟩ = some (.int .u32 a0_6) := (blk_cell BK133.out 6).trans rfl; have hcz42_7 : w41.cell? ⟨gb133, 7, none⟩ = some (.int .u32 a0_7) := (blk_cell BK133.out 7).trans rfl; have hcz42_8 : w41.cell? ⟨gb133, 8, none⟩ = some (.int .u32 a0_8) := (blk_cell BK133.out 8).trans rfl; have hcz42_9 : w41.cell? ⟨gb133, 9, none⟩ = some (.int .u32 a0_9) := (blk_cell BK133.out 9).trans rfl; have hfz42_0 := blk_frozen BK133.out 0; have hfz42_1 := blk_frozen BK133.out 1; have hfz42_2 := blk_frozen BK133.out 2; have hfz42_3 := blk_frozen BK133.out 3; have hfz42_4 := blk_frozen BK133.out 4; have hfz42_5 := blk_frozen BK133.out 5; have hfz42_6 := blk_frozen BK133.out 6; have hfz42_7 := blk_frozen BK133.out 7; have hfz42_8 := blk_frozen BK133.out 8; have hfz42_9 := blk_frozen BK133.out 9; have hcz43_0 : w41.cell? ⟨gb134, 0, none⟩ = some (.int .u32 a1_0) := (blk_cell BK134.out 0).trans rfl; have hcz43_1 : w41.cell? ⟨gb134, 1, none⟩ = some (.int .u32 a1_1) := (blk_cell BK134.out 1).trans rfl; have hcz43_2 : w41.cell? ⟨gb134, 2, none⟩ = some (.int .u8 a1_2) := (blk_cell BK134.out 2).trans rfl; have hcz43_3 : w41.cell? ⟨gb134, 3, none⟩ = some (.int .u16 a1_3) := (blk_cell BK134.out 3).trans rfl; have hcz43_4 : w41.cell? ⟨gb134, 4, none⟩ = some (.int .u16 a1_4) := (blk_cell BK134.out 4).trans rfl; have hfz43_0 := blk_frozen BK134.out 0; have hfz43_1 := blk_frozen BK134.out 1; have hfz43_2 := blk_frozen BK134.out 2; have hfz43_3 := blk_frozen BK134.out 3; have hfz43_4 := blk_frozen BK134.out 4))
          go_ret
          exact ⟨by first | rfl | (simp [errW_none, errW_some] <;> rfl) | (simp [*, errW_none, errW_some] <;> rfl), by repeat (first | (with_reducible first | exact HB.out | apply below_alloc | apply pw_below_drewN | apply below_drew1 | refine below_set ?_ GE133.out | refine below_set ?_ GE134.out) | exact HB.out)⟩
        ·rw [if_neg c24] at H
         have c24b0 : decide (((a1_3) % 4294967296) ≤ a0_7) = false := decide_eq_false c24
         clear c24
         obtain rfl := Option.some.inj H
         have hnb44 := NB134_133.out
         have hnc44 := NB133_134.out
         have hcz45_0 : wc.cell? ⟨gb134, 0, none⟩ = some (.int .u32 a1_0) := (blk_cell BK134.out 0).trans rfl
         have hcz45_1 : wc.cell? ⟨gb134, 1, none⟩ = some (.int .u32 a1_1) := (blk_cell BK134.out 1).trans rfl
         have hcz45_2 : wc.cell? ⟨gb134, 2, none⟩ = some (.int .u8 a1_2) := (blk_cell BK134.out 2).trans rfl
         have hcz45_3 : wc.cell? ⟨gb134, 3, none⟩ = some (.int .u16 a1_3) := (blk_cell BK134.out 3).trans rfl
         have hcz45_4 : wc.cell? ⟨gb134, 4, none⟩ = some (.int .u16 a1_4) := (blk_cell BK134.out 4).trans rfl
         have hfz45_0 := blk_frozen BK134.out 0
         have hfz45_1 := blk_frozen BK134.out 1
         have hfz45_2 := blk_frozen BK134.out 2
         have hfz45_3 := blk_frozen BK134.out 3
         have hfz45_4 := blk_frozen BK134.out 4
         have hcz46_0 : wc.cell? ⟨gb133, 0, none⟩ = some (.bool a0_0) := (blk_cell BK133.out 0).trans rfl
         have hcz46_1 : wc.cell? ⟨gb133, 1, none⟩ = some (.int .i64 a0_1) := (blk_cell BK133.out 1).trans rfl
         have hcz46_2 : wc.cell? ⟨gb133, 2, none⟩ = some (.int .u32 a0_2) := (blk_cell BK133.out 2).trans rfl
         have hcz46_3 : wc.cell? ⟨gb133, 3, none⟩ = some (.int .i64 a0_3) := (blk_cell BK133.out 3).trans rfl
         have hcz46_4 : wc.cell? ⟨gb133, 4, none⟩ = some (.int .u32 a0_4) := (blk_cell BK133.out 4).trans rfl
         have hcz46_5 : wc.cell? ⟨gb133, 5, none⟩ = some (.int .i64 a0_5) := (blk_cell BK133.out 5).trans rfl
         have hcz46_6 : wc.cell? ⟨gb133, 6, none⟩ = some (.int .u32 a0_6) := (blk_cell BK133.out 6).trans rfl
         have hcz46_7 : wc.cell? ⟨gb133, 7, none⟩ = some (.int .u32 a0_7) := (blk_cell BK133.out 7).trans rfl
         have hcz46_8 : wc.cell? ⟨gb133, 8, none⟩ = some (.int .u32 a0_8) := (blk_cell BK133.out 8).trans rfl
         have hcz46_9 : wc.cell? ⟨gb133, 9, none⟩ = some (.int .u32 a0_9) := (blk_cell BK133.out 9).trans rfl
         have hfz46_0 := blk_frozen BK133.out 0
         have hfz46_1 := blk_frozen BK133.out 1
         have hfz46_2 := blk_frozen BK133.out 2
         have hfz46_3 := blk_frozen BK133.out 3
         have hfz46_4 := blk_frozen BK133.out 4
         have hfz46_5 := blk_frozen BK133.out 5
         have hfz46_6 := blk_frozen BK133.out 6
         have hfz46_7 := blk_frozen BK133.out 7
         have hfz46_8 := blk_frozen BK133.out 8
         have hfz46_9 := blk_frozen BK133.out 9
         go_wp2_with (first | ((with_reducible refine gate_callee (f := 69) rfl ?_); refine goesL_ (some 19) rfl rfl Try.func69 (by kernel_rfl) rfl #[.int .u32 a1_0, .agg #[.int .u32 a0_2, .int .i64 a0_3]] rfl (by (try simp only [List.map_toArray, List.map_cons, List.map_nil]); first | done | rfl | (simp only [List.length_drop, List.length_take]; rfl)) ?_; (with_reducible refine (waymarkref01_In.calls kj2 a1_0 a0_2 a0_3 true _ A18.out).mono ?_); rintro e w47 ⟨rfl, hb⟩; refine ⟨_, rfl, ?_⟩; have n0_ := Aside0.mk (blk_below (g := gb133) (o := .cells #[.bool a0_0, .int .i64 a0_1, .int .u32 a0_2, .int .i64 a0_3, .int .u32 a0_4, .int .i64 a0_5, .int .u32 a0_6, .int .u32 a0_7, .int .u32 a0_8, .int .u32 a0_9] 33 (0, 0)) (by (with_reducible repeat (first | refine blk_drewN ?_ _ | refine blk_drew ?_ | refine blk_alloc ?_ _)); exact BK133.out) hb); have n1_ := Aside0.mk (blk_below (g := gb134) (o := .cells #[.int .u32 a1_0, .int .u32 a1_1, .int .u8 a1_2, .int .u16 a1_3, .int .u16 a1_4] 40 (0, 0)) (by (with_reducible repeat (first | refine blk_drewN ?_ _ | refine blk_drew ?_ | refine blk_alloc ?_ _)); exact BK134.out) hb); have n2_ := Aside0.mk (below_step (by repeat (first | (with_reducible first | exact HB.out | apply below_alloc | apply pw_below_drewN | apply below_drew1 | refine below_set ?_ GE133.out | refine below_set ?_ GE134.out) | exact HB.out)) hb); clear BK133; clear BK134; clear HB; have BK133 := n0_; have BK134 := n1_; have HB := n2_; clear n0_ n1_ n2_; (try clear hb); (try clear hb2); (try clear hk); (try clear hi); have hcz48_0 : w47.cell? ⟨gb134, 0, none⟩ = some (.int .u32 a1_0) := (blk_cell BK134.out 0).trans rfl; have hcz48_1 : w47.cell? ⟨gb134, 1, none⟩ = some (.int .u32 a1_1) := (blk_cell BK134.out 1).trans rfl; have hcz48_2 : w47.cell? ⟨gb134, 2, none⟩ = some (.int .u8 a1_2) := (blk_cell BK134.out 2).trans rfl; have hcz48_3 : w47.cell? ⟨gb134, 3, none⟩ = some (.int .u16 a1_3) := (blk_cell BK134.out 3).trans rfl; have hcz48_4 : w47.cell? ⟨gb134, 4, none⟩ = some (.int .u16 a1_4) := (blk_cell BK134.out 4).trans rfl; have hfz48_0 := blk_frozen BK134.out 0; have hfz48_1 := blk_frozen BK134.out 1; have hfz48_2 := blk_frozen BK134.out 2; have hfz48_3 := blk_frozen BK134.out 3; have hfz48_4 := blk_frozen BK134.out 4; have hcz49_0 : w47.cell? ⟨gb133, 0, none⟩ = some (.bool a0_0) := (blk_cell BK133.out 0).trans rfl; have hcz49_1 : w47.cell? ⟨gb133, 1, none⟩ = some (.int .i64 a0_1) := (blk_cell BK133.out 1).trans rfl; have hcz49_2 : w47.cell? ⟨gb133, 2, none⟩ = some (.int .u32 a0_2) := (blk_cell BK133.out 2).trans rfl; have hcz49_3 : w47.cell? ⟨gb133, 3, none⟩ = some (.int .i64 a0_3) := (blk_cell BK133.out 3).trans rfl; have hcz49_4 : w47.cell? ⟨gb133, 4, none⟩ = some (.int .u32 a0_4) := (blk_cell BK133.out 4).trans rfl; have hcz49_5 : w47.cell? ⟨gb133, 5, none⟩ = some (.int .i64 a0_5) := (blk_cell BK133.out 5).trans rfl; have hcz49_6 : w47.cell? ⟨gb133, 6, none⟩ = some (.int .u32 a0_6) := (blk_cell BK133.out 6).trans rfl; have hcz49_7 : w47.cell? ⟨gb133, 7, none⟩ = some (.int .u32 a0_7) := (blk_cell BK133.out 7).trans rfl; have hcz49_8 : w47.cell? ⟨gb133, 8, none⟩ = some (.int .u32 a0_8) := (blk_cell BK133.out 8).trans rfl; have hcz49_9 : w47.cell? ⟨gb133, 9, none⟩ = some (.int .u32 a0_9) := (blk_cell BK133.out 9).trans rfl; have hfz49_0 := blk_frozen BK133.out 0; have hfz49_1 := blk_frozen BK133.out 1; have hfz49_2 := blk_frozen BK133.out 2; have hfz49_3 := blk_frozen BK133.out 3; have hfz49_4 := blk_frozen BK133.out 4; have hfz49_5 := blk_frozen BK133.out 5; have hfz49_6 := blk_frozen BK133.out 6; have hfz49_7 := blk_frozen BK133.out 7; have hfz49_8 := blk_frozen BK133.out 8; have hfz49_9 := blk_frozen BK133.out 9) | (go_at_call 69; (with_reducible refine (waymarkref01_In.calls kj2 a1_1 a0_4 a0_5 true _ A20.out).mono ?_); rintro e w50 ⟨rfl, hb⟩; have n0_ := Aside0.mk (blk_below (g := gb133) (o := .cells #[.bool a0_0, .int .i64 a0_1, .int .u32 a0_2, .int .i64 a0_3, .int .u32 a0_4, .int .i64 a0_5, .int .u32 a0_6, .int .u32 a0_7, .int .u32 a0_8, .int .u32 a0_9] 33 (0, 0)) (by (with_reducible repeat (first | refine blk_drewN ?_ _ | refine blk_drew ?_ | refine blk_alloc ?_ _)); exact BK133.out) hb); have n1_ := Aside0.mk (blk_below (g := gb134) (o := .cells #[.int .u32 a1_0, .int .u32 a1_1, .int .u8 a1_2, .int .u16 a1_3, .int .u16 a1_4] 40 (0, 0)) (by (with_reducible repeat (first | refine blk_drewN ?_ _ | refine blk_drew ?_ | refine blk_alloc ?_ _)); exact BK134.out) hb); have n2_ := Aside0.mk (below_step (by repeat (first | (with_reducible first | exact HB.out | apply below_alloc | apply pw_below_drewN | apply below_drew1 | refine below_set ?_ GE133.out | refine below_set ?_ GE134.out) | exact HB.out)) hb); clear BK133; clear BK134; clear HB; have BK133 := n0_; have BK134 := n1_; have HB := n2_; clear n0_ n1_ n2_; (try clear hb); (try clear hb2); (try clear hk); (try clear hi); have hcz51_0 : w50.cell? ⟨gb133, 0, none⟩ = some (.bool a0_0) := (blk_cell BK133.out 0).trans rfl; have hcz51_1 : w50.cell? ⟨gb133, 1, none⟩ = some (.int .i64 a0_1) := (blk_cell BK133.out 1).trans rfl; have hcz51_2 : w50.cell? ⟨gb133, 2, none⟩ = some (.int .u32 a0_2) := (blk_cell BK133.out 2).trans rfl; have hcz51_3 : w50.cell? ⟨gb133, 3, none⟩ = some (.int .i64 a0_3) := (blk_cell BK133.out 3).trans rfl; have hcz51_4 : w50.cell? ⟨gb133, 4, none⟩ = some (.int .u32 a0_4) := (blk_cell BK133.out 4).trans rfl; have hcz51_5 : w50.cell? ⟨gb133, 5, none⟩ = some (.int .i64 a0_5) := (blk_cell BK133.out 5).trans rfl; have hcz51_6 : w50.cell? ⟨gb133, 6, none⟩ = some (.int .u32 a0_6) := (blk_cell BK133.out 6).trans rfl; have hcz51_7 : w50.cell? ⟨gb133, 7, none⟩ = some (.int .u32 a0_7) := (blk_cell BK133.out 7).trans rfl; have hcz51_8 : w50.cell? ⟨gb133, 8, none⟩ = some (.int .u32 a0_8) := (blk_cell BK133.out 8).trans rfl; have hcz51_9 : w50.cell? ⟨gb133, 9, none⟩ = some (.int .u32 a0_9) := (blk_cell BK133.out 9).trans rfl; have hfz51_0 := blk_frozen BK133.out 0; have hfz51_1 := blk_frozen BK133.out 1; have hfz51_2 := blk_frozen BK133.out 2; have hfz51_3 := blk_frozen BK133.out 3; have hfz51_4 := blk_frozen BK133.out 4; have hfz51_5 := blk_frozen BK133.out 5; have hfz51_6 := blk_frozen BK133.out 6; have hfz51_7 := blk_frozen BK133.out 7; have hfz51_8 := blk_frozen BK133.out 8; have hfz51_9 := blk_frozen BK133.out 9; have hcz52_0 : w50.cell? ⟨gb134, 0, none⟩ = some (.int .u32 a1_0) := (blk_cell BK134.out 0).trans rfl; have hcz52_1 : w50.cell? ⟨gb134, 1, none⟩ = some (.int .u32 a1_1) := (blk_cell BK134.out 1).trans rfl; have hcz52_2 : w50.cell? ⟨gb134, 2, none⟩ = some (.int .u8 a1_2) := (blk_cell BK134.out 2).trans rfl; have hcz52_3 : w50.cell? ⟨gb134, 3, none⟩ = some (.int .u16 a1_3) := (blk_cell BK134.out 3).trans rfl; have hcz52_4 : w50.cell? ⟨gb134, 4, none⟩ = some (.int .u16 a1_4) := (blk_cell BK134.out 4).trans rfl; have hfz52_0 := blk_frozen BK134.out 0; have hfz52_1 := blk_frozen BK134.out 1; have hfz52_2 := blk_frozen BK134.out 2; have hfz52_3 := blk_frozen BK134.out 3; have hfz52_4 := blk_frozen BK134.out 4))
         go_ret
         exact ⟨by first | rfl | (simp [errW_none, errW_some] <;> rfl) | (simp [*, errW_none, errW_some] <;> rfl), by repeat (first | (with_reducible first | exact HB.out | apply below_alloc | apply pw_below_drewN | apply below_drew1 | refine below_set ?_ GE133.out | refine below_set ?_ GE134.out) | exact HB.out)⟩
       ·rw [if_neg c23] at H
        have c23b0 : decide (a0_6 ≤ ((a1_3) % 4294967296)) = false := decide_eq_false c23
        clear c23
        obtain rfl := Option.some.inj H
        have hnb53 := NB134_133.out
        have hnc53 := NB133_134.out
        have hcz54_0 : wc.cell? ⟨gb134, 0, none⟩ = some (.int .u32 a1_0) := (blk_cell BK134.out 0).trans rfl
        have hcz54_1 : wc.cell? ⟨gb134, 1, none⟩ = some (.int .u32 a1_1) := (blk_cell BK134.out 1).trans rfl
        have hcz54_2 : wc.cell? ⟨gb134, 2, none⟩ = some (.int .u8 a1_2) := (blk_cell BK134.out 2).trans rfl
        have hcz54_3 : wc.cell? ⟨gb134, 3, none⟩ = some (.int .u16 a1_3) := (blk_cell BK134.out 3).trans rfl
        have hcz54_4 : wc.cell? ⟨gb134, 4, none⟩ = some (.int .u16 a1_4) := (blk_cell BK134.out 4).trans rfl
        have hfz54_0 := blk_frozen BK134.out 0
        have hfz54_1 := blk_frozen BK134.out 1
        have hfz54_2 := blk_frozen BK134.out 2
        have hfz54_3 := blk_frozen BK134.out 3
        have hfz54_4 := blk_frozen BK134.out 4
        have hcz55_0 : wc.cell? ⟨gb133, 0, none⟩ = some (.bool a0_0) := (blk_cell BK133.out 0).trans rfl
        have hcz55_1 : wc.cell? ⟨gb133, 1, none⟩ = some (.int .i64 a0_1) := (blk_cell BK133.out 1).trans rfl
        have hcz55_2 : wc.cell? ⟨gb133, 2, none⟩ = some (.int .u32 a0_2) := (blk_cell BK133.out 2).trans rfl
        have hcz55_3 : wc.cell? ⟨gb133, 3, none⟩ = some (.int .i64 a0_3) := (blk_cell BK133.out 3).trans rfl
        have hcz55_4 : wc.cell? ⟨gb133, 4, none⟩ = some (.int .u32 a0_4) := (blk_cell BK133.out 4).trans rfl
        have hcz55_5 : wc.cell? ⟨gb133, 5, none⟩ = some (.int .i64 a0_5) := (blk_cell BK133.out 5).trans rfl
        have hcz55_6 : wc.cell? ⟨gb133, 6, none⟩ = some (.int .u32 a0_6) := (blk_cell BK133.out 6).trans rfl
        have hcz55_7 : wc.cell? ⟨gb133, 7, none⟩ = some (.int .u32 a0_7) := (blk_cell BK133.out 7).trans rfl
        have hcz55_8 : wc.cell? ⟨gb133, 8, none⟩ = some (.int .u32 a0_8) := (blk_cell BK133.out 8).trans rfl
        have hcz55_9 : wc.cell? ⟨gb133, 9, none⟩ = some (.int .u32 a0_9) := (blk_cell BK133.out 9).trans rfl
        have hfz55_0 := blk_frozen BK133.out 0
        have hfz55_1 := blk_frozen BK133.out 1
        have hfz55_2 := blk_frozen BK133.out 2
        have hfz55_3 := blk_frozen BK133.out 3
        have hfz55_4 := blk_frozen BK133.out 4
        have hfz55_5 := blk_frozen BK133.out 5
        have hfz55_6 := blk_frozen BK133.out 6
        have hfz55_7 := blk_frozen BK133.out 7
        have hfz55_8 := blk_frozen BK133.out 8
        have hfz55_9 := blk_frozen BK133.out 9
        go_wp2_with (first | ((with_reducible refine gate_callee (f := 69) rfl ?_); refine goesL_ (some 19) rfl rfl Try.func69 (by kernel_rfl) rfl #[.int .u32 a1_0, .agg #[.int .u32 a0_2, .int .i64 a0_3]] rfl (by (try simp only [List.map_toArray, List.map_cons, List.map_nil]); first | done | rfl | (simp only [List.length_drop, List.length_take]; rfl)) ?_; (with_reducible refine (waymarkref01_In.calls kj2 a1_0 a0_2 a0_3 true _ A18.out).mono ?_); rintro e w56 ⟨rfl, hb⟩; refine ⟨_, rfl, ?_⟩; have n0_ := Aside0.mk (blk_below (g := gb133) (o := .cells #[.bool a0_0, .int .i64 a0_1, .int .u32 a0_2, .int .i64 a0_3, .int .u32 a0_4, .int .i64 a0_5, .int .u32 a0_6, .int .u32 a0_7, .int .u32 a0_8, .int .u32 a0_9] 33 (0, 0)) (by (with_reducible repeat (first | refine blk_drewN ?_ _ | refine blk_drew ?_ | refine blk_alloc ?_ _)); exact BK133.out) hb); have n1_ := Aside0.mk (blk_below (g := gb134) (o := .cells #[.int .u32 a1_0, .int .u32 a1_1, .int .u8 a1_2, .int .u16 a1_3, .int .u16 a1_4] 40 (0, 0)) (by (with_reducible repeat (first | refine blk_drewN ?_ _ | refine blk_drew ?_ | refine blk_alloc ?_ _)); exact BK134.out) hb); have n2_ := Aside0.mk (below_step (by repeat (first | (with_reducible first | exact HB.out | apply below_alloc | apply pw_below_drewN | apply below_drew1 | refine below_set ?_ GE133.out | refine below_set ?_ GE134.out) | exact HB.out)) hb); clear BK133; clear BK134; clear HB; have BK133 := n0_; have BK134 := n1_; have HB := n2_; clear n0_ n1_ n2_; (try clear hb); (try clear hb2); (try clear hk); (try clear hi); have hcz57_0 : w56.cell? ⟨gb134, 0, none⟩ = some (.int .u32 a1_0) := (blk_cell BK134.out 0).trans rfl; have hcz57_1 : w56.cell? ⟨gb134, 1, none⟩ = some (.int .u32 a1_1) := (blk_cell BK134.out 1).trans rfl; have hcz57_2 : w56.cell? ⟨gb134, 2, none⟩ = some (.int .u8 a1_2) := (blk_cell BK134.out 2).trans rfl; have hcz57_3 : w56.cell? ⟨gb134, 3, none⟩ = some (.int .u16 a1_3) := (blk_cell BK134.out 3).trans rfl; have hcz57_4 : w56.cell? ⟨gb134, 4, none⟩ = some (.int .u16 a1_4) := (blk_cell BK134.out 4).trans rfl; have hfz57_0 := blk_frozen BK134.out 0; have hfz57_1 := blk_frozen BK134.out 1; have hfz57_2 := blk_frozen BK134.out 2; have hfz57_3 := blk_frozen BK134.out 3; have hfz57_4 := blk_frozen BK134.out 4; have hcz58_0 : w56.cell? ⟨gb133, 0, none⟩ = some (.bool a0_0) := (blk_cell BK133.out 0).trans rfl; have hcz58_1 : w56.cell? ⟨gb133, 1, none⟩ = some (.int .i64 a0_1) := (blk_cell BK133.out 1).trans rfl; have hcz58_2 : w56.cell? ⟨gb133, 2, none⟩ = some (.int .u32 a0_2) := (blk_cell BK133.out 2).trans rfl; have hcz58_3 : w56.cell? ⟨gb133, 3, none⟩ = some (.int .i64 a0_3) := (blk_cell BK133.out 3).trans rfl; have hcz58_4 : w56.cell? ⟨gb133, 4, none⟩ = some (.int .u32 a0_4) := (blk_cell BK133.out 4).trans rfl; have hcz58_5 : w56.cell? ⟨gb133, 5, none⟩ = some (.int .i64 a0_5) := (blk_cell BK133.out 5).trans rfl; have hcz58_6 : w56.cell? ⟨gb133, 6, none⟩ = some (.int .u32 a0_6) := (blk_cell BK133.out 6).trans rfl; have hcz58_7 : w56.cell? ⟨gb133, 7, none⟩ = some (.int .u32 a0_7) := (blk_cell BK133.out 7).trans rfl; have hcz58_8 : w56.cell? ⟨gb133, 8, none⟩ = some (.int .u32 a0_8) := (blk_cell BK133.out 8).trans rfl; have hcz58_9 : w56.cell? ⟨gb133, 9, none⟩ = some (.int .u32 a0_9) := (blk_cell BK133.out 9).trans rfl; have hfz58_0 := blk_frozen BK133.out 0; have hfz58_1 := blk_frozen BK133.out 1; have hfz58_2 := blk_frozen BK133.out 2; have hfz58_3 := blk_frozen BK133.out 3; have hfz58_4 := blk_frozen BK133.out 4; have hfz58_5 := blk_frozen BK133.out 5; have hfz58_6 := blk_frozen BK133.out 6; have hfz58_7 := blk_frozen BK133.out 7; have hfz58_8 := blk_frozen BK133.out 8; have hfz58_9 := blk_frozen BK133.out 9) | (go_at_call 69; (with_reducible refine (waymarkref01_In.calls kj2 a1_1 a0_4 a0_5 true _ A20.out).mono ?_); rintro e w59 ⟨rfl, hb⟩; have n0_ := Aside0.mk (blk_below (g := gb133) (o := .cells #[.bool a0_0, .int .i64 a0_1, .int .u32 a0_2, .int .i64 a0_3, .int .u32 a0_4, .int .i64 a0_5, .int .u32 a0_6, .int .u32 a0_7, .int .u32 a0_8, .int .u32 a0_9] 33 (0, 0)) (by (with_reducible repeat (first | refine blk_drewN ?_ _ | refine blk_drew ?_ | refine blk_alloc ?_ _)); exact BK133.out) hb); have n1_ := Aside0.mk (blk_below (g := gb134) (o := .cells #[.int .u32 a1_0, .int .u32 a1_1, .int .u8 a1_2, .int .u16 a1_3, .int .u16 a1_4] 40 (0, 0)) (by (with_reducible repeat (first | refine blk_drewN ?_ _ | refine blk_drew ?_ | refine blk_alloc ?_ _)); exact BK134.out) hb); have n2_ := Aside0.mk (below_step (by repeat (first | (with_reducible first | exact HB.out | apply below_alloc | apply pw_below_drewN | apply below_drew1 | refine below_set ?_ GE133.out | refine below_set ?_ GE134.out) | exact HB.out)) hb); clear BK133; clear BK134; clear HB; have BK133 := n0_; have BK134 := n1_; have HB := n2_; clear n0_ n1_ n2_; (try clear hb); (try clear hb2); (try clear hk); (try clear hi); have hcz60_0 : w59.cell? ⟨gb133, 0, none⟩ = some (.bool a0_0) := (blk_cell BK133.out 0).trans rfl; have hcz60_1 : w59.cell? ⟨gb133, 1, none⟩ = some (.int .i64 a0_1) := (blk_cell BK133.out 1).trans rfl; have hcz60_2 : w59.cell? ⟨gb133, 2, none⟩ = some (.int .u32 a0_2) := (blk_cell BK133.out 2).trans rfl; have hcz60_3 : w59.cell? ⟨gb133, 3, none⟩ = some (.int .i64 a0_3) := (blk_cell BK133.out 3).trans rfl; have hcz60_4 : w59.cell? ⟨gb133, 4, none⟩ = some (.int .u32 a0_4) := (blk_cell BK133.out 4).trans rfl; have hcz60_5 : w59.cell? ⟨gb133, 5, none⟩ = some (.int .i64 a0_5) := (blk_cell BK133.out 5).trans rfl; have hcz60_6 : w59.cell? ⟨gb133, 6, none⟩ = some (.int .u32 a0_6) := (blk_cell BK133.out 6).trans rfl; have hcz60_7 : w59.cell? ⟨gb133, 7, none⟩ = some (.int .u32 a0_7) := (blk_cell BK133.out 7).trans rfl; have hcz60_8 : w59.cell? ⟨gb133, 8, none⟩ = some (.int .u32 a0_8) := (blk_cell BK133.out 8).trans rfl; have hcz60_9 : w59.cell? ⟨gb133, 9, none⟩ = some (.int .u32 a0_9) := (blk_cell BK133.out 9).trans rfl; have hfz60_0 := blk_frozen BK133.out 0; have hfz60_1 := blk_frozen BK133.out 1; have hfz60_2 := blk_frozen BK133.out 2; have hfz60_3 := blk_frozen BK133.out 3; have hfz60_4 := blk_frozen BK133.out 4; have hfz60_5 := blk_frozen BK133.out 5; have hfz60_6 := blk_frozen BK133.out 6; have hfz60_7 := blk_frozen BK133.out 7; have hfz60_8 := blk_frozen BK133.out 8; have hfz60_9 := blk_frozen BK133.out 9; have hcz61_0 : w59.cell? ⟨gb134, 0, none⟩ = some (.int .u32 a1_0) := (blk_cell BK134.out 0).trans rfl; have hcz61_1 : w59.cell? ⟨gb134, 1, none⟩ = some (.int .u32 a1_1) := (blk_cell BK134.out 1).trans rfl; have hcz61_2 : w59.cell? ⟨gb134, 2, none⟩ = some (.int .u8 a1_2) := (blk_cell BK134.out 2).trans rfl; have hcz61_3 : w59.cell? ⟨gb134, 3, none⟩ = some (.int .u16 a1_3) := (blk_cell BK134.out 3).trans rfl; have hcz61_4 : w59.cell? ⟨gb134, 4, none⟩ = some (.int .u16 a1_4) := (blk_cell BK134.out 4).trans rfl; have hfz61_0 := blk_frozen BK134.out 0; have hfz61_1 := blk_frozen BK134.out 1; have hfz61_2 := blk_frozen BK134.out 2; have hfz61_3 := blk_frozen BK134.out 3; have hfz61_4 := blk_frozen BK134.out 4))
        go_ret
        exact ⟨by first | rfl | (simp [errW_none, errW_some] <;> rfl) | (simp [*, errW_none, errW_some] <;> rfl), by repeat (first | (with_reducible first | exact HB.out | apply below_alloc | apply pw_below_drewN | apply below_drew1 | refine below_set ?_ GE133.out | refine below_set ?_ GE134.out) | exact HB.out)⟩
      ·rw [if_neg c22] at H
       have c22b0 : (a0_1 == (-1)) = false := beq_eq_false_iff_ne.mpr c22
       have c22b1 : (a0_1 != (-1)) = true := bne_iff_ne.mpr c22
       by_cases c62 : a0_1 = (wrap64 (a1_2))
       ·rw [if_pos c62] at H
        have c62b0 : (a0_1 == (wrap64 (a1_2))) = true := beq_iff_eq.mpr c62
        have c62b1 : (a0_1 != (wrap64 (a1_2))) = false := bne_eq_false_iff_eq.mpr c62
        clear c62
        by_cases c63 : ((a1_3) % 4294967296) ≥ a0_6
        ·rw [if_pos c63] at H
         have c63b0 : decide (a0_6 ≤ ((a1_3) % 4294967296)) = true := decide_eq_true c63
         clear c63
         by_cases c64 : ((a1_3) % 4294967296) ≤ a0_7
         ·rw [if_pos c64] at H
          have c64b0 : decide (((a1_3) % 4294967296) ≤ a0_7) = true := decide_eq_true c64
          clear c64
          by_cases c65 : ((a1_4) % 4294967296) ≥ a0_8
          ·rw [if_pos c65] at H
           have c65b0 : decide (a0_8 ≤ ((a1_4) % 4294967296)) = true := decide_eq_true c65
           clear c65
           obtain rfl := Option.some.inj H
           have hnb66 := NB134_133.out
           have hnc66 := NB133_134.out
           have hcz67_0 : wc.cell? ⟨gb134, 0, none⟩ = some (.int .u32 a1_0) := (blk_cell BK134.out 0).trans rfl
           have hcz67_1 : wc.cell? ⟨gb134, 1, none⟩ = some (.int .u32 a1_1) := (blk_cell BK134.out 1).trans rfl
           have hcz67_2 : wc.cell? ⟨gb134, 2, none⟩ = some (.int .u8 a1_2) := (blk_cell BK134.out 2).trans rfl
           have hcz67_3 : wc.cell? ⟨gb134, 3, none⟩ = some (.int .u16 a1_3) := (blk_cell BK134.out 3).trans rfl
           have hcz67_4 : wc.cell? ⟨gb134, 4, none⟩ = some (.int .u16 a1_4) := (blk_cell BK134.out 4).trans rfl
           have hfz67_0 := blk_frozen BK134.out 0
           have hfz67_1 := blk_frozen BK134.out 1
           have hfz67_2 := blk_frozen BK134.out 2
           have hfz67_3 := blk_frozen BK134.out 3
           have hfz67_4 := blk_frozen BK134.out 4
           have hcz68_0 : wc.cell? ⟨gb133, 0, none⟩ = some (.bool a0_0) := (blk_cell BK133.out 0).trans rfl
           have hcz68_1 : wc.cell? ⟨gb133, 1, none⟩ = some (.int .i64 a0_1) := (blk_cell BK133.out 1).trans rfl
           have hcz68_2 : wc.cell? ⟨gb133, 2, none⟩ = some (.int .u32 a0_2) := (blk_cell BK133.out 2).trans rfl
           have hcz68_3 : wc.cell? ⟨gb133, 3, none⟩ = some (.int .i64 a0_3) := (blk_cell BK133.out 3).trans rfl
           have hcz68_4 : wc.cell? ⟨gb133, 4, none⟩ = some (.int .u32 a0_4) := (blk_cell BK133.out 4).trans rfl
           have hcz68_5 : wc.cell? ⟨gb133, 5, none⟩ = some (.int .i64 a0_5) := (blk_cell BK133.out 5).trans rfl
           have hcz68_6 : wc.cell? ⟨gb133, 6, none⟩ = some (.int .u32 a0_6) := (blk_cell BK133.out 6).trans rfl
           have hcz68_7 : wc.cell? ⟨gb133, 7, none⟩ = some (.int .u32 a0_7) := (blk_cell BK133.out 7).trans rfl
           have hcz68_8 : wc.cell? ⟨gb133, 8, none⟩ = some (.int .u32 a0_8) := (blk_cell BK133.out 8).trans rfl
           have hcz68_9 : wc.cell? ⟨gb133, 9, none⟩ = some (.int .u32 a0_9) := (blk_cell BK133.out 9).trans rfl
           have hfz68_0 := blk_frozen BK133.out 0
           have hfz68_1 := blk_frozen BK133.out 1
           have hfz68_2 := blk_frozen BK133.out 2
           have hfz68_3 := blk_frozen BK133.out 3
           have hfz68_4 := blk_frozen BK133.out 4
           have hfz68_5 := blk_frozen BK133.out 5
           have hfz68_6 := blk_frozen BK133.out 6
           have hfz68_7 := blk_frozen BK133.out 7
           have hfz68_8 := blk_frozen BK133.out 8
           have hfz68_9 := blk_frozen BK133.out 9
           go_wp2_with (first | ((with_reducible refine gate_callee (f := 69) rfl ?_); refine goesL_ (some 19) rfl rfl Try.func69 (by kernel_rfl) rfl #[.int .u32 a1_0, .agg #[.int .u32 a0_2, .int .i64 a0_3]] rfl (by (try simp only [List.map_toArray, List.map_cons, List.map_nil]); first | done | rfl | (simp only [List.length_drop, List.length_take]; rfl)) ?_; (with_reducible refine (waymarkref01_In.calls kj2 a1_0 a0_2 a0_3 true _ A18.out).mono ?_); rintro e w69 ⟨rfl, hb⟩; refine ⟨_, rfl, ?_⟩; have n0_ := Aside0.mk (blk_below (g := gb133) (o := .cells #[.bool a0_0, .int .i64 a0_1, .int .u32 a0_2, .int .i64 a0_3, .int .u32 a0_4, .int .i64 a0_5, .int .u32 a0_6, .int .u32 a0_7, .int .u32 a0_8, .int .u32 a0_9] 33 (0, 0)) (by (with_reducible repeat (first | refine blk_drewN ?_ _ | refine blk_drew ?_ | refine blk_alloc ?_ _)); exact BK133.out) hb); have n1_ := Aside0.mk (blk_below (g := gb134) (o := .cells #[.int .u32 a1_0, .int .u32 a1_1, .int .u8 a1_2, .int .u16 a1_3, .int .u16 a1_4] 40 (0, 0)) (by (with_reducible repeat (first | refine blk_drewN ?_ _ | refine blk_drew ?_ | refine blk_alloc ?_ _)); exact BK134.out) hb); have n2_ := Aside0.mk (below_step (by repeat (first | (with_reducible first | exact HB.out | apply below_alloc | apply pw_below_drewN | apply below_drew1 | refine below_set ?_ GE133.out | refine below_set ?_ GE134.out) | exact HB.out)) hb); clear BK133; clear BK134; clear HB; have BK133 := n0_; have BK134 := n1_; have HB := n2_; clear n0_ n1_ n2_; (try clear hb); (try clear hb2); (try clear hk); (try clear hi); have hcz70_0 : w69.cell? ⟨gb134, 0, none⟩ = some (.int .u32 a1_0) := (blk_cell BK134.out 0).trans rfl; have hcz70_1 : w69.cell? ⟨gb134, 1, none⟩ = some (.int .u32 a1_1) := (blk_cell BK134.out 1).trans rfl; have hcz70_2 : w69.cell? ⟨gb134, 2, none⟩ = some (.int .u8 a1_2) := (blk_cell BK134.out 2).trans rfl; have hcz70_3 : w69.cell? ⟨gb134, 3, none⟩ = some (.int .u16 a1_3) := (blk_cell BK134.out 3).trans rfl; have hcz70_4 : w69.cell? ⟨gb134, 4, none⟩ = some (.int .u16 a1_4) := (blk_cell BK134.out 4).trans rfl; have hfz70_0 := blk_frozen BK134.out 0; have hfz70_1 := blk_frozen BK134.out 1; have hfz70_2 := blk_frozen BK134.out 2; have hfz70_3 := blk_frozen BK134.out 3; have hfz70_4 := blk_frozen BK134.out 4; have hcz71_0 : w69.cell? ⟨gb133, 0, none⟩ = some (.bool a0_0) := (blk_cell BK133.out 0).trans rfl; have hcz71_1 : w69.cell? ⟨gb133, 1, none⟩ = some (.int .i64 a0_1) := (blk_cell BK133.out 1).trans rfl; have hcz71_2 : w69.cell? ⟨gb133, 2, none⟩ = some (.int .u32 a0_2) := (blk_cell BK133.out 2).trans rfl; have hcz71_3 : w69.cell? ⟨gb133, 3, none⟩ = some (.int .i64 a0_3) := (blk_cell BK133.out 3).trans rfl; have hcz71_4 : w69.cell? ⟨gb133, 4, none⟩ = some (.int .u32 a0_4) := (blk_cell BK133.out 4).trans rfl; have hcz71_5 : w69.cell? ⟨gb133, 5, none⟩ = some (.int .i64 a0_5) := (blk_cell BK133.out 5).trans rfl; have hcz71_6 : w69.cell? ⟨gb133, 6, none⟩ = some (.int .u32 a0_6) := (blk_cell BK133.out 6).trans rfl; have hcz71_7 : w69.cell? ⟨gb133, 7, none⟩ = some (.int .u32 a0_7) := (blk_cell BK133.out 7).trans rfl; have hcz71_8 : w69.cell? ⟨gb133, 8, none⟩ = some (.int .u32 a0_8) := (blk_cell BK133.out 8).trans rfl; have hcz71_9 : w69.cell? ⟨gb133, 9, none⟩ = some (.int .u32 a0_9) := (blk_cell BK133.out 9).trans rfl; have hfz71_0 := blk_frozen BK133.out 0; have hfz71_1 := blk_frozen BK133.out 1; have hfz71_2 := blk_frozen BK133.out 2; have hfz71_3 := blk_frozen BK133.out 3; have hfz71_4 := blk_frozen BK133.out 4; have hfz71_5 := blk_frozen BK133.out 5; have hfz71_6 := blk_frozen BK133.out 6; have hfz71_7 := blk_frozen BK133.out 7; have hfz71_8 := blk_frozen BK133.out 8; have hfz71_9 := blk_frozen BK133.out 9) | (go_at_call 69; (with_reducible refine (waymarkref01_In.calls kj2 a1_1 a0_4 a0_5 true _ A20.out).mono ?_); rintro e w72 ⟨rfl, hb⟩; have n0_ := Aside0.mk (blk_below (g := gb133) (o := .cells #[.bool a0_0, .int .i64 a0_1, .int .u32 a0_2, .int .i64 a0_3, .int .u32 a0_4, .int .i64 a0_5, .int .u32 a0_6, .int .u32 a0_7, .int .u32 a0_8, .int .u32 a0_9] 33 (0, 0)) (by (with_reducible repeat (first | refine blk_drewN ?_ _ | refine blk_drew ?_ | refine blk_alloc ?_ _)); exact BK133.out) hb); have n1_ := Aside0.mk (blk_below (g := gb134) (o := .cells #[.int .u32 a1_0, .int .u32 a1_1, .int .u8 a1_2, .int .u16 a1_3, .int .u16 a1_4] 40 (0, 0)) (by (with_reducible repeat (first | refine blk_drewN ?_ _ | refine blk_drew ?_ | refine blk_alloc ?_ _)); exact BK134.out) hb); have n2_ := Aside0.mk (below_step (by repeat (first | (with_reducible first | exact HB.out | apply below_alloc | apply pw_below_drewN | apply below_drew1 | refine below_set ?_ GE133.out | refine below_set ?_ GE134.out) | exact HB.out)) hb); clear BK133; clear BK134; clear HB; have BK133 := n0_; have BK134 := n1_; have HB := n2_; clear n0_ n1_ n2_; (try clear hb); (try clear hb2); (try clear hk); (try clear hi); have hcz73_0 : w72.cell? ⟨gb133, 0, none⟩ = some (.bool a0_0) := (blk_cell BK133.out 0).trans rfl; have hcz73_1 : w72.cell? ⟨gb133, 1, none⟩ = some (.int .i64 a0_1) := (blk_cell BK133.out 1).trans rfl; have hcz73_2 : w72.cell? ⟨gb133, 2, none⟩ = some (.int .u32 a0_2) := (blk_cell BK133.out 2).trans rfl; have hcz73_3 : w72.cell? ⟨gb133, 3, none⟩ = some (.int .i64 a0_3) := (blk_cell BK133.out 3).trans rfl; have hcz73_4 : w72.cell? ⟨gb133, 4, none⟩ = some (.int .u32 a0_4) := (blk_cell BK133.out 4).trans rfl; have hcz73_5 : w72.cell? ⟨gb133, 5, none⟩ = some (.int .i64 a0_5) := (blk_cell BK133.out 5).trans rfl; have hcz73_6 : w72.cell? ⟨gb133, 6, none⟩ = some (.int .u32 a0_6) := (blk_cell BK133.out 6).trans rfl; have hcz73_7 : w72.cell? ⟨gb133, 7, none⟩ = some (.int .u32 a0_7) := (blk_cell BK133.out 7).trans rfl; have hcz73_8 : w72.cell? ⟨gb133, 8, none⟩ = some (.int .u32 a0_8) := (blk_cell BK133.out 8).trans rfl; have hcz73_9 : w72.cell? ⟨gb133, 9, none⟩ = some (.int .u32 a0_9) := (blk_cell BK133.out 9).trans rfl; have hfz73_0 := blk_frozen BK133.out 0; have hfz73_1 := blk_frozen BK133.out 1; have hfz73_2 := blk_frozen BK133.out 2; have hfz73_3 := blk_frozen BK133.out 3; have hfz73_4 := blk_frozen BK133.out 4; have hfz73_5 := blk_frozen BK133.out 5; have hfz73_6 := blk_frozen BK133.out 6; have hfz73_7 := blk_frozen BK133.out 7; have hfz73_8 := blk_frozen BK133.out 8; have hfz73_9 := blk_frozen BK133.out 9; have hcz74_0 : w72.cell? ⟨gb134, 0, none⟩ = some (.int .u32 a1_0) := (blk_cell BK134.out 0).trans rfl; have hcz74_1 : w72.cell? ⟨gb134, 1, none⟩ = some (.int .u32 a1_1) := (blk_cell BK134.out 1).trans rfl; have hcz74_2 : w72.cell? ⟨gb134, 2, none⟩ = some (.int .u8 a1_2) := (blk_cell BK134.out 2).trans rfl; have hcz74_3 : w72.cell? ⟨gb134, 3, none⟩ = some (.int .u16 a1_3) := (blk_cell BK134.out 3).trans rfl; have hcz74_4 : w72.cell? ⟨gb134, 4, none⟩ = some (.int .u16 a1_4) := (blk_cell BK134.out 4).trans rfl; have hfz74_0 := blk_frozen BK134.out 0; have hfz74_1 := blk_frozen BK134.out 1; have hfz74_2 := blk_frozen BK134.out 2; have hfz74_3 := blk_frozen BK134.out 3; have hfz74_4 := blk_frozen BK134.out 4))
           go_ret
           exact ⟨by first | rfl | (simp [errW_none, errW_some] <;> rfl) | (simp [*, errW_none, errW_some] <;> rfl), by repeat (first | (with_reducible first | exact HB.out | apply below_alloc | apply pw_below_drewN | apply below_drew1 | refine below_set ?_ GE133.out | refine below_set ?_ GE134.out) | exact HB.out)⟩
          ·rw [if_neg c65] at H
           have c65b0 : decide (a0_8 ≤ ((a1_4) % 4294967296)) = false := decide_eq_false c65
           clear c65
           obtain rfl := Option.some.inj H
           have hnb75 := NB134_133.out
           have hnc75 := NB133_134.out
           have hcz76_0 : wc.cell? ⟨gb134, 0, none⟩ = some (.int .u32 a1_0) := (blk_cell BK134.out 0).trans rfl
           have hcz76_1 : wc.cell? ⟨gb134, 1, none⟩ = some (.int .u32 a1_1) := (blk_cell BK134.out 1).trans rfl
           have hcz76_2 : wc.cell? ⟨gb134, 2, none⟩ = some (.int .u8 a1_2) := (blk_cell BK134.out 2).trans rfl
           have hcz76_3 : wc.cell? ⟨gb134, 3, none⟩ = some (.int .u16 a1_3) := (blk_cell BK134.out 3).trans rfl
           have hcz76_4 : wc.cell? ⟨gb134, 4, none⟩ = some (.int .u16 a1_4) := (blk_cell BK134.out 4).trans rfl
           have hfz76_0 := blk_frozen BK134.out 0
           have hfz76_1 := blk_frozen BK134.out 1
           have hfz76_2 := blk_frozen BK134.out 2
           have hfz76_3 := blk_frozen BK134.out 3
           have hfz76_4 := blk_frozen BK134.out 4
           have hcz77_0 : wc.cell? ⟨gb133, 0, none⟩ = some (.bool a0_0) := (blk_cell BK133.out 0).trans rfl
           have hcz77_1 : wc.cell? ⟨gb133, 1, none⟩ = some (.int .i64 a0_1) := (blk_cell BK133.out 1).trans rfl
           have hcz77_2 : wc.cell? ⟨gb133, 2, none⟩ = some (.int .u32 a0_2) := (blk_cell BK133.out 2).trans rfl
           have hcz77_3 : wc.cell? ⟨gb133, 3, none⟩ = some (.int .i64 a0_3) := (blk_cell BK133.out 3).trans rfl
           have hcz77_4 : wc.cell? ⟨gb133, 4, none⟩ = some (.int .u32 a0_4) := (blk_cell BK133.out 4).trans rfl
           have hcz77_5 : wc.cell? ⟨gb133, 5, none⟩ = some (.int .i64 a0_5) := (blk_cell BK133.out 5).trans rfl
           have hcz77_6 : wc.cell? ⟨gb133, 6, none⟩ = some (.int .u32 a0_6) := (blk_cell BK133.out 6).trans rfl
           have hcz77_7 : wc.cell? ⟨gb133, 7, none⟩ = some (.int .u32 a0_7) := (blk_cell BK133.out 7).trans rfl
           have hcz77_8 : wc.cell? ⟨gb133, 8, none⟩ = some (.int .u32 a0_8) := (blk_cell BK133.out 8).trans rfl
           have hcz77_9 : wc.cell? ⟨gb133, 9, none⟩ = some (.int .u32 a0_9) := (blk_cell BK133.out 9).trans rfl
           have hfz77_0 := blk_frozen BK133.out 0
           have hfz77_1 := blk_frozen BK133.out 1
           have hfz77_2 := blk_frozen BK133.out 2
           have hfz77_3 := blk_frozen BK133.out 3
           have hfz77_4 := blk_frozen BK133.out 4
           have hfz77_5 := blk_frozen BK133.out 5
           have hfz77_6 := blk_frozen BK133.out 6
           have hfz77_7 := blk_frozen BK133.out 7
           have hfz77_8 := blk_frozen BK133.out 8
           have hfz77_9 := blk_frozen BK133.out 9
           go_wp2_with (first | ((with_reducible refine gate_callee (f := 69) rfl ?_); refine goesL_ (some 19) rfl rfl Try.func69 (by kernel_rfl) rfl #[.int .u32 a1_0, .agg #[.int .u32 a0_2, .int .i64 a0_3]] rfl (by (try simp only [List.map_toArray, List.map_cons, List.map_nil]); first | done | rfl | (simp only [List.length_drop, List.length_take]; rfl)) ?_; (with_reducible refine (waymarkref01_In.calls kj2 a1_0 a0_2 a0_3 true _ A18.out).mono ?_); rintro e w78 ⟨rfl, hb⟩; refine ⟨_, rfl, ?_⟩; have n0_ := Aside0.mk (blk_below (g := gb133) (o := .cells #[.bool a0_0, .int .i64 a0_1, .int .u32 a0_2, .int .i64 a0_3, .int .u32 a0_4, .int .i64 a0_5, .int .u32 a0_6, .int .u32 a0_7, .int .u32 a0_8, .int .u32 a0_9] 33 (0, 0)) (by (with_reducible repeat (first | refine blk_drewN ?_ _ | refine blk_drew ?_ | refine blk_alloc ?_ _)); exact BK133.out) hb); have n1_ := Aside0.mk (blk_below (g := gb134) (o := .cells #[.int .u32 a1_0, .int .u32 a1_1, .int .u8 a1_2, .int .u16 a1_3, .int .u16 a1_4] 40 (0, 0)) (by (with_reducible repeat (first | refine blk_drewN ?_ _ | refine blk_drew ?_ | refine blk_alloc ?_ _)); exact BK134.out) hb); have n2_ := Aside0.mk (below_step (by repeat (first | (with_reducible first | exact HB.out | apply below_alloc | apply pw_below_drewN | apply below_drew1 | refine below_set ?_ GE133.out | refine below_set ?_ GE134.out) | exact HB.out)) hb); clear BK133; clear BK134; clear HB; have BK133 := n0_; have BK134 := n1_; have HB := n2_; clear n0_ n1_ n2_; (try clear hb); (try clear hb2); (try clear hk); (try clear hi); have hcz79_0 : w78.cell? ⟨gb134, 0, none⟩ = some (.int .u32 a1_0) := (blk_cell BK134.out 0).trans rfl; have hcz79_1 : w78.cell? ⟨gb134, 1, none⟩ = some (.int .u32 a1_1) := (blk_cell BK134.out 1).trans rfl; have hcz79_2 : w78.cell? ⟨gb134, 2, none⟩ = some (.int .u8 a1_2) := (blk_cell BK134.out 2).trans rfl; have hcz79_3 : w78.cell? ⟨gb134, 3, none⟩ = some (.int .u16 a1_3) := (blk_cell BK134.out 3).trans rfl; have hcz79_4 : w78.cell? ⟨gb134, 4, none⟩ = some (.int .u16 a1_4) := (blk_cell BK134.out 4).trans rfl; have hfz79_0 := blk_frozen BK134.out 0; have hfz79_1 := blk_frozen BK134.out 1; have hfz79_2 := blk_frozen BK134.out 2; have hfz79_3 := blk_frozen BK134.out 3; have hfz79_4 := blk_frozen BK134.out 4; have hcz80_0 : w78.cell? ⟨gb133, 0, none⟩ = some (.bool a0_0) := (blk_cell BK133.out 0).trans rfl; have hcz80_1 : w78.cell? ⟨gb133, 1, none⟩ = some (.int .i64 a0_1) := (blk_cell BK133.out 1).trans rfl; have hcz80_2 : w78.cell? ⟨gb133, 2, none⟩ = some (.int .u32 a0_2) := (blk_cell BK133.out 2).trans rfl; have hcz80_3 : w78.cell? ⟨gb133, 3, none⟩ = some (.int .i64 a0_3) := (blk_cell BK133.out 3).trans rfl; have hcz80_4 : w78.cell? ⟨gb133, 4, none⟩ = some (.int .u32 a0_4) := (blk_cell BK133.out 4).trans rfl; have hcz80_5 : w78.cell? ⟨gb133, 5, none⟩ = some (.int .i64 a0_5) := (blk_cell BK133.out 5).trans rfl; have hcz80_6 : w78.cell? ⟨gb133, 6, none⟩ = some (.int .u32 a0_6) := (blk_cell BK133.out 6).trans rfl; have hcz80_7 : w78.cell? ⟨gb133, 7, none⟩ = some (.int .u32 a0_7) := (blk_cell BK133.out 7).trans rfl; have hcz80_8 : w78.cell? ⟨gb133, 8, none⟩ = some (.int .u32 a0_8) := (blk_cell BK133.out 8).trans rfl; have hcz80_9 : w78.cell? ⟨gb133, 9, none⟩ = some (.int .u32 a0_9) := (blk_cell BK133.out 9).trans rfl; have hfz80_0 := blk_frozen BK133.out 0; have hfz80_1 := blk_frozen BK133.out 1; have hfz80_2 := blk_frozen BK133.out 2; have hfz80_3 := blk_frozen BK133.out 3; have hfz80_4 := blk_frozen BK133.out 4; have hfz80_5 := blk_frozen BK133.out 5; have hfz80_6 := blk_frozen BK133.out 6; have hfz80_7 := blk_frozen BK133.out 7; have hfz80_8 := blk_frozen BK133.out 8; have hfz80_9 := blk_frozen BK133.out 9) | (go_at_call 69; (with_reducible refine (waymarkref01_In.calls kj2 a1_1 a0_4 a0_5 true _ A20.out).mono ?_); rintro e w81 ⟨rfl, hb⟩; have n0_ := Aside0.mk (blk_below (g := gb133) (o := .cells #[.bool a0_0, .int .i64 a0_1, .int .u32 a0_2, .int .i64 a0_3, .int .u32 a0_4, .int .i64 a0_5, .int .u32 a0_6, .int .u32 a0_7, .int .u32 a0_8, .int .u32 a0_9] 33 (0, 0)) (by (with_reducible repeat (first | refine blk_drewN ?_ _ | refine blk_drew ?_ | refine blk_alloc ?_ _)); exact BK133.out) hb); have n1_ := Aside0.mk (blk_below (g := gb134) (o := .cells #[.int .u32 a1_0, .int .u32 a1_1, .int .u8 a1_2, .int .u16 a1_3, .int .u16 a1_4] 40 (0, 0)) (by (with_reducible repeat (first | refine blk_drewN ?_ _ | refine blk_drew ?_ | refine blk_alloc ?_ _)); exact BK134.out) hb); have n2_ := Aside0.mk (below_step (by repeat (first | (with_reducible first | exact HB.out | apply below_alloc | apply pw_below_drewN | apply below_drew1 | refine below_set ?_ GE133.out | refine below_set ?_ GE134.out) | exact HB.out)) hb); clear BK133; clear BK134; clear HB; have BK133 := n0_; have BK134 := n1_; have HB := n2_; clear n0_ n1_ n2_; (try clear hb); (try clear hb2); (try clear hk); (try clear hi); have hcz82_0 : w81.cell? ⟨gb133, 0, none⟩ = some (.bool a0_0) := (blk_cell BK133.out 0).trans rfl; have hcz82_1 : w81.cell? ⟨gb133, 1, none⟩ = some (.int .i64 a0_1) := (blk_cell BK133.out 1).trans rfl; have hcz82_2 : w81.cell? ⟨gb133, 2, none⟩ = some (.int .u32 a0_2) := (blk_cell BK133.out 2).trans rfl; have hcz82_3 : w81.cell? ⟨gb133, 3, none⟩ = some (.int .i64 a0_3) := (blk_cell BK133.out 3).trans rfl; have hcz82_4 : w81.cell? ⟨gb133, 4, none⟩ = some (.int .u32 a0_4) := (blk_cell BK133.out 4).trans rfl; have hcz82_5 : w81.cell? ⟨gb133, 5, none⟩ = some (.int .i64 a0_5) := (blk_cell BK133.out 5).trans rfl; have hcz82_6 : w81.cell? ⟨gb133, 6, none⟩ = some (.int .u32 a0_6) := (blk_cell BK133.out 6).trans rfl; have hcz82_7 : w81.cell? ⟨gb133, 7, none⟩ = some (.int .u32 a0_7) := (blk_cell BK133.out 7).trans rfl; have hcz82_8 : w81.cell? ⟨gb133, 8, none⟩ = some (.int .u32 a0_8) := (blk_cell BK133.out 8).trans rfl; have hcz82_9 : w81.cell? ⟨gb133, 9, none⟩ = some (.int .u32 a0_9) := (blk_cell BK133.out 9).trans rfl; have hfz82_0 := blk_frozen BK133.out 0; have hfz82_1 := blk_frozen BK133.out 1; have hfz82_2 := blk_frozen BK133.out 2; have hfz82_3 := blk_frozen BK133.out 3; have hfz82_4 := blk_frozen BK133.out 4; have hfz82_5 := blk_frozen BK133.out 5; have hfz82_6 := blk_frozen BK133.out 6; have hfz82_7 := blk_frozen BK133.out 7; have hfz82_8 := blk_frozen BK133.out 8; have hfz82_9 := blk_frozen BK133.out 9; have hcz83_0 : w81.cell? ⟨gb134, 0, none⟩ = some (.int .u32 a1_0) := (blk_cell BK134.out 0).trans rfl; have hcz83_1 : w81.cell? ⟨gb134, 1, none⟩ = some (.int .u32 a1_1) := (blk_cell BK134.out 1).trans rfl; have hcz83_2 : w81.cell? ⟨gb134, 2, none⟩ = some (.int .u8 a1_2) := (blk_cell BK134.out 2).trans rfl; have hcz83_3 : w81.cell? ⟨gb134, 3, none⟩ = some (.int .u16 a1_3) := (blk_cell BK134.out 3).trans rfl; have hcz83_4 : w81.cell? ⟨gb134, 4, none⟩ = some (.int .u16 a1_4) := (blk_cell BK134.out 4).trans rfl; have hfz83_0 := blk_frozen BK134.out 0; have hfz83_1 := blk_frozen BK134.out 1; have hfz83_2 := blk_frozen BK134.out 2; have hfz83_3 := blk_frozen BK134.out 3; have hfz83_4 := blk_frozen BK134.out 4))
           go_ret
           exact ⟨by first | rfl | (simp [errW_none, errW_some] <;> rfl) | (simp [*, errW_none, errW_some] <;> rfl), by repeat (first | (with_reducible first | exact HB.out | apply below_alloc | apply pw_below_drewN | apply below_drew1 | refine below_set ?_ GE133.out | refine below_set ?_ GE134.out) | exact HB.out)⟩
         ·rw [if_neg c64] at H
          have c64b0 : decide (((a1_3) % 4294967296) ≤ a0_7) = false := decide_eq_false c64
          clear c64
          obtain rfl := Option.some.inj H
          have hnb84 := NB134_133.out
          have hnc84 := NB133_134.out
          have hcz85_0 : wc.cell? ⟨gb134, 0, none⟩ = some (.int .u32 a1_0) := (blk_cell BK134.out 0).trans rfl
          have hcz85_1 : wc.cell? ⟨gb134, 1, none⟩ = some (.int .u32 a1_1) := (blk_cell BK134.out 1).trans rfl
          have hcz85_2 : wc.cell? ⟨gb134, 2, none⟩ = some (.int .u8 a1_2) := (blk_cell BK134.out 2).trans rfl
          have hcz85_3 : wc.cell? ⟨gb134, 3, none⟩ = some (.int .u16 a1_3) := (blk_cell BK134.out 3).trans rfl
          have hcz85_4 : wc.cell? ⟨gb134, 4, none⟩ = some (.int .u16 a1_4) := (blk_cell BK134.out 4).trans rfl
          have hfz85_0 := blk_frozen BK134.out 0
          have hfz85_1 := blk_frozen BK134.out 1
          have hfz85_2 := blk_frozen BK134.out 2
          have hfz85_3 := blk_frozen BK134.out 3
          have hfz85_4 := blk_frozen BK134.out 4
          have hcz86_0 : wc.cell? ⟨gb133, 0, none⟩ = some (.bool a0_0) := (blk_cell BK133.out 0).trans rfl
          have hcz86_1 : wc.cell? ⟨gb133, 1, none⟩ = some (.int .i64 a0_1) := (blk_cell BK133.out 1).trans rfl
          have hcz86_2 : wc.cell? ⟨gb133, 2, none⟩ = some (.int .u32 a0_2) := (blk_cell BK133.out 2).trans rfl
          have hcz86_3 : wc.cell? ⟨gb133, 3, none⟩ = some (.int .i64 a0_3) := (blk_cell BK133.out 3).trans rfl
          have hcz86_4 : wc.cell? ⟨gb133, 4, none⟩ = some (.int .u32 a0_4) := (blk_cell BK133.out 4).trans rfl
          have hcz86_5 : wc.cell? ⟨gb133, 5, none⟩ = some (.int .i64 a0_5) := (blk_cell BK133.out 5).trans rfl
          have hcz86_6 : wc.cell? ⟨gb133, 6, none⟩ = some (.int .u32 a0_6) := (blk_cell BK133.out 6).trans rfl
          have hcz86_7 : wc.cell? ⟨gb133, 7, none⟩ = some (.int .u32 a0_7) := (blk_cell BK133.out 7).trans rfl
          have hcz86_8 : wc.cell? ⟨gb133, 8, none⟩ = some (.int .u32 a0_8) := (blk_cell BK133.out 8).trans rfl
          have hcz86_9 : wc.cell? ⟨gb133, 9, none⟩ = some (.int .u32 a0_9) := (blk_cell BK133.out 9).trans rfl
          have hfz86_0 := blk_frozen BK133.out 0
          have hfz86_1 := blk_frozen BK133.out 1
          have hfz86_2 := blk_frozen BK133.out 2
          have hfz86_3 := blk_frozen BK133.out 3
          have hfz86_4 := blk_frozen BK133.out 4
          have hfz86_5 := blk_frozen BK133.out 5
          have hfz86_6 := blk_frozen BK133.out 6
          have hfz86_7 := blk_frozen BK133.out 7
          have hfz86_8 := blk_frozen BK133.out 8
          have hfz86_9 := blk_frozen BK133.out 9
          go_wp2_with (first | ((with_reducible refine gate_callee (f := 69) rfl ?_); refine goesL_ (some 19) rfl rfl Try.func69 (by kernel_rfl) rfl #[.int .u32 a1_0, .agg #[.int .u32 a0_2, .int .i64 a0_3]] rfl (by (try simp only [List.map_toArray, List.map_cons, List.map_nil]); first | done | rfl | (simp only [List.length_drop, List.length_take]; rfl)) ?_; (with_reducible refine (waymarkref01_In.calls kj2 a1_0 a0_2 a0_3 true _ A18.out).mono ?_); rintro e w87 ⟨rfl, hb⟩; refine ⟨_, rfl, ?_⟩; have n0_ := Aside0.mk (blk_below (g := gb133) (o := .cells #[.bool a0_0, .int .i64 a0_1, .int .u32 a0_2, .int .i64 a0_3, .int .u32 a0_4, .int .i64 a0_5, .int .u32 a0_6, .int .u32 a0_7, .int .u32 a0_8, .int .u32 a0_9] 33 (0, 0)) (by (with_reducible repeat (first | refine blk_drewN ?_ _ | refine blk_drew ?_ | refine blk_alloc ?_ _)); exact BK133.out) hb); have n1_ := Aside0.mk (blk_below (g := gb134) (o := .cells #[.int .u32 a1_0, .int .u32 a1_1, .int .u8 a1_2, .int .u16 a1_3, .int .u16 a1_4] 40 (0, 0)) (by (with_reducible repeat (first | refine blk_drewN ?_ _ | refine blk_drew ?_ | refine blk_alloc ?_ _)); exact BK134.out) hb); have n2_ := Aside0.mk (below_step (by repeat (first | (with_reducible first | exact HB.out | apply below_alloc | apply pw_below_drewN | apply below_drew1 | refine below_set ?_ GE133.out | refine below_set ?_ GE134.out) | exact HB.out)) hb); clear BK133; clear BK134; clear HB; have BK133 := n0_; have BK134 := n1_; have HB := n2_; clear n0_ n1_ n2_; (try clear hb); (try clear hb2); (try clear hk); (try clear hi); have hcz88_0 : w87.cell? ⟨gb134, 0, none⟩ = some (.int .u32 a1_0) := (blk_cell BK134.out 0).trans rfl; have hcz88_1 : w87.cell? ⟨gb134, 1, none⟩ = some (.int .u32 a1_1) := (blk_cell BK134.out 1).trans rfl; have hcz88_2 : w87.cell? ⟨gb134, 2, none⟩ = some (.int .u8 a1_2) := (blk_cell BK134.out 2).trans rfl; have hcz88_3 : w87.cell? ⟨gb134, 3, none⟩ = some (.int .u16 a1_3) := (blk_cell BK134.out 3).trans rfl; have hcz88_4 : w87.cell? ⟨gb134, 4, none⟩ = some (.int .u16 a1_4) := (blk_cell BK134.out 4).trans rfl; have hfz88_0 := blk_frozen BK134.out 0; have hfz88_1 := blk_frozen BK134.out 1; have hfz88_2 := blk_frozen BK134.out 2; have hfz88_3 := blk_frozen BK134.out 3; have hfz88_4 := blk_frozen BK134.out 4; have hcz89_0 : w87.cell? ⟨gb133, 0, none⟩ = some (.bool a0_0) := (blk_cell BK133.out 0).trans rfl; have hcz89_1 : w87.cell? ⟨gb133, 1, none⟩ = some (.int .i64 a0_1) := (blk_cell BK133.out 1).trans rfl; have hcz89_2 : w87.cell? ⟨gb133, 2, none⟩ = some (.int .u32 a0_2) := (blk_cell BK133.out 2).trans rfl; have hcz89_3 : w87.cell? ⟨gb133, 3, none⟩ = some (.int .i64 a0_3) := (blk_cell BK133.out 3).trans rfl; have hcz89_4 : w87.cell? ⟨gb133, 4, none⟩ = some (.int .u32 a0_4) := (blk_cell BK133.out 4).trans rfl; have hcz89_5 : w87.cell? ⟨gb133, 5, none⟩ = some (.int .i64 a0_5) := (blk_cell BK133.out 5).trans rfl; have hcz89_6 : w87.cell? ⟨gb133, 6, none⟩ = some (.int .u32 a0_6) := (blk_cell BK133.out 6).trans rfl; have hcz89_7 : w87.cell? ⟨gb133, 7, none⟩ = some (.int .u32 a0_7) := (blk_cell BK133.out 7).trans rfl; have hcz89_8 : w87.cell? ⟨gb133, 8, none⟩ = some (.int .u32 a0_8) := (blk_cell BK133.out 8).trans rfl; have hcz89_9 : w87.cell? ⟨gb133, 9, none⟩ = some (.int .u32 a0_9) := (blk_cell BK133.out 9).trans rfl; have hfz89_0 := blk_frozen BK133.out 0; have hfz89_1 := blk_frozen BK133.out 1; have hfz89_2 := blk_frozen BK133.out 2; have hfz89_3 := blk_frozen BK133.out 3; have hfz89_4 := blk_frozen BK133.out 4; have hfz89_5 := blk_frozen BK133.out 5; have hfz89_6 := blk_frozen BK133.out 6; have hfz89_7 := blk_frozen BK133.out 7; have hfz89_8 := blk_frozen BK133.out 8; have hfz89_9 := blk_frozen BK133.out 9) | (go_at_call 69; (with_reducible refine (waymarkref01_In.calls kj2 a1_1 a0_4 a0_5 true _ A20.out).mono ?_); rintro e w90 ⟨rfl, hb⟩; have n0_ := Aside0.mk (blk_below (g := gb133) (o := .cells #[.bool a0_0, .int .i64 a0_1, .int .u32 a0_2, .int .i64 a0_3, .int .u32 a0_4, .int .i64 a0_5, .int .u32 a0_6, .int .u32 a0_7, .int .u32 a0_8, .int .u32 a0_9] 33 (0, 0)) (by (with_reducible repeat (first | refine blk_drewN ?_ _ | refine blk_drew ?_ | refine blk_alloc ?_ _)); exact BK133.out) hb); have n1_ := Aside0.mk (blk_below (g := gb134) (o := .cells #[.int .u32 a1_0, .int .u32 a1_1, .int .u8 a1_2, .int .u16 a1_3, .int .u16 a1_4] 40 (0, 0)) (by (with_reducible repeat (first | refine blk_drewN ?_ _ | refine blk_drew ?_ | refine blk_alloc ?_ _)); exact BK134.out) hb); have n2_ := Aside0.mk (below_step (by repeat (first | (with_reducible first | exact HB.out | apply below_alloc | apply pw_below_drewN | apply below_drew1 | refine below_set ?_ GE133.out | refine below_set ?_ GE134.out) | exact HB.out)) hb); clear BK133; clear BK134; clear HB; have BK133 := n0_; have BK134 := n1_; have HB := n2_; clear n0_ n1_ n2_; (try clear hb); (try clear hb2); (try clear hk); (try clear hi); have hcz91_0 : w90.cell? ⟨gb133, 0, none⟩ = some (.bool a0_0) := (blk_cell BK133.out 0).trans rfl; have hcz91_1 : w90.cell? ⟨gb133, 1, none⟩ = some (.int .i64 a0_1) := (blk_cell BK133.out 1).trans rfl; have hcz91_2 : w90.cell? ⟨gb133, 2, none⟩ = some (.int .u32 a0_2) := (blk_cell BK133.out 2).trans rfl; have hcz91_3 : w90.cell? ⟨gb133, 3, none⟩ = some (.int .i64 a0_3) := (blk_cell BK133.out 3).trans rfl; have hcz91_4 : w90.cell? ⟨gb133, 4, none⟩ = some (.int .u32 a0_4) := (blk_cell BK133.out 4).trans rfl; have hcz91_5 : w90.cell? ⟨gb133, 5, none⟩ = some (.int .i64 a0_5) := (blk_cell BK133.out 5).trans rfl; have hcz91_6 : w90.cell? ⟨gb133, 6, none⟩ = some (.int .u32 a0_6) := (blk_cell BK133.out 6).trans rfl; have hcz91_7 : w90.cell? ⟨gb133, 7, none⟩ = some (.int .u32 a0_7) := (blk_cell BK133.out 7).trans rfl; have hcz91_8 : w90.cell? ⟨gb133, 8, none⟩ = some (.int .u32 a0_8) := (blk_cell BK133.out 8).trans rfl; have hcz91_9 : w90.cell? ⟨gb133, 9, none⟩ = some (.int .u32 a0_9) := (blk_cell BK133.out 9).trans rfl; have hfz91_0 := blk_frozen BK133.out 0; have hfz91_1 := blk_frozen BK133.out 1; have hfz91_2 := blk_frozen BK133.out 2; have hfz91_3 := blk_frozen BK133.out 3; have hfz91_4 := blk_frozen BK133.out 4; have hfz91_5 := blk_frozen BK133.out 5; have hfz91_6 := blk_frozen BK133.out 6; have hfz91_7 := blk_frozen BK133.out 7; have hfz91_8 := blk_frozen BK133.out 8; have hfz91_9 := blk_frozen BK133.out 9; have hcz92_0 : w90.cell? ⟨gb134, 0, none⟩ = some (.int .u32 a1_0) := (blk_cell BK134.out 0).trans rfl; have hcz92_1 : w90.cell? ⟨gb134, 1, none⟩ = some (.int .u32 a1_1) := (blk_cell BK134.out 1).trans rfl; have hcz92_2 : w90.cell? ⟨gb134, 2, none⟩ = some (.int .u8 a1_2) := (blk_cell BK134.out 2).trans rfl; have hcz92_3 : w90.cell? ⟨gb134, 3, none⟩ = some (.int .u16 a1_3) := (blk_cell BK134.out 3).trans rfl; have hcz92_4 : w90.cell? ⟨gb134, 4, none⟩ = some (.int .u16 a1_4) := (blk_cell BK134.out 4).trans rfl; have hfz92_0 := blk_frozen BK134.out 0; have hfz92_1 := blk_frozen BK134.out 1; have hfz92_2 := blk_frozen BK134.out 2; have hfz92_3 := blk_frozen BK134.out 3; have hfz92_4 := blk_frozen BK134.out 4))
          go_ret
          exact ⟨by first | rfl | (simp [errW_none, errW_some] <;> rfl) | (simp [*, errW_none, errW_some] <;> rfl), by repeat (first | (with_reducible first | exact HB.out | apply below_alloc | apply pw_below_drewN | apply below_drew1 | refine below_set ?_ GE133.out | refine below_set ?_ GE134.out) | exact HB.out)⟩
        ·rw [if_neg c63] at H
         have c63b0 : decide (a0_6 ≤ ((a1_3) % 4294967296)) = false := decide_eq_false c63
         clear c63
         obtain rfl := Option.some.inj H
         have hnb93 := NB134_133.out
         have hnc93 := NB133_134.out
         have hcz94_0 : wc.cell? ⟨gb134, 0, none⟩ = some (.int .u32 a1_0) := (blk_cell BK134.out 0).trans rfl
         have hcz94_1 : wc.cell? ⟨gb134, 1, none⟩ = some (.int .u32 a1_1) := (blk_cell BK134.out 1).trans rfl
         have hcz94_2 : wc.cell? ⟨gb134, 2, none⟩ = some (.int .u8 a1_2) := (blk_cell BK134.out 2).trans rfl
         have hcz94_3 : wc.cell? ⟨gb134, 3, none⟩ = some (.int .u16 a1_3) := (blk_cell BK134.out 3).trans rfl
         have hcz94_4 : wc.cell? ⟨gb134, 4, none⟩ = some (.int .u16 a1_4) := (blk_cell BK134.out 4).trans rfl
         have hfz94_0 := blk_frozen BK134.out 0
         have hfz94_1 := blk_frozen BK134.out 1
         have hfz94_2 := blk_frozen BK134.out 2
         have hfz94_3 := blk_frozen BK134.out 3
         have hfz94_4 := blk_frozen BK134.out 4
         have hcz95_0 : wc.cell? ⟨gb133, 0, none⟩ = some (.bool a0_0) := (blk_cell BK133.out 0).trans rfl
         have hcz95_1 : wc.cell? ⟨gb133, 1, none⟩ = some (.int .i64 a0_1) := (blk_cell BK133.out 1).trans rfl
         have hcz95_2 : wc.cell? ⟨gb133, 2, none⟩ = some (.int .u32 a0_2) := (blk_cell BK133.out 2).trans rfl
         have hcz95_3 : wc.cell? ⟨gb133, 3, none⟩ = some (.int .i64 a0_3) := (blk_cell BK133.out 3).trans rfl
         have hcz95_4 : wc.cell? ⟨gb133, 4, none⟩ = some (.int .u32 a0_4) := (blk_cell BK133.out 4).trans rfl
         have hcz95_5 : wc.cell? ⟨gb133, 5, none⟩ = some (.int .i64 a0_5) := (blk_cell BK133.out 5).trans rfl
         have hcz95_6 : wc.cell? ⟨gb133, 6, none⟩ = some (.int .u32 a0_6) := (blk_cell BK133.out 6).trans rfl
         have hcz95_7 : wc.cell? ⟨gb133, 7, none⟩ = some (.int .u32 a0_7) := (blk_cell BK133.out 7).trans rfl
         have hcz95_8 : wc.cell? ⟨gb133, 8, none⟩ = some (.int .u32 a0_8) := (blk_cell BK133.out 8).trans rfl
         have hcz95_9 : wc.cell? ⟨gb133, 9, none⟩ = some (.int .u32 a0_9) := (blk_cell BK133.out 9).trans rfl
         have hfz95_0 := blk_frozen BK133.out 0
         have hfz95_1 := blk_frozen BK133.out 1
         have hfz95_2 := blk_frozen BK133.out 2
         have hfz95_3 := blk_frozen BK133.out 3
         have hfz95_4 := blk_frozen BK133.out 4
         have hfz95_5 := blk_frozen BK133.out 5
         have hfz95_6 := blk_frozen BK133.out 6
         have hfz95_7 := blk_frozen BK133.out 7
         have hfz95_8 := blk_frozen BK133.out 8
         have hfz95_9 := blk_frozen BK133.out 9
         go_wp2_with (first | ((with_reducible refine gate_callee (f := 69) rfl ?_); refine goesL_ (some 19) rfl rfl Try.func69 (by kernel_rfl) rfl #[.int .u32 a1_0, .agg #[.int .u32 a0_2, .int .i64 a0_3]] rfl (by (try simp only [List.map_toArray, List.map_cons, List.map_nil]); first | done | rfl | (simp only [List.length_drop, List.length_take]; rfl)) ?_; (with_reducible refine (waymarkref01_In.calls kj2 a1_0 a0_2 a0_3 true _ A18.out).mono ?_); rintro e w96 ⟨rfl, hb⟩; refine ⟨_, rfl, ?_⟩; have n0_ := Aside0.mk (blk_below (g := gb133) (o := .cells #[.bool a0_0, .int .i64 a0_1, .int .u32 a0_2, .int .i64 a0_3, .int .u32 a0_4, .int .i64 a0_5, .int .u32 a0_6, .int .u32 a0_7, .int .u32 a0_8, .int .u32 a0_9] 33 (0, 0)) (by (with_reducible repeat (first | refine blk_drewN ?_ _ | refine blk_drew ?_ | refine blk_alloc ?_ _)); exact BK133.out) hb); have n1_ := Aside0.mk (blk_below (g := gb134) (o := .cells #[.int .u32 a1_0, .int .u32 a1_1, .int .u8 a1_2, .int .u16 a1_3, .int .u16 a1_4] 40 (0, 0)) (by (with_reducible repeat (first | refine blk_drewN ?_ _ | refine blk_drew ?_ | refine blk_alloc ?_ _)); exact BK134.out) hb); have n2_ := Aside0.mk (below_step (by repeat (first | (with_reducible first | exact HB.out | apply below_alloc | apply pw_below_drewN | apply below_drew1 | refine below_set ?_ GE133.out | refine below_set ?_ GE134.out) | exact HB.out)) hb); clear BK133; clear BK134; clear HB; have BK133 := n0_; have BK134 := n1_; have HB := n2_; clear n0_ n1_ n2_; (try clear hb); (try clear hb2); (try clear hk); (try clear hi); have hcz97_0 : w96.cell? ⟨gb134, 0, none⟩ = some (.int .u32 a1_0) := (blk_cell BK134.out 0).trans rfl; have hcz97_1 : w96.cell? ⟨gb134, 1, none⟩ = some (.int .u32 a1_1) := (blk_cell BK134.out 1).trans rfl; have hcz97_2 : w96.cell? ⟨gb134, 2, none⟩ = some (.int .u8 a1_2) := (blk_cell BK134.out 2).trans rfl; have hcz97_3 : w96.cell? ⟨gb134, 3, none⟩ = some (.int .u16 a1_3) := (blk_cell BK134.out 3).trans rfl; have hcz97_4 : w96.cell? ⟨gb134, 4, none⟩ = some (.int .u16 a1_4) := (blk_cell BK134.out 4).trans rfl; have hfz97_0 := blk_frozen BK134.out 0; have hfz97_1 := blk_frozen BK134.out 1; have hfz97_2 := blk_frozen BK134.out 2; have hfz97_3 := blk_frozen BK134.out 3; have hfz97_4 := blk_frozen BK134.out 4; have hcz98_0 : w96.cell? ⟨gb133, 0, none⟩ = some (.bool a0_0) := (blk_cell BK133.out 0).trans rfl; have hcz98_1 : w96.cell? ⟨gb133, 1, none⟩ = some (.int .i64 a0_1) := (blk_cell BK133.out 1).trans rfl; have hcz98_2 : w96.cell? ⟨gb133, 2, none⟩ = some (.int .u32 a0_2) := (blk_cell BK133.out 2).trans rfl; have hcz98_3 : w96.cell? ⟨gb133, 3, none⟩ = some (.int .i64 a0_3) := (blk_cell BK133.out 3).trans rfl; have hcz98_4 : w96.cell? ⟨gb133, 4, none⟩ = some (.int .u32 a0_4) := (blk_cell BK133.out 4).trans rfl; have hcz98_5 : w96.cell? ⟨gb133, 5, none⟩ = some (.int .i64 a0_5) := (blk_cell BK133.out 5).trans rfl; have hcz98_6 : w96.cell? ⟨gb133, 6, none⟩ = some (.int .u32 a0_6) := (blk_cell BK133.out 6).trans rfl; have hcz98_7 : w96.cell? ⟨gb133, 7, none⟩ = some (.int .u32 a0_7) := (blk_cell BK133.out 7).trans rfl; have hcz98_8 : w96.cell? ⟨gb133, 8, none⟩ = some (.int .u32 a0_8) := (blk_cell BK133.out 8).trans rfl; have hcz98_9 : w96.cell? ⟨gb133, 9, none⟩ = some (.int .u32 a0_9) := (blk_cell BK133.out 9).trans rfl; have hfz98_0 := blk_frozen BK133.out 0; have hfz98_1 := blk_frozen BK133.out 1; have hfz98_2 := blk_frozen BK133.out 2; have hfz98_3 := blk_frozen BK133.out 3; have hfz98_4 := blk_frozen BK133.out 4; have hfz98_5 := blk_frozen BK133.out 5; have hfz98_6 := blk_frozen BK133.out 6; have hfz98_7 := blk_frozen BK133.out 7; have hfz98_8 := blk_frozen BK133.out 8; have hfz98_9 := blk_frozen BK133.out 9) | (go_at_call 69; (with_reducible refine (waymarkref01_In.calls kj2 a1_1 a0_4 a0_5 true _ A20.out).mono ?_); rintro e w99 ⟨rfl, hb⟩; have n0_ := Aside0.mk (blk_below (g := gb133) (o := .cells #[.bool a0_0, .int .i64 a0_1, .int .u32 a0_2, .int .i64 a0_3, .int .u32 a0_4, .int .i64 a0_5, .int .u32 a0_6, .int .u32 a0_7, .int .u32 a0_8, .int .u32 a0_9] 33 (0, 0)) (by (with_reducible repeat (first | refine blk_drewN ?_ _ | refine blk_drew ?_ | refine blk_alloc ?_ _)); exact BK133.out) hb); have n1_ := Aside0.mk (blk_below (g := gb134) (o := .cells #[.int .u32 a1_0, .int .u32 a1_1, .int .u8 a1_2, .int .u16 a1_3, .int .u16 a1_4] 40 (0, 0)) (by (with_reducible repeat (first | refine blk_drewN ?_ _ | refine blk_drew ?_ | refine blk_alloc ?_ _)); exact BK134.out) hb); have n2_ := Aside0.mk (below_step (by repeat (first | (with_reducible first | exact HB.out | apply below_alloc | apply pw_below_drewN | apply below_drew1 | refine below_set ?_ GE133.out | refine below_set ?_ GE134.out) | exact HB.out)) hb); clear BK133; clear BK134; clear HB; have BK133 := n0_; have BK134 := n1_; have HB := n2_; clear n0_ n1_ n2_; (try clear hb); (try clear hb2); (try clear hk); (try clear hi); have hcz100_0 : w99.cell? ⟨gb133, 0, none⟩ = some (.bool a0_0) := (blk_cell BK133.out 0).trans rfl; have hcz100_1 : w99.cell? ⟨gb133, 1, none⟩ = some (.int .i64 a0_1) := (blk_cell BK133.out 1).trans rfl; have hcz100_2 : w99.cell? ⟨gb133, 2, none⟩ = some (.int .u32 a0_2) := (blk_cell BK133.out 2).trans rfl; have hcz100_3 : w99.cell? ⟨gb133, 3, none⟩ = some (.int .i64 a0_3) := (blk_cell BK133.out 3).trans rfl; have hcz100_4 : w99.cell? ⟨gb133, 4, none⟩ = some (.int .u32 a0_4) := (blk_cell BK133.out 4).trans rfl; have hcz100_5 : w99.cell? ⟨gb133, 5, none⟩ = some (.int .i64 a0_5) := (blk_cell BK133.out 5).trans rfl; have hcz100_6 : w99.cell? ⟨gb133, 6, none⟩ = some (.int .u32 a0_6) := (blk_cell BK133.out 6).trans rfl; have hcz100_7 : w99.cell? ⟨gb133, 7, none⟩ = some (.int .u32 a0_7) := (blk_cell BK133.out 7).trans rfl; have hcz100_8 : w99.cell? ⟨gb133, 8, none⟩ = some (.int .u32 a0_8) := (blk_cell BK133.out 8).trans rfl; have hcz100_9 : w99.cell? ⟨gb133, 9, none⟩ = some (.int .u32 a0_9) := (blk_cell BK133.out 9).trans rfl; have hfz100_0 := blk_frozen BK133.out 0; have hfz100_1 := blk_frozen BK133.out 1; have hfz100_2 := blk_frozen BK133.out 2; have hfz100_3 := blk_frozen BK133.out 3; have hfz100_4 := blk_frozen BK133.out 4; have hfz100_5 := blk_frozen BK133.out 5; have hfz100_6 := blk_frozen BK133.out 6; have hfz100_7 := blk_frozen BK133.out 7; have hfz100_8 := blk_frozen BK133.out 8; have hfz100_9 := blk_frozen BK133.out 9; have hcz101_0 : w99.cell? ⟨gb134, 0, none⟩ = some (.int .u32 a1_0) := (blk_cell BK134.out 0).trans rfl; have hcz101_1 : w99.cell? ⟨gb134, 1, none⟩ = some (.int .u32 a1_1) := (blk_cell BK134.out 1).trans rfl; have hcz101_2 : w99.cell? ⟨gb134, 2, none⟩ = some (.int .u8 a1_2) := (blk_cell BK134.out 2).trans rfl; have hcz101_3 : w99.cell? ⟨gb134, 3, none⟩ = some (.int .u16 a1_3) := (blk_cell BK134.out 3).trans rfl; have hcz101_4 : w99.cell? ⟨gb134, 4, none⟩ = some (.int .u16 a1_4) := (blk_cell BK134.out 4).trans rfl; have hfz101_0 := blk_frozen BK134.out 0; have hfz101_1 := blk_frozen BK134.out 1; have hfz101_2 := blk_frozen BK134.out 2; have hfz101_3 := blk_frozen BK134.out 3; have hfz101_4 := blk_frozen BK134.out 4))
         go_ret
         exact ⟨by first | rfl | (simp [errW_none, errW_some] <;> rfl) | (simp [*, errW_none, errW_some] <;> rfl), by repeat (first | (with_reducible first | exact HB.out | apply below_alloc | apply pw_below_drewN | apply below_drew1 | refine below_set ?_ GE133.out | refine below_set ?_ GE134.out) | exact HB.out)⟩
       ·rw [if_neg c62] at H
        have c62b0 : (a0_1 == (wrap64 (a1_2))) = false := beq_eq_false_iff_ne.mpr c62
        have c62b1 : (a0_1 != (wrap64 (a1_2))) = true := bne_iff_ne.mpr c62
        obtain rfl := Option.some.inj H
        have hnb102 := NB134_133.out
        have hnc102 := NB133_134.out
        have hcz103_0 : wc.cell? ⟨gb134, 0, none⟩ = some (.int .u32 a1_0) := (blk_cell BK134.out 0).trans rfl
        have hcz103_1 : wc.cell? ⟨gb134, 1, none⟩ = some (.int .u32 a1_1) := (blk_cell BK134.out 1).trans rfl
        have hcz103_2 : wc.cell? ⟨gb134, 2, none⟩ = some (.int .u8 a1_2) := (blk_cell BK134.out 2).trans rfl
        have hcz103_3 : wc.cell? ⟨gb134, 3, none⟩ = some (.int .u16 a1_3) := (blk_cell BK134.out 3).trans rfl
        have hcz103_4 : wc.cell? ⟨gb134, 4, none⟩ = some (.int .u16 a1_4) := (blk_cell BK134.out 4).trans rfl
        have hfz103_0 := blk_frozen BK134.out 0
        have hfz103_1 := blk_frozen BK134.out 1
        have hfz103_2 := blk_frozen BK134.out 2
        have hfz103_3 := blk_frozen BK134.out 3
        have hfz103_4 := blk_frozen BK134.out 4
        have hcz104_0 : wc.cell? ⟨gb133, 0, none⟩ = some (.bool a0_0) := (blk_cell BK133.out 0).trans rfl
        have hcz104_1 : wc.cell? ⟨gb133, 1, none⟩ = some (.int .i64 a0_1) := (blk_cell BK133.out 1).trans rfl
        have hcz104_2 : wc.cell? ⟨gb133, 2, none⟩ = some (.int .u32 a0_2) := (blk_cell BK133.out 2).trans rfl
        have hcz104_3 : wc.cell? ⟨gb133, 3, none⟩ = some (.int .i64 a0_3) := (blk_cell BK133.out 3).trans rfl
        have hcz104_4 : wc.cell? ⟨gb133, 4, none⟩ = some (.int .u32 a0_4) := (blk_cell BK133.out 4).trans rfl
        have hcz104_5 : wc.cell? ⟨gb133, 5, none⟩ = some (.int .i64 a0_5) := (blk_cell BK133.out 5).trans rfl
        have hcz104_6 : wc.cell? ⟨gb133, 6, none⟩ = some (.int .u32 a0_6) := (blk_cell BK133.out 6).trans rfl
        have hcz104_7 : wc.cell? ⟨gb133, 7, none⟩ = some (.int .u32 a0_7) := (blk_cell BK133.out 7).trans rfl
        have hcz104_8 : wc.cell? ⟨gb133, 8, none⟩ = some (.int .u32 a0_8) := (blk_cell BK133.out 8).trans rfl
        have hcz104_9 : wc.cell? ⟨gb133, 9, none⟩ = some (.int .u32 a0_9) := (blk_cell BK133.out 9).trans rfl
        have hfz104_0 := blk_frozen BK133.out 0
        have hfz104_1 := blk_frozen BK133.out 1
        have hfz104_2 := blk_frozen BK133.out 2
        have hfz104_3 := blk_frozen BK133.out 3
        have hfz104_4 := blk_frozen BK133.out 4
        have hfz104_5 := blk_frozen BK133.out 5
        have hfz104_6 := blk_frozen BK133.out 6
        have hfz104_7 := blk_frozen BK133.out 7
        have hfz104_8 := blk_frozen BK133.out 8
        have hfz104_9 := blk_frozen BK133.out 9
        go_wp2_with (first | ((with_reducible refine gate_callee (f := 69) rfl ?_); refine goesL_ (some 19) rfl rfl Try.func69 (by kernel_rfl) rfl #[.int .u32 a1_0, .agg #[.int .u32 a0_2, .int .i64 a0_3]] rfl (by (try simp only [List.map_toArray, List.map_cons, List.map_nil]); first | done | rfl | (simp only [List.length_drop, List.length_take]; rfl)) ?_; (with_reducible refine (waymarkref01_In.calls kj2 a1_0 a0_2 a0_3 true _ A18.out).mono ?_); rintro e w105 ⟨rfl, hb⟩; refine ⟨_, rfl, ?_⟩; have n0_ := Aside0.mk (blk_below (g := gb133) (o := .cells #[.bool a0_0, .int .i64 a0_1, .int .u32 a0_2, .int .i64 a0_3, .int .u32 a0_4, .int .i64 a0_5, .int .u32 a0_6, .int .u32 a0_7, .int .u32 a0_8, .int .u32 a0_9] 33 (0, 0)) (by (with_reducible repeat (first | refine blk_drewN ?_ _ | refine blk_drew ?_ | refine blk_alloc ?_ _)); exact BK133.out) hb); have n1_ := Aside0.mk (blk_below (g := gb134) (o := .cells #[.int .u32 a1_0, .int .u32 a1_1, .int .u8 a1_2, .int .u16 a1_3, .int .u16 a1_4] 40 (0, 0)) (by (with_reducible repeat (first | refine blk_drewN ?_ _ | refine blk_drew ?_ | refine blk_alloc ?_ _)); exact BK134.out) hb); have n2_ := Aside0.mk (below_step (by repeat (first | (with_reducible first | exact HB.out | apply below_alloc | apply pw_below_drewN | apply below_drew1 | refine below_set ?_ GE133.out | refine below_set ?_ GE134.out) | exact HB.out)) hb); clear BK133; clear BK134; clear HB; have BK133 := n0_; have BK134 := n1_; have HB := n2_; clear n0_ n1_ n2_; (try clear hb); (try clear hb2); (try clear hk); (try clear hi); have hcz106_0 : w105.cell? ⟨gb134, 0, none⟩ = some (.int .u32 a1_0) := (blk_cell BK134.out 0).trans rfl; have hcz106_1 : w105.cell? ⟨gb134, 1, none⟩ = some (.int .u32 a1_1) := (blk_cell BK134.out 1).trans rfl; have hcz106_2 : w105.cell? ⟨gb134, 2, none⟩ = some (.int .u8 a1_2) := (blk_cell BK134.out 2).trans rfl; have hcz106_3 : w105.cell? ⟨gb134, 3, none⟩ = some (.int .u16 a1_3) := (blk_cell BK134.out 3).trans rfl; have hcz106_4 : w105.cell? ⟨gb134, 4, none⟩ = some (.int .u16 a1_4) := (blk_cell BK134.out 4).trans rfl; have hfz106_0 := blk_frozen BK134.out 0; have hfz106_1 := blk_frozen BK134.out 1; have hfz106_2 := blk_frozen BK134.out 2; have hfz106_3 := blk_frozen BK134.out 3; have hfz106_4 := blk_frozen BK134.out 4; have hcz107_0 : w105.cell? ⟨gb133, 0, none⟩ = some (.bool a0_0) := (blk_cell BK133.out 0).trans rfl; have hcz107_1 : w105.cell? ⟨gb133, 1, none⟩ = some (.int .i64 a0_1) := (blk_cell BK133.out 1).trans rfl; have hcz107_2 : w105.cell? ⟨gb133, 2, none⟩ = some (.int .u32 a0_2) := (blk_cell BK133.out 2).trans rfl; have hcz107_3 : w105.cell? ⟨gb133, 3, none⟩ = some (.int .i64 a0_3) := (blk_cell BK133.out 3).trans rfl; have hcz107_4 : w105.cell? ⟨gb133, 4, none⟩ = some (.int .u32 a0_4) := (blk_cell BK133.out 4).trans rfl; have hcz107_5 : w105.cell? ⟨gb133, 5, none⟩ = some (.int .i64 a0_5) := (blk_cell BK133.out 5).trans rfl; have hcz107_6 : w105.cell? ⟨gb133, 6, none⟩ = some (.int .u32 a0_6) := (blk_cell BK133.out 6).trans rfl; have hcz107_7 : w105.cell? ⟨gb133, 7, none⟩ = some (.int .u32 a0_7) := (blk_cell BK133.out 7).trans rfl; have hcz107_8 : w105.cell? ⟨gb133, 8, none⟩ = some (.int .u32 a0_8) := (blk_cell BK133.out 8).trans rfl; have hcz107_9 : w105.cell? ⟨gb133, 9, none⟩ = some (.int .u32 a0_9) := (blk_cell BK133.out 9).trans rfl; have hfz107_0 := blk_frozen BK133.out 0; have hfz107_1 := blk_frozen BK133.out 1; have hfz107_2 := blk_frozen BK133.out 2; have hfz107_3 := blk_frozen BK133.out 3; have hfz107_4 := blk_frozen BK133.out 4; have hfz107_5 := blk_frozen BK133.out 5; have hfz107_6 := blk_frozen BK133.out 6; have hfz107_7 := blk_frozen BK133.out 7; have hfz107_8 := blk_frozen BK133.out 8; have hfz107_9 := blk_frozen BK133.out 9) | (go_at_call 69; (with_reducible refine (waymarkref01_In.calls kj2 a1_1 a0_4 a0_5 true _ A20.out).mono ?_); rintro e w108 ⟨rfl, hb⟩; have n0_ := Aside0.mk (blk_below (g := gb133) (o := .cells #[.bool a0_0, .int .i64 a0_1, .int .u32 a0_2, .int .i64 a0_3, .int .u32 a0_4, .int .i64 a0_5, .int .u32 a0_6, .int .u32 a0_7, .int .u32 a0_8, .int .u32 a0_9] 33 (0, 0)) (by (with_reducible repeat (first | refine blk_drewN ?_ _ | refine blk_drew ?_ | refine blk_alloc ?_ _)); exact BK133.out) hb); have n1_ := Aside0.mk (blk_below (g := gb134) (o := .cells #[.int .u32 a1_0, .int .u32 a1_1, .int .u8 a1_2, .int .u16 a1_3, .int .u16 a1_4] 40 (0, 0)) (by (with_reducible repeat (first | refine blk_drewN ?_ _ | refine blk_drew ?_ | refine blk_alloc ?_ _)); exact BK134.out) hb); have n2_ := Aside0.mk (below_step (by repeat (first | (with_reducible first | exact HB.out | apply below_alloc | apply pw_below_drewN | apply below_drew1 | refine below_set ?_ GE133.out | refine below_set ?_ GE134.out) | exact HB.out)) hb); clear BK133; clear BK134; clear HB; have BK133 := n0_; have BK134 := n1_; have HB := n2_; clear n0_ n1_ n2_; (try clear hb); (try clear hb2); (try clear hk); (try clear hi); have hcz109_0 : w108.cell? ⟨gb133, 0, none⟩ = some (.bool a0_0) := (blk_cell BK133.out 0).trans rfl; have hcz109_1 : w108.cell? ⟨gb133, 1, none⟩ = some (.int .i64 a0_1) := (blk_cell BK133.out 1).trans rfl; have hcz109_2 : w108.cell? ⟨gb133, 2, none⟩ = some (.int .u32 a0_2) := (blk_cell BK133.out 2).trans rfl; have hcz109_3 : w108.cell? ⟨gb133, 3, none⟩ = some (.int .i64 a0_3) := (blk_cell BK133.out 3).trans rfl; have hcz109_4 : w108.cell? ⟨gb133, 4, none⟩ = some (.int .u32 a0_4) := (blk_cell BK133.out 4).trans rfl; have hcz109_5 : w108.cell? ⟨gb133, 5, none⟩ = some (.int .i64 a0_5) := (blk_cell BK133.out 5).trans rfl; have hcz109_6 : w108.cell? ⟨gb133, 6, none⟩ = some (.int .u32 a0_6) := (blk_cell BK133.out 6).trans rfl; have hcz109_7 : w108.cell? ⟨gb133, 7, none⟩ = some (.int .u32 a0_7) := (blk_cell BK133.out 7).trans rfl; have hcz109_8 : w108.cell? ⟨gb133, 8, none⟩ = some (.int .u32 a0_8) := (blk_cell BK133.out 8).trans rfl; have hcz109_9 : w108.cell? ⟨gb133, 9, none⟩ = some (.int .u32 a0_9) := (blk_cell BK133.out 9).trans rfl; have hfz109_0 := blk_frozen BK133.out 0; have hfz109_1 := blk_frozen BK133.out 1; have hfz109_2 := blk_frozen BK133.out 2; have hfz109_3 := blk_frozen BK133.out 3; have hfz109_4 := blk_frozen BK133.out 4; have hfz109_5 := blk_frozen BK133.out 5; have hfz109_6 := blk_frozen BK133.out 6; have hfz109_7 := blk_frozen BK133.out 7; have hfz109_8 := blk_frozen BK133.out 8; have hfz109_9 := blk_frozen BK133.out 9; have hcz110_0 : w108.cell? ⟨gb134, 0, none⟩ = some (.int .u32 a1_0) := (blk_cell BK134.out 0).trans rfl; have hcz110_1 : w108.cell? ⟨gb134, 1, none⟩ = some (.int .u32 a1_1) := (blk_cell BK134.out 1).trans rfl; have hcz110_2 : w108.cell? ⟨gb134, 2, none⟩ = some (.int .u8 a1_2) := (blk_cell BK134.out 2).trans rfl; have hcz110_3 : w108.cell? ⟨gb134, 3, none⟩ = some (.int .u16 a1_3) := (blk_cell BK134.out 3).trans rfl; have hcz110_4 : w108.cell? ⟨gb134, 4, none⟩ = some (.int .u16 a1_4) := (blk_cell BK134.out 4).trans rfl; have hfz110_0 := blk_frozen BK134.out 0; have hfz110_1 := blk_frozen BK134.out 1; have hfz110_2 := blk_frozen BK134.out 2; have hfz110_3 := blk_frozen BK134.out 3; have hfz110_4 := blk_frozen BK134.out 4))
        go_ret
        exact ⟨by first | rfl | (simp [errW_none, errW_some] <;> rfl) | (simp [*, errW_none, errW_some] <;> rfl), by repeat (first | (with_reducible first | exact HB.out | apply below_alloc | apply pw_below_drewN | apply below_drew1 | refine below_set ?_ GE133.out | refine below_set ?_ GE134.out) | exact HB.out)⟩
     ·replace c21 := Bool.eq_false_iff.mpr c21
      subst c21
      have H1 : (some false) = some r := by rw [if_neg (show ¬ (false = true) by decide)] at H; exact H
      clear H
      have H := H1
      clear H1
      obtain rfl := Option.some.inj H
      have hnb111 := NB134_133.out
      have hnc111 := NB133_134.out
      have hcz112_0 : wc.cell? ⟨gb134, 0, none⟩ = some (.int .u32 a1_0) := (blk_cell BK134.out 0).trans rfl
      have hcz112_1 : wc.cell? ⟨gb134, 1, none⟩ = some (.int .u32 a1_1) := (blk_cell BK134.out 1).trans rfl
      have hcz112_2 : wc.cell? ⟨gb134, 2, none⟩ = some (.int .u8 a1_2) := (blk_cell BK134.out 2).trans rfl
      have hcz112_3 : wc.cell? ⟨gb134, 3, none⟩ = some (.int .u16 a1_3) := (blk_cell BK134.out 3).trans rfl
      have hcz112_4 : wc.cell? ⟨gb134, 4, none⟩ = some (.int .u16 a1_4) := (blk_cell BK134.out 4).trans rfl
      have hfz112_0 := blk_frozen BK134.out 0
      have hfz112_1 := blk_frozen BK134.out 1
      have hfz112_2 := blk_frozen BK134.out 2
      have hfz112_3 := blk_frozen BK134.out 3
      have hfz112_4 := blk_frozen BK134.out 4
      have hcz113_0 : wc.cell? ⟨gb133, 0, none⟩ = some (.bool a0_0) := (blk_cell BK133.out 0).trans rfl
      have hcz113_1 : wc.cell? ⟨gb133, 1, none⟩ = some (.int .i64 a0_1) := (blk_cell BK133.out 1).trans rfl
      have hcz113_2 : wc.cell? ⟨gb133, 2, none⟩ = some (.int .u32 a0_2) := (blk_cell BK133.out 2).trans rfl
      have hcz113_3 : wc.cell? ⟨gb133, 3, none⟩ = some (.int .i64 a0_3) := (blk_cell BK133.out 3).trans rfl
      have hcz113_4 : wc.cell? ⟨gb133, 4, none⟩ = some (.int .u32 a0_4) := (blk_cell BK133.out 4).trans rfl
      have hcz113_5 : wc.cell? ⟨gb133, 5, none⟩ = some (.int .i64 a0_5) := (blk_cell BK133.out 5).trans rfl
      have hcz113_6 : wc.cell? ⟨gb133, 6, none⟩ = some (.int .u32 a0_6) := (blk_cell BK133.out 6).trans rfl
      have hcz113_7 : wc.cell? ⟨gb133, 7, none⟩ = some (.int .u32 a0_7) := (blk_cell BK133.out 7).trans rfl
      have hcz113_8 : wc.cell? ⟨gb133, 8, none⟩ = some (.int .u32 a0_8) := (blk_cell BK133.out 8).trans rfl
      have hcz113_9 : wc.cell? ⟨gb133, 9, none⟩ = some (.int .u32 a0_9) := (blk_cell BK133.out 9).trans rfl
      have hfz113_0 := blk_frozen BK133.out 0
      have hfz113_1 := blk_frozen BK133.out 1
      have hfz113_2 := blk_frozen BK133.out 2
      have hfz113_3 := blk_frozen BK133.out 3
      have hfz113_4 := blk_frozen BK133.out 4
      have hfz113_5 := blk_frozen BK133.out 5
      have hfz113_6 := blk_frozen BK133.out 6
      have hfz113_7 := blk_frozen BK133.out 7
      have hfz113_8 := blk_frozen BK133.out 8
      have hfz113_9 := blk_frozen BK133.out 9
      go_wp2_with (first | ((with_reducible refine gate_callee (f := 69) rfl ?_); refine goesL_ (some 19) rfl rfl Try.func69 (by kernel_rfl) rfl #[.int .u32 a1_0, .agg #[.int .u32 a0_2, .int .i64 a0_3]] rfl (by (try simp only [List.map_toArray, List.map_cons, List.map_nil]); first | done | rfl | (simp only [List.length_drop, List.length_take]; rfl)) ?_; (with_reducible refine (waymarkref01_In.calls kj2 a1_0 a0_2 a0_3 true _ A18.out).mono ?_); rintro e w114 ⟨rfl, hb⟩; refine ⟨_, rfl, ?_⟩; have n0_ := Aside0.mk (blk_below (g := gb133) (o := .cells #[.bool a0_0, .int .i64 a0_1, .int .u32 a0_2, .int .i64 a0_3, .int .u32 a0_4, .int .i64 a0_5, .int .u32 a0_6, .int .u32 a0_7, .int .u32 a0_8, .int .u32 a0_9] 33 (0, 0)) (by (with_reducible repeat (first | refine blk_drewN ?_ _ | refine blk_drew ?_ | refine blk_alloc ?_ _)); exact BK133.out) hb); have n1_ := Aside0.mk (blk_below (g := gb134) (o := .cells #[.int .u32 a1_0, .int .u32 a1_1, .int .u8 a1_2, .int .u16 a1_3, .int .u16 a1_4] 40 (0, 0)) (by (with_reducible repeat (first | refine blk_drewN ?_ _ | refine blk_drew ?_ | refine blk_alloc ?_ _)); exact BK134.out) hb); have n2_ := Aside0.mk (below_step (by repeat (first | (with_reducible first | exact HB.out | apply below_alloc | apply pw_below_drewN | apply below_drew1 | refine below_set ?_ GE133.out | refine below_set ?_ GE134.out) | exact HB.out)) hb); clear BK133; clear BK134; clear HB; have BK133 := n0_; have BK134 := n1_; have HB := n2_; clear n0_ n1_ n2_; (try clear hb); (try clear hb2); (try clear hk); (try clear hi); have hcz115_0 : w114.cell? ⟨gb134, 0, none⟩ = some (.int .u32 a1_0) := (blk_cell BK134.out 0).trans rfl; have hcz115_1 : w114.cell? ⟨gb134, 1, none⟩ = some (.int .u32 a1_1) := (blk_cell BK134.out 1).trans rfl; have hcz115_2 : w114.cell? ⟨gb134, 2, none⟩ = some (.int .u8 a1_2) := (blk_cell BK134.out 2).trans rfl; have hcz115_3 : w114.cell? ⟨gb134, 3, none⟩ = some (.int .u16 a1_3) := (blk_cell BK134.out 3).trans rfl; have hcz115_4 : w114.cell? ⟨gb134, 4, none⟩ = some (.int .u16 a1_4) := (blk_cell BK134.out 4).trans rfl; have hfz115_0 := blk_frozen BK134.out 0; have hfz115_1 := blk_frozen BK134.out 1; have hfz115_2 := blk_frozen BK134.out 2; have hfz115_3 := blk_frozen BK134.out 3; have hfz115_4 := blk_frozen BK134.out 4; have hcz116_0 : w114.cell? ⟨gb133, 0, none⟩ = some (.bool a0_0) := (blk_cell BK133.out 0).trans rfl; have hcz116_1 : w114.cell? ⟨gb133, 1, none⟩ = some (.int .i64 a0_1) := (blk_cell BK133.out 1).trans rfl; have hcz116_2 : w114.cell? ⟨gb133, 2, none⟩ = some (.int .u32 a0_2) := (blk_cell BK133.out 2).trans rfl; have hcz116_3 : w114.cell? ⟨gb133, 3, none⟩ = some (.int .i64 a0_3) := (blk_cell BK133.out 3).trans rfl; have hcz116_4 : w114.cell? ⟨gb133, 4, none⟩ = some (.int .u32 a0_4) := (blk_cell BK133.out 4).trans rfl; have hcz116_5 : w114.cell? ⟨gb133, 5, none⟩ = some (.int .i64 a0_5) := (blk_cell BK133.out 5).trans rfl; have hcz116_6 : w114.cell? ⟨gb133, 6, none⟩ = some (.int .u32 a0_6) := (blk_cell BK133.out 6).trans rfl; have hcz116_7 : w114.cell? ⟨gb133, 7, none⟩ = some (.int .u32 a0_7) := (blk_cell BK133.out 7).trans rfl; have hcz116_8 : w114.cell? ⟨gb133, 8, none⟩ = some (.int .u32 a0_8) := (blk_cell BK133.out 8).trans rfl; have hcz116_9 : w114.cell? ⟨gb133, 9, none⟩ = some (.int .u32 a0_9) := (blk_cell BK133.out 9).trans rfl; have hfz116_0 := blk_frozen BK133.out 0; have hfz116_1 := blk_frozen BK133.out 1; have hfz116_2 := blk_frozen BK133.out 2; have hfz116_3 := blk_frozen BK133.out 3; have hfz116_4 := blk_frozen BK133.out 4; have hfz116_5 := blk_frozen BK133.out 5; have hfz116_6 := blk_frozen BK133.out 6; have hfz116_7 := blk_frozen BK133.out 7; have hfz116_8 := blk_frozen BK133.out 8; have hfz116_9 := blk_frozen BK133.out 9) | (go_at_call 69; (with_reducible refine (waymarkref01_In.calls kj2 a1_1 a0_4 a0_5 false _ A20.out).mono ?_); rintro e w117 ⟨rfl, hb⟩; have n0_ := Aside0.mk (blk_below (g := gb133) (o := .cells #[.bool a0_0, .int .i64 a0_1, .int .u32 a0_2, .int .i64 a0_3, .int .u32 a0_4, .int .i64 a0_5, .int .u32 a0_6, .int .u32 a0_7, .int .u32 a0_8, .int .u32 a0_9] 33 (0, 0)) (by (with_reducible repeat (first | refine blk_drewN ?_ _ | refine blk_drew ?_ | refine blk_alloc ?_ _)); exact BK133.out) hb); have n1_ := Aside0.mk (blk_below (g := gb134) (o := .cells #[.int .u32 a1_0, .int .u32 a1_1, .int .u8 a1_2, .int .u16 a1_3, .int .u16 a1_4] 40 (0, 0)) (by (with_reducible repeat (first | refine blk_drewN ?_ _ | refine blk_drew ?_ | refine blk_alloc ?_ _)); exact BK134.out) hb); have n2_ := Aside0.mk (below_step (by repeat (first | (with_reducible first | exact HB.out | apply below_alloc | apply pw_below_drewN | apply below_drew1 | refine below_set ?_ GE133.out | refine below_set ?_ GE134.out) | exact HB.out)) hb); clear BK133; clear BK134; clear HB; have BK133 := n0_; have BK134 := n1_; have HB := n2_; clear n0_ n1_ n2_; (try clear hb); (try clear hb2); (try clear hk); (try clear hi)))
      go_ret
      exact ⟨by first | rfl | (simp [errW_none, errW_some] <;> rfl) | (simp [*, errW_none, errW_some] <;> rfl), by repeat (first | (with_reducible first | exact HB.out | apply below_alloc | apply pw_below_drewN | apply below_drew1 | refine below_set ?_ GE133.out | refine below_set ?_ GE134.out) | exact HB.out)⟩
    ·replace c19 := Bool.eq_false_iff.mpr c19
     subst c19
     have H1 : (some false) = some r := by rw [if_neg (show ¬ (false = true) by decide)] at H; exact H
     clear H
     have H := H1
     clear H1
     obtain rfl := Option.some.inj H
     have hnb118 := NB134_133.out
     have hnc118 := NB133_134.out
     have hcz119_0 : wc.cell? ⟨gb134, 0, none⟩ = some (.int .u32 a1_0) := (blk_cell BK134.out 0).trans rfl
     have hcz119_1 : wc.cell? ⟨gb134, 1, none⟩ = some (.int .u32 a1_1) := (blk_cell BK134.out 1).trans rfl
     have hcz119_2 : wc.cell? ⟨gb134, 2, none⟩ = some (.int .u8 a1_2) := (blk_cell BK134.out 2).trans rfl
     have hcz119_3 : wc.cell? ⟨gb134, 3, none⟩ = some (.int .u16 a1_3) := (blk_cell BK134.out 3).trans rfl
     have hcz119_4 : wc.cell? ⟨gb134, 4, none⟩ = some (.int .u16 a1_4) := (blk_cell BK134.out 4).trans rfl
     have hfz119_0 := blk_frozen BK134.out 0
     have hfz119_1 := blk_frozen BK134.out 1
     have hfz119_2 := blk_frozen BK134.out 2
     have hfz119_3 := blk_frozen BK134.out 3
     have hfz119_4 := blk_frozen BK134.out 4
     have hcz120_0 : wc.cell? ⟨gb133, 0, none⟩ = some (.bool a0_0) := (blk_cell BK133.out 0).trans rfl
     have hcz120_1 : wc.cell? ⟨gb133, 1, none⟩ = some (.int .i64 a0_1) := (blk_cell BK133.out 1).trans rfl
     have hcz120_2 : wc.cell? ⟨gb133, 2, none⟩ = some (.int .u32 a0_2) := (blk_cell BK133.out 2).trans rfl
     have hcz120_3 : wc.cell? ⟨gb133, 3, none⟩ = some (.int .i64 a0_3) := (blk_cell BK133.out 3).trans rfl
     have hcz120_4 : wc.cell? ⟨gb133, 4, none⟩ = some (.int .u32 a0_4) := (blk_cell BK133.out 4).trans rfl
     have hcz120_5 : wc.cell? ⟨gb133, 5, none⟩ = some (.int .i64 a0_5) := (blk_cell BK133.out 5).trans rfl
     have hcz120_6 : wc.cell? ⟨gb133, 6, none⟩ = some (.int .u32 a0_6) := (blk_cell BK133.out 6).trans rfl
     have hcz120_7 : wc.cell? ⟨gb133, 7, none⟩ = some (.int .u32 a0_7) := (blk_cell BK133.out 7).trans rfl
     have hcz120_8 : wc.cell? ⟨gb133, 8, none⟩ = some (.int .u32 a0_8) := (blk_cell BK133.out 8).trans rfl
     have hcz120_9 : wc.cell? ⟨gb133, 9, none⟩ = some (.int .u32 a0_9) := (blk_cell BK133.out 9).trans rfl
     have hfz120_0 := blk_frozen BK133.out 0
     have hfz120_1 := blk_frozen BK133.out 1
     have hfz120_2 := blk_frozen BK133.out 2
     have hfz120_3 := blk_frozen BK133.out 3
     have hfz120_4 := blk_frozen BK133.out 4
     have hfz120_5 := blk_frozen BK133.out 5
     have hfz120_6 := blk_frozen BK133.out 6
     have hfz120_7 := blk_frozen BK133.out 7
     have hfz120_8 := blk_frozen BK133.out 8
     have hfz120_9 := blk_frozen BK133.out 9
     go_wp2_with (first | ((with_reducible refine gate_callee (f := 69) rfl ?_); refine goesL_ (some 19) rfl rfl Try.func69 (by kernel_rfl) rfl #[.int .u32 a1_0, .agg #[.int .u32 a0_2, .int .i64 a0_3]] rfl (by (try simp only [List.map_toArray, List.map_cons, List.map_nil]); first | done | rfl | (simp only [List.length_drop, List.length_take]; rfl)) ?_; (with_reducible refine (waymarkref01_In.calls kj2 a1_0 a0_2 a0_3 false _ A18.out).mono ?_); rintro e w121 ⟨rfl, hb⟩; refine ⟨_, rfl, ?_⟩; have n0_ := Aside0.mk (blk_below (g := gb133) (o := .cells #[.bool a0_0, .int .i64 a0_1, .int .u32 a0_2, .int .i64 a0_3, .int .u32 a0_4, .int .i64 a0_5, .int .u32 a0_6, .int .u32 a0_7, .int .u32 a0_8, .int .u32 a0_9] 33 (0, 0)) (by (with_reducible repeat (first | refine blk_drewN ?_ _ | refine blk_drew ?_ | refine blk_alloc ?_ _)); exact BK133.out) hb); have n1_ := Aside0.mk (blk_below (g := gb134) (o := .cells #[.int .u32 a1_0, .int .u32 a1_1, .int .u8 a1_2, .int .u16 a1_3, .int .u16 a1_4] 40 (0, 0)) (by (with_reducible repeat (first | refine blk_drewN ?_ _ | refine blk_drew ?_ | refine blk_alloc ?_ _)); exact BK134.out) hb); have n2_ := Aside0.mk (below_step (by repeat (first | (with_reducible first | exact HB.out | apply below_alloc | apply pw_below_drewN | apply below_drew1 | refine below_set ?_ GE133.out | refine below_set ?_ GE134.out) | exact HB.out)) hb); clear BK133; clear BK134; clear HB; have BK133 := n0_; have BK134 := n1_; have HB := n2_; clear n0_ n1_ n2_; (try clear hb); (try clear hb2); (try clear hk); (try clear hi)))
     go_ret
     exact ⟨by first | rfl | (simp [errW_none, errW_some] <;> rfl) | (simp [*, errW_none, errW_some] <;> rfl), by repeat (first | (with_reducible first | exact HB.out | apply below_alloc | apply pw_below_drewN | apply below_drew1 | refine below_set ?_ GE133.out | refine below_set ?_ GE134.out) | exact HB.out)⟩

end Go.Proofs.Ytmoagoopdfpcnaa.Q
