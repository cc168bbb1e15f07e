-- Written by a program of this session (wip/myprint) out of the translation, for this claim.
-- narrow
import Derived.Test.YtmoagoopdfpcnaaQx0
import Derived.Test.YtmoagoopdfpcnaaQx10
namespace Go.Proofs.Ytmoagoopdfpcnaa.Q
open Go.RowKit Go.Proofs.YtmoagoopdfpcnaaW.PrintWords Go.Proofs.YtmoagoopdfpcnaaW.PrintLast Go.Proofs.YtmoagoopdfpcnaaW.PrintMore
attribute [local go_sem] max2_int min2_int max_two min_two max_three min_three max_four min_four   -- for this text's walks alone
set_option linter.unusedVariables false
set_option linter.unusedSimpArgs false

/-! ### waymarkref10_Decides: function 18 -/
def waymarkref10_Decides.l0 : Nat → Int → ByteArray → List (S33) → Int → Int → Int → Int → Int → Option (Int)
 | 0, _, _, _, _, _, _, _, _ => none
 | k + 1, x5, x140000, x140001, x141000, x141001, x141002, x141003, x141004 => if x5 < (x140001.length : Int) then (if 0 ≤ x5 then ((waymarkref10_Fits.f k ((rd_T33 x140001 x5).f0) ((rd_T33 x140001 x5).f1) ((rd_T33 x140001 x5).f2.f0) ((rd_T33 x140001 x5).f2.f1) ((rd_T33 x140001 x5).f3.f0) ((rd_T33 x140001 x5).f3.f1) ((rd_T33 x140001 x5).f4.f0) ((rd_T33 x140001 x5).f4.f1) ((rd_T33 x140001 x5).f5.f0) ((rd_T33 x140001 x5).f5.f1) x141000 x141001 x141002 x141003 x141004).bind fun t142 => (if t142 = true then (some x5) else (waymarkref10_Decides.l0 k (wrap64 (x5 + 1)) x140000 x140001 x141000 x141001 x141002 x141003 x141004))) else (none)) else (some (-1))
def waymarkref10_Decides.f (k : Nat) (a0_0 : ByteArray) (l0_1 : List (S33)) (a1_0 : Int) (a1_1 : Int) (a1_2 : Int) (a1_3 : Int) (a1_4 : Int) : Option (Int) := waymarkref10_Decides.l0 k 0 a0_0 l0_1 a1_0 a1_1 a1_2 a1_3 a1_4
theorem waymarkref10_Decides.mono_l : ∀ k, (∀ y0 y1 y2 y3 y4 y5 y6 y7, LeO (waymarkref10_Decides.l0 k y0 y1 y2 y3 y4 y5 y6 y7) (waymarkref10_Decides.l0 (k + 1) y0 y1 y2 y3 y4 y5 y6 y7))
 | 0 => fun _ _ _ _ _ _ _ _ r h => by simp [waymarkref10_Decides.l0] at h
 | k + 1 => by
  have ih0 := waymarkref10_Decides.mono_l k
  ·intro y0 y1 y2 y3 y4 y5 y6 y7
   unfold waymarkref10_Decides.l0
   repeat' first
   | (with_reducible exact ih0 _ _ _ _ _ _ _ _)
   | (with_reducible exact waymarkref10_Fits.mono _ _ _ _ _ _ _ _ _ _ _ _ _ _ _ _)
   | (with_reducible exact LeO.refl _)
   | (with_reducible exact LeO.none _)
   | (with_reducible refine LeO.ite ?_ ?_)
   | (with_reducible refine LeO.bind ?_ (fun _ => ?_))
   | exact ih0 _ _ _ _ _ _ _ _
   | exact waymarkref10_Fits.mono _ _ _ _ _ _ _ _ _ _ _ _ _ _ _ _
   | exact LeO.none _
   | refine LeO.ite ?_ ?_
   | refine LeO.bind ?_ (fun _ => ?_)
theorem waymarkref10_Decides.mono : ∀ a0 a1 a2 a3 a4 a5 a6 k, LeO (waymarkref10_Decides.f k a0 a1 a2 a3 a4 a5 a6) (waymarkref10_Decides.f (k + 1) a0 a1 a2 a3 a4 a5 a6) := by
 intro a0 a1 a2 a3 a4 a5 a6 k
 have ih0 := waymarkref10_Decides.mono_l k
 unfold waymarkref10_Decides.f
 repeat' first
   | (with_reducible exact ih0 _ _ _ _ _ _ _ _)
   | (with_reducible exact waymarkref10_Fits.mono _ _ _ _ _ _ _ _ _ _ _ _ _ _ _ _)
   | (with_reducible exact LeO.refl _)
   | (with_reducible exact LeO.none _)
   | (with_reducible refine LeO.ite ?_ ?_)
   | (with_reducible refine LeO.bind ?_ (fun _ => ?_))
   | exact ih0 _ _ _ _ _ _ _ _
   | exact waymarkref10_Fits.mono _ _ _ _ _ _ _ _ _ _ _ _ _ _ _ _
   | exact LeO.none _
   | refine LeO.ite ?_ ?_
   | refine LeO.bind ?_ (fun _ => ?_)
set_option maxHeartbeats 8000000 in
set_option maxRecDepth 100000 in
theorem waymarkref10_Decides.calls (k : Nat) (a0_0 : ByteArray) (A0_1 : Option Addr) (c0_1 : Nat) (l0_1 : List (S33)) (a1_0 : Int) (a1_1 : Int) (a1_2 : Int) (a1_3 : Int) (a1_4 : Int) (r : Int) (w : World) (hr0_1 : Kd.C k33 w A0_1 l0_1.length l0_1) (hc0_1 : l0_1.length ≤ c0_1) (h : waymarkref10_Decides.f k a0_0 l0_1 a1_0 a1_1 a1_2 a1_3 a1_4 = some r) :
  Calls Try.prog 18 #[.agg #[.string a0_0, .slice A0_1 l0_1.length c0_1], .agg #[.int .u32 a1_0, .int .u32 a1_1, .int .u8 a1_2, .int .u16 a1_3, .int .u16 a1_4]] w fun e w' => e = .returned (.int .i64 r) ∧ Below w.heap.size w w' := by
 have hu24 := Try.underlying24
 have hu40 := Try.underlying40
 have hu33 := Try.underlying33
 have HR0_1 := Aside0.mk hr0_1
 have HC0_1 := Aside0.mk hc0_1
 clear hr0_1 hc0_1
 have HB := Aside0.mk (Below.refl w.heap.size w)
 have H : (waymarkref10_Decides.l0 k 0 a0_0 l0_1 a1_0 a1_1 a1_2 a1_3 a1_4) = some r := h
 clear h
 have H' := Aside0.mk H
 clear H
 go_enter Try.func18, Try.ntmps18
 go_wp2_with (first | ((with_reducible refine gate_dst (N := 2) rfl ?_); refine box_event ?hg (N := 2) ?hd (cs := #[.string a0_0, .slice A0_1 l0_1.length c0_1]) (t := 24) ?hr ?_; (case hd => rfl); (case hg => rfl); (case hr => first | (go_simp; done) | (go_simp; rfl)); intro gb139 hg w3 hbox hb; have n0_ := Aside0.mk (below_step (by repeat (first | (with_reducible first | exact HB.out | apply below_alloc | apply pw_below_drewN | apply below_drew1) | exact HB.out)) hb); have n1_ := Aside0.mk (hbox); have n2_ := Aside0.mk ((by rw [hg]; exact (below_size (by repeat (first | (with_reducible first | exact HB.out | apply below_alloc | apply pw_below_drewN | apply below_drew1) | exact HB.out))) : w.heap.size ≤ gb139)); have n3_ := Aside0.mk ((by rw [hg]; exact (below_size (by repeat (first | (with_reducible first | exact HB.out | apply below_alloc | apply pw_below_drewN | apply below_drew1) | exact HB.out))) : w.heap.size ≤ gb139)); clear HB; have HB := n0_; have BK139 := n1_; have GW139 := n2_; have GE139 := n3_; clear n0_ n1_ n2_ n3_; clear hb hbox hg) | ((with_reducible refine gate_dst (N := 3) rfl ?_); refine box_event ?hg (N := 3) ?hd (cs := #[.int .u32 a1_0, .int .u32 a1_1, .int .u8 a1_2, .int .u16 a1_3, .int .u16 a1_4]) (t := 40) ?hr ?_; (case hd => rfl); (case hg => rfl); (case hr => first | (go_simp; done) | (go_simp; rfl)); intro gb140 hg w4 hbox hb; have n0_ := Aside0.mk (blk_below (g := gb139) (o := .cells #[.string a0_0, .slice A0_1 l0_1.length c0_1] 24 (0, 0)) (by (with_reducible repeat (first | refine blk_drewN ?_ _ | refine blk_drew ?_ | refine blk_alloc ?_ _)); exact BK139.out) hb); have n1_ := Aside0.mk (below_step (by repeat (first | (with_reducible first | exact HB.out | apply below_alloc | apply pw_below_drewN | apply below_drew1 | refine below_set ?_ GE139.out) | exact HB.out)) hb); have n2_ := Aside0.mk (hbox); have n3_ := Aside0.mk ((by rw [hg]; exact (below_size (by repeat (first | (with_reducible first | exact HB.out | apply below_alloc | apply pw_below_drewN | apply below_drew1 | refine below_set ?_ GE139.out) | exact HB.out))) : w.heap.size ≤ gb140)); have n4_ := Aside0.mk ((by rw [hg]; exact (below_size (by repeat (first | (with_reducible first | exact HB.out | apply below_alloc | apply pw_below_drewN | apply below_drew1 | refine below_set ?_ GE139.out) | exact HB.out))) : w.heap.size ≤ gb140)); have n5_ := Aside0.mk ((by rw [hg]; exact Nat.ne_of_lt (blk_lt (g := gb139) (o := .cells #[.string a0_0, .slice A0_1 l0_1.length c0_1] 24 (0, 0)) (by (with_reducible repeat (first | refine blk_drewN ?_ _ | refine blk_drew ?_ | refine blk_alloc ?_ _)); exact BK139.out)) : gb139 ≠ gb140)); have n6_ := Aside0.mk ((by rw [hg]; exact Nat.ne_of_gt (blk_lt (g := gb139) (o := .cells #[.string a0_0, .slice A0_1 l0_1.length c0_1] 24 (0, 0)) (by (with_reducible repeat (first | refine blk_drewN ?_ _ | refine blk_drew ?_ | refine blk_alloc ?_ _)); exact BK139.out)) : gb140 ≠ gb139)); clear BK139; clear HB; have BK139 := n0_; have HB := n1_; have BK140 := n2_; have GW140 := n3_; have GE140 := n4_; have NB139_140 := n5_; have NB140_139 := n6_; clear n0_ n1_ n2_ n3_ n4_ n5_ n6_; clear hb hbox hg))
 go_loopg [5] k (fun kq v5 w' => ∃ (x5_1 : Int), v5 = .int .i64 x5_1 ∧ Aside0 (waymarkref10_Decides.l0 kq x5_1 a0_0 l0_1 a1_0 a1_1 a1_2 a1_3 a1_4 = some r) ∧ Aside0 (kq ≤ k) ∧ Aside0 (w'.heap[gb139]? = some (.cells #[.string a0_0, (.slice A0_1 l0_1.length c0_1)] 24 (0, 0))) ∧ Aside0 (w'.heap[gb140]? = some (.cells #[.int .u32 a1_0, .int .u32 a1_1, .int .u8 a1_2, .int .u16 a1_3, .int .u16 a1_4] 40 (0, 0))) ∧ Aside0 (Below w.heap.size w w'))
 case atStart => exact ⟨(0), (by first | rfl | (simp; done) | (simp [*]; done)), H', ⟨Nat.le_refl _⟩, ⟨by (with_reducible repeat (first | refine blk_drewN ?_ _ | refine blk_drew ?_ | refine blk_alloc ?_ _)); exact BK139.out⟩, ⟨by (with_reducible repeat (first | refine blk_drewN ?_ _ | refine blk_drew ?_ | refine blk_alloc ?_ _)); exact BK140.out⟩, ⟨by repeat (first | (with_reducible first | exact HB.out | apply below_alloc | apply pw_below_drewN | apply below_drew1 | refine below_set ?_ GE139.out | refine below_set ?_ GE140.out) | exact HB.out)⟩⟩
 case round =>
  clear H'
  try clear c1
  try clear p2
  obtain ⟨x5_1, rfl, HA, HK1, BK139, BK140, HB⟩ := hrel
  cases gk with
  | zero => exact absurd HA.out (by simp [waymarkref10_Decides.l0])
  | succ k1 =>
   have H := HA.out
   clear HA
   simp only [waymarkref10_Decides.l0] at H
   by_cases c5 : x5_1 < (l0_1.length : Int)
   ·rw [if_pos c5] at H
    have c5b0 : decide (x5_1 < (l0_1.length : Int)) = true := decide_eq_true c5
    clear c5
    by_cases c6 : 0 ≤ x5_1
    ·rw [if_pos c6] at H
     have c6b0 : decide (0 ≤ x5_1) = true := decide_eq_true c6
     clear c6
     replace H := Option.bind_eq_some_iff.mp H
     obtain ⟨t142, A70, H⟩ := H
     replace H : (if t142 = true then (some x5_1) else (waymarkref10_Decides.l0 k1 (wrap64 (x5_1 + 1)) a0_0 l0_1 a1_0 a1_1 a1_2 a1_3 a1_4)) = some r := H
     have A7 := Aside0.mk A70
     clear A70
     by_cases c8 : t142 = true
     ·subst c8
      have H1 : (some x5_1) = some r := by rw [if_pos rfl] at H; exact H
      clear H
      have H := H1
      clear H1
      obtain rfl := Option.some.inj H
      have hnb9 := NB139_140.out
      have hnc9 := NB140_139.out
      have hcz10_0 : wr.cell? ⟨gb139, 0, none⟩ = some (.string a0_0) := (blk_cell BK139.out 0).trans rfl
      have hcz10_1 : wr.cell? ⟨gb139, 1, none⟩ = some (.slice A0_1 l0_1.length c0_1) := (blk_cell BK139.out 1).trans rfl
      have hfz10_0 := blk_frozen BK139.out 0
      have hfz10_1 := blk_frozen BK139.out 1
      try go_wp2
      have n0_ := Aside0.mk (blk_drew BK139.out)
      have n1_ := Aside0.mk (blk_drew BK140.out)
      have n2_ := Aside0.mk (below_drew1 HB.out)
      clear BK139
      clear BK140
      clear HB
      have BK139 := n0_
      have BK140 := n1_
      have HB := n2_
      clear n0_ n1_ n2_
      have p141 : 0 ≤ (x5_1 : Int) := of_decide_eq_true (by first | (with_reducible assumption) | assumption)
      have q141 : x5_1 < (l0_1.length : Int) := of_decide_eq_true (by first | (with_reducible assumption) | assumption)
      obtain ⟨ad141, e141, hx141_0, hx141_1, hx141_2, hx141_3, hx141_4, hx141_5, hx141_6, hx141_7, hx141_8, hx141_9⟩ := at_T33 HR0_1.out x5_1 p141 q141
      have hw141_9 := hx141_9
      have hw141_8 := hx141_8
      have hw141_7 := hx141_7
      have hw141_6 := hx141_6
      have hw141_5 := hx141_5
      have hw141_4 := hx141_4
      have hw141_3 := hx141_3
      have hw141_2 := hx141_2
      have hw141_1 := hx141_1
      have hw141_0 := hx141_0
      cases e141
      replace hx141_0 := pw_cell_below HB.out hx141_0
      replace hx141_1 := pw_cell_below HB.out hx141_1
      replace hx141_2 := pw_cell_below HB.out hx141_2
      replace hx141_3 := pw_cell_below HB.out hx141_3
      replace hx141_4 := pw_cell_below HB.out hx141_4
      replace hx141_5 := pw_cell_below HB.out hx141_5
      replace hx141_6 := pw_cell_below HB.out hx141_6
      replace hx141_7 := pw_cell_below HB.out hx141_7
      replace hx141_8 := pw_cell_below HB.out hx141_8
      replace hx141_9 := pw_cell_below HB.out hx141_9
      replace p141 := eq_true p141
      replace q141 := eq_true q141
      refine start_ (n := 7) (S := fun w' => w'.cell? ⟨gb139, 0, none⟩ = some (.string a0_0) ∧ w'.cell? ⟨gb139, 1, none⟩ = some (.slice (some ad141) l0_1.length c0_1) ∧ w'.cell? ⟨gb140, 0, none⟩ = some (.int .u32 a1_0) ∧ w'.cell? ⟨gb140, 1, none⟩ = some (.int .u32 a1_1) ∧ w'.cell? ⟨gb140, 2, none⟩ = some (.int .u8 a1_2) ∧ w'.cell? ⟨gb140, 3, none⟩ = some (.int .u16 a1_3) ∧ w'.cell? ⟨gb140, 4, none⟩ = some (.int .u16 a1_4) ∧ w'.cell? (ad141.add ((x5_1).toNat * 10)) = some (.bool ((rd_T33 l0_1 x5_1).f0)) ∧ w'.cell? ⟨(ad141.add ((x5_1).toNat * 10)).block, (ad141.add ((x5_1).toNat * 10)).off + 1, none⟩ = some (.int .i64 ((rd_T33 l0_1 x5_1).f1)) ∧ w'.cell? ⟨(ad141.add ((x5_1).toNat * 10)).block, (ad141.add ((x5_1).toNat * 10)).off + 2, none⟩ = some (.int .u32 ((rd_T33 l0_1 x5_1).f2.f0)) ∧ w'.cell? ⟨(ad141.add ((x5_1).toNat * 10)).block, (ad141.add ((x5_1).toNat * 10)).off + 3, none⟩ = some (.int .i64 ((rd_T33 l0_1 x5_1).f2.f1)) ∧ w'.cell? ⟨(ad141.add ((x5_1).toNat * 10)).block, (ad141.add ((x5_1).toNat * 10)).off + 4, none⟩ = some (.int .u32 ((rd_T33 l0_1 x5_1).f3.f0)) ∧ w'.cell? ⟨(ad141.add ((x5_1).toNat * 10)).block, (ad141.add ((x5_1).toNat * 10)).off + 5, none⟩ = some (.int .i64 ((rd_T33 l0_1 x5_1).f3.f1)) ∧ w'.cell? ⟨(ad141.add ((x5_1).toNat * 10)).block, (ad141.add ((x5_1).toNat * 10)).off + 6, none⟩ = some (.int .u32 ((rd_T33 l0_1 x5_1).f4.f0)) ∧ w'.cell? ⟨(ad141.add ((x5_1).toNat * 10)).block, (ad141.add ((x5_1).toNat * 10)).off + 7, none⟩ = some (.int .u32 ((rd_T33 l0_1 x5_1).f4.f1)) ∧ w'.cell? ⟨(ad141.add ((x5_1).toNat * 10)).block, (ad141.add ((x5_1).toNat * 10)).off + 8, none⟩ = some (.int .u32 ((rd_T33 l0_1 x5_1).f5.f0)) ∧ w'.cell? ⟨(ad141.add ((x5_1).toNat * 10)).block, (ad141.add ((x5_1).toNat * 10)).off + 9, none⟩ = some (.int .u32 ((rd_T33 l0_1 x5_1).f5.f1))) (ds := []) #[false, false, false, false, false, false, false] (by kernel_rfl) rfl rfl ⟨(blk_cell BK139.out 0).trans rfl, (blk_cell BK139.out 1).trans rfl, (blk_cell BK140.out 0).trans rfl, (blk_cell BK140.out 1).trans rfl, (blk_cell BK140.out 2).trans rfl, (blk_cell BK140.out 3).trans rfl, (blk_cell BK140.out 4).trans rfl, (pw_cell_below HB.out hw141_0), (pw_cell_below HB.out hw141_1), (pw_cell_below HB.out hw141_2), (pw_cell_below HB.out hw141_3), (pw_cell_below HB.out hw141_4), (pw_cell_below HB.out hw141_5), (pw_cell_below HB.out hw141_6), (pw_cell_below HB.out hw141_7), (pw_cell_below HB.out hw141_8), (pw_cell_below HB.out hw141_9)⟩ (fun hHeld => ?_)
      generalize wr.drew = w11 at BK139 BK140 HB hx141_0 hx141_1 hx141_2 hx141_3 hx141_4 hx141_5 hx141_6 hx141_7 hx141_8 hx141_9 hHeld ⊢
      refine pure_ (i := 0) (N := some 13) (v := ?_) (a' := ?_) #[true, false, false, false, false, false, false] rfl rfl (by kernel_rfl) (fun _ _ _ h => h) (Or.inl ⟨by rfl, ?_⟩) ?_ ?_
      rotate_left
      ·intro w'
       go_simp
       with_reducible rfl
      rotate_left
      ·simp only [Act.put, List.setIfInBounds_toArray, List.set_cons_zero, List.set_cons_succ, i64_w, i32_w]
       rfl
      refine pure_ (i := 2) (N := some 15) (v := ?_) (a' := ?_) #[true, false, true, false, false, false, false] rfl rfl (by kernel_rfl) (fun _ _ _ h => h) (Or.inl ⟨by rfl, ?_⟩) ?_ ?_
      rotate_left
      ·intro w'
       go_simp
       with_reducible rfl
      rotate_left
      ·simp only [Act.put, List.setIfInBounds_toArray, List.set_cons_zero, List.set_cons_succ, i64_w, i32_w]
       rfl
      refine take_ (i := 1) (N := some 14) (v := ?_) (a' := ?_) #[true, true, true, false, false, false, false] rfl rfl (by kernel_rfl) (fun _ _ _ h => h) (Or.inl ⟨by rfl, ?_⟩) hHeld ?_ ?_
      rotate_left
      ·rintro w' ⟨s0, s1, s2, s3, s4, s5, s6, s7, s8, s9, s10, s11, s12, s13, s14, s15, s16⟩
       go_simp
       with_reducible rfl
      rotate_left
      ·simp only [Act.put, List.setIfInBounds_toArray, List.set_cons_zero, List.set_cons_succ, i64_w, i32_w]
       rfl
      refine pure_ (i := 3) (N := some 16) (v := ?_) (a' := ?_) #[true, true, true, true, false, false, false] rfl rfl (by kernel_rfl) (fun _ _ _ h => h) (Or.inl ⟨by rfl, ?_⟩) ?_ ?_
      rotate_left
      ·intro w'
       go_simp
       with_reducible rfl
      rotate_left
      ·simp only [Act.put, List.setIfInBounds_toArray, List.set_cons_zero, List.set_cons_succ, i64_w, i32_w]
       rfl
      refine take_ (i := 4) (N := some 17) (v := ?_) (a' := ?_) #[true, true, true, true, true, false, false] rfl rfl (by kernel_rfl) (fun _ _ _ h => h) (Or.inl ⟨by rfl, ?_⟩) hHeld ?_ ?_
      rotate_left
      ·rintro w' ⟨s0, s1, s2, s3, s4, s5, s6, s7, s8, s9, s10, s11, s12, s13, s14, s15, s16⟩
       go_simp
       with_reducible rfl
      rotate_left
      ·simp only [Act.put, List.setIfInBounds_toArray, List.set_cons_zero, List.set_cons_succ, i64_w, i32_w]
       rfl
      refine take_ (i := 5) (N := some 18) (v := ?_) (a' := ?_) #[true, true, true, true, true, true, false] rfl rfl (by kernel_rfl) (fun _ _ _ h => h) (Or.inl ⟨by rfl, ?_⟩) hHeld ?_ ?_
      rotate_left
      ·rintro w' ⟨s0, s1, s2, s3, s4, s5, s6, s7, s8, s9, s10, s11, s12, s13, s14, s15, s16⟩
       go_simp
       with_reducible rfl
      rotate_left
      ·simp only [Act.put, List.setIfInBounds_toArray, List.set_cons_zero, List.set_cons_succ, i64_w, i32_w]
       rfl
      refine one_ (i := 6) (N := some 19) #[true, true, true, true, true, true, true] rfl rfl (by kernel_rfl) (by decide) (fun K hK => ?_)
      refine goes_ Try.func17 (by kernel_rfl) rfl #[.agg #[.bool ((rd_T33 l0_1 x5_1).f0), .int .i64 ((rd_T33 l0_1 x5_1).f1), .int .u32 ((rd_T33 l0_1 x5_1).f2.f0), .int .i64 ((rd_T33 l0_1 x5_1).f2.f1), .int .u32 ((rd_T33 l0_1 x5_1).f3.f0), .int .i64 ((rd_T33 l0_1 x5_1).f3.f1), .int .u32 ((rd_T33 l0_1 x5_1).f4.f0), .int .u32 ((rd_T33 l0_1 x5_1).f4.f1), .int .u32 ((rd_T33 l0_1 x5_1).f5.f0), .int .u32 ((rd_T33 l0_1 x5_1).f5.f1)], .agg #[.int .u32 a1_0, .int .u32 a1_1, .int .u8 a1_2, .int .u16 a1_3, .int .u16 a1_4]] (by rfl) rfl rfl (by (try simp only [List.map_toArray, List.map_cons, List.map_nil]); first | done | rfl | (simp only [List.length_drop, List.length_take]; rfl)) ?_
      with_reducible refine (waymarkref10_Fits.calls k1 ((rd_T33 l0_1 x5_1).f0) ((rd_T33 l0_1 x5_1).f1) ((rd_T33 l0_1 x5_1).f2.f0) ((rd_T33 l0_1 x5_1).f2.f1) ((rd_T33 l0_1 x5_1).f3.f0) ((rd_T33 l0_1 x5_1).f3.f1) ((rd_T33 l0_1 x5_1).f4.f0) ((rd_T33 l0_1 x5_1).f4.f1) ((rd_T33 l0_1 x5_1).f5.f0) ((rd_T33 l0_1 x5_1).f5.f1) a1_0 a1_1 a1_2 a1_3 a1_4 true _ A7.out).mono ?_
      rintro e w12 ⟨rfl, hb⟩
      refine ⟨_, rfl, ?_⟩
      have n0_ := Aside0.mk (blk_below (g := gb139) (o := .cells #[.string a0_0, .slice (some ad141) l0_1.length c0_1] 24 (0, 0)) (by (with_reducible repeat (first | refine blk_drewN ?_ _ | refine blk_drew ?_ | refine blk_alloc ?_ _)); exact BK139.out) hb)
      have n1_ := Aside0.mk (blk_below (g := gb140) (o := .cells #[.int .u32 a1_0, .int .u32 a1_1, .int .u8 a1_2, .int .u16 a1_3, .int .u16 a1_4] 40 (0, 0)) (by (with_reducible repeat (first | refine blk_drewN ?_ _ | refine blk_drew ?_ | refine blk_alloc ?_ _)); exact BK140.out) hb)
      have n2_ := Aside0.mk (below_step (by repeat (first | (with_reducible first | exact HB.out | apply below_alloc | apply pw_below_drewN | apply below_drew1 | refine below_set ?_ GE139.out | refine below_set ?_ GE140.out) | exact HB.out)) hb)
      clear BK139
      clear BK140
      clear HB
      have BK139 := n0_
      have BK140 := n1_
      have HB := n2_
      clear n0_ n1_ n2_
      (try clear hb)
      (try clear hb2)
      (try clear hk)
      (try clear hi)
      refine hK.out _ _ ⟨(blk_cell BK139.out 0).trans rfl, (blk_cell BK139.out 1).trans rfl, (blk_cell BK140.out 0).trans rfl, (blk_cell BK140.out 1).trans rfl, (blk_cell BK140.out 2).trans rfl, (blk_cell BK140.out 3).trans rfl, (blk_cell BK140.out 4).trans rfl, (pw_cell_below HB.out hw141_0), (pw_cell_below HB.out hw141_1), (pw_cell_below HB.out hw141_2), (pw_cell_below HB.out hw141_3), (pw_cell_below HB.out hw141_4), (pw_cell_below HB.out hw141_5), (pw_cell_below HB.out hw141_6), (pw_cell_below HB.out hw141_7), (pw_cell_below HB.out hw141_8), (pw_cell_below HB.out hw141_9)⟩ (fun hHeld => ?_)
      clear hK K
      refine norm_ (a' := ?_) ?_ ?_
      rotate_left
      ·show Act.put _ (some 19) _ = _
       simp only [Act.put, List.setIfInBounds_toArray, List.set_cons_zero, List.set_cons_succ, i64_w, i32_w]
       rfl
      refine done_ (by kernel_rfl) ?_
      try go_wp2
      go_ret
      exact ⟨by first | rfl | (simp [errW_none, errW_some] <;> rfl) | (simp [*, errW_none, errW_some] <;> rfl), by repeat (first | (with_reducible first | exact HB.out | apply below_alloc | apply pw_below_drewN | apply below_drew1 | refine below_set ?_ GE139.out | refine below_set ?_ GE140.out) | exact HB.out)⟩
     ·replace c8 := Bool.eq_false_iff.mpr c8
      subst c8
      have H1 : (waymarkref10_Decides.l0 k1 (wrap64 (x5_1 + 1)) a0_0 l0_1 a1_0 a1_1 a1_2 a1_3 a1_4) = some r := by rw [if_neg (show ¬ (false = true) by decide)] at H; exact H
      clear H
      have H := H1
      clear H1
      have H' := Aside0.mk H
      clear H
      have hnb13 := NB139_140.out
      have hnc13 := NB140_139.out
      have hcz14_0 : wr.cell? ⟨gb139, 0, none⟩ = some (.string a0_0) := (blk_cell BK139.out 0).trans rfl
      have hcz14_1 : wr.cell? ⟨gb139, 1, none⟩ = some (.slice A0_1 l0_1.length c0_1) := (blk_cell BK139.out 1).trans rfl
      have hfz14_0 := blk_frozen BK139.out 0
      have hfz14_1 := blk_frozen BK139.out 1
      try go_wp2
      have n0_ := Aside0.mk (blk_drew BK139.out)
      have n1_ := Aside0.mk (blk_drew BK140.out)
      have n2_ := Aside0.mk (below_drew1 HB.out)
      clear BK139
      clear BK140
      clear HB
      have BK139 := n0_
      have BK140 := n1_
      have HB := n2_
      clear n0_ n1_ n2_
      have p141 : 0 ≤ (x5_1 : Int) := of_decide_eq_true (by first | (with_reducible assumption) | assumption)
      have q141 : x5_1 < (l0_1.length : Int) := of_decide_eq_true (by first | (with_reducible assumption) | assumption)
      obtain ⟨ad141, e141, hx141_0, hx141_1, hx141_2, hx141_3, hx141_4, hx141_5, hx141_6, hx141_7, hx141_8, hx141_9⟩ := at_T33 HR0_1.out x5_1 p141 q141
      have hw141_9 := hx141_9
      have hw141_8 := hx141_8
      have hw141_7 := hx141_7
      have hw141_6 := hx141_6
      have hw141_5 := hx141_5
      have hw141_4 := hx141_4
      have hw141_3 := hx141_3
      have hw141_2 := hx141_2
      have hw141_1 := hx141_1
      have hw141_0 := hx141_0
      cases e141
      replace hx141_0 := pw_cell_below HB.out hx141_0
      replace hx141_1 := pw_cell_below HB.out hx141_1
      replace hx141_2 := pw_cell_below HB.out hx141_2
      replace hx141_3 := pw_cell_below HB.out hx141_3
      replace hx141_4 := pw_cell_below HB.out hx141_4
      replace hx141_5 := pw_cell_below HB.out hx141_5
      replace hx141_6 := pw_cell_below HB.out hx141_6
      replace hx141_7 := pw_cell_below HB.out hx141_7
      replace hx141_8 := pw_cell_below HB.out hx141_8
      replace hx141_9 := pw_cell_below HB.out hx141_9
      replace p141 := eq_true p141
      replace q141 := eq_true q141
      refine start_ (n := 7) (S := fun w' => w'.cell? ⟨gb139, 0, none⟩ = some (.string a0_0) ∧ w'.cell? ⟨gb139, 1, none⟩ = some (.slice (some ad141) l0_1.length c0_1) ∧ w'.cell? ⟨gb140, 0, none⟩ = some (.int .u32 a1_0) ∧ w'.cell? ⟨gb140, 1, none⟩ = some (.int .u32 a1_1) ∧ w'.cell? ⟨gb140, 2, none⟩ = some (.int .u8 a1_2) ∧ w'.cell? ⟨gb140, 3, none⟩ = some (.int .u16 a1_3) ∧ w'.cell? ⟨gb140, 4, none⟩ = some (.int .u16 a1_4) ∧ w'.cell? (ad141.add ((x5_1).toNat * 10)) = some (.bool ((rd_T33 l0_1 x5_1).f0)) ∧ w'.cell? ⟨(ad141.add ((x5_1).toNat * 10)).block, (ad141.add ((x5_1).toNat * 10)).off + 1, none⟩ = some (.int .i64 ((rd_T33 l0_1 x5_1).f1)) ∧ w'.cell? ⟨(ad141.add ((x5_1).toNat * 10)).block, (ad141.add ((x5_1).toNat * 10)).off + 2, none⟩ = some (.int .u32 ((rd_T33 l0_1 x5_1).f2.f0)) ∧ w'.cell? ⟨(ad141.add ((x5_1).toNat * 10)).block, (ad141.add ((x5_1).toNat * 10)).off + 3, none⟩ = some (.int .i64 ((rd_T33 l0_1 x5_1).f2.f1)) ∧ w'.cell? ⟨(ad141.add ((x5_1).toNat * 10)).block, (ad141.add ((x5_1).toNat * 10)).off + 4, none⟩ = some (.int .u32 ((rd_T33 l0_1 x5_1).f3.f0)) ∧ w'.cell? ⟨(ad141.add ((x5_1).toNat * 10)).block, (ad141.add ((x5_1).toNat * 10)).off + 5, none⟩ = some (.int .i64 ((rd_T33 l0_1 x5_1).f3.f1)) ∧ w'.cell? ⟨(ad141.add ((x5_1).toNat * 10)).block, (ad141.add ((x5_1).toNat * 10)).off + 6, none⟩ = some (.int .u32 ((rd_T33 l0_1 x5_1).f4.f0)) ∧ w'.cell? ⟨(ad141.add ((x5_1).toNat * 10)).block, (ad141.add ((x5_1).toNat * 10)).off + 7, none⟩ = some (.int .u32 ((rd_T33 l0_1 x5_1).f4.f1)) ∧ w'.cell? ⟨(ad141.add ((x5_1).toNat * 10)).block, (ad141.add ((x5_1).toNat * 10)).off + 8, none⟩ = some (.int .u32 ((rd_T33 l0_1 x5_1).f5.f0)) ∧ w'.cell? ⟨(ad141.add ((x5_1).toNat * 10)).block, (ad141.add ((x5_1).toNat * 10)).off + 9, none⟩ = some (.int .u32 ((rd_T33 l0_1 x5_1).f5.f1))) (ds := []) #[false, false, false, false, false, false, false] (by kernel_rfl) rfl rfl ⟨(blk_cell BK139.out 0).trans rfl, (blk_cell BK139.out 1).trans rfl, (blk_cell BK140.out 0).trans rfl, (blk_cell BK140.out 1).trans rfl, (blk_cell BK140.out 2).trans rfl, (blk_cell BK140.out 3).trans rfl, (blk_cell BK140.out 4).trans rfl, (pw_cell_below HB.out hw141_0), (pw_cell_below HB.out hw141_1), (pw_cell_below HB.out hw141_2), (pw_cell_below HB.out hw141_3), (pw_cell_below HB.out hw141_4), (pw_cell_below HB.out hw141_5), (pw_cell_below HB.out hw141_6), (pw_cell_below HB.out hw141_7), (pw_cell_below HB.out hw141_8), (pw_cell_below HB.out hw141_9)⟩ (fun hHeld => ?_)
      generalize wr.drew = w15 at BK139 BK140 HB hx141_0 hx141_1 hx141_2 hx141_3 hx141_4 hx141_5 hx141_6 hx141_7 hx141_8 hx141_9 hHeld ⊢
      refine pure_ (i := 0) (N := some 13) (v := ?_) (a' := ?_) #[true, false, false, false, false, false, false] rfl rfl (by kernel_rfl) (fun _ _ _ h => h) (Or.inl ⟨by rfl, ?_⟩) ?_ ?_
      rotate_left
      ·intro w'
       go_simp
       with_reducible rfl
      rotate_left
      ·simp only [Act.put, List.setIfInBounds_toArray, List.set_cons_zero, List.set_cons_succ, i64_w, i32_w]
       rfl
      refine pure_ (i := 2) (N := some 15) (v := ?_) (a' := ?_) #[true, false, true, false, false, false, false] rfl rfl (by kernel_rfl) (fun _ _ _ h => h) (Or.inl ⟨by rfl, ?_⟩) ?_ ?_
      rotate_left
      ·intro w'
       go_simp
       with_reducible rfl
      rotate_left
      ·simp only [Act.put, List.setIfInBounds_toArray, List.set_cons_zero, List.set_cons_succ, i64_w, i32_w]
       rfl
      refine take_ (i := 1) (N := some 14) (v := ?_) (a' := ?_) #[true, true, true, false, false, false, false] rfl rfl (by kernel_rfl) (fun _ _ _ h => h) (Or.inl ⟨by rfl, ?_⟩) hHeld ?_ ?_
      rotate_left
      ·rintro w' ⟨s0, s1, s2, s3, s4, s5, s6, s7, s8, s9, s10, s11, s12, s13, s14, s15, s16⟩
       go_simp
       with_reducible rfl
      rotate_left
      ·simp only [Act.put, List.setIfInBounds_toArray, List.set_cons_zero, List.set_cons_succ, i64_w, i32_w]
       rfl
      refine pure_ (i := 3) (N := some 16) (v := ?_) (a' := ?_) #[true, true, true, true, false, false, false] rfl rfl (by kernel_rfl) (fun _ _ _ h => h) (Or.inl ⟨by rfl, ?_⟩) ?_ ?_
      rotate_left
      ·intro w'
       go_simp
       with_reducible rfl
      rotate_left
      ·simp only [Act.put, List.setIfInBounds_toArray, List.set_cons_zero, List.set_cons_succ, i64_w, i32_w]
       rfl
      refine take_ (i := 4) (N := some 17) (v := ?_) (a' := ?_) #[true, true, true, true, true, false, false] rfl rfl (by kernel_rfl) (fun _ _ _ h => h) (Or.inl ⟨by rfl, ?_⟩) hHeld ?_ ?_
      rotate_left
      ·rintro w' ⟨s0, s1, s2, s3, s4, s5, s6, s7, s8, s9, s10, s11, s12, s13, s14, s15, s16⟩
       go_simp
       with_reducible rfl
      rotate_left
      ·simp only [Act.put, List.setIfInBounds_toArray, List.set_cons_zero, List.set_cons_succ, i64_w, i32_w]
       rfl
      refine take_ (i := 5) (N := some 18) (v := ?_) (a' := ?_) #[true, true, true, true, true, true, false] rfl rfl (by kernel_rfl) (fun _ _ _ h => h) (Or.inl ⟨by rfl, ?_⟩) hHeld ?_ ?_
      rotate_left
      ·rintro w' ⟨s0, s1, s2, s3, s4, s5, s6, s7, s8, s9, s10, s11, s12, s13, s14, s15, s16⟩
       go_simp
       with_reducible rfl
      rotate_left
      ·simp only [Act.put, List.setIfInBounds_toArray, List.set_cons_zero, List.set_cons_succ, i64_w, i32_w]
       rfl
      refine one_ (i := 6) (N := some 19) #[true, true, true, true, true, true, true] rfl rfl (by kernel_rfl) (by decide) (fun K hK => ?_)
      refine goes_ Try.func17 (by kernel_rfl) rfl #[.agg #[.bool ((rd_T33 l0_1 x5_1).f0), .int .i64 ((rd_T33 l0_1 x5_1).f1), .int .u32 ((rd_T33 l0_1 x5_1).f2.f0), .int .i64 ((rd_T33 l0_1 x5_1).f2.f1), .int .u32 ((rd_T33 l0_1 x5_1).f3.f0), .int .i64 ((rd_T33 l0_1 x5_1).f3.f1), .int .u32 ((rd_T33 l0_1 x5_1).f4.f0), .int .u32 ((rd_T33 l0_1 x5_1).f4.f1), .int .u32 ((rd_T33 l0_1 x5_1).f5.f0), .int .u32 ((rd_T33 l0_1 x5_1).f5.f1)], .agg #[.int .u32 a1_0, .int .u32 a1_1, .int .u8 a1_2, .int .u16 a1_3, .int .u16 a1_4]] (by rfl) rfl rfl (by (try simp only [List.map_toArray, List.map_cons, List.map_nil]); first | done | rfl | (simp only [List.length_drop, List.length_take]; rfl)) ?_
      with_reducible refine (waymarkref10_Fits.calls k1 ((rd_T33 l0_1 x5_1).f0) ((rd_T33 l0_1 x5_1).f1) ((rd_T33 l0_1 x5_1).f2.f0) ((rd_T33 l0_1 x5_1).f2.f1) ((rd_T33 l0_1 x5_1).f3.f0) ((rd_T33 l0_1 x5_1).f3.f1) ((rd_T33 l0_1 x5_1).f4.f0) ((rd_T33 l0_1 x5_1).f4.f1) ((rd_T33 l0_1 x5_1).f5.f0) ((rd_T33 l0_1 x5_1).f5.f1) a1_0 a1_1 a1_2 a1_3 a1_4 false _ A7.out).mono ?_
      rintro e w16 ⟨rfl, hb⟩
      refine ⟨_, rfl, ?_⟩
      have n0_ := Aside0.mk (blk_below (g := gb139) (o := .cells #[.string a0_0, .slice (some ad141) l0_1.length c0_1] 24 (0, 0)) (by (with_reducible repeat (first | refine blk_drewN ?_ _ | refine blk_drew ?_ | refine blk_alloc ?_ _)); exact BK139.out) hb)
      have n1_ := Aside0.mk (blk_below (g := gb140) (o := .cells #[.int .u32 a1_0, .int .u32 a1_1, .int .u8 a1_2, .int .u16 a1_3, .int .u16 a1_4] 40 (0, 0)) (by (with_reducible repeat (first | refine blk_drewN ?_ _ | refine blk_drew ?_ | refine blk_alloc ?_ _)); exact BK140.out) hb)
      have n2_ := Aside0.mk (below_step (by repeat (first | (with_reducible first | exact HB.out | apply below_alloc | apply pw_below_drewN | apply below_drew1 | refine below_set ?_ GE139.out | refine below_set ?_ GE140.out) | exact HB.out)) hb)
      clear BK139
      clear BK140
      clear HB
      have BK139 := n0_
      have BK140 := n1_
      have HB := n2_
      clear n0_ n1_ n2_
      (try clear hb)
      (try clear hb2)
      (try clear hk)
      (try clear hi)
      refine hK.out _ _ ⟨(blk_cell BK139.out 0).trans rfl, (blk_cell BK139.out 1).trans rfl, (blk_cell BK140.out 0).trans rfl, (blk_cell BK140.out 1).trans rfl, (blk_cell BK140.out 2).trans rfl, (blk_cell BK140.out 3).trans rfl, (blk_cell BK140.out 4).trans rfl, (pw_cell_below HB.out hw141_0), (pw_cell_below HB.out hw141_1), (pw_cell_below HB.out hw141_2), (pw_cell_below HB.out hw141_3), (pw_cell_below HB.out hw141_4), (pw_cell_below HB.out hw141_5), (pw_cell_below HB.out hw141_6), (pw_cell_below HB.out hw141_7), (pw_cell_below HB.out hw141_8), (pw_cell_below HB.out hw141_9)⟩ (fun hHeld => ?_)
      clear hK K
      refine norm_ (a' := ?_) ?_ ?_
      rotate_left
      ·show Act.put _ (some 19) _ = _
       simp only [Act.put, List.setIfInBounds_toArray, List.set_cons_zero, List.set_cons_succ, i64_w, i32_w]
       rfl
      refine done_ (by kernel_rfl) ?_
      try go_wp2
      go_roundg k1
      case measure => have := HK1.out; omega
      case rel => exact ⟨(wrap64 (x5_1 + 1)), (by first | rfl | (simp; done) | (simp [*]; done)), H', ⟨by have := HK1.out; omega⟩, ⟨by (with_reducible repeat (first | refine blk_drewN ?_ _ | refine blk_drew ?_ | refine blk_alloc ?_ _)); exact BK139.out⟩, ⟨by (with_reducible repeat (first | refine blk_drewN ?_ _ | refine blk_drew ?_ | refine blk_alloc ?_ _)); exact BK140.out⟩, ⟨by repeat (first | (with_reducible first | exact HB.out | apply below_alloc | apply pw_below_drewN | apply below_drew1 | refine below_set ?_ GE139.out | refine below_set ?_ GE140.out) | exact HB.out)⟩⟩
    ·rw [if_neg c6] at H
     exact absurd H (by simp)
   ·rw [if_neg c5] at H
    have c5b0 : decide (x5_1 < (l0_1.length : Int)) = false := decide_eq_false c5
    clear c5
    obtain rfl := Option.some.inj H
    have hnb17 := NB139_140.out
    have hnc17 := NB140_139.out
    have hcz18_0 : wr.cell? ⟨gb139, 0, none⟩ = some (.string a0_0) := (blk_cell BK139.out 0).trans rfl
    have hcz18_1 : wr.cell? ⟨gb139, 1, none⟩ = some (.slice A0_1 l0_1.length c0_1) := (blk_cell BK139.out 1).trans rfl
    have hfz18_0 := blk_frozen BK139.out 0
    have hfz18_1 := blk_frozen BK139.out 1
    go_wp2
    go_ret
    exact ⟨by first | rfl | (simp [errW_none, errW_some] <;> rfl) | (simp [*, errW_none, errW_some] <;> rfl), by repeat (first | (with_reducible first | exact HB.out | apply below_alloc | apply pw_below_drewN | apply below_drew1 | refine below_set ?_ GE139.out | refine below_set ?_ GE140.out) | exact HB.out)⟩

end Go.Proofs.Ytmoagoopdfpcnaa.Q
