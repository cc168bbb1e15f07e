/- slices.SortFunc at spans, by the pair's two numbers, where the row is one's own. -/
import Derived.Test.YtmoagoopdfpcnaaDoorQx3
import Derived.Test.YtmoagoopdfpcnaaDoorQx0
import Derived.Sort.Grow
import Derived.Lib.Small
import Derived.Shelf.SlGeneric
import Derived.Shelf.SlLaysF0
import Derived.Ground.SlsfProg
import Derived.Test.YtmoagoopdfpcnaaDoorProg
import Derived.Shelf.SlSortCmp.WholeK
import Derived.Sort.LotA
namespace Go.Proofs.YtmoagoopdfpcnaaDoor.Q
open Go.RowKit Go.Proofs.YtmoagoopdfpcnaaDoorW.PrintWords Go.Proofs.YtmoagoopdfpcnaaDoorW.PrintLast Go.Proofs.YtmoagoopdfpcnaaDoorW.PrintMore Go.Sort
attribute [local go_sem] max2_int min2_int max_two min_two max_three min_three max_four min_four
set_option linter.unusedVariables false
set_option linter.unusedSimpArgs false

/-- w' is w some draws on, with some blocks laid behind it. -/
def Gr (w w' : World) : Prop := ∃ q os, w' = grow (w.drewN q) os
theorem Gr.refl (w : World) : Gr w w := ⟨0, #[], by rw [grow_empty]; rfl⟩
theorem Gr.alloc {w w' : World} (h : Gr w w') (o : Obj) : Gr w (w'.alloc o) := by
  obtain ⟨q, os, rfl⟩ := h
  exact ⟨q, os ++ #[o], by rw [alloc_eq_grow, grow_grow]⟩
theorem Gr.drewN {w w' : World} (h : Gr w w') (n : Nat) : Gr w (w'.drewN n) := by
  obtain ⟨q, os, rfl⟩ := h
  exact ⟨q + n, os, by rw [← World.drewN_drewN]; rfl⟩
theorem Gr.drew {w w' : World} (h : Gr w w') : Gr w w'.drew := h.drewN 1

section
variable {P : Program} {ops : Array Oper} {rest : List Oper} {o : Oper} {a : Act} {Q : Exit → Act → World → Prop} {Kc : Act → World → Prop}
theorem box_exact {W : World} (hgd : o.guard = none) {N : Tmp} (_hd : o.dst = some N) {cs : Array Value} {t : TypeId}
    (hrun : (execOp a.eval o).run P W = .ok (.value (.pointer (some ⟨W.heap.size, 0, none⟩))) (W.alloc (.cells cs t (0, 0))))
    (h : ∀ g, g = W.heap.size → ∀ w1, w1 = W.alloc (.cells cs t (0, 0)) → w1.heap[g]? = some (.cells cs t (0, 0)) → Below W.heap.size W w1 → wpList P ops Q rest (a.put o.dst (.pointer (some ⟨g, 0, none⟩))) w1) : wpList P ops Q (o :: rest) a W :=
  Kd.event_run hgd hrun (h _ rfl _ rfl (blk_new W _) (below_alloc (Below.refl _ _) _))
theorem R_lit_exact {α : Type} (d : Kd α) {w0 W : World} (base e : Nat) (hw : Region.wanted o (yielded ops a.tmps) = true) {N : Tmp} (_hd : o.dst = some N) {xs : List α} {inner : List Value} {ok okp : Nat → Prop}
    (hrun : (execOp a.eval o).run P W = .ok (.value (.slice (some ⟨W.heap.size, 0, none⟩) xs.length xs.length)) (W.alloc (.cells inner.toArray e)))
    (hrep : Reps (d.M W base okp) d.sz xs inner) (hok : ∀ k, okp k → ok k) (hfresh : ok W.heap.size) (HB : Below base w0 W) (hbase : base ≤ W.heap.size) (hm : xs.length ≤ 9223372036854775807)
    (h : ∀ v1 w1, w1 = W.alloc (.cells inner.toArray e) → d.R e w1 base ok v1 xs → Below base w0 w1 → W.grownBy w1 none → (∃ b, v1.ownBlock = some b ∧ W.heap.size ≤ b) → Kc (a.put o.dst v1) w1) : if Region.wanted o (yielded ops a.tmps) = true then Oper.wp P o a W Kc Q else Kc (a.put o.dst undef) W := by
  refine event_step hw hrun (h _ _ rfl ⟨fun k hk => ?_, inner, ?_, ?_⟩ (HB.alloc hbase _) (World.grownBy_alloc W _ none) ⟨W.heap.size, by simp [Value.ownBlock], Nat.le_refl _⟩)
  · have : W.heap.size = k := by simpa [Value.ownBlock] using hk
    subst this
    exact hfresh
  · have h2 := World.ownsRow_lit (base := base) (e := e) (size := d.sz) W inner.toArray xs.length hbase (by simpa [maxLen] using hm) (by simpa using hrep.1)
    simpa using h2
  · refine hrep.imp_ (fun p c hp => d.M_mono (fun k hk => ⟨hok k hk.1, fun he => ?_⟩) (Kd.M_below (d.M_bound hp) (below_alloc (Below.refl _ _) _)))
    have h3 : k = W.heap.size := by simpa [Value.ownBlock] using he
    have := hk.2.2.1
    omega
end

def orI (a b : Int) : Int := if a ≠ 0 then a else b
theorem or2 (a b : Int) : cmp_Or_int.f 3 [a, b] = some (orI a b) := by
  have w1 : wrap64 1 = 1 := by kernel_rfl
  have w2 : wrap64 2 = 2 := by kernel_rfl
  have r0 : rd [a, b] 0 = a := rfl
  have r1 : rd [a, b] 1 = b := rfl
  unfold orI
  by_cases ha : a = 0
  · by_cases hb : b = 0 <;> simp [cmp_Or_int.f, cmp_Or_int.l0, w1, w2, r0, r1] <;> simp [ha, hb]
  · simp [cmp_Or_int.f, cmp_Or_int.l0, w1, w2, r0, r1] <;> simp [ha]
theorem cmpu (a b : Int) : cmp_Compare_uint32.f a b = some (Lib.compareInt a b) := by
  unfold cmp_Compare_uint32.f cmp_isNaN_uint32.f Lib.compareInt
  by_cases h1 : a < b
  · simp [h1]
  · by_cases h2 : b < a <;> simp [h1, h2]
def spanCmp.T1 : Bool × List (List Nat × List Nat) := (true, [([], []), ([0], [0]), ([], []), ([2], [2]), ([1, 3], [1, 3]), ([], []), ([5], [5]), ([], []), ([7], [7]), ([6, 8, 4], [6, 8]), ([4, 9], [4, 9]), ([10, 9], [10]), ([11, 11, 0, 1, 2, 3, 4, 5, 6, 7, 8, 9, 10, 11], [11])])
def spanCmp.B1 : List Nat := [0, 1, 0, 4, 15, 0, 32, 0, 128, 511, 1023, 2047, 4095]
theorem spanCmp.tab1 : rtab .any (opsOf Tryd.f68 1) = spanCmp.T1 := by kernel_rfl
theorem spanCmp.bits1 : waitsOk spanCmp.T1.2 spanCmp.B1 = true := by kernel_rfl
set_option maxHeartbeats 8000000 in
set_option maxRecDepth 100000 in
theorem spanCmp.calls (a0_0 a0_1 a1_0 a1_1 : Int) (w : World) :
  Calls Tryd.prog 68 #[.agg #[.int .u32 a0_0, .int .u32 a0_1], .agg #[.int .u32 a1_0, .int .u32 a1_1]] w fun e w' => e = .returned (.int .i64 (orI (Lib.compareInt a0_0 a1_0) (Lib.compareInt a0_1 a1_1))) ∧ Gr w w' := by
 have hu36 := Tryd.underlying36
 have HB := Aside0.mk (Below.refl w.heap.size w)
 have G := Aside0.mk (Gr.refl w)
 obtain ⟨k, hk⟩ : ∃ k, k = 3 := ⟨_, rfl⟩
 obtain ⟨t705, ht705⟩ : ∃ t, t = Lib.compareInt a0_0 a1_0 := ⟨_, rfl⟩
 obtain ⟨t706, ht706⟩ : ∃ t, t = Lib.compareInt a0_1 a1_1 := ⟨_, rfl⟩
 rw [← ht705, ← ht706]
 have A3 := Aside0.mk ((cmpu a0_0 a1_0).trans (congrArg some ht705.symm))
 have A4 := Aside0.mk ((cmpu a0_1 a1_1).trans (congrArg some ht706.symm))
 obtain ⟨y707, hy707⟩ : ∃ y_ : List Int, y_ = (([t705, t706] : List Int)) := ⟨_, rfl⟩
 obtain ⟨t710, ht710⟩ : ∃ t, t = orI t705 t706 := ⟨_, rfl⟩
 rw [← ht710]
 have A5 := Aside0.mk (show cmp_Or_int.f k y707 = some t710 by rw [hk, hy707, ht710]; exact or2 _ _)
 have Ny707 := Aside0.mk hy707
 clear hy707 hk ht705 ht706 ht710
 go_enter Tryd.func68, Tryd.ntmps68
 try go_wp2_with (first | ((with_reducible refine gate_dst (N := 2) rfl ?_); refine box_exact ?hg (N := 2) ?hd (cs := #[.int .u32 a0_0, .int .u32 a0_1]) (t := 36) ?hr ?_; (case hd => rfl); (case hg => rfl); (case hr => first | (go_simp; done) | (go_simp; rfl)); intro gb703 hg w6 hx_ hbox hb; have m_ := Aside0.mk (by rw [hx_]; exact G.out.alloc _ : Gr w w6); clear G; have G := m_; clear m_ hx_; have n0_ := Aside0.mk (below_step (by repeat (first | (with_reducible first | exact HB.out | apply below_alloc | apply pw_below_drewN | apply below_drew1) | exact HB.out)) hb); have n1_ := Aside0.mk (hbox); have n2_ := Aside0.mk ((by rw [hg]; exact (below_size (by repeat (first | (with_reducible first | exact HB.out | apply below_alloc | apply pw_below_drewN | apply below_drew1) | exact HB.out))) : w.heap.size ≤ gb703)); have n3_ := Aside0.mk ((by rw [hg]; exact (below_size (by repeat (first | (with_reducible first | exact HB.out | apply below_alloc | apply pw_below_drewN | apply below_drew1) | exact HB.out))) : w.heap.size ≤ gb703)); clear HB; have HB := n0_; have BK703 := n1_; have GW703 := n2_; have GE703 := n3_; clear n0_ n1_ n2_ n3_; clear hb hbox hg) | ((with_reducible refine gate_dst (N := 3) rfl ?_); refine box_exact ?hg (N := 3) ?hd (cs := #[.int .u32 a1_0, .int .u32 a1_1]) (t := 36) ?hr ?_; (case hd => rfl); (case hg => rfl); (case hr => first | (go_simp; done) | (go_simp; rfl)); intro gb704 hg w7 hx_ hbox hb; have m_ := Aside0.mk (by rw [hx_]; exact G.out.alloc _ : Gr w w7); clear G; have G := m_; clear m_ hx_; have n0_ := Aside0.mk (blk_below (g := gb703) (o := .cells #[.int .u32 a0_0, .int .u32 a0_1] 36 (0, 0)) (by (with_reducible repeat (first | refine blk_drewN ?_ _ | refine blk_drew ?_ | refine blk_alloc ?_ _)); exact BK703.out) hb); have n1_ := Aside0.mk (below_step (by repeat (first | (with_reducible first | exact HB.out | apply below_alloc | apply pw_below_drewN | apply below_drew1 | refine below_set ?_ GE703.out) | exact HB.out)) hb); have n2_ := Aside0.mk (hbox); have n3_ := Aside0.mk ((by rw [hg]; exact (below_size (by repeat (first | (with_reducible first | exact HB.out | apply below_alloc | apply pw_below_drewN | apply below_drew1 | refine below_set ?_ GE703.out) | exact HB.out))) : w.heap.size ≤ gb704)); have n4_ := Aside0.mk ((by rw [hg]; exact (below_size (by repeat (first | (with_reducible first | exact HB.out | apply below_alloc | apply pw_below_drewN | apply below_drew1 | refine below_set ?_ GE703.out) | exact HB.out))) : w.heap.size ≤ gb704)); have n5_ := Aside0.mk ((by rw [hg]; exact Nat.ne_of_lt (blk_lt (g := gb703) (o := .cells #[.int .u32 a0_0, .int .u32 a0_1] 36 (0, 0)) (by (with_reducible repeat (first | refine blk_drewN ?_ _ | refine blk_drew ?_ | refine blk_alloc ?_ _)); exact BK703.out)) : gb703 ≠ gb704)); have n6_ := Aside0.mk ((by rw [hg]; exact Nat.ne_of_gt (blk_lt (g := gb703) (o := .cells #[.int .u32 a0_0, .int .u32 a0_1] 36 (0, 0)) (by (with_reducible repeat (first | refine blk_drewN ?_ _ | refine blk_drew ?_ | refine blk_alloc ?_ _)); exact BK703.out)) : gb704 ≠ gb703)); clear BK703; clear HB; have BK703 := n0_; have HB := n1_; have BK704 := n2_; have GW704 := n3_; have GE704 := n4_; have NB703_704 := n5_; have NB704_703 := n6_; clear n0_ n1_ n2_ n3_ n4_ n5_ n6_; clear hb hbox hg))
 have m_ := Aside0.mk G.out.drew; clear G; have G := m_; clear m_
 have n0_ := Aside0.mk (blk_drew BK703.out)
 have n1_ := Aside0.mk (blk_drew BK704.out)
 have n2_ := Aside0.mk (below_drew1 HB.out)
 clear BK703
 clear BK704
 clear HB
 have BK703 := n0_
 have BK704 := n1_
 have HB := n2_
 clear n0_ n1_ n2_
 refine start_ (n := 13) (S := fun w' => w'.cell? ⟨gb703, 0, none⟩ = some (.int .u32 a0_0) ∧ w'.cell? ⟨gb703, 1, none⟩ = some (.int .u32 a0_1) ∧ w'.cell? ⟨gb704, 0, none⟩ = some (.int .u32 a1_0) ∧ w'.cell? ⟨gb704, 1, none⟩ = some (.int .u32 a1_1)) (ds := []) #[false, false, false, false, false, false, false, false, false, false, false, false, false] (by kernel_rfl) rfl rfl ⟨(blk_cell BK703.out 0).trans rfl, (blk_cell BK703.out 1).trans rfl, (blk_cell BK704.out 0).trans rfl, (blk_cell BK704.out 1).trans rfl⟩ (fun hHeld => ?_); refine with_tabW spanCmp.tab1 spanCmp.bits1 (fun HT_ HW_ => ?_)
 generalize w7.drew = w8 at BK703 BK704 HB hHeld G ⊢
 refine pure_ (i := 0) (N := some 5) (v := ?_) (a' := ?_) #[true, false, false, false, false, false, false, false, false, false, false, false, false] rfl rfl (any_of HT_.out (by kernel_rfl)) (fun _ _ _ h => h) (Or.inl ⟨by rfl, ?_⟩) ?_ ?_
 rotate_left
 ·intro w'
  go_simp
  with_reducible rfl
 rotate_left
 ·simp only [Act.put, List.setIfInBounds_toArray, List.set_cons_zero, List.set_cons_succ, i64_w, i32_w]
  rfl
 refine pure_ (i := 2) (N := some 7) (v := ?_) (a' := ?_) #[true, false, true, false, false, false, false, false, false, false, false, false, false] rfl rfl (any_of HT_.out (by kernel_rfl)) (fun _ _ _ h => h) (Or.inl ⟨by rfl, ?_⟩) ?_ ?_
 rotate_left
 ·intro w'
  go_simp
  with_reducible rfl
 rotate_left
 ·simp only [Act.put, List.setIfInBounds_toArray, List.set_cons_zero, List.set_cons_succ, i64_w, i32_w]
  rfl
 refine pure_ (i := 5) (N := some 10) (v := ?_) (a' := ?_) #[true, false, true, false, false, true, false, false, false, false, false, false, false] rfl rfl (any_of HT_.out (by kernel_rfl)) (fun _ _ _ h => h) (Or.inl ⟨by rfl, ?_⟩) ?_ ?_
 rotate_left
 ·intro w'
  go_simp
  with_reducible rfl
 rotate_left
 ·simp only [Act.put, List.setIfInBounds_toArray, List.set_cons_zero, List.set_cons_succ, i64_w, i32_w]
  rfl
 refine pure_ (i := 7) (N := some 12) (v := ?_) (a' := ?_) #[true, false, true, false, false, true, false, true, false, false, false, false, false] rfl rfl (any_of HT_.out (by kernel_rfl)) (fun _ _ _ h => h) (Or.inl ⟨by rfl, ?_⟩) ?_ ?_
 rotate_left
 ·intro w'
  go_simp
  with_reducible rfl
 rotate_left
 ·simp only [Act.put, List.setIfInBounds_toArray, List.set_cons_zero, List.set_cons_succ, i64_w, i32_w]
  rfl
 refine take_ (i := 1) (N := some 6) (v := ?_) (a' := ?_) #[true, true, true, false, false, true, false, true, false, false, false, false, false] rfl rfl (take_ofW HT_.out HW_.out (by kernel_rfl)) (fun _ _ _ h => h) (Or.inl ⟨by rfl, ?_⟩) hHeld ?_ ?_
 rotate_left
 ·rintro w' ⟨s0, s1, s2, s3⟩
  go_simp
  with_reducible rfl
 rotate_left
 ·simp only [Act.put, List.setIfInBounds_toArray, List.set_cons_zero, List.set_cons_succ, i64_w, i32_w]
  rfl
 refine take_ (i := 3) (N := some 8) (v := ?_) (a' := ?_) #[true, true, true, true, false, true, false, true, false, false, false, false, false] rfl rfl (take_ofW HT_.out HW_.out (by kernel_rfl)) (fun _ _ _ h => h) (Or.inl ⟨by rfl, ?_⟩) hHeld ?_ ?_
 rotate_left
 ·rintro w' ⟨s0, s1, s2, s3⟩
  go_simp
  with_reducible rfl
 rotate_left
 ·simp only [Act.put, List.setIfInBounds_toArray, List.set_cons_zero, List.set_cons_succ, i64_w, i32_w]
  rfl
 refine take_ (i := 6) (N := some 11) (v := ?_) (a' := ?_) #[true, true, true, true, false, true, true, true, false, false, false, false, false] rfl rfl (take_ofW HT_.out HW_.out (by kernel_rfl)) (fun _ _ _ h => h) (Or.inl ⟨by rfl, ?_⟩) hHeld ?_ ?_
 rotate_left
 ·rintro w' ⟨s0, s1, s2, s3⟩
  go_simp
  with_reducible rfl
 rotate_left
 ·simp only [Act.put, List.setIfInBounds_toArray, List.set_cons_zero, List.set_cons_succ, i64_w, i32_w]
  rfl
 refine take_ (i := 8) (N := some 13) (v := ?_) (a' := ?_) #[true, true, true, true, false, true, true, true, true, false, false, false, false] rfl rfl (take_ofW HT_.out HW_.out (by kernel_rfl)) (fun _ _ _ h => h) (Or.inl ⟨by rfl, ?_⟩) hHeld ?_ ?_
 rotate_left
 ·rintro w' ⟨s0, s1, s2, s3⟩
  go_simp
  with_reducible rfl
 rotate_left
 ·simp only [Act.put, List.setIfInBounds_toArray, List.set_cons_zero, List.set_cons_succ, i64_w, i32_w]
  rfl
 refine one_ (i := 4) (N := some 9) #[true, true, true, true, true, true, true, true, true, false, false, false, false] rfl rfl (one_of HT_.out (by kernel_rfl)) (by decide) (fun K hK => ?_)
 refine goes_ Tryd.func70 (by kernel_rfl) rfl #[.int .u32 a0_0, .int .u32 a1_0] (by rfl) rfl rfl (by (try simp only [List.map_toArray, List.map_cons, List.map_nil]); first | done | rfl | (simp only [List.length_drop, List.length_take]; rfl)) ?_
 with_reducible refine (cmp_Compare_uint32.calls a0_0 a1_0 t705 _ A3.out).mono ?_
 rintro e w' ⟨rfl, ⟨nd, rfl⟩⟩
 refine ⟨_, rfl, ?_⟩
 refine hK.out _ _ ⟨(blk_cell BK703.out 0).trans rfl, (blk_cell BK703.out 1).trans rfl, (blk_cell BK704.out 0).trans rfl, (blk_cell BK704.out 1).trans rfl⟩ (fun hHeld => ?_)
 clear hK K
 refine norm_ (a' := ?_) ?_ ?_
 rotate_left
 ·show Act.put _ (some 9) _ = _
  simp only [Act.put, List.setIfInBounds_toArray, List.set_cons_zero, List.set_cons_succ, i64_w, i32_w]
  rfl
 refine one_ (i := 9) (N := some 14) #[true, true, true, true, true, true, true, true, true, true, false, false, false] rfl rfl (one_of HT_.out (by kernel_rfl)) (by decide) (fun K hK => ?_)
 refine goes_ Tryd.func70 (by kernel_rfl) rfl #[.int .u32 a0_1, .int .u32 a1_1] (by rfl) rfl rfl (by (try simp only [List.map_toArray, List.map_cons, List.map_nil]); first | done | rfl | (simp only [List.length_drop, List.length_take]; rfl)) ?_
 with_reducible refine (cmp_Compare_uint32.calls a0_1 a1_1 t706 _ A4.out).mono ?_
 rintro e w' ⟨rfl, ⟨nd, rfl⟩⟩
 refine ⟨_, rfl, ?_⟩
 refine hK.out _ _ ⟨(blk_cell BK703.out 0).trans rfl, (blk_cell BK703.out 1).trans rfl, (blk_cell BK704.out 0).trans rfl, (blk_cell BK704.out 1).trans rfl⟩ (fun hHeld => ?_)
 clear hK K
 refine norm_ (a' := ?_) ?_ ?_
 rotate_left
 ·show Act.put _ (some 14) _ = _
  simp only [Act.put, List.setIfInBounds_toArray, List.set_cons_zero, List.set_cons_succ, i64_w, i32_w]
  rfl
 refine one_ (i := 10) (N := some 15) #[true, true, true, true, true, true, true, true, true, true, true, false, false] rfl rfl (one_of HT_.out (by kernel_rfl)) (by decide) (fun K hK => ?_)
 refine R_lit_exact (Kd.int .i64) _ 3 ?hg (N := 15) ?hd (xs := ([t705, t706] : List Int)) (inner := [.int .i64 t705, .int .i64 t706]) (ok := fun _ => True) (okp := fun _ => True) ?hr ?hp (fun _ hk => hk) trivial (Below.refl _ _) (Nat.le_refl _) (by simp) ?_; (case hd => rfl); (case hg => rfl); (case hr => first | (go_simp; done) | (go_simp; rfl)); (case hp => exact (Reps.one (show Kd.M (Kd.int .i64) _ _ _ t705 [.int .i64 t705] from rfl) (Reps.one (show Kd.M (Kd.int .i64) _ _ _ t706 [.int .i64 t706] from rfl) (Reps.none _ _))))
 intro v708 w9 hx_ ho10 hb hg_ hnew_
 have m_ := Aside0.mk (by rw [hx_]; exact ((G.out.drewN _).drewN _).alloc _ : Gr w w9); clear G; have G := m_; clear m_ hx_
 clear hg_ hnew_
 (first | rw [← Ny707.out] at ho10 | (simp only [Int.reduceToNat] at ho10; rw [← Ny707.out] at ho10))
 have n0_ := Aside0.mk (Kd.R_lower ho10 (below_size (by repeat (first | (with_reducible first | exact HB.out | apply below_alloc | apply pw_below_drewN | apply below_drew1 | refine below_set ?_ GE703.out | refine below_set ?_ GE704.out) | exact HB.out))))
 have n1_ := Aside0.mk (blk_below (g := gb703) (o := .cells #[.int .u32 a0_0, .int .u32 a0_1] 36 (0, 0)) (by (with_reducible repeat (first | refine blk_drewN ?_ _ | refine blk_drew ?_ | refine blk_alloc ?_ _)); exact BK703.out) hb)
 have n2_ := Aside0.mk (blk_below (g := gb704) (o := .cells #[.int .u32 a1_0, .int .u32 a1_1] 36 (0, 0)) (by (with_reducible repeat (first | refine blk_drewN ?_ _ | refine blk_drew ?_ | refine blk_alloc ?_ _)); exact BK704.out) hb)
 have n3_ := Aside0.mk (below_step (by repeat (first | (with_reducible first | exact HB.out | apply below_alloc | apply pw_below_drewN | apply below_drew1 | refine below_set ?_ GE703.out | refine below_set ?_ GE704.out) | exact HB.out)) hb)
 clear BK703
 clear BK704
 clear HB
 have HO709 := n0_
 have BK703 := n1_
 have BK704 := n2_
 have HB := n3_
 clear n0_ n1_ n2_ n3_
 clear hb ho10
 obtain ⟨Ao11, co11, eo11⟩ := Kd.R_slice HO709.out
 (first | subst eo11 | (injection eo11 with f1_ f2_ f3_; have f4_ := f1_.symm; have f5_ := f3_.symm; clear f1_ f2_ f3_; subst f4_; subst f5_))
 refine hK.out _ _ ⟨(blk_cell BK703.out 0).trans rfl, (blk_cell BK703.out 1).trans rfl, (blk_cell BK704.out 0).trans rfl, (blk_cell BK704.out 1).trans rfl⟩ (fun hHeld => ?_)
 clear hK K
 refine norm_ (a' := ?_) ?_ ?_
 rotate_left
 ·show Act.put _ (some 15) _ = _
  simp only [Act.put, List.setIfInBounds_toArray, List.set_cons_zero, List.set_cons_succ, i64_w, i32_w]
  rfl
 refine one_ (i := 11) (N := some 16) #[true, true, true, true, true, true, true, true, true, true, true, true, false] rfl rfl (one_of HT_.out (by kernel_rfl)) (by decide) (fun K hK => ?_)
 refine goes_ Tryd.func69 (by kernel_rfl) rfl #[.slice Ao11 y707.length co11] (by rfl) rfl rfl (by (try simp only [List.map_toArray, List.map_cons, List.map_nil]); first | done | rfl | (simp only [List.length_drop, List.length_take]; rfl)) ?_
 with_reducible refine (cmp_Or_int.calls k _ _ y707 t710 _ ?side1 ?side2 A5.out).mono ?_
 (case side1 => repeat (first | exact (Kd.R_reads' HO709.out).2.2 | (with_reducible refine Kd.C_alloc ?_ _) | (with_reducible refine Kd.C_drewN ?_ _) | (with_reducible refine Kd.C_drew ?_)))
 (case side2 => exact (Kd.R_reads' HO709.out).2.1)
 rintro e w' ⟨rfl, ⟨nd, rfl⟩⟩
 refine ⟨_, rfl, ?_⟩
 refine hK.out _ _ ⟨(blk_cell BK703.out 0).trans rfl, (blk_cell BK703.out 1).trans rfl, (blk_cell BK704.out 0).trans rfl, (blk_cell BK704.out 1).trans rfl⟩ (fun hHeld => ?_)
 clear hK K
 refine norm_ (a' := ?_) ?_ ?_
 rotate_left
 ·show Act.put _ (some 16) _ = _
  simp only [Act.put, List.setIfInBounds_toArray, List.set_cons_zero, List.set_cons_succ, i64_w, i32_w]
  rfl
 refine pure_ (i := 12) (N := some 4) (v := ?_) (a' := ?_) #[true, true, true, true, true, true, true, true, true, true, true, true, true] rfl rfl (any_of HT_.out (by kernel_rfl)) (fun _ _ _ h => h) (Or.inl ⟨by rfl, ?_⟩) ?_ ?_
 rotate_left
 ·intro w'
  go_simp
  with_reducible rfl
 rotate_left
 ·simp only [Act.put, List.setIfInBounds_toArray, List.set_cons_zero, List.set_cons_succ, i64_w, i32_w]
  rfl
 refine done_ (done_of HT_.out (by kernel_rfl)) ?_
 try go_wp2
 go_ret
 exact ⟨rfl, by first | exact G.out.drewN _ | exact G.out⟩

end Go.Proofs.YtmoagoopdfpcnaaDoor.Q

namespace Go.Proofs
open Go.Shelf
def Tryd.sortSpan_ren : Go.Shelf.Ren := ⟨fun | 6 => 67 | 15 => 73 | 14 => 101 | 28 => 112 | 29 => 113 | 20 => 138 | 21 => 139 | 22 => 140 | 23 => 141 | 24 => 142 | 25 => 143 | 26 => 144 | 27 => 145 | 46 => 167 | 47 => 147 | 48 => 148 | 49 => 168 | 50 => 169 | 57 => 177 | n => n, fun | 22 => 62 | 24 => 36 | 25 => 118 | 3 => 3 | 39 => 82 | 0 => 0 | 53 => 23 | 55 => 66 | 4 => 4 | 46 => 153 | 45 => 152 | 50 => 49 | 5 => 5 | 9 => 9 | 66 => 186 | 70 => 190 | 76 => 210 | 77 => 211 | n => n, fun | n => n⟩
theorem Tryd.sortSpan : Go.Proofs.SlLaysF0.n6 Tryd.prog Tryd.sortSpan_ren := {
  mixed := by kernel_rfl
  f6 := ⟨Tryd.f67.name, by decide, Tryd.func67.trans (congrArg some (by kernel_rfl))⟩
  f14 := ⟨Tryd.f101.name, by decide, Tryd.func101.trans (congrArg some (by kernel_rfl))⟩
  f15 := Tryd.func73.trans (congrArg some (by kernel_rfl))
  f20 := ⟨Tryd.f138.name, by decide, Tryd.func138.trans (congrArg some (by kernel_rfl))⟩
  f21 := ⟨Tryd.f139.name, by decide, Tryd.func139.trans (congrArg some (by kernel_rfl))⟩
  f22 := ⟨Tryd.f140.name, by decide, Tryd.func140.trans (congrArg some (by kernel_rfl))⟩
  f23 := ⟨Tryd.f141.name, by decide, Tryd.func141.trans (congrArg some (by kernel_rfl))⟩
  f24 := ⟨Tryd.f142.name, by decide, Tryd.func142.trans (congrArg some (by kernel_rfl))⟩
  f25 := ⟨Tryd.f143.name, by decide, Tryd.func143.trans (congrArg some (by kernel_rfl))⟩
  f26 := ⟨Tryd.f144.name, by decide, Tryd.func144.trans (congrArg some (by kernel_rfl))⟩
  f27 := ⟨Tryd.f145.name, by decide, Tryd.func145.trans (congrArg some (by kernel_rfl))⟩
  f28 := Tryd.func112.trans (congrArg some (by kernel_rfl))
  f29 := Tryd.func113.trans (congrArg some (by kernel_rfl))
  f46 := ⟨Tryd.f167.name, by decide, Tryd.func167.trans (congrArg some (by kernel_rfl))⟩
  f47 := Tryd.func147.trans (congrArg some (by kernel_rfl))
  f48 := Tryd.func148.trans (congrArg some (by kernel_rfl))
  f49 := ⟨Tryd.f168.name, by decide, Tryd.func168.trans (congrArg some (by kernel_rfl))⟩
  f50 := ⟨Tryd.f169.name, by decide, Tryd.func169.trans (congrArg some (by kernel_rfl))⟩
  f57 := ⟨Tryd.f177.name, by decide, Tryd.func177.trans (congrArg some (by kernel_rfl))⟩
  t0 := Tryd.underlying0
  a0 := Tryd.isAgg0
  z0 := Tryd.sizeOf0
  v0 := Tryd.zeroValue0
  t3 := Tryd.underlying3
  a3 := Tryd.isAgg3
  z3 := Tryd.sizeOf3
  v3 := Tryd.zeroValue3
  t4 := Tryd.underlying4
  a4 := Tryd.isAgg4
  z4 := Tryd.sizeOf4
  v4 := Tryd.zeroValue4
  t5 := Tryd.underlying5
  a5 := Tryd.isAgg5
  z5 := Tryd.sizeOf5
  v5 := Tryd.zeroValue5
  t9 := Tryd.underlying9
  a9 := Tryd.isAgg9
  z9 := Tryd.sizeOf9
  v9 := Tryd.zeroValue9
  t22 := Tryd.underlying62
  a22 := Tryd.isAgg62
  z22 := Tryd.sizeOf62
  v22 := Tryd.zeroValue62
  t25 := Tryd.underlying118
  a25 := Tryd.isAgg118
  z25 := Tryd.sizeOf118
  v25 := Tryd.zeroValue118
  t39 := Tryd.underlying82
  a39 := Tryd.isAgg82
  z39 := Tryd.sizeOf82
  v39 := Tryd.zeroValue82
  t45 := Tryd.underlying152
  a45 := Tryd.isAgg152
  z45 := Tryd.sizeOf152
  v45 := Tryd.zeroValue152
  t46 := Tryd.underlying153
  a46 := Tryd.isAgg153
  z46 := Tryd.sizeOf153
  v46 := Tryd.zeroValue153
  t50 := Tryd.underlying49
  a50 := Tryd.isAgg49
  z50 := Tryd.sizeOf49
  v50 := Tryd.zeroValue49
  t53 := Tryd.underlying23
  a53 := Tryd.isAgg23
  z53 := Tryd.sizeOf23
  v53 := Tryd.zeroValue23
  t55 := Tryd.underlying66
  a55 := Tryd.isAgg66
  z55 := Tryd.sizeOf66
  v55 := Tryd.zeroValue66
  t66 := Tryd.underlying186
  a66 := Tryd.isAgg186
  z66 := Tryd.sizeOf186
  v66 := Tryd.zeroValue186
  t70 := Tryd.underlying190
  a70 := Tryd.isAgg190
  z70 := Tryd.sizeOf190
  v70 := Tryd.zeroValue190
  t76 := Tryd.underlying210
  a76 := Tryd.isAgg210
  z76 := Tryd.sizeOf210
  v76 := Tryd.zeroValue210
  t77 := Tryd.underlying211
  a77 := Tryd.isAgg211
  z77 := Tryd.sizeOf211
  v77 := Tryd.zeroValue211 }
theorem Tryd.sortSpan_rfl : True := trivial
end Go.Proofs

namespace Go.Proofs.YtmoagoopdfpcnaaDoor.Q
open Go.RowKit Go.Proofs.YtmoagoopdfpcnaaDoorW.PrintWords Go.Proofs.YtmoagoopdfpcnaaDoorW.PrintLast Go.Proofs.YtmoagoopdfpcnaaDoorW.PrintMore Go.Sort Go.Shelf Go.Lib
set_option linter.unusedVariables false
set_option linter.unusedSimpArgs false

instance : Inhabited S36 := ⟨z36⟩
def enc31 (x : S36) : List Value := [.int .u32 x.f0, .int .u32 x.f1]
def cf31 (x y : S36) : Int := orI (Lib.compareInt x.f0 y.f0) (Lib.compareInt x.f1 y.f1)
def lt31 (x y : S36) : Bool := decide (x.f0 < y.f0 ∨ x.f0 = y.f0 ∧ x.f1 < y.f1)
theorem ltOf31 : ltOf cf31 = lt31 := by
  funext x y
  unfold ltOf cf31 lt31 orI Lib.compareInt
  by_cases h1 : x.f0 < y.f0
  · simp [h1]
  · by_cases h2 : y.f0 < x.f0
    · simp [h1, h2, show x.f0 ≠ y.f0 by omega]
    · have h3 : x.f0 = y.f0 := by omega
      by_cases h4 : x.f1 < y.f1
      · simp [h1, h2, h3, h4]
      · by_cases h5 : y.f1 < x.f1 <;> simp [h1, h2, h3, h4, h5]
theorem swo31 : SWO (ltOf cf31) where
  irrefl x := by rw [ltOf31]; simp [lt31]
  trans x y z h1 h2 := by rw [ltOf31] at *; simp only [lt31, decide_eq_true_eq] at *; omega
  ntrans x y z h1 h2 := by rw [ltOf31] at *; simp only [lt31, decide_eq_false_iff_not] at *; omega
theorem tot31 (x y : S36) (h1 : ltOf cf31 x y = false) (h2 : ltOf cf31 y x = false) : x = y := by
  rw [ltOf31] at *
  simp only [lt31, decide_eq_false_iff_not] at *
  obtain ⟨a, b⟩ := x
  obtain ⟨c, d⟩ := y
  simp only at h1 h2
  obtain rfl : a = c := by omega
  obtain rfl : b = d := by omega
  rfl
/-- The spans in order. -/
def sort36 (l : List S36) : List S36 := l.mergeSort fun x y => !lt31 y x
def slices_SortFunc_api_Span_api_Span.f (l : List S36) : Option (List S36) := if l.length < 4611686018427387904 then some (sort36 l) else none

theorem flat31_list (d : Array S36) (j : Nat) (p : S36) (h : d.toList[j]? = some p) : ((flatK enc31 2 d).toList.drop (j * 2)).take 2 = enc31 p := by
  have hj : j < d.size := by simpa using (List.getElem?_eq_some_iff.1 h).1
  have hp : d[j]! = p := by
    rw [Array.getElem?_toList] at h
    rw [getElem!_pos d j hj]
    exact (Array.getElem?_eq_some_iff.1 h).2
  have a0 := get_flatK enc31 2 d (j * 2) (by omega)
  have a1 := get_flatK enc31 2 d (j * 2 + 1) (by omega)
  rw [show j * 2 / 2 = j by omega, show j * 2 % 2 = 0 by omega, hp] at a0
  rw [show (j * 2 + 1) / 2 = j by omega, show (j * 2 + 1) % 2 = 1 by omega, hp] at a1
  have s : (flatK enc31 2 d).size = d.size * 2 := size_flatK _ _ _
  rw [getElem!_pos _ _ (by omega)] at a0 a1
  apply List.ext_getElem?
  intro i
  match i with
  | 0 => rw [List.getElem?_take_of_lt (by omega), List.getElem?_drop, Array.getElem?_toList, Nat.add_zero, Array.getElem?_eq_getElem (by omega), a0]; rfl
  | 1 => rw [List.getElem?_take_of_lt (by omega), List.getElem?_drop, Array.getElem?_toList, Array.getElem?_eq_getElem (by omega), a1]; rfl
  | i + 2 => rw [List.getElem?_take_eq_none (by omega)]; rfl

theorem cmpLays31 (blk off size : Nat) (w : World) : CmpLays Tryd.prog 68 #[] enc31 2 cf31 blk off size w :=
  fun m os dk hs x y => spanCmp.calls x.f0 x.f1 y.f0 y.f1 _

theorem sort36_block {w : World} {blk : Nat} {n : Nat} {d : Array S36} {os : Array Obj} (hblk : blk < w.heap.size) {k : Nat} (hk : k < w.heap.size) :
    (sortWorldK enc31 2 w blk 0 n d os).heap[k]? = if blk = k then (w.heap[k]?).map (onCells (putCells id 0 (flatK enc31 2 d))) else w.heap[k]? := by
  unfold sortWorldK
  rw [heap_grow_old _ _ (by unfold putRowK; rw [size_putRow]; exact hk)]
  unfold putRowK putRow mapBlock
  simp only [Array.getElem?_modify]
  by_cases h : blk = k
  · simp only [h, if_true]; rfl
  · simp only [h, if_false]; rfl

theorem sort36_size (w : World) (blk n : Nat) (d : Array S36) (os : Array Obj) : w.heap.size ≤ (sortWorldK enc31 2 w blk 0 n d os).heap.size := by
  unfold sortWorldK
  rw [size_grow]
  unfold putRowK
  rw [size_putRow]
  exact Nat.le_add_right _ _

theorem put_take (F : Array Value) (cur : Array Value) (h : F.size ≤ cur.size) : (putCells id 0 F cur).toList.take F.size = F.toList := by
  apply List.ext_getElem?
  intro k
  by_cases hk : k < F.size
  · rw [List.getElem?_take_of_lt hk, Array.getElem?_toList, Array.getElem?_toList]
    unfold putCells
    rw [Array.getElem?_mapIdx, Array.getElem?_eq_getElem (by omega), Array.getElem?_eq_getElem hk]
    simp only [Option.map_some, Nat.zero_le, true_and, Nat.zero_add, hk, if_true, Nat.sub_zero, id]
    rw [getElem!_pos F k hk]
  · rw [List.getElem?_take_eq_none (by omega), Array.getElem?_toList, Array.getElem?_eq_none (by omega)]

theorem bitsLen0 (w : World) : Calls Tryd.prog 73 #[.int .u64 0] w fun e w' => e = .returned (.int .i64 (Lib.bitLen 0 : Nat)) ∧ w' = w := by
  have h := Any.bits_Len (SlLaysF0.n15.bits (P := Tryd.prog) (ρ := Tryd.sortSpan_ren) { Tryd.sortSpan with }) 0 w (by omega) (by omega)
  exact h

set_option maxHeartbeats 2000000 in
theorem ins0 (p : Option Addr) (cap : Nat) (fv : Value) (w : World) : Calls Tryd.prog 138 #[.slice p 0 cap, .int .i64 0, .int .i64 0, fv] w fun e w' => e = .returned (.tuple #[]) ∧ w' = w := by
  go_enter Tryd.func138, Tryd.ntmps138
  go_wp2
  refine wp_loop_rounds 1 ?_
  rw [rounds_succ]
  go_wp2
  go_end0
  exact ⟨rfl, rfl⟩

set_option maxHeartbeats 2000000 in
theorem pdq0 (p : Option Addr) (cap : Nat) (lim : Int) (fv : Value) (w : World) : Calls Tryd.prog 101 #[.slice p 0 cap, .int .i64 0, .int .i64 0, .int .i64 lim, fv] w fun e w' => e = .returned (.tuple #[]) ∧ w' = w := by
  have hi := fun W => ins0 p cap fv W
  go_enter Tryd.func101, Tryd.ntmps101
  go_wp2
  refine wp_loop_rounds 1 ?_
  rw [rounds_succ]
  go_wp2_with (go_at_call 138; refine (hi _).mono ?_; rintro e w' ⟨rfl, rfl⟩)
  (try simp only [Exit.inBlock, Exit.then]); refine bodyPost_ret (results_none rfl _ _ _) rfl ?_
  exact ⟨rfl, rfl⟩

set_option maxHeartbeats 2000000 in
theorem sort0 (p : Option Addr) (cap : Nat) (fv : Value) (w : World) : Calls Tryd.prog 67 #[.slice p 0 cap, fv] w fun e w' => e = .returned (.tuple #[]) ∧ w' = w := by
  have hp := fun lim W => pdq0 p cap lim fv W
  have hl := bitsLen0
  go_enter Tryd.func67, Tryd.ntmps67
  go_wp2_with (first | (go_at_call 73; refine (hl _).mono ?_; rintro e w' ⟨rfl, rfl⟩) | (go_at_call 101; refine (hp _ _).mono ?_; rintro e w' ⟨rfl, rfl⟩))
  go_end0
  exact ⟨rfl, rfl⟩

theorem slices_SortFunc_api_Span_api_Span.calls (P0_ : Nat → Prop) (u : Value) (l0 r : List S36) (w0 w : World) (hB : Below w0.heap.size w0 w) (ho0 : Kd.R k36 36 w w0.heap.size P0_ u l0) (h : slices_SortFunc_api_Span_api_Span.f l0 = some r) :
    Calls Tryd.prog 67 #[u, .func (.func 68) #[] #[]] w fun e w' => e = .returned (.tuple #[]) ∧ Kd.R k36 36 w' w0.heap.size (fun k_ => (P0_ k_ ∨ w.heap.size ≤ k_)) u r ∧ Below w0.heap.size w0 w' ∧ Kept w w' (fun k_ => P0_ k_) := by
  unfold slices_SortFunc_api_Span_api_Span.f at h
  by_cases hsz : l0.length < 4611686018427387904
  · rw [if_pos hsz] at h
    obtain rfl := Option.some.inj h
    obtain ⟨hP, inner, ⟨hlen, ho⟩, hrep⟩ := ho0
    rcases ho with ⟨rfl, h0⟩ | ⟨g, cap, cur, rfl, hbg, hg, hnc, hcm, hcs, htake⟩
    · obtain rfl : l0 = [] := List.eq_nil_of_length_eq_zero h0
      refine (sort0 none 0 _ w).mono fun e w' ⟨he, hw⟩ => ?_
      subst hw
      rw [show sort36 [] = [] by simp [sort36]]
      exact ⟨he, Kd.R_nil _ _ _ _ _, hB, Kept.refl _ _⟩
    · have sz2 : k36.sz = 2 := rfl
      rw [sz2] at hlen hcs htake hrep
      have hlt : g < w.heap.size := by
        rcases Nat.lt_or_ge g w.heap.size with h | h
        · exact h
        · rw [Array.getElem?_eq_none h] at hg; cases hg
      have hfl : (flatK enc31 2 l0.toArray).toList = inner := by
        apply List.ext_getElem?
        intro t
        have hs : (flatK enc31 2 l0.toArray).size = l0.length * 2 := by rw [size_flatK]; simp
        by_cases ht : t < l0.length * 2
        · have hj : t / 2 < l0.length := by omega
          have e1 := flat31_list l0.toArray (t / 2) l0[t / 2] (by simp [hj])
          have e2 := k36_openM (hrep.2 (t / 2) l0[t / 2] (List.getElem?_eq_getElem hj))
          have e3 := e1.trans (show enc31 l0[t / 2] = _ from e2.symm)
          have e4 := congrArg (fun z => z[t % 2]?) e3
          rw [List.getElem?_take_of_lt (by omega), List.getElem?_take_of_lt (by omega), List.getElem?_drop, List.getElem?_drop, show t / 2 * 2 + t % 2 = t by omega] at e4
          exact e4
        · rw [List.getElem?_eq_none (by simp [hs]; omega), List.getElem?_eq_none (by omega)]
      have hH : HoldsK enc31 2 w g 0 l0.toArray := by
        intro j hj
        have hs : (flatK enc31 2 l0.toArray).size = l0.length * 2 := by rw [size_flatK]; simp
        have hc : cur[j]? = some ((flatK enc31 2 l0.toArray)[j]!) := by
          have e1 : (cur.toList.take (l0.length * 2))[j]? = (flatK enc31 2 l0.toArray).toList[j]? := by rw [htake, hfl]
          rw [List.getElem?_take_of_lt (by omega), Array.getElem?_toList, Array.getElem?_toList] at e1
          rw [e1, Array.getElem?_eq_getElem hj, getElem!_pos _ j hj]
        refine ⟨?_, ?_⟩
        · unfold World.cell?
          simp only [hg, Nat.zero_add]
          exact hc
        · unfold World.frozen?
          simp only [hg]
          simp
      have eg : ∀ args w, (callFunc 68 args).run Tryd.prog w = .ok (.enter 68 args) w := enters_of Tryd.func68 (by kernel_rfl) rfl
      have hcon := AnyQ.slices_SortFunc Tryd.sortSpan 2 Tryd.isAgg36 Tryd.sizeOf36 enc31 (fun _ => rfl) (fun x v hv => by simp [enc31] at hv; rcases hv with rfl | rfl <;> rfl) cf31 swo31 68 #[] g 0 cap l0.toArray w eg (cmpLays31 _ _ _ _) hH hlt (by simpa using hsz)
      change Calls Tryd.prog 67 _ _ _ at hcon
      refine hcon.mono fun e w' ⟨he, d', n, os, hp, hs, hw⟩ => ?_
      have hd : d'.toList = sort36 l0 := by
        have := sorted_unique_holds swo31 tot31 l0.toArray d' hp hs
        rw [ltOf31] at this
        exact this
      have hdl : (sort36 l0).length = l0.length := by unfold sort36; simp
      have hds : d'.size = l0.length := by rw [← hdl, ← hd]; simp
      subst hw
      have hfs : (flatK enc31 2 d').size = l0.length * 2 := by rw [size_flatK, hds]
      refine ⟨he, ⟨fun k hk => Or.inl (hP k hk), (flatK enc31 2 d').toList, ⟨by rw [hdl, sz2]; simp [hds], Or.inr ⟨g, cap, putCells id 0 (flatK enc31 2 d') cur, by rw [hdl], hbg, ?_, by rw [hdl]; exact hnc, hcm, by rw [sz2, ← hcs]; simp [putCells], ?_⟩⟩, ?_⟩, ?_, ?_⟩
      · rw [sort36_block hlt hlt, if_pos rfl, hg]; rfl
      · rw [hdl, sz2, ← hfs]
        exact put_take _ _ (by rw [hfs, hcs]; exact Nat.mul_le_mul_right _ hnc)
      · refine ⟨by rw [hdl, sz2]; simp [hds], fun j p hj => ?_⟩
        rw [← hd] at hj
        rw [show k36.sz = 2 from rfl, flat31_list d' j p hj]
        exact k36_mkM _ _ _ p
      · refine ⟨hB.os, hB.tape, hB.output, Nat.le_trans hB.size (sort36_size _ _ _ _ _), fun k hk => ?_⟩
        rw [sort36_block hlt (by omega), if_neg (by omega)]
        exact hB.block k hk
      · refine ⟨sort36_size _ _ _ _ _, fun k hk hn => ?_⟩
        rw [sort36_block hlt hk, if_neg (fun h => hn (by subst h; exact hP _ (by simp [Value.ownBlock])))]
  · rw [if_neg hsz] at h
    cases h
end Go.Proofs.YtmoagoopdfpcnaaDoor.Q
