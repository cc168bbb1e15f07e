/- waymarkref02.put: a number put in its place, once, in a row of one's own. (Began as a print of this session's printer; the copy within the row is walked by hand.) -/
import Derived.Test.YtmoagoopdfpcnaaQx0
import Derived.Laws.IdiomCopy
import Derived.OrdersHeld
namespace Go.Proofs.Ytmoagoopdfpcnaa.Q
open Go.RowKit Go.Proofs.YtmoagoopdfpcnaaW.PrintWords Go.Proofs.YtmoagoopdfpcnaaW.PrintLast Go.Proofs.YtmoagoopdfpcnaaW.PrintMore
attribute [local go_sem] max2_int min2_int max_two min_two max_three min_three max_four min_four
set_option linter.unusedVariables false
set_option linter.unusedSimpArgs false

theorem info26p : (Try.prog.info? 26).map (fun i => (i.zero, i.size, i.bytes)) = some (some (.int .u32 0), 1, 4) := by kernel_rfl

/-- The number x put before place k. -/
def insAt (l : List Int) (k x : Int) : List Int := l.take k.toNat ++ [x] ++ l.drop k.toNat

section
variable {e base g n cap : Nat} {ok : Nat → Prop}
/-- A run of cells of a row of one's own, written over. -/
theorem R_cells : ∀ (vs : List Int) (s : Nat) (W : World) (xs : List Int), Kd.R (Kd.int .u32) e W base ok (.slice (some ⟨g, 0, none⟩) n cap) xs → s + vs.length ≤ xs.length →
    Kd.R (Kd.int .u32) e (W.setCells g s (vs.map (.int .u32))) base ok (.slice (some ⟨g, 0, none⟩) n cap) (xs.take s ++ vs ++ xs.drop (s + vs.length)) ∧
    ∀ (w0 w : World) (S : Nat → Prop), (Below base w0 W → Below base w0 (W.setCells g s (vs.map (.int .u32)))) ∧ (Kept w W S → (S g ∨ w.heap.size ≤ g) → Kept w (W.setCells g s (vs.map (.int .u32))) S)
  | [], s, W, xs, h, hl => by
    simp only [List.map_nil, World.setCells, List.append_nil, List.length_nil, Nat.add_zero, List.take_append_drop]
    exact ⟨h, fun _ _ _ => ⟨id, fun h _ => h⟩⟩
  | v :: r, s, W, xs, h, hl => by
    have hn := (Kd.R_reads' h).1
    simp only [List.length_cons] at hl
    obtain ⟨c, hcl, hM, hcc, hfr⟩ := Kd.R_elem h 0 (s : Int) (by omega) (by omega)
    have hs := Kd.R_seg h (s : Int) (by omega) (by omega) (okp := fun k => ok k ∧ k ≠ g) (seg := [.int .u32 v]) (j := 0) hcl hcc (by show 0 + 1 ≤ 1; omega) (x' := v) (by
      have hc1 : c.length = 1 := hcl
      rw [List.take_zero, List.nil_append, List.drop_of_length_le (by simp [hc1]), List.append_nil]
      exact rfl) (fun k hk => hk)
    have hz : (((s : Int).toNat) * (Kd.int .u32).sz + 0) = s := by show s * 1 + 0 = s; omega
    rw [hz] at hs
    simp only [World.setCells] at hs
    have hsl : s < xs.length := by omega
    obtain ⟨h1, h2⟩ := R_cells r (s + 1) (W.setCell ⟨g, s, none⟩ (.int .u32 v)) (xs.set s v) hs.1 (by rw [List.length_set]; omega)
    have hbg : base ≤ g := Kd.R_base h g (by simp [Value.ownBlock])
    refine ⟨?_, fun w0 w S => ⟨fun hB => ?_, fun hK hS => ?_⟩⟩
    · have hl2 : (xs.set s v).take (s + 1) ++ r ++ (xs.set s v).drop (s + 1 + r.length) = xs.take s ++ v :: r ++ xs.drop (s + (r.length + 1)) := by
        rw [List.drop_set_of_lt (by omega), show s + 1 + r.length = s + (r.length + 1) by omega, List.take_succ_eq_append_getElem (by rw [List.length_set]; exact hsl), List.getElem_set_self, List.take_set_of_le (Nat.le_refl _)]
        simp
      rw [hl2] at h1
      exact h1
    · exact (h2 w0 w S).1 (hB.setCell hbg _)
    · exact (h2 w0 w S).2 (hK.setCell hS _) hS
end

def waymarkref02_put.l0 : Nat → List Int → Int → Int → Option (List Int)
  | 0, _, _, _ => none
  | k + 1, x0, x1, x7 => if x7 > 0 then (if 0 ≤ (wrap64 (x7 - 1)) then (if (wrap64 (x7 - 1)) < (x0.length : Int) then (if (rd x0 (wrap64 (x7 - 1))) > x1 then (waymarkref02_put.l0 k x0 x1 (wrap64 (x7 - 1))) else (if (rd x0 (wrap64 (x7 - 1))) = x1 then (some x0) else (if 0 ≤ x7 ∧ x7 ≤ (x0.length : Int) ∧ x0.length < 35184372088832 then some (insAt x0 x7 x1) else none))) else (none)) else (none)) else (if 0 ≤ x7 ∧ x7 ≤ (x0.length : Int) ∧ x0.length < 35184372088832 then some (insAt x0 x7 x1) else none)
def waymarkref02_put.f (k : Nat) (l0 : List Int) (a1 : Int) (a2 : Int) : Option (List Int) := if a1 > a2 then (some l0) else (waymarkref02_put.l0 k l0 a1 (l0.length : Int))
theorem waymarkref02_put.mono_l : ∀ k, (∀ y0 y1 y2, LeO (waymarkref02_put.l0 k y0 y1 y2) (waymarkref02_put.l0 (k + 1) y0 y1 y2))
  | 0 => fun _ _ _ r h => by simp [waymarkref02_put.l0] at h
  | k + 1 => by
    have ih0 := waymarkref02_put.mono_l k
    · intro y0 y1 y2
      unfold waymarkref02_put.l0
      repeat' first
      | (with_reducible exact ih0 _ _ _)
      | (with_reducible exact LeO.refl _)
      | (with_reducible exact LeO.none _)
      | (with_reducible refine LeO.ite ?_ ?_)
      | (with_reducible refine LeO.bind ?_ (fun _ => ?_))
      | exact ih0 _ _ _
      | exact LeO.none _
      | refine LeO.ite ?_ ?_
      | refine LeO.bind ?_ (fun _ => ?_)
theorem waymarkref02_put.mono : ∀ a0 a1 a2 k, LeO (waymarkref02_put.f k a0 a1 a2) (waymarkref02_put.f (k + 1) a0 a1 a2) := by
  intro a0 a1 a2 k
  have ih0 := waymarkref02_put.mono_l k
  unfold waymarkref02_put.f
  repeat' first
      | (with_reducible exact ih0 _ _ _)
      | (with_reducible exact LeO.refl _)
      | (with_reducible exact LeO.none _)
      | (with_reducible refine LeO.ite ?_ ?_)
      | (with_reducible refine LeO.bind ?_ (fun _ => ?_))
      | exact ih0 _ _ _
      | exact LeO.none _
      | refine LeO.ite ?_ ?_
      | refine LeO.bind ?_ (fun _ => ?_)
/-- The copy within the row: all from place k on goes one place on. -/
theorem copy_in {base g co kn n : Nat} {ok : Nat → Prop} {W : World} {ys : List Int} {o21 : Nat} {i026 : TypeInfo} (h : Kd.R (Kd.int .u32) 26 W base ok (.slice (some ⟨g, 0, none⟩) ys.length co) ys) (hyl : ys.length = n + 1) (ho21 : kn < n → o21 = kn + 1) (hkn : kn ≤ n)
    (hi026 : Try.prog.info? 26 = some i026) (hsz26 : i026.size = 1) (sl c1 c2 : Nat) (ty : TypeId) (hsl : sl = n + 1 - kn) {vs : List Int} (hvs : vs = (ys.drop kn).take (n - kn)) :
    (Builtin.copy_ #[51, 51] ty #[.slice (some ⟨g, o21, none⟩) (n - kn) c1, .slice (some ⟨g, kn, none⟩) sl c2]).run Try.prog W = .ok (goInt (vs.map (Value.int .u32)).length) (W.setCells g o21 (vs.map (.int .u32))) := by
  subst hvs
  have hcl : (((ys.drop kn).take (n - kn)).map (Value.int .u32)).length = n - kn := by simp; omega
  refine run_copy_cells W 51 51 ty 26 g o21 (n - kn) c1 ⟨g, kn, none⟩ sl c2 _ Try.underlying51 (by rw [hi026]; simp [hsz26]) (by rw [hcl, hsl]; simp only [Nat.min_def]; split <;> omega) ?_ ?_ ?_ ?_
  · intro j v hj
    have hjl : j < n - kn := by rw [← hcl]; exact (List.getElem?_eq_some_iff.1 hj).1
    obtain ⟨ad, ea, hx⟩ := Kd.at_int (Kd.R_reads' h).2.2 ((kn + j : Nat) : Int) (by omega) (by omega)
    have ea := Option.some.inj ea
    subst ea
    rw [List.getElem?_map, List.getElem?_take_of_lt hjl, List.getElem?_drop, List.getElem?_eq_getElem (by omega)] at hj
    have hv : v = .int .u32 (rd ys ((kn + j : Nat) : Int)) := by
      rw [Option.map_some] at hj
      rw [← Option.some.inj hj]
      unfold rd
      simp [List.getD_eq_getElem?_getD]
      rw [List.getElem?_eq_getElem (by omega)]
      rfl
    rw [hv]
    have hadd : (⟨g, kn, none⟩ : Addr).add j = ⟨g, kn + j, none⟩ := by unfold Addr.add; split <;> simp_all
    rw [hadd]
    rw [add_plain] at hx
    simpa only [Int.toNat_natCast] using hx
  · intro j hj
    rw [hcl] at hj
    obtain ⟨c, hc1, _, hc2, _⟩ := Kd.R_elem h 0 ((kn + 1 + j : Nat) : Int) (by omega) (by omega)
    have hc1' : c.length = 1 := hc1
    have := hc2 0 c[0] (List.getElem?_eq_getElem (by omega))
    rw [ho21 (by omega)]
    simp only [show (Kd.int IntKind.u32).sz = 1 from rfl, Int.toNat_natCast, Nat.mul_one, Nat.add_zero] at this
    rw [this]; rfl
  · intro j hj
    rw [hcl] at hj
    obtain ⟨c, hc1, _, _, hf⟩ := Kd.R_elem h 0 ((kn + 1 + j : Nat) : Int) (by omega) (by omega)
    rw [ho21 (by omega)]
    have := hf 0
    simpa only [show (Kd.int IntKind.u32).sz = 1 from rfl, Int.toNat_natCast, Nat.mul_one, Nat.add_zero] using this
  · intro v hv
    obtain ⟨x, _, rfl⟩ := List.mem_map.1 hv
    rfl


/-- What the copy and the store behind it make. -/
theorem ins_eq (l ys vs : List Int) (kn o : Nat) (x : Int) (hk : kn ≤ l.length) (hy : ys = l ++ [0]) (hv : vs = (ys.drop kn).take (l.length - kn)) (ho : kn < l.length → o = kn + 1) :
    (ys.take o ++ vs ++ ys.drop (o + vs.length)).set kn x = insAt l (kn : Int) x := by
  unfold insAt
  rw [Int.toNat_natCast]
  rcases Nat.lt_or_ge kn l.length with h | h
  · have hvl : vs.length = l.length - kn := by rw [hv, hy]; simp; omega
    have hv2 : vs = l.drop kn := by rw [hv, hy, List.drop_append_of_le_length hk, List.take_append_of_le_length (by simp), List.take_of_length_le (by simp)]
    rw [ho h, List.drop_of_length_le (by rw [hvl, hy]; simp; omega), List.append_nil, hv2, hy, List.take_append_of_le_length (by omega), List.take_succ_eq_append_getElem h, List.append_assoc, List.append_assoc, List.set_append_right _ _ (by simp; omega)]
    simp [List.length_take, Nat.min_eq_left hk]
  · have hkn : kn = l.length := by omega
    have hv2 : vs = [] := by rw [hv, hkn]; simp
    rw [hv2, List.append_nil, List.length_nil, Nat.add_zero, List.take_append_drop, hy, hkn, List.set_append_right _ _ (Nat.le_refl _)]
    simp
set_option maxHeartbeats 8000000 in
set_option maxRecDepth 100000 in
theorem waymarkref02_put.calls (k : Nat) (P0_ : Nat → Prop) (u9000_ : Value) (l0 : List Int) (a1 : Int) (a2 : Int) (r : List Int) (w0 w : World) (hB : Below w0.heap.size w0 w) (ho0 : Kd.R (Kd.int .u32) 26 w w0.heap.size P0_ u9000_ l0) (h : waymarkref02_put.f k l0 a1 a2 = some r) :
    Calls Try.prog 113 #[u9000_, .int .u32 a1, .int .u32 a2] w fun e w' => ∃ v0_ : Value, e = .returned (v0_) ∧ Kd.R (Kd.int .u32) 26 w' w0.heap.size (fun k_ => (P0_ k_ ∨ w.heap.size ≤ k_)) v0_ r ∧ Below w0.heap.size w0 w' ∧ Kept w w' (fun k_ => P0_ k_) := by
  have HO0 := Aside0.mk (show Kd.R (Kd.int .u32) 26 w w0.heap.size (fun k_ => (P0_ k_ ∨ w.heap.size ≤ k_)) u9000_ l0 from Kd.R_mono ho0 (fun k_ hk => (.inl hk)))
  have HK := Aside0.mk (Kept.refl w (fun k_ => P0_ k_))
  have HW0 := Aside0.mk hB.size
  have HB := Aside0.mk hB
  clear hB
  have H : (if a1 > a2 then (some l0) else (waymarkref02_put.l0 k l0 a1 (l0.length : Int))) = some r := h
  clear h
  by_cases c4 : a1 > a2
  · rw [if_pos c4] at H
    have c4b0 : decide (a2 < a1) = true := decide_eq_true c4
    clear c4
    obtain rfl := Option.some.inj H
    go_enter Try.func113, Try.ntmps113
    go_wp2
    repeat (go_quiet (fail); try go_wp2)
    go_ret
    exact ⟨_, by first | rfl | (simp [errW_none, errW_some] <;> rfl) | (simp [*, errW_none, errW_some] <;> rfl), by (with_reducible repeat (first | apply Kd.R_alloc | apply Kd.R_drewN | apply Kd.R_drew)); exact HO0.out, by repeat (first | (with_reducible first | exact HB.out | apply below_alloc | apply pw_below_drewN | apply below_drew1) | exact HB.out), by repeat (first | (with_reducible first | exact HK.out | apply Kept.alloc | apply Kept.drewN | apply Kept.drew) | exact HK.out)⟩
  · rw [if_neg c4] at H
    have c4b0 : decide (a2 < a1) = false := decide_eq_false c4
    clear c4
    have H' := Aside0.mk H
    clear H
    obtain ⟨Ao5, co5, eo5⟩ := Kd.R_slice HO0.out
    subst eo5
    go_enter Try.func113, Try.ntmps113
    go_wp2
    repeat (go_quiet (fail); try go_wp2)
    go_loopg [7] k (fun kq v7 w' => ∃ (x7_1 : Int), v7 = .int .i64 x7_1 ∧ Aside0 (waymarkref02_put.l0 kq l0 a1 x7_1 = some r) ∧ Aside0 (kq ≤ k) ∧ Aside0 (Kd.R (Kd.int .u32) 26 w' w0.heap.size (fun k_ => (P0_ k_ ∨ w.heap.size ≤ k_)) (.slice Ao5 l0.length co5) l0) ∧ Aside0 (Kept w w' (fun k_ => P0_ k_)) ∧ Aside0 (Below w0.heap.size w0 w'))
    case atStart => exact ⟨((l0.length : Int)), (by first | rfl | (simp; done) | (simp [*]; done)), H', ⟨Nat.le_refl _⟩, ⟨by (with_reducible repeat (first | apply Kd.R_alloc | apply Kd.R_drewN | apply Kd.R_drew)); exact HO0.out⟩, ⟨by repeat (first | (with_reducible first | exact HK.out | apply Kept.alloc | apply Kept.drewN | apply Kept.drew) | exact HK.out)⟩, ⟨by repeat (first | (with_reducible first | exact HB.out | apply below_alloc | apply pw_below_drewN | apply below_drew1) | exact HB.out)⟩⟩
    case round =>
      clear H'
      try clear c1
      try clear p2
      try clear c4
      try clear c4b0
      obtain ⟨x7_1, rfl, HA, HK1, HO_0, HK, HB⟩ := hrel
      cases gk with
      | zero => exact absurd HA.out (by simp [waymarkref02_put.l0])
      | succ k1 =>
        have H := HA.out
        clear HA
        simp only [waymarkref02_put.l0] at H
        by_cases c6 : x7_1 > 0
        · rw [if_pos c6] at H
          have c6b0 : decide (0 < x7_1) = true := decide_eq_true c6
          clear c6
          obtain ⟨ji7, hji7⟩ : ∃ j_ : Int, (wrap64 (x7_1 - 1)) = j_ := ⟨_, rfl⟩
          replace H : (if 0 ≤ (ji7) then (if (ji7) < (l0.length : Int) then (if (rd l0 (ji7)) > a1 then (waymarkref02_put.l0 k1 l0 a1 ji7) else (if (rd l0 (ji7)) = a1 then (some l0) else (if 0 ≤ x7_1 ∧ x7_1 ≤ (l0.length : Int) ∧ l0.length < 35184372088832 then some (insAt l0 x7_1 a1) else none))) else (none)) else (none)) = some r := by first | (rw [hji7] at H; exact H) | (simp only [hji7] at H ⊢; exact H)
          have hji7w : (IntKind.i64.wrap (x7_1 - 1)) = ji7 := (i64_w _).trans hji7
          by_cases c8 : 0 ≤ (ji7)
          · rw [if_pos c8] at H
            have c8b0 : decide (0 ≤ (ji7)) = true := decide_eq_true c8
            clear c8
            by_cases c9 : (ji7) < (l0.length : Int)
            · rw [if_pos c9] at H
              have c9b0 : decide ((ji7) < (l0.length : Int)) = true := decide_eq_true c9
              clear c9
              by_cases c10 : (rd l0 (ji7)) > a1
              · rw [if_pos c10] at H
                have c10b0 : decide (a1 < (rd l0 (ji7))) = true := decide_eq_true c10
                clear c10
                have H' := Aside0.mk H
                clear H
                have p136 : 0 ≤ ((ji7) : Int) := of_decide_eq_true (by first | (with_reducible assumption) | assumption)
                have q136 : (ji7) < (l0.length : Int) := of_decide_eq_true (by first | (with_reducible assumption) | assumption)
                obtain ⟨ad136, e136, hx136_0⟩ := Kd.at_int (Kd.R_reads' HO_0.out).2.2 (ji7) p136 q136
                cases e136
                replace p136 := eq_true p136
                replace q136 := eq_true q136
                go_wp2
                repeat (go_quiet (fail); try go_wp2)
                go_roundg k1
                case measure => have := HK1.out; omega
                case rel => exact ⟨(ji7), (by first | rfl | (simp; done) | (simp only [← hji7] <;> (first | rfl | simp)) | (simp [*]; done)), H', ⟨by have := HK1.out; omega⟩, ⟨by (with_reducible repeat (first | apply Kd.R_alloc | apply Kd.R_drewN | apply Kd.R_drew)); exact HO_0.out⟩, ⟨by repeat (first | (with_reducible first | exact HK.out | apply Kept.alloc | apply Kept.drewN | apply Kept.drew) | exact HK.out)⟩, ⟨by repeat (first | (with_reducible first | exact HB.out | apply below_alloc | apply pw_below_drewN | apply below_drew1) | exact HB.out)⟩⟩
              · rw [if_neg c10] at H
                have c10b0 : decide (a1 < (rd l0 (ji7))) = false := decide_eq_false c10
                clear c10
                by_cases c11 : (rd l0 (ji7)) = a1
                · rw [if_pos c11] at H
                  have c11b0 : ((rd l0 (ji7)) == a1) = true := beq_iff_eq.mpr c11
                  have c11b1 : ((rd l0 (ji7)) != a1) = false := bne_eq_false_iff_eq.mpr c11
                  clear c11
                  obtain rfl := Option.some.inj H
                  have p136 : 0 ≤ ((ji7) : Int) := of_decide_eq_true (by first | (with_reducible assumption) | assumption)
                  have q136 : (ji7) < (l0.length : Int) := of_decide_eq_true (by first | (with_reducible assumption) | assumption)
                  obtain ⟨ad136, e136, hx136_0⟩ := Kd.at_int (Kd.R_reads' HO_0.out).2.2 (ji7) p136 q136
                  cases e136
                  replace p136 := eq_true p136
                  replace q136 := eq_true q136
                  have p137 : 0 ≤ ((ji7) : Int) := of_decide_eq_true (by first | (with_reducible assumption) | assumption)
                  have q137 : (ji7) < (l0.length : Int) := of_decide_eq_true (by first | (with_reducible assumption) | assumption)
                  obtain ⟨ad137, e137, hx137_0⟩ := Kd.at_int (Kd.R_reads' HO_0.out).2.2 (ji7) p137 q137
                  obtain rfl : ad136 = ad137 := (by injection e137)
                  replace p137 := eq_true p137
                  replace q137 := eq_true q137
                  go_wp2
                  repeat (go_quiet (fail); try go_wp2)
                  go_ret
                  exact ⟨_, by first | rfl | (simp [errW_none, errW_some] <;> rfl) | (simp only [← hji7]; first | rfl | (simp [errW_none, errW_some] <;> rfl)) | (simp [*, errW_none, errW_some] <;> rfl), by (with_reducible repeat (first | apply Kd.R_alloc | apply Kd.R_drewN | apply Kd.R_drew)); exact HO_0.out, by repeat (first | (with_reducible first | exact HB.out | apply below_alloc | apply pw_below_drewN | apply below_drew1) | exact HB.out), by repeat (first | (with_reducible first | exact HK.out | apply Kept.alloc | apply Kept.drewN | apply Kept.drew) | exact HK.out)⟩
                · rw [if_neg c11] at H
                  have c11b0 : ((rd l0 (ji7)) == a1) = false := beq_eq_false_iff_ne.mpr c11
                  have c11b1 : ((rd l0 (ji7)) != a1) = true := bne_iff_ne.mpr c11
                  by_cases c12 : 0 ≤ x7_1 ∧ x7_1 ≤ (l0.length : Int) ∧ l0.length < 35184372088832
                  · rw [if_pos c12] at H
                    obtain ⟨k0, k1_, k2_⟩ := c12
                    obtain rfl := Option.some.inj H
                    have LMc12 := Aside0.mk k2_
                    obtain ⟨y138, hy138⟩ : ∃ y_ : List Int, y_ = (l0 ++ [0]) := ⟨_, rfl⟩
                    have Ny138 := Aside0.mk hy138
                    clear hy138
                    have p136 : 0 ≤ ((ji7) : Int) := of_decide_eq_true (by first | (with_reducible assumption) | assumption)
                    have q136 : (ji7) < (l0.length : Int) := of_decide_eq_true (by first | (with_reducible assumption) | assumption)
                    obtain ⟨ad136, e136, hx136_0⟩ := Kd.at_int (Kd.R_reads' HO_0.out).2.2 (ji7) p136 q136
                    cases e136
                    replace p136 := eq_true p136
                    replace q136 := eq_true q136
                    have p137 : 0 ≤ ((ji7) : Int) := of_decide_eq_true (by first | (with_reducible assumption) | assumption)
                    have q137 : (ji7) < (l0.length : Int) := of_decide_eq_true (by first | (with_reducible assumption) | assumption)
                    obtain ⟨ad137, e137, hx137_0⟩ := Kd.at_int (Kd.R_reads' HO_0.out).2.2 (ji7) p137 q137
                    obtain rfl : ad136 = ad137 := (by injection e137)
                    replace p137 := eq_true p137
                    replace q137 := eq_true q137
                    go_wp2_with (first | ((with_reducible refine gate_builtin (b := .append) (xs := #[.tmp 39, .tmp 40]) rfl ?_); at_builtin; refine Kd.R_append (Kd.int .u32) (w0 := w0) w0.heap.size rfl (.tmp 39) (.tmp 40) 51 26 (.int .u32 0) 4 rfl Try.underlying51 info26p rfl (by decide) (by omega) (.slice (some ad136) l0.length co5) l0 0 [.int .u32 0] (fun k_ => (P0_ k_ ∨ w.heap.size ≤ k_)) (fun _ => False) rfl rfl ?aP (fun _ hk => hk.elim) ?aF ?aO ?aB ?aS ?aL ?_; (case aP => exact rfl); (case aB => exact (by repeat (first | (with_reducible first | exact HB.out | apply below_alloc | apply pw_below_drewN | apply below_drew1) | exact HB.out))); (case aF => exact (fun k_ hk => (.inr (Nat.le_trans (by first | exact HK.out.1 | exact (show Kept w _ (fun k_ => P0_ k_) from by repeat (first | (with_reducible first | exact HK.out | apply Kept.alloc | apply Kept.drewN | apply Kept.drew) | exact HK.out)).1) hk)))); (case aO => exact (by (with_reducible repeat (first | apply Kd.R_alloc | apply Kd.R_drewN | apply Kd.R_drew)); exact HO_0.out)); (case aS => exact (below_size (by repeat (first | (with_reducible first | exact HB.out | apply below_alloc | apply pw_below_drewN | apply below_drew1) | exact HB.out)))); (case aL => have := LMc12.out; omega); intro v139 w20 ho hb hg hat; rw [← Ny138.out] at ho; have n0_ := Aside0.mk (hb); have n1_ := Aside0.mk (Kept.of_grown (S := (fun k_ => P0_ k_)) hg (by repeat (first | (with_reducible first | exact HK.out | apply Kept.alloc | apply Kept.drewN | apply Kept.drew) | exact HK.out)) (fun k_ e_ => (HO_0.out.1 k_ e_))); have n2_ := Aside0.mk (ho); clear HB; clear HK; clear HO_0; have HB := n0_; have HK := n1_; have HO9 := n2_; clear n0_ n1_ n2_; clear ho hb hg hat; obtain ⟨g, co, eo, hbg, hglt, hcells⟩ := Kd.R_form HO9.out (by rw [Ny138.out]; simp); (first | subst eo | (injection eo with f1_ f2_ f3_; subst f1_; subst f3_))))
                    have hyl' : y138.length = l0.length + 1 := by rw [Ny138.out]; simp
                    obtain ⟨kn, rfl⟩ : ∃ kn : Nat, x7_1 = (kn : Int) := ⟨x7_1.toNat, by omega⟩
                    have hadd : wrap64 ((kn : Int) + 1) = (kn : Int) + 1 := by unfold wrap64; have := LMc12.out; omega
                    have HR9 := HO9.out
                    have hroom : y138.length ≤ co := (Kd.R_reads' HR9).2.1
                    obtain ⟨i026, hi026, _, hsz26, _⟩ := info_parts info26p
                    have hcut1 := cut_from (P := Try.prog) 51 26 .i64 Try.underlying51 hi026 1 hsz26 (some ⟨g, 0, none⟩) y138.length co ((kn : Int) + 1) (by omega) (by omega)
                    have hcut2 := cut_from (P := Try.prog) 51 26 .i64 Try.underlying51 hi026 1 hsz26 (some ⟨g, 0, none⟩) y138.length co (kn : Int) (by omega) (by omega)
                    obtain ⟨A21, hA21⟩ : ∃ A1, A1 = (if co = ((kn : Int) + 1).toNat then (some ⟨g, 0, none⟩ : Option Addr) else (some ⟨g, 0, none⟩ : Option Addr).map (·.add (((kn : Int) + 1).toNat * 1))) := ⟨_, rfl⟩
                    obtain ⟨A23, hA23⟩ : ∃ A1, A1 = (if co = (kn : Int).toNat then (some ⟨g, 0, none⟩ : Option Addr) else (some ⟨g, 0, none⟩ : Option Addr).map (·.add ((kn : Int).toNat * 1))) := ⟨_, rfl⟩
                    rw [← hA21] at hcut1
                    rw [← hA23] at hcut2
                    have hA23' : A23 = some ⟨g, kn, none⟩ := by rw [hA23, if_neg (by simp; omega)]; simp [add_plain]
                    obtain ⟨o21, hA21', ho21, ho21b⟩ : ∃ o, A21 = some ⟨g, o, none⟩ ∧ (kn < l0.length → o = kn + 1) ∧ o ≤ kn + 1 := by
                      by_cases hq : co = ((kn : Int) + 1).toNat
                      · rw [hA21, if_pos hq]; exact ⟨0, rfl, fun h => by omega, by omega⟩
                      · rw [hA21, if_neg hq]; exact ⟨kn + 1, by simp [add_plain], fun _ => rfl, Nat.le_refl _⟩
                    rw [hA21', show ((kn : Int) + 1).toNat = kn + 1 by omega, show y138.length - (kn + 1) = l0.length - kn by omega] at hcut1
                    rw [hA23', show ((kn : Int)).toNat = kn by omega, show y138.length - kn = l0.length + 1 - kn by omega] at hcut2
                    clear hA21 hA23 hA21' hA23'
                    have hyl := Aside0.mk hyl'
                    clear hyl'
                    have ho21 := Aside0.mk ho21
                    have ho21b := Aside0.mk ho21b
                    have k1_ := Aside0.mk k1_
                    have hroom := Aside0.mk hroom
                    refine start_ (n := 8) (S := fun _ => True) (ds := []) #[false, false, false, false, false, false, false, false] (by kernel_rfl) rfl rfl trivial (fun _ => ?_)
                    have HR10 := Aside0.mk (Kd.R_drew HR9)
                    have HB10 := Aside0.mk (below_drew1 HB.out)
                    have HK10 := Aside0.mk HK.out.drew
                    clear HO9 HB HK HR9
                    generalize w20.drew = w21 at HR10 HB10 HK10 ⊢
                    refine pure_ (i := 0) (N := some 42) (v := ?_) (a' := ?_) #[true, false, false, false, false, false, false, false] rfl rfl (by kernel_rfl) (fun _ _ _ h => h) (Or.inl ⟨by rfl, ?_⟩) ?_ ?_
                    rotate_left
                    · intro w'
                      go_simp
                      with_reducible rfl
                    rotate_left
                    · simp only [Act.put, List.setIfInBounds_toArray, List.set_cons_zero, List.set_cons_succ, i64_w, i32_w]
                      rfl
                    refine pure_ (i := 1) (N := some 43) (v := ?_) (a' := ?_) #[true, true, false, false, false, false, false, false] rfl rfl (by kernel_rfl) (fun _ _ _ h => h) (Or.inl ⟨by rfl, ?_⟩) ?_ ?_
                    rotate_left
                    · intro w'
                      go_simp
                      with_reducible rfl
                    rotate_left
                    · simp only [Act.put, List.setIfInBounds_toArray, List.set_cons_zero, List.set_cons_succ, i64_w, i32_w]
                      rfl
                    refine pure_ (i := 2) (N := some 44) (v := ?_) (a' := ?_) #[true, true, true, false, false, false, false, false] rfl rfl (by kernel_rfl) (fun _ _ _ h => h) (Or.inl ⟨by rfl, ?_⟩) ?_ ?_
                    rotate_left
                    · intro w'
                      go_simp
                      with_reducible rfl
                    rotate_left
                    · simp only [Act.put, List.setIfInBounds_toArray, List.set_cons_zero, List.set_cons_succ, i64_w, i32_w, hadd]
                      rfl
                    refine pure_ (i := 3) (N := some 45) (v := ?_) (a' := ?_) #[true, true, true, true, false, false, false, false] rfl rfl (by kernel_rfl) (fun _ _ _ h => h) (Or.inl ⟨by rfl, ?_⟩) ?_ ?_
                    rotate_left
                    · intro w'
                      go_simp
                      with_reducible rfl
                    rotate_left
                    · simp only [Act.put, List.setIfInBounds_toArray, List.set_cons_zero, List.set_cons_succ, i64_w, i32_w]
                      rfl
                    refine pure_ (i := 4) (N := some 46) (v := ?_) (a' := ?_) #[true, true, true, true, true, false, false, false] rfl rfl (by kernel_rfl) (fun _ _ _ h => h) (Or.inl ⟨by rfl, ?_⟩) ?_ ?_
                    rotate_left
                    · intro w'
                      go_simp
                      with_reducible rfl
                    rotate_left
                    · simp only [Act.put, List.setIfInBounds_toArray, List.set_cons_zero, List.set_cons_succ, i64_w, i32_w]
                      rfl
                    refine pure_ (i := 5) (N := some 47) (v := ?_) (a' := ?_) #[true, true, true, true, true, true, false, false] rfl rfl (by kernel_rfl) (fun _ _ _ h => h) (Or.inl ⟨by rfl, ?_⟩) ?_ ?_
                    rotate_left
                    · intro w'
                      go_simp
                      with_reducible rfl
                    rotate_left
                    · simp only [Act.put, List.setIfInBounds_toArray, List.set_cons_zero, List.set_cons_succ, i64_w, i32_w]
                      rfl
                    refine pure_ (i := 6) (N := some 48) (v := ?_) (a' := ?_) #[true, true, true, true, true, true, true, false] rfl rfl (by kernel_rfl) (fun _ _ _ h => h) (Or.inl ⟨by rfl, ?_⟩) ?_ ?_
                    rotate_left
                    · intro w'
                      go_simp
                      with_reducible rfl
                    rotate_left
                    · simp only [Act.put, List.setIfInBounds_toArray, List.set_cons_zero, List.set_cons_succ, i64_w, i32_w]
                      rfl
                    refine one_ (i := 7) (N := some 49) #[true, true, true, true, true, true, true, true] rfl rfl (by kernel_rfl) (by decide) (fun K hK => ?_)
                    obtain ⟨vs, hvs⟩ : ∃ vs, vs = (y138.drop kn).take (l0.length - kn) := ⟨_, rfl⟩
                    have hcopy := fun ty => copy_in HR10.out hyl.out ho21.out (by have := k1_.out; omega : kn ≤ l0.length) hi026 hsz26 (l0.length + 1 - kn) (co - (kn + 1)) (co - kn) ty rfl hvs
                    have hvl : o21 + vs.length ≤ y138.length := by
                      have h1 : vs.length = l0.length - kn := by rw [hvs, List.length_take, List.length_drop, hyl.out]; omega
                      have := k1_.out
                      rcases Nat.lt_or_ge kn l0.length with h | h
                      · rw [ho21.out h, h1, hyl.out]; omega
                      · have := ho21b.out; rw [h1, hyl.out]; omega
                    obtain ⟨HR11, hBK⟩ := R_cells vs o21 w21 y138 HR10.out hvl
                    have HB11 := Aside0.mk ((hBK w0 w (fun k_ => P0_ k_)).1 HB10.out)
                    have HK11 := Aside0.mk ((hBK w0 w (fun k_ => P0_ k_)).2 HK10.out (HR10.out.1 g (by simp [Value.ownBlock])))
                    have hI := Aside0.mk (ins_eq l0 y138 vs kn o21 a1 (by have := k1_.out; omega) Ny138.out hvs ho21.out)
                    generalize (y138.take o21 ++ vs ++ y138.drop (o21 + vs.length)) = ys2 at HR11 hI
                    obtain ⟨w22, hw22⟩ : ∃ w_, w_ = w21.setCells g o21 (vs.map (.int .u32)) := ⟨_, rfl⟩
                    obtain ⟨vn, hvn⟩ : ∃ v_, v_ = goInt (vs.map (Value.int .u32)).length := ⟨_, rfl⟩
                    rw [← hw22] at HR11 HB11 HK11
                    have hcopy2 : ∀ ty, (Builtin.copy_ #[51, 51] ty #[.slice (some ⟨g, o21, none⟩) (l0.length - kn) (co - (kn + 1)), .slice (some ⟨g, kn, none⟩) (l0.length + 1 - kn) (co - kn)]).run Try.prog w21 = .ok vn w22 := fun ty => by rw [hcopy ty, hw22, hvn]
                    have HR11' := Aside0.mk HR11
                    clear HR11
                    have HR11 := HR11'
                    clear HR11'
                    clear hcopy hvl hBK hvs hvn hw22
                    refine event_step (by rfl) (w1 := w22) (v := vn) ?hr ?_
                    case hr => first | (go_simp; done) | (go_simp; rfl)
                    refine hK.out _ _ trivial (fun _ => ?_)
                    clear hK K
                    refine norm_ (a' := ?_) ?_ ?_
                    rotate_left
                    · show Act.put _ (some 49) _ = _
                      simp only [Act.put, List.setIfInBounds_toArray, List.set_cons_zero, List.set_cons_succ, i64_w, i32_w]
                      rfl
                    refine done_ (by kernel_rfl) ?_
                    clear hcopy2 hcut1 hcut2
                    obtain ⟨c, hc1, hM, hcc, hfr⟩ := Kd.R_elem HR11.out 0 (kn : Int) (by omega) (by have := k1_.out; have := hyl.out; omega)
                    have hc1' : c.length = 1 := hc1
                    obtain ⟨cv, hcell⟩ : ∃ cv, w22.cell? ⟨g, kn, none⟩ = some cv := ⟨c[0], by have h_ := hcc 0 c[0] (List.getElem?_eq_getElem (by omega)); simpa only [show (Kd.int IntKind.u32).sz = 1 from rfl, Int.toNat_natCast, Nat.mul_one, Nat.add_zero] using h_⟩
                    have hfrz := hfr 0
                    simp only [show (Kd.int IntKind.u32).sz = 1 from rfl, Int.toNat_natCast, Nat.mul_one, Nat.add_zero] at hfrz
                    have HR12 := Aside0.mk (Kd.R_seg HR11.out (kn : Int) (by omega) (by have := k1_.out; have := hyl.out; omega) (okp := fun k => (P0_ k ∨ w.heap.size ≤ k) ∧ k ≠ g) (seg := [.int .u32 a1]) (j := 0) hc1 hcc (by show 0 + 1 ≤ 1; omega) (x' := a1) (by rw [List.take_zero, List.nil_append, List.drop_of_length_le (by simp [hc1']), List.append_nil]; exact rfl) (fun k hk => hk)).1
                    rw [show (((kn : Int).toNat) * (Kd.int .u32).sz + 0) = kn by show (kn : Int).toNat * 1 + 0 = kn; omega, show ((kn : Int).toNat) = kn by omega, hI.out] at HR12
                    have HR13 := Aside0.mk (show Kd.R (Kd.int .u32) 26 (w22.setCell ⟨g, kn, none⟩ (.int .u32 a1)) w0.heap.size (fun k_ => (P0_ k_ ∨ w.heap.size ≤ k_)) (.slice (some ⟨g, 0, none⟩) y138.length co) (insAt l0 (kn : Int) a1) from HR12.out)
                    have e3 := eq_true (show (kn : Int) < (y138.length : Int) by have := k1_.out; have := hyl.out; omega)
                    clear hM hcc hfr hc1 hc1'
                    go_wp2
                    go_ret
                    exact ⟨_, rfl, HR13.out, HB11.out.setCell hbg _, HK11.out.setCell (HR11.out.1 g (by simp [Value.ownBlock])) _⟩
                  · rw [if_neg c12] at H
                    exact absurd H (by simp)
            · rw [if_neg c9] at H
              exact absurd H (by simp)
          · rw [if_neg c8] at H
            exact absurd H (by simp)
        · rw [if_neg c6] at H
          have c6b0 : decide (0 < x7_1) = false := decide_eq_false c6
          clear c6
          by_cases c12 : 0 ≤ x7_1 ∧ x7_1 ≤ (l0.length : Int) ∧ l0.length < 35184372088832
          · rw [if_pos c12] at H
            obtain ⟨k0, k1_, k2_⟩ := c12
            obtain rfl := Option.some.inj H
            have LMc12 := Aside0.mk k2_
            obtain ⟨y138, hy138⟩ : ∃ y_ : List Int, y_ = (l0 ++ [0]) := ⟨_, rfl⟩
            have Ny138 := Aside0.mk hy138
            clear hy138
            go_wp2_with (first | ((with_reducible refine gate_builtin (b := .append) (xs := #[.tmp 39, .tmp 40]) rfl ?_); at_builtin; refine Kd.R_append (Kd.int .u32) (w0 := w0) w0.heap.size rfl (.tmp 39) (.tmp 40) 51 26 (.int .u32 0) 4 rfl Try.underlying51 info26p rfl (by decide) (by omega) (.slice Ao5 l0.length co5) l0 0 [.int .u32 0] (fun k_ => (P0_ k_ ∨ w.heap.size ≤ k_)) (fun _ => False) rfl rfl ?aP (fun _ hk => hk.elim) ?aF ?aO ?aB ?aS ?aL ?_; (case aP => exact rfl); (case aB => exact (by repeat (first | (with_reducible first | exact HB.out | apply below_alloc | apply pw_below_drewN | apply below_drew1) | exact HB.out))); (case aF => exact (fun k_ hk => (.inr (Nat.le_trans (by first | exact HK.out.1 | exact (show Kept w _ (fun k_ => P0_ k_) from by repeat (first | (with_reducible first | exact HK.out | apply Kept.alloc | apply Kept.drewN | apply Kept.drew) | exact HK.out)).1) hk)))); (case aO => exact (by (with_reducible repeat (first | apply Kd.R_alloc | apply Kd.R_drewN | apply Kd.R_drew)); exact HO_0.out)); (case aS => exact (below_size (by repeat (first | (with_reducible first | exact HB.out | apply below_alloc | apply pw_below_drewN | apply below_drew1) | exact HB.out)))); (case aL => have := LMc12.out; omega); intro v139 w20 ho hb hg hat; rw [← Ny138.out] at ho; have n0_ := Aside0.mk (hb); have n1_ := Aside0.mk (Kept.of_grown (S := (fun k_ => P0_ k_)) hg (by repeat (first | (with_reducible first | exact HK.out | apply Kept.alloc | apply Kept.drewN | apply Kept.drew) | exact HK.out)) (fun k_ e_ => (HO_0.out.1 k_ e_))); have n2_ := Aside0.mk (ho); clear HB; clear HK; clear HO_0; have HB := n0_; have HK := n1_; have HO9 := n2_; clear n0_ n1_ n2_; clear ho hb hg hat; obtain ⟨g, co, eo, hbg, hglt, hcells⟩ := Kd.R_form HO9.out (by rw [Ny138.out]; simp); (first | subst eo | (injection eo with f1_ f2_ f3_; subst f1_; subst f3_))))
            have hyl' : y138.length = l0.length + 1 := by rw [Ny138.out]; simp
            obtain ⟨kn, rfl⟩ : ∃ kn : Nat, x7_1 = (kn : Int) := ⟨x7_1.toNat, by omega⟩
            have hadd : wrap64 ((kn : Int) + 1) = (kn : Int) + 1 := by unfold wrap64; have := LMc12.out; omega
            have HR9 := HO9.out
            have hroom : y138.length ≤ co := (Kd.R_reads' HR9).2.1
            obtain ⟨i026, hi026, _, hsz26, _⟩ := info_parts info26p
            have hcut1 := cut_from (P := Try.prog) 51 26 .i64 Try.underlying51 hi026 1 hsz26 (some ⟨g, 0, none⟩) y138.length co ((kn : Int) + 1) (by omega) (by omega)
            have hcut2 := cut_from (P := Try.prog) 51 26 .i64 Try.underlying51 hi026 1 hsz26 (some ⟨g, 0, none⟩) y138.length co (kn : Int) (by omega) (by omega)
            obtain ⟨A21, hA21⟩ : ∃ A1, A1 = (if co = ((kn : Int) + 1).toNat then (some ⟨g, 0, none⟩ : Option Addr) else (some ⟨g, 0, none⟩ : Option Addr).map (·.add (((kn : Int) + 1).toNat * 1))) := ⟨_, rfl⟩
            obtain ⟨A23, hA23⟩ : ∃ A1, A1 = (if co = (kn : Int).toNat then (some ⟨g, 0, none⟩ : Option Addr) else (some ⟨g, 0, none⟩ : Option Addr).map (·.add ((kn : Int).toNat * 1))) := ⟨_, rfl⟩
            rw [← hA21] at hcut1
            rw [← hA23] at hcut2
            have hA23' : A23 = some ⟨g, kn, none⟩ := by rw [hA23, if_neg (by simp; omega)]; simp [add_plain]
            obtain ⟨o21, hA21', ho21, ho21b⟩ : ∃ o, A21 = some ⟨g, o, none⟩ ∧ (kn < l0.length → o = kn + 1) ∧ o ≤ kn + 1 := by
              by_cases hq : co = ((kn : Int) + 1).toNat
              · rw [hA21, if_pos hq]; exact ⟨0, rfl, fun h => by omega, by omega⟩
              · rw [hA21, if_neg hq]; exact ⟨kn + 1, by simp [add_plain], fun _ => rfl, Nat.le_refl _⟩
            rw [hA21', show ((kn : Int) + 1).toNat = kn + 1 by omega, show y138.length - (kn + 1) = l0.length - kn by omega] at hcut1
            rw [hA23', show ((kn : Int)).toNat = kn by omega, show y138.length - kn = l0.length + 1 - kn by omega] at hcut2
            clear hA21 hA23 hA21' hA23'
            have hyl := Aside0.mk hyl'
            clear hyl'
            have ho21 := Aside0.mk ho21
            have ho21b := Aside0.mk ho21b
            have k1_ := Aside0.mk k1_
            have hroom := Aside0.mk hroom
            refine start_ (n := 8) (S := fun _ => True) (ds := []) #[false, false, false, false, false, false, false, false] (by kernel_rfl) rfl rfl trivial (fun _ => ?_)
            have HR10 := Aside0.mk (Kd.R_drew HR9)
            have HB10 := Aside0.mk (below_drew1 HB.out)
            have HK10 := Aside0.mk HK.out.drew
            clear HO9 HB HK HR9
            generalize w20.drew = w21 at HR10 HB10 HK10 ⊢
            refine pure_ (i := 0) (N := some 42) (v := ?_) (a' := ?_) #[true, false, false, false, false, false, false, false] rfl rfl (by kernel_rfl) (fun _ _ _ h => h) (Or.inl ⟨by rfl, ?_⟩) ?_ ?_
            rotate_left
            · intro w'
              go_simp
              with_reducible rfl
            rotate_left
            · simp only [Act.put, List.setIfInBounds_toArray, List.set_cons_zero, List.set_cons_succ, i64_w, i32_w]
              rfl
            refine pure_ (i := 1) (N := some 43) (v := ?_) (a' := ?_) #[true, true, false, false, false, false, false, false] rfl rfl (by kernel_rfl) (fun _ _ _ h => h) (Or.inl ⟨by rfl, ?_⟩) ?_ ?_
            rotate_left
            · intro w'
              go_simp
              with_reducible rfl
            rotate_left
            · simp only [Act.put, List.setIfInBounds_toArray, List.set_cons_zero, List.set_cons_succ, i64_w, i32_w]
              rfl
            refine pure_ (i := 2) (N := some 44) (v := ?_) (a' := ?_) #[true, true, true, false, false, false, false, false] rfl rfl (by kernel_rfl) (fun _ _ _ h => h) (Or.inl ⟨by rfl, ?_⟩) ?_ ?_
            rotate_left
            · intro w'
              go_simp
              with_reducible rfl
            rotate_left
            · simp only [Act.put, List.setIfInBounds_toArray, List.set_cons_zero, List.set_cons_succ, i64_w, i32_w, hadd]
              rfl
            refine pure_ (i := 3) (N := some 45) (v := ?_) (a' := ?_) #[true, true, true, true, false, false, false, false] rfl rfl (by kernel_rfl) (fun _ _ _ h => h) (Or.inl ⟨by rfl, ?_⟩) ?_ ?_
            rotate_left
            · intro w'
              go_simp
              with_reducible rfl
            rotate_left
            · simp only [Act.put, List.setIfInBounds_toArray, List.set_cons_zero, List.set_cons_succ, i64_w, i32_w]
              rfl
            refine pure_ (i := 4) (N := some 46) (v := ?_) (a' := ?_) #[true, true, true, true, true, false, false, false] rfl rfl (by kernel_rfl) (fun _ _ _ h => h) (Or.inl ⟨by rfl, ?_⟩) ?_ ?_
            rotate_left
            · intro w'
              go_simp
              with_reducible rfl
            rotate_left
            · simp only [Act.put, List.setIfInBounds_toArray, List.set_cons_zero, List.set_cons_succ, i64_w, i32_w]
              rfl
            refine pure_ (i := 5) (N := some 47) (v := ?_) (a' := ?_) #[true, true, true, true, true, true, false, false] rfl rfl (by kernel_rfl) (fun _ _ _ h => h) (Or.inl ⟨by rfl, ?_⟩) ?_ ?_
            rotate_left
            · intro w'
              go_simp
              with_reducible rfl
            rotate_left
            · simp only [Act.put, List.setIfInBounds_toArray, List.set_cons_zero, List.set_cons_succ, i64_w, i32_w]
              rfl
            refine pure_ (i := 6) (N := some 48) (v := ?_) (a' := ?_) #[true, true, true, true, true, true, true, false] rfl rfl (by kernel_rfl) (fun _ _ _ h => h) (Or.inl ⟨by rfl, ?_⟩) ?_ ?_
            rotate_left
            · intro w'
              go_simp
              with_reducible rfl
            rotate_left
            · simp only [Act.put, List.setIfInBounds_toArray, List.set_cons_zero, List.set_cons_succ, i64_w, i32_w]
              rfl
            refine one_ (i := 7) (N := some 49) #[true, true, true, true, true, true, true, true] rfl rfl (by kernel_rfl) (by decide) (fun K hK => ?_)
            obtain ⟨vs, hvs⟩ : ∃ vs, vs = (y138.drop kn).take (l0.length - kn) := ⟨_, rfl⟩
            have hcopy := fun ty => copy_in HR10.out hyl.out ho21.out (by have := k1_.out; omega : kn ≤ l0.length) hi026 hsz26 (l0.length + 1 - kn) (co - (kn + 1)) (co - kn) ty rfl hvs
            have hvl : o21 + vs.length ≤ y138.length := by
              have h1 : vs.length = l0.length - kn := by rw [hvs, List.length_take, List.length_drop, hyl.out]; omega
              have := k1_.out
              rcases Nat.lt_or_ge kn l0.length with h | h
              · rw [ho21.out h, h1, hyl.out]; omega
              · have := ho21b.out; rw [h1, hyl.out]; omega
            obtain ⟨HR11, hBK⟩ := R_cells vs o21 w21 y138 HR10.out hvl
            have HB11 := Aside0.mk ((hBK w0 w (fun k_ => P0_ k_)).1 HB10.out)
            have HK11 := Aside0.mk ((hBK w0 w (fun k_ => P0_ k_)).2 HK10.out (HR10.out.1 g (by simp [Value.ownBlock])))
            have hI := Aside0.mk (ins_eq l0 y138 vs kn o21 a1 (by have := k1_.out; omega) Ny138.out hvs ho21.out)
            generalize (y138.take o21 ++ vs ++ y138.drop (o21 + vs.length)) = ys2 at HR11 hI
            obtain ⟨w22, hw22⟩ : ∃ w_, w_ = w21.setCells g o21 (vs.map (.int .u32)) := ⟨_, rfl⟩
            obtain ⟨vn, hvn⟩ : ∃ v_, v_ = goInt (vs.map (Value.int .u32)).length := ⟨_, rfl⟩
            rw [← hw22] at HR11 HB11 HK11
            have hcopy2 : ∀ ty, (Builtin.copy_ #[51, 51] ty #[.slice (some ⟨g, o21, none⟩) (l0.length - kn) (co - (kn + 1)), .slice (some ⟨g, kn, none⟩) (l0.length + 1 - kn) (co - kn)]).run Try.prog w21 = .ok vn w22 := fun ty => by rw [hcopy ty, hw22, hvn]
            have HR11' := Aside0.mk HR11
            clear HR11
            have HR11 := HR11'
            clear HR11'
            clear hcopy hvl hBK hvs hvn hw22
            refine event_step (by rfl) (w1 := w22) (v := vn) ?hr ?_
            case hr => first | (go_simp; done) | (go_simp; rfl)
            refine hK.out _ _ trivial (fun _ => ?_)
            clear hK K
            refine norm_ (a' := ?_) ?_ ?_
            rotate_left
            · show Act.put _ (some 49) _ = _
              simp only [Act.put, List.setIfInBounds_toArray, List.set_cons_zero, List.set_cons_succ, i64_w, i32_w]
              rfl
            refine done_ (by kernel_rfl) ?_
            clear hcopy2 hcut1 hcut2
            obtain ⟨c, hc1, hM, hcc, hfr⟩ := Kd.R_elem HR11.out 0 (kn : Int) (by omega) (by have := k1_.out; have := hyl.out; omega)
            have hc1' : c.length = 1 := hc1
            obtain ⟨cv, hcell⟩ : ∃ cv, w22.cell? ⟨g, kn, none⟩ = some cv := ⟨c[0], by have h_ := hcc 0 c[0] (List.getElem?_eq_getElem (by omega)); simpa only [show (Kd.int IntKind.u32).sz = 1 from rfl, Int.toNat_natCast, Nat.mul_one, Nat.add_zero] using h_⟩
            have hfrz := hfr 0
            simp only [show (Kd.int IntKind.u32).sz = 1 from rfl, Int.toNat_natCast, Nat.mul_one, Nat.add_zero] at hfrz
            have HR12 := Aside0.mk (Kd.R_seg HR11.out (kn : Int) (by omega) (by have := k1_.out; have := hyl.out; omega) (okp := fun k => (P0_ k ∨ w.heap.size ≤ k) ∧ k ≠ g) (seg := [.int .u32 a1]) (j := 0) hc1 hcc (by show 0 + 1 ≤ 1; omega) (x' := a1) (by rw [List.take_zero, List.nil_append, List.drop_of_length_le (by simp [hc1']), List.append_nil]; exact rfl) (fun k hk => hk)).1
            rw [show (((kn : Int).toNat) * (Kd.int .u32).sz + 0) = kn by show (kn : Int).toNat * 1 + 0 = kn; omega, show ((kn : Int).toNat) = kn by omega, hI.out] at HR12
            have HR13 := Aside0.mk (show Kd.R (Kd.int .u32) 26 (w22.setCell ⟨g, kn, none⟩ (.int .u32 a1)) w0.heap.size (fun k_ => (P0_ k_ ∨ w.heap.size ≤ k_)) (.slice (some ⟨g, 0, none⟩) y138.length co) (insAt l0 (kn : Int) a1) from HR12.out)
            have e3 := eq_true (show (kn : Int) < (y138.length : Int) by have := k1_.out; have := hyl.out; omega)
            clear hM hcc hfr hc1 hc1'
            go_wp2
            go_ret
            exact ⟨_, rfl, HR13.out, HB11.out.setCell hbg _, HK11.out.setCell (HR11.out.1 g (by simp [Value.ownBlock])) _⟩
          · rw [if_neg c12] at H
            exact absurd H (by simp)

end Go.Proofs.Ytmoagoopdfpcnaa.Q
