/- SpansEach, walked by hand. -/
import Derived.Shelf.RegionOpen
import Derived.Test.YtmoagoopdfpcnaaEEach
import Derived.Test.YtmoagoopdfpcnaaELarge
import Derived.Test.YtmoagoopdfpcnaaQx23
import Derived.Test.YtmoagoopdfpcnaaQx24
import Derived.Test.YtmoagoopdfpcnaaQx28
namespace Go.Proofs.Ytmoagoopdfpcnaa.Q
open Go.RowKit Go.Shelf Go.Proofs.YtmoagoopdfpcnaaW.PrintWords Go.Proofs.YtmoagoopdfpcnaaW.PrintLast Go.Proofs.YtmoagoopdfpcnaaW.PrintMore
attribute [local go_sem] Oper.semAt_some
set_option linter.unusedVariables false
set_option linter.unusedSimpArgs false

/-- Where the law stands when 'pre' has come: in span i, at the number a; or behind the last. -/
def At (fs : List S31) (pre : List Int) (i : Nat) (a : Int) : Prop :=
  (i < fs.length ∧ ∃ j : Nat, pre = numsL (fs.take i) ++ numsFrom (fs.getD i z31).f0 j ∧ a = (fs.getD i z31).f0 + j ∧ a ≤ (fs.getD i z31).f1) ∨ (i = fs.length ∧ pre = numsL fs ∧ 0 ≤ a ∧ a ≤ 4294967296)

theorem getD_at {fs : List S31} {i : Nat} (h : i < fs.length) : fs.getD i z31 = fs[i] := by simp [h]
theorem at_next {fs : List S31} {pre : List Int} {i : Nat} {a : Int} (h : At fs pre i a) (hi : i < fs.length) : pre ++ [a] <+: numsL fs := by
  rcases h with ⟨_, j, rfl, rfl, hle⟩ | ⟨rfl, _⟩
  · rw [List.append_assoc, ← numsFrom_succ]
    rw [getD_at hi] at hle ⊢
    exact nums_pre fs i hi (j + 1) (by omega)
  · omega
theorem at_bad {fs : List S31} {pre : List Int} {i : Nat} {a x : Int} (h : At fs pre i a) (hx : x ≠ a) : ¬ pre ++ [x] <+: numsL fs := by
  intro hp
  by_cases hi : i < fs.length
  · have h2 := at_next h hi
    have h3 := List.prefix_of_prefix_length_le hp h2 (by simp)
    have h4 := h3.eq_of_length (by simp)
    simp at h4
    exact hx h4
  · rcases h with ⟨h1, _⟩ | ⟨rfl, rfl, _⟩
    · exact hi h1
    · have := hp.length_le; simp at this; omega
theorem at_bad2 {fs : List S31} {pre : List Int} {i : Nat} {a x : Int} (h : At fs pre i a) (hi : ¬ i < fs.length) : ¬ pre ++ [x] <+: numsL fs := by
  intro hp
  rcases h with ⟨h1, _⟩ | ⟨rfl, rfl, _⟩
  · exact hi h1
  · have := hp.length_le; simp at this; omega
theorem at_stay {fs : List S31} {pre : List Int} {i : Nat} {a : Int} (h : At fs pre i a) (hi : i < fs.length) (hle : a + 1 ≤ (fs.getD i z31).f1) : At fs (pre ++ [a]) i (a + 1) := by
  rcases h with ⟨_, j, rfl, rfl, _⟩ | ⟨rfl, _⟩
  · refine .inl ⟨hi, j + 1, by rw [List.append_assoc, ← numsFrom_succ], by omega, hle⟩
  · omega
theorem at_last {fs : List S31} {pre : List Int} {i : Nat} {a : Int} (h : At fs pre i a) (hi : i < fs.length) (hgt : (fs.getD i z31).f1 < a + 1) : pre ++ [a] = numsL (fs.take (i + 1)) := by
  rcases h with ⟨_, j, rfl, rfl, hle⟩ | ⟨rfl, _⟩
  · rw [numsL_take_succ fs i hi, List.append_assoc, ← numsFrom_succ]
    rw [getD_at hi] at *
    unfold numsS
    rw [show (fs[i].f1 + 1 - fs[i].f0).toNat = j + 1 by omega]
  · omega
theorem at_over {fs : List S31} {pre : List Int} {i : Nat} {a : Int} (hok : ∀ s ∈ fs, 0 ≤ s.f0 ∧ s.f0 ≤ s.f1 ∧ s.f1 ≤ 4294967295) (h : At fs pre i a) (hi : i < fs.length) (hgt : (fs.getD i z31).f1 < a + 1) (hn : i + 1 < fs.length) : At fs (pre ++ [a]) (i + 1) (fs.getD (i + 1) z31).f0 := by
  have h1 := at_last h hi hgt
  have h2 := hok fs[i + 1] (List.getElem_mem hn)
  refine .inl ⟨hn, 0, by rw [h1]; simp [numsFrom], by simp, by rw [getD_at hn]; omega⟩
theorem at_end {fs : List S31} {pre : List Int} {i : Nat} {a : Int} (hok : ∀ s ∈ fs, 0 ≤ s.f0 ∧ s.f0 ≤ s.f1 ∧ s.f1 ≤ 4294967295) (h : At fs pre i a) (hi : i < fs.length) (hgt : (fs.getD i z31).f1 < a + 1) (hn : ¬ i + 1 < fs.length) : At fs (pre ++ [a]) (i + 1) (a + 1) := by
  have h1 := at_last h hi hgt
  have h2 := hok fs[i] (List.getElem_mem hi)
  rcases h with ⟨_, j, rfl, rfl, hle⟩ | ⟨rfl, _⟩
  · rw [getD_at hi] at *
    refine .inr ⟨by omega, by rw [h1, List.take_of_length_le (by omega)], by omega, by omega⟩
  · omega
theorem at_start (fs : List S31) (hok : ∀ s ∈ fs, 0 ≤ s.f0 ∧ s.f0 ≤ s.f1 ∧ s.f1 ≤ 4294967295) : At fs [] 0 (if 0 < fs.length then (fs.getD 0 z31).f0 else 0) := by
  by_cases h : 0 < fs.length
  · rw [if_pos h]
    have h2 := hok fs[0] (List.getElem_mem h)
    refine .inl ⟨h, 0, by simp [numsFrom, numsL], by simp, by rw [getD_at h]; omega⟩
  · rw [if_neg h]
    have : fs = [] := List.eq_nil_of_length_eq_zero (by omega)
    subst this
    exact .inr ⟨rfl, rfl, by omega, by omega⟩
theorem at_done {fs : List S31} {i : Nat} {a : Int} (h : At fs (numsL fs) i a) : i = fs.length := by
  by_cases hi : i < fs.length
  · have := (at_next h hi).length_le; simp at this; omega
  · rcases h with ⟨h1, _⟩ | ⟨h1, _⟩ <;> omega
theorem at_range {fs : List S31} {pre : List Int} {i : Nat} {a : Int} (hok : ∀ s ∈ fs, 0 ≤ s.f0 ∧ s.f0 ≤ s.f1 ∧ s.f1 ≤ 4294967295) (h : At fs pre i a) : 0 ≤ a ∧ a ≤ 4294967296 ∧ (i < fs.length → a ≤ 4294967295) ∧ i ≤ fs.length := by
  rcases h with ⟨hi, j, _, rfl, hle⟩ | ⟨rfl, _, h1, h2⟩
  · have h2 := hok fs[i] (List.getElem_mem hi)
    rw [getD_at hi] at *
    omega
  · omega

def wrU (x : Int) : Int := IntKind.u64.wrap x
theorem nums_range {fs : List S31} (hok : ∀ s ∈ fs, 0 ≤ s.f0 ∧ s.f0 ≤ s.f1 ∧ s.f1 ≤ 4294967295) : ∀ x ∈ numsL fs, 0 ≤ x ∧ x ≤ 4294967295 := by
  intro x hx
  unfold numsL at hx
  obtain ⟨s, hs, hx⟩ := List.mem_flatMap.1 hx
  have h := hok s hs
  unfold numsS numsFrom at hx
  obtain ⟨j, hj, rfl⟩ := List.mem_map.1 hx
  have := List.mem_range.1 hj
  omega
theorem nums_wrap {fs : List S31} (hok : ∀ s ∈ fs, 0 ≤ s.f0 ∧ s.f0 ≤ s.f1 ∧ s.f1 ≤ 4294967295) : (numsL fs).map wrU = numsL fs := by
  have h : (numsL fs).map wrU = (numsL fs).map id := List.map_congr_left (fun x hx => by
    have := nums_range hok x hx
    simp [wrU, IntKind.wrap, IntKind.bits, IntKind.signed]; omega)
  rw [h, List.map_id]
theorem bad_wrap {fs : List S31} (hok : ∀ s ∈ fs, 0 ≤ s.f0 ∧ s.f0 ≤ s.f1 ∧ s.f1 ≤ 4294967295) {pre : List Int} {x : Int} (h : ¬ pre.map wrU ++ [IntKind.u64.wrap x] <+: numsL fs) : ¬ pre ++ [x] <+: numsL fs := fun hp => h (by
  have h1 := List.IsPrefix.map wrU hp
  rw [nums_wrap hok, List.map_append] at h1
  exact h1)

set_option maxHeartbeats 1000000 in
/-- spans.Each's call: the form is boxed; the closure captures the box. -/
theorem spans_Each_calls (k : Nat) (A0 : Option Addr) (c0 : Nat) (l0 r : List S31) (w : World) (hr0 : Kd.C k31 w A0 l0.length l0) (hc0 : l0.length ≤ c0) (h : spans_Form.f k l0 = some r) :
    Calls Try.prog 36 #[.slice A0 l0.length c0] w fun e w' => ∃ (Bs : Nat) (v : Value), e = .returned (.func (.func 80) #[] #[.pointer (some ⟨Bs, 0, none⟩)]) ∧ w.heap.size ≤ Bs ∧
      w'.heap[Bs]? = some (.cells #[v] 71) ∧ Kd.R k31 31 w' w.heap.size (fun k => k ≠ Bs) v r ∧ Below w.heap.size w w' := by
  go_enter Try.func36, Try.ntmps36
  go_wp2_with (go_at_call 47; refine (spans_Form.calls k A0 c0 l0 r _ hr0 hc0 h).mono ?_; rintro e w1 ⟨v, rfl, ho, hb⟩; obtain ⟨Av, cv, rfl, hcv, hCv⟩ := Kd.R_reads ho)
  go_ret
  have hlt := hb.size
  refine ⟨w1.heap.size, .slice Av r.length cv, rfl, hlt, ?_, ?_, hb.trans ((Below.refl _ w1).alloc hlt _)⟩
  · exact Array.getElem?_push_size
  · exact Kd.R_below (Kd.R_mono (Kd.R_bound ho) (fun k hk => Nat.ne_of_lt hk.2.2.1)) (below_alloc (Below.refl _ w1) _)

theorem R_empty' (W : World) (base : Nat) (h : base ≤ W.heap.size) : Kd.R k31 31 (W.alloc (.cells #[] 31)) base (fun _ => True) (.slice (some ⟨W.heap.size, 0, none⟩) 0 0) [] :=
  ⟨fun _ _ => trivial, [], ⟨rfl, Or.inr ⟨W.heap.size, 0, #[], rfl, h, blk_new W _, Nat.le_refl _, by decide, rfl, rfl⟩⟩, Reps.none _ _⟩

theorem func_not_nil (W : World) (lb : Array Value) : (binOp .eql 74 (.func (.func 80) #[] lb) .nilFunc).run Try.prog W = .ok (.bool false) W := by kernel_rfl

theorem store56 {W : World} {base g n cap : Nat} {ok : Nat → Prop} {xs : List S31} (H : Kd.R k31 31 W base ok (.slice (some ⟨g, 0, none⟩) n cap) xs) (i : Nat) (hi : i < n) :
    ∃ xs' : List S31, xs'.length = xs.length ∧ Kd.R k31 31 ((W.setCell ⟨g, i * 2, none⟩ (.int .u32 5)).setCell ⟨g, i * 2 + 1, none⟩ (.int .u32 6)) base ok (.slice (some ⟨g, 0, none⟩) n cap) xs' := by
  obtain ⟨c, hcl, hM, hcc, hf⟩ := Kd.R_elem H z31 (i : Int) (by omega) (by omega)
  obtain rfl := k31_openM hM
  have h1 := (Kd.R_seg H (i : Int) (by omega) (by omega) (seg := [.int .u32 5, .int .u32 6]) (j := 0) (okp := fun k => ok k ∧ k ≠ g) (x' := ⟨5, 6⟩) hcl hcc (by show 0 + 2 ≤ 2; omega) (k31_mkM _ _ _ (⟨5, 6⟩ : S31)) (fun k hk => hk)).1
  rw [Int.toNat_natCast] at h1
  exact ⟨_, by rw [List.length_set], h1⟩
theorem cells31 {W : World} {base g n cap : Nat} {ok : Nat → Prop} {xs : List S31} (H : Kd.R k31 31 W base ok (.slice (some ⟨g, 0, none⟩) n cap) xs) (i : Nat) (hi : i < n) :
    (∃ v : Int, W.cell? ⟨g, i * 2, none⟩ = some (.int .u32 v)) ∧ W.frozen? ⟨g, i * 2, none⟩ = false ∧ (∃ v : Int, W.cell? ⟨g, i * 2 + 1, none⟩ = some (.int .u32 v)) ∧ W.frozen? ⟨g, i * 2 + 1, none⟩ = false := by
  obtain ⟨c, hcl, hM, hcc, hf⟩ := Kd.R_elem H z31 (i : Int) (by omega) (by omega)
  obtain rfl := k31_openM hM
  have h1 := hcc 0 _ rfl
  have h2 := hf 0
  have h3 := hcc 1 _ rfl
  have h4 := hf 1
  rw [Int.toNat_natCast] at h1 h2 h3 h4
  exact ⟨⟨_, h1⟩, h2, ⟨_, h3⟩, h4⟩

theorem each_row {W : World} {base : Nat} {ok : Nat → Prop} {v : Value} {fs : List S31} (H : Kd.R k31 31 W base ok v fs) :
    ∃ A c, v = .slice A fs.length c ∧ (A = none → fs = [] ∧ c = 0) ∧ ∀ a, A = some a → a.spot = none ∧ a.block < W.heap.size ∧ ok a.block ∧ base ≤ a.block ∧
      ∀ j, j < fs.length → W.cell? ⟨a.block, a.off + j * 2, none⟩ = some (.int .u32 (fs.getD j z31).f0) ∧ W.cell? ⟨a.block, a.off + j * 2 + 1, none⟩ = some (.int .u32 (fs.getD j z31).f1) := by
  have H' := H
  obtain ⟨hP, inner, ⟨hlen, ho⟩, hrep⟩ := H
  rcases ho with ⟨hv, h0⟩ | ⟨g, cap, cur, hv, hg⟩
  · have hf : fs = [] := List.eq_nil_of_length_eq_zero h0
    subst hf
    exact ⟨none, 0, hv, fun _ => ⟨rfl, rfl⟩, fun a ha => by cases ha⟩
  · refine ⟨some ⟨g, 0, none⟩, cap, hv, (fun h => by cases h), fun a ha => ?_⟩
    cases ha
    subst hv
    refine ⟨rfl, Kd.R_lt H' g rfl, H'.1 g rfl, Kd.R_base H' g rfl, fun j hj => ?_⟩
    obtain ⟨c, hcl, hM, hcc, hf⟩ := Kd.R_elem H' z31 (j : Int) (by omega) (by omega)
    obtain rfl := k31_openM hM
    have h1 := hcc 0 _ rfl
    have h3 := hcc 1 _ rfl
    rw [Int.toNat_natCast] at h1 h3
    rw [Nat.zero_add]
    exact ⟨h1, h3⟩
theorem cells_at {W : World} {base g n cap : Nat} {ok : Nat → Prop} {xs : List S31} (H : Kd.R k31 31 W base ok (.slice (some ⟨g, 0, none⟩) n cap) xs) (i : Nat) (hi : i < n) :
    W.cell? ⟨g, i * 2, none⟩ = some (.int .u32 (xs.getD i z31).f0) ∧ W.cell? ⟨g, i * 2 + 1, none⟩ = some (.int .u32 (xs.getD i z31).f1) := by
  obtain ⟨c, hcl, hM, hcc, hf⟩ := Kd.R_elem H z31 (i : Int) (by omega) (by omega)
  obtain rfl := k31_openM hM
  have h1 := hcc 0 _ rfl
  have h3 := hcc 1 _ rfl
  rw [Int.toNat_natCast] at h1 h3
  exact ⟨h1, h3⟩
theorem cell_alloc4 {W : World} {g o : Nat} {v : Value} (hg : g < W.heap.size) (h : W.cell? ⟨g, o, none⟩ = some v) : ∀ o1 o2 o3 o4 : Obj, ((((W.alloc o1).alloc o2).alloc o3).alloc o4).cell? ⟨g, o, none⟩ = some v :=
  fun o1 o2 o3 o4 => (((((Below.refl W.heap.size W).alloc (Nat.le_refl _) o1).alloc (by simp) o2).alloc (by simp; omega) o3).alloc (by simp; omega) o4).cell (p := ⟨g, o, none⟩) hg |>.trans h
theorem boxed_step {W W' : World} {row : Option Nat} {B : Nat} {t : TypeId} {v : Value} (h : Boxed W B t v) (hg : W.grownBy W' row) (hr : ∀ r, row = some r → ∃ o : Obj, W.heap[r]? = some o ∧ o.isCells = false) : Boxed W' B t v :=
  h.kept hg (fun e => by
    obtain ⟨o, h1, h2⟩ := hr B e.symm
    rw [show W.heap[B]? = _ from h] at h1
    cases h1
    simp [Obj.isCells] at h2)
theorem wp_named {P : Program} {c : Code} {Q : Exit → Act → World → Prop} {a : Act} {w : World} (h : ∀ Q' : Exit → Act → World → Prop, Q = Q' → c.wp P Q' a w) : c.wp P Q a w := h Q rfl

/-- Between two rounds of the second loop. -/
def EachI (fs : List S31) (B : Nat) (sl : Value) (V : World) (pre : List Int) (W : World) : Prop :=
  ∃ (i : Nat) (a : Int), At fs (pre.map wrU) i a ∧ pre.length ≤ 300 ∧ Boxed W B 71 sl ∧ Boxed W (B + 1) 3 (.int .i64 (i : Int)) ∧ Boxed W (B + 1 + 1) 3 (.int .i64 (pre.length : Int)) ∧ Boxed W (B + 1 + 1 + 1) 77 (.int .u64 a) ∧ Below B V W
/-- .. where a round has returned. -/
def EachX (fs : List S31) (Br D : Nat) (w : World) (c : Code) (pre : List Int) (W : World) : Prop :=
  c = .ret ∧ ∃ b : Bool, Boxed W Br 4 (.bool b) ∧ (b = false → ¬ pre <+: numsL fs) ∧ W.heap[D]? = some (.deferred (some [])) ∧ Below w.heap.size w W
theorem boxed_other {W : World} {B : Nat} {t : TypeId} {v : Value} (h : Boxed W B t v) {b : Nat} (hb : B ≠ b) (o : Nat) (u : Value) : Boxed (W.setCell ⟨b, o, none⟩ u) B t v := (Below.heap_setCell W ⟨b, o, none⟩ u B hb).trans h
theorem wrU_snoc (pre : List Int) (x a : Int) (hx : IntKind.u64.wrap x = a) : (pre ++ [x]).map wrU = pre.map wrU ++ [a] := by rw [List.map_append, ← hx]; rfl
theorem each_end {fs : List S31} {B B0 : Nat} {sl : Value} {V W : World} {pre : List Int} {x : Int} {i0 i : Nat} {a0 a1 a : Int} (hB0 : B < B0) (hAt : At fs ((pre ++ [x]).map wrU) i a) (hl : pre.length + 1 ≤ 300) (h3 : Boxed W B 71 sl)
    (h4 : Boxed W (B + 1) 3 (.int .i64 (i0 : Int))) (h5 : Boxed W (B + 1 + 1) 3 (.int .i64 (pre.length : Int))) (h6 : Boxed W (B + 1 + 1 + 1) 77 (.int .u64 a0)) (h7 : Below B V W) :
    (i = i0 → a = a1 → KeepsFrom B0 W ((W.setCell ⟨B + 1 + 1, 0, none⟩ (.int .i64 ((pre.length : Int) + 1))).setCell ⟨B + 1 + 1 + 1, 0, none⟩ (.int .u64 a1)) ∧ KeepCells B (B + 4) W ((W.setCell ⟨B + 1 + 1, 0, none⟩ (.int .i64 ((pre.length : Int) + 1))).setCell ⟨B + 1 + 1 + 1, 0, none⟩ (.int .u64 a1)) ∧
      EachI fs B sl V (pre ++ [x]) ((W.setCell ⟨B + 1 + 1, 0, none⟩ (.int .i64 ((pre.length : Int) + 1))).setCell ⟨B + 1 + 1 + 1, 0, none⟩ (.int .u64 a1))) ∧
    (i = i0 + 1 → a = a1 → KeepsFrom B0 W (((W.setCell ⟨B + 1 + 1, 0, none⟩ (.int .i64 ((pre.length : Int) + 1))).setCell ⟨B + 1 + 1 + 1, 0, none⟩ (.int .u64 a1)).setCell ⟨B + 1, 0, none⟩ (.int .i64 ((i0 : Int) + 1))) ∧ KeepCells B (B + 4) W (((W.setCell ⟨B + 1 + 1, 0, none⟩ (.int .i64 ((pre.length : Int) + 1))).setCell ⟨B + 1 + 1 + 1, 0, none⟩ (.int .u64 a1)).setCell ⟨B + 1, 0, none⟩ (.int .i64 ((i0 : Int) + 1))) ∧
      EachI fs B sl V (pre ++ [x]) (((W.setCell ⟨B + 1 + 1, 0, none⟩ (.int .i64 ((pre.length : Int) + 1))).setCell ⟨B + 1 + 1 + 1, 0, none⟩ (.int .u64 a1)).setCell ⟨B + 1, 0, none⟩ (.int .i64 ((i0 : Int) + 1)))) ∧
    (i = i0 + 1 → KeepsFrom B0 W ((((W.setCell ⟨B + 1 + 1, 0, none⟩ (.int .i64 ((pre.length : Int) + 1))).setCell ⟨B + 1 + 1 + 1, 0, none⟩ (.int .u64 a1)).setCell ⟨B + 1, 0, none⟩ (.int .i64 ((i0 : Int) + 1))).setCell ⟨B + 1 + 1 + 1, 0, none⟩ (.int .u64 a)) ∧ KeepCells B (B + 4) W ((((W.setCell ⟨B + 1 + 1, 0, none⟩ (.int .i64 ((pre.length : Int) + 1))).setCell ⟨B + 1 + 1 + 1, 0, none⟩ (.int .u64 a1)).setCell ⟨B + 1, 0, none⟩ (.int .i64 ((i0 : Int) + 1))).setCell ⟨B + 1 + 1 + 1, 0, none⟩ (.int .u64 a)) ∧
      EachI fs B sl V (pre ++ [x]) ((((W.setCell ⟨B + 1 + 1, 0, none⟩ (.int .i64 ((pre.length : Int) + 1))).setCell ⟨B + 1 + 1 + 1, 0, none⟩ (.int .u64 a1)).setCell ⟨B + 1, 0, none⟩ (.int .i64 ((i0 : Int) + 1))).setCell ⟨B + 1 + 1 + 1, 0, none⟩ (.int .u64 a))) := by
  have el : ((pre ++ [x]).length : Int) = (pre.length : Int) + 1 := by simp
  have k1 := (KeepsOthers.setCell W ⟨B + 1 + 1, 0, none⟩ (.int .i64 ((pre.length : Int) + 1))).trans (KeepsOthers.setCell _ ⟨B + 1 + 1 + 1, 0, none⟩ (.int .u64 a1))
  have c1 := (KeepCells.setCell B (B + 4) W ⟨B + 1 + 1, 0, none⟩ (.int .i64 ((pre.length : Int) + 1)) ⟨by show B ≤ B + 1 + 1; omega, by show B + 1 + 1 < B + 4; omega⟩).trans (KeepCells.setCell B (B + 4) _ ⟨B + 1 + 1 + 1, 0, none⟩ (.int .u64 a1) ⟨by show B ≤ B + 1 + 1 + 1; omega, by show B + 1 + 1 + 1 < B + 4; omega⟩)
  have f1 := boxed_other (boxed_other h3 (b := B + 1 + 1) (by omega) 0 (.int .i64 ((pre.length : Int) + 1))) (b := B + 1 + 1 + 1) (by omega) 0 (.int .u64 a1)
  have i1 := boxed_other (boxed_other h4 (b := B + 1 + 1) (by omega) 0 (.int .i64 ((pre.length : Int) + 1))) (b := B + 1 + 1 + 1) (by omega) 0 (.int .u64 a1)
  have m1 := boxed_other (Boxed.set (.int .i64 ((pre.length : Int) + 1)) h5) (b := B + 1 + 1 + 1) (by omega) 0 (.int .u64 a1)
  have t1 := Boxed.set (.int .u64 a1) (boxed_other h6 (b := B + 1 + 1) (by omega) 0 (.int .i64 ((pre.length : Int) + 1)))
  have b1 := (h7.setCell (p := ⟨B + 1 + 1, 0, none⟩) (by show B ≤ B + 1 + 1; omega) (.int .i64 ((pre.length : Int) + 1))).setCell (p := ⟨B + 1 + 1 + 1, 0, none⟩) (by show B ≤ B + 1 + 1 + 1; omega) (.int .u64 a1)
  generalize (W.setCell ⟨B + 1 + 1, 0, none⟩ (.int .i64 ((pre.length : Int) + 1))).setCell ⟨B + 1 + 1 + 1, 0, none⟩ (.int .u64 a1) = W1 at *
  have k2 := k1.trans (KeepsOthers.setCell W1 ⟨B + 1, 0, none⟩ (.int .i64 ((i0 : Int) + 1)))
  have c2 := c1.trans (KeepCells.setCell B (B + 4) W1 ⟨B + 1, 0, none⟩ (.int .i64 ((i0 : Int) + 1)) ⟨by show B ≤ B + 1; omega, by show B + 1 < B + 4; omega⟩)
  have f2 := boxed_other f1 (b := B + 1) (by omega) 0 (.int .i64 ((i0 : Int) + 1))
  have i2 := Boxed.set (.int .i64 ((i0 : Int) + 1)) i1
  have m2 := boxed_other m1 (b := B + 1) (by omega) 0 (.int .i64 ((i0 : Int) + 1))
  have t2 := boxed_other t1 (b := B + 1) (by omega) 0 (.int .i64 ((i0 : Int) + 1))
  have b2 := b1.setCell (p := ⟨B + 1, 0, none⟩) (by show B ≤ B + 1; omega) (.int .i64 ((i0 : Int) + 1))
  generalize W1.setCell ⟨B + 1, 0, none⟩ (.int .i64 ((i0 : Int) + 1)) = W2 at *
  refine ⟨fun e1 e2 => ?_, fun e1 e2 => ?_, fun e1 => ?_⟩
  · subst e1; subst e2
    exact ⟨k1.from _, c1, i, a, hAt, by simp; omega, f1, i1, by rw [el]; exact m1, t1, b1⟩
  · subst e1; subst e2
    exact ⟨k2.from _, c2, _, a, hAt, by simp; omega, f2, i2, by rw [el]; exact m2, t2, b2⟩
  · subst e1
    exact ⟨(k2.trans (KeepsOthers.setCell _ _ _)).from _, c2.trans (KeepCells.setCell B (B + 4) _ ⟨B + 1 + 1 + 1, 0, none⟩ (.int .u64 a) ⟨by show B ≤ B + 1 + 1 + 1; omega, by show B + 1 + 1 + 1 < B + 4; omega⟩), _, a, hAt, by simp; omega,
      boxed_other f2 (by omega) _ _, boxed_other i2 (by omega) _ _, by rw [el]; exact boxed_other m2 (by omega) _ _, Boxed.set _ t2, b2.setCell (p := ⟨B + 1 + 1 + 1, 0, none⟩) (by show B ≤ B + 1 + 1 + 1; omega) _⟩

theorem each_drew {fs : List S31} {B B0 m : Nat} {sl : Value} {V W W1 : World} {pre : List Int} (h : KeepsFrom B0 W W1 ∧ KeepCells B m W W1 ∧ EachI fs B sl V pre W1) : KeepsFrom B0 W W1.drew ∧ KeepCells B m W W1.drew ∧ EachI fs B sl V pre W1.drew := by
  obtain ⟨h1, h2, i, a, h3, h4, h5, h6, h7, h8, h9⟩ := h
  exact ⟨h1.trans ((KeepsOthers.drew _).from _), h2, i, a, h3, h4, h5, h6, h7, h8, below_drew h9⟩
theorem results_five (tm : Array Value) (W : World) (Br : Nat) (b : Bool) (htm : tm[4]? = some (.pointer (some ⟨Br, 0, none⟩))) (hc : W.cell? ⟨Br, 0, none⟩ = some (.bool b)) : (results Try.f5 tm).run Try.prog W = .ok (.bool b) W := by
  simp only [results, show Try.f5.results = #[.cell 4 4] from rfl]
  simp [htm, go_sem, hc]
theorem fin2 {tm : Array Value} {D D2 : Nat} {w W : World} {Br : Nat} (htm : tm[4]? = some (.pointer (some ⟨Br, 0, none⟩))) (hne : D ≠ D2) (hl : w.heap.size ≤ D) (hl2 : w.heap.size ≤ D2) (hD : W.heap[D]? = some (.deferred (some []))) (hD2 : W.heap[D2]? = some (.deferred (some [])))
    (hb : Boxed W Br 4 (.bool true)) (hB : Below w.heap.size w W) :
    LeavesInM Fence.wide 3 Try.prog Try.f5 tm (fun e w' => e = .returned (.bool true) ∧ Below w.heap.size w w') [{ target := .collected D2, args := #[] }, { target := .collected D, args := #[] }] .returning W := by
  have hb1 : Boxed (W.putObj D2 (.deferred none)) Br 4 (.bool true) := boxed_step hb (grownBy_putObj' W D2 _) (fun r e => by cases e; exact ⟨_, hD2, rfl⟩)
  have hD1 : (W.putObj D2 (.deferred none)).heap[D]? = some (.deferred (some [])) := by rw [World.putObj_heap_other hne]; exact hD
  have hb2 : Boxed ((W.putObj D2 (.deferred none)).putObj D (.deferred none)) Br 4 (.bool true) := boxed_step hb1 (grownBy_putObj' _ D _) (fun r e => by cases e; exact ⟨_, hD1, rfl⟩)
  have hB1 : Below w.heap.size w (W.putObj D2 (.deferred none)) := hB.trans (belowK_b (w := w) (Nat.le_refl _) W D2 _ _ hl2 hD2 rfl rfl)
  have hB2 : Below w.heap.size w ((W.putObj D2 (.deferred none)).putObj D (.deferred none)) := hB1.trans (belowK_b (w := w) (Nat.le_refl _) _ D _ _ hl hD1 rfl rfl)
  refine ⟨by simp, .inl ⟨_, _, rfl, run_takeDeferred hD2, by simp, .inl ⟨_, _, rfl, run_takeDeferred hD1, ?_⟩⟩⟩
  exact ⟨_, results_five _ _ _ _ htm hb2.cell, rfl, hB2⟩

set_option maxHeartbeats 4000000 in
set_option maxRecDepth 100000 in
theorem each_walk (k : Nat) (A0 : Option Addr) (c0 : Nat) (l0 : List S31) (leave : Int) (w : World) (fs : List S31) (hr0 : Kd.C k31 w A0 l0.length l0) (hc0 : l0.length ≤ c0) (hl0 : l0.length ≤ 200)
    (hfl : fs.length ≤ 200) (hok : ∀ s ∈ fs, 0 ≤ s.f0 ∧ s.f0 ≤ s.f1 ∧ s.f1 ≤ 4294967295) (s0 : spans_Form.f k l0 = some fs) (r0 : waymarkref02_Form.f k l0 = some fs) :
    Calls Try.prog 5 #[.slice A0 l0.length c0, .int .i64 leave] w fun e w' => e = .returned (.bool true) ∧ Below w.heap.size w w' := by
  have hlarge : waymarklaw02_large.f l0 [] = some false := by
    unfold waymarklaw02_large.f
    rw [if_neg (by omega), decide_eq_false (by simp)]
  have hr0a := Aside0.mk hr0
  have hLG := fun W => fun (hb : Below w.heap.size w W) => waymarklaw02_large.calls A0 c0 l0 none 0 [] false W (Kd.C_below hr0 hb) hc0 (Kd.C_nil _ _) (Nat.le_refl _) hlarge
  have hEA := fun A c W (h1 : Kd.C k31 W A l0.length l0) (h2 : l0.length ≤ c) => spans_Each_calls k A c l0 fs W h1 h2 s0
  have hRF := fun W (h1 : Below w.heap.size w W) => waymarkref02_Form.calls k A0 c0 l0 fs W (Kd.C_below hr0 h1) hc0 r0
  clear hlarge s0 r0 hr0
  refine (callsIn_wide (n := 3)).1 ?_
  refine callsIn_of_wp_marks Try.func5 rfl trivial ?_ rfl
  simp only [Try.ntmps5, List.size_toArray, List.length_cons, List.length_nil, Nat.reduceAdd, Nat.reduceSub, Array.replicate_succ, Array.replicate_zero, List.push_toArray, List.append_toArray, List.nil_append, List.cons_append]
  refine wpIn_wide.2 ?_
  have hfn := func_not_nil
  go_wp2_with (first | (go_at_call 34; refine (hLG _ (by repeat (first | exact Below.refl _ _ | apply below_alloc | apply pw_below_drewN | apply below_drew1))).mono ?_; rintro e w1 ⟨rfl, hd1⟩; have hb1 := Aside0.mk (Below.trans (show Below w.heap.size w _ from by repeat (first | exact Below.refl _ _ | apply below_alloc | apply pw_below_drewN | apply below_drew1)) (hd1.below.mono (by simp; omega))); have hz1 := Aside0.mk (show w1.heap.size = w.heap.size + 2 from by obtain ⟨⟨n, rfl⟩⟩ := hd1; simp); have hx3 := Aside0.mk (show w1.heap[w.heap.size]? = some (Obj.cells #[Value.int IntKind.i64 leave] 3) from by obtain ⟨⟨n, rfl⟩⟩ := hd1; exact (Below.heap_alloc _ _ _ (by simp)).trans (blk_new w _)); have hx4 := Aside0.mk (show w1.heap[w.heap.size + 1]? = some (Obj.cells #[Value.bool false] 4) from by obtain ⟨⟨n, rfl⟩⟩ := hd1; have h_ := blk_new (w.alloc (Obj.cells #[Value.int IntKind.i64 leave] 3)) (Obj.cells #[Value.bool false] 4); rw [World.size_alloc] at h_; exact h_); clear hd1) | ((with_reducible refine gate_builtin (b := .append) (xs := #[.tmp 17, .tmp 18]) rfl ?_); at_builtin; refine Kd.R_append_rows k31 (w0 := w1) w1.heap.size rfl (.tmp 17) (.tmp 18) 71 31 (.agg #[(.int .u32 0), (.int .u32 0)]) 8 rfl Try.underlying71 info31 rfl (by decide) (by omega) (.slice (some ⟨w1.heap.size, 0, none⟩) 0 0) [] l0 A0 l0.length c0 (fun _ => True) (fun _ => False) rfl rfl ?aO ?aR (fun _ _ h => h) (fun _ h => h.elim) (fun _ _ => trivial) ?aB ?aS ?aL ?_; (case aO => exact R_empty' w1 _ (Nat.le_refl _)); (case aR => exact Kd.C_below hr0a.out (below_alloc hb1.out _)); (case aB => exact below_alloc (Below.refl _ _) _); (case aS => simp); (case aL => show (0 + l0.length) * 8 ≤ _; omega); intro v2 w2 ho2 hb2 hg hat; rw [List.nil_append] at ho2; obtain ⟨Ai, ci, rfl, hci, hCi⟩ := Kd.R_reads ho2; have ho2_ := Aside0.mk ho2; have hb2_ := Aside0.mk hb2; have hCi_ := Aside0.mk hCi; clear hg hat ho2 hb2 hCi; have ho2 := ho2_; have hb2 := hb2_; have hCi := hCi_; clear ho2_ hb2_ hCi_) | (go_at_call 36; refine (hEA Ai ci w2 hCi.out hci).mono ?_; rintro e w3 ⟨Bs, v3, rfl, hBs1, hBs2, ho3, hb3⟩; have hBs2_ := Aside0.mk hBs2; have ho3_ := Aside0.mk ho3; have hb3_ := Aside0.mk hb3; clear hBs2 ho3 hb3; have hBs2 := hBs2_; have ho3 := ho3_; have hb3 := hb3_; clear hBs2_ ho3_ hb3_))
  have hb13 := Aside0.mk (hb2.out.trans (hb3.out.mono hb2.out.size))
  have ho23 := Aside0.mk (Kd.R_below ho2.out hb3.out)
  have hlt2 := Aside0.mk (Kd.R_lt ho2.out)
  clear hfn hLG hEA hCi
  go_loopg [7] l0.length (fun gg v7 wr => ∃ (i : Nat) (xs : List S31), i ≤ l0.length ∧ l0.length - i ≤ gg ∧ v7 = .int .i64 (i : Int) ∧ xs.length = l0.length ∧ Aside0 (Kd.R k31 31 wr w1.heap.size (fun _ => True) (.slice Ai l0.length ci) xs) ∧ Aside0 (Below w1.heap.size w1 wr) ∧ Aside0 (Kept w3 wr (fun q => (Value.slice Ai l0.length ci).ownBlock = some q)))
  case atStart => exact ⟨0, l0, Nat.zero_le _, by omega, rfl, rfl, ho23, hb13, ⟨Kept.refl _ _⟩⟩
  case round =>
    obtain ⟨i, xs, hi, hg, rfl, hxl, HR, HB, HK⟩ := hrel
    by_cases hlt : i < l0.length
    · obtain ⟨g, cap, he, hg1, hg2, hg3⟩ := Kd.R_form HR.out (by omega)
      injection he with e1 e2 e3
      subst e1
      subst e3
      clear hg3 e2
      obtain ⟨⟨u0, y0⟩, y1, ⟨u1, y2⟩, y3⟩ := cells31 HR.out i hlt
      obtain ⟨xs', hxl', HR'⟩ := store56 HR.out i hlt
      have c1 : decide ((i : Int) < (l0.length : Int)) = true := decide_eq_true (by omega)
      have c2 : ((i : Int) < (l0.length : Int)) = True := eq_true (by omega)
      have HR2 := Aside0.mk HR'
      clear HR'
      go_wp2
      go_roundg (l0.length - (i + 1))
      case measure => omega
      case rel =>
        refine ⟨i + 1, xs', by omega, by omega, by go_num, by omega, HR2, ⟨(HB.out.setCell (p := ⟨g, i * 2, none⟩) hg1 _).setCell (p := ⟨g, i * 2 + 1, none⟩) hg1 _⟩, ⟨(HK.out.setCell (p := ⟨g, i * 2, none⟩) (.inl rfl) _).setCell (p := ⟨g, i * 2 + 1, none⟩) (.inl rfl) _⟩⟩
    · obtain rfl : i = l0.length := by omega
      have hltz : ¬ ((l0.length : Int) < (l0.length : Int)) := by omega
      go_wp2
      have hsz := HB.out.size
      have bx3 : Boxed wr w.heap.size 3 (.int .i64 leave) := blk_below hx3.out HB.out
      have bx4 : Boxed wr (w.heap.size + 1) 4 (.bool false) := blk_below hx4.out HB.out
      have bxs : Boxed wr Bs 71 v3 := blk_kept hBs2.out HK.out (fun h => by have := hlt2.out Bs h; omega)
      have hR3 : Kd.R k31 31 wr w2.heap.size (fun q => q ≠ Bs ∧ w2.heap.size ≤ q) v3 fs := Kd.R_step (Kd.R_mono (Kd.R_bound ho3.out) (fun q hq => ⟨hq.1, hq.2.1⟩)) (fun q hq hl => HK.out.2 q hl (fun h => by have := hlt2.out q h; omega))
      obtain ⟨A3, c3, rfl, hnil, hrow⟩ := each_row hR3
      refine wp_named ?_
      intro Q hQ
      have bxn := Boxed.new wr 3 (.int .i64 0)
      have hst := each_stops Fence.wide (3 - 1) trivial rfl (by omega) Bs wr.heap.size (wr.heap.size + 1) A3 c3 fs (by omega) hok (wr.alloc (.cells #[.int .i64 0] 3)) (by have := bxs.lt; simp; omega) (by simp)
        (bxs.alloc _).cell hnil (fun a ha => by
          obtain ⟨h1, h2, _, _, h3⟩ := hrow a ha
          refine ⟨h1, h2, by simp; omega, fun j hj => ?_⟩
          have hb := (Below.refl wr.heap.size wr).alloc (Nat.le_refl _) (.cells #[.int .i64 0] 3)
          exact ⟨(hb.cell (p := ⟨a.block, a.off + j * 2, none⟩) h2).trans (h3 j hj).1, (hb.cell (p := ⟨a.block, a.off + j * 2 + 1, none⟩) h2).trans (h3 j hj).2⟩)
      have hb8 := below_alloc (Below.refl wr.heap.size wr) (.cells #[.int .i64 0] 3)
      have rest : ∀ (D : Nat) (W : World), wr.heap.size + 1 ≤ D → Below wr.heap.size wr W → W.heap[D]? = some (.deferred (some [])) → Q .normal { tmps := #[.slice A0 l0.length c0, .int .i64 leave, undef, .pointer (some ⟨w.heap.size, 0, none⟩), .pointer (some ⟨w.heap.size + 1, 0, none⟩), .slice Ai l0.length ci, .func (.func 80) #[] #[.pointer (some ⟨Bs, 0, none⟩)], .int .i64 l0.length, .pointer (some ⟨wr.heap.size, 0, none⟩), undef, undef, undef, undef, undef, .slice A0 l0.length c0, .bool false, undef, .slice (some ⟨w1.heap.size, 0, none⟩) 0 0, .slice A0 l0.length c0, .slice Ai l0.length ci, .slice Ai l0.length ci, .func (.func 80) #[] #[.pointer (some ⟨Bs, 0, none⟩)], .func (.func 80) #[] #[.pointer (some ⟨Bs, 0, none⟩)], .bool false, .int .i64 l0.length, .slice Ai l0.length ci, .int .i64 l0.length, .bool false, u28, u29, u30, u31, u32, u33, .func (.func 80) #[] #[.pointer (some ⟨Bs, 0, none⟩)], undef, undef, undef, undef, undef, undef, undef, undef, undef, undef, undef, undef, undef, undef, undef, undef, undef, undef, undef, undef, undef, undef, undef, undef, undef, undef, undef, undef, undef, undef, undef, undef, undef, undef, undef, undef, undef, undef, undef, undef, undef, undef, undef, undef, undef, undef, undef, undef, undef, undef, undef, undef, undef, undef, undef, undef, undef, undef, undef, undef, undef, undef], defers := [{ target := .collected D, args := #[] }] } W := by
        intro D W hD hB hK
        subst hQ
        have hbW : Below w.heap.size w W := hb1.out.trans ((HB.out.trans (hB.mono hsz)).mono (by have := hz1.out; omega))
        have hwr : w.heap.size + 2 ≤ wr.heap.size := by have := hz1.out; omega
        have hcall := hRF W hbW
        have b4 : Boxed W (w.heap.size + 1) 4 (.bool false) := blk_below bx4 hB
        have bs : Boxed W Bs 71 (.slice A3 fs.length c3) := blk_below bxs hB
        have hK_ := Aside0.mk hK
        have b4_ := Aside0.mk b4
        have bs_ := Aside0.mk bs
        clear hRF hr0a hb1 hz1 hx3 hx4 hb2 hBs2 ho3 hb3 hb13 ho23 hlt2 HR HB HK bx3 bx4 bxs hR3 bxn hst hb8 hK b4 bs
        by_cases hne : 0 < fs.length
        · have hnez : (0 : Int) < (fs.length : Int) := by omega
          go_wp2_with (go_at_call 37; refine hcall.mono ?_; rintro e w5 ⟨v, rfl, ho, hb⟩; obtain ⟨g5, c5, rfl, hg1, hg2, hg3⟩ := Kd.R_form ho hne; have y0 := (cells_at ho 0 hne).1; rw [Nat.zero_mul] at y0; have y1 := cell_alloc4 hg2 y0; clear y0; have ho_ := Aside0.mk ho; clear ho hg3; have ho := ho_; clear ho_)
          have b4 := b4_.out
          have bs := bs_.out
          have hK := hK_.out
          have hB5 := Below.refl w5.heap.size w5
          have hw0 : IntKind.u64.wrap fs[0].f0 = fs[0].f0 := by
            have := hok fs[0] (List.getElem_mem hne)
            simp [IntKind.wrap, IntKind.bits, IntKind.signed]; omega
          rw [hw0]
          have hal := ((((Below.refl w5.heap.size w5).alloc (Nat.le_refl _) (.cells #[.slice (some ⟨g5, 0, none⟩) fs.length c5] 71)).alloc (by simp) (.cells #[.int .i64 0] 3)).alloc (by simp; omega) (.cells #[.int .i64 0] 3)).alloc (by simp; omega) (.cells #[.int .u64 fs[0].f0] 77)
          have xf := ((((Boxed.new w5 71 (.slice (some ⟨g5, 0, none⟩) fs.length c5)).alloc (.cells #[.int .i64 0] 3)).alloc (.cells #[.int .i64 0] 3)).alloc (.cells #[.int .u64 fs[0].f0] 77))
          have xi := (((Boxed.new (w5.alloc (.cells #[.slice (some ⟨g5, 0, none⟩) fs.length c5] 71)) 3 (.int .i64 0)).alloc (.cells #[.int .i64 0] 3)).alloc (.cells #[.int .u64 fs[0].f0] 77))
          have xm := ((Boxed.new ((w5.alloc (.cells #[.slice (some ⟨g5, 0, none⟩) fs.length c5] 71)).alloc (.cells #[.int .i64 0] 3)) 3 (.int .i64 0)).alloc (.cells #[.int .u64 fs[0].f0] 77))
          have xa := Boxed.new (((w5.alloc (.cells #[.slice (some ⟨g5, 0, none⟩) fs.length c5] 71)).alloc (.cells #[.int .i64 0] 3)).alloc (.cells #[.int .i64 0] 3)) 77 (.int .u64 fs[0].f0)
          have hz10 : ((((w5.alloc (.cells #[.slice (some ⟨g5, 0, none⟩) fs.length c5] 71)).alloc (.cells #[.int .i64 0] 3)).alloc (.cells #[.int .i64 0] 3)).alloc (.cells #[.int .u64 fs[0].f0] 77)).heap.size = w5.heap.size + 4 := by simp
          simp only [World.size_alloc] at xi xm xa
          generalize hW10 : ((((w5.alloc (.cells #[.slice (some ⟨g5, 0, none⟩) fs.length c5] 71)).alloc (.cells #[.int .i64 0] 3)).alloc (.cells #[.int .i64 0] 3)).alloc (.cells #[.int .u64 fs[0].f0] 77)) = W10 at hal xf xi xm xa hz10 ⊢
          clear hW10
          have bsW : Boxed W10 Bs 71 (.slice A3 fs.length c3) := blk_below (blk_below bs hb) hal
          have hWs := hb.size
          have hrs := hB.size
          have hst2 := each_stops Fence.wide (3 - 1) trivial rfl (by omega) Bs w5.heap.size (w5.heap.size + 4) A3 c3 fs (by omega) hok W10 bsW.lt (by omega) bsW.cell hnil (fun a ha => by
              obtain ⟨h1, h2, _, _, h3⟩ := hrow a ha
              refine ⟨h1, by omega, by omega, fun j hj => ?_⟩
              have hbb : Below wr.heap.size wr W10 := hB.trans ((hb.mono hrs).trans (hal.mono (by omega)))
              exact ⟨(hbb.cell (p := ⟨a.block, a.off + j * 2, none⟩) h2).trans (h3 j hj).1, (hbb.cell (p := ⟨a.block, a.off + j * 2 + 1, none⟩) h2).trans (h3 j hj).2⟩)
          have b4W : Boxed W10 (w.heap.size + 1) 4 (.bool false) := blk_below (blk_below b4 hb) hal
          have hKW : W10.heap[D]? = some (.deferred (some [])) := blk_below (blk_below hK hb) hal
          have hDl : D < w5.heap.size := by have := blk_lt hK; omega
          have hf1 : ∀ j, j < fs.length → W10.cell? ⟨g5, j * 2, none⟩ = some (.int .u32 (fs.getD j z31).f0) ∧ W10.cell? ⟨g5, j * 2 + 1, none⟩ = some (.int .u32 (fs.getD j z31).f1) := fun j hj =>
            ⟨(hal.cell (p := ⟨g5, j * 2, none⟩) hg2).trans (cells_at ho.out j hj).1, (hal.cell (p := ⟨g5, j * 2 + 1, none⟩) hg2).trans (cells_at ho.out j hj).2⟩
          have hbw5 : Below w.heap.size w W10 := hbW.trans ((hb.mono hbW.size).trans (hal.mono (by have := hbW.size; omega)))
          have hat0 : At fs [] 0 fs[0].f0 := by
            have h := at_start fs hok
            rw [if_pos hne, getD_at hne] at h
            exact h
          have h4lt : w.heap.size + 1 < w5.heap.size := by have := b4.lt; omega
          refine wp_named ?_
          intro Q2 hQ2
          refine (wpIn_wide (n := 3)).1 ?_
          refine wpIn_rangeFunc_ownG (n := 3) rfl (by omega) (gf := 80) (lb := #[.pointer (some ⟨Bs, 0, none⟩)]) rfl trivial (enters_of Try.func80 (by kernel_rfl) rfl)
            hst2 (fun h g => KeepCells.trans h g) (fun W l o o' _ h ho _ => keepCells_b W l o o' h ho) (Below.refl _ _) (fun _ => rfl)
            (EachI fs w5.heap.size (.slice (some ⟨g5, 0, none⟩) fs.length c5) W10) (EachX fs (w.heap.size + 1) D w)
            (fun s X Y row hs hg hr => by
              obtain ⟨i, a, h1, h2, h3, h4, h5, h6, h7⟩ := hs
              have hr' := fun r e => (hr r e).2
              exact ⟨i, a, h1, h2, boxed_step h3 hg hr', boxed_step h4 hg hr', boxed_step h5 hg hr', boxed_step h6 hg hr', ownFrom_below (n₀ := w5.heap.size) (B := W10.heap.size) (w₀ := W10) (by omega) (by omega) s X Y row h7 hg hr⟩)
            (fun c s X Y row hs hg hr => by
              obtain ⟨h1, b, h2, h3, h4, h5⟩ := hs
              refine ⟨h1, b, boxed_step h2 hg (fun r e => (hr r e).2), h3, ?_, ownFrom_below (n₀ := w.heap.size) (B := W10.heap.size) (w₀ := w) (Nat.le_refl _) (by have := hbw5.size; omega) s X Y row h5 hg hr⟩
              exact (hg.block D (blk_lt h4) (fun e => by have := (hr D e.symm).1; omega)).trans h4)
            ⟨0, fs[0].f0, hat0, by simp, xf, xi, xm, xa, Below.refl _ _⟩
            (fun x => { tmps := #[.slice A0 l0.length c0, .int .i64 leave, undef, .pointer (some ⟨w.heap.size, 0, none⟩), .pointer (some ⟨w.heap.size + 1, 0, none⟩), .slice Ai l0.length ci, .func (.func 80) #[] #[.pointer (some ⟨Bs, 0, none⟩)], .int .i64 l0.length, .pointer (some ⟨wr.heap.size, 0, none⟩), .pointer (some ⟨w5.heap.size, 0, none⟩), .pointer (some ⟨w5.heap.size + 1, 0, none⟩), .pointer (some ⟨w5.heap.size + 1 + 1, 0, none⟩), .pointer (some ⟨w5.heap.size + 1 + 1 + 1, 0, none⟩), .int .u32 x, .slice A0 l0.length c0, .bool false, undef, .slice (some ⟨w1.heap.size, 0, none⟩) 0 0, .slice A0 l0.length c0, .slice Ai l0.length ci, .slice Ai l0.length ci, .func (.func 80) #[] #[.pointer (some ⟨Bs, 0, none⟩)], .func (.func 80) #[] #[.pointer (some ⟨Bs, 0, none⟩)], .bool false, .int .i64 l0.length, .slice Ai l0.length ci, .int .i64 l0.length, .bool false, u28, u29, u30, u31, u32, u33, .func (.func 80) #[] #[.pointer (some ⟨Bs, 0, none⟩)], undef, undef, undef, undef, undef, undef, undef, undef, undef, undef, .slice A0 l0.length c0, .slice (some ⟨g5, 0, none⟩) fs.length c5, .slice (some ⟨g5, 0, none⟩) fs.length c5, .int .i64 fs.length, .bool true, .slice (some ⟨g5, 0, none⟩) fs.length c5, .pointer (some ⟨g5, 0, none⟩), .pointer (some ⟨g5, 0, none⟩), .int .u32 fs[0].f0, .int .u64 fs[0].f0, .func (.func 80) #[] #[.pointer (some ⟨Bs, 0, none⟩)], .int .u32 x, undef, undef, undef, undef, undef, undef, undef, undef, undef, undef, undef, undef, undef, undef, undef, undef, undef, undef, undef, undef, undef, undef, undef, undef, undef, undef, undef, undef, undef, undef, undef, undef, undef, undef, undef, undef, undef, undef, undef, undef], defers := [] }) ?assign2 ?body2 ?done2 ?stop2
          case assign2 =>
            intro l x W K hK
            gi_wp2
            exact hK
          case body2 =>
            rintro l pre x W2 ⟨i, a, h1, h2, h3, h4, h5, h6, h7⟩ hlt
            have c3 := h3.cell
            have c4 := h4.cell
            have c5 := h5.cell
            have c6 := h6.cell
            have f4 := h4.frozen
            have f5 := h5.frozen
            have f6 := h6.frozen
            have b4' : Boxed W2 (w.heap.size + 1) 4 (.bool false) := (h7.block _ h4lt).trans b4W
            have c8 := b4'.cell
            have f8 := b4'.frozen
            obtain ⟨r1, r2, r3, r4⟩ := at_range hok h1
            have hKD := (h7.block _ hDl).trans hKW
            have hbF := (hbw5.trans (h7.mono (by have := hbw5.size; omega))).setCell (p := ⟨w.heap.size + 1, 0, none⟩) (by simp) (.bool false)
            have hFF := Boxed.set (.bool false) b4'
            have hKF := ((Below.heap_setCell W2 ⟨w.heap.size + 1, 0, none⟩ (.bool false) D (by show D ≠ w.heap.size + 1; omega)).trans hKD)
            by_cases hi : i < fs.length
            · have i1 : decide ((fs.length : Int) ≤ (i : Int)) = false := decide_eq_false (by omega)
              have i2 : decide (fs.length ≤ i) = false := decide_eq_false (by omega)
              by_cases hx : IntKind.u64.wrap x = a
              · have x1 : (IntKind.u64.wrap x != a) = false := by simp [hx]
                have hnx := at_next h1 hi
                have hAt := Aside0.mk h1
                have hxa := Aside0.mk hx
                have HZ := Aside0.mk hz10
                have hF1 := (h7.cell (p := ⟨g5, i * 2 + 1, none⟩) hg2).trans (hf1 i hi).2
                rw [getD_at hi] at hF1
                have hin := hok fs[i] (List.getElem_mem hi)
                have hw1 : IntKind.u64.wrap (a + 1) = a + 1 := by simp [IntKind.wrap, IntKind.bits, IntKind.signed]; omega
                have hpl : ((pre ++ [x]).length : Int) = (pre.length : Int) + 1 := by simp
                by_cases h300 : 300 < (pre.length : Int) + 1
                · have d1 : decide (300 < (pre.length : Int) + 1) = true := decide_eq_true h300
                  have hm5 := boxed_other b4' (b := w5.heap.size + 1 + 1) (by omega) 0 (.int .i64 ((pre.length : Int) + 1))
                  have hb5 := ((hbw5.trans (h7.mono (by have := hbw5.size; omega))).setCell (p := ⟨w5.heap.size + 1 + 1, 0, none⟩) (by show w.heap.size ≤ w5.heap.size + 1 + 1; omega) (.int .i64 ((pre.length : Int) + 1))).setCell (p := ⟨w.heap.size + 1, 0, none⟩) (by simp) (.bool true)
                  have hkk : ((W2.setCell ⟨w5.heap.size + 1 + 1, 0, none⟩ (.int .i64 ((pre.length : Int) + 1))).setCell ⟨w.heap.size + 1, 0, none⟩ (.bool true)).heap[D]? = some (.deferred (some [])) := (Below.heap_setCell _ ⟨w.heap.size + 1, 0, none⟩ _ D (by show D ≠ w.heap.size + 1; omega)).trans ((Below.heap_setCell _ ⟨w5.heap.size + 1 + 1, 0, none⟩ _ D (by show D ≠ w5.heap.size + 1 + 1; omega)).trans hKD)
                  have hEx := Aside0.mk (show EachX fs (w.heap.size + 1) D w .ret (pre ++ [x]) _ from ⟨rfl, true, Boxed.set (.bool true) hm5, (fun h => by cases h), hkk, hb5⟩)
                  clear h1 hx hnx hm5 hb5 hkk
                  gi_wp2
                  exact ⟨((KeepsOthers.setCell _ _ _).trans (KeepsOthers.setCell _ _ _)).from _, hEx.out⟩
                · have d1 : decide (300 < (pre.length : Int) + 1) = false := decide_eq_false h300
                  clear h1 hx hnx hz10
                  gi_wp2
                  have hmx : Try.prog.follows .mixedOrders = true := by kernel_rfl
                  have hw2 : IntKind.u64.wrap fs[i].f1 = fs[i].f1 := by simp [IntKind.wrap, IntKind.bits, IntKind.signed]; omega
                  by_cases hgt : a + 1 ≤ fs[i].f1
                  · have d2 : decide (fs[i].f1 < a + 1) = false := decide_eq_false (by omega)
                    have hA2 : At fs ((pre ++ [x]).map wrU) i (a + 1) := by rw [wrU_snoc pre x a hxa.out]; exact at_stay hAt.out hi (by rw [getD_at hi]; exact hgt)
                    have hE := Aside0.mk ((each_end (B0 := W10.heap.size) (a1 := a + 1) (by have := HZ.out; omega) hA2 (by omega) h3 h4 h5 h6 h7).1 rfl rfl)
                    gi_region_o
                    all_goals gi_wp2
                    all_goals exact each_drew hE.out
                  · have d2 : decide (fs[i].f1 < a + 1) = true := decide_eq_true (by omega)
                    by_cases hn : i + 1 < fs.length
                    · have d3 : decide ((i : Int) + 1 < (fs.length : Int)) = true := decide_eq_true (by omega)
                      have d4 : ((i : Int) + 1 < (fs.length : Int)) = True := eq_true (by omega)
                      have hF0 := (h7.cell (p := ⟨g5, (i + 1) * 2, none⟩) hg2).trans (hf1 (i + 1) hn).1
                      rw [getD_at hn] at hF0
                      have hin2 := hok fs[i + 1] (List.getElem_mem hn)
                      have hw3 : IntKind.u64.wrap fs[i + 1].f0 = fs[i + 1].f0 := by simp [IntKind.wrap, IntKind.bits, IntKind.signed]; omega
                      have hA2 : At fs ((pre ++ [x]).map wrU) (i + 1) fs[i + 1].f0 := by rw [wrU_snoc pre x a hxa.out, ← getD_at hn]; exact at_over hok hAt.out hi (by rw [getD_at hi]; omega) hn
                      have hE := Aside0.mk ((each_end (B0 := W10.heap.size) (a1 := a + 1) (by have := HZ.out; omega) hA2 (by omega) h3 h4 h5 h6 h7).2.2 rfl)
                      clear hA2
                      gi_region_o
                      all_goals gi_wp2
                      all_goals exact each_drew hE.out
                    · have d3 : decide ((i : Int) + 1 < (fs.length : Int)) = false := decide_eq_false (by omega)
                      have hA2 : At fs ((pre ++ [x]).map wrU) (i + 1) (a + 1) := by rw [wrU_snoc pre x a hxa.out]; exact at_end hok hAt.out hi (by rw [getD_at hi]; omega) hn
                      have hE := Aside0.mk ((each_end (B0 := W10.heap.size) (a1 := a + 1) (by have := HZ.out; omega) hA2 (by omega) h3 h4 h5 h6 h7).2.1 rfl rfl)
                      clear hA2
                      gi_region_o
                      all_goals gi_wp2
                      all_goals exact each_drew hE.out
              · have x1 : (IntKind.u64.wrap x != a) = true := by simp [hx]
                have x2 : (IntKind.u64.wrap x == a) = false := by simp [hx]
                have hbad := bad_wrap hok (at_bad h1 hx)
                clear h1 hx
                gi_wp2
                exact ⟨(KeepsOthers.setCell _ _ _).from _, rfl, false, hFF, fun _ => hbad, hKF, hbF⟩
            · have i1 : decide ((fs.length : Int) ≤ (i : Int)) = true := decide_eq_true (by omega)
              have i2 : decide (fs.length ≤ i) = true := decide_eq_true (by omega)
              have hbad := bad_wrap hok (at_bad2 (x := IntKind.u64.wrap x) h1 hi)
              clear h1
              gi_wp2
              exact ⟨(KeepsOthers.setCell _ _ _).from _, rfl, false, hFF, fun _ => hbad, hKF, hbF⟩
          case done2 =>
            rintro D2 ys W2 hD2 rfl ⟨i, a, h1, h2, h3, h4, h5, h6, h7⟩ hK2
            rw [nums_wrap hok] at h1
            obtain rfl := at_done h1
            have c3 := h3.cell
            have c4 := h4.cell
            have b4' : Boxed W2 (w.heap.size + 1) 4 (.bool false) := (h7.block _ h4lt).trans b4W
            have c8 := b4'.cell
            have f8 := b4'.frozen
            have hbb := (hbw5.trans (h7.mono (by have := hbw5.size; omega))).setCell (p := ⟨w.heap.size + 1, 0, none⟩) (by simp) (.bool true)
            have hKD := (h7.block _ hDl).trans hKW
            have hb8 := Boxed.set (.bool true) b4'
            subst hQ2
            go_wp2
            exact fin2 (w := w) (D := D) (D2 := D2) (Br := w.heap.size + 1) (by rfl) (by omega) (by omega) (by omega) ((Below.heap_setCell _ _ _ D (by show D ≠ w.heap.size + 1; omega)).trans hKD) ((Below.heap_setCell _ _ _ D2 (by show D2 ≠ w.heap.size + 1; omega)).trans hK2) hb8 hbb
          case stop2 =>
            rintro D2 c pre W2 hD2 hSp ⟨rfl, b, h2, h3, h4, h5⟩ hK2
            have hbt : b = true := by
              cases b with
              | true => rfl
              | false => exact absurd hSp (h3 rfl)
            subst hbt
            subst hQ2
            gi_wp2
            exact fin2 (w := w) (D := D) (D2 := D2) (Br := w.heap.size + 1) (by rfl) (by omega) (by omega) (by omega) h4 hK2 h2 h5
        · have hf : fs = [] := List.eq_nil_of_length_eq_zero (by omega)
          subst hf
          clear hne
          go_wp2_with (go_at_call 37; refine hcall.mono ?_; rintro e w5 ⟨v, rfl, ho, hb⟩; obtain ⟨A5, c5, rfl, h51, h52⟩ := each_row ho; clear ho)
          have b4 := b4_.out
          have bs := bs_.out
          have hK := hK_.out
          have hal := ((((Below.refl w5.heap.size w5).alloc (Nat.le_refl _) (.cells #[.slice A5 0 c5] 71)).alloc (by simp) (.cells #[.int .i64 0] 3)).alloc (by simp; omega) (.cells #[.int .i64 0] 3)).alloc (by simp; omega) (.cells #[.int .u64 0] 77)
          have xf := ((((Boxed.new w5 71 (.slice A5 0 c5)).alloc (.cells #[.int .i64 0] 3)).alloc (.cells #[.int .i64 0] 3)).alloc (.cells #[.int .u64 0] 77))
          have xi := (((Boxed.new (w5.alloc (.cells #[.slice A5 0 c5] 71)) 3 (.int .i64 0)).alloc (.cells #[.int .i64 0] 3)).alloc (.cells #[.int .u64 0] 77))
          have hz10 : ((((w5.alloc (.cells #[.slice A5 0 c5] 71)).alloc (.cells #[.int .i64 0] 3)).alloc (.cells #[.int .i64 0] 3)).alloc (.cells #[.int .u64 0] 77)).heap.size = w5.heap.size + 4 := by simp
          simp only [World.size_alloc] at xi
          generalize hW10 : ((((w5.alloc (.cells #[.slice A5 0 c5] 71)).alloc (.cells #[.int .i64 0] 3)).alloc (.cells #[.int .i64 0] 3)).alloc (.cells #[.int .u64 0] 77)) = W10 at hal xf xi hz10 ⊢
          clear hW10
          have bsW : Boxed W10 Bs 71 (.slice A3 ([] : List S31).length c3) := blk_below (blk_below bs hb) hal
          have hWs := hb.size
          have hrs := hB.size
          have hst2 := each_stops Fence.wide (3 - 1) trivial rfl (by omega) Bs w5.heap.size (w5.heap.size + 4) A3 c3 [] (by simp) hok W10 bsW.lt (by omega) bsW.cell (fun h => ⟨rfl, (hnil h).2⟩) (fun a ha => by
              obtain ⟨h1, h2, _, _, h3⟩ := hrow a ha
              exact ⟨h1, by omega, by omega, fun j hj => absurd hj (by simp)⟩)
          have b4W : Boxed W10 (w.heap.size + 1) 4 (.bool false) := blk_below (blk_below b4 hb) hal
          have hKW : W10.heap[D]? = some (.deferred (some [])) := blk_below (blk_below hK hb) hal
          have hDl : D < w5.heap.size := by have := blk_lt hK; omega
          have hbw5 : Below w.heap.size w W10 := hbW.trans ((hb.mono hbW.size).trans (hal.mono (by have := hbW.size; omega)))
          have h4lt : w.heap.size + 1 < w5.heap.size := by have := b4.lt; omega
          refine wp_named ?_
          intro Q2 hQ2
          refine (wpIn_wide (n := 3)).1 ?_
          refine wpIn_rangeFunc_ownG (n := 3) rfl (by omega) (gf := 80) (lb := #[.pointer (some ⟨Bs, 0, none⟩)]) rfl trivial (enters_of Try.func80 (by kernel_rfl) rfl)
            hst2 (fun h g => KeepCells.trans h g) (fun W l o o' _ h ho _ => keepCells_b W l o o' h ho) (Below.refl _ _) (fun _ => rfl)
            (fun pre W => (Boxed W w5.heap.size 71 (.slice A5 0 c5) ∧ Boxed W (w5.heap.size + 1) 3 (.int .i64 0)) ∧ Below w5.heap.size W10 W) (fun _ _ _ => False)
            (OwnFrom.and (fun s X Y row hs hg hr => ⟨boxed_step hs.1 hg (fun r e => (hr r e).2), boxed_step hs.2 hg (fun r e => (hr r e).2)⟩) (ownFrom_below (by omega) (by omega)))
            (fun c => ownFrom_pure _ (fun _ => False))
            ⟨⟨xf, xi⟩, Below.refl _ _⟩
            (fun x => { tmps := #[.slice A0 l0.length c0, .int .i64 leave, undef, .pointer (some ⟨w.heap.size, 0, none⟩), .pointer (some ⟨w.heap.size + 1, 0, none⟩), .slice Ai l0.length ci, .func (.func 80) #[] #[.pointer (some ⟨Bs, 0, none⟩)], .int .i64 l0.length, .pointer (some ⟨wr.heap.size, 0, none⟩), .pointer (some ⟨w5.heap.size, 0, none⟩), .pointer (some ⟨w5.heap.size + 1, 0, none⟩), .pointer (some ⟨w5.heap.size + 1 + 1, 0, none⟩), .pointer (some ⟨w5.heap.size + 1 + 1 + 1, 0, none⟩), .int .u32 x, .slice A0 l0.length c0, .bool false, undef, .slice (some ⟨w1.heap.size, 0, none⟩) 0 0, .slice A0 l0.length c0, .slice Ai l0.length ci, .slice Ai l0.length ci, .func (.func 80) #[] #[.pointer (some ⟨Bs, 0, none⟩)], .func (.func 80) #[] #[.pointer (some ⟨Bs, 0, none⟩)], .bool false, .int .i64 l0.length, .slice Ai l0.length ci, .int .i64 l0.length, .bool false, u28, u29, u30, u31, u32, u33, .func (.func 80) #[] #[.pointer (some ⟨Bs, 0, none⟩)], undef, undef, undef, undef, undef, undef, undef, undef, undef, undef, .slice A0 l0.length c0, .slice A5 0 c5, .slice A5 0 c5, .int .i64 0, .bool false, undef, undef, undef, undef, undef, .func (.func 80) #[] #[.pointer (some ⟨Bs, 0, none⟩)], .int .u32 x, undef, undef, undef, undef, undef, undef, undef, undef, undef, undef, undef, undef, undef, undef, undef, undef, undef, undef, undef, undef, undef, undef, undef, undef, undef, undef, undef, undef, undef, undef, undef, undef, undef, undef, undef, undef, undef, undef, undef, undef], defers := [] }) ?assign3 ?body3 ?done3 ?stop3
          case assign3 =>
            intro l x W K hK
            gi_wp2
            exact hK
          case body3 =>
            rintro l pre x W2 _ hlt
            exact absurd hlt (by simp [numsL])
          case done3 =>
            rintro D2 ys W2 hD2 rfl ⟨⟨h3, h4⟩, h7⟩ hK2
            have c3 := h3.cell
            have c4 := h4.cell
            have b4' : Boxed W2 (w.heap.size + 1) 4 (.bool false) := (h7.block _ h4lt).trans b4W
            have c8 := b4'.cell
            have f8 := b4'.frozen
            have hbb := (hbw5.trans (h7.mono (by have := hbw5.size; omega))).setCell (p := ⟨w.heap.size + 1, 0, none⟩) (by simp) (.bool true)
            have hKD := (h7.block _ hDl).trans hKW
            have hb8 := Boxed.set (.bool true) b4'
            subst hQ2
            go_wp2
            exact fin2 (w := w) (D := D) (D2 := D2) (Br := w.heap.size + 1) (by rfl) (by omega) (by omega) (by omega) ((Below.heap_setCell _ _ _ D (by show D ≠ w.heap.size + 1; omega)).trans hKD) ((Below.heap_setCell _ _ _ D2 (by show D2 ≠ w.heap.size + 1; omega)).trans hK2) hb8 hbb
          case stop3 =>
            rintro D2 c pre W2 hD2 hSp h hK2
            exact h.elim
      refine (wpIn_wide (n := 3)).1 ?_
      refine wpIn_rangeFunc_ownG (n := 3) rfl (by omega) (gf := 80) (lb := #[.pointer (some ⟨Bs, 0, none⟩)]) rfl trivial (enters_of Try.func80 (by kernel_rfl) rfl)
        hst (fun h g => KeepCells.trans h g) (fun W l o o' _ h ho _ => keepCells_b W l o o' h ho) (Below.refl _ _) (fun _ => rfl)
        (fun pre W => (Boxed W wr.heap.size 3 (.int .i64 (pre.length : Int)) ∧ pre.length ≤ 200) ∧ Below wr.heap.size wr W)
        (fun c pre W => (c = .exit 2) ∧ Below wr.heap.size wr W)
        (OwnFrom.and (fun s X Y row hs hg hr => ⟨boxed_step hs.1 hg (fun r e => (hr r e).2), hs.2⟩) (ownFrom_below (Nat.le_refl _) (by simp)))
        (fun c => OwnFrom.and (ownFrom_pure _ _) (ownFrom_below (Nat.le_refl _) (by simp)))
        ⟨⟨bxn, by simp⟩, hb8⟩
        (fun x => { tmps := #[.slice A0 l0.length c0, .int .i64 leave, undef, .pointer (some ⟨w.heap.size, 0, none⟩), .pointer (some ⟨w.heap.size + 1, 0, none⟩), .slice Ai l0.length ci, .func (.func 80) #[] #[.pointer (some ⟨Bs, 0, none⟩)], .int .i64 l0.length, .pointer (some ⟨wr.heap.size, 0, none⟩), undef, undef, undef, undef, undef, .slice A0 l0.length c0, .bool false, undef, .slice (some ⟨w1.heap.size, 0, none⟩) 0 0, .slice A0 l0.length c0, .slice Ai l0.length ci, .slice Ai l0.length ci, .func (.func 80) #[] #[.pointer (some ⟨Bs, 0, none⟩)], .func (.func 80) #[] #[.pointer (some ⟨Bs, 0, none⟩)], .bool false, .int .i64 l0.length, .slice Ai l0.length ci, .int .i64 l0.length, .bool false, u28, u29, u30, u31, u32, u33, .func (.func 80) #[] #[.pointer (some ⟨Bs, 0, none⟩)], .int .u32 x, undef, undef, undef, undef, undef, undef, undef, undef, undef, undef, undef, undef, undef, undef, undef, undef, undef, undef, undef, undef, undef, undef, undef, undef, undef, undef, undef, undef, undef, undef, undef, undef, undef, undef, undef, undef, undef, undef, undef, undef, undef, undef, undef, undef, undef, undef, undef, undef, undef, undef, undef, undef, undef, undef, undef, undef, undef, undef, undef, undef, undef], defers := [] }) ?assign ?body ?done ?stop
      case assign =>
        intro l x W K hK
        gi_wp2
        exact hK
      case body =>
        rintro l pre x W ⟨⟨bn, hpl⟩, hB⟩ _
        have b3 : Boxed W w.heap.size 3 (.int .i64 leave) := blk_below bx3 hB
        have h1 := bn.cell
        have h2 := bn.frozen
        have h3 := b3.cell
        have hne : w.heap.size ≠ wr.heap.size := by have := bx3.lt; omega
        have hKC : KeepCells wr.heap.size (wr.heap.size + 1) W (W.setCell ⟨wr.heap.size, 0, none⟩ (.int .i64 ((pre.length : Int) + 1))) := KeepCells.setCell _ _ _ _ _ ⟨Nat.le_refl _, by simp⟩
        have hBC := hB.setCell (p := ⟨wr.heap.size, 0, none⟩) (Nat.le_refl _) (.int .i64 ((pre.length : Int) + 1))
        have hbn := Boxed.set (.int .i64 ((pre.length : Int) + 1)) bn
        by_cases c1 : leave < (pre.length : Int) + 1
        · have c1b : decide (leave < (pre.length : Int) + 1) = true := decide_eq_true c1
          gi_wp2
          exact ⟨(KeepsOthers.setCell _ _ _).from _, rfl, hBC⟩
        · have c1b : decide (leave < (pre.length : Int) + 1) = false := decide_eq_false c1
          by_cases c2 : 200 < (pre.length : Int) + 1
          · have c2b : decide (200 < (pre.length : Int) + 1) = true := decide_eq_true c2
            gi_wp2
            exact ⟨(KeepsOthers.setCell _ _ _).from _, rfl, hBC⟩
          · have c2b : decide (200 < (pre.length : Int) + 1) = false := decide_eq_false c2
            gi_wp2
            refine ⟨(KeepsOthers.setCell _ _ _).from _, hKC, ⟨?_, ?_⟩, hBC⟩
            · rw [show ((pre ++ [x]).length : Int) = (pre.length : Int) + 1 by simp]
              exact hbn
            · simp; omega
      case done =>
        rintro D xs W hD _ ⟨_, hB⟩ hK
        exact rest D W (by simpa using hD) hB hK
      case stop =>
        rintro D c pre W hD _ ⟨rfl, hB⟩ hK
        refine wpIn_exit ?_
        have := rest D W (by simpa using hD) hB hK
        subst hQ
        exact this
end Go.Proofs.Ytmoagoopdfpcnaa.Q
