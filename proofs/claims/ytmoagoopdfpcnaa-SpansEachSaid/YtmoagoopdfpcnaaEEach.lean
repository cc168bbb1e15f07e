/- spans.Each's closure: the iterator's contract. -/
import Derived.RangeFuncNested
import Derived.RangeFuncBound
import Derived.RangeFuncCalls
import Derived.RangeFuncLeaves
import Derived.RangeFuncBox
import Derived.Shelf.Abstract
import Derived.WalkKit
import Derived.OwnWalkIn
import Derived.TacticsInMore
import Derived.LoopNIn
import Derived.LoopIn
import Derived.Test.YtmoagoopdfpcnaaQx0
namespace Go.Proofs.Ytmoagoopdfpcnaa.Q
open Go.RowKit Go.Shelf
attribute [local go_sem] Oper.semAt_some
set_option linter.unusedVariables false

/-- What a round of the law keeps: every block of cells but those in [n, m). -/
def KeepCells (n m : Nat) (W W' : World) : Prop := W.heap.size ≤ W'.heap.size ∧ ∀ k cs t f, (k < n ∨ m ≤ k) → W.heap[k]? = some (.cells cs t f) → W'.heap[k]? = some (.cells cs t f)
theorem KeepCells.refl (n m : Nat) (W : World) : KeepCells n m W W := ⟨Nat.le_refl _, fun _ _ _ _ _ h => h⟩
theorem KeepCells.trans {n m : Nat} {A B C : World} (h : KeepCells n m A B) (g : KeepCells n m B C) : KeepCells n m A C := ⟨Nat.le_trans h.1 g.1, fun k cs t f hk e => g.2 k cs t f hk (h.2 k cs t f hk e)⟩
theorem KeepCells.cell {n m : Nat} {W W' : World} (h : KeepCells n m W W') {p : Addr} {v : Value} (hp : p.block < n ∨ m ≤ p.block) (hv : W.cell? p = some v) : W'.cell? p = some v := by
  unfold World.cell? at hv ⊢
  cases hb : W.heap[p.block]? with
  | none => rw [hb] at hv; simp at hv
  | some o =>
    cases o with
    | cells cs t f => rw [h.2 p.block cs t f hp hb]; rw [hb] at hv; exact hv
    | _ => rw [hb] at hv; simp at hv

/-- The numbers of one span, in order. -/
def numsFrom (a : Int) (k : Nat) : List Int := (List.range k).map fun j : Nat => a + (j : Int)
theorem numsFrom_succ (a : Int) (k : Nat) : numsFrom a (k + 1) = numsFrom a k ++ [a + (k : Int)] := by simp [numsFrom, List.range_succ]
def numsS (s : S31) : List Int := numsFrom s.f0 (s.f1 + 1 - s.f0).toNat
def numsL (l : List S31) : List Int := l.flatMap numsS
theorem numsL_take_succ (l : List S31) (k : Nat) (h : k < l.length) : numsL (l.take (k + 1)) = numsL (l.take k) ++ numsS l[k] := by
  unfold numsL
  rw [List.take_succ_eq_append_getElem h, List.flatMap_append]; simp

theorem keepCells_b {n m : Nat} (W : World) (l : Nat) (o o' : Obj) (h : W.heap[l]? = some o) (ho : o.isCells = false) : KeepCells n m W (W.putObj l o') := by
  refine ⟨by simp [World.putObj], fun k cs t f hk e => ?_⟩
  by_cases hkl : k = l
  · subst hkl; rw [h] at e; cases e; simp [Obj.isCells] at ho
  · rw [World.putObj_heap_other hkl]; exact e
theorem KeepCells.alloc (n m : Nat) (W : World) (o : Obj) : KeepCells n m W (W.alloc o) := by
  refine ⟨by simp, fun k cs t f hk e => ?_⟩
  rw [Below.heap_alloc W o k (Array.getElem?_eq_some_iff.1 e).1]; exact e
theorem KeepCells.setCell (n m : Nat) (W : World) (p : Addr) (v : Value) (hp : n ≤ p.block ∧ p.block < m) : KeepCells n m W (W.setCell p v) := by
  refine ⟨by rw [World.size_setCell]; exact Nat.le_refl _, fun k cs t f hk e => ?_⟩
  rw [Below.heap_setCell W p v k (by omega)]; exact e

theorem numsFrom_len (a : Int) (k : Nat) : (numsFrom a k).length = k := by simp [numsFrom]
theorem numsFrom_pre (a : Int) (j k : Nat) (h : j ≤ k) : numsFrom a j <+: numsFrom a k := by
  unfold numsFrom
  refine List.IsPrefix.map _ ?_
  rw [List.prefix_iff_eq_take, List.length_range, List.take_range, Nat.min_eq_left h]
theorem nums_pre (fs : List S31) (k : Nat) (h : k < fs.length) (j : Nat) (hj : (j : Int) ≤ fs[k].f1 + 1 - fs[k].f0) : numsL (fs.take k) ++ numsFrom fs[k].f0 j <+: numsL fs := by
  have e : numsL fs = numsL (fs.take k) ++ numsS fs[k] ++ numsL (fs.drop (k + 1)) := by
    rw [← numsL_take_succ fs k h]
    unfold numsL
    rw [← List.flatMap_append, List.take_append_drop]
  rw [e]
  refine List.IsPrefix.trans ?_ (List.prefix_append _ _)
  rw [List.prefix_append_right_inj]
  exact numsFrom_pre _ _ _ (by omega)

theorem box_second (w : World) (a b : Value) (t : TypeId) : (w.alloc (Obj.cells #[a, b] t)).cell? ⟨w.heap.size, 1, none⟩ = some b := by
  unfold World.cell?
  rw [show (w.alloc (Obj.cells #[a, b] t)).heap[w.heap.size]? = some (Obj.cells #[a, b] t) from Array.getElem?_push_size]
  rfl

set_option maxRecDepth 100000 in
set_option maxHeartbeats 4000000 in
theorem each1_in (F : Fence) (n : Nat) (h80 : F.fn 80) (hro : F.round = none) (hn : 1 ≤ n) (l Bs n₀ m b off cap : Nat) (fs : List S31) (hreach : fs.length * 8 ≤ 140737488351232) (hb : b < n₀) (J Jx : List Int → World → Prop) (N : Nat)
    (hok : ∀ s ∈ fs, 0 ≤ s.f0 ∧ s.f0 ≤ s.f1 ∧ s.f1 ≤ 4294967295) (W : World) (hm : m ≤ W.heap.size) (hN : (numsL fs).length ≤ N)
    (hJ : AbidesFrom W.heap.size J)
    (hY : ∀ pre x W, J pre W → pre.length < N → YieldAt F (n - 1) Try.prog l #[.int .u32 x] W fun e W' =>
      (e = .returned (.bool true) ∧ J (pre ++ [x]) W' ∧ KeepCells n₀ m W W') ∨ (e = .returned (.bool false) ∧ Jx (pre ++ [x]) W'))
    (hBs : W.cell? ⟨Bs, 0, none⟩ = some (.slice (some ⟨b, off, none⟩) fs.length cap))
    (hc : ∀ j, j < fs.length → W.cell? ⟨b, off + j * 2, none⟩ = some (.int .u32 (fs.getD j z31).f0) ∧ W.cell? ⟨b, off + j * 2 + 1, none⟩ = some (.int .u32 (fs.getD j z31).f1)) (h0 : J [] W) :
    CallsIn F n Try.prog 80 #[.func (.yield l) #[] #[], .pointer (some ⟨Bs, 0, none⟩)] W fun e W' => (∃ v, e = .returned v) ∧
      ((∃ ys, ys = numsL fs ∧ J ys W') ∨ (∃ pre, pre <+: numsL fs ∧ Jx pre W')) := by
  refine callsIn_of_wp Try.func80 rfl h80 ?_ hro
  simp only [Try.ntmps80, List.size_toArray, List.length_cons, List.length_nil, Nat.reduceAdd, Nat.reduceSub, Array.replicate_succ, Array.replicate_zero, List.push_toArray, List.append_toArray, List.nil_append, List.cons_append]
  gi_wp2
  gi_loopw [8] (fun i wr => ∃ k : Nat, k ≤ fs.length ∧ i = .int .i64 k ∧ J (numsL (fs.take k)) wr ∧ KeepCells n₀ m W wr)
    (fun i _ => fs.length - (intOf i).toNat)
  case atStart => exact ⟨0, Nat.zero_le _, rfl, h0, KeepCells.refl _ _ _⟩
  case round =>
    obtain ⟨k, hk, rfl, hJs, hnx⟩ := hrel
    by_cases hlt : k < fs.length
    · have hcx := hc k hlt
      have hc0 := hnx.cell (p := ⟨b, off + k * 2, none⟩) (Or.inl hb) hcx.1
      have hc1 := hnx.cell (p := ⟨b, off + k * 2 + 1, none⟩) (Or.inl hb) hcx.2
      gi_wp2
      obtain ⟨q0, q1, q2⟩ := hok fs[k] (List.getElem_mem hlt)
      have hms : m ≤ wr.heap.size := Nat.le_trans hm hnx.1
      have hka := KeepCells.alloc n₀ m wr (Obj.cells #[Value.int IntKind.u32 fs[k].f0, Value.int IntKind.u32 fs[k].f1] 31)
      have hJa : J (numsL (fs.take k)) (wr.alloc (Obj.cells #[Value.int IntKind.u32 fs[k].f0, Value.int IntKind.u32 fs[k].f1] 31)) := hJ _ _ _ none hJs (World.grownBy_alloc _ _ _) (fun r e => by cases e)
      obtain ⟨B, hB⟩ : ∃ B, wr.heap.size = B := ⟨_, rfl⟩
      have w1 : IntKind.u64.wrap fs[k].f0 = fs[k].f0 := by simp [IntKind.wrap, IntKind.bits, IntKind.signed]; omega
      have hB0 : (wr.alloc (Obj.cells #[Value.int IntKind.u32 fs[k].f0, Value.int IntKind.u32 fs[k].f1] 31)).cell? ⟨B, 1, none⟩ = some (.int .u32 fs[k].f1) := by rw [← hB]; exact box_second wr _ _ 31
      generalize hW2 : wr.alloc (Obj.cells #[Value.int IntKind.u32 fs[k].f0, Value.int IntKind.u32 fs[k].f1] 31) = W2 at *
      rw [hB, w1]
      rw [hB] at hms
      clear hB
      gi_loopw [5] (fun x wr2 => ∃ j : Nat, fs[k].f0 + j ≤ fs[k].f1 + 1 ∧ x = .int .u64 (fs[k].f0 + j) ∧ J (numsL (fs.take k) ++ numsFrom fs[k].f0 j) wr2 ∧ KeepCells n₀ m W2 wr2)
        (fun x _ => (fs[k].f1 + 1 - intOf x).toNat)
      case atStart => exact ⟨0, by omega, by simp, by simpa [numsFrom] using hJa, KeepCells.refl _ _ _⟩
      case round =>
        obtain ⟨j, hj, rfl, hJ2, hk2⟩ := hrel
        have hb1 := hk2.cell (p := ⟨B, 1, none⟩) (Or.inr hms) hB0
        by_cases hj2 : fs[k].f0 + j ≤ fs[k].f1
        · have hpre := nums_pre fs k hlt (j + 1) (by omega)
          have hlen : (numsL (fs.take k) ++ numsFrom fs[k].f0 j).length < N := by
            have h1 := hpre.length_le
            rw [List.length_append, numsFrom_len] at h1
            rw [List.length_append, numsFrom_len]; omega
          obtain ⟨fn, tmps, assign, body, hy, hR⟩ := hY _ (fs[k].f0 + j) wr hJ2 hlen
          have w2 : IntKind.u64.wrap fs[k].f1 = fs[k].f1 := by simp [IntKind.wrap, IntKind.bits, IntKind.signed]; omega
          have w3 : IntKind.u32.wrap (fs[k].f0 + j) = fs[k].f0 + j := by simp [IntKind.wrap, IntKind.bits, IntKind.signed]; omega
          gi_wp2
          refine hR.mono ?_
          rintro e W3 (⟨rfl, hJ3, hk3⟩ | ⟨rfl, hJx3⟩)
          · gi_wp2
            go_roundw
            case rel =>
              exact ⟨j + 1, by omega, by rw [show fs[k].f0 + (j : Int) + 1 = fs[k].f0 + ((j + 1 : Nat) : Int) by omega], by rw [numsFrom_succ, ← List.append_assoc]; exact hJ3, hk2.trans hk3⟩
            case measure => simp [intOf]; omega
          · gi_wp2
            refine bodyPost_ret (results_none rfl _ _ _) rfl ?_
            refine ⟨⟨_, rfl⟩, .inr ⟨_, ?_, hJx3⟩⟩
            rw [List.append_assoc, ← numsFrom_succ]; exact hpre
        · gi_wp2
          refine ⟨⟨k + 1, by omega, by simp, ?_, (hnx.trans hka).trans hk2⟩, by simp [intOf]; omega⟩
          rw [numsL_take_succ fs k hlt]
          unfold numsS
          rw [show (fs[k].f1 + 1 - fs[k].f0).toNat = j by omega]
          exact hJ2
    · obtain rfl : k = fs.length := by omega
      gi_wp2
      go_end0
      exact ⟨⟨_, rfl⟩, .inl ⟨_, rfl, by rw [List.take_of_length_le (Nat.le_refl _)] at hJs; exact hJs⟩⟩

set_option maxRecDepth 100000 in
set_option maxHeartbeats 2000000 in
theorem each1_nil_in (F : Fence) (n : Nat) (h80 : F.fn 80) (hro : F.round = none) (l Bs : Nat) (J : List Int → World → Prop) (W : World) (hBs : W.cell? ⟨Bs, 0, none⟩ = some (.slice none 0 0)) (h0 : J [] W) :
    CallsIn F n Try.prog 80 #[.func (.yield l) #[] #[], .pointer (some ⟨Bs, 0, none⟩)] W fun e W' => (∃ v, e = .returned v) ∧ J [] W' := by
  refine callsIn_of_wp Try.func80 rfl h80 ?_ hro
  simp only [Try.ntmps80, List.size_toArray, List.length_cons, List.length_nil, Nat.reduceAdd, Nat.reduceSub, Array.replicate_succ, Array.replicate_zero, List.push_toArray, List.append_toArray, List.nil_append, List.cons_append]
  gi_wp2
  gi_loopw [8] (fun i wr => i = .int .i64 0 ∧ J [] wr) (fun _ _ => 0)
  case atStart => exact ⟨rfl, h0⟩
  case round =>
    obtain ⟨rfl, hJs⟩ := hrel
    gi_wp2
    go_end0
    exact ⟨⟨_, rfl⟩, hJs⟩

/-- spans.Each's closure: its numbers, in order, whatever the body, as long as it keeps all cells but those in [n₀, m). -/
theorem each_stops (F : Fence) (n : Nat) (h80 : F.fn 80) (hro : F.round = none) (hn : 1 ≤ n) (Bs n₀ m : Nat) (A : Option Addr) (cap : Nat) (fs : List S31) (hreach : fs.length * 8 ≤ 140737488351232) (hok : ∀ s ∈ fs, 0 ≤ s.f0 ∧ s.f0 ≤ s.f1 ∧ s.f1 ≤ 4294967295) (w : World) (hBs : Bs < w.heap.size) (hm : m ≤ w.heap.size)
    (hc : w.cell? ⟨Bs, 0, none⟩ = some (.slice A fs.length cap)) (hnil : A = none → fs = [] ∧ cap = 0)
    (hrow : ∀ a, A = some a → a.spot = none ∧ a.block < n₀ ∧ a.block < w.heap.size ∧ ∀ j, j < fs.length → w.cell? ⟨a.block, a.off + j * 2, none⟩ = some (.int .u32 (fs.getD j z31).f0) ∧ w.cell? ⟨a.block, a.off + j * 2 + 1, none⟩ = some (.int .u32 (fs.getD j z31).f1)) :
    SeqStopsK F n Try.prog 80 #[.pointer (some ⟨Bs, 0, none⟩)] (fun x : Int => #[Value.int .u32 x]) (KeepCells n₀ m) (fun ys => ys = numsL fs) (fun pre => pre <+: numsL fs) (numsL fs).length w := fun l J Jx W hW hJ _ hY h0 => by
  have hc' := (hW.cell (p := ⟨Bs, 0, none⟩) hBs).trans hc
  cases A with
  | none =>
    obtain ⟨rfl, rfl⟩ := hnil rfl
    exact (each1_nil_in F n h80 hro l Bs J W hc' h0).mono fun e W' ⟨he, hj⟩ => ⟨he, .inl ⟨_, rfl, hj⟩⟩
  | some a =>
    obtain ⟨h1, h2, h3, h4⟩ := hrow a rfl
    obtain ⟨b, off, sub⟩ := a
    cases h1
    exact each1_in F n h80 hro hn l Bs n₀ m b off cap fs hreach h2 J Jx _ hok W (Nat.le_trans hm hW.size) (Nat.le_refl _) hJ hY hc' (fun j hj => ⟨(hW.cell (p := ⟨b, off + j * 2, none⟩) h3).trans (h4 j hj).1, (hW.cell (p := ⟨b, off + j * 2 + 1, none⟩) h3).trans (h4 j hj).2⟩) h0
end Go.Proofs.Ytmoagoopdfpcnaa.Q
