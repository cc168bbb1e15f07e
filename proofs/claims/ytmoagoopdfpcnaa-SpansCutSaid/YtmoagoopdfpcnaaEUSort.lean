/- slices.Sort at []uint32, where the row is one's own. -/
import Derived.Test.YtmoagoopdfpcnaaVAll
import Derived.Test.YtmoagoopdfpcnaaUPdq
import Derived.Sort.AssemblyPlain
namespace Go.Proofs.Ytmoagoopdfpcnaa.Q
open Go.RowKit Go.Proofs.YtmoagoopdfpcnaaW.PrintWords Go.Sort Go.Proofs
set_option linter.unusedVariables false
set_option linter.unusedSimpArgs false

theorem u_callees : u_Callees13 :=
  ⟨fun blk off cap a b d w hH h1 h2 h3 => u_insertionSort_int blk off cap a b d w hH h1 h2 h3,
   fun blk off cap a b d w hH h0 h1 h2 h3 => u_breakPatterns_int blk off cap a b d w hH h0 h1 h2 h3,
   fun blk off cap a b d w hH h0 h1 h2 h3 => u_choosePivot_int blk off cap a b d w hH h0 h1 h2 h3,
   fun blk off cap a b d w hH h1 h2 h3 => u_partialInsertionSort_int blk off cap a b d w hH h1 h2 h3,
   fun blk off cap a b p d w hH h1 h2 h3 h4 => u_partitionEqualOrdered_int blk off cap a b p d w hH h1 h2 h3 h4,
   fun blk off cap a b p d w hH h1 h2 h3 h4 => u_partitionOrdered_int blk off cap a b p d w hH h1 h2 h3 h4⟩
theorem u_plain : u_Plain13 := ⟨swo_ltInt, insertionSort_holds, partialInsertionSort_holds, partition_holds _, partitionEqual_holds _, pdq_sorts _⟩
theorem u_pdqWalk : u_pdqWalk_int := fun blk off cap a b limit d w hH hb hab hbd hsz hl hB =>
  u_pdqsort_int u_callees u_plain (b - a + 1) blk off cap a b limit d w (by omega) hH hb hab hbd hsz hl hB

/-- The numbers in their order. -/
def sortU (l : List Int) : List Int := l.mergeSort fun x y => decide (x ≤ y)
theorem u_sort_list (blk off cap : Nat) (zs : List Int) (w : World) (hH : Holds (Value.int .u32) w blk off zs.toArray) (hblk : blk < w.heap.size) (hsz : zs.length < 4611686018427387904) :
    Calls Try.prog 92 #[.slice (some ⟨blk, off, none⟩) zs.length cap] w fun e w' =>
      e = .returned (.tuple #[]) ∧ ∃ n os, w' = grow (putRow (Value.int .u32) (Sort.ahead w n) blk off (sortU zs).toArray) os := by
  have h := u_Sort_int u_pdqWalk blk off cap zs.toArray w hH hblk (by simpa using hsz)
  have e : Sort.sort ltInt zs.toArray = (sortU zs).toArray := by unfold sortU; rw [← sortInt zs]
  rw [e] at h
  simpa using h

/-! ### No element -/
set_option maxHeartbeats 2000000 in
theorem u_ins0 (p : Option Addr) (cap : Nat) (w : World) : Calls Try.prog 137 #[.slice p 0 cap, .int .i64 0, .int .i64 0] w fun e w' => e = .returned (.tuple #[]) ∧ w' = w := by
  go_enter Try.func137, Try.ntmps137
  go_wp2
  refine wp_loop_rounds 1 ?_
  rw [rounds_succ]
  go_wp2
  go_end0
  exact ⟨rfl, rfl⟩
set_option maxHeartbeats 2000000 in
theorem u_pdq0 (p : Option Addr) (cap : Nat) (lim : Int) (w : World) : Calls Try.prog 114 #[.slice p 0 cap, .int .i64 0, .int .i64 0, .int .i64 lim] w fun e w' => e = .returned (.tuple #[]) ∧ w' = w := by
  have hi := fun W => u_ins0 p cap W
  go_enter Try.func114, Try.ntmps114
  go_wp2
  refine wp_loop_rounds 1 ?_
  rw [rounds_succ]
  go_wp2_with (go_at_call 137; refine (hi _).mono ?_; rintro e w' ⟨rfl, rfl⟩)
  (try simp only [Exit.inBlock, Exit.then]); refine bodyPost_ret (results_none rfl _ _ _) rfl ?_
  exact ⟨rfl, rfl⟩
set_option maxHeartbeats 2000000 in
theorem u_sort0 (p : Option Addr) (cap : Nat) (w : World) : Calls Try.prog 92 #[.slice p 0 cap] w fun e w' => e = .returned (.tuple #[]) ∧ w' = w := by
  have hp := fun lim W => u_pdq0 p cap lim W
  have hl := fun W => u_bits_Len 0 W (by omega) (by omega)
  go_enter Try.func92, Try.ntmps92
  go_wp2_with (first | (go_at_call 109; refine (hl _).mono ?_; rintro e w' ⟨rfl, rfl⟩) | (go_at_call 114; refine (hp _ _).mono ?_; rintro e w' ⟨rfl, rfl⟩))
  go_end0
  exact ⟨rfl, rfl⟩

/-! ### Where the row is one's own -/
abbrev kU : Kd Int := Kd.int .u32
theorem reps_u {R : Int → List Value → Prop} (hR : ∀ x c, R x c → c = [.int .u32 x]) {xs : List Int} {inner : List Value} (h : Reps R 1 xs inner) : inner = xs.map (Value.int .u32) := by
  apply List.ext_getElem?
  intro t
  have hl : inner.length = xs.length := by rw [h.1, Nat.mul_one]
  by_cases ht : t < xs.length
  · have h1 := hR _ _ (h.2 t xs[t] (List.getElem?_eq_getElem ht))
    rw [Nat.mul_one, List.drop_eq_getElem_cons (by omega), List.take_succ_cons, List.take_zero] at h1
    rw [List.getElem?_eq_getElem (by omega), List.getElem?_map, List.getElem?_eq_getElem ht]
    exact congrArg some (List.cons.inj h1).1
  · rw [List.getElem?_eq_none (by omega), List.getElem?_eq_none (by rw [List.length_map]; omega)]
/-- A row of one's own, by its block. -/
theorem u_open {w : World} {base g n cap : Nat} {ok : Nat → Prop} {xs : List Int} (h : Kd.R kU 26 w base ok (.slice (some ⟨g, 0, none⟩) n cap) xs) :
    ok g ∧ base ≤ g ∧ g < w.heap.size ∧ n = xs.length ∧ n ≤ cap ∧ ∃ cur : Array Value, w.heap[g]? = some (.cells cur 26 (0, 0)) ∧ cap ≤ maxLen ∧ cur.size = cap ∧ cur.toList.take n = xs.map (Value.int .u32) := by
  obtain ⟨hP, inner, ⟨hlen, ho⟩, hrep⟩ := h
  rcases ho with ⟨hv, _⟩ | ⟨g', cap', cur, hv, hbg, hg, hnc, hcm, hcs, htake⟩
  · cases hv
  · injection hv with ha hn hc
    injection ha with ha
    injection ha with ha
    subst ha; subst hc
    have hlt : g < w.heap.size := by
      rcases Nat.lt_or_ge g w.heap.size with h | h
      · exact h
      · rw [Array.getElem?_eq_none h] at hg; cases hg
    have hi := reps_u (fun x c hc => hc) hrep
    have sz1 : kU.sz = 1 := rfl
    rw [sz1, Nat.mul_one] at hlen hcs htake
    exact ⟨hP g (by simp [Value.ownBlock]), hbg, hlt, hn, by omega, cur, hg, hcm, hcs, by rw [hn, ← hi]; exact htake⟩
theorem u_shut {w : World} {base g n cap : Nat} {ok : Nat → Prop} {xs : List Int} {cur : Array Value} (hok : ok g) (hb : base ≤ g) (hn : n = xs.length) (hc : n ≤ cap) (hg : w.heap[g]? = some (.cells cur 26 (0, 0))) (hm : cap ≤ maxLen) (hs : cur.size = cap)
    (ht : cur.toList.take n = xs.map (Value.int .u32)) : Kd.R kU 26 w base ok (.slice (some ⟨g, 0, none⟩) n cap) xs := by
  subst hn
  refine ⟨fun k hk => ?_, xs.map (Value.int .u32), ⟨by show (xs.map (Value.int .u32)).length = xs.length * 1; simp, Or.inr ⟨g, cap, cur, rfl, hb, hg, hc, hm, by show cur.size = cap * 1; omega, by show cur.toList.take (xs.length * 1) = _; rw [Nat.mul_one]; exact ht⟩⟩, ⟨by show (xs.map (Value.int .u32)).length = xs.length * 1; simp, fun j p hj => ?_⟩⟩
  · have : g = k := by simpa [Value.ownBlock] using hk
    subst this; exact hok
  · show ((xs.map (Value.int .u32)).drop (j * 1)).take 1 = [Value.int .u32 p]
    have hjl := (List.getElem?_eq_some_iff.1 hj).1
    rw [Nat.mul_one, List.drop_eq_getElem_cons (by simpa using hjl), List.take_succ_cons, List.take_zero, List.getElem_map]
    rw [List.getElem?_eq_getElem hjl] at hj
    rw [Option.some.inj hj]
theorem u_holds {w : World} {g n : Nat} {xs : List Int} {cur : Array Value} (hn : n = xs.length) (hg : w.heap[g]? = some (.cells cur 26 (0, 0))) (ht : cur.toList.take n = xs.map (Value.int .u32)) : Holds (Value.int .u32) w g 0 xs.toArray := by
  intro j hj
  have hjl : j < xs.length := by simpa using hj
  have hc : cur[j]? = some (.int .u32 xs.toArray[j]!) := by
    have e1 : (cur.toList.take n)[j]? = (xs.map (Value.int .u32))[j]? := by rw [ht]
    rw [List.getElem?_take_of_lt (by omega), Array.getElem?_toList, List.getElem?_map, List.getElem?_eq_getElem hjl] at e1
    rw [e1, getElem!_pos xs.toArray j hj]
    rfl
  refine ⟨?_, ?_⟩
  · unfold World.cell?
    simp only [hg, Nat.zero_add]
    exact hc
  · unfold World.frozen?
    simp only [hg]
    simp
theorem u_block {w : World} {g n : Nat} {d : Array Int} {os : Array Obj} {k : Nat} (hk : k < w.heap.size) :
    (grow (putRow (Value.int .u32) (Sort.ahead w n) g 0 d) os).heap[k]? = if g = k then (w.heap[k]?).map (onCells (putCells (Value.int .u32) 0 d)) else w.heap[k]? := by
  rw [heap_grow_old _ _ (by rw [size_putRow]; exact hk)]
  unfold putRow mapBlock
  simp only [Array.getElem?_modify]
  by_cases h : g = k
  · simp only [h, if_true]; rfl
  · simp only [h, if_false]; rfl
theorem u_size (w : World) (g n : Nat) (d : Array Int) (os : Array Obj) : w.heap.size ≤ (grow (putRow (Value.int .u32) (Sort.ahead w n) g 0 d) os).heap.size := by
  rw [size_grow, size_putRow]
  exact Nat.le_add_right _ _
theorem u_put_take (d : Array Int) (cur : Array Value) (h : d.size ≤ cur.size) : (putCells (Value.int .u32) 0 d cur).toList.take d.size = d.toList.map (Value.int .u32) := by
  apply List.ext_getElem?
  intro k
  by_cases hk : k < d.size
  · rw [List.getElem?_take_of_lt hk, Array.getElem?_toList, List.getElem?_map, Array.getElem?_toList]
    unfold putCells
    rw [Array.getElem?_mapIdx, Array.getElem?_eq_getElem (by omega), Array.getElem?_eq_getElem hk]
    simp only [Option.map_some, Nat.zero_le, true_and, Nat.zero_add, hk, if_true, Nat.sub_zero]
    rw [getElem!_pos d k hk]
  · rw [List.getElem?_take_eq_none (by omega), List.getElem?_eq_none (by simp; omega)]
/-- slices.Sort of a row of one's own. -/
theorem slices_Sort_uint32_uint32.own (base : Nat) (P0_ : Nat → Prop) (u : Value) (l0 : List Int) (w0 w : World) (hB : Below base w0 w) (ho0 : Kd.R kU 26 w base P0_ u l0) (hsz : l0.length < 4611686018427387904) :
    Calls Try.prog 92 #[u] w fun e w' => e = .returned (.tuple #[]) ∧ Kd.R kU 26 w' base P0_ u (sortU l0) ∧ Below base w0 w' ∧ Kept w w' (fun k_ => u.ownBlock = some k_) := by
  obtain ⟨A, c, hu, hlc, hC⟩ := Kd.R_reads ho0
  rcases hA : A with _ | ad
  · have hl0 : l0 = [] := by
      rcases Nat.eq_zero_or_pos l0.length with h | h
      · exact List.eq_nil_of_length_eq_zero h
      · obtain ⟨ad, ha, _⟩ := hC.2.2 h
        rw [hA] at ha; cases ha
    subst hl0
    rw [hu, hA]
    refine (u_sort0 none c w).mono fun e w' ⟨he, hw⟩ => ?_
    subst hw
    rw [hu, hA] at ho0
    rw [show sortU [] = [] by simp [sortU]]
    exact ⟨he, ho0, hB, Kept.refl _ _⟩
  · obtain ⟨g, hg0⟩ : ∃ g, u = .slice (some ⟨g, 0, none⟩) l0.length c := by
      obtain ⟨hP, inner, ⟨hlen, ho⟩, hrep⟩ := ho0
      rcases ho with ⟨hv, _⟩ | ⟨g', cap', cur, hv, _⟩
      · rw [hu, hA] at hv; cases hv
      · rw [hu] at hv ⊢
        injection hv with ha hn hc
        exact ⟨g', by rw [ha]⟩
    subst hg0
    obtain ⟨hok, hb, hlt, hn, hc, cur, hg, hm, hs, ht⟩ := u_open ho0
    have hH := u_holds rfl hg ht
    refine (u_sort_list g 0 c l0 w hH hlt hsz).mono fun e w' ⟨he, n, os, hw⟩ => ?_
    subst hw
    have hl : (sortU l0).length = l0.length := by unfold sortU; simp
    refine ⟨he, ?_, ?_, ?_⟩
    · refine u_shut hok hb hl.symm hc (cur := putCells (Value.int .u32) 0 (sortU l0).toArray cur) ?_ hm (by simp [putCells, hs]) ?_
      · rw [u_block hlt, if_pos rfl, hg]; rfl
      · have := u_put_take (sortU l0).toArray cur (by simp [hl, hs]; omega)
        simpa [hl] using this
    · refine ⟨hB.os, hB.tape, hB.output, Nat.le_trans hB.size (u_size _ _ _ _ _), fun k hk => ?_⟩
      rw [u_block (by omega), if_neg (by omega)]
      exact hB.block k hk
    · refine ⟨u_size _ _ _ _ _, fun k hk hn => ?_⟩
      rw [u_block hk, if_neg (fun h => hn (by subst h; simp [Value.ownBlock]))]
end Go.Proofs.Ytmoagoopdfpcnaa.Q
