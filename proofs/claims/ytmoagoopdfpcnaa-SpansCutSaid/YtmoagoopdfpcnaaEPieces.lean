/- spans.Pieces, walked by hand: the call. -/
import Derived.Test.YtmoagoopdfpcnaaEPForm
import Derived.Test.YtmoagoopdfpcnaaEUCompact
namespace Go.Proofs.Ytmoagoopdfpcnaa.Q
open Go.RowKit Go.Proofs.YtmoagoopdfpcnaaW.PrintWords Go.Proofs.YtmoagoopdfpcnaaW.PrintLast Go.Proofs.YtmoagoopdfpcnaaW.PrintMore Go.Proofs.Ytmoagoopdfpcnaa.SpMath
set_option linter.unusedVariables false
set_option linter.unusedSimpArgs false

/-- Where a number is noted. -/
def cutL (most x : Int) : List Int := if 0 < x ∧ x ≤ most then [x] else []

/-- What the call holds: its bound in one block, the numbers noted so far behind another. -/
structure PS (w : World) (most : Int) (W : World) (A : Option Addr) (c : Nat) (xs : List Int) : Prop where
  b0 : W.heap[w.heap.size]? = some (.cells #[.int .u32 most] 26 (0, 0))
  b1 : W.heap[w.heap.size + 1]? = some (.cells #[.slice A xs.length c] 51 (0, 0))
  row : Kd.R kU 26 W (w.heap.size + 2) (fun _ => True) (.slice A xs.length c) xs
  below : Below w.heap.size w W

theorem info26u : (Try.prog.info? 26).map (fun i => (i.zero, i.size, i.bytes)) = some (some (.int .u32 0), 1, 4) := by kernel_rfl

theorem blk1_frz {w : World} {g : Nat} {cs : Array Value} {t : TypeId} (h : w.heap[g]? = some (.cells cs t (0, 0))) (j : Nat) : w.frozen? ⟨g, j, none⟩ = false := by
  unfold World.frozen?
  simp [h]
theorem blk1_set {w : World} {g : Nat} {u v : Value} {t : TypeId} (h : w.heap[g]? = some (.cells #[u] t (0, 0))) : (w.setCell ⟨g, 0, none⟩ v).heap[g]? = some (.cells #[v] t (0, 0)) := by
  unfold World.setCell
  simp [Array.getElem?_modify, h]

set_option maxHeartbeats 2000000 in
set_option maxRecDepth 100000 in
theorem cut_calls (w W : World) (most x : Int) (A : Option Addr) (c : Nat) (xs : List Int) (h : PS w most W A c xs) (hm0 : 0 ≤ most) (hm : most ≤ 4294967295) (hx0 : 0 ≤ x) (hx1 : x ≤ 4294967296) (hl : xs.length ≤ 1000000000000) :
    Calls Try.prog 91 #[.int .u64 x, .pointer (some ⟨w.heap.size, 0, none⟩), .pointer (some ⟨w.heap.size + 1, 0, none⟩)] W fun e w' => e = .returned (.tuple #[]) ∧
      (∃ A' c', PS w most w' A' c' (xs ++ cutL most x)) ∧ Kept W w' (fun k => k = w.heap.size + 1 ∨ (Value.slice A xs.length c).ownBlock = some k) := by
  have hz := blk_lt h.b1
  have k0 : W.cell? ⟨w.heap.size, 0, none⟩ = some (.int .u32 most) := (blk_cell h.b0 0).trans rfl
  have k1 : W.cell? ⟨w.heap.size + 1, 0, none⟩ = some (.slice A xs.length c) := (blk_cell h.b1 0).trans rfl
  have hA := Aside0.mk h
  clear h
  by_cases h0 : 0 < x
  · have h0b : decide (x > 0) = true := decide_eq_true h0
    by_cases h1 : x ≤ most
    · have h1b : decide (x ≤ most) = true := decide_eq_true h1
      have hcut : cutL most x = [x] := by unfold cutL; rw [if_pos ⟨h0, h1⟩]
      rw [hcut]
      have hw1 : IntKind.u32.wrap x = x := by simp [IntKind.wrap, IntKind.bits, IntKind.signed]; omega
      have hw2 : IntKind.u64.wrap most = most := by simp [IntKind.wrap, IntKind.bits, IntKind.signed]; omega
      have haL : (xs.length + 1) * 4 ≤ 140737488355328 := by omega
      clear hcut
      go_enter Try.func91, Try.ntmps91
      go_wp2_with (first | ((with_reducible refine gate_builtin (b := .append) (xs := #[.tmp 12, .tmp 15]) rfl ?_); at_builtin; refine Kd.R_append kU (w0 := W) (w.heap.size + 2) rfl (.tmp 12) (.tmp 15) 51 26 (.int .u32 0) 4 rfl Try.underlying51 info26u rfl (by decide) (by omega) (.slice A xs.length c) xs x [.int .u32 x] (fun _ => True) (fun _ => False) rfl rfl rfl (fun _ hk => hk.elim) (fun _ _ => trivial) hA.out.row (Below.refl _ _) (by omega) haL ?_; intro v7 w7 ho7 hb7 hg7 hat7; obtain ⟨A7, c7, rfl, hc7, hC7⟩ := Kd.R_reads ho7; have ho7A := Aside0.mk ho7; have hb7A := Aside0.mk hb7; have hg7A := Aside0.mk hg7; have hd1 : Aside0 (w7.heap[w.heap.size + 1]? = some (.cells #[.slice A xs.length c] 51 (0, 0))) := ⟨(hb7.block _ (by omega)).trans hA.out.b1⟩; have k7 : w7.cell? ⟨w.heap.size + 1, 0, none⟩ = some (.slice A xs.length c) := (blk_cell hd1.out 0).trans rfl; have f7 : w7.frozen? ⟨w.heap.size + 1, 0, none⟩ = false := blk1_frz hd1.out 0; clear hat7 hC7 ho7 hb7 hg7 k1))
      go_end0
      have eL : (xs ++ [x]).length = xs.length + 1 := by simp
      refine ⟨rfl, ⟨A7, c7, ⟨?_, ?_, ?_, ?_⟩⟩, ?_⟩
      · exact (Below.heap_setCell w7 ⟨w.heap.size + 1, 0, none⟩ _ w.heap.size (by show w.heap.size ≠ w.heap.size + 1; omega)).trans ((hb7A.out.block _ (by omega)).trans hA.out.b0)
      · rw [eL]; exact blk1_set hd1.out
      · have hr := ho7A.out
        rw [eL] at hr ⊢
        exact Kd.R_mono (Kd.R_far (p := ⟨w.heap.size + 1, 0, none⟩) (Kd.R_mono (Kd.R_bound hr) (ok' := fun k => w.heap.size + 2 ≤ k) (fun k hk => hk.2.1)) (fun k hk => by show k ≠ w.heap.size + 1; omega) _) (fun _ _ => trivial)
      · refine Below.setCell (p := ⟨w.heap.size + 1, 0, none⟩) ?_ (by show w.heap.size ≤ w.heap.size + 1; omega) _
        exact hA.out.below.trans (hb7A.out.mono (by omega))
      · refine ⟨?_, fun k hk hn => ?_⟩
        · rw [World.size_setCell]; exact hb7A.out.size
        · rw [Below.heap_setCell w7 _ _ k (by show k ≠ w.heap.size + 1; exact fun he => hn (Or.inl he))]
          exact hg7A.out.block k hk (fun he => hn (Or.inr he.symm))
    · have h1b : decide (x ≤ most) = false := decide_eq_false h1
      have hcut : cutL most x = [] := by unfold cutL; rw [if_neg (by omega)]
      rw [hcut, List.append_nil]
      have hw2 : IntKind.u64.wrap most = most := by simp [IntKind.wrap, IntKind.bits, IntKind.signed]; omega
      clear hcut
      go_enter Try.func91, Try.ntmps91
      go_wp2
      go_end0
      exact ⟨rfl, ⟨A, c, hA.out⟩, Kept.refl _ _⟩
  · have h0b : decide (x > 0) = false := decide_eq_false h0
    have hcut : cutL most x = [] := by unfold cutL; rw [if_neg (by omega)]
    rw [hcut, List.append_nil]
    clear hcut
    go_enter Try.func91, Try.ntmps91
    go_wp2
    go_end0
    exact ⟨rfl, ⟨A, c, hA.out⟩, Kept.refl _ _⟩

theorem PS.alloc {w W : World} {most : Int} {A : Option Addr} {c : Nat} {xs : List Int} (h : PS w most W A c xs) (o : Obj) : PS w most (W.alloc o) A c xs :=
  ⟨blk_alloc h.b0 o, blk_alloc h.b1 o, Kd.R_alloc h.row o, below_alloc h.below o⟩
theorem PS.drewN {w W : World} {most : Int} {A : Option Addr} {c : Nat} {xs : List Int} (h : PS w most W A c xs) (n : Nat) : PS w most (W.drewN n) A c xs :=
  ⟨h.b0, h.b1, Kd.R_drewN h.row n, pw_below_drewN h.below n⟩
theorem PS.beyond {w W W' : World} {most : Int} {A : Option Addr} {c : Nat} {xs : List Int} (h : PS w most W A c xs) (hb : Below W.heap.size W W') : PS w most W' A c xs :=
  ⟨blk_below h.b0 hb, blk_below h.b1 hb, Kd.R_below h.row hb, below_step h.below hb⟩
theorem PS.lt {w W : World} {most : Int} {A : Option Addr} {c : Nat} {xs : List Int} (h : PS w most W A c xs) : w.heap.size + 1 < W.heap.size := blk_lt h.b1
/-- A block of another type stays. -/
theorem PS.keeps {w W W' : World} {most : Int} {A : Option Addr} {c : Nat} {xs : List Int} (h : PS w most W A c xs) (hk : Kept W W' (fun k => k = w.heap.size + 1 ∨ (Value.slice A xs.length c).ownBlock = some k)) {g t : Nat} {cs : Array Value}
    (hg : W.heap[g]? = some (.cells cs t (0, 0))) (h1 : t ≠ 51) (h2 : t ≠ 26) : W'.heap[g]? = some (.cells cs t (0, 0)) := by
  refine (hk.2 g (blk_lt hg) ?_).trans hg
  rintro (he | he)
  · subst he
    have hb1 := h.b1
    rw [hg] at hb1
    injection hb1 with hb1
    injection hb1 with _ hb1
    exact h1 hb1
  · obtain ⟨cells, hc⟩ := Kd.R_typed h.row g he
    rw [hg] at hc
    injection hc with hc
    injection hc with _ hc
    exact h2 hc

/-! ### What it computes -/
def formS (l : List S31) : List S31 := (formF (l.map sp)).map mk
def okP (l : List S31) : Bool := decide (l.length ≤ 1000000) && l.all (fun x => decide (0 ≤ x.f0) && decide (x.f0 ≤ 4294967295) && decide (0 ≤ x.f1) && decide (x.f1 ≤ 4294967295))
def cutS (most : Int) (s : S31) : List Int := cutL most s.f0 ++ cutL most (s.f1 + 1)
def cutsP (most : Int) (sets : List (List S31)) : List Int := sets.flatMap fun l => (formS l).flatMap (cutS most)
def stepP (most : Int) (out : List S31) (x : Int) : List S31 := out.set (out.length - 1) ⟨(out.getD (out.length - 1) z31).f0, x - 1⟩ ++ [⟨x, most⟩]
def piecesP (most : Int) (st : List Int) : List S31 := st.foldl (stepP most) [⟨0, most⟩]
def startsP (most : Int) (sets : List (List S31)) : List Int := Lib.compact (sortU (cutsP most sets))
def spans_Pieces.f (most : Int) (sets : List (List S31)) : Option (List S31 × Int) :=
  if sets.length > 1024 then some ([], 1) else if sets.all okP = true ∧ 0 ≤ most ∧ most ≤ 4294967295 then
    (if (startsP most sets).length + 1 > 65536 then some ([], 1) else some (piecesP most (startsP most sets), 0)) else none

theorem okP_iff {l : List S31} (h : okP l = true) : l.length ≤ 1000000 ∧ ∀ s ∈ l.map sp, okS s := by
  unfold okP at h
  rw [Bool.and_eq_true] at h
  refine ⟨by simpa using h.1, fun s hs => ?_⟩
  obtain ⟨x, hx, rfl⟩ := List.mem_map.1 hs
  have := List.all_eq_true.1 h.2 x hx
  simp only [Bool.and_eq_true, decide_eq_true_eq] at this
  exact ⟨this.1.1.1, this.1.1.2, this.1.2, this.2⟩
theorem cutL_len (most x : Int) : (cutL most x).length ≤ 1 := by unfold cutL; split <;> simp
theorem cutS_len (most : Int) (s : S31) : (cutS most s).length ≤ 2 := by
  unfold cutS
  have h1 := cutL_len most s.f0
  have h2 := cutL_len most (s.f1 + 1)
  rw [List.length_append]; omega
theorem cutS_lens (most : Int) : ∀ F : List S31, (F.flatMap (cutS most)).length ≤ 2 * F.length
  | [] => by simp
  | s :: F => by
    have h1 := cutS_len most s
    have h2 := cutS_lens most F
    rw [List.flatMap_cons, List.length_append, List.length_cons]; omega
theorem formS_len (l : List S31) : (formS l).length ≤ l.length := by
  unfold formS
  have := form_len (l.map sp)
  rw [List.length_map] at this ⊢
  exact this
theorem cutsP_len (most : Int) : ∀ sets : List (List S31), sets.all okP = true → (cutsP most sets).length ≤ 2000000 * sets.length
  | [], _ => by simp [cutsP]
  | l :: sets, h => by
    rw [List.all_cons, Bool.and_eq_true] at h
    have h1 := cutS_lens most (formS l)
    have h2 := formS_len l
    have h3 := (okP_iff h.1).1
    have h4 := cutsP_len most sets h.2
    unfold cutsP at h4 ⊢
    rw [List.flatMap_cons, List.length_append, List.length_cons]; omega
theorem formS_ev {l : List S31} (h : okP l = true) : ∃ k, spans_Form.f k l = some (formS l) := by
  obtain ⟨h1, h2⟩ := okP_iff h
  obtain ⟨k, hk⟩ := (form_ev (l.map sp) h2 (by rw [List.length_map]; omega)).rounds
  rw [map_mk_sp] at hk
  exact ⟨k, hk⟩
theorem formS_ok {l : List S31} (h : okP l = true) : ∀ s ∈ formS l, (0 ≤ s.f0 ∧ s.f0 ≤ 4294967295) ∧ (0 ≤ s.f1 ∧ s.f1 ≤ 4294967295) := by
  intro s hs
  unfold formS at hs
  obtain ⟨t, ht, rfl⟩ := List.mem_map.1 hs
  have := form_okS (okP_iff h).2 t ht
  unfold okS at this
  exact ⟨⟨this.1, this.2.1⟩, this.2.2⟩

theorem cutL_mem {most x y : Int} (h : y ∈ cutL most x) : 0 < y ∧ y ≤ most := by
  unfold cutL at h
  split at h
  · rw [List.mem_singleton] at h; subst h; assumption
  · cases h
theorem cutsP_mem {most y : Int} {sets : List (List S31)} (h : y ∈ cutsP most sets) : 0 < y ∧ y ≤ most := by
  unfold cutsP at h
  obtain ⟨l, _, h⟩ := List.mem_flatMap.1 h
  obtain ⟨s, _, h⟩ := List.mem_flatMap.1 h
  unfold cutS at h
  rcases List.mem_append.1 h with h | h
  · exact cutL_mem h
  · exact cutL_mem h
theorem compact_mem {y : Int} {xs : List Int} (h : y ∈ Lib.compact xs) : y ∈ xs := by
  unfold Lib.compact Lib.compactUpTo at h
  obtain ⟨j, hj, rfl⟩ := List.mem_map.1 h
  have hj := List.mem_range.1 (List.mem_filter.1 hj).1
  have e : xs.toArray[j]! = xs[j] := by rw [getElem!_pos xs.toArray j (by simpa using hj)]; simp
  rw [e]
  exact List.getElem_mem hj
theorem startsP_mem {most y : Int} {sets : List (List S31)} (h : y ∈ startsP most sets) : 0 < y ∧ y ≤ most := by
  unfold startsP at h
  have h := compact_mem h
  unfold sortU at h
  rw [List.mem_mergeSort] at h
  exact cutsP_mem h
theorem storeHi {W : World} {base g n cap : Nat} {ok : Nat → Prop} {xs : List S31} (H : Kd.R k31 31 W base ok (.slice (some ⟨g, 0, none⟩) n cap) xs) (i : Nat) (hi : i < n) (v : Int) :
    Kd.R k31 31 (W.setCell ⟨g, i * 2 + 1, none⟩ (.int .u32 v)) base ok (.slice (some ⟨g, 0, none⟩) n cap) (xs.set i ⟨(xs.getD i z31).f0, v⟩) ∧ (∃ u : Int, W.cell? ⟨g, i * 2 + 1, none⟩ = some (.int .u32 u)) ∧ W.frozen? ⟨g, i * 2 + 1, none⟩ = false := by
  obtain ⟨c, hcl, hM, hcc, hf⟩ := Kd.R_elem H z31 (i : Int) (by omega) (by omega)
  obtain rfl := k31_openM hM
  have h1 := (Kd.R_seg H (i : Int) (by omega) (by omega) (seg := [.int .u32 v]) (j := 1) (okp := fun k => ok k ∧ k ≠ g) (x' := ⟨(xs.getD (i : Int).toNat z31).f0, v⟩) hcl hcc (by show 1 + 1 ≤ 2; omega) (k31_mkM _ _ _ (⟨(xs.getD (i : Int).toNat z31).f0, v⟩ : S31)) (fun k hk => hk)).1
  have h2 := hcc 1 _ rfl
  have h3 := hf 1
  rw [Int.toNat_natCast] at h1 h2 h3
  exact ⟨h1, ⟨_, h2⟩, h3⟩

theorem R_one31 (W : World) (base : Nat) (hb : base ≤ W.heap.size) (a b : Int) : Kd.R k31 31 (W.alloc (.cells #[.int .u32 a, .int .u32 b] 31)) base (fun _ => True) (.slice (some ⟨W.heap.size, 0, none⟩) 1 1) [(⟨a, b⟩ : S31)] :=
  ⟨fun _ _ => trivial, [.int .u32 a, .int .u32 b], ⟨rfl, Or.inr ⟨W.heap.size, 1, #[.int .u32 a, .int .u32 b], rfl, hb, blk_new W _, Nat.le_refl _, by unfold maxLen; omega, rfl, rfl⟩⟩, by
    have h := Reps.snoc (Reps.none (k31.M (W.alloc (.cells #[.int .u32 a, .int .u32 b] 31)) base (fun k => True ∧ some k ≠ (Value.slice (some ⟨W.heap.size, 0, none⟩) 1 1).ownBlock)) k31.sz) (k31_mkM _ _ _ (⟨a, b⟩ : S31)) rfl
    simpa using h⟩
/-- A number of the row of starts. -/
theorem cellU {W : World} {base g n cap : Nat} {ok : Nat → Prop} {xs : List Int} (H : Kd.R kU 26 W base ok (.slice (some ⟨g, 0, none⟩) n cap) xs) (i : Nat) (hi : i < xs.length) : W.cell? ⟨g, i, none⟩ = some (.int .u32 xs[i]) := by
  have hn := (Kd.R_reads' H).1
  obtain ⟨c, hcl, hM, hcc, hf⟩ := Kd.R_elem H 0 (i : Int) (by omega) (by omega)
  have hgd : xs.getD i 0 = xs[i] := by rw [List.getD_eq_getElem?_getD, List.getElem?_eq_getElem hi]; rfl
  rw [Int.toNat_natCast, hgd] at hM
  have hM' : c = [.int .u32 xs[i]] := hM
  have h := hcc 0 (.int .u32 xs[i]) (by rw [hM']; rfl)
  rw [Int.toNat_natCast] at h
  have e : i * kU.sz + 0 = i := by show i * 1 + 0 = i; omega
  rw [e] at h
  exact h
/-- What the building of the pieces holds. -/
structure QS (w : World) (most : Int) (W : World) (go co m : Nat) (out : List S31) (A : Option Addr) (c : Nat) (st : List Int) : Prop where
  b0 : W.heap[w.heap.size]? = some (.cells #[.int .u32 most] 26 (0, 0))
  out : Kd.R k31 31 W w.heap.size (fun _ => True) (.slice (some ⟨go, 0, none⟩) (m + 1) co) out
  st : Kd.R kU 26 W (w.heap.size + 2) (fun q => some q = (Value.slice A st.length c).ownBlock) (.slice A st.length c) st
  below : Below w.heap.size w W
theorem QS.set {w W : World} {most : Int} {go co m : Nat} {out : List S31} {A : Option Addr} {c : Nat} {st : List Int} (h : QS w most W go co m out A c st) (v : Int) :
    QS w most (W.setCell ⟨go, m * 2 + 1, none⟩ (.int .u32 v)) go co m (out.set m ⟨(out.getD m z31).f0, v⟩) A c st := by
  have h1 : some w.heap.size ≠ (Value.slice (some ⟨go, 0, none⟩) (m + 1) co).ownBlock := Kd.R_ne h.out h.b0 (by decide)
  have h2 : w.heap.size ≠ go := fun e => h1 (by rw [e]; rfl)
  refine ⟨blk_far h.b0 (p := ⟨go, m * 2 + 1, none⟩) h2 _, (storeHi h.out m (by omega) v).1, Kd.R_far h.st (p := ⟨go, m * 2 + 1, none⟩) (fun q hq => ?_) _, Below.setCell h.below (p := ⟨go, m * 2 + 1, none⟩) (Kd.R_base h.out go rfl) _⟩
  obtain ⟨cells, hc⟩ := Kd.R_typed h.st q hq.symm
  have h3 : some q ≠ (Value.slice (some ⟨go, 0, none⟩) (m + 1) co).ownBlock := Kd.R_ne h.out hc (by decide)
  exact fun e => h3 (by rw [e]; rfl)
theorem QS.grown {w W W' : World} {most : Int} {go co m g' c' m' : Nat} {out out' : List S31} {A : Option Addr} {c : Nat} {st : List Int} (h : QS w most W go co m out A c st) (hg : W.grownBy W' (Value.slice (some ⟨go, 0, none⟩) (m + 1) co).ownBlock)
    (hb : Below w.heap.size w W') (ho : Kd.R k31 31 W' w.heap.size (fun _ => True) (.slice (some ⟨g', 0, none⟩) (m' + 1) c') out') : QS w most W' g' c' m' out' A c st := by
  refine ⟨blk_grown h.b0 hg (Kd.R_ne h.out h.b0 (by decide)), ho, Kd.R_grown h.st hg (fun q hq => ?_), hb⟩
  obtain ⟨cells, hc⟩ := Kd.R_typed h.st q hq.symm
  exact Kd.R_ne h.out hc (by decide)
end Go.Proofs.Ytmoagoopdfpcnaa.Q

namespace Go.Proofs.Ytmoagoopdfpcnaa.Q
open Go.RowKit Go.Proofs.YtmoagoopdfpcnaaW.PrintWords Go.Proofs.YtmoagoopdfpcnaaW.PrintLast Go.Proofs.YtmoagoopdfpcnaaW.PrintMore Go.Proofs.Ytmoagoopdfpcnaa.SpMath
set_option linter.unusedVariables false
set_option linter.unusedSimpArgs false

theorem row_keeps {w W W' : World} {most : Int} {A : Option Addr} {c : Nat} {xs : List Int} (h : PS w most W A c xs) (hk : Kept W W' (fun k => k = w.heap.size + 1 ∨ (Value.slice A xs.length c).ownBlock = some k)) {base : Nat} {v : Value} {F : List S31}
    (hF : Kd.R k31 31 W base (fun q => some q = v.ownBlock) v F) : Kd.R k31 31 W' base (fun q => some q = v.ownBlock) v F :=
  Kd.R_step hF (fun q hq hlt => by
    obtain ⟨cells, hc⟩ := Kd.R_typed hF q hq.symm
    rw [h.keeps hk hc (by decide) (by decide), hc])

set_option maxHeartbeats 4000000 in
set_option maxRecDepth 100000 in
theorem pieces_ok (A1 : Option Addr) (c1 : Nat) (l1 : List (List S31)) (most : Int) (w : World) (hr1 : Kd.C (Kd.slice 31 k31) w A1 l1.length l1) (hc1 : l1.length ≤ c1) (hl : l1.length ≤ 1024) (ho : l1.all okP = true) (hm0 : 0 ≤ most) (hm : most ≤ 4294967295) (rv : List S31) (re : Int)
    (hres : (rv, re) = if (startsP most l1).length + 1 > 65536 then ([], 1) else (piecesP most (startsP most l1), 0)) :
    Calls Try.prog 55 #[.int .u32 most, .slice A1 l1.length c1] w fun e w' => ∃ v0_ : Value, e = .returned (.tuple #[v0_, .int .i64 re]) ∧ Kd.R k31 31 w' w.heap.size (fun _ => True) v0_ rv ∧ Below w.heap.size w w' := by
  have HRES := Aside0.mk hres
  clear hres
  have eg : ∀ args w, (callFunc 91 args).run Try.prog w = .ok (.enter 91 args) w := Go.Proofs.enters_of Try.func91 (by kernel_rfl) rfl
  have HR := Aside0.mk hr1
  have HO := Aside0.mk ho
  have hlb : decide ((1024 : Int) < (l1.length : Int)) = false := by simp; omega
  have P0 : Aside0 (∀ o, o = Obj.cells #[.int .u32 most] 26 → ∀ o', o' = Obj.cells #[.slice none 0 0] 51 → PS w most ((w.alloc o).alloc o') none 0 []) := ⟨by
    rintro o rfl o' rfl
    refine ⟨blk_alloc (blk_new w _) _, ?_, Kd.R_nil _ _ _ _ _, below_alloc (below_alloc (Below.refl _ _) _) _⟩
    have := blk_new (w.alloc (.cells #[.int .u32 most] 26)) (.cells #[.slice none 0 0] 51)
    simpa using this⟩
  clear hr1 ho
  go_enter Try.func55, Try.ntmps55
  go_wp2
  have PP := Aside0.mk (P0.out _ rfl _ rfl)
  clear P0
  go_loopg [21] l1.length (fun gg s21 wr => ∃ i : Nat, i ≤ l1.length ∧ l1.length - i ≤ gg ∧ s21 = .int .i64 i ∧ ∃ (A : Option Addr) (c : Nat), Aside0 (PS w most wr A c (cutsP most (l1.take i))))
  case atStart => exact ⟨0, Nat.zero_le _, by omega, rfl, none, 0, ⟨by rw [List.take_zero]; exact PP.out⟩⟩
  case round =>
    clear PP
    obtain ⟨i, hil, hig, rfl, A, c, HP⟩ := hrel
    by_cases hlt : i < l1.length
    · have hltb : decide ((i : Int) < (l1.length : Int)) = true := decide_eq_true (by omega)
      obtain ⟨ad, A0, c0, rfl, hz, hc0, hC0⟩ := at_L12 (Kd.C_below HR.out HP.out.below) (i : Int) (by omega) (by omega)
      have hrd : rd_L12 l1 (i : Int) = l1[i] := by unfold rd_L12; rw [Int.toNat_natCast, List.getD_eq_getElem?_getD, List.getElem?_eq_getElem hlt]; rfl
      rw [hrd] at hz hc0 hC0
      rw [Int.toNat_natCast] at hz
      have hok : okP l1[i] = true := List.all_eq_true.1 HO.out _ (List.getElem_mem hlt)
      obtain ⟨kf, hkf⟩ := formS_ev hok
      have hbd := formS_ok hok
      have hFl : (formS l1[i]).length ≤ 1000000 := Nat.le_trans (formS_len _) (okP_iff hok).1
      have hXl : (cutsP most (l1.take i)).length ≤ 2000000 * 1024 := by
        have h1 := cutsP_len most (l1.take i) (List.all_eq_true.2 (fun x hx => List.all_eq_true.1 HO.out x (List.mem_of_mem_take hx)))
        rw [List.length_take] at h1; omega
      have hNX : cutsP most (l1.take (i + 1)) = cutsP most (l1.take i) ++ (formS l1[i]).flatMap (cutS most) := by
        unfold cutsP
        rw [List.take_succ_eq_append_getElem hlt, List.flatMap_append]; simp
      have NX := Aside0.mk hNX
      have hcall := spans_Form.calls kf A0 c0 l1[i] (formS l1[i]) wr hC0 hc0 hkf
      generalize formS l1[i] = F at hcall hbd hFl NX
      generalize cutsP most (l1.take i) = X at HP hXl NX
      have HC := Aside0.mk hcall
      have BD := Aside0.mk hbd
      clear hcall hbd hrd hC0 hok hkf hNX
      generalize l1[i] = l at hz hc0 HC
      go_wp2_with (go_at_call 47; refine HC.out.mono ?_; rintro e w3 ⟨v3, rfl, ho3, hb3⟩; obtain ⟨Af, cf, rfl, hcf, hCf⟩ := Kd.R_reads ho3; have HP3 := Aside0.mk (HP.out.beyond hb3); have HF := Aside0.mk (Kd.R_tight rfl ho3); clear ho3 hb3 hCf)
      go_loopg [28] F.length (fun gg s28 wr2 => ∃ j : Nat, j ≤ F.length ∧ F.length - j ≤ gg ∧ s28 = .int .i64 j ∧ (∃ (A : Option Addr) (c : Nat), Aside0 (PS w most wr2 A c (X ++ (F.take j).flatMap (cutS most)))) ∧ Aside0 (Kd.R k31 31 wr2 wr.heap.size (fun q => some q = (Value.slice Af F.length cf).ownBlock) (.slice Af F.length cf) F))
      case atStart => exact ⟨0, Nat.zero_le _, by omega, rfl, ⟨A, c, ⟨by rw [List.take_zero, List.flatMap_nil, List.append_nil]; exact HP3.out⟩⟩, HF⟩
      case round =>
        clear HP3 HF HC
        obtain ⟨j, hjl, hjg, rfl, ⟨A5, c5, HP5⟩, HF5⟩ := hrel
        by_cases hjt : j < F.length
        · have hjb : decide ((j : Int) < (F.length : Int)) = true := decide_eq_true (by omega)
          have hCF := (Kd.R_reads' HF5.out).2.2
          obtain ⟨ag, rfl, x0, x1⟩ := at_T31 hCF (j : Int) (by omega) (by omega)
          have hy : rd_T31 F (j : Int) = F[j] := by unfold rd_T31; rw [Int.toNat_natCast, List.getD_eq_getElem?_getD, List.getElem?_eq_getElem hjt]; rfl
          rw [hy] at x0 x1
          rw [Int.toNat_natCast] at x0 x1
          obtain ⟨⟨y0, y1⟩, y2, y3⟩ := BD.out F[j] (List.getElem_mem hjt)
          have hNX : X ++ (F.take (j + 1)).flatMap (cutS most) = X ++ (F.take j).flatMap (cutS most) ++ cutL most F[j].f0 ++ cutL most (F[j].f1 + 1) := by
            rw [List.take_succ_eq_append_getElem hjt, List.flatMap_append]
            simp [cutS]
          have hYl : (X ++ (F.take j).flatMap (cutS most)).length ≤ 10000000000 := by
            have h1 := cutS_lens most (F.take j)
            rw [List.length_take] at h1
            rw [List.length_append]; omega
          have NY := Aside0.mk hNX
          clear hNX hy hCF
          generalize X ++ (F.take j).flatMap (cutS most) = Y at HP5 hYl NY
          generalize F[j] = y at x0 x1 y0 y1 y2 y3 NY
          have hc1 := cutL_len most y.f0
          have hY2 : (Y ++ cutL most y.f0).length ≤ 100000000000 := by rw [List.length_append]; omega
          have hu1 : IntKind.u64.wrap y.f0 = y.f0 := by simp [IntKind.wrap, IntKind.bits, IntKind.signed]; omega
          have hu2 : IntKind.u64.wrap y.f1 = y.f1 := by simp [IntKind.wrap, IntKind.bits, IntKind.signed]; omega
          have hu3 : IntKind.u64.wrap (y.f1 + 1) = y.f1 + 1 := by simp [IntKind.wrap, IntKind.bits, IntKind.signed]; omega
          have hC1 := Aside0.mk (fun o => cut_calls w (wr.alloc o) most y.f0 A5 c5 Y (HP5.out.alloc o) hm0 hm (by omega) (by omega) (by omega))
          have hC2 := Aside0.mk (fun W A c (h : PS w most W A c (Y ++ cutL most y.f0)) => cut_calls w W most (y.f1 + 1) A c _ h hm0 hm (by omega) (by omega) (by omega))
          have tok1 : True := trivial
          have tok2 : True := trivial
          go_wp2_with (first | (go_at_fn 91; have _t := tok1; refine (hC1.out _).mono ?_; clear tok1 _t; rintro e w4 ⟨rfl, ⟨A4, c4, hP4⟩, hK4⟩; have HP4 := Aside0.mk hP4; have hb4 : Aside0 (w4.heap[wr.heap.size]? = some (.cells #[.int .u32 y.f0, .int .u32 y.f1] 31)) := ⟨(HP5.out.alloc _).keeps hK4 (blk_new wr _) (by decide) (by decide)⟩; have HF4 := Aside0.mk (row_keeps (HP5.out.alloc _) hK4 (Kd.R_alloc HF5.out _)); have z1 : w4.cell? ⟨wr.heap.size, 1, none⟩ = some (.int .u32 y.f1) := (blk_cell hb4.out 1).trans rfl; clear hP4 hK4) | (go_at_fn 91; have _t := tok2; refine (hC2.out w4 A4 c4 HP4.out).mono ?_; clear tok2 _t; rintro e w6 ⟨rfl, ⟨A6, c6, hP6⟩, hK6⟩; have HP6 := Aside0.mk hP6; have HF6 := Aside0.mk (row_keeps HP4.out hK6 HF4.out); clear hP6 hK6))
          go_roundg (F.length - (j + 1))
          case measure => omega
          case rel => exact ⟨j + 1, by omega, by omega, by go_num, ⟨A6, c6, ⟨by rw [NY.out]; exact HP6.out⟩⟩, HF6⟩
        · have hj : j = F.length := by omega
          subst hj
          have hjb : decide (((F.length : Nat) : Int) < ((F.length : Nat) : Int)) = false := decide_eq_false (by omega)
          clear HF5
          go_wp2
          go_roundg (l1.length - (i + 1))
          case measure => omega
          case rel => exact ⟨i + 1, by omega, by omega, by go_num, A5, c5, ⟨by rw [NX.out]; have h := HP5.out; rw [List.take_length] at h; exact h⟩⟩
    · have hi : i = l1.length := by omega
      subst hi
      have hltb : decide (((l1.length : Nat) : Int) < ((l1.length : Nat) : Int)) = false := decide_eq_false (by omega)
      have hXl : (cutsP most l1).length ≤ 2000000 * 1024 := by have h1 := cutsP_len most l1 HO.out; omega
      have hstl : (startsP most l1).length ≤ 2000000 * 1024 := by
        have h1 := compact_len (sortU (cutsP most l1))
        have h2 : (sortU (cutsP most l1)).length = (cutsP most l1).length := by unfold sortU; simp
        unfold startsP; omega
      have HM := Aside0.mk (fun y (h : y ∈ startsP most l1) => startsP_mem h)
      have hst : startsP most l1 = Lib.compact (sortU (cutsP most l1)) := rfl
      have HST := Aside0.mk hst
      rw [List.take_length] at HP
      clear hst eg
      generalize startsP most l1 = st at HM HST HRES hstl
      generalize cutsP most l1 = X at HP hXl HST
      have k1 : wr.cell? ⟨w.heap.size + 1, 0, none⟩ = some (.slice A X.length c) := (blk_cell HP.out.b1 0).trans rfl
      have hS := Aside0.mk (slices_Sort_uint32_uint32.own (w.heap.size + 2) (fun _ => True) (.slice A X.length c) X wr wr (Below.refl _ _) HP.out.row (by omega))
      have hlX : (sortU X).length = X.length := by unfold sortU; simp
      have hlA := Aside0.mk hlX
      clear hlX
      have hbw := Aside0.mk (HP.out.below)
      have hlt2 := HP.out.lt
      by_cases h7 : st.length + 1 > 65536
      · have hR1 := HRES.out
        rw [if_pos h7] at hR1
        obtain ⟨rfl, rfl⟩ := Prod.mk.inj hR1
        clear hR1
        have h7b : decide ((65536 : Int) < (st.length : Int) + 1) = true := decide_eq_true (by omega)
        go_wp2_with (first | (go_at_call 92; refine hS.out.mono ?_; rintro e w7 ⟨rfl, hr7, hb7, hk7⟩; have hr7A := Aside0.mk hr7; have hb7A := Aside0.mk hb7; have b17 : Aside0 (w7.heap[w.heap.size + 1]? = some (.cells #[.slice A X.length c] 51 (0, 0))) := ⟨(hb7.block _ (by omega)).trans HP.out.b1⟩; have k7 : w7.cell? ⟨w.heap.size + 1, 0, none⟩ = some (.slice A X.length c) := (blk_cell b17.out 0).trans rfl; clear hr7 hb7 hk7) | (go_at_call 93; refine (slices_Compact_uint32_uint32.own (w.heap.size + 2) (fun _ => True) (.slice A X.length c) (sortU X) w7 w7 (Below.refl _ _) hr7A.out).mono ?_; rintro e w8 ⟨v8, rfl, ho8, hr8, hb8, hk8⟩; rw [← HST.out] at hr8; obtain ⟨A8, c8, rfl, hc8, hC8⟩ := Kd.R_reads hr8; have hr8A := Aside0.mk hr8; have hb8A := Aside0.mk hb8; have b18 : Aside0 (w8.heap[w.heap.size + 1]? = some (.cells #[.slice A X.length c] 51 (0, 0))) := ⟨(hb8.block _ (by omega)).trans b17.out⟩; have k8 : w8.cell? ⟨w.heap.size + 1, 0, none⟩ = some (.slice A X.length c) := (blk_cell b18.out 0).trans rfl; have hz8 : w.heap.size + 1 < w8.heap.size := blk_lt b18.out; have f8 : w8.frozen? ⟨w.heap.size + 1, 0, none⟩ = false := blk_frozen b18.out 0; have b08 : Aside0 (w8.heap[w.heap.size]? = some (.cells #[.int .u32 most] 26 (0, 0))) := ⟨(hb8.block _ (by omega)).trans ((hb7A.out.block _ (by omega)).trans HP.out.b0)⟩; have k08 : w8.cell? ⟨w.heap.size, 0, none⟩ = some (.int .u32 most) := (blk_cell b08.out 0).trans rfl; clear hr8 hb8 hk8 hC8 ho8))
        go_ret2
        exact ⟨_, rfl, Kd.R_nil _ _ _ _ _, Below.setCell (p := ⟨w.heap.size + 1, 0, none⟩) (hbw.out.trans ((hb7A.out.trans (hb8A.out)).mono (by omega))) (by show w.heap.size ≤ w.heap.size + 1; omega) _⟩
      · have hR1 := HRES.out
        rw [if_neg h7] at hR1
        have hre : re = 0 := (Prod.mk.inj hR1).2
        subst hre
        have HRV := Aside0.mk (Prod.mk.inj hR1).1
        clear hR1
        have h7b : decide ((65536 : Int) < (st.length : Int) + 1) = false := decide_eq_false (by omega)
        go_wp2_with (first | (go_at_call 92; refine hS.out.mono ?_; rintro e w7 ⟨rfl, hr7, hb7, hk7⟩; have hr7A := Aside0.mk hr7; have hb7A := Aside0.mk hb7; have b17 : Aside0 (w7.heap[w.heap.size + 1]? = some (.cells #[.slice A X.length c] 51 (0, 0))) := ⟨(hb7.block _ (by omega)).trans HP.out.b1⟩; have k7 : w7.cell? ⟨w.heap.size + 1, 0, none⟩ = some (.slice A X.length c) := (blk_cell b17.out 0).trans rfl; clear hr7 hb7 hk7) | (go_at_call 93; refine (slices_Compact_uint32_uint32.own (w.heap.size + 2) (fun _ => True) (.slice A X.length c) (sortU X) w7 w7 (Below.refl _ _) hr7A.out).mono ?_; rintro e w8 ⟨v8, rfl, ho8, hr8, hb8, hk8⟩; rw [← HST.out] at hr8; obtain ⟨A8, c8, rfl, hc8, hC8⟩ := Kd.R_reads hr8; have hr8A := Aside0.mk hr8; have hb8A := Aside0.mk hb8; have b18 : Aside0 (w8.heap[w.heap.size + 1]? = some (.cells #[.slice A X.length c] 51 (0, 0))) := ⟨(hb8.block _ (by omega)).trans b17.out⟩; have k8 : w8.cell? ⟨w.heap.size + 1, 0, none⟩ = some (.slice A X.length c) := (blk_cell b18.out 0).trans rfl; have hz8 : w.heap.size + 1 < w8.heap.size := blk_lt b18.out; have f8 : w8.frozen? ⟨w.heap.size + 1, 0, none⟩ = false := blk_frozen b18.out 0; have b08 : Aside0 (w8.heap[w.heap.size]? = some (.cells #[.int .u32 most] 26 (0, 0))) := ⟨(hb8.block _ (by omega)).trans ((hb7A.out.block _ (by omega)).trans HP.out.b0)⟩; have k08 : w8.cell? ⟨w.heap.size, 0, none⟩ = some (.int .u32 most) := (blk_cell b08.out 0).trans rfl; clear hr8 hb8 hk8 hC8 ho8))
        have Q0 : Aside0 (QS w most ((w8.setCell ⟨w.heap.size + 1, 0, none⟩ (.slice A8 st.length c8)).alloc (.cells #[.int .u32 0, .int .u32 most] 31)) w8.heap.size 1 0 [⟨0, most⟩] A8 c8 st) := ⟨by
          have hB9 : Below w.heap.size w (w8.setCell ⟨w.heap.size + 1, 0, none⟩ (.slice A8 st.length c8)) := Below.setCell (p := ⟨w.heap.size + 1, 0, none⟩) (hbw.out.trans ((hb7A.out.trans (hb8A.out)).mono (by omega))) (by show w.heap.size ≤ w.heap.size + 1; omega) _
          have hO := R_one31 (w8.setCell ⟨w.heap.size + 1, 0, none⟩ (.slice A8 st.length c8)) w.heap.size hB9.size 0 most
          rw [World.size_setCell] at hO
          refine ⟨blk_alloc (blk_far b08.out (p := ⟨w.heap.size + 1, 0, none⟩) (by show w.heap.size ≠ w.heap.size + 1; omega) _) _, hO, Kd.R_alloc (Kd.R_far (Kd.R_tight rfl hr8A.out) (p := ⟨w.heap.size + 1, 0, none⟩) (fun q hq => ?_) _) _, below_alloc hB9 _⟩
          have := Kd.R_base hr8A.out q hq.symm
          show q ≠ w.heap.size + 1
          omega⟩
        go_loopg [12, 58] st.length (fun gg s12 s58 wr2 => ∃ (m go co : Nat) (out : List S31), m ≤ st.length ∧ st.length - m ≤ gg ∧ s58 = .int .i64 m ∧ s12 = .slice (some ⟨go, 0, none⟩) (m + 1) co ∧ Aside0 (out = (st.take m).foldl (stepP most) [⟨0, most⟩] ∧ out.length = m + 1) ∧ Aside0 (QS w most wr2 go co m out A8 c8 st))
        case atStart => exact ⟨0, _, 1, _, Nat.zero_le _, by omega, rfl, rfl, ⟨by rw [List.take_zero]; rfl, rfl⟩, Q0⟩
        case round =>
          clear Q0
          obtain ⟨m, go, co, out, hml, hmg, rfl, rfl, HO2, HQ⟩ := hrel
          by_cases hmt : m < st.length
          · have hmb : decide ((m : Int) < (st.length : Int)) = true := decide_eq_true (by omega)
            obtain ⟨gs, cs, es, hgsb, hgsl, hgsc⟩ := Kd.R_form HQ.out.st (by omega)
            injection es with es1 es2 es3
            clear es2 es3 hgsc
            subst es1
            have z1 := cellU HQ.out.st m hmt
            have hx := HM.out st[m] (List.getElem_mem hmt)
            have hNS : (st.take (m + 1)).foldl (stepP most) [⟨0, most⟩] = stepP most ((st.take m).foldl (stepP most) [⟨0, most⟩]) st[m] := by
              rw [List.take_succ_eq_append_getElem hmt, List.foldl_append]; rfl
            have NS := Aside0.mk hNS
            clear hNS
            generalize st[m] = x at z1 hx NS
            have k0 : wr.cell? ⟨w.heap.size, 0, none⟩ = some (.int .u32 most) := (blk_cell HQ.out.b0 0).trans rfl
            have hne : w.heap.size ≠ go := fun e => (show some w.heap.size ≠ (Value.slice (some ⟨go, 0, none⟩) (m + 1) co).ownBlock from Kd.R_ne HQ.out.out HQ.out.b0 (by decide)) (by rw [e]; rfl)
            obtain ⟨_, ⟨uo, z2⟩, f2⟩ := storeHi HQ.out.out m (by omega) 0
            have hu1 : IntKind.u32.wrap (x - 1) = x - 1 := by simp [IntKind.wrap, IntKind.bits, IntKind.signed]; omega
            have Q1 := Aside0.mk (HQ.out.set (x - 1))
            have hol : out.length = m + 1 := HO2.out.2
            have hsl : (out.set m ⟨(out.getD m z31).f0, x - 1⟩).length = m + 1 := by rw [List.length_set]; exact hol
            have HSL := Aside0.mk hsl
            have HOL := Aside0.mk hol
            have haL : ((out.set m ⟨(out.getD m z31).f0, x - 1⟩).length + 1) * 8 ≤ 140737488355328 := by omega
            have HAL := Aside0.mk haL
            clear hsl hol haL
            go_wp2_with (first | ((with_reducible refine gate_builtin (b := .append) (xs := #[.tmp 70, .tmp 74]) rfl ?_); at_builtin; refine Kd.R_append k31 (w0 := w) w.heap.size rfl (.tmp 70) (.tmp 74) 71 31 (.agg #[(.int .u32 0), (.int .u32 0)]) 8 rfl Try.underlying71 info31 rfl (by decide) (by omega) (.slice (some ⟨go, 0, none⟩) (m + 1) co) (out.set m ⟨(out.getD m z31).f0, x - 1⟩) (⟨x, most⟩ : S31) [.int .u32 x, .int .u32 most] (fun _ => True) (fun _ => False) rfl ?aX (k31_mkM _ _ _ (⟨x, most⟩ : S31)) (fun _ hk => hk.elim) (fun _ _ => trivial) Q1.out.out Q1.out.below Q1.out.below.size HAL.out ?_; (case aX => rw [World.size_setCell]; rfl); intro v9 w9 ho9 hb9 hg9 hat9; obtain ⟨g9, c9, e9, hgb9, hgl9, hgc9⟩ := Kd.R_form ho9 (by simp); have eL9 : (out.set m ⟨(out.getD m z31).f0, x - 1⟩ ++ [(⟨x, most⟩ : S31)]).length = m + 1 + 1 := (by rw [List.length_append, HSL.out]; rfl); rw [eL9] at e9; subst e9; have Q2 := Aside0.mk (Q1.out.grown hg9 hb9 ho9); clear hat9 ho9 hb9 hg9 hgc9 eL9))
            go_roundg (st.length - (m + 1))
            case measure => omega
            case rel =>
              refine ⟨m + 1, g9, c9, out.set m ⟨(out.getD m z31).f0, x - 1⟩ ++ [(⟨x, most⟩ : S31)], by omega, by omega, by go_num, rfl, ⟨?_, ?_⟩, Q2⟩
              · rw [NS.out, ← HO2.out.1]
                unfold stepP
                rw [HOL.out, Nat.add_sub_cancel]
              · rw [List.length_append, HSL.out]; rfl
          · have hm' : m = st.length := by omega
            subst hm'
            have hmb : decide (((st.length : Nat) : Int) < ((st.length : Nat) : Int)) = false := decide_eq_false (by omega)
            go_wp2
            go_ret2
            refine ⟨_, rfl, ?_, HQ.out.below⟩
            have h1 := HO2.out.1
            rw [List.take_length] at h1
            have h2 := HQ.out.out
            rw [HRV.out]
            unfold piecesP
            rw [← h1]
            exact h2

set_option maxHeartbeats 1000000 in
set_option maxRecDepth 100000 in
theorem spans_Pieces.calls (a0 : Int) (A1 : Option Addr) (c1 : Nat) (l1 : List (List S31)) (r1 : List S31) (r2 : Int) (w : World) (hr1 : Kd.C (Kd.slice 31 k31) w A1 l1.length l1) (hc1 : l1.length ≤ c1) (h : spans_Pieces.f a0 l1 = some (r1, r2)) :
    Calls Try.prog 55 #[.int .u32 a0, .slice A1 l1.length c1] w fun e w' => ∃ v0_ : Value, e = .returned (.tuple #[v0_, .int .i64 r2]) ∧ Kd.R k31 31 w' w.heap.size (fun _ => True) v0_ r1 ∧ Below w.heap.size w w' := by
  unfold spans_Pieces.f at h
  by_cases h1 : l1.length > 1024
  · rw [if_pos h1] at h
    obtain ⟨rfl, rfl⟩ := Prod.mk.inj (Option.some.inj h)
    have hlb : decide ((1024 : Int) < (l1.length : Int)) = true := by simp; omega
    have hB : Below w.heap.size w (w.alloc (.cells #[.int .u32 a0] 26)) := below_alloc (Below.refl _ _) _
    have HB := Aside0.mk hB
    clear h h1 hr1 hB
    go_enter Try.func55, Try.ntmps55
    go_wp2
    go_ret2
    exact ⟨_, rfl, Kd.R_nil _ _ _ _ _, HB.out⟩
  · rw [if_neg h1] at h
    by_cases h2 : l1.all okP = true ∧ 0 ≤ a0 ∧ a0 ≤ 4294967295
    · rw [if_pos h2] at h
      exact pieces_ok A1 c1 l1 a0 w hr1 hc1 (by omega) h2.1 h2.2.1 h2.2.2 r1 r2 (by
        split at h
        · rename_i h3; rw [if_pos h3]; exact (Option.some.inj h).symm
        · rename_i h3; rw [if_neg h3]; exact (Option.some.inj h).symm)
    · rw [if_neg h2] at h; cases h
end Go.Proofs.Ytmoagoopdfpcnaa.Q
