/- What the printed functions of addresses and prefixes answer, said by the plain readers. -/
import Derived.Test.YtmoagoopdfpcnaaDoorEFilter
import Derived.Test.YtmoagoopdfpcnaaDoorQx12
import Derived.Test.YtmoagoopdfpcnaaDoorQx15
import Derived.Test.YtmoagoopdfpcnaaDoorEAText
import Derived.Test.YtmoagoopdfpcnaaDoorEEnds
import Derived.Lib.SplitLaws
namespace Go.Proofs.YtmoagoopdfpcnaaDoor.Q
open Go.RowKit Go.Proofs.YtmoagoopdfpcnaaDoorW.PrintWords Go.Proofs.YtmoagoopdfpcnaaDoor.Txt
set_option linter.unusedVariables false
set_option linter.unusedSimpArgs false

abbrev bl (s : ByteArray) : List UInt8 := s.data.toList
theorem bl_len (s : ByteArray) : (bl s).length = s.size := Array.length_toList
theorem bl_mk (l : List UInt8) : bl ⟨l.toArray⟩ = l := by simp [bl]
theorem mk_bl (s : ByteArray) : (⟨(bl s).toArray⟩ : ByteArray) = s := by apply ByteArray.ext; simp [bl]
theorem toList_eq (a b : ByteArray) : (a.toList = b.toList) = (bl a = bl b) := by
  have h := eq_bytes (bl a) b
  rw [mk_bl] at h
  by_cases h2 : bl a = bl b
  · rw [decide_eq_true h2, beq_iff_eq] at h; simp [h, h2]
  · rw [decide_eq_false h2] at h
    have := beq_eq_false_iff_ne.1 h
    simp [this, h2]

/-! ### Check -/
theorem behind_pow (b : Int) (h0 : 0 ≤ b) (h1 : b ≤ 32) : behindP b = 2 ^ (32 - b.toNat) - 1 := by
  have h : (List.range 33).all (fun n => behindP (n : Int) == 2 ^ (32 - n) - 1) = true := by kernel_rfl
  have := beq_iff_eq.1 (List.all_eq_true.1 h b.toNat (List.mem_range.2 (by omega)))
  rw [show ((b.toNat : Nat) : Int) = b by omega] at this
  exact this
theorem chk_checkP {a b : Int} (h0 : 0 ≤ a) (h1 : a ≤ 4294967295) : decide (chk a b = 0) = checkP (a, b) := by
  unfold chk checkP
  by_cases hb : b < 0 ∨ b > 32
  · rw [if_pos hb]
    have : ¬ (0 ≤ b ∧ b ≤ 32) := by omega
    simp [this]
  · rw [if_neg hb]
    have hb' : 0 ≤ b ∧ b ≤ 32 := by omega
    rw [behind_pow b hb'.1 hb'.2, bits_mask .u32 32 (by decide) wraps_u32 (32 - b.toNat) (by omega) a h0 (by omega)]
    have e : ((2 ^ (32 - b.toNat) : Nat) : Int) = (2 : Int) ^ (32 - b.toNat) := by push_cast; rfl
    simp only [hb', and_self, decide_true, Bool.true_and]
    rw [e]
    by_cases hz : a % 2 ^ (32 - b.toNat) = 0 <;> simp [hz]
theorem check_k {k : Nat} (hk : 1 ≤ k) (a b : Int) : addr_Check.f k a b = some (chk a b) := at_rounds (addr_Check.mono a b) hk (check_some a b)

/-! ### Numbers -/
theorem number_good {s : ByteArray} {most n : Int} (hs : s.size ≤ 281474976710656) (h : numF most (bl s) = some n) : addr_number.f s most = some (n, true) := by
  unfold numF at h
  unfold addr_number.f
  rw [if_pos hs]
  show (match Lib.atoiAll (bl s) with | .ok v => some (v, decide (0 ≤ v) && decide (v ≤ most) && decide (Lib.itoa v = bl s)) | _ => some (badN (bl s), false)) = _
  cases hq : Lib.atoiAll (bl s) with
  | ok v =>
    rw [hq] at h
    simp only at h
    split at h
    · rename_i hc
      obtain ⟨c0, c1, c2⟩ := hc
      cases h
      simp only [c0, c1, c2, decide_true, Bool.and_self]
    · cases h
  | _ => rw [hq] at h; cases h
theorem number_bad {s : ByteArray} {most : Int} (hs : s.size ≤ 281474976710656) (h : numF most (bl s) = none) : ∃ v, addr_number.f s most = some (v, false) := by
  unfold numF at h
  unfold addr_number.f
  rw [if_pos hs]
  show ∃ v, (match Lib.atoiAll (bl s) with | .ok v => some (v, decide (0 ≤ v) && decide (v ≤ most) && decide (Lib.itoa v = bl s)) | _ => some (badN (bl s), false)) = _
  cases hq : Lib.atoiAll (bl s) with
  | ok v =>
    rw [hq] at h
    simp only at h
    split at h
    · cases h
    · rename_i hc
      refine ⟨v, ?_⟩
      simp only [Option.some.injEq, Prod.mk.injEq, true_and]
      by_cases c0 : 0 ≤ v <;> by_cases c1 : v ≤ most <;> by_cases c2 : Lib.itoa v = bl s <;> simp [c0, c1, c2]
      exact absurd ⟨c0, c1, c2⟩ hc
  | _ => exact ⟨_, rfl⟩
theorem numF_range {most n : Int} {l : List UInt8} (h : numF most l = some n) : 0 ≤ n ∧ n ≤ most := by
  unfold numF at h
  split at h
  · split at h
    · rename_i hc; cases h; exact ⟨hc.1, hc.2.1⟩
    · cases h
  · cases h

/-! ### Splits -/
theorem split_f {s : ByteArray} (hs : s.size < 4294967281) (c : UInt8) : ∃ ws, strings_Split.f s ⟨#[c]⟩ = some ws ∧ ws.map bl = Lib.split (bl s) [c] := by
  refine ⟨_, if_pos ⟨hs, Nat.le_refl 1⟩, ?_⟩
  exact (Lib.splitB_data ⟨#[c]⟩ 0 _ s)
theorem join_len_mem {sep : List UInt8} : ∀ {xs : List (List UInt8)} {x : List UInt8}, x ∈ xs → x.length ≤ (Lib.join xs sep).length
  | [a], x, h => by rw [List.mem_singleton] at h; subst h; rw [join_single]; exact Nat.le_refl _
  | a :: b :: xs, x, h => by
    rw [join_cons2]
    simp only [List.length_append]
    rcases List.mem_cons.1 h with rfl | h
    · omega
    · have := join_len_mem (sep := sep) h; omega
theorem splitK_len (sep : List UInt8) (save : Nat) : ∀ (k : Nat) (s x : List UInt8), save = 0 → x ∈ Lib.splitK sep save k s → x.length ≤ s.length
  | 0, s, x, h0, h => by unfold Lib.splitK at h; rw [List.mem_singleton] at h; subst h; exact Nat.le_refl _
  | k + 1, s, x, h0, h => by
    unfold Lib.splitK at h
    split at h
    · rw [List.mem_singleton] at h; subst h; exact Nat.le_refl _
    · rcases List.mem_cons.1 h with rfl | h
      · rw [List.length_take]; omega
      · have := splitK_len sep save k _ x h0 h
        rw [List.length_drop] at this; omega
theorem word_size {s : ByteArray} {c : UInt8} {ws : List ByteArray} (h : ws.map bl = Lib.split (bl s) [c]) {w : ByteArray} (hw : w ∈ ws) : w.size ≤ s.size := by
  have hm : bl w ∈ Lib.split (bl s) [c] := by rw [← h]; exact List.mem_map_of_mem hw
  have := splitK_len [c] 0 _ _ _ rfl hm
  rw [bl_len, bl_len] at this; exact this

/-! ### Addresses -/
theorem or8 {x n : Int} (h0 : 0 ≤ x) (h1 : x ≤ 16777215) (h2 : 0 ≤ n) (h3 : n ≤ 255) : Go.bits .or .u32 ((x * 256) % 4294967296) (n % 4294967296) = x * 256 + n := by
  rw [Int.emod_eq_of_lt (a := x * 256) (by omega) (by omega), Int.emod_eq_of_lt (a := n) h2 (by omega)]
  exact u32_or8 (by omega) (by omega) (by omega) h2 (by omega)
theorem parse_step {k : Nat} {ws : List ByteArray} {x i : Int} (h0 : 0 ≤ i) (h4 : i < 4) (hl : ws.length = 4) : addr_Parse.l0 (k + 1) ws x i = (addr_number.f (rdOf ByteArray.empty ws i) 255).bind fun bt => if bt.2 = true then addr_Parse.l0 k ws (Go.bits .or .u32 ((x * 256) % 4294967296) ((bt.1) % 4294967296)) (wrap64 (i + 1)) else some (0, 4) := by
  rw [addr_Parse.l0, if_pos h4, if_pos h0, if_pos (by omega)]
theorem parse_end {k : Nat} {ws : List ByteArray} {x : Int} : addr_Parse.l0 (k + 1) ws x 4 = some (x, 0) := by
  rw [addr_Parse.l0, if_neg (by omega)]
theorem parse_some {s : ByteArray} (hs : s.size < 4294967281) : addr_Parse.f 5 s = some (match addrF (bl s) with | some a => (a, 0) | none => (0, 4)) := by
  obtain ⟨ws, hw, hb⟩ := split_f hs 46
  have hz : ∀ w ∈ ws, w.size ≤ 281474976710656 := fun w h => by have := word_size hb h; omega
  have w1 : wrap64 (0 + 1) = 1 := by unfold wrap64; omega
  have w2 : wrap64 (1 + 1) = 2 := by unfold wrap64; omega
  have w3 : wrap64 (2 + 1) = 3 := by unfold wrap64; omega
  have w4 : wrap64 (3 + 1) = 4 := by unfold wrap64; omega
  unfold addr_Parse.f addrF
  rw [hw, ← hb]
  simp only [Option.bind_some]
  match ws, hz with
  | [], _ => rfl
  | [_], _ => rfl
  | [_, _], _ => rfl
  | [_, _, _], _ => rfl
  | _ :: _ :: _ :: _ :: _ :: t, _ =>
    rw [if_neg (by simp only [List.length_cons]; omega)]
    rfl
  | [a, b, c, d], hz =>
    rw [if_pos (by rfl)]
    have ra : rdOf ByteArray.empty [a, b, c, d] 0 = a := rfl
    have rb : rdOf ByteArray.empty [a, b, c, d] 1 = b := rfl
    have rc : rdOf ByteArray.empty [a, b, c, d] 2 = c := rfl
    have rd : rdOf ByteArray.empty [a, b, c, d] 3 = d := rfl
    simp only [List.map_cons, List.map_nil]
    rw [parse_step (by omega) (by omega) rfl, ra]
    cases ha : numF 255 (bl a) with
    | none =>
      obtain ⟨v, hv⟩ := number_bad (hz a (by simp)) ha
      rw [hv]; rfl
    | some x =>
      obtain ⟨x0, x1⟩ := numF_range ha
      rw [number_good (hz a (by simp)) ha]
      simp only [Option.bind_some, if_true]
      rw [or8 (by omega) (by omega) x0 x1, w1, parse_step (by omega) (by omega) rfl, rb]
      cases hb2 : numF 255 (bl b) with
      | none =>
        obtain ⟨v, hv⟩ := number_bad (hz b (by simp)) hb2
        rw [hv]; rfl
      | some y =>
        obtain ⟨y0, y1⟩ := numF_range hb2
        rw [number_good (hz b (by simp)) hb2]
        simp only [Option.bind_some, if_true]
        rw [or8 (by omega) (by omega) y0 y1, w2, parse_step (by omega) (by omega) rfl, rc]
        cases hc : numF 255 (bl c) with
        | none =>
          obtain ⟨v, hv⟩ := number_bad (hz c (by simp)) hc
          rw [hv]; rfl
        | some z =>
          obtain ⟨z0, z1⟩ := numF_range hc
          rw [number_good (hz c (by simp)) hc]
          simp only [Option.bind_some, if_true]
          rw [or8 (by omega) (by omega) z0 z1, w3, parse_step (by omega) (by omega) rfl, rd]
          cases hd : numF 255 (bl d) with
          | none =>
            obtain ⟨v, hv⟩ := number_bad (hz d (by simp)) hd
            rw [hv]; rfl
          | some t =>
            obtain ⟨t0, t1⟩ := numF_range hd
            rw [number_good (hz d (by simp)) hd]
            simp only [Option.bind_some, if_true]
            rw [or8 (by omega) (by omega) t0 t1, w4, parse_end]
            simp only [Option.some.injEq, Prod.mk.injEq, and_true]
            omega
theorem addrF_range {l : List UInt8} {a : Int} (h : addrF l = some a) : 0 ≤ a ∧ a ≤ 4294967295 := by
  unfold addrF at h
  split at h
  · simp only [Option.bind_eq_some_iff, Option.some.injEq] at h
    obtain ⟨x, hx, y, hy, z, hz, t, ht, rfl⟩ := h
    have := numF_range hx; have := numF_range hy; have := numF_range hz; have := numF_range ht
    omega
  · cases h

/-! ### Prefixes -/
def prefR (s : List UInt8) : Int × Int × Int := match prefF s with
  | some p => (p.1, p.2, 0)
  | none => (0, 0, 4)
theorem prefF_range {l : List UInt8} {p : Int × Int} (h : prefF l = some p) : 0 ≤ p.1 ∧ p.1 ≤ 4294967295 ∧ checkP p = true := by
  unfold prefF at h
  split at h
  · simp only [Option.bind_eq_some_iff] at h
    obtain ⟨a, ha, b, hb, h⟩ := h
    split at h
    · rename_i hc
      cases h
      have := addrF_range ha
      exact ⟨this.1, this.2, hc⟩
    · cases h
  · cases h
theorem pp_step (k : Nat) (x b : Int) (e : Bool) : addr_ParsePrefix.j0 (k + 2) x b e = if e = true then some (0, 0, 4) else if chk x b = 0 then some (x, b, 0) else some (0, 0, chk x b) := by
  rw [addr_ParsePrefix.j0, check_k (by omega)]
  rfl
theorem prefix_some {s : ByteArray} (hs : s.size < 4294967281) {k : Nat} (hk : 5 ≤ k) : ∃ e, addr_ParsePrefix.f k s = some (match prefF (bl s) with | some p => (p.1, p.2, 0) | none => (0, 0, e)) ∧ e ≠ 0 := by
  have hz := cut_size (bl s) [47]
  rw [bl_len] at hz
  have zA : (⟨(Lib.cut (bl s) [47]).1.toArray⟩ : ByteArray).size < 4294967281 := by rw [ba_size]; omega
  have zB : (⟨(Lib.cut (bl s) [47]).2.1.toArray⟩ : ByteArray).size ≤ 281474976710656 := by rw [ba_size]; omega
  have hP := at_rounds (addr_Parse.mono ⟨(Lib.cut (bl s) [47]).1.toArray⟩) hk (parse_some zA)
  obtain ⟨k, rfl⟩ : ∃ j, k = j + 2 := ⟨k - 2, by omega⟩
  have hcut : strings_Cut.f s ⟨#[47]⟩ = some (⟨(Lib.cut (bl s) [47]).1.toArray⟩, ⟨(Lib.cut (bl s) [47]).2.1.toArray⟩, (Lib.cut (bl s) [47]).2.2) := by
    unfold strings_Cut.f; rw [if_pos hs]
  rw [bl_mk] at hP
  unfold addr_ParsePrefix.f prefF
  rw [hcut]
  simp only [Option.bind_some]
  rw [hP]
  simp only [Option.bind_some]
  cases hF : (Lib.cut (bl s) [47]).2.2 with
  | false =>
    refine ⟨4, ?_, by decide⟩
    cases hn : numF 32 (Lib.cut (bl s) [47]).2.1 with
    | none =>
      obtain ⟨v, hv⟩ := number_bad zB (by rw [bl_mk]; exact hn)
      rw [hv]; simp [pp_step]
    | some n =>
      rw [number_good zB (by rw [bl_mk]; exact hn)]; simp [pp_step]
  | true =>
    cases hn : numF 32 (Lib.cut (bl s) [47]).2.1 with
    | none =>
      refine ⟨4, ?_, by decide⟩
      obtain ⟨v, hv⟩ := number_bad zB (by rw [bl_mk]; exact hn)
      rw [hv]
      cases hA : addrF (Lib.cut (bl s) [47]).1 <;> simp [pp_step]
    | some n =>
      rw [number_good zB (by rw [bl_mk]; exact hn)]
      cases hA : addrF (Lib.cut (bl s) [47]).1 with
      | none => exact ⟨4, by simp [pp_step], by decide⟩
      | some a =>
        have hr := addrF_range hA
        have hc := chk_checkP (a := a) (b := n) hr.1 hr.2
        by_cases h0 : chk a n = 0
        · rw [decide_eq_true h0] at hc
          exact ⟨4, by simp [pp_step, h0, ← hc], by decide⟩
        · rw [decide_eq_false h0] at hc
          exact ⟨chk a n, by simp [pp_step, h0, ← hc], h0⟩
end Go.Proofs.YtmoagoopdfpcnaaDoor.Q
