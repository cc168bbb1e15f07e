/- filter.Parse answers the rule read. -/
import Derived.Test.YtmoagoopdfpcnaaDoorEFLawB
import Derived.Test.YtmoagoopdfpcnaaDoorFParseF
namespace Go.Proofs.YtmoagoopdfpcnaaDoor.Q
open Go.RowKit Go.Proofs.YtmoagoopdfpcnaaDoorW.PrintWords Go.Proofs.YtmoagoopdfpcnaaDoor.Txt
set_option linter.unusedVariables false
set_option linter.unusedSimpArgs false

theorem okU_bounds {B : Nat} {l : List UInt8} {u : Int} (h : okU B l = some u) : 0 ≤ u ∧ u ≤ (2 ^ B - 1 : Nat) := by
  obtain ⟨v, rfl, _, hv⟩ := okU_some h
  exact ⟨by omega, by omega⟩
theorem ends_range (l : List UInt8) : (0 ≤ (endsF l).1 ∧ (endsF l).1 ≤ 65535) ∧ (0 ≤ (endsF l).2 ∧ (endsF l).2 ≤ 65535) := by
  unfold endsF
  have e : ((2 ^ 16 - 1 : Nat) : Int) = 65535 := by decide
  split
  · rename_i a b ha hb
    have h1 := okU_bounds ha
    have h2 := okU_bounds hb
    rw [e] at h1 h2
    exact ⟨h1, h2⟩
  · exact ⟨⟨by decide, by decide⟩, by decide, by decide⟩
abbrev outR (r : Rule) : Bool × Int × Int × Int × Int × Int × Int × Int × Int × Int × Int := (r.permit, r.proto, r.src.1, r.src.2, r.dst.1, r.dst.2, r.sp.1, r.sp.2, r.dp.1, r.dp.2, 0)
abbrev outZ : Bool × Int × Int × Int × Int × Int × Int × Int × Int × Int × Int := (false, 0, 0, 0, 0, 0, 0, 0, 0, 0, 4)
/-- The last part: from the words 2 and 3 on. -/
def tailF (s w2 w3 : List UInt8) (q : Bool) (p : Int) (sp dp : Int × Int) : Option Rule :=
  (prefF w2).bind fun src => (prefF w3).bind fun dst => if mayF ⟨q, p, src, dst, sp, dp⟩ = true ∧ ruleB ⟨q, p, src, dst, sp, dp⟩ = s then some ⟨q, p, src, dst, sp, dp⟩ else none
theorem tail_some {s : ByteArray} {w0 w1 w2 w3 w4 w5 : ByteArray} (h2 : w2.size < 4294967281) (h3 : w3.size < 4294967281) (q : Bool) (p : Int) (sp dp : Int × Int) (hs : 0 ≤ sp.1) (hd : 0 ≤ dp.1) {k : Nat} (hk : 5 ≤ k) :
    filter_ParseK.j0 (k + 1) s [w0, w1, w2, w3, w4, w5] q p 0 0 0 0 sp.1 sp.2 dp.1 dp.2 = some (match tailF (bl s) (bl w2) (bl w3) q p sp dp with | some r => outR r | none => outZ) := by
  obtain ⟨e2, hp2, ne2⟩ := prefix_some h2 hk
  obtain ⟨e3, hp3, ne3⟩ := prefix_some h3 hk
  have r2 : rdOf ByteArray.empty [w0, w1, w2, w3, w4, w5] 2 = w2 := rfl
  have r3 : rdOf ByteArray.empty [w0, w1, w2, w3, w4, w5] 3 = w3 := rfl
  have kz : ∀ (r : Rule), kindR r → ∃ t e, filter_Text.f k r.permit r.proto r.src.1 r.src.2 r.dst.1 r.dst.2 r.sp.1 r.sp.2 r.dp.1 r.dp.2 = some (t, e) := by
    intro r hr
    cases hm : mayF r with
    | true => exact ⟨_, _, text_good (by omega) hr hm⟩
    | false => exact ⟨_, _, text_bad (by omega) hr hm⟩
  rw [filter_ParseK.j0, if_pos (by simp only [List.length_cons, List.length_nil]; omega), r2, hp2]
  simp only [Option.bind_some]
  rw [if_pos (by simp only [List.length_cons, List.length_nil]; omega), r3, hp3]
  simp only [Option.bind_some]
  unfold tailF
  cases hq2 : prefF (bl w2) with
  | none =>
    cases hq3 : prefF (bl w3) with
    | none =>
      obtain ⟨t, e, ht⟩ := kz ⟨q, p, (0, 0), (0, 0), sp, dp⟩ ⟨⟨Int.le_refl 0, by show (0 : Int) ≤ 4294967295; decide⟩, ⟨Int.le_refl 0, by show (0 : Int) ≤ 4294967295; decide⟩, hs, hd⟩
      simp only at ht
      simp only [ht, Option.bind_some, Option.bind_none, ne2, if_false]
    | some b =>
      have hb := prefF_range hq3
      obtain ⟨t, e, ht⟩ := kz ⟨q, p, (0, 0), b, sp, dp⟩ ⟨⟨Int.le_refl 0, by show (0 : Int) ≤ 4294967295; decide⟩, ⟨hb.1, hb.2.1⟩, hs, hd⟩
      simp only at ht
      simp only [ht, Option.bind_some, Option.bind_none, ne2, if_false]
  | some a =>
    have ha := prefF_range hq2
    cases hq3 : prefF (bl w3) with
    | none =>
      obtain ⟨t, e, ht⟩ := kz ⟨q, p, a, (0, 0), sp, dp⟩ ⟨⟨ha.1, ha.2.1⟩, ⟨Int.le_refl 0, by show (0 : Int) ≤ 4294967295; decide⟩, hs, hd⟩
      simp only at ht
      simp only [ht, Option.bind_some, Option.bind_none, ne3, if_false, if_true]
    | some b =>
      have hb := prefF_range hq3
      have hr : kindR ⟨q, p, a, b, sp, dp⟩ := ⟨⟨ha.1, ha.2.1⟩, ⟨hb.1, hb.2.1⟩, hs, hd⟩
      cases hm : mayF ⟨q, p, a, b, sp, dp⟩ with
      | false =>
        have ht := text_bad (k := k) (by omega) hr hm
        simp only at ht
        simp [ht, hm]
      | true =>
        have ht := text_good (k := k) (by omega) hr hm
        simp only at ht
        simp only [ht, Option.bind_some, if_true, toList_eq, bl_mk, hm, true_and]
        by_cases he : ruleB ⟨q, p, a, b, sp, dp⟩ = bl s
        · rw [if_pos he, if_pos he]
        · rw [if_neg he, if_neg he]
theorem okU_w64 {l : List UInt8} {u : Int} (h : okU 8 l = some u) : wrap64 u = u := by
  have := okU_bounds h
  have e : ((2 ^ 8 - 1 : Nat) : Int) = 255 := by decide
  rw [e] at this
  exact w64 (by omega) (by omega)
theorem ruleF_six {s w0 w1 w2 w3 w4 w5 : List UInt8} (h : Lib.split s [32] = [w0, w1, w2, w3, w4, w5]) : ruleF s = if w1 = sAny then tailF s w2 w3 (decide (w0 = sPermit)) (-1) (endsF w4) (endsF w5) else (okU 8 w1).bind fun n => tailF s w2 w3 (decide (w0 = sPermit)) n (endsF w4) (endsF w5) := by
  unfold ruleF ruleOf tailF
  rw [h]
  simp only
  by_cases ha : w1 = sAny
  · simp only [ha, if_true, Option.bind_some]
  · simp only [ha, if_false]
    cases okU 8 w1 with
    | none =>
      simp only [Option.bind_none]
      cases prefF w2 with
      | none => rfl
      | some a => simp only [Option.bind_some]; cases prefF w3 <;> rfl
    | some n => simp only [Option.bind_some]
theorem parseK_some {s : ByteArray} (hs : s.size < 4294967281) {k : Nat} (hk : 6 ≤ k) : filter_ParseK.f k s = some (match ruleF (bl s) with | some r => outR r | none => outZ) := by
  obtain ⟨ws, hw, hb⟩ := split_f hs 32
  have hz : ∀ w ∈ ws, w.size < 4294967281 := fun w h => by have := word_size hb h; omega
  obtain ⟨k, rfl⟩ : ∃ j, k = j + 1 := ⟨k - 1, by omega⟩
  unfold filter_ParseK.f
  rw [hw]
  simp only [Option.bind_some]
  by_cases hl : ws.length = 6
  · match ws, hl, hz with
    | [w0, w1, w2, w3, w4, w5], _, hz =>
      have six : Lib.split (bl s) [32] = [bl w0, bl w1, bl w2, bl w3, bl w4, bl w5] := by rw [← hb]; rfl
      rw [ruleF_six six]
      have r0 : rdOf ByteArray.empty [w0, w1, w2, w3, w4, w5] 0 = w0 := rfl
      have r1 : rdOf ByteArray.empty [w0, w1, w2, w3, w4, w5] 1 = w1 := rfl
      have r4 : rdOf ByteArray.empty [w0, w1, w2, w3, w4, w5] 4 = w4 := rfl
      have r5 : rdOf ByteArray.empty [w0, w1, w2, w3, w4, w5] 5 = w5 := rfl
      have hE4 : filter_ends.f w4 = some (endsF (bl w4)) := by unfold filter_ends.f; rw [if_pos (hz w4 (by simp))]
      have hE5 : filter_ends.f w5 = some (endsF (bl w5)) := by unfold filter_ends.f; rw [if_pos (hz w5 (by simp))]
      rw [if_pos (by rfl), if_pos (by simp only [List.length_cons, List.length_nil]; omega), if_pos (by simp only [List.length_cons, List.length_nil]; omega), r4, hE4]
      simp only [Option.bind_some]
      rw [if_pos (by simp only [List.length_cons, List.length_nil]; omega), r5, hE5]
      simp only [Option.bind_some]
      rw [if_pos (by simp only [List.length_cons, List.length_nil]; omega), r0, r1]
      have e0 : (w0.toList == ([112, 101, 114, 109, 105, 116] : List UInt8)) = decide (bl w0 = sPermit) := by
        have := eq_bytes sPermit w0
        have e : (⟨sPermit.toArray⟩ : ByteArray).toList = sPermit := ByteArray.toList_eq _
        rw [e] at this
        rw [Bool.beq_comm]
        rw [show ([112, 101, 114, 109, 105, 116] : List UInt8) = sPermit from rfl, this]
        by_cases hh : sPermit = bl w0
        · rw [decide_eq_true hh, decide_eq_true hh.symm]
        · rw [decide_eq_false hh, decide_eq_false (fun h => hh h.symm)]
      have e1 : (w1.toList = ([97, 110, 121] : List UInt8)) = (bl w1 = sAny) := by
        have := toList_eq w1 ⟨sAny.toArray⟩
        rw [bl_mk] at this
        have e : (⟨sAny.toArray⟩ : ByteArray).toList = sAny := ByteArray.toList_eq _
        rw [e] at this
        exact this
      rw [e0]
      have t4 := ends_range (bl w4)
      have t5 := ends_range (bl w5)
      by_cases ha : bl w1 = sAny
      · rw [if_pos (e1 ▸ ha), if_pos ha]
        exact tail_some (hz w2 (by simp)) (hz w3 (by simp)) _ _ _ _ t4.1.1 t5.1.1 (by omega)
      · rw [if_neg (by rw [e1]; exact ha), if_neg ha]
        unfold strconv_ParseUint.f
        rw [if_pos ⟨rfl, Or.inl rfl, by have := hz w1 (by simp); omega⟩]
        have e8 : (8 : Int).toNat = 8 := rfl
        rw [e8]
        cases hu : okU 8 (bl w1) with
        | none => rfl
        | some u =>
          simp only [Option.bind_some, Option.isNone_none, if_true]
          rw [okU_w64 hu]
          exact tail_some (hz w2 (by simp)) (hz w3 (by simp)) _ _ _ _ t4.1.1 t5.1.1 (by omega)
  · rw [if_neg (by omega)]
    have : ruleF (bl s) = none := by
      unfold ruleF
      rw [← hb]
      split
      · rename_i heq
        exfalso
        apply hl
        have := congrArg List.length heq
        simpa using this
      · rfl
    rw [this]
theorem rule_says {s : List UInt8} {r : Rule} (h : ruleF s = some r) : mayF r = true ∧ ruleB r = s ∧ kindR r := by
  unfold ruleF at h
  split at h
  · simp only [Option.bind_eq_some_iff] at h
    obtain ⟨src, hs, dst, hd, q, hq, h⟩ := h
    split at h
    · rename_i hc
      cases h
      refine ⟨hc.1, hc.2, ?_⟩
      unfold ruleOf at hq
      have r1 := prefF_range hs
      have r2 := prefF_range hd
      split at hq
      · cases hq
        exact ⟨⟨r1.1, r1.2.1⟩, ⟨r2.1, r2.2.1⟩, (ends_range _).1.1, (ends_range _).1.1⟩
      · simp only [Option.bind_eq_some_iff] at hq
        obtain ⟨n, hn, hq⟩ := hq
        cases hq
        exact ⟨⟨r1.1, r1.2.1⟩, ⟨r2.1, r2.2.1⟩, (ends_range _).1.1, (ends_range _).1.1⟩
    · cases h
  · cases h
end Go.Proofs.YtmoagoopdfpcnaaDoor.Q
