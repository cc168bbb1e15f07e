/- lists.Text, lists.Parse: a community's text, and what is read out of any text. -/
import Derived.Test.YtmoagoopdfpcnaaDoorQx10
import Derived.Test.YtmoagoopdfpcnaaDoorEPu
import Derived.Lib.ItoaLen
namespace Go.Proofs.YtmoagoopdfpcnaaDoor.Q
open Go.RowKit Go.Proofs.YtmoagoopdfpcnaaDoorW.PrintWords Go.Proofs.YtmoagoopdfpcnaaDoor.Txt
set_option linter.unusedVariables false
set_option linter.unusedSimpArgs false

theorem ba_append (a b : List UInt8) : (⟨a.toArray⟩ : ByteArray) ++ (⟨b.toArray⟩ : ByteArray) = ⟨(a ++ b).toArray⟩ := by
  apply ByteArray.ext
  simp
theorem ba_size (a : List UInt8) : (⟨a.toArray⟩ : ByteArray).size = a.length := by simp [ByteArray.size]
theorem w64 {n : Int} (h0 : -9223372036854775808 ≤ n) (h1 : n ≤ 9223372036854775807) : wrap64 n = n := by unfold wrap64; omega
theorem itoa_short {n : Int} (h0 : 0 ≤ n) (h1 : n ≤ 4294967295) : (Lib.itoa n).length ≤ 21 := Lib.itoa_length_le n (by omega) (by omega)
theorem itoa_some {n : Int} (h0 : 0 ≤ n) (h1 : n ≤ 4294967295) : strconv_Itoa.f n = some ⟨(Lib.itoa n).toArray⟩ := by
  unfold strconv_Itoa.f
  rw [if_pos ⟨by omega, by omega⟩]
theorem lists_Text_some {c : Int} (h0 : 0 ≤ c) (h1 : c ≤ 4294967295) : lists_Text.f c = some ⟨(comT c).toArray⟩ := by
  unfold lists_Text.f
  rw [w64 (by omega) (by omega), u32_and16 h0 (by omega), w64 (by omega) (by omega), itoa_some (by omega) (by omega), itoa_some (by omega) (by omega)]
  have a := itoa_short (n := c / 65536) (by omega) (by omega)
  have b := itoa_short (n := c % 65536) (by omega) (by omega)
  simp only [Option.bind_some]
  rw [if_pos (by rw [ba_size]; omega)]
  have e : (⟨(Lib.itoa (c / 65536)).toArray⟩ : ByteArray) ++ (⟨#[58]⟩ : ByteArray) = ⟨(Lib.itoa (c / 65536) ++ [58]).toArray⟩ := ba_append _ [58]
  rw [e, if_pos (by rw [ba_size, ba_size, List.length_append]; simp; omega), ba_append]
  unfold comT
  rw [List.append_assoc]; rfl

def lists_Parse.f (a0 : ByteArray) : Option (Int × Int) :=
  if a0.size < 4294967281 then (match comF a0.data.toList with
    | some c => some (c, 0)
    | none => some (0, 4)) else none

theorem cut_size (s sep : List UInt8) : (Lib.cut s sep).1.length ≤ s.length ∧ (Lib.cut s sep).2.1.length ≤ s.length := by
  unfold Lib.cut
  split
  · simp; omega
  · simp

set_option maxHeartbeats 2000000 in
set_option maxRecDepth 100000 in
theorem lists_Parse.calls (a0 : ByteArray) (r1 r2 : Int) (w : World) (hG : Gs w) (h : lists_Parse.f a0 = some (r1, r2)) :
    Calls Tryd.prog 11 #[.string a0] w fun e w' => e = .returned (.tuple #[.int .u32 r1, .int .i64 r2]) ∧ Below w.heap.size w w' := by
  unfold lists_Parse.f at h
  split at h
  · rename_i hs
    have hC := strings_Cut.calls a0 ⟨#[58]⟩ ⟨(Lib.cut a0.data.toList [58]).1.toArray⟩ ⟨(Lib.cut a0.data.toList [58]).2.1.toArray⟩ (Lib.cut a0.data.toList [58]).2.2 w hG (by unfold strings_Cut.f; rw [if_pos hs])
    have hz := cut_size a0.data.toList [58]
    have hal : a0.data.toList.length = a0.size := Array.length_toList
    have zA : (⟨(Lib.cut a0.data.toList [58]).1.toArray⟩ : ByteArray).size ≤ 281474976710656 := by rw [ba_size]; omega
    have zB : (⟨(Lib.cut a0.data.toList [58]).2.1.toArray⟩ : ByteArray).size ≤ 281474976710656 := by rw [ba_size]; omega
    cases hA : okU 16 (Lib.cut a0.data.toList [58]).1 with
    | none =>
      have hr : comF a0.data.toList = none := by unfold comF; rw [hA]; rfl
      rw [hr] at h
      simp only [Option.some.injEq, Prod.mk.injEq] at h
      obtain ⟨rfl, rfl⟩ := h
      have hPA := fun (W : World) (hb : Below w.heap.size w W) => pu_bad16 ⟨(Lib.cut a0.data.toList [58]).1.toArray⟩ zA hA W (hG.below hb)
      have hPB : ∀ (W : World), Below w.heap.size w W → Calls Tryd.prog 42 #[.string ⟨(Lib.cut a0.data.toList [58]).2.1.toArray⟩, .int .i64 10, .int .i64 16] W fun e w' => ∃ (x : Int) (v : Value), e = .returned (.tuple #[.int .u64 x, v]) ∧ Below W.heap.size W w' := fun W hb => by
        cases hB : okU 16 (Lib.cut a0.data.toList [58]).2.1 with
        | none => exact (pu_bad16 ⟨(Lib.cut a0.data.toList [58]).2.1.toArray⟩ zB hB W (hG.below hb)).mono fun e w' ⟨x, N, he, hb⟩ => ⟨x, _, he, hb⟩
        | some u => exact (pu_good16 ⟨(Lib.cut a0.data.toList [58]).2.1.toArray⟩ zB u hB W).mono fun e w' ⟨he, hb⟩ => ⟨u, _, he, hb⟩
      clear hG hA hr hz hal zA zB
      generalize (⟨(Lib.cut a0.data.toList [58]).1.toArray⟩ : ByteArray) = sA at *
      generalize (⟨(Lib.cut a0.data.toList [58]).2.1.toArray⟩ : ByteArray) = sB at *
      generalize (Lib.cut a0.data.toList [58]).2.2 = tw at *
      go_enter Tryd.func11, Tryd.ntmps11
      go_wp2_with (first | (go_at_call 41; refine hC.mono ?_; rintro e w1 ⟨rfl, hb1⟩; clear hC) | (go_at_call 42; refine (hPA _ hb1).mono ?_; rintro e w2 ⟨x, N, rfl, hb2⟩; have hb2' := hb1.trans (hb2.mono hb1.size); clear hPA) | (go_at_call 42; refine (hPB _ hb2').mono ?_; rintro e w3 ⟨y, v, rfl, hb3⟩; clear hPB))
      go_ret2
      exact ⟨rfl, hb2'.trans (hb3.mono hb2'.size)⟩
    | some m =>
      cases hB : okU 16 (Lib.cut a0.data.toList [58]).2.1 with
      | none =>
        have hr : comF a0.data.toList = none := by unfold comF; rw [hA, hB]; rfl
        rw [hr] at h
        simp only [Option.some.injEq, Prod.mk.injEq] at h
        obtain ⟨rfl, rfl⟩ := h
        have hPA := fun (W : World) (hb : Below w.heap.size w W) => pu_good16 ⟨(Lib.cut a0.data.toList [58]).1.toArray⟩ zA m hA W
        have hPB := fun (W : World) (hb : Below w.heap.size w W) => pu_bad16 ⟨(Lib.cut a0.data.toList [58]).2.1.toArray⟩ zB hB W (hG.below hb)
        clear hG hA hB hr hz hal zA zB
        generalize (⟨(Lib.cut a0.data.toList [58]).1.toArray⟩ : ByteArray) = sA at *
        generalize (⟨(Lib.cut a0.data.toList [58]).2.1.toArray⟩ : ByteArray) = sB at *
        generalize (Lib.cut a0.data.toList [58]).2.2 = tw at *
        go_enter Tryd.func11, Tryd.ntmps11
        go_wp2_with (first | (go_at_call 41; refine hC.mono ?_; rintro e w1 ⟨rfl, hb1⟩; clear hC) | (go_at_call 42; refine (hPA _ hb1).mono ?_; rintro e w2 ⟨rfl, hb2⟩; have hb2' := hb1.trans (hb2.mono hb1.size); clear hPA) | (go_at_call 42; refine (hPB _ hb2').mono ?_; rintro e w3 ⟨y, v, rfl, hb3⟩; clear hPB))
        go_ret2
        exact ⟨rfl, hb2'.trans (hb3.mono hb2'.size)⟩
      | some n =>
        have hPA := fun (W : World) (hb : Below w.heap.size w W) => pu_good16 ⟨(Lib.cut a0.data.toList [58]).1.toArray⟩ zA m hA W
        have hPB := fun (W : World) (hb : Below w.heap.size w W) => pu_good16 ⟨(Lib.cut a0.data.toList [58]).2.1.toArray⟩ zB n hB W
        obtain ⟨m', rfl, _, hm⟩ := okU_some hA
        obtain ⟨n', rfl, _, hn⟩ := okU_some hB
        have e16 : (2 : Nat) ^ 16 - 1 = 65535 := by decide
        rw [e16] at hm hn
        have hT := fun (W : World) (hb : Below w.heap.size w W) => lists_Text.calls ((m' : Int) * 65536 + n') ⟨(comT ((m' : Int) * 65536 + n')).toArray⟩ W (hG.below hb).gl (lists_Text_some (by omega) (by omega))
        have hE := eq_bytes (comT ((m' : Int) * 65536 + n')) a0
        have hr : comF a0.data.toList = if comT ((m' : Int) * 65536 + n') = a0.data.toList then some ((m' : Int) * 65536 + n') else none := by unfold comF; rw [hA, hB]; rfl
        rw [hr] at h
        have k1 : IntKind.u32.wrap (m' : Int) = (m' : Int) := wraps_u32 _ (by omega) (by omega)
        have k2 : IntKind.u32.wrap (n' : Int) = (n' : Int) := wraps_u32 _ (by omega) (by omega)
        have k3 : IntKind.u32.wrap ((m' : Int) * 65536) = (m' : Int) * 65536 := wraps_u32 _ (by omega) (by omega)
        have k4 : bits .or .u32 ((m' : Int) * 65536) (n' : Int) = (m' : Int) * 65536 + n' := u32_or16 (by omega) (by omega) (by omega) (by omega) (by omega)
        clear hG hA hB hr hz hal zA zB
        generalize (⟨(Lib.cut a0.data.toList [58]).1.toArray⟩ : ByteArray) = sA at *
        generalize (⟨(Lib.cut a0.data.toList [58]).2.1.toArray⟩ : ByteArray) = sB at *
        generalize (Lib.cut a0.data.toList [58]).2.2 = tw at *
        by_cases hq : comT ((m' : Int) * 65536 + n') = a0.data.toList
        · rw [if_pos hq] at h
          simp only [Option.some.injEq, Prod.mk.injEq] at h
          obtain ⟨rfl, rfl⟩ := h
          rw [decide_eq_true hq] at hE
          have hE2 : ((⟨(comT ((m' : Int) * 65536 + n')).toArray⟩ : ByteArray).toList != a0.toList) = false := by rw [bne, hE]; rfl
          clear hq hE
          generalize (⟨(comT ((m' : Int) * 65536 + n')).toArray⟩ : ByteArray) = sT at *
          have hE3 := show (!(sT.toList == a0.toList)) = _ from hE2
          go_enter Tryd.func11, Tryd.ntmps11
          go_wp2_with (first | (go_at_call 41; refine hC.mono ?_; rintro e w1 ⟨rfl, hb1⟩; clear hC) | (go_at_call 42; refine (hPA _ hb1).mono ?_; rintro e w2 ⟨rfl, hb2⟩; have hb2' := hb1.trans (hb2.mono hb1.size); clear hPA) | (go_at_call 42; refine (hPB _ hb2').mono ?_; rintro e w3 ⟨rfl, hb3⟩; have hb3' := hb2'.trans (hb3.mono hb2'.size); clear hPB) | (go_at_call 16; refine (hT _ hb3').mono ?_; rintro e w4 ⟨rfl, hb4⟩; clear hT))
          go_ret2
          exact ⟨rfl, hb3'.trans (hb4.mono hb3'.size)⟩
        · rw [if_neg hq] at h
          simp only [Option.some.injEq, Prod.mk.injEq] at h
          obtain ⟨rfl, rfl⟩ := h
          rw [decide_eq_false hq] at hE
          have hE2 : ((⟨(comT ((m' : Int) * 65536 + n')).toArray⟩ : ByteArray).toList != a0.toList) = true := by rw [bne, hE]; rfl
          clear hq hE
          generalize (⟨(comT ((m' : Int) * 65536 + n')).toArray⟩ : ByteArray) = sT at *
          have hE3 := show (!(sT.toList == a0.toList)) = _ from hE2
          go_enter Tryd.func11, Tryd.ntmps11
          go_wp2_with (first | (go_at_call 41; refine hC.mono ?_; rintro e w1 ⟨rfl, hb1⟩; clear hC) | (go_at_call 42; refine (hPA _ hb1).mono ?_; rintro e w2 ⟨rfl, hb2⟩; have hb2' := hb1.trans (hb2.mono hb1.size); clear hPA) | (go_at_call 42; refine (hPB _ hb2').mono ?_; rintro e w3 ⟨rfl, hb3⟩; have hb3' := hb2'.trans (hb3.mono hb2'.size); clear hPB) | (go_at_call 16; refine (hT _ hb3').mono ?_; rintro e w4 ⟨rfl, hb4⟩; clear hT))
          go_ret2
          exact ⟨rfl, hb3'.trans (hb4.mono hb3'.size)⟩
  · cases h
end Go.Proofs.YtmoagoopdfpcnaaDoor.Q
