/- Bytes, words of a text: what the set's text and its reader ask. (A light copy of parts of ELParse, EFLawA, EFLawC: never import both.) -/
import Derived.Test.YtmoagoopdfpcnaaDoorEPu
import Derived.Lib.ItoaLen
import Derived.Lib.SplitLaws
namespace Go.Proofs.YtmoagoopdfpcnaaDoor.Q
open Go.RowKit Go.Proofs.YtmoagoopdfpcnaaDoorW.PrintWords Go.Proofs.YtmoagoopdfpcnaaDoor.Txt
set_option linter.unusedVariables false
set_option linter.unusedSimpArgs false
theorem ba_append (a b : List UInt8) : (⟨a.toArray⟩ : ByteArray) ++ (⟨b.toArray⟩ : ByteArray) = ⟨(a ++ b).toArray⟩ := by
  apply ByteArray.ext
  simp
theorem ba_size (a : List UInt8) : (⟨a.toArray⟩ : ByteArray).size = a.length := by simp [ByteArray.size]
theorem itoa_short {n : Int} (h0 : 0 ≤ n) (h1 : n ≤ 4294967295) : (Lib.itoa n).length ≤ 21 := Lib.itoa_length_le n (by omega) (by omega)
theorem cut_size (s sep : List UInt8) : (Lib.cut s sep).1.length ≤ s.length ∧ (Lib.cut s sep).2.1.length ≤ s.length := by
  unfold Lib.cut
  split
  · simp; omega
  · simp

abbrev bl (s : ByteArray) : List UInt8 := s.data.toList
theorem bl_len (s : ByteArray) : (bl s).length = s.size := Array.length_toList
theorem bl_mk (l : List UInt8) : bl ⟨l.toArray⟩ = l := by simp [bl]
theorem mk_bl (s : ByteArray) : (⟨(bl s).toArray⟩ : ByteArray) = s := by apply ByteArray.ext; simp [bl]
theorem toList_eq (a b : ByteArray) : (a.toList = b.toList) = (bl a = bl b) := by
  have h := eq_bytes (bl a) b
  rw [mk_bl] at h
  by_cases h2 : bl a = bl b
  · rw [decide_eq_true h2, beq_iff_eq] at h; simp [h, h2]
  · rw [decide_eq_false h2] at h
    have := beq_eq_false_iff_ne.1 h
    simp [this, h2]

theorem split_f {s : ByteArray} (hs : s.size < 4294967281) (c : UInt8) : ∃ ws, strings_Split.f s ⟨#[c]⟩ = some ws ∧ ws.map bl = Lib.split (bl s) [c] := by
  refine ⟨_, if_pos ⟨hs, Nat.le_refl 1⟩, ?_⟩
  exact (Lib.splitB_data ⟨#[c]⟩ 0 _ s)
theorem splitK_len (sep : List UInt8) (save : Nat) : ∀ (k : Nat) (s x : List UInt8), save = 0 → x ∈ Lib.splitK sep save k s → x.length ≤ s.length
  | 0, s, x, h0, h => by unfold Lib.splitK at h; rw [List.mem_singleton] at h; subst h; exact Nat.le_refl _
  | k + 1, s, x, h0, h => by
    unfold Lib.splitK at h
    split at h
    · rw [List.mem_singleton] at h; subst h; exact Nat.le_refl _
    · rcases List.mem_cons.1 h with rfl | h
      · rw [List.length_take]; omega
      · have := splitK_len sep save k _ x h0 h
        rw [List.length_drop] at this; omega
theorem word_size {s : ByteArray} {c : UInt8} {ws : List ByteArray} (h : ws.map bl = Lib.split (bl s) [c]) {w : ByteArray} (hw : w ∈ ws) : w.size ≤ s.size := by
  have hm : bl w ∈ Lib.split (bl s) [c] := by rw [← h]; exact List.mem_map_of_mem hw
  have := splitK_len [c] 0 _ _ _ rfl hm
  rw [bl_len, bl_len] at this; exact this

theorem okU_bounds {B : Nat} {l : List UInt8} {u : Int} (h : okU B l = some u) : 0 ≤ u ∧ u ≤ (2 ^ B - 1 : Nat) := by
  obtain ⟨v, rfl, _, hv⟩ := okU_some h
  exact ⟨by omega, by omega⟩
end Go.Proofs.YtmoagoopdfpcnaaDoor.Q
