/- spans.Text and spans.Parse answer the set's text and the set read. -/
import Derived.Test.YtmoagoopdfpcnaaDoorEPCount
import Derived.Test.YtmoagoopdfpcnaaDoorEBl
import Derived.Test.YtmoagoopdfpcnaaDoorSParseK
namespace Go.Proofs.YtmoagoopdfpcnaaDoor.Q
open Go.RowKit Go.Proofs.YtmoagoopdfpcnaaDoorW.PrintWords Go.Proofs.YtmoagoopdfpcnaaDoor.Txt Go.Proofs.YtmoagoopdfpcnaaDoor.SpMath
set_option linter.unusedVariables false
set_option linter.unusedSimpArgs false

def wordB (s : Sp) : ByteArray := ⟨(spT s).toArray⟩
theorem spT_short {s : Sp} (h : okS s) : (spT s).length ≤ 43 := by
  obtain ⟨h0, h1, h2, h3⟩ := h
  have l0 := itoa_short (n := s.1) h0 h1
  have l1 := itoa_short (n := s.2) h2 h3
  unfold spT
  split
  · omega
  · simp only [List.length_append, List.length_cons]; omega
theorem join_short (c : UInt8) (n : Nat) : ∀ (xs : List (List UInt8)), (∀ x ∈ xs, x.length ≤ n) → (Lib.join xs [c]).length ≤ (n + 1) * xs.length
  | [], _ => by simp [Lib.join]
  | [a], h => by rw [join_single]; have := h a (by simp); simp only [List.length_cons, List.length_nil]; omega
  | a :: b :: xs, h => by
    rw [join_cons2]
    have h1 := h a (by simp)
    have h2 := join_short c n (b :: xs) (fun x hx => h x (List.mem_cons_of_mem _ hx))
    simp only [List.length_append, List.length_cons, List.length_nil] at h2 ⊢
    have : (n + 1) * (xs.length + 1 + 1) = (n + 1) * (xs.length + 1) + (n + 1) := Nat.mul_succ _ _
    omega
theorem fmt_some {a : Int} (h0 : 0 ≤ a) (h1 : a ≤ 4294967295) : strconv_FormatUint.f (IntKind.u64.wrap a) 10 = some ⟨(Lib.itoa a).toArray⟩ := by
  have e : IntKind.u64.wrap a = a := by rw [IntKind.wrap_u64]; omega
  unfold strconv_FormatUint.f
  rw [e, if_pos ⟨rfl, h0, by omega⟩]
theorem lit_ba (a : Array UInt8) (b : List UInt8) : (⟨a⟩ : ByteArray) ++ (⟨b.toArray⟩ : ByteArray) = ⟨(a.toList ++ b).toArray⟩ := ba_append a.toList b
theorem text_loop (F : List Sp) (hF : ∀ s ∈ F, okS s) (hn : F.length ≤ 1000000) : ∀ (d i k : Nat) (acc : List ByteArray), i + d = F.length → acc = (F.take i).map wordB → d + 1 ≤ k →
    spans_Text.l0 k acc (F.map mk) ((F.map mk).length : Int) (i : Int) = some ⟨(Lib.join (F.map spT) [44]).toArray⟩
  | d, i, 0, acc, h, ha, hk => by omega
  | 0, i, k + 1, acc, h, ha, hk => by
    have hi : i = F.length := by omega
    subst hi
    rw [List.take_length] at ha
    subst ha
    rw [spans_Text.l0, if_neg (by rw [List.length_map]; omega)]
    have e : List.map (fun x : ByteArray => x.data.toList) (F.map wordB) = F.map spT := by
      rw [List.map_map]
      exact List.map_congr_left (fun x _ => by simp [wordB])
    have hj := join_short 44 43 (F.map spT) (fun x hx => by obtain ⟨s, hs, rfl⟩ := List.mem_map.1 hx; exact spT_short (hF s hs))
    rw [List.length_map] at hj
    unfold strings_Join.f
    rw [e]
    have e2 : (⟨#[44]⟩ : ByteArray).data.toList = [44] := rfl
    rw [e2, if_pos ⟨by rw [List.length_map]; omega, by omega⟩]
    rfl
  | d + 1, i, k + 1, acc, h, ha, hk => by
    have hi : i < F.length := by omega
    have hw : (F.take (i + 1)).map wordB = acc ++ [wordB F[i]] := by rw [List.take_succ_eq_append_getElem hi, List.map_append, ha]; rfl
    have hl : acc.length ≤ 1000000 := by rw [ha, List.length_map, List.length_take]; omega
    obtain ⟨h0, h1, h2, h3⟩ := hF F[i] (List.getElem_mem hi)
    have l0 := itoa_short (n := F[i].1) h0 h1
    have l1 := itoa_short (n := F[i].2) h2 h3
    have ih := text_loop F hF hn d (i + 1) k (acc ++ [wordB F[i]]) (by omega) hw.symm (by omega)
    rw [spans_Text.l0, if_pos (by rw [List.length_map]; omega), if_pos (by omega), if_pos (by rw [List.length_map]; omega), rdmk F i hi]
    show (Option.bind (strconv_FormatUint.f (IntKind.u64.wrap F[i].1) 10) _) = _
    rw [fmt_some h0 h1]
    simp only [Option.bind_some]
    by_cases he : F[i].1 = F[i].2
    · rw [if_pos (show (mk F[i]).f0 = (mk F[i]).f1 from he), if_pos (by omega), wr1 i F.length hi (by omega)]
      have ew : wordB F[i] = ⟨(Lib.itoa F[i].1).toArray⟩ := by unfold wordB spT; rw [if_pos he]
      rw [ew] at ih
      exact ih
    · rw [if_neg (show ¬ (mk F[i]).f0 = (mk F[i]).f1 from he)]
      show (Option.bind (strconv_FormatUint.f (IntKind.u64.wrap F[i].2) 10) _) = _
      rw [fmt_some h2 h3]
      simp only [Option.bind_some]
      rw [if_pos (by rw [ba_size]; omega), lit_ba, if_pos (by rw [ba_size, ba_size, List.length_append]; simp; omega), if_pos (by omega), ba_append, wr1 i F.length hi (by omega)]
      have ew : wordB F[i] = ⟨(Lib.itoa F[i].1 ++ (#[45].toList ++ Lib.itoa F[i].2)).toArray⟩ := by unfold wordB spT; rw [if_neg he]; rfl
      rw [ew] at ih
      exact ih
theorem text_ev (L : List Sp) (hL : ∀ s ∈ L, okS s) (hn : L.length ≤ 1000000) : Ev (fun k => spans_Text.f k (L.map mk)) ⟨(setT (formF L)).toArray⟩ := by
  obtain ⟨k0, h0⟩ := form_ev L hL (by omega)
  have hl := form_len L
  refine ⟨max k0 ((formF L).length + 1), fun k hk => ?_⟩
  show spans_Text.f k (L.map mk) = _
  unfold spans_Text.f
  rw [show spans_Form.f k (L.map mk) = some ((formF L).map mk) from h0 k (by omega)]
  simp only [Option.bind_some]
  by_cases hz : formF L = []
  · rw [hz]; rfl
  · have : (formF L).length ≠ 0 := fun h => hz (List.eq_nil_of_length_eq_zero h)
    rw [if_neg (by rw [List.length_map]; omega)]
    have ht := text_loop (formF L) (form_okS hL) (by omega) (formF L).length 0 k [] (by omega) rfl (by omega)
    unfold setT
    rw [if_neg hz]
    exact ht

/-- What spans.Parse reads. -/
def parseF (s : List UInt8) : Option (List Sp) := if s = [45] then some [] else (wordsF (Lib.split s [44])).bind fun l => if setT (formF l) = s then some l else none
def outL : Option (List Sp) → List S36 × Int
  | some l => (l.map mk, 0)
  | none => ([], 4)
theorem pu32 {s : ByteArray} (hs : s.size ≤ 281474976710656) : strconv_ParseUint.f s 10 32 = some (match okU 32 (bl s) with | some u => (u, none) | none => (0, some 0)) := by
  unfold strconv_ParseUint.f
  rw [if_pos ⟨rfl, Or.inr rfl, hs⟩]
  have e : (32 : Int).toNat = 32 := rfl
  rw [e]
  unfold bl
  cases okU 32 s.data.toList <;> rfl
theorem okU32_range {l : List UInt8} {u : Int} (h : okU 32 l = some u) : 0 ≤ u ∧ u ≤ 4294967295 := by
  have := okU_bounds h
  rw [e32] at this
  exact this
theorem spF_ok {w : List UInt8} {x : Sp} (h : spF w = some x) : okS x := by
  unfold spF at h
  simp only [Option.bind_eq_some_iff] at h
  obtain ⟨a, ha, b, hb, h⟩ := h
  have h1 := okU32_range ha
  have h2 := okU32_range hb
  split at h
  · cases h; exact ⟨h1.1, h1.2, h2.1, h2.2⟩
  · cases h
theorem j1_step {s w : ByteArray} {ws : List ByteArray} {acc : List Sp} {i : Nat} {k : Nat} {n : Int} (hw : w.size < 4294967281) (hacc : acc.length ≤ 1000000) (hin : wrap64 ((i : Int) + 1) = ((i + 1 : Nat) : Int)) :
    (strings_Cut.f w ⟨#[45]⟩).bind (fun bt208 => (if bt208.2.2 = true then (spans_ParseK.j1 (k + 1) s (acc.map mk) bt208.1 bt208.2.1 bt208.2.2 ws n (i : Int)) else (spans_ParseK.j1 (k + 1) s (acc.map mk) bt208.1 bt208.1 bt208.2.2 ws n (i : Int)))) =
      match spF (bl w) with
      | some x => spans_ParseK.l0 k s ((acc ++ [x]).map mk) ws n ((i + 1 : Nat) : Int)
      | none => some ([], 4) := by
  have hz := cut_size (bl w) [45]
  rw [bl_len] at hz
  have zA : (⟨(Lib.cut (bl w) [45]).1.toArray⟩ : ByteArray).size ≤ 281474976710656 := by rw [ba_size]; omega
  have zB : (⟨(Lib.cut (bl w) [45]).2.1.toArray⟩ : ByteArray).size ≤ 281474976710656 := by rw [ba_size]; omega
  have hcut : strings_Cut.f w ⟨#[45]⟩ = some (⟨(Lib.cut (bl w) [45]).1.toArray⟩, ⟨(Lib.cut (bl w) [45]).2.1.toArray⟩, (Lib.cut (bl w) [45]).2.2) := by
    unfold strings_Cut.f; rw [if_pos hw]
  have hm : ∀ a b : Int, 0 ≤ a ∧ a ≤ 4294967295 → 0 ≤ b ∧ b ≤ 4294967295 → acc.map mk ++ [(⟨a % 4294967296, b % 4294967296⟩ : S36)] = (acc ++ [((a, b) : Sp)]).map mk := by
    intro a b ha hb
    rw [Int.emod_eq_of_lt ha.1 (by omega), Int.emod_eq_of_lt hb.1 (by omega), List.map_append]
    rfl
  rw [hcut]
  simp only [Option.bind_some]
  unfold spF
  cases hF : (Lib.cut (bl w) [45]).2.2 with
  | false =>
    simp only [Bool.false_eq_true, if_false, false_and, not_false_eq_true, and_true]
    rw [spans_ParseK.j1, pu32 zA, bl_mk]
    simp only [Option.bind_some]
    cases hA : okU 32 (Lib.cut (bl w) [45]).1 with
    | none => simp
    | some a =>
      have ra := okU32_range hA
      simp only [Option.isNone_none, if_true, Option.bind_some, Int.le_refl]
      rw [if_neg (by omega), if_neg (by decide), if_pos (by rw [List.length_map]; omega), hin, hm a a ra ra]
  | true =>
    simp only [if_true, true_and]
    rw [spans_ParseK.j1, pu32 zA, pu32 zB, bl_mk, bl_mk]
    simp only [Option.bind_some]
    cases hA : okU 32 (Lib.cut (bl w) [45]).1 with
    | none => simp
    | some a =>
      cases hB : okU 32 (Lib.cut (bl w) [45]).2.1 with
      | none => simp
      | some b =>
        have ra := okU32_range hA
        have rb := okU32_range hB
        simp only [Option.isNone_none, if_true, Option.bind_some]
        by_cases h1 : a > b
        · rw [if_pos h1, if_neg (by omega)]
        · rw [if_neg h1]
          by_cases h2 : a = b
          · rw [if_pos h2, if_neg (by omega)]
          · rw [if_neg h2, if_pos (show a ≤ b ∧ ¬ a = b by omega), if_pos (by rw [List.length_map]; omega), hin, hm a b ra rb]
theorem parse_loop (s : ByteArray) (ws : List ByteArray) (hz : ∀ w ∈ ws, w.size < 4294967281) (hn : ws.length ≤ 900000) (rest : List Sp → List S36 × Int)
    (hrest : ∀ l : List Sp, (∀ x ∈ l, okS x) → l.length ≤ 1000000 → Ev (fun k => (spans_Text.f k (l.map mk)).bind fun t206 => (if t206.toList = s.toList then (some (l.map mk, 0)) else (some (([] : List (S36)), 4)))) (rest l)) :
    ∀ (d i : Nat) (acc : List Sp), i + d = ws.length → acc.length ≤ i → (∀ x ∈ acc, okS x) →
    Ev (fun k => spans_ParseK.l0 k s (acc.map mk) ws (ws.length : Int) (i : Int)) (match wordsF ((ws.drop i).map bl) with | some l => rest (acc ++ l) | none => ([], 4))
  | 0, i, acc, h, ha, ho => by
    have hd : ws.drop i = [] := List.drop_of_length_le (by omega)
    rw [hd]
    simp only [List.map_nil, wordsF, List.append_nil]
    refine Ev.step (fun k => ?_) (hrest acc ho (by omega))
    simp only [spans_ParseK.l0]
    rw [if_neg (by omega)]
  | d + 1, i, acc, h, ha, ho => by
    have hi : i < ws.length := by omega
    have hr : rdOf ByteArray.empty ws (i : Int) = ws[i] := by
      unfold rdOf
      rw [Int.toNat_natCast, List.getD_eq_getElem?_getD, List.getElem?_eq_getElem hi]; rfl
    have hin : wrap64 ((i : Int) + 1) = ((i + 1 : Nat) : Int) := wr1 i ws.length hi (by omega)
    have hst : ∀ k, spans_ParseK.l0 (k + 2) s (acc.map mk) ws (ws.length : Int) (i : Int) = match spF (bl ws[i]) with
      | some x => spans_ParseK.l0 k s ((acc ++ [x]).map mk) ws (ws.length : Int) ((i + 1 : Nat) : Int)
      | none => some ([], 4) := fun k => by
      rw [spans_ParseK.l0, if_pos (by omega), if_pos (by omega), if_pos (by omega), hr]
      exact j1_step (hz _ (List.getElem_mem hi)) (by omega) hin
    rw [List.drop_eq_getElem_cons hi]
    simp only [List.map_cons, wordsF]
    cases hx : spF (bl ws[i]) with
    | none =>
      refine ⟨2, fun k hk => ?_⟩
      obtain ⟨k, rfl⟩ : ∃ j, k = j + 2 := ⟨k - 2, by omega⟩
      show spans_ParseK.l0 (k + 2) s (acc.map mk) ws (ws.length : Int) (i : Int) = _
      rw [hst, hx]
      rfl
    | some x =>
      obtain ⟨k0, h0⟩ := parse_loop s ws hz hn rest hrest d (i + 1) (acc ++ [x]) (by omega) (by simp; omega) (by
        intro y hy
        rcases List.mem_append.1 hy with hy | hy
        · exact ho y hy
        · rw [List.mem_singleton] at hy; subst hy; exact spF_ok hx)
      refine ⟨k0 + 2, fun k hk => ?_⟩
      obtain ⟨k, rfl⟩ : ∃ j, k = j + 2 := ⟨k - 2, by omega⟩
      show spans_ParseK.l0 (k + 2) s (acc.map mk) ws (ws.length : Int) (i : Int) = _
      rw [hst, hx]
      have := h0 k (by omega)
      simp only at this ⊢
      rw [this]
      simp only [Option.bind_some]
      cases wordsF ((ws.drop (i + 1)).map bl) with
      | none => rfl
      | some l => simp
theorem parse_ev {s : ByteArray} (hs : s.size ≤ 500000) : Ev (fun k => spans_ParseK.f k s) (outL (parseF (bl s))) := by
  have e45 : (s.toList = ([45] : List UInt8)) = (bl s = [45]) := by rw [ByteArray.toList_eq]
  by_cases h0 : bl s = [45]
  · refine ⟨0, fun k _ => ?_⟩
    show spans_ParseK.f k s = _
    unfold spans_ParseK.f parseF
    rw [if_pos (e45 ▸ h0), if_pos h0]; rfl
  · obtain ⟨ws, hw, hb⟩ := split_f (s := s) (by omega) 44
    have hz : ∀ w ∈ ws, w.size < 4294967281 := fun w h => by have := word_size hb h; omega
    have hn : ws.length ≤ 900000 := by
      unfold strings_Split.f at hw
      rw [if_pos ⟨by omega, Nat.le_refl 1⟩] at hw
      rw [← Option.some.inj hw]
      have h1 := Lib.splitB_all ⟨#[44]⟩ (Nat.le_refl 1) 0 _ s rfl
      have h2 := Lib.countB_le ⟨#[44]⟩ (Nat.le_refl 1) s.size s (Nat.le_refl _)
      omega
    have hl := parse_loop s ws hz hn (fun l => if setT (formF l) = bl s then (l.map mk, 0) else ([], 4)) (fun l ho hll => by
      obtain ⟨k0, hk0⟩ := text_ev l ho hll
      refine ⟨k0, fun k hk => ?_⟩
      show ((spans_Text.f k (l.map mk)).bind fun t206 => (if t206.toList = s.toList then (some (l.map mk, 0)) else (some (([] : List (S36)), 4)))) = _
      rw [show spans_Text.f k (l.map mk) = some ⟨(setT (formF l)).toArray⟩ from hk0 k hk]
      simp only [Option.bind_some, toList_eq, bl_mk]
      split <;> rfl) ws.length 0 [] (by omega) (Nat.le_refl _) (by simp)
    obtain ⟨k0, hk0⟩ := hl
    refine ⟨k0, fun k hk => ?_⟩
    show spans_ParseK.f k s = _
    unfold spans_ParseK.f parseF
    rw [if_neg (by rw [e45]; exact h0), hw, if_neg h0]
    simp only [Option.bind_some]
    have := hk0 k hk
    simp only [List.map_nil, List.drop_zero, List.nil_append] at this
    rw [hb] at this
    refine this.trans ?_
    cases wordsF (Lib.split (bl s) [44]) with
    | none => rfl
    | some l =>
      simp only [Option.bind_some]
      by_cases hq : setT (formF l) = bl s
      · rw [if_pos hq, if_pos hq]; rfl
      · rw [if_neg hq, if_neg hq]; rfl
end Go.Proofs.YtmoagoopdfpcnaaDoor.Q
