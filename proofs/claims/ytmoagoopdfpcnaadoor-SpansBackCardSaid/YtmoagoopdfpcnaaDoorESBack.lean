/- SpansBack's law: the plain law. -/
import Derived.Test.YtmoagoopdfpcnaaDoorESParse
import Derived.Test.YtmoagoopdfpcnaaDoorQx39
namespace Go.Proofs.YtmoagoopdfpcnaaDoor.Q
open Go.RowKit Go.Proofs.YtmoagoopdfpcnaaDoorW.PrintWords Go.Proofs.YtmoagoopdfpcnaaDoor.Txt Go.Proofs.YtmoagoopdfpcnaaDoor.SpMath
set_option linter.unusedVariables false
set_option linter.unusedSimpArgs false

theorem spans_same_loop (A : List Sp) (hn : A.length ≤ 1000000) : ∀ (d i k : Nat), i + d = A.length → d + 1 ≤ k → waymarkref02_Spans.l0 k (A.map mk) (A.map mk) (i : Int) = some true
  | d, i, 0, h, hk => by omega
  | 0, i, k + 1, h, hk => by rw [waymarkref02_Spans.l0, if_neg (by rw [List.length_map]; omega)]
  | d + 1, i, k + 1, h, hk => by
    have hi : i < A.length := by omega
    rw [waymarkref02_Spans.l0, if_pos (by rw [List.length_map]; omega), if_pos (by omega), if_pos (by rw [List.length_map]; omega), if_neg (by simp), wr1 i A.length hi (by omega)]
    exact spans_same_loop A hn d (i + 1) k (by omega) (by omega)
theorem ref_same {A : List Sp} (hn : A.length ≤ 1000000) {k : Nat} (hk : A.length + 1 ≤ k) : waymarkref02_Spans.f k (A.map mk) (A.map mk) = some true := by
  unfold waymarkref02_Spans.f
  rw [if_pos rfl]
  exact spans_same_loop A hn A.length 0 k (by omega) hk
theorem u64s {a : Int} (h0 : 0 ≤ a) (h1 : a ≤ 4294967300) : IntKind.u64.wrap a = a := by rw [IntKind.wrap_u64]; omega
theorem wordsF_ok : ∀ {ws : List (List UInt8)} {l : List Sp}, wordsF ws = some l → (∀ x ∈ l, okS x) ∧ l.length = ws.length
  | [], l, h => by cases h; exact ⟨by simp, rfl⟩
  | w :: ws, l, h => by
    simp only [wordsF, Option.bind_eq_some_iff] at h
    obtain ⟨x, hx, l', hl, h⟩ := h
    cases h
    obtain ⟨h1, h2⟩ := wordsF_ok hl
    refine ⟨fun y hy => ?_, by simp [h2]⟩
    rcases List.mem_cons.1 hy with rfl | hy
    · exact spF_ok hx
    · exact h1 y hy
theorem parseF_ok {s : ByteArray} (hs : s.size ≤ 500000) {l : List Sp} (h : parseF (bl s) = some l) : (∀ x ∈ l, okS x) ∧ l.length ≤ 1000000 ∧ setT (formF l) = bl s := by
  unfold parseF at h
  split at h
  · rename_i h0
    cases h
    exact ⟨by simp, by simp, by rw [h0, form_of_form inForm_nil]; rfl⟩
  · simp only [Option.bind_eq_some_iff] at h
    obtain ⟨l', hl, h⟩ := h
    split at h
    · rename_i hq
      cases h
      obtain ⟨h1, h2⟩ := wordsF_ok hl
      refine ⟨h1, ?_, hq⟩
      obtain ⟨ws, hw, hb⟩ := split_f (s := s) (by omega) 44
      rw [h2, ← hb, List.length_map]
      unfold strings_Split.f at hw
      rw [if_pos ⟨by omega, Nat.le_refl 1⟩] at hw
      rw [← Option.some.inj hw]
      have h1 := Lib.splitB_all ⟨#[44]⟩ (Nat.le_refl 1) 0 _ s rfl
      have h2 := Lib.countB_le ⟨#[44]⟩ (Nat.le_refl 1) s.size s (Nat.le_refl _)
      omega
    · cases h
theorem parse_back {F : List Sp} (hF : InForm F) (ho : ∀ s ∈ F, okS s) : parseF (setT F) = some F := by
  have h := set_back (f := F) (fun s hs => ⟨(ho s hs).1, hF.1 s hs, (ho s hs).2.2.2⟩)
  unfold setF at h
  unfold parseF
  by_cases h0 : setT F = [45]
  · rw [if_pos h0] at h ⊢; exact h
  · rw [if_neg h0] at h ⊢
    rw [h]
    simp only [Option.bind_some]
    rw [form_of_form hF, if_pos rfl]
theorem setT_short {F : List Sp} (ho : ∀ s ∈ F, okS s) : (setT F).length ≤ 44 * F.length + 1 := by
  unfold setT
  split
  · simp
  · have hj := join_short 44 43 (F.map spT) (fun x hx => by obtain ⟨s, hs, rfl⟩ := List.mem_map.1 hx; exact spT_short (ho s hs))
    rw [List.length_map] at hj
    omega
theorem back_end {s : ByteArray} (hs : s.size ≤ 500000) : Ev (fun k => (spans_Parse.f s).bind fun bt567 => (if bt567.2 = 0 then ((spans_Text.f k bt567.1).bind fun t571 => (some (t571.toList == s.toList))) else (if (bt567.1.length : Int) = 0 then (some true) else (none)))) true := by
  cases hp : parseF (bl s) with
  | none =>
    refine ⟨0, fun k _ => ?_⟩
    show ((spans_Parse.f s).bind _) = _
    unfold spans_Parse.f
    rw [if_pos hs, hp]
    rfl
  | some l =>
    obtain ⟨h1, h2, h3⟩ := parseF_ok hs hp
    obtain ⟨k0, hk0⟩ := text_ev l h1 h2
    refine ⟨k0, fun k hk => ?_⟩
    show ((spans_Parse.f s).bind _) = _
    unfold spans_Parse.f
    rw [if_pos hs, hp]
    simp only [outL, Option.bind_some, if_true]
    rw [show spans_Text.f k (l.map mk) = some ⟨(setT (formF l)).toArray⟩ from hk0 k hk, h3, mk_bl]
    simp
theorem check_loop {F : List Sp} (hF : InForm F) (ho : ∀ s ∈ F, okS s) (hn : F.length ≤ 1000000) {s : ByteArray} (hs : s.size ≤ 500000) : ∀ (d i : Nat), i + d = F.length → Ev (fun k => waymarklaw02_SpansBack.l0 k s (F.map mk) (i : Int)) true
  | 0, i, h => by
    refine Ev.step (fun k => ?_) (back_end hs)
    rw [waymarklaw02_SpansBack.l0, if_neg (by rw [List.length_map]; omega)]
  | d + 1, i, h => by
    have hi : i < F.length := by omega
    refine Ev.step (fun k => ?_) (check_loop hF ho hn hs d (i + 1) (by omega))
    have h1 := hF.1 F[i] (List.getElem_mem hi)
    obtain ⟨o0, o1, o2, o3⟩ := ho F[i] (List.getElem_mem hi)
    rw [waymarklaw02_SpansBack.l0, if_pos (by rw [List.length_map]; omega), if_pos (by omega), rdmk F i hi, if_neg (show ¬ (mk F[i]).f0 > (mk F[i]).f1 by show ¬ F[i].1 > F[i].2; omega), wr1 i F.length hi (by omega)]
    cases i with
    | zero => rw [if_neg (by omega)]
    | succ n =>
      have hp : n < F.length := by omega
      obtain ⟨p0, p1, p2, p3⟩ := ho F[n] (List.getElem_mem hp)
      have hw := List.pairwise_iff_getElem.1 hF.2 n (n + 1) hp hi (by omega)
      rw [if_pos (by omega), wrm n (by omega), if_pos (by omega), if_pos (by rw [List.length_map]; omega), rdmk F n hp]
      rw [if_neg (show ¬ IntKind.u64.wrap (mk F[n + 1]).f0 < IntKind.u64.wrap (IntKind.u64.wrap (mk F[n]).f1 + 2) by
        show ¬ IntKind.u64.wrap F[n + 1].1 < IntKind.u64.wrap (IntKind.u64.wrap F[n].2 + 2)
        rw [u64s o0 (by omega), u64s p2 (by omega), u64s (by omega) (by omega)]
        omega)]
theorem sback_ev (L : List Sp) (hL : ∀ s ∈ L, okS s) (hlen : L.length ≤ 9223372036854775807) (s : ByteArray) : Ev (fun k => waymarklaw02_SpansBack.f k (L.map mk) s) true := by
  obtain ⟨kA, hA⟩ := awake_ev
  have tru : ∀ k, kA + 1 ≤ k → waymarklaw02_SpansBack.j0 k (L.map mk) s true = some true := fun k hk => by
    obtain ⟨k, rfl⟩ : ∃ j, k = j + 1 := ⟨k - 1, by omega⟩
    rw [waymarklaw02_SpansBack.j0, if_pos rfl, show waymarklaw02_awake.f k = some true from hA k (by omega)]
    rfl
  by_cases hl : L.length > 200
  · refine ⟨kA + 1, fun k hk => ?_⟩
    show waymarklaw02_SpansBack.f k (L.map mk) s = _
    unfold waymarklaw02_SpansBack.f waymarklaw02_large.f
    rw [if_pos (by rw [List.length_map]; omega)]
    simp only [Option.bind_some, if_true]
    exact tru k hk
  · by_cases hz : s.size > 2000
    · refine ⟨kA + 1, fun k hk => ?_⟩
      show waymarklaw02_SpansBack.f k (L.map mk) s = _
      unfold waymarklaw02_SpansBack.f waymarklaw02_large.f
      rw [if_neg (by rw [List.length_map]; omega)]
      simp only [Option.bind_some]
      rw [if_neg (by simp), if_pos (by omega)]
      exact tru k hk
    · have hs : s.size ≤ 500000 := by omega
      have hfo := form_okS hL
      have hff := (form_ok L).1
      have hfl := form_len L
      obtain ⟨kT, hT⟩ := text_ev L hL (by omega)
      obtain ⟨kF, hFm⟩ := form_ev L hL (by omega)
      obtain ⟨kS, hS⟩ := same_ev L (formF L) hL hfo (by omega) (by omega)
      obtain ⟨kL, hLp⟩ := check_loop hff hfo (by omega) hs (formF L).length 0 (by omega)
      have eS : decide (formF L = formF (formF L)) = true := by rw [form_of_form hff]; simp
      refine ⟨kA + kT + kF + kS + kL + 1000, fun k hk => ?_⟩
      obtain ⟨k, rfl⟩ : ∃ j, k = j + 2 := ⟨k - 2, by omega⟩
      show waymarklaw02_SpansBack.f (k + 2) (L.map mk) s = _
      unfold waymarklaw02_SpansBack.f waymarklaw02_large.f
      rw [if_neg (by rw [List.length_map]; omega)]
      simp only [Option.bind_some]
      rw [if_neg (by simp), if_neg (by omega), show waymarklaw02_awake.f (k + 2) = some true from hA (k + 2) (by omega)]
      simp only [Option.bind_some, Bool.not_true]
      rw [waymarklaw02_SpansBack.j0, if_neg (by decide), show spans_Text.f (k + 1) (L.map mk) = some ⟨(setT (formF L)).toArray⟩ from hT (k + 1) (by omega)]
      simp only [Option.bind_some]
      have hsh := setT_short hfo
      have hP : spans_Parse.f ⟨(setT (formF L)).toArray⟩ = some ((formF L).map mk, 0) := by
        unfold spans_Parse.f
        rw [if_pos (by rw [ba_size]; omega), bl_mk, parse_back hff hfo]
        rfl
      rw [hP]
      simp only [Option.bind_some]
      rw [show spans_Form.f (k + 1) (L.map mk) = some ((formF L).map mk) from hFm (k + 1) (by omega)]
      simp only [Option.bind_some, if_true]
      rw [ref_same (by omega) (by omega)]
      simp only [Option.bind_some, if_true]
      have hS2 := hS (k + 1) (by omega)
      simp only at hS2
      rw [hS2]
      simp only [Option.bind_some]
      have e2 : (formF L == formF (formF L)) = true := by rw [form_of_form hff]; simp
      rw [waymarklaw02_SpansBack.j1]
      first
        | rw [if_neg (by simp [e2, eS, form_of_form hff])]
        | rw [if_neg (by rw [form_of_form hff]; simp)]
      exact hLp k (by omega)
end Go.Proofs.YtmoagoopdfpcnaaDoor.Q
