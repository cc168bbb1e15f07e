/- filter.Text answers the rule's text. -/
import Derived.Test.YtmoagoopdfpcnaaDoorEFLawA
namespace Go.Proofs.YtmoagoopdfpcnaaDoor.Q
open Go.RowKit Go.Proofs.YtmoagoopdfpcnaaDoorW.PrintWords Go.Proofs.YtmoagoopdfpcnaaDoor.Txt
set_option linter.unusedVariables false
set_option linter.unusedSimpArgs false

theorem addr_short {a : Int} : (addrB a).length ≤ 87 := by
  have l0 := itoa_short (n := a / 16777216 % 256) (mod256 _).1 (mod256 _).2
  have l1 := itoa_short (n := a / 65536 % 256) (mod256 _).1 (mod256 _).2
  have l2 := itoa_short (n := a / 256 % 256) (mod256 _).1 (mod256 _).2
  have l3 := itoa_short (n := a % 256) (mod256 _).1 (mod256 _).2
  unfold addrB addrW
  rw [join_cons2, join_cons2, join_cons2, join_single]
  simp only [List.length_append, List.length_cons, List.length_nil]
  omega
theorem pref_short {p : Int × Int} (h0 : 0 ≤ p.2) (h1 : p.2 ≤ 32) : (prefB p).length ≤ 109 := by
  have l0 := addr_short (a := p.1)
  have l1 := itoa_short (n := p.2) h0 (by omega)
  unfold prefB
  simp only [List.length_append, List.length_cons]
  omega
theorem spanT_short {s : Int × Int} (h0 : 0 ≤ s.1) (h1 : s.1 ≤ 65535) (h2 : 0 ≤ s.2) (h3 : s.2 ≤ 65535) : (Txt.spanB s).length ≤ 43 := by
  have l0 := itoa_short (n := s.1) h0 (by omega)
  have l1 := itoa_short (n := s.2) h2 (by omega)
  unfold Txt.spanB
  simp only [List.length_append, List.length_cons]
  omega
theorem ba_lit (a : List UInt8) (b : Array UInt8) : (⟨a.toArray⟩ : ByteArray) ++ (⟨b⟩ : ByteArray) = ⟨(a ++ b.toList).toArray⟩ := ba_append a b.toList
theorem preft_some {a b : Int} (h0 : 0 ≤ a) (h1 : a ≤ 4294967295) (h2 : 0 ≤ b) (h3 : b ≤ 32) : addr_PrefixText.f a b = some ⟨(prefB (a, b)).toArray⟩ := by
  have l0 := addr_short (a := a)
  have l1 := itoa_short (n := b) h2 (by omega)
  unfold addr_PrefixText.f addr_Text.f
  rw [if_pos ⟨h0, h1⟩]
  simp only [Option.bind_some]
  rw [if_pos (by rw [ba_size]; omega), itoa_some h2 (by omega)]
  simp only [Option.bind_some]
  rw [ba_lit, if_pos (by rw [ba_size, ba_size, List.length_append]; simp; omega), ba_append]
  unfold prefB
  simp
theorem u64w {a : Int} (h0 : 0 ≤ a) (h1 : a ≤ 65535) : IntKind.u64.wrap a = a := by rw [IntKind.wrap_u64]; omega
theorem spant_some {a b : Int} (h0 : 0 ≤ a) (h1 : a ≤ 65535) (h2 : 0 ≤ b) (h3 : b ≤ 65535) : filter_span.f a b = some ⟨(Txt.spanB (a, b)).toArray⟩ := by
  have l0 := itoa_short (n := a) h0 (by omega)
  have l1 := itoa_short (n := b) h2 (by omega)
  unfold filter_span.f strconv_FormatUint.f
  rw [u64w h0 h1, u64w h2 h3, if_pos ⟨rfl, h0, by omega⟩, if_pos ⟨rfl, h2, by omega⟩]
  simp only [Option.bind_some]
  rw [if_pos (by rw [ba_size]; omega)]
  rw [ba_lit, if_pos (by rw [ba_size, ba_size, List.length_append]; simp; omega), ba_append]
  unfold Txt.spanB
  simp
/-- The numbers of a rule are of their kinds. -/
def kindR (r : Rule) : Prop := (0 ≤ r.src.1 ∧ r.src.1 ≤ 4294967295) ∧ (0 ≤ r.dst.1 ∧ r.dst.1 ≤ 4294967295) ∧ (0 ≤ r.sp.1) ∧ (0 ≤ r.dp.1)
theorem may_k {k : Nat} (hk : 1 ≤ k) {r : Rule} (h : kindR r) : filter_may.f k r.permit r.proto r.src.1 r.src.2 r.dst.1 r.dst.2 r.sp.1 r.sp.2 r.dp.1 r.dp.2 = some (mayF r) := by
  obtain ⟨⟨s0, s1⟩, ⟨d0, d1⟩, p0, q0⟩ := h
  have e := at_rounds (filter_may.mono r.permit r.proto r.src.1 r.src.2 r.dst.1 r.dst.2 r.sp.1 r.sp.2 r.dp.1 r.dp.2) hk (may_some ⟨r.permit, r.proto, ⟨r.src.1, r.src.2⟩, ⟨r.dst.1, r.dst.2⟩, ⟨r.sp.1, r.sp.2⟩, ⟨r.dp.1, r.dp.2⟩⟩)
  rw [e]
  unfold mayB mayF
  simp only
  rw [chk_checkP s0 s1, chk_checkP d0 d1]
  rfl
theorem text_bad {k : Nat} (hk : 3 ≤ k) {r : Rule} (h : kindR r) (hm : mayF r = false) : filter_Text.f k r.permit r.proto r.src.1 r.src.2 r.dst.1 r.dst.2 r.sp.1 r.sp.2 r.dp.1 r.dp.2 = some (⟨#[]⟩, 121) := by
  unfold filter_Text.f
  rw [may_k (by omega) h]
  simp [hm]
theorem may_parts {r : Rule} (hm : mayF r = true) : (-1 ≤ r.proto ∧ r.proto ≤ 255) ∧ (0 ≤ r.src.2 ∧ r.src.2 ≤ 32) ∧ (0 ≤ r.dst.2 ∧ r.dst.2 ≤ 32) ∧ (r.sp.1 ≤ r.sp.2 ∧ r.sp.2 ≤ 65535) ∧ (r.dp.1 ≤ r.dp.2 ∧ r.dp.2 ≤ 65535) := by
  unfold mayF portsOk at hm
  simp only [Bool.and_eq_true, decide_eq_true_eq] at hm
  obtain ⟨⟨⟨⟨⟨m1, m2⟩, m3⟩, m4⟩, m5, m6⟩, m7, m8⟩ := hm
  exact ⟨⟨m1, m2⟩, check_bits m3, check_bits m4, ⟨m5, m6⟩, m7, m8⟩
theorem rule_short {r : Rule} (h : kindR r) (hm : mayF r = true) : (ruleB r).length ≤ 400 := by
  obtain ⟨⟨s0, s1⟩, ⟨d0, d1⟩, p0, q0⟩ := h
  obtain ⟨m0, m1, m2, m3, m4⟩ := may_parts hm
  have l2 := pref_short (p := r.src) m1.1 m1.2
  have l3 := pref_short (p := r.dst) m2.1 m2.2
  have l4 := spanT_short (s := r.sp) p0 (by omega) (by omega) m3.2
  have l5 := spanT_short (s := r.dp) q0 (by omega) (by omega) m4.2
  have l0 : (if r.permit = true then sPermit else sDeny).length ≤ 6 := by split <;> decide
  have l1 : (if 0 ≤ r.proto then Lib.itoa r.proto else sAny).length ≤ 21 := by
    split
    · rename_i hp; exact itoa_short hp (by omega)
    · decide
  unfold ruleB ruleW
  rw [join_cons2, join_cons2, join_cons2, join_cons2, join_cons2, join_single]
  simp only [List.length_append, List.length_cons, List.length_nil]
  omega
theorem join6 {r : Rule} (h : kindR r) (hm : mayF r = true) (w0 w1 : ByteArray) (e0 : bl w0 = if r.permit = true then sPermit else sDeny) (e1 : bl w1 = if 0 ≤ r.proto then Lib.itoa r.proto else sAny) :
    strings_Join.f [w0, w1, ⟨(prefB r.src).toArray⟩, ⟨(prefB r.dst).toArray⟩, ⟨(Txt.spanB r.sp).toArray⟩, ⟨(Txt.spanB r.dp).toArray⟩] ⟨#[32]⟩ = some ⟨(ruleB r).toArray⟩ := by
  have e : List.map (fun x : ByteArray => x.data.toList) [w0, w1, ⟨(prefB r.src).toArray⟩, ⟨(prefB r.dst).toArray⟩, ⟨(Txt.spanB r.sp).toArray⟩, ⟨(Txt.spanB r.dp).toArray⟩] = ruleW r := by
    unfold ruleW
    rw [← e0, ← e1]
    rfl
  unfold strings_Join.f
  rw [e]
  have hl := rule_short h hm
  have : Lib.join (ruleW r) (⟨#[32]⟩ : ByteArray).data.toList = ruleB r := rfl
  rw [this]
  rw [if_pos ⟨by simp, by omega⟩]
theorem text_good {k : Nat} (hk : 3 ≤ k) {r : Rule} (h : kindR r) (hm : mayF r = true) : filter_Text.f k r.permit r.proto r.src.1 r.src.2 r.dst.1 r.dst.2 r.sp.1 r.sp.2 r.dp.1 r.dp.2 = some (⟨(ruleB r).toArray⟩, 0) := by
  obtain ⟨⟨s0, s1⟩, ⟨d0, d1⟩, p0, q0⟩ := id h
  obtain ⟨m0, m1, m2, m3, m4⟩ := may_parts hm
  obtain ⟨k, rfl⟩ : ∃ j, k = j + 2 := ⟨k - 2, by omega⟩
  have hp1 := preft_some s0 s1 m1.1 m1.2
  have hp2 := preft_some d0 d1 m2.1 m2.2
  have hs1 := spant_some p0 (by omega) (by omega) m3.2
  have hs2 := spant_some q0 (by omega) (by omega) m4.2
  have hi : 0 ≤ r.proto → strconv_Itoa.f r.proto = some ⟨(Lib.itoa r.proto).toArray⟩ := fun h => itoa_some h (by omega)
  have J1 : ∀ (w0 w1 : ByteArray), bl w0 = (if r.permit = true then sPermit else sDeny) → bl w1 = (if 0 ≤ r.proto then Lib.itoa r.proto else sAny) → filter_Text.j1 (k + 1) w0 w1 r.permit r.proto r.src.1 r.src.2 r.dst.1 r.dst.2 r.sp.1 r.sp.2 r.dp.1 r.dp.2 = some (⟨(ruleB r).toArray⟩, 0) := by
    intro w0 w1 e0 e1
    rw [filter_Text.j1, hp1, hp2, hs1, hs2]
    simp only [Option.bind_some]
    have hj := join6 h hm w0 w1 e0 e1
    rw [hj]
    rfl
  unfold filter_Text.f
  rw [may_k (by omega) h]
  simp only [Option.bind_some, hm, if_true]
  by_cases hper : r.permit = true
  · rw [if_pos hper, filter_Text.j0]
    by_cases hpr : r.proto ≥ 0
    · rw [if_pos hpr, hi hpr]
      simp only [Option.bind_some]
      exact J1 _ _ (by rw [if_pos hper]; rfl) (by rw [if_pos hpr, bl_mk])
    · rw [if_neg hpr]
      exact J1 _ _ (by rw [if_pos hper]; rfl) (by rw [if_neg hpr]; rfl)
  · rw [if_neg hper, filter_Text.j0]
    by_cases hpr : r.proto ≥ 0
    · rw [if_pos hpr, hi hpr]
      simp only [Option.bind_some]
      exact J1 _ _ (by rw [if_neg hper]; rfl) (by rw [if_pos hpr, bl_mk])
    · rw [if_neg hpr]
      exact J1 _ _ (by rw [if_neg hper]; rfl) (by rw [if_neg hpr]; rfl)
end Go.Proofs.YtmoagoopdfpcnaaDoor.Q
