/- What the reference makes from cut to cut is the set in its form: plain lists and numbers. -/
import Derived.Test.YtmoagoopdfpcnaaEPCount
import Derived.Test.YtmoagoopdfpcnaaQx27
namespace Go.Proofs.Ytmoagoopdfpcnaa.Q
open Go.RowKit Go.Proofs.YtmoagoopdfpcnaaW.PrintWords Go.Proofs.YtmoagoopdfpcnaaW.PrintLast Go.Proofs.YtmoagoopdfpcnaaW.PrintMore Go.Proofs.Ytmoagoopdfpcnaa.SpMath
set_option linter.unusedVariables false

/-! ### Is a number in what is made? -/
def soB (L M : List Sp) (how x : Int) : Bool := if how = 1 then memB L x || memB M x else if how = 2 then memB L x && memB M x else if how = 3 then memB L x && !memB M x else !memB L x
theorem so_ev (L M : List Sp) (how x : Int) (hL : L.length ≤ 1000000000000) (hM : M.length ≤ 1000000000000) : Ev (fun k => waymarkref02_so.f k (L.map mk) (M.map mk) x how) (soB L M how x) := by
  unfold waymarkref02_so.f soB
  have h0 := has_ev L x hL
  have h1 := has_ev M x hM
  by_cases c1 : how = 1
  · simp only [if_pos c1]
    refine Ev.bind h0 ?_
    cases memB L x
    · simp only [Bool.false_eq_true, if_false, Bool.false_or]
      exact Ev.bind h1 (Ev.now _)
    · exact Ev.now _
  · simp only [if_neg c1]
    by_cases c2 : how = 2
    · simp only [if_pos c2]
      refine Ev.bind h0 ?_
      cases memB L x
      · exact Ev.now _
      · simp only [if_true, Bool.true_and]
        exact Ev.bind h1 (Ev.now _)
    · simp only [if_neg c2]
      by_cases c3 : how = 3
      · simp only [if_pos c3]
        refine Ev.bind h0 ?_
        cases memB L x
        · exact Ev.now _
        · simp only [if_true, Bool.true_and]
          exact Ev.bind h1 (Ev.now _)
      · simp only [if_neg c3]
        exact Ev.bind h0 (Ev.now _)

/-! ### The cuts -/
theorem rd_at (l : List Int) (i : Nat) (h : i < l.length) : rd l (i : Int) = l[i] := by
  unfold rd
  rw [Int.toNat_natCast, List.getD_eq_getElem?_getD, List.getElem?_eq_getElem h]; rfl
theorem ins_ok (l : List Int) (i : Nat) (x : Int) (hs : l.Pairwise (· < ·)) (h1 : ∀ y ∈ l.take i, y < x) (h2 : ∀ y ∈ l.drop i, x < y) :
    (insAt l (i : Int) x).Pairwise (· < ·) ∧ (∀ y, y ∈ insAt l (i : Int) x ↔ y ∈ l ∨ y = x) ∧ (insAt l (i : Int) x).length ≤ l.length + 1 := by
  unfold insAt
  rw [Int.toNat_natCast]
  rw [← List.take_append_drop i l, List.pairwise_append] at hs
  refine ⟨?_, fun y => ?_, ?_⟩
  · rw [List.pairwise_append, List.pairwise_append]
    refine ⟨⟨hs.1, List.pairwise_singleton _ _, fun a ha b hb => by rw [List.mem_singleton.1 hb]; exact h1 a ha⟩, hs.2.1, fun a ha b hb => ?_⟩
    rcases List.mem_append.1 ha with h | h
    · exact hs.2.2 a h b hb
    · rw [List.mem_singleton.1 h]; exact h2 b hb
  · have : y ∈ l ↔ y ∈ l.take i ∨ y ∈ l.drop i := by rw [← List.mem_append, List.take_append_drop]
    rw [List.mem_append, List.mem_append, List.mem_singleton, this]
    constructor
    · rintro ((h | h) | h)
      · exact Or.inl (Or.inl h)
      · exact Or.inr h
      · exact Or.inl (Or.inr h)
    · rintro ((h | h) | h)
      · exact Or.inl (Or.inl h)
      · exact Or.inr h
      · exact Or.inl (Or.inr h)
  · simp; omega

theorem put_loop (l : List Int) (x : Int) (hs : l.Pairwise (· < ·)) (hn : l.length ≤ 1000000000000) : ∀ i : Nat, i ≤ l.length → (∀ y ∈ l.drop i, x < y) →
    ∃ r, Ev (fun k => waymarkref02_put.l0 k l x (i : Int)) r ∧ r.Pairwise (· < ·) ∧ (∀ y, y ∈ r ↔ y ∈ l ∨ y = x) ∧ r.length ≤ l.length + 1
  | 0, h, hd => by
    obtain ⟨h1, h2, h3⟩ := ins_ok l 0 x hs (by simp) hd
    refine ⟨_, Ev.step (f := fun k => some (insAt l ((0 : Nat) : Int) x)) (fun k => ?_) (Ev.now _), h1, h2, h3⟩
    simp only [waymarkref02_put.l0]
    rw [if_neg (by omega), if_pos ⟨by omega, by omega, by omega⟩]
  | i + 1, h, hd => by
    have hi : i < l.length := by omega
    have hw : wrap64 (((i + 1 : Nat) : Int) - 1) = (i : Int) := wrm i (by omega)
    have hdr : l.drop i = l[i] :: l.drop (i + 1) := List.drop_eq_getElem_cons hi
    rcases Int.lt_trichotomy l[i] x with hc | hc | hc
    · have htk : ∀ y ∈ l.take (i + 1), y < x := by
        intro y hy
        have hp : (l.take (i + 1)).Pairwise (· < ·) := hs.sublist (List.take_sublist _ _)
        rw [List.take_succ_eq_append_getElem hi] at hy hp
        rcases List.mem_append.1 hy with h | h
        · have := (List.pairwise_append.1 hp).2.2 y h l[i] (by simp); omega
        · rw [List.mem_singleton.1 h]; exact hc
      obtain ⟨h1, h2, h3⟩ := ins_ok l (i + 1) x hs htk hd
      refine ⟨_, Ev.step (f := fun k => some (insAt l ((i + 1 : Nat) : Int) x)) (fun k => ?_) (Ev.now _), h1, h2, h3⟩
      simp only [waymarkref02_put.l0]
      rw [if_pos (by omega), hw, if_pos (by omega), if_pos (by omega), rd_at l i hi, if_neg (by omega), if_neg (by omega), if_pos ⟨by omega, by omega, by omega⟩]
    · refine ⟨l, Ev.step (f := fun k => some l) (fun k => ?_) (Ev.now _), hs, fun y => ⟨Or.inl, ?_⟩, by omega⟩
      · simp only [waymarkref02_put.l0]
        rw [if_pos (by omega), hw, if_pos (by omega), if_pos (by omega), rd_at l i hi, if_neg (by omega), if_pos hc]
      · rintro (h | h)
        · exact h
        · rw [h, ← hc]; exact List.getElem_mem hi
    · obtain ⟨r, h1, h2⟩ := put_loop l x hs hn i (by omega) (by rw [hdr]; intro y hy; rcases List.mem_cons.1 hy with rfl | hy; exact hc; exact hd y hy)
      refine ⟨r, Ev.step (f := fun k => waymarkref02_put.l0 k l x (i : Int)) (fun k => ?_) h1, h2⟩
      simp only [waymarkref02_put.l0]
      rw [if_pos (by omega), hw, if_pos (by omega), if_pos (by omega), rd_at l i hi, if_pos hc]

/-- Numbers that rise, each from 0 up to m. -/
def Inv (m : Int) (c : List Int) : Prop := c.Pairwise (· < ·) ∧ ∀ y ∈ c, 0 ≤ y ∧ y ≤ m
theorem put_ev (m x : Int) (hx : 0 ≤ x) (c : List Int) (hc : Inv m c) (hn : c.length ≤ 1000000000000) :
    ∃ r, Ev (fun k => waymarkref02_put.f k c x m) r ∧ Inv m r ∧ (∀ y ∈ c, y ∈ r) ∧ (x ≤ m → x ∈ r) ∧ r.length ≤ c.length + 1 := by
  unfold waymarkref02_put.f
  by_cases h : x > m
  · simp only [if_pos h]
    exact ⟨c, Ev.now _, hc, fun _ h => h, fun h2 => by omega, by omega⟩
  · simp only [if_neg h]
    obtain ⟨r, h1, h2, h3, h4⟩ := put_loop c x hc.1 hn c.length (Nat.le_refl _) (by simp)
    refine ⟨r, h1, ⟨h2, fun y hy => ?_⟩, fun y hy => (h3 y).2 (Or.inl hy), fun _ => (h3 x).2 (Or.inr rfl), h4⟩
    rcases (h3 y).1 hy with h5 | h5
    · exact hc.2 y h5
    · rw [h5]; omega

/-- Where each span begins, and where it has ended. -/
def Ends (m : Int) (r : List Int) (T : List Sp) : Prop := ∀ s ∈ T, s.1 ≤ s.2 → (s.1 ≤ m → s.1 ∈ r) ∧ (s.2 < m → s.2 + 1 ∈ r)

theorem rd_sets (SS : List (List Sp)) (j : Nat) (h : j < SS.length) : rd_L12 (SS.map (·.map mk)) (j : Int) = SS[j].map mk := by
  unfold rd_L12
  rw [Int.toNat_natCast, List.getD_eq_getElem?_getD, List.getElem?_map, List.getElem?_eq_getElem h]; rfl

theorem cuts_l1 (m : Int) (hm0 : 0 ≤ m) (hm : m ≤ 4294967295) (SS : List (List Sp)) (j : Nat) (hj : j < SS.length) (hT : ∀ s ∈ SS[j], okS s) (hTl : SS[j].length ≤ 1000000) (G : List Int → Prop) : ∀ (d i : Nat) (c : List Int), i + d = SS[j].length → Inv m c → c.length + 2 * d ≤ 1000000000 →
    (∀ c', Inv m c' → (∀ y ∈ c, y ∈ c') → Ends m c' (SS[j].drop i) → c'.length ≤ c.length + 2 * d → ∃ r, Ev (fun k => waymarkref02_cuts.l0 k m (SS.map (·.map mk)) c' (wrap64 ((j : Int) + 1))) r ∧ G r) →
    ∃ r, Ev (fun k => waymarkref02_cuts.l1 k m (SS.map (·.map mk)) c (j : Int) (i : Int)) r ∧ G r
  | 0, i, c, h, hc, hl, he => by
    obtain ⟨r, h1, h2⟩ := he c hc (fun _ h => h) (by rw [List.drop_of_length_le (by omega)]; intro s hs; cases hs) (by omega)
    refine ⟨r, Ev.step (f := fun k => waymarkref02_cuts.l0 k m (SS.map (·.map mk)) c (wrap64 ((j : Int) + 1))) (fun k => ?_) h1, h2⟩
    simp only [waymarkref02_cuts.l1]
    rw [if_pos (by omega), if_pos (by rw [List.length_map]; omega), rd_sets SS j hj, if_neg (by rw [List.length_map]; omega)]
  | d + 1, i, c, h, hc, hl, he => by
    have hi : i < SS[j].length := by omega
    obtain ⟨q0, q1, q2, q3⟩ := hT SS[j][i] (List.getElem_mem hi)
    have hdr : SS[j].drop i = SS[j][i] :: SS[j].drop (i + 1) := List.drop_eq_getElem_cons hi
    have hwi : wrap64 ((i : Int) + 1) = ((i + 1 : Nat) : Int) := wr1 i SS[j].length hi (by omega)
    by_cases h1 : SS[j][i].1 > SS[j][i].2
    · obtain ⟨r, hr, hg⟩ := cuts_l1 m hm0 hm SS j hj hT hTl G d (i + 1) c (by omega) hc (by omega) (fun c' a1 a2 a3 a4 => he c' a1 a2 (by
        rw [hdr]; intro s hs hss; rcases List.mem_cons.1 hs with rfl | hs; omega; exact a3 s hs hss) (by omega))
      refine ⟨r, Ev.step (f := fun k => waymarkref02_cuts.l1 k m (SS.map (·.map mk)) c (j : Int) ((i + 1 : Nat) : Int)) (fun k => ?_) hr, hg⟩
      simp only [waymarkref02_cuts.l1]
      rw [if_pos (by omega), if_pos (by rw [List.length_map]; omega), rd_sets SS j hj, if_pos (by rw [List.length_map]; omega), if_pos (by omega), rdmk _ i hi, if_pos (show (mk SS[j][i]).f0 > (mk SS[j][i]).f1 from h1), hwi]
    · obtain ⟨c1, e1, i1, s1, n1, l1⟩ := put_ev m SS[j][i].1 q0 c hc (by omega)
      by_cases h2 : SS[j][i].2 < m
      · obtain ⟨c2, e2, i2, s2, n2, l2⟩ := put_ev m (SS[j][i].2 + 1) (by omega) c1 i1 (by omega)
        obtain ⟨r, hr, hg⟩ := cuts_l1 m hm0 hm SS j hj hT hTl G d (i + 1) c2 (by omega) i2 (by omega) (fun c' a1 a2 a3 a4 => he c' a1 (fun y hy => a2 y (s2 y (s1 y hy))) (by
          rw [hdr]; intro s hs hss; rcases List.mem_cons.1 hs with rfl | hs
          · exact ⟨fun h => a2 _ (s2 _ (n1 h)), fun h => a2 _ (n2 (by omega))⟩
          · exact a3 s hs hss) (by omega))
        refine ⟨r, Ev.step (f := fun k => (waymarkref02_put.f k c SS[j][i].1 m).bind fun t169 => ((waymarkref02_put.f k t169 (SS[j][i].2 + 1) m).bind fun t172 => (waymarkref02_cuts.l1 k m (SS.map (·.map mk)) t172 (j : Int) ((i + 1 : Nat) : Int)))) (fun k => ?_) ?_, hg⟩
        · simp only [waymarkref02_cuts.l1]
          rw [if_pos (by omega), if_pos (by rw [List.length_map]; omega), rd_sets SS j hj, if_pos (by rw [List.length_map]; omega), if_pos (by omega), rdmk _ i hi, if_neg (show ¬ (mk SS[j][i]).f0 > (mk SS[j][i]).f1 from h1), hwi]
          simp only [if_pos (show (mk SS[j][i]).f1 < m from h2)]
          rw [show ((mk SS[j][i]).f1 + 1) % 4294967296 = SS[j][i].2 + 1 by show (SS[j][i].2 + 1) % 4294967296 = SS[j][i].2 + 1; omega]
          rfl
        · exact Ev.bind e1 (Ev.bind e2 hr)
      · obtain ⟨r, hr, hg⟩ := cuts_l1 m hm0 hm SS j hj hT hTl G d (i + 1) c1 (by omega) i1 (by omega) (fun c' a1 a2 a3 a4 => he c' a1 (fun y hy => a2 y (s1 y hy)) (by
          rw [hdr]; intro s hs hss; rcases List.mem_cons.1 hs with rfl | hs
          · exact ⟨fun h => a2 _ (n1 h), fun h => by omega⟩
          · exact a3 s hs hss) (by omega))
        refine ⟨r, Ev.step (f := fun k => (waymarkref02_put.f k c SS[j][i].1 m).bind fun t169 => (waymarkref02_cuts.l1 k m (SS.map (·.map mk)) t169 (j : Int) ((i + 1 : Nat) : Int))) (fun k => ?_) ?_, hg⟩
        · simp only [waymarkref02_cuts.l1]
          rw [if_pos (by omega), if_pos (by rw [List.length_map]; omega), rd_sets SS j hj, if_pos (by rw [List.length_map]; omega), if_pos (by omega), rdmk _ i hi, if_neg (show ¬ (mk SS[j][i]).f0 > (mk SS[j][i]).f1 from h1), hwi]
          simp only [if_neg (show ¬ (mk SS[j][i]).f1 < m from h2)]
          rfl
        · exact Ev.bind e1 hr

theorem cuts_l0 (m : Int) (hm0 : 0 ≤ m) (hm : m ≤ 4294967295) (SS : List (List Sp)) (hS : ∀ T ∈ SS, (∀ s ∈ T, okS s) ∧ T.length ≤ 1000000) (hSl : SS.length ≤ 100) : ∀ (d j : Nat) (c : List Int), j + d = SS.length → Inv m c → c.length + 2000000 * d ≤ 1000000000 →
    ∃ r, Ev (fun k => waymarkref02_cuts.l0 k m (SS.map (·.map mk)) c (j : Int)) r ∧ Inv m r ∧ (∀ y ∈ c, y ∈ r) ∧ (∀ T ∈ SS.drop j, Ends m r T) ∧ r.length ≤ c.length + 2000000 * d
  | 0, j, c, h, hc, hl => by
    refine ⟨c, Ev.step (f := fun k => some c) (fun k => ?_) (Ev.now _), hc, fun _ h => h, (by rw [List.drop_of_length_le (by omega)]; intro T hT; cases hT), by omega⟩
    simp only [waymarkref02_cuts.l0]
    rw [if_neg (by rw [List.length_map]; omega)]
  | d + 1, j, c, h, hc, hl => by
    have hj : j < SS.length := by omega
    obtain ⟨hT, hTl⟩ := hS SS[j] (List.getElem_mem hj)
    obtain ⟨r, h1, h2⟩ := cuts_l1 m hm0 hm SS j hj hT hTl (fun r => Inv m r ∧ (∀ y ∈ c, y ∈ r) ∧ (∀ T ∈ SS.drop j, Ends m r T) ∧ r.length ≤ c.length + 2000000 * (d + 1)) SS[j].length 0 c (by omega) hc (by omega) (fun c' a1 a2 a3 a4 => by
      obtain ⟨r, b1, b2, b3, b4, b5⟩ := cuts_l0 m hm0 hm SS hS hSl d (j + 1) c' (by omega) a1 (by omega)
      refine ⟨r, by rw [wr1 j SS.length hj (by omega)]; exact b1, b2, fun y hy => b3 y (a2 y hy), fun T hT => ?_, by omega⟩
      rw [List.drop_eq_getElem_cons hj] at hT
      rcases List.mem_cons.1 hT with rfl | hT
      · rw [List.drop_zero] at a3
        exact fun s hs hss => ⟨fun h => b3 _ ((a3 s hs hss).1 h), fun h => b3 _ ((a3 s hs hss).2 h)⟩
      · exact b4 T hT)
    refine ⟨r, Ev.step (f := fun k => waymarkref02_cuts.l1 k m (SS.map (·.map mk)) c (j : Int) ((0 : Nat) : Int)) (fun k => ?_) h1, h2⟩
    simp only [waymarkref02_cuts.l0]
    rw [if_pos (by rw [List.length_map]; omega)]
    rfl

theorem inv_zero {m : Int} {r : List Int} (h : Inv m r) (h0 : (0 : Int) ∈ r) : ∃ rest, r = 0 :: rest := by
  match r, h, h0 with
  | a :: rest, h, h0 =>
    rcases List.mem_cons.1 h0 with h1 | h1
    · exact ⟨rest, by rw [← h1]⟩
    · have h2 := (List.pairwise_cons.1 h.1).1 0 h1
      have h3 := (h.2 a List.mem_cons_self).1
      omega
theorem cuts_ev (m : Int) (hm0 : 0 ≤ m) (hm : m ≤ 4294967295) (SS : List (List Sp)) (hS : ∀ T ∈ SS, (∀ s ∈ T, okS s) ∧ T.length ≤ 1000000) (hSl : SS.length ≤ 100) :
    ∃ rest, Ev (fun k => waymarkref02_cuts.f k m (SS.map (·.map mk))) (0 :: rest) ∧ Cuts m (0 :: rest) ∧ (∀ T ∈ SS, Ends m (0 :: rest) T) ∧ rest.length ≤ 2000000 * SS.length := by
  obtain ⟨r, h1, h2, h3, h4, h5⟩ := cuts_l0 m hm0 hm SS hS hSl SS.length 0 [0] (by omega) ⟨List.pairwise_singleton _ _, by intro y hy; rw [List.mem_singleton.1 hy]; omega⟩ (by simp; omega)
  obtain ⟨rest, rfl⟩ := inv_zero h2 (h3 0 (by simp))
  refine ⟨rest, h1, h2, fun T hT => h4 T (by simpa using hT), ?_⟩
  simp only [List.length_cons, List.length_nil] at h5
  omega

theorem mem_step {m : Int} {r : List Int} {T : List Sp} (he : Ends m r T) (hT : ∀ s ∈ T, okS s) (x : Int) (h0 : 0 < x) (hx : x ≤ m) (hn : x ∉ r) : memB T x = memB T (x - 1) := by
  refine memB_eq ?_
  constructor
  · rintro ⟨s, hs, h1, h2⟩
    have h3 := he s hs (by omega)
    refine ⟨s, hs, ?_, by omega⟩
    rcases Int.lt_or_le s.1 x with h4 | h4
    · omega
    · exact absurd (h3.1 (by omega)) (by rw [show s.1 = x by omega]; exact hn)
  · rintro ⟨s, hs, h1, h2⟩
    have h3 := he s hs (by omega)
    refine ⟨s, hs, by omega, ?_⟩
    rcases Int.lt_or_le s.2 x with h4 | h4
    · exact absurd (h3.2 (by omega)) (by rw [show s.2 + 1 = x by omega]; exact hn)
    · exact h4
theorem so_const {m : Int} {r : List Int} {L M : List Sp} (hL : Ends m r L) (hM : Ends m r M) (oL : ∀ s ∈ L, okS s) (oM : ∀ s ∈ M, okS s) (how : Int) : Const m (soB L M how) r := by
  intro x h0 hx hn
  unfold soB
  rw [mem_step hL oL x h0 hx hn, mem_step hM oM x h0 hx hn]

/-! ### From cut to cut -/
theorem made_loop (m : Int) (hm0 : 0 ≤ m) (hm : m ≤ 4294967295) (L M : List Sp) (hLl : L.length ≤ 1000000) (hMl : M.length ≤ 1000000) (how : Int) (r : List Int) (hr : Inv m r) (hrl : r.length ≤ 1000000000) : ∀ (d i : Nat) (out : List Sp), i + d = r.length → (∀ t ∈ out, okS t) → (∀ t ∈ out, ∀ c ∈ r.drop i, t.2 < c) → out.length + d ≤ 10000000000 →
    Ev (fun k => waymarkref02_made.l0 k m (L.map mk) (M.map mk) how (out.map mk) r (i : Int)) (((segs m (soB L M how) (r.drop i)).foldl put out).map mk)
  | 0, i, out, h, ho, hc, hl => by
    rw [List.drop_of_length_le (by omega)]
    exact Ev.step (f := fun k => some (out.map mk)) (fun k => by simp only [waymarkref02_made.l0]; rw [if_neg (by omega)]) (Ev.now _)
  | d + 1, i, out, h, ho, hc, hl => by
    have hi : i < r.length := by omega
    have hdr : r.drop i = r[i] :: r.drop (i + 1) := List.drop_eq_getElem_cons hi
    have hwi : wrap64 ((i : Int) + 1) = ((i + 1 : Nat) : Int) := wr1 i r.length hi (by omega)
    obtain ⟨g0, g1⟩ := hr.2 r[i] (List.getElem_mem hi)
    have hgt : ∀ c ∈ r.drop (i + 1), r[i] < c := by
      have hp : (r.drop i).Pairwise (· < ·) := hr.1.sublist (List.drop_sublist _ _)
      rw [hdr] at hp
      exact (List.pairwise_cons.1 hp).1
    have hso := so_ev L M how r[i] (by omega) (by omega)
    refine Ev.succ ?_
    simp only [waymarkref02_made.l0, rd_at r i hi, hwi]
    simp only [if_pos (show (i : Int) < (r.length : Int) by omega), if_pos (show (0 : Int) ≤ (i : Int) by omega)]
    refine Ev.bind hso ?_
    rw [hdr]
    simp only [segs]
    cases hp : soB L M how r[i]
    · simp only [Bool.false_eq_true, if_false]
      exact made_loop m hm0 hm L M hLl hMl how r hr hrl d (i + 1) out (by omega) ho (fun t ht c hc2 => hc t ht c (by rw [hdr]; exact List.mem_cons_of_mem _ hc2)) (by omega)
    · simp only [if_true, List.foldl_cons]
      -- the span's end
      obtain ⟨hi', hhi⟩ : ∃ h, h = hiOf m (r.drop (i + 1)) := ⟨_, rfl⟩
      have hhi2 : (i + 1 < r.length → hi' = rd r ((i + 1 : Nat) : Int) - 1) ∧ (¬ i + 1 < r.length → hi' = m) := by
        constructor
        · intro hlt
          rw [hhi, List.drop_eq_getElem_cons hlt, rd_at r (i + 1) hlt]; rfl
        · intro hge
          rw [hhi, List.drop_of_length_le (by omega)]; rfl
      have hhb : r[i] ≤ hi' ∧ hi' ≤ m ∧ ∀ c ∈ r.drop (i + 1), hi' < c := by
        by_cases hlt : i + 1 < r.length
        · have e := hhi2.1 hlt
          rw [rd_at r (i + 1) hlt] at e
          have hdr2 : r.drop (i + 1) = r[i + 1] :: r.drop (i + 1 + 1) := List.drop_eq_getElem_cons hlt
          have q1 := hgt r[i + 1] (by rw [hdr2]; exact List.mem_cons_self)
          have q2 := (hr.2 r[i + 1] (List.getElem_mem hlt)).2
          refine ⟨by omega, by omega, fun c hc2 => ?_⟩
          have hp2 : (r.drop (i + 1)).Pairwise (· < ·) := hr.1.sublist (List.drop_sublist _ _)
          rw [hdr2] at hp2 hc2
          rcases List.mem_cons.1 hc2 with rfl | hc2
          · omega
          · have := (List.pairwise_cons.1 hp2).1 c hc2; omega
        · have e := hhi2.2 hlt
          exact ⟨by omega, by omega, fun c hc2 => by rw [List.drop_of_length_le (by omega)] at hc2; cases hc2⟩
      rw [← hhi]
      have hok : okS (r[i], hi') := by unfold okS; exact ⟨by omega, by omega, by show 0 ≤ hi'; omega, by show hi' ≤ 4294967295; omega⟩
      have hpo := put_okS ho hok
      have hpl := put_len out (r[i], hi')
      have hpc : ∀ t ∈ put out (r[i], hi'), ∀ c ∈ r.drop (i + 1), t.2 < c := by
        intro t ht c hc2
        have q1 := hhb.2.2 c hc2
        have q2 : ∀ t ∈ out, t.2 < c := fun t ht => hc t ht c (by rw [hdr]; exact List.mem_cons_of_mem _ hc2)
        rcases List.eq_nil_or_concat out with rfl | ⟨o, t0, rfl⟩
        · rw [put_nil] at ht; rw [List.mem_singleton.1 ht]; exact q1
        · rw [List.concat_eq_append] at *
          rw [put_snoc] at ht
          have q3 := q2 t0 (by simp)
          split at ht
          · rcases List.mem_append.1 ht with h5 | h5
            · exact q2 t (by simp [h5])
            · rw [List.mem_singleton.1 h5]; show max t0.2 hi' < c; omega
          · rcases List.mem_append.1 ht with h5 | h5
            · exact q2 t h5
            · rw [List.mem_singleton.1 h5]; exact q1
      have ih := made_loop m hm0 hm L M hLl hMl how r hr hrl d (i + 1) (put out (r[i], hi')) (by omega) hpo hpc (by omega)
      -- where the span goes
      have key : ∀ k, (if ((out.map mk).length : Int) > 0 then (if 0 ≤ (wrap64 (((out.map mk).length : Int) - 1)) then (if (wrap64 (((out.map mk).length : Int) - 1)) < ((out.map mk).length : Int) then (if ((((rd_T31 (out.map mk) (wrap64 (((out.map mk).length : Int) - 1))).f1) + 1) % 4294967296) = r[i] then (if r[i] > 0 then (waymarkref02_made.l0 k m (L.map mk) (M.map mk) how ((out.map mk).set ((wrap64 (((out.map mk).length : Int) - 1)) : Int).toNat (⟨(rd_T31 (out.map mk) (wrap64 (((out.map mk).length : Int) - 1))).f0, hi'⟩ : S31)) r ((i + 1 : Nat) : Int)) else (if (out.map mk).length < 17592186044416 then (waymarkref02_made.l0 k m (L.map mk) (M.map mk) how ((out.map mk) ++ [(⟨r[i], hi'⟩ : S31)]) r ((i + 1 : Nat) : Int)) else (none))) else (if (out.map mk).length < 17592186044416 then (waymarkref02_made.l0 k m (L.map mk) (M.map mk) how ((out.map mk) ++ [(⟨r[i], hi'⟩ : S31)]) r ((i + 1 : Nat) : Int)) else (none))) else (none)) else (none)) else (if (out.map mk).length < 17592186044416 then (waymarkref02_made.l0 k m (L.map mk) (M.map mk) how ((out.map mk) ++ [(⟨r[i], hi'⟩ : S31)]) r ((i + 1 : Nat) : Int)) else (none))) = waymarkref02_made.l0 k m (L.map mk) (M.map mk) how ((put out (r[i], hi')).map mk) r ((i + 1 : Nat) : Int) := by
        intro k
        rcases List.eq_nil_or_concat out with rfl | ⟨o, t, rfl⟩
        · rw [if_neg (by simp), if_pos (by simp), put_nil]; rfl
        · rw [List.concat_eq_append] at *
          have hlen : ((o ++ [t]).map mk).length = o.length + 1 := by simp
          have hol : o.length + 1 ≤ 10000000000 := by simp at hl; omega
          have ht := ho t (by simp)
          have htc := hc t (by simp) r[i] (by rw [hdr]; exact List.mem_cons_self)
          have hrd : rd_T31 ((o ++ [t]).map mk) (o.length : Int) = mk t := by
            rw [rdmk _ _ (by simp)]; simp
          rw [hlen, if_pos (by omega), wrm _ (by omega), if_pos (by omega), if_pos (by omega), hrd, put_snoc]
          have hset : (((o ++ [t]).map mk).set (o.length : Int).toNat (⟨(mk t).f0, hi'⟩ : S31)) = (o ++ [(t.1, hi')]).map mk := by
            rw [Int.toNat_natCast, List.map_append, List.map_append, List.set_append_right _ _ (by simp)]
            simp [mk]
          have happ : ((o ++ [t]).map mk) ++ [(⟨r[i], hi'⟩ : S31)] = (o ++ [t] ++ [(r[i], hi')]).map mk := by
            rw [List.map_append (l₁ := o ++ [t])]; rfl
          unfold okS at ht
          have hmod : ((mk t).f1 + 1) % 4294967296 = t.2 + 1 := by show (t.2 + 1) % 4294967296 = t.2 + 1; omega
          rw [hmod, hset, happ]
          by_cases hj : t.2 + 1 = r[i]
          · rw [if_pos hj, if_pos (by omega), if_pos (by show r[i] ≤ t.2 + 1; omega), show max t.2 (r[i], hi').2 = hi' by show max t.2 hi' = hi'; omega]
          · rw [if_neg hj, if_pos (by omega), if_neg (by show ¬ r[i] ≤ t.2 + 1; omega)]
      by_cases hlt : i + 1 < r.length
      · have e := hhi2.1 hlt
        have em : (rd r ((i + 1 : Nat) : Int) - 1) % 4294967296 = hi' := by rw [← e]; omega
        simp only [if_pos (show (((i + 1 : Nat) : Int)) < (r.length : Int) by omega), if_pos (show (0 : Int) ≤ ((i + 1 : Nat) : Int) by omega), em]
        exact Ev.congr key ih
      · have e := hhi2.2 hlt
        simp only [if_neg (show ¬ (((i + 1 : Nat) : Int)) < (r.length : Int) by omega)]
        rw [← e]
        rw [← e] at ih
        exact Ev.congr (fun k => by have := key k; rw [← e] at this; exact this) ih

end Go.Proofs.Ytmoagoopdfpcnaa.Q
