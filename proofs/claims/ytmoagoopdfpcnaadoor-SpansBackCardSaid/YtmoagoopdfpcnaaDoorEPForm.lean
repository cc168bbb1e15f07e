/- The form of a list of spans is the form of a set of numbers: plain lists and numbers. -/
import Derived.Test.YtmoagoopdfpcnaaDoorQx0
import Derived.Test.YtmoagoopdfpcnaaDoorEEv
import Derived.OpenShut
import Derived.Test.YtmoagoopdfpcnaaDoorEOp
import Derived.Test.YtmoagoopdfpcnaaDoorQx16
namespace Go.Proofs.YtmoagoopdfpcnaaDoor.SpMath
abbrev Sp := Int × Int

/-- A number is in a list of spans. -/
def Mem (l : List Sp) (x : Int) : Prop := ∃ s, s ∈ l ∧ s.1 ≤ x ∧ x ≤ s.2

theorem mem_nil (x : Int) : Mem [] x ↔ False := by simp [Mem]
theorem mem_cons (s : Sp) (l : List Sp) (x : Int) : Mem (s :: l) x ↔ (s.1 ≤ x ∧ x ≤ s.2) ∨ Mem l x := by
  simp [Mem, List.mem_cons]
theorem mem_append (l m : List Sp) (x : Int) : Mem (l ++ m) x ↔ Mem l x ∨ Mem m x := by
  constructor
  · rintro ⟨s, hs, h⟩
    rcases List.mem_append.1 hs with h1 | h1
    · exact .inl ⟨s, h1, h⟩
    · exact .inr ⟨s, h1, h⟩
  · rintro (⟨s, hs, h⟩ | ⟨s, hs, h⟩)
    · exact ⟨s, List.mem_append.2 (.inl hs), h⟩
    · exact ⟨s, List.mem_append.2 (.inr hs), h⟩
theorem mem_one (s : Sp) (x : Int) : Mem [s] x ↔ s.1 ≤ x ∧ x ≤ s.2 := by simp [Mem]
theorem mem_perm {l m : List Sp} (h : l.Perm m) (x : Int) : Mem l x ↔ Mem m x := by
  unfold Mem
  constructor
  · rintro ⟨s, hs, h1⟩; exact ⟨s, h.mem_iff.1 hs, h1⟩
  · rintro ⟨s, hs, h1⟩; exact ⟨s, h.mem_iff.2 hs, h1⟩
theorem mem_filter_some (l : List Sp) (x : Int) : Mem (l.filter fun s => decide (s.1 ≤ s.2)) x ↔ Mem l x := by
  unfold Mem
  constructor
  · rintro ⟨s, hs, h⟩; exact ⟨s, (List.mem_filter.1 hs).1, h⟩
  · rintro ⟨s, hs, h⟩; exact ⟨s, List.mem_filter.2 ⟨hs, by simp; omega⟩, h⟩

/-- In its form: none empty, each begins above the end of the one ahead, and one more. -/
def InForm (l : List Sp) : Prop := (∀ s, s ∈ l → s.1 ≤ s.2) ∧ l.Pairwise fun a b => a.2 + 1 < b.1

theorem inForm_nil : InForm [] := ⟨by simp, List.Pairwise.nil⟩
theorem inForm_cons {s : Sp} {l : List Sp} : InForm (s :: l) ↔ s.1 ≤ s.2 ∧ (∀ t, t ∈ l → s.2 + 1 < t.1) ∧ InForm l := by
  unfold InForm
  rw [List.pairwise_cons]
  constructor
  · rintro ⟨h1, h2, h3⟩
    exact ⟨h1 s (by simp), h2, fun t ht => h1 t (by simp [ht]), h3⟩
  · rintro ⟨h1, h2, h3, h4⟩
    refine ⟨fun t ht => ?_, h2, h4⟩
    rcases List.mem_cons.1 ht with rfl | ht
    · exact h1
    · exact h3 t ht
theorem inForm_snoc {s : Sp} {l : List Sp} : InForm (l ++ [s]) ↔ InForm l ∧ s.1 ≤ s.2 ∧ (∀ t, t ∈ l → t.2 + 1 < s.1) := by
  unfold InForm
  rw [List.pairwise_append]
  constructor
  · rintro ⟨h1, h2, _, h3⟩
    exact ⟨⟨fun t ht => h1 t (by simp [ht]), h2⟩, h1 s (by simp), fun t ht => h3 t ht s (by simp)⟩
  · rintro ⟨⟨h1, h2⟩, h3, h4⟩
    refine ⟨fun t ht => ?_, h2, by simp, fun t ht u hu => ?_⟩
    · rcases List.mem_append.1 ht with ht | ht
      · exact h1 t ht
      · simp at ht; subst ht; exact h3
    · simp at hu; subst hu; exact h4 t ht

/-- Two lists in their form with the same numbers are one list. -/
theorem form_unique : ∀ (a b : List Sp), InForm a → InForm b → (∀ x, Mem a x ↔ Mem b x) → a = b
  | [], [], _, _, _ => rfl
  | [], t :: b, _, hb, h => by
    have := (h t.1).2 ⟨t, by simp, by omega, (inForm_cons.1 hb).1⟩
    simp [mem_nil] at this
  | s :: a, [], ha, _, h => by
    have := (h s.1).1 ⟨s, by simp, by omega, (inForm_cons.1 ha).1⟩
    simp [mem_nil] at this
  | s :: a, t :: b, ha, hb, h => by
    obtain ⟨hs, hsa, ha'⟩ := inForm_cons.1 ha
    obtain ⟨ht, htb, hb'⟩ := inForm_cons.1 hb
    have la : ∀ x, Mem a x → s.2 + 1 < x := fun x ⟨u, hu, h1, _⟩ => by have := hsa u hu; omega
    have lb : ∀ x, Mem b x → t.2 + 1 < x := fun x ⟨u, hu, h1, _⟩ => by have := htb u hu; omega
    have e1 : s.1 = t.1 := by
      have h1 := (h s.1).1 ((mem_cons ..).2 (.inl ⟨by omega, hs⟩))
      have h2 := (h t.1).2 ((mem_cons ..).2 (.inl ⟨by omega, ht⟩))
      rw [mem_cons] at h1 h2
      rcases h1 with h1 | h1 <;> rcases h2 with h2 | h2
      · omega
      · have := la _ h2; omega
      · have := lb _ h1; omega
      · have := la _ h2; have := lb _ h1; omega
    have e2 : s.2 = t.2 := by
      rcases Int.lt_trichotomy s.2 t.2 with hlt | heq | hgt
      · have h2 := (h (s.2 + 1)).2 ((mem_cons ..).2 (.inl ⟨by omega, by omega⟩))
        rw [mem_cons] at h2
        rcases h2 with h2 | h2
        · omega
        · have := la _ h2; omega
      · exact heq
      · have h2 := (h (t.2 + 1)).1 ((mem_cons ..).2 (.inl ⟨by omega, by omega⟩))
        rw [mem_cons] at h2
        rcases h2 with h2 | h2
        · omega
        · have := lb _ h2; omega
    have est : s = t := by cases s; cases t; simp at e1 e2; simp [e1, e2]
    subst est
    have := form_unique a b ha' hb' fun x => by
      have hx := h x
      rw [mem_cons, mem_cons] at hx
      constructor
      · intro hm
        rcases hx.1 (.inr hm) with h1 | h1
        · have := la _ hm; omega
        · exact h1
      · intro hm
        rcases hx.2 (.inr hm) with h1 | h1
        · have := lb _ hm; omega
        · exact h1
    rw [this]

/-! ### The form of a list -/
def leSp (a b : Sp) : Bool := decide (a.1 < b.1) || (decide (a.1 = b.1) && decide (a.2 ≤ b.2))
theorem leSp_trans (a b c : Sp) (h1 : leSp a b = true) (h2 : leSp b c = true) : leSp a c = true := by
  simp [leSp] at *; omega
theorem leSp_total (a b : Sp) : (leSp a b || leSp b a) = true := by
  simp [leSp]; omega
theorem leSp_antisymm {a b : Sp} (h1 : leSp a b = true) (h2 : leSp b a = true) : a = b := by
  cases a; cases b; simp [leSp] at *; omega

/-- A span put behind what is in form. -/
def put (out : List Sp) (s : Sp) : List Sp :=
  match out.getLast? with
  | none => [s]
  | some t => if s.1 ≤ t.2 + 1 then out.dropLast ++ [(t.1, max t.2 s.2)] else out ++ [s]
def merge (l : List Sp) : List Sp := l.foldl put []
def some_ (l : List Sp) : List Sp := l.filter fun s => decide (s.1 ≤ s.2)
def formF (l : List Sp) : List Sp := merge ((some_ l).mergeSort leSp)

theorem put_nil (s : Sp) : put [] s = [s] := rfl
theorem put_snoc (out : List Sp) (t s : Sp) : put (out ++ [t]) s = if s.1 ≤ t.2 + 1 then out ++ [(t.1, max t.2 s.2)] else out ++ [t] ++ [s] := by
  simp [put]

theorem put_ok {out : List Sp} {s : Sp} (ho : InForm out) (hs : s.1 ≤ s.2) (hle : ∀ t, t ∈ out → t.1 ≤ s.1) :
    InForm (put out s) ∧ (∀ x, Mem (put out s) x ↔ Mem out x ∨ (s.1 ≤ x ∧ x ≤ s.2)) ∧ (∀ t, t ∈ put out s → t.1 ≤ s.1) := by
  rcases List.eq_nil_or_concat out with rfl | ⟨l, t, rfl⟩
  · rw [put_nil]
    exact ⟨inForm_snoc (l := []).2 ⟨inForm_nil, hs, by simp⟩, fun x => by rw [mem_one, mem_nil]; simp, fun t ht => by simp at ht; subst ht; omega⟩
  · rw [List.concat_eq_append] at *
    rw [put_snoc]
    obtain ⟨h1, h2, h3⟩ := inForm_snoc.1 ho
    have ht1 := hle t (by simp)
    split
    · rename_i hc
      refine ⟨inForm_snoc.2 ⟨h1, by show t.1 ≤ max t.2 s.2; omega, h3⟩, fun x => ?_, fun u hu => ?_⟩
      · rw [mem_append, mem_append, mem_one, mem_one]
        show _ ∨ (t.1 ≤ x ∧ x ≤ max t.2 s.2) ↔ _
        constructor
        · rintro (h | h)
          · exact .inl (.inl h)
          · by_cases hx : x ≤ t.2
            · exact .inl (.inr ⟨h.1, hx⟩)
            · exact .inr ⟨by omega, by omega⟩
        · rintro ((h | h) | h)
          · exact .inl h
          · exact .inr ⟨h.1, by omega⟩
          · exact .inr ⟨by omega, by omega⟩
      · rcases List.mem_append.1 hu with hu | hu
        · exact hle u (by simp [hu])
        · simp at hu; subst hu; exact ht1
    · rename_i hc
      refine ⟨inForm_snoc.2 ⟨ho, hs, fun u hu => ?_⟩, fun x => by rw [mem_append, mem_one], fun u hu => ?_⟩
      · rcases List.mem_append.1 hu with hu | hu
        · have := h3 u hu; omega
        · simp at hu; subst hu; omega
      · rcases List.mem_append.1 hu with hu | hu
        · exact hle u hu
        · simp at hu; subst hu; omega

theorem foldl_put_ok : ∀ (l out : List Sp), InForm out → (∀ s, s ∈ l → s.1 ≤ s.2) → l.Pairwise (fun a b => a.1 ≤ b.1) → (∀ t, t ∈ out → ∀ s, s ∈ l → t.1 ≤ s.1) →
    InForm (l.foldl put out) ∧ ∀ x, Mem (l.foldl put out) x ↔ Mem out x ∨ Mem l x
  | [], out, ho, _, _, _ => ⟨ho, fun x => by simp [mem_nil]⟩
  | s :: l, out, ho, hs, hp, hle => by
    obtain ⟨hp1, hp2⟩ := List.pairwise_cons.1 hp
    obtain ⟨p1, p2, p3⟩ := put_ok ho (hs s (by simp)) (fun t ht => hle t ht s (by simp))
    obtain ⟨q1, q2⟩ := foldl_put_ok l (put out s) p1 (fun t ht => hs t (by simp [ht])) hp2 (fun t ht u hu => by have := p3 t ht; have := hp1 u hu; omega)
    exact ⟨q1, fun x => by rw [List.foldl_cons, q2, p2, mem_cons, or_assoc]⟩

theorem sorted_le (l : List Sp) : (l.mergeSort leSp).Pairwise fun a b => a.1 ≤ b.1 :=
  (List.pairwise_mergeSort leSp_trans leSp_total l).imp fun h => by simp [leSp] at h; omega

theorem form_ok (l : List Sp) : InForm (formF l) ∧ ∀ x, Mem (formF l) x ↔ Mem l x := by
  have h := foldl_put_ok ((some_ l).mergeSort leSp) [] inForm_nil
    (fun s hs => by have := (List.mergeSort_perm (some_ l) leSp).mem_iff.1 hs; unfold some_ at this; have := (List.mem_filter.1 this).2; simpa using this)
    (sorted_le _) (by simp)
  refine ⟨h.1, fun x => ?_⟩
  show Mem (List.foldl put [] _) x ↔ _
  rw [h.2, mem_nil, mem_perm (List.mergeSort_perm (some_ l) leSp), some_, mem_filter_some]
  simp

theorem form_of_form {l : List Sp} (h : InForm l) : formF l = l := form_unique _ _ (form_ok l).1 h (form_ok l).2
theorem form_eq {a b : List Sp} (h : ∀ x, Mem a x ↔ Mem b x) : formF a = formF b :=
  form_unique _ _ (form_ok a).1 (form_ok b).1 fun x => by rw [(form_ok a).2, (form_ok b).2, h]
theorem form_of {a b : List Sp} (hb : InForm b) (h : ∀ x, Mem a x ↔ Mem b x) : formF a = b :=
  form_unique _ _ (form_ok a).1 hb fun x => by rw [(form_ok a).2, h]

/-- A sorted list with the same members is the merge-sorted one. -/
theorem sort_unique {l m : List Sp} (hp : m.Perm l) (hs : m.Pairwise fun a b => leSp a b = true) : m = l.mergeSort leSp :=
  List.Perm.eq_of_pairwise (le := fun a b => leSp a b = true) (fun _ _ _ _ h1 h2 => leSp_antisymm h1 h2) hs (List.pairwise_mergeSort leSp_trans leSp_total l) (hp.trans (List.mergeSort_perm l leSp).symm)

/-! ### In both -/
def meet (s t : Sp) : Sp := (max s.1 t.1, min s.2 t.2)
def meets (a b : List Sp) : List Sp := a.flatMap fun s => (b.map (meet s)).filter fun x => decide (x.1 ≤ x.2)
def andF (a b : List Sp) : List Sp := formF (meets (formF a) (formF b))
theorem mem_meets (a b : List Sp) (x : Int) : Mem (meets a b) x ↔ Mem a x ∧ Mem b x := by
  unfold meets Mem
  constructor
  · rintro ⟨u, hu, h⟩
    obtain ⟨s, hs, hu⟩ := List.mem_flatMap.1 hu
    obtain ⟨hu, _⟩ := List.mem_filter.1 hu
    obtain ⟨t, ht, rfl⟩ := List.mem_map.1 hu
    simp only [meet] at h
    exact ⟨⟨s, hs, by omega, by omega⟩, ⟨t, ht, by omega, by omega⟩⟩
  · rintro ⟨⟨s, hs, h1⟩, ⟨t, ht, h2⟩⟩
    refine ⟨meet s t, List.mem_flatMap.2 ⟨s, hs, List.mem_filter.2 ⟨List.mem_map.2 ⟨t, ht, rfl⟩, ?_⟩⟩, ?_⟩
    · show decide (max s.1 t.1 ≤ min s.2 t.2) = true; rw [decide_eq_true_eq]; omega
    · show max s.1 t.1 ≤ x ∧ x ≤ min s.2 t.2; omega
theorem and_ok (a b : List Sp) : InForm (andF a b) ∧ ∀ x, Mem (andF a b) x ↔ Mem a x ∧ Mem b x :=
  ⟨(form_ok _).1, fun x => by unfold andF; rw [(form_ok _).2, mem_meets, (form_ok a).2, (form_ok b).2]⟩

/-! ### Not in a set -/
/-- One span of the form: what is free between 'at' and it. -/
def notStep (most : Int) (r : List Sp × Int) (s : Sp) : List Sp × Int :=
  (if s.1 > r.2 ∧ r.2 ≤ most then r.1 ++ [(r.2, min (s.1 - 1) most)] else r.1, s.2 + 1)
def notEnd (most : Int) (r : List Sp × Int) : List Sp := if r.2 ≤ most then r.1 ++ [(r.2, most)] else r.1
def notF (l : List Sp) (most : Int) : List Sp := notEnd most ((formF l).foldl (notStep most) ([], 0))
def lessF (a b : List Sp) : List Sp := andF a (notF b 4294967295)
def orF (a b : List Sp) : List Sp := formF (a ++ b)

theorem notStep_ok {most : Int} : ∀ (f : List Sp) (out : List Sp) (at_ : Int), InForm f → (∀ s, s ∈ f → at_ ≤ s.1) → InForm out → (∀ t, t ∈ out → t.2 + 1 < at_) →
    (∀ t, t ∈ out → t.2 ≤ most) →
    ∀ r, f.foldl (notStep most) (out, at_) = r → InForm (notEnd most r) ∧ ∀ x, Mem (notEnd most r) x ↔ Mem out x ∨ (at_ ≤ x ∧ x ≤ most ∧ ¬ Mem f x)
  | [], out, at_, _, _, ho, hlt, _, r, hr => by
    simp at hr
    subst hr
    unfold notEnd
    simp only
    split
    · rename_i h
      exact ⟨inForm_snoc.2 ⟨ho, h, hlt⟩, fun x => by rw [mem_append, mem_one, mem_nil]; simp⟩
    · rename_i h
      refine ⟨ho, fun x => ?_⟩
      rw [mem_nil]
      constructor
      · exact .inl
      · rintro (h1 | h1)
        · exact h1
        · omega
  | s :: f, out, at_, hf, hge, ho, hlt, hm, r, hr => by
    obtain ⟨h1, h2, h3⟩ := inForm_cons.1 hf
    have hs := hge s (by simp)
    rw [List.foldl_cons] at hr
    unfold notStep at hr
    by_cases hc : s.1 > at_ ∧ at_ ≤ most
    · simp only [hc, and_self, if_true] at hr
      have ho' : InForm (out ++ [(at_, min (s.1 - 1) most)]) := inForm_snoc.2 ⟨ho, by show at_ ≤ min (s.1 - 1) most; omega, hlt⟩
      obtain ⟨q1, q2⟩ := notStep_ok f (out ++ [(at_, min (s.1 - 1) most)]) (s.2 + 1) h3 (fun t ht => by have := h2 t ht; omega) ho'
        (fun t ht => by
          rcases List.mem_append.1 ht with ht | ht
          · have := hlt t ht; omega
          · simp at ht; subst ht; show min (s.1 - 1) most + 1 < s.2 + 1; omega)
        (fun t ht => by
          rcases List.mem_append.1 ht with ht | ht
          · exact hm t ht
          · simp at ht; subst ht; show min (s.1 - 1) most ≤ most; omega) r hr
      refine ⟨q1, fun x => ?_⟩
      rw [q2, mem_append, mem_one, mem_cons]
      show (Mem out x ∨ at_ ≤ x ∧ x ≤ min (s.1 - 1) most) ∨ s.2 + 1 ≤ x ∧ x ≤ most ∧ ¬Mem f x ↔ _
      have hnf : x ≤ s.2 + 1 → ¬ Mem f x := fun hx ⟨u, hu, hu1, _⟩ => by have := h2 u hu; omega
      constructor
      · rintro ((h | h) | h)
        · exact .inl h
        · exact .inr ⟨by omega, by omega, by rintro (h5 | h5); omega; exact hnf (by omega) h5⟩
        · exact .inr ⟨by omega, by omega, by rintro (h5 | h5); omega; exact h.2.2 h5⟩
      · rintro (h | ⟨ha, hb, hn⟩)
        · exact .inl (.inl h)
        · by_cases hx : x < s.1
          · exact .inl (.inr ⟨ha, by omega⟩)
          · have : ¬ x ≤ s.2 := fun h5 => hn (.inl ⟨by omega, h5⟩)
            exact .inr ⟨by omega, hb, fun h5 => hn (.inr h5)⟩
    · simp only [if_neg hc] at hr
      obtain ⟨q1, q2⟩ := notStep_ok f out (s.2 + 1) h3 (fun t ht => by have := h2 t ht; omega) ho (fun t ht => by have := hlt t ht; omega) hm r hr
      refine ⟨q1, fun x => ?_⟩
      rw [q2, mem_cons]
      constructor
      · rintro (h | h)
        · exact .inl h
        · exact .inr ⟨by omega, h.2.1, by rintro (h5 | h5); omega; exact h.2.2 h5⟩
      · rintro (h | ⟨ha, hb, hn⟩)
        · exact .inl h
        · have : ¬ x ≤ s.2 := fun h5 => hn (.inl ⟨by omega, h5⟩)
          exact .inr ⟨by omega, hb, fun h5 => hn (.inr h5)⟩

def Nonneg (l : List Sp) : Prop := ∀ s, s ∈ l → 0 ≤ s.1
theorem Nonneg.form {l : List Sp} (h : Nonneg l) : Nonneg (formF l) := fun s hs => by
  obtain ⟨t, ht, h1, _⟩ := ((form_ok l).2 s.1).1 ⟨s, hs, by omega, (form_ok l).1.1 s hs⟩
  have := h t ht; omega
theorem not_ok (l : List Sp) (most : Int) (hl : Nonneg l) : InForm (notF l most) ∧ ∀ x, Mem (notF l most) x ↔ 0 ≤ x ∧ x ≤ most ∧ ¬ Mem l x := by
  obtain ⟨h1, h2⟩ := notStep_ok (most := most) (formF l) [] 0 (form_ok l).1 hl.form inForm_nil (by simp) (by simp) _ rfl
  exact ⟨h1, fun x => by unfold notF; rw [h2, (form_ok l).2, mem_nil]; simp⟩

/-! ### From cut to cut -/
def hiOf (most : Int) (rest : List Int) : Int := match rest with | [] => most | c :: _ => c - 1
/-- The spans from cut to cut at which p holds. -/
def segs (most : Int) (p : Int → Bool) : List Int → List Sp
  | [] => []
  | c :: rest => if p c then (c, hiOf most rest) :: segs most p rest else segs most p rest
def Cuts (most : Int) (l : List Int) : Prop := l.Pairwise (· < ·) ∧ ∀ c, c ∈ l → 0 ≤ c ∧ c ≤ most
/-- p is the same from each cut up to the next one. -/
def Const (most : Int) (p : Int → Bool) (l : List Int) : Prop := ∀ x, 0 < x → x ≤ most → x ∉ l → p x = p (x - 1)

theorem const_run {most : Int} {p : Int → Bool} {l : List Int} (h : Const most p l) (c : Int) (hc : 0 ≤ c) : ∀ (n : Nat), c + n ≤ most → (∀ y, c < y → y ≤ c + n → y ∉ l) → p (c + n) = p c
  | 0, _, _ => by simp
  | n + 1, hm, hn => by
    have h1 := const_run h c hc n (by omega) (fun y h1 h2 => hn y h1 (by omega))
    have h2 := h (c + (n + 1 : Nat)) (by omega) hm (hn _ (by omega) (by omega))
    rw [h2, ← h1]
    congr 1
    omega

theorem segs_sorted {most : Int} {p : Int → Bool} : ∀ {l : List Int}, l.Pairwise (· < ·) → (segs most p l).Pairwise (fun a b => a.1 ≤ b.1) ∧ ∀ s, s ∈ segs most p l → s.1 ∈ l
  | [], _ => by simp [segs]
  | c :: rest, h => by
    obtain ⟨h1, h2⟩ := List.pairwise_cons.1 h
    obtain ⟨q1, q2⟩ := segs_sorted (most := most) (p := p) h2
    unfold segs
    split
    · refine ⟨List.pairwise_cons.2 ⟨fun s hs => ?_, q1⟩, fun s hs => ?_⟩
      · have := h1 _ (q2 s hs); show c ≤ s.1; omega
      · rcases List.mem_cons.1 hs with rfl | hs
        · simp
        · simp [q2 s hs]
    · exact ⟨q1, fun s hs => by simp [q2 s hs]⟩

theorem segs_some {most : Int} {p : Int → Bool} : ∀ {l : List Int}, Cuts most l → ∀ s, s ∈ segs most p l → s.1 ≤ s.2
  | [], _, s, hs => by simp [segs] at hs
  | c :: rest, h, s, hs => by
    obtain ⟨h1, h2⟩ := List.pairwise_cons.1 h.1
    have ih := segs_some (most := most) (p := p) (l := rest) ⟨h2, fun c hc => h.2 c (by simp [hc])⟩ s
    unfold segs at hs
    split at hs
    · rcases List.mem_cons.1 hs with rfl | hs
      · show c ≤ hiOf most rest
        cases rest with
        | nil => exact (h.2 c (by simp)).2
        | cons d r => have := h1 d (by simp); simp [hiOf]; omega
      · exact ih hs
    · exact ih hs

theorem mem_segs {most : Int} {p : Int → Bool} (L : List Int) (hC : Const most p L) : ∀ (l : List Int) (c : Int), Cuts most (c :: l) → (∀ x, c ≤ x → x ∈ L → x ∈ c :: l) →
    ∀ x, Mem (segs most p (c :: l)) x ↔ c ≤ x ∧ x ≤ most ∧ p x = true
  | [], c, h, hL, x => by
    have hc := h.2 c (by simp)
    have run : c ≤ x → x ≤ most → p x = p c := fun h1 h2 => by
      have := const_run hC c hc.1 (x - c).toNat (by omega) (fun y h3 h4 h5 => by have := hL y (by omega) h5; simp at this; omega)
      rw [← this]; congr 1; omega
    simp only [segs, hiOf]
    split
    · rename_i hp
      rw [mem_one]
      exact ⟨fun h1 => ⟨h1.1, h1.2, (run h1.1 h1.2).trans hp⟩, fun h1 => ⟨h1.1, h1.2.1⟩⟩
    · rename_i hp
      rw [mem_nil]
      exact ⟨False.elim, fun h1 => hp ((run h1.1 h1.2.1).symm.trans h1.2.2)⟩
  | d :: l, c, h, hL, x => by
    obtain ⟨h1, h2⟩ := List.pairwise_cons.1 h.1
    have hcd := h1 d (by simp)
    have hc := h.2 c (by simp)
    have hd := h.2 d (by simp)
    have ih := mem_segs L hC l d ⟨h2, fun e he => h.2 e (by simp at he ⊢; right; exact he)⟩ (fun y hy hyL => by
      have := hL y (by omega) hyL
      rcases List.mem_cons.1 this with rfl | this
      · omega
      · exact this) x
    have run : c ≤ x → x < d → p x = p c := fun h3 h4 => by
      have := const_run hC c hc.1 (x - c).toNat (by omega) (fun y h5 h6 h7 => by
        have := hL y (by omega) h7
        rcases List.mem_cons.1 this with rfl | this
        · omega
        · rcases List.mem_cons.1 this with rfl | this
          · omega
          · have := (List.pairwise_cons.1 h2).1 y this; omega)
      rw [← this]; congr 1; omega
    rw [segs]
    show Mem (if p c = true then (c, d - 1) :: segs most p (d :: l) else segs most p (d :: l)) x ↔ _
    split
    · rename_i hp
      rw [mem_cons, ih]
      constructor
      · rintro (h3 | h3)
        · simp only at h3
          exact ⟨h3.1, by omega, (run h3.1 (by omega)).trans hp⟩
        · exact ⟨by omega, h3.2⟩
      · rintro ⟨h3, h4, h5⟩
        by_cases hx : x < d
        · exact .inl ⟨h3, by show x ≤ d - 1; omega⟩
        · exact .inr ⟨by omega, h4, h5⟩
    · rename_i hp
      rw [ih]
      constructor
      · rintro h3
        exact ⟨by omega, h3.2⟩
      · rintro ⟨h3, h4, h5⟩
        by_cases hx : x < d
        · exact absurd ((run h3 hx).symm.trans h5) hp
        · exact ⟨by omega, h4, h5⟩

theorem made_ok {most : Int} {p : Int → Bool} {l : List Int} (h : Cuts most (0 :: l)) (hC : Const most p (0 :: l)) :
    InForm (merge (segs most p (0 :: l))) ∧ ∀ x, Mem (merge (segs most p (0 :: l))) x ↔ 0 ≤ x ∧ x ≤ most ∧ p x = true := by
  obtain ⟨q1, q2⟩ := foldl_put_ok (segs most p (0 :: l)) [] inForm_nil (segs_some h) (segs_sorted h.1).1 (by simp)
  refine ⟨q1, fun x => ?_⟩
  show Mem (List.foldl put [] _) x ↔ _
  rw [q2, mem_nil, mem_segs (0 :: l) hC l 0 h (fun y _ hy => hy)]
  simp

end Go.Proofs.YtmoagoopdfpcnaaDoor.SpMath

namespace Go.Proofs.YtmoagoopdfpcnaaDoor.Q
open Go.RowKit Go.Proofs.YtmoagoopdfpcnaaDoorW.PrintWords Go.Proofs.YtmoagoopdfpcnaaDoorW.PrintLast Go.Proofs.YtmoagoopdfpcnaaDoorW.PrintMore Go.Proofs.YtmoagoopdfpcnaaDoor.SpMath
set_option linter.unusedVariables false

def mk (s : Sp) : S36 := ⟨s.1, s.2⟩
def sp (x : S36) : Sp := (x.f0, x.f1)
theorem mk_sp (x : S36) : mk (sp x) = x := by cases x; rfl
theorem map_mk_sp (l : List S36) : (l.map sp).map mk = l := by rw [List.map_map]; exact (List.map_congr_left (fun x _ => mk_sp x)).trans (List.map_id l)
def okS (s : Sp) : Prop := 0 ≤ s.1 ∧ s.1 ≤ 4294967295 ∧ 0 ≤ s.2 ∧ s.2 ≤ 4294967295
theorem okS_of {l : List S36} (h : ∀ x ∈ l, ok36 x) : ∀ s ∈ l.map sp, okS s := by
  intro s hs
  obtain ⟨x, hx, rfl⟩ := List.mem_map.1 hs
  have h0 := bounds_u32 (h x hx).1
  have h1 := bounds_u32 (h x hx).2
  exact ⟨h0.1, h0.2, h1.1, h1.2⟩
theorem wr1 (i n : Nat) (h : i < n) (hn : n ≤ 9223372036854775807) : wrap64 ((i : Int) + 1) = ((i + 1 : Nat) : Int) := by unfold wrap64; omega
theorem wrm (n : Nat) (hn : n + 1 ≤ 9223372036854775807) : wrap64 (((n + 1 : Nat) : Int) - 1) = (n : Int) := by unfold wrap64; omega
theorem rdmk (L : List Sp) (i : Nat) (h : i < L.length) : rd_T36 (L.map mk) (i : Int) = mk L[i] := by
  unfold rd_T36
  rw [Int.toNat_natCast, List.getD_eq_getElem?_getD, List.getElem?_map, List.getElem?_eq_getElem h]; rfl
theorem mx_max (a b : Int) : mx a b = max a b := by unfold mx; split <;> omega

theorem sort_mk (L : List Sp) : sort36 (L.map mk) = (L.mergeSort leSp).map mk := by
  unfold sort36
  refine (List.map_mergeSort (r := leSp) (s := fun x y => !lt31 y x) (f := mk) (l := L) (fun a _ b _ => ?_)).symm
  unfold leSp lt31 mk
  by_cases h1 : a.1 < b.1 <;> by_cases h2 : a.1 = b.1 <;> by_cases h3 : a.2 ≤ b.2 <;> simp [h1, h2, h3] <;> omega

theorem some_cons (s : Sp) (L : List Sp) : some_ (s :: L) = if s.1 ≤ s.2 then s :: some_ L else some_ L := by
  unfold some_
  by_cases h : s.1 ≤ s.2 <;> simp [h]

theorem form_l0 (L : List Sp) (hn : L.length ≤ 1000000000000) (r : List S36) : ∀ (d i : Nat) (acc : List Sp), i + d = L.length → acc.length + d ≤ 1000000000000 →
    Ev (fun k => spans_Form.l1 k ([] : List S36) (((acc ++ some_ (L.drop i)).mergeSort leSp).map mk) ((acc ++ some_ (L.drop i)).length : Int) 0) r →
    Ev (fun k => spans_Form.l0 k (acc.map mk) (L.map mk) (L.length : Int) (i : Int)) r
  | 0, i, acc, h, ha, he => by
    have hd : L.drop i = [] := List.drop_of_length_le (by omega)
    rw [hd, show some_ [] = [] from rfl, List.append_nil] at he
    refine Ev.step (f := fun k => spans_Form.l1 k ([] : List S36) ((acc.mergeSort leSp).map mk) (acc.length : Int) 0) (fun k => ?_) he
    simp only [spans_Form.l0]
    rw [if_neg (by omega)]
    unfold slices_SortFunc_api_Span_api_Span.f
    rw [if_pos (by rw [List.length_map]; omega), sort_mk, List.length_map]
    rfl
  | d + 1, i, acc, h, ha, he => by
    have hi : i < L.length := by omega
    rw [List.drop_eq_getElem_cons hi, some_cons] at he
    by_cases hs : L[i].1 ≤ L[i].2
    · rw [if_pos hs] at he
      refine Ev.step (f := fun k => spans_Form.l0 k ((acc ++ [L[i]]).map mk) (L.map mk) (L.length : Int) ((i + 1 : Nat) : Int)) (fun k => ?_) (form_l0 L hn r d (i + 1) (acc ++ [L[i]]) (by omega) (by simp; omega) (by simpa using he))
      simp only [spans_Form.l0]
      rw [if_pos (by omega), if_pos (by omega), if_pos (by rw [List.length_map]; omega), rdmk L i hi, if_pos (show (mk L[i]).f0 ≤ (mk L[i]).f1 from hs), if_pos (by rw [List.length_map]; omega), wr1 i L.length hi (by omega), List.map_append]
      rfl
    · rw [if_neg hs] at he
      refine Ev.step (f := fun k => spans_Form.l0 k (acc.map mk) (L.map mk) (L.length : Int) ((i + 1 : Nat) : Int)) (fun k => ?_) (form_l0 L hn r d (i + 1) acc (by omega) (by omega) he)
      simp only [spans_Form.l0]
      rw [if_pos (by omega), if_pos (by omega), if_pos (by rw [List.length_map]; omega), rdmk L i hi, if_neg (show ¬ (mk L[i]).f0 ≤ (mk L[i]).f1 from hs), wr1 i L.length hi (by omega)]

theorem put_okS {out : List Sp} {s : Sp} (ho : ∀ t ∈ out, okS t) (hs : okS s) : ∀ t ∈ put out s, okS t := by
  rcases List.eq_nil_or_concat out with rfl | ⟨o, t, rfl⟩
  · rw [put_nil]; intro t ht; rw [List.mem_singleton.1 ht]; exact hs
  · rw [List.concat_eq_append] at ho ⊢
    rw [put_snoc]
    have h1 := ho t (by simp)
    split
    · intro x hx
      rcases List.mem_append.1 hx with h | h
      · exact ho x (by simp [h])
      · rw [List.mem_singleton.1 h]
        unfold okS at *
        simp only
        omega
    · intro x hx
      rcases List.mem_append.1 hx with h | h
      · exact ho x h
      · rw [List.mem_singleton.1 h]; exact hs
theorem put_len (out : List Sp) (s : Sp) : (put out s).length ≤ out.length + 1 := by
  rcases List.eq_nil_or_concat out with rfl | ⟨o, t, rfl⟩
  · rw [put_nil]; simp
  · rw [List.concat_eq_append, put_snoc]
    split <;> simp

theorem form_l1 (L : List Sp) (hL : ∀ s ∈ L, okS s) (hn : L.length ≤ 1000000000000) : ∀ (d i : Nat) (out : List Sp), i + d = L.length → (∀ t ∈ out, okS t) → out.length + d ≤ 1000000000000 →
    Ev (fun k => spans_Form.l1 k (out.map mk) (L.map mk) (L.length : Int) (i : Int)) (((L.drop i).foldl put out).map mk)
  | 0, i, out, h, ho, hl => by
    rw [List.drop_of_length_le (by omega)]
    exact Ev.step (f := fun k => some (out.map mk)) (fun k => by simp only [spans_Form.l1]; rw [if_neg (by omega)]) (Ev.now _)
  | d + 1, i, out, h, ho, hl => by
    have hi : i < L.length := by omega
    rw [List.drop_eq_getElem_cons hi, List.foldl_cons]
    have hs := hL L[i] (List.getElem_mem hi)
    have hp := put_okS ho hs
    have hpl := put_len out L[i]
    refine Ev.step (f := fun k => spans_Form.l1 k ((put out L[i]).map mk) (L.map mk) (L.length : Int) ((i + 1 : Nat) : Int)) (fun k => ?_) (form_l1 L hL hn d (i + 1) (put out L[i]) (by omega) hp (by omega))
    simp only [spans_Form.l1]
    rw [if_pos (by omega), if_pos (by omega), if_pos (by rw [List.length_map]; omega), rdmk L i hi, wr1 i L.length hi (by omega)]
    rcases List.eq_nil_or_concat out with rfl | ⟨o, t, rfl⟩
    · rw [if_neg (by simp), if_pos (by simp), put_nil]
      rfl
    · rw [List.concat_eq_append] at *
      have hlen : ((o ++ [t]).map mk).length = o.length + 1 := by simp
      have ht := ho t (by simp)
      have hrd : rd_T36 ((o ++ [t]).map mk) (o.length : Int) = mk t := by
        rw [rdmk _ _ (by simp)]; simp
      have hol : o.length + 1 ≤ 1000000000000 := by simp at hl; omega
      rw [hlen, if_pos (by omega), wrm _ (by omega), if_pos (by omega), if_pos (by omega), hrd, put_snoc]
      have hset : (((o ++ [t]).map mk).set (o.length : Int).toNat (⟨(mk t).f0, mx (mk t).f1 (mk L[i]).f1⟩ : S36)) = (o ++ [(t.1, max t.2 L[i].2)]).map mk := by
        rw [Int.toNat_natCast, List.map_append, List.map_append, List.set_append_right _ _ (by simp), mx_max]
        simp [mk]
      unfold okS at ht hs
      by_cases h1 : (mk t).f1 = 4294967295
      · rw [if_pos h1, hset, if_pos (by have : t.2 = 4294967295 := h1; omega)]
      · have h1' : t.2 ≠ 4294967295 := h1
        rw [if_neg h1, show ((mk t).f1 + 1) % 4294967296 = t.2 + 1 by show (t.2 + 1) % 4294967296 = t.2 + 1; omega]
        by_cases h2 : L[i].1 ≤ t.2 + 1
        · rw [if_pos (show (mk L[i]).f0 ≤ t.2 + 1 from h2), hset, if_pos h2]
        · rw [if_neg (show ¬ (mk L[i]).f0 ≤ t.2 + 1 from h2), if_pos (by omega), if_neg h2, List.map_append (l₁ := o ++ [t])]
          rfl

theorem some_len (L : List Sp) : (some_ L).length ≤ L.length := List.length_filter_le _ _
theorem foldl_put_len : ∀ (L out : List Sp), (L.foldl put out).length ≤ out.length + L.length
  | [], out => by simp
  | s :: L, out => by
    have h1 := foldl_put_len L (put out s)
    have h2 := put_len out s
    simp only [List.foldl_cons, List.length_cons]
    omega
theorem form_len (L : List Sp) : (formF L).length ≤ L.length := by
  unfold formF merge
  have h1 := foldl_put_len ((some_ L).mergeSort leSp) []
  have h2 := some_len L
  rw [List.length_mergeSort] at h1
  simp only [List.length_nil] at h1
  omega
theorem foldl_put_okS : ∀ (L out : List Sp), (∀ s ∈ L, okS s) → (∀ t ∈ out, okS t) → ∀ t ∈ L.foldl put out, okS t
  | [], out, _, h => h
  | s :: L, out, hL, h => foldl_put_okS L (put out s) (fun x hx => hL x (List.mem_cons_of_mem _ hx)) (put_okS h (hL s List.mem_cons_self))
theorem form_okS {L : List Sp} (hL : ∀ s ∈ L, okS s) : ∀ s ∈ formF L, okS s := by
  unfold formF merge
  refine foldl_put_okS _ [] (fun s hs => ?_) (by simp)
  rw [List.mem_mergeSort] at hs
  exact hL s (List.mem_filter.1 hs).1

theorem form_ev (L : List Sp) (hL : ∀ s ∈ L, okS s) (hn : L.length ≤ 1000000000000) : Ev (fun k => spans_Form.f k (L.map mk)) ((formF L).map mk) := by
  unfold spans_Form.f
  rw [List.length_map]
  have h2 := some_len L
  refine form_l0 L hn _ L.length 0 [] (by omega) (by simpa using hn) ?_
  rw [List.drop_zero, List.nil_append, ← List.length_mergeSort (le := leSp)]
  exact form_l1 _ (fun s hs => by rw [List.mem_mergeSort] at hs; exact hL s (List.mem_filter.1 hs).1) (by rw [List.length_mergeSort]; omega) _ 0 [] (Nat.zero_add _) (by simp) (by rw [List.length_mergeSort]; simp; omega)

end Go.Proofs.YtmoagoopdfpcnaaDoor.Q
