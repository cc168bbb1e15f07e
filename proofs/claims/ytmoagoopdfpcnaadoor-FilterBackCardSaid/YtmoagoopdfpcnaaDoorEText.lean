/- Numerals, texts of rules, sets and communities, communities in form: that what is written is read back. No program in sight. -/
import Derived.Lib.ParseIntB
import Derived.Lib.ParseIntBCases
import Derived.Lib.ItoaNum
import Derived.Lib.ItoaLen
import Derived.Lib.Split
import Derived.Lib.SplitLaws
import Derived.Lib.Join
import Derived.Lib.AtoiAll
import Derived.Lib.AtoiTie
import Derived.Lib.ItoaMem
import Derived.Lib.SlicesCompact
namespace Go.Proofs.YtmoagoopdfpcnaaDoor.Txt
open Go.Lib
set_option linter.unusedVariables false
/-! ### Numerals -/
theorem dec_small {u : Nat} (h : u < 10) : decDigits u = [UInt8.ofNat (48 + u)] := by rw [decDigits, dif_pos h]
theorem dec_big {u : Nat} (h : ¬ u < 10) : decDigits u = decDigits (u / 10) ++ [UInt8.ofNat (48 + u % 10)] := by rw [decDigits, dif_neg h]
theorem dec_ne (u : Nat) : decDigits u ≠ [] := by
  by_cases h : u < 10
  · rw [dec_small h]; simp
  · rw [dec_big h]; simp
theorem byte_toNat {k : Nat} (h : k < 10) : (UInt8.ofNat (48 + k)).toNat = 48 + k := by
  rw [UInt8.toNat_ofNat']; omega
theorem dec_digits (u : Nat) : ∀ c ∈ decDigits u, 48 ≤ c.toNat ∧ c.toNat ≤ 57 := by
  induction u using Nat.strongRecOn with
  | _ u ih =>
    by_cases h : u < 10
    · rw [dec_small h]
      intro c hc
      rw [List.mem_singleton.1 hc, byte_toNat h]; omega
    · rw [dec_big h]
      intro c hc
      rcases List.mem_append.1 hc with h1 | h1
      · exact ih (u / 10) (by omega) c h1
      · rw [List.mem_singleton.1 h1, byte_toNat (Nat.mod_lt _ (by omega))]; omega
/-- The digits read with what was read before them. -/
theorem parseM_append (M : Nat) : ∀ (l r : List UInt8) (acc u : Nat), parseUintM M acc l = .ok u → parseUintM M acc (l ++ r) = parseUintM M u r
  | [], r, acc, u, h => by cases h; rfl
  | c :: l, r, acc, u, h => by
    unfold parseUintM at h
    show parseUintM M acc (c :: (l ++ r)) = _
    rw [parseUintM]
    split at h
    · rename_i h1
      rw [if_pos h1]
      split at h
      · cases h
      · rename_i h2
        rw [if_neg h2]
        split at h
        · cases h
        · rename_i h3
          rw [if_neg h3]
          exact parseM_append M l r _ u h
    · cases h
theorem parseM_dec (M : Nat) (hM : M ≤ 18446744073709551615) (u : Nat) : u ≤ M → parseUintM M 0 (decDigits u) = .ok u := by
  induction u using Nat.strongRecOn with
  | _ u ih =>
    intro hu
    by_cases h : u < 10
    · rw [dec_small h]
      unfold parseUintM
      rw [byte_toNat h, if_pos (by omega), if_neg (by omega), if_neg (by omega)]
      unfold parseUintM
      congr 1; omega
    · rw [dec_big h, parseM_append M _ _ _ _ (ih (u / 10) (by omega) (by omega))]
      have h1 : u % 10 < 10 := Nat.mod_lt _ (by omega)
      unfold parseUintM
      rw [byte_toNat h1, if_pos (by omega), if_neg (by omega), if_neg (by omega)]
      unfold parseUintM
      congr 1; omega
theorem parseB_dec (B : Nat) (hB : B ≤ 64) (u : Nat) (hu : u ≤ 2 ^ B - 1) : parseUintB B (decDigits u) = .ok u := by
  unfold parseUintB
  rw [if_neg (dec_ne u)]
  have h1 : 2 ^ B ≤ 2 ^ 64 := Nat.pow_le_pow_right (by omega) hB
  exact parseM_dec _ (by have : (2 : Nat) ^ 64 = 18446744073709551616 := by decide
                         omega) u hu

/-! ### index, cut -/
theorem index_none {c : UInt8} : ∀ {l : List UInt8}, c ∉ l → index l [c] = -1
  | [], _ => by simp [index]
  | b :: l, h => by
    have h1 : c ∉ l := fun e => h (List.mem_cons_of_mem _ e)
    have h2 : b ≠ c := fun e => h (e ▸ List.mem_cons_self)
    have := index_none h1
    simp [index, this]
    intro e; exact absurd e.symm h2
theorem index_at {c : UInt8} : ∀ {a : List UInt8} (b : List UInt8), c ∉ a → index (a ++ c :: b) [c] = a.length
  | [], b, _ => by simp [index]
  | x :: a, b, h => by
    have h1 : c ∉ a := fun e => h (List.mem_cons_of_mem _ e)
    have h2 : x ≠ c := fun e => h (e ▸ List.mem_cons_self)
    have := index_at b h1
    have h3 : ¬ c = x := fun e => h2 e.symm
    simp [index, this, h3]
theorem cut_none {c : UInt8} {l : List UInt8} (h : c ∉ l) : cut l [c] = (l, [], false) := by
  unfold cut
  rw [index_none h]; simp
theorem cut_at {c : UInt8} {a : List UInt8} (b : List UInt8) (h : c ∉ a) : cut (a ++ c :: b) [c] = (a, b, true) := by
  unfold cut
  rw [index_at b h]; simp

/-! ### Split, Join -/
theorem splitK_none {c : UInt8} {l : List UInt8} (h : c ∉ l) (k : Nat) : splitK [c] 0 k l = [l] := by
  cases k with
  | zero => rfl
  | succ k => unfold splitK; rw [index_none h]; rfl
theorem splitK_at {c : UInt8} {a : List UInt8} (b : List UInt8) (h : c ∉ a) (k : Nat) : splitK [c] 0 (k + 1) (a ++ c :: b) = a :: splitK [c] 0 k b := by
  rw [splitK, index_at b h]
  have h1 : ¬ (((a.length : Nat) : Int) == -1) = true := by simp
  rw [if_neg h1]
  simp
theorem split_none {c : UInt8} {l : List UInt8} (h : c ∉ l) : split l [c] = [l] := splitK_none h _
theorem split_at {c : UInt8} {a : List UInt8} (b : List UInt8) (h : c ∉ a) : split (a ++ c :: b) [c] = a :: split b [c] := by
  unfold split
  rw [count_one, count_one, List.count_append, List.count_eq_zero_of_not_mem h, List.count_cons_self, Nat.zero_add]
  exact splitK_at b h _
theorem join_cons2 (sep a b : List UInt8) (xs : List (List UInt8)) : join (a :: b :: xs) sep = a ++ (sep ++ join (b :: xs) sep) := by
  unfold join
  simp [List.intercalate, List.intersperse]
theorem join_single (sep a : List UInt8) : join [a] sep = a := by
  unfold join
  simp [List.intercalate, List.intersperse]
theorem split_join {c : UInt8} : ∀ (xs : List (List UInt8)), xs ≠ [] → (∀ x ∈ xs, c ∉ x) → split (join xs [c]) [c] = xs
  | [], h, _ => absurd rfl h
  | [a], _, h => by rw [join_single]; exact split_none (h a (by simp))
  | a :: b :: xs, _, h => by
    rw [join_cons2]
    show split (a ++ c :: join (b :: xs) [c]) [c] = _
    rw [split_at _ (h a (by simp)), split_join (b :: xs) (by simp) (fun x hx => h x (by simp_all))]

theorem itoa_dec {n : Int} (h : 0 ≤ n) : itoa n = decDigits n.toNat := by unfold itoa; rw [if_neg (by omega)]
theorem itoa_digits {n : Int} (h : 0 ≤ n) : ∀ c ∈ itoa n, 48 ≤ c.toNat ∧ c.toNat ≤ 57 := by rw [itoa_dec h]; exact dec_digits _
theorem not_in {l : List UInt8} (h : ∀ c ∈ l, 48 ≤ c.toNat ∧ c.toNat ≤ 57) {x : UInt8} (hx : x.toNat < 48 ∨ 57 < x.toNat) : x ∉ l := fun hm => by have := h x hm; omega
theorem atoi_itoa {n : Int} (h0 : 0 ≤ n) (h1 : n ≤ 9223372036854775807) : atoiAll (itoa n) = .ok n := by
  rw [itoa_dec h0]
  have hp : parseMag (decDigits n.toNat) = .ok n.toNat := by
    rw [← parseUintB_64]
    exact parseB_dec 64 (by omega) _ (by have : (2 : Nat) ^ 64 = 18446744073709551616 := by decide
                                         omega)
  have hd := dec_digits n.toNat
  have hne := dec_ne n.toNat
  generalize decDigits n.toNat = l at *
  cases l with
  | nil => exact absurd rfl hne
  | cons c r =>
    have hc := hd c (by simp)
    rw [atoiAll_plain c r (by omega) (by omega), hp]
    unfold signless
    simp only []
    rw [if_neg (by omega)]
    congr 1; omega

/-- addr.number. -/
def numF (most : Int) (s : List UInt8) : Option Int := match atoiAll s with
  | .ok n => if 0 ≤ n ∧ n ≤ most ∧ itoa n = s then some n else none
  | _ => none
theorem num_back {most n : Int} (h0 : 0 ≤ n) (h1 : n ≤ most) (h2 : most ≤ 9223372036854775807) : numF most (itoa n) = some n := by
  unfold numF
  rw [atoi_itoa h0 (by omega)]
  simp only []
  rw [if_pos ⟨h0, h1, trivial⟩]

/-! ### Addresses -/
def addrW (a : Int) : List (List UInt8) := [itoa (a / 16777216 % 256), itoa (a / 65536 % 256), itoa (a / 256 % 256), itoa (a % 256)]
def addrB (a : Int) : List UInt8 := join (addrW a) [46]
def addrF (s : List UInt8) : Option Int := match split s [46] with
  | [a, b, c, d] => (numF 255 a).bind fun x => (numF 255 b).bind fun y => (numF 255 c).bind fun z => (numF 255 d).bind fun t => some (((x * 256 + y) * 256 + z) * 256 + t)
  | _ => none
theorem addr_digits {a : Int} : ∀ w ∈ addrW a, ∀ c ∈ w, 48 ≤ c.toNat ∧ c.toNat ≤ 57 := by
  intro w hw
  unfold addrW at hw
  simp only [List.mem_cons, List.not_mem_nil, or_false] at hw
  rcases hw with rfl | rfl | rfl | rfl <;> exact itoa_digits (by omega)
theorem addr_back {a : Int} (h0 : 0 ≤ a) (h1 : a ≤ 4294967295) : addrF (addrB a) = some a := by
  unfold addrF addrB
  rw [split_join (addrW a) (by simp [addrW]) (fun x hx => not_in (addr_digits x hx) (by decide))]
  unfold addrW
  simp only []
  rw [num_back (by omega) (by omega) (by omega), num_back (by omega) (by omega) (by omega), num_back (by omega) (by omega) (by omega), num_back (by omega) (by omega) (by omega)]
  simp only [Option.bind_some]
  congr 1; omega
theorem mem_join {sep : List UInt8} {c : UInt8} : ∀ {xs : List (List UInt8)}, c ∈ join xs sep → (∃ x ∈ xs, c ∈ x) ∨ c ∈ sep
  | [], h => by simp [join_nil] at h
  | [a], h => by rw [join_single] at h; exact .inl ⟨a, by simp, h⟩
  | a :: b :: xs, h => by
    rw [join_cons2] at h
    rcases List.mem_append.1 h with h | h
    · exact .inl ⟨a, by simp, h⟩
    · rcases List.mem_append.1 h with h | h
      · exact .inr h
      · rcases mem_join h with ⟨x, hx, hc⟩ | h
        · exact .inl ⟨x, List.mem_cons_of_mem _ hx, hc⟩
        · exact .inr h
/-- What a byte of an address's text may be. -/
theorem addr_bytes {a : Int} : ∀ c ∈ addrB a, 46 ≤ c.toNat ∧ c.toNat ≤ 57 ∧ c.toNat ≠ 47 := by
  intro c hc
  rcases mem_join hc with ⟨x, hx, h⟩ | h
  · have := addr_digits x hx c h; omega
  · rw [List.mem_singleton.1 h]; decide

/-! ### Prefixes -/
def checkP (p : Int × Int) : Bool := decide (0 ≤ p.2 ∧ p.2 ≤ 32) && decide (p.1 % (2 ^ (32 - p.2.toNat) : Nat) = 0)
def prefB (p : Int × Int) : List UInt8 := addrB p.1 ++ 47 :: itoa p.2
def prefF (s : List UInt8) : Option (Int × Int) :=
  if (cut s [47]).2.2 = true then (addrF (cut s [47]).1).bind fun a => (numF 32 (cut s [47]).2.1).bind fun b => if checkP (a, b) = true then some (a, b) else none else none
theorem pref_back {p : Int × Int} (h0 : 0 ≤ p.1) (h1 : p.1 ≤ 4294967295) (hc : checkP p = true) : prefF (prefB p) = some p := by
  unfold prefF prefB
  have hb : 0 ≤ p.2 ∧ p.2 ≤ 32 := by
    unfold checkP at hc
    simp only [Bool.and_eq_true, decide_eq_true_eq] at hc
    exact hc.1
  rw [cut_at _ (fun hm => by have := addr_bytes _ hm; exact absurd rfl this.2.2)]
  simp only [if_true]
  rw [addr_back h0 h1, num_back hb.1 hb.2 (by omega)]
  simp only [Option.bind_some]
  rw [if_pos hc]
theorem pref_bytes {p : Int × Int} (h : 0 ≤ p.2) : ∀ c ∈ prefB p, 46 ≤ c.toNat ∧ c.toNat ≤ 57 := by
  intro c hc
  unfold prefB at hc
  rcases List.mem_append.1 hc with h1 | h1
  · have := addr_bytes c h1; omega
  · rcases List.mem_cons.1 h1 with rfl | h2
    · decide
    · have := itoa_digits h c h2; omega

/-! ### Ports -/
def spanB (s : Int × Int) : List UInt8 := itoa s.1 ++ 45 :: itoa s.2
def okU (B : Nat) (s : List UInt8) : Option Int := match parseUintB B s with
  | .ok u => some (u : Int)
  | _ => none
/-- filter.ends. -/
def endsF (s : List UInt8) : Int × Int := match okU 16 (cut s [45]).1, okU 16 (cut s [45]).2.1 with
  | some a, some b => (a, b)
  | _, _ => (1, 0)
theorem okU_back {B : Nat} (hB : B ≤ 64) {n : Int} (h0 : 0 ≤ n) (h1 : n ≤ (2 ^ B - 1 : Nat)) : okU B (itoa n) = some n := by
  unfold okU
  rw [itoa_dec h0, parseB_dec B hB _ (by omega)]
  simp only []
  congr 1; omega
theorem ends_back {s : Int × Int} (h0 : 0 ≤ s.1) (h1 : s.1 ≤ 65535) (h2 : 0 ≤ s.2) (h3 : s.2 ≤ 65535) : endsF (spanB s) = s := by
  unfold endsF spanB
  rw [cut_at _ (not_in (itoa_digits h0) (by decide))]
  simp only []
  have e : ((2 ^ 16 - 1 : Nat) : Int) = 65535 := by decide
  rw [okU_back (by omega) h0 (by omega), okU_back (by omega) h2 (by omega)]
theorem span_bytes {s : Int × Int} (h0 : 0 ≤ s.1) (h2 : 0 ≤ s.2) : ∀ c ∈ spanB s, 45 ≤ c.toNat ∧ c.toNat ≤ 57 := by
  intro c hc
  unfold spanB at hc
  rcases List.mem_append.1 hc with h1 | h1
  · have := itoa_digits h0 c h1; omega
  · rcases List.mem_cons.1 h1 with rfl | h3
    · decide
    · have := itoa_digits h2 c h3; omega

/-! ### Rules -/
structure Rule where
  permit : Bool
  proto : Int
  src : Int × Int
  dst : Int × Int
  sp : Int × Int
  dp : Int × Int
  deriving DecidableEq
def sPermit : List UInt8 := [112, 101, 114, 109, 105, 116]
def sDeny : List UInt8 := [100, 101, 110, 121]
def sAny : List UInt8 := [97, 110, 121]
def portsOk (s : Int × Int) : Bool := decide (s.1 ≤ s.2) && decide (s.2 ≤ 65535)
def mayF (r : Rule) : Bool := decide (-1 ≤ r.proto) && decide (r.proto ≤ 255) && checkP r.src && checkP r.dst && portsOk r.sp && portsOk r.dp
def ruleW (r : Rule) : List (List UInt8) := [if r.permit = true then sPermit else sDeny, if 0 ≤ r.proto then itoa r.proto else sAny, prefB r.src, prefB r.dst, spanB r.sp, spanB r.dp]
def ruleB (r : Rule) : List UInt8 := join (ruleW r) [32]
/-- filter.Parse up to its last test. -/
def ruleOf (w0 w1 w4 w5 : List UInt8) (src dst : Int × Int) : Option Rule :=
  if w1 = sAny then some ⟨decide (w0 = sPermit), -1, src, dst, endsF w4, endsF w5⟩ else (okU 8 w1).bind fun n => some ⟨decide (w0 = sPermit), n, src, dst, endsF w4, endsF w5⟩
def ruleF (s : List UInt8) : Option Rule := match split s [32] with
  | [w0, w1, w2, w3, w4, w5] => (prefF w2).bind fun src => (prefF w3).bind fun dst => (ruleOf w0 w1 w4 w5 src dst).bind fun r => if mayF r = true ∧ ruleB r = s then some r else none
  | _ => none
/-- The numbers of a rule are of their kinds. -/
def okR (r : Rule) : Prop := (0 ≤ r.src.1 ∧ r.src.1 ≤ 4294967295) ∧ (0 ≤ r.dst.1 ∧ r.dst.1 ≤ 4294967295) ∧ 0 ≤ r.sp.1 ∧ 0 ≤ r.dp.1
theorem check_bits {p : Int × Int} (hc : checkP p = true) : 0 ≤ p.2 ∧ p.2 ≤ 32 := by
  unfold checkP at hc
  simp only [Bool.and_eq_true, decide_eq_true_eq] at hc
  exact hc.1
theorem rule_words {r : Rule} (ho : okR r) (hm : mayF r = true) : ∀ w ∈ ruleW r, (32 : UInt8) ∉ w := by
  unfold mayF portsOk at hm
  simp only [Bool.and_eq_true, decide_eq_true_eq] at hm
  obtain ⟨⟨⟨⟨⟨m1, m2⟩, m3⟩, m4⟩, m5, m6⟩, m7, m8⟩ := hm
  obtain ⟨o1, o2, o3, o4⟩ := ho
  intro w hw
  unfold ruleW at hw
  simp only [List.mem_cons, List.not_mem_nil, or_false] at hw
  have big : ∀ {l : List UInt8}, (∀ c ∈ l, 45 ≤ c.toNat ∧ c.toNat ≤ 57) → (32 : UInt8) ∉ l := fun h hm => by have := h 32 hm; exact absurd this.1 (by decide)
  rcases hw with rfl | rfl | rfl | rfl | rfl | rfl
  · split <;> decide
  · split
    · exact not_in (itoa_digits (by assumption)) (by decide)
    · decide
  · exact big fun c hc => by have := pref_bytes (check_bits m3).1 c hc; omega
  · exact big fun c hc => by have := pref_bytes (check_bits m4).1 c hc; omega
  · exact big (span_bytes o3 (by omega))
  · exact big (span_bytes o4 (by omega))
theorem num_ne_any {n : Int} (h : 0 ≤ n) : itoa n ≠ sAny := fun e => by
  have := itoa_digits h 97 (by rw [e]; decide)
  exact absurd this (by decide)
theorem rule_back {r : Rule} (ho : okR r) (hm : mayF r = true) : ruleF (ruleB r) = some r := by
  have hm' := hm
  unfold mayF portsOk at hm'
  simp only [Bool.and_eq_true, decide_eq_true_eq] at hm'
  obtain ⟨⟨⟨⟨⟨m1, m2⟩, m3⟩, m4⟩, m5, m6⟩, m7, m8⟩ := hm'
  have ho' := ho
  obtain ⟨o1, o2, o3, o4⟩ := ho
  have hsp : split (ruleB r) [32] = ruleW r := split_join _ (by simp [ruleW]) (rule_words ho' hm)
  unfold ruleF
  rw [hsp]
  unfold ruleW
  simp only []
  rw [pref_back o1.1 o1.2 m3, pref_back o2.1 o2.2 m4]
  simp only [Option.bind_some]
  have hp : decide ((if r.permit = true then sPermit else sDeny) = sPermit) = r.permit := by cases r.permit <;> decide
  have hr : ruleOf (if r.permit = true then sPermit else sDeny) (if 0 ≤ r.proto then itoa r.proto else sAny) (spanB r.sp) (spanB r.dp) r.src r.dst = some r := by
    unfold ruleOf
    rw [hp, ends_back o3 (by omega) (by omega) (by omega), ends_back o4 (by omega) (by omega) (by omega)]
    by_cases h : 0 ≤ r.proto
    · rw [if_pos h, if_neg (num_ne_any h), okU_back (by omega) h (by have : ((2 ^ 8 - 1 : Nat) : Int) = 255 := by decide
                                                                     omega)]
      rfl
    · rw [if_neg h, if_pos rfl]
      obtain ⟨a, b, c, d, e, f⟩ := r
      have : b = -1 := by simp only [] at h m1; omega
      subst this; rfl
  rw [hr]
  simp only [Option.bind_some]
  rw [if_pos ⟨hm, trivial⟩]

/-! ### Sets -/
def spT (s : Int × Int) : List UInt8 := if s.1 = s.2 then itoa s.1 else itoa s.1 ++ 45 :: itoa s.2
/-- The text of a set that is in its form. -/
def setT (f : List (Int × Int)) : List UInt8 := if f = [] then [45] else join (f.map spT) [44]
def spF (w : List UInt8) : Option (Int × Int) :=
  (okU 32 (cut w [45]).1).bind fun a => (okU 32 (if (cut w [45]).2.2 = true then (cut w [45]).2.1 else (cut w [45]).1)).bind fun b =>
    if a ≤ b ∧ ¬ ((cut w [45]).2.2 = true ∧ a = b) then some (a, b) else none
def wordsF : List (List UInt8) → Option (List (Int × Int))
  | [] => some []
  | w :: ws => (spF w).bind fun x => (wordsF ws).bind fun l => some (x :: l)
def okT (s : Int × Int) : Prop := 0 ≤ s.1 ∧ s.1 ≤ s.2 ∧ s.2 ≤ 4294967295
theorem e32 : ((2 ^ 32 - 1 : Nat) : Int) = 4294967295 := by decide
theorem sp_back {s : Int × Int} (h : okT s) : spF (spT s) = some s := by
  obtain ⟨h0, h1, h2⟩ := h
  unfold spF spT
  by_cases e : s.1 = s.2
  · rw [if_pos e, cut_none (not_in (itoa_digits h0) (by decide))]
    simp only []
    rw [if_neg (by decide), okU_back (by omega) h0 (by rw [e32]; omega)]
    simp only [Option.bind_some]
    rw [if_pos ⟨by omega, by simp⟩]
    congr 1
    exact Prod.ext rfl e
  · rw [if_neg e, cut_at _ (not_in (itoa_digits h0) (by decide))]
    simp only [if_true]
    rw [okU_back (by omega) h0 (by rw [e32]; omega), okU_back (by omega) (by omega) (by rw [e32]; omega)]
    simp only [Option.bind_some]
    rw [if_pos ⟨h1, by simp [e]⟩]
theorem spT_bytes {s : Int × Int} (h : okT s) : ∀ c ∈ spT s, 45 ≤ c.toNat ∧ c.toNat ≤ 57 := by
  obtain ⟨h0, h1, h2⟩ := h
  intro c hc
  unfold spT at hc
  split at hc
  · have := itoa_digits h0 c hc; omega
  · rcases List.mem_append.1 hc with h3 | h3
    · have := itoa_digits h0 c h3; omega
    · rcases List.mem_cons.1 h3 with rfl | h4
      · decide
      · have := itoa_digits (by omega : 0 ≤ s.2) c h4; omega
theorem words_back : ∀ {f : List (Int × Int)}, (∀ s ∈ f, okT s) → wordsF (f.map spT) = some f
  | [], _ => rfl
  | s :: f, h => by
    rw [List.map_cons, wordsF, sp_back (h s (by simp)), words_back (fun t ht => h t (by simp [ht]))]
    rfl
theorem set_words {f : List (Int × Int)} (hne : f ≠ []) (h : ∀ s ∈ f, okT s) : split (setT f) [44] = f.map spT := by
  unfold setT
  rw [if_neg hne]
  refine split_join _ (by simpa using hne) (fun x hx => ?_)
  obtain ⟨s, hs, rfl⟩ := List.mem_map.1 hx
  intro hm
  have := spT_bytes (h s hs) 44 hm
  exact absurd this.1 (by decide)
theorem spT_head {s : Int × Int} (h : 0 ≤ s.1) : ∃ c r, spT s = c :: r ∧ 48 ≤ c.toNat := by
  have hd := itoa_digits h
  have hne : itoa s.1 ≠ [] := by rw [itoa_dec h]; exact dec_ne _
  unfold spT
  generalize itoa s.1 = l at *
  cases l with
  | nil => exact absurd rfl hne
  | cons c r =>
    have := hd c (by simp)
    split
    · exact ⟨c, r, rfl, this.1⟩
    · exact ⟨c, r ++ 45 :: itoa s.2, rfl, this.1⟩
theorem set_ne {f : List (Int × Int)} (hne : f ≠ []) (h : ∀ s ∈ f, okT s) : setT f ≠ [45] := by
  intro e
  have hw := set_words hne h
  rw [e] at hw
  cases f with
  | nil => exact hne rfl
  | cons s f =>
    rw [split_none (by decide), List.map_cons] at hw
    obtain ⟨c, r, h1, h2⟩ := spT_head (h s (by simp)).1
    rw [h1] at hw
    injection hw with hw _
    injection hw with hw _
    rw [← hw] at h2
    exact absurd h2 (by decide)
/-- spans.Parse up to its last test. -/
def setF (s : List UInt8) : Option (List (Int × Int)) := if s = [45] then some [] else wordsF (split s [44])
theorem set_back {f : List (Int × Int)} (h : ∀ s ∈ f, okT s) : setF (setT f) = some f := by
  unfold setF
  by_cases hne : f = []
  · subst hne
    rw [if_pos (by rfl)]
  · rw [if_neg (set_ne hne h), set_words hne h, words_back h]

/-! ### Communities -/
def comT (c : Int) : List UInt8 := itoa (c / 65536) ++ 58 :: itoa (c % 65536)
def comF (s : List UInt8) : Option Int :=
  (okU 16 (cut s [58]).1).bind fun m => (okU 16 (cut s [58]).2.1).bind fun n => if comT (m * 65536 + n) = s then some (m * 65536 + n) else none
theorem com_back {c : Int} (h0 : 0 ≤ c) (h1 : c ≤ 4294967295) : comF (comT c) = some c := by
  have e16 : ((2 ^ 16 - 1 : Nat) : Int) = 65535 := by decide
  have ec : c / 65536 * 65536 + c % 65536 = c := by omega
  unfold comF
  have hcut : cut (comT c) [58] = (itoa (c / 65536), itoa (c % 65536), true) := cut_at _ (not_in (itoa_digits (by omega)) (by decide))
  rw [hcut]
  simp only []
  rw [okU_back (by omega) (by omega) (by rw [e16]; omega), okU_back (by omega) (by omega) (by rw [e16]; omega)]
  simp only [Option.bind_some]
  rw [ec, if_pos rfl]
theorem com_text {s : List UInt8} {c : Int} (h : comF s = some c) : comT c = s := by
  unfold comF at h
  cases h1 : okU 16 (cut s [58]).1 with
  | none => rw [h1] at h; cases h
  | some m =>
    cases h2 : okU 16 (cut s [58]).2.1 with
    | none => rw [h1, h2] at h; cases h
    | some n =>
      rw [h1, h2] at h
      simp only [Option.bind_some] at h
      split at h
      · cases h; assumption
      · cases h

def sortU (l : List Int) : List Int := l.mergeSort fun x y => decide (x ≤ y)
def normF (l : List Int) : List Int := Lib.compact (sortU l)
/-- compact, as a walk over the list. -/
theorem compactUpTo_rises (d : Array Int) (hs : ∀ i j, i ≤ j → j < d.size → d[i]! ≤ d[j]!) : ∀ m, m ≤ d.size → (Lib.compactUpTo d m).Pairwise (· < ·) ∧ (∀ y, y ∈ Lib.compactUpTo d m ↔ ∃ j, j < m ∧ d[j]! = y)
  | 0, _ => ⟨by simp [Lib.compactUpTo], fun y => by simp [Lib.compactUpTo]⟩
  | m + 1, hm => by
    obtain ⟨h1, h2⟩ := compactUpTo_rises d hs m (by omega)
    rw [Lib.compactUpTo_succ]
    by_cases hk : Lib.keeps d m = true
    · rw [if_pos hk]
      refine ⟨List.pairwise_append.2 ⟨h1, List.pairwise_singleton _ _, fun x hx y hy => ?_⟩, fun y => ?_⟩
      · rw [List.mem_singleton] at hy
        subst hy
        obtain ⟨j, hj, rfl⟩ := (h2 x).1 hx
        have h3 := hs j (m - 1) (by omega) (by omega)
        have h4 := hs (m - 1) m (by omega) (by omega)
        unfold Lib.keeps at hk
        have h5 := of_decide_eq_true hk
        rcases h5 with h5 | h5
        · omega
        · omega
      · rw [List.mem_append, h2, List.mem_singleton]
        constructor
        · rintro (⟨j, hj, rfl⟩ | rfl)
          · exact ⟨j, by omega, rfl⟩
          · exact ⟨m, by omega, rfl⟩
        · rintro ⟨j, hj, rfl⟩
          by_cases e : j = m
          · subst e; exact Or.inr rfl
          · exact Or.inl ⟨j, by omega, rfl⟩
    · rw [if_neg hk, List.append_nil]
      refine ⟨h1, fun y => ?_⟩
      rw [h2]
      constructor
      · rintro ⟨j, hj, rfl⟩; exact ⟨j, by omega, rfl⟩
      · rintro ⟨j, hj, rfl⟩
        by_cases e : j = m
        · subst e
          unfold Lib.keeps at hk
          have h5 : ¬ (j = 0 ∨ d[j]! ≠ d[j - 1]!) := fun h => hk (decide_eq_true h)
          have h6 : j ≠ 0 := fun h => h5 (Or.inl h)
          have h7 : d[j]! = d[j - 1]! := by
            rcases Decidable.em (d[j]! = d[j - 1]!) with h | h
            · exact h
            · exact absurd (Or.inr h) h5
          exact ⟨j - 1, by omega, h7.symm⟩
        · exact ⟨j, by omega, rfl⟩
theorem sortU_sorted (l : List Int) : (sortU l).Pairwise (· ≤ ·) := by
  have h := List.pairwise_mergeSort (le := fun x y : Int => decide (x ≤ y)) (by intro a b c h1 h2; simp at h1 h2 ⊢; omega) (by intro a b; simp; omega) l
  unfold sortU
  exact h.imp (fun h => by simpa using h)
theorem norm_rises (l : List Int) : (normF l).Pairwise (· < ·) ∧ ∀ y, y ∈ normF l ↔ y ∈ l := by
  unfold normF Lib.compact
  have hsz : (sortU l).toArray.size = (sortU l).length := by simp
  have hget : ∀ j, j < (sortU l).length → (sortU l).toArray[j]! = (sortU l).getD j 0 := fun j hj => by
    rw [getElem!_pos _ j (by simpa using hj), List.getD_eq_getElem?_getD, List.getElem?_eq_getElem hj]; simp
  obtain ⟨h1, h2⟩ := compactUpTo_rises (sortU l).toArray (fun i j hij hj => by
    have hj' : j < (sortU l).length := by simpa using hj
    rw [hget i (by omega), hget j hj', List.getD_eq_getElem?_getD, List.getD_eq_getElem?_getD, List.getElem?_eq_getElem (by omega), List.getElem?_eq_getElem hj']
    simp only [Option.getD_some]
    rcases Nat.lt_or_eq_of_le hij with h | h
    · exact List.pairwise_iff_getElem.1 (sortU_sorted l) i j (by omega) hj' h
    · subst h; exact Int.le_refl _) _ (Nat.le_of_eq hsz.symm)
  refine ⟨h1, fun y => ?_⟩
  rw [h2]
  constructor
  · rintro ⟨j, hj, rfl⟩
    rw [hget j hj, List.getD_eq_getElem?_getD, List.getElem?_eq_getElem hj]
    have : (sortU l)[j] ∈ sortU (l) := List.getElem_mem hj
    unfold sortU at this
    rw [List.mem_mergeSort] at this
    exact this
  · intro hy
    have hy2 : y ∈ sortU (l) := by unfold sortU; rw [List.mem_mergeSort]; exact hy
    obtain ⟨j, hj, rfl⟩ := List.getElem_of_mem hy2
    exact ⟨j, hj, by rw [hget j hj, List.getD_eq_getElem?_getD, List.getElem?_eq_getElem hj]; rfl⟩

/-! ### Where a set begins or ends -/
theorem rising_unique : ∀ (a b : List Int), a.Pairwise (· < ·) → b.Pairwise (· < ·) → (∀ x, x ∈ a ↔ x ∈ b) → a = b
  | [], [], _, _, _ => rfl
  | [], y :: b, _, _, h => absurd ((h y).2 (by simp)) (by simp)
  | x :: a, [], _, _, h => absurd ((h x).1 (by simp)) (by simp)
  | x :: a, y :: b, ha, hb, h => by
    rw [List.pairwise_cons] at ha hb
    have hxy : x = y := by
      rcases List.mem_cons.1 ((h x).1 (by simp)) with h1 | h1
      · exact h1
      · rcases List.mem_cons.1 ((h y).2 (by simp)) with h2 | h2
        · exact h2.symm
        · have := ha.1 y h2; have := hb.1 x h1; omega
    subst hxy
    have hr : a = b := rising_unique a b ha.2 hb.2 (fun z => by
      constructor
      · intro hz
        have h1 := ha.1 z hz
        rcases List.mem_cons.1 ((h z).1 (by simp [hz])) with h2 | h2
        · omega
        · exact h2
      · intro hz
        have h1 := hb.1 z hz
        rcases List.mem_cons.1 ((h z).2 (by simp [hz])) with h2 | h2
        · omega
        · exact h2)
    rw [hr]
theorem mem_norm (l : List Int) (y : Int) : y ∈ normF l ↔ y ∈ l := (norm_rises l).2 y
theorem norm_eq {a b : List Int} (h : ∀ x, x ∈ a ↔ x ∈ b) : normF a = normF b :=
  rising_unique _ _ (norm_rises a).1 (norm_rises b).1 (fun x => by rw [mem_norm, mem_norm, h])
theorem norm_norm (l : List Int) : normF (normF l) = normF l := norm_eq (mem_norm l)
theorem compact_len' (xs : List Int) : (Lib.compact xs).length ≤ xs.length := by
  unfold Lib.compact Lib.compactUpTo
  rw [List.length_map]
  exact Nat.le_trans (List.length_filter_le _ _) (by simp)
theorem norm_len (l : List Int) : (normF l).length ≤ l.length := by
  unfold normF
  refine Nat.le_trans (compact_len' _) ?_
  unfold sortU
  rw [List.length_mergeSort]; exact Nat.le_refl _

end Go.Proofs.YtmoagoopdfpcnaaDoor.Txt
