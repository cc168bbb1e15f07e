/- filter.Check and filter.Decides: what they answer, out of their closures, for lists of rules of any length. -/
import Derived.Test.YtmoagoopdfpcnaaDoorQx10
import Derived.Test.YtmoagoopdfpcnaaDoorQx5
import Derived.Test.YtmoagoopdfpcnaaDoorQx6
import Derived.Test.YtmoagoopdfpcnaaDoorQx7
import Derived.Test.YtmoagoopdfpcnaaDoorQx8
import Derived.Test.YtmoagoopdfpcnaaDoorQx9
import Derived.Test.YtmoagoopdfpcnaaDoorEIdx
import Derived.Shelf.Abstract
namespace Go.Proofs.YtmoagoopdfpcnaaDoor.Q
open Go.RowKit Go.Proofs.YtmoagoopdfpcnaaDoorW.PrintWords Go.Proofs.YtmoagoopdfpcnaaDoorW.PrintLast Go.Proofs.YtmoagoopdfpcnaaDoorW.PrintMore
set_option linter.unusedVariables false
set_option linter.unusedSimpArgs false

def v38 (x : S38) : Value := .agg #[.bool x.f0, .int .i64 x.f1, .int .u32 x.f2.f0, .int .i64 x.f2.f1, .int .u32 x.f3.f0, .int .i64 x.f3.f1, .int .u32 x.f4.f0, .int .u32 x.f4.f1, .int .u32 x.f5.f0, .int .u32 x.f5.f1]

set_option maxHeartbeats 1000000 in
set_option maxRecDepth 100000 in
/-- slices.IndexFunc at rules, whatever function value answers p. -/
theorem indexFunc38 (p : S38 → Bool) (g : FuncId) (lb : Array Value) (eg : ∀ args w, (callFunc g args).run Tryd.prog w = .ok (.enter g args) w)
    (A0 : Option Addr) (c0 : Nat) (l0 : List S38) (w : World) (hr0 : Kd.C k38 w A0 l0.length l0)
    (hp : ∀ (x : S38) (W : World), Below w.heap.size w W → Calls Tryd.prog g (#[v38 x] ++ lb) W fun e w' => e = .returned (.bool (p x)) ∧ Below W.heap.size W w') :
    Calls Tryd.prog 81 #[.slice A0 l0.length c0, .func (.func g) #[] lb] w fun e w' => e = .returned (.int .i64 (idxI p l0)) ∧ Below w.heap.size w w' := by
  have hu38 := Tryd.underlying38
  have hu86 := Tryd.underlying86
  have hbig : l0.length ≤ 9223372036854775807 := hr0.2.1
  have HR := Aside0.mk hr0
  clear hr0
  have HP := Aside0.mk hp
  clear hp
  go_enter Tryd.func81, Tryd.ntmps81
  go_wp2
  go_loopg [5, 8] l0.length (fun gg _ s8 wr => ∃ kk : Nat, kk ≤ l0.length ∧ l0.length - kk ≤ gg ∧ s8 = .int .i64 kk ∧ Aside0 (Below w.heap.size w wr) ∧ Aside0 (∀ j, j < kk → p (l0.getD j z38) = false))
  case atStart => exact ⟨0, Nat.zero_le _, by omega, rfl, ⟨Below.refl _ _⟩, ⟨fun j hj => absurd hj (Nat.not_lt_zero _)⟩⟩
  case round =>
    obtain ⟨kk, hkk, hg, rfl, HB, A⟩ := hrel
    by_cases hlt : kk < l0.length
    · have hltz : (kk : Int) < (l0.length : Int) := by omega
      obtain ⟨ad, rfl, x0, x1, x2, x3, x4, x5, x6, x7, x8, x9⟩ := at_T38 (Kd.C_below HR.out HB.out) (kk : Int) (by omega) hltz
      have B : Aside0 (rd_T38 l0 (kk : Int) = l0.getD kk z38) := ⟨by unfold rd_T38; rw [Int.toNat_natCast]⟩
      generalize rd_T38 l0 (kk : Int) = y at x0 x1 x2 x3 x4 x5 x6 x7 x8 x9 B
      rw [Int.toNat_natCast] at x0 x1 x2 x3 x4 x5 x6 x7 x8 x9
      have hcall := HP.out y wr HB.out
      unfold v38 at hcall
      cases hq : p y with
      | true =>
        rw [hq] at hcall
        have HQ := Aside0.mk hq
        clear hq
        go_wp2_with (go_at_fn g; refine hcall.mono ?_; rintro e w' ⟨rfl, hb⟩)
        go_ret
        exact ⟨ret_i64 (idxI_hit p l0 kk z38 hlt (by rw [← B.out]; exact HQ.out) A.out).symm, below_step HB.out hb⟩
      | false =>
        rw [hq] at hcall
        have HQ := Aside0.mk hq
        clear hq
        go_wp2_with (go_at_fn g; refine hcall.mono ?_; rintro e w' ⟨rfl, hb⟩)
        go_roundg (l0.length - (kk + 1))
        case measure => omega
        case rel =>
          refine ⟨kk + 1, by omega, by omega, by go_num, ⟨below_step HB.out hb⟩, ⟨fun j hj => ?_⟩⟩
          by_cases e : j = kk
          · subst e
            rw [← B.out]; exact HQ.out
          · exact A.out j (by omega)
    · have hltz : ¬ (kk : Int) < (l0.length : Int) := by omega
      have : kk = l0.length := by omega
      subst this
      go_wp2
      go_ret
      exact ⟨ret_i64 (idxI_miss p l0 z38 A.out).symm, HB.out⟩


/-! ### What the checks of a prefix answer -/
def behindP (b : Int) : Int := (IntKind.u64.wrap ((shl .u64 1 (wrap64 (32 - b))) - 1)) % 4294967296
def chk (a b : Int) : Int := if b < 0 ∨ b > 32 then 1 else if Go.bits .and .u32 a (behindP b) ≠ 0 then 10 else 0
theorem wrap_32 (b : Int) (h0 : 0 ≤ b) (h1 : b ≤ 32) : wrap64 (32 - b) = 32 - b := by unfold wrap64; omega
theorem behind_some (b : Int) (h0 : 0 ≤ b) (h1 : b ≤ 32) : addr_behind.f b = some (behindP b) := by
  unfold addr_behind.f behindP
  rw [if_pos (by rw [wrap_32 b h0 h1]; omega)]
theorem check_some (a b : Int) : addr_Check.f 1 a b = some (chk a b) := by
  unfold addr_Check.f chk
  by_cases h0 : b < 0
  · simp [addr_Check.j0, h0]
  · by_cases h1 : b > 32
    · simp [addr_Check.j0, h0, h1]
    · simp only [addr_Check.j0, h0, h1, if_false, decide_false, Bool.false_eq_true, or_self]
      rw [behind_some b (by omega) (by omega)]
      simp only [Option.bind_some]
      by_cases h2 : Go.bits .and .u32 a (behindP b) = 0 <;> simp [h2]
theorem chk_range {a b : Int} (h : chk a b = 0) : 0 ≤ b ∧ b ≤ 32 := by
  unfold chk at h
  by_cases h0 : b < 0 ∨ b > 32
  · rw [if_pos h0] at h; omega
  · omega
def inB (x a b : Int) : Bool := decide (chk a b = 0) && (Go.bits .andNot .u32 x (behindP b) == a)
theorem in_some (x a b : Int) : addr_In.f 1 x a b = some (inB x a b) := by
  unfold addr_In.f inB
  rw [check_some]
  simp only [Option.bind_some]
  by_cases h : chk a b = 0
  · obtain ⟨h0, h1⟩ := chk_range h
    rw [if_pos h, behind_some b h0 h1]
    simp [h]
  · rw [if_neg h]; simp [h]

def portsB (x : S36) : Bool := decide (x.f0 ≤ x.f1) && decide (x.f1 ≤ 65535)
theorem ports_some (x : S36) : filter_ports.f x.f0 x.f1 = some (portsB x) := by
  unfold filter_ports.f portsB
  by_cases h : x.f0 ≤ x.f1 <;> simp [h]
/-- May a rule be? -/
def mayB (x : S38) : Bool := decide (x.f1 ≥ -1) && decide (x.f1 ≤ 255) && decide (chk x.f2.f0 x.f2.f1 = 0) && decide (chk x.f3.f0 x.f3.f1 = 0) && portsB x.f4 && portsB x.f5
theorem may_some (x : S38) : filter_may.f 1 x.f0 x.f1 x.f2.f0 x.f2.f1 x.f3.f0 x.f3.f1 x.f4.f0 x.f4.f1 x.f5.f0 x.f5.f1 = some (mayB x) := by
  unfold filter_may.f mayB
  simp only [check_some, ports_some, Option.bind_some]
  by_cases h1 : x.f1 ≥ -1 <;> by_cases h2 : x.f1 ≤ 255 <;> by_cases h3 : chk x.f2.f0 x.f2.f1 = 0 <;> by_cases h4 : chk x.f3.f0 x.f3.f1 = 0 <;> cases h5 : portsB x.f4 <;> simp [h1, h2, h3, h4, h5]
theorem check1_some (x : S38) : filter_Check_1.f 1 x.f0 x.f1 x.f2.f0 x.f2.f1 x.f3.f0 x.f3.f1 x.f4.f0 x.f4.f1 x.f5.f0 x.f5.f1 = some (!mayB x) := by
  unfold filter_Check_1.f
  rw [may_some]; rfl
def spanB (x : S36) (p : Int) : Bool := decide (x.f0 ≤ p % 4294967296) && decide (p % 4294967296 ≤ x.f1)
theorem span_some (x : S36) (p : Int) : filter_in.f x.f0 x.f1 p = some (spanB x p) := by
  unfold filter_in.f spanB
  by_cases h : x.f0 ≤ p % 4294967296 <;> simp [h]
/-- Does a header fit a rule? -/
def fitsB (x : S38) (h0 h1 h2 h3 h4 : Int) : Bool :=
  decide (chk x.f2.f0 x.f2.f1 = 0) && decide (chk x.f3.f0 x.f3.f1 = 0) && inB h0 x.f2.f0 x.f2.f1 && inB h1 x.f3.f0 x.f3.f1 && (decide (x.f1 = -1) || decide (x.f1 = wrap64 h2)) && spanB x.f4 h3 && spanB x.f5 h4
theorem fits_some (x : S38) (h0 h1 h2 h3 h4 : Int) : filter_Fits.f 1 x.f0 x.f1 x.f2.f0 x.f2.f1 x.f3.f0 x.f3.f1 x.f4.f0 x.f4.f1 x.f5.f0 x.f5.f1 h0 h1 h2 h3 h4 = some (fitsB x h0 h1 h2 h3 h4) := by
  unfold filter_Fits.f fitsB
  simp only [check_some, in_some, span_some, Option.bind_some]
  by_cases h1' : chk x.f2.f0 x.f2.f1 = 0 <;> by_cases h2' : chk x.f3.f0 x.f3.f1 = 0 <;> cases h3' : inB h0 x.f2.f0 x.f2.f1 <;> cases h4' : inB h1 x.f3.f0 x.f3.f1 <;> by_cases h5' : x.f1 = -1 <;> by_cases h6' : x.f1 = wrap64 h2 <;> cases h7' : spanB x.f4 h3 <;> simp [h1', h2', h3', h4', h5', h6', h7'] <;> omega

/-! ### The calls -/

set_option maxHeartbeats 1000000 in
/-- slices.ContainsFunc at rules. -/
theorem containsFunc38 (p : S38 → Bool) (g : FuncId) (lb : Array Value) (eg : ∀ args w, (callFunc g args).run Tryd.prog w = .ok (.enter g args) w)
    (A0 : Option Addr) (c0 : Nat) (l0 : List S38) (w : World) (hr0 : Kd.C k38 w A0 l0.length l0)
    (hp : ∀ (x : S38) (W : World), Below w.heap.size w W → Calls Tryd.prog g (#[v38 x] ++ lb) W fun e w' => e = .returned (.bool (p x)) ∧ Below W.heap.size W w') :
    Calls Tryd.prog 122 #[.slice A0 l0.length c0, .func (.func g) #[] lb] w fun e w' => e = .returned (.bool (l0.any p)) ∧ Below w.heap.size w w' := by
  have hc := indexFunc38 p g lb eg A0 c0 l0 w hr0 hp
  have hi : decide (0 ≤ idxI p l0) = l0.any p := by
    unfold idxI
    cases h : l0.findIdx? p with
    | none =>
      rw [List.findIdx?_eq_none_iff] at h
      simp
      intro x hx; simpa using h x hx
    | some i =>
      obtain ⟨hi, h1, _⟩ := List.findIdx?_eq_some_iff_getElem.1 h
      have : l0.any p = true := List.any_eq_true.2 ⟨_, List.getElem_mem hi, h1⟩
      rw [this]; simp
  have HI := Aside0.mk hi
  clear hi hp hr0 eg
  generalize idxI p l0 = z at hc HI
  go_enter Tryd.func122, Tryd.ntmps122
  go_wp2_with (go_at_call 81; refine hc.mono ?_; rintro e w' ⟨rfl, hb⟩)
  go_ret
  exact ⟨ret_bool HI.out, hb⟩

/-- What filter.Check answers. -/
def checkF (l : List S38) : Int := if 256 < l.length ∨ l.any (fun x => !mayB x) = true then 121 else 0
def filter_Check.f (_a : ByteArray) (l : List S38) : Option Int := some (checkF l)

set_option maxHeartbeats 1000000 in
theorem filter_Check.calls (a0_0 : ByteArray) (A0_1 : Option Addr) (c0_1 : Nat) (l0_1 : List S38) (r : Int) (w : World) (hr0_1 : Kd.C k38 w A0_1 l0_1.length l0_1) (hc0_1 : l0_1.length ≤ c0_1) (h : filter_Check.f a0_0 l0_1 = some r) :
    Calls Tryd.prog 80 #[.agg #[.string a0_0, .slice A0_1 l0_1.length c0_1]] w fun e w' => e = .returned (.int .i64 r) ∧ Below w.heap.size w w' := by
  have hu88 := Tryd.underlying88
  have eg : ∀ args w, (callFunc 123 args).run Tryd.prog w = .ok (.enter 123 args) w := Go.Proofs.enters_of Tryd.func123 (by kernel_rfl) rfl
  have hc := fun (W : World) (hb : Below w.heap.size w W) => containsFunc38 (fun x => !mayB x) 123 #[] eg A0_1 c0_1 l0_1 W (Kd.C_below hr0_1 hb) (fun x W' _ => filter_Check_1.calls 1 _ _ _ _ _ _ _ _ _ _ _ W' (check1_some x))
  have hr : r = checkF l0_1 := by unfold filter_Check.f at h; exact (Option.some.inj h).symm
  have HB1 : ∀ o, Below w.heap.size w (w.alloc o) := fun o => below_alloc (Below.refl _ _) o
  clear hr0_1 hc0_1 h
  subst hr
  unfold checkF
  by_cases h1 : 256 < l0_1.length
  · rw [if_pos (.inl h1)]
    have h1b : decide ((256 : Int) < (l0_1.length : Int)) = true := by simp; omega
    clear h1 hc eg
    go_enter Tryd.func80, Tryd.ntmps80
    go_wp2
    go_ret
    exact ⟨rfl, HB1 _⟩
  · have h1b : decide ((256 : Int) < (l0_1.length : Int)) = false := by simp; omega
    cases h2 : l0_1.any (fun x => !mayB x) with
    | true =>
      rw [if_pos (.inr rfl)]
      simp only [h2] at hc
      clear h1 eg h2
      have HC := Aside0.mk hc
      clear hc
      go_enter Tryd.func80, Tryd.ntmps80
      go_wp2_with (go_at_call 122; refine (HC.out _ (HB1 _)).mono ?_; rintro e w' ⟨rfl, hb⟩)
      go_ret
      exact ⟨rfl, below_step (HB1 _) hb⟩
    | false =>
      rw [if_neg (by simp; omega)]
      simp only [h2] at hc
      clear h1 eg h2
      have HC := Aside0.mk hc
      clear hc
      go_enter Tryd.func80, Tryd.ntmps80
      go_wp2_with (go_at_call 122; refine (HC.out _ (HB1 _)).mono ?_; rintro e w' ⟨rfl, hb⟩)
      go_ret
      exact ⟨rfl, below_step (HB1 _) hb⟩

/-- The closure of filter.Decides: its header lies in block b. -/
theorem decides1 (x : S38) (h0 h1 h2 h3 h4 : Int) (b : Nat) (W : World) (hb : W.heap[b]? = some (.cells #[.int .u32 h0, .int .u32 h1, .int .u8 h2, .int .u16 h3, .int .u16 h4] 93 (0, 0))) :
    Calls Tryd.prog 82 (#[v38 x] ++ #[.pointer (some ⟨b, 0, none⟩)]) W fun e w' => e = .returned (.bool (fitsB x h0 h1 h2 h3 h4)) ∧ Below W.heap.size W w' := by
  have hu38 := Tryd.underlying38
  have hu93 := Tryd.underlying93
  have hlt := blk_lt hb
  have c0 : W.cell? ⟨b, 0, none⟩ = some (.int .u32 h0) := (blk_cell hb 0).trans rfl
  have c1 : W.cell? ⟨b, 1, none⟩ = some (.int .u32 h1) := (blk_cell hb 1).trans rfl
  have c2 : W.cell? ⟨b, 2, none⟩ = some (.int .u8 h2) := (blk_cell hb 2).trans rfl
  have c3 : W.cell? ⟨b, 3, none⟩ = some (.int .u16 h3) := (blk_cell hb 3).trans rfl
  have c4 : W.cell? ⟨b, 4, none⟩ = some (.int .u16 h4) := (blk_cell hb 4).trans rfl
  have hc := fun W' => filter_Fits.calls 1 _ _ _ _ _ _ _ _ _ _ _ _ _ _ _ _ W' (fits_some x h0 h1 h2 h3 h4)
  have HB1 : ∀ o, Below W.heap.size W (W.alloc o) := fun o => below_alloc (Below.refl _ _) o
  generalize fitsB x h0 h1 h2 h3 h4 = r at hc ⊢
  have HC := Aside0.mk hc
  clear hc hb
  unfold v38
  go_enter Tryd.func82, Tryd.ntmps82
  go_wp2_with (first | (go_at_call 83; refine (HC.out _).mono ?_; rintro e w' ⟨rfl, hb⟩))
  go_ret
  exact ⟨rfl, below_step (HB1 _) hb⟩

/-- What filter.Decides answers. -/
def decidesF (l : List S38) (h0 h1 h2 h3 h4 : Int) : Int × Int := if checkF l = 0 then (idxI (fun x => fitsB x h0 h1 h2 h3 h4) l, 0) else (0, checkF l)
def filter_Decides.f (_a : ByteArray) (l : List S38) (h0 h1 h2 h3 h4 : Int) : Option (Int × Int) := some (decidesF l h0 h1 h2 h3 h4)

set_option maxHeartbeats 1000000 in
theorem filter_Decides.calls (a0_0 : ByteArray) (A0_1 : Option Addr) (c0_1 : Nat) (l0_1 : List S38) (a1_0 a1_1 a1_2 a1_3 a1_4 : Int) (r1 r2 : Int) (w : World) (hr0_1 : Kd.C k38 w A0_1 l0_1.length l0_1) (hc0_1 : l0_1.length ≤ c0_1)
    (h : filter_Decides.f a0_0 l0_1 a1_0 a1_1 a1_2 a1_3 a1_4 = some (r1, r2)) :
    Calls Tryd.prog 48 #[.agg #[.string a0_0, .slice A0_1 l0_1.length c0_1], .agg #[.int .u32 a1_0, .int .u32 a1_1, .int .u8 a1_2, .int .u16 a1_3, .int .u16 a1_4]] w fun e w' => e = .returned (.tuple #[.int .i64 r1, .int .i64 r2]) ∧ Below w.heap.size w w' := by
  have hu88 := Tryd.underlying88
  have hu93 := Tryd.underlying93
  have eg : ∀ args w, (callFunc 82 args).run Tryd.prog w = .ok (.enter 82 args) w := Go.Proofs.enters_of Tryd.func82 (by kernel_rfl) rfl
  have hk := fun (W : World) (hb : Below w.heap.size w W) => filter_Check.calls a0_0 A0_1 c0_1 l0_1 _ W (Kd.C_below hr0_1 hb) hc0_1 rfl
  have hd := fun (b : Nat) (W : World) (hb : Below w.heap.size w W) (hbl : W.heap[b]? = some (.cells #[.int .u32 a1_0, .int .u32 a1_1, .int .u8 a1_2, .int .u16 a1_3, .int .u16 a1_4] 93 (0, 0))) =>
    indexFunc38 (fun x => fitsB x a1_0 a1_1 a1_2 a1_3 a1_4) 82 #[.pointer (some ⟨b, 0, none⟩)] eg A0_1 c0_1 l0_1 W (Kd.C_below hr0_1 hb) (fun x W' hb' => decides1 x a1_0 a1_1 a1_2 a1_3 a1_4 b W' ((hb'.block b (blk_lt hbl)).trans hbl))
  have hr : (r1, r2) = decidesF l0_1 a1_0 a1_1 a1_2 a1_3 a1_4 := by unfold filter_Decides.f at h; exact (Option.some.inj h).symm
  have HB2 : ∀ o o', Below w.heap.size w ((w.alloc o).alloc o') := fun o o' => below_alloc (below_alloc (Below.refl _ _) o) o'
  have hz : ∀ o o', w.heap.size + 1 < ((w.alloc o).alloc o').heap.size := fun o o' => by simp
  have hbk : ∀ o o', ((w.alloc o).alloc o').heap[w.heap.size + 1]? = some o' := fun o o' => by
    have := heap_alloc_new (w.alloc o) o'
    simpa using this
  clear hr0_1 hc0_1 h
  unfold decidesF at hr
  by_cases h1 : checkF l0_1 = 0
  · rw [if_pos h1] at hr
    obtain ⟨rfl, rfl⟩ := Prod.mk.inj hr
    simp only [h1] at hk
    generalize idxI (fun x => fitsB x a1_0 a1_1 a1_2 a1_3 a1_4) l0_1 = z at hd hr ⊢
    have HK := Aside0.mk hk
    have HD := Aside0.mk hd
    have HE := Aside0.mk eg
    have HZ := Aside0.mk hz
    have HKK := Aside0.mk hbk
    clear hk hd eg h1 hr hz hbk
    go_enter Tryd.func48, Tryd.ntmps48
    go_wp2_with (first | (go_at_call 80; refine (HK.out _ (HB2 _ _)).mono ?_; rintro e w1 ⟨rfl, hb1⟩; have HB3 := Aside0.mk (below_step (HB2 _ _) hb1); have HX := Aside0.mk ((hb1.block _ (HZ.out _ _)).trans (HKK.out _ _)); obtain ⟨k0, k1⟩ : (∀ b o, b < _ → w1.cell? ⟨b, o, none⟩ = _) ∧ True := ⟨fun b o h => hb1.cell (p := ⟨b, o, none⟩) h, trivial⟩; clear hb1) | (go_at_call 81; refine (HD.out (w.heap.size + 1) _ HB3.out HX.out).mono ?_; rintro e w2 ⟨rfl, hb2⟩))
    go_ret2
    exact ⟨rfl, below_step HB3.out hb2⟩
  · rw [if_neg h1] at hr
    obtain ⟨rfl, rfl⟩ := Prod.mk.inj hr
    have h1b : (checkF l0_1 != 0) = true := by simpa using h1
    generalize checkF l0_1 = z at hk h1b ⊢
    have HK := Aside0.mk hk
    clear hk hd eg h1 hr
    go_enter Tryd.func48, Tryd.ntmps48
    go_wp2_with (first | (go_at_call 80; refine (HK.out _ (HB2 _ _)).mono ?_; rintro e w1 ⟨rfl, hb1⟩))
    go_ret2
    exact ⟨rfl, below_step (HB2 _ _) hb1⟩

end Go.Proofs.YtmoagoopdfpcnaaDoor.Q
