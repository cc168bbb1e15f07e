/- spans.Has: a number is in one of the spans. -/
import Derived.Test.YtmoagoopdfpcnaaDoorEIdx
namespace Go.Proofs.YtmoagoopdfpcnaaDoor.Q
open Go.RowKit Go.Proofs.YtmoagoopdfpcnaaDoorW.PrintWords Go.Proofs.YtmoagoopdfpcnaaDoorW.PrintLast Go.Proofs.YtmoagoopdfpcnaaDoorW.PrintMore
set_option linter.unusedVariables false
set_option linter.unusedSimpArgs false

def v36 (x : S36) : Value := .agg #[.int .u32 x.f0, .int .u32 x.f1]

set_option maxHeartbeats 1000000 in
set_option maxRecDepth 100000 in
/-- slices.IndexFunc at these elements, whatever function value answers p. -/
theorem indexFunc36 (p : S36 → Bool) (g : FuncId) (lb : Array Value) (eg : ∀ args w, (callFunc g args).run Tryd.prog w = .ok (.enter g args) w)
    (A0 : Option Addr) (c0 : Nat) (l0 : List S36) (w : World) (hr0 : Kd.C k36 w A0 l0.length l0)
    (hp : ∀ (x : S36) (W : World), Below w.heap.size w W → Calls Tryd.prog g (#[v36 x] ++ lb) W fun e w' => e = .returned (.bool (p x)) ∧ Below W.heap.size W w') :
    Calls Tryd.prog 137 #[.slice A0 l0.length c0, .func (.func g) #[] lb] w fun e w' => e = .returned (.int .i64 (idxI p l0)) ∧ Below w.heap.size w w' := by
  have hu36 := Tryd.underlying36
  have hu62 := Tryd.underlying62
  have hbig : l0.length ≤ 9223372036854775807 := hr0.2.1
  have HR := Aside0.mk hr0
  clear hr0
  have HP := Aside0.mk hp
  clear hp
  go_enter Tryd.func137, Tryd.ntmps137
  go_wp2
  go_loopg [5, 8] l0.length (fun gg _ s8 wr => ∃ kk : Nat, kk ≤ l0.length ∧ l0.length - kk ≤ gg ∧ s8 = .int .i64 kk ∧ Aside0 (Below w.heap.size w wr) ∧ Aside0 (∀ j, j < kk → p (l0.getD j z36) = false))
  case atStart => exact ⟨0, Nat.zero_le _, by omega, rfl, ⟨Below.refl _ _⟩, ⟨fun j hj => absurd hj (Nat.not_lt_zero _)⟩⟩
  case round =>
    obtain ⟨kk, hkk, hg, rfl, HB, A⟩ := hrel
    by_cases hlt : kk < l0.length
    · have hltz : (kk : Int) < (l0.length : Int) := by omega
      obtain ⟨ad, rfl, x0, x1⟩ := at_T36 (Kd.C_below HR.out HB.out) (kk : Int) (by omega) hltz
      have B : Aside0 (rd_T36 l0 (kk : Int) = l0.getD kk z36) := ⟨by unfold rd_T36; rw [Int.toNat_natCast]⟩
      generalize rd_T36 l0 (kk : Int) = y at x0 x1 B
      rw [Int.toNat_natCast] at x0 x1
      have hcall := HP.out y wr HB.out
      unfold v36 at hcall
      cases hq : p y with
      | true =>
        rw [hq] at hcall
        have HQ := Aside0.mk hq
        clear hq
        go_wp2_with (go_at_fn g; refine hcall.mono ?_; rintro e w' ⟨rfl, hb⟩)
        go_ret
        exact ⟨ret_i64 (idxI_hit p l0 kk z36 hlt (by rw [← B.out]; exact HQ.out) A.out).symm, below_step HB.out hb⟩
      | false =>
        rw [hq] at hcall
        have HQ := Aside0.mk hq
        clear hq
        go_wp2_with (go_at_fn g; refine hcall.mono ?_; rintro e w' ⟨rfl, hb⟩)
        go_roundg (l0.length - (kk + 1))
        case measure => omega
        case rel =>
          refine ⟨kk + 1, by omega, by omega, by go_num, ⟨below_step HB.out hb⟩, ⟨fun j hj => ?_⟩⟩
          by_cases e : j = kk
          · subst e
            rw [← B.out]; exact HQ.out
          · exact A.out j (by omega)
    · have hltz : ¬ (kk : Int) < (l0.length : Int) := by omega
      have : kk = l0.length := by omega
      subst this
      go_wp2
      go_ret
      exact ⟨ret_i64 (idxI_miss p l0 z36 A.out).symm, HB.out⟩

set_option maxHeartbeats 1000000 in
/-- slices.ContainsFunc at these elements. -/
theorem containsFunc36 (p : S36 → Bool) (g : FuncId) (lb : Array Value) (eg : ∀ args w, (callFunc g args).run Tryd.prog w = .ok (.enter g args) w)
    (A0 : Option Addr) (c0 : Nat) (l0 : List S36) (w : World) (hr0 : Kd.C k36 w A0 l0.length l0)
    (hp : ∀ (x : S36) (W : World), Below w.heap.size w W → Calls Tryd.prog g (#[v36 x] ++ lb) W fun e w' => e = .returned (.bool (p x)) ∧ Below W.heap.size W w') :
    Calls Tryd.prog 99 #[.slice A0 l0.length c0, .func (.func g) #[] lb] w fun e w' => e = .returned (.bool (l0.any p)) ∧ Below w.heap.size w w' := by
  have hc := indexFunc36 p g lb eg A0 c0 l0 w hr0 hp
  have HI := Aside0.mk (idxI_any p l0)
  clear hp hr0 eg
  generalize idxI p l0 = z at hc HI
  go_enter Tryd.func99, Tryd.ntmps99
  go_wp2_with (go_at_call 137; refine hc.mono ?_; rintro e w' ⟨rfl, hb⟩)
  go_ret
  exact ⟨ret_bool HI.out, hb⟩

/-- Is a number in a span? -/
def inS (x : Int) (s : S36) : Bool := decide (s.f0 ≤ x) && decide (x ≤ s.f1)

set_option maxHeartbeats 1000000 in
theorem has1 (s : S36) (x : Int) (b : Nat) (W : World) (hb : W.heap[b]? = some (.cells #[.int .u32 x] 23 (0, 0))) :
    Calls Tryd.prog 100 (#[v36 s] ++ #[.pointer (some ⟨b, 0, none⟩)]) W fun e w' => e = .returned (.bool (inS x s)) ∧ Below W.heap.size W w' := by
  have hu36 := Tryd.underlying36
  have hlt := blk_lt hb
  have c0 : W.cell? ⟨b, 0, none⟩ = some (.int .u32 x) := (blk_cell hb 0).trans rfl
  have HB1 : ∀ o, Below W.heap.size W (W.alloc o) := fun o => below_alloc (Below.refl _ _) o
  unfold v36 inS
  by_cases h : s.f0 ≤ x
  · have h1 : decide (s.f0 ≤ x) = true := decide_eq_true h
    rw [h1, Bool.true_and]
    clear h hb
    go_enter Tryd.func100, Tryd.ntmps100
    go_wp2
    go_ret
    exact ⟨rfl, HB1 _⟩
  · have h1 : decide (s.f0 ≤ x) = false := decide_eq_false h
    rw [h1, Bool.false_and]
    clear h hb
    go_enter Tryd.func100, Tryd.ntmps100
    go_wp2
    go_ret
    exact ⟨rfl, HB1 _⟩

def spans_Has.f (l : List S36) (x : Int) : Option Bool := some (l.any (inS x))
set_option maxHeartbeats 1000000 in
theorem spans_Has.calls (A0 : Option Addr) (c0 : Nat) (l0 : List S36) (a1 : Int) (r : Bool) (w : World) (hr0 : Kd.C k36 w A0 l0.length l0) (hc0 : l0.length ≤ c0) (h : spans_Has.f l0 a1 = some r) :
    Calls Tryd.prog 66 #[.slice A0 l0.length c0, .int .u32 a1] w fun e w' => e = .returned (.bool r) ∧ Below w.heap.size w w' := by
  have eg : ∀ args w, (callFunc 100 args).run Tryd.prog w = .ok (.enter 100 args) w := Go.Proofs.enters_of Tryd.func100 (by kernel_rfl) rfl
  have hd := fun (b : Nat) (W : World) (hb : Below w.heap.size w W) (hbl : W.heap[b]? = some (.cells #[.int .u32 a1] 23 (0, 0))) =>
    containsFunc36 (inS a1) 100 #[.pointer (some ⟨b, 0, none⟩)] eg A0 c0 l0 W (Kd.C_below hr0 hb) (fun s W' hb' => has1 s a1 b W' ((hb'.block b (blk_lt hbl)).trans hbl))
  have hr : r = l0.any (inS a1) := by unfold spans_Has.f at h; exact (Option.some.inj h).symm
  subst hr
  have HB1 : ∀ o, Below w.heap.size w (w.alloc o) := fun o => below_alloc (Below.refl _ _) o
  have hbk : ∀ o, (w.alloc o).heap[w.heap.size]? = some o := fun o => heap_alloc_new w o
  clear hr0 hc0 h eg
  generalize l0.any (inS a1) = z at hd ⊢
  have HD := Aside0.mk hd
  have HKK := Aside0.mk hbk
  clear hd hbk
  go_enter Tryd.func66, Tryd.ntmps66
  go_wp2_with (go_at_call 99; refine (HD.out w.heap.size _ (HB1 _) (HKK.out _)).mono ?_; rintro e w2 ⟨rfl, hb2⟩)
  go_ret
  exact ⟨rfl, below_step (HB1 _) hb2⟩

end Go.Proofs.YtmoagoopdfpcnaaDoor.Q
