/- SpansSets, walked by hand. -/
import Derived.Test.YtmoagoopdfpcnaaEOr
import Derived.Test.YtmoagoopdfpcnaaELarge
import Derived.Test.YtmoagoopdfpcnaaQx24
import Derived.Test.YtmoagoopdfpcnaaQx25
import Derived.Test.YtmoagoopdfpcnaaQx28
import Derived.Test.YtmoagoopdfpcnaaQx30
import Derived.Test.YtmoagoopdfpcnaaQx32
import Derived.Test.YtmoagoopdfpcnaaQx34
namespace Go.Proofs.Ytmoagoopdfpcnaa.Q
open Go.RowKit Go.Proofs.YtmoagoopdfpcnaaW.PrintWords Go.Proofs.YtmoagoopdfpcnaaW.PrintLast Go.Proofs.YtmoagoopdfpcnaaW.PrintMore
set_option linter.unusedVariables false
set_option linter.unusedSimpArgs false

theorem R_empty (W : World) (base : Nat) (h : base ≤ W.heap.size) : Kd.R k31 31 (W.alloc (.cells #[] 31)) base (fun _ => True) (.slice (some ⟨W.heap.size, 0, none⟩) 0 0) [] :=
  ⟨fun _ _ => trivial, [], ⟨rfl, Or.inr ⟨W.heap.size, 0, #[], rfl, h, blk_new W _, Nat.le_refl _, by decide, rfl, rfl⟩⟩, Reps.none _ _⟩

/-- A slice as a cell holds it. -/
structure SV where
  A : Option Addr
  n : Nat
  c : Nat
def encSV (s : SV) : Value := .slice s.A s.n s.c
def kSV : Kd SV := Kd.scalar encSV (fun _ => rfl)
theorem info71p : (Try.prog.info? 71).map (fun i => (i.zero, i.size, i.bytes)) = some (some (.slice none 0 0), 1, 24) := by kernel_rfl

theorem R_own1 {W : World} {base : Nat} {ok : Nat → Prop} {v : Value} {F : List S31} (h : Kd.R k31 31 W base ok v F) : Kd.R k31 31 W base (fun k => v.ownBlock = some k) v F := by
  obtain ⟨h0, inner, ho, hr⟩ := h
  refine ⟨fun k hk => hk, inner, ho, hr.imp_ (fun p c hp => ?_)⟩
  obtain rfl := k31_openM hp
  exact k31_mkM _ _ _ p
theorem R_lit5 (W : World) (base : Nat) (hb : base ≤ W.heap.size) (l : List SV) (hl : l.length ≤ 9223372036854775807 := by simp) : Kd.R kSV 71 (W.alloc (.cells (l.map encSV).toArray 71)) base (fun k => k = W.heap.size) (.slice (some ⟨W.heap.size, 0, none⟩) l.length l.length) l := by
  refine ⟨fun k hk => by simpa [Value.ownBlock, eq_comm] using hk, l.map encSV, ⟨by show (l.map encSV).length = l.length * 1; simp, Or.inr ⟨W.heap.size, l.length, (l.map encSV).toArray, rfl, hb, blk_new W _, Nat.le_refl _, by unfold maxLen; omega, by show (l.map encSV).toArray.size = l.length * 1; simp, ?_⟩⟩, ⟨by show (l.map encSV).length = l.length * 1; simp, fun j p hj => ?_⟩⟩
  · show (l.map encSV).take (l.length * 1) = l.map encSV
    rw [List.take_of_length_le (by simp)]
  · show ((l.map encSV).drop (j * 1)).take 1 = [encSV p]
    have hjl := (List.getElem?_eq_some_iff.1 hj).1
    rw [Nat.mul_one, List.drop_eq_getElem_cons (by simpa using hjl), List.take_succ_cons, List.take_zero, List.getElem_map]
    rw [List.getElem?_eq_getElem hjl] at hj
    rw [Option.some.inj hj]
theorem quiet_drawn {P : Program} {f : FuncId} {args : Array Value} {w : World} {n : Nat} {v : Value} (h : Calls P f args (w.drewN n) fun e w' => e = .returned v ∧ Drawn0 (w.drewN n) w') : Calls P f args (w.drewN n) fun e w'' => e = .returned v ∧ ∃ m, w'' = w.drewN m :=
  h.mono fun e w' hh => by
    obtain ⟨he, ⟨m, hm⟩⟩ := hh
    exact ⟨he, n + m, by rw [hm, World.drewN_drewN]⟩

theorem store99 {W : World} {base g n cap : Nat} {ok : Nat → Prop} {xs : List S31} (H : Kd.R k31 31 W base ok (.slice (some ⟨g, 0, none⟩) n cap) xs) (i : Nat) (hi : i < n) :
    ∃ xs' : List S31, xs'.length = xs.length ∧ Kd.R k31 31 (W.setCell ⟨g, i * 2, none⟩ (.int .u32 99)) base ok (.slice (some ⟨g, 0, none⟩) n cap) xs' := by
  obtain ⟨c, hcl, hM, hcc, hf⟩ := Kd.R_elem H z31 (i : Int) (by omega) (by omega)
  obtain rfl := k31_openM hM
  have h1 := (Kd.R_seg H (i : Int) (by omega) (by omega) (seg := [.int .u32 99]) (j := 0) (okp := fun k => ok k ∧ k ≠ g) (x' := ⟨99, (xs.getD (i : Int).toNat z31).f1⟩) hcl hcc (by show 0 + 1 ≤ 2; omega) (k31_mkM _ _ _ (⟨99, (xs.getD (i : Int).toNat z31).f1⟩ : S31)) (fun k hk => hk)).1
  rw [Int.toNat_natCast] at h1
  exact ⟨_, by rw [List.length_set], h1⟩
theorem cell31 {W : World} {base g n cap : Nat} {ok : Nat → Prop} {xs : List S31} (H : Kd.R k31 31 W base ok (.slice (some ⟨g, 0, none⟩) n cap) xs) (i : Nat) (hi : i < n) :
    (∃ v : Int, W.cell? ⟨g, i * 2, none⟩ = some (.int .u32 v)) ∧ W.frozen? ⟨g, i * 2, none⟩ = false := by
  obtain ⟨c, hcl, hM, hcc, hf⟩ := Kd.R_elem H z31 (i : Int) (by omega) (by omega)
  obtain rfl := k31_openM hM
  have h1 := hcc 0 _ rfl
  have h2 := hf 0
  rw [Int.toNat_natCast] at h1 h2
  exact ⟨⟨_, h1⟩, h2⟩
theorem cellSV {W : World} {base g n cap : Nat} {ok : Nat → Prop} {xs : List SV} (H : Kd.R kSV 71 W base ok (.slice (some ⟨g, 0, none⟩) n cap) xs) (i : Nat) (s : SV) (hi : xs[i]? = some s) (hn : i < n) :
    W.cell? ⟨g, i, none⟩ = some (encSV s) ∧ W.frozen? ⟨g, i, none⟩ = false := by
  obtain ⟨c, hc1, hM, hcc, hfr⟩ := Kd.R_elem H (⟨none, 0, 0⟩ : SV) (i : Int) (by omega) (by omega)
  have hgd : xs.getD i ⟨none, 0, 0⟩ = s := by rw [List.getD_eq_getElem?_getD, hi]; rfl
  rw [Int.toNat_natCast, hgd] at hM
  have hM' : c = [encSV s] := hM
  have hy1 := hcc 0 (encSV s) (by rw [hM']; rfl)
  have hy2 := hfr 0
  have e : i * kSV.sz + 0 = i := by show i * 1 + 0 = i; omega
  rw [Int.toNat_natCast, e] at hy1 hy2
  exact ⟨hy1, hy2⟩

theorem step70 {wS wr w7 : World} {g i base : Nat} {Vi : SV} {Vs cur : List SV} {Fs : List (List S31)} {v : Value} {A7 : Option Addr} {n7 c7 : Nat} {F7 : List S31} {s2 : SV} (hi : i < 5)
    (HG : Kd.R kSV 71 wr base (fun q => q = g) (.slice (some ⟨g, 0, none⟩) 5 5) cur) (hs2 : cur[i]? = some s2)
    (HR : ∀ (j : Nat) (s : SV) (F : List S31), i < j → Vs[j]? = some s → Fs[j]? = some F → Kd.R k31 31 wr base (fun q => (encSV s).ownBlock = some q) (encSV s) F)
    (hd : ∀ (j : Nat) (s : SV), i < j → Vs[j]? = some s → ∀ q, (encSV Vi).ownBlock = some q → ∀ q', (encSV s).ownBlock = some q' → q' ≠ q)
    (hV : ∀ (j : Nat) (s : SV), Vs[j]? = some s → ∀ q, (encSV s).ownBlock = some q → q < g) (hVi : Vs[i]? = some Vi)
    (hown : ∀ q, v.ownBlock = some q → (encSV Vi).ownBlock = some q ∨ g < q) (hg7 : wr.grownBy w7 v.ownBlock) (hb7 : Below base wS w7) (hbS : base ≤ g)
    (ho7 : Kd.R k31 31 w7 base (fun q => (encSV Vi).ownBlock = some q ∨ g < q) (.slice A7 n7 c7) F7) :
    (w7.cell? ⟨g, i, none⟩ = some (encSV s2) ∧ w7.frozen? ⟨g, i, none⟩ = false ∧ g < w7.heap.size) ∧
    Aside0 (Kd.R kSV 71 (w7.setCell ⟨g, i, none⟩ (.slice A7 n7 c7)) base (fun q => q = g) (.slice (some ⟨g, 0, none⟩) 5 5) (cur.set i ⟨A7, n7, c7⟩)) ∧
    Aside0 (∀ (j : Nat) (s : SV) (F : List S31), i < j → Vs[j]? = some s → Fs[j]? = some F → Kd.R k31 31 (w7.setCell ⟨g, i, none⟩ (.slice A7 n7 c7)) base (fun q => (encSV s).ownBlock = some q) (encSV s) F) ∧
    Aside0 (Kd.R k31 31 (w7.setCell ⟨g, i, none⟩ (.slice A7 n7 c7)) base (fun q => (encSV Vi).ownBlock = some q ∨ g < q) (.slice A7 n7 c7) F7) ∧
    Aside0 (Below base wS (w7.setCell ⟨g, i, none⟩ (.slice A7 n7 c7))) := by
  have G1 : Kd.R kSV 71 w7 base (fun q => q = g) (.slice (some ⟨g, 0, none⟩) 5 5) cur := Kd.R_step HG (fun q hq hk => hg7.block q hk (fun h2 => by
    subst hq
    rcases hown _ h2.symm with h3 | h3
    · have := hV i Vi hVi _ h3; omega
    · omega))
  have R1 : ∀ (j : Nat) (s : SV) (F : List S31), i < j → Vs[j]? = some s → Fs[j]? = some F → Kd.R k31 31 w7 base (fun q => (encSV s).ownBlock = some q) (encSV s) F := fun j s F a b c => Kd.R_step (HR j s F a b c) (fun q hq hk => hg7.block q hk (fun h2 => by
    rcases hown _ h2.symm with h3 | h3
    · exact hd j s a b q h3 q hq rfl
    · have := hV j s b q hq; omega))
  obtain ⟨x1, x2⟩ := cellSV G1 i s2 hs2 hi
  have x3 := Kd.R_lt G1 g rfl
  have G2 : Kd.R kSV 71 (w7.setCell ⟨g, i, none⟩ (.slice A7 n7 c7)) base (fun q => q = g) (.slice (some ⟨g, 0, none⟩) 5 5) (cur.set i ⟨A7, n7, c7⟩) := by
    obtain ⟨c, hcl, hM, hcc, hf⟩ := Kd.R_elem G1 (⟨none, 0, 0⟩ : SV) (i : Int) (by omega) (by omega)
    have h1 := (Kd.R_seg G1 (i : Int) (by omega) (by omega) (seg := [.slice A7 n7 c7]) (j := 0) (okp := fun k => k = g ∧ k ≠ g) (x' := (⟨A7, n7, c7⟩ : SV)) hcl hcc (by show 0 + 1 ≤ 1; omega) (by
      have hc1 : c.length = 1 := hcl
      show c.take 0 ++ [Value.slice A7 n7 c7] ++ c.drop (0 + 1) = [encSV ⟨A7, n7, c7⟩]
      rw [List.take_zero, List.drop_of_length_le (by omega)]
      rfl) (fun k hk => hk)).1
    rw [Int.toNat_natCast] at h1
    have e : i * kSV.sz + 0 = i := by show i * 1 + 0 = i; omega
    rw [e] at h1
    exact h1
  refine ⟨⟨x1, x2, x3⟩, ⟨G2⟩, ⟨fun j s F a b c => Kd.R_far (R1 j s F a b c) (p := ⟨g, i, none⟩) (fun q hq => ?_) _⟩, ⟨Kd.R_far ho7 (p := ⟨g, i, none⟩) (fun q hq => ?_) _⟩, ⟨hb7.setCell (p := ⟨g, i, none⟩) hbS _⟩⟩
  · have := hV j s b q hq
    show q ≠ g
    omega
  · show q ≠ g
    rcases hq with h3 | h3
    · have := hV i Vi hVi _ h3; omega
    · omega

set_option maxHeartbeats 4000000 in
set_option maxRecDepth 100000 in
theorem sets1 (A0 : Option Addr) (c0 : Nat) (l0 : List S31) (A1 : Option Addr) (c1 : Nat) (l1 : List S31) (m x : Int) (w : World) (k : Nat)
    (hr0 : Kd.C k31 w A0 l0.length l0) (hc0 : l0.length ≤ c0) (hr1 : Kd.C k31 w A1 l1.length l1) (hc1 : l1.length ≤ c1)
    (hl0 : l0.length ≤ 200) (hl1 : l1.length ≤ 200)
    (F0 F1 F2 F3 F4 : List S31) (hFs5 : ∀ (j : Nat) (F : List S31), [F0, F1, F2, F3, F4][j]? = some F → F.length ≤ 1000000000)
    (r0 : waymarkref02_Form.f k l0 = some F0) (r1 : waymarkref02_Or.f k l0 l1 = some F1) (r2 : waymarkref02_And.f k l0 l1 = some F2) (r3 : waymarkref02_Less.f k l0 l1 = some F3) (r4 : waymarkref02_Not.f k l0 m = some F4)
    (e0 : waymarkref02_Spans.f k F0 F0 = some true) (e1 : waymarkref02_Spans.f k F1 F1 = some true) (e2 : waymarkref02_Spans.f k F2 F2 = some true) (e3 : waymarkref02_Spans.f k F3 F3 = some true) (e4 : waymarkref02_Spans.f k F4 F4 = some true)
    (e5 : waymarkref02_Spans.f k l0 l0 = some true) (e6 : waymarkref02_Spans.f k l1 l1 = some true) (p : Bool) (p0 : spans_Has.f l0 x = some p) (p1 : waymarkref02_Has.f k l0 x = some p)
    (s0 : spans_Form.f k l0 = some F0) (s1 : spans_Or.f k l0 l1 = some F1) (s2 : spans_And.f k l0 l1 = some F2) (s3 : spans_Less.f k l0 l1 = some F3) (s4 : spans_Not.f k l0 m = some F4) :
    Calls Try.prog 7 #[.slice A0 l0.length c0, .slice A1 l1.length c1, .int .u32 m, .int .u32 x] w fun e w' => e = .returned (.bool true) ∧ Below w.heap.size w w' := by
  have hlarge : waymarklaw02_large.f l0 l1 = some false := by
    unfold waymarklaw02_large.f
    rw [if_neg (by omega), decide_eq_false (by omega)]
  have hr0a := Aside0.mk hr0
  have hr1a := Aside0.mk hr1
  have hLG := fun W => fun (hb : Below w.heap.size w W) => waymarklaw02_large.calls A0 c0 l0 A1 c1 l1 false W (Kd.C_below hr0 hb) hc0 (Kd.C_below hr1 hb) hc1 hlarge
  have hl0' : l0.length ≤ 9223372036854775807 := hr0.2.1
  go_enter Try.func7, Try.ntmps7
  go_wp2_with (first | (go_at_call 34; refine (hLG _ (by repeat (first | exact Below.refl _ _ | apply pw_below_drewN | apply below_drew1))).mono ?_; rintro e w1 ⟨rfl, hd1⟩; have hb1 := Aside0.mk (Below.trans (show Below w.heap.size w _ from by repeat (first | exact Below.refl _ _ | apply pw_below_drewN | apply below_drew1)) (hd1.below.mono (Nat.le_refl _))); clear hd1) | ((with_reducible refine gate_builtin (b := .append) (xs := #[.tmp 25, .tmp 26]) rfl ?_); at_builtin; refine Kd.R_append_rows k31 (w0 := w) w.heap.size rfl (.tmp 25) (.tmp 26) 71 31 (.agg #[(.int .u32 0), (.int .u32 0)]) 8 rfl Try.underlying71 info31 rfl (by decide) (by omega) (.slice (some ⟨w1.heap.size, 0, none⟩) 0 0) [] l0 A0 l0.length c0 (fun _ => True) (fun _ => False) rfl rfl ?aO ?aR (fun _ _ h => h) (fun _ h => h.elim) (fun _ _ => trivial) ?aB ?aS ?aL ?_; (case aO => exact R_empty w1 _ hb1.out.size); (case aR => exact Kd.C_below hr0a.out (below_alloc hb1.out _)); (case aB => exact below_alloc hb1.out _); (case aS => exact (below_alloc hb1.out _).size); (case aL => show (0 + l0.length) * 8 ≤ _; omega); intro v2 w2 ho2 hb2 hg hat; have ho2_ := Aside0.mk ho2; have hb2_ := Aside0.mk hb2; clear hg hat ho2 hb2; have ho2 := ho2_; have hb2 := hb2_; clear ho2_ hb2_) | ((with_reducible refine gate_builtin (b := .append) (xs := #[.tmp 27, .tmp 29]) rfl ?_); at_builtin; refine Kd.R_append k31 (w0 := w) w.heap.size rfl (.tmp 27) (.tmp 29) 71 31 (.agg #[(.int .u32 0), (.int .u32 0)]) 8 rfl Try.underlying71 info31 rfl (by decide) (by omega) v2 ([] ++ l0) (⟨7, 7⟩ : S31) [.int .u32 7, .int .u32 7] (fun _ => True) (fun _ => False) rfl rfl ?aP (fun _ hk => hk.elim) (fun _ _ => trivial) ho2.out hb2.out hb2.out.size ?aL ?_; (case aP => exact k31_mkM _ _ _ (⟨7, 7⟩ : S31)); (case aL => show (l0.length + 1) * 8 ≤ _; omega); intro v3 w3 ho3 hb3 hg hat; clear hg hat; obtain ⟨gi, ci, eo, hgb, hgl, hgc⟩ := Kd.R_form ho3 (by simp); subst eo; have hci : l0.length + 1 ≤ ci := (by have h_ := (Kd.R_reads' ho3).2.1; simpa using h_); have ho3_ := Aside0.mk ho3; have hb3_ := Aside0.mk hb3; clear hgc ho3 hb3; have ho3 := ho3_; have hb3 := hb3_; clear ho3_ hb3_) | ((with_reducible refine gate_builtin (b := .append) (xs := #[.tmp 33, .tmp 34]) rfl ?_); at_builtin; refine Kd.R_append_rows k31 (w0 := w3) w3.heap.size rfl (.tmp 33) (.tmp 34) 71 31 (.agg #[(.int .u32 0), (.int .u32 0)]) 8 rfl Try.underlying71 info31 rfl (by decide) (by omega) (.slice (some ⟨w3.heap.size, 0, none⟩) 0 0) [] l1 A1 l1.length c1 (fun _ => True) (fun _ => False) rfl rfl ?aO ?aR (fun _ _ h => h) (fun _ h => h.elim) (fun _ _ => trivial) ?aB ?aS ?aL ?_; (case aO => exact R_empty w3 _ (Nat.le_refl _)); (case aR => exact Kd.C_below hr1a.out (below_alloc hb3.out _)); (case aB => exact below_alloc (Below.refl _ _) _); (case aS => exact (below_alloc (Below.refl w3.heap.size w3) _).size); (case aL => show (0 + l1.length) * 8 ≤ _; omega); intro v5 w5 ho5 hb5 hg hat; obtain ⟨Ao, co, rfl, hco, hCo⟩ := Kd.R_reads ho5; have hB5 := Aside0.mk (hb3.out.trans (hb5.mono hb3.out.size)); have hin5 := Aside0.mk (Kd.R_below ho3.out hb5); have hown5 := Aside0.mk hCo; clear hg hat ho5 hb5 ho3 hCo) | (go_at_call 37; refine (waymarkref02_Form.calls k A0 c0 l0 F0 w5 (Kd.C_below hr0a.out hB5.out) hc0 r0).mono ?_; rintro e w6 ⟨v6, rfl, ho6, hb6⟩; obtain ⟨Aw0, cw0, rfl, hcw0, hCw0⟩ := Kd.R_reads ho6; have hB6 := Aside0.mk (hB5.out.trans (hb6.mono hB5.out.size)); have hin6 := Aside0.mk (Kd.R_below hin5.out hb6); have hown6 := Aside0.mk (Kd.C_below hown5.out hb6);  have hw0 := Aside0.mk hCw0; clear ho6 hCw0 hb6 hin5 hown5) | (go_at_call 43; refine (waymarkref02_Or.calls k A0 c0 l0 A1 c1 l1 F1 w6 (Kd.C_below hr0a.out hB6.out) hc0 (Kd.C_below hr1a.out hB6.out) hc1 r1).mono ?_; rintro e w7 ⟨v7, rfl, ho7, hb7⟩; obtain ⟨Aw1, cw1, rfl, hcw1, hCw1⟩ := Kd.R_reads ho7; have hB7 := Aside0.mk (hB6.out.trans (hb7.mono hB6.out.size)); have hin7 := Aside0.mk (Kd.R_below hin6.out hb7); have hown7 := Aside0.mk (Kd.C_below hown6.out hb7); have hw0_ := Aside0.mk (Kd.C_below hw0.out hb7); clear hw0; have hw0 := hw0_; clear hw0_; have hw1 := Aside0.mk hCw1; clear ho7 hCw1 hb7 hin6 hown6) | (go_at_call 44; refine (waymarkref02_And.calls k A0 c0 l0 A1 c1 l1 F2 w7 (Kd.C_below hr0a.out hB7.out) hc0 (Kd.C_below hr1a.out hB7.out) hc1 r2).mono ?_; rintro e w8 ⟨v8, rfl, ho8, hb8⟩; obtain ⟨Aw2, cw2, rfl, hcw2, hCw2⟩ := Kd.R_reads ho8; have hB8 := Aside0.mk (hB7.out.trans (hb8.mono hB7.out.size)); have hin8 := Aside0.mk (Kd.R_below hin7.out hb8); have hown8 := Aside0.mk (Kd.C_below hown7.out hb8); have hw0_ := Aside0.mk (Kd.C_below hw0.out hb8); clear hw0; have hw0 := hw0_; clear hw0_; have hw1_ := Aside0.mk (Kd.C_below hw1.out hb8); clear hw1; have hw1 := hw1_; clear hw1_; have hw2 := Aside0.mk hCw2; clear ho8 hCw2 hb8 hin7 hown7) | (go_at_call 45; refine (waymarkref02_Less.calls k A0 c0 l0 A1 c1 l1 F3 w8 (Kd.C_below hr0a.out hB8.out) hc0 (Kd.C_below hr1a.out hB8.out) hc1 r3).mono ?_; rintro e w9 ⟨v9, rfl, ho9, hb9⟩; obtain ⟨Aw3, cw3, rfl, hcw3, hCw3⟩ := Kd.R_reads ho9; have hB9 := Aside0.mk (hB8.out.trans (hb9.mono hB8.out.size)); have hin9 := Aside0.mk (Kd.R_below hin8.out hb9); have hown9 := Aside0.mk (Kd.C_below hown8.out hb9); have hw0_ := Aside0.mk (Kd.C_below hw0.out hb9); clear hw0; have hw0 := hw0_; clear hw0_; have hw1_ := Aside0.mk (Kd.C_below hw1.out hb9); clear hw1; have hw1 := hw1_; clear hw1_; have hw2_ := Aside0.mk (Kd.C_below hw2.out hb9); clear hw2; have hw2 := hw2_; clear hw2_; have hw3 := Aside0.mk hCw3; clear ho9 hCw3 hb9 hin8 hown8) | (go_at_call 46; refine (waymarkref02_Not.calls k A0 c0 l0 m F4 w9 (Kd.C_below hr0a.out hB9.out) hc0 r4).mono ?_; rintro e w10 ⟨v10, rfl, ho10, hb10⟩; obtain ⟨Aw4, cw4, rfl, hcw4, hCw4⟩ := Kd.R_reads ho10; have hB10 := Aside0.mk (hB9.out.trans (hb10.mono hB9.out.size)); have hin10 := Aside0.mk (Kd.R_below hin9.out hb10); have hown10 := Aside0.mk (Kd.C_below hown9.out hb10); have hw0_ := Aside0.mk (Kd.C_below hw0.out hb10); clear hw0; have hw0 := hw0_; clear hw0_; have hw1_ := Aside0.mk (Kd.C_below hw1.out hb10); clear hw1; have hw1 := hw1_; clear hw1_; have hw2_ := Aside0.mk (Kd.C_below hw2.out hb10); clear hw2; have hw2 := hw2_; clear hw2_; have hw3_ := Aside0.mk (Kd.C_below hw3.out hb10); clear hw3; have hw3 := hw3_; clear hw3_; have hw4 := Aside0.mk hCw4; clear ho10 hCw4 hb10 hin9 hown9))
  have hinC : ∀ W, Below w10.heap.size w10 W → Kd.C k31 W (some ⟨gi, 0, none⟩) l0.length l0 := fun W hb => by
    have h := (Kd.R_reads' (Kd.R_below hin10.out hb)).2.2
    exact ⟨rfl, hl0', fun hp => by
      obtain ⟨ad, ha, hx⟩ := h.2.2 (by simp)
      exact ⟨ad, ha, fun j p hj => hx j p (by simp only [List.nil_append]; rw [List.getElem?_append_left (List.getElem?_eq_some_iff.1 hj).1]; exact hj)⟩⟩
  have hownC : ∀ W, Below w10.heap.size w10 W → Kd.C k31 W Ao l1.length l1 := fun W hb => Kd.C_below hown10.out hb
  have hci_ : l0.length ≤ ci := by omega
  have hco_ : l1.length ≤ co := hco
  have Hwz := Aside0.mk (below_alloc (Below.refl w10.heap.size w10) (.cells #[.slice Aw0 F0.length cw0, .slice Aw1 F1.length cw1, .slice Aw2 F2.length cw2, .slice Aw3 F3.length cw3, .slice Aw4 F4.length cw4] 71))
  have Hwr := Aside0.mk (blk_new w10 (.cells #[.slice Aw0 F0.length cw0, .slice Aw1 F1.length cw1, .slice Aw2 F2.length cw2, .slice Aw3 F3.length cw3, .slice Aw4 F4.length cw4] 71))
  generalize hw11 : w10.alloc (.cells #[.slice Aw0 F0.length cw0, .slice Aw1 F1.length cw1, .slice Aw2 F2.length cw2, .slice Aw3 F3.length cw3, .slice Aw4 F4.length cw4] 71) = w11 at Hwz Hwr ⊢
  clear hw11
  have Haz := Hwz
  have Hab11 := Aside0.mk (Below.refl w11.heap.size w11)
  refine wp_loop_rounds 3 ?_
  rw [rounds_succ]
  go_wp2_with (first | (go_at_call 47; refine (spans_Form.calls k (some ⟨gi, 0, none⟩) ci l0 F0 w11 (hinC _ Haz.out) hci_ s0).mono ?_; rintro e aq0 ⟨v, rfl, ho, hb⟩; obtain ⟨Aa0, ca0, rfl, hca0, hC⟩ := Kd.R_reads ho; have Hab0 := Aside0.mk (Haz.out.trans (hb.mono Haz.out.size));  have har0 := Aside0.mk ho; have hx_ := Aside0.mk (Hab11.out.trans (hb.mono Hab11.out.size)); clear Hab11; have Hab11 := hx_; clear hx_; clear ho hC hb) | (go_at_call 48; refine (spans_Or.calls k (some ⟨gi, 0, none⟩) ci l0 Ao co l1 F1 aq0 (hinC _ Hab0.out) hci_ (hownC _ Hab0.out) hco_ s1).mono ?_; rintro e aq1 ⟨v, rfl, ho, hb⟩; obtain ⟨Aa1, ca1, rfl, hca1, hC⟩ := Kd.R_reads ho; have Hab1 := Aside0.mk (Hab0.out.trans (hb.mono Hab0.out.size)); have hx_ := Aside0.mk (Kd.R_below har0.out hb); clear har0; have har0 := hx_; clear hx_; have har1 := Aside0.mk ho; have hx_ := Aside0.mk (Hab11.out.trans (hb.mono Hab11.out.size)); clear Hab11; have Hab11 := hx_; clear hx_; clear ho hC hb) | (go_at_call 49; refine (spans_And.calls k (some ⟨gi, 0, none⟩) ci l0 Ao co l1 F2 aq1 (hinC _ Hab1.out) hci_ (hownC _ Hab1.out) hco_ s2).mono ?_; rintro e aq2 ⟨v, rfl, ho, hb⟩; obtain ⟨Aa2, ca2, rfl, hca2, hC⟩ := Kd.R_reads ho; have Hab2 := Aside0.mk (Hab1.out.trans (hb.mono Hab1.out.size)); have hx_ := Aside0.mk (Kd.R_below har0.out hb); clear har0; have har0 := hx_; clear hx_; have hx_ := Aside0.mk (Kd.R_below har1.out hb); clear har1; have har1 := hx_; clear hx_; have har2 := Aside0.mk ho; have hx_ := Aside0.mk (Hab11.out.trans (hb.mono Hab11.out.size)); clear Hab11; have Hab11 := hx_; clear hx_; clear ho hC hb) | (go_at_call 50; refine (spans_Less.calls k (some ⟨gi, 0, none⟩) ci l0 Ao co l1 F3 aq2 (hinC _ Hab2.out) hci_ (hownC _ Hab2.out) hco_ s3).mono ?_; rintro e aq3 ⟨v, rfl, ho, hb⟩; obtain ⟨Aa3, ca3, rfl, hca3, hC⟩ := Kd.R_reads ho; have Hab3 := Aside0.mk (Hab2.out.trans (hb.mono Hab2.out.size)); have hx_ := Aside0.mk (Kd.R_below har0.out hb); clear har0; have har0 := hx_; clear hx_; have hx_ := Aside0.mk (Kd.R_below har1.out hb); clear har1; have har1 := hx_; clear hx_; have hx_ := Aside0.mk (Kd.R_below har2.out hb); clear har2; have har2 := hx_; clear hx_; have har3 := Aside0.mk ho; have hx_ := Aside0.mk (Hab11.out.trans (hb.mono Hab11.out.size)); clear Hab11; have Hab11 := hx_; clear hx_; clear ho hC hb) | (go_at_call 51; refine (spans_Not.calls k (some ⟨gi, 0, none⟩) ci l0 m F4 aq3 (hinC _ Hab3.out) hci_ s4).mono ?_; rintro e aq4 ⟨v, rfl, ho, hb⟩; obtain ⟨Aa4, ca4, rfl, hca4, hC⟩ := Kd.R_reads ho; have Hab4 := Aside0.mk (Hab3.out.trans (hb.mono Hab3.out.size)); have hx_ := Aside0.mk (Kd.R_below har0.out hb); clear har0; have har0 := hx_; clear hx_; have hx_ := Aside0.mk (Kd.R_below har1.out hb); clear har1; have har1 := hx_; clear hx_; have hx_ := Aside0.mk (Kd.R_below har2.out hb); clear har2; have har2 := hx_; clear hx_; have hx_ := Aside0.mk (Kd.R_below har3.out hb); clear har3; have har3 := hx_; clear hx_; have har4 := Aside0.mk ho; have hx_ := Aside0.mk (Hab11.out.trans (hb.mono Hab11.out.size)); clear Hab11; have Hab11 := hx_; clear hx_; clear ho hC hb))
  have Hagz := Aside0.mk (below_alloc (Below.refl aq4.heap.size aq4) (.cells #[.slice Aa0 F0.length ca0, .slice Aa1 F1.length ca1, .slice Aa2 F2.length ca2, .slice Aa3 F3.length ca3, .slice Aa4 F4.length ca4] 71))
  have Hagr := Aside0.mk (blk_new aq4 (.cells #[.slice Aa0 F0.length ca0, .slice Aa1 F1.length ca1, .slice Aa2 F2.length ca2, .slice Aa3 F3.length ca3, .slice Aa4 F4.length ca4] 71))
  generalize hwg : aq4.alloc (.cells #[.slice Aa0 F0.length ca0, .slice Aa1 F1.length ca1, .slice Aa2 F2.length ca2, .slice Aa3 F3.length ca3, .slice Aa4 F4.length ca4] 71) = wg at Hagz Hagr ⊢
  clear hwg
  obtain ⟨gs, hgs⟩ : ∃ gs : List SV, gs = [⟨Aa0, F0.length, ca0⟩, ⟨Aa1, F1.length, ca1⟩, ⟨Aa2, F2.length, ca2⟩, ⟨Aa3, F3.length, ca3⟩, ⟨Aa4, F4.length, ca4⟩] := ⟨_, rfl⟩
  have Hwg10 : Below w10.heap.size w10 wg := Hab4.out.trans (Hagz.out.mono Hab4.out.size)
  have Hwg11 : Below w11.heap.size w11 wg := Hab11.out.trans (Hagz.out.mono Hab11.out.size)
  have Hwgr : wg.heap[w10.heap.size]? = some (.cells #[.slice Aw0 F0.length cw0, .slice Aw1 F1.length cw1, .slice Aw2 F2.length cw2, .slice Aw3 F3.length cw3, .slice Aw4 F4.length cw4] 71) := blk_below Hwr.out Hwg11
  have pickA : ∀ i : Nat, i < 5 → ∃ (Ag : Option Addr) (cg : Nat) (Aw : Option Addr) (cw : Nat) (F : List S31), wg.cell? ⟨aq4.heap.size, i, none⟩ = some (.slice Ag F.length cg) ∧ wg.cell? ⟨w10.heap.size, i, none⟩ = some (.slice Aw F.length cw) ∧ F.length ≤ cg ∧ F.length ≤ cw ∧ Kd.C k31 wg Ag F.length F ∧ Kd.C k31 wg Aw F.length F ∧ waymarkref02_Spans.f k F F = some true ∧ gs[i]? = some ⟨Ag, F.length, cg⟩ ∧ [F0, F1, F2, F3, F4][i]? = some F := by
    intro i hi
    match i, hi with
    | 0, _ => exact ⟨Aa0, ca0, Aw0, cw0, F0, (blk_cell Hagr.out 0).trans rfl, (blk_cell Hwgr 0).trans rfl, hca0, hcw0, (Kd.R_reads' (Kd.R_below har0.out Hagz.out)).2.2, Kd.C_below hw0.out Hwg10, e0, by rw [hgs]; rfl, rfl⟩
    | 1, _ => exact ⟨Aa1, ca1, Aw1, cw1, F1, (blk_cell Hagr.out 1).trans rfl, (blk_cell Hwgr 1).trans rfl, hca1, hcw1, (Kd.R_reads' (Kd.R_below har1.out Hagz.out)).2.2, Kd.C_below hw1.out Hwg10, e1, by rw [hgs]; rfl, rfl⟩
    | 2, _ => exact ⟨Aa2, ca2, Aw2, cw2, F2, (blk_cell Hagr.out 2).trans rfl, (blk_cell Hwgr 2).trans rfl, hca2, hcw2, (Kd.R_reads' (Kd.R_below har2.out Hagz.out)).2.2, Kd.C_below hw2.out Hwg10, e2, by rw [hgs]; rfl, rfl⟩
    | 3, _ => exact ⟨Aa3, ca3, Aw3, cw3, F3, (blk_cell Hagr.out 3).trans rfl, (blk_cell Hwgr 3).trans rfl, hca3, hcw3, (Kd.R_reads' (Kd.R_below har3.out Hagz.out)).2.2, Kd.C_below hw3.out Hwg10, e3, by rw [hgs]; rfl, rfl⟩
    | 4, _ => exact ⟨Aa4, ca4, Aw4, cw4, F4, (blk_cell Hagr.out 4).trans rfl, (blk_cell Hwgr 4).trans rfl, hca4, hcw4, (Kd.R_reads' (Kd.R_below har4.out Hagz.out)).2.2, Kd.C_below hw4.out Hwg10, e4, by rw [hgs]; rfl, rfl⟩
  have hgsl : gs.length = 5 := by rw [hgs]; rfl
  clear hgs
  go_loopg [13, 16] 6 (fun kq v13 v16 w' => ∃ i : Nat, i + kq = 6 ∧ i ≤ 5 ∧ v16 = .int .i64 (i : Int) ∧ Aside0 (Kd.R kSV 71 w' wg.heap.size (fun _ => True) v13 (gs.take i)) ∧ Aside0 (Below wg.heap.size wg w'))
  case atStart => exact ⟨0, rfl, by omega, rfl, ⟨Kd.R_nil _ _ _ _ _⟩, ⟨Below.refl _ _⟩⟩
  case round =>
    obtain ⟨i, hik, hi5, rfl, HK, HB⟩ := hrel
    cases gk with
    | zero => exfalso; omega
    | succ k1 =>
      by_cases hi : i < 5
      · obtain ⟨Ag, cg, Aw, cw, F, hx1, hx2, hcg, hcw, hC1, hC2, hS, hgi, hFi⟩ := pickA i hi
        have hy1 := pw_cell_below HB.out hx1
        have hy2 := pw_cell_below HB.out hx2
        have hD1 := Aside0.mk (Kd.C_below hC1 HB.out)
        have hD2 := Aside0.mk (Kd.C_below hC2 HB.out)
        have c1b : decide ((i : Int) < 5) = true := decide_eq_true (by omega)
        have c2b : ((i : Int) < 5) = True := eq_true (by omega)
        clear hx1 hx2 hC1 hC2
        clear r0 r1 r2 r3 r4 s0 s1 s2 s3 s4 e0 e1 e2 e3 e4 hlarge hr0 hr1 hr0a hr1a hLG hb1 ho2 hb2 hb3 hB5 hB6 hB7 hB8 hB9 hw0 hw1 hw2 hw3 hw4 har0 har1 har2 har3 har4 Hab0 Hab1 Hab2 Hab3 Hab4 Hab11 hca0 hca1 hca2 hca3 hca4 hcw0 hcw1 hcw2 hcw3 hcw4 Hwz Hwr Haz Hagz Hagr Hwg10 Hwg11 Hwgr pickA hinC hownC
        go_wp2
        go_quiet ((go_at_call 42; exact quiet_drawn (waymarkref02_Spans.calls k Ag cg F Aw cw F true _ (Kd.C_drewN hD1.out _) hcg (Kd.C_drewN hD2.out _) hcw hS)))
        have HK2 := Aside0.mk (Kd.R_drewN HK.out nq)
        have HB2 := Aside0.mk (pw_below_drewN HB.out nq)
        have hy3 : (wr.drewN nq).cell? ⟨aq4.heap.size, i, none⟩ = some (.slice Ag F.length cg) := hy1
        clear HK HB hy1 hy2 hD1 hD2
        have haL : ((gs.take i).length + 1) * 24 ≤ 140737488355328 := by
          have h_ : (gs.take i).length ≤ 5 := by rw [List.length_take]; omega
          omega
        have htk : gs.take i ++ [(⟨Ag, F.length, cg⟩ : SV)] = gs.take (i + 1) := by
          have hil : i < gs.length := by omega
          rw [List.take_succ_eq_append_getElem hil]
          rw [List.getElem?_eq_getElem hil] at hgi
          rw [Option.some.inj hgi]
        generalize wr.drewN nq = wn at HK2 HB2 hy3 ⊢
        go_wp2_with (first | ((with_reducible refine gate_builtin (b := .append) (xs := #[.tmp 88, .tmp 93]) rfl ?_); at_builtin; refine Kd.R_append kSV (w0 := wg) wg.heap.size rfl (.tmp 88) (.tmp 93) 84 71 (.slice none 0 0) 24 rfl Try.underlying84 info71p rfl (by decide) (by omega) u13 (gs.take i) (⟨Ag, F.length, cg⟩ : SV) [.slice Ag F.length cg] (fun _ => True) (fun _ => False) rfl rfl rfl (fun _ hk => hk.elim) (fun _ _ => trivial) HK2.out HB2.out HB2.out.size haL ?_; intro v4 w4 ho4 hb4 hg hat; rw [htk] at ho4; have hK4 := Aside0.mk ho4; have hB4 := Aside0.mk hb4; clear hg hat ho4 hb4))
        go_roundg k1
        case measure => omega
        case rel => exact ⟨i + 1, by omega, by omega, by first | rfl | (simp; done) | go_num, ⟨hK4.out⟩, ⟨hB4.out⟩⟩
      · obtain rfl : i = 5 := by omega
        have c1b : decide (((5 : Nat) : Int) < 5) = false := by decide
        go_wp2
        have hw10r : Below w10.heap.size w10 wr := Hwg10.trans (HB.out.mono Hwg10.size)
        have hgs5 : gs.take 5 = gs := List.take_of_length_le (by omega)
        rw [hgs5] at HK
        obtain ⟨gk, ck, eo, hgkb, hgkl, hgkc⟩ := Kd.R_form HK.out (by omega)
        subst eo
        clear hgkc
        have pickB : ∀ i : Nat, i < 5 → ∃ (Ak : Option Addr) (ckk : Nat) (Aw : Option Addr) (cw : Nat) (F : List S31), wr.cell? ⟨gk, i, none⟩ = some (.slice Ak F.length ckk) ∧ wr.cell? ⟨w10.heap.size, i, none⟩ = some (.slice Aw F.length cw) ∧ F.length ≤ ckk ∧ F.length ≤ cw ∧ Kd.C k31 wr Ak F.length F ∧ Kd.C k31 wr Aw F.length F ∧ waymarkref02_Spans.f k F F = some true ∧ [F0, F1, F2, F3, F4][i]? = some F := by
          intro i hi
          obtain ⟨Ag, cg, Aw, cw, F, hx1, hx2, hcg, hcw, hC1, hC2, hS, hgi, hFi⟩ := pickA i hi
          obtain ⟨c, hc1, hM, hcc, hfr⟩ := Kd.R_elem HK.out (⟨none, 0, 0⟩ : SV) (i : Int) (by omega) (by omega)
          have hgd : gs.getD i ⟨none, 0, 0⟩ = ⟨Ag, F.length, cg⟩ := by rw [List.getD_eq_getElem?_getD, hgi]; rfl
          rw [Int.toNat_natCast, hgd] at hM
          have hM' : c = [.slice Ag F.length cg] := hM
          have hk := hcc 0 (.slice Ag F.length cg) (by rw [hM']; rfl)
          rw [Int.toNat_natCast, show i * kSV.sz + 0 = i by show i * 1 + 0 = i; omega] at hk
          exact ⟨Ag, cg, Aw, cw, F, hk, pw_cell_below HB.out hx2, hcg, hcw, Kd.C_below hC1 HB.out, Kd.C_below hC2 HB.out, hS, hFi⟩
        have hinR : ∀ W, Below wr.heap.size wr W → Kd.C k31 W (some ⟨gi, 0, none⟩) l0.length l0 := fun W hb => hinC W (hw10r.trans (hb.mono hw10r.size))
        have hownR : ∀ W, Below wr.heap.size wr W → Kd.C k31 W Ao l1.length l1 := fun W hb => hownC W (hw10r.trans (hb.mono hw10r.size))
        have hwr : Below w.heap.size w wr := hB10.out.trans (hw10r.mono hB10.out.size)
        have hwrA := Aside0.mk hwr
        have hinr := Aside0.mk (Kd.R_below hin10.out hw10r)
        clear hwr r0 r1 r2 r3 r4 hlarge hr0 hr1 hLG hb1 ho2 hb2 hb3 hB5 hB6 hB7 hB8 hB9 hB10 hw0 hw1 hw2 hw3 hw4 har0 har1 har2 har3 har4 Hab0 Hab1 Hab2 Hab3 Hab4 Hab11 hca0 hca1 hca2 hca3 hca4 hcw0 hcw1 hcw2 hcw3 hcw4 Hwz Hwr Haz Hagz Hagr Hwg10 Hwg11 Hwgr pickA hinC hownC hw10r HK HB hgs5 hin10 hown10
        have Hbz := Aside0.mk (Below.refl wr.heap.size wr)
        rw [rounds_succ]
        go_wp2_with (first | (go_at_call 47; refine (spans_Form.calls k (some ⟨gi, 0, none⟩) ci l0 F0 wr (hinR _ Hbz.out) hci_ s0).mono ?_; rintro e bq0 ⟨v, rfl, ho, hb⟩; obtain ⟨Ab0, cb0, rfl, hcb0, hC⟩ := Kd.R_reads ho; have Hbb0 := Aside0.mk (Hbz.out.trans (hb.mono Hbz.out.size)); have Lb0 := hb.size;  have hbr0 := Aside0.mk ho; have u0 := Kd.R_lt ho; clear ho hC hb) | (go_at_call 48; refine (spans_Or.calls k (some ⟨gi, 0, none⟩) ci l0 Ao co l1 F1 bq0 (hinR _ Hbb0.out) hci_ (hownR _ Hbb0.out) hco_ s1).mono ?_; rintro e bq1 ⟨v, rfl, ho, hb⟩; obtain ⟨Ab1, cb1, rfl, hcb1, hC⟩ := Kd.R_reads ho; have Hbb1 := Aside0.mk (Hbb0.out.trans (hb.mono Hbb0.out.size)); have Lb1 := hb.size; have hx_ := Aside0.mk (Kd.R_below hbr0.out hb); clear hbr0; have hbr0 := hx_; clear hx_; have hbr1 := Aside0.mk ho; have u1 := Kd.R_lt ho; clear ho hC hb) | (go_at_call 49; refine (spans_And.calls k (some ⟨gi, 0, none⟩) ci l0 Ao co l1 F2 bq1 (hinR _ Hbb1.out) hci_ (hownR _ Hbb1.out) hco_ s2).mono ?_; rintro e bq2 ⟨v, rfl, ho, hb⟩; obtain ⟨Ab2, cb2, rfl, hcb2, hC⟩ := Kd.R_reads ho; have Hbb2 := Aside0.mk (Hbb1.out.trans (hb.mono Hbb1.out.size)); have Lb2 := hb.size; have hx_ := Aside0.mk (Kd.R_below hbr0.out hb); clear hbr0; have hbr0 := hx_; clear hx_; have hx_ := Aside0.mk (Kd.R_below hbr1.out hb); clear hbr1; have hbr1 := hx_; clear hx_; have hbr2 := Aside0.mk ho; have u2 := Kd.R_lt ho; clear ho hC hb) | (go_at_call 50; refine (spans_Less.calls k (some ⟨gi, 0, none⟩) ci l0 Ao co l1 F3 bq2 (hinR _ Hbb2.out) hci_ (hownR _ Hbb2.out) hco_ s3).mono ?_; rintro e bq3 ⟨v, rfl, ho, hb⟩; obtain ⟨Ab3, cb3, rfl, hcb3, hC⟩ := Kd.R_reads ho; have Hbb3 := Aside0.mk (Hbb2.out.trans (hb.mono Hbb2.out.size)); have Lb3 := hb.size; have hx_ := Aside0.mk (Kd.R_below hbr0.out hb); clear hbr0; have hbr0 := hx_; clear hx_; have hx_ := Aside0.mk (Kd.R_below hbr1.out hb); clear hbr1; have hbr1 := hx_; clear hx_; have hx_ := Aside0.mk (Kd.R_below hbr2.out hb); clear hbr2; have hbr2 := hx_; clear hx_; have hbr3 := Aside0.mk ho; have u3 := Kd.R_lt ho; clear ho hC hb) | (go_at_call 51; refine (spans_Not.calls k (some ⟨gi, 0, none⟩) ci l0 m F4 bq3 (hinR _ Hbb3.out) hci_ s4).mono ?_; rintro e bq4 ⟨v, rfl, ho, hb⟩; obtain ⟨Ab4, cb4, rfl, hcb4, hC⟩ := Kd.R_reads ho; have Hbb4 := Aside0.mk (Hbb3.out.trans (hb.mono Hbb3.out.size)); have Lb4 := hb.size; have hx_ := Aside0.mk (Kd.R_below hbr0.out hb); clear hbr0; have hbr0 := hx_; clear hx_; have hx_ := Aside0.mk (Kd.R_below hbr1.out hb); clear hbr1; have hbr1 := hx_; clear hx_; have hx_ := Aside0.mk (Kd.R_below hbr2.out hb); clear hbr2; have hbr2 := hx_; clear hx_; have hx_ := Aside0.mk (Kd.R_below hbr3.out hb); clear hbr3; have hbr3 := hx_; clear hx_; have hbr4 := Aside0.mk ho; have u4 := Kd.R_lt ho; clear ho hC hb))
        have Hbgz := Aside0.mk (below_alloc (Below.refl bq4.heap.size bq4) (.cells #[.slice Ab0 F0.length cb0, .slice Ab1 F1.length cb1, .slice Ab2 F2.length cb2, .slice Ab3 F3.length cb3, .slice Ab4 F4.length cb4] 71))
        have Hbgr : Aside0 (Kd.R kSV 71 (bq4.alloc (.cells #[.slice Ab0 F0.length cb0, .slice Ab1 F1.length cb1, .slice Ab2 F2.length cb2, .slice Ab3 F3.length cb3, .slice Ab4 F4.length cb4] 71)) wr.heap.size (fun q => q = bq4.heap.size) (.slice (some ⟨bq4.heap.size, 0, none⟩) 5 5) [⟨Ab0, F0.length, cb0⟩, ⟨Ab1, F1.length, cb1⟩, ⟨Ab2, F2.length, cb2⟩, ⟨Ab3, F3.length, cb3⟩, ⟨Ab4, F4.length, cb4⟩]) := ⟨R_lit5 bq4 wr.heap.size Hbb4.out.size [⟨Ab0, F0.length, cb0⟩, ⟨Ab1, F1.length, cb1⟩, ⟨Ab2, F2.length, cb2⟩, ⟨Ab3, F3.length, cb3⟩, ⟨Ab4, F4.length, cb4⟩]⟩
        have M0 : ∀ q, (encSV ⟨Ab0, F0.length, cb0⟩).ownBlock = some q → wr.heap.size ≤ q ∧ q < bq0.heap.size := fun q hq => ⟨Kd.R_base hbr0.out q hq, u0 q hq⟩
        have M1 : ∀ q, (encSV ⟨Ab1, F1.length, cb1⟩).ownBlock = some q → bq0.heap.size ≤ q ∧ q < bq1.heap.size := fun q hq => ⟨Kd.R_base hbr1.out q hq, u1 q hq⟩
        have M2 : ∀ q, (encSV ⟨Ab2, F2.length, cb2⟩).ownBlock = some q → bq1.heap.size ≤ q ∧ q < bq2.heap.size := fun q hq => ⟨Kd.R_base hbr2.out q hq, u2 q hq⟩
        have M3 : ∀ q, (encSV ⟨Ab3, F3.length, cb3⟩).ownBlock = some q → bq2.heap.size ≤ q ∧ q < bq3.heap.size := fun q hq => ⟨Kd.R_base hbr3.out q hq, u3 q hq⟩
        have M4 : ∀ q, (encSV ⟨Ab4, F4.length, cb4⟩).ownBlock = some q → bq3.heap.size ≤ q ∧ q < bq4.heap.size := fun q hq => ⟨Kd.R_base hbr4.out q hq, u4 q hq⟩
        have R0 := R_own1 (Kd.R_lower (Kd.R_below hbr0.out Hbgz.out) (show wr.heap.size ≤ _ by omega))
        have R1 := R_own1 (Kd.R_lower (Kd.R_below hbr1.out Hbgz.out) (show wr.heap.size ≤ _ by omega))
        have R2 := R_own1 (Kd.R_lower (Kd.R_below hbr2.out Hbgz.out) (show wr.heap.size ≤ _ by omega))
        have R3 := R_own1 (Kd.R_lower (Kd.R_below hbr3.out Hbgz.out) (show wr.heap.size ≤ _ by omega))
        have R4 := R_own1 (Kd.R_lower (Kd.R_below hbr4.out Hbgz.out) (show wr.heap.size ≤ _ by omega))
        generalize hwb : bq4.alloc (.cells #[.slice Ab0 F0.length cb0, .slice Ab1 F1.length cb1, .slice Ab2 F2.length cb2, .slice Ab3 F3.length cb3, .slice Ab4 F4.length cb4] 71) = wb at Hbgz Hbgr R0 R1 R2 R3 R4 ⊢
        clear hwb
        obtain ⟨Vs, hVs⟩ : ∃ Vs : List SV, Vs = [⟨Ab0, F0.length, cb0⟩, ⟨Ab1, F1.length, cb1⟩, ⟨Ab2, F2.length, cb2⟩, ⟨Ab3, F3.length, cb3⟩, ⟨Ab4, F4.length, cb4⟩] := ⟨_, rfl⟩
        obtain ⟨Fs, hFs⟩ : ∃ Fs : List (List S31), Fs = [F0, F1, F2, F3, F4] := ⟨_, rfl⟩
        have hrows : ∀ (j : Nat) (s : SV) (F : List S31), Vs[j]? = some s → Fs[j]? = some F → Kd.R k31 31 wb wr.heap.size (fun q => (encSV s).ownBlock = some q) (encSV s) F := by
          intro j s F h1 h2
          rw [hVs] at h1
          rw [hFs] at h2
          match j, h1, h2 with
          | 0, h1, h2 => obtain rfl := Option.some.inj h1; obtain rfl := Option.some.inj h2; exact R0
          | 1, h1, h2 => obtain rfl := Option.some.inj h1; obtain rfl := Option.some.inj h2; exact R1
          | 2, h1, h2 => obtain rfl := Option.some.inj h1; obtain rfl := Option.some.inj h2; exact R2
          | 3, h1, h2 => obtain rfl := Option.some.inj h1; obtain rfl := Option.some.inj h2; exact R3
          | 4, h1, h2 => obtain rfl := Option.some.inj h1; obtain rfl := Option.some.inj h2; exact R4
        have hlo : ∀ (j : Nat) (s : SV), Vs[j]? = some s → ∀ q, (encSV s).ownBlock = some q → [wr.heap.size, bq0.heap.size, bq1.heap.size, bq2.heap.size, bq3.heap.size].getD j 0 ≤ q ∧ q < [bq0.heap.size, bq1.heap.size, bq2.heap.size, bq3.heap.size, bq4.heap.size].getD j 0 := by
          intro j s h1
          rw [hVs] at h1
          match j, h1 with
          | 0, h1 => obtain rfl := Option.some.inj h1; exact M0
          | 1, h1 => obtain rfl := Option.some.inj h1; exact M1
          | 2, h1 => obtain rfl := Option.some.inj h1; exact M2
          | 3, h1 => obtain rfl := Option.some.inj h1; exact M3
          | 4, h1 => obtain rfl := Option.some.inj h1; exact M4
        have hVl : Vs.length = 5 := by rw [hVs]; rfl
        have hdist : ∀ (i j : Nat) (s s' : SV), i < j → Vs[i]? = some s → Vs[j]? = some s' → ∀ q, (encSV s).ownBlock = some q → ∀ q', (encSV s').ownBlock = some q' → q' ≠ q := by
          intro i j s s' hij h1 h2 q hq q' hq'
          have a1 := (hlo i s h1 q hq).2
          have a2 := (hlo j s' h2 q' hq').1
          have hj : j < 5 := by rw [← hVl]; exact (List.getElem?_eq_some_iff.1 h2).1
          have hi : i < 4 := by omega
          match i, hi, a1 with
          | 0, _, a1 => match j, hj, hij, a2 with
            | 1, _, _, a2 => simp at a1 a2; omega
            | 2, _, _, a2 => simp at a1 a2; omega
            | 3, _, _, a2 => simp at a1 a2; omega
            | 4, _, _, a2 => simp at a1 a2; omega
          | 1, _, a1 => match j, hj, hij, a2 with
            | 2, _, _, a2 => simp at a1 a2; omega
            | 3, _, _, a2 => simp at a1 a2; omega
            | 4, _, _, a2 => simp at a1 a2; omega
          | 2, _, a1 => match j, hj, hij, a2 with
            | 3, _, _, a2 => simp at a1 a2; omega
            | 4, _, _, a2 => simp at a1 a2; omega
          | 3, _, a1 => match j, hj, hij, a2 with
            | 4, _, _, a2 => simp at a1 a2; omega
        have hdistA := Aside0.mk hdist
        clear hdist
        rw [← hVs] at Hbgr
        have hinRA := Aside0.mk hinR
        have hownRA := Aside0.mk hownR
        have hpB := pickB
        rw [← hFs] at hpB hFs5
        have hFsA := Aside0.mk hFs5
        have hVltA : Aside0 (∀ (j : Nat) (s : SV), Vs[j]? = some s → ∀ q, (encSV s).ownBlock = some q → q < bq4.heap.size) := ⟨by
          intro j s h1
          rw [hVs] at h1
          match j, h1 with
          | 0, h1 => obtain rfl := Option.some.inj h1; intro q hq; have := (M0 q hq).2; omega
          | 1, h1 => obtain rfl := Option.some.inj h1; intro q hq; have := (M1 q hq).2; omega
          | 2, h1 => obtain rfl := Option.some.inj h1; intro q hq; have := (M2 q hq).2; omega
          | 3, h1 => obtain rfl := Option.some.inj h1; intro q hq; have := (M3 q hq).2; omega
          | 4, h1 => obtain rfl := Option.some.inj h1; intro q hq; exact (M4 q hq).2⟩
        have HbW := Aside0.mk (Hbb4.out.trans (Hbgz.out.mono Hbb4.out.size))
        clear pickB hVs hFs hFs5 M0 M1 M2 M3 M4 R0 R1 R2 R3 R4 u0 u1 u2 u3 u4 hbr0 hbr1 hbr2 hbr3 hbr4 Hbb0 Hbb1 Hbb2 Hbb3 Hbb4 Hbgz s0 s1 s2 s3 s4 e0 e1 e2 e3 e4 hcb0 hcb1 hcb2 hcb3 hcb4 hinR hownR Hbz
        obtain ⟨wS, hwS⟩ : ∃ W : World, W = wr := ⟨wr, rfl⟩
        subst hwS
        go_loopg [13, 16] 6 (fun kq v13 v16 w' => ∃ i : Nat, i + kq = 6 ∧ i ≤ 5 ∧ v16 = .int .i64 (i : Int) ∧ v13 = .slice (some ⟨gk, 0, none⟩) 5 ck ∧ ∃ cur : List SV, cur.length = 5 ∧ Aside0 (∀ j : Nat, i ≤ j → cur[j]? = Vs[j]?) ∧ Aside0 (Kd.R kSV 71 w' wS.heap.size (fun q => q = bq4.heap.size) (.slice (some ⟨bq4.heap.size, 0, none⟩) 5 5) cur) ∧ Aside0 (∀ (j : Nat) (s : SV) (F : List S31), i ≤ j → Vs[j]? = some s → Fs[j]? = some F → Kd.R k31 31 w' wS.heap.size (fun q => (encSV s).ownBlock = some q) (encSV s) F) ∧ Aside0 (Below wS.heap.size wS w'))
        case atStart => exact ⟨0, rfl, by omega, rfl, by first | rfl | (rw [hgsl]; done) | (simp [hgsl]; done), Vs, hVl, ⟨fun _ _ => rfl⟩, Hbgr, ⟨fun j s F _ => hrows j s F⟩, HbW⟩
        case round =>
          clear Hbgr hrows HbW
          obtain ⟨i, hik, hi5, rfl, rfl, cur, hcl, Hcur, HG, HR, HB⟩ := hrel
          cases gk with
          | zero => exfalso; omega
          | succ k1 =>
            by_cases hi : i < 5
            · obtain ⟨Ak, ckk, Aw, cw, F, hx1, hx2, hck', hcw', hC1, hC2, hS, hFi⟩ := hpB i hi
              have hVi : Vs[i]? = some Vs[i] := List.getElem?_eq_getElem (by omega)
              have hrow := HR.out i Vs[i] F (Nat.le_refl _) hVi hFi
              obtain ⟨As, cs, hse, hcs, hCs⟩ := Kd.R_reads hrow
              have hci' : cur[i]? = some Vs[i] := (Hcur.out i (Nat.le_refl _)).trans hVi
              obtain ⟨c, hc1, hM, hcc, hfr⟩ := Kd.R_elem HG.out (⟨none, 0, 0⟩ : SV) (i : Int) (by omega) (by omega)
              have hgd : cur.getD i ⟨none, 0, 0⟩ = Vs[i] := by rw [List.getD_eq_getElem?_getD, hci']; rfl
              rw [Int.toNat_natCast, hgd] at hM
              have hM' : c = [encSV Vs[i]] := hM
              have hy1 := hcc 0 (encSV Vs[i]) (by rw [hM']; rfl)
              rw [Int.toNat_natCast, show i * kSV.sz + 0 = i by (show i * 1 + 0 = i; omega), hse] at hy1
              have hy2 := pw_cell_below HB.out hx2
              have hD1 := Aside0.mk hCs
              have hD2 := Aside0.mk (Kd.C_below hC2 HB.out)
              have c1b : decide ((i : Int) < 5) = true := decide_eq_true (by omega)
              have c2b : ((i : Int) < 5) = True := eq_true (by omega)
              have hx1A := Aside0.mk hx1
              have hx2A := Aside0.mk hx2
              have hC1A := Aside0.mk hC1
              have hC2A := Aside0.mk hC2
              have hrowA := Aside0.mk hrow
              have hSA := Aside0.mk hS
              have hloA := Aside0.mk hlo
              have hpBA := Aside0.mk hpB
              clear hx1 hx2 hC1 hC2 hrow hS hlo hpB hCs hM hcc hfr hc1 hM' hgd e5 e6 p0 p1
              go_wp2
              go_quiet ((go_at_call 42; exact quiet_drawn (waymarkref02_Spans.calls k As cs F Aw cw F true _ (Kd.C_drewN hD1.out _) hcs (Kd.C_drewN hD2.out _) hcw' hSA.out)))
              have HG2 := Aside0.mk (Kd.R_drewN HG.out nq)
              have HR2 : Aside0 (∀ (j : Nat) (s : SV) (F : List S31), i ≤ j → Vs[j]? = some s → Fs[j]? = some F → Kd.R k31 31 (wr.drewN nq) wS.heap.size (fun q => (encSV s).ownBlock = some q) (encSV s) F) := ⟨fun j s F a b c => Kd.R_drewN (HR.out j s F a b c) nq⟩
              have HB2 := Aside0.mk (pw_below_drewN HB.out nq)
              have hrow2 := Aside0.mk (Kd.R_drewN hrowA.out nq)
              have hy3 : (wr.drewN nq).cell? ⟨bq4.heap.size, i, none⟩ = some (.slice As F.length cs) := hy1
              clear HG HR HB hrowA hy1 hy2 hD1 hD2
              generalize wr.drewN nq = wn at HG2 HR2 HB2 hrow2 hy3 ⊢
              go_wp2
              go_loopg [17] (F.length + 1) (fun kq v17 w' => ∃ (n : Nat) (F' : List S31), n + kq = F.length + 1 ∧ n ≤ F.length ∧ v17 = .int .i64 (n : Int) ∧ F'.length = F.length ∧ Aside0 (Kd.R kSV 71 w' wS.heap.size (fun q => q = bq4.heap.size) (.slice (some ⟨bq4.heap.size, 0, none⟩) 5 5) cur) ∧ Aside0 (∀ (j : Nat) (s : SV) (F : List S31), i < j → Vs[j]? = some s → Fs[j]? = some F → Kd.R k31 31 w' wS.heap.size (fun q => (encSV s).ownBlock = some q) (encSV s) F) ∧ Aside0 (Kd.R k31 31 w' wS.heap.size (fun q => (encSV Vs[i]).ownBlock = some q) (encSV Vs[i]) F') ∧ Aside0 (Below wS.heap.size wS w'))
              case atStart => exact ⟨0, F, by omega, by omega, rfl, rfl, HG2, ⟨fun j s F a b c => HR2.out j s F (by omega) b c⟩, hrow2, HB2⟩
              case round =>
                clear HG2 HR2 HB2 hrow2 hy3
                obtain ⟨n, F', hnk, hn, rfl, hFl, HG3, HR3, hrow3, HB3⟩ := hrel
                cases gk with
                | zero => exfalso; omega
                | succ k2 =>
                  obtain ⟨c, hc1, hM, hcc, hfr⟩ := Kd.R_elem HG3.out (⟨none, 0, 0⟩ : SV) (i : Int) (by omega) (by omega)
                  have hgd : cur.getD i ⟨none, 0, 0⟩ = Vs[i] := by rw [List.getD_eq_getElem?_getD, hci']; rfl
                  rw [Int.toNat_natCast, hgd] at hM
                  have hM' : c = [encSV Vs[i]] := hM
                  have hz := hcc 0 (encSV Vs[i]) (by rw [hM']; rfl)
                  rw [Int.toNat_natCast, show i * kSV.sz + 0 = i by (show i * 1 + 0 = i; omega), hse] at hz
                  clear hM hM' hcc hfr hc1 hgd
                  have hrowB : (encSV Vs[i]).ownBlock = (Value.slice As F.length cs).ownBlock := by rw [hse]
                  by_cases hn' : n < F.length
                  · have c3b : decide ((n : Int) < (F.length : Int)) = true := decide_eq_true (by omega)
                    have hrow4 := hrow3.out
                    rw [hse] at hrow4
                    obtain ⟨gr, cr, er, hgrb, hgrl, hgrc⟩ := Kd.R_form hrow4 (by omega)
                    injection er with e1_ e2_ e3_
                    clear e2_ e3_
                    subst e1_
                    have hne : gr ≠ bq4.heap.size := by
                      obtain ⟨cells, hcells⟩ := hgrc
                      have h_ := Kd.R_ne HG3.out hcells (by decide)
                      intro h2
                      exact h_ (by rw [h2]; rfl)
                    obtain ⟨⟨cv, hw5⟩, hf6⟩ := cell31 hrow4 n hn'
                    obtain ⟨xs', hxl, hR5⟩ := store99 hrow4 n hn'
                    rw [← hse] at hR5
                    have NHG := Aside0.mk (Kd.R_far HG3.out (p := ⟨gr, n * 2, none⟩) (fun q hq => by subst hq; exact Ne.symm hne) (.int .u32 99))
                    have NHR : Aside0 (∀ (j : Nat) (s : SV) (F : List S31), i < j → Vs[j]? = some s → Fs[j]? = some F → Kd.R k31 31 (wr.setCell ⟨gr, n * 2, none⟩ (.int .u32 99)) wS.heap.size (fun q => (encSV s).ownBlock = some q) (encSV s) F) := ⟨fun j s F a b c => Kd.R_far (HR3.out j s F a b c) (p := ⟨gr, n * 2, none⟩) (fun q hq => hdistA.out i j Vs[i] s a hVi b gr (by rw [hrowB]; rfl) q hq) (.int .u32 99)⟩
                    have NHB := Aside0.mk (HB3.out.setCell (p := ⟨gr, n * 2, none⟩) hgrb (.int .u32 99))
                    have NR := Aside0.mk hR5
                    have hxl' : xs'.length = F.length := by omega
                    clear hR5 hrow4 hgrc hrow3 HG3 HR3 HB3 hFl hrowB hxl hse
                    have hxlA := Aside0.mk hxl'
                    clear hxl'
                    have hF9 : F.length ≤ 1000000000 := hFsA.out i F hFi
                    have hA9 := Aside0.mk (show n + 1 + k2 = F.length + 1 ∧ n + 1 ≤ F.length from by omega)
                    go_wp2
                    go_roundg k2
                    case measure => omega
                    case rel => exact ⟨n + 1, xs', hA9.out.1, hA9.out.2, by go_num, hxlA.out, NHG, NHR, NR, NHB⟩
                  · have hnF : n = F.length := by omega
                    subst hnF
                    have c3b : decide (((F.length : Nat) : Int) < ((F.length : Nat) : Int)) = false := decide_eq_false (by omega)
                    have hFlA := Aside0.mk hFl
                    have hseA := Aside0.mk hse
                    have hz0 := Kd.R_lt HG3.out bq4.heap.size rfl
                    clear hFl hse hn' hrowB
                    go_wp2
                    go_loopg [18] 71 (fun kq v18 w' => ∃ (m : Nat) (F2 : List S31) (cur2 : List SV) (s : SV), m + kq = 71 ∧ m ≤ 70 ∧ v18 = .int .i64 (m : Int) ∧ Aside0 (F2.length = F.length + m) ∧ cur2.length = 5 ∧ Aside0 (cur2[i]? = some s) ∧ Aside0 (∀ j : Nat, i < j → cur2[j]? = Vs[j]?) ∧ Aside0 (Kd.R kSV 71 w' wS.heap.size (fun q => q = bq4.heap.size) (.slice (some ⟨bq4.heap.size, 0, none⟩) 5 5) cur2) ∧ Aside0 (∀ (j : Nat) (s : SV) (F : List S31), i < j → Vs[j]? = some s → Fs[j]? = some F → Kd.R k31 31 w' wS.heap.size (fun q => (encSV s).ownBlock = some q) (encSV s) F) ∧ Aside0 (Kd.R k31 31 w' wS.heap.size (fun q => (encSV Vs[i]).ownBlock = some q ∨ bq4.heap.size < q) (encSV s) F2) ∧ Aside0 (Below wS.heap.size wS w') ∧ bq4.heap.size < w'.heap.size)
                    case atStart => exact ⟨0, F', cur, Vs[i], by omega, by omega, rfl, ⟨by have := hFlA.out; omega⟩, hcl, ⟨hci'⟩, ⟨fun j hj => Hcur.out j (by omega)⟩, HG3, HR3, ⟨Kd.R_mono hrow3.out (fun q hq => Or.inl hq)⟩, HB3, hz0⟩
                    case round =>
                      clear HG3 HR3 hrow3 HB3 hz0 hFlA hz
                      obtain ⟨m, F2, cur2, s2, hmk, hm, rfl, hF2, hcl2, hs2, Hcur2, HG4, HR4, hrow4, HB4, hz4⟩ := hrel
                      cases gk with
                      | zero => exfalso; omega
                      | succ k3 =>
                        obtain ⟨As2, cs2, hse2, hcs2, hCs2⟩ := Kd.R_reads hrow4.out
                        obtain ⟨hz5, hf5⟩ := cellSV HG4.out i s2 hs2.out hi
                        rw [hse2] at hz5
                        have hown : ∀ q, (Value.slice As2 F2.length cs2).ownBlock = some q → (encSV Vs[i]).ownBlock = some q ∨ bq4.heap.size < q := by
                          intro q hq
                          exact hrow4.out.1 q (by rw [hse2]; exact hq)
                        have hF9 : F.length ≤ 1000000000 := hFsA.out i F hFi
                        have hbS : wS.heap.size ≤ bq4.heap.size := Kd.R_base HG4.out bq4.heap.size rfl
                        by_cases hm' : m < 70
                        · have c4b : decide ((m : Int) < 70) = true := decide_eq_true (by omega)
                          have hrow5 := hrow4.out
                          rw [hse2] at hrow5
                          have hrow6 := Aside0.mk hrow5
                          have haL : (F2.length + 1) * 8 ≤ 140737488355328 := by have := hF2.out; omega
                          have hownA := Aside0.mk hown
                          have hfresh : Aside0 (∀ q, wr.heap.size ≤ q → (encSV Vs[i]).ownBlock = some q ∨ bq4.heap.size < q) := ⟨fun q hq => Or.inr (by omega)⟩
                          have hdV : Aside0 (∀ (j : Nat) (s : SV), i < j → Vs[j]? = some s → ∀ q, (encSV Vs[i]).ownBlock = some q → ∀ q', (encSV s).ownBlock = some q' → q' ≠ q) := ⟨fun j s a b => hdistA.out i j Vs[i] s a hVi b⟩
                          clear hown hrow5 hrow4 hCs2 hse2 hF9
                          go_wp2_with (first | ((with_reducible refine gate_builtin (b := .append) (xs := #[.tmp 120, .tmp 122]) rfl ?_); at_builtin; refine Kd.R_append k31 (w0 := wS) wS.heap.size rfl (.tmp 120) (.tmp 122) 71 31 (.agg #[(.int .u32 0), (.int .u32 0)]) 8 rfl Try.underlying71 info31 rfl (by decide) (by omega) (.slice As2 F2.length cs2) F2 (⟨0, 0⟩ : S31) [.int .u32 0, .int .u32 0] (fun q => (encSV Vs[i]).ownBlock = some q ∨ bq4.heap.size < q) (fun _ => False) rfl rfl (k31_mkM _ _ _ (⟨0, 0⟩ : S31)) (fun _ hk => hk.elim) hfresh.out hrow6.out HB4.out HB4.out.size haL ?_; intro v7 w7 ho7 hb7 hg7 hat7; obtain ⟨A7, c7, rfl, hc7, hC7⟩ := Kd.R_reads ho7; obtain ⟨⟨hz8, hf8, hz9⟩, NG, NRs, NR, NB⟩ := step70 hi HG4.out hs2.out HR4.out hdV.out hVltA.out hVi hownA.out hg7 hb7 hbS ho7; clear hat7 hC7 ho7 hb7 hg7 hz5 hf5 HG4 HR4 HB4 hrow6 haL hownA hfresh))
                          have eL : (F2 ++ [(⟨0, 0⟩ : S31)]).length = F2.length + 1 := by simp
                          rw [eL] at NG NRs NR NB
                          have hA8 := Aside0.mk (show m + 1 + k3 = 71 ∧ m + 1 ≤ 70 ∧ F2.length + 1 = F.length + (m + 1) from by have := hF2.out; omega)
                          go_roundg k3
                          case measure => omega
                          case rel => exact ⟨m + 1, F2 ++ [(⟨0, 0⟩ : S31)], cur2.set i ⟨A7, F2.length + 1, c7⟩, ⟨A7, F2.length + 1, c7⟩, hA8.out.1, hA8.out.2.1, by go_num, ⟨by rw [eL]; exact hA8.out.2.2⟩, by rw [List.length_set]; exact hcl2, ⟨List.getElem?_set_self (by omega)⟩, ⟨fun j hj => by rw [List.getElem?_set_ne (by omega)]; exact Hcur2.out j hj⟩, NG, NRs, NR, NB, by simpa using hz9⟩
                        · have hm70 : m = 70 := by omega
                          subst hm70
                          have c4b : decide (((70 : Nat) : Int) < 70) = false := by decide
                          have hF2e : F2.length = F.length + 70 := hF2.out
                          rw [hF2e] at hz5
                          have hy1 := pw_cell_below HB4.out hx1A.out
                          have hy2 := pw_cell_below HB4.out hx2A.out
                          have hD1 := Aside0.mk (Kd.C_below hC1A.out HB4.out)
                          have hD2 := Aside0.mk (Kd.C_below hC2A.out HB4.out)
                          have hwr7 : IntKind.i64.wrap ((F.length : Int) + 70) = (F.length : Int) + 70 := IntWalk.i64_in _ (by omega)
                          have hne7 : (((F.length + 70 : Nat) : Int) != (F.length : Int) + 70) = false := by simp
                          have hne8 : ((F.length : Int) + 70 != (F.length : Int) + 70) = false := by simp
                          have hrowA4 := hrow4
                          clear hown hse2 hcs2 hCs2 hF2e hF2 hf5 hrow4
                          go_wp2
                          go_quiet ((go_at_call 42; exact quiet_drawn (waymarkref02_Spans.calls k Ak ckk F Aw cw F true _ (Kd.C_drewN hD1.out _) hck' (Kd.C_drewN hD2.out _) hcw' hSA.out)))
                          have NG := Aside0.mk (Kd.R_drewN HG4.out nq)
                          have NRs : Aside0 (∀ (j : Nat) (s : SV) (F : List S31), i + 1 ≤ j → Vs[j]? = some s → Fs[j]? = some F → Kd.R k31 31 (wr.drewN nq) wS.heap.size (fun q => (encSV s).ownBlock = some q) (encSV s) F) := ⟨fun j s F a b c => Kd.R_drewN (HR4.out j s F (by omega) b c) nq⟩
                          have NB := Aside0.mk (pw_below_drewN HB4.out nq)
                          have hA7 := Aside0.mk (show i + 1 + k1 = 6 ∧ i + 1 ≤ 5 from by omega)
                          clear HG4 HR4 hrowA4 HB4 hD1 hD2 hy1 hy2 hz5
                          go_wp2
                          go_roundg k1
                          case measure => omega
                          case rel => exact ⟨i + 1, hA7.out.1, hA7.out.2, by go_num, rfl, cur2, hcl2, ⟨fun j hj => Hcur2.out j (by omega)⟩, NG, NRs, NB⟩
            · obtain rfl : i = 5 := by omega
              have c1b : decide (((5 : Nat) : Int) < 5) = false := by decide
              clear hlo hpB HR HG Hcur hcl hVl
              go_wp2
              rw [rounds_succ]
              have hn7 := Kd.R_below hinr.out HB.out
              obtain ⟨c7, hc7, hM7, hx7, hf7⟩ := Kd.R_elem hn7 z31 (l0.length : Int) (by omega) (by simp; omega)
              have h77 : ([] ++ l0 ++ [(⟨7, 7⟩ : S31)]).getD l0.length z31 = (⟨7, 7⟩ : S31) := by simp [List.getD_eq_getElem?_getD]
              rw [Int.toNat_natCast, h77] at hM7
              obtain rfl := k31_openM hM7
              have hy7 : World.cell? wr ⟨gi, l0.length * 2, none⟩ = some (.int .u32 7) := hx7 0 _ rfl
              clear hx7 hf7 hM7 hc7 hn7
              have hI := Aside0.mk (hinRA.out _ HB.out)
              have hO := Aside0.mk (hownRA.out _ HB.out)
              have hA := Aside0.mk (Kd.C_below hr0a.out (hwrA.out.trans (HB.out.mono hwrA.out.size)))
              have hBb := Aside0.mk (Kd.C_below hr1a.out (hwrA.out.trans (HB.out.mono hwrA.out.size)))
              have hBw := Aside0.mk (hwrA.out.trans (HB.out.mono hwrA.out.size))
              have hl7 : l0.length + 1 ≤ ci := hci
              have E5 := Aside0.mk e5
              have E6 := Aside0.mk e6
              have P0 := Aside0.mk p0
              have P1 := Aside0.mk p1
              have hwr7 : IntKind.i64.wrap ((l0.length : Int) + 1) = (l0.length : Int) + 1 := IntWalk.i64_in _ (by omega)
              have tok1 : True := trivial
              have tok2 : True := trivial
              have cw := hBw.out.size
              clear hi hik hi5 hci_ hFsA hVltA hdistA HB hwrA hr0a hr1a hinRA hownRA e5 e6 p0 p1 Lb0 Lb1 Lb2 Lb3 Lb4 hinr
              have hco2 : l1.length ≤ co := hco_
              go_wp2_with (first | (go_at_call 42; have _t1 := tok1; refine (waymarkref02_Spans.calls k (some ⟨gi, 0, none⟩) ci l0 A0 c0 l0 true wr hI.out (by omega) hA.out hc0 E5.out).mono ?_; clear tok1 _t1; rintro e w21 ⟨rfl, ⟨⟨n21, rfl⟩⟩⟩) | (go_at_call 42; have _t2 := tok2; refine (waymarkref02_Spans.calls k Ao co l1 A1 c1 l1 true _ (Kd.C_drewN hO.out _) hco2 (Kd.C_drewN hBb.out _) hc1 E6.out).mono ?_; clear tok2 _t2; rintro e w22 ⟨rfl, ⟨⟨n22, rfl⟩⟩⟩) | (go_at_call 52; refine (spans_Has.calls (some ⟨gi, 0, none⟩) ci l0 x p _ (Kd.C_drewN hI.out _) (by omega) P0.out).mono ?_; rintro e w23 ⟨rfl, hb23⟩; have hb23A := Aside0.mk hb23; have hA23 := Aside0.mk (Kd.C_below (Kd.C_drewN hA.out _) hb23); clear hb23) | (go_at_call 53; refine (waymarkref02_Has.calls k A0 c0 l0 x p w23 hA23.out hc0 P1.out).mono ?_; rintro e w24 ⟨rfl, ⟨⟨n24, rfl⟩⟩⟩))
              go_ret
              refine ⟨?_, pw_below_drewN (below_step (pw_below_drewN hBw.out _) hb23A.out) _⟩
              first | rfl | simp
end Go.Proofs.Ytmoagoopdfpcnaa.Q
